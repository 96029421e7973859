/- Packages ogeeref07,ogeeref08: May;put. -/
import Derived.Test.YtoopepmmepmfnaaGreatDoorZ16
import Derived.Test.YtoopepmmepmfnaaGreatDoorZ12
import Derived.Test.YtoopepmmepmfnaaGreatDoorZ23
set_option linter.unusedVariables false
set_option linter.unusedSimpArgs false
set_option maxRecDepth 100000
set_option maxHeartbeats 16000000
namespace Go.Proofs.YtoopepmmepmfnaaGreatDoor
open Go.RowKit
attribute [local go_sem ↓] Go.wp_at_zero Go.wp_at_succ
theorem apK (l:List UInt8)(v:Int)(w:World)(hl:l.length<=9223372036854775807):
 Calls Tryz.prog 194 #[ah l,af v] w λe w'=>e=.returned (ag (gp l v))/\Bw w w':=by
 obtain⟨n,hn⟩:=aG l.length;have hsz:(bs l).size=n:=by rw[oP,hn]
 obtain⟨M,hM⟩:=aG (gp l v);rw[hM];obtain⟨HM,Hn⟩:=aO hM hn;rw[hn]at hl;clear hM hn;go_enter Tryz.func194,Tryz.ntmps194;have Hb:Hid (Bw w w):=Below.refl _ _;go_wp2_with fail;go_loopw[5] (λx wr=>∃k:Nat,k<=n/\x=af (k:Int)/\((l.take k).all λc=>decide (c.toNat<=127))=true/\Bw w wr) (λx _=>n-(intOf x).toNat);case atStart=>exact⟨0,Nat.zero_le _,rfl,rfl,Hb.out⟩
 case round=>
  clear Hb;obtain⟨k,hk,rfl,hall,pb⟩:=hrel;obtain⟨sA,Hb⟩:=aO hall pb;clear hall pb;by_cases hlt:k<n
  . have hk2:k<l.length:=by rw[Hn.out];exact hlt
    have ix:=Aw l (k:Int) k hk2 rfl;obtain⟨c,hc⟩:∃c:Nat,(l[k]).toNat=c:=⟨_,rfl⟩;rw[hc]at ix;by_cases h1:128<=c
    . have h2:(128:Int)<=(c:Int):=by omega
      have Ag:M=false:=by
       rw[<-HM.out];unfold gp;have:(l.all λc=>decide (c.toNat<=127))=false:=by rw[List.all_eq_false];exact⟨l[k],List.getElem_mem hk2,by simp;omega⟩
       rw[this];rfl
      subst Ag;go_wp2;exact bodyPost_ret (v:=ag false) (by simp[results,Tryz.results194,go_sem]) rfl ⟨rfl,df⟩
    . have h2:¬(128:Int)<=(c:Int):=by omega
      have bX:Hid (((l.take (k+1)).all λc=>decide (c.toNat<=127))=true):=by
       show _=_
       rw[List.take_succ_eq_append_getElem hk2,List.all_append,sA.out];simp;omega
      clear hc;go_wp2;go_roundw;case rel=>exact⟨k+1,by omega,by go_num,bX.out,Hb.out⟩
      case measure=>simp[intOf];omega
  . obtain rfl:k=n:=by omega
    have hme:M=decide ((k:Int)=v):=by rw[<-HM.out];have h:=sA.out;rw[List.take_of_length_le (by rw[Hn.out];exact Nat.le_refl _)]at h;unfold gp;rw[h,Hn.out,Bool.true_and]
    have Ny:=ai hme;clear hme;go_wp2;refine bodyPost_ret (results_tmp rfl _ _ _) rfl ⟨?_,Hb.out⟩;rw[Ny.out];by_cases h:(k:Int)=v<;>simp[h]
theorem ahE (m:List UInt8)(l:List aM)(j:Nat)(h:j<iU m l)(hj:j<l.length):Op.bytesLess l[j].1 m=true:=by
 induction l generalizing j with
 |nil=>simp at hj
 | cons x l ih=>
   unfold iU at h;split at h
   . rename_i hx
     cases j with
     |zero=>exact hx
     |succ j=>exact ih j zo (by simpa using hj)
   . omega
theorem ahF (m:List UInt8)(l:List aM)(h:iU m l<l.length):Op.bytesLess l[iU m l].1 m=false:=by
 induction l with
 |nil=>simp at h
 | cons x l ih=>
   by_cases hx:Op.bytesLess x.1 m=true
   . have e:iU m (x::l)=iU m l+1:=by show(if _ then _ else _)=_;rw[if_pos hx]
     simp only[e]at h⊢;exact ih (by simpa using h)
   . have e:iU m (x::l)=0:=by show(if _ then _ else _)=_;rw[if_neg hx]
     simp only[e];simpa using hx
theorem apf (l:List aM)(x:aM)(k:Nat)(hk:iU x.1 l=k)(h:k<l.length)(e:l[k].1=x.1):iu l x=l.take k++[(x.1,canon (az l[k].2+az x.2))]++l.drop (k+1):=by
 have e1:(l.drop k).head?=some l[k]:=by rw[List.drop_eq_getElem_cons h];rfl
 have e2:(l.drop k).headD default=l[k]:=by rw[List.drop_eq_getElem_cons h];rfl
 rw[ace,hk,e1,e2,if_pos (by rw[Option.map_some,e]),List.append_assoc,List.singleton_append]
theorem SI (l:List aM)(x:aM)(k:Nat)(hk:iU x.1 l=k)(h:∀h:k<l.length,l[k].1≠x.1):iu l x=l.take k++[(x.1,canon (az x.2))]++l.drop k:=by
 rw[ace,hk,if_neg,List.append_assoc,List.singleton_append];intro e;by_cases hl:k<l.length
 . rw[List.drop_eq_getElem_cons hl,List.head?_cons,Option.map_some]at e;exact h hl (Option.some.inj e)
 . rw[List.drop_of_length_le zo]at e;cases e
theorem At.axd {w:World}{a:Option Addr}{ts:List aM}(h:At w a (ts.flatMap aX))(k:Nat):At w a ((ts.take k).flatMap aX):=by
 have e:(ts.take k).flatMap aX++(ts.drop k).flatMap aX=ts.flatMap aX:=by rw[<-List.flatMap_append,List.take_append_drop]
 rcases h with h|⟨b,o,rfl,hc⟩
 . rw[h]at e;exact .inl (List.append_eq_nil_iff.1 e).1
 . by_cases h0:(ts.take k).flatMap aX=[]
   . exact .inl h0
   . refine .inr ⟨b,o,rfl,λj hj=>?_⟩;rw[hc j (by rw[<-e,List.length_append];omega),<-e,List.getElem?_append_left hj]
theorem At.aw9 {w:World}{a:Option Addr}{ts:List aM}(h:At w a (ts.flatMap aX)){n cap:Nat}(k:Nat)(hn:ts.length=n)(hk:k<=n)(hc:n<=cap):At w (if cap=k then a else a.map (·.add (k*4))) ((ts.drop k).flatMap aX):=by
 have h1:=At.cut (size:=4) (n:=n) (k:=k) (cap:=cap) h (by rw[mB,hn]) hk hc;have e:(ts.drop k).flatMap aX=(ts.flatMap aX).drop (k*4):=by
  have e0:ts.flatMap aX=(ts.take k).flatMap aX++(ts.drop k).flatMap aX:=by rw[<-List.flatMap_append,List.take_append_drop]
  rw[e0,List.drop_append_of_le_length (by rw[mB,List.length_take];omega)];have e1:((ts.take k).flatMap aX).length=k*4:=by rw[mB,List.length_take,Nat.min_eq_left zo]
  rw[<-e1,List.drop_length,List.nil_append]
 rw[e];exact h1
theorem apU (a:Option Addr)(n cap:Nat)(ts:List aM)(l:List UInt8)(s:Bool)(m:List UInt8)(e:Int)(w:World)(hn:ts.length=n)(hl:n<=65536)(hs:Sl a n cap)(ha:At w a (ts.flatMap aX))(hf:∀t∈ts,dv t.2)(hx:dv (s,m,e)):
 Calls Tryz.prog 193 #[.slice a n cap,.agg #[ah l,ag s,ah m,af e]] w λex w'=>∃v',ex=.returned v'/\w'.ownsRow w.heap.size 93 4 v' (iu ts (l,s,m,e)).length ((iu ts (l,s,m,e)).flatMap aX)/\Bw w w':=by
 obtain⟨i0,hi,hz0,hz1,hz2⟩:=info_parts Tryz.aw6;obtain⟨A,hA⟩:=aG (iU l ts);have hAn:A<=n:=by rw[<-hA,<-hn];exact ahD _ _
 have hgo:∀j (h:j<ts.length),j<A->Op.bytesLess ts[j].1 l=true:=λj h hj=>ahE l ts j zo h;have hst:∀(h:A<ts.length),Op.bytesLess ts[A].1 l=false:=λh=>by subst hA;exact ahF l ts h
 have Li:=hs.1;obtain⟨Hi,dF,dG,dm,IU,Hgo,bX,Hs,Ha,Hf,jW,Hn⟩:=gB hi hz0 hz1 hz2 hA hgo hst hs ha hf hx hn;clear hi hz0 hz1 hz2 hA hgo hst hs ha hf hx hn;obtain⟨W,cg,Hb,Hx⟩:=fJ w 93 [ah l,ag s,ah m,af e];obtain⟨x0,x1,x2,x3⟩:=Hx.out.c4;go_enter Tryz.func193,Tryz.ntmps193;go_wp2_with fail;go_loopw[5] (λx wr=>∃k:Nat,k<=A/\x=af (k:Int)/\ar wr w.heap.size 93 [ah l,ag s,ah m,af e]/\Bw w wr) (λx _=>n-(intOf x).toNat);case atStart=>exact⟨0,Nat.zero_le _,rfl,Hx.out,Hb.out⟩
 case round=>
  clear x0 x1 x2 x3 Hx Hb;obtain⟨k,hk,rfl,px,pb⟩:=hrel;obtain⟨Hx,Hb⟩:=aO px pb;clear px pb;by_cases hlt:k<A
  . have hkn:k<n:=by omega
    have hk2:k<ts.length:=by rw[Hn.out];exact hkn
    obtain⟨l',s',m',e',hx'⟩:∃l s m e,ts[k]=(l,s,m,e):=⟨_,_,_,_,rfl⟩;obtain⟨b,o,rfl,dH⟩:=(Ha.out.below Hb.out).term k hk2 hx';have bK:=kP n cap k (k:Int) (rfl:(some ⟨b,o,none⟩:Option Addr)=_) hkn rfl;have uF:Op.bytesLess (bs l').toList (bs l).toList=true:=by rw[gu,gu];have:=Hgo.out k hk2 hlt;rw[hx']at this;exact this
    have Ht:Hid (bH wr b (o+k*4) [ah l',ag s',ah m',af e']):=dH;clear dH hx';obtain⟨x0,x1,x2,x3⟩:=Hx.out.c4;obtain⟨t0,t1,t2,t3⟩:=Ht.out.w4;have nU:decide ((k:Int)<(n:Int))=true:=by simp;omega
    go_wp2_with fail;refine bR (λw'=>aC w' (w.heap.size) 0 (ah l)/\aC w' b (o+k*4) (ah l')) (λi=>Nat.blt i 100000) [(0,true),(1,true),(2,true),(3,true),(4,true),(5,true),(6,true),(7,true),(8,true),(9,true),(10,true),(11,true),(12,true),(13,true)] zk zk rfl zk zc ⟨x0,t0⟩ ?_;iterate 14 (refine pT rfl rfl ?_ (by intro w' ⟨q0,q1⟩;go_simp;try with_reducible rfl);try simp only[UU])
    simp only[bi];go_wp2;go_roundw;case rel=>exact⟨k+1,by omega,by go_num,Hx.out,Hb.out.drew⟩
    case measure=>simp[intOf];omega
  . obtain rfl:k=A:=by omega
    have hkc:k<=cap:=by omega
    by_cases hkn:k<n
    . have hk2:k<ts.length:=by rw[Hn.out];exact hkn
      obtain⟨l',s',m',e',hx'⟩:∃l s m e,ts[k]=(l,s,m,e):=⟨_,_,_,_,rfl⟩;obtain⟨b,o,rfl,dH⟩:=(Ha.out.below Hb.out).term k hk2 hx';have bK:=kP n cap k (k:Int) (rfl:(some ⟨b,o,none⟩:Option Addr)=_) hkn rfl;have uF:Op.bytesLess (bs l').toList (bs l).toList=false:=by rw[gu,gu];have:=bX.out hk2;rw[hx']at this;exact this
      have lbt:b<w.heap.size:=by obtain⟨b3,o3,h3,hw3⟩:=Ha.out.term k hk2 hx';simp only[Option.some.injEq,Addr.mk.injEq,and_true]at h3;obtain⟨rfl,rfl⟩:=h3;exact World.block_lt_of_cell? w _ (hw3.cell 0 zm)
      have Ht:Hid (bH wr b (o+k*4) [ah l',ag s',ah m',af e']):=dH;clear dH;obtain⟨x0,x1,x2,x3⟩:=Hx.out.c4;obtain⟨t0,t1,t2,t3⟩:=Ht.out.w4;have nU:decide ((k:Int)<(n:Int))=true:=by simp;omega
      go_wp2_with fail;refine bR (λw'=>aC w' (w.heap.size) 0 (ah l)/\aC w' b (o+k*4) (ah l')) (λi=>Nat.blt i 100000) [(0,true),(1,true),(2,true),(3,true),(4,true),(5,true),(6,true),(7,true),(8,true),(9,true),(10,true),(11,true),(12,true),(13,true)] zk zk rfl zk zc ⟨x0,t0⟩ ?_;iterate 14 (refine pT rfl rfl ?_ (by intro w' ⟨q0,q1⟩;go_simp;try with_reducible rfl);try simp only[UU])
      simp only[bi];generalize tv:wr.drew=wd;have xR:ar wd w.heap.size 93 [ah l,ag s,ah m,af e]:=by rw[<-tv];exact Hx.out
      have lW:Bw w wd:=by rw[<-tv];exact Hb.out.drew
      have hpre:((ts.take k).flatMap aX).length=k*4:=by rw[mB,List.length_take,Nat.min_eq_left zo]
      have xw:=Ha.out.below lW;have xu:=xw.axd k;obtain⟨wW,jy,Ee,EC⟩:=dx xR lW xu hpre;have szd:=lW.size;have lxd:=wW.out.lt;clear xR lW xu hpre xw tv x0 x1 x2 x3 t0 t1 t2 t3 Hx Ht Hb;go_wp2_with (at_builtin;refine rp rfl _ _ 89 rfl wd.heap.size 93 i0 _ 4 48 Tryz.underlying89 Hi.out dF.out dG.out dm.out rfl zd _ 0 [] rfl (World.ownsRow_made wd #[] 0 (Nat.le_refl _) (Nat.zero_le _) zm) (some ⟨b,o,none⟩) k cap ((ts.take k).flatMap aX) rfl (Sl.some _ _ _ hkc) EC.out (Ee.out.below ((Below.refl _ wd).alloc (Nat.le_refl _) _)) (tX _) zx zo zm ?_;intro v1 w1 ej hg1 Aj);have hb1:=((Below.refl _ wd).alloc (Nat.le_refl _) _).grown hg1 zm (λk hk=>by have h9:wd.heap.size=k:=Option.some.inj hk;omega);rw[Nat.zero_add,List.nil_append]at ej;obtain⟨av,cv,rfl,_,_⟩:=eo ej;obtain⟨Hx,Hb⟩:=aO (wW.out.below hb1) (aJ jy.out hb1);obtain⟨b2,o2,fA,dH⟩:=(Ha.out.below Hb.out).term k hk2 hx';simp only[Option.some.injEq,Addr.mk.injEq,and_true]at fA;obtain⟨rfl,rfl⟩:=fA;have Ht:Hid (bH w1 b (o+k*4) [ah l',ag s',ah m',af e']):=dH;obtain⟨nH,bW⟩:=aO ej hb1;have hsz1:=hb1.size;have lv:dv (s',m',e'):=by have:=Hf.out _ (List.getElem_mem hk2);rw[hx']at this;exact this
      have hel:ts[k]=(l',s',m',e'):=hx';clear ej hb1 hg1 Aj dH hx' uF;obtain⟨x0,x1,x2,x3⟩:=Hx.out.c4;obtain⟨t0,t1,t2,t3⟩:=Ht.out.w4;go_wp2_with fail;have Kq:((bs l').toList==(bs l).toList)=decide (l'=l):=by rw[gu,gu];by_cases h:l'=l<;>simp[h]
      by_cases he:l'=l
      case neg=>
       rw[decide_eq_false he]at Kq;refine bR (λw'=>aC w' (w.heap.size) 0 (ah l)/\aC w' b (o+k*4) (ah l')) (λi=>Nat.blt i 100000) [(0,true),(1,true),(2,true),(3,true),(4,true),(5,true),(6,true),(7,true),(8,true),(9,true),(10,true),(11,true),(12,true),(13,true)] zk zk rfl zk zc ⟨x0,t0⟩ ?_;iterate 14 (refine pT rfl rfl ?_ (by intro w' ⟨q0,q1⟩;go_simp;try with_reducible rfl);try simp only[UU])
       simp only[bi];have lH:=bW.out.drew;generalize iM:w1.drew=w2;have hx2:ar w2 w.heap.size 93 [ah l,ag s,ah m,af e]:=by rw[<-iM];exact Hx.out
       have hv2:w2.ownsRow wd.heap.size 93 4 (.slice av k cv) k ((ts.take k).flatMap aX):=by rw[<-iM];exact nH.out
       have dD:=ai hv2;replace Hx:=ai hx2;replace Hb:Hid (Bw w2 w2):=Below.refl _ _;have yF:Hid (Bw wd w2):=by rw[<-iM];exact lH
       have tA:=Ha.out.below jy.out;have hz2:wd.heap.size<=w2.heap.size:=by rw[<-iM];exact hsz1
       obtain⟨S,hS⟩:=aG (az (s,m,e));have hps:=SI ts (l,s,m,e) k IU.out (λ_=>by rw[hel];exact he);rw[show az ((l,s,m,e):aM).2=S from hS]at hps;have mP:((ts.drop k).flatMap aX).length=(n-k) *4:=by rw[mB,List.length_drop,Hn.out]
       have hdr:=tA.aw9 (n:=n) (cap:=cap) k Hn.out zo Li;have hsc:=Hs.out.cut (k:=k) (size:=4) zo;have aj3:(⟨b,o,none⟩:Addr).add (k*4)=⟨b,o+k*4,none⟩:=by unfold Addr.add;split<;>simp_all
       rw[if_neg zo,Option.map_some,aj3]at hdr hsc;obtain⟨sJ,HS,yM,sF,jz⟩:=gJ hps hS mP hdr hsc;have hk1:k<=n:=by omega
       have KX:k<=cap:=by omega
       clear hps hS hx2 hv2 tA mP hdr hsc iM lH hel lv x0 x1 x2 x3 t0 t1 t2 t3 Kq he bK;obtain⟨x0,x1,x2,x3⟩:=Hx.out.c4;go_wp2_with fail;refine bR (λw'=>aC w' (w.heap.size) 0 (ah l)/\aC w' (w.heap.size) 1 (ag s)/\aC w' (w.heap.size) 2 (ah m)/\aC w' (w.heap.size) 3 (af e)) (λi=>Nat.blt i 100000) [(0,true),(1,true),(2,true),(3,true),(4,true),(5,false),(6,true),(7,false),(8,false),(9,true)] zk zk rfl zk zc ⟨x0,x1,x2,x3⟩ ?_;iterate 5 (refine pT rfl rfl ?_ (by intro w' ⟨q0,q1,q2,q3⟩;go_simp;try with_reducible rfl);try simp only[UU])
       refine aI rfl rfl (λK hK=>?_);go_simp;with_reducible refine(Bd s m e S HS.out _ jW.out).mono ?_
       rintro e w4 ⟨rfl,hq⟩;have ae:Bw w2 w4:=by first|exact hq|exact aW hq
       clear x0 x1 x2 x3;obtain⟨Hx,x0,x1,x2,x3⟩:=dU Hx ae;replace Hb:=aB Hb ae;clear ae;refine hK _ _ (λ_=>⟨x0,x1,x2,x3⟩) ?_;clear hK K;try simp only[UU]
       refine pT rfl rfl ?_;try simp only[UU]
       refine aI rfl rfl (λK hK=>?_);go_simp;refine hK _ _ (λ_=>⟨aL x0,aL x1,aL x2,aL x3⟩) ?_;clear hK K;try simp only[UU]
       refine bV (λW5=>ar W5 (w4.heap.size) 93 [ah l,ag (au (dN S)),ah (nt (dN S).natAbs),af (dE S)]/\Bw w4 W5) (by first|exact fe|exact fg) ?_;rintro W5 ⟨qc,ae⟩;clear x0 x1 x2 x3;have Da:=Hx.out.lt;replace Hx:=kB Hx ae;have Hc:=ai qc;clear qc;obtain⟨x0,x1,x2,x3⟩:=Hx.out.c4;obtain⟨c0,c1,c2,c3⟩:=Hc.out.c4;replace Hb:=aB Hb ae;clear ae;refine aI rfl rfl (λK hK=>?_);have eT:=ownsRow_below dD.out Hb.out;have hs3:=Hb.out.size;refine wp_append_own _ _ _ 89 rfl wd.heap.size 93 i0 _ 4 48 Tryz.underlying89 Hi.out dF.out dG.out dm.out rfl zd (.slice av k cv) k ((ts.take k).flatMap aX) rfl eT ⟨w4.heap.size,0,none⟩ 1 1 [ah l,ag (au (dN S)),ah (nt (dN S).natAbs),af (dE S)] rfl rfl (ic Hc.out) zy zx zo zo ?_;intro v8 w8 fB bM _;have nb:∀b,b<wd.heap.size->some b≠(Value.slice av k cv).ownBlock:=λb hb e=>by have:=dz eT b e.symm;omega
       refine hK _ _ (λ_=>⟨cV bM x0 (nb _ zo),cV bM x1 (nb _ zo),cV bM x2 (nb _ zo),cV bM x3 (nb _ zo)⟩) ?_;clear hK K;try simp only[UU]
       have iA:=(aJ yF.out Hb.out).grown bM zo (λj e=>dz eT j e);obtain⟨gY,jL⟩:=aO iA fB;have Lt:=bM.size;refine pT rfl rfl ?_;try simp only[UU]
       simp only[bi];clear nb eT fB bM iA x0 x1 x2 x3 c0 c1 c2 c3;go_wp2_with (at_builtin;refine rp rfl _ _ 89 rfl wd.heap.size 93 i0 _ 4 48 Tryz.underlying89 Hi.out dF.out dG.out dm.out rfl zd v8 (k+1) _ rfl jL.out _ (n-k) (cap-k) ((ts.drop k).flatMap aX) rfl jz.out yM.out (sF.out.below gY.out) (tX _) zx zo zo ?_;intro v9 w9 iD rS Ll);all_goals
        go_ret
        refine⟨v9,rfl,?_,(aJ jy.out gY.out).grown rS zo (λj e=>by have:=dz jL.out j e;omega)⟩
        rw[sJ.out]
        have e9:((ts.take k++[(l,canon S)]++ts.drop k).flatMap aX)=(ts.take k).flatMap aX++[ah l,ag (au (dN S)),ah (nt (dN S).natAbs),af (dE S)]++(ts.drop k).flatMap aX:=by rw[List.flatMap_append,List.flatMap_append];rfl
        have l9:(ts.take k++[(l,canon S)]++ts.drop k).length=k+1+(n-k):=by simp[Hn.out];omega
        rw[e9,l9]
        exact rZ iD zo
      rw[decide_eq_true he]at Kq;refine bR (λw'=>aC w' (w.heap.size) 0 (ah l)/\aC w' b (o+k*4) (ah l')) (λi=>Nat.blt i 100000) [(0,true),(1,true),(2,true),(3,true),(4,true),(5,true),(6,true),(7,true),(8,true),(9,true),(10,true),(11,true),(12,true),(13,true)] zk zk rfl zk zc ⟨x0,t0⟩ ?_;iterate 14 (refine pT rfl rfl ?_ (by intro w' ⟨q0,q1⟩;go_simp;try with_reducible rfl);try simp only[UU])
      simp only[bi];have lH:=bW.out.drew;generalize iM:w1.drew=w2;have hx2:ar w2 w.heap.size 93 [ah l,ag s,ah m,af e]:=by rw[<-iM];exact Hx.out
      have ht2:bH w2 b (o+k*4) [ah l',ag s',ah m',af e']:=by rw[<-iM];exact Ht.out
      have hb2:Bw w w2:=by rw[<-iM];exact Hb.out.drew
      have hv2:w2.ownsRow wd.heap.size 93 4 (.slice av k cv) k ((ts.take k).flatMap aX):=by rw[<-iM];exact nH.out
      have dD:=ai hv2;replace Hx:=ai hx2;replace Ht:=ai ht2;replace Hb:Hid (Bw w2 w2):=Below.refl _ _;have yF:Hid (Bw wd w2):=by rw[<-iM];exact lH
      have tA:=Ha.out.below jy.out;have hz2:wd.heap.size<=w2.heap.size:=by rw[<-iM];exact hsz1
      obtain⟨S,hS⟩:=aG (az (s',m',e')+az (s,m,e));have hps:=apf ts (l,s,m,e) k IU.out hk2 (by rw[hel];exact he);rw[show az ts[k].2=az (s',m',e')by rw[hel],show az (s',m',e')+az ((l,s,m,e):aM).2=S from hS]at hps;have mP:((ts.drop (k+1)).flatMap aX).length=(n-(k+1)) *4:=by rw[mB,List.length_drop,Hn.out]
      have hdr:=tA.aw9 (n:=n) (cap:=cap) (k+1) Hn.out zo Li;have hsc:=Hs.out.cut (k:=k+1) (size:=4) zo;obtain⟨sJ,HS,nC,yM,sF,jz⟩:=gW hps hS lv mP hdr hsc;have hk1:k+1<=n:=by omega
      have KX:k+1<=cap:=by omega
      clear hps hS hel lv hx2 ht2 hb2 hv2 tA mP hdr hsc x0 x1 x2 x3 t0 t1 t2 t3 iM lH Kq he bK;obtain⟨x0,x1,x2,x3⟩:=Hx.out.c4;obtain⟨t0,t1,t2,t3⟩:=Ht.out.w4;have bK:=kP n cap k (k:Int) (rfl:(some ⟨b,o,none⟩:Option Addr)=_) hkn rfl;go_wp2_with fail;have lbx:=Hx.out.lt;refine bR (λw'=>aC w' (w.heap.size) 0 (ah l)/\aC w' (w.heap.size) 1 (ag s)/\aC w' (w.heap.size) 2 (ah m)/\aC w' (w.heap.size) 3 (af e)/\aC w' b (o+k*4) (ah l')/\aC w' b (o+k*4+1) (ag s')/\aC w' b (o+k*4+2) (ah m')/\aC w' b (o+k*4+3) (af e')) (λi=>Nat.blt i 100000) [(0,true),(1,true),(2,true),(3,true),(4,true),(5,true),(6,true),(7,true),(8,true),(9,true),(10,false),(11,true),(12,false),(13,false),(14,true)] zk zk rfl zk zc ⟨x0,x1,x2,x3,t0,t1,t2,t3⟩ ?_;iterate 10 (refine pT rfl rfl ?_ (by intro w' ⟨q0,q1,q2,q3,q4,q5,q6,q7⟩;go_simp;try with_reducible rfl);try simp only[UU])
      refine aI rfl rfl (λK hK=>?_);go_simp;with_reducible refine(Iw s' m' e' s m e S HS.out _ nC.out jW.out).mono ?_
      rintro e w4 ⟨rfl,hq⟩;have ae:Bw w2 w4:=by first|exact hq|exact aW hq
      clear x0 x1 x2 x3 t0 t1 t2 t3;obtain⟨Hx,x0,x1,x2,x3⟩:=dU Hx ae;replace Ht:=kW Ht ae;obtain⟨t0,t1,t2,t3⟩:=Ht.out.w4;replace Hb:=aB Hb ae;clear ae;refine hK _ _ (λ_=>⟨x0,x1,x2,x3,t0,t1,t2,t3⟩) ?_;clear hK K;try simp only[UU]
      refine pT rfl rfl ?_;try simp only[UU]
      refine aI rfl rfl (λK hK=>?_);go_simp;refine hK _ _ (λ_=>⟨aL x0,aL x1,aL x2,aL x3,aL t0,aL t1,aL t2,aL t3⟩) ?_;clear hK K;try simp only[UU]
      refine bV (λW5=>ar W5 (w4.heap.size) 93 [ah l,ag (au (dN S)),ah (nt (dN S).natAbs),af (dE S)]/\Bw w4 W5) (by first|exact fe|exact fg) ?_;rintro W5 ⟨qc,ae⟩;clear x0 x1 x2 x3 t0 t1 t2 t3;have Da:=Hx.out.lt;replace Hx:=kB Hx ae;replace Ht:=kW Ht ae;have Hc:=ai qc;clear qc;obtain⟨x0,x1,x2,x3⟩:=Hx.out.c4;obtain⟨t0,t1,t2,t3⟩:=Ht.out.w4;obtain⟨c0,c1,c2,c3⟩:=Hc.out.c4;replace Hb:=aB Hb ae;clear ae;refine aI rfl rfl (λK hK=>?_);have eT:=ownsRow_below dD.out Hb.out;have hs3:=Hb.out.size;refine wp_append_own _ _ _ 89 rfl wd.heap.size 93 i0 _ 4 48 Tryz.underlying89 Hi.out dF.out dG.out dm.out rfl zd (.slice av k cv) k ((ts.take k).flatMap aX) rfl eT ⟨w4.heap.size,0,none⟩ 1 1 [ah l,ag (au (dN S)),ah (nt (dN S).natAbs),af (dE S)] rfl rfl (ic Hc.out) zy zx zo zo ?_;intro v8 w8 fB bM _;have nb:∀b,b<wd.heap.size->some b≠(Value.slice av k cv).ownBlock:=λb hb e=>by have:=dz eT b e.symm;omega
      refine hK _ _ (λ_=>⟨cV bM x0 (nb _ zo),cV bM x1 (nb _ zo),cV bM x2 (nb _ zo),cV bM x3 (nb _ zo),cV bM t0 (nb _ zp),cV bM t1 (nb _ zp),cV bM t2 (nb _ zp),cV bM t3 (nb _ zp)⟩) ?_;clear hK K;try simp only[UU]
      have iA:=(aJ yF.out Hb.out).grown bM zo (λj e=>dz eT j e);obtain⟨gY,jL⟩:=aO iA fB;have Lt:=bM.size;refine pT rfl rfl ?_;try simp only[UU]
      simp only[bi];clear nb eT fB bM iA x0 x1 x2 x3 t0 t1 t2 t3 c0 c1 c2 c3;go_wp2_with (at_builtin;refine rp rfl _ _ 89 rfl wd.heap.size 93 i0 _ 4 48 Tryz.underlying89 Hi.out dF.out dG.out dm.out rfl zd v8 (k+1) _ rfl jL.out _ (n-(k+1)) (cap-(k+1)) ((ts.drop (k+1)).flatMap aX) rfl jz.out yM.out (sF.out.below gY.out) (tX _) zx zo zo ?_;intro v9 w9 iD rS Ll);all_goals
       go_ret
       refine⟨v9,rfl,?_,(aJ jy.out gY.out).grown rS zo (λj e=>by have:=dz jL.out j e;omega)⟩
       rw[sJ.out]
       have e9:((ts.take k++[(l,canon S)]++ts.drop (k+1)).flatMap aX)=(ts.take k).flatMap aX++[ah l,ag (au (dN S)),ah (nt (dN S).natAbs),af (dE S)]++(ts.drop (k+1)).flatMap aX:=by rw[List.flatMap_append,List.flatMap_append];rfl
       have l9:(ts.take k++[(l,canon S)]++ts.drop (k+1)).length=k+1+(n-(k+1)):=by simp[Hn.out];omega
       rw[e9,l9]
       exact rZ iD zo
    . obtain rfl:n=k:=by omega
      cases a with
      | none=>
        have hc0:=Hs.out.2 rfl;obtain rfl:n=0:=by omega
        subst hc0;obtain⟨x0,x1,x2,x3⟩:=Hx.out.c4;have nU:decide (((0:Nat):Int)<((0:Nat):Int))=false:=by simp
        go_wp2_with fail;refine bR (λw'=>aC w' (w.heap.size) 0 (ah l)) (λi=>Nat.blt i 100000) [(0,true),(1,true),(2,true),(3,true),(4,true),(5,true),(6,true),(7,true),(8,true),(9,true),(10,true),(11,true),(12,true),(13,true)] zk zk rfl zk zc x0 ?_;iterate 5 (refine pT rfl rfl ?_;try simp only[UU])
        refine bF rfl rfl ?_;try simp only[UU]
        refine bF rfl rfl ?_;try simp only[UU]
        refine bF rfl rfl ?_;try simp only[UU]
        refine bF rfl rfl ?_;try simp only[UU]
        refine bF rfl rfl ?_;try simp only[UU]
        refine bF rfl rfl ?_;try simp only[UU]
        refine bF rfl rfl ?_;try simp only[UU]
        refine bF rfl rfl ?_;try simp only[UU]
        refine pT rfl rfl ?_;try simp only[UU]
        simp only[bi];generalize tv:wr.drew=wd;have xR:ar wd w.heap.size 93 [ah l,ag s,ah m,af e]:=by rw[<-tv];exact Hx.out
        have lW:Bw w wd:=by rw[<-tv];exact Hb.out.drew
        have hpre:((ts.take 0).flatMap aX).length=0*4:=by rw[mB,List.length_take,Nat.min_eq_left (by have:=Hn.out;omega)]
        have xw:=Ha.out.below lW;have xu:=xw.axd 0;have hsk:Sl none 0 0:=Hs.out;obtain⟨wW,jy,Ee,EC⟩:=dx xR lW xu hpre;have szd:=lW.size;have lxd:=wW.out.lt;clear xR lW xu hpre xw tv x0 x1 x2 x3 Hx Hb;go_wp2_with (at_builtin;refine rp rfl _ _ 89 rfl wd.heap.size 93 i0 _ 4 48 Tryz.underlying89 Hi.out dF.out dG.out dm.out rfl zd _ 0 [] rfl (World.ownsRow_made wd #[] 0 (Nat.le_refl _) (Nat.zero_le _) zm) none 0 0 ((ts.take 0).flatMap aX) rfl hsk EC.out (Ee.out.below ((Below.refl _ wd).alloc (Nat.le_refl _) _)) (tX _) (by simp[maxLen]) zo zm ?_;intro v1 w1 ej hg1 Aj);have hb1:=((Below.refl _ wd).alloc (Nat.le_refl _) _).grown hg1 zm (λk hk=>by have h9:wd.heap.size=k:=Option.some.inj hk;omega);rw[Nat.zero_add,List.nil_append]at ej;obtain⟨av,cv,rfl,_,_⟩:=eo ej;obtain⟨Hx,Hb,nH,bW⟩:=dx (wW.out.below hb1) (aJ jy.out hb1) ej hb1;have hsz1:=hb1.size;clear ej hb1 hg1 Aj;obtain⟨x0,x1,x2,x3⟩:=Hx.out.c4;go_wp2_with fail;refine bR (λw'=>aC w' (w.heap.size) 0 (ah l)) (λi=>Nat.blt i 100000) [(0,true),(1,true),(2,true),(3,true),(4,true),(5,true),(6,true),(7,true),(8,true),(9,true),(10,true),(11,true),(12,true),(13,true)] zk zk rfl zk zc x0 ?_;iterate 5 (refine pT rfl rfl ?_;try simp only[UU])
        refine bF rfl rfl ?_;try simp only[UU]
        refine bF rfl rfl ?_;try simp only[UU]
        refine bF rfl rfl ?_;try simp only[UU]
        refine bF rfl rfl ?_;try simp only[UU]
        refine bF rfl rfl ?_;try simp only[UU]
        refine bF rfl rfl ?_;try simp only[UU]
        refine bF rfl rfl ?_;try simp only[UU]
        refine bF rfl rfl ?_;try simp only[UU]
        refine pT rfl rfl ?_;try simp only[UU]
        simp only[bi];have lH:=bW.out.drew;generalize iM:w1.drew=w2;have hx2:ar w2 w.heap.size 93 [ah l,ag s,ah m,af e]:=by rw[<-iM];exact Hx.out
        have hv2:w2.ownsRow wd.heap.size 93 4 (.slice av 0 cv) 0 ((ts.take 0).flatMap aX):=by rw[<-iM];exact nH.out
        have dD:=ai hv2;replace Hx:=ai hx2;replace Hb:Hid (Bw w2 w2):=Below.refl _ _;have yF:Hid (Bw wd w2):=by rw[<-iM];exact lH
        have tA:=Ha.out.below jy.out;have hz2:wd.heap.size<=w2.heap.size:=by rw[<-iM];exact hsz1
        obtain⟨S,hS⟩:=aG (az (s,m,e));have hps:=SI ts (l,s,m,e) 0 IU.out (λh=>absurd h (by have:=Hn.out;omega));rw[show az ((l,s,m,e):aM).2=S from hS]at hps;have mP:((ts.drop 0).flatMap aX).length=(0-0) *4:=by rw[mB,List.length_drop,Hn.out]
        have hdr:=tA.aw9 (n:=0) (cap:=0) 0 Hn.out zo Li;have hsc:=Hs.out.cut (k:=0) (size:=4) zo;obtain⟨sJ,HS,yM,sF,jz⟩:=gJ hps hS mP hdr hsc;have hk1:0<=0:=by omega
        have KX:0<=0:=by omega
        clear hps hS hx2 hv2 tA mP hdr hsc iM lH x0 x1 x2 x3;obtain⟨x0,x1,x2,x3⟩:=Hx.out.c4;go_wp2_with fail;refine bR (λw'=>aC w' (w.heap.size) 0 (ah l)/\aC w' (w.heap.size) 1 (ag s)/\aC w' (w.heap.size) 2 (ah m)/\aC w' (w.heap.size) 3 (af e)) (λi=>Nat.blt i 100000) [(0,true),(1,true),(2,true),(3,true),(4,true),(5,false),(6,true),(7,false),(8,false),(9,true)] zk zk rfl zk zc ⟨x0,x1,x2,x3⟩ ?_;iterate 5 (refine pT rfl rfl ?_ (by intro w' ⟨q0,q1,q2,q3⟩;go_simp;try with_reducible rfl);try simp only[UU])
        refine aI rfl rfl (λK hK=>?_);go_simp;with_reducible refine(Bd s m e S HS.out _ jW.out).mono ?_
        rintro e w4 ⟨rfl,hq⟩;have ae:Bw w2 w4:=by first|exact hq|exact aW hq
        clear x0 x1 x2 x3;obtain⟨Hx,x0,x1,x2,x3⟩:=dU Hx ae;replace Hb:=aB Hb ae;clear ae;refine hK _ _ (λ_=>⟨x0,x1,x2,x3⟩) ?_;clear hK K;try simp only[UU]
        refine pT rfl rfl ?_;try simp only[UU]
        refine aI rfl rfl (λK hK=>?_);go_simp;refine hK _ _ (λ_=>⟨aL x0,aL x1,aL x2,aL x3⟩) ?_;clear hK K;try simp only[UU]
        refine bV (λW5=>ar W5 (w4.heap.size) 93 [ah l,ag (au (dN S)),ah (nt (dN S).natAbs),af (dE S)]/\Bw w4 W5) (by first|exact fe|exact fg) ?_;rintro W5 ⟨qc,ae⟩;clear x0 x1 x2 x3;have Da:=Hx.out.lt;replace Hx:=kB Hx ae;have Hc:=ai qc;clear qc;obtain⟨x0,x1,x2,x3⟩:=Hx.out.c4;obtain⟨c0,c1,c2,c3⟩:=Hc.out.c4;replace Hb:=aB Hb ae;clear ae;refine aI rfl rfl (λK hK=>?_);have eT:=ownsRow_below dD.out Hb.out;have hs3:=Hb.out.size;refine wp_append_own _ _ _ 89 rfl wd.heap.size 93 i0 _ 4 48 Tryz.underlying89 Hi.out dF.out dG.out dm.out rfl zd (.slice av 0 cv) 0 ((ts.take 0).flatMap aX) rfl eT ⟨w4.heap.size,0,none⟩ 1 1 [ah l,ag (au (dN S)),ah (nt (dN S).natAbs),af (dE S)] rfl rfl (ic Hc.out) zy (by simp[maxLen]) zo zo ?_;intro v8 w8 fB bM _;have nb:∀b,b<wd.heap.size->some b≠(Value.slice av 0 cv).ownBlock:=λb hb e=>by have:=dz eT b e.symm;omega
        refine hK _ _ (λ_=>⟨cV bM x0 (nb _ zo),cV bM x1 (nb _ zo),cV bM x2 (nb _ zo),cV bM x3 (nb _ zo)⟩) ?_;clear hK K;try simp only[UU]
        have iA:=(aJ yF.out Hb.out).grown bM zo (λj e=>dz eT j e);obtain⟨gY,jL⟩:=aO iA fB;have Lt:=bM.size;refine pT rfl rfl ?_;try simp only[UU]
        simp only[bi];clear nb eT fB bM iA x0 x1 x2 x3 c0 c1 c2 c3;go_wp2_with (at_builtin;refine rp rfl _ _ 89 rfl wd.heap.size 93 i0 _ 4 48 Tryz.underlying89 Hi.out dF.out dG.out dm.out rfl zd v8 (0+1) _ rfl jL.out none 0 0 ((ts.drop 0).flatMap aX) rfl jz.out yM.out (sF.out.below gY.out) (tX _) (by simp[maxLen]) zo zo ?_;intro v9 w9 iD rS Ll);all_goals
         go_ret
         refine⟨v9,rfl,?_,(aJ jy.out gY.out).grown rS zo (λj e=>by have:=dz jL.out j e;omega)⟩
         rw[sJ.out]
         have e9:((ts.take 0++[(l,canon S)]++ts.drop 0).flatMap aX)=(ts.take 0).flatMap aX++[ah l,ag (au (dN S)),ah (nt (dN S).natAbs),af (dE S)]++(ts.drop 0).flatMap aX:=by rw[List.flatMap_append,List.flatMap_append];rfl
         have l9:(ts.take 0++[(l,canon S)]++ts.drop 0).length=0+1+0:=by simp[Hn.out]
         rw[e9,l9]
         exact rZ iD zo
      | some ad=>
        obtain⟨x0,x1,x2,x3⟩:=Hx.out.c4;have nU:decide ((n:Int)<(n:Int))=false:=by simp
        go_wp2_with fail;refine bR (λw'=>aC w' (w.heap.size) 0 (ah l)) (λi=>Nat.blt i 100000) [(0,true),(1,true),(2,true),(3,true),(4,true),(5,true),(6,true),(7,true),(8,true),(9,true),(10,true),(11,true),(12,true),(13,true)] zk zk rfl zk zc x0 ?_;iterate 5 (refine pT rfl rfl ?_;try simp only[UU])
        refine bF rfl rfl ?_;try simp only[UU]
        refine bF rfl rfl ?_;try simp only[UU]
        refine bF rfl rfl ?_;try simp only[UU]
        refine bF rfl rfl ?_;try simp only[UU]
        refine bF rfl rfl ?_;try simp only[UU]
        refine bF rfl rfl ?_;try simp only[UU]
        refine bF rfl rfl ?_;try simp only[UU]
        refine bF rfl rfl ?_;try simp only[UU]
        refine pT rfl rfl ?_;try simp only[UU]
        simp only[bi];generalize tv:wr.drew=wd;have xR:ar wd w.heap.size 93 [ah l,ag s,ah m,af e]:=by rw[<-tv];exact Hx.out
        have lW:Bw w wd:=by rw[<-tv];exact Hb.out.drew
        have hpre:((ts.take n).flatMap aX).length=n*4:=by rw[mB,List.length_take,Nat.min_eq_left (by have:=Hn.out;omega)]
        have xw:=Ha.out.below lW;have xu:=xw.axd n;have hsk:Sl (some ad) n cap:=Hs.out;obtain⟨wW,jy,Ee,EC⟩:=dx xR lW xu hpre;have szd:=lW.size;have lxd:=wW.out.lt;clear xR lW xu hpre xw tv x0 x1 x2 x3 Hx Hb;go_wp2_with (at_builtin;refine rp rfl _ _ 89 rfl wd.heap.size 93 i0 _ 4 48 Tryz.underlying89 Hi.out dF.out dG.out dm.out rfl zd _ 0 [] rfl (World.ownsRow_made wd #[] 0 (Nat.le_refl _) (Nat.zero_le _) zm) (some ad) n cap ((ts.take n).flatMap aX) rfl hsk EC.out (Ee.out.below ((Below.refl _ wd).alloc (Nat.le_refl _) _)) (tX _) zx zo zm ?_;intro v1 w1 ej hg1 Aj);have hb1:=((Below.refl _ wd).alloc (Nat.le_refl _) _).grown hg1 zm (λk hk=>by have h9:wd.heap.size=k:=Option.some.inj hk;omega);rw[Nat.zero_add,List.nil_append]at ej;obtain⟨av,cv,rfl,_,_⟩:=eo ej;obtain⟨Hx,Hb,nH,bW⟩:=dx (wW.out.below hb1) (aJ jy.out hb1) ej hb1;have hsz1:=hb1.size;clear ej hb1 hg1 Aj;obtain⟨x0,x1,x2,x3⟩:=Hx.out.c4;go_wp2_with fail;refine bR (λw'=>aC w' (w.heap.size) 0 (ah l)) (λi=>Nat.blt i 100000) [(0,true),(1,true),(2,true),(3,true),(4,true),(5,true),(6,true),(7,true),(8,true),(9,true),(10,true),(11,true),(12,true),(13,true)] zk zk rfl zk zc x0 ?_;iterate 5 (refine pT rfl rfl ?_;try simp only[UU])
        refine bF rfl rfl ?_;try simp only[UU]
        refine bF rfl rfl ?_;try simp only[UU]
        refine bF rfl rfl ?_;try simp only[UU]
        refine bF rfl rfl ?_;try simp only[UU]
        refine bF rfl rfl ?_;try simp only[UU]
        refine bF rfl rfl ?_;try simp only[UU]
        refine bF rfl rfl ?_;try simp only[UU]
        refine bF rfl rfl ?_;try simp only[UU]
        refine pT rfl rfl ?_;try simp only[UU]
        simp only[bi];have lH:=bW.out.drew;generalize iM:w1.drew=w2;have hx2:ar w2 w.heap.size 93 [ah l,ag s,ah m,af e]:=by rw[<-iM];exact Hx.out
        have hv2:w2.ownsRow wd.heap.size 93 4 (.slice av n cv) n ((ts.take n).flatMap aX):=by rw[<-iM];exact nH.out
        have dD:=ai hv2;replace Hx:=ai hx2;replace Hb:Hid (Bw w2 w2):=Below.refl _ _;have yF:Hid (Bw wd w2):=by rw[<-iM];exact lH
        have tA:=Ha.out.below jy.out;have hz2:wd.heap.size<=w2.heap.size:=by rw[<-iM];exact hsz1
        obtain⟨S,hS⟩:=aG (az (s,m,e));have hps:=SI ts (l,s,m,e) n IU.out (λh=>absurd h (by have:=Hn.out;omega));rw[show az ((l,s,m,e):aM).2=S from hS]at hps;have mP:((ts.drop n).flatMap aX).length=0*4:=by rw[mB,List.length_drop,Hn.out,Nat.sub_self]
        have hdr:=tA.aw9 (n:=n) (cap:=cap) n Hn.out zo Li;have hsc:=Hs.out.cut (k:=n) (size:=4) zo;rw[Nat.sub_self]at hsc;obtain⟨sJ,HS,yM,sF,jz⟩:=gJ hps hS mP hdr hsc;have hk1:n<=n:=by omega
        have KX:n<=cap:=by omega
        clear hps hS hx2 hv2 tA mP hdr hsc iM lH x0 x1 x2 x3;obtain⟨x0,x1,x2,x3⟩:=Hx.out.c4;go_wp2_with fail;refine bR (λw'=>aC w' (w.heap.size) 0 (ah l)/\aC w' (w.heap.size) 1 (ag s)/\aC w' (w.heap.size) 2 (ah m)/\aC w' (w.heap.size) 3 (af e)) (λi=>Nat.blt i 100000) [(0,true),(1,true),(2,true),(3,true),(4,true),(5,false),(6,true),(7,false),(8,false),(9,true)] zk zk rfl zk zc ⟨x0,x1,x2,x3⟩ ?_;iterate 5 (refine pT rfl rfl ?_ (by intro w' ⟨q0,q1,q2,q3⟩;go_simp;try with_reducible rfl);try simp only[UU])
        refine aI rfl rfl (λK hK=>?_);go_simp;with_reducible refine(Bd s m e S HS.out _ jW.out).mono ?_
        rintro e w4 ⟨rfl,hq⟩;have ae:Bw w2 w4:=by first|exact hq|exact aW hq
        clear x0 x1 x2 x3;obtain⟨Hx,x0,x1,x2,x3⟩:=dU Hx ae;replace Hb:=aB Hb ae;clear ae;refine hK _ _ (λ_=>⟨x0,x1,x2,x3⟩) ?_;clear hK K;try simp only[UU]
        refine pT rfl rfl ?_;try simp only[UU]
        refine aI rfl rfl (λK hK=>?_);go_simp;refine hK _ _ (λ_=>⟨aL x0,aL x1,aL x2,aL x3⟩) ?_;clear hK K;try simp only[UU]
        refine bV (λW5=>ar W5 (w4.heap.size) 93 [ah l,ag (au (dN S)),ah (nt (dN S).natAbs),af (dE S)]/\Bw w4 W5) (by first|exact fe|exact fg) ?_;rintro W5 ⟨qc,ae⟩;clear x0 x1 x2 x3;have Da:=Hx.out.lt;replace Hx:=kB Hx ae;have Hc:=ai qc;clear qc;obtain⟨x0,x1,x2,x3⟩:=Hx.out.c4;obtain⟨c0,c1,c2,c3⟩:=Hc.out.c4;replace Hb:=aB Hb ae;clear ae;refine aI rfl rfl (λK hK=>?_);have eT:=ownsRow_below dD.out Hb.out;have hs3:=Hb.out.size;refine wp_append_own _ _ _ 89 rfl wd.heap.size 93 i0 _ 4 48 Tryz.underlying89 Hi.out dF.out dG.out dm.out rfl zd (.slice av n cv) n ((ts.take n).flatMap aX) rfl eT ⟨w4.heap.size,0,none⟩ 1 1 [ah l,ag (au (dN S)),ah (nt (dN S).natAbs),af (dE S)] rfl rfl (ic Hc.out) zy zx zo zo ?_;intro v8 w8 fB bM _;have nb:∀b,b<wd.heap.size->some b≠(Value.slice av n cv).ownBlock:=λb hb e=>by have:=dz eT b e.symm;omega
        refine hK _ _ (λ_=>⟨cV bM x0 (nb _ zo),cV bM x1 (nb _ zo),cV bM x2 (nb _ zo),cV bM x3 (nb _ zo)⟩) ?_;clear hK K;try simp only[UU]
        have iA:=(aJ yF.out Hb.out).grown bM zo (λj e=>dz eT j e);obtain⟨gY,jL⟩:=aO iA fB;have Lt:=bM.size;refine pT rfl rfl ?_;try simp only[UU]
        simp only[bi];clear nb eT fB bM iA x0 x1 x2 x3 c0 c1 c2 c3;go_wp2_with (at_builtin;refine rp rfl _ _ 89 rfl wd.heap.size 93 i0 _ 4 48 Tryz.underlying89 Hi.out dF.out dG.out dm.out rfl zd v8 (n+1) _ rfl jL.out _ 0 (cap-n) ((ts.drop n).flatMap aX) rfl jz.out yM.out (sF.out.below gY.out) (tX _) zx zo zo ?_;intro v9 w9 iD rS Ll);all_goals
         go_ret
         refine⟨v9,rfl,?_,(aJ jy.out gY.out).grown rS zo (λj e=>by have:=dz jL.out j e;omega)⟩
         rw[sJ.out]
         have e9:((ts.take n++[(l,canon S)]++ts.drop n).flatMap aX)=(ts.take n).flatMap aX++[ah l,ag (au (dN S)),ah (nt (dN S).natAbs),af (dE S)]++(ts.drop n).flatMap aX:=by rw[List.flatMap_append,List.flatMap_append];rfl
         have l9:(ts.take n++[(l,canon S)]++ts.drop n).length=n+1+0:=by simp[Hn.out]
         rw[e9,l9]
         exact rZ iD zo
theorem apg {C:Nat}(l:List aM)(x:aM)(h:∀t∈l,Sm C (az t.2))(hx:Sm C (az x.2)):∀t∈iu l x,Sm (C+1) (az t.2):=by
 have hc:∀X:Dyadic,Sm (C+1) X->Sm (C+1) (az (canon X)):=λX h=>by rw[bD];exact h
 induction l with
 |nil=>intro t ht;simp only[iu,List.mem_singleton]at ht;rw[ht];exact hc _ (hx.mono zo)
 | cons y l ih=>
   intro t ht;unfold iu at ht;split at ht
   . rcases List.mem_cons.1 ht with rfl|ht
     . exact(h _ zm).mono zo
     . exact ih (λt ht=>h t (by simp[ht])) t ht
   . split at ht
     . rcases List.mem_cons.1 ht with rfl|ht
       . exact hc _ ((h y zm).add hx)
       . exact(h t (by simp[ht])).mono zo
     . rcases List.mem_cons.1 ht with rfl|ht
       . exact hc _ (hx.mono zo)
       . exact(h t ht).mono zo
theorem apk {B:Nat}(l:List aM)(h:∀t∈l,Sm B (az t.2)):∀t∈iR l,Sm (B+l.length) (az t.2):=by refine ID (Q:=λl=>(∀t∈l,Sm B (az t.2))->∀t∈iR l,Sm (B+l.length) (az t.2)) (λ_ t ht=>by cases ht) (λl x ih h=>?_) l h;rw[Dr];have h1:=ih (λt ht=>h t (by simp[ht]));have:=apg (C:=B+l.length) (iR l) x h1 ((h x zm).mono zo);intro t ht;have h9:=this t ht;rw[List.length_append];exact h9
theorem api {B:Nat}(l:List aM)(h:∀t∈l,Sm B (az t.2))(hB:B+l.length<=16384):∀t∈iR l,dv t.2:=λt ht=>by have h1:=apk l h t ht;rw[acf l t ht];exact h1.aw1 hB
theorem akl (L:List aM)(k:Nat)(hk:k<L.length):(L.take (k+1)).filter iG=(L.take k).filter iG++if iG L[k]then[L[k]]else[]:=by rw[List.take_succ_eq_append_getElem hk,List.filter_append];congr 1;by_cases h:iG L[k]=true<;>simp[h]
theorem Me (V:Nat)(a:Option Addr)(n cap:Nat)(ts:List aM)(B:Nat)(w:World)(hn:ts.length=n)(hl:n<=4096)(ha:At w a (ts.flatMap aX))(hf:∀t∈ts,dv t.2)(hs:∀t∈ts,Sm B (az t.2))(hB:B+n<=16384):
 Calls Tryz.prog 160 #[af (V:Int),.slice a n cap] w λex w'=>∃a' c',ex=.returned (.tuple #[.agg #[af (V:Int),.slice a' (bY ts).length c'],af 0])/\cz w' a' c' (bY ts)/\Bw w w':=by
 obtain⟨i0,hi,hz0,hz1,hz2⟩:=info_parts Tryz.aw6;have kN:=λk=>api (ts.take k) (λt ht=>hs t (List.mem_of_mem_take ht)) (by rw[List.length_take];omega);have hpl:=λk=>apj (ts.take k);have qj:=akI ts;obtain⟨C,hC⟩:=aG (bY ts);have hcl:=zw ts;rw[hC]at qj hcl⊢;obtain⟨Hi,dF,dG,dm,ug,jY,Hgc,Ha,Hf,Hn⟩:=tM hi hz0 hz1 hz2 kN hpl qj ha hf hn;have hC4:C.length<=4096:=by omega
 clear hi hz0 hz1 hz2 kN hpl qj ha hf hs hC hn hcl;obtain⟨W,cg,Hb,Hr⟩:=fJ w 91 [af 0,.slice none 0 0];obtain⟨r0,aj,r1,ak⟩:=Hr.out.g2;go_enter Tryz.func160,Tryz.ntmps160;go_wp2_with fail;have hrl:=Hr.out.lt;go_loopw[6,7] (λs6 x wr=>∃(k:Nat) (v:Value),k<=n/\x=af (k:Int)/\v=s6/\wr.ownsRow W.heap.size 93 4 v (iR (ts.take k)).length ((iR (ts.take k)).flatMap aX)/\Bw W wr) (λ_ x _=>n-(intOf x).toNat);case atStart=>exact⟨0,_,Nat.zero_le _,rfl,rfl,World.ownsRow_nil _ _ _ _,Below.refl _ _⟩
 case round=>
  clear r0 aj r1 ak;obtain⟨k,v,hk,rfl,rfl,ho,pb⟩:=hrel;by_cases hlt:k<n
  . have hk2:k<ts.length:=by rw[Hn.out];exact hlt
    obtain⟨l,s,m,e,hx⟩:∃l s m e,ts[k]=(l,s,m,e):=⟨_,_,_,_,rfl⟩;obtain⟨b,o,rfl,dH⟩:=(Ha.out.below (aJ Hb.out pb)).term k hk2 hx;have bK:=kP n cap k (k:Int) (rfl:(some ⟨b,o,none⟩:Option Addr)=_) hlt rfl;obtain⟨av,cv,rfl,xx,_⟩:=eo ho;have GI:=uP ho;have hnx:iR (ts.take (k+1))=iu (iR (ts.take k)) (l,s,m,e):=by rw[List.take_succ_eq_append_getElem hk2,Dr,hx]
    have hp1:(iR (ts.take k)).length<=65536:=by have:=jY.out k;rw[List.length_take]at this;omega
    have eJ:dv (s,m,e):=by have:=Hf.out _ (List.getElem_mem hk2);rw[hx]at this;exact this
    have hput:=λ(W':World) (hW:Bw wr W')=>apU av _ cv (iR (ts.take k)) l s m e W' rfl hp1 GI (xx.below hW) (ug.out k) eJ;rw[<-hnx]at hput;obtain⟨np,QX⟩:=aG ((iR (ts.take k)).length);rw[QX]at hput;rw[QX];obtain⟨agt,bu⟩:=aO hput pb;have Ht:Hid (bH wr b (o+k*4) [ah l,ag s,ah m,af e]):=dH;have iy:=pb.size;clear hput pb QX hnx hp1 eJ GI xx ho dH hx;have cw:Hid (Bw wr wr):=Below.refl _ _;obtain⟨t0,t1,t2,t3⟩:=Ht.out.w4;go_wp2_with fail;refine(agt.out _ (Below.refl _ _)).mono ?_;rintro ex w2 ⟨v2,rfl,eO,hb2⟩;obtain⟨yS,gQ⟩:=aO (rZ eO iy) (aJ bu.out hb2);clear eO hb2;go_wp2;go_roundw;case rel=>exact⟨k+1,v2,by omega,by go_num,rfl,yS.out,gQ.out⟩
    case measure=>simp[intOf];omega
  . obtain rfl:k=n:=by omega
    have htk:ts.take k=ts:=List.take_of_length_le (by rw[Hn.out];exact Nat.le_refl _);have kN:=ug.out k;have hpl:=jY.out k;rw[htk]at ho kN hpl;obtain⟨L,hL⟩:=aG (iR ts);have qj:=Hgc.out;rw[hL]at ho kN hpl qj;have hLn:L.length<=4096:=by rw[Hn.out]at hpl;omega
    obtain⟨N,hN⟩:=aG L.length;rw[hN]at ho hLn;obtain⟨av,cv,rfl,xx,_⟩:=eo ho;obtain⟨wg,hwg⟩:∃wg,wg=wr:=⟨_,rfl⟩;subst hwg;obtain⟨Hav,bu,agq,HN,afx⟩:=gJ xx pb kN hN qj;have szg:=pb.size;clear xx ho pb kN hpl qj hN hL htk;go_wp2_with fail;go_loopw[8,9] (λs8 x wr=>∃(j:Nat) (v:Value),j<=N/\x=af (j:Int)/\v=s8/\wr.ownsRow wg.heap.size 93 4 v ((L.take j).filter iG).length (((L.take j).filter iG).flatMap aX)/\Bw wg wr) (λ_ x _=>N-(intOf x).toNat);case atStart=>exact⟨0,_,Nat.zero_le _,rfl,rfl,World.ownsRow_nil _ _ _ _,Below.refl _ _⟩
    case round=>
     obtain⟨j,v,hj,rfl,rfl,ho,qb⟩:=hrel;by_cases bG:j<N
     . have oZ:j<L.length:=by rw[HN.out];exact bG
       obtain⟨l,s,m,e,hx⟩:∃l s m e,L[j]=(l,s,m,e):=⟨_,_,_,_,rfl⟩;obtain⟨b,o,rfl,dH⟩:=(Hav.out.below qb).term j oZ hx;have bK:=kP N cv j (j:Int) (rfl:(some ⟨b,o,none⟩:Option Addr)=_) bG rfl;have hft:=akl L j oZ;obtain⟨g,hg⟩:=aG (bA (az (s,m,e)));have eJ:dv (s,m,e):=by have:=agq.out _ (List.getElem_mem oZ);rw[hx]at this;exact this
       have gU:=λW=>ww s m e g hg W (by have:=eJ.1;simp only at this;omega);have hnz:iG L[j]= !(g==0):=by rw[hx];unfold iG;rw[show az ((l,s,m,e):aM).2=az (s,m,e)from rfl,hg]
       rw[hnz,hx]at hft;have hfl:((L.take j).filter iG).length<=N:=by have:=List.length_filter_le iG (L.take j);rw[List.length_take]at this;omega
       have Ht:Hid (bH wr b (o+j*4) [ah l,ag s,ah m,af e]):=dH;obtain⟨jM,oK,dD⟩:=cL gU qb ho;have iy:=qb.size;obtain⟨F,hF⟩:=aG ((L.take j).filter iG);rw[hF]at dD hft hfl;have vh:=ai hft;clear gU qb ho dH hx hg eJ hnz hft hF;have Hb:Hid (Bw wr wr):=Below.refl _ _;obtain⟨t0,t1,t2,t3⟩:=Ht.out.w4;go_wp2_with fail;refine(jM.out _).mono ?_;rintro e w3 ⟨rfl,ae⟩;clear t0 t1 t2 t3;replace Ht:=kW Ht ae;obtain⟨t0,t1,t2,t3⟩:=Ht.out.w4;replace Hb:=aB Hb ae;clear ae;by_cases hg0:g=0
       . subst hg0;have hz:(((0:Int)) !=0)=false:=by decide
         have hft:=vh.out;simp only[beq_self_eq_true,Bool.not_true,Bool.false_eq_true,if_false,List.append_nil]at hft;have Nj:=ai hft;clear hft vh;obtain⟨Hq3,Ho3⟩:=aO (aJ oK.out Hb.out) (ownsRow_below dD.out Hb.out);go_wp2;go_roundw;case rel=>exact⟨j+1,v,by omega,by go_num,rfl,by rw[Nj.out];exact Ho3.out,Hq3.out⟩
         case measure=>simp[intOf];omega
       . have hz:(g !=0)=true:=by simpa using hg0
         have hz2:(g==0)=false:=by simpa using hg0
         have hft:=vh.out;rw[hz2]at hft;simp only[Bool.not_false,if_true]at hft;have Nj:=ai hft;clear hft vh;go_upto_region 11 with fail
         have P0:=t0;have P1:=t1;have P2:=t2;have P3:=t3;obtain⟨W5,xt,ae,Hc⟩:=cd w3 93 [ah l,ag s,ah m,af e];clear t0 t1 t2 t3;replace Ht:=kW Ht ae;obtain⟨t0,t1,t2,t3⟩:=Ht.out.w4;obtain⟨c0,c1,c2,c3⟩:=Hc.out.c4;replace Hb:=aB Hb ae;clear ae;have Ar:=ownsRow_below dD.out Hb.out;have hs5:=Hb.out.size;go_wp2_with (at_builtin;refine wpList_append_own_at _ rfl _ _ 89 rfl wg.heap.size 93 i0 _ 4 48 Tryz.underlying89 Hi.out dF.out dG.out dm.out rfl zd v F.length (F.flatMap aX) rfl Ar ⟨w3.heap.size,0,none⟩ 1 1 [ah l,ag s,ah m,af e] rfl rfl (ic Hc.out) zy zx zo zo ?_;intro v' w7 eW fO _ iE);have mN:=(aJ oK.out Hb.out).grown fO zo (λj e=>dz Ar j e);have e7:F.flatMap aX++[ah l,ag s,ah m,af e]=(F++[(l,s,m,e)]).flatMap aX:=by rw[List.flatMap_append];rfl
         rw[e7]at eW;obtain⟨NH,BB⟩:=aO eW mN;clear eW mN e7 iE fO Ar P0 P1 P2 P3 t0 t1 t2 t3 c0 c1 c2 c3;go_wp2;go_roundw;case rel=>exact⟨j+1,v',by omega,by go_num,rfl,by rw[Nj.out,List.length_append];exact NH.out,BB.out⟩
         case measure=>simp[intOf];omega
     . obtain rfl:j=N:=by omega
       have htk:L.take j=L:=List.take_of_length_le (by rw[HN.out];exact Nat.le_refl _);rw[htk,afx.out]at ho;obtain⟨a2,c2,rfl,_,_⟩:=eo ho;obtain⟨Ho,agm⟩:=aO ho (aJ (aJ Hb.out bu.out) qb);have kK:=bu.out.size;have yV:=ai (Hr.out.below (aJ bu.out qb));have h4:¬(4096:Int)<(C.length:Int):=by omega
       have h4d:decide ((4096:Int)<(C.length:Int))=false:=by simp;omega
       clear ho htk qb;have Hr:=yV;obtain⟨r0,aj,r1,ak⟩:=Hr.out.g2;go_wp2;refine Cl (yV.out) Ho.out agm.out zo ?_;intro w9 qE iD jE;obtain⟨p0,p1⟩:=qE.c2;exact bodyPost_ret (v:=.tuple #[.agg #[af (V:Int),.slice a2 C.length c2],af 0]) (by simp[results,Tryz.results160,go_sem,p0,p1]) rfl ⟨_,_,rfl,Ih iD,jE⟩
end Go.Proofs.YtoopepmmepmfnaaGreatDoor
