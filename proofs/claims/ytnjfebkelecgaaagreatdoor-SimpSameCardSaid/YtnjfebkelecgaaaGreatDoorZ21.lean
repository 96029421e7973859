/- Packages ogeeref07,ogeeref08: May;put. -/
import Derived.Test.YtnjfebkelecgaaaGreatDoorZ17
import Derived.Test.YtnjfebkelecgaaaGreatDoorZ16
import Derived.Test.YtnjfebkelecgaaaGreatDoorZ13
set_option linter.all false
set_option maxRecDepth 100000
set_option maxHeartbeats 16000000
namespace Go.Proofs.YtnjfebkelecgaaaGreatDoor
open Go.RowKit
attribute [local go_sem ↓] Go.wp_at_zero Go.wp_at_succ
def XW (l:List UInt8)(v:Int)(w:World)(hl:l.length<=9223372036854775807):
 Cv 88 #[ai l,ah v] w (aj (eQ l v)):=by
 obtain⟨n,hn⟩:=aK l.length;have hsz:(bs l).size=n:=by rw[iH,hn]
 obtain⟨M,hM⟩:=aK (eQ l v);rw[hM];obtain⟨HM,Hn⟩:=aZ hM hn;rw[hn]at hl;clear hM hn;go_enter Tryz.func88,Tryz.ntmps88;have Hb:=hbz w;go_wp2_with fail;go_loopw[5] (λx wr=>∃k:Nat,k<=n/\x=ah (k:Int)/\((l.take k).all λc=>decide (c.toNat<=127))=true/\Bw w wr) (λx _=>n-(intOf x).toNat);case atStart=>exact⟨0,Nat.zero_le _,rfl,rfl,Hb.out⟩
 case round=>
  clear Hb;obtain⟨k,hk,rfl,hall,pb⟩:=hrel;obtain⟨pn,Hb⟩:=aZ hall pb;clear hall pb;by_cases hlt:k<n
  . have hk2:k<l.length:=by rw[Hn.out];exact hlt
    have ix:=uO l (k:Int) k hk2 rfl;obtain⟨c,hc⟩:∃c:Nat,(l[k]).toNat=c:=⟨_,rfl⟩;rw[hc]at ix;by_cases h1:128<=c
    . have h2:(128:Int)<=(c:Int):=by omega
      have lJ:M=false:=by
       rw[<-HM.out];unfold eQ;have:(l.all λc=>decide (c.toNat<=127))=false:=by rw[List.all_eq_false];exact⟨l[k],List.getElem_mem hk2,by simp;omega⟩
       rw[this];rfl
      subst lJ;go_wp2;exact bodyPost_ret (v:=aj false) (by simp[results,Tryz.results88,go_sem]) rfl ⟨rfl,dH⟩
    . have h2:¬(128:Int)<=(c:Int):=by omega
      have cn:Hid (((l.take (k+1)).all λc=>decide (c.toNat<=127))=true):=by
       show _=_
       rw[List.take_succ_eq_append_getElem hk2,List.all_append,pn.out];simp;omega
      clear hc;go_wp2;go_roundw;case rel=>exact⟨k+1,by omega,by go_num,cn.out,Hb.out⟩
      case measure=>exact bI
  . obtain rfl:k=n:=by omega
    have hme:M=decide ((k:Int)=v):=by rw[<-HM.out];have h:=pn.out;rw[List.take_of_length_le (by rw[Hn.out];exact Nat.le_refl _)]at h;unfold eQ;rw[h,Hn.out,Bool.true_and]
    have RJ:=ar hme;clear hme;go_wp2;refine bodyPost_ret (results_tmp rfl _ _ _) rfl ⟨?_,Hb.out⟩;rw[RJ.out];by_cases h:(k:Int)=v<;>simp[h]
def aoE (m:List UInt8)(l:List aQ)(j:Nat)(h:j<jk m l)(hj:j<l.length):Op.bytesLess l[j].1 m=true:=by
 induction l generalizing j with
 |nil=>simp at hj
 | cons x l ih=>
   unfold jk at h;split at h
   . rename_i hx
     cases j with
     |zero=>exact hx
     |succ j=>exact ih j zo (by simpa using hj)
   . omega
def aoF (m:List UInt8)(l:List aQ)(h:jk m l<l.length):Op.bytesLess l[jk m l].1 m=false:=by
 induction l with
 |nil=>simp at h
 | cons x l ih=>
   by_cases hx:Op.bytesLess x.1 m=true
   . have e:jk m (x::l)=jk m l+1:=by show(if _ then _ else _)=_;rw[if_pos hx]
     simp only[e]at h⊢;exact ih (by simpa using h)
   . have e:jk m (x::l)=0:=by show(if _ then _ else _)=_;rw[if_neg hx]
     simp only[e];simpa using hx
def axB (l:List aQ)(x:aQ)(k:Nat)(hk:jk x.1 l=k)(h:k<l.length)(e:l[k].1=x.1):iO l x=l.take k++[(x.1,canon (aJ l[k].2+aJ x.2))]++l.drop (k+1):=by
 have e1:(l.drop k).head?=some l[k]:=by rw[List.drop_eq_getElem_cons h];rfl
 have e2:(l.drop k).headD default=l[k]:=by rw[List.drop_eq_getElem_cons h];rfl
 rw[ahU,hk,e1,e2,if_pos (by rw[Option.map_some,e]),List.append_assoc,List.singleton_append]
def XO (l:List aQ)(x:aQ)(k:Nat)(hk:jk x.1 l=k)(h:∀h:k<l.length,l[k].1≠x.1):iO l x=l.take k++[(x.1,canon (aJ x.2))]++l.drop k:=by
 rw[ahU,hk,if_neg,List.append_assoc,List.singleton_append];intro e;by_cases hl:k<l.length
 . rw[List.drop_eq_getElem_cons hl,List.head?_cons,Option.map_some]at e;exact h hl (Option.some.inj e)
 . rw[List.drop_of_length_le zo]at e;cases e
def At.aFX {w:World}{a:Option Addr}{ts:List aQ}(h:At w a (ts.flatMap aY))(k:Nat):At w a ((ts.take k).flatMap aY):=by
 have e:(ts.take k).flatMap aY++(ts.drop k).flatMap aY=ts.flatMap aY:=by rw[<-List.flatMap_append,List.take_append_drop]
 rcases h with h|⟨b,o,rfl,hc⟩
 . rw[h]at e;exact .inl (List.append_eq_nil_iff.1 e).1
 . by_cases h0:(ts.take k).flatMap aY=[]
   . exact .inl h0
   . refine .inr ⟨b,o,rfl,λj hj=>?_⟩;rw[hc j (by rw[<-e,List.length_append];omega),<-e,List.getElem?_append_left hj]
def At.aFS {w:World}{a:Option Addr}{ts:List aQ}(h:At w a (ts.flatMap aY)){n cap:Nat}(k:Nat)(hn:ts.length=n)(hk:k<=n)(hc:n<=cap):At w (if cap=k then a else a.map (·.add (k*4))) ((ts.drop k).flatMap aY):=by
 have h1:=At.cut (size:=4) (n:=n) (k:=k) (cap:=cap) h (by rw[oU,hn]) hk hc;have e:(ts.drop k).flatMap aY=(ts.flatMap aY).drop (k*4):=by
  have e0:ts.flatMap aY=(ts.take k).flatMap aY++(ts.drop k).flatMap aY:=by rw[<-List.flatMap_append,List.take_append_drop]
  rw[e0,List.drop_append_of_le_length (by rw[oU,List.length_take];omega)];have e1:((ts.take k).flatMap aY).length=k*4:=by rw[oU,List.length_take,Nat.min_eq_left zo]
  rw[<-e1,List.drop_length,List.nil_append]
 rw[e];exact h1
def ays (a:Option Addr)(n cap:Nat)(ts:List aQ)(l:List UInt8)(s:Bool)(m:List UInt8)(e:Int)(w:World)(hn:ts.length=n)(hl:n<=65536)(hs:Sl a n cap)(ha:At w a (ts.flatMap aY))(hf:∀t∈ts,ie t.2)(hx:ie (s,m,e)):
 Cl 120 #[.slice a n cap,.agg #[ai l,aj s,ai m,ah e]] w λex w'=>∃v',ex=.returned v'/\w'.ownsRow w.heap.size 67 4 v' (iO ts (l,s,m,e)).length ((iO ts (l,s,m,e)).flatMap aY)/\Bw w w':=by
 obtain⟨i0,hi,hz0,hz1,hz2⟩:=info_parts Tryz.aFP;obtain⟨A,hA⟩:=aK (jk l ts);have hAn:A<=n:=by rw[<-hA,<-hn];exact aoD _ _
 have hgo:∀j (h:j<ts.length),j<A->Op.bytesLess ts[j].1 l=true:=λj h hj=>aoE l ts j zo h;have hst:∀(h:A<ts.length),Op.bytesLess ts[A].1 l=false:=λh=>by subst hA;exact aoF l ts h
 have OH:=hs.1;obtain⟨Hi,dF,dv,di,Lp,Rv,cn,Hs,Ha,Hf,fO,Hn⟩:=gg hi hz0 hz1 hz2 hA hgo hst hs ha hf hx hn;clear hi hz0 hz1 hz2 hA hgo hst hs ha hf hx hn;obtain⟨W,dK,Hb,Hx⟩:=jD w 67 [ai l,aj s,ai m,ah e];obtain⟨x0,x1,x2,x3⟩:=Hx.out.c4;go_enter Tryz.func120,Tryz.ntmps120;go_wp2_with fail;go_loopw[5] (λx wr=>∃k:Nat,k<=A/\x=ah (k:Int)/\au wr w.heap.size 67 [ai l,aj s,ai m,ah e]/\Bw w wr) (λx _=>n-(intOf x).toNat);case atStart=>exact⟨0,Nat.zero_le _,rfl,Hx.out,Hb.out⟩
 case round=>
  clear x0 x1 x2 x3 Hx Hb;obtain⟨k,hk,rfl,px,pb⟩:=hrel;obtain⟨Hx,Hb⟩:=aZ px pb;clear px pb;by_cases hlt:k<A
  . have hkn:k<n:=by omega
    have hk2:k<ts.length:=by rw[Hn.out];exact hkn
    obtain⟨l',s',m',e',hx'⟩:∃l s m e,ts[k]=(l,s,m,e):=⟨_,_,_,_,rfl⟩;obtain⟨b,o,rfl,cj⟩:=(Ha.out.below Hb.out).term k hk2 hx';have bD:=gJ n cap k (k:Int) (rfl:(some ⟨b,o,none⟩:Option Addr)=_) hkn rfl;have vT:Op.bytesLess (bs l').toList (bs l).toList=true:=by rw[gX,gX];have:=Rv.out k hk2 hlt;rw[hx']at this;exact this
    have Ht:Hid (bH wr b (o+k*4) [ai l',aj s',ai m',ah e']):=cj;clear cj hx';obtain⟨x0,x1,x2,x3⟩:=Hx.out.c4;obtain⟨t0,t1,t2,t3⟩:=Ht.out.w4;have xR:decide ((k:Int)<(n:Int))=true:=by simp;omega
    go_wp2_with fail;refine bV (λw'=>aF w' (w.heap.size) 0 (ai l)/\aF w' b (o+k*4) (ai l')) (λi=>Nat.blt i 100000) [(0,true),(1,true),(2,true),(3,true),(4,true),(5,true),(6,true),(7,true),(8,true),(9,true),(10,true),(11,true),(12,true),(13,true)] zk zk rfl zk zc ⟨x0,t0⟩ ?_;iterate 14 (refine pT rfl rfl ?_ (by intro w' ⟨q0,q1⟩;go_simp;try with_reducible rfl);try simp only[UU])
    simp only[bu];go_wp2;go_roundw;case rel=>exact⟨k+1,by omega,by go_num,Hx.out,Hb.out.drew⟩
    case measure=>exact bI
  . obtain rfl:k=A:=by omega
    have hkc:k<=cap:=by omega
    by_cases hkn:k<n
    . have hk2:k<ts.length:=by rw[Hn.out];exact hkn
      obtain⟨l',s',m',e',hx'⟩:∃l s m e,ts[k]=(l,s,m,e):=⟨_,_,_,_,rfl⟩;obtain⟨b,o,rfl,cj⟩:=(Ha.out.below Hb.out).term k hk2 hx';have bD:=gJ n cap k (k:Int) (rfl:(some ⟨b,o,none⟩:Option Addr)=_) hkn rfl;have vT:Op.bytesLess (bs l').toList (bs l).toList=false:=by rw[gX,gX];have:=cn.out hk2;rw[hx']at this;exact this
      have lbt:b<w.heap.size:=by obtain⟨b3,o3,h3,hw3⟩:=Ha.out.term k hk2 hx';simp only[Option.some.injEq,Addr.mk.injEq,and_true]at h3;obtain⟨rfl,rfl⟩:=h3;exact World.block_lt_of_cell? w _ (hw3.cell 0 zm)
      have Ht:Hid (bH wr b (o+k*4) [ai l',aj s',ai m',ah e']):=cj;clear cj;obtain⟨x0,x1,x2,x3⟩:=Hx.out.c4;obtain⟨t0,t1,t2,t3⟩:=Ht.out.w4;have xR:decide ((k:Int)<(n:Int))=true:=by simp;omega
      go_wp2_with fail;refine bV (λw'=>aF w' (w.heap.size) 0 (ai l)/\aF w' b (o+k*4) (ai l')) (λi=>Nat.blt i 100000) [(0,true),(1,true),(2,true),(3,true),(4,true),(5,true),(6,true),(7,true),(8,true),(9,true),(10,true),(11,true),(12,true),(13,true)] zk zk rfl zk zc ⟨x0,t0⟩ ?_;iterate 14 (refine pT rfl rfl ?_ (by intro w' ⟨q0,q1⟩;go_simp;try with_reducible rfl);try simp only[UU])
      simp only[bu];generalize uA:wr.drew=wd;have kz:au wd w.heap.size 67 [ai l,aj s,ai m,ah e]:=by rw[<-uA];exact Hx.out
      have nk:Bw w wd:=by rw[<-uA];exact Hb.out.drew
      have hpre:((ts.take k).flatMap aY).length=k*4:=by rw[oU,List.length_take,Nat.min_eq_left zo]
      have zP:=Ha.out.below nk;have zO:=zP.aFX k;obtain⟨sG,mg,FR,Gs⟩:=ej kz nk zO hpre;have szd:=nk.size;have lxd:=sG.out.lt;clear kz nk zO hpre zP uA x0 x1 x2 x3 t0 t1 t2 t3 Hx Ht Hb;go_wp2_with (at_builtin;refine vr rfl _ _ 22 rfl wd.heap.size 67 i0 _ 4 48 Tryz.underlying22 Hi.out dF.out dv.out di.out rfl zd _ 0 [] rfl (World.ownsRow_made wd #[] 0 (Nat.le_refl _) (Nat.zero_le _) zm) (some ⟨b,o,none⟩) k cap ((ts.take k).flatMap aY) rfl (Sl.some _ _ _ hkc) Gs.out (FR.out.below ((Below.refl _ wd).alloc (Nat.le_refl _) _)) (wF _) zx zo zm ?_;intro v1 w1 eH hg1 Ck);have hb1:=((Below.refl _ wd).alloc (Nat.le_refl _) _).grown hg1 zm (λk hk=>by have h9:wd.heap.size=k:=Option.some.inj hk;omega);rw[Nat.zero_add,List.nil_append]at eH;obtain⟨av,cv,rfl,_,_⟩:=dS eH;obtain⟨Hx,Hb⟩:=aZ (sG.out.below hb1) (aO mg.out hb1);obtain⟨b2,o2,iM,cj⟩:=(Ha.out.below Hb.out).term k hk2 hx';simp only[Option.some.injEq,Addr.mk.injEq,and_true]at iM;obtain⟨rfl,rfl⟩:=iM;have Ht:Hid (bH w1 b (o+k*4) [ai l',aj s',ai m',ah e']):=cj;obtain⟨ml,cu⟩:=aZ eH hb1;have hsz1:=hb1.size;have il:ie (s',m',e'):=by have:=Hf.out _ (List.getElem_mem hk2);rw[hx']at this;exact this
      have hel:ts[k]=(l',s',m',e'):=hx';clear eH hb1 hg1 Ck cj hx' vT;obtain⟨x0,x1,x2,x3⟩:=Hx.out.c4;obtain⟨t0,t1,t2,t3⟩:=Ht.out.w4;go_wp2_with fail;have NC:((bs l').toList==(bs l).toList)=decide (l'=l):=by rw[gX,gX];by_cases h:l'=l<;>simp[h]
      by_cases he:l'=l
      case neg=>
       rw[decide_eq_false he]at NC;refine bV (λw'=>aF w' (w.heap.size) 0 (ai l)/\aF w' b (o+k*4) (ai l')) (λi=>Nat.blt i 100000) [(0,true),(1,true),(2,true),(3,true),(4,true),(5,true),(6,true),(7,true),(8,true),(9,true),(10,true),(11,true),(12,true),(13,true)] zk zk rfl zk zc ⟨x0,t0⟩ ?_;iterate 14 (refine pT rfl rfl ?_ (by intro w' ⟨q0,q1⟩;go_simp;try with_reducible rfl);try simp only[UU])
       simp only[bu];have lh:=cu.out.drew;generalize jf:w1.drew=w2;have hx2:au w2 w.heap.size 67 [ai l,aj s,ai m,ah e]:=by rw[<-jf];exact Hx.out
       have hv2:w2.ownsRow wd.heap.size 67 4 (.slice av k cv) k ((ts.take k).flatMap aY):=by rw[<-jf];exact ml.out
       have dQ:=ar hv2;replace Hx:=ar hx2;replace Hb:=hbz w2;have AP:Hid (Bw wd w2):=by rw[<-jf];exact lh
       have ng:=Ha.out.below mg.out;have hz2:wd.heap.size<=w2.heap.size:=by rw[<-jf];exact hsz1
       obtain⟨S,hS⟩:=aK (aJ (s,m,e));have hps:=XO ts (l,s,m,e) k Lp.out (λ_=>by rw[hel];exact he);rw[show aJ ((l,s,m,e):aQ).2=S from hS]at hps;have uG:((ts.drop k).flatMap aY).length=(n-k) *4:=by rw[oU,List.length_drop,Hn.out]
       have hdr:=ng.aFS (n:=n) (cap:=cap) k Hn.out zo OH;have hsc:=Hs.out.cut (k:=k) (size:=4) zo;have aq4:(⟨b,o,none⟩:Addr).add (k*4)=⟨b,o+k*4,none⟩:=by unfold Addr.add;split<;>simp_all
       rw[if_neg zo,Option.map_some,aq4]at hdr hsc;obtain⟨vD,HS,AX,wQ,mR⟩:=fU hps hS uG hdr hsc;have hk1:k<=n:=by omega
       have VB:k<=cap:=by omega
       clear hps hS hx2 hv2 ng uG hdr hsc jf lh hel il x0 x1 x2 x3 t0 t1 t2 t3 NC he bD;obtain⟨x0,x1,x2,x3⟩:=Hx.out.c4;go_wp2_with fail;refine bV (λw'=>aF w' (w.heap.size) 0 (ai l)/\aF w' (w.heap.size) 1 (aj s)/\aF w' (w.heap.size) 2 (ai m)/\aF w' (w.heap.size) 3 (ah e)) (λi=>Nat.blt i 100000) [(0,true),(1,true),(2,true),(3,true),(4,true),(5,false),(6,true),(7,false),(8,false),(9,true)] zk zk rfl zk zc ⟨x0,x1,x2,x3⟩ ?_;iterate 5 (refine pT rfl rfl ?_ (by intro w' ⟨q0,q1,q2,q3⟩;go_simp;try with_reducible rfl);try simp only[UU])
       refine aR rfl rfl (λK hK=>?_);go_simp;with_reducible refine(Fw s m e S HS.out _ fO.out).mono ?_
       rintro e w4 ⟨rfl,hq⟩;have ag:Bw w2 w4:=by first|exact hq|exact bo hq
       obtain⟨Hx,x0,x1,x2,x3⟩:=dZ Hx ag;replace Hb:=az Hb ag;refine hK _ _ (λ_=>⟨x0,x1,x2,x3⟩) ?_;try simp only[UU]
       refine pT rfl rfl ?_;try simp only[UU]
       refine aR rfl rfl (λK hK=>?_);go_simp;refine hK _ _ (λ_=>⟨aV x0,aV x1,aV x2,aV x3⟩) ?_;try simp only[UU]
       refine bZ (λW5=>au W5 (w4.heap.size) 67 [ai l,aj (aC (dN S)),ai (nt (dN S).natAbs),ah (dE S)]/\Bw w4 W5) (by first|exact eo|exact eu) ?_;rintro W5 ⟨qc,ag⟩;have Am:=Hx.out.lt;replace Hx:=kB Hx ag;have Hc:=ar qc;clear qc;obtain⟨x0,x1,x2,x3⟩:=Hx.out.c4;obtain⟨c0,c1,c2,c3⟩:=Hc.out.c4;replace Hb:=az Hb ag;refine aR rfl rfl (λK hK=>?_);have eD:=ownsRow_below dQ.out Hb.out;have hs3:=Hb.out.size;refine wp_append_own _ _ _ 22 rfl wd.heap.size 67 i0 _ 4 48 Tryz.underlying22 Hi.out dF.out dv.out di.out rfl zd (.slice av k cv) k ((ts.take k).flatMap aY) rfl eD ⟨w4.heap.size,0,none⟩ 1 1 [ai l,aj (aC (dN S)),ai (nt (dN S).natAbs),ah (dE S)] rfl rfl (gW Hc.out) zy zx zo zo ?_;intro v8 w8 eV bM _;have nb:∀b,b<wd.heap.size->some b≠(Value.slice av k cv).ownBlock:=λb hb e=>by have:=dX eD b e.symm;omega
       refine hK _ _ (λ_=>⟨dc bM x0 (nb _ zo),dc bM x1 (nb _ zo),dc bM x2 (nb _ zo),dc bM x3 (nb _ zo)⟩) ?_;try simp only[UU]
       have fG:=(aO AP.out Hb.out).grown bM zo (λj e=>dX eD j e);obtain⟨gD,jb⟩:=aZ fG eV;have Cq:=bM.size;refine pT rfl rfl ?_;try simp only[UU]
       simp only[bu];clear nb eD eV bM fG x0 x1 x2 x3 c0 c1 c2 c3;go_wp2_with (at_builtin;refine vr rfl _ _ 22 rfl wd.heap.size 67 i0 _ 4 48 Tryz.underlying22 Hi.out dF.out dv.out di.out rfl zd v8 (k+1) _ rfl jb.out _ (n-k) (cap-k) ((ts.drop k).flatMap aY) rfl mR.out AX.out (wQ.out.below gD.out) (wF _) zx zo zo ?_;intro v9 w9 fT mC Jz);all_goals
        go_ret
        refine⟨v9,rfl,?_,(aO mg.out gD.out).grown mC zo (λj e=>by have:=dX jb.out j e;omega)⟩
        rw[vD.out]
        have e9:((ts.take k++[(l,canon S)]++ts.drop k).flatMap aY)=(ts.take k).flatMap aY++[ai l,aj (aC (dN S)),ai (nt (dN S).natAbs),ah (dE S)]++(ts.drop k).flatMap aY:=by rw[List.flatMap_append,List.flatMap_append];rfl
        have l9:(ts.take k++[(l,canon S)]++ts.drop k).length=k+1+(n-k):=by simp[Hn.out];omega
        rw[e9,l9]
        exact tu fT zo
      rw[decide_eq_true he]at NC;refine bV (λw'=>aF w' (w.heap.size) 0 (ai l)/\aF w' b (o+k*4) (ai l')) (λi=>Nat.blt i 100000) [(0,true),(1,true),(2,true),(3,true),(4,true),(5,true),(6,true),(7,true),(8,true),(9,true),(10,true),(11,true),(12,true),(13,true)] zk zk rfl zk zc ⟨x0,t0⟩ ?_;iterate 14 (refine pT rfl rfl ?_ (by intro w' ⟨q0,q1⟩;go_simp;try with_reducible rfl);try simp only[UU])
      simp only[bu];have lh:=cu.out.drew;generalize jf:w1.drew=w2;have hx2:au w2 w.heap.size 67 [ai l,aj s,ai m,ah e]:=by rw[<-jf];exact Hx.out
      have ht2:bH w2 b (o+k*4) [ai l',aj s',ai m',ah e']:=by rw[<-jf];exact Ht.out
      have hb2:Bw w w2:=by rw[<-jf];exact Hb.out.drew
      have hv2:w2.ownsRow wd.heap.size 67 4 (.slice av k cv) k ((ts.take k).flatMap aY):=by rw[<-jf];exact ml.out
      have dQ:=ar hv2;replace Hx:=ar hx2;replace Ht:=ar ht2;replace Hb:=hbz w2;have AP:Hid (Bw wd w2):=by rw[<-jf];exact lh
      have ng:=Ha.out.below mg.out;have hz2:wd.heap.size<=w2.heap.size:=by rw[<-jf];exact hsz1
      obtain⟨S,hS⟩:=aK (aJ (s',m',e')+aJ (s,m,e));have hps:=axB ts (l,s,m,e) k Lp.out hk2 (by rw[hel];exact he);rw[show aJ ts[k].2=aJ (s',m',e')by rw[hel],show aJ (s',m',e')+aJ ((l,s,m,e):aQ).2=S from hS]at hps;have uG:((ts.drop (k+1)).flatMap aY).length=(n-(k+1)) *4:=by rw[oU,List.length_drop,Hn.out]
      have hdr:=ng.aFS (n:=n) (cap:=cap) (k+1) Hn.out zo OH;have hsc:=Hs.out.cut (k:=k+1) (size:=4) zo;obtain⟨vD,HS,mN,AX,wQ,mR⟩:=iq hps hS il uG hdr hsc;have hk1:k+1<=n:=by omega
      have VB:k+1<=cap:=by omega
      clear hps hS hel il hx2 ht2 hb2 hv2 ng uG hdr hsc x0 x1 x2 x3 t0 t1 t2 t3 jf lh NC he bD;obtain⟨x0,x1,x2,x3⟩:=Hx.out.c4;obtain⟨t0,t1,t2,t3⟩:=Ht.out.w4;have bD:=gJ n cap k (k:Int) (rfl:(some ⟨b,o,none⟩:Option Addr)=_) hkn rfl;go_wp2_with fail;have lbx:=Hx.out.lt;refine bV (λw'=>aF w' (w.heap.size) 0 (ai l)/\aF w' (w.heap.size) 1 (aj s)/\aF w' (w.heap.size) 2 (ai m)/\aF w' (w.heap.size) 3 (ah e)/\aF w' b (o+k*4) (ai l')/\aF w' b (o+k*4+1) (aj s')/\aF w' b (o+k*4+2) (ai m')/\aF w' b (o+k*4+3) (ah e')) (λi=>Nat.blt i 100000) [(0,true),(1,true),(2,true),(3,true),(4,true),(5,true),(6,true),(7,true),(8,true),(9,true),(10,false),(11,true),(12,false),(13,false),(14,true)] zk zk rfl zk zc ⟨x0,x1,x2,x3,t0,t1,t2,t3⟩ ?_;iterate 10 (refine pT rfl rfl ?_ (by intro w' ⟨q0,q1,q2,q3,q4,q5,q6,q7⟩;go_simp;try with_reducible rfl);try simp only[UU])
      refine aR rfl rfl (λK hK=>?_);go_simp;with_reducible refine(ayn s' m' e' s m e S HS.out _ mN.out fO.out).mono ?_
      rintro e w4 ⟨rfl,hq⟩;have ag:Bw w2 w4:=by first|exact hq|exact bo hq
      obtain⟨Hx,x0,x1,x2,x3⟩:=dZ Hx ag;replace Ht:=kW Ht ag;obtain⟨t0,t1,t2,t3⟩:=Ht.out.w4;replace Hb:=az Hb ag;refine hK _ _ (λ_=>⟨x0,x1,x2,x3,t0,t1,t2,t3⟩) ?_;try simp only[UU]
      refine pT rfl rfl ?_;try simp only[UU]
      refine aR rfl rfl (λK hK=>?_);go_simp;refine hK _ _ (λ_=>⟨aV x0,aV x1,aV x2,aV x3,aV t0,aV t1,aV t2,aV t3⟩) ?_;try simp only[UU]
      refine bZ (λW5=>au W5 (w4.heap.size) 67 [ai l,aj (aC (dN S)),ai (nt (dN S).natAbs),ah (dE S)]/\Bw w4 W5) (by first|exact eo|exact eu) ?_;rintro W5 ⟨qc,ag⟩;have Am:=Hx.out.lt;replace Hx:=kB Hx ag;replace Ht:=kW Ht ag;have Hc:=ar qc;clear qc;obtain⟨x0,x1,x2,x3⟩:=Hx.out.c4;obtain⟨t0,t1,t2,t3⟩:=Ht.out.w4;obtain⟨c0,c1,c2,c3⟩:=Hc.out.c4;replace Hb:=az Hb ag;refine aR rfl rfl (λK hK=>?_);have eD:=ownsRow_below dQ.out Hb.out;have hs3:=Hb.out.size;refine wp_append_own _ _ _ 22 rfl wd.heap.size 67 i0 _ 4 48 Tryz.underlying22 Hi.out dF.out dv.out di.out rfl zd (.slice av k cv) k ((ts.take k).flatMap aY) rfl eD ⟨w4.heap.size,0,none⟩ 1 1 [ai l,aj (aC (dN S)),ai (nt (dN S).natAbs),ah (dE S)] rfl rfl (gW Hc.out) zy zx zo zo ?_;intro v8 w8 eV bM _;have nb:∀b,b<wd.heap.size->some b≠(Value.slice av k cv).ownBlock:=λb hb e=>by have:=dX eD b e.symm;omega
      refine hK _ _ (λ_=>⟨dc bM x0 (nb _ zo),dc bM x1 (nb _ zo),dc bM x2 (nb _ zo),dc bM x3 (nb _ zo),dc bM t0 (nb _ zp),dc bM t1 (nb _ zp),dc bM t2 (nb _ zp),dc bM t3 (nb _ zp)⟩) ?_;try simp only[UU]
      have fG:=(aO AP.out Hb.out).grown bM zo (λj e=>dX eD j e);obtain⟨gD,jb⟩:=aZ fG eV;have Cq:=bM.size;refine pT rfl rfl ?_;try simp only[UU]
      simp only[bu];clear nb eD eV bM fG x0 x1 x2 x3 t0 t1 t2 t3 c0 c1 c2 c3;go_wp2_with (at_builtin;refine vr rfl _ _ 22 rfl wd.heap.size 67 i0 _ 4 48 Tryz.underlying22 Hi.out dF.out dv.out di.out rfl zd v8 (k+1) _ rfl jb.out _ (n-(k+1)) (cap-(k+1)) ((ts.drop (k+1)).flatMap aY) rfl mR.out AX.out (wQ.out.below gD.out) (wF _) zx zo zo ?_;intro v9 w9 fT mC Jz);all_goals
       go_ret
       refine⟨v9,rfl,?_,(aO mg.out gD.out).grown mC zo (λj e=>by have:=dX jb.out j e;omega)⟩
       rw[vD.out]
       have e9:((ts.take k++[(l,canon S)]++ts.drop (k+1)).flatMap aY)=(ts.take k).flatMap aY++[ai l,aj (aC (dN S)),ai (nt (dN S).natAbs),ah (dE S)]++(ts.drop (k+1)).flatMap aY:=by rw[List.flatMap_append,List.flatMap_append];rfl
       have l9:(ts.take k++[(l,canon S)]++ts.drop (k+1)).length=k+1+(n-(k+1)):=by simp[Hn.out];omega
       rw[e9,l9]
       exact tu fT zo
    . obtain rfl:n=k:=by omega
      cases a with
      | none=>
        have hc0:=Hs.out.2 rfl;obtain rfl:n=0:=by omega
        subst hc0;obtain⟨x0,x1,x2,x3⟩:=Hx.out.c4;have xR:decide (((0:Nat):Int)<((0:Nat):Int))=false:=by simp
        go_wp2_with fail;refine bV (λw'=>aF w' (w.heap.size) 0 (ai l)) (λi=>Nat.blt i 100000) [(0,true),(1,true),(2,true),(3,true),(4,true),(5,true),(6,true),(7,true),(8,true),(9,true),(10,true),(11,true),(12,true),(13,true)] zk zk rfl zk zc x0 ?_;iterate 5 (refine pT rfl rfl ?_;try simp only[UU])
        refine bJ rfl rfl ?_;try simp only[UU]
        refine bJ rfl rfl ?_;try simp only[UU]
        refine bJ rfl rfl ?_;try simp only[UU]
        refine bJ rfl rfl ?_;try simp only[UU]
        refine bJ rfl rfl ?_;try simp only[UU]
        refine bJ rfl rfl ?_;try simp only[UU]
        refine bJ rfl rfl ?_;try simp only[UU]
        refine bJ rfl rfl ?_;try simp only[UU]
        refine pT rfl rfl ?_;try simp only[UU]
        simp only[bu];generalize uA:wr.drew=wd;have kz:au wd w.heap.size 67 [ai l,aj s,ai m,ah e]:=by rw[<-uA];exact Hx.out
        have nk:Bw w wd:=by rw[<-uA];exact Hb.out.drew
        have hpre:((ts.take 0).flatMap aY).length=0*4:=by rw[oU,List.length_take,Nat.min_eq_left (by have:=Hn.out;omega)]
        have zP:=Ha.out.below nk;have zO:=zP.aFX 0;have hsk:Sl none 0 0:=Hs.out;obtain⟨sG,mg,FR,Gs⟩:=ej kz nk zO hpre;have szd:=nk.size;have lxd:=sG.out.lt;clear kz nk zO hpre zP uA x0 x1 x2 x3 Hx Hb;go_wp2_with (at_builtin;refine vr rfl _ _ 22 rfl wd.heap.size 67 i0 _ 4 48 Tryz.underlying22 Hi.out dF.out dv.out di.out rfl zd _ 0 [] rfl (World.ownsRow_made wd #[] 0 (Nat.le_refl _) (Nat.zero_le _) zm) none 0 0 ((ts.take 0).flatMap aY) rfl hsk Gs.out (FR.out.below ((Below.refl _ wd).alloc (Nat.le_refl _) _)) (wF _) (by simp[maxLen]) zo zm ?_;intro v1 w1 eH hg1 Ck);have hb1:=((Below.refl _ wd).alloc (Nat.le_refl _) _).grown hg1 zm (λk hk=>by have h9:wd.heap.size=k:=Option.some.inj hk;omega);rw[Nat.zero_add,List.nil_append]at eH;obtain⟨av,cv,rfl,_,_⟩:=dS eH;obtain⟨Hx,Hb,ml,cu⟩:=ej (sG.out.below hb1) (aO mg.out hb1) eH hb1;have hsz1:=hb1.size;clear eH hb1 hg1 Ck;obtain⟨x0,x1,x2,x3⟩:=Hx.out.c4;go_wp2_with fail;refine bV (λw'=>aF w' (w.heap.size) 0 (ai l)) (λi=>Nat.blt i 100000) [(0,true),(1,true),(2,true),(3,true),(4,true),(5,true),(6,true),(7,true),(8,true),(9,true),(10,true),(11,true),(12,true),(13,true)] zk zk rfl zk zc x0 ?_;iterate 5 (refine pT rfl rfl ?_;try simp only[UU])
        refine bJ rfl rfl ?_;try simp only[UU]
        refine bJ rfl rfl ?_;try simp only[UU]
        refine bJ rfl rfl ?_;try simp only[UU]
        refine bJ rfl rfl ?_;try simp only[UU]
        refine bJ rfl rfl ?_;try simp only[UU]
        refine bJ rfl rfl ?_;try simp only[UU]
        refine bJ rfl rfl ?_;try simp only[UU]
        refine bJ rfl rfl ?_;try simp only[UU]
        refine pT rfl rfl ?_;try simp only[UU]
        simp only[bu];have lh:=cu.out.drew;generalize jf:w1.drew=w2;have hx2:au w2 w.heap.size 67 [ai l,aj s,ai m,ah e]:=by rw[<-jf];exact Hx.out
        have hv2:w2.ownsRow wd.heap.size 67 4 (.slice av 0 cv) 0 ((ts.take 0).flatMap aY):=by rw[<-jf];exact ml.out
        have dQ:=ar hv2;replace Hx:=ar hx2;replace Hb:=hbz w2;have AP:Hid (Bw wd w2):=by rw[<-jf];exact lh
        have ng:=Ha.out.below mg.out;have hz2:wd.heap.size<=w2.heap.size:=by rw[<-jf];exact hsz1
        obtain⟨S,hS⟩:=aK (aJ (s,m,e));have hps:=XO ts (l,s,m,e) 0 Lp.out (λh=>absurd h (by have:=Hn.out;omega));rw[show aJ ((l,s,m,e):aQ).2=S from hS]at hps;have uG:((ts.drop 0).flatMap aY).length=(0-0) *4:=by rw[oU,List.length_drop,Hn.out]
        have hdr:=ng.aFS (n:=0) (cap:=0) 0 Hn.out zo OH;have hsc:=Hs.out.cut (k:=0) (size:=4) zo;obtain⟨vD,HS,AX,wQ,mR⟩:=fU hps hS uG hdr hsc;have hk1:0<=0:=by omega
        have VB:0<=0:=by omega
        clear hps hS hx2 hv2 ng uG hdr hsc jf lh x0 x1 x2 x3;obtain⟨x0,x1,x2,x3⟩:=Hx.out.c4;go_wp2_with fail;refine bV (λw'=>aF w' (w.heap.size) 0 (ai l)/\aF w' (w.heap.size) 1 (aj s)/\aF w' (w.heap.size) 2 (ai m)/\aF w' (w.heap.size) 3 (ah e)) (λi=>Nat.blt i 100000) [(0,true),(1,true),(2,true),(3,true),(4,true),(5,false),(6,true),(7,false),(8,false),(9,true)] zk zk rfl zk zc ⟨x0,x1,x2,x3⟩ ?_;iterate 5 (refine pT rfl rfl ?_ (by intro w' ⟨q0,q1,q2,q3⟩;go_simp;try with_reducible rfl);try simp only[UU])
        refine aR rfl rfl (λK hK=>?_);go_simp;with_reducible refine(Fw s m e S HS.out _ fO.out).mono ?_
        rintro e w4 ⟨rfl,hq⟩;have ag:Bw w2 w4:=by first|exact hq|exact bo hq
        obtain⟨Hx,x0,x1,x2,x3⟩:=dZ Hx ag;replace Hb:=az Hb ag;refine hK _ _ (λ_=>⟨x0,x1,x2,x3⟩) ?_;try simp only[UU]
        refine pT rfl rfl ?_;try simp only[UU]
        refine aR rfl rfl (λK hK=>?_);go_simp;refine hK _ _ (λ_=>⟨aV x0,aV x1,aV x2,aV x3⟩) ?_;try simp only[UU]
        refine bZ (λW5=>au W5 (w4.heap.size) 67 [ai l,aj (aC (dN S)),ai (nt (dN S).natAbs),ah (dE S)]/\Bw w4 W5) (by first|exact eo|exact eu) ?_;rintro W5 ⟨qc,ag⟩;have Am:=Hx.out.lt;replace Hx:=kB Hx ag;have Hc:=ar qc;clear qc;obtain⟨x0,x1,x2,x3⟩:=Hx.out.c4;obtain⟨c0,c1,c2,c3⟩:=Hc.out.c4;replace Hb:=az Hb ag;refine aR rfl rfl (λK hK=>?_);have eD:=ownsRow_below dQ.out Hb.out;have hs3:=Hb.out.size;refine wp_append_own _ _ _ 22 rfl wd.heap.size 67 i0 _ 4 48 Tryz.underlying22 Hi.out dF.out dv.out di.out rfl zd (.slice av 0 cv) 0 ((ts.take 0).flatMap aY) rfl eD ⟨w4.heap.size,0,none⟩ 1 1 [ai l,aj (aC (dN S)),ai (nt (dN S).natAbs),ah (dE S)] rfl rfl (gW Hc.out) zy (by simp[maxLen]) zo zo ?_;intro v8 w8 eV bM _;have nb:∀b,b<wd.heap.size->some b≠(Value.slice av 0 cv).ownBlock:=λb hb e=>by have:=dX eD b e.symm;omega
        refine hK _ _ (λ_=>⟨dc bM x0 (nb _ zo),dc bM x1 (nb _ zo),dc bM x2 (nb _ zo),dc bM x3 (nb _ zo)⟩) ?_;try simp only[UU]
        have fG:=(aO AP.out Hb.out).grown bM zo (λj e=>dX eD j e);obtain⟨gD,jb⟩:=aZ fG eV;have Cq:=bM.size;refine pT rfl rfl ?_;try simp only[UU]
        simp only[bu];clear nb eD eV bM fG x0 x1 x2 x3 c0 c1 c2 c3;go_wp2_with (at_builtin;refine vr rfl _ _ 22 rfl wd.heap.size 67 i0 _ 4 48 Tryz.underlying22 Hi.out dF.out dv.out di.out rfl zd v8 (0+1) _ rfl jb.out none 0 0 ((ts.drop 0).flatMap aY) rfl mR.out AX.out (wQ.out.below gD.out) (wF _) (by simp[maxLen]) zo zo ?_;intro v9 w9 fT mC Jz);all_goals
         go_ret
         refine⟨v9,rfl,?_,(aO mg.out gD.out).grown mC zo (λj e=>by have:=dX jb.out j e;omega)⟩
         rw[vD.out]
         have e9:((ts.take 0++[(l,canon S)]++ts.drop 0).flatMap aY)=(ts.take 0).flatMap aY++[ai l,aj (aC (dN S)),ai (nt (dN S).natAbs),ah (dE S)]++(ts.drop 0).flatMap aY:=by rw[List.flatMap_append,List.flatMap_append];rfl
         have l9:(ts.take 0++[(l,canon S)]++ts.drop 0).length=0+1+0:=by simp[Hn.out]
         rw[e9,l9]
         exact tu fT zo
      | some ad=>
        obtain⟨x0,x1,x2,x3⟩:=Hx.out.c4;have xR:decide ((n:Int)<(n:Int))=false:=by simp
        go_wp2_with fail;refine bV (λw'=>aF w' (w.heap.size) 0 (ai l)) (λi=>Nat.blt i 100000) [(0,true),(1,true),(2,true),(3,true),(4,true),(5,true),(6,true),(7,true),(8,true),(9,true),(10,true),(11,true),(12,true),(13,true)] zk zk rfl zk zc x0 ?_;iterate 5 (refine pT rfl rfl ?_;try simp only[UU])
        refine bJ rfl rfl ?_;try simp only[UU]
        refine bJ rfl rfl ?_;try simp only[UU]
        refine bJ rfl rfl ?_;try simp only[UU]
        refine bJ rfl rfl ?_;try simp only[UU]
        refine bJ rfl rfl ?_;try simp only[UU]
        refine bJ rfl rfl ?_;try simp only[UU]
        refine bJ rfl rfl ?_;try simp only[UU]
        refine bJ rfl rfl ?_;try simp only[UU]
        refine pT rfl rfl ?_;try simp only[UU]
        simp only[bu];generalize uA:wr.drew=wd;have kz:au wd w.heap.size 67 [ai l,aj s,ai m,ah e]:=by rw[<-uA];exact Hx.out
        have nk:Bw w wd:=by rw[<-uA];exact Hb.out.drew
        have hpre:((ts.take n).flatMap aY).length=n*4:=by rw[oU,List.length_take,Nat.min_eq_left (by have:=Hn.out;omega)]
        have zP:=Ha.out.below nk;have zO:=zP.aFX n;have hsk:Sl (some ad) n cap:=Hs.out;obtain⟨sG,mg,FR,Gs⟩:=ej kz nk zO hpre;have szd:=nk.size;have lxd:=sG.out.lt;clear kz nk zO hpre zP uA x0 x1 x2 x3 Hx Hb;go_wp2_with (at_builtin;refine vr rfl _ _ 22 rfl wd.heap.size 67 i0 _ 4 48 Tryz.underlying22 Hi.out dF.out dv.out di.out rfl zd _ 0 [] rfl (World.ownsRow_made wd #[] 0 (Nat.le_refl _) (Nat.zero_le _) zm) (some ad) n cap ((ts.take n).flatMap aY) rfl hsk Gs.out (FR.out.below ((Below.refl _ wd).alloc (Nat.le_refl _) _)) (wF _) zx zo zm ?_;intro v1 w1 eH hg1 Ck);have hb1:=((Below.refl _ wd).alloc (Nat.le_refl _) _).grown hg1 zm (λk hk=>by have h9:wd.heap.size=k:=Option.some.inj hk;omega);rw[Nat.zero_add,List.nil_append]at eH;obtain⟨av,cv,rfl,_,_⟩:=dS eH;obtain⟨Hx,Hb,ml,cu⟩:=ej (sG.out.below hb1) (aO mg.out hb1) eH hb1;have hsz1:=hb1.size;clear eH hb1 hg1 Ck;obtain⟨x0,x1,x2,x3⟩:=Hx.out.c4;go_wp2_with fail;refine bV (λw'=>aF w' (w.heap.size) 0 (ai l)) (λi=>Nat.blt i 100000) [(0,true),(1,true),(2,true),(3,true),(4,true),(5,true),(6,true),(7,true),(8,true),(9,true),(10,true),(11,true),(12,true),(13,true)] zk zk rfl zk zc x0 ?_;iterate 5 (refine pT rfl rfl ?_;try simp only[UU])
        refine bJ rfl rfl ?_;try simp only[UU]
        refine bJ rfl rfl ?_;try simp only[UU]
        refine bJ rfl rfl ?_;try simp only[UU]
        refine bJ rfl rfl ?_;try simp only[UU]
        refine bJ rfl rfl ?_;try simp only[UU]
        refine bJ rfl rfl ?_;try simp only[UU]
        refine bJ rfl rfl ?_;try simp only[UU]
        refine bJ rfl rfl ?_;try simp only[UU]
        refine pT rfl rfl ?_;try simp only[UU]
        simp only[bu];have lh:=cu.out.drew;generalize jf:w1.drew=w2;have hx2:au w2 w.heap.size 67 [ai l,aj s,ai m,ah e]:=by rw[<-jf];exact Hx.out
        have hv2:w2.ownsRow wd.heap.size 67 4 (.slice av n cv) n ((ts.take n).flatMap aY):=by rw[<-jf];exact ml.out
        have dQ:=ar hv2;replace Hx:=ar hx2;replace Hb:=hbz w2;have AP:Hid (Bw wd w2):=by rw[<-jf];exact lh
        have ng:=Ha.out.below mg.out;have hz2:wd.heap.size<=w2.heap.size:=by rw[<-jf];exact hsz1
        obtain⟨S,hS⟩:=aK (aJ (s,m,e));have hps:=XO ts (l,s,m,e) n Lp.out (λh=>absurd h (by have:=Hn.out;omega));rw[show aJ ((l,s,m,e):aQ).2=S from hS]at hps;have uG:((ts.drop n).flatMap aY).length=0*4:=by rw[oU,List.length_drop,Hn.out,Nat.sub_self]
        have hdr:=ng.aFS (n:=n) (cap:=cap) n Hn.out zo OH;have hsc:=Hs.out.cut (k:=n) (size:=4) zo;rw[Nat.sub_self]at hsc;obtain⟨vD,HS,AX,wQ,mR⟩:=fU hps hS uG hdr hsc;have hk1:n<=n:=by omega
        have VB:n<=cap:=by omega
        clear hps hS hx2 hv2 ng uG hdr hsc jf lh x0 x1 x2 x3;obtain⟨x0,x1,x2,x3⟩:=Hx.out.c4;go_wp2_with fail;refine bV (λw'=>aF w' (w.heap.size) 0 (ai l)/\aF w' (w.heap.size) 1 (aj s)/\aF w' (w.heap.size) 2 (ai m)/\aF w' (w.heap.size) 3 (ah e)) (λi=>Nat.blt i 100000) [(0,true),(1,true),(2,true),(3,true),(4,true),(5,false),(6,true),(7,false),(8,false),(9,true)] zk zk rfl zk zc ⟨x0,x1,x2,x3⟩ ?_;iterate 5 (refine pT rfl rfl ?_ (by intro w' ⟨q0,q1,q2,q3⟩;go_simp;try with_reducible rfl);try simp only[UU])
        refine aR rfl rfl (λK hK=>?_);go_simp;with_reducible refine(Fw s m e S HS.out _ fO.out).mono ?_
        rintro e w4 ⟨rfl,hq⟩;have ag:Bw w2 w4:=by first|exact hq|exact bo hq
        obtain⟨Hx,x0,x1,x2,x3⟩:=dZ Hx ag;replace Hb:=az Hb ag;refine hK _ _ (λ_=>⟨x0,x1,x2,x3⟩) ?_;try simp only[UU]
        refine pT rfl rfl ?_;try simp only[UU]
        refine aR rfl rfl (λK hK=>?_);go_simp;refine hK _ _ (λ_=>⟨aV x0,aV x1,aV x2,aV x3⟩) ?_;try simp only[UU]
        refine bZ (λW5=>au W5 (w4.heap.size) 67 [ai l,aj (aC (dN S)),ai (nt (dN S).natAbs),ah (dE S)]/\Bw w4 W5) (by first|exact eo|exact eu) ?_;rintro W5 ⟨qc,ag⟩;have Am:=Hx.out.lt;replace Hx:=kB Hx ag;have Hc:=ar qc;clear qc;obtain⟨x0,x1,x2,x3⟩:=Hx.out.c4;obtain⟨c0,c1,c2,c3⟩:=Hc.out.c4;replace Hb:=az Hb ag;refine aR rfl rfl (λK hK=>?_);have eD:=ownsRow_below dQ.out Hb.out;have hs3:=Hb.out.size;refine wp_append_own _ _ _ 22 rfl wd.heap.size 67 i0 _ 4 48 Tryz.underlying22 Hi.out dF.out dv.out di.out rfl zd (.slice av n cv) n ((ts.take n).flatMap aY) rfl eD ⟨w4.heap.size,0,none⟩ 1 1 [ai l,aj (aC (dN S)),ai (nt (dN S).natAbs),ah (dE S)] rfl rfl (gW Hc.out) zy zx zo zo ?_;intro v8 w8 eV bM _;have nb:∀b,b<wd.heap.size->some b≠(Value.slice av n cv).ownBlock:=λb hb e=>by have:=dX eD b e.symm;omega
        refine hK _ _ (λ_=>⟨dc bM x0 (nb _ zo),dc bM x1 (nb _ zo),dc bM x2 (nb _ zo),dc bM x3 (nb _ zo)⟩) ?_;try simp only[UU]
        have fG:=(aO AP.out Hb.out).grown bM zo (λj e=>dX eD j e);obtain⟨gD,jb⟩:=aZ fG eV;have Cq:=bM.size;refine pT rfl rfl ?_;try simp only[UU]
        simp only[bu];clear nb eD eV bM fG x0 x1 x2 x3 c0 c1 c2 c3;go_wp2_with (at_builtin;refine vr rfl _ _ 22 rfl wd.heap.size 67 i0 _ 4 48 Tryz.underlying22 Hi.out dF.out dv.out di.out rfl zd v8 (n+1) _ rfl jb.out _ 0 (cap-n) ((ts.drop n).flatMap aY) rfl mR.out AX.out (wQ.out.below gD.out) (wF _) zx zo zo ?_;intro v9 w9 fT mC Jz);all_goals
         go_ret
         refine⟨v9,rfl,?_,(aO mg.out gD.out).grown mC zo (λj e=>by have:=dX jb.out j e;omega)⟩
         rw[vD.out]
         have e9:((ts.take n++[(l,canon S)]++ts.drop n).flatMap aY)=(ts.take n).flatMap aY++[ai l,aj (aC (dN S)),ai (nt (dN S).natAbs),ah (dE S)]++(ts.drop n).flatMap aY:=by rw[List.flatMap_append,List.flatMap_append];rfl
         have l9:(ts.take n++[(l,canon S)]++ts.drop n).length=n+1+0:=by simp[Hn.out]
         rw[e9,l9]
         exact tu fT zo
def axC {C:Nat}(l:List aQ)(x:aQ)(h:∀t∈l,Sm C (aJ t.2))(hx:Sm C (aJ x.2)):∀t∈iO l x,Sm (C+1) (aJ t.2):=by
 have hc:∀X:Dyadic,Sm (C+1) X->Sm (C+1) (aJ (canon X)):=λX h=>by rw[cp];exact h
 induction l with
 |nil=>intro t ht;simp only[iO,List.mem_singleton]at ht;rw[ht];exact hc _ (hx.mono zo)
 | cons y l ih=>
   intro t ht;unfold iO at ht;split at ht
   . rcases List.mem_cons.1 ht with rfl|ht
     . exact(h _ zm).mono zo
     . exact ih (λt ht=>h t (by simp[ht])) t ht
   . split at ht
     . rcases List.mem_cons.1 ht with rfl|ht
       . exact hc _ ((h y zm).add hx)
       . exact(h t (by simp[ht])).mono zo
     . rcases List.mem_cons.1 ht with rfl|ht
       . exact hc _ (hx.mono zo)
       . exact(h t ht).mono zo
def axG {B:Nat}(l:List aQ)(h:∀t∈l,Sm B (aJ t.2)):∀t∈jg l,Sm (B+l.length) (aJ t.2):=by refine KZ (Q:=λl=>(∀t∈l,Sm B (aJ t.2))->∀t∈jg l,Sm (B+l.length) (aJ t.2)) (λ_ t ht=>by cases ht) (λl x ih h=>?_) l h;rw[Fq];have h1:=ih (λt ht=>h t (by simp[ht]));have:=axC (C:=B+l.length) (jg l) x h1 ((h x zm).mono zo);intro t ht;have h9:=this t ht;rw[List.length_append];exact h9
def axE {B:Nat}(l:List aQ)(h:∀t∈l,Sm B (aJ t.2))(hB:B+l.length<=16384):∀t∈jg l,ie t.2:=λt ht=>by have h1:=axG l h t ht;rw[ahY l t ht];exact h1.aFO hB
def arq (L:List aQ)(k:Nat)(hk:k<L.length):(L.take (k+1)).filter iw=(L.take k).filter iw++if iw L[k]then[L[k]]else[]:=by rw[List.take_succ_eq_append_getElem hk,List.filter_append];congr 1;by_cases h:iw L[k]=true<;>simp[h]
def PQ (V:Nat)(a:Option Addr)(n cap:Nat)(ts:List aQ)(B:Nat)(w:World)(hn:ts.length=n)(hl:n<=4096)(ha:At w a (ts.flatMap aY))(hf:∀t∈ts,ie t.2)(hs:∀t∈ts,Sm B (aJ t.2))(hB:B+n<=16384):
 Cl 79 #[ah (V:Int),.slice a n cap] w λex w'=>∃a' c',ex=.returned (.tuple #[.agg #[ah (V:Int),.slice a' (bP ts).length c'],ah 0])/\bE w' a' c' (bP ts)/\Bw w w':=by
 obtain⟨i0,hi,hz0,hz1,hz2⟩:=info_parts Tryz.aFP;have lK:=λk=>axE (ts.take k) (λt ht=>hs t (List.mem_of_mem_take ht)) (by rw[List.length_take];omega);have hpl:=λk=>axF (ts.take k);have ru:=arQ ts;obtain⟨C,hC⟩:=aK (bP ts);have hcl:=Br ts;rw[hC]at ru hcl⊢;obtain⟨Hi,dF,dv,di,yP,vC,Hgc,Ha,Hf,Hn⟩:=Kc hi hz0 hz1 hz2 lK hpl ru ha hf hn;have hC4:C.length<=4096:=by omega
 clear hi hz0 hz1 hz2 lK hpl ru ha hf hs hC hn hcl;obtain⟨W,dK,Hb,Hr⟩:=jD w 24 [ah 0,.slice none 0 0];obtain⟨r0,aH,r1,aI⟩:=Hr.out.g2;go_enter Tryz.func79,Tryz.ntmps79;go_wp2_with fail;have hrl:=Hr.out.lt;go_loopw[6,7] (λs6 x wr=>∃(k:Nat) (v:Value),k<=n/\x=ah (k:Int)/\v=s6/\wr.ownsRow W.heap.size 67 4 v (jg (ts.take k)).length ((jg (ts.take k)).flatMap aY)/\Bw W wr) (λ_ x _=>n-(intOf x).toNat);case atStart=>exact⟨0,_,Nat.zero_le _,rfl,rfl,World.ownsRow_nil _ _ _ _,Below.refl _ _⟩
 case round=>
  obtain⟨k,v,hk,rfl,rfl,ho,pb⟩:=hrel;by_cases hlt:k<n
  . have hk2:k<ts.length:=by rw[Hn.out];exact hlt
    obtain⟨l,s,m,e,hx⟩:∃l s m e,ts[k]=(l,s,m,e):=⟨_,_,_,_,rfl⟩;obtain⟨b,o,rfl,cj⟩:=(Ha.out.below (aO Hb.out pb)).term k hk2 hx;have bD:=gJ n cap k (k:Int) (rfl:(some ⟨b,o,none⟩:Option Addr)=_) hlt rfl;obtain⟨av,cv,rfl,zQ,_⟩:=dS ho;have JH:=yl ho;have hnx:jg (ts.take (k+1))=iO (jg (ts.take k)) (l,s,m,e):=by rw[List.take_succ_eq_append_getElem hk2,Fq,hx]
    have hp1:(jg (ts.take k)).length<=65536:=by have:=vC.out k;rw[List.length_take]at this;omega
    have dG:ie (s,m,e):=by have:=Hf.out _ (List.getElem_mem hk2);rw[hx]at this;exact this
    have hput:=λ(W':World) (hW:Bw wr W')=>ays av _ cv (jg (ts.take k)) l s m e W' rfl hp1 JH (zQ.below hW) (yP.out k) dG;rw[<-hnx]at hput;obtain⟨np,rz⟩:=aK ((jg (ts.take k)).length);rw[rz]at hput;rw[rz];obtain⟨amK,bj⟩:=aZ hput pb;have Ht:Hid (bH wr b (o+k*4) [ai l,aj s,ai m,ah e]):=cj;have gM:=pb.size;clear hput pb rz hnx hp1 dG JH zQ ho cj hx;have dD:Hid (Bw wr wr):=Below.refl _ _;obtain⟨t0,t1,t2,t3⟩:=Ht.out.w4;go_wp2_with fail;refine(amK.out _ (Below.refl _ _)).mono ?_;rintro ex w2 ⟨v2,rfl,eP,hb2⟩;obtain⟨vz,eJ⟩:=aZ (tu eP gM) (aO bj.out hb2);clear eP hb2;go_wp2;go_roundw;case rel=>exact⟨k+1,v2,by omega,by go_num,rfl,vz.out,eJ.out⟩
    case measure=>exact bI
  . obtain rfl:k=n:=by omega
    have htk:ts.take k=ts:=List.take_of_length_le (by rw[Hn.out];exact Nat.le_refl _);have lK:=yP.out k;have hpl:=vC.out k;rw[htk]at ho lK hpl;obtain⟨L,hL⟩:=aK (jg ts);have ru:=Hgc.out;rw[hL]at ho lK hpl ru;have hLn:L.length<=4096:=by rw[Hn.out]at hpl;omega
    obtain⟨N,hN⟩:=aK L.length;rw[hN]at ho hLn;obtain⟨av,cv,rfl,zQ,_⟩:=dS ho;obtain⟨wg,hwg⟩:∃wg,wg=wr:=⟨_,rfl⟩;subst hwg;obtain⟨Hav,bj,amC,HN,alL⟩:=fU zQ pb lK hN ru;have szg:=pb.size;clear zQ ho pb lK hpl ru hN hL htk;go_wp2_with fail;go_loopw[8,9] (λs8 x wr=>∃(j:Nat) (v:Value),j<=N/\x=ah (j:Int)/\v=s8/\wr.ownsRow wg.heap.size 67 4 v ((L.take j).filter iw).length (((L.take j).filter iw).flatMap aY)/\Bw wg wr) (λ_ x _=>N-(intOf x).toNat);case atStart=>exact⟨0,_,Nat.zero_le _,rfl,rfl,World.ownsRow_nil _ _ _ _,Below.refl _ _⟩
    case round=>
     obtain⟨j,v,hj,rfl,rfl,ho,qb⟩:=hrel;by_cases bC:j<N
     . have fZ:j<L.length:=by rw[HN.out];exact bC
       obtain⟨l,s,m,e,hx⟩:∃l s m e,L[j]=(l,s,m,e):=⟨_,_,_,_,rfl⟩;obtain⟨b,o,rfl,cj⟩:=(Hav.out.below qb).term j fZ hx;have bD:=gJ N cv j (j:Int) (rfl:(some ⟨b,o,none⟩:Option Addr)=_) bC rfl;have hft:=arq L j fZ;obtain⟨g,hg⟩:=aK (eG (aJ (s,m,e)));have dG:ie (s,m,e):=by have:=amC.out _ (List.getElem_mem fZ);rw[hx]at this;exact this
       have lL:=λW=>PS s m e g hg W (by have:=dG.1;simp only at this;omega);have hnz:iw L[j]= !(g==0):=by rw[hx];unfold iw;rw[show aJ ((l,s,m,e):aQ).2=aJ (s,m,e)from rfl,hg]
       rw[hnz,hx]at hft;have hfl:((L.take j).filter iw).length<=N:=by have:=List.length_filter_le iw (L.take j);rw[List.length_take]at this;omega
       have Ht:Hid (bH wr b (o+j*4) [ai l,aj s,ai m,ah e]):=cj;obtain⟨rN,jM,dQ⟩:=cX lL qb ho;have gM:=qb.size;obtain⟨F,hF⟩:=aK ((L.take j).filter iw);rw[hF]at dQ hft hfl;have Dn:=ar hft;clear lL qb ho cj hx hg dG hnz hft hF;have Hb:=hbz wr;obtain⟨t0,t1,t2,t3⟩:=Ht.out.w4;go_wp2_with fail;refine(rN.out _).mono ?_;rintro e w3 ⟨rfl,ag⟩;replace Ht:=kW Ht ag;obtain⟨t0,t1,t2,t3⟩:=Ht.out.w4;replace Hb:=az Hb ag;by_cases hg0:g=0
       . subst hg0;have hz:(((0:Int)) !=0)=false:=by decide
         have hft:=Dn.out;simp only[beq_self_eq_true,Bool.not_true,Bool.false_eq_true,if_false,List.append_nil]at hft;have Rn:=ar hft;clear hft Dn;obtain⟨Gt,RV⟩:=aZ (aO jM.out Hb.out) (ownsRow_below dQ.out Hb.out);go_wp2;go_roundw;case rel=>exact⟨j+1,v,by omega,by go_num,rfl,by rw[Rn.out];exact RV.out,Gt.out⟩
         case measure=>exact bI
       . have hz:(g !=0)=true:=by simpa using hg0
         have hz2:(g==0)=false:=by simpa using hg0
         have hft:=Dn.out;rw[hz2]at hft;simp only[Bool.not_false,if_true]at hft;have Rn:=ar hft;clear hft Dn;go_upto_region 11 with fail
         have P0:=t0;have P1:=t1;have P2:=t2;have P3:=t3;obtain⟨W5,xL,ag,Hc⟩:=cE w3 67 [ai l,aj s,ai m,ah e];replace Ht:=kW Ht ag;obtain⟨t0,t1,t2,t3⟩:=Ht.out.w4;obtain⟨c0,c1,c2,c3⟩:=Hc.out.c4;replace Hb:=az Hb ag;have Cx:=ownsRow_below dQ.out Hb.out;have hs5:=Hb.out.size;go_wp2_with (at_builtin;refine wpList_append_own_at _ rfl _ _ 22 rfl wg.heap.size 67 i0 _ 4 48 Tryz.underlying22 Hi.out dF.out dv.out di.out rfl zd v F.length (F.flatMap aY) rfl Cx ⟨w3.heap.size,0,none⟩ 1 1 [ai l,aj s,ai m,ah e] rfl rfl (gW Hc.out) zy zx zo zo ?_;intro v' w7 fg fM _ gY);have oz:=(aO jM.out Hb.out).grown fM zo (λj e=>dX Cx j e);have e7:F.flatMap aY++[ai l,aj s,ai m,ah e]=(F++[(l,s,m,e)]).flatMap aY:=by rw[List.flatMap_append];rfl
         rw[e7]at fg;obtain⟨RX,AO⟩:=aZ fg oz;clear fg oz e7 gY fM Cx P0 P1 P2 P3 t0 t1 t2 t3 c0 c1 c2 c3;go_wp2;go_roundw;case rel=>exact⟨j+1,v',by omega,by go_num,rfl,by rw[Rn.out,List.length_append];exact RX.out,AO.out⟩
         case measure=>exact bI
     . obtain rfl:j=N:=by omega
       have htk:L.take j=L:=List.take_of_length_le (by rw[HN.out];exact Nat.le_refl _);rw[htk,alL.out]at ho;obtain⟨a2,c2,rfl,_,_⟩:=dS ho;obtain⟨Ho,Sa⟩:=aZ ho (aO (aO Hb.out bj.out) qb);have lI:=bj.out.size;have Md:=ar (Hr.out.below (aO bj.out qb));have h4:¬(4096:Int)<(C.length:Int):=by omega
       have h4d:decide ((4096:Int)<(C.length:Int))=false:=by simp;omega
       clear ho htk qb;have Hr:=Md;obtain⟨r0,aH,r1,aI⟩:=Hr.out.g2;go_wp2;refine DR (Md.out) Ho.out Sa.out zo ?_;intro w9 kx fT ez;obtain⟨p0,p1⟩:=kx.c2;exact bodyPost_ret (v:=.tuple #[.agg #[ah (V:Int),.slice a2 C.length c2],ah 0]) (by simp[results,Tryz.results79,go_sem,p0,p1]) rfl ⟨_,_,rfl,CM fT,ez⟩
end Go.Proofs.YtnjfebkelecgaaaGreatDoor
