/- Packages ogeeref07,ogeeref08: May;put. -/
import Derived.Test.YtnjfebkelecgaaaGreatDoorZ7
import Derived.Test.YtnjfebkelecgaaaGreatDoorZ17
import Derived.Test.YtnjfebkelecgaaaGreatDoorZ13
import Derived.Test.YtnjfebkelecgaaaGreatDoorZ14
set_option linter.all false
set_option maxRecDepth 100000
set_option maxHeartbeats 16000000
namespace Go.Proofs.YtnjfebkelecgaaaGreatDoor
open Go.RowKit
attribute [local go_sem ↓] Go.wp_at_zero Go.wp_at_succ
def WB (l:List UInt8)(v:Int)(w:World)(hl:l.length<=9223372036854775807):
 Cv 88 #[ai l,ah v] w (aj (eN l v)):=by
 obtain⟨n,hn⟩:=aI l.length;have hsz:(bs l).size=n:=by rw[gY,hn]
 obtain⟨M,hM⟩:=aI (eN l v);rw[hM];obtain⟨HM,Hn⟩:=aU hM hn;rw[hn]at hl;clear hM hn;go_enter Tryz.func88,Tryz.ntmps88;have Hb:=hbz w;go_wp2_with fail;go_loopw[5] (λx wr=>∃k:Nat,k<=n/\x=ah (k:Int)/\((l.take k).all λc=>decide (c.toNat<=127))=true/\Bw w wr) (λx _=>n-(intOf x).toNat);case atStart=>exact⟨0,Nat.zero_le _,rfl,rfl,Hb.out⟩
 case round=>
  clear Hb;obtain⟨k,hk,rfl,hall,pb⟩:=hrel;obtain⟨mJ,Hb⟩:=aU hall pb;clear hall pb;by_cases hlt:k<n
  . have hk2:k<l.length:=by rw[Hn.out];exact hlt
    have ix:=uv l (k:Int) k hk2 rfl;obtain⟨c,hc⟩:∃c:Nat,(l[k]).toNat=c:=⟨_,rfl⟩;rw[hc]at ix;by_cases h1:128<=c
    . have h2:(128:Int)<=(c:Int):=by omega
      have rG:M=false:=by
       rw[<-HM.out];unfold eN;have:(l.all λc=>decide (c.toNat<=127))=false:=by rw[List.all_eq_false];exact⟨l[k],List.getElem_mem hk2,by simp;omega⟩
       rw[this];rfl
      subst rG;go_wp2;exact bodyPost_ret (v:=aj false) (by simp[results,Tryz.results88,go_sem]) rfl ⟨rfl,dt⟩
    . have h2:¬(128:Int)<=(c:Int):=by omega
      have cu:Hid (((l.take (k+1)).all λc=>decide (c.toNat<=127))=true):=by
       show _=_
       rw[List.take_succ_eq_append_getElem hk2,List.all_append,mJ.out];simp;omega
      clear hc;go_wp2;go_roundw;case rel=>exact⟨k+1,by omega,by go_num,cu.out,Hb.out⟩
      case measure=>exact bH
  . obtain rfl:k=n:=by omega
    have hme:M=decide ((k:Int)=v):=by rw[<-HM.out];have h:=mJ.out;rw[List.take_of_length_le (by rw[Hn.out];exact Nat.le_refl _)]at h;unfold eN;rw[h,Hn.out,Bool.true_and]
    have Qz:=az hme;clear hme;go_wp2;refine bodyPost_ret (results_tmp rfl _ _ _) rfl ⟨?_,Hb.out⟩;rw[Qz.out];by_cases h:(k:Int)=v<;>simp[h]
def amS (m:List UInt8)(l:List aM)(j:Nat)(h:j<iX m l)(hj:j<l.length):Op.bytesLess l[j].1 m=true:=by
 induction l generalizing j with
 |nil=>simp at hj
 | cons x l ih=>
   unfold iX at h;split at h
   . rename_i hx
     cases j with
     |zero=>exact hx
     |succ j=>exact ih j zo (by simpa using hj)
   . omega
def amT (m:List UInt8)(l:List aM)(h:iX m l<l.length):Op.bytesLess l[iX m l].1 m=false:=by
 induction l with
 |nil=>simp at h
 | cons x l ih=>
   by_cases hx:Op.bytesLess x.1 m=true
   . have e:iX m (x::l)=iX m l+1:=by show(if _ then _ else _)=_;rw[if_pos hx]
     simp only[e]at h⊢;exact ih (by simpa using h)
   . have e:iX m (x::l)=0:=by show(if _ then _ else _)=_;rw[if_neg hx]
     simp only[e];simpa using hx
def ave (l:List aM)(x:aM)(k:Nat)(hk:iX x.1 l=k)(h:k<l.length)(e:l[k].1=x.1):ik l x=l.take k++[(x.1,canon (aJ l[k].2+aJ x.2))]++l.drop (k+1):=by
 have e1:(l.drop k).head?=some l[k]:=by rw[List.drop_eq_getElem_cons h];rfl
 have e2:(l.drop k).headD default=l[k]:=by rw[List.drop_eq_getElem_cons h];rfl
 rw[agw,hk,e1,e2,if_pos (by rw[Option.map_some,e]),List.append_assoc,List.singleton_append]
def Wv (l:List aM)(x:aM)(k:Nat)(hk:iX x.1 l=k)(h:∀h:k<l.length,l[k].1≠x.1):ik l x=l.take k++[(x.1,canon (aJ x.2))]++l.drop k:=by
 rw[agw,hk,if_neg,List.append_assoc,List.singleton_append];intro e;by_cases hl:k<l.length
 . rw[List.drop_eq_getElem_cons hl,List.head?_cons,Option.map_some]at e;exact h hl (Option.some.inj e)
 . rw[List.drop_of_length_le zo]at e;cases e
def At.aCw {w:World}{a:Option Addr}{ts:List aM}(h:At w a (ts.flatMap aW))(k:Nat):At w a ((ts.take k).flatMap aW):=by
 have e:(ts.take k).flatMap aW++(ts.drop k).flatMap aW=ts.flatMap aW:=by rw[<-List.flatMap_append,List.take_append_drop]
 rcases h with h|⟨b,o,rfl,hc⟩
 . rw[h]at e;exact .inl (List.append_eq_nil_iff.1 e).1
 . by_cases h0:(ts.take k).flatMap aW=[]
   . exact .inl h0
   . refine .inr ⟨b,o,rfl,λj hj=>?_⟩;rw[hc j (by rw[<-e,List.length_append];omega),<-e,List.getElem?_append_left hj]
def At.aCs {w:World}{a:Option Addr}{ts:List aM}(h:At w a (ts.flatMap aW)){n cap:Nat}(k:Nat)(hn:ts.length=n)(hk:k<=n)(hc:n<=cap):At w (if cap=k then a else a.map (·.add (k*4))) ((ts.drop k).flatMap aW):=by
 have h1:=At.cut (size:=4) (n:=n) (k:=k) (cap:=cap) h (by rw[oC,hn]) hk hc;have e:(ts.drop k).flatMap aW=(ts.flatMap aW).drop (k*4):=by
  have e0:ts.flatMap aW=(ts.take k).flatMap aW++(ts.drop k).flatMap aW:=by rw[<-List.flatMap_append,List.take_append_drop]
  rw[e0,List.drop_append_of_le_length (by rw[oC,List.length_take];omega)];have e1:((ts.take k).flatMap aW).length=k*4:=by rw[oC,List.length_take,Nat.min_eq_left zo]
  rw[<-e1,List.drop_length,List.nil_append]
 rw[e];exact h1
def awf (a:Option Addr)(n cap:Nat)(ts:List aM)(l:List UInt8)(s:Bool)(m:List UInt8)(e:Int)(w:World)(hn:ts.length=n)(hl:n<=65536)(hs:Sl a n cap)(ha:At w a (ts.flatMap aW))(hf:∀t∈ts,eI t.2)(hx:eI (s,m,e)):
 Cl 120 #[.slice a n cap,.agg #[ai l,aj s,ai m,ah e]] w λex w'=>∃v',ex=.returned v'/\w'.ownsRow w.heap.size 67 4 v' (ik ts (l,s,m,e)).length ((ik ts (l,s,m,e)).flatMap aW)/\Bw w w':=by
 obtain⟨i0,hi,hz0,hz1,hz2⟩:=info_parts Tryz.aCo;obtain⟨A,hA⟩:=aI (iX l ts);have hAn:A<=n:=by rw[<-hA,<-hn];exact amR _ _
 have hgo:∀j (h:j<ts.length),j<A->Op.bytesLess ts[j].1 l=true:=λj h hj=>amS l ts j zo h;have hst:∀(h:A<ts.length),Op.bytesLess ts[A].1 l=false:=λh=>by subst hA;exact amT l ts h
 have NN:=hs.1;obtain⟨Hi,cV,cW,cC,KC,Hgo,cu,Hs,Ha,Hf,gF,Hn⟩:=fu hi hz0 hz1 hz2 hA hgo hst hs ha hf hx hn;clear hi hz0 hz1 hz2 hA hgo hst hs ha hf hx hn;obtain⟨W,cP,ag,aC⟩:=gz w 67 [ai l,aj s,ai m,ah e];go_enter Tryz.func120,Tryz.ntmps120;go_wp2_with fail;go_loopw[5] (λx wr=>∃k:Nat,k<=A/\x=ah (k:Int)/\aH wr w.heap.size 67 [ai l,aj s,ai m,ah e]/\Bw w wr) (λx _=>n-(intOf x).toNat);case atStart=>exact⟨0,Nat.zero_le _,rfl,ag.2.1.out,ag.1.out⟩
 case round=>
  skip
  obtain⟨k,hk,rfl,px,pb⟩:=hrel;obtain⟨Hx,Hb⟩:=aU px pb;clear px pb;by_cases hlt:k<A
  . have hkn:k<n:=by omega
    have hk2:k<ts.length:=by rw[Hn.out];exact hkn
    obtain⟨l',s',m',e',hx'⟩:∃l s m e,ts[k]=(l,s,m,e):=⟨_,_,_,_,rfl⟩;obtain⟨b,o,rfl,cn⟩:=(Ha.out.below Hb.out).term k hk2 hx';have bC:=gQ n cap k (k:Int) (rfl:(some ⟨b,o,none⟩:Option Addr)=_) hkn rfl;have IV:Op.bytesLess (bs l').toList (bs l).toList=true:=by rw[fL,fL];have:=Hgo.out k hk2 hlt;rw[hx']at this;exact this
    have Ht:Hid (bA wr b (o+k*4) [ai l',aj s',ai m',ah e']):=cn;clear cn hx';obtain⟨ag,aC⟩:=qZ (Hx.an<|Ht.an trivial);have xd:decide ((k:Int)<(n:Int))=true:=by simp;omega
    go_wp2_with fail;refine dG 999 ag (dD 14 0x1b19171513110f0d0b0907050301) ?_;refine bU ?_;refine dF ag λaC=>?_;go_wp2;go_roundw;case rel=>exact⟨k+1,by omega,by go_num,ag.1.out,Hb.out.drew⟩
    case measure=>exact bH
  . obtain rfl:k=A:=by omega
    have hkc:k<=cap:=by omega
    by_cases hkn:k<n
    . have hk2:k<ts.length:=by rw[Hn.out];exact hkn
      obtain⟨l',s',m',e',hx'⟩:∃l s m e,ts[k]=(l,s,m,e):=⟨_,_,_,_,rfl⟩;obtain⟨b,o,rfl,cn⟩:=(Ha.out.below Hb.out).term k hk2 hx';have bC:=gQ n cap k (k:Int) (rfl:(some ⟨b,o,none⟩:Option Addr)=_) hkn rfl;have IV:Op.bytesLess (bs l').toList (bs l).toList=false:=by rw[fL,fL];have:=cu.out hk2;rw[hx']at this;exact this
      have lbt:b<w.heap.size:=by obtain⟨b3,o3,h3,hw3⟩:=Ha.out.term k hk2 hx';simp only[Option.some.injEq,Addr.mk.injEq,and_true]at h3;obtain⟨rfl,rfl⟩:=h3;exact World.block_lt_of_cell? w _ (hw3.cell 0 zm)
      have Ht:Hid (bA wr b (o+k*4) [ai l',aj s',ai m',ah e']):=cn;clear cn;obtain⟨ag,aC⟩:=qZ (Hx.an<|Ht.an trivial);have xd:decide ((k:Int)<(n:Int))=true:=by simp;omega
      go_wp2_with fail;refine dG 999 ag (dD 14 0x1b19171513110f0d0b0907050301) ?_;refine bU ?_;refine dF ag λaC=>?_;generalize ua:wr.drew=wd;have jK:aH wd w.heap.size 67 [ai l,aj s,ai m,ah e]:=by rw[<-ua];exact ag.1.out
      have jg:Bw w wd:=by rw[<-ua];exact Hb.out.drew
      have hpre:((ts.take k).flatMap aW).length=k*4:=by rw[oC,List.length_take,Nat.min_eq_left zo]
      have yP:=Ha.out.below jg;have yO:=yP.aCw k;obtain⟨uW,ju,Ff,FV⟩:=dP jK jg yO hpre;have szd:=jg.size;have lxd:=uW.out.lt;clear jK jg yO hpre yP ua Hb;go_wp2_with (at_builtin;refine qR rfl _ _ 22 rfl wd.heap.size 67 i0 _ 4 48 Tryz.underlying22 Hi.out cV.out cW.out cC.out rfl zd _ 0 [] rfl (World.ownsRow_made wd #[] 0 (Nat.le_refl _) (Nat.zero_le _) zm) (some ⟨b,o,none⟩) k cap ((ts.take k).flatMap aW) rfl (Sl.some _ _ _ hkc) FV.out (Ff.out.below ((Below.refl _ wd).alloc (Nat.le_refl _) _)) (uF _) zx zo zm ?_;intro v1 w1 dh hg1 un);have hb1:=((Below.refl _ wd).alloc (Nat.le_refl _) _).grown hg1 zm (λk hk=>by have h9:wd.heap.size=k:=Option.some.inj hk;omega);rw[Nat.zero_add,List.nil_append]at dh;obtain⟨av,cv,rfl,_,_⟩:=dm dh;obtain⟨Hx,Hb⟩:=aU (uW.out.below hb1) (aO ju.out hb1);obtain⟨b2,o2,gj,cn⟩:=(Ha.out.below Hb.out).term k hk2 hx';simp only[Option.some.injEq,Addr.mk.injEq,and_true]at gj;obtain⟨rfl,rfl⟩:=gj;have Ht:Hid (bA w1 b (o+k*4) [ai l',aj s',ai m',ah e']):=cn;obtain⟨lL,cm⟩:=aU dh hb1;have hsz1:=hb1.size;have gP:eI (s',m',e'):=by have:=Hf.out _ (List.getElem_mem hk2);rw[hx']at this;exact this
      have hel:ts[k]=(l',s',m',e'):=hx';clear dh hb1 hg1 un cn hx' IV;obtain⟨ag,aC⟩:=qZ (Hx.an<|Ht.an trivial);go_wp2_with fail;have MG:((bs l').toList==(bs l).toList)=decide (l'=l):=by rw[fL,fL];by_cases h:l'=l<;>simp[h]
      by_cases he:l'=l
      case neg=>
       rw[decide_eq_false he]at MG;refine dG 999 ag (dD 14 0x1b19171513110f0d0b0907050301) ?_;refine bU ?_;refine dF ag λaC=>?_;have mK:=cm.out.drew;generalize iN:w1.drew=w2;have hx2:aH w2 w.heap.size 67 [ai l,aj s,ai m,ah e]:=by rw[<-iN];exact ag.1.out
       have hv2:w2.ownsRow wd.heap.size 67 4 (.slice av k cv) k ((ts.take k).flatMap aW):=by rw[<-iN];exact lL.out
       obtain⟨dA,Hx⟩:=aU hv2 hx2;replace Hb:=hbz w2;have Ar:Hid (Bw wd w2):=by rw[<-iN];exact mK
       have nj:=Ha.out.below ju.out;have hz2:wd.heap.size<=w2.heap.size:=by rw[<-iN];exact hsz1
       obtain⟨S,hS⟩:=aI (aJ (s,m,e));have hps:=Wv ts (l,s,m,e) k KC.out (λ_=>by rw[hel];exact he);rw[show aJ ((l,s,m,e):aM).2=S from hS]at hps;have uh:((ts.drop k).flatMap aW).length=(n-k) *4:=by rw[oC,List.length_drop,Hn.out]
       have hdr:=nj.aCs (n:=n) (cap:=cap) k Hn.out zo NN;have hsc:=Hs.out.cut (k:=k) (size:=4) zo;have apk:(⟨b,o,none⟩:Addr).add (k*4)=⟨b,o+k*4,none⟩:=by unfold Addr.add;split<;>simp_all
       rw[if_neg zo,Option.map_some,apk]at hdr hsc;obtain⟨uS,HS,Av,vY,kN⟩:=fH hps hS uh hdr hsc;have hk1:k<=n:=by omega
       have NA:k<=cap:=by omega
       clear hps hS hx2 hv2 nj uh hdr hsc iN mK hel gP MG he bC;obtain⟨ag,aC⟩:=qZ (Hx.an trivial);go_wp2_with fail;obtain⟨Hx,_⟩:=ag;obtain⟨x0,x1,x2,x3⟩:=Hx.out.c4;refine ez (λw'=>aV w' (w.heap.size) 0 (ai l)/\aV w' (w.heap.size) 1 (aj s)/\aV w' (w.heap.size) 2 (ai m)/\aV w' (w.heap.size) 3 (ah e)) (λi=>Nat.blt i 100000) [(0,true),(1,true),(2,true),(3,true),(4,true),(5,false),(6,true),(7,false),(8,false),(9,true)] zk zk rfl zk zc ⟨x0,x1,x2,x3⟩ ?_;iterate 5 (refine pT rfl rfl ?_ (by intro w' ⟨q0,q1,q2,q3⟩;go_simp;try with_reducible rfl);try simp only[UU])
       refine aY rfl rfl (λK hK=>?_);go_simp;with_reducible refine(EG s m e S HS.out _ gF.out).mono ?_
       rintro e w4 ⟨rfl,hq⟩;have au:Bw w2 w4:=by first|exact hq|exact df hq
       obtain⟨Hx,x0,x1,x2,x3⟩:=xC Hx au;replace Hb:=bD Hb au;refine hK _ _ (λ_=>⟨x0,x1,x2,x3⟩) ?_;try simp only[UU]
       refine pT rfl rfl ?_;try simp only[UU]
       refine aY rfl rfl (λK hK=>?_);go_simp;refine hK _ _ (λ_=>⟨bg x0,bg x1,bg x2,bg x3⟩) ?_;try simp only[UU]
       refine cL (λW5=>aH W5 (w4.heap.size) 67 [ai l,aj (aK (dN S)),ai (nt (dN S).natAbs),ah (dE S)]/\Bw w4 W5) (by first|exact fI|exact fJ) ?_;rintro W5 ⟨qc,au⟩;have VL:=Hx.out.lt;replace Hx:=kB Hx au;have Hc:=az qc;clear qc;obtain⟨x0,x1,x2,x3⟩:=Hx.out.c4;obtain⟨c0,c1,c2,c3⟩:=Hc.out.c4;replace Hb:=bD Hb au;refine aY rfl rfl (λK hK=>?_);have dU:=ownsRow_below dA.out Hb.out;have hs3:=Hb.out.size;refine wp_append_own _ _ _ 22 rfl wd.heap.size 67 i0 _ 4 48 Tryz.underlying22 Hi.out cV.out cW.out cC.out rfl zd (.slice av k cv) k ((ts.take k).flatMap aW) rfl dU ⟨w4.heap.size,0,none⟩ 1 1 [ai l,aj (aK (dN S)),ai (nt (dN S).natAbs),ah (dE S)] rfl rfl (gK Hc.out) zy zx zo zo ?_;intro v8 w8 dY bJ _;have nb:∀b,b<wd.heap.size->some b≠(Value.slice av k cv).ownBlock:=λb hb e=>by have:=dz dU b e.symm;omega
       refine hK _ _ (λ_=>⟨cK bJ x0 (nb _ zo),cK bJ x1 (nb _ zo),cK bJ x2 (nb _ zo),cK bJ x3 (nb _ zo)⟩) ?_;try simp only[UU]
       have fG:=(aO Ar.out Hb.out).grown bJ zo (λj e=>dz dU j e);obtain⟨iU,fZ⟩:=aU fG dY;have NT:=bJ.size;refine pT rfl rfl ?_;try simp only[UU]
       simp only[bP];clear nb dU dY bJ fG x0 x1 x2 x3 c0 c1 c2 c3;go_wp2_with (at_builtin;refine qR rfl _ _ 22 rfl wd.heap.size 67 i0 _ 4 48 Tryz.underlying22 Hi.out cV.out cW.out cC.out rfl zd v8 (k+1) _ rfl fZ.out _ (n-k) (cap-k) ((ts.drop k).flatMap aW) rfl kN.out Av.out (vY.out.below iU.out) (uF _) zx zo zo ?_;intro v9 w9 fN sH UJ);all_goals
        go_ret
        refine⟨v9,rfl,?_,(aO ju.out iU.out).grown sH zo (λj e=>by have:=dz fZ.out j e;omega)⟩
        rw[uS.out]
        have e9:((ts.take k++[(l,canon S)]++ts.drop k).flatMap aW)=(ts.take k).flatMap aW++[ai l,aj (aK (dN S)),ai (nt (dN S).natAbs),ah (dE S)]++(ts.drop k).flatMap aW:=by rw[List.flatMap_append,List.flatMap_append];rfl
        have l9:(ts.take k++[(l,canon S)]++ts.drop k).length=k+1+(n-k):=by simp[Hn.out];omega
        rw[e9,l9]
        exact rM fN zo
      rw[decide_eq_true he]at MG;refine dG 999 ag (dD 14 0x1b19171513110f0d0b0907050301) ?_;refine bU ?_;refine dF ag λaC=>?_;have mK:=cm.out.drew;generalize iN:w1.drew=w2;have hx2:aH w2 w.heap.size 67 [ai l,aj s,ai m,ah e]:=by rw[<-iN];exact ag.1.out
      have ht2:bA w2 b (o+k*4) [ai l',aj s',ai m',ah e']:=by rw[<-iN];exact ag.2.1.out
      have hb2:Bw w w2:=by rw[<-iN];exact Hb.out.drew
      have hv2:w2.ownsRow wd.heap.size 67 4 (.slice av k cv) k ((ts.take k).flatMap aW):=by rw[<-iN];exact lL.out
      obtain⟨dA,Hx,Ht⟩:=cE hv2 hx2 ht2;replace Hb:=hbz w2;have Ar:Hid (Bw wd w2):=by rw[<-iN];exact mK
      have nj:=Ha.out.below ju.out;have hz2:wd.heap.size<=w2.heap.size:=by rw[<-iN];exact hsz1
      obtain⟨S,hS⟩:=aI (aJ (s',m',e')+aJ (s,m,e));have hps:=ave ts (l,s,m,e) k KC.out hk2 (by rw[hel];exact he);rw[show aJ ts[k].2=aJ (s',m',e')by rw[hel],show aJ (s',m',e')+aJ ((l,s,m,e):aM).2=S from hS]at hps;have uh:((ts.drop (k+1)).flatMap aW).length=(n-(k+1)) *4:=by rw[oC,List.length_drop,Hn.out]
      have hdr:=nj.aCs (n:=n) (cap:=cap) (k+1) Hn.out zo NN;have hsc:=Hs.out.cut (k:=k+1) (size:=4) zo;obtain⟨uS,HS,mL,Av,vY,kN⟩:=fw hps hS gP uh hdr hsc;have hk1:k+1<=n:=by omega
      have NA:k+1<=cap:=by omega
      clear hps hS hel gP hx2 ht2 hb2 hv2 nj uh hdr hsc iN mK MG he bC;obtain⟨ag,aC⟩:=qZ (Hx.an<|Ht.an trivial);have bC:=gQ n cap k (k:Int) (rfl:(some ⟨b,o,none⟩:Option Addr)=_) hkn rfl;go_wp2_with fail;have lbx:=ag.1.out.lt;obtain⟨Hx,Ht,_⟩:=ag;obtain⟨x0,x1,x2,x3⟩:=Hx.out.c4;obtain⟨t0,t1,t2,t3⟩:=Ht.out.w4;refine ez (λw'=>aV w' (w.heap.size) 0 (ai l)/\aV w' (w.heap.size) 1 (aj s)/\aV w' (w.heap.size) 2 (ai m)/\aV w' (w.heap.size) 3 (ah e)/\aV w' b (o+k*4) (ai l')/\aV w' b (o+k*4+1) (aj s')/\aV w' b (o+k*4+2) (ai m')/\aV w' b (o+k*4+3) (ah e')) (λi=>Nat.blt i 100000) [(0,true),(1,true),(2,true),(3,true),(4,true),(5,true),(6,true),(7,true),(8,true),(9,true),(10,false),(11,true),(12,false),(13,false),(14,true)] zk zk rfl zk zc ⟨x0,x1,x2,x3,t0,t1,t2,t3⟩ ?_;iterate 10 (refine pT rfl rfl ?_ (by intro w' ⟨q0,q1,q2,q3,q4,q5,q6,q7⟩;go_simp;try with_reducible rfl);try simp only[UU])
      refine aY rfl rfl (λK hK=>?_);go_simp;with_reducible refine(OM s' m' e' s m e S HS.out _ mL.out gF.out).mono ?_
      rintro e w4 ⟨rfl,hq⟩;have au:Bw w2 w4:=by first|exact hq|exact df hq
      obtain⟨Hx,x0,x1,x2,x3⟩:=xC Hx au;replace Ht:=kW Ht au;obtain⟨t0,t1,t2,t3⟩:=Ht.out.w4;replace Hb:=bD Hb au;refine hK _ _ (λ_=>⟨x0,x1,x2,x3,t0,t1,t2,t3⟩) ?_;try simp only[UU]
      refine pT rfl rfl ?_;try simp only[UU]
      refine aY rfl rfl (λK hK=>?_);go_simp;refine hK _ _ (λ_=>⟨bg x0,bg x1,bg x2,bg x3,bg t0,bg t1,bg t2,bg t3⟩) ?_;try simp only[UU]
      refine cL (λW5=>aH W5 (w4.heap.size) 67 [ai l,aj (aK (dN S)),ai (nt (dN S).natAbs),ah (dE S)]/\Bw w4 W5) (by first|exact fI|exact fJ) ?_;rintro W5 ⟨qc,au⟩;have VL:=Hx.out.lt;replace Hx:=kB Hx au;replace Ht:=kW Ht au;have Hc:=az qc;clear qc;obtain⟨x0,x1,x2,x3⟩:=Hx.out.c4;obtain⟨t0,t1,t2,t3⟩:=Ht.out.w4;obtain⟨c0,c1,c2,c3⟩:=Hc.out.c4;replace Hb:=bD Hb au;refine aY rfl rfl (λK hK=>?_);have dU:=ownsRow_below dA.out Hb.out;have hs3:=Hb.out.size;refine wp_append_own _ _ _ 22 rfl wd.heap.size 67 i0 _ 4 48 Tryz.underlying22 Hi.out cV.out cW.out cC.out rfl zd (.slice av k cv) k ((ts.take k).flatMap aW) rfl dU ⟨w4.heap.size,0,none⟩ 1 1 [ai l,aj (aK (dN S)),ai (nt (dN S).natAbs),ah (dE S)] rfl rfl (gK Hc.out) zy zx zo zo ?_;intro v8 w8 dY bJ _;have nb:∀b,b<wd.heap.size->some b≠(Value.slice av k cv).ownBlock:=λb hb e=>by have:=dz dU b e.symm;omega
      refine hK _ _ (λ_=>⟨cK bJ x0 (nb _ zo),cK bJ x1 (nb _ zo),cK bJ x2 (nb _ zo),cK bJ x3 (nb _ zo),cK bJ t0 (nb _ zp),cK bJ t1 (nb _ zp),cK bJ t2 (nb _ zp),cK bJ t3 (nb _ zp)⟩) ?_;try simp only[UU]
      have fG:=(aO Ar.out Hb.out).grown bJ zo (λj e=>dz dU j e);obtain⟨iU,fZ⟩:=aU fG dY;have NT:=bJ.size;refine pT rfl rfl ?_;try simp only[UU]
      simp only[bP];clear nb dU dY bJ fG x0 x1 x2 x3 t0 t1 t2 t3 c0 c1 c2 c3;go_wp2_with (at_builtin;refine qR rfl _ _ 22 rfl wd.heap.size 67 i0 _ 4 48 Tryz.underlying22 Hi.out cV.out cW.out cC.out rfl zd v8 (k+1) _ rfl fZ.out _ (n-(k+1)) (cap-(k+1)) ((ts.drop (k+1)).flatMap aW) rfl kN.out Av.out (vY.out.below iU.out) (uF _) zx zo zo ?_;intro v9 w9 fN sH UJ);all_goals
       go_ret
       refine⟨v9,rfl,?_,(aO ju.out iU.out).grown sH zo (λj e=>by have:=dz fZ.out j e;omega)⟩
       rw[uS.out]
       have e9:((ts.take k++[(l,canon S)]++ts.drop (k+1)).flatMap aW)=(ts.take k).flatMap aW++[ai l,aj (aK (dN S)),ai (nt (dN S).natAbs),ah (dE S)]++(ts.drop (k+1)).flatMap aW:=by rw[List.flatMap_append,List.flatMap_append];rfl
       have l9:(ts.take k++[(l,canon S)]++ts.drop (k+1)).length=k+1+(n-(k+1)):=by simp[Hn.out];omega
       rw[e9,l9]
       exact rM fN zo
    . obtain rfl:n=k:=by omega
      cases a with
      | none=>
        have hc0:=Hs.out.2 rfl;obtain rfl:n=0:=by omega
        subst hc0;obtain⟨ag,aC⟩:=qZ (Hx.an trivial);have xd:decide (((0:Nat):Int)<((0:Nat):Int))=false:=by simp
        go_wp2_with fail;refine dG 999 ag (dD 14 0x1b19171513110f0d0b0907050301) ?_;refine bU ?_;refine dF ag λaC=>?_;generalize ua:wr.drew=wd;have jK:aH wd w.heap.size 67 [ai l,aj s,ai m,ah e]:=by rw[<-ua];exact ag.1.out
        have jg:Bw w wd:=by rw[<-ua];exact Hb.out.drew
        have hpre:((ts.take 0).flatMap aW).length=0*4:=by rw[oC,List.length_take,Nat.min_eq_left (by have:=Hn.out;omega)]
        have yP:=Ha.out.below jg;have yO:=yP.aCw 0;have hsk:Sl none 0 0:=Hs.out;obtain⟨uW,ju,Ff,FV⟩:=dP jK jg yO hpre;have szd:=jg.size;have lxd:=uW.out.lt;clear jK jg yO hpre yP ua Hb;go_wp2_with (at_builtin;refine qR rfl _ _ 22 rfl wd.heap.size 67 i0 _ 4 48 Tryz.underlying22 Hi.out cV.out cW.out cC.out rfl zd _ 0 [] rfl (World.ownsRow_made wd #[] 0 (Nat.le_refl _) (Nat.zero_le _) zm) none 0 0 ((ts.take 0).flatMap aW) rfl hsk FV.out (Ff.out.below ((Below.refl _ wd).alloc (Nat.le_refl _) _)) (uF _) (by simp[maxLen]) zo zm ?_;intro v1 w1 dh hg1 un);have hb1:=((Below.refl _ wd).alloc (Nat.le_refl _) _).grown hg1 zm (λk hk=>by have h9:wd.heap.size=k:=Option.some.inj hk;omega);rw[Nat.zero_add,List.nil_append]at dh;obtain⟨av,cv,rfl,_,_⟩:=dm dh;obtain⟨Hx,Hb,lL,cm⟩:=dP (uW.out.below hb1) (aO ju.out hb1) dh hb1;have hsz1:=hb1.size;clear dh hb1 hg1 un;obtain⟨ag,aC⟩:=qZ (Hx.an trivial);go_wp2_with fail;refine dG 999 ag (dD 14 0x1b19171513110f0d0b0907050301) ?_;refine bU ?_;refine dF ag λaC=>?_;have mK:=cm.out.drew;generalize iN:w1.drew=w2;have hx2:aH w2 w.heap.size 67 [ai l,aj s,ai m,ah e]:=by rw[<-iN];exact ag.1.out
        have hv2:w2.ownsRow wd.heap.size 67 4 (.slice av 0 cv) 0 ((ts.take 0).flatMap aW):=by rw[<-iN];exact lL.out
        obtain⟨dA,Hx⟩:=aU hv2 hx2;replace Hb:=hbz w2;have Ar:Hid (Bw wd w2):=by rw[<-iN];exact mK
        have nj:=Ha.out.below ju.out;have hz2:wd.heap.size<=w2.heap.size:=by rw[<-iN];exact hsz1
        obtain⟨S,hS⟩:=aI (aJ (s,m,e));have hps:=Wv ts (l,s,m,e) 0 KC.out (λh=>absurd h (by have:=Hn.out;omega));rw[show aJ ((l,s,m,e):aM).2=S from hS]at hps;have uh:((ts.drop 0).flatMap aW).length=(0-0) *4:=by rw[oC,List.length_drop,Hn.out]
        have hdr:=nj.aCs (n:=0) (cap:=0) 0 Hn.out zo NN;have hsc:=Hs.out.cut (k:=0) (size:=4) zo;obtain⟨uS,HS,Av,vY,kN⟩:=fH hps hS uh hdr hsc;have hk1:0<=0:=by omega
        have NA:0<=0:=by omega
        clear hps hS hx2 hv2 nj uh hdr hsc iN mK;obtain⟨ag,aC⟩:=qZ (Hx.an trivial);go_wp2_with fail;obtain⟨Hx,_⟩:=ag;obtain⟨x0,x1,x2,x3⟩:=Hx.out.c4;refine ez (λw'=>aV w' (w.heap.size) 0 (ai l)/\aV w' (w.heap.size) 1 (aj s)/\aV w' (w.heap.size) 2 (ai m)/\aV w' (w.heap.size) 3 (ah e)) (λi=>Nat.blt i 100000) [(0,true),(1,true),(2,true),(3,true),(4,true),(5,false),(6,true),(7,false),(8,false),(9,true)] zk zk rfl zk zc ⟨x0,x1,x2,x3⟩ ?_;iterate 5 (refine pT rfl rfl ?_ (by intro w' ⟨q0,q1,q2,q3⟩;go_simp;try with_reducible rfl);try simp only[UU])
        refine aY rfl rfl (λK hK=>?_);go_simp;with_reducible refine(EG s m e S HS.out _ gF.out).mono ?_
        rintro e w4 ⟨rfl,hq⟩;have au:Bw w2 w4:=by first|exact hq|exact df hq
        obtain⟨Hx,x0,x1,x2,x3⟩:=xC Hx au;replace Hb:=bD Hb au;refine hK _ _ (λ_=>⟨x0,x1,x2,x3⟩) ?_;try simp only[UU]
        refine pT rfl rfl ?_;try simp only[UU]
        refine aY rfl rfl (λK hK=>?_);go_simp;refine hK _ _ (λ_=>⟨bg x0,bg x1,bg x2,bg x3⟩) ?_;try simp only[UU]
        refine cL (λW5=>aH W5 (w4.heap.size) 67 [ai l,aj (aK (dN S)),ai (nt (dN S).natAbs),ah (dE S)]/\Bw w4 W5) (by first|exact fI|exact fJ) ?_;rintro W5 ⟨qc,au⟩;have VL:=Hx.out.lt;replace Hx:=kB Hx au;have Hc:=az qc;clear qc;obtain⟨x0,x1,x2,x3⟩:=Hx.out.c4;obtain⟨c0,c1,c2,c3⟩:=Hc.out.c4;replace Hb:=bD Hb au;refine aY rfl rfl (λK hK=>?_);have dU:=ownsRow_below dA.out Hb.out;have hs3:=Hb.out.size;refine wp_append_own _ _ _ 22 rfl wd.heap.size 67 i0 _ 4 48 Tryz.underlying22 Hi.out cV.out cW.out cC.out rfl zd (.slice av 0 cv) 0 ((ts.take 0).flatMap aW) rfl dU ⟨w4.heap.size,0,none⟩ 1 1 [ai l,aj (aK (dN S)),ai (nt (dN S).natAbs),ah (dE S)] rfl rfl (gK Hc.out) zy (by simp[maxLen]) zo zo ?_;intro v8 w8 dY bJ _;have nb:∀b,b<wd.heap.size->some b≠(Value.slice av 0 cv).ownBlock:=λb hb e=>by have:=dz dU b e.symm;omega
        refine hK _ _ (λ_=>⟨cK bJ x0 (nb _ zo),cK bJ x1 (nb _ zo),cK bJ x2 (nb _ zo),cK bJ x3 (nb _ zo)⟩) ?_;try simp only[UU]
        have fG:=(aO Ar.out Hb.out).grown bJ zo (λj e=>dz dU j e);obtain⟨iU,fZ⟩:=aU fG dY;have NT:=bJ.size;refine pT rfl rfl ?_;try simp only[UU]
        simp only[bP];clear nb dU dY bJ fG x0 x1 x2 x3 c0 c1 c2 c3;go_wp2_with (at_builtin;refine qR rfl _ _ 22 rfl wd.heap.size 67 i0 _ 4 48 Tryz.underlying22 Hi.out cV.out cW.out cC.out rfl zd v8 (0+1) _ rfl fZ.out none 0 0 ((ts.drop 0).flatMap aW) rfl kN.out Av.out (vY.out.below iU.out) (uF _) (by simp[maxLen]) zo zo ?_;intro v9 w9 fN sH UJ);all_goals
         go_ret
         refine⟨v9,rfl,?_,(aO ju.out iU.out).grown sH zo (λj e=>by have:=dz fZ.out j e;omega)⟩
         rw[uS.out]
         have e9:((ts.take 0++[(l,canon S)]++ts.drop 0).flatMap aW)=(ts.take 0).flatMap aW++[ai l,aj (aK (dN S)),ai (nt (dN S).natAbs),ah (dE S)]++(ts.drop 0).flatMap aW:=by rw[List.flatMap_append,List.flatMap_append];rfl
         have l9:(ts.take 0++[(l,canon S)]++ts.drop 0).length=0+1+0:=by simp[Hn.out]
         rw[e9,l9]
         exact rM fN zo
      | some ad=>
        obtain⟨ag,aC⟩:=qZ (Hx.an trivial);have xd:decide ((n:Int)<(n:Int))=false:=by simp
        go_wp2_with fail;refine dG 999 ag (dD 14 0x1b19171513110f0d0b0907050301) ?_;refine bU ?_;refine dF ag λaC=>?_;generalize ua:wr.drew=wd;have jK:aH wd w.heap.size 67 [ai l,aj s,ai m,ah e]:=by rw[<-ua];exact ag.1.out
        have jg:Bw w wd:=by rw[<-ua];exact Hb.out.drew
        have hpre:((ts.take n).flatMap aW).length=n*4:=by rw[oC,List.length_take,Nat.min_eq_left (by have:=Hn.out;omega)]
        have yP:=Ha.out.below jg;have yO:=yP.aCw n;have hsk:Sl (some ad) n cap:=Hs.out;obtain⟨uW,ju,Ff,FV⟩:=dP jK jg yO hpre;have szd:=jg.size;have lxd:=uW.out.lt;clear jK jg yO hpre yP ua Hb;go_wp2_with (at_builtin;refine qR rfl _ _ 22 rfl wd.heap.size 67 i0 _ 4 48 Tryz.underlying22 Hi.out cV.out cW.out cC.out rfl zd _ 0 [] rfl (World.ownsRow_made wd #[] 0 (Nat.le_refl _) (Nat.zero_le _) zm) (some ad) n cap ((ts.take n).flatMap aW) rfl hsk FV.out (Ff.out.below ((Below.refl _ wd).alloc (Nat.le_refl _) _)) (uF _) zx zo zm ?_;intro v1 w1 dh hg1 un);have hb1:=((Below.refl _ wd).alloc (Nat.le_refl _) _).grown hg1 zm (λk hk=>by have h9:wd.heap.size=k:=Option.some.inj hk;omega);rw[Nat.zero_add,List.nil_append]at dh;obtain⟨av,cv,rfl,_,_⟩:=dm dh;obtain⟨Hx,Hb,lL,cm⟩:=dP (uW.out.below hb1) (aO ju.out hb1) dh hb1;have hsz1:=hb1.size;clear dh hb1 hg1 un;obtain⟨ag,aC⟩:=qZ (Hx.an trivial);go_wp2_with fail;refine dG 999 ag (dD 14 0x1b19171513110f0d0b0907050301) ?_;refine bU ?_;refine dF ag λaC=>?_;have mK:=cm.out.drew;generalize iN:w1.drew=w2;have hx2:aH w2 w.heap.size 67 [ai l,aj s,ai m,ah e]:=by rw[<-iN];exact ag.1.out
        have hv2:w2.ownsRow wd.heap.size 67 4 (.slice av n cv) n ((ts.take n).flatMap aW):=by rw[<-iN];exact lL.out
        obtain⟨dA,Hx⟩:=aU hv2 hx2;replace Hb:=hbz w2;have Ar:Hid (Bw wd w2):=by rw[<-iN];exact mK
        have nj:=Ha.out.below ju.out;have hz2:wd.heap.size<=w2.heap.size:=by rw[<-iN];exact hsz1
        obtain⟨S,hS⟩:=aI (aJ (s,m,e));have hps:=Wv ts (l,s,m,e) n KC.out (λh=>absurd h (by have:=Hn.out;omega));rw[show aJ ((l,s,m,e):aM).2=S from hS]at hps;have uh:((ts.drop n).flatMap aW).length=0*4:=by rw[oC,List.length_drop,Hn.out,Nat.sub_self]
        have hdr:=nj.aCs (n:=n) (cap:=cap) n Hn.out zo NN;have hsc:=Hs.out.cut (k:=n) (size:=4) zo;rw[Nat.sub_self]at hsc;obtain⟨uS,HS,Av,vY,kN⟩:=fH hps hS uh hdr hsc;have hk1:n<=n:=by omega
        have NA:n<=cap:=by omega
        clear hps hS hx2 hv2 nj uh hdr hsc iN mK;obtain⟨ag,aC⟩:=qZ (Hx.an trivial);go_wp2_with fail;obtain⟨Hx,_⟩:=ag;obtain⟨x0,x1,x2,x3⟩:=Hx.out.c4;refine ez (λw'=>aV w' (w.heap.size) 0 (ai l)/\aV w' (w.heap.size) 1 (aj s)/\aV w' (w.heap.size) 2 (ai m)/\aV w' (w.heap.size) 3 (ah e)) (λi=>Nat.blt i 100000) [(0,true),(1,true),(2,true),(3,true),(4,true),(5,false),(6,true),(7,false),(8,false),(9,true)] zk zk rfl zk zc ⟨x0,x1,x2,x3⟩ ?_;iterate 5 (refine pT rfl rfl ?_ (by intro w' ⟨q0,q1,q2,q3⟩;go_simp;try with_reducible rfl);try simp only[UU])
        refine aY rfl rfl (λK hK=>?_);go_simp;with_reducible refine(EG s m e S HS.out _ gF.out).mono ?_
        rintro e w4 ⟨rfl,hq⟩;have au:Bw w2 w4:=by first|exact hq|exact df hq
        obtain⟨Hx,x0,x1,x2,x3⟩:=xC Hx au;replace Hb:=bD Hb au;refine hK _ _ (λ_=>⟨x0,x1,x2,x3⟩) ?_;try simp only[UU]
        refine pT rfl rfl ?_;try simp only[UU]
        refine aY rfl rfl (λK hK=>?_);go_simp;refine hK _ _ (λ_=>⟨bg x0,bg x1,bg x2,bg x3⟩) ?_;try simp only[UU]
        refine cL (λW5=>aH W5 (w4.heap.size) 67 [ai l,aj (aK (dN S)),ai (nt (dN S).natAbs),ah (dE S)]/\Bw w4 W5) (by first|exact fI|exact fJ) ?_;rintro W5 ⟨qc,au⟩;have VL:=Hx.out.lt;replace Hx:=kB Hx au;have Hc:=az qc;clear qc;obtain⟨x0,x1,x2,x3⟩:=Hx.out.c4;obtain⟨c0,c1,c2,c3⟩:=Hc.out.c4;replace Hb:=bD Hb au;refine aY rfl rfl (λK hK=>?_);have dU:=ownsRow_below dA.out Hb.out;have hs3:=Hb.out.size;refine wp_append_own _ _ _ 22 rfl wd.heap.size 67 i0 _ 4 48 Tryz.underlying22 Hi.out cV.out cW.out cC.out rfl zd (.slice av n cv) n ((ts.take n).flatMap aW) rfl dU ⟨w4.heap.size,0,none⟩ 1 1 [ai l,aj (aK (dN S)),ai (nt (dN S).natAbs),ah (dE S)] rfl rfl (gK Hc.out) zy zx zo zo ?_;intro v8 w8 dY bJ _;have nb:∀b,b<wd.heap.size->some b≠(Value.slice av n cv).ownBlock:=λb hb e=>by have:=dz dU b e.symm;omega
        refine hK _ _ (λ_=>⟨cK bJ x0 (nb _ zo),cK bJ x1 (nb _ zo),cK bJ x2 (nb _ zo),cK bJ x3 (nb _ zo)⟩) ?_;try simp only[UU]
        have fG:=(aO Ar.out Hb.out).grown bJ zo (λj e=>dz dU j e);obtain⟨iU,fZ⟩:=aU fG dY;have NT:=bJ.size;refine pT rfl rfl ?_;try simp only[UU]
        simp only[bP];clear nb dU dY bJ fG x0 x1 x2 x3 c0 c1 c2 c3;go_wp2_with (at_builtin;refine qR rfl _ _ 22 rfl wd.heap.size 67 i0 _ 4 48 Tryz.underlying22 Hi.out cV.out cW.out cC.out rfl zd v8 (n+1) _ rfl fZ.out _ 0 (cap-n) ((ts.drop n).flatMap aW) rfl kN.out Av.out (vY.out.below iU.out) (uF _) zx zo zo ?_;intro v9 w9 fN sH UJ);all_goals
         go_ret
         refine⟨v9,rfl,?_,(aO ju.out iU.out).grown sH zo (λj e=>by have:=dz fZ.out j e;omega)⟩
         rw[uS.out]
         have e9:((ts.take n++[(l,canon S)]++ts.drop n).flatMap aW)=(ts.take n).flatMap aW++[ai l,aj (aK (dN S)),ai (nt (dN S).natAbs),ah (dE S)]++(ts.drop n).flatMap aW:=by rw[List.flatMap_append,List.flatMap_append];rfl
         have l9:(ts.take n++[(l,canon S)]++ts.drop n).length=n+1+0:=by simp[Hn.out]
         rw[e9,l9]
         exact rM fN zo
def avf {C:Nat}(l:List aM)(x:aM)(h:∀t∈l,Sm C (aJ t.2))(hx:Sm C (aJ x.2)):∀t∈ik l x,Sm (C+1) (aJ t.2):=by
 have hc:∀X:Dyadic,Sm (C+1) X->Sm (C+1) (aJ (canon X)):=λX h=>by rw[cJ];exact h
 induction l with
 |nil=>intro t ht;simp only[ik,List.mem_singleton]at ht;rw[ht];exact hc _ (hx.mono zo)
 | cons y l ih=>
   intro t ht;unfold ik at ht;split at ht
   . rcases List.mem_cons.1 ht with rfl|ht
     . exact(h _ zm).mono zo
     . exact ih (λt ht=>h t (by simp[ht])) t ht
   . split at ht
     . rcases List.mem_cons.1 ht with rfl|ht
       . exact hc _ ((h y zm).add hx)
       . exact(h t (by simp[ht])).mono zo
     . rcases List.mem_cons.1 ht with rfl|ht
       . exact hc _ (hx.mono zo)
       . exact(h t ht).mono zo
def avj {B:Nat}(l:List aM)(h:∀t∈l,Sm B (aJ t.2)):∀t∈iQ l,Sm (B+l.length) (aJ t.2):=by refine Kn (Q:=λl=>(∀t∈l,Sm B (aJ t.2))->∀t∈iQ l,Sm (B+l.length) (aJ t.2)) (λ_ t ht=>by cases ht) (λl x ih h=>?_) l h;rw[ED];have h1:=ih (λt ht=>h t (by simp[ht]));have:=avf (C:=B+l.length) (iQ l) x h1 ((h x zm).mono zo);intro t ht;have h9:=this t ht;rw[List.length_append];exact h9
def avh {B:Nat}(l:List aM)(h:∀t∈l,Sm B (aJ t.2))(hB:B+l.length<=16384):∀t∈iQ l,eI t.2:=λt ht=>by have h1:=avj l h t ht;rw[agA l t ht];exact h1.aCl hB
def apD (L:List aM)(k:Nat)(hk:k<L.length):(L.take (k+1)).filter iG=(L.take k).filter iG++if iG L[k]then[L[k]]else[]:=by rw[List.take_succ_eq_append_getElem hk,List.filter_append];congr 1;by_cases h:iG L[k]=true<;>simp[h]
def OJ (V:Nat)(a:Option Addr)(n cap:Nat)(ts:List aM)(B:Nat)(w:World)(hn:ts.length=n)(hl:n<=4096)(ha:At w a (ts.flatMap aW))(hf:∀t∈ts,eI t.2)(hs:∀t∈ts,Sm B (aJ t.2))(hB:B+n<=16384):
 Cl 79 #[ah (V:Int),.slice a n cap] w λex w'=>∃a' c',ex=.returned (.tuple #[.agg #[ah (V:Int),.slice a' (bW ts).length c'],ah 0])/\bI w' a' c' (bW ts)/\Bw w w':=by
 obtain⟨i0,hi,hz0,hz1,hz2⟩:=info_parts Tryz.aCo;have lh:=λk=>avh (ts.take k) (λt ht=>hs t (List.mem_of_mem_take ht)) (by rw[List.length_take];omega);have hpl:=λk=>avi (ts.take k);have nZ:=ap1 ts;obtain⟨C,hC⟩:=aI (bW ts);have hcl:=Dm ts;rw[hC]at nZ hcl⊢;obtain⟨Hi,cV,cW,cC,uR,oM,Qm,Ha,Hf,Hn⟩:=JK hi hz0 hz1 hz2 lh hpl nZ ha hf hn;have hC4:C.length<=4096:=by omega
 clear hi hz0 hz1 hz2 lh hpl nZ ha hf hs hC hn hcl;obtain⟨W,cP,ag,aC⟩:=gz w 24 [ah 0,.slice none 0 0];go_enter Tryz.func79,Tryz.ntmps79;go_wp2_with fail;have hrl:=ag.2.1.out.lt;go_loopw[6,7] (λs6 x wr=>∃(k:Nat) (v:Value),k<=n/\x=ah (k:Int)/\v=s6/\wr.ownsRow W.heap.size 67 4 v (iQ (ts.take k)).length ((iQ (ts.take k)).flatMap aW)/\Bw W wr) (λ_ x _=>n-(intOf x).toNat);case atStart=>exact⟨0,_,Nat.zero_le _,rfl,rfl,World.ownsRow_nil _ _ _ _,Below.refl _ _⟩
 case round=>
  skip
  obtain⟨k,v,hk,rfl,rfl,ho,pb⟩:=hrel;by_cases hlt:k<n
  . have hk2:k<ts.length:=by rw[Hn.out];exact hlt
    obtain⟨l,s,m,e,hx⟩:∃l s m e,ts[k]=(l,s,m,e):=⟨_,_,_,_,rfl⟩;obtain⟨b,o,rfl,cn⟩:=(Ha.out.below (aO ag.1.out pb)).term k hk2 hx;have bC:=gQ n cap k (k:Int) (rfl:(some ⟨b,o,none⟩:Option Addr)=_) hlt rfl;obtain⟨av,cv,rfl,yQ,_⟩:=dm ho;have Jq:=uz ho;have hnx:iQ (ts.take (k+1))=ik (iQ (ts.take k)) (l,s,m,e):=by rw[List.take_succ_eq_append_getElem hk2,ED,hx]
    have hp1:(iQ (ts.take k)).length<=65536:=by have:=oM.out k;rw[List.length_take]at this;omega
    have eK:eI (s,m,e):=by have:=Hf.out _ (List.getElem_mem hk2);rw[hx]at this;exact this
    have hput:=λ(W':World) (hW:Bw wr W')=>awf av _ cv (iQ (ts.take k)) l s m e W' rfl hp1 Jq (yQ.below hW) (uR.out k) eK;rw[<-hnx]at hput;obtain⟨np,qG⟩:=aI ((iQ (ts.take k)).length);rw[qG]at hput;rw[qG];obtain⟨QO,aX⟩:=aU hput pb;have Ht:Hid (bA wr b (o+k*4) [ai l,aj s,ai m,ah e]):=cn;have fQ:=pb.size;clear hput pb qG hnx hp1 eK Jq yQ ho cn hx;have cQ:Hid (Bw wr wr):=Below.refl _ _;have Hb:=ag.1;obtain⟨ag,aC⟩:=qZ (Ht.an trivial);go_wp2_with fail;refine(QO.out _ (Below.refl _ _)).mono ?_;rintro ex w2 ⟨v2,rfl,dX,hb2⟩;obtain⟨uP,dO⟩:=aU (rM dX fQ) (aO aX.out hb2);clear dX hb2;go_wp2;go_roundw;case rel=>exact⟨k+1,v2,by omega,by go_num,rfl,uP.out,dO.out⟩
    case measure=>exact bH
  . obtain rfl:k=n:=by omega
    have htk:ts.take k=ts:=List.take_of_length_le (by rw[Hn.out];exact Nat.le_refl _);have lh:=uR.out k;have hpl:=oM.out k;rw[htk]at ho lh hpl;obtain⟨L,hL⟩:=aI (iQ ts);have nZ:=Qm.out;rw[hL]at ho lh hpl nZ;have hLn:L.length<=4096:=by rw[Hn.out]at hpl;omega
    obtain⟨N,hN⟩:=aI L.length;rw[hN]at ho hLn;obtain⟨av,cv,rfl,yQ,_⟩:=dm ho;obtain⟨wg,hwg⟩:∃wg,wg=wr:=⟨_,rfl⟩;subst hwg;obtain⟨Hav,aX,alg,HN,ake⟩:=fH yQ pb lh hN nZ;have szg:=pb.size;clear yQ ho pb lh hpl nZ hN hL htk;go_wp2_with fail;go_loopw[8,9] (λs8 x wr=>∃(j:Nat) (v:Value),j<=N/\x=ah (j:Int)/\v=s8/\wr.ownsRow wg.heap.size 67 4 v ((L.take j).filter iG).length (((L.take j).filter iG).flatMap aW)/\Bw wg wr) (λ_ x _=>N-(intOf x).toNat);case atStart=>exact⟨0,_,Nat.zero_le _,rfl,rfl,World.ownsRow_nil _ _ _ _,Below.refl _ _⟩
    case round=>
     obtain⟨j,v,hj,rfl,rfl,ho,qb⟩:=hrel;by_cases bj:j<N
     . have fS:j<L.length:=by rw[HN.out];exact bj
       obtain⟨l,s,m,e,hx⟩:∃l s m e,L[j]=(l,s,m,e):=⟨_,_,_,_,rfl⟩;obtain⟨b,o,rfl,cn⟩:=(Hav.out.below qb).term j fS hx;have bC:=gQ N cv j (j:Int) (rfl:(some ⟨b,o,none⟩:Option Addr)=_) bj rfl;have hft:=apD L j fS;obtain⟨g,hg⟩:=aI (dR (aJ (s,m,e)));have eK:eI (s,m,e):=by have:=alg.out _ (List.getElem_mem fS);rw[hx]at this;exact this
       have jI:=λW=>Kk s m e g hg W (by have:=eK.1;simp only at this;omega);have hnz:iG L[j]= !(g==0):=by rw[hx];unfold iG;rw[show aJ ((l,s,m,e):aM).2=aJ (s,m,e)from rfl,hg]
       rw[hnz,hx]at hft;have hfl:((L.take j).filter iG).length<=N:=by have:=List.length_filter_le iG (L.take j);rw[List.length_take]at this;omega
       have Ht:Hid (bA wr b (o+j*4) [ai l,aj s,ai m,ah e]):=cn;obtain⟨oO,fA,dA⟩:=cE jI qb ho;have fQ:=qb.size;obtain⟨F,hF⟩:=aI ((L.take j).filter iG);rw[hF]at dA hft hfl;have CR:=az hft;clear jI qb ho cn hx hg eK hnz hft hF;have Hb:=hbz wr;obtain⟨ag,aC⟩:=qZ (Ht.an trivial);go_wp2_with fail;refine aZ (Hb.an ag) (oO.out _) λw3 ag aC=>?_;by_cases hg0:g=0
       . subst hg0;have hz:(((0:Int)) !=0)=false:=by decide
         have hft:=CR.out;simp only[beq_self_eq_true,Bool.not_true,Bool.false_eq_true,if_false,List.append_nil]at hft;have Qh:=az hft;clear hft CR;obtain⟨Db,QJ⟩:=aU (aO fA.out ag.1.out) (ownsRow_below dA.out ag.1.out);go_wp2;go_roundw;case rel=>exact⟨j+1,v,by omega,by go_num,rfl,by rw[Qh.out];exact QJ.out,Db.out⟩
         case measure=>exact bH
       . have hz:(g !=0)=true:=by simpa using hg0
         have hz2:(g==0)=false:=by simpa using hg0
         have hft:=CR.out;rw[hz2]at hft;simp only[Bool.not_false,if_true]at hft;have Qh:=az hft;clear hft CR;go_upto_region 11 with fail
         have t1:w3.cell? ⟨b,o+j*4+1,none⟩=some (aj s):=ag.2.1.out.cell 1 zm;have t3:w3.cell? ⟨b,o+j*4+3,none⟩=some (ah e):=ag.2.1.out.cell 3 zm;have t0:w3.cell? ⟨b,o+j*4,none⟩=some (ai l):=ag.2.1.out.cell 0 zm;have t2:w3.cell? ⟨b,o+j*4+2,none⟩=some (ai m):=ag.2.1.out.cell 2 zm;have P0:=t0;have P1:=t1;have P2:=t2;have P3:=t3;obtain⟨W5,yN,bi,ag,aC⟩:=cM w3 ag 67 [ai l,aj s,ai m,ah e];have BZ:=ownsRow_below dA.out ag.2.1.out;have hs5:=ag.2.1.out.size;go_wp2_with (at_builtin;refine wpList_append_own_at _ rfl _ _ 22 rfl wg.heap.size 67 i0 _ 4 48 Tryz.underlying22 Hi.out cV.out cW.out cC.out rfl zd v F.length (F.flatMap aW) rfl BZ ⟨w3.heap.size,0,none⟩ 1 1 [ai l,aj s,ai m,ah e] rfl rfl (gK ag.1.out) zy zx zo zo ?_;intro v' w7 ey eT _ eY);have kX:=(aO fA.out ag.2.1.out).grown eT zo (λj e=>dz BZ j e);have e7:F.flatMap aW++[ai l,aj s,ai m,ah e]=(F++[(l,s,m,e)]).flatMap aW:=by rw[List.flatMap_append];rfl
         rw[e7]at ey;obtain⟨FO,Fg⟩:=aU ey kX;clear ey kX e7 eY eT BZ P0 P1 P2 P3;go_wp2;go_roundw;case rel=>exact⟨j+1,v',by omega,by go_num,rfl,by rw[Qh.out,List.length_append];exact FO.out,Fg.out⟩
         case measure=>exact bH
     . obtain rfl:j=N:=by omega
       have htk:L.take j=L:=List.take_of_length_le (by rw[HN.out];exact Nat.le_refl _);rw[htk,ake.out]at ho;obtain⟨a2,c2,rfl,_,_⟩:=dm ho;obtain⟨Ho,ald⟩:=aU ho (aO (aO ag.1.out aX.out) qb);have kZ:=aX.out.size;have wz:=az (ag.2.1.out.below (aO aX.out qb));have h4:¬(4096:Int)<(C.length:Int):=by omega
       have h4d:decide ((4096:Int)<(C.length:Int))=false:=by simp;omega
       clear ho htk qb;have Hr:=wz;have Hb:=ag.1;obtain⟨ag,aC⟩:=qZ (Hr.an trivial);go_wp2;refine AW (wz.out) Ho.out ald.out zo ?_;intro w9 jY fN dS;obtain⟨p0,p1⟩:=jY.c2;exact bodyPost_ret (v:=.tuple #[.agg #[ah (V:Int),.slice a2 C.length c2],ah 0]) (by simp[results,Tryz.results79,go_sem,p0,p1]) rfl ⟨_,_,rfl,Cr fN,dS⟩
end Go.Proofs.YtnjfebkelecgaaaGreatDoor
