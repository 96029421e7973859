/- Packages ogeeref07,ogeeref08: May;put. -/
import Derived.Test.YtpfgffadgkkedaaGreatDoorZ7
import Derived.Test.YtpfgffadgkkedaaGreatDoorZ23
import Derived.Test.YtpfgffadgkkedaaGreatDoorZ22
import Derived.Test.YtpfgffadgkkedaaGreatDoorZ15
set_option linter.all false
set_option maxRecDepth 100000
set_option maxHeartbeats 16000000
namespace Go.Proofs.YtpfgffadgkkedaaGreatDoor
open Go.RowKit
attribute [local go_sem ↓] Go.wp_at_zero Go.wp_at_succ
def auq (l:List UInt8)(v:Int)(w:World)(hl:l.length<=9223372036854775807):
 Cv 141 #[ah l,af v] w (ag (df l v)):=by
 obtain⟨n,hn⟩:=au l.length;have hsz:(bs l).size=n:=by rw[mR,hn]
 obtain⟨M,hM⟩:=au (df l v);rw[hM];obtain⟨HM,Hn⟩:=aH hM hn;rw[hn]at hl;clear hM hn;go_enter Tryz.func141,Tryz.ntmps141;have Hb:=hbz w;go_wp2_with fail;go_loopw[5] (λx wr=>∃k:Nat,k<=n/\x=af (k:Int)/\((l.take k).all λc=>decide (c.toNat<=127))=true/\Bw w wr) (λx _=>n-(intOf x).toNat);case atStart=>exact⟨0,Nat.zero_le _,rfl,rfl,Hb.out⟩
 case round=>
  clear Hb;obtain⟨k,hk,rfl,hall,pb⟩:=hrel;obtain⟨fP,Hb⟩:=aH hall pb;clear hall pb;by_cases hlt:k<n
  . have hk2:k<l.length:=by rw[Hn.out];exact hlt
    have ix:=vk l (k:Int) k hk2 rfl;obtain⟨c,hc⟩:∃c:Nat,(l[k]).toNat=c:=⟨_,rfl⟩;rw[hc]at ix;by_cases h1:128<=c
    . have h2:(128:Int)<=(c:Int):=by omega
      have uY:M=false:=by
       rw[<-HM.out];unfold df;have:(l.all λc=>decide (c.toNat<=127))=false:=by rw[List.all_eq_false];exact⟨l[k],List.getElem_mem hk2,by simp;omega⟩
       rw[this];rfl
      subst uY;go_wp2;exact bodyPost_ret (v:=ag false) (by simp[results,Tryz.results141,go_sem]) rfl ⟨rfl,cK⟩
    . have h2:¬(128:Int)<=(c:Int):=by omega
      have bN:Hid (((l.take (k+1)).all λc=>decide (c.toNat<=127))=true):=by
       show _=_
       rw[List.take_succ_eq_append_getElem hk2,List.all_append,fP.out];simp;omega
      clear hc;go_wp2;go_roundw;case rel=>exact⟨k+1,by omega,by go_num,bN.out,Hb.out⟩
      case measure=>exact bi
  . obtain rfl:k=n:=by omega
    have hme:M=decide ((k:Int)=v):=by rw[<-HM.out];have h:=fP.out;rw[List.take_of_length_le (by rw[Hn.out];exact Nat.le_refl _)]at h;unfold df;rw[h,Hn.out,Bool.true_and]
    have Pg:=aj hme;clear hme;go_wp2;refine bodyPost_ret (results_tmp rfl _ _ _) rfl ⟨?_,Hb.out⟩;rw[Pg.out];by_cases h:(k:Int)=v<;>simp[h]
def akx (m:List UInt8)(l:List Trm)(j:Nat)(h:j<iA m l)(hj:j<l.length):Op.bytesLess l[j].1 m=true:=by
 induction l generalizing j with
 |nil=>simp at hj
 | cons x l ih=>
   unfold iA at h;split at h
   . rename_i hx
     cases j with
     |zero=>exact hx
     |succ j=>exact ih j zo (by simpa using hj)
   . omega
def aky (m:List UInt8)(l:List Trm)(h:iA m l<l.length):Op.bytesLess l[iA m l].1 m=false:=by
 induction l with
 |nil=>simp at h
 | cons x l ih=>
   by_cases hx:Op.bytesLess x.1 m=true
   . have e:iA m (x::l)=iA m l+1:=by show(if _ then _ else _)=_;rw[if_pos hx]
     simp only[e]at h⊢;exact ih (by simpa using h)
   . have e:iA m (x::l)=0:=by show(if _ then _ else _)=_;rw[if_neg hx]
     simp only[e];simpa using hx
def atM (l:List Trm)(x:Trm)(k:Nat)(hk:iA x.1 l=k)(h:k<l.length)(e:l[k].1=x.1):gN l x=l.take k++[(x.1,canon (dval l[k].2+dval x.2))]++l.drop (k+1):=by
 have e1:(l.drop k).head?=some l[k]:=by rw[List.drop_eq_getElem_cons h];rfl
 have e2:(l.drop k).headD default=l[k]:=by rw[List.drop_eq_getElem_cons h];rfl
 rw[ae5,hk,e1,e2,if_pos (by rw[Option.map_some,e]),List.append_assoc,List.singleton_append]
def UY (l:List Trm)(x:Trm)(k:Nat)(hk:iA x.1 l=k)(h:∀h:k<l.length,l[k].1≠x.1):gN l x=l.take k++[(x.1,canon (dval x.2))]++l.drop k:=by
 rw[ae5,hk,if_neg,List.append_assoc,List.singleton_append];intro e;by_cases hl:k<l.length
 . rw[List.drop_eq_getElem_cons hl,List.head?_cons,Option.map_some]at e;exact h hl (Option.some.inj e)
 . rw[List.drop_of_length_le zo]at e;cases e
def At.az6 {w:World}{a:Option Addr}{ts:List Trm}(h:At w a (ts.flatMap aI))(k:Nat):At w a ((ts.take k).flatMap aI):=by
 have e:(ts.take k).flatMap aI++(ts.drop k).flatMap aI=ts.flatMap aI:=by rw[<-List.flatMap_append,List.take_append_drop]
 rcases h with h|⟨b,o,rfl,hc⟩
 . rw[h]at e;exact .inl (List.append_eq_nil_iff.1 e).1
 . by_cases h0:(ts.take k).flatMap aI=[]
   . exact .inl h0
   . refine .inr ⟨b,o,rfl,λj hj=>?_⟩;rw[hc j (by rw[<-e,List.length_append];omega),<-e,List.getElem?_append_left hj]
def At.az1 {w:World}{a:Option Addr}{ts:List Trm}(h:At w a (ts.flatMap aI)){n cap:Nat}(k:Nat)(hn:ts.length=n)(hk:k<=n)(hc:n<=cap):At w (if cap=k then a else a.map (·.add (k*4))) ((ts.drop k).flatMap aI):=by
 have h1:=At.cut (size:=4) (n:=n) (k:=k) (cap:=cap) h (by rw[nD,hn]) hk hc;have e:(ts.drop k).flatMap aI=(ts.flatMap aI).drop (k*4):=by
  have e0:ts.flatMap aI=(ts.take k).flatMap aI++(ts.drop k).flatMap aI:=by rw[<-List.flatMap_append,List.take_append_drop]
  rw[e0,List.drop_append_of_le_length (by rw[nD,List.length_take];omega)];have e1:((ts.take k).flatMap aI).length=k*4:=by rw[nD,List.length_take,Nat.min_eq_left zo]
  rw[<-e1,List.drop_length,List.nil_append]
 rw[e];exact h1
def auy (a:Option Addr)(n cap:Nat)(ts:List Trm)(l:List UInt8)(s:Bool)(m:List UInt8)(e:Int)(w:World)(hn:ts.length=n)(hl:n<=65536)(hs:Sl a n cap)(ha:At w a (ts.flatMap aI))(hf:∀t∈ts,mK t.2)(hx:mK (s,m,e)):
 Cl 220 #[.slice a n cap,.agg #[ah l,ag s,ah m,af e]] w λex w'=>∃v',ex=.returned v'/\w'.ownsRow w.heap.size 111 4 v' (gN ts (l,s,m,e)).length ((gN ts (l,s,m,e)).flatMap aI)/\Bw w w':=by
 obtain⟨i0,hi,hz0,hz1,hz2⟩:=info_parts Tryz.az3;obtain⟨A,hA⟩:=au (iA l ts);have hAn:A<=n:=by rw[<-hA,<-hn];exact akw _ _
 have hgo:∀j (h:j<ts.length),j<A->Op.bytesLess ts[j].1 l=true:=λj h hj=>akx l ts j zo h;have hst:∀(h:A<ts.length),Op.bytesLess ts[A].1 l=false:=λh=>by subst hA;exact aky l ts h
 have Mx:=hs.1;obtain⟨Hi,cu,bV,bX,vI,Hgo,bN,Hs,Ha,Hf,jd,Hn⟩:=gL hi hz0 hz1 hz2 hA hgo hst hs ha hf hx hn;clear hi hz0 hz1 hz2 hA hgo hst hs ha hf hx hn;obtain⟨W,cd,ae,ai⟩:=fJ w 111 [ah l,ag s,ah m,af e];go_enter Tryz.func220,Tryz.ntmps220;go_wp2_with fail;go_loopw[5] (λx wr=>∃k:Nat,k<=A/\x=af (k:Int)/\ar wr w.heap.size 111 [ah l,ag s,ah m,af e]/\Bw w wr) (λx _=>n-(intOf x).toNat);case atStart=>exact⟨0,Nat.zero_le _,rfl,ae.2.1.out,ae.1.out⟩
 case round=>
  skip
  obtain⟨k,hk,rfl,px,pb⟩:=hrel;obtain⟨Hx,Hb⟩:=aH px pb;clear px pb;by_cases hlt:k<A
  . have hkn:k<n:=by omega
    have hk2:k<ts.length:=by rw[Hn.out];exact hkn
    obtain⟨l',s',m',e',hx'⟩:∃l s m e,ts[k]=(l,s,m,e):=⟨_,_,_,_,rfl⟩;obtain⟨b,o,rfl,bY⟩:=(Ha.out.below Hb.out).term k hk2 hx';have aX:=gX n cap k (k:Int) (rfl:(some ⟨b,o,none⟩:Option Addr)=_) hkn rfl;have Ig:Op.bytesLess (bs l').toList (bs l).toList=true:=by rw[fY,fY];have:=Hgo.out k hk2 hlt;rw[hx']at this;exact this
    have Ht:Hid (aQ wr b (o+k*4) [ah l',ag s',ah m',af e']):=bY;clear bY hx';obtain⟨ae,ai⟩:=qZ (Hx.an<|Ht.an trivial);have wL:decide ((k:Int)<(n:Int))=true:=by simp;omega
    go_wp2_with fail;refine cQ 999 ae (cJ 14 0x1b19171513110f0d0b0907050301) ?_;refine bo ?_;refine cP ae λai=>?_;go_wp2;go_roundw;case rel=>exact⟨k+1,by omega,by go_num,ae.1.out,Hb.out.drew⟩
    case measure=>exact bi
  . obtain rfl:k=A:=by omega
    have hkc:k<=cap:=by omega
    by_cases hkn:k<n
    . have hk2:k<ts.length:=by rw[Hn.out];exact hkn
      obtain⟨l',s',m',e',hx'⟩:∃l s m e,ts[k]=(l,s,m,e):=⟨_,_,_,_,rfl⟩;obtain⟨b,o,rfl,bY⟩:=(Ha.out.below Hb.out).term k hk2 hx';have aX:=gX n cap k (k:Int) (rfl:(some ⟨b,o,none⟩:Option Addr)=_) hkn rfl;have Ig:Op.bytesLess (bs l').toList (bs l).toList=false:=by rw[fY,fY];have:=bN.out hk2;rw[hx']at this;exact this
      have lbt:b<w.heap.size:=by obtain⟨b3,o3,h3,hw3⟩:=Ha.out.term k hk2 hx';simp only[Option.some.injEq,Addr.mk.injEq,and_true]at h3;obtain⟨rfl,rfl⟩:=h3;exact World.block_lt_of_cell? w _ (hw3.cell 0 zm)
      have Ht:Hid (aQ wr b (o+k*4) [ah l',ag s',ah m',af e']):=bY;clear bY;obtain⟨ae,ai⟩:=qZ (Hx.an<|Ht.an trivial);have wL:decide ((k:Int)<(n:Int))=true:=by simp;omega
      go_wp2_with fail;refine cQ 999 ae (cJ 14 0x1b19171513110f0d0b0907050301) ?_;refine bo ?_;refine cP ae λai=>?_;generalize tC:wr.drew=wd;have yK:ar wd w.heap.size 111 [ah l,ag s,ah m,af e]:=by rw[<-tC];exact ae.1.out
      have iP:Bw w wd:=by rw[<-tC];exact Hb.out.drew
      have hpre:((ts.take k).flatMap aI).length=k*4:=by rw[nD,List.length_take,Nat.min_eq_left zo]
      have yo:=Ha.out.below iP;have ym:=yo.az6 k;obtain⟨xV,kN,EM,Fp⟩:=cG yK iP ym hpre;have szd:=iP.size;have lxd:=xV.out.lt;clear yK iP ym hpre yo tC Hb;go_wp2_with (at_builtin;refine uo rfl _ _ 39 rfl wd.heap.size 111 i0 _ 4 48 Tryz.underlying39 Hi.out cu.out bV.out bX.out rfl zd _ 0 [] rfl (World.ownsRow_made wd #[] 0 (Nat.le_refl _) (Nat.zero_le _) zm) (some ⟨b,o,none⟩) k cap ((ts.take k).flatMap aI) rfl (Sl.some _ _ _ hkc) Fp.out (EM.out.below ((Below.refl _ wd).alloc (Nat.le_refl _) _)) (vD _) zx zo zm ?_;intro v1 w1 cX hg1 wR);have hb1:=((Below.refl _ wd).alloc (Nat.le_refl _) _).grown hg1 zm (λk hk=>by have h9:wd.heap.size=k:=Option.some.inj hk;omega);rw[Nat.zero_add,List.nil_append]at cX;obtain⟨av,cv,rfl,_,_⟩:=cw cX;obtain⟨Hx,Hb⟩:=aH (xV.out.below hb1) (aF kN.out hb1);obtain⟨b2,o2,iF,bY⟩:=(Ha.out.below Hb.out).term k hk2 hx';simp only[Option.some.injEq,Addr.mk.injEq,and_true]at iF;obtain⟨rfl,rfl⟩:=iF;have Ht:Hid (aQ w1 b (o+k*4) [ah l',ag s',ah m',af e']):=bY;obtain⟨qY,bI⟩:=aH cX hb1;have hsz1:=hb1.size;have jO:mK (s',m',e'):=by have:=Hf.out _ (List.getElem_mem hk2);rw[hx']at this;exact this
      have hel:ts[k]=(l',s',m',e'):=hx';clear cX hb1 hg1 wR bY hx' Ig;obtain⟨ae,ai⟩:=qZ (Hx.an<|Ht.an trivial);go_wp2_with fail;have LK:((bs l').toList==(bs l).toList)=decide (l'=l):=by rw[fY,fY];by_cases h:l'=l<;>simp[h]
      by_cases he:l'=l
      case neg=>
       rw[decide_eq_false he]at LK;refine cQ 999 ae (cJ 14 0x1b19171513110f0d0b0907050301) ?_;refine bo ?_;refine cP ae λai=>?_;have lK:=bI.out.drew;generalize ir:w1.drew=w2;have hx2:ar w2 w.heap.size 111 [ah l,ag s,ah m,af e]:=by rw[<-ir];exact ae.1.out
       have hv2:w2.ownsRow wd.heap.size 111 4 (.slice av k cv) k ((ts.take k).flatMap aI):=by rw[<-ir];exact qY.out
       obtain⟨cV,Hx⟩:=aH hv2 hx2;replace Hb:=hbz w2;have zH:Hid (Bw wd w2):=by rw[<-ir];exact lK
       have tJ:=Ha.out.below kN.out;have hz2:wd.heap.size<=w2.heap.size:=by rw[<-ir];exact hsz1
       obtain⟨S,hS⟩:=au (dval (s,m,e));have hps:=UY ts (l,s,m,e) k vI.out (λ_=>by rw[hel];exact he);rw[show dval ((l,s,m,e):Trm).2=S from hS]at hps;have mX:((ts.drop k).flatMap aI).length=(n-k) *4:=by rw[nD,List.length_drop,Hn.out]
       have hdr:=tJ.az1 (n:=n) (cap:=cap) k Hn.out zo Mx;have hsc:=Hs.out.cut (k:=k) (size:=4) zo;have anx:(⟨b,o,none⟩:Addr).add (k*4)=⟨b,o+k*4,none⟩:=by unfold Addr.add;split<;>simp_all
       rw[if_neg zo,Option.map_some,anx]at hdr hsc;obtain⟨uB,HS,zL,vM,lO⟩:=eD hps hS mX hdr hsc;have hk1:k<=n:=by omega
       have SQ:k<=cap:=by omega
       clear hps hS hx2 hv2 tJ mX hdr hsc ir lK hel jO LK he aX;obtain⟨ae,ai⟩:=qZ (Hx.an trivial);go_wp2_with fail;obtain⟨Hx,_⟩:=ae;obtain⟨x0,x1,x2,x3⟩:=Hx.out.c4;refine fx (λw'=>aJ w' (w.heap.size) 0 (ah l)/\aJ w' (w.heap.size) 1 (ag s)/\aJ w' (w.heap.size) 2 (ah m)/\aJ w' (w.heap.size) 3 (af e)) (λi=>Nat.blt i 100000) [(0,true),(1,true),(2,true),(3,true),(4,true),(5,false),(6,true),(7,false),(8,false),(9,true)] zk zk rfl zk zc ⟨x0,x1,x2,x3⟩ ?_;iterate 5 (refine pT rfl rfl ?_ (by intro w' ⟨q0,q1,q2,q3⟩;go_simp;try with_reducible rfl);try simp only[UU])
       refine aO rfl rfl (λK hK=>?_);go_simp;with_reducible refine(Jq s m e S HS.out _ jd.out).mono ?_
       rintro e w4 ⟨rfl,hq⟩;have ak:Bw w2 w4:=by first|exact hq|exact cM hq
       obtain⟨Hx,x0,x1,x2,x3⟩:=Ea Hx ak;replace Hb:=bj Hb ak;refine hK _ _ (λ_=>⟨x0,x1,x2,x3⟩) ?_;try simp only[UU]
       refine pT rfl rfl ?_;try simp only[UU]
       refine aO rfl rfl (λK hK=>?_);go_simp;refine hK _ _ (λ_=>⟨aM x0,aM x1,aM x2,aM x3⟩) ?_;try simp only[UU]
       refine cg (λW5=>ar W5 (w4.heap.size) 111 [ah l,ag (az (dN S)),ah (nt (dN S).natAbs),af (dE S)]/\Bw w4 W5) (by first|exact iY|exact iZ) ?_;rintro W5 ⟨qc,ak⟩;have Un:=Hx.out.lt;replace Hx:=kB Hx ak;have Hc:=aj qc;clear qc;obtain⟨x0,x1,x2,x3⟩:=Hx.out.c4;obtain⟨c0,c1,c2,c3⟩:=Hc.out.c4;replace Hb:=bj Hb ak;refine aO rfl rfl (λK hK=>?_);have ft:=ownsRow_below cV.out Hb.out;have hs3:=Hb.out.size;refine wp_append_own _ _ _ 39 rfl wd.heap.size 111 i0 _ 4 48 Tryz.underlying39 Hi.out cu.out bV.out bX.out rfl zd (.slice av k cv) k ((ts.take k).flatMap aI) rfl ft ⟨w4.heap.size,0,none⟩ 1 1 [ah l,ag (az (dN S)),ah (nt (dN S).natAbs),af (dE S)] rfl rfl (fM Hc.out) zy zx zo zo ?_;intro v8 w8 dO bA _;have nb:∀b,b<wd.heap.size->some b≠(Value.slice av k cv).ownBlock:=λb hb e=>by have:=cE ft b e.symm;omega
       refine hK _ _ (λ_=>⟨cW bA x0 (nb _ zo),cW bA x1 (nb _ zo),cW bA x2 (nb _ zo),cW bA x3 (nb _ zo)⟩) ?_;try simp only[UU]
       have gT:=(aF zH.out Hb.out).grown bA zo (λj e=>cE ft j e);obtain⟨jc,iJ⟩:=aH gT dO;have IH:=bA.size;refine pT rfl rfl ?_;try simp only[UU]
       simp only[bH];clear nb ft dO bA gT x0 x1 x2 x3 c0 c1 c2 c3;go_wp2_with (at_builtin;refine uo rfl _ _ 39 rfl wd.heap.size 111 i0 _ 4 48 Tryz.underlying39 Hi.out cu.out bV.out bX.out rfl zd v8 (k+1) _ rfl iJ.out _ (n-k) (cap-k) ((ts.drop k).flatMap aI) rfl lO.out zL.out (vM.out.below jc.out) (vD _) zx zo zo ?_;intro v9 w9 fC qi Tj);all_goals
        go_ret
        refine⟨v9,rfl,?_,(aF kN.out jc.out).grown qi zo (λj e=>by have:=cE iJ.out j e;omega)⟩
        rw[uB.out]
        have e9:((ts.take k++[(l,canon S)]++ts.drop k).flatMap aI)=(ts.take k).flatMap aI++[ah l,ag (az (dN S)),ah (nt (dN S).natAbs),af (dE S)]++(ts.drop k).flatMap aI:=by rw[List.flatMap_append,List.flatMap_append];rfl
        have l9:(ts.take k++[(l,canon S)]++ts.drop k).length=k+1+(n-k):=by simp[Hn.out];omega
        rw[e9,l9]
        exact rS fC zo
      rw[decide_eq_true he]at LK;refine cQ 999 ae (cJ 14 0x1b19171513110f0d0b0907050301) ?_;refine bo ?_;refine cP ae λai=>?_;have lK:=bI.out.drew;generalize ir:w1.drew=w2;have hx2:ar w2 w.heap.size 111 [ah l,ag s,ah m,af e]:=by rw[<-ir];exact ae.1.out
      have ht2:aQ w2 b (o+k*4) [ah l',ag s',ah m',af e']:=by rw[<-ir];exact ae.2.1.out
      have hb2:Bw w w2:=by rw[<-ir];exact Hb.out.drew
      have hv2:w2.ownsRow wd.heap.size 111 4 (.slice av k cv) k ((ts.take k).flatMap aI):=by rw[<-ir];exact qY.out
      obtain⟨cV,Hx,Ht⟩:=bM hv2 hx2 ht2;replace Hb:=hbz w2;have zH:Hid (Bw wd w2):=by rw[<-ir];exact lK
      have tJ:=Ha.out.below kN.out;have hz2:wd.heap.size<=w2.heap.size:=by rw[<-ir];exact hsz1
      obtain⟨S,hS⟩:=au (dval (s',m',e')+dval (s,m,e));have hps:=atM ts (l,s,m,e) k vI.out hk2 (by rw[hel];exact he);rw[show dval ts[k].2=dval (s',m',e')by rw[hel],show dval (s',m',e')+dval ((l,s,m,e):Trm).2=S from hS]at hps;have mX:((ts.drop (k+1)).flatMap aI).length=(n-(k+1)) *4:=by rw[nD,List.length_drop,Hn.out]
      have hdr:=tJ.az1 (n:=n) (cap:=cap) (k+1) Hn.out zo Mx;have hsc:=Hs.out.cut (k:=k+1) (size:=4) zo;obtain⟨uB,HS,pH,zL,vM,lO⟩:=fZ hps hS jO mX hdr hsc;have hk1:k+1<=n:=by omega
      have SQ:k+1<=cap:=by omega
      clear hps hS hel jO hx2 ht2 hb2 hv2 tJ mX hdr hsc ir lK LK he aX;obtain⟨ae,ai⟩:=qZ (Hx.an<|Ht.an trivial);have aX:=gX n cap k (k:Int) (rfl:(some ⟨b,o,none⟩:Option Addr)=_) hkn rfl;go_wp2_with fail;have Ud:=ae.1.out.lt;obtain⟨Hx,Ht,_⟩:=ae;obtain⟨x0,x1,x2,x3⟩:=Hx.out.c4;obtain⟨t0,t1,t2,t3⟩:=Ht.out.w4;refine fx (λw'=>aJ w' (w.heap.size) 0 (ah l)/\aJ w' (w.heap.size) 1 (ag s)/\aJ w' (w.heap.size) 2 (ah m)/\aJ w' (w.heap.size) 3 (af e)/\aJ w' b (o+k*4) (ah l')/\aJ w' b (o+k*4+1) (ag s')/\aJ w' b (o+k*4+2) (ah m')/\aJ w' b (o+k*4+3) (af e')) (λi=>Nat.blt i 100000) [(0,true),(1,true),(2,true),(3,true),(4,true),(5,true),(6,true),(7,true),(8,true),(9,true),(10,false),(11,true),(12,false),(13,false),(14,true)] zk zk rfl zk zc ⟨x0,x1,x2,x3,t0,t1,t2,t3⟩ ?_;iterate 10 (refine pT rfl rfl ?_ (by intro w' ⟨q0,q1,q2,q3,q4,q5,q6,q7⟩;go_simp;try with_reducible rfl);try simp only[UU])
      refine aO rfl rfl (λK hK=>?_);go_simp;with_reducible refine(auu s' m' e' s m e S HS.out _ pH.out jd.out).mono ?_
      rintro e w4 ⟨rfl,hq⟩;have ak:Bw w2 w4:=by first|exact hq|exact cM hq
      obtain⟨Hx,x0,x1,x2,x3⟩:=Ea Hx ak;replace Ht:=kW Ht ak;obtain⟨t0,t1,t2,t3⟩:=Ht.out.w4;replace Hb:=bj Hb ak;refine hK _ _ (λ_=>⟨x0,x1,x2,x3,t0,t1,t2,t3⟩) ?_;try simp only[UU]
      refine pT rfl rfl ?_;try simp only[UU]
      refine aO rfl rfl (λK hK=>?_);go_simp;refine hK _ _ (λ_=>⟨aM x0,aM x1,aM x2,aM x3,aM t0,aM t1,aM t2,aM t3⟩) ?_;try simp only[UU]
      refine cg (λW5=>ar W5 (w4.heap.size) 111 [ah l,ag (az (dN S)),ah (nt (dN S).natAbs),af (dE S)]/\Bw w4 W5) (by first|exact iY|exact iZ) ?_;rintro W5 ⟨qc,ak⟩;have Un:=Hx.out.lt;replace Hx:=kB Hx ak;replace Ht:=kW Ht ak;have Hc:=aj qc;clear qc;obtain⟨x0,x1,x2,x3⟩:=Hx.out.c4;obtain⟨t0,t1,t2,t3⟩:=Ht.out.w4;obtain⟨c0,c1,c2,c3⟩:=Hc.out.c4;replace Hb:=bj Hb ak;refine aO rfl rfl (λK hK=>?_);have ft:=ownsRow_below cV.out Hb.out;have hs3:=Hb.out.size;refine wp_append_own _ _ _ 39 rfl wd.heap.size 111 i0 _ 4 48 Tryz.underlying39 Hi.out cu.out bV.out bX.out rfl zd (.slice av k cv) k ((ts.take k).flatMap aI) rfl ft ⟨w4.heap.size,0,none⟩ 1 1 [ah l,ag (az (dN S)),ah (nt (dN S).natAbs),af (dE S)] rfl rfl (fM Hc.out) zy zx zo zo ?_;intro v8 w8 dO bA _;have nb:∀b,b<wd.heap.size->some b≠(Value.slice av k cv).ownBlock:=λb hb e=>by have:=cE ft b e.symm;omega
      refine hK _ _ (λ_=>⟨cW bA x0 (nb _ zo),cW bA x1 (nb _ zo),cW bA x2 (nb _ zo),cW bA x3 (nb _ zo),cW bA t0 (nb _ zp),cW bA t1 (nb _ zp),cW bA t2 (nb _ zp),cW bA t3 (nb _ zp)⟩) ?_;try simp only[UU]
      have gT:=(aF zH.out Hb.out).grown bA zo (λj e=>cE ft j e);obtain⟨jc,iJ⟩:=aH gT dO;have IH:=bA.size;refine pT rfl rfl ?_;try simp only[UU]
      simp only[bH];clear nb ft dO bA gT x0 x1 x2 x3 t0 t1 t2 t3 c0 c1 c2 c3;go_wp2_with (at_builtin;refine uo rfl _ _ 39 rfl wd.heap.size 111 i0 _ 4 48 Tryz.underlying39 Hi.out cu.out bV.out bX.out rfl zd v8 (k+1) _ rfl iJ.out _ (n-(k+1)) (cap-(k+1)) ((ts.drop (k+1)).flatMap aI) rfl lO.out zL.out (vM.out.below jc.out) (vD _) zx zo zo ?_;intro v9 w9 fC qi Tj);all_goals
       go_ret
       refine⟨v9,rfl,?_,(aF kN.out jc.out).grown qi zo (λj e=>by have:=cE iJ.out j e;omega)⟩
       rw[uB.out]
       have e9:((ts.take k++[(l,canon S)]++ts.drop (k+1)).flatMap aI)=(ts.take k).flatMap aI++[ah l,ag (az (dN S)),ah (nt (dN S).natAbs),af (dE S)]++(ts.drop (k+1)).flatMap aI:=by rw[List.flatMap_append,List.flatMap_append];rfl
       have l9:(ts.take k++[(l,canon S)]++ts.drop (k+1)).length=k+1+(n-(k+1)):=by simp[Hn.out];omega
       rw[e9,l9]
       exact rS fC zo
    . obtain rfl:n=k:=by omega
      cases a with
      | none=>
        have hc0:=Hs.out.2 rfl;obtain rfl:n=0:=by omega
        subst hc0;obtain⟨ae,ai⟩:=qZ (Hx.an trivial);have wL:decide (((0:Nat):Int)<((0:Nat):Int))=false:=by simp
        go_wp2_with fail;refine cQ 999 ae (cJ 14 0x1b19171513110f0d0b0907050301) ?_;refine bo ?_;refine cP ae λai=>?_;generalize tC:wr.drew=wd;have yK:ar wd w.heap.size 111 [ah l,ag s,ah m,af e]:=by rw[<-tC];exact ae.1.out
        have iP:Bw w wd:=by rw[<-tC];exact Hb.out.drew
        have hpre:((ts.take 0).flatMap aI).length=0*4:=by rw[nD,List.length_take,Nat.min_eq_left (by have:=Hn.out;omega)]
        have yo:=Ha.out.below iP;have ym:=yo.az6 0;have hsk:Sl none 0 0:=Hs.out;obtain⟨xV,kN,EM,Fp⟩:=cG yK iP ym hpre;have szd:=iP.size;have lxd:=xV.out.lt;clear yK iP ym hpre yo tC Hb;go_wp2_with (at_builtin;refine uo rfl _ _ 39 rfl wd.heap.size 111 i0 _ 4 48 Tryz.underlying39 Hi.out cu.out bV.out bX.out rfl zd _ 0 [] rfl (World.ownsRow_made wd #[] 0 (Nat.le_refl _) (Nat.zero_le _) zm) none 0 0 ((ts.take 0).flatMap aI) rfl hsk Fp.out (EM.out.below ((Below.refl _ wd).alloc (Nat.le_refl _) _)) (vD _) (by simp[maxLen]) zo zm ?_;intro v1 w1 cX hg1 wR);have hb1:=((Below.refl _ wd).alloc (Nat.le_refl _) _).grown hg1 zm (λk hk=>by have h9:wd.heap.size=k:=Option.some.inj hk;omega);rw[Nat.zero_add,List.nil_append]at cX;obtain⟨av,cv,rfl,_,_⟩:=cw cX;obtain⟨Hx,Hb,qY,bI⟩:=cG (xV.out.below hb1) (aF kN.out hb1) cX hb1;have hsz1:=hb1.size;clear cX hb1 hg1 wR;obtain⟨ae,ai⟩:=qZ (Hx.an trivial);go_wp2_with fail;refine cQ 999 ae (cJ 14 0x1b19171513110f0d0b0907050301) ?_;refine bo ?_;refine cP ae λai=>?_;have lK:=bI.out.drew;generalize ir:w1.drew=w2;have hx2:ar w2 w.heap.size 111 [ah l,ag s,ah m,af e]:=by rw[<-ir];exact ae.1.out
        have hv2:w2.ownsRow wd.heap.size 111 4 (.slice av 0 cv) 0 ((ts.take 0).flatMap aI):=by rw[<-ir];exact qY.out
        obtain⟨cV,Hx⟩:=aH hv2 hx2;replace Hb:=hbz w2;have zH:Hid (Bw wd w2):=by rw[<-ir];exact lK
        have tJ:=Ha.out.below kN.out;have hz2:wd.heap.size<=w2.heap.size:=by rw[<-ir];exact hsz1
        obtain⟨S,hS⟩:=au (dval (s,m,e));have hps:=UY ts (l,s,m,e) 0 vI.out (λh=>absurd h (by have:=Hn.out;omega));rw[show dval ((l,s,m,e):Trm).2=S from hS]at hps;have mX:((ts.drop 0).flatMap aI).length=(0-0) *4:=by rw[nD,List.length_drop,Hn.out]
        have hdr:=tJ.az1 (n:=0) (cap:=0) 0 Hn.out zo Mx;have hsc:=Hs.out.cut (k:=0) (size:=4) zo;obtain⟨uB,HS,zL,vM,lO⟩:=eD hps hS mX hdr hsc;have hk1:0<=0:=by omega
        have SQ:0<=0:=by omega
        clear hps hS hx2 hv2 tJ mX hdr hsc ir lK;obtain⟨ae,ai⟩:=qZ (Hx.an trivial);go_wp2_with fail;obtain⟨Hx,_⟩:=ae;obtain⟨x0,x1,x2,x3⟩:=Hx.out.c4;refine fx (λw'=>aJ w' (w.heap.size) 0 (ah l)/\aJ w' (w.heap.size) 1 (ag s)/\aJ w' (w.heap.size) 2 (ah m)/\aJ w' (w.heap.size) 3 (af e)) (λi=>Nat.blt i 100000) [(0,true),(1,true),(2,true),(3,true),(4,true),(5,false),(6,true),(7,false),(8,false),(9,true)] zk zk rfl zk zc ⟨x0,x1,x2,x3⟩ ?_;iterate 5 (refine pT rfl rfl ?_ (by intro w' ⟨q0,q1,q2,q3⟩;go_simp;try with_reducible rfl);try simp only[UU])
        refine aO rfl rfl (λK hK=>?_);go_simp;with_reducible refine(Jq s m e S HS.out _ jd.out).mono ?_
        rintro e w4 ⟨rfl,hq⟩;have ak:Bw w2 w4:=by first|exact hq|exact cM hq
        obtain⟨Hx,x0,x1,x2,x3⟩:=Ea Hx ak;replace Hb:=bj Hb ak;refine hK _ _ (λ_=>⟨x0,x1,x2,x3⟩) ?_;try simp only[UU]
        refine pT rfl rfl ?_;try simp only[UU]
        refine aO rfl rfl (λK hK=>?_);go_simp;refine hK _ _ (λ_=>⟨aM x0,aM x1,aM x2,aM x3⟩) ?_;try simp only[UU]
        refine cg (λW5=>ar W5 (w4.heap.size) 111 [ah l,ag (az (dN S)),ah (nt (dN S).natAbs),af (dE S)]/\Bw w4 W5) (by first|exact iY|exact iZ) ?_;rintro W5 ⟨qc,ak⟩;have Un:=Hx.out.lt;replace Hx:=kB Hx ak;have Hc:=aj qc;clear qc;obtain⟨x0,x1,x2,x3⟩:=Hx.out.c4;obtain⟨c0,c1,c2,c3⟩:=Hc.out.c4;replace Hb:=bj Hb ak;refine aO rfl rfl (λK hK=>?_);have ft:=ownsRow_below cV.out Hb.out;have hs3:=Hb.out.size;refine wp_append_own _ _ _ 39 rfl wd.heap.size 111 i0 _ 4 48 Tryz.underlying39 Hi.out cu.out bV.out bX.out rfl zd (.slice av 0 cv) 0 ((ts.take 0).flatMap aI) rfl ft ⟨w4.heap.size,0,none⟩ 1 1 [ah l,ag (az (dN S)),ah (nt (dN S).natAbs),af (dE S)] rfl rfl (fM Hc.out) zy (by simp[maxLen]) zo zo ?_;intro v8 w8 dO bA _;have nb:∀b,b<wd.heap.size->some b≠(Value.slice av 0 cv).ownBlock:=λb hb e=>by have:=cE ft b e.symm;omega
        refine hK _ _ (λ_=>⟨cW bA x0 (nb _ zo),cW bA x1 (nb _ zo),cW bA x2 (nb _ zo),cW bA x3 (nb _ zo)⟩) ?_;try simp only[UU]
        have gT:=(aF zH.out Hb.out).grown bA zo (λj e=>cE ft j e);obtain⟨jc,iJ⟩:=aH gT dO;have IH:=bA.size;refine pT rfl rfl ?_;try simp only[UU]
        simp only[bH];clear nb ft dO bA gT x0 x1 x2 x3 c0 c1 c2 c3;go_wp2_with (at_builtin;refine uo rfl _ _ 39 rfl wd.heap.size 111 i0 _ 4 48 Tryz.underlying39 Hi.out cu.out bV.out bX.out rfl zd v8 (0+1) _ rfl iJ.out none 0 0 ((ts.drop 0).flatMap aI) rfl lO.out zL.out (vM.out.below jc.out) (vD _) (by simp[maxLen]) zo zo ?_;intro v9 w9 fC qi Tj);all_goals
         go_ret
         refine⟨v9,rfl,?_,(aF kN.out jc.out).grown qi zo (λj e=>by have:=cE iJ.out j e;omega)⟩
         rw[uB.out]
         have e9:((ts.take 0++[(l,canon S)]++ts.drop 0).flatMap aI)=(ts.take 0).flatMap aI++[ah l,ag (az (dN S)),ah (nt (dN S).natAbs),af (dE S)]++(ts.drop 0).flatMap aI:=by rw[List.flatMap_append,List.flatMap_append];rfl
         have l9:(ts.take 0++[(l,canon S)]++ts.drop 0).length=0+1+0:=by simp[Hn.out]
         rw[e9,l9]
         exact rS fC zo
      | some ad=>
        obtain⟨ae,ai⟩:=qZ (Hx.an trivial);have wL:decide ((n:Int)<(n:Int))=false:=by simp
        go_wp2_with fail;refine cQ 999 ae (cJ 14 0x1b19171513110f0d0b0907050301) ?_;refine bo ?_;refine cP ae λai=>?_;generalize tC:wr.drew=wd;have yK:ar wd w.heap.size 111 [ah l,ag s,ah m,af e]:=by rw[<-tC];exact ae.1.out
        have iP:Bw w wd:=by rw[<-tC];exact Hb.out.drew
        have hpre:((ts.take n).flatMap aI).length=n*4:=by rw[nD,List.length_take,Nat.min_eq_left (by have:=Hn.out;omega)]
        have yo:=Ha.out.below iP;have ym:=yo.az6 n;have hsk:Sl (some ad) n cap:=Hs.out;obtain⟨xV,kN,EM,Fp⟩:=cG yK iP ym hpre;have szd:=iP.size;have lxd:=xV.out.lt;clear yK iP ym hpre yo tC Hb;go_wp2_with (at_builtin;refine uo rfl _ _ 39 rfl wd.heap.size 111 i0 _ 4 48 Tryz.underlying39 Hi.out cu.out bV.out bX.out rfl zd _ 0 [] rfl (World.ownsRow_made wd #[] 0 (Nat.le_refl _) (Nat.zero_le _) zm) (some ad) n cap ((ts.take n).flatMap aI) rfl hsk Fp.out (EM.out.below ((Below.refl _ wd).alloc (Nat.le_refl _) _)) (vD _) zx zo zm ?_;intro v1 w1 cX hg1 wR);have hb1:=((Below.refl _ wd).alloc (Nat.le_refl _) _).grown hg1 zm (λk hk=>by have h9:wd.heap.size=k:=Option.some.inj hk;omega);rw[Nat.zero_add,List.nil_append]at cX;obtain⟨av,cv,rfl,_,_⟩:=cw cX;obtain⟨Hx,Hb,qY,bI⟩:=cG (xV.out.below hb1) (aF kN.out hb1) cX hb1;have hsz1:=hb1.size;clear cX hb1 hg1 wR;obtain⟨ae,ai⟩:=qZ (Hx.an trivial);go_wp2_with fail;refine cQ 999 ae (cJ 14 0x1b19171513110f0d0b0907050301) ?_;refine bo ?_;refine cP ae λai=>?_;have lK:=bI.out.drew;generalize ir:w1.drew=w2;have hx2:ar w2 w.heap.size 111 [ah l,ag s,ah m,af e]:=by rw[<-ir];exact ae.1.out
        have hv2:w2.ownsRow wd.heap.size 111 4 (.slice av n cv) n ((ts.take n).flatMap aI):=by rw[<-ir];exact qY.out
        obtain⟨cV,Hx⟩:=aH hv2 hx2;replace Hb:=hbz w2;have zH:Hid (Bw wd w2):=by rw[<-ir];exact lK
        have tJ:=Ha.out.below kN.out;have hz2:wd.heap.size<=w2.heap.size:=by rw[<-ir];exact hsz1
        obtain⟨S,hS⟩:=au (dval (s,m,e));have hps:=UY ts (l,s,m,e) n vI.out (λh=>absurd h (by have:=Hn.out;omega));rw[show dval ((l,s,m,e):Trm).2=S from hS]at hps;have mX:((ts.drop n).flatMap aI).length=0*4:=by rw[nD,List.length_drop,Hn.out,Nat.sub_self]
        have hdr:=tJ.az1 (n:=n) (cap:=cap) n Hn.out zo Mx;have hsc:=Hs.out.cut (k:=n) (size:=4) zo;rw[Nat.sub_self]at hsc;obtain⟨uB,HS,zL,vM,lO⟩:=eD hps hS mX hdr hsc;have hk1:n<=n:=by omega
        have SQ:n<=cap:=by omega
        clear hps hS hx2 hv2 tJ mX hdr hsc ir lK;obtain⟨ae,ai⟩:=qZ (Hx.an trivial);go_wp2_with fail;obtain⟨Hx,_⟩:=ae;obtain⟨x0,x1,x2,x3⟩:=Hx.out.c4;refine fx (λw'=>aJ w' (w.heap.size) 0 (ah l)/\aJ w' (w.heap.size) 1 (ag s)/\aJ w' (w.heap.size) 2 (ah m)/\aJ w' (w.heap.size) 3 (af e)) (λi=>Nat.blt i 100000) [(0,true),(1,true),(2,true),(3,true),(4,true),(5,false),(6,true),(7,false),(8,false),(9,true)] zk zk rfl zk zc ⟨x0,x1,x2,x3⟩ ?_;iterate 5 (refine pT rfl rfl ?_ (by intro w' ⟨q0,q1,q2,q3⟩;go_simp;try with_reducible rfl);try simp only[UU])
        refine aO rfl rfl (λK hK=>?_);go_simp;with_reducible refine(Jq s m e S HS.out _ jd.out).mono ?_
        rintro e w4 ⟨rfl,hq⟩;have ak:Bw w2 w4:=by first|exact hq|exact cM hq
        obtain⟨Hx,x0,x1,x2,x3⟩:=Ea Hx ak;replace Hb:=bj Hb ak;refine hK _ _ (λ_=>⟨x0,x1,x2,x3⟩) ?_;try simp only[UU]
        refine pT rfl rfl ?_;try simp only[UU]
        refine aO rfl rfl (λK hK=>?_);go_simp;refine hK _ _ (λ_=>⟨aM x0,aM x1,aM x2,aM x3⟩) ?_;try simp only[UU]
        refine cg (λW5=>ar W5 (w4.heap.size) 111 [ah l,ag (az (dN S)),ah (nt (dN S).natAbs),af (dE S)]/\Bw w4 W5) (by first|exact iY|exact iZ) ?_;rintro W5 ⟨qc,ak⟩;have Un:=Hx.out.lt;replace Hx:=kB Hx ak;have Hc:=aj qc;clear qc;obtain⟨x0,x1,x2,x3⟩:=Hx.out.c4;obtain⟨c0,c1,c2,c3⟩:=Hc.out.c4;replace Hb:=bj Hb ak;refine aO rfl rfl (λK hK=>?_);have ft:=ownsRow_below cV.out Hb.out;have hs3:=Hb.out.size;refine wp_append_own _ _ _ 39 rfl wd.heap.size 111 i0 _ 4 48 Tryz.underlying39 Hi.out cu.out bV.out bX.out rfl zd (.slice av n cv) n ((ts.take n).flatMap aI) rfl ft ⟨w4.heap.size,0,none⟩ 1 1 [ah l,ag (az (dN S)),ah (nt (dN S).natAbs),af (dE S)] rfl rfl (fM Hc.out) zy zx zo zo ?_;intro v8 w8 dO bA _;have nb:∀b,b<wd.heap.size->some b≠(Value.slice av n cv).ownBlock:=λb hb e=>by have:=cE ft b e.symm;omega
        refine hK _ _ (λ_=>⟨cW bA x0 (nb _ zo),cW bA x1 (nb _ zo),cW bA x2 (nb _ zo),cW bA x3 (nb _ zo)⟩) ?_;try simp only[UU]
        have gT:=(aF zH.out Hb.out).grown bA zo (λj e=>cE ft j e);obtain⟨jc,iJ⟩:=aH gT dO;have IH:=bA.size;refine pT rfl rfl ?_;try simp only[UU]
        simp only[bH];clear nb ft dO bA gT x0 x1 x2 x3 c0 c1 c2 c3;go_wp2_with (at_builtin;refine uo rfl _ _ 39 rfl wd.heap.size 111 i0 _ 4 48 Tryz.underlying39 Hi.out cu.out bV.out bX.out rfl zd v8 (n+1) _ rfl iJ.out _ 0 (cap-n) ((ts.drop n).flatMap aI) rfl lO.out zL.out (vM.out.below jc.out) (vD _) zx zo zo ?_;intro v9 w9 fC qi Tj);all_goals
         go_ret
         refine⟨v9,rfl,?_,(aF kN.out jc.out).grown qi zo (λj e=>by have:=cE iJ.out j e;omega)⟩
         rw[uB.out]
         have e9:((ts.take n++[(l,canon S)]++ts.drop n).flatMap aI)=(ts.take n).flatMap aI++[ah l,ag (az (dN S)),ah (nt (dN S).natAbs),af (dE S)]++(ts.drop n).flatMap aI:=by rw[List.flatMap_append,List.flatMap_append];rfl
         have l9:(ts.take n++[(l,canon S)]++ts.drop n).length=n+1+0:=by simp[Hn.out]
         rw[e9,l9]
         exact rS fC zo
def atN {C:Nat}(l:List Trm)(x:Trm)(h:∀t∈l,Sm C (dval t.2))(hx:Sm C (dval x.2)):∀t∈gN l x,Sm (C+1) (dval t.2):=by
 have hc:∀X:Dyadic,Sm (C+1) X->Sm (C+1) (dval (canon X)):=λX h=>by rw[bu];exact h
 induction l with
 |nil=>intro t ht;simp only[gN,List.mem_singleton]at ht;rw[ht];exact hc _ (hx.mono zo)
 | cons y l ih=>
   intro t ht;unfold gN at ht;split at ht
   . rcases List.mem_cons.1 ht with rfl|ht
     . exact(h _ zm).mono zo
     . exact ih (λt ht=>h t (by simp[ht])) t ht
   . split at ht
     . rcases List.mem_cons.1 ht with rfl|ht
       . exact hc _ ((h y zm).add hx)
       . exact(h t (by simp[ht])).mono zo
     . rcases List.mem_cons.1 ht with rfl|ht
       . exact hc _ (hx.mono zo)
       . exact(h t ht).mono zo
def atS {B:Nat}(l:List Trm)(h:∀t∈l,Sm B (dval t.2)):∀t∈iw l,Sm (B+l.length) (dval t.2):=by refine Jw (Q:=λl=>(∀t∈l,Sm B (dval t.2))->∀t∈iw l,Sm (B+l.length) (dval t.2)) (λ_ t ht=>by cases ht) (λl x ih h=>?_) l h;rw[En];have h1:=ih (λt ht=>h t (by simp[ht]));have:=atN (C:=B+l.length) (iw l) x h1 ((h x zm).mono zo);intro t ht;have h9:=this t ht;rw[List.length_append];exact h9
def atP {B:Nat}(l:List Trm)(h:∀t∈l,Sm B (dval t.2))(hB:B+l.length<=16384):∀t∈iw l,mK t.2:=λt ht=>by have h1:=atS l h t ht;rw[ae6 l t ht];exact h1.az0 hB
def an1 (L:List Trm)(k:Nat)(hk:k<L.length):(L.take (k+1)).filter gy=(L.take k).filter gy++if gy L[k]then[L[k]]else[]:=by rw[List.take_succ_eq_append_getElem hk,List.filter_append];congr 1;by_cases h:gy L[k]=true<;>simp[h]
def aum (V:Nat)(a:Option Addr)(n cap:Nat)(ts:List Trm)(B:Nat)(w:World)(hn:ts.length=n)(hl:n<=4096)(ha:At w a (ts.flatMap aI))(hf:∀t∈ts,mK t.2)(hs:∀t∈ts,Sm B (dval t.2))(hB:B+n<=16384):
 Cl 142 #[af (V:Int),.slice a n cap] w λex w'=>∃a' c',ex=.returned (.tuple #[.agg #[af (V:Int),.slice a' (aU ts).length c'],af 0])/\aW w' a' c' (aU ts)/\Bw w w':=by
 obtain⟨i0,hi,hz0,hz1,hz2⟩:=info_parts Tryz.az3;have jR:=λk=>atP (ts.take k) (λt ht=>hs t (List.mem_of_mem_take ht)) (by rw[List.length_take];omega);have hpl:=λk=>atQ (ts.take k);have ql:=aon ts;obtain⟨C,hC⟩:=au (aU ts);have hcl:=kV ts;rw[hC]at ql hcl⊢;obtain⟨Hi,cu,bV,bX,uA,lM,Hgc,Ha,Hf,Hn⟩:=Bt hi hz0 hz1 hz2 jR hpl ql ha hf hn;have hC4:C.length<=4096:=by omega
 clear hi hz0 hz1 hz2 jR hpl ql ha hf hs hC hn hcl;obtain⟨W,cd,ae,ai⟩:=fJ w 41 [af 0,.slice none 0 0];go_enter Tryz.func142,Tryz.ntmps142;go_wp2_with fail;have hrl:=ae.2.1.out.lt;go_loopw[6,7] (λs6 x wr=>∃(k:Nat) (v:Value),k<=n/\x=af (k:Int)/\v=s6/\wr.ownsRow W.heap.size 111 4 v (iw (ts.take k)).length ((iw (ts.take k)).flatMap aI)/\Bw W wr) (λ_ x _=>n-(intOf x).toNat);case atStart=>exact⟨0,_,Nat.zero_le _,rfl,rfl,World.ownsRow_nil _ _ _ _,Below.refl _ _⟩
 case round=>
  skip
  obtain⟨k,v,hk,rfl,rfl,ho,pb⟩:=hrel;by_cases hlt:k<n
  . have hk2:k<ts.length:=by rw[Hn.out];exact hlt
    obtain⟨l,s,m,e,hx⟩:∃l s m e,ts[k]=(l,s,m,e):=⟨_,_,_,_,rfl⟩;obtain⟨b,o,rfl,bY⟩:=(Ha.out.below (aF ae.1.out pb)).term k hk2 hx;have aX:=gX n cap k (k:Int) (rfl:(some ⟨b,o,none⟩:Option Addr)=_) hlt rfl;obtain⟨av,cv,rfl,yq,_⟩:=cw ho;have IJ:=yV ho;have hnx:iw (ts.take (k+1))=gN (iw (ts.take k)) (l,s,m,e):=by rw[List.take_succ_eq_append_getElem hk2,En,hx]
    have hp1:(iw (ts.take k)).length<=65536:=by have:=lM.out k;rw[List.length_take]at this;omega
    have dY:mK (s,m,e):=by have:=Hf.out _ (List.getElem_mem hk2);rw[hx]at this;exact this
    have hput:=λ(W':World) (hW:Bw wr W')=>auy av _ cv (iw (ts.take k)) l s m e W' rfl hp1 IJ (yq.below hW) (uA.out k) dY;rw[<-hnx]at hput;obtain⟨np,qp⟩:=au ((iw (ts.take k)).length);rw[qp]at hput;rw[qp];obtain⟨PG,aP⟩:=aH hput pb;have Ht:Hid (aQ wr b (o+k*4) [ah l,ag s,ah m,af e]):=bY;have ic:=pb.size;clear hput pb qp hnx hp1 dY IJ yq ho bY hx;have bW:Hid (Bw wr wr):=Below.refl _ _;have Hb:=ae.1;obtain⟨ae,ai⟩:=qZ (Ht.an trivial);go_wp2_with fail;refine(PG.out _ (Below.refl _ _)).mono ?_;rintro ex w2 ⟨v2,rfl,fH,hb2⟩;obtain⟨pK,fB⟩:=aH (rS fH ic) (aF aP.out hb2);clear fH hb2;go_wp2;go_roundw;case rel=>exact⟨k+1,v2,by omega,by go_num,rfl,pK.out,fB.out⟩
    case measure=>exact bi
  . obtain rfl:k=n:=by omega
    have htk:ts.take k=ts:=List.take_of_length_le (by rw[Hn.out];exact Nat.le_refl _);have jR:=uA.out k;have hpl:=lM.out k;rw[htk]at ho jR hpl;obtain⟨L,hL⟩:=au (iw ts);have ql:=Hgc.out;rw[hL]at ho jR hpl ql;have hLn:L.length<=4096:=by rw[Hn.out]at hpl;omega
    obtain⟨N,hN⟩:=au L.length;rw[hN]at ho hLn;obtain⟨av,cv,rfl,yq,_⟩:=cw ho;obtain⟨wg,hwg⟩:∃wg,wg=wr:=⟨_,rfl⟩;subst hwg;obtain⟨Hav,aP,ajg,HN,aig⟩:=eD yq pb jR hN ql;have szg:=pb.size;clear yq ho pb jR hpl ql hN hL htk;go_wp2_with fail;go_loopw[8,9] (λs8 x wr=>∃(j:Nat) (v:Value),j<=N/\x=af (j:Int)/\v=s8/\wr.ownsRow wg.heap.size 111 4 v ((L.take j).filter gy).length (((L.take j).filter gy).flatMap aI)/\Bw wg wr) (λ_ x _=>N-(intOf x).toNat);case atStart=>exact⟨0,_,Nat.zero_le _,rfl,rfl,World.ownsRow_nil _ _ _ _,Below.refl _ _⟩
    case round=>
     obtain⟨j,v,hj,rfl,rfl,ho,qb⟩:=hrel;by_cases bB:j<N
     . have jP:j<L.length:=by rw[HN.out];exact bB
       obtain⟨l,s,m,e,hx⟩:∃l s m e,L[j]=(l,s,m,e):=⟨_,_,_,_,rfl⟩;obtain⟨b,o,rfl,bY⟩:=(Hav.out.below qb).term j jP hx;have aX:=gX N cv j (j:Int) (rfl:(some ⟨b,o,none⟩:Option Addr)=_) bB rfl;have hft:=an1 L j jP;obtain⟨g,hg⟩:=au (bg (dval (s,m,e)));have dY:mK (s,m,e):=by have:=ajg.out _ (List.getElem_mem jP);rw[hx]at this;exact this
       have jy:=λW=>Vj s m e g hg W (by have:=dY.1;simp only at this;omega);have hnz:gy L[j]= !(g==0):=by rw[hx];unfold gy;rw[show dval ((l,s,m,e):Trm).2=dval (s,m,e)from rfl,hg]
       rw[hnz,hx]at hft;have hfl:((L.take j).filter gy).length<=N:=by have:=List.length_filter_le gy (L.take j);rw[List.length_take]at this;omega
       have Ht:Hid (aQ wr b (o+j*4) [ah l,ag s,ah m,af e]):=bY;obtain⟨jp,pM,cV⟩:=bM jy qb ho;have ic:=qb.size;obtain⟨F,hF⟩:=au ((L.take j).filter gy);rw[hF]at cV hft hfl;have Kh:=aj hft;clear jy qb ho bY hx hg dY hnz hft hF;have Hb:=hbz wr;obtain⟨ae,ai⟩:=qZ (Ht.an trivial);go_wp2_with fail;refine aK (Hb.an ae) (jp.out _) λw3 ae ai=>?_;by_cases hg0:g=0
       . subst hg0;have hz:(((0:Int)) !=0)=false:=by decide
         have hft:=Kh.out;simp only[beq_self_eq_true,Bool.not_true,Bool.false_eq_true,if_false,List.append_nil]at hft;have OQ:=aj hft;clear hft Kh;obtain⟨Hq3,Pn⟩:=aH (aF pM.out ae.1.out) (ownsRow_below cV.out ae.1.out);go_wp2;go_roundw;case rel=>exact⟨j+1,v,by omega,by go_num,rfl,by rw[OQ.out];exact Pn.out,Hq3.out⟩
         case measure=>exact bi
       . have hz:(g !=0)=true:=by simpa using hg0
         have hz2:(g==0)=false:=by simpa using hg0
         have hft:=Kh.out;rw[hz2]at hft;simp only[Bool.not_false,if_true]at hft;have OQ:=aj hft;clear hft Kh;go_upto_region 11 with fail
         have t3:w3.cell? ⟨b,o+j*4+3,none⟩=some (af e):=ae.2.1.out.cell 3 zm;have t2:w3.cell? ⟨b,o+j*4+2,none⟩=some (ah m):=ae.2.1.out.cell 2 zm;have t0:w3.cell? ⟨b,o+j*4,none⟩=some (ah l):=ae.2.1.out.cell 0 zm;have t1:w3.cell? ⟨b,o+j*4+1,none⟩=some (ag s):=ae.2.1.out.cell 1 zm;have P0:=t0;have P1:=t1;have P2:=t2;have P3:=t3;obtain⟨W5,wB,aG,ae,ai⟩:=bO w3 ae 111 [ah l,ag s,ah m,af e];have ua:=ownsRow_below cV.out ae.2.1.out;have hs5:=ae.2.1.out.size;go_wp2_with (at_builtin;refine wpList_append_own_at _ rfl _ _ 39 rfl wg.heap.size 111 i0 _ 4 48 Tryz.underlying39 Hi.out cu.out bV.out bX.out rfl zd v F.length (F.flatMap aI) rfl ua ⟨w3.heap.size,0,none⟩ 1 1 [ah l,ag s,ah m,af e] rfl rfl (fM ae.1.out) zy zx zo zo ?_;intro v' w7 dA eo _ fD);have gS:=(aF pM.out ae.2.1.out).grown eo zo (λj e=>cE ua j e);have e7:F.flatMap aI++[ah l,ag s,ah m,af e]=(F++[(l,s,m,e)]).flatMap aI:=by rw[List.flatMap_append];rfl
         rw[e7]at dA;obtain⟨vS,sk⟩:=aH dA gS;clear dA gS e7 fD eo ua P0 P1 P2 P3;go_wp2;go_roundw;case rel=>exact⟨j+1,v',by omega,by go_num,rfl,by rw[OQ.out,List.length_append];exact vS.out,sk.out⟩
         case measure=>exact bi
     . obtain rfl:j=N:=by omega
       have htk:L.take j=L:=List.take_of_length_le (by rw[HN.out];exact Nat.le_refl _);rw[htk,aig.out]at ho;obtain⟨a2,c2,rfl,_,_⟩:=cw ho;obtain⟨Ho,ajd⟩:=aH ho (aF (aF ae.1.out aP.out) qb);have kq:=aP.out.size;have Ko:=aj (ae.2.1.out.below (aF aP.out qb));have h4:¬(4096:Int)<(C.length:Int):=by omega
       have h4d:decide ((4096:Int)<(C.length:Int))=false:=by simp;omega
       clear ho htk qb;have Hr:=Ko;have Hb:=ae.1;obtain⟨ae,ai⟩:=qZ (Hr.an trivial);go_wp2;refine CO (Ko.out) Ho.out ajd.out zo ?_;intro w9 kx fC ml;obtain⟨p0,p1⟩:=kx.c2;exact bodyPost_ret (v:=.tuple #[.agg #[af (V:Int),.slice a2 C.length c2],af 0]) (by simp[results,Tryz.results142,go_sem,p0,p1]) rfl ⟨_,_,rfl,BL fC,ml⟩
end Go.Proofs.YtpfgffadgkkedaaGreatDoor
