/- Packages ogeeref07,ogeeref08: May;put. -/
import Derived.Test.YtpfgffadgkkedaaGreatDoorZ7
import Derived.Test.YtpfgffadgkkedaaGreatDoorZ20
import Derived.Test.YtpfgffadgkkedaaGreatDoorZ13
import Derived.Test.YtpfgffadgkkedaaGreatDoorZ14
set_option linter.all false
set_option maxRecDepth 100000
set_option maxHeartbeats 16000000
namespace Go.Proofs.YtpfgffadgkkedaaGreatDoor
open Go.RowKit
attribute [local go_sem ↓] Go.wp_at_zero Go.wp_at_succ
def aqY (l:List UInt8)(v:Int)(w:World)(hl:l.length<=9223372036854775807):
 Cv 141 #[ah l,af v] w (ag (bZ l v)):=by
 obtain⟨n,hn⟩:=az l.length;have hsz:(bs l).size=n:=by rw[jh,hn]
 obtain⟨M,hM⟩:=az (bZ l v);rw[hM];obtain⟨HM,Hn⟩:=aI hM hn;rw[hn]at hl;clear hM hn;go_enter Tryz.func141,Tryz.ntmps141;have Hb:=hbz w;go_wp2_with fail;go_loopw[5] (λx wr=>∃k:Nat,k<=n/\x=af (k:Int)/\((l.take k).all λc=>decide (c.toNat<=127))=true/\Bw w wr) (λx _=>n-(intOf x).toNat);case atStart=>exact⟨0,Nat.zero_le _,rfl,rfl,Hb.out⟩
 case round=>
  clear Hb;obtain⟨k,hk,rfl,hall,pb⟩:=hrel;obtain⟨kL,Hb⟩:=aI hall pb;clear hall pb;by_cases hlt:k<n
  . have hk2:k<l.length:=by rw[Hn.out];exact hlt
    have ix:=rP l (k:Int) k hk2 rfl;obtain⟨c,hc⟩:∃c:Nat,(l[k]).toNat=c:=⟨_,rfl⟩;rw[hc]at ix;by_cases h1:128<=c
    . have h2:(128:Int)<=(c:Int):=by omega
      have kX:M=false:=by
       rw[<-HM.out];unfold bZ;have:(l.all λc=>decide (c.toNat<=127))=false:=by rw[List.all_eq_false];exact⟨l[k],List.getElem_mem hk2,by simp;omega⟩
       rw[this];rfl
      subst kX;go_wp2;exact bodyPost_ret (v:=ag false) (by simp[results,Tryz.results141,go_sem]) rfl ⟨rfl,cm⟩
    . have h2:¬(128:Int)<=(c:Int):=by omega
      have bE:Hid (((l.take (k+1)).all λc=>decide (c.toNat<=127))=true):=by
       show _=_
       rw[List.take_succ_eq_append_getElem hk2,List.all_append,kL.out];simp;omega
      clear hc;go_wp2;go_roundw;case rel=>exact⟨k+1,by omega,by go_num,bE.out,Hb.out⟩
      case measure=>exact bf
  . obtain rfl:k=n:=by omega
    have hme:M=decide ((k:Int)=v):=by rw[<-HM.out];have h:=kL.out;rw[List.take_of_length_le (by rw[Hn.out];exact Nat.le_refl _)]at h;unfold bZ;rw[h,Hn.out,Bool.true_and]
    have LD:=aj hme;clear hme;go_wp2;refine bodyPost_ret (results_tmp rfl _ _ _) rfl ⟨?_,Hb.out⟩;rw[LD.out];by_cases h:(k:Int)=v<;>simp[h]
def ahT (m:List UInt8)(l:List Trm)(j:Nat)(h:j<gK m l)(hj:j<l.length):Op.bytesLess l[j].1 m=true:=by
 induction l generalizing j with
 |nil=>simp at hj
 | cons x l ih=>
   unfold gK at h;split at h
   . rename_i hx
     cases j with
     |zero=>exact hx
     |succ j=>exact ih j zo (by simpa using hj)
   . omega
def ahU (m:List UInt8)(l:List Trm)(h:gK m l<l.length):Op.bytesLess l[gK m l].1 m=false:=by
 induction l with
 |nil=>simp at h
 | cons x l ih=>
   by_cases hx:Op.bytesLess x.1 m=true
   . have e:gK m (x::l)=gK m l+1:=by show(if _ then _ else _)=_;rw[if_pos hx]
     simp only[e]at h⊢;exact ih (by simpa using h)
   . have e:gK m (x::l)=0:=by show(if _ then _ else _)=_;rw[if_neg hx]
     simp only[e];simpa using hx
def aql (l:List Trm)(x:Trm)(k:Nat)(hk:gK x.1 l=k)(h:k<l.length)(e:l[k].1=x.1):fZ l x=l.take k++[(x.1,canon (dval l[k].2+dval x.2))]++l.drop (k+1):=by
 have e1:(l.drop k).head?=some l[k]:=by rw[List.drop_eq_getElem_cons h];rfl
 have e2:(l.drop k).headD default=l[k]:=by rw[List.drop_eq_getElem_cons h];rfl
 rw[abV,hk,e1,e2,if_pos (by rw[Option.map_some,e]),List.append_assoc,List.singleton_append]
def QS (l:List Trm)(x:Trm)(k:Nat)(hk:gK x.1 l=k)(h:∀h:k<l.length,l[k].1≠x.1):fZ l x=l.take k++[(x.1,canon (dval x.2))]++l.drop k:=by
 rw[abV,hk,if_neg,List.append_assoc,List.singleton_append];intro e;by_cases hl:k<l.length
 . rw[List.drop_eq_getElem_cons hl,List.head?_cons,Option.map_some]at e;exact h hl (Option.some.inj e)
 . rw[List.drop_of_length_le zo]at e;cases e
def At.awT {w:World}{a:Option Addr}{ts:List Trm}(h:At w a (ts.flatMap aH))(k:Nat):At w a ((ts.take k).flatMap aH):=by
 have e:(ts.take k).flatMap aH++(ts.drop k).flatMap aH=ts.flatMap aH:=by rw[<-List.flatMap_append,List.take_append_drop]
 rcases h with h|⟨b,o,rfl,hc⟩
 . rw[h]at e;exact .inl (List.append_eq_nil_iff.1 e).1
 . by_cases h0:(ts.take k).flatMap aH=[]
   . exact .inl h0
   . refine .inr ⟨b,o,rfl,λj hj=>?_⟩;rw[hc j (by rw[<-e,List.length_append];omega),<-e,List.getElem?_append_left hj]
def At.awP {w:World}{a:Option Addr}{ts:List Trm}(h:At w a (ts.flatMap aH)){n cap:Nat}(k:Nat)(hn:ts.length=n)(hk:k<=n)(hc:n<=cap):At w (if cap=k then a else a.map (·.add (k*4))) ((ts.drop k).flatMap aH):=by
 have h1:=At.cut (size:=4) (n:=n) (k:=k) (cap:=cap) h (by rw[ll,hn]) hk hc;have e:(ts.drop k).flatMap aH=(ts.flatMap aH).drop (k*4):=by
  have e0:ts.flatMap aH=(ts.take k).flatMap aH++(ts.drop k).flatMap aH:=by rw[<-List.flatMap_append,List.take_append_drop]
  rw[e0,List.drop_append_of_le_length (by rw[ll,List.length_take];omega)];have e1:((ts.take k).flatMap aH).length=k*4:=by rw[ll,List.length_take,Nat.min_eq_left zo]
  rw[<-e1,List.drop_length,List.nil_append]
 rw[e];exact h1
def aq6 (a:Option Addr)(n cap:Nat)(ts:List Trm)(l:List UInt8)(s:Bool)(m:List UInt8)(e:Int)(w:World)(hn:ts.length=n)(hl:n<=65536)(hs:Sl a n cap)(ha:At w a (ts.flatMap aH))(hf:∀t∈ts,kJ t.2)(hx:kJ (s,m,e)):
 Cl 220 #[.slice a n cap,.agg #[ah l,ag s,ah m,af e]] w λex w'=>∃v',ex=.returned v'/\w'.ownsRow w.heap.size 111 4 v' (fZ ts (l,s,m,e)).length ((fZ ts (l,s,m,e)).flatMap aH)/\Bw w w':=by
 obtain⟨i0,hi,hz0,hz1,hz2⟩:=info_parts Tryz.awN;obtain⟨A,hA⟩:=az (gK l ts);have hAn:A<=n:=by rw[<-hA,<-hn];exact ahS _ _
 have hgo:∀j (h:j<ts.length),j<A->Op.bytesLess ts[j].1 l=true:=λj h hj=>ahT l ts j zo h;have hst:∀(h:A<ts.length),Op.bytesLess ts[A].1 l=false:=λh=>by subst hA;exact ahU l ts h
 have IV:=hs.1;obtain⟨Hi,cp,bR,bV,EY,Lq,bE,Hs,Ha,Hf,ie,Hn⟩:=gN hi hz0 hz1 hz2 hA hgo hst hs ha hf hx hn;clear hi hz0 hz1 hz2 hA hgo hst hs ha hf hx hn;obtain⟨W,bX,ae,ai⟩:=fy w 111 [ah l,ag s,ah m,af e];go_enter Tryz.func220,Tryz.ntmps220;go_wp2_with fail;go_loopw[5] (λx wr=>∃k:Nat,k<=A/\x=af (k:Int)/\ar wr w.heap.size 111 [ah l,ag s,ah m,af e]/\Bw w wr) (λx _=>n-(intOf x).toNat);case atStart=>exact⟨0,Nat.zero_le _,rfl,ae.2.1.out,ae.1.out⟩
 case round=>
  skip
  obtain⟨k,hk,rfl,px,pb⟩:=hrel;obtain⟨Hx,Hb⟩:=aI px pb;clear px pb;by_cases hlt:k<A
  . have hkn:k<n:=by omega
    have hk2:k<ts.length:=by rw[Hn.out];exact hkn
    obtain⟨l',s',m',e',hx'⟩:∃l s m e,ts[k]=(l,s,m,e):=⟨_,_,_,_,rfl⟩;obtain⟨b,o,rfl,bJ⟩:=(Ha.out.below Hb.out).term k hk2 hx';have aQ:=fW n cap k (k:Int) (rfl:(some ⟨b,o,none⟩:Option Addr)=_) hkn rfl;have DI:Op.bytesLess (bs l').toList (bs l).toList=true:=by rw[gy,gy];have:=Lq.out k hk2 hlt;rw[hx']at this;exact this
    have Ht:Hid (aR wr b (o+k*4) [ah l',ag s',ah m',af e']):=bJ;clear bJ hx';obtain⟨ae,ai⟩:=qZ (Hx.an<|Ht.an trivial);have xD:decide ((k:Int)<(n:Int))=true:=by simp;omega
    go_wp2_with fail;refine cQ 999 ae (cM 14 0x1b19171513110f0d0b0907050301) ?_;refine bC ?_;refine cP ae λai=>?_;go_wp2;go_roundw;case rel=>exact⟨k+1,by omega,by go_num,ae.1.out,Hb.out.drew⟩
    case measure=>exact bf
  . obtain rfl:k=A:=by omega
    have hkc:k<=cap:=by omega
    by_cases hkn:k<n
    . have hk2:k<ts.length:=by rw[Hn.out];exact hkn
      obtain⟨l',s',m',e',hx'⟩:∃l s m e,ts[k]=(l,s,m,e):=⟨_,_,_,_,rfl⟩;obtain⟨b,o,rfl,bJ⟩:=(Ha.out.below Hb.out).term k hk2 hx';have aQ:=fW n cap k (k:Int) (rfl:(some ⟨b,o,none⟩:Option Addr)=_) hkn rfl;have DI:Op.bytesLess (bs l').toList (bs l).toList=false:=by rw[gy,gy];have:=bE.out hk2;rw[hx']at this;exact this
      have lbt:b<w.heap.size:=by obtain⟨b3,o3,h3,hw3⟩:=Ha.out.term k hk2 hx';simp only[Option.some.injEq,Addr.mk.injEq,and_true]at h3;obtain⟨rfl,rfl⟩:=h3;exact World.block_lt_of_cell? w _ (hw3.cell 0 zm)
      have Ht:Hid (aR wr b (o+k*4) [ah l',ag s',ah m',af e']):=bJ;clear bJ;obtain⟨ae,ai⟩:=qZ (Hx.an<|Ht.an trivial);have xD:decide ((k:Int)<(n:Int))=true:=by simp;omega
      go_wp2_with fail;refine cQ 999 ae (cM 14 0x1b19171513110f0d0b0907050301) ?_;refine bC ?_;refine cP ae λai=>?_;generalize pZ:wr.drew=wd;have vI:ar wd w.heap.size 111 [ah l,ag s,ah m,af e]:=by rw[<-pZ];exact ae.1.out
      have gX:Bw w wd:=by rw[<-pZ];exact Hb.out.drew
      have hpre:((ts.take k).flatMap aH).length=k*4:=by rw[ll,List.length_take,Nat.min_eq_left zo]
      have vd:=Ha.out.below gX;have uZ:=vd.awT k;obtain⟨uG,jD,Bz,BX⟩:=bU vI gX uZ hpre;have szd:=gX.size;have lxd:=uG.out.lt;clear vI gX uZ hpre vd pZ Hb;go_wp2_with (at_builtin;refine se rfl _ _ 39 rfl wd.heap.size 111 i0 _ 4 48 Tryz.underlying39 Hi.out cp.out bR.out bV.out rfl zd _ 0 [] rfl (World.ownsRow_made wd #[] 0 (Nat.le_refl _) (Nat.zero_le _) zm) (some ⟨b,o,none⟩) k cap ((ts.take k).flatMap aH) rfl (Sl.some _ _ _ hkc) BX.out (Bz.out.below ((Below.refl _ wd).alloc (Nat.le_refl _) _)) (rZ _) zx zo zm ?_;intro v1 w1 cW hg1 xM);have hb1:=((Below.refl _ wd).alloc (Nat.le_refl _) _).grown hg1 zm (λk hk=>by have h9:wd.heap.size=k:=Option.some.inj hk;omega);rw[Nat.zero_add,List.nil_append]at cW;obtain⟨av,cv,rfl,_,_⟩:=cO cW;obtain⟨Hx,Hb⟩:=aI (uG.out.below hb1) (aC jD.out hb1);obtain⟨b2,o2,ku,bJ⟩:=(Ha.out.below Hb.out).term k hk2 hx';simp only[Option.some.injEq,Addr.mk.injEq,and_true]at ku;obtain⟨rfl,rfl⟩:=ku;have Ht:Hid (aR w1 b (o+k*4) [ah l',ag s',ah m',af e']):=bJ;obtain⟨lG,bB⟩:=aI cW hb1;have hsz1:=hb1.size;have iV:kJ (s',m',e'):=by have:=Hf.out _ (List.getElem_mem hk2);rw[hx']at this;exact this
      have hel:ts[k]=(l',s',m',e'):=hx';clear cW hb1 hg1 xM bJ hx' DI;obtain⟨ae,ai⟩:=qZ (Hx.an<|Ht.an trivial);go_wp2_with fail;have GZ:((bs l').toList==(bs l).toList)=decide (l'=l):=by rw[gy,gy];by_cases h:l'=l<;>simp[h]
      by_cases he:l'=l
      case neg=>
       rw[decide_eq_false he]at GZ;refine cQ 999 ae (cM 14 0x1b19171513110f0d0b0907050301) ?_;refine bC ?_;refine cP ae λai=>?_;have jb:=bB.out.drew;generalize gA:w1.drew=w2;have hx2:ar w2 w.heap.size 111 [ah l,ag s,ah m,af e]:=by rw[<-gA];exact ae.1.out
       have hv2:w2.ownsRow wd.heap.size 111 4 (.slice av k cv) k ((ts.take k).flatMap aH):=by rw[<-gA];exact lG.out
       obtain⟨cN,Hx⟩:=aI hv2 hx2;replace Hb:=hbz w2;have wz:Hid (Bw wd w2):=by rw[<-gA];exact jb
       have qi:=Ha.out.below jD.out;have hz2:wd.heap.size<=w2.heap.size:=by rw[<-gA];exact hsz1
       obtain⟨S,hS⟩:=az (dval (s,m,e));have hps:=QS ts (l,s,m,e) k EY.out (λ_=>by rw[hel];exact he);rw[show dval ((l,s,m,e):Trm).2=S from hS]at hps;have qj:((ts.drop k).flatMap aH).length=(n-k) *4:=by rw[ll,List.length_drop,Hn.out]
       have hdr:=qi.awP (n:=n) (cap:=cap) k Hn.out zo IV;have hsc:=Hs.out.cut (k:=k) (size:=4) zo;have akK:(⟨b,o,none⟩:Addr).add (k*4)=⟨b,o+k*4,none⟩:=by unfold Addr.add;split<;>simp_all
       rw[if_neg zo,Option.map_some,akK]at hdr hsc;obtain⟨uB,HS,wB,sA,jY⟩:=eV hps hS qj hdr hsc;have hk1:k<=n:=by omega
       have OH:k<=cap:=by omega
       clear hps hS hx2 hv2 qi qj hdr hsc gA jb hel iV GZ he aQ;obtain⟨ae,ai⟩:=qZ (Hx.an trivial);go_wp2_with fail;obtain⟨Hx,_⟩:=ae;obtain⟨x0,x1,x2,x3⟩:=Hx.out.c4;refine eW (λw'=>aK w' (w.heap.size) 0 (ah l)/\aK w' (w.heap.size) 1 (ag s)/\aK w' (w.heap.size) 2 (ah m)/\aK w' (w.heap.size) 3 (af e)) (λi=>Nat.blt i 100000) [(0,true),(1,true),(2,true),(3,true),(4,true),(5,false),(6,true),(7,false),(8,false),(9,true)] zk zk rfl zk zc ⟨x0,x1,x2,x3⟩ ?_;iterate 5 (refine pT rfl rfl ?_ (by intro w' ⟨q0,q1,q2,q3⟩;go_simp;try with_reducible rfl);try simp only[UU])
       refine aP rfl rfl (λK hK=>?_);go_simp;with_reducible refine(EH s m e S HS.out _ ie.out).mono ?_
       rintro e w4 ⟨rfl,hq⟩;have ak:Bw w2 w4:=by first|exact hq|exact cJ hq
       obtain⟨Hx,x0,x1,x2,x3⟩:=AK Hx ak;replace Hb:=aZ Hb ak;refine hK _ _ (λ_=>⟨x0,x1,x2,x3⟩) ?_;try simp only[UU]
       refine pT rfl rfl ?_;try simp only[UU]
       refine aP rfl rfl (λK hK=>?_);go_simp;refine hK _ _ (λ_=>⟨aV x0,aV x1,aV x2,aV x3⟩) ?_;try simp only[UU]
       refine bY (λW5=>ar W5 (w4.heap.size) 111 [ah l,ag (au (dN S)),ah (nt (dN S).natAbs),af (dE S)]/\Bw w4 W5) (by first|exact iA|exact iB) ?_;rintro W5 ⟨qc,ak⟩;have Qm:=Hx.out.lt;replace Hx:=kB Hx ak;have Hc:=aj qc;clear qc;obtain⟨x0,x1,x2,x3⟩:=Hx.out.c4;obtain⟨c0,c1,c2,c3⟩:=Hc.out.c4;replace Hb:=aZ Hb ak;refine aP rfl rfl (λK hK=>?_);have eP:=ownsRow_below cN.out Hb.out;have hs3:=Hb.out.size;refine wp_append_own _ _ _ 39 rfl wd.heap.size 111 i0 _ 4 48 Tryz.underlying39 Hi.out cp.out bR.out bV.out rfl zd (.slice av k cv) k ((ts.take k).flatMap aH) rfl eP ⟨w4.heap.size,0,none⟩ 1 1 [ah l,ag (au (dN S)),ah (nt (dN S).natAbs),af (dE S)] rfl rfl (fJ Hc.out) zy zx zo zo ?_;intro v8 w8 eO bF _;have nb:∀b,b<wd.heap.size->some b≠(Value.slice av k cv).ownBlock:=λb hb e=>by have:=cZ eP b e.symm;omega
       refine hK _ _ (λ_=>⟨cK bF x0 (nb _ zo),cK bF x1 (nb _ zo),cK bF x2 (nb _ zo),cK bF x3 (nb _ zo)⟩) ?_;try simp only[UU]
       have fF:=(aC wz.out Hb.out).grown bF zo (λj e=>cZ eP j e);obtain⟨gh,iE⟩:=aI fF eO;have xS:=bF.size;refine pT rfl rfl ?_;try simp only[UU]
       simp only[bI];clear nb eP eO bF fF x0 x1 x2 x3 c0 c1 c2 c3;go_wp2_with (at_builtin;refine se rfl _ _ 39 rfl wd.heap.size 111 i0 _ 4 48 Tryz.underlying39 Hi.out cp.out bR.out bV.out rfl zd v8 (k+1) _ rfl iE.out _ (n-k) (cap-k) ((ts.drop k).flatMap aH) rfl jY.out wB.out (sA.out.below gh.out) (rZ _) zx zo zo ?_;intro v9 w9 eD kU DV);all_goals
        go_ret
        refine⟨v9,rfl,?_,(aC jD.out gh.out).grown kU zo (λj e=>by have:=cZ iE.out j e;omega)⟩
        rw[uB.out]
        have e9:((ts.take k++[(l,canon S)]++ts.drop k).flatMap aH)=(ts.take k).flatMap aH++[ah l,ag (au (dN S)),ah (nt (dN S).natAbs),af (dE S)]++(ts.drop k).flatMap aH:=by rw[List.flatMap_append,List.flatMap_append];rfl
        have l9:(ts.take k++[(l,canon S)]++ts.drop k).length=k+1+(n-k):=by simp[Hn.out];omega
        rw[e9,l9]
        exact pj eD zo
      rw[decide_eq_true he]at GZ;refine cQ 999 ae (cM 14 0x1b19171513110f0d0b0907050301) ?_;refine bC ?_;refine cP ae λai=>?_;have jb:=bB.out.drew;generalize gA:w1.drew=w2;have hx2:ar w2 w.heap.size 111 [ah l,ag s,ah m,af e]:=by rw[<-gA];exact ae.1.out
      have ht2:aR w2 b (o+k*4) [ah l',ag s',ah m',af e']:=by rw[<-gA];exact ae.2.1.out
      have hb2:Bw w w2:=by rw[<-gA];exact Hb.out.drew
      have hv2:w2.ownsRow wd.heap.size 111 4 (.slice av k cv) k ((ts.take k).flatMap aH):=by rw[<-gA];exact lG.out
      obtain⟨cN,Hx,Ht⟩:=bM hv2 hx2 ht2;replace Hb:=hbz w2;have wz:Hid (Bw wd w2):=by rw[<-gA];exact jb
      have qi:=Ha.out.below jD.out;have hz2:wd.heap.size<=w2.heap.size:=by rw[<-gA];exact hsz1
      obtain⟨S,hS⟩:=az (dval (s',m',e')+dval (s,m,e));have hps:=aql ts (l,s,m,e) k EY.out hk2 (by rw[hel];exact he);rw[show dval ts[k].2=dval (s',m',e')by rw[hel],show dval (s',m',e')+dval ((l,s,m,e):Trm).2=S from hS]at hps;have qj:((ts.drop (k+1)).flatMap aH).length=(n-(k+1)) *4:=by rw[ll,List.length_drop,Hn.out]
      have hdr:=qi.awP (n:=n) (cap:=cap) (k+1) Hn.out zo IV;have hsc:=Hs.out.cut (k:=k+1) (size:=4) zo;obtain⟨uB,HS,nK,wB,sA,jY⟩:=ia hps hS iV qj hdr hsc;have hk1:k+1<=n:=by omega
      have OH:k+1<=cap:=by omega
      clear hps hS hel iV hx2 ht2 hb2 hv2 qi qj hdr hsc gA jb GZ he aQ;obtain⟨ae,ai⟩:=qZ (Hx.an<|Ht.an trivial);have aQ:=fW n cap k (k:Int) (rfl:(some ⟨b,o,none⟩:Option Addr)=_) hkn rfl;go_wp2_with fail;have lbx:=ae.1.out.lt;obtain⟨Hx,Ht,_⟩:=ae;obtain⟨x0,x1,x2,x3⟩:=Hx.out.c4;obtain⟨t0,t1,t2,t3⟩:=Ht.out.w4;refine eW (λw'=>aK w' (w.heap.size) 0 (ah l)/\aK w' (w.heap.size) 1 (ag s)/\aK w' (w.heap.size) 2 (ah m)/\aK w' (w.heap.size) 3 (af e)/\aK w' b (o+k*4) (ah l')/\aK w' b (o+k*4+1) (ag s')/\aK w' b (o+k*4+2) (ah m')/\aK w' b (o+k*4+3) (af e')) (λi=>Nat.blt i 100000) [(0,true),(1,true),(2,true),(3,true),(4,true),(5,true),(6,true),(7,true),(8,true),(9,true),(10,false),(11,true),(12,false),(13,false),(14,true)] zk zk rfl zk zc ⟨x0,x1,x2,x3,t0,t1,t2,t3⟩ ?_;iterate 10 (refine pT rfl rfl ?_ (by intro w' ⟨q0,q1,q2,q3,q4,q5,q6,q7⟩;go_simp;try with_reducible rfl);try simp only[UU])
      refine aP rfl rfl (λK hK=>?_);go_simp;with_reducible refine(aq2 s' m' e' s m e S HS.out _ nK.out ie.out).mono ?_
      rintro e w4 ⟨rfl,hq⟩;have ak:Bw w2 w4:=by first|exact hq|exact cJ hq
      obtain⟨Hx,x0,x1,x2,x3⟩:=AK Hx ak;replace Ht:=kW Ht ak;obtain⟨t0,t1,t2,t3⟩:=Ht.out.w4;replace Hb:=aZ Hb ak;refine hK _ _ (λ_=>⟨x0,x1,x2,x3,t0,t1,t2,t3⟩) ?_;try simp only[UU]
      refine pT rfl rfl ?_;try simp only[UU]
      refine aP rfl rfl (λK hK=>?_);go_simp;refine hK _ _ (λ_=>⟨aV x0,aV x1,aV x2,aV x3,aV t0,aV t1,aV t2,aV t3⟩) ?_;try simp only[UU]
      refine bY (λW5=>ar W5 (w4.heap.size) 111 [ah l,ag (au (dN S)),ah (nt (dN S).natAbs),af (dE S)]/\Bw w4 W5) (by first|exact iA|exact iB) ?_;rintro W5 ⟨qc,ak⟩;have Qm:=Hx.out.lt;replace Hx:=kB Hx ak;replace Ht:=kW Ht ak;have Hc:=aj qc;clear qc;obtain⟨x0,x1,x2,x3⟩:=Hx.out.c4;obtain⟨t0,t1,t2,t3⟩:=Ht.out.w4;obtain⟨c0,c1,c2,c3⟩:=Hc.out.c4;replace Hb:=aZ Hb ak;refine aP rfl rfl (λK hK=>?_);have eP:=ownsRow_below cN.out Hb.out;have hs3:=Hb.out.size;refine wp_append_own _ _ _ 39 rfl wd.heap.size 111 i0 _ 4 48 Tryz.underlying39 Hi.out cp.out bR.out bV.out rfl zd (.slice av k cv) k ((ts.take k).flatMap aH) rfl eP ⟨w4.heap.size,0,none⟩ 1 1 [ah l,ag (au (dN S)),ah (nt (dN S).natAbs),af (dE S)] rfl rfl (fJ Hc.out) zy zx zo zo ?_;intro v8 w8 eO bF _;have nb:∀b,b<wd.heap.size->some b≠(Value.slice av k cv).ownBlock:=λb hb e=>by have:=cZ eP b e.symm;omega
      refine hK _ _ (λ_=>⟨cK bF x0 (nb _ zo),cK bF x1 (nb _ zo),cK bF x2 (nb _ zo),cK bF x3 (nb _ zo),cK bF t0 (nb _ zp),cK bF t1 (nb _ zp),cK bF t2 (nb _ zp),cK bF t3 (nb _ zp)⟩) ?_;try simp only[UU]
      have fF:=(aC wz.out Hb.out).grown bF zo (λj e=>cZ eP j e);obtain⟨gh,iE⟩:=aI fF eO;have xS:=bF.size;refine pT rfl rfl ?_;try simp only[UU]
      simp only[bI];clear nb eP eO bF fF x0 x1 x2 x3 t0 t1 t2 t3 c0 c1 c2 c3;go_wp2_with (at_builtin;refine se rfl _ _ 39 rfl wd.heap.size 111 i0 _ 4 48 Tryz.underlying39 Hi.out cp.out bR.out bV.out rfl zd v8 (k+1) _ rfl iE.out _ (n-(k+1)) (cap-(k+1)) ((ts.drop (k+1)).flatMap aH) rfl jY.out wB.out (sA.out.below gh.out) (rZ _) zx zo zo ?_;intro v9 w9 eD kU DV);all_goals
       go_ret
       refine⟨v9,rfl,?_,(aC jD.out gh.out).grown kU zo (λj e=>by have:=cZ iE.out j e;omega)⟩
       rw[uB.out]
       have e9:((ts.take k++[(l,canon S)]++ts.drop (k+1)).flatMap aH)=(ts.take k).flatMap aH++[ah l,ag (au (dN S)),ah (nt (dN S).natAbs),af (dE S)]++(ts.drop (k+1)).flatMap aH:=by rw[List.flatMap_append,List.flatMap_append];rfl
       have l9:(ts.take k++[(l,canon S)]++ts.drop (k+1)).length=k+1+(n-(k+1)):=by simp[Hn.out];omega
       rw[e9,l9]
       exact pj eD zo
    . obtain rfl:n=k:=by omega
      cases a with
      | none=>
        have hc0:=Hs.out.2 rfl;obtain rfl:n=0:=by omega
        subst hc0;obtain⟨ae,ai⟩:=qZ (Hx.an trivial);have xD:decide (((0:Nat):Int)<((0:Nat):Int))=false:=by simp
        go_wp2_with fail;refine cQ 999 ae (cM 14 0x1b19171513110f0d0b0907050301) ?_;refine bC ?_;refine cP ae λai=>?_;generalize pZ:wr.drew=wd;have vI:ar wd w.heap.size 111 [ah l,ag s,ah m,af e]:=by rw[<-pZ];exact ae.1.out
        have gX:Bw w wd:=by rw[<-pZ];exact Hb.out.drew
        have hpre:((ts.take 0).flatMap aH).length=0*4:=by rw[ll,List.length_take,Nat.min_eq_left (by have:=Hn.out;omega)]
        have vd:=Ha.out.below gX;have uZ:=vd.awT 0;have hsk:Sl none 0 0:=Hs.out;obtain⟨uG,jD,Bz,BX⟩:=bU vI gX uZ hpre;have szd:=gX.size;have lxd:=uG.out.lt;clear vI gX uZ hpre vd pZ Hb;go_wp2_with (at_builtin;refine se rfl _ _ 39 rfl wd.heap.size 111 i0 _ 4 48 Tryz.underlying39 Hi.out cp.out bR.out bV.out rfl zd _ 0 [] rfl (World.ownsRow_made wd #[] 0 (Nat.le_refl _) (Nat.zero_le _) zm) none 0 0 ((ts.take 0).flatMap aH) rfl hsk BX.out (Bz.out.below ((Below.refl _ wd).alloc (Nat.le_refl _) _)) (rZ _) (by simp[maxLen]) zo zm ?_;intro v1 w1 cW hg1 xM);have hb1:=((Below.refl _ wd).alloc (Nat.le_refl _) _).grown hg1 zm (λk hk=>by have h9:wd.heap.size=k:=Option.some.inj hk;omega);rw[Nat.zero_add,List.nil_append]at cW;obtain⟨av,cv,rfl,_,_⟩:=cO cW;obtain⟨Hx,Hb,lG,bB⟩:=bU (uG.out.below hb1) (aC jD.out hb1) cW hb1;have hsz1:=hb1.size;clear cW hb1 hg1 xM;obtain⟨ae,ai⟩:=qZ (Hx.an trivial);go_wp2_with fail;refine cQ 999 ae (cM 14 0x1b19171513110f0d0b0907050301) ?_;refine bC ?_;refine cP ae λai=>?_;have jb:=bB.out.drew;generalize gA:w1.drew=w2;have hx2:ar w2 w.heap.size 111 [ah l,ag s,ah m,af e]:=by rw[<-gA];exact ae.1.out
        have hv2:w2.ownsRow wd.heap.size 111 4 (.slice av 0 cv) 0 ((ts.take 0).flatMap aH):=by rw[<-gA];exact lG.out
        obtain⟨cN,Hx⟩:=aI hv2 hx2;replace Hb:=hbz w2;have wz:Hid (Bw wd w2):=by rw[<-gA];exact jb
        have qi:=Ha.out.below jD.out;have hz2:wd.heap.size<=w2.heap.size:=by rw[<-gA];exact hsz1
        obtain⟨S,hS⟩:=az (dval (s,m,e));have hps:=QS ts (l,s,m,e) 0 EY.out (λh=>absurd h (by have:=Hn.out;omega));rw[show dval ((l,s,m,e):Trm).2=S from hS]at hps;have qj:((ts.drop 0).flatMap aH).length=(0-0) *4:=by rw[ll,List.length_drop,Hn.out]
        have hdr:=qi.awP (n:=0) (cap:=0) 0 Hn.out zo IV;have hsc:=Hs.out.cut (k:=0) (size:=4) zo;obtain⟨uB,HS,wB,sA,jY⟩:=eV hps hS qj hdr hsc;have hk1:0<=0:=by omega
        have OH:0<=0:=by omega
        clear hps hS hx2 hv2 qi qj hdr hsc gA jb;obtain⟨ae,ai⟩:=qZ (Hx.an trivial);go_wp2_with fail;obtain⟨Hx,_⟩:=ae;obtain⟨x0,x1,x2,x3⟩:=Hx.out.c4;refine eW (λw'=>aK w' (w.heap.size) 0 (ah l)/\aK w' (w.heap.size) 1 (ag s)/\aK w' (w.heap.size) 2 (ah m)/\aK w' (w.heap.size) 3 (af e)) (λi=>Nat.blt i 100000) [(0,true),(1,true),(2,true),(3,true),(4,true),(5,false),(6,true),(7,false),(8,false),(9,true)] zk zk rfl zk zc ⟨x0,x1,x2,x3⟩ ?_;iterate 5 (refine pT rfl rfl ?_ (by intro w' ⟨q0,q1,q2,q3⟩;go_simp;try with_reducible rfl);try simp only[UU])
        refine aP rfl rfl (λK hK=>?_);go_simp;with_reducible refine(EH s m e S HS.out _ ie.out).mono ?_
        rintro e w4 ⟨rfl,hq⟩;have ak:Bw w2 w4:=by first|exact hq|exact cJ hq
        obtain⟨Hx,x0,x1,x2,x3⟩:=AK Hx ak;replace Hb:=aZ Hb ak;refine hK _ _ (λ_=>⟨x0,x1,x2,x3⟩) ?_;try simp only[UU]
        refine pT rfl rfl ?_;try simp only[UU]
        refine aP rfl rfl (λK hK=>?_);go_simp;refine hK _ _ (λ_=>⟨aV x0,aV x1,aV x2,aV x3⟩) ?_;try simp only[UU]
        refine bY (λW5=>ar W5 (w4.heap.size) 111 [ah l,ag (au (dN S)),ah (nt (dN S).natAbs),af (dE S)]/\Bw w4 W5) (by first|exact iA|exact iB) ?_;rintro W5 ⟨qc,ak⟩;have Qm:=Hx.out.lt;replace Hx:=kB Hx ak;have Hc:=aj qc;clear qc;obtain⟨x0,x1,x2,x3⟩:=Hx.out.c4;obtain⟨c0,c1,c2,c3⟩:=Hc.out.c4;replace Hb:=aZ Hb ak;refine aP rfl rfl (λK hK=>?_);have eP:=ownsRow_below cN.out Hb.out;have hs3:=Hb.out.size;refine wp_append_own _ _ _ 39 rfl wd.heap.size 111 i0 _ 4 48 Tryz.underlying39 Hi.out cp.out bR.out bV.out rfl zd (.slice av 0 cv) 0 ((ts.take 0).flatMap aH) rfl eP ⟨w4.heap.size,0,none⟩ 1 1 [ah l,ag (au (dN S)),ah (nt (dN S).natAbs),af (dE S)] rfl rfl (fJ Hc.out) zy (by simp[maxLen]) zo zo ?_;intro v8 w8 eO bF _;have nb:∀b,b<wd.heap.size->some b≠(Value.slice av 0 cv).ownBlock:=λb hb e=>by have:=cZ eP b e.symm;omega
        refine hK _ _ (λ_=>⟨cK bF x0 (nb _ zo),cK bF x1 (nb _ zo),cK bF x2 (nb _ zo),cK bF x3 (nb _ zo)⟩) ?_;try simp only[UU]
        have fF:=(aC wz.out Hb.out).grown bF zo (λj e=>cZ eP j e);obtain⟨gh,iE⟩:=aI fF eO;have xS:=bF.size;refine pT rfl rfl ?_;try simp only[UU]
        simp only[bI];clear nb eP eO bF fF x0 x1 x2 x3 c0 c1 c2 c3;go_wp2_with (at_builtin;refine se rfl _ _ 39 rfl wd.heap.size 111 i0 _ 4 48 Tryz.underlying39 Hi.out cp.out bR.out bV.out rfl zd v8 (0+1) _ rfl iE.out none 0 0 ((ts.drop 0).flatMap aH) rfl jY.out wB.out (sA.out.below gh.out) (rZ _) (by simp[maxLen]) zo zo ?_;intro v9 w9 eD kU DV);all_goals
         go_ret
         refine⟨v9,rfl,?_,(aC jD.out gh.out).grown kU zo (λj e=>by have:=cZ iE.out j e;omega)⟩
         rw[uB.out]
         have e9:((ts.take 0++[(l,canon S)]++ts.drop 0).flatMap aH)=(ts.take 0).flatMap aH++[ah l,ag (au (dN S)),ah (nt (dN S).natAbs),af (dE S)]++(ts.drop 0).flatMap aH:=by rw[List.flatMap_append,List.flatMap_append];rfl
         have l9:(ts.take 0++[(l,canon S)]++ts.drop 0).length=0+1+0:=by simp[Hn.out]
         rw[e9,l9]
         exact pj eD zo
      | some ad=>
        obtain⟨ae,ai⟩:=qZ (Hx.an trivial);have xD:decide ((n:Int)<(n:Int))=false:=by simp
        go_wp2_with fail;refine cQ 999 ae (cM 14 0x1b19171513110f0d0b0907050301) ?_;refine bC ?_;refine cP ae λai=>?_;generalize pZ:wr.drew=wd;have vI:ar wd w.heap.size 111 [ah l,ag s,ah m,af e]:=by rw[<-pZ];exact ae.1.out
        have gX:Bw w wd:=by rw[<-pZ];exact Hb.out.drew
        have hpre:((ts.take n).flatMap aH).length=n*4:=by rw[ll,List.length_take,Nat.min_eq_left (by have:=Hn.out;omega)]
        have vd:=Ha.out.below gX;have uZ:=vd.awT n;have hsk:Sl (some ad) n cap:=Hs.out;obtain⟨uG,jD,Bz,BX⟩:=bU vI gX uZ hpre;have szd:=gX.size;have lxd:=uG.out.lt;clear vI gX uZ hpre vd pZ Hb;go_wp2_with (at_builtin;refine se rfl _ _ 39 rfl wd.heap.size 111 i0 _ 4 48 Tryz.underlying39 Hi.out cp.out bR.out bV.out rfl zd _ 0 [] rfl (World.ownsRow_made wd #[] 0 (Nat.le_refl _) (Nat.zero_le _) zm) (some ad) n cap ((ts.take n).flatMap aH) rfl hsk BX.out (Bz.out.below ((Below.refl _ wd).alloc (Nat.le_refl _) _)) (rZ _) zx zo zm ?_;intro v1 w1 cW hg1 xM);have hb1:=((Below.refl _ wd).alloc (Nat.le_refl _) _).grown hg1 zm (λk hk=>by have h9:wd.heap.size=k:=Option.some.inj hk;omega);rw[Nat.zero_add,List.nil_append]at cW;obtain⟨av,cv,rfl,_,_⟩:=cO cW;obtain⟨Hx,Hb,lG,bB⟩:=bU (uG.out.below hb1) (aC jD.out hb1) cW hb1;have hsz1:=hb1.size;clear cW hb1 hg1 xM;obtain⟨ae,ai⟩:=qZ (Hx.an trivial);go_wp2_with fail;refine cQ 999 ae (cM 14 0x1b19171513110f0d0b0907050301) ?_;refine bC ?_;refine cP ae λai=>?_;have jb:=bB.out.drew;generalize gA:w1.drew=w2;have hx2:ar w2 w.heap.size 111 [ah l,ag s,ah m,af e]:=by rw[<-gA];exact ae.1.out
        have hv2:w2.ownsRow wd.heap.size 111 4 (.slice av n cv) n ((ts.take n).flatMap aH):=by rw[<-gA];exact lG.out
        obtain⟨cN,Hx⟩:=aI hv2 hx2;replace Hb:=hbz w2;have wz:Hid (Bw wd w2):=by rw[<-gA];exact jb
        have qi:=Ha.out.below jD.out;have hz2:wd.heap.size<=w2.heap.size:=by rw[<-gA];exact hsz1
        obtain⟨S,hS⟩:=az (dval (s,m,e));have hps:=QS ts (l,s,m,e) n EY.out (λh=>absurd h (by have:=Hn.out;omega));rw[show dval ((l,s,m,e):Trm).2=S from hS]at hps;have qj:((ts.drop n).flatMap aH).length=0*4:=by rw[ll,List.length_drop,Hn.out,Nat.sub_self]
        have hdr:=qi.awP (n:=n) (cap:=cap) n Hn.out zo IV;have hsc:=Hs.out.cut (k:=n) (size:=4) zo;rw[Nat.sub_self]at hsc;obtain⟨uB,HS,wB,sA,jY⟩:=eV hps hS qj hdr hsc;have hk1:n<=n:=by omega
        have OH:n<=cap:=by omega
        clear hps hS hx2 hv2 qi qj hdr hsc gA jb;obtain⟨ae,ai⟩:=qZ (Hx.an trivial);go_wp2_with fail;obtain⟨Hx,_⟩:=ae;obtain⟨x0,x1,x2,x3⟩:=Hx.out.c4;refine eW (λw'=>aK w' (w.heap.size) 0 (ah l)/\aK w' (w.heap.size) 1 (ag s)/\aK w' (w.heap.size) 2 (ah m)/\aK w' (w.heap.size) 3 (af e)) (λi=>Nat.blt i 100000) [(0,true),(1,true),(2,true),(3,true),(4,true),(5,false),(6,true),(7,false),(8,false),(9,true)] zk zk rfl zk zc ⟨x0,x1,x2,x3⟩ ?_;iterate 5 (refine pT rfl rfl ?_ (by intro w' ⟨q0,q1,q2,q3⟩;go_simp;try with_reducible rfl);try simp only[UU])
        refine aP rfl rfl (λK hK=>?_);go_simp;with_reducible refine(EH s m e S HS.out _ ie.out).mono ?_
        rintro e w4 ⟨rfl,hq⟩;have ak:Bw w2 w4:=by first|exact hq|exact cJ hq
        obtain⟨Hx,x0,x1,x2,x3⟩:=AK Hx ak;replace Hb:=aZ Hb ak;refine hK _ _ (λ_=>⟨x0,x1,x2,x3⟩) ?_;try simp only[UU]
        refine pT rfl rfl ?_;try simp only[UU]
        refine aP rfl rfl (λK hK=>?_);go_simp;refine hK _ _ (λ_=>⟨aV x0,aV x1,aV x2,aV x3⟩) ?_;try simp only[UU]
        refine bY (λW5=>ar W5 (w4.heap.size) 111 [ah l,ag (au (dN S)),ah (nt (dN S).natAbs),af (dE S)]/\Bw w4 W5) (by first|exact iA|exact iB) ?_;rintro W5 ⟨qc,ak⟩;have Qm:=Hx.out.lt;replace Hx:=kB Hx ak;have Hc:=aj qc;clear qc;obtain⟨x0,x1,x2,x3⟩:=Hx.out.c4;obtain⟨c0,c1,c2,c3⟩:=Hc.out.c4;replace Hb:=aZ Hb ak;refine aP rfl rfl (λK hK=>?_);have eP:=ownsRow_below cN.out Hb.out;have hs3:=Hb.out.size;refine wp_append_own _ _ _ 39 rfl wd.heap.size 111 i0 _ 4 48 Tryz.underlying39 Hi.out cp.out bR.out bV.out rfl zd (.slice av n cv) n ((ts.take n).flatMap aH) rfl eP ⟨w4.heap.size,0,none⟩ 1 1 [ah l,ag (au (dN S)),ah (nt (dN S).natAbs),af (dE S)] rfl rfl (fJ Hc.out) zy zx zo zo ?_;intro v8 w8 eO bF _;have nb:∀b,b<wd.heap.size->some b≠(Value.slice av n cv).ownBlock:=λb hb e=>by have:=cZ eP b e.symm;omega
        refine hK _ _ (λ_=>⟨cK bF x0 (nb _ zo),cK bF x1 (nb _ zo),cK bF x2 (nb _ zo),cK bF x3 (nb _ zo)⟩) ?_;try simp only[UU]
        have fF:=(aC wz.out Hb.out).grown bF zo (λj e=>cZ eP j e);obtain⟨gh,iE⟩:=aI fF eO;have xS:=bF.size;refine pT rfl rfl ?_;try simp only[UU]
        simp only[bI];clear nb eP eO bF fF x0 x1 x2 x3 c0 c1 c2 c3;go_wp2_with (at_builtin;refine se rfl _ _ 39 rfl wd.heap.size 111 i0 _ 4 48 Tryz.underlying39 Hi.out cp.out bR.out bV.out rfl zd v8 (n+1) _ rfl iE.out _ 0 (cap-n) ((ts.drop n).flatMap aH) rfl jY.out wB.out (sA.out.below gh.out) (rZ _) zx zo zo ?_;intro v9 w9 eD kU DV);all_goals
         go_ret
         refine⟨v9,rfl,?_,(aC jD.out gh.out).grown kU zo (λj e=>by have:=cZ iE.out j e;omega)⟩
         rw[uB.out]
         have e9:((ts.take n++[(l,canon S)]++ts.drop n).flatMap aH)=(ts.take n).flatMap aH++[ah l,ag (au (dN S)),ah (nt (dN S).natAbs),af (dE S)]++(ts.drop n).flatMap aH:=by rw[List.flatMap_append,List.flatMap_append];rfl
         have l9:(ts.take n++[(l,canon S)]++ts.drop n).length=n+1+0:=by simp[Hn.out]
         rw[e9,l9]
         exact pj eD zo
def aqm {C:Nat}(l:List Trm)(x:Trm)(h:∀t∈l,Sm C (dval t.2))(hx:Sm C (dval x.2)):∀t∈fZ l x,Sm (C+1) (dval t.2):=by
 have hc:∀X:Dyadic,Sm (C+1) X->Sm (C+1) (dval (canon X)):=λX h=>by rw[bD];exact h
 induction l with
 |nil=>intro t ht;simp only[fZ,List.mem_singleton]at ht;rw[ht];exact hc _ (hx.mono zo)
 | cons y l ih=>
   intro t ht;unfold fZ at ht;split at ht
   . rcases List.mem_cons.1 ht with rfl|ht
     . exact(h _ zm).mono zo
     . exact ih (λt ht=>h t (by simp[ht])) t ht
   . split at ht
     . rcases List.mem_cons.1 ht with rfl|ht
       . exact hc _ ((h y zm).add hx)
       . exact(h t (by simp[ht])).mono zo
     . rcases List.mem_cons.1 ht with rfl|ht
       . exact hc _ (hx.mono zo)
       . exact(h t ht).mono zo
def aqr {B:Nat}(l:List Trm)(h:∀t∈l,Sm B (dval t.2)):∀t∈gF l,Sm (B+l.length) (dval t.2):=by refine EM (Q:=λl=>(∀t∈l,Sm B (dval t.2))->∀t∈gF l,Sm (B+l.length) (dval t.2)) (λ_ t ht=>by cases ht) (λl x ih h=>?_) l h;rw[Bd];have h1:=ih (λt ht=>h t (by simp[ht]));have:=aqm (C:=B+l.length) (gF l) x h1 ((h x zm).mono zo);intro t ht;have h9:=this t ht;rw[List.length_append];exact h9
def aqo {B:Nat}(l:List Trm)(h:∀t∈l,Sm B (dval t.2))(hB:B+l.length<=16384):∀t∈gF l,kJ t.2:=λt ht=>by have h1:=aqr l h t ht;rw[abW l t ht];exact h1.awM hB
def alc (L:List Trm)(k:Nat)(hk:k<L.length):(L.take (k+1)).filter fN=(L.take k).filter fN++if fN L[k]then[L[k]]else[]:=by rw[List.take_succ_eq_append_getElem hk,List.filter_append];congr 1;by_cases h:fN L[k]=true<;>simp[h]
def aqU (V:Nat)(a:Option Addr)(n cap:Nat)(ts:List Trm)(B:Nat)(w:World)(hn:ts.length=n)(hl:n<=4096)(ha:At w a (ts.flatMap aH))(hf:∀t∈ts,kJ t.2)(hs:∀t∈ts,Sm B (dval t.2))(hB:B+n<=16384):
 Cl 142 #[af (V:Int),.slice a n cap] w λex w'=>∃a' c',ex=.returned (.tuple #[.agg #[af (V:Int),.slice a' (aS ts).length c'],af 0])/\aM w' a' c' (aS ts)/\Bw w w':=by
 obtain⟨i0,hi,hz0,hz1,hz2⟩:=info_parts Tryz.awN;have fu:=λk=>aqo (ts.take k) (λt ht=>hs t (List.mem_of_mem_take ht)) (by rw[List.length_take];omega);have hpl:=λk=>aqp (ts.take k);have nZ:=alB ts;obtain⟨C,hC⟩:=az (aS ts);have hcl:=jH ts;rw[hC]at nZ hcl⊢;obtain⟨Hi,cp,bR,bV,rc,jW,Hgc,Ha,Hf,Hn⟩:=AP hi hz0 hz1 hz2 fu hpl nZ ha hf hn;have hC4:C.length<=4096:=by omega
 clear hi hz0 hz1 hz2 fu hpl nZ ha hf hs hC hn hcl;obtain⟨W,bX,ae,ai⟩:=fy w 41 [af 0,.slice none 0 0];go_enter Tryz.func142,Tryz.ntmps142;go_wp2_with fail;have hrl:=ae.2.1.out.lt;go_loopw[6,7] (λs6 x wr=>∃(k:Nat) (v:Value),k<=n/\x=af (k:Int)/\v=s6/\wr.ownsRow W.heap.size 111 4 v (gF (ts.take k)).length ((gF (ts.take k)).flatMap aH)/\Bw W wr) (λ_ x _=>n-(intOf x).toNat);case atStart=>exact⟨0,_,Nat.zero_le _,rfl,rfl,World.ownsRow_nil _ _ _ _,Below.refl _ _⟩
 case round=>
  skip
  obtain⟨k,v,hk,rfl,rfl,ho,pb⟩:=hrel;by_cases hlt:k<n
  . have hk2:k<ts.length:=by rw[Hn.out];exact hlt
    obtain⟨l,s,m,e,hx⟩:∃l s m e,ts[k]=(l,s,m,e):=⟨_,_,_,_,rfl⟩;obtain⟨b,o,rfl,bJ⟩:=(Ha.out.below (aC ae.1.out pb)).term k hk2 hx;have aQ:=fW n cap k (k:Int) (rfl:(some ⟨b,o,none⟩:Option Addr)=_) hlt rfl;obtain⟨av,cv,rfl,ve,_⟩:=cO ho;have Ee:=ue ho;have hnx:gF (ts.take (k+1))=fZ (gF (ts.take k)) (l,s,m,e):=by rw[List.take_succ_eq_append_getElem hk2,Bd,hx]
    have hp1:(gF (ts.take k)).length<=65536:=by have:=jW.out k;rw[List.length_take]at this;omega
    have cS:kJ (s,m,e):=by have:=Hf.out _ (List.getElem_mem hk2);rw[hx]at this;exact this
    have hput:=λ(W':World) (hW:Bw wr W')=>aq6 av _ cv (gF (ts.take k)) l s m e W' rfl hp1 Ee (ve.below hW) (rc.out k) cS;rw[<-hnx]at hput;obtain⟨np,Pb⟩:=az ((gF (ts.take k)).length);rw[Pb]at hput;rw[Pb];obtain⟨LP,aO⟩:=aI hput pb;have Ht:Hid (aR wr b (o+k*4) [ah l,ag s,ah m,af e]):=bJ;have gQ:=pb.size;clear hput pb Pb hnx hp1 cS Ee ve ho bJ hx;have cn:Hid (Bw wr wr):=Below.refl _ _;have Hb:=ae.1;obtain⟨ae,ai⟩:=qZ (Ht.an trivial);go_wp2_with fail;refine(LP.out _ (Below.refl _ _)).mono ?_;rintro ex w2 ⟨v2,rfl,ft,hb2⟩;obtain⟨nO,dG⟩:=aI (pj ft gQ) (aC aO.out hb2);clear ft hb2;go_wp2;go_roundw;case rel=>exact⟨k+1,v2,by omega,by go_num,rfl,nO.out,dG.out⟩
    case measure=>exact bf
  . obtain rfl:k=n:=by omega
    have htk:ts.take k=ts:=List.take_of_length_le (by rw[Hn.out];exact Nat.le_refl _);have fu:=rc.out k;have hpl:=jW.out k;rw[htk]at ho fu hpl;obtain⟨L,hL⟩:=az (gF ts);have nZ:=Hgc.out;rw[hL]at ho fu hpl nZ;have hLn:L.length<=4096:=by rw[Hn.out]at hpl;omega
    obtain⟨N,hN⟩:=az L.length;rw[hN]at ho hLn;obtain⟨av,cv,rfl,ve,_⟩:=cO ho;obtain⟨wg,hwg⟩:∃wg,wg=wr:=⟨_,rfl⟩;subst hwg;obtain⟨Hav,aO,LM,HN,afy⟩:=eV ve pb fu hN nZ;have szg:=pb.size;clear ve ho pb fu hpl nZ hN hL htk;go_wp2_with fail;go_loopw[8,9] (λs8 x wr=>∃(j:Nat) (v:Value),j<=N/\x=af (j:Int)/\v=s8/\wr.ownsRow wg.heap.size 111 4 v ((L.take j).filter fN).length (((L.take j).filter fN).flatMap aH)/\Bw wg wr) (λ_ x _=>N-(intOf x).toNat);case atStart=>exact⟨0,_,Nat.zero_le _,rfl,rfl,World.ownsRow_nil _ _ _ _,Below.refl _ _⟩
    case round=>
     obtain⟨j,v,hj,rfl,rfl,ho,qb⟩:=hrel;by_cases bi:j<N
     . have gL:j<L.length:=by rw[HN.out];exact bi
       obtain⟨l,s,m,e,hx⟩:∃l s m e,L[j]=(l,s,m,e):=⟨_,_,_,_,rfl⟩;obtain⟨b,o,rfl,bJ⟩:=(Hav.out.below qb).term j gL hx;have aQ:=fW N cv j (j:Int) (rfl:(some ⟨b,o,none⟩:Option Addr)=_) bi rfl;have hft:=alc L j gL;obtain⟨g,hg⟩:=az (bg (dval (s,m,e)));have cS:kJ (s,m,e):=by have:=LM.out _ (List.getElem_mem gL);rw[hx]at this;exact this
       have jO:=λW=>Rc s m e g hg W (by have:=cS.1;simp only at this;omega);have hnz:fN L[j]= !(g==0):=by rw[hx];unfold fN;rw[show dval ((l,s,m,e):Trm).2=dval (s,m,e)from rfl,hg]
       rw[hnz,hx]at hft;have hfl:((L.take j).filter fN).length<=N:=by have:=List.length_filter_le fN (L.take j);rw[List.length_take]at this;omega
       have Ht:Hid (aR wr b (o+j*4) [ah l,ag s,ah m,af e]):=bJ;obtain⟨iL,sI,cN⟩:=bM jO qb ho;have gQ:=qb.size;obtain⟨F,hF⟩:=az ((L.take j).filter fN);rw[hF]at cN hft hfl;have Fx:=aj hft;clear jO qb ho bJ hx hg cS hnz hft hF;have Hb:=hbz wr;obtain⟨ae,ai⟩:=qZ (Ht.an trivial);go_wp2_with fail;refine aJ (Hb.an ae) (iL.out _) λw3 ae ai=>?_;by_cases hg0:g=0
       . subst hg0;have hz:(((0:Int)) !=0)=false:=by decide
         have hft:=Fx.out;simp only[beq_self_eq_true,Bool.not_true,Bool.false_eq_true,if_false,List.append_nil]at hft;have Lh:=aj hft;clear hft Fx;obtain⟨Hq3,LJ⟩:=aI (aC sI.out ae.1.out) (ownsRow_below cN.out ae.1.out);go_wp2;go_roundw;case rel=>exact⟨j+1,v,by omega,by go_num,rfl,by rw[Lh.out];exact LJ.out,Hq3.out⟩
         case measure=>exact bf
       . have hz:(g !=0)=true:=by simpa using hg0
         have hz2:(g==0)=false:=by simpa using hg0
         have hft:=Fx.out;rw[hz2]at hft;simp only[Bool.not_false,if_true]at hft;have Lh:=aj hft;clear hft Fx;go_upto_region 11 with fail
         have t3:w3.cell? ⟨b,o+j*4+3,none⟩=some (af e):=ae.2.1.out.cell 3 zm;have t2:w3.cell? ⟨b,o+j*4+2,none⟩=some (ah m):=ae.2.1.out.cell 2 zm;have t1:w3.cell? ⟨b,o+j*4+1,none⟩=some (ag s):=ae.2.1.out.cell 1 zm;have t0:w3.cell? ⟨b,o+j*4,none⟩=some (ah l):=ae.2.1.out.cell 0 zm;have P0:=t0;have P1:=t1;have P2:=t2;have P3:=t3;obtain⟨W5,uW,aG,ae,ai⟩:=cg w3 ae 111 [ah l,ag s,ah m,af e];have xX:=ownsRow_below cN.out ae.2.1.out;have hs5:=ae.2.1.out.size;go_wp2_with (at_builtin;refine wpList_append_own_at _ rfl _ _ 39 rfl wg.heap.size 111 i0 _ 4 48 Tryz.underlying39 Hi.out cp.out bR.out bV.out rfl zd v F.length (F.flatMap aH) rfl xX ⟨w3.heap.size,0,none⟩ 1 1 [ah l,ag s,ah m,af e] rfl rfl (fJ ae.1.out) zy zx zo zo ?_;intro v' w7 dt dM _ fV);have fK:=(aC sI.out ae.2.1.out).grown dM zo (λj e=>cZ xX j e);have e7:F.flatMap aH++[ah l,ag s,ah m,af e]=(F++[(l,s,m,e)]).flatMap aH:=by rw[List.flatMap_append];rfl
         rw[e7]at dt;obtain⟨pG,kM⟩:=aI dt fK;clear dt fK e7 fV dM xX P0 P1 P2 P3;go_wp2;go_roundw;case rel=>exact⟨j+1,v',by omega,by go_num,rfl,by rw[Lh.out,List.length_append];exact pG.out,kM.out⟩
         case measure=>exact bf
     . obtain rfl:j=N:=by omega
       have htk:L.take j=L:=List.take_of_length_le (by rw[HN.out];exact Nat.le_refl _);rw[htk,afy.out]at ho;obtain⟨a2,c2,rfl,_,_⟩:=cO ho;obtain⟨Ho,LK⟩:=aI ho (aC (aC ae.1.out aO.out) qb);have jq:=aO.out.size;have FO:=aj (ae.2.1.out.below (aC aO.out qb));have h4:¬(4096:Int)<(C.length:Int):=by omega
       have h4d:decide ((4096:Int)<(C.length:Int))=false:=by simp;omega
       clear ho htk qb;have Hr:=FO;have Hb:=ae.1;obtain⟨ae,ai⟩:=qZ (Hr.an trivial);go_wp2;refine zL (FO.out) Ho.out LK.out zo ?_;intro w9 lU eD gm;obtain⟨p0,p1⟩:=lU.c2;exact bodyPost_ret (v:=.tuple #[.agg #[af (V:Int),.slice a2 C.length c2],af 0]) (by simp[results,Tryz.results142,go_sem,p0,p1]) rfl ⟨_,_,rfl,vQ eD,gm⟩
end Go.Proofs.YtpfgffadgkkedaaGreatDoor
