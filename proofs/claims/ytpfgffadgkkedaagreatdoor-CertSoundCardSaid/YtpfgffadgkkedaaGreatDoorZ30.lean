/- Packages ogeeref07,ogeeref08: May;put. -/
import Derived.Test.YtpfgffadgkkedaaGreatDoorZ7
import Derived.Test.YtpfgffadgkkedaaGreatDoorZ22
import Derived.Test.YtpfgffadgkkedaaGreatDoorZ21
import Derived.Test.YtpfgffadgkkedaaGreatDoorZ15
set_option linter.all false
set_option maxRecDepth 100000
set_option maxHeartbeats 16000000
namespace Go.Proofs.YtpfgffadgkkedaaGreatDoor
open Go.RowKit
attribute [local go_sem ↓] Go.wp_at_zero Go.wp_at_succ
def avs (l:List UInt8)(v:Int)(w:World)(hl:l.length<=9223372036854775807):
 Cv 141 #[ah l,af v] w (ag (cJ l v)):=by
 obtain⟨n,hn⟩:=az l.length;have hsz:(bs l).size=n:=by rw[kP,hn]
 obtain⟨M,hM⟩:=az (cJ l v);rw[hM];obtain⟨HM,Hn⟩:=aI hM hn;rw[hn]at hl;clear hM hn;go_enter Tryz.func141,Tryz.ntmps141;have Hb:=hbz w;go_wp2_with fail;go_loopw[5] (λx wr=>∃k:Nat,k<=n/\x=af (k:Int)/\((l.take k).all λc=>decide (c.toNat<=127))=true/\Bw w wr) (λx _=>n-(intOf x).toNat);case atStart=>exact⟨0,Nat.zero_le _,rfl,rfl,Hb.out⟩
 case round=>
  clear Hb;obtain⟨k,hk,rfl,hall,pb⟩:=hrel;obtain⟨ij,Hb⟩:=aI hall pb;clear hall pb;by_cases hlt:k<n
  . have hk2:k<l.length:=by rw[Hn.out];exact hlt
    have ix:=uV l (k:Int) k hk2 rfl;obtain⟨c,hc⟩:∃c:Nat,(l[k]).toNat=c:=⟨_,rfl⟩;rw[hc]at ix;by_cases h1:128<=c
    . have h2:(128:Int)<=(c:Int):=by omega
      have nz:M=false:=by
       rw[<-HM.out];unfold cJ;have:(l.all λc=>decide (c.toNat<=127))=false:=by rw[List.all_eq_false];exact⟨l[k],List.getElem_mem hk2,by simp;omega⟩
       rw[this];rfl
      subst nz;go_wp2;exact bodyPost_ret (v:=ag false) (by simp[results,Tryz.results141,go_sem]) rfl ⟨rfl,cM⟩
    . have h2:¬(128:Int)<=(c:Int):=by omega
      have bK:Hid (((l.take (k+1)).all λc=>decide (c.toNat<=127))=true):=by
       show _=_
       rw[List.take_succ_eq_append_getElem hk2,List.all_append,ij.out];simp;omega
      clear hc;go_wp2;go_roundw;case rel=>exact⟨k+1,by omega,by go_num,bK.out,Hb.out⟩
      case measure=>exact bf
  . obtain rfl:k=n:=by omega
    have hme:M=decide ((k:Int)=v):=by rw[<-HM.out];have h:=ij.out;rw[List.take_of_length_le (by rw[Hn.out];exact Nat.le_refl _)]at h;unfold cJ;rw[h,Hn.out,Bool.true_and]
    have Pg:=aj hme;clear hme;go_wp2;refine bodyPost_ret (results_tmp rfl _ _ _) rfl ⟨?_,Hb.out⟩;rw[Pg.out];by_cases h:(k:Int)=v<;>simp[h]
def alr (m:List UInt8)(l:List Trm)(j:Nat)(h:j<iB m l)(hj:j<l.length):Op.bytesLess l[j].1 m=true:=by
 induction l generalizing j with
 |nil=>simp at hj
 | cons x l ih=>
   unfold iB at h;split at h
   . rename_i hx
     cases j with
     |zero=>exact hx
     |succ j=>exact ih j zo (by simpa using hj)
   . omega
def als (m:List UInt8)(l:List Trm)(h:iB m l<l.length):Op.bytesLess l[iB m l].1 m=false:=by
 induction l with
 |nil=>simp at h
 | cons x l ih=>
   by_cases hx:Op.bytesLess x.1 m=true
   . have e:iB m (x::l)=iB m l+1:=by show(if _ then _ else _)=_;rw[if_pos hx]
     simp only[e]at h⊢;exact ih (by simpa using h)
   . have e:iB m (x::l)=0:=by show(if _ then _ else _)=_;rw[if_neg hx]
     simp only[e];simpa using hx
def auS (l:List Trm)(x:Trm)(k:Nat)(hk:iB x.1 l=k)(h:k<l.length)(e:l[k].1=x.1):gP l x=l.take k++[(x.1,canon (dval l[k].2+dval x.2))]++l.drop (k+1):=by
 have e1:(l.drop k).head?=some l[k]:=by rw[List.drop_eq_getElem_cons h];rfl
 have e2:(l.drop k).headD default=l[k]:=by rw[List.drop_eq_getElem_cons h];rfl
 rw[afv,hk,e1,e2,if_pos (by rw[Option.map_some,e]),List.append_assoc,List.singleton_append]
def UT (l:List Trm)(x:Trm)(k:Nat)(hk:iB x.1 l=k)(h:∀h:k<l.length,l[k].1≠x.1):gP l x=l.take k++[(x.1,canon (dval x.2))]++l.drop k:=by
 rw[afv,hk,if_neg,List.append_assoc,List.singleton_append];intro e;by_cases hl:k<l.length
 . rw[List.drop_eq_getElem_cons hl,List.head?_cons,Option.map_some]at e;exact h hl (Option.some.inj e)
 . rw[List.drop_of_length_le zo]at e;cases e
def At.aBl {w:World}{a:Option Addr}{ts:List Trm}(h:At w a (ts.flatMap aH))(k:Nat):At w a ((ts.take k).flatMap aH):=by
 have e:(ts.take k).flatMap aH++(ts.drop k).flatMap aH=ts.flatMap aH:=by rw[<-List.flatMap_append,List.take_append_drop]
 rcases h with h|⟨b,o,rfl,hc⟩
 . rw[h]at e;exact .inl (List.append_eq_nil_iff.1 e).1
 . by_cases h0:(ts.take k).flatMap aH=[]
   . exact .inl h0
   . refine .inr ⟨b,o,rfl,λj hj=>?_⟩;rw[hc j (by rw[<-e,List.length_append];omega),<-e,List.getElem?_append_left hj]
def At.aBf {w:World}{a:Option Addr}{ts:List Trm}(h:At w a (ts.flatMap aH)){n cap:Nat}(k:Nat)(hn:ts.length=n)(hk:k<=n)(hc:n<=cap):At w (if cap=k then a else a.map (·.add (k*4))) ((ts.drop k).flatMap aH):=by
 have h1:=At.cut (size:=4) (n:=n) (k:=k) (cap:=cap) h (by rw[nO,hn]) hk hc;have e:(ts.drop k).flatMap aH=(ts.flatMap aH).drop (k*4):=by
  have e0:ts.flatMap aH=(ts.take k).flatMap aH++(ts.drop k).flatMap aH:=by rw[<-List.flatMap_append,List.take_append_drop]
  rw[e0,List.drop_append_of_le_length (by rw[nO,List.length_take];omega)];have e1:((ts.take k).flatMap aH).length=k*4:=by rw[nO,List.length_take,Nat.min_eq_left zo]
  rw[<-e1,List.drop_length,List.nil_append]
 rw[e];exact h1
def avA (a:Option Addr)(n cap:Nat)(ts:List Trm)(l:List UInt8)(s:Bool)(m:List UInt8)(e:Int)(w:World)(hn:ts.length=n)(hl:n<=65536)(hs:Sl a n cap)(ha:At w a (ts.flatMap aH))(hf:∀t∈ts,mW t.2)(hx:mW (s,m,e)):
 Cl 220 #[.slice a n cap,.agg #[ah l,ag s,ah m,af e]] w λex w'=>∃v',ex=.returned v'/\w'.ownsRow w.heap.size 111 4 v' (gP ts (l,s,m,e)).length ((gP ts (l,s,m,e)).flatMap aH)/\Bw w w':=by
 obtain⟨i0,hi,hz0,hz1,hz2⟩:=info_parts Tryz.aBh;obtain⟨A,hA⟩:=az (iB l ts);have hAn:A<=n:=by rw[<-hA,<-hn];exact alq _ _
 have hgo:∀j (h:j<ts.length),j<A->Op.bytesLess ts[j].1 l=true:=λj h hj=>alr l ts j zo h;have hst:∀(h:A<ts.length),Op.bytesLess ts[A].1 l=false:=λh=>by subst hA;exact als l ts h
 have Mv:=hs.1;obtain⟨Hi,cm,bR,bZ,vA,OU,bK,Hs,Ha,Hf,iU,Hn⟩:=gL hi hz0 hz1 hz2 hA hgo hst hs ha hf hx hn;clear hi hz0 hz1 hz2 hA hgo hst hs ha hf hx hn;obtain⟨W,bX,ae,ai⟩:=fK w 111 [ah l,ag s,ah m,af e];go_enter Tryz.func220,Tryz.ntmps220;go_wp2_with fail;go_loopw[5] (λx wr=>∃k:Nat,k<=A/\x=af (k:Int)/\ar wr w.heap.size 111 [ah l,ag s,ah m,af e]/\Bw w wr) (λx _=>n-(intOf x).toNat);case atStart=>exact⟨0,Nat.zero_le _,rfl,ae.2.1.out,ae.1.out⟩
 case round=>
  skip
  obtain⟨k,hk,rfl,px,pb⟩:=hrel;obtain⟨Hx,Hb⟩:=aI px pb;clear px pb;by_cases hlt:k<A
  . have hkn:k<n:=by omega
    have hk2:k<ts.length:=by rw[Hn.out];exact hkn
    obtain⟨l',s',m',e',hx'⟩:∃l s m e,ts[k]=(l,s,m,e):=⟨_,_,_,_,rfl⟩;obtain⟨b,o,rfl,bW⟩:=(Ha.out.below Hb.out).term k hk2 hx';have aU:=gK n cap k (k:Int) (rfl:(some ⟨b,o,none⟩:Option Addr)=_) hkn rfl;have GU:Op.bytesLess (bs l').toList (bs l).toList=true:=by rw[fY,fY];have:=OU.out k hk2 hlt;rw[hx']at this;exact this
    have Ht:Hid (aQ wr b (o+k*4) [ah l',ag s',ah m',af e']):=bW;clear bW hx';obtain⟨ae,ai⟩:=qZ (Hx.an<|Ht.an trivial);have AW:decide ((k:Int)<(n:Int))=true:=by simp;omega
    go_wp2_with fail;refine df 999 ae (cQ 14 0x1b19171513110f0d0b0907050301) ?_;refine bC ?_;refine cZ ae λai=>?_;go_wp2;go_roundw;case rel=>exact⟨k+1,by omega,by go_num,ae.1.out,Hb.out.drew⟩
    case measure=>exact bf
  . obtain rfl:k=A:=by omega
    have hkc:k<=cap:=by omega
    by_cases hkn:k<n
    . have hk2:k<ts.length:=by rw[Hn.out];exact hkn
      obtain⟨l',s',m',e',hx'⟩:∃l s m e,ts[k]=(l,s,m,e):=⟨_,_,_,_,rfl⟩;obtain⟨b,o,rfl,bW⟩:=(Ha.out.below Hb.out).term k hk2 hx';have aU:=gK n cap k (k:Int) (rfl:(some ⟨b,o,none⟩:Option Addr)=_) hkn rfl;have GU:Op.bytesLess (bs l').toList (bs l).toList=false:=by rw[fY,fY];have:=bK.out hk2;rw[hx']at this;exact this
      have lbt:b<w.heap.size:=by obtain⟨b3,o3,h3,hw3⟩:=Ha.out.term k hk2 hx';simp only[Option.some.injEq,Addr.mk.injEq,and_true]at h3;obtain⟨rfl,rfl⟩:=h3;exact World.block_lt_of_cell? w _ (hw3.cell 0 zm)
      have Ht:Hid (aQ wr b (o+k*4) [ah l',ag s',ah m',af e']):=bW;clear bW;obtain⟨ae,ai⟩:=qZ (Hx.an<|Ht.an trivial);have AW:decide ((k:Int)<(n:Int))=true:=by simp;omega
      go_wp2_with fail;refine df 999 ae (cQ 14 0x1b19171513110f0d0b0907050301) ?_;refine bC ?_;refine cZ ae λai=>?_;generalize tE:wr.drew=wd;have yH:ar wd w.heap.size 111 [ah l,ag s,ah m,af e]:=by rw[<-tE];exact ae.1.out
      have iM:Bw w wd:=by rw[<-tE];exact Hb.out.drew
      have hpre:((ts.take k).flatMap aH).length=k*4:=by rw[nO,List.length_take,Nat.min_eq_left zo]
      have yc:=Ha.out.below iM;have yb:=yc.aBl k;obtain⟨xL,kI,EN,Fl⟩:=cE yH iM yb hpre;have szd:=iM.size;have lxd:=xL.out.lt;clear yH iM yb hpre yc tE Hb;go_wp2_with (at_builtin;refine uo rfl _ _ 39 rfl wd.heap.size 111 i0 _ 4 48 Tryz.underlying39 Hi.out cm.out bR.out bZ.out rfl zd _ 0 [] rfl (World.ownsRow_made wd #[] 0 (Nat.le_refl _) (Nat.zero_le _) zm) (some ⟨b,o,none⟩) k cap ((ts.take k).flatMap aH) rfl (Sl.some _ _ _ hkc) Fl.out (EN.out.below ((Below.refl _ wd).alloc (Nat.le_refl _) _)) (vr _) zx zo zm ?_;intro v1 w1 cV hg1 wI);have hb1:=((Below.refl _ wd).alloc (Nat.le_refl _) _).grown hg1 zm (λk hk=>by have h9:wd.heap.size=k:=Option.some.inj hk;omega);rw[Nat.zero_add,List.nil_append]at cV;obtain⟨av,cv,rfl,_,_⟩:=cz cV;obtain⟨Hx,Hb⟩:=aI (xL.out.below hb1) (aC kI.out hb1);obtain⟨b2,o2,ju,bW⟩:=(Ha.out.below Hb.out).term k hk2 hx';simp only[Option.some.injEq,Addr.mk.injEq,and_true]at ju;obtain⟨rfl,rfl⟩:=ju;have Ht:Hid (aQ w1 b (o+k*4) [ah l',ag s',ah m',af e']):=bW;obtain⟨nW,bJ⟩:=aI cV hb1;have hsz1:=hb1.size;have jP:mW (s',m',e'):=by have:=Hf.out _ (List.getElem_mem hk2);rw[hx']at this;exact this
      have hel:ts[k]=(l',s',m',e'):=hx';clear cV hb1 hg1 wI bW hx' GU;obtain⟨ae,ai⟩:=qZ (Hx.an<|Ht.an trivial);go_wp2_with fail;have LC:((bs l').toList==(bs l).toList)=decide (l'=l):=by rw[fY,fY];by_cases h:l'=l<;>simp[h]
      by_cases he:l'=l
      case neg=>
       rw[decide_eq_false he]at LC;refine df 999 ae (cQ 14 0x1b19171513110f0d0b0907050301) ?_;refine bC ?_;refine cZ ae λai=>?_;have jU:=bJ.out.drew;generalize ir:w1.drew=w2;have hx2:ar w2 w.heap.size 111 [ah l,ag s,ah m,af e]:=by rw[<-ir];exact ae.1.out
       have hv2:w2.ownsRow wd.heap.size 111 4 (.slice av k cv) k ((ts.take k).flatMap aH):=by rw[<-ir];exact nW.out
       obtain⟨dv,Hx⟩:=aI hv2 hx2;replace Hb:=hbz w2;have zF:Hid (Bw wd w2):=by rw[<-ir];exact jU
       have tJ:=Ha.out.below kI.out;have hz2:wd.heap.size<=w2.heap.size:=by rw[<-ir];exact hsz1
       obtain⟨S,hS⟩:=az (dval (s,m,e));have hps:=UT ts (l,s,m,e) k vA.out (λ_=>by rw[hel];exact he);rw[show dval ((l,s,m,e):Trm).2=S from hS]at hps;have nu:((ts.drop k).flatMap aH).length=(n-k) *4:=by rw[nO,List.length_drop,Hn.out]
       have hdr:=tJ.aBf (n:=n) (cap:=cap) k Hn.out zo Mv;have hsc:=Hs.out.cut (k:=k) (size:=4) zo;have aov:(⟨b,o,none⟩:Addr).add (k*4)=⟨b,o+k*4,none⟩:=by unfold Addr.add;split<;>simp_all
       rw[if_neg zo,Option.map_some,aov]at hdr hsc;obtain⟨xH,HS,zL,vF,lT⟩:=dY hps hS nu hdr hsc;have hk1:k<=n:=by omega
       have SL:k<=cap:=by omega
       clear hps hS hx2 hv2 tJ nu hdr hsc ir jU hel jP LC he aU;obtain⟨ae,ai⟩:=qZ (Hx.an trivial);go_wp2_with fail;obtain⟨Hx,_⟩:=ae;obtain⟨x0,x1,x2,x3⟩:=Hx.out.c4;refine fx (λw'=>aJ w' (w.heap.size) 0 (ah l)/\aJ w' (w.heap.size) 1 (ag s)/\aJ w' (w.heap.size) 2 (ah m)/\aJ w' (w.heap.size) 3 (af e)) (λi=>Nat.blt i 100000) [(0,true),(1,true),(2,true),(3,true),(4,true),(5,false),(6,true),(7,false),(8,false),(9,true)] zk zk rfl zk zc ⟨x0,x1,x2,x3⟩ ?_;iterate 5 (refine pT rfl rfl ?_ (by intro w' ⟨q0,q1,q2,q3⟩;go_simp;try with_reducible rfl);try simp only[UU])
       refine aN rfl rfl (λK hK=>?_);go_simp;with_reducible refine(Jc s m e S HS.out _ iU.out).mono ?_
       rintro e w4 ⟨rfl,hq⟩;have ak:Bw w2 w4:=by first|exact hq|exact cS hq
       obtain⟨Hx,x0,x1,x2,x3⟩:=Ee Hx ak;replace Hb:=bg Hb ak;refine hK _ _ (λ_=>⟨x0,x1,x2,x3⟩) ?_;try simp only[UU]
       refine pT rfl rfl ?_;try simp only[UU]
       refine aN rfl rfl (λK hK=>?_);go_simp;refine hK _ _ (λ_=>⟨aM x0,aM x1,aM x2,aM x3⟩) ?_;try simp only[UU]
       refine cg (λW5=>ar W5 (w4.heap.size) 111 [ah l,ag (au (dN S)),ah (nt (dN S).natAbs),af (dE S)]/\Bw w4 W5) (by first|exact iw|exact iy) ?_;rintro W5 ⟨qc,ak⟩;have Uo:=Hx.out.lt;replace Hx:=kB Hx ak;have Hc:=aj qc;clear qc;obtain⟨x0,x1,x2,x3⟩:=Hx.out.c4;obtain⟨c0,c1,c2,c3⟩:=Hc.out.c4;replace Hb:=bg Hb ak;refine aN rfl rfl (λK hK=>?_);have ft:=ownsRow_below dv.out Hb.out;have hs3:=Hb.out.size;refine wp_append_own _ _ _ 39 rfl wd.heap.size 111 i0 _ 4 48 Tryz.underlying39 Hi.out cm.out bR.out bZ.out rfl zd (.slice av k cv) k ((ts.take k).flatMap aH) rfl ft ⟨w4.heap.size,0,none⟩ 1 1 [ah l,ag (au (dN S)),ah (nt (dN S).natAbs),af (dE S)] rfl rfl (fN Hc.out) zy zx zo zo ?_;intro v8 w8 dX bj _;have nb:∀b,b<wd.heap.size->some b≠(Value.slice av k cv).ownBlock:=λb hb e=>by have:=cK ft b e.symm;omega
       refine hK _ _ (λ_=>⟨cG bj x0 (nb _ zo),cG bj x1 (nb _ zo),cG bj x2 (nb _ zo),cG bj x3 (nb _ zo)⟩) ?_;try simp only[UU]
       have gg:=(aC zF.out Hb.out).grown bj zo (λj e=>cK ft j e);obtain⟨gS,jo⟩:=aI gg dX;have yz:=bj.size;refine pT rfl rfl ?_;try simp only[UU]
       simp only[bE];clear nb ft dX bj gg x0 x1 x2 x3 c0 c1 c2 c3;go_wp2_with (at_builtin;refine uo rfl _ _ 39 rfl wd.heap.size 111 i0 _ 4 48 Tryz.underlying39 Hi.out cm.out bR.out bZ.out rfl zd v8 (k+1) _ rfl jo.out _ (n-k) (cap-k) ((ts.drop k).flatMap aH) rfl lT.out zL.out (vF.out.below gS.out) (vr _) zx zo zo ?_;intro v9 w9 eZ ko Ib);all_goals
        go_ret
        refine⟨v9,rfl,?_,(aC kI.out gS.out).grown ko zo (λj e=>by have:=cK jo.out j e;omega)⟩
        rw[xH.out]
        have e9:((ts.take k++[(l,canon S)]++ts.drop k).flatMap aH)=(ts.take k).flatMap aH++[ah l,ag (au (dN S)),ah (nt (dN S).natAbs),af (dE S)]++(ts.drop k).flatMap aH:=by rw[List.flatMap_append,List.flatMap_append];rfl
        have l9:(ts.take k++[(l,canon S)]++ts.drop k).length=k+1+(n-k):=by simp[Hn.out];omega
        rw[e9,l9]
        exact rP eZ zo
      rw[decide_eq_true he]at LC;refine df 999 ae (cQ 14 0x1b19171513110f0d0b0907050301) ?_;refine bC ?_;refine cZ ae λai=>?_;have jU:=bJ.out.drew;generalize ir:w1.drew=w2;have hx2:ar w2 w.heap.size 111 [ah l,ag s,ah m,af e]:=by rw[<-ir];exact ae.1.out
      have ht2:aQ w2 b (o+k*4) [ah l',ag s',ah m',af e']:=by rw[<-ir];exact ae.2.1.out
      have hb2:Bw w w2:=by rw[<-ir];exact Hb.out.drew
      have hv2:w2.ownsRow wd.heap.size 111 4 (.slice av k cv) k ((ts.take k).flatMap aH):=by rw[<-ir];exact nW.out
      obtain⟨dv,Hx,Ht⟩:=bL hv2 hx2 ht2;replace Hb:=hbz w2;have zF:Hid (Bw wd w2):=by rw[<-ir];exact jU
      have tJ:=Ha.out.below kI.out;have hz2:wd.heap.size<=w2.heap.size:=by rw[<-ir];exact hsz1
      obtain⟨S,hS⟩:=az (dval (s',m',e')+dval (s,m,e));have hps:=auS ts (l,s,m,e) k vA.out hk2 (by rw[hel];exact he);rw[show dval ts[k].2=dval (s',m',e')by rw[hel],show dval (s',m',e')+dval ((l,s,m,e):Trm).2=S from hS]at hps;have nu:((ts.drop (k+1)).flatMap aH).length=(n-(k+1)) *4:=by rw[nO,List.length_drop,Hn.out]
      have hdr:=tJ.aBf (n:=n) (cap:=cap) (k+1) Hn.out zo Mv;have hsc:=Hs.out.cut (k:=k+1) (size:=4) zo;obtain⟨xH,HS,pO,zL,vF,lT⟩:=gM hps hS jP nu hdr hsc;have hk1:k+1<=n:=by omega
      have SL:k+1<=cap:=by omega
      clear hps hS hel jP hx2 ht2 hb2 hv2 tJ nu hdr hsc ir jU LC he aU;obtain⟨ae,ai⟩:=qZ (Hx.an<|Ht.an trivial);have aU:=gK n cap k (k:Int) (rfl:(some ⟨b,o,none⟩:Option Addr)=_) hkn rfl;go_wp2_with fail;have lbx:=ae.1.out.lt;obtain⟨Hx,Ht,_⟩:=ae;obtain⟨x0,x1,x2,x3⟩:=Hx.out.c4;obtain⟨t0,t1,t2,t3⟩:=Ht.out.w4;refine fx (λw'=>aJ w' (w.heap.size) 0 (ah l)/\aJ w' (w.heap.size) 1 (ag s)/\aJ w' (w.heap.size) 2 (ah m)/\aJ w' (w.heap.size) 3 (af e)/\aJ w' b (o+k*4) (ah l')/\aJ w' b (o+k*4+1) (ag s')/\aJ w' b (o+k*4+2) (ah m')/\aJ w' b (o+k*4+3) (af e')) (λi=>Nat.blt i 100000) [(0,true),(1,true),(2,true),(3,true),(4,true),(5,true),(6,true),(7,true),(8,true),(9,true),(10,false),(11,true),(12,false),(13,false),(14,true)] zk zk rfl zk zc ⟨x0,x1,x2,x3,t0,t1,t2,t3⟩ ?_;iterate 10 (refine pT rfl rfl ?_ (by intro w' ⟨q0,q1,q2,q3,q4,q5,q6,q7⟩;go_simp;try with_reducible rfl);try simp only[UU])
      refine aN rfl rfl (λK hK=>?_);go_simp;with_reducible refine(avw s' m' e' s m e S HS.out _ pO.out iU.out).mono ?_
      rintro e w4 ⟨rfl,hq⟩;have ak:Bw w2 w4:=by first|exact hq|exact cS hq
      obtain⟨Hx,x0,x1,x2,x3⟩:=Ee Hx ak;replace Ht:=kW Ht ak;obtain⟨t0,t1,t2,t3⟩:=Ht.out.w4;replace Hb:=bg Hb ak;refine hK _ _ (λ_=>⟨x0,x1,x2,x3,t0,t1,t2,t3⟩) ?_;try simp only[UU]
      refine pT rfl rfl ?_;try simp only[UU]
      refine aN rfl rfl (λK hK=>?_);go_simp;refine hK _ _ (λ_=>⟨aM x0,aM x1,aM x2,aM x3,aM t0,aM t1,aM t2,aM t3⟩) ?_;try simp only[UU]
      refine cg (λW5=>ar W5 (w4.heap.size) 111 [ah l,ag (au (dN S)),ah (nt (dN S).natAbs),af (dE S)]/\Bw w4 W5) (by first|exact iw|exact iy) ?_;rintro W5 ⟨qc,ak⟩;have Uo:=Hx.out.lt;replace Hx:=kB Hx ak;replace Ht:=kW Ht ak;have Hc:=aj qc;clear qc;obtain⟨x0,x1,x2,x3⟩:=Hx.out.c4;obtain⟨t0,t1,t2,t3⟩:=Ht.out.w4;obtain⟨c0,c1,c2,c3⟩:=Hc.out.c4;replace Hb:=bg Hb ak;refine aN rfl rfl (λK hK=>?_);have ft:=ownsRow_below dv.out Hb.out;have hs3:=Hb.out.size;refine wp_append_own _ _ _ 39 rfl wd.heap.size 111 i0 _ 4 48 Tryz.underlying39 Hi.out cm.out bR.out bZ.out rfl zd (.slice av k cv) k ((ts.take k).flatMap aH) rfl ft ⟨w4.heap.size,0,none⟩ 1 1 [ah l,ag (au (dN S)),ah (nt (dN S).natAbs),af (dE S)] rfl rfl (fN Hc.out) zy zx zo zo ?_;intro v8 w8 dX bj _;have nb:∀b,b<wd.heap.size->some b≠(Value.slice av k cv).ownBlock:=λb hb e=>by have:=cK ft b e.symm;omega
      refine hK _ _ (λ_=>⟨cG bj x0 (nb _ zo),cG bj x1 (nb _ zo),cG bj x2 (nb _ zo),cG bj x3 (nb _ zo),cG bj t0 (nb _ zp),cG bj t1 (nb _ zp),cG bj t2 (nb _ zp),cG bj t3 (nb _ zp)⟩) ?_;try simp only[UU]
      have gg:=(aC zF.out Hb.out).grown bj zo (λj e=>cK ft j e);obtain⟨gS,jo⟩:=aI gg dX;have yz:=bj.size;refine pT rfl rfl ?_;try simp only[UU]
      simp only[bE];clear nb ft dX bj gg x0 x1 x2 x3 t0 t1 t2 t3 c0 c1 c2 c3;go_wp2_with (at_builtin;refine uo rfl _ _ 39 rfl wd.heap.size 111 i0 _ 4 48 Tryz.underlying39 Hi.out cm.out bR.out bZ.out rfl zd v8 (k+1) _ rfl jo.out _ (n-(k+1)) (cap-(k+1)) ((ts.drop (k+1)).flatMap aH) rfl lT.out zL.out (vF.out.below gS.out) (vr _) zx zo zo ?_;intro v9 w9 eZ ko Ib);all_goals
       go_ret
       refine⟨v9,rfl,?_,(aC kI.out gS.out).grown ko zo (λj e=>by have:=cK jo.out j e;omega)⟩
       rw[xH.out]
       have e9:((ts.take k++[(l,canon S)]++ts.drop (k+1)).flatMap aH)=(ts.take k).flatMap aH++[ah l,ag (au (dN S)),ah (nt (dN S).natAbs),af (dE S)]++(ts.drop (k+1)).flatMap aH:=by rw[List.flatMap_append,List.flatMap_append];rfl
       have l9:(ts.take k++[(l,canon S)]++ts.drop (k+1)).length=k+1+(n-(k+1)):=by simp[Hn.out];omega
       rw[e9,l9]
       exact rP eZ zo
    . obtain rfl:n=k:=by omega
      cases a with
      | none=>
        have hc0:=Hs.out.2 rfl;obtain rfl:n=0:=by omega
        subst hc0;obtain⟨ae,ai⟩:=qZ (Hx.an trivial);have AW:decide (((0:Nat):Int)<((0:Nat):Int))=false:=by simp
        go_wp2_with fail;refine df 999 ae (cQ 14 0x1b19171513110f0d0b0907050301) ?_;refine bC ?_;refine cZ ae λai=>?_;generalize tE:wr.drew=wd;have yH:ar wd w.heap.size 111 [ah l,ag s,ah m,af e]:=by rw[<-tE];exact ae.1.out
        have iM:Bw w wd:=by rw[<-tE];exact Hb.out.drew
        have hpre:((ts.take 0).flatMap aH).length=0*4:=by rw[nO,List.length_take,Nat.min_eq_left (by have:=Hn.out;omega)]
        have yc:=Ha.out.below iM;have yb:=yc.aBl 0;have hsk:Sl none 0 0:=Hs.out;obtain⟨xL,kI,EN,Fl⟩:=cE yH iM yb hpre;have szd:=iM.size;have lxd:=xL.out.lt;clear yH iM yb hpre yc tE Hb;go_wp2_with (at_builtin;refine uo rfl _ _ 39 rfl wd.heap.size 111 i0 _ 4 48 Tryz.underlying39 Hi.out cm.out bR.out bZ.out rfl zd _ 0 [] rfl (World.ownsRow_made wd #[] 0 (Nat.le_refl _) (Nat.zero_le _) zm) none 0 0 ((ts.take 0).flatMap aH) rfl hsk Fl.out (EN.out.below ((Below.refl _ wd).alloc (Nat.le_refl _) _)) (vr _) (by simp[maxLen]) zo zm ?_;intro v1 w1 cV hg1 wI);have hb1:=((Below.refl _ wd).alloc (Nat.le_refl _) _).grown hg1 zm (λk hk=>by have h9:wd.heap.size=k:=Option.some.inj hk;omega);rw[Nat.zero_add,List.nil_append]at cV;obtain⟨av,cv,rfl,_,_⟩:=cz cV;obtain⟨Hx,Hb,nW,bJ⟩:=cE (xL.out.below hb1) (aC kI.out hb1) cV hb1;have hsz1:=hb1.size;clear cV hb1 hg1 wI;obtain⟨ae,ai⟩:=qZ (Hx.an trivial);go_wp2_with fail;refine df 999 ae (cQ 14 0x1b19171513110f0d0b0907050301) ?_;refine bC ?_;refine cZ ae λai=>?_;have jU:=bJ.out.drew;generalize ir:w1.drew=w2;have hx2:ar w2 w.heap.size 111 [ah l,ag s,ah m,af e]:=by rw[<-ir];exact ae.1.out
        have hv2:w2.ownsRow wd.heap.size 111 4 (.slice av 0 cv) 0 ((ts.take 0).flatMap aH):=by rw[<-ir];exact nW.out
        obtain⟨dv,Hx⟩:=aI hv2 hx2;replace Hb:=hbz w2;have zF:Hid (Bw wd w2):=by rw[<-ir];exact jU
        have tJ:=Ha.out.below kI.out;have hz2:wd.heap.size<=w2.heap.size:=by rw[<-ir];exact hsz1
        obtain⟨S,hS⟩:=az (dval (s,m,e));have hps:=UT ts (l,s,m,e) 0 vA.out (λh=>absurd h (by have:=Hn.out;omega));rw[show dval ((l,s,m,e):Trm).2=S from hS]at hps;have nu:((ts.drop 0).flatMap aH).length=(0-0) *4:=by rw[nO,List.length_drop,Hn.out]
        have hdr:=tJ.aBf (n:=0) (cap:=0) 0 Hn.out zo Mv;have hsc:=Hs.out.cut (k:=0) (size:=4) zo;obtain⟨xH,HS,zL,vF,lT⟩:=dY hps hS nu hdr hsc;have hk1:0<=0:=by omega
        have SL:0<=0:=by omega
        clear hps hS hx2 hv2 tJ nu hdr hsc ir jU;obtain⟨ae,ai⟩:=qZ (Hx.an trivial);go_wp2_with fail;obtain⟨Hx,_⟩:=ae;obtain⟨x0,x1,x2,x3⟩:=Hx.out.c4;refine fx (λw'=>aJ w' (w.heap.size) 0 (ah l)/\aJ w' (w.heap.size) 1 (ag s)/\aJ w' (w.heap.size) 2 (ah m)/\aJ w' (w.heap.size) 3 (af e)) (λi=>Nat.blt i 100000) [(0,true),(1,true),(2,true),(3,true),(4,true),(5,false),(6,true),(7,false),(8,false),(9,true)] zk zk rfl zk zc ⟨x0,x1,x2,x3⟩ ?_;iterate 5 (refine pT rfl rfl ?_ (by intro w' ⟨q0,q1,q2,q3⟩;go_simp;try with_reducible rfl);try simp only[UU])
        refine aN rfl rfl (λK hK=>?_);go_simp;with_reducible refine(Jc s m e S HS.out _ iU.out).mono ?_
        rintro e w4 ⟨rfl,hq⟩;have ak:Bw w2 w4:=by first|exact hq|exact cS hq
        obtain⟨Hx,x0,x1,x2,x3⟩:=Ee Hx ak;replace Hb:=bg Hb ak;refine hK _ _ (λ_=>⟨x0,x1,x2,x3⟩) ?_;try simp only[UU]
        refine pT rfl rfl ?_;try simp only[UU]
        refine aN rfl rfl (λK hK=>?_);go_simp;refine hK _ _ (λ_=>⟨aM x0,aM x1,aM x2,aM x3⟩) ?_;try simp only[UU]
        refine cg (λW5=>ar W5 (w4.heap.size) 111 [ah l,ag (au (dN S)),ah (nt (dN S).natAbs),af (dE S)]/\Bw w4 W5) (by first|exact iw|exact iy) ?_;rintro W5 ⟨qc,ak⟩;have Uo:=Hx.out.lt;replace Hx:=kB Hx ak;have Hc:=aj qc;clear qc;obtain⟨x0,x1,x2,x3⟩:=Hx.out.c4;obtain⟨c0,c1,c2,c3⟩:=Hc.out.c4;replace Hb:=bg Hb ak;refine aN rfl rfl (λK hK=>?_);have ft:=ownsRow_below dv.out Hb.out;have hs3:=Hb.out.size;refine wp_append_own _ _ _ 39 rfl wd.heap.size 111 i0 _ 4 48 Tryz.underlying39 Hi.out cm.out bR.out bZ.out rfl zd (.slice av 0 cv) 0 ((ts.take 0).flatMap aH) rfl ft ⟨w4.heap.size,0,none⟩ 1 1 [ah l,ag (au (dN S)),ah (nt (dN S).natAbs),af (dE S)] rfl rfl (fN Hc.out) zy (by simp[maxLen]) zo zo ?_;intro v8 w8 dX bj _;have nb:∀b,b<wd.heap.size->some b≠(Value.slice av 0 cv).ownBlock:=λb hb e=>by have:=cK ft b e.symm;omega
        refine hK _ _ (λ_=>⟨cG bj x0 (nb _ zo),cG bj x1 (nb _ zo),cG bj x2 (nb _ zo),cG bj x3 (nb _ zo)⟩) ?_;try simp only[UU]
        have gg:=(aC zF.out Hb.out).grown bj zo (λj e=>cK ft j e);obtain⟨gS,jo⟩:=aI gg dX;have yz:=bj.size;refine pT rfl rfl ?_;try simp only[UU]
        simp only[bE];clear nb ft dX bj gg x0 x1 x2 x3 c0 c1 c2 c3;go_wp2_with (at_builtin;refine uo rfl _ _ 39 rfl wd.heap.size 111 i0 _ 4 48 Tryz.underlying39 Hi.out cm.out bR.out bZ.out rfl zd v8 (0+1) _ rfl jo.out none 0 0 ((ts.drop 0).flatMap aH) rfl lT.out zL.out (vF.out.below gS.out) (vr _) (by simp[maxLen]) zo zo ?_;intro v9 w9 eZ ko Ib);all_goals
         go_ret
         refine⟨v9,rfl,?_,(aC kI.out gS.out).grown ko zo (λj e=>by have:=cK jo.out j e;omega)⟩
         rw[xH.out]
         have e9:((ts.take 0++[(l,canon S)]++ts.drop 0).flatMap aH)=(ts.take 0).flatMap aH++[ah l,ag (au (dN S)),ah (nt (dN S).natAbs),af (dE S)]++(ts.drop 0).flatMap aH:=by rw[List.flatMap_append,List.flatMap_append];rfl
         have l9:(ts.take 0++[(l,canon S)]++ts.drop 0).length=0+1+0:=by simp[Hn.out]
         rw[e9,l9]
         exact rP eZ zo
      | some ad=>
        obtain⟨ae,ai⟩:=qZ (Hx.an trivial);have AW:decide ((n:Int)<(n:Int))=false:=by simp
        go_wp2_with fail;refine df 999 ae (cQ 14 0x1b19171513110f0d0b0907050301) ?_;refine bC ?_;refine cZ ae λai=>?_;generalize tE:wr.drew=wd;have yH:ar wd w.heap.size 111 [ah l,ag s,ah m,af e]:=by rw[<-tE];exact ae.1.out
        have iM:Bw w wd:=by rw[<-tE];exact Hb.out.drew
        have hpre:((ts.take n).flatMap aH).length=n*4:=by rw[nO,List.length_take,Nat.min_eq_left (by have:=Hn.out;omega)]
        have yc:=Ha.out.below iM;have yb:=yc.aBl n;have hsk:Sl (some ad) n cap:=Hs.out;obtain⟨xL,kI,EN,Fl⟩:=cE yH iM yb hpre;have szd:=iM.size;have lxd:=xL.out.lt;clear yH iM yb hpre yc tE Hb;go_wp2_with (at_builtin;refine uo rfl _ _ 39 rfl wd.heap.size 111 i0 _ 4 48 Tryz.underlying39 Hi.out cm.out bR.out bZ.out rfl zd _ 0 [] rfl (World.ownsRow_made wd #[] 0 (Nat.le_refl _) (Nat.zero_le _) zm) (some ad) n cap ((ts.take n).flatMap aH) rfl hsk Fl.out (EN.out.below ((Below.refl _ wd).alloc (Nat.le_refl _) _)) (vr _) zx zo zm ?_;intro v1 w1 cV hg1 wI);have hb1:=((Below.refl _ wd).alloc (Nat.le_refl _) _).grown hg1 zm (λk hk=>by have h9:wd.heap.size=k:=Option.some.inj hk;omega);rw[Nat.zero_add,List.nil_append]at cV;obtain⟨av,cv,rfl,_,_⟩:=cz cV;obtain⟨Hx,Hb,nW,bJ⟩:=cE (xL.out.below hb1) (aC kI.out hb1) cV hb1;have hsz1:=hb1.size;clear cV hb1 hg1 wI;obtain⟨ae,ai⟩:=qZ (Hx.an trivial);go_wp2_with fail;refine df 999 ae (cQ 14 0x1b19171513110f0d0b0907050301) ?_;refine bC ?_;refine cZ ae λai=>?_;have jU:=bJ.out.drew;generalize ir:w1.drew=w2;have hx2:ar w2 w.heap.size 111 [ah l,ag s,ah m,af e]:=by rw[<-ir];exact ae.1.out
        have hv2:w2.ownsRow wd.heap.size 111 4 (.slice av n cv) n ((ts.take n).flatMap aH):=by rw[<-ir];exact nW.out
        obtain⟨dv,Hx⟩:=aI hv2 hx2;replace Hb:=hbz w2;have zF:Hid (Bw wd w2):=by rw[<-ir];exact jU
        have tJ:=Ha.out.below kI.out;have hz2:wd.heap.size<=w2.heap.size:=by rw[<-ir];exact hsz1
        obtain⟨S,hS⟩:=az (dval (s,m,e));have hps:=UT ts (l,s,m,e) n vA.out (λh=>absurd h (by have:=Hn.out;omega));rw[show dval ((l,s,m,e):Trm).2=S from hS]at hps;have nu:((ts.drop n).flatMap aH).length=0*4:=by rw[nO,List.length_drop,Hn.out,Nat.sub_self]
        have hdr:=tJ.aBf (n:=n) (cap:=cap) n Hn.out zo Mv;have hsc:=Hs.out.cut (k:=n) (size:=4) zo;rw[Nat.sub_self]at hsc;obtain⟨xH,HS,zL,vF,lT⟩:=dY hps hS nu hdr hsc;have hk1:n<=n:=by omega
        have SL:n<=cap:=by omega
        clear hps hS hx2 hv2 tJ nu hdr hsc ir jU;obtain⟨ae,ai⟩:=qZ (Hx.an trivial);go_wp2_with fail;obtain⟨Hx,_⟩:=ae;obtain⟨x0,x1,x2,x3⟩:=Hx.out.c4;refine fx (λw'=>aJ w' (w.heap.size) 0 (ah l)/\aJ w' (w.heap.size) 1 (ag s)/\aJ w' (w.heap.size) 2 (ah m)/\aJ w' (w.heap.size) 3 (af e)) (λi=>Nat.blt i 100000) [(0,true),(1,true),(2,true),(3,true),(4,true),(5,false),(6,true),(7,false),(8,false),(9,true)] zk zk rfl zk zc ⟨x0,x1,x2,x3⟩ ?_;iterate 5 (refine pT rfl rfl ?_ (by intro w' ⟨q0,q1,q2,q3⟩;go_simp;try with_reducible rfl);try simp only[UU])
        refine aN rfl rfl (λK hK=>?_);go_simp;with_reducible refine(Jc s m e S HS.out _ iU.out).mono ?_
        rintro e w4 ⟨rfl,hq⟩;have ak:Bw w2 w4:=by first|exact hq|exact cS hq
        obtain⟨Hx,x0,x1,x2,x3⟩:=Ee Hx ak;replace Hb:=bg Hb ak;refine hK _ _ (λ_=>⟨x0,x1,x2,x3⟩) ?_;try simp only[UU]
        refine pT rfl rfl ?_;try simp only[UU]
        refine aN rfl rfl (λK hK=>?_);go_simp;refine hK _ _ (λ_=>⟨aM x0,aM x1,aM x2,aM x3⟩) ?_;try simp only[UU]
        refine cg (λW5=>ar W5 (w4.heap.size) 111 [ah l,ag (au (dN S)),ah (nt (dN S).natAbs),af (dE S)]/\Bw w4 W5) (by first|exact iw|exact iy) ?_;rintro W5 ⟨qc,ak⟩;have Uo:=Hx.out.lt;replace Hx:=kB Hx ak;have Hc:=aj qc;clear qc;obtain⟨x0,x1,x2,x3⟩:=Hx.out.c4;obtain⟨c0,c1,c2,c3⟩:=Hc.out.c4;replace Hb:=bg Hb ak;refine aN rfl rfl (λK hK=>?_);have ft:=ownsRow_below dv.out Hb.out;have hs3:=Hb.out.size;refine wp_append_own _ _ _ 39 rfl wd.heap.size 111 i0 _ 4 48 Tryz.underlying39 Hi.out cm.out bR.out bZ.out rfl zd (.slice av n cv) n ((ts.take n).flatMap aH) rfl ft ⟨w4.heap.size,0,none⟩ 1 1 [ah l,ag (au (dN S)),ah (nt (dN S).natAbs),af (dE S)] rfl rfl (fN Hc.out) zy zx zo zo ?_;intro v8 w8 dX bj _;have nb:∀b,b<wd.heap.size->some b≠(Value.slice av n cv).ownBlock:=λb hb e=>by have:=cK ft b e.symm;omega
        refine hK _ _ (λ_=>⟨cG bj x0 (nb _ zo),cG bj x1 (nb _ zo),cG bj x2 (nb _ zo),cG bj x3 (nb _ zo)⟩) ?_;try simp only[UU]
        have gg:=(aC zF.out Hb.out).grown bj zo (λj e=>cK ft j e);obtain⟨gS,jo⟩:=aI gg dX;have yz:=bj.size;refine pT rfl rfl ?_;try simp only[UU]
        simp only[bE];clear nb ft dX bj gg x0 x1 x2 x3 c0 c1 c2 c3;go_wp2_with (at_builtin;refine uo rfl _ _ 39 rfl wd.heap.size 111 i0 _ 4 48 Tryz.underlying39 Hi.out cm.out bR.out bZ.out rfl zd v8 (n+1) _ rfl jo.out _ 0 (cap-n) ((ts.drop n).flatMap aH) rfl lT.out zL.out (vF.out.below gS.out) (vr _) zx zo zo ?_;intro v9 w9 eZ ko Ib);all_goals
         go_ret
         refine⟨v9,rfl,?_,(aC kI.out gS.out).grown ko zo (λj e=>by have:=cK jo.out j e;omega)⟩
         rw[xH.out]
         have e9:((ts.take n++[(l,canon S)]++ts.drop n).flatMap aH)=(ts.take n).flatMap aH++[ah l,ag (au (dN S)),ah (nt (dN S).natAbs),af (dE S)]++(ts.drop n).flatMap aH:=by rw[List.flatMap_append,List.flatMap_append];rfl
         have l9:(ts.take n++[(l,canon S)]++ts.drop n).length=n+1+0:=by simp[Hn.out]
         rw[e9,l9]
         exact rP eZ zo
def auT {C:Nat}(l:List Trm)(x:Trm)(h:∀t∈l,Sm C (dval t.2))(hx:Sm C (dval x.2)):∀t∈gP l x,Sm (C+1) (dval t.2):=by
 have hc:∀X:Dyadic,Sm (C+1) X->Sm (C+1) (dval (canon X)):=λX h=>by rw[bA];exact h
 induction l with
 |nil=>intro t ht;simp only[gP,List.mem_singleton]at ht;rw[ht];exact hc _ (hx.mono zo)
 | cons y l ih=>
   intro t ht;unfold gP at ht;split at ht
   . rcases List.mem_cons.1 ht with rfl|ht
     . exact(h _ zm).mono zo
     . exact ih (λt ht=>h t (by simp[ht])) t ht
   . split at ht
     . rcases List.mem_cons.1 ht with rfl|ht
       . exact hc _ ((h y zm).add hx)
       . exact(h t (by simp[ht])).mono zo
     . rcases List.mem_cons.1 ht with rfl|ht
       . exact hc _ (hx.mono zo)
       . exact(h t ht).mono zo
def auX {B:Nat}(l:List Trm)(h:∀t∈l,Sm B (dval t.2)):∀t∈iz l,Sm (B+l.length) (dval t.2):=by refine Jk (Q:=λl=>(∀t∈l,Sm B (dval t.2))->∀t∈iz l,Sm (B+l.length) (dval t.2)) (λ_ t ht=>by cases ht) (λl x ih h=>?_) l h;rw[Et];have h1:=ih (λt ht=>h t (by simp[ht]));have:=auT (C:=B+l.length) (iz l) x h1 ((h x zm).mono zo);intro t ht;have h9:=this t ht;rw[List.length_append];exact h9
def auV {B:Nat}(l:List Trm)(h:∀t∈l,Sm B (dval t.2))(hB:B+l.length<=16384):∀t∈iz l,mW t.2:=λt ht=>by have h1:=auX l h t ht;rw[afw l t ht];exact h1.aBe hB
def aoZ (L:List Trm)(k:Nat)(hk:k<L.length):(L.take (k+1)).filter gw=(L.take k).filter gw++if gw L[k]then[L[k]]else[]:=by rw[List.take_succ_eq_append_getElem hk,List.filter_append];congr 1;by_cases h:gw L[k]=true<;>simp[h]
def avo (V:Nat)(a:Option Addr)(n cap:Nat)(ts:List Trm)(B:Nat)(w:World)(hn:ts.length=n)(hl:n<=4096)(ha:At w a (ts.flatMap aH))(hf:∀t∈ts,mW t.2)(hs:∀t∈ts,Sm B (dval t.2))(hB:B+n<=16384):
 Cl 142 #[af (V:Int),.slice a n cap] w λex w'=>∃a' c',ex=.returned (.tuple #[.agg #[af (V:Int),.slice a' (aS ts).length c'],af 0])/\aW w' a' c' (aS ts)/\Bw w w':=by
 obtain⟨i0,hi,hz0,hz1,hz2⟩:=info_parts Tryz.aBh;have iQ:=λk=>auV (ts.take k) (λt ht=>hs t (List.mem_of_mem_take ht)) (by rw[List.length_take];omega);have hpl:=λk=>auW (ts.take k);have qp:=apl ts;obtain⟨C,hC⟩:=az (aS ts);have hcl:=kQ ts;rw[hC]at qp hcl⊢;obtain⟨Hi,cm,bR,bZ,ux,lR,Hgc,Ha,Hf,Hn⟩:=Bl hi hz0 hz1 hz2 iQ hpl qp ha hf hn;have hC4:C.length<=4096:=by omega
 clear hi hz0 hz1 hz2 iQ hpl qp ha hf hs hC hn hcl;obtain⟨W,bX,ae,ai⟩:=fK w 41 [af 0,.slice none 0 0];go_enter Tryz.func142,Tryz.ntmps142;go_wp2_with fail;have hrl:=ae.2.1.out.lt;go_loopw[6,7] (λs6 x wr=>∃(k:Nat) (v:Value),k<=n/\x=af (k:Int)/\v=s6/\wr.ownsRow W.heap.size 111 4 v (iz (ts.take k)).length ((iz (ts.take k)).flatMap aH)/\Bw W wr) (λ_ x _=>n-(intOf x).toNat);case atStart=>exact⟨0,_,Nat.zero_le _,rfl,rfl,World.ownsRow_nil _ _ _ _,Below.refl _ _⟩
 case round=>
  skip
  obtain⟨k,v,hk,rfl,rfl,ho,pb⟩:=hrel;by_cases hlt:k<n
  . have hk2:k<ts.length:=by rw[Hn.out];exact hlt
    obtain⟨l,s,m,e,hx⟩:∃l s m e,ts[k]=(l,s,m,e):=⟨_,_,_,_,rfl⟩;obtain⟨b,o,rfl,bW⟩:=(Ha.out.below (aC ae.1.out pb)).term k hk2 hx;have aU:=gK n cap k (k:Int) (rfl:(some ⟨b,o,none⟩:Option Addr)=_) hlt rfl;obtain⟨av,cv,rfl,ye,_⟩:=cz ho;have Ir:=yT ho;have hnx:iz (ts.take (k+1))=gP (iz (ts.take k)) (l,s,m,e):=by rw[List.take_succ_eq_append_getElem hk2,Et,hx]
    have hp1:(iz (ts.take k)).length<=65536:=by have:=lR.out k;rw[List.length_take]at this;omega
    have dz:mW (s,m,e):=by have:=Hf.out _ (List.getElem_mem hk2);rw[hx]at this;exact this
    have hput:=λ(W':World) (hW:Bw wr W')=>avA av _ cv (iz (ts.take k)) l s m e W' rfl hp1 Ir (ye.below hW) (ux.out k) dz;rw[<-hnx]at hput;obtain⟨np,kr⟩:=az ((iz (ts.take k)).length);rw[kr]at hput;rw[kr];obtain⟨Pw,aP⟩:=aI hput pb;have Ht:Hid (aQ wr b (o+k*4) [ah l,ag s,ah m,af e]):=bW;have ie:=pb.size;clear hput pb kr hnx hp1 dz Ir ye ho bW hx;have bY:Hid (Bw wr wr):=Below.refl _ _;have Hb:=ae.1;obtain⟨ae,ai⟩:=qZ (Ht.an trivial);go_wp2_with fail;refine(Pw.out _ (Below.refl _ _)).mono ?_;rintro ex w2 ⟨v2,rfl,fH,hb2⟩;obtain⟨pS,eW⟩:=aI (rP fH ie) (aC aP.out hb2);clear fH hb2;go_wp2;go_roundw;case rel=>exact⟨k+1,v2,by omega,by go_num,rfl,pS.out,eW.out⟩
    case measure=>exact bf
  . obtain rfl:k=n:=by omega
    have htk:ts.take k=ts:=List.take_of_length_le (by rw[Hn.out];exact Nat.le_refl _);have iQ:=ux.out k;have hpl:=lR.out k;rw[htk]at ho iQ hpl;obtain⟨L,hL⟩:=az (iz ts);have qp:=Hgc.out;rw[hL]at ho iQ hpl qp;have hLn:L.length<=4096:=by rw[Hn.out]at hpl;omega
    obtain⟨N,hN⟩:=az L.length;rw[hN]at ho hLn;obtain⟨av,cv,rfl,ye,_⟩:=cz ho;obtain⟨wg,hwg⟩:∃wg,wg=wr:=⟨_,rfl⟩;subst hwg;obtain⟨Hav,aP,aj5,HN,ai3⟩:=dY ye pb iQ hN qp;have szg:=pb.size;clear ye ho pb iQ hpl qp hN hL htk;go_wp2_with fail;go_loopw[8,9] (λs8 x wr=>∃(j:Nat) (v:Value),j<=N/\x=af (j:Int)/\v=s8/\wr.ownsRow wg.heap.size 111 4 v ((L.take j).filter gw).length (((L.take j).filter gw).flatMap aH)/\Bw wg wr) (λ_ x _=>N-(intOf x).toNat);case atStart=>exact⟨0,_,Nat.zero_le _,rfl,rfl,World.ownsRow_nil _ _ _ _,Below.refl _ _⟩
    case round=>
     obtain⟨j,v,hj,rfl,rfl,ho,qb⟩:=hrel;by_cases bB:j<N
     . have iG:j<L.length:=by rw[HN.out];exact bB
       obtain⟨l,s,m,e,hx⟩:∃l s m e,L[j]=(l,s,m,e):=⟨_,_,_,_,rfl⟩;obtain⟨b,o,rfl,bW⟩:=(Hav.out.below qb).term j iG hx;have aU:=gK N cv j (j:Int) (rfl:(some ⟨b,o,none⟩:Option Addr)=_) bB rfl;have hft:=aoZ L j iG;obtain⟨g,hg⟩:=az (bi (dval (s,m,e)));have dz:mW (s,m,e):=by have:=aj5.out _ (List.getElem_mem iG);rw[hx]at this;exact this
       have lv:=λW=>Vg s m e g hg W (by have:=dz.1;simp only at this;omega);have hnz:gw L[j]= !(g==0):=by rw[hx];unfold gw;rw[show dval ((l,s,m,e):Trm).2=dval (s,m,e)from rfl,hg]
       rw[hnz,hx]at hft;have hfl:((L.take j).filter gw).length<=N:=by have:=List.length_filter_le gw (L.take j);rw[List.length_take]at this;omega
       have Ht:Hid (aQ wr b (o+j*4) [ah l,ag s,ah m,af e]):=bW;obtain⟨jE,vK,dv⟩:=bL lv qb ho;have ie:=qb.size;obtain⟨F,hF⟩:=az ((L.take j).filter gw);rw[hF]at dv hft hfl;have Ka:=aj hft;clear lv qb ho bW hx hg dz hnz hft hF;have Hb:=hbz wr;obtain⟨ae,ai⟩:=qZ (Ht.an trivial);go_wp2_with fail;refine aK (Hb.an ae) (jE.out _) λw3 ae ai=>?_;by_cases hg0:g=0
       . subst hg0;have hz:(((0:Int)) !=0)=false:=by decide
         have hft:=Ka.out;simp only[beq_self_eq_true,Bool.not_true,Bool.false_eq_true,if_false,List.append_nil]at hft;have OM:=aj hft;clear hft Ka;obtain⟨Hq3,Pk⟩:=aI (aC vK.out ae.1.out) (ownsRow_below dv.out ae.1.out);go_wp2;go_roundw;case rel=>exact⟨j+1,v,by omega,by go_num,rfl,by rw[OM.out];exact Pk.out,Hq3.out⟩
         case measure=>exact bf
       . have hz:(g !=0)=true:=by simpa using hg0
         have hz2:(g==0)=false:=by simpa using hg0
         have hft:=Ka.out;rw[hz2]at hft;simp only[Bool.not_false,if_true]at hft;have OM:=aj hft;clear hft Ka;go_upto_region 11 with fail
         have t0:w3.cell? ⟨b,o+j*4,none⟩=some (ah l):=ae.2.1.out.cell 0 zm;have t1:w3.cell? ⟨b,o+j*4+1,none⟩=some (ag s):=ae.2.1.out.cell 1 zm;have t2:w3.cell? ⟨b,o+j*4+2,none⟩=some (ah m):=ae.2.1.out.cell 2 zm;have t3:w3.cell? ⟨b,o+j*4+3,none⟩=some (af e):=ae.2.1.out.cell 3 zm;have P0:=t0;have P1:=t1;have P2:=t2;have P3:=t3;obtain⟨W5,wm,aG,ae,ai⟩:=bO w3 ae 111 [ah l,ag s,ah m,af e];have ub:=ownsRow_below dv.out ae.2.1.out;have hs5:=ae.2.1.out.size;go_wp2_with (at_builtin;refine wpList_append_own_at _ rfl _ _ 39 rfl wg.heap.size 111 i0 _ 4 48 Tryz.underlying39 Hi.out cm.out bR.out bZ.out rfl zd v F.length (F.flatMap aH) rfl ub ⟨w3.heap.size,0,none⟩ 1 1 [ah l,ag s,ah m,af e] rfl rfl (fN ae.1.out) zy zx zo zo ?_;intro v' w7 dW eK _ fI);have ja:=(aC vK.out ae.2.1.out).grown eK zo (λj e=>cK ub j e);have e7:F.flatMap aH++[ah l,ag s,ah m,af e]=(F++[(l,s,m,e)]).flatMap aH:=by rw[List.flatMap_append];rfl
         rw[e7]at dW;obtain⟨zX,rY⟩:=aI dW ja;clear dW ja e7 fI eK ub P0 P1 P2 P3;go_wp2;go_roundw;case rel=>exact⟨j+1,v',by omega,by go_num,rfl,by rw[OM.out,List.length_append];exact zX.out,rY.out⟩
         case measure=>exact bf
     . obtain rfl:j=N:=by omega
       have htk:L.take j=L:=List.take_of_length_le (by rw[HN.out];exact Nat.le_refl _);rw[htk,ai3.out]at ho;obtain⟨a2,c2,rfl,_,_⟩:=cz ho;obtain⟨Ho,Pq⟩:=aI ho (aC (aC ae.1.out aP.out) qb);have kq:=aP.out.size;have Kk:=aj (ae.2.1.out.below (aC aP.out qb));have h4:¬(4096:Int)<(C.length:Int):=by omega
       have h4d:decide ((4096:Int)<(C.length:Int))=false:=by simp;omega
       clear ho htk qb;have Hr:=Kk;have Hb:=ae.1;obtain⟨ae,ai⟩:=qZ (Hr.an trivial);go_wp2;refine CP (Kk.out) Ho.out Pq.out zo ?_;intro w9 ll eZ iu;obtain⟨p0,p1⟩:=ll.c2;exact bodyPost_ret (v:=.tuple #[.agg #[af (V:Int),.slice a2 C.length c2],af 0]) (by simp[results,Tryz.results142,go_sem,p0,p1]) rfl ⟨_,_,rfl,BG eZ,iu⟩
end Go.Proofs.YtpfgffadgkkedaaGreatDoor
