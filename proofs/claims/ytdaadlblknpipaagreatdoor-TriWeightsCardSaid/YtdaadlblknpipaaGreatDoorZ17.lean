/- slices.DeleteFunc over terms;poly.sorted. -/
import Derived.Test.YtdaadlblknpipaaGreatDoorZ13
import Derived.Test.YtdaadlblknpipaaGreatDoorZ16
set_option linter.unusedVariables false
set_option linter.unusedSimpArgs false
set_option maxRecDepth 100000
set_option maxHeartbeats 16000000
namespace Go.Proofs.YtdaadlblknpipaaGreatDoor
open Go.RowKit
attribute [local go_sem ↓] Go.wp_at_zero Go.wp_at_succ
theorem agh {α:Type}(p:α->Bool)(l:List α)(i:Nat)(hi:i<=l.length)(h:∀j (hj:j<i),p (l[j]'zo)=false):(l.take i).filter (λx=>!p x)=l.take i:=by
 rw[List.filter_eq_self];intro x hx;obtain⟨j,hj,rfl⟩:=List.mem_iff_getElem.1 hx;rw[List.getElem_take];have kK:j<i:=by rw[List.length_take]at hj;omega
 simp[h j kK]
theorem take_set {α:Type}(l:List α)(a:Nat)(x:α)(h:a<l.length):(l.set a x).take (a+1)=l.take a++[x]:=by rw[List.take_succ_eq_append_getElem (by simpa using h),List.getElem_set_self,List.take_set_of_le (Nat.le_refl _)]
theorem LC {α:Type}(l:List α)(a b:Nat)(x:α)(h:a<b):(l.set a x).drop b=l.drop b:=by rw[List.drop_set];rw[if_pos h]
theorem Tryz.ari (w:World):(zeroValue 107).run Tryz.prog w=.ok (.agg #[.string ⟨#[]⟩,.bool false,.string ⟨#[]⟩,.int .i64 0]) w:=by kernel_rfl
theorem TI (ts:List aL)(k:Nat)(hk:k<=ts.length):(ts.flatMap aO).take (k*4)=(ts.take k).flatMap aO:=by
 have e:ts=ts.take k++ts.drop k:=(List.take_append_drop _ _).symm;conv=>lhs;rw[e]
 rw[List.flatMap_append,List.take_left' (by rw[kX,List.length_take,Nat.min_eq_left hk])]
theorem afy (a:Option Addr)(n cap:Nat)(ts:List aL)(gf:Nat)(p:aL->Bool)(w:World)(hn:ts.length=n)(hl:n<=65536)(ha:At w a (ts.flatMap aO))
 (eg:∀args w,(callFunc gf args).run Tryz.prog w=.ok (.enter gf args) w) (h2:∀x∈ts,p x=false)
 (hcl:∀x∈ts,∀W,Calls Tryz.prog gf #[.agg #[.string (bs x.1),.bool x.2.1,.string (bs x.2.2.1),.int .i64 x.2.2.2]] W λe w'=>e=.returned (.bool (p x))/\Bw W w'):
 Calls Tryz.prog 136 #[.slice a n cap,.func (.func gf) #[] #[]] w λe w'=>e=.returned (.slice a n cap)/\Bw w w':=by
 have bE:=NP a n cap ts gf #[] p w hn zo ha eg (λx hx W _=>by simpa using hcl x hx W);rcases Xk p ts 0 with⟨h1,_⟩ |⟨i,hi,_,h3,_⟩
 . rw[h1]at bE;have BM:=ah bE;clear bE h1 h2 hn hcl eg ha;have Hb:Hid (Bw w w):=Below.refl _ _;go_enter Tryz.func136,Tryz.ntmps136;go_wp2_with fail;refine(BM.out).mono ?_;rintro e w1 ⟨rfl,ae⟩;replace Hb:=az Hb ae;clear ae;go_wp2;go_ret;exact⟨rfl,Hb.out⟩
 . rw[h2 _ (List.getElem_mem hi)]at h3;cases h3
theorem afx (g n cap base:Nat)(ts:List aL)(gf:Nat)(p:aL->Bool)(w:World)(hn:ts.length=n)(hl:n<=65536)(hn0:0<n)(ho:w.ownsRow base 107 4 (.slice (some ⟨g,0,none⟩) n cap) n (ts.flatMap aO))
 (eg:∀args w,(callFunc gf args).run Tryz.prog w=.ok (.enter gf args) w)
 (hcl:∀x∈ts,∀W,Calls Tryz.prog gf #[.agg #[.string (bs x.1),.bool x.2.1,.string (bs x.2.2.1),.int .i64 x.2.2.2]] W λe w'=>e=.returned (.bool (p x))/\Bw W w'):
 Calls Tryz.prog 136 #[.slice (some ⟨g,0,none⟩) n cap,.func (.func gf) #[] #[]] w λe w'=>∃k,k=(ts.filter λx=>!p x).length/\e=.returned (.slice (some ⟨g,0,none⟩) k cap)/\
  w'.ownsRow base 107 4 (.slice (some ⟨g,0,none⟩) k cap) k ((ts.filter λx=>!p x).flatMap aO)/\w.grownBy w' (some g):=by
 have hat:At w (some ⟨g,0,none⟩) (ts.flatMap aO):=by obtain⟨a,c,hv,hat,_⟩:=dG ho;simp only[Value.slice.injEq,true_and]at hv;rw[hv.1];exact hat
 have hcap:=(sD ho).1;have bE:=NP (some ⟨g,0,none⟩) n cap ts gf #[] p w hn zo hat eg (λx hx W _=>by simpa using hcl x hx W);have hcm:cap<=9223372036854775807:=by
  rcases ho.2 with⟨h1,_⟩ |⟨g',cap',cur,h1,hb,hg,h4,h5,_⟩
  . simp at h1
  . simp only[Value.slice.injEq]at h1;obtain⟨_,_,rfl⟩:=h1;unfold maxLen at h5;omega
 obtain⟨Ho,iD,Hn,qi,fx⟩:=fC ho hcl hn eg hat;clear ho hcl hn eg hat;rcases Xk p ts 0 with⟨h1,h2⟩ |⟨i,hi,h1,h2,h3⟩
 . rw[h1]at bE;have hK:(ts.filter λx=>!p x)=ts:=List.filter_eq_self.2 (λx hx=>by simp[h2 x hx]);rw[hK,Hn.out];have BM:=ah bE;clear bE h1 h2 hK;have Hb:Hid (Bw w w):=Below.refl _ _;go_enter Tryz.func136,Tryz.ntmps136;go_wp2_with fail;refine(BM.out).mono ?_;rintro e w1 ⟨rfl,ae⟩;replace Hb:=az Hb ae;clear ae;go_wp2;go_ret;exact⟨n,rfl,rfl,ownsRow_below Ho.out Hb.out,Gp _ Hb.out⟩
 . rw[h1,Nat.zero_add]at bE;have hin:i<n:=by rw[<-Hn.out];exact hi
   obtain⟨K,hK⟩:=aB (ts.filter λx=>!p x);rw[hK];have hst:(ts.take (i+1)).filter (λx=>!p x)=ts.take i:=by rw[List.take_succ_eq_append_getElem hi,List.filter_append,agh p ts i zo h3];simp[h2]
   have vz:((i:Int)== -1)=false:=by simp
   obtain⟨BM,HK,cE⟩:=cX bE hK hst;clear bE h1 h2 h3 hK hst;have Hb:Hid (Bw w w):=Below.refl _ _;go_enter Tryz.func136,Tryz.ntmps136;go_wp2_with fail;refine(BM.out).mono ?_;rintro e w1 ⟨rfl,ae⟩;replace Hb:=az Hb ae;clear ae;go_wp2_with fail;go_loopw[5,6] (λs5 s6 wr=>∃(x y:Nat) (C:List aL),s5=.int .i64 (x:Int)/\s6=.int .i64 (y:Int)/\x<y/\y<=n/\C.length=n/\C.take x=(ts.take y).filter (λx=>!p x)/\C.drop y=ts.drop y/\wr.ownsRow base 107 4 (.slice (some ⟨g,0,none⟩) n cap) n (C.flatMap aO)/\w.grownBy wr (some g)) (λ_ s6 _=>n-(intOf s6).toNat);case atStart=>exact⟨i,i+1,ts,rfl,by go_num,by omega,by omega,Hn.out,cE.out.symm,rfl,ownsRow_below Ho.out Hb.out,Gp _ Hb.out⟩
   case round=>
    clear Hb vz;obtain⟨x,y,C,rfl,rfl,hxy,tX,hC,htk,hdr,hov,hg⟩:=hrel;by_cases hlt:y<n
    . have NM:y<ts.length:=by rw[Hn.out];exact hlt
      have Xd:y<C.length:=by omega
      have hel:C[y]=ts[y]:=by
       have e1:C[y]?=ts[y]?:=by rw[<-Nat.add_zero y,<-List.getElem?_drop,<-List.getElem?_drop,hdr]
       rw[List.getElem?_eq_getElem Xd,List.getElem?_eq_getElem NM]at e1;exact Option.some.inj e1
      obtain⟨l,s,m,e,hx⟩:∃l s m e,ts[y]=(l,s,m,e):=⟨_,_,_,_,rfl⟩;have hw:=IR hov y Xd (hel.trans hx);have hcl:=iD.out _ (List.getElem_mem NM);rw[hx]at hcl;have hnx:(ts.take (y+1)).filter (λx=>!p x)=(ts.take y).filter (λx=>!p x)++if p (l,s,m,e)then[]else[(l,s,m,e)]:=by rw[List.take_succ_eq_append_getElem NM,List.filter_append,hx];by_cases hp:p (l,s,m,e)=true<;>simp[hp]
      have hd2:C.drop (y+1)=ts.drop (y+1):=by rw[<-List.drop_drop,<-List.drop_drop,hdr]
      have bE:=jO n cap y (y:Int) (rfl:(some ⟨g,0,none⟩:Option Addr)=_) hlt rfl;rw[Nat.zero_add]at bE;obtain⟨hgb,Dk⟩:=yA hov;obtain⟨cM,Hg,RX,uA,mZ,HC,QX⟩:=oH hov hg htk hd2 hnx hC hcl;have Hz:Hid (bB wr g (y*4) [.string (bs l),.bool s,.string (bs m),.int .i64 e]):=hw;clear hov hg htk hd2 hnx hC hcl hw hdr hel hx;have Hb:Hid (Bw wr wr):=Below.refl _ _;obtain⟨z0,z1,z2,z3⟩:=Hz.out.w4;have P0:=z0;have P1:=z1;have P2:=z2;have P3:=z3;have Gj:=qi.out;obtain⟨W4,pH,ae,Hv⟩:=cS wr 107 [.string (bs l),.bool s,.string (bs m),.int .i64 e];clear z0 z1 z2 z3;replace Hz:=kW Hz ae;obtain⟨z0,z1,z2,z3⟩:=Hz.out.w4;obtain⟨v0,v1,v2,v3⟩:=Hv.out.c4;replace Hb:=az Hb ae;clear ae;obtain⟨t,ht⟩:=aB (p (l,s,m,e));rw[ht]at QX mZ;clear ht;go_wp2_with fail;refine(QX.out _).mono ?_;rintro e w5 ⟨rfl,ae⟩;clear z0 z1 z2 z3 v0 v1 v2 v3;replace Hz:=kW Hz ae;replace Hv:=kB Hv ae;obtain⟨z0,z1,z2,z3⟩:=Hz.out.w4;obtain⟨v0,v1,v2,v3⟩:=Hv.out.c4;replace Hb:=az Hb ae;clear ae;have iM:=ownsRow_below cM.out Hb.out;have GV:=grownBy_trans Hg.out (Gp _ Hb.out);clear Gj;cases t with
      | true=>
        obtain⟨wQ,JY⟩:=aM iM GV;clear iM GV;go_wp2;go_roundw;case rel=>exact⟨x,y+1,C,rfl,by go_num,by omega,by omega,HC.out,by rw[mZ.out,RX.out];simp,uA.out,wQ.out,JY.out⟩
        case measure=>simp[intOf];omega
      | false=>
        have NK:x<C.length:=by have:=HC.out;omega
        obtain⟨lx,sx,mx,ex,WZ⟩:∃l s m e,C[x]=(l,s,m,e):=⟨_,_,_,_,rfl⟩;obtain⟨u0,u1,u2,u3⟩:=(IR iM x NK WZ).w4;have jg:=mM iM (x*4);have iI:=mM iM (x*4+1);have nV:=mM iM (x*4+2);have TM:=mM iM (x*4+3);have ov:=jO n cap x (x:Int) (rfl:(some ⟨g,0,none⟩:Option Addr)=_) zo rfl;rw[Nat.zero_add]at ov;obtain⟨wQ,JY,Sj⟩:=cX iM GV NK;clear iM GV WZ NK;go_wp2;refine⟨⟨x+1,y+1,C.set x (l,s,m,e),by go_num,by go_num,by omega,by omega,by rw[List.length_set];exact HC.out,?_,?_,akr wQ.out x Sj.out l s m e,?_⟩,by simp[intOf];omega⟩
        . rw[take_set _ _ _ Sj.out,RX.out,mZ.out];simp
        . rw[LC _ _ _ _ zo];exact uA.out
        . exact Gq (Gq (Gq (Gq JY.out _ _) _ _) _ _) _ _
    . obtain rfl:y=n:=by omega
      have hK:C.take x=K:=by rw[htk,<-HK.out,List.take_of_length_le (by rw[Hn.out];exact Nat.le_refl _)]
      have Gz:K.length=x:=by rw[<-hK,List.length_take,hC];omega
      have Ah:=Yr hov x zo;rw[TI C x zo,hK]at Ah;obtain⟨w6,aoJ,Dx,Vx⟩:=YY wr 55 107 _ 4 Tryz.underlying55 Tryz.ari rfl (by intro v hv;simp[Value.cells]at hv;rcases hv with rfl|rfl|rfl|rfl<;>rfl) g x (y-x) cap (cap-x) base (K.flatMap aO) Ah zo;have jY:¬cap=x:=by omega
      obtain⟨Ho6,sW,HKl⟩:=cX Dx (grownBy_trans hg Vx) Gz;clear htk hdr hC hK Gz Ah hov hg Dx Vx;go_wp2;go_ret;exact⟨x,HKl.out.symm,rfl,Ho6.out,sW.out⟩
theorem At.first {w:World}{a:Option Addr}{xs:List Value}(h:At w a xs)(k:Nat):At w a (xs.take k):=by
 rcases h with rfl|⟨b,o,rfl,hc⟩
 . exact .inl zm
 . refine .inr ⟨b,o,rfl,λj hj=>?_⟩;rw[List.length_take]at hj;rw[hc j zo,List.getElem?_take_of_lt zo]
def KW (w:World)(a:Option Addr)(n cap:Nat)(ts:List aL)(e:Ending)(w':World):Prop:=
 ∃v',e=.returned v'/\((n<2/\v'=.slice a n cap)\/(2<=n/\w'.ownsRow w.heap.size 107 4 v' (gK ts).length ((gK ts).flatMap aO)))/\Bw w w'
theorem KW.at {w:World}{a:Option Addr}{n cap:Nat}{ts:List aL}{e:Ending}{w':World}(h:KW w a n cap ts e w')(hn:ts.length=n)(hs:Sl a n cap)(ha:At w a (ts.flatMap aO)):
 ∃a' c',e=.returned (.slice a' (gK ts).length c')/\At w' a' ((gK ts).flatMap aO)/\Sl a' (gK ts).length c'/\Bw w w':=by
 obtain⟨v',rfl,h1,hb⟩:=h;rcases h1 with⟨h2,rfl⟩ |⟨h2,ho⟩
 . rw[IZ ts zo,hn];exact⟨a,cap,rfl,ha.below hb,hs,hb⟩
 . obtain⟨a',c',rfl,hat,_⟩:=dG ho;exact⟨a',c',rfl,hat,sD ho,hb⟩
theorem al8 (n:Nat):∀(a:Option Addr) (cap:Nat) (ts:List aL) (B:Nat) (w:World),ts.length=n->Sl a n cap->n<=65536->At w a (ts.flatMap aO)->(∀t∈ts,Fit B t.2)->B+n+2<=268435456->aF w->
 Calls Tryz.prog 137 #[.slice a n cap,.func (.func 100) #[] #[],.func (.func 101) #[] #[]] w (KW w a n cap ts):=by
 induction n using Nat.strongRecOn with
 | _ n ih=>
   intro a cap ts B w hn hs hl ha hf hB hT;by_cases h2:n<2
   . have h2i:(n:Int)<2:=by omega
     clear ih hn hs ha hf hT;have Hb:Hid (Bw w w):=Below.refl _ _;go_enter Tryz.func137,Tryz.ntmps137;go_wp2;go_ret;exact⟨_,rfl,.inl ⟨h2,rfl⟩,Hb.out⟩
   . obtain⟨k,hk⟩:=aB (n/2);have hk1:1<=k:=by omega
     have hk2:k<n:=by omega
     have Dn:(n:Int)/2=(k:Int):=by omega
     have l1:(ts.take k).length=k:=by rw[List.length_take];omega
     have l2:(ts.drop k).length=n-k:=by rw[List.length_drop];omega
     have hcn:=hs.1;have s1:Sl a k cap:=⟨by omega,hs.2⟩;have s2:Sl (if cap=k then a else a.map (·.add (k*4))) (n-k) (cap-k):=hs.cut zo;have a1:=ha.first (k*4);rw[TI ts k zo]at a1;have a2:=ha.cut (k:=k) (size:=4) (by rw[kX,hn]) zo hcn;have ed:(ts.flatMap aO).drop (k*4)=(ts.drop k).flatMap aO:=by
      have e:ts=ts.take k++ts.drop k:=(List.take_append_drop _ _).symm;conv=>lhs;rw[e]
      rw[List.flatMap_append,List.drop_left' (by rw[kX,l1])]
     rw[ed]at a2;obtain⟨a',ha'⟩:=aB (if cap=k then a else a.map (·.add (k*4)));rw[ha']at s2 a2;have f1:∀t∈ts.take k,Fit B t.2:=λt ht=>hf t (List.mem_of_mem_take ht);have f2:∀t∈ts.drop k,Fit B t.2:=λt ht=>hf t (List.mem_of_mem_drop ht);have c1:=λW (hW:Bw w W) (CW:aF W)=>(ih k hk2 a cap (ts.take k) B W l1 s1 zo (a1.below hW) f1 zo CW).mono (λe w' h=>h.at l1 s1 (a1.below hW));have c2:=λW (hW:Bw w W) (CW:aF W)=>(ih (n-k) zo a' (cap-k) (ts.drop k) B W l2 s2 zo (a2.below hW) f2 zo CW).mono (λe w' h=>by obtain⟨x1,x2,x3,x4,x5,x6⟩:=h.at l2 s2 (a2.below hW);exact(⟨x1,x2,x3,x4,x5,Nat.le_trans hW.size x6.size,x6,x6⟩:∃a1 c1,e=.returned (.slice a1 (gK (ts.drop k)).length c1)/\At w' a1 ((gK (ts.drop k)).flatMap aO)/\Sl a1 (gK (ts.drop k)).length c1/\w.heap.size<=w'.heap.size/\Bw W w'/\Bw W w'));have g1:=PI (B:=B) (ts.take k) f1 zo;have g2:=PI (B:=B) (ts.drop k) f2 zo;have e1:=IY (ts.take k);have e2:=IY (ts.drop k);have hst:gK ts=gG (gK (ts.take k)) (gK (ts.drop k)):=by rw[PK ts zo,hn,hk]
     obtain⟨L,hL⟩:=aB (gK (ts.take k));obtain⟨R,hR⟩:=aB (gK (ts.drop k));rw[hL]at c1 g1 e1 hst;rw[hR]at c2 g2 e2 hst;have h2i:¬(n:Int)<2:=by omega
     have h2n:2<=n:=by omega
     obtain⟨C1,C2,G1,G2,cE,HT⟩:=gF c1 c2 (λt ht=>(g1 t ht).mono (show B+(ts.take k).length<=B+n by omega)) (λt ht=>(g2 t ht).mono (show B+(ts.drop k).length<=B+n by omega)) hst hT;have Fw:Hid (L.length<=65536/\R.length<=65536):=⟨by omega,by omega⟩;have td:=ha';clear ih hn hs ha hf hT a1 a2 s1 s2 f1 f2 c1 c2 g1 g2 e1 e2 hst ed l1 l2 hL hR hk ha';have Hb:Hid (Bw w w):=Below.refl _ _;go_enter Tryz.func137,Tryz.ntmps137;go_wp2_with fail;have hkn:k<=n:=by omega
     have hkc:k<=cap:=by omega
     refine bM (λw'=>True) (λi=>Nat.blt i 100000) [(0,true),(1,true),(2,true),(3,true),(4,true),(6,true),(7,true),(8,true),(9,true),(10,true),(12,true),(13,true),(5,false),(11,false),(14,false),(15,true)] zk zk rfl zk zc True.intro ?_;iterate 12 (refine pT rfl rfl ?_;try simp only[UU])
     refine aI rfl rfl (λK hK=>?_);go_simp;with_reducible refine(C1.out _ (by first|exact Hb.out|exact Hb.out.drew) (by first|exact(HT.out.below Hb.out) |exact aF.drew (HT.out.below Hb.out) |exact aF.alloc (HT.out.below Hb.out) _|exact aF.drew (aF.alloc (HT.out.below Hb.out) _) |exact aF.alloc (aF.drew (HT.out.below Hb.out)) _)).mono ?_
     rintro e w1 ⟨b1,d1,rfl,jJ,hs1,hq⟩;have ae:Bw w w1:=by first|exact hq|exact aV hq
     replace Hb:=az Hb ae;clear ae;refine hK _ _ (λ_=>True.intro) ?_;clear hK K;try simp only[UU]
     refine aI rfl rfl (λK hK=>?_);go_simp;with_reducible refine(C2.out _ (by first|exact Hb.out|exact Hb.out.drew) (by first|exact(HT.out.below Hb.out) |exact aF.drew (HT.out.below Hb.out) |exact aF.alloc (HT.out.below Hb.out) _|exact aF.drew (aF.alloc (HT.out.below Hb.out) _) |exact aF.alloc (aF.drew (HT.out.below Hb.out)) _)).mono ?_
     rintro e w2 ⟨b2,d2,rfl,iK,hs2,ah0,uZ,hq⟩;have ae:Bw w1 w2:=by first|exact hq|exact aV hq
     replace Hb:=az Hb ae;clear ae;refine hK _ _ (λ_=>True.intro) ?_;clear hK K;try simp only[UU]
     refine aI rfl rfl (λK hK=>?_);go_simp;with_reducible refine(XT b1 L.length d1 L b2 R.length d2 R (B+n) _ rfl rfl hs1 hs2 Fw.out.1 Fw.out.2 (by first|exact jJ.below uZ|exact(jJ.below uZ).drew) (by first|exact iK|exact iK.drew) G1.out G2.out zo (by first|exact(HT.out.below Hb.out) |exact aF.drew (HT.out.below Hb.out) |exact aF.alloc (HT.out.below Hb.out) _|exact aF.drew (aF.alloc (HT.out.below Hb.out) _) |exact aF.alloc (aF.drew (HT.out.below Hb.out)) _)).mono ?_
     rintro e w3 ⟨v',rfl,ho,hq⟩;have ae:Bw w2 w3:=by first|exact hq|exact aV hq
     replace Hb:=az Hb ae;clear ae;refine hK _ _ (λ_=>True.intro) ?_;clear hK K;try simp only[UU]
     refine pT rfl rfl ?_;try simp only[UU]
     simp only[aZ];go_wp2;go_ret;exact⟨v',rfl,.inr ⟨h2n,by rw[cE.out];exact pY ho ah0⟩,Hb.out⟩
def zH (x:aL):aL:=(x.1,canon (aC x.2))
theorem XR (f:aL->aL)(K C:List aL)(k:Nat)(hk:k<C.length)(hl:C.length=K.length)(ht:C.take k=(K.map f).take k)(hx:C[k]=K[k]'zo):(C.set k (f C[k])).take (k+1)=(K.map f).take (k+1):=by rw[take_set _ _ _ hk,ht,List.take_succ_eq_append_getElem zi,List.getElem_map,hx]
theorem Tw {K C:List aL}{k:Nat}(hd:C.drop k=K.drop k)(h1:k<C.length)(h2:k<K.length):C[k]=K[k]:=by
 have e1:C[k]?=K[k]?:=by rw[<-Nat.add_zero k,<-List.getElem?_drop,<-List.getElem?_drop,hd]
 rw[List.getElem?_eq_getElem h1,List.getElem?_eq_getElem h2]at e1;exact Option.some.inj e1
theorem aeZ (V:Int)(v:Value)(n:Nat)(ts:List aL)(B:Nat)(w0 w:World)(hb0:Bw w0 w)(hn:ts.length=n)(hl:n<=4096)(ho:w.ownsRow w0.heap.size 107 4 v n (ts.flatMap aO))(hf:∀t∈ts,Fit B t.2)(hB:B+n+2<=268435456)(hT:aF w0):
 Calls Tryz.prog 97 #[.int .i64 V,v] w λe w'=>∃v',e=.returned (.tuple #[.agg #[.int .i64 V,v'],.int .i64 0])/\w'.ownsRow w0.heap.size 107 4 v' (bF ts).length ((bF ts).flatMap aO)/\Bw w0 w':=by
 obtain⟨a,cap,rfl,hat,_⟩:=dG ho;have hs:=sD ho;have GW:=PI ts hf zo;have hsl:=IY ts;have eg:∀args w,(callFunc 138 args).run Tryz.prog w=.ok (.enter 138 args) w:=enters_of Tryz.func138 zk rfl;obtain⟨S,hS⟩:=aB (gK ts);have c1:∀W,Bw w W->Calls Tryz.prog 137 #[.slice a n cap,.func (.func 100) #[] #[],.func (.func 101) #[] #[]] W λe w'=>∃v1,e=.returned v1/\w'.ownsRow w0.heap.size 107 4 v1 S.length (S.flatMap aO)/\Bw W w':=by
  intro W hW;refine(al8 n a cap ts B W hn hs zo (hat.below hW) hf hB (hT.below (aK hb0 hW))).mono ?_;rintro e w' ⟨v1,rfl,h1,hb⟩;refine⟨v1,rfl,?_,hb⟩;rcases h1 with⟨h2,rfl⟩ |⟨h2,dv⟩
  . rw[<-hS,IZ ts zo,hn];exact ownsRow_below ho (aK hW hb)
  . rw[<-hS];exact pY dv (by have:=hW.size;have:=hb0.size;omega)
 obtain⟨K,hK⟩:=aB (S.filter gV);have Gz:K.length<=4096:=by have:=List.length_filter_le gV S;rw[hK]at this;rw[hS]at hsl;omega
 rw[hS]at GW hsl;have c2:∀W v1,Bw w0 W->W.ownsRow w0.heap.size 107 4 v1 S.length (S.flatMap aO)->Calls Tryz.prog 136 #[v1,.func (.func 138) #[] #[]] W λe w'=>∃v2,e=.returned v2/\w'.ownsRow w0.heap.size 107 4 v2 K.length (K.flatMap aO)/\W.grownBy w' v1.ownBlock:=by
  intro W v1 hW dv;have hcl:∀x∈S,∀W,Calls Tryz.prog 138 #[.agg #[.string (bs x.1),.bool x.2.1,.string (bs x.2.2.1),.int .i64 x.2.2.2]] W λe w'=>e=.returned (.bool (!gV x))/\Bw W w':=λx hx W=>aeY x.1 x.2.1 x.2.2.1 x.2.2.2 W (GW x hx).1;by_cases h0:0<S.length
  . obtain⟨g,c,rfl,_,_,_⟩:=AJ dv h0;refine(afx g S.length c w0.heap.size S _ (λx=>!gV x) W rfl zo h0 dv eg hcl).mono ?_;rintro e w' ⟨k,hk,rfl,dP,hg2⟩;simp only[Bool.not_not]at hk dP;rw[hK]at hk dP;subst hk;exact⟨_,rfl,dP,hg2⟩
  . have nX:S=[]:=List.eq_nil_of_length_eq_zero zo;obtain⟨a1,c,rfl,jJ,_⟩:=dG dv;refine(afy a1 S.length c S _ (λx=>!gV x) W rfl zo jJ eg (λx hx=>by rw[nX]at hx;cases hx) hcl).mono ?_;rintro e w' ⟨rfl,hb⟩;have tC:K=S:=by rw[<-hK,nX];rfl
    rw[tC];exact⟨_,rfl,ownsRow_below dv hb,Gp _ hb⟩
 have Uh:∀t∈K,Fit (B+ts.length) t.2:=λt ht=>by rw[<-hK]at ht;exact GW t (List.mem_filter.1 ht).1
 have hcl:bF ts=K.map zH:=by unfold bF;rw[hS,hK];rfl
 rw[hcl,List.length_map];have hz:=hb0.size;obtain⟨m,hm⟩:=aB K.length;rw[hm]at Gz c2⊢;obtain⟨Hm,C1,C2,HKf,xb,HT⟩:=gF hm c1 c2 Uh hb0 hT;clear c1 c2 hm Uh hcl hb0 hT GW hS hK ho hat hs hf eg hsl;have Hb:Hid (Bw w w):=Below.refl _ _;go_enter Tryz.func97,Tryz.ntmps97;go_wp2_with fail;obtain⟨R,hR⟩:∃R:World->Prop,(λW=>ak W (w.heap.size) 57 [.int .i64 0,.slice none 0 0]/\Bw w W)=R:=⟨_,rfl⟩;first|refine bN R ?hR ?_|refine bL R ?hR ?_
 case hR=>subst hR;exact⟨(ak.newAt w _ _ (b:=w.heap.size) rfl),zl⟩
 subst hR;rintro W ⟨qr,ae⟩;have Hr:=ah qr;clear qr;obtain⟨r0,ai,r1,aj⟩:=Hr.out.g2;replace Hb:=az Hb ae;clear ae;go_wp2_with fail;refine(C1.out _ Hb.out).mono ?_;rintro e w1 ⟨v1,rfl,dv,ae⟩;clear r0 ai r1 aj;replace Hr:=kB Hr ae;obtain⟨r0,ai,r1,aj⟩:=Hr.out.g2;replace Hb:=az Hb ae;clear ae;have hw1:=aK xb.out Hb.out;go_wp2_with fail;refine(C2.out _ v1 hw1 dv).mono ?_;rintro e w2 ⟨v2,rfl,dP,hg2⟩;have hr2:=Hr.out.row zd dv hg2;have hw2:=aer (hg2) (Nat.le_trans hz Hb.out.size) (λg e=>cZ dv g e);obtain⟨Sb,sY⟩:=aM (hw1.trans hw2) dP;replace Hr:=ah hr2;clear C1 C2 dv hg2 hw1 hw2 hr2 dP r0 ai r1 aj Hb;have hKi:¬(4096:Int)<(m:Int):=by omega
 obtain⟨a2,cap2,rfl,_,_⟩:=dG sY.out;go_wp2_with fail;go_loopw[16] (λx wr=>∃(k:Nat) (C:List aL),k<=m/\x=.int .i64 (k:Int)/\C.length=m/\C.take k=(K.map zH).take k/\C.drop k=K.drop k/\wr.ownsRow w0.heap.size 107 4 (.slice a2 m cap2) m (C.flatMap aO)/\ak wr w.heap.size 57 [.int .i64 0,.slice none 0 0]/\Bw w0 wr) (λx _=>m-(intOf x).toNat);case atStart=>exact⟨0,K,Nat.zero_le _,rfl,Hm.out,rfl,rfl,sY.out,Hr.out,Sb.out⟩
 case round=>
  clear Hr sY Sb;obtain⟨k,C,hk,rfl,hC,htk,hdr,hov,hr,pb⟩:=hrel;by_cases hlt:k<m
  . obtain⟨g,cc,he,hg1,hg2,hg3⟩:=AJ hov zo;simp only[Value.slice.injEq,true_and]at he;obtain⟨rfl,rfl⟩:=he;have tH:k<C.length:=by omega
    have xN:k<K.length:=by have:=Hm.out;omega
    have hel:=Tw hdr tH xN;obtain⟨l,s,q,e,hx⟩:∃l s m e,C[k]=(l,s,m,e):=⟨_,_,_,_,rfl⟩;have dL:=HKf.out _ (List.getElem_mem xN);rw[<-hel,hx]at dL;obtain⟨D,hD⟩:=aB (aC (s,q,e));have kg:=XR zH K C k tH (by rw[hC,Hm.out]) htk hel;have Dg:zH C[k]=(l,canon D):=by rw[hx,<-hD];rfl
    rw[Dg]at kg;have jY:C[k].1=l:=by rw[hx]
    have hw:=IR hov k tH hx;have hd2:C.drop (k+1)=K.drop (k+1):=by rw[<-List.drop_drop,<-List.drop_drop,hdr]
    have bE:=jO m cap2 k (k:Int) (rfl:(some ⟨g,0,none⟩:Option Addr)=_) hlt rfl;rw[Nat.zero_add]at bE;have Hfm:Hid (∀W,aF W->Calls Tryz.prog 69 #[.agg #[.bool s,.string (bs q),.int .i64 e]] W λex w'=>ex=.returned (bH D)/\Bw W w'):=λW CW=>qJ s q e D hD W dL.1 CW;obtain⟨cM,aQ,KH,uA,HC,JO,wF⟩:=oH hov pb kg hd2 hC jY (HT.out.below pb);have Hr:Hid (ak wr w.heap.size 57 [.int .i64 0,.slice none 0 0]):=hr;have Hz:Hid (bB wr g (k*4) [.string (bs l),.bool s,.string (bs q),.int .i64 e]):=hw;clear hov pb kg hd2 hC hr hw htk hdr hel hx dL hD Dg jY xN;have Hb:Hid (Bw wr wr):=Below.refl _ _;obtain⟨z0,z1,z2,z3⟩:=Hz.out.w4;have y2:wr.cell? ⟨g,k*4+1+1,none⟩=some (.string (bs q)):=z2;have y3:wr.cell? ⟨g,k*4+1+2,none⟩=some (.int .i64 e):=z3;go_wp2_with fail;refine(Hfm.out _ wF.out).mono ?_;rintro e w5 ⟨rfl,ae⟩;clear z0 z1 z2 z3;replace Hz:=kW Hz ae;obtain⟨z0,z1,z2,z3⟩:=Hz.out.w4;replace Hb:=az Hb ae;clear ae;have iM:=ownsRow_below cM.out Hb.out;clear y2 y3;have y2:w5.cell? ⟨g,k*4+1+1,none⟩=some (.string (bs q)):=z2;have y3:w5.cell? ⟨g,k*4+1+2,none⟩=some (.int .i64 e):=z3;have iI:=mM iM (k*4+1);have nV:=mM iM (k*4+1+1);have TM:=mM iM (k*4+1+2);have hgb:=(yA iM).2;have tP:=Hr.out.below Hb.out;have dA:=aK aQ.out Hb.out;have MU:g≠w.heap.size:=λe=>tP.not_row zd iM (by rw[e];rfl);obtain⟨wQ,KB,fB⟩:=cX iM tP dA;clear iM tP dA;go_wp2;refine⟨⟨k+1,C.set k (l,canon D),by omega,by go_num,by rw[List.length_set];exact HC.out,KH.out,by rw[LC _ _ _ _ zo];exact uA.out,?_,?_,?_⟩,by simp[intOf];omega⟩
    . have h:=Yq wQ.out k tH (ar (dN D)) (nt (dN D).natAbs) (dE D);rw[JO.out]at h;exact h
    . exact((KB.out.aqR _ MU _).aqR _ MU _).aqR _ MU _
    . exact((fB.out.setCell zp _).setCell zp _).setCell zp _
  . obtain rfl:k=m:=by omega
    have CI:C=K.map zH:=by rw[List.take_of_length_le zo,List.take_of_length_le (by rw[List.length_map];have:=Hm.out;omega)]at htk;exact htk
    rw[CI]at hov;obtain⟨cM,aQ⟩:=aM hov pb;have Hr:Hid (ak wr w.heap.size 57 [.int .i64 0,.slice none 0 0]):=hr;clear hov pb hr htk hdr hC CI;obtain⟨r0,ai,r1,aj⟩:=Hr.out.g2;go_wp2;have hne:=(Hr.out.not_row zd cM.out).symm;have hrs:=Hr.out.lt;refine fy (λw9=>ak w9 w.heap.size 57 [.int .i64 V,.slice a2 k cap2]/\w9.ownsRow w0.heap.size 107 4 (.slice a2 k cap2) k ((K.map zH).flatMap aO)/\Bw w0 w9) ⟨(Hr.out.set 0 _).set 1 _,ownsRow_setCell_other (ownsRow_setCell_other cM.out hne _) hne _,(aQ.out.setCell hz _).setCell hz _⟩ ?_;rintro w9 ⟨oz,gT,jX⟩;obtain⟨q0,q1⟩:=oz.c2;exact bodyPost_ret (v:=.tuple #[.agg #[.int .i64 V,.slice a2 k cap2],.int .i64 0]) (by simp[results,Tryz.results97,go_sem,q0,q1]) rfl ⟨_,rfl,gT,jX⟩
theorem Lq (V:Int)(v:Value)(n:Nat)(ts C:List aL)(B:Nat)(w0 w:World)(hb0:Bw w0 w)(hn:ts.length=n)(hl:n<=4096)(ho:w.ownsRow w0.heap.size 107 4 v n (ts.flatMap aO))(hf:∀t∈ts,Fit B t.2)(hB:B+n+2<=268435456)(hT:aF w0)(hC:bF ts=C):
 Calls Tryz.prog 97 #[.int .i64 V,v] w λe w'=>∃a c,e=.returned (.tuple #[.agg #[.int .i64 V,.slice a C.length c],.int .i64 0])/\w'.ownsRow w0.heap.size 107 4 (.slice a C.length c) C.length (C.flatMap aO)/\Bw w0 w':=by
 subst hC;refine(aeZ V v n ts B w0 w hb0 hn hl ho hf hB hT).mono ?_;rintro e w' ⟨v',rfl,h1,h2⟩;obtain⟨a,c,rfl,_,_⟩:=dG h1;exact⟨a,c,rfl,h1,h2⟩
theorem akp {w W:World}{b base k:Nat}{v x0 x1:Value}{xs:List Value}(hr:ak W b 57 [x0,x1])(ho:W.ownsRow base 107 4 v k xs)(hb:Bw w W)(hbs:w.heap.size<=b)(y0 y1:Value):
 ak ((W.setCell ⟨b,0,none⟩ y0).setCell ⟨b,1,none⟩ y1) b 57 [y0,y1]/\((W.setCell ⟨b,0,none⟩ y0).setCell ⟨b,1,none⟩ y1).ownsRow base 107 4 v k xs/\Bw w ((W.setCell ⟨b,0,none⟩ y0).setCell ⟨b,1,none⟩ y1):=by
 have hne:=(hr.not_row zd ho).symm;exact⟨(hr.set 0 _).set 1 _,ownsRow_setCell_other (ownsRow_setCell_other ho hne _) hne _,(hb.setCell hbs _).setCell hbs _⟩
theorem zG {P:Program}{fn:Func}{R:Ending->World->Prop}{e:Exit}{a:Act}{w W:World}{b base k:Nat}{v x0 x1 y0 y1:Value}{xs:List Value}(hr:ak W b 57 [x0,x1])(ho:W.ownsRow base 107 4 v k xs)(hb:Bw w W)(hbs:w.heap.size<=b)
 (h:∀W',ak W' b 57 [y0,y1]->W'.ownsRow base 107 4 v k xs->Bw w W'->bodyPost P fn R e a W'):bodyPost P fn R e a ((W.setCell ⟨b,0,none⟩ y0).setCell ⟨b,1,none⟩ y1):=by
 obtain⟨h1,h2,h3⟩:=akp hr ho hb hbs y0 y1;exact h _ h1 h2 h3
theorem SR (a:Option Addr)(n cap:Nat)(ts:List aL)(w:World)(hn:ts.length=n)(hl:n<=1048576)(hs:Sl a n cap)(ha:At w a (ts.flatMap aO)):
 Calls Tryz.prog 96 #[.slice a n cap] w λe w'=>∃v',e=.returned v'/\w'.ownsRow w.heap.size 107 4 v' n (ts.flatMap aO)/\Bw w w':=by
 obtain⟨i0,hi,hz0,hz1,hz2⟩:=info_parts Tryz.aqW;have q:=λ(w:World) (a:Option Addr) (n c n' c':Nat)=>Lib.run_eql_slice_nil (P:=Tryz.prog) w 55 107 a n c n' c' Tryz.underlying55;have hlen:(ts.flatMap aO).length=n*4:=by rw[jW aO 4 (λ_=>rfl),hn]
 obtain⟨cs,hcs⟩:=aB (ts.flatMap aO);have h1:=rF ts;rw[hcs]at hlen ha h1⊢;obtain⟨nQ,Ha,H1,Hs,Hi,cN,cO,cH⟩:=oI hlen ha h1 hs hi hz0 hz1 hz2;clear hlen ha h1 hs hi hz0 hz1 hz2 hn hcs;cases a with
 | none=>
   have hc:=Hs.out.2 rfl;have hn0:n=0:=by have:=Hs.out.1;omega
   subst hc;subst hn0;go_enter Tryz.func96,Tryz.ntmps96;go_wp2;go_ret;refine⟨_,rfl,?_,Below.refl _ _⟩;have e:cs=[]:=List.eq_nil_of_length_eq_zero (by have:=nQ.out;omega);rw[e];exact World.ownsRow_nil _ _ _ _
 |some ad=>go_enter Tryz.func96,Tryz.ntmps96;go_wp2_with (at_builtin;refine oN rfl _ _ 55 rfl w.heap.size 107 i0 _ 4 48 Tryz.underlying55 Hi.out cN.out cO.out cH.out rfl zd _ 0 [] rfl (World.ownsRow_made w #[] 0 (Nat.le_refl _) (Nat.zero_le _) zm) (some ad) n cap cs rfl Hs.out nQ.out (Ha.out.below ((Below.refl _ w).alloc (Nat.le_refl _) _)) H1.out zx zo zm ?_;intro v' w1 hown hgrow fq);go_ret;refine⟨v',rfl,by simpa using hown,?_⟩;exact((Below.refl _ w).alloc (Nat.le_refl _) _).grown hgrow zm (λk hk=>by have h9:w.heap.size=k:=Option.some.inj hk;omega)
theorem ajs (V:Int)(ts:List aL)(h:∀t∈ts,gj t.1 V=true):(ts.any λt=>!gj t.1 V)=false:=by rw[List.any_eq_false];intro t ht;rw[h t ht];simp
theorem XQ (V:Nat)(a:Option Addr)(n cap:Nat)(ts:List aL)(B:Nat)(w:World)(hV:V<=12)(hn:ts.length=n)(hl:n<=4096)(hs:Sl a n cap)(ha:At w a (ts.flatMap aO))(hm:∀t∈ts,gj t.1 V=true)(hl2:∀t∈ts,t.1.length<=9223372036854775807)
 (hf:∀t∈ts,Fit B t.2) (hB:B+n+2<=268435456) (hT:aF w):
 Calls Tryz.prog 94 #[.int .i64 (V:Int),.slice a n cap] w λe w'=>∃a' c',e=.returned (.tuple #[.agg #[.int .i64 (V:Int),.slice a' (bF ts).length c'],.int .i64 0])/\w'.ownsRow w.heap.size 107 4 (.slice a' (bF ts).length c') (bF ts).length ((bF ts).flatMap aO)/\Bw w w':=by
 have eg:∀args w,(callFunc 135 args).run Tryz.prog w=.ok (.enter 135 args) w:=enters_of Tryz.func135 zk rfl;have hct:∀W bv,Bw w W->W.cell? ⟨bv,0,none⟩=some (.int .i64 (V:Int))->Calls Tryz.prog 134 #[.slice a n cap,.func (.func 135) #[] #[.pointer (some ⟨bv,0,none⟩)]] W λe w'=>e=.returned (.bool false)/\Bw W w':=by intro W bv hW hc;have h:=afh a n cap ts 135 #[.pointer (some ⟨bv,0,none⟩)] (λt=>!gj t.1 V) W hn zo (ha.below hW) eg (λx hx W2 hW2=>by simpa using ajr x.1 x.2.1 x.2.2.1 x.2.2.2 V bv W2 (cell_later hW2 hc) (hl2 x hx));rwa [ajs V ts hm]at h
 obtain⟨C,hC⟩:=aB (bF ts);have hcn:=λW (hW:Bw w W)=>(SR a n cap ts W hn zo hs (ha.below hW)).mono (λe w' h=>(match h with|⟨v,h1,h2,h3⟩=>⟨v,h1,h2,h3,h3⟩:∃v',e=.returned v'/\w'.ownsRow W.heap.size 107 4 v' n (ts.flatMap aO)/\Bw W w'/\Bw W w'));have hcl:=λw0 W v (hw0:Bw w w0) (hb0:Bw w0 W) (ho:W.ownsRow w0.heap.size 107 4 v n (ts.flatMap aO))=>Lq (V:Int) v n ts C B w0 W hb0 hn hl ho hf hB (hT.below hw0) hC;rw[hC];obtain⟨JM,sO,iD⟩:=cX hct hcn hcl;clear hct hcn hcl hC ha hT hf hm hl2 hs hn eg;have qZ:=λW=>Gm (V:Int) W;have hd:decide (0<=(V:Int)/\(V:Int)<=12)=true:=by simp;omega
 rw[hd]at qZ;have BK:=ah qZ;clear qZ hd;have hni:¬(65536:Int)<(n:Int):=by omega
 have Hb:Hid (Bw w w):=Below.refl _ _;go_enter Tryz.func94,Tryz.ntmps94;go_wp2_with fail;obtain⟨R,hR⟩:∃R:World->Prop,(λW=>ak W (w.heap.size) 3 [.int .i64 (V:Int)]/\ak W (w.heap.size+1) 57 [.int .i64 0,.slice none 0 0]/\Bw w W)=R:=⟨_,rfl⟩;first|refine bN R ?hR ?_|refine bL R ?hR ?_
 case hR=>subst hR;exact⟨((ak.newAt w _ _ (b:=w.heap.size) rfl).alloc _),(ak.newAt (w.alloc _) _ _ (b:=w.heap.size+1) zm),(zl.alloc zj _)⟩
 subst hR;rintro W ⟨qv,qr,ae⟩;have Hv:=ah qv;clear qv;have Hr:=ah qr;clear qr;have v0:=Hv.out.c1;obtain⟨r0,ai,r1,aj⟩:=Hr.out.g2;replace Hb:=az Hb ae;clear ae;go_wp2_with fail;refine(BK.out _).mono ?_;rintro e w1 ⟨rfl,ae⟩;clear v0 r0 ai r1 aj;replace Hv:=kB Hv ae;replace Hr:=kB Hr ae;have v0:=Hv.out.c1;obtain⟨r0,ai,r1,aj⟩:=Hr.out.g2;replace Hb:=az Hb ae;clear ae;go_wp2_with fail;refine(JM.out _ _ Hb.out v0).mono ?_;rintro e w2 ⟨rfl,ae⟩;clear v0 r0 ai r1 aj;replace Hv:=kB Hv ae;replace Hr:=kB Hr ae;have v0:=Hv.out.c1;obtain⟨r0,ai,r1,aj⟩:=Hr.out.g2;replace Hb:=az Hb ae;clear ae;go_wp2_with fail;refine bM (λw'=>w'.cell? ⟨w.heap.size,0,none⟩=some (.int .i64 (V:Int))) (λi=>Nat.blt i 6) [(0,true),(1,true),(2,false),(3,false),(4,true),(5,true),(6,false),(7,false)] zk zk rfl zk zc v0 ?_;iterate 2 (refine pT rfl rfl ?_;try simp only[UU])
 have ac2:=Hv;have jE:=Hr;have dK:=Hb;refine aI rfl rfl (λK hK=>?_);go_simp;with_reducible refine(sO.out _ (by first|exact Hb.out|exact Hb.out.drew)).mono ?_
 rintro e w3 ⟨v1,rfl,dv,ahd,hq⟩;have ae:Bw w2 w3:=by first|exact hq|exact aV hq
 clear v0 r0 ai r1 aj;replace Hv:=kB Hv ae;replace Hr:=kB Hr ae;have v0:=Hv.out.c1;obtain⟨r0,ai,r1,aj⟩:=Hr.out.g2;replace Hb:=az Hb ae;clear ae;refine hK _ _ (λ_=>v0) ?_;clear hK K;try simp only[UU]
 refine aI rfl rfl (λK hK=>?_);go_simp;with_reducible refine(iD.out _ _ v1 (by first|exact dK.out|exact dK.out.drew) ahd dv).mono ?_
 rintro e w4 ⟨a2,c2,rfl,dP,hq⟩;have ae:Bw w2 w4:=by first|exact hq|exact aV hq
 clear v0 r0 ai r1 aj;replace Hv:=ah (ac2.out.below ae);replace Hr:=ah (jE.out.below ae);have v0:=Hv.out.c1;obtain⟨r0,ai,r1,aj⟩:=Hr.out.g2;replace Hb:=ah (aK dK.out ae);clear ae;refine hK _ _ (λ_=>v0) ?_;clear hK K;try simp only[UU]
 iterate 2 (refine pT rfl rfl ?_;try simp only[UU])
 refine aI rfl rfl (λK hK=>?_);go_simp;refine hK _ _ (by first|exact λh=>absurd h zd|exact λ_=>v0|exact λ_=>fF zg v0) ?_;clear hK K;try simp only[UU]
 refine aI rfl rfl (λK hK=>?_);go_simp;refine hK _ _ (λh=>absurd h zd) ?_;clear hK K;try simp only[UU]
 simp only[aZ];go_wp2;refine zG (Hr.out) dP Hb.out zo ?_;intro w9 oz gT jX;obtain⟨p0,p1⟩:=oz.c2;exact bodyPost_ret (v:=.tuple #[.agg #[.int .i64 (V:Int),.slice a2 C.length c2],.int .i64 0]) (by simp[results,Tryz.results94,go_sem,p0,p1]) rfl ⟨_,_,rfl,pY gT (by have:=dK.out.size;exact this),jX⟩
def xg (w:World)(a:Option Addr)(C:List aL):Prop:=C=[]\/∃b o cur,a=some ⟨b,o,none⟩/\w.heap[b]?=some (.cells cur 107)
theorem xg.below {w w':World}{a:Option Addr}{C:List aL}(h:xg w a C)(hb:Bw w w'):xg w' a C:=by
 rcases h with h|⟨b,o,cur,h1,h2⟩
 . exact .inl h
 . exact .inr ⟨b,o,cur,h1,by rw[hb.block b (Array.getElem?_eq_some_iff.1 h2).1];exact h2⟩
theorem xg.off {w:World}{a:Option Addr}{C:List aL}{g:Nat}{cur:Array Value}{t:TypeId}(h:xg w a C)(hg:w.heap[g]?=some (.cells cur t))(ht:t≠107)(i:Nat)(u:Value):xg (w.setCell ⟨g,i,none⟩ u) a C:=by
 rcases h with h|⟨b,o,cur',h1,h2⟩
 . exact .inl h
 . refine .inr ⟨b,o,cur',h1,?_⟩;have hne:b≠g:=λe=>by subst e;rw[hg]at h2;simp at h2;exact ht h2.2
   rw[Below.heap_setCell _ _ _ _ hne];exact h2
def bR (w:World)(a:Option Addr)(c:Nat)(C:List aL):Prop:=At w a (C.flatMap aO)/\Sl a C.length c/\xg w a C
theorem bR.below {w w':World}{a:Option Addr}{c:Nat}{C:List aL}(h:bR w a c C)(hb:Bw w w'):bR w' a c C:=⟨h.1.below hb,h.2.1,h.2.2.below hb⟩
theorem bR.off {w:World}{a:Option Addr}{c:Nat}{C:List aL}{g:Nat}{cur:Array Value}{t:TypeId}(h:bR w a c C)(hg:w.heap[g]?=some (.cells cur t))(ht:t≠107)(i:Nat)(u:Value):bR (w.setCell ⟨g,i,none⟩ u) a c C:=by
 refine⟨?_,h.2.1,h.2.2.off hg ht i u⟩;rcases h.2.2 with h'|⟨b,o,cur',rfl,h2⟩
 . subst h';exact .inl rfl
 . have hne:b≠g:=λe=>by subst e;rw[hg]at h2;simp at h2;exact ht h2.2
   rcases h.1 with h1|⟨b1,o1,e1,hc⟩
   . exact .inl h1
   . simp only[Option.some.injEq,Addr.mk.injEq,and_true]at e1;obtain⟨rfl,rfl⟩:=e1;refine .inr ⟨b,o,rfl,λj hj=>?_⟩;have h9:=hc j hj;rw[List.getElem?_eq_getElem hj]at h9⊢;exact aH (.inl hne) h9
theorem bR.store {w:World}{a:Option Addr}{c b:Nat}{t:TypeId}{C:List aL}{cs:List Value}(h:bR w a c C)(hb:ak w b t cs)(ht:t≠107)(u v:Value):bR ((w.setCell ⟨b,0,none⟩ u).setCell ⟨b,1,none⟩ v) a c C:=
 (h.off hb ht 0 u).off (hb.set 0 u) ht 1 v
theorem Ej {w:World}{base c:Nat}{a:Option Addr}{C:List aL}(h:w.ownsRow base 107 4 (.slice a C.length c) C.length (C.flatMap aO)):bR w a c C:=by
 obtain⟨a',c',hv,hat,_⟩:=dG h;have hs:=sD h;simp only[Value.slice.injEq,true_and]at hv;obtain⟨rfl,rfl⟩:=hv;refine⟨hat,hs,?_⟩;rcases h.2 with⟨_,h2⟩ |⟨g,cap,cur,hv,hb,hg,_⟩
 . exact .inl (List.length_eq_zero_iff.1 h2)
 . simp only[Value.slice.injEq,true_and]at hv;exact .inr ⟨g,0,cur,hv.1,hg⟩
theorem aae (V:Nat):((List.range V).map λ_=>UInt8.ofNat 0)=mS V:=by
 unfold mS;apply List.ext_getElem
 . simp
 . intro i h1 h2;simp
theorem Xy (V:Nat)(D:Dyadic)(x:Raw)(l:Nat->Dyadic)(h:aC x=D):bF [(mS V,x)]=dD V D l 0:=by unfold dD;refine zI (λm=>?_);simp only[iA,List.range_zero,List.map_nil,cj,bP,h]
theorem Ta (V:Nat)(s:Bool)(m:List UInt8)(e:Int)(D:Dyadic)(B:Nat)(l:Nat->Dyadic)(w:World)(hV:V<=12)(hf:Fit B (s,m,e))(hB:B+3<=268435456)(hT:aF w)(hD:aC (s,m,e)=D):
 Calls Tryz.prog 57 #[.int .i64 (V:Int),.agg #[.bool s,.string (bs m),.int .i64 e]] w λex w'=>∃a' c',ex=.returned (.tuple #[.agg #[.int .i64 (V:Int),.slice a' (dD V D l 0).length c'],.int .i64 0])/\bR w' a' c' (dD V D l 0)/\Bw w w':=by
 have hC:=Xy V D (s,m,e) l hD;obtain⟨C,zR⟩:=aB (dD V D l 0);rw[zR]at hC⊢;have hmk:=λW (hW:Bw w W) b (hb:ak W b 107 [.string (bs (mS V)),.bool s,.string (bs m),.int .i64 e])=>XQ V (some ⟨b,0,none⟩) 1 1 [(mS V,(s,m,e))] B W hV rfl zo (Sl.some _ _ _ (Nat.le_refl _)) (At.aqS hb) (by intro t ht;simp at ht;subst ht;exact aad V) (by intro t ht;simp at ht;subst ht;simp[mS];omega) (by intro t ht;simp at ht;subst ht;exact hf) zo (hT.below hW);rw[hC]at hmk;have qZ:=λW=>Gm (V:Int) W;have hd:decide (0<=(V:Int)/\(V:Int)<=12)=true:=by simp;omega
 rw[hd]at qZ;have hmb:=λW=>rB (V:Int) V rfl zo W;have hcv:∀W b,Hid (ak W b 5 (cK V λ_=>0))->(convert 111 9 (.slice (some ⟨b,0,none⟩) V V)).run Tryz.prog W=.ok (.string (bs (mS V))) W:=λW b h=>by rw[<-aae];exact wm h.out V
 obtain⟨mY,BK⟩:=aM hmk qZ;clear hmk qZ hd hC zR hT hf hD;have Hb:Hid (Bw w w):=Below.refl _ _;go_enter Tryz.func57,Tryz.ntmps57;go_wp2_with fail;obtain⟨R,hR⟩:∃R:World->Prop,(λW=>ak W (w.heap.size) 30 [.bool s,.string (bs m),.int .i64 e]/\ak W (w.heap.size+1) 57 [.int .i64 0,.slice none 0 0]/\Bw w W)=R:=⟨_,rfl⟩;first|refine bN R ?hR ?_|refine bL R ?hR ?_
 case hR=>subst hR;exact⟨((ak.newAt w _ _ (b:=w.heap.size) rfl).alloc _),(ak.newAt (w.alloc _) _ _ (b:=w.heap.size+1) zm),(zl.alloc zj _)⟩
 subst hR;rintro W ⟨qc,qr,ae⟩;have Hc:=ah qc;clear qc;have Hr:=ah qr;clear qr;obtain⟨c0,c1,c2⟩:=Hc.out.c3;obtain⟨r0,ai,r1,aj⟩:=Hr.out.g2;replace Hb:=az Hb ae;clear ae;go_wp2_with fail;refine(BK.out _).mono ?_;rintro e w1 ⟨rfl,ae⟩;clear c0 c1 c2 r0 ai r1 aj;replace Hc:=kB Hc ae;replace Hr:=kB Hr ae;obtain⟨c0,c1,c2⟩:=Hc.out.c3;obtain⟨r0,ai,r1,aj⟩:=Hr.out.g2;replace Hb:=az Hb ae;clear ae;go_wp2_with fail;refine bM (λw'=>w'.cell? ⟨w.heap.size,0,none⟩=some (.bool s)/\w'.cell? ⟨w.heap.size,1,none⟩=some (.string (bs m))/\w'.cell? ⟨w.heap.size,2,none⟩=some (.int .i64 e)) (λi=>Nat.blt i 10) [(0,true),(1,true),(4,true),(2,false),(3,false),(5,true),(6,false),(7,false),(8,true),(9,true),(10,false),(11,false)] zk zk rfl zk zc ⟨c0,c1,c2⟩ ?_;iterate 3 (refine pT rfl rfl ?_ (by intro w' ⟨q0,q1,q2⟩;go_simp;try with_reducible rfl);try simp only[UU])
 refine aI rfl rfl (λK hK=>?_);go_simp;refine hK _ _ (λ_=>⟨aJ c0,aJ c1,aJ c2⟩) ?_;clear hK K;try simp only[UU]
 refine bO (λW3=>ak W3 (w1.heap.size) 5 (cK V (λ_=>0))/\Bw w1 W3) (by first|exact dU|exact dV) ?_;rintro W3 ⟨qq,ae⟩;clear c0 c1 c2 r0 ai r1 aj;have Oh:=Hc.out.lt;have Ed:=Hr.out.lt;replace Hc:=kB Hc ae;replace Hr:=kB Hr ae;have Hq:=ah qq;clear qq;obtain⟨c0,c1,c2⟩:=Hc.out.c3;obtain⟨r0,ai,r1,aj⟩:=Hr.out.g2;replace Hb:=az Hb ae;clear ae;refine aI rfl rfl (λK hK=>?_);go_simp;refine hK _ _ (λ_=>⟨c0,c1,c2⟩) ?_;clear hK K;try simp only[UU]
 refine pT rfl rfl ?_;try simp only[UU]
 refine aI rfl rfl (λK hK=>?_);go_simp;refine hK _ _ (λ_=>⟨aJ c0,aJ c1,aJ c2⟩) ?_;clear hK K;try simp only[UU]
 refine bO (λW4=>ak W4 (W3.heap.size) 107 [.string (bs (mS V)),.bool s,.string (bs m),.int .i64 e]/\Bw W3 W4) (by first|exact dU|exact dV) ?_;rintro W4 ⟨qz,ae⟩;clear c0 c1 c2 r0 ai r1 aj;have XL:=Hc.out.lt;have XM:=Hr.out.lt;have ajf:=Hq.out.lt;replace Hc:=kB Hc ae;replace Hr:=kB Hr ae;replace Hq:=kB Hq ae;have Hz:=ah qz;clear qz;obtain⟨c0,c1,c2⟩:=Hc.out.c3;obtain⟨r0,ai,r1,aj⟩:=Hr.out.g2;obtain⟨z0,z1,z2,z3⟩:=Hz.out.c4;replace Hb:=az Hb ae;clear ae;refine aI rfl rfl (λK hK=>?_);go_simp;with_reducible refine(mY.out _ Hb.out _ Hz.out).mono ?_
 rintro e w5 ⟨a2,d2,rfl,dP,hq⟩;have ae:Bw W4 w5:=by first|exact hq|exact aV hq
 clear c0 c1 c2 r0 ai r1 aj z0 z1 z2 z3;replace Hc:=kB Hc ae;replace Hr:=kB Hr ae;replace Hq:=kB Hq ae;replace Hz:=kB Hz ae;obtain⟨c0,c1,c2⟩:=Hc.out.c3;obtain⟨r0,ai,r1,aj⟩:=Hr.out.g2;obtain⟨z0,z1,z2,z3⟩:=Hz.out.c4;replace Hb:=az Hb ae;clear ae;refine hK _ _ (λ_=>⟨c0,c1,c2⟩) ?_;clear hK K;try simp only[UU]
 iterate 2 (refine pT rfl rfl ?_;try simp only[UU])
 refine aI rfl rfl (λK hK=>?_);go_simp;refine hK _ _ (by first|exact λh=>absurd h zd|exact λ_=>⟨c0,c1,c2⟩ |exact λ_=>⟨(by first|exact c0|exact aH zf c0|exact aH zf (aH zf c0) |exact aH zf (aH zf (aH zf c0))),(by first|exact c1|exact aH zf c1|exact aH zf (aH zf c1) |exact aH zf (aH zf (aH zf c1))),(by first|exact c2|exact aH zf c2|exact aH zf (aH zf c2) |exact aH zf (aH zf (aH zf c2)))⟩) ?_;clear hK K;try simp only[UU]
 refine aI rfl rfl (λK hK=>?_);go_simp;refine hK _ _ (λh=>absurd h zd) ?_;clear hK K;try simp only[UU]
 simp only[aZ];go_wp2;refine zG (Hr.out) dP Hb.out zo ?_;intro w9 oz gT jX;obtain⟨p0,p1⟩:=oz.c2;exact bodyPost_ret (v:=.tuple #[.agg #[.int .i64 (V:Int),.slice a2 C.length d2],.int .i64 0]) (by simp[results,Tryz.results57,go_sem,p0,p1]) rfl ⟨_,_,rfl,Ej gT,jX⟩
theorem ZL (V k:Nat):((List.range V).map λj=>UInt8.ofNat (if j=k then 1 else 0))=cL V k:=by
 unfold cL;apply List.ext_getElem
 . simp
 . intro i h1 h2;rw[List.getElem_map,List.getElem_range,List.getElem_set];by_cases h:k=i
   . subst h;simp
   . rw[if_neg (λe=>h e.symm),if_neg h];simp
theorem amP :Fit 1 (canon (1:Dyadic)):=Sm.one.fit zd
theorem amS (V k:Nat)(w:World)(hV:V<=12)(hk:k<V)(hT:aF w):
 Calls Tryz.prog 95 #[.int .i64 (V:Int),.int .i64 (k:Int)] w λex w'=>∃a' c',ex=.returned (.tuple #[.agg #[.int .i64 (V:Int),.slice a' (bF [(cL V k,canon 1)]).length c'],.int .i64 0])/\bR w' a' c' (bF [(cL V k,canon 1)])/\Bw w w':=by
 obtain⟨C,hC⟩:=aB (bF [(cL V k,canon 1)]);rw[hC];obtain⟨O,hO⟩:∃O:Dyadic,(1:Dyadic)=O:=⟨_,rfl⟩;have hmk:=λW (hW:Bw w W) b (hb:ak W b 107 [.string (bs (cL V k)),.bool (ar (dN O)),.string (bs (nt (dN O).natAbs)),.int .i64 (dE O)])=>XQ V (some ⟨b,0,none⟩) 1 1 [(cL V k,canon 1)] 1 W hV rfl zo (Sl.some _ _ _ (Nat.le_refl _)) (by rw[hO];exact At.aqS hb) (by intro t ht;simp at ht;subst ht;exact PU V k) (by intro t ht;simp at ht;subst ht;simp[cL];omega) (by intro t ht;simp at ht;subst ht;exact amP) zo (hT.below hW);rw[hC]at hmk;have hof:=λW (hW:Bw w W)=>Ge 1 O hO W zd (hT.below hW);have qZ:=λW=>Gm (V:Int) W;have hd:decide (0<=(V:Int)/\(V:Int)<=12)=true:=by simp;omega
 rw[hd]at qZ;have hmb:=λW=>rB (V:Int) V rfl zo W;have hcv:∀W b,Hid (ak W b 5 (cK V λj=>if j=k then 1 else 0))->(convert 111 9 (.slice (some ⟨b,0,none⟩) V V)).run Tryz.prog W=.ok (.string (bs (cL V k))) W:=λW b h=>by rw[<-ZL V k];exact wm h.out V
 have bE:=λb=>vJ V V k (k:Int) (rfl:(some ⟨b,0,none⟩:Option Addr)=_) hk rfl;simp only[Nat.zero_add,Nat.mul_one]at bE;have hget:(cK V λ_=>0)[k]?=some (.int .u8 0):=kY _ _ _ hk;have kg:(cK V λ_=>0).set k (.int .u8 1)=cK V λj=>if j=k then 1 else 0:=yL V _ k 1
 obtain⟨mY,oV,BK⟩:=cX hmk hof qZ;clear hmk hof qZ hd hC hT hO;have Dn:¬(k:Int)<0:=by omega
 have Hb:Hid (Bw w w):=Below.refl _ _;go_enter Tryz.func95,Tryz.ntmps95;go_wp2_with fail;obtain⟨R,hR⟩:∃R:World->Prop,(λW=>ak W (w.heap.size) 57 [.int .i64 0,.slice none 0 0]/\Bw w W)=R:=⟨_,rfl⟩;first|refine bN R ?hR ?_|refine bL R ?hR ?_
 case hR=>subst hR;exact⟨(ak.newAt w _ _ (b:=w.heap.size) rfl),zl⟩
 subst hR;rintro W ⟨qr,ae⟩;have Hr:=ah qr;clear qr;obtain⟨r0,ai,r1,aj⟩:=Hr.out.g2;replace Hb:=az Hb ae;clear ae;go_wp2_with fail;refine(BK.out _).mono ?_;rintro e w1 ⟨rfl,ae⟩;clear r0 ai r1 aj;replace Hr:=kB Hr ae;obtain⟨r0,ai,r1,aj⟩:=Hr.out.g2;replace Hb:=az Hb ae;clear ae;go_wp2_with fail;obtain⟨R,hR⟩:∃R:World->Prop,(λW3=>ak W3 w1.heap.size 5 (cK V λj=>if j=k then 1 else 0)/\Bw w1 W3)=R:=⟨_,rfl⟩;first|refine bN R ?hR ?_|refine bL R ?hR ?_
 case hR=>subst hR;exact⟨ak.newAt w1 _ _ (b:=w1.heap.size) rfl,zl⟩
 subst hR;intro W3 ⟨qm,ae⟩;clear r0 ai r1 aj;replace Hr:=kB Hr ae;obtain⟨r0,ai,r1,aj⟩:=Hr.out.g2;replace Hb:=ah (aK Hb.out ae);have Hm:=ah qm;clear qm ae hget kg bE hmb;have mf:∀w',gN W3 w'->(convert 111 9 (.slice (some ⟨w1.heap.size,0,none⟩) V V)).run Tryz.prog w'=.ok (.string (bs (cL V k))) w':=λw' h=>hcv w' _ (ah (Hm.out.below h));have aN:Hid (gN W3 W3):=Below.refl _ _;refine bM (λw'=>gN W3 w') (λi=>Nat.blt i 9) [(0,true),(1,true),(2,true),(3,false),(4,true),(5,false),(6,false),(7,true),(8,true),(9,false),(10,false)] zk zk rfl zk zc aN.out.drew ?_;iterate 3 (refine OO rfl rfl (v:=?_) (λw' hw'=>?_) ?_;rotate_left;(focus have hw':=mf w' hw';go_simp;try with_reducible rfl);try simp only[UU])
 refine aI rfl rfl (λK hK=>?_);go_simp;with_reducible refine(oV.out _ (by first|exact Hb.out|exact Hb.out.drew)).mono ?_
 rintro e w4 ⟨rfl,hq⟩;have ae:Bw W3 w4:=by first|exact hq|exact aV hq
 clear r0 ai r1 aj;replace aN:=ah (aN.out.below ae);replace Hr:=kB Hr ae;obtain⟨r0,ai,r1,aj⟩:=Hr.out.g2;replace Hb:=az Hb ae;clear ae;refine hK _ _ (λ_=>aN.out) ?_;clear hK K;try simp only[UU]
 refine pT rfl rfl ?_;try simp only[UU]
 refine aI rfl rfl (λK hK=>?_);go_simp;refine hK _ _ (λ_=>by first|exact aN.out.alloc _|exact(aN.out.alloc _).drew|exact(aN.out.drew).alloc _) ?_;clear hK K;try simp only[UU]
 refine bO (λW5=>ak W5 (w4.heap.size) 107 [.string (bs (cL V k)),.bool (ar (dN O)),.string (bs (nt (dN O).natAbs)),.int .i64 (dE O)]/\Bw w4 W5) (by first|exact dU|exact dV) ?_;rintro W5 ⟨qz,ae⟩;clear r0 ai r1 aj;have IE:=Hr.out.lt;replace aN:=ah (aN.out.below ae);replace Hr:=kB Hr ae;have Hz:=ah qz;clear qz;obtain⟨r0,ai,r1,aj⟩:=Hr.out.g2;obtain⟨z0,z1,z2,z3⟩:=Hz.out.c4;replace Hb:=az Hb ae;clear ae;refine aI rfl rfl (λK hK=>?_);go_simp;with_reducible refine(mY.out _ Hb.out _ Hz.out).mono ?_
 rintro e w6 ⟨a2,d2,rfl,dP,hq⟩;have ae:Bw W5 w6:=by first|exact hq|exact aV hq
 clear r0 ai r1 aj z0 z1 z2 z3;replace aN:=ah (aN.out.below ae);replace Hr:=kB Hr ae;replace Hz:=kB Hz ae;obtain⟨r0,ai,r1,aj⟩:=Hr.out.g2;obtain⟨z0,z1,z2,z3⟩:=Hz.out.c4;replace Hb:=az Hb ae;clear ae;refine hK _ _ (λ_=>aN.out) ?_;clear hK K;try simp only[UU]
 iterate 2 (refine pT rfl rfl ?_;try simp only[UU])
 refine aI rfl rfl (λK hK=>?_);go_simp;refine hK _ _ (by first|exact λh=>absurd h zd|exact λ_=>aN.out|exact λ_=>fF zg aN.out) ?_;clear hK K;try simp only[UU]
 refine aI rfl rfl (λK hK=>?_);go_simp;refine hK _ _ (λh=>absurd h zd) ?_;clear hK K;try simp only[UU]
 simp only[aZ];go_wp2;refine zG (Hr.out) dP Hb.out zo ?_;intro w9 oz gT jX;obtain⟨p0,p1⟩:=oz.c2;exact bodyPost_ret (v:=.tuple #[.agg #[.int .i64 (V:Int),.slice a2 C.length d2],.int .i64 0]) (by simp[results,Tryz.results95,go_sem,p0,p1]) rfl ⟨_,_,rfl,Ej gT,jX⟩
theorem XS {l:List UInt8}{V:Nat}(h:gj l (V:Int)=true):l.length=V:=by unfold gj at h;rw[Bool.and_eq_true]at h;have:=h.2;simp at this;omega
def gZ (V B:Nat)(ts:List aL):Prop:=Cm V ts/\∀t∈ts,Fit B t.2
theorem gZ.chk {V B:Nat}{ts:List aL}(h:gZ V B ts):∀t∈ts,t.1.length<=9223372036854775807/\Ok t.2:=λt ht=>⟨by have:=XS (h.1.2.1 t ht);have:=h.1.2.2.2;omega,(h.2 t ht).1⟩
theorem Zc (V:Nat)(a:Option Addr)(cap:Nat)(ts:List aL)(s:Bool)(m:List UInt8)(e:Int)(D:Dyadic)(B:Nat)(w:World)(hp:gZ V B ts)(ha:bR w a cap ts)(hf:Fit B (s,m,e))(hB:2*B+8192<=268435456)(hT:aF w)(hD:aC (s,m,e)=D):
 Calls Tryz.prog 59 #[.agg #[.int .i64 (V:Int),.slice a ts.length cap],.agg #[.bool s,.string (bs m),.int .i64 e]] w λex w'=>∃a' c',ex=.returned (.tuple #[.agg #[.int .i64 (V:Int),.slice a' (bF (dX D ts)).length c'],.int .i64 0])/\bR w' a' c' (bF (dX D ts))/\Bw w w':=by
 obtain⟨n,hn⟩:=aB ts.length;have hnl:n<=4096:=by have:=hp.1.2.2.1;omega
 have hV:V<=12:=hp.1.2.2.2;obtain⟨C,hC⟩:=aB (bF (dX D ts));have fZ:(dX D ts).length=n:=by unfold dX;rw[List.length_map,hn]
 have CV:∀t∈dX D ts,Fit (2*B) t.2:=by intro t ht;unfold dX at ht;obtain⟨x,hx,rfl⟩:=List.mem_map.1 ht;refine Sm.fit ?_ zo;have:=Sm.mul (hp.2 x hx).2 hf.2;rw[hD]at this;exact this.mono zo
 have ez:=λW (hW:Bw w W)=>Yw (V:Int) a cap n ts W hn zo (ha.1.below hW) hp.chk (hT.below hW);rw[Yx hp.1]at ez;have hs:=ha.2.1;rw[hn]at hs;have hcn:=λW (hW:Bw w W)=>(SR a n cap ts W hn zo hs (ha.1.below hW)).mono (λe w' h=>(match h with|⟨v,h1,h2,h3⟩=>⟨v,h1,h2,h3,h3⟩:∃v',e=.returned v'/\w'.ownsRow W.heap.size 107 4 v' n (ts.flatMap aO)/\Bw W w'/\Bw W w'));have hcl:=λw0 W v (hw0:Bw w w0) (hb0:Bw w0 W) (ho:W.ownsRow w0.heap.size 107 4 v n ((dX D ts).flatMap aO))=>Lq (V:Int) v n (dX D ts) C (2*B) w0 W hb0 fZ hnl ho CV zo (hT.below hw0) hC;have eJ:=hp.2;rw[hn,hC];obtain⟨jU,sO,iD,lj,HT,Hn,Hfc,HD⟩:=oI ez hcn hcl eJ hT hn hf hD;clear ez hcn hcl eJ hT hn hf hD hC fZ CV hs ha hp;have Hb:Hid (Bw w w):=Below.refl _ _;go_enter Tryz.func59,Tryz.ntmps59;go_wp2_with fail;obtain⟨R,hR⟩:∃R:World->Prop,(λW=>ak W (w.heap.size) 57 [.int .i64 (V:Int),.slice a n cap]/\ak W (w.heap.size+1) 30 [.bool s,.string (bs m),.int .i64 e]/\ak W (w.heap.size+1+1) 57 [.int .i64 0,.slice none 0 0]/\Bw w W)=R:=⟨_,rfl⟩;first|refine bN R ?hR ?_|refine bL R ?hR ?_
 case hR=>subst hR;exact⟨(((ak.newAt w _ _ (b:=w.heap.size) rfl).alloc _).alloc _),((ak.newAt (w.alloc _) _ _ (b:=w.heap.size+1) zm).alloc _),(ak.newAt ((w.alloc _).alloc _) _ _ (b:=w.heap.size+1+1) zm),((zl.alloc zj _).alloc zj _)⟩
 subst hR;rintro W ⟨qp,qc,qr,ae⟩;have Hp:=ah qp;clear qp;have Hc:=ah qc;clear qc;have Hr:=ah qr;clear qr;obtain⟨p0,p1⟩:=Hp.out.c2;obtain⟨c0,c1,c2⟩:=Hc.out.c3;obtain⟨r0,ai,r1,aj⟩:=Hr.out.g2;replace Hb:=az Hb ae;clear ae;go_wp2_with fail;refine(jU.out _ Hb.out).mono ?_;rintro e w1 ⟨rfl,ae⟩;clear p0 p1 c0 c1 c2 r0 ai r1 aj;replace Hp:=kB Hp ae;replace Hc:=kB Hc ae;replace Hr:=kB Hr ae;obtain⟨p0,p1⟩:=Hp.out.c2;obtain⟨c0,c1,c2⟩:=Hc.out.c3;obtain⟨r0,ai,r1,aj⟩:=Hr.out.g2;replace Hb:=az Hb ae;clear ae;have BV:=Hp;have yX:=Hc;have jE:=Hr;have dK:=Hb;go_wp2_with fail;refine(sO.out _ Hb.out).mono ?_;rintro e w2 ⟨v1,rfl,dv,uZ,ae⟩;clear p0 p1 c0 c1 c2 r0 ai r1 aj;replace Hp:=kB Hp ae;replace Hc:=kB Hc ae;replace Hr:=kB Hr ae;obtain⟨p0,p1⟩:=Hp.out.c2;obtain⟨c0,c1,c2⟩:=Hc.out.c3;obtain⟨r0,ai,r1,aj⟩:=Hr.out.g2;replace Hb:=az Hb ae;clear ae;obtain⟨a1,d1,rfl,_,_⟩:=dG dv;obtain⟨mz,QM⟩:=aM dv uZ;clear dv uZ;go_wp2_with fail;go_loopw[20] (λx wr=>∃(k:Nat) (C:List aL),k<=n/\x=.int .i64 (k:Int)/\C.length=n/\C.take k=(dX D ts).take k/\C.drop k=ts.drop k/\wr.ownsRow w1.heap.size 107 4 (.slice a1 n d1) n (C.flatMap aO)/\Bw w1 wr) (λx _=>n-(intOf x).toNat);case atStart=>exact⟨0,ts,Nat.zero_le _,rfl,Hn.out,rfl,rfl,mz.out,QM.out⟩
 case round=>
  clear p0 p1 c0 c1 c2 r0 ai r1 aj mz QM Hp Hc Hr Hb;obtain⟨k,C',hk,rfl,hC,htk,hdr,hov,pb⟩:=hrel;obtain⟨Hp,Hc,Hr⟩:=cX (BV.out.below pb) (yX.out.below pb) (jE.out.below pb);have dt:=aK dK.out pb;have yJ:=dK.out.size;by_cases hlt:k<n
  . obtain⟨g,cc,he,hg1,hg2,hg3⟩:=AJ hov zo;simp only[Value.slice.injEq,true_and]at he;obtain⟨rfl,rfl⟩:=he;have tH:k<C'.length:=by omega
    have xN:k<ts.length:=by have:=Hn.out;omega
    have hel:=Tw hdr tH xN;obtain⟨l,s1,q1,e1,hx⟩:∃l s m e,C'[k]=(l,s,m,e):=⟨_,_,_,_,rfl⟩;have dL:=lj.out _ (List.getElem_mem xN);rw[<-hel,hx]at dL;obtain⟨X,hX⟩:=aB (aC (s1,q1,e1) *D);have kg:=XR (λx=>(x.1,canon (aC x.2*D))) ts C' k tH (by rw[hC,Hn.out]) htk hel;have Dg:(C'[k].1,canon (aC C'[k].2*D))=(l,canon X):=by rw[hx,<-hX]
    have WG:(C'.set k (l,canon X)).take (k+1)=(dX D ts).take (k+1):=by rw[<-Dg];exact kg
    have jY:C'[k].1=l:=by rw[hx]
    obtain⟨_,y1,y2,y3⟩:=(IR hov k tH hx).w4;have hd2:C'.drop (k+1)=ts.drop (k+1):=by rw[<-List.drop_drop,<-List.drop_drop,hdr]
    have bE:=jO n d1 k (k:Int) (rfl:(some ⟨g,0,none⟩:Option Addr)=_) hlt rfl;rw[Nat.zero_add]at bE;have Hz:Hid (bB wr g (k*4+1) [.bool s1,.string (bs q1),.int .i64 e1]):=iB y1 y2 y3;have HX:Hid (aC (s1,q1,e1) *aC (s,m,e)=X):=by show _=_;rw[HD.out];exact hX
    obtain⟨cM,aQ,KH,uA,HC,JO,iT,wF⟩:=oI hov pb WG hd2 hC jY dL (HT.out.below dt);have gm:=pb.size;clear hov pb kg WG hd2 hC htk hdr hel hx hX Dg jY dL xN y1 y2 y3 dt BV yX jE Hp Hr;have Hb:Hid (Bw wr wr):=Below.refl _ _;go_wp2_with fail;obtain⟨c0,c1,c2⟩:=Hc.out.c3;obtain⟨z0,z1,z2⟩:=Hz.out.w3;have HU:Hid (aF wr):=wF.out;refine bM (λw'=>w'.cell? ⟨w.heap.size+1,0,none⟩=some (.bool s)/\w'.cell? ⟨w.heap.size+1,1,none⟩=some (.string (bs m))/\w'.cell? ⟨w.heap.size+1,2,none⟩=some (.int .i64 e)/\w'.cell? ⟨g,k*4+1,none⟩=some (.bool s1)/\w'.cell? ⟨g,k*4+1+1,none⟩=some (.string (bs q1))/\w'.cell? ⟨g,k*4+1+2,none⟩=some (.int .i64 e1)) (λi=>Nat.blt i 12) [(0,true),(1,true),(2,true),(3,true),(4,true),(5,true),(6,true),(7,true),(8,false),(9,false),(10,true),(11,true),(12,false)] zk zk rfl zk zc ⟨c0,c1,c2,z0,z1,z2⟩ ?_;iterate 8 (refine pT rfl rfl ?_ (by intro w' ⟨q0,q1,q2,q3,q4,q5⟩;go_simp;try with_reducible rfl);try simp only[UU])
    refine aI rfl rfl (λK hK=>?_);go_simp;refine hK _ _ (λ_=>⟨aJ c0,aJ c1,aJ c2,aJ z0,aJ z1,aJ z2⟩) ?_;clear hK K;try simp only[UU]
    refine bO (λW4=>ak W4 (wr.heap.size) 30 [.bool s1,.string (bs q1),.int .i64 e1,.bool s,.string (bs m),.int .i64 e]/\Bw wr W4) (by first|exact dU|exact dV) ?_;rintro W4 ⟨qv,ae⟩;clear c0 c1 c2 z0 z1 z2;have XL:=Hc.out.lt;replace Hc:=kB Hc ae;replace Hz:=kW Hz ae;replace HU:=kT HU ae;have Hv:=ah qv;clear qv;obtain⟨c0,c1,c2⟩:=Hc.out.c3;obtain⟨z0,z1,z2⟩:=Hz.out.w3;obtain⟨v0,v1,v2,v3,v4,v5⟩:=Hv.out.c6;replace Hb:=az Hb ae;clear ae;refine aI rfl rfl (λK hK=>?_);go_simp;with_reducible refine(Cx s1 q1 e1 s m e X B HX.out wr.heap.size _ 30 _ iT.out Hfc.out zo Hv.out (by first|exact HU.out|exact aF.drew HU.out|exact aF.alloc HU.out _|exact aF.drew (aF.alloc HU.out _) |exact aF.alloc (aF.drew HU.out) _)).mono ?_
    rintro e w5 ⟨rfl,hq⟩;have ae:Bw W4 w5:=by first|exact hq|exact aV hq
    clear c0 c1 c2 z0 z1 z2 v0 v1 v2 v3 v4 v5;replace Hc:=kB Hc ae;replace Hz:=kW Hz ae;replace HU:=kT HU ae;replace Hv:=kB Hv ae;obtain⟨c0,c1,c2⟩:=Hc.out.c3;obtain⟨z0,z1,z2⟩:=Hz.out.w3;obtain⟨v0,v1,v2,v3,v4,v5⟩:=Hv.out.c6;replace Hb:=az Hb ae;clear ae;refine hK _ _ (λ_=>⟨c0,c1,c2,z0,z1,z2⟩) ?_;clear hK K;try simp only[UU]
    iterate 2 (refine pT rfl rfl ?_;try simp only[UU])
    refine aI rfl rfl (λK hK=>?_);have iM:=ownsRow_below cM.out Hb.out;have iI:=mM iM (k*4+1);have nV:=mM iM (k*4+1+1);have TM:=mM iM (k*4+1+2);have dA:=aK aQ.out Hb.out;obtain⟨wQ,fB⟩:=aM iM dA;clear iM dA;go_simp;refine hK _ _ (λh=>absurd h zd) ?_;clear hK K;try simp only[UU]
    simp only[aZ];go_wp2;refine⟨⟨k+1,C'.set k (l,canon X),by omega,by go_num,by rw[List.length_set];exact HC.out,KH.out,by rw[LC _ _ _ _ zo];exact uA.out,?_,?_⟩,by simp[intOf];omega⟩
    . have h:=Yq wQ.out k tH (ar (dN X)) (nt (dN X).natAbs) (dE X);rw[JO.out]at h;exact h
    . exact((fB.out.setCell hg1 _).setCell hg1 _).setCell hg1 _
  . obtain rfl:k=n:=by omega
    have CI:C'=dX D ts:=by rw[List.take_of_length_le zo,List.take_of_length_le (by unfold dX;rw[List.length_map];have:=Hn.out;omega)]at htk;exact htk
    rw[CI]at hov;obtain⟨cM,aQ⟩:=aM hov pb;have Hb:Hid (Bw w wr):=dt;clear hov pb htk hdr hC CI dt;obtain⟨p0,p1⟩:=Hp.out.c2;obtain⟨r0,ai,r1,aj⟩:=Hr.out.g2;go_wp2_with fail;refine(iD.out w1 _ _ dK.out aQ.out cM.out).mono ?_;rintro e w6 ⟨a2,d2,rfl,dP,ae⟩;clear p0 p1 r0 ai r1 aj;replace Hp:=ah (BV.out.below ae);replace Hr:=ah (jE.out.below ae);obtain⟨p0,p1⟩:=Hp.out.c2;obtain⟨r0,ai,r1,aj⟩:=Hr.out.g2;replace Hb:=ah (aK dK.out ae);clear ae;go_wp2;refine zG (Hr.out) dP Hb.out zo ?_;intro w9 oz gT jX;obtain⟨q0,q1⟩:=oz.c2;exact bodyPost_ret (v:=.tuple #[.agg #[.int .i64 (V:Int),.slice a2 C.length d2],.int .i64 0]) (by simp[results,Tryz.results59,go_sem,q0,q1]) rfl ⟨_,_,rfl,Ej gT,jX⟩
def ic (w:World)(V B:Nat)(ps:List Pv)(Ts:Nat->List aL):Prop:=∀k (h:k<ps.length),∃a c,ps[k]=⟨(V:Int),a,(Ts k).length,c⟩/\bR w a c (Ts k)/\gZ V B (Ts k)
theorem ic.below {w w':World}{V B:Nat}{ps:List Pv}{Ts:Nat->List aL}(h:ic w V B ps Ts)(hb:Bw w w'):ic w' V B ps Ts:=λk hk=>by obtain⟨a,c,h1,h2,h3⟩:=h k hk;exact⟨a,c,h1,h2.below hb,h3⟩
theorem below_drewN {n:Nat}{w w':World}(h:Below n w w')(k:Nat):Below n w (w'.drewN k):=by
 induction k with
 |zero=>exact h
 |succ k ih=>exact ih.drew
theorem aiM (V V':Int)(aT:Option Addr)(nT cT:Nat)(bl:Nat)(b o L cap:Nat)(q:Value)(w:World)(hc:w.cell? ⟨bl,0,none⟩=some (.slice (some ⟨b,o,none⟩) L cap))(hL:0<L)(hw:bB w b o [.int .i64 V,q]):
 Calls Tryz.prog 140 #[.agg #[.int .i64 V',.slice aT nT cT],.pointer (some ⟨bl,0,none⟩)] w λex w'=>ex=.returned (.bool (V' !=V))/\Bw w w':=by
 have bE:=rA L cap 0 0 (rfl:(some ⟨b,o,none⟩:Option Addr)=_) hL rfl;rw[Nat.zero_mul,Nat.add_zero]at bE;have h0:w.cell? ⟨b,o,none⟩=some (.int .i64 V):=by have:=hw.w2.1;exact this
 obtain⟨Hc,H0⟩:=aM hc h0;clear hc h0 hw;obtain⟨W,dw,Hb,Hx⟩:=iP w 57 [.int .i64 V',.slice aT nT cT];obtain⟨x0,x1⟩:=Hx.out.c2;have k1:=cell_later Hb.out Hc.out;have k2:=cell_later Hb.out H0.out;go_enter Tryz.func140,Tryz.ntmps140;go_wp2_with fail;go_quiet (fail)
 go_wp2;refine bodyPost_ret (results_tmp rfl _ _ _) rfl ⟨rfl,(below_drewN Hb.out _)⟩
theorem aiN (V B:Nat)(b o L cap:Nat)(ps:List Pv)(Ts:Nat->List aL)(w:World)(hL:ps.length=L)(GA:0<L)(Mg:L<=65536)(ha:At w (some ⟨b,o,none⟩) (ps.flatMap iR))(hp:ic w V B ps Ts)(hT:aF w):
 Calls Tryz.prog 98 #[.slice (some ⟨b,o,none⟩) L cap] w λe w'=>e=.returned (.int .i64 0)/\Bw w w':=by
 have eg:∀args w,(callFunc 140 args).run Tryz.prog w=.ok (.enter 140 args) w:=enters_of Tryz.func140 zk rfl;have hct:∀W bl,Bw w W->W.cell? ⟨bl,0,none⟩=some (.slice (some ⟨b,o,none⟩) L cap)->Calls Tryz.prog 139 #[.slice (some ⟨b,o,none⟩) L cap,.func (.func 140) #[] #[.pointer (some ⟨bl,0,none⟩)]] W λe w'=>e=.returned (.bool false)/\Bw W w':=by
  intro W bl hW hc;obtain⟨a0,c0,e0,_,_⟩:=hp 0 zo;obtain⟨b',o',hab,cQ⟩:=(ha.below hW).aqV 0 zo e0;simp only[Option.some.injEq,Addr.mk.injEq,and_true]at hab;obtain⟨rfl,rfl⟩:=hab;rw[Nat.zero_mul,Nat.add_zero]at cQ;have h:=afi (some ⟨b,o,none⟩) L cap ps 140 #[.pointer (some ⟨bl,0,none⟩)] (λp=>p.V !=(V:Int)) W hL zo (ha.below hW) eg (λx hx W2 hW2=>by simpa using aiM (V:Int) x.V x.a x.n x.c bl b o L cap _ W2 (cell_later hW2 hc) GA (cQ.below hW2));have hf:(ps.any λp=>p.V !=(V:Int))=false:=by rw[List.any_eq_false];intro p DF;obtain⟨k,hk,rfl⟩:=List.mem_iff_getElem.1 DF;obtain⟨a,c,e1,_,_⟩:=hp k hk;rw[e1];simp
  rwa [hf]at h
 have ez:=λW (hW:Bw w W) k (hk:k<ps.length)=>(show ∃a c,ps[k]=⟨(V:Int),a,(Ts k).length,c⟩/\Calls Tryz.prog 77 #[.agg #[.int .i64 (V:Int),.slice a (Ts k).length c]] W λe w'=>e=.returned (.int .i64 0)/\Bw W w' from by
  obtain⟨a,c,e1,h1,h2⟩:=hp k hk;refine⟨a,c,e1,?_⟩;have h:=Yw (V:Int) a c (Ts k).length (Ts k) W rfl (by have:=h2.1.2.2.1;omega) (h1.1.below hW) h2.chk (hT.below hW)
  rwa [Yx h2.1]at h)
 obtain⟨JM,jU,Ha,HL⟩:=dS hct ez ha hL;clear hct ez ha hL hp hT eg;have hLn:((L:Int)==0)=false:=by simp;omega
 have Hb:Hid (Bw w w):=Below.refl _ _;go_enter Tryz.func98,Tryz.ntmps98;go_wp2_with fail;obtain⟨R,hR⟩:∃R:World->Prop,(λW=>ak W (w.heap.size) 50 [.slice (some ⟨b,o,none⟩) L cap]/\Bw w W)=R:=⟨_,rfl⟩;first|refine bN R ?hR ?_|refine bL R ?hR ?_
 case hR=>subst hR;exact⟨(ak.newAt w _ _ (b:=w.heap.size) rfl),zl⟩
 subst hR;rintro W ⟨ql,ae⟩;have Hl:=ah ql;clear ql;have l0:=Hl.out.c1;replace Hb:=az Hb ae;clear ae;go_loopw[8] (λx wr=>∃k:Nat,k<=L/\x=.int .i64 (k:Int)/\Bw W wr) (λx _=>L-(intOf x).toNat);case atStart=>exact⟨0,Nat.zero_le _,rfl,Below.refl _ _⟩
 case round=>
  clear l0;obtain⟨k,hk,rfl,pb⟩:=hrel;obtain⟨dt,hl,aQ⟩:=cX (aK Hb.out pb) (Hl.out.below pb) pb;clear pb Hb Hl;by_cases hlt:k<L
  . have hk2:k<ps.length:=by rw[HL.out];exact hlt
    obtain⟨a1,c1,e1,hcall⟩:=jU.out wr dt.out k hk2;obtain⟨b',o',hab,cQ⟩:=(Ha.out.below dt.out).aqV k hk2 e1;obtain⟨rfl,rfl⟩:b=b'/\o=o':=by simp at hab;exact hab
    have hcall:=λW (hW:Bw w W)=>(jU.out W hW k hk2);have bE:=rA L cap k (k:Int) (rfl:(some ⟨b,o,none⟩:Option Addr)=_) hlt rfl;obtain⟨nT,xV⟩:=aB ((Ts k).length);have ahh:Hid (∀W,Bw w W->Calls Tryz.prog 77 #[.agg #[.int .i64 (V:Int),.slice a1 nT c1]] W λe w'=>e=.returned (.int .i64 0)/\Bw W w'):=by intro W hW;obtain⟨a2,c2,e2,h2⟩:=hcall W hW;rw[e1]at e2;simp only[Pv.mk.injEq,true_and]at e2;obtain⟨rfl,rfl⟩:=e2;rw[xV]at h2;exact h2
    rw[xV]at cQ;have Hx:Hid (bB wr b (o+k*2) [.int .i64 (V:Int),.slice a1 nT c1]):=cQ;clear cQ hcall hab e1 xV;have Hb:Hid (Bw wr wr):=Below.refl _ _;obtain⟨x0,x1⟩:=Hx.out.w2;have P0:=x0;have P1:=x1;obtain⟨W3,Mu,ae,Hv⟩:=cS wr 57 [.int .i64 (V:Int),.slice a1 nT c1];clear x0 x1;replace Hx:=kW Hx ae;obtain⟨x0,x1⟩:=Hx.out.w2;obtain⟨v0,v1⟩:=Hv.out.c2;replace Hb:=az Hb ae;clear ae;go_wp2_with fail;refine(ahh.out _ (aK dt.out Hb.out)).mono ?_;rintro e w4 ⟨rfl,ae⟩;clear x0 x1 v0 v1;replace Hx:=kW Hx ae;replace Hv:=kB Hv ae;obtain⟨x0,x1⟩:=Hx.out.w2;obtain⟨v0,v1⟩:=Hv.out.c2;replace Hb:=az Hb ae;clear ae;go_wp2;go_roundw;case rel=>exact⟨k+1,by omega,by go_num,aK aQ.out Hb.out⟩
    case measure=>simp[intOf];omega
  . obtain rfl:k=L:=by omega
    have Hb:=dt;have Hl:=hl;have l0:=Hl.out.c1;go_wp2_with fail;refine(JM.out _ _ Hb.out l0).mono ?_;rintro e w6 ⟨rfl,ae⟩;clear l0;replace Hl:=kB Hl ae;have l0:=Hl.out.c1;replace Hb:=az Hb ae;clear ae;go_wp2;go_ret;exact⟨rfl,Hb.out⟩
def iZ (Ts:Nat->List aL):Nat->List aL
 |0=>[]
 |k+1=>gG (iZ Ts k) (Ts k)
def lA (Ts:Nat->List aL):Nat->List aL
 |0=>[]
 |k+1=>lA Ts k++Ts k
theorem ae7 (Ts:Nat->List aL)(k:Nat)(m:List UInt8):cj (iZ Ts k) m=cj (lA Ts k) m:=by
 induction k with
 |zero=>rfl
 |succ k ih=>unfold iZ lA;rw[SX,xm,ih]
theorem XZ (Ts:Nat->List aL)(k:Nat):(iZ Ts k).length<=(lA Ts k).length:=by
 induction k with
 |zero=>exact Nat.le_refl _
 |succ k ih=>unfold iZ lA;have:=XY (iZ Ts k) (Ts k);rw[List.length_append];omega
theorem SP (Ts:Nat->List aL)(j k:Nat)(h:j<=k):(lA Ts j).length<=(lA Ts k).length:=by
 induction k with
 | zero => obtain rfl:j=0:=by omega
           exact Nat.le_refl _
 | succ k ih=>
   by_cases e:j=k+1
   . subst e;exact Nat.le_refl _
   . have:=ih zo;rw[show lA Ts (k+1)=lA Ts k++Ts k from rfl,List.length_append];omega
theorem ajD {B:Nat}(Ts:Nat->List aL)(k:Nat)(h:∀j,j<k->∀t∈Ts j,Fit B t.2)(hB:B+k<=268435456):∀t∈iZ Ts k,Fit (B+k) t.2:=by
 induction k with
 |zero=>intro t ht;cases ht
 |succ k ih=>unfold iZ;have:=XX (B:=B+k) (iZ Ts k) (Ts k) (ih (λj hj=>h j zo) zo) (λt ht=>(h k zo t ht).mono zo) zo;exact this
theorem adx (V B:Nat)(b o L cap:Nat)(ps:List Pv)(Ts:Nat->List aL)(C:List aL)(w:World)(hL:ps.length=L)(GA:0<L)(Mg:L<=65536)(ha:At w (some ⟨b,o,none⟩) (ps.flatMap iR))(hp:ic w V B ps Ts)(hn:(lA Ts L).length<=4096)(hB:B+L+8192<=268435456)(hT:aF w)(hC:bF (lA Ts L)=C):
 Calls Tryz.prog 60 #[.slice (some ⟨b,o,none⟩) L cap] w λex w'=>∃a' c',ex=.returned (.tuple #[.agg #[.int .i64 (V:Int),.slice a' C.length c'],.int .i64 0])/\bR w' a' c' C/\Bw w w':=by
 have CF:=enters_of Tryz.func100 zk rfl;have CE:=enters_of Tryz.func101 zk rfl;have hlk:=λW (hW:Bw w W)=>aiN V B b o L cap ps Ts W hL GA Mg (ha.below hW) (hp.below hW) (hT.below hW);have TY:bF (iZ Ts L)=C:=by rw[<-hC];exact zI (ae7 Ts L)
 have vA:(iZ Ts L).length<=4096:=Nat.le_trans (XZ Ts L) hn;have MP:∀j,j<L->∀t∈Ts j,Fit B t.2:=λj hj=>by obtain⟨a,c,_,_,h⟩:=hp j zo;exact h.2
 have xS:=λk (hk:k<=L)=>ajD (B:=B) Ts k (λj hj=>MP j zo) zo;have hcl:=λw0 W v (hw0:Bw w w0) (hb0:Bw w0 W) (ho:W.ownsRow w0.heap.size 107 4 v (iZ Ts L).length ((iZ Ts L).flatMap aO))=>Lq (V:Int) v _ (iZ Ts L) C (B+L) w0 W hb0 rfl vA ho (xS L (Nat.le_refl _)) zo (hT.below hw0) TY;obtain⟨a0,c0,e0,_,_⟩:=hp 0 zo;obtain⟨b',o',hab,cQ⟩:=ha.aqV 0 zo e0;obtain⟨rfl,rfl⟩:b=b'/\o=o':=by simp at hab;exact hab
 rw[Nat.zero_mul,Nat.add_zero]at cQ;have vr:=rA L cap 0 0 (rfl:(some ⟨b,o,none⟩:Option Addr)=_) GA rfl;rw[Nat.zero_mul,Nat.add_zero]at vr;obtain⟨n0,hn0⟩:=aB ((Ts 0).length);rw[hn0]at cQ;have hlb:b<w.heap.size:=World.block_lt_of_cell? w _ cQ.w2.1;obtain⟨Kf,iD,Hmf,Hp,Ha,HT,HL,JV,JU,BH,Hw,BN⟩:=gh hlk hcl xS hp ha hT hL CF CE MP cQ vr
 have nQ:Hid (∀k,k<L->(iZ Ts k).length<=4096/\(Ts k).length<=4096):=λk hk=>⟨Nat.le_trans (Nat.le_trans (XZ Ts k) (SP Ts k L zo)) hn,by
  have h1:=SP Ts (k+1) L zo
  rw[show lA Ts (k+1)=lA Ts k++Ts k from rfl,List.length_append]at h1;omega⟩
 clear hlk hcl xS hp ha hT hL CF CE MP cQ vr hC TY hn vA hab e0 hn0;have Hb:Hid (Bw w w):=Below.refl _ _;go_enter Tryz.func60,Tryz.ntmps60;go_wp2_with fail;obtain⟨R,hR⟩:∃R:World->Prop,(λW=>ak W (w.heap.size) 57 [.int .i64 0,.slice none 0 0]/\Bw w W)=R:=⟨_,rfl⟩;first|refine bN R ?hR ?_|refine bL R ?hR ?_
 case hR=>subst hR;exact⟨(ak.newAt w _ _ (b:=w.heap.size) rfl),zl⟩
 subst hR;rintro W ⟨qr,ae⟩;have Hr:=ah qr;clear qr;obtain⟨r0,ai,r1,aj⟩:=Hr.out.g2;replace Hb:=az Hb ae;clear ae;go_wp2_with fail;refine(Kf.out _ Hb.out).mono ?_;rintro e w1 ⟨rfl,ae⟩;clear r0 ai r1 aj;replace Hr:=kB Hr ae;obtain⟨r0,ai,r1,aj⟩:=Hr.out.g2;replace Hb:=az Hb ae;clear ae;have jE:=Hr;have dK:=Hb;go_wp2_with fail;go_loopw[5,16] (λs5 x wr=>∃(k:Nat) (v:Value),k<=L/\x=.int .i64 (k:Int)/\v=s5/\wr.ownsRow w1.heap.size 107 4 v (iZ Ts k).length ((iZ Ts k).flatMap aO)/\Bw w1 wr) (λ_ x _=>L-(intOf x).toNat);case atStart=>exact⟨0,_,Nat.zero_le _,rfl,rfl,World.ownsRow_nil _ _ _ _,Below.refl _ _⟩
 case round=>
  clear r0 ai r1 aj Hr Hb;obtain⟨k,v,hk,rfl,rfl,ho,pb⟩:=hrel;have dt:=aK dK.out pb;have yJ:=dK.out.size;have gm:=pb.size;by_cases hlt:k<L
  . have hk2:k<ps.length:=by rw[HL.out];exact hlt
    obtain⟨a1,c1,e1,hpl,hft⟩:=Hp.out k hk2;obtain⟨b',o',hab,cQ⟩:=(Ha.out.below dt).aqV k hk2 e1;obtain⟨rfl,rfl⟩:b=b'/\o=o':=by simp at hab;exact hab
    have bE:=rA L cap k (k:Int) (rfl:(some ⟨b,o,none⟩:Option Addr)=_) hlt rfl;obtain⟨av,cv,rfl,uY,_⟩:=dG ho;have DK:=sD ho;have vt:=nQ.out k hlt;have Vw:=Hmf.out k zo;have Vv:=BH.out k hlt;have hsk:=hpl.2.1;have Hm:Hid (∀W,Bw wr W->Calls Tryz.prog 99 #[.slice av (iZ Ts k).length cv,.slice a1 (Ts k).length c1,.func (.func 100) #[] #[],.func (.func 101) #[] #[]] W λe w'=>∃v',e=.returned v'/\w'.ownsRow w1.heap.size 107 4 v' (iZ Ts (k+1)).length ((iZ Ts (k+1)).flatMap aO)/\Bw W w'):=by intro W hW;refine(XT av _ cv (iZ Ts k) a1 _ c1 (Ts k) (B+L) W rfl rfl DK hsk zo zo (uY.below hW) (hpl.1.below (aK dt hW)) (λt ht=>(Vw t ht).mono zo) (λt ht=>(Vv t ht).mono zo) zo (HT.out.below (aK dt hW))).mono ?_;rintro e w' ⟨v',rfl,h1,h2⟩;exact⟨v',rfl,pY h1 (by have:=hW.size;omega),h2⟩
    obtain⟨nv,pL⟩:=aB ((iZ Ts k).length);obtain⟨nT,xV⟩:=aB ((Ts k).length);rw[pL,xV]at Hm;rw[xV]at cQ;have Hx:Hid (bB wr b (o+k*2) [.int .i64 (V:Int),.slice a1 nT c1]):=cQ;have aQ:=ah pb;rw[pL];clear cQ hab e1 xV pL hpl hft ho uY DK vt Vw Vv hsk pb dt;have Hb:Hid (Bw wr wr):=Below.refl _ _;obtain⟨x0,x1⟩:=Hx.out.w2;have P0:=x0;have P1:=x1;obtain⟨W3,Mu,ae,Hv⟩:=cS wr 57 [.int .i64 (V:Int),.slice a1 nT c1];clear x0 x1;replace Hx:=kW Hx ae;obtain⟨x0,x1⟩:=Hx.out.w2;obtain⟨v0,v1⟩:=Hv.out.c2;replace Hb:=az Hb ae;clear ae;have LJ:=JV.out;have Gj:=JU.out;go_wp2_with fail;refine(Hm.out _ Hb.out).mono ?_;rintro e w4 ⟨v',rfl,Wi,hb4⟩;have dA:=aK aQ.out (aK Hb.out hb4);obtain⟨Ho4,fB⟩:=aM Wi dA;clear LJ Gj Wi dA hb4;go_wp2;go_roundw;case rel=>exact⟨k+1,v',by omega,by go_num,rfl,Ho4.out,fB.out⟩
    case measure=>simp[intOf];omega
  . obtain rfl:k=L:=by omega
    obtain⟨av,cv,rfl,_,_⟩:=dG ho;have Hx:=ah (Hw.out.below dt);have Hb:Hid (Bw w wr):=dt;obtain⟨cM,aQ,Hr⟩:=cX ho pb (jE.out.below pb);have bE:=BN.out;clear ho pb dt;obtain⟨x0,x1⟩:=Hx.out.w2;obtain⟨r0,ai,r1,aj⟩:=Hr.out.g2;have ada:Hid (bB w1 b o [.int .i64 (V:Int),.slice a0 n0 c0]):=Hw.out.below dK.out;go_wp2_with fail;refine(iD.out w1 _ _ dK.out aQ.out cM.out).mono ?_;rintro e w6 ⟨a2,d2,rfl,dP,ae⟩;clear x0 x1 r0 ai r1 aj;replace Hx:=ah (ada.out.below ae);replace Hr:=ah (jE.out.below ae);obtain⟨x0,x1⟩:=Hx.out.w2;obtain⟨r0,ai,r1,aj⟩:=Hr.out.g2;replace Hb:=ah (aK dK.out ae);clear ae;go_wp2;refine zG (Hr.out) dP Hb.out zo ?_;intro w9 oz gT jX;obtain⟨q0,q1⟩:=oz.c2;exact bodyPost_ret (v:=.tuple #[.agg #[.int .i64 (V:Int),.slice a2 C.length d2],.int .i64 0]) (by simp[results,Tryz.results60,go_sem,q0,q1]) rfl ⟨_,_,rfl,Ej gT,jX⟩
end Go.Proofs.YtdaadlblknpipaaGreatDoor
