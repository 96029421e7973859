/- slices.DeleteFunc over terms;poly.sorted. -/
import Derived.Test.YtdaadlblknpipaaGreatDoorZ13
import Derived.Test.YtdaadlblknpipaaGreatDoorZ16
set_option linter.unusedVariables false
set_option linter.unusedSimpArgs false
set_option maxRecDepth 100000
set_option maxHeartbeats 16000000
namespace Go.Proofs.YtdaadlblknpipaaGreatDoor
open Go.RowKit
attribute [local go_sem ↓] Go.wp_at_zero Go.wp_at_succ
theorem ae6 {α:Type}(p:α->Bool)(l:List α)(i:Nat)(hi:i<=l.length)(h:∀j (hj:j<i),p (l[j]'zo)=false):(l.take i).filter (λx=>!p x)=l.take i:=by
 rw[List.filter_eq_self];intro x hx;obtain⟨j,hj,rfl⟩:=List.mem_iff_getElem.1 hx;rw[List.getElem_take];have kO:j<i:=by rw[List.length_take]at hj;omega
 simp[h j kO]
theorem take_set {α:Type}(l:List α)(a:Nat)(x:α)(h:a<l.length):(l.set a x).take (a+1)=l.take a++[x]:=by rw[List.take_succ_eq_append_getElem (by simpa using h),List.getElem_set_self,List.take_set_of_le (Nat.le_refl _)]
theorem Ls {α:Type}(l:List α)(a b:Nat)(x:α)(h:a<b):(l.set a x).drop b=l.drop b:=by rw[List.drop_set];rw[if_pos h]
theorem Tryz.apJ (w:World):(zeroValue 107).run Tryz.prog w=.ok (.agg #[.string ⟨#[]⟩,.bool false,.string ⟨#[]⟩,.int .i64 0]) w:=by kernel_rfl
theorem Tm (ts:List aK)(k:Nat)(hk:k<=ts.length):(ts.flatMap aN).take (k*4)=(ts.take k).flatMap aN:=by
 have e:ts=ts.take k++ts.drop k:=(List.take_append_drop _ _).symm;conv=>lhs;rw[e]
 rw[List.flatMap_append,List.take_left' (by rw[lW,List.length_take,Nat.min_eq_left hk])]
theorem aeo (a:Option Addr)(n cap:Nat)(ts:List aK)(gf:Nat)(p:aK->Bool)(w:World)(hn:ts.length=n)(hl:n<=65536)(ha:At w a (ts.flatMap aN))
 (eg:∀args w,(callFunc gf args).run Tryz.prog w=.ok (.enter gf args) w) (h2:∀x∈ts,p x=false)
 (hcl:∀x∈ts,∀W,Calls Tryz.prog gf #[.agg #[.string (bs x.1),.bool x.2.1,.string (bs x.2.2.1),.int .i64 x.2.2.2]] W λe w'=>e=.returned (.bool (p x))/\Bw W w'):
 Calls Tryz.prog 136 #[.slice a n cap,.func (.func gf) #[] #[]] w λe w'=>e=.returned (.slice a n cap)/\Bw w w':=by
 have bD:=NC a n cap ts gf #[] p w hn zo ha eg (λx hx W _=>by simpa using hcl x hx W);rcases WB p ts 0 with⟨h1,_⟩ |⟨i,hi,_,h3,_⟩
 . rw[h1]at bD;have BJ:=ah bD;clear bD h1 h2 hn hcl eg ha;have Hb:Hid (Bw w w):=Below.refl _ _;go_enter Tryz.func136,Tryz.ntmps136;go_wp2_with fail;refine(BJ.out).mono ?_;rintro e w1 ⟨rfl,ae⟩;replace Hb:=au Hb ae;clear ae;go_wp2;go_ret;exact⟨rfl,Hb.out⟩
 . rw[h2 _ (List.getElem_mem hi)]at h3;cases h3
theorem aen (g n cap base:Nat)(ts:List aK)(gf:Nat)(p:aK->Bool)(w:World)(hn:ts.length=n)(hl:n<=65536)(hn0:0<n)(ho:w.ownsRow base 107 4 (.slice (some ⟨g,0,none⟩) n cap) n (ts.flatMap aN))
 (eg:∀args w,(callFunc gf args).run Tryz.prog w=.ok (.enter gf args) w)
 (hcl:∀x∈ts,∀W,Calls Tryz.prog gf #[.agg #[.string (bs x.1),.bool x.2.1,.string (bs x.2.2.1),.int .i64 x.2.2.2]] W λe w'=>e=.returned (.bool (p x))/\Bw W w'):
 Calls Tryz.prog 136 #[.slice (some ⟨g,0,none⟩) n cap,.func (.func gf) #[] #[]] w λe w'=>∃k,k=(ts.filter λx=>!p x).length/\e=.returned (.slice (some ⟨g,0,none⟩) k cap)/\
  w'.ownsRow base 107 4 (.slice (some ⟨g,0,none⟩) k cap) k ((ts.filter λx=>!p x).flatMap aN)/\w.grownBy w' (some g):=by
 have hat:At w (some ⟨g,0,none⟩) (ts.flatMap aN):=by obtain⟨a,c,hv,hat,_⟩:=di ho;simp only[Value.slice.injEq,true_and]at hv;rw[hv.1];exact hat
 have hcap:=(sJ ho).1;have bD:=NC (some ⟨g,0,none⟩) n cap ts gf #[] p w hn zo hat eg (λx hx W _=>by simpa using hcl x hx W);have hcm:cap<=9223372036854775807:=by
  rcases ho.2 with⟨h1,_⟩ |⟨g',cap',cur,h1,hb,hg,h4,h5,_⟩
  . simp at h1
  . simp only[Value.slice.injEq]at h1;obtain⟨_,_,rfl⟩:=h1;unfold maxLen at h5;omega
 obtain⟨Ho,iG,Hn,qh,fc⟩:=fg ho hcl hn eg hat;clear ho hcl hn eg hat;rcases WB p ts 0 with⟨h1,h2⟩ |⟨i,hi,h1,h2,h3⟩
 . rw[h1]at bD;have hK:(ts.filter λx=>!p x)=ts:=List.filter_eq_self.2 (λx hx=>by simp[h2 x hx]);rw[hK,Hn.out];have BJ:=ah bD;clear bD h1 h2 hK;have Hb:Hid (Bw w w):=Below.refl _ _;go_enter Tryz.func136,Tryz.ntmps136;go_wp2_with fail;refine(BJ.out).mono ?_;rintro e w1 ⟨rfl,ae⟩;replace Hb:=au Hb ae;clear ae;go_wp2;go_ret;exact⟨n,rfl,rfl,ownsRow_below Ho.out Hb.out,Gc _ Hb.out⟩
 . rw[h1,Nat.zero_add]at bD;have hin:i<n:=by rw[<-Hn.out];exact hi
   obtain⟨K,hK⟩:=aB (ts.filter λx=>!p x);rw[hK];have hst:(ts.take (i+1)).filter (λx=>!p x)=ts.take i:=by rw[List.take_succ_eq_append_getElem hi,List.filter_append,ae6 p ts i zo h3];simp[h2]
   have vz:((i:Int)== -1)=false:=by simp
   obtain⟨BJ,HK,cd⟩:=cL bD hK hst;clear bD h1 h2 h3 hK hst;have Hb:Hid (Bw w w):=Below.refl _ _;go_enter Tryz.func136,Tryz.ntmps136;go_wp2_with fail;refine(BJ.out).mono ?_;rintro e w1 ⟨rfl,ae⟩;replace Hb:=au Hb ae;clear ae;go_wp2_with fail;go_loopw[5,6] (λs5 s6 wr=>∃(x y:Nat) (C:List aK),s5=.int .i64 (x:Int)/\s6=.int .i64 (y:Int)/\x<y/\y<=n/\C.length=n/\C.take x=(ts.take y).filter (λx=>!p x)/\C.drop y=ts.drop y/\wr.ownsRow base 107 4 (.slice (some ⟨g,0,none⟩) n cap) n (C.flatMap aN)/\w.grownBy wr (some g)) (λ_ s6 _=>n-(intOf s6).toNat);case atStart=>exact⟨i,i+1,ts,rfl,by go_num,by omega,by omega,Hn.out,cd.out.symm,rfl,ownsRow_below Ho.out Hb.out,Gc _ Hb.out⟩
   case round=>
    clear Hb vz;obtain⟨x,y,C,rfl,rfl,hxy,pI,hC,htk,hdr,hov,hg⟩:=hrel;by_cases hlt:y<n
    . have NA:y<ts.length:=by rw[Hn.out];exact hlt
      have Wu:y<C.length:=by omega
      have hel:C[y]=ts[y]:=by
       have e1:C[y]?=ts[y]?:=by rw[<-Nat.add_zero y,<-List.getElem?_drop,<-List.getElem?_drop,hdr]
       rw[List.getElem?_eq_getElem Wu,List.getElem?_eq_getElem NA]at e1;exact Option.some.inj e1
      obtain⟨l,s,m,e,hx⟩:∃l s m e,ts[y]=(l,s,m,e):=⟨_,_,_,_,rfl⟩;have hw:=IC hov y Wu (hel.trans hx);have hcl:=iG.out _ (List.getElem_mem NA);rw[hx]at hcl;have hnx:(ts.take (y+1)).filter (λx=>!p x)=(ts.take y).filter (λx=>!p x)++if p (l,s,m,e)then[]else[(l,s,m,e)]:=by rw[List.take_succ_eq_append_getElem NA,List.filter_append,hx];by_cases hp:p (l,s,m,e)=true<;>simp[hp]
      have hd2:C.drop (y+1)=ts.drop (y+1):=by rw[<-List.drop_drop,<-List.drop_drop,hdr]
      have bD:=jJ n cap y (y:Int) (rfl:(some ⟨g,0,none⟩:Option Addr)=_) hlt rfl;rw[Nat.zero_add]at bD;obtain⟨hgb,zR⟩:=yl hov;obtain⟨cM,Hg,RB,uE,tE,HC,QD⟩:=pR hov hg htk hd2 hnx hC hcl;have Hz:Hid (aV wr g (y*4) [.string (bs l),.bool s,.string (bs m),.int .i64 e]):=hw;clear hov hg htk hd2 hnx hC hcl hw hdr hel hx;have Hb:Hid (Bw wr wr):=Below.refl _ _;obtain⟨z0,z1,z2,z3⟩:=Hz.out.w4;have P0:=z0;have P1:=z1;have P2:=z2;have P3:=z3;have FW:=qh.out;obtain⟨W4,mF,ae,Hv⟩:=cN wr 107 [.string (bs l),.bool s,.string (bs m),.int .i64 e];clear z0 z1 z2 z3;replace Hz:=kW Hz ae;obtain⟨z0,z1,z2,z3⟩:=Hz.out.w4;obtain⟨v0,v1,v2,v3⟩:=Hv.out.c4;replace Hb:=au Hb ae;clear ae;obtain⟨t,ht⟩:=aB (p (l,s,m,e));rw[ht]at QD tE;clear ht;go_wp2_with fail;refine(QD.out _).mono ?_;rintro e w5 ⟨rfl,ae⟩;clear z0 z1 z2 z3 v0 v1 v2 v3;replace Hz:=kW Hz ae;replace Hv:=kB Hv ae;obtain⟨z0,z1,z2,z3⟩:=Hz.out.w4;obtain⟨v0,v1,v2,v3⟩:=Hv.out.c4;replace Hb:=au Hb ae;clear ae;have iQ:=ownsRow_below cM.out Hb.out;have GG:=grownBy_trans Hg.out (Gc _ Hb.out);clear FW;cases t with
      | true=>
        obtain⟨wR,JO⟩:=aL iQ GG;clear iQ GG;go_wp2;go_roundw;case rel=>exact⟨x,y+1,C,rfl,by go_num,by omega,by omega,HC.out,by rw[tE.out,RB.out];simp,uE.out,wR.out,JO.out⟩
        case measure=>simp[intOf];omega
      | false=>
        have Ny:x<C.length:=by have:=HC.out;omega
        obtain⟨lx,sx,mx,ex,Wp⟩:∃l s m e,C[x]=(l,s,m,e):=⟨_,_,_,_,rfl⟩;obtain⟨u0,u1,u2,u3⟩:=(IC iQ x Ny Wp).w4;have jh:=mM iQ (x*4);have iO:=mM iQ (x*4+1);have oc:=mM iQ (x*4+2);have Tq:=mM iQ (x*4+3);have kN:=jJ n cap x (x:Int) (rfl:(some ⟨g,0,none⟩:Option Addr)=_) zo rfl;rw[Nat.zero_add]at kN;obtain⟨wR,JO,RN⟩:=cL iQ GG Ny;clear iQ GG Wp Ny;go_wp2;refine⟨⟨x+1,y+1,C.set x (l,s,m,e),by go_num,by go_num,by omega,by omega,by rw[List.length_set];exact HC.out,?_,?_,ai7 wR.out x RN.out l s m e,?_⟩,by simp[intOf];omega⟩
        . rw[take_set _ _ _ RN.out,RB.out,tE.out];simp
        . rw[Ls _ _ _ _ zo];exact uE.out
        . exact Gd (Gd (Gd (Gd JO.out _ _) _ _) _ _) _ _
    . obtain rfl:y=n:=by omega
      have hK:C.take x=K:=by rw[htk,<-HK.out,List.take_of_length_le (by rw[Hn.out];exact Nat.le_refl _)]
      have Gl:K.length=x:=by rw[<-hK,List.length_take,hC];omega
      have zX:=Ou hov x zo;rw[Tm C x zo,hK]at zX;obtain⟨w6,anl,Ds,UR⟩:=OS wr 55 107 _ 4 Tryz.underlying55 Tryz.apJ rfl (by intro v hv;simp[Value.cells]at hv;rcases hv with rfl|rfl|rfl|rfl<;>rfl) g x (y-x) cap (cap-x) base (K.flatMap aN) zX zo;have kd:¬cap=x:=by omega
      obtain⟨Ho6,tv,Zy⟩:=cL Ds (grownBy_trans hg UR) Gl;clear htk hdr hC hK Gl zX hov hg Ds UR;go_wp2;go_ret;exact⟨x,Zy.out.symm,rfl,Ho6.out,tv.out⟩
theorem At.first {w:World}{a:Option Addr}{xs:List Value}(h:At w a xs)(k:Nat):At w a (xs.take k):=by
 rcases h with rfl|⟨b,o,rfl,hc⟩
 . exact .inl zm
 . refine .inr ⟨b,o,rfl,λj hj=>?_⟩;rw[List.length_take]at hj;rw[hc j zo,List.getElem?_take_of_lt zo]
def KN (w:World)(a:Option Addr)(n cap:Nat)(ts:List aK)(e:Ending)(w':World):Prop:=
 ∃v',e=.returned v'/\((n<2/\v'=.slice a n cap)\/(2<=n/\w'.ownsRow w.heap.size 107 4 v' (gU ts).length ((gU ts).flatMap aN)))/\Bw w w'
theorem KN.at {w:World}{a:Option Addr}{n cap:Nat}{ts:List aK}{e:Ending}{w':World}(h:KN w a n cap ts e w')(hn:ts.length=n)(hs:Sl a n cap)(ha:At w a (ts.flatMap aN)):
 ∃a' c',e=.returned (.slice a' (gU ts).length c')/\At w' a' ((gU ts).flatMap aN)/\Sl a' (gU ts).length c'/\Bw w w':=by
 obtain⟨v',rfl,h1,hb⟩:=h;rcases h1 with⟨h2,rfl⟩ |⟨h2,ho⟩
 . rw[IP ts zo,hn];exact⟨a,cap,rfl,ha.below hb,hs,hb⟩
 . obtain⟨a',c',rfl,hat,_⟩:=di ho;exact⟨a',c',rfl,hat,sJ ho,hb⟩
theorem akP (n:Nat):∀(a:Option Addr) (cap:Nat) (ts:List aK) (B:Nat) (w:World),ts.length=n->Sl a n cap->n<=65536->At w a (ts.flatMap aN)->(∀t∈ts,Fit B t.2)->B+n+2<=268435456->aF w->
 Calls Tryz.prog 137 #[.slice a n cap,.func (.func 100) #[] #[],.func (.func 101) #[] #[]] w (KN w a n cap ts):=by
 induction n using Nat.strongRecOn with
 | _ n ih=>
   intro a cap ts B w hn hs hl ha hf hB hT;by_cases h2:n<2
   . have h2i:(n:Int)<2:=by omega
     clear ih hn hs ha hf hT;have Hb:Hid (Bw w w):=Below.refl _ _;go_enter Tryz.func137,Tryz.ntmps137;go_wp2;go_ret;exact⟨_,rfl,.inl ⟨h2,rfl⟩,Hb.out⟩
   . obtain⟨k,hk⟩:=aB (n/2);have hk1:1<=k:=by omega
     have hk2:k<n:=by omega
     have Dk:(n:Int)/2=(k:Int):=by omega
     have l1:(ts.take k).length=k:=by rw[List.length_take];omega
     have l2:(ts.drop k).length=n-k:=by rw[List.length_drop];omega
     have hcn:=hs.1;have s1:Sl a k cap:=⟨by omega,hs.2⟩;have s2:Sl (if cap=k then a else a.map (·.add (k*4))) (n-k) (cap-k):=hs.cut zo;have a1:=ha.first (k*4);rw[Tm ts k zo]at a1;have a2:=ha.cut (k:=k) (size:=4) (by rw[lW,hn]) zo hcn;have ed:(ts.flatMap aN).drop (k*4)=(ts.drop k).flatMap aN:=by
      have e:ts=ts.take k++ts.drop k:=(List.take_append_drop _ _).symm;conv=>lhs;rw[e]
      rw[List.flatMap_append,List.drop_left' (by rw[lW,l1])]
     rw[ed]at a2;obtain⟨a',ha'⟩:=aB (if cap=k then a else a.map (·.add (k*4)));rw[ha']at s2 a2;have f1:∀t∈ts.take k,Fit B t.2:=λt ht=>hf t (List.mem_of_mem_take ht);have f2:∀t∈ts.drop k,Fit B t.2:=λt ht=>hf t (List.mem_of_mem_drop ht);have c1:=λW (hW:Bw w W) (CV:aF W)=>(ih k hk2 a cap (ts.take k) B W l1 s1 zo (a1.below hW) f1 zo CV).mono (λe w' h=>h.at l1 s1 (a1.below hW));have c2:=λW (hW:Bw w W) (CV:aF W)=>(ih (n-k) zo a' (cap-k) (ts.drop k) B W l2 s2 zo (a2.below hW) f2 zo CV).mono (λe w' h=>by obtain⟨x1,x2,x3,x4,x5,x6⟩:=h.at l2 s2 (a2.below hW);exact(⟨x1,x2,x3,x4,x5,Nat.le_trans hW.size x6.size,x6,x6⟩:∃a1 c1,e=.returned (.slice a1 (gU (ts.drop k)).length c1)/\At w' a1 ((gU (ts.drop k)).flatMap aN)/\Sl a1 (gU (ts.drop k)).length c1/\w.heap.size<=w'.heap.size/\Bw W w'/\Bw W w'));have g1:=Pn (B:=B) (ts.take k) f1 zo;have g2:=Pn (B:=B) (ts.drop k) f2 zo;have e1:=IM (ts.take k);have e2:=IM (ts.drop k);have hst:gU ts=gQ (gU (ts.take k)) (gU (ts.drop k)):=by rw[Po ts zo,hn,hk]
     obtain⟨L,hL⟩:=aB (gU (ts.take k));obtain⟨R,hR⟩:=aB (gU (ts.drop k));rw[hL]at c1 g1 e1 hst;rw[hR]at c2 g2 e2 hst;have h2i:¬(n:Int)<2:=by omega
     have h2n:2<=n:=by omega
     obtain⟨C1,C2,G1,G2,cd,HT⟩:=gN c1 c2 (λt ht=>(g1 t ht).mono (show B+(ts.take k).length<=B+n by omega)) (λt ht=>(g2 t ht).mono (show B+(ts.drop k).length<=B+n by omega)) hst hT;have Fa:Hid (L.length<=65536/\R.length<=65536):=⟨by omega,by omega⟩;have yQ:=ha';clear ih hn hs ha hf hT a1 a2 s1 s2 f1 f2 c1 c2 g1 g2 e1 e2 hst ed l1 l2 hL hR hk ha';have Hb:Hid (Bw w w):=Below.refl _ _;go_enter Tryz.func137,Tryz.ntmps137;go_wp2_with fail;have hkn:k<=n:=by omega
     have hkc:k<=cap:=by omega
     refine bJ (λw'=>True) (λi=>Nat.blt i 100000) [(0,true),(1,true),(2,true),(3,true),(4,true),(6,true),(7,true),(8,true),(9,true),(10,true),(12,true),(13,true),(5,false),(11,false),(14,false),(15,true)] zk zk rfl zk zc True.intro ?_;iterate 12 (refine pT rfl rfl ?_;try simp only[UU])
     refine aI rfl rfl (λK hK=>?_);go_simp;with_reducible refine(C1.out _ (by first|exact Hb.out|exact Hb.out.drew) (by first|exact(HT.out.below Hb.out) |exact aF.drew (HT.out.below Hb.out) |exact aF.alloc (HT.out.below Hb.out) _|exact aF.drew (aF.alloc (HT.out.below Hb.out) _) |exact aF.alloc (aF.drew (HT.out.below Hb.out)) _)).mono ?_
     rintro e w1 ⟨b1,d1,rfl,gL,hs1,hq⟩;have ae:Bw w w1:=by first|exact hq|exact aM hq
     replace Hb:=au Hb ae;clear ae;refine hK _ _ (λ_=>True.intro) ?_;clear hK K;try simp only[UU]
     refine aI rfl rfl (λK hK=>?_);go_simp;with_reducible refine(C2.out _ (by first|exact Hb.out|exact Hb.out.drew) (by first|exact(HT.out.below Hb.out) |exact aF.drew (HT.out.below Hb.out) |exact aF.alloc (HT.out.below Hb.out) _|exact aF.drew (aF.alloc (HT.out.below Hb.out) _) |exact aF.alloc (aF.drew (HT.out.below Hb.out)) _)).mono ?_
     rintro e w2 ⟨b2,d2,rfl,kK,hs2,agN,ve,hq⟩;have ae:Bw w1 w2:=by first|exact hq|exact aM hq
     replace Hb:=au Hb ae;clear ae;refine hK _ _ (λ_=>True.intro) ?_;clear hK K;try simp only[UU]
     refine aI rfl rfl (λK hK=>?_);go_simp;with_reducible refine(Xk b1 L.length d1 L b2 R.length d2 R (B+n) _ rfl rfl hs1 hs2 Fa.out.1 Fa.out.2 (by first|exact gL.below ve|exact(gL.below ve).drew) (by first|exact kK|exact kK.drew) G1.out G2.out zo (by first|exact(HT.out.below Hb.out) |exact aF.drew (HT.out.below Hb.out) |exact aF.alloc (HT.out.below Hb.out) _|exact aF.drew (aF.alloc (HT.out.below Hb.out) _) |exact aF.alloc (aF.drew (HT.out.below Hb.out)) _)).mono ?_
     rintro e w3 ⟨v',rfl,ho,hq⟩;have ae:Bw w2 w3:=by first|exact hq|exact aM hq
     replace Hb:=au Hb ae;clear ae;refine hK _ _ (λ_=>True.intro) ?_;clear hK K;try simp only[UU]
     refine pT rfl rfl ?_;try simp only[UU]
     simp only[aU];go_wp2;go_ret;exact⟨v',rfl,.inr ⟨h2n,by rw[cd.out];exact pU ho agN⟩,Hb.out⟩
def yX (x:aK):aK:=(x.1,canon (az x.2))
theorem Xi (f:aK->aK)(K C:List aK)(k:Nat)(hk:k<C.length)(hl:C.length=K.length)(ht:C.take k=(K.map f).take k)(hx:C[k]=K[k]'zo):(C.set k (f C[k])).take (k+1)=(K.map f).take (k+1):=by rw[take_set _ _ _ hk,ht,List.take_succ_eq_append_getElem zi,List.getElem_map,hx]
theorem SZ {K C:List aK}{k:Nat}(hd:C.drop k=K.drop k)(h1:k<C.length)(h2:k<K.length):C[k]=K[k]:=by
 have e1:C[k]?=K[k]?:=by rw[<-Nat.add_zero k,<-List.getElem?_drop,<-List.getElem?_drop,hd]
 rw[List.getElem?_eq_getElem h1,List.getElem?_eq_getElem h2]at e1;exact Option.some.inj e1
theorem adN (V:Int)(v:Value)(n:Nat)(ts:List aK)(B:Nat)(w0 w:World)(hb0:Bw w0 w)(hn:ts.length=n)(hl:n<=4096)(ho:w.ownsRow w0.heap.size 107 4 v n (ts.flatMap aN))(hf:∀t∈ts,Fit B t.2)(hB:B+n+2<=268435456)(hT:aF w0):
 Calls Tryz.prog 97 #[.int .i64 V,v] w λe w'=>∃v',e=.returned (.tuple #[.agg #[.int .i64 V,v'],.int .i64 0])/\w'.ownsRow w0.heap.size 107 4 v' (bR ts).length ((bR ts).flatMap aN)/\Bw w0 w':=by
 obtain⟨a,cap,rfl,hat,_⟩:=di ho;have hs:=sJ ho;have GH:=Pn ts hf zo;have hsl:=IM ts;have eg:∀args w,(callFunc 138 args).run Tryz.prog w=.ok (.enter 138 args) w:=enters_of Tryz.func138 zk rfl;obtain⟨S,hS⟩:=aB (gU ts);have c1:∀W,Bw w W->Calls Tryz.prog 137 #[.slice a n cap,.func (.func 100) #[] #[],.func (.func 101) #[] #[]] W λe w'=>∃v1,e=.returned v1/\w'.ownsRow w0.heap.size 107 4 v1 S.length (S.flatMap aN)/\Bw W w':=by
  intro W hW;refine(akP n a cap ts B W hn hs zo (hat.below hW) hf hB (hT.below (aJ hb0 hW))).mono ?_;rintro e w' ⟨v1,rfl,h1,hb⟩;refine⟨v1,rfl,?_,hb⟩;rcases h1 with⟨h2,rfl⟩ |⟨h2,cP⟩
  . rw[<-hS,IP ts zo,hn];exact ownsRow_below ho (aJ hW hb)
  . rw[<-hS];exact pU cP (by have:=hW.size;have:=hb0.size;omega)
 obtain⟨K,hK⟩:=aB (S.filter ic);have Gl:K.length<=4096:=by have:=List.length_filter_le ic S;rw[hK]at this;rw[hS]at hsl;omega
 rw[hS]at GH hsl;have c2:∀W v1,Bw w0 W->W.ownsRow w0.heap.size 107 4 v1 S.length (S.flatMap aN)->Calls Tryz.prog 136 #[v1,.func (.func 138) #[] #[]] W λe w'=>∃v2,e=.returned v2/\w'.ownsRow w0.heap.size 107 4 v2 K.length (K.flatMap aN)/\W.grownBy w' v1.ownBlock:=by
  intro W v1 hW cP;have hcl:∀x∈S,∀W,Calls Tryz.prog 138 #[.agg #[.string (bs x.1),.bool x.2.1,.string (bs x.2.2.1),.int .i64 x.2.2.2]] W λe w'=>e=.returned (.bool (!ic x))/\Bw W w':=λx hx W=>adM x.1 x.2.1 x.2.2.1 x.2.2.2 W (GH x hx).1;by_cases h0:0<S.length
  . obtain⟨g,c,rfl,_,_,_⟩:=vV cP h0;refine(aen g S.length c w0.heap.size S _ (λx=>!ic x) W rfl zo h0 cP eg hcl).mono ?_;rintro e w' ⟨k,hk,rfl,dO,hg2⟩;simp only[Bool.not_not]at hk dO;rw[hK]at hk dO;subst hk;exact⟨_,rfl,dO,hg2⟩
  . have oh:S=[]:=List.eq_nil_of_length_eq_zero zo;obtain⟨a1,c,rfl,gL,_⟩:=di cP;refine(aeo a1 S.length c S _ (λx=>!ic x) W rfl zo gL eg (λx hx=>by rw[oh]at hx;cases hx) hcl).mono ?_;rintro e w' ⟨rfl,hb⟩;have tN:K=S:=by rw[<-hK,oh];rfl
    rw[tN];exact⟨_,rfl,ownsRow_below cP hb,Gc _ hb⟩
 have TM:∀t∈K,Fit (B+ts.length) t.2:=λt ht=>by rw[<-hK]at ht;exact GH t (List.mem_filter.1 ht).1
 have hcl:bR ts=K.map yX:=by unfold bR;rw[hS,hK];rfl
 rw[hcl,List.length_map];have hz:=hb0.size;obtain⟨m,hm⟩:=aB K.length;rw[hm]at Gl c2⊢;obtain⟨Hm,C1,C2,Zx,KG,HT⟩:=gN hm c1 c2 TM hb0 hT;clear c1 c2 hm TM hcl hb0 hT GH hS hK ho hat hs hf eg hsl;have Hb:Hid (Bw w w):=Below.refl _ _;go_enter Tryz.func97,Tryz.ntmps97;go_wp2_with fail;obtain⟨R,hR⟩:∃R:World->Prop,(λW=>ak W (w.heap.size) 57 [.int .i64 0,.slice none 0 0]/\Bw w W)=R:=⟨_,rfl⟩;first|refine bO R ?hR ?_|refine bK R ?hR ?_
 case hR=>subst hR;exact⟨(ak.newAt w _ _ (b:=w.heap.size) rfl),zl⟩
 subst hR;rintro W ⟨qr,ae⟩;have Hr:=ah qr;clear qr;obtain⟨r0,ai,r1,aj⟩:=Hr.out.g2;replace Hb:=au Hb ae;clear ae;go_wp2_with fail;refine(C1.out _ Hb.out).mono ?_;rintro e w1 ⟨v1,rfl,cP,ae⟩;clear r0 ai r1 aj;replace Hr:=kB Hr ae;obtain⟨r0,ai,r1,aj⟩:=Hr.out.g2;replace Hb:=au Hb ae;clear ae;have hw1:=aJ KG.out Hb.out;go_wp2_with fail;refine(C2.out _ v1 hw1 cP).mono ?_;rintro e w2 ⟨v2,rfl,dO,hg2⟩;have hr2:=Hr.out.row zd cP hg2;have hw2:=ada (hg2) (Nat.le_trans hz Hb.out.size) (λg e=>cJ cP g e);obtain⟨RI,tF⟩:=aL (hw1.trans hw2) dO;replace Hr:=ah hr2;clear C1 C2 cP hg2 hw1 hw2 hr2 dO r0 ai r1 aj Hb;have hKi:¬(4096:Int)<(m:Int):=by omega
 obtain⟨a2,cap2,rfl,_,_⟩:=di tF.out;go_wp2_with fail;go_loopw[16] (λx wr=>∃(k:Nat) (C:List aK),k<=m/\x=.int .i64 (k:Int)/\C.length=m/\C.take k=(K.map yX).take k/\C.drop k=K.drop k/\wr.ownsRow w0.heap.size 107 4 (.slice a2 m cap2) m (C.flatMap aN)/\ak wr w.heap.size 57 [.int .i64 0,.slice none 0 0]/\Bw w0 wr) (λx _=>m-(intOf x).toNat);case atStart=>exact⟨0,K,Nat.zero_le _,rfl,Hm.out,rfl,rfl,tF.out,Hr.out,RI.out⟩
 case round=>
  clear Hr tF RI;obtain⟨k,C,hk,rfl,hC,htk,hdr,hov,hr,pb⟩:=hrel;by_cases hlt:k<m
  . obtain⟨g,cc,he,hg1,hg2,hg3⟩:=vV hov zo;simp only[Value.slice.injEq,true_and]at he;obtain⟨rfl,rfl⟩:=he;have tW:k<C.length:=by omega
    have xD:k<K.length:=by have:=Hm.out;omega
    have hel:=SZ hdr tW xD;obtain⟨l,s,q,e,hx⟩:∃l s m e,C[k]=(l,s,m,e):=⟨_,_,_,_,rfl⟩;have eP:=Zx.out _ (List.getElem_mem xD);rw[<-hel,hx]at eP;obtain⟨D,hD⟩:=aB (az (s,q,e));have nD:=Xi yX K C k tW (by rw[hC,Hm.out]) htk hel;have De:yX C[k]=(l,canon D):=by rw[hx,<-hD];rfl
    rw[De]at nD;have kd:C[k].1=l:=by rw[hx]
    have hw:=IC hov k tW hx;have hd2:C.drop (k+1)=K.drop (k+1):=by rw[<-List.drop_drop,<-List.drop_drop,hdr]
    have bD:=jJ m cap2 k (k:Int) (rfl:(some ⟨g,0,none⟩:Option Addr)=_) hlt rfl;rw[Nat.zero_add]at bD;have Hfm:Hid (∀W,aF W->Calls Tryz.prog 69 #[.agg #[.bool s,.string (bs q),.int .i64 e]] W λex w'=>ex=.returned (bC D)/\Bw W w'):=λW CV=>pp s q e D hD W eP.1 CV;obtain⟨cM,aO,Kr,uE,HC,JE,wD⟩:=pR hov pb nD hd2 hC kd (HT.out.below pb);have Hr:Hid (ak wr w.heap.size 57 [.int .i64 0,.slice none 0 0]):=hr;have Hz:Hid (aV wr g (k*4) [.string (bs l),.bool s,.string (bs q),.int .i64 e]):=hw;clear hov pb nD hd2 hC hr hw htk hdr hel hx eP hD De kd xD;have Hb:Hid (Bw wr wr):=Below.refl _ _;obtain⟨z0,z1,z2,z3⟩:=Hz.out.w4;have y2:wr.cell? ⟨g,k*4+1+1,none⟩=some (.string (bs q)):=z2;have y3:wr.cell? ⟨g,k*4+1+2,none⟩=some (.int .i64 e):=z3;go_wp2_with fail;refine(Hfm.out _ wD.out).mono ?_;rintro e w5 ⟨rfl,ae⟩;clear z0 z1 z2 z3;replace Hz:=kW Hz ae;obtain⟨z0,z1,z2,z3⟩:=Hz.out.w4;replace Hb:=au Hb ae;clear ae;have iQ:=ownsRow_below cM.out Hb.out;clear y2 y3;have y2:w5.cell? ⟨g,k*4+1+1,none⟩=some (.string (bs q)):=z2;have y3:w5.cell? ⟨g,k*4+1+2,none⟩=some (.int .i64 e):=z3;have iO:=mM iQ (k*4+1);have oc:=mM iQ (k*4+1+1);have Tq:=mM iQ (k*4+1+2);have hgb:=(yl iQ).2;have nC:=Hr.out.below Hb.out;have dK:=aJ aO.out Hb.out;have MD:g≠w.heap.size:=λe=>nC.not_row zd iQ (by rw[e];rfl);obtain⟨wR,Kk,fL⟩:=cL iQ nC dK;clear iQ nC dK;go_wp2;refine⟨⟨k+1,C.set k (l,canon D),by omega,by go_num,by rw[List.length_set];exact HC.out,Kr.out,by rw[Ls _ _ _ _ zo];exact uE.out,?_,?_,?_⟩,by simp[intOf];omega⟩
    . have h:=XF wR.out k tW (ar (dN D)) (nt (dN D).natAbs) (dE D);rw[JE.out]at h;exact h
    . exact((Kk.out.api _ MD _).api _ MD _).api _ MD _
    . exact((fL.out.setCell zp _).setCell zp _).setCell zp _
  . obtain rfl:k=m:=by omega
    have CJ:C=K.map yX:=by rw[List.take_of_length_le zo,List.take_of_length_le (by rw[List.length_map];have:=Hm.out;omega)]at htk;exact htk
    rw[CJ]at hov;obtain⟨cM,aO⟩:=aL hov pb;have Hr:Hid (ak wr w.heap.size 57 [.int .i64 0,.slice none 0 0]):=hr;clear hov pb hr htk hdr hC CJ;obtain⟨r0,ai,r1,aj⟩:=Hr.out.g2;go_wp2;have hne:=(Hr.out.not_row zd cM.out).symm;have hrs:=Hr.out.lt;refine fF (λw9=>ak w9 w.heap.size 57 [.int .i64 V,.slice a2 k cap2]/\w9.ownsRow w0.heap.size 107 4 (.slice a2 k cap2) k ((K.map yX).flatMap aN)/\Bw w0 w9) ⟨(Hr.out.set 0 _).set 1 _,ownsRow_setCell_other (ownsRow_setCell_other cM.out hne _) hne _,(aO.out.setCell hz _).setCell hz _⟩ ?_;rintro w9 ⟨oF,gy,lI⟩;obtain⟨q0,q1⟩:=oF.c2;exact bodyPost_ret (v:=.tuple #[.agg #[.int .i64 V,.slice a2 k cap2],.int .i64 0]) (by simp[results,Tryz.results97,go_sem,q0,q1]) rfl ⟨_,rfl,gy,lI⟩
theorem Le (V:Int)(v:Value)(n:Nat)(ts C:List aK)(B:Nat)(w0 w:World)(hb0:Bw w0 w)(hn:ts.length=n)(hl:n<=4096)(ho:w.ownsRow w0.heap.size 107 4 v n (ts.flatMap aN))(hf:∀t∈ts,Fit B t.2)(hB:B+n+2<=268435456)(hT:aF w0)(hC:bR ts=C):
 Calls Tryz.prog 97 #[.int .i64 V,v] w λe w'=>∃a c,e=.returned (.tuple #[.agg #[.int .i64 V,.slice a C.length c],.int .i64 0])/\w'.ownsRow w0.heap.size 107 4 (.slice a C.length c) C.length (C.flatMap aN)/\Bw w0 w':=by
 subst hC;refine(adN V v n ts B w0 w hb0 hn hl ho hf hB hT).mono ?_;rintro e w' ⟨v',rfl,h1,h2⟩;obtain⟨a,c,rfl,_,_⟩:=di h1;exact⟨a,c,rfl,h1,h2⟩
theorem ai4 {w W:World}{b base k:Nat}{v x0 x1:Value}{xs:List Value}(hr:ak W b 57 [x0,x1])(ho:W.ownsRow base 107 4 v k xs)(hb:Bw w W)(hbs:w.heap.size<=b)(y0 y1:Value):
 ak ((W.setCell ⟨b,0,none⟩ y0).setCell ⟨b,1,none⟩ y1) b 57 [y0,y1]/\((W.setCell ⟨b,0,none⟩ y0).setCell ⟨b,1,none⟩ y1).ownsRow base 107 4 v k xs/\Bw w ((W.setCell ⟨b,0,none⟩ y0).setCell ⟨b,1,none⟩ y1):=by
 have hne:=(hr.not_row zd ho).symm;exact⟨(hr.set 0 _).set 1 _,ownsRow_setCell_other (ownsRow_setCell_other ho hne _) hne _,(hb.setCell hbs _).setCell hbs _⟩
theorem yV {P:Program}{fn:Func}{R:Ending->World->Prop}{e:Exit}{a:Act}{w W:World}{b base k:Nat}{v x0 x1 y0 y1:Value}{xs:List Value}(hr:ak W b 57 [x0,x1])(ho:W.ownsRow base 107 4 v k xs)(hb:Bw w W)(hbs:w.heap.size<=b)
 (h:∀W',ak W' b 57 [y0,y1]->W'.ownsRow base 107 4 v k xs->Bw w W'->bodyPost P fn R e a W'):bodyPost P fn R e a ((W.setCell ⟨b,0,none⟩ y0).setCell ⟨b,1,none⟩ y1):=by
 obtain⟨h1,h2,h3⟩:=ai4 hr ho hb hbs y0 y1;exact h _ h1 h2 h3
theorem Sy (a:Option Addr)(n cap:Nat)(ts:List aK)(w:World)(hn:ts.length=n)(hl:n<=1048576)(hs:Sl a n cap)(ha:At w a (ts.flatMap aN)):
 Calls Tryz.prog 96 #[.slice a n cap] w λe w'=>∃v',e=.returned v'/\w'.ownsRow w.heap.size 107 4 v' n (ts.flatMap aN)/\Bw w w':=by
 obtain⟨i0,hi,hz0,hz1,hz2⟩:=info_parts Tryz.apr;have q:=λ(w:World) (a:Option Addr) (n c n' c':Nat)=>Lib.run_eql_slice_nil (P:=Tryz.prog) w 55 107 a n c n' c' Tryz.underlying55;have hlen:(ts.flatMap aN).length=n*4:=by rw[iY aN 4 (λ_=>rfl),hn]
 obtain⟨cs,hcs⟩:=aB (ts.flatMap aN);have h1:=sS ts;rw[hcs]at hlen ha h1⊢;obtain⟨nS,Ha,H1,Hs,Hi,cG,cH,cE⟩:=nJ hlen ha h1 hs hi hz0 hz1 hz2;clear hlen ha h1 hs hi hz0 hz1 hz2 hn hcs;cases a with
 | none=>
   have hc:=Hs.out.2 rfl;have hn0:n=0:=by have:=Hs.out.1;omega
   subst hc;subst hn0;go_enter Tryz.func96,Tryz.ntmps96;go_wp2;go_ret;refine⟨_,rfl,?_,Below.refl _ _⟩;have e:cs=[]:=List.eq_nil_of_length_eq_zero (by have:=nS.out;omega);rw[e];exact World.ownsRow_nil _ _ _ _
 |some ad=>go_enter Tryz.func96,Tryz.ntmps96;go_wp2_with (at_builtin;refine oO rfl _ _ 55 rfl w.heap.size 107 i0 _ 4 48 Tryz.underlying55 Hi.out cG.out cH.out cE.out rfl zd _ 0 [] rfl (World.ownsRow_made w #[] 0 (Nat.le_refl _) (Nat.zero_le _) zm) (some ad) n cap cs rfl Hs.out nS.out (Ha.out.below ((Below.refl _ w).alloc (Nat.le_refl _) _)) H1.out zx zo zm ?_;intro v' w1 hown hgrow fy);go_ret;refine⟨v',rfl,by simpa using hown,?_⟩;exact((Below.refl _ w).alloc (Nat.le_refl _) _).grown hgrow zm (λk hk=>by have h9:w.heap.size=k:=Option.some.inj hk;omega)
theorem aic (V:Int)(ts:List aK)(h:∀t∈ts,gA t.1 V=true):(ts.any λt=>!gA t.1 V)=false:=by rw[List.any_eq_false];intro t ht;rw[h t ht];simp
theorem Xh (V:Nat)(a:Option Addr)(n cap:Nat)(ts:List aK)(B:Nat)(w:World)(hV:V<=12)(hn:ts.length=n)(hl:n<=4096)(hs:Sl a n cap)(ha:At w a (ts.flatMap aN))(hm:∀t∈ts,gA t.1 V=true)(hl2:∀t∈ts,t.1.length<=9223372036854775807)
 (hf:∀t∈ts,Fit B t.2) (hB:B+n+2<=268435456) (hT:aF w):
 Calls Tryz.prog 94 #[.int .i64 (V:Int),.slice a n cap] w λe w'=>∃a' c',e=.returned (.tuple #[.agg #[.int .i64 (V:Int),.slice a' (bR ts).length c'],.int .i64 0])/\w'.ownsRow w.heap.size 107 4 (.slice a' (bR ts).length c') (bR ts).length ((bR ts).flatMap aN)/\Bw w w':=by
 have eg:∀args w,(callFunc 135 args).run Tryz.prog w=.ok (.enter 135 args) w:=enters_of Tryz.func135 zk rfl;have hct:∀W bv,Bw w W->W.cell? ⟨bv,0,none⟩=some (.int .i64 (V:Int))->Calls Tryz.prog 134 #[.slice a n cap,.func (.func 135) #[] #[.pointer (some ⟨bv,0,none⟩)]] W λe w'=>e=.returned (.bool false)/\Bw W w':=by intro W bv hW hc;have h:=ad7 a n cap ts 135 #[.pointer (some ⟨bv,0,none⟩)] (λt=>!gA t.1 V) W hn zo (ha.below hW) eg (λx hx W2 hW2=>by simpa using aib x.1 x.2.1 x.2.2.1 x.2.2.2 V bv W2 (cell_later hW2 hc) (hl2 x hx));rwa [aic V ts hm]at h
 obtain⟨C,hC⟩:=aB (bR ts);have hcn:=λW (hW:Bw w W)=>(Sy a n cap ts W hn zo hs (ha.below hW)).mono (λe w' h=>(match h with|⟨v,h1,h2,h3⟩=>⟨v,h1,h2,h3,h3⟩:∃v',e=.returned v'/\w'.ownsRow W.heap.size 107 4 v' n (ts.flatMap aN)/\Bw W w'/\Bw W w'));have hcl:=λw0 W v (hw0:Bw w w0) (hb0:Bw w0 W) (ho:W.ownsRow w0.heap.size 107 4 v n (ts.flatMap aN))=>Le (V:Int) v n ts C B w0 W hb0 hn hl ho hf hB (hT.below hw0) hC;rw[hC];obtain⟨JC,sZ,iG⟩:=cL hct hcn hcl;clear hct hcn hcl hC ha hT hf hm hl2 hs hn eg;have qU:=λW=>FZ (V:Int) W;have hd:decide (0<=(V:Int)/\(V:Int)<=12)=true:=by simp;omega
 rw[hd]at qU;have BG:=ah qU;clear qU hd;have hni:¬(65536:Int)<(n:Int):=by omega
 have Hb:Hid (Bw w w):=Below.refl _ _;go_enter Tryz.func94,Tryz.ntmps94;go_wp2_with fail;obtain⟨R,hR⟩:∃R:World->Prop,(λW=>ak W (w.heap.size) 3 [.int .i64 (V:Int)]/\ak W (w.heap.size+1) 57 [.int .i64 0,.slice none 0 0]/\Bw w W)=R:=⟨_,rfl⟩;first|refine bO R ?hR ?_|refine bK R ?hR ?_
 case hR=>subst hR;exact⟨((ak.newAt w _ _ (b:=w.heap.size) rfl).alloc _),(ak.newAt (w.alloc _) _ _ (b:=w.heap.size+1) zm),(zl.alloc zj _)⟩
 subst hR;rintro W ⟨qv,qr,ae⟩;have Hv:=ah qv;clear qv;have Hr:=ah qr;clear qr;have v0:=Hv.out.c1;obtain⟨r0,ai,r1,aj⟩:=Hr.out.g2;replace Hb:=au Hb ae;clear ae;go_wp2_with fail;refine(BG.out _).mono ?_;rintro e w1 ⟨rfl,ae⟩;clear v0 r0 ai r1 aj;replace Hv:=kB Hv ae;replace Hr:=kB Hr ae;have v0:=Hv.out.c1;obtain⟨r0,ai,r1,aj⟩:=Hr.out.g2;replace Hb:=au Hb ae;clear ae;go_wp2_with fail;refine(JC.out _ _ Hb.out v0).mono ?_;rintro e w2 ⟨rfl,ae⟩;clear v0 r0 ai r1 aj;replace Hv:=kB Hv ae;replace Hr:=kB Hr ae;have v0:=Hv.out.c1;obtain⟨r0,ai,r1,aj⟩:=Hr.out.g2;replace Hb:=au Hb ae;clear ae;go_wp2_with fail;refine bJ (λw'=>w'.cell? ⟨w.heap.size,0,none⟩=some (.int .i64 (V:Int))) (λi=>Nat.blt i 6) [(0,true),(1,true),(2,false),(3,false),(4,true),(5,true),(6,false),(7,false)] zk zk rfl zk zc v0 ?_;iterate 2 (refine pT rfl rfl ?_;try simp only[UU])
 have abL:=Hv;have kD:=Hr;have dM:=Hb;refine aI rfl rfl (λK hK=>?_);go_simp;with_reducible refine(sZ.out _ (by first|exact Hb.out|exact Hb.out.drew)).mono ?_
 rintro e w3 ⟨v1,rfl,cP,af1,hq⟩;have ae:Bw w2 w3:=by first|exact hq|exact aM hq
 clear v0 r0 ai r1 aj;replace Hv:=kB Hv ae;replace Hr:=kB Hr ae;have v0:=Hv.out.c1;obtain⟨r0,ai,r1,aj⟩:=Hr.out.g2;replace Hb:=au Hb ae;clear ae;refine hK _ _ (λ_=>v0) ?_;clear hK K;try simp only[UU]
 refine aI rfl rfl (λK hK=>?_);go_simp;with_reducible refine(iG.out _ _ v1 (by first|exact dM.out|exact dM.out.drew) af1 cP).mono ?_
 rintro e w4 ⟨a2,c2,rfl,dO,hq⟩;have ae:Bw w2 w4:=by first|exact hq|exact aM hq
 clear v0 r0 ai r1 aj;replace Hv:=ah (abL.out.below ae);replace Hr:=ah (kD.out.below ae);have v0:=Hv.out.c1;obtain⟨r0,ai,r1,aj⟩:=Hr.out.g2;replace Hb:=ah (aJ dM.out ae);clear ae;refine hK _ _ (λ_=>v0) ?_;clear hK K;try simp only[UU]
 iterate 2 (refine pT rfl rfl ?_;try simp only[UU])
 refine aI rfl rfl (λK hK=>?_);go_simp;refine hK _ _ (by first|exact λh=>absurd h zd|exact λ_=>v0|exact λ_=>fC zg v0) ?_;clear hK K;try simp only[UU]
 refine aI rfl rfl (λK hK=>?_);go_simp;refine hK _ _ (λh=>absurd h zd) ?_;clear hK K;try simp only[UU]
 simp only[aU];go_wp2;refine yV (Hr.out) dO Hb.out zo ?_;intro w9 oF gy lI;obtain⟨p0,p1⟩:=oF.c2;exact bodyPost_ret (v:=.tuple #[.agg #[.int .i64 (V:Int),.slice a2 C.length c2],.int .i64 0]) (by simp[results,Tryz.results94,go_sem,p0,p1]) rfl ⟨_,_,rfl,pU gy (by have:=dM.out.size;exact this),lI⟩
def xd (w:World)(a:Option Addr)(C:List aK):Prop:=C=[]\/∃b o cur,a=some ⟨b,o,none⟩/\w.heap[b]?=some (.cells cur 107)
theorem xd.below {w w':World}{a:Option Addr}{C:List aK}(h:xd w a C)(hb:Bw w w'):xd w' a C:=by
 rcases h with h|⟨b,o,cur,h1,h2⟩
 . exact .inl h
 . exact .inr ⟨b,o,cur,h1,by rw[hb.block b (Array.getElem?_eq_some_iff.1 h2).1];exact h2⟩
theorem xd.off {w:World}{a:Option Addr}{C:List aK}{g:Nat}{cur:Array Value}{t:TypeId}(h:xd w a C)(hg:w.heap[g]?=some (.cells cur t))(ht:t≠107)(i:Nat)(u:Value):xd (w.setCell ⟨g,i,none⟩ u) a C:=by
 rcases h with h|⟨b,o,cur',h1,h2⟩
 . exact .inl h
 . refine .inr ⟨b,o,cur',h1,?_⟩;have hne:b≠g:=λe=>by subst e;rw[hg]at h2;simp at h2;exact ht h2.2
   rw[Below.heap_setCell _ _ _ _ hne];exact h2
def cV (w:World)(a:Option Addr)(c:Nat)(C:List aK):Prop:=At w a (C.flatMap aN)/\Sl a C.length c/\xd w a C
theorem cV.below {w w':World}{a:Option Addr}{c:Nat}{C:List aK}(h:cV w a c C)(hb:Bw w w'):cV w' a c C:=⟨h.1.below hb,h.2.1,h.2.2.below hb⟩
theorem cV.off {w:World}{a:Option Addr}{c:Nat}{C:List aK}{g:Nat}{cur:Array Value}{t:TypeId}(h:cV w a c C)(hg:w.heap[g]?=some (.cells cur t))(ht:t≠107)(i:Nat)(u:Value):cV (w.setCell ⟨g,i,none⟩ u) a c C:=by
 refine⟨?_,h.2.1,h.2.2.off hg ht i u⟩;rcases h.2.2 with h'|⟨b,o,cur',rfl,h2⟩
 . subst h';exact .inl rfl
 . have hne:b≠g:=λe=>by subst e;rw[hg]at h2;simp at h2;exact ht h2.2
   rcases h.1 with h1|⟨b1,o1,e1,hc⟩
   . exact .inl h1
   . simp only[Option.some.injEq,Addr.mk.injEq,and_true]at e1;obtain⟨rfl,rfl⟩:=e1;refine .inr ⟨b,o,rfl,λj hj=>?_⟩;have h9:=hc j hj;rw[List.getElem?_eq_getElem hj]at h9⊢;exact aH (.inl hne) h9
theorem cV.store {w:World}{a:Option Addr}{c b:Nat}{t:TypeId}{C:List aK}{cs:List Value}(h:cV w a c C)(hb:ak w b t cs)(ht:t≠107)(u v:Value):cV ((w.setCell ⟨b,0,none⟩ u).setCell ⟨b,1,none⟩ v) a c C:=
 (h.off hb ht 0 u).off (hb.set 0 u) ht 1 v
theorem Ee {w:World}{base c:Nat}{a:Option Addr}{C:List aK}(h:w.ownsRow base 107 4 (.slice a C.length c) C.length (C.flatMap aN)):cV w a c C:=by
 obtain⟨a',c',hv,hat,_⟩:=di h;have hs:=sJ h;simp only[Value.slice.injEq,true_and]at hv;obtain⟨rfl,rfl⟩:=hv;refine⟨hat,hs,?_⟩;rcases h.2 with⟨_,h2⟩ |⟨g,cap,cur,hv,hb,hg,_⟩
 . exact .inl (List.length_eq_zero_iff.1 h2)
 . simp only[Value.slice.injEq,true_and]at hv;exact .inr ⟨g,0,cur,hv.1,hg⟩
theorem amf (V:Nat):((List.range V).map λ_=>UInt8.ofNat 0)=rC V:=by
 unfold rC;apply List.ext_getElem
 . simp
 . intro i h1 h2;simp
theorem ahB (V:Nat)(D:Dyadic)(x:Raw)(l:Nat->Dyadic)(h:az x=D):bR [(rC V,x)]=fA V D l 0:=by unfold fA;refine yY (λm=>?_);simp only[iE,List.range_zero,List.map_nil,cj,bU,h]
theorem SF (V:Nat)(s:Bool)(m:List UInt8)(e:Int)(D:Dyadic)(B:Nat)(l:Nat->Dyadic)(w:World)(hV:V<=12)(hf:Fit B (s,m,e))(hB:B+3<=268435456)(hT:aF w)(hD:az (s,m,e)=D):
 Calls Tryz.prog 57 #[.int .i64 (V:Int),.agg #[.bool s,.string (bs m),.int .i64 e]] w λex w'=>∃a' c',ex=.returned (.tuple #[.agg #[.int .i64 (V:Int),.slice a' (fA V D l 0).length c'],.int .i64 0])/\cV w' a' c' (fA V D l 0)/\Bw w w':=by
 have hC:=ahB V D (s,m,e) l hD;obtain⟨C,LL⟩:=aB (fA V D l 0);rw[LL]at hC⊢;have hmk:=λW (hW:Bw w W) b (hb:ak W b 107 [.string (bs (rC V)),.bool s,.string (bs m),.int .i64 e])=>Xh V (some ⟨b,0,none⟩) 1 1 [(rC V,(s,m,e))] B W hV rfl zo (Sl.some _ _ _ (Nat.le_refl _)) (At.apk hb) (by intro t ht;simp at ht;subst ht;exact Zf V) (by intro t ht;simp at ht;subst ht;simp[rC];omega) (by intro t ht;simp at ht;subst ht;exact hf) zo (hT.below hW);rw[hC]at hmk;have qU:=λW=>FZ (V:Int) W;have hd:decide (0<=(V:Int)/\(V:Int)<=12)=true:=by simp;omega
 rw[hd]at qU;have hmb:=λW=>sD (V:Int) V rfl zo W;have hcv:∀W b,Hid (ak W b 5 (cQ V λ_=>0))->(convert 111 9 (.slice (some ⟨b,0,none⟩) V V)).run Tryz.prog W=.ok (.string (bs (rC V))) W:=λW b h=>by rw[<-amf];exact yu h.out V
 obtain⟨tC,BG⟩:=aL hmk qU;clear hmk qU hd hC LL hT hf hD;have Hb:Hid (Bw w w):=Below.refl _ _;go_enter Tryz.func57,Tryz.ntmps57;go_wp2_with fail;obtain⟨R,hR⟩:∃R:World->Prop,(λW=>ak W (w.heap.size) 30 [.bool s,.string (bs m),.int .i64 e]/\ak W (w.heap.size+1) 57 [.int .i64 0,.slice none 0 0]/\Bw w W)=R:=⟨_,rfl⟩;first|refine bO R ?hR ?_|refine bK R ?hR ?_
 case hR=>subst hR;exact⟨((ak.newAt w _ _ (b:=w.heap.size) rfl).alloc _),(ak.newAt (w.alloc _) _ _ (b:=w.heap.size+1) zm),(zl.alloc zj _)⟩
 subst hR;rintro W ⟨qc,qr,ae⟩;have Hc:=ah qc;clear qc;have Hr:=ah qr;clear qr;obtain⟨c0,c1,c2⟩:=Hc.out.c3;obtain⟨r0,ai,r1,aj⟩:=Hr.out.g2;replace Hb:=au Hb ae;clear ae;go_wp2_with fail;refine(BG.out _).mono ?_;rintro e w1 ⟨rfl,ae⟩;clear c0 c1 c2 r0 ai r1 aj;replace Hc:=kB Hc ae;replace Hr:=kB Hr ae;obtain⟨c0,c1,c2⟩:=Hc.out.c3;obtain⟨r0,ai,r1,aj⟩:=Hr.out.g2;replace Hb:=au Hb ae;clear ae;go_wp2_with fail;refine bJ (λw'=>w'.cell? ⟨w.heap.size,0,none⟩=some (.bool s)/\w'.cell? ⟨w.heap.size,1,none⟩=some (.string (bs m))/\w'.cell? ⟨w.heap.size,2,none⟩=some (.int .i64 e)) (λi=>Nat.blt i 10) [(0,true),(1,true),(4,true),(2,false),(3,false),(5,true),(6,false),(7,false),(8,true),(9,true),(10,false),(11,false)] zk zk rfl zk zc ⟨c0,c1,c2⟩ ?_;iterate 3 (refine pT rfl rfl ?_ (by intro w' ⟨q0,q1,q2⟩;go_simp;try with_reducible rfl);try simp only[UU])
 refine aI rfl rfl (λK hK=>?_);go_simp;refine hK _ _ (λ_=>⟨aG c0,aG c1,aG c2⟩) ?_;clear hK K;try simp only[UU]
 refine bN (λW3=>ak W3 (w1.heap.size) 5 (cQ V (λ_=>0))/\Bw w1 W3) (by first|exact dP|exact dQ) ?_;rintro W3 ⟨qq,ae⟩;clear c0 c1 c2 r0 ai r1 aj;have Xc:=Hc.out.lt;have Il:=Hr.out.lt;replace Hc:=kB Hc ae;replace Hr:=kB Hr ae;have Hq:=ah qq;clear qq;obtain⟨c0,c1,c2⟩:=Hc.out.c3;obtain⟨r0,ai,r1,aj⟩:=Hr.out.g2;replace Hb:=au Hb ae;clear ae;refine aI rfl rfl (λK hK=>?_);go_simp;refine hK _ _ (λ_=>⟨c0,c1,c2⟩) ?_;clear hK K;try simp only[UU]
 refine pT rfl rfl ?_;try simp only[UU]
 refine aI rfl rfl (λK hK=>?_);go_simp;refine hK _ _ (λ_=>⟨aG c0,aG c1,aG c2⟩) ?_;clear hK K;try simp only[UU]
 refine bN (λW4=>ak W4 (W3.heap.size) 107 [.string (bs (rC V)),.bool s,.string (bs m),.int .i64 e]/\Bw W3 W4) (by first|exact dP|exact dQ) ?_;rintro W4 ⟨qz,ae⟩;clear c0 c1 c2 r0 ai r1 aj;have ahU:=Hc.out.lt;have ahZ:=Hr.out.lt;have aon:=Hq.out.lt;replace Hc:=kB Hc ae;replace Hr:=kB Hr ae;replace Hq:=kB Hq ae;have Hz:=ah qz;clear qz;obtain⟨c0,c1,c2⟩:=Hc.out.c3;obtain⟨r0,ai,r1,aj⟩:=Hr.out.g2;obtain⟨z0,z1,z2,z3⟩:=Hz.out.c4;replace Hb:=au Hb ae;clear ae;refine aI rfl rfl (λK hK=>?_);go_simp;with_reducible refine(tC.out _ Hb.out _ Hz.out).mono ?_
 rintro e w5 ⟨a2,d2,rfl,dO,hq⟩;have ae:Bw W4 w5:=by first|exact hq|exact aM hq
 clear c0 c1 c2 r0 ai r1 aj z0 z1 z2 z3;replace Hc:=kB Hc ae;replace Hr:=kB Hr ae;replace Hq:=kB Hq ae;replace Hz:=kB Hz ae;obtain⟨c0,c1,c2⟩:=Hc.out.c3;obtain⟨r0,ai,r1,aj⟩:=Hr.out.g2;obtain⟨z0,z1,z2,z3⟩:=Hz.out.c4;replace Hb:=au Hb ae;clear ae;refine hK _ _ (λ_=>⟨c0,c1,c2⟩) ?_;clear hK K;try simp only[UU]
 iterate 2 (refine pT rfl rfl ?_;try simp only[UU])
 refine aI rfl rfl (λK hK=>?_);go_simp;refine hK _ _ (by first|exact λh=>absurd h zd|exact λ_=>⟨c0,c1,c2⟩ |exact λ_=>⟨(by first|exact c0|exact aH zf c0|exact aH zf (aH zf c0) |exact aH zf (aH zf (aH zf c0))),(by first|exact c1|exact aH zf c1|exact aH zf (aH zf c1) |exact aH zf (aH zf (aH zf c1))),(by first|exact c2|exact aH zf c2|exact aH zf (aH zf c2) |exact aH zf (aH zf (aH zf c2)))⟩) ?_;clear hK K;try simp only[UU]
 refine aI rfl rfl (λK hK=>?_);go_simp;refine hK _ _ (λh=>absurd h zd) ?_;clear hK K;try simp only[UU]
 simp only[aU];go_wp2;refine yV (Hr.out) dO Hb.out zo ?_;intro w9 oF gy lI;obtain⟨p0,p1⟩:=oF.c2;exact bodyPost_ret (v:=.tuple #[.agg #[.int .i64 (V:Int),.slice a2 C.length d2],.int .i64 0]) (by simp[results,Tryz.results57,go_sem,p0,p1]) rfl ⟨_,_,rfl,Ee gy,lI⟩
theorem YR (V k:Nat):((List.range V).map λj=>UInt8.ofNat (if j=k then 1 else 0))=dw V k:=by
 unfold dw;apply List.ext_getElem
 . simp
 . intro i h1 h2;rw[List.getElem_map,List.getElem_range,List.getElem_set];by_cases h:k=i
   . subst h;simp
   . rw[if_neg (λe=>h e.symm),if_neg h];simp
theorem alv :Fit 1 (canon (1:Dyadic)):=Sm.one.fit zd
theorem alz (V k:Nat)(w:World)(hV:V<=12)(hk:k<V)(hT:aF w):
 Calls Tryz.prog 95 #[.int .i64 (V:Int),.int .i64 (k:Int)] w λex w'=>∃a' c',ex=.returned (.tuple #[.agg #[.int .i64 (V:Int),.slice a' (bR [(dw V k,canon 1)]).length c'],.int .i64 0])/\cV w' a' c' (bR [(dw V k,canon 1)])/\Bw w w':=by
 obtain⟨C,hC⟩:=aB (bR [(dw V k,canon 1)]);rw[hC];obtain⟨O,hO⟩:∃O:Dyadic,(1:Dyadic)=O:=⟨_,rfl⟩;have hmk:=λW (hW:Bw w W) b (hb:ak W b 107 [.string (bs (dw V k)),.bool (ar (dN O)),.string (bs (nt (dN O).natAbs)),.int .i64 (dE O)])=>Xh V (some ⟨b,0,none⟩) 1 1 [(dw V k,canon 1)] 1 W hV rfl zo (Sl.some _ _ _ (Nat.le_refl _)) (by rw[hO];exact At.apk hb) (by intro t ht;simp at ht;subst ht;exact PD V k) (by intro t ht;simp at ht;subst ht;simp[dw];omega) (by intro t ht;simp at ht;subst ht;exact alv) zo (hT.below hW);rw[hC]at hmk;have hof:=λW (hW:Bw w W)=>FQ 1 O hO W zd (hT.below hW);have qU:=λW=>FZ (V:Int) W;have hd:decide (0<=(V:Int)/\(V:Int)<=12)=true:=by simp;omega
 rw[hd]at qU;have hmb:=λW=>sD (V:Int) V rfl zo W;have hcv:∀W b,Hid (ak W b 5 (cQ V λj=>if j=k then 1 else 0))->(convert 111 9 (.slice (some ⟨b,0,none⟩) V V)).run Tryz.prog W=.ok (.string (bs (dw V k))) W:=λW b h=>by rw[<-YR V k];exact yu h.out V
 have bD:=λb=>vG V V k (k:Int) (rfl:(some ⟨b,0,none⟩:Option Addr)=_) hk rfl;simp only[Nat.zero_add,Nat.mul_one]at bD;have hget:(cQ V λ_=>0)[k]?=some (.int .u8 0):=kZ _ _ _ hk;have nD:(cQ V λ_=>0).set k (.int .u8 1)=cQ V λj=>if j=k then 1 else 0:=yw V _ k 1
 obtain⟨tC,rF,BG⟩:=cL hmk hof qU;clear hmk hof qU hd hC hT hO;have Dk:¬(k:Int)<0:=by omega
 have Hb:Hid (Bw w w):=Below.refl _ _;go_enter Tryz.func95,Tryz.ntmps95;go_wp2_with fail;obtain⟨R,hR⟩:∃R:World->Prop,(λW=>ak W (w.heap.size) 57 [.int .i64 0,.slice none 0 0]/\Bw w W)=R:=⟨_,rfl⟩;first|refine bO R ?hR ?_|refine bK R ?hR ?_
 case hR=>subst hR;exact⟨(ak.newAt w _ _ (b:=w.heap.size) rfl),zl⟩
 subst hR;rintro W ⟨qr,ae⟩;have Hr:=ah qr;clear qr;obtain⟨r0,ai,r1,aj⟩:=Hr.out.g2;replace Hb:=au Hb ae;clear ae;go_wp2_with fail;refine(BG.out _).mono ?_;rintro e w1 ⟨rfl,ae⟩;clear r0 ai r1 aj;replace Hr:=kB Hr ae;obtain⟨r0,ai,r1,aj⟩:=Hr.out.g2;replace Hb:=au Hb ae;clear ae;go_wp2_with fail;obtain⟨R,hR⟩:∃R:World->Prop,(λW3=>ak W3 w1.heap.size 5 (cQ V λj=>if j=k then 1 else 0)/\Bw w1 W3)=R:=⟨_,rfl⟩;first|refine bO R ?hR ?_|refine bK R ?hR ?_
 case hR=>subst hR;exact⟨ak.newAt w1 _ _ (b:=w1.heap.size) rfl,zl⟩
 subst hR;intro W3 ⟨qm,ae⟩;clear r0 ai r1 aj;replace Hr:=kB Hr ae;obtain⟨r0,ai,r1,aj⟩:=Hr.out.g2;replace Hb:=ah (aJ Hb.out ae);have Hm:=ah qm;clear qm ae hget nD bD hmb;have oP:∀w',iw W3 w'->(convert 111 9 (.slice (some ⟨w1.heap.size,0,none⟩) V V)).run Tryz.prog w'=.ok (.string (bs (dw V k))) w':=λw' h=>hcv w' _ (ah (Hm.out.below h));have aZ:Hid (iw W3 W3):=Below.refl _ _;refine bJ (λw'=>iw W3 w') (λi=>Nat.blt i 9) [(0,true),(1,true),(2,true),(3,false),(4,true),(5,false),(6,false),(7,true),(8,true),(9,false),(10,false)] zk zk rfl zk zc aZ.out.drew ?_;iterate 3 (refine OA rfl rfl (v:=?_) (λw' hw'=>?_) ?_;rotate_left;(focus have hw':=oP w' hw';go_simp;try with_reducible rfl);try simp only[UU])
 refine aI rfl rfl (λK hK=>?_);go_simp;with_reducible refine(rF.out _ (by first|exact Hb.out|exact Hb.out.drew)).mono ?_
 rintro e w4 ⟨rfl,hq⟩;have ae:Bw W3 w4:=by first|exact hq|exact aM hq
 clear r0 ai r1 aj;replace aZ:=ah (aZ.out.below ae);replace Hr:=kB Hr ae;obtain⟨r0,ai,r1,aj⟩:=Hr.out.g2;replace Hb:=au Hb ae;clear ae;refine hK _ _ (λ_=>aZ.out) ?_;clear hK K;try simp only[UU]
 refine pT rfl rfl ?_;try simp only[UU]
 refine aI rfl rfl (λK hK=>?_);go_simp;refine hK _ _ (λ_=>by first|exact aZ.out.alloc _|exact(aZ.out.alloc _).drew|exact(aZ.out.drew).alloc _) ?_;clear hK K;try simp only[UU]
 refine bN (λW5=>ak W5 (w4.heap.size) 107 [.string (bs (dw V k)),.bool (ar (dN O)),.string (bs (nt (dN O).natAbs)),.int .i64 (dE O)]/\Bw w4 W5) (by first|exact dP|exact dQ) ?_;rintro W5 ⟨qz,ae⟩;clear r0 ai r1 aj;have Im:=Hr.out.lt;replace aZ:=ah (aZ.out.below ae);replace Hr:=kB Hr ae;have Hz:=ah qz;clear qz;obtain⟨r0,ai,r1,aj⟩:=Hr.out.g2;obtain⟨z0,z1,z2,z3⟩:=Hz.out.c4;replace Hb:=au Hb ae;clear ae;refine aI rfl rfl (λK hK=>?_);go_simp;with_reducible refine(tC.out _ Hb.out _ Hz.out).mono ?_
 rintro e w6 ⟨a2,d2,rfl,dO,hq⟩;have ae:Bw W5 w6:=by first|exact hq|exact aM hq
 clear r0 ai r1 aj z0 z1 z2 z3;replace aZ:=ah (aZ.out.below ae);replace Hr:=kB Hr ae;replace Hz:=kB Hz ae;obtain⟨r0,ai,r1,aj⟩:=Hr.out.g2;obtain⟨z0,z1,z2,z3⟩:=Hz.out.c4;replace Hb:=au Hb ae;clear ae;refine hK _ _ (λ_=>aZ.out) ?_;clear hK K;try simp only[UU]
 iterate 2 (refine pT rfl rfl ?_;try simp only[UU])
 refine aI rfl rfl (λK hK=>?_);go_simp;refine hK _ _ (by first|exact λh=>absurd h zd|exact λ_=>aZ.out|exact λ_=>fC zg aZ.out) ?_;clear hK K;try simp only[UU]
 refine aI rfl rfl (λK hK=>?_);go_simp;refine hK _ _ (λh=>absurd h zd) ?_;clear hK K;try simp only[UU]
 simp only[aU];go_wp2;refine yV (Hr.out) dO Hb.out zo ?_;intro w9 oF gy lI;obtain⟨p0,p1⟩:=oF.c2;exact bodyPost_ret (v:=.tuple #[.agg #[.int .i64 (V:Int),.slice a2 C.length d2],.int .i64 0]) (by simp[results,Tryz.results95,go_sem,p0,p1]) rfl ⟨_,_,rfl,Ee gy,lI⟩
theorem Xj {l:List UInt8}{V:Nat}(h:gA l (V:Int)=true):l.length=V:=by unfold gA at h;rw[Bool.and_eq_true]at h;have:=h.2;simp at this;omega
def jO (V B:Nat)(ts:List aK):Prop:=Cn V ts/\∀t∈ts,Fit B t.2
theorem jO.chk {V B:Nat}{ts:List aK}(h:jO V B ts):∀t∈ts,t.1.length<=9223372036854775807/\Ok t.2:=λt ht=>⟨by have:=Xj (h.1.2.1 t ht);have:=h.1.2.2.2;omega,(h.2 t ht).1⟩
theorem Yp (V:Nat)(a:Option Addr)(cap:Nat)(ts:List aK)(s:Bool)(m:List UInt8)(e:Int)(D:Dyadic)(B:Nat)(w:World)(hp:jO V B ts)(ha:cV w a cap ts)(hf:Fit B (s,m,e))(hB:2*B+8192<=268435456)(hT:aF w)(hD:az (s,m,e)=D):
 Calls Tryz.prog 59 #[.agg #[.int .i64 (V:Int),.slice a ts.length cap],.agg #[.bool s,.string (bs m),.int .i64 e]] w λex w'=>∃a' c',ex=.returned (.tuple #[.agg #[.int .i64 (V:Int),.slice a' (bR (dX D ts)).length c'],.int .i64 0])/\cV w' a' c' (bR (dX D ts))/\Bw w w':=by
 obtain⟨n,hn⟩:=aB ts.length;have hnl:n<=4096:=by have:=hp.1.2.2.1;omega
 have hV:V<=12:=hp.1.2.2.2;obtain⟨C,hC⟩:=aB (bR (dX D ts));have gu:(dX D ts).length=n:=by unfold dX;rw[List.length_map,hn]
 have CU:∀t∈dX D ts,Fit (2*B) t.2:=by intro t ht;unfold dX at ht;obtain⟨x,hx,rfl⟩:=List.mem_map.1 ht;refine Sm.fit ?_ zo;have:=Sm.mul (hp.2 x hx).2 hf.2;rw[hD]at this;exact this.mono zo
 have gv:=λW (hW:Bw w W)=>XK (V:Int) a cap n ts W hn zo (ha.1.below hW) hp.chk (hT.below hW);rw[XL hp.1]at gv;have hs:=ha.2.1;rw[hn]at hs;have hcn:=λW (hW:Bw w W)=>(Sy a n cap ts W hn zo hs (ha.1.below hW)).mono (λe w' h=>(match h with|⟨v,h1,h2,h3⟩=>⟨v,h1,h2,h3,h3⟩:∃v',e=.returned v'/\w'.ownsRow W.heap.size 107 4 v' n (ts.flatMap aN)/\Bw W w'/\Bw W w'));have hcl:=λw0 W v (hw0:Bw w w0) (hb0:Bw w0 W) (ho:W.ownsRow w0.heap.size 107 4 v n ((dX D ts).flatMap aN))=>Le (V:Int) v n (dX D ts) C (2*B) w0 W hb0 gu hnl ho CU zo (hT.below hw0) hC;have df:=hp.2;rw[hn,hC];obtain⟨oU,sZ,iG,iH,HT,Hn,Hfc,HD⟩:=nJ gv hcn hcl df hT hn hf hD;clear gv hcn hcl df hT hn hf hD hC gu CU hs ha hp;have Hb:Hid (Bw w w):=Below.refl _ _;go_enter Tryz.func59,Tryz.ntmps59;go_wp2_with fail;obtain⟨R,hR⟩:∃R:World->Prop,(λW=>ak W (w.heap.size) 57 [.int .i64 (V:Int),.slice a n cap]/\ak W (w.heap.size+1) 30 [.bool s,.string (bs m),.int .i64 e]/\ak W (w.heap.size+1+1) 57 [.int .i64 0,.slice none 0 0]/\Bw w W)=R:=⟨_,rfl⟩;first|refine bO R ?hR ?_|refine bK R ?hR ?_
 case hR=>subst hR;exact⟨(((ak.newAt w _ _ (b:=w.heap.size) rfl).alloc _).alloc _),((ak.newAt (w.alloc _) _ _ (b:=w.heap.size+1) zm).alloc _),(ak.newAt ((w.alloc _).alloc _) _ _ (b:=w.heap.size+1+1) zm),((zl.alloc zj _).alloc zj _)⟩
 subst hR;rintro W ⟨qp,qc,qr,ae⟩;have Hp:=ah qp;clear qp;have Hc:=ah qc;clear qc;have Hr:=ah qr;clear qr;obtain⟨p0,p1⟩:=Hp.out.c2;obtain⟨c0,c1,c2⟩:=Hc.out.c3;obtain⟨r0,ai,r1,aj⟩:=Hr.out.g2;replace Hb:=au Hb ae;clear ae;go_wp2_with fail;refine(oU.out _ Hb.out).mono ?_;rintro e w1 ⟨rfl,ae⟩;clear p0 p1 c0 c1 c2 r0 ai r1 aj;replace Hp:=kB Hp ae;replace Hc:=kB Hc ae;replace Hr:=kB Hr ae;obtain⟨p0,p1⟩:=Hp.out.c2;obtain⟨c0,c1,c2⟩:=Hc.out.c3;obtain⟨r0,ai,r1,aj⟩:=Hr.out.g2;replace Hb:=au Hb ae;clear ae;have BQ:=Hp;have yI:=Hc;have kD:=Hr;have dM:=Hb;go_wp2_with fail;refine(sZ.out _ Hb.out).mono ?_;rintro e w2 ⟨v1,rfl,cP,ve,ae⟩;clear p0 p1 c0 c1 c2 r0 ai r1 aj;replace Hp:=kB Hp ae;replace Hc:=kB Hc ae;replace Hr:=kB Hr ae;obtain⟨p0,p1⟩:=Hp.out.c2;obtain⟨c0,c1,c2⟩:=Hc.out.c3;obtain⟨r0,ai,r1,aj⟩:=Hr.out.g2;replace Hb:=au Hb ae;clear ae;obtain⟨a1,d1,rfl,_,_⟩:=di cP;obtain⟨mz,Qw⟩:=aL cP ve;clear cP ve;go_wp2_with fail;go_loopw[20] (λx wr=>∃(k:Nat) (C:List aK),k<=n/\x=.int .i64 (k:Int)/\C.length=n/\C.take k=(dX D ts).take k/\C.drop k=ts.drop k/\wr.ownsRow w1.heap.size 107 4 (.slice a1 n d1) n (C.flatMap aN)/\Bw w1 wr) (λx _=>n-(intOf x).toNat);case atStart=>exact⟨0,ts,Nat.zero_le _,rfl,Hn.out,rfl,rfl,mz.out,Qw.out⟩
 case round=>
  clear p0 p1 c0 c1 c2 r0 ai r1 aj mz Qw Hp Hc Hr Hb;obtain⟨k,C',hk,rfl,hC,htk,hdr,hov,pb⟩:=hrel;obtain⟨Hp,Hc,Hr⟩:=cL (BQ.out.below pb) (yI.out.below pb) (kD.out.below pb);have dG:=aJ dM.out pb;have wj:=dM.out.size;by_cases hlt:k<n
  . obtain⟨g,cc,he,hg1,hg2,hg3⟩:=vV hov zo;simp only[Value.slice.injEq,true_and]at he;obtain⟨rfl,rfl⟩:=he;have tW:k<C'.length:=by omega
    have xD:k<ts.length:=by have:=Hn.out;omega
    have hel:=SZ hdr tW xD;obtain⟨l,s1,q1,e1,hx⟩:∃l s m e,C'[k]=(l,s,m,e):=⟨_,_,_,_,rfl⟩;have eP:=iH.out _ (List.getElem_mem xD);rw[<-hel,hx]at eP;obtain⟨X,hX⟩:=aB (az (s1,q1,e1) *D);have nD:=Xi (λx=>(x.1,canon (az x.2*D))) ts C' k tW (by rw[hC,Hn.out]) htk hel;have De:(C'[k].1,canon (az C'[k].2*D))=(l,canon X):=by rw[hx,<-hX]
    have VU:(C'.set k (l,canon X)).take (k+1)=(dX D ts).take (k+1):=by rw[<-De];exact nD
    have kd:C'[k].1=l:=by rw[hx]
    obtain⟨_,y1,y2,y3⟩:=(IC hov k tW hx).w4;have hd2:C'.drop (k+1)=ts.drop (k+1):=by rw[<-List.drop_drop,<-List.drop_drop,hdr]
    have bD:=jJ n d1 k (k:Int) (rfl:(some ⟨g,0,none⟩:Option Addr)=_) hlt rfl;rw[Nat.zero_add]at bD;have Hz:Hid (aV wr g (k*4+1) [.bool s1,.string (bs q1),.int .i64 e1]):=fS y1 y2 y3;have HX:Hid (az (s1,q1,e1) *az (s,m,e)=X):=by show _=_;rw[HD.out];exact hX
    obtain⟨cM,aO,Kr,uE,HC,JE,iW,wD⟩:=nJ hov pb VU hd2 hC kd eP (HT.out.below dG);have gB:=pb.size;clear hov pb nD VU hd2 hC htk hdr hel hx hX De kd eP xD y1 y2 y3 dG BQ yI kD Hp Hr;have Hb:Hid (Bw wr wr):=Below.refl _ _;go_wp2_with fail;obtain⟨c0,c1,c2⟩:=Hc.out.c3;obtain⟨z0,z1,z2⟩:=Hz.out.w3;have HU:Hid (aF wr):=wD.out;refine bJ (λw'=>w'.cell? ⟨w.heap.size+1,0,none⟩=some (.bool s)/\w'.cell? ⟨w.heap.size+1,1,none⟩=some (.string (bs m))/\w'.cell? ⟨w.heap.size+1,2,none⟩=some (.int .i64 e)/\w'.cell? ⟨g,k*4+1,none⟩=some (.bool s1)/\w'.cell? ⟨g,k*4+1+1,none⟩=some (.string (bs q1))/\w'.cell? ⟨g,k*4+1+2,none⟩=some (.int .i64 e1)) (λi=>Nat.blt i 12) [(0,true),(1,true),(2,true),(3,true),(4,true),(5,true),(6,true),(7,true),(8,false),(9,false),(10,true),(11,true),(12,false)] zk zk rfl zk zc ⟨c0,c1,c2,z0,z1,z2⟩ ?_;iterate 8 (refine pT rfl rfl ?_ (by intro w' ⟨q0,q1,q2,q3,q4,q5⟩;go_simp;try with_reducible rfl);try simp only[UU])
    refine aI rfl rfl (λK hK=>?_);go_simp;refine hK _ _ (λ_=>⟨aG c0,aG c1,aG c2,aG z0,aG z1,aG z2⟩) ?_;clear hK K;try simp only[UU]
    refine bN (λW4=>ak W4 (wr.heap.size) 30 [.bool s1,.string (bs q1),.int .i64 e1,.bool s,.string (bs m),.int .i64 e]/\Bw wr W4) (by first|exact dP|exact dQ) ?_;rintro W4 ⟨qv,ae⟩;clear c0 c1 c2 z0 z1 z2;have ahU:=Hc.out.lt;replace Hc:=kB Hc ae;replace Hz:=kW Hz ae;replace HU:=kT HU ae;have Hv:=ah qv;clear qv;obtain⟨c0,c1,c2⟩:=Hc.out.c3;obtain⟨z0,z1,z2⟩:=Hz.out.w3;obtain⟨v0,v1,v2,v3,v4,v5⟩:=Hv.out.c6;replace Hb:=au Hb ae;clear ae;refine aI rfl rfl (λK hK=>?_);go_simp;with_reducible refine(Cx s1 q1 e1 s m e X B HX.out wr.heap.size _ 30 _ iW.out Hfc.out zo Hv.out (by first|exact HU.out|exact aF.drew HU.out|exact aF.alloc HU.out _|exact aF.drew (aF.alloc HU.out _) |exact aF.alloc (aF.drew HU.out) _)).mono ?_
    rintro e w5 ⟨rfl,hq⟩;have ae:Bw W4 w5:=by first|exact hq|exact aM hq
    clear c0 c1 c2 z0 z1 z2 v0 v1 v2 v3 v4 v5;replace Hc:=kB Hc ae;replace Hz:=kW Hz ae;replace HU:=kT HU ae;replace Hv:=kB Hv ae;obtain⟨c0,c1,c2⟩:=Hc.out.c3;obtain⟨z0,z1,z2⟩:=Hz.out.w3;obtain⟨v0,v1,v2,v3,v4,v5⟩:=Hv.out.c6;replace Hb:=au Hb ae;clear ae;refine hK _ _ (λ_=>⟨c0,c1,c2,z0,z1,z2⟩) ?_;clear hK K;try simp only[UU]
    iterate 2 (refine pT rfl rfl ?_;try simp only[UU])
    refine aI rfl rfl (λK hK=>?_);have iQ:=ownsRow_below cM.out Hb.out;have iO:=mM iQ (k*4+1);have oc:=mM iQ (k*4+1+1);have Tq:=mM iQ (k*4+1+2);have dK:=aJ aO.out Hb.out;obtain⟨wR,fL⟩:=aL iQ dK;clear iQ dK;go_simp;refine hK _ _ (λh=>absurd h zd) ?_;clear hK K;try simp only[UU]
    simp only[aU];go_wp2;refine⟨⟨k+1,C'.set k (l,canon X),by omega,by go_num,by rw[List.length_set];exact HC.out,Kr.out,by rw[Ls _ _ _ _ zo];exact uE.out,?_,?_⟩,by simp[intOf];omega⟩
    . have h:=XF wR.out k tW (ar (dN X)) (nt (dN X).natAbs) (dE X);rw[JE.out]at h;exact h
    . exact((fL.out.setCell hg1 _).setCell hg1 _).setCell hg1 _
  . obtain rfl:k=n:=by omega
    have CJ:C'=dX D ts:=by rw[List.take_of_length_le zo,List.take_of_length_le (by unfold dX;rw[List.length_map];have:=Hn.out;omega)]at htk;exact htk
    rw[CJ]at hov;obtain⟨cM,aO⟩:=aL hov pb;have Hb:Hid (Bw w wr):=dG;clear hov pb htk hdr hC CJ dG;obtain⟨p0,p1⟩:=Hp.out.c2;obtain⟨r0,ai,r1,aj⟩:=Hr.out.g2;go_wp2_with fail;refine(iG.out w1 _ _ dM.out aO.out cM.out).mono ?_;rintro e w6 ⟨a2,d2,rfl,dO,ae⟩;clear p0 p1 r0 ai r1 aj;replace Hp:=ah (BQ.out.below ae);replace Hr:=ah (kD.out.below ae);obtain⟨p0,p1⟩:=Hp.out.c2;obtain⟨r0,ai,r1,aj⟩:=Hr.out.g2;replace Hb:=ah (aJ dM.out ae);clear ae;go_wp2;refine yV (Hr.out) dO Hb.out zo ?_;intro w9 oF gy lI;obtain⟨q0,q1⟩:=oF.c2;exact bodyPost_ret (v:=.tuple #[.agg #[.int .i64 (V:Int),.slice a2 C.length d2],.int .i64 0]) (by simp[results,Tryz.results59,go_sem,q0,q1]) rfl ⟨_,_,rfl,Ee gy,lI⟩
def jg (w:World)(V B:Nat)(ps:List Pv)(Ts:Nat->List aK):Prop:=∀k (h:k<ps.length),∃a c,ps[k]=⟨(V:Int),a,(Ts k).length,c⟩/\cV w a c (Ts k)/\jO V B (Ts k)
theorem jg.below {w w':World}{V B:Nat}{ps:List Pv}{Ts:Nat->List aK}(h:jg w V B ps Ts)(hb:Bw w w'):jg w' V B ps Ts:=λk hk=>by obtain⟨a,c,h1,h2,h3⟩:=h k hk;exact⟨a,c,h1,h2.below hb,h3⟩
theorem below_drewN {n:Nat}{w w':World}(h:Below n w w')(k:Nat):Below n w (w'.drewN k):=by
 induction k with
 |zero=>exact h
 |succ k ih=>exact ih.drew
theorem ahu (V V':Int)(aT:Option Addr)(nT cT:Nat)(bl:Nat)(b o L cap:Nat)(q:Value)(w:World)(hc:w.cell? ⟨bl,0,none⟩=some (.slice (some ⟨b,o,none⟩) L cap))(hL:0<L)(hw:aV w b o [.int .i64 V,q]):
 Calls Tryz.prog 140 #[.agg #[.int .i64 V',.slice aT nT cT],.pointer (some ⟨bl,0,none⟩)] w λex w'=>ex=.returned (.bool (V' !=V))/\Bw w w':=by
 have bD:=xS L cap 0 0 (rfl:(some ⟨b,o,none⟩:Option Addr)=_) hL rfl;rw[Nat.zero_mul,Nat.add_zero]at bD;have h0:w.cell? ⟨b,o,none⟩=some (.int .i64 V):=by have:=hw.w2.1;exact this
 obtain⟨Hc,H0⟩:=aL hc h0;clear hc h0 hw;obtain⟨W,dc,Hb,Hx⟩:=iF w 57 [.int .i64 V',.slice aT nT cT];obtain⟨x0,x1⟩:=Hx.out.c2;have k1:=cell_later Hb.out Hc.out;have k2:=cell_later Hb.out H0.out;go_enter Tryz.func140,Tryz.ntmps140;go_wp2_with fail;go_quiet (fail)
 go_wp2;refine bodyPost_ret (results_tmp rfl _ _ _) rfl ⟨rfl,(below_drewN Hb.out _)⟩
theorem ahv (V B:Nat)(b o L cap:Nat)(ps:List Pv)(Ts:Nat->List aK)(w:World)(hL:ps.length=L)(Gm:0<L)(LV:L<=65536)(ha:At w (some ⟨b,o,none⟩) (ps.flatMap lU))(hp:jg w V B ps Ts)(hT:aF w):
 Calls Tryz.prog 98 #[.slice (some ⟨b,o,none⟩) L cap] w λe w'=>e=.returned (.int .i64 0)/\Bw w w':=by
 have eg:∀args w,(callFunc 140 args).run Tryz.prog w=.ok (.enter 140 args) w:=enters_of Tryz.func140 zk rfl;have hct:∀W bl,Bw w W->W.cell? ⟨bl,0,none⟩=some (.slice (some ⟨b,o,none⟩) L cap)->Calls Tryz.prog 139 #[.slice (some ⟨b,o,none⟩) L cap,.func (.func 140) #[] #[.pointer (some ⟨bl,0,none⟩)]] W λe w'=>e=.returned (.bool false)/\Bw W w':=by
  intro W bl hW hc;obtain⟨a0,c0,e0,_,_⟩:=hp 0 zo;obtain⟨b',o',hab,cW⟩:=(ha.below hW).apm 0 zo e0;simp only[Option.some.injEq,Addr.mk.injEq,and_true]at hab;obtain⟨rfl,rfl⟩:=hab;rw[Nat.zero_mul,Nat.add_zero]at cW;have h:=ad8 (some ⟨b,o,none⟩) L cap ps 140 #[.pointer (some ⟨bl,0,none⟩)] (λp=>p.V !=(V:Int)) W hL zo (ha.below hW) eg (λx hx W2 hW2=>by simpa using ahu (V:Int) x.V x.a x.n x.c bl b o L cap _ W2 (cell_later hW2 hc) Gm (cW.below hW2));have hf:(ps.any λp=>p.V !=(V:Int))=false:=by rw[List.any_eq_false];intro p Dy;obtain⟨k,hk,rfl⟩:=List.mem_iff_getElem.1 Dy;obtain⟨a,c,e1,_,_⟩:=hp k hk;rw[e1];simp
  rwa [hf]at h
 have gv:=λW (hW:Bw w W) k (hk:k<ps.length)=>(show ∃a c,ps[k]=⟨(V:Int),a,(Ts k).length,c⟩/\Calls Tryz.prog 77 #[.agg #[.int .i64 (V:Int),.slice a (Ts k).length c]] W λe w'=>e=.returned (.int .i64 0)/\Bw W w' from by
  obtain⟨a,c,e1,h1,h2⟩:=hp k hk;refine⟨a,c,e1,?_⟩;have h:=XK (V:Int) a c (Ts k).length (Ts k) W rfl (by have:=h2.1.2.2.1;omega) (h1.1.below hW) h2.chk (hT.below hW)
  rwa [XL h2.1]at h)
 obtain⟨JC,oU,Ha,HL⟩:=dW hct gv ha hL;clear hct gv ha hL hp hT eg;have hLn:((L:Int)==0)=false:=by simp;omega
 have Hb:Hid (Bw w w):=Below.refl _ _;go_enter Tryz.func98,Tryz.ntmps98;go_wp2_with fail;obtain⟨R,hR⟩:∃R:World->Prop,(λW=>ak W (w.heap.size) 50 [.slice (some ⟨b,o,none⟩) L cap]/\Bw w W)=R:=⟨_,rfl⟩;first|refine bO R ?hR ?_|refine bK R ?hR ?_
 case hR=>subst hR;exact⟨(ak.newAt w _ _ (b:=w.heap.size) rfl),zl⟩
 subst hR;rintro W ⟨ql,ae⟩;have Hl:=ah ql;clear ql;have l0:=Hl.out.c1;replace Hb:=au Hb ae;clear ae;go_loopw[8] (λx wr=>∃k:Nat,k<=L/\x=.int .i64 (k:Int)/\Bw W wr) (λx _=>L-(intOf x).toNat);case atStart=>exact⟨0,Nat.zero_le _,rfl,Below.refl _ _⟩
 case round=>
  clear l0;obtain⟨k,hk,rfl,pb⟩:=hrel;obtain⟨dG,hl,aO⟩:=cL (aJ Hb.out pb) (Hl.out.below pb) pb;clear pb Hb Hl;by_cases hlt:k<L
  . have hk2:k<ps.length:=by rw[HL.out];exact hlt
    obtain⟨a1,c1,e1,hcall⟩:=oU.out wr dG.out k hk2;obtain⟨b',o',hab,cW⟩:=(Ha.out.below dG.out).apm k hk2 e1;obtain⟨rfl,rfl⟩:b=b'/\o=o':=by simp at hab;exact hab
    have hcall:=λW (hW:Bw w W)=>(oU.out W hW k hk2);have bD:=xS L cap k (k:Int) (rfl:(some ⟨b,o,none⟩:Option Addr)=_) hlt rfl;obtain⟨nT,xJ⟩:=aB ((Ts k).length);have af5:Hid (∀W,Bw w W->Calls Tryz.prog 77 #[.agg #[.int .i64 (V:Int),.slice a1 nT c1]] W λe w'=>e=.returned (.int .i64 0)/\Bw W w'):=by intro W hW;obtain⟨a2,c2,e2,h2⟩:=hcall W hW;rw[e1]at e2;simp only[Pv.mk.injEq,true_and]at e2;obtain⟨rfl,rfl⟩:=e2;rw[xJ]at h2;exact h2
    rw[xJ]at cW;have Hx:Hid (aV wr b (o+k*2) [.int .i64 (V:Int),.slice a1 nT c1]):=cW;clear cW hcall hab e1 xJ;have Hb:Hid (Bw wr wr):=Below.refl _ _;obtain⟨x0,x1⟩:=Hx.out.w2;have P0:=x0;have P1:=x1;obtain⟨W3,CZ,ae,Hv⟩:=cN wr 57 [.int .i64 (V:Int),.slice a1 nT c1];clear x0 x1;replace Hx:=kW Hx ae;obtain⟨x0,x1⟩:=Hx.out.w2;obtain⟨v0,v1⟩:=Hv.out.c2;replace Hb:=au Hb ae;clear ae;go_wp2_with fail;refine(af5.out _ (aJ dG.out Hb.out)).mono ?_;rintro e w4 ⟨rfl,ae⟩;clear x0 x1 v0 v1;replace Hx:=kW Hx ae;replace Hv:=kB Hv ae;obtain⟨x0,x1⟩:=Hx.out.w2;obtain⟨v0,v1⟩:=Hv.out.c2;replace Hb:=au Hb ae;clear ae;go_wp2;go_roundw;case rel=>exact⟨k+1,by omega,by go_num,aJ aO.out Hb.out⟩
    case measure=>simp[intOf];omega
  . obtain rfl:k=L:=by omega
    have Hb:=dG;have Hl:=hl;have l0:=Hl.out.c1;go_wp2_with fail;refine(JC.out _ _ Hb.out l0).mono ?_;rintro e w6 ⟨rfl,ae⟩;clear l0;replace Hl:=kB Hl ae;have l0:=Hl.out.c1;replace Hb:=au Hb ae;clear ae;go_wp2;go_ret;exact⟨rfl,Hb.out⟩
def jb (Ts:Nat->List aK):Nat->List aK
 |0=>[]
 |k+1=>gQ (jb Ts k) (Ts k)
def mC (Ts:Nat->List aK):Nat->List aK
 |0=>[]
 |k+1=>mC Ts k++Ts k
theorem adV (Ts:Nat->List aK)(k:Nat)(m:List UInt8):cj (jb Ts k) m=cj (mC Ts k) m:=by
 induction k with
 |zero=>rfl
 |succ k ih=>unfold jb mC;rw[SC,xj,ih]
theorem Xp (Ts:Nat->List aK)(k:Nat):(jb Ts k).length<=(mC Ts k).length:=by
 induction k with
 |zero=>exact Nat.le_refl _
 |succ k ih=>unfold jb mC;have:=Xo (jb Ts k) (Ts k);rw[List.length_append];omega
theorem Sv (Ts:Nat->List aK)(j k:Nat)(h:j<=k):(mC Ts j).length<=(mC Ts k).length:=by
 induction k with
 | zero => obtain rfl:j=0:=by omega
           exact Nat.le_refl _
 | succ k ih=>
   by_cases e:j=k+1
   . subst e;exact Nat.le_refl _
   . have:=ih zo;rw[show mC Ts (k+1)=mC Ts k++Ts k from rfl,List.length_append];omega
theorem aij {B:Nat}(Ts:Nat->List aK)(k:Nat)(h:∀j,j<k->∀t∈Ts j,Fit B t.2)(hB:B+k<=268435456):∀t∈jb Ts k,Fit (B+k) t.2:=by
 induction k with
 |zero=>intro t ht;cases ht
 |succ k ih=>unfold jb;have:=Xn (B:=B+k) (jb Ts k) (Ts k) (ih (λj hj=>h j zo) zo) (λt ht=>(h k zo t ht).mono zo) zo;exact this
theorem ace (V B:Nat)(b o L cap:Nat)(ps:List Pv)(Ts:Nat->List aK)(C:List aK)(w:World)(hL:ps.length=L)(Gm:0<L)(LV:L<=65536)(ha:At w (some ⟨b,o,none⟩) (ps.flatMap lU))(hp:jg w V B ps Ts)(hn:(mC Ts L).length<=4096)(hB:B+L+8192<=268435456)(hT:aF w)(hC:bR (mC Ts L)=C):
 Calls Tryz.prog 60 #[.slice (some ⟨b,o,none⟩) L cap] w λex w'=>∃a' c',ex=.returned (.tuple #[.agg #[.int .i64 (V:Int),.slice a' C.length c'],.int .i64 0])/\cV w' a' c' C/\Bw w w':=by
 have CG:=enters_of Tryz.func100 zk rfl;have CF:=enters_of Tryz.func101 zk rfl;have hlk:=λW (hW:Bw w W)=>ahv V B b o L cap ps Ts W hL Gm LV (ha.below hW) (hp.below hW) (hT.below hW);have TB:bR (jb Ts L)=C:=by rw[<-hC];exact yY (adV Ts L)
 have rY:(jb Ts L).length<=4096:=Nat.le_trans (Xp Ts L) hn;have Mz:∀j,j<L->∀t∈Ts j,Fit B t.2:=λj hj=>by obtain⟨a,c,_,_,h⟩:=hp j zo;exact h.2
 have rX:=λk (hk:k<=L)=>aij (B:=B) Ts k (λj hj=>Mz j zo) zo;have hcl:=λw0 W v (hw0:Bw w w0) (hb0:Bw w0 W) (ho:W.ownsRow w0.heap.size 107 4 v (jb Ts L).length ((jb Ts L).flatMap aN))=>Le (V:Int) v _ (jb Ts L) C (B+L) w0 W hb0 rfl rY ho (rX L (Nat.le_refl _)) zo (hT.below hw0) TB;obtain⟨a0,c0,e0,_,_⟩:=hp 0 zo;obtain⟨b',o',hab,cW⟩:=ha.apm 0 zo e0;obtain⟨rfl,rfl⟩:b=b'/\o=o':=by simp at hab;exact hab
 rw[Nat.zero_mul,Nat.add_zero]at cW;have ME:=xS L cap 0 0 (rfl:(some ⟨b,o,none⟩:Option Addr)=_) Gm rfl;rw[Nat.zero_mul,Nat.add_zero]at ME;obtain⟨n0,hn0⟩:=aB ((Ts 0).length);rw[hn0]at cW;have hlb:b<w.heap.size:=World.block_lt_of_cell? w _ cW.w2.1;obtain⟨Hlk,iG,Hmf,Hp,Ha,HT,HL,JK,JJ,BC,Hw,BK⟩:=fR hlk hcl rX hp ha hT hL CG CF Mz cW ME
 have nS:Hid (∀k,k<L->(jb Ts k).length<=4096/\(Ts k).length<=4096):=λk hk=>⟨Nat.le_trans (Nat.le_trans (Xp Ts k) (Sv Ts k L zo)) hn,by
  have h1:=Sv Ts (k+1) L zo
  rw[show mC Ts (k+1)=mC Ts k++Ts k from rfl,List.length_append]at h1;omega⟩
 clear hlk hcl rX hp ha hT hL CG CF Mz cW ME hC TB hn rY hab e0 hn0;have Hb:Hid (Bw w w):=Below.refl _ _;go_enter Tryz.func60,Tryz.ntmps60;go_wp2_with fail;obtain⟨R,hR⟩:∃R:World->Prop,(λW=>ak W (w.heap.size) 57 [.int .i64 0,.slice none 0 0]/\Bw w W)=R:=⟨_,rfl⟩;first|refine bO R ?hR ?_|refine bK R ?hR ?_
 case hR=>subst hR;exact⟨(ak.newAt w _ _ (b:=w.heap.size) rfl),zl⟩
 subst hR;rintro W ⟨qr,ae⟩;have Hr:=ah qr;clear qr;obtain⟨r0,ai,r1,aj⟩:=Hr.out.g2;replace Hb:=au Hb ae;clear ae;go_wp2_with fail;refine(Hlk.out _ Hb.out).mono ?_;rintro e w1 ⟨rfl,ae⟩;clear r0 ai r1 aj;replace Hr:=kB Hr ae;obtain⟨r0,ai,r1,aj⟩:=Hr.out.g2;replace Hb:=au Hb ae;clear ae;have kD:=Hr;have dM:=Hb;go_wp2_with fail;go_loopw[5,16] (λs5 x wr=>∃(k:Nat) (v:Value),k<=L/\x=.int .i64 (k:Int)/\v=s5/\wr.ownsRow w1.heap.size 107 4 v (jb Ts k).length ((jb Ts k).flatMap aN)/\Bw w1 wr) (λ_ x _=>L-(intOf x).toNat);case atStart=>exact⟨0,_,Nat.zero_le _,rfl,rfl,World.ownsRow_nil _ _ _ _,Below.refl _ _⟩
 case round=>
  clear r0 ai r1 aj Hr Hb;obtain⟨k,v,hk,rfl,rfl,ho,pb⟩:=hrel;have dG:=aJ dM.out pb;have wj:=dM.out.size;have gB:=pb.size;by_cases hlt:k<L
  . have hk2:k<ps.length:=by rw[HL.out];exact hlt
    obtain⟨a1,c1,e1,hpl,hft⟩:=Hp.out k hk2;obtain⟨b',o',hab,cW⟩:=(Ha.out.below dG).apm k hk2 e1;obtain⟨rfl,rfl⟩:b=b'/\o=o':=by simp at hab;exact hab
    have bD:=xS L cap k (k:Int) (rfl:(some ⟨b,o,none⟩:Option Addr)=_) hlt rfl;obtain⟨av,cv,rfl,vd,_⟩:=di ho;have DJ:=sJ ho;have ny:=nS.out k hlt;have UQ:=Hmf.out k zo;have UO:=BC.out k hlt;have hsk:=hpl.2.1;have Hm:Hid (∀W,Bw wr W->Calls Tryz.prog 99 #[.slice av (jb Ts k).length cv,.slice a1 (Ts k).length c1,.func (.func 100) #[] #[],.func (.func 101) #[] #[]] W λe w'=>∃v',e=.returned v'/\w'.ownsRow w1.heap.size 107 4 v' (jb Ts (k+1)).length ((jb Ts (k+1)).flatMap aN)/\Bw W w'):=by intro W hW;refine(Xk av _ cv (jb Ts k) a1 _ c1 (Ts k) (B+L) W rfl rfl DJ hsk zo zo (vd.below hW) (hpl.1.below (aJ dG hW)) (λt ht=>(UQ t ht).mono zo) (λt ht=>(UO t ht).mono zo) zo (HT.out.below (aJ dG hW))).mono ?_;rintro e w' ⟨v',rfl,h1,h2⟩;exact⟨v',rfl,pU h1 (by have:=hW.size;omega),h2⟩
    obtain⟨nv,oD⟩:=aB ((jb Ts k).length);obtain⟨nT,xJ⟩:=aB ((Ts k).length);rw[oD,xJ]at Hm;rw[xJ]at cW;have Hx:Hid (aV wr b (o+k*2) [.int .i64 (V:Int),.slice a1 nT c1]):=cW;have aO:=ah pb;rw[oD];clear cW hab e1 xJ oD hpl hft ho vd DJ ny UQ UO hsk pb dG;have Hb:Hid (Bw wr wr):=Below.refl _ _;obtain⟨x0,x1⟩:=Hx.out.w2;have P0:=x0;have P1:=x1;obtain⟨W3,CZ,ae,Hv⟩:=cN wr 57 [.int .i64 (V:Int),.slice a1 nT c1];clear x0 x1;replace Hx:=kW Hx ae;obtain⟨x0,x1⟩:=Hx.out.w2;obtain⟨v0,v1⟩:=Hv.out.c2;replace Hb:=au Hb ae;clear ae;have LA:=JK.out;have FW:=JJ.out;go_wp2_with fail;refine(Hm.out _ Hb.out).mono ?_;rintro e w4 ⟨v',rfl,VA,hb4⟩;have dK:=aJ aO.out (aJ Hb.out hb4);obtain⟨Ho4,fL⟩:=aL VA dK;clear LA FW VA dK hb4;go_wp2;go_roundw;case rel=>exact⟨k+1,v',by omega,by go_num,rfl,Ho4.out,fL.out⟩
    case measure=>simp[intOf];omega
  . obtain rfl:k=L:=by omega
    obtain⟨av,cv,rfl,_,_⟩:=di ho;have Hx:=ah (Hw.out.below dG);have Hb:Hid (Bw w wr):=dG;obtain⟨cM,aO,Hr⟩:=cL ho pb (kD.out.below pb);have bD:=BK.out;clear ho pb dG;obtain⟨x0,x1⟩:=Hx.out.w2;obtain⟨r0,ai,r1,aj⟩:=Hr.out.g2;have abQ:Hid (aV w1 b o [.int .i64 (V:Int),.slice a0 n0 c0]):=Hw.out.below dM.out;go_wp2_with fail;refine(iG.out w1 _ _ dM.out aO.out cM.out).mono ?_;rintro e w6 ⟨a2,d2,rfl,dO,ae⟩;clear x0 x1 r0 ai r1 aj;replace Hx:=ah (abQ.out.below ae);replace Hr:=ah (kD.out.below ae);obtain⟨x0,x1⟩:=Hx.out.w2;obtain⟨r0,ai,r1,aj⟩:=Hr.out.g2;replace Hb:=ah (aJ dM.out ae);clear ae;go_wp2;refine yV (Hr.out) dO Hb.out zo ?_;intro w9 oF gy lI;obtain⟨q0,q1⟩:=oF.c2;exact bodyPost_ret (v:=.tuple #[.agg #[.int .i64 (V:Int),.slice a2 C.length d2],.int .i64 0]) (by simp[results,Tryz.results60,go_sem,q0,q1]) rfl ⟨_,_,rfl,Ee gy,lI⟩
end Go.Proofs.YtdaadlblknpipaaGreatDoor
