/- The reference of chapter 15: Det. -/
import Derived.Test.YtoopepmmepmfnaaGreatDoorZ9
import Derived.Test.YtoopepmmepmfnaaGreatDoorZ27
import Derived.Test.YtoopepmmepmfnaaGreatDoorZ28
import Derived.Test.YtoopepmmepmfnaaGreatDoorZ16
import Derived.Test.YtoopepmmepmfnaaGreatDoorZ13
import Derived.Test.YtoopepmmepmfnaaGreatDoorZ7
import Derived.Test.YtoopepmmepmfnaaGreatDoorZ25
import Derived.Test.YtoopepmmepmfnaaGreatDoorZ14
import Derived.Test.YtoopepmmepmfnaaGreatDoorZ23
set_option linter.unusedVariables false
set_option linter.unusedSimpArgs false
set_option maxRecDepth 100000
set_option maxHeartbeats 16000000
namespace Go.Proofs.YtoopepmmepmfnaaGreatDoor
open Go.RowKit
attribute [local go_sem ↓] Go.wp_at_zero Go.wp_at_succ
theorem At.pre {w:World}{a:Option Addr}{xs ys:List Value}(h:At w a (xs++ys)):At w a xs:=by
 rcases h with h|⟨b,o,rfl,hc⟩
 . exact .inl (List.append_eq_nil_iff.1 h).1
 . by_cases h0:xs=[]
   . exact .inl h0
   . refine .inr ⟨b,o,rfl,λj hj=>?_⟩;rw[hc j (by rw[List.length_append];omega),List.getElem?_append_left hj]
theorem AK (x:List Raw):(x.flatMap bI).length=x.length*3:=nM bI 3 (λ_=>rfl) x
theorem aoq (x:List Raw)(k:Nat)(hk:k<=x.length):(x.drop k).flatMap bI=(x.flatMap bI).drop (k*3):=by
 have e0:x.flatMap bI=(x.take k).flatMap bI++(x.drop k).flatMap bI:=by rw[<-List.flatMap_append,List.take_append_drop]
 have e1:((x.take k).flatMap bI).length=k*3:=by rw[AK,List.length_take,Nat.min_eq_left hk]
 rw[e0,<-e1,List.drop_left]
theorem At.axs {w:World}{a:Option Addr}{x:List Raw}(h:At w a (x.flatMap bI))(k:Nat):At w a ((x.take k).flatMap bI):=by
 have e0:x.flatMap bI=(x.take k).flatMap bI++(x.drop k).flatMap bI:=by rw[<-List.flatMap_append,List.take_append_drop]
 rw[e0]at h;exact h.pre
theorem At.axk {w:World}{a:Option Addr}{x:List Raw}{n cap:Nat}(h:At w a (x.flatMap bI))(k:Nat)(hn:x.length=n)(hk:k<=n)(hc:n<=cap):At w (if cap=k then a else a.map (·.add (k*3))) ((x.drop k).flatMap bI):=by rw[aoq x k zo];exact At.cut (size:=3) (n:=n) h (by rw[AK,hn]) hk hc
theorem aj7 {B:Nat}{R:List (List Dyadic)}{n:Nat}(hL:R.length=n)(hrow:∀x∈R,x.length=n)(hsm:∀x∈R,∀d∈x,Sm B d)(i j:Nat)(hi:i<n)(hj:j<n):Sm B (bU R i j):=by
 have hk:i<R.length:=by omega
 have hk2:j<R[i].length:=by rw[hrow _ (List.getElem_mem hk)];exact hj
 have e:bU R i j=R[i][j]:=by unfold bU;simp[List.getD_eq_getElem?_getD,hk,hk2]
 rw[e];exact hsm _ (List.getElem_mem hk) _ (List.getElem_mem hk2)
theorem aj5 {R:List (List Dyadic)}(i j:Nat)(hi:i<R.length)(hj:j<R[i].length):bU R i j=R[i][j]:=by unfold bU;simp[List.getD_eq_getElem?_getD,hi,hj]
theorem apP {B m:Nat}{e:Nat->Nat->Dyadic}(hm:m+1<=4)(h:∀i j,i<m+1->j<m+1->Sm B (e i j))(k:Nat):k<=m+1->Sm (5*B+6+k) (ng (cH m) e k):=by
 induction k with
 |zero=>intro _;exact Sm.zero _
 | succ k ih=>
   intro hk;have h1:=ih zo;have h2:Sm (4*B+6) (cH m (gK e 0 k)):=Cs zo (λa b ha hb=>h _ _ (by split<;>omega) (by split<;>omega));have h3:Sm (5*B+6+k) (e 0 k*cH m (gK e 0 k)):=(Sm.mul (h 0 k zo zo) h2).mono zo;rw[ng];split
   . exact Sm.add h1 h3.neg
   . exact Sm.add h1 h3
theorem mG.axl {w:World}{a:Option Addr}{R:List (List Dyadic)}{n:Nat}(h:mG w a (R.map λx=>x.map canon))(hL:R.length=n)(hrow:∀x∈R,x.length=n)(i:Nat)(hi:i<n):
 ∃b o b1 o1 c1,∃x:List Raw,a=some ⟨b,o,none⟩/\(R.getD i []).map canon=x/\x.length=n/\w.cell? ⟨b,o+i,none⟩=some (.slice (some ⟨b1,o1,none⟩) n c1)/\At w (some ⟨b1,o1,none⟩) (x.flatMap bI)/\n<=c1:=by
 have hk:i<R.length:=by omega
 obtain⟨b,o,a1,c1,h1,h2,h3,h4⟩:=h.row i (by simp[hk]);have e1:(R.map λx=>x.map canon)[i]'(by simp[hk])=R[i].map canon:=by simp
 have hxl:=hrow _ (List.getElem_mem hk);rw[e1]at h2 h3 h4;rw[List.length_map,hxl]at h2 h4;rcases h3 with h3|⟨b1,o1,rfl,h3⟩
 . have:=congrArg List.length h3;rw[AK,List.length_map,hxl]at this;simp at this;omega
 . exact⟨b,o,b1,o1,c1,_,h1,rfl,by simp[List.getD_eq_getElem?_getD,hk,hxl],h2,by simp only[List.getD_eq_getElem?_getD,List.getElem?_eq_getElem hk,Option.getD_some];exact .inr ⟨b1,o1,rfl,h3⟩,h4.1⟩
theorem anO (R:List (List Dyadic))(k m:Nat)(hL:R.length=m+1)(j:Nat)(hj:j<m):((iQ R 0 k).map λx=>x.map canon).getD j []=((R.getD (j+1) []).map canon).take k++((R.getD (j+1) []).map canon).drop (k+1):=by
 have h:=Sd R 0 k m hL zo j hj;rw[if_neg zo]at h;have hl:j<(iQ R 0 k).length:=by rw[Ib R 0 k m hL zo];exact hj
 have h2:(iQ R 0 k)[j]=(R.getD (j+1) []).eraseIdx k:=by rw[<-h];simp[List.getD_eq_getElem?_getD,hl]
 rw[<-List.eraseIdx_eq_take_drop_succ,Xb,<-h2];simp[List.getD_eq_getElem?_getD,hl]
theorem apy (n:Nat):n<=4->∀(a:Option Addr) (cap B:Nat) (R:List (List Dyadic)) (w:World),R.length=n->(∀x∈R,x.length=n)->(∀x∈R,∀d∈x,Sm B d)->B<=2000->mG w a (R.map λx=>x.map canon)->Sl a n cap->
 Calls Tryz.prog 104 #[.slice a n cap] w λe w'=>e=.returned (bL (cH n (bU R)))/\Bw w w':=by
 induction n with
 | zero=>
   intro _ a cap B R w _ _ _ _ _ _;obtain⟨D,hD⟩:∃D:Dyadic,Dyadic.ofIntWithPrec 1 0=D:=⟨_,rfl⟩;have XC:cH 0 (bU R)=D:=by rw[<-hD];rfl
   have hof:∀W,Calls Tryz.prog 52 #[af 1] W λe w'=>e=.returned (bL D)/\Bw W w':=λW=>Mf 1 D hD W zd;rw[XC];have rA:=ai hof;clear hof hD XC;obtain⟨W,cg,Hb,Hr⟩:=fJ w 39 [ag false,.string ⟨#[]⟩,af 0];obtain⟨r0,aj,r1,ak,r2,aF⟩:=Hr.out.g3;go_enter Tryz.func104,Tryz.ntmps104;go_wp2_with fail;refine(rA.out _).mono ?_;rintro e w1 ⟨rfl,ae⟩;clear r0 aj r1 ak r2 aF;obtain⟨Hr,r0,aj,r1,ak,r2,aF⟩:=aN Hr ae;replace Hb:=aB Hb ae;clear ae;go_wp2;clear r0 aj r1 ak r2 aF;refine dW (bC w1 (w.heap.size) 0 [ag (au (dN D)),ah (nt (dN D).natAbs),af (dE D)]) bJ ?_;intro w9 hs;replace Hr:=bP Hr hs;obtain⟨r0,aj,r1,ak,r2,aF⟩:=Hr.out.g3;replace Hb:=bS Hb hs ZS;clear hs;refine bodyPost_ret (v:=bL D) (by simp[results,Tryz.results104,go_sem,r0,r1,r2]) rfl ⟨rfl,Hb.out⟩
 | succ m ih=>
   intro hm a cap B R w hL hrow hsm hB ha hsl;obtain⟨i0,hi,hz0,hz1,hz2⟩:=info_parts Tryz.aw4;obtain⟨j0,hj,hy0,hy1,hy2⟩:=info_parts Tryz.aw8;have hG:cH (m+1) (bU R)=ng (cH m) (bU R) (m+1):=by rw[<-acp (m+1) hm,<-(funext (λe=>acp m zo e):oh m=cH m)];rfl
   have hent:=aj7 hL hrow hsm;have KA:=apP (B:=B) (e:=bU R) hm hent;have PL:ng (cH m) (bU R) 0=0:=rfl;have ux:∀k,ng (cH m) (bU R) (k+1)=ng (cH m) (bU R) k+(if k%2=1 then-(bU R 0 k*cH m (gK (bU R) 0 k))else bU R 0 k*cH m (gK (bU R) 0 k)):=λk=>rfl;have hV:∀k,k<m+1->Sm (4*B+6) (cH m (gK (bU R) 0 k)):=λk hk=>Cs zo (λa b ha hb=>hent _ _ (by split<;>omega) (by split<;>omega));have oY:=λk (hk:k<m+1) a' c' W (h1:mG W a' ((iQ R 0 k).map λx=>x.map canon)) (h2:Sl a' m c')=>ih zo a' c' B (iQ R 0 k) W (Ib R 0 k m hL zo) (Sg R 0 k m hrow zo) (abF hsm 0 k) hB h1 h2;have QB:=λk (hk:k<m+1)=>abE R 0 k m hL hrow zo zo zo;have rV:=λW (hW:Bw w W) i (hi:i<m+1)=>(ha.below hW).axl hL hrow i hi;have hmr:=λk j (hj:j<m)=>anO R k m hL j hj;have xJ:=λk=>Ib R 0 k m hL zo;have mh:∀k (hk:k<m+1) (x:List Raw),(R.getD 0 []).map canon=x->∀(h:k<x.length),x[k]=canon (bU R 0 k):=by
    rintro k hk x rfl h;have h0:0<R.length:=by omega
    have hk2:k<R[0].length:=by rw[hrow _ (List.getElem_mem h0)];exact hk
    rw[aj5 0 k h0 hk2];simp[List.getD_eq_getElem?_getD,h0]
   have hU:∀k,k<m+1->Sm B (bU R 0 k):=λk hk=>hent 0 k zo hk;rw[hG];obtain⟨G,PM⟩:=aG (ng (cH m) (bU R));obtain⟨U,FK⟩:=aG (bU R 0);obtain⟨V,FO⟩:∃V:Nat->Dyadic,(λk=>cH m (gK (bU R) 0 k))=V:=⟨_,rfl⟩;have FQ:∀k,cH m (gK (bU R) 0 k)=V k:=λk=>by rw[<-FO]
   simp only[FQ,FK,PM]at KA PL ux hV QB mh hU;rw[PM];have QC:∀k,k<m+1->∀a' c' W,mG W a' ((iQ R 0 k).map λx=>x.map canon)->Sl a' m c'->Calls Tryz.prog 104 #[.slice a' m c'] W λe w'=>e=.returned (bL (V k))/\Bw W w':=λk hk a' c' W h1 h2=>by have h:=oY k hk a' c' W h1 h2;rwa [QB k hk]at h
   clear oY QB hent hG FQ FO FK PM ih ha hsm hrow;obtain⟨N,hN⟩:=aG (m+1);rw[hN]at hsl KA hV rV mh hU QC⊢;have hcap:=hsl.1;have hN4:N<=4:=by omega
   have hNp:1<=N:=by omega
   obtain⟨Hi,dF,dG,dm,Hj,jA,kz,kC,HGm,HG0,HGs,HV⟩:=gB hi hz0 hz1 hz2 hj hy0 hy1 hy2 KA PL ux hV;obtain⟨HU,Hdt,BU,Hmr,Hml,NM,HN⟩:=jT hU QC rV hmr xJ mh hN;have hmN:m<N:=by omega
   clear hi hz0 hz1 hz2 hj hy0 hy1 hy2 KA PL ux hV hU QC rV hmr xJ mh hN hL hsl;have hN0:((N:Int)==0)=false:=by simp;omega
   have XW:¬N=0:=by omega
   obtain⟨W,cg,Hb,Hr,Hs⟩:=iq w 39 [ag false,.string ⟨#[]⟩,af 0] 39 [ag false,.string ⟨#[]⟩,af 0];obtain⟨r0,aj,r1,ak,r2,aF⟩:=Hr.out.g3;obtain⟨s0,bf,s1,bg,s2,bB⟩:=Hs.out.g3;go_enter Tryz.func104,Tryz.ntmps104;go_wp2_with fail;clear r0 aj r1 ak r2 aF s0 bf s1 bg s2 bB;first|refine cf (bC W (w.heap.size+1) 0 [ag false,.string ⟨#[]⟩,af 0]) bJ ?_|refine bZ (bC W (w.heap.size+1) 0 [ag false,.string ⟨#[]⟩,af 0]) bJ ?_
   intro w1 hs;replace Hr:=kS Hr hs zo;replace Hs:=bP Hs hs;obtain⟨r0,aj,r1,ak,r2,aF⟩:=Hr.out.g3;obtain⟨s0,bf,s1,bg,s2,bB⟩:=Hs.out.g3;replace Hb:=bS Hb hs ZS;clear hs;have lr:=Hr.out.lt;have ls:=Hs.out.lt;go_wp2_with fail;go_loopw[4] (λi wr=>∃(k:Nat) (X:Dyadic),k<=N/\i=af (k:Int)/\G k=X/\ar wr w.heap.size 39 [ag false,.string ⟨#[]⟩,af 0]/\ar wr (w.heap.size+1) 39 (bI (canon X))/\Bw w wr) (λi _=>N-(intOf i).toNat);case atStart=>exact⟨0,0,Nat.zero_le _,rfl,HG0.out,Hr.out,Hs.out,Hb.out⟩
   case round=>
    clear r0 r1 r2 aj ak aF s0 s1 s2 bf bg bB Hr Hs;obtain⟨k,X,hk,rfl,hX,pr,ps,pb⟩:=hrel;by_cases hlt:k<N
    . have Hr:=ai pr;have Hs:Hid (ar wr (w.heap.size+1) 39 [ag (au (dN X)),ah (nt (dN X).natAbs),af (dE X)]):=ps;obtain⟨fP,HX⟩:=aO pb hX;have Mp:=pb.size;clear pr ps pb hX Hb;obtain⟨wo,hwo⟩:∃wo,wo=wr:=⟨_,rfl⟩;subst hwo;obtain⟨S,hS⟩:=aG ((iQ R 0 k).map λx=>x.map canon);have gT:S.length=m:=by rw[<-hS,List.length_map];exact Hml.out k
      have mL:∀j,j<m->S.getD j []=((R.getD (j+1) []).map canon).take k++((R.getD (j+1) []).map canon).drop (k+1):=λj hj=>by rw[<-hS];exact Hmr.out k j hj
      have oY:=Hdt.out k hlt;rw[hS]at oY;obtain⟨Ea,ub,afe⟩:=cL gT mL oY;clear hS gT mL oY;have nU:(k:Int)<(N:Int):=by omega
      go_wp2_with fail;go_loopw[5,6] (λs5 x wr=>∃(i:Nat) (v:Value),1<=i/\i<=N/\x=af (i:Int)/\v=s5/\nI 49 wr wo.heap.size S (i-1) v/\Bw wo wr) (λ_ x _=>N-(intOf x).toNat);case atStart=>exact⟨1,_,Nat.le_refl _,hNp,rfl,rfl,nI.nil _ _ _ _,Below.refl _ _⟩
      case round=>
       obtain⟨i,v,hi1,hiN,rfl,rfl,pv,pb⟩:=hrel;by_cases bG:i<N
       . obtain⟨b,o,b1,o1,c1,x,rfl,hx,hxl,hc1,hat,hnc⟩:=BU.out wr (aJ fP.out pb) i bG;have bK:=xS N cap i (i:Int) (rfl:(some ⟨b,o,none⟩:Option Addr)=_) bG rfl;rw[Nat.mul_one]at bK;obtain⟨j,hj⟩:=aG (i-1);have nR:i+1-1=j+1:=by omega
         have hjm:j<m:=by have:=HN.out;omega
         have zS:=ub.out j hjm;rw[show j+1=i by omega,hx]at zS;rw[hj]at pv;have hvl:=pv.lt;have lj:=hat.axs k;have jm:=hat.axk (n:=N) (cap:=c1) (k+1) hxl zo hnc;have xG:((x.take k).flatMap bI).length=k*3:=by rw[AK,List.length_take,Nat.min_eq_left zo]
         have hl2:((x.drop (k+1)).flatMap bI).length=(N-(k+1)) *3:=by rw[AK,List.length_drop,hxl]
         have Gj:(x.take k++x.drop (k+1)).length=k+(N-(k+1)):=by rw[List.length_append,List.length_take,List.length_drop,hxl,Nat.min_eq_left zo]
         have hsc:=(Sl.some ⟨b1,o1,none⟩ N c1 hnc).cut (k:=k+1) (size:=3) zo;have hkc:k<=c1:=by omega
         have hk1:k+1<=N:=by omega
         have KX:k+1<=c1:=by omega
         have iy:=pb.size;obtain⟨dS,bu,pJ,sB,Eu,nD,Ns,jz,Jb,BF,lK,Et⟩:=gB pv pb lj jm xG hl2 Gj hsc zS hc1 hvl nR;clear pv pb lj jm xG hl2 Gj hsc zS hvl hx hxl hat nR hj;have alr:(wr.alloc (.cells #[] 39)).cell? ⟨b,o+i,none⟩=some (.slice (some ⟨b1,o1,none⟩) N c1):=aL hc1;go_wp2_with (at_builtin;first| (refine rp rfl _ _ 49 rfl wr.heap.size 39 i0 _ 3 32 Tryz.underlying49 Hi.out dF.out dG.out dm.out rfl zd _ 0 [] rfl (World.ownsRow_made wr #[] 0 (Nat.le_refl _) (Nat.zero_le _) zm) (some ⟨b1,o1,none⟩) k c1 ((x.take k).flatMap bI) rfl (Sl.some _ _ _ hkc) Eu.out (pJ.out.below ((Below.refl _ wr).alloc (Nat.le_refl _) _)) (De _) zx zo zm ?_;intro v1 w1 ej hg1 Aj;have hb1:=((Below.refl _ wr).alloc (Nat.le_refl _) _).grown hg1 zm (λk hk=>by have h9:wr.heap.size=k:=Option.some.inj hk;omega);rw[Nat.zero_add,List.nil_append]at ej;have hc2:=cell_later hb1 BF.out;obtain⟨nH,bW⟩:=aO ej hb1;have tW:=hb1.size;clear ej hb1 hg1 Aj hc1 alr) | (refine rp rfl _ _ 49 rfl wr.heap.size 39 i0 _ 3 32 Tryz.underlying49 Hi.out dF.out dG.out dm.out rfl zd v1 k ((x.take k).flatMap bI) rfl nH.out _ (N-(k+1)) (c1-(k+1)) ((x.drop (k+1)).flatMap bI) rfl jz.out nD.out (sB.out.below bW.out) (De _) zx zo zo ?_;intro v2 w2 eO hg2 al0;obtain⟨av,cv,rfl,_,_⟩:=eo eO;have hb2:=bW.out.grown hg2 zo (λj e=>dz nH.out j e);have hq2:Pd w2 v.ownBlock (.slice av (k+(N-(k+1))) cv) (x.take k++x.drop (k+1)):=Pd.own (by rw[List.flatMap_append];exact eO) Ns.out (λg hg=>(lK.out g hg).2);obtain⟨cw,ED⟩:=aO hb2 hq2;have Dx:=hb2.size;clear eO hg2 al0 hb2 hq2) | (go_loud (refine adG rfl _ _ 124 rfl wo.heap.size 49 j0 _ Tryz.underlying124 Hj.out jA.out kz.out kC.out rfl v j S rfl ((dS.out.below cw.out).below zl) w2.heap.size 1 (.slice av (k+(N-(k+1))) cv) rfl ((ar.new w2 49 [.slice av (k+(N-(k+1))) cv]).cell 0) (by rw[Jb.out];exact ED.out.below zl) zo zi ?_);intro v3 w3 CN hg3 Ra));have hb3:=(aJ (aJ bu.out cw.out) zl).grown hg3 zi Ra;go_roundw;case rel=>exact⟨i+1,v3,by omega,by omega,by go_num,rfl,by rw[Et.out];exact CN,hb3⟩
         case measure=>simp[intOf];omega
       . obtain rfl:i=N:=by omega
         rw[show i-1=m by have:=HN.out;omega]at pv;obtain⟨a5,c5,rfl,GG,GJ⟩:=pv.tbl Ea.out;obtain⟨b,o,b1,o1,c1,x,rfl,hx,hxl,hc1,hat,hnc⟩:=BU.out wr (aJ fP.out pb) 0 zo;have gA:k<x.length:=by rw[hxl];exact hlt
         have hxk:=NM.out k hlt x hx gA;obtain⟨D,hD⟩:=aG (U k);obtain⟨E,hE⟩:=aG (V k);obtain⟨Y,hY⟩:=aG (D*E);have eV:=HU.out k hlt;have fN:=HV.out k hlt;have dM:=HGm.out k zo;have hst:=HGs.out k;have oY:=afe.out a5 c5;rw[hD]at eV;rw[hE]at fN oY;rw[HX.out]at dM hst;rw[hD,hE,hY]at hst;rw[hD]at hxk;obtain⟨b2,o2,fA,p0,p1,p2⟩:=hat.num k gA (show x[k]=(au (dN D),nt (dN D).natAbs,dE D)from hxk);simp only[Option.some.injEq,Addr.mk.injEq,and_true]at fA;obtain⟨rfl,rfl⟩:=fA;have fT:Sm (5*B+6) Y:=by rw[<-hY];exact(Sm.mul eV fN).mono zo
         have bK:=xS i cap 0 0 (rfl:(some ⟨b,o,none⟩:Option Addr)=_) zo rfl;have kJ:=qH i c1 k (k:Int) (rfl:(some ⟨b1,o1,none⟩:Option Addr)=_) hlt rfl;rw[Nat.zero_mul,Nat.add_zero]at bK;rw[Nat.add_zero]at hc1;have Hu:Hid (bH wr b o [.slice (some ⟨b1,o1,none⟩) i c1]):=λj hj=>by
          obtain rfl:j=0:=by simp at hj;omega
          exact hc1
         have Hp:Hid (bH wr b1 (o1+k*3) [ag (au (dN D)),ah (nt (dN D).natAbs),af (dE D)]):=kv p0 p1 p2;have xK:∀W,Calls Tryz.prog 51 #[.agg #[ag (au (dN D)),ah (nt (dN D).natAbs),af (dE D)],.agg #[ag (au (dN E)),ah (nt (dN E).natAbs),af (dE E)]] W λe w'=>e=.returned (bL Y)/\Bw W w':=λW=>Bf _ _ _ _ _ _ Y (by show az (canon D) *az (canon E)=Y;rw[bD,bD];exact hY) W (eV.aw1 zo) (fN.aw1 zo);have Za:=λW (hW:Bw wr W)=>oY W (GJ.below hW) GG;obtain⟨NA,Hdw,sw,pI,bX,bu⟩:=gW xK Za fT dM hst pb;have iy:=pb.size;clear xK Za fT dM hst pb oY fN eV hY hE hD hxk hx hxl hat hc1 p0 p1 p2 GJ GG pv gA;have Hb:Hid (Bw wr wr):=Below.refl _ _;go_upto_region 13 with fail
         go_cut[8] (λs8 wx=>∃g:Nat,s8=.pointer (some ⟨g,0,none⟩)/\wr.heap.size<=g/\ar wx g 39 [ag (au (dN Y)),ah (nt (dN Y).natAbs),af (dE Y)]/\Bw wr wx);case first=>
          have u0:=Hu.out.w1;obtain⟨p0,p1,p2⟩:=Hp.out.w3;have iT:∀w',fL wr w'->aC w' b o (.slice (some ⟨b1,o1,none⟩) i c1)/\aC w' b1 (o1+k*3) (ag (au (dN D)))/\aC w' b1 (o1+k*3+1) (ah (nt (dN D).natAbs))/\aC w' b1 (o1+k*3+2) (af (dE D)):=λw' h=>⟨cell_later h u0,cell_later h p0,cell_later h p1,cell_later h p2⟩;refine DL (λw'=>fL wr w') (λi=>Nat.blt i 10) 9 39 [ag false,.string ⟨#[]⟩,af 0] [(0,true),(1,true),(2,true),(3,true),(4,true),(5,true),(6,true),(7,false),(8,false)] [(10,false)] zk zk rfl rfl rfl zk zk zc zc (λK a w h=>Di rfl rfl (λK' hK=>by go_simp;exact hK _ _ h)) ?_;clear u0 p0 p1 p2 Hu Hp;intro wrf ae;replace Hb:=ai (aJ Hb.out ae);refine⟨Hb.out,?_⟩;clear ae;iterate 7 (refine Ba rfl rfl (v:=?_) (λw' hw'=>?_) ?_;rotate_left;(focus have hw':=iT w' hw';obtain⟨q0,q1,q2,q3⟩:=hw';go_simp;try with_reducible rfl);try simp only[UU])
          refine lF rfl rfl (λK hK=>?_);go_simp;with_reducible refine(Hdw.out _ Hb.out).mono ?_
          rintro e w9 ⟨rfl,hq⟩;refine hK _ _ hq (λw7 ae hb2=>?_);replace Hb:=ai (aJ Hb.out ae);refine⟨Hb.out,?_⟩;clear ae hb2 hq hK K;try simp only[UU]
          refine lF rfl rfl (λK hK=>?_);go_simp;with_reducible refine(NA.out _).mono ?_
          rintro e w9 ⟨rfl,hq⟩;refine hK _ _ hq (λw8 ae hb2=>?_);replace Hb:=ai (aJ Hb.out ae);refine⟨Hb.out,?_⟩;clear ae hb2 hq hK K;try simp only[UU]
          intro z_b hb0 qx;have Hz:=ai qx;clear qx;obtain⟨z0,rP,z1,oX,z2,Kk⟩:=Hz.out.g3;try simp only[UU]
          refine aI rfl rfl (λK hK=>?_);go_simp;refine hK _ _ (λh=>absurd h zd) ?_;clear hK K;try simp only[UU]
          simp only[bi];go_wp2_with fail;go_meet;exact⟨z_b,rfl,hb0,((Hz.out.set 0 _).set 1 _).set 2 _,((Hb.out.setCell zp _).setCell zp _).setCell zp _⟩
         case rest=>
          obtain⟨g,rfl,hg,qd,qb⟩:=hcut;have dY:=aJ bu.out qb;obtain⟨yV,mF⟩:=aO (Hr.out.below dY) (Hs.out.below dY);have lr2:=Hr.out.lt;have RX:=Hs.out.lt;have lg:=qd.lt;obtain⟨lI,wO⟩:=aO (aJ fP.out dY) qd;clear qd qb dY Hb Hu Hp;obtain⟨Z,hZ⟩:=aG (if k%2=1 then-Y else Y);obtain⟨X2,pX⟩:=aG (X+Z);have hst:=bX.out;rw[hZ,pX]at hst;have vK:Sm (5*B+6) Z:=by rw[<-hZ];split;exact sw.out.neg;exact sw.out
          have hpl:∀W,Calls Tryz.prog 49 #[.agg #[ag (au (dN X)),ah (nt (dN X).natAbs),af (dE X)],.agg #[ag (au (dN Z)),ah (nt (dN Z).natAbs),af (dE Z)]] W λe w'=>e=.returned (bL X2)/\Bw W w':=λW=>Iw _ _ _ _ _ _ X2 (by show az (canon X)+az (canon Z)=X2;rw[bD,bD];exact pX) W (pI.out.aw1 zo) (vK.aw1 zo);have Gn:k%2=1->∀W,Calls Tryz.prog 125 #[.agg #[ag (au (dN Y)),ah (nt (dN Y).natAbs),af (dE Y)]] W λe w'=>e=.returned (bL Z)/\Bw W w':=λh W=>SS _ _ _ Z (by show-az (canon Y)=Z;rw[bD,<-hZ,if_pos h]) W (sw.out.aw1 zo);have Qt:¬k%2=1->Y=Z:=λh=>by rw[<-hZ,if_neg h]
          obtain⟨sL,jY,NE⟩:=cL hst hpl Gn;clear hst hpl Gn vK pX hZ;have Hb:=lI;have Hr:=yV;have Hs:=mF;have Hd:=wO;have hk4:k<=4:=by omega
          obtain⟨r0,r1,r2⟩:=Hr.out.c3;obtain⟨s0,bf,s1,bg,s2,bB⟩:=Hs.out.g3;obtain⟨d0,rL,d1,rM,d2,rN⟩:=Hd.out.g3;by_cases hp:k%2=1
          case neg=>
           obtain rfl:=Qt hp;clear Qt;have hkb:((k:Int)%2==1)=false:=by simp;omega
           go_wp2_with fail;refine(jY.out _).mono ?_;rintro e w7 ⟨rfl,ae⟩;clear r0 r1 r2 s0 bf s1 bg s2 bB d0 rL d1 rM d2 rN;obtain⟨Hr,r0,r1,r2⟩:=aQ Hr ae;obtain⟨Hs,s0,bf,s1,bg,s2,bB⟩:=aN Hs ae;obtain⟨Hd,d0,rL,d1,rM,d2,rN⟩:=aN Hd ae;replace Hb:=aB Hb ae;clear ae;go_wp2;go_roundw;case rel=>exact⟨k+1,X2,by omega,by go_num,sL.out,(((Hr.out.so (w.heap.size+1) 0 zo _).so (w.heap.size+1) 1 zo _).so (w.heap.size+1) 2 zo _),((Hs.out.set 0 _).set 1 _).set 2 _,(((Hb.out.sc (w.heap.size+1) 0 ZS _).sc (w.heap.size+1) 1 ZS _).sc (w.heap.size+1) 2 ZS _)⟩
           case measure=>simp[intOf];omega
          clear Qt;have hkb:((k:Int)%2==1)=true:=by simp;omega
          go_wp2_with fail;refine(NE.out hp _).mono ?_;rintro e w7 ⟨rfl,ae⟩;clear r0 r1 r2 s0 bf s1 bg s2 bB d0 rL d1 rM d2 rN;obtain⟨Hr,r0,r1,r2⟩:=aQ Hr ae;obtain⟨Hs,s0,bf,s1,bg,s2,bB⟩:=aN Hs ae;obtain⟨Hd,d0,rL,d1,rM,d2,rN⟩:=aN Hd ae;replace Hb:=aB Hb ae;clear ae;go_wp2_with fail;clear r0 r1 r2 s0 bf s1 bg s2 bB d0 rL d1 rM d2 rN;first|refine cf (bC w7 (g) 0 [ag (au (dN Z)),ah (nt (dN Z).natAbs),af (dE Z)]) bJ ?_|refine bZ (bC w7 (g) 0 [ag (au (dN Z)),ah (nt (dN Z).natAbs),af (dE Z)]) bJ ?_
          intro W8 hs;replace Hr:=kS Hr hs zo;replace Hs:=kS Hs hs zo;replace Hd:=bP Hd hs;obtain⟨r0,r1,r2⟩:=Hr.out.c3;obtain⟨s0,bf,s1,bg,s2,bB⟩:=Hs.out.g3;obtain⟨d0,rL,d1,rM,d2,rN⟩:=Hd.out.g3;replace Hb:=bS Hb hs ZS;clear hs;go_wp2_with fail;refine(jY.out _).mono ?_;rintro e w9 ⟨rfl,ae⟩;clear r0 r1 r2 s0 bf s1 bg s2 bB d0 rL d1 rM d2 rN;obtain⟨Hr,r0,r1,r2⟩:=aQ Hr ae;obtain⟨Hs,s0,bf,s1,bg,s2,bB⟩:=aN Hs ae;obtain⟨Hd,d0,rL,d1,rM,d2,rN⟩:=aN Hd ae;replace Hb:=aB Hb ae;clear ae;go_wp2;go_roundw;case rel=>exact⟨k+1,X2,by omega,by go_num,sL.out,(((Hr.out.so (w.heap.size+1) 0 zo _).so (w.heap.size+1) 1 zo _).so (w.heap.size+1) 2 zo _),((Hs.out.set 0 _).set 1 _).set 2 _,(((Hb.out.sc (w.heap.size+1) 0 ZS _).sc (w.heap.size+1) 1 ZS _).sc (w.heap.size+1) 2 ZS _)⟩
          case measure=>simp[intOf];omega
    . obtain rfl:k=N:=by omega
      have Hr:=ai pr;have Hs:Hid (ar wr (w.heap.size+1) 39 [ag (au (dN X)),ah (nt (dN X).natAbs),af (dE X)]):=ps;obtain⟨Hb,HX⟩:=aO pb hX;clear pr ps pb hX;obtain⟨r0,aj,r1,ak,r2,aF⟩:=Hr.out.g3;obtain⟨s0,s1,s2⟩:=Hs.out.c3;go_wp2;clear r0 aj r1 ak r2 aF s0 s1 s2;refine dW (bC wr (w.heap.size) 0 [ag (au (dN X)),ah (nt (dN X).natAbs),af (dE X)]) bJ ?_;intro w9 hs;replace Hr:=bP Hr hs;replace Hs:=kS Hs hs zo;obtain⟨r0,aj,r1,ak,r2,aF⟩:=Hr.out.g3;obtain⟨s0,s1,s2⟩:=Hs.out.c3;replace Hb:=bS Hb hs ZS;clear hs;refine bodyPost_ret (v:=bL X) (by simp[results,Tryz.results104,go_sem,r0,r1,r2]) rfl ⟨by rw[HX.out],Hb.out⟩
theorem Mg (a:Option Addr)(cap n B:Nat)(rows:List (List Raw))(w:World)(hL:rows.length=n+1)(hn:1<=n)(bO:n<=4)(hrow:∀r∈rows,r.length=n)(hfit:∀r∈rows,∀c∈r,ey B c)(hB:B<=1000)(ha:cC w a rows):
 Calls Tryz.prog 61 #[.slice a (n+1) cap] w λe w'=>e=.returned (bL (dw n (bT rows)))/\Bw w w':=by
 obtain⟨i0,hi,hz0,hz1,hz2⟩:=info_parts Tryz.aw4;obtain⟨j0,hj,hy0,hy1,hy2⟩:=info_parts Tryz.aw8;have h00:0<rows.length:=by omega
 have cO:rows.getD 0 []=rows[0]:=by simp[h00]
 obtain⟨S,hS⟩:=aG ((rows.drop 1).map λp=>iW (rows.getD 0 []) p);have gT:S.length=n:=by rw[<-hS];simp[hL]
 have pW:∀r∈S,r.length=n:=by intro r hr;rw[<-hS]at hr;obtain⟨p,hp,rfl⟩:=List.mem_map.1 hr;rw[Ct (by rw[cO,hrow _ (List.mem_of_mem_drop hp),hrow _ (List.getElem_mem h00)]),hrow _ (List.mem_of_mem_drop hp)]
 have ji:∀r∈S,∀d∈r,Sm (B+1) d:=by intro r hr d hd;rw[<-hS]at hr;obtain⟨p,hp,rfl⟩:=List.mem_map.1 hr;unfold iW at hd;obtain⟨i,hi,rfl⟩:=List.mem_iff_getElem.1 hd;rw[List.getElem_zipWith];refine Sm.sub (hfit p (List.mem_of_mem_drop hp) _ (List.getElem_mem _)).2 (hfit (rows.getD 0 []) ?_ _ (List.getElem_mem _)).2;rw[cO];exact List.getElem_mem h00
 have hent:cH n (bU S)=dw n (bT rows):=by rw[vE];refine Cr n bO (λi j hi hj=>?_);rw[<-hS];exact Tf n rows hL hrow i j hi hj
 have mL:∀k (h1:k+1<rows.length),(S.map λx=>x.map canon).getD k []=(iW rows[0] rows[k+1]).map canon:=by
  intro k h1;subst hS;rw[cO];have h2:k<(rows.drop 1).length:=by simp;omega
  simp[List.getD_eq_getElem?_getD,h1]
 have kq:=λa' c' W (h1:mG W a' (S.map λx=>x.map canon)) (h2:Sl a' n c')=>apy n bO a' c' (B+1) S W gT pW ji zo h1 h2;rw[hent]at kq;obtain⟨X,hX⟩:=aG (dw n (bT rows));rw[hX]at kq⊢;obtain⟨T,hT⟩:=aG (S.map λx=>x.map canon);rw[hT]at kq mL;have Yq:T.length=n:=by rw[<-hT,List.length_map,gT]
 obtain⟨zr,mh⟩:=aG (rows[0]);have Ls:=λW (hW:Bw w W) k (hk:k<rows.length)=>(ha.below hW).row k hk;have hw0:=λW (hW:Bw w W)=>Ls W hW 0 h00;have hn0:zr.length=n:=by rw[<-mh];exact hrow _ (List.getElem_mem _)
 have xA:∀x∈zr,ey B x:=by rw[<-mh];exact hfit _ (List.getElem_mem _)
 simp only[mh,hn0]at hw0 mL;obtain⟨Hi,dF,dG,dm,Hj,jA,kz,kC,ub,yL,HTl,Hrw⟩:=gB hi hz0 hz1 hz2 hj hy0 hy1 hy2 mL kq Yq Ls;obtain⟨Ob,rz,Ej,yY,yN,HL⟩:=gW hw0 hn0 xA hrow hfit hL;clear hi hz0 hz1 hz2 hj hy0 hy1 hy2 mL kq Yq Ls hw0 hn0 xA hrow hfit hL h00 cO hS gT pW ji hent hX hT mh ha;obtain⟨W,cg,Hb,Hr⟩:=fJ w 39 [ag false,.string ⟨#[]⟩,af 0];obtain⟨r0,aj,r1,ak,r2,aF⟩:=Hr.out.g3;go_enter Tryz.func61,Tryz.ntmps61;have lr:=Hr.out.lt;go_wp2_with fail;go_loopw[3,4] (λs3 x wr=>∃(i:Nat) (v:Value),1<=i/\i<=n+1/\x=af (i:Int)/\v=s3/\nI 49 wr W.heap.size T (i-1) v/\Bw W wr) (λ_ x _=>n+1-(intOf x).toNat);case atStart=>exact⟨1,_,Nat.le_refl _,by omega,rfl,rfl,nI.nil _ _ _ _,Below.refl _ _⟩
 case round=>
  obtain⟨i,v,hi1,hiN,rfl,rfl,pv,pb⟩:=hrel;by_cases hlt:i<n+1
  . have hk2:i<rows.length:=by rw[HL.out];exact hlt
    obtain⟨j,hj⟩:=aG (i-1);have nR:i+1-1=j+1:=by omega
    obtain⟨p,gm⟩:=aG (rows[i]);obtain⟨b,o,a1,c1,hab,hc1,hat⟩:=Hrw.out wr (aJ Hb.out pb) i hk2;obtain⟨b',o',a0,c0,jk,hc0,jQ⟩:=Ob.out wr (aJ Hb.out pb);obtain⟨rfl,rfl⟩:b'=b/\o'=o:=by rw[jk]at hab;simp at hab;exact hab
    have lA:p.length=n:=by rw[<-gm];exact yY.out _ (List.getElem_mem hk2)
    have kN:∀x∈p,ey B x:=by rw[<-gm];exact yN.out _ (List.getElem_mem hk2)
    have pV:T.getD j []=(iW zr p).map canon:=by have h:=ub.out j zo;rw[h];congr 2;rw[<-gm];congr 1;omega
    rw[gm]at hc1 hat;rw[lA]at hc1;have GR:=kO (n+1) cap 0 0 hab zo rfl;have CW:=kO (n+1) cap i (i:Int) hab hlt rfl;rw[Nat.mul_one]at GR CW;rw[Nat.add_zero]at GR hc0;obtain⟨Z,hZ⟩:=aG (iW zr p);rw[hZ]at pV;have FW:Z.length=n:=by rw[<-hZ,Ct (by rw[lA,rz.out]),lA]
    rw[hj]at pv;have hvl:=pv.lt;obtain⟨eH,kw,pO,ug,wK,HZ,uY,bu,dS,lK,Et,mD⟩:=gB hat jQ lA kN pV hZ FW pb pv hvl nR hab;obtain⟨BF,pK⟩:=aO hc1 hc0;clear hat jQ lA kN pV hZ FW pb pv hvl nR hab jk gm hc1 hc0;have iy:=bu.out.size;have hjn:j<n:=by omega
    clear hj;obtain⟨wc,hwc⟩:∃wc,wc=wr:=⟨_,rfl⟩;subst hwc;have nU:(i:Int)<(n:Int)+1:=by omega
    go_wp2_with fail;go_loopw[5,6] (λs5 x wr=>∃(k:Nat) (v2:Value),k<=n/\x=af (k:Int)/\v2=s5/\wr.ownsRow wc.heap.size 39 3 v2 k (dC (Z.take k))/\Bw wc wr) (λ_ x _=>n-(intOf x).toNat);case atStart=>exact⟨0,_,Nat.zero_le _,rfl,rfl,World.ownsRow_nil _ _ _ _,Below.refl _ _⟩
    case round=>
     obtain⟨k,v2,hk,rfl,rfl,ho,hb2⟩:=hrel;have hc1:=cell_later hb2 BF.out;have hc0:=cell_later hb2 pK.out;by_cases bG:k<n
     . have k1:k<p.length:=by rw[pO.out];exact bG
       have k2:k<zr.length:=by rw[rz.out];exact bG
       obtain⟨sp,mp,ep,gV⟩:=oW (p[k]);obtain⟨sq,mq,eq,mo⟩:=oW (zr[k]);have fH:=ug.out _ (List.getElem_mem k1);have jo:=Ej.out _ (List.getElem_mem k2);rw[gV]at fH;rw[mo]at jo;obtain⟨D,hD⟩:=aG (az (sp,mp,ep)-az (sq,mq,eq));have mF:Hid (dC (Z.take (k+1))=dC (Z.take k)++[ag (au (dN D)),ah (nt (dN D).natAbs),af (dE D)]):=by
        show _=_
        rw[<-HZ.out,WP _ _ _ k1 k2,zD,gV,mo,hD];rfl
       obtain⟨b1,o1,eG,p0,p1,p2⟩:=(eH.out.below hb2).num k k1 gV;obtain⟨b2,o2,fA,q0,q1,q2⟩:=(kw.out.below hb2).num k k2 mo;have QL:=tL n c1 k (k:Int) eG bG rfl;have alL:=tL n c0 k (k:Int) fA bG rfl;have mV:b1<wc.heap.size:=(by subst eG;exact eH.out.lt (by intro h0;have:=congrArg List.length h0;rw[AK]at this;simp at this;omega));have kr:b2<wc.heap.size:=(by subst fA;exact kw.out.lt (by intro h0;have:=congrArg List.length h0;rw[AK]at this;simp at this;omega));have CY:b'<wc.heap.size:=World.block_lt_of_cell? wc _ pK.out;have Hu:Hid (bH wr b' (o'+i) [.slice a1 n c1]):=λj hj=>by
        obtain rfl:j=0:=by simp at hj;omega
        exact cell_later hb2 BF.out
       have Hv:Hid (bH wr b' o' [.slice a0 n c0]):=λj hj=>by
        obtain rfl:j=0:=by simp at hj;omega
        exact cell_later hb2 pK.out
       have Hp:Hid (bH wr b1 (o1+k*3) [ag sp,ah mp,af ep]):=kv p0 p1 p2;have Hq:Hid (bH wr b2 (o2+k*3) [ag sq,ah mq,af eq]):=kv q0 q1 q2;obtain⟨nz,rq,HD,Ho,yG⟩:=gJ fH jo hD ho hb2;have IB:=hb2.size;have fP:=Hb;clear Hb ho hb2 fH jo hD gV mo eG fA p0 p1 p2 q0 q1 q2;have Hb:Hid (Bw wr wr):=Below.refl _ _;go_wp2_with fail;clear hc1 hc0;have u0:=Hu.out.w1;have v0:=Hv.out.w1;obtain⟨p0,p1,p2⟩:=Hp.out.w3;obtain⟨q0,q1,q2⟩:=Hq.out.w3;refine bR (λw'=>aC w' b' (o'+i) (.slice a1 n c1)/\aC w' b' o' (.slice a0 n c0)/\aC w' b1 (o1+k*3) (ag sp)/\aC w' b1 (o1+k*3+1) (ah mp)/\aC w' b1 (o1+k*3+2) (af ep)/\aC w' b2 (o2+k*3) (ag sq)/\aC w' b2 (o2+k*3+1) (ah mq)/\aC w' b2 (o2+k*3+2) (af eq)) (λi=>Nat.blt i 100000) [(0,true),(1,true),(2,true),(3,true),(4,true),(5,true),(6,true),(7,true),(8,true),(9,true),(10,true),(11,true),(12,true),(13,true),(14,false),(15,false),(16,false),(17,true)] zk zk rfl zk zc ⟨u0,v0,p0,p1,p2,q0,q1,q2⟩ ?_;iterate 14 (refine pT rfl rfl ?_ (by intro w' ⟨q0,q1,q2,q3,q4,q5,q6,q7⟩;go_simp;try with_reducible rfl);try simp only[UU])
       refine aI rfl rfl (λK hK=>?_);go_simp;with_reducible refine(Ix sp mp ep sq mq eq D HD.out _ nz.out.1 rq.out.1 (Sm.aw1 (Sm.neg rq.out.2) zo)).mono ?_
       rintro e w5 ⟨rfl,hq⟩;have ae:Bw wr w5:=by first|exact hq|exact aW hq
       clear u0 v0 p0 p1 p2 q0 q1 q2;replace Hu:=kW Hu ae;replace Hv:=kW Hv ae;replace Hp:=kW Hp ae;replace Hq:=kW Hq ae;have u0:=Hu.out.w1;have v0:=Hv.out.w1;obtain⟨p0,p1,p2⟩:=Hp.out.w3;obtain⟨q0,q1,q2⟩:=Hq.out.w3;replace Hb:=aB Hb ae;clear ae;refine hK _ _ (λ_=>⟨u0,v0,p0,p1,p2,q0,q1,q2⟩) ?_;clear hK K;try simp only[UU]
       refine aI rfl rfl (λK hK=>?_);go_simp;refine hK _ _ (λ_=>⟨aL u0,aL v0,aL p0,aL p1,aL p2,aL q0,aL q1,aL q2⟩) ?_;clear hK K;try simp only[UU]
       refine bV (λw7=>ar w7 (w5.heap.size) 39 [ag (au (dN D)),ah (nt (dN D).natAbs),af (dE D)]/\Bw w5 w7) (by first|exact fe|exact fg) ?_;rintro w7 ⟨qc,ae⟩;clear u0 v0 p0 p1 p2 q0 q1 q2;replace Hu:=kW Hu ae;replace Hv:=kW Hv ae;replace Hp:=kW Hp ae;replace Hq:=kW Hq ae;have Hc:=ai qc;clear qc;have u0:=Hu.out.w1;have v0:=Hv.out.w1;obtain⟨p0,p1,p2⟩:=Hp.out.w3;obtain⟨q0,q1,q2⟩:=Hq.out.w3;obtain⟨c0,c1,c2⟩:=Hc.out.c3;replace Hb:=aB Hb ae;clear ae;refine aI rfl rfl (λK hK=>?_);have di:=ownsRow_below Ho.out Hb.out;have jR:=Hb.out.size;refine wp_append_own _ _ _ 49 rfl wc.heap.size 39 i0 _ 3 32 Tryz.underlying49 Hi.out dF.out dG.out dm.out rfl zd v2 k (dC (Z.take k)) rfl di ⟨w5.heap.size,0,none⟩ 1 1 [ag (au (dN D)),ah (nt (dN D).natAbs),af (dE D)] rfl rfl (ic Hc.out) zy zx zo zo ?_;intro v' w8 fB bM _;obtain⟨g',cq,rfl⟩:=ownsRow_succ fB;have nb:∀b,b<wc.heap.size->some b≠v2.ownBlock:=λb hb e=>by have:=dz di b e.symm;omega
       refine hK _ _ (λ_=>⟨cV bM u0 (nb _ CY),cV bM v0 (nb _ CY),cV bM p0 (nb _ mV),cV bM p1 (nb _ mV),cV bM p2 (nb _ mV),cV bM q0 (nb _ kr),cV bM q1 (nb _ kr),cV bM q2 (nb _ kr)⟩) ?_;clear hK K;try simp only[UU]
       refine pT rfl rfl ?_;try simp only[UU]
       simp only[bi];clear u0 v0 p0 p1 p2 q0 q1 q2 c0 c1 c2;go_wp2;go_roundw;case rel=>
        refine⟨k+1,_,by omega,by go_num,rfl,?_,?_⟩
        . rw[mF.out];exact fB
        . exact(aJ yG.out Hb.out).grown bM zo (λj e=>dz di j e)
       case measure=>simp[intOf];omega
     . obtain rfl:k=n:=by omega
       have lV:Z.take k=Z:=List.take_of_length_le (by rw[uY.out];exact Nat.le_refl _);rw[lV,vC]at ho;have hq2:Pd wr v.ownBlock v2 (Z.map canon):=Pd.own ho (by rw[List.length_map];exact uY.out) (λg hg=>(lK.out g hg).2);obtain⟨av,cv,rfl,_,_⟩:=eo ho;obtain⟨ED,cw⟩:=aO hq2 hb2;have Dx:=hb2.size;clear ho hq2 hb2 lV;go_wp2_with (at_builtin;refine adG rfl _ _ 124 rfl W.heap.size 49 j0 _ Tryz.underlying124 Hj.out jA.out kz.out kC.out rfl v j T rfl ((dS.out.below cw.out).below zl) wr.heap.size 1 (.slice av k cv) rfl ((ar.new wr 49 [.slice av k cv]).cell 0) (by rw[wK.out];exact ED.out.below zl) zo zi ?_;intro v3 w3 CN hg3 Ra);have hb3:=(aJ (aJ bu.out cw.out) zl).grown hg3 zi Ra;go_roundw;case rel=>exact⟨i+1,v3,by omega,by omega,by go_num,rfl,by rw[Et.out];exact CN,hb3⟩
       case measure=>simp[intOf];omega
  . obtain rfl:i=n+1:=by omega
    rw[Nat.add_sub_cancel]at pv;obtain⟨a5,c5,rfl,GG,GJ⟩:=pv.tbl HTl.out;have yV:=Hr.out.below pb;have dY:=aJ Hb.out pb;have hd:=yL.out a5 c5 wr GJ GG;have Hd:=ai hd;clear hd pv GJ GG Hb pb r0 r1 r2 aj ak aF Hr;obtain⟨Hb,Hr⟩:=aO dY yV;clear dY yV;obtain⟨r0,aj,r1,ak,r2,aF⟩:=Hr.out.g3;go_wp2_with fail;refine(Hd.out).mono ?_;rintro e w5 ⟨rfl,ae⟩;clear r0 aj r1 ak r2 aF;obtain⟨Hr,r0,aj,r1,ak,r2,aF⟩:=aN Hr ae;replace Hb:=aB Hb ae;clear ae;go_wp2;clear r0 aj r1 ak r2 aF;refine dW (bC w5 (w.heap.size) 0 [ag (au (dN X)),ah (nt (dN X).natAbs),af (dE X)]) bJ ?_;intro w9 hs;replace Hr:=bP Hr hs;obtain⟨r0,aj,r1,ak,r2,aF⟩:=Hr.out.g3;replace Hb:=bS Hb hs ZS;clear hs;refine bodyPost_ret (v:=bL X) (by simp[results,Tryz.results61,go_sem,r0,r1,r2]) rfl ⟨rfl,Hb.out⟩
theorem apw (a:Option Addr)(L cap B:Nat)(rows:List (List Raw))(w:World)(hL:rows.length=L)(h5:L<=5)(hfit:∀r∈rows,∀c∈r,ey B c)(hB:B<=1000)(ha:cC w a rows):
 Calls Tryz.prog 22 #[.slice a L cap] w λe w'=>e=.returned (af (kQ rows))/\Bw w w':=by
 obtain⟨V,hV⟩:=aG (jw rows);have hvar:=λW (hW:Bw w W)=>acA a L cap rows V W hL zo (ha.below hW) hV;by_cases h0:V=0
 . subst h0;have e:kQ rows=1:=by unfold kQ;rw[if_pos hV]
   rw[e];have wU:=ai hvar;clear hvar hfit ha hV e hL;have Hb:Hid (Bw w w):=Below.refl _ _;go_enter Tryz.func22,Tryz.ntmps22;go_wp2_with fail;refine(wU.out _ Hb.out).mono ?_;rintro e w1 ⟨rfl,ae⟩;replace Hb:=aB Hb ae;clear ae;go_wp2;refine bodyPost_ret (results_tmp rfl _ _ _) rfl ⟨rfl,Hb.out⟩
 . obtain⟨m,hm,hrl⟩:∃m,L=m+2/\∀r∈rows,r.length=m+1:=by obtain⟨c1,c2,c3,c4⟩:=IH hV h0;exact⟨L-2,by omega,λr hr=>by have:=c4 r hr;omega⟩
   have hV2:jw rows=((m+1:Nat):Int):=DC (by rw[hL,hm]) hrl zo zo;obtain rfl:V=((m+1:Nat):Int):=by rw[<-hV,hV2]
   obtain⟨X,hX⟩:=aG (dw (m+1) (bT rows));obtain⟨g,hg⟩:=aG (bA X);have e:kQ rows=if g=0 then 5 else 0:=by
    unfold kQ;rw[if_neg (by rw[hV2];omega),hV2,Int.toNat_natCast,hX];have:=Pe X;rw[hg]at this;by_cases h:X=0
    . rw[if_pos h,if_pos (this.2 h)]
    . rw[if_neg h,if_neg (λh2=>h (this.1 h2))]
   rw[e];have hsz:=λW (hW:Bw w W)=>Mg a cap (m+1) B rows W (by rw[hL,hm]) zo zo hrl hfit hB (ha.below hW);rw[hX]at hsz;have dM:Sm (4*B+10) X:=by
    rw[<-hX];refine(zF (B:=B+1) zo zo (λi j hi hj=>?_)).mono zo;have hps:∀a b,a<=m+1->b<m+1->Sm B (bT rows a b):=λa b h1 h2=>by
     have ha1:a<rows.length:=by omega
     have hb1:b<rows[a].length:=by rw[hrl _ (List.getElem_mem ha1)];exact h2
     have ee:bT rows a b=az rows[a][b]:=by unfold bT bU;simp[List.getD_eq_getElem?_getD,ha1,hb1]
     rw[ee];exact(hfit _ (List.getElem_mem ha1) _ (List.getElem_mem hb1)).2
    exact zI hps i j hi hj
   have gU:=λW=>ww (au (dN X)) (nt (dN X).natAbs) (dE X) g (by show bA (az (canon X))=g;rw[bD];exact hg) W (by have:=(dM.aw1 zo).1;exact Nat.le_trans this zd);obtain⟨wU,jN,jM⟩:=cL hvar hsz gU;clear hvar hsz gU hfit ha hV hV2 e hX hg dM hrl hL;obtain⟨n,hn⟩:=aG (m+1);have vQ:L=n+1:=by omega
   simp only[hn]at wU jN h0⊢;subst vQ;have hn0:1<=n:=by omega
   clear hn hm;have hb0:((n:Int)==0)=false:=by simpa using h0
   have hb1:¬(n:Int)=0:=h0;have Hb:Hid (Bw w w):=Below.refl _ _;go_enter Tryz.func22,Tryz.ntmps22;go_wp2_with fail;refine(wU.out _ Hb.out).mono ?_;rintro e w1 ⟨rfl,ae⟩;replace Hb:=aB Hb ae;clear ae;go_wp2_with fail;refine(jN.out _ Hb.out).mono ?_;rintro e w2 ⟨rfl,ae⟩;replace Hb:=aB Hb ae;clear ae;go_wp2_with fail;refine(jM.out _).mono ?_;rintro e w3 ⟨rfl,ae⟩;replace Hb:=aB Hb ae;clear ae;by_cases hg0:g=0
   . subst hg0;go_wp2;refine bodyPost_ret (results_tmp rfl _ _ _) rfl ⟨rfl,Hb.out⟩
   . have hgb:(g==0)=false:=by simpa using hg0
     go_wp2;refine bodyPost_ret (results_tmp rfl _ _ _) rfl ⟨rfl,Hb.out⟩
theorem aqn (E T:Dyadic)(h:E≠0):(if bA E<0 then-T else T)=ol E*T:=by
 rw[Tb];by_cases h1:E<0
 . rw[if_pos ((zG E).2 h1),if_pos h1];grind
 . rw[if_neg (λh2=>h1 ((zG E).1 h2)),if_neg h1,if_neg h];grind
theorem acB (a:Option Addr)(cap n B:Nat)(rows:List (List Raw))(xa:Option Addr)(xc:Nat)(xs:List Raw)(w:World)(hL:rows.length=n+1)(hn:1<=n)(bO:n<=4)(hrow:∀r∈rows,r.length=n)(hfit:∀r∈rows,∀c∈r,ey B c)(hxl:xs.length=n)(eJ:∀x∈xs,ey B x)(hB:B<=1000)(ha:cC w a rows)(hx:At w xa (xs.flatMap bI))(h0:dw n (bT rows)≠0):
 Calls Tryz.prog 105 #[.slice a (n+1) cap,.slice xa n xc] w λe w'=>∃a' c',e=.returned (.slice a' (n+1) c')/\n+1<=c'/\At w' a' (dC (oD n (bT rows) (jx xs)))/\Bw w w':=by
 obtain⟨i0,hi,hz0,hz1,hz2⟩:=info_parts Tryz.aw4;have hsz:=λW (hW:Bw w W)=>Mg a cap n B rows W hL hn bO hrow hfit hB (ha.below hW);have nX:=λj W (hW:Bw w W)=>ap8 a (n+1) cap rows j xa n xc xs W hL zo hxl zo (λr hr=>by rw[hrow r hr];omega) (ha.below hW) (hx.below hW) (λr hr x hx=>(hfit r hr x hx).1) (λx hx=>(eJ x hx).1);have jG:∀j,(∀r∈rows.set j xs,r.length=n)/\∀r∈rows.set j xs,∀c∈r,ey B c:=λj=>by
  constructor
  . intro r hr;rcases List.mem_or_eq_of_mem_set hr with h|h
    . exact hrow r h
    . rw[h];exact hxl
  . intro r hr;rcases List.mem_or_eq_of_mem_set hr with h|h
    . exact hfit r h
    . rw[h];exact eJ
 have hup:∀j,j<n+1->dw n (bT ((rows.set j xs).map mK))=dw n (oC (bT rows) j (jx xs)):=λj hj=>by
  rw[apa];refine aj0 n bO (λi k hi hk=>?_);unfold oC bT bU jx;have hi1:i<rows.length:=by omega
  by_cases e:i=j
  . subst e;simp[List.getD_eq_getElem?_getD,hi1]
  . rw[if_neg e];rw[List.map_set];have e2:((rows.map λr=>r.map az).set j (xs.map az)).getD i []=(rows.map λr=>r.map az).getD i []:=by rw[List.getD_eq_getElem?_getD,List.getD_eq_getElem?_getD,List.getElem?_set_ne (λh=>e h.symm)]
    rw[e2]
 have hsj:=λj (hj:j<n+1) a' c' W (h:cC W a' ((rows.set j xs).map mK))=>Mg a' c' n B ((rows.set j xs).map mK) W (by simp[hL]) hn bO (λr hr=>by
  obtain⟨y,hy,rfl⟩:=List.mem_map.1 hr
  rw[Xm];exact(jG j).1 y hy) (λr hr=>by
  obtain⟨y,hy,rfl⟩:=List.mem_map.1 hr
  exact ey.form ((jG j).2 y hy) zo) hB h
 have hps:∀i k,i<=n->k<n->Sm B (bT rows i k):=λi k h1 h2=>by
  have hi1:i<rows.length:=by omega
  have hk1:k<rows[i].length:=by rw[hrow _ (List.getElem_mem hi1)];exact h2
  have ee:bT rows i k=az rows[i][k]:=by unfold bT bU;simp[List.getD_eq_getElem?_getD,hi1,hk1]
  rw[ee];exact(hfit _ (List.getElem_mem hi1) _ (List.getElem_mem hk1)).2
 have hxs:∀k,k<n->Sm B (jx xs k):=λk hk=>by rw[ar6 xs k zo];exact(eJ _ (List.getElem_mem _)).2
 have hTs:∀j,j<n+1->Sm (4*B+10) (dw n (oC (bT rows) j (jx xs))):=λj hj=>
  (zF (B:=B+1) hn bO (λi k hi hk=>zI (λi k hi hk=>by unfold oC;split;exact hxs k hk;exact hps i k hi hk) i k hi hk)).mono zo
 have fN:Sm (4*B+10) (dw n (bT rows)):=(zF (B:=B+1) hn bO (λi k hi hk=>zI hps i k hi hk)).mono zo;have hW:∀j,jb n (bT rows) (jx xs) j=if bA (dw n (bT rows))<0 then-dw n (oC (bT rows) j (jx xs))else dw n (oC (bT rows) j (jx xs)):=λj=>by rw[aqn _ _ h0];rfl
 have zP:(oD n (bT rows) (jx xs)).length=n+1:=by simp[oD]
 have PO:∀j,j<n+1->(oD n (bT rows) (jx xs)).take (j+1)=(oD n (bT rows) (jx xs)).take j++[jb n (bT rows) (jx xs) j]:=λj hj=>by rw[List.take_succ_eq_append_getElem (by rw[zP];exact hj)];congr 2;simp[oD]
 obtain⟨R,hR⟩:∃R:Nat->List (List Raw),(λj=>(rows.set j xs).map mK)=R:=⟨_,rfl⟩;have Yk:∀j,(rows.set j xs).map mK=R j:=λj=>by rw[<-hR]
 simp only[Yk]at nX hsj hup;have Rp:∀j,j<n+1->∀a' c' W,cC W a' (R j)->Calls Tryz.prog 61 #[.slice a' (n+1) c'] W λe w'=>e=.returned (bL (dw n (oC (bT rows) j (jx xs))))/\Bw W w':=λj hj a' c' W h=>by have:=hsj j hj a' c' W h;rwa [hup j hj]at this
 obtain⟨E,hE⟩:=aG (dw n (bT rows));obtain⟨T,hT⟩:∃T:Nat->Dyadic,(λj=>dw n (oC (bT rows) j (jx xs)))=T:=⟨_,rfl⟩;have CB:∀j,dw n (oC (bT rows) j (jx xs))=T j:=λj=>by rw[<-hT]
 obtain⟨F,hF⟩:∃F:Nat->Dyadic,jb n (bT rows) (jx xs)=F:=⟨_,rfl⟩;obtain⟨Z,hZ⟩:=aG (oD n (bT rows) (jx xs));simp only[CB,hE,hF,hZ]at hsz Rp hTs fN hW zP PO;rw[hZ];obtain⟨g,hg⟩:=aG (bA E);simp only[hg]at hW;have gU:=λW=>ww (au (dN E)) (nt (dN E).natAbs) (dE E) g (by show bA (az (canon E))=g;rw[bD];exact hg) W (by have:=(fN.aw1 zo).1;exact Nat.le_trans this zd);obtain⟨Hi,dF,dG,dm,jN,vt,Hsj,Jd,HW,HLl,HLs,jM⟩:=gB hi hz0 hz1 hz2 hsz nX Rp hTs hW zP PO gU;clear hi hz0 hz1 hz2 hsz nX hsj Rp hTs fN hW zP PO gU hR Yk CB hT hF hZ hE hup jG hps hxs hg h0 ha hx hL hrow hfit hxl eJ;have Hb:Hid (Bw w w):=Below.refl _ _;go_enter Tryz.func105,Tryz.ntmps105;go_wp2_with fail;go_loopw[5,6] (λs5 x wr=>∃(j:Nat) (v2:Value),j<=n+1/\x=af (j:Int)/\v2=s5/\wr.ownsRow w.heap.size 39 3 v2 j (dC (Z.take j))/\Bw w wr) (λ_ x _=>n+1-(intOf x).toNat);case atStart=>exact⟨0,_,Nat.zero_le _,rfl,rfl,World.ownsRow_nil _ _ _ _,Hb.out⟩
 case round=>
  clear Hb;obtain⟨j,v2,hj,rfl,rfl,ho,hb2⟩:=hrel;obtain⟨Ho,cw⟩:=aO ho hb2;have Mp:=hb2.size;clear ho hb2;by_cases hlt:j<n+1
  . obtain⟨X,hX⟩:=aG (T j);obtain⟨Y,hY⟩:=aG (F j);have zT:=HW.out j;have dM:=Jd.out j hlt;have hst:dC (Z.take (j+1))=dC (Z.take j)++[ag (au (dN Y)),ah (nt (dN Y).natAbs),af (dE Y)]:=by rw[HLs.out j hlt,hY,zD];rfl
    have hsj:=Hsj.out j hlt;rw[hX]at dM hsj;rw[hX,hY]at zT;have Gn:g<0->∀W,Calls Tryz.prog 125 #[.agg #[ag (au (dN X)),ah (nt (dN X).natAbs),af (dE X)]] W λe w'=>e=.returned (bL Y)/\Bw W w':=λh W=>SS _ _ _ Y (by show-az (canon X)=Y;rw[bD,zT,if_pos h]) W (dM.aw1 zo);have tK:=λW hW=>vt.out j W hW;obtain⟨bX,Bz,agM,NE,Od⟩:=gJ hst zT hsj Gn tK;clear hst zT dM hsj Gn hX hY tK;have Hb:Hid (Bw wr wr):=Below.refl _ _;go_wp2_with fail;refine(Od.out _ (aJ cw.out Hb.out)).mono ?_;rintro e w3 ⟨a3,c3,rfl,hc3,xO,ae⟩;replace Hb:=aB Hb ae;clear ae;have ze:=ai xO;clear xO;go_wp2_with fail;refine(agM.out a3 c3 _ ze.out).mono ?_;rintro e w4 ⟨rfl,ae⟩;replace Hb:=aB Hb ae;clear ae ze;have Tq:=Hb.out.size;obtain⟨W5,xt,ae,Hx⟩:=cd w4 39 [ag (au (dN X)),ah (nt (dN X).natAbs),af (dE X)];obtain⟨x0,aY,x1,aZ,x2,bj⟩:=Hx.out.g3;replace Hb:=aB Hb ae;clear ae;go_wp2_with fail;refine(jN.out _ (aJ cw.out Hb.out)).mono ?_;rintro e w6 ⟨rfl,ae⟩;clear x0 aY x1 aZ x2 bj;obtain⟨Hx,x0,aY,x1,aZ,x2,bj⟩:=aN Hx ae;replace Hb:=aB Hb ae;clear ae;go_wp2_with fail;refine(jM.out _).mono ?_;rintro e w7 ⟨rfl,ae⟩;clear x0 aY x1 aZ x2 bj;obtain⟨Hx,x0,aY,x1,aZ,x2,bj⟩:=aN Hx ae;replace Hb:=aB Hb ae;clear ae;go_upto_if 22 with fail
    go_cut[7] (λs7 wx=>s7=.pointer (some ⟨w4.heap.size,0,none⟩)/\ar wx w4.heap.size 39 [ag (au (dN Y)),ah (nt (dN Y).natAbs),af (dE Y)]/\Bw wr wx);case first=>
     by_cases hp:g<0
     . have h9:decide (g<0)=true:=by simpa using hp
       go_wp2_with fail;refine(NE.out hp _).mono ?_;rintro e w8 ⟨rfl,ae⟩;clear x0 aY x1 aZ x2 bj;obtain⟨Hx,x0,aY,x1,aZ,x2,bj⟩:=aN Hx ae;replace Hb:=aB Hb ae;clear ae;go_wp2_with fail;go_meet;exact⟨rfl,((Hx.out.set 0 _).set 1 _).set 2 _,((Hb.out.setCell zp _).setCell zp _).setCell zp _⟩
     . have h9:decide (g<0)=false:=by simpa using hp
       have hY:Y=X:=by rw[Bz.out,if_neg hp]
       subst hY;go_wp2_with fail;go_meet;exact⟨rfl,Hx.out,Hb.out⟩
    case rest=>
     obtain⟨rfl,hx,hb⟩:=hcut;have Hx:Hid (ar wc w4.heap.size 39 [ag (au (dN Y)),ah (nt (dN Y).natAbs),af (dE Y)]):=hx;have lI:=ai (aJ cw.out hb);have hov:=ownsRow_below Ho.out hb;have dD:=ai hov;have szc:=hb.size;clear hx hb hov Ho Hb Bz cw;have Hb:Hid (Bw wc wc):=Below.refl _ _;obtain⟨x0,x1,x2⟩:=Hx.out.c3;have P0:=x0;have P1:=x1;have P2:=x2;have abv:=Hx.out.lt;obtain⟨W6,nO,ae,Hc⟩:=cd wc 39 [ag (au (dN Y)),ah (nt (dN Y).natAbs),af (dE Y)];clear x0 x1 x2;obtain⟨Hx,x0,x1,x2⟩:=aQ Hx ae;obtain⟨c0,c1,c2⟩:=Hc.out.c3;replace Hb:=aB Hb ae;clear ae;have di:=ownsRow_below dD.out Hb.out;have jR:=Hb.out.size;go_wp2_with (at_builtin;refine wpList_append_own_at _ rfl _ _ 49 rfl w.heap.size 39 i0 _ 3 32 Tryz.underlying49 Hi.out dF.out dG.out dm.out rfl zd _ j (dC (Z.take j)) rfl di ⟨wc.heap.size,0,none⟩ 1 1 [ag (au (dN Y)),ah (nt (dN Y).natAbs),af (dE Y)] rfl rfl (ic Hc.out) zy zx zo zo ?_;intro v' w7 eW fO _ iE;obtain⟨g',oQ,rfl⟩:=ownsRow_succ eW);go_roundw;case rel=>exact⟨j+1,_,by omega,by go_num,rfl,by rw[bX.out];exact eW,(aJ lI.out Hb.out).grown fO zo (λj e=>dz di j e)⟩
     case measure=>simp[intOf];omega
  . obtain rfl:j=n+1:=by omega
    have lV:Z.take (n+1)=Z:=List.take_of_length_le (by rw[HLl.out];exact Nat.le_refl _);rw[lV]at Ho;obtain⟨a2,cap2,rfl,jm,_⟩:=eo Ho.out;have pZ:=Dm Ho.out;obtain⟨sB,yK⟩:=aO jm pZ;clear jm pZ lV Ho;go_wp2;refine bodyPost_ret (results_tmp rfl _ _ _) rfl ⟨a2,cap2,rfl,yK.out,sB.out,cw.out⟩
theorem ap6 (V k:Nat)(w:World)(hV:V<=12)(hk:k<V):
 Calls Tryz.prog 107 #[af (V:Int),af (k:Int)] w λex w'=>∃a' c',ex=.returned (.tuple #[.agg #[af (V:Int),.slice a' (bY [(dt V k,canon 1)]).length c'],af 0])/\cz w' a' c' (bY [(dt V k,canon 1)])/\Bw w w':=by
 obtain⟨C,hC⟩:=aG (bY [(dt V k,canon 1)]);rw[hC];obtain⟨O,hO⟩:∃O:Dyadic,(1:Dyadic)=O:=⟨_,rfl⟩;have hmk:=λW b (hb:ar W b 93 [ah (dt V k),ag (au (dN O)),ah (nt (dN O).natAbs),af (dE O)])=>Me V (some ⟨b,0,none⟩) 1 1 [(dt V k,canon 1)] 1 W rfl zo (by rw[hO];exact At.aw2 hb) (by intro t ht;simp at ht;subst ht;exact Sm.aw1 Sm.one zd) (by intro t ht;simp at ht;subst ht;show Sm 1 (az (canon 1));rw[bD];exact Sm.one) zo;rw[hC]at hmk;have hof:∀W,Calls Tryz.prog 52 #[af 1] W λe w'=>e=.returned (bL O)/\Bw W w':=λW=>Mf 1 O hO W zd;have hmb:=λW=>rX (V:Int) V rfl zo W;have hcv:∀W b,Hid (ar W b 5 (cZ V λj=>if j=k then 1 else 0))->(convert 94 9 (.slice (some ⟨b,0,none⟩) V V)).run Tryz.prog W=.ok (ah (dt V k)) W:=λW b h=>by rw[<-ads V k];exact wB h.out V
 have bK:=λb=>xV V V k (k:Int) (rfl:(some ⟨b,0,none⟩:Option Addr)=_) hk rfl;simp only[Nat.zero_add,Nat.mul_one]at bK;have hget:(cZ V λ_=>0)[k]?=some (.int .u8 0):=mC _ _ _ hk;have jG:(cZ V λ_=>0).set k (.int .u8 1)=cZ V λj=>if j=k then 1 else 0:=Bh V _ k 1
 obtain⟨lJ,rA⟩:=aO hmk hof;clear hmk hof hC hO;have Gh:¬(k:Int)<0:=by omega
 have Yw:¬(V:Int)<0:=by omega
 have hV2:¬(12:Int)<(V:Int):=by omega
 have hkV:¬(V:Int)<=(k:Int):=by omega
 obtain⟨W,cg,Hb,Hr⟩:=fJ w 91 [af 0,.slice none 0 0];obtain⟨r0,aj,r1,ak⟩:=Hr.out.g2;go_enter Tryz.func107,Tryz.ntmps107;go_wp2_with fail;have hrl:=Hr.out.lt;obtain⟨R,hR⟩:∃R:World->Prop,(λW3=>ar W3 W.heap.size 5 (cZ V λj=>if j=k then 1 else 0)/\Bw W W3)=R:=⟨_,rfl⟩;first|refine cf R ?hR ?_|refine bZ R ?hR ?_
 case hR=>subst hR;exact⟨ar.newAt W _ _ (b:=W.heap.size) rfl,zl⟩
 subst hR;intro W3 ⟨qm,ae⟩;clear r0 aj r1 ak;obtain⟨Hr,r0,aj,r1,ak⟩:=bE Hr ae;replace Hb:=ai (aJ Hb.out ae);have Hm:=ai qm;clear qm ae hget jG bK hmb;have iT:∀w',fL W3 w'->(convert 94 9 (.slice (some ⟨W.heap.size,0,none⟩) V V)).run Tryz.prog w'=.ok (ah (dt V k)) w':=λw' h=>hcv w' _ (ai (Hm.out.below h));have bz:Hid (fL W3 W3):=Below.refl _ _;refine bR (λw'=>fL W3 w') (λi=>Nat.blt i 9) [(0,true),(1,true),(2,true),(3,false),(4,true),(5,false),(6,false),(7,true),(8,true),(9,false),(10,false)] zk zk rfl zk zc bz.out.drew ?_;iterate 3 (refine SG rfl rfl (v:=?_) (λw' hw'=>?_) ?_;rotate_left;(focus have hw':=iT w' hw';go_simp;try with_reducible rfl);try simp only[UU])
 refine aI rfl rfl (λK hK=>?_);go_simp;with_reducible refine(rA.out _).mono ?_
 rintro e w4 ⟨rfl,hq⟩;have ae:Bw W3 w4:=by first|exact hq|exact aW hq
 clear r0 aj r1 ak;replace bz:=ai (bz.out.below ae);obtain⟨Hr,r0,aj,r1,ak⟩:=bE Hr ae;replace Hb:=aB Hb ae;clear ae;refine hK _ _ (λ_=>bz.out) ?_;clear hK K;try simp only[UU]
 refine pT rfl rfl ?_;try simp only[UU]
 refine aI rfl rfl (λK hK=>?_);go_simp;refine hK _ _ (λ_=>by first|exact bz.out.alloc _|exact(bz.out.alloc _).drew|exact(bz.out.drew).alloc _) ?_;clear hK K;try simp only[UU]
 refine bV (λW5=>ar W5 (w4.heap.size) 93 [ah (dt V k),ag (au (dN O)),ah (nt (dN O).natAbs),af (dE O)]/\Bw w4 W5) (by first|exact fe|exact fg) ?_;rintro W5 ⟨qz,ae⟩;clear r0 aj r1 ak;have Ia:=Hr.out.lt;replace bz:=ai (bz.out.below ae);replace Hr:=kB Hr ae;have Hz:=ai qz;clear qz;obtain⟨r0,aj,r1,ak⟩:=Hr.out.g2;obtain⟨z0,z1,z2,z3⟩:=Hz.out.c4;replace Hb:=aB Hb ae;clear ae;refine aI rfl rfl (λK hK=>?_);go_simp;with_reducible refine(lJ.out _ _ Hz.out).mono ?_
 rintro e w6 ⟨a2,d2,rfl,eO,hq⟩;have ae:Bw W5 w6:=by first|exact hq|exact aW hq
 clear r0 aj r1 ak z0 z1 z2 z3;replace bz:=ai (bz.out.below ae);obtain⟨Hr,r0,aj,r1,ak⟩:=bE Hr ae;obtain⟨Hz,z0,z1,z2,z3⟩:=dU Hz ae;replace Hb:=aB Hb ae;clear ae;refine hK _ _ (λ_=>bz.out) ?_;clear hK K;try simp only[UU]
 iterate 2 (refine pT rfl rfl ?_;try simp only[UU])
 refine aI rfl rfl (λK hK=>?_);go_simp;refine hK _ _ (by first|exact λh=>absurd h zd|exact λ_=>bz.out|exact λ_=>gG zg bz.out) ?_;clear hK K;try simp only[UU]
 refine aI rfl rfl (λK hK=>?_);go_simp;refine hK _ _ (λh=>absurd h zd) ?_;clear hK K;try simp only[UU]
 simp only[bi];go_wp2;have h9:=eO.store Hr.out zd (af (V:Int)) (.slice a2 C.length d2);refine dW (λw9=>cz w9 a2 d2 C/\ar w9 w.heap.size 91 [af (V:Int),.slice a2 C.length d2]/\Bw w w9) ⟨h9,(Hr.out.set 0 _).set 1 _,(Hb.out.setCell (Nat.le_refl _) _).setCell (Nat.le_refl _) _⟩ ?_;rintro w9 ⟨q1,q2,q3⟩;obtain⟨p0,p1⟩:=q2.c2;exact bodyPost_ret (v:=.tuple #[.agg #[af (V:Int),.slice a2 C.length d2],af 0]) (by simp[results,Tryz.results107,go_sem,p0,p1]) rfl ⟨_,_,rfl,q1,q3⟩
theorem aoT {V:Nat}{ts:List aM}(h:EQ V ts)(k:Nat)(hk:k<ts.length):gp ts[k].1 V=true/\az ts[k].2≠0/\ts[k].2=canon (az ts[k].2)/\(0<k->Op.bytesLess (ts[k-1]'zo).1 ts[k].1=true):=by obtain⟨⟨h1,h2⟩,h3,h4,h5⟩:=h;have hm:=List.getElem_mem hk;exact⟨h3 _ hm,(h2 _ hm).1,(h2 _ hm).2,λh0=>List.pairwise_iff_getElem.1 h1 (k-1) k zo hk zo⟩
theorem acw (V:Nat)(a:Option Addr)(cap N:Nat)(ts:List aM)(w:World)(hN:ts.length=N)(ha:At w a (ts.flatMap aX))(hp:EQ V ts)(hf:∀t∈ts,dv t.2):
 Calls Tryz.prog 161 #[.agg #[af (V:Int),.slice a N cap]] w λe w'=>e=.returned (af 0)/\Bw w w':=by
 have hn:N<=4096:=by rw[<-hN];exact hp.2.2.1
 have hV:V<=12:=hp.2.2.2;have hg:=λk hk=>aoT hp k hk;obtain⟨Ha,Hg,HN,Hf⟩:=dx ha hg hN hf;clear ha hg hN hf hp;have Yw:¬(V:Int)<0:=by omega
 have hV2:¬(12:Int)<(V:Int):=by omega
 have bO:¬(4096:Int)<(N:Int):=by omega
 have auf:decide ((4096:Int)<(N:Int))=false:=by simp;omega
 obtain⟨W,cg,Hb,Hp⟩:=fJ w 91 [af (V:Int),.slice a N cap];obtain⟨p0,p1⟩:=Hp.out.c2;go_enter Tryz.func161,Tryz.ntmps161;go_wp2_with fail;go_loopw[3] (λx wr=>∃k:Nat,k<=N/\x=af (k:Int)/\ar wr w.heap.size 91 [af (V:Int),.slice a N cap]/\Bw w wr) (λx _=>N-(intOf x).toNat);case atStart=>exact⟨0,Nat.zero_le _,rfl,Hp.out,Hb.out⟩
 case round=>
  clear p0 p1 Hp Hb;obtain⟨k,hk,rfl,gm,pb⟩:=hrel;by_cases hlt:k<N
  . have hk2:k<ts.length:=by rw[HN.out];exact hlt
    obtain⟨l,s,m,e,hx⟩:∃l s m e,ts[k]=(l,s,m,e):=⟨_,_,_,_,rfl⟩;obtain⟨b,o,hab,dH⟩:=(Ha.out.below pb).term k hk2 hx;obtain⟨g1,g2,g3,g4⟩:=Hg.out k hk2;have eJ:dv (s,m,e):=by have:=Hf.out _ (List.getElem_mem hk2);rw[hx]at this;exact this
    have hfl:m.length<=16384:=eJ.1;rw[hx]at g1 g2 g3;simp only[hx]at g4;obtain⟨X,hX⟩:=aG (az (s,m,e));obtain⟨sg,gU⟩:=aG (bA X);have hs1:(sg==0)=false:=by rw[<-gU,zH,<-hX];exact g2
    have hne:=Su X s m e false (by rw[<-hX];simpa using g3.symm);have jF:=λW=>apK l (V:Int) W (by have hll:l.length=V:=abB g1;omega);rw[g1]at jF;have bK:=kP N cap k (k:Int) hab hlt rfl;have hsn:=λW=>ww s m e sg (by rw[hX];exact gU) W zo;have hfo:=λW=>Bd s m e X hX W eJ;obtain⟨sH,Hsn,wP,bu,mD,Hp⟩:=gW jF hsn hfo pb hab gm;have pQ:Hid (bH wr b (o+k*4) [ah l,ag s,ah m,af e]):=dH;have sz:=pb.size;clear jF hsn hfo pb gm dH hX gU g1 g2 g3 eJ hab;have Hb:Hid (Bw wr wr):=Below.refl _ _;obtain⟨p0,p1⟩:=Hp.out.c2;obtain⟨wD,wE,wF,wG⟩:=pQ.out.w4;have P0:=wD;have P1:=wE;have P2:=wF;have P3:=wG;have Q1:=p1;have anp:=Hp.out.lt;obtain⟨W4,lU,ae,Ht⟩:=cd wr 93 [ah l,ag s,ah m,af e];clear p0 p1;replace Hp:=kB Hp ae;clear wD wE wF wG;replace pQ:=kW pQ ae;obtain⟨p0,p1⟩:=Hp.out.c2;obtain⟨wD,wE,wF,wG⟩:=pQ.out.w4;obtain⟨t0,t1,t2,t3⟩:=Ht.out.c4;replace Hb:=aB Hb ae;clear ae;go_wp2_with fail;clear P0 P1 P2 P3 Q1 wD wE wF wG pQ;refine bR (λw'=>aC w' (w.heap.size) 0 (af (V:Int))/\aC w' (w.heap.size) 1 (.slice a N cap)/\aC w' (wr.heap.size) 0 (ah l)/\aC w' (wr.heap.size) 1 (ag s)/\aC w' (wr.heap.size) 2 (ah m)/\aC w' (wr.heap.size) 3 (af e)) (λi=>Nat.blt i 100000) [(0,true),(1,true),(2,true),(3,true),(4,false),(5,true),(6,true),(7,true),(8,true),(9,false),(10,true),(11,true),(12,true),(13,true),(14,true),(16,true),(17,true),(15,false),(18,true),(19,true)] zk zk rfl zk zc ⟨p0,p1,t0,t1,t2,t3⟩ ?_;iterate 4 (refine pT rfl rfl ?_ (by intro w' ⟨q0,q1,q2,q3,q4,q5⟩;go_simp;try with_reducible rfl);try simp only[UU])
    refine aI rfl rfl (λK hK=>?_);go_simp;with_reducible refine(sH.out _).mono ?_
    rintro e w5 ⟨rfl,hq⟩;have ae:Bw W4 w5:=by first|exact hq|exact aW hq
    clear p0 p1 t0 t1 t2 t3;obtain⟨Hp,p0,p1⟩:=aR Hp ae;obtain⟨Ht,t0,t1,t2,t3⟩:=dU Ht ae;replace Hb:=aB Hb ae;clear ae;refine hK _ _ (λ_=>⟨p0,p1,t0,t1,t2,t3⟩) ?_;clear hK K;try simp only[UU]
    iterate 4 (refine pT rfl rfl ?_ (by intro w' ⟨q0,q1,q2,q3,q4,q5⟩;go_simp;try with_reducible rfl);try simp only[UU])
    refine aI rfl rfl (λK hK=>?_);go_simp;with_reducible refine(Hsn.out _).mono ?_
    rintro e w6 ⟨rfl,hq⟩;have ae:Bw w5 w6:=by first|exact hq|exact aW hq
    clear p0 p1 t0 t1 t2 t3;obtain⟨Hp,p0,p1⟩:=aR Hp ae;obtain⟨Ht,t0,t1,t2,t3⟩:=dU Ht ae;replace Hb:=aB Hb ae;clear ae;refine hK _ _ (λ_=>⟨p0,p1,t0,t1,t2,t3⟩) ?_;clear hK K;try simp only[UU]
    iterate 7 (refine pT rfl rfl ?_ (by intro w' ⟨q0,q1,q2,q3,q4,q5⟩;go_simp;try with_reducible rfl);try simp only[UU])
    refine aI rfl rfl (λK hK=>?_);go_simp;with_reducible refine(wP.out _).mono ?_
    rintro e w7 ⟨rfl,hq⟩;have ae:Bw w6 w7:=by first|exact hq|exact aW hq
    clear p0 p1 t0 t1 t2 t3;obtain⟨Hp,p0,p1⟩:=aR Hp ae;obtain⟨Ht,t0,t1,t2,t3⟩:=dU Ht ae;replace Hb:=aB Hb ae;clear ae;refine hK _ _ (λ_=>⟨p0,p1,t0,t1,t2,t3⟩) ?_;clear hK K;try simp only[UU]
    iterate 2 (refine pT rfl rfl ?_;try simp only[UU])
    simp only[bi];by_cases fY:k=0
    . have hk1:decide (0<k)=false:=by simp;omega
      have alM:decide ((0:Int)<(k:Int))=false:=by simp;omega
      clear fY g4;go_wp2_with fail;refine bR (λw'=>aC w' (w.heap.size) 0 (af (V:Int))/\aC w' (w.heap.size) 1 (.slice a N cap)/\aC w' (wr.heap.size) 0 (ah l)/\aC w' (wr.heap.size) 1 (ag s)/\aC w' (wr.heap.size) 2 (ah m)/\aC w' (wr.heap.size) 3 (af e)) (λi=>Nat.blt i 100000) [(0,true),(1,true),(2,true),(3,true),(4,true),(5,true),(6,true),(7,true),(8,true),(9,true),(10,true),(11,true),(12,true),(13,true)] zk zk rfl zk zc ⟨p0,p1,t0,t1,t2,t3⟩ ?_;iterate 3 (refine pT rfl rfl ?_;try simp only[UU])
      refine bF rfl rfl ?_;try simp only[UU]
      refine bF rfl rfl ?_;try simp only[UU]
      refine bF rfl rfl ?_;try simp only[UU]
      refine bF rfl rfl ?_;try simp only[UU]
      refine bF rfl rfl ?_;try simp only[UU]
      refine bF rfl rfl ?_;try simp only[UU]
      refine bF rfl rfl ?_;try simp only[UU]
      refine bF rfl rfl ?_;try simp only[UU]
      refine bF rfl rfl ?_;try simp only[UU]
      refine bF rfl rfl ?_;try simp only[UU]
      refine pT rfl rfl ?_;try simp only[UU]
      simp only[bi];go_wp2;go_roundw;case rel=>exact⟨k+1,by omega,by go_num,Hp.out,(aJ bu.out Hb.out).drew⟩
      case measure=>simp[intOf];omega
    . have uF:=g4 zo;have uE:k-1<ts.length:=by omega
      obtain⟨l',s',m',e',hx'⟩:∃l s m e,ts[k-1]=(l,s,m,e):=⟨_,_,_,_,rfl⟩;obtain⟨b',o',jk,Av⟩:=(Ha.out.below (aJ bu.out Hb.out)).term (k-1) uE hx';have hab:=mD.out;rw[hab]at jk;simp only[Option.some.injEq,Addr.mk.injEq,and_true]at jk;obtain⟨rfl,rfl⟩:=jk;rw[hx']at uF;have jE:Op.bytesLess (bs l').toList (bs l).toList=true:=by rw[gu,gu];exact uF
      have hge:Op.bytesLess (bs l).toList (bs l').toList=false:=by
       rw[gu,gu];cases hc:Op.bytesLess l l' with
       |false=>rfl
       |true=>have:=ET uF hc;rw[Ck]at this;cases this
      have alM:decide ((0:Int)<(k:Int))=true:=by simp;omega
      have hk1:decide (0<k)=true:=by simp;omega
      have QN:IntKind.i64.wrap ((k:Int)-1)=((k-1:Nat):Int):=by rw[IntKind.wrap_i64];omega
      have QJ:=kP N cap (k-1) ((k-1:Nat):Int) hab zo rfl;obtain⟨kp,CL⟩:=aG (k-1);rw[CL]at QJ QN Av;have alO:kp<N:=by omega
      have dS:Hid (bH w7 b (o+kp*4) [ah l',ag s',ah m',af e']):=Av;clear Av fY hx' CL hab uF g4 uE;obtain⟨p0,p1⟩:=Hp.out.c2;obtain⟨t0,t1,t2,t3⟩:=Ht.out.c4;have ju:w7.cell? ⟨b,o+kp*4,none⟩=some (ah l'):=dS.out.cell 0 zm;go_wp2_with fail;refine bR (λw'=>aC w' (w.heap.size) 0 (af (V:Int))/\aC w' (w.heap.size) 1 (.slice a N cap)/\aC w' (wr.heap.size) 0 (ah l)/\aC w' b (o+kp*4) (ah l')) (λi=>Nat.blt i 100000) [(0,true),(1,true),(2,true),(3,true),(4,true),(5,true),(6,true),(7,true),(8,true),(9,true),(10,true),(11,true),(12,true),(13,true)] zk zk rfl zk zc ⟨p0,p1,t0,ju⟩ ?_;iterate 14 (refine pT rfl rfl ?_ (by intro w' ⟨q0,q1,q2,q3⟩;go_simp;try with_reducible rfl);try simp only[UU])
      simp only[bi];go_wp2;go_roundw;case rel=>exact⟨k+1,by omega,by go_num,Hp.out,(aJ bu.out Hb.out).drew⟩
      case measure=>simp[intOf];omega
  . obtain rfl:k=N:=by omega
    obtain⟨Hp,bu⟩:=aO gm pb;obtain⟨p0,p1⟩:=Hp.out.c2;go_wp2;refine bodyPost_ret (results_tmp rfl _ _ _) rfl ⟨rfl,bu.out⟩
theorem apV (V:Nat)(a:Option Addr)(cap:Nat)(ts:List aM)(s:Bool)(m:List UInt8)(e:Int)(D:Dyadic)(B:Nat)(w:World)(hp:iH V B ts)(ha:cz w a cap ts)(eJ:dv (s,m,e))(uG:Sm B (az (s,m,e)))(hB:2*B+4096<=16384)(hD:az (s,m,e)=D):
 Calls Tryz.prog 108 #[.agg #[af (V:Int),.slice a ts.length cap],.agg #[ag s,ah m,af e]] w λex w'=>∃a' c',ex=.returned (.tuple #[.agg #[af (V:Int),.slice a' (bY (eK D ts)).length c'],af 0])/\cz w' a' c' (bY (eK D ts))/\Bw w w':=by
 obtain⟨i0,hi,hz0,hz1,hz2⟩:=info_parts Tryz.aw6;obtain⟨n,hn⟩:=aG ts.length;have hnl:n<=4096:=by have:=hp.1.2.2.1;omega
 have gT:(eK D ts).length=n:=by unfold eK;rw[List.length_map,hn]
 have hsm:∀t∈ts,Sm B (az t.2):=λt ht=>(hp.2 t ht).2;have kI:∀t∈ts,dv t.2:=λt ht=>by rw[(hp.1.1.2 t ht).2];exact(hsm t ht).aw1 zo
 rw[hD]at uG;have ji:∀t∈eK D ts,Sm (2*B) (az t.2):=by
  intro t ht;unfold eK at ht;obtain⟨x,hx,rfl⟩:=List.mem_map.1 ht;show Sm _ (az (canon _))
  rw[bD];exact(Sm.mul (hsm x hx) uG).mono zo
 have FI:∀t∈eK D ts,dv t.2:=by
  intro t ht;have h1:=ji t ht;unfold eK at ht;obtain⟨x,hx,rfl⟩:=List.mem_map.1 ht;have h2:Sm (2*B) (az x.2*D):=by have h3:az (canon (az x.2*D))=az x.2*D:=bD _;rw[<-h3];exact h1
  exact h2.aw1 zo
 have dZ:=λW (hW:Bw w W)=>acw V a cap n ts W hn (ha.1.below hW) hp.1 kI;have xD:=λW a' c' (h:At W a' ((eK D ts).flatMap aX))=>Me V a' n c' (eK D ts) (2*B) W gT hnl h FI ji zo;obtain⟨C,hC⟩:=aG (bY (eK D ts));obtain⟨Q,hQ⟩:=aG (eK D ts);rw[hC]at xD⊢;have Yg:∀k (h:k<ts.length) (h2:k<Q.length),Q[k]=(ts[k].1,canon (az ts[k].2*D)):=λk h h2=>by subst hQ;simp[eK]
 rw[hQ]at xD gT;rw[hn];obtain⟨Hi,dF,dG,dm,jd,yO,wQ,Hn,jW,HD,Ha,HQg⟩:=gB hi hz0 hz1 hz2 dZ xD kI hn eJ hD ha.1 Yg;have Ja:=ai gT;clear hi hz0 hz1 hz2 dZ xD kI hn eJ hD hC hQ gT ji FI hsm ha hp uG Yg;have Hb:Hid (Bw w w):=Below.refl _ _;go_enter Tryz.func108,Tryz.ntmps108;go_wp2_with fail;obtain⟨R,hR⟩:∃R:World->Prop,(λW=>ar W (w.heap.size) 91 [af (V:Int),.slice a n cap]/\ar W (w.heap.size+1) 39 [ag s,ah m,af e]/\ar W (w.heap.size+1+1) 91 [af 0,.slice none 0 0]/\Bw w W)=R:=⟨_,rfl⟩;first|refine cf R ?hR ?_|refine bZ R ?hR ?_
 case hR=>subst hR;exact⟨(((ar.newAt w _ _ (b:=w.heap.size) rfl).alloc _).alloc _),((ar.newAt (w.alloc _) _ _ (b:=w.heap.size+1) zm).alloc _),(ar.newAt ((w.alloc _).alloc _) _ _ (b:=w.heap.size+1+1) zm),((zl.alloc zj _).alloc zj _)⟩
 subst hR;rintro W ⟨qp,qc,qr,ae⟩;have Hp:=ai qp;clear qp;have Hc:=ai qc;clear qc;have Hr:=ai qr;clear qr;obtain⟨p0,p1⟩:=Hp.out.c2;obtain⟨c0,c1,c2⟩:=Hc.out.c3;obtain⟨r0,aj,r1,ak⟩:=Hr.out.g2;replace Hb:=aB Hb ae;clear ae;go_wp2_with fail;refine(jd.out _ Hb.out).mono ?_;rintro e w1 ⟨rfl,ae⟩;clear p0 p1 c0 c1 c2 r0 aj r1 ak;obtain⟨Hp,p0,p1⟩:=aR Hp ae;obtain⟨Hc,c0,c1,c2⟩:=aQ Hc ae;obtain⟨Hr,r0,aj,r1,ak⟩:=bE Hr ae;replace Hb:=aB Hb ae;clear ae;have EB:=Hp;have BH:=Hc;have ky:=Hr;have fq:=Hb;go_wp2_with fail;go_loopw[7,8] (λs7 x wr=>∃(k:Nat) (v:Value),k<=n/\x=af (k:Int)/\v=s7/\wr.ownsRow w1.heap.size 93 4 v k ((Q.take k).flatMap aX)/\Bw w1 wr) (λ_ x _=>n-(intOf x).toNat);case atStart=>exact⟨0,_,Nat.zero_le _,rfl,rfl,World.ownsRow_nil _ _ _ _,Below.refl _ _⟩
 case round=>
  clear p0 p1 c0 c1 c2 r0 aj r1 ak Hp Hc Hr Hb;obtain⟨k,v,hk,rfl,rfl,ho,pb⟩:=hrel;obtain⟨Hp,Hc,Hr⟩:=cL (EB.out.below pb) (BH.out.below pb) (ky.out.below pb);have dY:=aJ fq.out pb;have tW:=fq.out.size;have lc1:=BH.out.lt;have lr1:=ky.out.lt;by_cases hlt:k<n
  . have hk2:k<ts.length:=by rw[Hn.out];exact hlt
    have ZA:k<Q.length:=by rw[Ja.out];exact hlt
    obtain⟨l,s1,q1,e1,hx⟩:∃l s m e,ts[k]=(l,s,m,e):=⟨_,_,_,_,rfl⟩;obtain⟨b,o,rfl,dH⟩:=(Ha.out.below dY).term k hk2 hx;have lbt:b<w.heap.size:=by obtain⟨b3,o3,h3,hw3⟩:=Ha.out.term k hk2 hx;simp only[Option.some.injEq,Addr.mk.injEq,and_true]at h3;obtain⟨rfl,rfl⟩:=h3;exact World.block_lt_of_cell? w _ (hw3.cell 0 zm)
    have bK:=kP n cap k (k:Int) (rfl:(some ⟨b,o,none⟩:Option Addr)=_) hlt rfl;have lv:dv (s1,q1,e1):=by have:=wQ.out _ (List.getElem_mem hk2);rw[hx]at this;exact this
    obtain⟨X,hX⟩:=aG (az (s1,q1,e1) *D);have Yh:(Q.take (k+1)).flatMap aX=(Q.take k).flatMap aX++[ah l,ag (au (dN X)),ah (nt (dN X).natAbs),af (dE X)]:=by
     rw[List.take_succ_eq_append_getElem ZA,List.flatMap_append,HQg.out k hk2 ZA,hx];show _++[Value.string (bs l),Value.bool (au (dN (az (s1,q1,e1) *D))),_,_]=_
     rw[hX];rfl
    have HX:Hid (az (s1,q1,e1) *az (s,m,e)=X):=by show _=_;rw[HD.out];exact hX
    have Ht:Hid (bH wr b (o+k*4) [ah l,ag s1,ah q1,af e1]):=dH;obtain⟨dD,bu,HQk,nC⟩:=dx ho pb Yh lv;have iy:=pb.size;clear ho pb Yh lv hX hx dH dY;have Hb:Hid (Bw wr wr):=Below.refl _ _;obtain⟨p0,p1⟩:=Hp.out.c2;obtain⟨c0,c1,c2⟩:=Hc.out.c3;obtain⟨t0,t1,t2,t3⟩:=Ht.out.w4;go_wp2_with fail;refine bR (λw'=>aC w' (w.heap.size) 1 (.slice (some ⟨b,o,none⟩) n cap)/\aC w' (w.heap.size+1) 0 (ag s)/\aC w' (w.heap.size+1) 1 (ah m)/\aC w' (w.heap.size+1) 2 (af e)/\aC w' b (o+k*4) (ah l)/\aC w' b (o+k*4+1) (ag s1)/\aC w' b (o+k*4+2) (ah q1)/\aC w' b (o+k*4+3) (af e1)) (λi=>Nat.blt i 100000) [(0,true),(1,true),(2,true),(3,true),(4,true),(5,true),(6,true),(7,true),(8,true),(9,true),(10,true),(11,true),(12,true),(13,true),(14,false),(15,true),(16,false),(17,false),(18,true)] zk zk rfl zk zc ⟨p1,c0,c1,c2,t0,t1,t2,t3⟩ ?_;iterate 14 (refine pT rfl rfl ?_ (by intro w' ⟨q0,q1,q2,q3,q4,q5,q6,q7⟩;go_simp;try with_reducible rfl);try simp only[UU])
    refine aI rfl rfl (λK hK=>?_);go_simp;with_reducible refine(Bf s1 q1 e1 s m e X HX.out _ nC.out jW.out).mono ?_
    rintro e w4 ⟨rfl,hq⟩;have ae:Bw wr w4:=by first|exact hq|exact aW hq
    clear p0 p1 c0 c1 c2 t0 t1 t2 t3;obtain⟨Hp,p0,p1⟩:=aR Hp ae;obtain⟨Hc,c0,c1,c2⟩:=aQ Hc ae;replace Ht:=kW Ht ae;obtain⟨t0,t1,t2,t3⟩:=Ht.out.w4;replace Hb:=aB Hb ae;clear ae;refine hK _ _ (λ_=>⟨p1,c0,c1,c2,t0,t1,t2,t3⟩) ?_;clear hK K;try simp only[UU]
    refine pT rfl rfl ?_;try simp only[UU]
    refine aI rfl rfl (λK hK=>?_);go_simp;refine hK _ _ (λ_=>⟨aL p1,aL c0,aL c1,aL c2,aL t0,aL t1,aL t2,aL t3⟩) ?_;clear hK K;try simp only[UU]
    refine bV (λW5=>ar W5 (w4.heap.size) 93 [ah l,ag (au (dN X)),ah (nt (dN X).natAbs),af (dE X)]/\Bw w4 W5) (by first|exact fe|exact fg) ?_;rintro W5 ⟨qd,ae⟩;clear p0 p1 c0 c1 c2 t0 t1 t2 t3;have avF:=Hp.out.lt;have auP:=Hc.out.lt;replace Hp:=kB Hp ae;replace Hc:=kB Hc ae;replace Ht:=kW Ht ae;have Hd:=ai qd;clear qd;obtain⟨p0,p1⟩:=Hp.out.c2;obtain⟨c0,c1,c2⟩:=Hc.out.c3;obtain⟨t0,t1,t2,t3⟩:=Ht.out.w4;obtain⟨d0,d1,d2,d3⟩:=Hd.out.c4;replace Hb:=aB Hb ae;clear ae;refine aI rfl rfl (λK hK=>?_);have eT:=ownsRow_below dD.out Hb.out;have hs3:=Hb.out.size;refine wp_append_own _ _ _ 89 rfl w1.heap.size 93 i0 _ 4 48 Tryz.underlying89 Hi.out dF.out dG.out dm.out rfl zd v k ((Q.take k).flatMap aX) rfl eT ⟨w4.heap.size,0,none⟩ 1 1 [ah l,ag (au (dN X)),ah (nt (dN X).natAbs),af (dE X)] rfl rfl (ic Hd.out) zy zx zo zo ?_;intro v' w8 fB bM _;have nb:∀b,b<w1.heap.size->some b≠v.ownBlock:=λb hb e=>by have:=dz eT b e.symm;omega
    refine hK _ _ (λ_=>⟨cV bM p1 (nb _ zp),cV bM c0 (nb _ zp),cV bM c1 (nb _ zp),cV bM c2 (nb _ zp),cV bM t0 (nb _ zp),cV bM t1 (nb _ zp),cV bM t2 (nb _ zp),cV bM t3 (nb _ zp)⟩) ?_;clear hK K;try simp only[UU]
    have iA:=(aJ bu.out Hb.out).grown bM zo (λj e=>dz eT j e);rw[<-HQk.out]at fB;obtain⟨gY,jL⟩:=aO iA fB;refine pT rfl rfl ?_;try simp only[UU]
    simp only[bi];clear nb eT fB bM iA p0 p1 c0 c1 c2 t0 t1 t2 t3 d0 d1 d2 d3;go_wp2;go_roundw;case rel=>exact⟨k+1,v',by omega,by go_num,rfl,jL.out,gY.out⟩
    case measure=>simp[intOf];omega
  . obtain rfl:k=n:=by omega
    have htk:Q.take k=Q:=List.take_of_length_le (by rw[Ja.out];exact Nat.le_refl _);rw[htk]at ho;obtain⟨a2,c2,rfl,hat,_⟩:=eo ho;have eH:=ai hat;have Hb:Hid (Bw w wr):=dY;have afv:=ai (yO.out wr a2 c2 hat);clear ho pb dY htk hat Hc;obtain⟨p0,p1⟩:=Hp.out.c2;obtain⟨r0,aj,r1,ak⟩:=Hr.out.g2;go_wp2_with fail;refine(afv.out).mono ?_;rintro e w6 ⟨a9,d9,rfl,Gu,ae⟩;clear p0 p1 r0 aj r1 ak;obtain⟨Hp,p0,p1⟩:=aR Hp ae;obtain⟨Hr,r0,aj,r1,ak⟩:=bE Hr ae;replace Hb:=aB Hb ae;clear ae;have Hp9:=ai Gu;clear Gu;go_wp2;have h9:=Hp9.out.store Hr.out zd (af (V:Int)) (.slice a9 C.length d9);refine dW (λw9=>cz w9 a9 d9 C/\ar w9 (w.heap.size+1+1) 91 [af (V:Int),.slice a9 C.length d9]/\Bw w w9) ⟨h9,(Hr.out.set 0 _).set 1 _,(Hb.out.setCell zp _).setCell zp _⟩ ?_;rintro w9 ⟨q1,q2,q3⟩;obtain⟨x0,x1⟩:=q2.c2;exact bodyPost_ret (v:=.tuple #[.agg #[af (V:Int),.slice a9 C.length d9],af 0]) (by simp[results,Tryz.results108,go_sem,x0,x1]) rfl ⟨_,_,rfl,q1,q3⟩
theorem apx (V B:Nat)(s:Bool)(m:List UInt8)(e:Int)(D:Dyadic)(l:Nat->Dyadic)(w:World)(hV:V<=12)(hf:ey B (s,m,e))(hB:B<=16000)(hD:az (s,m,e)=D):
 Calls Tryz.prog 106 #[af (V:Int),.agg #[ag s,ah m,af e]] w λex w'=>∃a' c',ex=.returned (.tuple #[.agg #[af (V:Int),.slice a' (dO V D l 0).length c'],af 0])/\cz w' a' c' (dO V D l 0)/\Bw w w':=by
 have hC:=aba V D (s,m,e) l hD;obtain⟨C,uv⟩:=aG (dO V D l 0);rw[uv]at hC⊢;have hmk:=λW b (hb:ar W b 93 [ah (jc V),ag s,ah m,af e])=>Me V (some ⟨b,0,none⟩) 1 1 [(jc V,(s,m,e))] B W rfl zo (At.aw2 hb) (by intro t ht;simp at ht;subst ht;exact hf.1) (by intro t ht;simp at ht;subst ht;exact hf.2) zo;rw[hC]at hmk;have hmb:=λW=>rX (V:Int) V rfl zo W;have hcv:∀W b,Hid (ar W b 5 (cZ V λ_=>0))->(convert 94 9 (.slice (some ⟨b,0,none⟩) V V)).run Tryz.prog W=.ok (ah (jc V)) W:=λW b h=>by rw[<-TK];exact wB h.out V
 have lJ:=ai hmk;clear hmk hC uv hf hD;have Yw:¬(V:Int)<0:=by omega
 have hV2:¬(12:Int)<(V:Int):=by omega
 obtain⟨W,cg,Hb,Hc,Hr⟩:=iq w 39 [ag s,ah m,af e] 91 [af 0,.slice none 0 0];obtain⟨c0,c1,c2⟩:=Hc.out.c3;obtain⟨r0,aj,r1,ak⟩:=Hr.out.g2;go_enter Tryz.func106,Tryz.ntmps106;go_wp2_with fail;refine bR (λw'=>aC w' (w.heap.size) 0 (ag s)/\aC w' (w.heap.size) 1 (ah m)/\aC w' (w.heap.size) 2 (af e)) (λi=>Nat.blt i 10) [(0,true),(1,true),(4,true),(2,false),(3,false),(5,true),(6,false),(7,false),(8,true),(9,true),(10,false),(11,false)] zk zk rfl zk zc ⟨c0,c1,c2⟩ ?_;iterate 3 (refine pT rfl rfl ?_ (by intro w' ⟨q0,q1,q2⟩;go_simp;try with_reducible rfl);try simp only[UU])
 refine aI rfl rfl (λK hK=>?_);go_simp;refine hK _ _ (λ_=>⟨aL c0,aL c1,aL c2⟩) ?_;clear hK K;try simp only[UU]
 refine bV (λW3=>ar W3 (W.heap.size) 5 (cZ V (λ_=>0))/\Bw W W3) (by first|exact fe|exact fg) ?_;rintro W3 ⟨qq,ae⟩;clear c0 c1 c2 r0 aj r1 ak;have RZ:=Hc.out.lt;have GY:=Hr.out.lt;replace Hc:=kB Hc ae;replace Hr:=kB Hr ae;have Hq:=ai qq;clear qq;obtain⟨c0,c1,c2⟩:=Hc.out.c3;obtain⟨r0,aj,r1,ak⟩:=Hr.out.g2;replace Hb:=aB Hb ae;clear ae;refine aI rfl rfl (λK hK=>?_);go_simp;refine hK _ _ (λ_=>⟨c0,c1,c2⟩) ?_;clear hK K;try simp only[UU]
 refine pT rfl rfl ?_;try simp only[UU]
 refine aI rfl rfl (λK hK=>?_);go_simp;refine hK _ _ (λ_=>⟨aL c0,aL c1,aL c2⟩) ?_;clear hK K;try simp only[UU]
 refine bV (λW4=>ar W4 (W3.heap.size) 93 [ah (jc V),ag s,ah m,af e]/\Bw W3 W4) (by first|exact fe|exact fg) ?_;rintro W4 ⟨qz,ae⟩;clear c0 c1 c2 r0 aj r1 ak;have abp:=Hc.out.lt;have GZ:=Hr.out.lt;have anr:=Hq.out.lt;replace Hc:=kB Hc ae;replace Hr:=kB Hr ae;replace Hq:=kB Hq ae;have Hz:=ai qz;clear qz;obtain⟨c0,c1,c2⟩:=Hc.out.c3;obtain⟨r0,aj,r1,ak⟩:=Hr.out.g2;obtain⟨z0,z1,z2,z3⟩:=Hz.out.c4;replace Hb:=aB Hb ae;clear ae;refine aI rfl rfl (λK hK=>?_);go_simp;with_reducible refine(lJ.out _ _ Hz.out).mono ?_
 rintro e w5 ⟨a2,d2,rfl,eO,hq⟩;have ae:Bw W4 w5:=by first|exact hq|exact aW hq
 clear c0 c1 c2 r0 aj r1 ak z0 z1 z2 z3;obtain⟨Hc,c0,c1,c2⟩:=aQ Hc ae;obtain⟨Hr,r0,aj,r1,ak⟩:=bE Hr ae;replace Hq:=kB Hq ae;obtain⟨Hz,z0,z1,z2,z3⟩:=dU Hz ae;replace Hb:=aB Hb ae;clear ae;refine hK _ _ (λ_=>⟨c0,c1,c2⟩) ?_;clear hK K;try simp only[UU]
 iterate 2 (refine pT rfl rfl ?_;try simp only[UU])
 refine aI rfl rfl (λK hK=>?_);go_simp;refine hK _ _ (by first|exact λh=>absurd h zd|exact λ_=>⟨c0,c1,c2⟩ |exact λ_=>⟨(by first|exact c0|exact aK zf c0|exact aK zf (aK zf c0) |exact aK zf (aK zf (aK zf c0))),(by first|exact c1|exact aK zf c1|exact aK zf (aK zf c1) |exact aK zf (aK zf (aK zf c1))),(by first|exact c2|exact aK zf c2|exact aK zf (aK zf c2) |exact aK zf (aK zf (aK zf c2)))⟩) ?_;clear hK K;try simp only[UU]
 refine aI rfl rfl (λK hK=>?_);go_simp;refine hK _ _ (λh=>absurd h zd) ?_;clear hK K;try simp only[UU]
 simp only[bi];go_wp2;have h9:=eO.store Hr.out zd (af (V:Int)) (.slice a2 C.length d2);refine dW (λw9=>cz w9 a2 d2 C/\ar w9 (w.heap.size+1) 91 [af (V:Int),.slice a2 C.length d2]/\Bw w w9) ⟨h9,(Hr.out.set 0 _).set 1 _,(Hb.out.setCell zp _).setCell zp _⟩ ?_;rintro w9 ⟨q1,q2,q3⟩;obtain⟨p0,p1⟩:=q2.c2;exact bodyPost_ret (v:=.tuple #[.agg #[af (V:Int),.slice a2 C.length d2],af 0]) (by simp[results,Tryz.results106,go_sem,p0,p1]) rfl ⟨_,_,rfl,q1,q3⟩
def Ci (w:World)(b V:Nat)(A:Nat->Option Addr)(cp:Nat->Nat)(Ts:Nat->List aM):Prop:=∀k,k<2->w.cell? ⟨b,k*2,none⟩=some (af (V:Int))/\w.cell? ⟨b,k*2+1,none⟩=some (.slice (A k) (Ts k).length (cp k))/\cz w (A k) (cp k) (Ts k)
theorem Ci.below {w w':World}{b V:Nat}{A:Nat->Option Addr}{cp:Nat->Nat}{Ts:Nat->List aM}(h:Ci w b V A cp Ts)(hb:Bw w w'):Ci w' b V A cp Ts:=λk hk=>⟨cell_later hb (h k hk).1,cell_later hb (h k hk).2.1,(h k hk).2.2.below hb⟩
theorem Pi {V B:Nat}{ts:List aM}(h:iH V B ts)(hB:B<=16384):∀t∈ts,dv t.2:=λt ht=>by rw[(h.1.1.2 t ht).2];exact Sm.aw1 (h.2 t ht).2 hB
theorem apG (V B b:Nat)(A:Nat->Option Addr)(cp:Nat->Nat)(Ts:Nat->List aM)(w:World)(hb:Ci w b V A cp Ts)(hf:∀k,k<2->iH V B (Ts k))(hB:B<=16384):
 Calls Tryz.prog 162 #[.slice (some ⟨b,0,none⟩) 2 2] w λe w'=>e=.returned (af 0)/\Bw w w':=by
 have dZ:=λk (hk:k<2) W (hW:Bw w W)=>acw V (A k) (cp k) (Ts k).length (Ts k) W rfl ((hb.below hW) k hk).2.2.1 (hf k hk).1 (Pi (hf k hk) hB);obtain⟨jd,fP⟩:=aO dZ hb;clear dZ hb hf;have Hb:Hid (Bw w w):=Below.refl _ _;go_enter Tryz.func162,Tryz.ntmps162;go_wp2_with fail;go_loopw[3] (λx wr=>∃k:Nat,k<=2/\x=af (k:Int)/\Bw w wr) (λx _=>2-(intOf x).toNat);case atStart=>exact⟨0,Nat.zero_le _,rfl,Hb.out⟩
 case round=>
  clear Hb;obtain⟨k,hk,rfl,pb⟩:=hrel;have hlb:∀k:Nat,k<2->∀W,Sem.run Tryz.prog (Instr.indexAt 80 (Value.slice (some {block:=b,off:=0}) 2 2) (Value.int IntKind.i64 (k:Int))) W=Result.ok (Value.pointer (some {block:=b,off:=k*2})) W:=λk hk=>by have h:=uH 2 2 k (k:Int) (rfl:(some ⟨b,0,none⟩:Option Addr)=_) hk rfl;rw[Nat.zero_add]at h;exact h
  by_cases hlt:k<2
  . obtain⟨c0,c1,_⟩:=(fP.out.below pb) k hlt;have bK:=hlb k hlt;obtain⟨N,hN⟩:=aG ((Ts k).length);have hc:=jd.out k hlt wr pb;rw[hN]at c1 hc;obtain⟨Hc,bu⟩:=aO hc pb;clear hc pb hN hlb;have nU:(k:Int)<2:=by omega
    go_wp2_with fail;refine Hc.out.mono ?_;rintro e w1 ⟨rfl,hq⟩;have Hq:=ai (aJ bu.out hq);clear hq c0 c1 bK;go_wp2;go_roundw;case rel=>exact⟨k+1,by omega,by go_num,Hq.out⟩
    case measure=>simp[intOf];omega
  . obtain rfl:k=2:=by omega
    obtain⟨bu,Jr⟩:=aO pb hlb;clear pb hlb hlt;go_wp2_with fail;go_loopw[5] (λx wr=>∃k:Nat,k<=2/\x=af (k:Int)/\Bw w wr) (λx _=>2-(intOf x).toNat);case atStart=>exact⟨0,Nat.zero_le _,rfl,bu.out⟩
    case round=>
     clear bu;obtain⟨k,hk,rfl,pb⟩:=hrel;by_cases hlt:k<2
     . obtain ⟨c0,_,_⟩:=(fP.out.below pb) k hlt;obtain⟨d0,_,_⟩:=(fP.out.below pb) 0 zo;rw[Nat.zero_mul]at d0;have bK:=Jr.out k hlt;have mf:=Jr.out 0 zo;rw[Nat.zero_mul]at mf;have Hu:Hid (bH wr b (k*2) [af (V:Int)]):=fun j hj=>by
        obtain rfl:j=0:=by simp at hj;omega
        exact c0
       have Hv:Hid (bH wr b 0 [af (V:Int)]):=λj hj=>by
        obtain rfl:j=0:=by simp at hj;omega
        exact d0
       have bu:=ai pb;clear pb c0 d0;have nU:(k:Int)<2:=by omega
       go_wp2_with fail;have u0:=Hu.out.w1;have v0:wr.cell? ⟨b,0,none⟩=some (af (V:Int)):=Hv.out.cell 0 zm;refine bR (λw'=>aC w' b (k*2) (af (V:Int))/\aC w' b 0 (af (V:Int))) (λi=>Nat.blt i 100000) [(0,true),(1,true),(2,true),(3,true),(4,true),(5,true),(6,true),(7,true),(8,true),(9,true)] zk zk rfl zk zc ⟨u0,v0⟩ ?_;iterate 10 (refine pT rfl rfl ?_ (by intro w' ⟨q0,q1⟩;go_simp;try with_reducible rfl);try simp only[UU])
       simp only[bi];go_wp2;go_roundw;case rel=>exact⟨k+1,by omega,by go_num,bu.out.drew⟩
       case measure=>simp[intOf];omega
     . obtain rfl:k=2:=by omega
       have bu:=ai pb;clear pb;go_wp2;refine bodyPost_ret (results_tmp rfl _ _ _) rfl ⟨rfl,bu.out⟩
theorem apu (V B b:Nat)(A:Nat->Option Addr)(cp:Nat->Nat)(Ts:Nat->List aM)(C:List aM)(w:World)(hb:Ci w b V A cp Ts)(hf:∀k,k<2->iH V B (Ts k))(hB:B<=8000)(hl:∀k,k<2->(Ts k).length<=100)(hC:bY (Ts 0++Ts 1)=C):
 Calls Tryz.prog 109 #[.slice (some ⟨b,0,none⟩) 2 2] w λex w'=>∃a' c',ex=.returned (.tuple #[.agg #[af (V:Int),.slice a' C.length c'],af 0])/\cz w' a' c' C/\Bw w w':=by
 obtain⟨i0,hi,hz0,hz1,hz2⟩:=info_parts Tryz.aw6;have hlk:=λW (hW:Bw w W)=>apG V B b A cp Ts W (hb.below hW) hf zo;obtain⟨Q,hQ⟩:=aG (mJ Ts);have zQ:Q 0=[]:=by rw[<-hQ];rfl
 have uy:∀k,Q (k+1)=Q k++Ts k:=λk=>by rw[<-hQ];rfl
 have zR:Q 2=Ts 0++Ts 1:=by rw[uy,uy,zQ,List.nil_append]
 have PX:∀t∈Q 2,dv t.2/\Sm B (az t.2):=λt ht=>by
  rw[zR]at ht;rcases List.mem_append.1 ht with h|h
  . exact⟨Pi (hf 0 zo) zo t h,((hf 0 zo).2 t h).2⟩
  . exact⟨Pi (hf 1 zo) zo t h,((hf 1 zo).2 t h).2⟩
 have Cz:∀k,k<=2->(Q k).length<=100*k:=by
  intro k;induction k with
  |zero=>intro _;rw[zQ];simp
  |succ k ih=>intro h;have h1:=ih zo;have h2:=hl k zo;rw[uy,List.length_append];omega
 have hg:=λa' n c' W (hn:(Q 2).length=n) (ha:At W a' ((Q 2).flatMap aX))=>Me V a' n c' (Q 2) B W hn (by have:=Cz 2 zo;omega) ha (λt ht=>(PX t ht).1) (λt ht=>(PX t ht).2) (by have:=Cz 2 zo;omega);have XA:bY (Q 2)=C:=by rw[zR];exact hC
 rw[XA]at hg;obtain⟨Hi,dF,dG,dm,Ev,Ug,Uh,Ja,Hg,fP⟩:=tM hi hz0 hz1 hz2 hlk zQ uy Cz hg hb;clear hi hz0 hz1 hz2 hlk zQ uy zR PX Cz hg XA hb hf hC hQ hl;obtain⟨W,cg,Hb,Hr⟩:=fJ w 91 [af 0,.slice none 0 0];obtain⟨r0,aj,r1,ak⟩:=Hr.out.g2;go_enter Tryz.func109,Tryz.ntmps109;go_wp2_with fail;refine(Ev.out _ Hb.out).mono ?_;rintro e w1 ⟨rfl,ae⟩;clear r0 aj r1 ak;obtain⟨Hr,r0,aj,r1,ak⟩:=bE Hr ae;replace Hb:=aB Hb ae;clear ae;have lr:=Hr.out.lt;have Ls:=Hb.out.size;have ky:=Hr;have fq:=Hb;go_wp2_with fail;go_loopw[5,6] (λs5 x wr=>∃(k n:Nat) (v:Value),k<=2/\x=af (k:Int)/\v=s5/\(Q k).length=n/\wr.ownsRow w1.heap.size 93 4 v n ((Q k).flatMap aX)/\Bw w1 wr) (λ_ x _=>2-(intOf x).toNat);case atStart=>exact⟨0,0,_,Nat.zero_le _,rfl,rfl,by rw[Ug.out];rfl,by rw[Ug.out];exact World.ownsRow_nil _ _ _ _,Below.refl _ _⟩
 case round=>
  clear r0 aj r1 ak Hr Hb;obtain⟨k,n,v,hk,rfl,rfl,hn,ho,pb⟩:=hrel;have dY:=aJ fq.out pb;have hlb:∀k:Nat,k<2->∀W,Sem.run Tryz.prog (Instr.indexAt 80 (Value.slice (some {block:=b,off:=0}) 2 2) (Value.int IntKind.i64 (k:Int))) W=Result.ok (Value.pointer (some {block:=b,off:=k*2})) W:=λk hk=>by have h:=uH 2 2 k (k:Int) (rfl:(some ⟨b,0,none⟩:Option Addr)=_) hk rfl;rw[Nat.zero_add]at h;exact h
  by_cases hlt:k<2
  . obtain⟨c0,c1,hp⟩:=(fP.out.below dY) k hlt;have bK:=hlb k hlt;obtain⟨N,hN⟩:=aG ((Ts k).length);have hsl:=hp.2.1;have qw:((Ts k).flatMap aX).length=N*4:=by rw[mB,hN]
    rw[hN]at c1 hsl;have hnx:(Q (k+1)).length=n+N:=by rw[Uh.out,List.length_append,hn,hN]
    have hql:=Ja.out (k+1) zo;rw[hnx]at hql;have iy:=pb.size;obtain⟨EK,Ew,eH,nE,Ho,bu⟩:=gW hsl qw hp.1 hnx ho pb;clear hsl qw hp hnx ho pb dY hlb hn hN c0;have nU:(k:Int)<2:=by omega
    go_wp2_with (at_builtin;refine rp rfl _ _ 89 rfl w1.heap.size 93 i0 _ 4 48 Tryz.underlying89 Hi.out dF.out dG.out dm.out rfl zd v n ((Q k).flatMap aX) rfl Ho.out (A k) N (cp k) ((Ts k).flatMap aX) rfl EK.out Ew.out eH.out (tX _) zx zo zo ?_;intro v9 w9 iD rS Ll);have jE:=bu.out.grown rS iy (λj e=>dz Ho.out j e);go_roundw;case rel=>exact⟨k+1,n+N,v9,by omega,by go_num,rfl,nE.out,by rw[Uh.out,List.flatMap_append];exact iD,jE⟩
    case measure=>simp[intOf];omega
  . obtain rfl:k=2:=by omega
    obtain⟨a4,c4,rfl,hat,_⟩:=eo ho;obtain⟨c0,_,_⟩:=(fP.out.below dY) 0 zo;have mf:=hlb 0 zo;rw[Nat.zero_mul]at c0 mf;have hgg:=Hg.out a4 n c4 wr hn hat;have hr2:=ky.out.below pb;obtain⟨Hgg,Hr,Hb⟩:=cL hgg hr2 dY;clear hgg hr2 dY hlb hat ho pb hn;obtain⟨r0,aj,r1,ak⟩:=Hr.out.g2;go_wp2_with fail;refine Hgg.out.mono ?_;rintro e w5 ⟨a2,d2,rfl,eO,hq⟩;clear r0 aj r1 ak;replace Hr:=kB Hr hq;obtain⟨r0,aj,r1,ak⟩:=Hr.out.g2;replace Hb:=ai (aJ Hb.out hq);clear hq c0 mf;go_wp2;have h9:=eO.store Hr.out zd (af (V:Int)) (.slice a2 C.length d2);refine dW (λw9=>cz w9 a2 d2 C/\ar w9 w.heap.size 91 [af (V:Int),.slice a2 C.length d2]/\Bw w w9) ⟨h9,(Hr.out.set 0 _).set 1 _,(Hb.out.setCell zp _).setCell zp _⟩ ?_;rintro w9 ⟨q1,q2,q3⟩;obtain⟨p0,p1⟩:=q2.c2;exact bodyPost_ret (v:=.tuple #[.agg #[af (V:Int),.slice a2 C.length d2],af 0]) (by simp[results,Tryz.results109,go_sem,p0,p1]) rfl ⟨_,_,rfl,q1,q3⟩
end Go.Proofs.YtoopepmmepmfnaaGreatDoor
