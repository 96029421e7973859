/- Package slices: Clone,Delete,over numbers. -/
import Derived.Test.YtdaadlblknpipaaGreatDoorZ13
import Derived.Lib.SliceRun
import Derived.Test.YtdaadlblknpipaaGreatDoorZ20
import Derived.Test.YtdaadlblknpipaaGreatDoorZ12
set_option linter.unusedVariables false
set_option linter.unusedSimpArgs false
set_option maxRecDepth 100000
set_option maxHeartbeats 16000000
namespace Go.Proofs.YtdaadlblknpipaaGreatDoor
open Go.RowKit
attribute [local go_sem ↓] Go.wp_at_zero Go.wp_at_succ
theorem adS (a:Option Addr)(n cap:Nat)(cC:List Raw)(w:World)(hn:cC.length=n)(hl:n<=1048576)(hs:a=none->n=0/\cap=0)(ha:At w a (cC.flatMap bo)):
 Calls Tryz.prog 162 #[.slice a n cap] w λe w'=>∃v',e=.returned v'/\w'.ownsRow w.heap.size 30 3 v' n (cC.flatMap bo)/\Bw w w':=by
 obtain⟨i0,hi,hz0,hz1,hz2⟩:=info_parts Tryz.apl;have q:=λ(w:World) (a:Option Addr) (n c n' c':Nat)=>Lib.run_eql_slice_nil (P:=Tryz.prog) w 45 30 a n c n' c' Tryz.underlying45;have hlen:(cC.flatMap bo).length=n*3:=by rw[iY bo 3 (λ_=>rfl),hn]
 obtain⟨cs,hcs⟩:=aB (cC.flatMap bo);have h1:=yi cC;rw[hcs]at hlen ha h1⊢;obtain⟨nS,Ha,H1,Hs,Hi,cG,cH,cE⟩:=nJ hlen ha h1 hs hi hz0 hz1 hz2;clear hlen ha h1 hs hi hz0 hz1 hz2 hn hcs;cases a with
 |none=>obtain⟨hn0,hc⟩:=Hs.out rfl;subst hc;subst hn0;go_enter Tryz.func162,Tryz.ntmps162;go_wp2;go_ret;refine⟨_,rfl,?_,Below.refl _ _⟩;have e:cs=[]:=List.eq_nil_of_length_eq_zero (by have:=nS.out;omega);rw[e];exact World.ownsRow_nil _ _ _ _
 |some ad=>go_enter Tryz.func162,Tryz.ntmps162;go_wp2_with (at_builtin;refine Zd rfl _ _ 45 rfl w.heap.size 30 i0 _ 3 32 Tryz.underlying45 Hi.out cG.out cH.out cE.out rfl zd _ 0 [] rfl (World.ownsRow_made w #[] 0 (Nat.le_refl _) (Nat.zero_le _) zm) (some ad) n cap cs rfl Hs.out nS.out (Ha.out.below ((Below.refl _ w).alloc (Nat.le_refl _) _)) H1.out zx zo zm ?_;intro v' w1 hown hgrow fy);go_ret;refine⟨v',rfl,by simpa using hown,?_⟩;exact((Below.refl _ w).alloc (Nat.le_refl _) _).grown hgrow zm (λk hk=>by have h9:w.heap.size=k:=Option.some.inj hk;omega)
theorem Tryz.apu (w:World):(zeroValue 30).run Tryz.prog w=.ok (.agg #[.bool false,.string ⟨#[]⟩,.int .i64 0]) w:=by kernel_rfl
theorem aeV {α:Type}(f:α->List Value)(sz:Nat)(hf:∀x,(f x).length=sz)(xs:List α)(i:Nat)(hi:i<xs.length):(xs.eraseIdx i).flatMap f=(xs.flatMap f).take (i*sz)++(xs.flatMap f).drop ((i+1) *sz):=by
 have e:xs=xs.take i++xs[i]::xs.drop (i+1):=by rw[List.getElem_cons_drop,List.take_append_drop]
 have hl:((xs.take i).flatMap f).length=i*sz:=by rw[iY f sz hf,List.length_take,Nat.min_eq_left zo]
 have e1:xs.flatMap f=(xs.take i).flatMap f++(f xs[i]++(xs.drop (i+1)).flatMap f):=by
  conv=>lhs;rw[e]
  rw[List.flatMap_append,List.flatMap_cons]
 rw[e1,List.take_left' hl,List.drop_append,hl,List.drop_of_length_le (by rw[hl,Nat.add_mul];omega)];rw[show(i+1) *sz-i*sz=sz by rw[Nat.add_mul,Nat.one_mul];omega,List.nil_append,List.drop_left' (hf _),List.eraseIdx_eq_take_drop_succ,List.flatMap_append]
theorem aem (g m cap i base:Nat)(cC:List Raw)(w:World)(hn:cC.length=m+1)(hl:m<=1048576)(hi:i<=m)
 (ho:w.ownsRow base 30 3 (.slice (some ⟨g,0,none⟩) (m+1) cap) (m+1) (cC.flatMap bo)):
 Calls Tryz.prog 161 #[.slice (some ⟨g,0,none⟩) (m+1) cap,.int .i64 (i:Int),.int .i64 ((i+1:Nat):Int)] w λe w'=>e=.returned (.slice (some ⟨g,0,none⟩) m cap)/\
  w'.ownsRow base 30 3 (.slice (some ⟨g,0,none⟩) m cap) m ((cC.eraseIdx i).flatMap bo)/\w.grownBy w' (some g):=by
 obtain⟨i0,hi0,hz0,hz1,hz2⟩:=info_parts Tryz.apl;have hcap:m+1<=cap:=(sJ ho).1;have hcm:cap<=9223372036854775807:=by
  rcases ho.2 with⟨h1,_⟩ |⟨g',cap',cur,h1,hb,hg,h4,h5,_⟩
  . simp at h1
  . simp only[Value.slice.injEq]at h1;obtain⟨_,_,rfl⟩:=h1;unfold maxLen at h5;omega
 have GF:=aeV bo 3 (λ_=>rfl) cC i zo;have hlen:(cC.flatMap bo).length=(m+1) *3:=by rw[iY bo 3 (λ_=>rfl),hn]
 have h1:=yi cC;obtain⟨cs,hcs⟩:=aB (cC.flatMap bo);obtain⟨rs,hrs⟩:=aB ((cC.eraseIdx i).flatMap bo);rw[hcs]at hlen ho h1 GF;rw[hrs]at GF⊢;have zX:=Ou ho i zo;obtain⟨ad,had⟩:=aB (if cap=i+1 then(⟨g,0,none⟩:Addr)else⟨g,(i+1) *3,none⟩);have hsl:(if cap=i+1 then some (⟨g,0,none⟩:Addr)else some ⟨g,(i+1) *3,none⟩)=some ad:=by rw[<-had];split<;>rfl
 have hnews:Hid (∀j u,(cs.drop ((i+1) *3))[j]?=some u->w.drew.cell? (ad.add j)=some u):=by
  intro j u hj;rw[List.getElem?_drop]at hj;have hlt:=(List.getElem?_eq_some_iff.1 hj).1;have Gv:¬cap=i+1:=by omega
  rw[if_neg Gv]at had;subst had;have e2:((⟨g,(i+1) *3,none⟩:Addr).add j)=⟨g,(i+1) *3+j,none⟩:=by unfold Addr.add;cases j<;>simp
  rw[e2];have:=ho.cells (g:=g) rfl ((i+1) *3+j) u hj;have e3:((⟨g,0,none⟩:Addr).add ((i+1) *3+j))=⟨g,(i+1) *3+j,none⟩:=by unfold Addr.add;split<;>simp;omega
  rw[e3]at this;exact this
 have hnl:Hid ((cs.drop ((i+1) *3)).length=(m-i) *3):=by show _=_;rw[List.length_drop,hlen];omega
 have dL:Hid (∀u∈cs.drop ((i+1) *3),u.oneCell'=true):=λu hu=>h1 u (List.mem_of_mem_drop hu);have Ri:Hid (w.drew.ownsRow base 30 3 (.slice (some ⟨g,0,none⟩) i cap) i (cs.take (i*3))):=zX;obtain⟨aau,aa5,Kc,yN,Hi,cH⟩:=gN GF hnews.out hnl.out dL.out hi0 hz1;have z:=Tryz.apu;clear hnews hnl dL ho zX hlen h1 GF hcs hrs hn hi0 hz0 hz1 hz2;have hw1:IntKind.i64.wrap ((i:Int)+1)=((i+1:Nat):Int):=by rw[IntKind.wrap_i64];omega
 have hne:((i:Int)==((i+1:Nat):Int))=false:=by simp;omega
 have hcm2:¬cap=m:=by omega
 have tY:i+1<=m+1:=by omega
 have hmc:i+1<=cap:=by omega
 have hic:i<=cap:=by omega
 have h0i:(0:Int)<=(i:Int)+1:=by omega
 clear had;go_enter Tryz.func161,Tryz.ntmps161;go_wp2_with fail;have Hb:Hid (Bw w w):=Below.refl _ _;refine bJ (λw'=>True) (λi=>Nat.blt i 100000) [(0,true),(1,true),(2,true),(3,true),(4,true),(5,true),(6,false),(7,true)] zk zk rfl zk zc True.intro ?_;iterate 6 (refine pT rfl rfl ?_;try simp only[UU])
 refine aI rfl rfl (λK hK=>?_);refine wp_append_own_spare _ _ _ 45 rfl base 30 i0 3 Tryz.underlying45 Hi.out cH.out g i cap (cs.take (i*3)) rfl Ri.out ad (m-i) (cap-(i+1)) (cs.drop ((i+1) *3)) rfl Kc.out aa5.out yN.out zo ?_;intro w1 cP hg1;refine hK _ _ (λ_=>True.intro) ?_;clear hK K;try simp only[UU]
 refine pT rfl rfl ?_;try simp only[Act.put,U1,U2]
 simp only[aU];have e9:i+(m-i)=m:=by omega
 rw[e9,<-aau.out]at cP;obtain⟨w2,hcl,dO,hg2⟩:=OS w1 45 30 _ 3 Tryz.underlying45 Tryz.apu rfl (by intro v hv;simp[Value.cells]at hv;rcases hv with rfl|rfl|rfl<;>rfl) g m 1 cap (cap-m) base rs cP zo;have tF:=ah dO;have Hg2:Hid (w.grownBy w2 (some g)):=grownBy_trans ⟨hg1.os,hg1.tape,hg1.output,hg1.size,hg1.block⟩ hg2;clear cP hg1 dO hg2 Ri hsl;go_wp2;go_ret;exact⟨rfl,tF.out,Hg2.out⟩
theorem Te (l:List Dyadic)(c:Nat):(l.map canon).eraseIdx c=(l.eraseIdx c).map canon:=by apply List.ext_getElem?;intro i;rw[List.getElem?_eraseIdx,List.getElem?_map,List.getElem?_map,List.getElem?_map,List.getElem?_eraseIdx];split<;>rfl
theorem alV (a:Option Addr)(cap m r c:Nat)(R:List (List Dyadic))(w:World)(hL:R.length=m+1)(hrow:∀x∈R,x.length=m+1)(hr:r<=m)(hc:c<=m)(hm:m<=7)(ha:aR w a (R.map λx=>x.map canon)):
 Calls Tryz.prog 133 #[.slice a (m+1) cap,.int .i64 (r:Int),.int .i64 (c:Int)] w λe w'=>∃a' c',e=.returned (.slice a' m c')/\m<=c'/\aR w' a' ((iq R r c).map λx=>x.map canon)/\Bw w w':=by
 obtain⟨j0,hj,hy0,hy1,hy2⟩:=info_parts Tryz.apq;obtain⟨S,hS⟩:=aB (iq R r c);have gu:=Ea R r c m hL hr;have om:=NY R r c m hrow hc;have Me:=NW R r c m hL hr;rw[hS]at gu om Me⊢;have kj:∀(W:World) (k:Nat) (hk:k<m+1),Bw w W->∃b o a1 c1,∃x:List Dyadic,R.getD k []=x/\x.length=m+1/\a=some ⟨b,o,none⟩/\W.cell? ⟨b,o+k,none⟩=some (.slice (some a1) (m+1) c1)/\At W (some a1) ((x.map canon).flatMap bo):=by
  intro W k hk hb;have Vl:k<R.length:=by omega
  obtain⟨b,o,a1,c1,h1,h2,h3⟩:=(ha.below hb).row k (by simp[hL];omega);have e1:(R.map λx=>x.map canon)[k]'(by simp[hL];omega)=R[k].map canon:=by simp
  have hxl:=hrow _ (List.getElem_mem Vl);rw[e1]at h2 h3;rw[List.length_map,hxl]at h2;cases a1 with
  | none=>
    rcases h3 with h3|⟨_,_,h3,_⟩
    . have:=congrArg List.length h3;rw[iY bo 3 (λ_=>rfl),List.length_map,hxl]at this;simp at this
    . cases h3
  |some a1=>exact⟨b,o,a1,c1,R[k],by simp[List.getD_eq_getElem?_getD,Vl],hxl,h1,h2,h3⟩
 obtain⟨Hj,gV,iL,iM,Bg,HSr,ZL,rG⟩:=nJ hj hy0 hy1 hy2 gu om Me kj;clear hj hy0 hy1 hy2 gu om Me kj hS ha hL hrow;have Hb:Hid (Bw w w):=Below.refl _ _;go_enter Tryz.func133,Tryz.ntmps133;go_wp2_with fail;go_loopw[7,12] (λs7 x wr=>∃(k:Nat) (v:Value),k<=m+1/\x=.int .i64 (k:Int)/\v=s7/\Own2 45 wr w.heap.size S (if k<=r then k else k-1) v/\Bw w wr) (λ_ x _=>m+1-(intOf x).toNat);case atStart=>exact⟨0,_,Nat.zero_le _,rfl,rfl,by rw[if_pos (Nat.zero_le _)];exact Own2.nil _ _ _ _,Hb.out⟩
 case round=>
  clear Hb;obtain⟨k,v,hk,rfl,rfl,pv,pb⟩:=hrel;by_cases hlt:k<m+1
  . obtain⟨b,o,a1,c1,x,jI,hxl,rfl,hc1,hat⟩:=rG.out wr k hlt pb;have bD:=ug (m+1) cap k (k:Int) (rfl:(some ⟨b,o,none⟩:Option Addr)=_) hlt rfl;rw[Nat.mul_one]at bD;by_cases hkr:k=r
    . subst hkr;obtain⟨cK,aO⟩:=aL pv pb;clear pv pb jI hxl hat;have h3:((k:Int) !=(k:Int))=false:=by simp
      go_wp2;go_roundw;case rel=>exact⟨k+1,v,by omega,by go_num,rfl,by have h:=cK.out;rw[if_pos (Nat.le_refl _)]at h;rw[if_neg zo];exact h,aO.out⟩
      case measure=>simp[intOf];omega
    . have h3:((k:Int) !=(r:Int))=true:=by simp;omega
      have h4:¬(k:Int)=(r:Int):=by omega
      obtain⟨j,hj⟩:=aB (if k<=r then k else k-1);have jG:(if k+1<=r then k+1 else k+1-1)=j+1:=by rw[<-hj];split<;>split<;>omega
      have hjm:j<m:=by rw[<-hj];split<;>omega
      have Vh:(if j<r then j else j+1)=k:=by rw[<-hj];split<;>split<;>omega
      have xw:S.getD j []=x.eraseIdx c:=by rw[ZL.out j hjm,Vh,jI]
      rw[hj]at pv;obtain⟨Z,hZ⟩:=aB (x.eraseIdx c);have nj:Z.length=m:=by rw[<-hZ,List.length_eraseIdx_of_lt zo];omega
      rw[hZ]at xw
      -- the row,without its number
      have UD:∀W,Bw wr W->Calls Tryz.prog 162 #[.slice (some a1) (m+1) c1] W λe w'=>∃g cc,e=.returned (.slice (some ⟨g,0,none⟩) (m+1) cc)/\(wr.heap.size<=g/\∀W',Bw wr W'->w'=W'->Calls Tryz.prog 161 #[.slice (some ⟨g,0,none⟩) (m+1) cc,.int .i64 (c:Int),.int .i64 ((c:Int)+1)] W' λe w''=>e=.returned (.slice (some ⟨g,0,none⟩) m cc)/\w''.ownsRow wr.heap.size 30 3 (.slice (some ⟨g,0,none⟩) m cc) m (dC Z)/\Bw wr w'')/\Bw W w':=by intro W hW;refine(adS (some a1) (m+1) c1 (x.map canon) W (by rw[List.length_map,hxl]) zo (λe=>by cases e) (hat.below hW)).mono ?_;rintro e w' ⟨v',rfl,ho,hb⟩;obtain⟨g,cc,rfl,hg1,hg2,hg3⟩:=vV ho zo;have hsz:=hW.size;refine⟨g,cc,rfl,⟨by omega,λW' hW' e=>?_⟩,hb⟩;subst e;have hd:=aem g m cc c wr.heap.size (x.map canon) w' (by rw[List.length_map,hxl]) zo hc (pU ho zo);rw[show((c+1:Nat):Int)=(c:Int)+1 by omega]at hd;refine hd.mono ?_;rintro e w'' ⟨rfl,dO,hg⟩;rw[Te,hZ,<-qC]at dO;exact⟨rfl,dO,hW'.grown hg hW'.size (λi e=>by have h9:g=i:=Option.some.inj e;omega)⟩
      obtain⟨QB,EP,mh,cK,aO,BL⟩:=gN UD xw nj pv pb jG;clear UD xw nj hZ pv pb jG Vh hj jI hxl hat;have gB:=aO.out.size;have hwc:IntKind.i64.wrap ((c:Int)+1)=((c+1:Nat):Int):=by rw[IntKind.wrap_i64];omega
      have Gv:(c:Int)+1=((c+1:Nat):Int):=by omega
      obtain⟨KH,Hci⟩:=aL hwc Gv;clear hwc Gv;go_wp2_with fail;refine(QB.out _ (Below.refl _ _)).mono ?_;rintro e w4 ⟨g,cc,rfl,⟨hg1,hdel⟩,hb4⟩;have QH:=ah (hdel w4 hb4 rfl);clear hdel hc1 bD;go_wp2_with fail;refine QH.out.mono ?_;rintro e w5 ⟨rfl,MV,dK⟩;have gw:=MV.lt;obtain⟨a2,c2,My,kK,_⟩:=di MV;simp only[Value.slice.injEq,true_and]at My;obtain⟨rfl,rfl⟩:=My;obtain⟨vals,hvl,hov,iD⟩:=cK.out.below dK;obtain⟨_,_,nz,_⟩:=cK.out;have hvs:=nz.lt;have hin:∀b o,(some ⟨g,0,none⟩:Option Addr)=some ⟨b,o,none⟩->some b≠v.ownBlock/\b<w5.heap.size:=by intro b o e;simp only[Option.some.injEq,Addr.mk.injEq,and_true]at e;obtain⟨rfl,rfl⟩:=e;have h1:=gw g rfl;refine⟨λh2=>?_,h1.2⟩;have h3:=hvs g h2.symm;omega
      obtain⟨mW,sY,iK,nX,cM,fL⟩:=gN hin kK hvl iD hov (aJ aO.out dK);have Ps:=dK.size;clear hin kK hvl iD hov nz hvs gw MV dK hb4 QH QB hg1;have Hb:Hid (Bw w5 w5):=Below.refl _ _;obtain⟨W6,ot,ae,Hd⟩:=cN w5 45 [.slice (some ⟨g,0,none⟩) m cc];have d0:=Hd.out.c1;replace Hb:=au Hb ae;clear ae;have cm:=ownsRow_below cM.out Hb.out;have ia:=Hb.out.size;have hnews:∀i u,([.slice (some ⟨g,0,none⟩) m cc]:List Value)[i]?=some u->W6.cell? ((⟨w5.heap.size,0,none⟩:Addr).add i)=some u:=fM Hd.out;clear d0;go_wp2_with (at_builtin;refine wpList_append_own_at _ rfl _ _ 78 rfl w.heap.size 45 j0 _ 1 24 Tryz.underlying78 Hj.out gV.out iL.out iM.out rfl zd v j vals rfl cm ⟨w5.heap.size,0,none⟩ 1 1 [.slice (some ⟨g,0,none⟩) m cc] rfl rfl hnews zy zx zo zo ?_;intro v' w7 dt eD _ fy;obtain⟨g',lF,rfl⟩:=ownsRow_succ dt);go_roundw;case rel=>
       refine⟨k+1,_,by omega,by go_num,rfl,?_,?_⟩
       . rw[BL.out];refine Own2.push (a:=some ⟨g,0,none⟩) (c:=cc) iK.out (w:=W6) ?_ ?_ ?_ ?_ eD fy
         . intro i h;obtain⟨a,c,h1,h2,h3⟩:=nX.out i h;exact⟨a,c,h1,h2.below Hb.out,λb o e=>⟨(h3 b o e).1,Nat.lt_of_lt_of_le (h3 b o e).2 ia⟩⟩
         . rw[EP.out];exact sY.out.below Hb.out
         . exact λb o e=>⟨(mW.out b o e).1,Nat.lt_of_lt_of_le (mW.out b o e).2 ia⟩
         . rw[EP.out,mh.out];exact dt
       . exact(aJ fL.out Hb.out).grown eD zo (λj e=>cJ cm j e)
      case measure=>simp[intOf];omega
  . obtain rfl:k=m+1:=by omega
    rw[if_neg zo,Nat.add_sub_cancel]at pv;obtain⟨a2,c2,rfl,hcl,iR⟩:=Own2.apx pv Bg.out;obtain⟨mY,aO⟩:=aL iR pb;clear pv pb iR;go_wp2;refine bodyPost_ret (results_tmp rfl _ _ _) rfl ⟨a2,c2,rfl,hcl,mY.out,aO.out⟩
theorem acW (a:Option Addr)(c:Nat)(w:World):Calls Tryz.prog 88 #[.slice a 0 c] w λe w'=>e=.returned (cX 1)/\Bw w w':=by
 have Hb:Hid (Bw w w):=Below.refl _ _;go_enter Tryz.func88,Tryz.ntmps88;go_wp2_with fail;obtain⟨R,hR⟩:∃R:World->Prop,(λW=>ak W (w.heap.size) 28 [.bool false,.string ⟨#[]⟩]/\Bw w W)=R:=⟨_,rfl⟩;first|refine bO R ?hR ?_|refine bK R ?hR ?_
 case hR=>subst hR;exact⟨(ak.newAt w _ _ (b:=w.heap.size) rfl),zl⟩
 subst hR;rintro W ⟨qr,ae⟩;have Hr:=ah qr;clear qr;obtain⟨r0,ai,r1,aj⟩:=Hr.out.g2;replace Hb:=au Hb ae;clear ae;go_wp2_with fail;refine(PH 1 _ zd zd).mono ?_;rintro e w1 ⟨rfl,ae⟩;clear r0 ai r1 aj;replace Hr:=kB Hr ae;obtain⟨r0,ai,r1,aj⟩:=Hr.out.g2;replace Hb:=au Hb ae;clear ae;have xZ:=Hr.out.lt;obtain⟨W2,pz,ae,Hl⟩:=cN w1 28 [.bool (ar 1),.string (bs (nt 1))];clear r0 ai r1 aj;replace Hr:=kB Hr ae;obtain⟨r0,ai,r1,aj⟩:=Hr.out.g2;obtain⟨l0,l1⟩:=Hl.out.c2;replace Hb:=au Hb ae;clear ae;go_wp2_with fail;go_loop [5,15] (λt x=>t=.bool false/\x=.int .i64 0) (λ_ _=>0)
 case atStart=>exact⟨rfl,rfl⟩
 case round=>obtain⟨rfl,rfl⟩:=hrel;go_wp2;clear r0 ai r1 aj l0 l1;refine fF (bz W2 (w.heap.size) 0 [.bool (ar 1),.string (bs (nt 1))]) bF ?_;intro w9 hs;replace Hr:=bX Hr hs;replace Hl:=kS Hl hs zo;obtain⟨r0,ai,r1,aj⟩:=Hr.out.g2;obtain⟨l0,l1⟩:=Hl.out.c2;replace Hb:=bS Hb hs ZS;clear hs;refine bodyPost_ret (v:=cX 1) (by simp[results,Tryz.results88,go_sem,r0,r1]) rfl ⟨rfl,Hb.out⟩
theorem aet (a:Option Addr)(cap:Nat)(w:World)(ha:aR w a [])(hT:aF w):Calls Tryz.prog 45 #[.slice a 0 cap] w λe w'=>e=.returned (.tuple #[bC 1,.int .i64 0])/\Bw w w':=by
 obtain⟨O,hO⟩:∃O:Dyadic,(1:Dyadic)=O:=⟨_,rfl⟩;have hch:=λW=>λ(h:aR W a [])=>NT a 0 cap [] W rfl zo h;rw[show uh []=0 from rfl]at hch;have hsc:=λW=>λ(h:aR W a []) (hT:aF W)=>Yq a 0 cap 0 [] 1 0 W rfl zo zo (λr hr=>by cases hr) h (λr hr=>by cases hr) zo hT rfl;have hmk:=λW=>λ(hT:aF W)=>vN (ar 1) (nt (1:Int).natAbs) 0 O (by rw[<-hO];rfl) W zd zd hT;rw[hO];obtain⟨JA,iJ,tC,Ha,HT⟩:=fg hch hsc hmk ha hT;clear hch hsc hmk ha hT hO;have Hb:Hid (Bw w w):=Below.refl _ _;go_enter Tryz.func45,Tryz.ntmps45;go_wp2_with fail;obtain⟨R,hR⟩:∃R:World->Prop,(λW=>ak W (w.heap.size) 30 [.bool false,.string ⟨#[]⟩,.int .i64 0]/\Bw w W)=R:=⟨_,rfl⟩;first|refine bO R ?hR ?_|refine bK R ?hR ?_
 case hR=>subst hR;exact⟨(ak.newAt w _ _ (b:=w.heap.size) rfl),zl⟩
 subst hR;rintro W ⟨qr,ae⟩;have Hr:=ah qr;clear qr;obtain⟨r0,ai,r1,aj,r2,aC⟩:=Hr.out.g3;replace Hb:=au Hb ae;clear ae;have HA:Hid (aR W a []):=Ha.out.below Hb.out;have HU:Hid (aF W):=HT.out.below Hb.out;go_wp2_with fail;refine(JA.out _ HA.out).mono ?_;rintro e w1 ⟨rfl,ae⟩;clear r0 ai r1 aj r2 aC;replace Hr:=kB Hr ae;replace HA:=kL HA ae;replace HU:=kT HU ae;obtain⟨r0,ai,r1,aj,r2,aC⟩:=Hr.out.g3;replace Hb:=au Hb ae;clear ae;go_wp2_with fail;refine(iJ.out _ HA.out HU.out).mono ?_;rintro e w2 ⟨v,rfl,hO,ae⟩;clear r0 ai r1 aj r2 aC;replace Hr:=kB Hr ae;replace HA:=kL HA ae;replace HU:=kT HU ae;obtain⟨r0,ai,r1,aj,r2,aC⟩:=Hr.out.g3;replace Hb:=au Hb ae;clear ae;obtain⟨vals,_,ho,_⟩:=hO;obtain⟨a2,c2,rfl,_,_⟩:=di ho;clear ho;go_wp2_with fail;refine(acW a2 c2 _).mono ?_;rintro e w3 ⟨rfl,ae⟩;clear r0 ai r1 aj r2 aC;replace Hr:=kB Hr ae;replace HA:=kL HA ae;replace HU:=kT HU ae;obtain⟨r0,ai,r1,aj,r2,aC⟩:=Hr.out.g3;replace Hb:=au Hb ae;clear ae;go_wp2_with fail;refine(tC.out _ HU.out).mono ?_;rintro e w4 ⟨rfl,ae⟩;clear r0 ai r1 aj r2 aC;replace Hr:=kB Hr ae;replace HA:=kL HA ae;replace HU:=kT HU ae;obtain⟨r0,ai,r1,aj,r2,aC⟩:=Hr.out.g3;replace Hb:=au Hb ae;clear ae;go_wp2;clear r0 ai r1 aj r2 aC;refine fF (bz w4 (w.heap.size) 0 [.bool (ar (dN O)),.string (bs (nt (dN O).natAbs)),.int .i64 (dE O)]) bF ?_;intro w9 hs;replace Hr:=bX Hr hs;obtain⟨r0,ai,r1,aj,r2,aC⟩:=Hr.out.g3;replace Hb:=bS Hb hs ZS;clear hs;refine bodyPost_ret (v:=.tuple #[bC O,.int .i64 0]) (by simp[results,Tryz.results45,go_sem,r0,r1,r2]) rfl ⟨rfl,Hb.out⟩
theorem Su (R:List (List Dyadic)):((R.map λr=>r.map canon).map λr=>r.map az)=R:=by
 rw[List.map_map];have:((λr:List Raw=>r.map az)∘λr:List Dyadic=>r.map canon)=id:=by
  funext r
  show(r.map canon).map az=r
  rw[List.map_map];have:(az∘canon)=id:=funext bU;rw[this];simp
 rw[this];simp
theorem aig (a':Option Addr)(c' m r c:Nat)(R:List (List Dyadic))(B:Nat)(w:World)(hL:R.length=m+1)(hrow:∀x∈R,x.length=m+1)(hr:r<=m)(hc:c<=m)(hm:m<=4)(hsm:∀x∈R,∀d∈x,Sm B d)(bV:1<=B)(hB:B<=1000000)(ht:aR w a' ((iq R r c).map λx=>x.map canon))(hT:aF w):
 Calls Tryz.prog 45 #[.slice a' m c'] w λe w'=>e=.returned (.tuple #[bC (cu m (fZ (bG R) r c)),.int .i64 0])/\Bw w w':=by
 have hl:=Ea R r c m hL hr;by_cases h0:m=0
 . subst h0;have e:iq R r c=[]:=List.eq_nil_of_length_eq_zero hl;rw[e]at ht;exact aet a' c' w ht hT
 . refine Lq a' c' m ((iq R r c).map λx=>x.map canon) B (iq R r c) _ w zo hm (by rw[List.length_map,hl]) (λx hx=>?_) ht (λx hx y hy=>?_) bV hB hT (Su _) (Xl R r c m hL hrow hr hc hm)
   . obtain⟨z,hz,rfl⟩:=List.mem_map.1 hx;rw[List.length_map];exact NY R r c m hrow hc z hz
   . obtain⟨z,hz,rfl⟩:=List.mem_map.1 hx;obtain⟨d,hd,rfl⟩:=List.mem_map.1 hy;exact(Xm hsm r c z hz d hd).fit zo
theorem ade (s:Nat)(h:s<=8):bits BinOp.and IntKind.i64 (s:Int) 1=((s%2:Nat):Int):=by
 have hc:s=0\/s=1\/s=2\/s=3\/s=4\/s=5\/s=6\/s=7\/s=8:=by omega
 rcases hc with rfl|rfl|rfl|rfl|rfl|rfl|rfl|rfl|rfl<;>rfl
theorem acj (a:Option Addr)(cap m:Nat)(R:List (List Dyadic))(B:Nat)(w:World)(hm:m+1<=4)(hL:R.length=m+1)(hrow:∀x∈R,x.length=m+1)(hsm:∀x∈R,∀d∈x,Sm B d)(bV:1<=B)(hB:B<=1000000)(ha:aR w a (R.map λx=>x.map canon))(hT:aF w):
 Calls Tryz.prog 92 #[.slice a (m+1) cap] w λe w'=>∃v,e=.returned (.tuple #[v,.int .i64 0])/\fV w' w.heap.size (m+1) (qu (m+1) (bG R)) (m+1) v/\Bw w w':=by
 obtain⟨i0,hi,hz0,hz1,hz2⟩:=info_parts Tryz.apl;obtain⟨j0,hj,hy0,hy1,hy2⟩:=info_parts Tryz.apq;have gv:=λW (hW:Bw w W)=>NT a (m+1) cap (R.map λx=>x.map canon) W (by rw[List.length_map,hL]) zo (ha.below hW);have hm0:uh (R.map λx=>x.map canon)=0:=by
  unfold uh;rw[if_neg];rintro(h|h)
  . rw[List.length_map]at h;omega
  . rw[List.any_eq_true]at h;obtain⟨r,hr,h⟩:=h;obtain⟨z,hz,rfl⟩:=List.mem_map.1 hr;have:=hrow z hz;simp at h;omega
 rw[hm0]at gv;have hwo:=λr c (hr:r<=m) (hc:c<=m) W (hW:Bw w W)=>alV a cap m r c R W hL hrow hr hc zo (ha.below hW);have jz:=λr c (hr:r<=m) (hc:c<=m) W (hW:Bw w W) a' c' (ht:aR W a' ((iq R r c).map λx=>x.map canon))=>aig a' c' m r c R B W hL hrow hr hc zo hsm bV hB ht (hT.below hW);have hds:∀r c,r<=m->c<=m->Sm (4*B+6) (cu m (fZ (bG R) r c)):=by
  intro r c hr hc;refine zu zo (λi j hi hj=>?_);have hk:(if i<r then i else i+1)<R.length:=by split<;>omega
  have hl:=hrow _ (List.getElem_mem hk);have hk2:(if j<c then j else j+1)<R[if i<r then i else i+1].length:=by rw[hl];split<;>omega
  have e:fZ (bG R) r c i j=R[if i<r then i else i+1][if j<c then j else j+1]:=by
   show(R.getD (if i<r then i else i+1) []).getD (if j<c then j else j+1) 0=_
   rw[List.getD_eq_getElem?_getD (l:=R),List.getElem?_eq_getElem hk,Option.getD_some,List.getD_eq_getElem?_getD,List.getElem?_eq_getElem hk2];rfl
  rw[e];exact hsm _ (List.getElem_mem hk) _ (List.getElem_mem hk2)
 obtain⟨f,hf⟩:=aB (bG R);rw[hf]at jz hds⊢;have LH:=λi (h:i<m+1)=>Sa (m+1) f i h;obtain⟨A,hA⟩:=aB (qu (m+1) f);rw[hA]at LH⊢;obtain⟨Hi,cG,cH,cE,Hj,gV,iL,iM,oU,Hwo,wK,Hds⟩:=fR hi hz0 hz1 hz2 hj hy0 hy1 hy2 gv hwo jz hds;obtain⟨HT,Zh⟩:=aL hT LH;clear hi hz0 hz1 hz2 hj hy0 hy1 hy2 gv hwo jz hds hT LH hA hf hm0 ha hsm hrow hL;have Hb:Hid (Bw w w):=Below.refl _ _;go_enter Tryz.func92,Tryz.ntmps92;go_wp2_with fail;refine(oU.out _ Hb.out).mono ?_;rintro e w1 ⟨rfl,ae⟩;replace Hb:=au Hb ae;clear ae;go_wp2_with fail;go_loopw[5,18] (λs5 x wr=>∃(k:Nat) (v:Value),k<=m+1/\x=.int .i64 (k:Int)/\v=s5/\fV wr w.heap.size (m+1) A k v/\Bw w wr) (λ_ x _=>m+1-(intOf x).toNat);case atStart=>exact⟨0,_,Nat.zero_le _,rfl,rfl,fV.nil _ _ _ _,Hb.out⟩
 case round=>
  clear Hb;obtain⟨k,v,hk,rfl,rfl,pv,pb⟩:=hrel;obtain⟨cK,aO⟩:=aL pv pb;clear pv pb;by_cases hlt:k<m+1
  . obtain⟨Z,hZ⟩:=aB ((List.range (m+1)).map λb=>kH (m+1) f k b);have uy:Hid (A.getD k []=Z):=by show _=_;rw[Zh.out k hlt,hZ]
    have mh:Hid (Z.length=m+1):=by show _=_;rw[<-hZ];simp
    have ZT:Hid (∀j (h:j<m+1),Z.take (j+1)=Z.take j++[kH (m+1) f k j]):=by intro j h;rw[List.take_succ_eq_append_getElem (by rw[mh.out];exact h)];congr 2;simp[<-hZ]
    clear hZ;obtain⟨wq,hwc⟩:∃wq,wq=wr:=⟨_,rfl⟩;subst hwc;have gB:=aO.out.size;have pE:decide ((k:Int)<(m:Int)+1)=true:=by simp;omega
    go_wp2_with fail;clear pE;go_loopw[7,23] (λs7 x wr=>∃(j:Nat) (v2:Value),j<=m+1/\x=.int .i64 (j:Int)/\v2=s7/\wr.ownsRow wq.heap.size 30 3 v2 j (dC (Z.take j))/\Bw wq wr) (λ_ x _=>m+1-(intOf x).toNat);case atStart=>exact⟨0,_,Nat.zero_le _,rfl,rfl,World.ownsRow_nil _ _ _ _,Below.refl _ _⟩
    case round=>
     obtain⟨j,v2,hj,rfl,rfl,ho,hb2⟩:=hrel;obtain⟨Ho,bP⟩:=aL ho hb2;have Px:=hb2.size;clear ho hb2;by_cases bj:j<m+1
     . obtain⟨X,hX⟩:=aB (cu m (fZ f j k));obtain⟨Y,hY⟩:=aB (kH (m+1) f k j);have Um:Y=if(k+j)%2=1 then-X else X:=by rw[<-hY,<-hX];rfl
       have fD:=Hds.out j k zo zo;rw[hX]at fD;have hst:dC (Z.take (j+1))=dC (Z.take j)++[.bool (ar (dN Y)),.string (bs (nt (dN Y).natAbs)),.int .i64 (dE Y)]:=by rw[ZT.out j bj,hY,qA];rfl
       have dG:=aJ aO.out bP.out;have hd:=λW hW a' c' ht=>wK.out j k zo zo W hW a' c' ht;rw[hX]at hd;obtain⟨Hd,cd,Jq⟩:=cL hd hst Um;have Qv:Hid (Ok (canon X)):=fD.ok zo;have fT:=ah dG;clear hd hst Um hX hY fD dG;have Hb:Hid (Bw wr wr):=Below.refl _ _;go_wp2_with fail;refine(Hwo.out j k zo zo _ fT.out).mono ?_;rintro e w3 ⟨a3,c3,rfl,hc3,rp,ae⟩;replace Hb:=au Hb ae;clear ae;have Fj:=ah rp;clear rp;go_wp2_with fail;refine(Hd.out _ (aJ fT.out Hb.out) a3 c3 Fj.out).mono ?_;rintro e w4 ⟨rfl,ae⟩;replace Hb:=au Hb ae;clear ae Fj;have YE:=Hb.out.size;obtain⟨W5,Da,ae,Hx⟩:=cN w4 30 [.bool (ar (dN X)),.string (bs (nt (dN X).natAbs)),.int .i64 (dE X)];obtain⟨x0,aW,x1,aX,x2,bi⟩:=Hx.out.g3;replace Hb:=au Hb ae;clear ae;have zL:=ade (k+j) zo;rw[Int.natCast_add]at zL;go_upto_if 38 with fail
       go_cut[7] (λs7 wx=>s7=v2/\ak wx w4.heap.size 30 [.bool (ar (dN Y)),.string (bs (nt (dN Y).natAbs)),.int .i64 (dE Y)]/\Bw wr wx);case first=>
        by_cases hp:(k+j)%2=1
        . have h9:(bits BinOp.and IntKind.i64 ((k:Int)+(j:Int)) 1==1)=true:=by rw[zL,hp];rfl
          have hY: -az (canon X)=Y:=by rw[bU,Jq.out,if_pos hp]
          have HY:=ah hY;clear hY zL;go_wp2_with fail;refine(Lm _ _ _ Y HY.out _ Qv.out (HT.out.below (aJ fT.out Hb.out))).mono ?_;rintro e w6 ⟨rfl,ae⟩;clear x0 aW x1 aX x2 bi;replace Hx:=kB Hx ae;obtain⟨x0,aW,x1,aX,x2,bi⟩:=Hx.out.g3;replace Hb:=au Hb ae;clear ae;go_wp2_with fail;go_meet;exact⟨rfl,((Hx.out.set 0 _).set 1 _).set 2 _,((Hb.out.setCell zp _).setCell zp _).setCell zp _⟩
        . have h9:(bits BinOp.and IntKind.i64 ((k:Int)+(j:Int)) 1==1)=false:=by rw[zL,show(k+j)%2=0 by omega];rfl
          have hY:Y=X:=by rw[Jq.out,if_neg hp]
          subst hY;clear zL;go_wp2_with fail;go_meet;exact⟨rfl,Hx.out,Hb.out⟩
       case rest=>
        obtain⟨rfl,hx,hb⟩:=hcut;clear zL;have Hx:Hid (ak wc w4.heap.size 30 [.bool (ar (dN Y)),.string (bs (nt (dN Y).natAbs)),.int .i64 (dE Y)]):=hx;have Bp:=ah (aJ bP.out hb);have hov:=ownsRow_below Ho.out hb;have cM:=ah hov;have szc:=hb.size;clear hx hb hov Ho Hb Hd Jq Qv fT bP;have Hb:Hid (Bw wc wc):=Below.refl _ _;obtain⟨x0,x1,x2⟩:=Hx.out.c3;have P0:=x0;have P1:=x1;have P2:=x2;have aoG:=Hx.out.lt;obtain⟨W6,ot,ae,Hc⟩:=cN wc 30 [.bool (ar (dN Y)),.string (bs (nt (dN Y).natAbs)),.int .i64 (dE Y)];clear x0 x1 x2;replace Hx:=kB Hx ae;obtain⟨x0,x1,x2⟩:=Hx.out.c3;obtain⟨c0,c1,c2⟩:=Hc.out.c3;replace Hb:=au Hb ae;clear ae;have cm:=ownsRow_below cM.out Hb.out;have ia:=Hb.out.size;go_wp2_with (at_builtin;refine wpList_append_own_at _ rfl _ _ 45 rfl wq.heap.size 30 i0 _ 3 32 Tryz.underlying45 Hi.out cG.out cH.out cE.out rfl zd _ j (dC (Z.take j)) rfl cm ⟨wc.heap.size,0,none⟩ 1 1 [.bool (ar (dN Y)),.string (bs (nt (dN Y).natAbs)),.int .i64 (dE Y)] rfl rfl (fM Hc.out) zy zx zo zo ?_;intro v' w7 dt eD _ fy;obtain⟨g',lF,rfl⟩:=ownsRow_succ dt);go_roundw;case rel=>exact⟨j+1,_,by omega,by go_num,rfl,by rw[cd.out];exact dt,(aJ Bp.out Hb.out).grown eD zo (λj e=>cJ cm j e)⟩
        case measure=>simp[intOf];omega
     . obtain rfl:j=m+1:=by omega
       have fW:Z.take (m+1)=Z:=List.take_of_length_le (by rw[mh.out];exact Nat.le_refl _);rw[fW]at Ho;have gw:=Ho.out.lt;obtain⟨a2,cap2,rfl,_,_⟩:=di Ho.out;obtain⟨vals,hvl,nz,Nt,DL⟩:=cK.out;have hov:=ownsRow_below nz bP.out;have iD:=λi h=>ownsRow_below (Nt i h) bP.out;have mH:∀g,(Value.slice a2 (m+1) cap2).ownBlock=some g->∀i (h:i<vals.length),vals[i].ownBlock≠some g:=λg e i h e2=>by have h1:=(gw g e).1;have h2:=((Nt i h).lt g e2).2;omega
       have hx:=pU Ho.out gB;obtain⟨iK,nX,cM,KE,BH,Hxx⟩:=gN hvl iD hov DL mH hx;clear hvl iD hov nz Nt DL mH hx gw fW;have Hb:Hid (Bw wr wr):=Below.refl _ _;obtain⟨W6,ot,ae,Hd⟩:=cN wr 45 [.slice a2 (m+1) cap2];have d0:=Hd.out.c1;replace Hb:=au Hb ae;clear ae;have cm:=ownsRow_below cM.out Hb.out;have ia:=Hb.out.size;go_wp2_with (at_builtin;refine wpList_append_own_at _ rfl _ _ 78 rfl w.heap.size 45 j0 _ 1 24 Tryz.underlying78 Hj.out gV.out iL.out iM.out rfl zd v k vals rfl cm ⟨wr.heap.size,0,none⟩ 1 1 [.slice a2 (m+1) cap2] rfl rfl (fM Hd.out) zy zx zo zo ?_;intro v' w7 dt eD _ fy;obtain⟨g',lF,rfl⟩:=ownsRow_succ dt);go_roundw;case rel=>refine⟨k+1,_,by omega,by go_num,rfl,fV.push iK.out cm (λi h=>ownsRow_below (nX.out i h) Hb.out) KE.out (by rw[uy.out];exact ownsRow_below Hxx.out Hb.out) BH.out dt eD,?_⟩;exact(aJ (aJ aO.out bP.out) Hb.out).grown eD zo (λj e=>cJ cm j e)
       case measure=>simp[intOf];omega
  . obtain rfl:k=m+1:=by omega
    go_wp2;exact bodyPost_ret (v:=.tuple #[v,.int .i64 0]) (by simp[results,Tryz.results92,go_sem]) rfl ⟨v,rfl,cK.out,aO.out⟩
end Go.Proofs.YtdaadlblknpipaaGreatDoor
namespace Go.Proofs.YtdaadlblknpipaaGreatDoor
def pg (n:Nat)(p:Nat->Nat->Dyadic):List (List Dyadic):=(List.range n).map λa=>(List.range n).map λb=>jX n p a b
theorem FC (n:Nat)(p:Nat->Nat->Dyadic):(pg n p).length=n:=by simp[pg]
theorem FD (n:Nat)(p:Nat->Nat->Dyadic):∀r∈pg n p,r.length=n:=by intro r hr;unfold pg at hr;obtain⟨x,_,rfl⟩:=List.mem_map.1 hr;simp
theorem KS (n:Nat)(p:Nat->Nat->Dyadic)(a b:Nat)(ha:a<n)(hb:b<n):bG (pg n p) a b=jX n p a b:=by unfold bG pg;simp[List.getD_eq_getElem?_getD,ha,hb]
theorem alc {n:Nat}{R S:List (List Dyadic)}(h1:R.length=n)(h2:∀r∈R,r.length=n)(h3:S.length=n)(h4:∀r∈S,r.length=n)(h:∀a b,a<n->b<n->bG R a b=bG S a b):R=S:=by apply List.ext_getElem zo;intro i hi hj;have l1:=h2 _ (List.getElem_mem hi);have l2:=h4 _ (List.getElem_mem hj);apply List.ext_getElem zo;intro j k1 k2;have:=h i j zo zo;unfold bG at this;simpa[List.getD_eq_getElem?_getD,hi,hj,k1,k2]using this
theorem acf (n:Nat)(cF:n<=4){e f:Nat->Nat->Dyadic}(h:∀i j,i<n->j<n->e i j=f i j)(a b:Nat)(ha:a<n)(hb:b<n):kH n e a b=kH n f a b:=by
 have:cu (n-1) (fZ e b a)=cu (n-1) (fZ f b a):=Cy (n-1) zo (λi j hi hj=>by
  unfold fZ
  exact h _ _ (by split<;>omega) (by split<;>omega))
 unfold kH;rw[this]
theorem aeT {n:Nat}{R:List (List Dyadic)}(h1:R.length=n)(h2:∀r∈R,r.length=n)(i j:Nat)(hi:i<n)(hj:j<n)(y:Dyadic)(a b:Nat)(ha:a<n)(hb:b<n):bG (R.set i ((R.getD i []).set j y)) a b=if a=i/\b=j then y else bG R a b:=by
 unfold bG;by_cases e:a=i
 . subst e;rw[List.getD_eq_getElem?_getD (l:=R.set _ _),List.getElem?_set_self zo,Option.getD_some];have hl:(R.getD a []).length=n:=by
    have e:R.getD a []=R[a]'zo:=by rw[List.getD_eq_getElem?_getD,List.getElem?_eq_getElem zo];rfl
    rw[e];exact h2 _ (List.getElem_mem _)
   by_cases e2:b=j
   . subst e2;rw[if_pos ⟨rfl,rfl⟩,List.getD_eq_getElem?_getD,List.getElem?_set_self zo];rfl
   . rw[if_neg (λh=>e2 h.2),List.getD_eq_getElem?_getD,List.getElem?_set_ne (λh=>e2 h.symm),<-List.getD_eq_getElem?_getD]
 . rw[if_neg (λh=>e h.1),List.getD_eq_getElem?_getD (l:=R.set _ _),List.getElem?_set_ne (λh=>e h.symm),<-List.getD_eq_getElem?_getD]
theorem akG {n:Nat}{R:List (List Dyadic)}(h1:R.length=n)(h2:∀r∈R,r.length=n)(i j:Nat)(hi:i<n)(y:Dyadic):(R.set i ((R.getD i []).set j y)).length=n/\∀r∈R.set i ((R.getD i []).set j y),r.length=n:=by
 refine⟨by rw[List.length_set];exact h1,λr hr=>?_⟩;rcases List.mem_or_eq_of_mem_set hr with h|h
 . exact h2 r h
 . rw[h,List.length_set];have e:R.getD i []=R[i]'zo:=by rw[List.getD_eq_getElem?_getD,List.getElem?_eq_getElem zo];rfl
   rw[e];exact h2 _ (List.getElem_mem _)
theorem akI (X:Dyadic):(if cw X<0 then-X else X)=mP X*X:=by
 rw[akH];by_cases h:X<0
 . rw[if_pos h,if_pos ((Lt X).2 h)]
 . rw[if_neg h,if_neg (λh2=>h ((Lt X).1 h2))]
def jE (k j a b:Nat):Prop:=a<k\/a=k/\b<j
instance (k j a b:Nat):Decidable (jE k j a b):=inferInstanceAs (Decidable (_\/_))
end Go.Proofs.YtdaadlblknpipaaGreatDoor
namespace Go.Proofs.YtdaadlblknpipaaGreatDoor
open Go.RowKit
attribute [local go_sem ↓] Go.wp_at_zero Go.wp_at_succ
def RQ (w:World)(n:Nat)(p:Nat->Nat->Dyadic)(e:Ending)(w':World):Prop:=
 ∃a' c',e=.returned (.tuple #[bC (mP (fp n p) *fp n p),.slice a' n c',.int .i64 0])/\n<=c'/\aR w' a' ((pg n p).map λr=>r.map canon)/\Bw w w'
theorem fV.blk {w:World}{base n L go cap:Nat}{R:List (List Dyadic)}(h:fV w base n R L (.slice (some ⟨go,0,none⟩) L cap))(i:Nat)(hi:i<L)(hn:0<n):base<=go/\∃g c,w.cell? ⟨go,i,none⟩=some (.slice (some ⟨g,0,none⟩) n c)/\base<=g/\g<w.heap.size/\g≠go:=by
 obtain⟨vals,hl,ho,hv,hd⟩:=h;have hi2:i<vals.length:=by omega
 have hrow:=hv i hi2;obtain⟨g,c,e1,hg1,hg2,_⟩:=vV hrow hn;have fy:=yl ho;have hc:=kX ho i zo;rw[e1]at hc;refine⟨fy.1,g,c,hc,hg1,hg2,?_⟩;rintro rfl;rw[e1]at hrow;rcases hrow.2 with⟨h1,_⟩ |⟨g',c',cur,h1,_,h2,_⟩
 . simp at h1
 . simp only[Value.slice.injEq,Option.some.injEq,Addr.mk.injEq,and_true,true_and]at h1;obtain⟨rfl,rfl⟩:=h1;rcases ho.2 with⟨h3,_⟩ |⟨g2,c2,amI,h3,_,h4,_⟩
   . simp at h3
   . simp only[Value.slice.injEq,Option.some.injEq,Addr.mk.injEq,and_true,true_and]at h3;obtain⟨rfl,rfl⟩:=h3;rw[h2]at h4;simp at h4
theorem fV.apv {w:World}{base n k:Nat}{R:List (List Dyadic)}{v:Value}(h:fV w base n R k v){p:Addr}(hp:p.block<base)(x:Value):fV (w.setCell p x) base n R k v:=by
 obtain⟨vals,hl,ho,hi,hd⟩:=h;have hne:∀{u:Value} {e:TypeId} {sz m:Nat} {xs:List Value},w.ownsRow base e sz u m xs->u.ownBlock≠some p.block:=λh e=>by have:=(h.lt _ e).1;omega
 exact⟨vals,hl,ownsRow_setCell_other ho (hne ho) _,λi h=>ownsRow_setCell_other (hi i h) (hne (hi i h)) _,hd⟩
theorem WG (a:Option Addr)(cap m:Nat)(rows:List (List Raw))(B:Nat)(w:World)(hm:m+1<=4)(hr:Rw (m+1) B rows)(hcap:m+1+1<=cap)(ha:aR w a rows)(hB:B<=200000)(hT:aF w)(h0:jM rows=0):
 Calls Tryz.prog 55 #[.slice a (m+1+1) cap] w (RQ w (m+1) (dR rows)):=by
 obtain⟨n,hn⟩:=aB (m+1);have hL:=hr.1;have hrow:=hr.2.1;have hfit:=hr.2.2;obtain⟨b,o,rfl⟩:∃b o,a=some ⟨b,o,none⟩:=by
  obtain⟨vals,hvl,hat,_⟩:=ha;rcases hat with h|⟨b,o,h,_⟩
  . rw[h]at hvl;simp at hvl;omega
  . exact⟨b,o,h⟩
 have gv:=λW (hW:Bw w W)=>Ew (some ⟨b,o,none⟩) (m+1+1) cap rows B W hL zo hcap (ha.below hW) hfit zo (hT.below hW);rw[h0]at gv;obtain⟨S,hS⟩:=aB ((rows.drop 1).map λp=>iz (rows.getD 0 []) p);have gu:S.length=m+1:=by rw[<-hS];simp[hL]
 have h00:0<rows.length:=by omega
 have e0:rows.getD 0 []=rows[0]:=by simp[h00]
 have om:∀r∈S,r.length=m+1:=by intro r hr;rw[<-hS]at hr;obtain⟨p,hp,rfl⟩:=List.mem_map.1 hr;rw[zw (by rw[e0,hrow _ (List.mem_of_mem_drop hp),hrow _ (List.getElem_mem h00)]),hrow _ (List.mem_of_mem_drop hp)]
 have jZ:∀r∈S,∀d∈r,Sm (B+1) d:=by intro r hr d hd;rw[<-hS]at hr;obtain⟨p,hp,rfl⟩:=List.mem_map.1 hr;unfold iz at hd;obtain⟨i,hi,rfl⟩:=List.mem_iff_getElem.1 hd;rw[List.getElem_zipWith];refine Sm.sub (hfit p (List.mem_of_mem_drop hp) _ (List.getElem_mem _)).2 (hfit (rows.getD 0 []) ?_ _ (List.getElem_mem _)).2;rw[e0];exact List.getElem_mem h00
 obtain⟨P,hP⟩:=aB (dR rows);have Dh:∀i j,i<m+1->j<m+1->bG S i j=zz P i j:=λi j hi hj=>by rw[<-hS,<-hP];exact Pm (m+1) rows hL hrow i j hi hj
 obtain⟨X,hX⟩:=aB (fp (m+1) P);have hent:cu (m+1) (bG S)=X:=by rw[<-hX,CB];exact Cy (m+1) hm Dh
 have hro:=λW (hW:Bw w W)=>Yj b o cap (m+1) (m+1) rows B W hL zo hcap zo zo zo hrow (ha.below hW) hfit zo (hT.below hW);rw[hS]at hro
 have jz:=λW (hW:Bw w W) a' c' (h:aR W a' (S.map λr=>r.map canon))=>Lq a' c' (m+1) (S.map λr=>r.map canon) (B+1) S X W zo hm (by simpa using gu) (by
  intro r hr;obtain⟨x,hx,rfl⟩:=List.mem_map.1 hr
  simpa using om x hx) h (by
  intro r hr c hc;obtain⟨x,hx,rfl⟩:=List.mem_map.1 hr;obtain⟨y,hy,rfl⟩:=List.mem_map.1 hc
  exact(jZ x hx y hy).fit zo) zo zo (hT.below hW) (Su S) hent
 have ov:=λW (hW:Bw w W) a' c' (h:aR W a' (S.map λr=>r.map canon))=>(acj a' c' m S (B+1) W hm gu om jZ zo zo h (hT.below hW)).mono (λe w' h=>(match h with|⟨v,h1,h2,h3⟩=>⟨v,h1,h2,h3,h3⟩:∃v,e=.returned (.tuple #[v,.int .i64 0])/\fV w' W.heap.size (m+1) (qu (m+1) (bG S)) (m+1) v/\Bw W w'/\Bw W w'));have fD:Sm (4*B+11) X:=by rw[<-hent];refine(zu (B:=B+1) hm (λi j hi hj=>?_)).mono zo;rw[Dh i j hi hj,<-hP];exact CC (n:=m+1) (B:=B) (λa b ha hb=>by rw[sN rows a b zo (by rw[hrow _ (List.getElem_mem _)];exact hb)];exact(hfit _ (List.getElem_mem _) _ (List.getElem_mem _)).2) i j hi hj
 have il:=λW=>nZ (ar (dN X)) (nt (dN X).natAbs) (dE X) (cw X) (by show cw (az (canon X))=_;rw[bU]) W (fD.ok zo);have zR: -1<=cw X/\cw X<=1:=by unfold cw eu;split<;>(try split)<;>omega
 obtain⟨G,hG⟩:=aB (mP X);have hof:=λW (hW:Bw w W)=>FQ (cw X) G (by rw[<-hG];rfl) W zo (hT.below hW)
 have hab:=λW (hW:Bw w W)=>aed (ar (dN X)) (nt (dN X).natAbs) (dE X) (G*X) (by
  have e:az (ar (dN X),nt (dN X).natAbs,dE X)=X:=bU X
  rw[e,akI,hG]) W (fD.ok zo) (hT.below hW)
 have TL:Fit (4*B+11) (canon G):=(by rw[<-hG];exact(Pg X).mono zo:Sm (4*B+11) G).fit zo;have qH:∀i j,i<m+1->j<m+1->Fit (4*B+11) (canon (kH (m+1) (bG S) i j)):=λi j hi hj=>by refine((RZ (B:=B+1) zo hm (λa b ha hb=>?_) i j).mono zo).fit zo;rw[Dh a b ha hb,<-hP];exact CC (n:=m+1) (B:=B) (λa b ha hb=>by rw[sN rows a b zo (by rw[hrow _ (List.getElem_mem _)];exact hb)];exact(hfit _ (List.getElem_mem _) _ (List.getElem_mem _)).2) a b ha hb
 have hfin:∀R:List (List Dyadic),R.length=m+1->(∀r∈R,r.length=m+1)->(∀a b,a<m+1->b<m+1->bG R a b=kH (m+1) (bG S) a b*G)->R=pg (m+1) P:=λR h1 h2 h3=>alc h1 h2 (FC _ _) (FD _ _) (λa b ha hb=>by
  rw[h3 a b ha hb,KS _ _ _ _ ha hb];unfold jX
  rw[hX,hG,acf (m+1) hm Dh a b ha hb])
 have CI:=λi j hi hj=>acg (m+1) (bG S) i j hi hj;have Gf:=ach (m+1) (bG S);have Gg:=aci (m+1) (bG S);obtain⟨F,hF⟩:∃F:Nat->Nat->Dyadic,(λi j=>kH (m+1) (bG S) i j)=F:=⟨_,rfl⟩;have TI:∀i j,kH (m+1) (bG S) i j=F i j:=λi j=>by rw[<-hF]
 simp only[TI]at qH hfin CI;obtain⟨A,hA⟩:=aB (qu (m+1) (bG S));rw[hA]at ov CI Gf Gg;rw[hP];unfold RQ;rw[hX,hG];rw[hn]at gv hro jz ov qH hfin CI Gf Gg⊢;have cF:n<=4:=by omega
 have dL:1<=n:=by omega
 have VV:=λW=>(il W).mono (λe w' h=>(⟨h.1,h.2,h.2⟩:e=.returned (.int .i64 (cw X))/\Bw W w'/\Bw W w'));have VE:=λW hW=>(hof W hW).mono (λe w' h=>(⟨h.1,h.2,h.2⟩:e=.returned (bC G)/\Bw W w'/\Bw W w'));have dm:=λW hW=>(hab W hW).mono (λe w' h=>(⟨h.1,h.2,h.2⟩:e=.returned (bC (G*X))/\Bw W w'/\Bw W w'));obtain⟨oU,Rq,wK,Bj,jU,rF,jB,Zt,Zm,tq,Zi,Zk⟩:=fR gv hro jz ov VV VE dm TL qH hfin CI Gf;obtain⟨Zl,HT⟩:=aL Gg hT;clear gv hro jz ov VV VE il hof hab dm TL qH hfin CI Gf Gg hT TI hF hA fD hent Dh jZ om gu hS e0 h00 hP hX hG zR ha hr hL hrow hfit h0 hn;have Hb:Hid (Bw w w):=Below.refl _ _;go_enter Tryz.func55,Tryz.ntmps55;go_wp2_with fail;obtain⟨R,hR⟩:∃R:World->Prop,(λW=>ak W (w.heap.size) 30 [.bool false,.string ⟨#[]⟩,.int .i64 0]/\Bw w W)=R:=⟨_,rfl⟩;first|refine bO R ?hR ?_|refine bK R ?hR ?_
 case hR=>subst hR;exact⟨(ak.newAt w _ _ (b:=w.heap.size) rfl),zl⟩
 subst hR;rintro W ⟨qr,ae⟩;have Hr:=ah qr;clear qr;obtain⟨r0,ai,r1,aj,r2,aC⟩:=Hr.out.g3;replace Hb:=au Hb ae;clear ae;go_wp2_with fail;refine(oU.out _ Hb.out).mono ?_;rintro e w1 ⟨rfl,ae⟩;clear r0 ai r1 aj r2 aC;replace Hr:=kB Hr ae;obtain⟨r0,ai,r1,aj,r2,aC⟩:=Hr.out.g3;replace Hb:=au Hb ae;clear ae;go_wp2_with fail;refine(Rq.out _ Hb.out).mono ?_;rintro e w2 ⟨a2,c2,rfl,hc2,ht2,ae⟩;clear r0 ai r1 aj r2 aC;replace Hr:=kB Hr ae;obtain⟨r0,ai,r1,aj,r2,aC⟩:=Hr.out.g3;replace Hb:=au Hb ae;clear ae;have Fi:=ah ht2;clear ht2;go_wp2_with fail;refine(wK.out _ Hb.out a2 c2 Fi.out).mono ?_;rintro e w3 ⟨rfl,ae⟩;clear r0 ai r1 aj r2 aC;replace Hr:=kB Hr ae;obtain⟨r0,ai,r1,aj,r2,aC⟩:=Hr.out.g3;replace Hb:=au Hb ae;clear ae Fi;have ahZ:=Hr.out.lt;obtain⟨W4,mF,ae,Hd⟩:=cN w3 30 [.bool (ar (dN X)),.string (bs (nt (dN X).natAbs)),.int .i64 (dE X)];clear r0 ai r1 aj r2 aC;replace Hr:=kB Hr ae;obtain⟨r0,ai,r1,aj,r2,aC⟩:=Hr.out.g3;obtain⟨d0,d1,d2⟩:=Hd.out.c3;replace Hb:=au Hb ae;clear ae;go_wp2_with fail;refine(Rq.out _ Hb.out).mono ?_;rintro e w5 ⟨a3,c3,rfl,hc3,rp,ae⟩;clear r0 ai r1 aj r2 aC d0 d1 d2;replace Hr:=kB Hr ae;replace Hd:=kB Hd ae;obtain⟨r0,ai,r1,aj,r2,aC⟩:=Hr.out.g3;obtain⟨d0,d1,d2⟩:=Hd.out.c3;replace Hb:=au Hb ae;clear ae;have Fj:=ah rp;clear rp;have kD:=Hr;have JG:=Hd;have dM:=Hb;go_wp2_with fail;refine(Bj.out _ Hb.out a3 c3 Fj.out).mono ?_;rintro e w6 ⟨v,rfl,hO,Ut,ae⟩;clear r0 ai r1 aj r2 aC d0 d1 d2;replace Hr:=kB Hr ae;replace Hd:=kB Hd ae;obtain⟨r0,ai,r1,aj,r2,aC⟩:=Hr.out.g3;obtain⟨d0,d1,d2⟩:=Hd.out.c3;replace Hb:=au Hb ae;clear ae;obtain⟨go,cv,rfl,hgo⟩:∃go cv,v=.slice (some ⟨go,0,none⟩) n cv/\w5.heap.size<=go:=by obtain⟨vals,hl,ho,_,_⟩:=hO;obtain⟨g,c,e1,h1,_,_⟩:=vV ho zo;exact⟨g,c,e1,h1⟩
 have hcv:n<=cv:=by obtain⟨vals,hl,ho,_,_⟩:=hO;exact(sJ ho).1
 obtain⟨gI,UT⟩:∃gI:Nat->Nat×Nat,∀i,i<n->w6.cell? ⟨go,i,none⟩=some (.slice (some ⟨(gI i).1,0,none⟩) n (gI i).2)/\w5.heap.size<=(gI i).1/\(gI i).1<w6.heap.size/\(gI i).1≠go:=by have H:=λi (h:i<n)=>(hO.blk i h dL).2;refine⟨λi=>if h:i<n then(Classical.choose (H i h),Classical.choose (Classical.choose_spec (H i h)))else(0,0),λi h=>?_⟩;simp only[h,dif_pos];exact Classical.choose_spec (Classical.choose_spec (H i h))
 obtain⟨HO,QP⟩:=aL hO UT;clear hO UT;have yE:Hid (Bw w5 w6):=Ut;have Zg:Hid (Bw w6 w6):=Below.refl _ _;clear Ut;have Ps:=yE.out.size;go_wp2_with fail;refine(jU.out _).mono ?_;rintro e w7 ⟨rfl,Uw,ae⟩;clear r0 ai r1 aj r2 aC d0 d1 d2;replace Hr:=kB Hr ae;replace Hd:=kB Hd ae;obtain⟨r0,ai,r1,aj,r2,aC⟩:=Hr.out.g3;obtain⟨d0,d1,d2⟩:=Hd.out.c3;replace Hb:=au Hb ae;clear ae;go_wp2_with fail;refine(rF.out _ Hb.out).mono ?_;rintro e w8 ⟨rfl,Ux,ae⟩;clear r0 ai r1 aj r2 aC d0 d1 d2;replace Hr:=kB Hr ae;replace Hd:=kB Hd ae;obtain⟨r0,ai,r1,aj,r2,aC⟩:=Hr.out.g3;obtain⟨d0,d1,d2⟩:=Hd.out.c3;replace Hb:=au Hb ae;clear ae;have Ms:=aJ Uw Ux;clear Uw Ux;have PZ:=ah Ms;have IU:=Ms.size;clear Ms;have aop:=Hr.out.lt;have an0:=Hd.out.lt;obtain⟨W9,Uj,ae,Hs⟩:=cN w8 30 [.bool (ar (dN G)),.string (bs (nt (dN G).natAbs)),.int .i64 (dE G)];clear r0 ai r1 aj r2 aC;replace Hr:=kB Hr ae;clear d0 d1 d2;replace Hd:=kB Hd ae;obtain⟨r0,ai,r1,aj,r2,aC⟩:=Hr.out.g3;obtain⟨d0,d1,d2⟩:=Hd.out.c3;obtain⟨s0,s1,s2⟩:=Hs.out.c3;replace Hb:=au Hb ae;clear ae;have EH:Hid (Bw w6 W9):=by rw[<-Uj];exact(PZ.out).alloc zo _
 have TT:=HO.out.below EH.out;have Gt:∀i,i<n->W9.cell? ⟨go,i,none⟩=some (.slice (some ⟨(gI i).1,0,none⟩) n (gI i).2):=λi h=>cell_later EH.out (QP.out i h).1;have Uu:=aJ yE.out EH.out;obtain⟨Qp,QA,PY⟩:=cL TT Gt Uu;have Rv:=Hs;clear TT Gt Uu HO PZ Zg EH;go_wp2_with fail;go_loopw[37] (λx wr=>∃(k:Nat) (R:List (List Dyadic)),k<=n/\x=.int .i64 (k:Int)/\R.length=n/\(∀r∈R,r.length=n)/\(∀a b,a<n->b<n->bG R a b=if jE k 0 a b then F a b*G else F a b)/\fV wr w5.heap.size n R n (.slice (some ⟨go,0,none⟩) n cv)/\(∀i,i<n->wr.cell? ⟨go,i,none⟩=some (.slice (some ⟨(gI i).1,0,none⟩) n (gI i).2))/\ak wr w8.heap.size 30 [.bool (ar (dN G)),.string (bs (nt (dN G).natAbs)),.int .i64 (dE G)]/\Bw w5 wr) (λx _=>n-(intOf x).toNat);case atStart=>exact⟨0,A,Nat.zero_le _,rfl,Zk.out,Zl.out,λa b ha hb=>by rw[Zi.out a b ha hb,if_neg (by unfold jE;omega)],Qp.out,QA.out,Rv.out,PY.out⟩
 case round=>
  clear Rv PY QA Qp s0 s1 s2 Hs r0 ai r1 aj r2 aC d0 d1 d2 Hr Hd Hb yE;obtain⟨k,R,hk,rfl,qO,qP,hRe,hO,hc,hs,pb⟩:=hrel;by_cases hlt:k<n
  . have gv:=hc k hlt;obtain⟨g,c,pD⟩:∃g c,gI k=(g,c):=⟨_,_,rfl⟩;obtain⟨_,hg1,hg2,hg3⟩:=QP.out k hlt;rw[pD]at gv hg1 hg2 hg3;have bD:=ug n cv k (k:Int) (rfl:(some ⟨go,0,none⟩:Option Addr)=_) hlt rfl;rw[Nat.zero_add,Nat.mul_one]at bD;have hin:∃(j:Nat) (R:List (List Dyadic)),j=0/\R.length=n/\(∀r∈R,r.length=n)/\(∀a b,a<n->b<n->bG R a b=if jE k j a b then F a b*G else F a b)/\fV wr w5.heap.size n R n (.slice (some ⟨go,0,none⟩) n cv)/\(∀i,i<n->wr.cell? ⟨go,i,none⟩=some (.slice (some ⟨(gI i).1,0,none⟩) n (gI i).2))/\ak wr w8.heap.size 30 [.bool (ar (dN G)),.string (bs (nt (dN G).natAbs)),.int .i64 (dE G)]/\Bw w5 wr:=⟨0,R,rfl,qO,qP,hRe,hO,hc,hs,pb⟩;obtain⟨mW,EX⟩:=aL hin pD;clear hin qO qP hRe hO hc hs pb pD;obtain⟨wq,hwq⟩:∃wq,wq=wr:=⟨_,rfl⟩;subst hwq;go_wp2_with fail;go_loopw[43] (λx wr=>∃(j:Nat) (R:List (List Dyadic)),j<=n/\x=.int .i64 (j:Int)/\R.length=n/\(∀r∈R,r.length=n)/\(∀a b,a<n->b<n->bG R a b=if jE k j a b then F a b*G else F a b)/\fV wr w5.heap.size n R n (.slice (some ⟨go,0,none⟩) n cv)/\(∀i,i<n->wr.cell? ⟨go,i,none⟩=some (.slice (some ⟨(gI i).1,0,none⟩) n (gI i).2))/\ak wr w8.heap.size 30 [.bool (ar (dN G)),.string (bs (nt (dN G).natAbs)),.int .i64 (dE G)]/\Bw w5 wr) (λx _=>n-(intOf x).toNat);case atStart=>obtain⟨j,R,rfl,h⟩:=mW.out;exact⟨0,R,Nat.zero_le _,rfl,h⟩
    case round=>
     clear mW gv bD;obtain⟨j,R,hj,rfl,qO,qP,hRe,hO,hc,hs,pb⟩:=hrel;by_cases bj:j<n
     . have hrl:(R.getD k []).length=n:=by
        have e:R.getD k []=R[k]'zo:=by rw[List.getD_eq_getElem?_getD,List.getElem?_eq_getElem zo];rfl
        rw[e];exact qP _ (List.getElem_mem _)
       have gv:=hc k hlt;rw[EX.out]at gv;have hpick:∀W,fV W w5.heap.size n R n (.slice (some ⟨go,0,none⟩) n cv)->W.cell? ⟨go,k,none⟩=some (.slice (some ⟨g,0,none⟩) n c)->aV W g (j*3) [.bool (ar (dN (F k j))),.string (bs (nt (dN (F k j)).natAbs)),.int .i64 (dE (F k j))]/\(∀o,W.frozen? ⟨g,o,none⟩=false)/\∀y:Dyadic,fV (((W.setCell ⟨g,j*3,none⟩ (.bool (ar (dN y)))).setCell ⟨g,j*3+1,none⟩ (.string (bs (nt (dN y).natAbs)))).setCell ⟨g,j*3+2,none⟩ (.int .i64 (dE y))) w5.heap.size n (R.set k ((R.getD k []).set j y)) n (.slice (some ⟨go,0,none⟩) n cv):=by
        intro W hO gv;obtain⟨go',cap',g',c',hv,_,_,hne,hcell,cW,hfz,hup⟩:=hO.num k j hlt bj qO hrl;simp only[Value.slice.injEq,Option.some.injEq,Addr.mk.injEq,and_true,true_and]at hv;obtain⟨rfl,rfl⟩:=hv;rw[gv]at hcell;simp only[Option.some.injEq,Value.slice.injEq,Addr.mk.injEq,and_true,true_and]at hcell;obtain⟨rfl,rfl⟩:=hcell;have he:(R.getD k []).getD j 0=F k j:=by have h:=hRe k j hlt bj;rw[if_neg (by unfold jE;omega)]at h;exact h
        rw[he]at cW;exact⟨cW,hfz,hup⟩
       obtain⟨cW,_,_⟩:=hpick wr hO gv;have LI:=Zm.out k j hlt bj;obtain⟨Y,hY⟩:=aB (F k j*G);have hsl:=akG qO qP k j hlt Y;have hen:∀a b,a<n->b<n->bG (R.set k ((R.getD k []).set j Y)) a b=if jE k (j+1) a b then F a b*G else F a b:=by
        intro a b ha hb;rw[aeT qO qP k j hlt bj Y a b ha hb];by_cases e:a=k/\b=j
        . obtain⟨rfl,rfl⟩:=e;rw[if_pos ⟨rfl,rfl⟩,if_pos (by unfold jE;omega),hY]
        . rw[if_neg e,hRe a b ha hb];have:jE k j a b↔jE k (j+1) a b:=by unfold jE;omega
          by_cases h:jE k j a b
          . rw[if_pos h,if_pos (this.1 h)]
          . rw[if_neg h,if_neg (λh2=>h (this.2 h2))]
       obtain⟨E,hE⟩:=aB (F k j);have HY:Hid (az (canon E) *az (canon G)=Y):=by show _=_;rw[bU,bU,<-hE];exact hY
       rw[hE]at cW LI hpick;have hjx:=mK n c j (j:Int) (rfl:(some ⟨g,0,none⟩:Option Addr)=_) bj rfl;rw[Nat.zero_add]at hjx;obtain⟨R2,Ud⟩:=aB (R.set k ((R.getD k []).set j Y));have hpk:=λW h1 h2=>(hpick W h1 h2).2.2 Y;have xM:=λW h1 h2=>(hpick W h1 h2).2.1;rw[Ud]at hsl hen hpk;have Hz:Hid (aV wr g (j*3) [.bool (ar (dN E)),.string (bs (nt (dN E).natAbs)),.int .i64 (dE E)]):=cW;have Hs:Hid (ak wr w8.heap.size 30 [.bool (ar (dN G)),.string (bs (nt (dN G).natAbs)),.int .i64 (dE G)]):=hs;obtain⟨HO,Hcc,oU,aO,yQ,Hen,Hpk,Hpz,Zj,wD⟩:=xY hO hc gv pb hsl hen hpk xM LI (HT.out.below (aJ dM.out pb));have szw:=pb.size;clear hO hc gv pb hsl hen hpk xM LI hs cW hpick Ud hE hY qO qP hRe hrl;have Hb:Hid (Bw wr wr):=Below.refl _ _;have GX:=Hs.out.lt;go_wp2_with fail;obtain⟨z0,z1,z2⟩:=Hz.out.w3;obtain⟨s0,s1,s2⟩:=Hs.out.c3;have HU:Hid (aF wr):=wD.out;refine bJ (λw'=>w'.cell? ⟨g,j*3,none⟩=some (.bool (ar (dN E)))/\w'.cell? ⟨g,j*3+1,none⟩=some (.string (bs (nt (dN E).natAbs)))/\w'.cell? ⟨g,j*3+2,none⟩=some (.int .i64 (dE E))/\w'.cell? ⟨w8.heap.size,0,none⟩=some (.bool (ar (dN G)))/\w'.cell? ⟨w8.heap.size,1,none⟩=some (.string (bs (nt (dN G).natAbs)))/\w'.cell? ⟨w8.heap.size,2,none⟩=some (.int .i64 (dE G))) (λi=>Nat.blt i 10) [(0,true),(1,true),(2,true),(3,true),(4,true),(5,true),(6,true),(7,false),(8,false),(9,true),(10,false)] zk zk rfl zk zc ⟨z0,z1,z2,s0,s1,s2⟩ ?_;iterate 7 (refine pT rfl rfl ?_ (by intro w' ⟨q0,q1,q2,q3,q4,q5⟩;go_simp;try with_reducible rfl);try simp only[UU])
       refine aI rfl rfl (λK hK=>?_);go_simp;refine hK _ _ (λ_=>⟨aG z0,aG z1,aG z2,aG s0,aG s1,aG s2⟩) ?_;clear hK K;try simp only[UU]
       refine bN (λW4=>ak W4 (wr.heap.size) 30 [.bool (ar (dN E)),.string (bs (nt (dN E).natAbs)),.int .i64 (dE E),.bool (ar (dN G)),.string (bs (nt (dN G).natAbs)),.int .i64 (dE G)]/\Bw wr W4) (by first|exact dP|exact dQ) ?_;rintro W4 ⟨qv,ae⟩;clear z0 z1 z2 s0 s1 s2;have aou:=Hs.out.lt;replace Hz:=kW Hz ae;replace Hs:=kB Hs ae;replace HU:=kT HU ae;have Hv:=ah qv;clear qv;obtain⟨z0,z1,z2⟩:=Hz.out.w3;obtain⟨s0,s1,s2⟩:=Hs.out.c3;obtain⟨v0,v1,v2,v3,v4,v5⟩:=Hv.out.c6;replace Hb:=au Hb ae;clear ae;refine aI rfl rfl (λK hK=>?_);go_simp;with_reducible refine(Cx _ _ _ _ _ _ Y (4*B+11) HY.out wr.heap.size _ 30 _ Zj.out Zt.out zo Hv.out (by first|exact HU.out|exact aF.drew HU.out|exact aF.alloc HU.out _|exact aF.drew (aF.alloc HU.out _) |exact aF.alloc (aF.drew HU.out) _)).mono ?_
       rintro e eY ⟨rfl,hq⟩;have ae:Bw W4 eY:=by first|exact hq|exact aM hq
       clear z0 z1 z2 s0 s1 s2 v0 v1 v2 v3 v4 v5;replace Hz:=kW Hz ae;replace Hs:=kB Hs ae;replace HU:=kT HU ae;replace Hv:=kB Hv ae;obtain⟨z0,z1,z2⟩:=Hz.out.w3;obtain⟨s0,s1,s2⟩:=Hs.out.c3;obtain⟨v0,v1,v2,v3,v4,v5⟩:=Hv.out.c6;replace Hb:=au Hb ae;clear ae;refine hK _ _ (λ_=>⟨z0,z1,z2,s0,s1,s2⟩) ?_;clear hK K;try simp only[UU]
       refine pT rfl rfl ?_;try simp only[UU]
       refine aI rfl rfl (λK hK=>?_);have Ma:=HO.out.below Hb.out;have MI:=cell_later Hb.out oU.out;have hfz:=Hpz.out eY Ma MI;have jh:=hfz (j*3);have iO:=hfz (j*3+1);have oc:=hfz (j*3+2);have hup:=Hpk.out eY Ma MI;have tT:=aJ aO.out Hb.out;obtain⟨KC,kz⟩:=aL hup tT;clear Ma MI hfz hup tT;go_simp;refine hK _ _ (λh=>absurd h zd) ?_;clear hK K;try simp only[UU]
       simp only[aU];go_wp2;refine⟨⟨j+1,R2,by omega,by go_num,yQ.out.1,yQ.out.2,Hen.out,KC.out,λi hi=>?_,?_,?_⟩,by simp[intOf];omega⟩
       . have hne:(⟨go,i,none⟩:Addr).block≠g:=λe=>hg3 e.symm;exact aH (.inl hne) (aH (.inl hne) (aH (.inl hne) (cell_later Hb.out (Hcc.out i hi))))
       . have hne:g≠w8.heap.size:=by omega
         exact((Hs.out.api _ hne _).api _ hne _).api _ hne _
       . exact((kz.out.setCell hg1 _).setCell hg1 _).setCell hg1 _
     . obtain rfl:j=n:=by omega
       have lK:(∀a b,a<j->b<j->bG R a b=if jE (k+1) 0 a b then F a b*G else F a b):=by
        intro a b ha hb;rw[hRe a b ha hb];have:jE k j a b↔jE (k+1) 0 a b:=by unfold jE;omega
        by_cases h:jE k j a b
        . rw[if_pos h,if_pos (this.1 h)]
        . rw[if_neg h,if_neg (λh2=>h (this.2 h2))]
       have hres:(∃k' R,k'<=j/\k'=k+1/\R.length=j/\(∀r∈R,r.length=j)/\(∀a b,a<j->b<j->bG R a b=if jE k' 0 a b then F a b*G else F a b)/\fV wr w5.heap.size j R j (.slice (some ⟨go,0,none⟩) j cv)/\(∀i,i<j->wr.cell? ⟨go,i,none⟩=some (.slice (some ⟨(gI i).1,0,none⟩) j (gI i).2))/\ak wr w8.heap.size 30 [.bool (ar (dN G)),.string (bs (nt (dN G).natAbs)),.int .i64 (dE G)]/\Bw w5 wr):=⟨k+1,R,by omega,rfl,qO,qP,lK,hO,hc,hs,pb⟩;have gF:=ah hres;clear hres lK qO qP hRe hO hc hs pb;go_wp2;go_roundw;case rel=>obtain⟨k',R,h1,rfl,h⟩:=gF.out;exact⟨k+1,R,h1,by go_num,h⟩
       case measure=>simp[intOf];omega
  . obtain rfl:k=n:=by omega
    have hRf:R=pg k P:=tq.out R qO qP (λa b ha hb=>by rw[hRe a b ha hb,if_pos (by unfold jE;omega)]);subst hRf;obtain⟨wA,aO⟩:=aL hO pb;clear hO hc hs pb qO qP hRe;obtain⟨Hr,Hd,Hb⟩:=cL (kD.out.below aO.out) (JG.out.below aO.out) (aJ dM.out aO.out);obtain⟨r0,ai,r1,aj,r2,aC⟩:=Hr.out.g3;obtain⟨d0,d1,d2⟩:=Hd.out.c3;go_wp2_with fail;refine(jB.out _ Hb.out).mono ?_;rintro e lf ⟨rfl,ve,ae⟩;clear r0 ai r1 aj r2 aC d0 d1 d2;replace Hr:=kB Hr ae;replace Hd:=kB Hd ae;obtain⟨r0,ai,r1,aj,r2,aC⟩:=Hr.out.g3;obtain⟨d0,d1,d2⟩:=Hd.out.c3;replace Hb:=au Hb ae;clear ae;have ZE:=ah (wA.out.below ve);clear ve;have hzz:=dM.out.size;have jH:w.heap.size<w5.heap.size:=Nat.lt_of_lt_of_le kD.out.lt (Nat.le_refl _);go_wp2;refine fF (λoN=>ak oN w.heap.size 30 [.bool (ar (dN (G*X))),.string (bs (nt (dN (G*X)).natAbs)),.int .i64 (dE (G*X))]/\fV oN w5.heap.size k (pg k P) k (.slice (some ⟨go,0,none⟩) k cv)/\Bw w oN) ⟨((Hr.out.set 0 _).set 1 _).set 2 _,((ZE.out.apv jH _).apv jH _).apv jH _,((Hb.out.setCell zp _).setCell zp _).setCell zp _⟩ ?_;rintro oN ⟨agI,agA,af0⟩;obtain⟨q0,q1,q2⟩:=agI.c3;obtain⟨a9,c9,lN,Gt,ht9⟩:=agA.tbl (FC _ _) (FD _ _);simp only[Value.slice.injEq,true_and]at lN;obtain⟨rfl,rfl⟩:=lN;exact bodyPost_ret (v:=.tuple #[bC (G*X),.slice (some ⟨go,0,none⟩) k cv,.int .i64 0]) (by simp[results,Tryz.results55,go_sem,q0,q1,q2]) rfl ⟨_,_,rfl,Gt,ht9,af0⟩
def sV (xs:List Raw):Nat->Dyadic:=λb=>(xs.map az).getD b 0
theorem PS (xs:List Raw)(k:Nat)(h:k<xs.length):sV xs k=az xs[k]:=by unfold sV;simp[List.getD_eq_getElem?_getD,h]
def pS (n:Nat)(p:Nat->Nat->Dyadic)(x:Nat->Dyadic)(i:Nat):List Dyadic:=wZ n p x i::(List.range i).map λa=>pW n p x (a+1)
def rA (n:Nat)(p:Nat->Nat->Dyadic)(x:Nat->Dyadic):List Dyadic:=(List.range (n+1)).map λk=>pW n p x k
theorem ai2 (n:Nat)(p:Nat->Nat->Dyadic)(x:Nat->Dyadic)(i:Nat):(pS n p x i).length=i+1:=by simp[pS]
theorem ai3 (n:Nat)(p:Nat->Nat->Dyadic)(x:Nat->Dyadic)(i:Nat):(pS n p x i++[pW n p x (i+1)]).set 0 (wZ n p x i-pW n p x (i+1))=pS n p x (i+1):=by unfold pS;rw[List.range_succ,List.map_append];rfl
theorem ai1 (n:Nat)(hn:1<=n)(cF:n<=4)(p:Nat->Nat->Dyadic)(x:Nat->Dyadic):pS n p x n=rA n p x:=by unfold pS rA;rw[Za n hn cF,List.range_succ_eq_map,List.map_cons,List.map_map];rfl
theorem XE {w:World}{b base n:Nat}{e:TypeId}{size:Nat}{xs:List Value}(h:ak w b e xs)(hb:base<=b)(hl:xs.length=n*size)(hn:n<=1048576):w.ownsRow base e size (.slice (some ⟨b,0,none⟩) n n) n xs:=
 ⟨hl,.inr ⟨b,n,xs.toArray,rfl,hb,h,Nat.le_refl _,by unfold maxLen;omega,by simpa using hl,by rw[<-hl];simp⟩⟩
theorem aR.apy {w:World}{a:Option Addr}{T:List (List Dyadic)}{n:Nat}(h:aR w a (T.map λr=>r.map canon))(hl:T.length=n)(hr:∀r∈T,r.length=n)(k i:Nat)(hk:k<n)(hi:i<n):
 ∃b o br os cr,a=some ⟨b,o,none⟩/\w.cell? ⟨b,o+k,none⟩=some (.slice (some ⟨br,os,none⟩) n cr)/\aV w br (os+i*3) [.bool (ar (dN (bG T k i))),.string (bs (nt (dN (bG T k i)).natAbs)),.int .i64 (dE (bG T k i))]:=by
 have GJ:k<T.length:=by omega
 obtain⟨b,o,a',c',h1,h2,h3⟩:=h.row k (by simpa using GJ);have e1:(T.map λr=>r.map canon)[k]'(by simpa using GJ)=T[k].map canon:=by simp
 have hlk:=hr _ (List.getElem_mem GJ);rw[e1]at h2 h3;rw[List.length_map,hlk]at h2;have hik:i<T[k].length:=by omega
 have e2:bG T k i=T[k][i]:=by unfold bG;simp[List.getD_eq_getElem?_getD,GJ,hik]
 obtain⟨br,os,e3,q0,q1,q2⟩:=h3.num i (by simpa using hik) (show(T[k].map canon)[i]'(by simpa using hik)=(ar (dN (bG T k i)),nt (dN (bG T k i)).natAbs,dE (bG T k i))by rw[e2];simp;rfl);subst e3;exact⟨b,o,br,os,c',h1,h2,fS q0 q1 q2⟩
def RR (w:World)(n:Nat)(p:Nat->Nat->Dyadic)(x:Nat->Dyadic)(e:Ending)(w':World):Prop:=
 ∃a' c',e=.returned (.tuple #[.slice a' (n+1) c',.int .i64 0])/\n+1<=c'/\At w' a' (dC (rA n p x))/\Bw w w'
theorem Zb (a:Option Addr)(cap m:Nat)(rows:List (List Raw))(B:Nat)(xa:Option Addr)(xc:Nat)(xs:List Raw)(w:World)(hm:m+1<=4)(hr:Rw (m+1) B rows)(hcap:m+1+1<=cap)(ha:aR w a rows)(hx:At w xa (xs.flatMap bo))(hxl:xs.length=m+1)(vF:∀x∈xs,Fit B x)(hB:B<=200000)(hT:aF w)(h0:jM rows=0):
 Calls Tryz.prog 22 #[.slice a (m+1+1) cap,.slice xa (m+1) xc] w (RR w (m+1) (dR rows) (sV xs)):=by
 obtain⟨n,hn⟩:=aB (m+1);obtain⟨i0,hi,hz0,hz1,hz2⟩:=info_parts Tryz.apl;have hL:=hr.1;have hrow:=hr.2.1;have hfit:=hr.2.2;have mI:=λW (hW:Bw w W)=>WG a cap m rows B W hm hr hcap (ha.below hW) hB (hT.below hW) h0;have rZ:=λW (hW:Bw w W)=>AL a (m+1+1) cap rows W hL zo (ha.below hW);rw[yx hL hrow zo zo]at rZ;have hps:∀a b,a<=m+1->b<m+1->Sm B (dR rows a b):=λa b ha hb=>by rw[sN rows a b zo (by rw[hrow _ (List.getElem_mem _)];exact hb)];exact(hfit _ (List.getElem_mem _) _ (List.getElem_mem _)).2
 have zY:∀b,b<m+1->Sm B (sV xs b):=λb hb=>by rw[PS xs b zo];exact(vF _ (List.getElem_mem _)).2
 have h00:0<rows.length:=by omega
 obtain⟨b,o,a0,c0,hab,hc0,fH⟩:=ha.row 0 h00;have qZ:rows[0].length=m+1:=hrow _ (List.getElem_mem h00);have xL:∀x∈rows[0],Fit B x:=hfit _ (List.getElem_mem h00);obtain⟨p0,xK⟩:=aB (rows[0]);rw[xK]at hc0 fH qZ xL;have hp0:∀k (h:k<p0.length),dR rows 0 k=az p0[k]:=λk h=>by subst xK;exact sN rows 0 k h00 h
 rw[qZ,Nat.add_zero]at hc0;subst hab;obtain⟨P,hP⟩:=aB (dR rows);rw[hP]at mI hps hp0⊢;obtain⟨xf,Nz⟩:=aB (sV xs);have hxk:∀k (h:k<xs.length),xf k=az xs[k]:=λk h=>by rw[<-Nz];exact PS xs k h
 rw[Nz]at zY⊢;have xQ:=λi k (hk:k<=m+1)=>IX zo hm hps zY i k hk;have Nv:=λk (hk:k<=m+1)=>PN zo hm hps zY k hk;have ov:=λk i=>Cq zo hm hps k i;have hwt:=λi (hi:i<m+1)=>PK (m+1) zo hm P xf i hi;have hend:=ai1 (m+1) zo hm P xf;have pH:=KS (m+1) P;have htl:=FC (m+1) P;have htr:=FD (m+1) P;rw[hn]at mI rZ hps zY hxl hc0 qZ xQ Nv ov hwt hend pH htl htr⊢;have cF:n<=4:=by omega
 have dL:1<=n:=by omega
 have lQ:b<w.heap.size:=World.block_lt_of_cell? w _ hc0;have xV:=fE (n+1) cap 0 0 (show some (⟨b,o,none⟩:Addr)=some ⟨b,o,none⟩from rfl) zo rfl;rw[Nat.zero_mul,Nat.add_zero]at xV;obtain⟨Hi,cG,cH,cE,lu,yR,HT,Hx,Hxl,Hxf,xb,oX⟩:=fR hi hz0 hz1 hz2 mI rZ hT hx hxl vF hxk hps;obtain⟨abW,jD,gh,Kh,Kg,Kf,Fq,HwZ,Bj,RL,eH,Kz⟩:=fR zY hc0 fH qZ xL hp0 xQ Nv ov hwt hend pH;obtain⟨Cf,mB,BK⟩:=cL htl htr xV;clear hi hz0 hz1 hz2 mI rZ hT hx hxl vF hxk hps zY hc0 fH qZ xL hp0 xQ Nv ov hwt hend pH htl htr xV hP Nz xK h00 ha hr hL hrow hfit h0 hn;have hnz:((n:Int)==0)=false:=by simp;omega
 have Hb:Hid (Bw w w):=Below.refl _ _;go_enter Tryz.func22,Tryz.ntmps22;go_wp2_with fail;refine(lu.out _ Hb.out).mono ?_;rintro e w1 ⟨a1,c1,rfl,hc1,ht1,ae⟩;have Ce:=ah ht1;replace Hb:=au Hb ae;clear ae ht1;obtain⟨dd,hdd⟩:=aB (mP (fp n P) *fp n P);have Hdd:=ah hdd;rw[hdd];clear hdd;obtain⟨W2,pz,ae,Hd⟩:=cN w1 30 [.bool (ar (dN dd)),.string (bs (nt (dN dd).natAbs)),.int .i64 (dE dd)];obtain⟨d0,d1,d2⟩:=Hd.out.c3;replace Hb:=au Hb ae;clear ae;have HA:Hid (aR W2 a1 ((pg n P).map λr=>r.map canon)):=Ce.out.below (by first|exact zl| (rw[<-pz];exact zl));clear Ce;go_wp2_with fail;refine(yR.out _ Hb.out).mono ?_;rintro e w3 ⟨rfl,ae⟩;clear d0 d1 d2;replace Hd:=kB Hd ae;replace HA:=kL HA ae;obtain⟨d0,d1,d2⟩:=Hd.out.c3;replace Hb:=au Hb ae;clear ae;have JG:=Hd;have Jc:=HA;have dM:=Hb;have P0:=d0;have P1:=d1;have P2:=d2;have agy:((n:Int) !=(n:Int)+1-1)=false:=by simp
 have NR:=Hd.out.lt;obtain⟨W4,mF,ae,Hq⟩:=cN w3 30 [.bool (ar (dN dd)),.string (bs (nt (dN dd).natAbs)),.int .i64 (dE dd)];clear d0 d1 d2;replace Hd:=kB Hd ae;replace HA:=kL HA ae;obtain⟨d0,d1,d2⟩:=Hd.out.c3;obtain⟨q0,q1,q2⟩:=Hq.out.c3;replace Hb:=au Hb ae;clear ae;go_wp2_with fail;have hst:W4.ownsRow w3.heap.size 30 3 (.slice (some ⟨w3.heap.size,0,none⟩) 1 1) 1 (dC (pS n P xf 0)):=by
  have e:dC (pS n P xf 0)=[.bool (ar (dN dd)),.string (bs (nt (dN dd).natAbs)),.int .i64 (dE dd)]:=by unfold pS wZ;rw[Hdd.out];rfl
  rw[e];exact XE Hq.out (Nat.le_refl _) rfl zo
 have cd:=ah hst;have PX:Hid (Bw w3 W4):=by rw[<-mF];exact zl
 clear hst P0 P1 P2 agy hnz;go_loopw[9,39] (λs9 x wr=>∃(i:Nat) (v:Value),i<=n/\x=.int .i64 (i:Int)/\v=s9/\wr.ownsRow w3.heap.size 30 3 v (i+1) (dC (pS n P xf i))/\Bw w3 wr) (λ_ x _=>n-(intOf x).toNat);case atStart=>exact⟨0,_,Nat.zero_le _,rfl,rfl,cd.out,PX.out⟩
 case round=>
  clear cd PX d0 d1 d2 q0 q1 q2 Hd Hq HA Hb;obtain⟨i,v,hi,rfl,rfl,ho,pb⟩:=hrel;by_cases hlt:i<n
  . obtain⟨wo,hwo⟩:∃wo,wo=wr:=⟨_,rfl⟩;subst hwo;have hvl:=ho.lt;obtain⟨Ho,aO⟩:=aL ho pb;have gB:=pb.size;have sQ:=dM.out.size;clear ho pb;have Hb:Hid (Bw wo wo):=Below.refl _ _;have pE:decide ((i:Int)<(n:Int))=true:=by simp;omega
    obtain⟨W5,Da,ae,Hy⟩:=cN wo 30 [.bool false,.string ⟨#[]⟩,.int .i64 0];obtain⟨y0,aP,y1,aQ,y2,aS⟩:=Hy.out.g3;replace Hb:=au Hb ae;clear ae;have Cl:=Hy;have fL:=Hb;go_wp2_with fail;clear pE y0 aP y1 aQ y2 aS Hy Hb;go_loopw[45] (λx wr=>∃k:Nat,k<=n/\x=.int .i64 (k:Int)/\ak wr wo.heap.size 30 [.bool (ar (dN (wS n P xf i k))),.string (bs (nt (dN (wS n P xf i k)).natAbs)),.int .i64 (dE (wS n P xf i k))]/\Bw wo wr) (λx _=>n-(intOf x).toNat);case atStart=>exact⟨0,Nat.zero_le _,rfl,((Cl.out.set 0 _).set 1 _).set 2 _,((fL.out.setCell (Nat.le_refl _) _).setCell (Nat.le_refl _) _).setCell (Nat.le_refl _) _⟩
    case round=>
     clear Cl fL;obtain⟨k,hk,rfl,hy,qb⟩:=hrel;by_cases bj:k<n
     . have Mr:=aJ aO.out qb;have vg:=aJ dM.out Mr;have xE:k<xs.length:=by rw[Hxl.out];exact bj
       have nu:k<p0.length:=by rw[Kh.out];exact bj
       obtain⟨sx,mx,ex,jI⟩:=iA (xs[k]);obtain⟨sp,mp,ep,hpe⟩:=iA (p0[k]);have eP:=Hxf.out _ (List.getElem_mem xE);have df:=Kg.out _ (List.getElem_mem nu);rw[jI]at eP;rw[hpe]at df;obtain⟨bx,ox,Mo,x0,x1,x2⟩:=(Hx.out.below vg).num k xE jI;obtain⟨bp,op,Dc,p1,p2,p3⟩:=(gh.out.below vg).num k nu hpe;obtain⟨ba,oa,bq,oq,cq,Db,Df,hq⟩:=(Jc.out.below Mr).apy Cf.out mB.out k i bj hlt;rw[Kz.out k i bj hlt]at hq;have NH:bx<w.heap.size:=by subst Mo;exact Hx.out.lt (by intro h0;have:=congrArg List.length h0;rw[iY bo 3 (λ_=>rfl)]at this;simp at this;omega)
       obtain⟨D,hD⟩:=aB (az (sx,mx,ex)-az (sp,mp,ep));have LO:xf k-P 0 k=D:=by rw[xb.out k xE,Kf.out k nu,jI,hpe];exact hD
       obtain⟨Q,hQ⟩:=aB (jX n P k i);obtain⟨Z,hZ⟩:=aB (D*Q);obtain⟨S0,oh⟩:=aB (wS n P xf i k);obtain⟨S1,hS1⟩:=aB (wS n P xf i (k+1));have CS:S0+Z=S1:=by rw[<-hS1,<-hZ,<-LO,<-hQ,<-oh];rfl
       have fG:Sm (B+1) D:=by rw[<-LO];exact Sm.sub (abW.out k bj) (oX.out 0 k zo bj)
       have tO:=Bj.out k i;rw[hQ]at tO hq;have xu:=Fq.out i k zo;rw[oh]at xu hy;have uW:Sm (5*B+12) Z:=by rw[<-hZ];exact(Sm.mul fG tO).mono zo
       have wM:Hid (Fit (4*B+11) (canon D)):=(fG.mono zo).fit zo;have wN:Hid (Fit (4*B+11) (canon Q)):=tO.fit zo;have BB:Hid (Fit (5*B+16) (canon S0)):=(xu.mono zo).fit zo;have uF:Hid (Fit (5*B+16) (canon Z)):=(uW.mono zo).fit zo;have HZ:Hid (az (canon D) *az (canon Q)=Z):=by show _=_;rw[bU,bU];exact hZ
       have Jm:Hid (az (canon S0)+az (canon Z)=S1):=by show _=_;rw[bU,bU];exact CS
       have WI:=iZ n xc k (k:Int) Mo bj rfl;have ixp:=iZ n c0 k (k:Int) Dc bj rfl;have NE:=ug n c1 k (k:Int) Db bj rfl;rw[Nat.mul_one]at NE;have ixq:=mK n cq i (i:Int) (rfl:(some ⟨bq,oq,none⟩:Option Addr)=_) hlt rfl;have nH:=BK.out;obtain⟨Md,HD,iW,iH,Bi⟩:=fg hS1 hD eP df (HT.out.below vg);have Hy:Hid (ak wr wo.heap.size 30 [.bool (ar (dN S0)),.string (bs (nt (dN S0).natAbs)),.int .i64 (dE S0)]):=hy;have lC:Hid (aV wr bx (ox+k*3) [.bool sx,.string (bs mx),.int .i64 ex]):=fS x0 x1 x2;have Hp:Hid (aV wr bp (op+k*3) [.bool sp,.string (bs mp),.int .i64 ep]):=fS p1 p2 p3;have Hs:Hid (aV wr b o [.slice a0 n c0]):=λj hj=>by
        obtain rfl:j=0:=by simp at hj;omega
        exact cell_later vg jD.out
       have Hr:Hid (aV wr ba (oa+k) [.slice (some ⟨bq,oq,none⟩) n cq]):=λj hj=>by
        obtain rfl:j=0:=by simp at hj;omega
        exact Df
       have Hq:Hid (aV wr bq (oq+i*3) [.bool (ar (dN Q)),.string (bs (nt (dN Q).natAbs)),.int .i64 (dE Q)]):=hq;have jo:=ah qb;have Py:=qb.size;have DT:=Hy.out.lt;clear x0 x1 x2 p1 p2 p3 Df hq hy jI hpe eP df Mo Dc Db hD LO hQ hZ oh hS1 CS fG tO xu uW qb Mr vg;have Hb:Hid (Bw wr wr):=Below.refl _ _;go_wp2_with fail;obtain⟨y0,aP,y1,aQ,y2,aS⟩:=Hy.out.g3;obtain⟨jk,jl,jm⟩:=lC.out.w3;obtain⟨p0,p1,p2⟩:=Hp.out.w3;have s0:=Hs.out.w1;have r0:=Hr.out.w1;obtain⟨q0,q1,q2⟩:=Hq.out.w3;have HU:Hid (aF wr):=Bi.out;refine bJ (λw'=>w'.cell? ⟨wo.heap.size,0,none⟩=some (.bool (ar (dN S0)))/\w'.cell? ⟨wo.heap.size,1,none⟩=some (.string (bs (nt (dN S0).natAbs)))/\w'.cell? ⟨wo.heap.size,2,none⟩=some (.int .i64 (dE S0))/\w'.cell? ⟨bx,ox+k*3,none⟩=some (.bool sx)/\w'.cell? ⟨bx,ox+k*3+1,none⟩=some (.string (bs mx))/\w'.cell? ⟨bx,ox+k*3+2,none⟩=some (.int .i64 ex)/\w'.cell? ⟨bp,op+k*3,none⟩=some (.bool sp)/\w'.cell? ⟨bp,op+k*3+1,none⟩=some (.string (bs mp))/\w'.cell? ⟨bp,op+k*3+2,none⟩=some (.int .i64 ep)/\w'.cell? ⟨b,o,none⟩=some (.slice a0 n c0)/\w'.cell? ⟨ba,oa+k,none⟩=some (.slice (some ⟨bq,oq,none⟩) n cq)/\w'.cell? ⟨bq,oq+i*3,none⟩=some (.bool (ar (dN Q)))/\w'.cell? ⟨bq,oq+i*3+1,none⟩=some (.string (bs (nt (dN Q).natAbs)))/\w'.cell? ⟨bq,oq+i*3+2,none⟩=some (.int .i64 (dE Q))) (λi=>Nat.blt i 23) [(0,true),(1,true),(2,true),(3,true),(4,true),(5,true),(6,true),(7,true),(8,true),(9,true),(10,true),(12,true),(13,true),(14,true),(15,true),(16,true),(17,true),(18,true),(11,false),(19,false),(20,false),(21,false),(22,false),(23,false)] zk zk rfl zk zc ⟨y0,y1,y2,jk,jl,jm,p0,p1,p2,s0,r0,q0,q1,q2⟩ ?_;iterate 18 (refine pT rfl rfl ?_ (by intro w' ⟨q0,q1,q2,q3,q4,q5,q6,q7,q8,q9,vY,Ay,Az,AA⟩;go_simp;try with_reducible rfl);try simp only[UU])
       refine aI rfl rfl (λK hK=>?_);go_simp;with_reducible refine(zq sx mx ex sp mp ep D B HD.out _ iW.out iH.out zo (by first|exact HU.out|exact aF.drew HU.out|exact aF.alloc HU.out _|exact aF.drew (aF.alloc HU.out _) |exact aF.alloc (aF.drew HU.out) _)).mono ?_
       rintro e w6 ⟨rfl,hq⟩;have ae:Bw wr w6:=by first|exact hq|exact aM hq
       clear y0 aP y1 aQ y2 aS jk jl jm p0 p1 p2 s0 r0 q0 q1 q2;replace Hy:=kB Hy ae;replace lC:=kW lC ae;replace Hp:=kW Hp ae;replace Hs:=kW Hs ae;replace Hr:=kW Hr ae;replace Hq:=kW Hq ae;replace HU:=kT HU ae;obtain⟨y0,aP,y1,aQ,y2,aS⟩:=Hy.out.g3;obtain⟨jk,jl,jm⟩:=lC.out.w3;obtain⟨p0,p1,p2⟩:=Hp.out.w3;have s0:=Hs.out.w1;have r0:=Hr.out.w1;obtain⟨q0,q1,q2⟩:=Hq.out.w3;replace Hb:=au Hb ae;clear ae;refine hK _ _ (λ_=>⟨y0,y1,y2,jk,jl,jm,p0,p1,p2,s0,r0,q0,q1,q2⟩) ?_;clear hK K;try simp only[UU]
       refine aI rfl rfl (λK hK=>?_);go_simp;refine hK _ _ (λ_=>⟨aG y0,aG y1,aG y2,aG jk,aG jl,aG jm,aG p0,aG p1,aG p2,aG s0,aG r0,aG q0,aG q1,aG q2⟩) ?_;clear hK K;try simp only[UU]
       refine bN (λW7=>ak W7 (w6.heap.size) 30 [.bool (ar (dN D)),.string (bs (nt (dN D).natAbs)),.int .i64 (dE D),.bool (ar (dN Q)),.string (bs (nt (dN Q).natAbs)),.int .i64 (dE Q)]/\Bw w6 W7) (by first|exact dP|exact dQ) ?_;rintro W7 ⟨qe,ae⟩;clear y0 aP y1 aQ y2 aS jk jl jm p0 p1 p2 s0 r0 q0 q1 q2;have aoJ:=Hy.out.lt;replace Hy:=kB Hy ae;replace lC:=kW lC ae;replace Hp:=kW Hp ae;replace Hs:=kW Hs ae;replace Hr:=kW Hr ae;replace Hq:=kW Hq ae;replace HU:=kT HU ae;have He:=ah qe;clear qe;obtain⟨y0,aP,y1,aQ,y2,aS⟩:=Hy.out.g3;obtain⟨jk,jl,jm⟩:=lC.out.w3;obtain⟨p0,p1,p2⟩:=Hp.out.w3;have s0:=Hs.out.w1;have r0:=Hr.out.w1;obtain⟨q0,q1,q2⟩:=Hq.out.w3;obtain⟨e0,e1,e2,e3,e4,e5⟩:=He.out.c6;replace Hb:=au Hb ae;clear ae;refine aI rfl rfl (λK hK=>?_);go_simp;with_reducible refine(Cx _ _ _ _ _ _ Z (4*B+11) HZ.out w6.heap.size _ 30 _ wM.out wN.out zo He.out (by first|exact HU.out|exact aF.drew HU.out|exact aF.alloc HU.out _|exact aF.drew (aF.alloc HU.out _) |exact aF.alloc (aF.drew HU.out) _)).mono ?_
       rintro e w8 ⟨rfl,hq⟩;have ae:Bw W7 w8:=by first|exact hq|exact aM hq
       clear y0 aP y1 aQ y2 aS jk jl jm p0 p1 p2 s0 r0 q0 q1 q2 e0 e1 e2 e3 e4 e5;replace Hy:=kB Hy ae;replace lC:=kW lC ae;replace Hp:=kW Hp ae;replace Hs:=kW Hs ae;replace Hr:=kW Hr ae;replace Hq:=kW Hq ae;replace HU:=kT HU ae;replace He:=kB He ae;obtain⟨y0,aP,y1,aQ,y2,aS⟩:=Hy.out.g3;obtain⟨jk,jl,jm⟩:=lC.out.w3;obtain⟨p0,p1,p2⟩:=Hp.out.w3;have s0:=Hs.out.w1;have r0:=Hr.out.w1;obtain⟨q0,q1,q2⟩:=Hq.out.w3;obtain⟨e0,e1,e2,e3,e4,e5⟩:=He.out.c6;replace Hb:=au Hb ae;clear ae;refine hK _ _ (λ_=>⟨y0,y1,y2,jk,jl,jm,p0,p1,p2,s0,r0,q0,q1,q2⟩) ?_;clear hK K;try simp only[UU]
       refine aI rfl rfl (λK hK=>?_);go_simp;refine hK _ _ (λ_=>⟨aG y0,aG y1,aG y2,aG jk,aG jl,aG jm,aG p0,aG p1,aG p2,aG s0,aG r0,aG q0,aG q1,aG q2⟩) ?_;clear hK K;try simp only[UU]
       refine bN (λW9=>ak W9 (w8.heap.size) 30 [.bool (ar (dN S0)),.string (bs (nt (dN S0).natAbs)),.int .i64 (dE S0),.bool (ar (dN Z)),.string (bs (nt (dN Z).natAbs)),.int .i64 (dE Z)]/\Bw w8 W9) (by first|exact dP|exact dQ) ?_;rintro W9 ⟨qf,ae⟩;clear y0 aP y1 aQ y2 aS jk jl jm p0 p1 p2 s0 r0 q0 q1 q2 e0 e1 e2 e3 e4 e5;have ah8:=Hy.out.lt;have an3:=He.out.lt;replace Hy:=kB Hy ae;replace lC:=kW lC ae;replace Hp:=kW Hp ae;replace Hs:=kW Hs ae;replace Hr:=kW Hr ae;replace Hq:=kW Hq ae;replace HU:=kT HU ae;replace He:=kB He ae;have Hf:=ah qf;clear qf;obtain⟨y0,aP,y1,aQ,y2,aS⟩:=Hy.out.g3;obtain⟨jk,jl,jm⟩:=lC.out.w3;obtain⟨p0,p1,p2⟩:=Hp.out.w3;have s0:=Hs.out.w1;have r0:=Hr.out.w1;obtain⟨q0,q1,q2⟩:=Hq.out.w3;obtain⟨e0,e1,e2,e3,e4,e5⟩:=He.out.c6;obtain⟨f0,f1,f2,f3,f4,f5⟩:=Hf.out.c6;replace Hb:=au Hb ae;clear ae;refine aI rfl rfl (λK hK=>?_);go_simp;with_reducible refine(zh _ _ _ _ _ _ S1 (5*B+16) Jm.out w8.heap.size _ 30 _ BB.out uF.out zo Hf.out (by first|exact HU.out|exact aF.drew HU.out|exact aF.alloc HU.out _|exact aF.drew (aF.alloc HU.out _) |exact aF.alloc (aF.drew HU.out) _)).mono ?_
       rintro e eY ⟨rfl,hq⟩;have ae:Bw W9 eY:=by first|exact hq|exact aM hq
       clear y0 aP y1 aQ y2 aS jk jl jm p0 p1 p2 s0 r0 q0 q1 q2 e0 e1 e2 e3 e4 e5 f0 f1 f2 f3 f4 f5;replace Hy:=kB Hy ae;replace lC:=kW lC ae;replace Hp:=kW Hp ae;replace Hs:=kW Hs ae;replace Hr:=kW Hr ae;replace Hq:=kW Hq ae;replace HU:=kT HU ae;replace He:=kB He ae;replace Hf:=kB Hf ae;obtain⟨y0,aP,y1,aQ,y2,aS⟩:=Hy.out.g3;obtain⟨jk,jl,jm⟩:=lC.out.w3;obtain⟨p0,p1,p2⟩:=Hp.out.w3;have s0:=Hs.out.w1;have r0:=Hr.out.w1;obtain⟨q0,q1,q2⟩:=Hq.out.w3;obtain⟨e0,e1,e2,e3,e4,e5⟩:=He.out.c6;obtain⟨f0,f1,f2,f3,f4,f5⟩:=Hf.out.c6;replace Hb:=au Hb ae;clear ae;refine hK _ _ (λ_=>⟨y0,y1,y2,jk,jl,jm,p0,p1,p2,s0,r0,q0,q1,q2⟩) ?_;clear hK K;try simp only[UU]
       refine aI rfl rfl (λK hK=>?_);go_simp;refine hK _ _ (by first|exact λh=>absurd h zd|exact λ_=>⟨y0,y1,y2,jk,jl,jm,p0,p1,p2,s0,r0,q0,q1,q2⟩ |exact λ_=>⟨(by first|exact y0|exact aH zf y0|exact aH zf (aH zf y0) |exact aH zf (aH zf (aH zf y0))),(by first|exact y1|exact aH zf y1|exact aH zf (aH zf y1) |exact aH zf (aH zf (aH zf y1))),(by first|exact y2|exact aH zf y2|exact aH zf (aH zf y2) |exact aH zf (aH zf (aH zf y2))),(by first|exact jk|exact aH zf jk|exact aH zf (aH zf jk) |exact aH zf (aH zf (aH zf jk))),(by first|exact jl|exact aH zf jl|exact aH zf (aH zf jl) |exact aH zf (aH zf (aH zf jl))),(by first|exact jm|exact aH zf jm|exact aH zf (aH zf jm) |exact aH zf (aH zf (aH zf jm))),(by first|exact p0|exact aH zf p0|exact aH zf (aH zf p0) |exact aH zf (aH zf (aH zf p0))),(by first|exact p1|exact aH zf p1|exact aH zf (aH zf p1) |exact aH zf (aH zf (aH zf p1))),(by first|exact p2|exact aH zf p2|exact aH zf (aH zf p2) |exact aH zf (aH zf (aH zf p2))),(by first|exact s0|exact aH zf s0|exact aH zf (aH zf s0) |exact aH zf (aH zf (aH zf s0))),(by first|exact r0|exact aH zf r0|exact aH zf (aH zf r0) |exact aH zf (aH zf (aH zf r0))),(by first|exact q0|exact aH zf q0|exact aH zf (aH zf q0) |exact aH zf (aH zf (aH zf q0))),(by first|exact q1|exact aH zf q1|exact aH zf (aH zf q1) |exact aH zf (aH zf (aH zf q1))),(by first|exact q2|exact aH zf q2|exact aH zf (aH zf q2) |exact aH zf (aH zf (aH zf q2)))⟩) ?_;clear hK K;try simp only[UU]
       simp only[aU];have UA:=aJ jo.out Hb.out;have wH:=ah UA;clear UA;go_wp2;refine⟨⟨k+1,by omega,by go_num,?_,?_⟩,by simp[intOf];omega⟩
       . rw[Md.out];exact((Hy.out.set 0 _).set 1 _).set 2 _
       . exact((wH.out.setCell (Nat.le_refl _) _).setCell (Nat.le_refl _) _).setCell (Nat.le_refl _) _
     . obtain rfl:k=n:=by omega
       rw[RL.out i hlt]at hy;obtain⟨T,hTe⟩:=aB (pW k P xf (i+1));have hTs:=Fq.out i k (Nat.le_refl _);rw[RL.out i hlt,hTe]at hTs;rw[hTe]at hy;obtain⟨Y,hY⟩:=aB (wZ k P xf i-T);have hnx:=ai3 k P xf i;rw[hTe,hY]at hnx;have BC:Hid (Fit (5*B+20) (canon T)):=(hTs.mono zo).fit zo;have uF:Hid (Fit (5*B+20) (canon (wZ k P xf i))):=((HwZ.out i zo).mono zo).fit zo;have HY:Hid (az (canon (wZ k P xf i))-az (canon T)=Y):=by show _=_;rw[bU,bU];exact hY
       obtain⟨O,hO⟩:=aB (pS k P xf i);obtain⟨W0,hW0⟩:=aB (wZ k P xf i);have TS:∃O',O=W0::O':=⟨_,by rw[<-hO,<-hW0];rfl⟩;rw[hO]at hnx;have hov:=ownsRow_below Ho.out qb;rw[hO]at hov;rw[hW0]at uF HY;replace HY:Hid (az (ar (dN W0),nt (dN W0).natAbs,dE W0)-az (ar (dN T),nt (dN T).natAbs,dE T)=Y):=by show _=_;have h:=HY.out;exact h
       replace uF:Hid (Fit (5*B+20) (ar (dN W0),nt (dN W0).natAbs,dE W0)):=uF;replace BC:Hid (Fit (5*B+20) (ar (dN T),nt (dN T).natAbs,dE T)):=BC;have TU:O.length=i+1:=by rw[<-hO];exact ai2 _ _ _ _
       have Hy:Hid (ak wr wo.heap.size 30 [.bool (ar (dN T)),.string (bs (nt (dN T).natAbs)),.int .i64 (dE T)]):=hy;obtain⟨cM,jo,tE,ZC,HOl,Bi⟩:=gN hov qb hnx TS TU (HT.out.below (aJ dM.out (aJ aO.out qb)));have Py:=qb.size;have hvb:∀g,v.ownBlock=some g->g<wo.heap.size:=λg e=>(hvl g e).2;clear hy hov qb hnx TS TU hTs hTe hY hO hW0 Ho hvl;have Hb:Hid (Bw wr wr):=Below.refl _ _;have DT:=Hy.out.lt;obtain⟨y0,y1,y2⟩:=Hy.out.c3;have P0:=y0;have P1:=y1;have P2:=y2;have ah7:=Hy.out.lt;obtain⟨W6,ot,ae,Hc⟩:=cN wr 30 [.bool (ar (dN T)),.string (bs (nt (dN T).natAbs)),.int .i64 (dE T)];clear y0 y1 y2;replace Hy:=kB Hy ae;obtain⟨y0,y1,y2⟩:=Hy.out.c3;obtain⟨c0,c1,c2⟩:=Hc.out.c3;replace Hb:=au Hb ae;clear ae;have cm:=ownsRow_below cM.out Hb.out;have ia:=Hb.out.size;go_wp2_with (at_builtin;refine wpList_append_own_at _ rfl _ _ 45 rfl w3.heap.size 30 i0 _ 3 32 Tryz.underlying45 Hi.out cG.out cH.out cE.out rfl zd v (i+1) (dC O) rfl cm ⟨wr.heap.size,0,none⟩ 1 1 [.bool (ar (dN T)),.string (bs (nt (dN T).natAbs)),.int .i64 (dE T)] rfl rfl (fM Hc.out) zy zx zo zo ?_;intro v' w7 dt eD _ fy;obtain⟨g',lF,rfl⟩:=ownsRow_succ dt);have agf:g'≠wo.heap.size:=by
        rcases fy with h|h
        . have:=hvb g' h.symm;omega
        . have h9:g'=W6.heap.size:=Option.some.inj h;omega
       have vD:some wo.heap.size≠v.ownBlock:=λe=>by have:=hvb _ e.symm;omega
       have DR:=Hy.out.grown eD vD;have jy:=(aJ (aJ aO.out jo.out) Hb.out).grown eD zo (λj e=>cJ cm j e);have e7:dC O++[.bool (ar (dN T)),.string (bs (nt (dN T).natAbs)),.int .i64 (dE T)]=dC (O++[T]):=by rw[qA];rfl
       rw[e7]at dt
       have hwo:=(by
        obtain⟨O',hO'⟩:=ZC.out;obtain⟨aa,ca,lN,nk,_⟩:=di dt;simp only[Value.slice.injEq,true_and]at lN;obtain⟨rfl,rfl⟩:=lN;rw[qC]at nk;obtain⟨b9,o9,e9,z0,z1,z2⟩:=nk.num 0 zm (show((O++[T]).map canon)[0]'zm=(ar (dN W0),nt (dN W0).natAbs,dE W0)by simp[hO'];rfl);simp only[Option.some.injEq,Addr.mk.injEq,and_true]at e9;obtain⟨rfl,rfl⟩:=e9;rw[Nat.zero_mul,Nat.zero_add]at z0 z1 z2
        exact fS z0 z1 z2:aV w7 g' 0 [.bool (ar (dN W0)),.string (bs (nt (dN W0).natAbs)),.int .i64 (dE W0)])
       have MA:=yl dt;obtain⟨BO,Bo⟩:=aL dt jy;have Ho:Hid (aV w7 g' 0 [.bool (ar (dN W0)),.string (bs (nt (dN W0).natAbs)),.int .i64 (dE W0)]):=hwo;have Jp:=ah (HT.out.below (aJ dM.out jy));replace Hy:Hid (ak w7 wo.heap.size 30 [.bool (ar (dN T)),.string (bs (nt (dN T).natAbs)),.int .i64 (dE T)]):=DR;clear P0 P1 P2 y0 y1 y2 c0 c1 c2 dt jy hwo DR fy vD e7 Hb Hc cm eD cM Bi;have Hb:Hid (Bw w7 w7):=Below.refl _ _;have NG:=mK (i+1+1) lF 0 0 (rfl:(some ⟨g',0,none⟩:Option Addr)=_) zo rfl;rw[Nat.zero_mul,Nat.add_zero]at NG;have o0:w7.cell? ⟨g',0,none⟩=some (.bool (ar (dN W0))):=Ho.out.cell 0 zm;have o1:w7.cell? ⟨g',1,none⟩=some (.string (bs (nt (dN W0).natAbs))):=Ho.out.cell 1 zm;have o2:w7.cell? ⟨g',2,none⟩=some (.int .i64 (dE W0)):=Ho.out.cell 2 zm;obtain⟨y0,y1,y2⟩:=Hy.out.c3;have HU:Hid (aF w7):=Jp.out;refine bJ (λw'=>w'.cell? ⟨g',0,none⟩=some (.bool (ar (dN W0)))/\w'.cell? ⟨g',1,none⟩=some (.string (bs (nt (dN W0).natAbs)))/\w'.cell? ⟨g',2,none⟩=some (.int .i64 (dE W0))/\w'.cell? ⟨wo.heap.size,0,none⟩=some (.bool (ar (dN T)))/\w'.cell? ⟨wo.heap.size,1,none⟩=some (.string (bs (nt (dN T).natAbs)))/\w'.cell? ⟨wo.heap.size,2,none⟩=some (.int .i64 (dE T))) (λi=>Nat.blt i 7) [(0,true),(1,true),(2,true),(3,true),(4,true),(5,false),(6,true),(7,false)] zk zk rfl zk zc ⟨o0,o1,o2,y0,y1,y2⟩ ?_;iterate 5 (refine pT rfl rfl ?_ (by intro w' ⟨q0,q1,q2,q3,q4,q5⟩;go_simp;try with_reducible rfl);try simp only[UU])
       refine aI rfl rfl (λK hK=>?_);go_simp;with_reducible refine(zq (ar (dN W0)) (nt (dN W0).natAbs) (dE W0) (ar (dN T)) (nt (dN T).natAbs) (dE T) Y (5*B+20) HY.out _ uF.out BC.out zo (by first|exact HU.out|exact aF.drew HU.out|exact aF.alloc HU.out _|exact aF.drew (aF.alloc HU.out _) |exact aF.alloc (aF.drew HU.out) _)).mono ?_
       rintro e w8 ⟨rfl,hq⟩;have ae:Bw w7 w8:=by first|exact hq|exact aM hq
       clear o0 o1 o2 y0 y1 y2;replace Ho:=kW Ho ae;replace Hy:=kB Hy ae;replace HU:=kT HU ae;have o0:w8.cell? ⟨g',0,none⟩=some (.bool (ar (dN W0))):=Ho.out.cell 0 zm;have o1:w8.cell? ⟨g',1,none⟩=some (.string (bs (nt (dN W0).natAbs))):=Ho.out.cell 1 zm;have o2:w8.cell? ⟨g',2,none⟩=some (.int .i64 (dE W0)):=Ho.out.cell 2 zm;obtain⟨y0,y1,y2⟩:=Hy.out.c3;replace Hb:=au Hb ae;clear ae;refine hK _ _ (λ_=>⟨o0,o1,o2,y0,y1,y2⟩) ?_;clear hK K;try simp only[UU]
       refine pT rfl rfl ?_;try simp only[UU]
       refine aI rfl rfl (λK hK=>?_);have dv:=ownsRow_below BO.out Hb.out;have jh:=mM dv 0;have iO:=mM dv 1;have oc:=mM dv 2;have gY:=aJ Bo.out Hb.out;obtain⟨iI,iV⟩:=aL dv gY;clear dv gY;go_simp;refine hK _ _ (λh=>absurd h zd) ?_;clear hK K;try simp only[UU]
       simp only[aU];go_wp2;go_roundw;case rel=>
        refine⟨i+1,_,by omega,by go_num,rfl,?_,?_⟩
        . have h:=SL (O++[T]) 0 Y;rw[tE.out]at h;rw[<-h];exact jL (jL (jL iI.out _ _) _ _) _ _
        . exact((iV.out.setCell MA.1 _).setCell MA.1 _).setCell MA.1 _
       case measure=>simp[intOf];omega
  . obtain rfl:i=n:=by omega
    rw[eH.out]at ho;obtain⟨ho',aO⟩:=aL ho (aJ dM.out pb);clear ho pb;go_wp2;obtain⟨a',c',e1,h1,h2⟩:=di ho'.out;subst e1;have hcc:i+1<=c':=by
     rcases ho'.out.2 with⟨h,h0⟩ |⟨g9,adw,ad9,h,_,_,h6,_⟩
     . omega
     . simp only[Value.slice.injEq,true_and]at h;omega
    exact bodyPost_ret (v:=.tuple #[.slice a' (i+1) c',.int .i64 0]) (by simp[results,Tryz.results22,go_sem]) rfl ⟨a',c',rfl,hcc,h1,aO.out⟩
def sH (ds:List Dyadic):Bool:=ds.all λd=>decide (0<=cw d)
theorem aiI (D:List Dyadic)(k:Nat)(hk:k<D.length)(h:sH (D.take k)=true)(h2:0<=cw D[k]):sH (D.take (k+1))=true:=by unfold sH at h⊢;rw[List.take_add_one,List.all_append,h];simp[hk,h2]
theorem aiH (D:List Dyadic)(k:Nat)(hk:k<D.length)(h2:¬0<=cw D[k]):sH D=false:=by unfold sH;rw[Bool.eq_false_iff];intro h;have:=List.all_eq_true.1 h _ (List.getElem_mem hk);simp at this;exact h2 this
theorem afZ (s x:Value)(D:List Dyadic)(B:Nat)(c:Int)(w:World)(hD:∀d∈D,Sm B d)(hB:B<=268435456)(hD6:D.length<=60)(hw:∀W,Bw w W->Calls Tryz.prog 22 #[s,x] W λe w'=>∃a' c',e=.returned (.tuple #[.slice a' D.length c',.int .i64 c])/\At w' a' (dC D)/\Bw W w'):
 Calls Tryz.prog 26 #[s,x] w λe w'=>e=.returned (.bool (sH D&&c==0))/\Bw w w':=by
 obtain⟨N,hN⟩:=aB D.length;rw[hN]at hw hD6;obtain⟨Hw,HN,HD⟩:=cL hw hN hD;clear hw hN hD;have Hb:Hid (Bw w w):=Below.refl _ _;go_enter Tryz.func26,Tryz.ntmps26;go_wp2_with fail;refine(Hw.out _ Hb.out).mono ?_;rintro e w1 ⟨a1,c1,rfl,hat,ae⟩;obtain⟨fc,bQ⟩:=aL hat (aJ Hb.out ae);clear ae hat Hb;go_wp2_with fail;go_loopw[17] (λu wr=>∃k:Nat,k<=N/\u=.int .i64 (k:Int)/\sH (D.take k)=true/\Bw w1 wr) (λu _=>N-(intOf u).toNat);case atStart=>exact⟨0,Nat.zero_le _,rfl,rfl,Below.refl _ _⟩
 case round=>
  obtain⟨k,hk,rfl,pn,pb⟩:=hrel;obtain⟨lA,aO⟩:=aL pn pb;clear pn;by_cases hlt:k<N
  . have ML:k<D.length:=by rw[HN.out];exact hlt
    have Vn:k<(D.map canon).length:=by rw[List.length_map];exact ML
    obtain⟨d,hd⟩:=aB (D[k]);have hat':=fc.out.below pb;rw[qC]at hat';obtain⟨bx,ox,rfl,p0,p1,p2⟩:=hat'.num k Vn (show(D.map canon)[k]=(ar (dN d),nt (dN d).natAbs,dE d)by rw[<-hd];simp;rfl);have WI:=mK N c1 k (k:Int) (rfl:(some ⟨bx,ox,none⟩:Option Addr)=_) hlt rfl;have il:∀W,Calls Tryz.prog 37 #[.agg #[.bool (ar (dN d)),.string (bs (nt (dN d).natAbs)),.int .i64 (dE d)]] W λex w'=>ex=.returned (.int .i64 (cw d))/\Bw W w':=λW=>nZ _ _ _ (cw d) (by show cw (az (canon d))=_;rw[bU]) W ((HD.out d (by rw[<-hd];exact List.getElem_mem _)).ok hB);obtain⟨Hd,jU⟩:=aL hd il;obtain⟨g,hg⟩:=aB (cw d);rw[hg]at jU;have Hg:=ah hg;have NH:bx<wr.heap.size:=World.block_lt_of_cell? wr _ p0;have Hb:Hid (Bw wr wr):=Below.refl _ _;clear hd il hg pb hat' Vn;have P0:=p0;have P1:=p1;have P2:=p2;obtain⟨W2,pz,ae,Hy⟩:=cN wr 30 [.bool (ar (dN d)),.string (bs (nt (dN d).natAbs)),.int .i64 (dE d)];obtain⟨y0,y1,y2⟩:=Hy.out.c3;replace Hb:=au Hb ae;clear ae;go_wp2_with fail;refine(jU.out _).mono ?_;rintro e w3 ⟨rfl,ae⟩;clear y0 y1 y2;replace Hy:=kB Hy ae;obtain⟨y0,y1,y2⟩:=Hy.out.c3;replace Hb:=au Hb ae;clear ae;have ey:=ah (aJ aO.out Hb.out);by_cases MB:g<0
    . go_wp2;go_ret;refine⟨by rw[aiH D k ML (by rw[Hd.out,Hg.out];omega)];rfl,aJ bQ.out ey.out⟩
    . go_wp2;go_roundw;case rel=>exact⟨k+1,by omega,by go_num,aiI D k ML lA.out (by rw[Hd.out,Hg.out];omega),ey.out⟩
      case measure=>simp[intOf];omega
  . obtain rfl:k=N:=by omega
    have hall:sH D=true:=by have:=lA.out;rwa [<-HN.out,List.take_length]at this
    have wF:=ah hall;clear hall pb;go_wp2;go_ret;exact⟨by rw[wF.out];rfl,aJ bQ.out aO.out⟩
theorem al6 {n B:Nat}{p:Nat->Nat->Dyadic}{x:Nat->Dyadic}(hn:1<=n)(cF:n<=4)(h:∀a b,a<=n->b<n->Sm B (p a b))(hx:∀b,b<n->Sm B (x b)):∀d∈rA n p x,Sm (5*B+20) d:=by
 intro d hd;unfold rA at hd;obtain⟨i,hi,rfl⟩:=List.mem_map.1 hd;rw[List.mem_range]at hi;rcases i with _|i
 . rw[<-Za n hn cF];exact(PN hn cF h hx n (Nat.le_refl _)).mono zo
 . exact(Ze hn cF h hx i zo).mono zo
theorem XN {n B:Nat}{rows:List (List Raw)}(hr:Rw n B rows)(a b:Nat)(ha:a<=n)(hb:b<n):Sm B (dR rows a b):=by have hL:=hr.1;rw[sN rows a b zo (by rw[hr.2.1 _ (List.getElem_mem _)];exact hb)];exact(hr.2.2 _ (List.getElem_mem _) _ (List.getElem_mem _)).2
theorem al8 {n B:Nat}{xs:List Raw}(hxl:xs.length=n)(vF:∀x∈xs,Fit B x)(b:Nat)(hb:b<n):Sm B (sV xs b):=by rw[PS xs b zo];exact(vF _ (List.getElem_mem _)).2
theorem afY (a:Option Addr)(cap m:Nat)(rows:List (List Raw))(B:Nat)(xa:Option Addr)(xc:Nat)(xs:List Raw)(w:World)(hm:m+1<=4)(hr:Rw (m+1) B rows)(hcap:m+1+1<=cap)(ha:aR w a rows)(hx:At w xa (xs.flatMap bo))(hxl:xs.length=m+1)(vF:∀x∈xs,Fit B x)(hB:B<=200000)(hT:aF w)(h0:jM rows=0):
 Calls Tryz.prog 26 #[.slice a (m+1+1) cap,.slice xa (m+1) xc] w λe w'=>e=.returned (.bool (sH (rA (m+1) (dR rows) (sV xs))))/\Bw w w':=by
 have h:=afZ (.slice a (m+1+1) cap) (.slice xa (m+1) xc) (rA (m+1) (dR rows) (sV xs)) (5*B+20) 0 w (al6 zo hm (XN hr) (al8 hxl vF)) zo (by simp[rA];omega) (λW hW=>by
  refine(Zb a cap m rows B xa xc xs W hm hr hcap (ha.below hW) (hx.below hW) hxl vF hB (hT.below hW) h0).mono ?_;rintro e w1 ⟨a1,c1,rfl,hc1,ht1,ae⟩
  exact⟨a1,c1,by simp[rA],ht1,ae⟩)
 simpa using h
end Go.Proofs.YtdaadlblknpipaaGreatDoor
