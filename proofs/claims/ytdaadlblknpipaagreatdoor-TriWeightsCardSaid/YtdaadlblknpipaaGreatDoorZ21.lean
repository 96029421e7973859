/- Package slices: Clone,Delete,over numbers. -/
import Derived.Test.YtdaadlblknpipaaGreatDoorZ13
import Derived.Lib.SliceRun
import Derived.Test.YtdaadlblknpipaaGreatDoorZ20
import Derived.Test.YtdaadlblknpipaaGreatDoorZ12
set_option linter.unusedVariables false
set_option linter.unusedSimpArgs false
set_option maxRecDepth 100000
set_option maxHeartbeats 16000000
namespace Go.Proofs.YtdaadlblknpipaaGreatDoor
open Go.RowKit
attribute [local go_sem ↓] Go.wp_at_zero Go.wp_at_succ
theorem ae4 (a:Option Addr)(n cap:Nat)(cz:List Raw)(w:World)(hn:cz.length=n)(hl:n<=1048576)(hs:a=none->n=0/\cap=0)(ha:At w a (cz.flatMap bA)):
 Calls Tryz.prog 162 #[.slice a n cap] w λe w'=>∃v',e=.returned v'/\w'.ownsRow w.heap.size 30 3 v' n (cz.flatMap bA)/\Bw w w':=by
 obtain⟨i0,hi,hz0,hz1,hz2⟩:=info_parts Tryz.aqU;have q:=λ(w:World) (a:Option Addr) (n c n' c':Nat)=>Lib.run_eql_slice_nil (P:=Tryz.prog) w 45 30 a n c n' c' Tryz.underlying45;have hlen:(cz.flatMap bA).length=n*3:=by rw[jW bA 3 (λ_=>rfl),hn]
 obtain⟨cs,hcs⟩:=aB (cz.flatMap bA);have h1:=Az cz;rw[hcs]at hlen ha h1⊢;obtain⟨nQ,Ha,H1,Hs,Hi,cN,cO,cH⟩:=oI hlen ha h1 hs hi hz0 hz1 hz2;clear hlen ha h1 hs hi hz0 hz1 hz2 hn hcs;cases a with
 |none=>obtain⟨hn0,hc⟩:=Hs.out rfl;subst hc;subst hn0;go_enter Tryz.func162,Tryz.ntmps162;go_wp2;go_ret;refine⟨_,rfl,?_,Below.refl _ _⟩;have e:cs=[]:=List.eq_nil_of_length_eq_zero (by have:=nQ.out;omega);rw[e];exact World.ownsRow_nil _ _ _ _
 |some ad=>go_enter Tryz.func162,Tryz.ntmps162;go_wp2_with (at_builtin;refine aaa rfl _ _ 45 rfl w.heap.size 30 i0 _ 3 32 Tryz.underlying45 Hi.out cN.out cO.out cH.out rfl zd _ 0 [] rfl (World.ownsRow_made w #[] 0 (Nat.le_refl _) (Nat.zero_le _) zm) (some ad) n cap cs rfl Hs.out nQ.out (Ha.out.below ((Below.refl _ w).alloc (Nat.le_refl _) _)) H1.out zx zo zm ?_;intro v' w1 hown hgrow fq);go_ret;refine⟨v',rfl,by simpa using hown,?_⟩;exact((Below.refl _ w).alloc (Nat.le_refl _) _).grown hgrow zm (λk hk=>by have h9:w.heap.size=k:=Option.some.inj hk;omega)
theorem Tryz.aq7 (w:World):(zeroValue 30).run Tryz.prog w=.ok (.agg #[.bool false,.string ⟨#[]⟩,.int .i64 0]) w:=by kernel_rfl
theorem af6 {α:Type}(f:α->List Value)(sz:Nat)(hf:∀x,(f x).length=sz)(xs:List α)(i:Nat)(hi:i<xs.length):(xs.eraseIdx i).flatMap f=(xs.flatMap f).take (i*sz)++(xs.flatMap f).drop ((i+1) *sz):=by
 have e:xs=xs.take i++xs[i]::xs.drop (i+1):=by rw[List.getElem_cons_drop,List.take_append_drop]
 have hl:((xs.take i).flatMap f).length=i*sz:=by rw[jW f sz hf,List.length_take,Nat.min_eq_left zo]
 have e1:xs.flatMap f=(xs.take i).flatMap f++(f xs[i]++(xs.drop (i+1)).flatMap f):=by
  conv=>lhs;rw[e]
  rw[List.flatMap_append,List.flatMap_cons]
 rw[e1,List.take_left' hl,List.drop_append,hl,List.drop_of_length_le (by rw[hl,Nat.add_mul];omega)];rw[show(i+1) *sz-i*sz=sz by rw[Nat.add_mul,Nat.one_mul];omega,List.nil_append,List.drop_left' (hf _),List.eraseIdx_eq_take_drop_succ,List.flatMap_append]
theorem afw (g m cap i base:Nat)(cz:List Raw)(w:World)(hn:cz.length=m+1)(hl:m<=1048576)(hi:i<=m)
 (ho:w.ownsRow base 30 3 (.slice (some ⟨g,0,none⟩) (m+1) cap) (m+1) (cz.flatMap bA)):
 Calls Tryz.prog 161 #[.slice (some ⟨g,0,none⟩) (m+1) cap,.int .i64 (i:Int),.int .i64 ((i+1:Nat):Int)] w λe w'=>e=.returned (.slice (some ⟨g,0,none⟩) m cap)/\
  w'.ownsRow base 30 3 (.slice (some ⟨g,0,none⟩) m cap) m ((cz.eraseIdx i).flatMap bA)/\w.grownBy w' (some g):=by
 obtain⟨i0,hi0,hz0,hz1,hz2⟩:=info_parts Tryz.aqU;have hcap:m+1<=cap:=(sD ho).1;have hcm:cap<=9223372036854775807:=by
  rcases ho.2 with⟨h1,_⟩ |⟨g',cap',cur,h1,hb,hg,h4,h5,_⟩
  . simp at h1
  . simp only[Value.slice.injEq]at h1;obtain⟨_,_,rfl⟩:=h1;unfold maxLen at h5;omega
 have GR:=af6 bA 3 (λ_=>rfl) cz i zo;have hlen:(cz.flatMap bA).length=(m+1) *3:=by rw[jW bA 3 (λ_=>rfl),hn]
 have h1:=Az cz;obtain⟨cs,hcs⟩:=aB (cz.flatMap bA);obtain⟨rs,hrs⟩:=aB ((cz.eraseIdx i).flatMap bA);rw[hcs]at hlen ho h1 GR;rw[hrs]at GR⊢;have Ah:=Yr ho i zo;obtain⟨ad,had⟩:=aB (if cap=i+1 then(⟨g,0,none⟩:Addr)else⟨g,(i+1) *3,none⟩);have hsl:(if cap=i+1 then some (⟨g,0,none⟩:Addr)else some ⟨g,(i+1) *3,none⟩)=some ad:=by rw[<-had];split<;>rfl
 have hnews:Hid (∀j u,(cs.drop ((i+1) *3))[j]?=some u->w.drew.cell? (ad.add j)=some u):=by
  intro j u hj;rw[List.getElem?_drop]at hj;have hlt:=(List.getElem?_eq_some_iff.1 hj).1;have GK:¬cap=i+1:=by omega
  rw[if_neg GK]at had;subst had;have e2:((⟨g,(i+1) *3,none⟩:Addr).add j)=⟨g,(i+1) *3+j,none⟩:=by unfold Addr.add;cases j<;>simp
  rw[e2];have:=ho.cells (g:=g) rfl ((i+1) *3+j) u hj;have e3:((⟨g,0,none⟩:Addr).add ((i+1) *3+j))=⟨g,(i+1) *3+j,none⟩:=by unfold Addr.add;split<;>simp;omega
  rw[e3]at this;exact this
 have hnl:Hid ((cs.drop ((i+1) *3)).length=(m-i) *3):=by show _=_;rw[List.length_drop,hlen];omega
 have fh:Hid (∀u∈cs.drop ((i+1) *3),u.oneCell'=true):=λu hu=>h1 u (List.mem_of_mem_drop hu);have RG:Hid (w.drew.ownsRow base 30 3 (.slice (some ⟨g,0,none⟩) i cap) i (cs.take (i*3))):=Ah;obtain⟨abw,ab6,Ko,zh,Hi,cO⟩:=gF GR hnews.out hnl.out fh.out hi0 hz1;have z:=Tryz.aq7;clear hnews hnl fh ho Ah hlen h1 GR hcs hrs hn hi0 hz0 hz1 hz2;have hw1:IntKind.i64.wrap ((i:Int)+1)=((i+1:Nat):Int):=by rw[IntKind.wrap_i64];omega
 have hne:((i:Int)==((i+1:Nat):Int))=false:=by simp;omega
 have hcm2:¬cap=m:=by omega
 have tK:i+1<=m+1:=by omega
 have hmc:i+1<=cap:=by omega
 have hic:i<=cap:=by omega
 have h0i:(0:Int)<=(i:Int)+1:=by omega
 clear had;go_enter Tryz.func161,Tryz.ntmps161;go_wp2_with fail;have Hb:Hid (Bw w w):=Below.refl _ _;refine bM (λw'=>True) (λi=>Nat.blt i 100000) [(0,true),(1,true),(2,true),(3,true),(4,true),(5,true),(6,false),(7,true)] zk zk rfl zk zc True.intro ?_;iterate 6 (refine pT rfl rfl ?_;try simp only[UU])
 refine aI rfl rfl (λK hK=>?_);refine wp_append_own_spare _ _ _ 45 rfl base 30 i0 3 Tryz.underlying45 Hi.out cO.out g i cap (cs.take (i*3)) rfl RG.out ad (m-i) (cap-(i+1)) (cs.drop ((i+1) *3)) rfl Ko.out ab6.out zh.out zo ?_;intro w1 dv hg1;refine hK _ _ (λ_=>True.intro) ?_;clear hK K;try simp only[UU]
 refine pT rfl rfl ?_;try simp only[Act.put,U1,U2]
 simp only[aZ];have e9:i+(m-i)=m:=by omega
 rw[e9,<-abw.out]at dv;obtain⟨w2,hcl,dP,hg2⟩:=YY w1 45 30 _ 3 Tryz.underlying45 Tryz.aq7 rfl (by intro v hv;simp[Value.cells]at hv;rcases hv with rfl|rfl|rfl<;>rfl) g m 1 cap (cap-m) base rs dv zo;have sY:=ah dP;have Hg2:Hid (w.grownBy w2 (some g)):=grownBy_trans ⟨hg1.os,hg1.tape,hg1.output,hg1.size,hg1.block⟩ hg2;clear dv hg1 dP hg2 RG hsl;go_wp2;go_ret;exact⟨rfl,sY.out,Hg2.out⟩
theorem TB (l:List Dyadic)(c:Nat):(l.map canon).eraseIdx c=(l.eraseIdx c).map canon:=by apply List.ext_getElem?;intro i;rw[List.getElem?_eraseIdx,List.getElem?_map,List.getElem?_map,List.getElem?_map,List.getElem?_eraseIdx];split<;>rfl
theorem ank (a:Option Addr)(cap m r c:Nat)(R:List (List Dyadic))(w:World)(hL:R.length=m+1)(hrow:∀x∈R,x.length=m+1)(hr:r<=m)(hc:c<=m)(hm:m<=7)(ha:bo w a (R.map λx=>x.map canon)):
 Calls Tryz.prog 133 #[.slice a (m+1) cap,.int .i64 (r:Int),.int .i64 (c:Int)] w λe w'=>∃a' c',e=.returned (.slice a' m c')/\m<=c'/\bo w' a' ((ig R r c).map λx=>x.map canon)/\Bw w w':=by
 obtain⟨j0,hj,hy0,hy1,hy2⟩:=info_parts Tryz.aqY;obtain⟨S,hS⟩:=aB (ig R r c);have fZ:=Ef R r c m hL hr;have nZ:=Om R r c m hrow hc;have Mq:=Ol R r c m hL hr;rw[hS]at fZ nZ Mq⊢;have mK:∀(W:World) (k:Nat) (hk:k<m+1),Bw w W->∃b o a1 c1,∃x:List Dyadic,R.getD k []=x/\x.length=m+1/\a=some ⟨b,o,none⟩/\W.cell? ⟨b,o+k,none⟩=some (.slice (some a1) (m+1) c1)/\At W (some a1) ((x.map canon).flatMap bA):=by
  intro W k hk hb;have VQ:k<R.length:=by omega
  obtain⟨b,o,a1,c1,h1,h2,h3⟩:=(ha.below hb).row k (by simp[hL];omega);have e1:(R.map λx=>x.map canon)[k]'(by simp[hL];omega)=R[k].map canon:=by simp
  have hxl:=hrow _ (List.getElem_mem VQ);rw[e1]at h2 h3;rw[List.length_map,hxl]at h2;cases a1 with
  | none=>
    rcases h3 with h3|⟨_,_,h3,_⟩
    . have:=congrArg List.length h3;rw[jW bA 3 (λ_=>rfl),List.length_map,hxl]at this;simp at this
    . cases h3
  |some a1=>exact⟨b,o,a1,c1,R[k],by simp[List.getD_eq_getElem?_getD,VQ],hxl,h1,h2,h3⟩
 obtain⟨Hj,ir,jd,je,Bo,HSr,aaN,uG⟩:=oI hj hy0 hy1 hy2 fZ nZ Mq mK;clear hj hy0 hy1 hy2 fZ nZ Mq mK hS ha hL hrow;have Hb:Hid (Bw w w):=Below.refl _ _;go_enter Tryz.func133,Tryz.ntmps133;go_wp2_with fail;go_loopw[7,12] (λs7 x wr=>∃(k:Nat) (v:Value),k<=m+1/\x=.int .i64 (k:Int)/\v=s7/\Own2 45 wr w.heap.size S (if k<=r then k else k-1) v/\Bw w wr) (λ_ x _=>m+1-(intOf x).toNat);case atStart=>exact⟨0,_,Nat.zero_le _,rfl,rfl,by rw[if_pos (Nat.zero_le _)];exact Own2.nil _ _ _ _,Hb.out⟩
 case round=>
  clear Hb;obtain⟨k,v,hk,rfl,rfl,pv,pb⟩:=hrel;by_cases hlt:k<m+1
  . obtain⟨b,o,a1,c1,x,jM,hxl,rfl,hc1,hat⟩:=uG.out wr k hlt pb;have bE:=tZ (m+1) cap k (k:Int) (rfl:(some ⟨b,o,none⟩:Option Addr)=_) hlt rfl;rw[Nat.mul_one]at bE;by_cases hkr:k=r
    . subst hkr;obtain⟨dx,aQ⟩:=aM pv pb;clear pv pb jM hxl hat;have h3:((k:Int) !=(k:Int))=false:=by simp
      go_wp2;go_roundw;case rel=>exact⟨k+1,v,by omega,by go_num,rfl,by have h:=dx.out;rw[if_pos (Nat.le_refl _)]at h;rw[if_neg zo];exact h,aQ.out⟩
      case measure=>simp[intOf];omega
    . have h3:((k:Int) !=(r:Int))=true:=by simp;omega
      have h4:¬(k:Int)=(r:Int):=by omega
      obtain⟨j,hj⟩:=aB (if k<=r then k else k-1);have nC:(if k+1<=r then k+1 else k+1-1)=j+1:=by rw[<-hj];split<;>split<;>omega
      have hjm:j<m:=by rw[<-hj];split<;>omega
      have VL:(if j<r then j else j+1)=k:=by rw[<-hj];split<;>split<;>omega
      have xG:S.getD j []=x.eraseIdx c:=by rw[aaN.out j hjm,VL,jM]
      rw[hj]at pv;obtain⟨Z,hZ⟩:=aB (x.eraseIdx c);have nu:Z.length=m:=by rw[<-hZ,List.length_eraseIdx_of_lt zo];omega
      rw[hZ]at xG
      -- the row,without its number
      have Vl:∀W,Bw wr W->Calls Tryz.prog 162 #[.slice (some a1) (m+1) c1] W λe w'=>∃g cc,e=.returned (.slice (some ⟨g,0,none⟩) (m+1) cc)/\(wr.heap.size<=g/\∀W',Bw wr W'->w'=W'->Calls Tryz.prog 161 #[.slice (some ⟨g,0,none⟩) (m+1) cc,.int .i64 (c:Int),.int .i64 ((c:Int)+1)] W' λe w''=>e=.returned (.slice (some ⟨g,0,none⟩) m cc)/\w''.ownsRow wr.heap.size 30 3 (.slice (some ⟨g,0,none⟩) m cc) m (dC Z)/\Bw wr w'')/\Bw W w':=by intro W hW;refine(ae4 (some a1) (m+1) c1 (x.map canon) W (by rw[List.length_map,hxl]) zo (λe=>by cases e) (hat.below hW)).mono ?_;rintro e w' ⟨v',rfl,ho,hb⟩;obtain⟨g,cc,rfl,hg1,hg2,hg3⟩:=AJ ho zo;have hsz:=hW.size;refine⟨g,cc,rfl,⟨by omega,λW' hW' e=>?_⟩,hb⟩;subst e;have hd:=afw g m cc c wr.heap.size (x.map canon) w' (by rw[List.length_map,hxl]) zo hc (pY ho zo);rw[show((c+1:Nat):Int)=(c:Int)+1 by omega]at hd;refine hd.mono ?_;rintro e w'' ⟨rfl,dP,hg⟩;rw[TB,hZ,<-pq]at dP;exact⟨rfl,dP,hW'.grown hg hW'.size (λi e=>by have h9:g=i:=Option.some.inj e;omega)⟩
      obtain⟨QV,EY,mh,dx,aQ,BO⟩:=gF Vl xG nu pv pb nC;clear Vl xG nu hZ pv pb nC VL hj jM hxl hat;have gm:=aQ.out.size;have hwc:IntKind.i64.wrap ((c:Int)+1)=((c+1:Nat):Int):=by rw[IntKind.wrap_i64];omega
      have GK:(c:Int)+1=((c+1:Nat):Int):=by omega
      obtain⟨KQ,Hci⟩:=aM hwc GK;clear hwc GK;go_wp2_with fail;refine(QV.out _ (Below.refl _ _)).mono ?_;rintro e w4 ⟨g,cc,rfl,⟨hg1,hdel⟩,hb4⟩;have Ra:=ah (hdel w4 hb4 rfl);clear hdel hc1 bE;go_wp2_with fail;refine Ra.out.mono ?_;rintro e w5 ⟨rfl,Np,dA⟩;have gb:=Np.lt;obtain⟨a2,c2,MM,iK,_⟩:=dG Np;simp only[Value.slice.injEq,true_and]at MM;obtain⟨rfl,rfl⟩:=MM;obtain⟨vals,hvl,hov,jh⟩:=dx.out.below dA;obtain⟨_,_,nE,_⟩:=dx.out;have hvs:=nE.lt;have hin:∀b o,(some ⟨g,0,none⟩:Option Addr)=some ⟨b,o,none⟩->some b≠v.ownBlock/\b<w5.heap.size:=by intro b o e;simp only[Option.some.injEq,Addr.mk.injEq,and_true]at e;obtain⟨rfl,rfl⟩:=e;have h1:=gb g rfl;refine⟨λh2=>?_,h1.2⟩;have h3:=hvs g h2.symm;omega
      obtain⟨mW,nP,jF,qA,cM,fB⟩:=gF hin iK hvl jh hov (aK aQ.out dA);have PN:=dA.size;clear hin iK hvl jh hov nE hvs gb Np dA hb4 Ra QV hg1;have Hb:Hid (Bw w5 w5):=Below.refl _ _;obtain⟨W6,od,ae,Hd⟩:=cS w5 45 [.slice (some ⟨g,0,none⟩) m cc];have d0:=Hd.out.c1;replace Hb:=az Hb ae;clear ae;have cG:=ownsRow_below cM.out Hb.out;have iz:=Hb.out.size;have hnews:∀i u,([.slice (some ⟨g,0,none⟩) m cc]:List Value)[i]?=some u->W6.cell? ((⟨w5.heap.size,0,none⟩:Addr).add i)=some u:=fX Hd.out;clear d0;go_wp2_with (at_builtin;refine wpList_append_own_at _ rfl _ _ 78 rfl w.heap.size 45 j0 _ 1 24 Tryz.underlying78 Hj.out ir.out jd.out je.out rfl zd v j vals rfl cG ⟨w5.heap.size,0,none⟩ 1 1 [.slice (some ⟨g,0,none⟩) m cc] rfl rfl hnews zy zx zo zo ?_;intro v' w7 dQ eT _ fq;obtain⟨g',lC,rfl⟩:=ownsRow_succ dQ);go_roundw;case rel=>
       refine⟨k+1,_,by omega,by go_num,rfl,?_,?_⟩
       . rw[BO.out];refine Own2.push (a:=some ⟨g,0,none⟩) (c:=cc) jF.out (w:=W6) ?_ ?_ ?_ ?_ eT fq
         . intro i h;obtain⟨a,c,h1,h2,h3⟩:=qA.out i h;exact⟨a,c,h1,h2.below Hb.out,λb o e=>⟨(h3 b o e).1,Nat.lt_of_lt_of_le (h3 b o e).2 iz⟩⟩
         . rw[EY.out];exact nP.out.below Hb.out
         . exact λb o e=>⟨(mW.out b o e).1,Nat.lt_of_lt_of_le (mW.out b o e).2 iz⟩
         . rw[EY.out,mh.out];exact dQ
       . exact(aK fB.out Hb.out).grown eT zo (λj e=>cZ cG j e)
      case measure=>simp[intOf];omega
  . obtain rfl:k=m+1:=by omega
    rw[if_neg zo,Nat.add_sub_cancel]at pv;obtain⟨a2,c2,rfl,hcl,jA⟩:=Own2.aq4 pv Bo.out;obtain⟨oZ,aQ⟩:=aM jA pb;clear pv pb jA;go_wp2;refine bodyPost_ret (results_tmp rfl _ _ _) rfl ⟨a2,c2,rfl,hcl,oZ.out,aQ.out⟩
theorem aef (a:Option Addr)(c:Nat)(w:World):Calls Tryz.prog 88 #[.slice a 0 c] w λe w'=>e=.returned (cW 1)/\Bw w w':=by
 have Hb:Hid (Bw w w):=Below.refl _ _;go_enter Tryz.func88,Tryz.ntmps88;go_wp2_with fail;obtain⟨R,hR⟩:∃R:World->Prop,(λW=>ak W (w.heap.size) 28 [.bool false,.string ⟨#[]⟩]/\Bw w W)=R:=⟨_,rfl⟩;first|refine bN R ?hR ?_|refine bL R ?hR ?_
 case hR=>subst hR;exact⟨(ak.newAt w _ _ (b:=w.heap.size) rfl),zl⟩
 subst hR;rintro W ⟨qr,ae⟩;have Hr:=ah qr;clear qr;obtain⟨r0,ai,r1,aj⟩:=Hr.out.g2;replace Hb:=az Hb ae;clear ae;go_wp2_with fail;refine(PX 1 _ zd zd).mono ?_;rintro e w1 ⟨rfl,ae⟩;clear r0 ai r1 aj;replace Hr:=kB Hr ae;obtain⟨r0,ai,r1,aj⟩:=Hr.out.g2;replace Hb:=az Hb ae;clear ae;have ym:=Hr.out.lt;obtain⟨W2,mH,ae,Hl⟩:=cS w1 28 [.bool (ar 1),.string (bs (nt 1))];clear r0 ai r1 aj;replace Hr:=kB Hr ae;obtain⟨r0,ai,r1,aj⟩:=Hr.out.g2;obtain⟨l0,l1⟩:=Hl.out.c2;replace Hb:=az Hb ae;clear ae;go_wp2_with fail;go_loop [5,15] (λt x=>t=.bool false/\x=.int .i64 0) (λ_ _=>0)
 case atStart=>exact⟨rfl,rfl⟩
 case round=>obtain⟨rfl,rfl⟩:=hrel;go_wp2;clear r0 ai r1 aj l0 l1;refine fy (bK W2 (w.heap.size) 0 [.bool (ar 1),.string (bs (nt 1))]) bV ?_;intro w9 hs;replace Hr:=cF Hr hs;replace Hl:=kS Hl hs zo;obtain⟨r0,ai,r1,aj⟩:=Hr.out.g2;obtain⟨l0,l1⟩:=Hl.out.c2;replace Hb:=bS Hb hs ZS;clear hs;refine bodyPost_ret (v:=cW 1) (by simp[results,Tryz.results88,go_sem,r0,r1]) rfl ⟨rfl,Hb.out⟩
theorem afD (a:Option Addr)(cap:Nat)(w:World)(ha:bo w a [])(hT:aF w):Calls Tryz.prog 45 #[.slice a 0 cap] w λe w'=>e=.returned (.tuple #[bH 1,.int .i64 0])/\Bw w w':=by
 obtain⟨O,hO⟩:∃O:Dyadic,(1:Dyadic)=O:=⟨_,rfl⟩;have hch:=λW=>λ(h:bo W a [])=>Oj a 0 cap [] W rfl zo h;rw[show ue []=0 from rfl]at hch;have hsc:=λW=>λ(h:bo W a []) (hT:aF W)=>Zd a 0 cap 0 [] 1 0 W rfl zo zo (λr hr=>by cases hr) h (λr hr=>by cases hr) zo hT rfl;have hmk:=λW=>λ(hT:aF W)=>vP (ar 1) (nt (1:Int).natAbs) 0 O (by rw[<-hO];rfl) W zd zd hT;rw[hO];obtain⟨JL,gM,mY,Ha,HT⟩:=fC hch hsc hmk ha hT;clear hch hsc hmk ha hT hO;have Hb:Hid (Bw w w):=Below.refl _ _;go_enter Tryz.func45,Tryz.ntmps45;go_wp2_with fail;obtain⟨R,hR⟩:∃R:World->Prop,(λW=>ak W (w.heap.size) 30 [.bool false,.string ⟨#[]⟩,.int .i64 0]/\Bw w W)=R:=⟨_,rfl⟩;first|refine bN R ?hR ?_|refine bL R ?hR ?_
 case hR=>subst hR;exact⟨(ak.newAt w _ _ (b:=w.heap.size) rfl),zl⟩
 subst hR;rintro W ⟨qr,ae⟩;have Hr:=ah qr;clear qr;obtain⟨r0,ai,r1,aj,r2,aG⟩:=Hr.out.g3;replace Hb:=az Hb ae;clear ae;have HA:Hid (bo W a []):=Ha.out.below Hb.out;have HU:Hid (aF W):=HT.out.below Hb.out;go_wp2_with fail;refine(JL.out _ HA.out).mono ?_;rintro e w1 ⟨rfl,ae⟩;clear r0 ai r1 aj r2 aG;replace Hr:=kB Hr ae;replace HA:=kL HA ae;replace HU:=kT HU ae;obtain⟨r0,ai,r1,aj,r2,aG⟩:=Hr.out.g3;replace Hb:=az Hb ae;clear ae;go_wp2_with fail;refine(gM.out _ HA.out HU.out).mono ?_;rintro e w2 ⟨v,rfl,hO,ae⟩;clear r0 ai r1 aj r2 aG;replace Hr:=kB Hr ae;replace HA:=kL HA ae;replace HU:=kT HU ae;obtain⟨r0,ai,r1,aj,r2,aG⟩:=Hr.out.g3;replace Hb:=az Hb ae;clear ae;obtain⟨vals,_,ho,_⟩:=hO;obtain⟨a2,c2,rfl,_,_⟩:=dG ho;clear ho;go_wp2_with fail;refine(aef a2 c2 _).mono ?_;rintro e w3 ⟨rfl,ae⟩;clear r0 ai r1 aj r2 aG;replace Hr:=kB Hr ae;replace HA:=kL HA ae;replace HU:=kT HU ae;obtain⟨r0,ai,r1,aj,r2,aG⟩:=Hr.out.g3;replace Hb:=az Hb ae;clear ae;go_wp2_with fail;refine(mY.out _ HU.out).mono ?_;rintro e w4 ⟨rfl,ae⟩;clear r0 ai r1 aj r2 aG;replace Hr:=kB Hr ae;replace HA:=kL HA ae;replace HU:=kT HU ae;obtain⟨r0,ai,r1,aj,r2,aG⟩:=Hr.out.g3;replace Hb:=az Hb ae;clear ae;go_wp2;clear r0 ai r1 aj r2 aG;refine fy (bK w4 (w.heap.size) 0 [.bool (ar (dN O)),.string (bs (nt (dN O).natAbs)),.int .i64 (dE O)]) bV ?_;intro w9 hs;replace Hr:=cF Hr hs;obtain⟨r0,ai,r1,aj,r2,aG⟩:=Hr.out.g3;replace Hb:=bS Hb hs ZS;clear hs;refine bodyPost_ret (v:=.tuple #[bH O,.int .i64 0]) (by simp[results,Tryz.results45,go_sem,r0,r1,r2]) rfl ⟨rfl,Hb.out⟩
theorem SL (R:List (List Dyadic)):((R.map λr=>r.map canon).map λr=>r.map aC)=R:=by
 rw[List.map_map];have:((λr:List Raw=>r.map aC)∘λr:List Dyadic=>r.map canon)=id:=by
  funext r
  show(r.map canon).map aC=r
  rw[List.map_map];have:(aC∘canon)=id:=funext bP;rw[this];simp
 rw[this];simp
theorem ajz (a':Option Addr)(c' m r c:Nat)(R:List (List Dyadic))(B:Nat)(w:World)(hL:R.length=m+1)(hrow:∀x∈R,x.length=m+1)(hr:r<=m)(hc:c<=m)(hm:m<=4)(hsm:∀x∈R,∀d∈x,Sm B d)(bT:1<=B)(hB:B<=1000000)(ht:bo w a' ((ig R r c).map λx=>x.map canon))(hT:aF w):
 Calls Tryz.prog 45 #[.slice a' m c'] w λe w'=>e=.returned (.tuple #[bH (cm m (fS (bG R) r c)),.int .i64 0])/\Bw w w':=by
 have hl:=Ef R r c m hL hr;by_cases h0:m=0
 . subst h0;have e:ig R r c=[]:=List.eq_nil_of_length_eq_zero hl;rw[e]at ht;exact afD a' c' w ht hT
 . refine LA a' c' m ((ig R r c).map λx=>x.map canon) B (ig R r c) _ w zo hm (by rw[List.length_map,hl]) (λx hx=>?_) ht (λx hx y hy=>?_) bT hB hT (SL _) (XV R r c m hL hrow hr hc hm)
   . obtain⟨z,hz,rfl⟩:=List.mem_map.1 hx;rw[List.length_map];exact Om R r c m hrow hc z hz
   . obtain⟨z,hz,rfl⟩:=List.mem_map.1 hx;obtain⟨d,hd,rfl⟩:=List.mem_map.1 hy;exact(XW hsm r c z hz d hd).fit zo
theorem aeu (s:Nat)(h:s<=8):bits BinOp.and IntKind.i64 (s:Int) 1=((s%2:Nat):Int):=by
 have hc:s=0\/s=1\/s=2\/s=3\/s=4\/s=5\/s=6\/s=7\/s=8:=by omega
 rcases hc with rfl|rfl|rfl|rfl|rfl|rfl|rfl|rfl|rfl<;>rfl
theorem adC (a:Option Addr)(cap m:Nat)(R:List (List Dyadic))(B:Nat)(w:World)(hm:m+1<=4)(hL:R.length=m+1)(hrow:∀x∈R,x.length=m+1)(hsm:∀x∈R,∀d∈x,Sm B d)(bT:1<=B)(hB:B<=1000000)(ha:bo w a (R.map λx=>x.map canon))(hT:aF w):
 Calls Tryz.prog 92 #[.slice a (m+1) cap] w λe w'=>∃v,e=.returned (.tuple #[v,.int .i64 0])/\fM w' w.heap.size (m+1) (qD (m+1) (bG R)) (m+1) v/\Bw w w':=by
 obtain⟨i0,hi,hz0,hz1,hz2⟩:=info_parts Tryz.aqU;obtain⟨j0,hj,hy0,hy1,hy2⟩:=info_parts Tryz.aqY;have ez:=λW (hW:Bw w W)=>Oj a (m+1) cap (R.map λx=>x.map canon) W (by rw[List.length_map,hL]) zo (ha.below hW);have hm0:ue (R.map λx=>x.map canon)=0:=by
  unfold ue;rw[if_neg];rintro(h|h)
  . rw[List.length_map]at h;omega
  . rw[List.any_eq_true]at h;obtain⟨r,hr,h⟩:=h;obtain⟨z,hz,rfl⟩:=List.mem_map.1 hr;have:=hrow z hz;simp at h;omega
 rw[hm0]at ez;have hwo:=λr c (hr:r<=m) (hc:c<=m) W (hW:Bw w W)=>ank a cap m r c R W hL hrow hr hc zo (ha.below hW);have jz:=λr c (hr:r<=m) (hc:c<=m) W (hW:Bw w W) a' c' (ht:bo W a' ((ig R r c).map λx=>x.map canon))=>ajz a' c' m r c R B W hL hrow hr hc zo hsm bT hB ht (hT.below hW);have hds:∀r c,r<=m->c<=m->Sm (4*B+6) (cm m (fS (bG R) r c)):=by
  intro r c hr hc;refine zO zo (λi j hi hj=>?_);have hk:(if i<r then i else i+1)<R.length:=by split<;>omega
  have hl:=hrow _ (List.getElem_mem hk);have hk2:(if j<c then j else j+1)<R[if i<r then i else i+1].length:=by rw[hl];split<;>omega
  have e:fS (bG R) r c i j=R[if i<r then i else i+1][if j<c then j else j+1]:=by
   show(R.getD (if i<r then i else i+1) []).getD (if j<c then j else j+1) 0=_
   rw[List.getD_eq_getElem?_getD (l:=R),List.getElem?_eq_getElem hk,Option.getD_some,List.getD_eq_getElem?_getD,List.getElem?_eq_getElem hk2];rfl
  rw[e];exact hsm _ (List.getElem_mem hk) _ (List.getElem_mem hk2)
 obtain⟨f,hf⟩:=aB (bG R);rw[hf]at jz hds⊢;have LQ:=λi (h:i<m+1)=>Sz (m+1) f i h;obtain⟨A,hA⟩:=aB (qD (m+1) f);rw[hA]at LQ⊢;obtain⟨Hi,cN,cO,cH,Hj,ir,jd,je,jU,Hwo,wM,Hds⟩:=gh hi hz0 hz1 hz2 hj hy0 hy1 hy2 ez hwo jz hds;obtain⟨HT,aah⟩:=aM hT LQ;clear hi hz0 hz1 hz2 hj hy0 hy1 hy2 ez hwo jz hds hT LQ hA hf hm0 ha hsm hrow hL;have Hb:Hid (Bw w w):=Below.refl _ _;go_enter Tryz.func92,Tryz.ntmps92;go_wp2_with fail;refine(jU.out _ Hb.out).mono ?_;rintro e w1 ⟨rfl,ae⟩;replace Hb:=az Hb ae;clear ae;go_wp2_with fail;go_loopw[5,18] (λs5 x wr=>∃(k:Nat) (v:Value),k<=m+1/\x=.int .i64 (k:Int)/\v=s5/\fM wr w.heap.size (m+1) A k v/\Bw w wr) (λ_ x _=>m+1-(intOf x).toNat);case atStart=>exact⟨0,_,Nat.zero_le _,rfl,rfl,fM.nil _ _ _ _,Hb.out⟩
 case round=>
  clear Hb;obtain⟨k,v,hk,rfl,rfl,pv,pb⟩:=hrel;obtain⟨dx,aQ⟩:=aM pv pb;clear pv pb;by_cases hlt:k<m+1
  . obtain⟨Z,hZ⟩:=aB ((List.range (m+1)).map λb=>kF (m+1) f k b);have uv:Hid (A.getD k []=Z):=by show _=_;rw[aah.out k hlt,hZ]
    have mh:Hid (Z.length=m+1):=by show _=_;rw[<-hZ];simp
    have HZa:Hid (∀j (h:j<m+1),Z.take (j+1)=Z.take j++[kF (m+1) f k j]):=by intro j h;rw[List.take_succ_eq_append_getElem (by rw[mh.out];exact h)];congr 2;simp[<-hZ]
    clear hZ;obtain⟨wq,hwc⟩:∃wq,wq=wr:=⟨_,rfl⟩;subst hwc;have gm:=aQ.out.size;have lH:decide ((k:Int)<(m:Int)+1)=true:=by simp;omega
    go_wp2_with fail;clear lH;go_loopw[7,23] (λs7 x wr=>∃(j:Nat) (v2:Value),j<=m+1/\x=.int .i64 (j:Int)/\v2=s7/\wr.ownsRow wq.heap.size 30 3 v2 j (dC (Z.take j))/\Bw wq wr) (λ_ x _=>m+1-(intOf x).toNat);case atStart=>exact⟨0,_,Nat.zero_le _,rfl,rfl,World.ownsRow_nil _ _ _ _,Below.refl _ _⟩
    case round=>
     obtain⟨j,v2,hj,rfl,rfl,ho,hb2⟩:=hrel;obtain⟨Ho,bQ⟩:=aM ho hb2;have PP:=hb2.size;clear ho hb2;by_cases bj:j<m+1
     . obtain⟨X,hX⟩:=aB (cm m (fS f j k));obtain⟨Y,hY⟩:=aB (kF (m+1) f k j);have xI:Y=if(k+j)%2=1 then-X else X:=by rw[<-hY,<-hX];rfl
       have fA:=Hds.out j k zo zo;rw[hX]at fA;have hst:dC (Z.take (j+1))=dC (Z.take j)++[.bool (ar (dN Y)),.string (bs (nt (dN Y).natAbs)),.int .i64 (dE Y)]:=by rw[HZa.out j bj,hY,rN];rfl
       have dt:=aK aQ.out bQ.out;have hd:=λW hW a' c' ht=>wM.out j k zo zo W hW a' c' ht;rw[hX]at hd;obtain⟨Hd,cE,yR⟩:=cX hd hst xI;have QL:Hid (Ok (canon X)):=fA.ok zo;have gL:=ah dt;clear hd hst xI hX hY fA dt;have Hb:Hid (Bw wr wr):=Below.refl _ _;go_wp2_with fail;refine(Hwo.out j k zo zo _ gL.out).mono ?_;rintro e w3 ⟨a3,c3,rfl,hc3,ry,ae⟩;replace Hb:=az Hb ae;clear ae;have wX:=ah ry;clear ry;go_wp2_with fail;refine(Hd.out _ (aK gL.out Hb.out) a3 c3 wX.out).mono ?_;rintro e w4 ⟨rfl,ae⟩;replace Hb:=az Hb ae;clear ae wX;have Zu:=Hb.out.size;obtain⟨W5,xH,ae,Hx⟩:=cS w4 30 [.bool (ar (dN X)),.string (bs (nt (dN X).natAbs)),.int .i64 (dE X)];obtain⟨x0,aX,x1,aY,x2,bi⟩:=Hx.out.g3;replace Hb:=az Hb ae;clear ae;have zY:=aeu (k+j) zo;rw[Int.natCast_add]at zY;go_upto_if 38 with fail
       go_cut[7] (λs7 wx=>s7=v2/\ak wx w4.heap.size 30 [.bool (ar (dN Y)),.string (bs (nt (dN Y).natAbs)),.int .i64 (dE Y)]/\Bw wr wx);case first=>
        by_cases hp:(k+j)%2=1
        . have h9:(bits BinOp.and IntKind.i64 ((k:Int)+(j:Int)) 1==1)=true:=by rw[zY,hp];rfl
          have hY: -aC (canon X)=Y:=by rw[bP,yR.out,if_pos hp]
          have HY:=ah hY;clear hY zY;go_wp2_with fail;refine(Lz _ _ _ Y HY.out _ QL.out (HT.out.below (aK gL.out Hb.out))).mono ?_;rintro e w6 ⟨rfl,ae⟩;clear x0 aX x1 aY x2 bi;replace Hx:=kB Hx ae;obtain⟨x0,aX,x1,aY,x2,bi⟩:=Hx.out.g3;replace Hb:=az Hb ae;clear ae;go_wp2_with fail;go_meet;exact⟨rfl,((Hx.out.set 0 _).set 1 _).set 2 _,((Hb.out.setCell zp _).setCell zp _).setCell zp _⟩
        . have h9:(bits BinOp.and IntKind.i64 ((k:Int)+(j:Int)) 1==1)=false:=by rw[zY,show(k+j)%2=0 by omega];rfl
          have hY:Y=X:=by rw[yR.out,if_neg hp]
          subst hY;clear zY;go_wp2_with fail;go_meet;exact⟨rfl,Hx.out,Hb.out⟩
       case rest=>
        obtain⟨rfl,hx,hb⟩:=hcut;clear zY;have Hx:Hid (ak wc w4.heap.size 30 [.bool (ar (dN Y)),.string (bs (nt (dN Y).natAbs)),.int .i64 (dE Y)]):=hx;have wH:=ah (aK bQ.out hb);have hov:=ownsRow_below Ho.out hb;have cM:=ah hov;have Zv:=hb.size;clear hx hb hov Ho Hb Hd yR QL gL bQ;have Hb:Hid (Bw wc wc):=Below.refl _ _;obtain⟨x0,x1,x2⟩:=Hx.out.c3;have P0:=x0;have P1:=x1;have P2:=x2;have ajj:=Hx.out.lt;obtain⟨W6,od,ae,Hc⟩:=cS wc 30 [.bool (ar (dN Y)),.string (bs (nt (dN Y).natAbs)),.int .i64 (dE Y)];clear x0 x1 x2;replace Hx:=kB Hx ae;obtain⟨x0,x1,x2⟩:=Hx.out.c3;obtain⟨c0,c1,c2⟩:=Hc.out.c3;replace Hb:=az Hb ae;clear ae;have cG:=ownsRow_below cM.out Hb.out;have iz:=Hb.out.size;go_wp2_with (at_builtin;refine wpList_append_own_at _ rfl _ _ 45 rfl wq.heap.size 30 i0 _ 3 32 Tryz.underlying45 Hi.out cN.out cO.out cH.out rfl zd _ j (dC (Z.take j)) rfl cG ⟨wc.heap.size,0,none⟩ 1 1 [.bool (ar (dN Y)),.string (bs (nt (dN Y).natAbs)),.int .i64 (dE Y)] rfl rfl (fX Hc.out) zy zx zo zo ?_;intro v' w7 dQ eT _ fq;obtain⟨g',lC,rfl⟩:=ownsRow_succ dQ);go_roundw;case rel=>exact⟨j+1,_,by omega,by go_num,rfl,by rw[cE.out];exact dQ,(aK wH.out Hb.out).grown eT zo (λj e=>cZ cG j e)⟩
        case measure=>simp[intOf];omega
     . obtain rfl:j=m+1:=by omega
       have iJ:Z.take (m+1)=Z:=List.take_of_length_le (by rw[mh.out];exact Nat.le_refl _);rw[iJ]at Ho;have gb:=Ho.out.lt;obtain⟨a2,cap2,rfl,_,_⟩:=dG Ho.out;obtain⟨vals,hvl,nE,NG,DL⟩:=dx.out;have hov:=ownsRow_below nE bQ.out;have jh:=λi h=>ownsRow_below (NG i h) bQ.out;have jK:∀g,(Value.slice a2 (m+1) cap2).ownBlock=some g->∀i (h:i<vals.length),vals[i].ownBlock≠some g:=λg e i h e2=>by have h1:=(gb g e).1;have h2:=((NG i h).lt g e2).2;omega
       have hx:=pY Ho.out gm;obtain⟨jF,qA,cM,KN,uD,Hxx⟩:=gF hvl jh hov DL jK hx;clear hvl jh hov nE NG DL jK hx gb iJ;have Hb:Hid (Bw wr wr):=Below.refl _ _;obtain⟨W6,od,ae,Hd⟩:=cS wr 45 [.slice a2 (m+1) cap2];have d0:=Hd.out.c1;replace Hb:=az Hb ae;clear ae;have cG:=ownsRow_below cM.out Hb.out;have iz:=Hb.out.size;go_wp2_with (at_builtin;refine wpList_append_own_at _ rfl _ _ 78 rfl w.heap.size 45 j0 _ 1 24 Tryz.underlying78 Hj.out ir.out jd.out je.out rfl zd v k vals rfl cG ⟨wr.heap.size,0,none⟩ 1 1 [.slice a2 (m+1) cap2] rfl rfl (fX Hd.out) zy zx zo zo ?_;intro v' w7 dQ eT _ fq;obtain⟨g',lC,rfl⟩:=ownsRow_succ dQ);go_roundw;case rel=>refine⟨k+1,_,by omega,by go_num,rfl,fM.push jF.out cG (λi h=>ownsRow_below (qA.out i h) Hb.out) KN.out (by rw[uv.out];exact ownsRow_below Hxx.out Hb.out) uD.out dQ eT,?_⟩;exact(aK (aK aQ.out bQ.out) Hb.out).grown eT zo (λj e=>cZ cG j e)
       case measure=>simp[intOf];omega
  . obtain rfl:k=m+1:=by omega
    go_wp2;exact bodyPost_ret (v:=.tuple #[v,.int .i64 0]) (by simp[results,Tryz.results92,go_sem]) rfl ⟨v,rfl,dx.out,aQ.out⟩
end Go.Proofs.YtdaadlblknpipaaGreatDoor
namespace Go.Proofs.YtdaadlblknpipaaGreatDoor
def pk (n:Nat)(p:Nat->Nat->Dyadic):List (List Dyadic):=(List.range n).map λa=>(List.range n).map λb=>js n p a b
theorem FT (n:Nat)(p:Nat->Nat->Dyadic):(pk n p).length=n:=by simp[pk]
theorem FU (n:Nat)(p:Nat->Nat->Dyadic):∀r∈pk n p,r.length=n:=by intro r hr;unfold pk at hr;obtain⟨x,_,rfl⟩:=List.mem_map.1 hr;simp
theorem Lc (n:Nat)(p:Nat->Nat->Dyadic)(a b:Nat)(ha:a<n)(hb:b<n):bG (pk n p) a b=js n p a b:=by unfold bG pk;simp[List.getD_eq_getElem?_getD,ha,hb]
theorem amx {n:Nat}{R S:List (List Dyadic)}(h1:R.length=n)(h2:∀r∈R,r.length=n)(h3:S.length=n)(h4:∀r∈S,r.length=n)(h:∀a b,a<n->b<n->bG R a b=bG S a b):R=S:=by apply List.ext_getElem zo;intro i hi hj;have l1:=h2 _ (List.getElem_mem hi);have l2:=h4 _ (List.getElem_mem hj);apply List.ext_getElem zo;intro j k1 k2;have:=h i j zo zo;unfold bG at this;simpa[List.getD_eq_getElem?_getD,hi,hj,k1,k2]using this
theorem ady (n:Nat)(bI:n<=4){e f:Nat->Nat->Dyadic}(h:∀i j,i<n->j<n->e i j=f i j)(a b:Nat)(ha:a<n)(hb:b<n):kF n e a b=kF n f a b:=by
 have:cm (n-1) (fS e b a)=cm (n-1) (fS f b a):=zN (n-1) zo (λi j hi hj=>by
  unfold fS
  exact h _ _ (by split<;>omega) (by split<;>omega))
 unfold kF;rw[this]
theorem af4 {n:Nat}{R:List (List Dyadic)}(h1:R.length=n)(h2:∀r∈R,r.length=n)(i j:Nat)(hi:i<n)(hj:j<n)(y:Dyadic)(a b:Nat)(ha:a<n)(hb:b<n):bG (R.set i ((R.getD i []).set j y)) a b=if a=i/\b=j then y else bG R a b:=by
 unfold bG;by_cases e:a=i
 . subst e;rw[List.getD_eq_getElem?_getD (l:=R.set _ _),List.getElem?_set_self zo,Option.getD_some];have hl:(R.getD a []).length=n:=by
    have e:R.getD a []=R[a]'zo:=by rw[List.getD_eq_getElem?_getD,List.getElem?_eq_getElem zo];rfl
    rw[e];exact h2 _ (List.getElem_mem _)
   by_cases e2:b=j
   . subst e2;rw[if_pos ⟨rfl,rfl⟩,List.getD_eq_getElem?_getD,List.getElem?_set_self zo];rfl
   . rw[if_neg (λh=>e2 h.2),List.getD_eq_getElem?_getD,List.getElem?_set_ne (λh=>e2 h.symm),<-List.getD_eq_getElem?_getD]
 . rw[if_neg (λh=>e h.1),List.getD_eq_getElem?_getD (l:=R.set _ _),List.getElem?_set_ne (λh=>e h.symm),<-List.getD_eq_getElem?_getD]
theorem alW {n:Nat}{R:List (List Dyadic)}(h1:R.length=n)(h2:∀r∈R,r.length=n)(i j:Nat)(hi:i<n)(y:Dyadic):(R.set i ((R.getD i []).set j y)).length=n/\∀r∈R.set i ((R.getD i []).set j y),r.length=n:=by
 refine⟨by rw[List.length_set];exact h1,λr hr=>?_⟩;rcases List.mem_or_eq_of_mem_set hr with h|h
 . exact h2 r h
 . rw[h,List.length_set];have e:R.getD i []=R[i]'zo:=by rw[List.getD_eq_getElem?_getD,List.getElem?_eq_getElem zo];rfl
   rw[e];exact h2 _ (List.getElem_mem _)
theorem alZ (X:Dyadic):(if bZ X<0 then-X else X)=lU X*X:=by
 rw[alY];by_cases h:X<0
 . rw[if_pos h,if_pos ((CB X).2 h)]
 . rw[if_neg h,if_neg (λh2=>h ((CB X).1 h2))]
def jH (k j a b:Nat):Prop:=a<k\/a=k/\b<j
instance (k j a b:Nat):Decidable (jH k j a b):=inferInstanceAs (Decidable (_\/_))
end Go.Proofs.YtdaadlblknpipaaGreatDoor
namespace Go.Proofs.YtdaadlblknpipaaGreatDoor
open Go.RowKit
attribute [local go_sem ↓] Go.wp_at_zero Go.wp_at_succ
def Sp (w:World)(n:Nat)(p:Nat->Nat->Dyadic)(e:Ending)(w':World):Prop:=
 ∃a' c',e=.returned (.tuple #[bH (lU (dz n p) *dz n p),.slice a' n c',.int .i64 0])/\n<=c'/\bo w' a' ((pk n p).map λr=>r.map canon)/\Bw w w'
theorem fM.blk {w:World}{base n L go cap:Nat}{R:List (List Dyadic)}(h:fM w base n R L (.slice (some ⟨go,0,none⟩) L cap))(i:Nat)(hi:i<L)(hn:0<n):base<=go/\∃g c,w.cell? ⟨go,i,none⟩=some (.slice (some ⟨g,0,none⟩) n c)/\base<=g/\g<w.heap.size/\g≠go:=by
 obtain⟨vals,hl,ho,hv,hd⟩:=h;have hi2:i<vals.length:=by omega
 have hrow:=hv i hi2;obtain⟨g,c,e1,hg1,hg2,_⟩:=AJ hrow hn;have fq:=yA ho;have hc:=lR ho i zo;rw[e1]at hc;refine⟨fq.1,g,c,hc,hg1,hg2,?_⟩;rintro rfl;rw[e1]at hrow;rcases hrow.2 with⟨h1,_⟩ |⟨g',c',cur,h1,_,h2,_⟩
 . simp at h1
 . simp only[Value.slice.injEq,Option.some.injEq,Addr.mk.injEq,and_true,true_and]at h1;obtain⟨rfl,rfl⟩:=h1;rcases ho.2 with⟨h3,_⟩ |⟨g2,c2,an7,h3,_,h4,_⟩
   . simp at h3
   . simp only[Value.slice.injEq,Option.some.injEq,Addr.mk.injEq,and_true,true_and]at h3;obtain⟨rfl,rfl⟩:=h3;rw[h2]at h4;simp at h4
theorem fM.aq2 {w:World}{base n k:Nat}{R:List (List Dyadic)}{v:Value}(h:fM w base n R k v){p:Addr}(hp:p.block<base)(x:Value):fM (w.setCell p x) base n R k v:=by
 obtain⟨vals,hl,ho,hi,hd⟩:=h;have hne:∀{u:Value} {e:TypeId} {sz m:Nat} {xs:List Value},w.ownsRow base e sz u m xs->u.ownBlock≠some p.block:=λh e=>by have:=(h.lt _ e).1;omega
 exact⟨vals,hl,ownsRow_setCell_other ho (hne ho) _,λi h=>ownsRow_setCell_other (hi i h) (hne (hi i h)) _,hd⟩
theorem NR (a:Option Addr)(cap m:Nat)(rows:List (List Raw))(B:Nat)(w:World)(hm:m+1<=4)(hr:Rw (m+1) B rows)(hcap:m+1+1<=cap)(ha:bo w a rows)(hB:B<=200000)(hT:aF w)(h0:fD rows=0):
 Calls Tryz.prog 55 #[.slice a (m+1+1) cap] w (Sp w (m+1) (bJ rows)):=by
 obtain⟨n,hn⟩:=aB (m+1);have hL:=hr.1;have hrow:=hr.2.1;have hfit:=hr.2.2;obtain⟨b,o,rfl⟩:∃b o,a=some ⟨b,o,none⟩:=by
  obtain⟨vals,hvl,hat,_⟩:=ha;rcases hat with h|⟨b,o,h,_⟩
  . rw[h]at hvl;simp at hvl;omega
  . exact⟨b,o,h⟩
 have ez:=λW (hW:Bw w W)=>EC (some ⟨b,o,none⟩) (m+1+1) cap rows B W hL zo hcap (ha.below hW) hfit zo (hT.below hW);rw[h0]at ez;obtain⟨S,hS⟩:=aB ((rows.drop 1).map λp=>iw (rows.getD 0 []) p);have fZ:S.length=m+1:=by rw[<-hS];simp[hL]
 have h00:0<rows.length:=by omega
 have e0:rows.getD 0 []=rows[0]:=by simp[h00]
 have nZ:∀r∈S,r.length=m+1:=by intro r hr;rw[<-hS]at hr;obtain⟨p,hp,rfl⟩:=List.mem_map.1 hr;rw[zP (by rw[e0,hrow _ (List.mem_of_mem_drop hp),hrow _ (List.getElem_mem h00)]),hrow _ (List.mem_of_mem_drop hp)]
 have oc:∀r∈S,∀d∈r,Sm (B+1) d:=by intro r hr d hd;rw[<-hS]at hr;obtain⟨p,hp,rfl⟩:=List.mem_map.1 hr;unfold iw at hd;obtain⟨i,hi,rfl⟩:=List.mem_iff_getElem.1 hd;rw[List.getElem_zipWith];refine Sm.sub (hfit p (List.mem_of_mem_drop hp) _ (List.getElem_mem _)).2 (hfit (rows.getD 0 []) ?_ _ (List.getElem_mem _)).2;rw[e0];exact List.getElem_mem h00
 obtain⟨P,hP⟩:=aB (bJ rows);have Dj:∀i j,i<m+1->j<m+1->bG S i j=zQ P i j:=λi j hi hj=>by rw[<-hS,<-hP];exact PH (m+1) rows hL hrow i j hi hj
 obtain⟨X,hX⟩:=aB (dz (m+1) P);have hent:cm (m+1) (bG S)=X:=by rw[<-hX,xt];exact zN (m+1) hm Dj
 have hro:=λW (hW:Bw w W)=>YQ b o cap (m+1) (m+1) rows B W hL zo hcap zo zo zo hrow (ha.below hW) hfit zo (hT.below hW);rw[hS]at hro
 have jz:=λW (hW:Bw w W) a' c' (h:bo W a' (S.map λr=>r.map canon))=>LA a' c' (m+1) (S.map λr=>r.map canon) (B+1) S X W zo hm (by simpa using fZ) (by
  intro r hr;obtain⟨x,hx,rfl⟩:=List.mem_map.1 hr
  simpa using nZ x hx) h (by
  intro r hr c hc;obtain⟨x,hx,rfl⟩:=List.mem_map.1 hr;obtain⟨y,hy,rfl⟩:=List.mem_map.1 hc
  exact(oc x hx y hy).fit zo) zo zo (hT.below hW) (SL S) hent
 have ol:=λW (hW:Bw w W) a' c' (h:bo W a' (S.map λr=>r.map canon))=>(adC a' c' m S (B+1) W hm fZ nZ oc zo zo h (hT.below hW)).mono (λe w' h=>(match h with|⟨v,h1,h2,h3⟩=>⟨v,h1,h2,h3,h3⟩:∃v,e=.returned (.tuple #[v,.int .i64 0])/\fM w' W.heap.size (m+1) (qD (m+1) (bG S)) (m+1) v/\Bw W w'/\Bw W w'));have fA:Sm (4*B+11) X:=by rw[<-hent];refine(zO (B:=B+1) hm (λi j hi hj=>?_)).mono zo;rw[Dj i j hi hj,<-hP];exact xu (n:=m+1) (B:=B) (λa b ha hb=>by rw[sH rows a b zo (by rw[hrow _ (List.getElem_mem _)];exact hb)];exact(hfit _ (List.getElem_mem _) _ (List.getElem_mem _)).2) i j hi hj
 have fH:=λW=>nU (ar (dN X)) (nt (dN X).natAbs) (dE X) (bZ X) (by show bZ (aC (canon X))=_;rw[bP]) W (fA.ok zo);have Dk: -1<=bZ X/\bZ X<=1:=by unfold bZ ej;split<;>(try split)<;>omega
 obtain⟨G,hG⟩:=aB (lU X);have hof:=λW (hW:Bw w W)=>Ge (bZ X) G (by rw[<-hG];rfl) W zo (hT.below hW)
 have hab:=λW (hW:Bw w W)=>afn (ar (dN X)) (nt (dN X).natAbs) (dE X) (G*X) (by
  have e:aC (ar (dN X),nt (dN X).natAbs,dE X)=X:=bP X
  rw[e,alZ,hG]) W (fA.ok zo) (hT.below hW)
 have Ug:Fit (4*B+11) (canon G):=(by rw[<-hG];exact(PE X).mono zo:Sm (4*B+11) G).fit zo;have qN:∀i j,i<m+1->j<m+1->Fit (4*B+11) (canon (kF (m+1) (bG S) i j)):=λi j hi hj=>by refine((Sy (B:=B+1) zo hm (λa b ha hb=>?_) i j).mono zo).fit zo;rw[Dj a b ha hb,<-hP];exact xu (n:=m+1) (B:=B) (λa b ha hb=>by rw[sH rows a b zo (by rw[hrow _ (List.getElem_mem _)];exact hb)];exact(hfit _ (List.getElem_mem _) _ (List.getElem_mem _)).2) a b ha hb
 have hfin:∀R:List (List Dyadic),R.length=m+1->(∀r∈R,r.length=m+1)->(∀a b,a<m+1->b<m+1->bG R a b=kF (m+1) (bG S) a b*G)->R=pk (m+1) P:=λR h1 h2 h3=>amx h1 h2 (FT _ _) (FU _ _) (λa b ha hb=>by
  rw[h3 a b ha hb,Lc _ _ _ _ ha hb];unfold js
  rw[hX,hG,ady (m+1) hm Dj a b ha hb])
 have CH:=λi j hi hj=>adz (m+1) (bG S) i j hi hj;have Gs:=adA (m+1) (bG S);have Gt:=adB (m+1) (bG S);obtain⟨F,hF⟩:∃F:Nat->Nat->Dyadic,(λi j=>kF (m+1) (bG S) i j)=F:=⟨_,rfl⟩;have Uf:∀i j,kF (m+1) (bG S) i j=F i j:=λi j=>by rw[<-hF]
 simp only[Uf]at qN hfin CH;obtain⟨A,hA⟩:=aB (qD (m+1) (bG S));rw[hA]at ol CH Gs Gt;rw[hP];unfold Sp;rw[hX,hG];rw[hn]at ez hro jz ol qN hfin CH Gs Gt⊢;have bI:n<=4:=by omega
 have fh:1<=n:=by omega
 have WH:=λW=>(fH W).mono (λe w' h=>(⟨h.1,h.2,h.2⟩:e=.returned (.int .i64 (bZ X))/\Bw W w'/\Bw W w'));have Wm:=λW hW=>(hof W hW).mono (λe w' h=>(⟨h.1,h.2,h.2⟩:e=.returned (bH G)/\Bw W w'/\Bw W w'));have fg:=λW hW=>(hab W hW).mono (λe w' h=>(⟨h.1,h.2,h.2⟩:e=.returned (bH (G*X))/\Bw W w'/\Bw W w'));obtain⟨jU,RO,wM,Bt,iV,oV,ky,HGf,HAs,sS,HAe,HAl⟩:=gh ez hro jz ol WH Wm fg Ug qN hfin CH Gs;obtain⟨HAr,HT⟩:=aM Gt hT;clear ez hro jz ol WH Wm fH hof hab fg Ug qN hfin CH Gs Gt hT Uf hF hA fA hent Dj oc nZ fZ hS e0 h00 hP hX hG Dk ha hr hL hrow hfit h0 hn;have Hb:Hid (Bw w w):=Below.refl _ _;go_enter Tryz.func55,Tryz.ntmps55;go_wp2_with fail;obtain⟨R,hR⟩:∃R:World->Prop,(λW=>ak W (w.heap.size) 30 [.bool false,.string ⟨#[]⟩,.int .i64 0]/\Bw w W)=R:=⟨_,rfl⟩;first|refine bN R ?hR ?_|refine bL R ?hR ?_
 case hR=>subst hR;exact⟨(ak.newAt w _ _ (b:=w.heap.size) rfl),zl⟩
 subst hR;rintro W ⟨qr,ae⟩;have Hr:=ah qr;clear qr;obtain⟨r0,ai,r1,aj,r2,aG⟩:=Hr.out.g3;replace Hb:=az Hb ae;clear ae;go_wp2_with fail;refine(jU.out _ Hb.out).mono ?_;rintro e w1 ⟨rfl,ae⟩;clear r0 ai r1 aj r2 aG;replace Hr:=kB Hr ae;obtain⟨r0,ai,r1,aj,r2,aG⟩:=Hr.out.g3;replace Hb:=az Hb ae;clear ae;go_wp2_with fail;refine(RO.out _ Hb.out).mono ?_;rintro e w2 ⟨a2,c2,rfl,hc2,ht2,ae⟩;clear r0 ai r1 aj r2 aG;replace Hr:=kB Hr ae;obtain⟨r0,ai,r1,aj,r2,aG⟩:=Hr.out.g3;replace Hb:=az Hb ae;clear ae;have FD:=ah ht2;clear ht2;go_wp2_with fail;refine(wM.out _ Hb.out a2 c2 FD.out).mono ?_;rintro e w3 ⟨rfl,ae⟩;clear r0 ai r1 aj r2 aG;replace Hr:=kB Hr ae;obtain⟨r0,ai,r1,aj,r2,aG⟩:=Hr.out.g3;replace Hb:=az Hb ae;clear ae FD;have XM:=Hr.out.lt;obtain⟨W4,pH,ae,Hd⟩:=cS w3 30 [.bool (ar (dN X)),.string (bs (nt (dN X).natAbs)),.int .i64 (dE X)];clear r0 ai r1 aj r2 aG;replace Hr:=kB Hr ae;obtain⟨r0,ai,r1,aj,r2,aG⟩:=Hr.out.g3;obtain⟨d0,d1,d2⟩:=Hd.out.c3;replace Hb:=az Hb ae;clear ae;go_wp2_with fail;refine(RO.out _ Hb.out).mono ?_;rintro e w5 ⟨a3,c3,rfl,hc3,ry,ae⟩;clear r0 ai r1 aj r2 aG d0 d1 d2;replace Hr:=kB Hr ae;replace Hd:=kB Hd ae;obtain⟨r0,ai,r1,aj,r2,aG⟩:=Hr.out.g3;obtain⟨d0,d1,d2⟩:=Hd.out.c3;replace Hb:=az Hb ae;clear ae;have wX:=ah ry;clear ry;have jE:=Hr;have JQ:=Hd;have dK:=Hb;go_wp2_with fail;refine(Bt.out _ Hb.out a3 c3 wX.out).mono ?_;rintro e w6 ⟨v,rfl,hO,Va,ae⟩;clear r0 ai r1 aj r2 aG d0 d1 d2;replace Hr:=kB Hr ae;replace Hd:=kB Hd ae;obtain⟨r0,ai,r1,aj,r2,aG⟩:=Hr.out.g3;obtain⟨d0,d1,d2⟩:=Hd.out.c3;replace Hb:=az Hb ae;clear ae;obtain⟨go,cv,rfl,hgo⟩:∃go cv,v=.slice (some ⟨go,0,none⟩) n cv/\w5.heap.size<=go:=by obtain⟨vals,hl,ho,_,_⟩:=hO;obtain⟨g,c,e1,h1,_,_⟩:=AJ ho zo;exact⟨g,c,e1,h1⟩
 have hcv:n<=cv:=by obtain⟨vals,hl,ho,_,_⟩:=hO;exact(sD ho).1
 obtain⟨gI,Vy⟩:∃gI:Nat->Nat×Nat,∀i,i<n->w6.cell? ⟨go,i,none⟩=some (.slice (some ⟨(gI i).1,0,none⟩) n (gI i).2)/\w5.heap.size<=(gI i).1/\(gI i).1<w6.heap.size/\(gI i).1≠go:=by have H:=λi (h:i<n)=>(hO.blk i h fh).2;refine⟨λi=>if h:i<n then(Classical.choose (H i h),Classical.choose (Classical.choose_spec (H i h)))else(0,0),λi h=>?_⟩;simp only[h,dif_pos];exact Classical.choose_spec (Classical.choose_spec (H i h))
 obtain⟨HO,Rl⟩:=aM hO Vy;clear hO Vy;have yP:Hid (Bw w5 w6):=Va;have H66:Hid (Bw w6 w6):=Below.refl _ _;clear Va;have PN:=yP.out.size;go_wp2_with fail;refine(iV.out _).mono ?_;rintro e w7 ⟨rfl,Ve,ae⟩;clear r0 ai r1 aj r2 aG d0 d1 d2;replace Hr:=kB Hr ae;replace Hd:=kB Hd ae;obtain⟨r0,ai,r1,aj,r2,aG⟩:=Hr.out.g3;obtain⟨d0,d1,d2⟩:=Hd.out.c3;replace Hb:=az Hb ae;clear ae;go_wp2_with fail;refine(oV.out _ Hb.out).mono ?_;rintro e w8 ⟨rfl,Vf,ae⟩;clear r0 ai r1 aj r2 aG d0 d1 d2;replace Hr:=kB Hr ae;replace Hd:=kB Hd ae;obtain⟨r0,ai,r1,aj,r2,aG⟩:=Hr.out.g3;obtain⟨d0,d1,d2⟩:=Hd.out.c3;replace Hb:=az Hb ae;clear ae;have MG:=aK Ve Vf;clear Ve Vf;have Qo:=ah MG;have Jc:=MG.size;clear MG;have apS:=Hr.out.lt;have aps:=Hd.out.lt;obtain⟨W9,UL,ae,Hs⟩:=cS w8 30 [.bool (ar (dN G)),.string (bs (nt (dN G).natAbs)),.int .i64 (dE G)];clear r0 ai r1 aj r2 aG;replace Hr:=kB Hr ae;clear d0 d1 d2;replace Hd:=kB Hd ae;obtain⟨r0,ai,r1,aj,r2,aG⟩:=Hr.out.g3;obtain⟨d0,d1,d2⟩:=Hd.out.c3;obtain⟨s0,s1,s2⟩:=Hs.out.c3;replace Hb:=az Hb ae;clear ae;have EP:Hid (Bw w6 W9):=by rw[<-UL];exact(Qo.out).alloc zo _
 have Ur:=HO.out.below EP.out;have GI:∀i,i<n->W9.cell? ⟨go,i,none⟩=some (.slice (some ⟨(gI i).1,0,none⟩) n (gI i).2):=λi h=>cell_later EP.out (Rl.out i h).1;have Vb:=aK yP.out EP.out;obtain⟨QE,QU,Qn⟩:=cX Ur GI Vb;have RQ:=Hs;clear Ur GI Vb HO Qo H66 EP;go_wp2_with fail;go_loopw[37] (λx wr=>∃(k:Nat) (R:List (List Dyadic)),k<=n/\x=.int .i64 (k:Int)/\R.length=n/\(∀r∈R,r.length=n)/\(∀a b,a<n->b<n->bG R a b=if jH k 0 a b then F a b*G else F a b)/\fM wr w5.heap.size n R n (.slice (some ⟨go,0,none⟩) n cv)/\(∀i,i<n->wr.cell? ⟨go,i,none⟩=some (.slice (some ⟨(gI i).1,0,none⟩) n (gI i).2))/\ak wr w8.heap.size 30 [.bool (ar (dN G)),.string (bs (nt (dN G).natAbs)),.int .i64 (dE G)]/\Bw w5 wr) (λx _=>n-(intOf x).toNat);case atStart=>exact⟨0,A,Nat.zero_le _,rfl,HAl.out,HAr.out,λa b ha hb=>by rw[HAe.out a b ha hb,if_neg (by unfold jH;omega)],QE.out,QU.out,RQ.out,Qn.out⟩
 case round=>
  clear RQ Qn QU QE s0 s1 s2 Hs r0 ai r1 aj r2 aG d0 d1 d2 Hr Hd Hb yP;obtain⟨k,R,hk,rfl,qR,qT,hRe,hO,hc,hs,pb⟩:=hrel;by_cases hlt:k<n
  . have ez:=hc k hlt;obtain⟨g,c,pK⟩:∃g c,gI k=(g,c):=⟨_,_,rfl⟩;obtain⟨_,hg1,hg2,hg3⟩:=Rl.out k hlt;rw[pK]at ez hg1 hg2 hg3;have bE:=tZ n cv k (k:Int) (rfl:(some ⟨go,0,none⟩:Option Addr)=_) hlt rfl;rw[Nat.zero_add,Nat.mul_one]at bE;have hin:∃(j:Nat) (R:List (List Dyadic)),j=0/\R.length=n/\(∀r∈R,r.length=n)/\(∀a b,a<n->b<n->bG R a b=if jH k j a b then F a b*G else F a b)/\fM wr w5.heap.size n R n (.slice (some ⟨go,0,none⟩) n cv)/\(∀i,i<n->wr.cell? ⟨go,i,none⟩=some (.slice (some ⟨(gI i).1,0,none⟩) n (gI i).2))/\ak wr w8.heap.size 30 [.bool (ar (dN G)),.string (bs (nt (dN G).natAbs)),.int .i64 (dE G)]/\Bw w5 wr:=⟨0,R,rfl,qR,qT,hRe,hO,hc,hs,pb⟩;obtain⟨mW,Fq⟩:=aM hin pK;clear hin qR qT hRe hO hc hs pb pK;obtain⟨wq,hwq⟩:∃wq,wq=wr:=⟨_,rfl⟩;subst hwq;go_wp2_with fail;go_loopw[43] (λx wr=>∃(j:Nat) (R:List (List Dyadic)),j<=n/\x=.int .i64 (j:Int)/\R.length=n/\(∀r∈R,r.length=n)/\(∀a b,a<n->b<n->bG R a b=if jH k j a b then F a b*G else F a b)/\fM wr w5.heap.size n R n (.slice (some ⟨go,0,none⟩) n cv)/\(∀i,i<n->wr.cell? ⟨go,i,none⟩=some (.slice (some ⟨(gI i).1,0,none⟩) n (gI i).2))/\ak wr w8.heap.size 30 [.bool (ar (dN G)),.string (bs (nt (dN G).natAbs)),.int .i64 (dE G)]/\Bw w5 wr) (λx _=>n-(intOf x).toNat);case atStart=>obtain⟨j,R,rfl,h⟩:=mW.out;exact⟨0,R,Nat.zero_le _,rfl,h⟩
    case round=>
     clear mW ez bE;obtain⟨j,R,hj,rfl,qR,qT,hRe,hO,hc,hs,pb⟩:=hrel;by_cases bj:j<n
     . have hrl:(R.getD k []).length=n:=by
        have e:R.getD k []=R[k]'zo:=by rw[List.getD_eq_getElem?_getD,List.getElem?_eq_getElem zo];rfl
        rw[e];exact qT _ (List.getElem_mem _)
       have ez:=hc k hlt;rw[Fq.out]at ez;have hpick:∀W,fM W w5.heap.size n R n (.slice (some ⟨go,0,none⟩) n cv)->W.cell? ⟨go,k,none⟩=some (.slice (some ⟨g,0,none⟩) n c)->bB W g (j*3) [.bool (ar (dN (F k j))),.string (bs (nt (dN (F k j)).natAbs)),.int .i64 (dE (F k j))]/\(∀o,W.frozen? ⟨g,o,none⟩=false)/\∀y:Dyadic,fM (((W.setCell ⟨g,j*3,none⟩ (.bool (ar (dN y)))).setCell ⟨g,j*3+1,none⟩ (.string (bs (nt (dN y).natAbs)))).setCell ⟨g,j*3+2,none⟩ (.int .i64 (dE y))) w5.heap.size n (R.set k ((R.getD k []).set j y)) n (.slice (some ⟨go,0,none⟩) n cv):=by
        intro W hO ez;obtain⟨go',cap',g',c',hv,_,_,hne,hcell,cQ,hfz,hup⟩:=hO.num k j hlt bj qR hrl;simp only[Value.slice.injEq,Option.some.injEq,Addr.mk.injEq,and_true,true_and]at hv;obtain⟨rfl,rfl⟩:=hv;rw[ez]at hcell;simp only[Option.some.injEq,Value.slice.injEq,Addr.mk.injEq,and_true,true_and]at hcell;obtain⟨rfl,rfl⟩:=hcell;have he:(R.getD k []).getD j 0=F k j:=by have h:=hRe k j hlt bj;rw[if_neg (by unfold jH;omega)]at h;exact h
        rw[he]at cQ;exact⟨cQ,hfz,hup⟩
       obtain⟨cQ,_,_⟩:=hpick wr hO ez;have LR:=HAs.out k j hlt bj;obtain⟨Y,hY⟩:=aB (F k j*G);have hsl:=alW qR qT k j hlt Y;have hen:∀a b,a<n->b<n->bG (R.set k ((R.getD k []).set j Y)) a b=if jH k (j+1) a b then F a b*G else F a b:=by
        intro a b ha hb;rw[af4 qR qT k j hlt bj Y a b ha hb];by_cases e:a=k/\b=j
        . obtain⟨rfl,rfl⟩:=e;rw[if_pos ⟨rfl,rfl⟩,if_pos (by unfold jH;omega),hY]
        . rw[if_neg e,hRe a b ha hb];have:jH k j a b↔jH k (j+1) a b:=by unfold jH;omega
          by_cases h:jH k j a b
          . rw[if_pos h,if_pos (this.1 h)]
          . rw[if_neg h,if_neg (λh2=>h (this.2 h2))]
       obtain⟨E,hE⟩:=aB (F k j);have HY:Hid (aC (canon E) *aC (canon G)=Y):=by show _=_;rw[bP,bP,<-hE];exact hY
       rw[hE]at cQ LR hpick;have hjx:=jC n c j (j:Int) (rfl:(some ⟨g,0,none⟩:Option Addr)=_) bj rfl;rw[Nat.zero_add]at hjx;obtain⟨R2,UA⟩:=aB (R.set k ((R.getD k []).set j Y));have hpk:=λW h1 h2=>(hpick W h1 h2).2.2 Y;have xY:=λW h1 h2=>(hpick W h1 h2).2.1;rw[UA]at hsl hen hpk;have Hz:Hid (bB wr g (j*3) [.bool (ar (dN E)),.string (bs (nt (dN E).natAbs)),.int .i64 (dE E)]):=cQ;have Hs:Hid (ak wr w8.heap.size 30 [.bool (ar (dN G)),.string (bs (nt (dN G).natAbs)),.int .i64 (dE G)]):=hs;obtain⟨HO,Hcc,jU,aQ,td,Hen,Hpk,Hpz,HAf,wF⟩:=yj hO hc ez pb hsl hen hpk xY LR (HT.out.below (aK dK.out pb));have szw:=pb.size;clear hO hc ez pb hsl hen hpk xY LR hs cQ hpick UA hE hY qR qT hRe hrl;have Hb:Hid (Bw wr wr):=Below.refl _ _;have Ip:=Hs.out.lt;go_wp2_with fail;obtain⟨z0,z1,z2⟩:=Hz.out.w3;obtain⟨s0,s1,s2⟩:=Hs.out.c3;have HU:Hid (aF wr):=wF.out;refine bM (λw'=>w'.cell? ⟨g,j*3,none⟩=some (.bool (ar (dN E)))/\w'.cell? ⟨g,j*3+1,none⟩=some (.string (bs (nt (dN E).natAbs)))/\w'.cell? ⟨g,j*3+2,none⟩=some (.int .i64 (dE E))/\w'.cell? ⟨w8.heap.size,0,none⟩=some (.bool (ar (dN G)))/\w'.cell? ⟨w8.heap.size,1,none⟩=some (.string (bs (nt (dN G).natAbs)))/\w'.cell? ⟨w8.heap.size,2,none⟩=some (.int .i64 (dE G))) (λi=>Nat.blt i 10) [(0,true),(1,true),(2,true),(3,true),(4,true),(5,true),(6,true),(7,false),(8,false),(9,true),(10,false)] zk zk rfl zk zc ⟨z0,z1,z2,s0,s1,s2⟩ ?_;iterate 7 (refine pT rfl rfl ?_ (by intro w' ⟨q0,q1,q2,q3,q4,q5⟩;go_simp;try with_reducible rfl);try simp only[UU])
       refine aI rfl rfl (λK hK=>?_);go_simp;refine hK _ _ (λ_=>⟨aJ z0,aJ z1,aJ z2,aJ s0,aJ s1,aJ s2⟩) ?_;clear hK K;try simp only[UU]
       refine bO (λW4=>ak W4 (wr.heap.size) 30 [.bool (ar (dN E)),.string (bs (nt (dN E).natAbs)),.int .i64 (dE E),.bool (ar (dN G)),.string (bs (nt (dN G).natAbs)),.int .i64 (dE G)]/\Bw wr W4) (by first|exact dU|exact dV) ?_;rintro W4 ⟨qv,ae⟩;clear z0 z1 z2 s0 s1 s2;have apX:=Hs.out.lt;replace Hz:=kW Hz ae;replace Hs:=kB Hs ae;replace HU:=kT HU ae;have Hv:=ah qv;clear qv;obtain⟨z0,z1,z2⟩:=Hz.out.w3;obtain⟨s0,s1,s2⟩:=Hs.out.c3;obtain⟨v0,v1,v2,v3,v4,v5⟩:=Hv.out.c6;replace Hb:=az Hb ae;clear ae;refine aI rfl rfl (λK hK=>?_);go_simp;with_reducible refine(Cx _ _ _ _ _ _ Y (4*B+11) HY.out wr.heap.size _ 30 _ HAf.out HGf.out zo Hv.out (by first|exact HU.out|exact aF.drew HU.out|exact aF.alloc HU.out _|exact aF.drew (aF.alloc HU.out _) |exact aF.alloc (aF.drew HU.out) _)).mono ?_
       rintro e fI ⟨rfl,hq⟩;have ae:Bw W4 fI:=by first|exact hq|exact aV hq
       clear z0 z1 z2 s0 s1 s2 v0 v1 v2 v3 v4 v5;replace Hz:=kW Hz ae;replace Hs:=kB Hs ae;replace HU:=kT HU ae;replace Hv:=kB Hv ae;obtain⟨z0,z1,z2⟩:=Hz.out.w3;obtain⟨s0,s1,s2⟩:=Hs.out.c3;obtain⟨v0,v1,v2,v3,v4,v5⟩:=Hv.out.c6;replace Hb:=az Hb ae;clear ae;refine hK _ _ (λ_=>⟨z0,z1,z2,s0,s1,s2⟩) ?_;clear hK K;try simp only[UU]
       refine pT rfl rfl ?_;try simp only[UU]
       refine aI rfl rfl (λK hK=>?_);have Mk:=HO.out.below Hb.out;have Na:=cell_later Hb.out jU.out;have hfz:=Hpz.out fI Mk Na;have jg:=hfz (j*3);have iI:=hfz (j*3+1);have nV:=hfz (j*3+2);have hup:=Hpk.out fI Mk Na;have qX:=aK aQ.out Hb.out;obtain⟨KM,jc⟩:=aM hup qX;clear Mk Na hfz hup qX;go_simp;refine hK _ _ (λh=>absurd h zd) ?_;clear hK K;try simp only[UU]
       simp only[aZ];go_wp2;refine⟨⟨j+1,R2,by omega,by go_num,td.out.1,td.out.2,Hen.out,KM.out,λi hi=>?_,?_,?_⟩,by simp[intOf];omega⟩
       . have hne:(⟨go,i,none⟩:Addr).block≠g:=λe=>hg3 e.symm;exact aH (.inl hne) (aH (.inl hne) (aH (.inl hne) (cell_later Hb.out (Hcc.out i hi))))
       . have hne:g≠w8.heap.size:=by omega
         exact((Hs.out.aqR _ hne _).aqR _ hne _).aqR _ hne _
       . exact((jc.out.setCell hg1 _).setCell hg1 _).setCell hg1 _
     . obtain rfl:j=n:=by omega
       have lI:(∀a b,a<j->b<j->bG R a b=if jH (k+1) 0 a b then F a b*G else F a b):=by
        intro a b ha hb;rw[hRe a b ha hb];have:jH k j a b↔jH (k+1) 0 a b:=by unfold jH;omega
        by_cases h:jH k j a b
        . rw[if_pos h,if_pos (this.1 h)]
        . rw[if_neg h,if_neg (λh2=>h (this.2 h2))]
       have hres:(∃k' R,k'<=j/\k'=k+1/\R.length=j/\(∀r∈R,r.length=j)/\(∀a b,a<j->b<j->bG R a b=if jH k' 0 a b then F a b*G else F a b)/\fM wr w5.heap.size j R j (.slice (some ⟨go,0,none⟩) j cv)/\(∀i,i<j->wr.cell? ⟨go,i,none⟩=some (.slice (some ⟨(gI i).1,0,none⟩) j (gI i).2))/\ak wr w8.heap.size 30 [.bool (ar (dN G)),.string (bs (nt (dN G).natAbs)),.int .i64 (dE G)]/\Bw w5 wr):=⟨k+1,R,by omega,rfl,qR,qT,lI,hO,hc,hs,pb⟩;have gv:=ah hres;clear hres lI qR qT hRe hO hc hs pb;go_wp2;go_roundw;case rel=>obtain⟨k',R,h1,rfl,h⟩:=gv.out;exact⟨k+1,R,h1,by go_num,h⟩
       case measure=>simp[intOf];omega
  . obtain rfl:k=n:=by omega
    have hRf:R=pk k P:=sS.out R qR qT (λa b ha hb=>by rw[hRe a b ha hb,if_pos (by unfold jH;omega)]);subst hRf;obtain⟨Bj,aQ⟩:=aM hO pb;clear hO hc hs pb qR qT hRe;obtain⟨Hr,Hd,Hb⟩:=cX (jE.out.below aQ.out) (JQ.out.below aQ.out) (aK dK.out aQ.out);obtain⟨r0,ai,r1,aj,r2,aG⟩:=Hr.out.g3;obtain⟨d0,d1,d2⟩:=Hd.out.c3;go_wp2_with fail;refine(ky.out _ Hb.out).mono ?_;rintro e gW ⟨rfl,uZ,ae⟩;clear r0 ai r1 aj r2 aG d0 d1 d2;replace Hr:=kB Hr ae;replace Hd:=kB Hd ae;obtain⟨r0,ai,r1,aj,r2,aG⟩:=Hr.out.g3;obtain⟨d0,d1,d2⟩:=Hd.out.c3;replace Hb:=az Hb ae;clear ae;have aaH:=ah (Bj.out.below uZ);clear uZ;have hzz:=dK.out.size;have jL:w.heap.size<w5.heap.size:=Nat.lt_of_lt_of_le jE.out.lt (Nat.le_refl _);go_wp2;refine fy (λkw=>ak kw w.heap.size 30 [.bool (ar (dN (G*X))),.string (bs (nt (dN (G*X)).natAbs)),.int .i64 (dE (G*X))]/\fM kw w5.heap.size k (pk k P) k (.slice (some ⟨go,0,none⟩) k cv)/\Bw w kw) ⟨((Hr.out.set 0 _).set 1 _).set 2 _,((aaH.out.aq2 jL _).aq2 jL _).aq2 jL _,((Hb.out.setCell zp _).setCell zp _).setCell zp _⟩ ?_;rintro kw ⟨ahV,ahM,ahb⟩;obtain⟨q0,q1,q2⟩:=ahV.c3;obtain⟨a9,c9,oC,GI,ht9⟩:=ahM.tbl (FT _ _) (FU _ _);simp only[Value.slice.injEq,true_and]at oC;obtain⟨rfl,rfl⟩:=oC;exact bodyPost_ret (v:=.tuple #[bH (G*X),.slice (some ⟨go,0,none⟩) k cv,.int .i64 0]) (by simp[results,Tryz.results55,go_sem,q0,q1,q2]) rfl ⟨_,_,rfl,GI,ht9,ahb⟩
theorem aim (a:Option Addr)(L cap:Nat)(rows:List (List Raw))(B:Nat)(c:Int)(w:World)(hL:rows.length=L)(lF:L<=5)(hcap:L<=cap)(ha:bo w a rows)(hfit:∀r∈rows,∀c∈r,Fit B c)(hB:B<=900000)(hT:aF w)(hc:fD rows=c)(h0:c≠0):
 Calls Tryz.prog 55 #[.slice a L cap] w λe w'=>e=.returned (.tuple #[.agg #[.bool false,.string ⟨#[]⟩,.int .i64 0],.slice none 0 0,.int .i64 c])/\Bw w w':=by
 have ez:=λW (hW:Bw w W)=>EC a L cap rows B W hL lF hcap (ha.below hW) hfit hB (hT.below hW);rw[hc]at ez;have jU:=ah ez;have hcn:(c !=0)=true:=by simpa using h0
 clear ez hc ha hT hfit hL;have Hb:Hid (Bw w w):=Below.refl _ _;go_enter Tryz.func55,Tryz.ntmps55;go_wp2_with fail;obtain⟨R,hR⟩:∃R:World->Prop,(λW=>ak W (w.heap.size) 30 [.bool false,.string ⟨#[]⟩,.int .i64 0]/\Bw w W)=R:=⟨_,rfl⟩;first|refine bN R ?hR ?_|refine bL R ?hR ?_
 case hR=>subst hR;exact⟨(ak.newAt w _ _ (b:=w.heap.size) rfl),zl⟩
 subst hR;rintro W ⟨qr,ae⟩;have Hr:=ah qr;clear qr;obtain⟨r0,ai,r1,aj,r2,aG⟩:=Hr.out.g3;replace Hb:=az Hb ae;clear ae;go_wp2_with fail;refine(jU.out _ Hb.out).mono ?_;rintro e w1 ⟨rfl,ae⟩;clear r0 ai r1 aj r2 aG;replace Hr:=kB Hr ae;obtain⟨r0,ai,r1,aj,r2,aG⟩:=Hr.out.g3;replace Hb:=az Hb ae;clear ae;go_wp2;clear r0 ai r1 aj r2 aG;refine fy (bK w1 (w.heap.size) 0 [.bool false,.string ⟨#[]⟩,.int .i64 0]) bV ?_;intro w9 hs;replace Hr:=cF Hr hs;obtain⟨r0,ai,r1,aj,r2,aG⟩:=Hr.out.g3;replace Hb:=bS Hb hs ZS;clear hs;refine bodyPost_ret (v:=.tuple #[.agg #[.bool false,.string ⟨#[]⟩,.int .i64 0],.slice none 0 0,.int .i64 c]) (by simp[results,Tryz.results55,go_sem,r0,r1,r2]) rfl ⟨rfl,Hb.out⟩
def fE (xs:List Raw):Nat->Dyadic:=λb=>(xs.map aC).getD b 0
theorem Jh (xs:List Raw)(k:Nat)(h:k<xs.length):fE xs k=aC xs[k]:=by unfold fE;simp[List.getD_eq_getElem?_getD,h]
def pX (n:Nat)(p:Nat->Nat->Dyadic)(x:Nat->Dyadic)(i:Nat):List Dyadic:=wZ n p x i::(List.range i).map λa=>gq n p x (a+1)
def gX (n:Nat)(p:Nat->Nat->Dyadic)(x:Nat->Dyadic):List Dyadic:=(List.range (n+1)).map λk=>gq n p x k
theorem akn (n:Nat)(p:Nat->Nat->Dyadic)(x:Nat->Dyadic)(i:Nat):(pX n p x i).length=i+1:=by simp[pX]
theorem ako (n:Nat)(p:Nat->Nat->Dyadic)(x:Nat->Dyadic)(i:Nat):(pX n p x i++[gq n p x (i+1)]).set 0 (wZ n p x i-gq n p x (i+1))=pX n p x (i+1):=by unfold pX;rw[List.range_succ,List.map_append];rfl
theorem akm (n:Nat)(hn:1<=n)(bI:n<=4)(p:Nat->Nat->Dyadic)(x:Nat->Dyadic):pX n p x n=gX n p x:=by unfold pX gX;rw[Qc n hn bI,List.range_succ_eq_map,List.map_cons,List.map_map];rfl
theorem Yp {w:World}{b base n:Nat}{e:TypeId}{size:Nat}{xs:List Value}(h:ak w b e xs)(hb:base<=b)(hl:xs.length=n*size)(hn:n<=1048576):w.ownsRow base e size (.slice (some ⟨b,0,none⟩) n n) n xs:=
 ⟨hl,.inr ⟨b,n,xs.toArray,rfl,hb,h,Nat.le_refl _,by unfold maxLen;omega,by simpa using hl,by rw[<-hl];simp⟩⟩
theorem bo.aq5 {w:World}{a:Option Addr}{T:List (List Dyadic)}{n:Nat}(h:bo w a (T.map λr=>r.map canon))(hl:T.length=n)(hr:∀r∈T,r.length=n)(k i:Nat)(hk:k<n)(hi:i<n):
 ∃b o br os cr,a=some ⟨b,o,none⟩/\w.cell? ⟨b,o+k,none⟩=some (.slice (some ⟨br,os,none⟩) n cr)/\bB w br (os+i*3) [.bool (ar (dN (bG T k i))),.string (bs (nt (dN (bG T k i)).natAbs)),.int .i64 (dE (bG T k i))]:=by
 have GY:k<T.length:=by omega
 obtain⟨b,o,a',c',h1,h2,h3⟩:=h.row k (by simpa using GY);have e1:(T.map λr=>r.map canon)[k]'(by simpa using GY)=T[k].map canon:=by simp
 have hlk:=hr _ (List.getElem_mem GY);rw[e1]at h2 h3;rw[List.length_map,hlk]at h2;have hik:i<T[k].length:=by omega
 have e2:bG T k i=T[k][i]:=by unfold bG;simp[List.getD_eq_getElem?_getD,GY,hik]
 obtain⟨br,os,e3,q0,q1,q2⟩:=h3.num i (by simpa using hik) (show(T[k].map canon)[i]'(by simpa using hik)=(ar (dN (bG T k i)),nt (dN (bG T k i)).natAbs,dE (bG T k i))by rw[e2];simp;rfl);subst e3;exact⟨b,o,br,os,c',h1,h2,iB q0 q1 q2⟩
def Sq (w:World)(n:Nat)(p:Nat->Nat->Dyadic)(x:Nat->Dyadic)(e:Ending)(w':World):Prop:=
 ∃a' c',e=.returned (.tuple #[.slice a' (n+1) c',.int .i64 0])/\n+1<=c'/\At w' a' (dC (gX n p x))/\Bw w w'
theorem Qd (a:Option Addr)(cap m:Nat)(rows:List (List Raw))(B:Nat)(xa:Option Addr)(xc:Nat)(xs:List Raw)(w:World)(hm:m+1<=4)(hr:Rw (m+1) B rows)(hcap:m+1+1<=cap)(ha:bo w a rows)(hx:At w xa (xs.flatMap bA))(hxl:xs.length=m+1)(vI:∀x∈xs,Fit B x)(hB:B<=200000)(hT:aF w)(h0:fD rows=0):
 Calls Tryz.prog 22 #[.slice a (m+1+1) cap,.slice xa (m+1) xc] w (Sq w (m+1) (bJ rows) (fE xs)):=by
 obtain⟨n,hn⟩:=aB (m+1);obtain⟨i0,hi,hz0,hz1,hz2⟩:=info_parts Tryz.aqU;have hL:=hr.1;have hrow:=hr.2.1;have hfit:=hr.2.2;have gB:=λW (hW:Bw w W)=>NR a cap m rows B W hm hr hcap (ha.below hW) hB (hT.below hW) h0;have lK:=λW (hW:Bw w W)=>Bb a (m+1+1) cap rows W hL zo (ha.below hW);rw[ww hL hrow zo zo]at lK;have hps:∀a b,a<=m+1->b<m+1->Sm B (bJ rows a b):=λa b ha hb=>by rw[sH rows a b zo (by rw[hrow _ (List.getElem_mem _)];exact hb)];exact(hfit _ (List.getElem_mem _) _ (List.getElem_mem _)).2
 have Ak:∀b,b<m+1->Sm B (fE xs b):=λb hb=>by rw[Jh xs b zo];exact(vI _ (List.getElem_mem _)).2
 have h00:0<rows.length:=by omega
 obtain⟨b,o,a0,c0,hab,hc0,gQ⟩:=ha.row 0 h00;have rf:rows[0].length=m+1:=hrow _ (List.getElem_mem h00);have xX:∀x∈rows[0],Fit B x:=hfit _ (List.getElem_mem h00);obtain⟨p0,xW⟩:=aB (rows[0]);rw[xW]at hc0 gQ rf xX;have hp0:∀k (h:k<p0.length),bJ rows 0 k=aC p0[k]:=λk h=>by subst xW;exact sH rows 0 k h00 h
 rw[rf,Nat.add_zero]at hc0;subst hab;obtain⟨P,hP⟩:=aB (bJ rows);rw[hP]at gB hps hp0⊢;obtain⟨xf,NL⟩:=aB (fE xs);have hxk:∀k (h:k<xs.length),xf k=aC xs[k]:=λk h=>by rw[<-NL];exact Jh xs k h
 rw[NL]at Ak⊢;have yc:=λi k (hk:k<=m+1)=>Jf zo hm hps Ak i k hk;have NH:=λk (hk:k<=m+1)=>Qb zo hm hps Ak k hk;have ol:=λk i=>Co zo hm hps k i;have hwt:=λi (hi:i<m+1)=>Bc (m+1) zo hm P xf i hi;have hend:=akm (m+1) zo hm P xf;have pM:=Lc (m+1) P;have htl:=FT (m+1) P;have htr:=FU (m+1) P;rw[hn]at gB lK hps Ak hxl hc0 rf yc NH ol hwt hend pM htl htr⊢;have bI:n<=4:=by omega
 have fh:1<=n:=by omega
 have se:b<w.heap.size:=World.block_lt_of_cell? w _ hc0;have yg:=jN (n+1) cap 0 0 (show some (⟨b,o,none⟩:Addr)=some ⟨b,o,none⟩from rfl) zo rfl;rw[Nat.zero_mul,Nat.add_zero]at yg;obtain⟨Hi,cN,cO,cH,iU,wY,HT,Hx,Hxl,Hxf,xe,mA⟩:=gh hi hz0 hz1 hz2 gB lK hT hx hxl vI hxk hps;obtain⟨adh,oQ,im,Kt,Ks,Kr,FH,HwZ,Bt,Sg,eG,KL⟩:=gh Ak hc0 gQ rf xX hp0 yc NH ol hwt hend pM;obtain⟨Cg,mC,BN⟩:=cX htl htr yg;clear hi hz0 hz1 hz2 gB lK hT hx hxl vI hxk hps Ak hc0 gQ rf xX hp0 yc NH ol hwt hend pM htl htr yg hP NL xW h00 ha hr hL hrow hfit h0 hn;have hnz:((n:Int)==0)=false:=by simp;omega
 have Hb:Hid (Bw w w):=Below.refl _ _;go_enter Tryz.func22,Tryz.ntmps22;go_wp2_with fail;refine(iU.out _ Hb.out).mono ?_;rintro e w1 ⟨a1,c1,rfl,hc1,ht1,ae⟩;have Cf:=ah ht1;replace Hb:=az Hb ae;clear ae ht1;obtain⟨dd,hdd⟩:=aB (lU (dz n P) *dz n P);have Hdd:=ah hdd;rw[hdd];clear hdd;obtain⟨W2,mH,ae,Hd⟩:=cS w1 30 [.bool (ar (dN dd)),.string (bs (nt (dN dd).natAbs)),.int .i64 (dE dd)];obtain⟨d0,d1,d2⟩:=Hd.out.c3;replace Hb:=az Hb ae;clear ae;have HA:Hid (bo W2 a1 ((pk n P).map λr=>r.map canon)):=Cf.out.below (by first|exact zl| (rw[<-mH];exact zl));clear Cf;go_wp2_with fail;refine(wY.out _ Hb.out).mono ?_;rintro e w3 ⟨rfl,ae⟩;clear d0 d1 d2;replace Hd:=kB Hd ae;replace HA:=kL HA ae;obtain⟨d0,d1,d2⟩:=Hd.out.c3;replace Hb:=az Hb ae;clear ae;have JQ:=Hd;have Jj:=HA;have dK:=Hb;have P0:=d0;have P1:=d1;have P2:=d2;have ahK:((n:Int) !=(n:Int)+1-1)=false:=by simp
 have ajb:=Hd.out.lt;obtain⟨W4,pH,ae,Hq⟩:=cS w3 30 [.bool (ar (dN dd)),.string (bs (nt (dN dd).natAbs)),.int .i64 (dE dd)];clear d0 d1 d2;replace Hd:=kB Hd ae;replace HA:=kL HA ae;obtain⟨d0,d1,d2⟩:=Hd.out.c3;obtain⟨q0,q1,q2⟩:=Hq.out.c3;replace Hb:=az Hb ae;clear ae;go_wp2_with fail;have hst:W4.ownsRow w3.heap.size 30 3 (.slice (some ⟨w3.heap.size,0,none⟩) 1 1) 1 (dC (pX n P xf 0)):=by
  have e:dC (pX n P xf 0)=[.bool (ar (dN dd)),.string (bs (nt (dN dd).natAbs)),.int .i64 (dE dd)]:=by unfold pX wZ;rw[Hdd.out];rfl
  rw[e];exact Yp Hq.out (Nat.le_refl _) rfl zo
 have cE:=ah hst;have Qm:Hid (Bw w3 W4):=by rw[<-pH];exact zl
 clear hst P0 P1 P2 ahK hnz;go_loopw[9,39] (λs9 x wr=>∃(i:Nat) (v:Value),i<=n/\x=.int .i64 (i:Int)/\v=s9/\wr.ownsRow w3.heap.size 30 3 v (i+1) (dC (pX n P xf i))/\Bw w3 wr) (λ_ x _=>n-(intOf x).toNat);case atStart=>exact⟨0,_,Nat.zero_le _,rfl,rfl,cE.out,Qm.out⟩
 case round=>
  clear cE Qm d0 d1 d2 q0 q1 q2 Hd Hq HA Hb;obtain⟨i,v,hi,rfl,rfl,ho,pb⟩:=hrel;by_cases hlt:i<n
  . obtain⟨wo,hwo⟩:∃wo,wo=wr:=⟨_,rfl⟩;subst hwo;have hvl:=ho.lt;obtain⟨Ho,aQ⟩:=aM ho pb;have gm:=pb.size;have yK:=dK.out.size;clear ho pb;have Hb:Hid (Bw wo wo):=Below.refl _ _;have lH:decide ((i:Int)<(n:Int))=true:=by simp;omega
    obtain⟨W5,xH,ae,Hy⟩:=cS wo 30 [.bool false,.string ⟨#[]⟩,.int .i64 0];obtain⟨y0,aR,y1,aS,y2,aW⟩:=Hy.out.g3;replace Hb:=az Hb ae;clear ae;have Ck:=Hy;have fB:=Hb;go_wp2_with fail;clear lH y0 aR y1 aS y2 aW Hy Hb;go_loopw[45] (λx wr=>∃k:Nat,k<=n/\x=.int .i64 (k:Int)/\ak wr wo.heap.size 30 [.bool (ar (dN (wS n P xf i k))),.string (bs (nt (dN (wS n P xf i k)).natAbs)),.int .i64 (dE (wS n P xf i k))]/\Bw wo wr) (λx _=>n-(intOf x).toNat);case atStart=>exact⟨0,Nat.zero_le _,rfl,((Ck.out.set 0 _).set 1 _).set 2 _,((fB.out.setCell (Nat.le_refl _) _).setCell (Nat.le_refl _) _).setCell (Nat.le_refl _) _⟩
    case round=>
     clear Ck fB;obtain⟨k,hk,rfl,hy,qb⟩:=hrel;by_cases bj:k<n
     . have MF:=aK aQ.out qb;have vd:=aK dK.out MF;have xO:k<xs.length:=by rw[Hxl.out];exact bj
       have nD:k<p0.length:=by rw[Kt.out];exact bj
       obtain⟨sx,mx,ex,jM⟩:=kI (xs[k]);obtain⟨sp,mp,ep,hpe⟩:=kI (p0[k]);have dL:=Hxf.out _ (List.getElem_mem xO);have eJ:=Ks.out _ (List.getElem_mem nD);rw[jM]at dL;rw[hpe]at eJ;obtain⟨bx,ox,MC,x0,x1,x2⟩:=(Hx.out.below vd).num k xO jM;obtain⟨bp,op,Dc,p1,p2,p3⟩:=(im.out.below vd).num k nD hpe;obtain⟨ba,oa,bq,oq,cq,Db,Dh,hq⟩:=(Jj.out.below MF).aq5 Cg.out mC.out k i bj hlt;rw[KL.out k i bj hlt]at hq;have NW:bx<w.heap.size:=by subst MC;exact Hx.out.lt (by intro h0;have:=congrArg List.length h0;rw[jW bA 3 (λ_=>rfl)]at this;simp at this;omega)
       obtain⟨D,hD⟩:=aB (aC (sx,mx,ex)-aC (sp,mp,ep));have LZ:xf k-P 0 k=D:=by rw[xe.out k xO,Kr.out k nD,jM,hpe];exact hD
       obtain⟨Q,hQ⟩:=aB (js n P k i);obtain⟨Z,hZ⟩:=aB (D*Q);obtain⟨S0,nX⟩:=aB (wS n P xf i k);obtain⟨S1,hS1⟩:=aB (wS n P xf i (k+1));have CU:S0+Z=S1:=by rw[<-hS1,<-hZ,<-LZ,<-hQ,<-nX];rfl
       have fJ:Sm (B+1) D:=by rw[<-LZ];exact Sm.sub (adh.out k bj) (mA.out 0 k zo bj)
       have mG:=Bt.out k i;rw[hQ]at mG hq;have xE:=FH.out i k zo;rw[nX]at xE hy;have ny:Sm (5*B+12) Z:=by rw[<-hZ];exact(Sm.mul fJ mG).mono zo
       have Fj:Hid (Fit (4*B+11) (canon D)):=(fJ.mono zo).fit zo;have BF:Hid (Fit (4*B+11) (canon Q)):=mG.fit zo;have BG:Hid (Fit (5*B+16) (canon S0)):=(xE.mono zo).fit zo;have uC:Hid (Fit (5*B+16) (canon Z)):=(ny.mono zo).fit zo;have HZ:Hid (aC (canon D) *aC (canon Q)=Z):=by show _=_;rw[bP,bP];exact hZ
       have Jv:Hid (aC (canon S0)+aC (canon Z)=S1):=by show _=_;rw[bP,bP];exact CU
       have Xo:=lM n xc k (k:Int) MC bj rfl;have ixp:=lM n c0 k (k:Int) Dc bj rfl;have NU:=tZ n c1 k (k:Int) Db bj rfl;rw[Nat.mul_one]at NU;have ixq:=jC n cq i (i:Int) (rfl:(some ⟨bq,oq,none⟩:Option Addr)=_) hlt rfl;have ua:=BN.out;obtain⟨Mp,HD,iT,lj,Br⟩:=fC hS1 hD dL eJ (HT.out.below vd);have Hy:Hid (ak wr wo.heap.size 30 [.bool (ar (dN S0)),.string (bs (nt (dN S0).natAbs)),.int .i64 (dE S0)]):=hy;have lv:Hid (bB wr bx (ox+k*3) [.bool sx,.string (bs mx),.int .i64 ex]):=iB x0 x1 x2;have Hp:Hid (bB wr bp (op+k*3) [.bool sp,.string (bs mp),.int .i64 ep]):=iB p1 p2 p3;have Hs:Hid (bB wr b o [.slice a0 n c0]):=λj hj=>by
        obtain rfl:j=0:=by simp at hj;omega
        exact cell_later vd oQ.out
       have Hr:Hid (bB wr ba (oa+k) [.slice (some ⟨bq,oq,none⟩) n cq]):=λj hj=>by
        obtain rfl:j=0:=by simp at hj;omega
        exact Dh
       have Hq:Hid (bB wr bq (oq+i*3) [.bool (ar (dN Q)),.string (bs (nt (dN Q).natAbs)),.int .i64 (dE Q)]):=hq;have jm:=ah qb;have PQ:=qb.size;have DV:=Hy.out.lt;clear x0 x1 x2 p1 p2 p3 Dh hq hy jM hpe dL eJ MC Dc Db hD LZ hQ hZ nX hS1 CU fJ mG xE ny qb MF vd;have Hb:Hid (Bw wr wr):=Below.refl _ _;go_wp2_with fail;obtain⟨y0,aR,y1,aS,y2,aW⟩:=Hy.out.g3;obtain⟨ji,jk,jl⟩:=lv.out.w3;obtain⟨p0,p1,p2⟩:=Hp.out.w3;have s0:=Hs.out.w1;have r0:=Hr.out.w1;obtain⟨q0,q1,q2⟩:=Hq.out.w3;have HU:Hid (aF wr):=Br.out;refine bM (λw'=>w'.cell? ⟨wo.heap.size,0,none⟩=some (.bool (ar (dN S0)))/\w'.cell? ⟨wo.heap.size,1,none⟩=some (.string (bs (nt (dN S0).natAbs)))/\w'.cell? ⟨wo.heap.size,2,none⟩=some (.int .i64 (dE S0))/\w'.cell? ⟨bx,ox+k*3,none⟩=some (.bool sx)/\w'.cell? ⟨bx,ox+k*3+1,none⟩=some (.string (bs mx))/\w'.cell? ⟨bx,ox+k*3+2,none⟩=some (.int .i64 ex)/\w'.cell? ⟨bp,op+k*3,none⟩=some (.bool sp)/\w'.cell? ⟨bp,op+k*3+1,none⟩=some (.string (bs mp))/\w'.cell? ⟨bp,op+k*3+2,none⟩=some (.int .i64 ep)/\w'.cell? ⟨b,o,none⟩=some (.slice a0 n c0)/\w'.cell? ⟨ba,oa+k,none⟩=some (.slice (some ⟨bq,oq,none⟩) n cq)/\w'.cell? ⟨bq,oq+i*3,none⟩=some (.bool (ar (dN Q)))/\w'.cell? ⟨bq,oq+i*3+1,none⟩=some (.string (bs (nt (dN Q).natAbs)))/\w'.cell? ⟨bq,oq+i*3+2,none⟩=some (.int .i64 (dE Q))) (λi=>Nat.blt i 23) [(0,true),(1,true),(2,true),(3,true),(4,true),(5,true),(6,true),(7,true),(8,true),(9,true),(10,true),(12,true),(13,true),(14,true),(15,true),(16,true),(17,true),(18,true),(11,false),(19,false),(20,false),(21,false),(22,false),(23,false)] zk zk rfl zk zc ⟨y0,y1,y2,ji,jk,jl,p0,p1,p2,s0,r0,q0,q1,q2⟩ ?_;iterate 18 (refine pT rfl rfl ?_ (by intro w' ⟨q0,q1,q2,q3,q4,q5,q6,q7,q8,q9,vY,AQ,AR,AU⟩;go_simp;try with_reducible rfl);try simp only[UU])
       refine aI rfl rfl (λK hK=>?_);go_simp;with_reducible refine(zM sx mx ex sp mp ep D B HD.out _ iT.out lj.out zo (by first|exact HU.out|exact aF.drew HU.out|exact aF.alloc HU.out _|exact aF.drew (aF.alloc HU.out _) |exact aF.alloc (aF.drew HU.out) _)).mono ?_
       rintro e w6 ⟨rfl,hq⟩;have ae:Bw wr w6:=by first|exact hq|exact aV hq
       clear y0 aR y1 aS y2 aW ji jk jl p0 p1 p2 s0 r0 q0 q1 q2;replace Hy:=kB Hy ae;replace lv:=kW lv ae;replace Hp:=kW Hp ae;replace Hs:=kW Hs ae;replace Hr:=kW Hr ae;replace Hq:=kW Hq ae;replace HU:=kT HU ae;obtain⟨y0,aR,y1,aS,y2,aW⟩:=Hy.out.g3;obtain⟨ji,jk,jl⟩:=lv.out.w3;obtain⟨p0,p1,p2⟩:=Hp.out.w3;have s0:=Hs.out.w1;have r0:=Hr.out.w1;obtain⟨q0,q1,q2⟩:=Hq.out.w3;replace Hb:=az Hb ae;clear ae;refine hK _ _ (λ_=>⟨y0,y1,y2,ji,jk,jl,p0,p1,p2,s0,r0,q0,q1,q2⟩) ?_;clear hK K;try simp only[UU]
       refine aI rfl rfl (λK hK=>?_);go_simp;refine hK _ _ (λ_=>⟨aJ y0,aJ y1,aJ y2,aJ ji,aJ jk,aJ jl,aJ p0,aJ p1,aJ p2,aJ s0,aJ r0,aJ q0,aJ q1,aJ q2⟩) ?_;clear hK K;try simp only[UU]
       refine bO (λW7=>ak W7 (w6.heap.size) 30 [.bool (ar (dN D)),.string (bs (nt (dN D).natAbs)),.int .i64 (dE D),.bool (ar (dN Q)),.string (bs (nt (dN Q).natAbs)),.int .i64 (dE Q)]/\Bw w6 W7) (by first|exact dU|exact dV) ?_;rintro W7 ⟨qe,ae⟩;clear y0 aR y1 aS y2 aW ji jk jl p0 p1 p2 s0 r0 q0 q1 q2;have aqd:=Hy.out.lt;replace Hy:=kB Hy ae;replace lv:=kW lv ae;replace Hp:=kW Hp ae;replace Hs:=kW Hs ae;replace Hr:=kW Hr ae;replace Hq:=kW Hq ae;replace HU:=kT HU ae;have He:=ah qe;clear qe;obtain⟨y0,aR,y1,aS,y2,aW⟩:=Hy.out.g3;obtain⟨ji,jk,jl⟩:=lv.out.w3;obtain⟨p0,p1,p2⟩:=Hp.out.w3;have s0:=Hs.out.w1;have r0:=Hr.out.w1;obtain⟨q0,q1,q2⟩:=Hq.out.w3;obtain⟨e0,e1,e2,e3,e4,e5⟩:=He.out.c6;replace Hb:=az Hb ae;clear ae;refine aI rfl rfl (λK hK=>?_);go_simp;with_reducible refine(Cx _ _ _ _ _ _ Z (4*B+11) HZ.out w6.heap.size _ 30 _ Fj.out BF.out zo He.out (by first|exact HU.out|exact aF.drew HU.out|exact aF.alloc HU.out _|exact aF.drew (aF.alloc HU.out _) |exact aF.alloc (aF.drew HU.out) _)).mono ?_
       rintro e w8 ⟨rfl,hq⟩;have ae:Bw W7 w8:=by first|exact hq|exact aV hq
       clear y0 aR y1 aS y2 aW ji jk jl p0 p1 p2 s0 r0 q0 q1 q2 e0 e1 e2 e3 e4 e5;replace Hy:=kB Hy ae;replace lv:=kW lv ae;replace Hp:=kW Hp ae;replace Hs:=kW Hs ae;replace Hr:=kW Hr ae;replace Hq:=kW Hq ae;replace HU:=kT HU ae;replace He:=kB He ae;obtain⟨y0,aR,y1,aS,y2,aW⟩:=Hy.out.g3;obtain⟨ji,jk,jl⟩:=lv.out.w3;obtain⟨p0,p1,p2⟩:=Hp.out.w3;have s0:=Hs.out.w1;have r0:=Hr.out.w1;obtain⟨q0,q1,q2⟩:=Hq.out.w3;obtain⟨e0,e1,e2,e3,e4,e5⟩:=He.out.c6;replace Hb:=az Hb ae;clear ae;refine hK _ _ (λ_=>⟨y0,y1,y2,ji,jk,jl,p0,p1,p2,s0,r0,q0,q1,q2⟩) ?_;clear hK K;try simp only[UU]
       refine aI rfl rfl (λK hK=>?_);go_simp;refine hK _ _ (λ_=>⟨aJ y0,aJ y1,aJ y2,aJ ji,aJ jk,aJ jl,aJ p0,aJ p1,aJ p2,aJ s0,aJ r0,aJ q0,aJ q1,aJ q2⟩) ?_;clear hK K;try simp only[UU]
       refine bO (λW9=>ak W9 (w8.heap.size) 30 [.bool (ar (dN S0)),.string (bs (nt (dN S0).natAbs)),.int .i64 (dE S0),.bool (ar (dN Z)),.string (bs (nt (dN Z).natAbs)),.int .i64 (dE Z)]/\Bw w8 W9) (by first|exact dU|exact dV) ?_;rintro W9 ⟨qf,ae⟩;clear y0 aR y1 aS y2 aW ji jk jl p0 p1 p2 s0 r0 q0 q1 q2 e0 e1 e2 e3 e4 e5;have ajn:=Hy.out.lt;have apv:=He.out.lt;replace Hy:=kB Hy ae;replace lv:=kW lv ae;replace Hp:=kW Hp ae;replace Hs:=kW Hs ae;replace Hr:=kW Hr ae;replace Hq:=kW Hq ae;replace HU:=kT HU ae;replace He:=kB He ae;have Hf:=ah qf;clear qf;obtain⟨y0,aR,y1,aS,y2,aW⟩:=Hy.out.g3;obtain⟨ji,jk,jl⟩:=lv.out.w3;obtain⟨p0,p1,p2⟩:=Hp.out.w3;have s0:=Hs.out.w1;have r0:=Hr.out.w1;obtain⟨q0,q1,q2⟩:=Hq.out.w3;obtain⟨e0,e1,e2,e3,e4,e5⟩:=He.out.c6;obtain⟨f0,f1,f2,f3,f4,f5⟩:=Hf.out.c6;replace Hb:=az Hb ae;clear ae;refine aI rfl rfl (λK hK=>?_);go_simp;with_reducible refine(Cw _ _ _ _ _ _ S1 (5*B+16) Jv.out w8.heap.size _ 30 _ BG.out uC.out zo Hf.out (by first|exact HU.out|exact aF.drew HU.out|exact aF.alloc HU.out _|exact aF.drew (aF.alloc HU.out _) |exact aF.alloc (aF.drew HU.out) _)).mono ?_
       rintro e fI ⟨rfl,hq⟩;have ae:Bw W9 fI:=by first|exact hq|exact aV hq
       clear y0 aR y1 aS y2 aW ji jk jl p0 p1 p2 s0 r0 q0 q1 q2 e0 e1 e2 e3 e4 e5 f0 f1 f2 f3 f4 f5;replace Hy:=kB Hy ae;replace lv:=kW lv ae;replace Hp:=kW Hp ae;replace Hs:=kW Hs ae;replace Hr:=kW Hr ae;replace Hq:=kW Hq ae;replace HU:=kT HU ae;replace He:=kB He ae;replace Hf:=kB Hf ae;obtain⟨y0,aR,y1,aS,y2,aW⟩:=Hy.out.g3;obtain⟨ji,jk,jl⟩:=lv.out.w3;obtain⟨p0,p1,p2⟩:=Hp.out.w3;have s0:=Hs.out.w1;have r0:=Hr.out.w1;obtain⟨q0,q1,q2⟩:=Hq.out.w3;obtain⟨e0,e1,e2,e3,e4,e5⟩:=He.out.c6;obtain⟨f0,f1,f2,f3,f4,f5⟩:=Hf.out.c6;replace Hb:=az Hb ae;clear ae;refine hK _ _ (λ_=>⟨y0,y1,y2,ji,jk,jl,p0,p1,p2,s0,r0,q0,q1,q2⟩) ?_;clear hK K;try simp only[UU]
       refine aI rfl rfl (λK hK=>?_);go_simp;refine hK _ _ (by first|exact λh=>absurd h zd|exact λ_=>⟨y0,y1,y2,ji,jk,jl,p0,p1,p2,s0,r0,q0,q1,q2⟩ |exact λ_=>⟨(by first|exact y0|exact aH zf y0|exact aH zf (aH zf y0) |exact aH zf (aH zf (aH zf y0))),(by first|exact y1|exact aH zf y1|exact aH zf (aH zf y1) |exact aH zf (aH zf (aH zf y1))),(by first|exact y2|exact aH zf y2|exact aH zf (aH zf y2) |exact aH zf (aH zf (aH zf y2))),(by first|exact ji|exact aH zf ji|exact aH zf (aH zf ji) |exact aH zf (aH zf (aH zf ji))),(by first|exact jk|exact aH zf jk|exact aH zf (aH zf jk) |exact aH zf (aH zf (aH zf jk))),(by first|exact jl|exact aH zf jl|exact aH zf (aH zf jl) |exact aH zf (aH zf (aH zf jl))),(by first|exact p0|exact aH zf p0|exact aH zf (aH zf p0) |exact aH zf (aH zf (aH zf p0))),(by first|exact p1|exact aH zf p1|exact aH zf (aH zf p1) |exact aH zf (aH zf (aH zf p1))),(by first|exact p2|exact aH zf p2|exact aH zf (aH zf p2) |exact aH zf (aH zf (aH zf p2))),(by first|exact s0|exact aH zf s0|exact aH zf (aH zf s0) |exact aH zf (aH zf (aH zf s0))),(by first|exact r0|exact aH zf r0|exact aH zf (aH zf r0) |exact aH zf (aH zf (aH zf r0))),(by first|exact q0|exact aH zf q0|exact aH zf (aH zf q0) |exact aH zf (aH zf (aH zf q0))),(by first|exact q1|exact aH zf q1|exact aH zf (aH zf q1) |exact aH zf (aH zf (aH zf q1))),(by first|exact q2|exact aH zf q2|exact aH zf (aH zf q2) |exact aH zf (aH zf (aH zf q2)))⟩) ?_;clear hK K;try simp only[UU]
       simp only[aZ];have MH:=aK jm.out Hb.out;have wJ:=ah MH;clear MH;go_wp2;refine⟨⟨k+1,by omega,by go_num,?_,?_⟩,by simp[intOf];omega⟩
       . rw[Mp.out];exact((Hy.out.set 0 _).set 1 _).set 2 _
       . exact((wJ.out.setCell (Nat.le_refl _) _).setCell (Nat.le_refl _) _).setCell (Nat.le_refl _) _
     . obtain rfl:k=n:=by omega
       rw[Sg.out i hlt]at hy;obtain⟨T,hTe⟩:=aB (gq k P xf (i+1));have hTs:=FH.out i k (Nat.le_refl _);rw[Sg.out i hlt,hTe]at hTs;rw[hTe]at hy;obtain⟨Y,hY⟩:=aB (wZ k P xf i-T);have hnx:=ako k P xf i;rw[hTe,hY]at hnx;have BH:Hid (Fit (5*B+20) (canon T)):=(hTs.mono zo).fit zo;have uC:Hid (Fit (5*B+20) (canon (wZ k P xf i))):=((HwZ.out i zo).mono zo).fit zo;have HY:Hid (aC (canon (wZ k P xf i))-aC (canon T)=Y):=by show _=_;rw[bP,bP];exact hY
       obtain⟨O,hO⟩:=aB (pX k P xf i);obtain⟨W0,hW0⟩:=aB (wZ k P xf i);have Uq:∃O',O=W0::O':=⟨_,by rw[<-hO,<-hW0];rfl⟩;rw[hO]at hnx;have hov:=ownsRow_below Ho.out qb;rw[hO]at hov;rw[hW0]at uC HY;replace HY:Hid (aC (ar (dN W0),nt (dN W0).natAbs,dE W0)-aC (ar (dN T),nt (dN T).natAbs,dE T)=Y):=by show _=_;have h:=HY.out;exact h
       replace uC:Hid (Fit (5*B+20) (ar (dN W0),nt (dN W0).natAbs,dE W0)):=uC;replace BH:Hid (Fit (5*B+20) (ar (dN T),nt (dN T).natAbs,dE T)):=BH;have Us:O.length=i+1:=by rw[<-hO];exact akn _ _ _ _
       have Hy:Hid (ak wr wo.heap.size 30 [.bool (ar (dN T)),.string (bs (nt (dN T).natAbs)),.int .i64 (dE T)]):=hy;obtain⟨cM,jm,mZ,HO0,HOl,Br⟩:=gF hov qb hnx Uq Us (HT.out.below (aK dK.out (aK aQ.out qb)));have PQ:=qb.size;have hvb:∀g,v.ownBlock=some g->g<wo.heap.size:=λg e=>(hvl g e).2;clear hy hov qb hnx Uq Us hTs hTe hY hO hW0 Ho hvl;have Hb:Hid (Bw wr wr):=Below.refl _ _;have DV:=Hy.out.lt;obtain⟨y0,y1,y2⟩:=Hy.out.c3;have P0:=y0;have P1:=y1;have P2:=y2;have ajm:=Hy.out.lt;obtain⟨W6,od,ae,Hc⟩:=cS wr 30 [.bool (ar (dN T)),.string (bs (nt (dN T).natAbs)),.int .i64 (dE T)];clear y0 y1 y2;replace Hy:=kB Hy ae;obtain⟨y0,y1,y2⟩:=Hy.out.c3;obtain⟨c0,c1,c2⟩:=Hc.out.c3;replace Hb:=az Hb ae;clear ae;have cG:=ownsRow_below cM.out Hb.out;have iz:=Hb.out.size;go_wp2_with (at_builtin;refine wpList_append_own_at _ rfl _ _ 45 rfl w3.heap.size 30 i0 _ 3 32 Tryz.underlying45 Hi.out cN.out cO.out cH.out rfl zd v (i+1) (dC O) rfl cG ⟨wr.heap.size,0,none⟩ 1 1 [.bool (ar (dN T)),.string (bs (nt (dN T).natAbs)),.int .i64 (dE T)] rfl rfl (fX Hc.out) zy zx zo zo ?_;intro v' w7 dQ eT _ fq;obtain⟨g',lC,rfl⟩:=ownsRow_succ dQ);have ahr:g'≠wo.heap.size:=by
        rcases fq with h|h
        . have:=hvb g' h.symm;omega
        . have h9:g'=W6.heap.size:=Option.some.inj h;omega
       have vG:some wo.heap.size≠v.ownBlock:=λe=>by have:=hvb _ e.symm;omega
       have DU:=Hy.out.grown eT vG;have jy:=(aK (aK aQ.out jm.out) Hb.out).grown eT zo (λj e=>cZ cG j e);have e7:dC O++[.bool (ar (dN T)),.string (bs (nt (dN T).natAbs)),.int .i64 (dE T)]=dC (O++[T]):=by rw[rN];rfl
       rw[e7]at dQ
       have hwo:=(by
        obtain⟨O',hO'⟩:=HO0.out;obtain⟨aa,ca,oC,qV,_⟩:=dG dQ;simp only[Value.slice.injEq,true_and]at oC;obtain⟨rfl,rfl⟩:=oC;rw[pq]at qV;obtain⟨b9,o9,e9,z0,z1,z2⟩:=qV.num 0 zm (show((O++[T]).map canon)[0]'zm=(ar (dN W0),nt (dN W0).natAbs,dE W0)by simp[hO'];rfl);simp only[Option.some.injEq,Addr.mk.injEq,and_true]at e9;obtain⟨rfl,rfl⟩:=e9;rw[Nat.zero_mul,Nat.zero_add]at z0 z1 z2
        exact iB z0 z1 z2:bB w7 g' 0 [.bool (ar (dN W0)),.string (bs (nt (dN W0).natAbs)),.int .i64 (dE W0)])
       have MQ:=yA dQ;obtain⟨BR,oP⟩:=aM dQ jy;have Ho:Hid (bB w7 g' 0 [.bool (ar (dN W0)),.string (bs (nt (dN W0).natAbs)),.int .i64 (dE W0)]):=hwo;have Jy:=ah (HT.out.below (aK dK.out jy));replace Hy:Hid (ak w7 wo.heap.size 30 [.bool (ar (dN T)),.string (bs (nt (dN T).natAbs)),.int .i64 (dE T)]):=DU;clear P0 P1 P2 y0 y1 y2 c0 c1 c2 dQ jy hwo DU fq vG e7 Hb Hc cG eT cM Br;have Hb:Hid (Bw w7 w7):=Below.refl _ _;have NV:=jC (i+1+1) lC 0 0 (rfl:(some ⟨g',0,none⟩:Option Addr)=_) zo rfl;rw[Nat.zero_mul,Nat.add_zero]at NV;have o0:w7.cell? ⟨g',0,none⟩=some (.bool (ar (dN W0))):=Ho.out.cell 0 zm;have o1:w7.cell? ⟨g',1,none⟩=some (.string (bs (nt (dN W0).natAbs))):=Ho.out.cell 1 zm;have o2:w7.cell? ⟨g',2,none⟩=some (.int .i64 (dE W0)):=Ho.out.cell 2 zm;obtain⟨y0,y1,y2⟩:=Hy.out.c3;have HU:Hid (aF w7):=Jy.out;refine bM (λw'=>w'.cell? ⟨g',0,none⟩=some (.bool (ar (dN W0)))/\w'.cell? ⟨g',1,none⟩=some (.string (bs (nt (dN W0).natAbs)))/\w'.cell? ⟨g',2,none⟩=some (.int .i64 (dE W0))/\w'.cell? ⟨wo.heap.size,0,none⟩=some (.bool (ar (dN T)))/\w'.cell? ⟨wo.heap.size,1,none⟩=some (.string (bs (nt (dN T).natAbs)))/\w'.cell? ⟨wo.heap.size,2,none⟩=some (.int .i64 (dE T))) (λi=>Nat.blt i 7) [(0,true),(1,true),(2,true),(3,true),(4,true),(5,false),(6,true),(7,false)] zk zk rfl zk zc ⟨o0,o1,o2,y0,y1,y2⟩ ?_;iterate 5 (refine pT rfl rfl ?_ (by intro w' ⟨q0,q1,q2,q3,q4,q5⟩;go_simp;try with_reducible rfl);try simp only[UU])
       refine aI rfl rfl (λK hK=>?_);go_simp;with_reducible refine(zM (ar (dN W0)) (nt (dN W0).natAbs) (dE W0) (ar (dN T)) (nt (dN T).natAbs) (dE T) Y (5*B+20) HY.out _ uC.out BH.out zo (by first|exact HU.out|exact aF.drew HU.out|exact aF.alloc HU.out _|exact aF.drew (aF.alloc HU.out _) |exact aF.alloc (aF.drew HU.out) _)).mono ?_
       rintro e w8 ⟨rfl,hq⟩;have ae:Bw w7 w8:=by first|exact hq|exact aV hq
       clear o0 o1 o2 y0 y1 y2;replace Ho:=kW Ho ae;replace Hy:=kB Hy ae;replace HU:=kT HU ae;have o0:w8.cell? ⟨g',0,none⟩=some (.bool (ar (dN W0))):=Ho.out.cell 0 zm;have o1:w8.cell? ⟨g',1,none⟩=some (.string (bs (nt (dN W0).natAbs))):=Ho.out.cell 1 zm;have o2:w8.cell? ⟨g',2,none⟩=some (.int .i64 (dE W0)):=Ho.out.cell 2 zm;obtain⟨y0,y1,y2⟩:=Hy.out.c3;replace Hb:=az Hb ae;clear ae;refine hK _ _ (λ_=>⟨o0,o1,o2,y0,y1,y2⟩) ?_;clear hK K;try simp only[UU]
       refine pT rfl rfl ?_;try simp only[UU]
       refine aI rfl rfl (λK hK=>?_);have dW:=ownsRow_below BR.out Hb.out;have jg:=mM dW 0;have iI:=mM dW 1;have nV:=mM dW 2;have fR:=aK oP.out Hb.out;obtain⟨iE,ia⟩:=aM dW fR;clear dW fR;go_simp;refine hK _ _ (λh=>absurd h zd) ?_;clear hK K;try simp only[UU]
       simp only[aZ];go_wp2;go_roundw;case rel=>
        refine⟨i+1,_,by omega,by go_num,rfl,?_,?_⟩
        . have h:=Tg (O++[T]) 0 Y;rw[mZ.out]at h;rw[<-h];exact jP (jP (jP iE.out _ _) _ _) _ _
        . exact((ia.out.setCell MQ.1 _).setCell MQ.1 _).setCell MQ.1 _
       case measure=>simp[intOf];omega
  . obtain rfl:i=n:=by omega
    rw[eG.out]at ho;obtain⟨ho',aQ⟩:=aM ho (aK dK.out pb);clear ho pb;go_wp2;obtain⟨a',c',e1,h1,h2⟩:=dG ho'.out;subst e1;have hcc:i+1<=c':=by
     rcases ho'.out.2 with⟨h,h0⟩ |⟨g9,aeM,afj,h,_,_,h6,_⟩
     . omega
     . simp only[Value.slice.injEq,true_and]at h;omega
    exact bodyPost_ret (v:=.tuple #[.slice a' (i+1) c',.int .i64 0]) (by simp[results,Tryz.results22,go_sem]) rfl ⟨a',c',rfl,hcc,h1,aQ.out⟩
end Go.Proofs.YtdaadlblknpipaaGreatDoor
