/- Package slices: Clone,Delete,over numbers. -/
import Derived.Test.YtdaadlblknpipaaGreatDoorZ15
import Derived.Lib.SliceRun
import Derived.Test.YtdaadlblknpipaaGreatDoorZ16
import Derived.Test.YtdaadlblknpipaaGreatDoorZ14
import Derived.Test.YtdaadlblknpipaaGreatDoorZ13
set_option linter.unusedVariables false
set_option linter.unusedSimpArgs false
set_option maxRecDepth 100000
set_option maxHeartbeats 16000000
namespace Go.Proofs.YtdaadlblknpipaaGreatDoor
open Go.RowKit
attribute [local go_sem ↓] Go.wp_at_zero Go.wp_at_succ
theorem acG (a:Option Addr)(n cap:Nat)(cS:List Raw)(w:World)(hn:cS.length=n)(hl:n<=1048576)(hs:a=none->n=0/\cap=0)(ha:At w a (cS.flatMap bB)):
 Calls Tryz.prog 162 #[.slice a n cap] w λe w'=>∃v',e=.returned v'/\w'.ownsRow w.heap.size 30 3 v' n (cS.flatMap bB)/\Bw w w':=by
 obtain⟨i0,hi,hz0,hz1,hz2⟩:=info_parts Tryz.an8;have q:=λ(w:World) (a:Option Addr) (n c n' c':Nat)=>Lib.run_eql_slice_nil (P:=Tryz.prog) w 45 30 a n c n' c' Tryz.underlying45;have hlen:(cS.flatMap bB).length=n*3:=by rw[jg bB 3 (λ_=>rfl),hn]
 obtain⟨cs,hcs⟩:=aC (cS.flatMap bB);have h1:=Gn cS;rw[hcs]at hlen ha h1⊢;obtain⟨mG,Ha,H1,Hs,Hi,cM,cN,cJ⟩:=ng hlen ha h1 hs hi hz0 hz1 hz2;clear hlen ha h1 hs hi hz0 hz1 hz2 hn hcs;cases a with
 |none=>obtain⟨hn0,hc⟩:=Hs.out rfl;subst hc;subst hn0;go_enter Tryz.func162,Tryz.ntmps162;go_wp2;go_ret;refine⟨_,rfl,?_,Below.refl _ _⟩;have e:cs=[]:=List.eq_nil_of_length_eq_zero (by have:=mG.out;omega);rw[e];exact World.ownsRow_nil _ _ _ _
 |some ad=>go_enter Tryz.func162,Tryz.ntmps162;go_wp2_with (at_builtin;refine XO rfl _ _ 45 rfl w.heap.size 30 i0 _ 3 32 Tryz.underlying45 Hi.out cM.out cN.out cJ.out rfl zd _ 0 [] rfl (World.ownsRow_made w #[] 0 (Nat.le_refl _) (Nat.zero_le _) zm) (some ad) n cap cs rfl Hs.out mG.out (Ha.out.below ((Below.refl _ w).alloc (Nat.le_refl _) _)) H1.out zx zo zm ?_;intro v' w1 hown hgrow fJ);go_ret;refine⟨v',rfl,by simpa using hown,?_⟩;exact((Below.refl _ w).alloc (Nat.le_refl _) _).grown hgrow zm (λk hk=>by have h9:w.heap.size=k:=Option.some.inj hk;omega)
theorem Tryz.aok (w:World):(zeroValue 30).run Tryz.prog w=.ok (.agg #[.bool false,.string ⟨#[]⟩,.int .i64 0]) w:=by kernel_rfl
theorem adJ {α:Type}(f:α->List Value)(sz:Nat)(hf:∀x,(f x).length=sz)(xs:List α)(i:Nat)(hi:i<xs.length):(xs.eraseIdx i).flatMap f=(xs.flatMap f).take (i*sz)++(xs.flatMap f).drop ((i+1) *sz):=by
 have e:xs=xs.take i++xs[i]::xs.drop (i+1):=by rw[List.getElem_cons_drop,List.take_append_drop]
 have hl:((xs.take i).flatMap f).length=i*sz:=by rw[jg f sz hf,List.length_take,Nat.min_eq_left zo]
 have e1:xs.flatMap f=(xs.take i).flatMap f++(f xs[i]++(xs.drop (i+1)).flatMap f):=by
  conv=>lhs;rw[e]
  rw[List.flatMap_append,List.flatMap_cons]
 rw[e1,List.take_left' hl,List.drop_append,hl,List.drop_of_length_le (by rw[hl,Nat.add_mul];omega)];rw[show(i+1) *sz-i*sz=sz by rw[Nat.add_mul,Nat.one_mul];omega,List.nil_append,List.drop_left' (hf _),List.eraseIdx_eq_take_drop_succ,List.flatMap_append]
theorem ada (g m cap i base:Nat)(cS:List Raw)(w:World)(hn:cS.length=m+1)(hl:m<=1048576)(hi:i<=m)
 (ho:w.ownsRow base 30 3 (.slice (some ⟨g,0,none⟩) (m+1) cap) (m+1) (cS.flatMap bB)):
 Calls Tryz.prog 161 #[.slice (some ⟨g,0,none⟩) (m+1) cap,.int .i64 (i:Int),.int .i64 ((i+1:Nat):Int)] w λe w'=>e=.returned (.slice (some ⟨g,0,none⟩) m cap)/\
  w'.ownsRow base 30 3 (.slice (some ⟨g,0,none⟩) m cap) m ((cS.eraseIdx i).flatMap bB)/\w.grownBy w' (some g):=by
 obtain⟨i0,hi0,hz0,hz1,hz2⟩:=info_parts Tryz.an8;have hcap:m+1<=cap:=(uI ho).1;have hcm:cap<=9223372036854775807:=by
  rcases ho.2 with⟨h1,_⟩ |⟨g',cap',cur,h1,hb,hg,h4,h5,_⟩
  . simp at h1
  . simp only[Value.slice.injEq]at h1;obtain⟨_,_,rfl⟩:=h1;unfold maxLen at h5;omega
 have FB:=adJ bB 3 (λ_=>rfl) cS i zo;have hlen:(cS.flatMap bB).length=(m+1) *3:=by rw[jg bB 3 (λ_=>rfl),hn]
 have h1:=Gn cS;obtain⟨cs,hcs⟩:=aC (cS.flatMap bB);obtain⟨rs,hrs⟩:=aC ((cS.eraseIdx i).flatMap bB);rw[hcs]at hlen ho h1 FB;rw[hrs]at FB⊢;have yG:=Wp ho i zo;obtain⟨ad,had⟩:=aC (if cap=i+1 then(⟨g,0,none⟩:Addr)else⟨g,(i+1) *3,none⟩);have hsl:(if cap=i+1 then some (⟨g,0,none⟩:Addr)else some ⟨g,(i+1) *3,none⟩)=some ad:=by rw[<-had];split<;>rfl
 have hnews:Hid (∀j u,(cs.drop ((i+1) *3))[j]?=some u->w.drew.cell? (ad.add j)=some u):=by
  intro j u hj;rw[List.getElem?_drop]at hj;have hlt:=(List.getElem?_eq_some_iff.1 hj).1;have Fu:¬cap=i+1:=by omega
  rw[if_neg Fu]at had;subst had;have e2:((⟨g,(i+1) *3,none⟩:Addr).add j)=⟨g,(i+1) *3+j,none⟩:=by unfold Addr.add;cases j<;>simp
  rw[e2];have:=ho.cells (g:=g) rfl ((i+1) *3+j) u hj;have e3:((⟨g,0,none⟩:Addr).add ((i+1) *3+j))=⟨g,(i+1) *3+j,none⟩:=by unfold Addr.add;split<;>simp;omega
  rw[e3]at this;exact this
 have hnl:Hid ((cs.drop ((i+1) *3)).length=(m-i) *3):=by show _=_;rw[List.length_drop,hlen];omega
 have dA:Hid (∀u∈cs.drop ((i+1) *3),u.oneCell'=true):=λu hu=>h1 u (List.mem_of_mem_drop hu);have PV:Hid (w.drew.ownsRow base 30 3 (.slice (some ⟨g,0,none⟩) i cap) i (cs.take (i*3))):=yG;obtain⟨YW,ZI,Ji,xR,Hi,cN⟩:=gJ FB hnews.out hnl.out dA.out hi0 hz1;have z:=Tryz.aok;clear hnews hnl dA ho yG hlen h1 FB hcs hrs hn hi0 hz0 hz1 hz2;have hw1:IntKind.i64.wrap ((i:Int)+1)=((i+1:Nat):Int):=by rw[IntKind.wrap_i64];omega
 have hne:((i:Int)==((i+1:Nat):Int))=false:=by simp;omega
 have hcm2:¬cap=m:=by omega
 have sD:i+1<=m+1:=by omega
 have hmc:i+1<=cap:=by omega
 have hic:i<=cap:=by omega
 have h0i:(0:Int)<=(i:Int)+1:=by omega
 clear had;go_enter Tryz.func161,Tryz.ntmps161;go_wp2_with fail;have Hb:Hid (Bw w w):=Below.refl _ _;refine bD (λw'=>True) (λi=>Nat.blt i 100000) [(0,true),(1,true),(2,true),(3,true),(4,true),(5,true),(6,false),(7,true)] zk zk rfl zk zc True.intro ?_;iterate 6 (refine pT rfl rfl ?_;try simp only[UU])
 refine aJ rfl rfl (λK hK=>?_);refine wp_append_own_spare _ _ _ 45 rfl base 30 i0 3 Tryz.underlying45 Hi.out cN.out g i cap (cs.take (i*3)) rfl PV.out ad (m-i) (cap-(i+1)) (cs.drop ((i+1) *3)) rfl Ji.out ZI.out xR.out zo ?_;intro w1 cP hg1;refine hK _ _ (λ_=>True.intro) ?_;clear hK K;try simp only[UU]
 refine pT rfl rfl ?_;try simp only[Act.put,U1,U2]
 simp only[aU];have e9:i+(m-i)=m:=by omega
 rw[e9,<-YW.out]at cP;obtain⟨w2,hcl,eo,hg2⟩:=WT w1 45 30 _ 3 Tryz.underlying45 Tryz.aok rfl (by intro v hv;simp[Value.cells]at hv;rcases hv with rfl|rfl|rfl<;>rfl) g m 1 cap (cap-m) base rs cP zo;have rM:=ah eo;have YZ:Hid (w.grownBy w2 (some g)):=grownBy_trans ⟨hg1.os,hg1.tape,hg1.output,hg1.size,hg1.block⟩ hg2;clear cP hg1 eo hg2 PV hsl;go_wp2;go_ret;exact⟨rfl,rM.out,YZ.out⟩
theorem adK (l:List Dyadic)(c:Nat):(l.map canon).eraseIdx c=(l.eraseIdx c).map canon:=by apply List.ext_getElem?;intro i;rw[List.getElem?_eraseIdx,List.getElem?_map,List.getElem?_map,List.getElem?_map,List.getElem?_eraseIdx];split<;>rfl
theorem akD (a:Option Addr)(cap m r c:Nat)(R:List (List Dyadic))(w:World)(hL:R.length=m+1)(hrow:∀x∈R,x.length=m+1)(hr:r<=m)(hc:c<=m)(hm:m<=7)(ha:aX w a (R.map λx=>x.map canon)):
 Calls Tryz.prog 133 #[.slice a (m+1) cap,.int .i64 (r:Int),.int .i64 (c:Int)] w λe w'=>∃a' c',e=.returned (.slice a' m c')/\m<=c'/\aX w' a' ((jA R r c).map λx=>x.map canon)/\Bw w w':=by
 obtain⟨j0,hj,hy0,hy1,hy2⟩:=info_parts Tryz.aof;obtain⟨S,hS⟩:=aC (jA R r c);have iB:=VS R r c m hL hr;have qw:=VT R r c m hrow hc;have Ld:=VR R r c m hL hr;rw[hS]at iB qw Ld⊢;have pK:∀(W:World) (k:Nat) (hk:k<m+1),Bw w W->∃b o a1 c1,∃x:List Dyadic,R.getD k []=x/\x.length=m+1/\a=some ⟨b,o,none⟩/\W.cell? ⟨b,o+k,none⟩=some (.slice (some a1) (m+1) c1)/\At W (some a1) ((x.map canon).flatMap bB):=by
  intro W k hk hb;have TN:k<R.length:=by omega
  obtain⟨b,o,a1,c1,h1,h2,h3⟩:=(ha.below hb).row k (by simp[hL];omega);have e1:(R.map λx=>x.map canon)[k]'(by simp[hL];omega)=R[k].map canon:=by simp
  have hxl:=hrow _ (List.getElem_mem TN);rw[e1]at h2 h3;rw[List.length_map,hxl]at h2;cases a1 with
  | none=>
    rcases h3 with h3|⟨_,_,h3,_⟩
    . have:=congrArg List.length h3;rw[jg bB 3 (λ_=>rfl),List.length_map,hxl]at this;simp at this
    . cases h3
  |some a1=>exact⟨b,o,a1,c1,R[k],by simp[List.getD_eq_getElem?_getD,TN],hxl,h1,h2,h3⟩
 obtain⟨Hj,jv,kX,kY,Ij,HSr,Yt,AK⟩:=ng hj hy0 hy1 hy2 iB qw Ld pK;clear hj hy0 hy1 hy2 iB qw Ld pK hS ha hL hrow;have Hb:Hid (Bw w w):=Below.refl _ _;go_enter Tryz.func133,Tryz.ntmps133;go_wp2_with fail;go_loopw[7,12] (λs7 x wr=>∃(k:Nat) (v:Value),k<=m+1/\x=.int .i64 (k:Int)/\v=s7/\Own2 45 wr w.heap.size S (if k<=r then k else k-1) v/\Bw w wr) (λ_ x _=>m+1-(intOf x).toNat);case atStart=>exact⟨0,_,Nat.zero_le _,rfl,rfl,by rw[if_pos (Nat.zero_le _)];exact Own2.nil _ _ _ _,Hb.out⟩
 case round=>
  clear Hb;obtain⟨k,v,hk,rfl,rfl,pv,pb⟩:=hrel;by_cases hlt:k<m+1
  . obtain⟨b,o,a1,c1,x,jk,hxl,rfl,hc1,hat⟩:=AK.out wr k hlt pb;have bA:=wO (m+1) cap k (k:Int) (rfl:(some ⟨b,o,none⟩:Option Addr)=_) hlt rfl;rw[Nat.mul_one]at bA;by_cases hkr:k=r
    . subst hkr;obtain⟨cW,aR⟩:=aM pv pb;clear pv pb jk hxl hat;have h3:((k:Int) !=(k:Int))=false:=by simp
      go_wp2;go_roundw;case rel=>exact⟨k+1,v,by omega,by go_num,rfl,by have h:=cW.out;rw[if_pos (Nat.le_refl _)]at h;rw[if_neg zo];exact h,aR.out⟩
      case measure=>simp[intOf];omega
    . have h3:((k:Int) !=(r:Int))=true:=by simp;omega
      have h4:¬(k:Int)=(r:Int):=by omega
      obtain⟨j,hj⟩:=aC (if k<=r then k else k-1);have mS:(if k+1<=r then k+1 else k+1-1)=j+1:=by rw[<-hj];split<;>split<;>omega
      have hjm:j<m:=by rw[<-hj];split<;>omega
      have TI:(if j<r then j else j+1)=k:=by rw[<-hj];split<;>split<;>omega
      have Le:S.getD j []=x.eraseIdx c:=by rw[Yt.out j hjm,TI,jk]
      rw[hj]at pv;obtain⟨Z,hZ⟩:=aC (x.eraseIdx c);have tT:Z.length=m:=by rw[<-hZ,List.length_eraseIdx_of_lt zo];omega
      rw[hZ]at Le
      -- the row,without its number
      have Te:∀W,Bw wr W->Calls Tryz.prog 162 #[.slice (some a1) (m+1) c1] W λe w'=>∃g cc,e=.returned (.slice (some ⟨g,0,none⟩) (m+1) cc)/\(wr.heap.size<=g/\∀W',Bw wr W'->w'=W'->Calls Tryz.prog 161 #[.slice (some ⟨g,0,none⟩) (m+1) cc,.int .i64 (c:Int),.int .i64 ((c:Int)+1)] W' λe w''=>e=.returned (.slice (some ⟨g,0,none⟩) m cc)/\w''.ownsRow wr.heap.size 30 3 (.slice (some ⟨g,0,none⟩) m cc) m (dC Z)/\Bw wr w'')/\Bw W w':=by intro W hW;refine(acG (some a1) (m+1) c1 (x.map canon) W (by rw[List.length_map,hxl]) zo (λe=>by cases e) (hat.below hW)).mono ?_;rintro e w' ⟨v',rfl,ho,hb⟩;obtain⟨g,cc,rfl,hg1,hg2,hg3⟩:=ze ho zo;have hsz:=hW.size;refine⟨g,cc,rfl,⟨by omega,λW' hW' e=>?_⟩,hb⟩;subst e;have hd:=ada g m cc c wr.heap.size (x.map canon) w' (by rw[List.length_map,hxl]) zo hc (oF ho zo);rw[show((c+1:Nat):Int)=(c:Int)+1 by omega]at hd;refine hd.mono ?_;rintro e w'' ⟨rfl,eo,hg⟩;rw[adK,hZ,<-rS]at eo;exact⟨rfl,eo,hW'.grown hg hW'.size (λi e=>by have h9:g=i:=Option.some.inj e;omega)⟩
      obtain⟨Pi,OV,pV,cW,aR,Zk⟩:=gJ Te Le tT pv pb mS;clear Te Le tT hZ pv pb mS TI hj jk hxl hat;have iu:=aR.out.size;have hwc:IntKind.i64.wrap ((c:Int)+1)=((c+1:Nat):Int):=by rw[IntKind.wrap_i64];omega
      have Fu:(c:Int)+1=((c+1:Nat):Int):=by omega
      obtain⟨JL,Hci⟩:=aM hwc Fu;clear hwc Fu;go_wp2_with fail;refine(Pi.out _ (Below.refl _ _)).mono ?_;rintro e w4 ⟨g,cc,rfl,⟨hg1,hdel⟩,hb4⟩;have Po:=ah (hdel w4 hb4 rfl);clear hdel hc1 bA;go_wp2_with fail;refine Po.out.mono ?_;rintro e w5 ⟨rfl,Mc,dm⟩;have fI:=Mc.lt;obtain⟨a2,c2,Lz,ma,_⟩:=dK Mc;simp only[Value.slice.injEq,true_and]at Lz;obtain⟨rfl,rfl⟩:=Lz;obtain⟨vals,hvl,hov,iE⟩:=cW.out.below dm;obtain⟨_,_,mn,_⟩:=cW.out;have hvs:=mn.lt;have hin:∀b o,(some ⟨g,0,none⟩:Option Addr)=some ⟨b,o,none⟩->some b≠v.ownBlock/\b<w5.heap.size:=by intro b o e;simp only[Option.some.injEq,Addr.mk.injEq,and_true]at e;obtain⟨rfl,rfl⟩:=e;have h1:=fI g rfl;refine⟨λh2=>?_,h1.2⟩;have h3:=hvs g h2.symm;omega
      obtain⟨lO,uZ,kV,oO,cp,fq⟩:=gJ hin ma hvl iE hov (aK aR.out dm);have NU:=dm.size;clear hin ma hvl iE hov mn hvs fI Mc dm hb4 Po Pi hg1;have Hb:Hid (Bw w5 w5):=Below.refl _ _;obtain⟨W6,pu,ae,Hd⟩:=cQ w5 45 [.slice (some ⟨g,0,none⟩) m cc];have d0:=Hd.out.c1;replace Hb:=az Hb ae;clear ae;have cG:=ownsRow_below cp.out Hb.out;have ib:=Hb.out.size;have hnews:∀i u,([.slice (some ⟨g,0,none⟩) m cc]:List Value)[i]?=some u->W6.cell? ((⟨w5.heap.size,0,none⟩:Addr).add i)=some u:=fZ Hd.out;clear d0;go_wp2_with (at_builtin;refine wpList_append_own_at _ rfl _ _ 78 rfl w.heap.size 45 j0 _ 1 24 Tryz.underlying78 Hj.out jv.out kX.out kY.out rfl zd v j vals rfl cG ⟨w5.heap.size,0,none⟩ 1 1 [.slice (some ⟨g,0,none⟩) m cc] rfl rfl hnews zy zx zo zo ?_;intro v' w7 dD eU _ fJ;obtain⟨g',lS,rfl⟩:=ownsRow_succ dD);go_roundw;case rel=>
       refine⟨k+1,_,by omega,by go_num,rfl,?_,?_⟩
       . rw[Zk.out];refine Own2.push (a:=some ⟨g,0,none⟩) (c:=cc) kV.out (w:=W6) ?_ ?_ ?_ ?_ eU fJ
         . intro i h;obtain⟨a,c,h1,h2,h3⟩:=oO.out i h;exact⟨a,c,h1,h2.below Hb.out,λb o e=>⟨(h3 b o e).1,Nat.lt_of_lt_of_le (h3 b o e).2 ib⟩⟩
         . rw[OV.out];exact uZ.out.below Hb.out
         . exact λb o e=>⟨(lO.out b o e).1,Nat.lt_of_lt_of_le (lO.out b o e).2 ib⟩
         . rw[OV.out,pV.out];exact dD
       . exact(aK fq.out Hb.out).grown eU zo (λj e=>cL cG j e)
      case measure=>simp[intOf];omega
  . obtain rfl:k=m+1:=by omega
    rw[if_neg zo,Nat.add_sub_cancel]at pv;obtain⟨a2,c2,rfl,hcl,iW⟩:=Own2.aoi pv Ij.out;obtain⟨nM,aR⟩:=aM iW pb;clear pv pb iW;go_wp2;refine bodyPost_ret (results_tmp rfl _ _ _) rfl ⟨a2,c2,rfl,hcl,nM.out,aR.out⟩
theorem abN (a:Option Addr)(c:Nat)(w:World):Calls Tryz.prog 88 #[.slice a 0 c] w λe w'=>e=.returned (cB 1)/\Bw w w':=by
 have Hb:Hid (Bw w w):=Below.refl _ _;go_enter Tryz.func88,Tryz.ntmps88;go_wp2_with fail;obtain⟨R,hR⟩:∃R:World->Prop,(λW=>ai W (w.heap.size) 28 [.bool false,.string ⟨#[]⟩]/\Bw w W)=R:=⟨_,rfl⟩;first|refine bG R ?hR ?_|refine bF R ?hR ?_
 case hR=>subst hR;exact⟨(ai.newAt w _ _ (b:=w.heap.size) rfl),zl⟩
 subst hR;rintro W ⟨qr,ae⟩;have Hr:=ah qr;clear qr;obtain⟨r0,aj,r1,ar⟩:=Hr.out.g2;replace Hb:=az Hb ae;clear ae;go_wp2_with fail;refine(Og 1 _ zd zd).mono ?_;rintro e w1 ⟨rfl,ae⟩;clear r0 aj r1 ar;replace Hr:=kB Hr ae;obtain⟨r0,aj,r1,ar⟩:=Hr.out.g2;replace Hb:=az Hb ae;clear ae;have wU:=Hr.out.lt;obtain⟨W2,nX,ae,Hl⟩:=cQ w1 28 [.bool (au 1),.string (bs (nt 1))];clear r0 aj r1 ar;replace Hr:=kB Hr ae;obtain⟨r0,aj,r1,ar⟩:=Hr.out.g2;obtain⟨l0,l1⟩:=Hl.out.c2;replace Hb:=az Hb ae;clear ae;go_wp2_with fail;go_loop [5,15] (λt x=>t=.bool false/\x=.int .i64 0) (λ_ _=>0)
 case atStart=>exact⟨rfl,rfl⟩
 case round=>obtain⟨rfl,rfl⟩:=hrel;go_wp2;clear r0 aj r1 ar l0 l1;refine gu (λw9=>ai w9 (w.heap.size) 28 [.bool (au 1),.string (bs (nt 1))]/\ai w9 (w1.heap.size) 28 [.bool (au 1),.string (bs (nt 1))]/\Bw w w9) ⟨((Hr.out.set 0 _).set 1 _),((Hl.out.so (w.heap.size) 0 zo _).so (w.heap.size) 1 zo _),((Hb.out.sc (w.heap.size) 0 ZS _).sc (w.heap.size) 1 ZS _)⟩ ?_;rintro w9 ⟨qr,ql,ae⟩;replace Hr:=ah qr;clear qr;replace Hl:=ah ql;clear ql;obtain⟨r0,aj,r1,ar⟩:=Hr.out.g2;obtain⟨l0,l1⟩:=Hl.out.c2;replace Hb:=ah ae;clear ae;refine bodyPost_ret (v:=cB 1) (by simp[results,Tryz.results88,go_sem,r0,r1]) rfl ⟨rfl,Hb.out⟩
theorem adi (a:Option Addr)(cap:Nat)(w:World)(ha:aX w a [])(hT:aF w):Calls Tryz.prog 45 #[.slice a 0 cap] w λe w'=>e=.returned (.tuple #[bC 1,.int .i64 0])/\Bw w w':=by
 obtain⟨O,hO⟩:∃O:Dyadic,(1:Dyadic)=O:=⟨_,rfl⟩;have hch:=λW=>λ(h:aX W a [])=>MN a 0 cap [] W rfl zo h;rw[show sN []=0 from rfl]at hch;have hsc:=λW=>λ(h:aX W a []) (hT:aF W)=>Xb a 0 cap 0 [] 1 0 W rfl zo zo (λr hr=>by cases hr) h (λr hr=>by cases hr) zo hT rfl;have hmk:=λW=>λ(hT:aF W)=>uB (au 1) (nt (1:Int).natAbs) 0 O (by rw[<-hO];rfl) W zd zd hT;rw[hO];obtain⟨IC,jc,rK,Ha,HT⟩:=fp hch hsc hmk ha hT;clear hch hsc hmk ha hT hO;have Hb:Hid (Bw w w):=Below.refl _ _;go_enter Tryz.func45,Tryz.ntmps45;go_wp2_with fail;obtain⟨R,hR⟩:∃R:World->Prop,(λW=>ai W (w.heap.size) 30 [.bool false,.string ⟨#[]⟩,.int .i64 0]/\Bw w W)=R:=⟨_,rfl⟩;first|refine bG R ?hR ?_|refine bF R ?hR ?_
 case hR=>subst hR;exact⟨(ai.newAt w _ _ (b:=w.heap.size) rfl),zl⟩
 subst hR;rintro W ⟨qr,ae⟩;have Hr:=ah qr;clear qr;obtain⟨r0,aj,r1,ar,r2,aG⟩:=Hr.out.g3;replace Hb:=az Hb ae;clear ae;have HA:Hid (aX W a []):=Ha.out.below Hb.out;have HU:Hid (aF W):=HT.out.below Hb.out;go_wp2_with fail;refine(IC.out _ HA.out).mono ?_;rintro e w1 ⟨rfl,ae⟩;clear r0 aj r1 ar r2 aG;replace Hr:=kB Hr ae;replace HA:=kL HA ae;replace HU:=kT HU ae;obtain⟨r0,aj,r1,ar,r2,aG⟩:=Hr.out.g3;replace Hb:=az Hb ae;clear ae;go_wp2_with fail;refine(jc.out _ HA.out HU.out).mono ?_;rintro e w2 ⟨v,rfl,hO,ae⟩;clear r0 aj r1 ar r2 aG;replace Hr:=kB Hr ae;replace HA:=kL HA ae;replace HU:=kT HU ae;obtain⟨r0,aj,r1,ar,r2,aG⟩:=Hr.out.g3;replace Hb:=az Hb ae;clear ae;obtain⟨vals,_,ho,_⟩:=hO;obtain⟨a2,c2,rfl,_,_⟩:=dK ho;clear ho;go_wp2_with fail;refine(abN a2 c2 _).mono ?_;rintro e w3 ⟨rfl,ae⟩;clear r0 aj r1 ar r2 aG;replace Hr:=kB Hr ae;replace HA:=kL HA ae;replace HU:=kT HU ae;obtain⟨r0,aj,r1,ar,r2,aG⟩:=Hr.out.g3;replace Hb:=az Hb ae;clear ae;go_wp2_with fail;refine(rK.out _ HU.out).mono ?_;rintro e w4 ⟨rfl,ae⟩;clear r0 aj r1 ar r2 aG;replace Hr:=kB Hr ae;replace HA:=kL HA ae;replace HU:=kT HU ae;obtain⟨r0,aj,r1,ar,r2,aG⟩:=Hr.out.g3;replace Hb:=az Hb ae;clear ae;go_wp2;clear r0 aj r1 ar r2 aG;refine gu (λw9=>ai w9 (w.heap.size) 30 [.bool (au (dN O)),.string (bs (nt (dN O).natAbs)),.int .i64 (dE O)]/\Bw w w9) ⟨(((Hr.out.set 0 _).set 1 _).set 2 _),(((Hb.out.sc (w.heap.size) 0 ZS _).sc (w.heap.size) 1 ZS _).sc (w.heap.size) 2 ZS _)⟩ ?_;rintro w9 ⟨qr,ae⟩;replace Hr:=ah qr;clear qr;obtain⟨r0,aj,r1,ar,r2,aG⟩:=Hr.out.g3;replace Hb:=ah ae;clear ae;refine bodyPost_ret (v:=.tuple #[bC O,.int .i64 0]) (by simp[results,Tryz.results45,go_sem,r0,r1,r2]) rfl ⟨rfl,Hb.out⟩
theorem QM (R:List (List Dyadic)):((R.map λr=>r.map canon).map λr=>r.map aB)=R:=by
 rw[List.map_map];have:((λr:List Raw=>r.map aB)∘λr:List Dyadic=>r.map canon)=id:=by
  funext r
  show(r.map canon).map aB=r
  rw[List.map_map];have:(aB∘canon)=id:=funext bP;rw[this];simp
 rw[this];simp
theorem ag2 (a':Option Addr)(c' m r c:Nat)(R:List (List Dyadic))(B:Nat)(w:World)(hL:R.length=m+1)(hrow:∀x∈R,x.length=m+1)(hr:r<=m)(hc:c<=m)(hm:m<=4)(hsm:∀x∈R,∀d∈x,Sm B d)(bK:1<=B)(hB:B<=1000000)(ht:aX w a' ((jA R r c).map λx=>x.map canon))(hT:aF w):
 Calls Tryz.prog 45 #[.slice a' m c'] w λe w'=>e=.returned (.tuple #[bC (dY m (jZ (bZ R) r c)),.int .i64 0])/\Bw w w':=by
 have hl:=VS R r c m hL hr;by_cases h0:m=0
 . subst h0;have e:jA R r c=[]:=List.eq_nil_of_length_eq_zero hl;rw[e]at ht;exact adi a' c' w ht hT
 . refine Ko a' c' m ((jA R r c).map λx=>x.map canon) B (jA R r c) _ w zo hm (by rw[List.length_map,hl]) (λx hx=>?_) ht (λx hx y hy=>?_) bK hB hT (QM _) (agZ R r c m hL hrow hr hc hm)
   . obtain⟨z,hz,rfl⟩:=List.mem_map.1 hx;rw[List.length_map];exact VT R r c m hrow hc z hz
   . obtain⟨z,hz,rfl⟩:=List.mem_map.1 hx;obtain⟨d,hd,rfl⟩:=List.mem_map.1 hy;exact(ag1 hsm r c z hz d hd).fit zo
theorem ab4 (s:Nat)(h:s<=8):bits BinOp.and IntKind.i64 (s:Int) 1=((s%2:Nat):Int):=by
 have hc:s=0\/s=1\/s=2\/s=3\/s=4\/s=5\/s=6\/s=7\/s=8:=by omega
 rcases hc with rfl|rfl|rfl|rfl|rfl|rfl|rfl|rfl|rfl<;>rfl
theorem aba (a:Option Addr)(cap m:Nat)(R:List (List Dyadic))(B:Nat)(w:World)(hm:m+1<=4)(hL:R.length=m+1)(hrow:∀x∈R,x.length=m+1)(hsm:∀x∈R,∀d∈x,Sm B d)(bK:1<=B)(hB:B<=1000000)(ha:aX w a (R.map λx=>x.map canon))(hT:aF w):
 Calls Tryz.prog 92 #[.slice a (m+1) cap] w λe w'=>∃v,e=.returned (.tuple #[v,.int .i64 0])/\fB w' w.heap.size (m+1) (oQ (m+1) (bZ R)) (m+1) v/\Bw w w':=by
 obtain⟨i0,hi,hz0,hz1,hz2⟩:=info_parts Tryz.an8;obtain⟨j0,hj,hy0,hy1,hy2⟩:=info_parts Tryz.aof;have fy:=λW (hW:Bw w W)=>MN a (m+1) cap (R.map λx=>x.map canon) W (by rw[List.length_map,hL]) zo (ha.below hW);have hm0:sN (R.map λx=>x.map canon)=0:=by
  unfold sN;rw[if_neg];rintro(h|h)
  . rw[List.length_map]at h;omega
  . rw[List.any_eq_true]at h;obtain⟨r,hr,h⟩:=h;obtain⟨z,hz,rfl⟩:=List.mem_map.1 hr;have:=hrow z hz;simp at h;omega
 rw[hm0]at fy;have hwo:=λr c (hr:r<=m) (hc:c<=m) W (hW:Bw w W)=>akD a cap m r c R W hL hrow hr hc zo (ha.below hW);have mf:=λr c (hr:r<=m) (hc:c<=m) W (hW:Bw w W) a' c' (ht:aX W a' ((jA R r c).map λx=>x.map canon))=>ag2 a' c' m r c R B W hL hrow hr hc zo hsm bK hB ht (hT.below hW);have hds:∀r c,r<=m->c<=m->Sm (4*B+6) (dY m (jZ (bZ R) r c)):=by
  intro r c hr hc;refine EF zo (λi j hi hj=>?_);have hk:(if i<r then i else i+1)<R.length:=by split<;>omega
  have hl:=hrow _ (List.getElem_mem hk);have hk2:(if j<c then j else j+1)<R[if i<r then i else i+1].length:=by rw[hl];split<;>omega
  have e:jZ (bZ R) r c i j=R[if i<r then i else i+1][if j<c then j else j+1]:=by
   show(R.getD (if i<r then i else i+1) []).getD (if j<c then j else j+1) 0=_
   rw[List.getD_eq_getElem?_getD (l:=R),List.getElem?_eq_getElem hk,Option.getD_some,List.getD_eq_getElem?_getD,List.getElem?_eq_getElem hk2];rfl
  rw[e];exact hsm _ (List.getElem_mem hk) _ (List.getElem_mem hk2)
 obtain⟨f,hf⟩:=aC (bZ R);rw[hf]at mf hds⊢;have KI:=λi (h:i<m+1)=>QA (m+1) f i h;obtain⟨A,hA⟩:=aC (oQ (m+1) f);rw[hA]at KI⊢;obtain⟨Hi,cM,cN,cJ,Hj,jv,kX,kY,nD,Hwo,Ag,YN⟩:=gW hi hz0 hz1 hz2 hj hy0 hy1 hy2 fy hwo mf hds;obtain⟨HT,XS⟩:=aM hT KI;clear hi hz0 hz1 hz2 hj hy0 hy1 hy2 fy hwo mf hds hT KI hA hf hm0 ha hsm hrow hL;have Hb:Hid (Bw w w):=Below.refl _ _;go_enter Tryz.func92,Tryz.ntmps92;go_wp2_with fail;refine(nD.out _ Hb.out).mono ?_;rintro e w1 ⟨rfl,ae⟩;replace Hb:=az Hb ae;clear ae;go_wp2_with fail;go_loopw[5,18] (λs5 x wr=>∃(k:Nat) (v:Value),k<=m+1/\x=.int .i64 (k:Int)/\v=s5/\fB wr w.heap.size (m+1) A k v/\Bw w wr) (λ_ x _=>m+1-(intOf x).toNat);case atStart=>exact⟨0,_,Nat.zero_le _,rfl,rfl,fB.nil _ _ _ _,Hb.out⟩
 case round=>
  clear Hb;obtain⟨k,v,hk,rfl,rfl,pv,pb⟩:=hrel;obtain⟨cW,aR⟩:=aM pv pb;clear pv pb;by_cases hlt:k<m+1
  . obtain⟨Z,hZ⟩:=aC ((List.range (m+1)).map λb=>jP (m+1) f k b);have xD:Hid (A.getD k []=Z):=by show _=_;rw[XS.out k hlt,hZ]
    have pV:Hid (Z.length=m+1):=by show _=_;rw[<-hZ];simp
    have Yy:Hid (∀j (h:j<m+1),Z.take (j+1)=Z.take j++[jP (m+1) f k j]):=by intro j h;rw[List.take_succ_eq_append_getElem (by rw[pV.out];exact h)];congr 2;simp[<-hZ]
    clear hZ;obtain⟨wq,hwc⟩:∃wq,wq=wr:=⟨_,rfl⟩;subst hwc;have iu:=aR.out.size;have qF:decide ((k:Int)<(m:Int)+1)=true:=by simp;omega
    go_wp2_with fail;clear qF;go_loopw[7,23] (λs7 x wr=>∃(j:Nat) (v2:Value),j<=m+1/\x=.int .i64 (j:Int)/\v2=s7/\wr.ownsRow wq.heap.size 30 3 v2 j (dC (Z.take j))/\Bw wq wr) (λ_ x _=>m+1-(intOf x).toNat);case atStart=>exact⟨0,_,Nat.zero_le _,rfl,rfl,World.ownsRow_nil _ _ _ _,Below.refl _ _⟩
    case round=>
     obtain⟨j,v2,hj,rfl,rfl,ho,hb2⟩:=hrel;obtain⟨Ho,bV⟩:=aM ho hb2;have Xn:=hb2.size;clear ho hb2;by_cases bo:j<m+1
     . obtain⟨X,hX⟩:=aC (dY m (jZ f j k));obtain⟨Y,hY⟩:=aC (jP (m+1) f k j);have SK:Y=if(k+j)%2=1 then-X else X:=by rw[<-hY,<-hX];rfl
       have gw:=YN.out j k zo zo;rw[hX]at gw;have hst:dC (Z.take (j+1))=dC (Z.take j)++[.bool (au (dN Y)),.string (bs (nt (dN Y).natAbs)),.int .i64 (dE Y)]:=by rw[Yy.out j bo,hY,tN];rfl
       have dV:=aK aR.out bV.out;have hd:=λW hW a' c' ht=>Ag.out j k zo zo W hW a' c' ht;rw[hX]at hd;obtain⟨Hd,bS,Im⟩:=cH hd hst SK;have OZ:Hid (Ok (canon X)):=gw.ok zo;have iw:=ah dV;clear hd hst SK hX hY gw dV;have Hb:Hid (Bw wr wr):=Below.refl _ _;go_wp2_with fail;refine(Hwo.out j k zo zo _ iw.out).mono ?_;rintro e w3 ⟨a3,c3,rfl,hc3,pL,ae⟩;replace Hb:=az Hb ae;clear ae;have xX:=ah pL;clear pL;go_wp2_with fail;refine(Hd.out _ (aK iw.out Hb.out) a3 c3 xX.out).mono ?_;rintro e w4 ⟨rfl,ae⟩;replace Hb:=az Hb ae;clear ae xX;have sz4:=Hb.out.size;obtain⟨W5,BP,ae,Hx⟩:=cQ w4 30 [.bool (au (dN X)),.string (bs (nt (dN X).natAbs)),.int .i64 (dE X)];obtain⟨x0,aV,x1,aW,x2,aY⟩:=Hx.out.g3;replace Hb:=az Hb ae;clear ae;have yu:=ab4 (k+j) zo;rw[Int.natCast_add]at yu;go_upto_if 38 with fail
       go_cut[7] (λs7 wx=>s7=v2/\ai wx w4.heap.size 30 [.bool (au (dN Y)),.string (bs (nt (dN Y).natAbs)),.int .i64 (dE Y)]/\Bw wr wx);case first=>
        by_cases hp:(k+j)%2=1
        . have h9:(bits BinOp.and IntKind.i64 ((k:Int)+(j:Int)) 1==1)=true:=by rw[yu,hp];rfl
          have hY: -aB (canon X)=Y:=by rw[bP,Im.out,if_pos hp]
          have HY:=ah hY;clear hY yu;go_wp2_with fail;refine(Kn _ _ _ Y HY.out _ OZ.out (HT.out.below (aK iw.out Hb.out))).mono ?_;rintro e w6 ⟨rfl,ae⟩;clear x0 aV x1 aW x2 aY;replace Hx:=kB Hx ae;obtain⟨x0,aV,x1,aW,x2,aY⟩:=Hx.out.g3;replace Hb:=az Hb ae;clear ae;go_wp2_with fail;go_meet;exact⟨rfl,((Hx.out.set 0 _).set 1 _).set 2 _,((Hb.out.setCell zp _).setCell zp _).setCell zp _⟩
        . have h9:(bits BinOp.and IntKind.i64 ((k:Int)+(j:Int)) 1==1)=false:=by rw[yu,show(k+j)%2=0 by omega];rfl
          have hY:Y=X:=by rw[Im.out,if_neg hp]
          subst hY;clear yu;go_wp2_with fail;go_meet;exact⟨rfl,Hx.out,Hb.out⟩
       case rest=>
        obtain⟨rfl,hx,hb⟩:=hcut;clear yu;have Hx:Hid (ai wc w4.heap.size 30 [.bool (au (dN Y)),.string (bs (nt (dN Y).natAbs)),.int .i64 (dE Y)]):=hx;have Iz:=ah (aK bV.out hb);have hov:=ownsRow_below Ho.out hb;have cp:=ah hov;have szc:=hb.size;clear hx hb hov Ho Hb Hd Im OZ iw bV;have Hb:Hid (Bw wc wc):=Below.refl _ _;obtain⟨x0,x1,x2⟩:=Hx.out.c3;have P0:=x0;have P1:=x1;have P2:=x2;have anp:=Hx.out.lt;obtain⟨W6,pu,ae,Hc⟩:=cQ wc 30 [.bool (au (dN Y)),.string (bs (nt (dN Y).natAbs)),.int .i64 (dE Y)];clear x0 x1 x2;replace Hx:=kB Hx ae;obtain⟨x0,x1,x2⟩:=Hx.out.c3;obtain⟨c0,c1,c2⟩:=Hc.out.c3;replace Hb:=az Hb ae;clear ae;have cG:=ownsRow_below cp.out Hb.out;have ib:=Hb.out.size;go_wp2_with (at_builtin;refine wpList_append_own_at _ rfl _ _ 45 rfl wq.heap.size 30 i0 _ 3 32 Tryz.underlying45 Hi.out cM.out cN.out cJ.out rfl zd _ j (dC (Z.take j)) rfl cG ⟨wc.heap.size,0,none⟩ 1 1 [.bool (au (dN Y)),.string (bs (nt (dN Y).natAbs)),.int .i64 (dE Y)] rfl rfl (fZ Hc.out) zy zx zo zo ?_;intro v' w7 dD eU _ fJ;obtain⟨g',lS,rfl⟩:=ownsRow_succ dD);go_roundw;case rel=>exact⟨j+1,_,by omega,by go_num,rfl,by rw[bS.out];exact dD,(aK Iz.out Hb.out).grown eU zo (λj e=>cL cG j e)⟩
        case measure=>simp[intOf];omega
     . obtain rfl:j=m+1:=by omega
       have iT:Z.take (m+1)=Z:=List.take_of_length_le (by rw[pV.out];exact Nat.le_refl _);rw[iT]at Ho;have fI:=Ho.out.lt;obtain⟨a2,cap2,rfl,_,_⟩:=dK Ho.out;obtain⟨vals,hvl,mn,Mp,CE⟩:=cW.out;have hov:=ownsRow_below mn bV.out;have iE:=λi h=>ownsRow_below (Mp i h) bV.out;have lw:∀g,(Value.slice a2 (m+1) cap2).ownBlock=some g->∀i (h:i<vals.length),vals[i].ownBlock≠some g:=λg e i h e2=>by have h1:=(fI g e).1;have h2:=((Mp i h).lt g e2).2;omega
       have hx:=oF Ho.out iu;obtain⟨kV,oO,cp,JJ,Ap,Hxx⟩:=gJ hvl iE hov CE lw hx;clear hvl iE hov mn Mp CE lw hx fI iT;have Hb:Hid (Bw wr wr):=Below.refl _ _;obtain⟨W6,pu,ae,Hd⟩:=cQ wr 45 [.slice a2 (m+1) cap2];have d0:=Hd.out.c1;replace Hb:=az Hb ae;clear ae;have cG:=ownsRow_below cp.out Hb.out;have ib:=Hb.out.size;go_wp2_with (at_builtin;refine wpList_append_own_at _ rfl _ _ 78 rfl w.heap.size 45 j0 _ 1 24 Tryz.underlying78 Hj.out jv.out kX.out kY.out rfl zd v k vals rfl cG ⟨wr.heap.size,0,none⟩ 1 1 [.slice a2 (m+1) cap2] rfl rfl (fZ Hd.out) zy zx zo zo ?_;intro v' w7 dD eU _ fJ;obtain⟨g',lS,rfl⟩:=ownsRow_succ dD);go_roundw;case rel=>refine⟨k+1,_,by omega,by go_num,rfl,fB.push kV.out cG (λi h=>ownsRow_below (oO.out i h) Hb.out) JJ.out (by rw[xD.out];exact ownsRow_below Hxx.out Hb.out) Ap.out dD eU,?_⟩;exact(aK (aK aR.out bV.out) Hb.out).grown eU zo (λj e=>cL cG j e)
       case measure=>simp[intOf];omega
  . obtain rfl:k=m+1:=by omega
    go_wp2;exact bodyPost_ret (v:=.tuple #[v,.int .i64 0]) (by simp[results,Tryz.results92,go_sem]) rfl ⟨v,rfl,cW.out,aR.out⟩
end Go.Proofs.YtdaadlblknpipaaGreatDoor
namespace Go.Proofs.YtdaadlblknpipaaGreatDoor
def nQ (n:Nat)(p:Nat->Nat->Dyadic):List (List Dyadic):=(List.range n).map λa=>(List.range n).map λb=>jw n p a b
theorem Er (n:Nat)(p:Nat->Nat->Dyadic):(nQ n p).length=n:=by simp[nQ]
theorem Es (n:Nat)(p:Nat->Nat->Dyadic):∀r∈nQ n p,r.length=n:=by intro r hr;unfold nQ at hr;obtain⟨x,_,rfl⟩:=List.mem_map.1 hr;simp
theorem JV (n:Nat)(p:Nat->Nat->Dyadic)(a b:Nat)(ha:a<n)(hb:b<n):bZ (nQ n p) a b=jw n p a b:=by unfold bZ nQ;simp[List.getD_eq_getElem?_getD,ha,hb]
theorem aj1 {n:Nat}{R S:List (List Dyadic)}(h1:R.length=n)(h2:∀r∈R,r.length=n)(h3:S.length=n)(h4:∀r∈S,r.length=n)(h:∀a b,a<n->b<n->bZ R a b=bZ S a b):R=S:=by apply List.ext_getElem zo;intro i hi hj;have l1:=h2 _ (List.getElem_mem hi);have l2:=h4 _ (List.getElem_mem hj);apply List.ext_getElem zo;intro j k1 k2;have:=h i j zo zo;unfold bZ at this;simpa[List.getD_eq_getElem?_getD,hi,hj,k1,k2]using this
theorem aa6 (n:Nat)(cd:n<=4){e f:Nat->Nat->Dyadic}(h:∀i j,i<n->j<n->e i j=f i j)(a b:Nat)(ha:a<n)(hb:b<n):jP n e a b=jP n f a b:=by
 have:dY (n-1) (jZ e b a)=dY (n-1) (jZ f b a):=EE (n-1) zo (λi j hi hj=>by
  unfold jZ
  exact h _ _ (by split<;>omega) (by split<;>omega))
 unfold jP;rw[this]
theorem adI {n:Nat}{R:List (List Dyadic)}(h1:R.length=n)(h2:∀r∈R,r.length=n)(i j:Nat)(hi:i<n)(hj:j<n)(y:Dyadic)(a b:Nat)(ha:a<n)(hb:b<n):bZ (R.set i ((R.getD i []).set j y)) a b=if a=i/\b=j then y else bZ R a b:=by
 unfold bZ;by_cases e:a=i
 . subst e;rw[List.getD_eq_getElem?_getD (l:=R.set _ _),List.getElem?_set_self zo,Option.getD_some];have hl:(R.getD a []).length=n:=by
    have e:R.getD a []=R[a]'zo:=by rw[List.getD_eq_getElem?_getD,List.getElem?_eq_getElem zo];rfl
    rw[e];exact h2 _ (List.getElem_mem _)
   by_cases e2:b=j
   . subst e2;rw[if_pos ⟨rfl,rfl⟩,List.getD_eq_getElem?_getD,List.getElem?_set_self zo];rfl
   . rw[if_neg (λh=>e2 h.2),List.getD_eq_getElem?_getD,List.getElem?_set_ne (λh=>e2 h.symm),<-List.getD_eq_getElem?_getD]
 . rw[if_neg (λh=>e h.1),List.getD_eq_getElem?_getD (l:=R.set _ _),List.getElem?_set_ne (λh=>e h.symm),<-List.getD_eq_getElem?_getD]
theorem ajy {n:Nat}{R:List (List Dyadic)}(h1:R.length=n)(h2:∀r∈R,r.length=n)(i j:Nat)(hi:i<n)(y:Dyadic):(R.set i ((R.getD i []).set j y)).length=n/\∀r∈R.set i ((R.getD i []).set j y),r.length=n:=by
 refine⟨by rw[List.length_set];exact h1,λr hr=>?_⟩;rcases List.mem_or_eq_of_mem_set hr with h|h
 . exact h2 r h
 . rw[h,List.length_set];have e:R.getD i []=R[i]'zo:=by rw[List.getD_eq_getElem?_getD,List.getElem?_eq_getElem zo];rfl
   rw[e];exact h2 _ (List.getElem_mem _)
theorem ajA (X:Dyadic):(if bW X<0 then-X else X)=lI X*X:=by
 rw[ajz];by_cases h:X<0
 . rw[if_pos h,if_pos ((Kr X).2 h)]
 . rw[if_neg h,if_neg (λh2=>h ((Kr X).1 h2))]
def je (k j a b:Nat):Prop:=a<k\/a=k/\b<j
instance (k j a b:Nat):Decidable (je k j a b):=inferInstanceAs (Decidable (_\/_))
end Go.Proofs.YtdaadlblknpipaaGreatDoor
namespace Go.Proofs.YtdaadlblknpipaaGreatDoor
open Go.RowKit
attribute [local go_sem ↓] Go.wp_at_zero Go.wp_at_succ
def Qs (w:World)(n:Nat)(p:Nat->Nat->Dyadic)(e:Ending)(w':World):Prop:=
 ∃a' c',e=.returned (.tuple #[bC (lI (fC n p) *fC n p),.slice a' n c',.int .i64 0])/\n<=c'/\aX w' a' ((nQ n p).map λr=>r.map canon)/\Bw w w'
theorem fB.blk {w:World}{base n L go cap:Nat}{R:List (List Dyadic)}(h:fB w base n R L (.slice (some ⟨go,0,none⟩) L cap))(i:Nat)(hi:i<L)(hn:0<n):base<=go/\∃g c,w.cell? ⟨go,i,none⟩=some (.slice (some ⟨g,0,none⟩) n c)/\base<=g/\g<w.heap.size/\g≠go:=by
 obtain⟨vals,hl,ho,hv,hd⟩:=h;have hi2:i<vals.length:=by omega
 have hrow:=hv i hi2;obtain⟨g,c,e1,hg1,hg2,_⟩:=ze hrow hn;have fJ:=xh ho;have hc:=kI ho i zo;rw[e1]at hc;refine⟨fJ.1,g,c,hc,hg1,hg2,?_⟩;rintro rfl;rw[e1]at hrow;rcases hrow.2 with⟨h1,_⟩ |⟨g',c',cur,h1,_,h2,_⟩
 . simp at h1
 . simp only[Value.slice.injEq,Option.some.injEq,Addr.mk.injEq,and_true,true_and]at h1;obtain⟨rfl,rfl⟩:=h1;rcases ho.2 with⟨h3,_⟩ |⟨g2,c2,alq,h3,_,h4,_⟩
   . simp at h3
   . simp only[Value.slice.injEq,Option.some.injEq,Addr.mk.injEq,and_true,true_and]at h3;obtain⟨rfl,rfl⟩:=h3;rw[h2]at h4;simp at h4
theorem fB.aog {w:World}{base n k:Nat}{R:List (List Dyadic)}{v:Value}(h:fB w base n R k v){p:Addr}(hp:p.block<base)(x:Value):fB (w.setCell p x) base n R k v:=by
 obtain⟨vals,hl,ho,hi,hd⟩:=h;have hne:∀{u:Value} {e:TypeId} {sz m:Nat} {xs:List Value},w.ownsRow base e sz u m xs->u.ownBlock≠some p.block:=λh e=>by have:=(h.lt _ e).1;omega
 exact⟨vals,hl,ownsRow_setCell_other ho (hne ho) _,λi h=>ownsRow_setCell_other (hi i h) (hne (hi i h)) _,hd⟩
theorem Vm (a:Option Addr)(cap m:Nat)(rows:List (List Raw))(B:Nat)(w:World)(hm:m+1<=4)(hr:Rw (m+1) B rows)(hcap:m+1+1<=cap)(ha:aX w a rows)(hB:B<=200000)(hT:aF w)(h0:ny rows=0):
 Calls Tryz.prog 55 #[.slice a (m+1+1) cap] w (Qs w (m+1) (eN rows)):=by
 obtain⟨n,hn⟩:=aC (m+1);have hL:=hr.1;have hrow:=hr.2.1;have hfit:=hr.2.2;obtain⟨b,o,rfl⟩:∃b o,a=some ⟨b,o,none⟩:=by
  obtain⟨vals,hvl,hat,_⟩:=ha;rcases hat with h|⟨b,o,h,_⟩
  . rw[h]at hvl;simp at hvl;omega
  . exact⟨b,o,h⟩
 have fy:=λW (hW:Bw w W)=>GI (some ⟨b,o,none⟩) (m+1+1) cap rows B W hL zo hcap (ha.below hW) hfit zo (hT.below hW);rw[h0]at fy;obtain⟨S,hS⟩:=aC ((rows.drop 1).map λp=>jd (rows.getD 0 []) p);have iB:S.length=m+1:=by rw[<-hS];simp[hL]
 have h00:0<rows.length:=by omega
 have e0:rows.getD 0 []=rows[0]:=by simp[h00]
 have qw:∀r∈S,r.length=m+1:=by intro r hr;rw[<-hS]at hr;obtain⟨p,hp,rfl⟩:=List.mem_map.1 hr;rw[EI (by rw[e0,hrow _ (List.mem_of_mem_drop hp),hrow _ (List.getElem_mem h00)]),hrow _ (List.mem_of_mem_drop hp)]
 have lu:∀r∈S,∀d∈r,Sm (B+1) d:=by intro r hr d hd;rw[<-hS]at hr;obtain⟨p,hp,rfl⟩:=List.mem_map.1 hr;unfold jd at hd;obtain⟨i,hi,rfl⟩:=List.mem_iff_getElem.1 hd;rw[List.getElem_zipWith];refine Sm.sub (hfit p (List.mem_of_mem_drop hp) _ (List.getElem_mem _)).2 (hfit (rows.getD 0 []) ?_ _ (List.getElem_mem _)).2;rw[e0];exact List.getElem_mem h00
 obtain⟨P,hP⟩:=aC (eN rows);have Cb:∀i j,i<m+1->j<m+1->bZ S i j=yl P i j:=λi j hi hj=>by rw[<-hS,<-hP];exact Xh (m+1) rows hL hrow i j hi hj
 obtain⟨X,hX⟩:=aC (fC (m+1) P);have hent:dY (m+1) (bZ S)=X:=by rw[<-hX,EL];exact EE (m+1) hm Cb
 have hro:=λW (hW:Bw w W)=>WP b o cap (m+1) (m+1) rows B W hL zo hcap zo zo zo hrow (ha.below hW) hfit zo (hT.below hW);rw[hS]at hro
 have mf:=λW (hW:Bw w W) a' c' (h:aX W a' (S.map λr=>r.map canon))=>Ko a' c' (m+1) (S.map λr=>r.map canon) (B+1) S X W zo hm (by simpa using iB) (by
  intro r hr;obtain⟨x,hx,rfl⟩:=List.mem_map.1 hr
  simpa using qw x hx) h (by
  intro r hr c hc;obtain⟨x,hx,rfl⟩:=List.mem_map.1 hr;obtain⟨y,hy,rfl⟩:=List.mem_map.1 hc
  exact(lu x hx y hy).fit zo) zo zo (hT.below hW) (QM S) hent
 have mO:=λW (hW:Bw w W) a' c' (h:aX W a' (S.map λr=>r.map canon))=>(aba a' c' m S (B+1) W hm iB qw lu zo zo h (hT.below hW)).mono (λe w' h=>(match h with|⟨v,h1,h2,h3⟩=>⟨v,h1,h2,h3,h3⟩:∃v,e=.returned (.tuple #[v,.int .i64 0])/\fB w' W.heap.size (m+1) (oQ (m+1) (bZ S)) (m+1) v/\Bw W w'/\Bw W w'));have gw:Sm (4*B+11) X:=by rw[<-hent];refine(EF (B:=B+1) hm (λi j hi hj=>?_)).mono zo;rw[Cb i j hi hj,<-hP];exact EM (n:=m+1) (B:=B) (λa b ha hb=>by rw[qZ rows a b zo (by rw[hrow _ (List.getElem_mem _)];exact hb)];exact(hfit _ (List.getElem_mem _) _ (List.getElem_mem _)).2) i j hi hj
 have ie:=λW=>mL (au (dN X)) (nt (dN X).natAbs) (dE X) (bW X) (by show bW (aB (canon X))=_;rw[bP]) W (gw.ok zo);have Ce: -1<=bW X/\bW X<=1:=by unfold bW dP;split<;>(try split)<;>omega
 obtain⟨G,hG⟩:=aC (lI X);have hof:=λW (hW:Bw w W)=>ED (bW X) G (by rw[<-hG];rfl) W zo (hT.below hW)
 have hab:=λW (hW:Bw w W)=>acZ (au (dN X)) (nt (dN X).natAbs) (dE X) (G*X) (by
  have e:aB (au (dN X),nt (dN X).natAbs,dE X)=X:=bP X
  rw[e,ajA,hG]) W (gw.ok zo) (hT.below hW)
 have Sb:Fit (4*B+11) (canon G):=(by rw[<-hG];exact(NM X).mono zo:Sm (4*B+11) G).fit zo;have pg:∀i j,i<m+1->j<m+1->Fit (4*B+11) (canon (jP (m+1) (bZ S) i j)):=λi j hi hj=>by refine((Qz (B:=B+1) zo hm (λa b ha hb=>?_) i j).mono zo).fit zo;rw[Cb a b ha hb,<-hP];exact EM (n:=m+1) (B:=B) (λa b ha hb=>by rw[qZ rows a b zo (by rw[hrow _ (List.getElem_mem _)];exact hb)];exact(hfit _ (List.getElem_mem _) _ (List.getElem_mem _)).2) a b ha hb
 have hfin:∀R:List (List Dyadic),R.length=m+1->(∀r∈R,r.length=m+1)->(∀a b,a<m+1->b<m+1->bZ R a b=jP (m+1) (bZ S) a b*G)->R=nQ (m+1) P:=λR h1 h2 h3=>aj1 h1 h2 (Er _ _) (Es _ _) (λa b ha hb=>by
  rw[h3 a b ha hb,JV _ _ _ _ ha hb];unfold jw
  rw[hX,hG,aa6 (m+1) hm Cb a b ha hb])
 have Bt:=λi j hi hj=>aa7 (m+1) (bZ S) i j hi hj;have EX:=aa8 (m+1) (bZ S);have EY:=aa9 (m+1) (bZ S);obtain⟨F,hF⟩:∃F:Nat->Nat->Dyadic,(λi j=>jP (m+1) (bZ S) i j)=F:=⟨_,rfl⟩;have Sa:∀i j,jP (m+1) (bZ S) i j=F i j:=λi j=>by rw[<-hF]
 simp only[Sa]at pg hfin Bt;obtain⟨A,hA⟩:=aC (oQ (m+1) (bZ S));rw[hA]at mO Bt EX EY;rw[hP];unfold Qs;rw[hX,hG];rw[hn]at fy hro mf mO pg hfin Bt EX EY⊢;have cd:n<=4:=by omega
 have dA:1<=n:=by omega
 have UB:=λW=>(ie W).mono (λe w' h=>(⟨h.1,h.2,h.2⟩:e=.returned (.int .i64 (bW X))/\Bw W w'/\Bw W w'));have Ui:=λW hW=>(hof W hW).mono (λe w' h=>(⟨h.1,h.2,h.2⟩:e=.returned (bC G)/\Bw W w'/\Bw W w'));have eQ:=λW hW=>(hab W hW).mono (λe w' h=>(⟨h.1,h.2,h.2⟩:e=.returned (bC (G*X))/\Bw W w'/\Bw W w'));obtain⟨nD,Qb,Ag,zY,kr,tB,jI,Yc,XX,rG,XT,XV⟩:=gW fy hro mf mO UB Ui eQ Sb pg hfin Bt EX;obtain⟨XW,HT⟩:=aM EY hT;clear fy hro mf mO UB Ui ie hof hab eQ Sb pg hfin Bt EX EY hT Sa hF hA gw hent Cb lu qw iB hS e0 h00 hP hX hG Ce ha hr hL hrow hfit h0 hn;have Hb:Hid (Bw w w):=Below.refl _ _;go_enter Tryz.func55,Tryz.ntmps55;go_wp2_with fail;obtain⟨R,hR⟩:∃R:World->Prop,(λW=>ai W (w.heap.size) 30 [.bool false,.string ⟨#[]⟩,.int .i64 0]/\Bw w W)=R:=⟨_,rfl⟩;first|refine bG R ?hR ?_|refine bF R ?hR ?_
 case hR=>subst hR;exact⟨(ai.newAt w _ _ (b:=w.heap.size) rfl),zl⟩
 subst hR;rintro W ⟨qr,ae⟩;have Hr:=ah qr;clear qr;obtain⟨r0,aj,r1,ar,r2,aG⟩:=Hr.out.g3;replace Hb:=az Hb ae;clear ae;go_wp2_with fail;refine(nD.out _ Hb.out).mono ?_;rintro e w1 ⟨rfl,ae⟩;clear r0 aj r1 ar r2 aG;replace Hr:=kB Hr ae;obtain⟨r0,aj,r1,ar,r2,aG⟩:=Hr.out.g3;replace Hb:=az Hb ae;clear ae;go_wp2_with fail;refine(Qb.out _ Hb.out).mono ?_;rintro e w2 ⟨a2,c2,rfl,hc2,ht2,ae⟩;clear r0 aj r1 ar r2 aG;replace Hr:=kB Hr ae;obtain⟨r0,aj,r1,ar,r2,aG⟩:=Hr.out.g3;replace Hb:=az Hb ae;clear ae;have xW:=ah ht2;clear ht2;go_wp2_with fail;refine(Ag.out _ Hb.out a2 c2 xW.out).mono ?_;rintro e w3 ⟨rfl,ae⟩;clear r0 aj r1 ar r2 aG;replace Hr:=kB Hr ae;obtain⟨r0,aj,r1,ar,r2,aG⟩:=Hr.out.g3;replace Hb:=az Hb ae;clear ae xW;have agM:=Hr.out.lt;obtain⟨W4,nY,ae,Hd⟩:=cQ w3 30 [.bool (au (dN X)),.string (bs (nt (dN X).natAbs)),.int .i64 (dE X)];clear r0 aj r1 ar r2 aG;replace Hr:=kB Hr ae;obtain⟨r0,aj,r1,ar,r2,aG⟩:=Hr.out.g3;obtain⟨d0,d1,d2⟩:=Hd.out.c3;replace Hb:=az Hb ae;clear ae;go_wp2_with fail;refine(Qb.out _ Hb.out).mono ?_;rintro e w5 ⟨a3,c3,rfl,hc3,pL,ae⟩;clear r0 aj r1 ar r2 aG d0 d1 d2;replace Hr:=kB Hr ae;replace Hd:=kB Hd ae;obtain⟨r0,aj,r1,ar,r2,aG⟩:=Hr.out.g3;obtain⟨d0,d1,d2⟩:=Hd.out.c3;replace Hb:=az Hb ae;clear ae;have xX:=ah pL;clear pL;have jL:=Hr;have IJ:=Hd;have dt:=Hb;go_wp2_with fail;refine(zY.out _ Hb.out a3 c3 xX.out).mono ?_;rintro e w6 ⟨v,rfl,hO,SS,ae⟩;clear r0 aj r1 ar r2 aG d0 d1 d2;replace Hr:=kB Hr ae;replace Hd:=kB Hd ae;obtain⟨r0,aj,r1,ar,r2,aG⟩:=Hr.out.g3;obtain⟨d0,d1,d2⟩:=Hd.out.c3;replace Hb:=az Hb ae;clear ae;obtain⟨go,cv,rfl,hgo⟩:∃go cv,v=.slice (some ⟨go,0,none⟩) n cv/\w5.heap.size<=go:=by obtain⟨vals,hl,ho,_,_⟩:=hO;obtain⟨g,c,e1,h1,_,_⟩:=ze ho zo;exact⟨g,c,e1,h1⟩
 have hcv:n<=cv:=by obtain⟨vals,hl,ho,_,_⟩:=hO;exact(uI ho).1
 obtain⟨gI,Tv⟩:∃gI:Nat->Nat×Nat,∀i,i<n->w6.cell? ⟨go,i,none⟩=some (.slice (some ⟨(gI i).1,0,none⟩) n (gI i).2)/\w5.heap.size<=(gI i).1/\(gI i).1<w6.heap.size/\(gI i).1≠go:=by have H:=λi (h:i<n)=>(hO.blk i h dA).2;refine⟨λi=>if h:i<n then(Classical.choose (H i h),Classical.choose (Classical.choose_spec (H i h)))else(0,0),λi h=>?_⟩;simp only[h,dif_pos];exact Classical.choose_spec (Classical.choose_spec (H i h))
 obtain⟨HO,Pz⟩:=aM hO Tv;clear hO Tv;have xC:Hid (Bw w5 w6):=SS;have XR:Hid (Bw w6 w6):=Below.refl _ _;clear SS;have NU:=xC.out.size;go_wp2_with fail;refine(kr.out _).mono ?_;rintro e w7 ⟨rfl,SX,ae⟩;clear r0 aj r1 ar r2 aG d0 d1 d2;replace Hr:=kB Hr ae;replace Hd:=kB Hd ae;obtain⟨r0,aj,r1,ar,r2,aG⟩:=Hr.out.g3;obtain⟨d0,d1,d2⟩:=Hd.out.c3;replace Hb:=az Hb ae;clear ae;go_wp2_with fail;refine(tB.out _ Hb.out).mono ?_;rintro e w8 ⟨rfl,SY,ae⟩;clear r0 aj r1 ar r2 aG d0 d1 d2;replace Hr:=kB Hr ae;replace Hd:=kB Hd ae;obtain⟨r0,aj,r1,ar,r2,aG⟩:=Hr.out.g3;obtain⟨d0,d1,d2⟩:=Hd.out.c3;replace Hb:=az Hb ae;clear ae;have Lu:=aK SX SY;clear SX SY;have OB:=ah Lu;have GG:=Lu.size;clear Lu;have am7:=Hr.out.lt;have amI:=Hd.out.lt;obtain⟨W9,SH,ae,Hs⟩:=cQ w8 30 [.bool (au (dN G)),.string (bs (nt (dN G).natAbs)),.int .i64 (dE G)];clear r0 aj r1 ar r2 aG;replace Hr:=kB Hr ae;clear d0 d1 d2;replace Hd:=kB Hd ae;obtain⟨r0,aj,r1,ar,r2,aG⟩:=Hr.out.g3;obtain⟨d0,d1,d2⟩:=Hd.out.c3;obtain⟨s0,s1,s2⟩:=Hs.out.c3;replace Hb:=az Hb ae;clear ae;have Dy:Hid (Bw w6 W9):=by rw[<-SH];exact(OB.out).alloc zo _
 have Sn:=HO.out.below Dy.out;have Fq:∀i,i<n->W9.cell? ⟨go,i,none⟩=some (.slice (some ⟨(gI i).1,0,none⟩) n (gI i).2):=λi h=>cell_later Dy.out (Pz.out i h).1;have SU:=aK xC.out Dy.out;obtain⟨OS,Ph,OA⟩:=cH Sn Fq SU;have Qd:=Hs;clear Sn Fq SU HO OB XR Dy;go_wp2_with fail;go_loopw[37] (λx wr=>∃(k:Nat) (R:List (List Dyadic)),k<=n/\x=.int .i64 (k:Int)/\R.length=n/\(∀r∈R,r.length=n)/\(∀a b,a<n->b<n->bZ R a b=if je k 0 a b then F a b*G else F a b)/\fB wr w5.heap.size n R n (.slice (some ⟨go,0,none⟩) n cv)/\(∀i,i<n->wr.cell? ⟨go,i,none⟩=some (.slice (some ⟨(gI i).1,0,none⟩) n (gI i).2))/\ai wr w8.heap.size 30 [.bool (au (dN G)),.string (bs (nt (dN G).natAbs)),.int .i64 (dE G)]/\Bw w5 wr) (λx _=>n-(intOf x).toNat);case atStart=>exact⟨0,A,Nat.zero_le _,rfl,XV.out,XW.out,λa b ha hb=>by rw[XT.out a b ha hb,if_neg (by unfold je;omega)],OS.out,Ph.out,Qd.out,OA.out⟩
 case round=>
  clear Qd OA Ph OS s0 s1 s2 Hs r0 aj r1 ar r2 aG d0 d1 d2 Hr Hd Hb xC;obtain⟨k,R,hk,rfl,pp,pq,hRe,hO,hc,hs,pb⟩:=hrel;by_cases hlt:k<n
  . have fy:=hc k hlt;obtain⟨g,c,oc⟩:∃g c,gI k=(g,c):=⟨_,_,rfl⟩;obtain⟨_,hg1,hg2,hg3⟩:=Pz.out k hlt;rw[oc]at fy hg1 hg2 hg3;have bA:=wO n cv k (k:Int) (rfl:(some ⟨go,0,none⟩:Option Addr)=_) hlt rfl;rw[Nat.zero_add,Nat.mul_one]at bA;have hin:∃(j:Nat) (R:List (List Dyadic)),j=0/\R.length=n/\(∀r∈R,r.length=n)/\(∀a b,a<n->b<n->bZ R a b=if je k j a b then F a b*G else F a b)/\fB wr w5.heap.size n R n (.slice (some ⟨go,0,none⟩) n cv)/\(∀i,i<n->wr.cell? ⟨go,i,none⟩=some (.slice (some ⟨(gI i).1,0,none⟩) n (gI i).2))/\ai wr w8.heap.size 30 [.bool (au (dN G)),.string (bs (nt (dN G).natAbs)),.int .i64 (dE G)]/\Bw w5 wr:=⟨0,R,rfl,pp,pq,hRe,hO,hc,hs,pb⟩;obtain⟨lO,DW⟩:=aM hin oc;clear hin pp pq hRe hO hc hs pb oc;obtain⟨wq,hwq⟩:∃wq,wq=wr:=⟨_,rfl⟩;subst hwq;go_wp2_with fail;go_loopw[43] (λx wr=>∃(j:Nat) (R:List (List Dyadic)),j<=n/\x=.int .i64 (j:Int)/\R.length=n/\(∀r∈R,r.length=n)/\(∀a b,a<n->b<n->bZ R a b=if je k j a b then F a b*G else F a b)/\fB wr w5.heap.size n R n (.slice (some ⟨go,0,none⟩) n cv)/\(∀i,i<n->wr.cell? ⟨go,i,none⟩=some (.slice (some ⟨(gI i).1,0,none⟩) n (gI i).2))/\ai wr w8.heap.size 30 [.bool (au (dN G)),.string (bs (nt (dN G).natAbs)),.int .i64 (dE G)]/\Bw w5 wr) (λx _=>n-(intOf x).toNat);case atStart=>obtain⟨j,R,rfl,h⟩:=lO.out;exact⟨0,R,Nat.zero_le _,rfl,h⟩
    case round=>
     clear lO fy bA;obtain⟨j,R,hj,rfl,pp,pq,hRe,hO,hc,hs,pb⟩:=hrel;by_cases bo:j<n
     . have hrl:(R.getD k []).length=n:=by
        have e:R.getD k []=R[k]'zo:=by rw[List.getD_eq_getElem?_getD,List.getElem?_eq_getElem zo];rfl
        rw[e];exact pq _ (List.getElem_mem _)
       have fy:=hc k hlt;rw[DW.out]at fy;have hpick:∀W,fB W w5.heap.size n R n (.slice (some ⟨go,0,none⟩) n cv)->W.cell? ⟨go,k,none⟩=some (.slice (some ⟨g,0,none⟩) n c)->aZ W g (j*3) [.bool (au (dN (F k j))),.string (bs (nt (dN (F k j)).natAbs)),.int .i64 (dE (F k j))]/\(∀o,W.frozen? ⟨g,o,none⟩=false)/\∀y:Dyadic,fB (((W.setCell ⟨g,j*3,none⟩ (.bool (au (dN y)))).setCell ⟨g,j*3+1,none⟩ (.string (bs (nt (dN y).natAbs)))).setCell ⟨g,j*3+2,none⟩ (.int .i64 (dE y))) w5.heap.size n (R.set k ((R.getD k []).set j y)) n (.slice (some ⟨go,0,none⟩) n cv):=by
        intro W hO fy;obtain⟨go',cap',g',c',hv,_,_,hne,hcell,cw,hfz,hup⟩:=hO.num k j hlt bo pp hrl;simp only[Value.slice.injEq,Option.some.injEq,Addr.mk.injEq,and_true,true_and]at hv;obtain⟨rfl,rfl⟩:=hv;rw[fy]at hcell;simp only[Option.some.injEq,Value.slice.injEq,Addr.mk.injEq,and_true,true_and]at hcell;obtain⟨rfl,rfl⟩:=hcell;have he:(R.getD k []).getD j 0=F k j:=by have h:=hRe k j hlt bo;rw[if_neg (by unfold je;omega)]at h;exact h
        rw[he]at cw;exact⟨cw,hfz,hup⟩
       obtain⟨cw,_,_⟩:=hpick wr hO fy;have KJ:=XX.out k j hlt bo;obtain⟨Y,hY⟩:=aC (F k j*G);have hsl:=ajy pp pq k j hlt Y;have hen:∀a b,a<n->b<n->bZ (R.set k ((R.getD k []).set j Y)) a b=if je k (j+1) a b then F a b*G else F a b:=by
        intro a b ha hb;rw[adI pp pq k j hlt bo Y a b ha hb];by_cases e:a=k/\b=j
        . obtain⟨rfl,rfl⟩:=e;rw[if_pos ⟨rfl,rfl⟩,if_pos (by unfold je;omega),hY]
        . rw[if_neg e,hRe a b ha hb];have:je k j a b↔je k (j+1) a b:=by unfold je;omega
          by_cases h:je k j a b
          . rw[if_pos h,if_pos (this.1 h)]
          . rw[if_neg h,if_neg (λh2=>h (this.2 h2))]
       obtain⟨E,hE⟩:=aC (F k j);have HY:Hid (aB (canon E) *aB (canon G)=Y):=by show _=_;rw[bP,bP,<-hE];exact hY
       rw[hE]at cw KJ hpick;have hjx:=mo n c j (j:Int) (rfl:(some ⟨g,0,none⟩:Option Addr)=_) bo rfl;rw[Nat.zero_add]at hjx;obtain⟨R2,SB⟩:=aC (R.set k ((R.getD k []).set j Y));have hpk:=λW h1 h2=>(hpick W h1 h2).2.2 Y;have wD:=λW h1 h2=>(hpick W h1 h2).2.1;rw[SB]at hsl hen hpk;have Hz:Hid (aZ wr g (j*3) [.bool (au (dN E)),.string (bs (nt (dN E).natAbs)),.int .i64 (dE E)]):=cw;have Hs:Hid (ai wr w8.heap.size 30 [.bool (au (dN G)),.string (bs (nt (dN G).natAbs)),.int .i64 (dE G)]):=hs;obtain⟨HO,YH,nD,aR,xV,YQ,Hpk,Hpz,XU,uW⟩:=wT hO hc fy pb hsl hen hpk wD KJ (HT.out.below (aK dt.out pb));have szw:=pb.size;clear hO hc fy pb hsl hen hpk wD KJ hs cw hpick SB hE hY pp pq hRe hrl;have Hb:Hid (Bw wr wr):=Below.refl _ _;have FT:=Hs.out.lt;go_wp2_with fail;obtain⟨z0,z1,z2⟩:=Hz.out.w3;obtain⟨s0,s1,s2⟩:=Hs.out.c3;have HU:Hid (aF wr):=uW.out;refine bD (λw'=>w'.cell? ⟨g,j*3,none⟩=some (.bool (au (dN E)))/\w'.cell? ⟨g,j*3+1,none⟩=some (.string (bs (nt (dN E).natAbs)))/\w'.cell? ⟨g,j*3+2,none⟩=some (.int .i64 (dE E))/\w'.cell? ⟨w8.heap.size,0,none⟩=some (.bool (au (dN G)))/\w'.cell? ⟨w8.heap.size,1,none⟩=some (.string (bs (nt (dN G).natAbs)))/\w'.cell? ⟨w8.heap.size,2,none⟩=some (.int .i64 (dE G))) (λi=>Nat.blt i 10) [(0,true),(1,true),(2,true),(3,true),(4,true),(5,true),(6,true),(7,false),(8,false),(9,true),(10,false)] zk zk rfl zk zc ⟨z0,z1,z2,s0,s1,s2⟩ ?_;iterate 7 (refine pT rfl rfl ?_ (by intro w' ⟨q0,q1,q2,q3,q4,q5⟩;go_simp;try with_reducible rfl);try simp only[UU])
       refine aJ rfl rfl (λK hK=>?_);go_simp;refine hK _ _ (λ_=>⟨aI z0,aI z1,aI z2,aI s0,aI s1,aI s2⟩) ?_;clear hK K;try simp only[UU]
       refine bE (λW4=>ai W4 (wr.heap.size) 30 [.bool (au (dN E)),.string (bs (nt (dN E).natAbs)),.int .i64 (dE E),.bool (au (dN G)),.string (bs (nt (dN G).natAbs)),.int .i64 (dE G)]/\Bw wr W4) (by first|exact dW|exact dX) ?_;rintro W4 ⟨qv,ae⟩;clear z0 z1 z2 s0 s1 s2;have anc:=Hs.out.lt;replace Hz:=kW Hz ae;replace Hs:=kB Hs ae;replace HU:=kT HU ae;have Hv:=ah qv;clear qv;obtain⟨z0,z1,z2⟩:=Hz.out.w3;obtain⟨s0,s1,s2⟩:=Hs.out.c3;obtain⟨v0,v1,v2,v3,v4,v5⟩:=Hv.out.c6;replace Hb:=az Hb ae;clear ae;refine aJ rfl rfl (λK hK=>?_);go_simp;with_reducible refine(Bi _ _ _ _ _ _ Y (4*B+11) HY.out wr.heap.size _ 30 _ XU.out Yc.out zo Hv.out (by first|exact HU.out|exact aF.drew HU.out|exact aF.alloc HU.out _|exact aF.drew (aF.alloc HU.out _) |exact aF.alloc (aF.drew HU.out) _)).mono ?_
       rintro e dz ⟨rfl,hq⟩;have ae:Bw W4 dz:=by first|exact hq|exact aO hq
       clear z0 z1 z2 s0 s1 s2 v0 v1 v2 v3 v4 v5;replace Hz:=kW Hz ae;replace Hs:=kB Hs ae;replace HU:=kT HU ae;replace Hv:=kB Hv ae;obtain⟨z0,z1,z2⟩:=Hz.out.w3;obtain⟨s0,s1,s2⟩:=Hs.out.c3;obtain⟨v0,v1,v2,v3,v4,v5⟩:=Hv.out.c6;replace Hb:=az Hb ae;clear ae;refine hK _ _ (λ_=>⟨z0,z1,z2,s0,s1,s2⟩) ?_;clear hK K;try simp only[UU]
       refine pT rfl rfl ?_;try simp only[UU]
       refine aJ rfl rfl (λK hK=>?_);have KW:=HO.out.below Hb.out;have LL:=cell_later Hb.out nD.out;have hfz:=Hpz.out dz KW LL;have nW:=hfz (j*3);have lV:=hfz (j*3+1);have ES:=hfz (j*3+2);have hup:=Hpk.out dz KW LL;have sk:=aK aR.out Hb.out;obtain⟨JH,jK⟩:=aM hup sk;clear KW LL hfz hup sk;go_simp;refine hK _ _ (λh=>absurd h zd) ?_;clear hK K;try simp only[UU]
       simp only[aU];go_wp2;refine⟨⟨j+1,R2,by omega,by go_num,xV.out.1,xV.out.2,YQ.out,JH.out,λi hi=>?_,?_,?_⟩,by simp[intOf];omega⟩
       . have hne:(⟨go,i,none⟩:Addr).block≠g:=λe=>hg3 e.symm;exact aH (.inl hne) (aH (.inl hne) (aH (.inl hne) (cell_later Hb.out (YH.out i hi))))
       . have hne:g≠w8.heap.size:=by omega
         exact((Hs.out.an5 _ hne _).an5 _ hne _).an5 _ hne _
       . exact((jK.out.setCell hg1 _).setCell hg1 _).setCell hg1 _
     . obtain rfl:j=n:=by omega
       have kC:(∀a b,a<j->b<j->bZ R a b=if je (k+1) 0 a b then F a b*G else F a b):=by
        intro a b ha hb;rw[hRe a b ha hb];have:je k j a b↔je (k+1) 0 a b:=by unfold je;omega
        by_cases h:je k j a b
        . rw[if_pos h,if_pos (this.1 h)]
        . rw[if_neg h,if_neg (λh2=>h (this.2 h2))]
       have hres:(∃k' R,k'<=j/\k'=k+1/\R.length=j/\(∀r∈R,r.length=j)/\(∀a b,a<j->b<j->bZ R a b=if je k' 0 a b then F a b*G else F a b)/\fB wr w5.heap.size j R j (.slice (some ⟨go,0,none⟩) j cv)/\(∀i,i<j->wr.cell? ⟨go,i,none⟩=some (.slice (some ⟨(gI i).1,0,none⟩) j (gI i).2))/\ai wr w8.heap.size 30 [.bool (au (dN G)),.string (bs (nt (dN G).natAbs)),.int .i64 (dE G)]/\Bw w5 wr):=⟨k+1,R,by omega,rfl,pp,pq,kC,hO,hc,hs,pb⟩;have fN:=ah hres;clear hres kC pp pq hRe hO hc hs pb;go_wp2;go_roundw;case rel=>obtain⟨k',R,h1,rfl,h⟩:=fN.out;exact⟨k+1,R,h1,by go_num,h⟩
       case measure=>simp[intOf];omega
  . obtain rfl:k=n:=by omega
    have hRf:R=nQ k P:=rG.out R pp pq (λa b ha hb=>by rw[hRe a b ha hb,if_pos (by unfold je;omega)]);subst hRf;obtain⟨zT,aR⟩:=aM hO pb;clear hO hc hs pb pp pq hRe;obtain⟨Hr,Hd,Hb⟩:=cH (jL.out.below aR.out) (IJ.out.below aR.out) (aK dt.out aR.out);obtain⟨r0,aj,r1,ar,r2,aG⟩:=Hr.out.g3;obtain⟨d0,d1,d2⟩:=Hd.out.c3;go_wp2_with fail;refine(jI.out _ Hb.out).mono ?_;rintro e mB ⟨rfl,tY,ae⟩;clear r0 aj r1 ar r2 aG d0 d1 d2;replace Hr:=kB Hr ae;replace Hd:=kB Hd ae;obtain⟨r0,aj,r1,ar,r2,aG⟩:=Hr.out.g3;obtain⟨d0,d1,d2⟩:=Hd.out.c3;replace Hb:=az Hb ae;clear ae;have Yk:=ah (zT.out.below tY);clear tY;have hzz:=dt.out.size;have ji:w.heap.size<w5.heap.size:=Nat.lt_of_lt_of_le jL.out.lt (Nat.le_refl _);go_wp2;refine gu (λuR=>ai uR w.heap.size 30 [.bool (au (dN (G*X))),.string (bs (nt (dN (G*X)).natAbs)),.int .i64 (dE (G*X))]/\fB uR w5.heap.size k (nQ k P) k (.slice (some ⟨go,0,none⟩) k cv)/\Bw w uR) ⟨((Hr.out.set 0 _).set 1 _).set 2 _,((Yk.out.aog ji _).aog ji _).aog ji _,((Hb.out.setCell zp _).setCell zp _).setCell zp _⟩ ?_;rintro uR ⟨afx,afo,aeT⟩;obtain⟨q0,q1,q2⟩:=afx.c3;obtain⟨a9,c9,mX,Fq,CC⟩:=afo.tbl (Er _ _) (Es _ _);simp only[Value.slice.injEq,true_and]at mX;obtain⟨rfl,rfl⟩:=mX;exact bodyPost_ret (v:=.tuple #[bC (G*X),.slice (some ⟨go,0,none⟩) k cv,.int .i64 0]) (by simp[results,Tryz.results55,go_sem,q0,q1,q2]) rfl ⟨_,_,rfl,Fq,CC,aeT⟩
def rz (xs:List Raw):Nat->Dyadic:=λb=>(xs.map aB).getD b 0
theorem Ov (xs:List Raw)(k:Nat)(h:k<xs.length):rz xs k=aB xs[k]:=by unfold rz;simp[List.getD_eq_getElem?_getD,h]
def oD (n:Nat)(p:Nat->Nat->Dyadic)(x:Nat->Dyadic)(i:Nat):List Dyadic:=wZ n p x i::(List.range i).map λa=>oH n p x (a+1)
def pQ (n:Nat)(p:Nat->Nat->Dyadic)(x:Nat->Dyadic):List Dyadic:=(List.range (n+1)).map λk=>oH n p x k
theorem ahO (n:Nat)(p:Nat->Nat->Dyadic)(x:Nat->Dyadic)(i:Nat):(oD n p x i).length=i+1:=by simp[oD]
theorem ahP (n:Nat)(p:Nat->Nat->Dyadic)(x:Nat->Dyadic)(i:Nat):(oD n p x i++[oH n p x (i+1)]).set 0 (wZ n p x i-oH n p x (i+1))=oD n p x (i+1):=by unfold oD;rw[List.range_succ,List.map_append];rfl
theorem ahN (n:Nat)(hn:1<=n)(cd:n<=4)(p:Nat->Nat->Dyadic)(x:Nat->Dyadic):oD n p x n=pQ n p x:=by unfold oD pQ;rw[XK n hn cd,List.range_succ_eq_map,List.map_cons,List.map_map];rfl
theorem Wm {w:World}{b base n:Nat}{e:TypeId}{size:Nat}{xs:List Value}(h:ai w b e xs)(hb:base<=b)(hl:xs.length=n*size)(hn:n<=1048576):w.ownsRow base e size (.slice (some ⟨b,0,none⟩) n n) n xs:=
 ⟨hl,.inr ⟨b,n,xs.toArray,rfl,hb,h,Nat.le_refl _,by unfold maxLen;omega,by simpa using hl,by rw[<-hl];simp⟩⟩
theorem aX.aoj {w:World}{a:Option Addr}{T:List (List Dyadic)}{n:Nat}(h:aX w a (T.map λr=>r.map canon))(hl:T.length=n)(hr:∀r∈T,r.length=n)(k i:Nat)(hk:k<n)(hi:i<n):
 ∃b o br os cr,a=some ⟨b,o,none⟩/\w.cell? ⟨b,o+k,none⟩=some (.slice (some ⟨br,os,none⟩) n cr)/\aZ w br (os+i*3) [.bool (au (dN (bZ T k i))),.string (bs (nt (dN (bZ T k i)).natAbs)),.int .i64 (dE (bZ T k i))]:=by
 have FH:k<T.length:=by omega
 obtain⟨b,o,a',c',h1,h2,h3⟩:=h.row k (by simpa using FH);have e1:(T.map λr=>r.map canon)[k]'(by simpa using FH)=T[k].map canon:=by simp
 have hlk:=hr _ (List.getElem_mem FH);rw[e1]at h2 h3;rw[List.length_map,hlk]at h2;have hik:i<T[k].length:=by omega
 have e2:bZ T k i=T[k][i]:=by unfold bZ;simp[List.getD_eq_getElem?_getD,FH,hik]
 obtain⟨br,os,e3,q0,q1,q2⟩:=h3.num i (by simpa using hik) (show(T[k].map canon)[i]'(by simpa using hik)=(au (dN (bZ T k i)),nt (dN (bZ T k i)).natAbs,dE (bZ T k i))by rw[e2];simp;rfl);subst e3;exact⟨b,o,br,os,c',h1,h2,gM q0 q1 q2⟩
def Qt (w:World)(n:Nat)(p:Nat->Nat->Dyadic)(x:Nat->Dyadic)(e:Ending)(w':World):Prop:=
 ∃a' c',e=.returned (.tuple #[.slice a' (n+1) c',.int .i64 0])/\n+1<=c'/\At w' a' (dC (pQ n p x))/\Bw w w'
theorem XL (a:Option Addr)(cap m:Nat)(rows:List (List Raw))(B:Nat)(xa:Option Addr)(xc:Nat)(xs:List Raw)(w:World)(hm:m+1<=4)(hr:Rw (m+1) B rows)(hcap:m+1+1<=cap)(ha:aX w a rows)(hx:At w xa (xs.flatMap bB))(hxl:xs.length=m+1)(uq:∀x∈xs,Fit B x)(hB:B<=200000)(hT:aF w)(h0:ny rows=0):
 Calls Tryz.prog 22 #[.slice a (m+1+1) cap,.slice xa (m+1) xc] w (Qt w (m+1) (eN rows) (rz xs)):=by
 obtain⟨n,hn⟩:=aC (m+1);obtain⟨i0,hi,hz0,hz1,hz2⟩:=info_parts Tryz.an8;have hL:=hr.1;have hrow:=hr.2.1;have hfit:=hr.2.2;have lA:=λW (hW:Bw w W)=>Vm a cap m rows B W hm hr hcap (ha.below hW) hB (hT.below hW) h0;have qH:=λW (hW:Bw w W)=>zJ a (m+1+1) cap rows W hL zo (ha.below hW);rw[zI hL hrow zo zo]at qH;have hps:∀a b,a<=m+1->b<m+1->Sm B (eN rows a b):=λa b ha hb=>by rw[qZ rows a b zo (by rw[hrow _ (List.getElem_mem _)];exact hb)];exact(hfit _ (List.getElem_mem _) _ (List.getElem_mem _)).2
 have yI:∀b,b<m+1->Sm B (rz xs b):=λb hb=>by rw[Ov xs b zo];exact(uq _ (List.getElem_mem _)).2
 have h00:0<rows.length:=by omega
 obtain⟨b,o,a0,c0,hab,hc0,gy⟩:=ha.row 0 h00;have pI:rows[0].length=m+1:=hrow _ (List.getElem_mem h00);have wB:∀x∈rows[0],Fit B x:=hfit _ (List.getElem_mem h00);obtain⟨p0,wA⟩:=aC (rows[0]);rw[wA]at hc0 gy pI wB;have hp0:∀k (h:k<p0.length),eN rows 0 k=aB p0[k]:=λk h=>by subst wA;exact qZ rows 0 k h00 h
 rw[pI,Nat.add_zero]at hc0;subst hab;obtain⟨P,hP⟩:=aC (eN rows);rw[hP]at lA hps hp0⊢;obtain⟨xf,Mu⟩:=aC (rz xs);have hxk:∀k (h:k<xs.length),xf k=aB xs[k]:=λk h=>by rw[<-Mu];exact Ov xs k h
 rw[Mu]at yI⊢;have wL:=λi k (hk:k<=m+1)=>GK zo hm hps yI i k hk;have Mr:=λk (hk:k<=m+1)=>Om zo hm hps yI k hk;have mO:=λk i=>AZ zo hm hps k i;have hwt:=λi (hi:i<m+1)=>Oi (m+1) zo hm P xf i hi;have hend:=ahN (m+1) zo hm P xf;have oh:=JV (m+1) P;have htl:=Er (m+1) P;have htr:=Es (m+1) P;rw[hn]at lA qH hps yI hxl hc0 pI wL Mr mO hwt hend oh htl htr⊢;have cd:n<=4:=by omega
 have dA:1<=n:=by omega
 have qK:b<w.heap.size:=World.block_lt_of_cell? w _ hc0;have wQ:=gz (n+1) cap 0 0 (show some (⟨b,o,none⟩:Addr)=some ⟨b,o,none⟩from rfl) zo rfl;rw[Nat.zero_mul,Nat.add_zero]at wQ;obtain⟨Hi,cM,cN,cJ,ko,AR,HT,Hx,Hxl,Hxf,vF,nK⟩:=gW hi hz0 hz1 hz2 lA qH hT hx hxl uq hxk hps;obtain⟨aaO,nC,gY,Jn,Jm,Jl,Ef,HwZ,zY,Qo,dU,JF⟩:=gW yI hc0 gy pI wB hp0 wL Mr mO hwt hend oh;obtain⟨AO,kU,Au⟩:=cH htl htr wQ;clear hi hz0 hz1 hz2 lA qH hT hx hxl uq hxk hps yI hc0 gy pI wB hp0 wL Mr mO hwt hend oh htl htr wQ hP Mu wA h00 ha hr hL hrow hfit h0 hn;have hnz:((n:Int)==0)=false:=by simp;omega
 have Hb:Hid (Bw w w):=Below.refl _ _;go_enter Tryz.func22,Tryz.ntmps22;go_wp2_with fail;refine(ko.out _ Hb.out).mono ?_;rintro e w1 ⟨a1,c1,rfl,hc1,ht1,ae⟩;have tF:=ah ht1;replace Hb:=az Hb ae;clear ae ht1;obtain⟨dd,hdd⟩:=aC (lI (fC n P) *fC n P);have YL:=ah hdd;rw[hdd];clear hdd;obtain⟨W2,nX,ae,Hd⟩:=cQ w1 30 [.bool (au (dN dd)),.string (bs (nt (dN dd).natAbs)),.int .i64 (dE dd)];obtain⟨d0,d1,d2⟩:=Hd.out.c3;replace Hb:=az Hb ae;clear ae;have HA:Hid (aX W2 a1 ((nQ n P).map λr=>r.map canon)):=tF.out.below (by first|exact zl| (rw[<-nX];exact zl));clear tF;go_wp2_with fail;refine(AR.out _ Hb.out).mono ?_;rintro e w3 ⟨rfl,ae⟩;clear d0 d1 d2;replace Hd:=kB Hd ae;replace HA:=kL HA ae;obtain⟨d0,d1,d2⟩:=Hd.out.c3;replace Hb:=az Hb ae;clear ae;have IJ:=Hd;have GP:=HA;have dt:=Hb;have P0:=d0;have P1:=d1;have P2:=d2;have afm:((n:Int) !=(n:Int)+1-1)=false:=by simp
 have agI:=Hd.out.lt;obtain⟨W4,nY,ae,Hq⟩:=cQ w3 30 [.bool (au (dN dd)),.string (bs (nt (dN dd).natAbs)),.int .i64 (dE dd)];clear d0 d1 d2;replace Hd:=kB Hd ae;replace HA:=kL HA ae;obtain⟨d0,d1,d2⟩:=Hd.out.c3;obtain⟨q0,q1,q2⟩:=Hq.out.c3;replace Hb:=az Hb ae;clear ae;go_wp2_with fail;have hst:W4.ownsRow w3.heap.size 30 3 (.slice (some ⟨w3.heap.size,0,none⟩) 1 1) 1 (dC (oD n P xf 0)):=by
  have e:dC (oD n P xf 0)=[.bool (au (dN dd)),.string (bs (nt (dN dd).natAbs)),.int .i64 (dE dd)]:=by unfold oD wZ;rw[YL.out];rfl
  rw[e];exact Wm Hq.out (Nat.le_refl _) rfl zo
 have bS:=ah hst;have Oz:Hid (Bw w3 W4):=by rw[<-nY];exact zl
 clear hst P0 P1 P2 afm hnz;go_loopw[9,39] (λs9 x wr=>∃(i:Nat) (v:Value),i<=n/\x=.int .i64 (i:Int)/\v=s9/\wr.ownsRow w3.heap.size 30 3 v (i+1) (dC (oD n P xf i))/\Bw w3 wr) (λ_ x _=>n-(intOf x).toNat);case atStart=>exact⟨0,_,Nat.zero_le _,rfl,rfl,bS.out,Oz.out⟩
 case round=>
  clear bS Oz d0 d1 d2 q0 q1 q2 Hd Hq HA Hb;obtain⟨i,v,hi,rfl,rfl,ho,pb⟩:=hrel;by_cases hlt:i<n
  . obtain⟨wo,hwo⟩:∃wo,wo=wr:=⟨_,rfl⟩;subst hwo;have hvl:=ho.lt;obtain⟨Ho,aR⟩:=aM ho pb;have iu:=pb.size;have xw:=dt.out.size;clear ho pb;have Hb:Hid (Bw wo wo):=Below.refl _ _;have qF:decide ((i:Int)<(n:Int))=true:=by simp;omega
    obtain⟨W5,BP,ae,Hy⟩:=cQ wo 30 [.bool false,.string ⟨#[]⟩,.int .i64 0];obtain⟨y0,aP,y1,aQ,y2,aS⟩:=Hy.out.g3;replace Hb:=az Hb ae;clear ae;have AV:=Hy;have fq:=Hb;go_wp2_with fail;clear qF y0 aP y1 aQ y2 aS Hy Hb;go_loopw[45] (λx wr=>∃k:Nat,k<=n/\x=.int .i64 (k:Int)/\ai wr wo.heap.size 30 [.bool (au (dN (wS n P xf i k))),.string (bs (nt (dN (wS n P xf i k)).natAbs)),.int .i64 (dE (wS n P xf i k))]/\Bw wo wr) (λx _=>n-(intOf x).toNat);case atStart=>exact⟨0,Nat.zero_le _,rfl,((AV.out.set 0 _).set 1 _).set 2 _,((fq.out.setCell (Nat.le_refl _) _).setCell (Nat.le_refl _) _).setCell (Nat.le_refl _) _⟩
    case round=>
     clear AV fq;obtain⟨k,hk,rfl,hy,qb⟩:=hrel;by_cases bo:k<n
     . have Lt:=aK aR.out qb;have tZ:=aK dt.out Lt;have LN:k<xs.length:=by rw[Hxl.out];exact bo
       have mh:k<p0.length:=by rw[Jn.out];exact bo
       obtain⟨sx,mx,ex,jk⟩:=jf (xs[k]);obtain⟨sp,mp,ep,hpe⟩:=jf (p0[k]);have eF:=Hxf.out _ (List.getElem_mem LN);have dv:=Jm.out _ (List.getElem_mem mh);rw[jk]at eF;rw[hpe]at dv;obtain⟨bx,ox,Lq,x0,x1,x2⟩:=(Hx.out.below tZ).num k LN jk;obtain⟨bp,op,BU,p1,p2,p3⟩:=(gY.out.below tZ).num k mh hpe;obtain⟨ba,oa,bq,oq,cq,BR,BZ,hq⟩:=(GP.out.below Lt).aoj AO.out kU.out k i bo hlt;rw[JF.out k i bo hlt]at hq;have MB:bx<w.heap.size:=by subst Lq;exact Hx.out.lt (by intro h0;have:=congrArg List.length h0;rw[jg bB 3 (λ_=>rfl)]at this;simp at this;omega)
       obtain⟨D,hD⟩:=aC (aB (sx,mx,ex)-aB (sp,mp,ep));have KQ:xf k-P 0 k=D:=by rw[vF.out k LN,Jl.out k mh,jk,hpe];exact hD
       obtain⟨Q,hQ⟩:=aC (jw n P k i);obtain⟨Z,hZ⟩:=aC (D*Q);obtain⟨S0,mN⟩:=aC (wS n P xf i k);obtain⟨S1,hS1⟩:=aC (wS n P xf i (k+1));have BL:S0+Z=S1:=by rw[<-hS1,<-hZ,<-KQ,<-hQ,<-mN];rfl
       have gS:Sm (B+1) D:=by rw[<-KQ];exact Sm.sub (aaO.out k bo) (nK.out 0 k zo bo)
       have rX:=zY.out k i;rw[hQ]at rX hq;have vS:=Ef.out i k zo;rw[mN]at vS hy;have BQ:Sm (5*B+12) Z:=by rw[<-hZ];exact(Sm.mul gS rX).mono zo
       have vp:Hid (Fit (4*B+11) (canon D)):=(gS.mono zo).fit zo;have vq:Hid (Fit (4*B+11) (canon Q)):=rX.fit zo;have Ai:Hid (Fit (5*B+16) (canon S0)):=(vS.mono zo).fit zo;have tv:Hid (Fit (5*B+16) (canon Z)):=(BQ.mono zo).fit zo;have HZ:Hid (aB (canon D) *aB (canon Q)=Z):=by show _=_;rw[bP,bP];exact hZ
       have Ih:Hid (aB (canon S0)+aB (canon Z)=S1):=by show _=_;rw[bP,bP];exact BL
       have Vo:=jW n xc k (k:Int) Lq bo rfl;have ixp:=jW n c0 k (k:Int) BU bo rfl;have Mz:=wO n c1 k (k:Int) BR bo rfl;rw[Nat.mul_one]at Mz;have ixq:=mo n cq i (i:Int) (rfl:(some ⟨bq,oq,none⟩:Option Addr)=_) hlt rfl;have uu:=Au.out;obtain⟨Lc,HD,gZ,jb,zX⟩:=fp hS1 hD eF dv (HT.out.below tZ);have Hy:Hid (ai wr wo.heap.size 30 [.bool (au (dN S0)),.string (bs (nt (dN S0).natAbs)),.int .i64 (dE S0)]):=hy;have ku:Hid (aZ wr bx (ox+k*3) [.bool sx,.string (bs mx),.int .i64 ex]):=gM x0 x1 x2;have Hp:Hid (aZ wr bp (op+k*3) [.bool sp,.string (bs mp),.int .i64 ep]):=gM p1 p2 p3;have Hs:Hid (aZ wr b o [.slice a0 n c0]):=λj hj=>by
        obtain rfl:j=0:=by simp at hj;omega
        exact cell_later tZ nC.out
       have Hr:Hid (aZ wr ba (oa+k) [.slice (some ⟨bq,oq,none⟩) n cq]):=λj hj=>by
        obtain rfl:j=0:=by simp at hj;omega
        exact BZ
       have Hq:Hid (aZ wr bq (oq+i*3) [.bool (au (dN Q)),.string (bs (nt (dN Q).natAbs)),.int .i64 (dE Q)]):=hq;have iK:=ah qb;have NW:=qb.size;have CH:=Hy.out.lt;clear x0 x1 x2 p1 p2 p3 BZ hq hy jk hpe eF dv Lq BU BR hD KQ hQ hZ mN hS1 BL gS rX vS BQ qb Lt tZ;have Hb:Hid (Bw wr wr):=Below.refl _ _;go_wp2_with fail;obtain⟨y0,aP,y1,aQ,y2,aS⟩:=Hy.out.g3;obtain⟨iG,iH,iI⟩:=ku.out.w3;obtain⟨p0,p1,p2⟩:=Hp.out.w3;have s0:=Hs.out.w1;have r0:=Hr.out.w1;obtain⟨q0,q1,q2⟩:=Hq.out.w3;have HU:Hid (aF wr):=zX.out;refine bD (λw'=>w'.cell? ⟨wo.heap.size,0,none⟩=some (.bool (au (dN S0)))/\w'.cell? ⟨wo.heap.size,1,none⟩=some (.string (bs (nt (dN S0).natAbs)))/\w'.cell? ⟨wo.heap.size,2,none⟩=some (.int .i64 (dE S0))/\w'.cell? ⟨bx,ox+k*3,none⟩=some (.bool sx)/\w'.cell? ⟨bx,ox+k*3+1,none⟩=some (.string (bs mx))/\w'.cell? ⟨bx,ox+k*3+2,none⟩=some (.int .i64 ex)/\w'.cell? ⟨bp,op+k*3,none⟩=some (.bool sp)/\w'.cell? ⟨bp,op+k*3+1,none⟩=some (.string (bs mp))/\w'.cell? ⟨bp,op+k*3+2,none⟩=some (.int .i64 ep)/\w'.cell? ⟨b,o,none⟩=some (.slice a0 n c0)/\w'.cell? ⟨ba,oa+k,none⟩=some (.slice (some ⟨bq,oq,none⟩) n cq)/\w'.cell? ⟨bq,oq+i*3,none⟩=some (.bool (au (dN Q)))/\w'.cell? ⟨bq,oq+i*3+1,none⟩=some (.string (bs (nt (dN Q).natAbs)))/\w'.cell? ⟨bq,oq+i*3+2,none⟩=some (.int .i64 (dE Q))) (λi=>Nat.blt i 23) [(0,true),(1,true),(2,true),(3,true),(4,true),(5,true),(6,true),(7,true),(8,true),(9,true),(10,true),(12,true),(13,true),(14,true),(15,true),(16,true),(17,true),(18,true),(11,false),(19,false),(20,false),(21,false),(22,false),(23,false)] zk zk rfl zk zc ⟨y0,y1,y2,iG,iH,iI,p0,p1,p2,s0,r0,q0,q1,q2⟩ ?_;iterate 18 (refine pT rfl rfl ?_ (by intro w' ⟨q0,q1,q2,q3,q4,q5,q6,q7,q8,q9,uL,zr,zu,zw⟩;go_simp;try with_reducible rfl);try simp only[UU])
       refine aJ rfl rfl (λK hK=>?_);go_simp;with_reducible refine(yj sx mx ex sp mp ep D B HD.out _ gZ.out jb.out zo (by first|exact HU.out|exact aF.drew HU.out|exact aF.alloc HU.out _|exact aF.drew (aF.alloc HU.out _) |exact aF.alloc (aF.drew HU.out) _)).mono ?_
       rintro e w6 ⟨rfl,hq⟩;have ae:Bw wr w6:=by first|exact hq|exact aO hq
       clear y0 aP y1 aQ y2 aS iG iH iI p0 p1 p2 s0 r0 q0 q1 q2;replace Hy:=kB Hy ae;replace ku:=kW ku ae;replace Hp:=kW Hp ae;replace Hs:=kW Hs ae;replace Hr:=kW Hr ae;replace Hq:=kW Hq ae;replace HU:=kT HU ae;obtain⟨y0,aP,y1,aQ,y2,aS⟩:=Hy.out.g3;obtain⟨iG,iH,iI⟩:=ku.out.w3;obtain⟨p0,p1,p2⟩:=Hp.out.w3;have s0:=Hs.out.w1;have r0:=Hr.out.w1;obtain⟨q0,q1,q2⟩:=Hq.out.w3;replace Hb:=az Hb ae;clear ae;refine hK _ _ (λ_=>⟨y0,y1,y2,iG,iH,iI,p0,p1,p2,s0,r0,q0,q1,q2⟩) ?_;clear hK K;try simp only[UU]
       refine aJ rfl rfl (λK hK=>?_);go_simp;refine hK _ _ (λ_=>⟨aI y0,aI y1,aI y2,aI iG,aI iH,aI iI,aI p0,aI p1,aI p2,aI s0,aI r0,aI q0,aI q1,aI q2⟩) ?_;clear hK K;try simp only[UU]
       refine bE (λW7=>ai W7 (w6.heap.size) 30 [.bool (au (dN D)),.string (bs (nt (dN D).natAbs)),.int .i64 (dE D),.bool (au (dN Q)),.string (bs (nt (dN Q).natAbs)),.int .i64 (dE Q)]/\Bw w6 W7) (by first|exact dW|exact dX) ?_;rintro W7 ⟨qe,ae⟩;clear y0 aP y1 aQ y2 aS iG iH iI p0 p1 p2 s0 r0 q0 q1 q2;have ans:=Hy.out.lt;replace Hy:=kB Hy ae;replace ku:=kW ku ae;replace Hp:=kW Hp ae;replace Hs:=kW Hs ae;replace Hr:=kW Hr ae;replace Hq:=kW Hq ae;replace HU:=kT HU ae;have He:=ah qe;clear qe;obtain⟨y0,aP,y1,aQ,y2,aS⟩:=Hy.out.g3;obtain⟨iG,iH,iI⟩:=ku.out.w3;obtain⟨p0,p1,p2⟩:=Hp.out.w3;have s0:=Hs.out.w1;have r0:=Hr.out.w1;obtain⟨q0,q1,q2⟩:=Hq.out.w3;obtain⟨e0,e1,e2,e3,e4,e5⟩:=He.out.c6;replace Hb:=az Hb ae;clear ae;refine aJ rfl rfl (λK hK=>?_);go_simp;with_reducible refine(Bi _ _ _ _ _ _ Z (4*B+11) HZ.out w6.heap.size _ 30 _ vp.out vq.out zo He.out (by first|exact HU.out|exact aF.drew HU.out|exact aF.alloc HU.out _|exact aF.drew (aF.alloc HU.out _) |exact aF.alloc (aF.drew HU.out) _)).mono ?_
       rintro e w8 ⟨rfl,hq⟩;have ae:Bw W7 w8:=by first|exact hq|exact aO hq
       clear y0 aP y1 aQ y2 aS iG iH iI p0 p1 p2 s0 r0 q0 q1 q2 e0 e1 e2 e3 e4 e5;replace Hy:=kB Hy ae;replace ku:=kW ku ae;replace Hp:=kW Hp ae;replace Hs:=kW Hs ae;replace Hr:=kW Hr ae;replace Hq:=kW Hq ae;replace HU:=kT HU ae;replace He:=kB He ae;obtain⟨y0,aP,y1,aQ,y2,aS⟩:=Hy.out.g3;obtain⟨iG,iH,iI⟩:=ku.out.w3;obtain⟨p0,p1,p2⟩:=Hp.out.w3;have s0:=Hs.out.w1;have r0:=Hr.out.w1;obtain⟨q0,q1,q2⟩:=Hq.out.w3;obtain⟨e0,e1,e2,e3,e4,e5⟩:=He.out.c6;replace Hb:=az Hb ae;clear ae;refine hK _ _ (λ_=>⟨y0,y1,y2,iG,iH,iI,p0,p1,p2,s0,r0,q0,q1,q2⟩) ?_;clear hK K;try simp only[UU]
       refine aJ rfl rfl (λK hK=>?_);go_simp;refine hK _ _ (λ_=>⟨aI y0,aI y1,aI y2,aI iG,aI iH,aI iI,aI p0,aI p1,aI p2,aI s0,aI r0,aI q0,aI q1,aI q2⟩) ?_;clear hK K;try simp only[UU]
       refine bE (λW9=>ai W9 (w8.heap.size) 30 [.bool (au (dN S0)),.string (bs (nt (dN S0).natAbs)),.int .i64 (dE S0),.bool (au (dN Z)),.string (bs (nt (dN Z).natAbs)),.int .i64 (dE Z)]/\Bw w8 W9) (by first|exact dW|exact dX) ?_;rintro W9 ⟨qf,ae⟩;clear y0 aP y1 aQ y2 aS iG iH iI p0 p1 p2 s0 r0 q0 q1 q2 e0 e1 e2 e3 e4 e5;have agT:=Hy.out.lt;have amL:=He.out.lt;replace Hy:=kB Hy ae;replace ku:=kW ku ae;replace Hp:=kW Hp ae;replace Hs:=kW Hs ae;replace Hr:=kW Hr ae;replace Hq:=kW Hq ae;replace HU:=kT HU ae;replace He:=kB He ae;have Hf:=ah qf;clear qf;obtain⟨y0,aP,y1,aQ,y2,aS⟩:=Hy.out.g3;obtain⟨iG,iH,iI⟩:=ku.out.w3;obtain⟨p0,p1,p2⟩:=Hp.out.w3;have s0:=Hs.out.w1;have r0:=Hr.out.w1;obtain⟨q0,q1,q2⟩:=Hq.out.w3;obtain⟨e0,e1,e2,e3,e4,e5⟩:=He.out.c6;obtain⟨f0,f1,f2,f3,f4,f5⟩:=Hf.out.c6;replace Hb:=az Hb ae;clear ae;refine aJ rfl rfl (λK hK=>?_);go_simp;with_reducible refine(Bh _ _ _ _ _ _ S1 (5*B+16) Ih.out w8.heap.size _ 30 _ Ai.out tv.out zo Hf.out (by first|exact HU.out|exact aF.drew HU.out|exact aF.alloc HU.out _|exact aF.drew (aF.alloc HU.out _) |exact aF.alloc (aF.drew HU.out) _)).mono ?_
       rintro e dz ⟨rfl,hq⟩;have ae:Bw W9 dz:=by first|exact hq|exact aO hq
       clear y0 aP y1 aQ y2 aS iG iH iI p0 p1 p2 s0 r0 q0 q1 q2 e0 e1 e2 e3 e4 e5 f0 f1 f2 f3 f4 f5;replace Hy:=kB Hy ae;replace ku:=kW ku ae;replace Hp:=kW Hp ae;replace Hs:=kW Hs ae;replace Hr:=kW Hr ae;replace Hq:=kW Hq ae;replace HU:=kT HU ae;replace He:=kB He ae;replace Hf:=kB Hf ae;obtain⟨y0,aP,y1,aQ,y2,aS⟩:=Hy.out.g3;obtain⟨iG,iH,iI⟩:=ku.out.w3;obtain⟨p0,p1,p2⟩:=Hp.out.w3;have s0:=Hs.out.w1;have r0:=Hr.out.w1;obtain⟨q0,q1,q2⟩:=Hq.out.w3;obtain⟨e0,e1,e2,e3,e4,e5⟩:=He.out.c6;obtain⟨f0,f1,f2,f3,f4,f5⟩:=Hf.out.c6;replace Hb:=az Hb ae;clear ae;refine hK _ _ (λ_=>⟨y0,y1,y2,iG,iH,iI,p0,p1,p2,s0,r0,q0,q1,q2⟩) ?_;clear hK K;try simp only[UU]
       refine aJ rfl rfl (λK hK=>?_);go_simp;refine hK _ _ (by first|exact λh=>absurd h zd|exact λ_=>⟨y0,y1,y2,iG,iH,iI,p0,p1,p2,s0,r0,q0,q1,q2⟩ |exact λ_=>⟨(by first|exact y0|exact aH zf y0|exact aH zf (aH zf y0) |exact aH zf (aH zf (aH zf y0))),(by first|exact y1|exact aH zf y1|exact aH zf (aH zf y1) |exact aH zf (aH zf (aH zf y1))),(by first|exact y2|exact aH zf y2|exact aH zf (aH zf y2) |exact aH zf (aH zf (aH zf y2))),(by first|exact iG|exact aH zf iG|exact aH zf (aH zf iG) |exact aH zf (aH zf (aH zf iG))),(by first|exact iH|exact aH zf iH|exact aH zf (aH zf iH) |exact aH zf (aH zf (aH zf iH))),(by first|exact iI|exact aH zf iI|exact aH zf (aH zf iI) |exact aH zf (aH zf (aH zf iI))),(by first|exact p0|exact aH zf p0|exact aH zf (aH zf p0) |exact aH zf (aH zf (aH zf p0))),(by first|exact p1|exact aH zf p1|exact aH zf (aH zf p1) |exact aH zf (aH zf (aH zf p1))),(by first|exact p2|exact aH zf p2|exact aH zf (aH zf p2) |exact aH zf (aH zf (aH zf p2))),(by first|exact s0|exact aH zf s0|exact aH zf (aH zf s0) |exact aH zf (aH zf (aH zf s0))),(by first|exact r0|exact aH zf r0|exact aH zf (aH zf r0) |exact aH zf (aH zf (aH zf r0))),(by first|exact q0|exact aH zf q0|exact aH zf (aH zf q0) |exact aH zf (aH zf (aH zf q0))),(by first|exact q1|exact aH zf q1|exact aH zf (aH zf q1) |exact aH zf (aH zf (aH zf q1))),(by first|exact q2|exact aH zf q2|exact aH zf (aH zf q2) |exact aH zf (aH zf (aH zf q2)))⟩) ?_;clear hK K;try simp only[UU]
       simp only[aU];have Tb:=aK iK.out Hb.out;have ve:=ah Tb;clear Tb;go_wp2;refine⟨⟨k+1,by omega,by go_num,?_,?_⟩,by simp[intOf];omega⟩
       . rw[Lc.out];exact((Hy.out.set 0 _).set 1 _).set 2 _
       . exact((ve.out.setCell (Nat.le_refl _) _).setCell (Nat.le_refl _) _).setCell (Nat.le_refl _) _
     . obtain rfl:k=n:=by omega
       rw[Qo.out i hlt]at hy;obtain⟨T,hTe⟩:=aC (oH k P xf (i+1));have hTs:=Ef.out i k (Nat.le_refl _);rw[Qo.out i hlt,hTe]at hTs;rw[hTe]at hy;obtain⟨Y,hY⟩:=aC (wZ k P xf i-T);have hnx:=ahP k P xf i;rw[hTe,hY]at hnx;have Aj:Hid (Fit (5*B+20) (canon T)):=(hTs.mono zo).fit zo;have tv:Hid (Fit (5*B+20) (canon (wZ k P xf i))):=((HwZ.out i zo).mono zo).fit zo;have HY:Hid (aB (canon (wZ k P xf i))-aB (canon T)=Y):=by show _=_;rw[bP,bP];exact hY
       obtain⟨O,hO⟩:=aC (oD k P xf i);obtain⟨W0,hW0⟩:=aC (wZ k P xf i);have Sk:∃O',O=W0::O':=⟨_,by rw[<-hO,<-hW0];rfl⟩;rw[hO]at hnx;have hov:=ownsRow_below Ho.out qb;rw[hO]at hov;rw[hW0]at tv HY;replace HY:Hid (aB (au (dN W0),nt (dN W0).natAbs,dE W0)-aB (au (dN T),nt (dN T).natAbs,dE T)=Y):=by show _=_;have h:=HY.out;exact h
       replace tv:Hid (Fit (5*B+20) (au (dN W0),nt (dN W0).natAbs,dE W0)):=tv;replace Aj:Hid (Fit (5*B+20) (au (dN T),nt (dN T).natAbs,dE T)):=Aj;have Sp:O.length=i+1:=by rw[<-hO];exact ahO _ _ _ _
       have Hy:Hid (ai wr wo.heap.size 30 [.bool (au (dN T)),.string (bs (nt (dN T).natAbs)),.int .i64 (dE T)]):=hy;obtain⟨cp,iK,rL,Yj,HOl,zX⟩:=gJ hov qb hnx Sk Sp (HT.out.below (aK dt.out (aK aR.out qb)));have NW:=qb.size;have hvb:∀g,v.ownBlock=some g->g<wo.heap.size:=λg e=>(hvl g e).2;clear hy hov qb hnx Sk Sp hTs hTe hY hO hW0 Ho hvl;have Hb:Hid (Bw wr wr):=Below.refl _ _;have CH:=Hy.out.lt;obtain⟨y0,y1,y2⟩:=Hy.out.c3;have P0:=y0;have P1:=y1;have P2:=y2;have agS:=Hy.out.lt;obtain⟨W6,pu,ae,Hc⟩:=cQ wr 30 [.bool (au (dN T)),.string (bs (nt (dN T).natAbs)),.int .i64 (dE T)];clear y0 y1 y2;replace Hy:=kB Hy ae;obtain⟨y0,y1,y2⟩:=Hy.out.c3;obtain⟨c0,c1,c2⟩:=Hc.out.c3;replace Hb:=az Hb ae;clear ae;have cG:=ownsRow_below cp.out Hb.out;have ib:=Hb.out.size;go_wp2_with (at_builtin;refine wpList_append_own_at _ rfl _ _ 45 rfl w3.heap.size 30 i0 _ 3 32 Tryz.underlying45 Hi.out cM.out cN.out cJ.out rfl zd v (i+1) (dC O) rfl cG ⟨wr.heap.size,0,none⟩ 1 1 [.bool (au (dN T)),.string (bs (nt (dN T).natAbs)),.int .i64 (dE T)] rfl rfl (fZ Hc.out) zy zx zo zo ?_;intro v' w7 dD eU _ fJ;obtain⟨g',lS,rfl⟩:=ownsRow_succ dD);have ae8:g'≠wo.heap.size:=by
        rcases fJ with h|h
        . have:=hvb g' h.symm;omega
        . have h9:g'=W6.heap.size:=Option.some.inj h;omega
       have um:some wo.heap.size≠v.ownBlock:=λe=>by have:=hvb _ e.symm;omega
       have CG:=Hy.out.grown eU um;have iU:=(aK (aK aR.out iK.out) Hb.out).grown eU zo (λj e=>cL cG j e);have e7:dC O++[.bool (au (dN T)),.string (bs (nt (dN T).natAbs)),.int .i64 (dE T)]=dC (O++[T]):=by rw[tN];rfl
       rw[e7]at dD
       have hwo:=(by
        obtain⟨O',hO'⟩:=Yj.out;obtain⟨aa,ca,mX,pD,_⟩:=dK dD;simp only[Value.slice.injEq,true_and]at mX;obtain⟨rfl,rfl⟩:=mX;rw[rS]at pD;obtain⟨b9,o9,e9,z0,z1,z2⟩:=pD.num 0 zm (show((O++[T]).map canon)[0]'zm=(au (dN W0),nt (dN W0).natAbs,dE W0)by simp[hO'];rfl);simp only[Option.some.injEq,Addr.mk.injEq,and_true]at e9;obtain⟨rfl,rfl⟩:=e9;rw[Nat.zero_mul,Nat.zero_add]at z0 z1 z2
        exact gM z0 z1 z2:aZ w7 g' 0 [.bool (au (dN W0)),.string (bs (nt (dN W0).natAbs)),.int .i64 (dE W0)])
       have LB:=xh dD;obtain⟨Az,Ab⟩:=aM dD iU;have Ho:Hid (aZ w7 g' 0 [.bool (au (dN W0)),.string (bs (nt (dN W0).natAbs)),.int .i64 (dE W0)]):=hwo;have Il:=ah (HT.out.below (aK dt.out iU));replace Hy:Hid (ai w7 wo.heap.size 30 [.bool (au (dN T)),.string (bs (nt (dN T).natAbs)),.int .i64 (dE T)]):=CG;clear P0 P1 P2 y0 y1 y2 c0 c1 c2 dD iU hwo CG fJ um e7 Hb Hc cG eU cp zX;have Hb:Hid (Bw w7 w7):=Below.refl _ _;have MA:=mo (i+1+1) lS 0 0 (rfl:(some ⟨g',0,none⟩:Option Addr)=_) zo rfl;rw[Nat.zero_mul,Nat.add_zero]at MA;have o0:w7.cell? ⟨g',0,none⟩=some (.bool (au (dN W0))):=Ho.out.cell 0 zm;have o1:w7.cell? ⟨g',1,none⟩=some (.string (bs (nt (dN W0).natAbs))):=Ho.out.cell 1 zm;have o2:w7.cell? ⟨g',2,none⟩=some (.int .i64 (dE W0)):=Ho.out.cell 2 zm;obtain⟨y0,y1,y2⟩:=Hy.out.c3;have HU:Hid (aF w7):=Il.out;refine bD (λw'=>w'.cell? ⟨g',0,none⟩=some (.bool (au (dN W0)))/\w'.cell? ⟨g',1,none⟩=some (.string (bs (nt (dN W0).natAbs)))/\w'.cell? ⟨g',2,none⟩=some (.int .i64 (dE W0))/\w'.cell? ⟨wo.heap.size,0,none⟩=some (.bool (au (dN T)))/\w'.cell? ⟨wo.heap.size,1,none⟩=some (.string (bs (nt (dN T).natAbs)))/\w'.cell? ⟨wo.heap.size,2,none⟩=some (.int .i64 (dE T))) (λi=>Nat.blt i 7) [(0,true),(1,true),(2,true),(3,true),(4,true),(5,false),(6,true),(7,false)] zk zk rfl zk zc ⟨o0,o1,o2,y0,y1,y2⟩ ?_;iterate 5 (refine pT rfl rfl ?_ (by intro w' ⟨q0,q1,q2,q3,q4,q5⟩;go_simp;try with_reducible rfl);try simp only[UU])
       refine aJ rfl rfl (λK hK=>?_);go_simp;with_reducible refine(yj (au (dN W0)) (nt (dN W0).natAbs) (dE W0) (au (dN T)) (nt (dN T).natAbs) (dE T) Y (5*B+20) HY.out _ tv.out Aj.out zo (by first|exact HU.out|exact aF.drew HU.out|exact aF.alloc HU.out _|exact aF.drew (aF.alloc HU.out _) |exact aF.alloc (aF.drew HU.out) _)).mono ?_
       rintro e w8 ⟨rfl,hq⟩;have ae:Bw w7 w8:=by first|exact hq|exact aO hq
       clear o0 o1 o2 y0 y1 y2;replace Ho:=kW Ho ae;replace Hy:=kB Hy ae;replace HU:=kT HU ae;have o0:w8.cell? ⟨g',0,none⟩=some (.bool (au (dN W0))):=Ho.out.cell 0 zm;have o1:w8.cell? ⟨g',1,none⟩=some (.string (bs (nt (dN W0).natAbs))):=Ho.out.cell 1 zm;have o2:w8.cell? ⟨g',2,none⟩=some (.int .i64 (dE W0)):=Ho.out.cell 2 zm;obtain⟨y0,y1,y2⟩:=Hy.out.c3;replace Hb:=az Hb ae;clear ae;refine hK _ _ (λ_=>⟨o0,o1,o2,y0,y1,y2⟩) ?_;clear hK K;try simp only[UU]
       refine pT rfl rfl ?_;try simp only[UU]
       refine aJ rfl rfl (λK hK=>?_);have dF:=ownsRow_below Az.out Hb.out;have nW:=lG dF 0;have lV:=lG dF 1;have ES:=lG dF 2;have gg:=aK Ab.out Hb.out;obtain⟨gP,fY⟩:=aM dF gg;clear dF gg;go_simp;refine hK _ _ (λh=>absurd h zd) ?_;clear hK K;try simp only[UU]
       simp only[aU];go_wp2;go_roundw;case rel=>
        refine⟨i+1,_,by omega,by go_num,rfl,?_,?_⟩
        . have h:=Re (O++[T]) 0 Y;rw[rL.out]at h;rw[<-h];exact jo (jo (jo gP.out _ _) _ _) _ _
        . exact((fY.out.setCell LB.1 _).setCell LB.1 _).setCell LB.1 _
       case measure=>simp[intOf];omega
  . obtain rfl:i=n:=by omega
    rw[dU.out]at ho;obtain⟨ho',aR⟩:=aM ho (aK dt.out pb);clear ho pb;go_wp2;obtain⟨a',c',e1,h1,h2⟩:=dK ho'.out;subst e1;have hcc:i+1<=c':=by
     rcases ho'.out.2 with⟨h,h0⟩ |⟨g9,acn,acV,h,_,_,h6,_⟩
     . omega
     . simp only[Value.slice.injEq,true_and]at h;omega
    exact bodyPost_ret (v:=.tuple #[.slice a' (i+1) c',.int .i64 0]) (by simp[results,Tryz.results22,go_sem]) rfl ⟨a',c',rfl,hcc,h1,aR.out⟩
def qV (ds:List Dyadic):Bool:=ds.all λd=>decide (0<=bW d)
theorem ahu (D:List Dyadic)(k:Nat)(hk:k<D.length)(h:qV (D.take k)=true)(h2:0<=bW D[k]):qV (D.take (k+1))=true:=by unfold qV at h⊢;rw[List.take_add_one,List.all_append,h];simp[hk,h2]
theorem aht (D:List Dyadic)(k:Nat)(hk:k<D.length)(h2:¬0<=bW D[k]):qV D=false:=by unfold qV;rw[Bool.eq_false_iff];intro h;have:=List.all_eq_true.1 h _ (List.getElem_mem hk);simp at this;exact h2 this
theorem aeS (s x:Value)(D:List Dyadic)(B:Nat)(c:Int)(w:World)(hD:∀d∈D,Sm B d)(hB:B<=268435456)(hD6:D.length<=60)(hw:∀W,Bw w W->Calls Tryz.prog 22 #[s,x] W λe w'=>∃a' c',e=.returned (.tuple #[.slice a' D.length c',.int .i64 c])/\At w' a' (dC D)/\Bw W w'):
 Calls Tryz.prog 26 #[s,x] w λe w'=>e=.returned (.bool (qV D&&c==0))/\Bw w w':=by
 obtain⟨N,hN⟩:=aC D.length;rw[hN]at hw hD6;obtain⟨Hw,HN,HD⟩:=cH hw hN hD;clear hw hN hD;have Hb:Hid (Bw w w):=Below.refl _ _;go_enter Tryz.func26,Tryz.ntmps26;go_wp2_with fail;refine(Hw.out _ Hb.out).mono ?_;rintro e w1 ⟨a1,c1,rfl,hat,ae⟩;obtain⟨fF,bL⟩:=aM hat (aK Hb.out ae);clear ae hat Hb;go_wp2_with fail;go_loopw[17] (λu wr=>∃k:Nat,k<=N/\u=.int .i64 (k:Int)/\qV (D.take k)=true/\Bw w1 wr) (λu _=>N-(intOf u).toNat);case atStart=>exact⟨0,Nat.zero_le _,rfl,rfl,Below.refl _ _⟩
 case round=>
  obtain⟨k,hk,rfl,pn,pb⟩:=hrel;obtain⟨kq,aR⟩:=aM pn pb;clear pn;by_cases hlt:k<N
  . have LP:k<D.length:=by rw[HN.out];exact hlt
    have TR:k<(D.map canon).length:=by rw[List.length_map];exact LP
    obtain⟨d,hd⟩:=aC (D[k]);have hat':=fF.out.below pb;rw[rS]at hat';obtain⟨bx,ox,rfl,p0,p1,p2⟩:=hat'.num k TR (show(D.map canon)[k]=(au (dN d),nt (dN d).natAbs,dE d)by rw[<-hd];simp;rfl);have Vo:=mo N c1 k (k:Int) (rfl:(some ⟨bx,ox,none⟩:Option Addr)=_) hlt rfl;have ie:∀W,Calls Tryz.prog 37 #[.agg #[.bool (au (dN d)),.string (bs (nt (dN d).natAbs)),.int .i64 (dE d)]] W λex w'=>ex=.returned (.int .i64 (bW d))/\Bw W w':=λW=>mL _ _ _ (bW d) (by show bW (aB (canon d))=_;rw[bP]) W ((HD.out d (by rw[<-hd];exact List.getElem_mem _)).ok hB);obtain⟨Hd,kr⟩:=aM hd ie;obtain⟨g,hg⟩:=aC (bW d);rw[hg]at kr;have Hg:=ah hg;have MB:bx<wr.heap.size:=World.block_lt_of_cell? wr _ p0;have Hb:Hid (Bw wr wr):=Below.refl _ _;clear hd ie hg pb hat' TR;have P0:=p0;have P1:=p1;have P2:=p2;obtain⟨W2,nX,ae,Hy⟩:=cQ wr 30 [.bool (au (dN d)),.string (bs (nt (dN d).natAbs)),.int .i64 (dE d)];obtain⟨y0,y1,y2⟩:=Hy.out.c3;replace Hb:=az Hb ae;clear ae;go_wp2_with fail;refine(kr.out _).mono ?_;rintro e w3 ⟨rfl,ae⟩;clear y0 y1 y2;replace Hy:=kB Hy ae;obtain⟨y0,y1,y2⟩:=Hy.out.c3;replace Hb:=az Hb ae;clear ae;have dQ:=ah (aK aR.out Hb.out);by_cases LC:g<0
    . go_wp2;go_ret;refine⟨by rw[aht D k LP (by rw[Hd.out,Hg.out];omega)];rfl,aK bL.out dQ.out⟩
    . go_wp2;go_roundw;case rel=>exact⟨k+1,by omega,by go_num,ahu D k LP kq.out (by rw[Hd.out,Hg.out];omega),dQ.out⟩
      case measure=>simp[intOf];omega
  . obtain rfl:k=N:=by omega
    have hall:qV D=true:=by have:=kq.out;rwa [<-HN.out,List.take_length]at this
    have uY:=ah hall;clear hall pb;go_wp2;go_ret;exact⟨by rw[uY.out];rfl,aK bL.out aR.out⟩
theorem akO {n B:Nat}{p:Nat->Nat->Dyadic}{x:Nat->Dyadic}(hn:1<=n)(cd:n<=4)(h:∀a b,a<=n->b<n->Sm B (p a b))(hx:∀b,b<n->Sm B (x b)):∀d∈pQ n p x,Sm (5*B+20) d:=by
 intro d hd;unfold pQ at hd;obtain⟨i,hi,rfl⟩:=List.mem_map.1 hd;rw[List.mem_range]at hi;rcases i with _|i
 . rw[<-XK n hn cd];exact(Om hn cd h hx n (Nat.le_refl _)).mono zo
 . exact(XP hn cd h hx i zo).mono zo
theorem Wy {n B:Nat}{rows:List (List Raw)}(hr:Rw n B rows)(a b:Nat)(ha:a<=n)(hb:b<n):Sm B (eN rows a b):=by have hL:=hr.1;rw[qZ rows a b zo (by rw[hr.2.1 _ (List.getElem_mem _)];exact hb)];exact(hr.2.2 _ (List.getElem_mem _) _ (List.getElem_mem _)).2
theorem akQ {n B:Nat}{xs:List Raw}(hxl:xs.length=n)(uq:∀x∈xs,Fit B x)(b:Nat)(hb:b<n):Sm B (rz xs b):=by rw[Ov xs b zo];exact(uq _ (List.getElem_mem _)).2
theorem aeR (a:Option Addr)(cap m:Nat)(rows:List (List Raw))(B:Nat)(xa:Option Addr)(xc:Nat)(xs:List Raw)(w:World)(hm:m+1<=4)(hr:Rw (m+1) B rows)(hcap:m+1+1<=cap)(ha:aX w a rows)(hx:At w xa (xs.flatMap bB))(hxl:xs.length=m+1)(uq:∀x∈xs,Fit B x)(hB:B<=200000)(hT:aF w)(h0:ny rows=0):
 Calls Tryz.prog 26 #[.slice a (m+1+1) cap,.slice xa (m+1) xc] w λe w'=>e=.returned (.bool (qV (pQ (m+1) (eN rows) (rz xs))))/\Bw w w':=by
 have h:=aeS (.slice a (m+1+1) cap) (.slice xa (m+1) xc) (pQ (m+1) (eN rows) (rz xs)) (5*B+20) 0 w (akO zo hm (Wy hr) (akQ hxl uq)) zo (by simp[pQ];omega) (λW hW=>by
  refine(XL a cap m rows B xa xc xs W hm hr hcap (ha.below hW) (hx.below hW) hxl uq hB (hT.below hW) h0).mono ?_;rintro e w1 ⟨a1,c1,rfl,hc1,ht1,ae⟩
  exact⟨a1,c1,by simp[pQ],ht1,ae⟩)
 simpa using h
end Go.Proofs.YtdaadlblknpipaaGreatDoor
