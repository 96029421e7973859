/- Package slices: Clone,Delete,over numbers. -/
import Derived.Test.YtdaadlblknpipaaGreatDoorZ13
import Derived.Lib.SliceRun
import Derived.Test.YtdaadlblknpipaaGreatDoorZ20
import Derived.Test.YtdaadlblknpipaaGreatDoorZ12
set_option linter.unusedVariables false
set_option linter.unusedSimpArgs false
set_option maxRecDepth 100000
set_option maxHeartbeats 16000000
namespace Go.Proofs.YtdaadlblknpipaaGreatDoor
open Go.RowKit
attribute [local go_sem ↓] Go.wp_at_zero Go.wp_at_succ
theorem afl (a:Option Addr)(n cap:Nat)(cZ:List Raw)(w:World)(hn:cZ.length=n)(hl:n<=1048576)(hs:a=none->n=0/\cap=0)(ha:At w a (cZ.flatMap bA)):
 Calls Tryz.prog 162 #[.slice a n cap] w λe w'=>∃v',e=.returned v'/\w'.ownsRow w.heap.size 30 3 v' n (cZ.flatMap bA)/\Bw w w':=by
 obtain⟨i0,hi,hz0,hz1,hz2⟩:=info_parts Tryz.arH;have q:=λ(w:World) (a:Option Addr) (n c n' c':Nat)=>Lib.run_eql_slice_nil (P:=Tryz.prog) w 45 30 a n c n' c' Tryz.underlying45;have hlen:(cZ.flatMap bA).length=n*3:=by rw[iI bA 3 (λ_=>rfl),hn]
 obtain⟨cs,hcs⟩:=aB (cZ.flatMap bA);have h1:=Ih cZ;rw[hcs]at hlen ha h1⊢;obtain⟨lF,Ha,H1,Hs,Hi,cX,cN,cO⟩:=lV hlen ha h1 hs hi hz0 hz1 hz2;clear hlen ha h1 hs hi hz0 hz1 hz2 hn hcs;cases a with
 |none=>obtain⟨hn0,hc⟩:=Hs.out rfl;subst hc;subst hn0;go_enter Tryz.func162,Tryz.ntmps162;go_wp2;go_ret;refine⟨_,rfl,?_,Below.refl _ _⟩;have e:cs=[]:=List.eq_nil_of_length_eq_zero (by have:=lF.out;omega);rw[e];exact World.ownsRow_nil _ _ _ _
 |some ad=>go_enter Tryz.func162,Tryz.ntmps162;go_wp2_with (at_builtin;refine ZW rfl _ _ 45 rfl w.heap.size 30 i0 _ 3 32 Tryz.underlying45 Hi.out cX.out cN.out cO.out rfl zd _ 0 [] rfl (World.ownsRow_made w #[] 0 (Nat.le_refl _) (Nat.zero_le _) zm) (some ad) n cap cs rfl Hs.out lF.out (Ha.out.below ((Below.refl _ w).alloc (Nat.le_refl _) _)) H1.out zx zo zm ?_;intro v' w1 hown hgrow fU);go_ret;refine⟨v',rfl,by simpa using hown,?_⟩;exact((Below.refl _ w).alloc (Nat.le_refl _) _).grown hgrow zm (λk hk=>by have h9:w.heap.size=k:=Option.some.inj hk;omega)
theorem Tryz.arW (w:World):(zeroValue 30).run Tryz.prog w=.ok (.agg #[.bool false,.string ⟨#[]⟩,.int .i64 0]) w:=by kernel_rfl
theorem agx {α:Type}(f:α->List Value)(sz:Nat)(hf:∀x,(f x).length=sz)(xs:List α)(i:Nat)(hi:i<xs.length):(xs.eraseIdx i).flatMap f=(xs.flatMap f).take (i*sz)++(xs.flatMap f).drop ((i+1) *sz):=by
 have e:xs=xs.take i++xs[i]::xs.drop (i+1):=by rw[List.getElem_cons_drop,List.take_append_drop]
 have hl:((xs.take i).flatMap f).length=i*sz:=by rw[iI f sz hf,List.length_take,Nat.min_eq_left zo]
 have e1:xs.flatMap f=(xs.take i).flatMap f++(f xs[i]++(xs.drop (i+1)).flatMap f):=by
  conv=>lhs;rw[e]
  rw[List.flatMap_append,List.flatMap_cons]
 rw[e1,List.take_left' hl,List.drop_append,hl,List.drop_of_length_le (by rw[hl,Nat.add_mul];omega)];rw[show(i+1) *sz-i*sz=sz by rw[Nat.add_mul,Nat.one_mul];omega,List.nil_append,List.drop_left' (hf _),List.eraseIdx_eq_take_drop_succ,List.flatMap_append]
theorem afR (g m cap i base:Nat)(cZ:List Raw)(w:World)(hn:cZ.length=m+1)(hl:m<=1048576)(hi:i<=m)
 (ho:w.ownsRow base 30 3 (.slice (some ⟨g,0,none⟩) (m+1) cap) (m+1) (cZ.flatMap bA)):
 Calls Tryz.prog 161 #[.slice (some ⟨g,0,none⟩) (m+1) cap,.int .i64 (i:Int),.int .i64 ((i+1:Nat):Int)] w λe w'=>e=.returned (.slice (some ⟨g,0,none⟩) m cap)/\
  w'.ownsRow base 30 3 (.slice (some ⟨g,0,none⟩) m cap) m ((cZ.eraseIdx i).flatMap bA)/\w.grownBy w' (some g):=by
 obtain⟨i0,hi0,hz0,hz1,hz2⟩:=info_parts Tryz.arH;have hcap:m+1<=cap:=(vC ho).1;have hcm:cap<=9223372036854775807:=by
  rcases ho.2 with⟨h1,_⟩ |⟨g',cap',cur,h1,hb,hg,h4,h5,_⟩
  . simp at h1
  . simp only[Value.slice.injEq]at h1;obtain⟨_,_,rfl⟩:=h1;unfold maxLen at h5;omega
 have Gs:=agx bA 3 (λ_=>rfl) cZ i zo;have hlen:(cZ.flatMap bA).length=(m+1) *3:=by rw[iI bA 3 (λ_=>rfl),hn]
 have h1:=Ih cZ;obtain⟨cs,hcs⟩:=aB (cZ.flatMap bA);obtain⟨rs,hrs⟩:=aB ((cZ.eraseIdx i).flatMap bA);rw[hcs]at hlen ho h1 Gs;rw[hrs]at Gs⊢;have zJ:=YA ho i zo;obtain⟨ad,had⟩:=aB (if cap=i+1 then(⟨g,0,none⟩:Addr)else⟨g,(i+1) *3,none⟩);have hsl:(if cap=i+1 then some (⟨g,0,none⟩:Addr)else some ⟨g,(i+1) *3,none⟩)=some ad:=by rw[<-had];split<;>rfl
 have hnews:Hid (∀j u,(cs.drop ((i+1) *3))[j]?=some u->w.drew.cell? (ad.add j)=some u):=by
  intro j u hj;rw[List.getElem?_drop]at hj;have hlt:=(List.getElem?_eq_some_iff.1 hj).1;have mK:¬cap=i+1:=by omega
  rw[if_neg mK]at had;subst had;have e2:((⟨g,(i+1) *3,none⟩:Addr).add j)=⟨g,(i+1) *3+j,none⟩:=by unfold Addr.add;cases j<;>simp
  rw[e2];have:=ho.cells (g:=g) rfl ((i+1) *3+j) u hj;have e3:((⟨g,0,none⟩:Addr).add ((i+1) *3+j))=⟨g,(i+1) *3+j,none⟩:=by unfold Addr.add;split<;>simp;omega
  rw[e3]at this;exact this
 have hnl:Hid ((cs.drop ((i+1) *3)).length=(m-i) *3):=by show _=_;rw[List.length_drop,hlen];omega
 have eD:Hid (∀u∈cs.drop ((i+1) *3),u.oneCell'=true):=λu hu=>h1 u (List.mem_of_mem_drop hu);have Re:Hid (w.drew.ownsRow base 30 3 (.slice (some ⟨g,0,none⟩) i cap) i (cs.take (i*3))):=zJ;obtain⟨abH,acl,JQ,JO,Hi,cN⟩:=iz Gs hnews.out hnl.out eD.out hi0 hz1;have z:=Tryz.arW;clear hnews hnl eD ho zJ hlen h1 Gs hcs hrs hn hi0 hz0 hz1 hz2;have hw1:IntKind.i64.wrap ((i:Int)+1)=((i+1:Nat):Int):=by rw[IntKind.wrap_i64];omega
 have hne:((i:Int)==((i+1:Nat):Int))=false:=by simp;omega
 have hcm2:¬cap=m:=by omega
 have sW:i+1<=m+1:=by omega
 have hmc:i+1<=cap:=by omega
 have hic:i<=cap:=by omega
 have h0i:(0:Int)<=(i:Int)+1:=by omega
 clear had;go_enter Tryz.func161,Tryz.ntmps161;go_wp2_with fail;have Hb:Hid (Bw w w):=Below.refl _ _;refine bC (λw'=>True) (λi=>Nat.blt i 100000) [(0,true),(1,true),(2,true),(3,true),(4,true),(5,true),(6,false),(7,true)] zk zk rfl zk zc True.intro ?_;iterate 6 (refine pT rfl rfl ?_;try simp only[UU])
 refine aI rfl rfl (λK hK=>?_);refine wp_append_own_spare _ _ _ 45 rfl base 30 i0 3 Tryz.underlying45 Hi.out cN.out g i cap (cs.take (i*3)) rfl Re.out ad (m-i) (cap-(i+1)) (cs.drop ((i+1) *3)) rfl JQ.out acl.out JO.out zo ?_;intro w1 df hg1;refine hK _ _ (λ_=>True.intro) ?_;clear hK K;try simp only[UU]
 refine pT rfl rfl ?_;try simp only[Act.put,U1,U2]
 simp only[aS];have e9:i+(m-i)=m:=by omega
 rw[e9,<-abH.out]at df;obtain⟨w2,hcl,eF,hg2⟩:=YZ w1 45 30 _ 3 Tryz.underlying45 Tryz.arW rfl (by intro v hv;simp[Value.cells]at hv;rcases hv with rfl|rfl|rfl<;>rfl) g m 1 cap (cap-m) base rs df zo;have sk:=ah eF;have Hg2:Hid (w.grownBy w2 (some g)):=grownBy_trans ⟨hg1.os,hg1.tape,hg1.output,hg1.size,hg1.block⟩ hg2;clear df hg1 eF hg2 Re hsl;go_wp2;go_ret;exact⟨rfl,sk.out,Hg2.out⟩
theorem agy (l:List Dyadic)(c:Nat):(l.map canon).eraseIdx c=(l.eraseIdx c).map canon:=by apply List.ext_getElem?;intro i;rw[List.getElem?_eraseIdx,List.getElem?_map,List.getElem?_map,List.getElem?_map,List.getElem?_eraseIdx];split<;>rfl
theorem anU (a:Option Addr)(cap m r c:Nat)(R:List (List Dyadic))(w:World)(hL:R.length=m+1)(hrow:∀x∈R,x.length=m+1)(hr:r<=m)(hc:c<=m)(hm:m<=7)(ha:bj w a (R.map λx=>x.map canon)):
 Calls Tryz.prog 133 #[.slice a (m+1) cap,.int .i64 (r:Int),.int .i64 (c:Int)] w λe w'=>∃a' c',e=.returned (.slice a' m c')/\m<=c'/\bj w' a' ((jL R r c).map λx=>x.map canon)/\Bw w w':=by
 obtain⟨j0,hj,hy0,hy1,hy2⟩:=info_parts Tryz.arP;obtain⟨S,hS⟩:=aB (jL R r c);have iJ:=Yd R r c m hL hr;have qW:=Ye R r c m hrow hc;have LV:=Yc R r c m hL hr;rw[hS]at iJ qW LV⊢;have uW:∀(W:World) (k:Nat) (hk:k<m+1),Bw w W->∃b o a1 c1,∃x:List Dyadic,R.getD k []=x/\x.length=m+1/\a=some ⟨b,o,none⟩/\W.cell? ⟨b,o+k,none⟩=some (.slice (some a1) (m+1) c1)/\At W (some a1) ((x.map canon).flatMap bA):=by
  intro W k hk hb;have VN:k<R.length:=by omega
  obtain⟨b,o,a1,c1,h1,h2,h3⟩:=(ha.below hb).row k (by simp[hL];omega);have e1:(R.map λx=>x.map canon)[k]'(by simp[hL];omega)=R[k].map canon:=by simp
  have hxl:=hrow _ (List.getElem_mem VN);rw[e1]at h2 h3;rw[List.length_map,hxl]at h2;cases a1 with
  | none=>
    rcases h3 with h3|⟨_,_,h3,_⟩
    . have:=congrArg List.length h3;rw[iI bA 3 (λ_=>rfl),List.length_map,hxl]at this;simp at this
    . cases h3
  |some a1=>exact⟨b,o,a1,c1,R[k],by simp[List.getD_eq_getElem?_getD,VN],hxl,h1,h2,h3⟩
 obtain⟨Hj,kI,na,ng,Ja,HSr,aaU,Kg⟩:=lV hj hy0 hy1 hy2 iJ qW LV uW;clear hj hy0 hy1 hy2 iJ qW LV uW hS ha hL hrow;have Hb:Hid (Bw w w):=Below.refl _ _;go_enter Tryz.func133,Tryz.ntmps133;go_wp2_with fail;go_loopw[7,12] (λs7 x wr=>∃(k:Nat) (v:Value),k<=m+1/\x=.int .i64 (k:Int)/\v=s7/\Own2 45 wr w.heap.size S (if k<=r then k else k-1) v/\Bw w wr) (λ_ x _=>m+1-(intOf x).toNat);case atStart=>exact⟨0,_,Nat.zero_le _,rfl,rfl,by rw[if_pos (Nat.zero_le _)];exact Own2.nil _ _ _ _,Hb.out⟩
 case round=>
  clear Hb;obtain⟨k,v,hk,rfl,rfl,pv,pb⟩:=hrel;by_cases hlt:k<m+1
  . obtain⟨b,o,a1,c1,x,jy,hxl,rfl,hc1,hat⟩:=Kg.out wr k hlt pb;have bB:=xx (m+1) cap k (k:Int) (rfl:(some ⟨b,o,none⟩:Option Addr)=_) hlt rfl;rw[Nat.mul_one]at bB;by_cases hkr:k=r
    . subst hkr;obtain⟨dK,aQ⟩:=aL pv pb;clear pv pb jy hxl hat;have h3:((k:Int) !=(k:Int))=false:=by simp
      go_wp2;go_roundw;case rel=>exact⟨k+1,v,by omega,by go_num,rfl,by have h:=dK.out;rw[if_pos (Nat.le_refl _)]at h;rw[if_neg zo];exact h,aQ.out⟩
      case measure=>simp[intOf];omega
    . have h3:((k:Int) !=(r:Int))=true:=by simp;omega
      have h4:¬(k:Int)=(r:Int):=by omega
      obtain⟨j,hj⟩:=aB (if k<=r then k else k-1);have uN:(if k+1<=r then k+1 else k+1-1)=j+1:=by rw[<-hj];split<;>split<;>omega
      have hjm:j<m:=by rw[<-hj];split<;>omega
      have VH:(if j<r then j else j+1)=k:=by rw[<-hj];split<;>split<;>omega
      have LW:S.getD j []=x.eraseIdx c:=by rw[aaU.out j hjm,VH,jy]
      rw[hj]at pv;obtain⟨Z,hZ⟩:=aB (x.eraseIdx c);have Cn:Z.length=m:=by rw[<-hZ,List.length_eraseIdx_of_lt zo];omega
      rw[hZ]at LW
      -- the row,without its number
      have Vd:∀W,Bw wr W->Calls Tryz.prog 162 #[.slice (some a1) (m+1) c1] W λe w'=>∃g cc,e=.returned (.slice (some ⟨g,0,none⟩) (m+1) cc)/\(wr.heap.size<=g/\∀W',Bw wr W'->w'=W'->Calls Tryz.prog 161 #[.slice (some ⟨g,0,none⟩) (m+1) cc,.int .i64 (c:Int),.int .i64 ((c:Int)+1)] W' λe w''=>e=.returned (.slice (some ⟨g,0,none⟩) m cc)/\w''.ownsRow wr.heap.size 30 3 (.slice (some ⟨g,0,none⟩) m cc) m (dC Z)/\Bw wr w'')/\Bw W w':=by intro W hW;refine(afl (some a1) (m+1) c1 (x.map canon) W (by rw[List.length_map,hxl]) zo (λe=>by cases e) (hat.below hW)).mono ?_;rintro e w' ⟨v',rfl,ho,hb⟩;obtain⟨g,cc,rfl,hg1,hg2,hg3⟩:=xR ho zo;have hsz:=hW.size;refine⟨g,cc,rfl,⟨by omega,λW' hW' e=>?_⟩,hb⟩;subst e;have hd:=afR g m cc c wr.heap.size (x.map canon) w' (by rw[List.length_map,hxl]) zo hc (oW ho zo);rw[show((c+1:Nat):Int)=(c:Int)+1 by omega]at hd;refine hd.mono ?_;rintro e w'' ⟨rfl,eF,hg⟩;rw[agy,hZ,<-ol]at eF;exact⟨rfl,eF,hW'.grown hg hW'.size (λi e=>by have h9:g=i:=Option.some.inj e;omega)⟩
      obtain⟨Qt,Qf,ud,dK,aQ,Hj1⟩:=iz Vd LW Cn pv pb uN;clear Vd LW Cn hZ pv pb uN VH hj jy hxl hat;have iG:=aQ.out.size;have hwc:IntKind.i64.wrap ((c:Int)+1)=((c+1:Nat):Int):=by rw[IntKind.wrap_i64];omega
      have mK:(c:Int)+1=((c+1:Nat):Int):=by omega
      obtain⟨Kr,EA⟩:=aL hwc mK;clear hwc mK;go_wp2_with fail;refine(Qt.out _ (Below.refl _ _)).mono ?_;rintro e w4 ⟨g,cc,rfl,⟨hg1,hdel⟩,hb4⟩;have Qx:=ah (hdel w4 hb4 rfl);clear hdel hc1 bB;go_wp2_with fail;refine Qx.out.mono ?_;rintro e w5 ⟨rfl,MN,dG⟩;have fG:=MN.lt;obtain⟨a2,c2,Vj,pW,_⟩:=dS MN;simp only[Value.slice.injEq,true_and]at Vj;obtain⟨rfl,rfl⟩:=Vj;obtain⟨vals,hvl,hov,jJ⟩:=dK.out.below dG;obtain⟨_,_,qi,_⟩:=dK.out;have hvs:=qi.lt;have hin:∀b o,(some ⟨g,0,none⟩:Option Addr)=some ⟨b,o,none⟩->some b≠v.ownBlock/\b<w5.heap.size:=by intro b o e;simp only[Option.some.injEq,Addr.mk.injEq,and_true]at e;obtain⟨rfl,rfl⟩:=e;have h1:=fG g rfl;refine⟨λh2=>?_,h1.2⟩;have h3:=hvs g h2.symm;omega
      obtain⟨pg,AK,mZ,su,cH,fq⟩:=iz hin pW hvl jJ hov (aJ aQ.out dG);have OW:=dG.size;clear hin pW hvl jJ hov qi hvs fG MN dG hb4 Qx Qt hg1;have Hb:Hid (Bw w5 w5):=Below.refl _ _;obtain⟨W6,sM,ae,Hd⟩:=cL w5 45 [.slice (some ⟨g,0,none⟩) m cc];have d0:=Hd.out.c1;replace Hb:=au Hb ae;clear ae;have dh:=ownsRow_below cH.out Hb.out;have jf:=Hb.out.size;have hnews:∀i u,([.slice (some ⟨g,0,none⟩) m cc]:List Value)[i]?=some u->W6.cell? ((⟨w5.heap.size,0,none⟩:Addr).add i)=some u:=gW Hd.out;clear d0;go_wp2_with (at_builtin;refine wpList_append_own_at _ rfl _ _ 78 rfl w.heap.size 45 j0 _ 1 24 Tryz.underlying78 Hj.out kI.out na.out ng.out rfl zd v j vals rfl dh ⟨w5.heap.size,0,none⟩ 1 1 [.slice (some ⟨g,0,none⟩) m cc] rfl rfl hnews zy zx zo zo ?_;intro v' w7 eJ fN _ fU;obtain⟨g',oh,rfl⟩:=ownsRow_succ eJ);go_roundw;case rel=>
       refine⟨k+1,_,by omega,by go_num,rfl,?_,?_⟩
       . rw[Hj1.out];refine Own2.push (a:=some ⟨g,0,none⟩) (c:=cc) mZ.out (w:=W6) ?_ ?_ ?_ ?_ fN fU
         . intro i h;obtain⟨a,c,h1,h2,h3⟩:=su.out i h;exact⟨a,c,h1,h2.below Hb.out,λb o e=>⟨(h3 b o e).1,Nat.lt_of_lt_of_le (h3 b o e).2 jf⟩⟩
         . rw[Qf.out];exact AK.out.below Hb.out
         . exact λb o e=>⟨(pg.out b o e).1,Nat.lt_of_lt_of_le (pg.out b o e).2 jf⟩
         . rw[Qf.out,ud.out];exact eJ
       . exact(aJ fq.out Hb.out).grown fN zo (λj e=>dt dh j e)
      case measure=>simp[intOf];omega
  . obtain rfl:k=m+1:=by omega
    rw[if_neg zo,Nat.add_sub_cancel]at pv;obtain⟨a2,c2,rfl,hcl,ku⟩:=Own2.arS pv Ja.out;obtain⟨qJ,aQ⟩:=aL ku pb;clear pv pb ku;go_wp2;refine bodyPost_ret (results_tmp rfl _ _ _) rfl ⟨a2,c2,rfl,hcl,qJ.out,aQ.out⟩
theorem aew (a:Option Addr)(c:Nat)(w:World):Calls Tryz.prog 88 #[.slice a 0 c] w λe w'=>e=.returned (cE 1)/\Bw w w':=by
 have Hb:Hid (Bw w w):=Below.refl _ _;go_enter Tryz.func88,Tryz.ntmps88;go_wp2_with fail;obtain⟨R,hR⟩:∃R:World->Prop,(λW=>ai W (w.heap.size) 28 [.bool false,.string ⟨#[]⟩]/\Bw w W)=R:=⟨_,rfl⟩;first|refine bE R ?hR ?_|refine bD R ?hR ?_
 case hR=>subst hR;exact⟨(ai.newAt w _ _ (b:=w.heap.size) rfl),zl⟩
 subst hR;rintro W ⟨qr,ae⟩;have Hr:=ah qr;clear qr;obtain⟨r0,aj,r1,ak⟩:=Hr.out.g2;replace Hb:=au Hb ae;clear ae;go_wp2_with fail;refine(Ph 1 _ zd zd).mono ?_;rintro e w1 ⟨rfl,ae⟩;clear r0 aj r1 ak;replace Hr:=kB Hr ae;obtain⟨r0,aj,r1,ak⟩:=Hr.out.g2;replace Hb:=au Hb ae;clear ae;have vq:=Hr.out.lt;obtain⟨W2,lM,ae,Hl⟩:=cL w1 28 [.bool (ar 1),.string (bs (nt 1))];clear r0 aj r1 ak;replace Hr:=kB Hr ae;obtain⟨r0,aj,r1,ak⟩:=Hr.out.g2;obtain⟨l0,l1⟩:=Hl.out.c2;replace Hb:=au Hb ae;clear ae;go_wp2_with fail;go_loop [5,15] (λt x=>t=.bool false/\x=.int .i64 0) (λ_ _=>0)
 case atStart=>exact⟨rfl,rfl⟩
 case round=>obtain⟨rfl,rfl⟩:=hrel;go_wp2;clear r0 aj r1 ak l0 l1;refine fR (bG W2 (w.heap.size) 0 [.bool (ar 1),.string (bs (nt 1))]) bP ?_;intro w9 hs;replace Hr:=cp Hr hs;replace Hl:=kS Hl hs zo;obtain⟨r0,aj,r1,ak⟩:=Hr.out.g2;obtain⟨l0,l1⟩:=Hl.out.c2;replace Hb:=bS Hb hs ZS;clear hs;refine bodyPost_ret (v:=cE 1) (by simp[results,Tryz.results88,go_sem,r0,r1]) rfl ⟨rfl,Hb.out⟩
theorem afY (a:Option Addr)(cap:Nat)(w:World)(ha:bj w a [])(hT:az w):Calls Tryz.prog 45 #[.slice a 0 cap] w λe w'=>e=.returned (.tuple #[bL 1,.int .i64 0])/\Bw w w':=by
 obtain⟨O,hO⟩:∃O:Dyadic,(1:Dyadic)=O:=⟨_,rfl⟩;have hch:=λW=>λ(h:bj W a [])=>NI a 0 cap [] W rfl zo h;rw[show tK []=0 from rfl]at hch;have hsc:=λW=>λ(h:bj W a []) (hT:az W)=>Zd a 0 cap 0 [] 1 0 W rfl zo zo (λr hr=>by cases hr) h (λr hr=>by cases hr) zo hT rfl;have hmk:=λW=>λ(hT:az W)=>vt (ar 1) (nt (1:Int).natAbs) 0 O (by rw[<-hO];rfl) W zd zd hT;rw[hO];obtain⟨yl,jr,sf,Ha,HT⟩:=fO hch hsc hmk ha hT;clear hch hsc hmk ha hT hO;have Hb:Hid (Bw w w):=Below.refl _ _;go_enter Tryz.func45,Tryz.ntmps45;go_wp2_with fail;obtain⟨R,hR⟩:∃R:World->Prop,(λW=>ai W (w.heap.size) 30 [.bool false,.string ⟨#[]⟩,.int .i64 0]/\Bw w W)=R:=⟨_,rfl⟩;first|refine bE R ?hR ?_|refine bD R ?hR ?_
 case hR=>subst hR;exact⟨(ai.newAt w _ _ (b:=w.heap.size) rfl),zl⟩
 subst hR;rintro W ⟨qr,ae⟩;have Hr:=ah qr;clear qr;obtain⟨r0,aj,r1,ak,r2,aF⟩:=Hr.out.g3;replace Hb:=au Hb ae;clear ae;have HA:Hid (bj W a []):=Ha.out.below Hb.out;have HU:Hid (az W):=HT.out.below Hb.out;go_wp2_with fail;refine(yl.out _ HA.out).mono ?_;rintro e w1 ⟨rfl,ae⟩;clear r0 aj r1 ak r2 aF;replace Hr:=kB Hr ae;replace HA:=kL HA ae;replace HU:=kT HU ae;obtain⟨r0,aj,r1,ak,r2,aF⟩:=Hr.out.g3;replace Hb:=au Hb ae;clear ae;go_wp2_with fail;refine(jr.out _ HA.out HU.out).mono ?_;rintro e w2 ⟨v,rfl,hO,ae⟩;clear r0 aj r1 ak r2 aF;replace Hr:=kB Hr ae;replace HA:=kL HA ae;replace HU:=kT HU ae;obtain⟨r0,aj,r1,ak,r2,aF⟩:=Hr.out.g3;replace Hb:=au Hb ae;clear ae;obtain⟨vals,_,ho,_⟩:=hO;obtain⟨a2,c2,rfl,_,_⟩:=dS ho;clear ho;go_wp2_with fail;refine(aew a2 c2 _).mono ?_;rintro e w3 ⟨rfl,ae⟩;clear r0 aj r1 ak r2 aF;replace Hr:=kB Hr ae;replace HA:=kL HA ae;replace HU:=kT HU ae;obtain⟨r0,aj,r1,ak,r2,aF⟩:=Hr.out.g3;replace Hb:=au Hb ae;clear ae;go_wp2_with fail;refine(sf.out _ HU.out).mono ?_;rintro e w4 ⟨rfl,ae⟩;clear r0 aj r1 ak r2 aF;replace Hr:=kB Hr ae;replace HA:=kL HA ae;replace HU:=kT HU ae;obtain⟨r0,aj,r1,ak,r2,aF⟩:=Hr.out.g3;replace Hb:=au Hb ae;clear ae;go_wp2;clear r0 aj r1 ak r2 aF;refine fR (bG w4 (w.heap.size) 0 [.bool (ar (dN O)),.string (bs (nt (dN O).natAbs)),.int .i64 (dE O)]) bP ?_;intro w9 hs;replace Hr:=cp Hr hs;obtain⟨r0,aj,r1,ak,r2,aF⟩:=Hr.out.g3;replace Hb:=bS Hb hs ZS;clear hs;refine bodyPost_ret (v:=.tuple #[bL O,.int .i64 0]) (by simp[results,Tryz.results45,go_sem,r0,r1,r2]) rfl ⟨rfl,Hb.out⟩
theorem Sy (R:List (List Dyadic)):((R.map λr=>r.map canon).map λr=>r.map aC)=R:=by
 rw[List.map_map];have:((λr:List Raw=>r.map aC)∘λr:List Dyadic=>r.map canon)=id:=by
  funext r
  show(r.map canon).map aC=r
  rw[List.map_map];have:(aC∘canon)=id:=funext bK;rw[this];simp
 rw[this];simp
theorem ake (a':Option Addr)(c' m r c:Nat)(R:List (List Dyadic))(B:Nat)(w:World)(hL:R.length=m+1)(hrow:∀x∈R,x.length=m+1)(hr:r<=m)(hc:c<=m)(hm:m<=4)(hsm:∀x∈R,∀d∈x,Sm B d)(bO:1<=B)(hB:B<=1000000)(ht:bj w a' ((jL R r c).map λx=>x.map canon))(hT:az w):
 Calls Tryz.prog 45 #[.slice a' m c'] w λe w'=>e=.returned (.tuple #[bL (dw m (kz (bZ R) r c)),.int .i64 0])/\Bw w w':=by
 have hl:=Yd R r c m hL hr;by_cases h0:m=0
 . subst h0;have e:jL R r c=[]:=List.eq_nil_of_length_eq_zero hl;rw[e]at ht;exact afY a' c' w ht hT
 . refine KY a' c' m ((jL R r c).map λx=>x.map canon) B (jL R r c) _ w zo hm (by rw[List.length_map,hl]) (λx hx=>?_) ht (λx hx y hy=>?_) bO hB hT (Sy _) (akb R r c m hL hrow hr hc hm)
   . obtain⟨z,hz,rfl⟩:=List.mem_map.1 hx;rw[List.length_map];exact Ye R r c m hrow hc z hz
   . obtain⟨z,hz,rfl⟩:=List.mem_map.1 hx;obtain⟨d,hd,rfl⟩:=List.mem_map.1 hy;exact(akd hsm r c z hz d hd).fit zo
theorem aeL (s:Nat)(h:s<=8):bits BinOp.and IntKind.i64 (s:Int) 1=((s%2:Nat):Int):=by
 have hc:s=0\/s=1\/s=2\/s=3\/s=4\/s=5\/s=6\/s=7\/s=8:=by omega
 rcases hc with rfl|rfl|rfl|rfl|rfl|rfl|rfl|rfl|rfl<;>rfl
theorem adS (a:Option Addr)(cap m:Nat)(R:List (List Dyadic))(B:Nat)(w:World)(hm:m+1<=4)(hL:R.length=m+1)(hrow:∀x∈R,x.length=m+1)(hsm:∀x∈R,∀d∈x,Sm B d)(bO:1<=B)(hB:B<=1000000)(ha:bj w a (R.map λx=>x.map canon))(hT:az w):
 Calls Tryz.prog 92 #[.slice a (m+1) cap] w λe w'=>∃v,e=.returned (.tuple #[v,.int .i64 0])/\fJ w' w.heap.size (m+1) (pD (m+1) (bZ R)) (m+1) v/\Bw w w':=by
 obtain⟨i0,hi,hz0,hz1,hz2⟩:=info_parts Tryz.arH;obtain⟨j0,hj,hy0,hy1,hy2⟩:=info_parts Tryz.arP;have fp:=λW (hW:Bw w W)=>NI a (m+1) cap (R.map λx=>x.map canon) W (by rw[List.length_map,hL]) zo (ha.below hW);have hm0:tK (R.map λx=>x.map canon)=0:=by
  unfold tK;rw[if_neg];rintro(h|h)
  . rw[List.length_map]at h;omega
  . rw[List.any_eq_true]at h;obtain⟨r,hr,h⟩:=h;obtain⟨z,hz,rfl⟩:=List.mem_map.1 hr;have:=hrow z hz;simp at h;omega
 rw[hm0]at fp;have hwo:=λr c (hr:r<=m) (hc:c<=m) W (hW:Bw w W)=>anU a cap m r c R W hL hrow hr hc zo (ha.below hW);have mL:=λr c (hr:r<=m) (hc:c<=m) W (hW:Bw w W) a' c' (ht:bj W a' ((jL R r c).map λx=>x.map canon))=>ake a' c' m r c R B W hL hrow hr hc zo hsm bO hB ht (hT.below hW);have hds:∀r c,r<=m->c<=m->Sm (4*B+6) (dw m (kz (bZ R) r c)):=by
  intro r c hr hc;refine FC zo (λi j hi hj=>?_);have hk:(if i<r then i else i+1)<R.length:=by split<;>omega
  have hl:=hrow _ (List.getElem_mem hk);have hk2:(if j<c then j else j+1)<R[if i<r then i else i+1].length:=by rw[hl];split<;>omega
  have e:kz (bZ R) r c i j=R[if i<r then i else i+1][if j<c then j else j+1]:=by
   show(R.getD (if i<r then i else i+1) []).getD (if j<c then j else j+1) 0=_
   rw[List.getD_eq_getElem?_getD (l:=R),List.getElem?_eq_getElem hk,Option.getD_some,List.getD_eq_getElem?_getD,List.getElem?_eq_getElem hk2];rfl
  rw[e];exact hsm _ (List.getElem_mem hk) _ (List.getElem_mem hk2)
 obtain⟨f,hf⟩:=aB (bZ R);rw[hf]at mL hds⊢;have Lq:=λi (h:i<m+1)=>Sg (m+1) f i h;obtain⟨A,hA⟩:=aB (pD (m+1) f);rw[hA]at Lq⊢;obtain⟨Hi,cX,cN,cO,Hj,kI,na,ng,mn,Hwo,AU,Hds⟩:=gY hi hz0 hz1 hz2 hj hy0 hy1 hy2 fp hwo mL hds;obtain⟨HT,aai⟩:=aL hT Lq;clear hi hz0 hz1 hz2 hj hy0 hy1 hy2 fp hwo mL hds hT Lq hA hf hm0 ha hsm hrow hL;have Hb:Hid (Bw w w):=Below.refl _ _;go_enter Tryz.func92,Tryz.ntmps92;go_wp2_with fail;refine(mn.out _ Hb.out).mono ?_;rintro e w1 ⟨rfl,ae⟩;replace Hb:=au Hb ae;clear ae;go_wp2_with fail;go_loopw[5,18] (λs5 x wr=>∃(k:Nat) (v:Value),k<=m+1/\x=.int .i64 (k:Int)/\v=s5/\fJ wr w.heap.size (m+1) A k v/\Bw w wr) (λ_ x _=>m+1-(intOf x).toNat);case atStart=>exact⟨0,_,Nat.zero_le _,rfl,rfl,fJ.nil _ _ _ _,Hb.out⟩
 case round=>
  clear Hb;obtain⟨k,v,hk,rfl,rfl,pv,pb⟩:=hrel;obtain⟨dK,aQ⟩:=aL pv pb;clear pv pb;by_cases hlt:k<m+1
  . obtain⟨Z,hZ⟩:=aB ((List.range (m+1)).map λb=>ke (m+1) f k b);have yg:Hid (A.getD k []=Z):=by show _=_;rw[aai.out k hlt,hZ]
    have ud:Hid (Z.length=m+1):=by show _=_;rw[<-hZ];simp
    have HZa:Hid (∀j (h:j<m+1),Z.take (j+1)=Z.take j++[ke (m+1) f k j]):=by intro j h;rw[List.take_succ_eq_append_getElem (by rw[ud.out];exact h)];congr 2;simp[<-hZ]
    clear hZ;obtain⟨wq,hwc⟩:∃wq,wq=wr:=⟨_,rfl⟩;subst hwc;have iG:=aQ.out.size;have rc:decide ((k:Int)<(m:Int)+1)=true:=by simp;omega
    go_wp2_with fail;clear rc;go_loopw[7,23] (λs7 x wr=>∃(j:Nat) (v2:Value),j<=m+1/\x=.int .i64 (j:Int)/\v2=s7/\wr.ownsRow wq.heap.size 30 3 v2 j (dC (Z.take j))/\Bw wq wr) (λ_ x _=>m+1-(intOf x).toNat);case atStart=>exact⟨0,_,Nat.zero_le _,rfl,rfl,World.ownsRow_nil _ _ _ _,Below.refl _ _⟩
    case round=>
     obtain⟨j,v2,hj,rfl,rfl,ho,hb2⟩:=hrel;obtain⟨Ho,cd⟩:=aL ho hb2;have szb:=hb2.size;clear ho hb2;by_cases aW:j<m+1
     . obtain⟨X,hX⟩:=aB (dw m (kz f j k));obtain⟨Y,hY⟩:=aB (ke (m+1) f k j);have UG:Y=if(k+j)%2=1 then-X else X:=by rw[<-hY,<-hX];rfl
       have fT:=Hds.out j k zo zo;rw[hX]at fT;have hst:dC (Z.take (j+1))=dC (Z.take j)++[.bool (ar (dN Y)),.string (bs (nt (dN Y).natAbs)),.int .i64 (dE Y)]:=by rw[HZa.out j aW,hY,wI];rfl
       have eo:=aJ aQ.out cd.out;have hd:=λW hW a' c' ht=>AU.out j k zo zo W hW a' c' ht;rw[hX]at hd;obtain⟨Hd,bX,Jd⟩:=cK hd hst UG;have Qj:Hid (Ok (canon X)):=fT.ok zo;have jV:=ah eo;clear hd hst UG hX hY fT eo;have Hb:Hid (Bw wr wr):=Below.refl _ _;go_wp2_with fail;refine(Hwo.out j k zo zo _ jV.out).mono ?_;rintro e w3 ⟨a3,c3,rfl,hc3,uX,ae⟩;replace Hb:=au Hb ae;clear ae;have EQ:=ah uX;clear uX;go_wp2_with fail;refine(Hd.out _ (aJ jV.out Hb.out) a3 c3 EQ.out).mono ?_;rintro e w4 ⟨rfl,ae⟩;replace Hb:=au Hb ae;clear ae EQ;have sz4:=Hb.out.size;obtain⟨W5,zh,ae,Hx⟩:=cL w4 30 [.bool (ar (dN X)),.string (bs (nt (dN X).natAbs)),.int .i64 (dE X)];obtain⟨x0,aU,x1,aV,x2,aX⟩:=Hx.out.g3;replace Hb:=au Hb ae;clear ae;have zu:=aeL (k+j) zo;rw[Int.natCast_add]at zu;go_upto_if 38 with fail
       go_cut[7] (λs7 wx=>s7=v2/\ai wx w4.heap.size 30 [.bool (ar (dN Y)),.string (bs (nt (dN Y).natAbs)),.int .i64 (dE Y)]/\Bw wr wx);case first=>
        by_cases hp:(k+j)%2=1
        . have h9:(bits BinOp.and IntKind.i64 ((k:Int)+(j:Int)) 1==1)=true:=by rw[zu,hp];rfl
          have hY: -aC (canon X)=Y:=by rw[bK,Jd.out,if_pos hp]
          have HY:=ah hY;clear hY zu;go_wp2_with fail;refine(KW _ _ _ Y HY.out _ Qj.out (HT.out.below (aJ jV.out Hb.out))).mono ?_;rintro e w6 ⟨rfl,ae⟩;clear x0 aU x1 aV x2 aX;replace Hx:=kB Hx ae;obtain⟨x0,aU,x1,aV,x2,aX⟩:=Hx.out.g3;replace Hb:=au Hb ae;clear ae;go_wp2_with fail;go_meet;exact⟨rfl,((Hx.out.set 0 _).set 1 _).set 2 _,((Hb.out.setCell zp _).setCell zp _).setCell zp _⟩
        . have h9:(bits BinOp.and IntKind.i64 ((k:Int)+(j:Int)) 1==1)=false:=by rw[zu,show(k+j)%2=0 by omega];rfl
          have hY:Y=X:=by rw[Jd.out,if_neg hp]
          subst hY;clear zu;go_wp2_with fail;go_meet;exact⟨rfl,Hx.out,Hb.out⟩
       case rest=>
        obtain⟨rfl,hx,hb⟩:=hcut;clear zu;have Hx:Hid (ai wc w4.heap.size 30 [.bool (ar (dN Y)),.string (bs (nt (dN Y).natAbs)),.int .i64 (dE Y)]):=hx;have Jl:=ah (aJ cd.out hb);have hov:=ownsRow_below Ho.out hb;have cH:=ah hov;have szc:=hb.size;clear hx hb hov Ho Hb Hd Jd Qj jV cd;have Hb:Hid (Bw wc wc):=Below.refl _ _;obtain⟨x0,x1,x2⟩:=Hx.out.c3;have P0:=x0;have P1:=x1;have P2:=x2;have aqU:=Hx.out.lt;obtain⟨W6,sM,ae,Hc⟩:=cL wc 30 [.bool (ar (dN Y)),.string (bs (nt (dN Y).natAbs)),.int .i64 (dE Y)];clear x0 x1 x2;replace Hx:=kB Hx ae;obtain⟨x0,x1,x2⟩:=Hx.out.c3;obtain⟨c0,c1,c2⟩:=Hc.out.c3;replace Hb:=au Hb ae;clear ae;have dh:=ownsRow_below cH.out Hb.out;have jf:=Hb.out.size;go_wp2_with (at_builtin;refine wpList_append_own_at _ rfl _ _ 45 rfl wq.heap.size 30 i0 _ 3 32 Tryz.underlying45 Hi.out cX.out cN.out cO.out rfl zd _ j (dC (Z.take j)) rfl dh ⟨wc.heap.size,0,none⟩ 1 1 [.bool (ar (dN Y)),.string (bs (nt (dN Y).natAbs)),.int .i64 (dE Y)] rfl rfl (gW Hc.out) zy zx zo zo ?_;intro v' w7 eJ fN _ fU;obtain⟨g',oh,rfl⟩:=ownsRow_succ eJ);go_roundw;case rel=>exact⟨j+1,_,by omega,by go_num,rfl,by rw[bX.out];exact eJ,(aJ Jl.out Hb.out).grown fN zo (λj e=>dt dh j e)⟩
        case measure=>simp[intOf];omega
     . obtain rfl:j=m+1:=by omega
       have mJ:Z.take (m+1)=Z:=List.take_of_length_le (by rw[ud.out];exact Nat.le_refl _);rw[mJ]at Ho;have fG:=Ho.out.lt;obtain⟨a2,cap2,rfl,_,_⟩:=dS Ho.out;obtain⟨vals,hvl,qi,Ng,CV⟩:=dK.out;have hov:=ownsRow_below qi cd.out;have jJ:=λi h=>ownsRow_below (Ng i h) cd.out;have lO:∀g,(Value.slice a2 (m+1) cap2).ownBlock=some g->∀i (h:i<vals.length),vals[i].ownBlock≠some g:=λg e i h e2=>by have h1:=(fG g e).1;have h2:=((Ng i h).lt g e2).2;omega
       have hx:=oW Ho.out iG;obtain⟨mZ,su,cH,Kn,Bb,Hxx⟩:=iz hvl jJ hov CV lO hx;clear hvl jJ hov qi Ng CV lO hx fG mJ;have Hb:Hid (Bw wr wr):=Below.refl _ _;obtain⟨W6,sM,ae,Hd⟩:=cL wr 45 [.slice a2 (m+1) cap2];have d0:=Hd.out.c1;replace Hb:=au Hb ae;clear ae;have dh:=ownsRow_below cH.out Hb.out;have jf:=Hb.out.size;go_wp2_with (at_builtin;refine wpList_append_own_at _ rfl _ _ 78 rfl w.heap.size 45 j0 _ 1 24 Tryz.underlying78 Hj.out kI.out na.out ng.out rfl zd v k vals rfl dh ⟨wr.heap.size,0,none⟩ 1 1 [.slice a2 (m+1) cap2] rfl rfl (gW Hd.out) zy zx zo zo ?_;intro v' w7 eJ fN _ fU;obtain⟨g',oh,rfl⟩:=ownsRow_succ eJ);go_roundw;case rel=>refine⟨k+1,_,by omega,by go_num,rfl,fJ.push mZ.out dh (λi h=>ownsRow_below (su.out i h) Hb.out) Kn.out (by rw[yg.out];exact ownsRow_below Hxx.out Hb.out) Bb.out eJ fN,?_⟩;exact(aJ (aJ aQ.out cd.out) Hb.out).grown fN zo (λj e=>dt dh j e)
       case measure=>simp[intOf];omega
  . obtain rfl:k=m+1:=by omega
    go_wp2;exact bodyPost_ret (v:=.tuple #[v,.int .i64 0]) (by simp[results,Tryz.results92,go_sem]) rfl ⟨v,rfl,dK.out,aQ.out⟩
end Go.Proofs.YtdaadlblknpipaaGreatDoor
namespace Go.Proofs.YtdaadlblknpipaaGreatDoor
def oc (n:Nat)(p:Nat->Nat->Dyadic):List (List Dyadic):=(List.range n).map λa=>(List.range n).map λb=>iY n p a b
theorem Fi (n:Nat)(p:Nat->Nat->Dyadic):(oc n p).length=n:=by simp[oc]
theorem Fj (n:Nat)(p:Nat->Nat->Dyadic):∀r∈oc n p,r.length=n:=by intro r hr;unfold oc at hr;obtain⟨x,_,rfl⟩:=List.mem_map.1 hr;simp
theorem KE (n:Nat)(p:Nat->Nat->Dyadic)(a b:Nat)(ha:a<n)(hb:b<n):bZ (oc n p) a b=iY n p a b:=by unfold bZ oc;simp[List.getD_eq_getElem?_getD,ha,hb]
theorem anc {n:Nat}{R S:List (List Dyadic)}(h1:R.length=n)(h2:∀r∈R,r.length=n)(h3:S.length=n)(h4:∀r∈S,r.length=n)(h:∀a b,a<n->b<n->bZ R a b=bZ S a b):R=S:=by apply List.ext_getElem zo;intro i hi hj;have l1:=h2 _ (List.getElem_mem hi);have l2:=h4 _ (List.getElem_mem hj);apply List.ext_getElem zo;intro j k1 k2;have:=h i j zo zo;unfold bZ at this;simpa[List.getD_eq_getElem?_getD,hi,hj,k1,k2]using this
theorem adO (n:Nat)(bz:n<=4){e f:Nat->Nat->Dyadic}(h:∀i j,i<n->j<n->e i j=f i j)(a b:Nat)(ha:a<n)(hb:b<n):ke n e a b=ke n f a b:=by
 have:dw (n-1) (kz e b a)=dw (n-1) (kz f b a):=BO (n-1) zo (λi j hi hj=>by
  unfold kz
  exact h _ _ (by split<;>omega) (by split<;>omega))
 unfold ke;rw[this]
theorem agw {n:Nat}{R:List (List Dyadic)}(h1:R.length=n)(h2:∀r∈R,r.length=n)(i j:Nat)(hi:i<n)(hj:j<n)(y:Dyadic)(a b:Nat)(ha:a<n)(hb:b<n):bZ (R.set i ((R.getD i []).set j y)) a b=if a=i/\b=j then y else bZ R a b:=by
 unfold bZ;by_cases e:a=i
 . subst e;rw[List.getD_eq_getElem?_getD (l:=R.set _ _),List.getElem?_set_self zo,Option.getD_some];have hl:(R.getD a []).length=n:=by
    have e:R.getD a []=R[a]'zo:=by rw[List.getD_eq_getElem?_getD,List.getElem?_eq_getElem zo];rfl
    rw[e];exact h2 _ (List.getElem_mem _)
   by_cases e2:b=j
   . subst e2;rw[if_pos ⟨rfl,rfl⟩,List.getD_eq_getElem?_getD,List.getElem?_set_self zo];rfl
   . rw[if_neg (λh=>e2 h.2),List.getD_eq_getElem?_getD,List.getElem?_set_ne (λh=>e2 h.symm),<-List.getD_eq_getElem?_getD]
 . rw[if_neg (λh=>e h.1),List.getD_eq_getElem?_getD (l:=R.set _ _),List.getElem?_set_ne (λh=>e h.symm),<-List.getD_eq_getElem?_getD]
theorem amD {n:Nat}{R:List (List Dyadic)}(h1:R.length=n)(h2:∀r∈R,r.length=n)(i j:Nat)(hi:i<n)(y:Dyadic):(R.set i ((R.getD i []).set j y)).length=n/\∀r∈R.set i ((R.getD i []).set j y),r.length=n:=by
 refine⟨by rw[List.length_set];exact h1,λr hr=>?_⟩;rcases List.mem_or_eq_of_mem_set hr with h|h
 . exact h2 r h
 . rw[h,List.length_set];have e:R.getD i []=R[i]'zo:=by rw[List.getD_eq_getElem?_getD,List.getElem?_eq_getElem zo];rfl
   rw[e];exact h2 _ (List.getElem_mem _)
theorem amE (X:Dyadic):(if bV X<0 then-X else X)=jm X*X:=by
 rw[Zf];by_cases h:X<0
 . rw[if_pos h,if_pos ((uw X).2 h)]
 . rw[if_neg h,if_neg (λh2=>h ((uw X).1 h2))]
def jv (k j a b:Nat):Prop:=a<k\/a=k/\b<j
instance (k j a b:Nat):Decidable (jv k j a b):=inferInstanceAs (Decidable (_\/_))
end Go.Proofs.YtdaadlblknpipaaGreatDoor
namespace Go.Proofs.YtdaadlblknpipaaGreatDoor
open Go.RowKit
attribute [local go_sem ↓] Go.wp_at_zero Go.wp_at_succ
def RX (w:World)(n:Nat)(p:Nat->Nat->Dyadic)(e:Ending)(w':World):Prop:=
 ∃a' c',e=.returned (.tuple #[bL (jm (bT n p) *bT n p),.slice a' n c',.int .i64 0])/\n<=c'/\bj w' a' ((oc n p).map λr=>r.map canon)/\Bw w w'
theorem fJ.blk {w:World}{base n L go cap:Nat}{R:List (List Dyadic)}(h:fJ w base n R L (.slice (some ⟨go,0,none⟩) L cap))(i:Nat)(hi:i<L)(hn:0<n):base<=go/\∃g c,w.cell? ⟨go,i,none⟩=some (.slice (some ⟨g,0,none⟩) n c)/\base<=g/\g<w.heap.size/\g≠go:=by
 obtain⟨vals,hl,ho,hv,hd⟩:=h;have hi2:i<vals.length:=by omega
 have hrow:=hv i hi2;obtain⟨g,c,e1,hg1,hg2,_⟩:=xR hrow hn;have fU:=xQ ho;have hc:=lh ho i zo;rw[e1]at hc;refine⟨fU.1,g,c,hc,hg1,hg2,?_⟩;rintro rfl;rw[e1]at hrow;rcases hrow.2 with⟨h1,_⟩ |⟨g',c',cur,h1,_,h2,_⟩
 . simp at h1
 . simp only[Value.slice.injEq,Option.some.injEq,Addr.mk.injEq,and_true,true_and]at h1;obtain⟨rfl,rfl⟩:=h1;rcases ho.2 with⟨h3,_⟩ |⟨g2,c2,aoJ,h3,_,h4,_⟩
   . simp at h3
   . simp only[Value.slice.injEq,Option.some.injEq,Addr.mk.injEq,and_true,true_and]at h3;obtain⟨rfl,rfl⟩:=h3;rw[h2]at h4;simp at h4
theorem fJ.arQ {w:World}{base n k:Nat}{R:List (List Dyadic)}{v:Value}(h:fJ w base n R k v){p:Addr}(hp:p.block<base)(x:Value):fJ (w.setCell p x) base n R k v:=by
 obtain⟨vals,hl,ho,hi,hd⟩:=h;have hne:∀{u:Value} {e:TypeId} {sz m:Nat} {xs:List Value},w.ownsRow base e sz u m xs->u.ownBlock≠some p.block:=λh e=>by have:=(h.lt _ e).1;omega
 exact⟨vals,hl,ownsRow_setCell_other ho (hne ho) _,λi h=>ownsRow_setCell_other (hi i h) (hne (hi i h)) _,hd⟩
theorem Nt (a:Option Addr)(cap m:Nat)(rows:List (List Raw))(B:Nat)(w:World)(hm:m+1<=4)(hr:Rw (m+1) B rows)(hcap:m+1+1<=cap)(ha:bj w a rows)(hB:B<=200000)(hT:az w)(h0:gM rows=0):
 Calls Tryz.prog 55 #[.slice a (m+1+1) cap] w (RX w (m+1) (cV rows)):=by
 obtain⟨n,hn⟩:=aB (m+1);have hL:=hr.1;have hrow:=hr.2.1;have hfit:=hr.2.2;obtain⟨b,o,rfl⟩:∃b o,a=some ⟨b,o,none⟩:=by
  obtain⟨vals,hvl,hat,_⟩:=ha;rcases hat with h|⟨b,o,h,_⟩
  . rw[h]at hvl;simp at hvl;omega
  . exact⟨b,o,h⟩
 have fp:=λW (hW:Bw w W)=>Ao (some ⟨b,o,none⟩) (m+1+1) cap rows B W hL zo hcap (ha.below hW) hfit zo (hT.below hW);rw[h0]at fp;obtain⟨S,hS⟩:=aB ((rows.drop 1).map λp=>ju (rows.getD 0 []) p);have iJ:S.length=m+1:=by rw[<-hS];simp[hL]
 have h00:0<rows.length:=by omega
 have e0:rows.getD 0 []=rows[0]:=by simp[h00]
 have qW:∀r∈S,r.length=m+1:=by intro r hr;rw[<-hS]at hr;obtain⟨p,hp,rfl⟩:=List.mem_map.1 hr;rw[FH (by rw[e0,hrow _ (List.mem_of_mem_drop hp),hrow _ (List.getElem_mem h00)]),hrow _ (List.mem_of_mem_drop hp)]
 have mI:∀r∈S,∀d∈r,Sm (B+1) d:=by intro r hr d hd;rw[<-hS]at hr;obtain⟨p,hp,rfl⟩:=List.mem_map.1 hr;unfold ju at hd;obtain⟨i,hi,rfl⟩:=List.mem_iff_getElem.1 hd;rw[List.getElem_zipWith];refine Sm.sub (hfit p (List.mem_of_mem_drop hp) _ (List.getElem_mem _)).2 (hfit (rows.getD 0 []) ?_ _ (List.getElem_mem _)).2;rw[e0];exact List.getElem_mem h00
 obtain⟨P,hP⟩:=aB (cV rows);have CB:∀i j,i<m+1->j<m+1->bZ S i j=yQ P i j:=λi j hi hj=>by rw[<-hS,<-hP];exact Zi (m+1) rows hL hrow i j hi hj
 obtain⟨X,hX⟩:=aB (bT (m+1) P);have hent:dw (m+1) (bZ S)=X:=by rw[<-hX,yP];exact BO (m+1) hm CB
 have hro:=λW (hW:Bw w W)=>YW b o cap (m+1) (m+1) rows B W hL zo hcap zo zo zo hrow (ha.below hW) hfit zo (hT.below hW);rw[hS]at hro
 have mL:=λW (hW:Bw w W) a' c' (h:bj W a' (S.map λr=>r.map canon))=>KY a' c' (m+1) (S.map λr=>r.map canon) (B+1) S X W zo hm (by simpa using iJ) (by
  intro r hr;obtain⟨x,hx,rfl⟩:=List.mem_map.1 hr
  simpa using qW x hx) h (by
  intro r hr c hc;obtain⟨x,hx,rfl⟩:=List.mem_map.1 hr;obtain⟨y,hy,rfl⟩:=List.mem_map.1 hc
  exact(mI x hx y hy).fit zo) zo zo (hT.below hW) (Sy S) hent
 have nz:=λW (hW:Bw w W) a' c' (h:bj W a' (S.map λr=>r.map canon))=>(adS a' c' m S (B+1) W hm iJ qW mI zo zo h (hT.below hW)).mono (λe w' h=>(match h with|⟨v,h1,h2,h3⟩=>⟨v,h1,h2,h3,h3⟩:∃v,e=.returned (.tuple #[v,.int .i64 0])/\fJ w' W.heap.size (m+1) (pD (m+1) (bZ S)) (m+1) v/\Bw W w'/\Bw W w'));have fT:Sm (4*B+11) X:=by rw[<-hent];refine(FC (B:=B+1) hm (λi j hi hj=>?_)).mono zo;rw[CB i j hi hj,<-hP];exact BQ (n:=m+1) (B:=B) (λa b ha hb=>by rw[rJ rows a b zo (by rw[hrow _ (List.getElem_mem _)];exact hb)];exact(hfit _ (List.getElem_mem _) _ (List.getElem_mem _)).2) i j hi hj
 have gJ:=λW=>mF (ar (dN X)) (nt (dN X).natAbs) (dE X) (bV X) (by show bV (aC (canon X))=_;rw[bK]) W (fT.ok zo);have CE: -1<=bV X/\bV X<=1:=by unfold bV dW;split<;>(try split)<;>omega
 obtain⟨G,hG⟩:=aB (jm X);have hof:=λW (hW:Bw w W)=>BN (bV X) G (by rw[<-hG];rfl) W zo (hT.below hW)
 have hab:=λW (hW:Bw w W)=>SS (ar (dN X)) (nt (dN X).natAbs) (dE X) (G*X) (by
  have e:aC (ar (dN X),nt (dN X).natAbs,dE X)=X:=bK X
  rw[e,amE,hG]) W (fT.ok zo) (hT.below hW)
 have TV:Fit (4*B+11) (canon G):=(by rw[<-hG];exact(OL X).mono zo:Sm (4*B+11) G).fit zo;have pM:∀i j,i<m+1->j<m+1->Fit (4*B+11) (canon (ke (m+1) (bZ S) i j)):=λi j hi hj=>by refine((Sd (B:=B+1) zo hm (λa b ha hb=>?_) i j).mono zo).fit zo;rw[CB a b ha hb,<-hP];exact BQ (n:=m+1) (B:=B) (λa b ha hb=>by rw[rJ rows a b zo (by rw[hrow _ (List.getElem_mem _)];exact hb)];exact(hfit _ (List.getElem_mem _) _ (List.getElem_mem _)).2) a b ha hb
 have hfin:∀R:List (List Dyadic),R.length=m+1->(∀r∈R,r.length=m+1)->(∀a b,a<m+1->b<m+1->bZ R a b=ke (m+1) (bZ S) a b*G)->R=oc (m+1) P:=λR h1 h2 h3=>anc h1 h2 (Fi _ _) (Fj _ _) (λa b ha hb=>by
  rw[h3 a b ha hb,KE _ _ _ _ ha hb];unfold iY
  rw[hX,hG,adO (m+1) hm CB a b ha hb])
 have BZ:=λi j hi hj=>adP (m+1) (bZ S) i j hi hj;have FV:=adQ (m+1) (bZ S);have FW:=adR (m+1) (bZ S);obtain⟨F,hF⟩:∃F:Nat->Nat->Dyadic,(λi j=>ke (m+1) (bZ S) i j)=F:=⟨_,rfl⟩;have TU:∀i j,ke (m+1) (bZ S) i j=F i j:=λi j=>by rw[<-hF]
 simp only[TU]at pM hfin BZ;obtain⟨A,hA⟩:=aB (pD (m+1) (bZ S));rw[hA]at nz BZ FV FW;rw[hP];unfold RX;rw[hX,hG];rw[hn]at fp hro mL nz pM hfin BZ FV FW⊢;have bz:n<=4:=by omega
 have eD:1<=n:=by omega
 have WH:=λW=>(gJ W).mono (λe w' h=>(⟨h.1,h.2,h.2⟩:e=.returned (.int .i64 (bV X))/\Bw W w'/\Bw W w'));have Wk:=λW hW=>(hof W hW).mono (λe w' h=>(⟨h.1,h.2,h.2⟩:e=.returned (bL G)/\Bw W w'/\Bw W w'));have fx:=λW hW=>(hab W hW).mono (λe w' h=>(⟨h.1,h.2,h.2⟩:e=.returned (bL (G*X))/\Bw W w'/\Bw W w'));obtain⟨mn,Rp,AU,AJ,jF,ui,kF,HGf,HAs,rX,HAe,HAl⟩:=gY fp hro mL nz WH Wk fx TV pM hfin BZ FV;obtain⟨HAr,HT⟩:=aL FW hT;clear fp hro mL nz WH Wk gJ hof hab fx TV pM hfin BZ FV FW hT TU hF hA fT hent CB mI qW iJ hS e0 h00 hP hX hG CE ha hr hL hrow hfit h0 hn;have Hb:Hid (Bw w w):=Below.refl _ _;go_enter Tryz.func55,Tryz.ntmps55;go_wp2_with fail;obtain⟨R,hR⟩:∃R:World->Prop,(λW=>ai W (w.heap.size) 30 [.bool false,.string ⟨#[]⟩,.int .i64 0]/\Bw w W)=R:=⟨_,rfl⟩;first|refine bE R ?hR ?_|refine bD R ?hR ?_
 case hR=>subst hR;exact⟨(ai.newAt w _ _ (b:=w.heap.size) rfl),zl⟩
 subst hR;rintro W ⟨qr,ae⟩;have Hr:=ah qr;clear qr;obtain⟨r0,aj,r1,ak,r2,aF⟩:=Hr.out.g3;replace Hb:=au Hb ae;clear ae;go_wp2_with fail;refine(mn.out _ Hb.out).mono ?_;rintro e w1 ⟨rfl,ae⟩;clear r0 aj r1 ak r2 aF;replace Hr:=kB Hr ae;obtain⟨r0,aj,r1,ak,r2,aF⟩:=Hr.out.g3;replace Hb:=au Hb ae;clear ae;go_wp2_with fail;refine(Rp.out _ Hb.out).mono ?_;rintro e w2 ⟨a2,c2,rfl,hc2,ht2,ae⟩;clear r0 aj r1 ak r2 aF;replace Hr:=kB Hr ae;obtain⟨r0,aj,r1,ak,r2,aF⟩:=Hr.out.g3;replace Hb:=au Hb ae;clear ae;have EP:=ah ht2;clear ht2;go_wp2_with fail;refine(AU.out _ Hb.out a2 c2 EP.out).mono ?_;rintro e w3 ⟨rfl,ae⟩;clear r0 aj r1 ak r2 aF;replace Hr:=kB Hr ae;obtain⟨r0,aj,r1,ak,r2,aF⟩:=Hr.out.g3;replace Hb:=au Hb ae;clear ae EP;have ajS:=Hr.out.lt;obtain⟨W4,kj,ae,Hd⟩:=cL w3 30 [.bool (ar (dN X)),.string (bs (nt (dN X).natAbs)),.int .i64 (dE X)];clear r0 aj r1 ak r2 aF;replace Hr:=kB Hr ae;obtain⟨r0,aj,r1,ak,r2,aF⟩:=Hr.out.g3;obtain⟨d0,d1,d2⟩:=Hd.out.c3;replace Hb:=au Hb ae;clear ae;go_wp2_with fail;refine(Rp.out _ Hb.out).mono ?_;rintro e w5 ⟨a3,c3,rfl,hc3,uX,ae⟩;clear r0 aj r1 ak r2 aF d0 d1 d2;replace Hr:=kB Hr ae;replace Hd:=kB Hd ae;obtain⟨r0,aj,r1,ak,r2,aF⟩:=Hr.out.g3;obtain⟨d0,d1,d2⟩:=Hd.out.c3;replace Hb:=au Hb ae;clear ae;have EQ:=ah uX;clear uX;have jX:=Hr;have Jt:=Hd;have dI:=Hb;go_wp2_with fail;refine(AJ.out _ Hb.out a3 c3 EQ.out).mono ?_;rintro e w6 ⟨v,rfl,hO,UN,ae⟩;clear r0 aj r1 ak r2 aF d0 d1 d2;replace Hr:=kB Hr ae;replace Hd:=kB Hd ae;obtain⟨r0,aj,r1,ak,r2,aF⟩:=Hr.out.g3;obtain⟨d0,d1,d2⟩:=Hd.out.c3;replace Hb:=au Hb ae;clear ae;obtain⟨go,cv,rfl,hgo⟩:∃go cv,v=.slice (some ⟨go,0,none⟩) n cv/\w5.heap.size<=go:=by obtain⟨vals,hl,ho,_,_⟩:=hO;obtain⟨g,c,e1,h1,_,_⟩:=xR ho zo;exact⟨g,c,e1,h1⟩
 have hcv:n<=cv:=by obtain⟨vals,hl,ho,_,_⟩:=hO;exact(vC ho).1
 obtain⟨gI,Vs⟩:∃gI:Nat->Nat×Nat,∀i,i<n->w6.cell? ⟨go,i,none⟩=some (.slice (some ⟨(gI i).1,0,none⟩) n (gI i).2)/\w5.heap.size<=(gI i).1/\(gI i).1<w6.heap.size/\(gI i).1≠go:=by have H:=λi (h:i<n)=>(hO.blk i h eD).2;refine⟨λi=>if h:i<n then(Classical.choose (H i h),Classical.choose (Classical.choose_spec (H i h)))else(0,0),λi h=>?_⟩;simp only[h,dif_pos];exact Classical.choose_spec (Classical.choose_spec (H i h))
 obtain⟨HO,QF⟩:=aL hO Vs;clear hO Vs;have yf:Hid (Bw w5 w6):=UN;have H66:Hid (Bw w6 w6):=Below.refl _ _;clear UN;have OW:=yf.out.size;go_wp2_with fail;refine(jF.out _).mono ?_;rintro e w7 ⟨rfl,UR,ae⟩;clear r0 aj r1 ak r2 aF d0 d1 d2;replace Hr:=kB Hr ae;replace Hd:=kB Hd ae;obtain⟨r0,aj,r1,ak,r2,aF⟩:=Hr.out.g3;obtain⟨d0,d1,d2⟩:=Hd.out.c3;replace Hb:=au Hb ae;clear ae;go_wp2_with fail;refine(ui.out _ Hb.out).mono ?_;rintro e w8 ⟨rfl,UT,ae⟩;clear r0 aj r1 ak r2 aF d0 d1 d2;replace Hr:=kB Hr ae;replace Hd:=kB Hd ae;obtain⟨r0,aj,r1,ak,r2,aF⟩:=Hr.out.g3;obtain⟨d0,d1,d2⟩:=Hd.out.c3;replace Hb:=au Hb ae;clear ae;have Ml:=aJ UR UT;clear UR UT;have PH:=ah Ml;have IA:=Ml.size;clear Ml;have aqE:=Hr.out.lt;have aqh:=Hd.out.lt;obtain⟨W9,UC,ae,Hs⟩:=cL w8 30 [.bool (ar (dN G)),.string (bs (nt (dN G).natAbs)),.int .i64 (dE G)];clear r0 aj r1 ak r2 aF;replace Hr:=kB Hr ae;clear d0 d1 d2;replace Hd:=kB Hd ae;obtain⟨r0,aj,r1,ak,r2,aF⟩:=Hr.out.g3;obtain⟨d0,d1,d2⟩:=Hd.out.c3;obtain⟨s0,s1,s2⟩:=Hs.out.c3;replace Hb:=au Hb ae;clear ae;have Eh:Hid (Bw w6 W9):=by rw[<-UC];exact(PH.out).alloc zo _
 have Ue:=HO.out.below Eh.out;have Gj:∀i,i<n->W9.cell? ⟨go,i,none⟩=some (.slice (some ⟨(gI i).1,0,none⟩) n (gI i).2):=λi h=>cell_later Eh.out (QF.out i h).1;have UO:=aJ yf.out Eh.out;obtain⟨Qb,Qs,PG⟩:=cK Ue Gj UO;have Rs:=Hs;clear Ue Gj UO HO PH H66 Eh;go_wp2_with fail;go_loopw[37] (λx wr=>∃(k:Nat) (R:List (List Dyadic)),k<=n/\x=.int .i64 (k:Int)/\R.length=n/\(∀r∈R,r.length=n)/\(∀a b,a<n->b<n->bZ R a b=if jv k 0 a b then F a b*G else F a b)/\fJ wr w5.heap.size n R n (.slice (some ⟨go,0,none⟩) n cv)/\(∀i,i<n->wr.cell? ⟨go,i,none⟩=some (.slice (some ⟨(gI i).1,0,none⟩) n (gI i).2))/\ai wr w8.heap.size 30 [.bool (ar (dN G)),.string (bs (nt (dN G).natAbs)),.int .i64 (dE G)]/\Bw w5 wr) (λx _=>n-(intOf x).toNat);case atStart=>exact⟨0,A,Nat.zero_le _,rfl,HAl.out,HAr.out,λa b ha hb=>by rw[HAe.out a b ha hb,if_neg (by unfold jv;omega)],Qb.out,Qs.out,Rs.out,PG.out⟩
 case round=>
  clear Rs PG Qs Qb s0 s1 s2 Hs r0 aj r1 ak r2 aF d0 d1 d2 Hr Hd Hb yf;obtain⟨k,R,hk,rfl,pQ,pR,hRe,hO,hc,hs,pb⟩:=hrel;by_cases hlt:k<n
  . have fp:=hc k hlt;obtain⟨g,c,nI⟩:∃g c,gI k=(g,c):=⟨_,_,rfl⟩;obtain⟨_,hg1,hg2,hg3⟩:=QF.out k hlt;rw[nI]at fp hg1 hg2 hg3;have bB:=xx n cv k (k:Int) (rfl:(some ⟨go,0,none⟩:Option Addr)=_) hlt rfl;rw[Nat.zero_add,Nat.mul_one]at bB;have hin:∃(j:Nat) (R:List (List Dyadic)),j=0/\R.length=n/\(∀r∈R,r.length=n)/\(∀a b,a<n->b<n->bZ R a b=if jv k j a b then F a b*G else F a b)/\fJ wr w5.heap.size n R n (.slice (some ⟨go,0,none⟩) n cv)/\(∀i,i<n->wr.cell? ⟨go,i,none⟩=some (.slice (some ⟨(gI i).1,0,none⟩) n (gI i).2))/\ai wr w8.heap.size 30 [.bool (ar (dN G)),.string (bs (nt (dN G).natAbs)),.int .i64 (dE G)]/\Bw w5 wr:=⟨0,R,rfl,pQ,pR,hRe,hO,hc,hs,pb⟩;obtain⟨pg,EG⟩:=aL hin nI;clear hin pQ pR hRe hO hc hs pb nI;obtain⟨wq,hwq⟩:∃wq,wq=wr:=⟨_,rfl⟩;subst hwq;go_wp2_with fail;go_loopw[43] (λx wr=>∃(j:Nat) (R:List (List Dyadic)),j<=n/\x=.int .i64 (j:Int)/\R.length=n/\(∀r∈R,r.length=n)/\(∀a b,a<n->b<n->bZ R a b=if jv k j a b then F a b*G else F a b)/\fJ wr w5.heap.size n R n (.slice (some ⟨go,0,none⟩) n cv)/\(∀i,i<n->wr.cell? ⟨go,i,none⟩=some (.slice (some ⟨(gI i).1,0,none⟩) n (gI i).2))/\ai wr w8.heap.size 30 [.bool (ar (dN G)),.string (bs (nt (dN G).natAbs)),.int .i64 (dE G)]/\Bw w5 wr) (λx _=>n-(intOf x).toNat);case atStart=>obtain⟨j,R,rfl,h⟩:=pg.out;exact⟨0,R,Nat.zero_le _,rfl,h⟩
    case round=>
     clear pg fp bB;obtain⟨j,R,hj,rfl,pQ,pR,hRe,hO,hc,hs,pb⟩:=hrel;by_cases aW:j<n
     . have hrl:(R.getD k []).length=n:=by
        have e:R.getD k []=R[k]'zo:=by rw[List.getD_eq_getElem?_getD,List.getElem?_eq_getElem zo];rfl
        rw[e];exact pR _ (List.getElem_mem _)
       have fp:=hc k hlt;rw[EG.out]at fp;have hpick:∀W,fJ W w5.heap.size n R n (.slice (some ⟨go,0,none⟩) n cv)->W.cell? ⟨go,k,none⟩=some (.slice (some ⟨g,0,none⟩) n c)->aY W g (j*3) [.bool (ar (dN (F k j))),.string (bs (nt (dN (F k j)).natAbs)),.int .i64 (dE (F k j))]/\(∀o,W.frozen? ⟨g,o,none⟩=false)/\∀y:Dyadic,fJ (((W.setCell ⟨g,j*3,none⟩ (.bool (ar (dN y)))).setCell ⟨g,j*3+1,none⟩ (.string (bs (nt (dN y).natAbs)))).setCell ⟨g,j*3+2,none⟩ (.int .i64 (dE y))) w5.heap.size n (R.set k ((R.getD k []).set j y)) n (.slice (some ⟨go,0,none⟩) n cv):=by
        intro W hO fp;obtain⟨go',cap',g',c',hv,_,_,hne,hcell,bY,hfz,hup⟩:=hO.num k j hlt aW pQ hrl;simp only[Value.slice.injEq,Option.some.injEq,Addr.mk.injEq,and_true,true_and]at hv;obtain⟨rfl,rfl⟩:=hv;rw[fp]at hcell;simp only[Option.some.injEq,Value.slice.injEq,Addr.mk.injEq,and_true,true_and]at hcell;obtain⟨rfl,rfl⟩:=hcell;have he:(R.getD k []).getD j 0=F k j:=by have h:=hRe k j hlt aW;rw[if_neg (by unfold jv;omega)]at h;exact h
        rw[he]at bY;exact⟨bY,hfz,hup⟩
       obtain⟨bY,_,_⟩:=hpick wr hO fp;have Lr:=HAs.out k j hlt aW;obtain⟨Y,hY⟩:=aB (F k j*G);have hsl:=amD pQ pR k j hlt Y;have hen:∀a b,a<n->b<n->bZ (R.set k ((R.getD k []).set j Y)) a b=if jv k (j+1) a b then F a b*G else F a b:=by
        intro a b ha hb;rw[agw pQ pR k j hlt aW Y a b ha hb];by_cases e:a=k/\b=j
        . obtain⟨rfl,rfl⟩:=e;rw[if_pos ⟨rfl,rfl⟩,if_pos (by unfold jv;omega),hY]
        . rw[if_neg e,hRe a b ha hb];have:jv k j a b↔jv k (j+1) a b:=by unfold jv;omega
          by_cases h:jv k j a b
          . rw[if_pos h,if_pos (this.1 h)]
          . rw[if_neg h,if_neg (λh2=>h (this.2 h2))]
       obtain⟨E,hE⟩:=aB (F k j);have HY:Hid (aC (canon E) *aC (canon G)=Y):=by show _=_;rw[bK,bK,<-hE];exact hY
       rw[hE]at bY Lr hpick;have uO:=iN n c j (j:Int) (rfl:(some ⟨g,0,none⟩:Option Addr)=_) aW rfl;rw[Nat.zero_add]at uO;obtain⟨R2,Ur⟩:=aB (R.set k ((R.getD k []).set j Y));have hpk:=λW h1 h2=>(hpick W h1 h2).2.2 Y;have xp:=λW h1 h2=>(hpick W h1 h2).2.1;rw[Ur]at hsl hen hpk;have Hz:Hid (aY wr g (j*3) [.bool (ar (dN E)),.string (bs (nt (dN E).natAbs)),.int .i64 (dE E)]):=bY;have Hs:Hid (ai wr w8.heap.size 30 [.bool (ar (dN G)),.string (bs (nt (dN G).natAbs)),.int .i64 (dE G)]):=hs;obtain⟨HO,Hcc,mn,aQ,qI,Hen,Hpk,Hpz,HAf,lA⟩:=zV hO hc fp pb hsl hen hpk xp Lr (HT.out.below (aJ dI.out pb));have szw:=pb.size;clear hO hc fp pb hsl hen hpk xp Lr hs bY hpick Ur hE hY pQ pR hRe hrl;have Hb:Hid (Bw wr wr):=Below.refl _ _;have td:=Hs.out.lt;go_wp2_with fail;obtain⟨z0,z1,z2⟩:=Hz.out.w3;obtain⟨s0,s1,s2⟩:=Hs.out.c3;have HU:Hid (az wr):=lA.out;refine bC (λw'=>w'.cell? ⟨g,j*3,none⟩=some (.bool (ar (dN E)))/\w'.cell? ⟨g,j*3+1,none⟩=some (.string (bs (nt (dN E).natAbs)))/\w'.cell? ⟨g,j*3+2,none⟩=some (.int .i64 (dE E))/\w'.cell? ⟨w8.heap.size,0,none⟩=some (.bool (ar (dN G)))/\w'.cell? ⟨w8.heap.size,1,none⟩=some (.string (bs (nt (dN G).natAbs)))/\w'.cell? ⟨w8.heap.size,2,none⟩=some (.int .i64 (dE G))) (λi=>Nat.blt i 10) [(0,true),(1,true),(2,true),(3,true),(4,true),(5,true),(6,true),(7,false),(8,false),(9,true),(10,false)] zk zk rfl zk zc ⟨z0,z1,z2,s0,s1,s2⟩ ?_;iterate 7 (refine pT rfl rfl ?_ (by intro w' ⟨q0,q1,q2,q3,q4,q5⟩;go_simp;try with_reducible rfl);try simp only[UU])
       refine aI rfl rfl (λK hK=>?_);go_simp;refine hK _ _ (λ_=>⟨aG z0,aG z1,aG z2,aG s0,aG s1,aG s2⟩) ?_;clear hK K;try simp only[UU]
       refine bF (λW4=>ai W4 (wr.heap.size) 30 [.bool (ar (dN E)),.string (bs (nt (dN E).natAbs)),.int .i64 (dE E),.bool (ar (dN G)),.string (bs (nt (dN G).natAbs)),.int .i64 (dE G)]/\Bw wr W4) (by first|exact dL|exact dM) ?_;rintro W4 ⟨qv,ae⟩;clear z0 z1 z2 s0 s1 s2;have aqH:=Hs.out.lt;replace Hz:=kW Hz ae;replace Hs:=kB Hs ae;replace HU:=kT HU ae;have Hv:=ah qv;clear qv;obtain⟨z0,z1,z2⟩:=Hz.out.w3;obtain⟨s0,s1,s2⟩:=Hs.out.c3;obtain⟨v0,v1,v2,v3,v4,v5⟩:=Hv.out.c6;replace Hb:=au Hb ae;clear ae;refine aI rfl rfl (λK hK=>?_);go_simp;with_reducible refine(sF _ _ _ _ _ _ Y (4*B+11) HY.out wr.heap.size _ 30 _ HAf.out HGf.out zo Hv.out (by first|exact HU.out|exact az.drew HU.out|exact az.alloc HU.out _|exact az.drew (az.alloc HU.out _) |exact az.alloc (az.drew HU.out) _)).mono ?_
       rintro e eW ⟨rfl,hq⟩;have ae:Bw W4 eW:=by first|exact hq|exact aN hq
       clear z0 z1 z2 s0 s1 s2 v0 v1 v2 v3 v4 v5;replace Hz:=kW Hz ae;replace Hs:=kB Hs ae;replace HU:=kT HU ae;replace Hv:=kB Hv ae;obtain⟨z0,z1,z2⟩:=Hz.out.w3;obtain⟨s0,s1,s2⟩:=Hs.out.c3;obtain⟨v0,v1,v2,v3,v4,v5⟩:=Hv.out.c6;replace Hb:=au Hb ae;clear ae;refine hK _ _ (λ_=>⟨z0,z1,z2,s0,s1,s2⟩) ?_;clear hK K;try simp only[UU]
       refine pT rfl rfl ?_;try simp only[UU]
       refine aI rfl rfl (λK hK=>?_);have LN:=HO.out.below Hb.out;have MA:=cell_later Hb.out mn.out;have hfz:=Hpz.out eW LN MA;have dD:=hfz (j*3);have dm:=hfz (j*3+1);have ey:=hfz (j*3+2);have hup:=Hpk.out eW LN MA;have ko:=aJ aQ.out Hb.out;obtain⟨Kl,jq⟩:=aL hup ko;clear LN MA hfz hup ko;go_simp;refine hK _ _ (λh=>absurd h zd) ?_;clear hK K;try simp only[UU]
       simp only[aS];go_wp2;refine⟨⟨j+1,R2,by omega,by go_num,qI.out.1,qI.out.2,Hen.out,Kl.out,λi hi=>?_,?_,?_⟩,by simp[intOf];omega⟩
       . have hne:(⟨go,i,none⟩:Addr).block≠g:=λe=>hg3 e.symm;exact aH (.inl hne) (aH (.inl hne) (aH (.inl hne) (cell_later Hb.out (Hcc.out i hi))))
       . have hne:g≠w8.heap.size:=by omega
         exact((Hs.out.arF _ hne _).arF _ hne _).arF _ hne _
       . exact((jq.out.setCell hg1 _).setCell hg1 _).setCell hg1 _
     . obtain rfl:j=n:=by omega
       have kR:(∀a b,a<j->b<j->bZ R a b=if jv (k+1) 0 a b then F a b*G else F a b):=by
        intro a b ha hb;rw[hRe a b ha hb];have:jv k j a b↔jv (k+1) 0 a b:=by unfold jv;omega
        by_cases h:jv k j a b
        . rw[if_pos h,if_pos (this.1 h)]
        . rw[if_neg h,if_neg (λh2=>h (this.2 h2))]
       have hres:(∃k' R,k'<=j/\k'=k+1/\R.length=j/\(∀r∈R,r.length=j)/\(∀a b,a<j->b<j->bZ R a b=if jv k' 0 a b then F a b*G else F a b)/\fJ wr w5.heap.size j R j (.slice (some ⟨go,0,none⟩) j cv)/\(∀i,i<j->wr.cell? ⟨go,i,none⟩=some (.slice (some ⟨(gI i).1,0,none⟩) j (gI i).2))/\ai wr w8.heap.size 30 [.bool (ar (dN G)),.string (bs (nt (dN G).natAbs)),.int .i64 (dE G)]/\Bw w5 wr):=⟨k+1,R,by omega,rfl,pQ,pR,kR,hO,hc,hs,pb⟩;have gg:=ah hres;clear hres kR pQ pR hRe hO hc hs pb;go_wp2;go_roundw;case rel=>obtain⟨k',R,h1,rfl,h⟩:=gg.out;exact⟨k+1,R,h1,by go_num,h⟩
       case measure=>simp[intOf];omega
  . obtain rfl:k=n:=by omega
    have hRf:R=oc k P:=rX.out R pQ pR (λa b ha hb=>by rw[hRe a b ha hb,if_pos (by unfold jv;omega)]);subst hRf;obtain⟨IW,aQ⟩:=aL hO pb;clear hO hc hs pb pQ pR hRe;obtain⟨Hr,Hd,Hb⟩:=cK (jX.out.below aQ.out) (Jt.out.below aQ.out) (aJ dI.out aQ.out);obtain⟨r0,aj,r1,ak,r2,aF⟩:=Hr.out.g3;obtain⟨d0,d1,d2⟩:=Hd.out.c3;go_wp2_with fail;refine(kF.out _ Hb.out).mono ?_;rintro e mU ⟨rfl,uG,ae⟩;clear r0 aj r1 ak r2 aF d0 d1 d2;replace Hr:=kB Hr ae;replace Hd:=kB Hd ae;obtain⟨r0,aj,r1,ak,r2,aF⟩:=Hr.out.g3;obtain⟨d0,d1,d2⟩:=Hd.out.c3;replace Hb:=au Hb ae;clear ae;have aaH:=ah (IW.out.below uG);clear uG;have hzz:=dI.out.size;have jx:w.heap.size<w5.heap.size:=Nat.lt_of_lt_of_le jX.out.lt (Nat.le_refl _);go_wp2;refine fR (λrM=>ai rM w.heap.size 30 [.bool (ar (dN (G*X))),.string (bs (nt (dN (G*X)).natAbs)),.int .i64 (dE (G*X))]/\fJ rM w5.heap.size k (oc k P) k (.slice (some ⟨go,0,none⟩) k cv)/\Bw w rM) ⟨((Hr.out.set 0 _).set 1 _).set 2 _,((aaH.out.arQ jx _).arQ jx _).arQ jx _,((Hb.out.setCell zp _).setCell zp _).setCell zp _⟩ ?_;rintro rM ⟨ait,aii,ahH⟩;obtain⟨q0,q1,q2⟩:=ait.c3;obtain⟨a9,c9,nK,Gj,ht9⟩:=aii.tbl (Fi _ _) (Fj _ _);simp only[Value.slice.injEq,true_and]at nK;obtain⟨rfl,rfl⟩:=nK;exact bodyPost_ret (v:=.tuple #[bL (G*X),.slice (some ⟨go,0,none⟩) k cv,.int .i64 0]) (by simp[results,Tryz.results55,go_sem,q0,q1,q2]) rfl ⟨_,_,rfl,Gj,ht9,ahH⟩
theorem aiY (a:Option Addr)(L cap:Nat)(rows:List (List Raw))(B:Nat)(c:Int)(w:World)(hL:rows.length=L)(ov:L<=5)(hcap:L<=cap)(ha:bj w a rows)(hfit:∀r∈rows,∀c∈r,Fit B c)(hB:B<=900000)(hT:az w)(hc:gM rows=c)(h0:c≠0):
 Calls Tryz.prog 55 #[.slice a L cap] w λe w'=>e=.returned (.tuple #[.agg #[.bool false,.string ⟨#[]⟩,.int .i64 0],.slice none 0 0,.int .i64 c])/\Bw w w':=by
 have fp:=λW (hW:Bw w W)=>Ao a L cap rows B W hL ov hcap (ha.below hW) hfit hB (hT.below hW);rw[hc]at fp;have mn:=ah fp;have hcn:(c !=0)=true:=by simpa using h0
 clear fp hc ha hT hfit hL;have Hb:Hid (Bw w w):=Below.refl _ _;go_enter Tryz.func55,Tryz.ntmps55;go_wp2_with fail;obtain⟨R,hR⟩:∃R:World->Prop,(λW=>ai W (w.heap.size) 30 [.bool false,.string ⟨#[]⟩,.int .i64 0]/\Bw w W)=R:=⟨_,rfl⟩;first|refine bE R ?hR ?_|refine bD R ?hR ?_
 case hR=>subst hR;exact⟨(ai.newAt w _ _ (b:=w.heap.size) rfl),zl⟩
 subst hR;rintro W ⟨qr,ae⟩;have Hr:=ah qr;clear qr;obtain⟨r0,aj,r1,ak,r2,aF⟩:=Hr.out.g3;replace Hb:=au Hb ae;clear ae;go_wp2_with fail;refine(mn.out _ Hb.out).mono ?_;rintro e w1 ⟨rfl,ae⟩;clear r0 aj r1 ak r2 aF;replace Hr:=kB Hr ae;obtain⟨r0,aj,r1,ak,r2,aF⟩:=Hr.out.g3;replace Hb:=au Hb ae;clear ae;go_wp2;clear r0 aj r1 ak r2 aF;refine fR (bG w1 (w.heap.size) 0 [.bool false,.string ⟨#[]⟩,.int .i64 0]) bP ?_;intro w9 hs;replace Hr:=cp Hr hs;obtain⟨r0,aj,r1,ak,r2,aF⟩:=Hr.out.g3;replace Hb:=bS Hb hs ZS;clear hs;refine bodyPost_ret (v:=.tuple #[.agg #[.bool false,.string ⟨#[]⟩,.int .i64 0],.slice none 0 0,.int .i64 c]) (by simp[results,Tryz.results55,go_sem,r0,r1,r2]) rfl ⟨rfl,Hb.out⟩
def gP (xs:List Raw):Nat->Dyadic:=λb=>(xs.map aC).getD b 0
theorem Ee (xs:List Raw)(k:Nat)(h:k<xs.length):gP xs k=aC xs[k]:=by unfold gP;simp[List.getD_eq_getElem?_getD,h]
def oV (n:Nat)(p:Nat->Nat->Dyadic)(x:Nat->Dyadic)(i:Nat):List Dyadic:=wZ n p x i::(List.range i).map λa=>gb n p x (a+1)
def gF (n:Nat)(p:Nat->Nat->Dyadic)(x:Nat->Dyadic):List Dyadic:=(List.range (n+1)).map λk=>gb n p x k
theorem ak3 (n:Nat)(p:Nat->Nat->Dyadic)(x:Nat->Dyadic)(i:Nat):(oV n p x i).length=i+1:=by simp[oV]
theorem ak4 (n:Nat)(p:Nat->Nat->Dyadic)(x:Nat->Dyadic)(i:Nat):(oV n p x i++[gb n p x (i+1)]).set 0 (wZ n p x i-gb n p x (i+1))=oV n p x (i+1):=by unfold oV;rw[List.range_succ,List.map_append];rfl
theorem ak2 (n:Nat)(hn:1<=n)(bz:n<=4)(p:Nat->Nat->Dyadic)(x:Nat->Dyadic):oV n p x n=gF n p x:=by unfold oV gF;rw[Pn n hn bz,List.range_succ_eq_map,List.map_cons,List.map_map];rfl
theorem Yy {w:World}{b base n:Nat}{e:TypeId}{size:Nat}{xs:List Value}(h:ai w b e xs)(hb:base<=b)(hl:xs.length=n*size)(hn:n<=1048576):w.ownsRow base e size (.slice (some ⟨b,0,none⟩) n n) n xs:=
 ⟨hl,.inr ⟨b,n,xs.toArray,rfl,hb,h,Nat.le_refl _,by unfold maxLen;omega,by simpa using hl,by rw[<-hl];simp⟩⟩
theorem bj.arT {w:World}{a:Option Addr}{T:List (List Dyadic)}{n:Nat}(h:bj w a (T.map λr=>r.map canon))(hl:T.length=n)(hr:∀r∈T,r.length=n)(k i:Nat)(hk:k<n)(hi:i<n):
 ∃b o br os cr,a=some ⟨b,o,none⟩/\w.cell? ⟨b,o+k,none⟩=some (.slice (some ⟨br,os,none⟩) n cr)/\aY w br (os+i*3) [.bool (ar (dN (bZ T k i))),.string (bs (nt (dN (bZ T k i)).natAbs)),.int .i64 (dE (bZ T k i))]:=by
 have Gy:k<T.length:=by omega
 obtain⟨b,o,a',c',h1,h2,h3⟩:=h.row k (by simpa using Gy);have e1:(T.map λr=>r.map canon)[k]'(by simpa using Gy)=T[k].map canon:=by simp
 have hlk:=hr _ (List.getElem_mem Gy);rw[e1]at h2 h3;rw[List.length_map,hlk]at h2;have hik:i<T[k].length:=by omega
 have e2:bZ T k i=T[k][i]:=by unfold bZ;simp[List.getD_eq_getElem?_getD,Gy,hik]
 obtain⟨br,os,e3,q0,q1,q2⟩:=h3.num i (by simpa using hik) (show(T[k].map canon)[i]'(by simpa using hik)=(ar (dN (bZ T k i)),nt (dN (bZ T k i)).natAbs,dE (bZ T k i))by rw[e2];simp;rfl);subst e3;exact⟨b,o,br,os,c',h1,h2,ib q0 q1 q2⟩
def EZ (w:World)(n:Nat)(p:Nat->Nat->Dyadic)(x:Nat->Dyadic)(e:Ending)(w':World):Prop:=
 ∃a' c',e=.returned (.tuple #[.slice a' (n+1) c',.int .i64 0])/\n+1<=c'/\At w' a' (dC (gF n p x))/\Bw w w'
theorem IE (a:Option Addr)(cap m:Nat)(rows:List (List Raw))(B:Nat)(xa:Option Addr)(xc:Nat)(xs:List Raw)(w:World)(hm:m+1<=4)(hr:Rw (m+1) B rows)(hcap:m+1+1<=cap)(ha:bj w a rows)(hx:At w xa (xs.flatMap bA))(hxl:xs.length=m+1)(ve:∀x∈xs,Fit B x)(hB:B<=200000)(hT:az w)(h0:gM rows=0):
 Calls Tryz.prog 22 #[.slice a (m+1+1) cap,.slice xa (m+1) xc] w (EZ w (m+1) (cV rows) (gP xs)):=by
 obtain⟨n,hn⟩:=aB (m+1);obtain⟨i0,hi,hz0,hz1,hz2⟩:=info_parts Tryz.arH;have hL:=hr.1;have hrow:=hr.2.1;have hfit:=hr.2.2;have fy:=λW (hW:Bw w W)=>Nt a cap m rows B W hm hr hcap (ha.below hW) hB (hT.below hW) h0;have oH:=λW (hW:Bw w W)=>Ar a (m+1+1) cap rows W hL zo (ha.below hW);rw[DY hL hrow zo zo]at oH;have hps:∀a b,a<=m+1->b<m+1->Sm B (cV rows a b):=λa b ha hb=>by rw[rJ rows a b zo (by rw[hrow _ (List.getElem_mem _)];exact hb)];exact(hfit _ (List.getElem_mem _) _ (List.getElem_mem _)).2
 have zK:∀b,b<m+1->Sm B (gP xs b):=λb hb=>by rw[Ee xs b zo];exact(ve _ (List.getElem_mem _)).2
 have h00:0<rows.length:=by omega
 obtain⟨b,o,a0,c0,hab,hc0,jd⟩:=ha.row 0 h00;have qj:rows[0].length=m+1:=hrow _ (List.getElem_mem h00);have xm:∀x∈rows[0],Fit B x:=hfit _ (List.getElem_mem h00);obtain⟨p0,xk⟩:=aB (rows[0]);rw[xk]at hc0 jd qj xm;have hp0:∀k (h:k<p0.length),cV rows 0 k=aC p0[k]:=λk h=>by subst xk;exact rJ rows 0 k h00 h
 rw[qj,Nat.add_zero]at hc0;subst hab;obtain⟨P,hP⟩:=aB (cV rows);rw[hP]at fy hps hp0⊢;obtain⟨xf,Nl⟩:=aB (gP xs);have hxk:∀k (h:k<xs.length),xf k=aC xs[k]:=λk h=>by rw[<-Nl];exact Ee xs k h
 rw[Nl]at zK⊢;have xw:=λi k (hk:k<=m+1)=>ID zo hm hps zK i k hk;have Nh:=λk (hk:k<=m+1)=>Pm zo hm hps zK k hk;have nz:=λk i=>BH zo hm hps k i;have hwt:=λi (hi:i<m+1)=>Au (m+1) zo hm P xf i hi;have hend:=ak2 (m+1) zo hm P xf;have oG:=KE (m+1) P;have htl:=Fi (m+1) P;have htr:=Fj (m+1) P;rw[hn]at fy oH hps zK hxl hc0 qj xw Nh nz hwt hend oG htl htr⊢;have bz:n<=4:=by omega
 have eD:1<=n:=by omega
 have xC:b<w.heap.size:=World.block_lt_of_cell? w _ hc0;have xA:=kw (n+1) cap 0 0 (show some (⟨b,o,none⟩:Addr)=some ⟨b,o,none⟩from rfl) zo rfl;rw[Nat.zero_mul,Nat.add_zero]at xA;obtain⟨Hi,cX,cN,cO,gw,BA,HT,Hx,Hxl,Hxf,wA,mB⟩:=gY hi hz0 hz1 hz2 fy oH hT hx hxl ve hxk hps;obtain⟨ads,ug,jp,JV,JU,JS,ET,HwZ,AJ,RJ,dU,Kk⟩:=gY zK hc0 jd qj xm hp0 xw Nh nz hwt hend oG;obtain⟨Bt,lH,Bd⟩:=cK htl htr xA;clear hi hz0 hz1 hz2 fy oH hT hx hxl ve hxk hps zK hc0 jd qj xm hp0 xw Nh nz hwt hend oG htl htr xA hP Nl xk h00 ha hr hL hrow hfit h0 hn;have hnz:((n:Int)==0)=false:=by simp;omega
 have Hb:Hid (Bw w w):=Below.refl _ _;go_enter Tryz.func22,Tryz.ntmps22;go_wp2_with fail;refine(gw.out _ Hb.out).mono ?_;rintro e w1 ⟨a1,c1,rfl,hc1,ht1,ae⟩;have Br:=ah ht1;replace Hb:=au Hb ae;clear ae ht1;obtain⟨dd,hdd⟩:=aB (jm (bT n P) *bT n P);have Hdd:=ah hdd;rw[hdd];clear hdd;obtain⟨W2,lM,ae,Hd⟩:=cL w1 30 [.bool (ar (dN dd)),.string (bs (nt (dN dd).natAbs)),.int .i64 (dE dd)];obtain⟨d0,d1,d2⟩:=Hd.out.c3;replace Hb:=au Hb ae;clear ae;have HA:Hid (bj W2 a1 ((oc n P).map λr=>r.map canon)):=Br.out.below (by first|exact zl| (rw[<-lM];exact zl));clear Br;go_wp2_with fail;refine(BA.out _ Hb.out).mono ?_;rintro e w3 ⟨rfl,ae⟩;clear d0 d1 d2;replace Hd:=kB Hd ae;replace HA:=kL HA ae;obtain⟨d0,d1,d2⟩:=Hd.out.c3;replace Hb:=au Hb ae;clear ae;have Jt:=Hd;have IJ:=HA;have dI:=Hb;have P0:=d0;have P1:=d1;have P2:=d2;have aig:((n:Int) !=(n:Int)+1-1)=false:=by simp
 have XQ:=Hd.out.lt;obtain⟨W4,kj,ae,Hq⟩:=cL w3 30 [.bool (ar (dN dd)),.string (bs (nt (dN dd).natAbs)),.int .i64 (dE dd)];clear d0 d1 d2;replace Hd:=kB Hd ae;replace HA:=kL HA ae;obtain⟨d0,d1,d2⟩:=Hd.out.c3;obtain⟨q0,q1,q2⟩:=Hq.out.c3;replace Hb:=au Hb ae;clear ae;go_wp2_with fail;have hst:W4.ownsRow w3.heap.size 30 3 (.slice (some ⟨w3.heap.size,0,none⟩) 1 1) 1 (dC (oV n P xf 0)):=by
  have e:dC (oV n P xf 0)=[.bool (ar (dN dd)),.string (bs (nt (dN dd).natAbs)),.int .i64 (dE dd)]:=by unfold oV wZ;rw[Hdd.out];rfl
  rw[e];exact Yy Hq.out (Nat.le_refl _) rfl zo
 have bX:=ah hst;have PF:Hid (Bw w3 W4):=by rw[<-kj];exact zl
 clear hst P0 P1 P2 aig hnz;go_loopw[9,39] (λs9 x wr=>∃(i:Nat) (v:Value),i<=n/\x=.int .i64 (i:Int)/\v=s9/\wr.ownsRow w3.heap.size 30 3 v (i+1) (dC (oV n P xf i))/\Bw w3 wr) (λ_ x _=>n-(intOf x).toNat);case atStart=>exact⟨0,_,Nat.zero_le _,rfl,rfl,bX.out,PF.out⟩
 case round=>
  clear bX PF d0 d1 d2 q0 q1 q2 Hd Hq HA Hb;obtain⟨i,v,hi,rfl,rfl,ho,pb⟩:=hrel;by_cases hlt:i<n
  . obtain⟨wo,hwo⟩:∃wo,wo=wr:=⟨_,rfl⟩;subst hwo;have hvl:=ho.lt;obtain⟨Ho,aQ⟩:=aL ho pb;have iG:=pb.size;have Am:=dI.out.size;clear ho pb;have Hb:Hid (Bw wo wo):=Below.refl _ _;have rc:decide ((i:Int)<(n:Int))=true:=by simp;omega
    obtain⟨W5,zh,ae,Hy⟩:=cL wo 30 [.bool false,.string ⟨#[]⟩,.int .i64 0];obtain⟨y0,aO,y1,aP,y2,aR⟩:=Hy.out.g3;replace Hb:=au Hb ae;clear ae;have BC:=Hy;have fq:=Hb;go_wp2_with fail;clear rc y0 aO y1 aP y2 aR Hy Hb;go_loopw[45] (λx wr=>∃k:Nat,k<=n/\x=.int .i64 (k:Int)/\ai wr wo.heap.size 30 [.bool (ar (dN (wS n P xf i k))),.string (bs (nt (dN (wS n P xf i k)).natAbs)),.int .i64 (dE (wS n P xf i k))]/\Bw wo wr) (λx _=>n-(intOf x).toNat);case atStart=>exact⟨0,Nat.zero_le _,rfl,((BC.out.set 0 _).set 1 _).set 2 _,((fq.out.setCell (Nat.le_refl _) _).setCell (Nat.le_refl _) _).setCell (Nat.le_refl _) _⟩
    case round=>
     clear BC fq;obtain⟨k,hk,rfl,hy,qb⟩:=hrel;by_cases aW:k<n
     . have Mk:=aJ aQ.out qb;have uH:=aJ dI.out Mk;have wW:k<xs.length:=by rw[Hxl.out];exact aW
       have mM:k<p0.length:=by rw[JV.out];exact aW
       obtain⟨sx,mx,ex,jy⟩:=ki (xs[k]);obtain⟨sp,mp,ep,hpe⟩:=ki (p0[k]);have dc:=Hxf.out _ (List.getElem_mem wW);have eZ:=JU.out _ (List.getElem_mem mM);rw[jy]at dc;rw[hpe]at eZ;obtain⟨bx,ox,uB,x0,x1,x2⟩:=(Hx.out.below uH).num k wW jy;obtain⟨bp,op,Cr,p1,p2,p3⟩:=(jp.out.below uH).num k mM hpe;obtain⟨ba,oa,bq,oq,cq,Cq,Cy,hq⟩:=(IJ.out.below Mk).arT Bt.out lH.out k i aW hlt;rw[Kk.out k i aW hlt]at hq;have GZ:bx<w.heap.size:=by subst uB;exact Hx.out.lt (by intro h0;have:=congrArg List.length h0;rw[iI bA 3 (λ_=>rfl)]at this;simp at this;omega)
       obtain⟨D,hD⟩:=aB (aC (sx,mx,ex)-aC (sp,mp,ep));have Lz:xf k-P 0 k=D:=by rw[wA.out k wW,JS.out k mM,jy,hpe];exact hD
       obtain⟨Q,hQ⟩:=aB (iY n P k i);obtain⟨Z,hZ⟩:=aB (D*Q);obtain⟨S0,ny⟩:=aB (wS n P xf i k);obtain⟨S1,hS1⟩:=aB (wS n P xf i (k+1));have Cj:S0+Z=S1:=by rw[<-hS1,<-hZ,<-Lz,<-hQ,<-ny];rfl
       have jc:Sm (B+1) D:=by rw[<-Lz];exact Sm.sub (ads.out k aW) (mB.out 0 k zo aW)
       have sK:=AJ.out k i;rw[hQ]at sK hq;have wP:=ET.out i k zo;rw[ny]at wP hy;have Co:Sm (5*B+12) Z:=by rw[<-hZ];exact(Sm.mul jc sK).mono zo
       have EE:Hid (Fit (4*B+11) (canon D)):=(jc.mono zo).fit zo;have AV:Hid (Fit (4*B+11) (canon Q)):=sK.fit zo;have AW:Hid (Fit (5*B+16) (canon S0)):=(wP.mono zo).fit zo;have uh:Hid (Fit (5*B+16) (canon Z)):=(Co.mono zo).fit zo;have HZ:Hid (aC (canon D) *aC (canon Q)=Z):=by show _=_;rw[bK,bK];exact hZ
       have IY:Hid (aC (canon S0)+aC (canon Z)=S1):=by show _=_;rw[bK,bK];exact Cj
       have Xw:=lT n xc k (k:Int) uB aW rfl;have ixp:=lT n c0 k (k:Int) Cr aW rfl;have Nv:=xx n c1 k (k:Int) Cq aW rfl;rw[Nat.mul_one]at Nv;have ixq:=iN n cq i (i:Int) (rfl:(some ⟨bq,oq,none⟩:Option Addr)=_) hlt rfl;have zM:=Bd.out;obtain⟨LS,HD,fI,mo,AH⟩:=fO hS1 hD dc eZ (HT.out.below uH);have Hy:Hid (ai wr wo.heap.size 30 [.bool (ar (dN S0)),.string (bs (nt (dN S0).natAbs)),.int .i64 (dE S0)]):=hy;have iT:Hid (aY wr bx (ox+k*3) [.bool sx,.string (bs mx),.int .i64 ex]):=ib x0 x1 x2;have Hp:Hid (aY wr bp (op+k*3) [.bool sp,.string (bs mp),.int .i64 ep]):=ib p1 p2 p3;have Hs:Hid (aY wr b o [.slice a0 n c0]):=λj hj=>by
        obtain rfl:j=0:=by simp at hj;omega
        exact cell_later uH ug.out
       have Hr:Hid (aY wr ba (oa+k) [.slice (some ⟨bq,oq,none⟩) n cq]):=λj hj=>by
        obtain rfl:j=0:=by simp at hj;omega
        exact Cy
       have Hq:Hid (aY wr bq (oq+i*3) [.bool (ar (dN Q)),.string (bs (nt (dN Q).natAbs)),.int .i64 (dE Q)]):=hq;have iR:=ah qb;have OY:=qb.size;have CZ:=Hy.out.lt;clear x0 x1 x2 p1 p2 p3 Cy hq hy jy hpe dc eZ uB Cr Cq hD Lz hQ hZ ny hS1 Cj jc sK wP Co qb Mk uH;have Hb:Hid (Bw wr wr):=Below.refl _ _;go_wp2_with fail;obtain⟨y0,aO,y1,aP,y2,aR⟩:=Hy.out.g3;obtain⟨gQ,gS,gT⟩:=iT.out.w3;obtain⟨p0,p1,p2⟩:=Hp.out.w3;have s0:=Hs.out.w1;have r0:=Hr.out.w1;obtain⟨q0,q1,q2⟩:=Hq.out.w3;have HU:Hid (az wr):=AH.out;refine bC (λw'=>w'.cell? ⟨wo.heap.size,0,none⟩=some (.bool (ar (dN S0)))/\w'.cell? ⟨wo.heap.size,1,none⟩=some (.string (bs (nt (dN S0).natAbs)))/\w'.cell? ⟨wo.heap.size,2,none⟩=some (.int .i64 (dE S0))/\w'.cell? ⟨bx,ox+k*3,none⟩=some (.bool sx)/\w'.cell? ⟨bx,ox+k*3+1,none⟩=some (.string (bs mx))/\w'.cell? ⟨bx,ox+k*3+2,none⟩=some (.int .i64 ex)/\w'.cell? ⟨bp,op+k*3,none⟩=some (.bool sp)/\w'.cell? ⟨bp,op+k*3+1,none⟩=some (.string (bs mp))/\w'.cell? ⟨bp,op+k*3+2,none⟩=some (.int .i64 ep)/\w'.cell? ⟨b,o,none⟩=some (.slice a0 n c0)/\w'.cell? ⟨ba,oa+k,none⟩=some (.slice (some ⟨bq,oq,none⟩) n cq)/\w'.cell? ⟨bq,oq+i*3,none⟩=some (.bool (ar (dN Q)))/\w'.cell? ⟨bq,oq+i*3+1,none⟩=some (.string (bs (nt (dN Q).natAbs)))/\w'.cell? ⟨bq,oq+i*3+2,none⟩=some (.int .i64 (dE Q))) (λi=>Nat.blt i 23) [(0,true),(1,true),(2,true),(3,true),(4,true),(5,true),(6,true),(7,true),(8,true),(9,true),(10,true),(12,true),(13,true),(14,true),(15,true),(16,true),(17,true),(18,true),(11,false),(19,false),(20,false),(21,false),(22,false),(23,false)] zk zk rfl zk zc ⟨y0,y1,y2,gQ,gS,gT,p0,p1,p2,s0,r0,q0,q1,q2⟩ ?_;iterate 18 (refine pT rfl rfl ?_ (by intro w' ⟨q0,q1,q2,q3,q4,q5,q6,q7,q8,q9,vF,Af,Ag,Ah⟩;go_simp;try with_reducible rfl);try simp only[UU])
       refine aI rfl rfl (λK hK=>?_);go_simp;with_reducible refine(yO sx mx ex sp mp ep D B HD.out _ fI.out mo.out zo (by first|exact HU.out|exact az.drew HU.out|exact az.alloc HU.out _|exact az.drew (az.alloc HU.out _) |exact az.alloc (az.drew HU.out) _)).mono ?_
       rintro e w6 ⟨rfl,hq⟩;have ae:Bw wr w6:=by first|exact hq|exact aN hq
       clear y0 aO y1 aP y2 aR gQ gS gT p0 p1 p2 s0 r0 q0 q1 q2;replace Hy:=kB Hy ae;replace iT:=kW iT ae;replace Hp:=kW Hp ae;replace Hs:=kW Hs ae;replace Hr:=kW Hr ae;replace Hq:=kW Hq ae;replace HU:=kT HU ae;obtain⟨y0,aO,y1,aP,y2,aR⟩:=Hy.out.g3;obtain⟨gQ,gS,gT⟩:=iT.out.w3;obtain⟨p0,p1,p2⟩:=Hp.out.w3;have s0:=Hs.out.w1;have r0:=Hr.out.w1;obtain⟨q0,q1,q2⟩:=Hq.out.w3;replace Hb:=au Hb ae;clear ae;refine hK _ _ (λ_=>⟨y0,y1,y2,gQ,gS,gT,p0,p1,p2,s0,r0,q0,q1,q2⟩) ?_;clear hK K;try simp only[UU]
       refine aI rfl rfl (λK hK=>?_);go_simp;refine hK _ _ (λ_=>⟨aG y0,aG y1,aG y2,aG gQ,aG gS,aG gT,aG p0,aG p1,aG p2,aG s0,aG r0,aG q0,aG q1,aG q2⟩) ?_;clear hK K;try simp only[UU]
       refine bF (λW7=>ai W7 (w6.heap.size) 30 [.bool (ar (dN D)),.string (bs (nt (dN D).natAbs)),.int .i64 (dE D),.bool (ar (dN Q)),.string (bs (nt (dN Q).natAbs)),.int .i64 (dE Q)]/\Bw w6 W7) (by first|exact dL|exact dM) ?_;rintro W7 ⟨qe,ae⟩;clear y0 aO y1 aP y2 aR gQ gS gT p0 p1 p2 s0 r0 q0 q1 q2;have aqY:=Hy.out.lt;replace Hy:=kB Hy ae;replace iT:=kW iT ae;replace Hp:=kW Hp ae;replace Hs:=kW Hs ae;replace Hr:=kW Hr ae;replace Hq:=kW Hq ae;replace HU:=kT HU ae;have He:=ah qe;clear qe;obtain⟨y0,aO,y1,aP,y2,aR⟩:=Hy.out.g3;obtain⟨gQ,gS,gT⟩:=iT.out.w3;obtain⟨p0,p1,p2⟩:=Hp.out.w3;have s0:=Hs.out.w1;have r0:=Hr.out.w1;obtain⟨q0,q1,q2⟩:=Hq.out.w3;obtain⟨e0,e1,e2,e3,e4,e5⟩:=He.out.c6;replace Hb:=au Hb ae;clear ae;refine aI rfl rfl (λK hK=>?_);go_simp;with_reducible refine(sF _ _ _ _ _ _ Z (4*B+11) HZ.out w6.heap.size _ 30 _ EE.out AV.out zo He.out (by first|exact HU.out|exact az.drew HU.out|exact az.alloc HU.out _|exact az.drew (az.alloc HU.out _) |exact az.alloc (az.drew HU.out) _)).mono ?_
       rintro e w8 ⟨rfl,hq⟩;have ae:Bw W7 w8:=by first|exact hq|exact aN hq
       clear y0 aO y1 aP y2 aR gQ gS gT p0 p1 p2 s0 r0 q0 q1 q2 e0 e1 e2 e3 e4 e5;replace Hy:=kB Hy ae;replace iT:=kW iT ae;replace Hp:=kW Hp ae;replace Hs:=kW Hs ae;replace Hr:=kW Hr ae;replace Hq:=kW Hq ae;replace HU:=kT HU ae;replace He:=kB He ae;obtain⟨y0,aO,y1,aP,y2,aR⟩:=Hy.out.g3;obtain⟨gQ,gS,gT⟩:=iT.out.w3;obtain⟨p0,p1,p2⟩:=Hp.out.w3;have s0:=Hs.out.w1;have r0:=Hr.out.w1;obtain⟨q0,q1,q2⟩:=Hq.out.w3;obtain⟨e0,e1,e2,e3,e4,e5⟩:=He.out.c6;replace Hb:=au Hb ae;clear ae;refine hK _ _ (λ_=>⟨y0,y1,y2,gQ,gS,gT,p0,p1,p2,s0,r0,q0,q1,q2⟩) ?_;clear hK K;try simp only[UU]
       refine aI rfl rfl (λK hK=>?_);go_simp;refine hK _ _ (λ_=>⟨aG y0,aG y1,aG y2,aG gQ,aG gS,aG gT,aG p0,aG p1,aG p2,aG s0,aG r0,aG q0,aG q1,aG q2⟩) ?_;clear hK K;try simp only[UU]
       refine bF (λW9=>ai W9 (w8.heap.size) 30 [.bool (ar (dN S0)),.string (bs (nt (dN S0).natAbs)),.int .i64 (dE S0),.bool (ar (dN Z)),.string (bs (nt (dN Z).natAbs)),.int .i64 (dE Z)]/\Bw w8 W9) (by first|exact dL|exact dM) ?_;rintro W9 ⟨qf,ae⟩;clear y0 aO y1 aP y2 aR gQ gS gT p0 p1 p2 s0 r0 q0 q1 q2 e0 e1 e2 e3 e4 e5;have aj1:=Hy.out.lt;have aqj:=He.out.lt;replace Hy:=kB Hy ae;replace iT:=kW iT ae;replace Hp:=kW Hp ae;replace Hs:=kW Hs ae;replace Hr:=kW Hr ae;replace Hq:=kW Hq ae;replace HU:=kT HU ae;replace He:=kB He ae;have Hf:=ah qf;clear qf;obtain⟨y0,aO,y1,aP,y2,aR⟩:=Hy.out.g3;obtain⟨gQ,gS,gT⟩:=iT.out.w3;obtain⟨p0,p1,p2⟩:=Hp.out.w3;have s0:=Hs.out.w1;have r0:=Hr.out.w1;obtain⟨q0,q1,q2⟩:=Hq.out.w3;obtain⟨e0,e1,e2,e3,e4,e5⟩:=He.out.c6;obtain⟨f0,f1,f2,f3,f4,f5⟩:=Hf.out.c6;replace Hb:=au Hb ae;clear ae;refine aI rfl rfl (λK hK=>?_);go_simp;with_reducible refine(wH _ _ _ _ _ _ S1 (5*B+16) IY.out w8.heap.size _ 30 _ AW.out uh.out zo Hf.out (by first|exact HU.out|exact az.drew HU.out|exact az.alloc HU.out _|exact az.drew (az.alloc HU.out _) |exact az.alloc (az.drew HU.out) _)).mono ?_
       rintro e eW ⟨rfl,hq⟩;have ae:Bw W9 eW:=by first|exact hq|exact aN hq
       clear y0 aO y1 aP y2 aR gQ gS gT p0 p1 p2 s0 r0 q0 q1 q2 e0 e1 e2 e3 e4 e5 f0 f1 f2 f3 f4 f5;replace Hy:=kB Hy ae;replace iT:=kW iT ae;replace Hp:=kW Hp ae;replace Hs:=kW Hs ae;replace Hr:=kW Hr ae;replace Hq:=kW Hq ae;replace HU:=kT HU ae;replace He:=kB He ae;replace Hf:=kB Hf ae;obtain⟨y0,aO,y1,aP,y2,aR⟩:=Hy.out.g3;obtain⟨gQ,gS,gT⟩:=iT.out.w3;obtain⟨p0,p1,p2⟩:=Hp.out.w3;have s0:=Hs.out.w1;have r0:=Hr.out.w1;obtain⟨q0,q1,q2⟩:=Hq.out.w3;obtain⟨e0,e1,e2,e3,e4,e5⟩:=He.out.c6;obtain⟨f0,f1,f2,f3,f4,f5⟩:=Hf.out.c6;replace Hb:=au Hb ae;clear ae;refine hK _ _ (λ_=>⟨y0,y1,y2,gQ,gS,gT,p0,p1,p2,s0,r0,q0,q1,q2⟩) ?_;clear hK K;try simp only[UU]
       refine aI rfl rfl (λK hK=>?_);go_simp;refine hK _ _ (by first|exact λh=>absurd h zd|exact λ_=>⟨y0,y1,y2,gQ,gS,gT,p0,p1,p2,s0,r0,q0,q1,q2⟩ |exact λ_=>⟨(by first|exact y0|exact aH zf y0|exact aH zf (aH zf y0) |exact aH zf (aH zf (aH zf y0))),(by first|exact y1|exact aH zf y1|exact aH zf (aH zf y1) |exact aH zf (aH zf (aH zf y1))),(by first|exact y2|exact aH zf y2|exact aH zf (aH zf y2) |exact aH zf (aH zf (aH zf y2))),(by first|exact gQ|exact aH zf gQ|exact aH zf (aH zf gQ) |exact aH zf (aH zf (aH zf gQ))),(by first|exact gS|exact aH zf gS|exact aH zf (aH zf gS) |exact aH zf (aH zf (aH zf gS))),(by first|exact gT|exact aH zf gT|exact aH zf (aH zf gT) |exact aH zf (aH zf (aH zf gT))),(by first|exact p0|exact aH zf p0|exact aH zf (aH zf p0) |exact aH zf (aH zf (aH zf p0))),(by first|exact p1|exact aH zf p1|exact aH zf (aH zf p1) |exact aH zf (aH zf (aH zf p1))),(by first|exact p2|exact aH zf p2|exact aH zf (aH zf p2) |exact aH zf (aH zf (aH zf p2))),(by first|exact s0|exact aH zf s0|exact aH zf (aH zf s0) |exact aH zf (aH zf (aH zf s0))),(by first|exact r0|exact aH zf r0|exact aH zf (aH zf r0) |exact aH zf (aH zf (aH zf r0))),(by first|exact q0|exact aH zf q0|exact aH zf (aH zf q0) |exact aH zf (aH zf (aH zf q0))),(by first|exact q1|exact aH zf q1|exact aH zf (aH zf q1) |exact aH zf (aH zf (aH zf q1))),(by first|exact q2|exact aH zf q2|exact aH zf (aH zf q2) |exact aH zf (aH zf (aH zf q2)))⟩) ?_;clear hK K;try simp only[UU]
       simp only[aS];have UX:=aJ iR.out Hb.out;have vT:=ah UX;clear UX;go_wp2;refine⟨⟨k+1,by omega,by go_num,?_,?_⟩,by simp[intOf];omega⟩
       . rw[LS.out];exact((Hy.out.set 0 _).set 1 _).set 2 _
       . exact((vT.out.setCell (Nat.le_refl _) _).setCell (Nat.le_refl _) _).setCell (Nat.le_refl _) _
     . obtain rfl:k=n:=by omega
       rw[RJ.out i hlt]at hy;obtain⟨T,hTe⟩:=aB (gb k P xf (i+1));have hTs:=ET.out i k (Nat.le_refl _);rw[RJ.out i hlt,hTe]at hTs;rw[hTe]at hy;obtain⟨Y,hY⟩:=aB (wZ k P xf i-T);have hnx:=ak4 k P xf i;rw[hTe,hY]at hnx;have AX:Hid (Fit (5*B+20) (canon T)):=(hTs.mono zo).fit zo;have uh:Hid (Fit (5*B+20) (canon (wZ k P xf i))):=((HwZ.out i zo).mono zo).fit zo;have HY:Hid (aC (canon (wZ k P xf i))-aC (canon T)=Y):=by show _=_;rw[bK,bK];exact hY
       obtain⟨O,hO⟩:=aB (oV k P xf i);obtain⟨W0,hW0⟩:=aB (wZ k P xf i);have Ud:∃O',O=W0::O':=⟨_,by rw[<-hO,<-hW0];rfl⟩;rw[hO]at hnx;have hov:=ownsRow_below Ho.out qb;rw[hO]at hov;rw[hW0]at uh HY;replace HY:Hid (aC (ar (dN W0),nt (dN W0).natAbs,dE W0)-aC (ar (dN T),nt (dN T).natAbs,dE T)=Y):=by show _=_;have h:=HY.out;exact h
       replace uh:Hid (Fit (5*B+20) (ar (dN W0),nt (dN W0).natAbs,dE W0)):=uh;replace AX:Hid (Fit (5*B+20) (ar (dN T),nt (dN T).natAbs,dE T)):=AX;have Uf:O.length=i+1:=by rw[<-hO];exact ak3 _ _ _ _
       have Hy:Hid (ai wr wo.heap.size 30 [.bool (ar (dN T)),.string (bs (nt (dN T).natAbs)),.int .i64 (dE T)]):=hy;obtain⟨cH,iR,pk,HO0,HOl,AH⟩:=iz hov qb hnx Ud Uf (HT.out.below (aJ dI.out (aJ aQ.out qb)));have OY:=qb.size;have hvb:∀g,v.ownBlock=some g->g<wo.heap.size:=λg e=>(hvl g e).2;clear hy hov qb hnx Ud Uf hTs hTe hY hO hW0 Ho hvl;have Hb:Hid (Bw wr wr):=Below.refl _ _;have CZ:=Hy.out.lt;obtain⟨y0,y1,y2⟩:=Hy.out.c3;have P0:=y0;have P1:=y1;have P2:=y2;have aj0:=Hy.out.lt;obtain⟨W6,sM,ae,Hc⟩:=cL wr 30 [.bool (ar (dN T)),.string (bs (nt (dN T).natAbs)),.int .i64 (dE T)];clear y0 y1 y2;replace Hy:=kB Hy ae;obtain⟨y0,y1,y2⟩:=Hy.out.c3;obtain⟨c0,c1,c2⟩:=Hc.out.c3;replace Hb:=au Hb ae;clear ae;have dh:=ownsRow_below cH.out Hb.out;have jf:=Hb.out.size;go_wp2_with (at_builtin;refine wpList_append_own_at _ rfl _ _ 45 rfl w3.heap.size 30 i0 _ 3 32 Tryz.underlying45 Hi.out cX.out cN.out cO.out rfl zd v (i+1) (dC O) rfl dh ⟨wr.heap.size,0,none⟩ 1 1 [.bool (ar (dN T)),.string (bs (nt (dN T).natAbs)),.int .i64 (dE T)] rfl rfl (gW Hc.out) zy zx zo zo ?_;intro v' w7 eJ fN _ fU;obtain⟨g',oh,rfl⟩:=ownsRow_succ eJ);have ahY:g'≠wo.heap.size:=by
        rcases fU with h|h
        . have:=hvb g' h.symm;omega
        . have h9:g'=W6.heap.size:=Option.some.inj h;omega
       have uY:some wo.heap.size≠v.ownBlock:=λe=>by have:=hvb _ e.symm;omega
       have CY:=Hy.out.grown fN uY;have je:=(aJ (aJ aQ.out iR.out) Hb.out).grown fN zo (λj e=>dt dh j e);have e7:dC O++[.bool (ar (dN T)),.string (bs (nt (dN T).natAbs)),.int .i64 (dE T)]=dC (O++[T]):=by rw[wI];rfl
       rw[e7]at eJ
       have hwo:=(by
        obtain⟨O',hO'⟩:=HO0.out;obtain⟨aa,ca,nK,uC,_⟩:=dS eJ;simp only[Value.slice.injEq,true_and]at nK;obtain⟨rfl,rfl⟩:=nK;rw[ol]at uC;obtain⟨b9,o9,e9,z0,z1,z2⟩:=uC.num 0 zm (show((O++[T]).map canon)[0]'zm=(ar (dN W0),nt (dN W0).natAbs,dE W0)by simp[hO'];rfl);simp only[Option.some.injEq,Addr.mk.injEq,and_true]at e9;obtain⟨rfl,rfl⟩:=e9;rw[Nat.zero_mul,Nat.zero_add]at z0 z1 z2
        exact ib z0 z1 z2:aY w7 g' 0 [.bool (ar (dN W0)),.string (bs (nt (dN W0).natAbs)),.int .i64 (dE W0)])
       have Ms:=xQ eJ;obtain⟨Bh,rS⟩:=aL eJ je;have Ho:Hid (aY w7 g' 0 [.bool (ar (dN W0)),.string (bs (nt (dN W0).natAbs)),.int .i64 (dE W0)]):=hwo;have Jc:=ah (HT.out.below (aJ dI.out je));replace Hy:Hid (ai w7 wo.heap.size 30 [.bool (ar (dN T)),.string (bs (nt (dN T).natAbs)),.int .i64 (dE T)]):=CY;clear P0 P1 P2 y0 y1 y2 c0 c1 c2 eJ je hwo CY fU uY e7 Hb Hc dh fN cH AH;have Hb:Hid (Bw w7 w7):=Below.refl _ _;have Nw:=iN (i+1+1) oh 0 0 (rfl:(some ⟨g',0,none⟩:Option Addr)=_) zo rfl;rw[Nat.zero_mul,Nat.add_zero]at Nw;have o0:w7.cell? ⟨g',0,none⟩=some (.bool (ar (dN W0))):=Ho.out.cell 0 zm;have o1:w7.cell? ⟨g',1,none⟩=some (.string (bs (nt (dN W0).natAbs))):=Ho.out.cell 1 zm;have o2:w7.cell? ⟨g',2,none⟩=some (.int .i64 (dE W0)):=Ho.out.cell 2 zm;obtain⟨y0,y1,y2⟩:=Hy.out.c3;have HU:Hid (az w7):=Jc.out;refine bC (λw'=>w'.cell? ⟨g',0,none⟩=some (.bool (ar (dN W0)))/\w'.cell? ⟨g',1,none⟩=some (.string (bs (nt (dN W0).natAbs)))/\w'.cell? ⟨g',2,none⟩=some (.int .i64 (dE W0))/\w'.cell? ⟨wo.heap.size,0,none⟩=some (.bool (ar (dN T)))/\w'.cell? ⟨wo.heap.size,1,none⟩=some (.string (bs (nt (dN T).natAbs)))/\w'.cell? ⟨wo.heap.size,2,none⟩=some (.int .i64 (dE T))) (λi=>Nat.blt i 7) [(0,true),(1,true),(2,true),(3,true),(4,true),(5,false),(6,true),(7,false)] zk zk rfl zk zc ⟨o0,o1,o2,y0,y1,y2⟩ ?_;iterate 5 (refine pT rfl rfl ?_ (by intro w' ⟨q0,q1,q2,q3,q4,q5⟩;go_simp;try with_reducible rfl);try simp only[UU])
       refine aI rfl rfl (λK hK=>?_);go_simp;with_reducible refine(yO (ar (dN W0)) (nt (dN W0).natAbs) (dE W0) (ar (dN T)) (nt (dN T).natAbs) (dE T) Y (5*B+20) HY.out _ uh.out AX.out zo (by first|exact HU.out|exact az.drew HU.out|exact az.alloc HU.out _|exact az.drew (az.alloc HU.out _) |exact az.alloc (az.drew HU.out) _)).mono ?_
       rintro e w8 ⟨rfl,hq⟩;have ae:Bw w7 w8:=by first|exact hq|exact aN hq
       clear o0 o1 o2 y0 y1 y2;replace Ho:=kW Ho ae;replace Hy:=kB Hy ae;replace HU:=kT HU ae;have o0:w8.cell? ⟨g',0,none⟩=some (.bool (ar (dN W0))):=Ho.out.cell 0 zm;have o1:w8.cell? ⟨g',1,none⟩=some (.string (bs (nt (dN W0).natAbs))):=Ho.out.cell 1 zm;have o2:w8.cell? ⟨g',2,none⟩=some (.int .i64 (dE W0)):=Ho.out.cell 2 zm;obtain⟨y0,y1,y2⟩:=Hy.out.c3;replace Hb:=au Hb ae;clear ae;refine hK _ _ (λ_=>⟨o0,o1,o2,y0,y1,y2⟩) ?_;clear hK K;try simp only[UU]
       refine pT rfl rfl ?_;try simp only[UU]
       refine aI rfl rfl (λK hK=>?_);have dP:=ownsRow_below Bh.out Hb.out;have dD:=lW dP 0;have dm:=lW dP 1;have ey:=lW dP 2;have fu:=aJ rS.out Hb.out;obtain⟨ig,fw⟩:=aL dP fu;clear dP fu;go_simp;refine hK _ _ (λh=>absurd h zd) ?_;clear hK K;try simp only[UU]
       simp only[aS];go_wp2;go_roundw;case rel=>
        refine⟨i+1,_,by omega,by go_num,rfl,?_,?_⟩
        . have h:=SV (O++[T]) 0 Y;rw[pk.out]at h;rw[<-h];exact jz (jz (jz ig.out _ _) _ _) _ _
        . exact((fw.out.setCell Ms.1 _).setCell Ms.1 _).setCell Ms.1 _
       case measure=>simp[intOf];omega
  . obtain rfl:i=n:=by omega
    rw[dU.out]at ho;obtain⟨ho',aQ⟩:=aL ho (aJ dI.out pb);clear ho pb;go_wp2;obtain⟨a',c',e1,h1,h2⟩:=dS ho'.out;subst e1;have hcc:i+1<=c':=by
     rcases ho'.out.2 with⟨h,h0⟩ |⟨g9,ae3,afG,h,_,_,h6,_⟩
     . omega
     . simp only[Value.slice.injEq,true_and]at h;omega
    exact bodyPost_ret (v:=.tuple #[.slice a' (i+1) c',.int .i64 0]) (by simp[results,Tryz.results22,go_sem]) rfl ⟨a',c',rfl,hcc,h1,aQ.out⟩
end Go.Proofs.YtdaadlblknpipaaGreatDoor
