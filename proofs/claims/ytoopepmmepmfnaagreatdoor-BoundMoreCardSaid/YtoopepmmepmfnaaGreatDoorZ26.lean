/- Package slices: Clone,Delete,over numbers. -/
import Derived.Test.YtoopepmmepmfnaaGreatDoorZ13
import Derived.Lib.SliceRun
import Derived.Test.YtoopepmmepmfnaaGreatDoorZ25
import Derived.Test.YtoopepmmepmfnaaGreatDoorZ12
import Derived.Test.YtoopepmmepmfnaaGreatDoorZ14
import Derived.Test.YtoopepmmepmfnaaGreatDoorZ22
set_option linter.unusedVariables false
set_option linter.unusedSimpArgs false
set_option maxRecDepth 100000
set_option maxHeartbeats 16000000
namespace Go.Proofs.YtoopepmmepmfnaaGreatDoor
open Go.RowKit
attribute [local go_sem ↓] Go.wp_at_zero Go.wp_at_succ
theorem adZ (a:Option Addr)(n cap:Nat)(dQ:List Raw)(w:World)(hn:dQ.length=n)(hl:n<=1048576)(hs:a=none->n=0/\cap=0)(ha:At w a (dQ.flatMap bJ)):
 Calls Tryz.prog 209 #[.slice a n cap] w λe w'=>∃v',e=.returned v'/\w'.ownsRow w.heap.size 39 3 v' n (dQ.flatMap bJ)/\Bw w w':=by
 obtain⟨i0,hi,hz0,hz1,hz2⟩:=info_parts Tryz.aqJ;have q:=λ(w:World) (a:Option Addr) (n c n' c':Nat)=>Lib.run_eql_slice_nil (P:=Tryz.prog) w 49 39 a n c n' c' Tryz.underlying49;have hlen:(dQ.flatMap bJ).length=n*3:=by rw[lu bJ 3 (λ_=>rfl),hn]
 obtain⟨cs,hcs⟩:=az (dQ.flatMap bJ);have h1:=FB dQ;rw[hcs]at hlen ha h1⊢;obtain⟨lT,Ha,H1,Hs,Hi,fC,fJ,eF⟩:=mB hlen ha h1 hs hi hz0 hz1 hz2;clear hlen ha h1 hs hi hz0 hz1 hz2 hn hcs;cases a with
 |none=>obtain⟨hn0,hc⟩:=Hs.out rfl;subst hc;subst hn0;go_enter Tryz.func209,Tryz.ntmps209;go_wp2;go_ret;refine⟨_,rfl,?_,Below.refl _ _⟩;have e:cs=[]:=List.eq_nil_of_length_eq_zero (by have:=lT.out;omega);rw[e];exact World.ownsRow_nil _ _ _ _
 |some ad=>go_enter Tryz.func209,Tryz.ntmps209;go_wp2_with (at_builtin;refine YC rfl _ _ 49 rfl w.heap.size 39 i0 _ 3 32 Tryz.underlying49 Hi.out fC.out fJ.out eF.out rfl zd _ 0 [] rfl (World.ownsRow_made w #[] 0 (Nat.le_refl _) (Nat.zero_le _) zm) (some ad) n cap cs rfl Hs.out lT.out (Ha.out.below ((Below.refl _ w).alloc (Nat.le_refl _) _)) H1.out zx zo zm ?_;intro v' w1 hown hgrow jU);go_ret;refine⟨v',rfl,by simpa using hown,?_⟩;exact((Below.refl _ w).alloc (Nat.le_refl _) _).grown hgrow zm (λk hk=>by have h9:w.heap.size=k:=Option.some.inj hk;omega)
theorem Tryz.aqR (w:World):(zeroValue 39).run Tryz.prog w=.ok (.agg #[.bool false,.string ⟨#[]⟩,.int .i64 0]) w:=by kernel_rfl
theorem ae3 {α:Type}(f:α->List Value)(sz:Nat)(hf:∀x,(f x).length=sz)(xs:List α)(i:Nat)(hi:i<xs.length):(xs.eraseIdx i).flatMap f=(xs.flatMap f).take (i*sz)++(xs.flatMap f).drop ((i+1) *sz):=by
 have e:xs=xs.take i++xs[i]::xs.drop (i+1):=by rw[List.getElem_cons_drop,List.take_append_drop]
 have hl:((xs.take i).flatMap f).length=i*sz:=by rw[lu f sz hf,List.length_take,Nat.min_eq_left zo]
 have e1:xs.flatMap f=(xs.take i).flatMap f++(f xs[i]++(xs.drop (i+1)).flatMap f):=by
  conv=>lhs;rw[e]
  rw[List.flatMap_append,List.flatMap_cons]
 rw[e1,List.take_left' hl,List.drop_append,hl,List.drop_of_length_le (by rw[hl,Nat.add_mul];omega)];rw[show(i+1) *sz-i*sz=sz by rw[Nat.add_mul,Nat.one_mul];omega,List.nil_append,List.drop_left' (hf _),List.eraseIdx_eq_take_drop_succ,List.flatMap_append]
theorem aew (g m cap i base:Nat)(dQ:List Raw)(w:World)(hn:dQ.length=m+1)(hl:m<=1048576)(hi:i<=m)
 (ho:w.ownsRow base 39 3 (.slice (some ⟨g,0,none⟩) (m+1) cap) (m+1) (dQ.flatMap bJ)):
 Calls Tryz.prog 208 #[.slice (some ⟨g,0,none⟩) (m+1) cap,.int .i64 (i:Int),.int .i64 ((i+1:Nat):Int)] w λe w'=>e=.returned (.slice (some ⟨g,0,none⟩) m cap)/\
  w'.ownsRow base 39 3 (.slice (some ⟨g,0,none⟩) m cap) m ((dQ.eraseIdx i).flatMap bJ)/\w.grownBy w' (some g):=by
 obtain⟨i0,hi0,hz0,hz1,hz2⟩:=info_parts Tryz.aqJ;have hcap:m+1<=cap:=(wD ho).1;have hcm:cap<=9223372036854775807:=by
  rcases ho.2 with⟨h1,_⟩ |⟨g',cap',cur,h1,hb,hg,h4,h5,_⟩
  . simp at h1
  . simp only[Value.slice.injEq]at h1;obtain⟨_,_,rfl⟩:=h1;unfold maxLen at h5;omega
 have Ey:=ae3 bJ 3 (λ_=>rfl) dQ i zo;have hlen:(dQ.flatMap bJ).length=(m+1) *3:=by rw[lu bJ 3 (λ_=>rfl),hn]
 have h1:=FB dQ;obtain⟨cs,hcs⟩:=az (dQ.flatMap bJ);obtain⟨rs,hrs⟩:=az ((dQ.eraseIdx i).flatMap bJ);rw[hcs]at hlen ho h1 Ey;rw[hrs]at Ey⊢;have yf:=WZ ho i zo;obtain⟨ad,had⟩:=az (if cap=i+1 then(⟨g,0,none⟩:Addr)else⟨g,(i+1) *3,none⟩);have hsl:(if cap=i+1 then some (⟨g,0,none⟩:Addr)else some ⟨g,(i+1) *3,none⟩)=some ad:=by rw[<-had];split<;>rfl
 have hnews:Hid (∀j u,(cs.drop ((i+1) *3))[j]?=some u->w.drew.cell? (ad.add j)=some u):=by
  intro j u hj;rw[List.getElem?_drop]at hj;have hlt:=(List.getElem?_eq_some_iff.1 hj).1;have Ep:¬cap=i+1:=by omega
  rw[if_neg Ep]at had;subst had;have e2:((⟨g,(i+1) *3,none⟩:Addr).add j)=⟨g,(i+1) *3+j,none⟩:=by unfold Addr.add;cases j<;>simp
  rw[e2];have:=ho.cells (g:=g) rfl ((i+1) *3+j) u hj;have e3:((⟨g,0,none⟩:Addr).add ((i+1) *3+j))=⟨g,(i+1) *3+j,none⟩:=by unfold Addr.add;split<;>simp;omega
  rw[e3]at this;exact this
 have hnl:Hid ((cs.drop ((i+1) *3)).length=(m-i) *3):=by show _=_;rw[List.length_drop,hlen];omega
 have dY:Hid (∀u∈cs.drop ((i+1) *3),u.oneCell'=true):=λu hu=>h1 u (List.mem_of_mem_drop hu);have PQ:Hid (w.drew.ownsRow base 39 3 (.slice (some ⟨g,0,none⟩) i cap) i (cs.take (i*3))):=yf;obtain⟨aaq,aaZ,IJ,zK,Hi,fJ⟩:=iB Ey hnews.out hnl.out dY.out hi0 hz1;have z:=Tryz.aqR;clear hnews hnl dY ho yf hlen h1 Ey hcs hrs hn hi0 hz0 hz1 hz2;have hw1:IntKind.i64.wrap ((i:Int)+1)=((i+1:Nat):Int):=by rw[IntKind.wrap_i64];omega
 have hne:((i:Int)==((i+1:Nat):Int))=false:=by simp;omega
 have hcm2:¬cap=m:=by omega
 have jz:i+1<=m+1:=by omega
 have hmc:i+1<=cap:=by omega
 have hic:i<=cap:=by omega
 have h0i:(0:Int)<=(i:Int)+1:=by omega
 clear had;go_enter Tryz.func208,Tryz.ntmps208;go_wp2_with fail;have Hb:Hid (Bw w w):=Below.refl _ _;refine cf (λw'=>True) (λi=>Nat.blt i 100000) [(0,true),(1,true),(2,true),(3,true),(4,true),(5,true),(6,false),(7,true)] zk zk rfl zk zc True.intro ?_;iterate 6 (refine pT rfl rfl ?_;try simp only[UU])
 refine aF rfl rfl (λK hK=>?_);refine wp_append_own_spare _ _ _ 49 rfl base 39 i0 3 Tryz.underlying49 Hi.out fJ.out g i cap (cs.take (i*3)) rfl PQ.out ad (m-i) (cap-(i+1)) (cs.drop ((i+1) *3)) rfl IJ.out aaZ.out zK.out zo ?_;intro w1 fu hg1;refine hK _ _ (λ_=>True.intro) ?_;clear hK K;try simp only[UU]
 refine pT rfl rfl ?_;try simp only[Act.put,U1,U2]
 simp only[aN];have e9:i+(m-i)=m:=by omega
 rw[e9,<-aaq.out]at fu;obtain⟨w2,hcl,fw,hg2⟩:=Xt w1 49 39 _ 3 Tryz.underlying49 Tryz.aqR rfl (by intro v hv;simp[Value.cells]at hv;rcases hv with rfl|rfl|rfl<;>rfl) g m 1 cap (cap-m) base rs fu zo;have zO:=af fw;have pJ:Hid (w.grownBy w2 (some g)):=grownBy_trans ⟨hg1.os,hg1.tape,hg1.output,hg1.size,hg1.block⟩ hg2;clear fu hg1 fw hg2 PQ hsl;go_wp2;go_ret;exact⟨rfl,zO.out,pJ.out⟩
theorem ae4 (l:List Dyadic)(c:Nat):(l.map canon).eraseIdx c=(l.eraseIdx c).map canon:=by apply List.ext_getElem?;intro i;rw[List.getElem?_eraseIdx,List.getElem?_map,List.getElem?_map,List.getElem?_map,List.getElem?_eraseIdx];split<;>rfl
theorem alV (a:Option Addr)(cap m r c:Nat)(R:List (List Dyadic))(w:World)(hL:R.length=m+1)(hrow:∀x∈R,x.length=m+1)(hr:r<=m)(hc:c<=m)(hm:m<=7)(ha:cn w a (R.map λx=>x.map canon)):
 Calls Tryz.prog 184 #[.slice a (m+1) cap,.int .i64 (r:Int),.int .i64 (c:Int)] w λe w'=>∃a' c',e=.returned (.slice a' m c')/\m<=c'/\cn w' a' ((jg R r c).map λx=>x.map canon)/\Bw w w':=by
 obtain⟨j0,hj,hy0,hy1,hy2⟩:=info_parts Tryz.aqM;obtain⟨S,hS⟩:=az (jg R r c);have jO:=WC R r c m hL hr;have pU:=WE R r c m hrow hc;have KO:=WB R r c m hL hr;rw[hS]at jO pU KO⊢;have BD:∀(W:World) (k:Nat) (hk:k<m+1),Bw w W->∃b o a1 c1,∃x:List Dyadic,R.getD k []=x/\x.length=m+1/\a=some ⟨b,o,none⟩/\W.cell? ⟨b,o+k,none⟩=some (.slice (some a1) (m+1) c1)/\At W (some a1) ((x.map canon).flatMap bJ):=by
  intro W k hk hb;have Uo:k<R.length:=by omega
  obtain⟨b,o,a1,c1,h1,h2,h3⟩:=(ha.below hb).row k (by simp[hL];omega);have e1:(R.map λx=>x.map canon)[k]'(by simp[hL];omega)=R[k].map canon:=by simp
  have hxl:=hrow _ (List.getElem_mem Uo);rw[e1]at h2 h3;rw[List.length_map,hxl]at h2;cases a1 with
  | none=>
    rcases h3 with h3|⟨_,_,h3,_⟩
    . have:=congrArg List.length h3;rw[lu bJ 3 (λ_=>rfl),List.length_map,hxl]at this;simp at this
    . cases h3
  |some a1=>exact⟨b,o,a1,c1,R[k],by simp[List.getD_eq_getElem?_getD,Uo],hxl,h1,h2,h3⟩
 obtain⟨Hj,lf,oh,lh,GC,HSr,Zr,aby⟩:=mB hj hy0 hy1 hy2 jO pU KO BD;clear hj hy0 hy1 hy2 jO pU KO BD hS ha hL hrow;have Hb:Hid (Bw w w):=Below.refl _ _;go_enter Tryz.func184,Tryz.ntmps184;go_wp2_with fail;go_loopw[7,12] (λs7 x wr=>∃(k:Nat) (v:Value),k<=m+1/\x=.int .i64 (k:Int)/\v=s7/\Own2 49 wr w.heap.size S (if k<=r then k else k-1) v/\Bw w wr) (λ_ x _=>m+1-(intOf x).toNat);case atStart=>exact⟨0,_,Nat.zero_le _,rfl,rfl,by rw[if_pos (Nat.zero_le _)];exact Own2.nil _ _ _ _,Hb.out⟩
 case round=>
  clear Hb;obtain⟨k,v,hk,rfl,rfl,pv,pb⟩:=hrel;by_cases hlt:k<m+1
  . obtain⟨b,o,a1,c1,x,nK,hxl,rfl,hc1,hat⟩:=aby.out wr k hlt pb;have aX:=yi (m+1) cap k (k:Int) (rfl:(some ⟨b,o,none⟩:Option Addr)=_) hlt rfl;rw[Nat.mul_one]at aX;by_cases hkr:k=r
    . subst hkr;obtain⟨cZ,aR⟩:=aJ pv pb;clear pv pb nK hxl hat;have h3:((k:Int) !=(k:Int))=false:=by simp
      go_wp2;go_roundw;case rel=>exact⟨k+1,v,by omega,by go_num,rfl,by have h:=cZ.out;rw[if_pos (Nat.le_refl _)]at h;rw[if_neg zo];exact h,aR.out⟩
      case measure=>simp[intOf];omega
    . have h3:((k:Int) !=(r:Int))=true:=by simp;omega
      have h4:¬(k:Int)=(r:Int):=by omega
      obtain⟨j,hj⟩:=az (if k<=r then k else k-1);have rT:(if k+1<=r then k+1 else k+1-1)=j+1:=by rw[<-hj];split<;>split<;>omega
      have hjm:j<m:=by rw[<-hj];split<;>omega
      have Uk:(if j<r then j else j+1)=k:=by rw[<-hj];split<;>split<;>omega
      have KP:S.getD j []=x.eraseIdx c:=by rw[Zr.out j hjm,Uk,nK]
      rw[hj]at pv;obtain⟨Z,hZ⟩:=az (x.eraseIdx c);have AU:Z.length=m:=by rw[<-hZ,List.length_eraseIdx_of_lt zo];omega
      rw[hZ]at KP
      -- the row,without its number
      have AW:∀W,Bw wr W->Calls Tryz.prog 209 #[.slice (some a1) (m+1) c1] W λe w'=>∃g cc,e=.returned (.slice (some ⟨g,0,none⟩) (m+1) cc)/\(wr.heap.size<=g/\∀W',Bw wr W'->w'=W'->Calls Tryz.prog 208 #[.slice (some ⟨g,0,none⟩) (m+1) cc,.int .i64 (c:Int),.int .i64 ((c:Int)+1)] W' λe w''=>e=.returned (.slice (some ⟨g,0,none⟩) m cc)/\w''.ownsRow wr.heap.size 39 3 (.slice (some ⟨g,0,none⟩) m cc) m (dC Z)/\Bw wr w'')/\Bw W w':=by intro W hW;refine(adZ (some a1) (m+1) c1 (x.map canon) W (by rw[List.length_map,hxl]) zo (λe=>by cases e) (hat.below hW)).mono ?_;rintro e w' ⟨v',rfl,ho,hb⟩;obtain⟨g,cc,rfl,hg1,hg2,hg3⟩:=yC ho zo;have hsz:=hW.size;refine⟨g,cc,rfl,⟨by omega,λW' hW' e=>?_⟩,hb⟩;subst e;have hd:=aew g m cc c wr.heap.size (x.map canon) w' (by rw[List.length_map,hxl]) zo hc (wE ho zo);rw[show((c+1:Nat):Int)=(c:Int)+1 by omega]at hd;refine hd.mono ?_;rintro e w'' ⟨rfl,fw,hg⟩;rw[ae4,hZ,<-Aj]at fw;exact⟨rfl,fw,hW'.grown hg hW'.size (λi e=>by have h9:g=i:=Option.some.inj e;omega)⟩
      obtain⟨CK,OI,qW,cZ,aR,Hj1⟩:=iB AW KP AU pv pb rT;clear AW KP AU hZ pv pb rT Uk hj nK hxl hat;have lM:=aR.out.size;have hwc:IntKind.i64.wrap ((c:Int)+1)=((c+1:Nat):Int):=by rw[IntKind.wrap_i64];omega
      have Ep:(c:Int)+1=((c+1:Nat):Int):=by omega
      obtain⟨Ji,Hci⟩:=aJ hwc Ep;clear hwc Ep;go_wp2_with fail;refine(CK.out _ (Below.refl _ _)).mono ?_;rintro e w4 ⟨g,cc,rfl,⟨hg1,hdel⟩,hb4⟩;have Pf:=af (hdel w4 hb4 rfl);clear hdel hc1 aX;go_wp2_with fail;refine Pf.out.mono ?_;rintro e w5 ⟨rfl,LN,cW⟩;have gK:=LN.lt;obtain⟨a2,c2,TP,oQ,_⟩:=eI LN;simp only[Value.slice.injEq,true_and]at TP;obtain⟨rfl,rfl⟩:=TP;obtain⟨vals,hvl,hov,nJ⟩:=cZ.out.below cW;obtain⟨_,_,tZ,_⟩:=cZ.out;have hvs:=tZ.lt;have hin:∀b o,(some ⟨g,0,none⟩:Option Addr)=some ⟨b,o,none⟩->some b≠v.ownBlock/\b<w5.heap.size:=by intro b o e;simp only[Option.some.injEq,Addr.mk.injEq,and_true]at e;obtain⟨rfl,rfl⟩:=e;have h1:=gK g rfl;refine⟨λh2=>?_,h1.2⟩;have h3:=hvs g h2.symm;omega
      obtain⟨sW,GI,rC,vd,dL,fQ⟩:=iB hin oQ hvl nJ hov (aG aR.out cW);have NE:=cW.size;clear hin oQ hvl nJ hov tZ hvs gK LN cW hb4 Pf CK hg1;have Hb:Hid (Bw w5 w5):=Below.refl _ _;obtain⟨W6,pV,ae,Hd⟩:=bH w5 49 [.slice (some ⟨g,0,none⟩) m cc];have d0:=Hd.out.c1;replace Hb:=ak Hb ae;clear ae;have cX:=ownsRow_below dL.out Hb.out;have lH:=Hb.out.size;have hnews:∀i u,([.slice (some ⟨g,0,none⟩) m cc]:List Value)[i]?=some u->W6.cell? ((⟨w5.heap.size,0,none⟩:Addr).add i)=some u:=jL Hd.out;clear d0;go_wp2_with (at_builtin;refine wpList_append_own_at _ rfl _ _ 124 rfl w.heap.size 49 j0 _ 1 24 Tryz.underlying124 Hj.out lf.out oh.out lh.out rfl zd v j vals rfl cX ⟨w5.heap.size,0,none⟩ 1 1 [.slice (some ⟨g,0,none⟩) m cc] rfl rfl hnews zy zx zo zo ?_;intro v' w7 fY gA _ jU;obtain⟨g',pO,rfl⟩:=ownsRow_succ fY);go_roundw;case rel=>
       refine⟨k+1,_,by omega,by go_num,rfl,?_,?_⟩
       . rw[Hj1.out];refine Own2.push (a:=some ⟨g,0,none⟩) (c:=cc) rC.out (w:=W6) ?_ ?_ ?_ ?_ gA jU
         . intro i h;obtain⟨a,c,h1,h2,h3⟩:=vd.out i h;exact⟨a,c,h1,h2.below Hb.out,λb o e=>⟨(h3 b o e).1,Nat.lt_of_lt_of_le (h3 b o e).2 lH⟩⟩
         . rw[OI.out];exact GI.out.below Hb.out
         . exact λb o e=>⟨(sW.out b o e).1,Nat.lt_of_lt_of_le (sW.out b o e).2 lH⟩
         . rw[OI.out,qW.out];exact fY
       . exact(aG fQ.out Hb.out).grown gA zo (λj e=>eJ cX j e)
      case measure=>simp[intOf];omega
  . obtain rfl:k=m+1:=by omega
    rw[if_neg zo,Nat.add_sub_cancel]at pv;obtain⟨a2,c2,rfl,hcl,pk⟩:=Own2.aqQ pv GC.out;obtain⟨xw,aR⟩:=aJ pk pb;clear pv pb pk;go_wp2;refine bodyPost_ret (results_tmp rfl _ _ _) rfl ⟨a2,c2,rfl,hcl,xw.out,aR.out⟩
theorem ac4 (a:Option Addr)(c:Nat)(w:World):Calls Tryz.prog 143 #[.slice a 0 c] w λe w'=>e=.returned (bM 1)/\Bw w w':=by
 have Hb:Hid (Bw w w):=Below.refl _ _;go_enter Tryz.func143,Tryz.ntmps143;go_wp2_with fail;obtain⟨R,hR⟩:∃R:World->Prop,(λW=>ag W (w.heap.size) 32 [.bool false,.string ⟨#[]⟩]/\Bw w W)=R:=⟨_,rfl⟩;first|refine bB R ?hR ?_|refine bz R ?hR ?_
 case hR=>subst hR;exact⟨(ag.newAt w _ _ (b:=w.heap.size) rfl),zl⟩
 subst hR;rintro W ⟨qr,ae⟩;have Hr:=af qr;clear qr;obtain⟨r0,ah,r1,ai⟩:=Hr.out.g2;replace Hb:=ak Hb ae;clear ae;go_wp2_with fail;refine(NS 1 _ zd zd).mono ?_;rintro e w1 ⟨rfl,ae⟩;clear r0 ah r1 ai;replace Hr:=kB Hr ae;obtain⟨r0,ah,r1,ai⟩:=Hr.out.g2;replace Hb:=ak Hb ae;clear ae;have nO:=Hr.out.lt;obtain⟨W2,kz,ae,Hl⟩:=bH w1 32 [.bool (aj 1),.string (bs (nt 1))];clear r0 ah r1 ai;replace Hr:=kB Hr ae;obtain⟨r0,ah,r1,ai⟩:=Hr.out.g2;obtain⟨l0,l1⟩:=Hl.out.c2;replace Hb:=ak Hb ae;clear ae;go_wp2_with fail;go_loop [5,15] (λt x=>t=.bool false/\x=.int .i64 0) (λ_ _=>0)
 case atStart=>exact⟨rfl,rfl⟩
 case round=>obtain⟨rfl,rfl⟩:=hrel;go_wp2;clear r0 ah r1 ai l0 l1;refine eK (bf W2 (w.heap.size) 0 [.bool (aj 1),.string (bs (nt 1))]) bI ?_;intro w9 hs;replace Hr:=cp Hr hs;replace Hl:=kS Hl hs zo;obtain⟨r0,ah,r1,ai⟩:=Hr.out.g2;obtain⟨l0,l1⟩:=Hl.out.c2;replace Hb:=bS Hb hs ZS;clear hs;refine bodyPost_ret (v:=bM 1) (by simp[results,Tryz.results143,go_sem,r0,r1]) rfl ⟨rfl,Hb.out⟩
theorem aeD (a:Option Addr)(cap:Nat)(w:World)(ha:cn w a [])(hT:au w):Calls Tryz.prog 94 #[.slice a 0 cap] w λe w'=>e=.returned (.tuple #[bQ 1,.int .i64 0])/\Bw w w':=by
 obtain⟨O,hO⟩:∃O:Dyadic,(1:Dyadic)=O:=⟨_,rfl⟩;have hch:=λW=>λ(h:cn W a [])=>MI a 0 cap [] W rfl zo h;rw[show sD []=0 from rfl]at hch;have hsc:=λW=>λ(h:cn W a []) (hT:au W)=>Xx a 0 cap 0 [] 1 0 W rfl zo zo (λr hr=>by cases hr) h (λr hr=>by cases hr) zo hT rfl;have hmk:=λW=>λ(hT:au W)=>qG (aj 1) (nt (1:Int).natAbs) 0 O (by rw[<-hO];rfl) W zd zd hT;rw[hO];obtain⟨GQ,uX,pL,Ha,HT⟩:=iA hch hsc hmk ha hT;clear hch hsc hmk ha hT hO;have Hb:Hid (Bw w w):=Below.refl _ _;go_enter Tryz.func94,Tryz.ntmps94;go_wp2_with fail;obtain⟨R,hR⟩:∃R:World->Prop,(λW=>ag W (w.heap.size) 39 [.bool false,.string ⟨#[]⟩,.int .i64 0]/\Bw w W)=R:=⟨_,rfl⟩;first|refine bB R ?hR ?_|refine bz R ?hR ?_
 case hR=>subst hR;exact⟨(ag.newAt w _ _ (b:=w.heap.size) rfl),zl⟩
 subst hR;rintro W ⟨qr,ae⟩;have Hr:=af qr;clear qr;obtain⟨r0,ah,r1,ai,r2,aB⟩:=Hr.out.g3;replace Hb:=ak Hb ae;clear ae;have HA:Hid (cn W a []):=Ha.out.below Hb.out;have HU:Hid (au W):=HT.out.below Hb.out;go_wp2_with fail;refine(GQ.out _ HA.out).mono ?_;rintro e w1 ⟨rfl,ae⟩;clear r0 ah r1 ai r2 aB;replace Hr:=kB Hr ae;replace HA:=kL HA ae;replace HU:=kT HU ae;obtain⟨r0,ah,r1,ai,r2,aB⟩:=Hr.out.g3;replace Hb:=ak Hb ae;clear ae;go_wp2_with fail;refine(uX.out _ HA.out HU.out).mono ?_;rintro e w2 ⟨v,rfl,hO,ae⟩;clear r0 ah r1 ai r2 aB;replace Hr:=kB Hr ae;replace HA:=kL HA ae;replace HU:=kT HU ae;obtain⟨r0,ah,r1,ai,r2,aB⟩:=Hr.out.g3;replace Hb:=ak Hb ae;clear ae;obtain⟨vals,_,ho,_⟩:=hO;obtain⟨a2,c2,rfl,_,_⟩:=eI ho;clear ho;go_wp2_with fail;refine(ac4 a2 c2 _).mono ?_;rintro e w3 ⟨rfl,ae⟩;clear r0 ah r1 ai r2 aB;replace Hr:=kB Hr ae;replace HA:=kL HA ae;replace HU:=kT HU ae;obtain⟨r0,ah,r1,ai,r2,aB⟩:=Hr.out.g3;replace Hb:=ak Hb ae;clear ae;go_wp2_with fail;refine(pL.out _ HU.out).mono ?_;rintro e w4 ⟨rfl,ae⟩;clear r0 ah r1 ai r2 aB;replace Hr:=kB Hr ae;replace HA:=kL HA ae;replace HU:=kT HU ae;obtain⟨r0,ah,r1,ai,r2,aB⟩:=Hr.out.g3;replace Hb:=ak Hb ae;clear ae;go_wp2;clear r0 ah r1 ai r2 aB;refine eK (bf w4 (w.heap.size) 0 [.bool (aj (dN O)),.string (bs (nt (dN O).natAbs)),.int .i64 (dE O)]) bI ?_;intro w9 hs;replace Hr:=cp Hr hs;obtain⟨r0,ah,r1,ai,r2,aB⟩:=Hr.out.g3;replace Hb:=bS Hb hs ZS;clear hs;refine bodyPost_ret (v:=.tuple #[bQ O,.int .i64 0]) (by simp[results,Tryz.results94,go_sem,r0,r1,r2]) rfl ⟨rfl,Hb.out⟩
theorem QS (R:List (List Dyadic)):((R.map λr=>r.map canon).map λr=>r.map ar)=R:=by
 rw[List.map_map];have:((λr:List Raw=>r.map ar)∘λr:List Dyadic=>r.map canon)=id:=by
  funext r
  show(r.map canon).map ar=r
  rw[List.map_map];have:(ar∘canon)=id:=funext bC;rw[this];simp
 rw[this];simp
theorem aiB (a':Option Addr)(c' m r c:Nat)(R:List (List Dyadic))(B:Nat)(w:World)(hL:R.length=m+1)(hrow:∀x∈R,x.length=m+1)(hr:r<=m)(hc:c<=m)(hm:m<=4)(hsm:∀x∈R,∀d∈x,Sm B d)(bD:1<=B)(hB:B<=1000000)(ht:cn w a' ((jg R r c).map λx=>x.map canon))(hT:au w):
 Calls Tryz.prog 94 #[.slice a' m c'] w λe w'=>e=.returned (.tuple #[bQ (dH m (jE (bW R) r c)),.int .i64 0])/\Bw w w':=by
 have hl:=WC R r c m hL hr;by_cases h0:m=0
 . subst h0;have e:jg R r c=[]:=List.eq_nil_of_length_eq_zero hl;rw[e]at ht;exact aeD a' c' w ht hT
 . refine JX a' c' m ((jg R r c).map λx=>x.map canon) B (jg R r c) _ w zo hm (by rw[List.length_map,hl]) (λx hx=>?_) ht (λx hx y hy=>?_) bD hB hT (QS _) (aix R r c m hL hrow hr hc hm)
   . obtain⟨z,hz,rfl⟩:=List.mem_map.1 hx;rw[List.length_map];exact WE R r c m hrow hc z hz
   . obtain⟨z,hz,rfl⟩:=List.mem_map.1 hx;obtain⟨d,hd,rfl⟩:=List.mem_map.1 hy;exact(aiz hsm r c z hz d hd).fit zo
theorem adj (s:Nat)(h:s<=8):bits BinOp.and IntKind.i64 (s:Int) 1=((s%2:Nat):Int):=by
 have hc:s=0\/s=1\/s=2\/s=3\/s=4\/s=5\/s=6\/s=7\/s=8:=by omega
 rcases hc with rfl|rfl|rfl|rfl|rfl|rfl|rfl|rfl|rfl<;>rfl
theorem acC (a:Option Addr)(cap m:Nat)(R:List (List Dyadic))(B:Nat)(w:World)(hm:m+1<=4)(hL:R.length=m+1)(hrow:∀x∈R,x.length=m+1)(hsm:∀x∈R,∀d∈x,Sm B d)(bD:1<=B)(hB:B<=1000000)(ha:cn w a (R.map λx=>x.map canon))(hT:au w):
 Calls Tryz.prog 144 #[.slice a (m+1) cap] w λe w'=>∃v,e=.returned (.tuple #[v,.int .i64 0])/\eO w' w.heap.size (m+1) (ot (m+1) (bW R)) (m+1) v/\Bw w w':=by
 obtain⟨i0,hi,hz0,hz1,hz2⟩:=info_parts Tryz.aqJ;obtain⟨j0,hj,hy0,hy1,hy2⟩:=info_parts Tryz.aqM;have di:=λW (hW:Bw w W)=>MI a (m+1) cap (R.map λx=>x.map canon) W (by rw[List.length_map,hL]) zo (ha.below hW);have hm0:sD (R.map λx=>x.map canon)=0:=by
  unfold sD;rw[if_neg];rintro(h|h)
  . rw[List.length_map]at h;omega
  . rw[List.any_eq_true]at h;obtain⟨r,hr,h⟩:=h;obtain⟨z,hz,rfl⟩:=List.mem_map.1 hr;have:=hrow z hz;simp at h;omega
 rw[hm0]at di;have hwo:=λr c (hr:r<=m) (hc:c<=m) W (hW:Bw w W)=>alV a cap m r c R W hL hrow hr hc zo (ha.below hW);have lC:=λr c (hr:r<=m) (hc:c<=m) W (hW:Bw w W) a' c' (ht:cn W a' ((jg R r c).map λx=>x.map canon))=>aiB a' c' m r c R B W hL hrow hr hc zo hsm bD hB ht (hT.below hW);have hds:∀r c,r<=m->c<=m->Sm (4*B+6) (dH m (jE (bW R) r c)):=by
  intro r c hr hc;refine DC zo (λi j hi hj=>?_);have hk:(if i<r then i else i+1)<R.length:=by split<;>omega
  have hl:=hrow _ (List.getElem_mem hk);have hk2:(if j<c then j else j+1)<R[if i<r then i else i+1].length:=by rw[hl];split<;>omega
  have e:jE (bW R) r c i j=R[if i<r then i else i+1][if j<c then j else j+1]:=by
   show(R.getD (if i<r then i else i+1) []).getD (if j<c then j else j+1) 0=_
   rw[List.getD_eq_getElem?_getD (l:=R),List.getElem?_eq_getElem hk,Option.getD_some,List.getD_eq_getElem?_getD,List.getElem?_eq_getElem hk2];rfl
  rw[e];exact hsm _ (List.getElem_mem hk) _ (List.getElem_mem hk2)
 obtain⟨f,hf⟩:=az (bW R);rw[hf]at lC hds⊢;have Kq:=λi (h:i<m+1)=>QA (m+1) f i h;obtain⟨A,hA⟩:=az (ot (m+1) f);rw[hA]at Kq⊢;obtain⟨Hi,fC,fJ,eF,Hj,lf,oh,lh,iI,Hwo,zu,Hds⟩:=iR hi hz0 hz1 hz2 hj hy0 hy1 hy2 di hwo lC hds;obtain⟨HT,YM⟩:=aJ hT Kq;clear hi hz0 hz1 hz2 hj hy0 hy1 hy2 di hwo lC hds hT Kq hA hf hm0 ha hsm hrow hL;have Hb:Hid (Bw w w):=Below.refl _ _;go_enter Tryz.func144,Tryz.ntmps144;go_wp2_with fail;refine(iI.out _ Hb.out).mono ?_;rintro e w1 ⟨rfl,ae⟩;replace Hb:=ak Hb ae;clear ae;go_wp2_with fail;go_loopw[5,18] (λs5 x wr=>∃(k:Nat) (v:Value),k<=m+1/\x=.int .i64 (k:Int)/\v=s5/\eO wr w.heap.size (m+1) A k v/\Bw w wr) (λ_ x _=>m+1-(intOf x).toNat);case atStart=>exact⟨0,_,Nat.zero_le _,rfl,rfl,eO.nil _ _ _ _,Hb.out⟩
 case round=>
  clear Hb;obtain⟨k,v,hk,rfl,rfl,pv,pb⟩:=hrel;obtain⟨cZ,aR⟩:=aJ pv pb;clear pv pb;by_cases hlt:k<m+1
  . obtain⟨Z,hZ⟩:=az ((List.range (m+1)).map λb=>jr (m+1) f k b);have wX:Hid (A.getD k []=Z):=by show _=_;rw[YM.out k hlt,hZ]
    have qW:Hid (Z.length=m+1):=by show _=_;rw[<-hZ];simp
    have ZF:Hid (∀j (h:j<m+1),Z.take (j+1)=Z.take j++[jr (m+1) f k j]):=by intro j h;rw[List.take_succ_eq_append_getElem (by rw[qW.out];exact h)];congr 2;simp[<-hZ]
    clear hZ;obtain⟨wq,hwc⟩:∃wq,wq=wr:=⟨_,rfl⟩;subst hwc;have lM:=aR.out.size;have Bh:decide ((k:Int)<(m:Int)+1)=true:=by simp;omega
    go_wp2_with fail;clear Bh;go_loopw[7,23] (λs7 x wr=>∃(j:Nat) (v2:Value),j<=m+1/\x=.int .i64 (j:Int)/\v2=s7/\wr.ownsRow wq.heap.size 39 3 v2 j (dC (Z.take j))/\Bw wq wr) (λ_ x _=>m+1-(intOf x).toNat);case atStart=>exact⟨0,_,Nat.zero_le _,rfl,rfl,World.ownsRow_nil _ _ _ _,Below.refl _ _⟩
    case round=>
     obtain⟨j,v2,hj,rfl,rfl,ho,hb2⟩:=hrel;obtain⟨Ho,cQ⟩:=aJ ho hb2;have szb:=hb2.size;clear ho hb2;by_cases aZ:j<m+1
     . obtain⟨X,hX⟩:=az (dH m (jE f j k));obtain⟨Y,hY⟩:=az (jr (m+1) f k j);have Ti:Y=if(k+j)%2=1 then-X else X:=by rw[<-hY,<-hX];rfl
       have dX:=Hds.out j k zo zo;rw[hX]at dX;have hst:dC (Z.take (j+1))=dC (Z.take j)++[.bool (aj (dN Y)),.string (bs (nt (dN Y).natAbs)),.int .i64 (dE Y)]:=by rw[ZF.out j aZ,hY,JR];rfl
       have ft:=aG aR.out cQ.out;have hd:=λW hW a' c' ht=>zu.out j k zo zo W hW a' c' ht;rw[hX]at hd;obtain⟨Hd,bR,GF⟩:=cP hd hst Ti;have OP:Hid (Ok (canon X)):=dX.ok zo;have jI:=af ft;clear hd hst Ti hX hY dX ft;have Hb:Hid (Bw wr wr):=Below.refl _ _;go_wp2_with fail;refine(Hwo.out j k zo zo _ jI.out).mono ?_;rintro e w3 ⟨a3,c3,rfl,hc3,BG,ae⟩;replace Hb:=ak Hb ae;clear ae;have Da:=af BG;clear BG;go_wp2_with fail;refine(Hd.out _ (aG jI.out Hb.out) a3 c3 Da.out).mono ?_;rintro e w4 ⟨rfl,ae⟩;replace Hb:=ak Hb ae;clear ae Da;have sz4:=Hb.out.size;obtain⟨W5,Ek,ae,Hx⟩:=bH w4 39 [.bool (aj (dN X)),.string (bs (nt (dN X).natAbs)),.int .i64 (dE X)];obtain⟨x0,cu,x1,cw,x2,cK⟩:=Hx.out.g3;replace Hb:=ak Hb ae;clear ae;have xW:=adj (k+j) zo;rw[Int.natCast_add]at xW;go_upto_if 38 with fail
       go_cut[7] (λs7 wx=>s7=v2/\ag wx w4.heap.size 39 [.bool (aj (dN Y)),.string (bs (nt (dN Y).natAbs)),.int .i64 (dE Y)]/\Bw wr wx);case first=>
        by_cases hp:(k+j)%2=1
        . have h9:(bits BinOp.and IntKind.i64 ((k:Int)+(j:Int)) 1==1)=true:=by rw[xW,hp];rfl
          have hY: -ar (canon X)=Y:=by rw[bC,GF.out,if_pos hp]
          have HY:=af hY;clear hY xW;go_wp2_with fail;refine(JV _ _ _ Y HY.out _ OP.out (HT.out.below (aG jI.out Hb.out))).mono ?_;rintro e w6 ⟨rfl,ae⟩;clear x0 cu x1 cw x2 cK;replace Hx:=kB Hx ae;obtain⟨x0,cu,x1,cw,x2,cK⟩:=Hx.out.g3;replace Hb:=ak Hb ae;clear ae;go_wp2_with fail;go_meet;exact⟨rfl,((Hx.out.set 0 _).set 1 _).set 2 _,((Hb.out.setCell zp _).setCell zp _).setCell zp _⟩
        . have h9:(bits BinOp.and IntKind.i64 ((k:Int)+(j:Int)) 1==1)=false:=by rw[xW,show(k+j)%2=0 by omega];rfl
          have hY:Y=X:=by rw[GF.out,if_neg hp]
          subst hY;clear xW;go_wp2_with fail;go_meet;exact⟨rfl,Hx.out,Hb.out⟩
       case rest=>
        obtain⟨rfl,hx,hb⟩:=hcut;clear xW;have Hx:Hid (ag wc w4.heap.size 39 [.bool (aj (dN Y)),.string (bs (nt (dN Y).natAbs)),.int .i64 (dE Y)]):=hx;have pH:=af (aG cQ.out hb);have hov:=ownsRow_below Ho.out hb;have dL:=af hov;have szc:=hb.size;clear hx hb hov Ho Hb Hd GF OP jI cQ;have Hb:Hid (Bw wc wc):=Below.refl _ _;obtain⟨x0,x1,x2⟩:=Hx.out.c3;have P0:=x0;have P1:=x1;have P2:=x2;have ail:=Hx.out.lt;obtain⟨W6,pV,ae,Hc⟩:=bH wc 39 [.bool (aj (dN Y)),.string (bs (nt (dN Y).natAbs)),.int .i64 (dE Y)];clear x0 x1 x2;replace Hx:=kB Hx ae;obtain⟨x0,x1,x2⟩:=Hx.out.c3;obtain⟨c0,c1,c2⟩:=Hc.out.c3;replace Hb:=ak Hb ae;clear ae;have cX:=ownsRow_below dL.out Hb.out;have lH:=Hb.out.size;go_wp2_with (at_builtin;refine wpList_append_own_at _ rfl _ _ 49 rfl wq.heap.size 39 i0 _ 3 32 Tryz.underlying49 Hi.out fC.out fJ.out eF.out rfl zd _ j (dC (Z.take j)) rfl cX ⟨wc.heap.size,0,none⟩ 1 1 [.bool (aj (dN Y)),.string (bs (nt (dN Y).natAbs)),.int .i64 (dE Y)] rfl rfl (jL Hc.out) zy zx zo zo ?_;intro v' w7 fY gA _ jU;obtain⟨g',pO,rfl⟩:=ownsRow_succ fY);go_roundw;case rel=>exact⟨j+1,_,by omega,by go_num,rfl,by rw[bR.out];exact fY,(aG pH.out Hb.out).grown gA zo (λj e=>eJ cX j e)⟩
        case measure=>simp[intOf];omega
     . obtain rfl:j=m+1:=by omega
       have tN:Z.take (m+1)=Z:=List.take_of_length_le (by rw[qW.out];exact Nat.le_refl _);rw[tN]at Ho;have gK:=Ho.out.lt;obtain⟨a2,cap2,rfl,_,_⟩:=eI Ho.out;obtain⟨vals,hvl,tZ,Ml,BH⟩:=cZ.out;have hov:=ownsRow_below tZ cQ.out;have nJ:=λi h=>ownsRow_below (Ml i h) cQ.out;have oW:∀g,(Value.slice a2 (m+1) cap2).ownBlock=some g->∀i (h:i<vals.length),vals[i].ownBlock≠some g:=λg e i h e2=>by have h1:=(gK g e).1;have h2:=((Ml i h).lt g e2).2;omega
       have hx:=wE Ho.out lM;obtain⟨rC,vd,dL,Jf,Im,Hxx⟩:=iB hvl nJ hov BH oW hx;clear hvl nJ hov tZ Ml BH oW hx gK tN;have Hb:Hid (Bw wr wr):=Below.refl _ _;obtain⟨W6,pV,ae,Hd⟩:=bH wr 49 [.slice a2 (m+1) cap2];have d0:=Hd.out.c1;replace Hb:=ak Hb ae;clear ae;have cX:=ownsRow_below dL.out Hb.out;have lH:=Hb.out.size;go_wp2_with (at_builtin;refine wpList_append_own_at _ rfl _ _ 124 rfl w.heap.size 49 j0 _ 1 24 Tryz.underlying124 Hj.out lf.out oh.out lh.out rfl zd v k vals rfl cX ⟨wr.heap.size,0,none⟩ 1 1 [.slice a2 (m+1) cap2] rfl rfl (jL Hd.out) zy zx zo zo ?_;intro v' w7 fY gA _ jU;obtain⟨g',pO,rfl⟩:=ownsRow_succ fY);go_roundw;case rel=>refine⟨k+1,_,by omega,by go_num,rfl,eO.push rC.out cX (λi h=>ownsRow_below (vd.out i h) Hb.out) Jf.out (by rw[wX.out];exact ownsRow_below Hxx.out Hb.out) Im.out fY gA,?_⟩;exact(aG (aG aR.out cQ.out) Hb.out).grown gA zo (λj e=>eJ cX j e)
       case measure=>simp[intOf];omega
  . obtain rfl:k=m+1:=by omega
    go_wp2;exact bodyPost_ret (v:=.tuple #[v,.int .i64 0]) (by simp[results,Tryz.results144,go_sem]) rfl ⟨v,rfl,cZ.out,aR.out⟩
end Go.Proofs.YtoopepmmepmfnaaGreatDoor
namespace Go.Proofs.YtoopepmmepmfnaaGreatDoor
def ou (n:Nat)(p:Nat->Nat->Dyadic):List (List Dyadic):=(List.range n).map λa=>(List.range n).map λb=>jq n p a b
theorem Jw (n:Nat)(p:Nat->Nat->Dyadic):(ou n p).length=n:=by simp[ou]
theorem Jx (n:Nat)(p:Nat->Nat->Dyadic):∀r∈ou n p,r.length=n:=by intro r hr;unfold ou at hr;obtain⟨x,_,rfl⟩:=List.mem_map.1 hr;simp
theorem Qz (n:Nat)(p:Nat->Nat->Dyadic)(a b:Nat)(ha:a<n)(hb:b<n):bW (ou n p) a b=jq n p a b:=by unfold bW ou;simp[List.getD_eq_getElem?_getD,ha,hb]
theorem ale {n:Nat}{R S:List (List Dyadic)}(h1:R.length=n)(h2:∀r∈R,r.length=n)(h3:S.length=n)(h4:∀r∈S,r.length=n)(h:∀a b,a<n->b<n->bW R a b=bW S a b):R=S:=by apply List.ext_getElem zo;intro i hi hj;have l1:=h2 _ (List.getElem_mem hi);have l2:=h4 _ (List.getElem_mem hj);apply List.ext_getElem zo;intro j k1 k2;have:=h i j zo zo;unfold bW at this;simpa[List.getD_eq_getElem?_getD,hi,hj,k1,k2]using this
theorem acy (n:Nat)(cE:n<=4){e f:Nat->Nat->Dyadic}(h:∀i j,i<n->j<n->e i j=f i j)(a b:Nat)(ha:a<n)(hb:b<n):jr n e a b=jr n f a b:=by
 have:dH (n-1) (jE e b a)=dH (n-1) (jE f b a):=Dz (n-1) zo (λi j hi hj=>by
  unfold jE
  exact h _ _ (by split<;>omega) (by split<;>omega))
 unfold jr;rw[this]
theorem ae2 {n:Nat}{R:List (List Dyadic)}(h1:R.length=n)(h2:∀r∈R,r.length=n)(i j:Nat)(hi:i<n)(hj:j<n)(y:Dyadic)(a b:Nat)(ha:a<n)(hb:b<n):bW (R.set i ((R.getD i []).set j y)) a b=if a=i/\b=j then y else bW R a b:=by
 unfold bW;by_cases e:a=i
 . subst e;rw[List.getD_eq_getElem?_getD (l:=R.set _ _),List.getElem?_set_self zo,Option.getD_some];have hl:(R.getD a []).length=n:=by
    have e:R.getD a []=R[a]'zo:=by rw[List.getD_eq_getElem?_getD,List.getElem?_eq_getElem zo];rfl
    rw[e];exact h2 _ (List.getElem_mem _)
   by_cases e2:b=j
   . subst e2;rw[if_pos ⟨rfl,rfl⟩,List.getD_eq_getElem?_getD,List.getElem?_set_self zo];rfl
   . rw[if_neg (λh=>e2 h.2),List.getD_eq_getElem?_getD,List.getElem?_set_ne (λh=>e2 h.symm),<-List.getD_eq_getElem?_getD]
 . rw[if_neg (λh=>e h.1),List.getD_eq_getElem?_getD (l:=R.set _ _),List.getElem?_set_ne (λh=>e h.symm),<-List.getD_eq_getElem?_getD]
theorem akt {n:Nat}{R:List (List Dyadic)}(h1:R.length=n)(h2:∀r∈R,r.length=n)(i j:Nat)(hi:i<n)(y:Dyadic):(R.set i ((R.getD i []).set j y)).length=n/\∀r∈R.set i ((R.getD i []).set j y),r.length=n:=by
 refine⟨by rw[List.length_set];exact h1,λr hr=>?_⟩;rcases List.mem_or_eq_of_mem_set hr with h|h
 . exact h2 r h
 . rw[h,List.length_set];have e:R.getD i []=R[i]'zo:=by rw[List.getD_eq_getElem?_getD,List.getElem?_eq_getElem zo];rfl
   rw[e];exact h2 _ (List.getElem_mem _)
theorem akv (X:Dyadic):(if aL X<0 then-X else X)=mO X*X:=by
 rw[aku];by_cases h:X<0
 . rw[if_pos h,if_pos ((oF X).2 h)]
 . rw[if_neg h,if_neg (λh2=>h ((oF X).1 h2))]
def iL (k j a b:Nat):Prop:=a<k\/a=k/\b<j
instance (k j a b:Nat):Decidable (iL k j a b):=inferInstanceAs (Decidable (_\/_))
end Go.Proofs.YtoopepmmepmfnaaGreatDoor
namespace Go.Proofs.YtoopepmmepmfnaaGreatDoor
open Go.RowKit
attribute [local go_sem ↓] Go.wp_at_zero Go.wp_at_succ
def Qm (w:World)(n:Nat)(p:Nat->Nat->Dyadic)(e:Ending)(w':World):Prop:=
 ∃a' c',e=.returned (.tuple #[bQ (mO (fW n p) *fW n p),.slice a' n c',.int .i64 0])/\n<=c'/\cn w' a' ((ou n p).map λr=>r.map canon)/\Bw w w'
theorem eO.blk {w:World}{base n L go cap:Nat}{R:List (List Dyadic)}(h:eO w base n R L (.slice (some ⟨go,0,none⟩) L cap))(i:Nat)(hi:i<L)(hn:0<n):base<=go/\∃g c,w.cell? ⟨go,i,none⟩=some (.slice (some ⟨g,0,none⟩) n c)/\base<=g/\g<w.heap.size/\g≠go:=by
 obtain⟨vals,hl,ho,hv,hd⟩:=h;have hi2:i<vals.length:=by omega
 have hrow:=hv i hi2;obtain⟨g,c,e1,hg1,hg2,_⟩:=yC hrow hn;have jU:=yA ho;have hc:=kd ho i zo;rw[e1]at hc;refine⟨jU.1,g,c,hc,hg1,hg2,?_⟩;rintro rfl;rw[e1]at hrow;rcases hrow.2 with⟨h1,_⟩ |⟨g',c',cur,h1,_,h2,_⟩
 . simp at h1
 . simp only[Value.slice.injEq,Option.some.injEq,Addr.mk.injEq,and_true,true_and]at h1;obtain⟨rfl,rfl⟩:=h1;rcases ho.2 with⟨h3,_⟩ |⟨g2,c2,amL,h3,_,h4,_⟩
   . simp at h3
   . simp only[Value.slice.injEq,Option.some.injEq,Addr.mk.injEq,and_true,true_and]at h3;obtain⟨rfl,rfl⟩:=h3;rw[h2]at h4;simp at h4
theorem eO.aqN {w:World}{base n k:Nat}{R:List (List Dyadic)}{v:Value}(h:eO w base n R k v){p:Addr}(hp:p.block<base)(x:Value):eO (w.setCell p x) base n R k v:=by
 obtain⟨vals,hl,ho,hi,hd⟩:=h;have hne:∀{u:Value} {e:TypeId} {sz m:Nat} {xs:List Value},w.ownsRow base e sz u m xs->u.ownBlock≠some p.block:=λh e=>by have:=(h.lt _ e).1;omega
 exact⟨vals,hl,ownsRow_setCell_other ho (hne ho) _,λi h=>ownsRow_setCell_other (hi i h) (hne (hi i h)) _,hd⟩
theorem ahg (a:Option Addr)(cap m:Nat)(rows:List (List Raw))(B:Nat)(w:World)(hm:m+1<=4)(hr:Rw (m+1) B rows)(hcap:m+1+1<=cap)(ha:cn w a rows)(hB:B<=200000)(hT:au w)(h0:wP rows=0):
 Calls Tryz.prog 96 #[.slice a (m+1+1) cap] w (Qm w (m+1) (dP rows)):=by
 obtain⟨n,hn⟩:=az (m+1);have hL:=hr.1;have hrow:=hr.2.1;have hfit:=hr.2.2;obtain⟨b,o,rfl⟩:∃b o,a=some ⟨b,o,none⟩:=by
  obtain⟨vals,hvl,hat,_⟩:=ha;rcases hat with h|⟨b,o,h,_⟩
  . rw[h]at hvl;simp at hvl;omega
  . exact⟨b,o,h⟩
 have di:=λW (hW:Bw w W)=>Yc (some ⟨b,o,none⟩) (m+1+1) cap rows B W hL zo hcap (ha.below hW) hfit zo (hT.below hW);rw[h0]at di;obtain⟨S,hS⟩:=az ((rows.drop 1).map λp=>iK (rows.getD 0 []) p);have jO:S.length=m+1:=by rw[<-hS];simp[hL]
 have h00:0<rows.length:=by omega
 have e0:rows.getD 0 []=rows[0]:=by simp[h00]
 have pU:∀r∈S,r.length=m+1:=by intro r hr;rw[<-hS]at hr;obtain⟨p,hp,rfl⟩:=List.mem_map.1 hr;rw[DI (by rw[e0,hrow _ (List.mem_of_mem_drop hp),hrow _ (List.getElem_mem h00)]),hrow _ (List.mem_of_mem_drop hp)]
 have oO:∀r∈S,∀d∈r,Sm (B+1) d:=by intro r hr d hd;rw[<-hS]at hr;obtain⟨p,hp,rfl⟩:=List.mem_map.1 hr;unfold iK at hd;obtain⟨i,hi,rfl⟩:=List.mem_iff_getElem.1 hd;rw[List.getElem_zipWith];refine Sm.sub (hfit p (List.mem_of_mem_drop hp) _ (List.getElem_mem _)).2 (hfit (rows.getD 0 []) ?_ _ (List.getElem_mem _)).2;rw[e0];exact List.getElem_mem h00
 obtain⟨P,hP⟩:=az (dP rows);have AY:∀i j,i<m+1->j<m+1->bW S i j=xM P i j:=λi j hi hj=>by rw[<-hS,<-hP];exact XG (m+1) rows hL hrow i j hi hj
 obtain⟨X,hX⟩:=az (fW (m+1) P);have hent:dH (m+1) (bW S)=X:=by rw[<-hX,Am];exact Dz (m+1) hm AY
 have hro:=λW (hW:Bw w W)=>Xq b o cap (m+1) (m+1) rows B W hL zo hcap zo zo zo hrow (ha.below hW) hfit zo (hT.below hW);rw[hS]at hro
 have lC:=λW (hW:Bw w W) a' c' (h:cn W a' (S.map λr=>r.map canon))=>JX a' c' (m+1) (S.map λr=>r.map canon) (B+1) S X W zo hm (by simpa using jO) (by
  intro r hr;obtain⟨x,hx,rfl⟩:=List.mem_map.1 hr
  simpa using pU x hx) h (by
  intro r hr c hc;obtain⟨x,hx,rfl⟩:=List.mem_map.1 hr;obtain⟨y,hy,rfl⟩:=List.mem_map.1 hc
  exact(oO x hx y hy).fit zo) zo zo (hT.below hW) (QS S) hent
 have rO:=λW (hW:Bw w W) a' c' (h:cn W a' (S.map λr=>r.map canon))=>(acC a' c' m S (B+1) W hm jO pU oO zo zo h (hT.below hW)).mono (λe w' h=>(match h with|⟨v,h1,h2,h3⟩=>⟨v,h1,h2,h3,h3⟩:∃v,e=.returned (.tuple #[v,.int .i64 0])/\eO w' W.heap.size (m+1) (ot (m+1) (bW S)) (m+1) v/\Bw W w'/\Bw W w'));have dX:Sm (4*B+11) X:=by rw[<-hent];refine(DC (B:=B+1) hm (λi j hi hj=>?_)).mono zo;rw[AY i j hi hj,<-hP];exact DL (n:=m+1) (B:=B) (λa b ha hb=>by rw[qO rows a b zo (by rw[hrow _ (List.getElem_mem _)];exact hb)];exact(hfit _ (List.getElem_mem _) _ (List.getElem_mem _)).2) i j hi hj
 have nI:=λW=>lj (aj (dN X)) (nt (dN X).natAbs) (dE X) (aL X) (by show aL (ar (canon X))=_;rw[bC]) W (dX.ok zo);have rS: -1<=aL X/\aL X<=1:=by unfold aL dO;split<;>(try split)<;>omega
 obtain⟨G,hG⟩:=az (mO X);have hof:=λW (hW:Bw w W)=>rI (aL X) G (by rw[<-hG];rfl) W zo (hT.below hW)
 have hab:=λW (hW:Bw w W)=>aej (aj (dN X)) (nt (dN X).natAbs) (dE X) (G*X) (by
  have e:ar (aj (dN X),nt (dN X).natAbs,dE X)=X:=bC X
  rw[e,akv,hG]) W (dX.ok zo) (hT.below hW)
 have Sy:Fit (4*B+11) (canon G):=(by rw[<-hG];exact(Nv X).mono zo:Sm (4*B+11) G).fit zo;have tK:∀i j,i<m+1->j<m+1->Fit (4*B+11) (canon (jr (m+1) (bW S) i j)):=λi j hi hj=>by refine((Qy (B:=B+1) zo hm (λa b ha hb=>?_) i j).mono zo).fit zo;rw[AY a b ha hb,<-hP];exact DL (n:=m+1) (B:=B) (λa b ha hb=>by rw[qO rows a b zo (by rw[hrow _ (List.getElem_mem _)];exact hb)];exact(hfit _ (List.getElem_mem _) _ (List.getElem_mem _)).2) a b ha hb
 have hfin:∀R:List (List Dyadic),R.length=m+1->(∀r∈R,r.length=m+1)->(∀a b,a<m+1->b<m+1->bW R a b=jr (m+1) (bW S) a b*G)->R=ou (m+1) P:=λR h1 h2 h3=>ale h1 h2 (Jw _ _) (Jx _ _) (λa b ha hb=>by
  rw[h3 a b ha hb,Qz _ _ _ _ ha hb];unfold jq
  rw[hX,hG,acy (m+1) hm AY a b ha hb])
 have Au:=λi j hi hj=>acz (m+1) (bW S) i j hi hj;have vA:=acA (m+1) (bW S);have Eb:=acB (m+1) (bW S);obtain⟨F,hF⟩:∃F:Nat->Nat->Dyadic,(λi j=>jr (m+1) (bW S) i j)=F:=⟨_,rfl⟩;have Su:∀i j,jr (m+1) (bW S) i j=F i j:=λi j=>by rw[<-hF]
 simp only[Su]at tK hfin Au;obtain⟨A,hA⟩:=az (ot (m+1) (bW S));rw[hA]at rO Au vA Eb;rw[hP];unfold Qm;rw[hX,hG];rw[hn]at di hro lC rO tK hfin Au vA Eb⊢;have cE:n<=4:=by omega
 have dY:1<=n:=by omega
 have Vl:=λW=>(nI W).mono (λe w' h=>(⟨h.1,h.2,h.2⟩:e=.returned (.int .i64 (aL X))/\Bw W w'/\Bw W w'));have UL:=λW hW=>(hof W hW).mono (λe w' h=>(⟨h.1,h.2,h.2⟩:e=.returned (bQ G)/\Bw W w'/\Bw W w'));have lA:=λW hW=>(hab W hW).mono (λe w' h=>(⟨h.1,h.2,h.2⟩:e=.returned (bQ (G*X))/\Bw W w'/\Bw W w'));obtain⟨iI,PW,zu,GG,og,xo,mR,YY,YQ,rq,YN,Gp⟩:=iR di hro lC rO Vl UL lA Sy tK hfin Au vA;obtain⟨YP,HT⟩:=aJ Eb hT;clear di hro lC rO Vl UL nI hof hab lA Sy tK hfin Au vA Eb hT Su hF hA dX hent AY oO pU jO hS e0 h00 hP hX hG rS ha hr hL hrow hfit h0 hn;have Hb:Hid (Bw w w):=Below.refl _ _;go_enter Tryz.func96,Tryz.ntmps96;go_wp2_with fail;obtain⟨R,hR⟩:∃R:World->Prop,(λW=>ag W (w.heap.size) 39 [.bool false,.string ⟨#[]⟩,.int .i64 0]/\Bw w W)=R:=⟨_,rfl⟩;first|refine bB R ?hR ?_|refine bz R ?hR ?_
 case hR=>subst hR;exact⟨(ag.newAt w _ _ (b:=w.heap.size) rfl),zl⟩
 subst hR;rintro W ⟨qr,ae⟩;have Hr:=af qr;clear qr;obtain⟨r0,ah,r1,ai,r2,aB⟩:=Hr.out.g3;replace Hb:=ak Hb ae;clear ae;go_wp2_with fail;refine(iI.out _ Hb.out).mono ?_;rintro e w1 ⟨rfl,ae⟩;clear r0 ah r1 ai r2 aB;replace Hr:=kB Hr ae;obtain⟨r0,ah,r1,ai,r2,aB⟩:=Hr.out.g3;replace Hb:=ak Hb ae;clear ae;go_wp2_with fail;refine(PW.out _ Hb.out).mono ?_;rintro e w2 ⟨a2,c2,rfl,hc2,ht2,ae⟩;clear r0 ah r1 ai r2 aB;replace Hr:=kB Hr ae;obtain⟨r0,ah,r1,ai,r2,aB⟩:=Hr.out.g3;replace Hb:=ak Hb ae;clear ae;have CZ:=af ht2;clear ht2;go_wp2_with fail;refine(zu.out _ Hb.out a2 c2 CZ.out).mono ?_;rintro e w3 ⟨rfl,ae⟩;clear r0 ah r1 ai r2 aB;replace Hr:=kB Hr ae;obtain⟨r0,ah,r1,ai,r2,aB⟩:=Hr.out.g3;replace Hb:=ak Hb ae;clear ae CZ;have Fj:=Hr.out.lt;obtain⟨W4,jP,ae,Hd⟩:=bH w3 39 [.bool (aj (dN X)),.string (bs (nt (dN X).natAbs)),.int .i64 (dE X)];clear r0 ah r1 ai r2 aB;replace Hr:=kB Hr ae;obtain⟨r0,ah,r1,ai,r2,aB⟩:=Hr.out.g3;obtain⟨d0,d1,d2⟩:=Hd.out.c3;replace Hb:=ak Hb ae;clear ae;go_wp2_with fail;refine(PW.out _ Hb.out).mono ?_;rintro e w5 ⟨a3,c3,rfl,hc3,BG,ae⟩;clear r0 ah r1 ai r2 aB d0 d1 d2;replace Hr:=kB Hr ae;replace Hd:=kB Hd ae;obtain⟨r0,ah,r1,ai,r2,aB⟩:=Hr.out.g3;obtain⟨d0,d1,d2⟩:=Hd.out.c3;replace Hb:=ak Hb ae;clear ae;have Da:=af BG;clear BG;have kX:=Hr;have Pe:=Hd;have eu:=Hb;go_wp2_with fail;refine(GG.out _ Hb.out a3 c3 Da.out).mono ?_;rintro e w6 ⟨v,rfl,hO,Tv,ae⟩;clear r0 ah r1 ai r2 aB d0 d1 d2;replace Hr:=kB Hr ae;replace Hd:=kB Hd ae;obtain⟨r0,ah,r1,ai,r2,aB⟩:=Hr.out.g3;obtain⟨d0,d1,d2⟩:=Hd.out.c3;replace Hb:=ak Hb ae;clear ae;obtain⟨go,cv,rfl,hgo⟩:∃go cv,v=.slice (some ⟨go,0,none⟩) n cv/\w5.heap.size<=go:=by obtain⟨vals,hl,ho,_,_⟩:=hO;obtain⟨g,c,e1,h1,_,_⟩:=yC ho zo;exact⟨g,c,e1,h1⟩
 have hcv:n<=cv:=by obtain⟨vals,hl,ho,_,_⟩:=hO;exact(wD ho).1
 obtain⟨gI,TZ⟩:∃gI:Nat->Nat×Nat,∀i,i<n->w6.cell? ⟨go,i,none⟩=some (.slice (some ⟨(gI i).1,0,none⟩) n (gI i).2)/\w5.heap.size<=(gI i).1/\(gI i).1<w6.heap.size/\(gI i).1≠go:=by have H:=λi (h:i<n)=>(hO.blk i h dY).2;refine⟨λi=>if h:i<n then(Classical.choose (H i h),Classical.choose (Classical.choose_spec (H i h)))else(0,0),λi h=>?_⟩;simp only[h,dif_pos];exact Classical.choose_spec (Classical.choose_spec (H i h))
 obtain⟨HO,Ps⟩:=aJ hO TZ;clear hO TZ;have wW:Hid (Bw w5 w6):=Tv;have YK:Hid (Bw w6 w6):=Below.refl _ _;clear Tv;have NE:=wW.out.size;go_wp2_with fail;refine(og.out _).mono ?_;rintro e w7 ⟨rfl,Ty,ae⟩;clear r0 ah r1 ai r2 aB d0 d1 d2;replace Hr:=kB Hr ae;replace Hd:=kB Hd ae;obtain⟨r0,ah,r1,ai,r2,aB⟩:=Hr.out.g3;obtain⟨d0,d1,d2⟩:=Hd.out.c3;replace Hb:=ak Hb ae;clear ae;go_wp2_with fail;refine(xo.out _ Hb.out).mono ?_;rintro e w8 ⟨rfl,Tz,ae⟩;clear r0 ah r1 ai r2 aB d0 d1 d2;replace Hr:=kB Hr ae;replace Hd:=kB Hd ae;obtain⟨r0,ah,r1,ai,r2,aB⟩:=Hr.out.g3;obtain⟨d0,d1,d2⟩:=Hd.out.c3;replace Hb:=ak Hb ae;clear ae;have Lh:=aG Ty Tz;clear Ty Tz;have Oi:=af Lh;have Ga:=Lh.size;clear Lh;have aif:=Hr.out.lt;have aoL:=Hd.out.lt;obtain⟨W9,KW,ae,Hs⟩:=bH w8 39 [.bool (aj (dN G)),.string (bs (nt (dN G).natAbs)),.int .i64 (dE G)];clear r0 ah r1 ai r2 aB;replace Hr:=kB Hr ae;clear d0 d1 d2;replace Hd:=kB Hd ae;obtain⟨r0,ah,r1,ai,r2,aB⟩:=Hr.out.g3;obtain⟨d0,d1,d2⟩:=Hd.out.c3;obtain⟨s0,s1,s2⟩:=Hs.out.c3;replace Hb:=ak Hb ae;clear ae;have Cx:Hid (Bw w6 W9):=by rw[<-KW];exact(Oi.out).alloc zo _
 have SJ:=HO.out.below Cx.out;have Eo:∀i,i<n->W9.cell? ⟨go,i,none⟩=some (.slice (some ⟨(gI i).1,0,none⟩) n (gI i).2):=λi h=>cell_later Cx.out (Ps.out i h).1;have Tw:=aG wW.out Cx.out;obtain⟨OE,OY,Oh⟩:=cP SJ Eo Tw;have PY:=Hs;clear SJ Eo Tw HO Oi YK Cx;go_wp2_with fail;go_loopw[37] (λx wr=>∃(k:Nat) (R:List (List Dyadic)),k<=n/\x=.int .i64 (k:Int)/\R.length=n/\(∀r∈R,r.length=n)/\(∀a b,a<n->b<n->bW R a b=if iL k 0 a b then F a b*G else F a b)/\eO wr w5.heap.size n R n (.slice (some ⟨go,0,none⟩) n cv)/\(∀i,i<n->wr.cell? ⟨go,i,none⟩=some (.slice (some ⟨(gI i).1,0,none⟩) n (gI i).2))/\ag wr w8.heap.size 39 [.bool (aj (dN G)),.string (bs (nt (dN G).natAbs)),.int .i64 (dE G)]/\Bw w5 wr) (λx _=>n-(intOf x).toNat);case atStart=>exact⟨0,A,Nat.zero_le _,rfl,Gp.out,YP.out,λa b ha hb=>by rw[YN.out a b ha hb,if_neg (by unfold iL;omega)],OE.out,OY.out,PY.out,Oh.out⟩
 case round=>
  clear PY Oh OY OE s0 s1 s2 Hs r0 ah r1 ai r2 aB d0 d1 d2 Hr Hd Hb wW;obtain⟨k,R,hk,rfl,oM,oN,hRe,hO,hc,hs,pb⟩:=hrel;by_cases hlt:k<n
  . have di:=hc k hlt;obtain⟨g,c,kD⟩:∃g c,gI k=(g,c):=⟨_,_,rfl⟩;obtain⟨_,hg1,hg2,hg3⟩:=Ps.out k hlt;rw[kD]at di hg1 hg2 hg3;have aX:=yi n cv k (k:Int) (rfl:(some ⟨go,0,none⟩:Option Addr)=_) hlt rfl;rw[Nat.zero_add,Nat.mul_one]at aX;have hin:∃(j:Nat) (R:List (List Dyadic)),j=0/\R.length=n/\(∀r∈R,r.length=n)/\(∀a b,a<n->b<n->bW R a b=if iL k j a b then F a b*G else F a b)/\eO wr w5.heap.size n R n (.slice (some ⟨go,0,none⟩) n cv)/\(∀i,i<n->wr.cell? ⟨go,i,none⟩=some (.slice (some ⟨(gI i).1,0,none⟩) n (gI i).2))/\ag wr w8.heap.size 39 [.bool (aj (dN G)),.string (bs (nt (dN G).natAbs)),.int .i64 (dE G)]/\Bw w5 wr:=⟨0,R,rfl,oM,oN,hRe,hO,hc,hs,pb⟩;obtain⟨sW,CQ⟩:=aJ hin kD;clear hin oM oN hRe hO hc hs pb kD;obtain⟨wq,hwq⟩:∃wq,wq=wr:=⟨_,rfl⟩;subst hwq;go_wp2_with fail;go_loopw[43] (λx wr=>∃(j:Nat) (R:List (List Dyadic)),j<=n/\x=.int .i64 (j:Int)/\R.length=n/\(∀r∈R,r.length=n)/\(∀a b,a<n->b<n->bW R a b=if iL k j a b then F a b*G else F a b)/\eO wr w5.heap.size n R n (.slice (some ⟨go,0,none⟩) n cv)/\(∀i,i<n->wr.cell? ⟨go,i,none⟩=some (.slice (some ⟨(gI i).1,0,none⟩) n (gI i).2))/\ag wr w8.heap.size 39 [.bool (aj (dN G)),.string (bs (nt (dN G).natAbs)),.int .i64 (dE G)]/\Bw w5 wr) (λx _=>n-(intOf x).toNat);case atStart=>obtain⟨j,R,rfl,h⟩:=sW.out;exact⟨0,R,Nat.zero_le _,rfl,h⟩
    case round=>
     clear sW di aX;obtain⟨j,R,hj,rfl,oM,oN,hRe,hO,hc,hs,pb⟩:=hrel;by_cases aZ:j<n
     . have hrl:(R.getD k []).length=n:=by
        have e:R.getD k []=R[k]'zo:=by rw[List.getD_eq_getElem?_getD,List.getElem?_eq_getElem zo];rfl
        rw[e];exact oN _ (List.getElem_mem _)
       have di:=hc k hlt;rw[CQ.out]at di;have hpick:∀W,eO W w5.heap.size n R n (.slice (some ⟨go,0,none⟩) n cv)->W.cell? ⟨go,k,none⟩=some (.slice (some ⟨g,0,none⟩) n c)->bg W g (j*3) [.bool (aj (dN (F k j))),.string (bs (nt (dN (F k j)).natAbs)),.int .i64 (dE (F k j))]/\(∀o,W.frozen? ⟨g,o,none⟩=false)/\∀y:Dyadic,eO (((W.setCell ⟨g,j*3,none⟩ (.bool (aj (dN y)))).setCell ⟨g,j*3+1,none⟩ (.string (bs (nt (dN y).natAbs)))).setCell ⟨g,j*3+2,none⟩ (.int .i64 (dE y))) w5.heap.size n (R.set k ((R.getD k []).set j y)) n (.slice (some ⟨go,0,none⟩) n cv):=by
        intro W hO di;obtain⟨go',cap',g',c',hv,_,_,hne,hcell,dZ,hfz,hup⟩:=hO.num k j hlt aZ oM hrl;simp only[Value.slice.injEq,Option.some.injEq,Addr.mk.injEq,and_true,true_and]at hv;obtain⟨rfl,rfl⟩:=hv;rw[di]at hcell;simp only[Option.some.injEq,Value.slice.injEq,Addr.mk.injEq,and_true,true_and]at hcell;obtain⟨rfl,rfl⟩:=hcell;have he:(R.getD k []).getD j 0=F k j:=by have h:=hRe k j hlt aZ;rw[if_neg (by unfold iL;omega)]at h;exact h
        rw[he]at dZ;exact⟨dZ,hfz,hup⟩
       obtain⟨dZ,_,_⟩:=hpick wr hO di;have Kr:=YQ.out k j hlt aZ;obtain⟨Y,hY⟩:=az (F k j*G);have hsl:=akt oM oN k j hlt Y;have hen:∀a b,a<n->b<n->bW (R.set k ((R.getD k []).set j Y)) a b=if iL k (j+1) a b then F a b*G else F a b:=by
        intro a b ha hb;rw[ae2 oM oN k j hlt aZ Y a b ha hb];by_cases e:a=k/\b=j
        . obtain⟨rfl,rfl⟩:=e;rw[if_pos ⟨rfl,rfl⟩,if_pos (by unfold iL;omega),hY]
        . rw[if_neg e,hRe a b ha hb];have:iL k j a b↔iL k (j+1) a b:=by unfold iL;omega
          by_cases h:iL k j a b
          . rw[if_pos h,if_pos (this.1 h)]
          . rw[if_neg h,if_neg (λh2=>h (this.2 h2))]
       obtain⟨E,hE⟩:=az (F k j);have HY:Hid (ar (canon E) *ar (canon G)=Y):=by show _=_;rw[bC,bC,<-hE];exact hY
       rw[hE]at dZ Kr hpick;have Bc:=sk n c j (j:Int) (rfl:(some ⟨g,0,none⟩:Option Addr)=_) aZ rfl;rw[Nat.zero_add]at Bc;obtain⟨R2,AK⟩:=az (R.set k ((R.getD k []).set j Y));have hpk:=λW h1 h2=>(hpick W h1 h2).2.2 Y;have Vd:=λW h1 h2=>(hpick W h1 h2).2.1;rw[AK]at hsl hen hpk;have Hz:Hid (bg wr g (j*3) [.bool (aj (dN E)),.string (bs (nt (dN E).natAbs)),.int .i64 (dE E)]):=dZ;have Hs:Hid (ag wr w8.heap.size 39 [.bool (aj (dN G)),.string (bs (nt (dN G).natAbs)),.int .i64 (dE G)]):=hs;obtain⟨HO,ZT,iI,aR,IY,Hen,Hpk,Hpz,YO,uO⟩:=uk hO hc di pb hsl hen hpk Vd Kr (HT.out.below (aG eu.out pb));have szw:=pb.size;clear hO hc di pb hsl hen hpk Vd Kr hs dZ hpick AK hE hY oM oN hRe hrl;have Hb:Hid (Bw wr wr):=Below.refl _ _;have hs8:=Hs.out.lt;go_wp2_with fail;obtain⟨z0,z1,z2⟩:=Hz.out.w3;obtain⟨s0,s1,s2⟩:=Hs.out.c3;have HU:Hid (au wr):=uO.out;refine cf (λw'=>w'.cell? ⟨g,j*3,none⟩=some (.bool (aj (dN E)))/\w'.cell? ⟨g,j*3+1,none⟩=some (.string (bs (nt (dN E).natAbs)))/\w'.cell? ⟨g,j*3+2,none⟩=some (.int .i64 (dE E))/\w'.cell? ⟨w8.heap.size,0,none⟩=some (.bool (aj (dN G)))/\w'.cell? ⟨w8.heap.size,1,none⟩=some (.string (bs (nt (dN G).natAbs)))/\w'.cell? ⟨w8.heap.size,2,none⟩=some (.int .i64 (dE G))) (λi=>Nat.blt i 10) [(0,true),(1,true),(2,true),(3,true),(4,true),(5,true),(6,true),(7,false),(8,false),(9,true),(10,false)] zk zk rfl zk zc ⟨z0,z1,z2,s0,s1,s2⟩ ?_;iterate 7 (refine pT rfl rfl ?_ (by intro w' ⟨q0,q1,q2,q3,q4,q5⟩;go_simp;try with_reducible rfl);try simp only[UU])
       refine aF rfl rfl (λK hK=>?_);go_simp;refine hK _ _ (λ_=>⟨aH z0,aH z1,aH z2,aH s0,aH s1,aH s2⟩) ?_;clear hK K;try simp only[UU]
       refine cj (λW4=>ag W4 (wr.heap.size) 39 [.bool (aj (dN E)),.string (bs (nt (dN E).natAbs)),.int .i64 (dE E),.bool (aj (dN G)),.string (bs (nt (dN G).natAbs)),.int .i64 (dE G)]/\Bw wr W4) (by first|exact fy|exact fA) ?_;rintro W4 ⟨qv,ae⟩;clear z0 z1 z2 s0 s1 s2;have aih:=Hs.out.lt;replace Hz:=kW Hz ae;replace Hs:=kB Hs ae;replace HU:=kT HU ae;have Hv:=af qv;clear qv;obtain⟨z0,z1,z2⟩:=Hz.out.w3;obtain⟨s0,s1,s2⟩:=Hs.out.c3;obtain⟨v0,v1,v2,v3,v4,v5⟩:=Hv.out.c6;replace Hb:=ak Hb ae;clear ae;refine aF rfl rfl (λK hK=>?_);go_simp;with_reducible refine(tG _ _ _ _ _ _ Y (4*B+11) HY.out wr.heap.size _ 39 _ YO.out YY.out zo Hv.out (by first|exact HU.out|exact au.drew HU.out|exact au.alloc HU.out _|exact au.drew (au.alloc HU.out _) |exact au.alloc (au.drew HU.out) _)).mono ?_
       rintro e cV ⟨rfl,hq⟩;have ae:Bw W4 cV:=by first|exact hq|exact aK hq
       clear z0 z1 z2 s0 s1 s2 v0 v1 v2 v3 v4 v5;replace Hz:=kW Hz ae;replace Hs:=kB Hs ae;replace HU:=kT HU ae;replace Hv:=kB Hv ae;obtain⟨z0,z1,z2⟩:=Hz.out.w3;obtain⟨s0,s1,s2⟩:=Hs.out.c3;obtain⟨v0,v1,v2,v3,v4,v5⟩:=Hv.out.c6;replace Hb:=ak Hb ae;clear ae;refine hK _ _ (λ_=>⟨z0,z1,z2,s0,s1,s2⟩) ?_;clear hK K;try simp only[UU]
       refine pT rfl rfl ?_;try simp only[UU]
       refine aF rfl rfl (λK hK=>?_);have KH:=HO.out.below Hb.out;have LA:=cell_later Hb.out iI.out;have hfz:=Hpz.out cV KH LA;have oI:=hfz (j*3);have lW:=hfz (j*3+1);have Kp:=hfz (j*3+2);have hup:=Hpk.out cV KH LA;have rP:=aG aR.out Hb.out;obtain⟨Jc,ze⟩:=aJ hup rP;clear KH LA hfz hup rP;go_simp;refine hK _ _ (λh=>absurd h zd) ?_;clear hK K;try simp only[UU]
       simp only[aN];go_wp2;refine⟨⟨j+1,R2,by omega,by go_num,IY.out.1,IY.out.2,Hen.out,Jc.out,λi hi=>?_,?_,?_⟩,by simp[intOf];omega⟩
       . have hne:(⟨go,i,none⟩:Addr).block≠g:=λe=>hg3 e.symm;exact aC (.inl hne) (aC (.inl hne) (aC (.inl hne) (cell_later Hb.out (ZT.out i hi))))
       . have hne:g≠w8.heap.size:=by omega
         exact((Hs.out.aqG _ hne _).aqG _ hne _).aqG _ hne _
       . exact((ze.out.setCell hg1 _).setCell hg1 _).setCell hg1 _
     . obtain rfl:j=n:=by omega
       have jS:(∀a b,a<j->b<j->bW R a b=if iL (k+1) 0 a b then F a b*G else F a b):=by
        intro a b ha hb;rw[hRe a b ha hb];have:iL k j a b↔iL (k+1) 0 a b:=by unfold iL;omega
        by_cases h:iL k j a b
        . rw[if_pos h,if_pos (this.1 h)]
        . rw[if_neg h,if_neg (λh2=>h (this.2 h2))]
       have hres:(∃k' R,k'<=j/\k'=k+1/\R.length=j/\(∀r∈R,r.length=j)/\(∀a b,a<j->b<j->bW R a b=if iL k' 0 a b then F a b*G else F a b)/\eO wr w5.heap.size j R j (.slice (some ⟨go,0,none⟩) j cv)/\(∀i,i<j->wr.cell? ⟨go,i,none⟩=some (.slice (some ⟨(gI i).1,0,none⟩) j (gI i).2))/\ag wr w8.heap.size 39 [.bool (aj (dN G)),.string (bs (nt (dN G).natAbs)),.int .i64 (dE G)]/\Bw w5 wr):=⟨k+1,R,by omega,rfl,oM,oN,jS,hO,hc,hs,pb⟩;have fg:=af hres;clear hres jS oM oN hRe hO hc hs pb;go_wp2;go_roundw;case rel=>obtain⟨k',R,h1,rfl,h⟩:=fg.out;exact⟨k+1,R,h1,by go_num,h⟩
       case measure=>simp[intOf];omega
  . obtain rfl:k=n:=by omega
    have hRf:R=ou k P:=rq.out R oM oN (λa b ha hb=>by rw[hRe a b ha hb,if_pos (by unfold iL;omega)]);subst hRf;obtain⟨Zl,aR⟩:=aJ hO pb;clear hO hc hs pb oM oN hRe;obtain⟨Hr,Hd,Hb⟩:=cP (kX.out.below aR.out) (Pe.out.below aR.out) (aG eu.out aR.out);obtain⟨r0,ah,r1,ai,r2,aB⟩:=Hr.out.g3;obtain⟨d0,d1,d2⟩:=Hd.out.c3;go_wp2_with fail;refine(mR.out _ Hb.out).mono ?_;rintro e uJ ⟨rfl,tO,ae⟩;clear r0 ah r1 ai r2 aB d0 d1 d2;replace Hr:=kB Hr ae;replace Hd:=kB Hd ae;obtain⟨r0,ah,r1,ai,r2,aB⟩:=Hr.out.g3;obtain⟨d0,d1,d2⟩:=Hd.out.c3;replace Hb:=ak Hb ae;clear ae;have Zk:=af (Zl.out.below tO);clear tO;have hzz:=eu.out.size;have jd:w.heap.size<w5.heap.size:=Nat.lt_of_lt_of_le kX.out.lt (Nat.le_refl _);go_wp2;refine eK (λyK=>ag yK w.heap.size 39 [.bool (aj (dN (G*X))),.string (bs (nt (dN (G*X)).natAbs)),.int .i64 (dE (G*X))]/\eO yK w5.heap.size k (ou k P) k (.slice (some ⟨go,0,none⟩) k cv)/\Bw w yK) ⟨((Hr.out.set 0 _).set 1 _).set 2 _,((Zk.out.aqN jd _).aqN jd _).aqN jd _,((Hb.out.setCell zp _).setCell zp _).setCell zp _⟩ ?_;rintro yK ⟨agV,agM,age⟩;obtain⟨q0,q1,q2⟩:=agV.c3;obtain⟨a9,c9,mz,Eo,ES⟩:=agM.tbl (Jw _ _) (Jx _ _);simp only[Value.slice.injEq,true_and]at mz;obtain⟨rfl,rfl⟩:=mz;exact bodyPost_ret (v:=.tuple #[bQ (G*X),.slice (some ⟨go,0,none⟩) k cv,.int .i64 0]) (by simp[results,Tryz.results96,go_sem,q0,q1,q2]) rfl ⟨_,_,rfl,Eo,ES,age⟩
theorem ajo {w:World}{b base n:Nat}{e:TypeId}{size:Nat}{xs:List Value}(h:ag w b e xs)(hb:base<=b)(hl:xs.length=n*size)(hn:n<=1048576):w.ownsRow base e size (.slice (some ⟨b,0,none⟩) n n) n xs:=
 ⟨hl,.inr ⟨b,n,xs.toArray,rfl,hb,h,Nat.le_refl _,by unfold maxLen;omega,by simpa using hl,by rw[<-hl];simp⟩⟩
theorem cn.aqS {w:World}{a:Option Addr}{T:List (List Dyadic)}{n:Nat}(h:cn w a (T.map λr=>r.map canon))(hl:T.length=n)(hr:∀r∈T,r.length=n)(k i:Nat)(hk:k<n)(hi:i<n):
 ∃b o br os cr,a=some ⟨b,o,none⟩/\w.cell? ⟨b,o+k,none⟩=some (.slice (some ⟨br,os,none⟩) n cr)/\bg w br (os+i*3) [.bool (aj (dN (bW T k i))),.string (bs (nt (dN (bW T k i)).natAbs)),.int .i64 (dE (bW T k i))]:=by
 have EB:k<T.length:=by omega
 obtain⟨b,o,a',c',h1,h2,h3⟩:=h.row k (by simpa using EB);have e1:(T.map λr=>r.map canon)[k]'(by simpa using EB)=T[k].map canon:=by simp
 have hlk:=hr _ (List.getElem_mem EB);rw[e1]at h2 h3;rw[List.length_map,hlk]at h2;have hik:i<T[k].length:=by omega
 have e2:bW T k i=T[k][i]:=by unfold bW;simp[List.getD_eq_getElem?_getD,EB,hik]
 obtain⟨br,os,e3,q0,q1,q2⟩:=h3.num i (by simpa using hik) (show(T[k].map canon)[i]'(by simpa using hik)=(aj (dN (bW T k i)),nt (dN (bW T k i)).natAbs,dE (bW T k i))by rw[e2];simp;rfl);subst e3;exact⟨b,o,br,os,c',h1,h2,nU q0 q1 q2⟩
theorem ajU {n B:Nat}{rows:List (List Raw)}(hr:Rw n B rows)(a b:Nat)(ha:a<=n)(hb:b<n):Sm B (dP rows a b):=by have hL:=hr.1;rw[qO rows a b zo (by rw[hr.2.1 _ (List.getElem_mem _)];exact hb)];exact(hr.2.2 _ (List.getElem_mem _) _ (List.getElem_mem _)).2
theorem Kk {V B:Nat}{l:List aI}(hV:V<=12)(hm:∀t∈l,fP t.1 V=true)(hl:l.length<=4096)(hs:∀x∈l,Sm B (ar x.2))(hB:B+l.length<=268435456):jl V (B+l.length) (bT l):=by refine⟨adX hV hm hl,λt ht=>?_⟩;have h1:=adY hs t ht;have h2:=((Ag l).2 t ht).2;rw[h2];exact h1.fit hB
theorem jl.mono {V B B':Nat}{ts:List aI}(h:jl V B ts)(hB:B<=B'):jl V B' ts:=⟨h.1,λt ht=>(h.2 t ht).mono hB⟩
theorem MB {V B:Nat}{c:Dyadic}{l:Nat->Dyadic}{k:Nat}(hV:V<=12)(hk:k<=V)(hc:Sm B c)(hl:∀j,j<k->Sm B (l j))(hB:B+13<=268435456):jl V (B+13) (dz V c l k):=by have h:=Kk (B:=B) hV (ahG V c l k) (by rw[yn];omega) (ahH V c l k hc hl) (by rw[yn];omega);rw[yn]at h;exact h.mono zo
theorem Yr {V B:Nat}{k:Nat}{x:Dyadic}(hV:V<=12)(hx:Sm B x)(hB:B+1<=268435456):jl V (B+1) (bT [(dF V k,canon x)]):=
 Kk (l:=[(dF V k,canon x)]) hV (by intro t ht;simp at ht;subst ht;exact NL V k) zm (by intro t ht;simp at ht;subst ht;show Sm B (ar (canon x));rw[bC];exact hx) (by simpa using hB)
theorem akq (V k:Nat)(x:Dyadic):bT (eZ x (bT [(dF V k,canon 1)]))=bT [(dF V k,canon x)]:=by refine xI (λm=>?_);rw[Re,rH];simp only[cd,bC];split<;>grind
theorem Qw (V B:Nat)(A D C:List aI)(aA aD:Option Addr)(cA cD:Nat)(w:World)(b:Nat)(hb:ag w b 91 [.int .i64 (V:Int),.slice aA A.length cA,.int .i64 (V:Int),.slice aD D.length cD])(hA:cN w aA cA A)(hD:cN w aD cD D)(hfA:jl V B A)(hfD:jl V B D)(hn:A.length+D.length<=4096)(hB:B+2+8192<=268435456)(hT:au w)(hC:bT (A++D)=C):
 Calls Tryz.prog 101 #[.slice (some ⟨b,0,none⟩) 2 2] w λex w'=>∃a' c',ex=.returned (.tuple #[.agg #[.int .i64 (V:Int),.slice a' C.length c'],.int .i64 0])/\cN w' a' c' C/\Bw w w':=by
 refine acx V B b 0 2 2 [⟨V,aA,A.length,cA⟩,⟨V,aD,D.length,cD⟩] (λk=>if k=0 then A else D) C w rfl zd zd (At.aqF hb) ?_ ?_ hB hT ?_
 . intro k hk;rcases k with _|k
   . exact⟨aA,cA,rfl,hA,hfA⟩
   . obtain rfl:k=0:=by simp at hk;omega
     exact⟨aD,cD,rfl,hD,hfD⟩
 . simp[kx];omega
 . simpa[kx]using hC
theorem ahL (V B:Nat)(c:Dyadic)(L:List Dyadic)(l:Nat->Dyadic)(a:Option Addr)(cap:Nat)(w:World)(hV:V<=12)(hL:L.length=V)(hl:∀k (h:k<L.length),l k=L[k])(hcs:Sm B c)(hls:∀x∈L,Sm B x)(hB:B<=100000000)(ha:At w a (dC L))(hT:au w):
 Calls Tryz.prog 99 #[.agg #[.bool (aj (dN c)),.string (bs (nt (dN c).natAbs)),.int .i64 (dE c)],.slice a V cap] w λex w'=>∃a' c',ex=.returned (.tuple #[.agg #[.int .i64 (V:Int),.slice a' (dz V c l V).length c'],.int .i64 0])/\cN w' a' c' (dz V c l V)/\Bw w w':=by
 have hcn:=λW (hW:Bw w W)=>Rf V (aj (dN c)) (nt (dN c).natAbs) (dE c) c B l W hV (hcs.fit zo) zo (hT.below hW) (bC c);have yg:=λk (hk:k<V) W (hW:Bw w W)=>alE V k W hV hk (hT.below hW);have hlk:∀k,k<V->Sm B (l k):=λk hk=>by rw[hl k zo];exact hls _ (List.getElem_mem _)
 have hsc:=λk (hk:k<V) a' c' (W:World) (hW:Bw w W) (hp:cN W a' c' (bT [(dF V k,canon 1)]))=>Xw V a' c' (bT [(dF V k,canon 1)]) (aj (dN (l k))) (nt (dN (l k)).natAbs) (dE (l k)) (l k) (B+2) W (Yr (B:=B+1) hV (Sm.one.mono zo) zo) hp (((hlk k hk).mono zo).fit zo) zo (hT.below hW) (bC _);simp only[akq]at hsc;have had:=λk (hk:k<V) aA cA aD cD (W:World) (hW:Bw w W) b (hb:ag W b 91 [.int .i64 (V:Int),.slice aA (dz V c l k).length cA,.int .i64 (V:Int),.slice aD (bT [(dF V k,canon (l k))]).length cD]) (hA:cN W aA cA (dz V c l k)) (hD:cN W aD cD (bT [(dF V k,canon (l k))]))=>Qw V (B+13) (dz V c l k) (bT [(dF V k,canon (l k))]) (dz V c l (k+1)) aA aD cA cD W b hb hA hD (MB hV zo hcs (λj hj=>hlk j zo) zo) ((Yr (B:=B) hV (hlk k hk) zo).mono zo) (by have h1:=Ah (gh V c l k);have h2:=Ah [(dF V k,canon (l k))];rw[yn]at h1;simp at h2;unfold dz;omega) zo (hT.below hW) (ahI V c l k);obtain⟨n0,hn0⟩:=az ((dz V c l 0).length);rw[hn0]at hcn;obtain⟨rh,Hvr,uX,uP,Hl,HL,Ha,rB⟩:=mB hcn yg hsc had hl hL ha hn0;clear hcn yg hsc had hl hL ha hT hlk hls hcs hn0;have Hb:Hid (Bw w w):=Below.refl _ _;go_enter Tryz.func99,Tryz.ntmps99;go_wp2_with fail;obtain⟨R,hR⟩:∃R:World->Prop,(λW=>ag W (w.heap.size) 39 [.bool (aj (dN c)),.string (bs (nt (dN c).natAbs)),.int .i64 (dE c)]/\ag W (w.heap.size+1) 91 [.int .i64 0,.slice none 0 0]/\Bw w W)=R:=⟨_,rfl⟩;first|refine bB R ?hR ?_|refine bz R ?hR ?_
 case hR=>subst hR;exact⟨((ag.newAt w _ _ (b:=w.heap.size) rfl).alloc _),(ag.newAt (w.alloc _) _ _ (b:=w.heap.size+1) zm),(zl.alloc zj _)⟩
 subst hR;rintro W ⟨qc,qr,ae⟩;have Hc:=af qc;clear qc;have Hr:=af qr;clear qr;obtain⟨c0,c1,c2⟩:=Hc.out.c3;obtain⟨r0,ah,r1,ai⟩:=Hr.out.g2;replace Hb:=ak Hb ae;clear ae;go_wp2_with fail;refine(rh.out _ Hb.out).mono ?_;rintro e w1 ⟨a1,d1,rfl,hp1,ae⟩;clear c0 c1 c2 r0 ah r1 ai;replace Hc:=kB Hc ae;replace Hr:=kB Hr ae;obtain⟨c0,c1,c2⟩:=Hc.out.c3;obtain⟨r0,ah,r1,ai⟩:=Hr.out.g2;replace Hb:=ak Hb ae;clear ae;have GP:=Hc;have kX:=Hr;have eu:=Hb;have gP:=af hp1;clear hp1;have ah8:=Hc.out.lt;have nO:=Hr.out.lt;obtain⟨W2,kz,ae,Ho⟩:=bH w1 91 [.int .i64 (V:Int),.slice a1 n0 d1];clear c0 c1 c2;replace Hc:=kB Hc ae;clear r0 ah r1 ai;replace Hr:=kB Hr ae;obtain⟨c0,c1,c2⟩:=Hc.out.c3;obtain⟨r0,ah,r1,ai⟩:=Hr.out.g2;obtain⟨o0,gH,o1,gJ⟩:=Ho.out.g2;replace Hb:=ak Hb ae;clear ae;have sZ:Hid (cN W2 a1 d1 (dz V c l 0)):=gP.out.below (by first|exact zl| (rw[<-kz];exact zl));have Oe:Hid (Bw w1 W2):=by rw[<-kz];exact zl
 go_wp2_with fail;go_loopw[7,8] (λs7 x wr=>∃(k:Nat) (a':Option Addr) (n' c':Nat),k<=V/\x=.int .i64 (k:Int)/\s7=.int .i64 0/\(dz V c l k).length=n'/\ag wr w1.heap.size 91 [.int .i64 (V:Int),.slice a' n' c']/\cN wr a' c' (dz V c l k)/\Bw w1 wr) (λ_ x _=>V-(intOf x).toNat);case atStart=>exact⟨0,a1,n0,d1,Nat.zero_le _,rfl,rfl,rB.out,Ho.out,sZ.out,Oe.out⟩
 case round=>
  clear c0 c1 c2 o0 o1 r0 r1 gH gJ ah ai sZ Oe gP Ho Hc Hr Hb;obtain⟨k,a',n',c',hk,rfl,rfl,hn,ho,hp,pb⟩:=hrel;obtain⟨Ho,Hp,aR,Hn⟩:=dt ho hp pb hn;have ft:=eu.out;have lM:=pb.size;have sN:=ft.size;by_cases hlt:k<V
  . have vM:k<(L.map canon).length:=by rw[List.length_map,HL.out];exact hlt
    have hat':=Ha.out.below (aG eu.out pb);rw[Aj]at hat';obtain⟨X,hX⟩:=az (l k);obtain⟨bx,ox,rfl,p0,p1,p2⟩:=hat'.num k vM (show(L.map canon)[k]=(aj (dN X),nt (dN X).natAbs,dE X)by rw[<-hX,Hl.out k (by simpa using vM)];simp;rfl);have ixx:=sk V cap k (k:Int) (rfl:(some ⟨bx,ox,none⟩:Option Addr)=_) hlt rfl;have lbx:bx<wr.heap.size:=World.block_lt_of_cell? wr _ p0;have yg:=Hvr.out k hlt;have hsc:=uX.out k hlt;have had:=uP.out k hlt;rw[hn,hX]at had;rw[hX]at hsc;obtain⟨n1,dY⟩:∃n,(bT [(dF V k,canon 1)]).length=n:=⟨_,rfl⟩;obtain⟨n2,jS⟩:∃n,(bT [(dF V k,canon X)]).length=n:=⟨_,rfl⟩;obtain⟨n3,nE⟩:∃n,(dz V c l (k+1)).length=n:=⟨_,rfl⟩;rw[jS,nE]at had;rw[dY,jS]at hsc;rw[dY]at yg;obtain⟨kZ,pM,GH,IH⟩:=dt yg hsc had nE;have Hx:Hid (bg wr bx (ox+k*3) [.bool (aj (dN X)),.string (bs (nt (dN X).natAbs)),.int .i64 (dE X)]):=nU p0 p1 p2;have gN:=af (aG eu.out pb);clear yg hsc had dY jS nE hat' vM hX p0 p1 p2 ho hp pb hn ft;have Hb:Hid (Bw wr wr):=Below.refl _ _;have hlo:=Ho.out.lt;obtain⟨o0,gH,o1,gJ⟩:=Ho.out.g2;obtain⟨x0,x1,x2⟩:=Hx.out.w3;go_wp2_with fail;refine(kZ.out _ (aG gN.out Hb.out)).mono ?_;rintro e w3 ⟨a3,d3,rfl,BA,ae⟩;clear o0 gH o1 gJ x0 x1 x2;replace Ho:=kB Ho ae;replace Hx:=kW Hx ae;obtain⟨o0,gH,o1,gJ⟩:=Ho.out.g2;obtain⟨x0,x1,x2⟩:=Hx.out.w3;replace Hb:=ak Hb ae;clear ae;have mU:=af BA;have FZ:=Hb.out.size;clear BA;have aid:=Ho.out.lt;obtain⟨W4,jP,ae,Hv⟩:=bH w3 91 [.int .i64 (V:Int),.slice a3 n1 d3];clear o0 gH o1 gJ;replace Ho:=kB Ho ae;clear x0 x1 x2;replace Hx:=kW Hx ae;obtain⟨o0,gH,o1,gJ⟩:=Ho.out.g2;obtain⟨x0,x1,x2⟩:=Hx.out.w3;obtain⟨v0,Kn,v1,Ko⟩:=Hv.out.g2;replace Hb:=ak Hb ae;clear ae;have HQ:Hid (cN W4 a3 d3 (bT [(dF V k,canon 1)])):=mU.out.below (by first|exact zl| (rw[<-jP];exact zl));go_wp2_with fail;refine cf (λw'=>w'.cell? ⟨bx,ox+k*3,none⟩=some (.bool (aj (dN X)))/\w'.cell? ⟨bx,ox+k*3+1,none⟩=some (.string (bs (nt (dN X).natAbs)))/\w'.cell? ⟨bx,ox+k*3+2,none⟩=some (.int .i64 (dE X))) (λi=>Nat.blt i 100000) [(1,true),(2,true),(3,true),(4,true),(0,false),(5,false),(6,true),(7,true),(8,true),(9,false)] zk zk rfl zk zc ⟨x0,x1,x2⟩ ?_;iterate 4 (refine pT rfl rfl ?_ (by intro w' ⟨q0,q1,q2⟩;go_simp;try with_reducible rfl);try simp only[UU])
    refine aF rfl rfl (λK hK=>?_);go_simp;refine hK _ _ (λ_=>⟨x0,x1,x2⟩) ?_;clear hK K;try simp only[UU]
    refine aF rfl rfl (λK hK=>?_);go_simp;with_reducible refine(pM.out a3 d3 _ (by first|exact aG gN.out Hb.out|exact aG gN.out Hb.out.drew) (by first|exact HQ.out|exact HQ.out.below (Below.refl _ _).drew)).mono ?_
    rintro e w5 ⟨a5,d5,rfl,UW,hq⟩;have ae:Bw W4 w5:=by first|exact hq|exact aK hq
    clear o0 gH o1 gJ x0 x1 x2 v0 Kn v1 Ko;replace Ho:=kB Ho ae;replace Hx:=kW Hx ae;replace Hv:=kB Hv ae;replace HQ:=af (HQ.out.below ae);obtain⟨o0,gH,o1,gJ⟩:=Ho.out.g2;obtain⟨x0,x1,x2⟩:=Hx.out.w3;obtain⟨v0,Kn,v1,Ko⟩:=Hv.out.g2;replace Hb:=ak Hb ae;clear ae;refine hK _ _ (λ_=>⟨x0,x1,x2⟩) ?_;clear hK K;try simp only[UU]
    iterate 3 (refine pT rfl rfl ?_;try simp only[UU])
    refine aF rfl rfl (λK hK=>?_);go_simp;refine hK _ _ (by first|exact λh=>absurd h zd|exact λ_=>⟨x0,x1,x2⟩ |exact λ_=>⟨(by first|exact x0|exact aC zf x0|exact aC zf (aC zf x0) |exact aC zf (aC zf (aC zf x0))),(by first|exact x1|exact aC zf x1|exact aC zf (aC zf x1) |exact aC zf (aC zf (aC zf x1))),(by first|exact x2|exact aC zf x2|exact aC zf (aC zf x2) |exact aC zf (aC zf (aC zf x2)))⟩) ?_;clear hK K;try simp only[UU]
    simp only[aN];have Mk:=Hv.out;generalize AQ:(w5.setCell ⟨w3.heap.size,0,none⟩ (.int .i64 (V:Int))).setCell ⟨w3.heap.size,1,none⟩ (.slice a5 n2 d5)=W6;have UX:cN W6 a5 d5 (bT [(dF V k,canon X)]):=by rw[<-AQ];exact UW.store Mk zd _ _
    have Bt:ag W6 w1.heap.size 91 [.int .i64 (V:Int),.slice a' n' c']:=by rw[<-AQ];exact(Ho.out.so w3.heap.size 0 zo _).so w3.heap.size 1 zo _
    have cX:ag W6 w3.heap.size 91 [.int .i64 (V:Int),.slice a5 n2 d5]:=by rw[<-AQ];exact(Mk.set 0 _).set 1 _
    have Tx:Bw wr W6:=by rw[<-AQ];exact(Hb.out.setCell FZ _).setCell FZ _
    replace Ho:=af Bt;replace Hv:=af cX;replace Hb:=af Tx;have Hp6:=af UX;clear Bt cX Tx UX UW Mk AQ o0 o1 gH gJ v0 v1 Kn Ko x0 x1 x2;obtain⟨o0,gH,o1,gJ⟩:=Ho.out.g2;obtain⟨v0,v1⟩:=Hv.out.c2;have P0:=o0;have P1:=o1;have Q0:=v0;have Q1:=v1;have ao9:=Ho.out.lt;have apF:=Hv.out.lt;obtain⟨W7,af7,ae,Hz⟩:=bH W6 91 [.int .i64 (V:Int),.slice a' n' c',.int .i64 (V:Int),.slice a5 n2 d5];clear o0 gH o1 gJ;replace Ho:=kB Ho ae;clear v0 v1;replace Hv:=kB Hv ae;obtain⟨o0,gH,o1,gJ⟩:=Ho.out.g2;obtain⟨v0,v1⟩:=Hv.out.c2;obtain⟨z0,z1,z2,z3⟩:=Hz.out.c4;replace Hb:=ak Hb ae;clear ae;have HP:Hid (cN W7 a' c' (dz V c l k)):=Hp.out.below Hb.out;have HS:Hid (cN W7 a5 d5 (bT [(dF V k,canon X)])):=Hp6.out.below (by first|exact zl| (rw[<-af7];exact zl));go_wp2_with fail;clear P0 P1 Q0 Q1;go_wp2_with fail;refine(GH.out _ _ _ _ _ (aG gN.out Hb.out) _ Hz.out HP.out HS.out).mono ?_;rintro e w8 ⟨a8,d8,rfl,UZ,ae⟩;clear o0 gH o1 gJ v0 v1 z0 z1 z2 z3;replace Ho:=kB Ho ae;replace Hv:=kB Hv ae;replace Hz:=kB Hz ae;replace HP:=af (HP.out.below ae);replace HS:=af (HS.out.below ae);obtain⟨o0,gH,o1,gJ⟩:=Ho.out.g2;obtain⟨v0,v1⟩:=Hv.out.c2;obtain⟨z0,z1,z2,z3⟩:=Hz.out.c4;replace Hb:=ak Hb ae;clear ae;have Ur:=cN.store UZ Ho.out zd (.int .i64 (V:Int)) (.slice a8 n3 d8);obtain⟨Hl8,lS⟩:=aJ Ur (aG aR.out Hb.out);clear UZ Ur;go_wp2;go_roundw;case rel=>exact⟨k+1,a8,n3,d8,by omega,by go_num,rfl,IH.out,(Ho.out.set 0 _).set 1 _,Hl8.out,(lS.out.setCell (Nat.le_refl _) _).setCell (Nat.le_refl _) _⟩
    case measure=>simp[intOf];omega
  . obtain rfl:k=V:=by omega
    have Hr:=af (kX.out.below aR.out);have Hb:Hid (Bw w wr):=aG eu.out aR.out;have hsz:=kX.out.lt;obtain⟨o0,o1⟩:=Ho.out.c2;obtain⟨r0,ah,r1,ai⟩:=Hr.out.g2;go_wp2;have jx:=Hp.out.store Hr.out zd (.int .i64 (k:Int)) (.slice a' n' c');refine eK (λw9=>cN w9 a' c' (dz k c l k)/\ag w9 (w.heap.size+1) 91 [.int .i64 (k:Int),.slice a' n' c']/\Bw w w9) ⟨jx,(Hr.out.set 0 _).set 1 _,(Hb.out.setCell zp _).setCell zp _⟩ ?_;rintro w9 ⟨q1,q2,q3⟩;obtain⟨x0,x1⟩:=q2.c2;exact bodyPost_ret (v:=.tuple #[.agg #[.int .i64 (k:Int),.slice a' n' c'],.int .i64 0]) (by simp[results,Tryz.results99,go_sem,x0,x1]) rfl ⟨a',c',by rw[hn],q1,q3⟩
end Go.Proofs.YtoopepmmepmfnaaGreatDoor
namespace Go.Proofs.YtoopepmmepmfnaaGreatDoor
open Go.RowKit
def lJ (n:Nat)(P:Nat->Nat->Dyadic)(i:Nat):List aI:=dz n (wC n P i) (λk=>jq n P k i) n
def wz (n:Nat)(P:Nat->Nat->Dyadic)(i:Nat):List aI:=bT (eZ (-1) (lJ n P i))
def jw (n:Nat)(P:Nat->Nat->Dyadic)(i:Nat):List aI:=dz n (wZ n P (λ_=>0) i) (λb=>lZ n P b i) n
def gu (n:Nat)(P:Nat->Nat->Dyadic)(i j:Nat):List aI:=if j=0 then jw n P i else lJ n P (j-1)
def ky (n:Nat)(P:Nat->Nat->Dyadic)(i k:Nat):List Dyadic:=(List.range k).map λk=>jq n P k i
theorem ad9 (n:Nat)(P:Nat->Nat->Dyadic)(i k:Nat):(ky n P i k).length=k:=by simp[ky]
theorem ad8 (n:Nat)(P:Nat->Nat->Dyadic)(i k j:Nat)(h:j<(ky n P i k).length):(ky n P i k)[j]=jq n P j i:=by simp[ky]
theorem aea (n:Nat)(P:Nat->Nat->Dyadic)(i k:Nat):ky n P i (k+1)=ky n P i k++[jq n P k i]:=by unfold ky;rw[List.range_succ,List.map_append];rfl
theorem alK (n:Nat)(P:Nat->Nat->Dyadic)(i k:Nat):wS n P (λ_=>0) i k-P 0 k*jq n P k i=wS n P (λ_=>0) i (k+1):=by
 show _=wS n P (λ_=>0) i k+(0-P 0 k) *jq n P k i
 grind
theorem afh (n:Nat)(P:Nat->Nat->Dyadic)(l:Nat->Dyadic):dz n (wZ n P (λ_=>0) 0) l 0=jw n P 0:=by
 unfold jw dz;refine xI (λm=>?_);have h:∀k,cd (gh n (wZ n P (λ_=>0) 0) (λb=>lZ n P b 0) k) m=cd (gh n (wZ n P (λ_=>0) 0) l 0) m:=by
  intro k;induction k with
  |zero=>rfl
  |succ k ih=>rw[Dx,ih];simp[lZ]
 exact(h n).symm
theorem afg (n:Nat)(hn:1<=n)(cE:n<=4)(P:Nat->Nat->Dyadic)(i:Nat)(hi:i<n):bT (jw n P i++wz n P i)=jw n P (i+1):=by
 unfold jw wz lJ;rw[ahJ];have:wZ n P (λ_=>0) i-wC n P i=wZ n P (λ_=>0) (i+1):=by unfold wC;rw[YA n hn cE P _ i hi];rfl
 rw[this];rfl
theorem Oc {B n:Nat}:∀b,b<n->Sm B ((λ_=>0:Nat->Dyadic) b):=λ_ _=>Sm.zero _
theorem Yw {B n:Nat}{P:Nat->Nat->Dyadic}(hn:1<=n)(cE:n<=4)(h:∀a b,a<=n->b<n->Sm B (P a b))(i:Nat):Sm (5*B+20) (wC n P i):=(NT hn cE h Oc i n (Nat.le_refl _)).mono zo
theorem ahw {B n:Nat}{P:Nat->Nat->Dyadic}(hn:1<=n)(cE:n<=4)(h:∀a b,a<=n->b<n->Sm B (P a b))(b i:Nat):Sm (4*B+11+i) (lZ n P b i):=by
 induction i with
 |zero=>exact Sm.zero _
 |succ i ih=>exact(Sm.sub ih ((Dl hn cE h b i).mono zo)).mono zo
theorem VY {B n:Nat}{P:Nat->Nat->Dyadic}(hn:1<=n)(cE:n<=4)(h:∀a b,a<=n->b<n->Sm B (P a b))(hB:B<=1000000)(i:Nat):jl n (5*B+33) (lJ n P i):=
 MB (B:=5*B+20) zo (Nat.le_refl _) (Yw hn cE h i) (λj _=>(Dl hn cE h j i).mono zo) zo
theorem afe {B n:Nat}{P:Nat->Nat->Dyadic}(hn:1<=n)(cE:n<=4)(h:∀a b,a<=n->b<n->Sm B (P a b))(hB:B<=1000000)(i:Nat)(hi:i<=n):jl n (5*B+33) (jw n P i):=
 MB (B:=5*B+20) zo (Nat.le_refl _) ((alS hn cE h Oc i hi).mono zo) (λj _=>(ahw hn cE h j i).mono zo) zo
theorem Wb (n:Nat)(c:Dyadic)(l:Nat->Dyadic)(k:Nat):(dz n c l k).length<=k+1:=by have:=Ah (gh n c l k);rw[yn]at this;exact this
theorem VZ (n:Nat)(P:Nat->Nat->Dyadic)(i:Nat):(lJ n P i).length<=n+1:=Wb _ _ _ _
theorem aff (n:Nat)(P:Nat->Nat->Dyadic)(i:Nat):(jw n P i).length<=n+1:=Wb _ _ _ _
theorem ai4 (n:Nat)(P:Nat->Nat->Dyadic)(i:Nat):(wz n P i).length<=n+1:=by have h:=Ah (eZ (-1) (lJ n P i));have h2:=VZ n P i;unfold eZ at h;rw[List.length_map]at h;unfold wz eZ;omega
theorem ai3 {B n:Nat}{P:Nat->Nat->Dyadic}(hn:1<=n)(cE:n<=4)(h:∀a b,a<=n->b<n->Sm B (P a b))(hB:B<=1000000)(i:Nat):jl n (5*B+40) (wz n P i):=by
 have hf:=VY hn cE h hB i;have hl:=VZ n P i;have hsl:(eZ (-1) (lJ n P i)).length=(lJ n P i).length:=by unfold eZ;rw[List.length_map]
 refine(Kk (V:=n) (B:=5*B+35) (l:=eZ (-1) (lJ n P i)) zo ?_ zo ?_ zo).mono zo
 . intro t ht;unfold eZ at ht;obtain⟨x,hx,rfl⟩:=List.mem_map.1 ht;exact hf.1.2.1 x hx
 . intro t ht;unfold eZ at ht;obtain⟨x,hx,rfl⟩:=List.mem_map.1 ht;show Sm _ (ar (canon (ar x.2* -1)))
   rw[bC];exact(Sm.mul (hf.2 x hx).2 (Sm.neg Sm.one)).mono zo
theorem ajV (ps:List Pv)(V:Int)(a:Option Addr)(n c:Nat):(((ps.flatMap ji).set 0 (.int .i64 V)).set 1 (.slice a n c))=(ps.set 0 ⟨V,a,n,c⟩).flatMap ji:=by
 cases ps with
 |nil=>rfl
 |cons p ps=>rfl
theorem ajQ {W:World}{V B:Nat}{ps:List Pv}{Ts:Nat->List aI}{a:Option Addr}{c:Nat}{C:List aI}(h:gw W V B ps Ts)(hT:Ts ps.length=C)(hp:cN W a c C)(hf:jl V B C):gw W V B (ps++[⟨(V:Int),a,C.length,c⟩]) Ts:=by
 intro k hk;by_cases hl:k<ps.length
 . obtain⟨a',c',h1,h2,h3⟩:=h k hl;exact⟨a',c',by rw[List.getElem_append_left hl];exact h1,h2,h3⟩
 . have e:k=ps.length:=by simp at hk;omega
   subst e;exact⟨a,c,by simp[hT],by rw[hT];exact hp,by rw[hT];exact hf⟩
theorem ajR {W:World}{V B:Nat}{ps:List Pv}{Ts Ts':Nat->List aI}{a:Option Addr}{c:Nat}{C:List aI}(h:gw W V B ps Ts)(hs:∀j,0<j->Ts' j=Ts j)(h0:Ts' 0=C)(hp:cN W a c C)(hf:jl V B C):gw W V B (ps.set 0 ⟨(V:Int),a,C.length,c⟩) Ts':=by
 intro k hk;rw[List.length_set]at hk;rcases k with _|k
 . exact⟨a,c,by simp[h0],by rw[h0];exact hp,by rw[h0];exact hf⟩
 . obtain⟨a',c',h1,h2,h3⟩:=h (k+1) hk;rw[<-hs (k+1) zo]at h1 h2 h3;exact⟨a',c',by simp[h1],h2,h3⟩
theorem gw.off {W:World}{V B:Nat}{ps:List Pv}{Ts:Nat->List aI}{g:Nat}{cur:Array Value}{t:TypeId}(h:gw W V B ps Ts)(hg:W.heap[g]?=some (.cells cur t))(ht:t≠93)(i:Nat)(u:Value):gw (W.setCell ⟨g,i,none⟩ u) V B ps Ts:=λk hk=>by obtain⟨a,c,h1,h2,h3⟩:=h k hk;exact⟨a,c,h1,h2.off hg ht i u,h3⟩
theorem WX {w:World}{base:Nat}{e:TypeId}{size n cap g:Nat}{xs:List Value}(h:w.ownsRow base e size (.slice (some ⟨g,0,none⟩) n cap) n xs):∃cur,w.heap[g]?=some (.cells cur e):=by
 rcases h.2 with⟨h1,_⟩ |⟨g',cap',cur,h1,hb,hg,_⟩
 . simp at h1
 . simp only[Value.slice.injEq,Option.some.injEq,Addr.mk.injEq,and_true,true_and]at h1;obtain⟨rfl,rfl⟩:=h1;exact⟨cur,hg⟩
theorem cN.grown {w w':World}{r:Option Nat}{a:Option Addr}{c:Nat}{C:List aI}(h:cN w a c C)(hg:w.grownBy w' r)(hr:∀g,r=some g->∃cur t,w.heap[g]?=some (.cells cur t)/\t≠93):cN w' a c C:=by
 refine⟨?_,h.2.1,?_⟩
 . rcases h.2.2 with h'|⟨b,o,cur',rfl,h2⟩
   . subst h';exact .inl rfl
   . have hne:some b≠r:=λe=>by obtain⟨cur,t,h3,h4⟩:=hr b e.symm;rw[h3]at h2;simp at h2;exact h4 h2.2
     rcases h.1 with h1|⟨b1,o1,e1,hc⟩
     . exact .inl h1
     . simp only[Option.some.injEq,Addr.mk.injEq,and_true]at e1;obtain⟨rfl,rfl⟩:=e1;refine .inr ⟨b,o,rfl,λj hj=>?_⟩;have h9:=hc j hj;rw[<-h9];have hk:=hg.block b (Array.getElem?_eq_some_iff.1 h2).1 hne;simp only[World.cell?,hk]
 . rcases h.2.2 with h'|⟨b,o,cur',rfl,h2⟩
   . exact .inl h'
   . have hne:some b≠r:=λe=>by obtain⟨cur,t,h3,h4⟩:=hr b e.symm;rw[h3]at h2;simp at h2;exact h4 h2.2
     exact .inr ⟨b,o,cur',rfl,by rw[hg.block b (Array.getElem?_eq_some_iff.1 h2).1 hne];exact h2⟩
theorem gw.grown {W w':World}{V B:Nat}{ps:List Pv}{Ts:Nat->List aI}{r:Option Nat}(h:gw W V B ps Ts)(hg:W.grownBy w' r)(hr:∀g,r=some g->∃cur t,W.heap[g]?=some (.cells cur t)/\t≠93):gw w' V B ps Ts:=λk hk=>by obtain⟨a,c,h1,h2,h3⟩:=h k hk;exact⟨a,c,h1,h2.grown hg hr,h3⟩
theorem ajr {w:World}{base:Nat}{e:TypeId}{size n:Nat}{v:Value}{xs:List Value}(h:w.ownsRow base e size v n xs):∀g,v.ownBlock=some g->∃cur t,w.heap[g]?=some (.cells cur t)/\t=e:=by
 intro g hg;rcases h.2 with⟨rfl,_⟩ |⟨g',cap',cur,rfl,_,hg2,_⟩
 . simp[Value.ownBlock]at hg
 . have:g'=g:=by simpa[Value.ownBlock]using hg
   subst this;exact⟨cur,e,hg2,rfl⟩
theorem Tryz.aqY :(Tryz.prog.info? 91).map (λi=>(i.zero,i.size,i.bytes))=some (some (.agg #[.int .i64 0,.slice none 0 0]),2,32):=by kernel_rfl
end Go.Proofs.YtoopepmmepmfnaaGreatDoor
