/- Package slices: Clone,Delete,over numbers. -/
import Derived.Test.YtnjfebkelecgaaaGreatDoorZ13
import Derived.Lib.SliceRun
import Derived.Test.YtnjfebkelecgaaaGreatDoorZ23
import Derived.Test.YtnjfebkelecgaaaGreatDoorZ12
import Derived.Test.YtnjfebkelecgaaaGreatDoorZ11
set_option linter.unusedVariables false
set_option linter.unusedSimpArgs false
set_option maxRecDepth 100000
set_option maxHeartbeats 16000000
namespace Go.Proofs.YtnjfebkelecgaaaGreatDoor
open Go.RowKit
attribute [local go_sem ↓] Go.wp_at_zero Go.wp_at_succ
theorem amD (a:Option Addr)(n cap:Nat)(cG:List Raw)(w:World)(hn:cG.length=n)(hl:n<=1048576)(hs:a=none->n=0/\cap=0)(ha:At w a (cG.flatMap cz)):
 Calls Tryz.prog 201 #[.slice a n cap] w λe w'=>∃v',e=.returned v'/\w'.ownsRow w.heap.size 48 3 v' n (cG.flatMap cz)/\Bw w w':=by
 obtain⟨i0,hi,hz0,hz1,hz2⟩:=info_parts Tryz.aBk;have q:=λ(w:World) (a:Option Addr) (n c n' c':Nat)=>Lib.run_eql_slice_nil (P:=Tryz.prog) w 32 48 a n c n' c' Tryz.underlying32;have hlen:(cG.flatMap cz).length=n*3:=by rw[oM cz 3 (λ_=>rfl),hn]
 obtain⟨cs,hcs⟩:=aK (cG.flatMap cz);have h1:=aeY cG;rw[hcs]at hlen ha h1⊢;obtain⟨lT,Ha,H1,Hs,Hi,dz,dA,dh⟩:=rG hlen ha h1 hs hi hz0 hz1 hz2;clear hlen ha h1 hs hi hz0 hz1 hz2 hn hcs;cases a with
 |none=>obtain⟨hn0,hc⟩:=Hs.out rfl;subst hc;subst hn0;go_enter Tryz.func201,Tryz.ntmps201;go_wp2;go_ret;refine⟨_,rfl,?_,Below.refl _ _⟩;have e:cs=[]:=List.eq_nil_of_length_eq_zero (by have:=lT.out;omega);rw[e];exact World.ownsRow_nil _ _ _ _
 |some ad=>go_enter Tryz.func201,Tryz.ntmps201;go_wp2_with (at_builtin;refine agJ rfl _ _ 32 rfl w.heap.size 48 i0 _ 3 32 Tryz.underlying32 Hi.out dz.out dA.out dh.out rfl zd _ 0 [] rfl (World.ownsRow_made w #[] 0 (Nat.le_refl _) (Nat.zero_le _) zm) (some ad) n cap cs rfl Hs.out lT.out (Ha.out.below ((Below.refl _ w).alloc (Nat.le_refl _) _)) H1.out zx zo zm ?_;intro v' w1 hown hgrow iU);go_ret;refine⟨v',rfl,by simpa using hown,?_⟩;exact((Below.refl _ w).alloc (Nat.le_refl _) _).grown hgrow zm (λk hk=>by have h9:w.heap.size=k:=Option.some.inj hk;omega)
theorem Tryz.aBw (w:World):(zeroValue 48).run Tryz.prog w=.ok (.agg #[ar false,.string ⟨#[]⟩,ah 0]) w:=by kernel_rfl
theorem anN {α:Type}(f:α->List Value)(sz:Nat)(hf:∀x,(f x).length=sz)(xs:List α)(i:Nat)(hi:i<xs.length):(xs.eraseIdx i).flatMap f=(xs.flatMap f).take (i*sz)++(xs.flatMap f).drop ((i+1) *sz):=by
 have e:xs=xs.take i++xs[i]::xs.drop (i+1):=by rw[List.getElem_cons_drop,List.take_append_drop]
 have hl:((xs.take i).flatMap f).length=i*sz:=by rw[oM f sz hf,List.length_take,Nat.min_eq_left zo]
 have e1:xs.flatMap f=(xs.take i).flatMap f++(f xs[i]++(xs.drop (i+1)).flatMap f):=by
  conv=>lhs;rw[e]
  rw[List.flatMap_append,List.flatMap_cons]
 rw[e1,List.take_left' hl,List.drop_append,hl,List.drop_of_length_le (by rw[hl,Nat.add_mul];omega)];rw[show(i+1) *sz-i*sz=sz by rw[Nat.add_mul,Nat.one_mul];omega,List.nil_append,List.drop_left' (hf _),List.eraseIdx_eq_take_drop_succ,List.flatMap_append]
theorem ane (g m cap i base:Nat)(cG:List Raw)(w:World)(hn:cG.length=m+1)(hl:m<=1048576)(hi:i<=m)
 (ho:w.ownsRow base 48 3 (.slice (some ⟨g,0,none⟩) (m+1) cap) (m+1) (cG.flatMap cz)):
 Calls Tryz.prog 200 #[.slice (some ⟨g,0,none⟩) (m+1) cap,ah (i:Int),ah ((i+1:Nat):Int)] w λe w'=>e=.returned (.slice (some ⟨g,0,none⟩) m cap)/\
  w'.ownsRow base 48 3 (.slice (some ⟨g,0,none⟩) m cap) m ((cG.eraseIdx i).flatMap cz)/\w.grownBy w' (some g):=by
 obtain⟨i0,hi0,hz0,hz1,hz2⟩:=info_parts Tryz.aBk;have hcap:m+1<=cap:=(zq ho).1;have hcm:cap<=9223372036854775807:=by
  rcases ho.2 with⟨h1,_⟩ |⟨g',cap',cur,h1,hb,hg,h4,h5,_⟩
  . simp at h1
  . simp only[Value.slice.injEq]at h1;obtain⟨_,_,rfl⟩:=h1;unfold maxLen at h5;omega
 have MC:=anN cz 3 (λ_=>rfl) cG i zo;have hlen:(cG.flatMap cz).length=(m+1) *3:=by rw[oM cz 3 (λ_=>rfl),hn]
 have h1:=aeY cG;obtain⟨cs,hcs⟩:=aK (cG.flatMap cz);obtain⟨rs,hrs⟩:=aK ((cG.eraseIdx i).flatMap cz);rw[hcs]at hlen ho h1 MC;rw[hrs]at MC⊢;have DG:=ae4 ho i zo;obtain⟨ad,had⟩:=aK (if cap=i+1 then(⟨g,0,none⟩:Addr)else⟨g,(i+1) *3,none⟩);have hsl:(if cap=i+1 then some (⟨g,0,none⟩:Addr)else some ⟨g,(i+1) *3,none⟩)=some ad:=by rw[<-had];split<;>rfl
 have hnews:Hid (∀j u,(cs.drop ((i+1) *3))[j]?=some u->w.drew.cell? (ad.add j)=some u):=by
  intro j u hj;rw[List.getElem?_drop]at hj;have hlt:=(List.getElem?_eq_some_iff.1 hj).1;have Mt:¬cap=i+1:=by omega
  rw[if_neg Mt]at had;subst had;have e2:((⟨g,(i+1) *3,none⟩:Addr).add j)=⟨g,(i+1) *3+j,none⟩:=by unfold Addr.add;cases j<;>simp
  rw[e2];have:=ho.cells (g:=g) rfl ((i+1) *3+j) u hj;have e3:((⟨g,0,none⟩:Addr).add ((i+1) *3+j))=⟨g,(i+1) *3+j,none⟩:=by unfold Addr.add;split<;>simp;omega
  rw[e3]at this;exact this
 have hnl:Hid ((cs.drop ((i+1) *3)).length=(m-i) *3):=by show _=_;rw[List.length_drop,hlen];omega
 have mD:Hid (∀u∈cs.drop ((i+1) *3),u.oneCell'=true):=λu hu=>h1 u (List.mem_of_mem_drop hu);have Ym:Hid (w.drew.ownsRow base 48 3 (.slice (some ⟨g,0,none⟩) i cap) i (cs.take (i*3))):=DG;obtain⟨ait,ai9,PL,Hn1,Hi,dA⟩:=gP MC hnews.out hnl.out mD.out hi0 hz1;have z:=Tryz.aBw;clear hnews hnl mD ho DG hlen h1 MC hcs hrs hn hi0 hz0 hz1 hz2;have hw1:IntKind.i64.wrap ((i:Int)+1)=((i+1:Nat):Int):=by rw[IntKind.wrap_i64];omega
 have hne:((i:Int)==((i+1:Nat):Int))=false:=by simp;omega
 have hcm2:¬cap=m:=by omega
 have xe:i+1<=m+1:=by omega
 have hmc:i+1<=cap:=by omega
 have hic:i<=cap:=by omega
 have h0i:(0:Int)<=(i:Int)+1:=by omega
 clear had;go_enter Tryz.func200,Tryz.ntmps200;go_wp2_with fail;have Hb:Hid (Bw w w):=Below.refl _ _;refine cg (λw'=>True) (λi=>Nat.blt i 100000) [(0,true),(1,true),(2,true),(3,true),(4,true),(5,true),(6,false),(7,true)] zk zk rfl zk zc True.intro ?_;iterate 6 (refine pT rfl rfl ?_;try simp only[UU])
 refine aW rfl rfl (λK hK=>?_);refine wp_append_own_spare _ _ _ 32 rfl base 48 i0 3 Tryz.underlying32 Hi.out dA.out g i cap (cs.take (i*3)) rfl Ym.out ad (m-i) (cap-(i+1)) (cs.drop ((i+1) *3)) rfl PL.out ai9.out Hn1.out zo ?_;intro w1 eI hg1;refine hK _ _ (λ_=>True.intro) ?_;clear hK K;try simp only[UU]
 refine pT rfl rfl ?_;try simp only[Act.put,U1,U2]
 simp only[bD];have e9:i+(m-i)=m:=by omega
 rw[e9,<-ait.out]at eI;obtain⟨w2,hcl,eD,hg2⟩:=afy w1 32 48 _ 3 Tryz.underlying32 Tryz.aBw rfl (by intro v hv;simp[Value.cells]at hv;rcases hv with rfl|rfl|rfl<;>rfl) g m 1 cap (cap-m) base rs eI zo;have uH:=aj eD;have Hg2:Hid (w.grownBy w2 (some g)):=grownBy_trans ⟨hg1.os,hg1.tape,hg1.output,hg1.size,hg1.block⟩ hg2;clear eI hg1 eD hg2 Ym hsl;go_wp2;go_ret;exact⟨rfl,uH.out,Hg2.out⟩
theorem anO (l:List Dyadic)(c:Nat):(l.map canon).eraseIdx c=(l.eraseIdx c).map canon:=by apply List.ext_getElem?;intro i;rw[List.getElem?_eraseIdx,List.getElem?_map,List.getElem?_map,List.getElem?_map,List.getElem?_eraseIdx];split<;>rfl
theorem awo (a:Option Addr)(cap m r c:Nat)(R:List (List Dyadic))(w:World)(hL:R.length=m+1)(hrow:∀x∈R,x.length=m+1)(hr:r<=m)(hc:c<=m)(hm:m<=7)(ha:cM w a (R.map λx=>x.map canon)):
 Calls Tryz.prog 181 #[.slice a (m+1) cap,ah (r:Int),ah (c:Int)] w λe w'=>∃a' c',e=.returned (.slice a' m c')/\m<=c'/\cM w' a' ((lH R r c).map λx=>x.map canon)/\Bw w w':=by
 obtain⟨j0,hj,hy0,hy1,hy2⟩:=info_parts Tryz.aBq;obtain⟨S,hS⟩:=aK (lH R r c);have lA:=aeE R r c m hL hr;have vq:=aeF R r c m hrow hc;have Su:=aeD R r c m hL hr;rw[hS]at lA vq Su⊢;have Ip:∀(W:World) (k:Nat) (hk:k<m+1),Bw w W->∃b o a1 c1,∃x:List Dyadic,R.getD k []=x/\x.length=m+1/\a=some ⟨b,o,none⟩/\W.cell? ⟨b,o+k,none⟩=some (.slice (some a1) (m+1) c1)/\At W (some a1) ((x.map canon).flatMap cz):=by
  intro W k hk hb;have hkR:k<R.length:=by omega
  obtain⟨b,o,a1,c1,h1,h2,h3⟩:=(ha.below hb).row k (by simp[hL];omega);have e1:(R.map λx=>x.map canon)[k]'(by simp[hL];omega)=R[k].map canon:=by simp
  have hxl:=hrow _ (List.getElem_mem hkR);rw[e1]at h2 h3;rw[List.length_map,hxl]at h2;cases a1 with
  | none=>
    rcases h3 with h3|⟨_,_,h3,_⟩
    . have:=congrArg List.length h3;rw[oM cz 3 (λ_=>rfl),List.length_map,hxl]at this;simp at this
    . cases h3
  |some a1=>exact⟨b,o,a1,c1,R[k],by simp[List.getD_eq_getElem?_getD,hkR],hxl,h1,h2,h3⟩
 obtain⟨Hj,uM,wB,wD,HSl,HSr,ahv,ajQ⟩:=rG hj hy0 hy1 hy2 lA vq Su Ip;clear hj hy0 hy1 hy2 lA vq Su Ip hS ha hL hrow;have Hb:Hid (Bw w w):=Below.refl _ _;go_enter Tryz.func181,Tryz.ntmps181;go_wp2_with fail;go_loopw[7,12] (λs7 x wr=>∃(k:Nat) (v:Value),k<=m+1/\x=ah (k:Int)/\v=s7/\Own2 32 wr w.heap.size S (if k<=r then k else k-1) v/\Bw w wr) (λ_ x _=>m+1-(intOf x).toNat);case atStart=>exact⟨0,_,Nat.zero_le _,rfl,rfl,by rw[if_pos (Nat.zero_le _)];exact Own2.nil _ _ _ _,Hb.out⟩
 case round=>
  clear Hb;obtain⟨k,v,hk,rfl,rfl,pv,pb⟩:=hrel;by_cases hlt:k<m+1
  . obtain⟨b,o,a1,c1,x,qj,hxl,rfl,hc1,hat⟩:=ajQ.out wr k hlt pb;have bK:=DW (m+1) cap k (k:Int) (rfl:(some ⟨b,o,none⟩:Option Addr)=_) hlt rfl;rw[Nat.mul_one]at bK;by_cases hkr:k=r
    . subst hkr;obtain⟨fc,bj⟩:=aZ pv pb;clear pv pb qj hxl hat;have h3:((k:Int) !=(k:Int))=false:=by simp
      go_wp2;go_roundw;case rel=>exact⟨k+1,v,by omega,by go_num,rfl,by have h:=fc.out;rw[if_pos (Nat.le_refl _)]at h;rw[if_neg zo];exact h,bj.out⟩
      case measure=>simp[intOf];omega
    . have h3:((k:Int) !=(r:Int))=true:=by simp;omega
      have h4:¬(k:Int)=(r:Int):=by omega
      obtain⟨j,hj⟩:=aK (if k<=r then k else k-1);have vw:(if k+1<=r then k+1 else k+1-1)=j+1:=by rw[<-hj];split<;>split<;>omega
      have hjm:j<m:=by rw[<-hj];split<;>omega
      have hjr:(if j<r then j else j+1)=k:=by rw[<-hj];split<;>split<;>omega
      have Sv:S.getD j []=x.eraseIdx c:=by rw[ahv.out j hjm,hjr,qj]
      rw[hj]at pv;obtain⟨Z,hZ⟩:=aK (x.eraseIdx c);have AK:Z.length=m:=by rw[<-hZ,List.length_eraseIdx_of_lt zo];omega
      rw[hZ]at Sv
      -- the row,without its number
      have hcd:∀W,Bw wr W->Calls Tryz.prog 201 #[.slice (some a1) (m+1) c1] W λe w'=>∃g cc,e=.returned (.slice (some ⟨g,0,none⟩) (m+1) cc)/\(wr.heap.size<=g/\∀W',Bw wr W'->w'=W'->Calls Tryz.prog 200 #[.slice (some ⟨g,0,none⟩) (m+1) cc,ah (c:Int),ah ((c:Int)+1)] W' λe w''=>e=.returned (.slice (some ⟨g,0,none⟩) m cc)/\w''.ownsRow wr.heap.size 48 3 (.slice (some ⟨g,0,none⟩) m cc) m (dC Z)/\Bw wr w'')/\Bw W w':=by intro W hW;refine(amD (some a1) (m+1) c1 (x.map canon) W (by rw[List.length_map,hxl]) zo (λe=>by cases e) (hat.below hW)).mono ?_;rintro e w' ⟨v',rfl,ho,hb⟩;obtain⟨g,cc,rfl,hg1,hg2,hg3⟩:=zn ho zo;have hsz:=hW.size;refine⟨g,cc,rfl,⟨by omega,λW' hW' e=>?_⟩,hb⟩;subst e;have hd:=ane g m cc c wr.heap.size (x.map canon) w' (by rw[List.length_map,hxl]) zo hc (sH ho zo);rw[show((c+1:Nat):Int)=(c:Int)+1 by omega]at hd;refine hd.mono ?_;rintro e w'' ⟨rfl,eD,hg⟩;rw[anO,hZ,<-qX]at eD;exact⟨rfl,eD,hW'.grown hg hW'.size (λi e=>by have h9:g=i:=Option.some.inj e;omega)⟩
      obtain⟨Xx,WZ,Cb,fc,bj,Hj1⟩:=gP hcd Sv AK pv pb vw;clear hcd Sv AK hZ pv pb vw hjr hj qj hxl hat;have iu:=bj.out.size;have hwc:IntKind.i64.wrap ((c:Int)+1)=((c+1:Nat):Int):=by rw[IntKind.wrap_i64];omega
      have Mt:(c:Int)+1=((c+1:Nat):Int):=by omega
      obtain⟨Qv,Hci⟩:=aZ hwc Mt;clear hwc Mt;go_wp2_with fail;refine(Xx.out _ (Below.refl _ _)).mono ?_;rintro e w4 ⟨g,cc,rfl,⟨hg1,hdel⟩,hb4⟩;have XD:=aj (hdel w4 hb4 rfl);clear hdel hc1 bK;go_wp2_with fail;refine XD.out.mono ?_;rintro e w5 ⟨rfl,TC,dm⟩;have gL:=TC.lt;obtain⟨a2,c2,he2,iI,_⟩:=dU TC;simp only[Value.slice.injEq,true_and]at he2;obtain⟨rfl,rfl⟩:=he2;obtain⟨vals,hvl,hov,sD⟩:=fc.out.below dm;obtain⟨_,_,yL,_⟩:=fc.out;have hvs:=yL.lt;have hin:∀b o,(some ⟨g,0,none⟩:Option Addr)=some ⟨b,o,none⟩->some b≠v.ownBlock/\b<w5.heap.size:=by intro b o e;simp only[Option.some.injEq,Addr.mk.injEq,and_true]at e;obtain⟨rfl,rfl⟩:=e;have h1:=gL g rfl;refine⟨λh2=>?_,h1.2⟩;have h3:=hvs g h2.symm;omega
      obtain⟨xR,zO,tB,Ad,dH,eX⟩:=gP hin iI hvl sD hov (aV bj.out dm);have NZ:=dm.size;clear hin iI hvl sD hov yL hvs gL TC dm hb4 XD Xx hg1;have Hb:Hid (Bw w5 w5):=Below.refl _ _;obtain⟨W6,vr,ag,Hd⟩:=cF w5 32 [.slice (some ⟨g,0,none⟩) m cc];have d0:=Hd.out.c1;replace Hb:=aF Hb ag;clear ag;have eF:=ownsRow_below dH.out Hb.out;have nD:=Hb.out.size;have hnews:∀i u,([.slice (some ⟨g,0,none⟩) m cc]:List Value)[i]?=some u->W6.cell? ((⟨w5.heap.size,0,none⟩:Addr).add i)=some u:=iz Hd.out;clear d0;go_wp2_with (at_builtin;refine wpList_append_own_at _ rfl _ _ 82 rfl w.heap.size 32 j0 _ 1 24 Tryz.underlying82 Hj.out uM.out wB.out wD.out rfl zd v j vals rfl eF ⟨w5.heap.size,0,none⟩ 1 1 [.slice (some ⟨g,0,none⟩) m cc] rfl rfl hnews zy zx zo zo ?_;intro v' w7 fA fR _ iU;obtain⟨g',uQ,rfl⟩:=ownsRow_succ fA);go_roundw;case rel=>
       refine⟨k+1,_,by omega,by go_num,rfl,?_,?_⟩
       . rw[Hj1.out];refine Own2.push (a:=some ⟨g,0,none⟩) (c:=cc) tB.out (w:=W6) ?_ ?_ ?_ ?_ fR iU
         . intro i h;obtain⟨a,c,h1,h2,h3⟩:=Ad.out i h;exact⟨a,c,h1,h2.below Hb.out,λb o e=>⟨(h3 b o e).1,Nat.lt_of_lt_of_le (h3 b o e).2 nD⟩⟩
         . rw[WZ.out];exact zO.out.below Hb.out
         . exact λb o e=>⟨(xR.out b o e).1,Nat.lt_of_lt_of_le (xR.out b o e).2 nD⟩
         . rw[WZ.out,Cb.out];exact fA
       . exact(aV eX.out Hb.out).grown fR zo (λj e=>dL eF j e)
      case measure=>simp[intOf];omega
  . obtain rfl:k=m+1:=by omega
    rw[if_neg zo,Nat.add_sub_cancel]at pv;obtain⟨a2,c2,rfl,hcl,mE⟩:=Own2.aBv pv HSl.out;obtain⟨Cz,bj⟩:=aZ mE pb;clear pv pb mE;go_wp2;refine bodyPost_ret (results_tmp rfl _ _ _) rfl ⟨a2,c2,rfl,hcl,Cz.out,bj.out⟩
theorem alG (a:Option Addr)(c:Nat)(w:World):Calls Tryz.prog 113 #[.slice a 0 c] w λe w'=>e=.returned (dt 1)/\Bw w w':=by
 have Hb:Hid (Bw w w):=Below.refl _ _;go_enter Tryz.func113,Tryz.ntmps113;go_wp2_with fail;obtain⟨R,hR⟩:∃R:World->Prop,(λW=>aC W (w.heap.size) 46 [ar false,.string ⟨#[]⟩]/\Bw w W)=R:=⟨_,rfl⟩;first|refine cj R ?hR ?_|refine cu R ?hR ?_
 case hR=>subst hR;exact⟨(aC.newAt w _ _ (b:=w.heap.size) rfl),zl⟩
 subst hR;rintro W ⟨qr,ag⟩;have Hr:=aj qr;clear qr;obtain⟨r0,au,r1,az⟩:=Hr.out.g2;replace Hb:=aF Hb ag;clear ag;go_wp2_with fail;refine(Wm 1 _ zd zd).mono ?_;rintro e w1 ⟨rfl,ag⟩;clear r0 au r1 az;obtain⟨Hr,r0,au,r1,az⟩:=bE Hr ag;replace Hb:=aF Hb ag;clear ag;have xq:=Hr.out.lt;obtain⟨W2,nk,ag,Hl⟩:=cF w1 46 [ar (aI 1),ai (nt 1)];clear r0 au r1 az;obtain⟨Hr,r0,au,r1,az⟩:=bE Hr ag;obtain⟨l0,l1⟩:=Hl.out.c2;replace Hb:=aF Hb ag;clear ag;go_wp2_with fail;go_loop [5,15] (λt x=>t=ar false/\x=ah 0) (λ_ _=>0)
 case atStart=>exact⟨rfl,rfl⟩
 case round=>obtain⟨rfl,rfl⟩:=hrel;go_wp2;clear r0 au r1 az l0 l1;refine fJ (cm W2 (w.heap.size) 0 [ar (aI 1),ai (nt 1)]) cC ?_;intro w9 hs;replace Hr:=cX Hr hs;replace Hl:=kS Hl hs zo;obtain⟨r0,au,r1,az⟩:=Hr.out.g2;obtain⟨l0,l1⟩:=Hl.out.c2;replace Hb:=bS Hb hs ZS;clear hs;refine bodyPost_ret (v:=dt 1) (by simp[results,Tryz.results113,go_sem,r0,r1]) rfl ⟨rfl,Hb.out⟩
theorem anm (a:Option Addr)(cap:Nat)(w:World)(ha:cM w a [])(hT:aO w):Calls Tryz.prog 67 #[.slice a 0 cap] w λe w'=>e=.returned (.tuple #[cP 1,ah 0])/\Bw w w':=by
 obtain⟨O,hO⟩:∃O:Dyadic,(1:Dyadic)=O:=⟨_,rfl⟩;have hch:=λW=>λ(h:cM W a [])=>UH a 0 cap [] W rfl zo h;rw[show xw []=0 from rfl]at hch;have hsc:=λW=>λ(h:cM W a []) (hT:aO W)=>afE a 0 cap 0 [] 1 0 W rfl zo zo (λr hr=>by cases hr) h (λr hr=>by cases hr) zo hT rfl;have hmk:=λW=>λ(hT:aO W)=>yU (aI 1) (nt (1:Int).natAbs) 0 O (by rw[<-hO];rfl) W zd zd hT;rw[hO];obtain⟨zU,oz,lu,Ha,HT⟩:=fU hch hsc hmk ha hT;clear hch hsc hmk ha hT hO;have Hb:Hid (Bw w w):=Below.refl _ _;go_enter Tryz.func67,Tryz.ntmps67;go_wp2_with fail;obtain⟨R,hR⟩:∃R:World->Prop,(λW=>aC W (w.heap.size) 48 [ar false,.string ⟨#[]⟩,ah 0]/\Bw w W)=R:=⟨_,rfl⟩;first|refine cj R ?hR ?_|refine cu R ?hR ?_
 case hR=>subst hR;exact⟨(aC.newAt w _ _ (b:=w.heap.size) rfl),zl⟩
 subst hR;rintro W ⟨qr,ag⟩;have Hr:=aj qr;clear qr;obtain⟨r0,au,r1,az,r2,aJ⟩:=Hr.out.g3;replace Hb:=aF Hb ag;clear ag;have HA:Hid (cM W a []):=Ha.out.below Hb.out;have HU:Hid (aO W):=HT.out.below Hb.out;go_wp2_with fail;refine(zU.out _ HA.out).mono ?_;rintro e w1 ⟨rfl,ag⟩;clear r0 au r1 az r2 aJ;obtain⟨Hr,r0,au,r1,az,r2,aJ⟩:=bg Hr ag;replace HA:=kL HA ag;replace HU:=kT HU ag;replace Hb:=aF Hb ag;clear ag;go_wp2_with fail;refine(oz.out _ HA.out HU.out).mono ?_;rintro e w2 ⟨v,rfl,hO,ag⟩;clear r0 au r1 az r2 aJ;obtain⟨Hr,r0,au,r1,az,r2,aJ⟩:=bg Hr ag;replace HA:=kL HA ag;replace HU:=kT HU ag;replace Hb:=aF Hb ag;clear ag;obtain⟨vals,_,ho,_⟩:=hO;obtain⟨a2,c2,rfl,_,_⟩:=dU ho;clear ho;go_wp2_with fail;refine(alG a2 c2 _).mono ?_;rintro e w3 ⟨rfl,ag⟩;clear r0 au r1 az r2 aJ;obtain⟨Hr,r0,au,r1,az,r2,aJ⟩:=bg Hr ag;replace HA:=kL HA ag;replace HU:=kT HU ag;replace Hb:=aF Hb ag;clear ag;go_wp2_with fail;refine(lu.out _ HU.out).mono ?_;rintro e w4 ⟨rfl,ag⟩;clear r0 au r1 az r2 aJ;obtain⟨Hr,r0,au,r1,az,r2,aJ⟩:=bg Hr ag;replace HA:=kL HA ag;replace HU:=kT HU ag;replace Hb:=aF Hb ag;clear ag;go_wp2;clear r0 au r1 az r2 aJ;refine fJ (cm w4 (w.heap.size) 0 [ar (aI (dN O)),ai (nt (dN O).natAbs),ah (dE O)]) cC ?_;intro w9 hs;replace Hr:=cX Hr hs;obtain⟨r0,au,r1,az,r2,aJ⟩:=Hr.out.g3;replace Hb:=bS Hb hs ZS;clear hs;refine bodyPost_ret (v:=.tuple #[cP O,ah 0]) (by simp[results,Tryz.results67,go_sem,r0,r1,r2]) rfl ⟨rfl,Hb.out⟩
theorem Zy (R:List (List Dyadic)):((R.map λr=>r.map canon).map λr=>r.map aM)=R:=by
 rw[List.map_map];have:((λr:List Raw=>r.map aM)∘λr:List Dyadic=>r.map canon)=id:=by
  funext r
  show(r.map canon).map aM=r
  rw[List.map_map];have:(aM∘canon)=id:=funext cN;rw[this];simp
 rw[this];simp
theorem arT (a':Option Addr)(c' m r c:Nat)(R:List (List Dyadic))(B:Nat)(w:World)(hL:R.length=m+1)(hrow:∀x∈R,x.length=m+1)(hr:r<=m)(hc:c<=m)(hm:m<=4)(hsm:∀x∈R,∀d∈x,Sm B d)(cd:1<=B)(hB:B<=1000000)(ht:cM w a' ((lH R r c).map λx=>x.map canon))(hT:aO w):
 Calls Tryz.prog 67 #[.slice a' m c'] w λe w'=>e=.returned (.tuple #[cP (ft m (mJ (cZ R) r c)),ah 0])/\Bw w w':=by
 have hl:=aeE R r c m hL hr;by_cases h0:m=0
 . subst h0;have e:lH R r c=[]:=List.eq_nil_of_length_eq_zero hl;rw[e]at ht;exact anm a' c' w ht hT
 . refine Ro a' c' m ((lH R r c).map λx=>x.map canon) B (lH R r c) _ w zo hm (by rw[List.length_map,hl]) (λx hx=>?_) ht (λx hx y hy=>?_) cd hB hT (Zy _) (arQ R r c m hL hrow hr hc hm)
   . obtain⟨z,hz,rfl⟩:=List.mem_map.1 hx;rw[List.length_map];exact aeF R r c m hrow hc z hz
   . obtain⟨z,hz,rfl⟩:=List.mem_map.1 hx;obtain⟨d,hd,rfl⟩:=List.mem_map.1 hy;exact(arS hsm r c z hz d hd).fit zo
theorem alV (s:Nat)(h:s<=8):bits BinOp.and IntKind.i64 (s:Int) 1=((s%2:Nat):Int):=by
 have hc:s=0\/s=1\/s=2\/s=3\/s=4\/s=5\/s=6\/s=7\/s=8:=by omega
 rcases hc with rfl|rfl|rfl|rfl|rfl|rfl|rfl|rfl|rfl<;>rfl
theorem ak3 (a:Option Addr)(cap m:Nat)(R:List (List Dyadic))(B:Nat)(w:World)(hm:m+1<=4)(hL:R.length=m+1)(hrow:∀x∈R,x.length=m+1)(hsm:∀x∈R,∀d∈x,Sm B d)(cd:1<=B)(hB:B<=1000000)(ha:cM w a (R.map λx=>x.map canon))(hT:aO w):
 Calls Tryz.prog 153 #[.slice a (m+1) cap] w λe w'=>∃v,e=.returned (.tuple #[v,ah 0])/\gj w' w.heap.size (m+1) (tF (m+1) (cZ R)) (m+1) v/\Bw w w':=by
 obtain⟨i0,hi,hz0,hz1,hz2⟩:=info_parts Tryz.aBk;obtain⟨j0,hj,hy0,hy1,hy2⟩:=info_parts Tryz.aBq;have eZ:=λW (hW:Bw w W)=>UH a (m+1) cap (R.map λx=>x.map canon) W (by rw[List.length_map,hL]) zo (ha.below hW);have hm0:xw (R.map λx=>x.map canon)=0:=by
  unfold xw;rw[if_neg];rintro(h|h)
  . rw[List.length_map]at h;omega
  . rw[List.any_eq_true]at h;obtain⟨r,hr,h⟩:=h;obtain⟨z,hz,rfl⟩:=List.mem_map.1 hr;have:=hrow z hz;simp at h;omega
 rw[hm0]at eZ;have hwo:=λr c (hr:r<=m) (hc:c<=m) W (hW:Bw w W)=>awo a cap m r c R W hL hrow hr hc zo (ha.below hW);have pX:=λr c (hr:r<=m) (hc:c<=m) W (hW:Bw w W) a' c' (ht:cM W a' ((lH R r c).map λx=>x.map canon))=>arT a' c' m r c R B W hL hrow hr hc zo hsm cd hB ht (hT.below hW);have hds:∀r c,r<=m->c<=m->Sm (4*B+6) (ft m (mJ (cZ R) r c)):=by
  intro r c hr hc;refine Ls zo (λi j hi hj=>?_);have hk:(if i<r then i else i+1)<R.length:=by split<;>omega
  have hl:=hrow _ (List.getElem_mem hk);have hk2:(if j<c then j else j+1)<R[if i<r then i else i+1].length:=by rw[hl];split<;>omega
  have e:mJ (cZ R) r c i j=R[if i<r then i else i+1][if j<c then j else j+1]:=by
   show(R.getD (if i<r then i else i+1) []).getD (if j<c then j else j+1) 0=_
   rw[List.getD_eq_getElem?_getD (l:=R),List.getElem?_eq_getElem hk,Option.getD_some,List.getD_eq_getElem?_getD,List.getElem?_eq_getElem hk2];rfl
  rw[e];exact hsm _ (List.getElem_mem hk) _ (List.getElem_mem hk2)
 obtain⟨f,hf⟩:=aK (cZ R);rw[hf]at pX hds⊢;have RQ:=λi (h:i<m+1)=>Zd (m+1) f i h;obtain⟨A,hA⟩:=aK (tF (m+1) f);rw[hA]at RQ⊢;obtain⟨Hi,dz,dA,dh,Hj,uM,wB,wD,mW,Hwo,EN,Kg⟩:=gy hi hz0 hz1 hz2 hj hy0 hy1 hy2 eZ hwo pX hds;obtain⟨HT,agU⟩:=aZ hT RQ;clear hi hz0 hz1 hz2 hj hy0 hy1 hy2 eZ hwo pX hds hT RQ hA hf hm0 ha hsm hrow hL;have Hb:Hid (Bw w w):=Below.refl _ _;go_enter Tryz.func153,Tryz.ntmps153;go_wp2_with fail;refine(mW.out _ Hb.out).mono ?_;rintro e w1 ⟨rfl,ag⟩;replace Hb:=aF Hb ag;clear ag;go_wp2_with fail;go_loopw[5,18] (λs5 x wr=>∃(k:Nat) (v:Value),k<=m+1/\x=ah (k:Int)/\v=s5/\gj wr w.heap.size (m+1) A k v/\Bw w wr) (λ_ x _=>m+1-(intOf x).toNat);case atStart=>exact⟨0,_,Nat.zero_le _,rfl,rfl,gj.nil _ _ _ _,Hb.out⟩
 case round=>
  clear Hb;obtain⟨k,v,hk,rfl,rfl,pv,pb⟩:=hrel;obtain⟨fc,bj⟩:=aZ pv pb;clear pv pb;by_cases hlt:k<m+1
  . obtain⟨Z,hZ⟩:=aK ((List.range (m+1)).map λb=>ml (m+1) f k b);have Ca:Hid (A.getD k []=Z):=by show _=_;rw[agU.out k hlt,hZ]
    have Cb:Hid (Z.length=m+1):=by show _=_;rw[<-hZ];simp
    have HZa:Hid (∀j (h:j<m+1),Z.take (j+1)=Z.take j++[ml (m+1) f k j]):=by intro j h;rw[List.take_succ_eq_append_getElem (by rw[Cb.out];exact h)];congr 2;simp[<-hZ]
    clear hZ;obtain⟨wq,hwc⟩:∃wq,wq=wr:=⟨_,rfl⟩;subst hwc;have iu:=bj.out.size;have AW:decide ((k:Int)<(m:Int)+1)=true:=by simp;omega
    go_wp2_with fail;clear AW;go_loopw[7,23] (λs7 x wr=>∃(j:Nat) (v2:Value),j<=m+1/\x=ah (j:Int)/\v2=s7/\wr.ownsRow wq.heap.size 48 3 v2 j (dC (Z.take j))/\Bw wq wr) (λ_ x _=>m+1-(intOf x).toNat);case atStart=>exact⟨0,_,Nat.zero_le _,rfl,rfl,World.ownsRow_nil _ _ _ _,Below.refl _ _⟩
    case round=>
     obtain⟨j,v2,hj,rfl,rfl,ho,hb2⟩:=hrel;obtain⟨Ho,df⟩:=aZ ho hb2;have szb:=hb2.size;clear ho hb2;by_cases bM:j<m+1
     . obtain⟨X,hX⟩:=aK (ft m (mJ f j k));obtain⟨Y,hY⟩:=aK (ml (m+1) f k j);have hYX:Y=if(k+j)%2=1 then-X else X:=by rw[<-hY,<-hX];rfl
       have jo:=Kg.out j k zo zo;rw[hX]at jo;have hst:dC (Z.take (j+1))=dC (Z.take j)++[ar (aI (dN Y)),ai (nt (dN Y).natAbs),ah (dE Y)]:=by rw[HZa.out j bM,hY,Gc];rfl
       have bW:=aV bj.out df.out;have hd:=λW hW a' c' ht=>EN.out j k zo zo W hW a' c' ht;rw[hX]at hd;obtain⟨Hd,cB,OA⟩:=dc hd hst hYX;have Xi:Hid (Ok (canon X)):=jo.ok zo;have vS:=aj bW;clear hd hst hYX hX hY jo bW;have Hb:Hid (Bw wr wr):=Below.refl _ _;go_wp2_with fail;refine(Hwo.out j k zo zo _ vS.out).mono ?_;rintro e w3 ⟨a3,c3,rfl,hc3,Iu,ag⟩;replace Hb:=aF Hb ag;clear ag;have KA:=aj Iu;clear Iu;go_wp2_with fail;refine(Hd.out _ (aV vS.out Hb.out) a3 c3 KA.out).mono ?_;rintro e w4 ⟨rfl,ag⟩;replace Hb:=aF Hb ag;clear ag KA;have sz4:=Hb.out.size;obtain⟨W5,yt,ag,Hx⟩:=cF w4 48 [ar (aI (dN X)),ai (nt (dN X).natAbs),ah (dE X)];obtain⟨x0,bG,x1,bH,x2,bI⟩:=Hx.out.g3;replace Hb:=aF Hb ag;clear ag;have Dm:=alV (k+j) zo;rw[Int.natCast_add]at Dm;go_upto_if 38 with fail
       go_cut[7] (λs7 wx=>s7=v2/\aC wx w4.heap.size 48 [ar (aI (dN Y)),ai (nt (dN Y).natAbs),ah (dE Y)]/\Bw wr wx);case first=>
        by_cases hp:(k+j)%2=1
        . have h9:(bits BinOp.and IntKind.i64 ((k:Int)+(j:Int)) 1==1)=true:=by rw[Dm,hp];rfl
          have hY: -aM (canon X)=Y:=by rw[cN,OA.out,if_pos hp]
          have HY:=aj hY;clear hY Dm;go_wp2_with fail;refine(Rm _ _ _ Y HY.out _ Xi.out (HT.out.below (aV vS.out Hb.out))).mono ?_;rintro e w6 ⟨rfl,ag⟩;clear x0 bG x1 bH x2 bI;obtain⟨Hx,x0,bG,x1,bH,x2,bI⟩:=bg Hx ag;replace Hb:=aF Hb ag;clear ag;go_wp2_with fail;go_meet;exact⟨rfl,((Hx.out.set 0 _).set 1 _).set 2 _,((Hb.out.setCell zp _).setCell zp _).setCell zp _⟩
        . have h9:(bits BinOp.and IntKind.i64 ((k:Int)+(j:Int)) 1==1)=false:=by rw[Dm,show(k+j)%2=0 by omega];rfl
          have hY:Y=X:=by rw[OA.out,if_neg hp]
          subst hY;clear Dm;go_wp2_with fail;go_meet;exact⟨rfl,Hx.out,Hb.out⟩
       case rest=>
        obtain⟨rfl,hx,hb⟩:=hcut;clear Dm;have Hx:Hid (aC wc w4.heap.size 48 [ar (aI (dN Y)),ai (nt (dN Y).natAbs),ah (dE Y)]):=hx;have Cc:=aj (aV df.out hb);have hov:=ownsRow_below Ho.out hb;have dH:=aj hov;have szc:=hb.size;clear hx hb hov Ho Hb Hd OA Xi vS df;have Hb:Hid (Bw wc wc):=Below.refl _ _;obtain⟨x0,x1,x2⟩:=Hx.out.c3;have P0:=x0;have P1:=x1;have P2:=x2;have aAu:=Hx.out.lt;obtain⟨W6,vr,ag,Hc⟩:=cF wc 48 [ar (aI (dN Y)),ai (nt (dN Y).natAbs),ah (dE Y)];clear x0 x1 x2;obtain⟨Hx,x0,x1,x2⟩:=bP Hx ag;obtain⟨c0,c1,c2⟩:=Hc.out.c3;replace Hb:=aF Hb ag;clear ag;have eF:=ownsRow_below dH.out Hb.out;have nD:=Hb.out.size;go_wp2_with (at_builtin;refine wpList_append_own_at _ rfl _ _ 32 rfl wq.heap.size 48 i0 _ 3 32 Tryz.underlying32 Hi.out dz.out dA.out dh.out rfl zd _ j (dC (Z.take j)) rfl eF ⟨wc.heap.size,0,none⟩ 1 1 [ar (aI (dN Y)),ai (nt (dN Y).natAbs),ah (dE Y)] rfl rfl (iz Hc.out) zy zx zo zo ?_;intro v' w7 fA fR _ iU;obtain⟨g',uQ,rfl⟩:=ownsRow_succ fA);go_roundw;case rel=>exact⟨j+1,_,by omega,by go_num,rfl,by rw[cB.out];exact fA,(aV Cc.out Hb.out).grown fR zo (λj e=>dL eF j e)⟩
        case measure=>simp[intOf];omega
     . obtain rfl:j=m+1:=by omega
       have yu:Z.take (m+1)=Z:=List.take_of_length_le (by rw[Cb.out];exact Nat.le_refl _);rw[yu]at Ho;have gL:=Ho.out.lt;obtain⟨a2,cap2,rfl,_,_⟩:=dU Ho.out;obtain⟨vals,hvl,yL,Ua,IE⟩:=fc.out;have hov:=ownsRow_below yL df.out;have sD:=λi h=>ownsRow_below (Ua i h) df.out;have js:∀g,(Value.slice a2 (m+1) cap2).ownBlock=some g->∀i (h:i<vals.length),vals[i].ownBlock≠some g:=λg e i h e2=>by have h1:=(gL g e).1;have h2:=((Ua i h).lt g e2).2;omega
       have hx:=sH Ho.out iu;obtain⟨tB,Ad,dH,Qt,uG,Hxx⟩:=gP hvl sD hov IE js hx;clear hvl sD hov yL Ua IE js hx gL yu;have Hb:Hid (Bw wr wr):=Below.refl _ _;obtain⟨W6,vr,ag,Hd⟩:=cF wr 32 [.slice a2 (m+1) cap2];have d0:=Hd.out.c1;replace Hb:=aF Hb ag;clear ag;have eF:=ownsRow_below dH.out Hb.out;have nD:=Hb.out.size;go_wp2_with (at_builtin;refine wpList_append_own_at _ rfl _ _ 82 rfl w.heap.size 32 j0 _ 1 24 Tryz.underlying82 Hj.out uM.out wB.out wD.out rfl zd v k vals rfl eF ⟨wr.heap.size,0,none⟩ 1 1 [.slice a2 (m+1) cap2] rfl rfl (iz Hd.out) zy zx zo zo ?_;intro v' w7 fA fR _ iU;obtain⟨g',uQ,rfl⟩:=ownsRow_succ fA);go_roundw;case rel=>refine⟨k+1,_,by omega,by go_num,rfl,gj.push tB.out eF (λi h=>ownsRow_below (Ad.out i h) Hb.out) Qt.out (by rw[Ca.out];exact ownsRow_below Hxx.out Hb.out) uG.out fA fR,?_⟩;exact(aV (aV bj.out df.out) Hb.out).grown fR zo (λj e=>dL eF j e)
       case measure=>simp[intOf];omega
  . obtain rfl:k=m+1:=by omega
    go_wp2;exact bodyPost_ret (v:=.tuple #[v,ah 0]) (by simp[results,Tryz.results153,go_sem]) rfl ⟨v,rfl,fc.out,bj.out⟩
end Go.Proofs.YtnjfebkelecgaaaGreatDoor
namespace Go.Proofs.YtnjfebkelecgaaaGreatDoor
def tG (n:Nat)(p:Nat->Nat->Dyadic):List (List Dyadic):=(List.range n).map λa=>(List.range n).map λb=>mh n p a b
theorem QP (n:Nat)(p:Nat->Nat->Dyadic):(tG n p).length=n:=by simp[tG]
theorem QQ (n:Nat)(p:Nat->Nat->Dyadic):∀r∈tG n p,r.length=n:=by intro r hr;unfold tG at hr;obtain⟨x,_,rfl⟩:=List.mem_map.1 hr;simp
theorem Zc (n:Nat)(p:Nat->Nat->Dyadic)(a b:Nat)(ha:a<n)(hb:b<n):cZ (tG n p) a b=mh n p a b:=by unfold cZ tG;simp[List.getD_eq_getElem?_getD,ha,hb]
theorem avv {n:Nat}{R S:List (List Dyadic)}(h1:R.length=n)(h2:∀r∈R,r.length=n)(h3:S.length=n)(h4:∀r∈S,r.length=n)(h:∀a b,a<n->b<n->cZ R a b=cZ S a b):R=S:=by apply List.ext_getElem zo;intro i hi hj;have l1:=h2 _ (List.getElem_mem hi);have l2:=h4 _ (List.getElem_mem hj);apply List.ext_getElem zo;intro j k1 k2;have:=h i j zo zo;unfold cZ at this;simpa[List.getD_eq_getElem?_getD,hi,hj,k1,k2]using this
theorem akZ (n:Nat)(dv:n<=4){e f:Nat->Nat->Dyadic}(h:∀i j,i<n->j<n->e i j=f i j)(a b:Nat)(ha:a<n)(hb:b<n):ml n e a b=ml n f a b:=by
 have:ft (n-1) (mJ e b a)=ft (n-1) (mJ f b a):=Lr (n-1) zo (λi j hi hj=>by
  unfold mJ
  exact h _ _ (by split<;>omega) (by split<;>omega))
 unfold ml;rw[this]
theorem anM {n:Nat}{R:List (List Dyadic)}(h1:R.length=n)(h2:∀r∈R,r.length=n)(i j:Nat)(hi:i<n)(hj:j<n)(y:Dyadic)(a b:Nat)(ha:a<n)(hb:b<n):cZ (R.set i ((R.getD i []).set j y)) a b=if a=i/\b=j then y else cZ R a b:=by
 unfold cZ;by_cases e:a=i
 . subst e;rw[List.getD_eq_getElem?_getD (l:=R.set _ _),List.getElem?_set_self zo,Option.getD_some];have hl:(R.getD a []).length=n:=by
    have e:R.getD a []=R[a]'zo:=by rw[List.getD_eq_getElem?_getD,List.getElem?_eq_getElem zo];rfl
    rw[e];exact h2 _ (List.getElem_mem _)
   by_cases e2:b=j
   . subst e2;rw[if_pos ⟨rfl,rfl⟩,List.getD_eq_getElem?_getD,List.getElem?_set_self zo];rfl
   . rw[if_neg (λh=>e2 h.2),List.getD_eq_getElem?_getD,List.getElem?_set_ne (λh=>e2 h.symm),<-List.getD_eq_getElem?_getD]
 . rw[if_neg (λh=>e h.1),List.getD_eq_getElem?_getD (l:=R.set _ _),List.getElem?_set_ne (λh=>e h.symm),<-List.getD_eq_getElem?_getD]
theorem auZ {n:Nat}{R:List (List Dyadic)}(h1:R.length=n)(h2:∀r∈R,r.length=n)(i j:Nat)(hi:i<n)(y:Dyadic):(R.set i ((R.getD i []).set j y)).length=n/\∀r∈R.set i ((R.getD i []).set j y),r.length=n:=by
 refine⟨by rw[List.length_set];exact h1,λr hr=>?_⟩;rcases List.mem_or_eq_of_mem_set hr with h|h
 . exact h2 r h
 . rw[h,List.length_set];have e:R.getD i []=R[i]'zo:=by rw[List.getD_eq_getElem?_getD,List.getElem?_eq_getElem zo];rfl
   rw[e];exact h2 _ (List.getElem_mem _)
theorem au1 (X:Dyadic):(if dY X<0 then-X else X)=rN X*X:=by
 rw[au0];by_cases h:X<0
 . rw[if_pos h,if_pos ((Rs X).2 h)]
 . rw[if_neg h,if_neg (λh2=>h ((Rs X).1 h2))]
def kG (k j a b:Nat):Prop:=a<k\/a=k/\b<j
instance (k j a b:Nat):Decidable (kG k j a b):=inferInstanceAs (Decidable (_\/_))
end Go.Proofs.YtnjfebkelecgaaaGreatDoor
namespace Go.Proofs.YtnjfebkelecgaaaGreatDoor
open Go.RowKit
attribute [local go_sem ↓] Go.wp_at_zero Go.wp_at_succ
def YW (w:World)(n:Nat)(p:Nat->Nat->Dyadic)(e:Ending)(w':World):Prop:=
 ∃a' c',e=.returned (.tuple #[cP (rN (kH n p) *kH n p),.slice a' n c',ah 0])/\n<=c'/\cM w' a' ((tG n p).map λr=>r.map canon)/\Bw w w'
theorem gj.blk {w:World}{base n L go cap:Nat}{R:List (List Dyadic)}(h:gj w base n R L (.slice (some ⟨go,0,none⟩) L cap))(i:Nat)(hi:i<L)(hn:0<n):base<=go/\∃g c,w.cell? ⟨go,i,none⟩=some (.slice (some ⟨g,0,none⟩) n c)/\base<=g/\g<w.heap.size/\g≠go:=by
 obtain⟨vals,hl,ho,hv,hd⟩:=h;have hi2:i<vals.length:=by omega
 have hrow:=hv i hi2;obtain⟨g,c,e1,hg1,hg2,_⟩:=zn hrow hn;have iU:=BJ ho;have hc:=nS ho i zo;rw[e1]at hc;refine⟨iU.1,g,c,hc,hg1,hg2,?_⟩;rintro rfl;rw[e1]at hrow;rcases hrow.2 with⟨h1,_⟩ |⟨g',c',cur,h1,_,h2,_⟩
 . simp at h1
 . simp only[Value.slice.injEq,Option.some.injEq,Addr.mk.injEq,and_true,true_and]at h1;obtain⟨rfl,rfl⟩:=h1;rcases ho.2 with⟨h3,_⟩ |⟨g2,c2,axn,h3,_,h4,_⟩
   . simp at h3
   . simp only[Value.slice.injEq,Option.some.injEq,Addr.mk.injEq,and_true,true_and]at h3;obtain⟨rfl,rfl⟩:=h3;rw[h2]at h4;simp at h4
theorem gj.aBr {w:World}{base n k:Nat}{R:List (List Dyadic)}{v:Value}(h:gj w base n R k v){p:Addr}(hp:p.block<base)(x:Value):gj (w.setCell p x) base n R k v:=by
 obtain⟨vals,hl,ho,hi,hd⟩:=h;have hne:∀{u:Value} {e:TypeId} {sz m:Nat} {xs:List Value},w.ownsRow base e sz u m xs->u.ownBlock≠some p.block:=λh e=>by have:=(h.lt _ e).1;omega
 exact⟨vals,hl,ownsRow_setCell_other ho (hne ho) _,λi h=>ownsRow_setCell_other (hi i h) (hne (hi i h)) _,hd⟩
theorem aqm (a:Option Addr)(cap m:Nat)(rows:List (List Raw))(B:Nat)(w:World)(hm:m+1<=4)(hr:Rw (m+1) B rows)(hcap:m+1+1<=cap)(ha:cM w a rows)(hB:B<=200000)(hT:aO w)(h0:jg rows=0):
 Calls Tryz.prog 115 #[.slice a (m+1+1) cap] w (YW w (m+1) (jA rows)):=by
 obtain⟨n,hn⟩:=aK (m+1);have hL:=hr.1;have hrow:=hr.2.1;have hfit:=hr.2.2;obtain⟨b,o,rfl⟩:∃b o,a=some ⟨b,o,none⟩:=by
  obtain⟨vals,hvl,hat,_⟩:=ha;rcases hat with h|⟨b,o,h,_⟩
  . rw[h]at hvl;simp at hvl;omega
  . exact⟨b,o,h⟩
 have eZ:=λW (hW:Bw w W)=>VP (some ⟨b,o,none⟩) (m+1+1) cap rows B W hL zo hcap (ha.below hW) hfit zo (hT.below hW);rw[h0]at eZ;obtain⟨S,hS⟩:=aK ((rows.drop 1).map λp=>kF (rows.getD 0 []) p);have lA:S.length=m+1:=by rw[<-hS];simp[hL]
 have h00:0<rows.length:=by omega
 have e0:rows.getD 0 []=rows[0]:=by simp[h00]
 have vq:∀r∈S,r.length=m+1:=by intro r hr;rw[<-hS]at hr;obtain⟨p,hp,rfl⟩:=List.mem_map.1 hr;rw[Lv (by rw[e0,hrow _ (List.mem_of_mem_drop hp),hrow _ (List.getElem_mem h00)]),hrow _ (List.mem_of_mem_drop hp)]
 have kw:∀r∈S,∀d∈r,Sm (B+1) d:=by intro r hr d hd;rw[<-hS]at hr;obtain⟨p,hp,rfl⟩:=List.mem_map.1 hr;unfold kF at hd;obtain⟨i,hi,rfl⟩:=List.mem_iff_getElem.1 hd;rw[List.getElem_zipWith];refine Sm.sub (hfit p (List.mem_of_mem_drop hp) _ (List.getElem_mem _)).2 (hfit (rows.getD 0 []) ?_ _ (List.getElem_mem _)).2;rw[e0];exact List.getElem_mem h00
 obtain⟨P,hP⟩:=aK (jA rows);have GJ:∀i j,i<m+1->j<m+1->cZ S i j=CY P i j:=λi j hi hj=>by rw[<-hS,<-hP];exact afJ (m+1) rows hL hrow i j hi hj
 obtain⟨X,hX⟩:=aK (kH (m+1) P);have hent:ft (m+1) (cZ S)=X:=by rw[<-hX,LA];exact Lr (m+1) hm GJ
 have hro:=λW (hW:Bw w W)=>afu b o cap (m+1) (m+1) rows B W hL zo hcap zo zo zo hrow (ha.below hW) hfit zo (hT.below hW);rw[hS]at hro
 have pX:=λW (hW:Bw w W) a' c' (h:cM W a' (S.map λr=>r.map canon))=>Ro a' c' (m+1) (S.map λr=>r.map canon) (B+1) S X W zo hm (by simpa using lA) (by
  intro r hr;obtain⟨x,hx,rfl⟩:=List.mem_map.1 hr
  simpa using vq x hx) h (by
  intro r hr c hc;obtain⟨x,hx,rfl⟩:=List.mem_map.1 hr;obtain⟨y,hy,rfl⟩:=List.mem_map.1 hc
  exact(kw x hx y hy).fit zo) zo zo (hT.below hW) (Zy S) hent
 have wV:=λW (hW:Bw w W) a' c' (h:cM W a' (S.map λr=>r.map canon))=>(ak3 a' c' m S (B+1) W hm lA vq kw zo zo h (hT.below hW)).mono (λe w' h=>(match h with|⟨v,h1,h2,h3⟩=>⟨v,h1,h2,h3,h3⟩:∃v,e=.returned (.tuple #[v,ah 0])/\gj w' W.heap.size (m+1) (tF (m+1) (cZ S)) (m+1) v/\Bw W w'/\Bw W w'));have jo:Sm (4*B+11) X:=by rw[<-hent];refine(Ls (B:=B+1) hm (λi j hi hj=>?_)).mono zo;rw[GJ i j hi hj,<-hP];exact LB (n:=m+1) (B:=B) (λa b ha hb=>by rw[xC rows a b zo (by rw[hrow _ (List.getElem_mem _)];exact hb)];exact(hfit _ (List.getElem_mem _) _ (List.getElem_mem _)).2) i j hi hj
 have kQ:=λW=>uZ (aI (dN X)) (nt (dN X).natAbs) (dE X) (dY X) (by show dY (aM (canon X))=_;rw[cN]) W (jo.ok zo);have GM: -1<=dY X/\dY X<=1:=by unfold dY fH;split<;>(try split)<;>omega
 obtain⟨G,hG⟩:=aK (rN X);have hof:=λW (hW:Bw w W)=>Gd (dY X) G (by rw[<-hG];rfl) W zo (hT.below hW)
 have hab:=λW (hW:Bw w W)=>am1 (aI (dN X)) (nt (dN X).natAbs) (dE X) (G*X) (by
  have e:aM (aI (dN X),nt (dN X).natAbs,dE X)=X:=cN X
  rw[e,au1,hG]) W (jo.ok zo) (hT.below hW)
 have hGf:Fit (4*B+11) (canon G):=(by rw[<-hG];exact(VF X).mono zo:Sm (4*B+11) G).fit zo;have tQ:∀i j,i<m+1->j<m+1->Fit (4*B+11) (canon (ml (m+1) (cZ S) i j)):=λi j hi hj=>by refine((Za (B:=B+1) zo hm (λa b ha hb=>?_) i j).mono zo).fit zo;rw[GJ a b ha hb,<-hP];exact LB (n:=m+1) (B:=B) (λa b ha hb=>by rw[xC rows a b zo (by rw[hrow _ (List.getElem_mem _)];exact hb)];exact(hfit _ (List.getElem_mem _) _ (List.getElem_mem _)).2) a b ha hb
 have hfin:∀R:List (List Dyadic),R.length=m+1->(∀r∈R,r.length=m+1)->(∀a b,a<m+1->b<m+1->cZ R a b=ml (m+1) (cZ S) a b*G)->R=tG (m+1) P:=λR h1 h2 h3=>avv h1 h2 (QP _ _) (QQ _ _) (λa b ha hb=>by
  rw[h3 a b ha hb,Zc _ _ _ _ ha hb];unfold mh
  rw[hX,hG,akZ (m+1) hm GJ a b ha hb])
 have Gk:=λi j hi hj=>ak0 (m+1) (cZ S) i j hi hj;have LQ:=ak1 (m+1) (cZ S);have LR:=ak2 (m+1) (cZ S);obtain⟨F,hF⟩:∃F:Nat->Nat->Dyadic,(λi j=>ml (m+1) (cZ S) i j)=F:=⟨_,rfl⟩;have hFe:∀i j,ml (m+1) (cZ S) i j=F i j:=λi j=>by rw[<-hF]
 simp only[hFe]at tQ hfin Gk;obtain⟨A,hA⟩:=aK (tF (m+1) (cZ S));rw[hA]at wV Gk LQ LR;rw[hP];unfold YW;rw[hX,hG];rw[hn]at eZ hro pX wV tQ hfin Gk LQ LR⊢;have dv:n<=4:=by omega
 have mD:1<=n:=by omega
 have adv:=λW=>(kQ W).mono (λe w' h=>(⟨h.1,h.2,h.2⟩:e=.returned (ah (dY X))/\Bw W w'/\Bw W w'));have adc:=λW hW=>(hof W hW).mono (λe w' h=>(⟨h.1,h.2,h.2⟩:e=.returned (cP G)/\Bw W w'/\Bw W w'));have jp:=λW hW=>(hab W hW).mono (λe w' h=>(⟨h.1,h.2,h.2⟩:e=.returned (cP (G*X))/\Bw W w'/\Bw W w'));obtain⟨mW,Yv,EN,OG,qW,pI,qJ,HGf,HAs,vZ,HAe,HAl⟩:=gy eZ hro pX wV adv adc jp hGf tQ hfin Gk LQ;obtain⟨HAr,HT⟩:=aZ LR hT;clear eZ hro pX wV adv adc kQ hof hab jp hGf tQ hfin Gk LQ LR hT hFe hF hA jo hent GJ kw vq lA hS e0 h00 hP hX hG GM ha hr hL hrow hfit h0 hn;have Hb:Hid (Bw w w):=Below.refl _ _;go_enter Tryz.func115,Tryz.ntmps115;go_wp2_with fail;obtain⟨R,hR⟩:∃R:World->Prop,(λW=>aC W (w.heap.size) 48 [ar false,.string ⟨#[]⟩,ah 0]/\Bw w W)=R:=⟨_,rfl⟩;first|refine cj R ?hR ?_|refine cu R ?hR ?_
 case hR=>subst hR;exact⟨(aC.newAt w _ _ (b:=w.heap.size) rfl),zl⟩
 subst hR;rintro W ⟨qr,ag⟩;have Hr:=aj qr;clear qr;obtain⟨r0,au,r1,az,r2,aJ⟩:=Hr.out.g3;replace Hb:=aF Hb ag;clear ag;go_wp2_with fail;refine(mW.out _ Hb.out).mono ?_;rintro e w1 ⟨rfl,ag⟩;clear r0 au r1 az r2 aJ;obtain⟨Hr,r0,au,r1,az,r2,aJ⟩:=bg Hr ag;replace Hb:=aF Hb ag;clear ag;go_wp2_with fail;refine(Yv.out _ Hb.out).mono ?_;rintro e w2 ⟨a2,c2,rfl,hc2,ht2,ag⟩;clear r0 au r1 az r2 aJ;obtain⟨Hr,r0,au,r1,az,r2,aJ⟩:=bg Hr ag;replace Hb:=aF Hb ag;clear ag;have Kz:=aj ht2;clear ht2;go_wp2_with fail;refine(EN.out _ Hb.out a2 c2 Kz.out).mono ?_;rintro e w3 ⟨rfl,ag⟩;clear r0 au r1 az r2 aJ;obtain⟨Hr,r0,au,r1,az,r2,aJ⟩:=bg Hr ag;replace Hb:=aF Hb ag;clear ag Kz;have UB:=Hr.out.lt;obtain⟨W4,rp,ag,Hd⟩:=cF w3 48 [ar (aI (dN X)),ai (nt (dN X).natAbs),ah (dE X)];clear r0 au r1 az r2 aJ;obtain⟨Hr,r0,au,r1,az,r2,aJ⟩:=bg Hr ag;obtain⟨d0,d1,d2⟩:=Hd.out.c3;replace Hb:=aF Hb ag;clear ag;go_wp2_with fail;refine(Yv.out _ Hb.out).mono ?_;rintro e w5 ⟨a3,c3,rfl,hc3,Iu,ag⟩;clear r0 au r1 az r2 aJ d0 d1 d2;obtain⟨Hr,r0,au,r1,az,r2,aJ⟩:=bg Hr ag;obtain⟨Hd,d0,d1,d2⟩:=bP Hd ag;replace Hb:=aF Hb ag;clear ag;have KA:=aj Iu;clear Iu;have jG:=Hr;have XC:=Hd;have dG:=Hb;go_wp2_with fail;refine(OG.out _ Hb.out a3 c3 KA.out).mono ?_;rintro e w6 ⟨v,rfl,hO,abW,ag⟩;clear r0 au r1 az r2 aJ d0 d1 d2;obtain⟨Hr,r0,au,r1,az,r2,aJ⟩:=bg Hr ag;obtain⟨Hd,d0,d1,d2⟩:=bP Hd ag;replace Hb:=aF Hb ag;clear ag;obtain⟨go,cv,rfl,hgo⟩:∃go cv,v=.slice (some ⟨go,0,none⟩) n cv/\w5.heap.size<=go:=by obtain⟨vals,hl,ho,_,_⟩:=hO;obtain⟨g,c,e1,h1,_,_⟩:=zn ho zo;exact⟨g,c,e1,h1⟩
 have hcv:n<=cv:=by obtain⟨vals,hl,ho,_,_⟩:=hO;exact(zq ho).1
 obtain⟨gI,hgI⟩:∃gI:Nat->Nat×Nat,∀i,i<n->w6.cell? ⟨go,i,none⟩=some (.slice (some ⟨(gI i).1,0,none⟩) n (gI i).2)/\w5.heap.size<=(gI i).1/\(gI i).1<w6.heap.size/\(gI i).1≠go:=by have H:=λi (h:i<n)=>(hO.blk i h mD).2;refine⟨λi=>if h:i<n then(Classical.choose (H i h),Classical.choose (Classical.choose_spec (H i h)))else(0,0),λi h=>?_⟩;simp only[h,dif_pos];exact Classical.choose_spec (Classical.choose_spec (H i h))
 obtain⟨HO,XN⟩:=aZ hO hgI;clear hO hgI;have BW:Hid (Bw w5 w6):=abW;have H66:Hid (Bw w6 w6):=Below.refl _ _;clear abW;have NZ:=BW.out.size;go_wp2_with fail;refine(qW.out _).mono ?_;rintro e w7 ⟨rfl,abY,ag⟩;clear r0 au r1 az r2 aJ d0 d1 d2;obtain⟨Hr,r0,au,r1,az,r2,aJ⟩:=bg Hr ag;obtain⟨Hd,d0,d1,d2⟩:=bP Hd ag;replace Hb:=aF Hb ag;clear ag;go_wp2_with fail;refine(pI.out _ Hb.out).mono ?_;rintro e w8 ⟨rfl,abZ,ag⟩;clear r0 au r1 az r2 aJ d0 d1 d2;obtain⟨Hr,r0,au,r1,az,r2,aJ⟩:=bg Hr ag;obtain⟨Hd,d0,d1,d2⟩:=bP Hd ag;replace Hb:=aF Hb ag;clear ag;have SJ:=aV abY abZ;clear abY abZ;have WA:=aj SJ;have Oa:=SJ.size;clear SJ;have aAj:=Hr.out.lt;have azj:=Hd.out.lt;obtain⟨W9,Ml,ag,Hs⟩:=cF w8 48 [ar (aI (dN G)),ai (nt (dN G).natAbs),ah (dE G)];clear r0 au r1 az r2 aJ;replace Hr:=kB Hr ag;clear d0 d1 d2;obtain⟨Hd,d0,d1,d2⟩:=bP Hd ag;obtain⟨r0,au,r1,az,r2,aJ⟩:=Hr.out.g3;obtain⟨s0,s1,s2⟩:=Hs.out.c3;replace Hb:=aF Hb ag;clear ag;have JO:Hid (Bw w6 W9):=by rw[<-Ml];exact(WA.out).alloc zo _
 have hO9:=HO.out.below JO.out;have Mr:∀i,i<n->W9.cell? ⟨go,i,none⟩=some (.slice (some ⟨(gI i).1,0,none⟩) n (gI i).2):=λi h=>cell_later JO.out (XN.out i h).1;have abX:=aV BW.out JO.out;obtain⟨WT,Xw,Wz⟩:=dc hO9 Mr abX;have Yy:=Hs;clear hO9 Mr abX HO WA H66 JO;go_wp2_with fail;go_loopw[37] (λx wr=>∃(k:Nat) (R:List (List Dyadic)),k<=n/\x=ah (k:Int)/\R.length=n/\(∀r∈R,r.length=n)/\(∀a b,a<n->b<n->cZ R a b=if kG k 0 a b then F a b*G else F a b)/\gj wr w5.heap.size n R n (.slice (some ⟨go,0,none⟩) n cv)/\(∀i,i<n->wr.cell? ⟨go,i,none⟩=some (.slice (some ⟨(gI i).1,0,none⟩) n (gI i).2))/\aC wr w8.heap.size 48 [ar (aI (dN G)),ai (nt (dN G).natAbs),ah (dE G)]/\Bw w5 wr) (λx _=>n-(intOf x).toNat);case atStart=>exact⟨0,A,Nat.zero_le _,rfl,HAl.out,HAr.out,λa b ha hb=>by rw[HAe.out a b ha hb,if_neg (by unfold kG;omega)],WT.out,Xw.out,Yy.out,Wz.out⟩
 case round=>
  clear Yy Wz Xw WT s0 s1 s2 Hs r0 au r1 az r2 aJ d0 d1 d2 Hr Hd Hb BW;obtain⟨k,R,hk,rfl,jm,tX,hRe,hO,hc,hs,pb⟩:=hrel;by_cases hlt:k<n
  . have eZ:=hc k hlt;obtain⟨g,c,jv⟩:∃g c,gI k=(g,c):=⟨_,_,rfl⟩;obtain⟨_,hg1,hg2,hg3⟩:=XN.out k hlt;rw[jv]at eZ hg1 hg2 hg3;have bK:=DW n cv k (k:Int) (rfl:(some ⟨go,0,none⟩:Option Addr)=_) hlt rfl;rw[Nat.zero_add,Nat.mul_one]at bK;have hin:∃(j:Nat) (R:List (List Dyadic)),j=0/\R.length=n/\(∀r∈R,r.length=n)/\(∀a b,a<n->b<n->cZ R a b=if kG k j a b then F a b*G else F a b)/\gj wr w5.heap.size n R n (.slice (some ⟨go,0,none⟩) n cv)/\(∀i,i<n->wr.cell? ⟨go,i,none⟩=some (.slice (some ⟨(gI i).1,0,none⟩) n (gI i).2))/\aC wr w8.heap.size 48 [ar (aI (dN G)),ai (nt (dN G).natAbs),ah (dE G)]/\Bw w5 wr:=⟨0,R,rfl,jm,tX,hRe,hO,hc,hs,pb⟩;obtain⟨xR,xQ⟩:=aZ hin jv;clear hin jm tX hRe hO hc hs pb jv;obtain⟨wq,hwq⟩:∃wq,wq=wr:=⟨_,rfl⟩;subst hwq;go_wp2_with fail;go_loopw[43] (λx wr=>∃(j:Nat) (R:List (List Dyadic)),j<=n/\x=ah (j:Int)/\R.length=n/\(∀r∈R,r.length=n)/\(∀a b,a<n->b<n->cZ R a b=if kG k j a b then F a b*G else F a b)/\gj wr w5.heap.size n R n (.slice (some ⟨go,0,none⟩) n cv)/\(∀i,i<n->wr.cell? ⟨go,i,none⟩=some (.slice (some ⟨(gI i).1,0,none⟩) n (gI i).2))/\aC wr w8.heap.size 48 [ar (aI (dN G)),ai (nt (dN G).natAbs),ah (dE G)]/\Bw w5 wr) (λx _=>n-(intOf x).toNat);case atStart=>obtain⟨j,R,rfl,h⟩:=xR.out;exact⟨0,R,Nat.zero_le _,rfl,h⟩
    case round=>
     clear xR eZ bK;obtain⟨j,R,hj,rfl,jm,tX,hRe,hO,hc,hs,pb⟩:=hrel;by_cases bM:j<n
     . have hrl:(R.getD k []).length=n:=by
        have e:R.getD k []=R[k]'zo:=by rw[List.getD_eq_getElem?_getD,List.getElem?_eq_getElem zo];rfl
        rw[e];exact tX _ (List.getElem_mem _)
       have eZ:=hc k hlt;rw[xQ.out]at eZ;have hpick:∀W,gj W w5.heap.size n R n (.slice (some ⟨go,0,none⟩) n cv)->W.cell? ⟨go,k,none⟩=some (.slice (some ⟨g,0,none⟩) n c)->bY W g (j*3) [ar (aI (dN (F k j))),ai (nt (dN (F k j)).natAbs),ah (dE (F k j))]/\(∀o,W.frozen? ⟨g,o,none⟩=false)/\∀y:Dyadic,gj (((W.setCell ⟨g,j*3,none⟩ (ar (aI (dN y)))).setCell ⟨g,j*3+1,none⟩ (ai (nt (dN y).natAbs))).setCell ⟨g,j*3+2,none⟩ (ah (dE y))) w5.heap.size n (R.set k ((R.getD k []).set j y)) n (.slice (some ⟨go,0,none⟩) n cv):=by
        intro W hO eZ;obtain⟨go',cap',g',c',hv,_,_,hne,hcell,cw,hfz,hup⟩:=hO.num k j hlt bM jm hrl;simp only[Value.slice.injEq,Option.some.injEq,Addr.mk.injEq,and_true,true_and]at hv;obtain⟨rfl,rfl⟩:=hv;rw[eZ]at hcell;simp only[Option.some.injEq,Value.slice.injEq,Addr.mk.injEq,and_true,true_and]at hcell;obtain⟨rfl,rfl⟩:=hcell;have he:(R.getD k []).getD j 0=F k j:=by have h:=hRe k j hlt bM;rw[if_neg (by unfold kG;omega)]at h;exact h
        rw[he]at cw;exact⟨cw,hfz,hup⟩
       obtain⟨cw,_,_⟩:=hpick wr hO eZ;have RR:=HAs.out k j hlt bM;obtain⟨Y,hY⟩:=aK (F k j*G);have hsl:=auZ jm tX k j hlt Y;have hen:∀a b,a<n->b<n->cZ (R.set k ((R.getD k []).set j Y)) a b=if kG k (j+1) a b then F a b*G else F a b:=by
        intro a b ha hb;rw[anM jm tX k j hlt bM Y a b ha hb];by_cases e:a=k/\b=j
        . obtain⟨rfl,rfl⟩:=e;rw[if_pos ⟨rfl,rfl⟩,if_pos (by unfold kG;omega),hY]
        . rw[if_neg e,hRe a b ha hb];have:kG k j a b↔kG k (j+1) a b:=by unfold kG;omega
          by_cases h:kG k j a b
          . rw[if_pos h,if_pos (this.1 h)]
          . rw[if_neg h,if_neg (λh2=>h (this.2 h2))]
       obtain⟨E,hE⟩:=aK (F k j);have HY:Hid (aM (canon E) *aM (canon G)=Y):=by show _=_;rw[cN,cN,<-hE];exact hY
       rw[hE]at cw RR hpick;have hjx:=mG n c j (j:Int) (rfl:(some ⟨g,0,none⟩:Option Addr)=_) bM rfl;rw[Nat.zero_add]at hjx;obtain⟨R2,hR2⟩:=aK (R.set k ((R.getD k []).set j Y));have hpk:=λW h1 h2=>(hpick W h1 h2).2.2 Y;have Be:=λW h1 h2=>(hpick W h1 h2).2.1;rw[hR2]at hsl hen hpk;have Hz:Hid (bY wr g (j*3) [ar (aI (dN E)),ai (nt (dN E).natAbs),ah (dE E)]):=cw;have Hs:Hid (aC wr w8.heap.size 48 [ar (aI (dN G)),ai (nt (dN G).natAbs),ah (dE G)]):=hs;obtain⟨HO,OQ,mW,bj,Qj,Hen,Hpk,Hpz,HAf,fN⟩:=Nj hO hc eZ pb hsl hen hpk Be RR (HT.out.below (aV dG.out pb));have Es:=pb.size;clear hO hc eZ pb hsl hen hpk Be RR hs cw hpick hR2 hE hY jm tX hRe hrl;have Hb:Hid (Bw wr wr):=Below.refl _ _;have MS:=Hs.out.lt;go_wp2_with fail;obtain⟨z0,z1,z2⟩:=Hz.out.w3;obtain⟨s0,s1,s2⟩:=Hs.out.c3;have HU:Hid (aO wr):=fN.out;refine cg (λw'=>aH w' g (j*3) (ar (aI (dN E)))/\aH w' g (j*3+1) (ai (nt (dN E).natAbs))/\aH w' g (j*3+2) (ah (dE E))/\aH w' (w8.heap.size) 0 (ar (aI (dN G)))/\aH w' (w8.heap.size) 1 (ai (nt (dN G).natAbs))/\aH w' (w8.heap.size) 2 (ah (dE G))) (λi=>Nat.blt i 10) [(0,true),(1,true),(2,true),(3,true),(4,true),(5,true),(6,true),(7,false),(8,false),(9,true),(10,false)] zk zk rfl zk zc ⟨z0,z1,z2,s0,s1,s2⟩ ?_;iterate 7 (refine pT rfl rfl ?_ (by intro w' ⟨q0,q1,q2,q3,q4,q5⟩;go_simp;try with_reducible rfl);try simp only[UU])
       refine aW rfl rfl (λK hK=>?_);go_simp;refine hK _ _ (λ_=>⟨aX z0,aX z1,aX z2,aX s0,aX s1,aX s2⟩) ?_;clear hK K;try simp only[UU]
       refine cn (λW4=>aC W4 (wr.heap.size) 48 [ar (aI (dN E)),ai (nt (dN E).natAbs),ah (dE E),ar (aI (dN G)),ai (nt (dN G).natAbs),ah (dE G)]/\Bw wr W4) (by first|exact dZ|exact ej) ?_;rintro W4 ⟨qv,ag⟩;clear z0 z1 z2 s0 s1 s2;have aAl:=Hs.out.lt;replace Hz:=kW Hz ag;replace Hs:=kB Hs ag;replace HU:=kT HU ag;have Hv:=aj qv;clear qv;obtain⟨z0,z1,z2⟩:=Hz.out.w3;obtain⟨s0,s1,s2⟩:=Hs.out.c3;obtain⟨v0,v1,v2,v3,v4,v5⟩:=Hv.out.c6;replace Hb:=aF Hb ag;clear ag;refine aW rfl rfl (λK hK=>?_);go_simp;with_reducible refine(Aq _ _ _ _ _ _ Y (4*B+11) HY.out wr.heap.size _ 48 _ HAf.out HGf.out zo Hv.out (by first|exact HU.out|exact aO.drew HU.out|exact aO.alloc HU.out _|exact aO.drew (aO.alloc HU.out _) |exact aO.alloc (aO.drew HU.out) _)).mono ?_
       rintro e fB ⟨rfl,hq⟩;have ag:Bw W4 fB:=by first|exact hq|exact bo hq
       clear z0 z1 z2 s0 s1 s2 v0 v1 v2 v3 v4 v5;replace Hz:=kW Hz ag;obtain⟨Hs,s0,s1,s2⟩:=bP Hs ag;replace HU:=kT HU ag;obtain⟨Hv,v0,v1,v2,v3,v4,v5⟩:=jO Hv ag;obtain⟨z0,z1,z2⟩:=Hz.out.w3;replace Hb:=aF Hb ag;clear ag;refine hK _ _ (λ_=>⟨z0,z1,z2,s0,s1,s2⟩) ?_;clear hK K;try simp only[UU]
       refine pT rfl rfl ?_;try simp only[UU]
       refine aW rfl rfl (λK hK=>?_);have Si:=HO.out.below Hb.out;have Tk:=cell_later Hb.out mW.out;have hfz:=Hpz.out fB Si Tk;have tP:=hfz (j*3);have rc:=hfz (j*3+1);have RL:=hfz (j*3+2);have hup:=Hpk.out fB Si Tk;have wX:=aV bj.out Hb.out;obtain⟨Qq,lR⟩:=aZ hup wX;clear Si Tk hfz hup wX;go_simp;refine hK _ _ (λh=>absurd h zd) ?_;clear hK K;try simp only[UU]
       simp only[bD];go_wp2;refine⟨⟨j+1,R2,by omega,by go_num,Qj.out.1,Qj.out.2,Hen.out,Qq.out,λi hi=>?_,?_,?_⟩,by simp[intOf];omega⟩
       . have hne:(⟨go,i,none⟩:Addr).block≠g:=λe=>hg3 e.symm;exact aU (.inl hne) (aU (.inl hne) (aU (.inl hne) (cell_later Hb.out (OQ.out i hi))))
       . have hne:g≠w8.heap.size:=by omega
         exact((Hs.out.aBg _ hne _).aBg _ hne _).aBg _ hne _
       . exact((lR.out.setCell hg1 _).setCell hg1 _).setCell hg1 _
     . obtain rfl:j=n:=by omega
       have jf:(∀a b,a<j->b<j->cZ R a b=if kG (k+1) 0 a b then F a b*G else F a b):=by
        intro a b ha hb;rw[hRe a b ha hb];have:kG k j a b↔kG (k+1) 0 a b:=by unfold kG;omega
        by_cases h:kG k j a b
        . rw[if_pos h,if_pos (this.1 h)]
        . rw[if_neg h,if_neg (λh2=>h (this.2 h2))]
       have hres:(∃k' R,k'<=j/\k'=k+1/\R.length=j/\(∀r∈R,r.length=j)/\(∀a b,a<j->b<j->cZ R a b=if kG k' 0 a b then F a b*G else F a b)/\gj wr w5.heap.size j R j (.slice (some ⟨go,0,none⟩) j cv)/\(∀i,i<j->wr.cell? ⟨go,i,none⟩=some (.slice (some ⟨(gI i).1,0,none⟩) j (gI i).2))/\aC wr w8.heap.size 48 [ar (aI (dN G)),ai (nt (dN G).natAbs),ah (dE G)]/\Bw w5 wr):=⟨k+1,R,by omega,rfl,jm,tX,jf,hO,hc,hs,pb⟩;have ia:=aj hres;clear hres jf jm tX hRe hO hc hs pb;go_wp2;go_roundw;case rel=>obtain⟨k',R,h1,rfl,h⟩:=ia.out;exact⟨k+1,R,h1,by go_num,h⟩
       case measure=>simp[intOf];omega
  . obtain rfl:k=n:=by omega
    have hRf:R=tG k P:=vZ.out R jm tX (λa b ha hb=>by rw[hRe a b ha hb,if_pos (by unfold kG;omega)]);subst hRf;obtain⟨HOk,bj⟩:=aZ hO pb;clear hO hc hs pb jm tX hRe;obtain⟨Hr,Hd,Hb⟩:=dc (jG.out.below bj.out) (XC.out.below bj.out) (aV dG.out bj.out);obtain⟨r0,au,r1,az,r2,aJ⟩:=Hr.out.g3;obtain⟨d0,d1,d2⟩:=Hd.out.c3;go_wp2_with fail;refine(qJ.out _ Hb.out).mono ?_;rintro e jU ⟨rfl,yA,ag⟩;clear r0 au r1 az r2 aJ d0 d1 d2;obtain⟨Hr,r0,au,r1,az,r2,aJ⟩:=bg Hr ag;obtain⟨Hd,d0,d1,d2⟩:=bP Hd ag;replace Hb:=aF Hb ag;clear ag;have ahj:=aj (HOk.out.below yA);clear yA;have hzz:=dG.out.size;have kO:w.heap.size<w5.heap.size:=Nat.lt_of_lt_of_le jG.out.lt (Nat.le_refl _);go_wp2;refine fJ (λqG=>aC qG w.heap.size 48 [ar (aI (dN (G*X))),ai (nt (dN (G*X)).natAbs),ah (dE (G*X))]/\gj qG w5.heap.size k (tG k P) k (.slice (some ⟨go,0,none⟩) k cv)/\Bw w qG) ⟨((Hr.out.set 0 _).set 1 _).set 2 _,((ahj.out.aBr kO _).aBr kO _).aBr kO _,((Hb.out.setCell zp _).setCell zp _).setCell zp _⟩ ?_;rintro qG ⟨apT,apK,ao6⟩;obtain⟨q0,q1,q2⟩:=apT.c3;obtain⟨a9,c9,uq,Mr,ht9⟩:=apK.tbl (QP _ _) (QQ _ _);simp only[Value.slice.injEq,true_and]at uq;obtain⟨rfl,rfl⟩:=uq;exact bodyPost_ret (v:=.tuple #[cP (G*X),.slice (some ⟨go,0,none⟩) k cv,ah 0]) (by simp[results,Tryz.results115,go_sem,q0,q1,q2]) rfl ⟨_,_,rfl,Mr,ht9,ao6⟩
theorem asL {w:World}{b base n:Nat}{e:TypeId}{size:Nat}{xs:List Value}(h:aC w b e xs)(hb:base<=b)(hl:xs.length=n*size)(hn:n<=1048576):w.ownsRow base e size (.slice (some ⟨b,0,none⟩) n n) n xs:=
 ⟨hl,.inr ⟨b,n,xs.toArray,rfl,hb,h,Nat.le_refl _,by unfold maxLen;omega,by simpa using hl,by rw[<-hl];simp⟩⟩
theorem cM.aBx {w:World}{a:Option Addr}{T:List (List Dyadic)}{n:Nat}(h:cM w a (T.map λr=>r.map canon))(hl:T.length=n)(hr:∀r∈T,r.length=n)(k i:Nat)(hk:k<n)(hi:i<n):
 ∃b o br os cr,a=some ⟨b,o,none⟩/\w.cell? ⟨b,o+k,none⟩=some (.slice (some ⟨br,os,none⟩) n cr)/\bY w br (os+i*3) [ar (aI (dN (cZ T k i))),ai (nt (dN (cZ T k i)).natAbs),ah (dE (cZ T k i))]:=by
 have MG:k<T.length:=by omega
 obtain⟨b,o,a',c',h1,h2,h3⟩:=h.row k (by simpa using MG);have e1:(T.map λr=>r.map canon)[k]'(by simpa using MG)=T[k].map canon:=by simp
 have hlk:=hr _ (List.getElem_mem MG);rw[e1]at h2 h3;rw[List.length_map,hlk]at h2;have hik:i<T[k].length:=by omega
 have e2:cZ T k i=T[k][i]:=by unfold cZ;simp[List.getD_eq_getElem?_getD,MG,hik]
 obtain⟨br,os,e3,q0,q1,q2⟩:=h3.num i (by simpa using hik) (show(T[k].map canon)[i]'(by simpa using hik)=(aI (dN (cZ T k i)),nt (dN (cZ T k i)).natAbs,dE (cZ T k i))by rw[e2];simp;rfl);subst e3;exact⟨b,o,br,os,c',h1,h2,kX q0 q1 q2⟩
theorem atv {n B:Nat}{rows:List (List Raw)}(hr:Rw n B rows)(a b:Nat)(ha:a<=n)(hb:b<n):Sm B (jA rows a b):=by have hL:=hr.1;rw[xC rows a b zo (by rw[hr.2.1 _ (List.getElem_mem _)];exact hb)];exact(hr.2.2 _ (List.getElem_mem _) _ (List.getElem_mem _)).2
end Go.Proofs.YtnjfebkelecgaaaGreatDoor
