/- Package slices: Clone,Delete,over numbers. -/
import Derived.Test.YtoopepmmepmfnaaGreatDoorZ13
import Derived.Lib.SliceRun
import Derived.Test.YtoopepmmepmfnaaGreatDoorZ27
import Derived.Test.YtoopepmmepmfnaaGreatDoorZ12
import Derived.Test.YtoopepmmepmfnaaGreatDoorZ14
import Derived.Test.YtoopepmmepmfnaaGreatDoorZ23
set_option linter.unusedVariables false
set_option linter.unusedSimpArgs false
set_option maxRecDepth 100000
set_option maxHeartbeats 16000000
namespace Go.Proofs.YtoopepmmepmfnaaGreatDoor
open Go.RowKit
attribute [local go_sem ↓] Go.wp_at_zero Go.wp_at_succ
theorem ai2 (a:Option Addr)(n cap:Nat)(cM:List Raw)(w:World)(hn:cM.length=n)(hl:n<=1048576)(hs:a=none->n=0/\cap=0)(ha:At w a (cM.flatMap bI)):
 Calls Tryz.prog 209 #[.slice a n cap] w λe w'=>∃v',e=.returned v'/\w'.ownsRow w.heap.size 39 3 v' n (cM.flatMap bI)/\Bw w w':=by
 obtain⟨i0,hi,hz0,hz1,hz2⟩:=info_parts Tryz.aw4;have q:=λ(w:World) (a:Option Addr) (n c n' c':Nat)=>Lib.run_eql_slice_nil (P:=Tryz.prog) w 49 39 a n c n' c' Tryz.underlying49;have hlen:(cM.flatMap bI).length=n*3:=by rw[nM bI 3 (λ_=>rfl),hn]
 obtain⟨cs,hcs⟩:=aG (cM.flatMap bI);have h1:=De cM;rw[hcs]at hlen ha h1⊢;obtain⟨mE,Ha,H1,Hs,Hi,dF,dG,dm⟩:=nZ hlen ha h1 hs hi hz0 hz1 hz2;clear hlen ha h1 hs hi hz0 hz1 hz2 hn hcs;cases a with
 |none=>obtain⟨hn0,hc⟩:=Hs.out rfl;subst hc;subst hn0;go_enter Tryz.func209,Tryz.ntmps209;go_wp2;go_ret;refine⟨_,rfl,?_,Below.refl _ _⟩;have e:cs=[]:=List.eq_nil_of_length_eq_zero (by have:=mE.out;omega);rw[e];exact World.ownsRow_nil _ _ _ _
 |some ad=>go_enter Tryz.func209,Tryz.ntmps209;go_wp2_with (at_builtin;refine adH rfl _ _ 49 rfl w.heap.size 39 i0 _ 3 32 Tryz.underlying49 Hi.out dF.out dG.out dm.out rfl zd _ 0 [] rfl (World.ownsRow_made w #[] 0 (Nat.le_refl _) (Nat.zero_le _) zm) (some ad) n cap cs rfl Hs.out mE.out (Ha.out.below ((Below.refl _ w).alloc (Nat.le_refl _) _)) H1.out zx zo zm ?_;intro v' w1 hown hgrow iE);go_ret;refine⟨v',rfl,by simpa using hown,?_⟩;exact((Below.refl _ w).alloc (Nat.le_refl _) _).grown hgrow zm (λk hk=>by have h9:w.heap.size=k:=Option.some.inj hk;omega)
theorem Tryz.axh (w:World):(zeroValue 39).run Tryz.prog w=.ok (.agg #[ag false,.string ⟨#[]⟩,af 0]) w:=by kernel_rfl
theorem aj8 {α:Type}(f:α->List Value)(sz:Nat)(hf:∀x,(f x).length=sz)(xs:List α)(i:Nat)(hi:i<xs.length):(xs.eraseIdx i).flatMap f=(xs.flatMap f).take (i*sz)++(xs.flatMap f).drop ((i+1) *sz):=by
 have e:xs=xs.take i++xs[i]::xs.drop (i+1):=by rw[List.getElem_cons_drop,List.take_append_drop]
 have hl:((xs.take i).flatMap f).length=i*sz:=by rw[nM f sz hf,List.length_take,Nat.min_eq_left zo]
 have e1:xs.flatMap f=(xs.take i).flatMap f++(f xs[i]++(xs.drop (i+1)).flatMap f):=by
  conv=>lhs;rw[e]
  rw[List.flatMap_append,List.flatMap_cons]
 rw[e1,List.take_left' hl,List.drop_append,hl,List.drop_of_length_le (by rw[hl,Nat.add_mul];omega)];rw[show(i+1) *sz-i*sz=sz by rw[Nat.add_mul,Nat.one_mul];omega,List.nil_append,List.drop_left' (hf _),List.eraseIdx_eq_take_drop_succ,List.flatMap_append]
theorem ajy (g m cap i base:Nat)(cM:List Raw)(w:World)(hn:cM.length=m+1)(hl:m<=1048576)(hi:i<=m)
 (ho:w.ownsRow base 39 3 (.slice (some ⟨g,0,none⟩) (m+1) cap) (m+1) (cM.flatMap bI)):
 Calls Tryz.prog 208 #[.slice (some ⟨g,0,none⟩) (m+1) cap,af (i:Int),af ((i+1:Nat):Int)] w λe w'=>e=.returned (.slice (some ⟨g,0,none⟩) m cap)/\
  w'.ownsRow base 39 3 (.slice (some ⟨g,0,none⟩) m cap) m ((cM.eraseIdx i).flatMap bI)/\w.grownBy w' (some g):=by
 obtain⟨i0,hi0,hz0,hz1,hz2⟩:=info_parts Tryz.aw4;have hcap:m+1<=cap:=(uP ho).1;have hcm:cap<=9223372036854775807:=by
  rcases ho.2 with⟨h1,_⟩ |⟨g',cap',cur,h1,hb,hg,h4,h5,_⟩
  . simp at h1
  . simp only[Value.slice.injEq]at h1;obtain⟨_,_,rfl⟩:=h1;unfold maxLen at h5;omega
 have KT:=aj8 bI 3 (λ_=>rfl) cM i zo;have hlen:(cM.flatMap bI).length=(m+1) *3:=by rw[nM bI 3 (λ_=>rfl),hn]
 have h1:=De cM;obtain⟨cs,hcs⟩:=aG (cM.flatMap bI);obtain⟨rs,hrs⟩:=aG ((cM.eraseIdx i).flatMap bI);rw[hcs]at hlen ho h1 KT;rw[hrs]at KT⊢;have CO:=ab4 ho i zo;obtain⟨ad,had⟩:=aG (if cap=i+1 then(⟨g,0,none⟩:Addr)else⟨g,(i+1) *3,none⟩);have hsl:(if cap=i+1 then some (⟨g,0,none⟩:Addr)else some ⟨g,(i+1) *3,none⟩)=some ad:=by rw[<-had];split<;>rfl
 have hnews:Hid (∀j u,(cs.drop ((i+1) *3))[j]?=some u->w.drew.cell? (ad.add j)=some u):=by
  intro j u hj;rw[List.getElem?_drop]at hj;have hlt:=(List.getElem?_eq_some_iff.1 hj).1;have KN:¬cap=i+1:=by omega
  rw[if_neg KN]at had;subst had;have e2:((⟨g,(i+1) *3,none⟩:Addr).add j)=⟨g,(i+1) *3+j,none⟩:=by unfold Addr.add;cases j<;>simp
  rw[e2];have:=ho.cells (g:=g) rfl ((i+1) *3+j) u hj;have e3:((⟨g,0,none⟩:Addr).add ((i+1) *3+j))=⟨g,(i+1) *3+j,none⟩:=by unfold Addr.add;split<;>simp;omega
  rw[e3]at this;exact this
 have hnl:Hid ((cs.drop ((i+1) *3)).length=(m-i) *3):=by show _=_;rw[List.length_drop,hlen];omega
 have gj:Hid (∀u∈cs.drop ((i+1) *3),u.oneCell'=true):=λu hu=>h1 u (List.mem_of_mem_drop hu);have Vl:Hid (w.drew.ownsRow base 39 3 (.slice (some ⟨g,0,none⟩) i cap) i (cs.take (i*3))):=CO;obtain⟨afr,af2,NG,BN,Hi,dG⟩:=gW KT hnews.out hnl.out gj.out hi0 hz1;have z:=Tryz.axh;clear hnews hnl gj ho CO hlen h1 KT hcs hrs hn hi0 hz0 hz1 hz2;have hw1:IntKind.i64.wrap ((i:Int)+1)=((i+1:Nat):Int):=by rw[IntKind.wrap_i64];omega
 have hne:((i:Int)==((i+1:Nat):Int))=false:=by simp;omega
 have hcm2:¬cap=m:=by omega
 have mg:i+1<=m+1:=by omega
 have hmc:i+1<=cap:=by omega
 have hic:i<=cap:=by omega
 have h0i:(0:Int)<=(i:Int)+1:=by omega
 clear had;go_enter Tryz.func208,Tryz.ntmps208;go_wp2_with fail;have Hb:Hid (Bw w w):=Below.refl _ _;refine bR (λw'=>True) (λi=>Nat.blt i 100000) [(0,true),(1,true),(2,true),(3,true),(4,true),(5,true),(6,false),(7,true)] zk zk rfl zk zc True.intro ?_;iterate 6 (refine pT rfl rfl ?_;try simp only[UU])
 refine aI rfl rfl (λK hK=>?_);refine wp_append_own_spare _ _ _ 49 rfl base 39 i0 3 Tryz.underlying49 Hi.out dG.out g i cap (cs.take (i*3)) rfl Vl.out ad (m-i) (cap-(i+1)) (cs.drop ((i+1) *3)) rfl NG.out af2.out BN.out zo ?_;intro w1 ej hg1;refine hK _ _ (λ_=>True.intro) ?_;clear hK K;try simp only[UU]
 refine pT rfl rfl ?_;try simp only[Act.put,U1,U2]
 simp only[bi];have e9:i+(m-i)=m:=by omega
 rw[e9,<-afr.out]at ej;obtain⟨w2,hcl,eO,hg2⟩:=acz w1 49 39 _ 3 Tryz.underlying49 Tryz.axh rfl (by intro v hv;simp[Value.cells]at hv;rcases hv with rfl|rfl|rfl<;>rfl) g m 1 cap (cap-m) base rs ej zo;have yS:=ai eO;have vk:Hid (w.grownBy w2 (some g)):=grownBy_trans ⟨hg1.os,hg1.tape,hg1.output,hg1.size,hg1.block⟩ hg2;clear ej hg1 eO hg2 Vl hsl;go_wp2;go_ret;exact⟨rfl,yS.out,vk.out⟩
theorem Xb (l:List Dyadic)(c:Nat):(l.map canon).eraseIdx c=(l.eraseIdx c).map canon:=by apply List.ext_getElem?;intro i;rw[List.getElem?_eraseIdx,List.getElem?_map,List.getElem?_map,List.getElem?_map,List.getElem?_eraseIdx];split<;>rfl
theorem arU (a:Option Addr)(cap m r c:Nat)(R:List (List Dyadic))(w:World)(hL:R.length=m+1)(hrow:∀x∈R,x.length=m+1)(hr:r<=m)(hc:c<=m)(hm:m<=7)(ha:cC w a (R.map λx=>x.map canon)):
 Calls Tryz.prog 184 #[.slice a (m+1) cap,af (r:Int),af (c:Int)] w λe w'=>∃a' c',e=.returned (.slice a' m c')/\m<=c'/\cC w' a' ((iQ R r c).map λx=>x.map canon)/\Bw w w':=by
 obtain⟨j0,hj,hy0,hy1,hy2⟩:=info_parts Tryz.aw8;obtain⟨S,hS⟩:=aG (iQ R r c);have gT:=Ib R r c m hL hr;have pW:=Sg R r c m hrow hc;have Qc:=Sd R r c m hL hr;rw[hS]at gT pW Qc⊢;have rV:∀(W:World) (k:Nat) (hk:k<m+1),Bw w W->∃b o a1 c1,∃x:List Dyadic,R.getD k []=x/\x.length=m+1/\a=some ⟨b,o,none⟩/\W.cell? ⟨b,o+k,none⟩=some (.slice (some a1) (m+1) c1)/\At W (some a1) ((x.map canon).flatMap bI):=by
  intro W k hk hb;have ZB:k<R.length:=by omega
  obtain⟨b,o,a1,c1,h1,h2,h3⟩:=(ha.below hb).row k (by simp[hL];omega);have e1:(R.map λx=>x.map canon)[k]'(by simp[hL];omega)=R[k].map canon:=by simp
  have hxl:=hrow _ (List.getElem_mem ZB);rw[e1]at h2 h3;rw[List.length_map,hxl]at h2;cases a1 with
  | none=>
    rcases h3 with h3|⟨_,_,h3,_⟩
    . have:=congrArg List.length h3;rw[nM bI 3 (λ_=>rfl),List.length_map,hxl]at this;simp at this
    . cases h3
  |some a1=>exact⟨b,o,a1,c1,R[k],by simp[List.getD_eq_getElem?_getD,ZB],hxl,h1,h2,h3⟩
 obtain⟨Hj,jA,kz,kC,Ea,HSr,aeC,BU⟩:=nZ hj hy0 hy1 hy2 gT pW Qc rV;clear hj hy0 hy1 hy2 gT pW Qc rV hS ha hL hrow;have Hb:Hid (Bw w w):=Below.refl _ _;go_enter Tryz.func184,Tryz.ntmps184;go_wp2_with fail;go_loopw[7,12] (λs7 x wr=>∃(k:Nat) (v:Value),k<=m+1/\x=af (k:Int)/\v=s7/\Own2 49 wr w.heap.size S (if k<=r then k else k-1) v/\Bw w wr) (λ_ x _=>m+1-(intOf x).toNat);case atStart=>exact⟨0,_,Nat.zero_le _,rfl,rfl,by rw[if_pos (Nat.zero_le _)];exact Own2.nil _ _ _ _,Hb.out⟩
 case round=>
  clear Hb;obtain⟨k,v,hk,rfl,rfl,pv,pb⟩:=hrel;by_cases hlt:k<m+1
  . obtain⟨b,o,a1,c1,x,pj,hxl,rfl,hc1,hat⟩:=BU.out wr k hlt pb;have bK:=xS (m+1) cap k (k:Int) (rfl:(some ⟨b,o,none⟩:Option Addr)=_) hlt rfl;rw[Nat.mul_one]at bK;by_cases hkr:k=r
    . subst hkr;obtain⟨dS,bu⟩:=aO pv pb;clear pv pb pj hxl hat;have h3:((k:Int) !=(k:Int))=false:=by simp
      go_wp2;go_roundw;case rel=>exact⟨k+1,v,by omega,by go_num,rfl,by have h:=dS.out;rw[if_pos (Nat.le_refl _)]at h;rw[if_neg zo];exact h,bu.out⟩
      case measure=>simp[intOf];omega
    . have h3:((k:Int) !=(r:Int))=true:=by simp;omega
      have h4:¬(k:Int)=(r:Int):=by omega
      obtain⟨j,hj⟩:=aG (if k<=r then k else k-1);have nR:(if k+1<=r then k+1 else k+1-1)=j+1:=by rw[<-hj];split<;>split<;>omega
      have hjm:j<m:=by rw[<-hj];split<;>omega
      have Zw:(if j<r then j else j+1)=k:=by rw[<-hj];split<;>split<;>omega
      have zS:S.getD j []=x.eraseIdx c:=by rw[aeC.out j hjm,Zw,pj]
      rw[hj]at pv;obtain⟨Z,hZ⟩:=aG (x.eraseIdx c);have FW:Z.length=m:=by rw[<-hZ,List.length_eraseIdx_of_lt zo];omega
      rw[hZ]at zS
      -- the row,without its number
      have Gb:∀W,Bw wr W->Calls Tryz.prog 209 #[.slice (some a1) (m+1) c1] W λe w'=>∃g cc,e=.returned (.slice (some ⟨g,0,none⟩) (m+1) cc)/\(wr.heap.size<=g/\∀W',Bw wr W'->w'=W'->Calls Tryz.prog 208 #[.slice (some ⟨g,0,none⟩) (m+1) cc,af (c:Int),af ((c:Int)+1)] W' λe w''=>e=.returned (.slice (some ⟨g,0,none⟩) m cc)/\w''.ownsRow wr.heap.size 39 3 (.slice (some ⟨g,0,none⟩) m cc) m (dC Z)/\Bw wr w'')/\Bw W w':=by intro W hW;refine(ai2 (some a1) (m+1) c1 (x.map canon) W (by rw[List.length_map,hxl]) zo (λe=>by cases e) (hat.below hW)).mono ?_;rintro e w' ⟨v',rfl,ho,hb⟩;obtain⟨g,cc,rfl,hg1,hg2,hg3⟩:=Dl ho zo;have hsz:=hW.size;refine⟨g,cc,rfl,⟨by omega,λW' hW' e=>?_⟩,hb⟩;subst e;have hd:=ajy g m cc c wr.heap.size (x.map canon) w' (by rw[List.length_map,hxl]) zo hc (rZ ho zo);rw[show((c+1:Nat):Int)=(c:Int)+1 by omega]at hd;refine hd.mono ?_;rintro e w'' ⟨rfl,eO,hg⟩;rw[Xb,hZ,<-vC]at eO;exact⟨rfl,eO,hW'.grown hg hW'.size (λi e=>by have h9:g=i:=Option.some.inj e;omega)⟩
      obtain⟨Ji,Jb,uY,dS,bu,Et⟩:=gW Gb zS FW pv pb nR;clear Gb zS FW hZ pv pb nR Zw hj pj hxl hat;have iy:=bu.out.size;have hwc:IntKind.i64.wrap ((c:Int)+1)=((c+1:Nat):Int):=by rw[IntKind.wrap_i64];omega
      have KN:(c:Int)+1=((c+1:Nat):Int):=by omega
      obtain⟨Oc,Hci⟩:=aO hwc KN;clear hwc KN;go_wp2_with fail;refine(Ji.out _ (Below.refl _ _)).mono ?_;rintro e w4 ⟨g,cc,rfl,⟨hg1,hdel⟩,hb4⟩;have UD:=ai (hdel w4 hb4 rfl);clear hdel hc1 bK;go_wp2_with fail;refine UD.out.mono ?_;rintro e w5 ⟨rfl,QY,ez⟩;have iN:=QY.lt;obtain⟨a2,c2,QD,jm,_⟩:=eo QY;simp only[Value.slice.injEq,true_and]at QD;obtain⟨rfl,rfl⟩:=QD;obtain⟨vals,hvl,hov,nW⟩:=dS.out.below ez;obtain⟨_,_,tH,_⟩:=dS.out;have hvs:=tH.lt;have hin:∀b o,(some ⟨g,0,none⟩:Option Addr)=some ⟨b,o,none⟩->some b≠v.ownBlock/\b<w5.heap.size:=by intro b o e;simp only[Option.some.injEq,Addr.mk.injEq,and_true]at e;obtain⟨rfl,rfl⟩:=e;have h1:=iN g rfl;refine⟨λh2=>?_,h1.2⟩;have h3:=hvs g h2.symm;omega
      obtain⟨sG,sB,lK,vq,dD,gD⟩:=gW hin jm hvl nW hov (aJ bu.out ez);have Tt:=ez.size;clear hin jm hvl nW hov tH hvs iN QY ez hb4 UD Ji hg1;have Hb:Hid (Bw w5 w5):=Below.refl _ _;obtain⟨W6,nO,ae,Hd⟩:=cd w5 49 [.slice (some ⟨g,0,none⟩) m cc];have d0:=Hd.out.c1;replace Hb:=aB Hb ae;clear ae;have di:=ownsRow_below dD.out Hb.out;have jR:=Hb.out.size;have hnews:∀i u,([.slice (some ⟨g,0,none⟩) m cc]:List Value)[i]?=some u->W6.cell? ((⟨w5.heap.size,0,none⟩:Addr).add i)=some u:=ic Hd.out;clear d0;go_wp2_with (at_builtin;refine wpList_append_own_at _ rfl _ _ 124 rfl w.heap.size 49 j0 _ 1 24 Tryz.underlying124 Hj.out jA.out kz.out kC.out rfl zd v j vals rfl di ⟨w5.heap.size,0,none⟩ 1 1 [.slice (some ⟨g,0,none⟩) m cc] rfl rfl hnews zy zx zo zo ?_;intro v' w7 eW fO _ iE;obtain⟨g',oQ,rfl⟩:=ownsRow_succ eW);go_roundw;case rel=>
       refine⟨k+1,_,by omega,by go_num,rfl,?_,?_⟩
       . rw[Et.out];refine Own2.push (a:=some ⟨g,0,none⟩) (c:=cc) lK.out (w:=W6) ?_ ?_ ?_ ?_ fO iE
         . intro i h;obtain⟨a,c,h1,h2,h3⟩:=vq.out i h;exact⟨a,c,h1,h2.below Hb.out,λb o e=>⟨(h3 b o e).1,Nat.lt_of_lt_of_le (h3 b o e).2 jR⟩⟩
         . rw[Jb.out];exact sB.out.below Hb.out
         . exact λb o e=>⟨(sG.out b o e).1,Nat.lt_of_lt_of_le (sG.out b o e).2 jR⟩
         . rw[Jb.out,uY.out];exact eW
       . exact(aJ gD.out Hb.out).grown fO zo (λj e=>dz di j e)
      case measure=>simp[intOf];omega
  . obtain rfl:k=m+1:=by omega
    rw[if_neg zo,Nat.add_sub_cancel]at pv;obtain⟨a2,c2,rfl,hcl,pg⟩:=Own2.axg pv Ea.out;obtain⟨wT,bu⟩:=aO pg pb;clear pv pb pg;go_wp2;refine bodyPost_ret (results_tmp rfl _ _ _) rfl ⟨a2,c2,rfl,hcl,wT.out,bu.out⟩
theorem ah4 (a:Option Addr)(c:Nat)(w:World):Calls Tryz.prog 143 #[.slice a 0 c] w λe w'=>e=.returned (cX 1)/\Bw w w':=by
 have Hb:Hid (Bw w w):=Below.refl _ _;go_enter Tryz.func143,Tryz.ntmps143;go_wp2_with fail;obtain⟨R,hR⟩:∃R:World->Prop,(λW=>ar W (w.heap.size) 32 [ag false,.string ⟨#[]⟩]/\Bw w W)=R:=⟨_,rfl⟩;first|refine cf R ?hR ?_|refine bZ R ?hR ?_
 case hR=>subst hR;exact⟨(ar.newAt w _ _ (b:=w.heap.size) rfl),zl⟩
 subst hR;rintro W ⟨qr,ae⟩;have Hr:=ai qr;clear qr;obtain⟨r0,aj,r1,ak⟩:=Hr.out.g2;replace Hb:=aB Hb ae;clear ae;go_wp2_with fail;refine(TC 1 _ zd zd).mono ?_;rintro e w1 ⟨rfl,ae⟩;clear r0 aj r1 ak;obtain⟨Hr,r0,aj,r1,ak⟩:=bE Hr ae;replace Hb:=aB Hb ae;clear ae;have qK:=Hr.out.lt;obtain⟨W2,mM,ae,Hl⟩:=cd w1 32 [ag (au 1),ah (nt 1)];clear r0 aj r1 ak;obtain⟨Hr,r0,aj,r1,ak⟩:=bE Hr ae;obtain⟨l0,l1⟩:=Hl.out.c2;replace Hb:=aB Hb ae;clear ae;go_wp2_with fail;go_loop [5,15] (λt x=>t=ag false/\x=af 0) (λ_ _=>0)
 case atStart=>exact⟨rfl,rfl⟩
 case round=>obtain⟨rfl,rfl⟩:=hrel;go_wp2;clear r0 aj r1 ak l0 l1;refine dW (bC W2 (w.heap.size) 0 [ag (au 1),ah (nt 1)]) bJ ?_;intro w9 hs;replace Hr:=bP Hr hs;replace Hl:=kS Hl hs zo;obtain⟨r0,aj,r1,ak⟩:=Hr.out.g2;obtain⟨l0,l1⟩:=Hl.out.c2;replace Hb:=bS Hb hs ZS;clear hs;refine bodyPost_ret (v:=cX 1) (by simp[results,Tryz.results143,go_sem,r0,r1]) rfl ⟨rfl,Hb.out⟩
theorem ajF (a:Option Addr)(cap:Nat)(w:World)(ha:cC w a [])(hT:aH w):Calls Tryz.prog 94 #[.slice a 0 cap] w λe w'=>e=.returned (.tuple #[bL 1,af 0])/\Bw w w':=by
 obtain⟨O,hO⟩:∃O:Dyadic,(1:Dyadic)=O:=⟨_,rfl⟩;have hch:=λW=>λ(h:cC W a [])=>Sc a 0 cap [] W rfl zo h;rw[show vZ []=0 from rfl]at hch;have hsc:=λW=>λ(h:cC W a []) (hT:aH W)=>acF a 0 cap 0 [] 1 0 W rfl zo zo (λr hr=>by cases hr) h (λr hr=>by cases hr) zo hT rfl;have hmk:=λW=>λ(hT:aH W)=>yf (au 1) (nt (1:Int).natAbs) 0 O (by rw[<-hO];rfl) W zd zd hT;rw[hO];obtain⟨MP,jz,lJ,Ha,HT⟩:=gJ hch hsc hmk ha hT;clear hch hsc hmk ha hT hO;have Hb:Hid (Bw w w):=Below.refl _ _;go_enter Tryz.func94,Tryz.ntmps94;go_wp2_with fail;obtain⟨R,hR⟩:∃R:World->Prop,(λW=>ar W (w.heap.size) 39 [ag false,.string ⟨#[]⟩,af 0]/\Bw w W)=R:=⟨_,rfl⟩;first|refine cf R ?hR ?_|refine bZ R ?hR ?_
 case hR=>subst hR;exact⟨(ar.newAt w _ _ (b:=w.heap.size) rfl),zl⟩
 subst hR;rintro W ⟨qr,ae⟩;have Hr:=ai qr;clear qr;obtain⟨r0,aj,r1,ak,r2,aF⟩:=Hr.out.g3;replace Hb:=aB Hb ae;clear ae;have HA:Hid (cC W a []):=Ha.out.below Hb.out;have HU:Hid (aH W):=HT.out.below Hb.out;go_wp2_with fail;refine(MP.out _ HA.out).mono ?_;rintro e w1 ⟨rfl,ae⟩;clear r0 aj r1 ak r2 aF;obtain⟨Hr,r0,aj,r1,ak,r2,aF⟩:=aN Hr ae;replace HA:=kL HA ae;replace HU:=kT HU ae;replace Hb:=aB Hb ae;clear ae;go_wp2_with fail;refine(jz.out _ HA.out HU.out).mono ?_;rintro e w2 ⟨v,rfl,hO,ae⟩;clear r0 aj r1 ak r2 aF;obtain⟨Hr,r0,aj,r1,ak,r2,aF⟩:=aN Hr ae;replace HA:=kL HA ae;replace HU:=kT HU ae;replace Hb:=aB Hb ae;clear ae;obtain⟨vals,_,ho,_⟩:=hO;obtain⟨a2,c2,rfl,_,_⟩:=eo ho;clear ho;go_wp2_with fail;refine(ah4 a2 c2 _).mono ?_;rintro e w3 ⟨rfl,ae⟩;clear r0 aj r1 ak r2 aF;obtain⟨Hr,r0,aj,r1,ak,r2,aF⟩:=aN Hr ae;replace HA:=kL HA ae;replace HU:=kT HU ae;replace Hb:=aB Hb ae;clear ae;go_wp2_with fail;refine(lJ.out _ HU.out).mono ?_;rintro e w4 ⟨rfl,ae⟩;clear r0 aj r1 ak r2 aF;obtain⟨Hr,r0,aj,r1,ak,r2,aF⟩:=aN Hr ae;replace HA:=kL HA ae;replace HU:=kT HU ae;replace Hb:=aB Hb ae;clear ae;go_wp2;clear r0 aj r1 ak r2 aF;refine dW (bC w4 (w.heap.size) 0 [ag (au (dN O)),ah (nt (dN O).natAbs),af (dE O)]) bJ ?_;intro w9 hs;replace Hr:=bP Hr hs;obtain⟨r0,aj,r1,ak,r2,aF⟩:=Hr.out.g3;replace Hb:=bS Hb hs ZS;clear hs;refine bodyPost_ret (v:=.tuple #[bL O,af 0]) (by simp[results,Tryz.results94,go_sem,r0,r1,r2]) rfl ⟨rfl,Hb.out⟩
theorem Wo (R:List (List Dyadic)):((R.map λr=>r.map canon).map λr=>r.map az)=R:=by
 rw[List.map_map];have:((λr:List Raw=>r.map az)∘λr:List Dyadic=>r.map canon)=id:=by
  funext r
  show(r.map canon).map az=r
  rw[List.map_map];have:(az∘canon)=id:=funext bD;rw[this];simp
 rw[this];simp
theorem anQ (a':Option Addr)(c' m r c:Nat)(R:List (List Dyadic))(B:Nat)(w:World)(hL:R.length=m+1)(hrow:∀x∈R,x.length=m+1)(hr:r<=m)(hc:c<=m)(hm:m<=4)(hsm:∀x∈R,∀d∈x,Sm B d)(cm:1<=B)(hB:B<=1000000)(ht:cC w a' ((iQ R r c).map λx=>x.map canon))(hT:aH w):
 Calls Tryz.prog 94 #[.slice a' m c'] w λe w'=>e=.returned (.tuple #[bL (cH m (gK (bU R) r c)),af 0])/\Bw w w':=by
 have hl:=Ib R r c m hL hr;by_cases h0:m=0
 . subst h0;have e:iQ R r c=[]:=List.eq_nil_of_length_eq_zero hl;rw[e]at ht;exact ajF a' c' w ht hT
 . refine OW a' c' m ((iQ R r c).map λx=>x.map canon) B (iQ R r c) _ w zo hm (by rw[List.length_map,hl]) (λx hx=>?_) ht (λx hx y hy=>?_) cm hB hT (Wo _) (abE R r c m hL hrow hr hc hm)
   . obtain⟨z,hz,rfl⟩:=List.mem_map.1 hx;rw[List.length_map];exact Sg R r c m hrow hc z hz
   . obtain⟨z,hz,rfl⟩:=List.mem_map.1 hx;obtain⟨d,hd,rfl⟩:=List.mem_map.1 hy;exact(abF hsm r c z hz d hd).fit zo
theorem aij (s:Nat)(h:s<=8):bits BinOp.and IntKind.i64 (s:Int) 1=((s%2:Nat):Int):=by
 have hc:s=0\/s=1\/s=2\/s=3\/s=4\/s=5\/s=6\/s=7\/s=8:=by omega
 rcases hc with rfl|rfl|rfl|rfl|rfl|rfl|rfl|rfl|rfl<;>rfl
theorem ahC (a:Option Addr)(cap m:Nat)(R:List (List Dyadic))(B:Nat)(w:World)(hm:m+1<=4)(hL:R.length=m+1)(hrow:∀x∈R,x.length=m+1)(hsm:∀x∈R,∀d∈x,Sm B d)(cm:1<=B)(hB:B<=1000000)(ha:cC w a (R.map λx=>x.map canon))(hT:aH w):
 Calls Tryz.prog 144 #[.slice a (m+1) cap] w λe w'=>∃v,e=.returned (.tuple #[v,af 0])/\gF w' w.heap.size (m+1) (sN (m+1) (bU R)) (m+1) v/\Bw w w':=by
 obtain⟨i0,hi,hz0,hz1,hz2⟩:=info_parts Tryz.aw4;obtain⟨j0,hj,hy0,hy1,hy2⟩:=info_parts Tryz.aw8;have dZ:=λW (hW:Bw w W)=>Sc a (m+1) cap (R.map λx=>x.map canon) W (by rw[List.length_map,hL]) zo (ha.below hW);have hm0:vZ (R.map λx=>x.map canon)=0:=by
  unfold vZ;rw[if_neg];rintro(h|h)
  . rw[List.length_map]at h;omega
  . rw[List.any_eq_true]at h;obtain⟨r,hr,h⟩:=h;obtain⟨z,hz,rfl⟩:=List.mem_map.1 hr;have:=hrow z hz;simp at h;omega
 rw[hm0]at dZ;have hwo:=λr c (hr:r<=m) (hc:c<=m) W (hW:Bw w W)=>arU a cap m r c R W hL hrow hr hc zo (ha.below hW);have kq:=λr c (hr:r<=m) (hc:c<=m) W (hW:Bw w W) a' c' (ht:cC W a' ((iQ R r c).map λx=>x.map canon))=>anQ a' c' m r c R B W hL hrow hr hc zo hsm cm hB ht (hT.below hW);have hds:∀r c,r<=m->c<=m->Sm (4*B+6) (cH m (gK (bU R) r c)):=by
  intro r c hr hc;refine Cs zo (λi j hi hj=>?_);have hk:(if i<r then i else i+1)<R.length:=by split<;>omega
  have hl:=hrow _ (List.getElem_mem hk);have hk2:(if j<c then j else j+1)<R[if i<r then i else i+1].length:=by rw[hl];split<;>omega
  have e:gK (bU R) r c i j=R[if i<r then i else i+1][if j<c then j else j+1]:=by
   show(R.getD (if i<r then i else i+1) []).getD (if j<c then j else j+1) 0=_
   rw[List.getD_eq_getElem?_getD (l:=R),List.getElem?_eq_getElem hk,Option.getD_some,List.getD_eq_getElem?_getD,List.getElem?_eq_getElem hk2];rfl
  rw[e];exact hsm _ (List.getElem_mem hk) _ (List.getElem_mem hk2)
 obtain⟨f,hf⟩:=aG (bU R);rw[hf]at kq hds⊢;have Py:=λi (h:i<m+1)=>VU (m+1) f i h;obtain⟨A,hA⟩:=aG (sN (m+1) f);rw[hA]at Py⊢;obtain⟨Hi,dF,dG,dm,Hj,jA,kz,kC,jd,Hwo,yL,Hds⟩:=gB hi hz0 hz1 hz2 hj hy0 hy1 hy2 dZ hwo kq hds;obtain⟨HT,adT⟩:=aO hT Py;clear hi hz0 hz1 hz2 hj hy0 hy1 hy2 dZ hwo kq hds hT Py hA hf hm0 ha hsm hrow hL;have Hb:Hid (Bw w w):=Below.refl _ _;go_enter Tryz.func144,Tryz.ntmps144;go_wp2_with fail;refine(jd.out _ Hb.out).mono ?_;rintro e w1 ⟨rfl,ae⟩;replace Hb:=aB Hb ae;clear ae;go_wp2_with fail;go_loopw[5,18] (λs5 x wr=>∃(k:Nat) (v:Value),k<=m+1/\x=af (k:Int)/\v=s5/\gF wr w.heap.size (m+1) A k v/\Bw w wr) (λ_ x _=>m+1-(intOf x).toNat);case atStart=>exact⟨0,_,Nat.zero_le _,rfl,rfl,gF.nil _ _ _ _,Hb.out⟩
 case round=>
  clear Hb;obtain⟨k,v,hk,rfl,rfl,pv,pb⟩:=hrel;obtain⟨dS,bu⟩:=aO pv pb;clear pv pb;by_cases hlt:k<m+1
  . obtain⟨Z,hZ⟩:=aG ((List.range (m+1)).map λb=>lO (m+1) f k b);have wK:Hid (A.getD k []=Z):=by show _=_;rw[adT.out k hlt,hZ]
    have uY:Hid (Z.length=m+1):=by show _=_;rw[<-hZ];simp
    have HZa:Hid (∀j (h:j<m+1),Z.take (j+1)=Z.take j++[lO (m+1) f k j]):=by intro j h;rw[List.take_succ_eq_append_getElem (by rw[uY.out];exact h)];congr 2;simp[<-hZ]
    clear hZ;obtain⟨wq,hwc⟩:∃wq,wq=wr:=⟨_,rfl⟩;subst hwc;have iy:=bu.out.size;have nU:decide ((k:Int)<(m:Int)+1)=true:=by simp;omega
    go_wp2_with fail;clear nU;go_loopw[7,23] (λs7 x wr=>∃(j:Nat) (v2:Value),j<=m+1/\x=af (j:Int)/\v2=s7/\wr.ownsRow wq.heap.size 39 3 v2 j (dC (Z.take j))/\Bw wq wr) (λ_ x _=>m+1-(intOf x).toNat);case atStart=>exact⟨0,_,Nat.zero_le _,rfl,rfl,World.ownsRow_nil _ _ _ _,Below.refl _ _⟩
    case round=>
     obtain⟨j,v2,hj,rfl,rfl,ho,hb2⟩:=hrel;obtain⟨Ho,cw⟩:=aO ho hb2;have Mp:=hb2.size;clear ho hb2;by_cases bG:j<m+1
     . obtain⟨X,hX⟩:=aG (cH m (gK f j k));obtain⟨Y,hY⟩:=aG (lO (m+1) f k j);have zT:Y=if(k+j)%2=1 then-X else X:=by rw[<-hY,<-hX];rfl
       have dM:=Hds.out j k zo zo;rw[hX]at dM;have hst:dC (Z.take (j+1))=dC (Z.take j)++[ag (au (dN Y)),ah (nt (dN Y).natAbs),af (dE Y)]:=by rw[HZa.out j bG,hY,zD];rfl
       have dY:=aJ bu.out cw.out;have hd:=λW hW a' c' ht=>yL.out j k zo zo W hW a' c' ht;rw[hX]at hd;obtain⟨Hd,bX,Bz⟩:=cL hd hst zT;have Uo:Hid (Ok (canon X)):=dM.ok zo;have fP:=ai dY;clear hd hst zT hX hY dM dY;have Hb:Hid (Bw wr wr):=Below.refl _ _;go_wp2_with fail;refine(Hwo.out j k zo zo _ fP.out).mono ?_;rintro e w3 ⟨a3,c3,rfl,hc3,xO,ae⟩;replace Hb:=aB Hb ae;clear ae;have ze:=ai xO;clear xO;go_wp2_with fail;refine(Hd.out _ (aJ fP.out Hb.out) a3 c3 ze.out).mono ?_;rintro e w4 ⟨rfl,ae⟩;replace Hb:=aB Hb ae;clear ae ze;have Tq:=Hb.out.size;obtain⟨W5,xt,ae,Hx⟩:=cd w4 39 [ag (au (dN X)),ah (nt (dN X).natAbs),af (dE X)];obtain⟨x0,aY,x1,aZ,x2,bj⟩:=Hx.out.g3;replace Hb:=aB Hb ae;clear ae;have CE:=aij (k+j) zo;rw[Int.natCast_add]at CE;go_upto_if 38 with fail
       go_cut[7] (λs7 wx=>s7=v2/\ar wx w4.heap.size 39 [ag (au (dN Y)),ah (nt (dN Y).natAbs),af (dE Y)]/\Bw wr wx);case first=>
        by_cases hp:(k+j)%2=1
        . have h9:(bits BinOp.and IntKind.i64 ((k:Int)+(j:Int)) 1==1)=true:=by rw[CE,hp];rfl
          have hY: -az (canon X)=Y:=by rw[bD,Bz.out,if_pos hp]
          have HY:=ai hY;clear hY CE;go_wp2_with fail;refine(OV _ _ _ Y HY.out _ Uo.out (HT.out.below (aJ fP.out Hb.out))).mono ?_;rintro e w6 ⟨rfl,ae⟩;clear x0 aY x1 aZ x2 bj;obtain⟨Hx,x0,aY,x1,aZ,x2,bj⟩:=aN Hx ae;replace Hb:=aB Hb ae;clear ae;go_wp2_with fail;go_meet;exact⟨rfl,((Hx.out.set 0 _).set 1 _).set 2 _,((Hb.out.setCell zp _).setCell zp _).setCell zp _⟩
        . have h9:(bits BinOp.and IntKind.i64 ((k:Int)+(j:Int)) 1==1)=false:=by rw[CE,show(k+j)%2=0 by omega];rfl
          have hY:Y=X:=by rw[Bz.out,if_neg hp]
          subst hY;clear CE;go_wp2_with fail;go_meet;exact⟨rfl,Hx.out,Hb.out⟩
       case rest=>
        obtain⟨rfl,hx,hb⟩:=hcut;clear CE;have Hx:Hid (ar wc w4.heap.size 39 [ag (au (dN Y)),ah (nt (dN Y).natAbs),af (dE Y)]):=hx;have lI:=ai (aJ cw.out hb);have hov:=ownsRow_below Ho.out hb;have dD:=ai hov;have szc:=hb.size;clear hx hb hov Ho Hb Hd Bz Uo fP cw;have Hb:Hid (Bw wc wc):=Below.refl _ _;obtain⟨x0,x1,x2⟩:=Hx.out.c3;have P0:=x0;have P1:=x1;have P2:=x2;have abv:=Hx.out.lt;obtain⟨W6,nO,ae,Hc⟩:=cd wc 39 [ag (au (dN Y)),ah (nt (dN Y).natAbs),af (dE Y)];clear x0 x1 x2;obtain⟨Hx,x0,x1,x2⟩:=aQ Hx ae;obtain⟨c0,c1,c2⟩:=Hc.out.c3;replace Hb:=aB Hb ae;clear ae;have di:=ownsRow_below dD.out Hb.out;have jR:=Hb.out.size;go_wp2_with (at_builtin;refine wpList_append_own_at _ rfl _ _ 49 rfl wq.heap.size 39 i0 _ 3 32 Tryz.underlying49 Hi.out dF.out dG.out dm.out rfl zd _ j (dC (Z.take j)) rfl di ⟨wc.heap.size,0,none⟩ 1 1 [ag (au (dN Y)),ah (nt (dN Y).natAbs),af (dE Y)] rfl rfl (ic Hc.out) zy zx zo zo ?_;intro v' w7 eW fO _ iE;obtain⟨g',oQ,rfl⟩:=ownsRow_succ eW);go_roundw;case rel=>exact⟨j+1,_,by omega,by go_num,rfl,by rw[bX.out];exact eW,(aJ lI.out Hb.out).grown fO zo (λj e=>dz di j e)⟩
        case measure=>simp[intOf];omega
     . obtain rfl:j=m+1:=by omega
       have lV:Z.take (m+1)=Z:=List.take_of_length_le (by rw[uY.out];exact Nat.le_refl _);rw[lV]at Ho;have iN:=Ho.out.lt;obtain⟨a2,cap2,rfl,_,_⟩:=eo Ho.out;obtain⟨vals,hvl,tH,Rz,GL⟩:=dS.out;have hov:=ownsRow_below tH cw.out;have nW:=λi h=>ownsRow_below (Rz i h) cw.out;have kI:∀g,(Value.slice a2 (m+1) cap2).ownBlock=some g->∀i (h:i<vals.length),vals[i].ownBlock≠some g:=λg e i h e2=>by have h1:=(iN g e).1;have h2:=((Rz i h).lt g e2).2;omega
       have hx:=rZ Ho.out iy;obtain⟨lK,vq,dD,NZ,wQ,Hxx⟩:=gW hvl nW hov GL kI hx;clear hvl nW hov tH Rz GL kI hx iN lV;have Hb:Hid (Bw wr wr):=Below.refl _ _;obtain⟨W6,nO,ae,Hd⟩:=cd wr 49 [.slice a2 (m+1) cap2];have d0:=Hd.out.c1;replace Hb:=aB Hb ae;clear ae;have di:=ownsRow_below dD.out Hb.out;have jR:=Hb.out.size;go_wp2_with (at_builtin;refine wpList_append_own_at _ rfl _ _ 124 rfl w.heap.size 49 j0 _ 1 24 Tryz.underlying124 Hj.out jA.out kz.out kC.out rfl zd v k vals rfl di ⟨wr.heap.size,0,none⟩ 1 1 [.slice a2 (m+1) cap2] rfl rfl (ic Hd.out) zy zx zo zo ?_;intro v' w7 eW fO _ iE;obtain⟨g',oQ,rfl⟩:=ownsRow_succ eW);go_roundw;case rel=>refine⟨k+1,_,by omega,by go_num,rfl,gF.push lK.out di (λi h=>ownsRow_below (vq.out i h) Hb.out) NZ.out (by rw[wK.out];exact ownsRow_below Hxx.out Hb.out) wQ.out eW fO,?_⟩;exact(aJ (aJ bu.out cw.out) Hb.out).grown fO zo (λj e=>dz di j e)
       case measure=>simp[intOf];omega
  . obtain rfl:k=m+1:=by omega
    go_wp2;exact bodyPost_ret (v:=.tuple #[v,af 0]) (by simp[results,Tryz.results144,go_sem]) rfl ⟨v,rfl,dS.out,bu.out⟩
end Go.Proofs.YtoopepmmepmfnaaGreatDoor
namespace Go.Proofs.YtoopepmmepmfnaaGreatDoor
def sO (n:Nat)(p:Nat->Nat->Dyadic):List (List Dyadic):=(List.range n).map λa=>(List.range n).map λb=>kD n p a b
theorem OA (n:Nat)(p:Nat->Nat->Dyadic):(sO n p).length=n:=by simp[sO]
theorem OB (n:Nat)(p:Nat->Nat->Dyadic):∀r∈sO n p,r.length=n:=by intro r hr;unfold sO at hr;obtain⟨x,_,rfl⟩:=List.mem_map.1 hr;simp
theorem VT (n:Nat)(p:Nat->Nat->Dyadic)(a b:Nat)(ha:a<n)(hb:b<n):bU (sO n p) a b=kD n p a b:=by unfold bU sO;simp[List.getD_eq_getElem?_getD,ha,hb]
theorem ara {n:Nat}{R S:List (List Dyadic)}(h1:R.length=n)(h2:∀r∈R,r.length=n)(h3:S.length=n)(h4:∀r∈S,r.length=n)(h:∀a b,a<n->b<n->bU R a b=bU S a b):R=S:=by apply List.ext_getElem zo;intro i hi hj;have l1:=h2 _ (List.getElem_mem hi);have l2:=h4 _ (List.getElem_mem hj);apply List.ext_getElem zo;intro j k1 k2;have:=h i j zo zo;unfold bU at this;simpa[List.getD_eq_getElem?_getD,hi,hj,k1,k2]using this
theorem ahy (n:Nat)(bO:n<=4){e f:Nat->Nat->Dyadic}(h:∀i j,i<n->j<n->e i j=f i j)(a b:Nat)(ha:a<n)(hb:b<n):lO n e a b=lO n f a b:=by
 have:cH (n-1) (gK e b a)=cH (n-1) (gK f b a):=Cr (n-1) zo (λi j hi hj=>by
  unfold gK
  exact h _ _ (by split<;>omega) (by split<;>omega))
 unfold lO;rw[this]
theorem aj6 {n:Nat}{R:List (List Dyadic)}(h1:R.length=n)(h2:∀r∈R,r.length=n)(i j:Nat)(hi:i<n)(hj:j<n)(y:Dyadic)(a b:Nat)(ha:a<n)(hb:b<n):bU (R.set i ((R.getD i []).set j y)) a b=if a=i/\b=j then y else bU R a b:=by
 unfold bU;by_cases e:a=i
 . subst e;rw[List.getD_eq_getElem?_getD (l:=R.set _ _),List.getElem?_set_self zo,Option.getD_some];have hl:(R.getD a []).length=n:=by
    have e:R.getD a []=R[a]'zo:=by rw[List.getD_eq_getElem?_getD,List.getElem?_eq_getElem zo];rfl
    rw[e];exact h2 _ (List.getElem_mem _)
   by_cases e2:b=j
   . subst e2;rw[if_pos ⟨rfl,rfl⟩,List.getD_eq_getElem?_getD,List.getElem?_set_self zo];rfl
   . rw[if_neg (λh=>e2 h.2),List.getD_eq_getElem?_getD,List.getElem?_set_ne (λh=>e2 h.symm),<-List.getD_eq_getElem?_getD]
 . rw[if_neg (λh=>e h.1),List.getD_eq_getElem?_getD (l:=R.set _ _),List.getElem?_set_ne (λh=>e h.symm),<-List.getD_eq_getElem?_getD]
theorem aqj {n:Nat}{R:List (List Dyadic)}(h1:R.length=n)(h2:∀r∈R,r.length=n)(i j:Nat)(hi:i<n)(y:Dyadic):(R.set i ((R.getD i []).set j y)).length=n/\∀r∈R.set i ((R.getD i []).set j y),r.length=n:=by
 refine⟨by rw[List.length_set];exact h1,λr hr=>?_⟩;rcases List.mem_or_eq_of_mem_set hr with h|h
 . exact h2 r h
 . rw[h,List.length_set];have e:R.getD i []=R[i]'zo:=by rw[List.getD_eq_getElem?_getD,List.getElem?_eq_getElem zo];rfl
   rw[e];exact h2 _ (List.getElem_mem _)
theorem aqm (X:Dyadic):(if bA X<0 then-X else X)=ol X*X:=by
 rw[aql];by_cases h:X<0
 . rw[if_pos h,if_pos ((zG X).2 h)]
 . rw[if_neg h,if_neg (λh2=>h ((zG X).1 h2))]
def kE (k j a b:Nat):Prop:=a<k\/a=k/\b<j
instance (k j a b:Nat):Decidable (kE k j a b):=inferInstanceAs (Decidable (_\/_))
end Go.Proofs.YtoopepmmepmfnaaGreatDoor
namespace Go.Proofs.YtoopepmmepmfnaaGreatDoor
open Go.RowKit
attribute [local go_sem ↓] Go.wp_at_zero Go.wp_at_succ
def VH (w:World)(n:Nat)(p:Nat->Nat->Dyadic)(e:Ending)(w':World):Prop:=
 ∃a' c',e=.returned (.tuple #[bL (ol (dw n p) *dw n p),.slice a' n c',af 0])/\n<=c'/\cC w' a' ((sO n p).map λr=>r.map canon)/\Bw w w'
theorem gF.blk {w:World}{base n L go cap:Nat}{R:List (List Dyadic)}(h:gF w base n R L (.slice (some ⟨go,0,none⟩) L cap))(i:Nat)(hi:i<L)(hn:0<n):base<=go/\∃g c,w.cell? ⟨go,i,none⟩=some (.slice (some ⟨g,0,none⟩) n c)/\base<=g/\g<w.heap.size/\g≠go:=by
 obtain⟨vals,hl,ho,hv,hd⟩:=h;have hi2:i<vals.length:=by omega
 have hrow:=hv i hi2;obtain⟨g,c,e1,hg1,hg2,_⟩:=Dl hrow hn;have iE:=Dk ho;have hc:=mY ho i zo;rw[e1]at hc;refine⟨iE.1,g,c,hc,hg1,hg2,?_⟩;rintro rfl;rw[e1]at hrow;rcases hrow.2 with⟨h1,_⟩ |⟨g',c',cur,h1,_,h2,_⟩
 . simp at h1
 . simp only[Value.slice.injEq,Option.some.injEq,Addr.mk.injEq,and_true,true_and]at h1;obtain⟨rfl,rfl⟩:=h1;rcases ho.2 with⟨h3,_⟩ |⟨g2,c2,asR,h3,_,h4,_⟩
   . simp at h3
   . simp only[Value.slice.injEq,Option.some.injEq,Addr.mk.injEq,and_true,true_and]at h3;obtain⟨rfl,rfl⟩:=h3;rw[h2]at h4;simp at h4
theorem gF.axc {w:World}{base n k:Nat}{R:List (List Dyadic)}{v:Value}(h:gF w base n R k v){p:Addr}(hp:p.block<base)(x:Value):gF (w.setCell p x) base n R k v:=by
 obtain⟨vals,hl,ho,hi,hd⟩:=h;have hne:∀{u:Value} {e:TypeId} {sz m:Nat} {xs:List Value},w.ownsRow base e sz u m xs->u.ownBlock≠some p.block:=λh e=>by have:=(h.lt _ e).1;omega
 exact⟨vals,hl,ownsRow_setCell_other ho (hne ho) _,λi h=>ownsRow_setCell_other (hi i h) (hne (hi i h)) _,hd⟩
theorem amv (a:Option Addr)(cap m:Nat)(rows:List (List Raw))(B:Nat)(w:World)(hm:m+1<=4)(hr:Rw (m+1) B rows)(hcap:m+1+1<=cap)(ha:cC w a rows)(hB:B<=200000)(hT:aH w)(h0:kQ rows=0):
 Calls Tryz.prog 96 #[.slice a (m+1+1) cap] w (VH w (m+1) (bT rows)):=by
 obtain⟨n,hn⟩:=aG (m+1);have hL:=hr.1;have hrow:=hr.2.1;have hfit:=hr.2.2;obtain⟨b,o,rfl⟩:∃b o,a=some ⟨b,o,none⟩:=by
  obtain⟨vals,hvl,hat,_⟩:=ha;rcases hat with h|⟨b,o,h,_⟩
  . rw[h]at hvl;simp at hvl;omega
  . exact⟨b,o,h⟩
 have dZ:=λW (hW:Bw w W)=>Tv (some ⟨b,o,none⟩) (m+1+1) cap rows B W hL zo hcap (ha.below hW) hfit zo (hT.below hW);rw[h0]at dZ;obtain⟨S,hS⟩:=aG ((rows.drop 1).map λp=>iW (rows.getD 0 []) p);have gT:S.length=m+1:=by rw[<-hS];simp[hL]
 have h00:0<rows.length:=by omega
 have e0:rows.getD 0 []=rows[0]:=by simp[h00]
 have pW:∀r∈S,r.length=m+1:=by intro r hr;rw[<-hS]at hr;obtain⟨p,hp,rfl⟩:=List.mem_map.1 hr;rw[Ct (by rw[e0,hrow _ (List.mem_of_mem_drop hp),hrow _ (List.getElem_mem h00)]),hrow _ (List.mem_of_mem_drop hp)]
 have ji:∀r∈S,∀d∈r,Sm (B+1) d:=by intro r hr d hd;rw[<-hS]at hr;obtain⟨p,hp,rfl⟩:=List.mem_map.1 hr;unfold iW at hd;obtain⟨i,hi,rfl⟩:=List.mem_iff_getElem.1 hd;rw[List.getElem_zipWith];refine Sm.sub (hfit p (List.mem_of_mem_drop hp) _ (List.getElem_mem _)).2 (hfit (rows.getD 0 []) ?_ _ (List.getElem_mem _)).2;rw[e0];exact List.getElem_mem h00
 obtain⟨P,hP⟩:=aG (bT rows);have Gc:∀i j,i<m+1->j<m+1->bU S i j=Cu P i j:=λi j hi hj=>by rw[<-hS,<-hP];exact Tf (m+1) rows hL hrow i j hi hj
 obtain⟨X,hX⟩:=aG (dw (m+1) P);have hent:cH (m+1) (bU S)=X:=by rw[<-hX,vE];exact Cr (m+1) hm Gc
 have hro:=λW (hW:Bw w W)=>acv b o cap (m+1) (m+1) rows B W hL zo hcap zo zo zo hrow (ha.below hW) hfit zo (hT.below hW);rw[hS]at hro
 have kq:=λW (hW:Bw w W) a' c' (h:cC W a' (S.map λr=>r.map canon))=>OW a' c' (m+1) (S.map λr=>r.map canon) (B+1) S X W zo hm (by simpa using gT) (by
  intro r hr;obtain⟨x,hx,rfl⟩:=List.mem_map.1 hr
  simpa using pW x hx) h (by
  intro r hr c hc;obtain⟨x,hx,rfl⟩:=List.mem_map.1 hr;obtain⟨y,hy,rfl⟩:=List.mem_map.1 hc
  exact(ji x hx y hy).fit zo) zo zo (hT.below hW) (Wo S) hent
 have vL:=λW (hW:Bw w W) a' c' (h:cC W a' (S.map λr=>r.map canon))=>(ahC a' c' m S (B+1) W hm gT pW ji zo zo h (hT.below hW)).mono (λe w' h=>(match h with|⟨v,h1,h2,h3⟩=>⟨v,h1,h2,h3,h3⟩:∃v,e=.returned (.tuple #[v,af 0])/\gF w' W.heap.size (m+1) (sN (m+1) (bU S)) (m+1) v/\Bw W w'/\Bw W w'));have dM:Sm (4*B+11) X:=by rw[<-hent];refine(Cs (B:=B+1) hm (λi j hi hj=>?_)).mono zo;rw[Gc i j hi hj,<-hP];exact zI (n:=m+1) (B:=B) (λa b ha hb=>by rw[se rows a b zo (by rw[hrow _ (List.getElem_mem _)];exact hb)];exact(hfit _ (List.getElem_mem _) _ (List.getElem_mem _)).2) i j hi hj
 have gU:=λW=>oV (au (dN X)) (nt (dN X).natAbs) (dE X) (bA X) (by show bA (az (canon X))=_;rw[bD]) W (dM.ok zo);have vN: -1<=bA X/\bA X<=1:=by unfold bA eQ;split<;>(try split)<;>omega
 obtain⟨G,hG⟩:=aG (ol X);have hof:=λW (hW:Bw w W)=>xj (bA X) G (by rw[<-hG];rfl) W zo (hT.below hW)
 have hab:=λW (hW:Bw w W)=>ajl (au (dN X)) (nt (dN X).natAbs) (dE X) (G*X) (by
  have e:az (au (dN X),nt (dN X).natAbs,dE X)=X:=bD X
  rw[e,aqm,hG]) W (dM.ok zo) (hT.below hW)
 have XN:Fit (4*B+11) (canon G):=(by rw[<-hG];exact(Tc X).mono zo:Sm (4*B+11) G).fit zo;have kF:∀i j,i<m+1->j<m+1->Fit (4*B+11) (canon (lO (m+1) (bU S) i j)):=λi j hi hj=>by refine((VS (B:=B+1) zo hm (λa b ha hb=>?_) i j).mono zo).fit zo;rw[Gc a b ha hb,<-hP];exact zI (n:=m+1) (B:=B) (λa b ha hb=>by rw[se rows a b zo (by rw[hrow _ (List.getElem_mem _)];exact hb)];exact(hfit _ (List.getElem_mem _) _ (List.getElem_mem _)).2) a b ha hb
 have hfin:∀R:List (List Dyadic),R.length=m+1->(∀r∈R,r.length=m+1)->(∀a b,a<m+1->b<m+1->bU R a b=lO (m+1) (bU S) a b*G)->R=sO (m+1) P:=λR h1 h2 h3=>ara h1 h2 (OA _ _) (OB _ _) (λa b ha hb=>by
  rw[h3 a b ha hb,VT _ _ _ _ ha hb];unfold kD
  rw[hX,hG,ahy (m+1) hm Gc a b ha hb])
 have Fj:=λi j hi hj=>ahz (m+1) (bU S) i j hi hj;have Kr:=ahA (m+1) (bU S);have Ks:=ahB (m+1) (bU S);obtain⟨F,hF⟩:∃F:Nat->Nat->Dyadic,(λi j=>lO (m+1) (bU S) i j)=F:=⟨_,rfl⟩;have XK:∀i j,lO (m+1) (bU S) i j=F i j:=λi j=>by rw[<-hF]
 simp only[XK]at kF hfin Fj;obtain⟨A,hA⟩:=aG (sN (m+1) (bU S));rw[hA]at vL Fj Kr Ks;rw[hP];unfold VH;rw[hX,hG];rw[hn]at dZ hro kq vL kF hfin Fj Kr Ks⊢;have bO:n<=4:=by omega
 have gj:1<=n:=by omega
 have aaq:=λW=>(gU W).mono (λe w' h=>(⟨h.1,h.2,h.2⟩:e=.returned (af (bA X))/\Bw W w'/\Bw W w'));have aaa:=λW hW=>(hof W hW).mono (λe w' h=>(⟨h.1,h.2,h.2⟩:e=.returned (bL G)/\Bw W w'/\Bw W w'));have fA:=λW hW=>(hab W hW).mono (λe w' h=>(⟨h.1,h.2,h.2⟩:e=.returned (bL (G*X))/\Bw W w'/\Bw W w'));obtain⟨jd,Vp,yL,MH,jM,rA,mD,HGf,HAs,ve,HAe,HAl⟩:=gB dZ hro kq vL aaq aaa fA XN kF hfin Fj Kr;obtain⟨HAr,HT⟩:=aO Ks hT;clear dZ hro kq vL aaq aaa gU hof hab fA XN kF hfin Fj Kr Ks hT XK hF hA dM hent Gc ji pW gT hS e0 h00 hP hX hG vN ha hr hL hrow hfit h0 hn;have Hb:Hid (Bw w w):=Below.refl _ _;go_enter Tryz.func96,Tryz.ntmps96;go_wp2_with fail;obtain⟨R,hR⟩:∃R:World->Prop,(λW=>ar W (w.heap.size) 39 [ag false,.string ⟨#[]⟩,af 0]/\Bw w W)=R:=⟨_,rfl⟩;first|refine cf R ?hR ?_|refine bZ R ?hR ?_
 case hR=>subst hR;exact⟨(ar.newAt w _ _ (b:=w.heap.size) rfl),zl⟩
 subst hR;rintro W ⟨qr,ae⟩;have Hr:=ai qr;clear qr;obtain⟨r0,aj,r1,ak,r2,aF⟩:=Hr.out.g3;replace Hb:=aB Hb ae;clear ae;go_wp2_with fail;refine(jd.out _ Hb.out).mono ?_;rintro e w1 ⟨rfl,ae⟩;clear r0 aj r1 ak r2 aF;obtain⟨Hr,r0,aj,r1,ak,r2,aF⟩:=aN Hr ae;replace Hb:=aB Hb ae;clear ae;go_wp2_with fail;refine(Vp.out _ Hb.out).mono ?_;rintro e w2 ⟨a2,c2,rfl,hc2,ht2,ae⟩;clear r0 aj r1 ak r2 aF;obtain⟨Hr,r0,aj,r1,ak,r2,aF⟩:=aN Hr ae;replace Hb:=aB Hb ae;clear ae;have JD:=ai ht2;clear ht2;go_wp2_with fail;refine(yL.out _ Hb.out a2 c2 JD.out).mono ?_;rintro e w3 ⟨rfl,ae⟩;clear r0 aj r1 ak r2 aF;obtain⟨Hr,r0,aj,r1,ak,r2,aF⟩:=aN Hr ae;replace Hb:=aB Hb ae;clear ae JD;have GZ:=Hr.out.lt;obtain⟨W4,lU,ae,Hd⟩:=cd w3 39 [ag (au (dN X)),ah (nt (dN X).natAbs),af (dE X)];clear r0 aj r1 ak r2 aF;obtain⟨Hr,r0,aj,r1,ak,r2,aF⟩:=aN Hr ae;obtain⟨d0,d1,d2⟩:=Hd.out.c3;replace Hb:=aB Hb ae;clear ae;go_wp2_with fail;refine(Vp.out _ Hb.out).mono ?_;rintro e w5 ⟨a3,c3,rfl,hc3,xO,ae⟩;clear r0 aj r1 ak r2 aF d0 d1 d2;obtain⟨Hr,r0,aj,r1,ak,r2,aF⟩:=aN Hr ae;obtain⟨Hd,d0,d1,d2⟩:=aQ Hd ae;replace Hb:=aB Hb ae;clear ae;have ze:=ai xO;clear xO;have ky:=Hr;have UC:=Hd;have fq:=Hb;go_wp2_with fail;refine(MH.out _ Hb.out a3 c3 ze.out).mono ?_;rintro e w6 ⟨v,rfl,hO,YH,ae⟩;clear r0 aj r1 ak r2 aF d0 d1 d2;obtain⟨Hr,r0,aj,r1,ak,r2,aF⟩:=aN Hr ae;obtain⟨Hd,d0,d1,d2⟩:=aQ Hd ae;replace Hb:=aB Hb ae;clear ae;obtain⟨go,cv,rfl,hgo⟩:∃go cv,v=.slice (some ⟨go,0,none⟩) n cv/\w5.heap.size<=go:=by obtain⟨vals,hl,ho,_,_⟩:=hO;obtain⟨g,c,e1,h1,_,_⟩:=Dl ho zo;exact⟨g,c,e1,h1⟩
 have hcv:n<=cv:=by obtain⟨vals,hl,ho,_,_⟩:=hO;exact(uP ho).1
 obtain⟨gI,Zj⟩:∃gI:Nat->Nat×Nat,∀i,i<n->w6.cell? ⟨go,i,none⟩=some (.slice (some ⟨(gI i).1,0,none⟩) n (gI i).2)/\w5.heap.size<=(gI i).1/\(gI i).1<w6.heap.size/\(gI i).1≠go:=by have H:=λi (h:i<n)=>(hO.blk i h gj).2;refine⟨λi=>if h:i<n then(Classical.choose (H i h),Classical.choose (Classical.choose_spec (H i h)))else(0,0),λi h=>?_⟩;simp only[h,dif_pos];exact Classical.choose_spec (Classical.choose_spec (H i h))
 obtain⟨HO,UM⟩:=aO hO Zj;clear hO Zj;have Bt:Hid (Bw w5 w6):=YH;have H66:Hid (Bw w6 w6):=Below.refl _ _;clear YH;have Tt:=Bt.out.size;go_wp2_with fail;refine(jM.out _).mono ?_;rintro e w7 ⟨rfl,YK,ae⟩;clear r0 aj r1 ak r2 aF d0 d1 d2;obtain⟨Hr,r0,aj,r1,ak,r2,aF⟩:=aN Hr ae;obtain⟨Hd,d0,d1,d2⟩:=aQ Hd ae;replace Hb:=aB Hb ae;clear ae;go_wp2_with fail;refine(rA.out _ Hb.out).mono ?_;rintro e w8 ⟨rfl,YL,ae⟩;clear r0 aj r1 ak r2 aF d0 d1 d2;obtain⟨Hr,r0,aj,r1,ak,r2,aF⟩:=aN Hr ae;obtain⟨Hd,d0,d1,d2⟩:=aQ Hd ae;replace Hb:=aB Hb ae;clear ae;have Qw:=aJ YK YL;clear YK YL;have TR:=ai Qw;have Mo:=Qw.size;clear Qw;have ans:=Hr.out.lt;have au7:=Hd.out.lt;obtain⟨W9,Qj,ae,Hs⟩:=cd w8 39 [ag (au (dN G)),ah (nt (dN G).natAbs),af (dE G)];clear r0 aj r1 ak r2 aF;replace Hr:=kB Hr ae;clear d0 d1 d2;obtain⟨Hd,d0,d1,d2⟩:=aQ Hd ae;obtain⟨r0,aj,r1,ak,r2,aF⟩:=Hr.out.g3;obtain⟨s0,s1,s2⟩:=Hs.out.c3;replace Hb:=aB Hb ae;clear ae;have IR:Hid (Bw w6 W9):=by rw[<-Qj];exact(TR.out).alloc zo _
 have XY:=HO.out.below IR.out;have KM:∀i,i<n->W9.cell? ⟨go,i,none⟩=some (.slice (some ⟨(gI i).1,0,none⟩) n (gI i).2):=λi h=>cell_later IR.out (UM.out i h).1;have YI:=aJ Bt.out IR.out;obtain⟨Ue,Ux,TQ⟩:=cL XY KM YI;have Vr:=Hs;clear XY KM YI HO TR H66 IR;go_wp2_with fail;go_loopw[37] (λx wr=>∃(k:Nat) (R:List (List Dyadic)),k<=n/\x=af (k:Int)/\R.length=n/\(∀r∈R,r.length=n)/\(∀a b,a<n->b<n->bU R a b=if kE k 0 a b then F a b*G else F a b)/\gF wr w5.heap.size n R n (.slice (some ⟨go,0,none⟩) n cv)/\(∀i,i<n->wr.cell? ⟨go,i,none⟩=some (.slice (some ⟨(gI i).1,0,none⟩) n (gI i).2))/\ar wr w8.heap.size 39 [ag (au (dN G)),ah (nt (dN G).natAbs),af (dE G)]/\Bw w5 wr) (λx _=>n-(intOf x).toNat);case atStart=>exact⟨0,A,Nat.zero_le _,rfl,HAl.out,HAr.out,λa b ha hb=>by rw[HAe.out a b ha hb,if_neg (by unfold kE;omega)],Ue.out,Ux.out,Vr.out,TQ.out⟩
 case round=>
  clear Vr TQ Ux Ue s0 s1 s2 Hs r0 aj r1 ak r2 aF d0 d1 d2 Hr Hd Hb Bt;obtain⟨k,R,hk,rfl,tj,tq,hRe,hO,hc,hs,pb⟩:=hrel;by_cases hlt:k<n
  . have dZ:=hc k hlt;obtain⟨g,c,lw⟩:∃g c,gI k=(g,c):=⟨_,_,rfl⟩;obtain⟨_,hg1,hg2,hg3⟩:=UM.out k hlt;rw[lw]at dZ hg1 hg2 hg3;have bK:=xS n cv k (k:Int) (rfl:(some ⟨go,0,none⟩:Option Addr)=_) hlt rfl;rw[Nat.zero_add,Nat.mul_one]at bK;have hin:∃(j:Nat) (R:List (List Dyadic)),j=0/\R.length=n/\(∀r∈R,r.length=n)/\(∀a b,a<n->b<n->bU R a b=if kE k j a b then F a b*G else F a b)/\gF wr w5.heap.size n R n (.slice (some ⟨go,0,none⟩) n cv)/\(∀i,i<n->wr.cell? ⟨go,i,none⟩=some (.slice (some ⟨(gI i).1,0,none⟩) n (gI i).2))/\ar wr w8.heap.size 39 [ag (au (dN G)),ah (nt (dN G).natAbs),af (dE G)]/\Bw w5 wr:=⟨0,R,rfl,tj,tq,hRe,hO,hc,hs,pb⟩;obtain⟨sG,Jo⟩:=aO hin lw;clear hin tj tq hRe hO hc hs pb lw;obtain⟨wq,hwq⟩:∃wq,wq=wr:=⟨_,rfl⟩;subst hwq;go_wp2_with fail;go_loopw[43] (λx wr=>∃(j:Nat) (R:List (List Dyadic)),j<=n/\x=af (j:Int)/\R.length=n/\(∀r∈R,r.length=n)/\(∀a b,a<n->b<n->bU R a b=if kE k j a b then F a b*G else F a b)/\gF wr w5.heap.size n R n (.slice (some ⟨go,0,none⟩) n cv)/\(∀i,i<n->wr.cell? ⟨go,i,none⟩=some (.slice (some ⟨(gI i).1,0,none⟩) n (gI i).2))/\ar wr w8.heap.size 39 [ag (au (dN G)),ah (nt (dN G).natAbs),af (dE G)]/\Bw w5 wr) (λx _=>n-(intOf x).toNat);case atStart=>obtain⟨j,R,rfl,h⟩:=sG.out;exact⟨0,R,Nat.zero_le _,rfl,h⟩
    case round=>
     clear sG dZ bK;obtain⟨j,R,hj,rfl,tj,tq,hRe,hO,hc,hs,pb⟩:=hrel;by_cases bG:j<n
     . have hrl:(R.getD k []).length=n:=by
        have e:R.getD k []=R[k]'zo:=by rw[List.getD_eq_getElem?_getD,List.getElem?_eq_getElem zo];rfl
        rw[e];exact tq _ (List.getElem_mem _)
       have dZ:=hc k hlt;rw[Jo.out]at dZ;have hpick:∀W,gF W w5.heap.size n R n (.slice (some ⟨go,0,none⟩) n cv)->W.cell? ⟨go,k,none⟩=some (.slice (some ⟨g,0,none⟩) n c)->bH W g (j*3) [ag (au (dN (F k j))),ah (nt (dN (F k j)).natAbs),af (dE (F k j))]/\(∀o,W.frozen? ⟨g,o,none⟩=false)/\∀y:Dyadic,gF (((W.setCell ⟨g,j*3,none⟩ (ag (au (dN y)))).setCell ⟨g,j*3+1,none⟩ (ah (nt (dN y).natAbs))).setCell ⟨g,j*3+2,none⟩ (af (dE y))) w5.heap.size n (R.set k ((R.getD k []).set j y)) n (.slice (some ⟨go,0,none⟩) n cv):=by
        intro W hO dZ;obtain⟨go',cap',g',c',hv,_,_,hne,hcell,dH,hfz,hup⟩:=hO.num k j hlt bG tj hrl;simp only[Value.slice.injEq,Option.some.injEq,Addr.mk.injEq,and_true,true_and]at hv;obtain⟨rfl,rfl⟩:=hv;rw[dZ]at hcell;simp only[Option.some.injEq,Value.slice.injEq,Addr.mk.injEq,and_true,true_and]at hcell;obtain⟨rfl,rfl⟩:=hcell;have he:(R.getD k []).getD j 0=F k j:=by have h:=hRe k j hlt bG;rw[if_neg (by unfold kE;omega)]at h;exact h
        rw[he]at dH;exact⟨dH,hfz,hup⟩
       obtain⟨dH,_,_⟩:=hpick wr hO dZ;have Pz:=HAs.out k j hlt bG;obtain⟨Y,hY⟩:=aG (F k j*G);have hsl:=aqj tj tq k j hlt Y;have hen:∀a b,a<n->b<n->bU (R.set k ((R.getD k []).set j Y)) a b=if kE k (j+1) a b then F a b*G else F a b:=by
        intro a b ha hb;rw[aj6 tj tq k j hlt bG Y a b ha hb];by_cases e:a=k/\b=j
        . obtain⟨rfl,rfl⟩:=e;rw[if_pos ⟨rfl,rfl⟩,if_pos (by unfold kE;omega),hY]
        . rw[if_neg e,hRe a b ha hb];have:kE k j a b↔kE k (j+1) a b:=by unfold kE;omega
          by_cases h:kE k j a b
          . rw[if_pos h,if_pos (this.1 h)]
          . rw[if_neg h,if_neg (λh2=>h (this.2 h2))]
       obtain⟨E,hE⟩:=aG (F k j);have HY:Hid (az (canon E) *az (canon G)=Y):=by show _=_;rw[bD,bD,<-hE];exact hY
       rw[hE]at dH Pz hpick;have Gf:=qH n c j (j:Int) (rfl:(some ⟨g,0,none⟩:Option Addr)=_) bG rfl;rw[Nat.zero_add]at Gf;obtain⟨R2,FD⟩:=aG (R.set k ((R.getD k []).set j Y));have hpk:=λW h1 h2=>(hpick W h1 h2).2.2 Y;have Al:=λW h1 h2=>(hpick W h1 h2).2.1;rw[FD]at hsl hen hpk;have Hz:Hid (bH wr g (j*3) [ag (au (dN E)),ah (nt (dN E).natAbs),af (dE E)]):=dH;have Hs:Hid (ar wr w8.heap.size 39 [ag (au (dN G)),ah (nt (dN G).natAbs),af (dE G)]):=hs;obtain⟨HO,Hcc,jd,bu,EK,Hen,Hpk,Hpz,HAf,yE⟩:=tM hO hc dZ pb hsl hen hpk Al Pz (HT.out.below (aJ fq.out pb));have szw:=pb.size;clear hO hc dZ pb hsl hen hpk Al Pz hs dH hpick FD hE hY tj tq hRe hrl;have Hb:Hid (Bw wr wr):=Below.refl _ _;have Lt:=Hs.out.lt;go_wp2_with fail;obtain⟨z0,z1,z2⟩:=Hz.out.w3;obtain⟨s0,s1,s2⟩:=Hs.out.c3;have HU:Hid (aH wr):=yE.out;refine bR (λw'=>aC w' g (j*3) (ag (au (dN E)))/\aC w' g (j*3+1) (ah (nt (dN E).natAbs))/\aC w' g (j*3+2) (af (dE E))/\aC w' (w8.heap.size) 0 (ag (au (dN G)))/\aC w' (w8.heap.size) 1 (ah (nt (dN G).natAbs))/\aC w' (w8.heap.size) 2 (af (dE G))) (λi=>Nat.blt i 10) [(0,true),(1,true),(2,true),(3,true),(4,true),(5,true),(6,true),(7,false),(8,false),(9,true),(10,false)] zk zk rfl zk zc ⟨z0,z1,z2,s0,s1,s2⟩ ?_;iterate 7 (refine pT rfl rfl ?_ (by intro w' ⟨q0,q1,q2,q3,q4,q5⟩;go_simp;try with_reducible rfl);try simp only[UU])
       refine aI rfl rfl (λK hK=>?_);go_simp;refine hK _ _ (λ_=>⟨aL z0,aL z1,aL z2,aL s0,aL s1,aL s2⟩) ?_;clear hK K;try simp only[UU]
       refine bV (λW4=>ar W4 (wr.heap.size) 39 [ag (au (dN E)),ah (nt (dN E).natAbs),af (dE E),ag (au (dN G)),ah (nt (dN G).natAbs),af (dE G)]/\Bw wr W4) (by first|exact fe|exact fg) ?_;rintro W4 ⟨qv,ae⟩;clear z0 z1 z2 s0 s1 s2;have anu:=Hs.out.lt;replace Hz:=kW Hz ae;replace Hs:=kB Hs ae;replace HU:=kT HU ae;have Hv:=ai qv;clear qv;obtain⟨z0,z1,z2⟩:=Hz.out.w3;obtain⟨s0,s1,s2⟩:=Hs.out.c3;obtain⟨v0,v1,v2,v3,v4,v5⟩:=Hv.out.c6;replace Hb:=aB Hb ae;clear ae;refine aI rfl rfl (λK hK=>?_);go_simp;with_reducible refine(xh _ _ _ _ _ _ Y (4*B+11) HY.out wr.heap.size _ 39 _ HAf.out HGf.out zo Hv.out (by first|exact HU.out|exact aH.drew HU.out|exact aH.alloc HU.out _|exact aH.drew (aH.alloc HU.out _) |exact aH.alloc (aH.drew HU.out) _)).mono ?_
       rintro e dQ ⟨rfl,hq⟩;have ae:Bw W4 dQ:=by first|exact hq|exact aW hq
       clear z0 z1 z2 s0 s1 s2 v0 v1 v2 v3 v4 v5;replace Hz:=kW Hz ae;obtain⟨Hs,s0,s1,s2⟩:=aQ Hs ae;replace HU:=kT HU ae;obtain⟨Hv,v0,v1,v2,v3,v4,v5⟩:=fU Hv ae;obtain⟨z0,z1,z2⟩:=Hz.out.w3;replace Hb:=aB Hb ae;clear ae;refine hK _ _ (λ_=>⟨z0,z1,z2,s0,s1,s2⟩) ?_;clear hK K;try simp only[UU]
       refine pT rfl rfl ?_;try simp only[UU]
       refine aI rfl rfl (λK hK=>?_);have PS:=HO.out.below Hb.out;have QM:=cell_later Hb.out jd.out;have hfz:=Hpz.out dQ PS QM;have rP:=hfz (j*3);have oX:=hfz (j*3+1);have Kk:=hfz (j*3+2);have hup:=Hpk.out dQ PS QM;have tB:=aJ bu.out Hb.out;obtain⟨NY,lH⟩:=aO hup tB;clear PS QM hfz hup tB;go_simp;refine hK _ _ (λh=>absurd h zd) ?_;clear hK K;try simp only[UU]
       simp only[bi];go_wp2;refine⟨⟨j+1,R2,by omega,by go_num,EK.out.1,EK.out.2,Hen.out,NY.out,λi hi=>?_,?_,?_⟩,by simp[intOf];omega⟩
       . have hne:(⟨go,i,none⟩:Addr).block≠g:=λe=>hg3 e.symm;exact aK (.inl hne) (aK (.inl hne) (aK (.inl hne) (cell_later Hb.out (Hcc.out i hi))))
       . have hne:g≠w8.heap.size:=by omega
         exact((Hs.out.aw3 _ hne _).aw3 _ hne _).aw3 _ hne _
       . exact((lH.out.setCell hg1 _).setCell hg1 _).setCell hg1 _
     . obtain rfl:j=n:=by omega
       have tF:(∀a b,a<j->b<j->bU R a b=if kE (k+1) 0 a b then F a b*G else F a b):=by
        intro a b ha hb;rw[hRe a b ha hb];have:kE k j a b↔kE (k+1) 0 a b:=by unfold kE;omega
        by_cases h:kE k j a b
        . rw[if_pos h,if_pos (this.1 h)]
        . rw[if_neg h,if_neg (λh2=>h (this.2 h2))]
       have hres:(∃k' R,k'<=j/\k'=k+1/\R.length=j/\(∀r∈R,r.length=j)/\(∀a b,a<j->b<j->bU R a b=if kE k' 0 a b then F a b*G else F a b)/\gF wr w5.heap.size j R j (.slice (some ⟨go,0,none⟩) j cv)/\(∀i,i<j->wr.cell? ⟨go,i,none⟩=some (.slice (some ⟨(gI i).1,0,none⟩) j (gI i).2))/\ar wr w8.heap.size 39 [ag (au (dN G)),ah (nt (dN G).natAbs),af (dE G)]/\Bw w5 wr):=⟨k+1,R,by omega,rfl,tj,tq,tF,hO,hc,hs,pb⟩;have gZ:=ai hres;clear hres tF tj tq hRe hO hc hs pb;go_wp2;go_roundw;case rel=>obtain⟨k',R,h1,rfl,h⟩:=gZ.out;exact⟨k+1,R,h1,by go_num,h⟩
       case measure=>simp[intOf];omega
  . obtain rfl:k=n:=by omega
    have hRf:R=sO k P:=ve.out R tj tq (λa b ha hb=>by rw[hRe a b ha hb,if_pos (by unfold kE;omega)]);subst hRf;obtain⟨MC,bu⟩:=aO hO pb;clear hO hc hs pb tj tq hRe;obtain⟨Hr,Hd,Hb⟩:=cL (ky.out.below bu.out) (UC.out.below bu.out) (aJ fq.out bu.out);obtain⟨r0,aj,r1,ak,r2,aF⟩:=Hr.out.g3;obtain⟨d0,d1,d2⟩:=Hd.out.c3;go_wp2_with fail;refine(mD.out _ Hb.out).mono ?_;rintro e gP ⟨rfl,xy,ae⟩;clear r0 aj r1 ak r2 aF d0 d1 d2;obtain⟨Hr,r0,aj,r1,ak,r2,aF⟩:=aN Hr ae;obtain⟨Hd,d0,d1,d2⟩:=aQ Hd ae;replace Hb:=aB Hb ae;clear ae;have aep:=ai (MC.out.below xy);clear xy;have hzz:=fq.out.size;have kK:w.heap.size<w5.heap.size:=Nat.lt_of_lt_of_le ky.out.lt (Nat.le_refl _);go_wp2;refine dW (λjU=>ar jU w.heap.size 39 [ag (au (dN (G*X))),ah (nt (dN (G*X)).natAbs),af (dE (G*X))]/\gF jU w5.heap.size k (sO k P) k (.slice (some ⟨go,0,none⟩) k cv)/\Bw w jU) ⟨((Hr.out.set 0 _).set 1 _).set 2 _,((aep.out.axc kK _).axc kK _).axc kK _,((Hb.out.setCell zp _).setCell zp _).setCell zp _⟩ ?_;rintro jU ⟨ama,alZ,alm⟩;obtain⟨q0,q1,q2⟩:=ama.c3;obtain⟨a9,c9,qG,KM,Lx⟩:=alZ.tbl (OA _ _) (OB _ _);simp only[Value.slice.injEq,true_and]at qG;obtain⟨rfl,rfl⟩:=qG;exact bodyPost_ret (v:=.tuple #[bL (G*X),.slice (some ⟨go,0,none⟩) k cv,af 0]) (by simp[results,Tryz.results96,go_sem,q0,q1,q2]) rfl ⟨_,_,rfl,KM,Lx,alm⟩
def jx (xs:List Raw):Nat->Dyadic:=λb=>(xs.map az).getD b 0
theorem ar6 (xs:List Raw)(k:Nat)(h:k<xs.length):jx xs k=az xs[k]:=by unfold jx;simp[List.getD_eq_getElem?_getD,h]
def oD (n:Nat)(p:Nat->Nat->Dyadic)(x:Nat->Dyadic):List Dyadic:=(List.range (n+1)).map λk=>jb n p x k
theorem aoE {w:World}{b base n:Nat}{e:TypeId}{size:Nat}{xs:List Value}(h:ar w b e xs)(hb:base<=b)(hl:xs.length=n*size)(hn:n<=1048576):w.ownsRow base e size (.slice (some ⟨b,0,none⟩) n n) n xs:=
 ⟨hl,.inr ⟨b,n,xs.toArray,rfl,hb,h,Nat.le_refl _,by unfold maxLen;omega,by simpa using hl,by rw[<-hl];simp⟩⟩
theorem cC.axi {w:World}{a:Option Addr}{T:List (List Dyadic)}{n:Nat}(h:cC w a (T.map λr=>r.map canon))(hl:T.length=n)(hr:∀r∈T,r.length=n)(k i:Nat)(hk:k<n)(hi:i<n):
 ∃b o br os cr,a=some ⟨b,o,none⟩/\w.cell? ⟨b,o+k,none⟩=some (.slice (some ⟨br,os,none⟩) n cr)/\bH w br (os+i*3) [ag (au (dN (bU T k i))),ah (nt (dN (bU T k i)).natAbs),af (dE (bU T k i))]:=by
 have KY:k<T.length:=by omega
 obtain⟨b,o,a',c',h1,h2,h3⟩:=h.row k (by simpa using KY);have e1:(T.map λr=>r.map canon)[k]'(by simpa using KY)=T[k].map canon:=by simp
 have hlk:=hr _ (List.getElem_mem KY);rw[e1]at h2 h3;rw[List.length_map,hlk]at h2;have hik:i<T[k].length:=by omega
 have e2:bU T k i=T[k][i]:=by unfold bU;simp[List.getD_eq_getElem?_getD,KY,hik]
 obtain⟨br,os,e3,q0,q1,q2⟩:=h3.num i (by simpa using hik) (show(T[k].map canon)[i]'(by simpa using hik)=(au (dN (bU T k i)),nt (dN (bU T k i)).natAbs,dE (bU T k i))by rw[e2];simp;rfl);subst e3;exact⟨b,o,br,os,c',h1,h2,kv q0 q1 q2⟩
theorem ar4 {n B:Nat}{p:Nat->Nat->Dyadic}{x:Nat->Dyadic}(hn:1<=n)(bO:n<=4)(h:∀a b,a<=n->b<n->Sm B (p a b))(hx:∀b,b<n->Sm B (x b)):∀d∈oD n p x,Sm (5*B+20) d:=by
 intro d hd;unfold oD at hd;obtain⟨i,hi,rfl⟩:=List.mem_map.1 hd;rw[List.mem_range]at hi;rcases i with _|i
 . rw[<-adF n hn bO];exact(adE hn bO h hx n (Nat.le_refl _)).mono zo
 . exact(adI hn bO h hx i zo).mono zo
theorem apb {n B:Nat}{rows:List (List Raw)}(hr:Rw n B rows)(a b:Nat)(ha:a<=n)(hb:b<n):Sm B (bT rows a b):=by have hL:=hr.1;rw[se rows a b zo (by rw[hr.2.1 _ (List.getElem_mem _)];exact hb)];exact(hr.2.2 _ (List.getElem_mem _) _ (List.getElem_mem _)).2
theorem Pj {V B:Nat}{l:List aM}(hV:V<=12)(hm:∀t∈l,gp t.1 V=true)(hl:l.length<=4096)(hs:∀x∈l,Sm B (az x.2))(hB:B+l.length<=268435456):iH V (B+l.length) (bY l):=by refine⟨ai0 hV hm hl,λt ht=>?_⟩;have h1:=ai1 hs t ht;have h2:=((Co l).2 t ht).2;rw[h2];exact h1.fit hB
theorem iH.mono {V B B':Nat}{ts:List aM}(h:iH V B ts)(hB:B<=B'):iH V B' ts:=⟨h.1,λt ht=>(h.2 t ht).mono hB⟩
theorem LI {V B:Nat}{c:Dyadic}{l:Nat->Dyadic}{k:Nat}(hV:V<=12)(hk:k<=V)(hc:Sm B c)(hl:∀j,j<k->Sm B (l j))(hB:B+13<=268435456):iH V (B+13) (dO V c l k):=by have h:=Pj (B:=B) hV (amY V c l k) (by rw[CZ];omega) (amZ V c l k hc hl) (by rw[CZ];omega);rw[CZ]at h;exact h.mono zo
theorem Mr {V B:Nat}{k:Nat}{x:Dyadic}(hV:V<=12)(hx:Sm B x)(hB:B+1<=268435456):iH V (B+1) (bY [(dt V k,canon x)]):=
 Pj (l:=[(dt V k,canon x)]) hV (by intro t ht;simp at ht;subst ht;exact Tz V k) zm (by intro t ht;simp at ht;subst ht;show Sm B (az (canon x));rw[bD];exact hx) (by simpa using hB)
theorem acG (V k:Nat)(x:Dyadic):bY (eK x (bY [(dt V k,canon 1)]))=bY [(dt V k,canon x)]:=by refine Cn (λm=>?_);rw[WB,um];simp only[cF,bD];split<;>grind
theorem VQ (V B:Nat)(A D C:List aM)(aA aD:Option Addr)(cA cD:Nat)(w:World)(b:Nat)(hb:ar w b 91 [af (V:Int),.slice aA A.length cA,af (V:Int),.slice aD D.length cD])(hA:cz w aA cA A)(hD:cz w aD cD D)(hfA:iH V B A)(hfD:iH V B D)(hn:A.length+D.length<=4096)(hB:B+2+8192<=268435456)(hT:aH w)(hC:bY (A++D)=C):
 Calls Tryz.prog 101 #[.slice (some ⟨b,0,none⟩) 2 2] w λex w'=>∃a' c',ex=.returned (.tuple #[.agg #[af (V:Int),.slice a' C.length c'],af 0])/\cz w' a' c' C/\Bw w w':=by
 refine ahx V B b 0 2 2 [⟨V,aA,A.length,cA⟩,⟨V,aD,D.length,cD⟩] (λk=>if k=0 then A else D) C w rfl zd zd (At.aw2 hb) ?_ ?_ hB hT ?_
 . intro k hk;rcases k with _|k
   . exact⟨aA,cA,rfl,hA,hfA⟩
   . obtain rfl:k=0:=by simp at hk;omega
     exact⟨aD,cD,rfl,hD,hfD⟩
 . simp[mJ];omega
 . simpa[mJ]using hC
theorem am1 (V B:Nat)(c:Dyadic)(L:List Dyadic)(l:Nat->Dyadic)(a:Option Addr)(cap:Nat)(w:World)(hV:V<=12)(hL:L.length=V)(hl:∀k (h:k<L.length),l k=L[k])(hcs:Sm B c)(hls:∀x∈L,Sm B x)(hB:B<=100000000)(ha:At w a (dC L))(hT:aH w):
 Calls Tryz.prog 99 #[.agg #[ag (au (dN c)),ah (nt (dN c).natAbs),af (dE c)],.slice a V cap] w λex w'=>∃a' c',ex=.returned (.tuple #[.agg #[af (V:Int),.slice a' (dO V c l V).length c'],af 0])/\cz w' a' c' (dO V c l V)/\Bw w w':=by
 have hcn:=λW (hW:Bw w W)=>WC V (au (dN c)) (nt (dN c).natAbs) (dE c) c B l W hV (hcs.fit zo) zo (hT.below hW) (bD c);have CR:=λk (hk:k<V) W (hW:Bw w W)=>arC V k W hV hk (hT.below hW);have hlk:∀k,k<V->Sm B (l k):=λk hk=>by rw[hl k zo];exact hls _ (List.getElem_mem _)
 have hsc:=λk (hk:k<V) a' c' (W:World) (hW:Bw w W) (hp:cz W a' c' (bY [(dt V k,canon 1)]))=>acE V a' c' (bY [(dt V k,canon 1)]) (au (dN (l k))) (nt (dN (l k)).natAbs) (dE (l k)) (l k) (B+2) W (Mr (B:=B+1) hV (Sm.one.mono zo) zo) hp (((hlk k hk).mono zo).fit zo) zo (hT.below hW) (bD _);simp only[acG]at hsc;have had:=λk (hk:k<V) aA cA aD cD (W:World) (hW:Bw w W) b (hb:ar W b 91 [af (V:Int),.slice aA (dO V c l k).length cA,af (V:Int),.slice aD (bY [(dt V k,canon (l k))]).length cD]) (hA:cz W aA cA (dO V c l k)) (hD:cz W aD cD (bY [(dt V k,canon (l k))]))=>VQ V (B+13) (dO V c l k) (bY [(dt V k,canon (l k))]) (dO V c l (k+1)) aA aD cA cD W b hb hA hD (LI hV zo hcs (λj hj=>hlk j zo) zo) ((Mr (B:=B) hV (hlk k hk) zo).mono zo) (by have h1:=zw (iO V c l k);have h2:=zw [(dt V k,canon (l k))];rw[CZ]at h1;simp at h2;unfold dO;omega) zo (hT.below hW) (aa9 V c l k);obtain⟨n0,hn0⟩:=aG ((dO V c l 0).length);rw[hn0]at hcn;obtain⟨vd,Hvr,jz,uZ,Hl,HL,Ha,rz⟩:=nZ hcn CR hsc had hl hL ha hn0;clear hcn CR hsc had hl hL ha hT hlk hls hcs hn0;have Hb:Hid (Bw w w):=Below.refl _ _;go_enter Tryz.func99,Tryz.ntmps99;go_wp2_with fail;obtain⟨R,hR⟩:∃R:World->Prop,(λW=>ar W (w.heap.size) 39 [ag (au (dN c)),ah (nt (dN c).natAbs),af (dE c)]/\ar W (w.heap.size+1) 91 [af 0,.slice none 0 0]/\Bw w W)=R:=⟨_,rfl⟩;first|refine cf R ?hR ?_|refine bZ R ?hR ?_
 case hR=>subst hR;exact⟨((ar.newAt w _ _ (b:=w.heap.size) rfl).alloc _),(ar.newAt (w.alloc _) _ _ (b:=w.heap.size+1) zm),(zl.alloc zj _)⟩
 subst hR;rintro W ⟨qc,qr,ae⟩;have Hc:=ai qc;clear qc;have Hr:=ai qr;clear qr;obtain⟨c0,c1,c2⟩:=Hc.out.c3;obtain⟨r0,aj,r1,ak⟩:=Hr.out.g2;replace Hb:=aB Hb ae;clear ae;go_wp2_with fail;refine(vd.out _ Hb.out).mono ?_;rintro e w1 ⟨a1,d1,rfl,hp1,ae⟩;clear c0 c1 c2 r0 aj r1 ak;obtain⟨Hc,c0,c1,c2⟩:=aQ Hc ae;obtain⟨Hr,r0,aj,r1,ak⟩:=bE Hr ae;replace Hb:=aB Hb ae;clear ae;have BH:=Hc;have ky:=Hr;have fq:=Hb;have kZ:=ai hp1;clear hp1;have ank:=Hc.out.lt;have qK:=Hr.out.lt;obtain⟨W2,mM,ae,Ho⟩:=cd w1 91 [af (V:Int),.slice a1 n0 d1];clear c0 c1 c2;replace Hc:=kB Hc ae;clear r0 aj r1 ak;obtain⟨Hr,r0,aj,r1,ak⟩:=bE Hr ae;obtain⟨c0,c1,c2⟩:=Hc.out.c3;obtain⟨o0,jC,o1,jD⟩:=Ho.out.g2;replace Hb:=aB Hb ae;clear ae;have rB:Hid (cz W2 a1 d1 (dO V c l 0)):=kZ.out.below (by first|exact zl| (rw[<-mM];exact zl));have TP:Hid (Bw w1 W2):=by rw[<-mM];exact zl
 go_wp2_with fail;go_loopw[7,8] (λs7 x wr=>∃(k:Nat) (a':Option Addr) (n' c':Nat),k<=V/\x=af (k:Int)/\s7=af 0/\(dO V c l k).length=n'/\ar wr w1.heap.size 91 [af (V:Int),.slice a' n' c']/\cz wr a' c' (dO V c l k)/\Bw w1 wr) (λ_ x _=>V-(intOf x).toNat);case atStart=>exact⟨0,a1,n0,d1,Nat.zero_le _,rfl,rfl,rz.out,Ho.out,rB.out,TP.out⟩
 case round=>
  clear c0 c1 c2 o0 o1 r0 r1 jC jD aj ak rB TP kZ Ho Hc Hr Hb;obtain⟨k,a',n',c',hk,rfl,rfl,hn,ho,hp,pb⟩:=hrel;obtain⟨Ho,Hp,bu,Hn⟩:=dx ho hp pb hn;have dY:=fq.out;have iy:=pb.size;have tW:=dY.size;by_cases hlt:k<V
  . have vP:k<(L.map canon).length:=by rw[List.length_map,HL.out];exact hlt
    have hat':=Ha.out.below (aJ fq.out pb);rw[vC]at hat';obtain⟨X,hX⟩:=aG (l k);obtain⟨bx,ox,rfl,p0,p1,p2⟩:=hat'.num k vP (show(L.map canon)[k]=(au (dN X),nt (dN X).natAbs,dE X)by rw[<-hX,Hl.out k (by simpa using vP)];simp;rfl);have ixx:=qH V cap k (k:Int) (rfl:(some ⟨bx,ox,none⟩:Option Addr)=_) hlt rfl;have lbx:bx<wr.heap.size:=World.block_lt_of_cell? wr _ p0;have CR:=Hvr.out k hlt;have hsc:=jz.out k hlt;have had:=uZ.out k hlt;rw[hn,hX]at had;rw[hX]at hsc;obtain⟨n1,gj⟩:∃n,(bY [(dt V k,canon 1)]).length=n:=⟨_,rfl⟩;obtain⟨n2,tF⟩:∃n,(bY [(dt V k,canon X)]).length=n:=⟨_,rfl⟩;obtain⟨n3,rU⟩:∃n,(dO V c l (k+1)).length=n:=⟨_,rfl⟩;rw[tF,rU]at had;rw[gj,tF]at hsc;rw[gj]at CR;obtain⟨oL,uh,MI,NC⟩:=dx CR hsc had rU;have Hx:Hid (bH wr bx (ox+k*3) [ag (au (dN X)),ah (nt (dN X).natAbs),af (dE X)]):=kv p0 p1 p2;have gQ:=ai (aJ fq.out pb);clear CR hsc had gj tF rU hat' vP hX p0 p1 p2 ho hp pb hn dY;have Hb:Hid (Bw wr wr):=Below.refl _ _;have hlo:=Ho.out.lt;obtain⟨o0,jC,o1,jD⟩:=Ho.out.g2;obtain⟨x0,x1,x2⟩:=Hx.out.w3;go_wp2_with fail;refine(oL.out _ (aJ gQ.out Hb.out)).mono ?_;rintro e w3 ⟨a3,d3,rfl,Gs,ae⟩;clear o0 jC o1 jD x0 x1 x2;obtain⟨Ho,o0,jC,o1,jD⟩:=bE Ho ae;replace Hx:=kW Hx ae;obtain⟨x0,x1,x2⟩:=Hx.out.w3;replace Hb:=aB Hb ae;clear ae;have rC:=ai Gs;have IB:=Hb.out.size;clear Gs;have ann:=Ho.out.lt;obtain⟨W4,lU,ae,Hv⟩:=cd w3 91 [af (V:Int),.slice a3 n1 d3];clear o0 jC o1 jD;replace Ho:=kB Ho ae;clear x0 x1 x2;replace Hx:=kW Hx ae;obtain⟨o0,jC,o1,jD⟩:=Ho.out.g2;obtain⟨x0,x1,x2⟩:=Hx.out.w3;obtain⟨v0,Po,v1,Pq⟩:=Hv.out.g2;replace Hb:=aB Hb ae;clear ae;have HQ:Hid (cz W4 a3 d3 (bY [(dt V k,canon 1)])):=rC.out.below (by first|exact zl| (rw[<-lU];exact zl));go_wp2_with fail;refine bR (λw'=>aC w' bx (ox+k*3) (ag (au (dN X)))/\aC w' bx (ox+k*3+1) (ah (nt (dN X).natAbs))/\aC w' bx (ox+k*3+2) (af (dE X))) (λi=>Nat.blt i 100000) [(1,true),(2,true),(3,true),(4,true),(0,false),(5,false),(6,true),(7,true),(8,true),(9,false)] zk zk rfl zk zc ⟨x0,x1,x2⟩ ?_;iterate 4 (refine pT rfl rfl ?_ (by intro w' ⟨q0,q1,q2⟩;go_simp;try with_reducible rfl);try simp only[UU])
    refine aI rfl rfl (λK hK=>?_);go_simp;refine hK _ _ (λ_=>⟨x0,x1,x2⟩) ?_;clear hK K;try simp only[UU]
    refine aI rfl rfl (λK hK=>?_);go_simp;with_reducible refine(uh.out a3 d3 _ (by first|exact aJ gQ.out Hb.out|exact aJ gQ.out Hb.out.drew) (by first|exact HQ.out|exact HQ.out.below (Below.refl _ _).drew)).mono ?_
    rintro e w5 ⟨a5,d5,rfl,hp5,hq⟩;have ae:Bw W4 w5:=by first|exact hq|exact aW hq
    clear o0 jC o1 jD x0 x1 x2 v0 Po v1 Pq;replace Ho:=kB Ho ae;replace Hx:=kW Hx ae;replace Hv:=kB Hv ae;replace HQ:=ai (HQ.out.below ae);obtain⟨o0,jC,o1,jD⟩:=Ho.out.g2;obtain⟨x0,x1,x2⟩:=Hx.out.w3;obtain⟨v0,Po,v1,Pq⟩:=Hv.out.g2;replace Hb:=aB Hb ae;clear ae;refine hK _ _ (λ_=>⟨x0,x1,x2⟩) ?_;clear hK K;try simp only[UU]
    iterate 3 (refine pT rfl rfl ?_;try simp only[UU])
    refine aI rfl rfl (λK hK=>?_);go_simp;refine hK _ _ (by first|exact λh=>absurd h zd|exact λ_=>⟨x0,x1,x2⟩ |exact λ_=>⟨(by first|exact x0|exact aK zf x0|exact aK zf (aK zf x0) |exact aK zf (aK zf (aK zf x0))),(by first|exact x1|exact aK zf x1|exact aK zf (aK zf x1) |exact aK zf (aK zf (aK zf x1))),(by first|exact x2|exact aK zf x2|exact aK zf (aK zf x2) |exact aK zf (aK zf (aK zf x2)))⟩) ?_;clear hK K;try simp only[UU]
    simp only[bi];have Ar:=Hv.out;generalize FT:(w5.setCell ⟨w3.heap.size,0,none⟩ (af (V:Int))).setCell ⟨w3.heap.size,1,none⟩ (.slice a5 n2 d5)=W6;have hp6:cz W6 a5 d5 (bY [(dt V k,canon X)]):=by rw[<-FT];exact hp5.store Ar zd _ _
    have Gp:ar W6 w1.heap.size 91 [af (V:Int),.slice a' n' c']:=by rw[<-FT];exact(Ho.out.so w3.heap.size 0 zo _).so w3.heap.size 1 zo _
    have di:ar W6 w3.heap.size 91 [af (V:Int),.slice a5 n2 d5]:=by rw[<-FT];exact(Ar.set 0 _).set 1 _
    have YJ:Bw wr W6:=by rw[<-FT];exact(Hb.out.setCell IB _).setCell IB _
    replace Ho:=ai Gp;replace Hv:=ai di;replace Hb:=ai YJ;have Hp6:=ai hp6;clear Gp di YJ hp6 hp5 Ar FT o0 o1 jC jD v0 v1 Po Pq x0 x1 x2;obtain⟨o0,jC,o1,jD⟩:=Ho.out.g2;obtain⟨v0,v1⟩:=Hv.out.c2;have P0:=o0;have P1:=o1;have Q0:=v0;have Q1:=v1;have avy:=Ho.out.lt;have avX:=Hv.out.lt;obtain⟨W7,alf,ae,Hz⟩:=cd W6 91 [af (V:Int),.slice a' n' c',af (V:Int),.slice a5 n2 d5];clear o0 jC o1 jD;replace Ho:=kB Ho ae;clear v0 v1;obtain⟨Hv,v0,v1⟩:=aR Hv ae;obtain⟨o0,jC,o1,jD⟩:=Ho.out.g2;obtain⟨z0,z1,z2,z3⟩:=Hz.out.c4;replace Hb:=aB Hb ae;clear ae;have HP:Hid (cz W7 a' c' (dO V c l k)):=Hp.out.below Hb.out;have HS:Hid (cz W7 a5 d5 (bY [(dt V k,canon X)])):=Hp6.out.below (by first|exact zl| (rw[<-alf];exact zl));go_wp2_with fail;clear P0 P1 Q0 Q1;go_wp2_with fail;refine(MI.out _ _ _ _ _ (aJ gQ.out Hb.out) _ Hz.out HP.out HS.out).mono ?_;rintro e w8 ⟨a8,d8,rfl,hp8,ae⟩;clear o0 jC o1 jD v0 v1 z0 z1 z2 z3;replace Ho:=kB Ho ae;replace Hv:=kB Hv ae;replace Hz:=kB Hz ae;replace HP:=ai (HP.out.below ae);replace HS:=ai (HS.out.below ae);obtain⟨o0,jC,o1,jD⟩:=Ho.out.g2;obtain⟨v0,v1⟩:=Hv.out.c2;obtain⟨z0,z1,z2,z3⟩:=Hz.out.c4;replace Hb:=aB Hb ae;clear ae;have ZC:=cz.store hp8 Ho.out zd (af (V:Int)) (.slice a8 n3 d8);obtain⟨Hl8,gY⟩:=aO ZC (aJ bu.out Hb.out);clear hp8 ZC;go_wp2;go_roundw;case rel=>exact⟨k+1,a8,n3,d8,by omega,by go_num,rfl,NC.out,(Ho.out.set 0 _).set 1 _,Hl8.out,(gY.out.setCell (Nat.le_refl _) _).setCell (Nat.le_refl _) _⟩
    case measure=>simp[intOf];omega
  . obtain rfl:k=V:=by omega
    have Hr:=ai (ky.out.below bu.out);have Hb:Hid (Bw w wr):=aJ fq.out bu.out;have hsz:=ky.out.lt;obtain⟨o0,o1⟩:=Ho.out.c2;obtain⟨r0,aj,r1,ak⟩:=Hr.out.g2;go_wp2;have jE:=Hp.out.store Hr.out zd (af (k:Int)) (.slice a' n' c');refine dW (λw9=>cz w9 a' c' (dO k c l k)/\ar w9 (w.heap.size+1) 91 [af (k:Int),.slice a' n' c']/\Bw w w9) ⟨jE,(Hr.out.set 0 _).set 1 _,(Hb.out.setCell zp _).setCell zp _⟩ ?_;rintro w9 ⟨q1,q2,q3⟩;obtain⟨x0,x1⟩:=q2.c2;exact bodyPost_ret (v:=.tuple #[.agg #[af (k:Int),.slice a' n' c'],af 0]) (by simp[results,Tryz.results99,go_sem,x0,x1]) rfl ⟨a',c',by rw[hn],q1,q3⟩
end Go.Proofs.YtoopepmmepmfnaaGreatDoor
namespace Go.Proofs.YtoopepmmepmfnaaGreatDoor
open Go.RowKit
def nY (n:Nat)(P:Nat->Nat->Dyadic)(i:Nat):List aM:=dO n (wC n P i) (λk=>kD n P k i) n
def AH (n:Nat)(P:Nat->Nat->Dyadic)(i:Nat):List aM:=bY (eK (-1) (nY n P i))
def lh (n:Nat)(P:Nat->Nat->Dyadic)(i:Nat):List aM:=dO n (wZ n P (λ_=>0) i) (λb=>lZ n P b i) n
def fy (n:Nat)(P:Nat->Nat->Dyadic)(i j:Nat):List aM:=if j=0 then lh n P i else nY n P (j-1)
def nK (n:Nat)(P:Nat->Nat->Dyadic)(i k:Nat):List Dyadic:=(List.range k).map λk=>kD n P k i
theorem ajb (n:Nat)(P:Nat->Nat->Dyadic)(i k:Nat):(nK n P i k).length=k:=by simp[nK]
theorem aja (n:Nat)(P:Nat->Nat->Dyadic)(i k j:Nat)(h:j<(nK n P i k).length):(nK n P i k)[j]=kD n P j i:=by simp[nK]
theorem ajc (n:Nat)(P:Nat->Nat->Dyadic)(i k:Nat):nK n P i (k+1)=nK n P i k++[kD n P k i]:=by unfold nK;rw[List.range_succ,List.map_append];rfl
theorem arI (n:Nat)(P:Nat->Nat->Dyadic)(i k:Nat):wS n P (λ_=>0) i k-P 0 k*kD n P k i=wS n P (λ_=>0) i (k+1):=by
 show _=wS n P (λ_=>0) i k+(0-P 0 k) *kD n P k i
 grind
theorem akk (n:Nat)(P:Nat->Nat->Dyadic)(l:Nat->Dyadic):dO n (wZ n P (λ_=>0) 0) l 0=lh n P 0:=by
 unfold lh dO;refine Cn (λm=>?_);have h:∀k,cF (iO n (wZ n P (λ_=>0) 0) (λb=>lZ n P b 0) k) m=cF (iO n (wZ n P (λ_=>0) 0) l 0) m:=by
  intro k;induction k with
  |zero=>rfl
  |succ k ih=>rw[JY,ih];simp[lZ]
 exact(h n).symm
theorem akj (n:Nat)(hn:1<=n)(bO:n<=4)(P:Nat->Nat->Dyadic)(i:Nat)(hi:i<n):bY (lh n P i++AH n P i)=lh n P (i+1):=by
 unfold lh AH nY;rw[am0];have:wZ n P (λ_=>0) i-wC n P i=wZ n P (λ_=>0) (i+1):=by unfold wC;rw[II n hn bO P _ i hi];rfl
 rw[this];rfl
theorem TL {B n:Nat}:∀b,b<n->Sm B ((λ_=>0:Nat->Dyadic) b):=λ_ _=>Sm.zero _
theorem ady {B n:Nat}{P:Nat->Nat->Dyadic}(hn:1<=n)(bO:n<=4)(h:∀a b,a<=n->b<n->Sm B (P a b))(i:Nat):Sm (5*B+20) (wC n P i):=(TD hn bO h TL i n (Nat.le_refl _)).mono zo
theorem amM {B n:Nat}{P:Nat->Nat->Dyadic}(hn:1<=n)(bO:n<=4)(h:∀a b,a<=n->b<n->Sm B (P a b))(b i:Nat):Sm (4*B+11+i) (lZ n P b i):=by
 induction i with
 |zero=>exact Sm.zero _
 |succ i ih=>exact(Sm.sub ih ((JN hn bO h b i).mono zo)).mono zo
theorem RP {B n:Nat}{P:Nat->Nat->Dyadic}(hn:1<=n)(bO:n<=4)(h:∀a b,a<=n->b<n->Sm B (P a b))(hB:B<=1000000)(i:Nat):iH n (5*B+33) (nY n P i):=
 LI (B:=5*B+20) zo (Nat.le_refl _) (ady hn bO h i) (λj _=>(JN hn bO h j i).mono zo) zo
theorem Xi {B n:Nat}{P:Nat->Nat->Dyadic}(hn:1<=n)(bO:n<=4)(h:∀a b,a<=n->b<n->Sm B (P a b))(hB:B<=1000000)(i:Nat)(hi:i<=n):iH n (5*B+33) (lh n P i):=
 LI (B:=5*B+20) zo (Nat.le_refl _) ((adE hn bO h TL i hi).mono zo) (λj _=>(amM hn bO h j i).mono zo) zo
theorem RQ (n:Nat)(c:Dyadic)(l:Nat->Dyadic)(k:Nat):(dO n c l k).length<=k+1:=by have:=zw (iO n c l k);rw[CZ]at this;exact this
theorem aa6 (n:Nat)(P:Nat->Nat->Dyadic)(i:Nat):(nY n P i).length<=n+1:=RQ _ _ _ _
theorem aki (n:Nat)(P:Nat->Nat->Dyadic)(i:Nat):(lh n P i).length<=n+1:=RQ _ _ _ _
theorem aok (n:Nat)(P:Nat->Nat->Dyadic)(i:Nat):(AH n P i).length<=n+1:=by have h:=zw (eK (-1) (nY n P i));have h2:=aa6 n P i;unfold eK at h;rw[List.length_map]at h;unfold AH eK;omega
theorem aoj {B n:Nat}{P:Nat->Nat->Dyadic}(hn:1<=n)(bO:n<=4)(h:∀a b,a<=n->b<n->Sm B (P a b))(hB:B<=1000000)(i:Nat):iH n (5*B+40) (AH n P i):=by
 have hf:=RP hn bO h hB i;have hl:=aa6 n P i;have hsl:(eK (-1) (nY n P i)).length=(nY n P i).length:=by unfold eK;rw[List.length_map]
 refine(Pj (V:=n) (B:=5*B+35) (l:=eK (-1) (nY n P i)) zo ?_ zo ?_ zo).mono zo
 . intro t ht;unfold eK at ht;obtain⟨x,hx,rfl⟩:=List.mem_map.1 ht;exact hf.1.2.1 x hx
 . intro t ht;unfold eK at ht;obtain⟨x,hx,rfl⟩:=List.mem_map.1 ht;show Sm _ (az (canon (az x.2* -1)))
   rw[bD];exact(Sm.mul (hf.2 x hx).2 (Sm.neg Sm.one)).mono zo
theorem akv {B n:Nat}{P:Nat->Nat->Dyadic}(hn:1<=n)(bO:n<=4)(h:∀a b,a<=n->b<n->Sm B (P a b))(hB:B<=1000000)(i:Nat)(hi:i<=n)(j:Nat):iH n (5*B+33) (fy n P i j):=by
 unfold fy;split
 . exact Xi hn bO h hB i hi
 . exact RP hn bO h hB _
theorem apm (ps:List Pv)(V:Int)(a:Option Addr)(n c:Nat):(((ps.flatMap jv).set 0 (af V)).set 1 (.slice a n c))=(ps.set 0 ⟨V,a,n,c⟩).flatMap jv:=by
 cases ps with
 |nil=>rfl
 |cons p ps=>rfl
theorem acd {W:World}{V B:Nat}{ps:List Pv}{Ts:Nat->List aM}{a:Option Addr}{c:Nat}{C:List aM}(h:iK W V B ps Ts)(hT:Ts ps.length=C)(hp:cz W a c C)(hf:iH V B C):iK W V B (ps++[⟨(V:Int),a,C.length,c⟩]) Ts:=by
 intro k hk;by_cases hl:k<ps.length
 . obtain⟨a',c',h1,h2,h3⟩:=h k hl;exact⟨a',c',by rw[List.getElem_append_left hl];exact h1,h2,h3⟩
 . have e:k=ps.length:=by simp at hk;omega
   subst e;exact⟨a,c,by simp[hT],by rw[hT];exact hp,by rw[hT];exact hf⟩
theorem ao7 {W:World}{V B:Nat}{ps:List Pv}{Ts Ts':Nat->List aM}{a:Option Addr}{c:Nat}{C:List aM}(h:iK W V B ps Ts)(hs:∀j,0<j->Ts' j=Ts j)(h0:Ts' 0=C)(hp:cz W a c C)(hf:iH V B C):iK W V B (ps.set 0 ⟨(V:Int),a,C.length,c⟩) Ts':=by
 intro k hk;rw[List.length_set]at hk;rcases k with _|k
 . exact⟨a,c,by simp[h0],by rw[h0];exact hp,by rw[h0];exact hf⟩
 . obtain⟨a',c',h1,h2,h3⟩:=h (k+1) hk;rw[<-hs (k+1) zo]at h1 h2 h3;exact⟨a',c',by simp[h1],h2,h3⟩
theorem iK.off {W:World}{V B:Nat}{ps:List Pv}{Ts:Nat->List aM}{g:Nat}{cur:Array Value}{t:TypeId}(h:iK W V B ps Ts)(hg:W.heap[g]?=some (.cells cur t))(ht:t≠93)(i:Nat)(u:Value):iK (W.setCell ⟨g,i,none⟩ u) V B ps Ts:=λk hk=>by obtain⟨a,c,h1,h2,h3⟩:=h k hk;exact⟨a,c,h1,h2.off hg ht i u,h3⟩
theorem ab2 {w:World}{base:Nat}{e:TypeId}{size n cap g:Nat}{xs:List Value}(h:w.ownsRow base e size (.slice (some ⟨g,0,none⟩) n cap) n xs):∃cur,w.heap[g]?=some (.cells cur e):=by
 rcases h.2 with⟨h1,_⟩ |⟨g',cap',cur,h1,hb,hg,_⟩
 . simp at h1
 . simp only[Value.slice.injEq,Option.some.injEq,Addr.mk.injEq,and_true,true_and]at h1;obtain⟨rfl,rfl⟩:=h1;exact⟨cur,hg⟩
theorem cz.grown {w w':World}{r:Option Nat}{a:Option Addr}{c:Nat}{C:List aM}(h:cz w a c C)(hg:w.grownBy w' r)(hr:∀g,r=some g->∃cur t,w.heap[g]?=some (.cells cur t)/\t≠93):cz w' a c C:=by
 refine⟨?_,h.2.1,?_⟩
 . rcases h.2.2 with h'|⟨b,o,cur',rfl,h2⟩
   . subst h';exact .inl rfl
   . have hne:some b≠r:=λe=>by obtain⟨cur,t,h3,h4⟩:=hr b e.symm;rw[h3]at h2;simp at h2;exact h4 h2.2
     rcases h.1 with h1|⟨b1,o1,e1,hc⟩
     . exact .inl h1
     . simp only[Option.some.injEq,Addr.mk.injEq,and_true]at e1;obtain⟨rfl,rfl⟩:=e1;refine .inr ⟨b,o,rfl,λj hj=>?_⟩;have h9:=hc j hj;rw[<-h9];have hk:=hg.block b (Array.getElem?_eq_some_iff.1 h2).1 hne;simp only[World.cell?,hk]
 . rcases h.2.2 with h'|⟨b,o,cur',rfl,h2⟩
   . exact .inl h'
   . have hne:some b≠r:=λe=>by obtain⟨cur,t,h3,h4⟩:=hr b e.symm;rw[h3]at h2;simp at h2;exact h4 h2.2
     exact .inr ⟨b,o,cur',rfl,by rw[hg.block b (Array.getElem?_eq_some_iff.1 h2).1 hne];exact h2⟩
theorem iK.grown {W w':World}{V B:Nat}{ps:List Pv}{Ts:Nat->List aM}{r:Option Nat}(h:iK W V B ps Ts)(hg:W.grownBy w' r)(hr:∀g,r=some g->∃cur t,W.heap[g]?=some (.cells cur t)/\t≠93):iK w' V B ps Ts:=λk hk=>by obtain⟨a,c,h1,h2,h3⟩:=h k hk;exact⟨a,c,h1,h2.grown hg hr,h3⟩
theorem ab5 {w:World}{base:Nat}{e:TypeId}{size n:Nat}{v:Value}{xs:List Value}(h:w.ownsRow base e size v n xs):∀g,v.ownBlock=some g->∃cur t,w.heap[g]?=some (.cells cur t)/\t=e:=by
 intro g hg;rcases h.2 with⟨rfl,_⟩ |⟨g',cap',cur,rfl,_,hg2,_⟩
 . simp[Value.ownBlock]at hg
 . have:g'=g:=by simpa[Value.ownBlock]using hg
   subst this;exact⟨cur,e,hg2,rfl⟩
theorem Tryz.axf :(Tryz.prog.info? 91).map (λi=>(i.zero,i.size,i.bytes))=some (some (.agg #[af 0,.slice none 0 0]),2,32):=by kernel_rfl
end Go.Proofs.YtoopepmmepmfnaaGreatDoor
