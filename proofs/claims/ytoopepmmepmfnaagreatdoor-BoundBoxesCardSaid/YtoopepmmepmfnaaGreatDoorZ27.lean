/- Package slices: Clone,Delete,over numbers. -/
import Derived.Test.YtoopepmmepmfnaaGreatDoorZ13
import Derived.Lib.SliceRun
import Derived.Test.YtoopepmmepmfnaaGreatDoorZ26
import Derived.Test.YtoopepmmepmfnaaGreatDoorZ12
import Derived.Test.YtoopepmmepmfnaaGreatDoorZ14
import Derived.Test.YtoopepmmepmfnaaGreatDoorZ23
set_option linter.unusedVariables false
set_option linter.unusedSimpArgs false
set_option maxRecDepth 100000
set_option maxHeartbeats 16000000
namespace Go.Proofs.YtoopepmmepmfnaaGreatDoor
open Go.RowKit
attribute [local go_sem ↓] Go.wp_at_zero Go.wp_at_succ
theorem afh (a:Option Addr)(n cap:Nat)(ej:List Raw)(w:World)(hn:ej.length=n)(hl:n<=1048576)(hs:a=none->n=0/\cap=0)(ha:At w a (ej.flatMap cg)):
 Calls Tryz.prog 209 #[.slice a n cap] w λe w'=>∃v',e=.returned v'/\w'.ownsRow w.heap.size 39 3 v' n (ej.flatMap cg)/\Bw w w':=by
 obtain⟨i0,hi,hz0,hz1,hz2⟩:=info_parts Tryz.arF;have q:=λ(w:World) (a:Option Addr) (n c n' c':Nat)=>Lib.run_eql_slice_nil (P:=Tryz.prog) w 49 39 a n c n' c' Tryz.underlying49;have hlen:(ej.flatMap cg).length=n*3:=by rw[mf cg 3 (λ_=>rfl),hn]
 obtain⟨cs,hcs⟩:=aB (ej.flatMap cg);have h1:=Ie ej;rw[hcs]at hlen ha h1⊢;obtain⟨mS,Ha,H1,Hs,Hi,fg,fh,ey⟩:=mI hlen ha h1 hs hi hz0 hz1 hz2;clear hlen ha h1 hs hi hz0 hz1 hz2 hn hcs;cases a with
 |none=>obtain⟨hn0,hc⟩:=Hs.out rfl;subst hc;subst hn0;go_enter Tryz.func209,Tryz.ntmps209;go_wp2;go_ret;refine⟨_,rfl,?_,Below.refl _ _⟩;have e:cs=[]:=List.eq_nil_of_length_eq_zero (by have:=mS.out;omega);rw[e];exact World.ownsRow_nil _ _ _ _
 |some ad=>go_enter Tryz.func209,Tryz.ntmps209;go_wp2_with (at_builtin;refine aac rfl _ _ 49 rfl w.heap.size 39 i0 _ 3 32 Tryz.underlying49 Hi.out fg.out fh.out ey.out rfl zd _ 0 [] rfl (World.ownsRow_made w #[] 0 (Nat.le_refl _) (Nat.zero_le _) zm) (some ad) n cap cs rfl Hs.out mS.out (Ha.out.below ((Below.refl _ w).alloc (Nat.le_refl _) _)) H1.out zx zo zm ?_;intro v' w1 hown hgrow kz);go_ret;refine⟨v',rfl,by simpa using hown,?_⟩;exact((Below.refl _ w).alloc (Nat.le_refl _) _).grown hgrow zm (λk hk=>by have h9:w.heap.size=k:=Option.some.inj hk;omega)
theorem Tryz.arN (w:World):(zeroValue 39).run Tryz.prog w=.ok (.agg #[.bool false,.string ⟨#[]⟩,.int .i64 0]) w:=by kernel_rfl
theorem agl {α:Type}(f:α->List Value)(sz:Nat)(hf:∀x,(f x).length=sz)(xs:List α)(i:Nat)(hi:i<xs.length):(xs.eraseIdx i).flatMap f=(xs.flatMap f).take (i*sz)++(xs.flatMap f).drop ((i+1) *sz):=by
 have e:xs=xs.take i++xs[i]::xs.drop (i+1):=by rw[List.getElem_cons_drop,List.take_append_drop]
 have hl:((xs.take i).flatMap f).length=i*sz:=by rw[mf f sz hf,List.length_take,Nat.min_eq_left zo]
 have e1:xs.flatMap f=(xs.take i).flatMap f++(f xs[i]++(xs.drop (i+1)).flatMap f):=by
  conv=>lhs;rw[e]
  rw[List.flatMap_append,List.flatMap_cons]
 rw[e1,List.take_left' hl,List.drop_append,hl,List.drop_of_length_le (by rw[hl,Nat.add_mul];omega)];rw[show(i+1) *sz-i*sz=sz by rw[Nat.add_mul,Nat.one_mul];omega,List.nil_append,List.drop_left' (hf _),List.eraseIdx_eq_take_drop_succ,List.flatMap_append]
theorem afN (g m cap i base:Nat)(ej:List Raw)(w:World)(hn:ej.length=m+1)(hl:m<=1048576)(hi:i<=m)
 (ho:w.ownsRow base 39 3 (.slice (some ⟨g,0,none⟩) (m+1) cap) (m+1) (ej.flatMap cg)):
 Calls Tryz.prog 208 #[.slice (some ⟨g,0,none⟩) (m+1) cap,.int .i64 (i:Int),.int .i64 ((i+1:Nat):Int)] w λe w'=>e=.returned (.slice (some ⟨g,0,none⟩) m cap)/\
  w'.ownsRow base 39 3 (.slice (some ⟨g,0,none⟩) m cap) m ((ej.eraseIdx i).flatMap cg)/\w.grownBy w' (some g):=by
 obtain⟨i0,hi0,hz0,hz1,hz2⟩:=info_parts Tryz.arF;have hcap:m+1<=cap:=(xq ho).1;have hcm:cap<=9223372036854775807:=by
  rcases ho.2 with⟨h1,_⟩ |⟨g',cap',cur,h1,hb,hg,h4,h5,_⟩
  . simp at h1
  . simp only[Value.slice.injEq]at h1;obtain⟨_,_,rfl⟩:=h1;unfold maxLen at h5;omega
 have Ga:=agl cg 3 (λ_=>rfl) ej i zo;have hlen:(ej.flatMap cg).length=(m+1) *3:=by rw[mf cg 3 (λ_=>rfl),hn]
 have h1:=Ie ej;obtain⟨cs,hcs⟩:=aB (ej.flatMap cg);obtain⟨rs,hrs⟩:=aB ((ej.eraseIdx i).flatMap cg);rw[hcs]at hlen ho h1 Ga;rw[hrs]at Ga⊢;have yV:=Ym ho i zo;obtain⟨ad,had⟩:=aB (if cap=i+1 then(⟨g,0,none⟩:Addr)else⟨g,(i+1) *3,none⟩);have hsl:(if cap=i+1 then some (⟨g,0,none⟩:Addr)else some ⟨g,(i+1) *3,none⟩)=some ad:=by rw[<-had];split<;>rfl
 have hnews:Hid (∀j u,(cs.drop ((i+1) *3))[j]?=some u->w.drew.cell? (ad.add j)=some u):=by
  intro j u hj;rw[List.getElem?_drop]at hj;have hlt:=(List.getElem?_eq_some_iff.1 hj).1;have FQ:¬cap=i+1:=by omega
  rw[if_neg FQ]at had;subst had;have e2:((⟨g,(i+1) *3,none⟩:Addr).add j)=⟨g,(i+1) *3+j,none⟩:=by unfold Addr.add;cases j<;>simp
  rw[e2];have:=ho.cells (g:=g) rfl ((i+1) *3+j) u hj;have e3:((⟨g,0,none⟩:Addr).add ((i+1) *3+j))=⟨g,(i+1) *3+j,none⟩:=by unfold Addr.add;split<;>simp;omega
  rw[e3]at this;exact this
 have hnl:Hid ((cs.drop ((i+1) *3)).length=(m-i) *3):=by show _=_;rw[List.length_drop,hlen];omega
 have fO:Hid (∀u∈cs.drop ((i+1) *3),u.oneCell'=true):=λu hu=>h1 u (List.mem_of_mem_drop hu);have Rq:Hid (w.drew.ownsRow base 39 3 (.slice (some ⟨g,0,none⟩) i cap) i (cs.take (i*3))):=yV;obtain⟨abI,ack,Ki,Kf,Hi,fh⟩:=iD Ga hnews.out hnl.out fO.out hi0 hz1;have z:=Tryz.arN;clear hnews hnl fO ho yV hlen h1 Ga hcs hrs hn hi0 hz0 hz1 hz2;have hw1:IntKind.i64.wrap ((i:Int)+1)=((i+1:Nat):Int):=by rw[IntKind.wrap_i64];omega
 have hne:((i:Int)==((i+1:Nat):Int))=false:=by simp;omega
 have hcm2:¬cap=m:=by omega
 have jQ:i+1<=m+1:=by omega
 have hmc:i+1<=cap:=by omega
 have hic:i<=cap:=by omega
 have h0i:(0:Int)<=(i:Int)+1:=by omega
 clear had;go_enter Tryz.func208,Tryz.ntmps208;go_wp2_with fail;have Hb:Hid (Bw w w):=Below.refl _ _;refine bW (λw'=>True) (λi=>Nat.blt i 100000) [(0,true),(1,true),(2,true),(3,true),(4,true),(5,true),(6,false),(7,true)] zk zk rfl zk zc True.intro ?_;iterate 6 (refine pT rfl rfl ?_;try simp only[UU])
 refine aC rfl rfl (λK hK=>?_);refine wp_append_own_spare _ _ _ 49 rfl base 39 i0 3 Tryz.underlying49 Hi.out fh.out g i cap (cs.take (i*3)) rfl Rq.out ad (m-i) (cap-(i+1)) (cs.drop ((i+1) *3)) rfl Ki.out ack.out Kf.out zo ?_;intro w1 fP hg1;refine hK _ _ (λ_=>True.intro) ?_;clear hK K;try simp only[UU]
 refine pT rfl rfl ?_;try simp only[Act.put,U1,U2]
 simp only[aV];have e9:i+(m-i)=m:=by omega
 rw[e9,<-abI.out]at fP;obtain⟨w2,hcl,fQ,hg2⟩:=YM w1 49 39 _ 3 Tryz.underlying49 Tryz.arN rfl (by intro v hv;simp[Value.cells]at hv;rcases hv with rfl|rfl|rfl<;>rfl) g m 1 cap (cap-m) base rs fP zo;have AK:=af fQ;have qW:Hid (w.grownBy w2 (some g)):=grownBy_trans ⟨hg1.os,hg1.tape,hg1.output,hg1.size,hg1.block⟩ hg2;clear fP hg1 fQ hg2 Rq hsl;go_wp2;go_ret;exact⟨rfl,AK.out,qW.out⟩
theorem agm (l:List Dyadic)(c:Nat):(l.map canon).eraseIdx c=(l.eraseIdx c).map canon:=by apply List.ext_getElem?;intro i;rw[List.getElem?_eraseIdx,List.getElem?_map,List.getElem?_map,List.getElem?_map,List.getElem?_eraseIdx];split<;>rfl
theorem anh (a:Option Addr)(cap m r c:Nat)(R:List (List Dyadic))(w:World)(hL:R.length=m+1)(hrow:∀x∈R,x.length=m+1)(hr:r<=m)(hc:c<=m)(hm:m<=7)(ha:cF w a (R.map λx=>x.map canon)):
 Calls Tryz.prog 184 #[.slice a (m+1) cap,.int .i64 (r:Int),.int .i64 (c:Int)] w λe w'=>∃a' c',e=.returned (.slice a' m c')/\m<=c'/\cF w' a' ((jz R r c).map λx=>x.map canon)/\Bw w w':=by
 obtain⟨j0,hj,hy0,hy1,hy2⟩:=info_parts Tryz.arI;obtain⟨S,hS⟩:=aB (jz R r c);have kr:=XM R r c m hL hr;have rI:=XN R r c m hrow hc;have Mt:=XL R r c m hL hr;rw[hS]at kr rI Mt⊢;have CH:∀(W:World) (k:Nat) (hk:k<m+1),Bw w W->∃b o a1 c1,∃x:List Dyadic,R.getD k []=x/\x.length=m+1/\a=some ⟨b,o,none⟩/\W.cell? ⟨b,o+k,none⟩=some (.slice (some a1) (m+1) c1)/\At W (some a1) ((x.map canon).flatMap cg):=by
  intro W k hk hb;have VD:k<R.length:=by omega
  obtain⟨b,o,a1,c1,h1,h2,h3⟩:=(ha.below hb).row k (by simp[hL];omega);have e1:(R.map λx=>x.map canon)[k]'(by simp[hL];omega)=R[k].map canon:=by simp
  have hxl:=hrow _ (List.getElem_mem VD);rw[e1]at h2 h3;rw[List.length_map,hxl]at h2;cases a1 with
  | none=>
    rcases h3 with h3|⟨_,_,h3,_⟩
    . have:=congrArg List.length h3;rw[mf cg 3 (λ_=>rfl),List.length_map,hxl]at this;simp at this
    . cases h3
  |some a1=>exact⟨b,o,a1,c1,R[k],by simp[List.getD_eq_getElem?_getD,VD],hxl,h1,h2,h3⟩
 obtain⟨Hj,lW,oZ,pg,IZ,HSr,aaX,acQ⟩:=mI hj hy0 hy1 hy2 kr rI Mt CH;clear hj hy0 hy1 hy2 kr rI Mt CH hS ha hL hrow;have Hb:Hid (Bw w w):=Below.refl _ _;go_enter Tryz.func184,Tryz.ntmps184;go_wp2_with fail;go_loopw[7,12] (λs7 x wr=>∃(k:Nat) (v:Value),k<=m+1/\x=.int .i64 (k:Int)/\v=s7/\Own2 49 wr w.heap.size S (if k<=r then k else k-1) v/\Bw w wr) (λ_ x _=>m+1-(intOf x).toNat);case atStart=>exact⟨0,_,Nat.zero_le _,rfl,rfl,by rw[if_pos (Nat.zero_le _)];exact Own2.nil _ _ _ _,Hb.out⟩
 case round=>
  clear Hb;obtain⟨k,v,hk,rfl,rfl,pv,pb⟩:=hrel;by_cases hlt:k<m+1
  . obtain⟨b,o,a1,c1,x,mE,hxl,rfl,hc1,hat⟩:=acQ.out wr k hlt pb;have bB:=za (m+1) cap k (k:Int) (rfl:(some ⟨b,o,none⟩:Option Addr)=_) hlt rfl;rw[Nat.mul_one]at bB;by_cases hkr:k=r
    . subst hkr;obtain⟨cX,aZ⟩:=aI pv pb;clear pv pb mE hxl hat;have h3:((k:Int) !=(k:Int))=false:=by simp
      go_wp2;go_roundw;case rel=>exact⟨k+1,v,by omega,by go_num,rfl,by have h:=cX.out;rw[if_pos (Nat.le_refl _)]at h;rw[if_neg zo];exact h,aZ.out⟩
      case measure=>simp[intOf];omega
    . have h3:((k:Int) !=(r:Int))=true:=by simp;omega
      have h4:¬(k:Int)=(r:Int):=by omega
      obtain⟨j,hj⟩:=aB (if k<=r then k else k-1);have tj:(if k+1<=r then k+1 else k+1-1)=j+1:=by rw[<-hj];split<;>split<;>omega
      have hjm:j<m:=by rw[<-hj];split<;>omega
      have Vz:(if j<r then j else j+1)=k:=by rw[<-hj];split<;>split<;>omega
      have Mu:S.getD j []=x.eraseIdx c:=by rw[aaX.out j hjm,Vz,mE]
      rw[hj]at pv;obtain⟨Z,hZ⟩:=aB (x.eraseIdx c);have UA:Z.length=m:=by rw[<-hZ,List.length_eraseIdx_of_lt zo];omega
      rw[hZ]at Mu
      -- the row,without its number
      have Cg:∀W,Bw wr W->Calls Tryz.prog 209 #[.slice (some a1) (m+1) c1] W λe w'=>∃g cc,e=.returned (.slice (some ⟨g,0,none⟩) (m+1) cc)/\(wr.heap.size<=g/\∀W',Bw wr W'->w'=W'->Calls Tryz.prog 208 #[.slice (some ⟨g,0,none⟩) (m+1) cc,.int .i64 (c:Int),.int .i64 ((c:Int)+1)] W' λe w''=>e=.returned (.slice (some ⟨g,0,none⟩) m cc)/\w''.ownsRow wr.heap.size 39 3 (.slice (some ⟨g,0,none⟩) m cc) m (dC Z)/\Bw wr w'')/\Bw W w':=by intro W hW;refine(afh (some a1) (m+1) c1 (x.map canon) W (by rw[List.length_map,hxl]) zo (λe=>by cases e) (hat.below hW)).mono ?_;rintro e w' ⟨v',rfl,ho,hb⟩;obtain⟨g,cc,rfl,hg1,hg2,hg3⟩:=xp ho zo;have hsz:=hW.size;refine⟨g,cc,rfl,⟨by omega,λW' hW' e=>?_⟩,hb⟩;subst e;have hd:=afN g m cc c wr.heap.size (x.map canon) w' (by rw[List.length_map,hxl]) zo hc (xt ho zo);rw[show((c+1:Nat):Int)=(c:Int)+1 by omega]at hd;refine hd.mono ?_;rintro e w'' ⟨rfl,fQ,hg⟩;rw[agm,hZ,<-Bt]at fQ;exact⟨rfl,fQ,hW'.grown hg hW'.size (λi e=>by have h9:g=i:=Option.some.inj e;omega)⟩
      obtain⟨DW,Qr,xP,cX,aZ,Hj1⟩:=iD Cg Mu UA pv pb tj;clear Cg Mu UA hZ pv pb tj Vz hj mE hxl hat;have lL:=aZ.out.size;have hwc:IntKind.i64.wrap ((c:Int)+1)=((c+1:Nat):Int):=by rw[IntKind.wrap_i64];omega
      have FQ:(c:Int)+1=((c+1:Nat):Int):=by omega
      obtain⟨KE,Hci⟩:=aI hwc FQ;clear hwc FQ;go_wp2_with fail;refine(DW.out _ (Below.refl _ _)).mono ?_;rintro e w4 ⟨g,cc,rfl,⟨hg1,hdel⟩,hb4⟩;have QK:=af (hdel w4 hb4 rfl);clear hdel hc1 bB;go_wp2_with fail;refine QK.out.mono ?_;rintro e w5 ⟨rfl,Ni,df⟩;have ie:=Ni.lt;obtain⟨a2,c2,Ve,pQ,_⟩:=eH Ni;simp only[Value.slice.injEq,true_and]at Ve;obtain⟨rfl,rfl⟩:=Ve;obtain⟨vals,hvl,hov,oD⟩:=cX.out.below df;obtain⟨_,_,uL,_⟩:=cX.out;have hvs:=uL.lt;have hin:∀b o,(some ⟨g,0,none⟩:Option Addr)=some ⟨b,o,none⟩->some b≠v.ownBlock/\b<w5.heap.size:=by intro b o e;simp only[Option.some.injEq,Addr.mk.injEq,and_true]at e;obtain⟨rfl,rfl⟩:=e;have h1:=ie g rfl;refine⟨λh2=>?_,h1.2⟩;have h3:=hvs g h2.symm;omega
      obtain⟨ui,Ji,oX,vV,dW,fB⟩:=iD hin pQ hvl oD hov (aH aZ.out df);have Ps:=df.size;clear hin pQ hvl oD hov uL hvs ie Ni df hb4 QK DW hg1;have Hb:Hid (Bw w5 w5):=Below.refl _ _;obtain⟨W6,pO,ae,Hd⟩:=cf w5 49 [.slice (some ⟨g,0,none⟩) m cc];have d0:=Hd.out.c1;replace Hb:=ak Hb ae;clear ae;have dh:=ownsRow_below dW.out Hb.out;have lC:=Hb.out.size;have hnews:∀i u,([.slice (some ⟨g,0,none⟩) m cc]:List Value)[i]?=some u->W6.cell? ((⟨w5.heap.size,0,none⟩:Addr).add i)=some u:=jK Hd.out;clear d0;go_wp2_with (at_builtin;refine wpList_append_own_at _ rfl _ _ 124 rfl w.heap.size 49 j0 _ 1 24 Tryz.underlying124 Hj.out lW.out oZ.out pg.out rfl zd v j vals rfl dh ⟨w5.heap.size,0,none⟩ 1 1 [.slice (some ⟨g,0,none⟩) m cc] rfl rfl hnews zy zx zo zo ?_;intro v' w7 fu gz _ kz;obtain⟨g',pC,rfl⟩:=ownsRow_succ fu);go_roundw;case rel=>
       refine⟨k+1,_,by omega,by go_num,rfl,?_,?_⟩
       . rw[Hj1.out];refine Own2.push (a:=some ⟨g,0,none⟩) (c:=cc) oX.out (w:=W6) ?_ ?_ ?_ ?_ gz kz
         . intro i h;obtain⟨a,c,h1,h2,h3⟩:=vV.out i h;exact⟨a,c,h1,h2.below Hb.out,λb o e=>⟨(h3 b o e).1,Nat.lt_of_lt_of_le (h3 b o e).2 lC⟩⟩
         . rw[Qr.out];exact Ji.out.below Hb.out
         . exact λb o e=>⟨(ui.out b o e).1,Nat.lt_of_lt_of_le (ui.out b o e).2 lC⟩
         . rw[Qr.out,xP.out];exact fu
       . exact(aH fB.out Hb.out).grown gz zo (λj e=>eI dh j e)
      case measure=>simp[intOf];omega
  . obtain rfl:k=m+1:=by omega
    rw[if_neg zo,Nat.add_sub_cancel]at pv;obtain⟨a2,c2,rfl,hcl,qo⟩:=Own2.arM pv IZ.out;obtain⟨yf,aZ⟩:=aI qo pb;clear pv pb qo;go_wp2;refine bodyPost_ret (results_tmp rfl _ _ _) rfl ⟨a2,c2,rfl,hcl,yf.out,aZ.out⟩
theorem aen (a:Option Addr)(c:Nat)(w:World):Calls Tryz.prog 143 #[.slice a 0 c] w λe w'=>e=.returned (cn 1)/\Bw w w':=by
 have Hb:Hid (Bw w w):=Below.refl _ _;go_enter Tryz.func143,Tryz.ntmps143;go_wp2_with fail;obtain⟨R,hR⟩:∃R:World->Prop,(λW=>aj W (w.heap.size) 32 [.bool false,.string ⟨#[]⟩]/\Bw w W)=R:=⟨_,rfl⟩;first|refine bQ R ?hR ?_|refine bP R ?hR ?_
 case hR=>subst hR;exact⟨(aj.newAt w _ _ (b:=w.heap.size) rfl),zl⟩
 subst hR;rintro W ⟨qr,ae⟩;have Hr:=af qr;clear qr;obtain⟨r0,ag,r1,ah⟩:=Hr.out.g2;replace Hb:=ak Hb ae;clear ae;go_wp2_with fail;refine(PK 1 _ zd zd).mono ?_;rintro e w1 ⟨rfl,ae⟩;clear r0 ag r1 ah;replace Hr:=kB Hr ae;obtain⟨r0,ag,r1,ah⟩:=Hr.out.g2;replace Hb:=ak Hb ae;clear ae;have oH:=Hr.out.lt;obtain⟨W2,lu,ae,Hl⟩:=cf w1 32 [.bool (ai 1),.string (bs (nt 1))];clear r0 ag r1 ah;replace Hr:=kB Hr ae;obtain⟨r0,ag,r1,ah⟩:=Hr.out.g2;obtain⟨l0,l1⟩:=Hl.out.c2;replace Hb:=ak Hb ae;clear ae;go_wp2_with fail;go_loop [5,15] (λt x=>t=.bool false/\x=.int .i64 0) (λ_ _=>0)
 case atStart=>exact⟨rfl,rfl⟩
 case round=>obtain⟨rfl,rfl⟩:=hrel;go_wp2;clear r0 ag r1 ah l0 l1;refine dx (aY W2 (w.heap.size) 0 [.bool (ai 1),.string (bs (nt 1))]) bg ?_;intro w9 hs;replace Hr:=bE Hr hs;replace Hl:=kS Hl hs zo;obtain⟨r0,ag,r1,ah⟩:=Hr.out.g2;obtain⟨l0,l1⟩:=Hl.out.c2;replace Hb:=bS Hb hs ZS;clear hs;refine bodyPost_ret (v:=cn 1) (by simp[results,Tryz.results143,go_sem,r0,r1]) rfl ⟨rfl,Hb.out⟩
theorem afU (a:Option Addr)(cap:Nat)(w:World)(ha:cF w a [])(hT:az w):Calls Tryz.prog 94 #[.slice a 0 cap] w λe w'=>e=.returned (.tuple #[bH 1,.int .i64 0])/\Bw w w':=by
 obtain⟨O,hO⟩:∃O:Dyadic,(1:Dyadic)=O:=⟨_,rfl⟩;have hch:=λW=>λ(h:cF W a [])=>Ou a 0 cap [] W rfl zo h;rw[show tJ []=0 from rfl]at hch;have hsc:=λW=>λ(h:cF W a []) (hT:az W)=>YQ a 0 cap 0 [] 1 0 W rfl zo zo (λr hr=>by cases hr) h (λr hr=>by cases hr) zo hT rfl;have hmk:=λW=>λ(hT:az W)=>vg (ai 1) (nt (1:Int).natAbs) 0 O (by rw[<-hO];rfl) W zd zd hT;rw[hO];obtain⟨Jq,vQ,rf,Ha,HT⟩:=gT hch hsc hmk ha hT;clear hch hsc hmk ha hT hO;have Hb:Hid (Bw w w):=Below.refl _ _;go_enter Tryz.func94,Tryz.ntmps94;go_wp2_with fail;obtain⟨R,hR⟩:∃R:World->Prop,(λW=>aj W (w.heap.size) 39 [.bool false,.string ⟨#[]⟩,.int .i64 0]/\Bw w W)=R:=⟨_,rfl⟩;first|refine bQ R ?hR ?_|refine bP R ?hR ?_
 case hR=>subst hR;exact⟨(aj.newAt w _ _ (b:=w.heap.size) rfl),zl⟩
 subst hR;rintro W ⟨qr,ae⟩;have Hr:=af qr;clear qr;obtain⟨r0,ag,r1,ah,r2,au⟩:=Hr.out.g3;replace Hb:=ak Hb ae;clear ae;have HA:Hid (cF W a []):=Ha.out.below Hb.out;have HU:Hid (az W):=HT.out.below Hb.out;go_wp2_with fail;refine(Jq.out _ HA.out).mono ?_;rintro e w1 ⟨rfl,ae⟩;clear r0 ag r1 ah r2 au;replace Hr:=kB Hr ae;replace HA:=kL HA ae;replace HU:=kT HU ae;obtain⟨r0,ag,r1,ah,r2,au⟩:=Hr.out.g3;replace Hb:=ak Hb ae;clear ae;go_wp2_with fail;refine(vQ.out _ HA.out HU.out).mono ?_;rintro e w2 ⟨v,rfl,hO,ae⟩;clear r0 ag r1 ah r2 au;replace Hr:=kB Hr ae;replace HA:=kL HA ae;replace HU:=kT HU ae;obtain⟨r0,ag,r1,ah,r2,au⟩:=Hr.out.g3;replace Hb:=ak Hb ae;clear ae;obtain⟨vals,_,ho,_⟩:=hO;obtain⟨a2,c2,rfl,_,_⟩:=eH ho;clear ho;go_wp2_with fail;refine(aen a2 c2 _).mono ?_;rintro e w3 ⟨rfl,ae⟩;clear r0 ag r1 ah r2 au;replace Hr:=kB Hr ae;replace HA:=kL HA ae;replace HU:=kT HU ae;obtain⟨r0,ag,r1,ah,r2,au⟩:=Hr.out.g3;replace Hb:=ak Hb ae;clear ae;go_wp2_with fail;refine(rf.out _ HU.out).mono ?_;rintro e w4 ⟨rfl,ae⟩;clear r0 ag r1 ah r2 au;replace Hr:=kB Hr ae;replace HA:=kL HA ae;replace HU:=kT HU ae;obtain⟨r0,ag,r1,ah,r2,au⟩:=Hr.out.g3;replace Hb:=ak Hb ae;clear ae;go_wp2;clear r0 ag r1 ah r2 au;refine dx (aY w4 (w.heap.size) 0 [.bool (ai (dN O)),.string (bs (nt (dN O).natAbs)),.int .i64 (dE O)]) bg ?_;intro w9 hs;replace Hr:=bE Hr hs;obtain⟨r0,ag,r1,ah,r2,au⟩:=Hr.out.g3;replace Hb:=bS Hb hs ZS;clear hs;refine bodyPost_ret (v:=.tuple #[bH O,.int .i64 0]) (by simp[results,Tryz.results94,go_sem,r0,r1,r2]) rfl ⟨rfl,Hb.out⟩
theorem SD (R:List (List Dyadic)):((R.map λr=>r.map canon).map λr=>r.map ar)=R:=by
 rw[List.map_map];have:((λr:List Raw=>r.map ar)∘λr:List Dyadic=>r.map canon)=id:=by
  funext r
  show(r.map canon).map ar=r
  rw[List.map_map];have:(ar∘canon)=id:=funext bL;rw[this];simp
 rw[this];simp
theorem ajQ (a':Option Addr)(c' m r c:Nat)(R:List (List Dyadic))(B:Nat)(w:World)(hL:R.length=m+1)(hrow:∀x∈R,x.length=m+1)(hr:r<=m)(hc:c<=m)(hm:m<=4)(hsm:∀x∈R,∀d∈x,Sm B d)(bR:1<=B)(hB:B<=1000000)(ht:cF w a' ((jz R r c).map λx=>x.map canon))(hT:az w):
 Calls Tryz.prog 94 #[.slice a' m c'] w λe w'=>e=.returned (.tuple #[bH (dU m (jU (cz R) r c)),.int .i64 0])/\Bw w w':=by
 have hl:=XM R r c m hL hr;by_cases h0:m=0
 . subst h0;have e:jz R r c=[]:=List.eq_nil_of_length_eq_zero hl;rw[e]at ht;exact afU a' c' w ht hT
 . refine Lt a' c' m ((jz R r c).map λx=>x.map canon) B (jz R r c) _ w zo hm (by rw[List.length_map,hl]) (λx hx=>?_) ht (λx hx y hy=>?_) bR hB hT (SD _) (ajM R r c m hL hrow hr hc hm)
   . obtain⟨z,hz,rfl⟩:=List.mem_map.1 hx;rw[List.length_map];exact XN R r c m hrow hc z hz
   . obtain⟨z,hz,rfl⟩:=List.mem_map.1 hx;obtain⟨d,hd,rfl⟩:=List.mem_map.1 hy;exact(ajO hsm r c z hz d hd).fit zo
theorem aeF (s:Nat)(h:s<=8):bits BinOp.and IntKind.i64 (s:Int) 1=((s%2:Nat):Int):=by
 have hc:s=0\/s=1\/s=2\/s=3\/s=4\/s=5\/s=6\/s=7\/s=8:=by omega
 rcases hc with rfl|rfl|rfl|rfl|rfl|rfl|rfl|rfl|rfl<;>rfl
theorem adV (a:Option Addr)(cap m:Nat)(R:List (List Dyadic))(B:Nat)(w:World)(hm:m+1<=4)(hL:R.length=m+1)(hrow:∀x∈R,x.length=m+1)(hsm:∀x∈R,∀d∈x,Sm B d)(bR:1<=B)(hB:B<=1000000)(ha:cF w a (R.map λx=>x.map canon))(hT:az w):
 Calls Tryz.prog 144 #[.slice a (m+1) cap] w λe w'=>∃v,e=.returned (.tuple #[v,.int .i64 0])/\eU w' w.heap.size (m+1) (pk (m+1) (cz R)) (m+1) v/\Bw w w':=by
 obtain⟨i0,hi,hz0,hz1,hz2⟩:=info_parts Tryz.arF;obtain⟨j0,hj,hy0,hy1,hy2⟩:=info_parts Tryz.arI;have dv:=λW (hW:Bw w W)=>Ou a (m+1) cap (R.map λx=>x.map canon) W (by rw[List.length_map,hL]) zo (ha.below hW);have hm0:tJ (R.map λx=>x.map canon)=0:=by
  unfold tJ;rw[if_neg];rintro(h|h)
  . rw[List.length_map]at h;omega
  . rw[List.any_eq_true]at h;obtain⟨r,hr,h⟩:=h;obtain⟨z,hz,rfl⟩:=List.mem_map.1 hr;have:=hrow z hz;simp at h;omega
 rw[hm0]at dv;have hwo:=λr c (hr:r<=m) (hc:c<=m) W (hW:Bw w W)=>anh a cap m r c R W hL hrow hr hc zo (ha.below hW);have mz:=λr c (hr:r<=m) (hc:c<=m) W (hW:Bw w W) a' c' (ht:cF W a' ((jz R r c).map λx=>x.map canon))=>ajQ a' c' m r c R B W hL hrow hr hc zo hsm bR hB ht (hT.below hW);have hds:∀r c,r<=m->c<=m->Sm (4*B+6) (dU m (jU (cz R) r c)):=by
  intro r c hr hc;refine EN zo (λi j hi hj=>?_);have hk:(if i<r then i else i+1)<R.length:=by split<;>omega
  have hl:=hrow _ (List.getElem_mem hk);have hk2:(if j<c then j else j+1)<R[if i<r then i else i+1].length:=by rw[hl];split<;>omega
  have e:jU (cz R) r c i j=R[if i<r then i else i+1][if j<c then j else j+1]:=by
   show(R.getD (if i<r then i else i+1) []).getD (if j<c then j else j+1) 0=_
   rw[List.getD_eq_getElem?_getD (l:=R),List.getElem?_eq_getElem hk,Option.getD_some,List.getD_eq_getElem?_getD,List.getElem?_eq_getElem hk2];rfl
  rw[e];exact hsm _ (List.getElem_mem hk) _ (List.getElem_mem hk2)
 obtain⟨f,hf⟩:=aB (cz R);rw[hf]at mz hds⊢;have Mc:=λi (h:i<m+1)=>Sj (m+1) f i h;obtain⟨A,hA⟩:=aB (pk (m+1) f);rw[hA]at Mc⊢;obtain⟨Hi,fg,fh,ey,Hj,lW,oZ,pg,gV,Hwo,Ar,Hds⟩:=ij hi hz0 hz1 hz2 hj hy0 hy1 hy2 dv hwo mz hds;obtain⟨HT,aap⟩:=aI hT Mc;clear hi hz0 hz1 hz2 hj hy0 hy1 hy2 dv hwo mz hds hT Mc hA hf hm0 ha hsm hrow hL;have Hb:Hid (Bw w w):=Below.refl _ _;go_enter Tryz.func144,Tryz.ntmps144;go_wp2_with fail;refine(gV.out _ Hb.out).mono ?_;rintro e w1 ⟨rfl,ae⟩;replace Hb:=ak Hb ae;clear ae;go_wp2_with fail;go_loopw[5,18] (λs5 x wr=>∃(k:Nat) (v:Value),k<=m+1/\x=.int .i64 (k:Int)/\v=s5/\eU wr w.heap.size (m+1) A k v/\Bw w wr) (λ_ x _=>m+1-(intOf x).toNat);case atStart=>exact⟨0,_,Nat.zero_le _,rfl,rfl,eU.nil _ _ _ _,Hb.out⟩
 case round=>
  clear Hb;obtain⟨k,v,hk,rfl,rfl,pv,pb⟩:=hrel;obtain⟨cX,aZ⟩:=aI pv pb;clear pv pb;by_cases hlt:k<m+1
  . obtain⟨Z,hZ⟩:=aB ((List.range (m+1)).map λb=>jI (m+1) f k b);have xM:Hid (A.getD k []=Z):=by show _=_;rw[aap.out k hlt,hZ]
    have xP:Hid (Z.length=m+1):=by show _=_;rw[<-hZ];simp
    have HZa:Hid (∀j (h:j<m+1),Z.take (j+1)=Z.take j++[jI (m+1) f k j]):=by intro j h;rw[List.take_succ_eq_append_getElem (by rw[xP.out];exact h)];congr 2;simp[<-hZ]
    clear hZ;obtain⟨wq,hwc⟩:∃wq,wq=wr:=⟨_,rfl⟩;subst hwc;have lL:=aZ.out.size;have wM:decide ((k:Int)<(m:Int)+1)=true:=by simp;omega
    go_wp2_with fail;clear wM;go_loopw[7,23] (λs7 x wr=>∃(j:Nat) (v2:Value),j<=m+1/\x=.int .i64 (j:Int)/\v2=s7/\wr.ownsRow wq.heap.size 39 3 v2 j (dC (Z.take j))/\Bw wq wr) (λ_ x _=>m+1-(intOf x).toNat);case atStart=>exact⟨0,_,Nat.zero_le _,rfl,rfl,World.ownsRow_nil _ _ _ _,Below.refl _ _⟩
    case round=>
     obtain⟨j,v2,hj,rfl,rfl,ho,hb2⟩:=hrel;obtain⟨Ho,cE⟩:=aI ho hb2;have szb:=hb2.size;clear ho hb2;by_cases bG:j<m+1
     . obtain⟨X,hX⟩:=aB (dU m (jU f j k));obtain⟨Y,hY⟩:=aB (jI (m+1) f k j);have Uy:Y=if(k+j)%2=1 then-X else X:=by rw[<-hY,<-hX];rfl
       have dY:=Hds.out j k zo zo;rw[hX]at dY;have hst:dC (Z.take (j+1))=dC (Z.take j)++[.bool (ai (dN Y)),.string (bs (nt (dN Y).natAbs)),.int .i64 (dE Y)]:=by rw[HZa.out j bG,hY,Lm];rfl
       have fN:=aH aZ.out cE.out;have hd:=λW hW a' c' ht=>Ar.out j k zo zo W hW a' c' ht;rw[hX]at hd;obtain⟨Hd,bX,Jb⟩:=cG hd hst Uy;have Qw:Hid (Ok (canon X)):=dY.ok zo;have iH:=af fN;clear hd hst Uy hX hY dY fN;have Hb:Hid (Bw wr wr):=Below.refl _ _;go_wp2_with fail;refine(Hwo.out j k zo zo _ iH.out).mono ?_;rintro e w3 ⟨a3,c3,rfl,hc3,CI,ae⟩;replace Hb:=ak Hb ae;clear ae;have Eo:=af CI;clear CI;go_wp2_with fail;refine(Hd.out _ (aH iH.out Hb.out) a3 c3 Eo.out).mono ?_;rintro e w4 ⟨rfl,ae⟩;replace Hb:=ak Hb ae;clear ae Eo;have sz4:=Hb.out.size;obtain⟨W5,FH,ae,Hx⟩:=cf w4 39 [.bool (ai (dN X)),.string (bs (nt (dN X).natAbs)),.int .i64 (dE X)];obtain⟨x0,aK,x1,aL,x2,aN⟩:=Hx.out.g3;replace Hb:=ak Hb ae;clear ae;have yL:=aeF (k+j) zo;rw[Int.natCast_add]at yL;go_upto_if 38 with fail
       go_cut[7] (λs7 wx=>s7=v2/\aj wx w4.heap.size 39 [.bool (ai (dN Y)),.string (bs (nt (dN Y).natAbs)),.int .i64 (dE Y)]/\Bw wr wx);case first=>
        by_cases hp:(k+j)%2=1
        . have h9:(bits BinOp.and IntKind.i64 ((k:Int)+(j:Int)) 1==1)=true:=by rw[yL,hp];rfl
          have hY: -ar (canon X)=Y:=by rw[bL,Jb.out,if_pos hp]
          have HY:=af hY;clear hY yL;go_wp2_with fail;refine(Lr _ _ _ Y HY.out _ Qw.out (HT.out.below (aH iH.out Hb.out))).mono ?_;rintro e w6 ⟨rfl,ae⟩;clear x0 aK x1 aL x2 aN;replace Hx:=kB Hx ae;obtain⟨x0,aK,x1,aL,x2,aN⟩:=Hx.out.g3;replace Hb:=ak Hb ae;clear ae;go_wp2_with fail;go_meet;exact⟨rfl,((Hx.out.set 0 _).set 1 _).set 2 _,((Hb.out.setCell zp _).setCell zp _).setCell zp _⟩
        . have h9:(bits BinOp.and IntKind.i64 ((k:Int)+(j:Int)) 1==1)=false:=by rw[yL,show(k+j)%2=0 by omega];rfl
          have hY:Y=X:=by rw[Jb.out,if_neg hp]
          subst hY;clear yL;go_wp2_with fail;go_meet;exact⟨rfl,Hx.out,Hb.out⟩
       case rest=>
        obtain⟨rfl,hx,hb⟩:=hcut;clear yL;have Hx:Hid (aj wc w4.heap.size 39 [.bool (ai (dN Y)),.string (bs (nt (dN Y).natAbs)),.int .i64 (dE Y)]):=hx;have qU:=af (aH cE.out hb);have hov:=ownsRow_below Ho.out hb;have dW:=af hov;have szc:=hb.size;clear hx hb hov Ho Hb Hd Jb Qw iH cE;have Hb:Hid (Bw wc wc):=Below.refl _ _;obtain⟨x0,x1,x2⟩:=Hx.out.c3;have P0:=x0;have P1:=x1;have P2:=x2;have ajA:=Hx.out.lt;obtain⟨W6,pO,ae,Hc⟩:=cf wc 39 [.bool (ai (dN Y)),.string (bs (nt (dN Y).natAbs)),.int .i64 (dE Y)];clear x0 x1 x2;replace Hx:=kB Hx ae;obtain⟨x0,x1,x2⟩:=Hx.out.c3;obtain⟨c0,c1,c2⟩:=Hc.out.c3;replace Hb:=ak Hb ae;clear ae;have dh:=ownsRow_below dW.out Hb.out;have lC:=Hb.out.size;go_wp2_with (at_builtin;refine wpList_append_own_at _ rfl _ _ 49 rfl wq.heap.size 39 i0 _ 3 32 Tryz.underlying49 Hi.out fg.out fh.out ey.out rfl zd _ j (dC (Z.take j)) rfl dh ⟨wc.heap.size,0,none⟩ 1 1 [.bool (ai (dN Y)),.string (bs (nt (dN Y).natAbs)),.int .i64 (dE Y)] rfl rfl (jK Hc.out) zy zx zo zo ?_;intro v' w7 fu gz _ kz;obtain⟨g',pC,rfl⟩:=ownsRow_succ fu);go_roundw;case rel=>exact⟨j+1,_,by omega,by go_num,rfl,by rw[bX.out];exact fu,(aH qU.out Hb.out).grown gz zo (λj e=>eI dh j e)⟩
        case measure=>simp[intOf];omega
     . obtain rfl:j=m+1:=by omega
       have uC:Z.take (m+1)=Z:=List.take_of_length_le (by rw[xP.out];exact Nat.le_refl _);rw[uC]at Ho;have ie:=Ho.out.lt;obtain⟨a2,cap2,rfl,_,_⟩:=eH Ho.out;obtain⟨vals,hvl,uL,NL,CJ⟩:=cX.out;have hov:=ownsRow_below uL cE.out;have oD:=λi h=>ownsRow_below (NL i h) cE.out;have pU:∀g,(Value.slice a2 (m+1) cap2).ownBlock=some g->∀i (h:i<vals.length),vals[i].ownBlock≠some g:=λg e i h e2=>by have h1:=(ie g e).1;have h2:=((NL i h).lt g e2).2;omega
       have hx:=xt Ho.out lL;obtain⟨oX,vV,dW,KC,JN,Hxx⟩:=iD hvl oD hov CJ pU hx;clear hvl oD hov uL NL CJ pU hx ie uC;have Hb:Hid (Bw wr wr):=Below.refl _ _;obtain⟨W6,pO,ae,Hd⟩:=cf wr 49 [.slice a2 (m+1) cap2];have d0:=Hd.out.c1;replace Hb:=ak Hb ae;clear ae;have dh:=ownsRow_below dW.out Hb.out;have lC:=Hb.out.size;go_wp2_with (at_builtin;refine wpList_append_own_at _ rfl _ _ 124 rfl w.heap.size 49 j0 _ 1 24 Tryz.underlying124 Hj.out lW.out oZ.out pg.out rfl zd v k vals rfl dh ⟨wr.heap.size,0,none⟩ 1 1 [.slice a2 (m+1) cap2] rfl rfl (jK Hd.out) zy zx zo zo ?_;intro v' w7 fu gz _ kz;obtain⟨g',pC,rfl⟩:=ownsRow_succ fu);go_roundw;case rel=>refine⟨k+1,_,by omega,by go_num,rfl,eU.push oX.out dh (λi h=>ownsRow_below (vV.out i h) Hb.out) KC.out (by rw[xM.out];exact ownsRow_below Hxx.out Hb.out) JN.out fu gz,?_⟩;exact(aH (aH aZ.out cE.out) Hb.out).grown gz zo (λj e=>eI dh j e)
       case measure=>simp[intOf];omega
  . obtain rfl:k=m+1:=by omega
    go_wp2;exact bodyPost_ret (v:=.tuple #[v,.int .i64 0]) (by simp[results,Tryz.results144,go_sem]) rfl ⟨v,rfl,cX.out,aZ.out⟩
end Go.Proofs.YtoopepmmepmfnaaGreatDoor
namespace Go.Proofs.YtoopepmmepmfnaaGreatDoor
def pp (n:Nat)(p:Nat->Nat->Dyadic):List (List Dyadic):=(List.range n).map λa=>(List.range n).map λb=>jH n p a b
theorem KQ (n:Nat)(p:Nat->Nat->Dyadic):(pp n p).length=n:=by simp[pp]
theorem KR (n:Nat)(p:Nat->Nat->Dyadic):∀r∈pp n p,r.length=n:=by intro r hr;unfold pp at hr;obtain⟨x,_,rfl⟩:=List.mem_map.1 hr;simp
theorem Si (n:Nat)(p:Nat->Nat->Dyadic)(a b:Nat)(ha:a<n)(hb:b<n):cz (pp n p) a b=jH n p a b:=by unfold cz pp;simp[List.getD_eq_getElem?_getD,ha,hb]
theorem amF {n:Nat}{R S:List (List Dyadic)}(h1:R.length=n)(h2:∀r∈R,r.length=n)(h3:S.length=n)(h4:∀r∈S,r.length=n)(h:∀a b,a<n->b<n->cz R a b=cz S a b):R=S:=by apply List.ext_getElem zo;intro i hi hj;have l1:=h2 _ (List.getElem_mem hi);have l2:=h4 _ (List.getElem_mem hj);apply List.ext_getElem zo;intro j k1 k2;have:=h i j zo zo;unfold cz at this;simpa[List.getD_eq_getElem?_getD,hi,hj,k1,k2]using this
theorem adR (n:Nat)(cM:n<=4){e f:Nat->Nat->Dyadic}(h:∀i j,i<n->j<n->e i j=f i j)(a b:Nat)(ha:a<n)(hb:b<n):jI n e a b=jI n f a b:=by
 have:dU (n-1) (jU e b a)=dU (n-1) (jU f b a):=EM (n-1) zo (λi j hi hj=>by
  unfold jU
  exact h _ _ (by split<;>omega) (by split<;>omega))
 unfold jI;rw[this]
theorem agk {n:Nat}{R:List (List Dyadic)}(h1:R.length=n)(h2:∀r∈R,r.length=n)(i j:Nat)(hi:i<n)(hj:j<n)(y:Dyadic)(a b:Nat)(ha:a<n)(hb:b<n):cz (R.set i ((R.getD i []).set j y)) a b=if a=i/\b=j then y else cz R a b:=by
 unfold cz;by_cases e:a=i
 . subst e;rw[List.getD_eq_getElem?_getD (l:=R.set _ _),List.getElem?_set_self zo,Option.getD_some];have hl:(R.getD a []).length=n:=by
    have e:R.getD a []=R[a]'zo:=by rw[List.getD_eq_getElem?_getD,List.getElem?_eq_getElem zo];rfl
    rw[e];exact h2 _ (List.getElem_mem _)
   by_cases e2:b=j
   . subst e2;rw[if_pos ⟨rfl,rfl⟩,List.getD_eq_getElem?_getD,List.getElem?_set_self zo];rfl
   . rw[if_neg (λh=>e2 h.2),List.getD_eq_getElem?_getD,List.getElem?_set_ne (λh=>e2 h.symm),<-List.getD_eq_getElem?_getD]
 . rw[if_neg (λh=>e h.1),List.getD_eq_getElem?_getD (l:=R.set _ _),List.getElem?_set_ne (λh=>e h.symm),<-List.getD_eq_getElem?_getD]
theorem al3 {n:Nat}{R:List (List Dyadic)}(h1:R.length=n)(h2:∀r∈R,r.length=n)(i j:Nat)(hi:i<n)(y:Dyadic):(R.set i ((R.getD i []).set j y)).length=n/\∀r∈R.set i ((R.getD i []).set j y),r.length=n:=by
 refine⟨by rw[List.length_set];exact h1,λr hr=>?_⟩;rcases List.mem_or_eq_of_mem_set hr with h|h
 . exact h2 r h
 . rw[h,List.length_set];have e:R.getD i []=R[i]'zo:=by rw[List.getD_eq_getElem?_getD,List.getElem?_eq_getElem zo];rfl
   rw[e];exact h2 _ (List.getElem_mem _)
theorem al5 (X:Dyadic):(if aP X<0 then-X else X)=nP X*X:=by
 rw[al4];by_cases h:X<0
 . rw[if_pos h,if_pos ((yA X).2 h)]
 . rw[if_neg h,if_neg (λh2=>h ((yA X).1 h2))]
def iZ (k j a b:Nat):Prop:=a<k\/a=k/\b<j
instance (k j a b:Nat):Decidable (iZ k j a b):=inferInstanceAs (Decidable (_\/_))
end Go.Proofs.YtoopepmmepmfnaaGreatDoor
namespace Go.Proofs.YtoopepmmepmfnaaGreatDoor
open Go.RowKit
attribute [local go_sem ↓] Go.wp_at_zero Go.wp_at_succ
def RR (w:World)(n:Nat)(p:Nat->Nat->Dyadic)(e:Ending)(w':World):Prop:=
 ∃a' c',e=.returned (.tuple #[bH (nP (gv n p) *gv n p),.slice a' n c',.int .i64 0])/\n<=c'/\cF w' a' ((pp n p).map λr=>r.map canon)/\Bw w w'
theorem eU.blk {w:World}{base n L go cap:Nat}{R:List (List Dyadic)}(h:eU w base n R L (.slice (some ⟨go,0,none⟩) L cap))(i:Nat)(hi:i<L)(hn:0<n):base<=go/\∃g c,w.cell? ⟨go,i,none⟩=some (.slice (some ⟨g,0,none⟩) n c)/\base<=g/\g<w.heap.size/\g≠go:=by
 obtain⟨vals,hl,ho,hv,hd⟩:=h;have hi2:i<vals.length:=by omega
 have hrow:=hv i hi2;obtain⟨g,c,e1,hg1,hg2,_⟩:=xp hrow hn;have kz:=zH ho;have hc:=jk ho i zo;rw[e1]at hc;refine⟨kz.1,g,c,hc,hg1,hg2,?_⟩;rintro rfl;rw[e1]at hrow;rcases hrow.2 with⟨h1,_⟩ |⟨g',c',cur,h1,_,h2,_⟩
 . simp at h1
 . simp only[Value.slice.injEq,Option.some.injEq,Addr.mk.injEq,and_true,true_and]at h1;obtain⟨rfl,rfl⟩:=h1;rcases ho.2 with⟨h3,_⟩ |⟨g2,c2,anZ,h3,_,h4,_⟩
   . simp at h3
   . simp only[Value.slice.injEq,Option.some.injEq,Addr.mk.injEq,and_true,true_and]at h3;obtain⟨rfl,rfl⟩:=h3;rw[h2]at h4;simp at h4
theorem eU.arJ {w:World}{base n k:Nat}{R:List (List Dyadic)}{v:Value}(h:eU w base n R k v){p:Addr}(hp:p.block<base)(x:Value):eU (w.setCell p x) base n R k v:=by
 obtain⟨vals,hl,ho,hi,hd⟩:=h;have hne:∀{u:Value} {e:TypeId} {sz m:Nat} {xs:List Value},w.ownsRow base e sz u m xs->u.ownBlock≠some p.block:=λh e=>by have:=(h.lt _ e).1;omega
 exact⟨vals,hl,ownsRow_setCell_other ho (hne ho) _,λi h=>ownsRow_setCell_other (hi i h) (hne (hi i h)) _,hd⟩
theorem ait (a:Option Addr)(cap m:Nat)(rows:List (List Raw))(B:Nat)(w:World)(hm:m+1<=4)(hr:Rw (m+1) B rows)(hcap:m+1+1<=cap)(ha:cF w a rows)(hB:B<=200000)(hT:az w)(h0:xH rows=0):
 Calls Tryz.prog 96 #[.slice a (m+1+1) cap] w (RR w (m+1) (dZ rows)):=by
 obtain⟨n,hn⟩:=aB (m+1);have hL:=hr.1;have hrow:=hr.2.1;have hfit:=hr.2.2;obtain⟨b,o,rfl⟩:∃b o,a=some ⟨b,o,none⟩:=by
  obtain⟨vals,hvl,hat,_⟩:=ha;rcases hat with h|⟨b,o,h,_⟩
  . rw[h]at hvl;simp at hvl;omega
  . exact⟨b,o,h⟩
 have dv:=λW (hW:Bw w W)=>ZA (some ⟨b,o,none⟩) (m+1+1) cap rows B W hL zo hcap (ha.below hW) hfit zo (hT.below hW);rw[h0]at dv;obtain⟨S,hS⟩:=aB ((rows.drop 1).map λp=>iY (rows.getD 0 []) p);have kr:S.length=m+1:=by rw[<-hS];simp[hL]
 have h00:0<rows.length:=by omega
 have e0:rows.getD 0 []=rows[0]:=by simp[h00]
 have rI:∀r∈S,r.length=m+1:=by intro r hr;rw[<-hS]at hr;obtain⟨p,hp,rfl⟩:=List.mem_map.1 hr;rw[EQ (by rw[e0,hrow _ (List.mem_of_mem_drop hp),hrow _ (List.getElem_mem h00)]),hrow _ (List.mem_of_mem_drop hp)]
 have mh:∀r∈S,∀d∈r,Sm (B+1) d:=by intro r hr d hd;rw[<-hS]at hr;obtain⟨p,hp,rfl⟩:=List.mem_map.1 hr;unfold iY at hd;obtain⟨i,hi,rfl⟩:=List.mem_iff_getElem.1 hd;rw[List.getElem_zipWith];refine Sm.sub (hfit p (List.mem_of_mem_drop hp) _ (List.getElem_mem _)).2 (hfit (rows.getD 0 []) ?_ _ (List.getElem_mem _)).2;rw[e0];exact List.getElem_mem h00
 obtain⟨P,hP⟩:=aB (dZ rows);have Cj:∀i j,i<m+1->j<m+1->cz S i j=yC P i j:=λi j hi hj=>by rw[<-hS,<-hP];exact YX (m+1) rows hL hrow i j hi hj
 obtain⟨X,hX⟩:=aB (gv (m+1) P);have hent:dU (m+1) (cz S)=X:=by rw[<-hX,BB];exact EM (m+1) hm Cj
 have hro:=λW (hW:Bw w W)=>YG b o cap (m+1) (m+1) rows B W hL zo hcap zo zo zo hrow (ha.below hW) hfit zo (hT.below hW);rw[hS]at hro
 have mz:=λW (hW:Bw w W) a' c' (h:cF W a' (S.map λr=>r.map canon))=>Lt a' c' (m+1) (S.map λr=>r.map canon) (B+1) S X W zo hm (by simpa using kr) (by
  intro r hr;obtain⟨x,hx,rfl⟩:=List.mem_map.1 hr
  simpa using rI x hx) h (by
  intro r hr c hc;obtain⟨x,hx,rfl⟩:=List.mem_map.1 hr;obtain⟨y,hy,rfl⟩:=List.mem_map.1 hc
  exact(mh x hx y hy).fit zo) zo zo (hT.below hW) (SD S) hent
 have sW:=λW (hW:Bw w W) a' c' (h:cF W a' (S.map λr=>r.map canon))=>(adV a' c' m S (B+1) W hm kr rI mh zo zo h (hT.below hW)).mono (λe w' h=>(match h with|⟨v,h1,h2,h3⟩=>⟨v,h1,h2,h3,h3⟩:∃v,e=.returned (.tuple #[v,.int .i64 0])/\eU w' W.heap.size (m+1) (pk (m+1) (cz S)) (m+1) v/\Bw W w'/\Bw W w'));have dY:Sm (4*B+11) X:=by rw[<-hent];refine(EN (B:=B+1) hm (λi j hi hj=>?_)).mono zo;rw[Cj i j hi hj,<-hP];exact EU (n:=m+1) (B:=B) (λa b ha hb=>by rw[rV rows a b zo (by rw[hrow _ (List.getElem_mem _)];exact hb)];exact(hfit _ (List.getElem_mem _) _ (List.getElem_mem _)).2) i j hi hj
 have lD:=λW=>ma (ai (dN X)) (nt (dN X).natAbs) (dE X) (aP X) (by show aP (ar (canon X))=_;rw[bL]) W (dY.ok zo);have mA: -1<=aP X/\aP X<=1:=by unfold aP dD;split<;>(try split)<;>omega
 obtain⟨G,hG⟩:=aB (nP X);have hof:=λW (hW:Bw w W)=>rA (aP X) G (by rw[<-hG];rfl) W zo (hT.below hW)
 have hab:=λW (hW:Bw w W)=>afz (ai (dN X)) (nt (dN X).natAbs) (dE X) (G*X) (by
  have e:ar (ai (dN X),nt (dN X).natAbs,dE X)=X:=bL X
  rw[e,al5,hG]) W (dY.ok zo) (hT.below hW)
 have TY:Fit (4*B+11) (canon G):=(by rw[<-hG];exact(Pi X).mono zo:Sm (4*B+11) G).fit zo;have lj:∀i j,i<m+1->j<m+1->Fit (4*B+11) (canon (jI (m+1) (cz S) i j)):=λi j hi hj=>by refine((Sg (B:=B+1) zo hm (λa b ha hb=>?_) i j).mono zo).fit zo;rw[Cj a b ha hb,<-hP];exact EU (n:=m+1) (B:=B) (λa b ha hb=>by rw[rV rows a b zo (by rw[hrow _ (List.getElem_mem _)];exact hb)];exact(hfit _ (List.getElem_mem _) _ (List.getElem_mem _)).2) a b ha hb
 have hfin:∀R:List (List Dyadic),R.length=m+1->(∀r∈R,r.length=m+1)->(∀a b,a<m+1->b<m+1->cz R a b=jI (m+1) (cz S) a b*G)->R=pp (m+1) P:=λR h1 h2 h3=>amF h1 h2 (KQ _ _) (KR _ _) (λa b ha hb=>by
  rw[h3 a b ha hb,Si _ _ _ _ ha hb];unfold jH
  rw[hX,hG,adR (m+1) hm Cj a b ha hb])
 have BI:=λi j hi hj=>adS (m+1) (cz S) i j hi hj;have Fp:=adT (m+1) (cz S);have Fq:=adU (m+1) (cz S);obtain⟨F,hF⟩:∃F:Nat->Nat->Dyadic,(λi j=>jI (m+1) (cz S) i j)=F:=⟨_,rfl⟩;have BO:∀i j,jI (m+1) (cz S) i j=F i j:=λi j=>by rw[<-hF]
 simp only[BO]at lj hfin BI;obtain⟨A,hA⟩:=aB (pk (m+1) (cz S));rw[hA]at sW BI Fp Fq;rw[hP];unfold RR;rw[hX,hG];rw[hn]at dv hro mz sW lj hfin BI Fp Fq⊢;have cM:n<=4:=by omega
 have fO:1<=n:=by omega
 have Wv:=λW=>(lD W).mono (λe w' h=>(⟨h.1,h.2,h.2⟩:e=.returned (.int .i64 (aP X))/\Bw W w'/\Bw W w'));have VY:=λW hW=>(hof W hW).mono (λe w' h=>(⟨h.1,h.2,h.2⟩:e=.returned (bH G)/\Bw W w'/\Bw W w'));have mr:=λW hW=>(hab W hW).mono (λe w' h=>(⟨h.1,h.2,h.2⟩:e=.returned (bH (G*X))/\Bw W w'/\Bw W w'));obtain⟨gV,Ry,Ar,Jd,kR,yb,jY,HGf,HAs,sw,HAe,HAl⟩:=ij dv hro mz sW Wv VY mr TY lj hfin BI Fp;obtain⟨HAr,HT⟩:=aI Fq hT;clear dv hro mz sW Wv VY lD hof hab mr TY lj hfin BI Fp Fq hT BO hF hA dY hent Cj mh rI kr hS e0 h00 hP hX hG mA ha hr hL hrow hfit h0 hn;have Hb:Hid (Bw w w):=Below.refl _ _;go_enter Tryz.func96,Tryz.ntmps96;go_wp2_with fail;obtain⟨R,hR⟩:∃R:World->Prop,(λW=>aj W (w.heap.size) 39 [.bool false,.string ⟨#[]⟩,.int .i64 0]/\Bw w W)=R:=⟨_,rfl⟩;first|refine bQ R ?hR ?_|refine bP R ?hR ?_
 case hR=>subst hR;exact⟨(aj.newAt w _ _ (b:=w.heap.size) rfl),zl⟩
 subst hR;rintro W ⟨qr,ae⟩;have Hr:=af qr;clear qr;obtain⟨r0,ag,r1,ah,r2,au⟩:=Hr.out.g3;replace Hb:=ak Hb ae;clear ae;go_wp2_with fail;refine(gV.out _ Hb.out).mono ?_;rintro e w1 ⟨rfl,ae⟩;clear r0 ag r1 ah r2 au;replace Hr:=kB Hr ae;obtain⟨r0,ag,r1,ah,r2,au⟩:=Hr.out.g3;replace Hb:=ak Hb ae;clear ae;go_wp2_with fail;refine(Ry.out _ Hb.out).mono ?_;rintro e w2 ⟨a2,c2,rfl,hc2,ht2,ae⟩;clear r0 ag r1 ah r2 au;replace Hr:=kB Hr ae;obtain⟨r0,ag,r1,ah,r2,au⟩:=Hr.out.g3;replace Hb:=ak Hb ae;clear ae;have En:=af ht2;clear ht2;go_wp2_with fail;refine(Ar.out _ Hb.out a2 c2 En.out).mono ?_;rintro e w3 ⟨rfl,ae⟩;clear r0 ag r1 ah r2 au;replace Hr:=kB Hr ae;obtain⟨r0,ag,r1,ah,r2,au⟩:=Hr.out.g3;replace Hb:=ak Hb ae;clear ae En;have GN:=Hr.out.lt;obtain⟨W4,ku,ae,Hd⟩:=cf w3 39 [.bool (ai (dN X)),.string (bs (nt (dN X).natAbs)),.int .i64 (dE X)];clear r0 ag r1 ah r2 au;replace Hr:=kB Hr ae;obtain⟨r0,ag,r1,ah,r2,au⟩:=Hr.out.g3;obtain⟨d0,d1,d2⟩:=Hd.out.c3;replace Hb:=ak Hb ae;clear ae;go_wp2_with fail;refine(Ry.out _ Hb.out).mono ?_;rintro e w5 ⟨a3,c3,rfl,hc3,CI,ae⟩;clear r0 ag r1 ah r2 au d0 d1 d2;replace Hr:=kB Hr ae;replace Hd:=kB Hd ae;obtain⟨r0,ag,r1,ah,r2,au⟩:=Hr.out.g3;obtain⟨d0,d1,d2⟩:=Hd.out.c3;replace Hb:=ak Hb ae;clear ae;have Eo:=af CI;clear CI;have lU:=Hr;have QJ:=Hd;have eK:=Hb;go_wp2_with fail;refine(Jd.out _ Hb.out a3 c3 Eo.out).mono ?_;rintro e w6 ⟨v,rfl,hO,UI,ae⟩;clear r0 ag r1 ah r2 au d0 d1 d2;replace Hr:=kB Hr ae;replace Hd:=kB Hd ae;obtain⟨r0,ag,r1,ah,r2,au⟩:=Hr.out.g3;obtain⟨d0,d1,d2⟩:=Hd.out.c3;replace Hb:=ak Hb ae;clear ae;obtain⟨go,cv,rfl,hgo⟩:∃go cv,v=.slice (some ⟨go,0,none⟩) n cv/\w5.heap.size<=go:=by obtain⟨vals,hl,ho,_,_⟩:=hO;obtain⟨g,c,e1,h1,_,_⟩:=xp ho zo;exact⟨g,c,e1,h1⟩
 have hcv:n<=cv:=by obtain⟨vals,hl,ho,_,_⟩:=hO;exact(xq ho).1
 obtain⟨gI,Vn⟩:∃gI:Nat->Nat×Nat,∀i,i<n->w6.cell? ⟨go,i,none⟩=some (.slice (some ⟨(gI i).1,0,none⟩) n (gI i).2)/\w5.heap.size<=(gI i).1/\(gI i).1<w6.heap.size/\(gI i).1≠go:=by have H:=λi (h:i<n)=>(hO.blk i h fO).2;refine⟨λi=>if h:i<n then(Classical.choose (H i h),Classical.choose (Classical.choose_spec (H i h)))else(0,0),λi h=>?_⟩;simp only[h,dif_pos];exact Classical.choose_spec (Classical.choose_spec (H i h))
 obtain⟨HO,QV⟩:=aI hO Vn;clear hO Vn;have xL:Hid (Bw w5 w6):=UI;have H66:Hid (Bw w6 w6):=Below.refl _ _;clear UI;have Ps:=xL.out.size;go_wp2_with fail;refine(kR.out _).mono ?_;rintro e w7 ⟨rfl,UL,ae⟩;clear r0 ag r1 ah r2 au d0 d1 d2;replace Hr:=kB Hr ae;replace Hd:=kB Hd ae;obtain⟨r0,ag,r1,ah,r2,au⟩:=Hr.out.g3;obtain⟨d0,d1,d2⟩:=Hd.out.c3;replace Hb:=ak Hb ae;clear ae;go_wp2_with fail;refine(yb.out _ Hb.out).mono ?_;rintro e w8 ⟨rfl,UM,ae⟩;clear r0 ag r1 ah r2 au d0 d1 d2;replace Hr:=kB Hr ae;replace Hd:=kB Hd ae;obtain⟨r0,ag,r1,ah,r2,au⟩:=Hr.out.g3;obtain⟨d0,d1,d2⟩:=Hd.out.c3;replace Hb:=ak Hb ae;clear ae;have MH:=aH UL UM;clear UL UM;have PX:=af MH;have Dq:=MH.size;clear MH;have ajs:=Hr.out.lt;have apO:=Hd.out.lt;obtain⟨W9,My,ae,Hs⟩:=cf w8 39 [.bool (ai (dN G)),.string (bs (nt (dN G).natAbs)),.int .i64 (dE G)];clear r0 ag r1 ah r2 au;replace Hr:=kB Hr ae;clear d0 d1 d2;replace Hd:=kB Hd ae;obtain⟨r0,ag,r1,ah,r2,au⟩:=Hr.out.g3;obtain⟨d0,d1,d2⟩:=Hd.out.c3;obtain⟨s0,s1,s2⟩:=Hs.out.c3;replace Hb:=ak Hb ae;clear ae;have DG:Hid (Bw w6 W9):=by rw[<-My];exact(PX.out).alloc zo _
 have Ug:=HO.out.below DG.out;have FO:∀i,i<n->W9.cell? ⟨go,i,none⟩=some (.slice (some ⟨(gI i).1,0,none⟩) n (gI i).2):=λi h=>cell_later DG.out (QV.out i h).1;have UJ:=aH xL.out DG.out;obtain⟨Qo,QF,PW⟩:=cG Ug FO UJ;have RA:=Hs;clear Ug FO UJ HO PX H66 DG;go_wp2_with fail;go_loopw[37] (λx wr=>∃(k:Nat) (R:List (List Dyadic)),k<=n/\x=.int .i64 (k:Int)/\R.length=n/\(∀r∈R,r.length=n)/\(∀a b,a<n->b<n->cz R a b=if iZ k 0 a b then F a b*G else F a b)/\eU wr w5.heap.size n R n (.slice (some ⟨go,0,none⟩) n cv)/\(∀i,i<n->wr.cell? ⟨go,i,none⟩=some (.slice (some ⟨(gI i).1,0,none⟩) n (gI i).2))/\aj wr w8.heap.size 39 [.bool (ai (dN G)),.string (bs (nt (dN G).natAbs)),.int .i64 (dE G)]/\Bw w5 wr) (λx _=>n-(intOf x).toNat);case atStart=>exact⟨0,A,Nat.zero_le _,rfl,HAl.out,HAr.out,λa b ha hb=>by rw[HAe.out a b ha hb,if_neg (by unfold iZ;omega)],Qo.out,QF.out,RA.out,PW.out⟩
 case round=>
  clear RA PW QF Qo s0 s1 s2 Hs r0 ag r1 ah r2 au d0 d1 d2 Hr Hd Hb xL;obtain⟨k,R,hk,rfl,pM,pN,hRe,hO,hc,hs,pb⟩:=hrel;by_cases hlt:k<n
  . have dv:=hc k hlt;obtain⟨g,c,lw⟩:∃g c,gI k=(g,c):=⟨_,_,rfl⟩;obtain⟨_,hg1,hg2,hg3⟩:=QV.out k hlt;rw[lw]at dv hg1 hg2 hg3;have bB:=za n cv k (k:Int) (rfl:(some ⟨go,0,none⟩:Option Addr)=_) hlt rfl;rw[Nat.zero_add,Nat.mul_one]at bB;have hin:∃(j:Nat) (R:List (List Dyadic)),j=0/\R.length=n/\(∀r∈R,r.length=n)/\(∀a b,a<n->b<n->cz R a b=if iZ k j a b then F a b*G else F a b)/\eU wr w5.heap.size n R n (.slice (some ⟨go,0,none⟩) n cv)/\(∀i,i<n->wr.cell? ⟨go,i,none⟩=some (.slice (some ⟨(gI i).1,0,none⟩) n (gI i).2))/\aj wr w8.heap.size 39 [.bool (ai (dN G)),.string (bs (nt (dN G).natAbs)),.int .i64 (dE G)]/\Bw w5 wr:=⟨0,R,rfl,pM,pN,hRe,hO,hc,hs,pb⟩;obtain⟨ui,Ed⟩:=aI hin lw;clear hin pM pN hRe hO hc hs pb lw;obtain⟨wq,hwq⟩:∃wq,wq=wr:=⟨_,rfl⟩;subst hwq;go_wp2_with fail;go_loopw[43] (λx wr=>∃(j:Nat) (R:List (List Dyadic)),j<=n/\x=.int .i64 (j:Int)/\R.length=n/\(∀r∈R,r.length=n)/\(∀a b,a<n->b<n->cz R a b=if iZ k j a b then F a b*G else F a b)/\eU wr w5.heap.size n R n (.slice (some ⟨go,0,none⟩) n cv)/\(∀i,i<n->wr.cell? ⟨go,i,none⟩=some (.slice (some ⟨(gI i).1,0,none⟩) n (gI i).2))/\aj wr w8.heap.size 39 [.bool (ai (dN G)),.string (bs (nt (dN G).natAbs)),.int .i64 (dE G)]/\Bw w5 wr) (λx _=>n-(intOf x).toNat);case atStart=>obtain⟨j,R,rfl,h⟩:=ui.out;exact⟨0,R,Nat.zero_le _,rfl,h⟩
    case round=>
     clear ui dv bB;obtain⟨j,R,hj,rfl,pM,pN,hRe,hO,hc,hs,pb⟩:=hrel;by_cases bG:j<n
     . have hrl:(R.getD k []).length=n:=by
        have e:R.getD k []=R[k]'zo:=by rw[List.getD_eq_getElem?_getD,List.getElem?_eq_getElem zo];rfl
        rw[e];exact pN _ (List.getElem_mem _)
       have dv:=hc k hlt;rw[Ed.out]at dv;have hpick:∀W,eU W w5.heap.size n R n (.slice (some ⟨go,0,none⟩) n cv)->W.cell? ⟨go,k,none⟩=some (.slice (some ⟨g,0,none⟩) n c)->bO W g (j*3) [.bool (ai (dN (F k j))),.string (bs (nt (dN (F k j)).natAbs)),.int .i64 (dE (F k j))]/\(∀o,W.frozen? ⟨g,o,none⟩=false)/\∀y:Dyadic,eU (((W.setCell ⟨g,j*3,none⟩ (.bool (ai (dN y)))).setCell ⟨g,j*3+1,none⟩ (.string (bs (nt (dN y).natAbs)))).setCell ⟨g,j*3+2,none⟩ (.int .i64 (dE y))) w5.heap.size n (R.set k ((R.getD k []).set j y)) n (.slice (some ⟨go,0,none⟩) n cv):=by
        intro W hO dv;obtain⟨go',cap',g',c',hv,_,_,hne,hcell,eG,hfz,hup⟩:=hO.num k j hlt bG pM hrl;simp only[Value.slice.injEq,Option.some.injEq,Addr.mk.injEq,and_true,true_and]at hv;obtain⟨rfl,rfl⟩:=hv;rw[dv]at hcell;simp only[Option.some.injEq,Value.slice.injEq,Addr.mk.injEq,and_true,true_and]at hcell;obtain⟨rfl,rfl⟩:=hcell;have he:(R.getD k []).getD j 0=F k j:=by have h:=hRe k j hlt bG;rw[if_neg (by unfold iZ;omega)]at h;exact h
        rw[he]at eG;exact⟨eG,hfz,hup⟩
       obtain⟨eG,_,_⟩:=hpick wr hO dv;have Md:=HAs.out k j hlt bG;obtain⟨Y,hY⟩:=aB (F k j*G);have hsl:=al3 pM pN k j hlt Y;have hen:∀a b,a<n->b<n->cz (R.set k ((R.getD k []).set j Y)) a b=if iZ k (j+1) a b then F a b*G else F a b:=by
        intro a b ha hb;rw[agk pM pN k j hlt bG Y a b ha hb];by_cases e:a=k/\b=j
        . obtain⟨rfl,rfl⟩:=e;rw[if_pos ⟨rfl,rfl⟩,if_pos (by unfold iZ;omega),hY]
        . rw[if_neg e,hRe a b ha hb];have:iZ k j a b↔iZ k (j+1) a b:=by unfold iZ;omega
          by_cases h:iZ k j a b
          . rw[if_pos h,if_pos (this.1 h)]
          . rw[if_neg h,if_neg (λh2=>h (this.2 h2))]
       obtain⟨E,hE⟩:=aB (F k j);have HY:Hid (ar (canon E) *ar (canon G)=Y):=by show _=_;rw[bL,bL,<-hE];exact hY
       rw[hE]at eG Md hpick;have Cm:=tE n c j (j:Int) (rfl:(some ⟨g,0,none⟩:Option Addr)=_) bG rfl;rw[Nat.zero_add]at Cm;obtain⟨R2,BX⟩:=aB (R.set k ((R.getD k []).set j Y));have hpk:=λW h1 h2=>(hpick W h1 h2).2.2 Y;have wT:=λW h1 h2=>(hpick W h1 h2).2.1;rw[BX]at hsl hen hpk;have Hz:Hid (bO wr g (j*3) [.bool (ai (dN E)),.string (bs (nt (dN E).natAbs)),.int .i64 (dE E)]):=eG;have Hs:Hid (aj wr w8.heap.size 39 [.bool (ai (dN G)),.string (bs (nt (dN G).natAbs)),.int .i64 (dE G)]):=hs;obtain⟨HO,Hcc,gV,aZ,Kw,Hen,Hpk,Hpz,HAf,vG⟩:=uX hO hc dv pb hsl hen hpk wT Md (HT.out.below (aH eK.out pb));have szw:=pb.size;clear hO hc dv pb hsl hen hpk wT Md hs eG hpick BX hE hY pM pN hRe hrl;have Hb:Hid (Bw wr wr):=Below.refl _ _;have hs8:=Hs.out.lt;go_wp2_with fail;obtain⟨z0,z1,z2⟩:=Hz.out.w3;obtain⟨s0,s1,s2⟩:=Hs.out.c3;have HU:Hid (az wr):=vG.out;refine bW (λw'=>w'.cell? ⟨g,j*3,none⟩=some (.bool (ai (dN E)))/\w'.cell? ⟨g,j*3+1,none⟩=some (.string (bs (nt (dN E).natAbs)))/\w'.cell? ⟨g,j*3+2,none⟩=some (.int .i64 (dE E))/\w'.cell? ⟨w8.heap.size,0,none⟩=some (.bool (ai (dN G)))/\w'.cell? ⟨w8.heap.size,1,none⟩=some (.string (bs (nt (dN G).natAbs)))/\w'.cell? ⟨w8.heap.size,2,none⟩=some (.int .i64 (dE G))) (λi=>Nat.blt i 10) [(0,true),(1,true),(2,true),(3,true),(4,true),(5,true),(6,true),(7,false),(8,false),(9,true),(10,false)] zk zk rfl zk zc ⟨z0,z1,z2,s0,s1,s2⟩ ?_;iterate 7 (refine pT rfl rfl ?_ (by intro w' ⟨q0,q1,q2,q3,q4,q5⟩;go_simp;try with_reducible rfl);try simp only[UU])
       refine aC rfl rfl (λK hK=>?_);go_simp;refine hK _ _ (λ_=>⟨aJ z0,aJ z1,aJ z2,aJ s0,aJ s1,aJ s2⟩) ?_;clear hK K;try simp only[UU]
       refine bI (λW4=>aj W4 (wr.heap.size) 39 [.bool (ai (dN E)),.string (bs (nt (dN E).natAbs)),.int .i64 (dE E),.bool (ai (dN G)),.string (bs (nt (dN G).natAbs)),.int .i64 (dE G)]/\Bw wr W4) (by first|exact cS|exact cV) ?_;rintro W4 ⟨qv,ae⟩;clear z0 z1 z2 s0 s1 s2;have aju:=Hs.out.lt;replace Hz:=kW Hz ae;replace Hs:=kB Hs ae;replace HU:=kT HU ae;have Hv:=af qv;clear qv;obtain⟨z0,z1,z2⟩:=Hz.out.w3;obtain⟨s0,s1,s2⟩:=Hs.out.c3;obtain⟨v0,v1,v2,v3,v4,v5⟩:=Hv.out.c6;replace Hb:=ak Hb ae;clear ae;refine aC rfl rfl (λK hK=>?_);go_simp;with_reducible refine(pE _ _ _ _ _ _ Y (4*B+11) HY.out wr.heap.size _ 39 _ HAf.out HGf.out zo Hv.out (by first|exact HU.out|exact az.drew HU.out|exact az.alloc HU.out _|exact az.drew (az.alloc HU.out _) |exact az.alloc (az.drew HU.out) _)).mono ?_
       rintro e cC ⟨rfl,hq⟩;have ae:Bw W4 cC:=by first|exact hq|exact aM hq
       clear z0 z1 z2 s0 s1 s2 v0 v1 v2 v3 v4 v5;replace Hz:=kW Hz ae;replace Hs:=kB Hs ae;replace HU:=kT HU ae;replace Hv:=kB Hv ae;obtain⟨z0,z1,z2⟩:=Hz.out.w3;obtain⟨s0,s1,s2⟩:=Hs.out.c3;obtain⟨v0,v1,v2,v3,v4,v5⟩:=Hv.out.c6;replace Hb:=ak Hb ae;clear ae;refine hK _ _ (λ_=>⟨z0,z1,z2,s0,s1,s2⟩) ?_;clear hK K;try simp only[UU]
       refine pT rfl rfl ?_;try simp only[UU]
       refine aC rfl rfl (λK hK=>?_);have Mp:=HO.out.below Hb.out;have MW:=cell_later Hb.out gV.out;have hfz:=Hpz.out cC Mp MW;have pI:=hfz (j*3);have mg:=hfz (j*3+1);have Fb:=hfz (j*3+2);have hup:=Hpk.out cC Mp MW;have sX:=aH aZ.out Hb.out;obtain⟨KA,Aj⟩:=aI hup sX;clear Mp MW hfz hup sX;go_simp;refine hK _ _ (λh=>absurd h zd) ?_;clear hK K;try simp only[UU]
       simp only[aV];go_wp2;refine⟨⟨j+1,R2,by omega,by go_num,Kw.out.1,Kw.out.2,Hen.out,KA.out,λi hi=>?_,?_,?_⟩,by simp[intOf];omega⟩
       . have hne:(⟨go,i,none⟩:Addr).block≠g:=λe=>hg3 e.symm;exact aG (.inl hne) (aG (.inl hne) (aG (.inl hne) (cell_later Hb.out (Hcc.out i hi))))
       . have hne:g≠w8.heap.size:=by omega
         exact((Hs.out.arB _ hne _).arB _ hne _).arB _ hne _
       . exact((Aj.out.setCell hg1 _).setCell hg1 _).setCell hg1 _
     . obtain rfl:j=n:=by omega
       have pZ:(∀a b,a<j->b<j->cz R a b=if iZ (k+1) 0 a b then F a b*G else F a b):=by
        intro a b ha hb;rw[hRe a b ha hb];have:iZ k j a b↔iZ (k+1) 0 a b:=by unfold iZ;omega
        by_cases h:iZ k j a b
        . rw[if_pos h,if_pos (this.1 h)]
        . rw[if_neg h,if_neg (λh2=>h (this.2 h2))]
       have hres:(∃k' R,k'<=j/\k'=k+1/\R.length=j/\(∀r∈R,r.length=j)/\(∀a b,a<j->b<j->cz R a b=if iZ k' 0 a b then F a b*G else F a b)/\eU wr w5.heap.size j R j (.slice (some ⟨go,0,none⟩) j cv)/\(∀i,i<j->wr.cell? ⟨go,i,none⟩=some (.slice (some ⟨(gI i).1,0,none⟩) j (gI i).2))/\aj wr w8.heap.size 39 [.bool (ai (dN G)),.string (bs (nt (dN G).natAbs)),.int .i64 (dE G)]/\Bw w5 wr):=⟨k+1,R,by omega,rfl,pM,pN,pZ,hO,hc,hs,pb⟩;have fC:=af hres;clear hres pZ pM pN hRe hO hc hs pb;go_wp2;go_roundw;case rel=>obtain⟨k',R,h1,rfl,h⟩:=fC.out;exact⟨k+1,R,h1,by go_num,h⟩
       case measure=>simp[intOf];omega
  . obtain rfl:k=n:=by omega
    have hRf:R=pp k P:=sw.out R pM pN (λa b ha hb=>by rw[hRe a b ha hb,if_pos (by unfold iZ;omega)]);subst hRf;obtain⟨HOk,aZ⟩:=aI hO pb;clear hO hc hs pb pM pN hRe;obtain⟨Hr,Hd,Hb⟩:=cG (lU.out.below aZ.out) (QJ.out.below aZ.out) (aH eK.out aZ.out);obtain⟨r0,ag,r1,ah,r2,au⟩:=Hr.out.g3;obtain⟨d0,d1,d2⟩:=Hd.out.c3;go_wp2_with fail;refine(jY.out _ Hb.out).mono ?_;rintro e mM ⟨rfl,uD,ae⟩;clear r0 ag r1 ah r2 au d0 d1 d2;replace Hr:=kB Hr ae;replace Hd:=kB Hd ae;obtain⟨r0,ag,r1,ah,r2,au⟩:=Hr.out.g3;obtain⟨d0,d1,d2⟩:=Hd.out.c3;replace Hb:=ak Hb ae;clear ae;have aaQ:=af (HOk.out.below uD);clear uD;have hzz:=eK.out.size;have jw:w.heap.size<w5.heap.size:=Nat.lt_of_lt_of_le lU.out.lt (Nat.le_refl _);go_wp2;refine dx (λqN=>aj qN w.heap.size 39 [.bool (ai (dN (G*X))),.string (bs (nt (dN (G*X)).natAbs)),.int .i64 (dE (G*X))]/\eU qN w5.heap.size k (pp k P) k (.slice (some ⟨go,0,none⟩) k cv)/\Bw w qN) ⟨((Hr.out.set 0 _).set 1 _).set 2 _,((aaQ.out.arJ jw _).arJ jw _).arJ jw _,((Hb.out.setCell zp _).setCell zp _).setCell zp _⟩ ?_;rintro qN ⟨ah8,ah1,ahu⟩;obtain⟨q0,q1,q2⟩:=ah8.c3;obtain⟨a9,c9,nk,FO,Gw⟩:=ah1.tbl (KQ _ _) (KR _ _);simp only[Value.slice.injEq,true_and]at nk;obtain⟨rfl,rfl⟩:=nk;exact bodyPost_ret (v:=.tuple #[bH (G*X),.slice (some ⟨go,0,none⟩) k cv,.int .i64 0]) (by simp[results,Tryz.results96,go_sem,q0,q1,q2]) rfl ⟨_,_,rfl,FO,Gw,ahu⟩
theorem akD {w:World}{b base n:Nat}{e:TypeId}{size:Nat}{xs:List Value}(h:aj w b e xs)(hb:base<=b)(hl:xs.length=n*size)(hn:n<=1048576):w.ownsRow base e size (.slice (some ⟨b,0,none⟩) n n) n xs:=
 ⟨hl,.inr ⟨b,n,xs.toArray,rfl,hb,h,Nat.le_refl _,by unfold maxLen;omega,by simpa using hl,by rw[<-hl];simp⟩⟩
theorem cF.arO {w:World}{a:Option Addr}{T:List (List Dyadic)}{n:Nat}(h:cF w a (T.map λr=>r.map canon))(hl:T.length=n)(hr:∀r∈T,r.length=n)(k i:Nat)(hk:k<n)(hi:i<n):
 ∃b o br os cr,a=some ⟨b,o,none⟩/\w.cell? ⟨b,o+k,none⟩=some (.slice (some ⟨br,os,none⟩) n cr)/\bO w br (os+i*3) [.bool (ai (dN (cz T k i))),.string (bs (nt (dN (cz T k i)).natAbs)),.int .i64 (dE (cz T k i))]:=by
 have Ge:k<T.length:=by omega
 obtain⟨b,o,a',c',h1,h2,h3⟩:=h.row k (by simpa using Ge);have e1:(T.map λr=>r.map canon)[k]'(by simpa using Ge)=T[k].map canon:=by simp
 have hlk:=hr _ (List.getElem_mem Ge);rw[e1]at h2 h3;rw[List.length_map,hlk]at h2;have hik:i<T[k].length:=by omega
 have e2:cz T k i=T[k][i]:=by unfold cz;simp[List.getD_eq_getElem?_getD,Ge,hik]
 obtain⟨br,os,e3,q0,q1,q2⟩:=h3.num i (by simpa using hik) (show(T[k].map canon)[i]'(by simpa using hik)=(ai (dN (cz T k i)),nt (dN (cz T k i)).natAbs,dE (cz T k i))by rw[e2];simp;rfl);subst e3;exact⟨b,o,br,os,c',h1,h2,oM q0 q1 q2⟩
theorem ala {n B:Nat}{rows:List (List Raw)}(hr:Rw n B rows)(a b:Nat)(ha:a<=n)(hb:b<n):Sm B (dZ rows a b):=by have hL:=hr.1;rw[rV rows a b zo (by rw[hr.2.1 _ (List.getElem_mem _)];exact hb)];exact(hr.2.2 _ (List.getElem_mem _) _ (List.getElem_mem _)).2
theorem LS {V B:Nat}{l:List aO}(hV:V<=12)(hm:∀t∈l,gh t.1 V=true)(hl:l.length<=4096)(hs:∀x∈l,Sm B (ar x.2))(hB:B+l.length<=268435456):jC V (B+l.length) (cp l):=by refine⟨aff hV hm hl,λt ht=>?_⟩;have h1:=afg hs t ht;have h2:=((Bo l).2 t ht).2;rw[h2];exact h1.fit hB
theorem jC.mono {V B B':Nat}{ts:List aO}(h:jC V B ts)(hB:B<=B'):jC V B' ts:=⟨h.1,λt ht=>(h.2 t ht).mono hB⟩
theorem Oc {V B:Nat}{c:Dyadic}{l:Nat->Dyadic}{k:Nat}(hV:V<=12)(hk:k<=V)(hc:Sm B c)(hl:∀j,j<k->Sm B (l j))(hB:B+13<=268435456):jC V (B+13) (dM V c l k):=by have h:=LS (B:=B) hV (aiT V c l k) (by rw[zq];omega) (aiU V c l k hc hl) (by rw[zq];omega);rw[zq]at h;exact h.mono zo
theorem ZP {V B:Nat}{k:Nat}{x:Dyadic}(hV:V<=12)(hx:Sm B x)(hB:B+1<=268435456):jC V (B+1) (cp [(dQ V k,canon x)]):=
 LS (l:=[(dQ V k,canon x)]) hV (by intro t ht;simp at ht;subst ht;exact PD V k) zm (by intro t ht;simp at ht;subst ht;show Sm B (ar (canon x));rw[bL];exact hx) (by simpa using hB)
theorem al0 (V k:Nat)(x:Dyadic):cp (fy x (cp [(dQ V k,canon 1)]))=cp [(dQ V k,canon x)]:=by refine yw (λm=>?_);rw[SU,sM];simp only[cB,bL];split<;>grind
theorem Sc (V B:Nat)(A D C:List aO)(aA aD:Option Addr)(cA cD:Nat)(w:World)(b:Nat)(hb:aj w b 91 [.int .i64 (V:Int),.slice aA A.length cA,.int .i64 (V:Int),.slice aD D.length cD])(hA:cZ w aA cA A)(hD:cZ w aD cD D)(hfA:jC V B A)(hfD:jC V B D)(hn:A.length+D.length<=4096)(hB:B+2+8192<=268435456)(hT:az w)(hC:cp (A++D)=C):
 Calls Tryz.prog 101 #[.slice (some ⟨b,0,none⟩) 2 2] w λex w'=>∃a' c',ex=.returned (.tuple #[.agg #[.int .i64 (V:Int),.slice a' C.length c'],.int .i64 0])/\cZ w' a' c' C/\Bw w w':=by
 refine adQ V B b 0 2 2 [⟨V,aA,A.length,cA⟩,⟨V,aD,D.length,cD⟩] (λk=>if k=0 then A else D) C w rfl zd zd (At.arA hb) ?_ ?_ hB hT ?_
 . intro k hk;rcases k with _|k
   . exact⟨aA,cA,rfl,hA,hfA⟩
   . obtain rfl:k=0:=by simp at hk;omega
     exact⟨aD,cD,rfl,hD,hfD⟩
 . simp[kX];omega
 . simpa[kX]using hC
theorem aiY (V B:Nat)(c:Dyadic)(L:List Dyadic)(l:Nat->Dyadic)(a:Option Addr)(cap:Nat)(w:World)(hV:V<=12)(hL:L.length=V)(hl:∀k (h:k<L.length),l k=L[k])(hcs:Sm B c)(hls:∀x∈L,Sm B x)(hB:B<=100000000)(ha:At w a (dC L))(hT:az w):
 Calls Tryz.prog 99 #[.agg #[.bool (ai (dN c)),.string (bs (nt (dN c).natAbs)),.int .i64 (dE c)],.slice a V cap] w λex w'=>∃a' c',ex=.returned (.tuple #[.agg #[.int .i64 (V:Int),.slice a' (dM V c l V).length c'],.int .i64 0])/\cZ w' a' c' (dM V c l V)/\Bw w w':=by
 have hcn:=λW (hW:Bw w W)=>SV V (ai (dN c)) (nt (dN c).natAbs) (dE c) c B l W hV (hcs.fit zo) zo (hT.below hW) (bL c);have yY:=λk (hk:k<V) W (hW:Bw w W)=>am0 V k W hV hk (hT.below hW);have hlk:∀k,k<V->Sm B (l k):=λk hk=>by rw[hl k zo];exact hls _ (List.getElem_mem _)
 have hsc:=λk (hk:k<V) a' c' (W:World) (hW:Bw w W) (hp:cZ W a' c' (cp [(dQ V k,canon 1)]))=>YP V a' c' (cp [(dQ V k,canon 1)]) (ai (dN (l k))) (nt (dN (l k)).natAbs) (dE (l k)) (l k) (B+2) W (ZP (B:=B+1) hV (Sm.one.mono zo) zo) hp (((hlk k hk).mono zo).fit zo) zo (hT.below hW) (bL _);simp only[al0]at hsc;have had:=λk (hk:k<V) aA cA aD cD (W:World) (hW:Bw w W) b (hb:aj W b 91 [.int .i64 (V:Int),.slice aA (dM V c l k).length cA,.int .i64 (V:Int),.slice aD (cp [(dQ V k,canon (l k))]).length cD]) (hA:cZ W aA cA (dM V c l k)) (hD:cZ W aD cD (cp [(dQ V k,canon (l k))]))=>Sc V (B+13) (dM V c l k) (cp [(dQ V k,canon (l k))]) (dM V c l (k+1)) aA aD cA cD W b hb hA hD (Oc hV zo hcs (λj hj=>hlk j zo) zo) ((ZP (B:=B) hV (hlk k hk) zo).mono zo) (by have h1:=Bq (gA V c l k);have h2:=Bq [(dQ V k,canon (l k))];rw[zq]at h1;simp at h2;unfold dM;omega) zo (hT.below hW) (aiV V c l k);obtain⟨n0,hn0⟩:=aB ((dM V c l 0).length);rw[hn0]at hcn;obtain⟨sk,Hvr,vQ,vH,Hl,HL,Ha,sF⟩:=mI hcn yY hsc had hl hL ha hn0;clear hcn yY hsc had hl hL ha hT hlk hls hcs hn0;have Hb:Hid (Bw w w):=Below.refl _ _;go_enter Tryz.func99,Tryz.ntmps99;go_wp2_with fail;obtain⟨R,hR⟩:∃R:World->Prop,(λW=>aj W (w.heap.size) 39 [.bool (ai (dN c)),.string (bs (nt (dN c).natAbs)),.int .i64 (dE c)]/\aj W (w.heap.size+1) 91 [.int .i64 0,.slice none 0 0]/\Bw w W)=R:=⟨_,rfl⟩;first|refine bQ R ?hR ?_|refine bP R ?hR ?_
 case hR=>subst hR;exact⟨((aj.newAt w _ _ (b:=w.heap.size) rfl).alloc _),(aj.newAt (w.alloc _) _ _ (b:=w.heap.size+1) zm),(zl.alloc zj _)⟩
 subst hR;rintro W ⟨qc,qr,ae⟩;have Hc:=af qc;clear qc;have Hr:=af qr;clear qr;obtain⟨c0,c1,c2⟩:=Hc.out.c3;obtain⟨r0,ag,r1,ah⟩:=Hr.out.g2;replace Hb:=ak Hb ae;clear ae;go_wp2_with fail;refine(sk.out _ Hb.out).mono ?_;rintro e w1 ⟨a1,d1,rfl,hp1,ae⟩;clear c0 c1 c2 r0 ag r1 ah;replace Hc:=kB Hc ae;replace Hr:=kB Hr ae;obtain⟨c0,c1,c2⟩:=Hc.out.c3;obtain⟨r0,ag,r1,ah⟩:=Hr.out.g2;replace Hb:=ak Hb ae;clear ae;have Jp:=Hc;have lU:=Hr;have eK:=Hb;have iw:=af hp1;clear hp1;have ajk:=Hc.out.lt;have oH:=Hr.out.lt;obtain⟨W2,lu,ae,Ho⟩:=cf w1 91 [.int .i64 (V:Int),.slice a1 n0 d1];clear c0 c1 c2;replace Hc:=kB Hc ae;clear r0 ag r1 ah;replace Hr:=kB Hr ae;obtain⟨c0,c1,c2⟩:=Hc.out.c3;obtain⟨r0,ag,r1,ah⟩:=Hr.out.g2;obtain⟨o0,gX,o1,gY⟩:=Ho.out.g2;replace Hb:=ak Hb ae;clear ae;have ul:Hid (cZ W2 a1 d1 (dM V c l 0)):=iw.out.below (by first|exact zl| (rw[<-lu];exact zl));have PV:Hid (Bw w1 W2):=by rw[<-lu];exact zl
 go_wp2_with fail;go_loopw[7,8] (λs7 x wr=>∃(k:Nat) (a':Option Addr) (n' c':Nat),k<=V/\x=.int .i64 (k:Int)/\s7=.int .i64 0/\(dM V c l k).length=n'/\aj wr w1.heap.size 91 [.int .i64 (V:Int),.slice a' n' c']/\cZ wr a' c' (dM V c l k)/\Bw w1 wr) (λ_ x _=>V-(intOf x).toNat);case atStart=>exact⟨0,a1,n0,d1,Nat.zero_le _,rfl,rfl,sF.out,Ho.out,ul.out,PV.out⟩
 case round=>
  clear c0 c1 c2 o0 o1 r0 r1 gX gY ag ah ul PV iw Ho Hc Hr Hb;obtain⟨k,a',n',c',hk,rfl,rfl,hn,ho,hp,pb⟩:=hrel;obtain⟨Ho,Hp,aZ,Hn⟩:=cQ ho hp pb hn;have fN:=eK.out;have lL:=pb.size;have rY:=fN.size;by_cases hlt:k<V
  . have wI:k<(L.map canon).length:=by rw[List.length_map,HL.out];exact hlt
    have hat':=Ha.out.below (aH eK.out pb);rw[Bt]at hat';obtain⟨X,hX⟩:=aB (l k);obtain⟨bx,ox,rfl,p0,p1,p2⟩:=hat'.num k wI (show(L.map canon)[k]=(ai (dN X),nt (dN X).natAbs,dE X)by rw[<-hX,Hl.out k (by simpa using wI)];simp;rfl);have ixx:=tE V cap k (k:Int) (rfl:(some ⟨bx,ox,none⟩:Option Addr)=_) hlt rfl;have lbx:bx<wr.heap.size:=World.block_lt_of_cell? wr _ p0;have yY:=Hvr.out k hlt;have hsc:=vQ.out k hlt;have had:=vH.out k hlt;rw[hn,hX]at had;rw[hX]at hsc;obtain⟨n1,fO⟩:∃n,(cp [(dQ V k,canon 1)]).length=n:=⟨_,rfl⟩;obtain⟨n2,pZ⟩:∃n,(cp [(dQ V k,canon X)]).length=n:=⟨_,rfl⟩;obtain⟨n3,oz⟩:∃n,(dM V c l (k+1)).length=n:=⟨_,rfl⟩;rw[pZ,oz]at had;rw[fO,pZ]at hsc;rw[fO]at yY;obtain⟨lV,rp,Jh,Kg⟩:=cQ yY hsc had oz;have Hx:Hid (bO wr bx (ox+k*3) [.bool (ai (dN X)),.string (bs (nt (dN X).natAbs)),.int .i64 (dE X)]):=oM p0 p1 p2;have iu:=af (aH eK.out pb);clear yY hsc had fO pZ oz hat' wI hX p0 p1 p2 ho hp pb hn fN;have Hb:Hid (Bw wr wr):=Below.refl _ _;have hlo:=Ho.out.lt;obtain⟨o0,gX,o1,gY⟩:=Ho.out.g2;obtain⟨x0,x1,x2⟩:=Hx.out.w3;go_wp2_with fail;refine(lV.out _ (aH iu.out Hb.out)).mono ?_;rintro e w3 ⟨a3,d3,rfl,CB,ae⟩;clear o0 gX o1 gY x0 x1 x2;replace Ho:=kB Ho ae;replace Hx:=kW Hx ae;obtain⟨o0,gX,o1,gY⟩:=Ho.out.g2;obtain⟨x0,x1,x2⟩:=Hx.out.w3;replace Hb:=ak Hb ae;clear ae;have nU:=af CB;have Ix:=Hb.out.size;clear CB;have ajq:=Ho.out.lt;obtain⟨W4,ku,ae,Hv⟩:=cf w3 91 [.int .i64 (V:Int),.slice a3 n1 d3];clear o0 gX o1 gY;replace Ho:=kB Ho ae;clear x0 x1 x2;replace Hx:=kW Hx ae;obtain⟨o0,gX,o1,gY⟩:=Ho.out.g2;obtain⟨x0,x1,x2⟩:=Hx.out.w3;obtain⟨v0,LW,v1,LZ⟩:=Hv.out.g2;replace Hb:=ak Hb ae;clear ae;have HQ:Hid (cZ W4 a3 d3 (cp [(dQ V k,canon 1)])):=nU.out.below (by first|exact zl| (rw[<-ku];exact zl));go_wp2_with fail;refine bW (λw'=>w'.cell? ⟨bx,ox+k*3,none⟩=some (.bool (ai (dN X)))/\w'.cell? ⟨bx,ox+k*3+1,none⟩=some (.string (bs (nt (dN X).natAbs)))/\w'.cell? ⟨bx,ox+k*3+2,none⟩=some (.int .i64 (dE X))) (λi=>Nat.blt i 100000) [(1,true),(2,true),(3,true),(4,true),(0,false),(5,false),(6,true),(7,true),(8,true),(9,false)] zk zk rfl zk zc ⟨x0,x1,x2⟩ ?_;iterate 4 (refine pT rfl rfl ?_ (by intro w' ⟨q0,q1,q2⟩;go_simp;try with_reducible rfl);try simp only[UU])
    refine aC rfl rfl (λK hK=>?_);go_simp;refine hK _ _ (λ_=>⟨x0,x1,x2⟩) ?_;clear hK K;try simp only[UU]
    refine aC rfl rfl (λK hK=>?_);go_simp;with_reducible refine(rp.out a3 d3 _ (by first|exact aH iu.out Hb.out|exact aH iu.out Hb.out.drew) (by first|exact HQ.out|exact HQ.out.below (Below.refl _ _).drew)).mono ?_
    rintro e w5 ⟨a5,d5,rfl,Wi,hq⟩;have ae:Bw W4 w5:=by first|exact hq|exact aM hq
    clear o0 gX o1 gY x0 x1 x2 v0 LW v1 LZ;replace Ho:=kB Ho ae;replace Hx:=kW Hx ae;replace Hv:=kB Hv ae;replace HQ:=af (HQ.out.below ae);obtain⟨o0,gX,o1,gY⟩:=Ho.out.g2;obtain⟨x0,x1,x2⟩:=Hx.out.w3;obtain⟨v0,LW,v1,LZ⟩:=Hv.out.g2;replace Hb:=ak Hb ae;clear ae;refine hK _ _ (λ_=>⟨x0,x1,x2⟩) ?_;clear hK K;try simp only[UU]
    iterate 3 (refine pT rfl rfl ?_;try simp only[UU])
    refine aC rfl rfl (λK hK=>?_);go_simp;refine hK _ _ (by first|exact λh=>absurd h zd|exact λ_=>⟨x0,x1,x2⟩ |exact λ_=>⟨(by first|exact x0|exact aG zf x0|exact aG zf (aG zf x0) |exact aG zf (aG zf (aG zf x0))),(by first|exact x1|exact aG zf x1|exact aG zf (aG zf x1) |exact aG zf (aG zf (aG zf x1))),(by first|exact x2|exact aG zf x2|exact aG zf (aG zf x2) |exact aG zf (aG zf (aG zf x2)))⟩) ?_;clear hK K;try simp only[UU]
    simp only[aV];have NK:=Hv.out;generalize Cc:(w5.setCell ⟨w3.heap.size,0,none⟩ (.int .i64 (V:Int))).setCell ⟨w3.heap.size,1,none⟩ (.slice a5 n2 d5)=W6;have Wj:cZ W6 a5 d5 (cp [(dQ V k,canon X)]):=by rw[<-Cc];exact Wi.store NK zd _ _
    have Cx:aj W6 w1.heap.size 91 [.int .i64 (V:Int),.slice a' n' c']:=by rw[<-Cc];exact(Ho.out.so w3.heap.size 0 zo _).so w3.heap.size 1 zo _
    have dh:aj W6 w3.heap.size 91 [.int .i64 (V:Int),.slice a5 n2 d5]:=by rw[<-Cc];exact(NK.set 0 _).set 1 _
    have UK:Bw wr W6:=by rw[<-Cc];exact(Hb.out.setCell Ix _).setCell Ix _
    replace Ho:=af Cx;replace Hv:=af dh;replace Hb:=af UK;have Hp6:=af Wj;clear Cx dh UK Wj Wi NK Cc o0 o1 gX gY v0 v1 LW LZ x0 x1 x2;obtain⟨o0,gX,o1,gY⟩:=Ho.out.g2;obtain⟨v0,v1⟩:=Hv.out.c2;have P0:=o0;have P1:=o1;have Q0:=v0;have Q1:=v1;have aqa:=Ho.out.lt;have aqA:=Hv.out.lt;obtain⟨W7,aho,ae,Hz⟩:=cf W6 91 [.int .i64 (V:Int),.slice a' n' c',.int .i64 (V:Int),.slice a5 n2 d5];clear o0 gX o1 gY;replace Ho:=kB Ho ae;clear v0 v1;replace Hv:=kB Hv ae;obtain⟨o0,gX,o1,gY⟩:=Ho.out.g2;obtain⟨v0,v1⟩:=Hv.out.c2;obtain⟨z0,z1,z2,z3⟩:=Hz.out.c4;replace Hb:=ak Hb ae;clear ae;have HP:Hid (cZ W7 a' c' (dM V c l k)):=Hp.out.below Hb.out;have HS:Hid (cZ W7 a5 d5 (cp [(dQ V k,canon X)])):=Hp6.out.below (by first|exact zl| (rw[<-aho];exact zl));go_wp2_with fail;clear P0 P1 Q0 Q1;go_wp2_with fail;refine(Jh.out _ _ _ _ _ (aH iu.out Hb.out) _ Hz.out HP.out HS.out).mono ?_;rintro e w8 ⟨a8,d8,rfl,Wl,ae⟩;clear o0 gX o1 gY v0 v1 z0 z1 z2 z3;replace Ho:=kB Ho ae;replace Hv:=kB Hv ae;replace Hz:=kB Hz ae;replace HP:=af (HP.out.below ae);replace HS:=af (HS.out.below ae);obtain⟨o0,gX,o1,gY⟩:=Ho.out.g2;obtain⟨v0,v1⟩:=Hv.out.c2;obtain⟨z0,z1,z2,z3⟩:=Hz.out.c4;replace Hb:=ak Hb ae;clear ae;have VF:=cZ.store Wl Ho.out zd (.int .i64 (V:Int)) (.slice a8 n3 d8);obtain⟨Hl8,qT⟩:=aI VF (aH aZ.out Hb.out);clear Wl VF;go_wp2;go_roundw;case rel=>exact⟨k+1,a8,n3,d8,by omega,by go_num,rfl,Kg.out,(Ho.out.set 0 _).set 1 _,Hl8.out,(qT.out.setCell (Nat.le_refl _) _).setCell (Nat.le_refl _) _⟩
    case measure=>simp[intOf];omega
  . obtain rfl:k=V:=by omega
    have Hr:=af (lU.out.below aZ.out);have Hb:Hid (Bw w wr):=aH eK.out aZ.out;have hsz:=lU.out.lt;obtain⟨o0,o1⟩:=Ho.out.c2;obtain⟨r0,ag,r1,ah⟩:=Hr.out.g2;go_wp2;have jO:=Hp.out.store Hr.out zd (.int .i64 (k:Int)) (.slice a' n' c');refine dx (λw9=>cZ w9 a' c' (dM k c l k)/\aj w9 (w.heap.size+1) 91 [.int .i64 (k:Int),.slice a' n' c']/\Bw w w9) ⟨jO,(Hr.out.set 0 _).set 1 _,(Hb.out.setCell zp _).setCell zp _⟩ ?_;rintro w9 ⟨q1,q2,q3⟩;obtain⟨x0,x1⟩:=q2.c2;exact bodyPost_ret (v:=.tuple #[.agg #[.int .i64 (k:Int),.slice a' n' c'],.int .i64 0]) (by simp[results,Tryz.results99,go_sem,x0,x1]) rfl ⟨a',c',by rw[hn],q1,q3⟩
end Go.Proofs.YtoopepmmepmfnaaGreatDoor
namespace Go.Proofs.YtoopepmmepmfnaaGreatDoor
open Go.RowKit
def mH (n:Nat)(P:Nat->Nat->Dyadic)(i:Nat):List aO:=dM n (wC n P i) (λk=>jH n P k i) n
def xm (n:Nat)(P:Nat->Nat->Dyadic)(i:Nat):List aO:=cp (fy (-1) (mH n P i))
def jN (n:Nat)(P:Nat->Nat->Dyadic)(i:Nat):List aO:=dM n (wZ n P (λ_=>0) i) (λb=>lZ n P b i) n
def gw (n:Nat)(P:Nat->Nat->Dyadic)(i j:Nat):List aO:=if j=0 then jN n P i else mH n P (j-1)
def kY (n:Nat)(P:Nat->Nat->Dyadic)(i k:Nat):List Dyadic:=(List.range k).map λk=>jH n P k i
theorem afp (n:Nat)(P:Nat->Nat->Dyadic)(i k:Nat):(kY n P i k).length=k:=by simp[kY]
theorem afo (n:Nat)(P:Nat->Nat->Dyadic)(i k j:Nat)(h:j<(kY n P i k).length):(kY n P i k)[j]=jH n P j i:=by simp[kY]
theorem afq (n:Nat)(P:Nat->Nat->Dyadic)(i k:Nat):kY n P i (k+1)=kY n P i k++[jH n P k i]:=by unfold kY;rw[List.range_succ,List.map_append];rfl
theorem am6 (n:Nat)(P:Nat->Nat->Dyadic)(i k:Nat):wS n P (λ_=>0) i k-P 0 k*jH n P k i=wS n P (λ_=>0) i (k+1):=by
 show _=wS n P (λ_=>0) i k+(0-P 0 k) *jH n P k i
 grind
theorem agy (n:Nat)(P:Nat->Nat->Dyadic)(l:Nat->Dyadic):dM n (wZ n P (λ_=>0) 0) l 0=jN n P 0:=by
 unfold jN dM;refine yw (λm=>?_);have h:∀k,cB (gA n (wZ n P (λ_=>0) 0) (λb=>lZ n P b 0) k) m=cB (gA n (wZ n P (λ_=>0) 0) l 0) m:=by
  intro k;induction k with
  |zero=>rfl
  |succ k ih=>rw[EK,ih];simp[lZ]
 exact(h n).symm
theorem agx (n:Nat)(hn:1<=n)(cM:n<=4)(P:Nat->Nat->Dyadic)(i:Nat)(hi:i<n):cp (jN n P i++xm n P i)=jN n P (i+1):=by
 unfold jN xm mH;rw[aiW];have:wZ n P (λ_=>0) i-wC n P i=wZ n P (λ_=>0) (i+1):=by unfold wC;rw[ZZ n hn cM P _ i hi];rfl
 rw[this];rfl
theorem PS {B n:Nat}:∀b,b<n->Sm B ((λ_=>0:Nat->Dyadic) b):=λ_ _=>Sm.zero _
theorem ZV {B n:Nat}{P:Nat->Nat->Dyadic}(hn:1<=n)(cM:n<=4)(h:∀a b,a<=n->b<n->Sm B (P a b))(i:Nat):Sm (5*B+20) (wC n P i):=(PL hn cM h PS i n (Nat.le_refl _)).mono zo
theorem aiI {B n:Nat}{P:Nat->Nat->Dyadic}(hn:1<=n)(cM:n<=4)(h:∀a b,a<=n->b<n->Sm B (P a b))(b i:Nat):Sm (4*B+11+i) (lZ n P b i):=by
 induction i with
 |zero=>exact Sm.zero _
 |succ i ih=>exact(Sm.sub ih ((EB hn cM h b i).mono zo)).mono zo
theorem Xh {B n:Nat}{P:Nat->Nat->Dyadic}(hn:1<=n)(cM:n<=4)(h:∀a b,a<=n->b<n->Sm B (P a b))(hB:B<=1000000)(i:Nat):jC n (5*B+33) (mH n P i):=
 Oc (B:=5*B+20) zo (Nat.le_refl _) (ZV hn cM h i) (λj _=>(EB hn cM h j i).mono zo) zo
theorem agv {B n:Nat}{P:Nat->Nat->Dyadic}(hn:1<=n)(cM:n<=4)(h:∀a b,a<=n->b<n->Sm B (P a b))(hB:B<=1000000)(i:Nat)(hi:i<=n):jC n (5*B+33) (jN n P i):=
 Oc (B:=5*B+20) zo (Nat.le_refl _) ((anf hn cM h PS i hi).mono zo) (λj _=>(aiI hn cM h j i).mono zo) zo
theorem Xk (n:Nat)(c:Dyadic)(l:Nat->Dyadic)(k:Nat):(dM n c l k).length<=k+1:=by have:=Bq (gA n c l k);rw[zq]at this;exact this
theorem Xi (n:Nat)(P:Nat->Nat->Dyadic)(i:Nat):(mH n P i).length<=n+1:=Xk _ _ _ _
theorem agw (n:Nat)(P:Nat->Nat->Dyadic)(i:Nat):(jN n P i).length<=n+1:=Xk _ _ _ _
theorem akj (n:Nat)(P:Nat->Nat->Dyadic)(i:Nat):(xm n P i).length<=n+1:=by have h:=Bq (fy (-1) (mH n P i));have h2:=Xi n P i;unfold fy at h;rw[List.length_map]at h;unfold xm fy;omega
theorem aki {B n:Nat}{P:Nat->Nat->Dyadic}(hn:1<=n)(cM:n<=4)(h:∀a b,a<=n->b<n->Sm B (P a b))(hB:B<=1000000)(i:Nat):jC n (5*B+40) (xm n P i):=by
 have hf:=Xh hn cM h hB i;have hl:=Xi n P i;have hsl:(fy (-1) (mH n P i)).length=(mH n P i).length:=by unfold fy;rw[List.length_map]
 refine(LS (V:=n) (B:=5*B+35) (l:=fy (-1) (mH n P i)) zo ?_ zo ?_ zo).mono zo
 . intro t ht;unfold fy at ht;obtain⟨x,hx,rfl⟩:=List.mem_map.1 ht;exact hf.1.2.1 x hx
 . intro t ht;unfold fy at ht;obtain⟨x,hx,rfl⟩:=List.mem_map.1 ht;show Sm _ (ar (canon (ar x.2* -1)))
   rw[bL];exact(Sm.mul (hf.2 x hx).2 (Sm.neg Sm.one)).mono zo
theorem alb (ps:List Pv)(V:Int)(a:Option Addr)(n c:Nat):(((ps.flatMap jm).set 0 (.int .i64 V)).set 1 (.slice a n c))=(ps.set 0 ⟨V,a,n,c⟩).flatMap jm:=by
 cases ps with
 |nil=>rfl
 |cons p ps=>rfl
theorem ak6 {W:World}{V B:Nat}{ps:List Pv}{Ts:Nat->List aO}{a:Option Addr}{c:Nat}{C:List aO}(h:gD W V B ps Ts)(hT:Ts ps.length=C)(hp:cZ W a c C)(hf:jC V B C):gD W V B (ps++[⟨(V:Int),a,C.length,c⟩]) Ts:=by
 intro k hk;by_cases hl:k<ps.length
 . obtain⟨a',c',h1,h2,h3⟩:=h k hl;exact⟨a',c',by rw[List.getElem_append_left hl];exact h1,h2,h3⟩
 . have e:k=ps.length:=by simp at hk;omega
   subst e;exact⟨a,c,by simp[hT],by rw[hT];exact hp,by rw[hT];exact hf⟩
theorem ak7 {W:World}{V B:Nat}{ps:List Pv}{Ts Ts':Nat->List aO}{a:Option Addr}{c:Nat}{C:List aO}(h:gD W V B ps Ts)(hs:∀j,0<j->Ts' j=Ts j)(h0:Ts' 0=C)(hp:cZ W a c C)(hf:jC V B C):gD W V B (ps.set 0 ⟨(V:Int),a,C.length,c⟩) Ts':=by
 intro k hk;rw[List.length_set]at hk;rcases k with _|k
 . exact⟨a,c,by simp[h0],by rw[h0];exact hp,by rw[h0];exact hf⟩
 . obtain⟨a',c',h1,h2,h3⟩:=h (k+1) hk;rw[<-hs (k+1) zo]at h1 h2 h3;exact⟨a',c',by simp[h1],h2,h3⟩
theorem gD.off {W:World}{V B:Nat}{ps:List Pv}{Ts:Nat->List aO}{g:Nat}{cur:Array Value}{t:TypeId}(h:gD W V B ps Ts)(hg:W.heap[g]?=some (.cells cur t))(ht:t≠93)(i:Nat)(u:Value):gD (W.setCell ⟨g,i,none⟩ u) V B ps Ts:=λk hk=>by obtain⟨a,c,h1,h2,h3⟩:=h k hk;exact⟨a,c,h1,h2.off hg ht i u,h3⟩
theorem Yk {w:World}{base:Nat}{e:TypeId}{size n cap g:Nat}{xs:List Value}(h:w.ownsRow base e size (.slice (some ⟨g,0,none⟩) n cap) n xs):∃cur,w.heap[g]?=some (.cells cur e):=by
 rcases h.2 with⟨h1,_⟩ |⟨g',cap',cur,h1,hb,hg,_⟩
 . simp at h1
 . simp only[Value.slice.injEq,Option.some.injEq,Addr.mk.injEq,and_true,true_and]at h1;obtain⟨rfl,rfl⟩:=h1;exact⟨cur,hg⟩
theorem cZ.grown {w w':World}{r:Option Nat}{a:Option Addr}{c:Nat}{C:List aO}(h:cZ w a c C)(hg:w.grownBy w' r)(hr:∀g,r=some g->∃cur t,w.heap[g]?=some (.cells cur t)/\t≠93):cZ w' a c C:=by
 refine⟨?_,h.2.1,?_⟩
 . rcases h.2.2 with h'|⟨b,o,cur',rfl,h2⟩
   . subst h';exact .inl rfl
   . have hne:some b≠r:=λe=>by obtain⟨cur,t,h3,h4⟩:=hr b e.symm;rw[h3]at h2;simp at h2;exact h4 h2.2
     rcases h.1 with h1|⟨b1,o1,e1,hc⟩
     . exact .inl h1
     . simp only[Option.some.injEq,Addr.mk.injEq,and_true]at e1;obtain⟨rfl,rfl⟩:=e1;refine .inr ⟨b,o,rfl,λj hj=>?_⟩;have h9:=hc j hj;rw[<-h9];have hk:=hg.block b (Array.getElem?_eq_some_iff.1 h2).1 hne;simp only[World.cell?,hk]
 . rcases h.2.2 with h'|⟨b,o,cur',rfl,h2⟩
   . exact .inl h'
   . have hne:some b≠r:=λe=>by obtain⟨cur,t,h3,h4⟩:=hr b e.symm;rw[h3]at h2;simp at h2;exact h4 h2.2
     exact .inr ⟨b,o,cur',rfl,by rw[hg.block b (Array.getElem?_eq_some_iff.1 h2).1 hne];exact h2⟩
theorem gD.grown {W w':World}{V B:Nat}{ps:List Pv}{Ts:Nat->List aO}{r:Option Nat}(h:gD W V B ps Ts)(hg:W.grownBy w' r)(hr:∀g,r=some g->∃cur t,W.heap[g]?=some (.cells cur t)/\t≠93):gD w' V B ps Ts:=λk hk=>by obtain⟨a,c,h1,h2,h3⟩:=h k hk;exact⟨a,c,h1,h2.grown hg hr,h3⟩
theorem akG {w:World}{base:Nat}{e:TypeId}{size n:Nat}{v:Value}{xs:List Value}(h:w.ownsRow base e size v n xs):∀g,v.ownBlock=some g->∃cur t,w.heap[g]?=some (.cells cur t)/\t=e:=by
 intro g hg;rcases h.2 with⟨rfl,_⟩ |⟨g',cap',cur,rfl,_,hg2,_⟩
 . simp[Value.ownBlock]at hg
 . have:g'=g:=by simpa[Value.ownBlock]using hg
   subst this;exact⟨cur,e,hg2,rfl⟩
theorem Tryz.arV :(Tryz.prog.info? 91).map (λi=>(i.zero,i.size,i.bytes))=some (some (.agg #[.int .i64 0,.slice none 0 0]),2,32):=by kernel_rfl
end Go.Proofs.YtoopepmmepmfnaaGreatDoor
