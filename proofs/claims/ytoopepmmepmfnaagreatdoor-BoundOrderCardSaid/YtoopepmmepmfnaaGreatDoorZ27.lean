/- Package slices: Clone,Delete,over numbers. -/
import Derived.Test.YtoopepmmepmfnaaGreatDoorZ13
import Derived.Lib.SliceRun
import Derived.Test.YtoopepmmepmfnaaGreatDoorZ26
import Derived.Test.YtoopepmmepmfnaaGreatDoorZ12
import Derived.Test.YtoopepmmepmfnaaGreatDoorZ14
import Derived.Test.YtoopepmmepmfnaaGreatDoorZ23
set_option linter.unusedVariables false
set_option linter.unusedSimpArgs false
set_option maxRecDepth 100000
set_option maxHeartbeats 16000000
namespace Go.Proofs.YtoopepmmepmfnaaGreatDoor
open Go.RowKit
attribute [local go_sem ↓] Go.wp_at_zero Go.wp_at_succ
theorem aff (a:Option Addr)(n cap:Nat)(ey:List Raw)(w:World)(hn:ey.length=n)(hl:n<=1048576)(hs:a=none->n=0/\cap=0)(ha:At w a (ey.flatMap cg)):
 Calls Tryz.prog 209 #[.slice a n cap] w λe w'=>∃v',e=.returned v'/\w'.ownsRow w.heap.size 39 3 v' n (ey.flatMap cg)/\Bw w w':=by
 obtain⟨i0,hi,hz0,hz1,hz2⟩:=info_parts Tryz.ark;have q:=λ(w:World) (a:Option Addr) (n c n' c':Nat)=>Lib.run_eql_slice_nil (P:=Tryz.prog) w 49 39 a n c n' c' Tryz.underlying49;have hlen:(ey.flatMap cg).length=n*3:=by rw[lM cg 3 (λ_=>rfl),hn]
 obtain⟨cs,hcs⟩:=aB (ey.flatMap cg);have h1:=GR ey;rw[hcs]at hlen ha h1⊢;obtain⟨jQ,Ha,H1,Hs,Hi,eF,eG,dL⟩:=mo hlen ha h1 hs hi hz0 hz1 hz2;clear hlen ha h1 hs hi hz0 hz1 hz2 hn hcs;cases a with
 |none=>obtain⟨hn0,hc⟩:=Hs.out rfl;subst hc;subst hn0;go_enter Tryz.func209,Tryz.ntmps209;go_wp2;go_ret;refine⟨_,rfl,?_,Below.refl _ _⟩;have e:cs=[]:=List.eq_nil_of_length_eq_zero (by have:=jQ.out;omega);rw[e];exact World.ownsRow_nil _ _ _ _
 |some ad=>go_enter Tryz.func209,Tryz.ntmps209;go_wp2_with (at_builtin;refine IC rfl _ _ 49 rfl w.heap.size 39 i0 _ 3 32 Tryz.underlying49 Hi.out eF.out eG.out dL.out rfl zd _ 0 [] rfl (World.ownsRow_made w #[] 0 (Nat.le_refl _) (Nat.zero_le _) zm) (some ad) n cap cs rfl Hs.out jQ.out (Ha.out.below ((Below.refl _ w).alloc (Nat.le_refl _) _)) H1.out zx zo zm ?_;intro v' w1 hown hgrow kg);go_ret;refine⟨v',rfl,by simpa using hown,?_⟩;exact((Below.refl _ w).alloc (Nat.le_refl _) _).grown hgrow zm (λk hk=>by have h9:w.heap.size=k:=Option.some.inj hk;omega)
theorem Tryz.art (w:World):(zeroValue 39).run Tryz.prog w=.ok (.agg #[.bool false,.string ⟨#[]⟩,.int .i64 0]) w:=by kernel_rfl
theorem agi {α:Type}(f:α->List Value)(sz:Nat)(hf:∀x,(f x).length=sz)(xs:List α)(i:Nat)(hi:i<xs.length):(xs.eraseIdx i).flatMap f=(xs.flatMap f).take (i*sz)++(xs.flatMap f).drop ((i+1) *sz):=by
 have e:xs=xs.take i++xs[i]::xs.drop (i+1):=by rw[List.getElem_cons_drop,List.take_append_drop]
 have hl:((xs.take i).flatMap f).length=i*sz:=by rw[lM f sz hf,List.length_take,Nat.min_eq_left zo]
 have e1:xs.flatMap f=(xs.take i).flatMap f++(f xs[i]++(xs.drop (i+1)).flatMap f):=by
  conv=>lhs;rw[e]
  rw[List.flatMap_append,List.flatMap_cons]
 rw[e1,List.take_left' hl,List.drop_append,hl,List.drop_of_length_le (by rw[hl,Nat.add_mul];omega)];rw[show(i+1) *sz-i*sz=sz by rw[Nat.add_mul,Nat.one_mul];omega,List.nil_append,List.drop_left' (hf _),List.eraseIdx_eq_take_drop_succ,List.flatMap_append]
theorem afK (g m cap i base:Nat)(ey:List Raw)(w:World)(hn:ey.length=m+1)(hl:m<=1048576)(hi:i<=m)
 (ho:w.ownsRow base 39 3 (.slice (some ⟨g,0,none⟩) (m+1) cap) (m+1) (ey.flatMap cg)):
 Calls Tryz.prog 208 #[.slice (some ⟨g,0,none⟩) (m+1) cap,.int .i64 (i:Int),.int .i64 ((i+1:Nat):Int)] w λe w'=>e=.returned (.slice (some ⟨g,0,none⟩) m cap)/\
  w'.ownsRow base 39 3 (.slice (some ⟨g,0,none⟩) m cap) m ((ey.eraseIdx i).flatMap cg)/\w.grownBy w' (some g):=by
 obtain⟨i0,hi0,hz0,hz1,hz2⟩:=info_parts Tryz.ark;have hcap:m+1<=cap:=(xp ho).1;have hcm:cap<=9223372036854775807:=by
  rcases ho.2 with⟨h1,_⟩ |⟨g',cap',cur,h1,hb,hg,h4,h5,_⟩
  . simp at h1
  . simp only[Value.slice.injEq]at h1;obtain⟨_,_,rfl⟩:=h1;unfold maxLen at h5;omega
 have FT:=agi cg 3 (λ_=>rfl) ey i zo;have hlen:(ey.flatMap cg).length=(m+1) *3:=by rw[lM cg 3 (λ_=>rfl),hn]
 have h1:=GR ey;obtain⟨cs,hcs⟩:=aB (ey.flatMap cg);obtain⟨rs,hrs⟩:=aB ((ey.eraseIdx i).flatMap cg);rw[hcs]at hlen ho h1 FT;rw[hrs]at FT⊢;have yY:=XY ho i zo;obtain⟨ad,had⟩:=aB (if cap=i+1 then(⟨g,0,none⟩:Addr)else⟨g,(i+1) *3,none⟩);have hsl:(if cap=i+1 then some (⟨g,0,none⟩:Addr)else some ⟨g,(i+1) *3,none⟩)=some ad:=by rw[<-had];split<;>rfl
 have hnews:Hid (∀j u,(cs.drop ((i+1) *3))[j]?=some u->w.drew.cell? (ad.add j)=some u):=by
  intro j u hj;rw[List.getElem?_drop]at hj;have hlt:=(List.getElem?_eq_some_iff.1 hj).1;have FH:¬cap=i+1:=by omega
  rw[if_neg FH]at had;subst had;have e2:((⟨g,(i+1) *3,none⟩:Addr).add j)=⟨g,(i+1) *3+j,none⟩:=by unfold Addr.add;cases j<;>simp
  rw[e2];have:=ho.cells (g:=g) rfl ((i+1) *3+j) u hj;have e3:((⟨g,0,none⟩:Addr).add ((i+1) *3+j))=⟨g,(i+1) *3+j,none⟩:=by unfold Addr.add;split<;>simp;omega
  rw[e3]at this;exact this
 have hnl:Hid ((cs.drop ((i+1) *3)).length=(m-i) *3):=by show _=_;rw[List.length_drop,hlen];omega
 have dY:Hid (∀u∈cs.drop ((i+1) *3),u.oneCell'=true):=λu hu=>h1 u (List.mem_of_mem_drop hu);have QQ:Hid (w.drew.ownsRow base 39 3 (.slice (some ⟨g,0,none⟩) i cap) i (cs.take (i*3))):=yY;obtain⟨abG,aci,JR,oJ,Hi,eG⟩:=iK FT hnews.out hnl.out dY.out hi0 hz1;have z:=Tryz.art;clear hnews hnl dY ho yY hlen h1 FT hcs hrs hn hi0 hz0 hz1 hz2;have hw1:IntKind.i64.wrap ((i:Int)+1)=((i+1:Nat):Int):=by rw[IntKind.wrap_i64];omega
 have hne:((i:Int)==((i+1:Nat):Int))=false:=by simp;omega
 have hcm2:¬cap=m:=by omega
 have jI:i+1<=m+1:=by omega
 have hmc:i+1<=cap:=by omega
 have hic:i<=cap:=by omega
 have h0i:(0:Int)<=(i:Int)+1:=by omega
 clear had;go_enter Tryz.func208,Tryz.ntmps208;go_wp2_with fail;have Hb:Hid (Bw w w):=Below.refl _ _;refine cd (λw'=>True) (λi=>Nat.blt i 100000) [(0,true),(1,true),(2,true),(3,true),(4,true),(5,true),(6,false),(7,true)] zk zk rfl zk zc True.intro ?_;iterate 6 (refine pT rfl rfl ?_;try simp only[UU])
 refine aC rfl rfl (λK hK=>?_);refine wp_append_own_spare _ _ _ 49 rfl base 39 i0 3 Tryz.underlying49 Hi.out eG.out g i cap (cs.take (i*3)) rfl QQ.out ad (m-i) (cap-(i+1)) (cs.drop ((i+1) *3)) rfl JR.out aci.out oJ.out zo ?_;intro w1 fO hg1;refine hK _ _ (λ_=>True.intro) ?_;clear hK K;try simp only[UU]
 refine pT rfl rfl ?_;try simp only[Act.put,U1,U2]
 simp only[aV];have e9:i+(m-i)=m:=by omega
 rw[e9,<-abG.out]at fO;obtain⟨w2,hcl,dZ,hg2⟩:=YD w1 49 39 _ 3 Tryz.underlying49 Tryz.art rfl (by intro v hv;simp[Value.cells]at hv;rcases hv with rfl|rfl|rfl<;>rfl) g m 1 cap (cap-m) base rs fO zo;have AP:=af dZ;have qQ:Hid (w.grownBy w2 (some g)):=grownBy_trans ⟨hg1.os,hg1.tape,hg1.output,hg1.size,hg1.block⟩ hg2;clear fO hg1 dZ hg2 QQ hsl;go_wp2;go_ret;exact⟨rfl,AP.out,qQ.out⟩
theorem agj (l:List Dyadic)(c:Nat):(l.map canon).eraseIdx c=(l.eraseIdx c).map canon:=by apply List.ext_getElem?;intro i;rw[List.getElem?_eraseIdx,List.getElem?_map,List.getElem?_map,List.getElem?_map,List.getElem?_eraseIdx];split<;>rfl
theorem am4 (a:Option Addr)(cap m r c:Nat)(R:List (List Dyadic))(w:World)(hL:R.length=m+1)(hrow:∀x∈R,x.length=m+1)(hr:r<=m)(hc:c<=m)(hm:m<=7)(ha:cE w a (R.map λx=>x.map canon)):
 Calls Tryz.prog 184 #[.slice a (m+1) cap,.int .i64 (r:Int),.int .i64 (c:Int)] w λe w'=>∃a' c',e=.returned (.slice a' m c')/\m<=c'/\cE w' a' ((jp R r c).map λx=>x.map canon)/\Bw w w':=by
 obtain⟨j0,hj,hy0,hy1,hy2⟩:=info_parts Tryz.aro;obtain⟨S,hS⟩:=aB (jp R r c);have jW:=Xx R r c m hL hr;have rB:=Xy R r c m hrow hc;have LU:=Xw R r c m hL hr;rw[hS]at jW rB LU⊢;have CF:∀(W:World) (k:Nat) (hk:k<m+1),Bw w W->∃b o a1 c1,∃x:List Dyadic,R.getD k []=x/\x.length=m+1/\a=some ⟨b,o,none⟩/\W.cell? ⟨b,o+k,none⟩=some (.slice (some a1) (m+1) c1)/\At W (some a1) ((x.map canon).flatMap cg):=by
  intro W k hk hb;have Vm:k<R.length:=by omega
  obtain⟨b,o,a1,c1,h1,h2,h3⟩:=(ha.below hb).row k (by simp[hL];omega);have e1:(R.map λx=>x.map canon)[k]'(by simp[hL];omega)=R[k].map canon:=by simp
  have hxl:=hrow _ (List.getElem_mem Vm);rw[e1]at h2 h3;rw[List.length_map,hxl]at h2;cases a1 with
  | none=>
    rcases h3 with h3|⟨_,_,h3,_⟩
    . have:=congrArg List.length h3;rw[lM cg 3 (λ_=>rfl),List.length_map,hxl]at this;simp at this
    . cases h3
  |some a1=>exact⟨b,o,a1,c1,R[k],by simp[List.getD_eq_getElem?_getD,Vm],hxl,h1,h2,h3⟩
 obtain⟨Hj,lJ,oP,oQ,IQ,HSr,aaM,acQ⟩:=mo hj hy0 hy1 hy2 jW rB LU CF;clear hj hy0 hy1 hy2 jW rB LU CF hS ha hL hrow;have Hb:Hid (Bw w w):=Below.refl _ _;go_enter Tryz.func184,Tryz.ntmps184;go_wp2_with fail;go_loopw[7,12] (λs7 x wr=>∃(k:Nat) (v:Value),k<=m+1/\x=.int .i64 (k:Int)/\v=s7/\Own2 49 wr w.heap.size S (if k<=r then k else k-1) v/\Bw w wr) (λ_ x _=>m+1-(intOf x).toNat);case atStart=>exact⟨0,_,Nat.zero_le _,rfl,rfl,by rw[if_pos (Nat.zero_le _)];exact Own2.nil _ _ _ _,Hb.out⟩
 case round=>
  clear Hb;obtain⟨k,v,hk,rfl,rfl,pv,pb⟩:=hrel;by_cases hlt:k<m+1
  . obtain⟨b,o,a1,c1,x,mf,hxl,rfl,hc1,hat⟩:=acQ.out wr k hlt pb;have bD:=zn (m+1) cap k (k:Int) (rfl:(some ⟨b,o,none⟩:Option Addr)=_) hlt rfl;rw[Nat.mul_one]at bD;by_cases hkr:k=r
    . subst hkr;obtain⟨cQ,aY⟩:=aI pv pb;clear pv pb mf hxl hat;have h3:((k:Int) !=(k:Int))=false:=by simp
      go_wp2;go_roundw;case rel=>exact⟨k+1,v,by omega,by go_num,rfl,by have h:=cQ.out;rw[if_pos (Nat.le_refl _)]at h;rw[if_neg zo];exact h,aY.out⟩
      case measure=>simp[intOf];omega
    . have h3:((k:Int) !=(r:Int))=true:=by simp;omega
      have h4:¬(k:Int)=(r:Int):=by omega
      obtain⟨j,hj⟩:=aB (if k<=r then k else k-1);have sS:(if k+1<=r then k+1 else k+1-1)=j+1:=by rw[<-hj];split<;>split<;>omega
      have hjm:j<m:=by rw[<-hj];split<;>omega
      have Vi:(if j<r then j else j+1)=k:=by rw[<-hj];split<;>split<;>omega
      have LV:S.getD j []=x.eraseIdx c:=by rw[aaM.out j hjm,Vi,mf]
      rw[hj]at pv;obtain⟨Z,hZ⟩:=aB (x.eraseIdx c);have Ud:Z.length=m:=by rw[<-hZ,List.length_eraseIdx_of_lt zo];omega
      rw[hZ]at LV
      -- the row,without its number
      have Ci:∀W,Bw wr W->Calls Tryz.prog 209 #[.slice (some a1) (m+1) c1] W λe w'=>∃g cc,e=.returned (.slice (some ⟨g,0,none⟩) (m+1) cc)/\(wr.heap.size<=g/\∀W',Bw wr W'->w'=W'->Calls Tryz.prog 208 #[.slice (some ⟨g,0,none⟩) (m+1) cc,.int .i64 (c:Int),.int .i64 ((c:Int)+1)] W' λe w''=>e=.returned (.slice (some ⟨g,0,none⟩) m cc)/\w''.ownsRow wr.heap.size 39 3 (.slice (some ⟨g,0,none⟩) m cc) m (dC Z)/\Bw wr w'')/\Bw W w':=by intro W hW;refine(aff (some a1) (m+1) c1 (x.map canon) W (by rw[List.length_map,hxl]) zo (λe=>by cases e) (hat.below hW)).mono ?_;rintro e w' ⟨v',rfl,ho,hb⟩;obtain⟨g,cc,rfl,hg1,hg2,hg3⟩:=xo ho zo;have hsz:=hW.size;refine⟨g,cc,rfl,⟨by omega,λW' hW' e=>?_⟩,hb⟩;subst e;have hd:=afK g m cc c wr.heap.size (x.map canon) w' (by rw[List.length_map,hxl]) zo hc (xq ho zo);rw[show((c+1:Nat):Int)=(c:Int)+1 by omega]at hd;refine hd.mono ?_;rintro e w'' ⟨rfl,dZ,hg⟩;rw[agj,hZ,<-BA]at dZ;exact⟨rfl,dZ,hW'.grown hg hW'.size (λi e=>by have h9:g=i:=Option.some.inj e;omega)⟩
      obtain⟨DT,PV,xN,cQ,aY,Hj1⟩:=iK Ci LV Ud pv pb sS;clear Ci LV Ud hZ pv pb sS Vi hj mf hxl hat;have lh:=aY.out.size;have hwc:IntKind.i64.wrap ((c:Int)+1)=((c+1:Nat):Int):=by rw[IntKind.wrap_i64];omega
      have FH:(c:Int)+1=((c+1:Nat):Int):=by omega
      obtain⟨Kn,Hci⟩:=aI hwc FH;clear hwc FH;go_wp2_with fail;refine(DT.out _ (Below.refl _ _)).mono ?_;rintro e w4 ⟨g,cc,rfl,⟨hg1,hdel⟩,hb4⟩;have Qm:=af (hdel w4 hb4 rfl);clear hdel hc1 bD;go_wp2_with fail;refine Qm.out.mono ?_;rintro e w5 ⟨rfl,MH,cP⟩;have gX:=MH.lt;obtain⟨a2,c2,UI,jF,_⟩:=ej MH;simp only[Value.slice.injEq,true_and]at UI;obtain⟨rfl,rfl⟩:=UI;obtain⟨vals,hvl,hov,ol⟩:=cQ.out.below cP;obtain⟨_,_,uF,_⟩:=cQ.out;have hvs:=uF.lt;have hin:∀b o,(some ⟨g,0,none⟩:Option Addr)=some ⟨b,o,none⟩->some b≠v.ownBlock/\b<w5.heap.size:=by intro b o e;simp only[Option.some.injEq,Addr.mk.injEq,and_true]at e;obtain⟨rfl,rfl⟩:=e;have h1:=gX g rfl;refine⟨λh2=>?_,h1.2⟩;have h3:=hvs g h2.symm;omega
      obtain⟨tW,nC,sw,vT,dW,fC⟩:=iK hin jF hvl ol hov (aH aY.out cP);have OT:=cP.size;clear hin jF hvl ol hov uF hvs gX MH cP hb4 Qm DT hg1;have Hb:Hid (Bw w5 w5):=Below.refl _ _;obtain⟨W6,nX,ae,Hd⟩:=cf w5 49 [.slice (some ⟨g,0,none⟩) m cc];have d0:=Hd.out.c1;replace Hb:=ak Hb ae;clear ae;have cV:=ownsRow_below dW.out Hb.out;have kj:=Hb.out.size;have hnews:∀i u,([.slice (some ⟨g,0,none⟩) m cc]:List Value)[i]?=some u->W6.cell? ((⟨w5.heap.size,0,none⟩:Addr).add i)=some u:=jh Hd.out;clear d0;go_wp2_with (at_builtin;refine wpList_append_own_at _ rfl _ _ 124 rfl w.heap.size 49 j0 _ 1 24 Tryz.underlying124 Hj.out lJ.out oP.out oQ.out rfl zd v j vals rfl cV ⟨w5.heap.size,0,none⟩ 1 1 [.slice (some ⟨g,0,none⟩) m cc] rfl rfl hnews zy zx zo zo ?_;intro v' w7 eU fu _ kg;obtain⟨g',nM,rfl⟩:=ownsRow_succ eU);go_roundw;case rel=>
       refine⟨k+1,_,by omega,by go_num,rfl,?_,?_⟩
       . rw[Hj1.out];refine Own2.push (a:=some ⟨g,0,none⟩) (c:=cc) sw.out (w:=W6) ?_ ?_ ?_ ?_ fu kg
         . intro i h;obtain⟨a,c,h1,h2,h3⟩:=vT.out i h;exact⟨a,c,h1,h2.below Hb.out,λb o e=>⟨(h3 b o e).1,Nat.lt_of_lt_of_le (h3 b o e).2 kj⟩⟩
         . rw[PV.out];exact nC.out.below Hb.out
         . exact λb o e=>⟨(tW.out b o e).1,Nat.lt_of_lt_of_le (tW.out b o e).2 kj⟩
         . rw[PV.out,xN.out];exact eU
       . exact(aH fC.out Hb.out).grown fu zo (λj e=>eI cV j e)
      case measure=>simp[intOf];omega
  . obtain rfl:k=m+1:=by omega
    rw[if_neg zo,Nat.add_sub_cancel]at pv;obtain⟨a2,c2,rfl,hcl,pS⟩:=Own2.ars pv IQ.out;obtain⟨yg,aY⟩:=aI pS pb;clear pv pb pS;go_wp2;refine bodyPost_ret (results_tmp rfl _ _ _) rfl ⟨a2,c2,rfl,hcl,yg.out,aY.out⟩
theorem aek (a:Option Addr)(c:Nat)(w:World):Calls Tryz.prog 143 #[.slice a 0 c] w λe w'=>e=.returned (bZ 1)/\Bw w w':=by
 have Hb:Hid (Bw w w):=Below.refl _ _;go_enter Tryz.func143,Tryz.ntmps143;go_wp2_with fail;obtain⟨R,hR⟩:∃R:World->Prop,(λW=>aj W (w.heap.size) 32 [.bool false,.string ⟨#[]⟩]/\Bw w W)=R:=⟨_,rfl⟩;first|refine bP R ?hR ?_|refine bO R ?hR ?_
 case hR=>subst hR;exact⟨(aj.newAt w _ _ (b:=w.heap.size) rfl),zl⟩
 subst hR;rintro W ⟨qr,ae⟩;have Hr:=af qr;clear qr;obtain⟨r0,ag,r1,ah⟩:=Hr.out.g2;replace Hb:=ak Hb ae;clear ae;go_wp2_with fail;refine(Ph 1 _ zd zd).mono ?_;rintro e w1 ⟨rfl,ae⟩;clear r0 ag r1 ah;replace Hr:=kB Hr ae;obtain⟨r0,ag,r1,ah⟩:=Hr.out.g2;replace Hb:=ak Hb ae;clear ae;have ov:=Hr.out.lt;obtain⟨W2,lQ,ae,Hl⟩:=cf w1 32 [.bool (ai 1),.string (bs (nt 1))];clear r0 ag r1 ah;replace Hr:=kB Hr ae;obtain⟨r0,ag,r1,ah⟩:=Hr.out.g2;obtain⟨l0,l1⟩:=Hl.out.c2;replace Hb:=ak Hb ae;clear ae;go_wp2_with fail;go_loop [5,15] (λt x=>t=.bool false/\x=.int .i64 0) (λ_ _=>0)
 case atStart=>exact⟨rfl,rfl⟩
 case round=>obtain⟨rfl,rfl⟩:=hrel;go_wp2;clear r0 ag r1 ah l0 l1;refine dw (aW W2 (w.heap.size) 0 [.bool (ai 1),.string (bs (nt 1))]) bi ?_;intro w9 hs;replace Hr:=bF Hr hs;replace Hl:=kS Hl hs zo;obtain⟨r0,ag,r1,ah⟩:=Hr.out.g2;obtain⟨l0,l1⟩:=Hl.out.c2;replace Hb:=bS Hb hs ZS;clear hs;refine bodyPost_ret (v:=bZ 1) (by simp[results,Tryz.results143,go_sem,r0,r1]) rfl ⟨rfl,Hb.out⟩
theorem afR (a:Option Addr)(cap:Nat)(w:World)(ha:cE w a [])(hT:az w):Calls Tryz.prog 94 #[.slice a 0 cap] w λe w'=>e=.returned (.tuple #[bK 1,.int .i64 0])/\Bw w w':=by
 obtain⟨O,hO⟩:∃O:Dyadic,(1:Dyadic)=O:=⟨_,rfl⟩;have hch:=λW=>λ(h:cE W a [])=>NQ a 0 cap [] W rfl zo h;rw[show tv []=0 from rfl]at hch;have hsc:=λW=>λ(h:cE W a []) (hT:az W)=>YH a 0 cap 0 [] 1 0 W rfl zo zo (λr hr=>by cases hr) h (λr hr=>by cases hr) zo hT rfl;have hmk:=λW=>λ(hT:az W)=>uY (ai 1) (nt (1:Int).natAbs) 0 O (by rw[<-hO];rfl) W zd zd hT;rw[hO];obtain⟨Jd,vP,qT,Ha,HT⟩:=gY hch hsc hmk ha hT;clear hch hsc hmk ha hT hO;have Hb:Hid (Bw w w):=Below.refl _ _;go_enter Tryz.func94,Tryz.ntmps94;go_wp2_with fail;obtain⟨R,hR⟩:∃R:World->Prop,(λW=>aj W (w.heap.size) 39 [.bool false,.string ⟨#[]⟩,.int .i64 0]/\Bw w W)=R:=⟨_,rfl⟩;first|refine bP R ?hR ?_|refine bO R ?hR ?_
 case hR=>subst hR;exact⟨(aj.newAt w _ _ (b:=w.heap.size) rfl),zl⟩
 subst hR;rintro W ⟨qr,ae⟩;have Hr:=af qr;clear qr;obtain⟨r0,ag,r1,ah,r2,au⟩:=Hr.out.g3;replace Hb:=ak Hb ae;clear ae;have HA:Hid (cE W a []):=Ha.out.below Hb.out;have HU:Hid (az W):=HT.out.below Hb.out;go_wp2_with fail;refine(Jd.out _ HA.out).mono ?_;rintro e w1 ⟨rfl,ae⟩;clear r0 ag r1 ah r2 au;replace Hr:=kB Hr ae;replace HA:=kL HA ae;replace HU:=kT HU ae;obtain⟨r0,ag,r1,ah,r2,au⟩:=Hr.out.g3;replace Hb:=ak Hb ae;clear ae;go_wp2_with fail;refine(vP.out _ HA.out HU.out).mono ?_;rintro e w2 ⟨v,rfl,hO,ae⟩;clear r0 ag r1 ah r2 au;replace Hr:=kB Hr ae;replace HA:=kL HA ae;replace HU:=kT HU ae;obtain⟨r0,ag,r1,ah,r2,au⟩:=Hr.out.g3;replace Hb:=ak Hb ae;clear ae;obtain⟨vals,_,ho,_⟩:=hO;obtain⟨a2,c2,rfl,_,_⟩:=ej ho;clear ho;go_wp2_with fail;refine(aek a2 c2 _).mono ?_;rintro e w3 ⟨rfl,ae⟩;clear r0 ag r1 ah r2 au;replace Hr:=kB Hr ae;replace HA:=kL HA ae;replace HU:=kT HU ae;obtain⟨r0,ag,r1,ah,r2,au⟩:=Hr.out.g3;replace Hb:=ak Hb ae;clear ae;go_wp2_with fail;refine(qT.out _ HU.out).mono ?_;rintro e w4 ⟨rfl,ae⟩;clear r0 ag r1 ah r2 au;replace Hr:=kB Hr ae;replace HA:=kL HA ae;replace HU:=kT HU ae;obtain⟨r0,ag,r1,ah,r2,au⟩:=Hr.out.g3;replace Hb:=ak Hb ae;clear ae;go_wp2;clear r0 ag r1 ah r2 au;refine dw (aW w4 (w.heap.size) 0 [.bool (ai (dN O)),.string (bs (nt (dN O).natAbs)),.int .i64 (dE O)]) bi ?_;intro w9 hs;replace Hr:=bF Hr hs;obtain⟨r0,ag,r1,ah,r2,au⟩:=Hr.out.g3;replace Hb:=bS Hb hs ZS;clear hs;refine bodyPost_ret (v:=.tuple #[bK O,.int .i64 0]) (by simp[results,Tryz.results94,go_sem,r0,r1,r2]) rfl ⟨rfl,Hb.out⟩
theorem RZ (R:List (List Dyadic)):((R.map λr=>r.map canon).map λr=>r.map ar)=R:=by
 rw[List.map_map];have:((λr:List Raw=>r.map ar)∘λr:List Dyadic=>r.map canon)=id:=by
  funext r
  show(r.map canon).map ar=r
  rw[List.map_map];have:(ar∘canon)=id:=funext bM;rw[this];simp
 rw[this];simp
theorem ajM (a':Option Addr)(c' m r c:Nat)(R:List (List Dyadic))(B:Nat)(w:World)(hL:R.length=m+1)(hrow:∀x∈R,x.length=m+1)(hr:r<=m)(hc:c<=m)(hm:m<=4)(hsm:∀x∈R,∀d∈x,Sm B d)(bQ:1<=B)(hB:B<=1000000)(ht:cE w a' ((jp R r c).map λx=>x.map canon))(hT:az w):
 Calls Tryz.prog 94 #[.slice a' m c'] w λe w'=>e=.returned (.tuple #[bK (dV m (jM (cz R) r c)),.int .i64 0])/\Bw w w':=by
 have hl:=Xx R r c m hL hr;by_cases h0:m=0
 . subst h0;have e:jp R r c=[]:=List.eq_nil_of_length_eq_zero hl;rw[e]at ht;exact afR a' c' w ht hT
 . refine KV a' c' m ((jp R r c).map λx=>x.map canon) B (jp R r c) _ w zo hm (by rw[List.length_map,hl]) (λx hx=>?_) ht (λx hx y hy=>?_) bQ hB hT (RZ _) (ajI R r c m hL hrow hr hc hm)
   . obtain⟨z,hz,rfl⟩:=List.mem_map.1 hx;rw[List.length_map];exact Xy R r c m hrow hc z hz
   . obtain⟨z,hz,rfl⟩:=List.mem_map.1 hx;obtain⟨d,hd,rfl⟩:=List.mem_map.1 hy;exact(ajK hsm r c z hz d hd).fit zo
theorem aez (s:Nat)(h:s<=8):bits BinOp.and IntKind.i64 (s:Int) 1=((s%2:Nat):Int):=by
 have hc:s=0\/s=1\/s=2\/s=3\/s=4\/s=5\/s=6\/s=7\/s=8:=by omega
 rcases hc with rfl|rfl|rfl|rfl|rfl|rfl|rfl|rfl|rfl<;>rfl
theorem adT (a:Option Addr)(cap m:Nat)(R:List (List Dyadic))(B:Nat)(w:World)(hm:m+1<=4)(hL:R.length=m+1)(hrow:∀x∈R,x.length=m+1)(hsm:∀x∈R,∀d∈x,Sm B d)(bQ:1<=B)(hB:B<=1000000)(ha:cE w a (R.map λx=>x.map canon))(hT:az w):
 Calls Tryz.prog 144 #[.slice a (m+1) cap] w λe w'=>∃v,e=.returned (.tuple #[v,.int .i64 0])/\eY w' w.heap.size (m+1) (oV (m+1) (cz R)) (m+1) v/\Bw w w':=by
 obtain⟨i0,hi,hz0,hz1,hz2⟩:=info_parts Tryz.ark;obtain⟨j0,hj,hy0,hy1,hy2⟩:=info_parts Tryz.aro;have cW:=λW (hW:Bw w W)=>NQ a (m+1) cap (R.map λx=>x.map canon) W (by rw[List.length_map,hL]) zo (ha.below hW);have hm0:tv (R.map λx=>x.map canon)=0:=by
  unfold tv;rw[if_neg];rintro(h|h)
  . rw[List.length_map]at h;omega
  . rw[List.any_eq_true]at h;obtain⟨r,hr,h⟩:=h;obtain⟨z,hz,rfl⟩:=List.mem_map.1 hr;have:=hrow z hz;simp at h;omega
 rw[hm0]at cW;have hwo:=λr c (hr:r<=m) (hc:c<=m) W (hW:Bw w W)=>am4 a cap m r c R W hL hrow hr hc zo (ha.below hW);have lU:=λr c (hr:r<=m) (hc:c<=m) W (hW:Bw w W) a' c' (ht:cE W a' ((jp R r c).map λx=>x.map canon))=>ajM a' c' m r c R B W hL hrow hr hc zo hsm bQ hB ht (hT.below hW);have hds:∀r c,r<=m->c<=m->Sm (4*B+6) (dV m (jM (cz R) r c)):=by
  intro r c hr hc;refine EH zo (λi j hi hj=>?_);have hk:(if i<r then i else i+1)<R.length:=by split<;>omega
  have hl:=hrow _ (List.getElem_mem hk);have hk2:(if j<c then j else j+1)<R[if i<r then i else i+1].length:=by rw[hl];split<;>omega
  have e:jM (cz R) r c i j=R[if i<r then i else i+1][if j<c then j else j+1]:=by
   show(R.getD (if i<r then i else i+1) []).getD (if j<c then j else j+1) 0=_
   rw[List.getD_eq_getElem?_getD (l:=R),List.getElem?_eq_getElem hk,Option.getD_some,List.getD_eq_getElem?_getD,List.getElem?_eq_getElem hk2];rfl
  rw[e];exact hsm _ (List.getElem_mem hk) _ (List.getElem_mem hk2)
 obtain⟨f,hf⟩:=aB (cz R);rw[hf]at lU hds⊢;have LB:=λi (h:i<m+1)=>RB (m+1) f i h;obtain⟨A,hA⟩:=aB (oV (m+1) f);rw[hA]at LB⊢;obtain⟨Hi,eF,eG,dL,Hj,lJ,oP,oQ,fH,Hwo,Aw,Hds⟩:=iJ hi hz0 hz1 hz2 hj hy0 hy1 hy2 cW hwo lU hds;obtain⟨HT,aae⟩:=aI hT LB;clear hi hz0 hz1 hz2 hj hy0 hy1 hy2 cW hwo lU hds hT LB hA hf hm0 ha hsm hrow hL;have Hb:Hid (Bw w w):=Below.refl _ _;go_enter Tryz.func144,Tryz.ntmps144;go_wp2_with fail;refine(fH.out _ Hb.out).mono ?_;rintro e w1 ⟨rfl,ae⟩;replace Hb:=ak Hb ae;clear ae;go_wp2_with fail;go_loopw[5,18] (λs5 x wr=>∃(k:Nat) (v:Value),k<=m+1/\x=.int .i64 (k:Int)/\v=s5/\eY wr w.heap.size (m+1) A k v/\Bw w wr) (λ_ x _=>m+1-(intOf x).toNat);case atStart=>exact⟨0,_,Nat.zero_le _,rfl,rfl,eY.nil _ _ _ _,Hb.out⟩
 case round=>
  clear Hb;obtain⟨k,v,hk,rfl,rfl,pv,pb⟩:=hrel;obtain⟨cQ,aY⟩:=aI pv pb;clear pv pb;by_cases hlt:k<m+1
  . obtain⟨Z,hZ⟩:=aB ((List.range (m+1)).map λb=>jA (m+1) f k b);have xK:Hid (A.getD k []=Z):=by show _=_;rw[aae.out k hlt,hZ]
    have xN:Hid (Z.length=m+1):=by show _=_;rw[<-hZ];simp
    have HZa:Hid (∀j (h:j<m+1),Z.take (j+1)=Z.take j++[jA (m+1) f k j]):=by intro j h;rw[List.take_succ_eq_append_getElem (by rw[xN.out];exact h)];congr 2;simp[<-hZ]
    clear hZ;obtain⟨wq,hwc⟩:∃wq,wq=wr:=⟨_,rfl⟩;subst hwc;have lh:=aY.out.size;have wL:decide ((k:Int)<(m:Int)+1)=true:=by simp;omega
    go_wp2_with fail;clear wL;go_loopw[7,23] (λs7 x wr=>∃(j:Nat) (v2:Value),j<=m+1/\x=.int .i64 (j:Int)/\v2=s7/\wr.ownsRow wq.heap.size 39 3 v2 j (dC (Z.take j))/\Bw wq wr) (λ_ x _=>m+1-(intOf x).toNat);case atStart=>exact⟨0,_,Nat.zero_le _,rfl,rfl,World.ownsRow_nil _ _ _ _,Below.refl _ _⟩
    case round=>
     obtain⟨j,v2,hj,rfl,rfl,ho,hb2⟩:=hrel;obtain⟨Ho,cG⟩:=aI ho hb2;have szb:=hb2.size;clear ho hb2;by_cases bL:j<m+1
     . obtain⟨X,hX⟩:=aB (dV m (jM f j k));obtain⟨Y,hY⟩:=aB (jA (m+1) f k j);have Ub:Y=if(k+j)%2=1 then-X else X:=by rw[<-hY,<-hX];rfl
       have eO:=Hds.out j k zo zo;rw[hX]at eO;have hst:dC (Z.take (j+1))=dC (Z.take j)++[.bool (ai (dN Y)),.string (bs (nt (dN Y).natAbs)),.int .i64 (dE Y)]:=by rw[HZa.out j bL,hY,KQ];rfl
       have eW:=aH aY.out cG.out;have hd:=λW hW a' c' ht=>Aw.out j k zo zo W hW a' c' ht;rw[hX]at hd;obtain⟨Hd,cn,IR⟩:=cC hd hst Ub;have PZ:Hid (Ok (canon X)):=eO.ok zo;have gU:=af eW;clear hd hst Ub hX hY eO eW;have Hb:Hid (Bw wr wr):=Below.refl _ _;go_wp2_with fail;refine(Hwo.out j k zo zo _ gU.out).mono ?_;rintro e w3 ⟨a3,c3,rfl,hc3,CG,ae⟩;replace Hb:=ak Hb ae;clear ae;have Ei:=af CG;clear CG;go_wp2_with fail;refine(Hd.out _ (aH gU.out Hb.out) a3 c3 Ei.out).mono ?_;rintro e w4 ⟨rfl,ae⟩;replace Hb:=ak Hb ae;clear ae Ei;have Zm:=Hb.out.size;obtain⟨W5,Fx,ae,Hx⟩:=cf w4 39 [.bool (ai (dN X)),.string (bs (nt (dN X).natAbs)),.int .i64 (dE X)];obtain⟨x0,aK,x1,aL,x2,aM⟩:=Hx.out.g3;replace Hb:=ak Hb ae;clear ae;have yN:=aez (k+j) zo;rw[Int.natCast_add]at yN;go_upto_if 38 with fail
       go_cut[7] (λs7 wx=>s7=v2/\aj wx w4.heap.size 39 [.bool (ai (dN Y)),.string (bs (nt (dN Y).natAbs)),.int .i64 (dE Y)]/\Bw wr wx);case first=>
        by_cases hp:(k+j)%2=1
        . have h9:(bits BinOp.and IntKind.i64 ((k:Int)+(j:Int)) 1==1)=true:=by rw[yN,hp];rfl
          have hY: -ar (canon X)=Y:=by rw[bM,IR.out,if_pos hp]
          have HY:=af hY;clear hY yN;go_wp2_with fail;refine(KT _ _ _ Y HY.out _ PZ.out (HT.out.below (aH gU.out Hb.out))).mono ?_;rintro e w6 ⟨rfl,ae⟩;clear x0 aK x1 aL x2 aM;replace Hx:=kB Hx ae;obtain⟨x0,aK,x1,aL,x2,aM⟩:=Hx.out.g3;replace Hb:=ak Hb ae;clear ae;go_wp2_with fail;go_meet;exact⟨rfl,((Hx.out.set 0 _).set 1 _).set 2 _,((Hb.out.setCell zp _).setCell zp _).setCell zp _⟩
        . have h9:(bits BinOp.and IntKind.i64 ((k:Int)+(j:Int)) 1==1)=false:=by rw[yN,show(k+j)%2=0 by omega];rfl
          have hY:Y=X:=by rw[IR.out,if_neg hp]
          subst hY;clear yN;go_wp2_with fail;go_meet;exact⟨rfl,Hx.out,Hb.out⟩
       case rest=>
        obtain⟨rfl,hx,hb⟩:=hcut;clear yN;have Hx:Hid (aj wc w4.heap.size 39 [.bool (ai (dN Y)),.string (bs (nt (dN Y).natAbs)),.int .i64 (dE Y)]):=hx;have qO:=af (aH cG.out hb);have hov:=ownsRow_below Ho.out hb;have dW:=af hov;have szc:=hb.size;clear hx hb hov Ho Hb Hd IR PZ gU cG;have Hb:Hid (Bw wc wc):=Below.refl _ _;obtain⟨x0,x1,x2⟩:=Hx.out.c3;have P0:=x0;have P1:=x1;have P2:=x2;have ajw:=Hx.out.lt;obtain⟨W6,nX,ae,Hc⟩:=cf wc 39 [.bool (ai (dN Y)),.string (bs (nt (dN Y).natAbs)),.int .i64 (dE Y)];clear x0 x1 x2;replace Hx:=kB Hx ae;obtain⟨x0,x1,x2⟩:=Hx.out.c3;obtain⟨c0,c1,c2⟩:=Hc.out.c3;replace Hb:=ak Hb ae;clear ae;have cV:=ownsRow_below dW.out Hb.out;have kj:=Hb.out.size;go_wp2_with (at_builtin;refine wpList_append_own_at _ rfl _ _ 49 rfl wq.heap.size 39 i0 _ 3 32 Tryz.underlying49 Hi.out eF.out eG.out dL.out rfl zd _ j (dC (Z.take j)) rfl cV ⟨wc.heap.size,0,none⟩ 1 1 [.bool (ai (dN Y)),.string (bs (nt (dN Y).natAbs)),.int .i64 (dE Y)] rfl rfl (jh Hc.out) zy zx zo zo ?_;intro v' w7 eU fu _ kg;obtain⟨g',nM,rfl⟩:=ownsRow_succ eU);go_roundw;case rel=>exact⟨j+1,_,by omega,by go_num,rfl,by rw[cn.out];exact eU,(aH qO.out Hb.out).grown fu zo (λj e=>eI cV j e)⟩
        case measure=>simp[intOf];omega
     . obtain rfl:j=m+1:=by omega
       have uw:Z.take (m+1)=Z:=List.take_of_length_le (by rw[xN.out];exact Nat.le_refl _);rw[uw]at Ho;have gX:=Ho.out.lt;obtain⟨a2,cap2,rfl,_,_⟩:=ej Ho.out;obtain⟨vals,hvl,uF,Nl,CH⟩:=cQ.out;have hov:=ownsRow_below uF cG.out;have ol:=λi h=>ownsRow_below (Nl i h) cG.out;have pK:∀g,(Value.slice a2 (m+1) cap2).ownBlock=some g->∀i (h:i<vals.length),vals[i].ownBlock≠some g:=λg e i h e2=>by have h1:=(gX g e).1;have h2:=((Nl i h).lt g e2).2;omega
       have hx:=xq Ho.out lh;obtain⟨sw,vT,dW,Kl,Jy,Hxx⟩:=iK hvl ol hov CH pK hx;clear hvl ol hov uF Nl CH pK hx gX uw;have Hb:Hid (Bw wr wr):=Below.refl _ _;obtain⟨W6,nX,ae,Hd⟩:=cf wr 49 [.slice a2 (m+1) cap2];have d0:=Hd.out.c1;replace Hb:=ak Hb ae;clear ae;have cV:=ownsRow_below dW.out Hb.out;have kj:=Hb.out.size;go_wp2_with (at_builtin;refine wpList_append_own_at _ rfl _ _ 124 rfl w.heap.size 49 j0 _ 1 24 Tryz.underlying124 Hj.out lJ.out oP.out oQ.out rfl zd v k vals rfl cV ⟨wr.heap.size,0,none⟩ 1 1 [.slice a2 (m+1) cap2] rfl rfl (jh Hd.out) zy zx zo zo ?_;intro v' w7 eU fu _ kg;obtain⟨g',nM,rfl⟩:=ownsRow_succ eU);go_roundw;case rel=>refine⟨k+1,_,by omega,by go_num,rfl,eY.push sw.out cV (λi h=>ownsRow_below (vT.out i h) Hb.out) Kl.out (by rw[xK.out];exact ownsRow_below Hxx.out Hb.out) Jy.out eU fu,?_⟩;exact(aH (aH aY.out cG.out) Hb.out).grown fu zo (λj e=>eI cV j e)
       case measure=>simp[intOf];omega
  . obtain rfl:k=m+1:=by omega
    go_wp2;exact bodyPost_ret (v:=.tuple #[v,.int .i64 0]) (by simp[results,Tryz.results144,go_sem]) rfl ⟨v,rfl,cQ.out,aY.out⟩
end Go.Proofs.YtoopepmmepmfnaaGreatDoor
namespace Go.Proofs.YtoopepmmepmfnaaGreatDoor
def oW (n:Nat)(p:Nat->Nat->Dyadic):List (List Dyadic):=(List.range n).map λa=>(List.range n).map λb=>jz n p a b
theorem Ky (n:Nat)(p:Nat->Nat->Dyadic):(oW n p).length=n:=by simp[oW]
theorem Kz (n:Nat)(p:Nat->Nat->Dyadic):∀r∈oW n p,r.length=n:=by intro r hr;unfold oW at hr;obtain⟨x,_,rfl⟩:=List.mem_map.1 hr;simp
theorem RA (n:Nat)(p:Nat->Nat->Dyadic)(a b:Nat)(ha:a<n)(hb:b<n):cz (oW n p) a b=jz n p a b:=by unfold cz oW;simp[List.getD_eq_getElem?_getD,ha,hb]
theorem ams {n:Nat}{R S:List (List Dyadic)}(h1:R.length=n)(h2:∀r∈R,r.length=n)(h3:S.length=n)(h4:∀r∈S,r.length=n)(h:∀a b,a<n->b<n->cz R a b=cz S a b):R=S:=by apply List.ext_getElem zo;intro i hi hj;have l1:=h2 _ (List.getElem_mem hi);have l2:=h4 _ (List.getElem_mem hj);apply List.ext_getElem zo;intro j k1 k2;have:=h i j zo zo;unfold cz at this;simpa[List.getD_eq_getElem?_getD,hi,hj,k1,k2]using this
theorem adP (n:Nat)(cL:n<=4){e f:Nat->Nat->Dyadic}(h:∀i j,i<n->j<n->e i j=f i j)(a b:Nat)(ha:a<n)(hb:b<n):jA n e a b=jA n f a b:=by
 have:dV (n-1) (jM e b a)=dV (n-1) (jM f b a):=EG (n-1) zo (λi j hi hj=>by
  unfold jM
  exact h _ _ (by split<;>omega) (by split<;>omega))
 unfold jA;rw[this]
theorem agh {n:Nat}{R:List (List Dyadic)}(h1:R.length=n)(h2:∀r∈R,r.length=n)(i j:Nat)(hi:i<n)(hj:j<n)(y:Dyadic)(a b:Nat)(ha:a<n)(hb:b<n):cz (R.set i ((R.getD i []).set j y)) a b=if a=i/\b=j then y else cz R a b:=by
 unfold cz;by_cases e:a=i
 . subst e;rw[List.getD_eq_getElem?_getD (l:=R.set _ _),List.getElem?_set_self zo,Option.getD_some];have hl:(R.getD a []).length=n:=by
    have e:R.getD a []=R[a]'zo:=by rw[List.getD_eq_getElem?_getD,List.getElem?_eq_getElem zo];rfl
    rw[e];exact h2 _ (List.getElem_mem _)
   by_cases e2:b=j
   . subst e2;rw[if_pos ⟨rfl,rfl⟩,List.getD_eq_getElem?_getD,List.getElem?_set_self zo];rfl
   . rw[if_neg (λh=>e2 h.2),List.getD_eq_getElem?_getD,List.getElem?_set_ne (λh=>e2 h.symm),<-List.getD_eq_getElem?_getD]
 . rw[if_neg (λh=>e h.1),List.getD_eq_getElem?_getD (l:=R.set _ _),List.getElem?_set_ne (λh=>e h.symm),<-List.getD_eq_getElem?_getD]
theorem alP {n:Nat}{R:List (List Dyadic)}(h1:R.length=n)(h2:∀r∈R,r.length=n)(i j:Nat)(hi:i<n)(y:Dyadic):(R.set i ((R.getD i []).set j y)).length=n/\∀r∈R.set i ((R.getD i []).set j y),r.length=n:=by
 refine⟨by rw[List.length_set];exact h1,λr hr=>?_⟩;rcases List.mem_or_eq_of_mem_set hr with h|h
 . exact h2 r h
 . rw[h,List.length_set];have e:R.getD i []=R[i]'zo:=by rw[List.getD_eq_getElem?_getD,List.getElem?_eq_getElem zo];rfl
   rw[e];exact h2 _ (List.getElem_mem _)
theorem alR (X:Dyadic):(if aR X<0 then-X else X)=ny X*X:=by
 rw[alQ];by_cases h:X<0
 . rw[if_pos h,if_pos ((yA X).2 h)]
 . rw[if_neg h,if_neg (λh2=>h ((yA X).1 h2))]
def iQ (k j a b:Nat):Prop:=a<k\/a=k/\b<j
instance (k j a b:Nat):Decidable (iQ k j a b):=inferInstanceAs (Decidable (_\/_))
end Go.Proofs.YtoopepmmepmfnaaGreatDoor
namespace Go.Proofs.YtoopepmmepmfnaaGreatDoor
open Go.RowKit
attribute [local go_sem ↓] Go.wp_at_zero Go.wp_at_succ
def Rm (w:World)(n:Nat)(p:Nat->Nat->Dyadic)(e:Ending)(w':World):Prop:=
 ∃a' c',e=.returned (.tuple #[bK (ny (gw n p) *gw n p),.slice a' n c',.int .i64 0])/\n<=c'/\cE w' a' ((oW n p).map λr=>r.map canon)/\Bw w w'
theorem eY.blk {w:World}{base n L go cap:Nat}{R:List (List Dyadic)}(h:eY w base n R L (.slice (some ⟨go,0,none⟩) L cap))(i:Nat)(hi:i<L)(hn:0<n):base<=go/\∃g c,w.cell? ⟨go,i,none⟩=some (.slice (some ⟨g,0,none⟩) n c)/\base<=g/\g<w.heap.size/\g≠go:=by
 obtain⟨vals,hl,ho,hv,hd⟩:=h;have hi2:i<vals.length:=by omega
 have hrow:=hv i hi2;obtain⟨g,c,e1,hg1,hg2,_⟩:=xo hrow hn;have kg:=zM ho;have hc:=iZ ho i zo;rw[e1]at hc;refine⟨kg.1,g,c,hc,hg1,hg2,?_⟩;rintro rfl;rw[e1]at hrow;rcases hrow.2 with⟨h1,_⟩ |⟨g',c',cur,h1,_,h2,_⟩
 . simp at h1
 . simp only[Value.slice.injEq,Option.some.injEq,Addr.mk.injEq,and_true,true_and]at h1;obtain⟨rfl,rfl⟩:=h1;rcases ho.2 with⟨h3,_⟩ |⟨g2,c2,anO,h3,_,h4,_⟩
   . simp at h3
   . simp only[Value.slice.injEq,Option.some.injEq,Addr.mk.injEq,and_true,true_and]at h3;obtain⟨rfl,rfl⟩:=h3;rw[h2]at h4;simp at h4
theorem eY.arp {w:World}{base n k:Nat}{R:List (List Dyadic)}{v:Value}(h:eY w base n R k v){p:Addr}(hp:p.block<base)(x:Value):eY (w.setCell p x) base n R k v:=by
 obtain⟨vals,hl,ho,hi,hd⟩:=h;have hne:∀{u:Value} {e:TypeId} {sz m:Nat} {xs:List Value},w.ownsRow base e sz u m xs->u.ownBlock≠some p.block:=λh e=>by have:=(h.lt _ e).1;omega
 exact⟨vals,hl,ownsRow_setCell_other ho (hne ho) _,λi h=>ownsRow_setCell_other (hi i h) (hne (hi i h)) _,hd⟩
theorem ain (a:Option Addr)(cap m:Nat)(rows:List (List Raw))(B:Nat)(w:World)(hm:m+1<=4)(hr:Rw (m+1) B rows)(hcap:m+1+1<=cap)(ha:cE w a rows)(hB:B<=200000)(hT:az w)(h0:xE rows=0):
 Calls Tryz.prog 96 #[.slice a (m+1+1) cap] w (Rm w (m+1) (eo rows)):=by
 obtain⟨n,hn⟩:=aB (m+1);have hL:=hr.1;have hrow:=hr.2.1;have hfit:=hr.2.2;obtain⟨b,o,rfl⟩:∃b o,a=some ⟨b,o,none⟩:=by
  obtain⟨vals,hvl,hat,_⟩:=ha;rcases hat with h|⟨b,o,h,_⟩
  . rw[h]at hvl;simp at hvl;omega
  . exact⟨b,o,h⟩
 have cW:=λW (hW:Bw w W)=>Zn (some ⟨b,o,none⟩) (m+1+1) cap rows B W hL zo hcap (ha.below hW) hfit zo (hT.below hW);rw[h0]at cW;obtain⟨S,hS⟩:=aB ((rows.drop 1).map λp=>iP (rows.getD 0 []) p);have jW:S.length=m+1:=by rw[<-hS];simp[hL]
 have h00:0<rows.length:=by omega
 have e0:rows.getD 0 []=rows[0]:=by simp[h00]
 have rB:∀r∈S,r.length=m+1:=by intro r hr;rw[<-hS]at hr;obtain⟨p,hp,rfl⟩:=List.mem_map.1 hr;rw[EK (by rw[e0,hrow _ (List.mem_of_mem_drop hp),hrow _ (List.getElem_mem h00)]),hrow _ (List.mem_of_mem_drop hp)]
 have pG:∀r∈S,∀d∈r,Sm (B+1) d:=by intro r hr d hd;rw[<-hS]at hr;obtain⟨p,hp,rfl⟩:=List.mem_map.1 hr;unfold iP at hd;obtain⟨i,hi,rfl⟩:=List.mem_iff_getElem.1 hd;rw[List.getElem_zipWith];refine Sm.sub (hfit p (List.mem_of_mem_drop hp) _ (List.getElem_mem _)).2 (hfit (rows.getD 0 []) ?_ _ (List.getElem_mem _)).2;rw[e0];exact List.getElem_mem h00
 obtain⟨P,hP⟩:=aB (eo rows);have Cj:∀i j,i<m+1->j<m+1->cz S i j=yC P i j:=λi j hi hj=>by rw[<-hS,<-hP];exact YO (m+1) rows hL hrow i j hi hj
 obtain⟨X,hX⟩:=aB (gw (m+1) P);have hent:dV (m+1) (cz S)=X:=by rw[<-hX,BF];exact EG (m+1) hm Cj
 have hro:=λW (hW:Bw w W)=>Yw b o cap (m+1) (m+1) rows B W hL zo hcap zo zo zo hrow (ha.below hW) hfit zo (hT.below hW);rw[hS]at hro
 have lU:=λW (hW:Bw w W) a' c' (h:cE W a' (S.map λr=>r.map canon))=>KV a' c' (m+1) (S.map λr=>r.map canon) (B+1) S X W zo hm (by simpa using jW) (by
  intro r hr;obtain⟨x,hx,rfl⟩:=List.mem_map.1 hr
  simpa using rB x hx) h (by
  intro r hr c hc;obtain⟨x,hx,rfl⟩:=List.mem_map.1 hr;obtain⟨y,hy,rfl⟩:=List.mem_map.1 hc
  exact(pG x hx y hy).fit zo) zo zo (hT.below hW) (RZ S) hent
 have sN:=λW (hW:Bw w W) a' c' (h:cE W a' (S.map λr=>r.map canon))=>(adT a' c' m S (B+1) W hm jW rB pG zo zo h (hT.below hW)).mono (λe w' h=>(match h with|⟨v,h1,h2,h3⟩=>⟨v,h1,h2,h3,h3⟩:∃v,e=.returned (.tuple #[v,.int .i64 0])/\eY w' W.heap.size (m+1) (oV (m+1) (cz S)) (m+1) v/\Bw W w'/\Bw W w'));have eO:Sm (4*B+11) X:=by rw[<-hent];refine(EH (B:=B+1) hm (λi j hi hj=>?_)).mono zo;rw[Cj i j hi hj,<-hP];exact EO (n:=m+1) (B:=B) (λa b ha hb=>by rw[rR rows a b zo (by rw[hrow _ (List.getElem_mem _)];exact hb)];exact(hfit _ (List.getElem_mem _) _ (List.getElem_mem _)).2) i j hi hj
 have oh:=λW=>lL (ai (dN X)) (nt (dN X).natAbs) (dE X) (aR X) (by show aR (ar (canon X))=_;rw[bM]) W (eO.ok zo);have rE: -1<=aR X/\aR X<=1:=by unfold aR dF;split<;>(try split)<;>omega
 obtain⟨G,hG⟩:=aB (ny X);have hof:=λW (hW:Bw w W)=>rf (aR X) G (by rw[<-hG];rfl) W zo (hT.below hW)
 have hab:=λW (hW:Bw w W)=>afx (ai (dN X)) (nt (dN X).natAbs) (dE X) (G*X) (by
  have e:ar (ai (dN X),nt (dN X).natAbs,dE X)=X:=bM X
  rw[e,alR,hG]) W (eO.ok zo) (hT.below hW)
 have TA:Fit (4*B+11) (canon G):=(by rw[<-hG];exact(OD X).mono zo:Sm (4*B+11) G).fit zo;have kO:∀i j,i<m+1->j<m+1->Fit (4*B+11) (canon (jA (m+1) (cz S) i j)):=λi j hi hj=>by refine((Rz (B:=B+1) zo hm (λa b ha hb=>?_) i j).mono zo).fit zo;rw[Cj a b ha hb,<-hP];exact EO (n:=m+1) (B:=B) (λa b ha hb=>by rw[rR rows a b zo (by rw[hrow _ (List.getElem_mem _)];exact hb)];exact(hfit _ (List.getElem_mem _) _ (List.getElem_mem _)).2) a b ha hb
 have hfin:∀R:List (List Dyadic),R.length=m+1->(∀r∈R,r.length=m+1)->(∀a b,a<m+1->b<m+1->cz R a b=jA (m+1) (cz S) a b*G)->R=oW (m+1) P:=λR h1 h2 h3=>ams h1 h2 (Ky _ _) (Kz _ _) (λa b ha hb=>by
  rw[h3 a b ha hb,RA _ _ _ _ ha hb];unfold jz
  rw[hX,hG,adP (m+1) hm Cj a b ha hb])
 have BL:=λi j hi hj=>adQ (m+1) (cz S) i j hi hj;have Fb:=adR (m+1) (cz S);have Ff:=adS (m+1) (cz S);obtain⟨F,hF⟩:∃F:Nat->Nat->Dyadic,(λi j=>jA (m+1) (cz S) i j)=F:=⟨_,rfl⟩;have Tz:∀i j,jA (m+1) (cz S) i j=F i j:=λi j=>by rw[<-hF]
 simp only[Tz]at kO hfin BL;obtain⟨A,hA⟩:=aB (oV (m+1) (cz S));rw[hA]at sN BL Fb Ff;rw[hP];unfold Rm;rw[hX,hG];rw[hn]at cW hro lU sN kO hfin BL Fb Ff⊢;have cL:n<=4:=by omega
 have dY:1<=n:=by omega
 have Wd:=λW=>(oh W).mono (λe w' h=>(⟨h.1,h.2,h.2⟩:e=.returned (.int .i64 (aR X))/\Bw W w'/\Bw W w'));have VK:=λW hW=>(hof W hW).mono (λe w' h=>(⟨h.1,h.2,h.2⟩:e=.returned (bK G)/\Bw W w'/\Bw W w'));have lS:=λW hW=>(hab W hW).mono (λe w' h=>(⟨h.1,h.2,h.2⟩:e=.returned (bK (G*X))/\Bw W w'/\Bw W w'));obtain⟨fH,QV,Aw,IV,oN,ya,mF,HGf,HAs,rX,HAe,HAl⟩:=iJ cW hro lU sN Wd VK lS TA kO hfin BL Fb;obtain⟨HAr,HT⟩:=aI Ff hT;clear cW hro lU sN Wd VK oh hof hab lS TA kO hfin BL Fb Ff hT Tz hF hA eO hent Cj pG rB jW hS e0 h00 hP hX hG rE ha hr hL hrow hfit h0 hn;have Hb:Hid (Bw w w):=Below.refl _ _;go_enter Tryz.func96,Tryz.ntmps96;go_wp2_with fail;obtain⟨R,hR⟩:∃R:World->Prop,(λW=>aj W (w.heap.size) 39 [.bool false,.string ⟨#[]⟩,.int .i64 0]/\Bw w W)=R:=⟨_,rfl⟩;first|refine bP R ?hR ?_|refine bO R ?hR ?_
 case hR=>subst hR;exact⟨(aj.newAt w _ _ (b:=w.heap.size) rfl),zl⟩
 subst hR;rintro W ⟨qr,ae⟩;have Hr:=af qr;clear qr;obtain⟨r0,ag,r1,ah,r2,au⟩:=Hr.out.g3;replace Hb:=ak Hb ae;clear ae;go_wp2_with fail;refine(fH.out _ Hb.out).mono ?_;rintro e w1 ⟨rfl,ae⟩;clear r0 ag r1 ah r2 au;replace Hr:=kB Hr ae;obtain⟨r0,ag,r1,ah,r2,au⟩:=Hr.out.g3;replace Hb:=ak Hb ae;clear ae;go_wp2_with fail;refine(QV.out _ Hb.out).mono ?_;rintro e w2 ⟨a2,c2,rfl,hc2,ht2,ae⟩;clear r0 ag r1 ah r2 au;replace Hr:=kB Hr ae;obtain⟨r0,ag,r1,ah,r2,au⟩:=Hr.out.g3;replace Hb:=ak Hb ae;clear ae;have Eh:=af ht2;clear ht2;go_wp2_with fail;refine(Aw.out _ Hb.out a2 c2 Eh.out).mono ?_;rintro e w3 ⟨rfl,ae⟩;clear r0 ag r1 ah r2 au;replace Hr:=kB Hr ae;obtain⟨r0,ag,r1,ah,r2,au⟩:=Hr.out.g3;replace Hb:=ak Hb ae;clear ae Eh;have GD:=Hr.out.lt;obtain⟨W4,jX,ae,Hd⟩:=cf w3 39 [.bool (ai (dN X)),.string (bs (nt (dN X).natAbs)),.int .i64 (dE X)];clear r0 ag r1 ah r2 au;replace Hr:=kB Hr ae;obtain⟨r0,ag,r1,ah,r2,au⟩:=Hr.out.g3;obtain⟨d0,d1,d2⟩:=Hd.out.c3;replace Hb:=ak Hb ae;clear ae;go_wp2_with fail;refine(QV.out _ Hb.out).mono ?_;rintro e w5 ⟨a3,c3,rfl,hc3,CG,ae⟩;clear r0 ag r1 ah r2 au d0 d1 d2;replace Hr:=kB Hr ae;replace Hd:=kB Hd ae;obtain⟨r0,ag,r1,ah,r2,au⟩:=Hr.out.g3;obtain⟨d0,d1,d2⟩:=Hd.out.c3;replace Hb:=ak Hb ae;clear ae;have Ei:=af CG;clear CG;have lG:=Hr;have Ql:=Hd;have eQ:=Hb;go_wp2_with fail;refine(IV.out _ Hb.out a3 c3 Ei.out).mono ?_;rintro e w6 ⟨v,rfl,hO,Uo,ae⟩;clear r0 ag r1 ah r2 au d0 d1 d2;replace Hr:=kB Hr ae;replace Hd:=kB Hd ae;obtain⟨r0,ag,r1,ah,r2,au⟩:=Hr.out.g3;obtain⟨d0,d1,d2⟩:=Hd.out.c3;replace Hb:=ak Hb ae;clear ae;obtain⟨go,cv,rfl,hgo⟩:∃go cv,v=.slice (some ⟨go,0,none⟩) n cv/\w5.heap.size<=go:=by obtain⟨vals,hl,ho,_,_⟩:=hO;obtain⟨g,c,e1,h1,_,_⟩:=xo ho zo;exact⟨g,c,e1,h1⟩
 have hcv:n<=cv:=by obtain⟨vals,hl,ho,_,_⟩:=hO;exact(xp ho).1
 obtain⟨gI,UT⟩:∃gI:Nat->Nat×Nat,∀i,i<n->w6.cell? ⟨go,i,none⟩=some (.slice (some ⟨(gI i).1,0,none⟩) n (gI i).2)/\w5.heap.size<=(gI i).1/\(gI i).1<w6.heap.size/\(gI i).1≠go:=by have H:=λi (h:i<n)=>(hO.blk i h dY).2;refine⟨λi=>if h:i<n then(Classical.choose (H i h),Classical.choose (Classical.choose_spec (H i h)))else(0,0),λi h=>?_⟩;simp only[h,dif_pos];exact Classical.choose_spec (Classical.choose_spec (H i h))
 obtain⟨HO,Qx⟩:=aI hO UT;clear hO UT;have xJ:Hid (Bw w5 w6):=Uo;have H66:Hid (Bw w6 w6):=Below.refl _ _;clear Uo;have OT:=xJ.out.size;go_wp2_with fail;refine(oN.out _).mono ?_;rintro e w7 ⟨rfl,Us,ae⟩;clear r0 ag r1 ah r2 au d0 d1 d2;replace Hr:=kB Hr ae;replace Hd:=kB Hd ae;obtain⟨r0,ag,r1,ah,r2,au⟩:=Hr.out.g3;obtain⟨d0,d1,d2⟩:=Hd.out.c3;replace Hb:=ak Hb ae;clear ae;go_wp2_with fail;refine(ya.out _ Hb.out).mono ?_;rintro e w8 ⟨rfl,Ut,ae⟩;clear r0 ag r1 ah r2 au d0 d1 d2;replace Hr:=kB Hr ae;replace Hd:=kB Hd ae;obtain⟨r0,ag,r1,ah,r2,au⟩:=Hr.out.g3;obtain⟨d0,d1,d2⟩:=Hd.out.c3;replace Hb:=ak Hb ae;clear ae;have Ml:=aH Us Ut;clear Us Ut;have Py:=af Ml;have Ik:=Ml.size;clear Ml;have ajo:=Hr.out.lt;have apA:=Hd.out.lt;obtain⟨W9,Mc,ae,Hs⟩:=cf w8 39 [.bool (ai (dN G)),.string (bs (nt (dN G).natAbs)),.int .i64 (dE G)];clear r0 ag r1 ah r2 au;replace Hr:=kB Hr ae;clear d0 d1 d2;replace Hd:=kB Hd ae;obtain⟨r0,ag,r1,ah,r2,au⟩:=Hr.out.g3;obtain⟨d0,d1,d2⟩:=Hd.out.c3;obtain⟨s0,s1,s2⟩:=Hs.out.c3;replace Hb:=ak Hb ae;clear ae;have DC:Hid (Bw w6 W9):=by rw[<-Mc];exact(Py.out).alloc zo _
 have TI:=HO.out.below DC.out;have FC:∀i,i<n->W9.cell? ⟨go,i,none⟩=some (.slice (some ⟨(gI i).1,0,none⟩) n (gI i).2):=λi h=>cell_later DC.out (Qx.out i h).1;have Uq:=aH xJ.out DC.out;obtain⟨PR,Qh,Px⟩:=cC TI FC Uq;have QX:=Hs;clear TI FC Uq HO Py H66 DC;go_wp2_with fail;go_loopw[37] (λx wr=>∃(k:Nat) (R:List (List Dyadic)),k<=n/\x=.int .i64 (k:Int)/\R.length=n/\(∀r∈R,r.length=n)/\(∀a b,a<n->b<n->cz R a b=if iQ k 0 a b then F a b*G else F a b)/\eY wr w5.heap.size n R n (.slice (some ⟨go,0,none⟩) n cv)/\(∀i,i<n->wr.cell? ⟨go,i,none⟩=some (.slice (some ⟨(gI i).1,0,none⟩) n (gI i).2))/\aj wr w8.heap.size 39 [.bool (ai (dN G)),.string (bs (nt (dN G).natAbs)),.int .i64 (dE G)]/\Bw w5 wr) (λx _=>n-(intOf x).toNat);case atStart=>exact⟨0,A,Nat.zero_le _,rfl,HAl.out,HAr.out,λa b ha hb=>by rw[HAe.out a b ha hb,if_neg (by unfold iQ;omega)],PR.out,Qh.out,QX.out,Px.out⟩
 case round=>
  clear QX Px Qh PR s0 s1 s2 Hs r0 ag r1 ah r2 au d0 d1 d2 Hr Hd Hb xJ;obtain⟨k,R,hk,rfl,pE,pF,hRe,hO,hc,hs,pb⟩:=hrel;by_cases hlt:k<n
  . have cW:=hc k hlt;obtain⟨g,c,kQ⟩:∃g c,gI k=(g,c):=⟨_,_,rfl⟩;obtain⟨_,hg1,hg2,hg3⟩:=Qx.out k hlt;rw[kQ]at cW hg1 hg2 hg3;have bD:=zn n cv k (k:Int) (rfl:(some ⟨go,0,none⟩:Option Addr)=_) hlt rfl;rw[Nat.zero_add,Nat.mul_one]at bD;have hin:∃(j:Nat) (R:List (List Dyadic)),j=0/\R.length=n/\(∀r∈R,r.length=n)/\(∀a b,a<n->b<n->cz R a b=if iQ k j a b then F a b*G else F a b)/\eY wr w5.heap.size n R n (.slice (some ⟨go,0,none⟩) n cv)/\(∀i,i<n->wr.cell? ⟨go,i,none⟩=some (.slice (some ⟨(gI i).1,0,none⟩) n (gI i).2))/\aj wr w8.heap.size 39 [.bool (ai (dN G)),.string (bs (nt (dN G).natAbs)),.int .i64 (dE G)]/\Bw w5 wr:=⟨0,R,rfl,pE,pF,hRe,hO,hc,hs,pb⟩;obtain⟨tW,DZ⟩:=aI hin kQ;clear hin pE pF hRe hO hc hs pb kQ;obtain⟨wq,hwq⟩:∃wq,wq=wr:=⟨_,rfl⟩;subst hwq;go_wp2_with fail;go_loopw[43] (λx wr=>∃(j:Nat) (R:List (List Dyadic)),j<=n/\x=.int .i64 (j:Int)/\R.length=n/\(∀r∈R,r.length=n)/\(∀a b,a<n->b<n->cz R a b=if iQ k j a b then F a b*G else F a b)/\eY wr w5.heap.size n R n (.slice (some ⟨go,0,none⟩) n cv)/\(∀i,i<n->wr.cell? ⟨go,i,none⟩=some (.slice (some ⟨(gI i).1,0,none⟩) n (gI i).2))/\aj wr w8.heap.size 39 [.bool (ai (dN G)),.string (bs (nt (dN G).natAbs)),.int .i64 (dE G)]/\Bw w5 wr) (λx _=>n-(intOf x).toNat);case atStart=>obtain⟨j,R,rfl,h⟩:=tW.out;exact⟨0,R,Nat.zero_le _,rfl,h⟩
    case round=>
     clear tW cW bD;obtain⟨j,R,hj,rfl,pE,pF,hRe,hO,hc,hs,pb⟩:=hrel;by_cases bL:j<n
     . have hrl:(R.getD k []).length=n:=by
        have e:R.getD k []=R[k]'zo:=by rw[List.getD_eq_getElem?_getD,List.getElem?_eq_getElem zo];rfl
        rw[e];exact pF _ (List.getElem_mem _)
       have cW:=hc k hlt;rw[DZ.out]at cW;have hpick:∀W,eY W w5.heap.size n R n (.slice (some ⟨go,0,none⟩) n cv)->W.cell? ⟨go,k,none⟩=some (.slice (some ⟨g,0,none⟩) n c)->bN W g (j*3) [.bool (ai (dN (F k j))),.string (bs (nt (dN (F k j)).natAbs)),.int .i64 (dE (F k j))]/\(∀o,W.frozen? ⟨g,o,none⟩=false)/\∀y:Dyadic,eY (((W.setCell ⟨g,j*3,none⟩ (.bool (ai (dN y)))).setCell ⟨g,j*3+1,none⟩ (.string (bs (nt (dN y).natAbs)))).setCell ⟨g,j*3+2,none⟩ (.int .i64 (dE y))) w5.heap.size n (R.set k ((R.getD k []).set j y)) n (.slice (some ⟨go,0,none⟩) n cv):=by
        intro W hO cW;obtain⟨go',cap',g',c',hv,_,_,hne,hcell,eP,hfz,hup⟩:=hO.num k j hlt bL pE hrl;simp only[Value.slice.injEq,Option.some.injEq,Addr.mk.injEq,and_true,true_and]at hv;obtain⟨rfl,rfl⟩:=hv;rw[cW]at hcell;simp only[Option.some.injEq,Value.slice.injEq,Addr.mk.injEq,and_true,true_and]at hcell;obtain⟨rfl,rfl⟩:=hcell;have he:(R.getD k []).getD j 0=F k j:=by have h:=hRe k j hlt bL;rw[if_neg (by unfold iQ;omega)]at h;exact h
        rw[he]at eP;exact⟨eP,hfz,hup⟩
       obtain⟨eP,_,_⟩:=hpick wr hO cW;have LC:=HAs.out k j hlt bL;obtain⟨Y,hY⟩:=aB (F k j*G);have hsl:=alP pE pF k j hlt Y;have hen:∀a b,a<n->b<n->cz (R.set k ((R.getD k []).set j Y)) a b=if iQ k (j+1) a b then F a b*G else F a b:=by
        intro a b ha hb;rw[agh pE pF k j hlt bL Y a b ha hb];by_cases e:a=k/\b=j
        . obtain⟨rfl,rfl⟩:=e;rw[if_pos ⟨rfl,rfl⟩,if_pos (by unfold iQ;omega),hY]
        . rw[if_neg e,hRe a b ha hb];have:iQ k j a b↔iQ k (j+1) a b:=by unfold iQ;omega
          by_cases h:iQ k j a b
          . rw[if_pos h,if_pos (this.1 h)]
          . rw[if_neg h,if_neg (λh2=>h (this.2 h2))]
       obtain⟨E,hE⟩:=aB (F k j);have HY:Hid (ar (canon E) *ar (canon G)=Y):=by show _=_;rw[bM,bM,<-hE];exact hY
       rw[hE]at eP LC hpick;have Cm:=td n c j (j:Int) (rfl:(some ⟨g,0,none⟩:Option Addr)=_) bL rfl;rw[Nat.zero_add]at Cm;obtain⟨R2,Ca⟩:=aB (R.set k ((R.getD k []).set j Y));have hpk:=λW h1 h2=>(hpick W h1 h2).2.2 Y;have wR:=λW h1 h2=>(hpick W h1 h2).2.1;rw[Ca]at hsl hen hpk;have Hz:Hid (bN wr g (j*3) [.bool (ai (dN E)),.string (bs (nt (dN E).natAbs)),.int .i64 (dE E)]):=eP;have Hs:Hid (aj wr w8.heap.size 39 [.bool (ai (dN G)),.string (bs (nt (dN G).natAbs)),.int .i64 (dE G)]):=hs;obtain⟨HO,Hcc,fH,aY,ye,Hen,Hpk,Hpz,HAf,vE⟩:=uT hO hc cW pb hsl hen hpk wR LC (HT.out.below (aH eQ.out pb));have Il:=pb.size;clear hO hc cW pb hsl hen hpk wR LC hs eP hpick Ca hE hY pE pF hRe hrl;have Hb:Hid (Bw wr wr):=Below.refl _ _;have hs8:=Hs.out.lt;go_wp2_with fail;obtain⟨z0,z1,z2⟩:=Hz.out.w3;obtain⟨s0,s1,s2⟩:=Hs.out.c3;have HU:Hid (az wr):=vE.out;refine cd (λw'=>w'.cell? ⟨g,j*3,none⟩=some (.bool (ai (dN E)))/\w'.cell? ⟨g,j*3+1,none⟩=some (.string (bs (nt (dN E).natAbs)))/\w'.cell? ⟨g,j*3+2,none⟩=some (.int .i64 (dE E))/\w'.cell? ⟨w8.heap.size,0,none⟩=some (.bool (ai (dN G)))/\w'.cell? ⟨w8.heap.size,1,none⟩=some (.string (bs (nt (dN G).natAbs)))/\w'.cell? ⟨w8.heap.size,2,none⟩=some (.int .i64 (dE G))) (λi=>Nat.blt i 10) [(0,true),(1,true),(2,true),(3,true),(4,true),(5,true),(6,true),(7,false),(8,false),(9,true),(10,false)] zk zk rfl zk zc ⟨z0,z1,z2,s0,s1,s2⟩ ?_;iterate 7 (refine pT rfl rfl ?_ (by intro w' ⟨q0,q1,q2,q3,q4,q5⟩;go_simp;try with_reducible rfl);try simp only[UU])
       refine aC rfl rfl (λK hK=>?_);go_simp;refine hK _ _ (λ_=>⟨aJ z0,aJ z1,aJ z2,aJ s0,aJ s1,aJ s2⟩) ?_;clear hK K;try simp only[UU]
       refine bJ (λW4=>aj W4 (wr.heap.size) 39 [.bool (ai (dN E)),.string (bs (nt (dN E).natAbs)),.int .i64 (dE E),.bool (ai (dN G)),.string (bs (nt (dN G).natAbs)),.int .i64 (dE G)]/\Bw wr W4) (by first|exact cZ|exact df) ?_;rintro W4 ⟨qv,ae⟩;clear z0 z1 z2 s0 s1 s2;have ajq:=Hs.out.lt;replace Hz:=kW Hz ae;replace Hs:=kB Hs ae;replace HU:=kT HU ae;have Hv:=af qv;clear qv;obtain⟨z0,z1,z2⟩:=Hz.out.w3;obtain⟨s0,s1,s2⟩:=Hs.out.c3;obtain⟨v0,v1,v2,v3,v4,v5⟩:=Hv.out.c6;replace Hb:=ak Hb ae;clear ae;refine aC rfl rfl (λK hK=>?_);go_simp;with_reducible refine(pj _ _ _ _ _ _ Y (4*B+11) HY.out wr.heap.size _ 39 _ HAf.out HGf.out zo Hv.out (by first|exact HU.out|exact az.drew HU.out|exact az.alloc HU.out _|exact az.drew (az.alloc HU.out _) |exact az.alloc (az.drew HU.out) _)).mono ?_
       rintro e cN ⟨rfl,hq⟩;have ae:Bw W4 cN:=by first|exact hq|exact aO hq
       clear z0 z1 z2 s0 s1 s2 v0 v1 v2 v3 v4 v5;replace Hz:=kW Hz ae;replace Hs:=kB Hs ae;replace HU:=kT HU ae;replace Hv:=kB Hv ae;obtain⟨z0,z1,z2⟩:=Hz.out.w3;obtain⟨s0,s1,s2⟩:=Hs.out.c3;obtain⟨v0,v1,v2,v3,v4,v5⟩:=Hv.out.c6;replace Hb:=ak Hb ae;clear ae;refine hK _ _ (λ_=>⟨z0,z1,z2,s0,s1,s2⟩) ?_;clear hK K;try simp only[UU]
       refine pT rfl rfl ?_;try simp only[UU]
       refine aC rfl rfl (λK hK=>?_);have LQ:=HO.out.below Hb.out;have Mx:=cell_later Hb.out fH.out;have hfz:=Hpz.out cN LQ Mx;have pp:=hfz (j*3);have lN:=hfz (j*3+1);have EU:=hfz (j*3+2);have hup:=Hpk.out cN LQ Mx;have sO:=aH aY.out Hb.out;obtain⟨Kj,Al⟩:=aI hup sO;clear LQ Mx hfz hup sO;go_simp;refine hK _ _ (λh=>absurd h zd) ?_;clear hK K;try simp only[UU]
       simp only[aV];go_wp2;refine⟨⟨j+1,R2,by omega,by go_num,ye.out.1,ye.out.2,Hen.out,Kj.out,λi hi=>?_,?_,?_⟩,by simp[intOf];omega⟩
       . have hne:(⟨go,i,none⟩:Addr).block≠g:=λe=>hg3 e.symm;exact aG (.inl hne) (aG (.inl hne) (aG (.inl hne) (cell_later Hb.out (Hcc.out i hi))))
       . have hne:g≠w8.heap.size:=by omega
         exact((Hs.out.ard _ hne _).ard _ hne _).ard _ hne _
       . exact((Al.out.setCell hg1 _).setCell hg1 _).setCell hg1 _
     . obtain rfl:j=n:=by omega
       have iX:(∀a b,a<j->b<j->cz R a b=if iQ (k+1) 0 a b then F a b*G else F a b):=by
        intro a b ha hb;rw[hRe a b ha hb];have:iQ k j a b↔iQ (k+1) 0 a b:=by unfold iQ;omega
        by_cases h:iQ k j a b
        . rw[if_pos h,if_pos (this.1 h)]
        . rw[if_neg h,if_neg (λh2=>h (this.2 h2))]
       have hres:(∃k' R,k'<=j/\k'=k+1/\R.length=j/\(∀r∈R,r.length=j)/\(∀a b,a<j->b<j->cz R a b=if iQ k' 0 a b then F a b*G else F a b)/\eY wr w5.heap.size j R j (.slice (some ⟨go,0,none⟩) j cv)/\(∀i,i<j->wr.cell? ⟨go,i,none⟩=some (.slice (some ⟨(gI i).1,0,none⟩) j (gI i).2))/\aj wr w8.heap.size 39 [.bool (ai (dN G)),.string (bs (nt (dN G).natAbs)),.int .i64 (dE G)]/\Bw w5 wr):=⟨k+1,R,by omega,rfl,pE,pF,iX,hO,hc,hs,pb⟩;have fJ:=af hres;clear hres iX pE pF hRe hO hc hs pb;go_wp2;go_roundw;case rel=>obtain⟨k',R,h1,rfl,h⟩:=fJ.out;exact⟨k+1,R,h1,by go_num,h⟩
       case measure=>simp[intOf];omega
  . obtain rfl:k=n:=by omega
    have hRf:R=oW k P:=rX.out R pE pF (λa b ha hb=>by rw[hRe a b ha hb,if_pos (by unfold iQ;omega)]);subst hRf;obtain⟨HOk,aY⟩:=aI hO pb;clear hO hc hs pb pE pF hRe;obtain⟨Hr,Hd,Hb⟩:=cC (lG.out.below aY.out) (Ql.out.below aY.out) (aH eQ.out aY.out);obtain⟨r0,ag,r1,ah,r2,au⟩:=Hr.out.g3;obtain⟨d0,d1,d2⟩:=Hd.out.c3;go_wp2_with fail;refine(mF.out _ Hb.out).mono ?_;rintro e mA ⟨rfl,ux,ae⟩;clear r0 ag r1 ah r2 au d0 d1 d2;replace Hr:=kB Hr ae;replace Hd:=kB Hd ae;obtain⟨r0,ag,r1,ah,r2,au⟩:=Hr.out.g3;obtain⟨d0,d1,d2⟩:=Hd.out.c3;replace Hb:=ak Hb ae;clear ae;have aaE:=af (HOk.out.below ux);clear ux;have hzz:=eQ.out.size;have jm:w.heap.size<w5.heap.size:=Nat.lt_of_lt_of_le lG.out.lt (Nat.le_refl _);go_wp2;refine dw (λqA=>aj qA w.heap.size 39 [.bool (ai (dN (G*X))),.string (bs (nt (dN (G*X)).natAbs)),.int .i64 (dE (G*X))]/\eY qA w5.heap.size k (oW k P) k (.slice (some ⟨go,0,none⟩) k cv)/\Bw w qA) ⟨((Hr.out.set 0 _).set 1 _).set 2 _,((aaE.out.arp jm _).arp jm _).arp jm _,((Hb.out.setCell zp _).setCell zp _).setCell zp _⟩ ?_;rintro qA ⟨ah3,ahW,ahq⟩;obtain⟨q0,q1,q2⟩:=ah3.c3;obtain⟨a9,c9,mV,FC,Gp⟩:=ahW.tbl (Ky _ _) (Kz _ _);simp only[Value.slice.injEq,true_and]at mV;obtain⟨rfl,rfl⟩:=mV;exact bodyPost_ret (v:=.tuple #[bK (G*X),.slice (some ⟨go,0,none⟩) k cv,.int .i64 0]) (by simp[results,Tryz.results96,go_sem,q0,q1,q2]) rfl ⟨_,_,rfl,FC,Gp,ahq⟩
theorem akv {w:World}{b base n:Nat}{e:TypeId}{size:Nat}{xs:List Value}(h:aj w b e xs)(hb:base<=b)(hl:xs.length=n*size)(hn:n<=1048576):w.ownsRow base e size (.slice (some ⟨b,0,none⟩) n n) n xs:=
 ⟨hl,.inr ⟨b,n,xs.toArray,rfl,hb,h,Nat.le_refl _,by unfold maxLen;omega,by simpa using hl,by rw[<-hl];simp⟩⟩
theorem cE.aru {w:World}{a:Option Addr}{T:List (List Dyadic)}{n:Nat}(h:cE w a (T.map λr=>r.map canon))(hl:T.length=n)(hr:∀r∈T,r.length=n)(k i:Nat)(hk:k<n)(hi:i<n):
 ∃b o br os cr,a=some ⟨b,o,none⟩/\w.cell? ⟨b,o+k,none⟩=some (.slice (some ⟨br,os,none⟩) n cr)/\bN w br (os+i*3) [.bool (ai (dN (cz T k i))),.string (bs (nt (dN (cz T k i)).natAbs)),.int .i64 (dE (cz T k i))]:=by
 have FZ:k<T.length:=by omega
 obtain⟨b,o,a',c',h1,h2,h3⟩:=h.row k (by simpa using FZ);have e1:(T.map λr=>r.map canon)[k]'(by simpa using FZ)=T[k].map canon:=by simp
 have hlk:=hr _ (List.getElem_mem FZ);rw[e1]at h2 h3;rw[List.length_map,hlk]at h2;have hik:i<T[k].length:=by omega
 have e2:cz T k i=T[k][i]:=by unfold cz;simp[List.getD_eq_getElem?_getD,FZ,hik]
 obtain⟨br,os,e3,q0,q1,q2⟩:=h3.num i (by simpa using hik) (show(T[k].map canon)[i]'(by simpa using hik)=(ai (dN (cz T k i)),nt (dN (cz T k i)).natAbs,dE (cz T k i))by rw[e2];simp;rfl);subst e3;exact⟨b,o,br,os,c',h1,h2,oF q0 q1 q2⟩
theorem ak2 {n B:Nat}{rows:List (List Raw)}(hr:Rw n B rows)(a b:Nat)(ha:a<=n)(hb:b<n):Sm B (eo rows a b):=by have hL:=hr.1;rw[rR rows a b zo (by rw[hr.2.1 _ (List.getElem_mem _)];exact hb)];exact(hr.2.2 _ (List.getElem_mem _) _ (List.getElem_mem _)).2
theorem Ls {V B:Nat}{l:List aN}(hV:V<=12)(hm:∀t∈l,fY t.1 V=true)(hl:l.length<=4096)(hs:∀x∈l,Sm B (ar x.2))(hB:B+l.length<=268435456):ju V (B+l.length) (cp l):=by refine⟨afd hV hm hl,λt ht=>?_⟩;have h1:=afe hs t ht;have h2:=((Bt l).2 t ht).2;rw[h2];exact h1.fit hB
theorem ju.mono {V B B':Nat}{ts:List aN}(h:ju V B ts)(hB:B<=B'):ju V B' ts:=⟨h.1,λt ht=>(h.2 t ht).mono hB⟩
theorem NC {V B:Nat}{c:Dyadic}{l:Nat->Dyadic}{k:Nat}(hV:V<=12)(hk:k<=V)(hc:Sm B c)(hl:∀j,j<k->Sm B (l j))(hB:B+13<=268435456):ju V (B+13) (dO V c l k):=by have h:=Ls (B:=B) hV (aiP V c l k) (by rw[zz];omega) (aiQ V c l k hc hl) (by rw[zz];omega);rw[zz]at h;exact h.mono zo
theorem ZE {V B:Nat}{k:Nat}{x:Dyadic}(hV:V<=12)(hx:Sm B x)(hB:B+1<=268435456):ju V (B+1) (cp [(dR V k,canon x)]):=
 Ls (l:=[(dR V k,canon x)]) hV (by intro t ht;simp at ht;subst ht;exact OZ V k) zm (by intro t ht;simp at ht;subst ht;show Sm B (ar (canon x));rw[bM];exact hx) (by simpa using hB)
theorem alM (V k:Nat)(x:Dyadic):cp (fy x (cp [(dR V k,canon 1)]))=cp [(dR V k,canon x)]:=by refine yw (λm=>?_);rw[Sr,sG];simp only[cB,bM];split<;>grind
theorem Rx (V B:Nat)(A D C:List aN)(aA aD:Option Addr)(cA cD:Nat)(w:World)(b:Nat)(hb:aj w b 91 [.int .i64 (V:Int),.slice aA A.length cA,.int .i64 (V:Int),.slice aD D.length cD])(hA:di w aA cA A)(hD:di w aD cD D)(hfA:ju V B A)(hfD:ju V B D)(hn:A.length+D.length<=4096)(hB:B+2+8192<=268435456)(hT:az w)(hC:cp (A++D)=C):
 Calls Tryz.prog 101 #[.slice (some ⟨b,0,none⟩) 2 2] w λex w'=>∃a' c',ex=.returned (.tuple #[.agg #[.int .i64 (V:Int),.slice a' C.length c'],.int .i64 0])/\di w' a' c' C/\Bw w w':=by
 refine adO V B b 0 2 2 [⟨V,aA,A.length,cA⟩,⟨V,aD,D.length,cD⟩] (λk=>if k=0 then A else D) C w rfl zd zd (At.arc hb) ?_ ?_ hB hT ?_
 . intro k hk;rcases k with _|k
   . exact⟨aA,cA,rfl,hA,hfA⟩
   . obtain rfl:k=0:=by simp at hk;omega
     exact⟨aD,cD,rfl,hD,hfD⟩
 . simp[kI];omega
 . simpa[kI]using hC
theorem aiU (V B:Nat)(c:Dyadic)(L:List Dyadic)(l:Nat->Dyadic)(a:Option Addr)(cap:Nat)(w:World)(hV:V<=12)(hL:L.length=V)(hl:∀k (h:k<L.length),l k=L[k])(hcs:Sm B c)(hls:∀x∈L,Sm B x)(hB:B<=100000000)(ha:At w a (dC L))(hT:az w):
 Calls Tryz.prog 99 #[.agg #[.bool (ai (dN c)),.string (bs (nt (dN c).natAbs)),.int .i64 (dE c)],.slice a V cap] w λex w'=>∃a' c',ex=.returned (.tuple #[.agg #[.int .i64 (V:Int),.slice a' (dO V c l V).length c'],.int .i64 0])/\di w' a' c' (dO V c l V)/\Bw w w':=by
 have hcn:=λW (hW:Bw w W)=>Ss V (ai (dN c)) (nt (dN c).natAbs) (dE c) c B l W hV (hcs.fit zo) zo (hT.below hW) (bM c);have ze:=λk (hk:k<V) W (hW:Bw w W)=>amO V k W hV hk (hT.below hW);have hlk:∀k,k<V->Sm B (l k):=λk hk=>by rw[hl k zo];exact hls _ (List.getElem_mem _)
 have hsc:=λk (hk:k<V) a' c' (W:World) (hW:Bw w W) (hp:di W a' c' (cp [(dR V k,canon 1)]))=>YG V a' c' (cp [(dR V k,canon 1)]) (ai (dN (l k))) (nt (dN (l k)).natAbs) (dE (l k)) (l k) (B+2) W (ZE (B:=B+1) hV (Sm.one.mono zo) zo) hp (((hlk k hk).mono zo).fit zo) zo (hT.below hW) (bM _);simp only[alM]at hsc;have had:=λk (hk:k<V) aA cA aD cD (W:World) (hW:Bw w W) b (hb:aj W b 91 [.int .i64 (V:Int),.slice aA (dO V c l k).length cA,.int .i64 (V:Int),.slice aD (cp [(dR V k,canon (l k))]).length cD]) (hA:di W aA cA (dO V c l k)) (hD:di W aD cD (cp [(dR V k,canon (l k))]))=>Rx V (B+13) (dO V c l k) (cp [(dR V k,canon (l k))]) (dO V c l (k+1)) aA aD cA cD W b hb hA hD (NC hV zo hcs (λj hj=>hlk j zo) zo) ((ZE (B:=B) hV (hlk k hk) zo).mono zo) (by have h1:=Bu (gB V c l k);have h2:=Bu [(dR V k,canon (l k))];rw[zz]at h1;simp at h2;unfold dO;omega) zo (hT.below hW) (aiR V c l k);obtain⟨n0,hn0⟩:=aB ((dO V c l 0).length);rw[hn0]at hcn;obtain⟨rW,Hvr,vP,vF,Hl,HL,Ha,sf⟩:=mo hcn ze hsc had hl hL ha hn0;clear hcn ze hsc had hl hL ha hT hlk hls hcs hn0;have Hb:Hid (Bw w w):=Below.refl _ _;go_enter Tryz.func99,Tryz.ntmps99;go_wp2_with fail;obtain⟨R,hR⟩:∃R:World->Prop,(λW=>aj W (w.heap.size) 39 [.bool (ai (dN c)),.string (bs (nt (dN c).natAbs)),.int .i64 (dE c)]/\aj W (w.heap.size+1) 91 [.int .i64 0,.slice none 0 0]/\Bw w W)=R:=⟨_,rfl⟩;first|refine bP R ?hR ?_|refine bO R ?hR ?_
 case hR=>subst hR;exact⟨((aj.newAt w _ _ (b:=w.heap.size) rfl).alloc _),(aj.newAt (w.alloc _) _ _ (b:=w.heap.size+1) zm),(zl.alloc zj _)⟩
 subst hR;rintro W ⟨qc,qr,ae⟩;have Hc:=af qc;clear qc;have Hr:=af qr;clear qr;obtain⟨c0,c1,c2⟩:=Hc.out.c3;obtain⟨r0,ag,r1,ah⟩:=Hr.out.g2;replace Hb:=ak Hb ae;clear ae;go_wp2_with fail;refine(rW.out _ Hb.out).mono ?_;rintro e w1 ⟨a1,d1,rfl,hp1,ae⟩;clear c0 c1 c2 r0 ag r1 ah;replace Hc:=kB Hc ae;replace Hr:=kB Hr ae;obtain⟨c0,c1,c2⟩:=Hc.out.c3;obtain⟨r0,ag,r1,ah⟩:=Hr.out.g2;replace Hb:=ak Hb ae;clear ae;have Jc:=Hc;have lG:=Hr;have eQ:=Hb;have ij:=af hp1;clear hp1;have ajg:=Hc.out.lt;have ov:=Hr.out.lt;obtain⟨W2,lQ,ae,Ho⟩:=cf w1 91 [.int .i64 (V:Int),.slice a1 n0 d1];clear c0 c1 c2;replace Hc:=kB Hc ae;clear r0 ag r1 ah;replace Hr:=kB Hr ae;obtain⟨c0,c1,c2⟩:=Hc.out.c3;obtain⟨r0,ag,r1,ah⟩:=Hr.out.g2;obtain⟨o0,gV,o1,gW⟩:=Ho.out.g2;replace Hb:=ak Hb ae;clear ae;have tZ:Hid (di W2 a1 d1 (dO V c l 0)):=ij.out.below (by first|exact zl| (rw[<-lQ];exact zl));have Pw:Hid (Bw w1 W2):=by rw[<-lQ];exact zl
 go_wp2_with fail;go_loopw[7,8] (λs7 x wr=>∃(k:Nat) (a':Option Addr) (n' c':Nat),k<=V/\x=.int .i64 (k:Int)/\s7=.int .i64 0/\(dO V c l k).length=n'/\aj wr w1.heap.size 91 [.int .i64 (V:Int),.slice a' n' c']/\di wr a' c' (dO V c l k)/\Bw w1 wr) (λ_ x _=>V-(intOf x).toNat);case atStart=>exact⟨0,a1,n0,d1,Nat.zero_le _,rfl,rfl,sf.out,Ho.out,tZ.out,Pw.out⟩
 case round=>
  clear c0 c1 c2 o0 o1 r0 r1 gV gW ag ah tZ Pw ij Ho Hc Hr Hb;obtain⟨k,a',n',c',hk,rfl,rfl,hn,ho,hp,pb⟩:=hrel;obtain⟨Ho,Hp,aY,Hn⟩:=cX ho hp pb hn;have eW:=eQ.out;have lh:=pb.size;have rU:=eW.size;by_cases hlt:k<V
  . have wH:k<(L.map canon).length:=by rw[List.length_map,HL.out];exact hlt
    have hat':=Ha.out.below (aH eQ.out pb);rw[BA]at hat';obtain⟨X,hX⟩:=aB (l k);obtain⟨bx,ox,rfl,p0,p1,p2⟩:=hat'.num k wH (show(L.map canon)[k]=(ai (dN X),nt (dN X).natAbs,dE X)by rw[<-hX,Hl.out k (by simpa using wH)];simp;rfl);have ixx:=td V cap k (k:Int) (rfl:(some ⟨bx,ox,none⟩:Option Addr)=_) hlt rfl;have lbx:bx<wr.heap.size:=World.block_lt_of_cell? wr _ p0;have ze:=Hvr.out k hlt;have hsc:=vP.out k hlt;have had:=vF.out k hlt;rw[hn,hX]at had;rw[hX]at hsc;obtain⟨n1,dY⟩:∃n,(cp [(dR V k,canon 1)]).length=n:=⟨_,rfl⟩;obtain⟨n2,iX⟩:∃n,(cp [(dR V k,canon X)]).length=n:=⟨_,rfl⟩;obtain⟨n3,od⟩:∃n,(dO V c l (k+1)).length=n:=⟨_,rfl⟩;rw[iX,od]at had;rw[dY,iX]at hsc;rw[dY]at ze;obtain⟨lI,qU,IW,JP⟩:=cX ze hsc had od;have Hx:Hid (bN wr bx (ox+k*3) [.bool (ai (dN X)),.string (bs (nt (dN X).natAbs)),.int .i64 (dE X)]):=oF p0 p1 p2;have ie:=af (aH eQ.out pb);clear ze hsc had dY iX od hat' wH hX p0 p1 p2 ho hp pb hn eW;have Hb:Hid (Bw wr wr):=Below.refl _ _;have hlo:=Ho.out.lt;obtain⟨o0,gV,o1,gW⟩:=Ho.out.g2;obtain⟨x0,x1,x2⟩:=Hx.out.w3;go_wp2_with fail;refine(lI.out _ (aH ie.out Hb.out)).mono ?_;rintro e w3 ⟨a3,d3,rfl,Cz,ae⟩;clear o0 gV o1 gW x0 x1 x2;replace Ho:=kB Ho ae;replace Hx:=kW Hx ae;obtain⟨o0,gV,o1,gW⟩:=Ho.out.g2;obtain⟨x0,x1,x2⟩:=Hx.out.w3;replace Hb:=ak Hb ae;clear ae;have nH:=af Cz;have Dn:=Hb.out.size;clear Cz;have ajm:=Ho.out.lt;obtain⟨W4,jX,ae,Hv⟩:=cf w3 91 [.int .i64 (V:Int),.slice a3 n1 d3];clear o0 gV o1 gW;replace Ho:=kB Ho ae;clear x0 x1 x2;replace Hx:=kW Hx ae;obtain⟨o0,gV,o1,gW⟩:=Ho.out.g2;obtain⟨x0,x1,x2⟩:=Hx.out.w3;obtain⟨v0,Lv,v1,Lx⟩:=Hv.out.g2;replace Hb:=ak Hb ae;clear ae;have HQ:Hid (di W4 a3 d3 (cp [(dR V k,canon 1)])):=nH.out.below (by first|exact zl| (rw[<-jX];exact zl));go_wp2_with fail;refine cd (λw'=>w'.cell? ⟨bx,ox+k*3,none⟩=some (.bool (ai (dN X)))/\w'.cell? ⟨bx,ox+k*3+1,none⟩=some (.string (bs (nt (dN X).natAbs)))/\w'.cell? ⟨bx,ox+k*3+2,none⟩=some (.int .i64 (dE X))) (λi=>Nat.blt i 100000) [(1,true),(2,true),(3,true),(4,true),(0,false),(5,false),(6,true),(7,true),(8,true),(9,false)] zk zk rfl zk zc ⟨x0,x1,x2⟩ ?_;iterate 4 (refine pT rfl rfl ?_ (by intro w' ⟨q0,q1,q2⟩;go_simp;try with_reducible rfl);try simp only[UU])
    refine aC rfl rfl (λK hK=>?_);go_simp;refine hK _ _ (λ_=>⟨x0,x1,x2⟩) ?_;clear hK K;try simp only[UU]
    refine aC rfl rfl (λK hK=>?_);go_simp;with_reducible refine(qU.out a3 d3 _ (by first|exact aH ie.out Hb.out|exact aH ie.out Hb.out.drew) (by first|exact HQ.out|exact HQ.out.below (Below.refl _ _).drew)).mono ?_
    rintro e w5 ⟨a5,d5,rfl,VS,hq⟩;have ae:Bw W4 w5:=by first|exact hq|exact aO hq
    clear o0 gV o1 gW x0 x1 x2 v0 Lv v1 Lx;replace Ho:=kB Ho ae;replace Hx:=kW Hx ae;replace Hv:=kB Hv ae;replace HQ:=af (HQ.out.below ae);obtain⟨o0,gV,o1,gW⟩:=Ho.out.g2;obtain⟨x0,x1,x2⟩:=Hx.out.w3;obtain⟨v0,Lv,v1,Lx⟩:=Hv.out.g2;replace Hb:=ak Hb ae;clear ae;refine hK _ _ (λ_=>⟨x0,x1,x2⟩) ?_;clear hK K;try simp only[UU]
    iterate 3 (refine pT rfl rfl ?_;try simp only[UU])
    refine aC rfl rfl (λK hK=>?_);go_simp;refine hK _ _ (by first|exact λh=>absurd h zd|exact λ_=>⟨x0,x1,x2⟩ |exact λ_=>⟨(by first|exact x0|exact aG zf x0|exact aG zf (aG zf x0) |exact aG zf (aG zf (aG zf x0))),(by first|exact x1|exact aG zf x1|exact aG zf (aG zf x1) |exact aG zf (aG zf (aG zf x1))),(by first|exact x2|exact aG zf x2|exact aG zf (aG zf x2) |exact aG zf (aG zf (aG zf x2)))⟩) ?_;clear hK K;try simp only[UU]
    simp only[aV];have za:=Hv.out;generalize Cf:(w5.setCell ⟨w3.heap.size,0,none⟩ (.int .i64 (V:Int))).setCell ⟨w3.heap.size,1,none⟩ (.slice a5 n2 d5)=W6;have VT:di W6 a5 d5 (cp [(dR V k,canon X)]):=by rw[<-Cf];exact VS.store za zd _ _
    have Cw:aj W6 w1.heap.size 91 [.int .i64 (V:Int),.slice a' n' c']:=by rw[<-Cf];exact(Ho.out.so w3.heap.size 0 zo _).so w3.heap.size 1 zo _
    have cV:aj W6 w3.heap.size 91 [.int .i64 (V:Int),.slice a5 n2 d5]:=by rw[<-Cf];exact(za.set 0 _).set 1 _
    have Ur:Bw wr W6:=by rw[<-Cf];exact(Hb.out.setCell Dn _).setCell Dn _
    replace Ho:=af Cw;replace Hv:=af cV;replace Hb:=af Ur;have Hp6:=af VT;clear Cw cV Ur VT VS za Cf o0 o1 gV gW v0 v1 Lv Lx x0 x1 x2;obtain⟨o0,gV,o1,gW⟩:=Ho.out.g2;obtain⟨v0,v1⟩:=Hv.out.c2;have P0:=o0;have P1:=o1;have Q0:=v0;have Q1:=v1;have apU:=Ho.out.lt;have aqj:=Hv.out.lt;obtain⟨W7,ahk,ae,Hz⟩:=cf W6 91 [.int .i64 (V:Int),.slice a' n' c',.int .i64 (V:Int),.slice a5 n2 d5];clear o0 gV o1 gW;replace Ho:=kB Ho ae;clear v0 v1;replace Hv:=kB Hv ae;obtain⟨o0,gV,o1,gW⟩:=Ho.out.g2;obtain⟨v0,v1⟩:=Hv.out.c2;obtain⟨z0,z1,z2,z3⟩:=Hz.out.c4;replace Hb:=ak Hb ae;clear ae;have HP:Hid (di W7 a' c' (dO V c l k)):=Hp.out.below Hb.out;have HS:Hid (di W7 a5 d5 (cp [(dR V k,canon X)])):=Hp6.out.below (by first|exact zl| (rw[<-ahk];exact zl));go_wp2_with fail;clear P0 P1 Q0 Q1;go_wp2_with fail;refine(IW.out _ _ _ _ _ (aH ie.out Hb.out) _ Hz.out HP.out HS.out).mono ?_;rintro e w8 ⟨a8,d8,rfl,VV,ae⟩;clear o0 gV o1 gW v0 v1 z0 z1 z2 z3;replace Ho:=kB Ho ae;replace Hv:=kB Hv ae;replace Hz:=kB Hz ae;replace HP:=af (HP.out.below ae);replace HS:=af (HS.out.below ae);obtain⟨o0,gV,o1,gW⟩:=Ho.out.g2;obtain⟨v0,v1⟩:=Hv.out.c2;obtain⟨z0,z1,z2,z3⟩:=Hz.out.c4;replace Hb:=ak Hb ae;clear ae;have Vo:=di.store VV Ho.out zd (.int .i64 (V:Int)) (.slice a8 n3 d8);obtain⟨Hl8,qN⟩:=aI Vo (aH aY.out Hb.out);clear VV Vo;go_wp2;go_roundw;case rel=>exact⟨k+1,a8,n3,d8,by omega,by go_num,rfl,JP.out,(Ho.out.set 0 _).set 1 _,Hl8.out,(qN.out.setCell (Nat.le_refl _) _).setCell (Nat.le_refl _) _⟩
    case measure=>simp[intOf];omega
  . obtain rfl:k=V:=by omega
    have Hr:=af (lG.out.below aY.out);have Hb:Hid (Bw w wr):=aH eQ.out aY.out;have hsz:=lG.out.lt;obtain⟨o0,o1⟩:=Ho.out.c2;obtain⟨r0,ag,r1,ah⟩:=Hr.out.g2;go_wp2;have jG:=Hp.out.store Hr.out zd (.int .i64 (k:Int)) (.slice a' n' c');refine dw (λw9=>di w9 a' c' (dO k c l k)/\aj w9 (w.heap.size+1) 91 [.int .i64 (k:Int),.slice a' n' c']/\Bw w w9) ⟨jG,(Hr.out.set 0 _).set 1 _,(Hb.out.setCell zp _).setCell zp _⟩ ?_;rintro w9 ⟨q1,q2,q3⟩;obtain⟨x0,x1⟩:=q2.c2;exact bodyPost_ret (v:=.tuple #[.agg #[.int .i64 (k:Int),.slice a' n' c'],.int .i64 0]) (by simp[results,Tryz.results99,go_sem,x0,x1]) rfl ⟨a',c',by rw[hn],q1,q3⟩
end Go.Proofs.YtoopepmmepmfnaaGreatDoor
namespace Go.Proofs.YtoopepmmepmfnaaGreatDoor
open Go.RowKit
def mh (n:Nat)(P:Nat->Nat->Dyadic)(i:Nat):List aN:=dO n (wC n P i) (λk=>jz n P k i) n
def xj (n:Nat)(P:Nat->Nat->Dyadic)(i:Nat):List aN:=cp (fy (-1) (mh n P i))
def jE (n:Nat)(P:Nat->Nat->Dyadic)(i:Nat):List aN:=dO n (wZ n P (λ_=>0) i) (λb=>lZ n P b i) n
def gy (n:Nat)(P:Nat->Nat->Dyadic)(i j:Nat):List aN:=if j=0 then jE n P i else mh n P (j-1)
def kJ (n:Nat)(P:Nat->Nat->Dyadic)(i k:Nat):List Dyadic:=(List.range k).map λk=>jz n P k i
theorem afn (n:Nat)(P:Nat->Nat->Dyadic)(i k:Nat):(kJ n P i k).length=k:=by simp[kJ]
theorem afm (n:Nat)(P:Nat->Nat->Dyadic)(i k j:Nat)(h:j<(kJ n P i k).length):(kJ n P i k)[j]=jz n P j i:=by simp[kJ]
theorem afo (n:Nat)(P:Nat->Nat->Dyadic)(i k:Nat):kJ n P i (k+1)=kJ n P i k++[jz n P k i]:=by unfold kJ;rw[List.range_succ,List.map_append];rfl
theorem amU (n:Nat)(P:Nat->Nat->Dyadic)(i k:Nat):wS n P (λ_=>0) i k-P 0 k*jz n P k i=wS n P (λ_=>0) i (k+1):=by
 show _=wS n P (λ_=>0) i k+(0-P 0 k) *jz n P k i
 grind
theorem agw (n:Nat)(P:Nat->Nat->Dyadic)(l:Nat->Dyadic):dO n (wZ n P (λ_=>0) 0) l 0=jE n P 0:=by
 unfold jE dO;refine yw (λm=>?_);have h:∀k,cB (gB n (wZ n P (λ_=>0) 0) (λb=>lZ n P b 0) k) m=cB (gB n (wZ n P (λ_=>0) 0) l 0) m:=by
  intro k;induction k with
  |zero=>rfl
  |succ k ih=>rw[EE,ih];simp[lZ]
 exact(h n).symm
theorem agv (n:Nat)(hn:1<=n)(cL:n<=4)(P:Nat->Nat->Dyadic)(i:Nat)(hi:i<n):cp (jE n P i++xj n P i)=jE n P (i+1):=by
 unfold jE xj mh;rw[aiS];have:wZ n P (λ_=>0) i-wC n P i=wZ n P (λ_=>0) (i+1):=by unfold wC;rw[ZN n hn cL P _ i hi];rfl
 rw[this];rfl
theorem Pq {B n:Nat}:∀b,b<n->Sm B ((λ_=>0:Nat->Dyadic) b):=λ_ _=>Sm.zero _
theorem ZJ {B n:Nat}{P:Nat->Nat->Dyadic}(hn:1<=n)(cL:n<=4)(h:∀a b,a<=n->b<n->Sm B (P a b))(i:Nat):Sm (5*B+20) (wC n P i):=(Pi hn cL h Pq i n (Nat.le_refl _)).mono zo
theorem aiE {B n:Nat}{P:Nat->Nat->Dyadic}(hn:1<=n)(cL:n<=4)(h:∀a b,a<=n->b<n->Sm B (P a b))(b i:Nat):Sm (4*B+11+i) (lZ n P b i):=by
 induction i with
 |zero=>exact Sm.zero _
 |succ i ih=>exact(Sm.sub ih ((Ev hn cL h b i).mono zo)).mono zo
theorem WS {B n:Nat}{P:Nat->Nat->Dyadic}(hn:1<=n)(cL:n<=4)(h:∀a b,a<=n->b<n->Sm B (P a b))(hB:B<=1000000)(i:Nat):ju n (5*B+33) (mh n P i):=
 NC (B:=5*B+20) zo (Nat.le_refl _) (ZJ hn cL h i) (λj _=>(Ev hn cL h j i).mono zo) zo
theorem agt {B n:Nat}{P:Nat->Nat->Dyadic}(hn:1<=n)(cL:n<=4)(h:∀a b,a<=n->b<n->Sm B (P a b))(hB:B<=1000000)(i:Nat)(hi:i<=n):ju n (5*B+33) (jE n P i):=
 NC (B:=5*B+20) zo (Nat.le_refl _) ((am2 hn cL h Pq i hi).mono zo) (λj _=>(aiE hn cL h j i).mono zo) zo
theorem WV (n:Nat)(c:Dyadic)(l:Nat->Dyadic)(k:Nat):(dO n c l k).length<=k+1:=by have:=Bu (gB n c l k);rw[zz]at this;exact this
theorem WT (n:Nat)(P:Nat->Nat->Dyadic)(i:Nat):(mh n P i).length<=n+1:=WV _ _ _ _
theorem agu (n:Nat)(P:Nat->Nat->Dyadic)(i:Nat):(jE n P i).length<=n+1:=WV _ _ _ _
theorem akf (n:Nat)(P:Nat->Nat->Dyadic)(i:Nat):(xj n P i).length<=n+1:=by have h:=Bu (fy (-1) (mh n P i));have h2:=WT n P i;unfold fy at h;rw[List.length_map]at h;unfold xj fy;omega
theorem ake {B n:Nat}{P:Nat->Nat->Dyadic}(hn:1<=n)(cL:n<=4)(h:∀a b,a<=n->b<n->Sm B (P a b))(hB:B<=1000000)(i:Nat):ju n (5*B+40) (xj n P i):=by
 have hf:=WS hn cL h hB i;have hl:=WT n P i;have hsl:(fy (-1) (mh n P i)).length=(mh n P i).length:=by unfold fy;rw[List.length_map]
 refine(Ls (V:=n) (B:=5*B+35) (l:=fy (-1) (mh n P i)) zo ?_ zo ?_ zo).mono zo
 . intro t ht;unfold fy at ht;obtain⟨x,hx,rfl⟩:=List.mem_map.1 ht;exact hf.1.2.1 x hx
 . intro t ht;unfold fy at ht;obtain⟨x,hx,rfl⟩:=List.mem_map.1 ht;show Sm _ (ar (canon (ar x.2* -1)))
   rw[bM];exact(Sm.mul (hf.2 x hx).2 (Sm.neg Sm.one)).mono zo
theorem ak3 (ps:List Pv)(V:Int)(a:Option Addr)(n c:Nat):(((ps.flatMap jb).set 0 (.int .i64 V)).set 1 (.slice a n c))=(ps.set 0 ⟨V,a,n,c⟩).flatMap jb:=by
 cases ps with
 |nil=>rfl
 |cons p ps=>rfl
theorem akY {W:World}{V B:Nat}{ps:List Pv}{Ts:Nat->List aN}{a:Option Addr}{c:Nat}{C:List aN}(h:gG W V B ps Ts)(hT:Ts ps.length=C)(hp:di W a c C)(hf:ju V B C):gG W V B (ps++[⟨(V:Int),a,C.length,c⟩]) Ts:=by
 intro k hk;by_cases hl:k<ps.length
 . obtain⟨a',c',h1,h2,h3⟩:=h k hl;exact⟨a',c',by rw[List.getElem_append_left hl];exact h1,h2,h3⟩
 . have e:k=ps.length:=by simp at hk;omega
   subst e;exact⟨a,c,by simp[hT],by rw[hT];exact hp,by rw[hT];exact hf⟩
theorem akZ {W:World}{V B:Nat}{ps:List Pv}{Ts Ts':Nat->List aN}{a:Option Addr}{c:Nat}{C:List aN}(h:gG W V B ps Ts)(hs:∀j,0<j->Ts' j=Ts j)(h0:Ts' 0=C)(hp:di W a c C)(hf:ju V B C):gG W V B (ps.set 0 ⟨(V:Int),a,C.length,c⟩) Ts':=by
 intro k hk;rw[List.length_set]at hk;rcases k with _|k
 . exact⟨a,c,by simp[h0],by rw[h0];exact hp,by rw[h0];exact hf⟩
 . obtain⟨a',c',h1,h2,h3⟩:=h (k+1) hk;rw[<-hs (k+1) zo]at h1 h2 h3;exact⟨a',c',by simp[h1],h2,h3⟩
theorem gG.off {W:World}{V B:Nat}{ps:List Pv}{Ts:Nat->List aN}{g:Nat}{cur:Array Value}{t:TypeId}(h:gG W V B ps Ts)(hg:W.heap[g]?=some (.cells cur t))(ht:t≠93)(i:Nat)(u:Value):gG (W.setCell ⟨g,i,none⟩ u) V B ps Ts:=λk hk=>by obtain⟨a,c,h1,h2,h3⟩:=h k hk;exact⟨a,c,h1,h2.off hg ht i u,h3⟩
theorem XW {w:World}{base:Nat}{e:TypeId}{size n cap g:Nat}{xs:List Value}(h:w.ownsRow base e size (.slice (some ⟨g,0,none⟩) n cap) n xs):∃cur,w.heap[g]?=some (.cells cur e):=by
 rcases h.2 with⟨h1,_⟩ |⟨g',cap',cur,h1,hb,hg,_⟩
 . simp at h1
 . simp only[Value.slice.injEq,Option.some.injEq,Addr.mk.injEq,and_true,true_and]at h1;obtain⟨rfl,rfl⟩:=h1;exact⟨cur,hg⟩
theorem di.grown {w w':World}{r:Option Nat}{a:Option Addr}{c:Nat}{C:List aN}(h:di w a c C)(hg:w.grownBy w' r)(hr:∀g,r=some g->∃cur t,w.heap[g]?=some (.cells cur t)/\t≠93):di w' a c C:=by
 refine⟨?_,h.2.1,?_⟩
 . rcases h.2.2 with h'|⟨b,o,cur',rfl,h2⟩
   . subst h';exact .inl rfl
   . have hne:some b≠r:=λe=>by obtain⟨cur,t,h3,h4⟩:=hr b e.symm;rw[h3]at h2;simp at h2;exact h4 h2.2
     rcases h.1 with h1|⟨b1,o1,e1,hc⟩
     . exact .inl h1
     . simp only[Option.some.injEq,Addr.mk.injEq,and_true]at e1;obtain⟨rfl,rfl⟩:=e1;refine .inr ⟨b,o,rfl,λj hj=>?_⟩;have h9:=hc j hj;rw[<-h9];have hk:=hg.block b (Array.getElem?_eq_some_iff.1 h2).1 hne;simp only[World.cell?,hk]
 . rcases h.2.2 with h'|⟨b,o,cur',rfl,h2⟩
   . exact .inl h'
   . have hne:some b≠r:=λe=>by obtain⟨cur,t,h3,h4⟩:=hr b e.symm;rw[h3]at h2;simp at h2;exact h4 h2.2
     exact .inr ⟨b,o,cur',rfl,by rw[hg.block b (Array.getElem?_eq_some_iff.1 h2).1 hne];exact h2⟩
theorem gG.grown {W w':World}{V B:Nat}{ps:List Pv}{Ts:Nat->List aN}{r:Option Nat}(h:gG W V B ps Ts)(hg:W.grownBy w' r)(hr:∀g,r=some g->∃cur t,W.heap[g]?=some (.cells cur t)/\t≠93):gG w' V B ps Ts:=λk hk=>by obtain⟨a,c,h1,h2,h3⟩:=h k hk;exact⟨a,c,h1,h2.grown hg hr,h3⟩
theorem aky {w:World}{base:Nat}{e:TypeId}{size n:Nat}{v:Value}{xs:List Value}(h:w.ownsRow base e size v n xs):∀g,v.ownBlock=some g->∃cur t,w.heap[g]?=some (.cells cur t)/\t=e:=by
 intro g hg;rcases h.2 with⟨rfl,_⟩ |⟨g',cap',cur,rfl,_,hg2,_⟩
 . simp[Value.ownBlock]at hg
 . have:g'=g:=by simpa[Value.ownBlock]using hg
   subst this;exact⟨cur,e,hg2,rfl⟩
theorem Tryz.arB :(Tryz.prog.info? 91).map (λi=>(i.zero,i.size,i.bytes))=some (some (.agg #[.int .i64 0,.slice none 0 0]),2,32):=by kernel_rfl
end Go.Proofs.YtoopepmmepmfnaaGreatDoor
