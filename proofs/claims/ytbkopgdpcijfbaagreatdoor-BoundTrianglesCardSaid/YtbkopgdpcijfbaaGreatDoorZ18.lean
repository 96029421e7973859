/- Package slices: Clone,Delete,over numbers. -/
import Derived.Test.YtbkopgdpcijfbaaGreatDoorZ7
import Derived.Test.YtbkopgdpcijfbaaGreatDoorZ15
import Derived.Lib.SliceRun
import Derived.Test.YtbkopgdpcijfbaaGreatDoorZ17
import Derived.Test.YtbkopgdpcijfbaaGreatDoorZ14
import Derived.Test.YtbkopgdpcijfbaaGreatDoorZ13
import Derived.Test.YtbkopgdpcijfbaaGreatDoorZ16
set_option linter.all false
set_option maxRecDepth 100000
set_option maxHeartbeats 16000000
namespace Go.Proofs.YtbkopgdpcijfbaaGreatDoor
open Go.RowKit
attribute [local go_sem ↓] Go.wp_at_zero Go.wp_at_succ
def aqf (a:Option Addr)(n cap:Nat)(aS:List Raw)(w:World)(hn:aS.length=n)(hl:n<=1048576)(hs:a=none->n=0/\cap=0)(ha:At w a (aS.flatMap bu)):
 Cl 96 #[.slice a n cap] w λe w'=>∃v',e=.returned v'/\w'.ownsRow w.heap.size 30 3 v' n (aS.flatMap bu)/\Bw w w':=by
 obtain⟨i0,hi,hz0,hz1,hz2⟩:=info_parts Tryz.aGt;have q:=λ(w:World) (a:Option Addr) (n c n' c':Nat)=>Lib.run_eql_slice_nil (P:=Tryz.prog) w 35 30 a n c n' c' Tryz.underlying35;have hlen:(aS.flatMap bu).length=n*3:=by rw[kQ bu 3 (λ_=>rfl),hn]
 obtain⟨cs,hcs⟩:=aB (aS.flatMap bu);have h1:=Pd aS;rw[hcs]at hlen ha h1⊢;obtain⟨jA,Ha,H1,Hs,Hi,eu,ey,dM⟩:=jZ hlen ha h1 hs hi hz0 hz1 hz2;clear hlen ha h1 hs hi hz0 hz1 hz2 hn hcs;cases a with
 |none=>obtain⟨hn0,hc⟩:=Hs.out rfl;subst hc;subst hn0;go_enter Tryz.func96,Tryz.ntmps96;go_wp2;go_ret;refine⟨_,rfl,?_,Below.refl _ _⟩;have e:cs=[]:=List.eq_nil_of_length_eq_zero (by have:=jA.out;omega);rw[e];exact World.ownsRow_nil _ _ _ _
 |some ad=>go_enter Tryz.func96,Tryz.ntmps96;go_wp2_with (at_builtin;refine aj0 rfl _ _ 35 rfl w.heap.size 30 i0 _ 3 32 Tryz.underlying35 Hi.out eu.out ey.out dM.out rfl zd _ 0 [] rfl (World.ownsRow_made w #[] 0 (Nat.le_refl _) (Nat.zero_le _) zm) (some ad) n cap cs rfl Hs.out jA.out (Ha.out.below ((Below.refl _ w).alloc (Nat.le_refl _) _)) H1.out zx zo zm ?_;intro v' w1 hown hgrow kx);go_ret;refine⟨v',rfl,by simpa using hown,?_⟩;exact((Below.refl _ w).alloc (Nat.le_refl _) _).grown hgrow zm (λk hk=>by have h9:w.heap.size=k:=Option.some.inj hk;omega)
def Tryz.aGE (w:World):(zeroValue 30).run Tryz.prog w=.ok (.agg #[ag false,.string ⟨#[]⟩,af 0]) w:=by kernel_rfl
def arF {α:Type}(f:α->List Value)(sz:Nat)(hf:∀x,(f x).length=sz)(xs:List α)(i:Nat)(hi:i<xs.length):(xs.eraseIdx i).flatMap f=(xs.flatMap f).take (i*sz)++(xs.flatMap f).drop ((i+1) *sz):=by
 have e:xs=xs.take i++xs[i]::xs.drop (i+1):=by rw[List.getElem_cons_drop,List.take_append_drop]
 have hl:((xs.take i).flatMap f).length=i*sz:=by rw[kQ f sz hf,List.length_take,Nat.min_eq_left zo]
 have e1:xs.flatMap f=(xs.take i).flatMap f++(f xs[i]++(xs.drop (i+1)).flatMap f):=by
  conv=>lhs;rw[e]
  rw[List.flatMap_append,List.flatMap_cons]
 rw[e1,List.take_left' hl,List.drop_append,hl,List.drop_of_length_le (by rw[hl,Nat.add_mul];omega)];rw[show(i+1) *sz-i*sz=sz by rw[Nat.add_mul,Nat.one_mul];omega,List.nil_append,List.drop_left' (hf _),List.eraseIdx_eq_take_drop_succ,List.flatMap_append]
def aqP (g m cap i base:Nat)(aS:List Raw)(w:World)(hn:aS.length=m+1)(hl:m<=1048576)(hi:i<=m)
 (ho:w.ownsRow base 30 3 (.slice (some ⟨g,0,none⟩) (m+1) cap) (m+1) (aS.flatMap bu)):
 Cl 301 #[.slice (some ⟨g,0,none⟩) (m+1) cap,af (i:Int),af ((i+1:Nat):Int)] w λe w'=>e=.returned (.slice (some ⟨g,0,none⟩) m cap)/\
  w'.ownsRow base 30 3 (.slice (some ⟨g,0,none⟩) m cap) m ((aS.eraseIdx i).flatMap bu)/\w.grownBy w' (some g):=by
 obtain⟨i0,hi0,hz0,hz1,hz2⟩:=info_parts Tryz.aGt;have hcap:m+1<=cap:=(CV ho).1;have hcm:cap<=9223372036854775807:=by
  rcases ho.2 with⟨h1,_⟩ |⟨g',cap',cur,h1,hb,hg,h4,h5,_⟩
  . simp at h1
  . simp only[Value.slice.injEq]at h1;obtain⟨_,_,rfl⟩:=h1;unfold maxLen at h5;omega
 have Od:=arF bu 3 (λ_=>rfl) aS i zo;have hlen:(aS.flatMap bu).length=(m+1) *3:=by rw[kQ bu 3 (λ_=>rfl),hn]
 have h1:=Pd aS;obtain⟨cs,hcs⟩:=aB (aS.flatMap bu);obtain⟨rs,hrs⟩:=aB ((aS.eraseIdx i).flatMap bu);rw[hcs]at hlen ho h1 Od;rw[hrs]at Od⊢;have EH:=aif ho i zo;obtain⟨ad,had⟩:=aB (if cap=i+1 then(⟨g,0,none⟩:Addr)else⟨g,(i+1) *3,none⟩);have hsl:(if cap=i+1 then some (⟨g,0,none⟩:Addr)else some ⟨g,(i+1) *3,none⟩)=some ad:=by rw[<-had];split<;>rfl
 have hnews:Hid (∀j u,(cs.drop ((i+1) *3))[j]?=some u->w.drew.cell? (ad.add j)=some u):=by
  intro j u hj;rw[List.getElem?_drop]at hj;have hlt:=(List.getElem?_eq_some_iff.1 hj).1;have NQ:¬cap=i+1:=by omega
  rw[if_neg NQ]at had;subst had;have e2:((⟨g,(i+1) *3,none⟩:Addr).add j)=⟨g,(i+1) *3+j,none⟩:=by unfold Addr.add;cases j<;>simp
  rw[e2];have:=ho.cells (g:=g) rfl ((i+1) *3+j) u hj;have e3:((⟨g,0,none⟩:Addr).add ((i+1) *3+j))=⟨g,(i+1) *3+j,none⟩:=by unfold Addr.add;split<;>simp;omega
  rw[e3]at this;exact this
 have hnl:Hid ((cs.drop ((i+1) *3)).length=(m-i) *3):=by show _=_;rw[List.length_drop,hlen];omega
 have gA:Hid (∀u∈cs.drop ((i+1) *3),u.oneCell'=true):=λu hu=>h1 u (List.mem_of_mem_drop hu);have Hot:Hid (w.drew.ownsRow base 30 3 (.slice (some ⟨g,0,none⟩) i cap) i (cs.take (i*3))):=EH;obtain⟨alT,amC,Rv,DI,Hi,ey⟩:=gU Od hnews.out hnl.out gA.out hi0 hz1;have z:=Tryz.aGE;clear hnews hnl gA ho EH hlen h1 Od hcs hrs hn hi0 hz0 hz1 hz2;have hw1:IntKind.i64.wrap ((i:Int)+1)=((i+1:Nat):Int):=by rw[IntKind.wrap_i64];omega
 have hne:((i:Int)==((i+1:Nat):Int))=false:=by simp;omega
 have hcm2:¬cap=m:=by omega
 have kw:i+1<=m+1:=by omega
 have hmc:i+1<=cap:=by omega
 have hic:i<=cap:=by omega
 have h0i:(0:Int)<=(i:Int)+1:=by omega
 clear had;go_enter Tryz.func301,Tryz.ntmps301;go_wp2_with fail;have Hb:=hbz w;refine fh (λw'=>True) (λi=>Nat.blt i 100000) [(0,true),(1,true),(2,true),(3,true),(4,true),(5,true),(6,false),(7,true)] zk zk rfl zk zc True.intro ?_;iterate 6 (refine pT rfl rfl ?_;try simp only[UU])
 refine aM rfl rfl (λK hK=>?_);refine wp_append_own_spare _ _ _ 35 rfl base 30 i0 3 Tryz.underlying35 Hi.out ey.out g i cap (cs.take (i*3)) rfl Hot.out ad (m-i) (cap-(i+1)) (cs.drop ((i+1) *3)) rfl Rv.out amC.out DI.out zo ?_;intro w1 iA hg1;refine hK _ _ (λ_=>True.intro) ?_;try simp only[UU]
 refine pT rfl rfl ?_;try simp only[Act.put,U1,U2]
 simp only[bH];have e9:i+(m-i)=m:=by omega
 rw[e9,<-alT.out]at iA;obtain⟨w2,hcl,gS,hg2⟩:=aiK w1 35 30 _ 3 Tryz.underlying35 Tryz.aGE rfl (by intro v hv;simp[Value.cells]at hv;rcases hv with rfl|rfl|rfl<;>rfl) g m 1 cap (cap-m) base rs iA zo;have GR:=aj gS;have xE:Hid (w.grownBy w2 (some g)):=grownBy_trans ⟨hg1.os,hg1.tape,hg1.output,hg1.size,hg1.block⟩ hg2;clear iA hg1 gS hg2 Hot hsl;go_wp2;go_ret;exact⟨rfl,GR.out,xE.out⟩
def arG (l:List Dyadic)(c:Nat):(l.map canon).eraseIdx c=(l.eraseIdx c).map canon:=by apply List.ext_getElem?;intro i;rw[List.getElem?_eraseIdx,List.getElem?_map,List.getElem?_map,List.getElem?_map,List.getElem?_eraseIdx];split<;>rfl
def aBq (a:Option Addr)(cap m r c:Nat)(R:List (List Dyadic))(w:World)(hL:R.length=m+1)(hrow:∀x∈R,x.length=m+1)(hr:r<=m)(hc:c<=m)(hm:m<=7)(ha:bJ w a (R.map λx=>x.map canon)):
 Cl 272 #[.slice a (m+1) cap,af (r:Int),af (c:Int)] w λe w'=>∃a' c',e=.returned (.slice a' m c')/\m<=c'/\bJ w' a' ((mo R r c).map λx=>x.map canon)/\Bw w w':=by
 obtain⟨j0,hj,hy0,hy1,hy2⟩:=info_parts Tryz.aGz;obtain⟨S,hS⟩:=aB (mo R r c);have nU:=ahM R r c m hL hr;have wF:=ahN R r c m hrow hc;have Un:=ahL R r c m hL hr;rw[hS]at nU wF Un⊢;have Aq:∀(W:World) (k:Nat) (hk:k<m+1),Bw w W->∃b o a1 c1,∃x:List Dyadic,R.getD k []=x/\x.length=m+1/\a=some ⟨b,o,none⟩/\W.cell? ⟨b,o+k,none⟩=some (.slice (some a1) (m+1) c1)/\At W (some a1) ((x.map canon).flatMap bu):=by
  intro W k hk hb;have Jt:k<R.length:=by omega
  obtain⟨b,o,a1,c1,h1,h2,h3⟩:=(ha.below hb).row k (by simp[hL];omega);have e1:(R.map λx=>x.map canon)[k]'(by simp[hL];omega)=R[k].map canon:=by simp
  have hxl:=hrow _ (List.getElem_mem Jt);rw[e1]at h2 h3;rw[List.length_map,hxl]at h2;cases a1 with
  | none=>
    rcases h3 with h3|⟨_,_,h3,_⟩
    . have:=congrArg List.length h3;rw[kQ bu 3 (λ_=>rfl),List.length_map,hxl]at this;simp at this
    . cases h3
  |some a1=>exact⟨b,o,a1,c1,R[k],by simp[List.getD_eq_getElem?_getD,Jt],hxl,h1,h2,h3⟩
 obtain⟨Hj,nK,rX,rY,Qi,HSr,akV,RS⟩:=jZ hj hy0 hy1 hy2 nU wF Un Aq;clear hj hy0 hy1 hy2 nU wF Un Aq hS ha hL hrow;have Hb:=hbz w;go_enter Tryz.func272,Tryz.ntmps272;go_wp2_with fail;go_loopw[7,12] (λs7 x wr=>∃(k:Nat) (v:Value),k<=m+1/\x=af (k:Int)/\v=s7/\Own2 35 wr w.heap.size S (if k<=r then k else k-1) v/\Bw w wr) (λ_ x _=>m+1-(intOf x).toNat);case atStart=>exact⟨0,_,Nat.zero_le _,rfl,rfl,by rw[if_pos (Nat.zero_le _)];exact Own2.nil _ _ _ _,Hb.out⟩
 case round=>
  clear Hb;obtain⟨k,v,hk,rfl,rfl,pv,pb⟩:=hrel;by_cases hlt:k<m+1
  . obtain⟨b,o,a1,c1,x,tZ,hxl,rfl,hc1,hat⟩:=RS.out wr k hlt pb;have bD:=ER (m+1) cap k (k:Int) (rfl:(some ⟨b,o,none⟩:Option Addr)=_) hlt rfl;rw[Nat.mul_one]at bD;by_cases hkr:k=r
    . subst hkr;obtain⟨gX,bo⟩:=aK pv pb;clear pv pb tZ hxl hat;have h3:((k:Int) !=(k:Int))=false:=by simp
      go_wp2;go_roundw;case rel=>exact⟨k+1,v,by omega,by go_num,rfl,by have h:=gX.out;rw[if_pos (Nat.le_refl _)]at h;rw[if_neg zo];exact h,bo.out⟩
      case measure=>exact bC
    . have h3:((k:Int) !=(r:Int))=true:=by simp;omega
      have h4:¬(k:Int)=(r:Int):=by omega
      obtain⟨j,hj⟩:=aB (if k<=r then k else k-1);have og:(if k+1<=r then k+1 else k+1-1)=j+1:=by rw[<-hj];split<;>split<;>omega
      have hjm:j<m:=by rw[<-hj];split<;>omega
      have hjr:(if j<r then j else j+1)=k:=by rw[<-hj];split<;>split<;>omega
      have Uo:S.getD j []=x.eraseIdx c:=by rw[akV.out j hjm,hjr,tZ]
      rw[hj]at pv;obtain⟨Z,hZ⟩:=aB (x.eraseIdx c);have Jd:Z.length=m:=by rw[<-hZ,List.length_eraseIdx_of_lt zo];omega
      rw[hZ]at Uo
      -- the row,without its number
      have Jl:∀W,Bw wr W->Cl 96 #[.slice (some a1) (m+1) c1] W λe w'=>∃g cc,e=.returned (.slice (some ⟨g,0,none⟩) (m+1) cc)/\(wr.heap.size<=g/\∀W',Bw wr W'->w'=W'->Cl 301 #[.slice (some ⟨g,0,none⟩) (m+1) cc,af (c:Int),af ((c:Int)+1)] W' λe w''=>e=.returned (.slice (some ⟨g,0,none⟩) m cc)/\w''.ownsRow wr.heap.size 30 3 (.slice (some ⟨g,0,none⟩) m cc) m (dC Z)/\Bw wr w'')/\Bw W w':=by intro W hW;refine(aqf (some a1) (m+1) c1 (x.map canon) W (by rw[List.length_map,hxl]) zo (λe=>by cases e) (hat.below hW)).mono ?_;rintro e w' ⟨v',rfl,ho,hb⟩;obtain⟨g,cc,rfl,hg1,hg2,hg3⟩:=Fw ho zo;have hsz:=hW.size;refine⟨g,cc,rfl,⟨by omega,λW' hW' e=>?_⟩,hb⟩;subst e;have hd:=aqP g m cc c wr.heap.size (x.map canon) w' (by rw[List.length_map,hxl]) zo hc (CW ho zo);rw[show((c+1:Nat):Int)=(c:Int)+1 by omega]at hd;refine hd.mono ?_;rintro e w'' ⟨rfl,gS,hg⟩;rw[arG,hZ,<-sf]at gS;exact⟨rfl,gS,hW'.grown hg hW'.size (λi e=>by have h9:g=i:=Option.some.inj e;omega)⟩
      obtain⟨LK,Zm,yT,gX,bo,Hj1⟩:=gU Jl Uo Jd pv pb og;clear Jl Uo Jd hZ pv pb og hjr hj tZ hxl hat;have kD:=bo.out.size;have hwc:IntKind.i64.wrap ((c:Int)+1)=((c+1:Nat):Int):=by rw[IntKind.wrap_i64];omega
      have NQ:(c:Int)+1=((c+1:Nat):Int):=by omega
      obtain⟨Sj,Hci⟩:=aK hwc NQ;clear hwc NQ;go_wp2_with fail;refine(LK.out _ (Below.refl _ _)).mono ?_;rintro e w4 ⟨g,cc,rfl,⟨hg1,hdel⟩,hb4⟩;have ZJ:=aj (hdel w4 hb4 rfl);clear hdel hc1 bD;go_wp2_with fail;refine ZJ.out.mono ?_;rintro e w5 ⟨rfl,Vu,di⟩;have gz:=Vu.lt;obtain⟨a2,c2,he2,jD,_⟩:=dZ Vu;simp only[Value.slice.injEq,true_and]at he2;obtain⟨rfl,rfl⟩:=he2;obtain⟨vals,hvl,hov,pK⟩:=gX.out.below di;obtain⟨_,_,vw,_⟩:=gX.out;have hvs:=vw.lt;have hin:∀b o,(some ⟨g,0,none⟩:Option Addr)=some ⟨b,o,none⟩->some b≠v.ownBlock/\b<w5.heap.size:=by intro b o e;simp only[Option.some.injEq,Addr.mk.injEq,and_true]at e;obtain⟨rfl,rfl⟩:=e;have h1:=gz g rfl;refine⟨λh2=>?_,h1.2⟩;have h3:=hvs g h2.symm;omega
      obtain⟨uw,xy,uE,xK,eN,gW⟩:=gU hin jD hvl pK hov (aI bo.out di);have XT:=di.size;clear hin jD hvl pK hov vw hvs gz Vu di hb4 ZJ LK hg1;have Hb:=hbz w5;obtain⟨W6,pu,aR,ae,ak⟩:=bX w5 (Hb.an trivial) 35 [.slice (some ⟨g,0,none⟩) m cc];have bW:=ownsRow_below eN.out ae.2.1.out;have jq:=ae.2.1.out.size;have hnews:∀i u,([.slice (some ⟨g,0,none⟩) m cc]:List Value)[i]?=some u->W6.cell? ((⟨w5.heap.size,0,none⟩:Addr).add i)=some u:=ji ae.1.out;skip
      go_wp2_with (at_builtin;refine wpList_append_own_at _ rfl _ _ 198 rfl w.heap.size 35 j0 _ 1 24 Tryz.underlying198 Hj.out nK.out rX.out rY.out rfl zd v j vals rfl bW ⟨w5.heap.size,0,none⟩ 1 1 [.slice (some ⟨g,0,none⟩) m cc] rfl rfl hnews zy zx zo zo ?_;intro v' w7 eQ fL _ kx;obtain⟨g',rp,rfl⟩:=ownsRow_succ eQ);go_roundw;case rel=>
       refine⟨k+1,_,by omega,by go_num,rfl,?_,?_⟩
       . rw[Hj1.out];refine Own2.push (a:=some ⟨g,0,none⟩) (c:=cc) uE.out (w:=W6) ?_ ?_ ?_ ?_ fL kx
         . intro i h;obtain⟨a,c,h1,h2,h3⟩:=xK.out i h;exact⟨a,c,h1,h2.below ae.2.1.out,λb o e=>⟨(h3 b o e).1,Nat.lt_of_lt_of_le (h3 b o e).2 jq⟩⟩
         . rw[Zm.out];exact xy.out.below ae.2.1.out
         . exact λb o e=>⟨(uw.out b o e).1,Nat.lt_of_lt_of_le (uw.out b o e).2 jq⟩
         . rw[Zm.out,yT.out];exact eQ
       . exact(aI gW.out ae.2.1.out).grown fL zo (λj e=>eo bW j e)
      case measure=>exact bC
  . obtain rfl:k=m+1:=by omega
    rw[if_neg zo,Nat.add_sub_cancel]at pv;obtain⟨a2,c2,rfl,hcl,ky⟩:=Own2.aGD pv Qi.out;obtain⟨rV,bo⟩:=aK ky pb;clear pv pb ky;go_wp2;refine bodyPost_ret (results_tmp rfl _ _ _) rfl ⟨a2,c2,rfl,hcl,rV.out,bo.out⟩
def ao2 (a:Option Addr)(c:Nat)(w:World):Cv 219 #[.slice a 0 c] w (cd 1):=by
 have Hb:=hbz w;go_enter Tryz.func219,Tryz.ntmps219;go_wp2_with fail;refine ik w (Hb.an trivial) 28 [ag false,.string ⟨#[]⟩] λW aR ae ak=>?_;go_wp2_with fail;refine aJ ae (Yw 1 _ zd zd) λw1 ae ak=>?_;obtain⟨W2,nV,aR,ae,ak⟩:=bX w1 ae 28 [ag (az 1),ah (nt 1)];go_wp2_with fail;go_loop [5,15] (λt x=>t=ag false/\x=af 0) (λ_ _=>0)
 case atStart=>exact⟨rfl,rfl⟩
 case round=>obtain⟨rfl,rfl⟩:=hrel;go_wp2;refine dX (aV W2 (w.heap.size) 0 [ag (az 1),ah (nt 1)]) aX ?_;intro w9 hs0;have ae:=bU hs0 ae;simp only[bV,List.set]at ae;have ak:=qC ae;refine bodyPost_ret (v:=cd 1) (by simp[results,Tryz.results219,go_sem,ak]) rfl ⟨rfl,ae.2.2.1.out⟩
def aqZ (a:Option Addr)(cap:Nat)(w:World)(ha:bJ w a [])(hT:aC w):Cv 146 #[.slice a 0 cap] w (.tuple #[bT 1,af 0]):=by obtain⟨O,hO⟩:∃O:Dyadic,(1:Dyadic)=O:=⟨_,rfl⟩;have hch:=λW=>λ(h:bJ W a [])=>WG a 0 cap [] W rfl zo h;rw[show yG []=0 from rfl]at hch;have hsc:=λW=>λ(h:bJ W a []) (hT:aC W)=>aiO a 0 cap 0 [] 1 0 W rfl zo zo (λr hr=>by cases hr) h (λr hr=>by cases hr) zo hT rfl;have hmk:=λW=>λ(hT:aC W)=>yF (az 1) (nt (1:Int).natAbs) 0 O (by rw[<-hO];rfl) W zd zd hT;rw[hO];obtain⟨xB,BF,mG,Ha,HT⟩:=gT hch hsc hmk ha hT;clear hch hsc hmk ha hT hO;have Hb:=hbz w;go_enter Tryz.func146,Tryz.ntmps146;go_wp2_with fail;refine ik w (Hb.an trivial) 30 [ag false,.string ⟨#[]⟩,af 0] λW aR ae ak=>?_;have HA:Hid (bJ W a []):=Ha.out.below ae.2.1.out;have HU:Hid (aC W):=HT.out.below ae.2.1.out;go_wp2_with fail;refine aJ (HA.an<|HU.an ae) (xB.out _ HA.out) λw1 ae ak=>?_;go_wp2_with fail;refine(BF.out _ ae.1.out ae.2.1.out).mono ?_;rintro e w2 ⟨v,rfl,hO,ai⟩;obtain⟨ae,ak⟩:=qX ai ae;obtain⟨vals,_,ho,_⟩:=hO;obtain⟨a2,c2,rfl,_,_⟩:=dZ ho;clear ho;go_wp2_with fail;refine aJ ae (ao2 a2 c2 _) λw3 ae ak=>?_;go_wp2_with fail;refine aJ ae (mG.out _ ae.2.1.out) λw4 ae ak=>?_;go_wp2;refine dX (aV w4 (w.heap.size) 0 (bG O)) aX ?_;intro w9 hs0;have ae:=bU hs0 ae;simp only[bV,List.set]at ae;have ak:=qC ae;refine bodyPost_ret (v:=.tuple #[bT O,af 0]) (by simp[results,Tryz.results146,go_sem,ak]) rfl ⟨rfl,ae.2.2.2.1.out⟩
def abG (R:List (List Dyadic)):((R.map λr=>r.map canon).map λr=>r.map au)=R:=by
 rw[List.map_map];have:((λr:List Raw=>r.map au)∘λr:List Dyadic=>r.map canon)=id:=by
  funext r
  show(r.map canon).map au=r
  rw[List.map_map];have:(au∘canon)=id:=funext bF;rw[this];simp
 rw[this];simp
def awj (a':Option Addr)(c' m r c:Nat)(R:List (List Dyadic))(B:Nat)(w:World)(hL:R.length=m+1)(hrow:∀x∈R,x.length=m+1)(hr:r<=m)(hc:c<=m)(hm:m<=4)(hsm:∀x∈R,∀d∈x,Sm B d)(bP:1<=B)(hB:B<=1000000)(ht:bJ w a' ((mo R r c).map λx=>x.map canon))(hT:aC w):
 Cv 146 #[.slice a' m c'] w (.tuple #[bT (dW m (nk (cC R) r c)),af 0]):=by
 have hl:=ahM R r c m hL hr;by_cases h0:m=0
 . subst h0;have e:mo R r c=[]:=List.eq_nil_of_length_eq_zero hl;rw[e]at ht;exact aqZ a' c' w ht hT
 . refine Tj a' c' m ((mo R r c).map λx=>x.map canon) B (mo R r c) _ w zo hm (by rw[List.length_map,hl]) (λx hx=>?_) ht (λx hx y hy=>?_) bP hB hT (abG _) (awf R r c m hL hrow hr hc hm)
   . obtain⟨z,hz,rfl⟩:=List.mem_map.1 hx;rw[List.length_map];exact ahN R r c m hrow hc z hz
   . obtain⟨z,hz,rfl⟩:=List.mem_map.1 hx;obtain⟨d,hd,rfl⟩:=List.mem_map.1 hy;exact(awh hsm r c z hz d hd).fit zo
def aph (s:Nat)(h:s<=8):bits BinOp.and IntKind.i64 (s:Int) 1=((s%2:Nat):Int):=by
 have hc:s=0\/s=1\/s=2\/s=3\/s=4\/s=5\/s=6\/s=7\/s=8:=by omega
 rcases hc with rfl|rfl|rfl|rfl|rfl|rfl|rfl|rfl|rfl<;>rfl
def aoA (a:Option Addr)(cap m:Nat)(R:List (List Dyadic))(B:Nat)(w:World)(hm:m+1<=4)(hL:R.length=m+1)(hrow:∀x∈R,x.length=m+1)(hsm:∀x∈R,∀d∈x,Sm B d)(bP:1<=B)(hB:B<=1000000)(ha:bJ w a (R.map λx=>x.map canon))(hT:aC w):
 Cl 220 #[.slice a (m+1) cap] w λe w'=>∃v,e=.returned (.tuple #[v,af 0])/\gK w' w.heap.size (m+1) (uG (m+1) (cC R)) (m+1) v/\Bw w w':=by
 obtain⟨i0,hi,hz0,hz1,hz2⟩:=info_parts Tryz.aGt;obtain⟨j0,hj,hy0,hy1,hy2⟩:=info_parts Tryz.aGz;have dm:=λW (hW:Bw w W)=>WG a (m+1) cap (R.map λx=>x.map canon) W (by rw[List.length_map,hL]) zo (ha.below hW);have hm0:yG (R.map λx=>x.map canon)=0:=by
  unfold yG;rw[if_neg];rintro(h|h)
  . rw[List.length_map]at h;omega
  . rw[List.any_eq_true]at h;obtain⟨r,hr,h⟩:=h;obtain⟨z,hz,rfl⟩:=List.mem_map.1 hr;have:=hrow z hz;simp at h;omega
 rw[hm0]at dm;have hwo:=λr c (hr:r<=m) (hc:c<=m) W (hW:Bw w W)=>aBq a cap m r c R W hL hrow hr hc zo (ha.below hW);have rF:=λr c (hr:r<=m) (hc:c<=m) W (hW:Bw w W) a' c' (ht:bJ W a' ((mo R r c).map λx=>x.map canon))=>awj a' c' m r c R B W hL hrow hr hc zo hsm bP hB ht (hT.below hW);have hds:∀r c,r<=m->c<=m->Sm (4*B+6) (dW m (nk (cC R) r c)):=by
  intro r c hr hc;refine MK zo (λi j hi hj=>?_);have hk:(if i<r then i else i+1)<R.length:=by split<;>omega
  have hl:=hrow _ (List.getElem_mem hk);have hk2:(if j<c then j else j+1)<R[if i<r then i else i+1].length:=by rw[hl];split<;>omega
  have e:nk (cC R) r c i j=R[if i<r then i else i+1][if j<c then j else j+1]:=by
   show(R.getD (if i<r then i else i+1) []).getD (if j<c then j else j+1) 0=_
   rw[List.getD_eq_getElem?_getD (l:=R),List.getElem?_eq_getElem hk,Option.getD_some,List.getD_eq_getElem?_getD,List.getElem?_eq_getElem hk2];rfl
  rw[e];exact hsm _ (List.getElem_mem hk) _ (List.getElem_mem hk2)
 obtain⟨f,hf⟩:=aB (cC R);rw[hf]at rF hds⊢;have TN:=λi (h:i<m+1)=>abj (m+1) f i h;obtain⟨A,hA⟩:=aB (uG (m+1) f);rw[hA]at TN⊢;obtain⟨Hi,eu,ey,dM,Hj,nK,rX,rY,kH,rW,Gz,LM⟩:=ie hi hz0 hz1 hz2 hj hy0 hy1 hy2 dm hwo rF hds;obtain⟨HT,aki⟩:=aK hT TN;clear hi hz0 hz1 hz2 hj hy0 hy1 hy2 dm hwo rF hds hT TN hA hf hm0 ha hsm hrow hL;have Hb:=hbz w;go_enter Tryz.func220,Tryz.ntmps220;go_wp2_with fail;refine aJ (Hb.an trivial) (kH.out _ Hb.out) λw1 ae ak=>?_;go_wp2_with fail;go_loopw[5,18] (λs5 x wr=>∃(k:Nat) (v:Value),k<=m+1/\x=af (k:Int)/\v=s5/\gK wr w.heap.size (m+1) A k v/\Bw w wr) (λ_ x _=>m+1-(intOf x).toNat);case atStart=>exact⟨0,_,Nat.zero_le _,rfl,rfl,gK.nil _ _ _ _,ae.1.out⟩
 case round=>
  skip
  obtain⟨k,v,hk,rfl,rfl,pv,pb⟩:=hrel;obtain⟨gX,bo⟩:=aK pv pb;clear pv pb;by_cases hlt:k<m+1
  . obtain⟨Z,hZ⟩:=aB ((List.range (m+1)).map λb=>mK (m+1) f k b);have Di:Hid (A.getD k []=Z):=by show _=_;rw[aki.out k hlt,hZ]
    have yT:Hid (Z.length=m+1):=by show _=_;rw[<-hZ];simp
    have HZa:Hid (∀j (h:j<m+1),Z.take (j+1)=Z.take j++[mK (m+1) f k j]):=by intro j h;rw[List.take_succ_eq_append_getElem (by rw[yT.out];exact h)];congr 2;simp[<-hZ]
    clear hZ;obtain⟨wq,hwc⟩:∃wq,wq=wr:=⟨_,rfl⟩;subst hwc;have kD:=bo.out.size;have JB:decide ((k:Int)<(m:Int)+1)=true:=by simp;omega
    go_wp2_with fail;clear JB;go_loopw[7,23] (λs7 x wr=>∃(j:Nat) (v2:Value),j<=m+1/\x=af (j:Int)/\v2=s7/\wr.ownsRow wq.heap.size 30 3 v2 j (dC (Z.take j))/\Bw wq wr) (λ_ x _=>m+1-(intOf x).toNat);case atStart=>exact⟨0,_,Nat.zero_le _,rfl,rfl,World.ownsRow_nil _ _ _ _,Below.refl _ _⟩
    case round=>
     obtain⟨j,v2,hj,rfl,rfl,ho,hb2⟩:=hrel;obtain⟨Ho,cX⟩:=aK ho hb2;have szb:=hb2.size;clear ho hb2;by_cases bA:j<m+1
     . obtain⟨X,hX⟩:=aB (dW m (nk f j k));obtain⟨Y,hY⟩:=aB (mK (m+1) f k j);have hYX:Y=if(k+j)%2=1 then-X else X:=by rw[<-hY,<-hX];rfl
       have fK:=LM.out j k zo zo;rw[hX]at fK;have hst:dC (Z.take (j+1))=dC (Z.take j)++(bG Y):=by rw[HZa.out j bA,hY,Eh];rfl
       have dY:=aI bo.out cX.out;have hd:=λW hW a' c' ht=>Gz.out j k zo zo W hW a' c' ht;rw[hX]at hd;obtain⟨Hd,bR,Ql⟩:=cw hd hst hYX;have Zt:Hid (Ok (canon X)):=fK.ok zo;have ft:=aj dY;clear hd hst hYX hX hY fK dY;have Hb:=hbz wr;go_wp2_with fail;refine(rW.out j k zo zo _ ft.out).mono ?_;rintro e w3 ⟨a3,c3,rfl,hc3,JW,ai⟩;obtain⟨ae,ak⟩:=qX ai (Hb.an trivial);have Mh:=aj JW;clear JW;go_wp2_with fail;refine aJ ae (Hd.out _ (aI ft.out ae.1.out) a3 c3 Mh.out) λw4 ae ak=>?_;clear Mh;have sz4:=ae.1.out.size;obtain⟨W5,ND,aR,ae,ak⟩:=bX w4 ae 30 (bG X);have Ex:=aph (k+j) zo;rw[Int.natCast_add]at Ex;go_upto_if 38 with fail
       go_cut[7] (λs7 wx=>s7=v2/\ar wx w4.heap.size 30 (bG Y)/\Bw wr wx);case first=>
        by_cases hp:(k+j)%2=1
        . have h9:(bits BinOp.and IntKind.i64 ((k:Int)+(j:Int)) 1==1)=true:=by rw[Ex,hp];rfl
          have hY: -au (canon X)=Y:=by rw[bF,Ql.out,if_pos hp]
          have HY:=aj hY;clear hY Ex;go_wp2_with fail;refine aJ ae (Iw _ _ _ Y HY.out _ Zt.out (HT.out.below (aI ft.out ae.2.1.out))) λw6 ae ak=>?_;go_wp2_with fail;go_meet;exact⟨rfl,((ae.1.out.set 0 _).set 1 _).set 2 _,((ae.2.1.out.setCell zp _).setCell zp _).setCell zp _⟩
        . have h9:(bits BinOp.and IntKind.i64 ((k:Int)+(j:Int)) 1==1)=false:=by rw[Ex,show(k+j)%2=0 by omega];rfl
          have hY:Y=X:=by rw[Ql.out,if_neg hp]
          subst hY;clear Ex;go_wp2_with fail;go_meet;exact⟨rfl,ae.1.out,ae.2.1.out⟩
       case rest=>
        obtain⟨rfl,hx,hb⟩:=hcut;clear Ex;have Hx:Hid (ar wc w4.heap.size 30 (bG Y)):=hx;have sY:=aj (aI cX.out hb);have hov:=ownsRow_below Ho.out hb;have eN:=aj hov;have szc:=hb.size;clear hx hb hov Ho Hd Ql Zt ft cX;have Hb:=hbz wc;obtain⟨ae,ak⟩:=qZ (Hx.an trivial);have x0:wc.cell? ⟨w4.heap.size,0,none⟩=some (ag (az (dN Y))):=ae.1.out.cell 0;have x2:wc.cell? ⟨w4.heap.size,2,none⟩=some (af (dE Y)):=ae.1.out.cell 2;have x1:wc.cell? ⟨w4.heap.size,1,none⟩=some (ah (nt (dN Y).natAbs)):=ae.1.out.cell 1;have P0:=x0;have P1:=x1;have P2:=x2;obtain⟨W6,pu,aR,ae,ak⟩:=bX wc (Hb.an ae) 30 (bG Y);have bW:=ownsRow_below eN.out ae.2.1.out;have jq:=ae.2.1.out.size;go_wp2_with (at_builtin;refine wpList_append_own_at _ rfl _ _ 35 rfl wq.heap.size 30 i0 _ 3 32 Tryz.underlying35 Hi.out eu.out ey.out dM.out rfl zd _ j (dC (Z.take j)) rfl bW ⟨wc.heap.size,0,none⟩ 1 1 (bG Y) rfl rfl (ji ae.1.out) zy zx zo zo ?_;intro v' w7 eQ fL _ kx;obtain⟨g',rp,rfl⟩:=ownsRow_succ eQ);go_roundw;case rel=>exact⟨j+1,_,by omega,by go_num,rfl,by rw[bR.out];exact eQ,(aI sY.out ae.2.1.out).grown fL zo (λj e=>eo bW j e)⟩
        case measure=>exact bC
     . obtain rfl:j=m+1:=by omega
       have rA:Z.take (m+1)=Z:=List.take_of_length_le (by rw[yT.out];exact Nat.le_refl _);rw[rA]at Ho;have gz:=Ho.out.lt;obtain⟨a2,cap2,rfl,_,_⟩:=dZ Ho.out;obtain⟨vals,hvl,vw,VS,JZ⟩:=gX.out;have hov:=ownsRow_below vw cX.out;have pK:=λi h=>ownsRow_below (VS i h) cX.out;have vh:∀g,(Value.slice a2 (m+1) cap2).ownBlock=some g->∀i (h:i<vals.length),vals[i].ownBlock≠some g:=λg e i h e2=>by have h1:=(gz g e).1;have h2:=((VS i h).lt g e2).2;omega
       have hx:=CW Ho.out kD;obtain⟨uE,xK,eN,Sg,QZ,Hxx⟩:=gU hvl pK hov JZ vh hx;clear hvl pK hov vw VS JZ vh hx gz rA;have Hb:=hbz wr;obtain⟨W6,pu,aR,ae,ak⟩:=bX wr (Hb.an trivial) 35 [.slice a2 (m+1) cap2];have bW:=ownsRow_below eN.out ae.2.1.out;have jq:=ae.2.1.out.size;go_wp2_with (at_builtin;refine wpList_append_own_at _ rfl _ _ 198 rfl w.heap.size 35 j0 _ 1 24 Tryz.underlying198 Hj.out nK.out rX.out rY.out rfl zd v k vals rfl bW ⟨wr.heap.size,0,none⟩ 1 1 [.slice a2 (m+1) cap2] rfl rfl (ji ae.1.out) zy zx zo zo ?_;intro v' w7 eQ fL _ kx;obtain⟨g',rp,rfl⟩:=ownsRow_succ eQ);go_roundw;case rel=>refine⟨k+1,_,by omega,by go_num,rfl,gK.push uE.out bW (λi h=>ownsRow_below (xK.out i h) ae.2.1.out) Sg.out (by rw[Di.out];exact ownsRow_below Hxx.out ae.2.1.out) QZ.out eQ fL,?_⟩;exact(aI (aI bo.out cX.out) ae.2.1.out).grown fL zo (λj e=>eo bW j e)
       case measure=>exact bC
  . obtain rfl:k=m+1:=by omega
    go_wp2;exact bodyPost_ret (v:=.tuple #[v,af 0]) (by simp[results,Tryz.results220,go_sem]) rfl ⟨v,rfl,gX.out,bo.out⟩
end Go.Proofs.YtbkopgdpcijfbaaGreatDoor
namespace Go.Proofs.YtbkopgdpcijfbaaGreatDoor
def uH (n:Nat)(p:Nat->Nat->Dyadic):List (List Dyadic):=(List.range n).map λa=>(List.range n).map λb=>kI n p a b
def SG (n:Nat)(p:Nat->Nat->Dyadic):(uH n p).length=n:=by simp[uH]
def SH (n:Nat)(p:Nat->Nat->Dyadic):∀r∈uH n p,r.length=n:=by intro r hr;unfold uH at hr;obtain⟨x,_,rfl⟩:=List.mem_map.1 hr;simp
def abh (n:Nat)(p:Nat->Nat->Dyadic)(a b:Nat)(ha:a<n)(hb:b<n):cC (uH n p) a b=kI n p a b:=by unfold cC uH;simp[List.getD_eq_getElem?_getD,ha,hb]
def aAh {n:Nat}{R S:List (List Dyadic)}(h1:R.length=n)(h2:∀r∈R,r.length=n)(h3:S.length=n)(h4:∀r∈S,r.length=n)(h:∀a b,a<n->b<n->cC R a b=cC S a b):R=S:=by apply List.ext_getElem zo;intro i hi hj;have l1:=h2 _ (List.getElem_mem hi);have l2:=h4 _ (List.getElem_mem hj);apply List.ext_getElem zo;intro j k1 k2;have:=h i j zo zo;unfold cC at this;simpa[List.getD_eq_getElem?_getD,hi,hj,k1,k2]using this
def aow (n:Nat)(bZ:n<=4){e f:Nat->Nat->Dyadic}(h:∀i j,i<n->j<n->e i j=f i j)(a b:Nat)(ha:a<n)(hb:b<n):mK n e a b=mK n f a b:=by
 have:dW (n-1) (nk e b a)=dW (n-1) (nk f b a):=MJ (n-1) zo (λi j hi hj=>by
  unfold nk
  exact h _ _ (by split<;>omega) (by split<;>omega))
 unfold mK;rw[this]
def arE {n:Nat}{R:List (List Dyadic)}(h1:R.length=n)(h2:∀r∈R,r.length=n)(i j:Nat)(hi:i<n)(hj:j<n)(y:Dyadic)(a b:Nat)(ha:a<n)(hb:b<n):cC (R.set i ((R.getD i []).set j y)) a b=if a=i/\b=j then y else cC R a b:=by
 unfold cC;by_cases e:a=i
 . subst e;rw[List.getD_eq_getElem?_getD (l:=R.set _ _),List.getElem?_set_self zo,Option.getD_some];have hl:(R.getD a []).length=n:=by
    have e:R.getD a []=R[a]'zo:=by rw[List.getD_eq_getElem?_getD,List.getElem?_eq_getElem zo];rfl
    rw[e];exact h2 _ (List.getElem_mem _)
   by_cases e2:b=j
   . subst e2;rw[if_pos ⟨rfl,rfl⟩,List.getD_eq_getElem?_getD,List.getElem?_set_self zo];rfl
   . rw[if_neg (λh=>e2 h.2),List.getD_eq_getElem?_getD,List.getElem?_set_ne (λh=>e2 h.symm),<-List.getD_eq_getElem?_getD]
 . rw[if_neg (λh=>e h.1),List.getD_eq_getElem?_getD (l:=R.set _ _),List.getElem?_set_ne (λh=>e h.symm),<-List.getD_eq_getElem?_getD]
def azk {n:Nat}{R:List (List Dyadic)}(h1:R.length=n)(h2:∀r∈R,r.length=n)(i j:Nat)(hi:i<n)(y:Dyadic):(R.set i ((R.getD i []).set j y)).length=n/\∀r∈R.set i ((R.getD i []).set j y),r.length=n:=by
 refine⟨by rw[List.length_set];exact h1,λr hr=>?_⟩;rcases List.mem_or_eq_of_mem_set hr with h|h
 . exact h2 r h
 . rw[h,List.length_set];have e:R.getD i []=R[i]'zo:=by rw[List.getD_eq_getElem?_getD,List.getElem?_eq_getElem zo];rfl
   rw[e];exact h2 _ (List.getElem_mem _)
def azl (X:Dyadic):(if bg X<0 then-X else X)=jb X*X:=by
 rw[aiQ];by_cases h:X<0
 . rw[if_pos h,if_pos ((uQ X).2 h)]
 . rw[if_neg h,if_neg (λh2=>h ((uQ X).1 h2))]
def kP (k j a b:Nat):Prop:=a<k\/a=k/\b<j
instance (k j a b:Nat):Decidable (kP k j a b):=inferInstanceAs (Decidable (_\/_))
end Go.Proofs.YtbkopgdpcijfbaaGreatDoor
namespace Go.Proofs.YtbkopgdpcijfbaaGreatDoor
open Go.RowKit
attribute [local go_sem ↓] Go.wp_at_zero Go.wp_at_succ
def aa4 (w:World)(n:Nat)(p:Nat->Nat->Dyadic)(e:Ending)(w':World):Prop:=
 ∃a' c',e=.returned (.tuple #[bT (jb (bK n p) *bK n p),.slice a' n c',af 0])/\n<=c'/\bJ w' a' ((uH n p).map λr=>r.map canon)/\Bw w w'
def gK.blk {w:World}{base n L go cap:Nat}{R:List (List Dyadic)}(h:gK w base n R L (.slice (some ⟨go,0,none⟩) L cap))(i:Nat)(hi:i<L)(hn:0<n):base<=go/\∃g c,w.cell? ⟨go,i,none⟩=some (.slice (some ⟨g,0,none⟩) n c)/\base<=g/\g<w.heap.size/\g≠go:=by
 obtain⟨vals,hl,ho,hv,hd⟩:=h;have hi2:i<vals.length:=by omega
 have hrow:=hv i hi2;obtain⟨g,c,e1,hg1,hg2,_⟩:=Fw hrow hn;have kx:=Fv ho;have hc:=oD ho i zo;rw[e1]at hc;refine⟨kx.1,g,c,hc,hg1,hg2,?_⟩;rintro rfl;rw[e1]at hrow;rcases hrow.2 with⟨h1,_⟩ |⟨g',c',cur,h1,_,h2,_⟩
 . simp at h1
 . simp only[Value.slice.injEq,Option.some.injEq,Addr.mk.injEq,and_true,true_and]at h1;obtain⟨rfl,rfl⟩:=h1;rcases ho.2 with⟨h3,_⟩ |⟨g2,c2,aCA,h3,_,h4,_⟩
   . simp at h3
   . simp only[Value.slice.injEq,Option.some.injEq,Addr.mk.injEq,and_true,true_and]at h3;obtain⟨rfl,rfl⟩:=h3;rw[h2]at h4;simp at h4
def gK.aGA {w:World}{base n k:Nat}{R:List (List Dyadic)}{v:Value}(h:gK w base n R k v){p:Addr}(hp:p.block<base)(x:Value):gK (w.setCell p x) base n R k v:=by
 obtain⟨vals,hl,ho,hi,hd⟩:=h;have hne:∀{u:Value} {e:TypeId} {sz m:Nat} {xs:List Value},w.ownsRow base e sz u m xs->u.ownBlock≠some p.block:=λh e=>by have:=(h.lt _ e).1;omega
 exact⟨vals,hl,ownsRow_setCell_other ho (hne ho) _,λi h=>ownsRow_setCell_other (hi i h) (hne (hi i h)) _,hd⟩
def auR (a:Option Addr)(cap m:Nat)(rows:List (List Raw))(B:Nat)(w:World)(hm:m+1<=4)(hr:Rw (m+1) B rows)(hcap:m+1+1<=cap)(ha:bJ w a rows)(hB:B<=200000)(hT:aC w)(h0:jy rows=0):
 Cl 148 #[.slice a (m+1+1) cap] w (aa4 w (m+1) (cm rows)):=by
 obtain⟨n,hn⟩:=aB (m+1);have hL:=hr.1;have hrow:=hr.2.1;have hfit:=hr.2.2;obtain⟨b,o,rfl⟩:∃b o,a=some ⟨b,o,none⟩:=by
  obtain⟨vals,hvl,hat,_⟩:=ha;rcases hat with h|⟨b,o,h,_⟩
  . rw[h]at hvl;simp at hvl;omega
  . exact⟨b,o,h⟩
 have dm:=λW (hW:Bw w W)=>PP (some ⟨b,o,none⟩) (m+1+1) cap rows B W hL zo hcap (ha.below hW) hfit zo (hT.below hW);rw[h0]at dm;obtain⟨S,hS⟩:=aB ((rows.drop 1).map λp=>kO (rows.getD 0 []) p);have nU:S.length=m+1:=by rw[<-hS];simp[hL]
 have h00:0<rows.length:=by omega
 have e0:rows.getD 0 []=rows[0]:=by simp[h00]
 have wF:∀r∈S,r.length=m+1:=by intro r hr;rw[<-hS]at hr;obtain⟨p,hp,rfl⟩:=List.mem_map.1 hr;rw[MN (by rw[e0,hrow _ (List.mem_of_mem_drop hp),hrow _ (List.getElem_mem h00)]),hrow _ (List.mem_of_mem_drop hp)]
 have jW:∀r∈S,∀d∈r,Sm (B+1) d:=by intro r hr d hd;rw[<-hS]at hr;obtain⟨p,hp,rfl⟩:=List.mem_map.1 hr;unfold kO at hd;obtain⟨i,hi,rfl⟩:=List.mem_iff_getElem.1 hd;rw[List.getElem_zipWith];refine Sm.sub (hfit p (List.mem_of_mem_drop hp) _ (List.getElem_mem _)).2 (hfit (rows.getD 0 []) ?_ _ (List.getElem_mem _)).2;rw[e0];exact List.getElem_mem h00
 obtain⟨P,hP⟩:=aB (cm rows);have Jp:∀i j,i<m+1->j<m+1->cC S i j=El P i j:=λi j hi hj=>by rw[<-hS,<-hP];exact aiY (m+1) rows hL hrow i j hi hj
 obtain⟨X,hX⟩:=aB (bK (m+1) P);have hent:dW (m+1) (cC S)=X:=by rw[<-hX,Iz];exact MJ (m+1) hm Jp
 have hro:=λW (hW:Bw w W)=>aiI b o cap (m+1) (m+1) rows B W hL zo hcap zo zo zo hrow (ha.below hW) hfit zo (hT.below hW);rw[hS]at hro
 have rF:=λW (hW:Bw w W) a' c' (h:bJ W a' (S.map λr=>r.map canon))=>Tj a' c' (m+1) (S.map λr=>r.map canon) (B+1) S X W zo hm (by simpa using nU) (by
  intro r hr;obtain⟨x,hx,rfl⟩:=List.mem_map.1 hr
  simpa using wF x hx) h (by
  intro r hr c hc;obtain⟨x,hx,rfl⟩:=List.mem_map.1 hr;obtain⟨y,hy,rfl⟩:=List.mem_map.1 hc
  exact(jW x hx y hy).fit zo) zo zo (hT.below hW) (abG S) hent
 have ye:=λW (hW:Bw w W) a' c' (h:bJ W a' (S.map λr=>r.map canon))=>(aoA a' c' m S (B+1) W hm nU wF jW zo zo h (hT.below hW)).mono (λe w' h=>(match h with|⟨v,h1,h2,h3⟩=>⟨v,h1,h2,h3,h3⟩:∃v,e=.returned (.tuple #[v,af 0])/\gK w' W.heap.size (m+1) (uG (m+1) (cC S)) (m+1) v/\Bw W w'/\Bw W w'));have fK:Sm (4*B+11) X:=by rw[<-hent];refine(MK (B:=B+1) hm (λi j hi hj=>?_)).mono zo;rw[Jp i j hi hj,<-hP];exact MR (n:=m+1) (B:=B) (λa b ha hb=>by rw[xa rows a b zo (by rw[hrow _ (List.getElem_mem _)];exact hb)];exact(hfit _ (List.getElem_mem _) _ (List.getElem_mem _)).2) i j hi hj
 have lh:=λW=>nR (az (dN X)) (nt (dN X).natAbs) (dE X) (bg X) (by show bg (au (canon X))=_;rw[bF]) W (fK.ok zo);have vk: -1<=bg X/\bg X<=1:=by unfold bg eI;split<;>(try split)<;>omega
 obtain⟨G,hG⟩:=aB (jb X);have hof:=λW (hW:Bw w W)=>uP (bg X) G (by rw[<-hG];rfl) W zo (hT.below hW)
 have hab:=λW (hW:Bw w W)=>aqF (az (dN X)) (nt (dN X).natAbs) (dE X) (G*X) (by
  have e:au (bE X)=X:=bF X
  rw[e,azl,hG]) W (fK.ok zo) (hT.below hW)
 have hGf:Fit (4*B+11) (canon G):=(by rw[<-hG];exact(XD X).mono zo:Sm (4*B+11) G).fit zo;have zS:∀i j,i<m+1->j<m+1->Fit (4*B+11) (canon (mK (m+1) (cC S) i j)):=λi j hi hj=>by refine((abg (B:=B+1) zo hm (λa b ha hb=>?_) i j).mono zo).fit zo;rw[Jp a b ha hb,<-hP];exact MR (n:=m+1) (B:=B) (λa b ha hb=>by rw[xa rows a b zo (by rw[hrow _ (List.getElem_mem _)];exact hb)];exact(hfit _ (List.getElem_mem _) _ (List.getElem_mem _)).2) a b ha hb
 have hfin:∀R:List (List Dyadic),R.length=m+1->(∀r∈R,r.length=m+1)->(∀a b,a<m+1->b<m+1->cC R a b=mK (m+1) (cC S) a b*G)->R=uH (m+1) P:=λR h1 h2 h3=>aAh h1 h2 (SG _ _) (SH _ _) (λa b ha hb=>by
  rw[h3 a b ha hb,abh _ _ _ _ ha hb];unfold kI
  rw[hX,hG,aow (m+1) hm Jp a b ha hb])
 have IK:=λi j hi hj=>aox (m+1) (cC S) i j hi hj;have BW:=aoy (m+1) (cC S);have Nk:=aoz (m+1) (cC S);obtain⟨F,hF⟩:∃F:Nat->Nat->Dyadic,(λi j=>mK (m+1) (cC S) i j)=F:=⟨_,rfl⟩;have hFe:∀i j,mK (m+1) (cC S) i j=F i j:=λi j=>by rw[<-hF]
 simp only[hFe]at zS hfin IK;obtain⟨A,hA⟩:=aB (uG (m+1) (cC S));rw[hA]at ye IK BW Nk;rw[hP];unfold aa4;rw[hX,hG];rw[hn]at dm hro rF ye zS hfin IK BW Nk⊢;have bZ:n<=4:=by omega
 have gA:1<=n:=by omega
 have agj:=λW=>(lh W).mono (λe w' h=>(⟨h.1,h.2,h.2⟩:e=.returned (af (bg X))/\Bw W w'/\Bw W w'));have afT:=λW hW=>(hof W hW).mono (λe w' h=>(⟨h.1,h.2,h.2⟩:e=.returned (bT G)/\Bw W w'/\Bw W w'));have dG:=λW hW=>(hab W hW).mono (λe w' h=>(⟨h.1,h.2,h.2⟩:e=.returned (bT (G*X))/\Bw W w'/\Bw W w'));obtain⟨kH,Hro,Gz,Qo,oV,uz,kF,HGf,HAs,uv,HAe,HAl⟩:=ie dm hro rF ye agj afT dG hGf zS hfin IK BW;obtain⟨HAr,HT⟩:=aK Nk hT;clear dm hro rF ye agj afT lh hof hab dG hGf zS hfin IK BW Nk hT hFe hF hA fK hent Jp jW wF nU hS e0 h00 hP hX hG vk ha hr hL hrow hfit h0 hn;have Hb:=hbz w;go_enter Tryz.func148,Tryz.ntmps148;go_wp2_with fail;refine ik w (Hb.an trivial) 30 [ag false,.string ⟨#[]⟩,af 0] λW aR ae ak=>?_;go_wp2_with fail;refine aJ ae (kH.out _ ae.2.1.out) λw1 ae ak=>?_;go_wp2_with fail;refine(Hro.out _ ae.2.1.out).mono ?_;rintro e w2 ⟨a2,c2,rfl,hc2,ht2,ai⟩;obtain⟨ae,ak⟩:=qX ai ae;have DV:=aj ht2;clear ht2;go_wp2_with fail;refine aJ ae (Gz.out _ ae.2.1.out a2 c2 DV.out) λw3 ae ak=>?_;clear DV;obtain⟨W4,kV,aR,ae,ak⟩:=bX w3 ae 30 (bG X);go_wp2_with fail;refine(Hro.out _ ae.2.2.1.out).mono ?_;rintro e w5 ⟨a3,c3,rfl,hc3,JW,ai⟩;obtain⟨ae,ak⟩:=qX ai ae;have Mh:=aj JW;clear JW;obtain⟨Hd,Hr,Hb,_⟩:=ae;obtain⟨r0,aO,r1,aQ,r2,dQ⟩:=Hr.out.g3;obtain⟨d0,d1,d2⟩:=Hd.out.c3;have qP:=Hr;have ZI:=Hd;have fW:=Hb;go_wp2_with fail;refine(Qo.out _ Hb.out a3 c3 Mh.out).mono ?_;rintro e w6 ⟨v,rfl,hO,aep,ai⟩;obtain⟨ae,ak⟩:=qX ai (Hb.an<|Hr.an<|Hd.an trivial);obtain⟨go,cv,rfl,hgo⟩:∃go cv,v=.slice (some ⟨go,0,none⟩) n cv/\w5.heap.size<=go:=by obtain⟨vals,hl,ho,_,_⟩:=hO;obtain⟨g,c,e1,h1,_,_⟩:=Fw ho zo;exact⟨g,c,e1,h1⟩
 have hcv:n<=cv:=by obtain⟨vals,hl,ho,_,_⟩:=hO;exact(CV ho).1
 obtain⟨gI,hgI⟩:∃gI:Nat->Nat×Nat,∀i,i<n->w6.cell? ⟨go,i,none⟩=some (.slice (some ⟨(gI i).1,0,none⟩) n (gI i).2)/\w5.heap.size<=(gI i).1/\(gI i).1<w6.heap.size/\(gI i).1≠go:=by have H:=λi (h:i<n)=>(hO.blk i h gA).2;refine⟨λi=>if h:i<n then(Classical.choose (H i h),Classical.choose (Classical.choose_spec (H i h)))else(0,0),λi h=>?_⟩;simp only[h,dif_pos];exact Classical.choose_spec (Classical.choose_spec (H i h))
 obtain⟨HO,ZW⟩:=aK hO hgI;clear hO hgI;have Df:Hid (Bw w5 w6):=aep;have H66:Hid (Bw w6 w6):=Below.refl _ _;clear aep;have XT:=Df.out.size;go_wp2_with fail;refine(oV.out _).mono ?_;rintro e w7 ⟨rfl,aer,ai⟩;obtain⟨ae,ak⟩:=qX ai ae;go_wp2_with fail;refine(uz.out _ ae.1.out).mono ?_;rintro e w8 ⟨rfl,aes,ai⟩;obtain⟨ae,ak⟩:=qX ai ae;have UG:=aI aer aes;clear aer aes;have YM:=aj UG;have PN:=UG.size;clear UG;obtain⟨W9,NE,aR,ae,ak⟩:=bX w8 ae 30 (bG G);have Lg:Hid (Bw w6 W9):=by rw[<-NE];exact(YM.out).alloc zo _
 have hO9:=HO.out.below Lg.out;have NN:∀i,i<n->W9.cell? ⟨go,i,none⟩=some (.slice (some ⟨(gI i).1,0,none⟩) n (gI i).2):=λi h=>cell_later Lg.out (ZW.out i h).1;have aeq:=aI Df.out Lg.out;obtain⟨Zh,LH,YL⟩:=cw hO9 NN aeq;have Hs9:=ae.1;clear hO9 NN aeq HO YM H66 Lg;go_wp2_with fail;go_loopw[37] (λx wr=>∃(k:Nat) (R:List (List Dyadic)),k<=n/\x=af (k:Int)/\R.length=n/\(∀r∈R,r.length=n)/\(∀a b,a<n->b<n->cC R a b=if kP k 0 a b then F a b*G else F a b)/\gK wr w5.heap.size n R n (.slice (some ⟨go,0,none⟩) n cv)/\(∀i,i<n->wr.cell? ⟨go,i,none⟩=some (.slice (some ⟨(gI i).1,0,none⟩) n (gI i).2))/\ar wr w8.heap.size 30 (bG G)/\Bw w5 wr) (λx _=>n-(intOf x).toNat);case atStart=>exact⟨0,A,Nat.zero_le _,rfl,HAl.out,HAr.out,λa b ha hb=>by rw[HAe.out a b ha hb,if_neg (by unfold kP;omega)],Zh.out,LH.out,Hs9.out,YL.out⟩
 case round=>
  clear Hs9 YL LH Zh Df;obtain⟨k,R,hk,rfl,ia,uX,hRe,hO,hc,hs,pb⟩:=hrel;by_cases hlt:k<n
  . have dm:=hc k hlt;obtain⟨g,c,pD⟩:∃g c,gI k=(g,c):=⟨_,_,rfl⟩;obtain⟨_,hg1,hg2,hg3⟩:=ZW.out k hlt;rw[pD]at dm hg1 hg2 hg3;have bD:=ER n cv k (k:Int) (rfl:(some ⟨go,0,none⟩:Option Addr)=_) hlt rfl;rw[Nat.zero_add,Nat.mul_one]at bD;have hin:∃(j:Nat) (R:List (List Dyadic)),j=0/\R.length=n/\(∀r∈R,r.length=n)/\(∀a b,a<n->b<n->cC R a b=if kP k j a b then F a b*G else F a b)/\gK wr w5.heap.size n R n (.slice (some ⟨go,0,none⟩) n cv)/\(∀i,i<n->wr.cell? ⟨go,i,none⟩=some (.slice (some ⟨(gI i).1,0,none⟩) n (gI i).2))/\ar wr w8.heap.size 30 (bG G)/\Bw w5 wr:=⟨0,R,rfl,ia,uX,hRe,hO,hc,hs,pb⟩;obtain⟨uw,LS⟩:=aK hin pD;clear hin ia uX hRe hO hc hs pb pD;obtain⟨wq,hwq⟩:∃wq,wq=wr:=⟨_,rfl⟩;subst hwq;go_wp2_with fail;go_loopw[43] (λx wr=>∃(j:Nat) (R:List (List Dyadic)),j<=n/\x=af (j:Int)/\R.length=n/\(∀r∈R,r.length=n)/\(∀a b,a<n->b<n->cC R a b=if kP k j a b then F a b*G else F a b)/\gK wr w5.heap.size n R n (.slice (some ⟨go,0,none⟩) n cv)/\(∀i,i<n->wr.cell? ⟨go,i,none⟩=some (.slice (some ⟨(gI i).1,0,none⟩) n (gI i).2))/\ar wr w8.heap.size 30 (bG G)/\Bw w5 wr) (λx _=>n-(intOf x).toNat);case atStart=>obtain⟨j,R,rfl,h⟩:=uw.out;exact⟨0,R,Nat.zero_le _,rfl,h⟩
    case round=>
     clear uw dm bD;obtain⟨j,R,hj,rfl,ia,uX,hRe,hO,hc,hs,pb⟩:=hrel;by_cases bA:j<n
     . have hrl:(R.getD k []).length=n:=by
        have e:R.getD k []=R[k]'zo:=by rw[List.getD_eq_getElem?_getD,List.getElem?_eq_getElem zo];rfl
        rw[e];exact uX _ (List.getElem_mem _)
       have dm:=hc k hlt;rw[LS.out]at dm;have hpick:∀W,gK W w5.heap.size n R n (.slice (some ⟨go,0,none⟩) n cv)->W.cell? ⟨go,k,none⟩=some (.slice (some ⟨g,0,none⟩) n c)->aZ W g (j*3) [ag (az (dN (F k j))),ah (nt (dN (F k j)).natAbs),af (dE (F k j))]/\(∀o,W.frozen? ⟨g,o,none⟩=false)/\∀y:Dyadic,gK (((W.setCell ⟨g,j*3,none⟩ (ag (az (dN y)))).setCell ⟨g,j*3+1,none⟩ (ah (nt (dN y).natAbs))).setCell ⟨g,j*3+2,none⟩ (af (dE y))) w5.heap.size n (R.set k ((R.getD k []).set j y)) n (.slice (some ⟨go,0,none⟩) n cv):=by
        intro W hO dm;obtain⟨go',cap',g',c',hv,_,_,hne,hcell,eG,hfz,hup⟩:=hO.num k j hlt bA ia hrl;simp only[Value.slice.injEq,Option.some.injEq,Addr.mk.injEq,and_true,true_and]at hv;obtain⟨rfl,rfl⟩:=hv;rw[dm]at hcell;simp only[Option.some.injEq,Value.slice.injEq,Addr.mk.injEq,and_true,true_and]at hcell;obtain⟨rfl,rfl⟩:=hcell;have he:(R.getD k []).getD j 0=F k j:=by have h:=hRe k j hlt bA;rw[if_neg (by unfold kP;omega)]at h;exact h
        rw[he]at eG;exact⟨eG,hfz,hup⟩
       obtain⟨eG,_,_⟩:=hpick wr hO dm;have TP:=HAs.out k j hlt bA;obtain⟨Y,hY⟩:=aB (F k j*G);have hsl:=azk ia uX k j hlt Y;have hen:∀a b,a<n->b<n->cC (R.set k ((R.getD k []).set j Y)) a b=if kP k (j+1) a b then F a b*G else F a b:=by
        intro a b ha hb;rw[arE ia uX k j hlt bA Y a b ha hb];by_cases e:a=k/\b=j
        . obtain⟨rfl,rfl⟩:=e;rw[if_pos ⟨rfl,rfl⟩,if_pos (by unfold kP;omega),hY]
        . rw[if_neg e,hRe a b ha hb];have:kP k j a b↔kP k (j+1) a b:=by unfold kP;omega
          by_cases h:kP k j a b
          . rw[if_pos h,if_pos (this.1 h)]
          . rw[if_neg h,if_neg (λh2=>h (this.2 h2))]
       obtain⟨E,hE⟩:=aB (F k j);have HY:Hid (au (canon E) *au (canon G)=Y):=by show _=_;rw[bF,bF,<-hE];exact hY
       rw[hE]at eG TP hpick;have tT:=mg n c j (j:Int) (rfl:(some ⟨g,0,none⟩:Option Addr)=_) bA rfl;rw[Nat.zero_add]at tT;obtain⟨R2,zZ⟩:=aB (R.set k ((R.getD k []).set j Y));have hpk:=λW h1 h2=>(hpick W h1 h2).2.2 Y;have hpz:=λW h1 h2=>(hpick W h1 h2).2.1;rw[zZ]at hsl hen hpk;have Hz:Hid (aZ wr g (j*3) (bG E)):=eG;have Hs:Hid (ar wr w8.heap.size 30 (bG G)):=hs;obtain⟨HO,QC,kH,bo,DT,Hen,RD,Hpz,HAf,fU⟩:=yC hO hc dm pb hsl hen hpk hpz TP (HT.out.below (aI fW.out pb));have XX:=pb.size;clear hO hc dm pb hsl hen hpk hpz TP hs eG hpick zZ hE hY ia uX hRe hrl;have Hb:=hbz wr;have hs8:=Hs.out.lt;go_wp2_with fail;obtain⟨ae,ak⟩:=qZ (Hz.an<|Hs.an trivial);have HU:Hid (aC wr):=fU.out;obtain⟨Hz,Hs,_⟩:=ae;obtain⟨z0,z1,z2⟩:=Hz.out.w3;obtain⟨s0,s1,s2⟩:=Hs.out.c3;refine fh (λw'=>aH w' g (j*3) (ag (az (dN E)))/\aH w' g (j*3+1) (ah (nt (dN E).natAbs))/\aH w' g (j*3+2) (af (dE E))/\aH w' (w8.heap.size) 0 (ag (az (dN G)))/\aH w' (w8.heap.size) 1 (ah (nt (dN G).natAbs))/\aH w' (w8.heap.size) 2 (af (dE G))) (λi=>Nat.blt i 10) [(0,true),(1,true),(2,true),(3,true),(4,true),(5,true),(6,true),(7,false),(8,false),(9,true),(10,false)] zk zk rfl zk zc ⟨z0,z1,z2,s0,s1,s2⟩ ?_;iterate 7 (refine pT rfl rfl ?_ (by intro w' ⟨q0,q1,q2,q3,q4,q5⟩;go_simp;try with_reducible rfl);try simp only[UU])
       refine aM rfl rfl (λK hK=>?_);go_simp;refine hK _ _ (λ_=>⟨aU z0,aU z1,aU z2,aU s0,aU s1,aU s2⟩) ?_;try simp only[UU]
       refine cB (λW4=>ar W4 (wr.heap.size) 30 [ag (az (dN E)),ah (nt (dN E).natAbs),af (dE E),ag (az (dN G)),ah (nt (dN G).natAbs),af (dE G)]/\Bw wr W4) (by first|exact iX|exact iY) ?_;rintro W4 ⟨qv,ai⟩;have avZ:=Hs.out.lt;replace Hz:=kW Hz ai;replace Hs:=kB Hs ai;replace HU:=kT HU ai;have Hv:=aj qv;clear qv;obtain⟨z0,z1,z2⟩:=Hz.out.w3;obtain⟨s0,s1,s2⟩:=Hs.out.c3;obtain⟨v0,v1,v2,v3,v4,v5⟩:=Hv.out.c6;replace Hb:=aW Hb ai;refine aM rfl rfl (λK hK=>?_);go_simp;with_reducible refine(tB _ _ _ _ _ _ Y (4*B+11) HY.out wr.heap.size _ 30 _ HAf.out HGf.out zo Hv.out (by first|exact HU.out|exact aC.drew HU.out|exact aC.alloc HU.out _|exact aC.drew (aC.alloc HU.out _) |exact aC.alloc (aC.drew HU.out) _)).mono ?_
       rintro e dw ⟨rfl,hq⟩;have ai:Bw W4 dw:=by first|exact hq|exact cu hq
       replace Hz:=kW Hz ai;obtain⟨Hs,s0,s1,s2⟩:=gD Hs ai;replace HU:=kT HU ai;obtain⟨Hv,v0,v1,v2,v3,v4,v5⟩:=AA Hv ai;obtain⟨z0,z1,z2⟩:=Hz.out.w3;replace Hb:=aW Hb ai;refine hK _ _ (λ_=>⟨z0,z1,z2,s0,s1,s2⟩) ?_;try simp only[UU]
       refine pT rfl rfl ?_;try simp only[UU]
       refine aM rfl rfl (λK hK=>?_);have Ue:=HO.out.below Hb.out;have Vj:=cell_later Hb.out kH.out;have hfz:=Hpz.out dw Ue Vj;have TG:=hfz (j*3);have II:=hfz (j*3+1);have TH:=hfz (j*3+2);have hup:=RD.out dw Ue Vj;have yg:=aI bo.out Hb.out;obtain⟨Sb,Gq⟩:=aK hup yg;clear Ue Vj hfz hup yg;go_simp;refine hK _ _ (λh=>absurd h zd) ?_;try simp only[UU]
       simp only[bH];go_wp2;refine⟨⟨j+1,R2,by omega,by go_num,DT.out.1,DT.out.2,Hen.out,Sb.out,λi hi=>?_,?_,?_⟩,by simp[intOf];omega⟩
       . have hne:(⟨go,i,none⟩:Addr).block≠g:=λe=>hg3 e.symm;exact aF (.inl hne) (aF (.inl hne) (aF (.inl hne) (cell_later Hb.out (QC.out i hi))))
       . have hne:g≠w8.heap.size:=by omega
         exact((Hs.out.aGq _ hne _).aGq _ hne _).aGq _ hne _
       . exact((Gq.out.setCell hg1 _).setCell hg1 _).setCell hg1 _
     . obtain rfl:j=n:=by omega
       have oh:(∀a b,a<j->b<j->cC R a b=if kP (k+1) 0 a b then F a b*G else F a b):=by
        intro a b ha hb;rw[hRe a b ha hb];have:kP k j a b↔kP (k+1) 0 a b:=by unfold kP;omega
        by_cases h:kP k j a b
        . rw[if_pos h,if_pos (this.1 h)]
        . rw[if_neg h,if_neg (λh2=>h (this.2 h2))]
       have hres:(∃k' R,k'<=j/\k'=k+1/\R.length=j/\(∀r∈R,r.length=j)/\(∀a b,a<j->b<j->cC R a b=if kP k' 0 a b then F a b*G else F a b)/\gK wr w5.heap.size j R j (.slice (some ⟨go,0,none⟩) j cv)/\(∀i,i<j->wr.cell? ⟨go,i,none⟩=some (.slice (some ⟨(gI i).1,0,none⟩) j (gI i).2))/\ar wr w8.heap.size 30 (bG G)/\Bw w5 wr):=⟨k+1,R,by omega,rfl,ia,uX,oh,hO,hc,hs,pb⟩;have iu:=aj hres;clear hres oh ia uX hRe hO hc hs pb;go_wp2;go_roundw;case rel=>obtain⟨k',R,h1,rfl,h⟩:=iu.out;exact⟨k+1,R,h1,by go_num,h⟩
       case measure=>exact bC
  . obtain rfl:k=n:=by omega
    have hRf:R=uH k P:=uv.out R ia uX (λa b ha hb=>by rw[hRe a b ha hb,if_pos (by unfold kP;omega)]);subst hRf;obtain⟨Qe,bo⟩:=aK hO pb;clear hO hc hs pb ia uX hRe;obtain⟨Hr,Hd,Hb⟩:=cw (qP.out.below bo.out) (ZI.out.below bo.out) (aI fW.out bo.out);obtain⟨ae,ak⟩:=qZ (Hr.an<|Hd.an trivial);go_wp2_with fail;refine(kF.out _ Hb.out).mono ?_;rintro e Bc ⟨rfl,Ac,ai⟩;obtain⟨ae,ak⟩:=qX ai (Hb.an ae);have akK:=aj (Qe.out.below Ac);clear Ac;have hzz:=fW.out.size;have lU:w.heap.size<w5.heap.size:=Nat.lt_of_lt_of_le qP.out.lt (Nat.le_refl _);go_wp2;refine dX (λFI=>ar FI w.heap.size 30 [ag (az (dN (G*X))),ah (nt (dN (G*X)).natAbs),af (dE (G*X))]/\gK FI w5.heap.size k (uH k P) k (.slice (some ⟨go,0,none⟩) k cv)/\Bw w FI) ⟨((ae.2.1.out.set 0 _).set 1 _).set 2 _,((akK.out.aGA lU _).aGA lU _).aGA lU _,((ae.1.out.setCell zp _).setCell zp _).setCell zp _⟩ ?_;rintro FI ⟨aup,auh,atv⟩;obtain⟨q0,q1,q2⟩:=aup.c3;obtain⟨a9,c9,sH,NN,OG⟩:=auh.tbl (SG _ _) (SH _ _);simp only[Value.slice.injEq,true_and]at sH;obtain⟨rfl,rfl⟩:=sH;exact bodyPost_ret (v:=.tuple #[bT (G*X),.slice (some ⟨go,0,none⟩) k cv,af 0]) (by simp[results,Tryz.results148,go_sem,q0,q1,q2]) rfl ⟨_,_,rfl,NN,OG,atv⟩
def axw {w:World}{b base n:Nat}{e:TypeId}{size:Nat}{xs:List Value}(h:ar w b e xs)(hb:base<=b)(hl:xs.length=n*size)(hn:n<=1048576):w.ownsRow base e size (.slice (some ⟨b,0,none⟩) n n) n xs:=
 ⟨hl,.inr ⟨b,n,xs.toArray,rfl,hb,h,Nat.le_refl _,by unfold maxLen;omega,by simpa using hl,by rw[<-hl];simp⟩⟩
def bJ.aGF {w:World}{a:Option Addr}{T:List (List Dyadic)}{n:Nat}(h:bJ w a (T.map λr=>r.map canon))(hl:T.length=n)(hr:∀r∈T,r.length=n)(k i:Nat)(hk:k<n)(hi:i<n):
 ∃b o br os cr,a=some ⟨b,o,none⟩/\w.cell? ⟨b,o+k,none⟩=some (.slice (some ⟨br,os,none⟩) n cr)/\aZ w br (os+i*3) [ag (az (dN (cC T k i))),ah (nt (dN (cC T k i)).natAbs),af (dE (cC T k i))]:=by
 have Om:k<T.length:=by omega
 obtain⟨b,o,a',c',h1,h2,h3⟩:=h.row k (by simpa using Om);have e1:(T.map λr=>r.map canon)[k]'(by simpa using Om)=T[k].map canon:=by simp
 have hlk:=hr _ (List.getElem_mem Om);rw[e1]at h2 h3;rw[List.length_map,hlk]at h2;have hik:i<T[k].length:=by omega
 have e2:cC T k i=T[k][i]:=by unfold cC;simp[List.getD_eq_getElem?_getD,Om,hik]
 obtain⟨br,os,e3,q0,q1,q2⟩:=h3.num i (by simpa using hik) (show(T[k].map canon)[i]'(by simpa using hik)=(az (dN (cC T k i)),nt (dN (cC T k i)).natAbs,dE (cC T k i))by rw[e2];simp;rfl);subst e3;exact⟨b,o,br,os,c',h1,h2,kE q0 q1 q2⟩
def ayj {n B:Nat}{rows:List (List Raw)}(hr:Rw n B rows)(a b:Nat)(ha:a<=n)(hb:b<n):Sm B (cm rows a b):=by have hL:=hr.1;rw[xa rows a b zo (by rw[hr.2.1 _ (List.getElem_mem _)];exact hb)];exact(hr.2.2 _ (List.getElem_mem _) _ (List.getElem_mem _)).2
def IH {V B:Nat}{l:List Trm}(hV:V<=12)(hm:∀t∈l,fQ t.1 V=true)(hl:l.length<=4096)(hs:∀x∈l,Sm B (au x.2))(hB:B+l.length<=268435456):jI V (B+l.length) (cg l):=by refine⟨aqd hV hm hl,λt ht=>?_⟩;have h1:=aqe hs t ht;have h2:=((BN l).2 t ht).2;rw[h2];exact h1.fit hB
def jI.mono {V B B':Nat}{ts:List Trm}(h:jI V B ts)(hB:B<=B'):jI V B' ts:=⟨h.1,λt ht=>(h.2 t ht).mono hB⟩
def Wu {V B:Nat}{c:Dyadic}{l:Nat->Dyadic}{k:Nat}(hV:V<=12)(hk:k<=V)(hc:Sm B c)(hl:∀j,j<k->Sm B (l j))(hB:B+13<=268435456):jI V (B+13) (eD V c l k):=by have h:=IH (B:=B) hV (avp V c l k) (by rw[EZ];omega) (avq V c l k hc hl) (by rw[EZ];omega);rw[EZ]at h;exact h.mono zo
def ajM {V B:Nat}{k:Nat}{x:Dyadic}(hV:V<=12)(hx:Sm B x)(hB:B+1<=268435456):jI V (B+1) (cg [(cN V k,canon x)]):=
 IH (l:=[(cN V k,canon x)]) hV (by intro t ht;simp at ht;subst ht;exact Yr V k) zm (by intro t ht;simp at ht;subst ht;show Sm B (au (canon x));rw[bF];exact hx) (by simpa using hB)
def azh (V k:Nat)(x:Dyadic):cg (gG x (cg [(cN V k,canon 1)]))=cg [(cN V k,canon x)]:=by refine Ee (λm=>?_);rw[ab2,xS];simp only[cJ,bF];split<;>grind
def aor (V B:Nat)(A D C:List Trm)(aA aD:Option Addr)(cA cD:Nat)(w:World)(b:Nat)(hb:ar w b 24 [af (V:Int),.slice aA A.length cA,af (V:Int),.slice aD D.length cD])(hA:zw w aA cA A)(hD:zw w aD cD D)(UY:jI V B A)(UZ:jI V B D)(hn:A.length+D.length<=4096)(hB:B+2+8192<=268435456)(hT:aC w)(hC:cg (A++D)=C):
 Cl 152 #[.slice (some ⟨b,0,none⟩) 2 2] w λex w'=>∃a' c',ex=.returned (.tuple #[.agg #[af (V:Int),.slice a' C.length c'],af 0])/\cW w' a' c' C/\Bw w w':=by
 refine axB V B b 0 2 2 [⟨V,aA,A.length,cA⟩,⟨V,aD,D.length,cD⟩] (λk=>if k=0 then A else D) C w rfl zd zd (At.aGr hb) ?_ ?_ hB hT ?_
 . intro k hk;rcases k with _|k
   . exact⟨aA,cA,rfl,hA,UY⟩
   . obtain rfl:k=0:=by simp at hk;omega
     exact⟨aD,cD,rfl,hD,UZ⟩
 . simp[oW];omega
 . simpa[oW]using hC
def abd (V B:Nat)(A D C:List Trm)(aA aD:Option Addr)(cA cD:Nat)(w:World)(b:Nat)(hb:ar w b 24 [af (V:Int),.slice aA A.length cA,af (V:Int),.slice aD D.length cD])(hA:cW w aA cA A)(hD:cW w aD cD D)(UY:jI V B A)(UZ:jI V B D)(hn:A.length+D.length<=4096)(hB:B+2+8192<=268435456)(hT:aC w)(hC:cg (A++D)=C):
 Cl 152 #[.slice (some ⟨b,0,none⟩) 2 2] w λex w'=>∃a' c',ex=.returned (.tuple #[.agg #[af (V:Int),.slice a' C.length c'],af 0])/\cW w' a' c' C/\Bw w w':=aor V B A D C aA aD cA cD w b hb hA.w hD.w UY UZ hn hB hT hC
def avu (V B:Nat)(c:Dyadic)(L:List Dyadic)(l:Nat->Dyadic)(a:Option Addr)(cap:Nat)(w:World)(hV:V<=12)(hL:L.length=V)(hl:∀k (h:k<L.length),l k=L[k])(hcs:Sm B c)(hls:∀x∈L,Sm B x)(hB:B<=100000000)(ha:At w a (dC L))(hT:aC w):
 Cl 150 #[.agg #[ag (az (dN c)),ah (nt (dN c).natAbs),af (dE c)],.slice a V cap] w λex w'=>∃a' c',ex=.returned (.tuple #[.agg #[af (V:Int),.slice a' (eD V c l V).length c'],af 0])/\cW w' a' c' (eD V c l V)/\Bw w w':=by
 have hcn:=λW (hW:Bw w W)=>ab5 V (az (dN c)) (nt (dN c).natAbs) (dE c) c B l W hV (hcs.fit zo) zo (hT.below hW) (bF c);have EP:=λk (hk:k<V) W (hW:Bw w W)=>aAZ V k W hV hk (hT.below hW);have hlk:∀k,k<V->Sm B (l k):=λk hk=>by rw[hl k zo];exact hls _ (List.getElem_mem _)
 have hsc:=λk (hk:k<V) a' c' (W:World) (hW:Bw w W) (hp:cW W a' c' (cg [(cN V k,canon 1)]))=>aiN V a' c' (cg [(cN V k,canon 1)]) (az (dN (l k))) (nt (dN (l k)).natAbs) (dE (l k)) (l k) (B+2) W (ajM (B:=B+1) hV (Sm.one.mono zo) zo) hp (((hlk k hk).mono zo).fit zo) zo (hT.below hW) (bF _);simp only[azh]at hsc;have had:=λk (hk:k<V) aA cA aD cD (W:World) (hW:Bw w W) b (hb:ar W b 24 [af (V:Int),.slice aA (eD V c l k).length cA,af (V:Int),.slice aD (cg [(cN V k,canon (l k))]).length cD]) (hA:cW W aA cA (eD V c l k)) (hD:cW W aD cD (cg [(cN V k,canon (l k))]))=>abd V (B+13) (eD V c l k) (cg [(cN V k,canon (l k))]) (eD V c l (k+1)) aA aD cA cD W b hb hA hD (Wu hV zo hcs (λj hj=>hlk j zo) zo) ((ajM (B:=B) hV (hlk k hk) zo).mono zo) (by have h1:=Ir (iW V c l k);have h2:=Ir [(cN V k,canon (l k))];rw[EZ]at h1;simp at h2;unfold eD;omega) zo (hT.below hW) (avr V c l k);obtain⟨n0,hn0⟩:=aB ((eD V c l 0).length);rw[hn0]at hcn;obtain⟨xC,Hvr,BF,xx,Hl,HL,Ha,qH⟩:=jZ hcn EP hsc had hl hL ha hn0;clear hcn EP hsc had hl hL ha hT hlk hls hcs hn0;have Hb:=hbz w;go_enter Tryz.func150,Tryz.ntmps150;go_wp2_with fail;refine lw w (Hb.an trivial) 30 (bG c) 24 [af 0,.slice none 0 0] λW aR ae ak=>?_;go_wp2_with fail;refine(xC.out _ ae.2.2.1.out).mono ?_;rintro e w1 ⟨a1,d1,rfl,hp1,ai⟩;obtain⟨ae,ak⟩:=qX ai ae;obtain⟨Hc,Hr,Hb,_⟩:=ae;obtain⟨c0,c1,c2⟩:=Hc.out.c3;obtain⟨r0,aO,r1,aQ⟩:=Hr.out.g2;have QA:=Hc;have qP:=Hr;have fW:=Hb;have rU:=aj hp1;clear hp1;obtain⟨W2,nV,aR,ae,ak⟩:=bX w1 (Hb.an<|Hc.an<|Hr.an trivial) 24 [af (V:Int),.slice a1 n0 d1];have Mc:Hid (cW W2 a1 d1 (eD V c l 0)):=rU.out.below (by first|exact zl| (rw[<-nV];exact zl));have YK:Hid (Bw w1 W2):=by rw[<-nV];exact zl
 go_wp2_with fail;go_loopw[7,8] (λs7 x wr=>∃(k:Nat) (a':Option Addr) (n' c':Nat),k<=V/\x=af (k:Int)/\s7=af 0/\(eD V c l k).length=n'/\ar wr w1.heap.size 24 [af (V:Int),.slice a' n' c']/\cW wr a' c' (eD V c l k)/\Bw w1 wr) (λ_ x _=>V-(intOf x).toNat);case atStart=>exact⟨0,a1,n0,d1,Nat.zero_le _,rfl,rfl,qH.out,ae.1.out,Mc.out,YK.out⟩
 case round=>
  clear Mc YK rU;obtain⟨k,a',n',c',hk,rfl,rfl,hn,ho,hp,pb⟩:=hrel;obtain⟨Ho,Hp,bo,Hn⟩:=dv ho hp pb hn;have dY:=fW.out;have kD:=pb.size;have xh:=dY.size;by_cases hlt:k<V
  . have Ck:k<(L.map canon).length:=by rw[List.length_map,HL.out];exact hlt
    have hat':=Ha.out.below (aI fW.out pb);rw[sf]at hat';obtain⟨X,hX⟩:=aB (l k);obtain⟨bx,ox,rfl,p0,p1,p2⟩:=hat'.num k Ck (show(L.map canon)[k]=(bE X)by rw[<-hX,Hl.out k (by simpa using Ck)];simp;rfl);have ixx:=mg V cap k (k:Int) (rfl:(some ⟨bx,ox,none⟩:Option Addr)=_) hlt rfl;have lbx:bx<wr.heap.size:=World.block_lt_of_cell? wr _ p0;have EP:=Hvr.out k hlt;have hsc:=BF.out k hlt;have had:=xx.out k hlt;rw[hn,hX]at had;rw[hX]at hsc;obtain⟨n1,gA⟩:∃n,(cg [(cN V k,canon 1)]).length=n:=⟨_,rfl⟩;obtain⟨n2,oh⟩:∃n,(cg [(cN V k,canon X)]).length=n:=⟨_,rfl⟩;obtain⟨n3,sG⟩:∃n,(eD V c l (k+1)).length=n:=⟨_,rfl⟩;rw[oh,sG]at had;rw[gA,oh]at hsc;rw[gA]at EP;obtain⟨qT,ze,Qp,Rt⟩:=dv EP hsc had sG;have Hx:Hid (aZ wr bx (ox+k*3) (bG X)):=kE p0 p1 p2;have fX:=aj (aI fW.out pb);clear EP hsc had gA oh sG hat' Ck hX p0 p1 p2 ho hp pb hn dY;have Hb:=hbz wr;have hlo:=Ho.out.lt;obtain⟨ae,ak⟩:=qZ (Ho.an<|Hx.an trivial);go_wp2_with fail;refine(qT.out _ (aI fX.out Hb.out)).mono ?_;rintro e w3 ⟨a3,d3,rfl,JN,ai⟩;obtain⟨ae,ak⟩:=qX ai (Hb.an ae);have tq:=aj JN;have AZ:=ae.1.out.size;clear JN;obtain⟨W4,kV,aR,ae,ak⟩:=bX w3 ae 24 [af (V:Int),.slice a3 n1 d3];have HQ:Hid (cW W4 a3 d3 (cg [(cN V k,canon 1)])):=tq.out.below (by first|exact zl| (rw[<-kV];exact zl));go_wp2_with fail;obtain⟨Hv,Hb,Ho,Hx,_⟩:=ae;obtain⟨o0,fo0,o1,fo1⟩:=Ho.out.g2;obtain⟨x0,x1,x2⟩:=Hx.out.w3;obtain⟨v0,fv0,v1,Em⟩:=Hv.out.g2;refine fh (λw'=>aH w' bx (ox+k*3) (ag (az (dN X)))/\aH w' bx (ox+k*3+1) (ah (nt (dN X).natAbs))/\aH w' bx (ox+k*3+2) (af (dE X))) (λi=>Nat.blt i 100000) [(1,true),(2,true),(3,true),(4,true),(0,false),(5,false),(6,true),(7,true),(8,true),(9,false)] zk zk rfl zk zc ⟨x0,x1,x2⟩ ?_;iterate 4 (refine pT rfl rfl ?_ (by intro w' ⟨q0,q1,q2⟩;go_simp;try with_reducible rfl);try simp only[UU])
    refine aM rfl rfl (λK hK=>?_);go_simp;refine hK _ _ (λ_=>⟨x0,x1,x2⟩) ?_;try simp only[UU]
    refine aM rfl rfl (λK hK=>?_);go_simp;with_reducible refine(ze.out a3 d3 _ (by first|exact aI fX.out Hb.out|exact aI fX.out Hb.out.drew) (by first|exact HQ.out|exact HQ.out.below (Below.refl _ _).drew)).mono ?_
    rintro e w5 ⟨a5,d5,rfl,hp5,hq⟩;have ai:Bw W4 w5:=by first|exact hq|exact cu hq
    replace Ho:=kB Ho ai;replace Hx:=kW Hx ai;replace Hv:=kB Hv ai;replace HQ:=aj (HQ.out.below ai);obtain⟨o0,fo0,o1,fo1⟩:=Ho.out.g2;obtain⟨x0,x1,x2⟩:=Hx.out.w3;obtain⟨v0,fv0,v1,Em⟩:=Hv.out.g2;replace Hb:=aW Hb ai;refine hK _ _ (λ_=>⟨x0,x1,x2⟩) ?_;try simp only[UU]
    iterate 3 (refine pT rfl rfl ?_;try simp only[UU])
    refine aM rfl rfl (λK hK=>?_);go_simp;refine hK _ _ (by first|exact λh=>absurd h zd|exact λ_=>⟨x0,x1,x2⟩ |exact λ_=>⟨(by first|exact x0|exact aF zf x0|exact aF zf (aF zf x0) |exact aF zf (aF zf (aF zf x0))),(by first|exact x1|exact aF zf x1|exact aF zf (aF zf x1) |exact aF zf (aF zf (aF zf x1))),(by first|exact x2|exact aF zf x2|exact aF zf (aF zf x2) |exact aF zf (aF zf (aF zf x2)))⟩) ?_;try simp only[UU]
    simp only[bH];have VR:=Hv.out;generalize Jc:(w5.setCell ⟨w3.heap.size,0,none⟩ (af (V:Int))).setCell ⟨w3.heap.size,1,none⟩ (.slice a5 n2 d5)=W6;have hp6:cW W6 a5 d5 (cg [(cN V k,canon X)]):=by rw[<-Jc];exact hp5.store VR zd _ _
    have JK:ar W6 w1.heap.size 24 [af (V:Int),.slice a' n' c']:=by rw[<-Jc];exact(Ho.out.so w3.heap.size 0 zo _).so w3.heap.size 1 zo _
    have bW:ar W6 w3.heap.size 24 [af (V:Int),.slice a5 n2 d5]:=by rw[<-Jc];exact(VR.set 0 _).set 1 _
    have Jh:Bw wr W6:=by rw[<-Jc];exact(Hb.out.setCell AZ _).setCell AZ _
    replace Ho:=aj JK;replace Hv:=aj bW;replace Hb:=aj Jh;have Hp6:=aj hp6;clear JK bW Jh hp6 hp5 VR Jc o0 o1 fo0 fo1 v0 v1 fv0 Em x0 x1 x2;obtain⟨ae,ak⟩:=qZ (Ho.an<|Hv.an trivial);have v1:W6.cell? ⟨w3.heap.size,1,none⟩=some (.slice a5 n2 d5):=ae.2.1.out.cell 1;have v0:W6.cell? ⟨w3.heap.size,0,none⟩=some (af (V:Int)):=ae.2.1.out.cell 0;have o0:W6.cell? ⟨w1.heap.size,0,none⟩=some (af (V:Int)):=ae.1.out.cell 0;have o1:W6.cell? ⟨w1.heap.size,1,none⟩=some (.slice a' n' c'):=ae.1.out.cell 1;have P0:=o0;have P1:=o1;have Q0:=v0;have Q1:=v1;obtain⟨W7,Uw,aR,ae,ak⟩:=bX W6 (Hb.an ae) 24 [af (V:Int),.slice a' n' c',af (V:Int),.slice a5 n2 d5];have HP:Hid (cW W7 a' c' (eD V c l k)):=Hp.out.below ae.2.1.out;have HS:Hid (cW W7 a5 d5 (cg [(cN V k,canon X)])):=Hp6.out.below (by first|exact zl| (rw[<-Uw];exact zl));go_wp2_with fail;go_wp2_with fail;refine(Qp.out _ _ _ _ _ (aI fX.out ae.2.1.out) _ ae.1.out HP.out HS.out).mono ?_;rintro e w8 ⟨a8,d8,rfl,JP,ai⟩;obtain⟨ae,ak⟩:=qX ai (HP.an<|HS.an ae);have Cn:=cW.store JP ae.2.2.2.2.1.out zd (af (V:Int)) (.slice a8 n3 d8);obtain⟨LU,nI⟩:=aK Cn (aI bo.out ae.2.2.2.1.out);clear JP Cn;go_wp2;go_roundw;case rel=>exact⟨k+1,a8,n3,d8,by omega,by go_num,rfl,Rt.out,(ae.2.2.2.2.1.out.set 0 _).set 1 _,LU.out,(nI.out.setCell (Nat.le_refl _) _).setCell (Nat.le_refl _) _⟩
    case measure=>exact bC
  . obtain rfl:k=V:=by omega
    have Hr:=aj (qP.out.below bo.out);have Hb:Hid (Bw w wr):=aI fW.out bo.out;have hsz:=qP.out.lt;obtain⟨ae,ak⟩:=qZ (Ho.an<|Hr.an trivial);go_wp2;have ku:=Hp.out.store ae.2.1.out zd (af (k:Int)) (.slice a' n' c');refine dX (λw9=>cW w9 a' c' (eD k c l k)/\ar w9 (w.heap.size+1) 24 [af (k:Int),.slice a' n' c']/\Bw w w9) ⟨ku,(ae.2.1.out.set 0 _).set 1 _,(Hb.out.setCell zp _).setCell zp _⟩ ?_;rintro w9 ⟨q1,q2,q3⟩;obtain⟨x0,x1⟩:=q2.c2;exact bodyPost_ret (v:=.tuple #[.agg #[af (k:Int),.slice a' n' c'],af 0]) (by simp[results,Tryz.results150,go_sem,x0,x1]) rfl ⟨a',c',by rw[hn],q1,q3⟩
end Go.Proofs.YtbkopgdpcijfbaaGreatDoor
namespace Go.Proofs.YtbkopgdpcijfbaaGreatDoor
open Go.RowKit
def pL (n:Nat)(P:Nat->Nat->Dyadic)(i:Nat):List Trm:=eD n (wC n P i) (λk=>kI n P k i) n
def CQ (n:Nat)(P:Nat->Nat->Dyadic)(i:Nat):List Trm:=cg (gG (-1) (pL n P i))
def lQ (n:Nat)(P:Nat->Nat->Dyadic)(i:Nat):List Trm:=eD n (wZ n P (λ_=>0) i) (λb=>lZ n P b i) n
def dP (n:Nat)(P:Nat->Nat->Dyadic)(i j:Nat):List Trm:=if j=0 then lQ n P i else pL n P (j-1)
def oX (n:Nat)(P:Nat->Nat->Dyadic)(i k:Nat):List Dyadic:=(List.range k).map λk=>kI n P k i
def ap8 (n:Nat)(P:Nat->Nat->Dyadic)(i k:Nat):(oX n P i k).length=k:=by simp[oX]
def ap7 (n:Nat)(P:Nat->Nat->Dyadic)(i k j:Nat)(h:j<(oX n P i k).length):(oX n P i k)[j]=kI n P j i:=by simp[oX]
def ap9 (n:Nat)(P:Nat->Nat->Dyadic)(i k:Nat):oX n P i (k+1)=oX n P i k++[kI n P k i]:=by unfold oX;rw[List.range_succ,List.map_append];rfl
def aA4 (n:Nat)(P:Nat->Nat->Dyadic)(i k:Nat):wS n P (λ_=>0) i k-P 0 k*kI n P k i=wS n P (λ_=>0) i (k+1):=by
 show _=wS n P (λ_=>0) i k+(0-P 0 k) *kI n P k i
 grind
def arZ (n:Nat)(P:Nat->Nat->Dyadic)(l:Nat->Dyadic):eD n (wZ n P (λ_=>0) 0) l 0=lQ n P 0:=by
 unfold lQ eD;refine Ee (λm=>?_);have h:∀k,cJ (iW n (wZ n P (λ_=>0) 0) (λb=>lZ n P b 0) k) m=cJ (iW n (wZ n P (λ_=>0) 0) l 0) m:=by
  intro k;induction k with
  |zero=>rfl
  |succ k ih=>rw[MG,ih];simp[lZ]
 exact(h n).symm
def arY (n:Nat)(hn:1<=n)(bZ:n<=4)(P:Nat->Nat->Dyadic)(i:Nat)(hi:i<n):cg (lQ n P i++CQ n P i)=lQ n P (i+1):=by
 unfold lQ CQ pL;rw[avs];have:wZ n P (λ_=>0) i-wC n P i=wZ n P (λ_=>0) (i+1):=by unfold wC;rw[KX n hn bZ P _ i hi];rfl
 rw[this];rfl
def YF {B n:Nat}:∀b,b<n->Sm B ((λ_=>0:Nat->Dyadic) b):=λ_ _=>Sm.zero _
def ajR {B n:Nat}{P:Nat->Nat->Dyadic}(hn:1<=n)(bZ:n<=4)(h:∀a b,a<=n->b<n->Sm B (P a b))(i:Nat):Sm (5*B+20) (wC n P i):=(Yx hn bZ h YF i n (Nat.le_refl _)).mono zo
def avc {B n:Nat}{P:Nat->Nat->Dyadic}(hn:1<=n)(bZ:n<=4)(h:∀a b,a<=n->b<n->Sm B (P a b))(b i:Nat):Sm (4*B+11+i) (lZ n P b i):=by
 induction i with
 |zero=>exact Sm.zero _
 |succ i ih=>exact(Sm.sub ih ((Mu hn bZ h b i).mono zo)).mono zo
def ahi {B n:Nat}{P:Nat->Nat->Dyadic}(hn:1<=n)(bZ:n<=4)(h:∀a b,a<=n->b<n->Sm B (P a b))(hB:B<=1000000)(i:Nat):jI n (5*B+33) (pL n P i):=
 Wu (B:=5*B+20) zo (Nat.le_refl _) (ajR hn bZ h i) (λj _=>(Mu hn bZ h j i).mono zo) zo
def arW {B n:Nat}{P:Nat->Nat->Dyadic}(hn:1<=n)(bZ:n<=4)(h:∀a b,a<=n->b<n->Sm B (P a b))(hB:B<=1000000)(i:Nat)(hi:i<=n):jI n (5*B+33) (lQ n P i):=
 Wu (B:=5*B+20) zo (Nat.le_refl _) ((aBe hn bZ h YF i hi).mono zo) (λj _=>(avc hn bZ h j i).mono zo) zo
def ahk (n:Nat)(c:Dyadic)(l:Nat->Dyadic)(k:Nat):(eD n c l k).length<=k+1:=by have:=Ir (iW n c l k);rw[EZ]at this;exact this
def ahj (n:Nat)(P:Nat->Nat->Dyadic)(i:Nat):(pL n P i).length<=n+1:=ahk _ _ _ _
def arX (n:Nat)(P:Nat->Nat->Dyadic)(i:Nat):(lQ n P i).length<=n+1:=ahk _ _ _ _
def aw1 (n:Nat)(P:Nat->Nat->Dyadic)(i:Nat):(CQ n P i).length<=n+1:=by have h:=Ir (gG (-1) (pL n P i));have h2:=ahj n P i;unfold gG at h;rw[List.length_map]at h;unfold CQ gG;omega
def aw0 {B n:Nat}{P:Nat->Nat->Dyadic}(hn:1<=n)(bZ:n<=4)(h:∀a b,a<=n->b<n->Sm B (P a b))(hB:B<=1000000)(i:Nat):jI n (5*B+40) (CQ n P i):=by
 have hf:=ahi hn bZ h hB i;have hl:=ahj n P i;have hsl:(gG (-1) (pL n P i)).length=(pL n P i).length:=by unfold gG;rw[List.length_map]
 refine(IH (V:=n) (B:=5*B+35) (l:=gG (-1) (pL n P i)) zo ?_ zo ?_ zo).mono zo
 . intro t ht;unfold gG at ht;obtain⟨x,hx,rfl⟩:=List.mem_map.1 ht;exact hf.1.2.1 x hx
 . intro t ht;unfold gG at ht;obtain⟨x,hx,rfl⟩:=List.mem_map.1 ht;show Sm _ (au (canon (au x.2* -1)))
   rw[bF];exact(Sm.mul (hf.2 x hx).2 (Sm.neg Sm.one)).mono zo
def ayn (ps:List Pv)(V:Int)(a:Option Addr)(n c:Nat):(((ps.flatMap mD).set 0 (af V)).set 1 (.slice a n c))=(ps.set 0 ⟨V,a,n,c⟩).flatMap mD:=by
 cases ps with
 |nil=>rfl
 |cons p ps=>rfl
def ax8 {W:World}{V B:Nat}{ps:List Pv}{Ts:Nat->List Trm}{a:Option Addr}{c:Nat}{C:List Trm}(h:jg W V B ps Ts)(hT:Ts ps.length=C)(hp:cW W a c C)(hf:jI V B C):jg W V B (ps++[⟨(V:Int),a,C.length,c⟩]) Ts:=by
 intro k hk;by_cases hl:k<ps.length
 . obtain⟨a',c',h1,h2,h3⟩:=h k hl;exact⟨a',c',by rw[List.getElem_append_left hl];exact h1,h2,h3⟩
 . have e:k=ps.length:=by simp at hk;omega
   subst e;exact⟨a,c,by simp[hT],by rw[hT];exact hp,by rw[hT];exact hf⟩
def ax9 {W:World}{V B:Nat}{ps:List Pv}{Ts Ts':Nat->List Trm}{a:Option Addr}{c:Nat}{C:List Trm}(h:jg W V B ps Ts)(hs:∀j,0<j->Ts' j=Ts j)(h0:Ts' 0=C)(hp:cW W a c C)(hf:jI V B C):jg W V B (ps.set 0 ⟨(V:Int),a,C.length,c⟩) Ts':=by
 intro k hk;rw[List.length_set]at hk;rcases k with _|k
 . exact⟨a,c,by simp[h0],by rw[h0];exact hp,by rw[h0];exact hf⟩
 . obtain⟨a',c',h1,h2,h3⟩:=h (k+1) hk;rw[<-hs (k+1) zo]at h1 h2 h3;exact⟨a',c',by simp[h1],h2,h3⟩
def jg.off {W:World}{V B:Nat}{ps:List Pv}{Ts:Nat->List Trm}{g:Nat}{cur:Array Value}{t:TypeId}(h:jg W V B ps Ts)(hg:W.heap[g]?=some (.cells cur t))(ht:t≠90)(i:Nat)(u:Value):jg (W.setCell ⟨g,i,none⟩ u) V B ps Ts:=λk hk=>by obtain⟨a,c,h1,h2,h3⟩:=h k hk;exact⟨a,c,h1,h2.off hg ht i u,h3⟩
def aid {w:World}{base:Nat}{e:TypeId}{size n cap g:Nat}{xs:List Value}(h:w.ownsRow base e size (.slice (some ⟨g,0,none⟩) n cap) n xs):∃cur,w.heap[g]?=some (.cells cur e):=by
 rcases h.2 with⟨h1,_⟩ |⟨g',cap',cur,h1,hb,hg,_⟩
 . simp at h1
 . simp only[Value.slice.injEq,Option.some.injEq,Addr.mk.injEq,and_true,true_and]at h1;obtain⟨rfl,rfl⟩:=h1;exact⟨cur,hg⟩
def cW.grown {w w':World}{r:Option Nat}{a:Option Addr}{c:Nat}{C:List Trm}(h:cW w a c C)(hg:w.grownBy w' r)(hr:∀g,r=some g->∃cur t,w.heap[g]?=some (.cells cur t)/\t≠90):cW w' a c C:=by
 refine⟨?_,h.2.1,?_⟩
 . rcases h.2.2 with h'|⟨b,o,cur',rfl,h2⟩
   . subst h';exact .inl rfl
   . have hne:some b≠r:=λe=>by obtain⟨cur,t,h3,h4⟩:=hr b e.symm;rw[h3]at h2;simp at h2;exact h4 h2.2
     rcases h.1 with h1|⟨b1,o1,e1,hc⟩
     . exact .inl h1
     . simp only[Option.some.injEq,Addr.mk.injEq,and_true]at e1;obtain⟨rfl,rfl⟩:=e1;refine .inr ⟨b,o,rfl,λj hj=>?_⟩;have h9:=hc j hj;rw[<-h9];have hk:=hg.block b (Array.getElem?_eq_some_iff.1 h2).1 hne;simp only[World.cell?,hk]
 . rcases h.2.2 with h'|⟨b,o,cur',rfl,h2⟩
   . exact .inl h'
   . have hne:some b≠r:=λe=>by obtain⟨cur,t,h3,h4⟩:=hr b e.symm;rw[h3]at h2;simp at h2;exact h4 h2.2
     exact .inr ⟨b,o,cur',rfl,by rw[hg.block b (Array.getElem?_eq_some_iff.1 h2).1 hne];exact h2⟩
def jg.grown {W w':World}{V B:Nat}{ps:List Pv}{Ts:Nat->List Trm}{r:Option Nat}(h:jg W V B ps Ts)(hg:W.grownBy w' r)(hr:∀g,r=some g->∃cur t,W.heap[g]?=some (.cells cur t)/\t≠90):jg w' V B ps Ts:=λk hk=>by obtain⟨a,c,h1,h2,h3⟩:=h k hk;exact⟨a,c,h1,h2.grown hg hr,h3⟩
def axz {w:World}{base:Nat}{e:TypeId}{size n:Nat}{v:Value}{xs:List Value}(h:w.ownsRow base e size v n xs):∀g,v.ownBlock=some g->∃cur t,w.heap[g]?=some (.cells cur t)/\t=e:=by
 intro g hg;rcases h.2 with⟨rfl,_⟩ |⟨g',cap',cur,rfl,_,hg2,_⟩
 . simp[Value.ownBlock]at hg
 . have:g'=g:=by simpa[Value.ownBlock]using hg
   subst this;exact⟨cur,e,hg2,rfl⟩
def Tryz.aGN :(Tryz.prog.info? 24).map (λi=>(i.zero,i.size,i.bytes))=some (some (.agg #[af 0,.slice none 0 0]),2,32):=by kernel_rfl
end Go.Proofs.YtbkopgdpcijfbaaGreatDoor
