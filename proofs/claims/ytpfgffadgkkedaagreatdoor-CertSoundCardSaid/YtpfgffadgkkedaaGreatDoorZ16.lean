/- Package slices: Clone,Delete,over numbers. -/
import Derived.Test.YtpfgffadgkkedaaGreatDoorZ7
import Derived.Test.YtpfgffadgkkedaaGreatDoorZ14
import Derived.Lib.SliceRun
import Derived.Test.YtpfgffadgkkedaaGreatDoorZ13
import Derived.Test.YtpfgffadgkkedaaGreatDoorZ11
import Derived.Test.YtpfgffadgkkedaaGreatDoorZ15
set_option linter.all false
set_option maxRecDepth 100000
set_option maxHeartbeats 16000000
namespace Go.Proofs.YtpfgffadgkkedaaGreatDoor
open Go.RowKit
attribute [local go_sem ↓] Go.wp_at_zero Go.wp_at_succ
def am2 (a:Option Addr)(n cap:Nat)(dD:List Raw)(w:World)(hn:dD.length=n)(hl:n<=1048576)(hs:a=none->n=0/\cap=0)(ha:At w a (dD.flatMap aV)):
 Cl 295 #[.slice a n cap] w λe w'=>∃v',e=.returned v'/\w'.ownsRow w.heap.size 45 3 v' n (dD.flatMap aV)/\Bw w w':=by
 obtain⟨i0,hi,hz0,hz1,hz2⟩:=info_parts Tryz.aBb;have q:=λ(w:World) (a:Option Addr) (n c n' c':Nat)=>Lib.run_eql_slice_nil (P:=Tryz.prog) w 29 45 a n c n' c' Tryz.underlying29;have hlen:(dD.flatMap aV).length=n*3:=by rw[iE aV 3 (λ_=>rfl),hn]
 obtain⟨cs,hcs⟩:=az (dD.flatMap aV);have h1:=Ej dD;rw[hcs]at hlen ha h1⊢;obtain⟨lQ,Ha,H1,Hs,Hi,cm,bR,bZ⟩:=lC hlen ha h1 hs hi hz0 hz1 hz2;clear hlen ha h1 hs hi hz0 hz1 hz2 hn hcs;cases a with
 |none=>obtain⟨hn0,hc⟩:=Hs.out rfl;subst hc;subst hn0;go_enter Tryz.func295,Tryz.ntmps295;go_wp2;go_ret;refine⟨_,rfl,?_,Below.refl _ _⟩;have e:cs=[]:=List.eq_nil_of_length_eq_zero (by have:=lQ.out;omega);rw[e];exact World.ownsRow_nil _ _ _ _
 |some ad=>go_enter Tryz.func295,Tryz.ntmps295;go_wp2_with (at_builtin;refine VR rfl _ _ 29 rfl w.heap.size 45 i0 _ 3 32 Tryz.underlying29 Hi.out cm.out bR.out bZ.out rfl zd _ 0 [] rfl (World.ownsRow_made w #[] 0 (Nat.le_refl _) (Nat.zero_le _) zm) (some ad) n cap cs rfl Hs.out lQ.out (Ha.out.below ((Below.refl _ w).alloc (Nat.le_refl _) _)) H1.out zx zo zm ?_;intro v' w1 hown hgrow fI);go_ret;refine⟨v',rfl,by simpa using hown,?_⟩;exact((Below.refl _ w).alloc (Nat.le_refl _) _).grown hgrow zm (λk hk=>by have h9:w.heap.size=k:=Option.some.inj hk;omega)
def Tryz.aBt (w:World):(zeroValue 45).run Tryz.prog w=.ok (.agg #[ag false,.string ⟨#[]⟩,af 0]) w:=by kernel_rfl
def aoz {α:Type}(f:α->List Value)(sz:Nat)(hf:∀x,(f x).length=sz)(xs:List α)(i:Nat)(hi:i<xs.length):(xs.eraseIdx i).flatMap f=(xs.flatMap f).take (i*sz)++(xs.flatMap f).drop ((i+1) *sz):=by
 have e:xs=xs.take i++xs[i]::xs.drop (i+1):=by rw[List.getElem_cons_drop,List.take_append_drop]
 have hl:((xs.take i).flatMap f).length=i*sz:=by rw[iE f sz hf,List.length_take,Nat.min_eq_left zo]
 have e1:xs.flatMap f=(xs.take i).flatMap f++(f xs[i]++(xs.drop (i+1)).flatMap f):=by
  conv=>lhs;rw[e]
  rw[List.flatMap_append,List.flatMap_cons]
 rw[e1,List.take_left' hl,List.drop_append,hl,List.drop_of_length_le (by rw[hl,Nat.add_mul];omega)];rw[show(i+1) *sz-i*sz=sz by rw[Nat.add_mul,Nat.one_mul];omega,List.nil_append,List.drop_left' (hf _),List.eraseIdx_eq_take_drop_succ,List.flatMap_append]
def anI (g m cap i base:Nat)(dD:List Raw)(w:World)(hn:dD.length=m+1)(hl:m<=1048576)(hi:i<=m)
 (ho:w.ownsRow base 45 3 (.slice (some ⟨g,0,none⟩) (m+1) cap) (m+1) (dD.flatMap aV)):
 Cl 294 #[.slice (some ⟨g,0,none⟩) (m+1) cap,af (i:Int),af ((i+1:Nat):Int)] w λe w'=>e=.returned (.slice (some ⟨g,0,none⟩) m cap)/\
  w'.ownsRow base 45 3 (.slice (some ⟨g,0,none⟩) m cap) m ((dD.eraseIdx i).flatMap aV)/\w.grownBy w' (some g):=by
 obtain⟨i0,hi0,hz0,hz1,hz2⟩:=info_parts Tryz.aBb;have hcap:m+1<=cap:=(yT ho).1;have hcm:cap<=9223372036854775807:=by
  rcases ho.2 with⟨h1,_⟩ |⟨g',cap',cur,h1,hb,hg,h4,h5,_⟩
  . simp at h1
  . simp only[Value.slice.injEq]at h1;obtain⟨_,_,rfl⟩:=h1;unfold maxLen at h5;omega
 have Mk:=aoz aV 3 (λ_=>rfl) dD i zo;have hlen:(dD.flatMap aV).length=(m+1) *3:=by rw[iE aV 3 (λ_=>rfl),hn]
 have h1:=Ej dD;obtain⟨cs,hcs⟩:=az (dD.flatMap aV);obtain⟨rs,hrs⟩:=az ((dD.eraseIdx i).flatMap aV);rw[hcs]at hlen ho h1 Mk;rw[hrs]at Mk⊢;have qD:=Nj ho i zo;obtain⟨ad,had⟩:=az (if cap=i+1 then(⟨g,0,none⟩:Addr)else⟨g,(i+1) *3,none⟩);have hsl:(if cap=i+1 then some (⟨g,0,none⟩:Addr)else some ⟨g,(i+1) *3,none⟩)=some ad:=by rw[<-had];split<;>rfl
 have hnews:Hid (∀j u,(cs.drop ((i+1) *3))[j]?=some u->w.drew.cell? (ad.add j)=some u):=by
  intro j u hj;rw[List.getElem?_drop]at hj;have hlt:=(List.getElem?_eq_some_iff.1 hj).1;have pj:¬cap=i+1:=by omega
  rw[if_neg pj]at had;subst had;have e2:((⟨g,(i+1) *3,none⟩:Addr).add j)=⟨g,(i+1) *3+j,none⟩:=by unfold Addr.add;cases j<;>simp
  rw[e2];have:=ho.cells (g:=g) rfl ((i+1) *3+j) u hj;have e3:((⟨g,0,none⟩:Addr).add ((i+1) *3+j))=⟨g,(i+1) *3+j,none⟩:=by unfold Addr.add;split<;>simp;omega
  rw[e3]at this;exact this
 have hnl:Hid ((cs.drop ((i+1) *3)).length=(m-i) *3):=by show _=_;rw[List.length_drop,hlen];omega
 have dV:Hid (∀u∈cs.drop ((i+1) *3),u.oneCell'=true):=λu hu=>h1 u (List.mem_of_mem_drop hu);have Fg:Hid (w.drew.ownsRow base 45 3 (.slice (some ⟨g,0,none⟩) i cap) i (cs.take (i*3))):=qD;obtain⟨aiZ,ajK,zW,Hn1,Hi,bR⟩:=gM Mk hnews.out hnl.out dV.out hi0 hz1;have z:=Tryz.aBt;clear hnews hnl dV ho qD hlen h1 Mk hcs hrs hn hi0 hz0 hz1 hz2;have hw1:IntKind.i64.wrap ((i:Int)+1)=((i+1:Nat):Int):=by rw[IntKind.wrap_i64];omega
 have hne:((i:Int)==((i+1:Nat):Int))=false:=by simp;omega
 have hcm2:¬cap=m:=by omega
 have wE:i+1<=m+1:=by omega
 have hmc:i+1<=cap:=by omega
 have hic:i<=cap:=by omega
 have h0i:(0:Int)<=(i:Int)+1:=by omega
 clear had;go_enter Tryz.func294,Tryz.ntmps294;go_wp2_with fail;have Hb:=hbz w;refine fx (λw'=>True) (λi=>Nat.blt i 100000) [(0,true),(1,true),(2,true),(3,true),(4,true),(5,true),(6,false),(7,true)] zk zk rfl zk zc True.intro ?_;iterate 6 (refine pT rfl rfl ?_;try simp only[UU])
 refine aN rfl rfl (λK hK=>?_);refine wp_append_own_spare _ _ _ 29 rfl base 45 i0 3 Tryz.underlying29 Hi.out bR.out g i cap (cs.take (i*3)) rfl Fg.out ad (m-i) (cap-(i+1)) (cs.drop ((i+1) *3)) rfl zW.out ajK.out Hn1.out zo ?_;intro w1 cV hg1;refine hK _ _ (λ_=>True.intro) ?_;try simp only[UU]
 refine pT rfl rfl ?_;try simp only[Act.put,U1,U2]
 simp only[bE];have e9:i+(m-i)=m:=by omega
 rw[e9,<-aiZ.out]at cV;obtain⟨w2,hcl,fH,hg2⟩:=afO w1 29 45 _ 3 Tryz.underlying29 Tryz.aBt rfl (by intro v hv;simp[Value.cells]at hv;rcases hv with rfl|rfl|rfl<;>rfl) g m 1 cap (cap-m) base rs cV zo;have pS:=aj fH;have Hg2:Hid (w.grownBy w2 (some g)):=grownBy_trans ⟨hg1.os,hg1.tape,hg1.output,hg1.size,hg1.block⟩ hg2;clear cV hg1 fH hg2 Fg hsl;go_wp2;go_ret;exact⟨rfl,pS.out,Hg2.out⟩
def aoA (l:List Dyadic)(c:Nat):(l.map canon).eraseIdx c=(l.eraseIdx c).map canon:=by apply List.ext_getElem?;intro i;rw[List.getElem?_eraseIdx,List.getElem?_map,List.getElem?_map,List.getElem?_map,List.getElem?_eraseIdx];split<;>rfl
def axx (a:Option Addr)(cap m r c:Nat)(R:List (List Dyadic))(w:World)(hL:R.length=m+1)(hrow:∀x∈R,x.length=m+1)(hr:r<=m)(hc:c<=m)(hm:m<=7)(ha:Tbl w a (R.map λx=>x.map canon)):
 Cl 272 #[.slice a (m+1) cap,af (r:Int),af (c:Int)] w λe w'=>∃a' c',e=.returned (.slice a' m c')/\m<=c'/\Tbl w' a' ((lD R r c).map λx=>x.map canon)/\Bw w w':=by
 obtain⟨j0,hj,hy0,hy1,hy2⟩:=info_parts Tryz.aBm;obtain⟨S,hS⟩:=az (lD R r c);have qj:=aeX R r c m hL hr;have uO:=aeY R r c m hrow hc;have RY:=aeW R r c m hL hr;rw[hS]at qj uO RY⊢;have yA:∀(W:World) (k:Nat) (hk:k<m+1),Bw w W->∃b o a1 c1,∃x:List Dyadic,R.getD k []=x/\x.length=m+1/\a=some ⟨b,o,none⟩/\W.cell? ⟨b,o+k,none⟩=some (.slice (some a1) (m+1) c1)/\At W (some a1) ((x.map canon).flatMap aV):=by
  intro W k hk hb;have DF:k<R.length:=by omega
  obtain⟨b,o,a1,c1,h1,h2,h3⟩:=(ha.below hb).row k (by simp[hL];omega);have e1:(R.map λx=>x.map canon)[k]'(by simp[hL];omega)=R[k].map canon:=by simp
  have hxl:=hrow _ (List.getElem_mem DF);rw[e1]at h2 h3;rw[List.length_map,hxl]at h2;cases a1 with
  | none=>
    rcases h3 with h3|⟨_,_,h3,_⟩
    . have:=congrArg List.length h3;rw[iE aV 3 (λ_=>rfl),List.length_map,hxl]at this;simp at this
    . cases h3
  |some a1=>exact⟨b,o,a1,c1,R[k],by simp[List.getD_eq_getElem?_getD,DF],hxl,h1,h2,h3⟩
 obtain⟨Hj,kM,kN,kO,HSl,HSr,ahN,PI⟩:=lC hj hy0 hy1 hy2 qj uO RY yA;clear hj hy0 hy1 hy2 qj uO RY yA hS ha hL hrow;have Hb:=hbz w;go_enter Tryz.func272,Tryz.ntmps272;go_wp2_with fail;go_loopw[7,12] (λs7 x wr=>∃(k:Nat) (v:Value),k<=m+1/\x=af (k:Int)/\v=s7/\Own2 29 wr w.heap.size S (if k<=r then k else k-1) v/\Bw w wr) (λ_ x _=>m+1-(intOf x).toNat);case atStart=>exact⟨0,_,Nat.zero_le _,rfl,rfl,by rw[if_pos (Nat.zero_le _)];exact Own2.nil _ _ _ _,Hb.out⟩
 case round=>
  clear Hb;obtain⟨k,v,hk,rfl,rfl,pv,pb⟩:=hrel;by_cases hlt:k<m+1
  . obtain⟨b,o,a1,c1,x,pD,hxl,rfl,hc1,hat⟩:=PI.out wr k hlt pb;have aU:=Eb (m+1) cap k (k:Int) (rfl:(some ⟨b,o,none⟩:Option Addr)=_) hlt rfl;rw[Nat.mul_one]at aU;by_cases hkr:k=r
    . subst hkr;obtain⟨ik,aP⟩:=aI pv pb;clear pv pb pD hxl hat;have h3:((k:Int) !=(k:Int))=false:=by simp
      go_wp2;go_roundw;case rel=>exact⟨k+1,v,by omega,by go_num,rfl,by have h:=ik.out;rw[if_pos (Nat.le_refl _)]at h;rw[if_neg zo];exact h,aP.out⟩
      case measure=>exact bf
    . have h3:((k:Int) !=(r:Int))=true:=by simp;omega
      have h4:¬(k:Int)=(r:Int):=by omega
      obtain⟨j,hj⟩:=az (if k<=r then k else k-1);have ov:(if k+1<=r then k+1 else k+1-1)=j+1:=by rw[<-hj];split<;>split<;>omega
      have hjm:j<m:=by rw[<-hj];split<;>omega
      have GN:(if j<r then j else j+1)=k:=by rw[<-hj];split<;>split<;>omega
      have qi:S.getD j []=x.eraseIdx c:=by rw[ahN.out j hjm,GN,pD]
      rw[hj]at pv;obtain⟨Z,hZ⟩:=az (x.eraseIdx c);have GC:Z.length=m:=by rw[<-hZ,List.length_eraseIdx_of_lt zo];omega
      rw[hZ]at qi
      -- the row,without its number
      have nj:∀W,Bw wr W->Cl 295 #[.slice (some a1) (m+1) c1] W λe w'=>∃g cc,e=.returned (.slice (some ⟨g,0,none⟩) (m+1) cc)/\(wr.heap.size<=g/\∀W',Bw wr W'->w'=W'->Cl 294 #[.slice (some ⟨g,0,none⟩) (m+1) cc,af (c:Int),af ((c:Int)+1)] W' λe w''=>e=.returned (.slice (some ⟨g,0,none⟩) m cc)/\w''.ownsRow wr.heap.size 45 3 (.slice (some ⟨g,0,none⟩) m cc) m (dC Z)/\Bw wr w'')/\Bw W w':=by intro W hW;refine(am2 (some a1) (m+1) c1 (x.map canon) W (by rw[List.length_map,hxl]) zo (λe=>by cases e) (hat.below hW)).mono ?_;rintro e w' ⟨v',rfl,ho,hb⟩;obtain⟨g,cc,rfl,hg1,hg2,hg3⟩:=rO ho zo;have hsz:=hW.size;refine⟨g,cc,rfl,⟨by omega,λW' hW' e=>?_⟩,hb⟩;subst e;have hd:=anI g m cc c wr.heap.size (x.map canon) w' (by rw[List.length_map,hxl]) zo hc (rP ho zo);rw[show((c+1:Nat):Int)=(c:Int)+1 by omega]at hd;refine hd.mono ?_;rintro e w'' ⟨rfl,fH,hg⟩;rw[aoA,hZ,<-Am]at fH;exact⟨rfl,fH,hW'.grown hg hW'.size (λi e=>by have h9:g=i:=Option.some.inj e;omega)⟩
      obtain⟨Ci,WJ,xu,ik,aP,Hj1⟩:=gM nj qi GC pv pb ov;clear nj qi GC hZ pv pb ov GN hj pD hxl hat;have ie:=aP.out.size;have hwc:IntKind.i64.wrap ((c:Int)+1)=((c+1:Nat):Int):=by rw[IntKind.wrap_i64];omega
      have pj:(c:Int)+1=((c+1:Nat):Int):=by omega
      obtain⟨PZ,JR⟩:=aI hwc pj;clear hwc pj;go_wp2_with fail;refine(Ci.out _ (Below.refl _ _)).mono ?_;rintro e w4 ⟨g,cc,rfl,⟨hg1,hdel⟩,hb4⟩;have Xe:=aj (hdel w4 hb4 rfl);clear hdel hc1 aU;go_wp2_with fail;refine Xe.out.mono ?_;rintro e w5 ⟨rfl,pq,dx⟩;have jb:=pq.lt;obtain⟨a2,c2,he2,rE,_⟩:=cz pq;simp only[Value.slice.injEq,true_and]at he2;obtain⟨rfl,rfl⟩:=he2;obtain⟨vals,hvl,hov,oz⟩:=ik.out.below dx;obtain⟨_,_,yt,_⟩:=ik.out;have hvs:=yt.lt;have hin:∀b o,(some ⟨g,0,none⟩:Option Addr)=some ⟨b,o,none⟩->some b≠v.ownBlock/\b<w5.heap.size:=by intro b o e;simp only[Option.some.injEq,Addr.mk.injEq,and_true]at e;obtain⟨rfl,rfl⟩:=e;have h1:=jb g rfl;refine⟨λh2=>?_,h1.2⟩;have h3:=hvs g h2.symm;omega
      obtain⟨lO,EM,sK,vL,dv,fL⟩:=gM hin rE hvl oz hov (aC aP.out dx);have VA:=dx.size;clear hin rE hvl oz hov yt hvs jb pq dx hb4 Xe Ci hg1;have Hb:=hbz w5;obtain⟨W6,rC,aG,ae,ai⟩:=bO w5 (Hb.an trivial) 29 [.slice (some ⟨g,0,none⟩) m cc];have cj:=ownsRow_below dv.out ae.2.1.out;have jd:=ae.2.1.out.size;have hnews:∀i u,([.slice (some ⟨g,0,none⟩) m cc]:List Value)[i]?=some u->W6.cell? ((⟨w5.heap.size,0,none⟩:Addr).add i)=some u:=fN ae.1.out;skip
      go_wp2_with (at_builtin;refine wpList_append_own_at _ rfl _ _ 153 rfl w.heap.size 29 j0 _ 1 24 Tryz.underlying153 Hj.out kM.out kN.out kO.out rfl zd v j vals rfl cj ⟨w5.heap.size,0,none⟩ 1 1 [.slice (some ⟨g,0,none⟩) m cc] rfl rfl hnews zy zx zo zo ?_;intro v' w7 dW eK _ fI;obtain⟨g',ry,rfl⟩:=ownsRow_succ dW);go_roundw;case rel=>
       refine⟨k+1,_,by omega,by go_num,rfl,?_,?_⟩
       . rw[Hj1.out];refine Own2.push (a:=some ⟨g,0,none⟩) (c:=cc) sK.out (w:=W6) ?_ ?_ ?_ ?_ eK fI
         . intro i h;obtain⟨a,c,h1,h2,h3⟩:=vL.out i h;exact⟨a,c,h1,h2.below ae.2.1.out,λb o e=>⟨(h3 b o e).1,Nat.lt_of_lt_of_le (h3 b o e).2 jd⟩⟩
         . rw[WJ.out];exact EM.out.below ae.2.1.out
         . exact λb o e=>⟨(lO.out b o e).1,Nat.lt_of_lt_of_le (lO.out b o e).2 jd⟩
         . rw[WJ.out,xu.out];exact dW
       . exact(aC fL.out ae.2.1.out).grown eK zo (λj e=>cK cj j e)
      case measure=>exact bf
  . obtain rfl:k=m+1:=by omega
    rw[if_neg zo,Nat.add_sub_cancel]at pv;obtain⟨a2,c2,rfl,hcl,pz⟩:=Own2.aBs pv HSl.out;obtain⟨Cz,aP⟩:=aI pz pb;clear pv pb pz;go_wp2;refine bodyPost_ret (results_tmp rfl _ _ _) rfl ⟨a2,c2,rfl,hcl,Cz.out,aP.out⟩
def alI (a:Option Addr)(c:Nat)(w:World):Cv 201 #[.slice a 0 c] w (cP 1):=by
 have Hb:=hbz w;go_enter Tryz.func201,Tryz.ntmps201;go_wp2_with fail;refine cX w (Hb.an trivial) 43 [ag false,.string ⟨#[]⟩] λW aG ae ai=>?_;go_wp2_with fail;refine aK ae (VK 1 _ zd zd) λw1 ae ai=>?_;obtain⟨W2,ng,aG,ae,ai⟩:=bO w1 ae 43 [ag (au 1),ah (nt 1)];go_wp2_with fail;go_loop [5,15] (λt x=>t=ag false/\x=af 0) (λ_ _=>0)
 case atStart=>exact⟨rfl,rfl⟩
 case round=>obtain⟨rfl,rfl⟩:=hrel;go_wp2;refine dG (aO W2 (w.heap.size) 0 [ag (au 1),ah (nt 1)]) aR ?_;intro w9 hs0;have ae:=bD hs0 ae;simp only[bz,List.set]at ae;have ai:=qC ae;refine bodyPost_ret (v:=cP 1) (by simp[results,Tryz.results201,go_sem,ai]) rfl ⟨rfl,ae.2.2.1.out⟩
def anP (a:Option Addr)(cap:Nat)(w:World)(ha:Tbl w a [])(hT:aB w):Cv 116 #[.slice a 0 cap] w (.tuple #[bN 1,af 0]):=by obtain⟨O,hO⟩:∃O:Dyadic,(1:Dyadic)=O:=⟨_,rfl⟩;have hch:=λW=>λ(h:Tbl W a [])=>Uq a 0 cap [] W rfl zo h;rw[show wV []=0 from rfl]at hch;have hsc:=λW=>λ(h:Tbl W a []) (hT:aB W)=>afV a 0 cap 0 [] 1 0 W rfl zo zo (λr hr=>by cases hr) h (λr hr=>by cases hr) zo hT rfl;have hmk:=λW=>λ(hT:aB W)=>yN (au 1) (nt (1:Int).natAbs) 0 O (by rw[<-hO];rfl) W zd zd hT;rw[hO];obtain⟨Oo,lT,oN,Ha,HT⟩:=dY hch hsc hmk ha hT;clear hch hsc hmk ha hT hO;have Hb:=hbz w;go_enter Tryz.func116,Tryz.ntmps116;go_wp2_with fail;refine cX w (Hb.an trivial) 45 [ag false,.string ⟨#[]⟩,af 0] λW aG ae ai=>?_;have HA:Hid (Tbl W a []):=Ha.out.below ae.2.1.out;have HU:Hid (aB W):=HT.out.below ae.2.1.out;go_wp2_with fail;refine aK (HA.an<|HU.an ae) (Oo.out _ HA.out) λw1 ae ai=>?_;go_wp2_with fail;refine(lT.out _ ae.1.out ae.2.1.out).mono ?_;rintro e w2 ⟨v,rfl,hO,ak⟩;obtain⟨ae,ai⟩:=qX ak ae;obtain⟨vals,_,ho,_⟩:=hO;obtain⟨a2,c2,rfl,_,_⟩:=cz ho;clear ho;go_wp2_with fail;refine aK ae (alI a2 c2 _) λw3 ae ai=>?_;go_wp2_with fail;refine aK ae (oN.out _ ae.2.1.out) λw4 ae ai=>?_;go_wp2;refine dG (aO w4 (w.heap.size) 0 (bu O)) aR ?_;intro w9 hs0;have ae:=bD hs0 ae;simp only[bz,List.set]at ae;have ai:=qC ae;refine bodyPost_ret (v:=.tuple #[bN O,af 0]) (by simp[results,Tryz.results116,go_sem,ai]) rfl ⟨rfl,ae.2.2.2.1.out⟩
def YY (R:List (List Dyadic)):((R.map λr=>r.map canon).map λr=>r.map dval)=R:=by
 rw[List.map_map];have:((λr:List Raw=>r.map dval)∘λr:List Dyadic=>r.map canon)=id:=by
  funext r
  show(r.map canon).map dval=r
  rw[List.map_map];have:(dval∘canon)=id:=funext bA;rw[this];simp
 rw[this];simp
def as4 (a':Option Addr)(c' m r c:Nat)(R:List (List Dyadic))(B:Nat)(w:World)(hL:R.length=m+1)(hrow:∀x∈R,x.length=m+1)(hr:r<=m)(hc:c<=m)(hm:m<=4)(hsm:∀x∈R,∀d∈x,Sm B d)(bQ:1<=B)(hB:B<=1000000)(ht:Tbl w a' ((lD R r c).map λx=>x.map canon))(hT:aB w):
 Cv 116 #[.slice a' m c'] w (.tuple #[bN (dK m (mM (cu R) r c)),af 0]):=by
 have hl:=aeX R r c m hL hr;by_cases h0:m=0
 . subst h0;have e:lD R r c=[]:=List.eq_nil_of_length_eq_zero hl;rw[e]at ht;exact anP a' c' w ht hT
 . refine QR a' c' m ((lD R r c).map λx=>x.map canon) B (lD R r c) _ w zo hm (by rw[List.length_map,hl]) (λx hx=>?_) ht (λx hx y hy=>?_) bQ hB hT (YY _) (as1 R r c m hL hrow hr hc hm)
   . obtain⟨z,hz,rfl⟩:=List.mem_map.1 hx;rw[List.length_map];exact aeY R r c m hrow hc z hz
   . obtain⟨z,hz,rfl⟩:=List.mem_map.1 hx;obtain⟨d,hd,rfl⟩:=List.mem_map.1 hy;exact(as3 hsm r c z hz d hd).fit zo
def al0 (s:Nat)(h:s<=8):bits BinOp.and IntKind.i64 (s:Int) 1=((s%2:Nat):Int):=by
 have hc:s=0\/s=1\/s=2\/s=3\/s=4\/s=5\/s=6\/s=7\/s=8:=by omega
 rcases hc with rfl|rfl|rfl|rfl|rfl|rfl|rfl|rfl|rfl<;>rfl
def alp (a:Option Addr)(cap m:Nat)(R:List (List Dyadic))(B:Nat)(w:World)(hm:m+1<=4)(hL:R.length=m+1)(hrow:∀x∈R,x.length=m+1)(hsm:∀x∈R,∀d∈x,Sm B d)(bQ:1<=B)(hB:B<=1000000)(ha:Tbl w a (R.map λx=>x.map canon))(hT:aB w):
 Cl 228 #[.slice a (m+1) cap] w λe w'=>∃v,e=.returned (.tuple #[v,af 0])/\fW w' w.heap.size (m+1) (sM (m+1) (cu R)) (m+1) v/\Bw w w':=by
 obtain⟨i0,hi,hz0,hz1,hz2⟩:=info_parts Tryz.aBb;obtain⟨j0,hj,hy0,hy1,hy2⟩:=info_parts Tryz.aBm;have cH:=λW (hW:Bw w W)=>Uq a (m+1) cap (R.map λx=>x.map canon) W (by rw[List.length_map,hL]) zo (ha.below hW);have hm0:wV (R.map λx=>x.map canon)=0:=by
  unfold wV;rw[if_neg];rintro(h|h)
  . rw[List.length_map]at h;omega
  . rw[List.any_eq_true]at h;obtain⟨r,hr,h⟩:=h;obtain⟨z,hz,rfl⟩:=List.mem_map.1 hr;have:=hrow z hz;simp at h;omega
 rw[hm0]at cH;have hwo:=λr c (hr:r<=m) (hc:c<=m) W (hW:Bw w W)=>axx a cap m r c R W hL hrow hr hc zo (ha.below hW);have pk:=λr c (hr:r<=m) (hc:c<=m) W (hW:Bw w W) a' c' (ht:Tbl W a' ((lD R r c).map λx=>x.map canon))=>as4 a' c' m r c R B W hL hrow hr hc zo hsm bQ hB ht (hT.below hW);have hds:∀r c,r<=m->c<=m->Sm (4*B+6) (dK m (mM (cu R) r c)):=by
  intro r c hr hc;refine Lf zo (λi j hi hj=>?_);have hk:(if i<r then i else i+1)<R.length:=by split<;>omega
  have hl:=hrow _ (List.getElem_mem hk);have hk2:(if j<c then j else j+1)<R[if i<r then i else i+1].length:=by rw[hl];split<;>omega
  have e:mM (cu R) r c i j=R[if i<r then i else i+1][if j<c then j else j+1]:=by
   show(R.getD (if i<r then i else i+1) []).getD (if j<c then j else j+1) 0=_
   rw[List.getD_eq_getElem?_getD (l:=R),List.getElem?_eq_getElem hk,Option.getD_some,List.getD_eq_getElem?_getD,List.getElem?_eq_getElem hk2];rfl
  rw[e];exact hsm _ (List.getElem_mem hk) _ (List.getElem_mem hk2)
 obtain⟨f,hf⟩:=az (cu R);rw[hf]at pk hds⊢;have Ru:=λi (h:i<m+1)=>YN (m+1) f i h;obtain⟨A,hA⟩:=az (sM (m+1) f);rw[hA]at Ru⊢;obtain⟨Hi,cm,bR,bZ,Hj,kM,kN,kO,fA,cw,ES,Hds⟩:=gL hi hz0 hz1 hz2 hj hy0 hy1 hy2 cH hwo pk hds;obtain⟨HT,ag4⟩:=aI hT Ru;clear hi hz0 hz1 hz2 hj hy0 hy1 hy2 cH hwo pk hds hT Ru hA hf hm0 ha hsm hrow hL;have Hb:=hbz w;go_enter Tryz.func228,Tryz.ntmps228;go_wp2_with fail;refine aK (Hb.an trivial) (fA.out _ Hb.out) λw1 ae ai=>?_;go_wp2_with fail;go_loopw[5,18] (λs5 x wr=>∃(k:Nat) (v:Value),k<=m+1/\x=af (k:Int)/\v=s5/\fW wr w.heap.size (m+1) A k v/\Bw w wr) (λ_ x _=>m+1-(intOf x).toNat);case atStart=>exact⟨0,_,Nat.zero_le _,rfl,rfl,fW.nil _ _ _ _,ae.1.out⟩
 case round=>
  skip
  obtain⟨k,v,hk,rfl,rfl,pv,pb⟩:=hrel;obtain⟨ik,aP⟩:=aI pv pb;clear pv pb;by_cases hlt:k<m+1
  . obtain⟨Z,hZ⟩:=az ((List.range (m+1)).map λb=>mf (m+1) f k b);have Cc:Hid (A.getD k []=Z):=by show _=_;rw[ag4.out k hlt,hZ]
    have xu:Hid (Z.length=m+1):=by show _=_;rw[<-hZ];simp
    have HZa:Hid (∀j (h:j<m+1),Z.take (j+1)=Z.take j++[mf (m+1) f k j]):=by intro j h;rw[List.take_succ_eq_append_getElem (by rw[xu.out];exact h)];congr 2;simp[<-hZ]
    clear hZ;obtain⟨wq,hwc⟩:∃wq,wq=wr:=⟨_,rfl⟩;subst hwc;have ie:=aP.out.size;have AW:decide ((k:Int)<(m:Int)+1)=true:=by simp;omega
    go_wp2_with fail;clear AW;go_loopw[7,23] (λs7 x wr=>∃(j:Nat) (v2:Value),j<=m+1/\x=af (j:Int)/\v2=s7/\wr.ownsRow wq.heap.size 45 3 v2 j (dC (Z.take j))/\Bw wq wr) (λ_ x _=>m+1-(intOf x).toNat);case atStart=>exact⟨0,_,Nat.zero_le _,rfl,rfl,World.ownsRow_nil _ _ _ _,Below.refl _ _⟩
    case round=>
     obtain⟨j,v2,hj,rfl,rfl,ho,hb2⟩:=hrel;obtain⟨Ho,bY⟩:=aI ho hb2;have szb:=hb2.size;clear ho hb2;by_cases bB:j<m+1
     . obtain⟨X,hX⟩:=az (dK m (mM f j k));obtain⟨Y,hY⟩:=az (mf (m+1) f k j);have hYX:Y=if(k+j)%2=1 then-X else X:=by rw[<-hY,<-hX];rfl
       have dR:=Hds.out j k zo zo;rw[hX]at dR;have hst:dC (Z.take (j+1))=dC (Z.take j)++(bu Y):=by rw[HZa.out j bB,hY,CV];rfl
       have dO:=aC aP.out bY.out;have hd:=λW hW a' c' ht=>ES.out j k zo zo W hW a' c' ht;rw[hX]at hd;obtain⟨Hd,bK,Oa⟩:=bL hd hst hYX;have WP:Hid (Ok (canon X)):=dR.ok zo;have iH:=aj dO;clear hd hst hYX hX hY dR dO;have Hb:=hbz wr;go_wp2_with fail;refine(cw.out j k zo zo _ iH.out).mono ?_;rintro e w3 ⟨a3,c3,rfl,hc3,pu,ak⟩;obtain⟨ae,ai⟩:=qX ak (Hb.an trivial);have Kq:=aj pu;clear pu;go_wp2_with fail;refine aK ae (Hd.out _ (aC iH.out ae.1.out) a3 c3 Kq.out) λw4 ae ai=>?_;clear Kq;have sz4:=ae.1.out.size;obtain⟨W5,wm,aG,ae,ai⟩:=bO w4 ae 45 (bu X);have Dq:=al0 (k+j) zo;rw[Int.natCast_add]at Dq;go_upto_if 38 with fail
       go_cut[7] (λs7 wx=>s7=v2/\ar wx w4.heap.size 45 (bu Y)/\Bw wr wx);case first=>
        by_cases hp:(k+j)%2=1
        . have h9:(bits BinOp.and IntKind.i64 ((k:Int)+(j:Int)) 1==1)=true:=by rw[Dq,hp];rfl
          have hY: -dval (canon X)=Y:=by rw[bA,Oa.out,if_pos hp]
          have HY:=aj hY;clear hY Dq;go_wp2_with fail;refine aK ae (Le _ _ _ Y HY.out _ WP.out (HT.out.below (aC iH.out ae.2.1.out))) λw6 ae ai=>?_;go_wp2_with fail;go_meet;exact⟨rfl,((ae.1.out.set 0 _).set 1 _).set 2 _,((ae.2.1.out.setCell zp _).setCell zp _).setCell zp _⟩
        . have h9:(bits BinOp.and IntKind.i64 ((k:Int)+(j:Int)) 1==1)=false:=by rw[Dq,show(k+j)%2=0 by omega];rfl
          have hY:Y=X:=by rw[Oa.out,if_neg hp]
          subst hY;clear Dq;go_wp2_with fail;go_meet;exact⟨rfl,ae.1.out,ae.2.1.out⟩
       case rest=>
        obtain⟨rfl,hx,hb⟩:=hcut;clear Dq;have Hx:Hid (ar wc w4.heap.size 45 (bu Y)):=hx;have se:=aj (aC bY.out hb);have hov:=ownsRow_below Ho.out hb;have dv:=aj hov;have szc:=hb.size;clear hx hb hov Ho Hd Oa WP iH bY;have Hb:=hbz wc;obtain⟨ae,ai⟩:=qZ (Hx.an trivial);have x0:wc.cell? ⟨w4.heap.size,0,none⟩=some (ag (au (dN Y))):=ae.1.out.cell 0;have x1:wc.cell? ⟨w4.heap.size,1,none⟩=some (ah (nt (dN Y).natAbs)):=ae.1.out.cell 1;have x2:wc.cell? ⟨w4.heap.size,2,none⟩=some (af (dE Y)):=ae.1.out.cell 2;have P0:=x0;have P1:=x1;have P2:=x2;obtain⟨W6,rC,aG,ae,ai⟩:=bO wc (Hb.an ae) 45 (bu Y);have cj:=ownsRow_below dv.out ae.2.1.out;have jd:=ae.2.1.out.size;go_wp2_with (at_builtin;refine wpList_append_own_at _ rfl _ _ 29 rfl wq.heap.size 45 i0 _ 3 32 Tryz.underlying29 Hi.out cm.out bR.out bZ.out rfl zd _ j (dC (Z.take j)) rfl cj ⟨wc.heap.size,0,none⟩ 1 1 (bu Y) rfl rfl (fN ae.1.out) zy zx zo zo ?_;intro v' w7 dW eK _ fI;obtain⟨g',ry,rfl⟩:=ownsRow_succ dW);go_roundw;case rel=>exact⟨j+1,_,by omega,by go_num,rfl,by rw[bK.out];exact dW,(aC se.out ae.2.1.out).grown eK zo (λj e=>cK cj j e)⟩
        case measure=>exact bf
     . obtain rfl:j=m+1:=by omega
       have oY:Z.take (m+1)=Z:=List.take_of_length_le (by rw[xu.out];exact Nat.le_refl _);rw[oY]at Ho;have jb:=Ho.out.lt;obtain⟨a2,cap2,rfl,_,_⟩:=cz Ho.out;obtain⟨vals,hvl,yt,TK,Iy⟩:=ik.out;have hov:=ownsRow_below yt bY.out;have oz:=λi h=>ownsRow_below (TK i h) bY.out;have iF:∀g,(Value.slice a2 (m+1) cap2).ownBlock=some g->∀i (h:i<vals.length),vals[i].ownBlock≠some g:=λg e i h e2=>by have h1:=(jb g e).1;have h2:=((TK i h).lt g e2).2;omega
       have hx:=rP Ho.out ie;obtain⟨sK,vL,dv,PR,OL,Hxx⟩:=gM hvl oz hov Iy iF hx;clear hvl oz hov yt TK Iy iF hx jb oY;have Hb:=hbz wr;obtain⟨W6,rC,aG,ae,ai⟩:=bO wr (Hb.an trivial) 29 [.slice a2 (m+1) cap2];have cj:=ownsRow_below dv.out ae.2.1.out;have jd:=ae.2.1.out.size;go_wp2_with (at_builtin;refine wpList_append_own_at _ rfl _ _ 153 rfl w.heap.size 29 j0 _ 1 24 Tryz.underlying153 Hj.out kM.out kN.out kO.out rfl zd v k vals rfl cj ⟨wr.heap.size,0,none⟩ 1 1 [.slice a2 (m+1) cap2] rfl rfl (fN ae.1.out) zy zx zo zo ?_;intro v' w7 dW eK _ fI;obtain⟨g',ry,rfl⟩:=ownsRow_succ dW);go_roundw;case rel=>refine⟨k+1,_,by omega,by go_num,rfl,fW.push sK.out cj (λi h=>ownsRow_below (vL.out i h) ae.2.1.out) PR.out (by rw[Cc.out];exact ownsRow_below Hxx.out ae.2.1.out) OL.out dW eK,?_⟩;exact(aC (aC aP.out bY.out) ae.2.1.out).grown eK zo (λj e=>cK cj j e)
       case measure=>exact bf
  . obtain rfl:k=m+1:=by omega
    go_wp2;exact bodyPost_ret (v:=.tuple #[v,af 0]) (by simp[results,Tryz.results228,go_sem]) rfl ⟨v,rfl,ik.out,aP.out⟩
end Go.Proofs.YtpfgffadgkkedaaGreatDoor
namespace Go.Proofs.YtpfgffadgkkedaaGreatDoor
def sN (n:Nat)(p:Nat->Nat->Dyadic):List (List Dyadic):=(List.range n).map λa=>(List.range n).map λb=>jH n p a b
def Qv (n:Nat)(p:Nat->Nat->Dyadic):(sN n p).length=n:=by simp[sN]
def Qw (n:Nat)(p:Nat->Nat->Dyadic):∀r∈sN n p,r.length=n:=by intro r hr;unfold sN at hr;obtain⟨x,_,rfl⟩:=List.mem_map.1 hr;simp
def YM (n:Nat)(p:Nat->Nat->Dyadic)(a b:Nat)(ha:a<n)(hb:b<n):cu (sN n p) a b=jH n p a b:=by unfold cu sN;simp[List.getD_eq_getElem?_getD,ha,hb]
def awD {n:Nat}{R S:List (List Dyadic)}(h1:R.length=n)(h2:∀r∈R,r.length=n)(h3:S.length=n)(h4:∀r∈S,r.length=n)(h:∀a b,a<n->b<n->cu R a b=cu S a b):R=S:=by apply List.ext_getElem zo;intro i hi hj;have l1:=h2 _ (List.getElem_mem hi);have l2:=h4 _ (List.getElem_mem hj);apply List.ext_getElem zo;intro j k1 k2;have:=h i j zo zo;unfold cu at this;simpa[List.getD_eq_getElem?_getD,hi,hj,k1,k2]using this
def alk (n:Nat)(aZ:n<=4){e f:Nat->Nat->Dyadic}(h:∀i j,i<n->j<n->e i j=f i j)(a b:Nat)(ha:a<n)(hb:b<n):mf n e a b=mf n f a b:=by
 have:dK (n-1) (mM e b a)=dK (n-1) (mM f b a):=FY (n-1) zo (λi j hi hj=>by
  unfold mM
  exact h _ _ (by split<;>omega) (by split<;>omega))
 unfold mf;rw[this]
def aox {n:Nat}{R:List (List Dyadic)}(h1:R.length=n)(h2:∀r∈R,r.length=n)(i j:Nat)(hi:i<n)(hj:j<n)(y:Dyadic)(a b:Nat)(ha:a<n)(hb:b<n):cu (R.set i ((R.getD i []).set j y)) a b=if a=i/\b=j then y else cu R a b:=by
 unfold cu;by_cases e:a=i
 . subst e;rw[List.getD_eq_getElem?_getD (l:=R.set _ _),List.getElem?_set_self zo,Option.getD_some];have hl:(R.getD a []).length=n:=by
    have e:R.getD a []=R[a]'zo:=by rw[List.getD_eq_getElem?_getD,List.getElem?_eq_getElem zo];rfl
    rw[e];exact h2 _ (List.getElem_mem _)
   by_cases e2:b=j
   . subst e2;rw[if_pos ⟨rfl,rfl⟩,List.getD_eq_getElem?_getD,List.getElem?_set_self zo];rfl
   . rw[if_neg (λh=>e2 h.2),List.getD_eq_getElem?_getD,List.getElem?_set_ne (λh=>e2 h.symm),<-List.getD_eq_getElem?_getD]
 . rw[if_neg (λh=>e h.1),List.getD_eq_getElem?_getD (l:=R.set _ _),List.getElem?_set_ne (λh=>e h.symm),<-List.getD_eq_getElem?_getD]
def avT {n:Nat}{R:List (List Dyadic)}(h1:R.length=n)(h2:∀r∈R,r.length=n)(i j:Nat)(hi:i<n)(y:Dyadic):(R.set i ((R.getD i []).set j y)).length=n/\∀r∈R.set i ((R.getD i []).set j y),r.length=n:=by
 refine⟨by rw[List.length_set];exact h1,λr hr=>?_⟩;rcases List.mem_or_eq_of_mem_set hr with h|h
 . exact h2 r h
 . rw[h,List.length_set];have e:R.getD i []=R[i]'zo:=by rw[List.getD_eq_getElem?_getD,List.getElem?_eq_getElem zo];rfl
   rw[e];exact h2 _ (List.getElem_mem _)
def avU (X:Dyadic):(if bi X<0 then-X else X)=mS X*X:=by
 rw[afY];by_cases h:X<0
 . rw[if_pos h,if_pos ((sX X).2 h)]
 . rw[if_neg h,if_neg (λh2=>h ((sX X).1 h2))]
def jZ (k j a b:Nat):Prop:=a<k\/a=k/\b<j
instance (k j a b:Nat):Decidable (jZ k j a b):=inferInstanceAs (Decidable (_\/_))
end Go.Proofs.YtpfgffadgkkedaaGreatDoor
namespace Go.Proofs.YtpfgffadgkkedaaGreatDoor
open Go.RowKit
attribute [local go_sem ↓] Go.wp_at_zero Go.wp_at_succ
def YB (w:World)(n:Nat)(p:Nat->Nat->Dyadic)(e:Ending)(w':World):Prop:=
 ∃a' c',e=.returned (.tuple #[bN (mS (bM n p) *bM n p),.slice a' n c',af 0])/\n<=c'/\Tbl w' a' ((sN n p).map λr=>r.map canon)/\Bw w w'
def fW.blk {w:World}{base n L go cap:Nat}{R:List (List Dyadic)}(h:fW w base n R L (.slice (some ⟨go,0,none⟩) L cap))(i:Nat)(hi:i<L)(hn:0<n):base<=go/\∃g c,w.cell? ⟨go,i,none⟩=some (.slice (some ⟨g,0,none⟩) n c)/\base<=g/\g<w.heap.size/\g≠go:=by
 obtain⟨vals,hl,ho,hv,hd⟩:=h;have hi2:i<vals.length:=by omega
 have hrow:=hv i hi2;obtain⟨g,c,e1,hg1,hg2,_⟩:=rO hrow hn;have fI:=xe ho;have hc:=mO ho i zo;rw[e1]at hc;refine⟨fI.1,g,c,hc,hg1,hg2,?_⟩;rintro rfl;rw[e1]at hrow;rcases hrow.2 with⟨h1,_⟩ |⟨g',c',cur,h1,_,h2,_⟩
 . simp at h1
 . simp only[Value.slice.injEq,Option.some.injEq,Addr.mk.injEq,and_true,true_and]at h1;obtain⟨rfl,rfl⟩:=h1;rcases ho.2 with⟨h3,_⟩ |⟨g2,c2,QN,h3,_,h4,_⟩
   . simp at h3
   . simp only[Value.slice.injEq,Option.some.injEq,Addr.mk.injEq,and_true,true_and]at h3;obtain⟨rfl,rfl⟩:=h3;rw[h2]at h4;simp at h4
def fW.aBn {w:World}{base n k:Nat}{R:List (List Dyadic)}{v:Value}(h:fW w base n R k v){p:Addr}(hp:p.block<base)(x:Value):fW (w.setCell p x) base n R k v:=by
 obtain⟨vals,hl,ho,hi,hd⟩:=h;have hne:∀{u:Value} {e:TypeId} {sz m:Nat} {xs:List Value},w.ownsRow base e sz u m xs->u.ownBlock≠some p.block:=λh e=>by have:=(h.lt _ e).1;omega
 exact⟨vals,hl,ownsRow_setCell_other ho (hne ho) _,λi h=>ownsRow_setCell_other (hi i h) (hne (hi i h)) _,hd⟩
def arK (a:Option Addr)(cap m:Nat)(rows:List (List Raw))(B:Nat)(w:World)(hm:m+1<=4)(hr:Rw (m+1) B rows)(hcap:m+1+1<=cap)(ha:Tbl w a rows)(hB:B<=200000)(hT:aB w)(h0:jA rows=0):
 Cl 156 #[.slice a (m+1+1) cap] w (YB w (m+1) (dA rows)):=by
 obtain⟨n,hn⟩:=az (m+1);have hL:=hr.1;have hrow:=hr.2.1;have hfit:=hr.2.2;obtain⟨b,o,rfl⟩:∃b o,a=some ⟨b,o,none⟩:=by
  obtain⟨vals,hvl,hat,_⟩:=ha;rcases hat with h|⟨b,o,h,_⟩
  . rw[h]at hvl;simp at hvl;omega
  . exact⟨b,o,h⟩
 have cH:=λW (hW:Bw w W)=>agk (some ⟨b,o,none⟩) (m+1+1) cap rows B W hL zo hcap (ha.below hW) hfit zo (hT.below hW);rw[h0]at cH;obtain⟨S,hS⟩:=az ((rows.drop 1).map λp=>jY (rows.getD 0 []) p);have qj:S.length=m+1:=by rw[<-hS];simp[hL]
 have h00:0<rows.length:=by omega
 have e0:rows.getD 0 []=rows[0]:=by simp[h00]
 have uO:∀r∈S,r.length=m+1:=by intro r hr;rw[<-hS]at hr;obtain⟨p,hp,rfl⟩:=List.mem_map.1 hr;rw[Li (by rw[e0,hrow _ (List.mem_of_mem_drop hp),hrow _ (List.getElem_mem h00)]),hrow _ (List.mem_of_mem_drop hp)]
 have uP:∀r∈S,∀d∈r,Sm (B+1) d:=by intro r hr d hd;rw[<-hS]at hr;obtain⟨p,hp,rfl⟩:=List.mem_map.1 hr;unfold jY at hd;obtain⟨i,hi,rfl⟩:=List.mem_iff_getElem.1 hd;rw[List.getElem_zipWith];refine Sm.sub (hfit p (List.mem_of_mem_drop hp) _ (List.getElem_mem _)).2 (hfit (rows.getD 0 []) ?_ _ (List.getElem_mem _)).2;rw[e0];exact List.getElem_mem h00
 obtain⟨P,hP⟩:=az (dA rows);have GG:∀i j,i<m+1->j<m+1->cu S i j=CY P i j:=λi j hi hj=>by rw[<-hS,<-hP];exact af0 (m+1) rows hL hrow i j hi hj
 obtain⟨X,hX⟩:=az (bM (m+1) P);have hent:dK (m+1) (cu S)=X:=by rw[<-hX,CX];exact FY (m+1) hm GG
 have hro:=λW (hW:Bw w W)=>afK b o cap (m+1) (m+1) rows B W hL zo hcap zo zo zo hrow (ha.below hW) hfit zo (hT.below hW);rw[hS]at hro
 have pk:=λW (hW:Bw w W) a' c' (h:Tbl W a' (S.map λr=>r.map canon))=>QR a' c' (m+1) (S.map λr=>r.map canon) (B+1) S X W zo hm (by simpa using qj) (by
  intro r hr;obtain⟨x,hx,rfl⟩:=List.mem_map.1 hr
  simpa using uO x hx) h (by
  intro r hr c hc;obtain⟨x,hx,rfl⟩:=List.mem_map.1 hr;obtain⟨y,hy,rfl⟩:=List.mem_map.1 hc
  exact(uP x hx y hy).fit zo) zo zo (hT.below hW) (YY S) hent
 have wu:=λW (hW:Bw w W) a' c' (h:Tbl W a' (S.map λr=>r.map canon))=>(alp a' c' m S (B+1) W hm qj uO uP zo zo h (hT.below hW)).mono (λe w' h=>(match h with|⟨v,h1,h2,h3⟩=>⟨v,h1,h2,h3,h3⟩:∃v,e=.returned (.tuple #[v,af 0])/\fW w' W.heap.size (m+1) (sM (m+1) (cu S)) (m+1) v/\Bw W w'/\Bw W w'));have dR:Sm (4*B+11) X:=by rw[<-hent];refine(Lf (B:=B+1) hm (λi j hi hj=>?_)).mono zo;rw[GG i j hi hj,<-hP];exact Lq (n:=m+1) (B:=B) (λa b ha hb=>by rw[yX rows a b zo (by rw[hrow _ (List.getElem_mem _)];exact hb)];exact(hfit _ (List.getElem_mem _) _ (List.getElem_mem _)).2) i j hi hj
 have lv:=λW=>oc (au (dN X)) (nt (dN X).natAbs) (dE X) (bi X) (by show bi (dval (canon X))=_;rw[bA]) W (dR.ok zo);have GJ: -1<=bi X/\bi X<=1:=by unfold bi eo;split<;>(try split)<;>omega
 obtain⟨G,hG⟩:=az (mS X);have hof:=λW (hW:Bw w W)=>Ao (bi X) G (by rw[<-hG];rfl) W zo (hT.below hW)
 have hab:=λW (hW:Bw w W)=>ant (au (dN X)) (nt (dN X).natAbs) (dE X) (G*X) (by
  have e:dval (dF X)=X:=bA X
  rw[e,avU,hG]) W (dR.ok zo) (hT.below hW)
 have hGf:Fit (4*B+11) (canon G):=(by rw[<-hG];exact(Vo X).mono zo:Sm (4*B+11) G).fit zo;have tq:∀i j,i<m+1->j<m+1->Fit (4*B+11) (canon (mf (m+1) (cu S) i j)):=λi j hi hj=>by refine((YL (B:=B+1) zo hm (λa b ha hb=>?_) i j).mono zo).fit zo;rw[GG a b ha hb,<-hP];exact Lq (n:=m+1) (B:=B) (λa b ha hb=>by rw[yX rows a b zo (by rw[hrow _ (List.getElem_mem _)];exact hb)];exact(hfit _ (List.getElem_mem _) _ (List.getElem_mem _)).2) a b ha hb
 have hfin:∀R:List (List Dyadic),R.length=m+1->(∀r∈R,r.length=m+1)->(∀a b,a<m+1->b<m+1->cu R a b=mf (m+1) (cu S) a b*G)->R=sN (m+1) P:=λR h1 h2 h3=>awD h1 h2 (Qv _ _) (Qw _ _) (λa b ha hb=>by
  rw[h3 a b ha hb,YM _ _ _ _ ha hb];unfold jH
  rw[hX,hG,alk (m+1) hm GG a b ha hb])
 have Gi:=λi j hi hj=>alm (m+1) (cu S) i j hi hj;have LD:=aln (m+1) (cu S);have LG:=alo (m+1) (cu S);obtain⟨F,hF⟩:∃F:Nat->Nat->Dyadic,(λi j=>mf (m+1) (cu S) i j)=F:=⟨_,rfl⟩;have hFe:∀i j,mf (m+1) (cu S) i j=F i j:=λi j=>by rw[<-hF]
 simp only[hFe]at tq hfin Gi;obtain⟨A,hA⟩:=az (sM (m+1) (cu S));rw[hA]at wu Gi LD LG;rw[hP];unfold YB;rw[hX,hG];rw[hn]at cH hro pk wu tq hfin Gi LD LG⊢;have aZ:n<=4:=by omega
 have dV:1<=n:=by omega
 have adz:=λW=>(lv W).mono (λe w' h=>(⟨h.1,h.2,h.2⟩:e=.returned (af (bi X))/\Bw W w'/\Bw W w'));have ac8:=λW hW=>(hof W hW).mono (λe w' h=>(⟨h.1,h.2,h.2⟩:e=.returned (bN G)/\Bw W w'/\Bw W w'));have ju:=λW hW=>(hab W hW).mono (λe w' h=>(⟨h.1,h.2,h.2⟩:e=.returned (bN (G*X))/\Bw W w'/\Bw W w'));obtain⟨fA,XZ,ES,Oc,jE,nX,kH,HGf,HAs,nV,HAe,HAl⟩:=gL cH hro pk wu adz ac8 ju hGf tq hfin Gi LD;obtain⟨HAr,HT⟩:=aI LG hT;clear cH hro pk wu adz ac8 lv hof hab ju hGf tq hfin Gi LD LG hT hFe hF hA dR hent GG uP uO qj hS e0 h00 hP hX hG GJ ha hr hL hrow hfit h0 hn;have Hb:=hbz w;go_enter Tryz.func156,Tryz.ntmps156;go_wp2_with fail;refine cX w (Hb.an trivial) 45 [ag false,.string ⟨#[]⟩,af 0] λW aG ae ai=>?_;go_wp2_with fail;refine aK ae (fA.out _ ae.2.1.out) λw1 ae ai=>?_;go_wp2_with fail;refine(XZ.out _ ae.2.1.out).mono ?_;rintro e w2 ⟨a2,c2,rfl,hc2,ht2,ak⟩;obtain⟨ae,ai⟩:=qX ak ae;have Kp:=aj ht2;clear ht2;go_wp2_with fail;refine aK ae (ES.out _ ae.2.1.out a2 c2 Kp.out) λw3 ae ai=>?_;clear Kp;obtain⟨W4,ke,aG,ae,ai⟩:=bO w3 ae 45 (bu X);go_wp2_with fail;refine(XZ.out _ ae.2.2.1.out).mono ?_;rintro e w5 ⟨a3,c3,rfl,hc3,pu,ak⟩;obtain⟨ae,ai⟩:=qX ak ae;have Kq:=aj pu;clear pu;obtain⟨Hd,Hr,Hb,_⟩:=ae;obtain⟨r0,aX,r1,aY,r2,mA⟩:=Hr.out.g3;obtain⟨d0,d1,d2⟩:=Hd.out.c3;have lS:=Hr;have Xd:=Hd;have eU:=Hb;go_wp2_with fail;refine(Oc.out _ Hb.out a3 c3 Kq.out).mono ?_;rintro e w6 ⟨v,rfl,hO,abL,ak⟩;obtain⟨ae,ai⟩:=qX ak (Hb.an<|Hr.an<|Hd.an trivial);obtain⟨go,cv,rfl,hgo⟩:∃go cv,v=.slice (some ⟨go,0,none⟩) n cv/\w5.heap.size<=go:=by obtain⟨vals,hl,ho,_,_⟩:=hO;obtain⟨g,c,e1,h1,_,_⟩:=rO ho zo;exact⟨g,c,e1,h1⟩
 have hcv:n<=cv:=by obtain⟨vals,hl,ho,_,_⟩:=hO;exact(yT ho).1
 obtain⟨gI,hgI⟩:∃gI:Nat->Nat×Nat,∀i,i<n->w6.cell? ⟨go,i,none⟩=some (.slice (some ⟨(gI i).1,0,none⟩) n (gI i).2)/\w5.heap.size<=(gI i).1/\(gI i).1<w6.heap.size/\(gI i).1≠go:=by have H:=λi (h:i<n)=>(hO.blk i h dV).2;refine⟨λi=>if h:i<n then(Classical.choose (H i h),Classical.choose (Classical.choose_spec (H i h)))else(0,0),λi h=>?_⟩;simp only[h,dif_pos];exact Classical.choose_spec (Classical.choose_spec (H i h))
 obtain⟨HO,Xr⟩:=aI hO hgI;clear hO hgI;have BZ:Hid (Bw w5 w6):=abL;have H66:Hid (Bw w6 w6):=Below.refl _ _;clear abL;have VA:=BZ.out.size;go_wp2_with fail;refine(jE.out _).mono ?_;rintro e w7 ⟨rfl,abN,ak⟩;obtain⟨ae,ai⟩:=qX ak ae;go_wp2_with fail;refine(nX.out _ ae.1.out).mono ?_;rintro e w8 ⟨rfl,abO,ak⟩;obtain⟨ae,ai⟩:=qX ak ae;have Sr:=aC abN abO;clear abN abO;have Wa:=aj Sr;have NC:=Sr.size;clear Sr;obtain⟨W9,abr,aG,ae,ai⟩:=bO w8 ae 45 (bu G);have Jx:Hid (Bw w6 W9):=by rw[<-abr];exact(Wa.out).alloc zo _
 have hO9:=HO.out.below Jx.out;have Md:∀i,i<n->W9.cell? ⟨go,i,none⟩=some (.slice (some ⟨(gI i).1,0,none⟩) n (gI i).2):=λi h=>cell_later Jx.out (Xr.out i h).1;have abM:=aC BZ.out Jx.out;obtain⟨WE,Xa,VZ⟩:=bL hO9 Md abM;have Yd:=ae.1;clear hO9 Md abM HO Wa H66 Jx;go_wp2_with fail;go_loopw[37] (λx wr=>∃(k:Nat) (R:List (List Dyadic)),k<=n/\x=af (k:Int)/\R.length=n/\(∀r∈R,r.length=n)/\(∀a b,a<n->b<n->cu R a b=if jZ k 0 a b then F a b*G else F a b)/\fW wr w5.heap.size n R n (.slice (some ⟨go,0,none⟩) n cv)/\(∀i,i<n->wr.cell? ⟨go,i,none⟩=some (.slice (some ⟨(gI i).1,0,none⟩) n (gI i).2))/\ar wr w8.heap.size 45 (bu G)/\Bw w5 wr) (λx _=>n-(intOf x).toNat);case atStart=>exact⟨0,A,Nat.zero_le _,rfl,HAl.out,HAr.out,λa b ha hb=>by rw[HAe.out a b ha hb,if_neg (by unfold jZ;omega)],WE.out,Xa.out,Yd.out,VZ.out⟩
 case round=>
  clear Yd VZ Xa WE BZ;obtain⟨k,R,hk,rfl,tA,tB,hRe,hO,hc,hs,pb⟩:=hrel;by_cases hlt:k<n
  . have cH:=hc k hlt;obtain⟨g,c,mD⟩:∃g c,gI k=(g,c):=⟨_,_,rfl⟩;obtain⟨_,hg1,hg2,hg3⟩:=Xr.out k hlt;rw[mD]at cH hg1 hg2 hg3;have aU:=Eb n cv k (k:Int) (rfl:(some ⟨go,0,none⟩:Option Addr)=_) hlt rfl;rw[Nat.zero_add,Nat.mul_one]at aU;have hin:∃(j:Nat) (R:List (List Dyadic)),j=0/\R.length=n/\(∀r∈R,r.length=n)/\(∀a b,a<n->b<n->cu R a b=if jZ k j a b then F a b*G else F a b)/\fW wr w5.heap.size n R n (.slice (some ⟨go,0,none⟩) n cv)/\(∀i,i<n->wr.cell? ⟨go,i,none⟩=some (.slice (some ⟨(gI i).1,0,none⟩) n (gI i).2))/\ar wr w8.heap.size 45 (bu G)/\Bw w5 wr:=⟨0,R,rfl,tA,tB,hRe,hO,hc,hs,pb⟩;obtain⟨lO,Cn⟩:=aI hin mD;clear hin tA tB hRe hO hc hs pb mD;obtain⟨wq,hwq⟩:∃wq,wq=wr:=⟨_,rfl⟩;subst hwq;go_wp2_with fail;go_loopw[43] (λx wr=>∃(j:Nat) (R:List (List Dyadic)),j<=n/\x=af (j:Int)/\R.length=n/\(∀r∈R,r.length=n)/\(∀a b,a<n->b<n->cu R a b=if jZ k j a b then F a b*G else F a b)/\fW wr w5.heap.size n R n (.slice (some ⟨go,0,none⟩) n cv)/\(∀i,i<n->wr.cell? ⟨go,i,none⟩=some (.slice (some ⟨(gI i).1,0,none⟩) n (gI i).2))/\ar wr w8.heap.size 45 (bu G)/\Bw w5 wr) (λx _=>n-(intOf x).toNat);case atStart=>obtain⟨j,R,rfl,h⟩:=lO.out;exact⟨0,R,Nat.zero_le _,rfl,h⟩
    case round=>
     clear lO cH aU;obtain⟨j,R,hj,rfl,tA,tB,hRe,hO,hc,hs,pb⟩:=hrel;by_cases bB:j<n
     . have hrl:(R.getD k []).length=n:=by
        have e:R.getD k []=R[k]'zo:=by rw[List.getD_eq_getElem?_getD,List.getElem?_eq_getElem zo];rfl
        rw[e];exact tB _ (List.getElem_mem _)
       have cH:=hc k hlt;rw[Cn.out]at cH;have hpick:∀W,fW W w5.heap.size n R n (.slice (some ⟨go,0,none⟩) n cv)->W.cell? ⟨go,k,none⟩=some (.slice (some ⟨g,0,none⟩) n c)->aQ W g (j*3) [ag (au (dN (F k j))),ah (nt (dN (F k j)).natAbs),af (dE (F k j))]/\(∀o,W.frozen? ⟨g,o,none⟩=false)/\∀y:Dyadic,fW (((W.setCell ⟨g,j*3,none⟩ (ag (au (dN y)))).setCell ⟨g,j*3+1,none⟩ (ah (nt (dN y).natAbs))).setCell ⟨g,j*3+2,none⟩ (af (dE y))) w5.heap.size n (R.set k ((R.getD k []).set j y)) n (.slice (some ⟨go,0,none⟩) n cv):=by
        intro W hO cH;obtain⟨go',cap',g',c',hv,_,_,hne,hcell,bW,hfz,hup⟩:=hO.num k j hlt bB tA hrl;simp only[Value.slice.injEq,Option.some.injEq,Addr.mk.injEq,and_true,true_and]at hv;obtain⟨rfl,rfl⟩:=hv;rw[cH]at hcell;simp only[Option.some.injEq,Value.slice.injEq,Addr.mk.injEq,and_true,true_and]at hcell;obtain⟨rfl,rfl⟩:=hcell;have he:(R.getD k []).getD j 0=F k j:=by have h:=hRe k j hlt bB;rw[if_neg (by unfold jZ;omega)]at h;exact h
        rw[he]at bW;exact⟨bW,hfz,hup⟩
       obtain⟨bW,_,_⟩:=hpick wr hO cH;have Rv:=HAs.out k j hlt bB;obtain⟨Y,hY⟩:=az (F k j*G);have hsl:=avT tA tB k j hlt Y;have hen:∀a b,a<n->b<n->cu (R.set k ((R.getD k []).set j Y)) a b=if jZ k (j+1) a b then F a b*G else F a b:=by
        intro a b ha hb;rw[aox tA tB k j hlt bB Y a b ha hb];by_cases e:a=k/\b=j
        . obtain⟨rfl,rfl⟩:=e;rw[if_pos ⟨rfl,rfl⟩,if_pos (by unfold jZ;omega),hY]
        . rw[if_neg e,hRe a b ha hb];have:jZ k j a b↔jZ k (j+1) a b:=by unfold jZ;omega
          by_cases h:jZ k j a b
          . rw[if_pos h,if_pos (this.1 h)]
          . rw[if_neg h,if_neg (λh2=>h (this.2 h2))]
       obtain⟨E,hE⟩:=az (F k j);have HY:Hid (dval (canon E) *dval (canon G)=Y):=by show _=_;rw[bA,bA,<-hE];exact hY
       rw[hE]at bW Rv hpick;have rG:=ud n c j (j:Int) (rfl:(some ⟨g,0,none⟩:Option Addr)=_) bB rfl;rw[Nat.zero_add]at rG;obtain⟨R2,hR2⟩:=az (R.set k ((R.getD k []).set j Y));have hpk:=λW h1 h2=>(hpick W h1 h2).2.2 Y;have Be:=λW h1 h2=>(hpick W h1 h2).2.1;rw[hR2]at hsl hen hpk;have Hz:Hid (aQ wr g (j*3) (bu E)):=bW;have Hs:Hid (ar wr w8.heap.size 45 (bu G)):=hs;obtain⟨HO,Hcc,fA,aP,uz,Hen,Hpk,Hpz,HAf,rW⟩:=Bl hO hc cH pb hsl hen hpk Be Rv (HT.out.below (aC eU.out pb));have szw:=pb.size;clear hO hc cH pb hsl hen hpk Be Rv hs bW hpick hR2 hE hY tA tB hRe hrl;have Hb:=hbz wr;have yz:=Hs.out.lt;go_wp2_with fail;obtain⟨ae,ai⟩:=qZ (Hz.an<|Hs.an trivial);have HU:Hid (aB wr):=rW.out;obtain⟨Hz,Hs,_⟩:=ae;obtain⟨z0,z1,z2⟩:=Hz.out.w3;obtain⟨s0,s1,s2⟩:=Hs.out.c3;refine fx (λw'=>aJ w' g (j*3) (ag (au (dN E)))/\aJ w' g (j*3+1) (ah (nt (dN E).natAbs))/\aJ w' g (j*3+2) (af (dE E))/\aJ w' (w8.heap.size) 0 (ag (au (dN G)))/\aJ w' (w8.heap.size) 1 (ah (nt (dN G).natAbs))/\aJ w' (w8.heap.size) 2 (af (dE G))) (λi=>Nat.blt i 10) [(0,true),(1,true),(2,true),(3,true),(4,true),(5,true),(6,true),(7,false),(8,false),(9,true),(10,false)] zk zk rfl zk zc ⟨z0,z1,z2,s0,s1,s2⟩ ?_;iterate 7 (refine pT rfl rfl ?_ (by intro w' ⟨q0,q1,q2,q3,q4,q5⟩;go_simp;try with_reducible rfl);try simp only[UU])
       refine aN rfl rfl (λK hK=>?_);go_simp;refine hK _ _ (λ_=>⟨aM z0,aM z1,aM z2,aM s0,aM s1,aM s2⟩) ?_;try simp only[UU]
       refine cg (λW4=>ar W4 (wr.heap.size) 45 [ag (au (dN E)),ah (nt (dN E).natAbs),af (dE E),ag (au (dN G)),ah (nt (dN G).natAbs),af (dE G)]/\Bw wr W4) (by first|exact iw|exact iy) ?_;rintro W4 ⟨qv,ak⟩;have aAq:=Hs.out.lt;replace Hz:=kW Hz ak;replace Hs:=kB Hs ak;replace HU:=kT HU ak;have Hv:=aj qv;clear qv;obtain⟨z0,z1,z2⟩:=Hz.out.w3;obtain⟨s0,s1,s2⟩:=Hs.out.c3;obtain⟨v0,v1,v2,v3,v4,v5⟩:=Hv.out.c6;replace Hb:=bg Hb ak;refine aN rfl rfl (λK hK=>?_);go_simp;with_reducible refine(xR _ _ _ _ _ _ Y (4*B+11) HY.out wr.heap.size _ 45 _ HAf.out HGf.out zo Hv.out (by first|exact HU.out|exact aB.drew HU.out|exact aB.alloc HU.out _|exact aB.drew (aB.alloc HU.out _) |exact aB.alloc (aB.drew HU.out) _)).mono ?_
       rintro e jl ⟨rfl,hq⟩;have ak:Bw W4 jl:=by first|exact hq|exact cS hq
       replace Hz:=kW Hz ak;obtain⟨Hs,s0,s1,s2⟩:=IG Hs ak;replace HU:=kT HU ak;obtain⟨Hv,v0,v1,v2,v3,v4,v5⟩:=MV Hv ak;obtain⟨z0,z1,z2⟩:=Hz.out.w3;replace Hb:=bg Hb ak;refine hK _ _ (λ_=>⟨z0,z1,z2,s0,s1,s2⟩) ?_;try simp only[UU]
       refine pT rfl rfl ?_;try simp only[UU]
       refine aN rfl rfl (λK hK=>?_);have RO:=HO.out.below Hb.out;have Mn:=cell_later Hb.out fA.out;have hfz:=Hpz.out jl RO Mn;have Da:=hfz (j*3);have xV:=hfz (j*3+1);have Gh:=hfz (j*3+2);have hup:=Hpk.out jl RO Mn;have mB:=aC aP.out Hb.out;obtain⟨PP,jU⟩:=aI hup mB;clear RO Mn hfz hup mB;go_simp;refine hK _ _ (λh=>absurd h zd) ?_;try simp only[UU]
       simp only[bE];go_wp2;refine⟨⟨j+1,R2,by omega,by go_num,uz.out.1,uz.out.2,Hen.out,PP.out,λi hi=>?_,?_,?_⟩,by simp[intOf];omega⟩
       . have hne:(⟨go,i,none⟩:Addr).block≠g:=λe=>hg3 e.symm;exact aF (.inl hne) (aF (.inl hne) (aF (.inl hne) (cell_later Hb.out (Hcc.out i hi))))
       . have hne:g≠w8.heap.size:=by omega
         exact((Hs.out.aA9 _ hne _).aA9 _ hne _).aA9 _ hne _
       . exact((jU.out.setCell hg1 _).setCell hg1 _).setCell hg1 _
     . obtain rfl:j=n:=by omega
       have wF:(∀a b,a<j->b<j->cu R a b=if jZ (k+1) 0 a b then F a b*G else F a b):=by
        intro a b ha hb;rw[hRe a b ha hb];have:jZ k j a b↔jZ (k+1) 0 a b:=by unfold jZ;omega
        by_cases h:jZ k j a b
        . rw[if_pos h,if_pos (this.1 h)]
        . rw[if_neg h,if_neg (λh2=>h (this.2 h2))]
       have hres:(∃k' R,k'<=j/\k'=k+1/\R.length=j/\(∀r∈R,r.length=j)/\(∀a b,a<j->b<j->cu R a b=if jZ k' 0 a b then F a b*G else F a b)/\fW wr w5.heap.size j R j (.slice (some ⟨go,0,none⟩) j cv)/\(∀i,i<j->wr.cell? ⟨go,i,none⟩=some (.slice (some ⟨(gI i).1,0,none⟩) j (gI i).2))/\ar wr w8.heap.size 45 (bu G)/\Bw w5 wr):=⟨k+1,R,by omega,rfl,tA,tB,wF,hO,hc,hs,pb⟩;have gD:=aj hres;clear hres wF tA tB hRe hO hc hs pb;go_wp2;go_roundw;case rel=>obtain⟨k',R,h1,rfl,h⟩:=gD.out;exact⟨k+1,R,h1,by go_num,h⟩
       case measure=>exact bf
  . obtain rfl:k=n:=by omega
    have hRf:R=sN k P:=nV.out R tA tB (λa b ha hb=>by rw[hRe a b ha hb,if_pos (by unfold jZ;omega)]);subst hRf;obtain⟨NS,aP⟩:=aI hO pb;clear hO hc hs pb tA tB hRe;obtain⟨Hr,Hd,Hb⟩:=bL (lS.out.below aP.out) (Xd.out.below aP.out) (aC eU.out aP.out);obtain⟨ae,ai⟩:=qZ (Hr.an<|Hd.an trivial);go_wp2_with fail;refine(kH.out _ Hb.out).mono ?_;rintro e VI ⟨rfl,yf,ak⟩;obtain⟨ae,ai⟩:=qX ak (Hb.an ae);have ahz:=aj (NS.out.below yf);clear yf;have hzz:=eU.out.size;have kq:w.heap.size<w5.heap.size:=Nat.lt_of_lt_of_le lS.out.lt (Nat.le_refl _);go_wp2;refine dG (λrT=>ar rT w.heap.size 45 [ag (au (dN (G*X))),ah (nt (dN (G*X)).natAbs),af (dE (G*X))]/\fW rT w5.heap.size k (sN k P) k (.slice (some ⟨go,0,none⟩) k cv)/\Bw w rT) ⟨((ae.2.1.out.set 0 _).set 1 _).set 2 _,((ahz.out.aBn kq _).aBn kq _).aBn kq _,((ae.1.out.setCell zp _).setCell zp _).setCell zp _⟩ ?_;rintro rT ⟨aq6,aqY,aqj⟩;obtain⟨q0,q1,q2⟩:=aq6.c3;obtain⟨a9,c9,lw,Md,ht9⟩:=aqY.tbl (Qv _ _) (Qw _ _);simp only[Value.slice.injEq,true_and]at lw;obtain⟨rfl,rfl⟩:=lw;exact bodyPost_ret (v:=.tuple #[bN (G*X),.slice (some ⟨go,0,none⟩) k cv,af 0]) (by simp[results,Tryz.results156,go_sem,q0,q1,q2]) rfl ⟨_,_,rfl,Md,ht9,aqj⟩
def eH (xs:List Raw):Nat->Dyadic:=λb=>(xs.map dval).getD b 0
def BW (xs:List Raw)(k:Nat)(h:k<xs.length):eH xs k=dval xs[k]:=by unfold eH;simp[List.getD_eq_getElem?_getD,h]
def Ni {w:World}{b base n:Nat}{e:TypeId}{size:Nat}{xs:List Value}(h:ar w b e xs)(hb:base<=b)(hl:xs.length=n*size)(hn:n<=1048576):w.ownsRow base e size (.slice (some ⟨b,0,none⟩) n n) n xs:=
 ⟨hl,.inr ⟨b,n,xs.toArray,rfl,hb,h,Nat.le_refl _,by unfold maxLen;omega,by simpa using hl,by rw[<-hl];simp⟩⟩
def Tbl.aBu {w:World}{a:Option Addr}{T:List (List Dyadic)}{n:Nat}(h:Tbl w a (T.map λr=>r.map canon))(hl:T.length=n)(hr:∀r∈T,r.length=n)(k i:Nat)(hk:k<n)(hi:i<n):
 ∃b o br os cr,a=some ⟨b,o,none⟩/\w.cell? ⟨b,o+k,none⟩=some (.slice (some ⟨br,os,none⟩) n cr)/\aQ w br (os+i*3) [ag (au (dN (cu T k i))),ah (nt (dN (cu T k i)).natAbs),af (dE (cu T k i))]:=by
 have Mo:k<T.length:=by omega
 obtain⟨b,o,a',c',h1,h2,h3⟩:=h.row k (by simpa using Mo);have e1:(T.map λr=>r.map canon)[k]'(by simpa using Mo)=T[k].map canon:=by simp
 have hlk:=hr _ (List.getElem_mem Mo);rw[e1]at h2 h3;rw[List.length_map,hlk]at h2;have hik:i<T[k].length:=by omega
 have e2:cu T k i=T[k][i]:=by unfold cu;simp[List.getD_eq_getElem?_getD,Mo,hik]
 obtain⟨br,os,e3,q0,q1,q2⟩:=h3.num i (by simpa using hik) (show(T[k].map canon)[i]'(by simpa using hik)=(au (dN (cu T k i)),nt (dN (cu T k i)).natAbs,dE (cu T k i))by rw[e2];simp;rfl);subst e3;exact⟨b,o,br,os,c',h1,h2,jm q0 q1 q2⟩
def auN {n B:Nat}{rows:List (List Raw)}(hr:Rw n B rows)(a b:Nat)(ha:a<=n)(hb:b<n):Sm B (dA rows a b):=by have hL:=hr.1;rw[yX rows a b zo (by rw[hr.2.1 _ (List.getElem_mem _)];exact hb)];exact(hr.2.2 _ (List.getElem_mem _) _ (List.getElem_mem _)).2
def agR {n B:Nat}{xs:List Raw}(hxl:xs.length=n)(pE:∀x∈xs,Fit B x)(b:Nat)(hb:b<n):Sm B (eH xs b):=by rw[BW xs b zo];exact(pE _ (List.getElem_mem _)).2
def Rm {V B:Nat}{l:List Trm}(hV:V<=12)(hm:∀t∈l,cJ t.1 V=true)(hl:l.length<=4096)(hs:∀x∈l,Sm B (dval x.2))(hB:B+l.length<=268435456):dL V (B+l.length) (aS l):=by refine⟨am0 hV hm hl,λt ht=>?_⟩;have h1:=am1 hs t ht;have h2:=((jJ l).2 t ht).2;rw[h2];exact h1.fit hB
def dL.mono {V B B':Nat}{ts:List Trm}(h:dL V B ts)(hB:B<=B'):dL V B' ts:=⟨h.1,λt ht=>(h.2 t ht).mono hB⟩
def Ui {V B:Nat}{c:Dyadic}{l:Nat->Dyadic}{k:Nat}(hV:V<=12)(hk:k<=V)(hc:Sm B c)(hl:∀j,j<k->Sm B (l j))(hB:B+13<=268435456):dL V (B+13) (cW V c l k):=by have h:=Rm (B:=B) hV (aey V c l k) (by rw[Eg];omega) (ase V c l k hc hl) (by rw[Eg];omega);rw[Eg]at h;exact h.mono zo
def agD {V B:Nat}{k:Nat}{x:Dyadic}(hV:V<=12)(hx:Sm B x)(hB:B+1<=268435456):dL V (B+1) (aS [(cF V k,canon x)]):=
 Rm (l:=[(cF V k,canon x)]) hV (by intro t ht;simp at ht;subst ht;exact NG V k) zm (by intro t ht;simp at ht;subst ht;show Sm B (dval (canon x));rw[bA];exact hx) (by simpa using hB)
def avR (V k:Nat)(x:Dyadic):aS (cC x (aS [(cF V k,canon 1)]))=aS [(cF V k,canon x)]:=by refine CS (λm=>?_);rw[Zq,rq];simp only[bU,bA];split<;>grind
def ali (V B:Nat)(A D C:List Trm)(aA aD:Option Addr)(cA cD:Nat)(w:World)(b:Nat)(hb:ar w b 41 [af (V:Int),.slice aA A.length cA,af (V:Int),.slice aD D.length cD])(hA:vO w aA cA A)(hD:vO w aD cD D)(SA:dL V B A)(SB:dL V B D)(hn:A.length+D.length<=4096)(hB:B+2+8192<=268435456)(hT:aB w)(hC:aS (A++D)=C):
 Cl 160 #[.slice (some ⟨b,0,none⟩) 2 2] w λex w'=>∃a' c',ex=.returned (.tuple #[.agg #[af (V:Int),.slice a' C.length c'],af 0])/\aW w' a' c' C/\Bw w w':=by
 refine auj V B b 0 2 2 [⟨V,aA,A.length,cA⟩,⟨V,aD,D.length,cD⟩] (λk=>if k=0 then A else D) C w rfl zd zd (At.aBa hb) ?_ ?_ hB hT ?_
 . intro k hk;rcases k with _|k
   . exact⟨aA,cA,rfl,hA,SA⟩
   . obtain rfl:k=0:=by simp at hk;omega
     exact⟨aD,cD,rfl,hD,SB⟩
 . simp[nY];omega
 . simpa[nY]using hC
def FL (V B:Nat)(A D C:List Trm)(aA aD:Option Addr)(cA cD:Nat)(w:World)(b:Nat)(hb:ar w b 41 [af (V:Int),.slice aA A.length cA,af (V:Int),.slice aD D.length cD])(hA:aW w aA cA A)(hD:aW w aD cD D)(SA:dL V B A)(SB:dL V B D)(hn:A.length+D.length<=4096)(hB:B+2+8192<=268435456)(hT:aB w)(hC:aS (A++D)=C):
 Cl 160 #[.slice (some ⟨b,0,none⟩) 2 2] w λex w'=>∃a' c',ex=.returned (.tuple #[.agg #[af (V:Int),.slice a' C.length c'],af 0])/\aW w' a' c' C/\Bw w w':=ali V B A D C aA aD cA cD w b hb hA.w hD.w SA SB hn hB hT hC
def ash (V B:Nat)(c:Dyadic)(L:List Dyadic)(l:Nat->Dyadic)(a:Option Addr)(cap:Nat)(w:World)(hV:V<=12)(hL:L.length=V)(hl:∀k (h:k<L.length),l k=L[k])(hcs:Sm B c)(hls:∀x∈L,Sm B x)(hB:B<=100000000)(ha:At w a (dC L))(hT:aB w):
 Cl 158 #[.agg #[ag (au (dN c)),ah (nt (dN c).natAbs),af (dE c)],.slice a V cap] w λex w'=>∃a' c',ex=.returned (.tuple #[.agg #[af (V:Int),.slice a' (cW V c l V).length c'],af 0])/\aW w' a' c' (cW V c l V)/\Bw w w':=by
 have hcn:=λW (hW:Bw w W)=>CU V (au (dN c)) (nt (dN c).natAbs) (dE c) c B l W hV (hcs.fit zo) zo (hT.below hW) (bA c);have qG:=λk (hk:k<V) W (hW:Bw w W)=>agG V k W hV hk (hT.below hW);have hlk:∀k,k<V->Sm B (l k):=λk hk=>by rw[hl k zo];exact hls _ (List.getElem_mem _)
 have hsc:=λk (hk:k<V) a' c' (W:World) (hW:Bw w W) (hp:aW W a' c' (aS [(cF V k,canon 1)]))=>Vm V a' c' (aS [(cF V k,canon 1)]) (au (dN (l k))) (nt (dN (l k)).natAbs) (dE (l k)) (l k) (B+2) W (agD (B:=B+1) hV (Sm.one.mono zo) zo) hp (((hlk k hk).mono zo).fit zo) zo (hT.below hW) (bA _);simp only[avR]at hsc;have had:=λk (hk:k<V) aA cA aD cD (W:World) (hW:Bw w W) b (hb:ar W b 41 [af (V:Int),.slice aA (cW V c l k).length cA,af (V:Int),.slice aD (aS [(cF V k,canon (l k))]).length cD]) (hA:aW W aA cA (cW V c l k)) (hD:aW W aD cD (aS [(cF V k,canon (l k))]))=>FL V (B+13) (cW V c l k) (aS [(cF V k,canon (l k))]) (cW V c l (k+1)) aA aD cA cD W b hb hA hD (Ui hV zo hcs (λj hj=>hlk j zo) zo) ((agD (B:=B) hV (hlk k hk) zo).mono zo) (by have h1:=kQ (fw V c l k);have h2:=kQ [(cF V k,canon (l k))];rw[Eg]at h1;simp at h2;unfold cW;omega) zo (hT.below hW) (asf V c l k);obtain⟨n0,hn0⟩:=az ((cW V c l 0).length);rw[hn0]at hcn;obtain⟨jC,PV,lT,rX,Hl,HL,Ha,zU⟩:=lC hcn qG hsc had hl hL ha hn0;clear hcn qG hsc had hl hL ha hT hlk hls hcs hn0;have Hb:=hbz w;go_enter Tryz.func158,Tryz.ntmps158;go_wp2_with fail;refine gQ w (Hb.an trivial) 45 (bu c) 41 [af 0,.slice none 0 0] λW aG ae ai=>?_;go_wp2_with fail;refine(jC.out _ ae.2.2.1.out).mono ?_;rintro e w1 ⟨a1,d1,rfl,hp1,ak⟩;obtain⟨ae,ai⟩:=qX ak ae;obtain⟨Hc,Hr,Hb,_⟩:=ae;obtain⟨c0,c1,c2⟩:=Hc.out.c3;obtain⟨r0,aX,r1,aY⟩:=Hr.out.g2;have Ol:=Hc;have lS:=Hr;have eU:=Hb;have sB:=aj hp1;clear hp1;obtain⟨W2,ng,aG,ae,ai⟩:=bO w1 (Hb.an<|Hc.an<|Hr.an trivial) 41 [af (V:Int),.slice a1 n0 d1];have xE:Hid (aW W2 a1 d1 (cW V c l 0)):=sB.out.below (by first|exact zl| (rw[<-ng];exact zl));have VY:Hid (Bw w1 W2):=by rw[<-ng];exact zl
 go_wp2_with fail;go_loopw[7,8] (λs7 x wr=>∃(k:Nat) (a':Option Addr) (n' c':Nat),k<=V/\x=af (k:Int)/\s7=af 0/\(cW V c l k).length=n'/\ar wr w1.heap.size 41 [af (V:Int),.slice a' n' c']/\aW wr a' c' (cW V c l k)/\Bw w1 wr) (λ_ x _=>V-(intOf x).toNat);case atStart=>exact⟨0,a1,n0,d1,Nat.zero_le _,rfl,rfl,zU.out,ae.1.out,xE.out,VY.out⟩
 case round=>
  clear xE VY sB;obtain⟨k,a',n',c',hk,rfl,rfl,hn,ho,hp,pb⟩:=hrel;obtain⟨Ho,Hp,aP,Hn⟩:=cE ho hp pb hn;have dO:=eU.out;have ie:=pb.size;have BQ:=dO.size;by_cases hlt:k<V
  . have mE:k<(L.map canon).length:=by rw[List.length_map,HL.out];exact hlt
    have hat':=Ha.out.below (aC eU.out pb);rw[Am]at hat';obtain⟨X,hX⟩:=az (l k);obtain⟨bx,ox,rfl,p0,p1,p2⟩:=hat'.num k mE (show(L.map canon)[k]=(dF X)by rw[<-hX,Hl.out k (by simpa using mE)];simp;rfl);have ixx:=ud V cap k (k:Int) (rfl:(some ⟨bx,ox,none⟩:Option Addr)=_) hlt rfl;have lbx:bx<wr.heap.size:=World.block_lt_of_cell? wr _ p0;have qG:=PV.out k hlt;have hsc:=lT.out k hlt;have had:=rX.out k hlt;rw[hn,hX]at had;rw[hX]at hsc;obtain⟨n1,dV⟩:∃n,(aS [(cF V k,canon 1)]).length=n:=⟨_,rfl⟩;obtain⟨n2,wF⟩:∃n,(aS [(cF V k,canon X)]).length=n:=⟨_,rfl⟩;obtain⟨n3,wG⟩:∃n,(cW V c l (k+1)).length=n:=⟨_,rfl⟩;rw[wF,wG]at had;rw[dV,wF]at hsc;rw[dV]at qG;obtain⟨oO,sI,Od,Hn3⟩:=cE qG hsc had wG;have Hx:Hid (aQ wr bx (ox+k*3) (bu X)):=jm p0 p1 p2;have eW:=aj (aC eU.out pb);clear qG hsc had dV wF wG hat' mE hX p0 p1 p2 ho hp pb hn dO;have Hb:=hbz wr;have hlo:=Ho.out.lt;obtain⟨ae,ai⟩:=qZ (Ho.an<|Hx.an trivial);go_wp2_with fail;refine(oO.out _ (aC eW.out Hb.out)).mono ?_;rintro e w3 ⟨a3,d3,rfl,Ij,ak⟩;obtain⟨ae,ai⟩:=qX ak (Hb.an ae);have qW:=aj Ij;have Ji:=ae.1.out.size;clear Ij;obtain⟨W4,ke,aG,ae,ai⟩:=bO w3 ae 41 [af (V:Int),.slice a3 n1 d3];have HQ:Hid (aW W4 a3 d3 (aS [(cF V k,canon 1)])):=qW.out.below (by first|exact zl| (rw[<-ke];exact zl));go_wp2_with fail;obtain⟨Hv,Hb,Ho,Hx,_⟩:=ae;obtain⟨o0,Gf,o1,Gg⟩:=Ho.out.g2;obtain⟨x0,x1,x2⟩:=Hx.out.w3;obtain⟨v0,fv0,v1,fv1⟩:=Hv.out.g2;refine fx (λw'=>aJ w' bx (ox+k*3) (ag (au (dN X)))/\aJ w' bx (ox+k*3+1) (ah (nt (dN X).natAbs))/\aJ w' bx (ox+k*3+2) (af (dE X))) (λi=>Nat.blt i 100000) [(1,true),(2,true),(3,true),(4,true),(0,false),(5,false),(6,true),(7,true),(8,true),(9,false)] zk zk rfl zk zc ⟨x0,x1,x2⟩ ?_;iterate 4 (refine pT rfl rfl ?_ (by intro w' ⟨q0,q1,q2⟩;go_simp;try with_reducible rfl);try simp only[UU])
    refine aN rfl rfl (λK hK=>?_);go_simp;refine hK _ _ (λ_=>⟨x0,x1,x2⟩) ?_;try simp only[UU]
    refine aN rfl rfl (λK hK=>?_);go_simp;with_reducible refine(sI.out a3 d3 _ (by first|exact aC eW.out Hb.out|exact aC eW.out Hb.out.drew) (by first|exact HQ.out|exact HQ.out.below (Below.refl _ _).drew)).mono ?_
    rintro e w5 ⟨a5,d5,rfl,Ik,hq⟩;have ak:Bw W4 w5:=by first|exact hq|exact cS hq
    replace Ho:=kB Ho ak;replace Hx:=kW Hx ak;replace Hv:=kB Hv ak;replace HQ:=aj (HQ.out.below ak);obtain⟨o0,Gf,o1,Gg⟩:=Ho.out.g2;obtain⟨x0,x1,x2⟩:=Hx.out.w3;obtain⟨v0,fv0,v1,fv1⟩:=Hv.out.g2;replace Hb:=bg Hb ak;refine hK _ _ (λ_=>⟨x0,x1,x2⟩) ?_;try simp only[UU]
    iterate 3 (refine pT rfl rfl ?_;try simp only[UU])
    refine aN rfl rfl (λK hK=>?_);go_simp;refine hK _ _ (by first|exact λh=>absurd h zd|exact λ_=>⟨x0,x1,x2⟩ |exact λ_=>⟨(by first|exact x0|exact aF zf x0|exact aF zf (aF zf x0) |exact aF zf (aF zf (aF zf x0))),(by first|exact x1|exact aF zf x1|exact aF zf (aF zf x1) |exact aF zf (aF zf (aF zf x1))),(by first|exact x2|exact aF zf x2|exact aF zf (aF zf x2) |exact aF zf (aF zf (aF zf x2)))⟩) ?_;try simp only[UU]
    simp only[bE];have ub:=Hv.out;generalize Gz:(w5.setCell ⟨w3.heap.size,0,none⟩ (af (V:Int))).setCell ⟨w3.heap.size,1,none⟩ (.slice a5 n2 d5)=W6;have yu:aW W6 a5 d5 (aS [(cF V k,canon X)]):=by rw[<-Gz];exact Ik.store ub zd _ _
    have HJ:ar W6 w1.heap.size 41 [af (V:Int),.slice a' n' c']:=by rw[<-Gz];exact(Ho.out.so w3.heap.size 0 zo _).so w3.heap.size 1 zo _
    have cj:ar W6 w3.heap.size 41 [af (V:Int),.slice a5 n2 d5]:=by rw[<-Gz];exact(ub.set 0 _).set 1 _
    have ww:Bw wr W6:=by rw[<-Gz];exact(Hb.out.setCell Ji _).setCell Ji _
    replace Ho:=aj HJ;replace Hv:=aj cj;replace Hb:=aj ww;have Hp6:=aj yu;clear HJ cj ww yu Ik ub Gz o0 o1 Gf Gg v0 v1 fv0 fv1 x0 x1 x2;obtain⟨ae,ai⟩:=qZ (Ho.an<|Hv.an trivial);have v1:W6.cell? ⟨w3.heap.size,1,none⟩=some (.slice a5 n2 d5):=ae.2.1.out.cell 1;have v0:W6.cell? ⟨w3.heap.size,0,none⟩=some (af (V:Int)):=ae.2.1.out.cell 0;have o0:W6.cell? ⟨w1.heap.size,0,none⟩=some (af (V:Int)):=ae.1.out.cell 0;have o1:W6.cell? ⟨w1.heap.size,1,none⟩=some (.slice a' n' c'):=ae.1.out.cell 1;have P0:=o0;have P1:=o1;have Q0:=v0;have Q1:=v1;obtain⟨W7,Ay,aG,ae,ai⟩:=bO W6 (Hb.an ae) 41 [af (V:Int),.slice a' n' c',af (V:Int),.slice a5 n2 d5];have HP:Hid (aW W7 a' c' (cW V c l k)):=Hp.out.below ae.2.1.out;have HS:Hid (aW W7 a5 d5 (aS [(cF V k,canon X)])):=Hp6.out.below (by first|exact zl| (rw[<-Ay];exact zl));go_wp2_with fail;go_wp2_with fail;refine(Od.out _ _ _ _ _ (aC eW.out ae.2.1.out) _ ae.1.out HP.out HS.out).mono ?_;rintro e w8 ⟨a8,d8,rfl,jw,ak⟩;obtain⟨ae,ai⟩:=qX ak (HP.an<|HS.an ae);have hl8:=aW.store jw ae.2.2.2.2.1.out zd (af (V:Int)) (.slice a8 n3 d8);obtain⟨Hl8,gS⟩:=aI hl8 (aC aP.out ae.2.2.2.1.out);clear jw hl8;go_wp2;go_roundw;case rel=>exact⟨k+1,a8,n3,d8,by omega,by go_num,rfl,Hn3.out,(ae.2.2.2.2.1.out.set 0 _).set 1 _,Hl8.out,(gS.out.setCell (Nat.le_refl _) _).setCell (Nat.le_refl _) _⟩
    case measure=>exact bf
  . obtain rfl:k=V:=by omega
    have Hr:=aj (lS.out.below aP.out);have Hb:Hid (Bw w wr):=aC eU.out aP.out;have hsz:=lS.out.lt;obtain⟨ae,ai⟩:=qZ (Ho.an<|Hr.an trivial);go_wp2;have iu:=Hp.out.store ae.2.1.out zd (af (k:Int)) (.slice a' n' c');refine dG (λw9=>aW w9 a' c' (cW k c l k)/\ar w9 (w.heap.size+1) 41 [af (k:Int),.slice a' n' c']/\Bw w w9) ⟨iu,(ae.2.1.out.set 0 _).set 1 _,(Hb.out.setCell zp _).setCell zp _⟩ ?_;rintro w9 ⟨q1,q2,q3⟩;obtain⟨x0,x1⟩:=q2.c2;exact bodyPost_ret (v:=.tuple #[.agg #[af (k:Int),.slice a' n' c'],af 0]) (by simp[results,Tryz.results158,go_sem,x0,x1]) rfl ⟨a',c',by rw[hn],q1,q3⟩
end Go.Proofs.YtpfgffadgkkedaaGreatDoor
namespace Go.Proofs.YtpfgffadgkkedaaGreatDoor
open Go.RowKit
def pI (n:Nat)(P:Nat->Nat->Dyadic)(i:Nat):List Trm:=cW n (wC n P i) (λk=>jH n P k i) n
def BC (n:Nat)(P:Nat->Nat->Dyadic)(i:Nat):List Trm:=aS (cC (-1) (pI n P i))
def mn (n:Nat)(P:Nat->Nat->Dyadic)(i:Nat):List Trm:=cW n (wZ n P (λ_=>0) i) (λb=>lZ n P b i) n
def jL (n:Nat)(P:Nat->Nat->Dyadic)(i j:Nat):List Trm:=if j=0 then mn n P i else pI n P (j-1)
def nZ (n:Nat)(P:Nat->Nat->Dyadic)(i k:Nat):List Dyadic:=(List.range k).map λk=>jH n P k i
def amV (n:Nat)(P:Nat->Nat->Dyadic)(i k:Nat):(nZ n P i k).length=k:=by simp[nZ]
def amU (n:Nat)(P:Nat->Nat->Dyadic)(i k j:Nat)(h:j<(nZ n P i k).length):(nZ n P i k)[j]=jH n P j i:=by simp[nZ]
def amW (n:Nat)(P:Nat->Nat->Dyadic)(i k:Nat):nZ n P i (k+1)=nZ n P i k++[jH n P k i]:=by unfold nZ;rw[List.range_succ,List.map_append];rfl
def axi (n:Nat)(P:Nat->Nat->Dyadic)(i k:Nat):wS n P (λ_=>0) i k-P 0 k*jH n P k i=wS n P (λ_=>0) i (k+1):=by
 show _=wS n P (λ_=>0) i k+(0-P 0 k) *jH n P k i
 grind
def aoY (n:Nat)(P:Nat->Nat->Dyadic)(l:Nat->Dyadic):cW n (wZ n P (λ_=>0) 0) l 0=mn n P 0:=by
 unfold mn cW;refine CS (λm=>?_);have h:∀k,bU (fw n (wZ n P (λ_=>0) 0) (λb=>lZ n P b 0) k) m=bU (fw n (wZ n P (λ_=>0) 0) l 0) m:=by
  intro k;induction k with
  |zero=>rfl
  |succ k ih=>rw[KZ,ih];simp[lZ]
 exact(h n).symm
def aoX (n:Nat)(hn:1<=n)(aZ:n<=4)(P:Nat->Nat->Dyadic)(i:Nat)(hi:i<n):aS (mn n P i++BC n P i)=mn n P (i+1):=by
 unfold mn BC pI;rw[asg];have:wZ n P (λ_=>0) i-wC n P i=wZ n P (λ_=>0) (i+1):=by unfold wC;rw[Jp n hn aZ P _ i hi];rfl
 rw[this];rfl
def VW {B n:Nat}:∀b,b<n->Sm B ((λ_=>0:Nat->Dyadic) b):=λ_ _=>Sm.zero _
def agI {B n:Nat}{P:Nat->Nat->Dyadic}(hn:1<=n)(aZ:n<=4)(h:∀a b,a<=n->b<n->Sm B (P a b))(i:Nat):Sm (5*B+20) (wC n P i):=(VM hn aZ h VW i n (Nat.le_refl _)).mono zo
def arZ {B n:Nat}{P:Nat->Nat->Dyadic}(hn:1<=n)(aZ:n<=4)(h:∀a b,a<=n->b<n->Sm B (P a b))(b i:Nat):Sm (4*B+11+i) (lZ n P b i):=by
 induction i with
 |zero=>exact Sm.zero _
 |succ i ih=>exact(Sm.sub ih ((KO hn aZ h b i).mono zo)).mono zo
def aeu {B n:Nat}{P:Nat->Nat->Dyadic}(hn:1<=n)(aZ:n<=4)(h:∀a b,a<=n->b<n->Sm B (P a b))(hB:B<=1000000)(i:Nat):dL n (5*B+33) (pI n P i):=
 Ui (B:=5*B+20) zo (Nat.le_refl _) (agI hn aZ h i) (λj _=>(KO hn aZ h j i).mono zo) zo
def aoW {B n:Nat}{P:Nat->Nat->Dyadic}(hn:1<=n)(aZ:n<=4)(h:∀a b,a<=n->b<n->Sm B (P a b))(hB:B<=1000000)(i:Nat)(hi:i<=n):dL n (5*B+33) (mn n P i):=
 Ui (B:=5*B+20) zo (Nat.le_refl _) ((axr hn aZ h VW i hi).mono zo) (λj _=>(arZ hn aZ h j i).mono zo) zo
def aeA (n:Nat)(c:Dyadic)(l:Nat->Dyadic)(k:Nat):(cW n c l k).length<=k+1:=by have:=kQ (fw n c l k);rw[Eg]at this;exact this
def Uf (n:Nat)(P:Nat->Nat->Dyadic)(i:Nat):(pI n P i).length<=n+1:=aeA _ _ _ _
def aag (n:Nat)(P:Nat->Nat->Dyadic)(i:Nat):(mn n P i).length<=n+1:=aeA _ _ _ _
def atC (n:Nat)(P:Nat->Nat->Dyadic)(i:Nat):(BC n P i).length<=n+1:=by have h:=kQ (cC (-1) (pI n P i));have h2:=Uf n P i;unfold cC at h;rw[List.length_map]at h;unfold BC cC;omega
def atB {B n:Nat}{P:Nat->Nat->Dyadic}(hn:1<=n)(aZ:n<=4)(h:∀a b,a<=n->b<n->Sm B (P a b))(hB:B<=1000000)(i:Nat):dL n (5*B+40) (BC n P i):=by
 have hf:=aeu hn aZ h hB i;have hl:=Uf n P i;have hsl:(cC (-1) (pI n P i)).length=(pI n P i).length:=by unfold cC;rw[List.length_map]
 refine(Rm (V:=n) (B:=5*B+35) (l:=cC (-1) (pI n P i)) zo ?_ zo ?_ zo).mono zo
 . intro t ht;unfold cC at ht;obtain⟨x,hx,rfl⟩:=List.mem_map.1 ht;exact hf.1.2.1 x hx
 . intro t ht;unfold cC at ht;obtain⟨x,hx,rfl⟩:=List.mem_map.1 ht;show Sm _ (dval (canon (dval x.2* -1)))
   rw[bA];exact(Sm.mul (hf.2 x hx).2 (Sm.neg Sm.one)).mono zo
def auZ (ps:List Pv)(V:Int)(a:Option Addr)(n c:Nat):(((ps.flatMap ic).set 0 (af V)).set 1 (.slice a n c))=(ps.set 0 ⟨V,a,n,c⟩).flatMap ic:=by
 cases ps with
 |nil=>rfl
 |cons p ps=>rfl
def UQ {W:World}{V B:Nat}{ps:List Pv}{Ts:Nat->List Trm}{a:Option Addr}{c:Nat}{C:List Trm}(h:fC W V B ps Ts)(hT:Ts ps.length=C)(hp:aW W a c C)(hf:dL V B C):fC W V B (ps++[⟨(V:Int),a,C.length,c⟩]) Ts:=by
 intro k hk;by_cases hl:k<ps.length
 . obtain⟨a',c',h1,h2,h3⟩:=h k hl;exact⟨a',c',by rw[List.getElem_append_left hl];exact h1,h2,h3⟩
 . have e:k=ps.length:=by simp at hk;omega
   subst e;exact⟨a,c,by simp[hT],by rw[hT];exact hp,by rw[hT];exact hf⟩
def auI {W:World}{V B:Nat}{ps:List Pv}{Ts Ts':Nat->List Trm}{a:Option Addr}{c:Nat}{C:List Trm}(h:fC W V B ps Ts)(hs:∀j,0<j->Ts' j=Ts j)(h0:Ts' 0=C)(hp:aW W a c C)(hf:dL V B C):fC W V B (ps.set 0 ⟨(V:Int),a,C.length,c⟩) Ts':=by
 intro k hk;rw[List.length_set]at hk;rcases k with _|k
 . exact⟨a,c,by simp[h0],by rw[h0];exact hp,by rw[h0];exact hf⟩
 . obtain⟨a',c',h1,h2,h3⟩:=h (k+1) hk;rw[<-hs (k+1) zo]at h1 h2 h3;exact⟨a',c',by simp[h1],h2,h3⟩
def fC.off {W:World}{V B:Nat}{ps:List Pv}{Ts:Nat->List Trm}{g:Nat}{cur:Array Value}{t:TypeId}(h:fC W V B ps Ts)(hg:W.heap[g]?=some (.cells cur t))(ht:t≠111)(i:Nat)(u:Value):fC (W.setCell ⟨g,i,none⟩ u) V B ps Ts:=λk hk=>by obtain⟨a,c,h1,h2,h3⟩:=h k hk;exact⟨a,c,h1,h2.off hg ht i u,h3⟩
def afn {w:World}{base:Nat}{e:TypeId}{size n cap g:Nat}{xs:List Value}(h:w.ownsRow base e size (.slice (some ⟨g,0,none⟩) n cap) n xs):∃cur,w.heap[g]?=some (.cells cur e):=by
 rcases h.2 with⟨h1,_⟩ |⟨g',cap',cur,h1,hb,hg,_⟩
 . simp at h1
 . simp only[Value.slice.injEq,Option.some.injEq,Addr.mk.injEq,and_true,true_and]at h1;obtain⟨rfl,rfl⟩:=h1;exact⟨cur,hg⟩
def aW.grown {w w':World}{r:Option Nat}{a:Option Addr}{c:Nat}{C:List Trm}(h:aW w a c C)(hg:w.grownBy w' r)(hr:∀g,r=some g->∃cur t,w.heap[g]?=some (.cells cur t)/\t≠111):aW w' a c C:=by
 refine⟨?_,h.2.1,?_⟩
 . rcases h.2.2 with h'|⟨b,o,cur',rfl,h2⟩
   . subst h';exact .inl rfl
   . have hne:some b≠r:=λe=>by obtain⟨cur,t,h3,h4⟩:=hr b e.symm;rw[h3]at h2;simp at h2;exact h4 h2.2
     rcases h.1 with h1|⟨b1,o1,e1,hc⟩
     . exact .inl h1
     . simp only[Option.some.injEq,Addr.mk.injEq,and_true]at e1;obtain⟨rfl,rfl⟩:=e1;refine .inr ⟨b,o,rfl,λj hj=>?_⟩;have h9:=hc j hj;rw[<-h9];have hk:=hg.block b (Array.getElem?_eq_some_iff.1 h2).1 hne;simp only[World.cell?,hk]
 . rcases h.2.2 with h'|⟨b,o,cur',rfl,h2⟩
   . exact .inl h'
   . have hne:some b≠r:=λe=>by obtain⟨cur,t,h3,h4⟩:=hr b e.symm;rw[h3]at h2;simp at h2;exact h4 h2.2
     exact .inr ⟨b,o,cur',rfl,by rw[hg.block b (Array.getElem?_eq_some_iff.1 h2).1 hne];exact h2⟩
def fC.grown {W w':World}{V B:Nat}{ps:List Pv}{Ts:Nat->List Trm}{r:Option Nat}(h:fC W V B ps Ts)(hg:W.grownBy w' r)(hr:∀g,r=some g->∃cur t,W.heap[g]?=some (.cells cur t)/\t≠111):fC w' V B ps Ts:=λk hk=>by obtain⟨a,c,h1,h2,h3⟩:=h k hk;exact⟨a,c,h1,h2.grown hg hr,h3⟩
def vd {w:World}{base:Nat}{e:TypeId}{size n:Nat}{v:Value}{xs:List Value}(h:w.ownsRow base e size v n xs):∀g,v.ownBlock=some g->∃cur t,w.heap[g]?=some (.cells cur t)/\t=e:=by
 intro g hg;rcases h.2 with⟨rfl,_⟩ |⟨g',cap',cur,rfl,_,hg2,_⟩
 . simp[Value.ownBlock]at hg
 . have:g'=g:=by simpa[Value.ownBlock]using hg
   subst this;exact⟨cur,e,hg2,rfl⟩
def Tryz.aBq :(Tryz.prog.info? 41).map (λi=>(i.zero,i.size,i.bytes))=some (some (.agg #[af 0,.slice none 0 0]),2,32):=by kernel_rfl
end Go.Proofs.YtpfgffadgkkedaaGreatDoor
