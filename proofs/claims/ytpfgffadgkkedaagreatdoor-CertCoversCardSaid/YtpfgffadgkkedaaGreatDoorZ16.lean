/- Package slices: Clone,Delete,over numbers. -/
import Derived.Test.YtpfgffadgkkedaaGreatDoorZ7
import Derived.Test.YtpfgffadgkkedaaGreatDoorZ14
import Derived.Lib.SliceRun
import Derived.Test.YtpfgffadgkkedaaGreatDoorZ13
import Derived.Test.YtpfgffadgkkedaaGreatDoorZ11
set_option linter.all false
set_option maxRecDepth 100000
set_option maxHeartbeats 16000000
namespace Go.Proofs.YtpfgffadgkkedaaGreatDoor
open Go.RowKit
attribute [local go_sem ↓] Go.wp_at_zero Go.wp_at_succ
def al8 (a:Option Addr)(n cap:Nat)(dz:List Raw)(w:World)(hn:dz.length=n)(hl:n<=1048576)(hs:a=none->n=0/\cap=0)(ha:At w a (dz.flatMap aV)):
 Cl 295 #[.slice a n cap] w λe w'=>∃v',e=.returned v'/\w'.ownsRow w.heap.size 45 3 v' n (dz.flatMap aV)/\Bw w w':=by
 obtain⟨i0,hi,hz0,hz1,hz2⟩:=info_parts Tryz.azX;have q:=λ(w:World) (a:Option Addr) (n c n' c':Nat)=>Lib.run_eql_slice_nil (P:=Tryz.prog) w 29 45 a n c n' c' Tryz.underlying29;have hlen:(dz.flatMap aV).length=n*3:=by rw[iD aV 3 (λ_=>rfl),hn]
 obtain⟨cs,hcs⟩:=au (dz.flatMap aV);have h1:=Ef dz;rw[hcs]at hlen ha h1⊢;obtain⟨jE,Ha,H1,Hs,Hi,cu,bV,bX⟩:=nk hlen ha h1 hs hi hz0 hz1 hz2;clear hlen ha h1 hs hi hz0 hz1 hz2 hn hcs;cases a with
 |none=>obtain⟨hn0,hc⟩:=Hs.out rfl;subst hc;subst hn0;go_enter Tryz.func295,Tryz.ntmps295;go_wp2;go_ret;refine⟨_,rfl,?_,Below.refl _ _⟩;have e:cs=[]:=List.eq_nil_of_length_eq_zero (by have:=jE.out;omega);rw[e];exact World.ownsRow_nil _ _ _ _
 |some ad=>go_enter Tryz.func295,Tryz.ntmps295;go_wp2_with (at_builtin;refine VX rfl _ _ 29 rfl w.heap.size 45 i0 _ 3 32 Tryz.underlying29 Hi.out cu.out bV.out bX.out rfl zd _ 0 [] rfl (World.ownsRow_made w #[] 0 (Nat.le_refl _) (Nat.zero_le _) zm) (some ad) n cap cs rfl Hs.out jE.out (Ha.out.below ((Below.refl _ w).alloc (Nat.le_refl _) _)) H1.out zx zo zm ?_;intro v' w1 hown hgrow fD);go_ret;refine⟨v',rfl,by simpa using hown,?_⟩;exact((Below.refl _ w).alloc (Nat.le_refl _) _).grown hgrow zm (λk hk=>by have h9:w.heap.size=k:=Option.some.inj hk;omega)
def Tryz.aAg (w:World):(zeroValue 45).run Tryz.prog w=.ok (.agg #[ag false,.string ⟨#[]⟩,af 0]) w:=by kernel_rfl
def anC {α:Type}(f:α->List Value)(sz:Nat)(hf:∀x,(f x).length=sz)(xs:List α)(i:Nat)(hi:i<xs.length):(xs.eraseIdx i).flatMap f=(xs.flatMap f).take (i*sz)++(xs.flatMap f).drop ((i+1) *sz):=by
 have e:xs=xs.take i++xs[i]::xs.drop (i+1):=by rw[List.getElem_cons_drop,List.take_append_drop]
 have hl:((xs.take i).flatMap f).length=i*sz:=by rw[iD f sz hf,List.length_take,Nat.min_eq_left zo]
 have e1:xs.flatMap f=(xs.take i).flatMap f++(f xs[i]++(xs.drop (i+1)).flatMap f):=by
  conv=>lhs;rw[e]
  rw[List.flatMap_append,List.flatMap_cons]
 rw[e1,List.take_left' hl,List.drop_append,hl,List.drop_of_length_le (by rw[hl,Nat.add_mul];omega)];rw[show(i+1) *sz-i*sz=sz by rw[Nat.add_mul,Nat.one_mul];omega,List.nil_append,List.drop_left' (hf _),List.eraseIdx_eq_take_drop_succ,List.flatMap_append]
def amK (g m cap i base:Nat)(dz:List Raw)(w:World)(hn:dz.length=m+1)(hl:m<=1048576)(hi:i<=m)
 (ho:w.ownsRow base 45 3 (.slice (some ⟨g,0,none⟩) (m+1) cap) (m+1) (dz.flatMap aV)):
 Cl 294 #[.slice (some ⟨g,0,none⟩) (m+1) cap,af (i:Int),af ((i+1:Nat):Int)] w λe w'=>e=.returned (.slice (some ⟨g,0,none⟩) m cap)/\
  w'.ownsRow base 45 3 (.slice (some ⟨g,0,none⟩) m cap) m ((dz.eraseIdx i).flatMap aV)/\w.grownBy w' (some g):=by
 obtain⟨i0,hi0,hz0,hz1,hz2⟩:=info_parts Tryz.azX;have hcap:m+1<=cap:=(yV ho).1;have hcm:cap<=9223372036854775807:=by
  rcases ho.2 with⟨h1,_⟩ |⟨g',cap',cur,h1,hb,hg,h4,h5,_⟩
  . simp at h1
  . simp only[Value.slice.injEq]at h1;obtain⟨_,_,rfl⟩:=h1;unfold maxLen at h5;omega
 have Mm:=anC aV 3 (λ_=>rfl) dz i zo;have hlen:(dz.flatMap aV).length=(m+1) *3:=by rw[iD aV 3 (λ_=>rfl),hn]
 have h1:=Ef dz;obtain⟨cs,hcs⟩:=au (dz.flatMap aV);obtain⟨rs,hrs⟩:=au ((dz.eraseIdx i).flatMap aV);rw[hcs]at hlen ho h1 Mm;rw[hrs]at Mm⊢;have qw:=Ni ho i zo;obtain⟨ad,had⟩:=au (if cap=i+1 then(⟨g,0,none⟩:Addr)else⟨g,(i+1) *3,none⟩);have hsl:(if cap=i+1 then some (⟨g,0,none⟩:Addr)else some ⟨g,(i+1) *3,none⟩)=some ad:=by rw[<-had];split<;>rfl
 have hnews:Hid (∀j u,(cs.drop ((i+1) *3))[j]?=some u->w.drew.cell? (ad.add j)=some u):=by
  intro j u hj;rw[List.getElem?_drop]at hj;have hlt:=(List.getElem?_eq_some_iff.1 hj).1;have AH:¬cap=i+1:=by omega
  rw[if_neg AH]at had;subst had;have e2:((⟨g,(i+1) *3,none⟩:Addr).add j)=⟨g,(i+1) *3+j,none⟩:=by unfold Addr.add;cases j<;>simp
  rw[e2];have:=ho.cells (g:=g) rfl ((i+1) *3+j) u hj;have e3:((⟨g,0,none⟩:Addr).add ((i+1) *3+j))=⟨g,(i+1) *3+j,none⟩:=by unfold Addr.add;split<;>simp;omega
  rw[e3]at this;exact this
 have hnl:Hid ((cs.drop ((i+1) *3)).length=(m-i) *3):=by show _=_;rw[List.length_drop,hlen];omega
 have dK:Hid (∀u∈cs.drop ((i+1) *3),u.oneCell'=true):=λu hu=>h1 u (List.mem_of_mem_drop hu);have Fj:Hid (w.drew.ownsRow base 45 3 (.slice (some ⟨g,0,none⟩) i cap) i (cs.take (i*3))):=qw;obtain⟨aic,aiX,zV,Hn1,Hi,bV⟩:=fZ Mm hnews.out hnl.out dK.out hi0 hz1;have z:=Tryz.aAg;clear hnews hnl dK ho qw hlen h1 Mm hcs hrs hn hi0 hz0 hz1 hz2;have hw1:IntKind.i64.wrap ((i:Int)+1)=((i+1:Nat):Int):=by rw[IntKind.wrap_i64];omega
 have hne:((i:Int)==((i+1:Nat):Int))=false:=by simp;omega
 have hcm2:¬cap=m:=by omega
 have wM:i+1<=m+1:=by omega
 have hmc:i+1<=cap:=by omega
 have hic:i<=cap:=by omega
 have h0i:(0:Int)<=(i:Int)+1:=by omega
 clear had;go_enter Tryz.func294,Tryz.ntmps294;go_wp2_with fail;have Hb:=hbz w;refine fx (λw'=>True) (λi=>Nat.blt i 100000) [(0,true),(1,true),(2,true),(3,true),(4,true),(5,true),(6,false),(7,true)] zk zk rfl zk zc True.intro ?_;iterate 6 (refine pT rfl rfl ?_;try simp only[UU])
 refine aO rfl rfl (λK hK=>?_);refine wp_append_own_spare _ _ _ 29 rfl base 45 i0 3 Tryz.underlying29 Hi.out bV.out g i cap (cs.take (i*3)) rfl Fj.out ad (m-i) (cap-(i+1)) (cs.drop ((i+1) *3)) rfl zV.out aiX.out Hn1.out zo ?_;intro w1 cX hg1;refine hK _ _ (λ_=>True.intro) ?_;try simp only[UU]
 refine pT rfl rfl ?_;try simp only[Act.put,U1,U2]
 simp only[bH];have e9:i+(m-i)=m:=by omega
 rw[e9,<-aic.out]at cX;obtain⟨w2,hcl,fH,hg2⟩:=afm w1 29 45 _ 3 Tryz.underlying29 Tryz.aAg rfl (by intro v hv;simp[Value.cells]at hv;rcases hv with rfl|rfl|rfl<;>rfl) g m 1 cap (cap-m) base rs cX zo;have pK:=aj fH;have Hg2:Hid (w.grownBy w2 (some g)):=grownBy_trans ⟨hg1.os,hg1.tape,hg1.output,hg1.size,hg1.block⟩ hg2;clear cX hg1 fH hg2 Fj hsl;go_wp2;go_ret;exact⟨rfl,pK.out,Hg2.out⟩
def anD (l:List Dyadic)(c:Nat):(l.map canon).eraseIdx c=(l.eraseIdx c).map canon:=by apply List.ext_getElem?;intro i;rw[List.getElem?_eraseIdx,List.getElem?_map,List.getElem?_map,List.getElem?_map,List.getElem?_eraseIdx];split<;>rfl
def awu (a:Option Addr)(cap m r c:Nat)(R:List (List Dyadic))(w:World)(hL:R.length=m+1)(hrow:∀x∈R,x.length=m+1)(hr:r<=m)(hc:c<=m)(hm:m<=7)(ha:Tbl w a (R.map λx=>x.map canon)):
 Cl 272 #[.slice a (m+1) cap,af (r:Int),af (c:Int)] w λe w'=>∃a' c',e=.returned (.slice a' m c')/\m<=c'/\Tbl w' a' ((lw R r c).map λx=>x.map canon)/\Bw w w':=by
 obtain⟨j0,hj,hy0,hy1,hy2⟩:=info_parts Tryz.az7;obtain⟨S,hS⟩:=au (lw R r c);have pV:=aez R r c m hL hr;have uU:=aeA R r c m hrow hc;have RZ:=aey R r c m hL hr;rw[hS]at pV uU RZ⊢;have yF:∀(W:World) (k:Nat) (hk:k<m+1),Bw w W->∃b o a1 c1,∃x:List Dyadic,R.getD k []=x/\x.length=m+1/\a=some ⟨b,o,none⟩/\W.cell? ⟨b,o+k,none⟩=some (.slice (some a1) (m+1) c1)/\At W (some a1) ((x.map canon).flatMap aV):=by
  intro W k hk hb;have Dw:k<R.length:=by omega
  obtain⟨b,o,a1,c1,h1,h2,h3⟩:=(ha.below hb).row k (by simp[hL];omega);have e1:(R.map λx=>x.map canon)[k]'(by simp[hL];omega)=R[k].map canon:=by simp
  have hxl:=hrow _ (List.getElem_mem Dw);rw[e1]at h2 h3;rw[List.length_map,hxl]at h2;cases a1 with
  | none=>
    rcases h3 with h3|⟨_,_,h3,_⟩
    . have:=congrArg List.length h3;rw[iD aV 3 (λ_=>rfl),List.length_map,hxl]at this;simp at this
    . cases h3
  |some a1=>exact⟨b,o,a1,c1,R[k],by simp[List.getD_eq_getElem?_getD,Dw],hxl,h1,h2,h3⟩
 obtain⟨Hj,kR,jF,kU,HSl,HSr,ag8,PO⟩:=nk hj hy0 hy1 hy2 pV uU RZ yF;clear hj hy0 hy1 hy2 pV uU RZ yF hS ha hL hrow;have Hb:=hbz w;go_enter Tryz.func272,Tryz.ntmps272;go_wp2_with fail;go_loopw[7,12] (λs7 x wr=>∃(k:Nat) (v:Value),k<=m+1/\x=af (k:Int)/\v=s7/\Own2 29 wr w.heap.size S (if k<=r then k else k-1) v/\Bw w wr) (λ_ x _=>m+1-(intOf x).toNat);case atStart=>exact⟨0,_,Nat.zero_le _,rfl,rfl,by rw[if_pos (Nat.zero_le _)];exact Own2.nil _ _ _ _,Hb.out⟩
 case round=>
  clear Hb;obtain⟨k,v,hk,rfl,rfl,pv,pb⟩:=hrel;by_cases hlt:k<m+1
  . obtain⟨b,o,a1,c1,x,ky,hxl,rfl,hc1,hat⟩:=PO.out wr k hlt pb;have aX:=Bo (m+1) cap k (k:Int) (rfl:(some ⟨b,o,none⟩:Option Addr)=_) hlt rfl;rw[Nat.mul_one]at aX;by_cases hkr:k=r
    . subst hkr;obtain⟨ij,aP⟩:=aH pv pb;clear pv pb ky hxl hat;have h3:((k:Int) !=(k:Int))=false:=by simp
      go_wp2;go_roundw;case rel=>exact⟨k+1,v,by omega,by go_num,rfl,by have h:=ij.out;rw[if_pos (Nat.le_refl _)]at h;rw[if_neg zo];exact h,aP.out⟩
      case measure=>exact bi
    . have h3:((k:Int) !=(r:Int))=true:=by simp;omega
      have h4:¬(k:Int)=(r:Int):=by omega
      obtain⟨j,hj⟩:=au (if k<=r then k else k-1);have og:(if k+1<=r then k+1 else k+1-1)=j+1:=by rw[<-hj];split<;>split<;>omega
      have hjm:j<m:=by rw[<-hj];split<;>omega
      have GY:(if j<r then j else j+1)=k:=by rw[<-hj];split<;>split<;>omega
      have pU:S.getD j []=x.eraseIdx c:=by rw[ag8.out j hjm,GY,ky]
      rw[hj]at pv;obtain⟨Z,hZ⟩:=au (x.eraseIdx c);have GF:Z.length=m:=by rw[<-hZ,List.length_eraseIdx_of_lt zo];omega
      rw[hZ]at pU
      -- the row,without its number
      have mV:∀W,Bw wr W->Cl 295 #[.slice (some a1) (m+1) c1] W λe w'=>∃g cc,e=.returned (.slice (some ⟨g,0,none⟩) (m+1) cc)/\(wr.heap.size<=g/\∀W',Bw wr W'->w'=W'->Cl 294 #[.slice (some ⟨g,0,none⟩) (m+1) cc,af (c:Int),af ((c:Int)+1)] W' λe w''=>e=.returned (.slice (some ⟨g,0,none⟩) m cc)/\w''.ownsRow wr.heap.size 45 3 (.slice (some ⟨g,0,none⟩) m cc) m (dC Z)/\Bw wr w'')/\Bw W w':=by intro W hW;refine(al8 (some a1) (m+1) c1 (x.map canon) W (by rw[List.length_map,hxl]) zo (λe=>by cases e) (hat.below hW)).mono ?_;rintro e w' ⟨v',rfl,ho,hb⟩;obtain⟨g,cc,rfl,hg1,hg2,hg3⟩:=ui ho zo;have hsz:=hW.size;refine⟨g,cc,rfl,⟨by omega,λW' hW' e=>?_⟩,hb⟩;subst e;have hd:=amK g m cc c wr.heap.size (x.map canon) w' (by rw[List.length_map,hxl]) zo hc (rS ho zo);rw[show((c+1:Nat):Int)=(c:Int)+1 by omega]at hd;refine hd.mono ?_;rintro e w'' ⟨rfl,fH,hg⟩;rw[anD,hZ,<-yc]at fH;exact⟨rfl,fH,hW'.grown hg hW'.size (λi e=>by have h9:g=i:=Option.some.inj e;omega)⟩
      obtain⟨Ch,WM,xE,ij,aP,Hj1⟩:=fZ mV pU GF pv pb og;clear mV pU GF hZ pv pb og GY hj ky hxl hat;have ic:=aP.out.size;have hwc:IntKind.i64.wrap ((c:Int)+1)=((c+1:Nat):Int):=by rw[IntKind.wrap_i64];omega
      have AH:(c:Int)+1=((c+1:Nat):Int):=by omega
      obtain⟨Qc,JZ⟩:=aH hwc AH;clear hwc AH;go_wp2_with fail;refine(Ch.out _ (Below.refl _ _)).mono ?_;rintro e w4 ⟨g,cc,rfl,⟨hg1,hdel⟩,hb4⟩;have Xi:=aj (hdel w4 hb4 rfl);clear hdel hc1 aX;go_wp2_with fail;refine Xi.out.mono ?_;rintro e w5 ⟨rfl,pg,dv⟩;have jg:=pg.lt;obtain⟨a2,c2,he2,rG,_⟩:=cw pg;simp only[Value.slice.injEq,true_and]at he2;obtain⟨rfl,rfl⟩:=he2;obtain⟨vals,hvl,hov,om⟩:=ij.out.below dv;obtain⟨_,_,yD,_⟩:=ij.out;have hvs:=yD.lt;have hin:∀b o,(some ⟨g,0,none⟩:Option Addr)=some ⟨b,o,none⟩->some b≠v.ownBlock/\b<w5.heap.size:=by intro b o e;simp only[Option.some.injEq,Addr.mk.injEq,and_true]at e;obtain⟨rfl,rfl⟩:=e;have h1:=jg g rfl;refine⟨λh2=>?_,h1.2⟩;have h3:=hvs g h2.symm;omega
      obtain⟨mL,EL,sM,vT,cV,eu⟩:=fZ hin rG hvl om hov (aF aP.out dv);have VE:=dv.size;clear hin rG hvl om hov yD hvs jg pg dv hb4 Xi Ch hg1;have Hb:=hbz w5;obtain⟨W6,pW,aG,ae,ai⟩:=bO w5 (Hb.an trivial) 29 [.slice (some ⟨g,0,none⟩) m cc];have cf:=ownsRow_below cV.out ae.2.1.out;have jS:=ae.2.1.out.size;have hnews:∀i u,([.slice (some ⟨g,0,none⟩) m cc]:List Value)[i]?=some u->W6.cell? ((⟨w5.heap.size,0,none⟩:Addr).add i)=some u:=fM ae.1.out;skip
      go_wp2_with (at_builtin;refine wpList_append_own_at _ rfl _ _ 153 rfl w.heap.size 29 j0 _ 1 24 Tryz.underlying153 Hj.out kR.out jF.out kU.out rfl zd v j vals rfl cf ⟨w5.heap.size,0,none⟩ 1 1 [.slice (some ⟨g,0,none⟩) m cc] rfl rfl hnews zy zx zo zo ?_;intro v' w7 dA eo _ fD;obtain⟨g',oL,rfl⟩:=ownsRow_succ dA);go_roundw;case rel=>
       refine⟨k+1,_,by omega,by go_num,rfl,?_,?_⟩
       . rw[Hj1.out];refine Own2.push (a:=some ⟨g,0,none⟩) (c:=cc) sM.out (w:=W6) ?_ ?_ ?_ ?_ eo fD
         . intro i h;obtain⟨a,c,h1,h2,h3⟩:=vT.out i h;exact⟨a,c,h1,h2.below ae.2.1.out,λb o e=>⟨(h3 b o e).1,Nat.lt_of_lt_of_le (h3 b o e).2 jS⟩⟩
         . rw[WM.out];exact EL.out.below ae.2.1.out
         . exact λb o e=>⟨(mL.out b o e).1,Nat.lt_of_lt_of_le (mL.out b o e).2 jS⟩
         . rw[WM.out,xE.out];exact dA
       . exact(aF eu.out ae.2.1.out).grown eo zo (λj e=>cE cf j e)
      case measure=>exact bi
  . obtain rfl:k=m+1:=by omega
    rw[if_neg zo,Nat.add_sub_cancel]at pv;obtain⟨a2,c2,rfl,hcl,pk⟩:=Own2.aAf pv HSl.out;obtain⟨Cy,aP⟩:=aH pk pb;clear pv pb pk;go_wp2;refine bodyPost_ret (results_tmp rfl _ _ _) rfl ⟨a2,c2,rfl,hcl,Cy.out,aP.out⟩
def akK (a:Option Addr)(c:Nat)(w:World):Cv 201 #[.slice a 0 c] w (cS 1):=by
 have Hb:=hbz w;go_enter Tryz.func201,Tryz.ntmps201;go_wp2_with fail;refine cF w (Hb.an trivial) 43 [ag false,.string ⟨#[]⟩] λW aG ae ai=>?_;go_wp2_with fail;refine aK ae (VO 1 _ zd zd) λw1 ae ai=>?_;obtain⟨W2,ke,aG,ae,ai⟩:=bO w1 ae 43 [ag (az 1),ah (nt 1)];go_wp2_with fail;go_loop [5,15] (λt x=>t=ag false/\x=af 0) (λ_ _=>0)
 case atStart=>exact⟨rfl,rfl⟩
 case round=>obtain⟨rfl,rfl⟩:=hrel;go_wp2;refine dI (aN W2 (w.heap.size) 0 [ag (az 1),ah (nt 1)]) aR ?_;intro w9 hs0;have ae:=bC hs0 ae;simp only[bD,List.set]at ae;have ai:=qC ae;refine bodyPost_ret (v:=cS 1) (by simp[results,Tryz.results201,go_sem,ai]) rfl ⟨rfl,ae.2.2.1.out⟩
def amR (a:Option Addr)(cap:Nat)(w:World)(ha:Tbl w a [])(hT:aB w):Cv 116 #[.slice a 0 cap] w (.tuple #[bT 1,af 0]):=by obtain⟨O,hO⟩:∃O:Dyadic,(1:Dyadic)=O:=⟨_,rfl⟩;have hch:=λW=>λ(h:Tbl W a [])=>Uo a 0 cap [] W rfl zo h;rw[show xg []=0 from rfl]at hch;have hsc:=λW=>λ(h:Tbl W a []) (hT:aB W)=>aft a 0 cap 0 [] 1 0 W rfl zo zo (λr hr=>by cases hr) h (λr hr=>by cases hr) zo hT rfl;have hmk:=λW=>λ(hT:aB W)=>yP (az 1) (nt (1:Int).natAbs) 0 O (by rw[<-hO];rfl) W zd zd hT;rw[hO];obtain⟨Ot,lO,oJ,Ha,HT⟩:=eD hch hsc hmk ha hT;clear hch hsc hmk ha hT hO;have Hb:=hbz w;go_enter Tryz.func116,Tryz.ntmps116;go_wp2_with fail;refine cF w (Hb.an trivial) 45 [ag false,.string ⟨#[]⟩,af 0] λW aG ae ai=>?_;have HA:Hid (Tbl W a []):=Ha.out.below ae.2.1.out;have HU:Hid (aB W):=HT.out.below ae.2.1.out;go_wp2_with fail;refine aK (HA.an<|HU.an ae) (Ot.out _ HA.out) λw1 ae ai=>?_;go_wp2_with fail;refine(lO.out _ ae.1.out ae.2.1.out).mono ?_;rintro e w2 ⟨v,rfl,hO,ak⟩;obtain⟨ae,ai⟩:=qX ak ae;obtain⟨vals,_,ho,_⟩:=hO;obtain⟨a2,c2,rfl,_,_⟩:=cw ho;clear ho;go_wp2_with fail;refine aK ae (akK a2 c2 _) λw3 ae ai=>?_;go_wp2_with fail;refine aK ae (oJ.out _ ae.2.1.out) λw4 ae ai=>?_;go_wp2;refine dI (aN w4 (w.heap.size) 0 (bE O)) aR ?_;intro w9 hs0;have ae:=bC hs0 ae;simp only[bD,List.set]at ae;have ai:=qC ae;refine bodyPost_ret (v:=.tuple #[bT O,af 0]) (by simp[results,Tryz.results116,go_sem,ai]) rfl ⟨rfl,ae.2.2.2.1.out⟩
def YV (R:List (List Dyadic)):((R.map λr=>r.map canon).map λr=>r.map dval)=R:=by
 rw[List.map_map];have:((λr:List Raw=>r.map dval)∘λr:List Dyadic=>r.map canon)=id:=by
  funext r
  show(r.map canon).map dval=r
  rw[List.map_map];have:(dval∘canon)=id:=funext bu;rw[this];simp
 rw[this];simp
def arZ (a':Option Addr)(c' m r c:Nat)(R:List (List Dyadic))(B:Nat)(w:World)(hL:R.length=m+1)(hrow:∀x∈R,x.length=m+1)(hr:r<=m)(hc:c<=m)(hm:m<=4)(hsm:∀x∈R,∀d∈x,Sm B d)(bQ:1<=B)(hB:B<=1000000)(ht:Tbl w a' ((lw R r c).map λx=>x.map canon))(hT:aB w):
 Cv 116 #[.slice a' m c'] w (.tuple #[bT (dJ m (mE (cm R) r c)),af 0]):=by
 have hl:=aez R r c m hL hr;by_cases h0:m=0
 . subst h0;have e:lw R r c=[]:=List.eq_nil_of_length_eq_zero hl;rw[e]at ht;exact amR a' c' w ht hT
 . refine QU a' c' m ((lw R r c).map λx=>x.map canon) B (lw R r c) _ w zo hm (by rw[List.length_map,hl]) (λx hx=>?_) ht (λx hx y hy=>?_) bQ hB hT (YV _) (arW R r c m hL hrow hr hc hm)
   . obtain⟨z,hz,rfl⟩:=List.mem_map.1 hx;rw[List.length_map];exact aeA R r c m hrow hc z hz
   . obtain⟨z,hz,rfl⟩:=List.mem_map.1 hx;obtain⟨d,hd,rfl⟩:=List.mem_map.1 hy;exact(arY hsm r c z hz d hd).fit zo
def ak2 (s:Nat)(h:s<=8):bits BinOp.and IntKind.i64 (s:Int) 1=((s%2:Nat):Int):=by
 have hc:s=0\/s=1\/s=2\/s=3\/s=4\/s=5\/s=6\/s=7\/s=8:=by omega
 rcases hc with rfl|rfl|rfl|rfl|rfl|rfl|rfl|rfl|rfl<;>rfl
def akv (a:Option Addr)(cap m:Nat)(R:List (List Dyadic))(B:Nat)(w:World)(hm:m+1<=4)(hL:R.length=m+1)(hrow:∀x∈R,x.length=m+1)(hsm:∀x∈R,∀d∈x,Sm B d)(bQ:1<=B)(hB:B<=1000000)(ha:Tbl w a (R.map λx=>x.map canon))(hT:aB w):
 Cl 228 #[.slice a (m+1) cap] w λe w'=>∃v,e=.returned (.tuple #[v,af 0])/\fW w' w.heap.size (m+1) (sN (m+1) (cm R)) (m+1) v/\Bw w w':=by
 obtain⟨i0,hi,hz0,hz1,hz2⟩:=info_parts Tryz.azX;obtain⟨j0,hj,hy0,hy1,hy2⟩:=info_parts Tryz.az7;have cN:=λW (hW:Bw w W)=>Uo a (m+1) cap (R.map λx=>x.map canon) W (by rw[List.length_map,hL]) zo (ha.below hW);have hm0:xg (R.map λx=>x.map canon)=0:=by
  unfold xg;rw[if_neg];rintro(h|h)
  . rw[List.length_map]at h;omega
  . rw[List.any_eq_true]at h;obtain⟨r,hr,h⟩:=h;obtain⟨z,hz,rfl⟩:=List.mem_map.1 hr;have:=hrow z hz;simp at h;omega
 rw[hm0]at cN;have hwo:=λr c (hr:r<=m) (hc:c<=m) W (hW:Bw w W)=>awu a cap m r c R W hL hrow hr hc zo (ha.below hW);have oW:=λr c (hr:r<=m) (hc:c<=m) W (hW:Bw w W) a' c' (ht:Tbl W a' ((lw R r c).map λx=>x.map canon))=>arZ a' c' m r c R B W hL hrow hr hc zo hsm bQ hB ht (hT.below hW);have hds:∀r c,r<=m->c<=m->Sm (4*B+6) (dJ m (mE (cm R) r c)):=by
  intro r c hr hc;refine Ll zo (λi j hi hj=>?_);have hk:(if i<r then i else i+1)<R.length:=by split<;>omega
  have hl:=hrow _ (List.getElem_mem hk);have hk2:(if j<c then j else j+1)<R[if i<r then i else i+1].length:=by rw[hl];split<;>omega
  have e:mE (cm R) r c i j=R[if i<r then i else i+1][if j<c then j else j+1]:=by
   show(R.getD (if i<r then i else i+1) []).getD (if j<c then j else j+1) 0=_
   rw[List.getD_eq_getElem?_getD (l:=R),List.getElem?_eq_getElem hk,Option.getD_some,List.getD_eq_getElem?_getD,List.getElem?_eq_getElem hk2];rfl
  rw[e];exact hsm _ (List.getElem_mem hk) _ (List.getElem_mem hk2)
 obtain⟨f,hf⟩:=au (cm R);rw[hf]at oW hds⊢;have Ru:=λi (h:i<m+1)=>YJ (m+1) f i h;obtain⟨A,hA⟩:=au (sN (m+1) f);rw[hA]at Ru⊢;obtain⟨Hi,cu,bV,bX,Hj,kR,jF,kU,fQ,cn,ER,Hds⟩:=gL hi hz0 hz1 hz2 hj hy0 hy1 hy2 cN hwo oW hds;obtain⟨HT,ags⟩:=aH hT Ru;clear hi hz0 hz1 hz2 hj hy0 hy1 hy2 cN hwo oW hds hT Ru hA hf hm0 ha hsm hrow hL;have Hb:=hbz w;go_enter Tryz.func228,Tryz.ntmps228;go_wp2_with fail;refine aK (Hb.an trivial) (fQ.out _ Hb.out) λw1 ae ai=>?_;go_wp2_with fail;go_loopw[5,18] (λs5 x wr=>∃(k:Nat) (v:Value),k<=m+1/\x=af (k:Int)/\v=s5/\fW wr w.heap.size (m+1) A k v/\Bw w wr) (λ_ x _=>m+1-(intOf x).toNat);case atStart=>exact⟨0,_,Nat.zero_le _,rfl,rfl,fW.nil _ _ _ _,ae.1.out⟩
 case round=>
  skip
  obtain⟨k,v,hk,rfl,rfl,pv,pb⟩:=hrel;obtain⟨ij,aP⟩:=aH pv pb;clear pv pb;by_cases hlt:k<m+1
  . obtain⟨Z,hZ⟩:=au ((List.range (m+1)).map λb=>lU (m+1) f k b);have Ce:Hid (A.getD k []=Z):=by show _=_;rw[ags.out k hlt,hZ]
    have xE:Hid (Z.length=m+1):=by show _=_;rw[<-hZ];simp
    have HZa:Hid (∀j (h:j<m+1),Z.take (j+1)=Z.take j++[lU (m+1) f k j]):=by intro j h;rw[List.take_succ_eq_append_getElem (by rw[xE.out];exact h)];congr 2;simp[<-hZ]
    clear hZ;obtain⟨wq,hwc⟩:∃wq,wq=wr:=⟨_,rfl⟩;subst hwc;have ic:=aP.out.size;have wL:decide ((k:Int)<(m:Int)+1)=true:=by simp;omega
    go_wp2_with fail;clear wL;go_loopw[7,23] (λs7 x wr=>∃(j:Nat) (v2:Value),j<=m+1/\x=af (j:Int)/\v2=s7/\wr.ownsRow wq.heap.size 45 3 v2 j (dC (Z.take j))/\Bw wq wr) (λ_ x _=>m+1-(intOf x).toNat);case atStart=>exact⟨0,_,Nat.zero_le _,rfl,rfl,World.ownsRow_nil _ _ _ _,Below.refl _ _⟩
    case round=>
     obtain⟨j,v2,hj,rfl,rfl,ho,hb2⟩:=hrel;obtain⟨Ho,bW⟩:=aH ho hb2;have szb:=hb2.size;clear ho hb2;by_cases bB:j<m+1
     . obtain⟨X,hX⟩:=au (dJ m (mE f j k));obtain⟨Y,hY⟩:=au (lU (m+1) f k j);have hYX:Y=if(k+j)%2=1 then-X else X:=by rw[<-hY,<-hX];rfl
       have eY:=Hds.out j k zo zo;rw[hX]at eY;have hst:dC (Z.take (j+1))=dC (Z.take j)++(bE Y):=by rw[HZa.out j bB,hY,CU];rfl
       have dM:=aF aP.out bW.out;have hd:=λW hW a' c' ht=>ER.out j k zo zo W hW a' c' ht;rw[hX]at hd;obtain⟨Hd,bN,Od⟩:=bM hd hst hYX;have WS:Hid (Ok (canon X)):=eY.ok zo;have jC:=aj dM;clear hd hst hYX hX hY eY dM;have Hb:=hbz wr;go_wp2_with fail;refine(cn.out j k zo zo _ jC.out).mono ?_;rintro e w3 ⟨a3,c3,rfl,hc3,pj,ak⟩;obtain⟨ae,ai⟩:=qX ak (Hb.an trivial);have Kw:=aj pj;clear pj;go_wp2_with fail;refine aK ae (Hd.out _ (aF jC.out ae.1.out) a3 c3 Kw.out) λw4 ae ai=>?_;clear Kw;have sz4:=ae.1.out.size;obtain⟨W5,wB,aG,ae,ai⟩:=bO w4 ae 45 (bE X);have Dl:=ak2 (k+j) zo;rw[Int.natCast_add]at Dl;go_upto_if 38 with fail
       go_cut[7] (λs7 wx=>s7=v2/\ar wx w4.heap.size 45 (bE Y)/\Bw wr wx);case first=>
        by_cases hp:(k+j)%2=1
        . have h9:(bits BinOp.and IntKind.i64 ((k:Int)+(j:Int)) 1==1)=true:=by rw[Dl,hp];rfl
          have hY: -dval (canon X)=Y:=by rw[bu,Od.out,if_pos hp]
          have HY:=aj hY;clear hY Dl;go_wp2_with fail;refine aK ae (Li _ _ _ Y HY.out _ WS.out (HT.out.below (aF jC.out ae.2.1.out))) λw6 ae ai=>?_;go_wp2_with fail;go_meet;exact⟨rfl,((ae.1.out.set 0 _).set 1 _).set 2 _,((ae.2.1.out.setCell zp _).setCell zp _).setCell zp _⟩
        . have h9:(bits BinOp.and IntKind.i64 ((k:Int)+(j:Int)) 1==1)=false:=by rw[Dl,show(k+j)%2=0 by omega];rfl
          have hY:Y=X:=by rw[Od.out,if_neg hp]
          subst hY;clear Dl;go_wp2_with fail;go_meet;exact⟨rfl,ae.1.out,ae.2.1.out⟩
       case rest=>
        obtain⟨rfl,hx,hb⟩:=hcut;clear Dl;have Hx:Hid (ar wc w4.heap.size 45 (bE Y)):=hx;have sw:=aj (aF bW.out hb);have hov:=ownsRow_below Ho.out hb;have cV:=aj hov;have szc:=hb.size;clear hx hb hov Ho Hd Od WS jC bW;have Hb:=hbz wc;obtain⟨ae,ai⟩:=qZ (Hx.an trivial);have x0:wc.cell? ⟨w4.heap.size,0,none⟩=some (ag (az (dN Y))):=ae.1.out.cell 0;have x1:wc.cell? ⟨w4.heap.size,1,none⟩=some (ah (nt (dN Y).natAbs)):=ae.1.out.cell 1;have x2:wc.cell? ⟨w4.heap.size,2,none⟩=some (af (dE Y)):=ae.1.out.cell 2;have P0:=x0;have P1:=x1;have P2:=x2;obtain⟨W6,pW,aG,ae,ai⟩:=bO wc (Hb.an ae) 45 (bE Y);have cf:=ownsRow_below cV.out ae.2.1.out;have jS:=ae.2.1.out.size;go_wp2_with (at_builtin;refine wpList_append_own_at _ rfl _ _ 29 rfl wq.heap.size 45 i0 _ 3 32 Tryz.underlying29 Hi.out cu.out bV.out bX.out rfl zd _ j (dC (Z.take j)) rfl cf ⟨wc.heap.size,0,none⟩ 1 1 (bE Y) rfl rfl (fM ae.1.out) zy zx zo zo ?_;intro v' w7 dA eo _ fD;obtain⟨g',oL,rfl⟩:=ownsRow_succ dA);go_roundw;case rel=>exact⟨j+1,_,by omega,by go_num,rfl,by rw[bN.out];exact dA,(aF sw.out ae.2.1.out).grown eo zo (λj e=>cE cf j e)⟩
        case measure=>exact bi
     . obtain rfl:j=m+1:=by omega
       have oQ:Z.take (m+1)=Z:=List.take_of_length_le (by rw[xE.out];exact Nat.le_refl _);rw[oQ]at Ho;have jg:=Ho.out.lt;obtain⟨a2,cap2,rfl,_,_⟩:=cw Ho.out;obtain⟨vals,hvl,yD,TJ,IP⟩:=ij.out;have hov:=ownsRow_below yD bW.out;have om:=λi h=>ownsRow_below (TJ i h) bW.out;have iH:∀g,(Value.slice a2 (m+1) cap2).ownBlock=some g->∀i (h:i<vals.length),vals[i].ownBlock≠some g:=λg e i h e2=>by have h1:=(jg g e).1;have h2:=((TJ i h).lt g e2).2;omega
       have hx:=rS Ho.out ic;obtain⟨sM,vT,cV,PY,OP,Hxx⟩:=fZ hvl om hov IP iH hx;clear hvl om hov yD TJ IP iH hx jg oQ;have Hb:=hbz wr;obtain⟨W6,pW,aG,ae,ai⟩:=bO wr (Hb.an trivial) 29 [.slice a2 (m+1) cap2];have cf:=ownsRow_below cV.out ae.2.1.out;have jS:=ae.2.1.out.size;go_wp2_with (at_builtin;refine wpList_append_own_at _ rfl _ _ 153 rfl w.heap.size 29 j0 _ 1 24 Tryz.underlying153 Hj.out kR.out jF.out kU.out rfl zd v k vals rfl cf ⟨wr.heap.size,0,none⟩ 1 1 [.slice a2 (m+1) cap2] rfl rfl (fM ae.1.out) zy zx zo zo ?_;intro v' w7 dA eo _ fD;obtain⟨g',oL,rfl⟩:=ownsRow_succ dA);go_roundw;case rel=>refine⟨k+1,_,by omega,by go_num,rfl,fW.push sM.out cf (λi h=>ownsRow_below (vT.out i h) ae.2.1.out) PY.out (by rw[Ce.out];exact ownsRow_below Hxx.out ae.2.1.out) OP.out dA eo,?_⟩;exact(aF (aF aP.out bW.out) ae.2.1.out).grown eo zo (λj e=>cE cf j e)
       case measure=>exact bi
  . obtain rfl:k=m+1:=by omega
    go_wp2;exact bodyPost_ret (v:=.tuple #[v,af 0]) (by simp[results,Tryz.results228,go_sem]) rfl ⟨v,rfl,ij.out,aP.out⟩
end Go.Proofs.YtpfgffadgkkedaaGreatDoor
namespace Go.Proofs.YtpfgffadgkkedaaGreatDoor
def rz (n:Nat)(p:Nat->Nat->Dyadic):List (List Dyadic):=(List.range n).map λa=>(List.range n).map λb=>js n p a b
def KS (n:Nat)(p:Nat->Nat->Dyadic):(rz n p).length=n:=by simp[rz]
def KU (n:Nat)(p:Nat->Nat->Dyadic):∀r∈rz n p,r.length=n:=by intro r hr;unfold rz at hr;obtain⟨x,_,rfl⟩:=List.mem_map.1 hr;simp
def Qz (n:Nat)(p:Nat->Nat->Dyadic)(a b:Nat)(ha:a<n)(hb:b<n):cm (rz n p) a b=js n p a b:=by unfold cm rz;simp[List.getD_eq_getElem?_getD,ha,hb]
def avD {n:Nat}{R S:List (List Dyadic)}(h1:R.length=n)(h2:∀r∈R,r.length=n)(h3:S.length=n)(h4:∀r∈S,r.length=n)(h:∀a b,a<n->b<n->cm R a b=cm S a b):R=S:=by apply List.ext_getElem zo;intro i hi hj;have l1:=h2 _ (List.getElem_mem hi);have l2:=h4 _ (List.getElem_mem hj);apply List.ext_getElem zo;intro j k1 k2;have:=h i j zo zo;unfold cm at this;simpa[List.getD_eq_getElem?_getD,hi,hj,k1,k2]using this
def akr (n:Nat)(aS:n<=4){e f:Nat->Nat->Dyadic}(h:∀i j,i<n->j<n->e i j=f i j)(a b:Nat)(ha:a<n)(hb:b<n):lU n e a b=lU n f a b:=by
 have:dJ (n-1) (mE e b a)=dJ (n-1) (mE f b a):=Ga (n-1) zo (λi j hi hj=>by
  unfold mE
  exact h _ _ (by split<;>omega) (by split<;>omega))
 unfold lU;rw[this]
def anA {n:Nat}{R:List (List Dyadic)}(h1:R.length=n)(h2:∀r∈R,r.length=n)(i j:Nat)(hi:i<n)(hj:j<n)(y:Dyadic)(a b:Nat)(ha:a<n)(hb:b<n):cm (R.set i ((R.getD i []).set j y)) a b=if a=i/\b=j then y else cm R a b:=by
 unfold cm;by_cases e:a=i
 . subst e;rw[List.getD_eq_getElem?_getD (l:=R.set _ _),List.getElem?_set_self zo,Option.getD_some];have hl:(R.getD a []).length=n:=by
    have e:R.getD a []=R[a]'zo:=by rw[List.getD_eq_getElem?_getD,List.getElem?_eq_getElem zo];rfl
    rw[e];exact h2 _ (List.getElem_mem _)
   by_cases e2:b=j
   . subst e2;rw[if_pos ⟨rfl,rfl⟩,List.getD_eq_getElem?_getD,List.getElem?_set_self zo];rfl
   . rw[if_neg (λh=>e2 h.2),List.getD_eq_getElem?_getD,List.getElem?_set_ne (λh=>e2 h.symm),<-List.getD_eq_getElem?_getD]
 . rw[if_neg (λh=>e h.1),List.getD_eq_getElem?_getD (l:=R.set _ _),List.getElem?_set_ne (λh=>e h.symm),<-List.getD_eq_getElem?_getD]
def auR {n:Nat}{R:List (List Dyadic)}(h1:R.length=n)(h2:∀r∈R,r.length=n)(i j:Nat)(hi:i<n)(y:Dyadic):(R.set i ((R.getD i []).set j y)).length=n/\∀r∈R.set i ((R.getD i []).set j y),r.length=n:=by
 refine⟨by rw[List.length_set];exact h1,λr hr=>?_⟩;rcases List.mem_or_eq_of_mem_set hr with h|h
 . exact h2 r h
 . rw[h,List.length_set];have e:R.getD i []=R[i]'zo:=by rw[List.getD_eq_getElem?_getD,List.getElem?_eq_getElem zo];rfl
   rw[e];exact h2 _ (List.getElem_mem _)
def auS (X:Dyadic):(if bg X<0 then-X else X)=lD X*X:=by
 rw[afw];by_cases h:X<0
 . rw[if_pos h,if_pos ((pQ X).2 h)]
 . rw[if_neg h,if_neg (λh2=>h ((pQ X).1 h2))]
def jZ (k j a b:Nat):Prop:=a<k\/a=k/\b<j
instance (k j a b:Nat):Decidable (jZ k j a b):=inferInstanceAs (Decidable (_\/_))
end Go.Proofs.YtpfgffadgkkedaaGreatDoor
namespace Go.Proofs.YtpfgffadgkkedaaGreatDoor
open Go.RowKit
attribute [local go_sem ↓] Go.wp_at_zero Go.wp_at_succ
def Yw (w:World)(n:Nat)(p:Nat->Nat->Dyadic)(e:Ending)(w':World):Prop:=
 ∃a' c',e=.returned (.tuple #[bT (lD (bL n p) *bL n p),.slice a' n c',af 0])/\n<=c'/\Tbl w' a' ((rz n p).map λr=>r.map canon)/\Bw w w'
def fW.blk {w:World}{base n L go cap:Nat}{R:List (List Dyadic)}(h:fW w base n R L (.slice (some ⟨go,0,none⟩) L cap))(i:Nat)(hi:i<L)(hn:0<n):base<=go/\∃g c,w.cell? ⟨go,i,none⟩=some (.slice (some ⟨g,0,none⟩) n c)/\base<=g/\g<w.heap.size/\g≠go:=by
 obtain⟨vals,hl,ho,hv,hd⟩:=h;have hi2:i<vals.length:=by omega
 have hrow:=hv i hi2;obtain⟨g,c,e1,hg1,hg2,_⟩:=ui hrow hn;have fD:=vr ho;have hc:=mH ho i zo;rw[e1]at hc;refine⟨fD.1,g,c,hc,hg1,hg2,?_⟩;rintro rfl;rw[e1]at hrow;rcases hrow.2 with⟨h1,_⟩ |⟨g',c',cur,h1,_,h2,_⟩
 . simp at h1
 . simp only[Value.slice.injEq,Option.some.injEq,Addr.mk.injEq,and_true,true_and]at h1;obtain⟨rfl,rfl⟩:=h1;rcases ho.2 with⟨h3,_⟩ |⟨g2,c2,QQ,h3,_,h4,_⟩
   . simp at h3
   . simp only[Value.slice.injEq,Option.some.injEq,Addr.mk.injEq,and_true,true_and]at h3;obtain⟨rfl,rfl⟩:=h3;rw[h2]at h4;simp at h4
def fW.az9 {w:World}{base n k:Nat}{R:List (List Dyadic)}{v:Value}(h:fW w base n R k v){p:Addr}(hp:p.block<base)(x:Value):fW (w.setCell p x) base n R k v:=by
 obtain⟨vals,hl,ho,hi,hd⟩:=h;have hne:∀{u:Value} {e:TypeId} {sz m:Nat} {xs:List Value},w.ownsRow base e sz u m xs->u.ownBlock≠some p.block:=λh e=>by have:=(h.lt _ e).1;omega
 exact⟨vals,hl,ownsRow_setCell_other ho (hne ho) _,λi h=>ownsRow_setCell_other (hi i h) (hne (hi i h)) _,hd⟩
def adW (a:Option Addr)(cap m:Nat)(rows:List (List Raw))(B:Nat)(w:World)(hm:m+1<=4)(hr:Rw (m+1) B rows)(hcap:m+1+1<=cap)(ha:Tbl w a rows)(hB:B<=200000)(hT:aB w)(h0:jb rows=0):
 Cl 156 #[.slice a (m+1+1) cap] w (Yw w (m+1) (cO rows)):=by
 obtain⟨n,hn⟩:=au (m+1);have hL:=hr.1;have hrow:=hr.2.1;have hfit:=hr.2.2;obtain⟨b,o,rfl⟩:∃b o,a=some ⟨b,o,none⟩:=by
  obtain⟨vals,hvl,hat,_⟩:=ha;rcases hat with h|⟨b,o,h,_⟩
  . rw[h]at hvl;simp at hvl;omega
  . exact⟨b,o,h⟩
 have cN:=λW (hW:Bw w W)=>afP (some ⟨b,o,none⟩) (m+1+1) cap rows B W hL zo hcap (ha.below hW) hfit zo (hT.below hW);rw[h0]at cN;obtain⟨S,hS⟩:=au ((rows.drop 1).map λp=>jY (rows.getD 0 []) p);have pV:S.length=m+1:=by rw[<-hS];simp[hL]
 have h00:0<rows.length:=by omega
 have e0:rows.getD 0 []=rows[0]:=by simp[h00]
 have uU:∀r∈S,r.length=m+1:=by intro r hr;rw[<-hS]at hr;obtain⟨p,hp,rfl⟩:=List.mem_map.1 hr;rw[Lq (by rw[e0,hrow _ (List.mem_of_mem_drop hp),hrow _ (List.getElem_mem h00)]),hrow _ (List.mem_of_mem_drop hp)]
 have uV:∀r∈S,∀d∈r,Sm (B+1) d:=by intro r hr d hd;rw[<-hS]at hr;obtain⟨p,hp,rfl⟩:=List.mem_map.1 hr;unfold jY at hd;obtain⟨i,hi,rfl⟩:=List.mem_iff_getElem.1 hd;rw[List.getElem_zipWith];refine Sm.sub (hfit p (List.mem_of_mem_drop hp) _ (List.getElem_mem _)).2 (hfit (rows.getD 0 []) ?_ _ (List.getElem_mem _)).2;rw[e0];exact List.getElem_mem h00
 obtain⟨P,hP⟩:=au (cO rows);have GM:∀i j,i<m+1->j<m+1->cm S i j=CY P i j:=λi j hi hj=>by rw[<-hS,<-hP];exact afy (m+1) rows hL hrow i j hi hj
 obtain⟨X,hX⟩:=au (bL (m+1) P);have hent:dJ (m+1) (cm S)=X:=by rw[<-hX,CX];exact Ga (m+1) hm GM
 have hro:=λW (hW:Bw w W)=>afi b o cap (m+1) (m+1) rows B W hL zo hcap zo zo zo hrow (ha.below hW) hfit zo (hT.below hW);rw[hS]at hro
 have oW:=λW (hW:Bw w W) a' c' (h:Tbl W a' (S.map λr=>r.map canon))=>QU a' c' (m+1) (S.map λr=>r.map canon) (B+1) S X W zo hm (by simpa using pV) (by
  intro r hr;obtain⟨x,hx,rfl⟩:=List.mem_map.1 hr
  simpa using uU x hx) h (by
  intro r hr c hc;obtain⟨x,hx,rfl⟩:=List.mem_map.1 hr;obtain⟨y,hy,rfl⟩:=List.mem_map.1 hc
  exact(uV x hx y hy).fit zo) zo zo (hT.below hW) (YV S) hent
 have pX:=λW (hW:Bw w W) a' c' (h:Tbl W a' (S.map λr=>r.map canon))=>(akv a' c' m S (B+1) W hm pV uU uV zo zo h (hT.below hW)).mono (λe w' h=>(match h with|⟨v,h1,h2,h3⟩=>⟨v,h1,h2,h3,h3⟩:∃v,e=.returned (.tuple #[v,af 0])/\fW w' W.heap.size (m+1) (sN (m+1) (cm S)) (m+1) v/\Bw W w'/\Bw W w'));have eY:Sm (4*B+11) X:=by rw[<-hent];refine(Ll (B:=B+1) hm (λi j hi hj=>?_)).mono zo;rw[GM i j hi hj,<-hP];exact Lx (n:=m+1) (B:=B) (λa b ha hb=>by rw[vA rows a b zo (by rw[hrow _ (List.getElem_mem _)];exact hb)];exact(hfit _ (List.getElem_mem _) _ (List.getElem_mem _)).2) i j hi hj
 have jy:=λW=>nV (az (dN X)) (nt (dN X).natAbs) (dE X) (bg X) (by show bg (dval (canon X))=_;rw[bu]) W (eY.ok zo);have GQ: -1<=bg X/\bg X<=1:=by unfold bg eF;split<;>(try split)<;>omega
 obtain⟨G,hG⟩:=au (lD X);have hof:=λW (hW:Bw w W)=>CV (bg X) G (by rw[<-hG];rfl) W zo (hT.below hW)
 have hab:=λW (hW:Bw w W)=>amx (az (dN X)) (nt (dN X).natAbs) (dE X) (G*X) (by
  have e:dval (dx X)=X:=bu X
  rw[e,auS,hG]) W (eY.ok zo) (hT.below hW)
 have hGf:Fit (4*B+11) (canon G):=(by rw[<-hG];exact(Vt X).mono zo:Sm (4*B+11) G).fit zo;have tj:∀i j,i<m+1->j<m+1->Fit (4*B+11) (canon (lU (m+1) (cm S) i j)):=λi j hi hj=>by refine((YI (B:=B+1) zo hm (λa b ha hb=>?_) i j).mono zo).fit zo;rw[GM a b ha hb,<-hP];exact Lx (n:=m+1) (B:=B) (λa b ha hb=>by rw[vA rows a b zo (by rw[hrow _ (List.getElem_mem _)];exact hb)];exact(hfit _ (List.getElem_mem _) _ (List.getElem_mem _)).2) a b ha hb
 have hfin:∀R:List (List Dyadic),R.length=m+1->(∀r∈R,r.length=m+1)->(∀a b,a<m+1->b<m+1->cm R a b=lU (m+1) (cm S) a b*G)->R=rz (m+1) P:=λR h1 h2 h3=>avD h1 h2 (KS _ _) (KU _ _) (λa b ha hb=>by
  rw[h3 a b ha hb,Qz _ _ _ _ ha hb];unfold js
  rw[hX,hG,akr (m+1) hm GM a b ha hb])
 have Gl:=λi j hi hj=>aks (m+1) (cm S) i j hi hj;have LL:=akt (m+1) (cm S);have LM:=aku (m+1) (cm S);obtain⟨F,hF⟩:∃F:Nat->Nat->Dyadic,(λi j=>lU (m+1) (cm S) i j)=F:=⟨_,rfl⟩;have hFe:∀i j,lU (m+1) (cm S) i j=F i j:=λi j=>by rw[<-hF]
 simp only[hFe]at tj hfin Gl;obtain⟨A,hA⟩:=au (sN (m+1) (cm S));rw[hA]at pX Gl LL LM;rw[hP];unfold Yw;rw[hX,hG];rw[hn]at cN hro oW pX tj hfin Gl LL LM⊢;have aS:n<=4:=by omega
 have dK:1<=n:=by omega
 have adh:=λW=>(jy W).mono (λe w' h=>(⟨h.1,h.2,h.2⟩:e=.returned (af (bg X))/\Bw W w'/\Bw W w'));have acP:=λW hW=>(hof W hW).mono (λe w' h=>(⟨h.1,h.2,h.2⟩:e=.returned (bT G)/\Bw W w'/\Bw W w'));have iF:=λW hW=>(hab W hW).mono (λe w' h=>(⟨h.1,h.2,h.2⟩:e=.returned (bT (G*X))/\Bw W w'/\Bw W w'));obtain⟨fQ,Yb,ER,EK,jp,nR,kM,HGf,HAs,nP,HAe,HAl⟩:=gL cN hro oW pX adh acP iF hGf tj hfin Gl LL;obtain⟨HAr,HT⟩:=aH LM hT;clear cN hro oW pX adh acP jy hof hab iF hGf tj hfin Gl LL LM hT hFe hF hA eY hent GM uV uU pV hS e0 h00 hP hX hG GQ ha hr hL hrow hfit h0 hn;have Hb:=hbz w;go_enter Tryz.func156,Tryz.ntmps156;go_wp2_with fail;refine cF w (Hb.an trivial) 45 [ag false,.string ⟨#[]⟩,af 0] λW aG ae ai=>?_;go_wp2_with fail;refine aK ae (fQ.out _ ae.2.1.out) λw1 ae ai=>?_;go_wp2_with fail;refine(Yb.out _ ae.2.1.out).mono ?_;rintro e w2 ⟨a2,c2,rfl,hc2,ht2,ak⟩;obtain⟨ae,ai⟩:=qX ak ae;have Kt:=aj ht2;clear ht2;go_wp2_with fail;refine aK ae (ER.out _ ae.2.1.out a2 c2 Kt.out) λw3 ae ai=>?_;clear Kt;obtain⟨W4,kg,aG,ae,ai⟩:=bO w3 ae 45 (bE X);go_wp2_with fail;refine(Yb.out _ ae.2.2.1.out).mono ?_;rintro e w5 ⟨a3,c3,rfl,hc3,pj,ak⟩;obtain⟨ae,ai⟩:=qX ak ae;have Kw:=aj pj;clear pj;obtain⟨Hd,Hr,Hb,_⟩:=ae;obtain⟨r0,aZ,r1,bf,r2,mS⟩:=Hr.out.g3;obtain⟨d0,d1,d2⟩:=Hd.out.c3;have lN:=Hr;have OA:=Hd;have dQ:=Hb;go_wp2_with fail;refine(EK.out _ Hb.out a3 c3 Kw.out).mono ?_;rintro e w6 ⟨v,rfl,hO,abD,ak⟩;obtain⟨ae,ai⟩:=qX ak (Hb.an<|Hr.an<|Hd.an trivial);obtain⟨go,cv,rfl,hgo⟩:∃go cv,v=.slice (some ⟨go,0,none⟩) n cv/\w5.heap.size<=go:=by obtain⟨vals,hl,ho,_,_⟩:=hO;obtain⟨g,c,e1,h1,_,_⟩:=ui ho zo;exact⟨g,c,e1,h1⟩
 have hcv:n<=cv:=by obtain⟨vals,hl,ho,_,_⟩:=hO;exact(yV ho).1
 obtain⟨gI,hgI⟩:∃gI:Nat->Nat×Nat,∀i,i<n->w6.cell? ⟨go,i,none⟩=some (.slice (some ⟨(gI i).1,0,none⟩) n (gI i).2)/\w5.heap.size<=(gI i).1/\(gI i).1<w6.heap.size/\(gI i).1≠go:=by have H:=λi (h:i<n)=>(hO.blk i h dK).2;refine⟨λi=>if h:i<n then(Classical.choose (H i h),Classical.choose (Classical.choose_spec (H i h)))else(0,0),λi h=>?_⟩;simp only[h,dif_pos];exact Classical.choose_spec (Classical.choose_spec (H i h))
 obtain⟨HO,Xx⟩:=aH hO hgI;clear hO hgI;have Cb:Hid (Bw w5 w6):=abD;have H66:Hid (Bw w6 w6):=Below.refl _ _;clear abD;have VE:=Cb.out.size;go_wp2_with fail;refine(jp.out _).mono ?_;rintro e w7 ⟨rfl,abF,ak⟩;obtain⟨ae,ai⟩:=qX ak ae;go_wp2_with fail;refine(nR.out _ ae.1.out).mono ?_;rintro e w8 ⟨rfl,abG,ak⟩;obtain⟨ae,ai⟩:=qX ak ae;have Su:=aF abF abG;clear abF abG;have Wk:=aj Su;have NA:=Su.size;clear Su;obtain⟨W9,abo,aG,ae,ai⟩:=bO w8 ae 45 (bE G);have JK:Hid (Bw w6 W9):=by rw[<-abo];exact(Wk.out).alloc zo _
 have hO9:=HO.out.below JK.out;have Mf:∀i,i<n->W9.cell? ⟨go,i,none⟩=some (.slice (some ⟨(gI i).1,0,none⟩) n (gI i).2):=λi h=>cell_later JK.out (Xx.out i h).1;have abE:=aF Cb.out JK.out;obtain⟨WI,Xd,Wj⟩:=bM hO9 Mf abE;have Yf:=ae.1;clear hO9 Mf abE HO Wk H66 JK;go_wp2_with fail;go_loopw[37] (λx wr=>∃(k:Nat) (R:List (List Dyadic)),k<=n/\x=af (k:Int)/\R.length=n/\(∀r∈R,r.length=n)/\(∀a b,a<n->b<n->cm R a b=if jZ k 0 a b then F a b*G else F a b)/\fW wr w5.heap.size n R n (.slice (some ⟨go,0,none⟩) n cv)/\(∀i,i<n->wr.cell? ⟨go,i,none⟩=some (.slice (some ⟨(gI i).1,0,none⟩) n (gI i).2))/\ar wr w8.heap.size 45 (bE G)/\Bw w5 wr) (λx _=>n-(intOf x).toNat);case atStart=>exact⟨0,A,Nat.zero_le _,rfl,HAl.out,HAr.out,λa b ha hb=>by rw[HAe.out a b ha hb,if_neg (by unfold jZ;omega)],WI.out,Xd.out,Yf.out,Wj.out⟩
 case round=>
  clear Yf Wj Xd WI Cb;obtain⟨k,R,hk,rfl,tv,tA,hRe,hO,hc,hs,pb⟩:=hrel;by_cases hlt:k<n
  . have cN:=hc k hlt;obtain⟨g,c,mY⟩:∃g c,gI k=(g,c):=⟨_,_,rfl⟩;obtain⟨_,hg1,hg2,hg3⟩:=Xx.out k hlt;rw[mY]at cN hg1 hg2 hg3;have aX:=Bo n cv k (k:Int) (rfl:(some ⟨go,0,none⟩:Option Addr)=_) hlt rfl;rw[Nat.zero_add,Nat.mul_one]at aX;have hin:∃(j:Nat) (R:List (List Dyadic)),j=0/\R.length=n/\(∀r∈R,r.length=n)/\(∀a b,a<n->b<n->cm R a b=if jZ k j a b then F a b*G else F a b)/\fW wr w5.heap.size n R n (.slice (some ⟨go,0,none⟩) n cv)/\(∀i,i<n->wr.cell? ⟨go,i,none⟩=some (.slice (some ⟨(gI i).1,0,none⟩) n (gI i).2))/\ar wr w8.heap.size 45 (bE G)/\Bw w5 wr:=⟨0,R,rfl,tv,tA,hRe,hO,hc,hs,pb⟩;obtain⟨mL,Cn⟩:=aH hin mY;clear hin tv tA hRe hO hc hs pb mY;obtain⟨wq,hwq⟩:∃wq,wq=wr:=⟨_,rfl⟩;subst hwq;go_wp2_with fail;go_loopw[43] (λx wr=>∃(j:Nat) (R:List (List Dyadic)),j<=n/\x=af (j:Int)/\R.length=n/\(∀r∈R,r.length=n)/\(∀a b,a<n->b<n->cm R a b=if jZ k j a b then F a b*G else F a b)/\fW wr w5.heap.size n R n (.slice (some ⟨go,0,none⟩) n cv)/\(∀i,i<n->wr.cell? ⟨go,i,none⟩=some (.slice (some ⟨(gI i).1,0,none⟩) n (gI i).2))/\ar wr w8.heap.size 45 (bE G)/\Bw w5 wr) (λx _=>n-(intOf x).toNat);case atStart=>obtain⟨j,R,rfl,h⟩:=mL.out;exact⟨0,R,Nat.zero_le _,rfl,h⟩
    case round=>
     clear mL cN aX;obtain⟨j,R,hj,rfl,tv,tA,hRe,hO,hc,hs,pb⟩:=hrel;by_cases bB:j<n
     . have hrl:(R.getD k []).length=n:=by
        have e:R.getD k []=R[k]'zo:=by rw[List.getD_eq_getElem?_getD,List.getElem?_eq_getElem zo];rfl
        rw[e];exact tA _ (List.getElem_mem _)
       have cN:=hc k hlt;rw[Cn.out]at cN;have hpick:∀W,fW W w5.heap.size n R n (.slice (some ⟨go,0,none⟩) n cv)->W.cell? ⟨go,k,none⟩=some (.slice (some ⟨g,0,none⟩) n c)->aQ W g (j*3) [ag (az (dN (F k j))),ah (nt (dN (F k j)).natAbs),af (dE (F k j))]/\(∀o,W.frozen? ⟨g,o,none⟩=false)/\∀y:Dyadic,fW (((W.setCell ⟨g,j*3,none⟩ (ag (az (dN y)))).setCell ⟨g,j*3+1,none⟩ (ah (nt (dN y).natAbs))).setCell ⟨g,j*3+2,none⟩ (af (dE y))) w5.heap.size n (R.set k ((R.getD k []).set j y)) n (.slice (some ⟨go,0,none⟩) n cv):=by
        intro W hO cN;obtain⟨go',cap',g',c',hv,_,_,hne,hcell,bY,hfz,hup⟩:=hO.num k j hlt bB tv hrl;simp only[Value.slice.injEq,Option.some.injEq,Addr.mk.injEq,and_true,true_and]at hv;obtain⟨rfl,rfl⟩:=hv;rw[cN]at hcell;simp only[Option.some.injEq,Value.slice.injEq,Addr.mk.injEq,and_true,true_and]at hcell;obtain⟨rfl,rfl⟩:=hcell;have he:(R.getD k []).getD j 0=F k j:=by have h:=hRe k j hlt bB;rw[if_neg (by unfold jZ;omega)]at h;exact h
        rw[he]at bY;exact⟨bY,hfz,hup⟩
       obtain⟨bY,_,_⟩:=hpick wr hO cN;have Rv:=HAs.out k j hlt bB;obtain⟨Y,hY⟩:=au (F k j*G);have hsl:=auR tv tA k j hlt Y;have hen:∀a b,a<n->b<n->cm (R.set k ((R.getD k []).set j Y)) a b=if jZ k (j+1) a b then F a b*G else F a b:=by
        intro a b ha hb;rw[anA tv tA k j hlt bB Y a b ha hb];by_cases e:a=k/\b=j
        . obtain⟨rfl,rfl⟩:=e;rw[if_pos ⟨rfl,rfl⟩,if_pos (by unfold jZ;omega),hY]
        . rw[if_neg e,hRe a b ha hb];have:jZ k j a b↔jZ k (j+1) a b:=by unfold jZ;omega
          by_cases h:jZ k j a b
          . rw[if_pos h,if_pos (this.1 h)]
          . rw[if_neg h,if_neg (λh2=>h (this.2 h2))]
       obtain⟨E,hE⟩:=au (F k j);have HY:Hid (dval (canon E) *dval (canon G)=Y):=by show _=_;rw[bu,bu,<-hE];exact hY
       rw[hE]at bY Rv hpick;have GZ:=ud n c j (j:Int) (rfl:(some ⟨g,0,none⟩:Option Addr)=_) bB rfl;rw[Nat.zero_add]at GZ;obtain⟨R2,hR2⟩:=au (R.set k ((R.getD k []).set j Y));have hpk:=λW h1 h2=>(hpick W h1 h2).2.2 Y;have Bf:=λW h1 h2=>(hpick W h1 h2).2.1;rw[hR2]at hsl hen hpk;have Hz:Hid (aQ wr g (j*3) (bE E)):=bY;have Hs:Hid (ar wr w8.heap.size 45 (bE G)):=hs;obtain⟨HO,Hcc,fQ,aP,uD,Hen,PD,Hpz,HAf,zG⟩:=Bt hO hc cN pb hsl hen hpk Bf Rv (HT.out.below (aF dQ.out pb));have szw:=pb.size;clear hO hc cN pb hsl hen hpk Bf Rv hs bY hpick hR2 hE hY tv tA hRe hrl;have Hb:=hbz wr;have IH:=Hs.out.lt;go_wp2_with fail;obtain⟨ae,ai⟩:=qZ (Hz.an<|Hs.an trivial);have HU:Hid (aB wr):=zG.out;obtain⟨Hz,Hs,_⟩:=ae;obtain⟨z0,z1,z2⟩:=Hz.out.w3;obtain⟨s0,s1,s2⟩:=Hs.out.c3;refine fx (λw'=>aJ w' g (j*3) (ag (az (dN E)))/\aJ w' g (j*3+1) (ah (nt (dN E).natAbs))/\aJ w' g (j*3+2) (af (dE E))/\aJ w' (w8.heap.size) 0 (ag (az (dN G)))/\aJ w' (w8.heap.size) 1 (ah (nt (dN G).natAbs))/\aJ w' (w8.heap.size) 2 (af (dE G))) (λi=>Nat.blt i 10) [(0,true),(1,true),(2,true),(3,true),(4,true),(5,true),(6,true),(7,false),(8,false),(9,true),(10,false)] zk zk rfl zk zc ⟨z0,z1,z2,s0,s1,s2⟩ ?_;iterate 7 (refine pT rfl rfl ?_ (by intro w' ⟨q0,q1,q2,q3,q4,q5⟩;go_simp;try with_reducible rfl);try simp only[UU])
       refine aO rfl rfl (λK hK=>?_);go_simp;refine hK _ _ (λ_=>⟨aM z0,aM z1,aM z2,aM s0,aM s1,aM s2⟩) ?_;try simp only[UU]
       refine cg (λW4=>ar W4 (wr.heap.size) 45 [ag (az (dN E)),ah (nt (dN E).natAbs),af (dE E),ag (az (dN G)),ah (nt (dN G).natAbs),af (dE G)]/\Bw wr W4) (by first|exact iY|exact iZ) ?_;rintro W4 ⟨qv,ak⟩;have ay9:=Hs.out.lt;replace Hz:=kW Hz ak;replace Hs:=kB Hs ak;replace HU:=kT HU ak;have Hv:=aj qv;clear qv;obtain⟨z0,z1,z2⟩:=Hz.out.w3;obtain⟨s0,s1,s2⟩:=Hs.out.c3;obtain⟨v0,v1,v2,v3,v4,v5⟩:=Hv.out.c6;replace Hb:=bj Hb ak;refine aO rfl rfl (λK hK=>?_);go_simp;with_reducible refine(Am _ _ _ _ _ _ Y (4*B+11) HY.out wr.heap.size _ 45 _ HAf.out HGf.out zo Hv.out (by first|exact HU.out|exact aB.drew HU.out|exact aB.alloc HU.out _|exact aB.drew (aB.alloc HU.out _) |exact aB.alloc (aB.drew HU.out) _)).mono ?_
       rintro e jU ⟨rfl,hq⟩;have ak:Bw W4 jU:=by first|exact hq|exact cM hq
       replace Hz:=kW Hz ak;obtain⟨Hs,s0,s1,s2⟩:=Uc Hs ak;replace HU:=kT HU ak;obtain⟨Hv,v0,v1,v2,v3,v4,v5⟩:=MV Hv ak;obtain⟨z0,z1,z2⟩:=Hz.out.w3;replace Hb:=bj Hb ak;refine hK _ _ (λ_=>⟨z0,z1,z2,s0,s1,s2⟩) ?_;try simp only[UU]
       refine pT rfl rfl ?_;try simp only[UU]
       refine aO rfl rfl (λK hK=>?_);have RP:=HO.out.below Hb.out;have Mq:=cell_later Hb.out fQ.out;have hfz:=Hpz.out jU RP Mq;have Da:=hfz (j*3);have yg:=hfz (j*3+1);have Gk:=hfz (j*3+2);have hup:=PD.out jU RP Mq;have wF:=aF aP.out Hb.out;obtain⟨PW,lK⟩:=aH hup wF;clear RP Mq hfz hup wF;go_simp;refine hK _ _ (λh=>absurd h zd) ?_;try simp only[UU]
       simp only[bH];go_wp2;refine⟨⟨j+1,R2,by omega,by go_num,uD.out.1,uD.out.2,Hen.out,PW.out,λi hi=>?_,?_,?_⟩,by simp[intOf];omega⟩
       . have hne:(⟨go,i,none⟩:Addr).block≠g:=λe=>hg3 e.symm;exact aC (.inl hne) (aC (.inl hne) (aC (.inl hne) (cell_later Hb.out (Hcc.out i hi))))
       . have hne:g≠w8.heap.size:=by omega
         exact((Hs.out.azV _ hne _).azV _ hne _).azV _ hne _
       . exact((lK.out.setCell hg1 _).setCell hg1 _).setCell hg1 _
     . obtain rfl:j=n:=by omega
       have wN:(∀a b,a<j->b<j->cm R a b=if jZ (k+1) 0 a b then F a b*G else F a b):=by
        intro a b ha hb;rw[hRe a b ha hb];have:jZ k j a b↔jZ (k+1) 0 a b:=by unfold jZ;omega
        by_cases h:jZ k j a b
        . rw[if_pos h,if_pos (this.1 h)]
        . rw[if_neg h,if_neg (λh2=>h (this.2 h2))]
       have hres:(∃k' R,k'<=j/\k'=k+1/\R.length=j/\(∀r∈R,r.length=j)/\(∀a b,a<j->b<j->cm R a b=if jZ k' 0 a b then F a b*G else F a b)/\fW wr w5.heap.size j R j (.slice (some ⟨go,0,none⟩) j cv)/\(∀i,i<j->wr.cell? ⟨go,i,none⟩=some (.slice (some ⟨(gI i).1,0,none⟩) j (gI i).2))/\ar wr w8.heap.size 45 (bE G)/\Bw w5 wr):=⟨k+1,R,by omega,rfl,tv,tA,wN,hO,hc,hs,pb⟩;have gF:=aj hres;clear hres wN tv tA hRe hO hc hs pb;go_wp2;go_roundw;case rel=>obtain⟨k',R,h1,rfl,h⟩:=gF.out;exact⟨k+1,R,h1,by go_num,h⟩
       case measure=>exact bi
  . obtain rfl:k=n:=by omega
    have hRf:R=rz k P:=nP.out R tv tA (λa b ha hb=>by rw[hRe a b ha hb,if_pos (by unfold jZ;omega)]);subst hRf;obtain⟨NU,aP⟩:=aH hO pb;clear hO hc hs pb tv tA hRe;obtain⟨Hr,Hd,Hb⟩:=bM (lN.out.below aP.out) (OA.out.below aP.out) (aF dQ.out aP.out);obtain⟨ae,ai⟩:=qZ (Hr.an<|Hd.an trivial);go_wp2_with fail;refine(kM.out _ Hb.out).mono ?_;rintro e VM ⟨rfl,yr,ak⟩;obtain⟨ae,ai⟩:=qX ak (Hb.an ae);have agY:=aj (NU.out.below yr);clear yr;have hzz:=dQ.out.size;have kq:w.heap.size<w5.heap.size:=Nat.lt_of_lt_of_le lN.out.lt (Nat.le_refl _);go_wp2;refine dI (λrX=>ar rX w.heap.size 45 [ag (az (dN (G*X))),ah (nt (dN (G*X)).natAbs),af (dE (G*X))]/\fW rX w5.heap.size k (rz k P) k (.slice (some ⟨go,0,none⟩) k cv)/\Bw w rX) ⟨((ae.2.1.out.set 0 _).set 1 _).set 2 _,((agY.out.az9 kq _).az9 kq _).az9 kq _,((ae.1.out.setCell zp _).setCell zp _).setCell zp _⟩ ?_;rintro rX ⟨aqc,ap4,apm⟩;obtain⟨q0,q1,q2⟩:=aqc.c3;obtain⟨a9,c9,jz,Mf,ht9⟩:=ap4.tbl (KS _ _) (KU _ _);simp only[Value.slice.injEq,true_and]at jz;obtain⟨rfl,rfl⟩:=jz;exact bodyPost_ret (v:=.tuple #[bT (G*X),.slice (some ⟨go,0,none⟩) k cv,af 0]) (by simp[results,Tryz.results156,go_sem,q0,q1,q2]) rfl ⟨_,_,rfl,Mf,ht9,apm⟩
def dG (xs:List Raw):Nat->Dyadic:=λb=>(xs.map dval).getD b 0
def xA (xs:List Raw)(k:Nat)(h:k<xs.length):dG xs k=dval xs[k]:=by unfold dG;simp[List.getD_eq_getElem?_getD,h]
def rR (n:Nat)(p:Nat->Nat->Dyadic)(x:Nat->Dyadic)(i:Nat):List Dyadic:=wZ n p x i::(List.range i).map λa=>fK n p x (a+1)
def qR (n:Nat)(p:Nat->Nat->Dyadic)(x:Nat->Dyadic):List Dyadic:=(List.range (n+1)).map λk=>fK n p x k
def as5 (n:Nat)(p:Nat->Nat->Dyadic)(x:Nat->Dyadic)(i:Nat):(rR n p x i).length=i+1:=by simp[rR]
def as6 (n:Nat)(p:Nat->Nat->Dyadic)(x:Nat->Dyadic)(i:Nat):(rR n p x i++[fK n p x (i+1)]).set 0 (wZ n p x i-fK n p x (i+1))=rR n p x (i+1):=by unfold rR;rw[List.range_succ,List.map_append];rfl
def as4 (n:Nat)(hn:1<=n)(aS:n<=4)(p:Nat->Nat->Dyadic)(x:Nat->Dyadic):rR n p x n=qR n p x:=by unfold rR qR;rw[VT n hn aS,List.range_succ_eq_map,List.map_cons,List.map_map];rfl
def Jh {w:World}{b base n:Nat}{e:TypeId}{size:Nat}{xs:List Value}(h:ar w b e xs)(hb:base<=b)(hl:xs.length=n*size)(hn:n<=1048576):w.ownsRow base e size (.slice (some ⟨b,0,none⟩) n n) n xs:=
 ⟨hl,.inr ⟨b,n,xs.toArray,rfl,hb,h,Nat.le_refl _,by unfold maxLen;omega,by simpa using hl,by rw[<-hl];simp⟩⟩
def Tbl.aAa {w:World}{a:Option Addr}{T:List (List Dyadic)}{n:Nat}(h:Tbl w a (T.map λr=>r.map canon))(hl:T.length=n)(hr:∀r∈T,r.length=n)(k i:Nat)(hk:k<n)(hi:i<n):
 ∃b o br os cr,a=some ⟨b,o,none⟩/\w.cell? ⟨b,o+k,none⟩=some (.slice (some ⟨br,os,none⟩) n cr)/\aQ w br (os+i*3) [ag (az (dN (cm T k i))),ah (nt (dN (cm T k i)).natAbs),af (dE (cm T k i))]:=by
 have Mr:k<T.length:=by omega
 obtain⟨b,o,a',c',h1,h2,h3⟩:=h.row k (by simpa using Mr);have e1:(T.map λr=>r.map canon)[k]'(by simpa using Mr)=T[k].map canon:=by simp
 have hlk:=hr _ (List.getElem_mem Mr);rw[e1]at h2 h3;rw[List.length_map,hlk]at h2;have hik:i<T[k].length:=by omega
 have e2:cm T k i=T[k][i]:=by unfold cm;simp[List.getD_eq_getElem?_getD,Mr,hik]
 obtain⟨br,os,e3,q0,q1,q2⟩:=h3.num i (by simpa using hik) (show(T[k].map canon)[i]'(by simpa using hik)=(az (dN (cm T k i)),nt (dN (cm T k i)).natAbs,dE (cm T k i))by rw[e2];simp;rfl);subst e3;exact⟨b,o,br,os,c',h1,h2,iI q0 q1 q2⟩
def akk (w:World)(n:Nat)(p:Nat->Nat->Dyadic)(x:Nat->Dyadic)(e:Ending)(w':World):Prop:=
 ∃a' c',e=.returned (.tuple #[.slice a' (n+1) c',af 0])/\n+1<=c'/\At w' a' (dC (qR n p x))/\Bw w w'
def aws (a:Option Addr)(cap m:Nat)(rows:List (List Raw))(B:Nat)(xa:Option Addr)(xc:Nat)(xs:List Raw)(w:World)(hm:m+1<=4)(hr:Rw (m+1) B rows)(hcap:m+1+1<=cap)(ha:Tbl w a rows)(hx:At w xa (xs.flatMap aV))(hxl:xs.length=m+1)(gW:∀x∈xs,Fit B x)(hB:B<=200000)(hT:aB w)(h0:jb rows=0):
 Cl 172 #[.slice a (m+1+1) cap,.slice xa (m+1) xc] w (akk w (m+1) (cO rows) (dG xs)):=by
 obtain⟨n,hn⟩:=au (m+1);obtain⟨i0,hi,hz0,hz1,hz2⟩:=info_parts Tryz.azX;have hL:=hr.1;have hrow:=hr.2.1;have hfit:=hr.2.2;have lu:=λW (hW:Bw w W)=>adW a cap m rows B W hm hr hcap (ha.below hW) hB (hT.below hW) h0;have MN:=λW (hW:Bw w W)=>NG a (m+1+1) cap rows W hL zo (ha.below hW);rw[JD hL hrow zo zo]at MN;have hps:∀a b,a<=m+1->b<m+1->Sm B (cO rows a b):=λa b ha hb=>by rw[vA rows a b zo (by rw[hrow _ (List.getElem_mem _)];exact hb)];exact(hfit _ (List.getElem_mem _) _ (List.getElem_mem _)).2
 have DX:∀b,b<m+1->Sm B (dG xs b):=λb hb=>by rw[xA xs b zo];exact(gW _ (List.getElem_mem _)).2
 have h00:0<rows.length:=by omega
 obtain⟨b,o,a0,c0,hab,hc0,iG⟩:=ha.row 0 h00;have tW:rows[0].length=m+1:=hrow _ (List.getElem_mem h00);have Bd:∀x∈rows[0],Fit B x:=hfit _ (List.getElem_mem h00);obtain⟨p0,Bc⟩:=au (rows[0]);rw[Bc]at hc0 iG tW Bd;have hp0:∀k (h:k<p0.length),cO rows 0 k=dval p0[k]:=λk h=>by subst Bc;exact vA rows 0 k h00 h
 rw[tW,Nat.add_zero]at hc0;subst hab;obtain⟨P,hP⟩:=au (cO rows);rw[hP]at lu hps hp0⊢;obtain⟨xf,TT⟩:=au (dG xs);have hxk:∀k (h:k<xs.length),xf k=dval xs[k]:=λk h=>by rw[<-TT];exact xA xs k h
 rw[TT]at DX⊢;have Bj:=λi k (hk:k<=m+1)=>NJ zo hm hps DX i k hk;have TL:=λk (hk:k<=m+1)=>VS zo hm hps DX k hk;have pX:=λk i=>FQ zo hm hps k i;have hwt:=λi (hi:i<m+1)=>Ev (m+1) zo hm P xf i hi;have hend:=as4 (m+1) zo hm P xf;have rK:=Qz (m+1) P;have htl:=KS (m+1) P;have htr:=KU (m+1) P;rw[hn]at lu MN hps DX hxl hc0 tW Bj TL pX hwt hend rK htl htr⊢;have aS:n<=4:=by omega
 have dK:1<=n:=by omega
 have ug:b<w.heap.size:=World.block_lt_of_cell? w _ hc0;have Bq:=ng (n+1) cap 0 0 (show some (⟨b,o,none⟩:Addr)=some ⟨b,o,none⟩from rfl) zo rfl;rw[Nat.zero_mul,Nat.add_zero]at Bq;obtain⟨Hi,cu,bV,bX,mM,Hva,HT,Hx,CC,KE,pN,uB⟩:=gL hi hz0 hz1 hz2 lu MN hT hx hxl gW hxk hps;obtain⟨aj5,ux,jo,Py,Px,Pw,KB,HwZ,EK,Yp,eH,PU⟩:=gL DX hc0 iG tW Bd hp0 Bj TL pX hwt hend rK;obtain⟨Ac,Fy,Fe⟩:=bM htl htr Bq;clear hi hz0 hz1 hz2 lu MN hT hx hxl gW hxk hps DX hc0 iG tW Bd hp0 Bj TL pX hwt hend rK htl htr Bq hP TT Bc h00 ha hr hL hrow hfit h0 hn;have hnz:((n:Int)==0)=false:=by simp;omega
 have Hb:=hbz w;go_enter Tryz.func172,Tryz.ntmps172;go_wp2_with fail;refine(mM.out _ Hb.out).mono ?_;rintro e w1 ⟨a1,c1,rfl,hc1,ht1,ak⟩;have Fw:=aj ht1;replace Hb:=bj Hb ak;clear ak ht1;obtain⟨dd,hdd⟩:=au (lD (bL n P) *bL n P);have Hdd:=aj hdd;rw[hdd];clear hdd;obtain⟨W2,ke,aG,ae,ai⟩:=bO w1 (Hb.an trivial) 45 (bE dd);have HA:Hid (Tbl W2 a1 ((rz n P).map λr=>r.map canon)):=Fw.out.below (by first|exact zl| (rw[<-ke];exact zl));clear Fw;go_wp2_with fail;refine aK (HA.an ae) (Hva.out _ ae.2.1.out) λw3 ae ai=>?_;obtain⟨HA,Hd,Hb,_⟩:=ae;obtain⟨d0,d1,d2⟩:=Hd.out.c3;have OA:=Hd;have NP:=HA;have dQ:=Hb;have P0:=d0;have P1:=d1;have P2:=d2;have ap1:((n:Int) !=(n:Int)+1-1)=false:=by simp
 obtain⟨W4,kg,aG,ae,ai⟩:=bO w3 (Hb.an<|Hd.an<|HA.an trivial) 45 (bE dd);go_wp2_with fail;have hst:W4.ownsRow w3.heap.size 45 3 (.slice (some ⟨w3.heap.size,0,none⟩) 1 1) 1 (dC (rR n P xf 0)):=by
  have e:dC (rR n P xf 0)=(bE dd):=by unfold rR wZ;rw[Hdd.out];rfl
  rw[e];exact Jh ae.1.out (Nat.le_refl _) rfl zo
 have bN:=aj hst;have Wi:Hid (Bw w3 W4):=by rw[<-kg];exact zl
 clear hst P0 P1 P2 ap1 hnz;go_loopw[9,39] (λs9 x wr=>∃(i:Nat) (v:Value),i<=n/\x=af (i:Int)/\v=s9/\wr.ownsRow w3.heap.size 45 3 v (i+1) (dC (rR n P xf i))/\Bw w3 wr) (λ_ x _=>n-(intOf x).toNat);case atStart=>exact⟨0,_,Nat.zero_le _,rfl,rfl,bN.out,Wi.out⟩
 case round=>
  clear bN Wi;obtain⟨i,v,hi,rfl,rfl,ho,pb⟩:=hrel;by_cases hlt:i<n
  . obtain⟨wo,hwo⟩:∃wo,wo=wr:=⟨_,rfl⟩;subst hwo;have hvl:=ho.lt;obtain⟨Ho,aP⟩:=aH ho pb;have ic:=pb.size;have Ep:=dQ.out.size;clear ho pb;have Hb:=hbz wo;have wL:decide ((i:Int)<(n:Int))=true:=by simp;omega
    obtain⟨W5,wB,aG,ae,ai⟩:=bO wo (Hb.an trivial) 45 [ag false,.string ⟨#[]⟩,af 0];have FH:=ae.1;have eu:=ae.2.1;go_wp2_with fail;clear wL;go_loopw[45] (λx wr=>∃k:Nat,k<=n/\x=af (k:Int)/\ar wr wo.heap.size 45 [ag (az (dN (wS n P xf i k))),ah (nt (dN (wS n P xf i k)).natAbs),af (dE (wS n P xf i k))]/\Bw wo wr) (λx _=>n-(intOf x).toNat);case atStart=>exact⟨0,Nat.zero_le _,rfl,((FH.out.set 0 _).set 1 _).set 2 _,((eu.out.setCell (Nat.le_refl _) _).setCell (Nat.le_refl _) _).setCell (Nat.le_refl _) _⟩
    case round=>
     clear FH eu;obtain⟨k,hk,rfl,hy,qb⟩:=hrel;by_cases bB:k<n
     . have Ss:=aF aP.out qb;have yt:=aF dQ.out Ss;have ez:k<xs.length:=by rw[CC.out];exact bB
       have tP:k<p0.length:=by rw[Py.out];exact bB
       obtain⟨sx,mx,ex,ky⟩:=nY (xs[k]);obtain⟨sp,mp,ep,hpe⟩:=nY (p0[k]);have dY:=KE.out _ (List.getElem_mem ez);have fp:=Px.out _ (List.getElem_mem tP);rw[ky]at dY;rw[hpe]at fp;obtain⟨bx,ox,Sn,x0,x1,x2⟩:=(Hx.out.below yt).num k ez ky;obtain⟨bp,op,GH,p1,p2,p3⟩:=(jo.out.below yt).num k tP hpe;obtain⟨ba,oa,bq,oq,cq,GG,GL,hq⟩:=(NP.out.below Ss).aAa Ac.out Fy.out k i bB hlt;rw[PU.out k i bB hlt]at hq;have Ud:bx<w.heap.size:=by subst Sn;exact Hx.out.lt (by intro h0;have:=congrArg List.length h0;rw[iD aV 3 (λ_=>rfl)]at this;simp at this;omega)
       obtain⟨D,hD⟩:=au (dval (sx,mx,ex)-dval (sp,mp,ep));have RF:xf k-P 0 k=D:=by rw[pN.out k ez,Pw.out k tP,ky,hpe];exact hD
       obtain⟨Q,hQ⟩:=au (js n P k i);obtain⟨Z,hZ⟩:=au (D*Q);obtain⟨S0,lf⟩:=au (wS n P xf i k);obtain⟨S1,hS1⟩:=au (wS n P xf i (k+1));have Gz:S0+Z=S1:=by rw[<-hS1,<-hZ,<-RF,<-hQ,<-lf];rfl
       have je:Sm (B+1) D:=by rw[<-RF];exact Sm.sub (aj5.out k bB) (uB.out 0 k zo bB)
       have wz:=EK.out k i;rw[hQ]at wz hq;have AA:=KB.out i k zo;rw[lf]at AA hy;have wE:Sm (5*B+12) Z:=by rw[<-hZ];exact(Sm.mul je wz).mono zo
       have Cj:Hid (Fit (4*B+11) (canon D)):=(je.mono zo).fit zo;have EU:Hid (Fit (4*B+11) (canon Q)):=wz.fit zo;have EW:Hid (Fit (5*B+16) (canon S0)):=(AA.mono zo).fit zo;have xI:Hid (Fit (5*B+16) (canon Z)):=(wE.mono zo).fit zo;have HZ:Hid (dval (canon D) *dval (canon Q)=Z):=by show _=_;rw[bu,bu];exact hZ
       have NY:Hid (dval (canon S0)+dval (canon Z)=S1):=by show _=_;rw[bu,bu];exact Gz
       have ixx:=ot n xc k (k:Int) Sn bB rfl;have ixp:=ot n c0 k (k:Int) GH bB rfl;have Ua:=Bo n c1 k (k:Int) GG bB rfl;rw[Nat.mul_one]at Ua;have ixq:=ud n cq i (i:Int) (rfl:(some ⟨bq,oq,none⟩:Option Addr)=_) hlt rfl;have DZ:=Fe.out;obtain⟨RY,HD,jd,oH,EI⟩:=eD hS1 hD dY fp (HT.out.below yt);have Hy:Hid (ar wr wo.heap.size 45 (bE S0)):=hy;have kQ:Hid (aQ wr bx (ox+k*3) [ag sx,ah mx,af ex]):=iI x0 x1 x2;have Hp:Hid (aQ wr bp (op+k*3) [ag sp,ah mp,af ep]):=iI p1 p2 p3;have Hs:Hid (aQ wr b o [.slice a0 n c0]):=λj hj=>by
        obtain rfl:j=0:=by simp at hj;omega
        exact cell_later yt ux.out
       have Hr:Hid (aQ wr ba (oa+k) [.slice (some ⟨bq,oq,none⟩) n cq]):=λj hj=>by
        obtain rfl:j=0:=by simp at hj;omega
        exact GL
       have Hq:Hid (aQ wr bq (oq+i*3) (bE Q)):=hq;have pM:=aj qb;have VG:=qb.size;have IR:=Hy.out.lt;clear x0 x1 x2 p1 p2 p3 GL hq hy ky hpe dY fp Sn GH GG hD RF hQ hZ lf hS1 Gz je wz AA wE qb Ss yt;have Hb:=hbz wr;go_wp2_with fail;obtain⟨ae,ai⟩:=qZ (Hy.an<|kQ.an<|Hp.an<|Hs.an<|Hr.an<|Hq.an trivial);have HU:Hid (aB wr):=EI.out;obtain⟨Hy,kQ,Hp,Hs,Hr,Hq,_⟩:=ae;obtain⟨y0,gm,y1,gp,y2,iE⟩:=Hy.out.g3;obtain⟨nI,nJ,nK⟩:=kQ.out.w3;obtain⟨p0,p1,p2⟩:=Hp.out.w3;have s0:=Hs.out.w1;have r0:=Hr.out.w1;obtain⟨q0,q1,q2⟩:=Hq.out.w3;refine fx (λw'=>aJ w' (wo.heap.size) 0 (ag (az (dN S0)))/\aJ w' (wo.heap.size) 1 (ah (nt (dN S0).natAbs))/\aJ w' (wo.heap.size) 2 (af (dE S0))/\aJ w' bx (ox+k*3) (ag sx)/\aJ w' bx (ox+k*3+1) (ah mx)/\aJ w' bx (ox+k*3+2) (af ex)/\aJ w' bp (op+k*3) (ag sp)/\aJ w' bp (op+k*3+1) (ah mp)/\aJ w' bp (op+k*3+2) (af ep)/\aJ w' b o (.slice a0 n c0)/\aJ w' ba (oa+k) (.slice (some ⟨bq,oq,none⟩) n cq)/\aJ w' bq (oq+i*3) (ag (az (dN Q)))/\aJ w' bq (oq+i*3+1) (ah (nt (dN Q).natAbs))/\aJ w' bq (oq+i*3+2) (af (dE Q))) (λi=>Nat.blt i 23) [(0,true),(1,true),(2,true),(3,true),(4,true),(5,true),(6,true),(7,true),(8,true),(9,true),(10,true),(12,true),(13,true),(14,true),(15,true),(16,true),(17,true),(18,true),(11,false),(19,false),(20,false),(21,false),(22,false),(23,false)] zk zk rfl zk zc ⟨y0,y1,y2,nI,nJ,nK,p0,p1,p2,s0,r0,q0,q1,q2⟩ ?_;iterate 18 (refine pT rfl rfl ?_ (by intro w' ⟨q0,q1,q2,q3,q4,q5,q6,q7,q8,q9,q10,q11,q12,q13⟩;go_simp;try with_reducible rfl);try simp only[UU])
       refine aO rfl rfl (λK hK=>?_);go_simp;with_reducible refine(Ao sx mx ex sp mp ep D B HD.out _ jd.out oH.out zo (by first|exact HU.out|exact aB.drew HU.out|exact aB.alloc HU.out _|exact aB.drew (aB.alloc HU.out _) |exact aB.alloc (aB.drew HU.out) _)).mono ?_
       rintro e w6 ⟨rfl,hq⟩;have ak:Bw wr w6:=by first|exact hq|exact cM hq
       obtain⟨Hy,y0,gm,y1,gp,y2,iE⟩:=mC Hy ak;replace kQ:=kW kQ ak;replace Hp:=kW Hp ak;replace Hs:=kW Hs ak;replace Hr:=kW Hr ak;replace Hq:=kW Hq ak;replace HU:=kT HU ak;obtain⟨nI,nJ,nK⟩:=kQ.out.w3;obtain⟨p0,p1,p2⟩:=Hp.out.w3;have s0:=Hs.out.w1;have r0:=Hr.out.w1;obtain⟨q0,q1,q2⟩:=Hq.out.w3;replace Hb:=bj Hb ak;refine hK _ _ (λ_=>⟨y0,y1,y2,nI,nJ,nK,p0,p1,p2,s0,r0,q0,q1,q2⟩) ?_;try simp only[UU]
       refine aO rfl rfl (λK hK=>?_);go_simp;refine hK _ _ (λ_=>⟨aM y0,aM y1,aM y2,aM nI,aM nJ,aM nK,aM p0,aM p1,aM p2,aM s0,aM r0,aM q0,aM q1,aM q2⟩) ?_;try simp only[UU]
       refine cg (λW7=>ar W7 (w6.heap.size) 45 [ag (az (dN D)),ah (nt (dN D).natAbs),af (dE D),ag (az (dN Q)),ah (nt (dN Q).natAbs),af (dE Q)]/\Bw w6 W7) (by first|exact iY|exact iZ) ?_;rintro W7 ⟨qe,ak⟩;have aza:=Hy.out.lt;replace Hy:=kB Hy ak;replace kQ:=kW kQ ak;replace Hp:=kW Hp ak;replace Hs:=kW Hs ak;replace Hr:=kW Hr ak;replace Hq:=kW Hq ak;replace HU:=kT HU ak;have He:=aj qe;clear qe;obtain⟨y0,gm,y1,gp,y2,iE⟩:=Hy.out.g3;obtain⟨nI,nJ,nK⟩:=kQ.out.w3;obtain⟨p0,p1,p2⟩:=Hp.out.w3;have s0:=Hs.out.w1;have r0:=Hr.out.w1;obtain⟨q0,q1,q2⟩:=Hq.out.w3;obtain⟨e0,e1,e2,e3,e4,e5⟩:=He.out.c6;replace Hb:=bj Hb ak;refine aO rfl rfl (λK hK=>?_);go_simp;with_reducible refine(Am _ _ _ _ _ _ Z (4*B+11) HZ.out w6.heap.size _ 45 _ Cj.out EU.out zo He.out (by first|exact HU.out|exact aB.drew HU.out|exact aB.alloc HU.out _|exact aB.drew (aB.alloc HU.out _) |exact aB.alloc (aB.drew HU.out) _)).mono ?_
       rintro e w8 ⟨rfl,hq⟩;have ak:Bw W7 w8:=by first|exact hq|exact cM hq
       obtain⟨Hy,y0,gm,y1,gp,y2,iE⟩:=mC Hy ak;replace kQ:=kW kQ ak;replace Hp:=kW Hp ak;replace Hs:=kW Hs ak;replace Hr:=kW Hr ak;replace Hq:=kW Hq ak;replace HU:=kT HU ak;replace He:=kB He ak;obtain⟨nI,nJ,nK⟩:=kQ.out.w3;obtain⟨p0,p1,p2⟩:=Hp.out.w3;have s0:=Hs.out.w1;have r0:=Hr.out.w1;obtain⟨q0,q1,q2⟩:=Hq.out.w3;obtain⟨e0,e1,e2,e3,e4,e5⟩:=He.out.c6;replace Hb:=bj Hb ak;refine hK _ _ (λ_=>⟨y0,y1,y2,nI,nJ,nK,p0,p1,p2,s0,r0,q0,q1,q2⟩) ?_;try simp only[UU]
       refine aO rfl rfl (λK hK=>?_);go_simp;refine hK _ _ (λ_=>⟨aM y0,aM y1,aM y2,aM nI,aM nJ,aM nK,aM p0,aM p1,aM p2,aM s0,aM r0,aM q0,aM q1,aM q2⟩) ?_;try simp only[UU]
       refine cg (λW9=>ar W9 (w8.heap.size) 45 [ag (az (dN S0)),ah (nt (dN S0).natAbs),af (dE S0),ag (az (dN Z)),ah (nt (dN Z).natAbs),af (dE Z)]/\Bw w8 W9) (by first|exact iY|exact iZ) ?_;rintro W9 ⟨qf,ak⟩;have azc:=Hy.out.lt;have ay1:=He.out.lt;replace Hy:=kB Hy ak;replace kQ:=kW kQ ak;replace Hp:=kW Hp ak;replace Hs:=kW Hs ak;replace Hr:=kW Hr ak;replace Hq:=kW Hq ak;replace HU:=kT HU ak;replace He:=kB He ak;have Hf:=aj qf;clear qf;obtain⟨y0,gm,y1,gp,y2,iE⟩:=Hy.out.g3;obtain⟨nI,nJ,nK⟩:=kQ.out.w3;obtain⟨p0,p1,p2⟩:=Hp.out.w3;have s0:=Hs.out.w1;have r0:=Hr.out.w1;obtain⟨q0,q1,q2⟩:=Hq.out.w3;obtain⟨e0,e1,e2,e3,e4,e5⟩:=He.out.c6;obtain⟨f0,f1,f2,f3,f4,f5⟩:=Hf.out.c6;replace Hb:=bj Hb ak;refine aO rfl rfl (λK hK=>?_);go_simp;with_reducible refine(yb _ _ _ _ _ _ S1 (5*B+16) NY.out w8.heap.size _ 45 _ EW.out xI.out zo Hf.out (by first|exact HU.out|exact aB.drew HU.out|exact aB.alloc HU.out _|exact aB.drew (aB.alloc HU.out _) |exact aB.alloc (aB.drew HU.out) _)).mono ?_
       rintro e jU ⟨rfl,hq⟩;have ak:Bw W9 jU:=by first|exact hq|exact cM hq
       obtain⟨Hy,y0,gm,y1,gp,y2,iE⟩:=mC Hy ak;replace kQ:=kW kQ ak;replace Hp:=kW Hp ak;replace Hs:=kW Hs ak;replace Hr:=kW Hr ak;replace Hq:=kW Hq ak;replace HU:=kT HU ak;replace He:=kB He ak;replace Hf:=kB Hf ak;obtain⟨nI,nJ,nK⟩:=kQ.out.w3;obtain⟨p0,p1,p2⟩:=Hp.out.w3;have s0:=Hs.out.w1;have r0:=Hr.out.w1;obtain⟨q0,q1,q2⟩:=Hq.out.w3;obtain⟨e0,e1,e2,e3,e4,e5⟩:=He.out.c6;obtain⟨f0,f1,f2,f3,f4,f5⟩:=Hf.out.c6;replace Hb:=bj Hb ak;refine hK _ _ (λ_=>⟨y0,y1,y2,nI,nJ,nK,p0,p1,p2,s0,r0,q0,q1,q2⟩) ?_;try simp only[UU]
       refine aO rfl rfl (λK hK=>?_);go_simp;refine hK _ _ (by first|exact λh=>absurd h zd|exact λ_=>⟨y0,y1,y2,nI,nJ,nK,p0,p1,p2,s0,r0,q0,q1,q2⟩ |exact λ_=>⟨(by first|exact y0|exact aC zf y0|exact aC zf (aC zf y0) |exact aC zf (aC zf (aC zf y0))),(by first|exact y1|exact aC zf y1|exact aC zf (aC zf y1) |exact aC zf (aC zf (aC zf y1))),(by first|exact y2|exact aC zf y2|exact aC zf (aC zf y2) |exact aC zf (aC zf (aC zf y2))),(by first|exact nI|exact aC zf nI|exact aC zf (aC zf nI) |exact aC zf (aC zf (aC zf nI))),(by first|exact nJ|exact aC zf nJ|exact aC zf (aC zf nJ) |exact aC zf (aC zf (aC zf nJ))),(by first|exact nK|exact aC zf nK|exact aC zf (aC zf nK) |exact aC zf (aC zf (aC zf nK))),(by first|exact p0|exact aC zf p0|exact aC zf (aC zf p0) |exact aC zf (aC zf (aC zf p0))),(by first|exact p1|exact aC zf p1|exact aC zf (aC zf p1) |exact aC zf (aC zf (aC zf p1))),(by first|exact p2|exact aC zf p2|exact aC zf (aC zf p2) |exact aC zf (aC zf (aC zf p2))),(by first|exact s0|exact aC zf s0|exact aC zf (aC zf s0) |exact aC zf (aC zf (aC zf s0))),(by first|exact r0|exact aC zf r0|exact aC zf (aC zf r0) |exact aC zf (aC zf (aC zf r0))),(by first|exact q0|exact aC zf q0|exact aC zf (aC zf q0) |exact aC zf (aC zf (aC zf q0))),(by first|exact q1|exact aC zf q1|exact aC zf (aC zf q1) |exact aC zf (aC zf (aC zf q1))),(by first|exact q2|exact aC zf q2|exact aC zf (aC zf q2) |exact aC zf (aC zf (aC zf q2)))⟩) ?_;try simp only[UU]
       simp only[bH];have hbe:=aF pM.out Hb.out;have zI:=aj hbe;clear hbe;go_wp2;refine⟨⟨k+1,by omega,by go_num,?_,?_⟩,by simp[intOf];omega⟩
       . rw[RY.out];exact((Hy.out.set 0 _).set 1 _).set 2 _
       . exact((zI.out.setCell (Nat.le_refl _) _).setCell (Nat.le_refl _) _).setCell (Nat.le_refl _) _
     . obtain rfl:k=n:=by omega
       rw[Yp.out i hlt]at hy;obtain⟨T,hTe⟩:=au (fK k P xf (i+1));have hTs:=KB.out i k (Nat.le_refl _);rw[Yp.out i hlt,hTe]at hTs;rw[hTe]at hy;obtain⟨Y,hY⟩:=au (wZ k P xf i-T);have hnx:=as6 k P xf i;rw[hTe,hY]at hnx;have EX:Hid (Fit (5*B+20) (canon T)):=(hTs.mono zo).fit zo;have xI:Hid (Fit (5*B+20) (canon (wZ k P xf i))):=((HwZ.out i zo).mono zo).fit zo;have HY:Hid (dval (canon (wZ k P xf i))-dval (canon T)=Y):=by show _=_;rw[bu,bu];exact hY
       obtain⟨O,hO⟩:=au (rR k P xf i);obtain⟨W0,hW0⟩:=au (wZ k P xf i);have hO0:∃O',O=W0::O':=⟨_,by rw[<-hO,<-hW0];rfl⟩;rw[hO]at hnx;have hov:=ownsRow_below Ho.out qb;rw[hO]at hov;rw[hW0]at xI HY;replace HY:Hid (dval (dx W0)-dval (dx T)=Y):=by show _=_;have h:=HY.out;exact h
       replace xI:Hid (Fit (5*B+20) (dx W0)):=xI;replace EX:Hid (Fit (5*B+20) (dx T)):=EX;have hOl:O.length=i+1:=by rw[<-hO];exact as5 _ _ _ _
       have Hy:Hid (ar wr wo.heap.size 45 (bE T)):=hy;obtain⟨cV,pM,zW,HO0,HOl,EI⟩:=fZ hov qb hnx hO0 hOl (HT.out.below (aF dQ.out (aF aP.out qb)));have VG:=qb.size;have hvb:∀g,v.ownBlock=some g->g<wo.heap.size:=λg e=>(hvl g e).2;clear hy hov qb hnx hO0 hOl hTs hTe hY hO hW0 Ho hvl;have Hb:=hbz wr;have IR:=Hy.out.lt;obtain⟨ae,ai⟩:=qZ (Hy.an trivial);have y1:wr.cell? ⟨wo.heap.size,1,none⟩=some (ah (nt (dN T).natAbs)):=ae.1.out.cell 1;have y2:wr.cell? ⟨wo.heap.size,2,none⟩=some (af (dE T)):=ae.1.out.cell 2;have y0:wr.cell? ⟨wo.heap.size,0,none⟩=some (ag (az (dN T))):=ae.1.out.cell 0;have P0:=y0;have P1:=y1;have P2:=y2;obtain⟨W6,pW,aG,ae,ai⟩:=bO wr (Hb.an ae) 45 (bE T);have cf:=ownsRow_below cV.out ae.2.1.out;have jS:=ae.2.1.out.size;go_wp2_with (at_builtin;refine wpList_append_own_at _ rfl _ _ 29 rfl w3.heap.size 45 i0 _ 3 32 Tryz.underlying29 Hi.out cu.out bV.out bX.out rfl zd v (i+1) (dC O) rfl cf ⟨wr.heap.size,0,none⟩ 1 1 (bE T) rfl rfl (fM ae.1.out) zy zx zo zo ?_;intro v' w7 dA eo _ fD;obtain⟨g',oL,rfl⟩:=ownsRow_succ dA);have apC:g'≠wo.heap.size:=by
        rcases fD with h|h
        . have:=hvb g' h.symm;omega
        . have h9:g'=W6.heap.size:=Option.some.inj h;omega
       have yJ:some wo.heap.size≠v.ownBlock:=λe=>by have:=hvb _ e.symm;omega
       have IQ:=ae.2.2.1.out.grown eo yJ;have gS:=(aF (aF aP.out pM.out) ae.2.1.out).grown eo zo (λj e=>cE cf j e);have e7:dC O++(bE T)=dC (O++[T]):=by rw[CU];rfl
       rw[e7]at dA
       have hwo:=(by
        obtain⟨O',Dh⟩:=HO0.out;obtain⟨aa,ca,jz,pY,_⟩:=cw dA;simp only[Value.slice.injEq,true_and]at jz;obtain⟨rfl,rfl⟩:=jz;rw[yc]at pY;obtain⟨b9,o9,e9,z0,z1,z2⟩:=pY.num 0 zm (show((O++[T]).map canon)[0]'zm=(dx W0)by simp[Dh];rfl);simp only[Option.some.injEq,Addr.mk.injEq,and_true]at e9;obtain⟨rfl,rfl⟩:=e9;rw[Nat.zero_mul,Nat.zero_add]at z0 z1 z2
        exact iI z0 z1 z2:aQ w7 g' 0 (bE W0))
       have SJ:=vr dA;obtain⟨vS,sk⟩:=aH dA gS;have Ho:Hid (aQ w7 g' 0 (bE W0)):=hwo;have Oa:=aj (HT.out.below (aF dQ.out gS));have Hy:Hid (ar w7 wo.heap.size 45 (bE T)):=IQ;clear P0 P1 P2 dA gS hwo IQ fD yJ e7 cf eo cV EI;have Hb:=hbz w7;have Ub:=ud (i+1+1) oL 0 0 (rfl:(some ⟨g',0,none⟩:Option Addr)=_) zo rfl;rw[Nat.zero_mul,Nat.add_zero]at Ub;obtain⟨ae,ai⟩:=qZ (Ho.an<|Hy.an trivial);have HU:Hid (aB w7):=Oa.out;obtain⟨Ho,Hy,_⟩:=ae;have o0:w7.cell? ⟨g',0,none⟩=some (ag (az (dN W0))):=Ho.out.cell 0 zm;have o1:w7.cell? ⟨g',1,none⟩=some (ah (nt (dN W0).natAbs)):=Ho.out.cell 1 zm;have o2:w7.cell? ⟨g',2,none⟩=some (af (dE W0)):=Ho.out.cell 2 zm;obtain⟨y0,y1,y2⟩:=Hy.out.c3;refine fx (λw'=>aJ w' g' 0 (ag (az (dN W0)))/\aJ w' g' 1 (ah (nt (dN W0).natAbs))/\aJ w' g' 2 (af (dE W0))/\aJ w' (wo.heap.size) 0 (ag (az (dN T)))/\aJ w' (wo.heap.size) 1 (ah (nt (dN T).natAbs))/\aJ w' (wo.heap.size) 2 (af (dE T))) (λi=>Nat.blt i 7) [(0,true),(1,true),(2,true),(3,true),(4,true),(5,false),(6,true),(7,false)] zk zk rfl zk zc ⟨o0,o1,o2,y0,y1,y2⟩ ?_;iterate 5 (refine pT rfl rfl ?_ (by intro w' ⟨q0,q1,q2,q3,q4,q5⟩;go_simp;try with_reducible rfl);try simp only[UU])
       refine aO rfl rfl (λK hK=>?_);go_simp;with_reducible refine(Ao (az (dN W0)) (nt (dN W0).natAbs) (dE W0) (az (dN T)) (nt (dN T).natAbs) (dE T) Y (5*B+20) HY.out _ xI.out EX.out zo (by first|exact HU.out|exact aB.drew HU.out|exact aB.alloc HU.out _|exact aB.drew (aB.alloc HU.out _) |exact aB.alloc (aB.drew HU.out) _)).mono ?_
       rintro e w8 ⟨rfl,hq⟩;have ak:Bw w7 w8:=by first|exact hq|exact cM hq
       replace Ho:=kW Ho ak;replace Hy:=kB Hy ak;replace HU:=kT HU ak;have o0:w8.cell? ⟨g',0,none⟩=some (ag (az (dN W0))):=Ho.out.cell 0 zm;have o1:w8.cell? ⟨g',1,none⟩=some (ah (nt (dN W0).natAbs)):=Ho.out.cell 1 zm;have o2:w8.cell? ⟨g',2,none⟩=some (af (dE W0)):=Ho.out.cell 2 zm;obtain⟨y0,y1,y2⟩:=Hy.out.c3;replace Hb:=bj Hb ak;refine hK _ _ (λ_=>⟨o0,o1,o2,y0,y1,y2⟩) ?_;try simp only[UU]
       refine pT rfl rfl ?_;try simp only[UU]
       refine aO rfl rfl (λK hK=>?_);have dO:=ownsRow_below vS.out Hb.out;have Da:=jT dO 0;have yg:=jT dO 1;have Gk:=jT dO 2;have gT:=aF sk.out Hb.out;obtain⟨iJ,jc⟩:=aH dO gT;clear dO gT;go_simp;refine hK _ _ (λh=>absurd h zd) ?_;try simp only[UU]
       simp only[bH];go_wp2;go_roundw;case rel=>
        refine⟨i+1,_,by omega,by go_num,rfl,?_,?_⟩
        . have h:=Zw (O++[T]) 0 Y;rw[zW.out]at h;rw[<-h];exact ja (ja (ja iJ.out _ _) _ _) _ _
        . exact((jc.out.setCell SJ.1 _).setCell SJ.1 _).setCell SJ.1 _
       case measure=>exact bi
  . obtain rfl:i=n:=by omega
    rw[eH.out]at ho;obtain⟨ho',aP⟩:=aH ho (aF dQ.out pb);clear ho pb;go_wp2;obtain⟨a',c',e1,h1,h2⟩:=cw ho'.out;subst e1;have hcc:i+1<=c':=by
     rcases ho'.out.2 with⟨h,h0⟩ |⟨g9,YX,Zq,h,_,_,h6,_⟩
     . omega
     . simp only[Value.slice.injEq,true_and]at h;omega
    exact bodyPost_ret (v:=.tuple #[.slice a' (i+1) c',af 0]) (by simp[results,Tryz.results172,go_sem]) rfl ⟨a',c',rfl,hcc,h1,aP.out⟩
def qJ (ds:List Dyadic):Bool:=ds.all λd=>decide (0<=bg d)
def asC (D:List Dyadic)(k:Nat)(hk:k<D.length)(h:qJ (D.take k)=true)(h2:0<=bg D[k]):qJ (D.take (k+1))=true:=by unfold qJ at h⊢;rw[List.take_add_one,List.all_append,h];simp[hk,h2]
def asB (D:List Dyadic)(k:Nat)(hk:k<D.length)(h2:¬0<=bg D[k]):qJ D=false:=by unfold qJ;rw[Bool.eq_false_iff];intro h;have:=List.all_eq_true.1 h _ (List.getElem_mem hk);simp at this;exact h2 this
def apk (s x:Value)(D:List Dyadic)(B:Nat)(c:Int)(w:World)(hD:∀d∈D,Sm B d)(hB:B<=268435456)(hD6:D.length<=60)(hw:∀W,Bw w W->Cl 172 #[s,x] W λe w'=>∃a' c',e=.returned (.tuple #[.slice a' D.length c',af c])/\At w' a' (dC D)/\Bw W w'):
 Cv 98 #[s,x] w (ag (qJ D&&c==0)):=by
 obtain⟨N,hN⟩:=au D.length;rw[hN]at hw hD6;obtain⟨Hw,HN,HD⟩:=bM hw hN hD;clear hw hN hD;have Hb:=hbz w;go_enter Tryz.func98,Tryz.ntmps98;go_wp2_with fail;refine(Hw.out _ Hb.out).mono ?_;rintro e w1 ⟨a1,c1,rfl,hat,ak⟩;obtain⟨dV,bI⟩:=aH hat (aF Hb.out ak);clear ak hat Hb;go_wp2_with fail;go_loopw[17] (λu wr=>∃k:Nat,k<=N/\u=af (k:Int)/\qJ (D.take k)=true/\Bw w1 wr) (λu _=>N-(intOf u).toNat);case atStart=>exact⟨0,Nat.zero_le _,rfl,rfl,Below.refl _ _⟩
 case round=>
  obtain⟨k,hk,rfl,pn,pb⟩:=hrel;obtain⟨mN,aP⟩:=aH pn pb;clear pn;by_cases hlt:k<N
  . have SU:k<D.length:=by rw[HN.out];exact hlt
    have acx:k<(D.map canon).length:=by rw[List.length_map];exact SU
    obtain⟨d,hd⟩:=au (D[k]);have hat':=dV.out.below pb;rw[yc]at hat';obtain⟨bx,ox,rfl,p0,p1,p2⟩:=hat'.num k acx (show(D.map canon)[k]=(dx d)by rw[<-hd];simp;rfl);have ixx:=ud N c1 k (k:Int) (rfl:(some ⟨bx,ox,none⟩:Option Addr)=_) hlt rfl;have jy:∀W,Cv 27 #[.agg #[ag (az (dN d)),ah (nt (dN d).natAbs),af (dE d)]] W (af (bg d)):=λW=>nV _ _ _ (bg d) (by show bg (dval (canon d))=_;rw[bu]) W ((HD.out d (by rw[<-hd];exact List.getElem_mem _)).ok hB);obtain⟨Hd,jp⟩:=aH hd jy;obtain⟨g,hg⟩:=au (bg d);rw[hg]at jp;have Hg:=aj hg;have Ud:bx<wr.heap.size:=World.block_lt_of_cell? wr _ p0;have Hb:=hbz wr;clear hd jy hg pb hat' acx;have P0:=p0;have P1:=p1;have P2:=p2;obtain⟨W2,ke,aG,ae,ai⟩:=bO wr (Hb.an trivial) 45 (bE d);go_wp2_with fail;refine aK ae (jp.out _) λw3 ae ai=>?_;have dW:=aj (aF aP.out ae.2.1.out);by_cases SK:g<0
    . go_wp2;go_ret;refine⟨by rw[asB D k SU (by rw[Hd.out,Hg.out];omega)];rfl,aF bI.out dW.out⟩
    . go_wp2;go_roundw;case rel=>exact⟨k+1,by omega,by go_num,asC D k SU mN.out (by rw[Hd.out,Hg.out];omega),dW.out⟩
      case measure=>exact bi
  . obtain rfl:k=N:=by omega
    have hall:qJ D=true:=by have:=mN.out;rwa [<-HN.out,List.take_length]at this
    have fP:=aj hall;clear hall pb;go_wp2;go_ret;exact⟨by rw[fP.out];rfl,aF bI.out aP.out⟩
def awI {n B:Nat}{p:Nat->Nat->Dyadic}{x:Nat->Dyadic}(hn:1<=n)(aS:n<=4)(h:∀a b,a<=n->b<n->Sm B (p a b))(hx:∀b,b<n->Sm B (x b)):∀d∈qR n p x,Sm (5*B+20) d:=by
 intro d hd;unfold qR at hd;obtain⟨i,hi,rfl⟩:=List.mem_map.1 hd;rw[List.mem_range]at hi;rcases i with _|i
 . rw[<-VT n hn aS];exact(VS hn aS h hx n (Nat.le_refl _)).mono zo
 . exact(agm hn aS h hx i zo).mono zo
def ae4 {n B:Nat}{rows:List (List Raw)}(hr:Rw n B rows)(a b:Nat)(ha:a<=n)(hb:b<n):Sm B (cO rows a b):=by have hL:=hr.1;rw[vA rows a b zo (by rw[hr.2.1 _ (List.getElem_mem _)];exact hb)];exact(hr.2.2 _ (List.getElem_mem _) _ (List.getElem_mem _)).2
def awM {n B:Nat}{xs:List Raw}(hxl:xs.length=n)(gW:∀x∈xs,Fit B x)(b:Nat)(hb:b<n):Sm B (dG xs b):=by rw[xA xs b zo];exact(gW _ (List.getElem_mem _)).2
def apj (a:Option Addr)(cap m:Nat)(rows:List (List Raw))(B:Nat)(xa:Option Addr)(xc:Nat)(xs:List Raw)(w:World)(hm:m+1<=4)(hr:Rw (m+1) B rows)(hcap:m+1+1<=cap)(ha:Tbl w a rows)(hx:At w xa (xs.flatMap aV))(hxl:xs.length=m+1)(gW:∀x∈xs,Fit B x)(hB:B<=200000)(hT:aB w)(h0:jb rows=0):
 Cv 98 #[.slice a (m+1+1) cap,.slice xa (m+1) xc] w (ag (qJ (qR (m+1) (cO rows) (dG xs)))):=by
 have h:=apk (.slice a (m+1+1) cap) (.slice xa (m+1) xc) (qR (m+1) (cO rows) (dG xs)) (5*B+20) 0 w (awI zo hm (ae4 hr) (awM hxl gW)) zo (by simp[qR];omega) (λW hW=>by
  refine(aws a cap m rows B xa xc xs W hm hr hcap (ha.below hW) (hx.below hW) hxl gW hB (hT.below hW) h0).mono ?_;rintro e w1 ⟨a1,c1,rfl,hc1,ht1,ak⟩
  exact⟨a1,c1,by simp[qR],ht1,ak⟩)
 simpa using h
end Go.Proofs.YtpfgffadgkkedaaGreatDoor
