/- Package slices: Clone,Delete,over numbers. -/
import Derived.Test.YtnjfebkelecgaaaGreatDoorZ7
import Derived.Test.YtnjfebkelecgaaaGreatDoorZ14
import Derived.Lib.SliceRun
import Derived.Test.YtnjfebkelecgaaaGreatDoorZ12
import Derived.Test.YtnjfebkelecgaaaGreatDoorZ11
set_option linter.all false
set_option maxRecDepth 100000
set_option maxHeartbeats 16000000
namespace Go.Proofs.YtnjfebkelecgaaaGreatDoor
open Go.RowKit
attribute [local go_sem ↓] Go.wp_at_zero Go.wp_at_succ
def aoc (a:Option Addr)(n cap:Nat)(cd:List Raw)(w:World)(hn:cd.length=n)(hl:n<=1048576)(hs:a=none->n=0/\cap=0)(ha:At w a (cd.flatMap bK)):
 Cl 201 #[.slice a n cap] w λe w'=>∃v',e=.returned v'/\w'.ownsRow w.heap.size 48 3 v' n (cd.flatMap bK)/\Bw w w':=by
 obtain⟨i0,hi,hz0,hz1,hz2⟩:=info_parts Tryz.aCm;have q:=λ(w:World) (a:Option Addr) (n c n' c':Nat)=>Lib.run_eql_slice_nil (P:=Tryz.prog) w 32 48 a n c n' c' Tryz.underlying32;have hlen:(cd.flatMap bK).length=n*3:=by rw[nU bK 3 (λ_=>rfl),hn]
 obtain⟨cs,hcs⟩:=aI (cd.flatMap bK);have h1:=JS cd;rw[hcs]at hlen ha h1⊢;obtain⟨jQ,Ha,H1,Hs,Hi,cV,cW,cC⟩:=om hlen ha h1 hs hi hz0 hz1 hz2;clear hlen ha h1 hs hi hz0 hz1 hz2 hn hcs;cases a with
 |none=>obtain⟨hn0,hc⟩:=Hs.out rfl;subst hc;subst hn0;go_enter Tryz.func201,Tryz.ntmps201;go_wp2;go_ret;refine⟨_,rfl,?_,Below.refl _ _⟩;have e:cs=[]:=List.eq_nil_of_length_eq_zero (by have:=jQ.out;omega);rw[e];exact World.ownsRow_nil _ _ _ _
 |some ad=>go_enter Tryz.func201,Tryz.ntmps201;go_wp2_with (at_builtin;refine ah9 rfl _ _ 32 rfl w.heap.size 48 i0 _ 3 32 Tryz.underlying32 Hi.out cV.out cW.out cC.out rfl zd _ 0 [] rfl (World.ownsRow_made w #[] 0 (Nat.le_refl _) (Nat.zero_le _) zm) (some ad) n cap cs rfl Hs.out jQ.out (Ha.out.below ((Below.refl _ w).alloc (Nat.le_refl _) _)) H1.out zx zo zm ?_;intro v' w1 hown hgrow eY);go_ret;refine⟨v',rfl,by simpa using hown,?_⟩;exact((Below.refl _ w).alloc (Nat.le_refl _) _).grown hgrow zm (λk hk=>by have h9:w.heap.size=k:=Option.some.inj hk;omega)
def Tryz.aCx (w:World):(zeroValue 48).run Tryz.prog w=.ok (.agg #[aj false,.string ⟨#[]⟩,ah 0]) w:=by kernel_rfl
def apq {α:Type}(f:α->List Value)(sz:Nat)(hf:∀x,(f x).length=sz)(xs:List α)(i:Nat)(hi:i<xs.length):(xs.eraseIdx i).flatMap f=(xs.flatMap f).take (i*sz)++(xs.flatMap f).drop ((i+1) *sz):=by
 have e:xs=xs.take i++xs[i]::xs.drop (i+1):=by rw[List.getElem_cons_drop,List.take_append_drop]
 have hl:((xs.take i).flatMap f).length=i*sz:=by rw[nU f sz hf,List.length_take,Nat.min_eq_left zo]
 have e1:xs.flatMap f=(xs.take i).flatMap f++(f xs[i]++(xs.drop (i+1)).flatMap f):=by
  conv=>lhs;rw[e]
  rw[List.flatMap_append,List.flatMap_cons]
 rw[e1,List.take_left' hl,List.drop_append,hl,List.drop_of_length_le (by rw[hl,Nat.add_mul];omega)];rw[show(i+1) *sz-i*sz=sz by rw[Nat.add_mul,Nat.one_mul];omega,List.nil_append,List.drop_left' (hf _),List.eraseIdx_eq_take_drop_succ,List.flatMap_append]
def aoO (g m cap i base:Nat)(cd:List Raw)(w:World)(hn:cd.length=m+1)(hl:m<=1048576)(hi:i<=m)
 (ho:w.ownsRow base 48 3 (.slice (some ⟨g,0,none⟩) (m+1) cap) (m+1) (cd.flatMap bK)):
 Cl 200 #[.slice (some ⟨g,0,none⟩) (m+1) cap,ah (i:Int),ah ((i+1:Nat):Int)] w λe w'=>e=.returned (.slice (some ⟨g,0,none⟩) m cap)/\
  w'.ownsRow base 48 3 (.slice (some ⟨g,0,none⟩) m cap) m ((cd.eraseIdx i).flatMap bK)/\w.grownBy w' (some g):=by
 obtain⟨i0,hi0,hz0,hz1,hz2⟩:=info_parts Tryz.aCm;have hcap:m+1<=cap:=(uz ho).1;have hcm:cap<=9223372036854775807:=by
  rcases ho.2 with⟨h1,_⟩ |⟨g',cap',cur,h1,hb,hg,h4,h5,_⟩
  . simp at h1
  . simp only[Value.slice.injEq]at h1;obtain⟨_,_,rfl⟩:=h1;unfold maxLen at h5;omega
 have Nu:=apq bK 3 (λ_=>rfl) cd i zo;have hlen:(cd.flatMap bK).length=(m+1) *3:=by rw[nU bK 3 (λ_=>rfl),hn]
 have h1:=JS cd;obtain⟨cs,hcs⟩:=aI (cd.flatMap bK);obtain⟨rs,hrs⟩:=aI ((cd.eraseIdx i).flatMap bK);rw[hcs]at hlen ho h1 Nu;rw[hrs]at Nu⊢;have Ee:=agn ho i zo;obtain⟨ad,had⟩:=aI (if cap=i+1 then(⟨g,0,none⟩:Addr)else⟨g,(i+1) *3,none⟩);have hsl:(if cap=i+1 then some (⟨g,0,none⟩:Addr)else some ⟨g,(i+1) *3,none⟩)=some ad:=by rw[<-had];split<;>rfl
 have hnews:Hid (∀j u,(cs.drop ((i+1) *3))[j]?=some u->w.drew.cell? (ad.add j)=some u):=by
  intro j u hj;rw[List.getElem?_drop]at hj;have hlt:=(List.getElem?_eq_some_iff.1 hj).1;have Ng:¬cap=i+1:=by omega
  rw[if_neg Ng]at had;subst had;have e2:((⟨g,(i+1) *3,none⟩:Addr).add j)=⟨g,(i+1) *3+j,none⟩:=by unfold Addr.add;cases j<;>simp
  rw[e2];have:=ho.cells (g:=g) rfl ((i+1) *3+j) u hj;have e3:((⟨g,0,none⟩:Addr).add ((i+1) *3+j))=⟨g,(i+1) *3+j,none⟩:=by unfold Addr.add;split<;>simp;omega
  rw[e3]at this;exact this
 have hnl:Hid ((cs.drop ((i+1) *3)).length=(m-i) *3):=by show _=_;rw[List.length_drop,hlen];omega
 have iB:Hid (∀u∈cs.drop ((i+1) *3),u.oneCell'=true):=λu hu=>h1 u (List.mem_of_mem_drop hu);have ZA:Hid (w.drew.ownsRow base 48 3 (.slice (some ⟨g,0,none⟩) i cap) i (cs.take (i*3))):=Ee;obtain⟨aj5,akQ,QH,Ax,Hi,cW⟩:=fw Nu hnews.out hnl.out iB.out hi0 hz1;have z:=Tryz.aCx;clear hnews hnl iB ho Ee hlen h1 Nu hcs hrs hn hi0 hz0 hz1 hz2;have hw1:IntKind.i64.wrap ((i:Int)+1)=((i+1:Nat):Int):=by rw[IntKind.wrap_i64];omega
 have hne:((i:Int)==((i+1:Nat):Int))=false:=by simp;omega
 have hcm2:¬cap=m:=by omega
 have xe:i+1<=m+1:=by omega
 have hmc:i+1<=cap:=by omega
 have hic:i<=cap:=by omega
 have h0i:(0:Int)<=(i:Int)+1:=by omega
 clear had;go_enter Tryz.func200,Tryz.ntmps200;go_wp2_with fail;have Hb:=hbz w;refine ez (λw'=>True) (λi=>Nat.blt i 100000) [(0,true),(1,true),(2,true),(3,true),(4,true),(5,true),(6,false),(7,true)] zk zk rfl zk zc True.intro ?_;iterate 6 (refine pT rfl rfl ?_;try simp only[UU])
 refine aY rfl rfl (λK hK=>?_);refine wp_append_own_spare _ _ _ 32 rfl base 48 i0 3 Tryz.underlying32 Hi.out cW.out g i cap (cs.take (i*3)) rfl ZA.out ad (m-i) (cap-(i+1)) (cs.drop ((i+1) *3)) rfl QH.out akQ.out Ax.out zo ?_;intro w1 dh hg1;refine hK _ _ (λ_=>True.intro) ?_;try simp only[UU]
 refine pT rfl rfl ?_;try simp only[Act.put,U1,U2]
 simp only[bP];have e9:i+(m-i)=m:=by omega
 rw[e9,<-aj5.out]at dh;obtain⟨w2,hcl,dX,hg2⟩:=WK w1 32 48 _ 3 Tryz.underlying32 Tryz.aCx rfl (by intro v hv;simp[Value.cells]at hv;rcases hv with rfl|rfl|rfl<;>rfl) g m 1 cap (cap-m) base rs dh zo;have uP:=az dX;have Qi:Hid (w.grownBy w2 (some g)):=grownBy_trans ⟨hg1.os,hg1.tape,hg1.output,hg1.size,hg1.block⟩ hg2;clear dh hg1 dX hg2 ZA hsl;go_wp2;go_ret;exact⟨rfl,uP.out,Qi.out⟩
def abq (l:List Dyadic)(c:Nat):(l.map canon).eraseIdx c=(l.eraseIdx c).map canon:=by apply List.ext_getElem?;intro i;rw[List.getElem?_eraseIdx,List.getElem?_map,List.getElem?_map,List.getElem?_map,List.getElem?_eraseIdx];split<;>rfl
def ayl (a:Option Addr)(cap m r c:Nat)(R:List (List Dyadic))(w:World)(hL:R.length=m+1)(hrow:∀x∈R,x.length=m+1)(hr:r<=m)(hc:c<=m)(hm:m<=7)(ha:bQ w a (R.map λx=>x.map canon)):
 Cl 181 #[.slice a (m+1) cap,ah (r:Int),ah (c:Int)] w λe w'=>∃a' c',e=.returned (.slice a' m c')/\m<=c'/\bQ w' a' ((iP R r c).map λx=>x.map canon)/\Bw w w':=by
 obtain⟨j0,hj,hy0,hy1,hy2⟩:=info_parts Tryz.aCq;obtain⟨S,hS⟩:=aI (iP R r c);have iM:=JP R r c m hL hr;have rC:=VQ R r c m hrow hc;have Ty:=VP R r c m hL hr;rw[hS]at iM rC Ty⊢;have xm:∀(W:World) (k:Nat) (hk:k<m+1),Bw w W->∃b o a1 c1,∃x:List Dyadic,R.getD k []=x/\x.length=m+1/\a=some ⟨b,o,none⟩/\W.cell? ⟨b,o+k,none⟩=some (.slice (some a1) (m+1) c1)/\At W (some a1) ((x.map canon).flatMap bK):=by
  intro W k hk hb;have hkR:k<R.length:=by omega
  obtain⟨b,o,a1,c1,h1,h2,h3⟩:=(ha.below hb).row k (by simp[hL];omega);have e1:(R.map λx=>x.map canon)[k]'(by simp[hL];omega)=R[k].map canon:=by simp
  have hxl:=hrow _ (List.getElem_mem hkR);rw[e1]at h2 h3;rw[List.length_map,hxl]at h2;cases a1 with
  | none=>
    rcases h3 with h3|⟨_,_,h3,_⟩
    . have:=congrArg List.length h3;rw[nU bK 3 (λ_=>rfl),List.length_map,hxl]at this;simp at this
    . cases h3
  |some a1=>exact⟨b,o,a1,c1,R[k],by simp[List.getD_eq_getElem?_getD,hkR],hxl,h1,h2,h3⟩
 obtain⟨Hj,kP,lN,kj,PE,HSr,ai1,LB⟩:=om hj hy0 hy1 hy2 iM rC Ty xm;clear hj hy0 hy1 hy2 iM rC Ty xm hS ha hL hrow;have Hb:=hbz w;go_enter Tryz.func181,Tryz.ntmps181;go_wp2_with fail;go_loopw[7,12] (λs7 x wr=>∃(k:Nat) (v:Value),k<=m+1/\x=ah (k:Int)/\v=s7/\Own2 32 wr w.heap.size S (if k<=r then k else k-1) v/\Bw w wr) (λ_ x _=>m+1-(intOf x).toNat);case atStart=>exact⟨0,_,Nat.zero_le _,rfl,rfl,by rw[if_pos (Nat.zero_le _)];exact Own2.nil _ _ _ _,Hb.out⟩
 case round=>
  clear Hb;obtain⟨k,v,hk,rfl,rfl,pv,pb⟩:=hrel;by_cases hlt:k<m+1
  . obtain⟨b,o,a1,c1,x,qJ,hxl,rfl,hc1,hat⟩:=LB.out wr k hlt pb;have bC:=xz (m+1) cap k (k:Int) (rfl:(some ⟨b,o,none⟩:Option Addr)=_) hlt rfl;rw[Nat.mul_one]at bC;by_cases hkr:k=r
    . subst hkr;obtain⟨eV,aX⟩:=aU pv pb;clear pv pb qJ hxl hat;have h3:((k:Int) !=(k:Int))=false:=by simp
      go_wp2;go_roundw;case rel=>exact⟨k+1,v,by omega,by go_num,rfl,by have h:=eV.out;rw[if_pos (Nat.le_refl _)]at h;rw[if_neg zo];exact h,aX.out⟩
      case measure=>exact bH
    . have h3:((k:Int) !=(r:Int))=true:=by simp;omega
      have h4:¬(k:Int)=(r:Int):=by omega
      obtain⟨j,hj⟩:=aI (if k<=r then k else k-1);have oc:(if k+1<=r then k+1 else k+1-1)=j+1:=by rw[<-hj];split<;>split<;>omega
      have hjm:j<m:=by rw[<-hj];split<;>omega
      have vD:(if j<r then j else j+1)=k:=by rw[<-hj];split<;>split<;>omega
      have Bq:S.getD j []=x.eraseIdx c:=by rw[ai1.out j hjm,vD,qJ]
      rw[hj]at pv;obtain⟨Z,hZ⟩:=aI (x.eraseIdx c);have vq:Z.length=m:=by rw[<-hZ,List.length_eraseIdx_of_lt zo];omega
      rw[hZ]at Bq
      -- the row,without its number
      have hcd:∀W,Bw wr W->Cl 201 #[.slice (some a1) (m+1) c1] W λe w'=>∃g cc,e=.returned (.slice (some ⟨g,0,none⟩) (m+1) cc)/\(wr.heap.size<=g/\∀W',Bw wr W'->w'=W'->Cl 200 #[.slice (some ⟨g,0,none⟩) (m+1) cc,ah (c:Int),ah ((c:Int)+1)] W' λe w''=>e=.returned (.slice (some ⟨g,0,none⟩) m cc)/\w''.ownsRow wr.heap.size 48 3 (.slice (some ⟨g,0,none⟩) m cc) m (dC Z)/\Bw wr w'')/\Bw W w':=by intro W hW;refine(aoc (some a1) (m+1) c1 (x.map canon) W (by rw[List.length_map,hxl]) zo (λe=>by cases e) (hat.below hW)).mono ?_;rintro e w' ⟨v',rfl,ho,hb⟩;obtain⟨g,cc,rfl,hg1,hg2,hg3⟩:=xK ho zo;have hsz:=hW.size;refine⟨g,cc,rfl,⟨by omega,λW' hW' e=>?_⟩,hb⟩;subst e;have hd:=aoO g m cc c wr.heap.size (x.map canon) w' (by rw[List.length_map,hxl]) zo hc (rM ho zo);rw[show((c+1:Nat):Int)=(c:Int)+1 by omega]at hd;refine hd.mono ?_;rintro e w'' ⟨rfl,dX,hg⟩;rw[abq,hZ,<-sk]at dX;exact⟨rfl,dX,hW'.grown hg hW'.size (λi e=>by have h9:g=i:=Option.some.inj e;omega)⟩
      obtain⟨YC,KJ,vS,eV,aX,Fz⟩:=fw hcd Bq vq pv pb oc;clear hcd Bq vq hZ pv pb oc vD hj qJ hxl hat;have fQ:=aX.out.size;have hwc:IntKind.i64.wrap ((c:Int)+1)=((c+1:Nat):Int):=by rw[IntKind.wrap_i64];omega
      have Ng:(c:Int)+1=((c+1:Nat):Int):=by omega
      obtain⟨Rn,Hci⟩:=aU hwc Ng;clear hwc Ng;go_wp2_with fail;refine(YC.out _ (Below.refl _ _)).mono ?_;rintro e w4 ⟨g,cc,rfl,⟨hg1,hdel⟩,hb4⟩;have YI:=az (hdel w4 hb4 rfl);clear hdel hc1 bC;go_wp2_with fail;refine YI.out.mono ?_;rintro e w5 ⟨rfl,zq,dK⟩;have fY:=zq.lt;obtain⟨a2,c2,Ub,jT,_⟩:=dm zq;simp only[Value.slice.injEq,true_and]at Ub;obtain⟨rfl,rfl⟩:=Ub;obtain⟨vals,hvl,hov,sL⟩:=eV.out.below dK;obtain⟨_,_,zu,_⟩:=eV.out;have hvs:=zu.lt;have hin:∀b o,(some ⟨g,0,none⟩:Option Addr)=some ⟨b,o,none⟩->some b≠v.ownBlock/\b<w5.heap.size:=by intro b o e;simp only[Option.some.injEq,Addr.mk.injEq,and_true]at e;obtain⟨rfl,rfl⟩:=e;have h1:=fY g rfl;refine⟨λh2=>?_,h1.2⟩;have h3:=hvs g h2.symm;omega
      obtain⟨yg,vU,mP,AK,dA,eP⟩:=fw hin jT hvl sL hov (aO aX.out dK);have OZ:=dK.size;clear hin jT hvl sL hov zu hvs fY zq dK hb4 YI YC hg1;have Hb:=hbz w5;obtain⟨W6,tZ,bi,ag,aC⟩:=cM w5 (Hb.an trivial) 32 [.slice (some ⟨g,0,none⟩) m cc];have dw:=ownsRow_below dA.out ag.2.1.out;have jH:=ag.2.1.out.size;have hnews:∀i u,([.slice (some ⟨g,0,none⟩) m cc]:List Value)[i]?=some u->W6.cell? ((⟨w5.heap.size,0,none⟩:Addr).add i)=some u:=gK ag.1.out;skip
      go_wp2_with (at_builtin;refine wpList_append_own_at _ rfl _ _ 82 rfl w.heap.size 32 j0 _ 1 24 Tryz.underlying82 Hj.out kP.out lN.out kj.out rfl zd v j vals rfl dw ⟨w5.heap.size,0,none⟩ 1 1 [.slice (some ⟨g,0,none⟩) m cc] rfl rfl hnews zy zx zo zo ?_;intro v' w7 ey eT _ eY;obtain⟨g',sj,rfl⟩:=ownsRow_succ ey);go_roundw;case rel=>
       refine⟨k+1,_,by omega,by go_num,rfl,?_,?_⟩
       . rw[Fz.out];refine Own2.push (a:=some ⟨g,0,none⟩) (c:=cc) mP.out (w:=W6) ?_ ?_ ?_ ?_ eT eY
         . intro i h;obtain⟨a,c,h1,h2,h3⟩:=AK.out i h;exact⟨a,c,h1,h2.below ag.2.1.out,λb o e=>⟨(h3 b o e).1,Nat.lt_of_lt_of_le (h3 b o e).2 jH⟩⟩
         . rw[KJ.out];exact vU.out.below ag.2.1.out
         . exact λb o e=>⟨(yg.out b o e).1,Nat.lt_of_lt_of_le (yg.out b o e).2 jH⟩
         . rw[KJ.out,vS.out];exact ey
       . exact(aO eP.out ag.2.1.out).grown eT zo (λj e=>dz dw j e)
      case measure=>exact bH
  . obtain rfl:k=m+1:=by omega
    rw[if_neg zo,Nat.add_sub_cancel]at pv;obtain⟨a2,c2,rfl,hcl,kE⟩:=Own2.aCA pv PE.out;obtain⟨yo,aX⟩:=aU kE pb;clear pv pb kE;go_wp2;refine bodyPost_ret (results_tmp rfl _ _ _) rfl ⟨a2,c2,rfl,hcl,yo.out,aX.out⟩
def anb (a:Option Addr)(c:Nat)(w:World):Cv 113 #[.slice a 0 c] w (dx 1):=by
 have Hb:=hbz w;go_enter Tryz.func113,Tryz.ntmps113;go_wp2_with fail;refine il w (Hb.an trivial) 46 [aj false,.string ⟨#[]⟩] λW bi ag aC=>?_;go_wp2_with fail;refine aZ ag (Xz 1 _ zd zd) λw1 ag aC=>?_;obtain⟨W2,nV,bi,ag,aC⟩:=cM w1 ag 46 [aj (aK 1),ai (nt 1)];go_wp2_with fail;go_loop [5,15] (λt x=>t=aj false/\x=ah 0) (λ_ _=>0)
 case atStart=>exact⟨rfl,rfl⟩
 case round=>obtain⟨rfl,rfl⟩:=hrel;go_wp2;refine eH (bG W2 (w.heap.size) 0 [aj (aK 1),ai (nt 1)]) bM ?_;intro w9 hs0;have ag:=cH hs0 ag;simp only[cB,List.set]at ag;have aC:=qC ag;refine bodyPost_ret (v:=dx 1) (by simp[results,Tryz.results113,go_sem,aC]) rfl ⟨rfl,ag.2.2.1.out⟩
def aoW (a:Option Addr)(cap:Nat)(w:World)(ha:bQ w a [])(hT:aR w):Cv 67 #[.slice a 0 cap] w (.tuple #[cw 1,ah 0]):=by obtain⟨O,hO⟩:∃O:Dyadic,(1:Dyadic)=O:=⟨_,rfl⟩;have hch:=λW=>λ(h:bQ W a [])=>VO a 0 cap [] W rfl zo h;rw[show xG []=0 from rfl]at hch;have hsc:=λW=>λ(h:bQ W a []) (hT:aR W)=>ag7 a 0 cap 0 [] 1 0 W rfl zo zo (λr hr=>by cases hr) h (λr hr=>by cases hr) zo hT rfl;have hmk:=λW=>λ(hT:aR W)=>zL (aK 1) (nt (1:Int).natAbs) 0 O (by rw[<-hO];rfl) W zd zd hT;rw[hO];obtain⟨tq,kN,lK,Ha,HT⟩:=fH hch hsc hmk ha hT;clear hch hsc hmk ha hT hO;have Hb:=hbz w;go_enter Tryz.func67,Tryz.ntmps67;go_wp2_with fail;refine il w (Hb.an trivial) 48 [aj false,.string ⟨#[]⟩,ah 0] λW bi ag aC=>?_;have HA:Hid (bQ W a []):=Ha.out.below ag.2.1.out;have HU:Hid (aR W):=HT.out.below ag.2.1.out;go_wp2_with fail;refine aZ (HA.an<|HU.an ag) (tq.out _ HA.out) λw1 ag aC=>?_;go_wp2_with fail;refine(kN.out _ ag.1.out ag.2.1.out).mono ?_;rintro e w2 ⟨v,rfl,hO,au⟩;obtain⟨ag,aC⟩:=qX au ag;obtain⟨vals,_,ho,_⟩:=hO;obtain⟨a2,c2,rfl,_,_⟩:=dm ho;clear ho;go_wp2_with fail;refine aZ ag (anb a2 c2 _) λw3 ag aC=>?_;go_wp2_with fail;refine aZ ag (lK.out _ ag.2.1.out) λw4 ag aC=>?_;go_wp2;refine eH (bG w4 (w.heap.size) 0 (bY O)) bM ?_;intro w9 hs0;have ag:=cH hs0 ag;simp only[cB,List.set]at ag;have aC:=qC ag;refine bodyPost_ret (v:=.tuple #[cw O,ah 0]) (by simp[results,Tryz.results67,go_sem,aC]) rfl ⟨rfl,ag.2.2.2.1.out⟩
def aaJ (R:List (List Dyadic)):((R.map λr=>r.map canon).map λr=>r.map aJ)=R:=by
 rw[List.map_map];have:((λr:List Raw=>r.map aJ)∘λr:List Dyadic=>r.map canon)=id:=by
  funext r
  show(r.map canon).map aJ=r
  rw[List.map_map];have:(aJ∘canon)=id:=funext cJ;rw[this];simp
 rw[this];simp
def ati (a':Option Addr)(c' m r c:Nat)(R:List (List Dyadic))(B:Nat)(w:World)(hL:R.length=m+1)(hrow:∀x∈R,x.length=m+1)(hr:r<=m)(hc:c<=m)(hm:m<=4)(hsm:∀x∈R,∀d∈x,Sm B d)(bX:1<=B)(hB:B<=1000000)(ht:bQ w a' ((iP R r c).map λx=>x.map canon))(hT:aR w):
 Cv 67 #[.slice a' m c'] w (.tuple #[cw (cX m (gL (cj R) r c)),ah 0]):=by
 have hl:=JP R r c m hL hr;by_cases h0:m=0
 . subst h0;have e:iP R r c=[]:=List.eq_nil_of_length_eq_zero hl;rw[e]at ht;exact aoW a' c' w ht hT
 . refine Su a' c' m ((iP R r c).map λx=>x.map canon) B (iP R r c) _ w zo hm (by rw[List.length_map,hl]) (λx hx=>?_) ht (λx hx y hy=>?_) bX hB hT (aaJ _) (afV R r c m hL hrow hr hc hm)
   . obtain⟨z,hz,rfl⟩:=List.mem_map.1 hx;rw[List.length_map];exact VQ R r c m hrow hc z hz
   . obtain⟨z,hz,rfl⟩:=List.mem_map.1 hx;obtain⟨d,hd,rfl⟩:=List.mem_map.1 hy;exact(afW hsm r c z hz d hd).fit zo
def anr (s:Nat)(h:s<=8):bits BinOp.and IntKind.i64 (s:Int) 1=((s%2:Nat):Int):=by
 have hc:s=0\/s=1\/s=2\/s=3\/s=4\/s=5\/s=6\/s=7\/s=8:=by omega
 rcases hc with rfl|rfl|rfl|rfl|rfl|rfl|rfl|rfl|rfl<;>rfl
def amw (a:Option Addr)(cap m:Nat)(R:List (List Dyadic))(B:Nat)(w:World)(hm:m+1<=4)(hL:R.length=m+1)(hrow:∀x∈R,x.length=m+1)(hsm:∀x∈R,∀d∈x,Sm B d)(bX:1<=B)(hB:B<=1000000)(ha:bQ w a (R.map λx=>x.map canon))(hT:aR w):
 Cl 153 #[.slice a (m+1) cap] w λe w'=>∃v,e=.returned (.tuple #[v,ah 0])/\gH w' w.heap.size (m+1) (tJ (m+1) (cj R)) (m+1) v/\Bw w w':=by
 obtain⟨i0,hi,hz0,hz1,hz2⟩:=info_parts Tryz.aCm;obtain⟨j0,hj,hy0,hy1,hy2⟩:=info_parts Tryz.aCq;have eX:=λW (hW:Bw w W)=>VO a (m+1) cap (R.map λx=>x.map canon) W (by rw[List.length_map,hL]) zo (ha.below hW);have hm0:xG (R.map λx=>x.map canon)=0:=by
  unfold xG;rw[if_neg];rintro(h|h)
  . rw[List.length_map]at h;omega
  . rw[List.any_eq_true]at h;obtain⟨r,hr,h⟩:=h;obtain⟨z,hz,rfl⟩:=List.mem_map.1 hr;have:=hrow z hz;simp at h;omega
 rw[hm0]at eX;have hwo:=λr c (hr:r<=m) (hc:c<=m) W (hW:Bw w W)=>ayl a cap m r c R W hL hrow hr hc zo (ha.below hW);have kD:=λr c (hr:r<=m) (hc:c<=m) W (hW:Bw w W) a' c' (ht:bQ W a' ((iP R r c).map λx=>x.map canon))=>ati a' c' m r c R B W hL hrow hr hc zo hsm bX hB ht (hT.below hW);have hds:∀r c,r<=m->c<=m->Sm (4*B+6) (cX m (gL (cj R) r c)):=by
  intro r c hr hc;refine Dr zo (λi j hi hj=>?_);have hk:(if i<r then i else i+1)<R.length:=by split<;>omega
  have hl:=hrow _ (List.getElem_mem hk);have hk2:(if j<c then j else j+1)<R[if i<r then i else i+1].length:=by rw[hl];split<;>omega
  have e:gL (cj R) r c i j=R[if i<r then i else i+1][if j<c then j else j+1]:=by
   show(R.getD (if i<r then i else i+1) []).getD (if j<c then j else j+1) 0=_
   rw[List.getD_eq_getElem?_getD (l:=R),List.getElem?_eq_getElem hk,Option.getD_some,List.getD_eq_getElem?_getD,List.getElem?_eq_getElem hk2];rfl
  rw[e];exact hsm _ (List.getElem_mem hk) _ (List.getElem_mem hk2)
 obtain⟨f,hf⟩:=aI (cj R);rw[hf]at kD hds⊢;have SX:=λi (h:i<m+1)=>aav (m+1) f i h;obtain⟨A,hA⟩:=aI (tJ (m+1) f);rw[hA]at SX⊢;obtain⟨Hi,cV,cW,cC,Hj,kP,lN,kj,nR,Hwo,Au,Lf⟩:=fu hi hz0 hz1 hz2 hj hy0 hy1 hy2 eX hwo kD hds;obtain⟨HT,ail⟩:=aU hT SX;clear hi hz0 hz1 hz2 hj hy0 hy1 hy2 eX hwo kD hds hT SX hA hf hm0 ha hsm hrow hL;have Hb:=hbz w;go_enter Tryz.func153,Tryz.ntmps153;go_wp2_with fail;refine aZ (Hb.an trivial) (nR.out _ Hb.out) λw1 ag aC=>?_;go_wp2_with fail;go_loopw[5,18] (λs5 x wr=>∃(k:Nat) (v:Value),k<=m+1/\x=ah (k:Int)/\v=s5/\gH wr w.heap.size (m+1) A k v/\Bw w wr) (λ_ x _=>m+1-(intOf x).toNat);case atStart=>exact⟨0,_,Nat.zero_le _,rfl,rfl,gH.nil _ _ _ _,ag.1.out⟩
 case round=>
  skip
  obtain⟨k,v,hk,rfl,rfl,pv,pb⟩:=hrel;obtain⟨eV,aX⟩:=aU pv pb;clear pv pb;by_cases hlt:k<m+1
  . obtain⟨Z,hZ⟩:=aI ((List.range (m+1)).map λb=>mW (m+1) f k b);have yc:Hid (A.getD k []=Z):=by show _=_;rw[ail.out k hlt,hZ]
    have vS:Hid (Z.length=m+1):=by show _=_;rw[<-hZ];simp
    have HZa:Hid (∀j (h:j<m+1),Z.take (j+1)=Z.take j++[mW (m+1) f k j]):=by intro j h;rw[List.take_succ_eq_append_getElem (by rw[vS.out];exact h)];congr 2;simp[<-hZ]
    clear hZ;obtain⟨wq,hwc⟩:∃wq,wq=wr:=⟨_,rfl⟩;subst hwc;have fQ:=aX.out.size;have xd:decide ((k:Int)<(m:Int)+1)=true:=by simp;omega
    go_wp2_with fail;clear xd;go_loopw[7,23] (λs7 x wr=>∃(j:Nat) (v2:Value),j<=m+1/\x=ah (j:Int)/\v2=s7/\wr.ownsRow wq.heap.size 48 3 v2 j (dC (Z.take j))/\Bw wq wr) (λ_ x _=>m+1-(intOf x).toNat);case atStart=>exact⟨0,_,Nat.zero_le _,rfl,rfl,World.ownsRow_nil _ _ _ _,Below.refl _ _⟩
    case round=>
     obtain⟨j,v2,hj,rfl,rfl,ho,hb2⟩:=hrel;obtain⟨Ho,cQ⟩:=aU ho hb2;have szb:=hb2.size;clear ho hb2;by_cases bj:j<m+1
     . obtain⟨X,hX⟩:=aI (cX m (gL f j k));obtain⟨Y,hY⟩:=aI (mW (m+1) f k j);have hYX:Y=if(k+j)%2=1 then-X else X:=by rw[<-hY,<-hX];rfl
       have fM:=Lf.out j k zo zo;rw[hX]at fM;have hst:dC (Z.take (j+1))=dC (Z.take j)++(bY Y):=by rw[HZa.out j bj,hY,Dn];rfl
       have bE:=aO aX.out cQ.out;have hd:=λW hW a' c' ht=>Au.out j k zo zo W hW a' c' ht;rw[hX]at hd;obtain⟨Hd,cu,PG⟩:=cE hd hst hYX;have Yr:Hid (Ok (canon X)):=fM.ok zo;have pM:=az bE;clear hd hst hYX hX hY fM bE;have Hb:=hbz wr;go_wp2_with fail;refine(Hwo.out j k zo zo _ pM.out).mono ?_;rintro e w3 ⟨a3,c3,rfl,hc3,Jr,au⟩;obtain⟨ag,aC⟩:=qX au (Hb.an trivial);have LD:=az Jr;clear Jr;go_wp2_with fail;refine aZ ag (Hd.out _ (aO pM.out ag.1.out) a3 c3 LD.out) λw4 ag aC=>?_;clear LD;have sz4:=ag.1.out.size;obtain⟨W5,yN,bi,ag,aC⟩:=cM w4 ag 48 (bY X);have DT:=anr (k+j) zo;rw[Int.natCast_add]at DT;go_upto_if 38 with fail
       go_cut[7] (λs7 wx=>s7=v2/\aH wx w4.heap.size 48 (bY Y)/\Bw wr wx);case first=>
        by_cases hp:(k+j)%2=1
        . have h9:(bits BinOp.and IntKind.i64 ((k:Int)+(j:Int)) 1==1)=true:=by rw[DT,hp];rfl
          have hY: -aJ (canon X)=Y:=by rw[cJ,PG.out,if_pos hp]
          have HY:=az hY;clear hY DT;go_wp2_with fail;refine aZ ag (Sq _ _ _ Y HY.out _ Yr.out (HT.out.below (aO pM.out ag.2.1.out))) λw6 ag aC=>?_;go_wp2_with fail;go_meet;exact⟨rfl,((ag.1.out.set 0 _).set 1 _).set 2 _,((ag.2.1.out.setCell zp _).setCell zp _).setCell zp _⟩
        . have h9:(bits BinOp.and IntKind.i64 ((k:Int)+(j:Int)) 1==1)=false:=by rw[DT,show(k+j)%2=0 by omega];rfl
          have hY:Y=X:=by rw[PG.out,if_neg hp]
          subst hY;clear DT;go_wp2_with fail;go_meet;exact⟨rfl,ag.1.out,ag.2.1.out⟩
       case rest=>
        obtain⟨rfl,hx,hb⟩:=hcut;clear DT;have Hx:Hid (aH wc w4.heap.size 48 (bY Y)):=hx;have ye:=az (aO cQ.out hb);have hov:=ownsRow_below Ho.out hb;have dA:=az hov;have szc:=hb.size;clear hx hb hov Ho Hd PG Yr pM cQ;have Hb:=hbz wc;obtain⟨ag,aC⟩:=qZ (Hx.an trivial);have x0:wc.cell? ⟨w4.heap.size,0,none⟩=some (aj (aK (dN Y))):=ag.1.out.cell 0;have x1:wc.cell? ⟨w4.heap.size,1,none⟩=some (ai (nt (dN Y).natAbs)):=ag.1.out.cell 1;have x2:wc.cell? ⟨w4.heap.size,2,none⟩=some (ah (dE Y)):=ag.1.out.cell 2;have P0:=x0;have P1:=x1;have P2:=x2;obtain⟨W6,tZ,bi,ag,aC⟩:=cM wc (Hb.an ag) 48 (bY Y);have dw:=ownsRow_below dA.out ag.2.1.out;have jH:=ag.2.1.out.size;go_wp2_with (at_builtin;refine wpList_append_own_at _ rfl _ _ 32 rfl wq.heap.size 48 i0 _ 3 32 Tryz.underlying32 Hi.out cV.out cW.out cC.out rfl zd _ j (dC (Z.take j)) rfl dw ⟨wc.heap.size,0,none⟩ 1 1 (bY Y) rfl rfl (gK ag.1.out) zy zx zo zo ?_;intro v' w7 ey eT _ eY;obtain⟨g',sj,rfl⟩:=ownsRow_succ ey);go_roundw;case rel=>exact⟨j+1,_,by omega,by go_num,rfl,by rw[cu.out];exact ey,(aO ye.out ag.2.1.out).grown eT zo (λj e=>dz dw j e)⟩
        case measure=>exact bH
     . obtain rfl:j=m+1:=by omega
       have ub:Z.take (m+1)=Z:=List.take_of_length_le (by rw[vS.out];exact Nat.le_refl _);rw[ub]at Ho;have fY:=Ho.out.lt;obtain⟨a2,cap2,rfl,_,_⟩:=dm Ho.out;obtain⟨vals,hvl,zu,Vh,Jx⟩:=eV.out;have hov:=ownsRow_below zu cQ.out;have sL:=λi h=>ownsRow_below (Vh i h) cQ.out;have jh:∀g,(Value.slice a2 (m+1) cap2).ownBlock=some g->∀i (h:i<vals.length),vals[i].ownBlock≠some g:=λg e i h e2=>by have h1:=(fY g e).1;have h2:=((Vh i h).lt g e2).2;omega
       have hx:=rM Ho.out fQ;obtain⟨mP,AK,dA,Rk,Aw,Hxx⟩:=fw hvl sL hov Jx jh hx;clear hvl sL hov zu Vh Jx jh hx fY ub;have Hb:=hbz wr;obtain⟨W6,tZ,bi,ag,aC⟩:=cM wr (Hb.an trivial) 32 [.slice a2 (m+1) cap2];have dw:=ownsRow_below dA.out ag.2.1.out;have jH:=ag.2.1.out.size;go_wp2_with (at_builtin;refine wpList_append_own_at _ rfl _ _ 82 rfl w.heap.size 32 j0 _ 1 24 Tryz.underlying82 Hj.out kP.out lN.out kj.out rfl zd v k vals rfl dw ⟨wr.heap.size,0,none⟩ 1 1 [.slice a2 (m+1) cap2] rfl rfl (gK ag.1.out) zy zx zo zo ?_;intro v' w7 ey eT _ eY;obtain⟨g',sj,rfl⟩:=ownsRow_succ ey);go_roundw;case rel=>refine⟨k+1,_,by omega,by go_num,rfl,gH.push mP.out dw (λi h=>ownsRow_below (AK.out i h) ag.2.1.out) Rk.out (by rw[yc.out];exact ownsRow_below Hxx.out ag.2.1.out) Aw.out ey eT,?_⟩;exact(aO (aO aX.out cQ.out) ag.2.1.out).grown eT zo (λj e=>dz dw j e)
       case measure=>exact bH
  . obtain rfl:k=m+1:=by omega
    go_wp2;exact bodyPost_ret (v:=.tuple #[v,ah 0]) (by simp[results,Tryz.results153,go_sem]) rfl ⟨v,rfl,eV.out,aX.out⟩
end Go.Proofs.YtnjfebkelecgaaaGreatDoor
namespace Go.Proofs.YtnjfebkelecgaaaGreatDoor
def tK (n:Nat)(p:Nat->Nat->Dyadic):List (List Dyadic):=(List.range n).map λa=>(List.range n).map λb=>mV n p a b
def RO (n:Nat)(p:Nat->Nat->Dyadic):(tK n p).length=n:=by simp[tK]
def RP (n:Nat)(p:Nat->Nat->Dyadic):∀r∈tK n p,r.length=n:=by intro r hr;unfold tK at hr;obtain⟨x,_,rfl⟩:=List.mem_map.1 hr;simp
def aau (n:Nat)(p:Nat->Nat->Dyadic)(a b:Nat)(ha:a<n)(hb:b<n):cj (tK n p) a b=mV n p a b:=by unfold cj tK;simp[List.getD_eq_getElem?_getD,ha,hb]
def axs {n:Nat}{R S:List (List Dyadic)}(h1:R.length=n)(h2:∀r∈R,r.length=n)(h3:S.length=n)(h4:∀r∈S,r.length=n)(h:∀a b,a<n->b<n->cj R a b=cj S a b):R=S:=by apply List.ext_getElem zo;intro i hi hj;have l1:=h2 _ (List.getElem_mem hi);have l2:=h4 _ (List.getElem_mem hj);apply List.ext_getElem zo;intro j k1 k2;have:=h i j zo zo;unfold cj at this;simpa[List.getD_eq_getElem?_getD,hi,hj,k1,k2]using this
def ams (n:Nat)(dv:n<=4){e f:Nat->Nat->Dyadic}(h:∀i j,i<n->j<n->e i j=f i j)(a b:Nat)(ha:a<n)(hb:b<n):mW n e a b=mW n f a b:=by
 have:cX (n-1) (gL e b a)=cX (n-1) (gL f b a):=GC (n-1) zo (λi j hi hj=>by
  unfold gL
  exact h _ _ (by split<;>omega) (by split<;>omega))
 unfold mW;rw[this]
def apn {n:Nat}{R:List (List Dyadic)}(h1:R.length=n)(h2:∀r∈R,r.length=n)(i j:Nat)(hi:i<n)(hj:j<n)(y:Dyadic)(a b:Nat)(ha:a<n)(hb:b<n):cj (R.set i ((R.getD i []).set j y)) a b=if a=i/\b=j then y else cj R a b:=by
 unfold cj;by_cases e:a=i
 . subst e;rw[List.getD_eq_getElem?_getD (l:=R.set _ _),List.getElem?_set_self zo,Option.getD_some];have hl:(R.getD a []).length=n:=by
    have e:R.getD a []=R[a]'zo:=by rw[List.getD_eq_getElem?_getD,List.getElem?_eq_getElem zo];rfl
    rw[e];exact h2 _ (List.getElem_mem _)
   by_cases e2:b=j
   . subst e2;rw[if_pos ⟨rfl,rfl⟩,List.getD_eq_getElem?_getD,List.getElem?_set_self zo];rfl
   . rw[if_neg (λh=>e2 h.2),List.getD_eq_getElem?_getD,List.getElem?_set_ne (λh=>e2 h.symm),<-List.getD_eq_getElem?_getD]
 . rw[if_neg (λh=>e h.1),List.getD_eq_getElem?_getD (l:=R.set _ _),List.getElem?_set_ne (λh=>e h.symm),<-List.getD_eq_getElem?_getD]
def awK {n:Nat}{R:List (List Dyadic)}(h1:R.length=n)(h2:∀r∈R,r.length=n)(i j:Nat)(hi:i<n)(y:Dyadic):(R.set i ((R.getD i []).set j y)).length=n/\∀r∈R.set i ((R.getD i []).set j y),r.length=n:=by
 refine⟨by rw[List.length_set];exact h1,λr hr=>?_⟩;rcases List.mem_or_eq_of_mem_set hr with h|h
 . exact h2 r h
 . rw[h,List.length_set];have e:R.getD i []=R[i]'zo:=by rw[List.getD_eq_getElem?_getD,List.getElem?_eq_getElem zo];rfl
   rw[e];exact h2 _ (List.getElem_mem _)
def awM (X:Dyadic):(if dR X<0 then-X else X)=rP X*X:=by
 rw[awL];by_cases h:X<0
 . rw[if_pos h,if_pos ((Sy X).2 h)]
 . rw[if_neg h,if_neg (λh2=>h ((Sy X).1 h2))]
def kU (k j a b:Nat):Prop:=a<k\/a=k/\b<j
instance (k j a b:Nat):Decidable (kU k j a b):=inferInstanceAs (Decidable (_\/_))
end Go.Proofs.YtnjfebkelecgaaaGreatDoor
namespace Go.Proofs.YtnjfebkelecgaaaGreatDoor
open Go.RowKit
attribute [local go_sem ↓] Go.wp_at_zero Go.wp_at_succ
def aar (w:World)(n:Nat)(p:Nat->Nat->Dyadic)(e:Ending)(w':World):Prop:=
 ∃a' c',e=.returned (.tuple #[cw (rP (jd n p) *jd n p),.slice a' n c',ah 0])/\n<=c'/\bQ w' a' ((tK n p).map λr=>r.map canon)/\Bw w w'
def gH.blk {w:World}{base n L go cap:Nat}{R:List (List Dyadic)}(h:gH w base n R L (.slice (some ⟨go,0,none⟩) L cap))(i:Nat)(hi:i<L)(hn:0<n):base<=go/\∃g c,w.cell? ⟨go,i,none⟩=some (.slice (some ⟨g,0,none⟩) n c)/\base<=g/\g<w.heap.size/\g≠go:=by
 obtain⟨vals,hl,ho,hv,hd⟩:=h;have hi2:i<vals.length:=by omega
 have hrow:=hv i hi2;obtain⟨g,c,e1,hg1,hg2,_⟩:=xK hrow hn;have eY:=Cq ho;have hc:=nK ho i zo;rw[e1]at hc;refine⟨eY.1,g,c,hc,hg1,hg2,?_⟩;rintro rfl;rw[e1]at hrow;rcases hrow.2 with⟨h1,_⟩ |⟨g',c',cur,h1,_,h2,_⟩
 . simp at h1
 . simp only[Value.slice.injEq,Option.some.injEq,Addr.mk.injEq,and_true,true_and]at h1;obtain⟨rfl,rfl⟩:=h1;rcases ho.2 with⟨h3,_⟩ |⟨g2,c2,azi,h3,_,h4,_⟩
   . simp at h3
   . simp only[Value.slice.injEq,Option.some.injEq,Addr.mk.injEq,and_true,true_and]at h3;obtain⟨rfl,rfl⟩:=h3;rw[h2]at h4;simp at h4
def gH.aCu {w:World}{base n k:Nat}{R:List (List Dyadic)}{v:Value}(h:gH w base n R k v){p:Addr}(hp:p.block<base)(x:Value):gH (w.setCell p x) base n R k v:=by
 obtain⟨vals,hl,ho,hi,hd⟩:=h;have hne:∀{u:Value} {e:TypeId} {sz m:Nat} {xs:List Value},w.ownsRow base e sz u m xs->u.ownBlock≠some p.block:=λh e=>by have:=(h.lt _ e).1;omega
 exact⟨vals,hl,ownsRow_setCell_other ho (hne ho) _,λi h=>ownsRow_setCell_other (hi i h) (hne (hi i h)) _,hd⟩
def asa (a:Option Addr)(cap m:Nat)(rows:List (List Raw))(B:Nat)(w:World)(hm:m+1<=4)(hr:Rw (m+1) B rows)(hcap:m+1+1<=cap)(ha:bQ w a rows)(hB:B<=200000)(hT:aR w)(h0:eU rows=0):
 Cl 115 #[.slice a (m+1+1) cap] w (aar w (m+1) (gy rows)):=by
 obtain⟨n,hn⟩:=aI (m+1);have hL:=hr.1;have hrow:=hr.2.1;have hfit:=hr.2.2;obtain⟨b,o,rfl⟩:∃b o,a=some ⟨b,o,none⟩:=by
  obtain⟨vals,hvl,hat,_⟩:=ha;rcases hat with h|⟨b,o,h,_⟩
  . rw[h]at hvl;simp at hvl;omega
  . exact⟨b,o,h⟩
 have eX:=λW (hW:Bw w W)=>Pg (some ⟨b,o,none⟩) (m+1+1) cap rows B W hL zo hcap (ha.below hW) hfit zo (hT.below hW);rw[h0]at eX;obtain⟨S,hS⟩:=aI ((rows.drop 1).map λp=>iY (rows.getD 0 []) p);have iM:S.length=m+1:=by rw[<-hS];simp[hL]
 have h00:0<rows.length:=by omega
 have e0:rows.getD 0 []=rows[0]:=by simp[h00]
 have rC:∀r∈S,r.length=m+1:=by intro r hr;rw[<-hS]at hr;obtain⟨p,hp,rfl⟩:=List.mem_map.1 hr;rw[Dt (by rw[e0,hrow _ (List.mem_of_mem_drop hp),hrow _ (List.getElem_mem h00)]),hrow _ (List.mem_of_mem_drop hp)]
 have kC:∀r∈S,∀d∈r,Sm (B+1) d:=by intro r hr d hd;rw[<-hS]at hr;obtain⟨p,hp,rfl⟩:=List.mem_map.1 hr;unfold iY at hd;obtain⟨i,hi,rfl⟩:=List.mem_iff_getElem.1 hd;rw[List.getElem_zipWith];refine Sm.sub (hfit p (List.mem_of_mem_drop hp) _ (List.getElem_mem _)).2 (hfit (rows.getD 0 []) ?_ _ (List.getElem_mem _)).2;rw[e0];exact List.getElem_mem h00
 obtain⟨P,hP⟩:=aI (gy rows);have IH:∀i j,i<m+1->j<m+1->cj S i j=Du P i j:=λi j hi hj=>by rw[<-hS,<-hP];exact WV (m+1) rows hL hrow i j hi hj
 obtain⟨X,hX⟩:=aI (jd (m+1) P);have hent:cX (m+1) (cj S)=X:=by rw[<-hX,GF];exact GC (m+1) hm IH
 have hro:=λW (hW:Bw w W)=>agW b o cap (m+1) (m+1) rows B W hL zo hcap zo zo zo hrow (ha.below hW) hfit zo (hT.below hW);rw[hS]at hro
 have kD:=λW (hW:Bw w W) a' c' (h:bQ W a' (S.map λr=>r.map canon))=>Su a' c' (m+1) (S.map λr=>r.map canon) (B+1) S X W zo hm (by simpa using iM) (by
  intro r hr;obtain⟨x,hx,rfl⟩:=List.mem_map.1 hr
  simpa using rC x hx) h (by
  intro r hr c hc;obtain⟨x,hx,rfl⟩:=List.mem_map.1 hr;obtain⟨y,hy,rfl⟩:=List.mem_map.1 hc
  exact(kC x hx y hy).fit zo) zo zo (hT.below hW) (aaJ S) hent
 have wW:=λW (hW:Bw w W) a' c' (h:bQ W a' (S.map λr=>r.map canon))=>(amw a' c' m S (B+1) W hm iM rC kC zo zo h (hT.below hW)).mono (λe w' h=>(match h with|⟨v,h1,h2,h3⟩=>⟨v,h1,h2,h3,h3⟩:∃v,e=.returned (.tuple #[v,ah 0])/\gH w' W.heap.size (m+1) (tJ (m+1) (cj S)) (m+1) v/\Bw W w'/\Bw W w'));have fM:Sm (4*B+11) X:=by rw[<-hent];refine(Dr (B:=B+1) hm (λi j hi hj=>?_)).mono zo;rw[IH i j hi hj,<-hP];exact GG (n:=m+1) (B:=B) (λa b ha hb=>by rw[xN rows a b zo (by rw[hrow _ (List.getElem_mem _)];exact hb)];exact(hfit _ (List.getElem_mem _) _ (List.getElem_mem _)).2) i j hi hj
 have jI:=λW=>vg (aK (dN X)) (nt (dN X).natAbs) (dE X) (dR X) (by show dR (aJ (canon X))=_;rw[cJ]) W (fM.ok zo);have IJ: -1<=dR X/\dR X<=1:=by unfold dR fU;split<;>(try split)<;>omega
 obtain⟨G,hG⟩:=aI (rP X);have hof:=λW (hW:Bw w W)=>GA (dR X) G (by rw[<-hG];rfl) W zo (hT.below hW)
 have hab:=λW (hW:Bw w W)=>aoD (aK (dN X)) (nt (dN X).natAbs) (dE X) (G*X) (by
  have e:aJ (jP X)=X:=cJ X
  rw[e,awM,hG]) W (fM.ok zo) (hT.below hW)
 have hGf:Fit (4*B+11) (canon G):=(by rw[<-hG];exact(WR X).mono zo:Sm (4*B+11) G).fit zo;have tT:∀i j,i<m+1->j<m+1->Fit (4*B+11) (canon (mW (m+1) (cj S) i j)):=λi j hi hj=>by refine((aat (B:=B+1) zo hm (λa b ha hb=>?_) i j).mono zo).fit zo;rw[IH a b ha hb,<-hP];exact GG (n:=m+1) (B:=B) (λa b ha hb=>by rw[xN rows a b zo (by rw[hrow _ (List.getElem_mem _)];exact hb)];exact(hfit _ (List.getElem_mem _) _ (List.getElem_mem _)).2) a b ha hb
 have hfin:∀R:List (List Dyadic),R.length=m+1->(∀r∈R,r.length=m+1)->(∀a b,a<m+1->b<m+1->cj R a b=mW (m+1) (cj S) a b*G)->R=tK (m+1) P:=λR h1 h2 h3=>axs h1 h2 (RO _ _) (RP _ _) (λa b ha hb=>by
  rw[h3 a b ha hb,aau _ _ _ _ ha hb];unfold mV
  rw[hX,hG,ams (m+1) hm IH a b ha hb])
 have GN:=λi j hi hj=>amt (m+1) (cj S) i j hi hj;have MH:=amu (m+1) (cj S);have MI:=amv (m+1) (cj S);obtain⟨F,hF⟩:∃F:Nat->Nat->Dyadic,(λi j=>mW (m+1) (cj S) i j)=F:=⟨_,rfl⟩;have hFe:∀i j,mW (m+1) (cj S) i j=F i j:=λi j=>by rw[<-hF]
 simp only[hFe]at tT hfin GN;obtain⟨A,hA⟩:=aI (tJ (m+1) (cj S));rw[hA]at wW GN MH MI;rw[hP];unfold aar;rw[hX,hG];rw[hn]at eX hro kD wW tT hfin GN MH MI⊢;have dv:n<=4:=by omega
 have iB:1<=n:=by omega
 have aeI:=λW=>(jI W).mono (λe w' h=>(⟨h.1,h.2,h.2⟩:e=.returned (ah (dR X))/\Bw W w'/\Bw W w'));have aep:=λW hW=>(hof W hW).mono (λe w' h=>(⟨h.1,h.2,h.2⟩:e=.returned (cw G)/\Bw W w'/\Bw W w'));have gj:=λW hW=>(hab W hW).mono (λe w' h=>(⟨h.1,h.2,h.2⟩:e=.returned (cw (G*X))/\Bw W w'/\Bw W w'));obtain⟨nR,ZJ,Au,PM,oO,mM,kJ,HGf,HAs,wn,HAe,HAl⟩:=fu eX hro kD wW aeI aep gj hGf tT hfin GN MH;obtain⟨HAr,HT⟩:=aU MI hT;clear eX hro kD wW aeI aep jI hof hab gj hGf tT hfin GN MH MI hT hFe hF hA fM hent IH kC rC iM hS e0 h00 hP hX hG IJ ha hr hL hrow hfit h0 hn;have Hb:=hbz w;go_enter Tryz.func115,Tryz.ntmps115;go_wp2_with fail;refine il w (Hb.an trivial) 48 [aj false,.string ⟨#[]⟩,ah 0] λW bi ag aC=>?_;go_wp2_with fail;refine aZ ag (nR.out _ ag.2.1.out) λw1 ag aC=>?_;go_wp2_with fail;refine(ZJ.out _ ag.2.1.out).mono ?_;rintro e w2 ⟨a2,c2,rfl,hc2,ht2,au⟩;obtain⟨ag,aC⟩:=qX au ag;have LC:=az ht2;clear ht2;go_wp2_with fail;refine aZ ag (Au.out _ ag.2.1.out a2 c2 LC.out) λw3 ag aC=>?_;clear LC;obtain⟨W4,rD,bi,ag,aC⟩:=cM w3 ag 48 (bY X);go_wp2_with fail;refine(ZJ.out _ ag.2.2.1.out).mono ?_;rintro e w5 ⟨a3,c3,rfl,hc3,Jr,au⟩;obtain⟨ag,aC⟩:=qX au ag;have LD:=az Jr;clear Jr;obtain⟨Hd,Hr,Hb,_⟩:=ag;obtain⟨r0,bo,r1,bz,r2,lS⟩:=Hr.out.g3;obtain⟨d0,d1,d2⟩:=Hd.out.c3;have jw:=Hr;have YH:=Hd;have dM:=Hb;go_wp2_with fail;refine(PM.out _ Hb.out a3 c3 LD.out).mono ?_;rintro e w6 ⟨v,rfl,hO,ac8,au⟩;obtain⟨ag,aC⟩:=qX au (Hb.an<|Hr.an<|Hd.an trivial);obtain⟨go,cv,rfl,hgo⟩:∃go cv,v=.slice (some ⟨go,0,none⟩) n cv/\w5.heap.size<=go:=by obtain⟨vals,hl,ho,_,_⟩:=hO;obtain⟨g,c,e1,h1,_,_⟩:=xK ho zo;exact⟨g,c,e1,h1⟩
 have hcv:n<=cv:=by obtain⟨vals,hl,ho,_,_⟩:=hO;exact(uz ho).1
 obtain⟨gI,hgI⟩:∃gI:Nat->Nat×Nat,∀i,i<n->w6.cell? ⟨go,i,none⟩=some (.slice (some ⟨(gI i).1,0,none⟩) n (gI i).2)/\w5.heap.size<=(gI i).1/\(gI i).1<w6.heap.size/\(gI i).1≠go:=by have H:=λi (h:i<n)=>(hO.blk i h iB).2;refine⟨λi=>if h:i<n then(Classical.choose (H i h),Classical.choose (Classical.choose_spec (H i h)))else(0,0),λi h=>?_⟩;simp only[h,dif_pos];exact Classical.choose_spec (Classical.choose_spec (H i h))
 obtain⟨HO,YT⟩:=aU hO hgI;clear hO hgI;have CH:Hid (Bw w5 w6):=ac8;have H66:Hid (Bw w6 w6):=Below.refl _ _;clear ac8;have OZ:=CH.out.size;go_wp2_with fail;refine(oO.out _).mono ?_;rintro e w7 ⟨rfl,ada,au⟩;obtain⟨ag,aC⟩:=qX au ag;go_wp2_with fail;refine(mM.out _ ag.1.out).mono ?_;rintro e w8 ⟨rfl,adb,au⟩;obtain⟨ag,aC⟩:=qX au ag;have TL:=aO ada adb;clear ada adb;have XK:=az TL;have Pb:=TL.size;clear TL;obtain⟨W9,TB,bi,ag,aC⟩:=cM w8 ag 48 (bY G);have KB:Hid (Bw w6 W9):=by rw[<-TB];exact(XK.out).alloc zo _
 have hO9:=HO.out.below KB.out;have Iz:∀i,i<n->W9.cell? ⟨go,i,none⟩=some (.slice (some ⟨(gI i).1,0,none⟩) n (gI i).2):=λi h=>cell_later KB.out (YT.out i h).1;have ac9:=aO CH.out KB.out;obtain⟨Yf,KW,XJ⟩:=cE hO9 Iz ac9;have ZN:=ag.1;clear hO9 Iz ac9 HO XK H66 KB;go_wp2_with fail;go_loopw[37] (λx wr=>∃(k:Nat) (R:List (List Dyadic)),k<=n/\x=ah (k:Int)/\R.length=n/\(∀r∈R,r.length=n)/\(∀a b,a<n->b<n->cj R a b=if kU k 0 a b then F a b*G else F a b)/\gH wr w5.heap.size n R n (.slice (some ⟨go,0,none⟩) n cv)/\(∀i,i<n->wr.cell? ⟨go,i,none⟩=some (.slice (some ⟨(gI i).1,0,none⟩) n (gI i).2))/\aH wr w8.heap.size 48 (bY G)/\Bw w5 wr) (λx _=>n-(intOf x).toNat);case atStart=>exact⟨0,A,Nat.zero_le _,rfl,HAl.out,HAr.out,λa b ha hb=>by rw[HAe.out a b ha hb,if_neg (by unfold kU;omega)],Yf.out,KW.out,ZN.out,XJ.out⟩
 case round=>
  clear ZN XJ KW Yf CH;obtain⟨k,R,hk,rfl,iw,tY,hRe,hO,hc,hs,pb⟩:=hrel;by_cases hlt:k<n
  . have eX:=hc k hlt;obtain⟨g,c,iz⟩:∃g c,gI k=(g,c):=⟨_,_,rfl⟩;obtain⟨_,hg1,hg2,hg3⟩:=YT.out k hlt;rw[iz]at eX hg1 hg2 hg3;have bC:=xz n cv k (k:Int) (rfl:(some ⟨go,0,none⟩:Option Addr)=_) hlt rfl;rw[Nat.zero_add,Nat.mul_one]at bC;have hin:∃(j:Nat) (R:List (List Dyadic)),j=0/\R.length=n/\(∀r∈R,r.length=n)/\(∀a b,a<n->b<n->cj R a b=if kU k j a b then F a b*G else F a b)/\gH wr w5.heap.size n R n (.slice (some ⟨go,0,none⟩) n cv)/\(∀i,i<n->wr.cell? ⟨go,i,none⟩=some (.slice (some ⟨(gI i).1,0,none⟩) n (gI i).2))/\aH wr w8.heap.size 48 (bY G)/\Bw w5 wr:=⟨0,R,rfl,iw,tY,hRe,hO,hc,hs,pb⟩;obtain⟨yg,rT⟩:=aU hin iz;clear hin iw tY hRe hO hc hs pb iz;obtain⟨wq,hwq⟩:∃wq,wq=wr:=⟨_,rfl⟩;subst hwq;go_wp2_with fail;go_loopw[43] (λx wr=>∃(j:Nat) (R:List (List Dyadic)),j<=n/\x=ah (j:Int)/\R.length=n/\(∀r∈R,r.length=n)/\(∀a b,a<n->b<n->cj R a b=if kU k j a b then F a b*G else F a b)/\gH wr w5.heap.size n R n (.slice (some ⟨go,0,none⟩) n cv)/\(∀i,i<n->wr.cell? ⟨go,i,none⟩=some (.slice (some ⟨(gI i).1,0,none⟩) n (gI i).2))/\aH wr w8.heap.size 48 (bY G)/\Bw w5 wr) (λx _=>n-(intOf x).toNat);case atStart=>obtain⟨j,R,rfl,h⟩:=yg.out;exact⟨0,R,Nat.zero_le _,rfl,h⟩
    case round=>
     clear yg eX bC;obtain⟨j,R,hj,rfl,iw,tY,hRe,hO,hc,hs,pb⟩:=hrel;by_cases bj:j<n
     . have hrl:(R.getD k []).length=n:=by
        have e:R.getD k []=R[k]'zo:=by rw[List.getD_eq_getElem?_getD,List.getElem?_eq_getElem zo];rfl
        rw[e];exact tY _ (List.getElem_mem _)
       have eX:=hc k hlt;rw[rT.out]at eX;have hpick:∀W,gH W w5.heap.size n R n (.slice (some ⟨go,0,none⟩) n cv)->W.cell? ⟨go,k,none⟩=some (.slice (some ⟨g,0,none⟩) n c)->bA W g (j*3) [aj (aK (dN (F k j))),ai (nt (dN (F k j)).natAbs),ah (dE (F k j))]/\(∀o,W.frozen? ⟨g,o,none⟩=false)/\∀y:Dyadic,gH (((W.setCell ⟨g,j*3,none⟩ (aj (aK (dN y)))).setCell ⟨g,j*3+1,none⟩ (ai (nt (dN y).natAbs))).setCell ⟨g,j*3+2,none⟩ (ah (dE y))) w5.heap.size n (R.set k ((R.getD k []).set j y)) n (.slice (some ⟨go,0,none⟩) n cv):=by
        intro W hO eX;obtain⟨go',cap',g',c',hv,_,_,hne,hcell,cn,hfz,hup⟩:=hO.num k j hlt bj iw hrl;simp only[Value.slice.injEq,Option.some.injEq,Addr.mk.injEq,and_true,true_and]at hv;obtain⟨rfl,rfl⟩:=hv;rw[eX]at hcell;simp only[Option.some.injEq,Value.slice.injEq,Addr.mk.injEq,and_true,true_and]at hcell;obtain⟨rfl,rfl⟩:=hcell;have he:(R.getD k []).getD j 0=F k j:=by have h:=hRe k j hlt bj;rw[if_neg (by unfold kU;omega)]at h;exact h
        rw[he]at cn;exact⟨cn,hfz,hup⟩
       obtain⟨cn,_,_⟩:=hpick wr hO eX;have SY:=HAs.out k j hlt bj;obtain⟨Y,hY⟩:=aI (F k j*G);have hsl:=awK iw tY k j hlt Y;have hen:∀a b,a<n->b<n->cj (R.set k ((R.getD k []).set j Y)) a b=if kU k (j+1) a b then F a b*G else F a b:=by
        intro a b ha hb;rw[apn iw tY k j hlt bj Y a b ha hb];by_cases e:a=k/\b=j
        . obtain⟨rfl,rfl⟩:=e;rw[if_pos ⟨rfl,rfl⟩,if_pos (by unfold kU;omega),hY]
        . rw[if_neg e,hRe a b ha hb];have:kU k j a b↔kU k (j+1) a b:=by unfold kU;omega
          by_cases h:kU k j a b
          . rw[if_pos h,if_pos (this.1 h)]
          . rw[if_neg h,if_neg (λh2=>h (this.2 h2))]
       obtain⟨E,hE⟩:=aI (F k j);have HY:Hid (aJ (canon E) *aJ (canon G)=Y):=by show _=_;rw[cJ,cJ,<-hE];exact hY
       rw[hE]at cn SY hpick;have hjx:=nD n c j (j:Int) (rfl:(some ⟨g,0,none⟩:Option Addr)=_) bj rfl;rw[Nat.zero_add]at hjx;obtain⟨R2,tX⟩:=aI (R.set k ((R.getD k []).set j Y));have hpk:=λW h1 h2=>(hpick W h1 h2).2.2 Y;have BQ:=λW h1 h2=>(hpick W h1 h2).2.1;rw[tX]at hsl hen hpk;have Hz:Hid (bA wr g (j*3) (bY E)):=cn;have Hs:Hid (aH wr w8.heap.size 48 (bY G)):=hs;obtain⟨HO,Fp,nR,aX,FZ,Hen,Hpk,Hpz,HAf,iT⟩:=JK hO hc eX pb hsl hen hpk BQ SY (HT.out.below (aO dM.out pb));have xR:=pb.size;clear hO hc eX pb hsl hen hpk BQ SY hs cn hpick tX hE hY iw tY hRe hrl;have Hb:=hbz wr;have NT:=Hs.out.lt;go_wp2_with fail;obtain⟨ag,aC⟩:=qZ (Hz.an<|Hs.an trivial);have HU:Hid (aR wr):=iT.out;obtain⟨Hz,Hs,_⟩:=ag;obtain⟨z0,z1,z2⟩:=Hz.out.w3;obtain⟨s0,s1,s2⟩:=Hs.out.c3;refine ez (λw'=>aV w' g (j*3) (aj (aK (dN E)))/\aV w' g (j*3+1) (ai (nt (dN E).natAbs))/\aV w' g (j*3+2) (ah (dE E))/\aV w' (w8.heap.size) 0 (aj (aK (dN G)))/\aV w' (w8.heap.size) 1 (ai (nt (dN G).natAbs))/\aV w' (w8.heap.size) 2 (ah (dE G))) (λi=>Nat.blt i 10) [(0,true),(1,true),(2,true),(3,true),(4,true),(5,true),(6,true),(7,false),(8,false),(9,true),(10,false)] zk zk rfl zk zc ⟨z0,z1,z2,s0,s1,s2⟩ ?_;iterate 7 (refine pT rfl rfl ?_ (by intro w' ⟨q0,q1,q2,q3,q4,q5⟩;go_simp;try with_reducible rfl);try simp only[UU])
       refine aY rfl rfl (λK hK=>?_);go_simp;refine hK _ _ (λ_=>⟨bg z0,bg z1,bg z2,bg s0,bg s1,bg s2⟩) ?_;try simp only[UU]
       refine cL (λW4=>aH W4 (wr.heap.size) 48 [aj (aK (dN E)),ai (nt (dN E).natAbs),ah (dE E),aj (aK (dN G)),ai (nt (dN G).natAbs),ah (dE G)]/\Bw wr W4) (by first|exact fI|exact fJ) ?_;rintro W4 ⟨qv,au⟩;have aBt:=Hs.out.lt;replace Hz:=kW Hz au;replace Hs:=kB Hs au;replace HU:=kT HU au;have Hv:=az qv;clear qv;obtain⟨z0,z1,z2⟩:=Hz.out.w3;obtain⟨s0,s1,s2⟩:=Hs.out.c3;obtain⟨v0,v1,v2,v3,v4,v5⟩:=Hv.out.c6;replace Hb:=bD Hb au;refine aY rfl rfl (λK hK=>?_);go_simp;with_reducible refine(Dq _ _ _ _ _ _ Y (4*B+11) HY.out wr.heap.size _ 48 _ HAf.out HGf.out zo Hv.out (by first|exact HU.out|exact aR.drew HU.out|exact aR.alloc HU.out _|exact aR.drew (aR.alloc HU.out _) |exact aR.alloc (aR.drew HU.out) _)).mono ?_
       rintro e iI ⟨rfl,hq⟩;have au:Bw W4 iI:=by first|exact hq|exact df hq
       replace Hz:=kW Hz au;obtain⟨Hs,s0,s1,s2⟩:=uw Hs au;replace HU:=kT HU au;obtain⟨Hv,v0,v1,v2,v3,v4,v5⟩:=JH Hv au;obtain⟨z0,z1,z2⟩:=Hz.out.w3;replace Hb:=bD Hb au;refine hK _ _ (λ_=>⟨z0,z1,z2,s0,s1,s2⟩) ?_;try simp only[UU]
       refine pT rfl rfl ?_;try simp only[UU]
       refine aY rfl rfl (λK hK=>?_);have Tn:=HO.out.below Hb.out;have Us:=cell_later Hb.out nR.out;have hfz:=Hpz.out iI Tn Us;have GM:=hfz (j*3);have Bj:=hfz (j*3+1);have MD:=hfz (j*3+2);have hup:=Hpk.out iI Tn Us;have wX:=aO aX.out Hb.out;obtain⟨Ri,mK⟩:=aU hup wX;clear Tn Us hfz hup wX;go_simp;refine hK _ _ (λh=>absurd h zd) ?_;try simp only[UU]
       simp only[bP];go_wp2;refine⟨⟨j+1,R2,by omega,by go_num,FZ.out.1,FZ.out.2,Hen.out,Ri.out,λi hi=>?_,?_,?_⟩,by simp[intOf];omega⟩
       . have hne:(⟨go,i,none⟩:Addr).block≠g:=λe=>hg3 e.symm;exact aQ (.inl hne) (aQ (.inl hne) (aQ (.inl hne) (cell_later Hb.out (Fp.out i hi))))
       . have hne:g≠w8.heap.size:=by omega
         exact((Hs.out.aCj _ hne _).aCj _ hne _).aCj _ hne _
       . exact((mK.out.setCell hg1 _).setCell hg1 _).setCell hg1 _
     . obtain rfl:j=n:=by omega
       have iO:(∀a b,a<j->b<j->cj R a b=if kU (k+1) 0 a b then F a b*G else F a b):=by
        intro a b ha hb;rw[hRe a b ha hb];have:kU k j a b↔kU (k+1) 0 a b:=by unfold kU;omega
        by_cases h:kU k j a b
        . rw[if_pos h,if_pos (this.1 h)]
        . rw[if_neg h,if_neg (λh2=>h (this.2 h2))]
       have hres:(∃k' R,k'<=j/\k'=k+1/\R.length=j/\(∀r∈R,r.length=j)/\(∀a b,a<j->b<j->cj R a b=if kU k' 0 a b then F a b*G else F a b)/\gH wr w5.heap.size j R j (.slice (some ⟨go,0,none⟩) j cv)/\(∀i,i<j->wr.cell? ⟨go,i,none⟩=some (.slice (some ⟨(gI i).1,0,none⟩) j (gI i).2))/\aH wr w8.heap.size 48 (bY G)/\Bw w5 wr):=⟨k+1,R,by omega,rfl,iw,tY,iO,hO,hc,hs,pb⟩;have gW:=az hres;clear hres iO iw tY hRe hO hc hs pb;go_wp2;go_roundw;case rel=>obtain⟨k',R,h1,rfl,h⟩:=gW.out;exact⟨k+1,R,h1,by go_num,h⟩
       case measure=>exact bH
  . obtain rfl:k=n:=by omega
    have hRf:R=tK k P:=wn.out R iw tY (λa b ha hb=>by rw[hRe a b ha hb,if_pos (by unfold kU;omega)]);subst hRf;obtain⟨HOk,aX⟩:=aU hO pb;clear hO hc hs pb iw tY hRe;obtain⟨Hr,Hd,Hb⟩:=cE (jw.out.below aX.out) (YH.out.below aX.out) (aO dM.out aX.out);obtain⟨ag,aC⟩:=qZ (Hr.an<|Hd.an trivial);go_wp2_with fail;refine(kJ.out _ Hb.out).mono ?_;rintro e sQ ⟨rfl,yR,au⟩;obtain⟨ag,aC⟩:=qX au (Hb.an ag);have aiJ:=az (HOk.out.below yR);clear yR;have hzz:=dM.out.size;have kZ:w.heap.size<w5.heap.size:=Nat.lt_of_lt_of_le jw.out.lt (Nat.le_refl _);go_wp2;refine eH (λsS=>aH sS w.heap.size 48 [aj (aK (dN (G*X))),ai (nt (dN (G*X)).natAbs),ah (dE (G*X))]/\gH sS w5.heap.size k (tK k P) k (.slice (some ⟨go,0,none⟩) k cv)/\Bw w sS) ⟨((ag.2.1.out.set 0 _).set 1 _).set 2 _,((aiJ.out.aCu kZ _).aCu kZ _).aCu kZ _,((ag.1.out.setCell zp _).setCell zp _).setCell zp _⟩ ?_;rintro sS ⟨arE,arv,aqO⟩;obtain⟨q0,q1,q2⟩:=arE.c3;obtain⟨a9,c9,uq,Iz,ht9⟩:=arv.tbl (RO _ _) (RP _ _);simp only[Value.slice.injEq,true_and]at uq;obtain⟨rfl,rfl⟩:=uq;exact bodyPost_ret (v:=.tuple #[cw (G*X),.slice (some ⟨go,0,none⟩) k cv,ah 0]) (by simp[results,Tryz.results115,go_sem,q0,q1,q2]) rfl ⟨_,_,rfl,Iz,ht9,aqO⟩
def agl {w:World}{b base n:Nat}{e:TypeId}{size:Nat}{xs:List Value}(h:aH w b e xs)(hb:base<=b)(hl:xs.length=n*size)(hn:n<=1048576):w.ownsRow base e size (.slice (some ⟨b,0,none⟩) n n) n xs:=
 ⟨hl,.inr ⟨b,n,xs.toArray,rfl,hb,h,Nat.le_refl _,by unfold maxLen;omega,by simpa using hl,by rw[<-hl];simp⟩⟩
def bQ.aCB {w:World}{a:Option Addr}{T:List (List Dyadic)}{n:Nat}(h:bQ w a (T.map λr=>r.map canon))(hl:T.length=n)(hr:∀r∈T,r.length=n)(k i:Nat)(hk:k<n)(hi:i<n):
 ∃b o br os cr,a=some ⟨b,o,none⟩/\w.cell? ⟨b,o+k,none⟩=some (.slice (some ⟨br,os,none⟩) n cr)/\bA w br (os+i*3) [aj (aK (dN (cj T k i))),ai (nt (dN (cj T k i)).natAbs),ah (dE (cj T k i))]:=by
 have NC:k<T.length:=by omega
 obtain⟨b,o,a',c',h1,h2,h3⟩:=h.row k (by simpa using NC);have e1:(T.map λr=>r.map canon)[k]'(by simpa using NC)=T[k].map canon:=by simp
 have hlk:=hr _ (List.getElem_mem NC);rw[e1]at h2 h3;rw[List.length_map,hlk]at h2;have hik:i<T[k].length:=by omega
 have e2:cj T k i=T[k][i]:=by unfold cj;simp[List.getD_eq_getElem?_getD,NC,hik]
 obtain⟨br,os,e3,q0,q1,q2⟩:=h3.num i (by simpa using hik) (show(T[k].map canon)[i]'(by simpa using hik)=(aK (dN (cj T k i)),nt (dN (cj T k i)).natAbs,dE (cj T k i))by rw[e2];simp;rfl);subst e3;exact⟨b,o,br,os,c',h1,h2,iR q0 q1 q2⟩
def au4 {n B:Nat}{rows:List (List Raw)}(hr:Rw n B rows)(a b:Nat)(ha:a<=n)(hb:b<n):Sm B (gy rows a b):=by have hL:=hr.1;rw[xN rows a b zo (by rw[hr.2.1 _ (List.getElem_mem _)];exact hb)];exact(hr.2.2 _ (List.getElem_mem _) _ (List.getElem_mem _)).2
end Go.Proofs.YtnjfebkelecgaaaGreatDoor
