/- Package slices: Clone,Delete,over numbers. -/
import Derived.Test.YtnjfebkelecgaaaGreatDoorZ13
import Derived.Lib.SliceRun
import Derived.Test.YtnjfebkelecgaaaGreatDoorZ25
import Derived.Test.YtnjfebkelecgaaaGreatDoorZ12
import Derived.Test.YtnjfebkelecgaaaGreatDoorZ11
import Derived.Test.YtnjfebkelecgaaaGreatDoorZ20
set_option linter.all false
set_option maxRecDepth 100000
set_option maxHeartbeats 16000000
namespace Go.Proofs.YtnjfebkelecgaaaGreatDoor
open Go.RowKit
attribute [local go_sem ↓] Go.wp_at_zero Go.wp_at_succ
def apZ (a:Option Addr)(n cap:Nat)(cJ:List Raw)(w:World)(hn:cJ.length=n)(hl:n<=1048576)(hs:a=none->n=0/\cap=0)(ha:At w a (cJ.flatMap bG)):
 Cl 201 #[.slice a n cap] w λe w'=>∃v',e=.returned v'/\w'.ownsRow w.heap.size 48 3 v' n (cJ.flatMap bG)/\Bw w w':=by
 obtain⟨i0,hi,hz0,hz1,hz2⟩:=info_parts Tryz.aFN;have q:=λ(w:World) (a:Option Addr) (n c n' c':Nat)=>Lib.run_eql_slice_nil (P:=Tryz.prog) w 32 48 a n c n' c' Tryz.underlying32;have hlen:(cJ.flatMap bG).length=n*3:=by rw[kj bG 3 (λ_=>rfl),hn]
 obtain⟨cs,hcs⟩:=aK (cJ.flatMap bG);have h1:=Xr cJ;rw[hcs]at hlen ha h1⊢;obtain⟨lj,Ha,H1,Hs,Hi,dF,dv,di⟩:=oK hlen ha h1 hs hi hz0 hz1 hz2;clear hlen ha h1 hs hi hz0 hz1 hz2 hn hcs;cases a with
 |none=>obtain⟨hn0,hc⟩:=Hs.out rfl;subst hc;subst hn0;go_enter Tryz.func201,Tryz.ntmps201;go_wp2;go_ret;refine⟨_,rfl,?_,Below.refl _ _⟩;have e:cs=[]:=List.eq_nil_of_length_eq_zero (by have:=lj.out;omega);rw[e];exact World.ownsRow_nil _ _ _ _
 |some ad=>go_enter Tryz.func201,Tryz.ntmps201;go_wp2_with (at_builtin;refine ajz rfl _ _ 32 rfl w.heap.size 48 i0 _ 3 32 Tryz.underlying32 Hi.out dF.out dv.out di.out rfl zd _ 0 [] rfl (World.ownsRow_made w #[] 0 (Nat.le_refl _) (Nat.zero_le _) zm) (some ad) n cap cs rfl Hs.out lj.out (Ha.out.below ((Below.refl _ w).alloc (Nat.le_refl _) _)) H1.out zx zo zm ?_;intro v' w1 hown hgrow gY);go_ret;refine⟨v',rfl,by simpa using hown,?_⟩;exact((Below.refl _ w).alloc (Nat.le_refl _) _).grown hgrow zm (λk hk=>by have h9:w.heap.size=k:=Option.some.inj hk;omega)
def Tryz.aF0 (w:World):(zeroValue 48).run Tryz.prog w=.ok (.agg #[aj false,.string ⟨#[]⟩,ah 0]) w:=by kernel_rfl
def aq8 {α:Type}(f:α->List Value)(sz:Nat)(hf:∀x,(f x).length=sz)(xs:List α)(i:Nat)(hi:i<xs.length):(xs.eraseIdx i).flatMap f=(xs.flatMap f).take (i*sz)++(xs.flatMap f).drop ((i+1) *sz):=by
 have e:xs=xs.take i++xs[i]::xs.drop (i+1):=by rw[List.getElem_cons_drop,List.take_append_drop]
 have hl:((xs.take i).flatMap f).length=i*sz:=by rw[kj f sz hf,List.length_take,Nat.min_eq_left zo]
 have e1:xs.flatMap f=(xs.take i).flatMap f++(f xs[i]++(xs.drop (i+1)).flatMap f):=by
  conv=>lhs;rw[e]
  rw[List.flatMap_append,List.flatMap_cons]
 rw[e1,List.take_left' hl,List.drop_append,hl,List.drop_of_length_le (by rw[hl,Nat.add_mul];omega)];rw[show(i+1) *sz-i*sz=sz by rw[Nat.add_mul,Nat.one_mul];omega,List.nil_append,List.drop_left' (hf _),List.eraseIdx_eq_take_drop_succ,List.flatMap_append]
def aqA (g m cap i base:Nat)(cJ:List Raw)(w:World)(hn:cJ.length=m+1)(hl:m<=1048576)(hi:i<=m)
 (ho:w.ownsRow base 48 3 (.slice (some ⟨g,0,none⟩) (m+1) cap) (m+1) (cJ.flatMap bG)):
 Cl 200 #[.slice (some ⟨g,0,none⟩) (m+1) cap,ah (i:Int),ah ((i+1:Nat):Int)] w λe w'=>e=.returned (.slice (some ⟨g,0,none⟩) m cap)/\
  w'.ownsRow base 48 3 (.slice (some ⟨g,0,none⟩) m cap) m ((cJ.eraseIdx i).flatMap bG)/\w.grownBy w' (some g):=by
 obtain⟨i0,hi0,hz0,hz1,hz2⟩:=info_parts Tryz.aFN;have hcap:m+1<=cap:=(yl ho).1;have hcm:cap<=9223372036854775807:=by
  rcases ho.2 with⟨h1,_⟩ |⟨g',cap',cur,h1,hb,hg,h4,h5,_⟩
  . simp at h1
  . simp only[Value.slice.injEq]at h1;obtain⟨_,_,rfl⟩:=h1;unfold maxLen at h5;omega
 have Oo:=aq8 bG 3 (λ_=>rfl) cJ i zo;have hlen:(cJ.flatMap bG).length=(m+1) *3:=by rw[kj bG 3 (λ_=>rfl),hn]
 have h1:=Xr cJ;obtain⟨cs,hcs⟩:=aK (cJ.flatMap bG);obtain⟨rs,hrs⟩:=aK ((cJ.eraseIdx i).flatMap bG);rw[hcs]at hlen ho h1 Oo;rw[hrs]at Oo⊢;have EK:=XA ho i zo;obtain⟨ad,had⟩:=aK (if cap=i+1 then(⟨g,0,none⟩:Addr)else⟨g,(i+1) *3,none⟩);have hsl:(if cap=i+1 then some (⟨g,0,none⟩:Addr)else some ⟨g,(i+1) *3,none⟩)=some ad:=by rw[<-had];split<;>rfl
 have hnews:Hid (∀j u,(cs.drop ((i+1) *3))[j]?=some u->w.drew.cell? (ad.add j)=some u):=by
  intro j u hj;rw[List.getElem?_drop]at hj;have hlt:=(List.getElem?_eq_some_iff.1 hj).1;have rp:¬cap=i+1:=by omega
  rw[if_neg rp]at had;subst had;have e2:((⟨g,(i+1) *3,none⟩:Addr).add j)=⟨g,(i+1) *3+j,none⟩:=by unfold Addr.add;cases j<;>simp
  rw[e2];have:=ho.cells (g:=g) rfl ((i+1) *3+j) u hj;have e3:((⟨g,0,none⟩:Addr).add ((i+1) *3+j))=⟨g,(i+1) *3+j,none⟩:=by unfold Addr.add;split<;>simp;omega
  rw[e3]at this;exact this
 have hnl:Hid ((cs.drop ((i+1) *3)).length=(m-i) *3):=by show _=_;rw[List.length_drop,hlen];omega
 have ny:Hid (∀u∈cs.drop ((i+1) *3),u.oneCell'=true):=λu hu=>h1 u (List.mem_of_mem_drop hu);have Hot:Hid (w.drew.ownsRow base 48 3 (.slice (some ⟨g,0,none⟩) i cap) i (cs.take (i*3))):=EK;obtain⟨alB,amh,RS,Hn1,Hi,dv⟩:=iq Oo hnews.out hnl.out ny.out hi0 hz1;have z:=Tryz.aF0;clear hnews hnl ny ho EK hlen h1 Oo hcs hrs hn hi0 hz0 hz1 hz2;have hw1:IntKind.i64.wrap ((i:Int)+1)=((i+1:Nat):Int):=by rw[IntKind.wrap_i64];omega
 have hne:((i:Int)==((i+1:Nat):Int))=false:=by simp;omega
 have hcm2:¬cap=m:=by omega
 have xS:i+1<=m+1:=by omega
 have hmc:i+1<=cap:=by omega
 have hic:i<=cap:=by omega
 have h0i:(0:Int)<=(i:Int)+1:=by omega
 clear had;go_enter Tryz.func200,Tryz.ntmps200;go_wp2_with fail;have Hb:=hbz w;refine bV (λw'=>True) (λi=>Nat.blt i 100000) [(0,true),(1,true),(2,true),(3,true),(4,true),(5,true),(6,false),(7,true)] zk zk rfl zk zc True.intro ?_;iterate 6 (refine pT rfl rfl ?_;try simp only[UU])
 refine aR rfl rfl (λK hK=>?_);refine wp_append_own_spare _ _ _ 32 rfl base 48 i0 3 Tryz.underlying32 Hi.out dv.out g i cap (cs.take (i*3)) rfl Hot.out ad (m-i) (cap-(i+1)) (cs.drop ((i+1) *3)) rfl RS.out amh.out Hn1.out zo ?_;intro w1 eH hg1;refine hK _ _ (λ_=>True.intro) ?_;try simp only[UU]
 refine pT rfl rfl ?_;try simp only[Act.put,U1,U2]
 simp only[bu];have e9:i+(m-i)=m:=by omega
 rw[e9,<-alB.out]at eH;obtain⟨w2,hcl,eP,hg2⟩:=aik w1 32 48 _ 3 Tryz.underlying32 Tryz.aF0 rfl (by intro v hv;simp[Value.cells]at hv;rcases hv with rfl|rfl|rfl<;>rfl) g m 1 cap (cap-m) base rs eH zo;have vz:=ar eP;have Hg2:Hid (w.grownBy w2 (some g)):=grownBy_trans ⟨hg1.os,hg1.tape,hg1.output,hg1.size,hg1.block⟩ hg2;clear eH hg1 eP hg2 Hot hsl;go_wp2;go_ret;exact⟨rfl,vz.out,Hg2.out⟩
def aq9 (l:List Dyadic)(c:Nat):(l.map canon).eraseIdx c=(l.eraseIdx c).map canon:=by apply List.ext_getElem?;intro i;rw[List.getElem?_eraseIdx,List.getElem?_map,List.getElem?_map,List.getElem?_map,List.getElem?_eraseIdx];split<;>rfl
def aAs (a:Option Addr)(cap m r c:Nat)(R:List (List Dyadic))(w:World)(hL:R.length=m+1)(hrow:∀x∈R,x.length=m+1)(hr:r<=m)(hc:c<=m)(hm:m<=7)(ha:cZ w a (R.map λx=>x.map canon)):
 Cl 181 #[.slice a (m+1) cap,ah (r:Int),ah (c:Int)] w λe w'=>∃a' c',e=.returned (.slice a' m c')/\m<=c'/\cZ w' a' ((mF R r c).map λx=>x.map canon)/\Bw w w':=by
 obtain⟨j0,hj,hy0,hy1,hy2⟩:=info_parts Tryz.aFU;obtain⟨S,hS⟩:=aK (mF R r c);have mA:=ahp R r c m hL hr;have vM:=ahq R r c m hrow hc;have UL:=aho R r c m hL hr;rw[hS]at mA vM UL⊢;have JF:∀(W:World) (k:Nat) (hk:k<m+1),Bw w W->∃b o a1 c1,∃x:List Dyadic,R.getD k []=x/\x.length=m+1/\a=some ⟨b,o,none⟩/\W.cell? ⟨b,o+k,none⟩=some (.slice (some a1) (m+1) c1)/\At W (some a1) ((x.map canon).flatMap bG):=by
  intro W k hk hb;have hkR:k<R.length:=by omega
  obtain⟨b,o,a1,c1,h1,h2,h3⟩:=(ha.below hb).row k (by simp[hL];omega);have e1:(R.map λx=>x.map canon)[k]'(by simp[hL];omega)=R[k].map canon:=by simp
  have hxl:=hrow _ (List.getElem_mem hkR);rw[e1]at h2 h3;rw[List.length_map,hxl]at h2;cases a1 with
  | none=>
    rcases h3 with h3|⟨_,_,h3,_⟩
    . have:=congrArg List.length h3;rw[kj bG 3 (λ_=>rfl),List.length_map,hxl]at this;simp at this
    . cases h3
  |some a1=>exact⟨b,o,a1,c1,R[k],by simp[List.getD_eq_getElem?_getD,hkR],hxl,h1,h2,h3⟩
 obtain⟨Hj,vG,xm,xo,HSl,HSr,akt,amY⟩:=oK hj hy0 hy1 hy2 mA vM UL JF;clear hj hy0 hy1 hy2 mA vM UL JF hS ha hL hrow;have Hb:=hbz w;go_enter Tryz.func181,Tryz.ntmps181;go_wp2_with fail;go_loopw[7,12] (λs7 x wr=>∃(k:Nat) (v:Value),k<=m+1/\x=ah (k:Int)/\v=s7/\Own2 32 wr w.heap.size S (if k<=r then k else k-1) v/\Bw w wr) (λ_ x _=>m+1-(intOf x).toNat);case atStart=>exact⟨0,_,Nat.zero_le _,rfl,rfl,by rw[if_pos (Nat.zero_le _)];exact Own2.nil _ _ _ _,Hb.out⟩
 case round=>
  clear Hb;obtain⟨k,v,hk,rfl,rfl,pv,pb⟩:=hrel;by_cases hlt:k<m+1
  . obtain⟨b,o,a1,c1,x,rC,hxl,rfl,hc1,hat⟩:=amY.out wr k hlt pb;have bD:=EX (m+1) cap k (k:Int) (rfl:(some ⟨b,o,none⟩:Option Addr)=_) hlt rfl;rw[Nat.mul_one]at bD;by_cases hkr:k=r
    . subst hkr;obtain⟨eK,bj⟩:=aZ pv pb;clear pv pb rC hxl hat;have h3:((k:Int) !=(k:Int))=false:=by simp
      go_wp2;go_roundw;case rel=>exact⟨k+1,v,by omega,by go_num,rfl,by have h:=eK.out;rw[if_pos (Nat.le_refl _)]at h;rw[if_neg zo];exact h,bj.out⟩
      case measure=>exact bI
    . have h3:((k:Int) !=(r:Int))=true:=by simp;omega
      have h4:¬(k:Int)=(r:Int):=by omega
      obtain⟨j,hj⟩:=aK (if k<=r then k else k-1);have vP:(if k+1<=r then k+1 else k+1-1)=j+1:=by rw[<-hj];split<;>split<;>omega
      have hjm:j<m:=by rw[<-hj];split<;>omega
      have EF:(if j<r then j else j+1)=k:=by rw[<-hj];split<;>split<;>omega
      have UM:S.getD j []=x.eraseIdx c:=by rw[akt.out j hjm,EF,rC]
      rw[hj]at pv;obtain⟨Z,hZ⟩:=aK (x.eraseIdx c);have rf:Z.length=m:=by rw[<-hZ,List.length_eraseIdx_of_lt zo];omega
      rw[hZ]at UM
      -- the row,without its number
      have hcd:∀W,Bw wr W->Cl 201 #[.slice (some a1) (m+1) c1] W λe w'=>∃g cc,e=.returned (.slice (some ⟨g,0,none⟩) (m+1) cc)/\(wr.heap.size<=g/\∀W',Bw wr W'->w'=W'->Cl 200 #[.slice (some ⟨g,0,none⟩) (m+1) cc,ah (c:Int),ah ((c:Int)+1)] W' λe w''=>e=.returned (.slice (some ⟨g,0,none⟩) m cc)/\w''.ownsRow wr.heap.size 48 3 (.slice (some ⟨g,0,none⟩) m cc) m (dC Z)/\Bw wr w'')/\Bw W w':=by intro W hW;refine(apZ (some a1) (m+1) c1 (x.map canon) W (by rw[List.length_map,hxl]) zo (λe=>by cases e) (hat.below hW)).mono ?_;rintro e w' ⟨v',rfl,ho,hb⟩;obtain⟨g,cc,rfl,hg1,hg2,hg3⟩:=wy ho zo;have hsz:=hW.size;refine⟨g,cc,rfl,⟨by omega,λW' hW' e=>?_⟩,hb⟩;subst e;have hd:=aqA g m cc c wr.heap.size (x.map canon) w' (by rw[List.length_map,hxl]) zo hc (tu ho zo);rw[show((c+1:Nat):Int)=(c:Int)+1 by omega]at hd;refine hd.mono ?_;rintro e w'' ⟨rfl,eP,hg⟩;rw[aq9,hZ,<-oh]at eP;exact⟨rfl,eP,hW'.grown hg hW'.size (λi e=>by have h9:g=i:=Option.some.inj e;omega)⟩
      obtain⟨Hcd,ZI,yE,eK,bj,Hj1⟩:=iq hcd UM rf pv pb vP;clear hcd UM rf hZ pv pb vP EF hj rC hxl hat;have gM:=bj.out.size;have hwc:IntKind.i64.wrap ((c:Int)+1)=((c+1:Nat):Int):=by rw[IntKind.wrap_i64];omega
      have rp:(c:Int)+1=((c+1:Nat):Int):=by omega
      obtain⟨SG,LI⟩:=aZ hwc rp;clear hwc rp;go_wp2_with fail;refine(Hcd.out _ (Below.refl _ _)).mono ?_;rintro e w4 ⟨g,cc,rfl,⟨hg1,hdel⟩,hb4⟩;have aai:=ar (hdel w4 hb4 rfl);clear hdel hc1 bD;go_wp2_with fail;refine aai.out.mono ?_;rintro e w5 ⟨rfl,VQ,dL⟩;have fS:=VQ.lt;obtain⟨a2,c2,he2,jR,_⟩:=dS VQ;simp only[Value.slice.injEq,true_and]at he2;obtain⟨rfl,rfl⟩:=he2;obtain⟨vals,hvl,hov,tj⟩:=eK.out.below dL;obtain⟨_,_,Ab,_⟩:=eK.out;have hvs:=Ab.lt;have hin:∀b o,(some ⟨g,0,none⟩:Option Addr)=some ⟨b,o,none⟩->some b≠v.ownBlock/\b<w5.heap.size:=by intro b o e;simp only[Option.some.injEq,Addr.mk.injEq,and_true]at e;obtain⟨rfl,rfl⟩:=e;have h1:=fS g rfl;refine⟨λh2=>?_,h1.2⟩;have h3:=hvs g h2.symm;omega
      obtain⟨yK,wN,ue,Bf,dQ,eX⟩:=iq hin jR hvl tj hov (aO bj.out dL);have Qh:=dL.size;clear hin jR hvl tj hov Ab hvs fS VQ dL hb4 aai Hcd hg1;have Hb:=hbz w5;obtain⟨W6,uz,ag,Hd⟩:=cE w5 32 [.slice (some ⟨g,0,none⟩) m cc];have d0:=Hd.out.c1;replace Hb:=az Hb ag;have dR:=ownsRow_below dQ.out Hb.out;have ky:=Hb.out.size;have hnews:∀i u,([.slice (some ⟨g,0,none⟩) m cc]:List Value)[i]?=some u->W6.cell? ((⟨w5.heap.size,0,none⟩:Addr).add i)=some u:=gW Hd.out;go_wp2_with (at_builtin;refine wpList_append_own_at _ rfl _ _ 82 rfl w.heap.size 32 j0 _ 1 24 Tryz.underlying82 Hj.out vG.out xm.out xo.out rfl zd v j vals rfl dR ⟨w5.heap.size,0,none⟩ 1 1 [.slice (some ⟨g,0,none⟩) m cc] rfl rfl hnews zy zx zo zo ?_;intro v' w7 fg fM _ gY;obtain⟨g',sL,rfl⟩:=ownsRow_succ fg);go_roundw;case rel=>
       refine⟨k+1,_,by omega,by go_num,rfl,?_,?_⟩
       . rw[Hj1.out];refine Own2.push (a:=some ⟨g,0,none⟩) (c:=cc) ue.out (w:=W6) ?_ ?_ ?_ ?_ fM gY
         . intro i h;obtain⟨a,c,h1,h2,h3⟩:=Bf.out i h;exact⟨a,c,h1,h2.below Hb.out,λb o e=>⟨(h3 b o e).1,Nat.lt_of_lt_of_le (h3 b o e).2 ky⟩⟩
         . rw[ZI.out];exact wN.out.below Hb.out
         . exact λb o e=>⟨(yK.out b o e).1,Nat.lt_of_lt_of_le (yK.out b o e).2 ky⟩
         . rw[ZI.out,yE.out];exact fg
       . exact(aO eX.out Hb.out).grown fM zo (λj e=>dX dR j e)
      case measure=>exact bI
  . obtain rfl:k=m+1:=by omega
    rw[if_neg zo,Nat.add_sub_cancel]at pv;obtain⟨a2,c2,rfl,hcl,nz⟩:=Own2.aFZ pv HSl.out;obtain⟨DF,bj⟩:=aZ nz pb;clear pv pb nz;go_wp2;refine bodyPost_ret (results_tmp rfl _ _ _) rfl ⟨a2,c2,rfl,hcl,DF.out,bj.out⟩
def ao2 (a:Option Addr)(c:Nat)(w:World):Cv 113 #[.slice a 0 c] w (dO 1):=by
 have Hb:=hbz w;go_enter Tryz.func113,Tryz.ntmps113;go_wp2_with fail;have q:=fK w 46 [aj false,.string ⟨#[]⟩];first|refine cd _ q ?_|refine cw _ q ?_
 clear q;rintro W ⟨Hr,ag⟩;obtain⟨r0,aH,r1,aI⟩:=Hr.out.g2;replace Hb:=az Hb ag;go_wp2_with fail;refine(YP 1 _ zd zd).mono ?_;rintro e w1 ⟨rfl,ag⟩;obtain⟨Hr,r0,aH,r1,aI⟩:=bA Hr ag;replace Hb:=az Hb ag;have wm:=Hr.out.lt;obtain⟨W2,na,ag,Hl⟩:=cE w1 46 [aj (aC 1),ai (nt 1)];obtain⟨Hr,r0,aH,r1,aI⟩:=bA Hr ag;obtain⟨l0,l1⟩:=Hl.out.c2;replace Hb:=az Hb ag;go_wp2_with fail;go_loop [5,15] (λt x=>t=aj false/\x=ah 0) (λ_ _=>0)
 case atStart=>exact⟨rfl,rfl⟩
 case round=>obtain⟨rfl,rfl⟩:=hrel;go_wp2;refine fP (bY W2 (w.heap.size) 0 [aj (aC 1),ai (nt 1)]) cC ?_;intro w9 hs;replace Hr:=dt Hr hs;replace Hl:=kS Hl hs zo;obtain⟨r0,aH,r1,aI⟩:=Hr.out.g2;obtain⟨l0,l1⟩:=Hl.out.c2;replace Hb:=bS Hb hs ZS;clear hs;refine bodyPost_ret (v:=dO 1) (by simp[results,Tryz.results113,go_sem,r0,r1]) rfl ⟨rfl,Hb.out⟩
def aqI (a:Option Addr)(cap:Nat)(w:World)(ha:cZ w a [])(hT:aM w):Cv 67 #[.slice a 0 cap] w (.tuple #[cK 1,ah 0]):=by
 obtain⟨O,hO⟩:∃O:Dyadic,(1:Dyadic)=O:=⟨_,rfl⟩;have hch:=λW=>λ(h:cZ W a [])=>Xg a 0 cap [] W rfl zo h;rw[show ye []=0 from rfl]at hch;have hsc:=λW=>λ(h:cZ W a []) (hT:aM W)=>aiu a 0 cap 0 [] 1 0 W rfl zo zo (λr hr=>by cases hr) h (λr hr=>by cases hr) zo hT rfl;have hmk:=λW=>λ(hT:aM W)=>Ao (aC 1) (nt (1:Int).natAbs) 0 O (by rw[<-hO];rfl) W zd zd hT;rw[hO];obtain⟨AV,mR,mh,Ha,HT⟩:=fU hch hsc hmk ha hT;clear hch hsc hmk ha hT hO;have Hb:=hbz w;go_enter Tryz.func67,Tryz.ntmps67;go_wp2_with fail;have q:=fK w 48 [aj false,.string ⟨#[]⟩,ah 0];first|refine cd _ q ?_|refine cw _ q ?_
 clear q;rintro W ⟨Hr,ag⟩;obtain⟨r0,aH,r1,aI,r2,aX⟩:=Hr.out.g3;replace Hb:=az Hb ag;have HA:Hid (cZ W a []):=Ha.out.below Hb.out;have HU:Hid (aM W):=HT.out.below Hb.out;go_wp2_with fail;refine(AV.out _ HA.out).mono ?_;rintro e w1 ⟨rfl,ag⟩;obtain⟨Hr,r0,aH,r1,aI,r2,aX⟩:=bg Hr ag;replace HA:=kL HA ag;replace HU:=kT HU ag;replace Hb:=az Hb ag;go_wp2_with fail;refine(mR.out _ HA.out HU.out).mono ?_;rintro e w2 ⟨v,rfl,hO,ag⟩;obtain⟨Hr,r0,aH,r1,aI,r2,aX⟩:=bg Hr ag;replace HA:=kL HA ag;replace HU:=kT HU ag;replace Hb:=az Hb ag;obtain⟨vals,_,ho,_⟩:=hO;obtain⟨a2,c2,rfl,_,_⟩:=dS ho;clear ho;go_wp2_with fail;refine(ao2 a2 c2 _).mono ?_;rintro e w3 ⟨rfl,ag⟩;obtain⟨Hr,r0,aH,r1,aI,r2,aX⟩:=bg Hr ag;replace HA:=kL HA ag;replace HU:=kT HU ag;replace Hb:=az Hb ag;go_wp2_with fail;refine(mh.out _ HU.out).mono ?_;rintro e w4 ⟨rfl,ag⟩;obtain⟨Hr,r0,aH,r1,aI,r2,aX⟩:=bg Hr ag;replace HA:=kL HA ag;replace HU:=kT HU ag;replace Hb:=az Hb ag;go_wp2;refine fP (bY w4 (w.heap.size) 0 [aj (aC (dN O)),ai (nt (dN O).natAbs),ah (dE O)]) cC ?_;intro w9 hs;replace Hr:=dt Hr hs;obtain⟨r0,aH,r1,aI,r2,aX⟩:=Hr.out.g3;replace Hb:=bS Hb hs ZS;clear hs;refine bodyPost_ret (v:=.tuple #[cK O,ah 0]) (by simp[results,Tryz.results67,go_sem,r0,r1,r2]) rfl ⟨rfl,Hb.out⟩
def ab4 (R:List (List Dyadic)):((R.map λr=>r.map canon).map λr=>r.map aJ)=R:=by
 rw[List.map_map];have:((λr:List Raw=>r.map aJ)∘λr:List Dyadic=>r.map canon)=id:=by
  funext r
  show(r.map canon).map aJ=r
  rw[List.map_map];have:(aJ∘canon)=id:=funext cp;rw[this];simp
 rw[this];simp
def avz (a':Option Addr)(c' m r c:Nat)(R:List (List Dyadic))(B:Nat)(w:World)(hL:R.length=m+1)(hrow:∀x∈R,x.length=m+1)(hr:r<=m)(hc:c<=m)(hm:m<=4)(hsm:∀x∈R,∀d∈x,Sm B d)(bX:1<=B)(hB:B<=1000000)(ht:cZ w a' ((mF R r c).map λx=>x.map canon))(hT:aM w):
 Cv 67 #[.slice a' m c'] w (.tuple #[cK (eU m (nJ (dx R) r c)),ah 0]):=by
 have hl:=ahp R r c m hL hr;by_cases h0:m=0
 . subst h0;have e:mF R r c=[]:=List.eq_nil_of_length_eq_zero hl;rw[e]at ht;exact aqI a' c' w ht hT
 . refine TV a' c' m ((mF R r c).map λx=>x.map canon) B (mF R r c) _ w zo hm (by rw[List.length_map,hl]) (λx hx=>?_) ht (λx hx y hy=>?_) bX hB hT (ab4 _) (avw R r c m hL hrow hr hc hm)
   . obtain⟨z,hz,rfl⟩:=List.mem_map.1 hx;rw[List.length_map];exact ahq R r c m hrow hc z hz
   . obtain⟨z,hz,rfl⟩:=List.mem_map.1 hx;obtain⟨d,hd,rfl⟩:=List.mem_map.1 hy;exact(avy hsm r c z hz d hd).fit zo
def aph (s:Nat)(h:s<=8):bits BinOp.and IntKind.i64 (s:Int) 1=((s%2:Nat):Int):=by
 have hc:s=0\/s=1\/s=2\/s=3\/s=4\/s=5\/s=6\/s=7\/s=8:=by omega
 rcases hc with rfl|rfl|rfl|rfl|rfl|rfl|rfl|rfl|rfl<;>rfl
def aoi (a:Option Addr)(cap m:Nat)(R:List (List Dyadic))(B:Nat)(w:World)(hm:m+1<=4)(hL:R.length=m+1)(hrow:∀x∈R,x.length=m+1)(hsm:∀x∈R,∀d∈x,Sm B d)(bX:1<=B)(hB:B<=1000000)(ha:cZ w a (R.map λx=>x.map canon))(hT:aM w):
 Cl 153 #[.slice a (m+1) cap] w λe w'=>∃v,e=.returned (.tuple #[v,ah 0])/\gV w' w.heap.size (m+1) (uh (m+1) (dx R)) (m+1) v/\Bw w w':=by
 obtain⟨i0,hi,hz0,hz1,hz2⟩:=info_parts Tryz.aFN;obtain⟨j0,hj,hy0,hy1,hy2⟩:=info_parts Tryz.aFU;have fp:=λW (hW:Bw w W)=>Xg a (m+1) cap (R.map λx=>x.map canon) W (by rw[List.length_map,hL]) zo (ha.below hW);have hm0:ye (R.map λx=>x.map canon)=0:=by
  unfold ye;rw[if_neg];rintro(h|h)
  . rw[List.length_map]at h;omega
  . rw[List.any_eq_true]at h;obtain⟨r,hr,h⟩:=h;obtain⟨z,hz,rfl⟩:=List.mem_map.1 hr;have:=hrow z hz;simp at h;omega
 rw[hm0]at fp;have hwo:=λr c (hr:r<=m) (hc:c<=m) W (hW:Bw w W)=>aAs a cap m r c R W hL hrow hr hc zo (ha.below hW);have rq:=λr c (hr:r<=m) (hc:c<=m) W (hW:Bw w W) a' c' (ht:cZ W a' ((mF R r c).map λx=>x.map canon))=>avz a' c' m r c R B W hL hrow hr hc zo hsm bX hB ht (hT.below hW);have hds:∀r c,r<=m->c<=m->Sm (4*B+6) (eU m (nJ (dx R) r c)):=by
  intro r c hr hc;refine MW zo (λi j hi hj=>?_);have hk:(if i<r then i else i+1)<R.length:=by split<;>omega
  have hl:=hrow _ (List.getElem_mem hk);have hk2:(if j<c then j else j+1)<R[if i<r then i else i+1].length:=by rw[hl];split<;>omega
  have e:nJ (dx R) r c i j=R[if i<r then i else i+1][if j<c then j else j+1]:=by
   show(R.getD (if i<r then i else i+1) []).getD (if j<c then j else j+1) 0=_
   rw[List.getD_eq_getElem?_getD (l:=R),List.getElem?_eq_getElem hk,Option.getD_some,List.getD_eq_getElem?_getD,List.getElem?_eq_getElem hk2];rfl
  rw[e];exact hsm _ (List.getElem_mem hk) _ (List.getElem_mem hk2)
 obtain⟨f,hf⟩:=aK (dx R);rw[hf]at rq hds⊢;have Uq:=λi (h:i<m+1)=>abN (m+1) f i h;obtain⟨A,hA⟩:=aK (uh (m+1) f);rw[hA]at Uq⊢;obtain⟨Hi,dF,dv,di,Hj,vG,xm,xo,oc,Hwo,FZ,LL⟩:=gg hi hz0 hz1 hz2 hj hy0 hy1 hy2 fp hwo rq hds;obtain⟨HT,ajT⟩:=aZ hT Uq;clear hi hz0 hz1 hz2 hj hy0 hy1 hy2 fp hwo rq hds hT Uq hA hf hm0 ha hsm hrow hL;have Hb:=hbz w;go_enter Tryz.func153,Tryz.ntmps153;go_wp2_with fail;refine(oc.out _ Hb.out).mono ?_;rintro e w1 ⟨rfl,ag⟩;replace Hb:=az Hb ag;go_wp2_with fail;go_loopw[5,18] (λs5 x wr=>∃(k:Nat) (v:Value),k<=m+1/\x=ah (k:Int)/\v=s5/\gV wr w.heap.size (m+1) A k v/\Bw w wr) (λ_ x _=>m+1-(intOf x).toNat);case atStart=>exact⟨0,_,Nat.zero_le _,rfl,rfl,gV.nil _ _ _ _,Hb.out⟩
 case round=>
  clear Hb;obtain⟨k,v,hk,rfl,rfl,pv,pb⟩:=hrel;obtain⟨eK,bj⟩:=aZ pv pb;clear pv pb;by_cases hlt:k<m+1
  . obtain⟨Z,hZ⟩:=aK ((List.range (m+1)).map λb=>mX (m+1) f k b);have Dd:Hid (A.getD k []=Z):=by show _=_;rw[ajT.out k hlt,hZ]
    have yE:Hid (Z.length=m+1):=by show _=_;rw[<-hZ];simp
    have QJ:Hid (∀j (h:j<m+1),Z.take (j+1)=Z.take j++[mX (m+1) f k j]):=by intro j h;rw[List.take_succ_eq_append_getElem (by rw[yE.out];exact h)];congr 2;simp[<-hZ]
    clear hZ;obtain⟨wq,hwc⟩:∃wq,wq=wr:=⟨_,rfl⟩;subst hwc;have gM:=bj.out.size;have xR:decide ((k:Int)<(m:Int)+1)=true:=by simp;omega
    go_wp2_with fail;clear xR;go_loopw[7,23] (λs7 x wr=>∃(j:Nat) (v2:Value),j<=m+1/\x=ah (j:Int)/\v2=s7/\wr.ownsRow wq.heap.size 48 3 v2 j (dC (Z.take j))/\Bw wq wr) (λ_ x _=>m+1-(intOf x).toNat);case atStart=>exact⟨0,_,Nat.zero_le _,rfl,rfl,World.ownsRow_nil _ _ _ _,Below.refl _ _⟩
    case round=>
     obtain⟨j,v2,hj,rfl,rfl,ho,hb2⟩:=hrel;obtain⟨Ho,dD⟩:=aZ ho hb2;have szb:=hb2.size;clear ho hb2;by_cases bC:j<m+1
     . obtain⟨X,hX⟩:=aK (eU m (nJ f j k));obtain⟨Y,hY⟩:=aK (mX (m+1) f k j);have hYX:Y=if(k+j)%2=1 then-X else X:=by rw[<-hY,<-hX];rfl
       have fY:=LL.out j k zo zo;rw[hX]at fY;have hst:dC (Z.take (j+1))=dC (Z.take j)++[aj (aC (dN Y)),ai (nt (dN Y).natAbs),ah (dE Y)]:=by rw[QJ.out j bC,hY,BA];rfl
       have bQ:=aO bj.out dD.out;have hd:=λW hW a' c' ht=>FZ.out j k zo zo W hW a' c' ht;rw[hX]at hd;obtain⟨Hd,cn,QH⟩:=cX hd hst hYX;have ZQ:Hid (Ok (canon X)):=fY.ok zo;have sA:=ar bQ;clear hd hst hYX hX hY fY bQ;have Hb:=hbz wr;go_wp2_with fail;refine(Hwo.out j k zo zo _ sA.out).mono ?_;rintro e w3 ⟨a3,c3,rfl,hc3,JI,ag⟩;replace Hb:=az Hb ag;have Mg:=ar JI;clear JI;go_wp2_with fail;refine(Hd.out _ (aO sA.out Hb.out) a3 c3 Mg.out).mono ?_;rintro e w4 ⟨rfl,ag⟩;replace Hb:=az Hb ag;clear ag Mg;have sz4:=Hb.out.size;obtain⟨W5,xL,ag,Hx⟩:=cE w4 48 [aj (aC (dN X)),ai (nt (dN X).natAbs),ah (dE X)];obtain⟨x0,cM,x1,cN,x2,dh⟩:=Hx.out.g3;replace Hb:=az Hb ag;have Ew:=aph (k+j) zo;rw[Int.natCast_add]at Ew;go_upto_if 38 with fail
       go_cut[7] (λs7 wx=>s7=v2/\au wx w4.heap.size 48 [aj (aC (dN Y)),ai (nt (dN Y).natAbs),ah (dE Y)]/\Bw wr wx);case first=>
        by_cases hp:(k+j)%2=1
        . have h9:(bits BinOp.and IntKind.i64 ((k:Int)+(j:Int)) 1==1)=true:=by rw[Ew,hp];rfl
          have hY: -aJ (canon X)=Y:=by rw[cp,QH.out,if_pos hp]
          have HY:=ar hY;clear hY Ew;go_wp2_with fail;refine(TK _ _ _ Y HY.out _ ZQ.out (HT.out.below (aO sA.out Hb.out))).mono ?_;rintro e w6 ⟨rfl,ag⟩;obtain⟨Hx,x0,cM,x1,cN,x2,dh⟩:=bg Hx ag;replace Hb:=az Hb ag;go_wp2_with fail;go_meet;exact⟨rfl,((Hx.out.set 0 _).set 1 _).set 2 _,((Hb.out.setCell zp _).setCell zp _).setCell zp _⟩
        . have h9:(bits BinOp.and IntKind.i64 ((k:Int)+(j:Int)) 1==1)=false:=by rw[Ew,show(k+j)%2=0 by omega];rfl
          have hY:Y=X:=by rw[QH.out,if_neg hp]
          subst hY;clear Ew;go_wp2_with fail;go_meet;exact⟨rfl,Hx.out,Hb.out⟩
       case rest=>
        obtain⟨rfl,hx,hb⟩:=hcut;clear Ew;have Hx:Hid (au wc w4.heap.size 48 [aj (aC (dN Y)),ai (nt (dN Y).natAbs),ah (dE Y)]):=hx;have yH:=ar (aO dD.out hb);have hov:=ownsRow_below Ho.out hb;have dQ:=ar hov;have szc:=hb.size;clear hx hb hov Ho Hb Hd QH ZQ sA dD;have Hb:=hbz wc;obtain⟨x0,x1,x2⟩:=Hx.out.c3;have P0:=x0;have P1:=x1;have P2:=x2;have aER:=Hx.out.lt;obtain⟨W6,uz,ag,Hc⟩:=cE wc 48 [aj (aC (dN Y)),ai (nt (dN Y).natAbs),ah (dE Y)];obtain⟨Hx,x0,x1,x2⟩:=cm Hx ag;obtain⟨c0,c1,c2⟩:=Hc.out.c3;replace Hb:=az Hb ag;have dR:=ownsRow_below dQ.out Hb.out;have ky:=Hb.out.size;go_wp2_with (at_builtin;refine wpList_append_own_at _ rfl _ _ 32 rfl wq.heap.size 48 i0 _ 3 32 Tryz.underlying32 Hi.out dF.out dv.out di.out rfl zd _ j (dC (Z.take j)) rfl dR ⟨wc.heap.size,0,none⟩ 1 1 [aj (aC (dN Y)),ai (nt (dN Y).natAbs),ah (dE Y)] rfl rfl (gW Hc.out) zy zx zo zo ?_;intro v' w7 fg fM _ gY;obtain⟨g',sL,rfl⟩:=ownsRow_succ fg);go_roundw;case rel=>exact⟨j+1,_,by omega,by go_num,rfl,by rw[cn.out];exact fg,(aO yH.out Hb.out).grown fM zo (λj e=>dX dR j e)⟩
        case measure=>exact bI
     . obtain rfl:j=m+1:=by omega
       have uB:Z.take (m+1)=Z:=List.take_of_length_le (by rw[yE.out];exact Nat.le_refl _);rw[uB]at Ho;have fS:=Ho.out.lt;obtain⟨a2,cap2,rfl,_,_⟩:=dS Ho.out;obtain⟨vals,hvl,Ab,Wu,JO⟩:=eK.out;have hov:=ownsRow_below Ab dD.out;have tj:=λi h=>ownsRow_below (Wu i h) dD.out;have jz:∀g,(Value.slice a2 (m+1) cap2).ownBlock=some g->∀i (h:i<vals.length),vals[i].ownBlock≠some g:=λg e i h e2=>by have h1:=(fS g e).1;have h2:=((Wu i h).lt g e2).2;omega
       have hx:=tu Ho.out gM;obtain⟨ue,Bf,dQ,SC,vw,yV⟩:=iq hvl tj hov JO jz hx;clear hvl tj hov Ab Wu JO jz hx fS uB;have Hb:=hbz wr;obtain⟨W6,uz,ag,Hd⟩:=cE wr 32 [.slice a2 (m+1) cap2];have d0:=Hd.out.c1;replace Hb:=az Hb ag;have dR:=ownsRow_below dQ.out Hb.out;have ky:=Hb.out.size;go_wp2_with (at_builtin;refine wpList_append_own_at _ rfl _ _ 82 rfl w.heap.size 32 j0 _ 1 24 Tryz.underlying82 Hj.out vG.out xm.out xo.out rfl zd v k vals rfl dR ⟨wr.heap.size,0,none⟩ 1 1 [.slice a2 (m+1) cap2] rfl rfl (gW Hd.out) zy zx zo zo ?_;intro v' w7 fg fM _ gY;obtain⟨g',sL,rfl⟩:=ownsRow_succ fg);go_roundw;case rel=>refine⟨k+1,_,by omega,by go_num,rfl,gV.push ue.out dR (λi h=>ownsRow_below (Bf.out i h) Hb.out) SC.out (by rw[Dd.out];exact ownsRow_below yV.out Hb.out) vw.out fg fM,?_⟩;exact(aO (aO bj.out dD.out) Hb.out).grown fM zo (λj e=>dX dR j e)
       case measure=>exact bI
  . obtain rfl:k=m+1:=by omega
    go_wp2;exact bodyPost_ret (v:=.tuple #[v,ah 0]) (by simp[results,Tryz.results153,go_sem]) rfl ⟨v,rfl,eK.out,bj.out⟩
end Go.Proofs.YtnjfebkelecgaaaGreatDoor
namespace Go.Proofs.YtnjfebkelecgaaaGreatDoor
def ui (n:Nat)(p:Nat->Nat->Dyadic):List (List Dyadic):=(List.range n).map λa=>(List.range n).map λb=>lu n p a b
def Tn (n:Nat)(p:Nat->Nat->Dyadic):(ui n p).length=n:=by simp[ui]
def Tp (n:Nat)(p:Nat->Nat->Dyadic):∀r∈ui n p,r.length=n:=by intro r hr;unfold ui at hr;obtain⟨x,_,rfl⟩:=List.mem_map.1 hr;simp
def abM (n:Nat)(p:Nat->Nat->Dyadic)(a b:Nat)(ha:a<n)(hb:b<n):dx (ui n p) a b=lu n p a b:=by unfold dx ui;simp[List.getD_eq_getElem?_getD,ha,hb]
def azs {n:Nat}{R S:List (List Dyadic)}(h1:R.length=n)(h2:∀r∈R,r.length=n)(h3:S.length=n)(h4:∀r∈S,r.length=n)(h:∀a b,a<n->b<n->dx R a b=dx S a b):R=S:=by apply List.ext_getElem zo;intro i hi hj;have l1:=h2 _ (List.getElem_mem hi);have l2:=h4 _ (List.getElem_mem hj);apply List.ext_getElem zo;intro j k1 k2;have:=h i j zo zo;unfold dx at this;simpa[List.getD_eq_getElem?_getD,hi,hj,k1,k2]using this
def aoe (n:Nat)(cV:n<=4){e f:Nat->Nat->Dyadic}(h:∀i j,i<n->j<n->e i j=f i j)(a b:Nat)(ha:a<n)(hb:b<n):mX n e a b=mX n f a b:=by
 have:eU (n-1) (nJ e b a)=eU (n-1) (nJ f b a):=MV (n-1) zo (λi j hi hj=>by
  unfold nJ
  exact h _ _ (by split<;>omega) (by split<;>omega))
 unfold mX;rw[this]
def aq6 {n:Nat}{R:List (List Dyadic)}(h1:R.length=n)(h2:∀r∈R,r.length=n)(i j:Nat)(hi:i<n)(hj:j<n)(y:Dyadic)(a b:Nat)(ha:a<n)(hb:b<n):dx (R.set i ((R.getD i []).set j y)) a b=if a=i/\b=j then y else dx R a b:=by
 unfold dx;by_cases e:a=i
 . subst e;rw[List.getD_eq_getElem?_getD (l:=R.set _ _),List.getElem?_set_self zo,Option.getD_some];have hl:(R.getD a []).length=n:=by
    have e:R.getD a []=R[a]'zo:=by rw[List.getD_eq_getElem?_getD,List.getElem?_eq_getElem zo];rfl
    rw[e];exact h2 _ (List.getElem_mem _)
   by_cases e2:b=j
   . subst e2;rw[if_pos ⟨rfl,rfl⟩,List.getD_eq_getElem?_getD,List.getElem?_set_self zo];rfl
   . rw[if_neg (λh=>e2 h.2),List.getD_eq_getElem?_getD,List.getElem?_set_ne (λh=>e2 h.symm),<-List.getD_eq_getElem?_getD]
 . rw[if_neg (λh=>e h.1),List.getD_eq_getElem?_getD (l:=R.set _ _),List.getElem?_set_ne (λh=>e h.symm),<-List.getD_eq_getElem?_getD]
def ayU {n:Nat}{R:List (List Dyadic)}(h1:R.length=n)(h2:∀r∈R,r.length=n)(i j:Nat)(hi:i<n)(y:Dyadic):(R.set i ((R.getD i []).set j y)).length=n/\∀r∈R.set i ((R.getD i []).set j y),r.length=n:=by
 refine⟨by rw[List.length_set];exact h1,λr hr=>?_⟩;rcases List.mem_or_eq_of_mem_set hr with h|h
 . exact h2 r h
 . rw[h,List.length_set];have e:R.getD i []=R[i]'zo:=by rw[List.getD_eq_getElem?_getD,List.getElem?_eq_getElem zo];rfl
   rw[e];exact h2 _ (List.getElem_mem _)
def ayW (X:Dyadic):(if eG X<0 then-X else X)=gL X*X:=by
 rw[ayV];by_cases h:X<0
 . rw[if_pos h,if_pos ((Ik X).2 h)]
 . rw[if_neg h,if_neg (λh2=>h ((Ik X).1 h2))]
def lC (k j a b:Nat):Prop:=a<k\/a=k/\b<j
instance (k j a b:Nat):Decidable (lC k j a b):=inferInstanceAs (Decidable (_\/_))
end Go.Proofs.YtnjfebkelecgaaaGreatDoor
namespace Go.Proofs.YtnjfebkelecgaaaGreatDoor
open Go.RowKit
attribute [local go_sem ↓] Go.wp_at_zero Go.wp_at_succ
def abH (w:World)(n:Nat)(p:Nat->Nat->Dyadic)(e:Ending)(w':World):Prop:=
 ∃a' c',e=.returned (.tuple #[cK (gL (dz n p) *dz n p),.slice a' n c',ah 0])/\n<=c'/\cZ w' a' ((ui n p).map λr=>r.map canon)/\Bw w w'
def gV.blk {w:World}{base n L go cap:Nat}{R:List (List Dyadic)}(h:gV w base n R L (.slice (some ⟨go,0,none⟩) L cap))(i:Nat)(hi:i<L)(hn:0<n):base<=go/\∃g c,w.cell? ⟨go,i,none⟩=some (.slice (some ⟨g,0,none⟩) n c)/\base<=g/\g<w.heap.size/\g≠go:=by
 obtain⟨vals,hl,ho,hv,hd⟩:=h;have hi2:i<vals.length:=by omega
 have hrow:=hv i hi2;obtain⟨g,c,e1,hg1,hg2,_⟩:=wy hrow hn;have gY:=CL ho;have hc:=lR ho i zo;rw[e1]at hc;refine⟨gY.1,g,c,hc,hg1,hg2,?_⟩;rintro rfl;rw[e1]at hrow;rcases hrow.2 with⟨h1,_⟩ |⟨g',c',cur,h1,_,h2,_⟩
 . simp at h1
 . simp only[Value.slice.injEq,Option.some.injEq,Addr.mk.injEq,and_true,true_and]at h1;obtain⟨rfl,rfl⟩:=h1;rcases ho.2 with⟨h3,_⟩ |⟨g2,c2,aBG,h3,_,h4,_⟩
   . simp at h3
   . simp only[Value.slice.injEq,Option.some.injEq,Addr.mk.injEq,and_true,true_and]at h3;obtain⟨rfl,rfl⟩:=h3;rw[h2]at h4;simp at h4
def gV.aFV {w:World}{base n k:Nat}{R:List (List Dyadic)}{v:Value}(h:gV w base n R k v){p:Addr}(hp:p.block<base)(x:Value):gV (w.setCell p x) base n R k v:=by
 obtain⟨vals,hl,ho,hi,hd⟩:=h;have hne:∀{u:Value} {e:TypeId} {sz m:Nat} {xs:List Value},w.ownsRow base e sz u m xs->u.ownBlock≠some p.block:=λh e=>by have:=(h.lt _ e).1;omega
 exact⟨vals,hl,ownsRow_setCell_other ho (hne ho) _,λi h=>ownsRow_setCell_other (hi i h) (hne (hi i h)) _,hd⟩
def aub (a:Option Addr)(cap m:Nat)(rows:List (List Raw))(B:Nat)(w:World)(hm:m+1<=4)(hr:Rw (m+1) B rows)(hcap:m+1+1<=cap)(ha:cZ w a rows)(hB:B<=200000)(hT:aM w)(h0:jE rows=0):
 Cl 115 #[.slice a (m+1+1) cap] w (abH w (m+1) (cF rows)):=by
 obtain⟨n,hn⟩:=aK (m+1);have hL:=hr.1;have hrow:=hr.2.1;have hfit:=hr.2.2;obtain⟨b,o,rfl⟩:∃b o,a=some ⟨b,o,none⟩:=by
  obtain⟨vals,hvl,hat,_⟩:=ha;rcases hat with h|⟨b,o,h,_⟩
  . rw[h]at hvl;simp at hvl;omega
  . exact⟨b,o,h⟩
 have fp:=λW (hW:Bw w W)=>Yy (some ⟨b,o,none⟩) (m+1+1) cap rows B W hL zo hcap (ha.below hW) hfit zo (hT.below hW);rw[h0]at fp;obtain⟨S,hS⟩:=aK ((rows.drop 1).map λp=>lA (rows.getD 0 []) p);have mA:S.length=m+1:=by rw[<-hS];simp[hL]
 have h00:0<rows.length:=by omega
 have e0:rows.getD 0 []=rows[0]:=by simp[h00]
 have vM:∀r∈S,r.length=m+1:=by intro r hr;rw[<-hS]at hr;obtain⟨p,hp,rfl⟩:=List.mem_map.1 hr;rw[Na (by rw[e0,hrow _ (List.mem_of_mem_drop hp),hrow _ (List.getElem_mem h00)]),hrow _ (List.mem_of_mem_drop hp)]
 have iL:∀r∈S,∀d∈r,Sm (B+1) d:=by intro r hr d hd;rw[<-hS]at hr;obtain⟨p,hp,rfl⟩:=List.mem_map.1 hr;unfold lA at hd;obtain⟨i,hi,rfl⟩:=List.mem_iff_getElem.1 hd;rw[List.getElem_zipWith];refine Sm.sub (hfit p (List.mem_of_mem_drop hp) _ (List.getElem_mem _)).2 (hfit (rows.getD 0 []) ?_ _ (List.getElem_mem _)).2;rw[e0];exact List.getElem_mem h00
 obtain⟨P,hP⟩:=aK (cF rows);have Jh:∀i j,i<m+1->j<m+1->dx S i j=DY P i j:=λi j hi hj=>by rw[<-hS,<-hP];exact aiz (m+1) rows hL hrow i j hi hj
 obtain⟨X,hX⟩:=aK (dz (m+1) P);have hent:eU (m+1) (dx S)=X:=by rw[<-hX,Nf];exact MV (m+1) hm Jh
 have hro:=λW (hW:Bw w W)=>aig b o cap (m+1) (m+1) rows B W hL zo hcap zo zo zo hrow (ha.below hW) hfit zo (hT.below hW);rw[hS]at hro
 have rq:=λW (hW:Bw w W) a' c' (h:cZ W a' (S.map λr=>r.map canon))=>TV a' c' (m+1) (S.map λr=>r.map canon) (B+1) S X W zo hm (by simpa using mA) (by
  intro r hr;obtain⟨x,hx,rfl⟩:=List.mem_map.1 hr
  simpa using vM x hx) h (by
  intro r hr c hc;obtain⟨x,hx,rfl⟩:=List.mem_map.1 hr;obtain⟨y,hy,rfl⟩:=List.mem_map.1 hc
  exact(iL x hx y hy).fit zo) zo zo (hT.below hW) (ab4 S) hent
 have xO:=λW (hW:Bw w W) a' c' (h:cZ W a' (S.map λr=>r.map canon))=>(aoi a' c' m S (B+1) W hm mA vM iL zo zo h (hT.below hW)).mono (λe w' h=>(match h with|⟨v,h1,h2,h3⟩=>⟨v,h1,h2,h3,h3⟩:∃v,e=.returned (.tuple #[v,ah 0])/\gV w' W.heap.size (m+1) (uh (m+1) (dx S)) (m+1) v/\Bw W w'/\Bw W w'));have fY:Sm (4*B+11) X:=by rw[<-hent];refine(MW (B:=B+1) hm (λi j hi hj=>?_)).mono zo;rw[Jh i j hi hj,<-hP];exact Il (n:=m+1) (B:=B) (λa b ha hb=>by rw[tv rows a b zo (by rw[hrow _ (List.getElem_mem _)];exact hb)];exact(hfit _ (List.getElem_mem _) _ (List.getElem_mem _)).2) i j hi hj
 have lL:=λW=>vK (aC (dN X)) (nt (dN X).natAbs) (dE X) (eG X) (by show eG (aJ (canon X))=_;rw[cp]) W (fY.ok zo);have Jl: -1<=eG X/\eG X<=1:=by unfold eG gh;split<;>(try split)<;>omega
 obtain⟨G,hG⟩:=aK (gL X);have hof:=λW (hW:Bw w W)=>BB (eG X) G (by rw[<-hG];rfl) W zo (hT.below hW)
 have hab:=λW (hW:Bw w W)=>acv (aC (dN X)) (nt (dN X).natAbs) (dE X) (G*X) (by
  have e:aJ (aC (dN X),nt (dN X).natAbs,dE X)=X:=cp X
  rw[e,ayW,hG]) W (fY.ok zo) (hT.below hW)
 have hGf:Fit (4*B+11) (canon G):=(by rw[<-hG];exact(Yi X).mono zo:Sm (4*B+11) G).fit zo;have uu:∀i j,i<m+1->j<m+1->Fit (4*B+11) (canon (mX (m+1) (dx S) i j)):=λi j hi hj=>by refine((abL (B:=B+1) zo hm (λa b ha hb=>?_) i j).mono zo).fit zo;rw[Jh a b ha hb,<-hP];exact Il (n:=m+1) (B:=B) (λa b ha hb=>by rw[tv rows a b zo (by rw[hrow _ (List.getElem_mem _)];exact hb)];exact(hfit _ (List.getElem_mem _) _ (List.getElem_mem _)).2) a b ha hb
 have hfin:∀R:List (List Dyadic),R.length=m+1->(∀r∈R,r.length=m+1)->(∀a b,a<m+1->b<m+1->dx R a b=mX (m+1) (dx S) a b*G)->R=ui (m+1) P:=λR h1 h2 h3=>azs h1 h2 (Tn _ _) (Tp _ _) (λa b ha hb=>by
  rw[h3 a b ha hb,abM _ _ _ _ ha hb];unfold lu
  rw[hX,hG,aoe (m+1) hm Jh a b ha hb])
 have Iz:=λi j hi hj=>aof (m+1) (dx S) i j hi hj;have ND:=aog (m+1) (dx S);have NE:=aoh (m+1) (dx S);obtain⟨F,hF⟩:∃F:Nat->Nat->Dyadic,(λi j=>mX (m+1) (dx S) i j)=F:=⟨_,rfl⟩;have hFe:∀i j,mX (m+1) (dx S) i j=F i j:=λi j=>by rw[<-hF]
 simp only[hFe]at uu hfin Iz;obtain⟨A,hA⟩:=aK (uh (m+1) (dx S));rw[hA]at xO Iz ND NE;rw[hP];unfold abH;rw[hX,hG];rw[hn]at fp hro rq xO uu hfin Iz ND NE⊢;have cV:n<=4:=by omega
 have ny:1<=n:=by omega
 have af7:=λW=>(lL W).mono (λe w' h=>(⟨h.1,h.2,h.2⟩:e=.returned (ah (eG X))/\Bw W w'/\Bw W w'));have afM:=λW hW=>(hof W hW).mono (λe w' h=>(⟨h.1,h.2,h.2⟩:e=.returned (cK G)/\Bw W w'/\Bw W w'));have iM:=λW hW=>(hab W hW).mono (λe w' h=>(⟨h.1,h.2,h.2⟩:e=.returned (cK (G*X))/\Bw W w'/\Bw W w'));obtain⟨oc,Hro,FZ,QN,rN,og,pj,HGf,HAs,wV,HAe,HAl⟩:=gg fp hro rq xO af7 afM iM hGf uu hfin Iz ND;obtain⟨HAr,HT⟩:=aZ NE hT;clear fp hro rq xO af7 afM lL hof hab iM hGf uu hfin Iz ND NE hT hFe hF hA fY hent Jh iL vM mA hS e0 h00 hP hX hG Jl ha hr hL hrow hfit h0 hn;have Hb:=hbz w;go_enter Tryz.func115,Tryz.ntmps115;go_wp2_with fail;have q:=fK w 48 [aj false,.string ⟨#[]⟩,ah 0];first|refine cd _ q ?_|refine cw _ q ?_
 clear q;rintro W ⟨Hr,ag⟩;obtain⟨r0,aH,r1,aI,r2,aX⟩:=Hr.out.g3;replace Hb:=az Hb ag;go_wp2_with fail;refine(oc.out _ Hb.out).mono ?_;rintro e w1 ⟨rfl,ag⟩;obtain⟨Hr,r0,aH,r1,aI,r2,aX⟩:=bg Hr ag;replace Hb:=az Hb ag;go_wp2_with fail;refine(Hro.out _ Hb.out).mono ?_;rintro e w2 ⟨a2,c2,rfl,hc2,ht2,ag⟩;obtain⟨Hr,r0,aH,r1,aI,r2,aX⟩:=bg Hr ag;replace Hb:=az Hb ag;have Mf:=ar ht2;clear ht2;go_wp2_with fail;refine(FZ.out _ Hb.out a2 c2 Mf.out).mono ?_;rintro e w3 ⟨rfl,ag⟩;obtain⟨Hr,r0,aH,r1,aI,r2,aX⟩:=bg Hr ag;replace Hb:=az Hb ag;clear ag Mf;have Xb:=Hr.out.lt;obtain⟨W4,ov,ag,Hd⟩:=cE w3 48 [aj (aC (dN X)),ai (nt (dN X).natAbs),ah (dE X)];obtain⟨Hr,r0,aH,r1,aI,r2,aX⟩:=bg Hr ag;obtain⟨d0,d1,d2⟩:=Hd.out.c3;replace Hb:=az Hb ag;go_wp2_with fail;refine(Hro.out _ Hb.out).mono ?_;rintro e w5 ⟨a3,c3,rfl,hc3,JI,ag⟩;obtain⟨Hr,r0,aH,r1,aI,r2,aX⟩:=bg Hr ag;obtain⟨Hd,d0,d1,d2⟩:=cm Hd ag;replace Hb:=az Hb ag;have Mg:=ar JI;clear JI;have jN:=Hr;have aah:=Hd;have dY:=Hb;go_wp2_with fail;refine(QN.out _ Hb.out a3 c3 Mg.out).mono ?_;rintro e w6 ⟨v,rfl,hO,aex,ag⟩;obtain⟨Hr,r0,aH,r1,aI,r2,aX⟩:=bg Hr ag;obtain⟨Hd,d0,d1,d2⟩:=cm Hd ag;replace Hb:=az Hb ag;obtain⟨go,cv,rfl,hgo⟩:∃go cv,v=.slice (some ⟨go,0,none⟩) n cv/\w5.heap.size<=go:=by obtain⟨vals,hl,ho,_,_⟩:=hO;obtain⟨g,c,e1,h1,_,_⟩:=wy ho zo;exact⟨g,c,e1,h1⟩
 have hcv:n<=cv:=by obtain⟨vals,hl,ho,_,_⟩:=hO;exact(yl ho).1
 obtain⟨gI,hgI⟩:∃gI:Nat->Nat×Nat,∀i,i<n->w6.cell? ⟨go,i,none⟩=some (.slice (some ⟨(gI i).1,0,none⟩) n (gI i).2)/\w5.heap.size<=(gI i).1/\(gI i).1<w6.heap.size/\(gI i).1≠go:=by have H:=λi (h:i<n)=>(hO.blk i h ny).2;refine⟨λi=>if h:i<n then(Classical.choose (H i h),Classical.choose (Classical.choose_spec (H i h)))else(0,0),λi h=>?_⟩;simp only[h,dif_pos];exact Classical.choose_spec (Classical.choose_spec (H i h))
 obtain⟨HO,HgI⟩:=aZ hO hgI;clear hO hgI;have CZ:Hid (Bw w5 w6):=aex;have H66:Hid (Bw w6 w6):=Below.refl _ _;clear aex;have Qh:=CZ.out.size;go_wp2_with fail;refine(rN.out _).mono ?_;rintro e w7 ⟨rfl,aez,ag⟩;obtain⟨Hr,r0,aH,r1,aI,r2,aX⟩:=bg Hr ag;obtain⟨Hd,d0,d1,d2⟩:=cm Hd ag;replace Hb:=az Hb ag;go_wp2_with fail;refine(og.out _ Hb.out).mono ?_;rintro e w8 ⟨rfl,aeA,ag⟩;obtain⟨Hr,r0,aH,r1,aI,r2,aX⟩:=bg Hr ag;obtain⟨Hd,d0,d1,d2⟩:=cm Hd ag;replace Hb:=az Hb ag;have Vf:=aO aez aeA;clear aez aeA;have Za:=ar Vf;have Qi:=Vf.size;clear Vf;have aEH:=Hr.out.lt;have aDX:=Hd.out.lt;obtain⟨W9,UR,ag,Hs⟩:=cE w8 48 [aj (aC (dN G)),ai (nt (dN G).natAbs),ah (dE G)];replace Hr:=kB Hr ag;obtain⟨Hd,d0,d1,d2⟩:=cm Hd ag;obtain⟨r0,aH,r1,aI,r2,aX⟩:=Hr.out.g3;obtain⟨s0,s1,s2⟩:=Hs.out.c3;replace Hb:=az Hb ag;have Lm:Hid (Bw w6 W9):=by rw[<-UR];exact(Za.out).alloc zo _
 have hO9:=HO.out.below Lm.out;have Oc:∀i,i<n->W9.cell? ⟨go,i,none⟩=some (.slice (some ⟨(gI i).1,0,none⟩) n (gI i).2):=λi h=>cell_later Lm.out (HgI.out i h).1;have aey:=aO CZ.out Lm.out;obtain⟨ZB,Hc9,YZ⟩:=cX hO9 Oc aey;have Hs9:=Hs;clear hO9 Oc aey HO Za H66 Lm;go_wp2_with fail;go_loopw[37] (λx wr=>∃(k:Nat) (R:List (List Dyadic)),k<=n/\x=ah (k:Int)/\R.length=n/\(∀r∈R,r.length=n)/\(∀a b,a<n->b<n->dx R a b=if lC k 0 a b then F a b*G else F a b)/\gV wr w5.heap.size n R n (.slice (some ⟨go,0,none⟩) n cv)/\(∀i,i<n->wr.cell? ⟨go,i,none⟩=some (.slice (some ⟨(gI i).1,0,none⟩) n (gI i).2))/\au wr w8.heap.size 48 [aj (aC (dN G)),ai (nt (dN G).natAbs),ah (dE G)]/\Bw w5 wr) (λx _=>n-(intOf x).toNat);case atStart=>exact⟨0,A,Nat.zero_le _,rfl,HAl.out,HAr.out,λa b ha hb=>by rw[HAe.out a b ha hb,if_neg (by unfold lC;omega)],ZB.out,Hc9.out,Hs9.out,YZ.out⟩
 case round=>
  clear Hs9 YZ Hc9 ZB s0 s1 s2 Hs r0 aH r1 aI r2 aX d0 d1 d2 Hr Hd Hb CZ;obtain⟨k,R,hk,rfl,gy,uy,hRe,hO,hc,hs,pb⟩:=hrel;by_cases hlt:k<n
  . have fp:=hc k hlt;obtain⟨g,c,jm⟩:∃g c,gI k=(g,c):=⟨_,_,rfl⟩;obtain⟨_,hg1,hg2,hg3⟩:=HgI.out k hlt;rw[jm]at fp hg1 hg2 hg3;have bD:=EX n cv k (k:Int) (rfl:(some ⟨go,0,none⟩:Option Addr)=_) hlt rfl;rw[Nat.zero_add,Nat.mul_one]at bD;have hin:∃(j:Nat) (R:List (List Dyadic)),j=0/\R.length=n/\(∀r∈R,r.length=n)/\(∀a b,a<n->b<n->dx R a b=if lC k j a b then F a b*G else F a b)/\gV wr w5.heap.size n R n (.slice (some ⟨go,0,none⟩) n cv)/\(∀i,i<n->wr.cell? ⟨go,i,none⟩=some (.slice (some ⟨(gI i).1,0,none⟩) n (gI i).2))/\au wr w8.heap.size 48 [aj (aC (dN G)),ai (nt (dN G).natAbs),ah (dE G)]/\Bw w5 wr:=⟨0,R,rfl,gy,uy,hRe,hO,hc,hs,pb⟩;obtain⟨yK,yJ⟩:=aZ hin jm;clear hin gy uy hRe hO hc hs pb jm;obtain⟨wq,Wz⟩:∃wq,wq=wr:=⟨_,rfl⟩;subst Wz;go_wp2_with fail;go_loopw[43] (λx wr=>∃(j:Nat) (R:List (List Dyadic)),j<=n/\x=ah (j:Int)/\R.length=n/\(∀r∈R,r.length=n)/\(∀a b,a<n->b<n->dx R a b=if lC k j a b then F a b*G else F a b)/\gV wr w5.heap.size n R n (.slice (some ⟨go,0,none⟩) n cv)/\(∀i,i<n->wr.cell? ⟨go,i,none⟩=some (.slice (some ⟨(gI i).1,0,none⟩) n (gI i).2))/\au wr w8.heap.size 48 [aj (aC (dN G)),ai (nt (dN G).natAbs),ah (dE G)]/\Bw w5 wr) (λx _=>n-(intOf x).toNat);case atStart=>obtain⟨j,R,rfl,h⟩:=yK.out;exact⟨0,R,Nat.zero_le _,rfl,h⟩
    case round=>
     clear yK fp bD;obtain⟨j,R,hj,rfl,gy,uy,hRe,hO,hc,hs,pb⟩:=hrel;by_cases bC:j<n
     . have hrl:(R.getD k []).length=n:=by
        have e:R.getD k []=R[k]'zo:=by rw[List.getD_eq_getElem?_getD,List.getElem?_eq_getElem zo];rfl
        rw[e];exact uy _ (List.getElem_mem _)
       have fp:=hc k hlt;rw[yJ.out]at fp;have hpick:∀W,gV W w5.heap.size n R n (.slice (some ⟨go,0,none⟩) n cv)->W.cell? ⟨go,k,none⟩=some (.slice (some ⟨g,0,none⟩) n c)->bH W g (j*3) [aj (aC (dN (F k j))),ai (nt (dN (F k j)).natAbs),ah (dE (F k j))]/\(∀o,W.frozen? ⟨g,o,none⟩=false)/\∀y:Dyadic,gV (((W.setCell ⟨g,j*3,none⟩ (aj (aC (dN y)))).setCell ⟨g,j*3+1,none⟩ (ai (nt (dN y).natAbs))).setCell ⟨g,j*3+2,none⟩ (ah (dE y))) w5.heap.size n (R.set k ((R.getD k []).set j y)) n (.slice (some ⟨go,0,none⟩) n cv):=by
        intro W hO fp;obtain⟨go',cap',g',c',hv,_,_,hne,hcell,cj,hfz,hup⟩:=hO.num k j hlt bC gy hrl;simp only[Value.slice.injEq,Option.some.injEq,Addr.mk.injEq,and_true,true_and]at hv;obtain⟨rfl,rfl⟩:=hv;rw[fp]at hcell;simp only[Option.some.injEq,Value.slice.injEq,Addr.mk.injEq,and_true,true_and]at hcell;obtain⟨rfl,rfl⟩:=hcell;have he:(R.getD k []).getD j 0=F k j:=by have h:=hRe k j hlt bC;rw[if_neg (by unfold lC;omega)]at h;exact h
        rw[he]at cj;exact⟨cj,hfz,hup⟩
       obtain⟨cj,_,_⟩:=hpick wr hO fp;have Ur:=HAs.out k j hlt bC;obtain⟨Y,hY⟩:=aK (F k j*G);have hsl:=ayU gy uy k j hlt Y;have hen:∀a b,a<n->b<n->dx (R.set k ((R.getD k []).set j Y)) a b=if lC k (j+1) a b then F a b*G else F a b:=by
        intro a b ha hb;rw[aq6 gy uy k j hlt bC Y a b ha hb];by_cases e:a=k/\b=j
        . obtain⟨rfl,rfl⟩:=e;rw[if_pos ⟨rfl,rfl⟩,if_pos (by unfold lC;omega),hY]
        . rw[if_neg e,hRe a b ha hb];have:lC k j a b↔lC k (j+1) a b:=by unfold lC;omega
          by_cases h:lC k j a b
          . rw[if_pos h,if_pos (this.1 h)]
          . rw[if_neg h,if_neg (λh2=>h (this.2 h2))]
       obtain⟨E,hE⟩:=aK (F k j);have HY:Hid (aJ (canon E) *aJ (canon G)=Y):=by show _=_;rw[cp,cp,<-hE];exact hY
       rw[hE]at cj Ur hpick;have zZ:=kP n c j (j:Int) (rfl:(some ⟨g,0,none⟩:Option Addr)=_) bC rfl;rw[Nat.zero_add]at zZ;obtain⟨R2,hR2⟩:=aK (R.set k ((R.getD k []).set j Y));have hpk:=λW h1 h2=>(hpick W h1 h2).2.2 Y;have Cn:=λW h1 h2=>(hpick W h1 h2).2.1;rw[hR2]at hsl hen hpk;have Hz:Hid (bH wr g (j*3) [aj (aC (dN E)),ai (nt (dN E).natAbs),ah (dE E)]):=cj;have Hs:Hid (au wr w8.heap.size 48 [aj (aC (dN G)),ai (nt (dN G).natAbs),ah (dE G)]):=hs;obtain⟨HO,QX,oc,bj,Gz,Hen,Hpk,Hpz,HAf,gB⟩:=Kc hO hc fp pb hsl hen hpk Cn Ur (HT.out.below (aO dY.out pb));have CS:=pb.size;clear hO hc fp pb hsl hen hpk Cn Ur hs cj hpick hR2 hE hY gy uy hRe hrl;have Hb:=hbz wr;have Cq:=Hs.out.lt;go_wp2_with fail;obtain⟨z0,z1,z2⟩:=Hz.out.w3;obtain⟨s0,s1,s2⟩:=Hs.out.c3;have HU:Hid (aM wr):=gB.out;refine bV (λw'=>aF w' g (j*3) (aj (aC (dN E)))/\aF w' g (j*3+1) (ai (nt (dN E).natAbs))/\aF w' g (j*3+2) (ah (dE E))/\aF w' (w8.heap.size) 0 (aj (aC (dN G)))/\aF w' (w8.heap.size) 1 (ai (nt (dN G).natAbs))/\aF w' (w8.heap.size) 2 (ah (dE G))) (λi=>Nat.blt i 10) [(0,true),(1,true),(2,true),(3,true),(4,true),(5,true),(6,true),(7,false),(8,false),(9,true),(10,false)] zk zk rfl zk zc ⟨z0,z1,z2,s0,s1,s2⟩ ?_;iterate 7 (refine pT rfl rfl ?_ (by intro w' ⟨q0,q1,q2,q3,q4,q5⟩;go_simp;try with_reducible rfl);try simp only[UU])
       refine aR rfl rfl (λK hK=>?_);go_simp;refine hK _ _ (λ_=>⟨aV z0,aV z1,aV z2,aV s0,aV s1,aV s2⟩) ?_;try simp only[UU]
       refine bZ (λW4=>au W4 (wr.heap.size) 48 [aj (aC (dN E)),ai (nt (dN E).natAbs),ah (dE E),aj (aC (dN G)),ai (nt (dN G).natAbs),ah (dE G)]/\Bw wr W4) (by first|exact eo|exact eu) ?_;rintro W4 ⟨qv,ag⟩;have aEK:=Hs.out.lt;replace Hz:=kW Hz ag;replace Hs:=kB Hs ag;replace HU:=kT HU ag;have Hv:=ar qv;clear qv;obtain⟨z0,z1,z2⟩:=Hz.out.w3;obtain⟨s0,s1,s2⟩:=Hs.out.c3;obtain⟨v0,v1,v2,v3,v4,v5⟩:=Hv.out.c6;replace Hb:=az Hb ag;refine aR rfl rfl (λK hK=>?_);go_simp;with_reducible refine(xy _ _ _ _ _ _ Y (4*B+11) HY.out wr.heap.size _ 48 _ HAf.out HGf.out zo Hv.out (by first|exact HU.out|exact aM.drew HU.out|exact aM.alloc HU.out _|exact aM.drew (aM.alloc HU.out _) |exact aM.alloc (aM.drew HU.out) _)).mono ?_
       rintro e fx ⟨rfl,hq⟩;have ag:Bw W4 fx:=by first|exact hq|exact bo hq
       replace Hz:=kW Hz ag;obtain⟨Hs,s0,s1,s2⟩:=cm Hs ag;replace HU:=kT HU ag;obtain⟨Hv,v0,v1,v2,v3,v4,v5⟩:=kR Hv ag;obtain⟨z0,z1,z2⟩:=Hz.out.w3;replace Hb:=az Hb ag;refine hK _ _ (λ_=>⟨z0,z1,z2,s0,s1,s2⟩) ?_;try simp only[UU]
       refine pT rfl rfl ?_;try simp only[UU]
       refine aR rfl rfl (λK hK=>?_);have UC:=HO.out.below Hb.out;have VC:=cell_later Hb.out oc.out;have hfz:=Hpz.out fx UC VC;have gw:=hfz (j*3);have fR:=hfz (j*3+1);have iU:=hfz (j*3+2);have hup:=Hpk.out fx UC VC;have ni:=aO bj.out Hb.out;obtain⟨Sz,lh⟩:=aZ hup ni;clear UC VC hfz hup ni;go_simp;refine hK _ _ (λh=>absurd h zd) ?_;try simp only[UU]
       simp only[bu];go_wp2;refine⟨⟨j+1,R2,by omega,by go_num,Gz.out.1,Gz.out.2,Hen.out,Sz.out,λi hi=>?_,?_,?_⟩,by simp[intOf];omega⟩
       . have hne:(⟨go,i,none⟩:Addr).block≠g:=λe=>hg3 e.symm;exact aU (.inl hne) (aU (.inl hne) (aU (.inl hne) (cell_later Hb.out (QX.out i hi))))
       . have hne:g≠w8.heap.size:=by omega
         exact((Hs.out.aFJ _ hne _).aFJ _ hne _).aFJ _ hne _
       . exact((lh.out.setCell hg1 _).setCell hg1 _).setCell hg1 _
     . obtain rfl:j=n:=by omega
       have jo:(∀a b,a<j->b<j->dx R a b=if lC (k+1) 0 a b then F a b*G else F a b):=by
        intro a b ha hb;rw[hRe a b ha hb];have:lC k j a b↔lC (k+1) 0 a b:=by unfold lC;omega
        by_cases h:lC k j a b
        . rw[if_pos h,if_pos (this.1 h)]
        . rw[if_neg h,if_neg (λh2=>h (this.2 h2))]
       have hres:(∃k' R,k'<=j/\k'=k+1/\R.length=j/\(∀r∈R,r.length=j)/\(∀a b,a<j->b<j->dx R a b=if lC k' 0 a b then F a b*G else F a b)/\gV wr w5.heap.size j R j (.slice (some ⟨go,0,none⟩) j cv)/\(∀i,i<j->wr.cell? ⟨go,i,none⟩=some (.slice (some ⟨(gI i).1,0,none⟩) j (gI i).2))/\au wr w8.heap.size 48 [aj (aC (dN G)),ai (nt (dN G).natAbs),ah (dE G)]/\Bw w5 wr):=⟨k+1,R,by omega,rfl,gy,uy,jo,hO,hc,hs,pb⟩;have iE:=ar hres;clear hres jo gy uy hRe hO hc hs pb;go_wp2;go_roundw;case rel=>obtain⟨k',R,h1,rfl,h⟩:=iE.out;exact⟨k+1,R,h1,by go_num,h⟩
       case measure=>exact bI
  . obtain rfl:k=n:=by omega
    have hRf:R=ui k P:=wV.out R gy uy (λa b ha hb=>by rw[hRe a b ha hb,if_pos (by unfold lC;omega)]);subst hRf;obtain⟨HOk,bj⟩:=aZ hO pb;clear hO hc hs pb gy uy hRe;obtain⟨Hr,Hd,Hb⟩:=cX (jN.out.below bj.out) (aah.out.below bj.out) (aO dY.out bj.out);obtain⟨r0,aH,r1,aI,r2,aX⟩:=Hr.out.g3;obtain⟨d0,d1,d2⟩:=Hd.out.c3;go_wp2_with fail;refine(pj.out _ Hb.out).mono ?_;rintro e jG ⟨rfl,zR,ag⟩;obtain⟨Hr,r0,aH,r1,aI,r2,aX⟩:=bg Hr ag;obtain⟨Hd,d0,d1,d2⟩:=cm Hd ag;replace Hb:=az Hb ag;have akf:=ar (HOk.out.below zR);clear zR;have hzz:=dY.out.size;have lI:w.heap.size<w5.heap.size:=Nat.lt_of_lt_of_le jN.out.lt (Nat.le_refl _);go_wp2;refine fP (λqu=>au qu w.heap.size 48 [aj (aC (dN (G*X))),ai (nt (dN (G*X)).natAbs),ah (dE (G*X))]/\gV qu w5.heap.size k (ui k P) k (.slice (some ⟨go,0,none⟩) k cv)/\Bw w qu) ⟨((Hr.out.set 0 _).set 1 _).set 2 _,((akf.out.aFV lI _).aFV lI _).aFV lI _,((Hb.out.setCell zp _).setCell zp _).setCell zp _⟩ ?_;rintro qu ⟨atr,atj,asD⟩;obtain⟨q0,q1,q2⟩:=atr.c3;obtain⟨a9,c9,uN,Oc,ht9⟩:=atj.tbl (Tn _ _) (Tp _ _);simp only[Value.slice.injEq,true_and]at uN;obtain⟨rfl,rfl⟩:=uN;exact bodyPost_ret (v:=.tuple #[cK (G*X),.slice (some ⟨go,0,none⟩) k cv,ah 0]) (by simp[results,Tryz.results115,go_sem,q0,q1,q2]) rfl ⟨_,_,rfl,Oc,ht9,asD⟩
def lV (xs:List Raw):Nat->Dyadic:=λb=>(xs.map aJ).getD b 0
def ajB (xs:List Raw)(k:Nat)(h:k<xs.length):lV xs k=aJ xs[k]:=by unfold lV;simp[List.getD_eq_getElem?_getD,h]
def awx {w:World}{b base n:Nat}{e:TypeId}{size:Nat}{xs:List Value}(h:au w b e xs)(hb:base<=b)(hl:xs.length=n*size)(hn:n<=1048576):w.ownsRow base e size (.slice (some ⟨b,0,none⟩) n n) n xs:=
 ⟨hl,.inr ⟨b,n,xs.toArray,rfl,hb,h,Nat.le_refl _,by unfold maxLen;omega,by simpa using hl,by rw[<-hl];simp⟩⟩
def cZ.aF1 {w:World}{a:Option Addr}{T:List (List Dyadic)}{n:Nat}(h:cZ w a (T.map λr=>r.map canon))(hl:T.length=n)(hr:∀r∈T,r.length=n)(k i:Nat)(hk:k<n)(hi:i<n):
 ∃b o br os cr,a=some ⟨b,o,none⟩/\w.cell? ⟨b,o+k,none⟩=some (.slice (some ⟨br,os,none⟩) n cr)/\bH w br (os+i*3) [aj (aC (dN (dx T k i))),ai (nt (dN (dx T k i)).natAbs),ah (dE (dx T k i))]:=by
 have Oz:k<T.length:=by omega
 obtain⟨b,o,a',c',h1,h2,h3⟩:=h.row k (by simpa using Oz);have e1:(T.map λr=>r.map canon)[k]'(by simpa using Oz)=T[k].map canon:=by simp
 have hlk:=hr _ (List.getElem_mem Oz);rw[e1]at h2 h3;rw[List.length_map,hlk]at h2;have hik:i<T[k].length:=by omega
 have e2:dx T k i=T[k][i]:=by unfold dx;simp[List.getD_eq_getElem?_getD,Oz,hik]
 obtain⟨br,os,e3,q0,q1,q2⟩:=h3.num i (by simpa using hik) (show(T[k].map canon)[i]'(by simpa using hik)=(aC (dN (dx T k i)),nt (dN (dx T k i)).natAbs,dE (dx T k i))by rw[e2];simp;rfl);subst e3;exact⟨b,o,br,os,c',h1,h2,jH q0 q1 q2⟩
def axq {n B:Nat}{rows:List (List Raw)}(hr:Rw n B rows)(a b:Nat)(ha:a<=n)(hb:b<n):Sm B (cF rows a b):=by have hL:=hr.1;rw[tv rows a b zo (by rw[hr.2.1 _ (List.getElem_mem _)];exact hb)];exact(hr.2.2 _ (List.getElem_mem _) _ (List.getElem_mem _)).2
def aAG {n B:Nat}{xs:List Raw}(hxl:xs.length=n)(hxf:∀x∈xs,Fit B x)(b:Nat)(hb:b<n):Sm B (lV xs b):=by rw[ajB xs b zo];exact(hxf _ (List.getElem_mem _)).2
def Eb {V B:Nat}{l:List aQ}(hV:V<=12)(hm:∀t∈l,eQ t.1 V=true)(hl:l.length<=4096)(hs:∀x∈l,Sm B (aJ x.2))(hB:B+l.length<=268435456):gj V (B+l.length) (bP l):=by refine⟨apY hV hm hl,λt ht=>?_⟩;have h1:=acb hs t ht;have h2:=((Bq l).2 t ht).2;rw[h2];exact h1.fit hB
def gj.mono {V B B':Nat}{ts:List aQ}(h:gj V B ts)(hB:B<=B'):gj V B' ts:=⟨h.1,λt ht=>(h.2 t ht).mono hB⟩
def Pg {V B:Nat}{c:Dyadic}{l:Nat->Dyadic}{k:Nat}(hV:V<=12)(hk:k<=V)(hc:Sm B c)(hl:∀j,j<k->Sm B (l j))(hB:B+13<=268435456):gj V (B+13) (dP V c l k):=by have h:=Eb (B:=B) hV (WS V c l k) (by rw[Ke];omega) (auE V c l k hc hl) (by rw[Ke];omega);rw[Ke]at h;exact h.mono zo
def Qk {V B:Nat}{k:Nat}{x:Dyadic}(hV:V<=12)(hx:Sm B x)(hB:B+1<=268435456):gj V (B+1) (bP [(dV V k,canon x)]):=
 Eb (l:=[(dV V k,canon x)]) hV (by intro t ht;simp at ht;subst ht;exact Le V k) zm (by intro t ht;simp at ht;subst ht;show Sm B (aJ (canon x));rw[cp];exact hx) (by simpa using hB)
def ayS (V k:Nat)(x:Dyadic):bP (dA x (bP [(dV V k,canon 1)]))=bP [(dV V k,canon x)]:=by refine DV (λm=>?_);rw[TE,uo];simp only[cL,cp];split<;>grind
def aoa (V B:Nat)(A D C:List aQ)(aA aD:Option Addr)(cA cD:Nat)(w:World)(b:Nat)(hb:au w b 24 [ah (V:Int),.slice aA A.length cA,ah (V:Int),.slice aD D.length cD])(hA:yX w aA cA A)(hD:yX w aD cD D)(Vu:gj V B A)(Vv:gj V B D)(hn:A.length+D.length<=4096)(hB:B+2+8192<=268435456)(hT:aM w)(hC:bP (A++D)=C):
 Cl 17 #[.slice (some ⟨b,0,none⟩) 2 2] w λex w'=>∃a' c',ex=.returned (.tuple #[.agg #[ah (V:Int),.slice a' C.length c'],ah 0])/\bE w' a' c' C/\Bw w w':=by
 refine awE V B b 0 2 2 [⟨V,aA,A.length,cA⟩,⟨V,aD,D.length,cD⟩] (λk=>if k=0 then A else D) C w rfl zd zd (At.aFK hb) ?_ ?_ hB hT ?_
 . intro k hk;rcases k with _|k
   . exact⟨aA,cA,rfl,hA,Vu⟩
   . obtain rfl:k=0:=by simp at hk;omega
     exact⟨aD,cD,rfl,hD,Vv⟩
 . simp[pE];omega
 . simpa[pE]using hC
def Tj (V B:Nat)(A D C:List aQ)(aA aD:Option Addr)(cA cD:Nat)(w:World)(b:Nat)(hb:au w b 24 [ah (V:Int),.slice aA A.length cA,ah (V:Int),.slice aD D.length cD])(hA:bE w aA cA A)(hD:bE w aD cD D)(Vu:gj V B A)(Vv:gj V B D)(hn:A.length+D.length<=4096)(hB:B+2+8192<=268435456)(hT:aM w)(hC:bP (A++D)=C):
 Cl 17 #[.slice (some ⟨b,0,none⟩) 2 2] w λex w'=>∃a' c',ex=.returned (.tuple #[.agg #[ah (V:Int),.slice a' C.length c'],ah 0])/\bE w' a' c' C/\Bw w w':=aoa V B A D C aA aD cA cD w b hb hA.w hD.w Vu Vv hn hB hT hC
def auI (V B:Nat)(c:Dyadic)(L:List Dyadic)(l:Nat->Dyadic)(a:Option Addr)(cap:Nat)(w:World)(hV:V<=12)(hL:L.length=V)(hl:∀k (h:k<L.length),l k=L[k])(hcs:Sm B c)(hls:∀x∈L,Sm B x)(hB:B<=100000000)(ha:At w a (dC L))(hT:aM w):
 Cl 116 #[.agg #[aj (aC (dN c)),ai (nt (dN c).natAbs),ah (dE c)],.slice a V cap] w λex w'=>∃a' c',ex=.returned (.tuple #[.agg #[ah (V:Int),.slice a' (dP V c l V).length c'],ah 0])/\bE w' a' c' (dP V c l V)/\Bw w w':=by
 have hcn:=λW (hW:Bw w W)=>MS V (aC (dN c)) (nt (dN c).natAbs) (dE c) c B l W hV (hcs.fit zo) zo (hT.below hW) (cp c);have EQ:=λk (hk:k<V) W (hW:Bw w W)=>az5 V k W hV hk (hT.below hW);have hlk:∀k,k<V->Sm B (l k):=λk hk=>by rw[hl k zo];exact hls _ (List.getElem_mem _)
 have hsc:=λk (hk:k<V) a' c' (W:World) (hW:Bw w W) (hp:bE W a' c' (bP [(dV V k,canon 1)]))=>ais V a' c' (bP [(dV V k,canon 1)]) (aC (dN (l k))) (nt (dN (l k)).natAbs) (dE (l k)) (l k) (B+2) W (Qk (B:=B+1) hV (Sm.one.mono zo) zo) hp (((hlk k hk).mono zo).fit zo) zo (hT.below hW) (cp _);simp only[ayS]at hsc;have had:=λk (hk:k<V) aA cA aD cD (W:World) (hW:Bw w W) b (hb:au W b 24 [ah (V:Int),.slice aA (dP V c l k).length cA,ah (V:Int),.slice aD (bP [(dV V k,canon (l k))]).length cD]) (hA:bE W aA cA (dP V c l k)) (hD:bE W aD cD (bP [(dV V k,canon (l k))]))=>Tj V (B+13) (dP V c l k) (bP [(dV V k,canon (l k))]) (dP V c l (k+1)) aA aD cA cD W b hb hA hD (Pg hV zo hcs (λj hj=>hlk j zo) zo) ((Qk (B:=B) hV (hlk k hk) zo).mono zo) (by have h1:=Br (ir V c l k);have h2:=Br [(dV V k,canon (l k))];rw[Ke]at h1;simp at h2;unfold dP;omega) zo (hT.below hW) (auG V c l k);obtain⟨n0,hn0⟩:=aK ((dP V c l 0).length);rw[hn0]at hcn;obtain⟨qH,Hvr,mR,pk,Hl,HL,Ha,rL⟩:=oK hcn EQ hsc had hl hL ha hn0;clear hcn EQ hsc had hl hL ha hT hlk hls hcs hn0;have Hb:=hbz w;go_enter Tryz.func116,Tryz.ntmps116;go_wp2_with fail;have q:=lQ w 48 [aj (aC (dN c)),ai (nt (dN c).natAbs),ah (dE c)] 24 [ah 0,.slice none 0 0];first|refine cd _ q ?_|refine cw _ q ?_
 clear q;rintro W ⟨Hc,Hr,ag⟩;obtain⟨c0,c1,c2⟩:=Hc.out.c3;obtain⟨r0,aH,r1,aI⟩:=Hr.out.g2;replace Hb:=az Hb ag;go_wp2_with fail;refine(qH.out _ Hb.out).mono ?_;rintro e w1 ⟨a1,d1,rfl,hp1,ag⟩;obtain⟨Hc,c0,c1,c2⟩:=cm Hc ag;obtain⟨Hr,r0,aH,r1,aI⟩:=bA Hr ag;replace Hb:=az Hb ag;have Dj:=Hc;have jN:=Hr;have dY:=Hb;have mP:=ar hp1;clear hp1;have auZ:=Hc.out.lt;have wm:=Hr.out.lt;obtain⟨W2,na,ag,Ho⟩:=cE w1 24 [ah (V:Int),.slice a1 n0 d1];replace Hc:=kB Hc ag;obtain⟨Hr,r0,aH,r1,aI⟩:=bA Hr ag;obtain⟨c0,c1,c2⟩:=Hc.out.c3;obtain⟨o0,gm,o1,gu⟩:=Ho.out.g2;replace Hb:=az Hb ag;have yO:Hid (bE W2 a1 d1 (dP V c l 0)):=mP.out.below (by first|exact zl| (rw[<-na];exact zl));have YY:Hid (Bw w1 W2):=by rw[<-na];exact zl
 go_wp2_with fail;go_loopw[7,8] (λs7 x wr=>∃(k:Nat) (a':Option Addr) (n' c':Nat),k<=V/\x=ah (k:Int)/\s7=ah 0/\(dP V c l k).length=n'/\au wr w1.heap.size 24 [ah (V:Int),.slice a' n' c']/\bE wr a' c' (dP V c l k)/\Bw w1 wr) (λ_ x _=>V-(intOf x).toNat);case atStart=>exact⟨0,a1,n0,d1,Nat.zero_le _,rfl,rfl,rL.out,Ho.out,yO.out,YY.out⟩
 case round=>
  clear c0 c1 c2 o0 o1 r0 r1 gm gu aH aI yO YY mP Ho Hc Hr Hb;obtain⟨k,a',n',c',hk,rfl,rfl,hn,ho,hp,pb⟩:=hrel;obtain⟨Ho,Hp,bj,Hn⟩:=ej ho hp pb hn;have bQ:=dY.out;have gM:=pb.size;have sk:=bQ.size;by_cases hlt:k<V
  . have VD:k<(L.map canon).length:=by rw[List.length_map,HL.out];exact hlt
    have hat':=Ha.out.below (aO dY.out pb);rw[oh]at hat';obtain⟨X,hX⟩:=aK (l k);obtain⟨bx,ox,rfl,p0,p1,p2⟩:=hat'.num k VD (show(L.map canon)[k]=(aC (dN X),nt (dN X).natAbs,dE X)by rw[<-hX,Hl.out k (by simpa using VD)];simp;rfl);have ixx:=kP V cap k (k:Int) (rfl:(some ⟨bx,ox,none⟩:Option Addr)=_) hlt rfl;have lbx:bx<wr.heap.size:=World.block_lt_of_cell? wr _ p0;have EQ:=Hvr.out k hlt;have hsc:=mR.out k hlt;have had:=pk.out k hlt;rw[hn,hX]at had;rw[hX]at hsc;obtain⟨n1,ny⟩:∃n,(bP [(dV V k,canon 1)]).length=n:=⟨_,rfl⟩;obtain⟨n2,jo⟩:∃n,(bP [(dV V k,canon X)]).length=n:=⟨_,rfl⟩;obtain⟨n3,Ci⟩:∃n,(dP V c l (k+1)).length=n:=⟨_,rfl⟩;rw[jo,Ci]at had;rw[ny,jo]at hsc;rw[ny]at EQ;obtain⟨qN,Gy,QO,Hn3⟩:=ej EQ hsc had Ci;have Hx:Hid (bH wr bx (ox+k*3) [aj (aC (dN X)),ai (nt (dN X).natAbs),ah (dE X)]):=jH p0 p1 p2;have eJ:=ar (aO dY.out pb);clear EQ hsc had ny jo Ci hat' VD hX p0 p1 p2 ho hp pb hn bQ;have Hb:=hbz wr;have hlo:=Ho.out.lt;obtain⟨o0,gm,o1,gu⟩:=Ho.out.g2;obtain⟨x0,x1,x2⟩:=Hx.out.w3;go_wp2_with fail;refine(qN.out _ (aO eJ.out Hb.out)).mono ?_;rintro e w3 ⟨a3,d3,rfl,Ac,ag⟩;obtain⟨Ho,o0,gm,o1,gu⟩:=bA Ho ag;replace Hx:=kW Hx ag;obtain⟨x0,x1,x2⟩:=Hx.out.w3;replace Hb:=az Hb ag;have sD:=ar Ac;have KW:=Hb.out.size;clear Ac;have au5:=Ho.out.lt;obtain⟨W4,ov,ag,Hv⟩:=cE w3 24 [ah (V:Int),.slice a3 n1 d3];replace Ho:=kB Ho ag;replace Hx:=kW Hx ag;obtain⟨o0,gm,o1,gu⟩:=Ho.out.g2;obtain⟨x0,x1,x2⟩:=Hx.out.w3;obtain⟨v0,Nu,v1,Nv⟩:=Hv.out.g2;replace Hb:=az Hb ag;have HQ:Hid (bE W4 a3 d3 (bP [(dV V k,canon 1)])):=sD.out.below (by first|exact zl| (rw[<-ov];exact zl));go_wp2_with fail;refine bV (λw'=>aF w' bx (ox+k*3) (aj (aC (dN X)))/\aF w' bx (ox+k*3+1) (ai (nt (dN X).natAbs))/\aF w' bx (ox+k*3+2) (ah (dE X))) (λi=>Nat.blt i 100000) [(1,true),(2,true),(3,true),(4,true),(0,false),(5,false),(6,true),(7,true),(8,true),(9,false)] zk zk rfl zk zc ⟨x0,x1,x2⟩ ?_;iterate 4 (refine pT rfl rfl ?_ (by intro w' ⟨q0,q1,q2⟩;go_simp;try with_reducible rfl);try simp only[UU])
    refine aR rfl rfl (λK hK=>?_);go_simp;refine hK _ _ (λ_=>⟨x0,x1,x2⟩) ?_;try simp only[UU]
    refine aR rfl rfl (λK hK=>?_);go_simp;with_reducible refine(Gy.out a3 d3 _ (by first|exact aO eJ.out Hb.out|exact aO eJ.out Hb.out.drew) (by first|exact HQ.out|exact HQ.out.below (Below.refl _ _).drew)).mono ?_
    rintro e w5 ⟨a5,d5,rfl,hp5,hq⟩;have ag:Bw W4 w5:=by first|exact hq|exact bo hq
    replace Ho:=kB Ho ag;replace Hx:=kW Hx ag;replace Hv:=kB Hv ag;replace HQ:=ar (HQ.out.below ag);obtain⟨o0,gm,o1,gu⟩:=Ho.out.g2;obtain⟨x0,x1,x2⟩:=Hx.out.w3;obtain⟨v0,Nu,v1,Nv⟩:=Hv.out.g2;replace Hb:=az Hb ag;refine hK _ _ (λ_=>⟨x0,x1,x2⟩) ?_;try simp only[UU]
    iterate 3 (refine pT rfl rfl ?_;try simp only[UU])
    refine aR rfl rfl (λK hK=>?_);go_simp;refine hK _ _ (by first|exact λh=>absurd h zd|exact λ_=>⟨x0,x1,x2⟩ |exact λ_=>⟨(by first|exact x0|exact aU zf x0|exact aU zf (aU zf x0) |exact aU zf (aU zf (aU zf x0))),(by first|exact x1|exact aU zf x1|exact aU zf (aU zf x1) |exact aU zf (aU zf (aU zf x1))),(by first|exact x2|exact aU zf x2|exact aU zf (aU zf x2) |exact aU zf (aU zf (aU zf x2)))⟩) ?_;try simp only[UU]
    simp only[bu];have Cx:=Hv.out;generalize IQ:(w5.setCell ⟨w3.heap.size,0,none⟩ (ah (V:Int))).setCell ⟨w3.heap.size,1,none⟩ (.slice a5 n2 d5)=W6;have hp6:bE W6 a5 d5 (bP [(dV V k,canon X)]):=by rw[<-IQ];exact hp5.store Cx zd _ _
    have Jy:au W6 w1.heap.size 24 [ah (V:Int),.slice a' n' c']:=by rw[<-IQ];exact(Ho.out.so w3.heap.size 0 zo _).so w3.heap.size 1 zo _
    have dR:au W6 w3.heap.size 24 [ah (V:Int),.slice a5 n2 d5]:=by rw[<-IQ];exact(Cx.set 0 _).set 1 _
    have nj:Bw wr W6:=by rw[<-IQ];exact(Hb.out.setCell KW _).setCell KW _
    replace Ho:=ar Jy;replace Hv:=ar dR;replace Hb:=ar nj;have Hp6:=ar hp6;clear Jy dR nj hp6 hp5 Cx IQ o0 o1 gm gu v0 v1 Nu Nv x0 x1 x2;obtain⟨o0,gm,o1,gu⟩:=Ho.out.g2;obtain⟨v0,v1⟩:=Hv.out.c2;have P0:=o0;have P1:=o1;have Q0:=v0;have Q1:=v1;have ahc:=Ho.out.lt;have aEQ:=Hv.out.lt;obtain⟨W7,UO,ag,Hz⟩:=cE W6 24 [ah (V:Int),.slice a' n' c',ah (V:Int),.slice a5 n2 d5];replace Ho:=kB Ho ag;obtain⟨Hv,v0,v1⟩:=bi Hv ag;obtain⟨o0,gm,o1,gu⟩:=Ho.out.g2;obtain⟨z0,z1,z2,z3⟩:=Hz.out.c4;replace Hb:=az Hb ag;have HP:Hid (bE W7 a' c' (dP V c l k)):=Hp.out.below Hb.out;have HS:Hid (bE W7 a5 d5 (bP [(dV V k,canon X)])):=Hp6.out.below (by first|exact zl| (rw[<-UO];exact zl));go_wp2_with fail;go_wp2_with fail;refine(QO.out _ _ _ _ _ (aO eJ.out Hb.out) _ Hz.out HP.out HS.out).mono ?_;rintro e w8 ⟨a8,d8,rfl,vW,ag⟩;replace Ho:=kB Ho ag;replace Hv:=kB Hv ag;replace Hz:=kB Hz ag;replace HP:=ar (HP.out.below ag);replace HS:=ar (HS.out.below ag);obtain⟨o0,gm,o1,gu⟩:=Ho.out.g2;obtain⟨v0,v1⟩:=Hv.out.c2;obtain⟨z0,z1,z2,z3⟩:=Hz.out.c4;replace Hb:=az Hb ag;have jW:=bE.store vW Ho.out zd (ah (V:Int)) (.slice a8 n3 d8);obtain⟨LQ,gD⟩:=aZ jW (aO bj.out Hb.out);clear vW jW;go_wp2;go_roundw;case rel=>exact⟨k+1,a8,n3,d8,by omega,by go_num,rfl,Hn3.out,(Ho.out.set 0 _).set 1 _,LQ.out,(gD.out.setCell (Nat.le_refl _) _).setCell (Nat.le_refl _) _⟩
    case measure=>exact bI
  . obtain rfl:k=V:=by omega
    have Hr:=ar (jN.out.below bj.out);have Hb:Hid (Bw w wr):=aO dY.out bj.out;have hsz:=jN.out.lt;obtain⟨o0,o1⟩:=Ho.out.c2;obtain⟨r0,aH,r1,aI⟩:=Hr.out.g2;go_wp2;have ez:=Hp.out.store Hr.out zd (ah (k:Int)) (.slice a' n' c');refine fP (λw9=>bE w9 a' c' (dP k c l k)/\au w9 (w.heap.size+1) 24 [ah (k:Int),.slice a' n' c']/\Bw w w9) ⟨ez,(Hr.out.set 0 _).set 1 _,(Hb.out.setCell zp _).setCell zp _⟩ ?_;rintro w9 ⟨q1,q2,q3⟩;obtain⟨x0,x1⟩:=q2.c2;exact bodyPost_ret (v:=.tuple #[.agg #[ah (k:Int),.slice a' n' c'],ah 0]) (by simp[results,Tryz.results116,go_sem,x0,x1]) rfl ⟨a',c',by rw[hn],q1,q3⟩
end Go.Proofs.YtnjfebkelecgaaaGreatDoor
namespace Go.Proofs.YtnjfebkelecgaaaGreatDoor
open Go.RowKit
def rX (n:Nat)(P:Nat->Nat->Dyadic)(i:Nat):List aQ:=dP n (wC n P i) (λk=>lu n P k i) n
def CI (n:Nat)(P:Nat->Nat->Dyadic)(i:Nat):List aQ:=bP (dA (-1) (rX n P i))
def om (n:Nat)(P:Nat->Nat->Dyadic)(i:Nat):List aQ:=dP n (wZ n P (λ_=>0) i) (λb=>lZ n P b i) n
def fA (n:Nat)(P:Nat->Nat->Dyadic)(i j:Nat):List aQ:=if j=0 then om n P i else rX n P (j-1)
def pF (n:Nat)(P:Nat->Nat->Dyadic)(i k:Nat):List Dyadic:=(List.range k).map λk=>lu n P k i
def apT (n:Nat)(P:Nat->Nat->Dyadic)(i k:Nat):(pF n P i k).length=k:=by simp[pF]
def apS (n:Nat)(P:Nat->Nat->Dyadic)(i k j:Nat)(h:j<(pF n P i k).length):(pF n P i k)[j]=lu n P j i:=by simp[pF]
def apU (n:Nat)(P:Nat->Nat->Dyadic)(i k:Nat):pF n P i (k+1)=pF n P i k++[lu n P k i]:=by unfold pF;rw[List.range_succ,List.map_append];rfl
def aAe (n:Nat)(P:Nat->Nat->Dyadic)(i k:Nat):wS n P (λ_=>0) i k-P 0 k*lu n P k i=wS n P (λ_=>0) i (k+1):=by
 show _=wS n P (λ_=>0) i k+(0-P 0 k) *lu n P k i
 grind
def arp (n:Nat)(P:Nat->Nat->Dyadic)(l:Nat->Dyadic):dP n (wZ n P (λ_=>0) 0) l 0=om n P 0:=by
 unfold om dP;refine DV (λm=>?_);have h:∀k,cL (ir n (wZ n P (λ_=>0) 0) (λb=>lZ n P b 0) k) m=cL (ir n (wZ n P (λ_=>0) 0) l 0) m:=by
  intro k;induction k with
  |zero=>rfl
  |succ k ih=>rw[MR,ih];simp[lZ]
 exact(h n).symm
def aro (n:Nat)(hn:1<=n)(cV:n<=4)(P:Nat->Nat->Dyadic)(i:Nat)(hi:i<n):bP (om n P i++CI n P i)=om n P (i+1):=by
 unfold om CI rX;rw[auH];have:wZ n P (λ_=>0) i-wC n P i=wZ n P (λ_=>0) (i+1):=by unfold wC;rw[Lf n hn cV P _ i hi];rfl
 rw[this];rfl
def YW {B n:Nat}:∀b,b<n->Sm B ((λ_=>0:Nat->Dyadic) b):=λ_ _=>Sm.zero _
def ajr {B n:Nat}{P:Nat->Nat->Dyadic}(hn:1<=n)(cV:n<=4)(h:∀a b,a<=n->b<n->Sm B (P a b))(i:Nat):Sm (5*B+20) (wC n P i):=(YQ hn cV h YW i n (Nat.le_refl _)).mono zo
def aur {B n:Nat}{P:Nat->Nat->Dyadic}(hn:1<=n)(cV:n<=4)(h:∀a b,a<=n->b<n->Sm B (P a b))(b i:Nat):Sm (4*B+11+i) (lZ n P b i):=by
 induction i with
 |zero=>exact Sm.zero _
 |succ i ih=>exact(Sm.sub ih ((Mz hn cV h b i).mono zo)).mono zo
def WR {B n:Nat}{P:Nat->Nat->Dyadic}(hn:1<=n)(cV:n<=4)(h:∀a b,a<=n->b<n->Sm B (P a b))(hB:B<=1000000)(i:Nat):gj n (5*B+33) (rX n P i):=
 Pg (B:=5*B+20) zo (Nat.le_refl _) (ajr hn cV h i) (λj _=>(Mz hn cV h j i).mono zo) zo
def ac2 {B n:Nat}{P:Nat->Nat->Dyadic}(hn:1<=n)(cV:n<=4)(h:∀a b,a<=n->b<n->Sm B (P a b))(hB:B<=1000000)(i:Nat)(hi:i<=n):gj n (5*B+33) (om n P i):=
 Pg (B:=5*B+20) zo (Nat.le_refl _) ((aAn hn cV h YW i hi).mono zo) (λj _=>(aur hn cV h j i).mono zo) zo
def ag2 (n:Nat)(c:Dyadic)(l:Nat->Dyadic)(k:Nat):(dP n c l k).length<=k+1:=by have:=Br (ir n c l k);rw[Ke]at this;exact this
def Pe (n:Nat)(P:Nat->Nat->Dyadic)(i:Nat):(rX n P i).length<=n+1:=ag2 _ _ _ _
def Ue (n:Nat)(P:Nat->Nat->Dyadic)(i:Nat):(om n P i).length<=n+1:=ag2 _ _ _ _
def av8 (n:Nat)(P:Nat->Nat->Dyadic)(i:Nat):(CI n P i).length<=n+1:=by have h:=Br (dA (-1) (rX n P i));have h2:=Pe n P i;unfold dA at h;rw[List.length_map]at h;unfold CI dA;omega
def av7 {B n:Nat}{P:Nat->Nat->Dyadic}(hn:1<=n)(cV:n<=4)(h:∀a b,a<=n->b<n->Sm B (P a b))(hB:B<=1000000)(i:Nat):gj n (5*B+40) (CI n P i):=by
 have hf:=WR hn cV h hB i;have hl:=Pe n P i;have hsl:(dA (-1) (rX n P i)).length=(rX n P i).length:=by unfold dA;rw[List.length_map]
 refine(Eb (V:=n) (B:=5*B+35) (l:=dA (-1) (rX n P i)) zo ?_ zo ?_ zo).mono zo
 . intro t ht;unfold dA at ht;obtain⟨x,hx,rfl⟩:=List.mem_map.1 ht;exact hf.1.2.1 x hx
 . intro t ht;unfold dA at ht;obtain⟨x,hx,rfl⟩:=List.mem_map.1 ht;show Sm _ (aJ (canon (aJ x.2* -1)))
   rw[cp];exact(Sm.mul (hf.2 x hx).2 (Sm.neg Sm.one)).mono zo
def ac6 {B n:Nat}{P:Nat->Nat->Dyadic}(hn:1<=n)(cV:n<=4)(h:∀a b,a<=n->b<n->Sm B (P a b))(hB:B<=1000000)(i:Nat)(hi:i<=n)(j:Nat):gj n (5*B+33) (fA n P i j):=by
 unfold fA;split
 . exact ac2 hn cV h hB i hi
 . exact WR hn cV h hB _
def axI (ps:List Pv)(V:Int)(a:Option Addr)(n c:Nat):(((ps.flatMap nR).set 0 (ah V)).set 1 (.slice a n c))=(ps.set 0 ⟨V,a,n,c⟩).flatMap nR:=by
 cases ps with
 |nil=>rfl
 |cons p ps=>rfl
def axb {W:World}{V B:Nat}{ps:List Pv}{Ts:Nat->List aQ}{a:Option Addr}{c:Nat}{C:List aQ}(h:ki W V B ps Ts)(hT:Ts ps.length=C)(hp:bE W a c C)(hf:gj V B C):ki W V B (ps++[⟨(V:Int),a,C.length,c⟩]) Ts:=by
 intro k hk;by_cases hl:k<ps.length
 . obtain⟨a',c',h1,h2,h3⟩:=h k hl;exact⟨a',c',by rw[List.getElem_append_left hl];exact h1,h2,h3⟩
 . have e:k=ps.length:=by simp at hk;omega
   subst e;exact⟨a,c,by simp[hT],by rw[hT];exact hp,by rw[hT];exact hf⟩
def axc {W:World}{V B:Nat}{ps:List Pv}{Ts Ts':Nat->List aQ}{a:Option Addr}{c:Nat}{C:List aQ}(h:ki W V B ps Ts)(hs:∀j,0<j->Ts' j=Ts j)(h0:Ts' 0=C)(hp:bE W a c C)(hf:gj V B C):ki W V B (ps.set 0 ⟨(V:Int),a,C.length,c⟩) Ts':=by
 intro k hk;rw[List.length_set]at hk;rcases k with _|k
 . exact⟨a,c,by simp[h0],by rw[h0];exact hp,by rw[h0];exact hf⟩
 . obtain⟨a',c',h1,h2,h3⟩:=h (k+1) hk;rw[<-hs (k+1) zo]at h1 h2 h3;exact⟨a',c',by simp[h1],h2,h3⟩
def ki.off {W:World}{V B:Nat}{ps:List Pv}{Ts:Nat->List aQ}{g:Nat}{cur:Array Value}{t:TypeId}(h:ki W V B ps Ts)(hg:W.heap[g]?=some (.cells cur t))(ht:t≠67)(i:Nat)(u:Value):ki (W.setCell ⟨g,i,none⟩ u) V B ps Ts:=λk hk=>by obtain⟨a,c,h1,h2,h3⟩:=h k hk;exact⟨a,c,h1,h2.off hg ht i u,h3⟩
def ahN {w:World}{base:Nat}{e:TypeId}{size n cap g:Nat}{xs:List Value}(h:w.ownsRow base e size (.slice (some ⟨g,0,none⟩) n cap) n xs):∃cur,w.heap[g]?=some (.cells cur e):=by
 rcases h.2 with⟨h1,_⟩ |⟨g',cap',cur,h1,hb,hg,_⟩
 . simp at h1
 . simp only[Value.slice.injEq,Option.some.injEq,Addr.mk.injEq,and_true,true_and]at h1;obtain⟨rfl,rfl⟩:=h1;exact⟨cur,hg⟩
def bE.grown {w w':World}{r:Option Nat}{a:Option Addr}{c:Nat}{C:List aQ}(h:bE w a c C)(hg:w.grownBy w' r)(hr:∀g,r=some g->∃cur t,w.heap[g]?=some (.cells cur t)/\t≠67):bE w' a c C:=by
 refine⟨?_,h.2.1,?_⟩
 . rcases h.2.2 with h'|⟨b,o,cur',rfl,h2⟩
   . subst h';exact .inl rfl
   . have hne:some b≠r:=λe=>by obtain⟨cur,t,h3,h4⟩:=hr b e.symm;rw[h3]at h2;simp at h2;exact h4 h2.2
     rcases h.1 with h1|⟨b1,o1,e1,hc⟩
     . exact .inl h1
     . simp only[Option.some.injEq,Addr.mk.injEq,and_true]at e1;obtain⟨rfl,rfl⟩:=e1;refine .inr ⟨b,o,rfl,λj hj=>?_⟩;have h9:=hc j hj;rw[<-h9];have hk:=hg.block b (Array.getElem?_eq_some_iff.1 h2).1 hne;simp only[World.cell?,hk]
 . rcases h.2.2 with h'|⟨b,o,cur',rfl,h2⟩
   . exact .inl h'
   . have hne:some b≠r:=λe=>by obtain⟨cur,t,h3,h4⟩:=hr b e.symm;rw[h3]at h2;simp at h2;exact h4 h2.2
     exact .inr ⟨b,o,cur',rfl,by rw[hg.block b (Array.getElem?_eq_some_iff.1 h2).1 hne];exact h2⟩
def ki.grown {W w':World}{V B:Nat}{ps:List Pv}{Ts:Nat->List aQ}{r:Option Nat}(h:ki W V B ps Ts)(hg:W.grownBy w' r)(hr:∀g,r=some g->∃cur t,W.heap[g]?=some (.cells cur t)/\t≠67):ki w' V B ps Ts:=λk hk=>by obtain⟨a,c,h1,h2,h3⟩:=h k hk;exact⟨a,c,h1,h2.grown hg hr,h3⟩
def awA {w:World}{base:Nat}{e:TypeId}{size n:Nat}{v:Value}{xs:List Value}(h:w.ownsRow base e size v n xs):∀g,v.ownBlock=some g->∃cur t,w.heap[g]?=some (.cells cur t)/\t=e:=by
 intro g hg;rcases h.2 with⟨rfl,_⟩ |⟨g',cap',cur,rfl,_,hg2,_⟩
 . simp[Value.ownBlock]at hg
 . have:g'=g:=by simpa[Value.ownBlock]using hg
   subst this;exact⟨cur,e,hg2,rfl⟩
def Tryz.aF8 :(Tryz.prog.info? 24).map (λi=>(i.zero,i.size,i.bytes))=some (some (.agg #[ah 0,.slice none 0 0]),2,32):=by kernel_rfl
end Go.Proofs.YtnjfebkelecgaaaGreatDoor
