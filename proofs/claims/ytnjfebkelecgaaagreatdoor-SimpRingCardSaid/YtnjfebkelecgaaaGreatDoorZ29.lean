/- Package mono,on: Of,Mul. -/
import Derived.Test.YtnjfebkelecgaaaGreatDoorZ19
import Derived.Test.YtnjfebkelecgaaaGreatDoorZ12
import Derived.Test.YtnjfebkelecgaaaGreatDoorZ13
import Derived.Test.YtnjfebkelecgaaaGreatDoorZ18
import Derived.Test.YtnjfebkelecgaaaGreatDoorZ26
set_option linter.unusedVariables false
set_option linter.unusedSimpArgs false
set_option maxRecDepth 100000
set_option maxHeartbeats 16000000
namespace Go.Proofs.YtnjfebkelecgaaaGreatDoor
open Go.RowKit
attribute [local go_sem ↓] Go.wp_at_zero Go.wp_at_succ
theorem Tryz.aBC :(Tryz.prog.info? 5).map (λi=>(i.zero,i.size,i.bytes))=some (some (.int .u8 0),1,1):=by kernel_rfl
def xI (l:List UInt8):List Value:=l.map λc=>.int .u8 (c.toNat:Int)
theorem asK {w:World}{base n cap g:Nat}{l:List UInt8}(h:w.ownsRow base 5 1 (.slice (some ⟨g,0,none⟩) n cap) n (xI l)):sO w g l:=λj hj=>by
 obtain⟨a,c,e,hat,_⟩:=dU h;simp only[Value.slice.injEq]at e;obtain⟨rfl,_,rfl⟩:=e;refine⟨?_,qC h j⟩;rcases hat with h0|⟨b,o,e,hc⟩
 . unfold xI at h0;rw[List.map_eq_nil_iff]at h0;subst h0;cases hj
 . simp only[Option.some.injEq,Addr.mk.injEq,and_true]at e;obtain⟨rfl,rfl⟩:=e;have:=hc j (by simpa[xI]using hj);rw[Nat.zero_add]at this;rw[this];unfold xI;rw[List.getElem?_map,List.getElem?_eq_getElem hj];rfl
theorem arM (l:List UInt8)(a:Option Addr)(cap n:Nat)(w:World)(hn:l.length=n)(hn0:0<n)(hl:n<=1048576)(hall:∀c∈l,c.toNat<=127)(ha:At w a (ij l)):
 Calls Tryz.prog 184 #[.slice a n cap] w λe w'=>e=.returned (.tuple #[ai l,ah 0])/\Bw w w':=by
 obtain⟨i0,hi,hz0,hz1,hz2⟩:=info_parts Tryz.aBC;rw[<-LH]at ha;obtain⟨Hi,dz,dA,dh,Hn,ov,Ha⟩:=lG hi hz0 hz1 hz2 hn hall ha;clear hi hz0 hz1 hz2 hn hall ha;have Hb:Hid (Bw w w):=Below.refl _ _;go_enter Tryz.func184,Tryz.ntmps184;go_wp2_with fail;go_loopw[4,9] (λs4 x wr=>∃(k:Nat) (v:Value),k<=n/\x=ah (k:Int)/\v=s4/\wr.ownsRow w.heap.size 5 1 v k (xI (l.take k))/\Bw w wr) (λ_ x _=>n-(intOf x).toNat);case atStart=>exact⟨0,_,Nat.zero_le _,rfl,rfl,World.ownsRow_nil _ _ _ _,Hb.out⟩
 case round=>
  clear Hb;obtain⟨k,v,hk,rfl,rfl,ho,pb⟩:=hrel;by_cases hlt:k<n
  . have h1:k<l.length:=by rw[Hn.out];exact hlt
    have hc:=ov.out _ (List.getElem_mem h1);obtain⟨b,o,hab,hce⟩:=(Ha.out.below pb).elem (f:=λc:UInt8=>[Value.int .i64 (c.toNat:Int)]) (sz:=1) (λ_=>rfl) zd k h1;have bK:=IP n cap k (k:Int) hab hlt rfl;rw[Nat.mul_one]at bK;obtain⟨cc,hcc⟩:∃cc:Int,((l[k]).toNat:Int)=cc:=⟨_,rfl⟩;have Hp:Hid (bY wr b (o+k) [ah cc]):=λj hj=>by
     obtain rfl:j=0:=by simp at hj;omega
     have:=hce 0 zd;rw[Nat.mul_one]at this;simpa[hcc]using this
    have cB:Hid (xI (l.take (k+1))=xI (l.take k)++[.int .u8 cc]):=by
     show _=_
     unfold xI;rw[List.take_succ_eq_append_getElem h1,List.map_append,<-hcc];rfl
    have h0:¬cc<0:=by omega
    have aoz:¬127<cc:=by omega
    have ub:IntKind.u8.wrap cc=cc:=by rw[IntKind.wrap_u8];omega
    obtain⟨Ho,bj⟩:=aZ ho pb;have iu:=pb.size;clear ho pb hc hce hcc hab;have Hb:Hid (Bw wr wr):=Below.refl _ _;have p0:=Hp.out.w1;have P0:=p0;obtain⟨W2,nk,ag,Hd⟩:=cF wr 5 [.int .u8 cc];clear p0;replace Hp:=kW Hp ag;have p0:=Hp.out.w1;have d0:=Hd.out.c1;replace Hb:=aF Hb ag;clear ag;have hv:=ownsRow_below Ho.out Hb.out;have hnews:=iz Hd.out;have hs2:=Hb.out.size;clear d0 p0;go_wp2_with (at_builtin;refine wpList_append_own_at _ rfl _ _ 84 rfl w.heap.size 5 i0 _ 1 1 Tryz.underlying84 Hi.out dz.out dA.out dh.out rfl zd v k (xI (l.take k)) rfl hv ⟨wr.heap.size,0,none⟩ 1 1 [.int .u8 cc] rfl rfl hnews zy zx zo zo ?_;intro v' w3 uk hg3 _ _;obtain⟨g',cq,rfl⟩:=ownsRow_succ uk);rw[<-cB.out]at uk;have PN:=aj uk;have eJ:Hid (Bw w w3):=(aV bj.out Hb.out).grown hg3 zo (λj e=>dL hv j e);clear uk hg3 hv hnews P0;go_roundw;case rel=>exact⟨k+1,_,by omega,by go_num,rfl,PN.out,eJ.out⟩
    case measure=>simp[intOf];omega
  . obtain rfl:k=n:=by omega
    rw[List.take_of_length_le (by rw[Hn.out];exact Nat.le_refl _)]at ho;obtain⟨g,cq,rfl,_⟩:=zn ho hn0;have hcv:=(asK ho).back cq;rw[Hn.out]at hcv;have bj:=aj pb;clear pb ho;go_wp2;refine bodyPost_ret (v:=.tuple #[ai l,ah 0]) (by simp[results,Tryz.results184,go_sem]) rfl ⟨rfl,bj.out⟩
def Ow (w:World)(base:Nat)(e:TypeId)(sz:Nat)(v:Value)(n:Nat)(xs:List Value):Prop:=w.ownsRow base e sz v n xs
theorem Ow.below {w w':World}{base sz n:Nat}{e:TypeId}{v:Value}{xs:List Value}(h:Ow w base e sz v n xs)(hb:Bw w w'):Ow w' base e sz v n xs:=ownsRow_below h hb
def kE (a b:List UInt8)(n k:Nat):List Nat:=(List.range n).map λi=>if i<k then(a.getD i 0).toNat+(b.getD i 0).toNat else(b.getD i 0).toNat
def kU (l:List Nat):List Value:=l.map λ(x:Nat)=>ah (x:Int)
theorem al2 (a b:List UInt8)(n:Nat)(hb:b.length=n):kU (kE a b n 0)=ij b:=by
 refine List.ext_getElem (by simp[kU,kE,ij,hb]) (λi h1 h2=>?_);have hi:i<b.length:=by simpa[ij]using h2
 simp[kU,kE,ij,hi]
theorem al1 (a b:List UInt8)(n k:Nat):kU (kE a b n (k+1))=(kU (kE a b n k)).set k (ah (((a.getD k 0).toNat+(b.getD k 0).toNat:Nat):Int)):=by
 refine List.ext_getElem (by simp[kU,kE]) (λi h1 h2=>?_);have hi:i<n:=by simpa[kU,kE]using h1
 rw[List.getElem_set];by_cases e:k=i
 . subst e;simp[kU,kE]
 . rw[if_neg e];simp only[kU,kE,List.getElem_map,List.getElem_range];by_cases h:i<k
   . rw[if_pos zo,if_pos h]
   . rw[if_neg zo,if_neg h]
theorem al0 (a b:List UInt8)(n:Nat)(ha:a.length=n)(hb:b.length=n)(hs:∀i,i<n->(a.getD i 0).toNat+(b.getD i 0).toNat<=127):kU (kE a b n n)=ij (fp a b):=by
 refine List.ext_getElem (by simp[kU,kE,ij,fp,ha,hb]) (λi h1 h2=>?_);have hi:i<n:=by simpa[kU,kE]using h1
 simp only[kU,kE,ij,List.getElem_map,List.getElem_range,if_pos hi];rw[QN a b i (by rw[CH a b n ha hb];exact hi) (by have:=hs i hi;omega)]
theorem arK (x y:Nat)(w:World)(hx:x<=255)(hy:y<=255)(Z:Int)(hZ:((x+y:Nat):Int)=Z):
 Calls Tryz.prog 183 #[ah (x:Int),ah (y:Int)] w λe w'=>e=.returned (ah Z)/\Bw w w':=by
 have Hb:Hid (Bw w w):=Below.refl _ _;go_enter Tryz.func183,Tryz.ntmps183;have hwr:IntKind.i64.wrap ((x:Int)+(y:Int))=Z:=by rw[IntKind.wrap_i64];omega
 go_wp2;refine bodyPost_ret (results_tmp rfl _ _ _) rfl ⟨rfl,Hb.out⟩
theorem al3 (a b:List UInt8)(n:Nat)(w:World)(jN:a.length=n)(hlb:b.length=n)(hn0:0<n)(hl:n<=1048576)(ha:∀c∈a,c.toNat<=127)(hb:∀c∈b,c.toNat<=127):
 Calls Tryz.prog 182 #[ai a,ai b,.func (.func 183) #[] #[]] w λe w'=>∃v,e=.returned (.tuple #[v,ar true])/\w'.ownsRow w.heap.size 3 1 v n (kU (kE a b n n))/\Bw w w':=by
 have Ug:=λW=>Rx a W zo ha;have Bl:=λW=>Rx b W zo hb;have AZ:=λW=>Ea a (n:Int) W zo;have hmb:=λW=>Ea b (n:Int) W zo;rw[show eU a (n:Int)=true by unfold eU;rw[jN];simp only[Bool.and_eq_true,List.all_eq_true,decide_eq_true_eq,and_true];exact ha]at AZ;rw[show eU b (n:Int)=true by unfold eU;rw[hlb];simp only[Bool.and_eq_true,List.all_eq_true,decide_eq_true_eq,and_true];exact hb]at hmb;have hsz:(bs a).size=n:=by rw[jd,jN]
 rw[jN]at Ug;rw[hlb]at Bl;have h0:=al2 a b n hlb;have hgb:∀k,k<n->∃y,(b.getD k 0).toNat=y/\y<=255:=λk hk=>⟨_,rfl,by have:=(b.getD k 0).toNat_lt;omega⟩;have hst:=al1 a b n;have lD:∀k (h:k<a.length),a.getD k 0=a[k]:=λk h=>by simp[h]
 have hbk:∀k,k<n->(kU (kE a b n k))[k]?=some (ah (((b.getD k 0).toNat:Nat):Int)):=λk hk=>by simp[kU,kE,hk]
 obtain⟨Qy,Qz,Py,Pz,H0,cB,qR,sX,fZ,tA⟩:=Nj Ug Bl AZ hmb h0 hst lD hbk jN hsz;clear Ug Bl AZ hmb ha hb hlb h0 hst lD hbk jN hgb;have Hb:Hid (Bw w w):=Below.refl _ _;go_enter Tryz.func182,Tryz.ntmps182;go_wp2_with fail;refine(Qz.out _).mono ?_;rintro e w1 ⟨vb,rfl,iU,ag⟩;replace Hb:=aF Hb ag;clear ag;obtain⟨gb,cb,rfl,hg1,hg2,hg3⟩:=zn iU hn0;rw[<-H0.out]at iU;have vQ:Hid (Ow w1 w.heap.size 3 1 (.slice (some ⟨gb,0,none⟩) n cb) n (kU (kE a b n 0))):=iU;clear iU;go_wp2_with fail;refine(Py.out _).mono ?_;rintro e w2 ⟨rfl,ag⟩;replace vQ:=aj (vQ.out.below ag);replace Hb:=aF Hb ag;clear ag;go_wp2_with fail;refine(Pz.out _).mono ?_;rintro e w3 ⟨rfl,ag⟩;replace vQ:=aj (vQ.out.below ag);replace Hb:=aF Hb ag;clear ag;have hgl:gb<w3.heap.size:=(BJ vQ.out).2;go_wp2_with fail;refine(Qy.out _).mono ?_;rintro e w4 ⟨va,rfl,Bc,ag⟩;replace vQ:=aj (vQ.out.below ag);replace Hb:=aF Hb ag;clear ag;have Cw:=aj Bc;clear Bc;obtain⟨aa,ca,rfl,_⟩:=dU Cw.out;go_wp2_with fail;go_loopw[28] (λx wr=>∃k:Nat,k<=n/\x=ah (k:Int)/\wr.ownsRow w.heap.size 3 1 (.slice (some ⟨gb,0,none⟩) n cb) n (kU (kE a b n k))/\wr.ownsRow w3.heap.size 3 1 (.slice aa n ca) n (ij a)/\Bw w wr) (λx _=>n-(intOf x).toNat);case atStart=>exact⟨0,Nat.zero_le _,rfl,vQ.out,Cw.out,Hb.out⟩
 case round=>
  clear vQ Cw Hb;obtain⟨k,hk,rfl,ho,Bc,pb⟩:=hrel;by_cases hlt:k<n
  . have h1:k<a.length:=by rw[fZ.out];exact hlt
    obtain⟨a9,c9,e9,hat,_⟩:=dU Bc;simp only[Value.slice.injEq]at e9;obtain⟨rfl,_,rfl⟩:=e9;rw[<-LH]at hat;obtain⟨b1,o1,hab,hce⟩:=hat.elem (f:=λc:UInt8=>[Value.int .i64 (c.toNat:Int)]) (sz:=1) (λ_=>rfl) zd k h1;have bK:=IP n ca k (k:Int) hab hlt rfl;have yH:=IP n cb k (k:Int) (rfl:(some ⟨gb,0,none⟩:Option Addr)=_) hlt rfl;rw[Nat.mul_one]at bK;rw[Nat.mul_one,Nat.zero_add]at yH;have hbk:=sX.out k hlt;have hst:=cB.out k;rw[qR.out k h1]at hst;obtain⟨x,hx⟩:∃x:Nat,(a[k]).toNat=x:=⟨_,rfl⟩;obtain⟨y,hy⟩:∃y:Nat,(b.getD k 0).toNat=y:=⟨_,rfl⟩;have hx2:x<=255:=by have:=(a[k]).toNat_lt;omega
    have hy2:y<=255:=by have:=(b.getD k 0).toNat_lt;omega
    obtain⟨Z,hZ⟩:∃Z:Int,((x+y:Nat):Int)=Z:=⟨_,rfl⟩;rw[hx,hy,hZ]at hst;rw[hy]at hbk;have q0:wr.cell? ⟨gb,k,none⟩=some (ah (y:Int)):=by have:=ho.cells (g:=gb) rfl k _ hbk;rw[show(⟨gb,0,none⟩:Addr).add k=⟨gb,k,none⟩by simp[Addr.add];intro h;exact h.symm]at this;exact this
    have cH:=qC ho k;have p0:wr.cell? ⟨b1,o1+k,none⟩=some (ah (x:Int)):=by have:=hce 0 zd;rw[Nat.mul_one]at this;simpa[hx]using this
    have oU:=λW=>arK x y W hx2 hy2 Z hZ;obtain⟨Ho,Cw,bj,Hs,Cq⟩:=fU ho Bc pb hst oU;clear ho Bc pb hst oU hx hy hx2 hy2 hZ hbk hab hat hce;go_wp2_with fail;refine(Cq.out _).mono ?_;rintro e w5 ⟨rfl,ag⟩;have q1:=cell_later ag q0;have cL:=aoi ag q0 cH;have Ho5:Hid ((w5.setCell ⟨gb,k,none⟩ (ah Z)).ownsRow w.heap.size 3 1 (.slice (some ⟨gb,0,none⟩) n cb) n (kU (kE a b n (k+1)))):=by rw[Hs.out];exact mL (ownsRow_below Ho.out ag) k _
    have Ha5:Hid ((w5.setCell ⟨gb,k,none⟩ (ah Z)).ownsRow w3.heap.size 3 1 (.slice aa n ca) n (ij a)):=ownsRow_setCell_below (ownsRow_below Cw.out ag) hgl _;have eX:Hid (Bw w (w5.setCell ⟨gb,k,none⟩ (ah Z))):=(aV bj.out ag).setCell hg1 _;clear q0 cH p0 ag Ho Cw bj;go_wp2;go_roundw;case rel=>exact⟨k+1,by omega,by go_num,Ho5.out,Ha5.out,eX.out⟩
    case measure=>simp[intOf];omega
  . obtain rfl:k=n:=by omega
    obtain⟨Ho,bj⟩:=aZ ho pb;clear ho Bc pb;go_wp2;refine bodyPost_ret (v:=.tuple #[.slice (some ⟨gb,0,none⟩) k cb,ar true]) (by simp[results,Tryz.results182,go_sem]) rfl ⟨_,rfl,Ho.out,bj.out⟩
theorem arL (a b:List UInt8)(n:Nat)(w:World)(jN:a.length=n)(hlb:b.length=n)(hn0:0<n)(hl:n<=1048576)(ha:∀c∈a,c.toNat<=127)(hb:∀c∈b,c.toNat<=127)(hs:∀i,i<n->(a.getD i 0).toNat+(b.getD i 0).toNat<=127):
 Calls Tryz.prog 157 #[ai a,ai b] w λe w'=>e=.returned (.tuple #[ai (fp a b),ah 0])/\Bw w w':=by
 have jL:=λW=>al3 a b n W jN hlb hn0 hl ha hb;rw[al0 a b n jN hlb hs]at jL;have hof:=λ(A:Option Addr) (c:Nat) (W:World) (h:At W A (ij (fp a b)))=>arM (fp a b) A c n W (CH a b n jN hlb) hn0 hl (QO a b n jN hlb hs) h;obtain⟨Kb,pI⟩:=aZ jL hof;clear jL hof ha hb hs jN hlb;have Hb:Hid (Bw w w):=Below.refl _ _;go_enter Tryz.func157,Tryz.ntmps157;go_wp2_with fail;refine(Kb.out _).mono ?_;rintro e w1 ⟨v,rfl,ho,ag⟩;replace Hb:=aF Hb ag;clear ag;obtain⟨A,c,rfl,hat,_⟩:=dU ho;have gF:=aj hat;clear ho hat;go_wp2_with fail;refine(pI.out A c _ gF.out).mono ?_;rintro e w2 ⟨rfl,ag⟩;replace Hb:=aF Hb ag;clear ag;go_wp2;refine bodyPost_ret (v:=.tuple #[ai (fp a b),ah 0]) (by simp[results,Tryz.results157,go_sem]) rfl ⟨rfl,Hb.out⟩
def om (ta tb:List aR)(k j:Nat):List aR:=iL (ta.take k) tb++(tb.take j).map λy=>(fp (ta.getD k zT).1 y.1,canon (aM (ta.getD k zT).2*aM y.2))
theorem Wi (ta tb:List aR)(k:Nat):om ta tb k 0=iL (ta.take k) tb:=by simp[om]
theorem agq (ta tb:List aR)(k:Nat)(hk:k<ta.length):om ta tb k tb.length=om ta tb (k+1) 0:=by rw[Wi];unfold om iL;rw[List.take_succ_eq_append_getElem hk,List.flatMap_append,List.take_length];simp[hk]
theorem agr (ta tb:List aR)(k j:Nat)(hj:j<tb.length):(om ta tb k (j+1)).flatMap aY=(om ta tb k j).flatMap aY++aY (fp (ta.getD k zT).1 tb[j].1,canon (aM (ta.getD k zT).2*aM tb[j].2)):=by unfold om;rw[List.take_succ_eq_append_getElem hj,List.map_append,<-List.append_assoc,List.flatMap_append (xs:=_++_)];simp
theorem atw (V B d e n n':Nat)(a a':Option Addr)(cap cap':Nat)(ta tb C:List aR)(w:World)(hV:0<V)(hV2:V<=12)(hn:ta.length=n)(hn':tb.length=n')(ue:fW V d ta)(yE:fW V e tb)(Mv:d+e<=127)(jM:∀t∈ta,Fit B t.2)(jZ:∀t∈tb,Fit B t.2)(hl:n*n'<=4096)(uh:n<=4096)(hl2:n'<=4096)(hB:B<=100000000)(ha:At w a (ta.flatMap aY))(ha':At w a' (tb.flatMap aY))(hT:aO w)(hC:bU (iL ta tb)=C):
 Calls Tryz.prog 118 #[.agg #[ah (V:Int),.slice a n cap],.agg #[ah (V:Int),.slice a' n' cap']] w λex w'=>∃a9 c9,ex=.returned (.tuple #[.agg #[ah (V:Int),.slice a9 C.length c9],ah 0])/\bJ w' a9 c9 C/\Bw w w':=by
 obtain⟨i0,hi,hz0,hz1,hz2⟩:=info_parts Tryz.aBl;have rC:∀t∈iL ta tb,Fit (2*B) t.2:=λt ht=>by have h:=UK (λt h=>(jM t h).2) (λt h=>(jZ t h).2) t ht;obtain⟨x,hx,y,hy,rfl⟩:=Ny ht;rw[cN]at h;exact(h.mono zo).fit zo
 have hcl:=λ(v:Value) (W0 W:World) (hb0:Bw W0 W) (ho:W.ownsRow W0.heap.size 67 4 v (n*n') ((iL ta tb).flatMap aY)) (hT:aO W0)=>Lj (V:Int) v (n*n') (iL ta tb) C (2*B) W0 W hb0 (by rw[UJ,hn,hn']) hl ho rC zo hT hC;have hu0:=Wi ta tb;have hun:=λk (h:k<n)=>agq ta tb k zo;have Iz:=λk j (h:j<tb.length)=>agr ta tb k j h;have htl:ta.take n=ta:=List.take_of_length_le zo;have lD:∀k (h:k<ta.length),ta.getD k zT=ta[k]:=λk h=>by simp[h]
 rw[hn']at hun;obtain⟨Hi,dz,dA,dh,fY,Fv,Qo,Qr,Ac,qR,Hn,Cs⟩:=gy hi hz0 hz1 hz2 hcl hu0 hun Iz htl lD hn hn';obtain⟨fI,jD,vX,vY,Ha,rQ⟩:=gP ue yE jM jZ ha ha';clear hi hz0 hz1 hz2 rC hcl hu0 hun Iz htl lD hn hn' ue yE jM jZ ha ha' hC;have hnm:¬(65536:Int)<IntKind.i64.wrap ((n:Int) * (n':Int)):=by
  have:((n:Int) * (n':Int))<=4096:=by exact_mod_cast hl
  have:0<=((n:Int) * (n':Int)):=by exact_mod_cast Nat.zero_le _
  rw[IntKind.wrap_i64];omega
 have Hb:Hid (Bw w w):=Below.refl _ _;go_enter Tryz.func118,Tryz.ntmps118;go_wp2_with fail;obtain⟨R,hR⟩:∃R:World->Prop,(λW=>aC W (w.heap.size) 24 [ah (V:Int),.slice a n cap]/\aC W (w.heap.size+1) 24 [ah (V:Int),.slice a' n' cap']/\aC W (w.heap.size+1+1) 24 [ah 0,.slice none 0 0]/\Bw w W)=R:=⟨_,rfl⟩;first|refine cj R ?hR ?_|refine cu R ?hR ?_
 case hR=>subst hR;exact⟨(((aC.newAt w _ _ (b:=w.heap.size) rfl).alloc _).alloc _),((aC.newAt (w.alloc _) _ _ (b:=w.heap.size+1) zm).alloc _),(aC.newAt ((w.alloc _).alloc _) _ _ (b:=w.heap.size+1+1) zm),((zl.alloc zj _).alloc zj _)⟩
 subst hR;rintro W ⟨qp,qq,qr,ag⟩;have Hp:=aj qp;clear qp;have Hq:=aj qq;clear qq;have Hr:=aj qr;clear qr;obtain⟨p0,p1⟩:=Hp.out.c2;obtain⟨q0,q1⟩:=Hq.out.c2;obtain⟨r0,au,r1,az⟩:=Hr.out.g2;replace Hb:=aF Hb ag;clear ag;have Xg:Hid (aO W):=hT.below Hb.out;have lV:=Hp;have xY:=Hq;have jG:=Hr;have dG:=Hb;go_wp2_with fail;go_loopw[6,25] (λs6 x wr=>∃(k:Nat) (v:Value),k<=n/\x=ah (k:Int)/\v=s6/\wr.ownsRow W.heap.size 67 4 v (k*n') ((iL (ta.take k) tb).flatMap aY)/\Bw W wr) (λ_ x _=>n-(intOf x).toNat);case atStart=>exact⟨0,_,Nat.zero_le _,rfl,rfl,by rw[Nat.zero_mul];exact World.ownsRow_nil _ _ _ _,Below.refl _ _⟩
 case round=>
  clear p0 p1 q0 q1 r0 au r1 az Hp Hq Hr Hb;obtain⟨k,v,hk,rfl,rfl,ho,pb⟩:=hrel;obtain⟨wo,hwo⟩:∃wo,wo=wr:=⟨_,rfl⟩;subst hwo;obtain⟨Hp,Hq,Hr⟩:=dc (lV.out.below pb) (xY.out.below pb) (jG.out.below pb);have bW:=aV dG.out pb;have Es:=dG.out.size;by_cases hlt:k<n
  . have hk2:k<ta.length:=by rw[Hn.out];exact hlt
    obtain⟨l,s,m,ex,hx⟩:∃l s m e,ta[k]=(l,s,m,e):=⟨_,_,_,_,rfl⟩;obtain⟨b,o,hab,cw⟩:=(Ha.out.below bW).term k hk2 hx;have bK:=im n cap k (k:Int) hab hlt rfl;have jv:=qR.out k hk2;rw[hx]at jv;have dP:=vX.out _ (List.getElem_mem hk2);have AU:=fI.out _ (List.getElem_mem hk2);rw[hx]at dP AU;rw[<-Fv.out]at ho;have Iy:=Qo.out k hlt;have Ht:Hid (bY wo b (o+k*4) [ai l,ar s,ai m,ah ex]):=cw;obtain⟨Ho,bj,xQ,fx,EO,Qp,eP⟩:=lG ho pb jv dP AU Iy bW;have iu:=pb.size;clear ho pb jv dP AU Iy hx hab cw bW;have Hb:Hid (Bw wo wo):=Below.refl _ _;obtain⟨p0,p1⟩:=Hp.out.c2;obtain⟨q0,q1⟩:=Hq.out.c2;obtain⟨t0,t1,t2,t3⟩:=Ht.out.w4;have FE:=t0;have FH:=t1;have FI:=t2;have FJ:=t3;have aro:=Hp.out.lt;have aru:=Hq.out.lt;obtain⟨W2,nk,ag,Hx⟩:=cF wo 67 [ai l,ar s,ai m,ah ex];clear p0 p1;replace Hp:=kB Hp ag;clear q0 q1;replace Hq:=kB Hq ag;clear t0 t1 t2 t3;replace Ht:=kW Ht ag;obtain⟨p0,p1⟩:=Hp.out.c2;obtain⟨q0,q1⟩:=Hq.out.c2;obtain⟨t0,t1,t2,t3⟩:=Ht.out.w4;obtain⟨x0,x1,x2,x3⟩:=Hx.out.c4;replace Hb:=aF Hb ag;clear ag;go_wp2_with fail;clear FE FH FI FJ;have hs2:=Hb.out.size;have ab4:=bj.out.trans (Hb.out.mono iu);obtain⟨uH,Xp⟩:=aZ (ownsRow_below Ho.out Hb.out) ab4;have Fx:Hid (∀g,v.ownBlock=some g->g≠wo.heap.size):=λg hg=>by have:=(Ho.out.lt g hg).2;omega
    clear ab4 Ho bj t0 t1 t2 t3 Ht bK;go_loopw[6,32] (λs6 x wr=>∃(j:Nat) (v2:Value),j<=n'/\x=ah (j:Int)/\v2=s6/\wr.ownsRow W.heap.size 67 4 v2 (k*n'+j) ((om ta tb k j).flatMap aY)/\(∀g,v2.ownBlock=some g->g≠wo.heap.size)/\aC wr wo.heap.size 67 [ai l,ar s,ai m,ah ex]/\Bw W wr) (λ_ x _=>n'-(intOf x).toNat);case atStart=>exact⟨0,v,Nat.zero_le _,rfl,rfl,uH.out,Fx.out,Hx.out,Xp.out⟩
    case round=>
     clear p0 p1 q0 q1 x0 x1 x2 x3 Hp Hq Hx Hb uH Xp Fx;obtain⟨j,v2,hj,rfl,rfl,ho,TZ,Bl,pb⟩:=hrel;have bW:=aV dG.out pb;by_cases bM:j<n'
     . have gK:j<tb.length:=by rw[Cs.out];exact bM
       obtain⟨l',s',m',tM,hy⟩:∃l s m e,tb[j]=(l,s,m,e):=⟨_,_,_,_,rfl⟩;obtain⟨b',o',rq,mF⟩:=(rQ.out.below bW).term j gK hy;have Tf:=im n' cap' j (j:Int) rq bM rfl;have gJ:=vY.out _ (List.getElem_mem gK);have hdy:=jD.out _ (List.getElem_mem gK);have rD:=Qr.out k j gK;rw[xQ.out,hy]at rD;rw[hy]at gJ hdy;obtain⟨D,hD⟩:=aK (aM (s,m,ex) *aM (s',m',tM));simp only at rD gJ hdy;rw[hD]at rD;have l1:=(xu EO.out.1);have l2:=(xu hdy.1);have hmm:=λW=>arL l l' V W l1.1 l2.1 hV zo l1.2 l2.2 (λi _=>by have:=BO l i;have:=BO l' i;have h8:iM l<=d:=EO.out.2;have h9:iM l'<=e:=hdy.2;omega);obtain⟨L,hL⟩:=aK (fp l l');rw[hL]at hmm rD;have fG:=λW c (h:aC W c 48 [ar s,ai m,ah ex,ar s',ai m',ah tM]) (hT:aO W)=>Aq s m ex s' m' tM D B hD c 2 48 W fx.out gJ zo h hT;have Ht:Hid (bY wr b' (o'+j*4) [ai l',ar s',ai m',ah tM]):=mF;have Hx:Hid (aC wr wo.heap.size 67 [ai l,ar s,ai m,ah ex]):=Bl;obtain⟨Ho,bj,cB,PD,sZ,Fx,pV⟩:=lG ho pb rD hmm fG TZ (Xg.out.below pb);have VO:=pb.size;clear ho pb rD hmm fG TZ Bl mF rq gJ hdy hD hL hy l1 l2 bW;have Hb:Hid (Bw wr wr):=Below.refl _ _;obtain⟨x0,x1,x2,x3⟩:=Hx.out.c4;obtain⟨t0,t1,t2,t3⟩:=Ht.out.w4;have sU:Hid (aO wr):=pV.out;clear pV;have FE:=t0;have FH:=t1;have FI:=t2;have FJ:=t3;have UD:=Hx.out.lt;obtain⟨W3,Dl,ag,Hy⟩:=cF wr 67 [ai l',ar s',ai m',ah tM];clear x0 x1 x2 x3;replace Hx:=kB Hx ag;clear t0 t1 t2 t3;replace Ht:=kW Ht ag;replace sU:=kT sU ag;obtain⟨x0,x1,x2,x3⟩:=Hx.out.c4;obtain⟨t0,t1,t2,t3⟩:=Ht.out.w4;obtain⟨y0,y1,y2,y3⟩:=Hy.out.c4;replace Hb:=aF Hb ag;clear ag;go_wp2_with fail;refine(PD.out _).mono ?_;rintro e w4 ⟨rfl,ag⟩;clear x0 x1 x2 x3 t0 t1 t2 t3 y0 y1 y2 y3;obtain⟨Hx,x0,x1,x2,x3⟩:=dK Hx ag;replace Ht:=kW Ht ag;replace sU:=kT sU ag;obtain⟨Hy,y0,y1,y2,y3⟩:=dK Hy ag;obtain⟨t0,t1,t2,t3⟩:=Ht.out.w4;replace Hb:=aF Hb ag;clear ag FE FH FI FJ;have Kx0:=x0;have Kx1:=x1;have Kx2:=x2;have Kx3:=x3;have Ky0:=y0;have Ky1:=y1;have Ky2:=y2;have Ky3:=y3;have yT:=Hx.out.lt;have UE:=Hy.out.lt;obtain⟨W5,yt,ag,Hc⟩:=cF w4 48 [ar s,ai m,ah ex,ar s',ai m',ah tM];clear x0 x1 x2 x3;replace Hx:=kB Hx ag;clear t0 t1 t2 t3;replace Ht:=kW Ht ag;replace sU:=kT sU ag;clear y0 y1 y2 y3;obtain⟨Hy,y0,y1,y2,y3⟩:=dK Hy ag;obtain⟨x0,x1,x2,x3⟩:=Hx.out.c4;obtain⟨t0,t1,t2,t3⟩:=Ht.out.w4;obtain⟨c0,c1,c2,c3,c4,c5⟩:=Hc.out.c6;replace Hb:=aF Hb ag;clear ag;go_wp2_with fail;refine(sZ.out _ _ Hc.out sU.out).mono ?_;rintro e w6 ⟨rfl,ag⟩;clear x0 x1 x2 x3 t0 t1 t2 t3 y0 y1 y2 y3 c0 c1 c2 c3 c4 c5;obtain⟨Hx,x0,x1,x2,x3⟩:=dK Hx ag;replace Ht:=kW Ht ag;replace sU:=kT sU ag;obtain⟨Hy,y0,y1,y2,y3⟩:=dK Hy ag;obtain⟨Hc,c0,c1,c2,c3,c4,c5⟩:=jO Hc ag;obtain⟨t0,t1,t2,t3⟩:=Ht.out.w4;replace Hb:=aF Hb ag;clear ag Kx0 Kx1 Kx2 Kx3 Ky0 Ky1 Ky2 Ky3;have aAv:=Hx.out.lt;have aet:=Hy.out.lt;have aze:=Hc.out.lt;obtain⟨W7,Mk,ag,Hd⟩:=cF w6 67 [ai L,ar (aI (dN D)),ai (nt (dN D).natAbs),ah (dE D)];clear x0 x1 x2 x3;replace Hx:=kB Hx ag;clear t0 t1 t2 t3;replace Ht:=kW Ht ag;replace sU:=kT sU ag;clear y0 y1 y2 y3;replace Hy:=kB Hy ag;clear c0 c1 c2 c3 c4 c5;obtain⟨Hc,c0,c1,c2,c3,c4,c5⟩:=jO Hc ag;obtain⟨x0,x1,x2,x3⟩:=Hx.out.c4;obtain⟨t0,t1,t2,t3⟩:=Ht.out.w4;obtain⟨y0,y1,y2,y3⟩:=Hy.out.c4;obtain⟨d0,d1,d2,d3⟩:=Hd.out.c4;replace Hb:=aF Hb ag;clear ag;have hv:=ownsRow_below Ho.out Hb.out;have hnews:=iz Hd.out
       have hs7:=Hb.out.size;have hlx:=Hx.out.lt;have hkn:k*n'+j<4096:=by have h1:(k+1) *n'<=n*n':=Nat.mul_le_mul_right _ hlt;rw[Nat.succ_mul]at h1;omega
       go_wp2_with (at_builtin;refine wpList_append_own_at _ rfl _ _ 22 rfl W.heap.size 67 i0 _ 4 48 Tryz.underlying22 Hi.out dz.out dA.out dh.out rfl zd v2 (k*n'+j) ((om ta tb k j).flatMap aY) rfl hv ⟨w6.heap.size,0,none⟩ 1 1 [ai L,ar (aI (dN D)),ai (nt (dN D).natAbs),ah (dE D)] rfl rfl hnews zy zx zo zo ?_;intro v' w8 eV bT _ ac9);rw[show(om ta tb k j).flatMap aY++[Value.string (bs L),ar (aI (dN D)),ai (nt (dN D).natAbs),ah (dE D)]=(om ta tb k (j+1)).flatMap aY from cB.out.symm]at eV;have iP:=aj eV;have ja:Hid (Bw W w8):=(bj.out.trans (Hb.out.mono VO)).grown bT zo (λj e=>dL hv j e);have Hx8:Hid (aC w8 wo.heap.size 67 [ai l,ar s,ai m,ah ex]):=Hx.out.grown bT (λe=>Fx.out _ e.symm rfl);have aj7:Hid (∀g,v'.ownBlock=some g->g≠wo.heap.size):=λg hg=>by
        rcases ac9 with h|h
        . exact Fx.out g (h▸hg)
        . rw[h]at hg;have:=Option.some.inj hg;omega
       clear eV bT ac9 hv hnews x0 x1 x2 x3 y0 y1 y2 y3 t0 t1 t2 t3 c0 c1 c2 c3 c4 c5 d0 d1 d2 d3;go_roundw;case rel=>exact⟨j+1,v',by omega,by go_num,rfl,iP.out,aj7.out,Hx8.out,ja.out⟩
       case measure=>simp[intOf];omega
     . obtain rfl:j=n':=by omega
       rw[Qp.out,Fv.out,show k*j+j=(k+1) *j from(Nat.succ_mul k j).symm]at ho;obtain⟨Ho,bj⟩:=aZ ho pb;clear ho pb TZ Bl bW;go_wp2;go_roundw;case rel=>exact⟨k+1,v2,by omega,by go_num,rfl,Ho.out,bj.out⟩
       case measure=>simp[intOf];omega
  . obtain rfl:k=n:=by omega
    rw[Ac.out]at ho;have Hb:Hid (Bw w wo):=bW;have hcl:=fY.out v W wo pb ho Xg.out;have Ke:=aj hcl;clear hcl ho pb bW;obtain⟨p0,p1⟩:=Hp.out.c2;obtain⟨r0,au,r1,az⟩:=Hr.out.g2;go_wp2_with fail;refine Ke.out.mono ?_;rintro e' w6 ⟨a9,d9,rfl,fS,ag⟩;obtain⟨zY,Qb,vT⟩:=dc (BK fS) (jG.out.below ag) (aV dG.out ag);clear fS ag Hp Hr Hb p0 p1 r0 au r1 az;obtain⟨r0,au,r1,az⟩:=Qb.out.g2;go_wp2;have h9:=zY.out.store Qb.out zd (ah (V:Int)) (.slice a9 C.length d9);refine fJ (λw9=>bJ w9 a9 d9 C/\aC w9 (w.heap.size+1+1) 24 [ah (V:Int),.slice a9 C.length d9]/\Bw w w9) ⟨h9,(Qb.out.set 0 _).set 1 _,(vT.out.setCell zp _).setCell zp _⟩ ?_;rintro w9 ⟨q1,q2,q3⟩;obtain⟨x0,x1⟩:=q2.c2;exact bodyPost_ret (v:=.tuple #[.agg #[ah (V:Int),.slice a9 C.length d9],ah 0]) (by simp[results,Tryz.results118,go_sem,x0,x1]) rfl ⟨_,_,rfl,q1,q3⟩
end Go.Proofs.YtnjfebkelecgaaaGreatDoor
