/- Package mono,on: Of,Mul. -/
import Derived.Test.YtnjfebkelecgaaaGreatDoorZ7
import Derived.Test.YtnjfebkelecgaaaGreatDoorZ18
import Derived.Test.YtnjfebkelecgaaaGreatDoorZ13
import Derived.Test.YtnjfebkelecgaaaGreatDoorZ14
import Derived.Test.YtnjfebkelecgaaaGreatDoorZ23
import Derived.Test.YtnjfebkelecgaaaGreatDoorZ29
set_option linter.all false
set_option maxRecDepth 100000
set_option maxHeartbeats 16000000
namespace Go.Proofs.YtnjfebkelecgaaaGreatDoor
open Go.RowKit
attribute [local go_sem ↓] Go.wp_at_zero Go.wp_at_succ
def Tryz.aCz :(Tryz.prog.info? 5).map (λi=>(i.zero,i.size,i.bytes))=some (some (.int .u8 0),1,1):=by kernel_rfl
def xX (l:List UInt8):List Value:=l.map λc=>.int .u8 (c.toNat:Int)
def auh {w:World}{base n cap g:Nat}{l:List UInt8}(h:w.ownsRow base 5 1 (.slice (some ⟨g,0,none⟩) n cap) n (xX l)):sV w g l:=λj hj=>by
 obtain⟨a,c,e,hat,_⟩:=dm h;simp only[Value.slice.injEq]at e;obtain⟨rfl,_,rfl⟩:=e;refine⟨?_,pz h j⟩;rcases hat with h0|⟨b,o,e,hc⟩
 . unfold xX at h0;rw[List.map_eq_nil_iff]at h0;subst h0;cases hj
 . simp only[Option.some.injEq,Addr.mk.injEq,and_true]at e;obtain⟨rfl,rfl⟩:=e;have:=hc j (by simpa[xX]using hj);rw[Nat.zero_add]at this;rw[this];unfold xX;rw[List.getElem?_map,List.getElem?_eq_getElem hj];rfl
def atd (l:List UInt8)(a:Option Addr)(cap n:Nat)(w:World)(hn:l.length=n)(hn0:0<n)(hl:n<=1048576)(hall:∀c∈l,c.toNat<=127)(ha:At w a (ia l)):
 Cv 184 #[.slice a n cap] w (.tuple #[ai l,ah 0]):=by
 obtain⟨i0,hi,hz0,hz1,hz2⟩:=info_parts Tryz.aCz;rw[<-Mv]at ha;obtain⟨Hi,cV,cW,cC,Hn,mJ,Ha⟩:=kH hi hz0 hz1 hz2 hn hall ha;clear hi hz0 hz1 hz2 hn hall ha;have Hb:=hbz w;go_enter Tryz.func184,Tryz.ntmps184;go_wp2_with fail;go_loopw[4,9] (λs4 x wr=>∃(k:Nat) (v:Value),k<=n/\x=ah (k:Int)/\v=s4/\wr.ownsRow w.heap.size 5 1 v k (xX (l.take k))/\Bw w wr) (λ_ x _=>n-(intOf x).toNat);case atStart=>exact⟨0,_,Nat.zero_le _,rfl,rfl,World.ownsRow_nil _ _ _ _,Hb.out⟩
 case round=>
  clear Hb;obtain⟨k,v,hk,rfl,rfl,ho,pb⟩:=hrel;by_cases hlt:k<n
  . have h1:k<l.length:=by rw[Hn.out];exact hlt
    have hc:=mJ.out _ (List.getElem_mem h1);obtain⟨b,o,hab,hce⟩:=(Ha.out.below pb).elem (f:=λc:UInt8=>[Value.int .i64 (c.toNat:Int)]) (sz:=1) (λ_=>rfl) zd k h1;have bC:=xx n cap k (k:Int) hab hlt rfl;rw[Nat.mul_one]at bC;obtain⟨cc,hcc⟩:∃cc:Int,((l[k]).toNat:Int)=cc:=⟨_,rfl⟩;have Hp:Hid (bA wr b (o+k) [ah cc]):=λj hj=>by
     obtain rfl:j=0:=by simp at hj;omega
     have:=hce 0 zd;rw[Nat.mul_one]at this;simpa[hcc]using this
    have cu:Hid (xX (l.take (k+1))=xX (l.take k)++[.int .u8 cc]):=by
     show _=_
     unfold xX;rw[List.take_succ_eq_append_getElem h1,List.map_append,<-hcc];rfl
    have h0:¬cc<0:=by omega
    have aqd:¬127<cc:=by omega
    have uf:IntKind.u8.wrap cc=cc:=by rw[IntKind.wrap_u8];omega
    obtain⟨Ho,aX⟩:=aU ho pb;have fQ:=pb.size;clear ho pb hc hce hcc hab;have Hb:=hbz wr;obtain⟨ag,aC⟩:=qZ (Hp.an trivial);have p0:wr.cell? ⟨b,o+k,none⟩=some (ah cc):=ag.1.out.cell 0 zm;have P0:=p0;obtain⟨W2,nV,bi,ag,aC⟩:=cM wr (Hb.an ag) 5 [.int .u8 cc];have hv:=ownsRow_below Ho.out ag.2.1.out;have hnews:=gK ag.1.out;have hs2:=ag.2.1.out.size;skip
    go_wp2_with (at_builtin;refine wpList_append_own_at _ rfl _ _ 84 rfl w.heap.size 5 i0 _ 1 1 Tryz.underlying84 Hi.out cV.out cW.out cC.out rfl zd v k (xX (l.take k)) rfl hv ⟨wr.heap.size,0,none⟩ 1 1 [.int .u8 cc] rfl rfl hnews zy zx zo zo ?_;intro v' w3 nu hg3 _ _;obtain⟨g',cq,rfl⟩:=ownsRow_succ nu);rw[<-cu.out]at nu;have QJ:=az nu;have eo:Hid (Bw w w3):=(aO aX.out ag.2.1.out).grown hg3 zo (λj e=>dz hv j e);clear nu hg3 hv hnews P0;go_roundw;case rel=>exact⟨k+1,_,by omega,by go_num,rfl,QJ.out,eo.out⟩
    case measure=>exact bH
  . obtain rfl:k=n:=by omega
    rw[List.take_of_length_le (by rw[Hn.out];exact Nat.le_refl _)]at ho;obtain⟨g,cq,rfl,_⟩:=xK ho hn0;have hcv:=(auh ho).back cq;rw[Hn.out]at hcv;have aX:=az pb;clear pb ho;go_wp2;refine bodyPost_ret (v:=.tuple #[ai l,ah 0]) (by simp[results,Tryz.results184,go_sem]) rfl ⟨rfl,aX.out⟩
def Ow (w:World)(base:Nat)(e:TypeId)(sz:Nat)(v:Value)(n:Nat)(xs:List Value):Prop:=w.ownsRow base e sz v n xs
def Ow.below {w w':World}{base sz n:Nat}{e:TypeId}{v:Value}{xs:List Value}(h:Ow w base e sz v n xs)(hb:Bw w w'):Ow w' base e sz v n xs:=ownsRow_below h hb
instance {w :World} {base sz n:Nat} {e:TypeId} {v:Value} {xs:List Value}:QTr (Ow w base e sz v n xs) w (λW=>Ow W base e sz v n xs):=⟨λh _ k=>Ow.below h k⟩
def kR (a b:List UInt8)(n k:Nat):List Nat:=(List.range n).map λi=>if i<k then(a.getD i 0).toNat+(b.getD i 0).toNat else(b.getD i 0).toNat
def lu (l:List Nat):List Value:=l.map λ(x:Nat)=>ah (x:Int)
def anz (a b:List UInt8)(n:Nat)(hb:b.length=n):lu (kR a b n 0)=ia b:=by
 refine List.ext_getElem (by simp[lu,kR,ia,hb]) (λi h1 h2=>?_);have hi:i<b.length:=by simpa[ia]using h2
 simp[lu,kR,ia,hi]
def anx (a b:List UInt8)(n k:Nat):lu (kR a b n (k+1))=(lu (kR a b n k)).set k (ah (((a.getD k 0).toNat+(b.getD k 0).toNat:Nat):Int)):=by
 refine List.ext_getElem (by simp[lu,kR]) (λi h1 h2=>?_);have hi:i<n:=by simpa[lu,kR]using h1
 rw[List.getElem_set];by_cases e:k=i
 . subst e;simp[lu,kR]
 . rw[if_neg e];simp only[lu,kR,List.getElem_map,List.getElem_range];by_cases h:i<k
   . rw[if_pos zo,if_pos h]
   . rw[if_neg zo,if_neg h]
def anw (a b:List UInt8)(n:Nat)(ha:a.length=n)(hb:b.length=n)(hs:∀i,i<n->(a.getD i 0).toNat+(b.getD i 0).toNat<=127):lu (kR a b n n)=ia (fq a b):=by
 refine List.ext_getElem (by simp[lu,kR,ia,fq,ha,hb]) (λi h1 h2=>?_);have hi:i<n:=by simpa[lu,kR]using h1
 simp only[lu,kR,ia,List.getElem_map,List.getElem_range,if_pos hi];rw[RL a b i (by rw[Df a b n ha hb];exact hi) (by have:=hs i hi;omega)]
def atb (x y:Nat)(w:World)(hx:x<=255)(hy:y<=255)(Z:Int)(hZ:((x+y:Nat):Int)=Z):
 Cv 183 #[ah (x:Int),ah (y:Int)] w (ah Z):=by
 have Hb:=hbz w;go_enter Tryz.func183,Tryz.ntmps183;have hwr:IntKind.i64.wrap ((x:Int)+(y:Int))=Z:=by rw[IntKind.wrap_i64];omega
 go_wp2;refine bodyPost_ret (results_tmp rfl _ _ _) rfl ⟨rfl,Hb.out⟩
def anA (a b:List UInt8)(n:Nat)(w:World)(jG:a.length=n)(hlb:b.length=n)(hn0:0<n)(hl:n<=1048576)(ha:∀c∈a,c.toNat<=127)(hb:∀c∈b,c.toNat<=127):
 Cl 182 #[ai a,ai b,.func (.func 183) #[] #[]] w λe w'=>∃v,e=.returned (.tuple #[v,aj true])/\w'.ownsRow w.heap.size 3 1 v n (lu (kR a b n n))/\Bw w w':=by
 have Vm:=λW=>SD a W zo ha;have Cc:=λW=>SD b W zo hb;have BL:=λW=>Eo a (n:Int) W zo;have hmb:=λW=>Eo b (n:Int) W zo;rw[show eN a (n:Int)=true by unfold eN;rw[jG];simp only[Bool.and_eq_true,List.all_eq_true,decide_eq_true_eq,and_true];exact ha]at BL;rw[show eN b (n:Int)=true by unfold eN;rw[hlb];simp only[Bool.and_eq_true,List.all_eq_true,decide_eq_true_eq,and_true];exact hb]at hmb;have hsz:(bs a).size=n:=by rw[gY,jG]
 rw[jG]at Vm;rw[hlb]at Cc;have h0:=anz a b n hlb;have hgb:∀k,k<n->∃y,(b.getD k 0).toNat=y/\y<=255:=λk hk=>⟨_,rfl,by have:=(b.getD k 0).toNat_lt;omega⟩;have hst:=anx a b n;have iZ:∀k (h:k<a.length),a.getD k 0=a[k]:=λk h=>by simp[h]
 have hbk:∀k,k<n->(lu (kR a b n k))[k]?=some (ah (((b.getD k 0).toNat:Nat):Int)):=λk hk=>by simp[lu,kR,hk]
 obtain⟨Gh,Gi,Qx,Qy,H0,cu,lH,tj,FD,pV⟩:=JK Vm Cc BL hmb h0 hst iZ hbk jG hsz;clear Vm Cc BL hmb ha hb hlb h0 hst iZ hbk jG hgb;have Hb:=hbz w;go_enter Tryz.func182,Tryz.ntmps182;go_wp2_with fail;refine(Gi.out _).mono ?_;rintro e w1 ⟨vb,rfl,eY,au⟩;obtain⟨ag,aC⟩:=qX au (Hb.an trivial);obtain⟨gb,cb,rfl,hg1,hg2,hg3⟩:=xK eY hn0;rw[<-H0.out]at eY;have HOB:Hid (Ow w1 w.heap.size 3 1 (.slice (some ⟨gb,0,none⟩) n cb) n (lu (kR a b n 0))):=eY;clear eY;go_wp2_with fail;refine aZ (HOB.an ag) (Qx.out _) λw2 ag aC=>?_;go_wp2_with fail;refine aZ ag (Qy.out _) λw3 ag aC=>?_;have hgl:gb<w3.heap.size:=(Cq ag.1.out).2;go_wp2_with fail;refine(Gh.out _).mono ?_;rintro e w4 ⟨va,rfl,BP,au⟩;obtain⟨ag,aC⟩:=qX au ag;have CY:=az BP;clear BP;obtain⟨aa,ca,rfl,_⟩:=dm CY.out;go_wp2_with fail;go_loopw[28] (λx wr=>∃k:Nat,k<=n/\x=ah (k:Int)/\wr.ownsRow w.heap.size 3 1 (.slice (some ⟨gb,0,none⟩) n cb) n (lu (kR a b n k))/\wr.ownsRow w3.heap.size 3 1 (.slice aa n ca) n (ia a)/\Bw w wr) (λx _=>n-(intOf x).toNat);case atStart=>exact⟨0,Nat.zero_le _,rfl,ag.1.out,CY.out,ag.2.1.out⟩
 case round=>
  clear CY;obtain⟨k,hk,rfl,ho,BP,pb⟩:=hrel;by_cases hlt:k<n
  . have h1:k<a.length:=by rw[FD.out];exact hlt
    obtain⟨a9,c9,e9,hat,_⟩:=dm BP;simp only[Value.slice.injEq]at e9;obtain⟨rfl,_,rfl⟩:=e9;rw[<-Mv]at hat;obtain⟨b1,o1,hab,hce⟩:=hat.elem (f:=λc:UInt8=>[Value.int .i64 (c.toNat:Int)]) (sz:=1) (λ_=>rfl) zd k h1;have bC:=xx n ca k (k:Int) hab hlt rfl;have xa:=xx n cb k (k:Int) (rfl:(some ⟨gb,0,none⟩:Option Addr)=_) hlt rfl;rw[Nat.mul_one]at bC;rw[Nat.mul_one,Nat.zero_add]at xa;have hbk:=tj.out k hlt;have hst:=cu.out k;rw[lH.out k h1]at hst;obtain⟨x,hx⟩:∃x:Nat,(a[k]).toNat=x:=⟨_,rfl⟩;obtain⟨y,hy⟩:∃y:Nat,(b.getD k 0).toNat=y:=⟨_,rfl⟩;have hx2:x<=255:=by have:=(a[k]).toNat_lt;omega
    have hy2:y<=255:=by have:=(b.getD k 0).toNat_lt;omega
    obtain⟨Z,hZ⟩:∃Z:Int,((x+y:Nat):Int)=Z:=⟨_,rfl⟩;rw[hx,hy,hZ]at hst;rw[hy]at hbk;have q0:wr.cell? ⟨gb,k,none⟩=some (ah (y:Int)):=by have:=ho.cells (g:=gb) rfl k _ hbk;rw[show(⟨gb,0,none⟩:Addr).add k=⟨gb,k,none⟩by simp[Addr.add];intro h;exact h.symm]at this;exact this
    have ib:=pz ho k;have p0:wr.cell? ⟨b1,o1+k,none⟩=some (ah (x:Int)):=by have:=hce 0 zd;rw[Nat.mul_one]at this;simpa[hx]using this
    have mn:=λW=>atb x y W hx2 hy2 Z hZ;obtain⟨Ho,CY,aX,Hs,CU⟩:=fH ho BP pb hst mn;clear ho BP pb hst mn hx hy hx2 hy2 hZ hbk hab hat hce;go_wp2_with fail;refine(CU.out _).mono ?_;rintro e w5 ⟨rfl,au⟩;have q1:=cell_later au q0;have iL:=apW au q0 ib;have FM:Hid ((w5.setCell ⟨gb,k,none⟩ (ah Z)).ownsRow w.heap.size 3 1 (.slice (some ⟨gb,0,none⟩) n cb) n (lu (kR a b n (k+1)))):=by rw[Hs.out];exact mr (ownsRow_below Ho.out au) k _
    have Ha5:Hid ((w5.setCell ⟨gb,k,none⟩ (ah Z)).ownsRow w3.heap.size 3 1 (.slice aa n ca) n (ia a)):=ownsRow_setCell_below (ownsRow_below CY.out au) hgl _;have eP:Hid (Bw w (w5.setCell ⟨gb,k,none⟩ (ah Z))):=(aO aX.out au).setCell hg1 _;clear q0 ib p0 au Ho CY aX;go_wp2;go_roundw;case rel=>exact⟨k+1,by omega,by go_num,FM.out,Ha5.out,eP.out⟩
    case measure=>exact bH
  . obtain rfl:k=n:=by omega
    obtain⟨Ho,aX⟩:=aU ho pb;clear ho BP pb;go_wp2;refine bodyPost_ret (v:=.tuple #[.slice (some ⟨gb,0,none⟩) k cb,aj true]) (by simp[results,Tryz.results182,go_sem]) rfl ⟨_,rfl,Ho.out,aX.out⟩
def atc (a b:List UInt8)(n:Nat)(w:World)(jG:a.length=n)(hlb:b.length=n)(hn0:0<n)(hl:n<=1048576)(ha:∀c∈a,c.toNat<=127)(hb:∀c∈b,c.toNat<=127)(hs:∀i,i<n->(a.getD i 0).toNat+(b.getD i 0).toNat<=127):
 Cv 157 #[ai a,ai b] w (.tuple #[ai (fq a b),ah 0]):=by
 have jE:=λW=>anA a b n W jG hlb hn0 hl ha hb;rw[anw a b n jG hlb hs]at jE;have hof:=λ(A:Option Addr) (c:Nat) (W:World) (h:At W A (ia (fq a b)))=>atd (fq a b) A c n W (Df a b n jG hlb) hn0 hl (RN a b n jG hlb hs) h;obtain⟨KR,mM⟩:=aU jE hof;clear jE hof ha hb hs jG hlb;have Hb:=hbz w;go_enter Tryz.func157,Tryz.ntmps157;go_wp2_with fail;refine(KR.out _).mono ?_;rintro e w1 ⟨v,rfl,ho,au⟩;obtain⟨ag,aC⟩:=qX au (Hb.an trivial);obtain⟨A,c,rfl,hat,_⟩:=dm ho;have eZ:=az hat;clear ho hat;go_wp2_with fail;refine aZ ag (mM.out A c _ eZ.out) λw2 ag aC=>?_;go_wp2;refine bodyPost_ret (v:=.tuple #[ai (fq a b),ah 0]) (by simp[results,Tryz.results157,go_sem]) rfl ⟨rfl,ag.1.out⟩
def oG (ta tb:List aM)(k j:Nat):List aM:=iE (ta.take k) tb++(tb.take j).map λy=>(fq (ta.getD k zT).1 y.1,canon (aJ (ta.getD k zT).2*aJ y.2))
def Xx (ta tb:List aM)(k:Nat):oG ta tb k 0=iE (ta.take k) tb:=by simp[oG]
def ahV (ta tb:List aM)(k:Nat)(hk:k<ta.length):oG ta tb k tb.length=oG ta tb (k+1) 0:=by rw[Xx];unfold oG iE;rw[List.take_succ_eq_append_getElem hk,List.flatMap_append,List.take_length];simp[hk]
def ahW (ta tb:List aM)(k j:Nat)(hj:j<tb.length):(oG ta tb k (j+1)).flatMap aW=(oG ta tb k j).flatMap aW++aW (fq (ta.getD k zT).1 tb[j].1,canon (aJ (ta.getD k zT).2*aJ tb[j].2)):=by unfold oG;rw[List.take_succ_eq_append_getElem hj,List.map_append,<-List.append_assoc,List.flatMap_append (xs:=_++_)];simp
def au5 (V B d e n n':Nat)(a a':Option Addr)(cap cap':Nat)(ta tb C:List aM)(w:World)(hV:0<V)(hV2:V<=12)(hn:ta.length=n)(hn':tb.length=n')(yU:gB V d ta)(yV:gB V e tb)(Nl:d+e<=127)(jF:∀t∈ta,Fit B t.2)(jW:∀t∈tb,Fit B t.2)(hl:n*n'<=4096)(nk:n<=4096)(hl2:n'<=4096)(hB:B<=100000000)(ha:At w a (ta.flatMap aW))(ha':At w a' (tb.flatMap aW))(hT:aR w)(hC:bW (iE ta tb)=C):
 Cl 118 #[.agg #[ah (V:Int),.slice a n cap],.agg #[ah (V:Int),.slice a' n' cap']] w λex w'=>∃a9 c9,ex=.returned (.tuple #[.agg #[ah (V:Int),.slice a9 C.length c9],ah 0])/\bI w' a9 c9 C/\Bw w w':=by
 obtain⟨i0,hi,hz0,hz1,hz2⟩:=info_parts Tryz.aCo;have rG:∀t∈iE ta tb,Fit (2*B) t.2:=λt ht=>by have h:=VT (λt h=>(jF t h).2) (λt h=>(jW t h).2) t ht;obtain⟨x,hx,y,hy,rfl⟩:=Ot ht;rw[cJ]at h;exact(h.mono zo).fit zo
 have hcl:=λ(v:Value) (W0 W:World) (hb0:Bw W0 W) (ho:W.ownsRow W0.heap.size 67 4 v (n*n') ((iE ta tb).flatMap aW)) (hT:aR W0)=>Mg (V:Int) v (n*n') (iE ta tb) C (2*B) W0 W hb0 (by rw[VS,hn,hn']) hl ho rG zo hT hC;have hu0:=Xx ta tb;have hun:=λk (h:k<n)=>ahV ta tb k zo;have Jv:=λk j (h:j<tb.length)=>ahW ta tb k j h;have htl:ta.take n=ta:=List.take_of_length_le zo;have iZ:∀k (h:k<ta.length),ta.getD k zT=ta[k]:=λk h=>by simp[h]
 rw[hn']at hun;obtain⟨Hi,cV,cW,cC,gD,Gd,Rf,Rj,AJ,lH,Hn,CW⟩:=fu hi hz0 hz1 hz2 hcl hu0 hun Jv htl iZ hn hn';obtain⟨PZ,Qa,wh,wm,Ha,pL⟩:=fw yU yV jF jW ha ha';clear hi hz0 hz1 hz2 rG hcl hu0 hun Jv htl iZ hn hn' yU yV jF jW ha ha' hC;have hnm:¬(65536:Int)<IntKind.i64.wrap ((n:Int) * (n':Int)):=by
  have:((n:Int) * (n':Int))<=4096:=by exact_mod_cast hl
  have:0<=((n:Int) * (n':Int)):=by exact_mod_cast Nat.zero_le _
  rw[IntKind.wrap_i64];omega
 have Hb:=hbz w;go_enter Tryz.func118,Tryz.ntmps118;go_wp2_with fail;refine EE w (Hb.an trivial) 24 [ah (V:Int),.slice a n cap] 24 [ah (V:Int),.slice a' n' cap'] 24 [ah 0,.slice none 0 0] λW bi ag aC=>?_;have Yp:Hid (aR W):=hT.below ag.2.2.2.1.out;obtain⟨Hp,Hq,Hr,Hb,_⟩:=ag;obtain⟨p0,p1⟩:=Hp.out.c2;obtain⟨q0,q1⟩:=Hq.out.c2;obtain⟨r0,bo,r1,bz⟩:=Hr.out.g2;have mN:=Hp;have yl:=Hq;have jw:=Hr;have dM:=Hb;go_wp2_with fail;go_loopw[6,25] (λs6 x wr=>∃(k:Nat) (v:Value),k<=n/\x=ah (k:Int)/\v=s6/\wr.ownsRow W.heap.size 67 4 v (k*n') ((iE (ta.take k) tb).flatMap aW)/\Bw W wr) (λ_ x _=>n-(intOf x).toNat);case atStart=>exact⟨0,_,Nat.zero_le _,rfl,rfl,by rw[Nat.zero_mul];exact World.ownsRow_nil _ _ _ _,Below.refl _ _⟩
 case round=>
  clear p0 p1 q0 q1 r0 bo r1 bz Hp Hq Hr Hb;obtain⟨k,v,hk,rfl,rfl,ho,pb⟩:=hrel;obtain⟨wo,hwo⟩:∃wo,wo=wr:=⟨_,rfl⟩;subst hwo;obtain⟨Hp,Hq,Hr⟩:=cE (mN.out.below pb) (yl.out.below pb) (jw.out.below pb);have bE:=aO dM.out pb;have xR:=dM.out.size;by_cases hlt:k<n
  . have hk2:k<ta.length:=by rw[Hn.out];exact hlt
    obtain⟨l,s,m,ex,hx⟩:∃l s m e,ta[k]=(l,s,m,e):=⟨_,_,_,_,rfl⟩;obtain⟨b,o,hab,cn⟩:=(Ha.out.below bE).term k hk2 hx;have bC:=gQ n cap k (k:Int) hab hlt rfl;have iz:=lH.out k hk2;rw[hx]at iz;have eK:=wh.out _ (List.getElem_mem hk2);have BD:=PZ.out _ (List.getElem_mem hk2);rw[hx]at eK BD;rw[<-Gd.out]at ho;have Ju:=Rf.out k hlt;have Ht:Hid (bA wo b (o+k*4) [ai l,aj s,ai m,ah ex]):=cn;obtain⟨Ho,aX,rT,gF,Fu,Rh,dO⟩:=kH ho pb iz eK BD Ju bE;have fQ:=pb.size;clear ho pb iz eK BD Ju hx hab cn bE;have Hb:=hbz wo;obtain⟨ag,aC⟩:=qZ (Hp.an<|Hq.an<|Ht.an trivial);obtain⟨W2,nV,bi,ag,aC⟩:=cM wo (Hb.an ag) 67 [ai l,aj s,ai m,ah ex];go_wp2_with fail;have hs2:=ag.2.1.out.size;have adf:=aX.out.trans (ag.2.1.out.mono fQ);obtain⟨uP,Yx⟩:=aU (ownsRow_below Ho.out ag.2.1.out) adf;have Gf:Hid (∀g,v.ownBlock=some g->g≠wo.heap.size):=λg hg=>by have:=(Ho.out.lt g hg).2;omega
    clear adf Ho aX bC;go_loopw[6,32] (λs6 x wr=>∃(j:Nat) (v2:Value),j<=n'/\x=ah (j:Int)/\v2=s6/\wr.ownsRow W.heap.size 67 4 v2 (k*n'+j) ((oG ta tb k j).flatMap aW)/\(∀g,v2.ownBlock=some g->g≠wo.heap.size)/\aH wr wo.heap.size 67 [ai l,aj s,ai m,ah ex]/\Bw W wr) (λ_ x _=>n'-(intOf x).toNat);case atStart=>exact⟨0,v,Nat.zero_le _,rfl,rfl,uP.out,Gf.out,ag.1.out,Yx.out⟩
    case round=>
     clear uP Yx Gf;obtain⟨j,v2,hj,rfl,rfl,ho,Vg,Cc,pb⟩:=hrel;have bE:=aO dM.out pb;by_cases bj:j<n'
     . have fS:j<tb.length:=by rw[CW.out];exact bj
       obtain⟨l',s',m',tQ,hy⟩:∃l s m e,tb[j]=(l,s,m,e):=⟨_,_,_,_,rfl⟩;obtain⟨b',o',nW,nC⟩:=(pL.out.below bE).term j fS hy;have IK:=gQ n' cap' j (j:Int) nW bj rfl;have gP:=wm.out _ (List.getElem_mem fS);have hdy:=Qa.out _ (List.getElem_mem fS);have rH:=Rj.out k j fS;rw[rT.out,hy]at rH;rw[hy]at gP hdy;obtain⟨D,hD⟩:=aI (aJ (s,m,ex) *aJ (s',m',tQ));simp only at rH gP hdy;rw[hD]at rH;have l1:=(xE Fu.out.1);have l2:=(xE hdy.1);have hmm:=λW=>atc l l' V W l1.1 l2.1 hV zo l1.2 l2.2 (λi _=>by have:=Cz l i;have:=Cz l' i;have h8:iH l<=d:=Fu.out.2;have h9:iH l'<=e:=hdy.2;omega);obtain⟨L,hL⟩:=aI (fq l l');rw[hL]at hmm rH;have fT:=λW c (h:aH W c 48 [aj s,ai m,ah ex,aj s',ai m',ah tQ]) (hT:aR W)=>Dq s m ex s' m' tQ D B hD c 2 48 W gF.out gP zo h hT;have Ht:Hid (bA wr b' (o'+j*4) [ai l',aj s',ai m',ah tQ]):=nC;have Hx:Hid (aH wr wo.heap.size 67 [ai l,aj s,ai m,ah ex]):=Cc;obtain⟨Ho,aX,cu,QA,tB,Gf,qE⟩:=kH ho pb rH hmm fT Vg (Yp.out.below pb);have Xf:=pb.size;clear ho pb rH hmm fT Vg Cc nC nW gP hdy hD hL hy l1 l2 bE;have Hb:=hbz wr;obtain⟨ag,aC⟩:=qZ (Hx.an<|Ht.an trivial);have HFT:Hid (aR wr):=qE.out;clear qE;obtain⟨W3,DK,bi,ag,aC⟩:=cM wr (Hb.an<|HFT.an ag) 67 [ai l',aj s',ai m',ah tQ];go_wp2_with fail;refine aZ ag (QA.out _) λw4 ag aC=>?_;obtain⟨W5,yN,bi,ag,aC⟩:=cM w4 ag 48 [aj s,ai m,ah ex,aj s',ai m',ah tQ];go_wp2_with fail;refine aZ ag (tB.out _ _ ag.1.out ag.2.2.2.1.out) λw6 ag aC=>?_;obtain⟨W7,DL,bi,ag,aC⟩:=cM w6 ag 67 [ai L,aj (aK (dN D)),ai (nt (dN D).natAbs),ah (dE D)];have hv:=ownsRow_below Ho.out ag.2.2.2.1.out;have hnews:=gK ag.1.out;have Jm:=ag.2.2.2.1.out.size;have hlx:=ag.2.2.2.2.2.1.out.lt;have hkn:k*n'+j<4096:=by have h1:(k+1) *n'<=n*n':=Nat.mul_le_mul_right _ hlt;rw[Nat.succ_mul]at h1;omega
       go_wp2_with (at_builtin;refine wpList_append_own_at _ rfl _ _ 22 rfl W.heap.size 67 i0 _ 4 48 Tryz.underlying22 Hi.out cV.out cW.out cC.out rfl zd v2 (k*n'+j) ((oG ta tb k j).flatMap aW) rfl hv ⟨w6.heap.size,0,none⟩ 1 1 [ai L,aj (aK (dN D)),ai (nt (dN D).natAbs),ah (dE D)] rfl rfl hnews zy zx zo zo ?_;intro v' w8 dY bJ _ Jf);rw[show(oG ta tb k j).flatMap aW++[Value.string (bs L),aj (aK (dN D)),ai (nt (dN D).natAbs),ah (dE D)]=(oG ta tb k (j+1)).flatMap aW from cu.out.symm]at dY;have fZ:=az dY;have iU:Hid (Bw W w8):=(aX.out.trans (ag.2.2.2.1.out.mono Xf)).grown bJ zo (λj e=>dz hv j e);have Hx8:Hid (aH w8 wo.heap.size 67 [ai l,aj s,ai m,ah ex]):=ag.2.2.2.2.2.1.out.grown bJ (λe=>Gf.out _ e.symm rfl);have alV:Hid (∀g,v'.ownBlock=some g->g≠wo.heap.size):=λg hg=>by
        rcases Jf with h|h
        . exact Gf.out g (h▸hg)
        . rw[h]at hg;have:=Option.some.inj hg;omega
       clear dY bJ Jf hv hnews;go_roundw;case rel=>exact⟨j+1,v',by omega,by go_num,rfl,fZ.out,alV.out,Hx8.out,iU.out⟩
       case measure=>exact bH
     . obtain rfl:j=n':=by omega
       rw[Rh.out,Gd.out,show k*j+j=(k+1) *j from(Nat.succ_mul k j).symm]at ho;obtain⟨Ho,aX⟩:=aU ho pb;clear ho pb Vg Cc bE;go_wp2;go_roundw;case rel=>exact⟨k+1,v2,by omega,by go_num,rfl,Ho.out,aX.out⟩
       case measure=>exact bH
  . obtain rfl:k=n:=by omega
    rw[AJ.out]at ho;have Hb:Hid (Bw w wo):=bE;have hcl:=gD.out v W wo pb ho Yp.out;have Lc:=az hcl;clear hcl ho pb bE;obtain⟨ag,aC⟩:=qZ (Hp.an<|Hr.an trivial);go_wp2_with fail;refine Lc.out.mono ?_;rintro e' w6 ⟨a9,d9,rfl,fN,au⟩;obtain⟨uQ,QT,vV⟩:=cE (Cr fN) (jw.out.below au) (aO dM.out au);clear fN au Hb;obtain⟨r0,bo,r1,bz⟩:=QT.out.g2;go_wp2;have h9:=uQ.out.store QT.out zd (ah (V:Int)) (.slice a9 C.length d9);refine eH (λw9=>bI w9 a9 d9 C/\aH w9 (w.heap.size+1+1) 24 [ah (V:Int),.slice a9 C.length d9]/\Bw w w9) ⟨h9,(QT.out.set 0 _).set 1 _,(vV.out.setCell zp _).setCell zp _⟩ ?_;rintro w9 ⟨q1,q2,q3⟩;obtain⟨x0,x1⟩:=q2.c2;exact bodyPost_ret (v:=.tuple #[.agg #[ah (V:Int),.slice a9 C.length d9],ah 0]) (by simp[results,Tryz.results118,go_sem,x0,x1]) rfl ⟨_,_,rfl,q1,q3⟩
end Go.Proofs.YtnjfebkelecgaaaGreatDoor
