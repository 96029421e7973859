/- Package mono,on: Of,Mul. -/
import Derived.Test.YtpfgffadgkkedaaGreatDoorZ7
import Derived.Test.YtpfgffadgkkedaaGreatDoorZ18
import Derived.Test.YtpfgffadgkkedaaGreatDoorZ13
import Derived.Test.YtpfgffadgkkedaaGreatDoorZ14
import Derived.Test.YtpfgffadgkkedaaGreatDoorZ25
import Derived.Test.YtpfgffadgkkedaaGreatDoorZ15
set_option linter.all false
set_option maxRecDepth 100000
set_option maxHeartbeats 16000000
namespace Go.Proofs.YtpfgffadgkkedaaGreatDoor
open Go.RowKit
attribute [local go_sem ↓] Go.wp_at_zero Go.wp_at_succ
def Tryz.aAn :(Tryz.prog.info? 5).map (λi=>(i.zero,i.size,i.bytes))=some (some (.int .u8 0),1,1):=by kernel_rfl
def mJ (l:List UInt8):List Value:=l.map λc=>.int .u8 (c.toNat:Int)
def as9 {w:World}{base n cap g:Nat}{l:List UInt8}(h:w.ownsRow base 5 1 (.slice (some ⟨g,0,none⟩) n cap) n (mJ l)):vG w g l:=λj hj=>by
 obtain⟨a,c,e,hat,_⟩:=cw h;simp only[Value.slice.injEq]at e;obtain⟨rfl,_,rfl⟩:=e;refine⟨?_,jT h j⟩;rcases hat with h0|⟨b,o,e,hc⟩
 . unfold mJ at h0;rw[List.map_eq_nil_iff]at h0;subst h0;cases hj
 . simp only[Option.some.injEq,Addr.mk.injEq,and_true]at e;obtain⟨rfl,rfl⟩:=e;have:=hc j (by simpa[mJ]using hj);rw[Nat.zero_add]at this;rw[this];unfold mJ;rw[List.getElem?_map,List.getElem?_eq_getElem hj];rfl
def arN (l:List UInt8)(a:Option Addr)(cap n:Nat)(w:World)(hn:l.length=n)(hn0:0<n)(hl:n<=1048576)(hall:∀c∈l,c.toNat<=127)(ha:At w a (ju l)):
 Cv 129 #[.slice a n cap] w (.tuple #[ah l,af 0]):=by
 obtain⟨i0,hi,hz0,hz1,hz2⟩:=info_parts Tryz.aAn;rw[<-Rj]at ha;obtain⟨Hi,cu,bV,bX,Hn,fP,Ha⟩:=iX hi hz0 hz1 hz2 hn hall ha;clear hi hz0 hz1 hz2 hn hall ha;have Hb:=hbz w;go_enter Tryz.func129,Tryz.ntmps129;go_wp2_with fail;go_loopw[4,9] (λs4 x wr=>∃(k:Nat) (v:Value),k<=n/\x=af (k:Int)/\v=s4/\wr.ownsRow w.heap.size 5 1 v k (mJ (l.take k))/\Bw w wr) (λ_ x _=>n-(intOf x).toNat);case atStart=>exact⟨0,_,Nat.zero_le _,rfl,rfl,World.ownsRow_nil _ _ _ _,Hb.out⟩
 case round=>
  clear Hb;obtain⟨k,v,hk,rfl,rfl,ho,pb⟩:=hrel;by_cases hlt:k<n
  . have h1:k<l.length:=by rw[Hn.out];exact hlt
    have hc:=fP.out _ (List.getElem_mem h1);obtain⟨b,o,hab,hce⟩:=(Ha.out.below pb).elem (f:=λc:UInt8=>[Value.int .i64 (c.toNat:Int)]) (sz:=1) (λ_=>rfl) zd k h1;have aX:=IX n cap k (k:Int) hab hlt rfl;rw[Nat.mul_one]at aX;obtain⟨cc,hcc⟩:∃cc:Int,((l[k]).toNat:Int)=cc:=⟨_,rfl⟩;have Hp:Hid (aQ wr b (o+k) [af cc]):=λj hj=>by
     obtain rfl:j=0:=by simp at hj;omega
     have:=hce 0 zd;rw[Nat.mul_one]at this;simpa[hcc]using this
    have bN:Hid (mJ (l.take (k+1))=mJ (l.take k)++[.int .u8 cc]):=by
     show _=_
     unfold mJ;rw[List.take_succ_eq_append_getElem h1,List.map_append,<-hcc];rfl
    have h0:¬cc<0:=by omega
    have axP:¬127<cc:=by omega
    have uW:IntKind.u8.wrap cc=cc:=by rw[IntKind.wrap_u8];omega
    obtain⟨Ho,aP⟩:=aH ho pb;have ic:=pb.size;clear ho pb hc hce hcc hab;have Hb:=hbz wr;obtain⟨ae,ai⟩:=qZ (Hp.an trivial);have p0:wr.cell? ⟨b,o+k,none⟩=some (af cc):=ae.1.out.cell 0 zm;have P0:=p0;obtain⟨W2,ke,aG,ae,ai⟩:=bO wr (Hb.an ae) 5 [.int .u8 cc];have hv:=ownsRow_below Ho.out ae.2.1.out;have hnews:=fM ae.1.out;have hs2:=ae.2.1.out.size;skip
    go_wp2_with (at_builtin;refine wpList_append_own_at _ rfl _ _ 59 rfl w.heap.size 5 i0 _ 1 1 Tryz.underlying59 Hi.out cu.out bV.out bX.out rfl zd v k (mJ (l.take k)) rfl hv ⟨wr.heap.size,0,none⟩ 1 1 [.int .u8 cc] rfl rfl hnews zy zx zo zo ?_;intro v' w3 AZ hg3 _ _;obtain⟨g',cq,rfl⟩:=ownsRow_succ AZ);rw[<-bN.out]at AZ;have Pn:=aj AZ;have dW:Hid (Bw w w3):=(aF aP.out ae.2.1.out).grown hg3 zo (λj e=>cE hv j e);clear AZ hg3 hv hnews P0;go_roundw;case rel=>exact⟨k+1,_,by omega,by go_num,rfl,Pn.out,dW.out⟩
    case measure=>exact bi
  . obtain rfl:k=n:=by omega
    rw[List.take_of_length_le (by rw[Hn.out];exact Nat.le_refl _)]at ho;obtain⟨g,cq,rfl,_⟩:=ui ho hn0;have hcv:=(as9 ho).back cq;rw[Hn.out]at hcv;have aP:=aj pb;clear pb ho;go_wp2;refine bodyPost_ret (v:=.tuple #[ah l,af 0]) (by simp[results,Tryz.results129,go_sem]) rfl ⟨rfl,aP.out⟩
def Ow (w:World)(base:Nat)(e:TypeId)(sz:Nat)(v:Value)(n:Nat)(xs:List Value):Prop:=w.ownsRow base e sz v n xs
def Ow.below {w w':World}{base sz n:Nat}{e:TypeId}{v:Value}{xs:List Value}(h:Ow w base e sz v n xs)(hb:Bw w w'):Ow w' base e sz v n xs:=ownsRow_below h hb
instance {w :World} {base sz n:Nat} {e:TypeId} {v:Value} {xs:List Value}:QTr (Ow w base e sz v n xs) w (λW=>Ow W base e sz v n xs):=⟨λh _ k=>Ow.below h k⟩
def jX (a b:List UInt8)(n k:Nat):List Nat:=(List.range n).map λi=>if i<k then(a.getD i 0).toNat+(b.getD i 0).toNat else(b.getD i 0).toNat
def kA (l:List Nat):List Value:=l.map λ(x:Nat)=>af (x:Int)
def ala (a b:List UInt8)(n:Nat)(hb:b.length=n):kA (jX a b n 0)=ju b:=by
 refine List.ext_getElem (by simp[kA,jX,ju,hb]) (λi h1 h2=>?_);have hi:i<b.length:=by simpa[ju]using h2
 simp[kA,jX,ju,hi]
def ak9 (a b:List UInt8)(n k:Nat):kA (jX a b n (k+1))=(kA (jX a b n k)).set k (af (((a.getD k 0).toNat+(b.getD k 0).toNat:Nat):Int)):=by
 refine List.ext_getElem (by simp[kA,jX]) (λi h1 h2=>?_);have hi:i<n:=by simpa[kA,jX]using h1
 rw[List.getElem_set];by_cases e:k=i
 . subst e;simp[kA,jX]
 . rw[if_neg e];simp only[kA,jX,List.getElem_map,List.getElem_range];by_cases h:i<k
   . rw[if_pos zo,if_pos h]
   . rw[if_neg zo,if_neg h]
def ak8 (a b:List UInt8)(n:Nat)(ha:a.length=n)(hb:b.length=n)(hs:∀i,i<n->(a.getD i 0).toNat+(b.getD i 0).toNat<=127):kA (jX a b n n)=ju (fX a b):=by
 refine List.ext_getElem (by simp[kA,jX,ju,fX,ha,hb]) (λi h1 h2=>?_);have hi:i<n:=by simpa[kA,jX]using h1
 simp only[kA,jX,ju,List.getElem_map,List.getElem_range,if_pos hi];rw[Qy a b i (by rw[CI a b n ha hb];exact hi) (by have:=hs i hi;omega)]
def arL (x y:Nat)(w:World)(hx:x<=255)(hy:y<=255)(Z:Int)(hZ:((x+y:Nat):Int)=Z):
 Cv 312 #[af (x:Int),af (y:Int)] w (af Z):=by
 have Hb:=hbz w;go_enter Tryz.func312,Tryz.ntmps312;have hwr:IntKind.i64.wrap ((x:Int)+(y:Int))=Z:=by rw[IntKind.wrap_i64];omega
 go_wp2;refine bodyPost_ret (results_tmp rfl _ _ _) rfl ⟨rfl,Hb.out⟩
def alb (a b:List UInt8)(n:Nat)(w:World)(fq:a.length=n)(hlb:b.length=n)(hn0:0<n)(hl:n<=1048576)(ha:∀c∈a,c.toNat<=127)(hb:∀c∈b,c.toNat<=127):
 Cl 311 #[ah a,ah b,.func (.func 312) #[] #[]] w λe w'=>∃v,e=.returned (.tuple #[v,ag true])/\w'.ownsRow w.heap.size 3 1 v n (kA (jX a b n n))/\Bw w w':=by
 have TR:=λW=>Rk a W zo ha;have Bl:=λW=>Rk b W zo hb;have Dz:=λW=>Ee a (n:Int) W zo;have hmb:=λW=>Ee b (n:Int) W zo;rw[show df a (n:Int)=true by unfold df;rw[fq];simp only[Bool.and_eq_true,List.all_eq_true,decide_eq_true_eq,and_true];exact ha]at Dz;rw[show df b (n:Int)=true by unfold df;rw[hlb];simp only[Bool.and_eq_true,List.all_eq_true,decide_eq_true_eq,and_true];exact hb]at hmb;have hsz:(bs a).size=n:=by rw[mR,fq]
 rw[fq]at TR;rw[hlb]at Bl;have h0:=ala a b n hlb;have hgb:∀k,k<n->∃y,(b.getD k 0).toNat=y/\y<=255:=λk hk=>⟨_,rfl,by have:=(b.getD k 0).toNat_lt;omega⟩;have hst:=ak9 a b n;have qj:∀k (h:k<a.length),a.getD k 0=a[k]:=λk h=>by simp[h]
 have hbk:∀k,k<n->(kA (jX a b n k))[k]?=some (af (((b.getD k 0).toNat:Nat):Int)):=λk hk=>by simp[kA,jX,hk]
 obtain⟨FD,FE,Pf,Hmb,H0,bN,sB,uw,Hla,sL⟩:=Bt TR Bl Dz hmb h0 hst qj hbk fq hsz;clear TR Bl Dz hmb ha hb hlb h0 hst qj hbk fq hgb;have Hb:=hbz w;go_enter Tryz.func311,Tryz.ntmps311;go_wp2_with fail;refine(FE.out _).mono ?_;rintro e w1 ⟨vb,rfl,fD,ak⟩;obtain⟨ae,ai⟩:=qX ak (Hb.an trivial);obtain⟨gb,cb,rfl,hg1,hg2,hg3⟩:=ui fD hn0;rw[<-H0.out]at fD;have HOB:Hid (Ow w1 w.heap.size 3 1 (.slice (some ⟨gb,0,none⟩) n cb) n (kA (jX a b n 0))):=fD;clear fD;go_wp2_with fail;refine aK (HOB.an ae) (Pf.out _) λw2 ae ai=>?_;go_wp2_with fail;refine aK ae (Hmb.out _) λw3 ae ai=>?_;have hgl:gb<w3.heap.size:=(vr ae.1.out).2;go_wp2_with fail;refine(FD.out _).mono ?_;rintro e w4 ⟨va,rfl,Ba,ak⟩;obtain⟨ae,ai⟩:=qX ak ae;have Cs:=aj Ba;clear Ba;obtain⟨aa,ca,rfl,_⟩:=cw Cs.out;go_wp2_with fail;go_loopw[28] (λx wr=>∃k:Nat,k<=n/\x=af (k:Int)/\wr.ownsRow w.heap.size 3 1 (.slice (some ⟨gb,0,none⟩) n cb) n (kA (jX a b n k))/\wr.ownsRow w3.heap.size 3 1 (.slice aa n ca) n (ju a)/\Bw w wr) (λx _=>n-(intOf x).toNat);case atStart=>exact⟨0,Nat.zero_le _,rfl,ae.1.out,Cs.out,ae.2.1.out⟩
 case round=>
  clear Cs;obtain⟨k,hk,rfl,ho,Ba,pb⟩:=hrel;by_cases hlt:k<n
  . have h1:k<a.length:=by rw[Hla.out];exact hlt
    obtain⟨a9,c9,e9,hat,_⟩:=cw Ba;simp only[Value.slice.injEq]at e9;obtain⟨rfl,_,rfl⟩:=e9;rw[<-Rj]at hat;obtain⟨b1,o1,hab,hce⟩:=hat.elem (f:=λc:UInt8=>[Value.int .i64 (c.toNat:Int)]) (sz:=1) (λ_=>rfl) zd k h1;have aX:=IX n ca k (k:Int) hab hlt rfl;have rH:=IX n cb k (k:Int) (rfl:(some ⟨gb,0,none⟩:Option Addr)=_) hlt rfl;rw[Nat.mul_one]at aX;rw[Nat.mul_one,Nat.zero_add]at rH;have hbk:=uw.out k hlt;have hst:=bN.out k;rw[sB.out k h1]at hst;obtain⟨x,hx⟩:∃x:Nat,(a[k]).toNat=x:=⟨_,rfl⟩;obtain⟨y,hy⟩:∃y:Nat,(b.getD k 0).toNat=y:=⟨_,rfl⟩;have hx2:x<=255:=by have:=(a[k]).toNat_lt;omega
    have hy2:y<=255:=by have:=(b.getD k 0).toNat_lt;omega
    obtain⟨Z,hZ⟩:∃Z:Int,((x+y:Nat):Int)=Z:=⟨_,rfl⟩;rw[hx,hy,hZ]at hst;rw[hy]at hbk;have q0:wr.cell? ⟨gb,k,none⟩=some (af (y:Int)):=by have:=ho.cells (g:=gb) rfl k _ hbk;rw[show(⟨gb,0,none⟩:Addr).add k=⟨gb,k,none⟩by simp[Addr.add];intro h;exact h.symm]at this;exact this
    have jv:=jT ho k;have p0:wr.cell? ⟨b1,o1+k,none⟩=some (af (x:Int)):=by have:=hce 0 zd;rw[Nat.mul_one]at this;simpa[hx]using this
    have ol:=λW=>arL x y W hx2 hy2 Z hZ;obtain⟨Ho,Cs,aP,Hs,Hm1⟩:=eD ho Ba pb hst ol;clear ho Ba pb hst ol hx hy hx2 hy2 hZ hbk hab hat hce;go_wp2_with fail;refine(Hm1.out _).mono ?_;rintro e w5 ⟨rfl,ak⟩;have q1:=cell_later ak q0;have kd:=aog ak q0 jv;have xL:Hid ((w5.setCell ⟨gb,k,none⟩ (af Z)).ownsRow w.heap.size 3 1 (.slice (some ⟨gb,0,none⟩) n cb) n (kA (jX a b n (k+1)))):=by rw[Hs.out];exact ja (ownsRow_below Ho.out ak) k _
    have Ha5:Hid ((w5.setCell ⟨gb,k,none⟩ (af Z)).ownsRow w3.heap.size 3 1 (.slice aa n ca) n (ju a)):=ownsRow_setCell_below (ownsRow_below Cs.out ak) hgl _;have eu:Hid (Bw w (w5.setCell ⟨gb,k,none⟩ (af Z))):=(aF aP.out ak).setCell hg1 _;clear q0 jv p0 ak Ho Cs aP;go_wp2;go_roundw;case rel=>exact⟨k+1,by omega,by go_num,xL.out,Ha5.out,eu.out⟩
    case measure=>exact bi
  . obtain rfl:k=n:=by omega
    obtain⟨Ho,aP⟩:=aH ho pb;clear ho Ba pb;go_wp2;refine bodyPost_ret (v:=.tuple #[.slice (some ⟨gb,0,none⟩) k cb,ag true]) (by simp[results,Tryz.results311,go_sem]) rfl ⟨_,rfl,Ho.out,aP.out⟩
def arM (a b:List UInt8)(n:Nat)(w:World)(fq:a.length=n)(hlb:b.length=n)(hn0:0<n)(hl:n<=1048576)(ha:∀c∈a,c.toNat<=127)(hb:∀c∈b,c.toNat<=127)(hs:∀i,i<n->(a.getD i 0).toNat+(b.getD i 0).toNat<=127):
 Cv 292 #[ah a,ah b] w (.tuple #[ah (fX a b),af 0]):=by
 have fT:=λW=>alb a b n W fq hlb hn0 hl ha hb;rw[ak8 a b n fq hlb hs]at fT;have hof:=λ(A:Option Addr) (c:Nat) (W:World) (h:At W A (ju (fX a b)))=>arN (fX a b) A c n W (CI a b n fq hlb) hn0 hl (YG a b n fq hlb hs) h;obtain⟨JV,nR⟩:=aH fT hof;clear fT hof ha hb hs fq hlb;have Hb:=hbz w;go_enter Tryz.func292,Tryz.ntmps292;go_wp2_with fail;refine(JV.out _).mono ?_;rintro e w1 ⟨v,rfl,ho,ak⟩;obtain⟨ae,ai⟩:=qX ak (Hb.an trivial);obtain⟨A,c,rfl,hat,_⟩:=cw ho;have dV:=aj hat;clear ho hat;go_wp2_with fail;refine aK ae (nR.out A c _ dV.out) λw2 ae ai=>?_;go_wp2;refine bodyPost_ret (v:=.tuple #[ah (fX a b),af 0]) (by simp[results,Tryz.results292,go_sem]) rfl ⟨rfl,ae.1.out⟩
def rW (ta tb:List Trm)(k j:Nat):List Trm:=fO (ta.take k) tb++(tb.take j).map λy=>(fX (ta.getD k zT).1 y.1,canon (dval (ta.getD k zT).2*dval y.2))
def af9 (ta tb:List Trm)(k:Nat):rW ta tb k 0=fO (ta.take k) tb:=by simp[rW]
def av4 (ta tb:List Trm)(k:Nat)(hk:k<ta.length):rW ta tb k tb.length=rW ta tb (k+1) 0:=by rw[af9];unfold rW fO;rw[List.take_succ_eq_append_getElem hk,List.flatMap_append,List.take_length];simp[hk]
def av5 (ta tb:List Trm)(k j:Nat)(hj:j<tb.length):(rW ta tb k (j+1)).flatMap aI=(rW ta tb k j).flatMap aI++aI (fX (ta.getD k zT).1 tb[j].1,canon (dval (ta.getD k zT).2*dval tb[j].2)):=by unfold rW;rw[List.take_succ_eq_append_getElem hj,List.map_append,<-List.append_assoc,List.flatMap_append (xs:=_++_)];simp
def atI (V B d e n n':Nat)(a a':Option Addr)(cap cap':Nat)(ta tb C:List Trm)(w:World)(hV:0<V)(hV2:V<=12)(hn:ta.length=n)(hn':tb.length=n')(AK:DegT V d ta)(yw:DegT V e tb)(hde:d+e<=127)(ll:∀t∈ta,Fit B t.2)(gU:∀t∈tb,Fit B t.2)(hl:n*n'<=4096)(gq:n<=4096)(hl2:n'<=4096)(hB:B<=100000000)(ha:At w a (ta.flatMap aI))(ha':At w a' (tb.flatMap aI))(hT:aB w)(hC:aU (fO ta tb)=C):
 Cl 270 #[.agg #[af (V:Int),.slice a n cap],.agg #[af (V:Int),.slice a' n' cap']] w λex w'=>∃a9 c9,ex=.returned (.tuple #[.agg #[af (V:Int),.slice a9 C.length c9],af 0])/\aW w' a9 c9 C/\Bw w w':=by
 obtain⟨i0,hi,hz0,hz1,hz2⟩:=info_parts Tryz.az3;have uY:∀t∈fO ta tb,Fit (2*B) t.2:=λt ht=>by have h:=Ut (λt h=>(ll t h).2) (λt h=>(gU t h).2) t ht;obtain⟨x,hx,y,hy,rfl⟩:=Us ht;rw[bu]at h;exact(h.mono zo).fit zo
 have hcl:=λ(v:Value) (W0 W:World) (hb0:Bw W0 W) (ho:W.ownsRow W0.heap.size 111 4 v (n*n') ((fO ta tb).flatMap aI)) (hT:aB W0)=>Lf (V:Int) v (n*n') (fO ta tb) C (2*B) W0 W hb0 (by rw[Nb,hn,hn']) hl ho uY zo hT hC;have hu0:=af9 ta tb;have hun:=λk (h:k<n)=>av4 ta tb k zo;have hus:=λk j (h:j<tb.length)=>av5 ta tb k j h;have htl:ta.take n=ta:=List.take_of_length_le zo;have qj:∀k (h:k<ta.length),ta.getD k zT=ta[k]:=λk h=>by simp[h]
 rw[hn']at hun;obtain⟨Hi,cu,bV,bX,fV,Yn,Hun,Hus,Ac,sB,Hn,zR⟩:=gL hi hz0 hz1 hz2 hcl hu0 hun hus htl qj hn hn';obtain⟨Hda,Hdb,vN,zM,Ha,uu⟩:=fZ AK yw ll gU ha ha';clear hi hz0 hz1 hz2 uY hcl hu0 hun hus htl qj hn hn' AK yw ll gU ha ha' hC;have hnm:¬(65536:Int)<IntKind.i64.wrap ((n:Int) * (n':Int)):=by
  have:((n:Int) * (n':Int))<=4096:=by exact_mod_cast hl
  have:0<=((n:Int) * (n':Int)):=by exact_mod_cast Nat.zero_le _
  rw[IntKind.wrap_i64];omega
 have Hb:=hbz w;go_enter Tryz.func270,Tryz.ntmps270;go_wp2_with fail;refine yZ w (Hb.an trivial) 41 [af (V:Int),.slice a n cap] 41 [af (V:Int),.slice a' n' cap'] 41 [af 0,.slice none 0 0] λW aG ae ai=>?_;have EG:Hid (aB W):=hT.below ae.2.2.2.1.out;obtain⟨Hp,Hq,Hr,Hb,_⟩:=ae;obtain⟨p0,p1⟩:=Hp.out.c2;obtain⟨q0,q1⟩:=Hq.out.c2;obtain⟨r0,aZ,r1,bf⟩:=Hr.out.g2;have Fl:=Hp;have XY:=Hq;have lN:=Hr;have dQ:=Hb;go_wp2_with fail;go_loopw[6,25] (λs6 x wr=>∃(k:Nat) (v:Value),k<=n/\x=af (k:Int)/\v=s6/\wr.ownsRow W.heap.size 111 4 v (k*n') ((fO (ta.take k) tb).flatMap aI)/\Bw W wr) (λ_ x _=>n-(intOf x).toNat);case atStart=>exact⟨0,_,Nat.zero_le _,rfl,rfl,by rw[Nat.zero_mul];exact World.ownsRow_nil _ _ _ _,Below.refl _ _⟩
 case round=>
  clear p0 p1 q0 q1 r0 aZ r1 bf Hp Hq Hr Hb;obtain⟨k,v,hk,rfl,rfl,ho,pb⟩:=hrel;obtain⟨wo,hwo⟩:∃wo,wo=wr:=⟨_,rfl⟩;subst hwo;obtain⟨Hp,Hq,Hr⟩:=bM (Fl.out.below pb) (XY.out.below pb) (lN.out.below pb);have dM:=aF dQ.out pb;have szw:=dQ.out.size;by_cases hlt:k<n
  . have hk2:k<ta.length:=by rw[Hn.out];exact hlt
    obtain⟨l,s,m,ex,hx⟩:∃l s m e,ta[k]=(l,s,m,e):=⟨_,_,_,_,rfl⟩;obtain⟨b,o,hab,bY⟩:=(Ha.out.below dM).term k hk2 hx;have aX:=gX n cap k (k:Int) hab hlt rfl;have mY:=sB.out k hk2;rw[hx]at mY;have dY:=vN.out _ (List.getElem_mem hk2);have tL:=Hda.out _ (List.getElem_mem hk2);rw[hx]at dY tL;rw[<-Yn.out]at ho;have ads:=Hun.out k hlt;have Ht:Hid (aQ wo b (o+k*4) [ah l,ag s,ah m,af ex]):=bY;obtain⟨Ho,aP,Cn,jd,Xk,ajM,fB⟩:=iX ho pb mY dY tL ads dM;have ic:=pb.size;clear ho pb mY dY tL ads hx hab bY dM;have Hb:=hbz wo;obtain⟨ae,ai⟩:=qZ (Hp.an<|Hq.an<|Ht.an trivial);obtain⟨W2,ke,aG,ae,ai⟩:=bO wo (Hb.an ae) 111 [ah l,ag s,ah m,af ex];go_wp2_with fail;have hs2:=ae.2.1.out.size;have abI:=aP.out.trans (ae.2.1.out.mono ic);obtain⟨pK,WZ⟩:=aH (ownsRow_below Ho.out ae.2.1.out) abI;have FB:Hid (∀g,v.ownBlock=some g->g≠wo.heap.size):=λg hg=>by have:=(Ho.out.lt g hg).2;omega
    clear abI Ho aP aX;go_loopw[6,32] (λs6 x wr=>∃(j:Nat) (v2:Value),j<=n'/\x=af (j:Int)/\v2=s6/\wr.ownsRow W.heap.size 111 4 v2 (k*n'+j) ((rW ta tb k j).flatMap aI)/\(∀g,v2.ownBlock=some g->g≠wo.heap.size)/\ar wr wo.heap.size 111 [ah l,ag s,ah m,af ex]/\Bw W wr) (λ_ x _=>n'-(intOf x).toNat);case atStart=>exact⟨0,v,Nat.zero_le _,rfl,rfl,pK.out,FB.out,ae.1.out,WZ.out⟩
    case round=>
     clear pK WZ FB;obtain⟨j,v2,hj,rfl,rfl,ho,TI,Bl,pb⟩:=hrel;have dM:=aF dQ.out pb;by_cases bB:j<n'
     . have jP:j<tb.length:=by rw[zR.out];exact bB
       obtain⟨l',s',m',CZ,hy⟩:∃l s m e,tb[j]=(l,s,m,e):=⟨_,_,_,_,rfl⟩;obtain⟨b',o',rF,wW⟩:=(uu.out.below dM).term j jP hy;have aco:=gX n' cap' j (j:Int) rF bB rfl;have jO:=zM.out _ (List.getElem_mem jP);have hdy:=Hdb.out _ (List.getElem_mem jP);have DR:=Hus.out k j jP;rw[Cn.out,hy]at DR;rw[hy]at jO hdy;obtain⟨D,hD⟩:=au (dval (s,m,ex) *dval (s',m',CZ));simp only at DR jO hdy;rw[hD]at DR;have l1:=(xe Xk.out.1);have l2:=(xe hdy.1);have hmm:=λW=>arM l l' V W l1.1 l2.1 hV zo l1.2 l2.2 (λi _=>by have:=zr l i;have:=zr l' i;have h8:gB l<=d:=Xk.out.2;have h9:gB l'<=e:=hdy.2;omega);obtain⟨L,hL⟩:=au (fX l l');rw[hL]at hmm DR;have Il:=λW c (h:ar W c 45 [ag s,ah m,af ex,ag s',ah m',af CZ]) (hT:aB W)=>Am s m ex s' m' CZ D B hD c 2 45 W jd.out jO zo h hT;have Ht:Hid (aQ wr b' (o'+j*4) [ah l',ag s',ah m',af CZ]):=wW;have Hx:Hid (ar wr wo.heap.size 111 [ah l,ag s,ah m,af ex]):=Bl;obtain⟨Ho,aP,bN,Hmm,Pi,FB,hTr⟩:=iX ho pb DR hmm Il TI (EG.out.below pb);have avx:=pb.size;clear ho pb DR hmm Il TI Bl wW rF jO hdy hD hL hy l1 l2 dM;have Hb:=hbz wr;obtain⟨ae,ai⟩:=qZ (Hx.an<|Ht.an trivial);have HFT:Hid (aB wr):=hTr.out;clear hTr;obtain⟨W3,Di,aG,ae,ai⟩:=bO wr (Hb.an<|HFT.an ae) 111 [ah l',ag s',ah m',af CZ];go_wp2_with fail;refine aK ae (Hmm.out _) λw4 ae ai=>?_;obtain⟨W5,wB,aG,ae,ai⟩:=bO w4 ae 45 [ag s,ah m,af ex,ag s',ah m',af CZ];go_wp2_with fail;refine aK ae (Pi.out _ _ ae.1.out ae.2.2.2.1.out) λw6 ae ai=>?_;obtain⟨W7,AB,aG,ae,ai⟩:=bO w6 ae 111 [ah L,ag (az (dN D)),ah (nt (dN D).natAbs),af (dE D)];have hv:=ownsRow_below Ho.out ae.2.2.2.1.out;have hnews:=fM ae.1.out;have hs7:=ae.2.2.2.1.out.size;have hlx:=ae.2.2.2.2.2.1.out.lt;have hkn:k*n'+j<4096:=by have h1:(k+1) *n'<=n*n':=Nat.mul_le_mul_right _ hlt;rw[Nat.succ_mul]at h1;omega
       go_wp2_with (at_builtin;refine wpList_append_own_at _ rfl _ _ 39 rfl W.heap.size 111 i0 _ 4 48 Tryz.underlying39 Hi.out cu.out bV.out bX.out rfl zd v2 (k*n'+j) ((rW ta tb k j).flatMap aI) rfl hv ⟨w6.heap.size,0,none⟩ 1 1 [ah L,ag (az (dN D)),ah (nt (dN D).natAbs),af (dE D)] rfl rfl hnews zy zx zo zo ?_;intro v' w8 dO bA _ acN);rw[show(rW ta tb k j).flatMap aI++[Value.string (bs L),ag (az (dN D)),ah (nt (dN D).natAbs),af (dE D)]=(rW ta tb k (j+1)).flatMap aI from bN.out.symm]at dO;have iJ:=aj dO;have jc:Hid (Bw W w8):=(aP.out.trans (ae.2.2.2.1.out.mono avx)).grown bA zo (λj e=>cE hv j e);have Hx8:Hid (ar w8 wo.heap.size 111 [ah l,ag s,ah m,af ex]):=ae.2.2.2.2.2.1.out.grown bA (λe=>FB.out _ e.symm rfl);have ajV:Hid (∀g,v'.ownBlock=some g->g≠wo.heap.size):=λg hg=>by
        rcases acN with h|h
        . exact FB.out g (h▸hg)
        . rw[h]at hg;have:=Option.some.inj hg;omega
       clear dO bA acN hv hnews;go_roundw;case rel=>exact⟨j+1,v',by omega,by go_num,rfl,iJ.out,ajV.out,Hx8.out,jc.out⟩
       case measure=>exact bi
     . obtain rfl:j=n':=by omega
       rw[ajM.out,Yn.out,show k*j+j=(k+1) *j from(Nat.succ_mul k j).symm]at ho;obtain⟨Ho,aP⟩:=aH ho pb;clear ho pb TI Bl dM;go_wp2;go_roundw;case rel=>exact⟨k+1,v2,by omega,by go_num,rfl,Ho.out,aP.out⟩
       case measure=>exact bi
  . obtain rfl:k=n:=by omega
    rw[Ac.out]at ho;have Hb:Hid (Bw w wo):=dM;have hcl:=fV.out v W wo pb ho EG.out;have Ka:=aj hcl;clear hcl ho pb dM;obtain⟨ae,ai⟩:=qZ (Hp.an<|Hr.an trivial);go_wp2_with fail;refine Ka.out.mono ?_;rintro e' w6 ⟨a9,d9,rfl,fC,ak⟩;obtain⟨Pz,PI,uv⟩:=bM (BL fC) (lN.out.below ak) (aF dQ.out ak);clear fC ak Hb;obtain⟨r0,aZ,r1,bf⟩:=PI.out.g2;go_wp2;have h9:=Pz.out.store PI.out zd (af (V:Int)) (.slice a9 C.length d9);refine dI (λw9=>aW w9 a9 d9 C/\ar w9 (w.heap.size+1+1) 41 [af (V:Int),.slice a9 C.length d9]/\Bw w w9) ⟨h9,(PI.out.set 0 _).set 1 _,(uv.out.setCell zp _).setCell zp _⟩ ?_;rintro w9 ⟨q1,q2,q3⟩;obtain⟨x0,x1⟩:=q2.c2;exact bodyPost_ret (v:=.tuple #[.agg #[af (V:Int),.slice a9 C.length d9],af 0]) (by simp[results,Tryz.results270,go_sem,x0,x1]) rfl ⟨_,_,rfl,q1,q3⟩
end Go.Proofs.YtpfgffadgkkedaaGreatDoor
