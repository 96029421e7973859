/- Package mono,on: Of,Mul. -/
import Derived.Test.YtpfgffadgkkedaaGreatDoorZ7
import Derived.Test.YtpfgffadgkkedaaGreatDoorZ18
import Derived.Test.YtpfgffadgkkedaaGreatDoorZ13
import Derived.Test.YtpfgffadgkkedaaGreatDoorZ14
import Derived.Test.YtpfgffadgkkedaaGreatDoorZ25
import Derived.Test.YtpfgffadgkkedaaGreatDoorZ15
set_option linter.all false
set_option maxRecDepth 100000
set_option maxHeartbeats 16000000
namespace Go.Proofs.YtpfgffadgkkedaaGreatDoor
open Go.RowKit
attribute [local go_sem ↓] Go.wp_at_zero Go.wp_at_succ
def Tryz.aBC :(Tryz.prog.info? 5).map (λi=>(i.zero,i.size,i.bytes))=some (some (.int .u8 0),1,1):=by kernel_rfl
def mU (l:List UInt8):List Value:=l.map λc=>.int .u8 (c.toNat:Int)
def aue {w:World}{base n cap g:Nat}{l:List UInt8}(h:w.ownsRow base 5 1 (.slice (some ⟨g,0,none⟩) n cap) n (mU l)):vw w g l:=λj hj=>by
 obtain⟨a,c,e,hat,_⟩:=cz h;simp only[Value.slice.injEq]at e;obtain⟨rfl,_,rfl⟩:=e;refine⟨?_,mP h j⟩;rcases hat with h0|⟨b,o,e,hc⟩
 . unfold mU at h0;rw[List.map_eq_nil_iff]at h0;subst h0;cases hj
 . simp only[Option.some.injEq,Addr.mk.injEq,and_true]at e;obtain⟨rfl,rfl⟩:=e;have:=hc j (by simpa[mU]using hj);rw[Nat.zero_add]at this;rw[this];unfold mU;rw[List.getElem?_map,List.getElem?_eq_getElem hj];rfl
def asS (l:List UInt8)(a:Option Addr)(cap n:Nat)(w:World)(hn:l.length=n)(hn0:0<n)(hl:n<=1048576)(hall:∀c∈l,c.toNat<=127)(ha:At w a (jr l)):
 Cv 129 #[.slice a n cap] w (.tuple #[ah l,af 0]):=by
 obtain⟨i0,hi,hz0,hz1,hz2⟩:=info_parts Tryz.aBC;rw[<-Rh]at ha;obtain⟨Hi,cm,bR,bZ,Hn,ij,Ha⟩:=jx hi hz0 hz1 hz2 hn hall ha;clear hi hz0 hz1 hz2 hn hall ha;have Hb:=hbz w;go_enter Tryz.func129,Tryz.ntmps129;go_wp2_with fail;go_loopw[4,9] (λs4 x wr=>∃(k:Nat) (v:Value),k<=n/\x=af (k:Int)/\v=s4/\wr.ownsRow w.heap.size 5 1 v k (mU (l.take k))/\Bw w wr) (λ_ x _=>n-(intOf x).toNat);case atStart=>exact⟨0,_,Nat.zero_le _,rfl,rfl,World.ownsRow_nil _ _ _ _,Hb.out⟩
 case round=>
  clear Hb;obtain⟨k,v,hk,rfl,rfl,ho,pb⟩:=hrel;by_cases hlt:k<n
  . have h1:k<l.length:=by rw[Hn.out];exact hlt
    have hc:=ij.out _ (List.getElem_mem h1);obtain⟨b,o,hab,hce⟩:=(Ha.out.below pb).elem (f:=λc:UInt8=>[Value.int .i64 (c.toNat:Int)]) (sz:=1) (λ_=>rfl) zd k h1;have aU:=ID n cap k (k:Int) hab hlt rfl;rw[Nat.mul_one]at aU;obtain⟨cc,hcc⟩:∃cc:Int,((l[k]).toNat:Int)=cc:=⟨_,rfl⟩;have Hp:Hid (aQ wr b (o+k) [af cc]):=λj hj=>by
     obtain rfl:j=0:=by simp at hj;omega
     have:=hce 0 zd;rw[Nat.mul_one]at this;simpa[hcc]using this
    have bK:Hid (mU (l.take (k+1))=mU (l.take k)++[.int .u8 cc]):=by
     show _=_
     unfold mU;rw[List.take_succ_eq_append_getElem h1,List.map_append,<-hcc];rfl
    have h0:¬cc<0:=by omega
    have ayV:¬127<cc:=by omega
    have rF:IntKind.u8.wrap cc=cc:=by rw[IntKind.wrap_u8];omega
    obtain⟨Ho,aP⟩:=aI ho pb;have ie:=pb.size;clear ho pb hc hce hcc hab;have Hb:=hbz wr;obtain⟨ae,ai⟩:=qZ (Hp.an trivial);have p0:wr.cell? ⟨b,o+k,none⟩=some (af cc):=ae.1.out.cell 0 zm;have P0:=p0;obtain⟨W2,ng,aG,ae,ai⟩:=bO wr (Hb.an ae) 5 [.int .u8 cc];have hv:=ownsRow_below Ho.out ae.2.1.out;have hnews:=fN ae.1.out;have hs2:=ae.2.1.out.size;skip
    go_wp2_with (at_builtin;refine wpList_append_own_at _ rfl _ _ 59 rfl w.heap.size 5 i0 _ 1 1 Tryz.underlying59 Hi.out cm.out bR.out bZ.out rfl zd v k (mU (l.take k)) rfl hv ⟨wr.heap.size,0,none⟩ 1 1 [.int .u8 cc] rfl rfl hnews zy zx zo zo ?_;intro v' w3 AZ hg3 _ _;obtain⟨g',cq,rfl⟩:=ownsRow_succ AZ);rw[<-bK.out]at AZ;have Pk:=aj AZ;have ez:Hid (Bw w w3):=(aC aP.out ae.2.1.out).grown hg3 zo (λj e=>cK hv j e);clear AZ hg3 hv hnews P0;go_roundw;case rel=>exact⟨k+1,_,by omega,by go_num,rfl,Pk.out,ez.out⟩
    case measure=>exact bf
  . obtain rfl:k=n:=by omega
    rw[List.take_of_length_le (by rw[Hn.out];exact Nat.le_refl _)]at ho;obtain⟨g,cq,rfl,_⟩:=rO ho hn0;have hcv:=(aue ho).back cq;rw[Hn.out]at hcv;have aP:=aj pb;clear pb ho;go_wp2;refine bodyPost_ret (v:=.tuple #[ah l,af 0]) (by simp[results,Tryz.results129,go_sem]) rfl ⟨rfl,aP.out⟩
def Ow (w:World)(base:Nat)(e:TypeId)(sz:Nat)(v:Value)(n:Nat)(xs:List Value):Prop:=w.ownsRow base e sz v n xs
def Ow.below {w w':World}{base sz n:Nat}{e:TypeId}{v:Value}{xs:List Value}(h:Ow w base e sz v n xs)(hb:Bw w w'):Ow w' base e sz v n xs:=ownsRow_below h hb
instance {w :World} {base sz n:Nat} {e:TypeId} {v:Value} {xs:List Value}:QTr (Ow w base e sz v n xs) w (λW=>Ow W base e sz v n xs):=⟨λh _ k=>Ow.below h k⟩
def jX (a b:List UInt8)(n k:Nat):List Nat:=(List.range n).map λi=>if i<k then(a.getD i 0).toNat+(b.getD i 0).toNat else(b.getD i 0).toNat
def kx (l:List Nat):List Value:=l.map λ(x:Nat)=>af (x:Int)
def al8 (a b:List UInt8)(n:Nat)(hb:b.length=n):kx (jX a b n 0)=jr b:=by
 refine List.ext_getElem (by simp[kx,jX,jr,hb]) (λi h1 h2=>?_);have hi:i<b.length:=by simpa[jr]using h2
 simp[kx,jX,jr,hi]
def al7 (a b:List UInt8)(n k:Nat):kx (jX a b n (k+1))=(kx (jX a b n k)).set k (af (((a.getD k 0).toNat+(b.getD k 0).toNat:Nat):Int)):=by
 refine List.ext_getElem (by simp[kx,jX]) (λi h1 h2=>?_);have hi:i<n:=by simpa[kx,jX]using h1
 rw[List.getElem_set];by_cases e:k=i
 . subst e;simp[kx,jX]
 . rw[if_neg e];simp only[kx,jX,List.getElem_map,List.getElem_range];by_cases h:i<k
   . rw[if_pos zo,if_pos h]
   . rw[if_neg zo,if_neg h]
def al6 (a b:List UInt8)(n:Nat)(ha:a.length=n)(hb:b.length=n)(hs:∀i,i<n->(a.getD i 0).toNat+(b.getD i 0).toNat<=127):kx (jX a b n n)=jr (fX a b):=by
 refine List.ext_getElem (by simp[kx,jX,jr,fX,ha,hb]) (λi h1 h2=>?_);have hi:i<n:=by simpa[kx,jX]using h1
 simp only[kx,jX,jr,List.getElem_map,List.getElem_range,if_pos hi];rw[Qu a b i (by rw[CJ a b n ha hb];exact hi) (by have:=hs i hi;omega)]
def asQ (x y:Nat)(w:World)(hx:x<=255)(hy:y<=255)(Z:Int)(hZ:((x+y:Nat):Int)=Z):
 Cv 312 #[af (x:Int),af (y:Int)] w (af Z):=by
 have Hb:=hbz w;go_enter Tryz.func312,Tryz.ntmps312;have hwr:IntKind.i64.wrap ((x:Int)+(y:Int))=Z:=by rw[IntKind.wrap_i64];omega
 go_wp2;refine bodyPost_ret (results_tmp rfl _ _ _) rfl ⟨rfl,Hb.out⟩
def al9 (a b:List UInt8)(n:Nat)(w:World)(fq:a.length=n)(hlb:b.length=n)(hn0:0<n)(hl:n<=1048576)(ha:∀c∈a,c.toNat<=127)(hb:∀c∈b,c.toNat<=127):
 Cl 311 #[ah a,ah b,.func (.func 312) #[] #[]] w λe w'=>∃v,e=.returned (.tuple #[v,ag true])/\w'.ownsRow w.heap.size 3 1 v n (kx (jX a b n n))/\Bw w w':=by
 have TU:=λW=>Ri a W zo ha;have Bh:=λW=>Ri b W zo hb;have DJ:=λW=>Ei a (n:Int) W zo;have hmb:=λW=>Ei b (n:Int) W zo;rw[show cJ a (n:Int)=true by unfold cJ;rw[fq];simp only[Bool.and_eq_true,List.all_eq_true,decide_eq_true_eq,and_true];exact ha]at DJ;rw[show cJ b (n:Int)=true by unfold cJ;rw[hlb];simp only[Bool.and_eq_true,List.all_eq_true,decide_eq_true_eq,and_true];exact hb]at hmb;have hsz:(bs a).size=n:=by rw[kP,fq]
 rw[fq]at TU;rw[hlb]at Bh;have h0:=al8 a b n hlb;have hgb:∀k,k<n->∃y,(b.getD k 0).toNat=y/\y<=255:=λk hk=>⟨_,rfl,by have:=(b.getD k 0).toNat_lt;omega⟩;have hst:=al7 a b n;have qo:∀k (h:k<a.length),a.getD k 0=a[k]:=λk h=>by simp[h]
 have hbk:∀k,k<n->(kx (jX a b n k))[k]?=some (af (((b.getD k 0).toNat:Nat):Int)):=λk hk=>by simp[kx,jX,hk]
 obtain⟨FA,FB,Pf,Hmb,H0,bK,sk,zG,Hla,sJ⟩:=Bl TU Bh DJ hmb h0 hst qo hbk fq hsz;clear TU Bh DJ hmb ha hb hlb h0 hst qo hbk fq hgb;have Hb:=hbz w;go_enter Tryz.func311,Tryz.ntmps311;go_wp2_with fail;refine(FB.out _).mono ?_;rintro e w1 ⟨vb,rfl,fI,ak⟩;obtain⟨ae,ai⟩:=qX ak (Hb.an trivial);obtain⟨gb,cb,rfl,hg1,hg2,hg3⟩:=rO fI hn0;rw[<-H0.out]at fI;have HOB:Hid (Ow w1 w.heap.size 3 1 (.slice (some ⟨gb,0,none⟩) n cb) n (kx (jX a b n 0))):=fI;clear fI;go_wp2_with fail;refine aK (HOB.an ae) (Pf.out _) λw2 ae ai=>?_;go_wp2_with fail;refine aK ae (Hmb.out _) λw3 ae ai=>?_;have hgl:gb<w3.heap.size:=(xe ae.1.out).2;go_wp2_with fail;refine(FA.out _).mono ?_;rintro e w4 ⟨va,rfl,Ba,ak⟩;obtain⟨ae,ai⟩:=qX ak ae;have Cs:=aj Ba;clear Ba;obtain⟨aa,ca,rfl,_⟩:=cz Cs.out;go_wp2_with fail;go_loopw[28] (λx wr=>∃k:Nat,k<=n/\x=af (k:Int)/\wr.ownsRow w.heap.size 3 1 (.slice (some ⟨gb,0,none⟩) n cb) n (kx (jX a b n k))/\wr.ownsRow w3.heap.size 3 1 (.slice aa n ca) n (jr a)/\Bw w wr) (λx _=>n-(intOf x).toNat);case atStart=>exact⟨0,Nat.zero_le _,rfl,ae.1.out,Cs.out,ae.2.1.out⟩
 case round=>
  clear Cs;obtain⟨k,hk,rfl,ho,Ba,pb⟩:=hrel;by_cases hlt:k<n
  . have h1:k<a.length:=by rw[Hla.out];exact hlt
    obtain⟨a9,c9,e9,hat,_⟩:=cz Ba;simp only[Value.slice.injEq]at e9;obtain⟨rfl,_,rfl⟩:=e9;rw[<-Rh]at hat;obtain⟨b1,o1,hab,hce⟩:=hat.elem (f:=λc:UInt8=>[Value.int .i64 (c.toNat:Int)]) (sz:=1) (λ_=>rfl) zd k h1;have aU:=ID n ca k (k:Int) hab hlt rfl;have tO:=ID n cb k (k:Int) (rfl:(some ⟨gb,0,none⟩:Option Addr)=_) hlt rfl;rw[Nat.mul_one]at aU;rw[Nat.mul_one,Nat.zero_add]at tO;have hbk:=zG.out k hlt;have hst:=bK.out k;rw[sk.out k h1]at hst;obtain⟨x,hx⟩:∃x:Nat,(a[k]).toNat=x:=⟨_,rfl⟩;obtain⟨y,hy⟩:∃y:Nat,(b.getD k 0).toNat=y:=⟨_,rfl⟩;have hx2:x<=255:=by have:=(a[k]).toNat_lt;omega
    have hy2:y<=255:=by have:=(b.getD k 0).toNat_lt;omega
    obtain⟨Z,hZ⟩:∃Z:Int,((x+y:Nat):Int)=Z:=⟨_,rfl⟩;rw[hx,hy,hZ]at hst;rw[hy]at hbk;have q0:wr.cell? ⟨gb,k,none⟩=some (af (y:Int)):=by have:=ho.cells (g:=gb) rfl k _ hbk;rw[show(⟨gb,0,none⟩:Addr).add k=⟨gb,k,none⟩by simp[Addr.add];intro h;exact h.symm]at this;exact this
    have js:=mP ho k;have p0:wr.cell? ⟨b1,o1+k,none⟩=some (af (x:Int)):=by have:=hce 0 zd;rw[Nat.mul_one]at this;simpa[hx]using this
    have ny:=λW=>asQ x y W hx2 hy2 Z hZ;obtain⟨Ho,Cs,aP,Hs,Hm1⟩:=dY ho Ba pb hst ny;clear ho Ba pb hst ny hx hy hx2 hy2 hZ hbk hab hat hce;go_wp2_with fail;refine(Hm1.out _).mono ?_;rintro e w5 ⟨rfl,ak⟩;have q1:=cell_later ak q0;have kd:=ape ak q0 js;have xB:Hid ((w5.setCell ⟨gb,k,none⟩ (af Z)).ownsRow w.heap.size 3 1 (.slice (some ⟨gb,0,none⟩) n cb) n (kx (jX a b n (k+1)))):=by rw[Hs.out];exact jS (ownsRow_below Ho.out ak) k _
    have Ha5:Hid ((w5.setCell ⟨gb,k,none⟩ (af Z)).ownsRow w3.heap.size 3 1 (.slice aa n ca) n (jr a)):=ownsRow_setCell_below (ownsRow_below Cs.out ak) hgl _;have fL:Hid (Bw w (w5.setCell ⟨gb,k,none⟩ (af Z))):=(aC aP.out ak).setCell hg1 _;clear q0 js p0 ak Ho Cs aP;go_wp2;go_roundw;case rel=>exact⟨k+1,by omega,by go_num,xB.out,Ha5.out,fL.out⟩
    case measure=>exact bf
  . obtain rfl:k=n:=by omega
    obtain⟨Ho,aP⟩:=aI ho pb;clear ho Ba pb;go_wp2;refine bodyPost_ret (v:=.tuple #[.slice (some ⟨gb,0,none⟩) k cb,ag true]) (by simp[results,Tryz.results311,go_sem]) rfl ⟨_,rfl,Ho.out,aP.out⟩
def asR (a b:List UInt8)(n:Nat)(w:World)(fq:a.length=n)(hlb:b.length=n)(hn0:0<n)(hl:n<=1048576)(ha:∀c∈a,c.toNat<=127)(hb:∀c∈b,c.toNat<=127)(hs:∀i,i<n->(a.getD i 0).toNat+(b.getD i 0).toNat<=127):
 Cv 292 #[ah a,ah b] w (.tuple #[ah (fX a b),af 0]):=by
 have fS:=λW=>al9 a b n W fq hlb hn0 hl ha hb;rw[al6 a b n fq hlb hs]at fS;have hof:=λ(A:Option Addr) (c:Nat) (W:World) (h:At W A (jr (fX a b)))=>asS (fX a b) A c n W (CJ a b n fq hlb) hn0 hl (YJ a b n fq hlb hs) h;obtain⟨JM,nX⟩:=aI fS hof;clear fS hof ha hb hs fq hlb;have Hb:=hbz w;go_enter Tryz.func292,Tryz.ntmps292;go_wp2_with fail;refine(JM.out _).mono ?_;rintro e w1 ⟨v,rfl,ho,ak⟩;obtain⟨ae,ai⟩:=qX ak (Hb.an trivial);obtain⟨A,c,rfl,hat,_⟩:=cz ho;have eu:=aj hat;clear ho hat;go_wp2_with fail;refine aK ae (nX.out A c _ eu.out) λw2 ae ai=>?_;go_wp2;refine bodyPost_ret (v:=.tuple #[ah (fX a b),af 0]) (by simp[results,Tryz.results292,go_sem]) rfl ⟨rfl,ae.1.out⟩
def rS (ta tb:List Trm)(k j:Nat):List Trm:=fQ (ta.take k) tb++(tb.take j).map λy=>(fX (ta.getD k zT).1 y.1,canon (dval (ta.getD k zT).2*dval y.2))
def agE (ta tb:List Trm)(k:Nat):rS ta tb k 0=fQ (ta.take k) tb:=by simp[rS]
def aw5 (ta tb:List Trm)(k:Nat)(hk:k<ta.length):rS ta tb k tb.length=rS ta tb (k+1) 0:=by rw[agE];unfold rS fQ;rw[List.take_succ_eq_append_getElem hk,List.flatMap_append,List.take_length];simp[hk]
def aw6 (ta tb:List Trm)(k j:Nat)(hj:j<tb.length):(rS ta tb k (j+1)).flatMap aH=(rS ta tb k j).flatMap aH++aH (fX (ta.getD k zT).1 tb[j].1,canon (dval (ta.getD k zT).2*dval tb[j].2)):=by unfold rS;rw[List.take_succ_eq_append_getElem hj,List.map_append,<-List.append_assoc,List.flatMap_append (xs:=_++_)];simp
def auO (V B d e n n':Nat)(a a':Option Addr)(cap cap':Nat)(ta tb C:List Trm)(w:World)(hV:0<V)(hV2:V<=12)(hn:ta.length=n)(hn':tb.length=n')(AH:DegT V d ta)(yh:DegT V e tb)(hde:d+e<=127)(lf:∀t∈ta,Fit B t.2)(gX:∀t∈tb,Fit B t.2)(hl:n*n'<=4096)(gJ:n<=4096)(hl2:n'<=4096)(hB:B<=100000000)(ha:At w a (ta.flatMap aH))(ha':At w a' (tb.flatMap aH))(hT:aB w)(hC:aS (fQ ta tb)=C):
 Cl 270 #[.agg #[af (V:Int),.slice a n cap],.agg #[af (V:Int),.slice a' n' cap']] w λex w'=>∃a9 c9,ex=.returned (.tuple #[.agg #[af (V:Int),.slice a9 C.length c9],af 0])/\aW w' a9 c9 C/\Bw w w':=by
 obtain⟨i0,hi,hz0,hz1,hz2⟩:=info_parts Tryz.aBh;have nz:∀t∈fQ ta tb,Fit (2*B) t.2:=λt ht=>by have h:=Uu (λt h=>(lf t h).2) (λt h=>(gX t h).2) t ht;obtain⟨x,hx,y,hy,rfl⟩:=Ut ht;rw[bA]at h;exact(h.mono zo).fit zo
 have hcl:=λ(v:Value) (W0 W:World) (hb0:Bw W0 W) (ho:W.ownsRow W0.heap.size 111 4 v (n*n') ((fQ ta tb).flatMap aH)) (hT:aB W0)=>KY (V:Int) v (n*n') (fQ ta tb) C (2*B) W0 W hb0 (by rw[Nc,hn,hn']) hl ho nz zo hT hC;have hu0:=agE ta tb;have hun:=λk (h:k<n)=>aw5 ta tb k zo;have hus:=λk j (h:j<tb.length)=>aw6 ta tb k j h;have htl:ta.take n=ta:=List.take_of_length_le zo;have qo:∀k (h:k<ta.length),ta.getD k zT=ta[k]:=λk h=>by simp[h]
 rw[hn']at hun;obtain⟨Hi,cm,bR,bZ,fV,Ym,Hun,Hus,Fu,sk,Hn,zS⟩:=gL hi hz0 hz1 hz2 hcl hu0 hun hus htl qo hn hn';obtain⟨Hda,Hdb,vG,zM,Ha,uu⟩:=gM AH yh lf gX ha ha';clear hi hz0 hz1 hz2 nz hcl hu0 hun hus htl qo hn hn' AH yh lf gX ha ha' hC;have hnm:¬(65536:Int)<IntKind.i64.wrap ((n:Int) * (n':Int)):=by
  have:((n:Int) * (n':Int))<=4096:=by exact_mod_cast hl
  have:0<=((n:Int) * (n':Int)):=by exact_mod_cast Nat.zero_le _
  rw[IntKind.wrap_i64];omega
 have Hb:=hbz w;go_enter Tryz.func270,Tryz.ntmps270;go_wp2_with fail;refine BL w (Hb.an trivial) 41 [af (V:Int),.slice a n cap] 41 [af (V:Int),.slice a' n' cap'] 41 [af 0,.slice none 0 0] λW aG ae ai=>?_;have rV:Hid (aB W):=hT.below ae.2.2.2.1.out;obtain⟨Hp,Hq,Hr,Hb,_⟩:=ae;obtain⟨p0,p1⟩:=Hp.out.c2;obtain⟨q0,q1⟩:=Hq.out.c2;obtain⟨r0,aX,r1,aY⟩:=Hr.out.g2;have Fi:=Hp;have XX:=Hq;have lS:=Hr;have eU:=Hb;go_wp2_with fail;go_loopw[6,25] (λs6 x wr=>∃(k:Nat) (v:Value),k<=n/\x=af (k:Int)/\v=s6/\wr.ownsRow W.heap.size 111 4 v (k*n') ((fQ (ta.take k) tb).flatMap aH)/\Bw W wr) (λ_ x _=>n-(intOf x).toNat);case atStart=>exact⟨0,_,Nat.zero_le _,rfl,rfl,by rw[Nat.zero_mul];exact World.ownsRow_nil _ _ _ _,Below.refl _ _⟩
 case round=>
  clear p0 p1 q0 q1 r0 aX r1 aY Hp Hq Hr Hb;obtain⟨k,v,hk,rfl,rfl,ho,pb⟩:=hrel;obtain⟨wo,hwo⟩:∃wo,wo=wr:=⟨_,rfl⟩;subst hwo;obtain⟨Hp,Hq,Hr⟩:=bL (Fi.out.below pb) (XX.out.below pb) (lS.out.below pb);have dO:=aC eU.out pb;have szw:=eU.out.size;by_cases hlt:k<n
  . have hk2:k<ta.length:=by rw[Hn.out];exact hlt
    obtain⟨l,s,m,ex,hx⟩:∃l s m e,ta[k]=(l,s,m,e):=⟨_,_,_,_,rfl⟩;obtain⟨b,o,hab,bW⟩:=(Ha.out.below dO).term k hk2 hx;have aU:=gK n cap k (k:Int) hab hlt rfl;have mD:=sk.out k hk2;rw[hx]at mD;have dz:=vG.out _ (List.getElem_mem hk2);have tL:=Hda.out _ (List.getElem_mem hk2);rw[hx]at dz tL;rw[<-Ym.out]at ho;have adL:=Hun.out k hlt;have Ht:Hid (aQ wo b (o+k*4) [ah l,ag s,ah m,af ex]):=bW;obtain⟨Ho,aP,Cn,iU,Xg,akE,eW⟩:=jx ho pb mD dz tL adL dO;have ie:=pb.size;clear ho pb mD dz tL adL hx hab bW dO;have Hb:=hbz wo;obtain⟨ae,ai⟩:=qZ (Hp.an<|Hq.an<|Ht.an trivial);obtain⟨W2,ng,aG,ae,ai⟩:=bO wo (Hb.an ae) 111 [ah l,ag s,ah m,af ex];go_wp2_with fail;have hs2:=ae.2.1.out.size;have abQ:=aP.out.trans (ae.2.1.out.mono ie);obtain⟨pS,WU⟩:=aI (ownsRow_below Ho.out ae.2.1.out) abQ;have Fy:Hid (∀g,v.ownBlock=some g->g≠wo.heap.size):=λg hg=>by have:=(Ho.out.lt g hg).2;omega
    clear abQ Ho aP aU;go_loopw[6,32] (λs6 x wr=>∃(j:Nat) (v2:Value),j<=n'/\x=af (j:Int)/\v2=s6/\wr.ownsRow W.heap.size 111 4 v2 (k*n'+j) ((rS ta tb k j).flatMap aH)/\(∀g,v2.ownBlock=some g->g≠wo.heap.size)/\ar wr wo.heap.size 111 [ah l,ag s,ah m,af ex]/\Bw W wr) (λ_ x _=>n'-(intOf x).toNat);case atStart=>exact⟨0,v,Nat.zero_le _,rfl,rfl,pS.out,Fy.out,ae.1.out,WU.out⟩
    case round=>
     clear pS WU Fy;obtain⟨j,v2,hj,rfl,rfl,ho,TJ,Bh,pb⟩:=hrel;have dO:=aC eU.out pb;by_cases bB:j<n'
     . have iG:j<tb.length:=by rw[zS.out];exact bB
       obtain⟨l',s',m',CZ,hy⟩:∃l s m e,tb[j]=(l,s,m,e):=⟨_,_,_,_,rfl⟩;obtain⟨b',o',rD,wM⟩:=(uu.out.below dO).term j iG hy;have acG:=gK n' cap' j (j:Int) rD bB rfl;have jP:=zM.out _ (List.getElem_mem iG);have hdy:=Hdb.out _ (List.getElem_mem iG);have DY:=Hus.out k j iG;rw[Cn.out,hy]at DY;rw[hy]at jP hdy;obtain⟨D,hD⟩:=az (dval (s,m,ex) *dval (s',m',CZ));simp only at DY jP hdy;rw[hD]at DY;have l1:=(wU Xg.out.1);have l2:=(wU hdy.1);have hmm:=λW=>asR l l' V W l1.1 l2.1 hV zo l1.2 l2.2 (λi _=>by have:=zn l i;have:=zn l' i;have h8:gA l<=d:=Xg.out.2;have h9:gA l'<=e:=hdy.2;omega);obtain⟨L,hL⟩:=az (fX l l');rw[hL]at hmm DY;have tT:=λW c (h:ar W c 45 [ag s,ah m,af ex,ag s',ah m',af CZ]) (hT:aB W)=>xR s m ex s' m' CZ D B hD c 2 45 W iU.out jP zo h hT;have Ht:Hid (aQ wr b' (o'+j*4) [ah l',ag s',ah m',af CZ]):=wM;have Hx:Hid (ar wr wo.heap.size 111 [ah l,ag s,ah m,af ex]):=Bh;obtain⟨Ho,aP,bK,Hmm,zR,Fy,hTr⟩:=jx ho pb DY hmm tT TJ (rV.out.below pb);have awy:=pb.size;clear ho pb DY hmm tT TJ Bh wM rD jP hdy hD hL hy l1 l2 dO;have Hb:=hbz wr;obtain⟨ae,ai⟩:=qZ (Hx.an<|Ht.an trivial);have HFT:Hid (aB wr):=hTr.out;clear hTr;obtain⟨W3,Dl,aG,ae,ai⟩:=bO wr (Hb.an<|HFT.an ae) 111 [ah l',ag s',ah m',af CZ];go_wp2_with fail;refine aK ae (Hmm.out _) λw4 ae ai=>?_;obtain⟨W5,wm,aG,ae,ai⟩:=bO w4 ae 45 [ag s,ah m,af ex,ag s',ah m',af CZ];go_wp2_with fail;refine aK ae (zR.out _ _ ae.1.out ae.2.2.2.1.out) λw6 ae ai=>?_;obtain⟨W7,Ay,aG,ae,ai⟩:=bO w6 ae 111 [ah L,ag (au (dN D)),ah (nt (dN D).natAbs),af (dE D)];have hv:=ownsRow_below Ho.out ae.2.2.2.1.out;have hnews:=fN ae.1.out;have hs7:=ae.2.2.2.1.out.size;have hlx:=ae.2.2.2.2.2.1.out.lt;have hkn:k*n'+j<4096:=by have h1:(k+1) *n'<=n*n':=Nat.mul_le_mul_right _ hlt;rw[Nat.succ_mul]at h1;omega
       go_wp2_with (at_builtin;refine wpList_append_own_at _ rfl _ _ 39 rfl W.heap.size 111 i0 _ 4 48 Tryz.underlying39 Hi.out cm.out bR.out bZ.out rfl zd v2 (k*n'+j) ((rS ta tb k j).flatMap aH) rfl hv ⟨w6.heap.size,0,none⟩ 1 1 [ah L,ag (au (dN D)),ah (nt (dN D).natAbs),af (dE D)] rfl rfl hnews zy zx zo zo ?_;intro v' w8 dX bj _ MA);rw[show(rS ta tb k j).flatMap aH++[Value.string (bs L),ag (au (dN D)),ah (nt (dN D).natAbs),af (dE D)]=(rS ta tb k (j+1)).flatMap aH from bK.out.symm]at dX;have jo:=aj dX;have gS:Hid (Bw W w8):=(aP.out.trans (ae.2.2.2.1.out.mono awy)).grown bj zo (λj e=>cK hv j e);have Hx8:Hid (ar w8 wo.heap.size 111 [ah l,ag s,ah m,af ex]):=ae.2.2.2.2.2.1.out.grown bj (λe=>Fy.out _ e.symm rfl);have akN:Hid (∀g,v'.ownBlock=some g->g≠wo.heap.size):=λg hg=>by
        rcases MA with h|h
        . exact Fy.out g (h▸hg)
        . rw[h]at hg;have:=Option.some.inj hg;omega
       clear dX bj MA hv hnews;go_roundw;case rel=>exact⟨j+1,v',by omega,by go_num,rfl,jo.out,akN.out,Hx8.out,gS.out⟩
       case measure=>exact bf
     . obtain rfl:j=n':=by omega
       rw[akE.out,Ym.out,show k*j+j=(k+1) *j from(Nat.succ_mul k j).symm]at ho;obtain⟨Ho,aP⟩:=aI ho pb;clear ho pb TJ Bh dO;go_wp2;go_roundw;case rel=>exact⟨k+1,v2,by omega,by go_num,rfl,Ho.out,aP.out⟩
       case measure=>exact bf
  . obtain rfl:k=n:=by omega
    rw[Fu.out]at ho;have Hb:Hid (Bw w wo):=dO;have hcl:=fV.out v W wo pb ho rV.out;have JS:=aj hcl;clear hcl ho pb dO;obtain⟨ae,ai⟩:=qZ (Hp.an<|Hr.an trivial);go_wp2_with fail;refine JS.out.mono ?_;rintro e' w6 ⟨a9,d9,rfl,eZ,ak⟩;obtain⟨Fh,Pz,uv⟩:=bL (BG eZ) (lS.out.below ak) (aC eU.out ak);clear eZ ak Hb;obtain⟨r0,aX,r1,aY⟩:=Pz.out.g2;go_wp2;have h9:=Fh.out.store Pz.out zd (af (V:Int)) (.slice a9 C.length d9);refine dG (λw9=>aW w9 a9 d9 C/\ar w9 (w.heap.size+1+1) 41 [af (V:Int),.slice a9 C.length d9]/\Bw w w9) ⟨h9,(Pz.out.set 0 _).set 1 _,(uv.out.setCell zp _).setCell zp _⟩ ?_;rintro w9 ⟨q1,q2,q3⟩;obtain⟨x0,x1⟩:=q2.c2;exact bodyPost_ret (v:=.tuple #[.agg #[af (V:Int),.slice a9 C.length d9],af 0]) (by simp[results,Tryz.results270,go_sem,x0,x1]) rfl ⟨_,_,rfl,q1,q3⟩
end Go.Proofs.YtpfgffadgkkedaaGreatDoor
