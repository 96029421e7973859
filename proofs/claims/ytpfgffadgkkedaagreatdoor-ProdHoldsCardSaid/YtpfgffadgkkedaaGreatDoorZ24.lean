/- Package mono,on: Of,Mul. -/
import Derived.Test.YtpfgffadgkkedaaGreatDoorZ7
import Derived.Test.YtpfgffadgkkedaaGreatDoorZ22
import Derived.Test.YtpfgffadgkkedaaGreatDoorZ13
import Derived.Test.YtpfgffadgkkedaaGreatDoorZ14
import Derived.Test.YtpfgffadgkkedaaGreatDoorZ23
import Derived.Test.YtpfgffadgkkedaaGreatDoorZ15
import Derived.Test.YtpfgffadgkkedaaGreatDoorZ19
import Derived.Test.YtpfgffadgkkedaaGreatDoorZ11
set_option linter.all false
set_option maxRecDepth 100000
set_option maxHeartbeats 16000000
namespace Go.Proofs.YtpfgffadgkkedaaGreatDoor
open Go.RowKit
attribute [local go_sem ↓] Go.wp_at_zero Go.wp_at_succ
def Tryz.aw0 :(Tryz.prog.info? 5).map (λi=>(i.zero,i.size,i.bytes))=some (some (.int .u8 0),1,1):=by kernel_rfl
def ja (l:List UInt8):List Value:=l.map λc=>.int .u8 (c.toNat:Int)
def abJ {w:World}{base n cap g:Nat}{l:List UInt8}(h:w.ownsRow base 5 1 (.slice (some ⟨g,0,none⟩) n cap) n (ja l)):qQ w g l:=λj hj=>by
 obtain⟨a,c,e,hat,_⟩:=cO h;simp only[Value.slice.injEq]at e;obtain⟨rfl,_,rfl⟩:=e;refine⟨?_,kE h j⟩;rcases hat with h0|⟨b,o,e,hc⟩
 . unfold ja at h0;rw[List.map_eq_nil_iff]at h0;subst h0;cases hj
 . simp only[Option.some.injEq,Addr.mk.injEq,and_true]at e;obtain⟨rfl,rfl⟩:=e;have:=hc j (by simpa[ja]using hj);rw[Nat.zero_add]at this;rw[this];unfold ja;rw[List.getElem?_map,List.getElem?_eq_getElem hj];rfl
def abg (l:List UInt8)(a:Option Addr)(cap n:Nat)(w:World)(hn:l.length=n)(hn0:0<n)(hl:n<=1048576)(hall:∀c∈l,c.toNat<=127)(ha:At w a (ig l)):
 Cv 129 #[.slice a n cap] w (.tuple #[ah l,af 0]):=by
 obtain⟨i0,hi,hz0,hz1,hz2⟩:=info_parts Tryz.aw0;rw[<-Nl]at ha;obtain⟨Hi,cp,bR,bV,Hn,kL,Ha⟩:=jv hi hz0 hz1 hz2 hn hall ha;clear hi hz0 hz1 hz2 hn hall ha;have Hb:=hbz w;go_enter Tryz.func129,Tryz.ntmps129;go_wp2_with fail;go_loopw[4,9] (λs4 x wr=>∃(k:Nat) (v:Value),k<=n/\x=af (k:Int)/\v=s4/\wr.ownsRow w.heap.size 5 1 v k (ja (l.take k))/\Bw w wr) (λ_ x _=>n-(intOf x).toNat);case atStart=>exact⟨0,_,Nat.zero_le _,rfl,rfl,World.ownsRow_nil _ _ _ _,Hb.out⟩
 case round=>
  clear Hb;obtain⟨k,v,hk,rfl,rfl,ho,pb⟩:=hrel;by_cases hlt:k<n
  . have h1:k<l.length:=by rw[Hn.out];exact hlt
    have hc:=kL.out _ (List.getElem_mem h1);obtain⟨b,o,hab,hce⟩:=(Ha.out.below pb).elem (f:=λc:UInt8=>[Value.int .i64 (c.toNat:Int)]) (sz:=1) (λ_=>rfl) zd k h1;have aQ:=qF n cap k (k:Int) hab hlt rfl;rw[Nat.mul_one]at aQ;obtain⟨cc,hcc⟩:∃cc:Int,((l[k]).toNat:Int)=cc:=⟨_,rfl⟩;have Hp:Hid (aR wr b (o+k) [af cc]):=λj hj=>by
     obtain rfl:j=0:=by simp at hj;omega
     have:=hce 0 zd;rw[Nat.mul_one]at this;simpa[hcc]using this
    have bE:Hid (ja (l.take (k+1))=ja (l.take k)++[.int .u8 cc]):=by
     show _=_
     unfold ja;rw[List.take_succ_eq_append_getElem h1,List.map_append,<-hcc];rfl
    have h0:¬cc<0:=by omega
    have aun:¬127<cc:=by omega
    have oM:IntKind.u8.wrap cc=cc:=by rw[IntKind.wrap_u8];omega
    obtain⟨Ho,aO⟩:=aI ho pb;have gQ:=pb.size;clear ho pb hc hce hcc hab;have Hb:=hbz wr;obtain⟨ae,ai⟩:=qZ (Hp.an trivial);have p0:wr.cell? ⟨b,o+k,none⟩=some (af cc):=ae.1.out.cell 0 zm;have P0:=p0;obtain⟨W2,kP,aG,ae,ai⟩:=cg wr (Hb.an ae) 5 [.int .u8 cc];have hv:=ownsRow_below Ho.out ae.2.1.out;have hnews:=fJ ae.1.out;have hs2:=ae.2.1.out.size;skip
    go_wp2_with (at_builtin;refine wpList_append_own_at _ rfl _ _ 59 rfl w.heap.size 5 i0 _ 1 1 Tryz.underlying59 Hi.out cp.out bR.out bV.out rfl zd v k (ja (l.take k)) rfl hv ⟨wr.heap.size,0,none⟩ 1 1 [.int .u8 cc] rfl rfl hnews zy zx zo zo ?_;intro v' w3 xK hg3 _ _;obtain⟨g',cq,rfl⟩:=ownsRow_succ xK);rw[<-bE.out]at xK;have LJ:=aj xK;have dP:Hid (Bw w w3):=(aC aO.out ae.2.1.out).grown hg3 zo (λj e=>cZ hv j e);clear xK hg3 hv hnews P0;go_roundw;case rel=>exact⟨k+1,_,by omega,by go_num,rfl,LJ.out,dP.out⟩
    case measure=>exact bf
  . obtain rfl:k=n:=by omega
    rw[List.take_of_length_le (by rw[Hn.out];exact Nat.le_refl _)]at ho;obtain⟨g,cq,rfl,_⟩:=rU ho hn0;have hcv:=(abJ ho).back cq;rw[Hn.out]at hcv;have aO:=aj pb;clear pb ho;go_wp2;refine bodyPost_ret (v:=.tuple #[ah l,af 0]) (by simp[results,Tryz.results129,go_sem]) rfl ⟨rfl,aO.out⟩
def Ow (w:World)(base:Nat)(e:TypeId)(sz:Nat)(v:Value)(n:Nat)(xs:List Value):Prop:=w.ownsRow base e sz v n xs
def Ow.below {w w':World}{base sz n:Nat}{e:TypeId}{v:Value}{xs:List Value}(h:Ow w base e sz v n xs)(hb:Bw w w'):Ow w' base e sz v n xs:=ownsRow_below h hb
instance {w :World} {base sz n:Nat} {e:TypeId} {v:Value} {xs:List Value}:QTr (Ow w base e sz v n xs) w (λW=>Ow W base e sz v n xs):=⟨λh _ k=>Ow.below h k⟩
def jg (a b:List UInt8)(n k:Nat):List Nat:=(List.range n).map λi=>if i<k then(a.getD i 0).toNat+(b.getD i 0).toNat else(b.getD i 0).toNat
def jw (l:List Nat):List Value:=l.map λ(x:Nat)=>af (x:Int)
def aiU (a b:List UInt8)(n:Nat)(hb:b.length=n):jw (jg a b n 0)=ig b:=by
 refine List.ext_getElem (by simp[jw,jg,ig,hb]) (λi h1 h2=>?_);have hi:i<b.length:=by simpa[ig]using h2
 simp[jw,jg,ig,hi]
def aiT (a b:List UInt8)(n k:Nat):jw (jg a b n (k+1))=(jw (jg a b n k)).set k (af (((a.getD k 0).toNat+(b.getD k 0).toNat:Nat):Int)):=by
 refine List.ext_getElem (by simp[jw,jg]) (λi h1 h2=>?_);have hi:i<n:=by simpa[jw,jg]using h1
 rw[List.getElem_set];by_cases e:k=i
 . subst e;simp[jw,jg]
 . rw[if_neg e];simp only[jw,jg,List.getElem_map,List.getElem_range];by_cases h:i<k
   . rw[if_pos zo,if_pos h]
   . rw[if_neg zo,if_neg h]
def aiS (a b:List UInt8)(n:Nat)(ha:a.length=n)(hb:b.length=n)(hs:∀i,i<n->(a.getD i 0).toNat+(b.getD i 0).toNat<=127):jw (jg a b n n)=ig (fE a b):=by
 refine List.ext_getElem (by simp[jw,jg,ig,fE,ha,hb]) (λi h1 h2=>?_);have hi:i<n:=by simpa[jw,jg]using h1
 simp only[jw,jg,ig,List.getElem_map,List.getElem_range,if_pos hi];rw[MF a b i (by rw[zF a b n ha hb];exact hi) (by have:=hs i hi;omega)]
def aor (x y:Nat)(w:World)(hx:x<=255)(hy:y<=255)(Z:Int)(hZ:((x+y:Nat):Int)=Z):
 Cv 312 #[af (x:Int),af (y:Int)] w (af Z):=by
 have Hb:=hbz w;go_enter Tryz.func312,Tryz.ntmps312;have hwr:IntKind.i64.wrap ((x:Int)+(y:Int))=Z:=by rw[IntKind.wrap_i64];omega
 go_wp2;refine bodyPost_ret (results_tmp rfl _ _ _) rfl ⟨rfl,Hb.out⟩
def aiV (a b:List UInt8)(n:Nat)(w:World)(eN:a.length=n)(hlb:b.length=n)(hn0:0<n)(hl:n<=1048576)(ha:∀c∈a,c.toNat<=127)(hb:∀c∈b,c.toNat<=127):
 Cl 311 #[ah a,ah b,.func (.func 312) #[] #[]] w λe w'=>∃v,e=.returned (.tuple #[v,ag true])/\w'.ownsRow w.heap.size 3 1 v n (jw (jg a b n n))/\Bw w w':=by
 have PO:=λW=>Nn a W zo ha;have xY:=λW=>Nn b W zo hb;have Aw:=λW=>AU a (n:Int) W zo;have hmb:=λW=>AU b (n:Int) W zo;rw[show bZ a (n:Int)=true by unfold bZ;rw[eN];simp only[Bool.and_eq_true,List.all_eq_true,decide_eq_true_eq,and_true];exact ha]at Aw;rw[show bZ b (n:Int)=true by unfold bZ;rw[hlb];simp only[Bool.and_eq_true,List.all_eq_true,decide_eq_true_eq,and_true];exact hb]at hmb;have hsz:(bs a).size=n:=by rw[jh,eN]
 rw[eN]at PO;rw[hlb]at xY;have h0:=aiU a b n hlb;have hgb:∀k,k<n->∃y,(b.getD k 0).toNat=y/\y<=255:=λk hk=>⟨_,rfl,by have:=(b.getD k 0).toNat_lt;omega⟩;have hst:=aiT a b n;have nY:∀k (h:k<a.length),a.getD k 0=a[k]:=λk h=>by simp[h]
 have hbk:∀k,k<n->(jw (jg a b n k))[k]?=some (af (((b.getD k 0).toNat:Nat):Int)):=λk hk=>by simp[jw,jg,hk]
 obtain⟨Cm,Cn,LC,Hmb,H0,bE,pD,wA,Hla,pL⟩:=AP PO xY Aw hmb h0 hst nY hbk eN hsz;clear PO xY Aw hmb ha hb hlb h0 hst nY hbk eN hgb;have Hb:=hbz w;go_enter Tryz.func311,Tryz.ntmps311;go_wp2_with fail;refine(Cn.out _).mono ?_;rintro e w1 ⟨vb,rfl,fV,ak⟩;obtain⟨ae,ai⟩:=qX ak (Hb.an trivial);obtain⟨gb,cb,rfl,hg1,hg2,hg3⟩:=rU fV hn0;rw[<-H0.out]at fV;have HOB:Hid (Ow w1 w.heap.size 3 1 (.slice (some ⟨gb,0,none⟩) n cb) n (jw (jg a b n 0))):=fV;clear fV;go_wp2_with fail;refine aJ (HOB.an ae) (LC.out _) λw2 ae ai=>?_;go_wp2_with fail;refine aJ ae (Hmb.out _) λw3 ae ai=>?_;have hgl:gb<w3.heap.size:=(rT ae.1.out).2;go_wp2_with fail;refine(Cm.out _).mono ?_;rintro e w4 ⟨va,rfl,xL,ak⟩;obtain⟨ae,ai⟩:=qX ak ae;have yU:=aj xL;clear xL;obtain⟨aa,ca,rfl,_⟩:=cO yU.out;go_wp2_with fail;go_loopw[28] (λx wr=>∃k:Nat,k<=n/\x=af (k:Int)/\wr.ownsRow w.heap.size 3 1 (.slice (some ⟨gb,0,none⟩) n cb) n (jw (jg a b n k))/\wr.ownsRow w3.heap.size 3 1 (.slice aa n ca) n (ig a)/\Bw w wr) (λx _=>n-(intOf x).toNat);case atStart=>exact⟨0,Nat.zero_le _,rfl,ae.1.out,yU.out,ae.2.1.out⟩
 case round=>
  clear yU;obtain⟨k,hk,rfl,ho,xL,pb⟩:=hrel;by_cases hlt:k<n
  . have h1:k<a.length:=by rw[Hla.out];exact hlt
    obtain⟨a9,c9,e9,hat,_⟩:=cO xL;simp only[Value.slice.injEq]at e9;obtain⟨rfl,_,rfl⟩:=e9;rw[<-Nl]at hat;obtain⟨b1,o1,hab,hce⟩:=hat.elem (f:=λc:UInt8=>[Value.int .i64 (c.toNat:Int)]) (sz:=1) (λ_=>rfl) zd k h1;have aQ:=qF n ca k (k:Int) hab hlt rfl;have oP:=qF n cb k (k:Int) (rfl:(some ⟨gb,0,none⟩:Option Addr)=_) hlt rfl;rw[Nat.mul_one]at aQ;rw[Nat.mul_one,Nat.zero_add]at oP;have hbk:=wA.out k hlt;have hst:=bE.out k;rw[pD.out k h1]at hst;obtain⟨x,hx⟩:∃x:Nat,(a[k]).toNat=x:=⟨_,rfl⟩;obtain⟨y,hy⟩:∃y:Nat,(b.getD k 0).toNat=y:=⟨_,rfl⟩;have hx2:x<=255:=by have:=(a[k]).toNat_lt;omega
    have hy2:y<=255:=by have:=(b.getD k 0).toNat_lt;omega
    obtain⟨Z,hZ⟩:∃Z:Int,((x+y:Nat):Int)=Z:=⟨_,rfl⟩;rw[hx,hy,hZ]at hst;rw[hy]at hbk;have q0:wr.cell? ⟨gb,k,none⟩=some (af (y:Int)):=by have:=ho.cells (g:=gb) rfl k _ hbk;rw[show(⟨gb,0,none⟩:Addr).add k=⟨gb,k,none⟩by simp[Addr.add];intro h;exact h.symm]at this;exact this
    have iH:=kE ho k;have p0:wr.cell? ⟨b1,o1+k,none⟩=some (af (x:Int)):=by have:=hce 0 zd;rw[Nat.mul_one]at this;simpa[hx]using this
    have lS:=λW=>aor x y W hx2 hy2 Z hZ;obtain⟨Ho,yU,aO,Hs,Hm1⟩:=eV ho xL pb hst lS;clear ho xL pb hst lS hx hy hx2 hy2 hZ hbk hab hat hce;go_wp2_with fail;refine(Hm1.out _).mono ?_;rintro e w5 ⟨rfl,ak⟩;have q1:=cell_later ak q0;have jm:=alu ak q0 iH;have Ho5:Hid ((w5.setCell ⟨gb,k,none⟩ (af Z)).ownsRow w.heap.size 3 1 (.slice (some ⟨gb,0,none⟩) n cb) n (jw (jg a b n (k+1)))):=by rw[Hs.out];exact iZ (ownsRow_below Ho.out ak) k _
    have Ha5:Hid ((w5.setCell ⟨gb,k,none⟩ (af Z)).ownsRow w3.heap.size 3 1 (.slice aa n ca) n (ig a)):=ownsRow_setCell_below (ownsRow_below yU.out ak) hgl _;have fe:Hid (Bw w (w5.setCell ⟨gb,k,none⟩ (af Z))):=(aC aO.out ak).setCell hg1 _;clear q0 iH p0 ak Ho yU aO;go_wp2;go_roundw;case rel=>exact⟨k+1,by omega,by go_num,Ho5.out,Ha5.out,fe.out⟩
    case measure=>exact bf
  . obtain rfl:k=n:=by omega
    obtain⟨Ho,aO⟩:=aI ho pb;clear ho xL pb;go_wp2;refine bodyPost_ret (v:=.tuple #[.slice (some ⟨gb,0,none⟩) k cb,ag true]) (by simp[results,Tryz.results311,go_sem]) rfl ⟨_,rfl,Ho.out,aO.out⟩
def aos (a b:List UInt8)(n:Nat)(w:World)(eN:a.length=n)(hlb:b.length=n)(hn0:0<n)(hl:n<=1048576)(ha:∀c∈a,c.toNat<=127)(hb:∀c∈b,c.toNat<=127)(hs:∀i,i<n->(a.getD i 0).toNat+(b.getD i 0).toNat<=127):
 Cv 292 #[ah a,ah b] w (.tuple #[ah (fE a b),af 0]):=by
 have im:=λW=>aiV a b n W eN hlb hn0 hl ha hb;rw[aiS a b n eN hlb hs]at im;have hof:=λ(A:Option Addr) (c:Nat) (W:World) (h:At W A (ig (fE a b)))=>abg (fE a b) A c n W (zF a b n eN hlb) hn0 hl (UQ a b n eN hlb hs) h;obtain⟨Fh,jd⟩:=aI im hof;clear im hof ha hb hs eN hlb;have Hb:=hbz w;go_enter Tryz.func292,Tryz.ntmps292;go_wp2_with fail;refine(Fh.out _).mono ?_;rintro e w1 ⟨v,rfl,ho,ak⟩;obtain⟨ae,ai⟩:=qX ak (Hb.an trivial);obtain⟨A,c,rfl,hat,_⟩:=cO ho;have eG:=aj hat;clear ho hat;go_wp2_with fail;refine aJ ae (jd.out A c _ eG.out) λw2 ae ai=>?_;go_wp2;refine bodyPost_ret (v:=.tuple #[ah (fE a b),af 0]) (by simp[results,Tryz.results292,go_sem]) rfl ⟨rfl,ae.1.out⟩
def pn (ta tb:List Trm)(k j:Nat):List Trm:=fp (ta.take k) tb++(tb.take j).map λy=>(fE (ta.getD k zT).1 y.1,canon (dval (ta.getD k zT).2*dval y.2))
def adb (ta tb:List Trm)(k:Nat):pn ta tb k 0=fp (ta.take k) tb:=by simp[pn]
def asC (ta tb:List Trm)(k:Nat)(hk:k<ta.length):pn ta tb k tb.length=pn ta tb (k+1) 0:=by rw[adb];unfold pn fp;rw[List.take_succ_eq_append_getElem hk,List.flatMap_append,List.take_length];simp[hk]
def asD (ta tb:List Trm)(k j:Nat)(hj:j<tb.length):(pn ta tb k (j+1)).flatMap aH=(pn ta tb k j).flatMap aH++aH (fE (ta.getD k zT).1 tb[j].1,canon (dval (ta.getD k zT).2*dval tb[j].2)):=by unfold pn;rw[List.take_succ_eq_append_getElem hj,List.map_append,<-List.append_assoc,List.flatMap_append (xs:=_++_)];simp
def aqh (V B d e n n':Nat)(a a':Option Addr)(cap cap':Nat)(ta tb C:List Trm)(w:World)(hV:0<V)(hV2:V<=12)(hn:ta.length=n)(hn':tb.length=n')(Dm:DegT V d ta)(vp:DegT V e tb)(Yo:d+e<=127)(iq:∀t∈ta,Fit B t.2)(eK:∀t∈tb,Fit B t.2)(hl:n*n'<=4096)(od:n<=4096)(hl2:n'<=4096)(hB:B<=100000000)(ha:At w a (ta.flatMap aH))(ha':At w a' (tb.flatMap aH))(hT:aB w)(hC:aS (fp ta tb)=C):
 Cl 270 #[.agg #[af (V:Int),.slice a n cap],.agg #[af (V:Int),.slice a' n' cap']] w λex w'=>∃a9 c9,ex=.returned (.tuple #[.agg #[af (V:Int),.slice a9 C.length c9],af 0])/\aM w' a9 c9 C/\Bw w w':=by
 obtain⟨i0,hi,hz0,hz1,hz2⟩:=info_parts Tryz.awN;have kX:∀t∈fp ta tb,Fit (2*B) t.2:=λt ht=>by have h:=Qr (λt h=>(iq t h).2) (λt h=>(eK t h).2) t ht;obtain⟨x,hx,y,hy,rfl⟩:=Qq ht;rw[bD]at h;exact(h.mono zo).fit zo
 have hcl:=λ(v:Value) (W0 W:World) (hb0:Bw W0 W) (ho:W.ownsRow W0.heap.size 111 4 v (n*n') ((fp ta tb).flatMap aH)) (hT:aB W0)=>Gr (V:Int) v (n*n') (fp ta tb) C (2*B) W0 W hb0 (by rw[Jx,hn,hn']) hl ho kX zo hT hC;have hu0:=adb ta tb;have hun:=λk (h:k<n)=>asC ta tb k zo;have hus:=λk j (h:j<tb.length)=>asD ta tb k j h;have htl:ta.take n=ta:=List.take_of_length_le zo;have nY:∀k (h:k<ta.length),ta.getD k zT=ta[k]:=λk h=>by simp[h]
 rw[hn']at hun;obtain⟨Hi,cp,bR,bV,eH,Us,Hun,Hus,wO,pD,Hn,FH⟩:=gN hi hz0 hz1 hz2 hcl hu0 hun hus htl nY hn hn';obtain⟨Hda,Hdb,sB,wD,Ha,qW⟩:=ia Dm vp iq eK ha ha';clear hi hz0 hz1 hz2 kX hcl hu0 hun hus htl nY hn hn' Dm vp iq eK ha ha' hC;have Ay:¬(65536:Int)<IntKind.i64.wrap ((n:Int) * (n':Int)):=by
  have:((n:Int) * (n':Int))<=4096:=by exact_mod_cast hl
  have:0<=((n:Int) * (n':Int)):=by exact_mod_cast Nat.zero_le _
  rw[IntKind.wrap_i64];omega
 have Hb:=hbz w;go_enter Tryz.func270,Tryz.ntmps270;go_wp2_with fail;refine EF w (Hb.an trivial) 41 [af (V:Int),.slice a n cap] 41 [af (V:Int),.slice a' n' cap'] 41 [af 0,.slice none 0 0] λW aG ae ai=>?_;have pu:Hid (aB W):=hT.below ae.2.2.2.1.out;obtain⟨Hp,Hq,Hr,Hb,_⟩:=ae;obtain⟨p0,p1⟩:=Hp.out.c2;obtain⟨q0,q1⟩:=Hq.out.c2;obtain⟨r0,aW,r1,aX⟩:=Hr.out.g2;have BW:=Hp;have Ub:=Hq;have jX:=Hr;have ey:=Hb;go_wp2_with fail;go_loopw[6,25] (λs6 x wr=>∃(k:Nat) (v:Value),k<=n/\x=af (k:Int)/\v=s6/\wr.ownsRow W.heap.size 111 4 v (k*n') ((fp (ta.take k) tb).flatMap aH)/\Bw W wr) (λ_ x _=>n-(intOf x).toNat);case atStart=>exact⟨0,_,Nat.zero_le _,rfl,rfl,by rw[Nat.zero_mul];exact World.ownsRow_nil _ _ _ _,Below.refl _ _⟩
 case round=>
  clear p0 p1 q0 q1 r0 aW r1 aX Hp Hq Hr Hb;obtain⟨k,v,hk,rfl,rfl,ho,pb⟩:=hrel;obtain⟨wo,hwo⟩:∃wo,wo=wr:=⟨_,rfl⟩;subst hwo;obtain⟨Hp,Hq,Hr⟩:=bM (BW.out.below pb) (Ub.out.below pb) (jX.out.below pb);have dV:=aC ey.out pb;have szw:=ey.out.size;by_cases hlt:k<n
  . have hk2:k<ta.length:=by rw[Hn.out];exact hlt
    obtain⟨l,s,m,ex,hx⟩:∃l s m e,ta[k]=(l,s,m,e):=⟨_,_,_,_,rfl⟩;obtain⟨b,o,hab,bJ⟩:=(Ha.out.below dV).term k hk2 hx;have aQ:=fW n cap k (k:Int) hab hlt rfl;have kw:=pD.out k hk2;rw[hx]at kw;have cS:=sB.out _ (List.getElem_mem hk2);have Ov:=Hda.out _ (List.getElem_mem hk2);rw[hx]at cS Ov;rw[<-Us.out]at ho;have aaj:=Hun.out k hlt;have Ht:Hid (aR wo b (o+k*4) [ah l,ag s,ah m,af ex]):=bJ;obtain⟨Ho,aO,yN,ie,Tm,ag2,dG⟩:=jv ho pb kw cS Ov aaj dV;have gQ:=pb.size;clear ho pb kw cS Ov aaj hx hab bJ dV;have Hb:=hbz wo;obtain⟨ae,ai⟩:=qZ (Hp.an<|Hq.an<|Ht.an trivial);obtain⟨W2,kP,aG,ae,ai⟩:=cg wo (Hb.an ae) 111 [ah l,ag s,ah m,af ex];go_wp2_with fail;have hs2:=ae.2.1.out.size;have XW:=aO.out.trans (ae.2.1.out.mono gQ);obtain⟨nO,SV⟩:=aI (ownsRow_below Ho.out ae.2.1.out) XW;have Cj:Hid (∀g,v.ownBlock=some g->g≠wo.heap.size):=λg hg=>by have:=(Ho.out.lt g hg).2;omega
    clear XW Ho aO aQ;go_loopw[6,32] (λs6 x wr=>∃(j:Nat) (v2:Value),j<=n'/\x=af (j:Int)/\v2=s6/\wr.ownsRow W.heap.size 111 4 v2 (k*n'+j) ((pn ta tb k j).flatMap aH)/\(∀g,v2.ownBlock=some g->g≠wo.heap.size)/\ar wr wo.heap.size 111 [ah l,ag s,ah m,af ex]/\Bw W wr) (λ_ x _=>n'-(intOf x).toNat);case atStart=>exact⟨0,v,Nat.zero_le _,rfl,rfl,nO.out,Cj.out,ae.1.out,SV.out⟩
    case round=>
     clear nO SV Cj;obtain⟨j,v2,hj,rfl,rfl,ho,PG,xY,pb⟩:=hrel;have dV:=aC ey.out pb;by_cases bi:j<n'
     . have gL:j<tb.length:=by rw[FH.out];exact bi
       obtain⟨l',s',m',zS,hy⟩:∃l s m e,tb[j]=(l,s,m,e):=⟨_,_,_,_,rfl⟩;obtain⟨b',o',Af,tL⟩:=(qW.out.below dV).term j gL hy;have amv:=fW n' cap' j (j:Int) Af bi rfl;have iV:=wD.out _ (List.getElem_mem gL);have hdy:=Hdb.out _ (List.getElem_mem gL);have AC:=Hus.out k j gL;rw[yN.out,hy]at AC;rw[hy]at iV hdy;obtain⟨D,hD⟩:=az (dval (s,m,ex) *dval (s',m',zS));simp only at AC iV hdy;rw[hD]at AC;have l1:=(tW Tm.out.1);have l2:=(tW hdy.1);have hmm:=λW=>aos l l' V W l1.1 l2.1 hV zo l1.2 l2.2 (λi _=>by have:=vY l i;have:=vY l' i;have h8:fP l<=d:=Tm.out.2;have h9:fP l'<=e:=hdy.2;omega);obtain⟨L,hL⟩:=az (fE l l');rw[hL]at hmm AC;have qw:=λW c (h:ar W c 45 [ag s,ah m,af ex,ag s',ah m',af zS]) (hT:aB W)=>uP s m ex s' m' zS D B hD c 2 45 W ie.out iV zo h hT;have Ht:Hid (aR wr b' (o'+j*4) [ah l',ag s',ah m',af zS]):=tL;have Hx:Hid (ar wr wo.heap.size 111 [ah l,ag s,ah m,af ex]):=xY;obtain⟨Ho,aO,bE,Hmm,wF,Cj,Xr⟩:=jv ho pb AC hmm qw PG (pu.out.below pb);have ar3:=pb.size;clear ho pb AC hmm qw PG xY tL Af iV hdy hD hL hy l1 l2 dV;have Hb:=hbz wr;obtain⟨ae,ai⟩:=qZ (Hx.an<|Ht.an trivial);have HFT:Hid (aB wr):=Xr.out;clear Xr;obtain⟨W3,Ir,aG,ae,ai⟩:=cg wr (Hb.an<|HFT.an ae) 111 [ah l',ag s',ah m',af zS];go_wp2_with fail;refine aJ ae (Hmm.out _) λw4 ae ai=>?_;obtain⟨W5,uW,aG,ae,ai⟩:=cg w4 ae 45 [ag s,ah m,af ex,ag s',ah m',af zS];go_wp2_with fail;refine aJ ae (wF.out _ _ ae.1.out ae.2.2.2.1.out) λw6 ae ai=>?_;obtain⟨W7,Iu,aG,ae,ai⟩:=cg w6 ae 111 [ah L,ag (au (dN D)),ah (nt (dN D).natAbs),af (dE D)];have hv:=ownsRow_below Ho.out ae.2.2.2.1.out;have hnews:=fJ ae.1.out;have hs7:=ae.2.2.2.1.out.size;have hlx:=ae.2.2.2.2.2.1.out.lt;have hkn:k*n'+j<4096:=by have h1:(k+1) *n'<=n*n':=Nat.mul_le_mul_right _ hlt;rw[Nat.succ_mul]at h1;omega
       go_wp2_with (at_builtin;refine wpList_append_own_at _ rfl _ _ 39 rfl W.heap.size 111 i0 _ 4 48 Tryz.underlying39 Hi.out cp.out bR.out bV.out rfl zd v2 (k*n'+j) ((pn ta tb k j).flatMap aH) rfl hv ⟨w6.heap.size,0,none⟩ 1 1 [ah L,ag (au (dN D)),ah (nt (dN D).natAbs),af (dE D)] rfl rfl hnews zy zx zo zo ?_;intro v' w8 eO bF _ IX);rw[show(pn ta tb k j).flatMap aH++[Value.string (bs L),ag (au (dN D)),ah (nt (dN D).natAbs),af (dE D)]=(pn ta tb k (j+1)).flatMap aH from bE.out.symm]at eO;have iE:=aj eO;have gh:Hid (Bw W w8):=(aO.out.trans (ae.2.2.2.1.out.mono ar3)).grown bF zo (λj e=>cZ hv j e);have Hx8:Hid (ar w8 wo.heap.size 111 [ah l,ag s,ah m,af ex]):=ae.2.2.2.2.2.1.out.grown bF (λe=>Cj.out _ e.symm rfl);have aha:Hid (∀g,v'.ownBlock=some g->g≠wo.heap.size):=λg hg=>by
        rcases IX with h|h
        . exact Cj.out g (h▸hg)
        . rw[h]at hg;have:=Option.some.inj hg;omega
       clear eO bF IX hv hnews;go_roundw;case rel=>exact⟨j+1,v',by omega,by go_num,rfl,iE.out,aha.out,Hx8.out,gh.out⟩
       case measure=>exact bf
     . obtain rfl:j=n':=by omega
       rw[ag2.out,Us.out,show k*j+j=(k+1) *j from(Nat.succ_mul k j).symm]at ho;obtain⟨Ho,aO⟩:=aI ho pb;clear ho pb PG xY dV;go_wp2;go_roundw;case rel=>exact⟨k+1,v2,by omega,by go_num,rfl,Ho.out,aO.out⟩
       case measure=>exact bf
  . obtain rfl:k=n:=by omega
    rw[wO.out]at ho;have Hb:Hid (Bw w wo):=dV;have hcl:=eH.out v W wo pb ho pu.out;have Fq:=aj hcl;clear hcl ho pb dV;obtain⟨ae,ai⟩:=qZ (Hp.an<|Hr.an trivial);go_wp2_with fail;refine Fq.out.mono ?_;rintro e' w6 ⟨a9,d9,rfl,eD,ak⟩;obtain⟨BV,LR,qY⟩:=bM (vQ eD) (jX.out.below ak) (aC ey.out ak);clear eD ak Hb;obtain⟨r0,aW,r1,aX⟩:=LR.out.g2;go_wp2;have h9:=BV.out.store LR.out zd (af (V:Int)) (.slice a9 C.length d9);refine dA (λw9=>aM w9 a9 d9 C/\ar w9 (w.heap.size+1+1) 41 [af (V:Int),.slice a9 C.length d9]/\Bw w w9) ⟨h9,(LR.out.set 0 _).set 1 _,(qY.out.setCell zp _).setCell zp _⟩ ?_;rintro w9 ⟨q1,q2,q3⟩;obtain⟨x0,x1⟩:=q2.c2;exact bodyPost_ret (v:=.tuple #[.agg #[af (V:Int),.slice a9 C.length d9],af 0]) (by simp[results,Tryz.results270,go_sem,x0,x1]) rfl ⟨_,_,rfl,q1,q3⟩
def ajQ (g:Nat)(c d:Int)(a:Option Addr)(cap:Nat)(w:World)(hg:ar w g 3 [af c])(ha:At w a ([d].flatMap qG))(hc:0<=c/\c<=127)(hne:∀b o,a=some ⟨b,o,none⟩->b≠g):
 Cl 128 #[.slice (some ⟨g,0,none⟩) 1 1,.slice a 1 cap] w λe w'=>e=.returned (ag (decide (c<d)))/\aN w g 0 [af (if c<d then c+1 else 0)] w':=by
 obtain⟨b,o,hab,hw⟩:=ha.awO 0 (show 0<1 by decide) (d:=d) rfl;have hbg:=hne b o hab;have aQ:=qF 1 cap 0 0 hab zd rfl;rw[Nat.zero_mul,Nat.add_zero]at aQ;rw[Nat.add_zero]at hw;have hig:=qF 1 1 0 0 (rfl:(some ⟨g,0,none⟩:Option Addr)=_) zd rfl;rw[Nat.zero_mul,Nat.add_zero]at hig;obtain⟨Hg,Hw⟩:=aI hg hw;have lbg:=hg.lt;have yc:=World.block_lt_of_cell? w _ hw.w1;simp only at yc;clear hg ha hne hab hw;obtain⟨r,hr⟩:=az (decide (c<d));obtain⟨z,hz⟩:=az (if c<d then c+1 else 0);rw[hr,hz];obtain⟨HR,HZ⟩:=aI hr hz;clear hr hz;have Hb:=hbz w;go_enter Tryz.func128,Tryz.ntmps128;go_wp2_with fail;go_loopw[5] (λx wr=>(x=af 0/\wr=w)\/(x=af (-1)/\¬c<d/\aN w g 0 [af 0] wr)) (λx _=>(intOf x+1).toNat);case atStart=>exact .inl ⟨rfl,rfl⟩
 case round=>
  rcases hrel with⟨rfl,rfl⟩ |⟨rfl,vh,hst⟩
  . have Hx:=Hg;have Hy:=Hw;by_cases vh:c<d
    . have hw1:IntKind.i64.wrap (c+1)=c+1:=by rw[IntKind.wrap_i64];omega
      obtain rfl:c+1=z:=by have:=HZ.out;rwa [if_pos vh]at this
      obtain rfl:true=r:=by have:=HR.out;rwa [decide_eq_true vh]at this
      obtain⟨ae,ai⟩:=qZ (Hx.an<|Hy.an trivial);go_wp2_with fail;refine cQ 999 ae (cM 9 0x110f0d0b0907050301) ?_;refine bC ?_;refine cP ae λai=>?_;go_wp2;exact bodyPost_ret (results_tmp rfl _ _ _) rfl ⟨rfl,.inr rfl⟩
    . obtain⟨ae,ai⟩:=qZ (Hx.an<|Hy.an trivial);go_wp2_with fail;refine cQ 999 ae (cM 9 0x110f0d0b0907050301) ?_;refine bC ?_;refine cP ae λai=>?_;go_wp2;go_roundw;case rel=>exact .inr ⟨by go_num,by omega,.inr rfl⟩
      case measure=>simp[intOf]
  . obtain rfl:0=z:=by have:=HZ.out;rwa [if_neg vh]at this
    obtain rfl:false=r:=by have:=HR.out;rwa [decide_eq_false vh]at this
    have bE:=aj hst;clear hst;go_wp2;exact bodyPost_ret (results_tmp rfl _ _ _) rfl ⟨rfl,bE.out⟩
def Tryz.aw8 :(Tryz.prog.info? 3).map (λi=>(i.zero,i.size,i.bytes))=some (some (af 0),1,8):=by kernel_rfl
def aoC (w:World):(Instr.makeSlice 28 (af 1) (af 1)).run Tryz.prog w=.ok (.slice (some ⟨w.heap.size,0,none⟩) 1 1) (w.alloc (.cells #[af 0] 3)):=by obtain⟨i0,hi,hz0,hz1,hz2⟩:=info_parts Tryz.aw8;have h:=run_make (P:=Tryz.prog) w 28 3 i0 _ Tryz.underlying28 hi hz0 .i64 .i64 1 1 zo zo (by rw[hz2];omega) zo;refine h.trans ?_;have e:(#[af 0]:Array Value)=(List.replicate 1 (af 0)).toArray:=rfl;rw[hz1,e,<-toList_madeCells_one];simp[Value.cells]
def aN.axh {w W:World}{g:Nat}{u:Value}(k:aN w g 0 [u] W){base size n:Nat}{e:TypeId}{v:Value}{xs:List Value}(h:w.ownsRow base e size v n xs)(hne:v.ownBlock≠some g):W.ownsRow base e size v n xs:=by
 rcases k with rfl|rfl
 . exact ownsRow_setCell_other h hne _
 . exact ownsRow_setCell_other (ownsRow_below h ((Below.refl _ _).drew)) hne _
def lg (d:Nat):List Value:=(List.range (d+1)).map λk=>.string (bs [UInt8.ofNat k])
def apo (d k:Nat)(h:k<=d):(lg d).take (k+1)=(lg d).take k++[.string (bs [UInt8.ofNat k])]:=by
 have hk:k<(lg d).length:=by simp[lg];omega
 rw[List.take_succ_eq_append_getElem hk];simp[lg]
def ahW (d:Nat)(hd:d<=127)(a:Option Addr)(cap:Nat)(w:World)(ha:At w a ([(d:Int)].flatMap qG)):
 Cl 57 #[.slice a 1 cap] w λe w'=>∃(a':Option Addr) (c':Nat),e=.returned (.slice a' (d+1) c')/\At w' a' (lg d)/\Bw w w':=by
 obtain⟨i0,hi,hz0,hz1,hz2⟩:=info_parts Tryz.axc;obtain⟨b,o,hab,hw⟩:=ha.awO 0 (show 0<1 by decide) (d:=(d:Int)) rfl;have aQ:=qF 1 cap 0 0 hab zd rfl;rw[Nat.zero_mul,Nat.add_zero]at aQ;rw[Nat.add_zero]at hw;have rO:=λW=>aoC W;have yc:=World.block_lt_of_cell? w _ hw.w1;simp only at yc;have hne:∀b o,a=some ⟨b,o,none⟩->b≠w.heap.size:=λb9 o9 e9=>by rw[hab]at e9;simp only[Option.some.injEq,Addr.mk.injEq,and_true]at e9;omega
 have hof:=λk (hk:k<=d) (W:World) (hl:ar W w.heap.size 3 [af (k:Int)])=>abg [UInt8.ofNat k] (some ⟨w.heap.size,0,none⟩) 1 1 W rfl zd zd (λc hc=>by simp only[List.mem_singleton]at hc;subst hc;rw[UInt8.toNat_ofNat'];omega) (At.awH (by
  have e9:(UInt8.ofNat k).toNat=k:=by rw[UInt8.toNat_ofNat'];omega
  unfold ig
  simp only[List.map_cons,List.map_nil,e9];exact hl))
 have Yh:=λc (hc:(0:Int)<=c/\c<=127) (W:World) (hW:Bw w W) (hl:ar W w.heap.size 3 [af c])=>ajQ w.heap.size c (d:Int) a cap W hl (ha.below hW) hc hne;obtain⟨Hi,cp,bR,bV,Hw,jd,Hco⟩:=jv hi hz0 hz1 hz2 hw hof Yh;clear hi hz0 hz1 hz2 hw hof Yh hne hab ha;obtain⟨p,hp⟩:∃p:Int,(d:Int)+1=p:=⟨_,rfl⟩;have hw1:IntKind.i64.wrap ((d:Int)+1)=p:=by rw[IntKind.wrap_i64];omega
 have hw2:IntKind.i64.wrap p=p:=by rw[IntKind.wrap_i64];omega
 have hd0:¬(d:Int)<0:=by omega
 have hd1:¬(127:Int)<(d:Int):=by omega
 have hd2:¬(65536:Int)<p:=by omega
 clear hp;have Hb:=hbz w;go_enter Tryz.func57,Tryz.ntmps57;go_wp2_with fail;go_loopw[3,13] (λs3 x wr=>wr=w/\((x=af 0/\s3=af 1)\/(x=af 1/\s3=af p))) (λ_ x _=>1-(intOf x).toNat);case atStart=>exact⟨rfl,.inl ⟨rfl,rfl⟩⟩
 case round=>
  obtain⟨hwr,h9⟩:=hrel;subst hwr;rcases h9 with⟨rfl,rfl⟩ |⟨rfl,rfl⟩
  . have Hy:=Hw;obtain⟨ae,ai⟩:=qZ (Hy.an trivial);go_wp2;go_roundw;case rel=>exact⟨trivial,.inr ⟨by go_num,rfl⟩⟩
    case measure=>simp[intOf]
  . clear hw1 hw2 hd0 hd1 hd2;obtain⟨wo,hwo⟩:∃u,u=wr:=⟨_,rfl⟩;subst hwo;have Hb:=hbz wo;obtain⟨W1,auH,aG,ae,ai⟩:=cg wo (Hb.an trivial) 3 [af 0];have Fy:=ae.1;have bB:=ae.2.1;have hsz1:wo.heap.size<W1.heap.size:=ae.1.out.lt;go_wp2_with fail;skip
    go_loopw[7,8] (λs7 x wr=>∃(k:Nat) (v:Value) (c:Nat),k<=d+1/\x=ag (decide (k<=d))/\v=s7/\wr.ownsRow W1.heap.size 9 1 v k ((lg d).take k)/\ar wr wo.heap.size 3 [af (c:Int)]/\c<=127/\(k<=d->c=k)/\Bw wo wr/\W1.heap.size<=wr.heap.size) (λs7 _ _=>match s7 with| .slice _ n _=>d+1-n|_=>0);case atStart=>exact⟨0,_,0,Nat.zero_le _,by simp,rfl,World.ownsRow_nil _ _ _ _,Fy.out,by omega,λ_=>rfl,bB.out,Nat.le_refl _⟩
    case round=>
     clear Fy bB;obtain⟨k,v,c,hk,rfl,rfl,ho,hl,hc,cF,pb,hsz⟩:=hrel;obtain⟨av,cv,rfl,hat,_⟩:=cO ho;obtain⟨Ho,Hl,dG,eG⟩:=bU ho hl pb hat;clear ho hl pb hat;by_cases kV:k<=d
     . obtain rfl:c=k:=cF kV;have hdk:decide (c<=d)=true:=decide_eq_true kV;obtain⟨agj,wI⟩:=aI (jd.out c kV) (apo d c kV);have ux:Hid (c<=d):=kV;clear cF kV hk;have Hb:=hbz wr;obtain⟨ae,ai⟩:=qZ (Hl.an trivial);go_wp2_with fail;refine aJ (Hb.an ae) (agj.out _ ae.1.out) λw5 ae ai=>?_;obtain⟨W6,rL,aG,ae,ai⟩:=cg w5 ae 9 [.string (bs [UInt8.ofNat c])];have cu:=ownsRow_below Ho.out ae.2.1.out;have jr:=ae.2.1.out.size;have Di:c<=127:=hc;have YW:=ae.2.2.1.out;go_wp2_with (at_builtin;refine wpList_append_own_at _ rfl _ _ 98 rfl W1.heap.size 9 i0 _ 1 16 Tryz.underlying98 Hi.out cp.out bR.out bV.out rfl zd (.slice av c cv) c ((lg d).take c) rfl cu ⟨w5.heap.size,0,none⟩ 1 1 [.string (bs [UInt8.ofNat c])] rfl rfl (fJ ae.1.out) zy zx zo zo ?_;intro v' w7 dt dM _ _);obtain⟨g',cq,rfl⟩:=ownsRow_succ dt;have hgb:=rT dt;have YX:=YW.row zd cu dM;have fK:=(aC dG.out ae.2.1.out).grown dM zo (λj e=>by have:=cZ cu j e;omega);have aae:W1.heap.size<=w7.heap.size:=by have:=dM.size;omega
       rw[<-wI.out]at dt;obtain⟨pG,TI,kM⟩:=bM dt YX fK;clear dt dM cu YX fK YW;go_wp2_with fail;refine(Hco.out (c:Int) ⟨by omega,by omega⟩ w7 kM.out TI.out).mono ?_;rintro e w9 ⟨rfl,hst⟩;have mV:=(tO TI hst).out;have gm:=(bS kM hst (Nat.le_refl _)).out;have eD:=hst.axh pG.out (λe9=>by simp only[Value.ownBlock,Option.some.injEq]at e9;omega);have ZX:w7.heap.size<=w9.heap.size:=by rcases hst with rfl|rfl<;>simp[qP]
       simp only[bA,List.set]at mV;have Dl:decide ((c:Int)<(d:Int))=decide (c+1<=d):=decide_eq_decide.2 zo;rw[Dl];have hif:(if(c:Int)<(d:Int)then(c:Int)+1 else 0)=(((if c+1<=d then c+1 else 0):Nat):Int):=by split<;>split<;>omega
       rw[hif]at mV;have Dg:(if c+1<=d then c+1 else 0)<=127:=by split<;>omega
       have Dh:c+1<=d->(if c+1<=d then c+1 else 0)=c+1:=λh=>if_pos h;generalize (if c+1<=d then c+1 else 0)=c2 at*;obtain⟨Lt,ut,BU,KH⟩:=bU mV gm eD Dh;clear mV gm eD hif Dl hst Dh;go_wp2;go_roundw;case rel=>exact⟨c+1,_,c2,by have:=ux.out;omega,rfl,rfl,BU.out,Lt.out,Dg,KH.out,ut.out,by omega⟩
       case measure=>have:=ux.out;show d+1-(c+1)<d+1-c;omega
     . obtain rfl:k=d+1:=by omega
       have hdk:decide (d+1<=d)=false:=by simp
       have hat:=eG.out;rw[List.take_of_length_le (by simp[lg])]at hat;have wy:=aj hat;clear hat cF kV;go_wp2;exact bodyPost_ret (results_tmp rfl _ _ _) rfl ⟨av,cv,rfl,wy.out,dG.out⟩
end Go.Proofs.YtpfgffadgkkedaaGreatDoor
