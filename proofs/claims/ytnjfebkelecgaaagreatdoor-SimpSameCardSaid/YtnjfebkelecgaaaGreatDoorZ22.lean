/- Package mono,on: Of,Mul. -/
import Derived.Test.YtnjfebkelecgaaaGreatDoorZ19
import Derived.Test.YtnjfebkelecgaaaGreatDoorZ12
import Derived.Test.YtnjfebkelecgaaaGreatDoorZ13
import Derived.Test.YtnjfebkelecgaaaGreatDoorZ18
import Derived.Test.YtnjfebkelecgaaaGreatDoorZ20
set_option linter.all false
set_option maxRecDepth 100000
set_option maxHeartbeats 16000000
namespace Go.Proofs.YtnjfebkelecgaaaGreatDoor
open Go.RowKit
attribute [local go_sem ↓] Go.wp_at_zero Go.wp_at_succ
def Tryz.aF7 :(Tryz.prog.info? 5).map (λi=>(i.zero,i.size,i.bytes))=some (some (.int .u8 0),1,1):=by kernel_rfl
def yx (l:List UInt8):List Value:=l.map λc=>.int .u8 (c.toNat:Int)
def aww {w:World}{base n cap g:Nat}{l:List UInt8}(h:w.ownsRow base 5 1 (.slice (some ⟨g,0,none⟩) n cap) n (yx l)):tK w g l:=λj hj=>by
 obtain⟨a,c,e,hat,_⟩:=dS h;simp only[Value.slice.injEq]at e;obtain⟨rfl,_,rfl⟩:=e;refine⟨?_,nK h j⟩;rcases hat with h0|⟨b,o,e,hc⟩
 . unfold yx at h0;rw[List.map_eq_nil_iff]at h0;subst h0;cases hj
 . simp only[Option.some.injEq,Addr.mk.injEq,and_true]at e;obtain⟨rfl,rfl⟩:=e;have:=hc j (by simpa[yx]using hj);rw[Nat.zero_add]at this;rw[this];unfold yx;rw[List.getElem?_map,List.getElem?_eq_getElem hj];rfl
def avs (l:List UInt8)(a:Option Addr)(cap n:Nat)(w:World)(hn:l.length=n)(hn0:0<n)(hl:n<=1048576)(hall:∀c∈l,c.toNat<=127)(ha:At w a (iJ l)):
 Cv 184 #[.slice a n cap] w (.tuple #[ai l,ah 0]):=by
 obtain⟨i0,hi,hz0,hz1,hz2⟩:=info_parts Tryz.aF7;rw[<-Nj]at ha;obtain⟨Hi,dF,dv,di,Hn,pn,Ha⟩:=mE hi hz0 hz1 hz2 hn hall ha;clear hi hz0 hz1 hz2 hn hall ha;have Hb:=hbz w;go_enter Tryz.func184,Tryz.ntmps184;go_wp2_with fail;go_loopw[4,9] (λs4 x wr=>∃(k:Nat) (v:Value),k<=n/\x=ah (k:Int)/\v=s4/\wr.ownsRow w.heap.size 5 1 v k (yx (l.take k))/\Bw w wr) (λ_ x _=>n-(intOf x).toNat);case atStart=>exact⟨0,_,Nat.zero_le _,rfl,rfl,World.ownsRow_nil _ _ _ _,Hb.out⟩
 case round=>
  clear Hb;obtain⟨k,v,hk,rfl,rfl,ho,pb⟩:=hrel;by_cases hlt:k<n
  . have h1:k<l.length:=by rw[Hn.out];exact hlt
    have hc:=pn.out _ (List.getElem_mem h1);obtain⟨b,o,hab,hce⟩:=(Ha.out.below pb).elem (f:=λc:UInt8=>[Value.int .i64 (c.toNat:Int)]) (sz:=1) (λ_=>rfl) zd k h1;have bD:=JW n cap k (k:Int) hab hlt rfl;rw[Nat.mul_one]at bD;obtain⟨cc,hcc⟩:∃cc:Int,((l[k]).toNat:Int)=cc:=⟨_,rfl⟩;have Hp:Hid (bH wr b (o+k) [ah cc]):=λj hj=>by
     obtain rfl:j=0:=by simp at hj;omega
     have:=hce 0 zd;rw[Nat.mul_one]at this;simpa[hcc]using this
    have cn:Hid (yx (l.take (k+1))=yx (l.take k)++[.int .u8 cc]):=by
     show _=_
     unfold yx;rw[List.take_succ_eq_append_getElem h1,List.map_append,<-hcc];rfl
    have h0:¬cc<0:=by omega
    have ar2:¬127<cc:=by omega
    have rS:IntKind.u8.wrap cc=cc:=by rw[IntKind.wrap_u8];omega
    obtain⟨Ho,bj⟩:=aZ ho pb;have gM:=pb.size;clear ho pb hc hce hcc hab;have Hb:=hbz wr;have p0:=Hp.out.w1;have P0:=p0;obtain⟨W2,na,ag,Hd⟩:=cE wr 5 [.int .u8 cc];replace Hp:=kW Hp ag;have p0:=Hp.out.w1;have d0:=Hd.out.c1;replace Hb:=az Hb ag;have hv:=ownsRow_below Ho.out Hb.out;have hnews:=gW Hd.out;have hs2:=Hb.out.size;go_wp2_with (at_builtin;refine wpList_append_own_at _ rfl _ _ 84 rfl w.heap.size 5 i0 _ 1 1 Tryz.underlying84 Hi.out dF.out dv.out di.out rfl zd v k (yx (l.take k)) rfl hv ⟨wr.heap.size,0,none⟩ 1 1 [.int .u8 cc] rfl rfl hnews zy zx zo zo ?_;intro v' w3 uK hg3 _ _;obtain⟨g',cq,rfl⟩:=ownsRow_succ uK);rw[<-cn.out]at uK;have RV:=ar uK;have eW:Hid (Bw w w3):=(aO bj.out Hb.out).grown hg3 zo (λj e=>dX hv j e);clear uK hg3 hv hnews P0;go_roundw;case rel=>exact⟨k+1,_,by omega,by go_num,rfl,RV.out,eW.out⟩
    case measure=>exact bI
  . obtain rfl:k=n:=by omega
    rw[List.take_of_length_le (by rw[Hn.out];exact Nat.le_refl _)]at ho;obtain⟨g,cq,rfl,_⟩:=wy ho hn0;have hcv:=(aww ho).back cq;rw[Hn.out]at hcv;have bj:=ar pb;clear pb ho;go_wp2;refine bodyPost_ret (v:=.tuple #[ai l,ah 0]) (by simp[results,Tryz.results184,go_sem]) rfl ⟨rfl,bj.out⟩
def Ow (w:World)(base:Nat)(e:TypeId)(sz:Nat)(v:Value)(n:Nat)(xs:List Value):Prop:=w.ownsRow base e sz v n xs
def Ow.below {w w':World}{base sz n:Nat}{e:TypeId}{v:Value}{xs:List Value}(h:Ow w base e sz v n xs)(hb:Bw w w'):Ow w' base e sz v n xs:=ownsRow_below h hb
def lv (a b:List UInt8)(n k:Nat):List Nat:=(List.range n).map λi=>if i<k then(a.getD i 0).toNat+(b.getD i 0).toNat else(b.getD i 0).toNat
def lN (l:List Nat):List Value:=l.map λ(x:Nat)=>ah (x:Int)
def apo (a b:List UInt8)(n:Nat)(hb:b.length=n):lN (lv a b n 0)=iJ b:=by
 refine List.ext_getElem (by simp[lN,lv,iJ,hb]) (λi h1 h2=>?_);have hi:i<b.length:=by simpa[iJ]using h2
 simp[lN,lv,iJ,hi]
def apn (a b:List UInt8)(n k:Nat):lN (lv a b n (k+1))=(lN (lv a b n k)).set k (ah (((a.getD k 0).toNat+(b.getD k 0).toNat:Nat):Int)):=by
 refine List.ext_getElem (by simp[lN,lv]) (λi h1 h2=>?_);have hi:i<n:=by simpa[lN,lv]using h1
 rw[List.getElem_set];by_cases e:k=i
 . subst e;simp[lN,lv]
 . rw[if_neg e];simp only[lN,lv,List.getElem_map,List.getElem_range];by_cases h:i<k
   . rw[if_pos zo,if_pos h]
   . rw[if_neg zo,if_neg h]
def apm (a b:List UInt8)(n:Nat)(ha:a.length=n)(hb:b.length=n)(hs:∀i,i<n->(a.getD i 0).toNat+(b.getD i 0).toNat<=127):lN (lv a b n n)=iJ (eT a b):=by
 refine List.ext_getElem (by simp[lN,lv,iJ,eT,ha,hb]) (λi h1 h2=>?_);have hi:i<n:=by simpa[lN,lv]using h1
 simp only[lN,lv,iJ,List.getElem_map,List.getElem_range,if_pos hi];rw[My a b i (by rw[ze a b n ha hb];exact hi) (by have:=hs i hi;omega)]
def avq (x y:Nat)(w:World)(hx:x<=255)(hy:y<=255)(Z:Int)(hZ:((x+y:Nat):Int)=Z):
 Cv 183 #[ah (x:Int),ah (y:Int)] w (ah Z):=by
 have Hb:=hbz w;go_enter Tryz.func183,Tryz.ntmps183;have hwr:IntKind.i64.wrap ((x:Int)+(y:Int))=Z:=by rw[IntKind.wrap_i64];omega
 go_wp2;refine bodyPost_ret (results_tmp rfl _ _ _) rfl ⟨rfl,Hb.out⟩
def apq (a b:List UInt8)(n:Nat)(w:World)(jX:a.length=n)(hlb:b.length=n)(hn0:0<n)(hl:n<=1048576)(ha:∀c∈a,c.toNat<=127)(hb:∀c∈b,c.toNat<=127):
 Cl 182 #[ai a,ai b,.func (.func 183) #[] #[]] w λe w'=>∃v,e=.returned (.tuple #[v,aj true])/\w'.ownsRow w.heap.size 3 1 v n (lN (lv a b n n))/\Bw w w':=by
 have WB:=λW=>Uc a W zo ha;have Cy:=λW=>Uc b W zo hb;have Cg:=λW=>Fe a (n:Int) W zo;have hmb:=λW=>Fe b (n:Int) W zo;rw[show eQ a (n:Int)=true by unfold eQ;rw[jX];simp only[Bool.and_eq_true,List.all_eq_true,decide_eq_true_eq,and_true];exact ha]at Cg;rw[show eQ b (n:Int)=true by unfold eQ;rw[hlb];simp only[Bool.and_eq_true,List.all_eq_true,decide_eq_true_eq,and_true];exact hb]at hmb;have hsz:(bs a).size=n:=by rw[iH,jX]
 rw[jX]at WB;rw[hlb]at Cy;have h0:=apo a b n hlb;have hgb:∀k,k<n->∃y,(b.getD k 0).toNat=y/\y<=255:=λk hk=>⟨_,rfl,by have:=(b.getD k 0).toNat_lt;omega⟩;have hst:=apn a b n;have mD:∀k (h:k<a.length),a.getD k 0=a[k]:=λk h=>by simp[h]
 have hbk:∀k,k<n->(lN (lv a b n k))[k]?=some (ah (((b.getD k 0).toNat:Nat):Int)):=λk hk=>by simp[lN,lv,hk]
 obtain⟨SI,SJ,RH,RI,H0,cn,rK,tV,gS,mS⟩:=Kc WB Cy Cg hmb h0 hst mD hbk jX hsz;clear WB Cy Cg hmb ha hb hlb h0 hst mD hbk jX hgb;have Hb:=hbz w;go_enter Tryz.func182,Tryz.ntmps182;go_wp2_with fail;refine(SJ.out _).mono ?_;rintro e w1 ⟨vb,rfl,gY,ag⟩;replace Hb:=az Hb ag;obtain⟨gb,cb,rfl,hg1,hg2,hg3⟩:=wy gY hn0;rw[<-H0.out]at gY;have wL:Hid (Ow w1 w.heap.size 3 1 (.slice (some ⟨gb,0,none⟩) n cb) n (lN (lv a b n 0))):=gY;clear gY;go_wp2_with fail;refine(RH.out _).mono ?_;rintro e w2 ⟨rfl,ag⟩;replace wL:=ar (wL.out.below ag);replace Hb:=az Hb ag;go_wp2_with fail;refine(RI.out _).mono ?_;rintro e w3 ⟨rfl,ag⟩;replace wL:=ar (wL.out.below ag);replace Hb:=az Hb ag;have hgl:gb<w3.heap.size:=(CL wL.out).2;go_wp2_with fail;refine(SI.out _).mono ?_;rintro e w4 ⟨va,rfl,Cj,ag⟩;replace wL:=ar (wL.out.below ag);replace Hb:=az Hb ag;have Dx:=ar Cj;clear Cj;obtain⟨aa,ca,rfl,_⟩:=dS Dx.out;go_wp2_with fail;go_loopw[28] (λx wr=>∃k:Nat,k<=n/\x=ah (k:Int)/\wr.ownsRow w.heap.size 3 1 (.slice (some ⟨gb,0,none⟩) n cb) n (lN (lv a b n k))/\wr.ownsRow w3.heap.size 3 1 (.slice aa n ca) n (iJ a)/\Bw w wr) (λx _=>n-(intOf x).toNat);case atStart=>exact⟨0,Nat.zero_le _,rfl,wL.out,Dx.out,Hb.out⟩
 case round=>
  clear wL Dx Hb;obtain⟨k,hk,rfl,ho,Cj,pb⟩:=hrel;by_cases hlt:k<n
  . have h1:k<a.length:=by rw[gS.out];exact hlt
    obtain⟨a9,c9,e9,hat,_⟩:=dS Cj;simp only[Value.slice.injEq]at e9;obtain⟨rfl,_,rfl⟩:=e9;rw[<-Nj]at hat;obtain⟨b1,o1,hab,hce⟩:=hat.elem (f:=λc:UInt8=>[Value.int .i64 (c.toNat:Int)]) (sz:=1) (λ_=>rfl) zd k h1;have bD:=JW n ca k (k:Int) hab hlt rfl;have zY:=JW n cb k (k:Int) (rfl:(some ⟨gb,0,none⟩:Option Addr)=_) hlt rfl;rw[Nat.mul_one]at bD;rw[Nat.mul_one,Nat.zero_add]at zY;have hbk:=tV.out k hlt;have hst:=cn.out k;rw[rK.out k h1]at hst;obtain⟨x,hx⟩:∃x:Nat,(a[k]).toNat=x:=⟨_,rfl⟩;obtain⟨y,hy⟩:∃y:Nat,(b.getD k 0).toNat=y:=⟨_,rfl⟩;have hx2:x<=255:=by have:=(a[k]).toNat_lt;omega
    have hy2:y<=255:=by have:=(b.getD k 0).toNat_lt;omega
    obtain⟨Z,hZ⟩:∃Z:Int,((x+y:Nat):Int)=Z:=⟨_,rfl⟩;rw[hx,hy,hZ]at hst;rw[hy]at hbk;have q0:wr.cell? ⟨gb,k,none⟩=some (ah (y:Int)):=by have:=ho.cells (g:=gb) rfl k _ hbk;rw[show(⟨gb,0,none⟩:Addr).add k=⟨gb,k,none⟩by simp[Addr.add];intro h;exact h.symm]at this;exact this
    have fh:=nK ho k;have p0:wr.cell? ⟨b1,o1+k,none⟩=some (ah (x:Int)):=by have:=hce 0 zd;rw[Nat.mul_one]at this;simpa[hx]using this
    have oD:=λW=>avq x y W hx2 hy2 Z hZ;obtain⟨Ho,Dx,bj,Hs,jL⟩:=fU ho Cj pb hst oD;clear ho Cj pb hst oD hx hy hx2 hy2 hZ hbk hab hat hce;go_wp2_with fail;refine(jL.out _).mono ?_;rintro e w5 ⟨rfl,ag⟩;have q1:=cell_later ag q0;have fB:=arK ag q0 fh;have Ho5:Hid ((w5.setCell ⟨gb,k,none⟩ (ah Z)).ownsRow w.heap.size 3 1 (.slice (some ⟨gb,0,none⟩) n cb) n (lN (lv a b n (k+1)))):=by rw[Hs.out];exact kX (ownsRow_below Ho.out ag) k _
    have Ha5:Hid ((w5.setCell ⟨gb,k,none⟩ (ah Z)).ownsRow w3.heap.size 3 1 (.slice aa n ca) n (iJ a)):=ownsRow_setCell_below (ownsRow_below Dx.out ag) hgl _;have eX:Hid (Bw w (w5.setCell ⟨gb,k,none⟩ (ah Z))):=(aO bj.out ag).setCell hg1 _;clear q0 fh p0 ag Ho Dx bj;go_wp2;go_roundw;case rel=>exact⟨k+1,by omega,by go_num,Ho5.out,Ha5.out,eX.out⟩
    case measure=>exact bI
  . obtain rfl:k=n:=by omega
    obtain⟨Ho,bj⟩:=aZ ho pb;clear ho Cj pb;go_wp2;refine bodyPost_ret (v:=.tuple #[.slice (some ⟨gb,0,none⟩) k cb,aj true]) (by simp[results,Tryz.results182,go_sem]) rfl ⟨_,rfl,Ho.out,bj.out⟩
def avr (a b:List UInt8)(n:Nat)(w:World)(jX:a.length=n)(hlb:b.length=n)(hn0:0<n)(hl:n<=1048576)(ha:∀c∈a,c.toNat<=127)(hb:∀c∈b,c.toNat<=127)(hs:∀i,i<n->(a.getD i 0).toNat+(b.getD i 0).toNat<=127):
 Cv 157 #[ai a,ai b] w (.tuple #[ai (eT a b),ah 0]):=by
 have jT:=λW=>apq a b n W jX hlb hn0 hl ha hb;rw[apm a b n jX hlb hs]at jT;have hof:=λ(A:Option Addr) (c:Nat) (W:World) (h:At W A (iJ (eT a b)))=>avs (eT a b) A c n W (ze a b n jX hlb) hn0 hl (Tm a b n jX hlb hs) h;obtain⟨LG,og⟩:=aZ jT hof;clear jT hof ha hb hs jX hlb;have Hb:=hbz w;go_enter Tryz.func157,Tryz.ntmps157;go_wp2_with fail;refine(LG.out _).mono ?_;rintro e w1 ⟨v,rfl,ho,ag⟩;replace Hb:=az Hb ag;obtain⟨A,c,rfl,hat,_⟩:=dS ho;have fW:=ar hat;clear ho hat;go_wp2_with fail;refine(og.out A c _ fW.out).mono ?_;rintro e w2 ⟨rfl,ag⟩;replace Hb:=az Hb ag;go_wp2;refine bodyPost_ret (v:=.tuple #[ai (eT a b),ah 0]) (by simp[results,Tryz.results157,go_sem]) rfl ⟨rfl,Hb.out⟩
def oX (ta tb:List aQ)(k j:Nat):List aQ:=ia (ta.take k) tb++(tb.take j).map λy=>(eT (ta.getD k zT).1 y.1,canon (aJ (ta.getD k zT).2*aJ y.2))
def YL (ta tb:List aQ)(k:Nat):oX ta tb k 0=ia (ta.take k) tb:=by simp[oX]
def ajj (ta tb:List aQ)(k:Nat)(hk:k<ta.length):oX ta tb k tb.length=oX ta tb (k+1) 0:=by rw[YL];unfold oX ia;rw[List.take_succ_eq_append_getElem hk,List.flatMap_append,List.take_length];simp[hk]
def ajk (ta tb:List aQ)(k j:Nat)(hj:j<tb.length):(oX ta tb k (j+1)).flatMap aY=(oX ta tb k j).flatMap aY++aY (eT (ta.getD k zT).1 tb[j].1,canon (aJ (ta.getD k zT).2*aJ tb[j].2)):=by unfold oX;rw[List.take_succ_eq_append_getElem hj,List.map_append,<-List.append_assoc,List.flatMap_append (xs:=_++_)];simp
def axs (V B d e n n':Nat)(a a':Option Addr)(cap cap':Nat)(ta tb C:List aQ)(w:World)(hV:0<V)(hV2:V<=12)(hn:ta.length=n)(hn':tb.length=n')(zV:fy V d ta)(zW:fy V e tb)(Og:d+e<=127)(jU:∀t∈ta,Fit B t.2)(kq:∀t∈tb,Fit B t.2)(hl:n*n'<=4096)(uI:n<=4096)(hl2:n'<=4096)(hB:B<=100000000)(ha:At w a (ta.flatMap aY))(ha':At w a' (tb.flatMap aY))(hT:aM w)(hC:bP (ia ta tb)=C):
 Cl 118 #[.agg #[ah (V:Int),.slice a n cap],.agg #[ah (V:Int),.slice a' n' cap']] w λex w'=>∃a9 c9,ex=.returned (.tuple #[.agg #[ah (V:Int),.slice a9 C.length c9],ah 0])/\bE w' a9 c9 C/\Bw w w':=by
 obtain⟨i0,hi,hz0,hz1,hz2⟩:=info_parts Tryz.aFP;have lJ:∀t∈ia ta tb,Fit (2*B) t.2:=λt ht=>by have h:=Xl (λt h=>(jU t h).2) (λt h=>(kq t h).2) t ht;obtain⟨x,hx,y,hy,rfl⟩:=Pz ht;rw[cp]at h;exact(h.mono zo).fit zo
 have hcl:=λ(v:Value) (W0 W:World) (hb0:Bw W0 W) (ho:W.ownsRow W0.heap.size 67 4 v (n*n') ((ia ta tb).flatMap aY)) (hT:aM W0)=>MP (V:Int) v (n*n') (ia ta tb) C (2*B) W0 W hb0 (by rw[Xk,hn,hn']) hl ho lJ zo hT hC;have hu0:=YL ta tb;have hun:=λk (h:k<n)=>ajj ta tb k zo;have JM:=λk j (h:j<tb.length)=>ajk ta tb k j h;have htl:ta.take n=ta:=List.take_of_length_le zo;have mD:∀k (h:k<ta.length),ta.getD k zT=ta[k]:=λk h=>by simp[h]
 rw[hn']at hun;obtain⟨Hi,dF,dv,di,gP,GD,Sw,SA,Be,rK,Hn,Dt⟩:=gg hi hz0 hz1 hz2 hcl hu0 hun JM htl mD hn hn';obtain⟨gQ,jK,wT,wU,Ha,qD⟩:=iq zV zW jU kq ha ha';clear hi hz0 hz1 hz2 lJ hcl hu0 hun JM htl mD hn hn' zV zW jU kq ha ha' hC;have hnm:¬(65536:Int)<IntKind.i64.wrap ((n:Int) * (n':Int)):=by
  have:((n:Int) * (n':Int))<=4096:=by exact_mod_cast hl
  have:0<=((n:Int) * (n':Int)):=by exact_mod_cast Nat.zero_le _
  rw[IntKind.wrap_i64];omega
 have Hb:=hbz w;go_enter Tryz.func118,Tryz.ntmps118;go_wp2_with fail;have q:=uU w 24 [ah (V:Int),.slice a n cap] 24 [ah (V:Int),.slice a' n' cap'] 24 [ah 0,.slice none 0 0];first|refine cd _ q ?_|refine cw _ q ?_
 clear q;rintro W ⟨Hp,Hq,Hr,ag⟩;obtain⟨p0,p1⟩:=Hp.out.c2;obtain⟨q0,q1⟩:=Hq.out.c2;obtain⟨r0,aH,r1,aI⟩:=Hr.out.g2;replace Hb:=az Hb ag;have yD:Hid (aM W):=hT.below Hb.out;have mQ:=Hp;have yQ:=Hq;have jN:=Hr;have dY:=Hb;go_wp2_with fail;go_loopw[6,25] (λs6 x wr=>∃(k:Nat) (v:Value),k<=n/\x=ah (k:Int)/\v=s6/\wr.ownsRow W.heap.size 67 4 v (k*n') ((ia (ta.take k) tb).flatMap aY)/\Bw W wr) (λ_ x _=>n-(intOf x).toNat);case atStart=>exact⟨0,_,Nat.zero_le _,rfl,rfl,by rw[Nat.zero_mul];exact World.ownsRow_nil _ _ _ _,Below.refl _ _⟩
 case round=>
  clear p0 p1 q0 q1 r0 aH r1 aI Hp Hq Hr Hb;obtain⟨k,v,hk,rfl,rfl,ho,pb⟩:=hrel;obtain⟨wo,hwo⟩:∃wo,wo=wr:=⟨_,rfl⟩;subst hwo;obtain⟨Hp,Hq,Hr⟩:=cX (mQ.out.below pb) (yQ.out.below pb) (jN.out.below pb);have bQ:=aO dY.out pb;have CS:=dY.out.size;by_cases hlt:k<n
  . have hk2:k<ta.length:=by rw[Hn.out];exact hlt
    obtain⟨l,s,m,ex,hx⟩:∃l s m e,ta[k]=(l,s,m,e):=⟨_,_,_,_,rfl⟩;obtain⟨b,o,hab,cj⟩:=(Ha.out.below bQ).term k hk2 hx;have bD:=gJ n cap k (k:Int) hab hlt rfl;have jm:=rK.out k hk2;rw[hx]at jm;have dG:=wT.out _ (List.getElem_mem hk2);have BX:=gQ.out _ (List.getElem_mem hk2);rw[hx]at dG BX;rw[<-GD.out]at ho;have JL:=Sw.out k hlt;have Ht:Hid (bH wo b (o+k*4) [ai l,aj s,ai m,ah ex]):=cj;obtain⟨Ho,bj,yJ,fO,Ga,Sy,eJ⟩:=mE ho pb jm dG BX JL bQ;have gM:=pb.size;clear ho pb jm dG BX JL hx hab cj bQ;have Hb:=hbz wo;obtain⟨p0,p1⟩:=Hp.out.c2;obtain⟨q0,q1⟩:=Hq.out.c2;obtain⟨t0,t1,t2,t3⟩:=Ht.out.w4;have Ml:=t0;have Mm:=t1;have Mn:=t2;have Mo:=t3;have ahd:=Hp.out.lt;have ava:=Hq.out.lt;obtain⟨W2,na,ag,Hx⟩:=cE wo 67 [ai l,aj s,ai m,ah ex];replace Hp:=kB Hp ag;replace Hq:=kB Hq ag;replace Ht:=kW Ht ag;obtain⟨p0,p1⟩:=Hp.out.c2;obtain⟨q0,q1⟩:=Hq.out.c2;obtain⟨t0,t1,t2,t3⟩:=Ht.out.w4;obtain⟨x0,x1,x2,x3⟩:=Hx.out.c4;replace Hb:=az Hb ag;go_wp2_with fail;have hs2:=Hb.out.size;have aeD:=bj.out.trans (Hb.out.mono gM);obtain⟨vz,ZW⟩:=aZ (ownsRow_below Ho.out Hb.out) aeD;have GG:Hid (∀g,v.ownBlock=some g->g≠wo.heap.size):=λg hg=>by have:=(Ho.out.lt g hg).2;omega
    clear aeD Ho bj t0 t1 t2 t3 Ht bD;go_loopw[6,32] (λs6 x wr=>∃(j:Nat) (v2:Value),j<=n'/\x=ah (j:Int)/\v2=s6/\wr.ownsRow W.heap.size 67 4 v2 (k*n'+j) ((oX ta tb k j).flatMap aY)/\(∀g,v2.ownBlock=some g->g≠wo.heap.size)/\au wr wo.heap.size 67 [ai l,aj s,ai m,ah ex]/\Bw W wr) (λ_ x _=>n'-(intOf x).toNat);case atStart=>exact⟨0,v,Nat.zero_le _,rfl,rfl,vz.out,GG.out,Hx.out,ZW.out⟩
    case round=>
     clear p0 p1 q0 q1 x0 x1 x2 x3 Hp Hq Hx Hb vz ZW GG;obtain⟨j,v2,hj,rfl,rfl,ho,Wt,Cy,pb⟩:=hrel;have bQ:=aO dY.out pb;by_cases bC:j<n'
     . have fZ:j<tb.length:=by rw[Dt.out];exact bC
       obtain⟨l',s',m',ut,hy⟩:∃l s m e,tb[j]=(l,s,m,e):=⟨_,_,_,_,rfl⟩;obtain⟨b',o',rQ,kO⟩:=(qD.out.below bQ).term j fZ hy;have Ov:=gJ n' cap' j (j:Int) rQ bC rfl;have il:=wU.out _ (List.getElem_mem fZ);have hdy:=jK.out _ (List.getElem_mem fZ);have rU:=SA.out k j fZ;rw[yJ.out,hy]at rU;rw[hy]at il hdy;obtain⟨D,hD⟩:=aK (aJ (s,m,ex) *aJ (s',m',ut));simp only at rU il hdy;rw[hD]at rU;have l1:=(se Ga.out.1);have l2:=(se hdy.1);have hmm:=λW=>avr l l' V W l1.1 l2.1 hV zo l1.2 l2.2 (λi _=>by have:=yw l i;have:=yw l' i;have h8:iY l<=d:=Ga.out.2;have h9:iY l'<=e:=hdy.2;omega);obtain⟨L,hL⟩:=aK (eT l l');rw[hL]at hmm rU;have fw:=λW c (h:au W c 48 [aj s,ai m,ah ex,aj s',ai m',ah ut]) (hT:aM W)=>xy s m ex s' m' ut D B hD c 2 48 W fO.out il zo h hT;have Ht:Hid (bH wr b' (o'+j*4) [ai l',aj s',ai m',ah ut]):=kO;have Hx:Hid (au wr wo.heap.size 67 [ai l,aj s,ai m,ah ex]):=Cy;obtain⟨Ho,bj,cn,RL,pp,GG,rc⟩:=mE ho pb rU hmm fw Wt (yD.out.below pb);have Yx:=pb.size;clear ho pb rU hmm fw Wt Cy kO rQ il hdy hD hL hy l1 l2 bQ;have Hb:=hbz wr;obtain⟨x0,x1,x2,x3⟩:=Hx.out.c4;obtain⟨t0,t1,t2,t3⟩:=Ht.out.w4;have tO:Hid (aM wr):=rc.out;clear rc;have Ml:=t0;have Mm:=t1;have Mn:=t2;have Mo:=t3;have Xd:=Hx.out.lt;obtain⟨W3,Et,ag,Hy⟩:=cE wr 67 [ai l',aj s',ai m',ah ut];replace Hx:=kB Hx ag;replace Ht:=kW Ht ag;replace tO:=kT tO ag;obtain⟨x0,x1,x2,x3⟩:=Hx.out.c4;obtain⟨t0,t1,t2,t3⟩:=Ht.out.w4;obtain⟨y0,y1,y2,y3⟩:=Hy.out.c4;replace Hb:=az Hb ag;go_wp2_with fail;refine(RL.out _).mono ?_;rintro e w4 ⟨rfl,ag⟩;obtain⟨Hx,x0,x1,x2,x3⟩:=dZ Hx ag;replace Ht:=kW Ht ag;replace tO:=kT tO ag;obtain⟨Hy,y0,y1,y2,y3⟩:=dZ Hy ag;obtain⟨t0,t1,t2,t3⟩:=Ht.out.w4;replace Hb:=az Hb ag;clear ag Ml Mm Mn Mo;have Kx0:=x0;have Kx1:=x1;have Kx2:=x2;have Kx3:=x3;have Ky0:=y0;have Ky1:=y1;have Ky2:=y2;have Ky3:=y3;have Am:=Hx.out.lt;have Xe:=Hy.out.lt;obtain⟨W5,xL,ag,Hc⟩:=cE w4 48 [aj s,ai m,ah ex,aj s',ai m',ah ut];replace Hx:=kB Hx ag;replace Ht:=kW Ht ag;replace tO:=kT tO ag;obtain⟨Hy,y0,y1,y2,y3⟩:=dZ Hy ag;obtain⟨x0,x1,x2,x3⟩:=Hx.out.c4;obtain⟨t0,t1,t2,t3⟩:=Ht.out.w4;obtain⟨c0,c1,c2,c3,c4,c5⟩:=Hc.out.c6;replace Hb:=az Hb ag;go_wp2_with fail;refine(pp.out _ _ Hc.out tO.out).mono ?_;rintro e w6 ⟨rfl,ag⟩;obtain⟨Hx,x0,x1,x2,x3⟩:=dZ Hx ag;replace Ht:=kW Ht ag;replace tO:=kT tO ag;obtain⟨Hy,y0,y1,y2,y3⟩:=dZ Hy ag;obtain⟨Hc,c0,c1,c2,c3,c4,c5⟩:=kR Hc ag;obtain⟨t0,t1,t2,t3⟩:=Ht.out.w4;replace Hb:=az Hb ag;clear ag Kx0 Kx1 Kx2 Kx3 Ky0 Ky1 Ky2 Ky3;have aES:=Hx.out.lt;have ahg:=Hy.out.lt;have aDR:=Hc.out.lt;obtain⟨W7,UO,ag,Hd⟩:=cE w6 67 [ai L,aj (aC (dN D)),ai (nt (dN D).natAbs),ah (dE D)];replace Hx:=kB Hx ag;replace Ht:=kW Ht ag;replace tO:=kT tO ag;replace Hy:=kB Hy ag;obtain⟨Hc,c0,c1,c2,c3,c4,c5⟩:=kR Hc ag;obtain⟨x0,x1,x2,x3⟩:=Hx.out.c4;obtain⟨t0,t1,t2,t3⟩:=Ht.out.w4;obtain⟨y0,y1,y2,y3⟩:=Hy.out.c4;obtain⟨d0,d1,d2,d3⟩:=Hd.out.c4;replace Hb:=az Hb ag;have hv:=ownsRow_below Ho.out Hb.out;have hnews:=gW Hd.out
       have hs7:=Hb.out.size;have hlx:=Hx.out.lt;have hkn:k*n'+j<4096:=by have h1:(k+1) *n'<=n*n':=Nat.mul_le_mul_right _ hlt;rw[Nat.succ_mul]at h1;omega
       go_wp2_with (at_builtin;refine wpList_append_own_at _ rfl _ _ 22 rfl W.heap.size 67 i0 _ 4 48 Tryz.underlying22 Hi.out dF.out dv.out di.out rfl zd v2 (k*n'+j) ((oX ta tb k j).flatMap aY) rfl hv ⟨w6.heap.size,0,none⟩ 1 1 [ai L,aj (aC (dN D)),ai (nt (dN D).natAbs),ah (dE D)] rfl rfl hnews zy zx zo zo ?_;intro v' w8 eV bM _ OI);rw[show(oX ta tb k j).flatMap aY++[Value.string (bs L),aj (aC (dN D)),ai (nt (dN D).natAbs),ah (dE D)]=(oX ta tb k (j+1)).flatMap aY from cn.out.symm]at eV;have jb:=ar eV;have gD:Hid (Bw W w8):=(bj.out.trans (Hb.out.mono Yx)).grown bM zo (λj e=>dX hv j e);have Hx8:Hid (au w8 wo.heap.size 67 [ai l,aj s,ai m,ah ex]):=Hx.out.grown bM (λe=>GG.out _ e.symm rfl);have anh:Hid (∀g,v'.ownBlock=some g->g≠wo.heap.size):=λg hg=>by
        rcases OI with h|h
        . exact GG.out g (h▸hg)
        . rw[h]at hg;have:=Option.some.inj hg;omega
       clear eV bM OI hv hnews x0 x1 x2 x3 y0 y1 y2 y3 t0 t1 t2 t3 c0 c1 c2 c3 c4 c5 d0 d1 d2 d3;go_roundw;case rel=>exact⟨j+1,v',by omega,by go_num,rfl,jb.out,anh.out,Hx8.out,gD.out⟩
       case measure=>exact bI
     . obtain rfl:j=n':=by omega
       rw[Sy.out,GD.out,show k*j+j=(k+1) *j from(Nat.succ_mul k j).symm]at ho;obtain⟨Ho,bj⟩:=aZ ho pb;clear ho pb Wt Cy bQ;go_wp2;go_roundw;case rel=>exact⟨k+1,v2,by omega,by go_num,rfl,Ho.out,bj.out⟩
       case measure=>exact bI
  . obtain rfl:k=n:=by omega
    rw[Be.out]at ho;have Hb:Hid (Bw w wo):=bQ;have hcl:=gP.out v W wo pb ho yD.out;have LJ:=ar hcl;clear hcl ho pb bQ;obtain⟨p0,p1⟩:=Hp.out.c2;obtain⟨r0,aH,r1,aI⟩:=Hr.out.g2;go_wp2_with fail;refine LJ.out.mono ?_;rintro e' w6 ⟨a9,d9,rfl,fT,ag⟩;obtain⟨xf,Sj,wO⟩:=cX (CM fT) (jN.out.below ag) (aO dY.out ag);clear fT ag Hp Hr Hb p0 p1 r0 aH r1 aI;obtain⟨r0,aH,r1,aI⟩:=Sj.out.g2;go_wp2;have h9:=xf.out.store Sj.out zd (ah (V:Int)) (.slice a9 C.length d9);refine fP (λw9=>bE w9 a9 d9 C/\au w9 (w.heap.size+1+1) 24 [ah (V:Int),.slice a9 C.length d9]/\Bw w w9) ⟨h9,(Sj.out.set 0 _).set 1 _,(wO.out.setCell zp _).setCell zp _⟩ ?_;rintro w9 ⟨q1,q2,q3⟩;obtain⟨x0,x1⟩:=q2.c2;exact bodyPost_ret (v:=.tuple #[.agg #[ah (V:Int),.slice a9 C.length d9],ah 0]) (by simp[results,Tryz.results118,go_sem,x0,x1]) rfl ⟨_,_,rfl,q1,q3⟩
end Go.Proofs.YtnjfebkelecgaaaGreatDoor
