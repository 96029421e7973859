/- ogeelaw21: whole,one,two;ogeeref08.Make;ogeeref21.Polys of the same;prod.power;hull.simple. -/
import Derived.Test.YtpfgffadgkkedaaGreatDoorZ7
import Derived.Test.YtpfgffadgkkedaaGreatDoorZ32
import Derived.Test.YtpfgffadgkkedaaGreatDoorZ23
import Derived.Test.YtpfgffadgkkedaaGreatDoorZ31
import Derived.Test.YtpfgffadgkkedaaGreatDoorZ34
import Derived.Test.YtpfgffadgkkedaaGreatDoorZ13
import Derived.Test.YtpfgffadgkkedaaGreatDoorZ19
import Derived.Test.YtpfgffadgkkedaaGreatDoorZ28
set_option linter.all false
set_option maxRecDepth 100000
set_option maxHeartbeats 16000000
namespace Go.Proofs.YtpfgffadgkkedaaGreatDoor
open Go.RowKit
attribute [local go_sem ↓] Go.wp_at_zero Go.wp_at_succ
def aur (n:Nat)(w:World)(h1:1<=n)(hn:n<=1000000):
 Cv 135 #[af (-(n:Int))] w (.agg #[ag true,ah (nt n)]):=by
 have h1:=λW=>afg n W (by rw[jr];omega);have H1:=aj h1;clear h1;have hlt: -(n:Int)<0:=by omega
 have hw1:IntKind.i64.wrap (-(n:Int)+1)= -(n:Int)+1:=by rw[IntKind.wrap_i64];omega
 have hw2:IntKind.i64.wrap (-(-(n:Int)+1))=(n:Int)-1:=by rw[IntKind.wrap_i64];omega
 have hw3:IntKind.u64.wrap ((n:Int)-1)=(n:Int)-1:=by rw[IntKind.wrap_u64];omega
 have hw4:IntKind.u64.wrap ((n:Int)-1+1)=(n:Int):=by rw[IntKind.wrap_u64];omega
 obtain⟨m,hm⟩:=au (nt n);rw[hm];have Hm:=aj hm;clear hm;obtain⟨W,cd,ae,ai⟩:=fJ w 43 [ag false,.string ⟨#[]⟩];go_enter Tryz.func135,Tryz.ntmps135;go_wp2_with fail;refine aK ae (H1.out _) λw1 ae ai=>?_;rw[Hm.out];go_wp2;refine dI (aN w1 (w.heap.size) 0 [ag true,ah m]) aR ?_;intro w9 hs0;have ae:=bC hs0 ae;simp only[bD,List.set]at ae;have ai:=qC ae;refine bodyPost_ret (v:=.agg #[ag true,ah m]) (by simp[results,Tryz.results135,go_sem,ai]) rfl ⟨rfl,ae.1.out⟩
def dZ (n:Int):Dyadic:=Dyadic.ofIntWithPrec n 0
def ae8 (V:Nat)(a:Option Addr)(n cap:Nat)(ts:List Trm)(B:Nat)(w:World)(hV:V<=12)(hn:ts.length=n)(hl:n<=4096)(ha:At w a (ts.flatMap aI))(hm:∀t∈ts,df t.1 (V:Int)=true)(mr:∀t∈ts,t.1.length<=12)(hf:∀t∈ts,mK t.2)(hs:∀t∈ts,Sm B (dval t.2))(hB:B+n<=16384):
 Cl 67 #[af (V:Int),.slice a n cap] w λex w'=>∃a' c',ex=.returned (.tuple #[.agg #[af (V:Int),.slice a' (aU ts).length c'],af 0])/\aW w' a' c' (aU ts)/\Bw w w':=by
 have qj:=λW (hW:Bw w W)=>aum V a n cap ts B W hn hl (ha.below hW) hf hs hB;obtain⟨C,hC⟩:=au (aU ts);simp only[hC]at qj⊢;obtain⟨sB,Ha,Hn,Hm,Fh⟩:=eD qj ha hn hm mr;clear qj ha hn hm mr hf hs hC;have hv1:¬(V:Int)<0:=by omega
 have hv2:¬(12:Int)<(V:Int):=by omega
 have wP:¬(65536:Int)<(n:Int):=by omega
 have Hb:=hbz w;go_enter Tryz.func67,Tryz.ntmps67;go_wp2_with fail;refine cF w (Hb.an trivial) 41 [af 0,.slice none 0 0] λW aG ae ai=>?_;go_loopw[6] (λx wr=>∃k:Nat,k<=n/\x=af (k:Int)/\ar wr w.heap.size 41 [af 0,.slice none 0 0]/\Bw w wr) (λx _=>n-(intOf x).toNat);case atStart=>exact⟨0,Nat.zero_le _,rfl,ae.1.out,ae.2.1.out⟩
 case round=>
  skip
  obtain⟨k,hk,rfl,hr,pb⟩:=hrel;obtain⟨Hr,Hb⟩:=aH hr pb;clear hr pb;by_cases hlt:k<n
  . have hk2:k<ts.length:=by rw[Hn.out];exact hlt
    obtain⟨l,s,m,e,hx⟩:∃l s m e,ts[k]=(l,s,m,e):=⟨_,_,_,_,rfl⟩;obtain⟨b,o,hab,hw⟩:=(Ha.out.below Hb.out).term k hk2 hx;have aX:=gX n cap k (k:Int) hab hlt rfl;have Im:df l (V:Int)=true:=by have:=Hm.out _ (List.getElem_mem hk2);rw[hx]at this;exact this
    have hl12:l.length<=12:=by have:=Fh.out _ (List.getElem_mem hk2);rw[hx]at this;exact this
    have Dz:∀W,Cv 141 #[ah l,af (V:Int)] W (ag true):=λW=>by have:=auq l (V:Int) W zo;rwa [Im]at this
    have Pf:=aj Dz;have Hy:Hid (aQ wr b (o+k*4) [ah l,ag s,ah m,af e]):=hw;clear Dz Im hab hw hx;obtain⟨ae,ai⟩:=qZ (Hr.an<|Hy.an trivial);go_wp2_with fail;refine aK (Hb.an ae) (Pf.out _) λw5 ae ai=>?_;go_wp2;go_roundw;case rel=>exact⟨k+1,by omega,by go_num,ae.2.1.out,ae.1.out⟩
    case measure=>exact bi
  . obtain rfl:k=n:=by omega
    obtain⟨ae,ai⟩:=qZ (Hr.an trivial);go_wp2_with fail;refine(sB.out _ Hb.out).mono ?_;rintro e w8 ⟨a',c',rfl,kv,ak⟩;obtain⟨ae,ai⟩:=qX ak (Hb.an ae);have HU:Hid (aW w8 (a') (c') C):=kv;clear kv;have Cf:=HU;have zZ:=ae.2.1;go_wp2;refine dI (aN w8 (w.heap.size) 0 [af (V:Int),.slice a' C.length c']) aR ?_;intro w9 hs0;have ae:=bC hs0 ae;simp only[bD,List.set]at ae;have ai:=qC ae;refine bodyPost_ret (v:=.tuple #[.agg #[af (V:Int),.slice a' C.length c'],af 0]) (by simp[results,Tryz.results67,go_sem,ai]) rfl ⟨a',c',rfl,Cf.out.sts zZ.out hs0,ae.1.out⟩
def CK {P:Trm->Prop}{x y:Trm}(hx:P x)(hy:P y):∀t∈[x,y],P t:=λt ht=>by simp only[List.mem_cons,List.not_mem_nil,or_false]at ht;rcases ht with rfl|rfl<;>assumption
def CJ {P:Trm->Prop}{x y z:Trm}(hx:P x)(hy:P y)(hz:P z):∀t∈[x,y,z],P t:=λt ht=>by simp only[List.mem_cons,List.not_mem_nil,or_false]at ht;rcases ht with rfl|rfl|rfl<;>assumption
def uK {B:Nat}{X:Dyadic}{l:List UInt8}(h:Sm B X):Sm B (dval ((l,canon X):Trm).2):=by show Sm B (dval (canon X));rw[bu];exact h
def lA (c a:Int):List Trm:=aU [([0],canon (dZ c)),([1],canon (dZ a))]
def gh (c a b:Int):List Trm:=aU [([0,0],canon (dZ c)),([1,0],canon (dZ a)),([0,1],canon (dZ b))]
def sV (n:Int)(h: -1000<=n/\n<=1000):Sm 10 (dZ n):=⟨n*2^10,by unfold dZ;exact(rT n 10 0).symm,by rw[Int.natAbs_mul,Int.natAbs_pow];show n.natAbs*2^10<2^(2*10);omega⟩
def Ew (n:Int)(D:Dyadic)(hD:dZ n=D)(w:World)(hn: -1000<=n/\n<=1000):
 Cv 169 #[af n] w (bT D):=by
 have hof:∀W,Cv 135 #[af n] W (.agg #[ag (az n),ah (nt n.natAbs)]):=λW=>by
  by_cases h:0<=n
  . obtain⟨k,rfl⟩:=Int.eq_ofNat_of_zero_le h;have:=aff k W zo;rw[show az (k:Int)=false by unfold az;simp];simpa using this
  . obtain⟨k,hk⟩:∃k:Nat,n= -(k:Int):=⟨n.natAbs,by omega⟩;subst hk;have:=aur k W zo zo;rw[show az (-(k:Int))=true by unfold az;simp;omega];simpa using this
 have hmk:=λW=>Vi (az n) (nt n.natAbs) 0 D (by rw[Aq];exact hD) W (Nat.le_trans (kC (k:=4) zo) zd) zo;generalize az n=s at*;generalize nt n.natAbs=m at*;obtain⟨nR,oJ⟩:=aH hof hmk;clear hof hmk hD;have KC:Hid (∀W,Cv 61 #[af n] W (bT D)):=λw=>by clear hn;obtain⟨W,cd,ae,ai⟩:=fJ w 45 [ag false,.string ⟨#[]⟩,af 0];go_enter Tryz.func61,Tryz.ntmps61;go_wp2_with fail;refine aK ae (nR.out _) λw1 ae ai=>?_;go_wp2_with fail;refine aK ae (oJ.out _) λw2 ae ai=>?_;go_wp2;refine dI (aN w2 (w.heap.size) 0 (bE D)) aR ?_;intro w9 hs0;have ae:=bC hs0 ae;simp only[bD,List.set]at ae;have ai:=qC ae;refine bodyPost_ret (v:=bT D) (by simp[results,Tryz.results61,go_sem,ai]) rfl ⟨rfl,ae.1.out⟩
 clear nR oJ hn;obtain⟨W,cd,ae,ai⟩:=fJ w 45 [ag false,.string ⟨#[]⟩,af 0];go_enter Tryz.func169,Tryz.ntmps169;go_wp2_with fail;refine aK ae (KC.out _) λw1 ae ai=>?_;go_wp2;refine dI (aN w1 (w.heap.size) 0 (bE D)) aR ?_;intro w9 hs0;have ae:=bC hs0 ae;simp only[bD,List.set]at ae;have ai:=qC ae;refine bodyPost_ret (v:=bT D) (by simp[results,Tryz.results169,go_sem,ai]) rfl ⟨rfl,ae.1.out⟩
def VC (c a b:Int)(hc: -1000<=c/\c<=1000)(ha: -1000<=a/\a<=1000)(hb: -1000<=b/\b<=1000)(C:List Trm)(hC:gh c a b=C)(w:World):
 Cl 91 #[af c,af a,af b] w λe w'=>∃a' c',e=.returned (.agg #[af 2,.slice a' C.length c'])/\aW w' a' c' C/\Bw w w':=by
 obtain⟨X,hX⟩:=au (dZ c);obtain⟨Y,hY⟩:=au (dZ a);obtain⟨Z,hZ⟩:=au (dZ b);have hw1:=λW=>Ew c X hX W hc;have hw2:=λW=>Ew a Y hY W ha;have hw3:=λW=>Ew b Z hZ W hb;have eY:Sm 10 X:=by rw[<-hX];exact sV c hc
 have tE:Sm 10 Y:=by rw[<-hY];exact sV a ha
 have wE:Sm 10 Z:=by rw[<-hZ];exact sV b hb
 have hmk:=λ(W:World) g (hg:ar W g 111 [.string (bs [0,0]),ag (az (dN X)),ah (nt (dN X).natAbs),af (dE X),.string (bs [1,0]),ag (az (dN Y)),ah (nt (dN Y).natAbs),af (dE Y),.string (bs [0,1]),ag (az (dN Z)),ah (nt (dN Z).natAbs),af (dE Z)])=>ae8 2 (some ⟨g,0,none⟩) 3 3 [([0,0],canon X),([1,0],canon Y),([0,1],canon Z)] 10 W zd rfl zd (At.azW hg)
  (CJ (show df [0,0] ((2:Nat):Int)=true by decide) (show df [1,0] ((2:Nat):Int)=true by decide) (show df [0,1] ((2:Nat):Int)=true by decide)) (CJ (show 2<=12 by decide) (show 2<=12 by decide) (show 2<=12 by decide)) (CJ (eY.az0 zd) (tE.az0 zd) (wE.az0 zd)) (CJ (uK eY) (uK tE) (uK wE)) zd
 unfold gh at hC;rw[hX,hY,hZ]at hC;simp only[hC]at hmk;obtain⟨xS,KA,Hw3,oJ⟩:=cG hw1 hw2 hw3 hmk;clear hw1 hw2 hw3 hmk hX hY hZ eY tE wE hC hc ha hb;have Hb:=hbz w;go_enter Tryz.func91,Tryz.ntmps91;go_wp2_with fail;refine cF w (Hb.an trivial) 41 [af 0,.slice none 0 0] λW aG ae ai=>?_;go_wp2_with fail;refine aK ae (xS.out _) λw1 ae ai=>?_;go_wp2_with fail;refine aK ae (KA.out _) λw2 ae ai=>?_;go_wp2_with fail;refine aK ae (Hw3.out _) λw3 ae ai=>?_;have aG:=qL ae;go_wp2_with fail;refine cF w3 ae 111 [.string (bs [0,0]),ag (az (dN X)),ah (nt (dN X).natAbs),af (dE X),.string (bs [1,0]),ag (az (dN Y)),ah (nt (dN Y).natAbs),af (dE Y),.string (bs [0,1]),ag (az (dN Z)),ah (nt (dN Z).natAbs),af (dE Z)] λW4 aG ae ai=>?_;go_wp2_with fail;refine(oJ.out _ _ ae.1.out).mono ?_;rintro e w5 ⟨a',c',rfl,tX,ak⟩;obtain⟨ae,ai⟩:=qX ak ae;have HU:Hid (aW w5 (a') (c') C):=tX;clear tX;obtain⟨W6,pW,aG,ae,ai⟩:=bO w5 (HU.an ae) 41 [af 2,.slice a' C.length c'];have HU5:=ae.2.1;have Ct:=ae.2.2.2.1;go_wp2;refine dI (aN W6 (w.heap.size) 0 [af 2,.slice a' C.length c']) aR ?_;intro w9 hs0;have ae:=bC hs0 ae;simp only[bD,List.set]at ae;have ai:=qC ae;refine bodyPost_ret (v:=.agg #[af 2,.slice a' C.length c']) (by simp[results,Tryz.results91,go_sem,ai]) rfl ⟨a',c',rfl,HU5.out.sts Ct.out hs0,ae.2.2.2.2.1.out⟩
def ad3 (n:Int)(D:Dyadic)(hD:dZ n=D)(V:Int)(a:Option Addr)(k c:Nat)(w:World)(hn: -1000<=n/\n<=1000):
 Cv 90 #[af n,.agg #[af V,.slice a k c]] w (.agg #[af 0,ag (az (dN D)),ah (nt (dN D).natAbs),af (dE D),af V,.slice a k c]):=by
 have hw:=λW=>Ew n D hD W hn;have Hw:=aj hw;clear hw hD hn;have Hb:=hbz w;go_enter Tryz.func90,Tryz.ntmps90;go_wp2_with fail;refine gP w (Hb.an trivial) 41 [af V,.slice a k c] 127 [af 0,ag false,.string ⟨#[]⟩,af 0,af 0,.slice none 0 0] λW aG ae ai=>?_;go_wp2_with fail;refine cQ 4 ae (cJ 5 0x807020501) ?_;refine bo ?_;refine bP ae (Hw.out _) λw1 ae=>?_;refine bo ?_;have ai:=qC ae;refine qOp λK hK=>?_;go_simp;refine hK _ _ (λh=>absurd h zd) ?_;try simp only[UU]
 refine cg (aN w1 (w.heap.size+1) 0 [af 0,ag (az (dN D)),ah (nt (dN D).natAbs),af (dE D),af V,.slice a k c]) aR ?_;intro w3 hs0;have ae:=bC hs0 ae;simp only[bD,List.set]at ae;have ai:=qC ae;refine cP ae λai=>?_;go_wp2;have Hb:=ae.2.2.1;go_wp2;exact bodyPost_ret (v:=.agg #[af 0,ag (az (dN D)),ah (nt (dN D).natAbs),af (dE D),af V,.slice a k c]) (by simp[results,Tryz.results90,go_sem,ai]) rfl ⟨rfl,cK⟩
end Go.Proofs.YtpfgffadgkkedaaGreatDoor
namespace Go.Proofs.YtpfgffadgkkedaaGreatDoor
open Go.RowKit
def UC (c a:Int):DegT 1 1 (lA c a):=DegT.clean (CK ⟨by show df [0] _=true;decide,by show gB [0]<=1;decide⟩ ⟨by show df [1] _=true;decide,by show gB [1]<=1;decide⟩)
def aeV (c a:Int)(hc: -1000<=c/\c<=1000)(ha: -1000<=a/\a<=1000):∀t∈lA c a,Sm 11 (dval t.2):=sU (k:=1) (CK (uK (sV c hc)) (uK (sV a ha))) (Nat.le_refl 2)
def aeT (c a:Int)(hc: -1000<=c/\c<=1000)(ha: -1000<=a/\a<=1000):dU 1 200 (lA c a):=
 sZ (jJ _) (UC c a) (by have:=kV [(([0]:List UInt8),canon (dZ c)),([1],canon (dZ a))];unfold lA;simp only[List.length_cons,List.length_nil]at this;omega) zd (λt ht=>(aeV c a hc ha t ht).mono zd) zd
def VJ (c a b:Int):DegT 2 1 (gh c a b):=DegT.clean (CJ ⟨by show df [0,0] _=true;decide,by show gB [0,0]<=1;decide⟩ ⟨by show df [1,0] _=true;decide,by show gB [1,0]<=1;decide⟩ ⟨by show df [0,1] _=true;decide,by show gB [0,1]<=1;decide⟩)
def afX (c a b:Int)(hc: -1000<=c/\c<=1000)(ha: -1000<=a/\a<=1000)(hb: -1000<=b/\b<=1000):dU 2 20 (gh c a b):=
 sZ (jJ _) (VJ c a b) (by have:=kV [(([0,0]:List UInt8),canon (dZ c)),([1,0],canon (dZ a)),([0,1],canon (dZ b))];unfold gh;simp only[List.length_cons,List.length_nil]at this;omega) zd (λt ht=>(sU (k:=2) (CJ (uK (sV c hc)) (uK (sV a ha)) (uK (sV b hb))) (show 3<=4 by decide) t ht).mono zd) zd
def avT (c a b:Int)(hc: -1000<=c/\c<=1000)(ha: -1000<=a/\a<=1000)(hb: -1000<=b/\b<=1000):∀t∈gh c a b,t.1.length<=1000/\Fit 20 t.2/\degN t.1<=1:=λt ht=>
 ⟨by have:=Bz (VJ c a b t ht).1;omega,(afX c a b hc ha hb).2 t ht,(VJ c a b t ht).2⟩
end Go.Proofs.YtpfgffadgkkedaaGreatDoor
