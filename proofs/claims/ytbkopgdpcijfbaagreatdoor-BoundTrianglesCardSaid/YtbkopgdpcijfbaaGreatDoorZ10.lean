/- Package dyad,on: Add,Sub,Mul,Cmp,Abs. -/
import Derived.Test.YtbkopgdpcijfbaaGreatDoorZ7
import Derived.Test.YtbkopgdpcijfbaaGreatDoorZ9
import Derived.Test.YtbkopgdpcijfbaaGreatDoorZ1
set_option linter.all false
set_option maxRecDepth 100000
set_option maxHeartbeats 16000000
namespace Go.Proofs.YtbkopgdpcijfbaaGreatDoor
open Go.RowKit
attribute [local go_sem ↓] Go.wp_at_zero Go.wp_at_succ
def abf (X Y:Int)(n:Nat)(hX:(nt X.natAbs).length<=n)(hY:(nt Y.natAbs).length<=n):(nt (X+Y).natAbs).length<=n+1:=by have h1:=jH (nt X.natAbs);have h2:=jH (nt Y.natAbs);rw[jP]at h1 h2;have h3:=Nat.lt_of_lt_of_le h1 (Nat.pow_le_pow_right (show 0<256 by decide) hX);have h4:=Nat.lt_of_lt_of_le h2 (Nat.pow_le_pow_right (show 0<256 by decide) hY);refine oz ?_;rw[Nat.pow_succ];omega
def awv (X Y:Int)(m n:Nat)(hX:(nt X.natAbs).length<=m)(hY:(nt Y.natAbs).length<=n):(nt (X*Y).natAbs).length<=m+n:=by have h1:=jH (nt X.natAbs);have h2:=jH (nt Y.natAbs);rw[jP]at h1 h2;have h3:=Nat.lt_of_lt_of_le h1 (Nat.pow_le_pow_right (show 0<256 by decide) hX);have h4:=Nat.lt_of_lt_of_le h2 (Nat.pow_le_pow_right (show 0<256 by decide) hY);refine oz ?_;rw[Int.natAbs_mul,Nat.pow_add];exact Nat.mul_lt_mul'' h3 h4
def aiV (v k:Int)(a b:Nat)(hv:v.natAbs<2^a)(hk:k<=b):(pS v k).natAbs<2^(a+b):=by
 have h0:v.natAbs<2^(a+b):=Nat.lt_of_lt_of_le hv (Nat.pow_le_pow_right zd zo);unfold pS;split
 . rw[Int.natAbs_mul,Int.natAbs_pow,Nat.pow_add];refine Nat.lt_of_le_of_lt (Nat.mul_le_mul_left _ (Nat.pow_le_pow_right zd (show k.toNat<=b by omega))) ?_;exact Nat.mul_lt_mul_of_pos_right hv (Nat.pow_pos zd)
 . have hp:(0:Int)<2^(-k).toNat:=by
    have:((2^(-k).toNat:Nat):Int)>0:=by have:=Nat.pow_pos (n:=(-k).toNat) (show 0<2 by decide);omega
    simpa[Int.natCast_pow]using this
   generalize (2:Int)^(-k).toNat=p at*;have:(v/p).natAbs<=v.natAbs:=by
    rcases Int.le_total 0 v with h|h
    . have h1:=Int.ediv_nonneg h (by omega:(0:Int)<=p);have h2:=Int.ediv_le_self p h;omega
    . have h1:v<=v/p:=by rw[Int.le_ediv_iff_mul_le hp];have:=Int.mul_le_mul_of_nonpos_left h (show(1:Int)<=p by omega);omega
      have h2:v/p<=0:=by have:=Int.ediv_le_ediv hp h;simpa using this
      omega
   omega
def aht {x y:Raw}(hx:Ok x)(hy:Ok y)(A B:Dyadic)(hA:au x=A)(hB:au y=B):∃g X Y,wT A B=g/\pS (dN A) (dE A-g)=X/\pS (dN B) (dE B-g)=Y/\A=Dyadic.ofIntWithPrec X (-g)/\B=Dyadic.ofIntWithPrec Y (-g)/\
 (nt X.natAbs).length<=17179869183/\(nt Y.natAbs).length<=17179869183/\ -1099511627776<=g/\g<=1099511627776:=by
 subst hA hB;obtain⟨M,hM,sx,sy⟩:∃M,M<=4294967296/\Sm M (au x)/\Sm M (au y):=⟨4294967296,Nat.le_refl _,hx.sm,hy.sm⟩;obtain⟨a1,a2,a3⟩:=sx.parts;obtain⟨b1,b2,b3⟩:=sy.parts;generalize au x=A at*;generalize au y=B at*;obtain⟨h1,h2⟩:=avO A B;have hg: -(M:Int)<=wT A B/\wT A B<=M:=by
  clear a1 b1;unfold wT;split
  . omega
  . split<;>omega
 refine⟨wT A B,_,_,rfl,rfl,rfl,aig A _ h1,aig B _ h2,?_,?_,?_,?_⟩
 . exact jK (aiV _ _ _ (2*M) a1 (by clear a1 b1;omega)) zo
 . exact jK (aiV _ _ _ (2*M) b1 (by clear a1 b1;omega)) zo
 . clear a1 b1;omega
 . clear a1 b1;omega
def bu (x:Raw):List Value:=[ag x.1,ah x.2.1,af x.2.2]
def mO :List Raw->Dyadic
 |[]=>0
 |x::xs=>au x+mO xs
def arl (xs ys:List Raw):mO (xs++ys)=mO xs+mO ys:=by
 induction xs with
 |nil=>simp only[List.nil_append,mO];grind
 |cons x xs ih=>simp only[List.cons_append,mO,ih];grind
def aro (xs:List Raw)(k:Nat)(hk:k<xs.length):mO (xs.take (k+1))=mO (xs.take k)+au xs[k]:=by rw[List.take_succ_eq_append_getElem hk,arl];simp only[mO];grind
def jU :List Raw->Dyadic
 |[]=>1
 |x::xs=>au x*jU xs
def ari (xs ys:List Raw):jU (xs++ys)=jU xs*jU ys:=by
 induction xs with
 |nil=>simp only[List.nil_append,jU];grind
 |cons x xs ih=>simp only[List.cons_append,jU,ih];grind
def ark (xs:List Raw)(k:Nat)(hk:k<xs.length):jU (xs.take (k+1))=jU (xs.take k) *au xs[k]:=by rw[List.take_succ_eq_append_getElem hk,ari];simp only[jU];grind
def aA3 (X Y N:Int)(hN:X+Y=N)(b cap:Nat)(ty:TypeId)(w:World)(hl:(nt X.natAbs).length<=34359738368)(hm:(nt Y.natAbs).length<=34359738368)
 (ha:ar w b ty [ag (az X),ah (nt X.natAbs),ag (az Y),ah (nt Y.natAbs)]):
 Cv 166 #[.slice (some ⟨b,0,none⟩) 2 cap] w (cd N):=by
 have:=Yv (az X) (nt X.natAbs) (az Y) (nt Y.natAbs) b cap ty w hl hm ha;rw[dH,dH,hN]at this;exact this
def ajT (s:Bool)(l:List UInt8)(t:Bool)(m:List UInt8)(N:Int)(hN:iv s l*iv t m=N)(b cap:Nat)(ty:TypeId)(w:World)(hl:l.length<=17179869184)(hm:m.length<=17179869184)
 (ha:ar w b ty [ag s,ah l,ag t,ah m]):
 Cv 153 #[.slice (some ⟨b,0,none⟩) 2 cap] w (cd N):=by
 have:=aA9 [(s,l),(t,m)] (some ⟨b,0,none⟩) cap w (by simp[sK];omega) zm (At.aGr ha);have e:iK [(s,l),(t,m)]=N:=by rw[<-hN];simp[iK]
 rw[e]at this;exact this
def aqG (xs:List Raw)(a:Option Addr)(cap:Nat)(w:World)(hl:∀x∈xs,Ok x)(hS:∀k,Ok (canon (mO (xs.take k))))(hx:xs.length<=1048576)
 (ha:At w a (xs.flatMap bu)) (hT:aC w):
 Cv 75 #[.slice a xs.length cap] w (bT (mO xs)):=by
 have Hl:=aj hl;clear hl;have HS:=aj hS;clear hS;have Ha:=aj ha;clear ha;have eK:=aj hT;clear hT;go_enter Tryz.func75,Tryz.ntmps75;have Hb:=hbz w;go_wp2_with fail;refine lw w (Hb.an trivial) 30 [ag false,.string (bs []),af 0] 30 [ag false,.string (bs []),af 0] λW aR ae ak=>?_
 go_loopw[5,6,9] (λ_ _ i wr=>∃(k:Nat),k<=xs.length/\i=af k/\ar wr w.heap.size 30 [ag false,.string (bs []),af 0]/\
  ar wr (w.heap.size+1) 30 (bu (canon (mO (xs.take k))))/\Bw w wr) (λ_ _ i _=>xs.length-(intOf i).toNat)
 case atStart=>exact⟨0,Nat.zero_le _,rfl,ae.1.out,ae.2.1.out,ae.2.2.1.out⟩
 case round=>
  obtain⟨k,hk,rfl,qr,qs,hb⟩:=hrel;obtain⟨Hr,Hs,Hb⟩:=cw qr qs hb;clear qr qs hb;by_cases hlt:k<xs.length
  . obtain ⟨b,o,hab,hcs⟩:=(Ha.out.below Hb.out).elem (f:=bu) (sz:=3) (fun _=>rfl) zd k hlt;have hc0:wr.cell? ⟨b,o+k*3,none⟩=some (ag xs[k].1):=hcs 0 zd;have hc1:wr.cell? ⟨b,o+k*3+1,none⟩=some (.string (bs xs[k].2.1)):=hcs 1 zd;have hc2:wr.cell? ⟨b,o+k*3+2,none⟩=some (af xs[k].2.2):=hcs 2 zd;have bD:=mg xs.length cap k (k:Int) hab hlt rfl;have bR:=aj (aro xs k hlt);have qo:Hid (Ok xs[k]):=Hl.out _ (List.getElem_mem hlt);have jz:=aj (HS.out k);clear hcs hab;generalize xs[k]=x at*;obtain⟨t1,l1,e1⟩:=x;generalize hS:mO (xs.take k)=S at*;clear hS;obtain⟨g,X,Y,hg,hX,hY,eA,eB,lX,lY,hg1,hg2⟩:=aht jz.out qo.out S (au (t1,l1,e1)) (bF S) rfl;obtain⟨N,hN⟩:=aB (X+Y);obtain⟨D,hD⟩:=aB (S+au (t1,l1,e1));have HD:Hid (au (az N,nt N.natAbs,g)=D):=by
     show _=_
     rw[Ek,<-hD,<-hN,<-uh,<-eA,<-eB]
    have Rl:Hid ((nt N.natAbs).length<=34359738368):=by show _<=_;rw[<-hN];exact Nat.le_trans (abf X Y _ lX lY) zd
    rw[hD]at bR;have DC:Hid (∀W,aC W->Cv 144 #[bT S,.agg #[ag t1,ah l1,af e1]] W (.agg #[af g,ag (az X),ah (nt X.natAbs),ag (az Y),ah (nt Y.natAbs)])):=λW hW=>
     ahg _ _ _ t1 l1 e1 S (au (t1,l1,e1)) (bF S) rfl g X Y hg hX hY W jz.out qo.out hW
    have LX:Hid ((nt X.natAbs).length<=34359738368):=by show _<=_;omega
    have LY:Hid ((nt Y.natAbs).length<=34359738368):=by show _<=_;omega
    have Hg:Hid (-1099511627776<=g/\g<=1099511627776):=⟨hg1,hg2⟩;have HN:=aj hN;clear eA eB hg hX hY lX lY hN hD hg1 hg2 jz qo;unfold bu canon at Hs;simp only at Hs;obtain⟨ae,ak⟩:=qZ (Hr.an<|Hs.an trivial);have aR:=qL (Hb.an ae);go_wp2_with fail;refine ik wr (Hb.an ae) 30 [ag t1,ah l1,af e1] λW1 aR ae ak=>?_;have HT:=aj (eK.out.below ae.2.1.out);go_wp2_with fail;refine aJ ae (DC.out _ HT.out) λw1 ae ak=>?_;have aR:=qL ae;go_wp2_with fail;refine ik w1 ae 194 [af g,ag (az X),ah (nt X.natAbs),ag (az Y),ah (nt Y.natAbs)] λW2 aR ae ak=>?_;refine fT 9 ae (fH 10 0x12100a080f0d07050301) ?_;refine cG ?_;refine vG 28 [ag (az X),ah (nt X.natAbs),ag (az Y),ah (nt Y.natAbs)] ae λW3 aR ae=>?_;refine cV ae (aA3 X Y N HN.out W2.heap.size 2 28 _ LX.out LY.out ae.1.out) λw3 ae=>?_;refine cV ae (yF (az N) (nt N.natAbs) g D HD.out _ Rl.out Hg.out (qU (eK.out.below ae.2.2.2.1.out))) λw4 ae=>?_;have ak:=qC ae;refine qOp λK hK=>?_;go_simp;refine hK _ _ (λh=>absurd h zd) ?_
    refine cB (aV w4 (w.heap.size+1) 0 [ag (az (dN D)),ah (nt (dN D).natAbs),af (dE D)]) aX ?_;intro w5 hs0;have ae:=bU hs0 ae;simp only[bV,List.set]at ae;have ak:=qC ae;refine fR ae λak=>?_;go_wp2;go_roundw;case rel=>
     refine⟨k+1,by omega,by go_num,ae.2.2.2.2.1.out,?_,ae.2.2.2.1.out⟩;rw[bR.out];exact ae.2.2.2.2.2.1.out
    case measure=>exact bC
  . obtain rfl:k=xs.length:=by omega
    rw[List.take_length]at Hs;unfold bu canon at Hs;simp only at Hs;obtain⟨ae,ak⟩:=qZ (Hr.an<|Hs.an trivial);have r0:wr.cell? ⟨w.heap.size,0,none⟩=some (ag false):=ae.1.out.cell 0;have r1:wr.cell? ⟨w.heap.size,1,none⟩=some (.string (bs [])):=ae.1.out.cell 1;have r2:wr.cell? ⟨w.heap.size,2,none⟩=some (af 0):=ae.1.out.cell 2;go_wp2;exact bodyPost_ret (v:=bT (mO xs)) (by simp[results,Tryz.results75,go_sem,r0,r1,r2,ak]) rfl ⟨rfl,df⟩
def Sm.one :Sm 1 1:=⟨2,by rfl,by decide⟩
def arn {B:Nat}(xs:List Raw)(h:∀x∈xs,Sm B (au x)):Sm (B+xs.length) (mO xs):=by
 induction xs with
 |nil=>exact Sm.zero _
 |cons x xs ih=>have h1:=h x zm;have h2:=ih (λy hy=>h y (by simp[hy]));exact(Sm.add (h1.mono (by omega:B<=B+xs.length)) h2)
def arj {B:Nat}(xs:List Raw)(h:∀x∈xs,Sm B (au x)):Sm (B*xs.length+1) (jU xs):=by
 induction xs with
 |nil=>exact Sm.one
 |cons x xs ih=>have h1:=h x zm;have h2:=ih (λy hy=>h y (by simp[hy]));have:=Sm.mul h1 h2;rw[show B* (x::xs).length+1=B+(B*xs.length+1)by rw[List.length_cons,Nat.mul_add];omega];exact this
def Fit (B:Nat)(x:Raw):Prop:=Ok x/\Sm B (au x)
def Fit.mono {A B:Nat}{x:Raw}(h:Fit A x)(TK:A<=B):Fit B x:=⟨h.1,h.2.mono TK⟩
def Sm.fit {B:Nat}{d:Dyadic}(h:Sm B d)(hB:B<=268435456):Fit B (canon d):=⟨h.ok hB,by rw[bF];exact h⟩
def aqH (xs:List Raw)(B:Nat)(S:Dyadic)(hS:mO xs=S)(a:Option Addr)(cap:Nat)(w:World)(hl:∀x∈xs,Fit B x)(hB:B+xs.length<=268435456)(hx:xs.length<=1048576)
 (ha:At w a (xs.flatMap bu)) (hT:aC w):
 Cv 75 #[.slice a xs.length cap] w (bT S):=by
 subst hS;refine aqG xs a cap w (λx h=>(hl x h).1) (λk=>?_) hx ha hT;refine Sm.ok (B:=B+xs.length) (Sm.mono (arn (B:=B) _ (λx h=>(hl x (List.mem_of_mem_take h)).2)) ?_) hB;rw[List.length_take];omega
def aqK (xs:List Raw)(a:Option Addr)(cap:Nat)(w:World)(hl:∀x∈xs,Ok x)(hS:∀k,Ok (canon (jU (xs.take k))))(hx:xs.length<=1048576)
 (ha:At w a (xs.flatMap bu)) (hT:aC w):
 Cv 61 #[.slice a xs.length cap] w (bT (jU xs)):=by
 have Hl:=aj hl;clear hl;have HS:=aj hS;clear hS;have Ha:=aj ha;clear ha;have eK:=aj hT;clear hT;obtain⟨I,hI⟩:∃I:Dyadic,1=I:=⟨_,rfl⟩;have HI:Hid (Dyadic.ofIntWithPrec 1 0=I):=by show _=_;rw[<-hI];rfl
 have Lm:=aj hI;clear hI;go_enter Tryz.func61,Tryz.ntmps61;have Hb:=hbz w;go_wp2_with fail;refine ik w (Hb.an trivial) 30 [ag false,.string (bs []),af 0] λW aR ae ak=>?_;have HT:=aj (eK.out.below ae.2.1.out);go_wp2_with fail;refine aJ ae (uP 1 I HI.out _ zo HT.out) λw2 ae ak=>?_;have aR:=qL ae;go_wp2_with fail;refine ik w2 ae 30 [ag (az (dN I)),ah (nt (dN I).natAbs),af (dE I)] λW2 aR ae ak=>?_
 go_loopw[5,9] (λ_ i wr=>∃(k:Nat),k<=xs.length/\i=af k/\ar wr w.heap.size 30 [ag false,.string (bs []),af 0]/\
  ar wr w2.heap.size 30 (bu (canon (jU (xs.take k))))/\Bw w wr) (λ_ i _=>xs.length-(intOf i).toNat)
 case atStart=>
  refine⟨0,Nat.zero_le _,rfl,ae.2.1.out,?_,ae.2.2.1.out⟩;have e:jU (xs.take 0)=I:=by rw[<-Lm.out];rfl
  rw[e];exact ae.1.out
 case round=>
  obtain⟨k,hk,rfl,qr,qs,hb⟩:=hrel;obtain⟨Hr,Hs,Hb⟩:=cw qr qs hb;clear qr qs hb HT;by_cases hlt:k<xs.length
  . obtain ⟨b,o,hab,hcs⟩:=(Ha.out.below Hb.out).elem (f:=bu) (sz:=3) (fun _=>rfl) zd k hlt;have hc0:wr.cell? ⟨b,o+k*3,none⟩=some (ag xs[k].1):=hcs 0 zd;have hc1:wr.cell? ⟨b,o+k*3+1,none⟩=some (.string (bs xs[k].2.1)):=hcs 1 zd;have hc2:wr.cell? ⟨b,o+k*3+2,none⟩=some (af xs[k].2.2):=hcs 2 zd;have bD:=mg xs.length cap k (k:Int) hab hlt rfl;have bR:=aj (ark xs k hlt);have qo:Hid (Ok xs[k]):=Hl.out _ (List.getElem_mem hlt);have jz:=aj (HS.out k);clear hcs hab;generalize xs[k]=x at*;obtain⟨t1,l1,e1⟩:=x;generalize hS:jU (xs.take k)=S at*;clear hS;obtain⟨N,hN⟩:=aB (dN S*iv t1 l1);obtain⟨D,hD⟩:=aB (S*au (t1,l1,e1));obtain⟨g,hg⟩:=aB (dE S+e1);have HD:Hid (au (az N,nt N.natAbs,g)=D):=by
     show _=_
     rw[Ek,<-hD,<-hN];conv=>rhs;rw[vD S]
     unfold au;rw[ui];congr 1;simp only;omega
    have o1:=jz.out.exp;have o2:=qo.out.exp;have o3:=jz.out.len;have o4:=qo.out.len;have Rl:Hid ((nt N.natAbs).length<=34359738368):=by
     show _<=_
     have h2:=Fh t1 l1 268435456 o4;rw[Int.natAbs_neg]at h2;rw[<-hN];exact Nat.le_trans (awv (dN S) (iv t1 l1) _ _ o3 h2) zd
    rw[hD]at bR;have LX:Hid ((nt (dN S).natAbs).length<=17179869184):=by show _<=_;omega
    have LY:Hid (l1.length<=17179869184):=by show _<=_;omega
    have Hg:Hid (-1099511627776<=g/\g<=1099511627776):=by show _/\_;omega
    have Kb:IntKind.i64.wrap (dE S+e1)=g:=by rw[IntKind.wrap_i64];omega
    have HN:Hid (iv (az (dN S)) (nt (dN S).natAbs) *iv t1 l1=N):=by show _=_;rw[dH];exact hN
    clear hg hN hD jz qo o1 o2 o3 o4;unfold bu canon at Hs;simp only at Hs;have hrs:w.heap.size<w2.heap.size:=zo;obtain⟨ae,ak⟩:=qZ (Hr.an<|Hs.an trivial);have aR:=qL (Hb.an ae);go_wp2_with fail;refine ik wr (Hb.an ae) 30 [ag t1,ah l1,af e1] λW1 aR ae ak=>?_;refine fT 12 ae (fH 13 0x18160a081513110f0d07050301) ?_;refine cG ?_;refine vG 28 [ag (az (dN S)),ah (nt (dN S).natAbs),ag t1,ah l1] ae λW3 aR ae=>?_;refine cV ae (ajT (az (dN S)) (nt (dN S).natAbs) t1 l1 N HN.out W1.heap.size 2 28 _ LX.out LY.out ae.1.out) λw3 ae=>?_;refine cV ae (yF (az N) (nt N.natAbs) g D HD.out _ Rl.out Hg.out (qU (eK.out.below ae.2.2.1.out))) λw4 ae=>?_;have ak:=qC ae;refine qOp λK hK=>?_;go_simp;refine hK _ _ (λh=>absurd h zd) ?_
    refine cB (aV w4 (w2.heap.size) 0 [ag (az (dN D)),ah (nt (dN D).natAbs),af (dE D)]) aX ?_;intro w5 hs0;have ae:=bU hs0 ae;simp only[bV,List.set]at ae;have ak:=qC ae;refine fR ae λak=>?_;go_wp2;go_roundw;case rel=>
     refine⟨k+1,by omega,by go_num,ae.2.2.2.1.out,?_,ae.2.2.1.out⟩;rw[bR.out];exact ae.2.2.2.2.1.out
    case measure=>exact bC
  . obtain rfl:k=xs.length:=by omega
    rw[List.take_length]at Hs;unfold bu canon at Hs;simp only at Hs;obtain⟨ae,ak⟩:=qZ (Hr.an<|Hs.an trivial);have r0:wr.cell? ⟨w.heap.size,0,none⟩=some (ag false):=ae.1.out.cell 0;have r1:wr.cell? ⟨w.heap.size,1,none⟩=some (.string (bs [])):=ae.1.out.cell 1;have r2:wr.cell? ⟨w.heap.size,2,none⟩=some (af 0):=ae.1.out.cell 2;go_wp2;exact bodyPost_ret (v:=bT (jU xs)) (by simp[results,Tryz.results61,go_sem,r0,r1,r2,ak]) rfl ⟨rfl,df⟩
def MI (xs:List Raw)(B:Nat)(S:Dyadic)(hS:jU xs=S)(a:Option Addr)(cap:Nat)(w:World)(hl:∀x∈xs,Fit B x)(hB:B*xs.length+1<=268435456)(hx:xs.length<=1048576)
 (ha:At w a (xs.flatMap bu)) (hT:aC w):
 Cv 61 #[.slice a xs.length cap] w (bT S):=by
 subst hS;refine aqK xs a cap w (λx h=>(hl x h).1) (λk=>?_) hx ha hT;refine Sm.ok (B:=B*xs.length+1) (Sm.mono (arj (B:=B) _ (λx h=>(hl x (List.mem_of_mem_take h)).2)) ?_) hB;rw[List.length_take];have:B*min k xs.length<=B*xs.length:=Nat.mul_le_mul_left _ zo;omega
def xU (s:Bool)(l:List UInt8)(e:Int)(t:Bool)(m:List UInt8)(f:Int)(S:Dyadic)(B:Nat)(hS:au (s,l,e)+au (t,m,f)=S)(b cap:Nat)(ty:TypeId)(w:World)(hx:Fit B (s,l,e))(hy:Fit B (t,m,f))(hB:B+2<=268435456)
 (ha:ar w b ty [ag s,ah l,af e,ag t,ah m,af f]) (hT:aC w):
 Cv 75 #[.slice (some ⟨b,0,none⟩) 2 cap] w (bT S):=
 aqH [(s,l,e),(t,m,f)] B S (by rw[<-hS];simp only[mO];grind) _ cap w (by intro x h;simp at h;rcases h with rfl|rfl;exact hx;exact hy) hB zm (At.aGr ha) hT
def tB (s:Bool)(l:List UInt8)(e:Int)(t:Bool)(m:List UInt8)(f:Int)(S:Dyadic)(B:Nat)(hS:au (s,l,e) *au (t,m,f)=S)(b cap:Nat)(ty:TypeId)(w:World)(hx:Fit B (s,l,e))(hy:Fit B (t,m,f))(hB:2*B+1<=268435456)
 (ha:ar w b ty [ag s,ah l,af e,ag t,ah m,af f]) (hT:aC w):
 Cv 61 #[.slice (some ⟨b,0,none⟩) 2 cap] w (bT S):=
 MI [(s,l,e),(t,m,f)] B S (by rw[<-hS];simp only[jU];grind) _ cap w (by intro x h;simp at h;rcases h with rfl|rfl;exact hx;exact hy) zi zm (At.aGr ha) hT
def Ej (s:Bool)(l:List UInt8)(e:Int)(t:Bool)(m:List UInt8)(f:Int)(S:Dyadic)(B:Nat)(hS:au (s,l,e)-au (t,m,f)=S)(w:World)(hx:Fit B (s,l,e))(hy:Fit B (t,m,f))(hB:B+2<=268435456)(hT:aC w):
 Cv 77 #[.agg #[ag s,ah l,af e],.agg #[ag t,ah m,af f]] w (bT S):=by
 obtain⟨D,hD⟩:=aB (-au (t,m,f));have Hn:Hid (Fit B (bE D)):=by rw[<-hD];exact(hy.2.neg).fit zo
 have HS:Hid (au (s,l,e)+au (bE D)=S):=by show _+au (canon D)=_;rw[bF,<-hD,<-hS];grind
 obtain⟨Hyo,HD,qV,nK⟩:=dv hy.1 hD hx hy;clear hD hx hy hS;go_enter Tryz.func77,Tryz.ntmps77;have Hb:=hbz w;go_wp2_with fail;refine Py w (Hb.an trivial) 30 [ag s,ah l,af e] 30 [ag t,ah m,af f] 30 [ag false,.string (bs []),af 0] λW aR ae ak=>?_;refine fT 5 ae (fH 6 0xa0806040301) ?_;refine cG ?_;refine cV ae (Iw t m f D HD.out _ Hyo.out (qU (hT.below ae.2.2.2.1.out))) λw1 ae=>?_;refine vG 30 [ag s,ah l,af e,ag (az (dN D)),ah (nt (dN D).natAbs),af (dE D)] ae λW1 aR ae=>?_;refine cV ae (xU s l e (az (dN D)) (nt (dN D).natAbs) (dE D) S B HS.out w1.heap.size 2 30 _ qV.out Hn.out hB ae.1.out (qU (hT.below ae.2.2.2.2.1.out))) λw2 ae=>?_;have ak:=qC ae;refine qOp λK hK=>?_;go_simp;refine hK _ _ (λh=>absurd h zd) ?_
 refine cB (aV w2 (w.heap.size+1+1) 0 (bG S)) aX ?_;intro w3 hs0;have ae:=bU hs0 ae;simp only[bV,List.set]at ae;have ak:=qC ae;refine fR ae λak=>?_;have Hb:=ae.2.2.2.2.1;have r0:w3.cell? ⟨w.heap.size+1+1,0,none⟩=some (ag (az (dN S))):=ae.2.2.2.1.out.cell 0;have r1:w3.cell? ⟨w.heap.size+1+1,1,none⟩=some (ah (nt (dN S).natAbs)):=ae.2.2.2.1.out.cell 1;have r2:w3.cell? ⟨w.heap.size+1+1,2,none⟩=some (af (dE S)):=ae.2.2.2.1.out.cell 2;go_wp2;exact bodyPost_ret (v:=bT S) (by simp[results,Tryz.results77,go_sem,r0,r1,r2,ak]) rfl ⟨rfl,df⟩
def Tn (n k:Int):bg (Dyadic.ofIntWithPrec n k)=eI n:=by have h:=aiS (az n) (nt n.natAbs) (-k);rw[Ek,dH,Int.neg_neg]at h;exact h.symm
def wu (s:Bool)(l:List UInt8)(e:Int)(t:Bool)(m:List UInt8)(f:Int)(c:Int)(hc:bg (au (s,l,e)-au (t,m,f))=c)(w:World)(hx:Ok (s,l,e))(hy:Ok (t,m,f))(hT:aC w):
 Cv 58 #[.agg #[ag s,ah l,af e],.agg #[ag t,ah m,af f]] w (af c):=by
 obtain⟨g,X,Y,hg,hX,hY,eA,eB,lX,lY,hg1,hg2⟩:=aht hx hy _ _ rfl rfl;have UL:eI (X-Y)=c:=by rw[<-hc,eA,eB,show ∀a b:Dyadic,a-b=a+ -b from λa b=>by grind,wX,uh,Tn];rfl
 obtain⟨u,hu⟩:=aB (bg (au (s,l,e)));obtain⟨v,hv⟩:=aB (bg (au (t,m,f)));have hu2:eI X=u:=by rw[<-hu,eA,Tn]
 have hv2:eI Y=v:=by rw[<-hv,eB,Tn]
 have ru: -1<=u/\u<=1:=by rw[<-hu2];unfold eI;split<;>(try split)<;>omega
 have rv: -1<=v/\v<=1:=by rw[<-hv2];unfold eI;split<;>(try split)<;>omega
 have DC:Hid (∀W,aC W->Cv 144 #[.agg #[ag s,ah l,af e],.agg #[ag t,ah m,af f]] W (.agg #[af g,ag (az X),ah (nt X.natAbs),ag (az Y),ah (nt Y.natAbs)])):=λW hW=>
  ahg s l e t m f _ _ rfl rfl g X Y hg hX hY W hx hy hW
 have uu:Hid (∀W,Cv 145 #[cd X,cd Y] W (af c)):=λW=>by
  have:=aA5 (az X) (nt X.natAbs) (az Y) (nt Y.natAbs) W zo zo (by rw[dH,dH,Int.sub_eq_add_neg];exact Nat.le_trans (abf X (-Y) 17179869183 lX (by rw[Int.natAbs_neg];exact lY)) zd)
  rw[dH,dH,UL]at this;exact this
 have hcl:¬u=v->max (-1) (min 1 (u-v))=c:=by intro hne;rw[<-UL];rw[<-hu2,<-hv2]at hne⊢;unfold eI at*;split<;>split<;>(try split)<;>(try split)<;>(try split)<;>omega
 have hwr:IntKind.i64.wrap (u-v)=u-v:=by rw[IntKind.wrap_i64];omega
 obtain⟨Hu,Hv,qV,nK⟩:=dv hu hv hx hy;clear hu hv hu2 hv2 hx hy UL hc eA eB hX hY hg;go_enter Tryz.func58,Tryz.ntmps58;have Hb:=hbz w;go_wp2_with fail;refine lw w (Hb.an trivial) 30 [ag s,ah l,af e] 30 [ag t,ah m,af f] λW aR ae ak=>?_;refine fT 999 ae (fH 6 0xb0906020501) ?_;refine cG ?_;refine cV ae (nR s l e u Hu.out _ qV.out) λw1 ae=>?_;refine cV ae (nR t m f v Hv.out _ nK.out) λw2 ae=>?_;refine cG ?_;refine fR ae λak=>?_;by_cases yu:u=v
 . subst yu;clear hcl;go_wp2_with fail;have HT:=aj (hT.below ae.2.2.1.out);go_wp2_with fail;refine aJ ae (DC.out _ HT.out) λw3 ae ak=>?_;have aR:=qL ae;go_wp2_with fail;refine ik w3 ae 194 [af g,ag (az X),ah (nt X.natAbs),ag (az Y),ah (nt Y.natAbs)] λW4 aR ae ak=>?_;go_wp2_with fail;refine aJ ae (uu.out _) λw5 ae ak=>?_;go_wp2;go_ret;exact⟨rfl,ae.2.2.2.1.out⟩
 . have hcl:=hcl yu;have aEm:(u !=v)=true:=by simp[yu]
   go_wp2;go_ret;exact⟨rfl,ae.2.2.1.out⟩
def aqF (s:Bool)(l:List UInt8)(e:Int)(D:Dyadic)(hD:(if bg (au (s,l,e))<0 then-au (s,l,e)else au (s,l,e))=D)(w:World)(hx:Ok (s,l,e))(hT:aC w):
 Cv 189 #[.agg #[ag s,ah l,af e]] w (bT D):=by
 obtain⟨u,hu⟩:=aB (bg (au (s,l,e)));have qV:=aj hx;clear hx;have Hu:=aj hu;rw[hu]at hD;clear hu;by_cases h:u<0
 . rw[if_pos h]at hD;have HD:=aj hD;clear hD;go_enter Tryz.func189,Tryz.ntmps189;have Hb:=hbz w;go_wp2_with fail;refine lw w (Hb.an trivial) 30 [ag s,ah l,af e] 30 [ag false,.string (bs []),af 0] λW aR ae ak=>?_;go_wp2_with fail;refine aJ ae (nR s l e u Hu.out _ qV.out) λw1 ae ak=>?_;have HT:=aj (hT.below ae.2.2.1.out);go_wp2_with fail;refine aJ ae (Iw s l e D HD.out _ qV.out HT.out) λw2 ae ak=>?_;have Hb:=ae.2.2.1;have r0:w2.cell? ⟨w.heap.size+1,0,none⟩=some (ag false):=ae.2.1.out.cell 0;have r1:w2.cell? ⟨w.heap.size+1,1,none⟩=some (.string (bs [])):=ae.2.1.out.cell 1;have r2:w2.cell? ⟨w.heap.size+1,2,none⟩=some (af 0):=ae.2.1.out.cell 2;go_wp2;exact bodyPost_ret (v:=bT D) (by simp[results,Tryz.results189,go_sem,r0,r1,r2,ak]) rfl ⟨rfl,df⟩
 . rw[if_neg h]at hD;have HD:=aj hD;clear hD;have h2:0<=u:=by omega
   go_enter Tryz.func189,Tryz.ntmps189;have Hb:=hbz w;go_wp2_with fail;refine lw w (Hb.an trivial) 30 [ag s,ah l,af e] 30 [ag false,.string (bs []),af 0] λW aR ae ak=>?_;go_wp2_with fail;refine aJ ae (nR s l e u Hu.out _ qV.out) λw1 ae ak=>?_;have HT:=aj (hT.below ae.2.2.1.out);go_wp2_with fail;refine aJ ae (pq s l e D HD.out _ qV.out HT.out) λw2 ae ak=>?_;have Hb:=ae.2.2.1;have r0:w2.cell? ⟨w.heap.size+1,0,none⟩=some (ag false):=ae.2.1.out.cell 0;have r1:w2.cell? ⟨w.heap.size+1,1,none⟩=some (.string (bs [])):=ae.2.1.out.cell 1;have r2:w2.cell? ⟨w.heap.size+1,2,none⟩=some (af 0):=ae.2.1.out.cell 2;go_wp2;exact bodyPost_ret (v:=bT D) (by simp[results,Tryz.results189,go_sem,r0,r1,r2,ak]) rfl ⟨rfl,df⟩
end Go.Proofs.YtbkopgdpcijfbaaGreatDoor
namespace Go.Proofs.YtbkopgdpcijfbaaGreatDoor
def Kw (n k:Int):Dyadic.ofIntWithPrec n k<0↔n<0:=by
 rw[<-Dyadic.toRat_lt_toRat_iff,Dyadic.toRat_ofIntWithPrec_eq_mul_two_pow,Dyadic.toRat_zero];have h2:(0:Rat)<2^(-k):=Rat.zpow_pos zd;constructor
 . intro h;by_cases h3:n<0
   . exact h3
   . exfalso
     have h4:(0:Rat)<=(n:Rat):=by exact_mod_cast Int.not_lt.1 h3
     have h5:=Rat.mul_nonneg h4 (Rat.le_of_lt h2);grind
 . intro h;have h4:(n:Rat)<0:=by exact_mod_cast h
   have:=Rat.mul_lt_mul_of_pos_right h4 h2;grind
def uQ (X:Dyadic):bg X<0↔X<0:=by
 conv=>rhs;rw[vD X]
 rw[Kw];unfold bg eI;split
 . rename_i h;simp[h]
 . rename_i h
   split<;>simp<;>omega
def MQ (X:Dyadic):bg X=0↔X=0:=by
 constructor
 . intro h;have h1:dN X=0:=by
    unfold bg eI at h;by_cases h1:dN X<0
    . rw[if_pos h1]at h;cases h
    . rw[if_neg h1]at h;by_cases h2:dN X=0
      . exact h2
      . rw[if_neg h2]at h;cases h
   have h2:=vD X;rw[h1,vE]at h2;exact h2
 . rintro rfl;rfl
def jb (X:Dyadic):Dyadic:=Dyadic.ofIntWithPrec (bg X) 0
def aiR (X:Dyadic):jb X=if X<0 then-1 else if X=0 then 0 else 1:=by
 unfold jb;have h1:=uQ X;have h2:=MQ X;have h3:bg X= -1\/bg X=0\/bg X=1:=by
  unfold bg eI;split
  . exact .inl rfl
  . split
    . exact .inr (.inl rfl)
    . exact .inr (.inr rfl)
 rcases h3 with h|h|h
 . rw[if_pos (h1.1 zo),h];rfl
 . rw[if_neg (λh4=>by have:=h1.2 h4;omega),if_pos (h2.1 h),h];rfl
 . rw[if_neg (λh4=>by have:=h1.2 h4;omega),if_neg (λh4=>by have:=h2.2 h4;omega),h];rfl
def xt (n:Nat)(p:Nat->Nat->Dyadic)(x:Nat->Dyadic)(k:Nat):Dyadic:=jb (bK n p) *bK n (dI p k x)
def nk (e:Nat->Nat->Dyadic)(r c:Nat):Nat->Nat->Dyadic:=λa b=>e (if a<r then a else a+1) (if b<c then b else b+1)
def EX (n:Nat)(e:Nat->Nat->Dyadic)(y:Nat->Dyadic)(i:Nat):Nat->Dyadic
 |0=>0
 |k+1=>EX n e y i k+y k* (if(k+i)%2=1 then-dW (n-1) (nk e i k)else dW (n-1) (nk e i k))
def ave (n:Nat)(hn:1<=n)(bZ:n<=4)(e:Nat->Nat->Dyadic)(y:Nat->Dyadic)(i:Nat)(hi:i<n):EX n e y i n=dW n λa b=>if a=i then y b else e a b:=by
 have hc:(n=1/\i=0)\/(n=2/\i=0)\/(n=2/\i=1)\/(n=3/\i=0)\/(n=3/\i=1)\/(n=3/\i=2)\/(n=4/\i=0)\/(n=4/\i=1)\/(n=4/\i=2)\/(n=4/\i=3):=by omega
 rcases hc with⟨rfl,rfl⟩ |⟨rfl,rfl⟩ |⟨rfl,rfl⟩ |⟨rfl,rfl⟩ |⟨rfl,rfl⟩ |⟨rfl,rfl⟩ |⟨rfl,rfl⟩ |⟨rfl,rfl⟩ |⟨rfl,rfl⟩ |⟨rfl,rfl⟩<;>(simp[EX,dW,nk];try grind)
def arx (n:Nat)(p:Nat->Nat->Dyadic)(x:Nat->Dyadic)(i:Nat):bK n (dI p (i+1) x)=dW n λa b=>if a=i then x b-p 0 b else p (a+1) b-p 0 b:=by
 unfold bK dI;congr 1;funext a b
 by_cases h:a=i
 . rw[if_pos h,if_pos zo,if_neg zo]
 . rw[if_neg h,if_neg zo,if_neg zo]
def fu (f:Nat->Dyadic):Nat->Dyadic
 |0=>0
 |k+1=>fu f k+f k
def aBG (n:Nat)(hn:1<=n)(bZ:n<=4)(p:Nat->Nat->Dyadic)(x:Nat->Dyadic):bK n (dI p 0 x)=bK n p-fu (λi=>bK n (dI p (i+1) x)) n:=by
 have hc:n=1\/n=2\/n=3\/n=4:=by omega
 rcases hc with rfl|rfl|rfl|rfl<;>(simp[fu,bK,dW,dI];grind)
end Go.Proofs.YtbkopgdpcijfbaaGreatDoor
namespace Go.Proofs.YtbkopgdpcijfbaaGreatDoor
open Go.RowKit
attribute [local go_sem ↓] Go.wp_at_zero Go.wp_at_succ
def fQ (l:List UInt8)(v:Int):Bool:=(l.all λc=>decide (c.toNat<=127))&&decide ((l.length:Int)=v)
def OW (l:List UInt8)(v:Int)(w:World)(hl:l.length<=9223372036854775807):
 Cv 138 #[ah l,af v] w (ag (fQ l v)):=by
 obtain⟨n,hn⟩:=aB l.length;have hsz:(bs l).size=n:=by rw[jB,hn]
 obtain⟨M,hM⟩:=aB (fQ l v);rw[hM];obtain⟨HM,Hn⟩:=aK hM hn;rw[hn]at hl;clear hM hn;go_enter Tryz.func138,Tryz.ntmps138;have Hb:=hbz w;go_wp2_with fail;go_loopw[8] (λx wr=>∃k:Nat,k<=n/\x=af (k:Int)/\((l.take k).all λc=>decide (c.toNat<=127))=true/\Bw w wr) (λx _=>n-(intOf x).toNat);case atStart=>exact⟨0,Nat.zero_le _,rfl,rfl,Hb.out⟩
 case round=>
  clear Hb;obtain⟨k,hk,rfl,hall,pb⟩:=hrel;obtain⟨sX,Hb⟩:=aK hall pb;clear hall pb;by_cases hlt:k<n
  . have hk2:k<l.length:=by rw[Hn.out];exact hlt
    have ix:=Aw l (k:Int) k hk2 rfl;obtain⟨c,hc⟩:∃c:Nat,(l[k]).toNat=c:=⟨_,rfl⟩;rw[hc]at ix;by_cases h1:127<c
    . have h2:(127:Int)<(c:Int):=by omega
      have JG:M=false:=by
       rw[<-HM.out];unfold fQ;have:(l.all λc=>decide (c.toNat<=127))=false:=by rw[List.all_eq_false];exact⟨l[k],List.getElem_mem hk2,by simp;omega⟩
       rw[this];rfl
      subst JG;go_wp2;exact bodyPost_ret (v:=ag false) (by simp[results,Tryz.results138,go_sem]) rfl ⟨rfl,df⟩
    . have h2:¬(127:Int)<(c:Int):=by omega
      have bR:Hid (((l.take (k+1)).all λc=>decide (c.toNat<=127))=true):=by
       show _=_
       rw[List.take_succ_eq_append_getElem hk2,List.all_append,sX.out];simp;omega
      clear hc;go_wp2;go_roundw;case rel=>exact⟨k+1,by omega,by go_num,bR.out,Hb.out⟩
      case measure=>exact bC
  . obtain rfl:k=n:=by omega
    have hme:M=decide ((k:Int)=v):=by rw[<-HM.out];have h:=sX.out;rw[List.take_of_length_le (by rw[Hn.out];exact Nat.le_refl _)]at h;unfold fQ;rw[h,Hn.out,Bool.true_and]
    have Hme:=aj hme;clear hme;go_wp2;refine bodyPost_ret (results_tmp rfl _ _ _) rfl ⟨?_,Hb.out⟩;rw[Hme.out];by_cases h:(k:Int)=v<;>simp[h]
def Na (v:Int)(w:World):
 Cv 137 #[af v] w (ag (decide (0<=v/\v<=12))):=by
 have Hb:=hbz w;go_enter Tryz.func137,Tryz.ntmps137;by_cases h1:0<=v
 . by_cases h2:v<=12
   . go_wp2;refine bodyPost_ret (results_tmp rfl _ _ _) rfl ⟨?_,Hb.out⟩;simp[h2];omega
   . go_wp2;refine bodyPost_ret (results_tmp rfl _ _ _) rfl ⟨?_,Hb.out⟩;simp[h2]
 . go_wp2;refine bodyPost_ret (results_tmp rfl _ _ _) rfl ⟨?_,Hb.out⟩;simp;omega
end Go.Proofs.YtbkopgdpcijfbaaGreatDoor
namespace Go.Proofs.YtbkopgdpcijfbaaGreatDoor
def aBF (n:Nat)(hn:1<=n)(bZ:n<=4)(p:Nat->Nat->Dyadic)(k j:Nat)(hk:k<=n)(hj:j<=n):xt n p (p j) k=if k=j then jb (bK n p) *bK n p else 0:=by
 unfold xt;by_cases h:k=j
 . subst h;rw[if_pos rfl,ajP]
 . rw[if_neg h,arp n hn bZ p j k (λe=>h e.symm) hj hk];grind
def az2 (f g:Nat->Dyadic)(n:Nat):fu (λi=>f i+g i) n=fu f n+fu g n:=by
 induction n with
 |zero=>simp[fu]
 |succ n ih=>simp only[fu,ih];grind
def ajk (f:Nat->Dyadic)(c:Dyadic)(n:Nat):fu (λi=>f i*c) n=fu f n*c:=by
 induction n with
 |zero=>simp[fu]
 |succ n ih=>simp only[fu,ih];grind
def az3 (f:Nat->Dyadic)(c:Dyadic)(n:Nat):fu (λi=>c*f i) n=c*fu f n:=by
 induction n with
 |zero=>simp[fu]
 |succ n ih=>simp only[fu,ih];grind
def ajj {f g:Nat->Dyadic}(n:Nat)(h:∀k,k<n->f k=g k):fu f n=fu g n:=by
 induction n with
 |zero=>rfl
 |succ n ih=>simp only[fu];rw[ih (λk hk=>h k zo),h n zo]
end Go.Proofs.YtbkopgdpcijfbaaGreatDoor
