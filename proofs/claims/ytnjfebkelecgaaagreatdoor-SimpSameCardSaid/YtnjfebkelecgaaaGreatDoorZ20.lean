/- Package poly: like,Add. -/
import Derived.Test.YtnjfebkelecgaaaGreatDoorZ13
import Derived.Test.YtnjfebkelecgaaaGreatDoorZ12
import Derived.Test.YtnjfebkelecgaaaGreatDoorZ9
import Derived.Test.YtnjfebkelecgaaaGreatDoorZ10
import Derived.Test.YtnjfebkelecgaaaGreatDoorZ7
import Derived.Deep.DeepAppendRoom
import Derived.Maps.AppendAt
set_option linter.all false
set_option maxRecDepth 100000
set_option maxHeartbeats 16000000
namespace Go.Proofs.YtnjfebkelecgaaaGreatDoor
open Go.RowKit
attribute [local go_sem ↓] Go.wp_at_zero Go.wp_at_succ
def ki (w:World)(V B:Nat)(ps:List Pv)(Ts:Nat->List aQ):Prop:=∀k (h:k<ps.length),∃a c,ps[k]=⟨(V:Int),a,(Ts k).length,c⟩/\bE w a c (Ts k)/\gj V B (Ts k)
def ki.below {w w':World}{V B:Nat}{ps:List Pv}{Ts:Nat->List aQ}(h:ki w V B ps Ts)(hb:Bw w w'):ki w' V B ps Ts:=λk hk=>by obtain⟨a,c,h1,h2,h3⟩:=h k hk;exact⟨a,c,h1,h2.below hb,h3⟩
def GL (w:World)(V B:Nat)(ps:List Pv)(Ts:Nat->List aQ):Prop:=∀k (h:k<ps.length),∃a c,ps[k]=⟨(V:Int),a,(Ts k).length,c⟩/\yX w a c (Ts k)/\gj V B (Ts k)
def GL.below {w w':World}{V B:Nat}{ps:List Pv}{Ts:Nat->List aQ}(h:GL w V B ps Ts)(hb:Bw w w'):GL w' V B ps Ts:=λk hk=>by obtain⟨a,c,h1,h2,h3⟩:=h k hk;exact⟨a,c,h1,h2.below hb,h3⟩
def below_drewN {n:Nat}{w w':World}(h:Below n w w')(k:Nat):Below n w (w'.drewN k):=by
 induction k with
 |zero=>exact h
 |succ k ih=>exact ih.drew
def auC (V V':Int)(aT:Option Addr)(nT cT:Nat)(bl:Nat)(b o L cap:Nat)(q:Value)(w:World)(hc:w.cell? ⟨bl,0,none⟩=some (.slice (some ⟨b,o,none⟩) L cap))(hL:0<L)(hw:bH w b o [ah V,q]):
 Cv 96 #[.agg #[ah V',.slice aT nT cT],.pointer (some ⟨bl,0,none⟩)] w (aj (V' !=V)):=by
 have bD:=Aj L cap 0 0 (rfl:(some ⟨b,o,none⟩:Option Addr)=_) hL rfl;rw[Nat.zero_mul,Nat.add_zero]at bD;have h0:w.cell? ⟨b,o,none⟩=some (ah V):=by have:=hw.w2.1;exact this
 obtain⟨Hc,H0⟩:=aZ hc h0;clear hc h0 hw;obtain⟨W,dK,Hb,Hx⟩:=jD w 24 [ah V',.slice aT nT cT];obtain⟨x0,x1⟩:=Hx.out.c2;have k1:=cell_later Hb.out Hc.out;have k2:=cell_later Hb.out H0.out;go_enter Tryz.func96,Tryz.ntmps96;go_wp2_with fail;go_quiet (fail)
 go_wp2;refine bodyPost_ret (results_tmp rfl _ _ _) rfl ⟨rfl,(below_drewN Hb.out _)⟩
def ag0 (V B:Nat)(b o L cap:Nat)(ps:List Pv)(Ts:Nat->List aQ)(w:World)(hL:ps.length=L)(NL:0<L)(ou:L<=65536)(ha:At w (some ⟨b,o,none⟩) (ps.flatMap nR))(hp:GL w V B ps Ts)(hT:aM w):
 Cv 53 #[.slice (some ⟨b,o,none⟩) L cap] w (ah 0):=by
 have eg:∀args w,(callFunc 96 args).run Tryz.prog w=.ok (.enter 96 args) w:=enters_of Tryz.func96 zk rfl;have hct:∀W bl,Bw w W->W.cell? ⟨bl,0,none⟩=some (.slice (some ⟨b,o,none⟩) L cap)->Cv 95 #[.slice (some ⟨b,o,none⟩) L cap,.func (.func 96) #[] #[.pointer (some ⟨bl,0,none⟩)]] W (aj false):=by
  intro W bl hW hc;obtain⟨a0,c0,e0,_,_⟩:=hp 0 zo;obtain⟨b',o',hab,cj⟩:=(ha.below hW).aFQ 0 zo e0;simp only[Option.some.injEq,Addr.mk.injEq,and_true]at hab;obtain⟨rfl,rfl⟩:=hab;rw[Nat.zero_mul,Nat.add_zero]at cj;have h:=aqh (some ⟨b,o,none⟩) L cap ps 96 #[.pointer (some ⟨bl,0,none⟩)] (λp=>p.V !=(V:Int)) W hL zo (ha.below hW) eg (λx hx W2 hW2=>by simpa using auC (V:Int) x.V x.a x.n x.c bl b o L cap _ W2 (cell_later hW2 hc) NL (cj.below hW2));have hf:(ps.any λp=>p.V !=(V:Int))=false:=by rw[List.any_eq_false];intro p JC;obtain⟨k,hk,rfl⟩:=List.mem_iff_getElem.1 JC;obtain⟨a,c,e1,_,_⟩:=hp k hk;rw[e1];simp
  rwa [hf]at h
 have fp:=λW (hW:Bw w W) k (hk:k<ps.length)=>(show ∃a c,ps[k]=⟨(V:Int),a,(Ts k).length,c⟩/\Cv 41 #[.agg #[ah (V:Int),.slice a (Ts k).length c]] W (ah 0)from by
  obtain⟨a,c,e1,h1,h2⟩:=hp k hk;refine⟨a,c,e1,?_⟩;have h:=Kn (V:Int) a c (Ts k).length (Ts k) W rfl (by have:=h2.1.2.2.1;omega) (h1.1.below hW) h2.chk (hT.below hW)
  rwa [XH h2.1]at h)
 obtain⟨QZ,oc,Ha,HL⟩:=ej hct fp ha hL;clear hct fp ha hL hp hT eg;have hLn:((L:Int)==0)=false:=by simp;omega
 have Hb:=hbz w;go_enter Tryz.func53,Tryz.ntmps53;go_wp2_with fail;have q:=fK w 86 [.slice (some ⟨b,o,none⟩) L cap];first|refine cd _ q ?_|refine cw _ q ?_
 clear q;rintro W ⟨Hl,ag⟩;have l0:=Hl.out.c1;replace Hb:=az Hb ag;go_loopw[8] (λx wr=>∃k:Nat,k<=L/\x=ah (k:Int)/\Bw W wr) (λx _=>L-(intOf x).toNat);case atStart=>exact⟨0,Nat.zero_le _,rfl,Below.refl _ _⟩
 case round=>
  obtain⟨k,hk,rfl,pb⟩:=hrel;obtain⟨bQ,hl,bj⟩:=cX (aO Hb.out pb) (Hl.out.below pb) pb;clear pb Hb Hl;by_cases hlt:k<L
  . have hk2:k<ps.length:=by rw[HL.out];exact hlt
    obtain⟨a1,c1,e1,hcall⟩:=oc.out wr bQ.out k hk2;obtain⟨b',o',hab,cj⟩:=(Ha.out.below bQ.out).aFQ k hk2 e1;obtain⟨rfl,rfl⟩:b=b'/\o=o':=by simp at hab;exact hab
    have hcall:=λW (hW:Bw w W)=>(oc.out W hW k hk2);have bD:=Aj L cap k (k:Int) (rfl:(some ⟨b,o,none⟩:Option Addr)=_) hlt rfl;obtain⟨nT,im⟩:=aK ((Ts k).length);have asN:Hid (∀W,Bw w W->Cv 41 #[.agg #[ah (V:Int),.slice a1 nT c1]] W (ah 0)):=by intro W hW;obtain⟨a2,c2,e2,h2⟩:=hcall W hW;rw[e1]at e2;simp only[Pv.mk.injEq,true_and]at e2;obtain⟨rfl,rfl⟩:=e2;rw[im]at h2;exact h2
    rw[im]at cj;have Hx:Hid (bH wr b (o+k*2) [ah (V:Int),.slice a1 nT c1]):=cj;clear cj hcall hab e1 im;have Hb:=hbz wr;obtain⟨x0,x1⟩:=Hx.out.w2;have P0:=x0;have P1:=x1;obtain⟨W3,Et,ag,Hv⟩:=cE wr 24 [ah (V:Int),.slice a1 nT c1];replace Hx:=kW Hx ag;obtain⟨x0,x1⟩:=Hx.out.w2;obtain⟨v0,v1⟩:=Hv.out.c2;replace Hb:=az Hb ag;go_wp2_with fail;refine(asN.out _ (aO bQ.out Hb.out)).mono ?_;rintro e w4 ⟨rfl,ag⟩;replace Hx:=kW Hx ag;obtain⟨Hv,v0,v1⟩:=bi Hv ag;obtain⟨x0,x1⟩:=Hx.out.w2;replace Hb:=az Hb ag;go_wp2;go_roundw;case rel=>exact⟨k+1,by omega,by go_num,aO bj.out Hb.out⟩
    case measure=>exact bI
  . obtain rfl:k=L:=by omega
    have Hb:=bQ;have Hl:=hl;have l0:=Hl.out.c1;go_wp2_with fail;refine(QZ.out _ _ Hb.out l0).mono ?_;rintro e w6 ⟨rfl,ag⟩;replace Hl:=kB Hl ag;have l0:=Hl.out.c1;replace Hb:=az Hb ag;go_wp2;go_ret;exact⟨rfl,Hb.out⟩
def jZ (Ts:Nat->List aQ):Nat->List aQ
 |0=>[]
 |k+1=>iu (jZ Ts k) (Ts k)
def pE (Ts:Nat->List aQ):Nat->List aQ
 |0=>[]
 |k+1=>pE Ts k++Ts k
def ap4 (Ts:Nat->List aQ)(k:Nat)(m:List UInt8):cL (jZ Ts k) m=cL (pE Ts k) m:=by
 induction k with
 |zero=>rfl
 |succ k ih=>unfold jZ pE;rw[ack,zu,ih]
def ahx (Ts:Nat->List aQ)(k:Nat):(jZ Ts k).length<=(pE Ts k).length:=by
 induction k with
 |zero=>exact Nat.le_refl _
 |succ k ih=>unfold jZ pE;have:=ahw (jZ Ts k) (Ts k);rw[List.length_append];omega
def ab7 (Ts:Nat->List aQ)(j k:Nat)(h:j<=k):(pE Ts j).length<=(pE Ts k).length:=by
 induction k with
 | zero => obtain rfl:j=0:=by omega
           exact Nat.le_refl _
 | succ k ih=>
   by_cases e:j=k+1
   . subst e;exact Nat.le_refl _
   . have:=ih zo;rw[show pE Ts (k+1)=pE Ts k++Ts k from rfl,List.length_append];omega
def avJ {B:Nat}(Ts:Nat->List aQ)(k:Nat)(h:∀j,j<k->∀t∈Ts j,Fit B t.2)(hB:B+k<=268435456):∀t∈jZ Ts k,Fit (B+k) t.2:=by
 induction k with
 |zero=>intro t ht;cases ht
 |succ k ih=>unfold jZ;have:=ahv (B:=B+k) (jZ Ts k) (Ts k) (ih (λj hj=>h j zo) zo) (λt ht=>(h k zo t ht).mono zo) zo;exact this
def awE (V B:Nat)(b o L cap:Nat)(ps:List Pv)(Ts:Nat->List aQ)(C:List aQ)(w:World)(hL:ps.length=L)(NL:0<L)(ou:L<=65536)(ha:At w (some ⟨b,o,none⟩) (ps.flatMap nR))(hp:GL w V B ps Ts)(hn:(pE Ts L).length<=4096)(hB:B+L+8192<=268435456)(hT:aM w)(hC:bP (pE Ts L)=C):
 Cl 17 #[.slice (some ⟨b,o,none⟩) L cap] w λex w'=>∃a' c',ex=.returned (.tuple #[.agg #[ah (V:Int),.slice a' C.length c'],ah 0])/\bE w' a' c' C/\Bw w w':=by
 have Io:=enters_of Tryz.func55 zk rfl;have Im:=enters_of Tryz.func56 zk rfl;have hlk:=λW (hW:Bw w W)=>ag0 V B b o L cap ps Ts W hL NL ou (ha.below hW) (hp.below hW) (hT.below hW);have hCm:bP (jZ Ts L)=C:=by rw[<-hC];exact DV (ap4 Ts L)
 have sY:(jZ Ts L).length<=4096:=Nat.le_trans (ahx Ts L) hn;have Vw:∀j,j<L->∀t∈Ts j,Fit B t.2:=λj hj=>by obtain⟨a,c,_,_,h⟩:=hp j zo;exact h.2
 have lJ:=λk (hk:k<=L)=>avJ (B:=B) Ts k (λj hj=>Vw j zo) zo;have hcl:=λw0 W v (hw0:Bw w w0) (hb0:Bw w0 W) (ho:W.ownsRow w0.heap.size 67 4 v (jZ Ts L).length ((jZ Ts L).flatMap aY))=>MP (V:Int) v _ (jZ Ts L) C (B+L) w0 W hb0 rfl sY ho (lJ L (Nat.le_refl _)) zo (hT.below hw0) hCm;obtain⟨a0,c0,e0,_,_⟩:=hp 0 zo;obtain⟨b',o',hab,cj⟩:=ha.aFQ 0 zo e0;obtain⟨rfl,rfl⟩:b=b'/\o=o':=by simp at hab;exact hab
 rw[Nat.zero_mul,Nat.add_zero]at cj;have Jm:=Aj L cap 0 0 (rfl:(some ⟨b,o,none⟩:Option Addr)=_) NL rfl;rw[Nat.zero_mul,Nat.add_zero]at Jm;obtain⟨n0,hn0⟩:=aK ((Ts 0).length);rw[hn0]at cj;have hlb:b<w.heap.size:=World.block_lt_of_cell? w _ cj.w2.1;obtain⟨RD,gP,Hmf,Hp,Ha,HT,HL,Ri,Rh,HfT,Hw,Ry⟩:=gg hlk hcl lJ hp ha hT hL Io Im Vw cj Jm
 have lj:Hid (∀k,k<L->(jZ Ts k).length<=4096/\(Ts k).length<=4096):=λk hk=>⟨Nat.le_trans (Nat.le_trans (ahx Ts k) (ab7 Ts k L zo)) hn,by
  have h1:=ab7 Ts (k+1) L zo
  rw[show pE Ts (k+1)=pE Ts k++Ts k from rfl,List.length_append]at h1;omega⟩
 clear hlk hcl lJ hp ha hT hL Io Im Vw cj Jm hC hCm hn sY hab e0 hn0;have Hb:=hbz w;go_enter Tryz.func17,Tryz.ntmps17;go_wp2_with fail;have q:=fK w 24 [ah 0,.slice none 0 0];first|refine cd _ q ?_|refine cw _ q ?_
 clear q;rintro W ⟨Hr,ag⟩;obtain⟨r0,aH,r1,aI⟩:=Hr.out.g2;replace Hb:=az Hb ag;go_wp2_with fail;refine(RD.out _ Hb.out).mono ?_;rintro e w1 ⟨rfl,ag⟩;obtain⟨Hr,r0,aH,r1,aI⟩:=bA Hr ag;replace Hb:=az Hb ag;have jN:=Hr;have dY:=Hb;go_wp2_with fail;go_loopw[5,16] (λs5 x wr=>∃(k:Nat) (v:Value),k<=L/\x=ah (k:Int)/\v=s5/\wr.ownsRow w1.heap.size 67 4 v (jZ Ts k).length ((jZ Ts k).flatMap aY)/\Bw w1 wr) (λ_ x _=>L-(intOf x).toNat);case atStart=>exact⟨0,_,Nat.zero_le _,rfl,rfl,World.ownsRow_nil _ _ _ _,Below.refl _ _⟩
 case round=>
  clear r0 aH r1 aI Hr Hb;obtain⟨k,v,hk,rfl,rfl,ho,pb⟩:=hrel;have bQ:=aO dY.out pb;have sk:=dY.out.size;have gM:=pb.size;by_cases hlt:k<L
  . have hk2:k<ps.length:=by rw[HL.out];exact hlt
    obtain⟨a1,c1,e1,hpl,hft⟩:=Hp.out k hk2;obtain⟨b',o',hab,cj⟩:=(Ha.out.below bQ).aFQ k hk2 e1;obtain⟨rfl,rfl⟩:b=b'/\o=o':=by simp at hab;exact hab
    have bD:=Aj L cap k (k:Int) (rfl:(some ⟨b,o,none⟩:Option Addr)=_) hlt rfl;obtain⟨av,cv,rfl,zQ,_⟩:=dS ho;have JH:=yl ho;have uI:=lj.out k hlt;have hfm:=Hmf.out k zo;have EC:=HfT.out k hlt;have hsk:=hpl.2;have Hm:Hid (∀W,Bw wr W->Cl 54 #[.slice av (jZ Ts k).length cv,.slice a1 (Ts k).length c1,.func (.func 55) #[] #[],.func (.func 56) #[] #[]] W λe w'=>∃v',e=.returned v'/\w'.ownsRow w1.heap.size 67 4 v' (jZ Ts (k+1)).length ((jZ Ts (k+1)).flatMap aY)/\Bw W w'):=by intro W hW;refine(ahn av _ cv (jZ Ts k) a1 _ c1 (Ts k) (B+L) W rfl rfl JH hsk zo zo (zQ.below hW) (hpl.1.below (aO bQ hW)) (λt ht=>(hfm t ht).mono zo) (λt ht=>(EC t ht).mono zo) zo (HT.out.below (aO bQ hW))).mono ?_;rintro e w' ⟨v',rfl,h1,h2⟩;exact⟨v',rfl,tu h1 (by have:=hW.size;omega),h2⟩
    obtain⟨nv,VP⟩:=aK ((jZ Ts k).length);obtain⟨nT,im⟩:=aK ((Ts k).length);rw[VP,im]at Hm;rw[im]at cj;have Hx:Hid (bH wr b (o+k*2) [ah (V:Int),.slice a1 nT c1]):=cj;have bj:=ar pb;rw[VP];clear cj hab e1 im VP hpl hft ho zQ JH uI hfm EC hsk pb bQ;have Hb:=hbz wr;obtain⟨x0,x1⟩:=Hx.out.w2;have P0:=x0;have P1:=x1;obtain⟨W3,Et,ag,Hv⟩:=cE wr 24 [ah (V:Int),.slice a1 nT c1];replace Hx:=kW Hx ag;obtain⟨x0,x1⟩:=Hx.out.w2;obtain⟨v0,v1⟩:=Hv.out.c2;replace Hb:=az Hb ag;have Ua:=Ri.out;have Ng:=Rh.out;go_wp2_with fail;refine(Hm.out _ Hb.out).mono ?_;rintro e w4 ⟨v',rfl,ho4,hb4⟩;have dL:=aO bj.out (aO Hb.out hb4);obtain⟨Ho4,eX⟩:=aZ ho4 dL;clear Ua Ng ho4 dL hb4;go_wp2;go_roundw;case rel=>exact⟨k+1,v',by omega,by go_num,rfl,Ho4.out,eX.out⟩
    case measure=>exact bI
  . obtain rfl:k=L:=by omega
    obtain⟨av,cv,rfl,_,_⟩:=dS ho;have Hx:=ar (Hw.out.below bQ);have Hb:Hid (Bw w wr):=bQ;obtain⟨dQ,bj,Hr⟩:=cX ho pb (jN.out.below pb);have bD:=Ry.out;clear ho pb bQ;obtain⟨x0,x1⟩:=Hx.out.w2;obtain⟨r0,aH,r1,aI⟩:=Hr.out.g2;have anr:Hid (bH w1 b o [ah (V:Int),.slice a0 n0 c0]):=Hw.out.below dY.out;go_wp2_with fail;refine(gP.out w1 _ _ dY.out bj.out dQ.out).mono ?_;rintro e w6 ⟨a2,d2,rfl,eP,ag⟩;replace Hx:=ar (anr.out.below ag);replace Hr:=ar (jN.out.below ag);obtain⟨x0,x1⟩:=Hx.out.w2;obtain⟨r0,aH,r1,aI⟩:=Hr.out.g2;replace Hb:=ar (aO dY.out ag);go_wp2;refine DR (Hr.out) eP Hb.out zo ?_;intro w9 kx fT ez;obtain⟨q0,q1⟩:=kx.c2;exact bodyPost_ret (v:=.tuple #[.agg #[ah (V:Int),.slice a2 C.length d2],ah 0]) (by simp[results,Tryz.results17,go_sem,q0,q1]) rfl ⟨_,_,rfl,CM fT,ez⟩
def lS (x:Dyadic)(m:Nat):List Dyadic:=(List.range m).map (cP x)
def ah0 (x:Dyadic)(m:Nat):(lS x m).length=m:=by simp[lS]
def axL (x:Dyadic)(m k:Nat)(h:k<(lS x m).length):(lS x m)[k]=cP x k:=by simp[lS]
def ah1 (x:Dyadic)(m:Nat):dC (lS x (m+1))=dC (lS x m)++dC [cP x m]:=by unfold lS;rw[List.range_succ,List.map_append,BA];rfl
def iQ (W:World)(kb n:Nat)(X:Nat->Dyadic)(Z:Nat->Prop):Prop:=
 ∃vs:List Value,∃ms:Nat->Nat,vs.length=n/\au W kb 105 vs/\(∀i (h:i<vs.length),ms i<=256/\W.ownsRow (kb+1) 48 3 vs[i] (ms i) (dC (lS (X i) (ms i))))/\
  (∀i j (hi:i<vs.length) (hj:j<vs.length) g,vs[i].ownBlock=some g->vs[j].ownBlock=some g->i=j)/\(∀i (h:i<vs.length) g,vs[i].ownBlock=some g->¬Z g)
def iQ.re {W:World}{kb n:Nat}{X:Nat->Dyadic}{Z Z':Nat->Prop}(h:iQ W kb n X Z)(hz:∀b,Z' b->Z b\/W.heap.size<=b):iQ W kb n X Z':=by
 obtain⟨vs,ms,h1,h2,h3,h4,h5⟩:=h;refine⟨vs,ms,h1,h2,h3,h4,λi hi g hg hz'=>?_⟩;rcases hz g hz' with h|h
 . exact h5 i hi g hg h
 . have:=((h3 i hi).2.lt g hg).2;omega
def iQ.chg {W W':World}{kb n:Nat}{X:Nat->Dyadic}{Z Y:Nat->Prop}(h:iQ W kb n X Z)(hc:Chg Y W W')(hk:¬Y kb)(hy:∀b,Y b->b<W.heap.size->Z b):iQ W' kb n X Z:=by obtain⟨vs,ms,h1,h2,h3,h4,h5⟩:=h;refine⟨vs,ms,h1,hc.blk h2 hk,λi hi=>⟨(h3 i hi).1,CN (h3 i hi).2 hc (λg hg hy'=>h5 i hi g hg (hy g hy' ((h3 i hi).2.lt g hg).2))⟩,h4,h5⟩
def MO {W W':World}(h:Bw W W'):Chg (λ_=>False) W W':=⟨h.os,h.tape,h.output,h.size,λk hk _=>h.block k hk⟩
def iQ.below {W W':World}{kb n:Nat}{X:Nat->Dyadic}{Z:Nat->Prop}(h:iQ W kb n X Z)(hb:Bw W W'):iQ W' kb n X Z:=h.chg (MO hb) id (λ_ h=>h.elim)
def iQ.lt {W:World}{kb n:Nat}{X:Nat->Dyadic}{Z:Nat->Prop}(h:iQ W kb n X Z):kb<W.heap.size:=by obtain⟨vs,ms,h1,h2,_⟩:=h;exact h2.lt
def iQ.set {w W:World}{kb n i m:Nat}{X:Nat->Dyadic}{Z:Nat->Prop}{vs:List Value}{ms:Nat->Nat}{v:Value}(h1:vs.length=n)(hi:i<vs.length)
 (h3:∀i (h:i<vs.length),ms i<=256/\w.ownsRow (kb+1) 48 3 vs[i] (ms i) (dC (lS (X i) (ms i)))) (h4:∀i j (hi:i<vs.length) (hj:j<vs.length) g,vs[i].ownBlock=some g->vs[j].ownBlock=some g->i=j) (h5:∀i (h:i<vs.length) g,vs[i].ownBlock=some g->¬Z g)
 (hc:Chg (λb=>b=kb\/some b=(vs[i]).ownBlock) w W) (hk:au W kb 105 (vs.set i v)) (hm:m<=256) (ho:W.ownsRow (kb+1) 48 3 v m (dC (lS (X i) m))) (hv:v.ownBlock=(vs[i]).ownBlock\/∃g,v.ownBlock=some g/\w.heap.size<=g) (hz:∀b,Z b->b<w.heap.size):iQ W kb n X Z:=by
 have hold:∀j (h:j<vs.length) g,vs[j].ownBlock=some g->g<w.heap.size:=λj h g hg=>((h3 j h).2.lt g hg).2;have Ah:∀g,v.ownBlock=some g->(vs[i]).ownBlock=some g\/w.heap.size<=g:=λg hg=>by
  rcases hv with h|⟨g',h,h'⟩
  . left;rw[<-h];exact hg
  . right;rw[h]at hg;simp at hg;omega
 refine⟨vs.set i v,λj=>if j=i then m else ms j,by simpa using h1,hk,λj hj=>?_,λj l hj hl g e1 e2=>?_,λj hj g e1=>?_⟩
 . have hj':j<vs.length:=by simpa using hj
   by_cases hji:j=i
   . subst hji;dsimp only;rw[List.getElem_set_self,if_pos rfl];exact⟨hm,ho⟩
   . dsimp only;rw[List.getElem_set_ne (λh=>hji h.symm),if_neg hji];refine⟨(h3 j hj').1,CN (h3 j hj').2 hc (λg hg hy=>?_)⟩;rcases hy with hy|hy
     . have:=((h3 j hj').2.lt g hg).1;omega
     . exact hji (h4 j i hj' hi g hg hy.symm)
 . have hj':j<vs.length:=by simpa using hj
   have hl':l<vs.length:=by simpa using hl
   by_cases hji:j=i
   . by_cases ry:l=i
     . rw[hji,ry]
     . subst hji;rw[List.getElem_set_self]at e1;rw[List.getElem_set_ne (λh=>ry h.symm)]at e2;rcases Ah g e1 with h|h
       . exact h4 j l hi hl' g h e2
       . have:=hold l hl' g e2;omega
   . rw[List.getElem_set_ne (λh=>hji h.symm)]at e1;by_cases ry:l=i
     . subst ry;rw[List.getElem_set_self]at e2;rcases Ah g e2 with h|h
       . exact h4 j l hj' hi g e1 h
       . have:=hold j hj' g e1;omega
     . rw[List.getElem_set_ne (λh=>ry h.symm)]at e2;exact h4 j l hj' hl' g e1 e2
 . have hj':j<vs.length:=by simpa using hj
   by_cases hji:j=i
   . subst hji;rw[List.getElem_set_self]at e1;rcases Ah g e1 with h|h
     . exact h5 j hi g h
     . intro hzg;have:=hz g hzg;omega
   . rw[List.getElem_set_ne (λh=>hji h.symm)]at e1;exact h5 j hj' g e1
def aoH {P:Program}(w:World)(base:Nat)(t ty e:TypeId)(i:TypeInfo)(z:Value)(size bytes:Nat)(ht:P.underlying t=some (.slice e))(hi:P.info? e=some i)(hz:i.zero=some z)
 (hsize:i.size=size) (hby:i.bytes=bytes) (hzs:z.cells.size=size) (hsz:0<size) (g n cap:Nat) (xs:List Value) (hown:w.ownsRow base e size (.slice (some ⟨g,0,none⟩) n cap) n xs)
 (a:Addr) (m c:Nat) (news:List Value) (hl:news.length=m*size) (hnews:∀j u,news[j]?=some u->w.cell? (a.add j)=some u) (h1:∀u∈news,u.oneCell'=true)
 (h63:n+m<=maxLen) (hbytes:(n+m) *bytes<=140737488355328) (hbase:base<=w.heap.size):
 ∃v' w',(Builtin.append_ #[t,t] ty #[.slice (some ⟨g,0,none⟩) n cap,.slice (some a) m c]).run P w=.ok v' w'/\w'.ownsRow base e size v' (n+m) (xs++news)/\w.grownBy w' (some g)/\
  (v'.ownBlock=some g\/v'.ownBlock=some w.heap.size)/\∀j u,j<n*size->w.cell? ⟨g,j,none⟩=some u->w'.cell? ⟨g,j,none⟩=some u:=by
 obtain⟨v',w',hr,h2,h3,_,h5⟩:=run_append_own_at (P:=P) w base t ty e i z size bytes ht hi hz hsize hby hzs hsz _ n xs hown a m c news hl hnews h1 h63 hbytes hbase;refine⟨v',w',hr,h2,h3,h5,λj u hj hu=>?_⟩;have hcell:w.cell? ⟨g,j,none⟩=xs[j]?:=by
  have zZ:j<xs.length:=by rw[hown.1];exact hj
  have h:=hown.cells (g:=g) rfl j xs[j] (List.getElem?_eq_getElem zZ);rw[show((⟨g,0,none⟩:Addr).add j)=⟨g,j,none⟩by unfold Addr.add;cases j<;>simp]at h;rw[h,List.getElem?_eq_getElem zZ]
 by_cases hroom:n+m<=cap
 . obtain⟨w2,hr2,h4,_⟩:=run_append_own_spare (P:=P) w base t ty e i size ht hi hsize g n cap xs hown a m c news hl hnews h1 hroom;rw[hr]at hr2;simp only[Result.ok.injEq]at hr2;obtain⟨rfl,rfl⟩:=hr2;have zZ:j<xs.length:=by rw[hown.1];exact hj
   have h:=h4.cells (g:=g) rfl j xs[j] (by rw[List.getElem?_append_left zZ];exact List.getElem?_eq_getElem zZ);rw[show((⟨g,0,none⟩:Addr).add j)=⟨g,j,none⟩by unfold Addr.add;cases j<;>simp]at h;rw[h,<-hu,hcell,List.getElem?_eq_getElem zZ]
 . have hsmall:n+m<=9223372036854775807:=by simp only[maxLen]at h63;omega
   subst hsize hby;have hr2:=run_append_grow (P:=P) w t ty e i z ht hi hz ⟨g,0,none⟩ n cap xs hown.1 (hown.cells (g:=g) rfl) a m c news hl hnews zo zo (growslice_fits zo hbytes);rw[hr]at hr2;simp only[Result.ok.injEq]at hr2;obtain⟨_,rfl⟩:=hr2;exact aV (w:=w.drew) hu
def aAA {P:Program}{w:World}{o:Oper}{a:Act}{K:Act->World->Prop}{Q:Exit->Act->World->Prop}(s x:Operand)(t:TypeId)
 (ho:o.op=.call {callee:=.builtin .append,args:=#[s,x],argTypes:=#[t,t]})
 (base:Nat) (e:TypeId) (i:TypeInfo) (z:Value) (size bytes:Nat) (ht:P.underlying t=Option.some (.slice e)) (hi:P.info? e=Option.some i) (hz:i.zero=Option.some z)
 (hsize:i.size=size) (hby:i.bytes=bytes) (hzs:z.cells.size=size) (hsz:0<size)
 (g n cap:Nat) (xs:List Value) (hs:a.eval s=.slice (some ⟨g,0,none⟩) n cap) (hown:w.ownsRow base e size (.slice (some ⟨g,0,none⟩) n cap) n xs)
 (ad:Addr) (m c:Nat) (news:List Value) (hx:a.eval x=.slice (some ad) m c) (hl:news.length=m*size) (hnews:∀j u,news[j]?=some u->w.cell? (ad.add j)=some u) (h1:∀u∈news,u.oneCell'=true)
 (h63:n+m<=maxLen) (hbytes:(n+m) *bytes<=140737488355328) (hbase:base<=w.heap.size)
 (h:∀v' w',w'.ownsRow base e size v' (n+m) (xs++news)->w.grownBy w' (some g)->(v'.ownBlock=some g\/v'.ownBlock=some w.heap.size)->(∀j u,j<n*size->w.cell? ⟨g,j,none⟩=some u->w'.cell? ⟨g,j,none⟩=some u)->K (a.put o.dst v') w'):o.wp P a w K Q:=by
 obtain⟨v',w',hr,h2,h3,h5,h6⟩:=aoH (P:=P) w base t o.type e i z size bytes ht hi hz hsize hby hzs hsz g n cap xs hown ad m c news hl hnews h1 h63 hbytes hbase;unfold Oper.wp execOp;simp only[ho,resolve,invoke,builtin,Sem.run_bind,Sem.run_pure,Result.andThen_ok,List.map_toArray,List.map_cons,List.map_nil,hs,hx,hr];exact h v' w' h2 h3 h5 h6
def um {Y:Nat->Prop}{w W:World}(h:Chg Y w W)(b i:Nat)(v:Value)(hy:Y b):Chg Y w (W.setCell ⟨b,i,none⟩ v):=
 ⟨h.os,h.tape,h.output,by have:=h.size;simp[World.setCell];exact this,λk hk hky=>by rw[Below.heap_setCell _ _ _ _ (λe=>hky (by rw[e];exact hy))];exact h.block k hk hky⟩
def xq (w W wx:World)(kb i:Nat)(vs:List Value)(v0:Value)(x:Dyadic)(xc:List Value)(v:Value)(m:Nat):Prop:=
 1<=m/\m<=256/\au wx kb 105 (vs.set i v)/\wx.ownsRow (kb+1) 48 3 v m (dC (lS x m))/\(v.ownBlock=v0.ownBlock\/∃g,v.ownBlock=some g/\W.heap.size<=g)/\
  Chg (λb=>b=kb\/some b=v0.ownBlock) w wx/\au wx w.heap.size 48 xc/\au wx (w.heap.size+1) 48 [aj false,.string ⟨#[]⟩,ah 0]/\W.heap.size<=wx.heap.size
def xq.push {w W w1 w2:World}{kb i:Nat}{vs:List Value}{v0:Value}{x:Dyadic}{xc:List Value}{v v':Value}{m:Nat}(hk:au w1 kb 105 (vs.set i v))(hm:m+1<=256)
 (hv:v.ownBlock=v0.ownBlock\/∃g,v.ownBlock=some g/\W.heap.size<=g) (hc:Chg (λb=>b=kb\/some b=v0.ownBlock) w w1) (hx:au w1 w.heap.size 48 xc) (hr:au w1 (w.heap.size+1) 48 [aj false,.string ⟨#[]⟩,ah 0]) (hsz:W.heap.size<=w1.heap.size)
 (hW:W.heap.size=w.heap.size+2) (vR:kb<w.heap.size) (hv0:∀g,v0.ownBlock=some g->kb<g/\g<w.heap.size) (hvk:∀g,v.ownBlock=some g->kb<g)
 (ho:w2.ownsRow (kb+1) 48 3 v' (m+1) (dC (lS x (m+1)))) (hg:w1.grownBy w2 v.ownBlock) (gY:v'.ownBlock=v.ownBlock\/v'.ownBlock=some w1.heap.size):xq w W (w2.setCell ⟨kb,i,none⟩ v') kb i vs v0 x xc v' (m+1):=by
 have hvx:∀g,v.ownBlock=some g->g≠w.heap.size/\g≠w.heap.size+1:=λg e=>by
  rcases hv with h|⟨g',h,h'⟩
  . have:=(hv0 g (by rw[<-h];exact e)).2;omega
  . rw[h]at e;simp at e;omega
 have hv':v'.ownBlock=v0.ownBlock\/∃g,v'.ownBlock=some g/\W.heap.size<=g:=by
  rcases gY with h|h
  . rw[h];exact hv
  . exact .inr ⟨_,h,hsz⟩
 have hk2:au w2 kb 105 (vs.set i v):=hk.grown hg (λe=>by have:=hvk kb e.symm;omega);have hx2:=hx.grown hg (λe=>(hvx _ e.symm).1 rfl);have hr2:=hr.grown hg (λe=>(hvx _ e.symm).2 rfl)
 have hc2:Chg (λb=>b=kb\/some b=v0.ownBlock) w w2:=hc.trans (Chg.aFL (Y:=λb=>some b=v.ownBlock) hg (λb e=>e.symm)) (λb e=>by
  rcases hv with h|⟨g,h,h'⟩
  . left;right;rw[<-h];exact e
  . right;rw[h]at e;simp at e;omega)
 have hks:=hk2.set i v';rw[List.set_set]at hks;refine⟨by omega,hm,hks,?_,hv',um hc2 kb i v' (.inl rfl),hx2.so kb i zo v',hr2.so kb i zo v',by have:=hg.size;simp[World.setCell];omega⟩;refine CN ho (Y:=λb=>b=kb) (um (Chg.refl _ _) kb i v' rfl) (λb e=>?_);have:=ho.lt b e;omega
def xq.fin {w W wx:World}{kb i m:Nat}{vs:List Value}{v0 v:Value}{x:Dyadic}{xc:List Value}(h:xq w W wx kb i vs v0 x xc v m)(hW:W.heap.size=w.heap.size+2)(vR:kb<w.heap.size)(hv0:∀g,v0.ownBlock=some g->kb<g/\g<w.heap.size)(u1 u2 u3:Value):
 au (((wx.setCell ⟨w.heap.size+1,0,none⟩ u1).setCell ⟨w.heap.size+1,1,none⟩ u2).setCell ⟨w.heap.size+1,2,none⟩ u3) (w.heap.size+1) 48 [u1,u2,u3]/\
  Chg (λb=>b=kb\/some b=v0.ownBlock) w (((wx.setCell ⟨w.heap.size+1,0,none⟩ u1).setCell ⟨w.heap.size+1,1,none⟩ u2).setCell ⟨w.heap.size+1,2,none⟩ u3)/\
  au (((wx.setCell ⟨w.heap.size+1,0,none⟩ u1).setCell ⟨w.heap.size+1,1,none⟩ u2).setCell ⟨w.heap.size+1,2,none⟩ u3) kb 105 (vs.set i v)/\
  (((wx.setCell ⟨w.heap.size+1,0,none⟩ u1).setCell ⟨w.heap.size+1,1,none⟩ u2).setCell ⟨w.heap.size+1,2,none⟩ u3).ownsRow (kb+1) 48 3 v m (dC (lS x m)):=by
 obtain⟨_,_,hk,ho,hv,hc,_,hr,_⟩:=h;have hcc:Chg (λb=>b=w.heap.size+1) wx (((wx.setCell ⟨w.heap.size+1,0,none⟩ u1).setCell ⟨w.heap.size+1,1,none⟩ u2).setCell ⟨w.heap.size+1,2,none⟩ u3):=um (Y:=λb=>b=w.heap.size+1) (um (Y:=λb=>b=w.heap.size+1) (um (Y:=λb=>b=w.heap.size+1) (Chg.refl _ _) _ _ _ rfl) _ _ _ rfl) _ _ _ rfl;refine⟨((hr.set 0 u1).set 1 u2).set 2 u3,hc.trans hcc (λb e=>.inr zo),hcc.blk hk zo,CN ho hcc (λb e e2=>?_)⟩;rcases hv with h|⟨g,h,h'⟩
 . have:=(hv0 b (by rw[<-h];exact e)).2;omega
 . rw[h]at e;simp at e;omega
def Kb (kb i:Nat)(W:World):Nat:=match W.cell? ⟨kb,i,none⟩with
 |some (.slice _ n _)=>n
 |_=>0
def axd (kb i n k B:Nat)(X:Nat->Dyadic)(Z:Nat->Prop)(s:Bool)(l:List UInt8)(e:Int)(w:World)(hi:i<n)(hk:k<=255)(hx:aJ (s,l,e)=X i)(hf:Fit B (s,l,e))(hB:B<=500000)(hp:iQ w kb n X Z)(hz:∀b,Z b->b<w.heap.size/\b≠kb)(hT:∀W,Below kb w W->aM W):
 Cl 65 #[.pointer (some ⟨kb,i,none⟩),.agg #[aj s,ai l,ah e],ah (k:Int)] w λex w'=>ex=.returned (cK (cP (X i) k))/\iQ w' kb n X Z/\Chg (λb=>kb<=b/\¬Z b) w w':=by
 obtain⟨i0,hi0,hz0,hz1,hz2⟩:=info_parts Tryz.aFN;have vR:=hp.lt;obtain⟨vs,ms,h1,h2,h3,h4,h5⟩:=hp;have ku:i<vs.length:=by omega
 obtain⟨x,nC⟩:=aK (X i);obtain⟨v0,hv0⟩:=aK (vs[i]);obtain⟨m0,hm0⟩:=aK (ms i);have ho0:=(h3 i ku).2;have hl0:=(h3 i ku).1;rw[hv0,hm0,nC]at ho0;rw[hm0]at hl0;have hend:∀W v m,Chg (λb=>b=kb\/some b=v0.ownBlock) w W->au W kb 105 (vs.set i v)->m<=256->W.ownsRow (kb+1) 48 3 v m (dC (lS x m))->(v.ownBlock=v0.ownBlock\/∃g,v.ownBlock=some g/\w.heap.size<=g)->iQ W kb n X Z/\Chg (λb=>kb<=b/\¬Z b) w W:=λW v m a1 a2 a3 a4 a5=>
  ⟨iQ.set h1 ku h3 h4 h5 (by rw[hv0];exact a1) a2 a3 (by rw[nC];exact a4) (by rw[hv0];exact a5) (λb hb=>(hz b hb).1),a1.mono (λb _ hb=>by
   rcases hb with rfl|hb
   . exact⟨Nat.le_refl _,λh=>(hz _ h).2 rfl⟩
   . have h6:=h5 i ku b (by rw[hv0];exact hb.symm);have h7:=(ho0.lt b hb.symm).1
     exact⟨by omega,h6⟩)⟩
 have hown0:∀g,v0.ownBlock=some g->kb<g/\g<w.heap.size:=λg e=>by have:=ho0.lt g e;omega
 have agj:vs.set i v0=vs:=by rw[<-hv0];exact List.set_getElem_self ku
 obtain⟨a0,MU,OV,_,_⟩:=dS ho0;have fY:Sm B x:=by rw[<-nC,<-hx];exact hf.2
 have hpw:=λj=>Fu fY j;have hxv:aJ (s,l,e)=x:=hx.trans nC;obtain⟨Hi,dF,dv,di,fu,yM,SE,Ba,Mi,Hf,HT,H2⟩:=gg hi0 hz0 hz1 hz2 hend hown0 agj hpw hxv hf hT h2;obtain⟨Ho0,jh,ane⟩:=cX ho0 ku OV;rw[nC];clear hi0 hz0 hz1 hz2 hend hown0 agj hpw hxv hf hT h2 ho0 h3 h4 h5 h1 ku hv0 hm0 nC hx hz fY OV;obtain⟨W,dK,Hb,Hx,Hr⟩:=mG w 48 [aj s,ai l,ah e] 48 [aj false,.string ⟨#[]⟩,ah 0];obtain⟨x0,x1,x2⟩:=Hx.out.c3;obtain⟨r0,aH,r1,aI,r2,aX⟩:=Hr.out.g3;have hWs:W.heap.size=w.heap.size+2:=by rw[<-dK];simp
 have De:=ar hWs;clear hWs;have abg:Hid (1<=m0->xq w W W kb i vs v0 x [aj s,ai l,ah e] v0 m0):=λh=>⟨h,hl0,by rw[SE.out];exact H2.out.below Hb.out,ownsRow_below Ho0.out Hb.out,.inl rfl,(MO Hb.out).mono (λ_ _ h=>h.elim),Hx.out,Hr.out,Nat.le_refl _⟩;have hcell:W.cell? ⟨kb,i,none⟩=some v0:=by rw[(H2.out.below Hb.out).cell i,<-SE.out,List.getElem?_set_self jh.out]
 have Hk:Hid (bH W kb i [v0]):=λj hj=>by
  obtain rfl:j=0:=by simp at hj;omega
  exact hcell
 have ml:=ar (ownsRow_below Ho0.out Hb.out);have qJ:Hid (au W kb 105 (vs.set i v0)):=by show au _ _ _ _;rw[SE.out];exact H2.out.below Hb.out
 have yD:Hid (aM W):=HT.out W (Hb.out.mono zo);have hbs:=Hb.out.size;have sA:=Hb;have OV:=ane.out;subst OV;clear Hb;have Hb:=hbz W;go_enter Tryz.func65,Tryz.ntmps65;go_upto_if 12 with fail
 go_cut[] (λwx=>∃v m,xq w W wx kb i vs (.slice a0 m0 MU) x [aj s,ai l,ah e] v m);case first=>
  by_cases hm:m0=0
  . subst hm;obtain⟨x0,x1,x2⟩:=Hx.out.c3;obtain⟨r0,r1,r2⟩:=Hr.out.c3;have k0:=Hk.out.w1;clear hcell;go_wp2_with fail;refine bV (λw'=>aF w' kb i (.slice a0 0 MU)) (λi=>Nat.blt i 10) [(0,true),(1,true),(2,true),(3,true),(4,true),(5,false),(6,false),(7,false),(8,true),(9,true),(10,false)] zk zk rfl zk zc k0 ?_;iterate 5 (refine pT rfl rfl ?_;try simp only[UU])
    refine aR rfl rfl (λK hK=>?_);go_simp;with_reducible refine(BB 1 1 (by decide+kernel) _ zd (by first|exact yD.out|exact aM.drew yD.out|exact aM.alloc yD.out _|exact aM.drew (aM.alloc yD.out _) |exact aM.alloc (aM.drew yD.out) _)).mono ?_
    rintro e w5 ⟨rfl,hq⟩;have ag:Bw W w5:=by first|exact hq|exact bo hq
    obtain⟨Hx,x0,x1,x2⟩:=cm Hx ag;obtain⟨Hr,r0,r1,r2⟩:=cm Hr ag;replace Hk:=kW Hk ag;have k0:=Hk.out.w1;replace Hb:=az Hb ag;refine hK _ _ (λ_=>k0) ?_;try simp only[UU]
    refine aR rfl rfl (λK hK=>?_);go_simp;refine hK _ _ (λ_=>aV k0) ?_;try simp only[UU]
    refine bZ (λw6=>au w6 (w5.heap.size) 48 [aj (aC (dN 1)),ai (nt (dN 1).natAbs),ah (dE 1)]/\Bw w5 w6) (by first|exact eo|exact eu) ?_;rintro w6 ⟨qc,ag⟩;have avj:=Hx.out.lt;have avc:=Hr.out.lt;replace Hx:=kB Hx ag;replace Hr:=kB Hr ag;replace Hk:=kW Hk ag;have Hc:=ar qc;clear qc;obtain⟨x0,x1,x2⟩:=Hx.out.c3;obtain⟨r0,r1,r2⟩:=Hr.out.c3;have k0:=Hk.out.w1;obtain⟨c0,c1,c2⟩:=Hc.out.c3;replace Hb:=az Hb ag;refine aR rfl rfl (λK hK=>?_);have dR:=ownsRow_below ml.out Hb.out;have ky:=Hb.out.size;have hkl:kb+1<=W.heap.size:=by omega
    refine aAB _ _ 32 32 48 Tryz.underlying32 rfl (kb+1) 48 i0 _ 3 32 Tryz.underlying32 Hi.out dF.out dv.out di.out rfl zd (.slice a0 0 MU) 0 (dC (lS x 0)) rfl dR (some ⟨w5.heap.size,0,none⟩) 1 1 [aj (aC (dN 1)),ai (nt (dN 1).natAbs),ah (dE 1)] rfl (Sl.some _ _ _ (Nat.le_refl _)) rfl (.inr ⟨_,0,rfl,λj hj=>by rw[Nat.zero_add];exact Hc.out.cell j⟩) zy (by simp[maxLen]) zo zo ?_;intro v' w8 eV bM OI;obtain⟨g',cq,rfl⟩:=ownsRow_succ eV;have Ca:=(qJ.out.below Hb.out).grown bM (λe=>by have:=(yM.out kb e.symm).1;omega);have vW:=xq.push (xc:=[aj s,ai l,ah e]) (m:=0) (v':=.slice (some ⟨g',0,none⟩) 1 cq) (qJ.out.below Hb.out) zd (.inl rfl) ((MO (aO sA.out Hb.out)).mono (λ_ _ h=>h.elim)) (Hx.out) (Hr.out) ky De.out vR yM.out (λg e=>(yM.out g e).1) (by rw[ah1];exact eV) bM OI;have Gk:=ar vW;have f8:=Ca.free i;have k8:=Ca.cell i;rw[List.getElem?_set_self jh.out]at k8;refine hK _ _ (λ_=>dc bM k0 (λe=>by have:=yM.out kb e.symm;omega)) ?_;try simp only[UU]
    iterate 2 (refine pT rfl rfl ?_;try simp only[UU])
    refine aR rfl rfl (λK hK=>?_);go_simp;refine hK _ _ (λh=>absurd h zd) ?_;try simp only[UU]
    simp only[bu];go_wp2_with fail;go_meet;exact⟨_,1,Gk.out⟩
  . have h0:((m0:Int)==0)=false:=by simp;omega
    have h0':¬(m0:Int)=0:=by omega
    go_wp2_with fail;go_meet;exact⟨_,m0,abg.out zo⟩
 case rest=>
  obtain⟨v1,m1,hst⟩:=hcut;have cn:=ar hst;clear hst hcell Hk abg qJ ml Hx Hr Hb x0 x1 x2 r0 r1 r2 aH aI aX;go_wp2_with fail;go_loopw[] (λwr=>∃v m,xq w W wr kb i vs (.slice a0 m0 MU) x [aj s,ai l,ah e] v m) (λwr=>k+1-Kb kb i wr);case atStart=>exact⟨v1,m1,cn.out⟩
  case round=>
   clear cn;obtain⟨v,m,hst⟩:=hrel;have cn:=ar hst;obtain⟨oD,hm2,hk1,ho,Ah,hc,hx,hr,hsz⟩:=hst;obtain⟨g,cap,rfl,hg1,hg2,hmc⟩:=wy ho zo;have hcell:=hk1.cell i;rw[List.getElem?_set_self jh.out]at hcell;have hfree:=hk1.free i;have hlen:Kb kb i wr=m:=by unfold Kb;rw[hcell]
   have EJ:=λj (hj:j<m)=>(show At wr (some ⟨g,0,none⟩) (((lS x m).map canon).flatMap bG)by
    obtain⟨a9,c9,e9,h9,_⟩:=dS ho;simp only[Value.slice.injEq,true_and]at e9;rw[<-e9.1]at h9
    rw[<-oh];exact h9).num j (by rw[List.length_map,ah0];exact hj) (show((lS x m).map canon)[j]'(by rw[List.length_map,ah0];exact hj)=(aC (dN (cP x j)),nt (dN (cP x j)).natAbs,dE (cP x j))by rw[List.getElem_map,axL];rfl)
   obtain⟨lj,Mb,qJ,Ho,SD,Hcg,Hx,Hr⟩:=oK hlen EJ hk1 ho Ah hc hx hr;have jm:g≠kb:=by omega
   have aDj:kb<w.heap.size:=vR;have Ou:g<wr.heap.size:=hg2;clear hlen EJ hk1 ho Ah hc hx hr;have Hb:=hbz wr
   have gB:Hid (aM wr):=HT.out wr (Hcg.out.below zo (λb e=>by
    rcases e with e|e
    . omega
    . have:=(yM.out b e.symm).1;omega))
   by_cases hlt:m<=k
   . obtain⟨j,hj⟩:∃j,m=j+1:=⟨m-1,by omega⟩;have hjm:j<m:=by omega
     have ER:IntKind.i64.wrap (j:Int)=(j:Int):=by rw[IntKind.wrap_i64];omega
     have aDi:(m:Int)-1=(j:Int):=by omega
     have bC:(m:Int)<=(k:Int):=by omega
     obtain⟨b9,o9,e9,p0,p1,p2⟩:=Mb.out j hjm;simp only[Option.some.injEq,Addr.mk.injEq,and_true]at e9;obtain⟨rfl,rfl⟩:=e9;rw[Nat.zero_add]at p0 p1 p2;have bD:=kP m cap j (j:Int) (rfl:(some ⟨g,0,none⟩:Option Addr)=_) hjm rfl;rw[Nat.zero_add]at bD;have Hp:Hid (bH wr g (j*3) [aj (aC (dN (cP x j))),ai (nt (dN (cP x j)).natAbs),ah (dE (cP x j))]):=jH p0 p1 p2;obtain⟨P,hP⟩:=aK (cP x j);obtain⟨Q,hQ⟩:=aK (cP x m);have hPQ:P*x=Q:=by rw[<-hQ,<-hP,hj];rfl
     have pK:Fit (256*B+1) (aC (dN P),nt (dN P).natAbs,dE P):=by have h:=Ba.out j;rw[hP]at h;have h9:B*j<=B*255:=Nat.mul_le_mul_left _ zo;exact(h.mono zo).fit zo
     have hxs:Fit (256*B+1) (s,l,e):=Hf.out.mono zo;have fw:=λb W9 (hbl:au W9 b 48 [aj (aC (dN P)),ai (nt (dN P).natAbs),ah (dE P),aj s,ai l,ah e]) (xJ:aM W9)=>xy (aC (dN P)) (nt (dN P).natAbs) (dE P) s l e Q (256*B+1) (by show aJ (canon P) *_=Q;rw[cp,Mi.out];exact hPQ) b 2 48 W9 pK hxs zo hbl xJ;rw[hP]at Hp;have hk':Hid (bH wr kb i [.slice (some ⟨g,0,none⟩) m cap]):=λj hj=>by
      obtain rfl:j=0:=by simp at hj;omega
      exact hcell
     have Hk:=hk';obtain⟨pp,HQ,QY,Hj⟩:=ej fw hQ hcell hj;clear hj fw hQ hP hPQ pK hxs p0 p1 p2 hk';go_wp2_with fail;clear hcell hfree;have k0:=Hk.out.w1;obtain⟨p0,p1,p2⟩:=Hp.out.w3;obtain⟨x0,x1,x2⟩:=Hx.out.c3;obtain⟨r0,r1,r2⟩:=Hr.out.c3;have HT:Hid (aM wr):=gB.out;refine bV (λw'=>aF w' kb i (.slice (some ⟨g,0,none⟩) m cap)/\aF w' g (j*3) (aj (aC (dN P)))/\aF w' g (j*3+1) (ai (nt (dN P).natAbs))/\aF w' g (j*3+2) (ah (dE P))/\aF w' (w.heap.size) 0 (aj s)/\aF w' (w.heap.size) 1 (ai l)/\aF w' (w.heap.size) 2 (ah e)) (λi=>Nat.blt i 24) [(0,true),(1,true),(2,true),(3,true),(4,true),(5,true),(6,true),(7,true),(8,true),(9,true),(10,true),(11,true),(12,true),(13,true),(14,true),(15,true),(16,true),(17,true),(18,false),(19,false),(20,false),(21,false),(22,true),(23,true),(24,false)] zk zk rfl zk zc ⟨k0,p0,p1,p2,x0,x1,x2⟩ ?_;iterate 18 (refine pT rfl rfl ?_ (by intro w' ⟨q0,q1,q2,q3,q4,q5,q6⟩;go_simp;try with_reducible rfl);try simp only[UU])
     refine aR rfl rfl (λK hK=>?_);go_simp;refine hK _ _ (λ_=>⟨aV k0,aV p0,aV p1,aV p2,aV x0,aV x1,aV x2⟩) ?_;try simp only[UU]
     refine bZ (λw6=>au w6 (wr.heap.size) 48 [aj (aC (dN P)),ai (nt (dN P).natAbs),ah (dE P),aj s,ai l,ah e]/\Bw wr w6) (by first|exact eo|exact eu) ?_;rintro w6 ⟨qc,ag⟩;have avj:=Hx.out.lt;have avc:=Hr.out.lt;replace Hk:=kW Hk ag;replace Hp:=kW Hp ag;replace Hx:=kB Hx ag;replace Hr:=kB Hr ag;replace HT:=kT HT ag;have Hc:=ar qc;clear qc;have k0:=Hk.out.w1;obtain⟨p0,p1,p2⟩:=Hp.out.w3;obtain⟨x0,x1,x2⟩:=Hx.out.c3;obtain⟨r0,r1,r2⟩:=Hr.out.c3;obtain⟨c0,c1,c2,c3,c4,c5⟩:=Hc.out.c6;replace Hb:=az Hb ag;refine aR rfl rfl (λK hK=>?_);go_simp;with_reducible refine(pp.out _ _ Hc.out (by first|exact HT.out|exact aM.drew HT.out|exact aM.alloc HT.out _|exact aM.drew (aM.alloc HT.out _) |exact aM.alloc (aM.drew HT.out) _)).mono ?_
     rintro e w7 ⟨rfl,hq⟩;have ag:Bw w6 w7:=by first|exact hq|exact bo hq
     replace Hk:=kW Hk ag;replace Hp:=kW Hp ag;replace Hx:=kB Hx ag;replace Hr:=kB Hr ag;replace HT:=kT HT ag;replace Hc:=kB Hc ag;have k0:=Hk.out.w1;obtain⟨p0,p1,p2⟩:=Hp.out.w3;obtain⟨x0,x1,x2⟩:=Hx.out.c3;obtain⟨r0,r1,r2⟩:=Hr.out.c3;obtain⟨c0,c1,c2,c3,c4,c5⟩:=Hc.out.c6;replace Hb:=az Hb ag;refine hK _ _ (λ_=>⟨k0,p0,p1,p2,x0,x1,x2⟩) ?_;try simp only[UU]
     refine aR rfl rfl (λK hK=>?_);go_simp;refine hK _ _ (λ_=>⟨aV k0,aV p0,aV p1,aV p2,aV x0,aV x1,aV x2⟩) ?_;try simp only[UU]
     refine bZ (λw8=>au w8 (w7.heap.size) 48 [aj (aC (dN Q)),ai (nt (dN Q).natAbs),ah (dE Q)]/\Bw w7 w8) (by first|exact eo|exact eu) ?_;rintro w8 ⟨qd,ag⟩;have aET:=Hx.out.lt;have aEI:=Hr.out.lt;have aDU:=Hc.out.lt;replace Hk:=kW Hk ag;replace Hp:=kW Hp ag;replace Hx:=kB Hx ag;replace Hr:=kB Hr ag;replace HT:=kT HT ag;replace Hc:=kB Hc ag;have Hd:=ar qd;clear qd;have k0:=Hk.out.w1;obtain⟨p0,p1,p2⟩:=Hp.out.w3;obtain⟨x0,x1,x2⟩:=Hx.out.c3;obtain⟨r0,r1,r2⟩:=Hr.out.c3;obtain⟨c0,c1,c2,c3,c4,c5⟩:=Hc.out.c6;obtain⟨d0,d1,d2⟩:=Hd.out.c3;replace Hb:=az Hb ag;refine aR rfl rfl (λK hK=>?_);have dR:=ownsRow_below Ho.out Hb.out;have ky:=Hb.out.size;have hkl:kb+1<=wr.heap.size:=by omega
     refine aAA _ _ 32 rfl (kb+1) 48 i0 _ 3 32 Tryz.underlying32 Hi.out dF.out dv.out di.out rfl zd g m cap (dC (lS x m)) rfl dR ⟨w7.heap.size,0,none⟩ 1 1 [aj (aC (dN Q)),ai (nt (dN Q).natAbs),ah (dE Q)] rfl rfl (gW Hd.out) zy zx zo zo ?_;intro v' w9 fT mC Jz VE;obtain⟨g',cq,rfl⟩:=ownsRow_succ fT;have Oy:=(qJ.out.below Hb.out).grown mC (λe=>by have h9:kb=g:=Option.some.inj e;omega);have gZ:=xq.push (xc:=[aj s,ai l,ah e]) (m:=m) (v':=.slice (some ⟨g',0,none⟩) (m+1) cq) (qJ.out.below Hb.out) zo SD.out (Hcg.out.trans (MO Hb.out) (λ_ h=>h.elim)) Hx.out Hr.out zo De.out vR yM.out (λg9 e=>by have h9:g=g9:=Option.some.inj e;omega) (by rw[ah1,HQ.out];exact fT) mC Jz;have hgx:g≠w.heap.size:=by
      have h:=SD.out;rcases h with h|⟨g9,h,h'⟩
      . have:=(yM.out g h.symm).2;omega
      . have h9:g=g9:=Option.some.inj h;have h8:=De.out;omega
     have P0:=VE _ _ zo p0;have P1:=VE _ _ zo p1;have P2:=VE _ _ zo p2;have X0:=dc mC x0 (λe=>hgx (Option.some.inj e).symm);have X1:=dc mC x1 (λe=>hgx (Option.some.inj e).symm);have X2:=dc mC x2 (λe=>hgx (Option.some.inj e).symm);have xf:=ar gZ;have f9:=Oy.free i;have k9:=Oy.cell i;rw[List.getElem?_set_self jh.out]at k9;have afB:Kb kb i (w9.setCell ⟨kb,i,none⟩ (.slice (some ⟨g',0,none⟩) (m+1) cq))=m+1:=by have h:=(Oy.set i (.slice (some ⟨g',0,none⟩) (m+1) cq)).cell i;rw[List.set_set,List.getElem?_set_self jh.out]at h;unfold Kb;rw[h]
     have al4:=ar afB;clear gZ Oy afB;refine hK _ _ (λ_=>⟨k9,P0,P1,P2,X0,X1,X2⟩) ?_;try simp only[UU]
     iterate 2 (refine pT rfl rfl ?_;try simp only[UU])
     refine aR rfl rfl (λK hK=>?_);go_simp;refine hK _ _ (λh=>absurd h zd) ?_;try simp only[UU]
     simp only[bu];go_wp2_with fail;go_roundw;case rel=>exact⟨_,m+1,xf.out⟩
     case measure=>rw[al4.out,lj.out];omega
   . have bC:¬(m:Int)<=(k:Int):=by omega
     have sW:k<m:=by omega
     obtain⟨b9,o9,e9,p0,p1,p2⟩:=Mb.out k sW;simp only[Option.some.injEq,Addr.mk.injEq,and_true]at e9;obtain⟨rfl,rfl⟩:=e9;rw[Nat.zero_add]at p0 p1 p2;have bD:=kP m cap k (k:Int) (rfl:(some ⟨g,0,none⟩:Option Addr)=_) sW rfl;rw[Nat.zero_add]at bD;obtain⟨r0,aH,r1,aI,r2,aX⟩:=Hr.out.g3;go_wp2_with fail;have hfin:=cn.out.fin De.out vR yM.out (aj (aC (dN (cP x k)))) (ai (nt (dN (cP x k)).natAbs)) (ah (dE (cP x k)));have hsW:w.heap.size<=W.heap.size:=by omega
     refine fP (λw9=>au w9 (w.heap.size+1) 48 [aj (aC (dN (cP x k))),ai (nt (dN (cP x k)).natAbs),ah (dE (cP x k))]/\(iQ w9 kb n X Z/\Chg (λb=>kb<=b/\¬Z b) w w9)) ⟨hfin.1,fu.out _ _ m hfin.2.1 hfin.2.2.1 hm2 hfin.2.2.2 (by
      rcases SD.out with h|⟨g9,h,h'⟩
      . exact .inl h
      . exact .inr ⟨g9,h,by omega⟩)⟩ ?_
     rintro w9 ⟨kx,h9⟩;obtain⟨q0,q1,q2⟩:=kx.c3;refine bodyPost_ret (v:=cK (cP x k)) (by simp[results,Tryz.results65,go_sem,q0,q1,q2]) rfl ⟨rfl,h9⟩
end Go.Proofs.YtnjfebkelecgaaaGreatDoor
