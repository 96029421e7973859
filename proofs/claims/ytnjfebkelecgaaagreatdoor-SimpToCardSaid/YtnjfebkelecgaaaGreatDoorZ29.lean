/- Package poly: like,Add. -/
import Derived.Test.YtnjfebkelecgaaaGreatDoorZ7
import Derived.Test.YtnjfebkelecgaaaGreatDoorZ14
set_option linter.all false
set_option maxRecDepth 100000
set_option maxHeartbeats 16000000
namespace Go.Proofs.YtnjfebkelecgaaaGreatDoor
open Go.RowKit
attribute [local go_sem ↓] Go.wp_at_zero Go.wp_at_succ
def iW (w:World)(V B:Nat)(ps:List Pv)(Ts:Nat->List aM):Prop:=∀k (h:k<ps.length),∃a c,ps[k]=⟨(V:Int),a,(Ts k).length,c⟩/\bI w a c (Ts k)/\ir V B (Ts k)
def iW.below {w w':World}{V B:Nat}{ps:List Pv}{Ts:Nat->List aM}(h:iW w V B ps Ts)(hb:Bw w w'):iW w' V B ps Ts:=λk hk=>by obtain⟨a,c,h1,h2,h3⟩:=h k hk;exact⟨a,c,h1,h2.below hb,h3⟩
instance {w :World} {V B:Nat} {ps:List Pv} {Ts:Nat->List aM}:QTr (iW w V B ps Ts) w (λW=>iW W V B ps Ts):=⟨λh _ k=>iW.below h k⟩
def Gm (w:World)(V B:Nat)(ps:List Pv)(Ts:Nat->List aM):Prop:=∀k (h:k<ps.length),∃a c,ps[k]=⟨(V:Int),a,(Ts k).length,c⟩/\yw w a c (Ts k)/\ir V B (Ts k)
def Gm.below {w w':World}{V B:Nat}{ps:List Pv}{Ts:Nat->List aM}(h:Gm w V B ps Ts)(hb:Bw w w'):Gm w' V B ps Ts:=λk hk=>by obtain⟨a,c,h1,h2,h3⟩:=h k hk;exact⟨a,c,h1,h2.below hb,h3⟩
def below_drewN {n:Nat}{w w':World}(h:Below n w w')(k:Nat):Below n w (w'.drewN k):=by
 induction k with
 |zero=>exact h
 |succ k ih=>exact ih.drew
def asE (V V':Int)(aT:Option Addr)(nT cT:Nat)(bl:Nat)(b o L cap:Nat)(q:Value)(w:World)(hc:w.cell? ⟨bl,0,none⟩=some (.slice (some ⟨b,o,none⟩) L cap))(hL:0<L)(hw:bA w b o [ah V,q]):
 Cv 96 #[.agg #[ah V',.slice aT nT cT],.pointer (some ⟨bl,0,none⟩)] w (aj (V' !=V)):=by
 have bC:=zI L cap 0 0 (rfl:(some ⟨b,o,none⟩:Option Addr)=_) hL rfl;rw[Nat.zero_mul,Nat.add_zero]at bC;have h0:w.cell? ⟨b,o,none⟩=some (ah V):=by have:=hw.w2.1;exact this
 obtain⟨Hc,H0⟩:=aU hc h0;clear hc h0 hw;obtain⟨W,cP,ag,aC⟩:=gz w 24 [ah V',.slice aT nT cT];have k1:=cell_later ag.1.out Hc.out;have k2:=cell_later ag.1.out H0.out;go_enter Tryz.func96,Tryz.ntmps96;go_wp2_with fail;go_quiet (fail)
 go_wp2;refine bodyPost_ret (results_tmp rfl _ _ _) rfl ⟨rfl,(below_drewN ag.1.out _)⟩
def afw (V B:Nat)(b o L cap:Nat)(ps:List Pv)(Ts:Nat->List aM)(w:World)(hL:ps.length=L)(MQ:0<L)(oX:L<=65536)(ha:At w (some ⟨b,o,none⟩) (ps.flatMap nQ))(hp:Gm w V B ps Ts)(hT:aR w):
 Cv 53 #[.slice (some ⟨b,o,none⟩) L cap] w (ah 0):=by
 have eg:∀args w,(callFunc 96 args).run Tryz.prog w=.ok (.enter 96 args) w:=enters_of Tryz.func96 zk rfl;have hct:∀W bl,Bw w W->W.cell? ⟨bl,0,none⟩=some (.slice (some ⟨b,o,none⟩) L cap)->Cv 95 #[.slice (some ⟨b,o,none⟩) L cap,.func (.func 96) #[] #[.pointer (some ⟨bl,0,none⟩)]] W (aj false):=by
  intro W bl hW hc;obtain⟨a0,c0,e0,_,_⟩:=hp 0 zo;obtain⟨b',o',hab,cn⟩:=(ha.below hW).aCp 0 zo e0;simp only[Option.some.injEq,Addr.mk.injEq,and_true]at hab;obtain⟨rfl,rfl⟩:=hab;rw[Nat.zero_mul,Nat.add_zero]at cn;have h:=aoy (some ⟨b,o,none⟩) L cap ps 96 #[.pointer (some ⟨bl,0,none⟩)] (λp=>p.V !=(V:Int)) W hL zo (ha.below hW) eg (λx hx W2 hW2=>by simpa using asE (V:Int) x.V x.a x.n x.c bl b o L cap _ W2 (cell_later hW2 hc) MQ (cn.below hW2));have hf:(ps.any λp=>p.V !=(V:Int))=false:=by rw[List.any_eq_false];intro p Jj;obtain⟨k,hk,rfl⟩:=List.mem_iff_getElem.1 Jj;obtain⟨a,c,e1,_,_⟩:=hp k hk;rw[e1];simp
  rwa [hf]at h
 have eX:=λW (hW:Bw w W) k (hk:k<ps.length)=>(show ∃a c,ps[k]=⟨(V:Int),a,(Ts k).length,c⟩/\Cv 41 #[.agg #[ah (V:Int),.slice a (Ts k).length c]] W (ah 0)from by
  obtain⟨a,c,e1,h1,h2⟩:=hp k hk;refine⟨a,c,e1,?_⟩;have h:=JV (V:Int) a c (Ts k).length (Ts k) W rfl (by have:=h2.1.2.2.1;omega) (h1.1.below hW) h2.chk (hT.below hW)
  rwa [OD h2.1]at h)
 obtain⟨PU,nR,Ha,HL⟩:=dP hct eX ha hL;clear hct eX ha hL hp hT eg;have hLn:((L:Int)==0)=false:=by simp;omega
 have Hb:=hbz w;go_enter Tryz.func53,Tryz.ntmps53;go_wp2_with fail;refine il w (Hb.an trivial) 86 [.slice (some ⟨b,o,none⟩) L cap] λW bi ag aC=>?_;go_loopw[8] (λx wr=>∃k:Nat,k<=L/\x=ah (k:Int)/\Bw W wr) (λx _=>L-(intOf x).toNat);case atStart=>exact⟨0,Nat.zero_le _,rfl,Below.refl _ _⟩
 case round=>
  skip
  obtain⟨k,hk,rfl,pb⟩:=hrel;obtain⟨bE,hl,aX⟩:=cE (aO ag.2.1.out pb) (ag.1.out.below pb) pb;clear pb;by_cases hlt:k<L
  . have hk2:k<ps.length:=by rw[HL.out];exact hlt
    obtain⟨a1,c1,e1,hcall⟩:=nR.out wr bE.out k hk2;obtain⟨b',o',hab,cn⟩:=(Ha.out.below bE.out).aCp k hk2 e1;obtain⟨rfl,rfl⟩:b=b'/\o=o':=by simp at hab;exact hab
    have hcall:=λW (hW:Bw w W)=>(nR.out W hW k hk2);have bC:=zI L cap k (k:Int) (rfl:(some ⟨b,o,none⟩:Option Addr)=_) hlt rfl;obtain⟨nT,dQ⟩:=aI ((Ts k).length);have aqV:Hid (∀W,Bw w W->Cv 41 #[.agg #[ah (V:Int),.slice a1 nT c1]] W (ah 0)):=by intro W hW;obtain⟨a2,c2,e2,h2⟩:=hcall W hW;rw[e1]at e2;simp only[Pv.mk.injEq,true_and]at e2;obtain⟨rfl,rfl⟩:=e2;rw[dQ]at h2;exact h2
    rw[dQ]at cn;have Hx:Hid (bA wr b (o+k*2) [ah (V:Int),.slice a1 nT c1]):=cn;clear cn hcall hab e1 dQ;have Hb:=hbz wr;obtain⟨ag,aC⟩:=qZ (Hx.an trivial);have x0:wr.cell? ⟨b,o+k*2,none⟩=some (ah (V:Int)):=ag.1.out.cell 0 zm;have x1:wr.cell? ⟨b,o+k*2+1,none⟩=some (.slice a1 nT c1):=ag.1.out.cell 1 zm;have P0:=x0;have P1:=x1;obtain⟨W3,DK,bi,ag,aC⟩:=cM wr (Hb.an ag) 24 [ah (V:Int),.slice a1 nT c1];go_wp2_with fail;refine aZ ag (aqV.out _ (aO bE.out ag.2.1.out)) λw4 ag aC=>?_;go_wp2;go_roundw;case rel=>exact⟨k+1,by omega,by go_num,aO aX.out ag.2.1.out⟩
    case measure=>exact bH
  . obtain rfl:k=L:=by omega
    have Hb:=bE;have Hl:=hl;obtain⟨ag,aC⟩:=qZ (Hl.an trivial);have l0:wr.cell? ⟨w.heap.size,0,none⟩=some (.slice (some ⟨b,o,none⟩) k cap):=ag.1.out.cell 0;go_wp2_with fail;refine aZ (Hb.an ag) (PU.out _ _ Hb.out l0) λw6 ag aC=>?_;go_wp2;go_ret;exact⟨rfl,ag.1.out⟩
def jM (Ts:Nat->List aM):Nat->List aM
 |0=>[]
 |k+1=>ig (jM Ts k) (Ts k)
def oQ (Ts:Nat->List aM):Nat->List aM
 |0=>[]
 |k+1=>oQ Ts k++Ts k
def aoj (Ts:Nat->List aM)(k:Nat)(m:List UInt8):cO (jM Ts k) m=cO (oQ Ts k) m:=by
 induction k with
 |zero=>rfl
 |succ k ih=>unfold jM oQ;rw[aaX,AZ,ih]
def af1 (Ts:Nat->List aM)(k:Nat):(jM Ts k).length<=(oQ Ts k).length:=by
 induction k with
 |zero=>exact Nat.le_refl _
 |succ k ih=>unfold jM oQ;have:=af0 (jM Ts k) (Ts k);rw[List.length_append];omega
def aaM (Ts:Nat->List aM)(j k:Nat)(h:j<=k):(oQ Ts j).length<=(oQ Ts k).length:=by
 induction k with
 | zero => obtain rfl:j=0:=by omega
           exact Nat.le_refl _
 | succ k ih=>
   by_cases e:j=k+1
   . subst e;exact Nat.le_refl _
   . have:=ih zo;rw[show oQ Ts (k+1)=oQ Ts k++Ts k from rfl,List.length_append];omega
def atn {B:Nat}(Ts:Nat->List aM)(k:Nat)(h:∀j,j<k->∀t∈Ts j,Fit B t.2)(hB:B+k<=268435456):∀t∈jM Ts k,Fit (B+k) t.2:=by
 induction k with
 |zero=>intro t ht;cases ht
 |succ k ih=>unfold jM;have:=afZ (B:=B+k) (jM Ts k) (Ts k) (ih (λj hj=>h j zo) zo) (λt ht=>(h k zo t ht).mono zo) zo;exact this
def aun (V B:Nat)(b o L cap:Nat)(ps:List Pv)(Ts:Nat->List aM)(C:List aM)(w:World)(hL:ps.length=L)(MQ:0<L)(oX:L<=65536)(ha:At w (some ⟨b,o,none⟩) (ps.flatMap nQ))(hp:Gm w V B ps Ts)(hn:(oQ Ts L).length<=4096)(hB:B+L+8192<=268435456)(hT:aR w)(hC:bW (oQ Ts L)=C):
 Cl 17 #[.slice (some ⟨b,o,none⟩) L cap] w λex w'=>∃a' c',ex=.returned (.tuple #[.agg #[ah (V:Int),.slice a' C.length c'],ah 0])/\bI w' a' c' C/\Bw w w':=by
 have GI:=enters_of Tryz.func55 zk rfl;have GH:=enters_of Tryz.func56 zk rfl;have hlk:=λW (hW:Bw w W)=>afw V B b o L cap ps Ts W hL MQ oX (ha.below hW) (hp.below hW) (hT.below hW);have hCm:bW (jM Ts L)=C:=by rw[<-hC];exact Dk (aoj Ts L)
 have xf:(jM Ts L).length<=4096:=Nat.le_trans (af1 Ts L) hn;have Ug:∀j,j<L->∀t∈Ts j,Fit B t.2:=λj hj=>by obtain⟨a,c,_,_,h⟩:=hp j zo;exact h.2
 have rG:=λk (hk:k<=L)=>atn (B:=B) Ts k (λj hj=>Ug j zo) zo;have hcl:=λw0 W v (hw0:Bw w w0) (hb0:Bw w0 W) (ho:W.ownsRow w0.heap.size 67 4 v (jM Ts L).length ((jM Ts L).flatMap aW))=>Mg (V:Int) v _ (jM Ts L) C (B+L) w0 W hb0 rfl xf ho (rG L (Nat.le_refl _)) zo (hT.below hw0) hCm;obtain⟨a0,c0,e0,_,_⟩:=hp 0 zo;obtain⟨b',o',hab,cn⟩:=ha.aCp 0 zo e0;obtain⟨rfl,rfl⟩:b=b'/\o=o':=by simp at hab;exact hab
 rw[Nat.zero_mul,Nat.add_zero]at cn;have IL:=zI L cap 0 0 (rfl:(some ⟨b,o,none⟩:Option Addr)=_) MQ rfl;rw[Nat.zero_mul,Nat.add_zero]at IL;obtain⟨n0,hn0⟩:=aI ((Ts 0).length);rw[hn0]at cn;have hlb:b<w.heap.size:=World.block_lt_of_cell? w _ cn.w2.1;obtain⟨Qv,gD,Hmf,Hp,Ha,HT,HL,Qe,Qd,HfT,Hw,Qq⟩:=fu hlk hcl rG hp ha hT hL GI GH Ug cn IL
 have jQ:Hid (∀k,k<L->(jM Ts k).length<=4096/\(Ts k).length<=4096):=λk hk=>⟨Nat.le_trans (Nat.le_trans (af1 Ts k) (aaM Ts k L zo)) hn,by
  have h1:=aaM Ts (k+1) L zo
  rw[show oQ Ts (k+1)=oQ Ts k++Ts k from rfl,List.length_append]at h1;omega⟩
 clear hlk hcl rG hp ha hT hL GI GH Ug cn IL hC hCm hn xf hab e0 hn0;have Hb:=hbz w;go_enter Tryz.func17,Tryz.ntmps17;go_wp2_with fail;refine il w (Hb.an trivial) 24 [ah 0,.slice none 0 0] λW bi ag aC=>?_;go_wp2_with fail;refine aZ ag (Qv.out _ ag.2.1.out) λw1 ag aC=>?_;obtain⟨Hr,Hb,_⟩:=ag;obtain⟨r0,bo,r1,bz⟩:=Hr.out.g2;have jw:=Hr;have dM:=Hb;go_wp2_with fail;go_loopw[5,16] (λs5 x wr=>∃(k:Nat) (v:Value),k<=L/\x=ah (k:Int)/\v=s5/\wr.ownsRow w1.heap.size 67 4 v (jM Ts k).length ((jM Ts k).flatMap aW)/\Bw w1 wr) (λ_ x _=>L-(intOf x).toNat);case atStart=>exact⟨0,_,Nat.zero_le _,rfl,rfl,World.ownsRow_nil _ _ _ _,Below.refl _ _⟩
 case round=>
  clear r0 bo r1 bz Hr Hb;obtain⟨k,v,hk,rfl,rfl,ho,pb⟩:=hrel;have bE:=aO dM.out pb;have vN:=dM.out.size;have fQ:=pb.size;by_cases hlt:k<L
  . have hk2:k<ps.length:=by rw[HL.out];exact hlt
    obtain⟨a1,c1,e1,hpl,hft⟩:=Hp.out k hk2;obtain⟨b',o',hab,cn⟩:=(Ha.out.below bE).aCp k hk2 e1;obtain⟨rfl,rfl⟩:b=b'/\o=o':=by simp at hab;exact hab
    have bC:=zI L cap k (k:Int) (rfl:(some ⟨b,o,none⟩:Option Addr)=_) hlt rfl;obtain⟨av,cv,rfl,yQ,_⟩:=dm ho;have Jq:=uz ho;have nk:=jQ.out k hlt;have BG:=Hmf.out k zo;have DY:=HfT.out k hlt;have hsk:=hpl.2;have Hm:Hid (∀W,Bw wr W->Cl 54 #[.slice av (jM Ts k).length cv,.slice a1 (Ts k).length c1,.func (.func 55) #[] #[],.func (.func 56) #[] #[]] W λe w'=>∃v',e=.returned v'/\w'.ownsRow w1.heap.size 67 4 v' (jM Ts (k+1)).length ((jM Ts (k+1)).flatMap aW)/\Bw W w'):=by intro W hW;refine(afU av _ cv (jM Ts k) a1 _ c1 (Ts k) (B+L) W rfl rfl Jq hsk zo zo (yQ.below hW) (hpl.1.below (aO bE hW)) (λt ht=>(BG t ht).mono zo) (λt ht=>(DY t ht).mono zo) zo (HT.out.below (aO bE hW))).mono ?_;rintro e w' ⟨v',rfl,h1,h2⟩;exact⟨v',rfl,rM h1 (by have:=hW.size;omega),h2⟩
    obtain⟨nv,UH⟩:=aI ((jM Ts k).length);obtain⟨nT,dQ⟩:=aI ((Ts k).length);rw[UH,dQ]at Hm;rw[dQ]at cn;have Hx:Hid (bA wr b (o+k*2) [ah (V:Int),.slice a1 nT c1]):=cn;have aX:=az pb;rw[UH];clear cn hab e1 dQ UH hpl hft ho yQ Jq nk BG DY hsk pb bE;have Hb:=hbz wr;obtain⟨ag,aC⟩:=qZ (Hx.an trivial);have x0:wr.cell? ⟨b,o+k*2,none⟩=some (ah (V:Int)):=ag.1.out.cell 0 zm;have x1:wr.cell? ⟨b,o+k*2+1,none⟩=some (.slice a1 nT c1):=ag.1.out.cell 1 zm;have P0:=x0;have P1:=x1;obtain⟨W3,DK,bi,ag,aC⟩:=cM wr (Hb.an ag) 24 [ah (V:Int),.slice a1 nT c1];have SC:=Qe.out;have Ms:=Qd.out;go_wp2_with fail;refine(Hm.out _ ag.2.1.out).mono ?_;rintro e w4 ⟨v',rfl,ho4,hb4⟩;have dK:=aO aX.out (aO ag.2.1.out hb4);obtain⟨Ho4,eP⟩:=aU ho4 dK;clear SC Ms ho4 dK hb4;go_wp2;go_roundw;case rel=>exact⟨k+1,v',by omega,by go_num,rfl,Ho4.out,eP.out⟩
    case measure=>exact bH
  . obtain rfl:k=L:=by omega
    obtain⟨av,cv,rfl,_,_⟩:=dm ho;have Hx:=az (Hw.out.below bE);have Hb:Hid (Bw w wr):=bE;obtain⟨dA,aX,Hr⟩:=cE ho pb (jw.out.below pb);have bC:=Qq.out;clear ho pb bE;obtain⟨ag,aC⟩:=qZ (Hx.an<|Hr.an trivial);have al3:Hid (bA w1 b o [ah (V:Int),.slice a0 n0 c0]):=Hw.out.below dM.out;obtain⟨Hx,Hr,_⟩:=ag;obtain⟨x0,x1⟩:=Hx.out.w2;obtain⟨r0,bo,r1,bz⟩:=Hr.out.g2;go_wp2_with fail;refine(gD.out w1 _ _ dM.out aX.out dA.out).mono ?_;rintro e w6 ⟨a2,d2,rfl,dX,au⟩;replace Hx:=az (al3.out.below au);replace Hr:=az (jw.out.below au);obtain⟨x0,x1⟩:=Hx.out.w2;obtain⟨r0,bo,r1,bz⟩:=Hr.out.g2;replace Hb:=az (aO dM.out au);go_wp2;refine AW (Hr.out) dX Hb.out zo ?_;intro w9 jY fN dS;obtain⟨q0,q1⟩:=jY.c2;exact bodyPost_ret (v:=.tuple #[.agg #[ah (V:Int),.slice a2 C.length d2],ah 0]) (by simp[results,Tryz.results17,go_sem,q0,q1]) rfl ⟨_,_,rfl,Cr fN,dS⟩
end Go.Proofs.YtnjfebkelecgaaaGreatDoor
