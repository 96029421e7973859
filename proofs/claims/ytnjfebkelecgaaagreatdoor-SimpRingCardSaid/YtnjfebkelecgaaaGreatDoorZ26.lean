/- Package poly: like,Add. -/
import Derived.Test.YtnjfebkelecgaaaGreatDoorZ13
set_option linter.unusedVariables false
set_option linter.unusedSimpArgs false
set_option maxRecDepth 100000
set_option maxHeartbeats 16000000
namespace Go.Proofs.YtnjfebkelecgaaaGreatDoor
open Go.RowKit
attribute [local go_sem ↓] Go.wp_at_zero Go.wp_at_succ
def jX (w:World)(V B:Nat)(ps:List Pv)(Ts:Nat->List aR):Prop:=∀k (h:k<ps.length),∃a c,ps[k]=⟨(V:Int),a,(Ts k).length,c⟩/\bJ w a c (Ts k)/\iw V B (Ts k)
theorem jX.below {w w':World}{V B:Nat}{ps:List Pv}{Ts:Nat->List aR}(h:jX w V B ps Ts)(hb:Bw w w'):jX w' V B ps Ts:=λk hk=>by obtain⟨a,c,h1,h2,h3⟩:=h k hk;exact⟨a,c,h1,h2.below hb,h3⟩
def FM (w:World)(V B:Nat)(ps:List Pv)(Ts:Nat->List aR):Prop:=∀k (h:k<ps.length),∃a c,ps[k]=⟨(V:Int),a,(Ts k).length,c⟩/\ye w a c (Ts k)/\iw V B (Ts k)
theorem FM.below {w w':World}{V B:Nat}{ps:List Pv}{Ts:Nat->List aR}(h:FM w V B ps Ts)(hb:Bw w w'):FM w' V B ps Ts:=λk hk=>by obtain⟨a,c,h1,h2,h3⟩:=h k hk;exact⟨a,c,h1,h2.below hb,h3⟩
theorem below_drewN {n:Nat}{w w':World}(h:Below n w w')(k:Nat):Below n w (w'.drewN k):=by
 induction k with
 |zero=>exact h
 |succ k ih=>exact ih.drew
theorem aqQ (V V':Int)(aT:Option Addr)(nT cT:Nat)(bl:Nat)(b o L cap:Nat)(q:Value)(w:World)(hc:w.cell? ⟨bl,0,none⟩=some (.slice (some ⟨b,o,none⟩) L cap))(hL:0<L)(hw:bY w b o [ah V,q]):
 Calls Tryz.prog 96 #[.agg #[ah V',.slice aT nT cT],.pointer (some ⟨bl,0,none⟩)] w λex w'=>ex=.returned (ar (V' !=V))/\Bw w w':=by
 have bK:=yQ L cap 0 0 (rfl:(some ⟨b,o,none⟩:Option Addr)=_) hL rfl;rw[Nat.zero_mul,Nat.add_zero]at bK;have h0:w.cell? ⟨b,o,none⟩=some (ah V):=by have:=hw.w2.1;exact this
 obtain⟨Hc,H0⟩:=aZ hc h0;clear hc h0 hw;obtain⟨W,dw,Hb,Hx⟩:=jT w 24 [ah V',.slice aT nT cT];obtain⟨x0,x1⟩:=Hx.out.c2;have k1:=cell_later Hb.out Hc.out;have k2:=cell_later Hb.out H0.out;go_enter Tryz.func96,Tryz.ntmps96;go_wp2_with fail;go_quiet (fail)
 go_wp2;refine bodyPost_ret (results_tmp rfl _ _ _) rfl ⟨rfl,(below_drewN Hb.out _)⟩
theorem aed (V B:Nat)(b o L cap:Nat)(ps:List Pv)(Ts:Nat->List aR)(w:World)(hL:ps.length=L)(Mc:0<L)(oO:L<=65536)(ha:At w (some ⟨b,o,none⟩) (ps.flatMap mN))(hp:FM w V B ps Ts)(hT:aO w):
 Calls Tryz.prog 53 #[.slice (some ⟨b,o,none⟩) L cap] w λe w'=>e=.returned (ah 0)/\Bw w w':=by
 have eg:∀args w,(callFunc 96 args).run Tryz.prog w=.ok (.enter 96 args) w:=enters_of Tryz.func96 zk rfl;have hct:∀W bl,Bw w W->W.cell? ⟨bl,0,none⟩=some (.slice (some ⟨b,o,none⟩) L cap)->Calls Tryz.prog 95 #[.slice (some ⟨b,o,none⟩) L cap,.func (.func 96) #[] #[.pointer (some ⟨bl,0,none⟩)]] W λe w'=>e=.returned (ar false)/\Bw W w':=by
  intro W bl hW hc;obtain⟨a0,c0,e0,_,_⟩:=hp 0 zo;obtain⟨b',o',hab,cw⟩:=(ha.below hW).aBm 0 zo e0;simp only[Option.some.injEq,Addr.mk.injEq,and_true]at hab;obtain⟨rfl,rfl⟩:=hab;rw[Nat.zero_mul,Nat.add_zero]at cw;have h:=amW (some ⟨b,o,none⟩) L cap ps 96 #[.pointer (some ⟨bl,0,none⟩)] (λp=>p.V !=(V:Int)) W hL zo (ha.below hW) eg (λx hx W2 hW2=>by simpa using aqQ (V:Int) x.V x.a x.n x.c bl b o L cap _ W2 (cell_later hW2 hc) Mc (cw.below hW2));have hf:(ps.any λp=>p.V !=(V:Int))=false:=by rw[List.any_eq_false];intro p Il;obtain⟨k,hk,rfl⟩:=List.mem_iff_getElem.1 Il;obtain⟨a,c,e1,_,_⟩:=hp k hk;rw[e1];simp
  rwa [hf]at h
 have eZ:=λW (hW:Bw w W) k (hk:k<ps.length)=>(show ∃a c,ps[k]=⟨(V:Int),a,(Ts k).length,c⟩/\Calls Tryz.prog 41 #[.agg #[ah (V:Int),.slice a (Ts k).length c]] W λe w'=>e=.returned (ah 0)/\Bw W w' from by
  obtain⟨a,c,e1,h1,h2⟩:=hp k hk;refine⟨a,c,e1,?_⟩;have h:=NI (V:Int) a c (Ts k).length (Ts k) W rfl (by have:=h2.1.2.2.1;omega) (h1.1.below hW) h2.chk (hT.below hW)
  rwa [Vj h2.1]at h)
 obtain⟨OS,mW,Ha,HL⟩:=eN hct eZ ha hL;clear hct eZ ha hL hp hT eg;have hLn:((L:Int)==0)=false:=by simp;omega
 have Hb:Hid (Bw w w):=Below.refl _ _;go_enter Tryz.func53,Tryz.ntmps53;go_wp2_with fail;obtain⟨R,hR⟩:∃R:World->Prop,(λW=>aC W (w.heap.size) 86 [.slice (some ⟨b,o,none⟩) L cap]/\Bw w W)=R:=⟨_,rfl⟩;first|refine cj R ?hR ?_|refine cu R ?hR ?_
 case hR=>subst hR;exact⟨(aC.newAt w _ _ (b:=w.heap.size) rfl),zl⟩
 subst hR;rintro W ⟨ql,ag⟩;have Hl:=aj ql;clear ql;have l0:=Hl.out.c1;replace Hb:=aF Hb ag;clear ag;go_loopw[8] (λx wr=>∃k:Nat,k<=L/\x=ah (k:Int)/\Bw W wr) (λx _=>L-(intOf x).toNat);case atStart=>exact⟨0,Nat.zero_le _,rfl,Below.refl _ _⟩
 case round=>
  clear l0;obtain⟨k,hk,rfl,pb⟩:=hrel;obtain⟨bW,hl,bj⟩:=dc (aV Hb.out pb) (Hl.out.below pb) pb;clear pb Hb Hl;by_cases hlt:k<L
  . have hk2:k<ps.length:=by rw[HL.out];exact hlt
    obtain⟨a1,c1,e1,hcall⟩:=mW.out wr bW.out k hk2;obtain⟨b',o',hab,cw⟩:=(Ha.out.below bW.out).aBm k hk2 e1;obtain⟨rfl,rfl⟩:b=b'/\o=o':=by simp at hab;exact hab
    have hcall:=λW (hW:Bw w W)=>(mW.out W hW k hk2);have bK:=yQ L cap k (k:Int) (rfl:(some ⟨b,o,none⟩:Option Addr)=_) hlt rfl;obtain⟨nT,gM⟩:=aK ((Ts k).length);have apf:Hid (∀W,Bw w W->Calls Tryz.prog 41 #[.agg #[ah (V:Int),.slice a1 nT c1]] W λe w'=>e=.returned (ah 0)/\Bw W w'):=by intro W hW;obtain⟨a2,c2,e2,h2⟩:=hcall W hW;rw[e1]at e2;simp only[Pv.mk.injEq,true_and]at e2;obtain⟨rfl,rfl⟩:=e2;rw[gM]at h2;exact h2
    rw[gM]at cw;have Hx:Hid (bY wr b (o+k*2) [ah (V:Int),.slice a1 nT c1]):=cw;clear cw hcall hab e1 gM;have Hb:Hid (Bw wr wr):=Below.refl _ _;obtain⟨x0,x1⟩:=Hx.out.w2;have P0:=x0;have P1:=x1;obtain⟨W3,Dl,ag,Hv⟩:=cF wr 24 [ah (V:Int),.slice a1 nT c1];clear x0 x1;replace Hx:=kW Hx ag;obtain⟨x0,x1⟩:=Hx.out.w2;obtain⟨v0,v1⟩:=Hv.out.c2;replace Hb:=aF Hb ag;clear ag;go_wp2_with fail;refine(apf.out _ (aV bW.out Hb.out)).mono ?_;rintro e w4 ⟨rfl,ag⟩;clear x0 x1 v0 v1;replace Hx:=kW Hx ag;obtain⟨Hv,v0,v1⟩:=bi Hv ag;obtain⟨x0,x1⟩:=Hx.out.w2;replace Hb:=aF Hb ag;clear ag;go_wp2;go_roundw;case rel=>exact⟨k+1,by omega,by go_num,aV bj.out Hb.out⟩
    case measure=>simp[intOf];omega
  . obtain rfl:k=L:=by omega
    have Hb:=bW;have Hl:=hl;have l0:=Hl.out.c1;go_wp2_with fail;refine(OS.out _ _ Hb.out l0).mono ?_;rintro e w6 ⟨rfl,ag⟩;clear l0;replace Hl:=kB Hl ag;have l0:=Hl.out.c1;replace Hb:=aF Hb ag;clear ag;go_wp2;go_ret;exact⟨rfl,Hb.out⟩
def jQ (Ts:Nat->List aR):Nat->List aR
 |0=>[]
 |k+1=>gS (jQ Ts k) (Ts k)
def oD (Ts:Nat->List aR):Nat->List aR
 |0=>[]
 |k+1=>oD Ts k++Ts k
theorem amJ (Ts:Nat->List aR)(k:Nat)(m:List UInt8):cK (jQ Ts k) m=cK (oD Ts k) m:=by
 induction k with
 |zero=>rfl
 |succ k ih=>unfold jQ oD;rw[ZL,Ao,ih]
theorem aeK (Ts:Nat->List aR)(k:Nat):(jQ Ts k).length<=(oD Ts k).length:=by
 induction k with
 |zero=>exact Nat.le_refl _
 |succ k ih=>unfold jQ oD;have:=aeJ (jQ Ts k) (Ts k);rw[List.length_append];omega
theorem ZB (Ts:Nat->List aR)(j k:Nat)(h:j<=k):(oD Ts j).length<=(oD Ts k).length:=by
 induction k with
 | zero => obtain rfl:j=0:=by omega
           exact Nat.le_refl _
 | succ k ih=>
   by_cases e:j=k+1
   . subst e;exact Nat.le_refl _
   . have:=ih zo;rw[show oD Ts (k+1)=oD Ts k++Ts k from rfl,List.length_append];omega
theorem arX {B:Nat}(Ts:Nat->List aR)(k:Nat)(h:∀j,j<k->∀t∈Ts j,Fit B t.2)(hB:B+k<=268435456):∀t∈jQ Ts k,Fit (B+k) t.2:=by
 induction k with
 |zero=>intro t ht;cases ht
 |succ k ih=>unfold jQ;have:=aeI (B:=B+k) (jQ Ts k) (Ts k) (ih (λj hj=>h j zo) zo) (λt ht=>(h k zo t ht).mono zo) zo;exact this
theorem asR (V B:Nat)(b o L cap:Nat)(ps:List Pv)(Ts:Nat->List aR)(C:List aR)(w:World)(hL:ps.length=L)(Mc:0<L)(oO:L<=65536)(ha:At w (some ⟨b,o,none⟩) (ps.flatMap mN))(hp:FM w V B ps Ts)(hn:(oD Ts L).length<=4096)(hB:B+L+8192<=268435456)(hT:aO w)(hC:bU (oD Ts L)=C):
 Calls Tryz.prog 17 #[.slice (some ⟨b,o,none⟩) L cap] w λex w'=>∃a' c',ex=.returned (.tuple #[.agg #[ah (V:Int),.slice a' C.length c'],ah 0])/\bJ w' a' c' C/\Bw w w':=by
 have Gg:=enters_of Tryz.func55 zk rfl;have Gf:=enters_of Tryz.func56 zk rfl;have hlk:=λW (hW:Bw w W)=>aed V B b o L cap ps Ts W hL Mc oO (ha.below hW) (hp.below hW) (hT.below hW);have hCm:bU (jQ Ts L)=C:=by rw[<-hC];exact CN (amJ Ts L)
 have Dz:(jQ Ts L).length<=4096:=Nat.le_trans (aeK Ts L) hn;have Td:∀j,j<L->∀t∈Ts j,Fit B t.2:=λj hj=>by obtain⟨a,c,_,_,h⟩:=hp j zo;exact h.2
 have rC:=λk (hk:k<=L)=>arX (B:=B) Ts k (λj hj=>Td j zo) zo;have hcl:=λw0 W v (hw0:Bw w w0) (hb0:Bw w0 W) (ho:W.ownsRow w0.heap.size 67 4 v (jQ Ts L).length ((jQ Ts L).flatMap aY))=>Lj (V:Int) v _ (jQ Ts L) C (B+L) w0 W hb0 rfl Dz ho (rC L (Nat.le_refl _)) zo (hT.below hw0) hCm;obtain⟨a0,c0,e0,_,_⟩:=hp 0 zo;obtain⟨b',o',hab,cw⟩:=ha.aBm 0 zo e0;obtain⟨rfl,rfl⟩:b=b'/\o=o':=by simp at hab;exact hab
 rw[Nat.zero_mul,Nat.add_zero]at cw;have GN:=yQ L cap 0 0 (rfl:(some ⟨b,o,none⟩:Option Addr)=_) Mc rfl;rw[Nat.zero_mul,Nat.add_zero]at GN;obtain⟨n0,hn0⟩:=aK ((Ts 0).length);rw[hn0]at cw;have hlb:b<w.heap.size:=World.block_lt_of_cell? w _ cw.w2.1;obtain⟨Ps,fY,Hmf,Hp,Ha,HT,HL,OZ,OY,HfT,Hw,Pn⟩:=gy hlk hcl rC hp ha hT hL Gg Gf Td cw GN
 have lT:Hid (∀k,k<L->(jQ Ts k).length<=4096/\(Ts k).length<=4096):=λk hk=>⟨Nat.le_trans (Nat.le_trans (aeK Ts k) (ZB Ts k L zo)) hn,by
  have h1:=ZB Ts (k+1) L zo
  rw[show oD Ts (k+1)=oD Ts k++Ts k from rfl,List.length_append]at h1;omega⟩
 clear hlk hcl rC hp ha hT hL Gg Gf Td cw GN hC hCm hn Dz hab e0 hn0;have Hb:Hid (Bw w w):=Below.refl _ _;go_enter Tryz.func17,Tryz.ntmps17;go_wp2_with fail;obtain⟨R,hR⟩:∃R:World->Prop,(λW=>aC W (w.heap.size) 24 [ah 0,.slice none 0 0]/\Bw w W)=R:=⟨_,rfl⟩;first|refine cj R ?hR ?_|refine cu R ?hR ?_
 case hR=>subst hR;exact⟨(aC.newAt w _ _ (b:=w.heap.size) rfl),zl⟩
 subst hR;rintro W ⟨qr,ag⟩;have Hr:=aj qr;clear qr;obtain⟨r0,au,r1,az⟩:=Hr.out.g2;replace Hb:=aF Hb ag;clear ag;go_wp2_with fail;refine(Ps.out _ Hb.out).mono ?_;rintro e w1 ⟨rfl,ag⟩;clear r0 au r1 az;obtain⟨Hr,r0,au,r1,az⟩:=bE Hr ag;replace Hb:=aF Hb ag;clear ag;have jG:=Hr;have dG:=Hb;go_wp2_with fail;go_loopw[5,16] (λs5 x wr=>∃(k:Nat) (v:Value),k<=L/\x=ah (k:Int)/\v=s5/\wr.ownsRow w1.heap.size 67 4 v (jQ Ts k).length ((jQ Ts k).flatMap aY)/\Bw w1 wr) (λ_ x _=>L-(intOf x).toNat);case atStart=>exact⟨0,_,Nat.zero_le _,rfl,rfl,World.ownsRow_nil _ _ _ _,Below.refl _ _⟩
 case round=>
  clear r0 au r1 az Hr Hb;obtain⟨k,v,hk,rfl,rfl,ho,pb⟩:=hrel;have bW:=aV dG.out pb;have zE:=dG.out.size;have iu:=pb.size;by_cases hlt:k<L
  . have hk2:k<ps.length:=by rw[HL.out];exact hlt
    obtain⟨a1,c1,e1,hpl,hft⟩:=Hp.out k hk2;obtain⟨b',o',hab,cw⟩:=(Ha.out.below bW).aBm k hk2 e1;obtain⟨rfl,rfl⟩:b=b'/\o=o':=by simp at hab;exact hab
    have bK:=yQ L cap k (k:Int) (rfl:(some ⟨b,o,none⟩:Option Addr)=_) hlt rfl;obtain⟨av,cv,rfl,yz,_⟩:=dU ho;have Ir:=zq ho;have uh:=lT.out k hlt;have hfm:=Hmf.out k zo;have Dt:=HfT.out k hlt;have hsk:=hpl.2;have Hm:Hid (∀W,Bw wr W->Calls Tryz.prog 54 #[.slice av (jQ Ts k).length cv,.slice a1 (Ts k).length c1,.func (.func 55) #[] #[],.func (.func 56) #[] #[]] W λe w'=>∃v',e=.returned v'/\w'.ownsRow w1.heap.size 67 4 v' (jQ Ts (k+1)).length ((jQ Ts (k+1)).flatMap aY)/\Bw W w'):=by intro W hW;refine(aeC av _ cv (jQ Ts k) a1 _ c1 (Ts k) (B+L) W rfl rfl Ir hsk zo zo (yz.below hW) (hpl.1.below (aV bW hW)) (λt ht=>(hfm t ht).mono zo) (λt ht=>(Dt t ht).mono zo) zo (HT.out.below (aV bW hW))).mono ?_;rintro e w' ⟨v',rfl,h1,h2⟩;exact⟨v',rfl,sH h1 (by have:=hW.size;omega),h2⟩
    obtain⟨nv,TB⟩:=aK ((jQ Ts k).length);obtain⟨nT,gM⟩:=aK ((Ts k).length);rw[TB,gM]at Hm;rw[gM]at cw;have Hx:Hid (bY wr b (o+k*2) [ah (V:Int),.slice a1 nT c1]):=cw;have bj:=aj pb;rw[TB];clear cw hab e1 gM TB hpl hft ho yz Ir uh hfm Dt hsk pb bW;have Hb:Hid (Bw wr wr):=Below.refl _ _;obtain⟨x0,x1⟩:=Hx.out.w2;have P0:=x0;have P1:=x1;obtain⟨W3,Dl,ag,Hv⟩:=cF wr 24 [ah (V:Int),.slice a1 nT c1];clear x0 x1;replace Hx:=kW Hx ag;obtain⟨x0,x1⟩:=Hx.out.w2;obtain⟨v0,v1⟩:=Hv.out.c2;replace Hb:=aF Hb ag;clear ag;have Rv:=OZ.out;have LC:=OY.out;go_wp2_with fail;refine(Hm.out _ Hb.out).mono ?_;rintro e w4 ⟨v',rfl,ho4,hb4⟩;have dm:=aV bj.out (aV Hb.out hb4);obtain⟨Ho4,eX⟩:=aZ ho4 dm;clear Rv LC ho4 dm hb4;go_wp2;go_roundw;case rel=>exact⟨k+1,v',by omega,by go_num,rfl,Ho4.out,eX.out⟩
    case measure=>simp[intOf];omega
  . obtain rfl:k=L:=by omega
    obtain⟨av,cv,rfl,_,_⟩:=dU ho;have Hx:=aj (Hw.out.below bW);have Hb:Hid (Bw w wr):=bW;obtain⟨dH,bj,Hr⟩:=dc ho pb (jG.out.below pb);have bK:=Pn.out;clear ho pb bW;obtain⟨x0,x1⟩:=Hx.out.w2;obtain⟨r0,au,r1,az⟩:=Hr.out.g2;have akg:Hid (bY w1 b o [ah (V:Int),.slice a0 n0 c0]):=Hw.out.below dG.out;go_wp2_with fail;refine(fY.out w1 _ _ dG.out bj.out dH.out).mono ?_;rintro e w6 ⟨a2,d2,rfl,eD,ag⟩;clear x0 x1 r0 au r1 az;replace Hx:=aj (akg.out.below ag);replace Hr:=aj (jG.out.below ag);obtain⟨x0,x1⟩:=Hx.out.w2;obtain⟨r0,au,r1,az⟩:=Hr.out.g2;replace Hb:=aj (aV dG.out ag);clear ag;go_wp2;refine CL (Hr.out) eD Hb.out zo ?_;intro w9 kP fS eQ;obtain⟨q0,q1⟩:=kP.c2;exact bodyPost_ret (v:=.tuple #[.agg #[ah (V:Int),.slice a2 C.length d2],ah 0]) (by simp[results,Tryz.results17,go_sem,q0,q1]) rfl ⟨_,_,rfl,BK fS,eQ⟩
end Go.Proofs.YtnjfebkelecgaaaGreatDoor
