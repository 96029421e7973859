/- Package poly: like,Add. -/
import Derived.Test.YtdaadlblknpipaaGreatDoorZ15
set_option linter.unusedVariables false
set_option linter.unusedSimpArgs false
set_option maxRecDepth 100000
set_option maxHeartbeats 16000000
namespace Go.Proofs.YtdaadlblknpipaaGreatDoor
open Go.RowKit
attribute [local go_sem ↓] Go.wp_at_zero Go.wp_at_succ
def iA (w:World)(V B:Nat)(ps:List Pv)(Ts:Nat->List aL):Prop:=∀k (h:k<ps.length),∃a c,ps[k]=⟨(V:Int),a,(Ts k).length,c⟩/\cu w a c (Ts k)/\jq V B (Ts k)
theorem iA.below {w w':World}{V B:Nat}{ps:List Pv}{Ts:Nat->List aL}(h:iA w V B ps Ts)(hb:Bw w w'):iA w' V B ps Ts:=λk hk=>by obtain⟨a,c,h1,h2,h3⟩:=h k hk;exact⟨a,c,h1,h2.below hb,h3⟩
theorem below_drewN {n:Nat}{w w':World}(h:Below n w w')(k:Nat):Below n w (w'.drewN k):=by
 induction k with
 |zero=>exact h
 |succ k ih=>exact ih.drew
theorem agh (V V':Int)(aT:Option Addr)(nT cT:Nat)(bl:Nat)(b o L cap:Nat)(q:Value)(w:World)(hc:w.cell? ⟨bl,0,none⟩=some (.slice (some ⟨b,o,none⟩) L cap))(hL:0<L)(hw:aZ w b o [.int .i64 V,q]):
 Calls Tryz.prog 140 #[.agg #[.int .i64 V',.slice aT nT cT],.pointer (some ⟨bl,0,none⟩)] w λex w'=>ex=.returned (.bool (V' !=V))/\Bw w w':=by
 have bA:=wN L cap 0 0 (rfl:(some ⟨b,o,none⟩:Option Addr)=_) hL rfl;rw[Nat.zero_mul,Nat.add_zero]at bA;have h0:w.cell? ⟨b,o,none⟩=some (.int .i64 V):=by have:=hw.w2.1;exact this
 obtain⟨Hc,H0⟩:=aM hc h0;clear hc h0 hw;obtain⟨W,cO,Hb,Hx⟩:=iF w 57 [.int .i64 V',.slice aT nT cT];obtain⟨x0,x1⟩:=Hx.out.c2;have k1:=cell_later Hb.out Hc.out;have k2:=cell_later Hb.out H0.out;go_enter Tryz.func140,Tryz.ntmps140;go_wp2_with fail;go_quiet (fail)
 go_wp2;refine bodyPost_ret (results_tmp rfl _ _ _) rfl ⟨rfl,(below_drewN Hb.out _)⟩
theorem agi (V B:Nat)(b o L cap:Nat)(ps:List Pv)(Ts:Nat->List aL)(w:World)(hL:ps.length=L)(Ff:0<L)(KT:L<=65536)(ha:At w (some ⟨b,o,none⟩) (ps.flatMap kK))(hp:iA w V B ps Ts)(hT:aF w):
 Calls Tryz.prog 98 #[.slice (some ⟨b,o,none⟩) L cap] w λe w'=>e=.returned (.int .i64 0)/\Bw w w':=by
 have eg:∀args w,(callFunc 140 args).run Tryz.prog w=.ok (.enter 140 args) w:=enters_of Tryz.func140 zk rfl;have hct:∀W bl,Bw w W->W.cell? ⟨bl,0,none⟩=some (.slice (some ⟨b,o,none⟩) L cap)->Calls Tryz.prog 139 #[.slice (some ⟨b,o,none⟩) L cap,.func (.func 140) #[] #[.pointer (some ⟨bl,0,none⟩)]] W λe w'=>e=.returned (.bool false)/\Bw W w':=by
  intro W bl hW hc;obtain⟨a0,c0,e0,_,_⟩:=hp 0 zo;obtain⟨b',o',hab,cw⟩:=(ha.below hW).an9 0 zo e0;simp only[Option.some.injEq,Addr.mk.injEq,and_true]at hab;obtain⟨rfl,rfl⟩:=hab;rw[Nat.zero_mul,Nat.add_zero]at cw;have h:=acU (some ⟨b,o,none⟩) L cap ps 140 #[.pointer (some ⟨bl,0,none⟩)] (λp=>p.V !=(V:Int)) W hL zo (ha.below hW) eg (λx hx W2 hW2=>by simpa using agh (V:Int) x.V x.a x.n x.c bl b o L cap _ W2 (cell_later hW2 hc) Ff (cw.below hW2));have hf:(ps.any λp=>p.V !=(V:Int))=false:=by rw[List.any_eq_false];intro p Cu;obtain⟨k,hk,rfl⟩:=List.mem_iff_getElem.1 Cu;obtain⟨a,c,e1,_,_⟩:=hp k hk;rw[e1];simp
  rwa [hf]at h
 have fy:=λW (hW:Bw w W) k (hk:k<ps.length)=>(show ∃a c,ps[k]=⟨(V:Int),a,(Ts k).length,c⟩/\Calls Tryz.prog 77 #[.agg #[.int .i64 (V:Int),.slice a (Ts k).length c]] W λe w'=>e=.returned (.int .i64 0)/\Bw W w' from by
  obtain⟨a,c,e1,h1,h2⟩:=hp k hk;refine⟨a,c,e1,?_⟩;have h:=Wu (V:Int) a c (Ts k).length (Ts k) W rfl (by have:=h2.1.2.2.1;omega) (h1.1.below hW) h2.chk (hT.below hW)
  rwa [Wv h2.1]at h)
 obtain⟨IE,nD,Ha,HL⟩:=dO hct fy ha hL;clear hct fy ha hL hp hT eg;have hLn:((L:Int)==0)=false:=by simp;omega
 have Hb:Hid (Bw w w):=Below.refl _ _;go_enter Tryz.func98,Tryz.ntmps98;go_wp2_with fail;obtain⟨R,hR⟩:∃R:World->Prop,(λW=>ai W (w.heap.size) 50 [.slice (some ⟨b,o,none⟩) L cap]/\Bw w W)=R:=⟨_,rfl⟩;first|refine bG R ?hR ?_|refine bF R ?hR ?_
 case hR=>subst hR;exact⟨(ai.newAt w _ _ (b:=w.heap.size) rfl),zl⟩
 subst hR;rintro W ⟨ql,ae⟩;have Hl:=ah ql;clear ql;have l0:=Hl.out.c1;replace Hb:=az Hb ae;clear ae;go_loopw[8] (λx wr=>∃k:Nat,k<=L/\x=.int .i64 (k:Int)/\Bw W wr) (λx _=>L-(intOf x).toNat);case atStart=>exact⟨0,Nat.zero_le _,rfl,Below.refl _ _⟩
 case round=>
  clear l0;obtain⟨k,hk,rfl,pb⟩:=hrel;obtain⟨dV,hl,aR⟩:=cH (aK Hb.out pb) (Hl.out.below pb) pb;clear pb Hb Hl;by_cases hlt:k<L
  . have hk2:k<ps.length:=by rw[HL.out];exact hlt
    obtain⟨a1,c1,e1,hcall⟩:=nD.out wr dV.out k hk2;obtain⟨b',o',hab,cw⟩:=(Ha.out.below dV.out).an9 k hk2 e1;obtain⟨rfl,rfl⟩:b=b'/\o=o':=by simp at hab;exact hab
    have hcall:=λW (hW:Bw w W)=>(nD.out W hW k hk2);have bA:=wN L cap k (k:Int) (rfl:(some ⟨b,o,none⟩:Option Addr)=_) hlt rfl;obtain⟨nT,wy⟩:=aC ((Ts k).length);have aeY:Hid (∀W,Bw w W->Calls Tryz.prog 77 #[.agg #[.int .i64 (V:Int),.slice a1 nT c1]] W λe w'=>e=.returned (.int .i64 0)/\Bw W w'):=by intro W hW;obtain⟨a2,c2,e2,h2⟩:=hcall W hW;rw[e1]at e2;simp only[Pv.mk.injEq,true_and]at e2;obtain⟨rfl,rfl⟩:=e2;rw[wy]at h2;exact h2
    rw[wy]at cw;have Hx:Hid (aZ wr b (o+k*2) [.int .i64 (V:Int),.slice a1 nT c1]):=cw;clear cw hcall hab e1 wy;have Hb:Hid (Bw wr wr):=Below.refl _ _;obtain⟨x0,x1⟩:=Hx.out.w2;have P0:=x0;have P1:=x1;obtain⟨W3,Lh,ae,Hv⟩:=cQ wr 57 [.int .i64 (V:Int),.slice a1 nT c1];clear x0 x1;replace Hx:=kW Hx ae;obtain⟨x0,x1⟩:=Hx.out.w2;obtain⟨v0,v1⟩:=Hv.out.c2;replace Hb:=az Hb ae;clear ae;go_wp2_with fail;refine(aeY.out _ (aK dV.out Hb.out)).mono ?_;rintro e w4 ⟨rfl,ae⟩;clear x0 x1 v0 v1;replace Hx:=kW Hx ae;replace Hv:=kB Hv ae;obtain⟨x0,x1⟩:=Hx.out.w2;obtain⟨v0,v1⟩:=Hv.out.c2;replace Hb:=az Hb ae;clear ae;go_wp2;go_roundw;case rel=>exact⟨k+1,by omega,by go_num,aK aR.out Hb.out⟩
    case measure=>simp[intOf];omega
  . obtain rfl:k=L:=by omega
    have Hb:=dV;have Hl:=hl;have l0:=Hl.out.c1;go_wp2_with fail;refine(IE.out _ _ Hb.out l0).mono ?_;rintro e w6 ⟨rfl,ae⟩;clear l0;replace Hl:=kB Hl ae;have l0:=Hl.out.c1;replace Hb:=az Hb ae;clear ae;go_wp2;go_ret;exact⟨rfl,Hb.out⟩
def ik (Ts:Nat->List aL):Nat->List aL
 |0=>[]
 |k+1=>fT (ik Ts k) (Ts k)
def kZ (Ts:Nat->List aL):Nat->List aL
 |0=>[]
 |k+1=>kZ Ts k++Ts k
theorem acJ (Ts:Nat->List aL)(k:Nat)(m:List UInt8):bR (ik Ts k) m=bR (kZ Ts k) m:=by
 induction k with
 |zero=>rfl
 |succ k ih=>unfold ik kZ;rw[QU,vJ,ih]
theorem VW (Ts:Nat->List aL)(k:Nat):(ik Ts k).length<=(kZ Ts k).length:=by
 induction k with
 |zero=>exact Nat.le_refl _
 |succ k ih=>unfold ik kZ;have:=VV (ik Ts k) (Ts k);rw[List.length_append];omega
theorem QN (Ts:Nat->List aL)(j k:Nat)(h:j<=k):(kZ Ts j).length<=(kZ Ts k).length:=by
 induction k with
 | zero => obtain rfl:j=0:=by omega
           exact Nat.le_refl _
 | succ k ih=>
   by_cases e:j=k+1
   . subst e;exact Nat.le_refl _
   . have:=ih zo;rw[show kZ Ts (k+1)=kZ Ts k++Ts k from rfl,List.length_append];omega
theorem ag5 {B:Nat}(Ts:Nat->List aL)(k:Nat)(h:∀j,j<k->∀t∈Ts j,Fit B t.2)(hB:B+k<=268435456):∀t∈ik Ts k,Fit (B+k) t.2:=by
 induction k with
 |zero=>intro t ht;cases ht
 |succ k ih=>unfold ik;have:=VU (B:=B+k) (ik Ts k) (Ts k) (ih (λj hj=>h j zo) zo) (λt ht=>(h k zo t ht).mono zo) zo;exact this
theorem aa5 (V B:Nat)(b o L cap:Nat)(ps:List Pv)(Ts:Nat->List aL)(C:List aL)(w:World)(hL:ps.length=L)(Ff:0<L)(KT:L<=65536)(ha:At w (some ⟨b,o,none⟩) (ps.flatMap kK))(hp:iA w V B ps Ts)(hn:(kZ Ts L).length<=4096)(hB:B+L+8192<=268435456)(hT:aF w)(hC:bH (kZ Ts L)=C):
 Calls Tryz.prog 60 #[.slice (some ⟨b,o,none⟩) L cap] w λex w'=>∃a' c',ex=.returned (.tuple #[.agg #[.int .i64 (V:Int),.slice a' C.length c'],.int .i64 0])/\cu w' a' c' C/\Bw w w':=by
 have Bp:=enters_of Tryz.func100 zk rfl;have Bo:=enters_of Tryz.func101 zk rfl;have hlk:=λW (hW:Bw w W)=>agi V B b o L cap ps Ts W hL Ff KT (ha.below hW) (hp.below hW) (hT.below hW);have RS:bH (ik Ts L)=C:=by rw[<-hC];exact ye (acJ Ts L)
 have wu:(ik Ts L).length<=4096:=Nat.le_trans (VW Ts L) hn;have LA:∀j,j<L->∀t∈Ts j,Fit B t.2:=λj hj=>by obtain⟨a,c,_,_,h⟩:=hp j zo;exact h.2
 have qG:=λk (hk:k<=L)=>ag5 (B:=B) Ts k (λj hj=>LA j zo) zo;have hcl:=λw0 W v (hw0:Bw w w0) (hb0:Bw w0 W) (ho:W.ownsRow w0.heap.size 107 4 v (ik Ts L).length ((ik Ts L).flatMap aN))=>Kg (V:Int) v _ (ik Ts L) C (B+L) w0 W hb0 rfl wu ho (qG L (Nat.le_refl _)) zo (hT.below hw0) RS;obtain⟨a0,c0,e0,_,_⟩:=hp 0 zo;obtain⟨b',o',hab,cw⟩:=ha.an9 0 zo e0;obtain⟨rfl,rfl⟩:b=b'/\o=o':=by simp at hab;exact hab
 rw[Nat.zero_mul,Nat.add_zero]at cw;have LH:=wN L cap 0 0 (rfl:(some ⟨b,o,none⟩:Option Addr)=_) Ff rfl;rw[Nat.zero_mul,Nat.add_zero]at LH;obtain⟨n0,hn0⟩:=aC ((Ts 0).length);rw[hn0]at cw;have hlb:b<w.heap.size:=World.block_lt_of_cell? w _ cw.w2.1;obtain⟨Zv,gN,ZC,Hp,Ha,HT,HL,IP,IM,Aj,Hw,Au⟩:=gW hlk hcl qG hp ha hT hL Bp Bo LA cw LH
 have mG:Hid (∀k,k<L->(ik Ts k).length<=4096/\(Ts k).length<=4096):=λk hk=>⟨Nat.le_trans (Nat.le_trans (VW Ts k) (QN Ts k L zo)) hn,by
  have h1:=QN Ts (k+1) L zo
  rw[show kZ Ts (k+1)=kZ Ts k++Ts k from rfl,List.length_append]at h1;omega⟩
 clear hlk hcl qG hp ha hT hL Bp Bo LA cw LH hC RS hn wu hab e0 hn0;have Hb:Hid (Bw w w):=Below.refl _ _;go_enter Tryz.func60,Tryz.ntmps60;go_wp2_with fail;obtain⟨R,hR⟩:∃R:World->Prop,(λW=>ai W (w.heap.size) 57 [.int .i64 0,.slice none 0 0]/\Bw w W)=R:=⟨_,rfl⟩;first|refine bG R ?hR ?_|refine bF R ?hR ?_
 case hR=>subst hR;exact⟨(ai.newAt w _ _ (b:=w.heap.size) rfl),zl⟩
 subst hR;rintro W ⟨qr,ae⟩;have Hr:=ah qr;clear qr;obtain⟨r0,aj,r1,ar⟩:=Hr.out.g2;replace Hb:=az Hb ae;clear ae;go_wp2_with fail;refine(Zv.out _ Hb.out).mono ?_;rintro e w1 ⟨rfl,ae⟩;clear r0 aj r1 ar;replace Hr:=kB Hr ae;obtain⟨r0,aj,r1,ar⟩:=Hr.out.g2;replace Hb:=az Hb ae;clear ae;have jL:=Hr;have dt:=Hb;go_wp2_with fail;go_loopw[5,16] (λs5 x wr=>∃(k:Nat) (v:Value),k<=L/\x=.int .i64 (k:Int)/\v=s5/\wr.ownsRow w1.heap.size 107 4 v (ik Ts k).length ((ik Ts k).flatMap aN)/\Bw w1 wr) (λ_ x _=>L-(intOf x).toNat);case atStart=>exact⟨0,_,Nat.zero_le _,rfl,rfl,World.ownsRow_nil _ _ _ _,Below.refl _ _⟩
 case round=>
  clear r0 aj r1 ar Hr Hb;obtain⟨k,v,hk,rfl,rfl,ho,pb⟩:=hrel;have dV:=aK dt.out pb;have zE:=dt.out.size;have iu:=pb.size;by_cases hlt:k<L
  . have hk2:k<ps.length:=by rw[HL.out];exact hlt
    obtain⟨a1,c1,e1,hpl,hft⟩:=Hp.out k hk2;obtain⟨b',o',hab,cw⟩:=(Ha.out.below dV).an9 k hk2 e1;obtain⟨rfl,rfl⟩:b=b'/\o=o':=by simp at hab;exact hab
    have bA:=wN L cap k (k:Int) (rfl:(some ⟨b,o,none⟩:Option Addr)=_) hlt rfl;obtain⟨av,cv,rfl,tX,_⟩:=dK ho;have Cy:=uI ho;have Cj:=mG.out k hlt;have Tt:=ZC.out k zo;have Tq:=Aj.out k hlt;have hsk:=hpl.2.1;have Hm:Hid (∀W,Bw wr W->Calls Tryz.prog 99 #[.slice av (ik Ts k).length cv,.slice a1 (Ts k).length c1,.func (.func 100) #[] #[],.func (.func 101) #[] #[]] W λe w'=>∃v',e=.returned v'/\w'.ownsRow w1.heap.size 107 4 v' (ik Ts (k+1)).length ((ik Ts (k+1)).flatMap aN)/\Bw W w'):=by intro W hW;refine(VO av _ cv (ik Ts k) a1 _ c1 (Ts k) (B+L) W rfl rfl Cy hsk zo zo (tX.below hW) (hpl.1.below (aK dV hW)) (λt ht=>(Tt t ht).mono zo) (λt ht=>(Tq t ht).mono zo) zo (HT.out.below (aK dV hW))).mono ?_;rintro e w' ⟨v',rfl,h1,h2⟩;exact⟨v',rfl,oF h1 (by have:=hW.size;omega),h2⟩
    obtain⟨nv,od⟩:=aC ((ik Ts k).length);obtain⟨nT,wy⟩:=aC ((Ts k).length);rw[od,wy]at Hm;rw[wy]at cw;have Hx:Hid (aZ wr b (o+k*2) [.int .i64 (V:Int),.slice a1 nT c1]):=cw;have aR:=ah pb;rw[od];clear cw hab e1 wy od hpl hft ho tX Cy Cj Tt Tq hsk pb dV;have Hb:Hid (Bw wr wr):=Below.refl _ _;obtain⟨x0,x1⟩:=Hx.out.w2;have P0:=x0;have P1:=x1;obtain⟨W3,Lh,ae,Hv⟩:=cQ wr 57 [.int .i64 (V:Int),.slice a1 nT c1];clear x0 x1;replace Hx:=kW Hx ae;obtain⟨x0,x1⟩:=Hx.out.w2;obtain⟨v0,v1⟩:=Hv.out.c2;replace Hb:=az Hb ae;clear ae;have Ky:=IP.out;have EN:=IM.out;go_wp2_with fail;refine(Hm.out _ Hb.out).mono ?_;rintro e w4 ⟨v',rfl,Ue,hb4⟩;have dm:=aK aR.out (aK Hb.out hb4);obtain⟨ZN,fq⟩:=aM Ue dm;clear Ky EN Ue dm hb4;go_wp2;go_roundw;case rel=>exact⟨k+1,v',by omega,by go_num,rfl,ZN.out,fq.out⟩
    case measure=>simp[intOf];omega
  . obtain rfl:k=L:=by omega
    obtain⟨av,cv,rfl,_,_⟩:=dK ho;have Hx:=ah (Hw.out.below dV);have Hb:Hid (Bw w wr):=dV;obtain⟨cp,aR,Hr⟩:=cH ho pb (jL.out.below pb);have bA:=Au.out;clear ho pb dV;obtain⟨x0,x1⟩:=Hx.out.w2;obtain⟨r0,aj,r1,ar⟩:=Hr.out.g2;have aaI:Hid (aZ w1 b o [.int .i64 (V:Int),.slice a0 n0 c0]):=Hw.out.below dt.out;go_wp2_with fail;refine(gN.out w1 _ _ dt.out aR.out cp.out).mono ?_;rintro e w6 ⟨a2,d2,rfl,eo,ae⟩;clear x0 x1 r0 aj r1 ar;replace Hx:=ah (aaI.out.below ae);replace Hr:=ah (jL.out.below ae);obtain⟨x0,x1⟩:=Hx.out.w2;obtain⟨r0,aj,r1,ar⟩:=Hr.out.g2;replace Hb:=ah (aK dt.out ae);clear ae;go_wp2;refine yb (Hr.out) eo Hb.out zo ?_;intro w9 mV gF ky;obtain⟨q0,q1⟩:=mV.c2;exact bodyPost_ret (v:=.tuple #[.agg #[.int .i64 (V:Int),.slice a2 C.length d2],.int .i64 0]) (by simp[results,Tryz.results60,go_sem,q0,q1]) rfl ⟨_,_,rfl,CQ gF,ky⟩
end Go.Proofs.YtdaadlblknpipaaGreatDoor
