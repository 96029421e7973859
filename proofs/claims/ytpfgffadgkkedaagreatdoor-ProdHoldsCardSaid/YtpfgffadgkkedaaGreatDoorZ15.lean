/- Package poly: like,Add. -/
import Derived.Test.YtpfgffadgkkedaaGreatDoorZ7
import Derived.Test.YtpfgffadgkkedaaGreatDoorZ14
import Derived.Test.YtpfgffadgkkedaaGreatDoorZ13
import Derived.Test.YtpfgffadgkkedaaGreatDoorZ11
set_option linter.all false
set_option maxRecDepth 100000
set_option maxHeartbeats 16000000
namespace Go.Proofs.YtpfgffadgkkedaaGreatDoor
open Go.RowKit
attribute [local go_sem ↓] Go.wp_at_zero Go.wp_at_succ
def dK (w:World)(V B:Nat)(ps:List Pv)(Ts:Nat->List Trm):Prop:=∀k (h:k<ps.length),∃a c,ps[k]=⟨(V:Int),a,(Ts k).length,c⟩/\aM w a c (Ts k)/\dJ V B (Ts k)
def dK.below {w w':World}{V B:Nat}{ps:List Pv}{Ts:Nat->List Trm}(h:dK w V B ps Ts)(hb:Bw w w'):dK w' V B ps Ts:=λk hk=>by obtain⟨a,c,h1,h2,h3⟩:=h k hk;exact⟨a,c,h1,h2.below hb,h3⟩
instance {w :World} {V B:Nat} {ps:List Pv} {Ts:Nat->List Trm}:QTr (dK w V B ps Ts) w (λW=>dK W V B ps Ts):=⟨λh _ k=>dK.below h k⟩
def uI (w:World)(V B:Nat)(ps:List Pv)(Ts:Nat->List Trm):Prop:=∀k (h:k<ps.length),∃a c,ps[k]=⟨(V:Int),a,(Ts k).length,c⟩/\uH w a c (Ts k)/\dJ V B (Ts k)
def uI.below {w w':World}{V B:Nat}{ps:List Pv}{Ts:Nat->List Trm}(h:uI w V B ps Ts)(hb:Bw w w'):uI w' V B ps Ts:=λk hk=>by obtain⟨a,c,h1,h2,h3⟩:=h k hk;exact⟨a,c,h1,h2.below hb,h3⟩
instance {w :World} {V B:Nat} {ps:List Pv} {Ts:Nat->List Trm}:QTr (uI w V B ps Ts) w (λW=>uI W V B ps Ts):=⟨λh _ k=>uI.below h k⟩
def below_drewN {n:Nat}{w w':World}(h:Below n w w')(k:Nat):Below n w (w'.drewN k):=by
 induction k with
 |zero=>exact h
 |succ k ih=>exact ih.drew
def anV (V V':Int)(aT:Option Addr)(nT cT:Nat)(bl:Nat)(b o L cap:Nat)(q:Value)(w:World)(hc:w.cell? ⟨bl,0,none⟩=some (.slice (some ⟨b,o,none⟩) L cap))(hL:0<L)(hw:aR w b o [af V,q]):
 Cv 273 #[.agg #[af V',.slice aT nT cT],.pointer (some ⟨bl,0,none⟩)] w (ag (V' !=V)):=by
 have aQ:=mY L cap 0 0 (rfl:(some ⟨b,o,none⟩:Option Addr)=_) hL rfl;rw[Nat.zero_mul,Nat.add_zero]at aQ;have h0:w.cell? ⟨b,o,none⟩=some (af V):=by have:=hw.w2.1;exact this
 obtain⟨Hc,H0⟩:=aI hc h0;clear hc h0 hw;obtain⟨W,bX,ae,ai⟩:=fy w 41 [af V',.slice aT nT cT];have k1:=cell_later ae.1.out Hc.out;have k2:=cell_later ae.1.out H0.out;go_enter Tryz.func273,Tryz.ntmps273;go_wp2_with fail;go_quiet (fail)
 go_wp2;refine bodyPost_ret (results_tmp rfl _ _ _) rfl ⟨rfl,(below_drewN ae.1.out _)⟩
def aaY (V B:Nat)(b o L cap:Nat)(ps:List Pv)(Ts:Nat->List Trm)(w:World)(hL:ps.length=L)(oK:0<L)(CQ:L<=65536)(ha:At w (some ⟨b,o,none⟩) (ps.flatMap eJ))(hp:uI w V B ps Ts)(hT:aB w):
 Cv 229 #[.slice (some ⟨b,o,none⟩) L cap] w (af 0):=by
 have eg:∀args w,(callFunc 273 args).run Tryz.prog w=.ok (.enter 273 args) w:=enters_of Tryz.func273 zk rfl;have hct:∀W bl,Bw w W->W.cell? ⟨bl,0,none⟩=some (.slice (some ⟨b,o,none⟩) L cap)->Cv 147 #[.slice (some ⟨b,o,none⟩) L cap,.func (.func 273) #[] #[.pointer (some ⟨bl,0,none⟩)]] W (ag false):=by
  intro W bl hW hc;obtain⟨a0,c0,e0,_,_⟩:=hp 0 zo;obtain⟨b',o',hab,bJ⟩:=(ha.below hW).awJ 0 zo e0;simp only[Option.some.injEq,Addr.mk.injEq,and_true]at hab;obtain⟨rfl,rfl⟩:=hab;rw[Nat.zero_mul,Nat.add_zero]at bJ;have h:=VD (some ⟨b,o,none⟩) L cap ps 273 #[.pointer (some ⟨bl,0,none⟩)] (λp=>p.V !=(V:Int)) W hL zo (ha.below hW) eg (λx hx W2 hW2=>by simpa using anV (V:Int) x.V x.a x.n x.c bl b o L cap _ W2 (cell_later hW2 hc) oK (bJ.below hW2));have hf:(ps.any λp=>p.V !=(V:Int))=false:=by rw[List.any_eq_false];intro p xO;obtain⟨k,hk,rfl⟩:=List.mem_iff_getElem.1 xO;obtain⟨a,c,e1,_,_⟩:=hp k hk;rw[e1];simp
  rwa [hf]at h
 have cF:=λW (hW:Bw w W) k (hk:k<ps.length)=>(show ∃a c,ps[k]=⟨(V:Int),a,(Ts k).length,c⟩/\Cv 79 #[.agg #[af (V:Int),.slice a (Ts k).length c]] W (af 0)from by
  obtain⟨a,c,e1,h1,h2⟩:=hp k hk;refine⟨a,c,e1,?_⟩;have h:=Ba (V:Int) a c (Ts k).length (Ts k) W rfl (by have:=h2.1.2.2.1;omega) (h1.1.below hW) h2.chk (hT.below hW)
  rwa [JI h2.1]at h)
 obtain⟨uv,gu,Ha,HL⟩:=bU hct cF ha hL;clear hct cF ha hL hp hT eg;have hLn:((L:Int)==0)=false:=by simp;omega
 have Hb:=hbz w;go_enter Tryz.func229,Tryz.ntmps229;go_wp2_with fail;refine bP w (Hb.an trivial) 51 [.slice (some ⟨b,o,none⟩) L cap] λW aG ae ai=>?_;go_loopw[8] (λx wr=>∃k:Nat,k<=L/\x=af (k:Int)/\Bw W wr) (λx _=>L-(intOf x).toNat);case atStart=>exact⟨0,Nat.zero_le _,rfl,Below.refl _ _⟩
 case round=>
  skip
  obtain⟨k,hk,rfl,pb⟩:=hrel;obtain⟨dV,hl,aO⟩:=bM (aC ae.2.1.out pb) (ae.1.out.below pb) pb;clear pb;by_cases hlt:k<L
  . have hk2:k<ps.length:=by rw[HL.out];exact hlt
    obtain⟨a1,c1,e1,hcall⟩:=gu.out wr dV.out k hk2;obtain⟨b',o',hab,bJ⟩:=(Ha.out.below dV.out).awJ k hk2 e1;obtain⟨rfl,rfl⟩:b=b'/\o=o':=by simp at hab;exact hab
    have hcall:=λW (hW:Bw w W)=>(gu.out W hW k hk2);have aQ:=mY L cap k (k:Int) (rfl:(some ⟨b,o,none⟩:Option Addr)=_) hlt rfl;obtain⟨nT,qA⟩:=az ((Ts k).length);have Ou:Hid (∀W,Bw w W->Cv 79 #[.agg #[af (V:Int),.slice a1 nT c1]] W (af 0)):=by intro W hW;obtain⟨a2,c2,e2,h2⟩:=hcall W hW;rw[e1]at e2;simp only[Pv.mk.injEq,true_and]at e2;obtain⟨rfl,rfl⟩:=e2;rw[qA]at h2;exact h2
    rw[qA]at bJ;have Hx:Hid (aR wr b (o+k*2) [af (V:Int),.slice a1 nT c1]):=bJ;clear bJ hcall hab e1 qA;have Hb:=hbz wr;obtain⟨ae,ai⟩:=qZ (Hx.an trivial);have x1:wr.cell? ⟨b,o+k*2+1,none⟩=some (.slice a1 nT c1):=ae.1.out.cell 1 zm;have x0:wr.cell? ⟨b,o+k*2,none⟩=some (af (V:Int)):=ae.1.out.cell 0 zm;have P0:=x0;have P1:=x1;obtain⟨W3,Ir,aG,ae,ai⟩:=cg wr (Hb.an ae) 41 [af (V:Int),.slice a1 nT c1];go_wp2_with fail;refine aJ ae (Ou.out _ (aC dV.out ae.2.1.out)) λw4 ae ai=>?_;go_wp2;go_roundw;case rel=>exact⟨k+1,by omega,by go_num,aC aO.out ae.2.1.out⟩
    case measure=>exact bf
  . obtain rfl:k=L:=by omega
    have Hb:=dV;have Hl:=hl;obtain⟨ae,ai⟩:=qZ (Hl.an trivial);have l0:wr.cell? ⟨w.heap.size,0,none⟩=some (.slice (some ⟨b,o,none⟩) k cap):=ae.1.out.cell 0;go_wp2_with fail;refine aJ (Hb.an ae) (uv.out _ _ Hb.out l0) λw6 ae ai=>?_;go_wp2;go_ret;exact⟨rfl,ae.1.out⟩
def iz (Ts:Nat->List Trm):Nat->List Trm
 |0=>[]
 |k+1=>fM (iz Ts k) (Ts k)
def lH (Ts:Nat->List Trm):Nat->List Trm
 |0=>[]
 |k+1=>lH Ts k++Ts k
def ajF (Ts:Nat->List Trm)(k:Nat)(m:List UInt8):bN (iz Ts k) m=bN (lH Ts k) m:=by
 induction k with
 |zero=>rfl
 |succ k ih=>unfold iz lH;rw[VA,wW,ih]
def abr (Ts:Nat->List Trm)(k:Nat):(iz Ts k).length<=(lH Ts k).length:=by
 induction k with
 |zero=>exact Nat.le_refl _
 |succ k ih=>unfold iz lH;have:=abq (iz Ts k) (Ts k);rw[List.length_append];omega
def Vr (Ts:Nat->List Trm)(j k:Nat)(h:j<=k):(lH Ts j).length<=(lH Ts k).length:=by
 induction k with
 | zero => obtain rfl:j=0:=by omega
           exact Nat.le_refl _
 | succ k ih=>
   by_cases e:j=k+1
   . subst e;exact Nat.le_refl _
   . have:=ih zo;rw[show lH Ts (k+1)=lH Ts k++Ts k from rfl,List.length_append];omega
def aoJ {B:Nat}(Ts:Nat->List Trm)(k:Nat)(h:∀j,j<k->∀t∈Ts j,Fit B t.2)(hB:B+k<=268435456):∀t∈iz Ts k,Fit (B+k) t.2:=by
 induction k with
 |zero=>intro t ht;cases ht
 |succ k ih=>unfold iz;have:=abp (B:=B+k) (iz Ts k) (Ts k) (ih (λj hj=>h j zo) zo) (λt ht=>(h k zo t ht).mono zo) zo;exact this
def apH (V B:Nat)(b o L cap:Nat)(ps:List Pv)(Ts:Nat->List Trm)(C:List Trm)(w:World)(hL:ps.length=L)(oK:0<L)(CQ:L<=65536)(ha:At w (some ⟨b,o,none⟩) (ps.flatMap eJ))(hp:uI w V B ps Ts)(hn:(lH Ts L).length<=4096)(hB:B+L+8192<=268435456)(hT:aB w)(hC:aS (lH Ts L)=C):
 Cl 160 #[.slice (some ⟨b,o,none⟩) L cap] w λex w'=>∃a' c',ex=.returned (.tuple #[.agg #[af (V:Int),.slice a' C.length c'],af 0])/\aM w' a' c' C/\Bw w w':=by
 have CJ:=enters_of Tryz.func231 zk rfl;have CI:=enters_of Tryz.func232 zk rfl;have hlk:=λW (hW:Bw w W)=>aaY V B b o L cap ps Ts W hL oK CQ (ha.below hW) (hp.below hW) (hT.below hW);have WJ:aS (iz Ts L)=C:=by rw[<-hC];exact zN (ajF Ts L)
 have lT:(iz Ts L).length<=4096:=Nat.le_trans (abr Ts L) hn;have OB:∀j,j<L->∀t∈Ts j,Fit B t.2:=λj hj=>by obtain⟨a,c,_,_,h⟩:=hp j zo;exact h.2
 have kX:=λk (hk:k<=L)=>aoJ (B:=B) Ts k (λj hj=>OB j zo) zo;have hcl:=λw0 W v (hw0:Bw w w0) (hb0:Bw w0 W) (ho:W.ownsRow w0.heap.size 111 4 v (iz Ts L).length ((iz Ts L).flatMap aH))=>Gr (V:Int) v _ (iz Ts L) C (B+L) w0 W hb0 rfl lT ho (kX L (Nat.le_refl _)) zo (hT.below hw0) WJ;obtain⟨a0,c0,e0,_,_⟩:=hp 0 zo;obtain⟨b',o',hab,bJ⟩:=ha.awJ 0 zo e0;obtain⟨rfl,rfl⟩:b=b'/\o=o':=by simp at hab;exact hab
 rw[Nat.zero_mul,Nat.add_zero]at bJ;have xy:=mY L cap 0 0 (rfl:(some ⟨b,o,none⟩:Option Addr)=_) oK rfl;rw[Nat.zero_mul,Nat.add_zero]at xy;obtain⟨n0,hn0⟩:=az ((Ts 0).length);rw[hn0]at bJ;have hlb:b<w.heap.size:=World.block_lt_of_cell? w _ bJ.w2.1;obtain⟨Lx,eH,Hmf,Hp,Ha,HT,HL,KX,KW,HfT,Hw,Ls⟩:=gN hlk hcl kX hp ha hT hL CJ CI OB bJ xy
 have lF:Hid (∀k,k<L->(iz Ts k).length<=4096/\(Ts k).length<=4096):=λk hk=>⟨Nat.le_trans (Nat.le_trans (abr Ts k) (Vr Ts k L zo)) hn,by
  have h1:=Vr Ts (k+1) L zo
  rw[show lH Ts (k+1)=lH Ts k++Ts k from rfl,List.length_append]at h1;omega⟩
 clear hlk hcl kX hp ha hT hL CJ CI OB bJ xy hC WJ hn lT hab e0 hn0;have Hb:=hbz w;go_enter Tryz.func160,Tryz.ntmps160;go_wp2_with fail;refine bP w (Hb.an trivial) 41 [af 0,.slice none 0 0] λW aG ae ai=>?_;go_wp2_with fail;refine aJ ae (Lx.out _ ae.2.1.out) λw1 ae ai=>?_;obtain⟨Hr,Hb,_⟩:=ae;obtain⟨r0,aW,r1,aX⟩:=Hr.out.g2;have jX:=Hr;have ey:=Hb;go_wp2_with fail;go_loopw[5,16] (λs5 x wr=>∃(k:Nat) (v:Value),k<=L/\x=af (k:Int)/\v=s5/\wr.ownsRow w1.heap.size 111 4 v (iz Ts k).length ((iz Ts k).flatMap aH)/\Bw w1 wr) (λ_ x _=>L-(intOf x).toNat);case atStart=>exact⟨0,_,Nat.zero_le _,rfl,rfl,World.ownsRow_nil _ _ _ _,Below.refl _ _⟩
 case round=>
  clear r0 aW r1 aX Hr Hb;obtain⟨k,v,hk,rfl,rfl,ho,pb⟩:=hrel;have dV:=aC ey.out pb;have yu:=ey.out.size;have gQ:=pb.size;by_cases hlt:k<L
  . have hk2:k<ps.length:=by rw[HL.out];exact hlt
    obtain⟨a1,c1,e1,hpl,hft⟩:=Hp.out k hk2;obtain⟨b',o',hab,bJ⟩:=(Ha.out.below dV).awJ k hk2 e1;obtain⟨rfl,rfl⟩:b=b'/\o=o':=by simp at hab;exact hab
    have aQ:=mY L cap k (k:Int) (rfl:(some ⟨b,o,none⟩:Option Addr)=_) hlt rfl;obtain⟨av,cv,rfl,ve,_⟩:=cO ho;have Ee:=ue ho;have od:=lF.out k hlt;have vq:=Hmf.out k zo;have oN:=HfT.out k hlt;have hsk:=hpl.2;have Hm:Hid (∀W,Bw wr W->Cl 230 #[.slice av (iz Ts k).length cv,.slice a1 (Ts k).length c1,.func (.func 231) #[] #[],.func (.func 232) #[] #[]] W λe w'=>∃v',e=.returned v'/\w'.ownsRow w1.heap.size 111 4 v' (iz Ts (k+1)).length ((iz Ts (k+1)).flatMap aH)/\Bw W w'):=by intro W hW;refine(abj av _ cv (iz Ts k) a1 _ c1 (Ts k) (B+L) W rfl rfl Ee hsk zo zo (ve.below hW) (hpl.1.below (aC dV hW)) (λt ht=>(vq t ht).mono zo) (λt ht=>(oN t ht).mono zo) zo (HT.out.below (aC dV hW))).mono ?_;rintro e w' ⟨v',rfl,h1,h2⟩;exact⟨v',rfl,pj h1 (by have:=hW.size;omega),h2⟩
    obtain⟨nv,Pd⟩:=az ((iz Ts k).length);obtain⟨nT,qA⟩:=az ((Ts k).length);rw[Pd,qA]at Hm;rw[qA]at bJ;have Hx:Hid (aR wr b (o+k*2) [af (V:Int),.slice a1 nT c1]):=bJ;have aO:=aj pb;rw[Pd];clear bJ hab e1 qA Pd hpl hft ho ve Ee od vq oN hsk pb dV;have Hb:=hbz wr;obtain⟨ae,ai⟩:=qZ (Hx.an trivial);have x1:wr.cell? ⟨b,o+k*2+1,none⟩=some (.slice a1 nT c1):=ae.1.out.cell 1 zm;have x0:wr.cell? ⟨b,o+k*2,none⟩=some (af (V:Int)):=ae.1.out.cell 0 zm;have P0:=x0;have P1:=x1;obtain⟨W3,Ir,aG,ae,ai⟩:=cg wr (Hb.an ae) 41 [af (V:Int),.slice a1 nT c1];have zR:=KX.out;have xd:=KW.out;go_wp2_with fail;refine(Hm.out _ ae.2.1.out).mono ?_;rintro e w4 ⟨v',rfl,Zm,hb4⟩;have di:=aC aO.out (aC ae.2.1.out hb4);obtain⟨Ho4,fe⟩:=aI Zm di;clear zR xd Zm di hb4;go_wp2;go_roundw;case rel=>exact⟨k+1,v',by omega,by go_num,rfl,Ho4.out,fe.out⟩
    case measure=>exact bf
  . obtain rfl:k=L:=by omega
    obtain⟨av,cv,rfl,_,_⟩:=cO ho;have Hx:=aj (Hw.out.below dV);have Hb:Hid (Bw w wr):=dV;obtain⟨cN,aO,Hr⟩:=bM ho pb (jX.out.below pb);have aQ:=Ls.out;clear ho pb dV;obtain⟨ae,ai⟩:=qZ (Hx.an<|Hr.an trivial);have ahh:Hid (aR w1 b o [af (V:Int),.slice a0 n0 c0]):=Hw.out.below ey.out;obtain⟨Hx,Hr,_⟩:=ae;obtain⟨x0,x1⟩:=Hx.out.w2;obtain⟨r0,aW,r1,aX⟩:=Hr.out.g2;go_wp2_with fail;refine(eH.out w1 _ _ ey.out aO.out cN.out).mono ?_;rintro e w6 ⟨a2,d2,rfl,ft,ak⟩;replace Hx:=aj (ahh.out.below ak);replace Hr:=aj (jX.out.below ak);obtain⟨x0,x1⟩:=Hx.out.w2;obtain⟨r0,aW,r1,aX⟩:=Hr.out.g2;replace Hb:=aj (aC ey.out ak);go_wp2;refine zL (Hr.out) ft Hb.out zo ?_;intro w9 lU eD gm;obtain⟨q0,q1⟩:=lU.c2;exact bodyPost_ret (v:=.tuple #[.agg #[af (V:Int),.slice a2 C.length d2],af 0]) (by simp[results,Tryz.results160,go_sem,q0,q1]) rfl ⟨_,_,rfl,vQ eD,gm⟩
end Go.Proofs.YtpfgffadgkkedaaGreatDoor
namespace Go.Proofs.YtpfgffadgkkedaaGreatDoor
open Go.RowKit
def ahZ {P:Program}(t tx ty:TypeId)(e e':TypeId)(ht:P.underlying t=some (.slice e))(hx:P.underlying tx=some (.slice e'))(u v:Value)(w:World):(Builtin.append_ #[t,tx] ty #[u,v]).run P w=(Builtin.append_ #[t,t] ty #[u,v]).run P w:=by unfold Builtin.append_;cases u<;>simp[Sem.run_bind,run_underlying ht,run_underlying hx]
def atd {P:Program}{w:World}{o:Oper}{a:Act}{K:Act->World->Prop}{Q:Exit->Act->World->Prop}(s x:Operand)(t tx:TypeId)(e':TypeId)(htx:P.underlying tx=some (.slice e'))
 (ho:o.op=.call {callee:=.builtin .append,args:=#[s,x],argTypes:=#[t,tx]})
 (base:Nat) (e:TypeId) (i:TypeInfo) (z:Value) (size bytes:Nat) (ht:P.underlying t=Option.some (.slice e)) (hi:P.info? e=Option.some i) (hz:i.zero=Option.some z)
 (hsize:i.size=size) (hby:i.bytes=bytes) (hzs:z.cells.size=size) (hsz:0<size)
 (v:Value) (n:Nat) (xs:List Value) (hs:a.eval s=v) (hown:w.ownsRow base e size v n xs)
 (aa:Option Addr) (m c:Nat) (news:List Value) (hx:a.eval x=.slice aa m c) (hsl:Sl aa m c) (hl:news.length=m*size) (hat:At w aa news) (h1:∀u∈news,u.oneCell'=true)
 (h63:n+m<=maxLen) (hbytes:(n+m) *bytes<=140737488355328) (hbase:base<=w.heap.size)
 (h:∀v' w',w'.ownsRow base e size v' (n+m) (xs++news)->w.grownBy w' v.ownBlock->(v'.ownBlock=v.ownBlock\/v'.ownBlock=Option.some w.heap.size)->K (a.put o.dst v') w'):o.wp P a w K Q:=by
 have key:∃v' w',(Builtin.append_ #[t,tx] o.type #[v,.slice aa m c]).run P w=.ok v' w'/\w'.ownsRow base e size v' (n+m) (xs++news)/\w.grownBy w' v.ownBlock/\(v'.ownBlock=v.ownBlock\/v'.ownBlock=Option.some w.heap.size):=by
  rw[ahZ t tx o.type e e' ht htx];cases aa with
  | none=>
    have hc:=hsl.2 rfl;have hm:m=0:=by have:=hsl.1;omega
    subst hc;subst hm;have hn:news=[]:=List.eq_nil_of_length_eq_zero (by simpa using hl);subst hn;exact⟨v,w,run_append_owned_none (P:=P) (w:=w) base t o.type e i size ht hi v n xs hown,by simpa using hown,World.grownBy.refl _ _,.inl rfl⟩
  | some ad=>
    obtain⟨v',w',hr,h2,h3,_,h5⟩:=run_append_own_at (P:=P) w base t o.type e i z size bytes ht hi hz hsize hby hzs hsz v n xs hown ad m c news hl (by
     intro j u hj;rcases hat with h0|⟨b,o',Wa,hc⟩
     . subst h0;simp at hj
     . simp only[Option.some.injEq]at Wa;subst Wa;have hjl:=(List.getElem?_eq_some_iff.1 hj).1;have e2:((⟨b,o',none⟩:Addr).add j)=⟨b,o'+j,none⟩:=by unfold Addr.add;cases j<;>simp
       rw[e2,hc j hjl];exact hj) h1 h63 hbytes hbase
    exact⟨v',w',hr,h2,h3,h5⟩
 obtain⟨v',w',hr,h2,h3,h5⟩:=key;unfold Oper.wp execOp;simp only[ho,resolve,invoke,builtin,Sem.run_bind,Sem.run_pure,Result.andThen_ok,List.map_toArray,List.map_cons,List.map_nil,hs,hx,hr];exact h v' w' h2 h3 h5
end Go.Proofs.YtpfgffadgkkedaaGreatDoor
namespace Go.Proofs.YtpfgffadgkkedaaGreatDoor
open Go.RowKit
attribute [local go_sem ↓] Go.wp_at_zero Go.wp_at_succ
def pQ {Y:Nat->Prop}{w W:World}(h:Chg Y w W)(b i:Nat)(v:Value)(hy:Y b):Chg Y w (W.setCell ⟨b,i,none⟩ v):=
 ⟨h.os,h.tape,h.output,by have:=h.size;simp[World.setCell];exact this,λk hk Au=>by rw[Below.heap_setCell _ _ _ _ (λe=>Au (by rw[e];exact hy))];exact h.block k hk Au⟩
def sO (w W wx:World)(kb i:Nat)(vs:List Value)(v0:Value)(x:Dyadic)(xc:List Value)(v:Value)(m:Nat):Prop:=
 1<=m/\m<=256/\ar wx kb 124 (vs.set i v)/\wx.ownsRow (kb+1) 45 3 v m (dC (jx x m))/\(v.ownBlock=v0.ownBlock\/∃g,v.ownBlock=some g/\W.heap.size<=g)/\
  Chg (λb=>b=kb\/some b=v0.ownBlock) w wx/\ar wx w.heap.size 45 xc/\ar wx (w.heap.size+1) 45 [ag false,.string ⟨#[]⟩,af 0]/\W.heap.size<=wx.heap.size
def sO.push {w W w1 w2:World}{kb i:Nat}{vs:List Value}{v0:Value}{x:Dyadic}{xc:List Value}{v v':Value}{m:Nat}(hk:ar w1 kb 124 (vs.set i v))(hm:m+1<=256)
 (hv:v.ownBlock=v0.ownBlock\/∃g,v.ownBlock=some g/\W.heap.size<=g) (hc:Chg (λb=>b=kb\/some b=v0.ownBlock) w w1) (hx:ar w1 w.heap.size 45 xc) (hr:ar w1 (w.heap.size+1) 45 [ag false,.string ⟨#[]⟩,af 0]) (hsz:W.heap.size<=w1.heap.size)
 (hW:W.heap.size=w.heap.size+2) (vv:kb<w.heap.size) (hv0:∀g,v0.ownBlock=some g->kb<g/\g<w.heap.size) (hvk:∀g,v.ownBlock=some g->kb<g)
 (ho:w2.ownsRow (kb+1) 45 3 v' (m+1) (dC (jx x (m+1)))) (hg:w1.grownBy w2 v.ownBlock) (fV:v'.ownBlock=v.ownBlock\/v'.ownBlock=some w1.heap.size):sO w W (w2.setCell ⟨kb,i,none⟩ v') kb i vs v0 x xc v' (m+1):=by
 have hvx:∀g,v.ownBlock=some g->g≠w.heap.size/\g≠w.heap.size+1:=λg e=>by
  rcases hv with h|⟨g',h,h'⟩
  . have:=(hv0 g (by rw[<-h];exact e)).2;omega
  . rw[h]at e;simp at e;omega
 have hv':v'.ownBlock=v0.ownBlock\/∃g,v'.ownBlock=some g/\W.heap.size<=g:=by
  rcases fV with h|h
  . rw[h];exact hv
  . exact .inr ⟨_,h,hsz⟩
 have hk2:ar w2 kb 124 (vs.set i v):=hk.grown hg (λe=>by have:=hvk kb e.symm;omega);have hx2:=hx.grown hg (λe=>(hvx _ e.symm).1 rfl);have hr2:=hr.grown hg (λe=>(hvx _ e.symm).2 rfl)
 have hc2:Chg (λb=>b=kb\/some b=v0.ownBlock) w w2:=hc.trans (Chg.awV (Y:=λb=>some b=v.ownBlock) hg (λb e=>e.symm)) (λb e=>by
  rcases hv with h|⟨g,h,h'⟩
  . left;right;rw[<-h];exact e
  . right;rw[h]at e;simp at e;omega)
 have hks:=hk2.set i v';rw[List.set_set]at hks;refine⟨by omega,hm,hks,?_,hv',pQ hc2 kb i v' (.inl rfl),hx2.so kb i zo v',hr2.so kb i zo v',by have:=hg.size;simp[World.setCell];omega⟩;refine Ex ho (Y:=λb=>b=kb) (pQ (Chg.refl _ _) kb i v' rfl) (λb e=>?_);have:=ho.lt b e;omega
def sO.fin {w W wx:World}{kb i m:Nat}{vs:List Value}{v0 v:Value}{x:Dyadic}{xc:List Value}(h:sO w W wx kb i vs v0 x xc v m)(hW:W.heap.size=w.heap.size+2)(vv:kb<w.heap.size)(hv0:∀g,v0.ownBlock=some g->kb<g/\g<w.heap.size)(u1 u2 u3:Value):
 ar (((wx.setCell ⟨w.heap.size+1,0,none⟩ u1).setCell ⟨w.heap.size+1,1,none⟩ u2).setCell ⟨w.heap.size+1,2,none⟩ u3) (w.heap.size+1) 45 [u1,u2,u3]/\
  Chg (λb=>b=kb\/some b=v0.ownBlock) w (((wx.setCell ⟨w.heap.size+1,0,none⟩ u1).setCell ⟨w.heap.size+1,1,none⟩ u2).setCell ⟨w.heap.size+1,2,none⟩ u3)/\
  ar (((wx.setCell ⟨w.heap.size+1,0,none⟩ u1).setCell ⟨w.heap.size+1,1,none⟩ u2).setCell ⟨w.heap.size+1,2,none⟩ u3) kb 124 (vs.set i v)/\
  (((wx.setCell ⟨w.heap.size+1,0,none⟩ u1).setCell ⟨w.heap.size+1,1,none⟩ u2).setCell ⟨w.heap.size+1,2,none⟩ u3).ownsRow (kb+1) 45 3 v m (dC (jx x m)):=by
 obtain⟨_,_,hk,ho,hv,hc,_,hr,_⟩:=h;have hcc:Chg (λb=>b=w.heap.size+1) wx (((wx.setCell ⟨w.heap.size+1,0,none⟩ u1).setCell ⟨w.heap.size+1,1,none⟩ u2).setCell ⟨w.heap.size+1,2,none⟩ u3):=pQ (Y:=λb=>b=w.heap.size+1) (pQ (Y:=λb=>b=w.heap.size+1) (pQ (Y:=λb=>b=w.heap.size+1) (Chg.refl _ _) _ _ _ rfl) _ _ _ rfl) _ _ _ rfl;refine⟨((hr.set 0 u1).set 1 u2).set 2 u3,hc.trans hcc (λb e=>.inr zo),hcc.blk hk zo,Ex ho hcc (λb e e2=>?_)⟩;rcases hv with h|⟨g,h,h'⟩
 . have:=(hv0 b (by rw[<-h];exact e)).2;omega
 . rw[h]at e;simp at e;omega
def Eo (kb i:Nat)(W:World):Nat:=match W.cell? ⟨kb,i,none⟩with
 |some (.slice _ n _)=>n
 |_=>0
def ap8 (kb i n k B:Nat)(X:Nat->Dyadic)(Z:Nat->Prop)(s:Bool)(l:List UInt8)(e:Int)(w:World)(hi:i<n)(hk:k<=255)(hx:dval (s,l,e)=X i)(hf:Fit B (s,l,e))(hB:B<=500000)(hp:gj w kb n X Z)(hz:∀b,Z b->b<w.heap.size/\b≠kb)(hT:∀W,Below kb w W->aB W):
 Cl 86 #[.pointer (some ⟨kb,i,none⟩),.agg #[ag s,ah l,af e],af (k:Int)] w λex w'=>ex=.returned (bK (dF (X i) k))/\gj w' kb n X Z/\Chg (λb=>kb<=b/\¬Z b) w w':=by
 obtain⟨i0,hi0,hz0,hz1,hz2⟩:=info_parts Tryz.awK;have vv:=hp.lt;obtain⟨vs,ms,h1,h2,h3,h4,h5⟩:=hp;have iI:i<vs.length:=by omega
 obtain⟨x,om⟩:=az (X i);obtain⟨v0,hv0⟩:=az (vs[i]);obtain⟨m0,hm0⟩:=az (ms i);have ho0:=(h3 i iI).2;have hl0:=(h3 i iI).1;rw[hv0,hm0,om]at ho0;rw[hm0]at hl0;have hend:∀W v m,Chg (λb=>b=kb\/some b=v0.ownBlock) w W->ar W kb 124 (vs.set i v)->m<=256->W.ownsRow (kb+1) 45 3 v m (dC (jx x m))->(v.ownBlock=v0.ownBlock\/∃g,v.ownBlock=some g/\w.heap.size<=g)->gj W kb n X Z/\Chg (λb=>kb<=b/\¬Z b) w W:=λW v m a1 a2 a3 a4 a5=>
  ⟨gj.set h1 iI h3 h4 h5 (by rw[hv0];exact a1) a2 a3 (by rw[om];exact a4) (by rw[hv0];exact a5) (λb hb=>(hz b hb).1),a1.mono (λb _ hb=>by
   rcases hb with rfl|hb
   . exact⟨Nat.le_refl _,λh=>(hz _ h).2 rfl⟩
   . have h6:=h5 i iI b (by rw[hv0];exact hb.symm);have h7:=(ho0.lt b hb.symm).1
     exact⟨by omega,h6⟩)⟩
 have hown0:∀g,v0.ownBlock=some g->kb<g/\g<w.heap.size:=λg e=>by have:=ho0.lt g e;omega
 have aam:vs.set i v0=vs:=by rw[<-hv0];exact List.set_getElem_self iI
 obtain⟨a0,Gt,Jj,_,_⟩:=cO ho0;have dR:Sm B x:=by rw[<-om,<-hx];exact hf.2
 have hpw:=λj=>JJ dR j;have hxv:dval (s,l,e)=x:=hx.trans om;obtain⟨Hi,cp,bR,bV,dQ,uA,Mj,wK,Hxv,Hf,HT,H2⟩:=gN hi0 hz0 hz1 hz2 hend hown0 aam hpw hxv hf hT h2;obtain⟨FJ,gJ,ag7⟩:=bM ho0 iI Jj;rw[om];clear hi0 hz0 hz1 hz2 hend hown0 aam hpw hxv hf hT h2 ho0 h3 h4 h5 h1 iI hv0 hm0 om hx hz dR Jj;obtain⟨W,bX,ae,ai⟩:=jR w 45 [ag s,ah l,af e] 45 [ag false,.string ⟨#[]⟩,af 0];have Xx:W.heap.size=w.heap.size+2:=by rw[<-bX];simp
 have Ff:=aj Xx;clear Xx;have Uk:Hid (1<=m0->sO w W W kb i vs v0 x [ag s,ah l,af e] v0 m0):=λh=>⟨h,hl0,by rw[Mj.out];exact H2.out.below ae.1.out,ownsRow_below FJ.out ae.1.out,.inl rfl,(Gq ae.1.out).mono (λ_ _ h=>h.elim),ae.2.1.out,ae.2.2.1.out,Nat.le_refl _⟩;have hcell:W.cell? ⟨kb,i,none⟩=some v0:=by rw[(H2.out.below ae.1.out).cell i,<-Mj.out,List.getElem?_set_self gJ.out]
 have Hk:Hid (aR W kb i [v0]):=λj hj=>by
  obtain rfl:j=0:=by simp at hj;omega
  exact hcell
 have lG:=aj (ownsRow_below FJ.out ae.1.out);have mC:Hid (ar W kb 124 (vs.set i v0)):=by show ar _ _ _ _;rw[Mj.out];exact H2.out.below ae.1.out
 have pu:Hid (aB W):=HT.out W (ae.1.out.mono zo);have hbs:=ae.1.out.size;have jC:=ae.1;have Jj:=ag7.out;subst Jj;skip
 have Hb:=hbz W;go_enter Tryz.func86,Tryz.ntmps86;go_upto_if 12 with fail
 go_cut[] (λwx=>∃v m,sO w W wx kb i vs (.slice a0 m0 Gt) x [ag s,ah l,af e] v m);case first=>
  by_cases hm:m0=0
  . subst hm;have Hx:=ae.2.1;have Hr:=ae.2.2.1;obtain⟨ae,ai⟩:=qZ (Hx.an<|Hr.an<|Hk.an trivial);clear hcell;go_wp2_with fail;obtain⟨Hx,Hr,Hk,_⟩:=ae;obtain⟨x0,x1,x2⟩:=Hx.out.c3;obtain⟨r0,r1,r2⟩:=Hr.out.c3;have k0:=Hk.out.w1;refine eW (λw'=>aK w' kb i (.slice a0 0 Gt)) (λi=>Nat.blt i 10) [(0,true),(1,true),(2,true),(3,true),(4,true),(5,false),(6,false),(7,false),(8,true),(9,true),(10,false)] zk zk rfl zk zc k0 ?_;iterate 5 (refine pT rfl rfl ?_;try simp only[UU])
    refine aP rfl rfl (λK hK=>?_);go_simp;with_reducible refine(uQ 1 1 (by decide+kernel) _ zd (by first|exact pu.out|exact aB.drew pu.out|exact aB.alloc pu.out _|exact aB.drew (aB.alloc pu.out _) |exact aB.alloc (aB.drew pu.out) _)).mono ?_
    rintro e w5 ⟨rfl,hq⟩;have ak:Bw W w5:=by first|exact hq|exact cJ hq
    obtain⟨Hx,x0,x1,x2⟩:=AJ Hx ak;obtain⟨Hr,r0,r1,r2⟩:=AJ Hr ak;replace Hk:=kW Hk ak;have k0:=Hk.out.w1;replace Hb:=aZ Hb ak;refine hK _ _ (λ_=>k0) ?_;try simp only[UU]
    refine aP rfl rfl (λK hK=>?_);go_simp;refine hK _ _ (λ_=>aV k0) ?_;try simp only[UU]
    refine bY (λw6=>ar w6 (w5.heap.size) 45 (bo 1)/\Bw w5 w6) (by first|exact iA|exact iB) ?_;rintro w6 ⟨qc,ak⟩;have aom:=Hx.out.lt;have aok:=Hr.out.lt;replace Hx:=kB Hx ak;replace Hr:=kB Hr ak;replace Hk:=kW Hk ak;have Hc:=aj qc;clear qc;obtain⟨x0,x1,x2⟩:=Hx.out.c3;obtain⟨r0,r1,r2⟩:=Hr.out.c3;have k0:=Hk.out.w1;obtain⟨c0,c1,c2⟩:=Hc.out.c3;replace Hb:=aZ Hb ak;refine aP rfl rfl (λK hK=>?_);have cu:=ownsRow_below lG.out Hb.out;have jr:=Hb.out.size;have hkl:kb+1<=W.heap.size:=by omega
    refine atd _ _ 29 29 45 Tryz.underlying29 rfl (kb+1) 45 i0 _ 3 32 Tryz.underlying29 Hi.out cp.out bR.out bV.out rfl zd (.slice a0 0 Gt) 0 (dC (jx x 0)) rfl cu (some ⟨w5.heap.size,0,none⟩) 1 1 (bo 1) rfl (Sl.some _ _ _ (Nat.le_refl _)) rfl (.inr ⟨_,0,rfl,λj hj=>by rw[Nat.zero_add];exact Hc.out.cell j⟩) zy (by simp[maxLen]) zo zo ?_;intro v' w8 eO bF IX;obtain⟨g',cq,rfl⟩:=ownsRow_succ eO;have xz:=(mC.out.below Hb.out).grown bF (λe=>by have:=(uA.out kb e.symm).1;omega);have fL:=sO.push (xc:=[ag s,ah l,af e]) (m:=0) (v':=.slice (some ⟨g',0,none⟩) 1 cq) (mC.out.below Hb.out) zd (.inl rfl) ((Gq (aC jC.out Hb.out)).mono (λ_ _ h=>h.elim)) (Hx.out) (Hr.out) jr Ff.out vv uA.out (λg e=>(uA.out g e).1) (by rw[abY];exact eO) bF IX;have FL:=aj fL;have f8:=xz.free i;have k8:=xz.cell i;rw[List.getElem?_set_self gJ.out]at k8;refine hK _ _ (λ_=>cK bF k0 (λe=>by have:=uA.out kb e.symm;omega)) ?_;try simp only[UU]
    iterate 2 (refine pT rfl rfl ?_;try simp only[UU])
    refine aP rfl rfl (λK hK=>?_);go_simp;refine hK _ _ (λh=>absurd h zd) ?_;try simp only[UU]
    simp only[bI];go_wp2_with fail;go_meet;exact⟨_,1,FL.out⟩
  . have h0:((m0:Int)==0)=false:=by simp;omega
    have h0':¬(m0:Int)=0:=by omega
    go_wp2_with fail;go_meet;exact⟨_,m0,Uk.out zo⟩
 case rest=>
  obtain⟨v1,m1,hst⟩:=hcut;have bE:=aj hst;clear hst hcell Hk Uk mC lG Hb;go_wp2_with fail;go_loopw[] (λwr=>∃v m,sO w W wr kb i vs (.slice a0 m0 Gt) x [ag s,ah l,af e] v m) (λwr=>k+1-Eo kb i wr);case atStart=>exact⟨v1,m1,bE.out⟩
  case round=>
   clear bE;obtain⟨v,m,hst⟩:=hrel;have bE:=aj hst;obtain⟨lS,hm2,hk1,ho,vH,hc,hx,hr,hsz⟩:=hst;obtain⟨g,cap,rfl,hg1,hg2,hmc⟩:=rU ho zo;have hcell:=hk1.cell i;rw[List.getElem?_set_self gJ.out]at hcell;have hfree:=hk1.free i;have hlen:Eo kb i wr=m:=by unfold Eo;rw[hcell]
   have Zl:=λj (hj:j<m)=>(show At wr (some ⟨g,0,none⟩) (((jx x m).map canon).flatMap aY)by
    obtain⟨a9,c9,e9,h9,_⟩:=cO ho;simp only[Value.slice.injEq,true_and]at e9;rw[<-e9.1]at h9
    rw[<-zP];exact h9).num j (by rw[List.length_map,abX];exact hj) (show((jx x m).map canon)[j]'(by rw[List.length_map,abX];exact hj)=(au (dN (dF x j)),nt (dN (dF x j)).natAbs,dE (dF x j))by rw[List.getElem_map,aqx];rfl)
   obtain⟨lF,TV,mC,Ho,Mh,Fl,Hx,Hr⟩:=nk hlen Zl hk1 ho vH hc hx hr;have kw:g≠kb:=by omega
   have avo:kb<w.heap.size:=vv;have Dx:g<wr.heap.size:=hg2;clear hlen Zl hk1 ho vH hc hx hr;have Hb:=hbz wr
   have pz:Hid (aB wr):=HT.out wr (Fl.out.below zo (λb e=>by
    rcases e with e|e
    . omega
    . have:=(uA.out b e.symm).1;omega))
   by_cases hlt:m<=k
   . obtain⟨j,hj⟩:∃j,m=j+1:=⟨m-1,by omega⟩;have hjm:j<m:=by omega
     have hwj:IntKind.i64.wrap (j:Int)=(j:Int):=by rw[IntKind.wrap_i64];omega
     have avn:(m:Int)-1=(j:Int):=by omega
     have bi:(m:Int)<=(k:Int):=by omega
     obtain⟨b9,o9,e9,p0,p1,p2⟩:=TV.out j hjm;simp only[Option.some.injEq,Addr.mk.injEq,and_true]at e9;obtain⟨rfl,rfl⟩:=e9;rw[Nat.zero_add]at p0 p1 p2;have aQ:=ot m cap j (j:Int) (rfl:(some ⟨g,0,none⟩:Option Addr)=_) hjm rfl;rw[Nat.zero_add]at aQ;have Hp:Hid (aR wr g (j*3) [ag (au (dN (dF x j))),ah (nt (dN (dF x j)).natAbs),af (dE (dF x j))]):=jA p0 p1 p2;obtain⟨P,hP⟩:=az (dF x j);obtain⟨Q,hQ⟩:=az (dF x m);have Xg:P*x=Q:=by rw[<-hQ,<-hP,hj];rfl
     have CX:Fit (256*B+1) (gg P):=by have h:=wK.out j;rw[hP]at h;have h9:B*j<=B*255:=Nat.mul_le_mul_left _ zo;exact(h.mono zo).fit zo
     have hxs:Fit (256*B+1) (s,l,e):=Hf.out.mono zo;have qw:=λb W9 (hbl:ar W9 b 45 [ag (au (dN P)),ah (nt (dN P).natAbs),af (dE P),ag s,ah l,af e]) (Da:aB W9)=>uP (au (dN P)) (nt (dN P).natAbs) (dE P) s l e Q (256*B+1) (by show dval (canon P) *_=Q;rw[bD,Hxv.out];exact Xg) b 2 45 W9 CX hxs zo hbl Da;rw[hP]at Hp;have hk':Hid (aR wr kb i [.slice (some ⟨g,0,none⟩) m cap]):=λj hj=>by
      obtain rfl:j=0:=by simp at hj;omega
      exact hcell
     have Hk:=hk';obtain⟨wF,HQ,KM,Hj⟩:=bU qw hQ hcell hj;clear hj qw hQ hP Xg CX hxs p0 p1 p2 hk';go_wp2_with fail;clear hcell hfree;obtain⟨ae,ai⟩:=qZ (Hk.an<|Hp.an<|Hx.an<|Hr.an trivial);have HT:Hid (aB wr):=pz.out;obtain⟨Hk,Hp,Hx,Hr,_⟩:=ae;have k0:=Hk.out.w1;obtain⟨p0,p1,p2⟩:=Hp.out.w3;obtain⟨x0,x1,x2⟩:=Hx.out.c3;obtain⟨r0,r1,r2⟩:=Hr.out.c3;refine eW (λw'=>aK w' kb i (.slice (some ⟨g,0,none⟩) m cap)/\aK w' g (j*3) (ag (au (dN P)))/\aK w' g (j*3+1) (ah (nt (dN P).natAbs))/\aK w' g (j*3+2) (af (dE P))/\aK w' (w.heap.size) 0 (ag s)/\aK w' (w.heap.size) 1 (ah l)/\aK w' (w.heap.size) 2 (af e)) (λi=>Nat.blt i 24) [(0,true),(1,true),(2,true),(3,true),(4,true),(5,true),(6,true),(7,true),(8,true),(9,true),(10,true),(11,true),(12,true),(13,true),(14,true),(15,true),(16,true),(17,true),(18,false),(19,false),(20,false),(21,false),(22,true),(23,true),(24,false)] zk zk rfl zk zc ⟨k0,p0,p1,p2,x0,x1,x2⟩ ?_;iterate 18 (refine pT rfl rfl ?_ (by intro w' ⟨q0,q1,q2,q3,q4,q5,q6⟩;go_simp;try with_reducible rfl);try simp only[UU])
     refine aP rfl rfl (λK hK=>?_);go_simp;refine hK _ _ (λ_=>⟨aV k0,aV p0,aV p1,aV p2,aV x0,aV x1,aV x2⟩) ?_;try simp only[UU]
     refine bY (λw6=>ar w6 (wr.heap.size) 45 [ag (au (dN P)),ah (nt (dN P).natAbs),af (dE P),ag s,ah l,af e]/\Bw wr w6) (by first|exact iA|exact iB) ?_;rintro w6 ⟨qc,ak⟩;have aom:=Hx.out.lt;have aok:=Hr.out.lt;replace Hk:=kW Hk ak;replace Hp:=kW Hp ak;replace Hx:=kB Hx ak;replace Hr:=kB Hr ak;replace HT:=kT HT ak;have Hc:=aj qc;clear qc;have k0:=Hk.out.w1;obtain⟨p0,p1,p2⟩:=Hp.out.w3;obtain⟨x0,x1,x2⟩:=Hx.out.c3;obtain⟨r0,r1,r2⟩:=Hr.out.c3;obtain⟨c0,c1,c2,c3,c4,c5⟩:=Hc.out.c6;replace Hb:=aZ Hb ak;refine aP rfl rfl (λK hK=>?_);go_simp;with_reducible refine(wF.out _ _ Hc.out (by first|exact HT.out|exact aB.drew HT.out|exact aB.alloc HT.out _|exact aB.drew (aB.alloc HT.out _) |exact aB.alloc (aB.drew HT.out) _)).mono ?_
     rintro e w7 ⟨rfl,hq⟩;have ak:Bw w6 w7:=by first|exact hq|exact cJ hq
     replace Hk:=kW Hk ak;replace Hp:=kW Hp ak;replace Hx:=kB Hx ak;replace Hr:=kB Hr ak;replace HT:=kT HT ak;replace Hc:=kB Hc ak;have k0:=Hk.out.w1;obtain⟨p0,p1,p2⟩:=Hp.out.w3;obtain⟨x0,x1,x2⟩:=Hx.out.c3;obtain⟨r0,r1,r2⟩:=Hr.out.c3;obtain⟨c0,c1,c2,c3,c4,c5⟩:=Hc.out.c6;replace Hb:=aZ Hb ak;refine hK _ _ (λ_=>⟨k0,p0,p1,p2,x0,x1,x2⟩) ?_;try simp only[UU]
     refine aP rfl rfl (λK hK=>?_);go_simp;refine hK _ _ (λ_=>⟨aV k0,aV p0,aV p1,aV p2,aV x0,aV x1,aV x2⟩) ?_;try simp only[UU]
     refine bY (λw8=>ar w8 (w7.heap.size) 45 (bo Q)/\Bw w7 w8) (by first|exact iA|exact iB) ?_;rintro w8 ⟨qd,ak⟩;have avO:=Hx.out.lt;have avM:=Hr.out.lt;have avG:=Hc.out.lt;replace Hk:=kW Hk ak;replace Hp:=kW Hp ak;replace Hx:=kB Hx ak;replace Hr:=kB Hr ak;replace HT:=kT HT ak;replace Hc:=kB Hc ak;have Hd:=aj qd;clear qd;have k0:=Hk.out.w1;obtain⟨p0,p1,p2⟩:=Hp.out.w3;obtain⟨x0,x1,x2⟩:=Hx.out.c3;obtain⟨r0,r1,r2⟩:=Hr.out.c3;obtain⟨c0,c1,c2,c3,c4,c5⟩:=Hc.out.c6;obtain⟨d0,d1,d2⟩:=Hd.out.c3;replace Hb:=aZ Hb ak;refine aP rfl rfl (λK hK=>?_);have cu:=ownsRow_below Ho.out Hb.out;have jr:=Hb.out.size;have hkl:kb+1<=wr.heap.size:=by omega
     refine atc _ _ 29 rfl (kb+1) 45 i0 _ 3 32 Tryz.underlying29 Hi.out cp.out bR.out bV.out rfl zd g m cap (dC (jx x m)) rfl cu ⟨w7.heap.size,0,none⟩ 1 1 (bo Q) rfl rfl (fJ Hd.out) zy zx zo zo ?_;intro v' w9 eD kU DV OJ;obtain⟨g',cq,rfl⟩:=ownsRow_succ eD;have IK:=(mC.out.below Hb.out).grown kU (λe=>by have h9:kb=g:=Option.some.inj e;omega);have ky:=sO.push (xc:=[ag s,ah l,af e]) (m:=m) (v':=.slice (some ⟨g',0,none⟩) (m+1) cq) (mC.out.below Hb.out) zo Mh.out (Fl.out.trans (Gq Hb.out) (λ_ h=>h.elim)) Hx.out Hr.out zo Ff.out vv uA.out (λg9 e=>by have h9:g=g9:=Option.some.inj e;omega) (by rw[abY,HQ.out];exact eD) kU DV;have hgx:g≠w.heap.size:=by
      have h:=Mh.out;rcases h with h|⟨g9,h,h'⟩
      . have:=(uA.out g h.symm).2;omega
      . have h9:g=g9:=Option.some.inj h;have h8:=Ff.out;omega
     have P0:=OJ _ _ zo p0;have P1:=OJ _ _ zo p1;have P2:=OJ _ _ zo p2;have X0:=cK kU x0 (λe=>hgx (Option.some.inj e).symm);have X1:=cK kU x1 (λe=>hgx (Option.some.inj e).symm);have X2:=cK kU x2 (λe=>hgx (Option.some.inj e).symm);have BV:=aj ky;have f9:=IK.free i;have k9:=IK.cell i;rw[List.getElem?_set_self gJ.out]at k9;have Ze:Eo kb i (w9.setCell ⟨kb,i,none⟩ (.slice (some ⟨g',0,none⟩) (m+1) cq))=m+1:=by have h:=(IK.set i (.slice (some ⟨g',0,none⟩) (m+1) cq)).cell i;rw[List.set_set,List.getElem?_set_self gJ.out]at h;unfold Eo;rw[h]
     have afY:=aj Ze;clear ky IK Ze;refine hK _ _ (λ_=>⟨k9,P0,P1,P2,X0,X1,X2⟩) ?_;try simp only[UU]
     iterate 2 (refine pT rfl rfl ?_;try simp only[UU])
     refine aP rfl rfl (λK hK=>?_);go_simp;refine hK _ _ (λh=>absurd h zd) ?_;try simp only[UU]
     simp only[bI];go_wp2_with fail;go_roundw;case rel=>exact⟨_,m+1,BV.out⟩
     case measure=>rw[afY.out,lF.out];omega
   . have bi:¬(m:Int)<=(k:Int):=by omega
     have kx:k<m:=by omega
     obtain⟨b9,o9,e9,p0,p1,p2⟩:=TV.out k kx;simp only[Option.some.injEq,Addr.mk.injEq,and_true]at e9;obtain⟨rfl,rfl⟩:=e9;rw[Nat.zero_add]at p0 p1 p2;have aQ:=ot m cap k (k:Int) (rfl:(some ⟨g,0,none⟩:Option Addr)=_) kx rfl;rw[Nat.zero_add]at aQ;obtain⟨r0,aW,r1,aX,r2,kq⟩:=Hr.out.g3;go_wp2_with fail;have hfin:=bE.out.fin Ff.out vv uA.out (ag (au (dN (dF x k)))) (ah (nt (dN (dF x k)).natAbs)) (af (dE (dF x k)));have hsW:w.heap.size<=W.heap.size:=by omega
     refine dA (λw9=>ar w9 (w.heap.size+1) 45 [ag (au (dN (dF x k))),ah (nt (dN (dF x k)).natAbs),af (dE (dF x k))]/\(gj w9 kb n X Z/\Chg (λb=>kb<=b/\¬Z b) w w9)) ⟨hfin.1,dQ.out _ _ m hfin.2.1 hfin.2.2.1 hm2 hfin.2.2.2 (by
      rcases Mh.out with h|⟨g9,h,h'⟩
      . exact .inl h
      . exact .inr ⟨g9,h,by omega⟩)⟩ ?_
     rintro w9 ⟨lU,h9⟩;obtain⟨q0,q1,q2⟩:=lU.c3;refine bodyPost_ret (v:=bK (dF x k)) (by simp[results,Tryz.results86,go_sem,q0,q1,q2]) rfl ⟨rfl,h9⟩
def Ws (gf:Nat)(A:Dyadic->Dyadic->Bool)(xs:List Raw)(a:Option Addr)(n cap:Nat)(w:World)(hn:xs.length=n)(hl:n<=1048576)(h:∀x∈xs,Ok x)(ha:At w a (xs.flatMap aY))(hT:aB w)
 (eg:∀args w,(callFunc gf args).run Tryz.prog w=.ok (.enter gf args) w)
 (hcl:∀(s:Bool) (l:List UInt8) (e:Int) (t:Bool) (m:List UInt8) (f:Int),Ok (s,l,e)->Ok (t,m,f)->∀W,aB W->Cl gf #[.agg #[ag s,ah l,af e],.agg #[ag t,ah m,af f]] W λe' w'=>e'=.returned (ag (A (dval (s,l,e)) (dval (t,m,f))))/\Bw W w'):
 Cv 313 #[.slice a n cap,.func (.func gf) #[] #[]] w (bK (dval (iR A xs n))):=by
 obtain⟨X,hX⟩:=az (dval (iR A xs n));rw[hX];have hok:=alA A xs Ok Ok.zero h;have hget:∀k,k<xs.length->∃s m e,xs[k]?=some (s,m,e)/\xs.getD k (false,[],0)=(s,m,e)/\Ok (s,m,e):=λk hk=>⟨xs[k].1,xs[k].2.1,xs[k].2.2,by simp[hk],by simp[hk],h _ (List.getElem_mem hk)⟩;obtain⟨pH,yM,Ha,HT,iD,eH,Hn,HXn⟩:=nk hok hget ha hT eg hcl hn hX;clear hok hget ha hT eg hcl hn h hX;obtain⟨W,bX,ae,ai⟩:=jR w 45 [ag false,.string ⟨#[]⟩,af 0] 45 [ag false,.string ⟨#[]⟩,af 0];go_enter Tryz.func313,Tryz.ntmps313;have yY:=ae.2.1;have FJ:=ae.2.2.1;have lr:=ae.2.1.out.lt;have lo:=ae.2.2.1.out.lt;go_wp2_with fail;skip
 go_loopw[10] (λx wr=>∃k:Nat,k<=n/\x=af (k:Int)/\ar wr w.heap.size 45 [ag false,.string ⟨#[]⟩,af 0]/\ar wr (w.heap.size+1) 45 (aY (iR A xs k))/\Bw w wr) (λx _=>n-(intOf x).toNat);case atStart=>exact⟨0,Nat.zero_le _,rfl,ae.2.1.out,ae.2.2.1.out,ae.1.out⟩
 case round=>
  clear yY FJ;obtain⟨k,hk,rfl,pr,po,pb⟩:=hrel;obtain⟨⟨t,m',f⟩,hF⟩:∃F,iR A xs k=F:=⟨_,rfl⟩;have DU:=pH.out k;rw[hF]at po DU;by_cases hlt:k<n
  . have ir:k<xs.length:=by rw[Hn.out];exact hlt
    obtain⟨s,m,e,hx1,hx2,Zr⟩:=yM.out k ir;obtain⟨b,o,hab,q0,q1,q2⟩:=(Ha.out.below pb).num k ir (List.getElem?_eq_some_iff.1 hx1).2;have aQ:=ot n cap k (k:Int) hab hlt rfl;have hst:iR A xs (k+1)=if k=0\/A (dval (s,m,e)) (dval (t,m',f))=true then(s,m,e)else(t,m',f):=by
     show(if k=0\/A (dval (xs.getD k (false,[],0))) (dval (iR A xs k))=true then xs.getD k (false,[],0)else iR A xs k)=_
     rw[hx2,hF]
    obtain⟨c,hc⟩:=az (A (dval (s,m,e)) (dval (t,m',f)));have hcall:=eH.out s m e t m' f Zr DU;rw[hc]at hcall hst;obtain⟨jc,bE⟩:=aI hcall hst;have lb:b<w.heap.size:=by subst hab;exact Ha.out.lt (by intro h0;have h9:=congrArg List.length h0;rw[jJ aY 3 (λ_=>rfl),List.length_nil]at h9;omega)
    have Hp:Hid (aR wr b (o+k*3) [ag s,ah m,af e]):=jA q0 q1 q2;have Hr:=aj pr;have Ho:Hid (ar wr (w.heap.size+1) 45 [ag t,ah m',af f]):=po;have Hb:=aj pb;have jE:=iD.out;clear pr po pb q0 q1 q2 hcall hst hc hx1 hx2 Zr hF hab DU;obtain⟨ae,ai⟩:=qZ (Hr.an<|Ho.an<|Hp.an trivial);have lr2:=ae.1.out.lt;have tQ:=ae.2.1.out.lt;have p1:wr.cell? ⟨b,o+k*3+1,none⟩=some (ah m):=ae.2.2.1.out.cell 1 zm;have p0:wr.cell? ⟨b,o+k*3,none⟩=some (ag s):=ae.2.2.1.out.cell 0 zm;have p2:wr.cell? ⟨b,o+k*3+2,none⟩=some (af e):=ae.2.2.1.out.cell 2 zm;have P0:=p0;have P1:=p1;have P2:=p2;obtain⟨W4,mR,aG,ae,ai⟩:=cg wr (Hb.an ae) 45 [ag s,ah m,af e];by_cases gB:k=0
    . have hk1:((k:Int)==0)=true:=by subst gB;rfl
      have yO:=aj gB;clear gB;skip
      have nQ:Hid (iR A xs (k+1)=(s,m,e)):=by show _=_;rw[bE.out,if_pos (.inl yO.out)]
      go_wp2;go_roundw;case rel=>exact⟨k+1,by omega,by go_num,(((ae.2.2.1.out.so (w.heap.size+1) 0 zo _).so (w.heap.size+1) 1 zo _).so (w.heap.size+1) 2 zo _),by rw[nQ.out];exact((ae.2.2.2.1.out.set 0 _).set 1 _).set 2 _,(((ae.2.1.out.sc (w.heap.size+1) 0 zo _).sc (w.heap.size+1) 1 zo _).sc (w.heap.size+1) 2 zo _)⟩
      case measure=>exact bf
    . have hk1:((k:Int)==0)=false:=by simpa using gB
      have yO:Hid (¬k=0):=gB;clear gB;go_wp2_with fail;refine aJ ae (jc.out _ (HT.out.below ae.2.1.out)) λw5 ae ai=>?_;cases c with
      | true=>
        skip
        have nQ:Hid (iR A xs (k+1)=(s,m,e)):=by show _=_;rw[bE.out,if_pos (.inr rfl)]
        go_wp2;go_roundw;case rel=>exact⟨k+1,by omega,by go_num,(((ae.2.2.1.out.so (w.heap.size+1) 0 zo _).so (w.heap.size+1) 1 zo _).so (w.heap.size+1) 2 zo _),by rw[nQ.out];exact((ae.2.2.2.1.out.set 0 _).set 1 _).set 2 _,(((ae.2.1.out.sc (w.heap.size+1) 0 zo _).sc (w.heap.size+1) 1 zo _).sc (w.heap.size+1) 2 zo _)⟩
        case measure=>exact bf
      | false=>
        have nQ:Hid (iR A xs (k+1)=(t,m',f)):=by
         show _=_
         rw[bE.out,if_neg];intro h;rcases h with h|h
         . exact yO.out h
         . cases h
        skip
        go_wp2;go_roundw;case rel=>exact⟨k+1,by omega,by go_num,ae.2.2.1.out,by rw[nQ.out];exact ae.2.2.2.1.out,ae.2.1.out⟩
        case measure=>exact bf
  . obtain rfl:k=n:=by omega
    have hX:=HXn.out;rw[hF]at hX;have Hr:=aj pr;have Ho:Hid (ar wr (w.heap.size+1) 45 [ag t,ah m',af f]):=po;obtain⟨Hb,HX,HoF⟩:=bM pb hX DU;clear pr po pb hF hX DU;obtain⟨ae,ai⟩:=qZ (Hr.an<|Ho.an trivial);go_wp2_with fail;refine aJ (Hb.an ae) (nU t m' f X HX.out _ HoF.out (HT.out.below Hb.out)) λw5 ae ai=>?_;go_wp2;refine dA (aN w5 (w.heap.size) 0 (bo X)) aU ?_;intro w9 hs0;have ae:=bG hs0 ae;simp only[bA,List.set]at ae;have ai:=qC ae;refine bodyPost_ret (v:=bK X) (by simp[results,Tryz.results313,go_sem,ai]) rfl ⟨rfl,ae.1.out⟩
def tP (a b:Dyadic):Bool:=decide (bg (a-b)<0)
def tZ (a b:Dyadic):Bool:=decide (0<bg (a-b))
def Ng (a b:Dyadic):bg (a-b)<0↔0<bg (b-a):=by rw[sW,VY];grind
def anU (x y:Raw):dval (iR tP [x,y] 2)=(fG (dval x,dval y)).1:=by
 have e:iR tP [x,y] 2=if tP (dval y) (dval x)=true then y else x:=by
  show(if(1:Nat)=0\/tP (dval y) (dval x)=true then y else x)=_
  simp
 rw[e];unfold tP fG;by_cases h:bg (dval y-dval x)<0
 . rw[if_pos (by simpa using h),if_pos ((Ng _ _).1 h)]
 . rw[if_neg (by simpa using h),if_neg (λh2=>h ((Ng _ _).2 h2))]
def aoH (x y:Raw):dval (iR tZ [x,y] 2)=(fG (dval x,dval y)).2:=by
 have e:iR tZ [x,y] 2=if tZ (dval y) (dval x)=true then y else x:=by
  show(if(1:Nat)=0\/tZ (dval y) (dval x)=true then y else x)=_
  simp
 rw[e];unfold tZ fG;by_cases h:0<bg (dval y-dval x)
 . rw[if_pos (by simpa using h),if_neg (λh2=>by have:=(Ng (dval y) (dval x)).2 h2;omega)]
 . rw[if_neg (by simpa using h)];by_cases h2:0<bg (dval x-dval y)
   . rw[if_pos h2]
   . rw[if_neg h2];rw[VY]at h h2;show dval x=dval y
     grind
def aox (s:Bool)(l:List UInt8)(e:Int)(t:Bool)(m:List UInt8)(f:Int)(w:World)(hx:Ok (s,l,e))(hy:Ok (t,m,f))(hT:aB w):
 Cl 314 #[.agg #[ag s,ah l,af e],.agg #[ag t,ah m,af f]] w λe' w'=>e'=.returned (ag (tP (dval (s,l,e)) (dval (t,m,f))))/\Bw w w':=by
 obtain⟨c,hc⟩:=az (bg (dval (s,l,e)-dval (t,m,f)));obtain⟨Gx,Gy,Hc,HT⟩:=bU hx hy hc hT;unfold tP;rw[hc];clear hx hy hc hT;obtain⟨W,bX,ae,ai⟩:=jR w 45 [ag s,ah l,af e] 45 [ag t,ah m,af f];go_enter Tryz.func314,Tryz.ntmps314;go_wp2_with fail;refine aJ ae (MV s l e t m f c Hc.out _ Gx.out Gy.out (HT.out.below ae.1.out)) λw1 ae ai=>?_;go_wp2;refine bodyPost_ret (results_tmp rfl _ _ _) rfl ⟨rfl,ae.1.out⟩
def aou (s:Bool)(l:List UInt8)(e:Int)(t:Bool)(m:List UInt8)(f:Int)(w:World)(hx:Ok (s,l,e))(hy:Ok (t,m,f))(hT:aB w):
 Cl 315 #[.agg #[ag s,ah l,af e],.agg #[ag t,ah m,af f]] w λe' w'=>e'=.returned (ag (tZ (dval (s,l,e)) (dval (t,m,f))))/\Bw w w':=by
 obtain⟨c,hc⟩:=az (bg (dval (s,l,e)-dval (t,m,f)));obtain⟨Gx,Gy,Hc,HT⟩:=bU hx hy hc hT;unfold tZ;rw[hc];clear hx hy hc hT;obtain⟨W,bX,ae,ai⟩:=jR w 45 [ag s,ah l,af e] 45 [ag t,ah m,af f];go_enter Tryz.func315,Tryz.ntmps315;go_wp2_with fail;refine aJ ae (MV s l e t m f c Hc.out _ Gx.out Gy.out (HT.out.below ae.1.out)) λw1 ae ai=>?_;go_wp2;refine bodyPost_ret (results_tmp rfl _ _ _) rfl ⟨rfl,ae.1.out⟩
def aj3 (xs:List Raw)(X:Dyadic)(a:Option Addr)(n cap:Nat)(w:World)(hn:xs.length=n)(hl:n<=1048576)(h:∀x∈xs,Ok x)(ha:At w a (xs.flatMap aY))(hT:aB w)(hX:dval (iR tP xs n)=X):
 Cv 296 #[.slice a n cap] w (bK X):=by
 have hf:=λW (hW:Bw w W)=>Ws 314 tP xs a n cap W hn hl h (ha.below hW) (hT.below hW) (enters_of Tryz.func314 zk rfl) (λs l e t m f h1 h2 W hW=>aox s l e t m f W h1 h2 hW);rw[hX]at hf;have Hf:=aj hf;clear hf ha h hT hn hX;obtain⟨W,bX,ae,ai⟩:=fy w 45 [ag false,.string ⟨#[]⟩,af 0];go_enter Tryz.func296,Tryz.ntmps296;go_wp2_with fail;refine aJ ae (Hf.out _ ae.1.out) λw1 ae ai=>?_;go_wp2;refine dA (aN w1 (w.heap.size) 0 (bo X)) aU ?_;intro w9 hs0;have ae:=bG hs0 ae;simp only[bA,List.set]at ae;have ai:=qC ae;refine bodyPost_ret (v:=bK X) (by simp[results,Tryz.results296,go_sem,ai]) rfl ⟨rfl,ae.1.out⟩
def aj2 (xs:List Raw)(X:Dyadic)(a:Option Addr)(n cap:Nat)(w:World)(hn:xs.length=n)(hl:n<=1048576)(h:∀x∈xs,Ok x)(ha:At w a (xs.flatMap aY))(hT:aB w)(hX:dval (iR tZ xs n)=X):
 Cv 297 #[.slice a n cap] w (bK X):=by
 have hf:=λW (hW:Bw w W)=>Ws 315 tZ xs a n cap W hn hl h (ha.below hW) (hT.below hW) (enters_of Tryz.func315 zk rfl) (λs l e t m f h1 h2 W hW=>aou s l e t m f W h1 h2 hW);rw[hX]at hf;have Hf:=aj hf;clear hf ha h hT hn hX;obtain⟨W,bX,ae,ai⟩:=fy w 45 [ag false,.string ⟨#[]⟩,af 0];go_enter Tryz.func297,Tryz.ntmps297;go_wp2_with fail;refine aJ ae (Hf.out _ ae.1.out) λw1 ae ai=>?_;go_wp2;refine dA (aN w1 (w.heap.size) 0 (bo X)) aU ?_;intro w9 hs0;have ae:=bG hs0 ae;simp only[bA,List.set]at ae;have ai:=qC ae;refine bodyPost_ret (v:=bK X) (by simp[results,Tryz.results297,go_sem,ai]) rfl ⟨rfl,ae.1.out⟩
def arI (s:Bool)(l:List UInt8)(e:Int)(t:Bool)(m:List UInt8)(f:Int)(p:Pr)(hp:fG (dval (s,l,e),dval (t,m,f))=p)(b cap:Nat)(ty:TypeId)(w:World)(hx:Ok (s,l,e))(hy:Ok (t,m,f))
 (ha:ar w b ty [ag s,ah l,af e,ag t,ah m,af f]) (hT:aB w):
 Cv 274 #[.slice (some ⟨b,0,none⟩) 2 cap] w (vV p):=by
 obtain⟨p1,p2⟩:=p;have hok:∀x∈[(s,l,e),(t,m,f)],Ok x:=by intro x h;simp at h;rcases h with rfl|rfl;exact hx;exact hy
 have hat:At w (some ⟨b,0,none⟩) ([(s,l,e),(t,m,f)].flatMap aY):=At.awH ha;have h1:=λW (hW:Bw w W)=>aj3 [(s,l,e),(t,m,f)] p1 (some ⟨b,0,none⟩) 2 cap W rfl zo hok (hat.below hW) (hT.below hW) (by rw[anU,hp]);have h2:=λW (hW:Bw w W)=>aj2 [(s,l,e),(t,m,f)] p2 (some ⟨b,0,none⟩) 2 cap W rfl zo hok (hat.below hW) (hT.below hW) (by rw[aoH,hp]);obtain⟨H1,H2⟩:=aI h1 h2;clear h1 h2 hok hat ha hT hx hy hp;obtain⟨W,bX,ae,ai⟩:=fy w 88 [ag false,.string ⟨#[]⟩,af 0,ag false,.string ⟨#[]⟩,af 0];go_enter Tryz.func274,Tryz.ntmps274;go_wp2_with fail;refine aJ ae (H1.out _ ae.1.out) λw1 ae ai=>?_;go_wp2_with fail;refine aJ ae (H2.out _ ae.1.out) λw2 ae ai=>?_;go_wp2;refine dA (aN w2 (w.heap.size) 0 [ag (au (dN p1)),ah (nt (dN p1).natAbs),af (dE p1),ag (au (dN p2)),ah (nt (dN p2).natAbs),af (dE p2)]) aU ?_;intro w9 hs0;have ae:=bG hs0 ae;simp only[bA,List.set]at ae;have ai:=qC ae;refine bodyPost_ret (v:=vV (p1,p2)) (by simp[results,Tryz.results274,go_sem,ai]) rfl ⟨rfl,ae.1.out⟩
def acA (s:Bool)(l:List UInt8)(e:Int)(t:Bool)(m:List UInt8)(f:Int)(p:Pr)(hp:fG (dval (s,l,e),dval (t,m,f))=p)(w:World)(hx:Ok (s,l,e))(hy:Ok (t,m,f))(hT:aB w):
 Cv 234 #[.agg #[ag s,ah l,af e,ag t,ah m,af f]] w (vV p):=by
 obtain⟨Hp,Gx,Gy,HT⟩:=bU hp hx hy hT;clear hp hx hy hT;obtain⟨p1,p2⟩:=p;obtain⟨W,bX,ae,ai⟩:=jR w 88 [ag s,ah l,af e,ag t,ah m,af f] 243 [ag false,.string ⟨#[]⟩,af 0,ag false,.string ⟨#[]⟩,af 0];go_enter Tryz.func234,Tryz.ntmps234;have x5:W.cell? ⟨w.heap.size,5,none⟩=some (af f):=ae.2.1.out.cell 5;have x1:W.cell? ⟨w.heap.size,1,none⟩=some (ah l):=ae.2.1.out.cell 1;have x0:W.cell? ⟨w.heap.size,0,none⟩=some (ag s):=ae.2.1.out.cell 0;have x3:W.cell? ⟨w.heap.size,3,none⟩=some (ag t):=ae.2.1.out.cell 3;have x2:W.cell? ⟨w.heap.size,2,none⟩=some (af e):=ae.2.1.out.cell 2;have x4:W.cell? ⟨w.heap.size,4,none⟩=some (ah m):=ae.2.1.out.cell 4;have K0:=x0;have K1:=x1;have K2:=x2;have K3:=x3;have K4:=x4;have K5:=x5;obtain⟨W2,kP,aG,ae,ai⟩:=cg W ae 45 [ag s,ah l,af e,ag t,ah m,af f];go_wp2_with fail;refine aJ ae (arI s l e t m f (p1,p2) Hp.out W.heap.size 2 45 _ Gx.out Gy.out ae.1.out (HT.out.below ae.2.1.out)) λw3 ae ai=>?_;go_wp2;refine dA (aN w3 (w.heap.size+1) 0 [ag (au (dN p1)),ah (nt (dN p1).natAbs),af (dE p1),ag (au (dN p2)),ah (nt (dN p2).natAbs),af (dE p2)]) aU ?_;intro w9 hs0;have ae:=bG hs0 ae;simp only[bA,List.set]at ae;have ai:=qC ae;refine bodyPost_ret (v:=vV (p1,p2)) (by simp[results,Tryz.results234,go_sem,ai]) rfl ⟨rfl,ae.2.1.out⟩
def arH (s:Bool)(l:List UInt8)(e:Int)(t:Bool)(m:List UInt8)(f:Int)(p:Pr)(hp:fG (dval (s,l,e),dval (t,m,f))=p)(w:World)(hx:Ok (s,l,e))(hy:Ok (t,m,f))(hT:aB w):
 Cv 233 #[.agg #[ag s,ah l,af e,ag t,ah m,af f]] w (vV p):=by
 obtain⟨Hp,Gx,Gy,HT⟩:=bU hp hx hy hT;clear hp hx hy hT;obtain⟨p1,p2⟩:=p;obtain⟨W,bX,ae,ai⟩:=jR w 88 [ag s,ah l,af e,ag t,ah m,af f] 88 [ag false,.string ⟨#[]⟩,af 0,ag false,.string ⟨#[]⟩,af 0];go_enter Tryz.func233,Tryz.ntmps233;have hfd:∀W,(Instr.field 243 (vV (p1,p2)) 0).run Tryz.prog W=.ok (vV (p1,p2)) W:=λW=>by kernel_rfl
 go_wp2_with fail;refine aJ ae (acA s l e t m f (p1,p2) Hp.out _ Gx.out Gy.out (HT.out.below ae.1.out)) λw3 ae ai=>?_;go_wp2;refine dA (aN w3 (w.heap.size+1) 0 [ag (au (dN p1)),ah (nt (dN p1).natAbs),af (dE p1),ag (au (dN p2)),ah (nt (dN p2).natAbs),af (dE p2)]) aU ?_;intro w9 hs0;have ae:=bG hs0 ae;simp only[bA,List.set]at ae;have ai:=qC ae;refine bodyPost_ret (v:=vV (p1,p2)) (by simp[results,Tryz.results233,go_sem,ai]) rfl ⟨rfl,ae.1.out⟩
def arJ (s:Bool)(l:List UInt8)(e:Int)(t:Bool)(m:List UInt8)(f:Int)(B:Nat)(D:Dyadic)(hD:wh (dval (s,l,e),dval (t,m,f))=D)(w:World)(hx:Fit B (s,l,e))(hy:Fit B (t,m,f))(hB:B<=100000000)(hT:aB w):
 Cv 165 #[.agg #[ag s,ah l,af e,ag t,ah m,af f]] w (bK D):=by
 obtain⟨⟨p1,p2⟩,hp⟩:∃p,fG (dval (s,l,e),dval (t,m,f))=p:=⟨_,rfl⟩;have hs:=yo (p:=(dval (s,l,e),dval (t,m,f))) ⟨hx.2,hy.2⟩;unfold wh at hD;rw[hp]at hD hs;have Ds:Fit B (gg p1):=hs.1.fit zo;have hf2:Fit B (gg p2):=hs.2.fit zo;have hS:dval (gg p2)-dval (gg p1)=D:=by
  show dval (canon p2)-dval (canon p1)=D
  rw[bD,bD];exact hD
 obtain⟨Hp,Gx,Gy,HT,H1,H2,HS⟩:=jv hp hx.1 hy.1 hT Ds hf2 hS;clear hp hx hy hT hs hD Ds hf2 hS;obtain⟨W,bX,ae,ai⟩:=jR w 88 [ag s,ah l,af e,ag t,ah m,af f] 45 [ag false,.string ⟨#[]⟩,af 0];go_enter Tryz.func165,Tryz.ntmps165;go_wp2_with fail;refine aJ ae (acA s l e t m f (p1,p2) Hp.out _ Gx.out Gy.out (HT.out.below ae.1.out)) λw3 ae ai=>?_;obtain⟨W4,mR,aG,ae,ai⟩:=cg w3 ae 243 [ag (au (dN p1)),ah (nt (dN p1).natAbs),af (dE p1),ag (au (dN p2)),ah (nt (dN p2).natAbs),af (dE p2)];go_wp2_with fail;refine aJ ae (Gz _ _ _ _ _ _ D B HS.out _ H2.out H1.out zo (HT.out.below ae.2.1.out)) λw5 ae ai=>?_;go_wp2;refine dA (aN w5 (w.heap.size+1) 0 (bo D)) aU ?_;intro w9 hs0;have ae:=bG hs0 ae;simp only[bA,List.set]at ae;have ai:=qC ae;refine bodyPost_ret (v:=bK D) (by simp[results,Tryz.results165,go_sem,ai]) rfl ⟨rfl,ae.2.1.out⟩
def ajr {bx:List Pr}{k:Nat}(hk:k<bx.length)(h:0<=bg ((bx.getD k (0,0)).1-(bx.getD k (0,0)).2)):jG bx=5:=by
 unfold jG;have hn:bx≠[]:=by intro e;rw[e]at hk;simp at hk
 rw[if_neg hn,if_pos];rw[List.any_eq_true];exact⟨bx[k],List.getElem_mem hk,by simp[hk]at h;simpa using h⟩
def ajs {bx:List Pr}(h:∀k,k<bx.length->¬0<=bg ((bx.getD k (0,0)).1-(bx.getD k (0,0)).2)):jG bx=if bx.length=0 then 1 else 0:=by
 unfold jG;by_cases hn:bx=[]
 . rw[if_pos hn,if_pos (by rw[hn];rfl)]
 . rw[if_neg hn,if_neg (λe=>hn (List.length_eq_zero_iff.1 e)),if_neg];rw[List.any_eq_true];rintro⟨p,hp,h2⟩;obtain⟨k,hk,rfl⟩:=List.mem_iff_getElem.1 hp;have:=h k hk;simp[hk]at this;simp at h2;omega
def ajq {bx:List Pr}(h:jG bx=0):bx≠[]/\∀p∈bx,bg (p.1-p.2)<0:=by
 unfold jG at h;by_cases hn:bx=[]
 . rw[if_pos hn]at h;cases h
 . refine⟨hn,λp hp=>?_⟩;rw[if_neg hn]at h;split at h
   . cases h
   . rename_i h2
     have:=List.any_eq_false.1 (Bool.not_eq_true _▸h2) p hp;simp at this;omega
def nD (B:Nat)(bx:List (Raw×Raw)):Prop:=∀s∈bx,Fit B s.1/\Fit B s.2
def acz {bx:List (Raw×Raw)}{k:Nat}(hk:k<bx.length):(bx.map dm).getD k (0,0)=(dval bx[k].1,dval bx[k].2):=by simp[hk,dm]
def Vg (a:Option Addr)(L cap B:Nat)(bx:List (Raw×Raw))(w:World)(hL:bx.length=L)(hl:L<=1048576)(hf:nD B bx)(ha:At w a (bx.flatMap fA))(hT:aB w):
 Cv 113 #[.slice a L cap] w (af (jG (bx.map dm))):=by
 obtain⟨R,hR⟩:=az (jG (bx.map dm));have hno:∀k (h:k<bx.length),0<=bg (dval bx[k].1-dval bx[k].2)->R=5:=λk hk h=>by rw[<-hR];exact ajr (k:=k) (by simpa using hk) (by rw[acz hk];exact h)
 have Em:(∀k (h:k<bx.length),bg (dval bx[k].1-dval bx[k].2)<0)->R=if L=0 then 1 else 0:=λh=>by rw[<-hR,ajs (λk hk=>by rw[acz (by simpa using hk)];have:=h k (by simpa using hk);dsimp only;omega),List.length_map,hL]
 rw[hR];obtain⟨yT,Mr,Ha,HT,HL,Hf⟩:=ia hno Em ha hT hL hf;clear hno Em ha hT hL hf hR;have Hb:=hbz w;go_enter Tryz.func113,Tryz.ntmps113;go_wp2_with fail;go_loopw[7] (λx wr=>∃k:Nat,k<=L/\x=af (k:Int)/\(∀j (h:j<bx.length),j<k->bg (dval bx[j].1-dval bx[j].2)<0)/\Bw w wr) (λx _=>L-(intOf x).toNat);case atStart=>exact⟨0,Nat.zero_le _,rfl,λj _ h=>absurd h (Nat.not_lt_zero _),Hb.out⟩
 case round=>
  clear Hb;obtain⟨k,hk,rfl,hall,pb⟩:=hrel;by_cases hlt:k<L
  . have ir:k<bx.length:=by rw[HL.out];exact hlt
    obtain⟨s,m,e,t,n,f,hx⟩:∃s m e t n f,bx[k]=((s,m,e),(t,n,f)):=⟨_,_,_,_,_,_,rfl⟩;obtain⟨b,o,hab,hp⟩:=(Ha.out.below pb).spn k ir hx;have aQ:=AH L cap k (k:Int) hab hlt rfl;have oN:=Hf.out _ (List.getElem_mem ir);rw[hx]at oN;obtain⟨c,hc⟩:=az (bg (dval (s,m,e)-dval (t,n,f)));have cF:bg (dval bx[k].1-dval bx[k].2)=c:=by rw[hx];exact hc
    obtain⟨Hp,Hc,gu,H1,H2,kL,Hb⟩:=jv hp hc cF oN.1.1 oN.2.1 hall pb;clear hp hc cF oN hall pb hab hx;obtain⟨ae,ai⟩:=qZ (Hp.an trivial);obtain⟨W4,mR,aG,ae,ai⟩:=cg wr (Hb.an ae) 88 [ag s,ah m,af e,ag t,ah n,af f];go_wp2_with fail;refine aJ ae (MV s m e t n f c Hc.out _ H1.out H2.out (HT.out.below ae.2.1.out)) λw5 ae ai=>?_;skip
    by_cases hc0:0<=c
    . obtain rfl:=yT.out k ir (by rw[gu.out];exact hc0);go_wp2;refine bodyPost_ret (results_tmp rfl _ _ _) rfl ⟨rfl,ae.2.1.out⟩
    . go_wp2;go_roundw;case rel=>
       refine⟨k+1,by omega,by go_num,λj h hj=>?_,ae.2.1.out⟩;by_cases hjk:j=k
       . subst hjk;rw[gu.out];omega
       . exact kL.out j h zo
      case measure=>exact bf
  . obtain rfl:k=L:=by omega
    have hR:=Mr.out (λj h=>hall j h (by rw[<-HL.out];exact h));have Hb:=aj pb;clear pb hall;by_cases h0:k=0
    . subst h0;rw[if_pos rfl]at hR;subst hR;go_wp2;refine bodyPost_ret (results_tmp rfl _ _ _) rfl ⟨rfl,Hb.out⟩
    . rw[if_neg h0]at hR;subst hR;have h1:((k:Int)==0)=false:=by simpa using h0
      go_wp2;refine bodyPost_ret (results_tmp rfl _ _ _) rfl ⟨rfl,Hb.out⟩
def Tryz.axd :(Tryz.prog.info? 88).map (λi=>(i.zero,i.size,i.bytes))=some (some (.agg #[ag false,.string (bs []),af 0,ag false,.string (bs []),af 0]),6,64):=by kernel_rfl
def kG (s:Raw×Raw):Raw×Raw:=spD (fG (dm s))
def arG (bx:List (Raw×Raw))(k:Nat)(hk:k<bx.length):((bx.map kG).take (k+1)).flatMap fA=((bx.map kG).take k).flatMap fA++fA (kG bx[k]):=by rw[List.take_succ_eq_append_getElem (by simpa using hk),List.flatMap_append];simp
def Vh (a:Option Addr)(L cap B:Nat)(bx:List (Raw×Raw))(w:World)(hL:bx.length=L)(hl:L<=1000)(hf:nD B bx)(ha:At w a (bx.flatMap fA))(hT:aB w):
 Cl 161 #[.slice a L cap] w λe w'=>∃a' c',e=.returned (.slice a' L c')/\At w' a' ((bx.map kG).flatMap fA)/\Bw w w':=by
 obtain⟨i0,hi,hz0,hz1,hz2⟩:=info_parts Tryz.axd;obtain⟨Hi,cp,bR,bV,Ha,HT,HL,Hf⟩:=nk hi hz0 hz1 hz2 ha hT hL hf;clear hi hz0 hz1 hz2 ha hT hL hf;have Hb:=hbz w;go_enter Tryz.func161,Tryz.ntmps161;go_wp2_with fail;go_loopw[3,8] (λs3 x wr=>∃(k:Nat) (v:Value),k<=L/\x=af (k:Int)/\v=s3/\wr.ownsRow w.heap.size 88 6 v k (((bx.map kG).take k).flatMap fA)/\Bw w wr) (λ_ x _=>L-(intOf x).toNat);case atStart=>exact⟨0,_,Nat.zero_le _,rfl,rfl,World.ownsRow_nil _ _ _ _,Hb.out⟩
 case round=>
  clear Hb;obtain⟨k,v,hk,rfl,rfl,pv,pb⟩:=hrel;by_cases hlt:k<L
  . have ir:k<bx.length:=by rw[HL.out];exact hlt
    obtain⟨s,m,e,t,n,f,hx⟩:∃s m e t n f,bx[k]=((s,m,e),(t,n,f)):=⟨_,_,_,_,_,_,rfl⟩;obtain⟨b,o,hab,hp⟩:=(Ha.out.below pb).spn k ir hx;have aQ:=AH L cap k (k:Int) hab hlt rfl;have oN:=Hf.out _ (List.getElem_mem ir);rw[hx]at oN;obtain⟨⟨y1,y2⟩,hq⟩:∃p,fG (dval (s,m,e),dval (t,n,f))=p:=⟨_,rfl⟩;have hst:=arG bx k ir;rw[hx,show kG ((s,m,e),(t,n,f))=(canon y1,canon y2)from by unfold kG dm;rw[hq];rfl]at hst;have mW:((bx.map kG).take (k+1)).flatMap fA=((bx.map kG).take k).flatMap fA++[ag (au (dN y1)),ah (nt (dN y1).natAbs),af (dE y1),ag (au (dN y2)),ah (nt (dN y2).natAbs),af (dE y2)]:=hst;obtain⟨Hp,Hq,H1,H2,jC,je,bE⟩:=jv hp hq oN.1.1 oN.2.1 pb pv mW;have sz0:=pb.size;clear hp hq oN pb hab hx hst mW pv;have Hb:=hbz wr;obtain⟨ae,ai⟩:=qZ (Hp.an trivial);obtain⟨W4,mR,aG,ae,ai⟩:=cg wr (Hb.an ae) 88 [ag s,ah m,af e,ag t,ah n,af f];go_wp2_with fail;refine aJ ae (arH s m e t n f (y1,y2) Hq.out _ H1.out H2.out (HT.out.below (aC jC.out ae.2.1.out))) λw5 ae ai=>?_;obtain⟨W6,rL,aG,ae,ai⟩:=cg w5 ae 88 [ag (au (dN y1)),ah (nt (dN y1).natAbs),af (dE y1),ag (au (dN y2)),ah (nt (dN y2).natAbs),af (dE y2)];have cu:=ownsRow_below je.out ae.2.2.1.out;have jr:=ae.2.2.1.out.size;have hnews:=fJ ae.1.out;skip
    go_wp2_with (at_builtin;refine wpList_append_own_at _ rfl _ _ 23 rfl w.heap.size 88 i0 _ 6 64 Tryz.underlying23 Hi.out cp.out bR.out bV.out rfl zd v k (((bx.map kG).take k).flatMap fA) rfl cu ⟨w5.heap.size,0,none⟩ 1 1 [ag (au (dN y1)),ah (nt (dN y1).natAbs),af (dE y1),ag (au (dN y2)),ah (nt (dN y2).natAbs),af (dE y2)] rfl rfl hnews zy zx zo zo ?_;intro v' w7 dt dM _ _;obtain⟨g',rA,rfl⟩:=ownsRow_succ dt);go_roundw;case rel=>
     refine⟨k+1,_,by omega,by go_num,rfl,?_,?_⟩
     . rw[bE.out];exact dt
     . exact(aC jC.out ae.2.2.1.out).grown dM zo (λj e=>cZ cu j e)
    case measure=>exact bf
  . obtain rfl:k=L:=by omega
    rw[List.take_of_length_le (by rw[List.length_map,HL.out];exact Nat.le_refl _)]at pv;obtain⟨a2,c2,rfl,hat,_⟩:=cO pv;obtain⟨Hb,eG⟩:=aI pb hat;clear pb pv hat;go_wp2;refine bodyPost_ret (results_tmp rfl _ _ _) rfl ⟨a2,c2,rfl,eG.out,Hb.out⟩
def Jt (n m:Nat)(a a':Option Addr)(cap cap':Nat)(x y:Bool)(hx:decide (0<n)=x)(hy:decide (0<m)=y)(w:World):
 Cv 48 #[.agg #[.slice a n cap,.slice a' m cap']] w (.tuple #[ag y,ag (x !=y)]):=by
 have Hb:=hbz w;go_enter Tryz.func48,Tryz.ntmps48;go_wp2_with fail;refine bP w (Hb.an trivial) 93 [.slice a n cap,.slice a' m cap'] λW aG ae ai=>?_;go_wp2_with fail;refine cQ 999 ae (cM 18 0x23211f1d1b19171513110f0d0b0907050301) ?_;refine bC ?_;refine cP ae λai=>?_;go_wp2;refine bodyPost_ret (v:=.tuple #[ag y,ag (x !=y)]) (by subst hx hy;simp[results,Tryz.results48,go_sem,bne]) rfl ⟨rfl,ae.2.1.out.drew⟩
def rB (n m:Nat)(cb ct:Int):Int:=if 0<n↔0<m then 1 else if 0<m then ct else if 6<n then 3 else cb
def VL (bx:List (Raw×Raw))(rows:List (List Raw))(n m B:Nat)(a a':Option Addr)(cap cap':Nat)(c:Int)(w:World)(hn:bx.length=n)(hm:rows.length=m)(hb:At w a (bx.flatMap fA))(ha:cC w a' rows)(eK:nD B bx)(eY:∀r∈rows,∀c∈r,Fit B c)(hB:B<=900000)(iw:n<=1000)(xH:m<=5)(hcap:m<=cap')(hT:aB w)
 (hc:rB n m (jG (bx.map dm)) (nu rows)=c):
 Cv 47 #[.agg #[.slice a n cap,.slice a' m cap']] w (af c):=by
 have hbc:=λW (hW:Bw w W)=>Vg a n cap B bx W hn zo eK (hb.below hW) (hT.below hW);have htc:=λW (hW:Bw w W)=>acO a' m cap' rows B W hm xH hcap (ha.below hW) eY hB (hT.below hW);generalize jG (bx.map dm)=cb at*;generalize nu rows=ct at*;obtain⟨nJ,Htc⟩:=aI hbc htc;clear hbc htc hb ha eK eY hT hn hm;have hw:IntKind.i64.wrap (2* (n:Int))=2* (n:Int):=by rw[IntKind.wrap_i64];omega
 unfold rB at hc;obtain⟨x,hx⟩:=az (decide (0<n));obtain⟨y,hy⟩:=az (decide (0<m));have Hk:=aj (Jt n m a a' cap cap' x y hx hy);have Hb:=hbz w;by_cases hxy:x=y
 . have hc1:c=1:=by rw[<-hc,if_pos];rw[<-hx,<-hy]at hxy;have:=decide_eq_decide.1 hxy;omega
   subst hc1;subst hxy;have hne:(x !=x)=false:=by simp
   clear hx hy hc;go_enter Tryz.func47,Tryz.ntmps47;go_wp2_with fail;refine bP w (Hb.an trivial) 93 [.slice a n cap,.slice a' m cap'] λW aG ae ai=>?_;go_wp2_with fail;refine aJ ae (Hk.out _) λw1 ae ai=>?_;go_wp2;refine bodyPost_ret (results_tmp rfl _ _ _) rfl ⟨rfl,ae.2.1.out⟩
 have hne:(x !=y)=true:=by simpa using hxy
 have hi:¬(0<n↔0<m):=λh=>hxy (by rw[<-hx,<-hy];exact decide_eq_decide.2 zo);rw[if_neg hi]at hc;cases y with
 | true=>
   have hm0:0<m:=by simpa using hy
   rw[if_pos hm0]at hc;subst hc;clear hx hy hxy hi;go_enter Tryz.func47,Tryz.ntmps47;go_wp2_with fail;refine bP w (Hb.an trivial) 93 [.slice a n cap,.slice a' m cap'] λW aG ae ai=>?_;go_wp2_with fail;refine aJ ae (Hk.out _) λw1 ae ai=>?_;go_wp2_with fail;refine aJ ae (Htc.out _ ae.2.1.out) λw2 ae ai=>?_;go_wp2;refine bodyPost_ret (results_tmp rfl _ _ _) rfl ⟨rfl,ae.2.1.out⟩
 | false=>
   have hm0:¬0<m:=by simpa using hy
   rw[if_neg hm0]at hc;by_cases h6:6<n
   . rw[if_pos h6]at hc;subst hc;have h12:(12:Int)<2* (n:Int):=by omega
     clear hx hy hxy hi;go_enter Tryz.func47,Tryz.ntmps47;go_wp2_with fail;refine bP w (Hb.an trivial) 93 [.slice a n cap,.slice a' m cap'] λW aG ae ai=>?_;go_wp2_with fail;refine aJ ae (Hk.out _) λw1 ae ai=>?_;go_wp2;refine bodyPost_ret (results_tmp rfl _ _ _) rfl ⟨rfl,ae.2.1.out⟩
   . rw[if_neg h6]at hc;subst hc;have h12:¬(12:Int)<2* (n:Int):=by omega
     clear hx hy hxy hi;go_enter Tryz.func47,Tryz.ntmps47;go_wp2_with fail;refine bP w (Hb.an trivial) 93 [.slice a n cap,.slice a' m cap'] λW aG ae ai=>?_;go_wp2_with fail;refine aJ ae (Hk.out _) λw1 ae ai=>?_;go_wp2_with fail;refine aJ ae (nJ.out _ ae.2.1.out) λw2 ae ai=>?_;go_wp2;refine bodyPost_ret (results_tmp rfl _ _ _) rfl ⟨rfl,ae.2.1.out⟩
def apR (y1 y2 S:Dyadic)(B k n:Nat)(ts:List Raw)(a:Option Addr)(cap bt:Nat)(w:World)(h1:Sm B y1)(h2:Sm B y2)(hB:B<=10000000)(hn:ts.length=n)(hk:k<n)(hf:∀x∈ts,Fit B x)(hS:y1+dval (ts.getD k default) *wh (y1,y2)=S)
 (hc:w.cell? ⟨bt,0,none⟩=some (.slice a n cap)) (ha:At w a (ts.flatMap aY)) (hT:aB w):
 Cv 164 #[af (k:Int),.agg #[ag (au (dN y1)),ah (nt (dN y1).natAbs),af (dE y1),ag (au (dN y2)),ah (nt (dN y2).natAbs),af (dE y2)],.pointer (some ⟨bt,0,none⟩)] w (bK S):=by
 have hk2:k<ts.length:=by rw[hn];exact hk
 obtain⟨s,m,e,hx⟩:=pU (ts[k]);have cS:Fit B (s,m,e):=by rw[<-hx];exact hf _ (List.getElem_mem hk2)
 rw[List.getD_eq_getElem?_getD,List.getElem?_eq_getElem hk2]at hS;rw[show(some ts[k]).getD default=(s,m,e)from hx]at hS;obtain⟨b,o,hab,p0,p1,p2⟩:=ha.num k hk2 hx;have aQ:=vK n cap k (k:Int) hab hk rfl;obtain⟨D,hD⟩:=az (wh (y1,y2));rw[hD]at hS;obtain⟨M,hM⟩:=az (dval (s,m,e) *D);rw[hM]at hS;have rI:Sm (B+2) D:=by rw[<-hD];have h:=yo (p:=(y1,y2)) ⟨h1,h2⟩;exact(Sm.sub h.2 h.1).mono zo
 have rJ:Sm (2*B+3) M:=by rw[<-hM];exact(Sm.mul cS.2 rI).mono zo
 have Hw:=λW (hW:aB W)=>arJ (au (dN y1)) (nt (dN y1).natAbs) (dE y1) (au (dN y2)) (nt (dN y2).natAbs) (dE y2) B D (by show wh (dval (canon y1),dval (canon y2))=D;rw[bD,bD];exact hD) W (h1.fit zo) (h2.fit zo) zo hW;have HD:Hid (dval (s,m,e) *dval (gg D)=M):=by show _*dval (canon D)=M;rw[bD];exact hM
 have HS:Hid (dval (gg y1)+dval (gg M)=S):=by show dval (canon y1)+dval (canon M)=S;rw[bD,bD];exact hS
 have Le:Hid (Fit (B+2) (s,m,e)):=cS.mono zo;have HfD:Hid (Fit (B+2) (gg D)):=rI.fit zo;have KZ:Hid (Fit (2*B+3) (gg y1)):=(h1.mono zo).fit zo;have HfM:Hid (Fit (2*B+3) (gg M)):=rJ.fit zo;obtain⟨ahf,HT,Hc⟩:=bM Hw hT hc;have Hx:Hid (aR w b (o+k*3) [ag s,ah m,af e]):=jA p0 p1 p2;have hge:¬(n:Int)<=(k:Int):=by omega
 have yc:=World.block_lt_of_cell? w _ p0;have lbt:=World.block_lt_of_cell? w _ hc;simp only at yc lbt;clear p0 p1 p2 hab hx cS hS hD hM rI rJ Hw hT hc ha hf h1 h2 hn hk2;obtain⟨W,bX,ae,ai⟩:=jR w 88 [ag (au (dN y1)),ah (nt (dN y1).natAbs),af (dE y1),ag (au (dN y2)),ah (nt (dN y2).natAbs),af (dE y2)] 45 [ag false,.string ⟨#[]⟩,af 0];have Uu:=aj (Hx.out.below ae.1.out);have hcl:W.cell? ⟨bt,0,none⟩=some (.slice a n cap):=cell_later ae.1.out Hc.out;have Ht:Hid (aR W bt 0 [.slice a n cap]):=λj hj=>by
  obtain rfl:j=0:=by simp at hj;omega
  exact hcl
 have Hx:=Uu;have pu:=aj (HT.out.below ae.1.out);obtain⟨ae,ai⟩:=qZ (Ht.an<|Hx.an ae);have HU:Hid (aB W):=pu.out;clear pu Uu;go_enter Tryz.func164,Tryz.ntmps164;go_wp2_with fail;have ae:=HU.an ae;refine cQ 12 ae (cM 13 0x18161412100e0d0b0907050301) ?_;refine bC ?_;refine bO ae (ahf.out _ (qU ae.1.out)) λw3 ae=>?_;refine qK 45 [ag s,ah m,af e,ag (au (dN D)),ah (nt (dN D).natAbs),af (dE D)] ae λW4 aG ae=>?_;refine bO ae (uP s m e (au (dN D)) (nt (dN D).natAbs) (dE D) M (B+2) HD.out w3.heap.size _ 45 _ Le.out HfD.out zo ae.1.out (qU ae.2.1.out)) λw5 ae=>?_;refine qK 45 [ag (au (dN y1)),ah (nt (dN y1).natAbs),af (dE y1),ag (au (dN M)),ah (nt (dN M).natAbs),af (dE M)] ae λW6 aG ae=>?_;refine bO ae (CE (au (dN y1)) (nt (dN y1).natAbs) (dE y1) (au (dN M)) (nt (dN M).natAbs) (dE M) S (2*B+3) HS.out w5.heap.size _ 45 _ KZ.out HfM.out zo ae.1.out (qU ae.2.2.1.out)) λw7 ae=>?_;have ai:=qC ae;refine qOp λK hK=>?_;go_simp;refine hK _ _ (λh=>absurd h zd) ?_;try simp only[UU]
 refine bY (aN w7 (w.heap.size+1) 0 (bo S)) aU ?_;intro W8 hs0;have ae:=bG hs0 ae;simp only[bA,List.set]at ae;have ai:=qC ae;refine cP ae λai=>?_;have Hb:=ae.2.2.2.2.2.1;go_wp2;exact bodyPost_ret (v:=bK S) (by simp[results,Tryz.results164,go_sem,ai]) rfl ⟨rfl,cm⟩
def abD (xs:List Raw)(k:Nat)(hk:k<xs.length):(xs.take (k+1)).flatMap aY=(xs.take k).flatMap aY++aY xs[k]:=by rw[List.take_succ_eq_append_getElem hk,List.flatMap_append];simp
def akJ (a:Option Addr)(n cap B:Nat)(bx:List (Raw×Raw))(gf:Nat)(lb:Array Value)(f:Nat->Dyadic)(w:World)(hn:bx.length=n)(hl:n<=1000)(hf:nD B bx)(ha:At w a (bx.flatMap fA))(hT:aB w)
 (eg:∀args w,(callFunc gf args).run Tryz.prog w=.ok (.enter gf args) w)
 (hcl:∀k (h:k<bx.length) y1 y2,fG (dm bx[k])=(y1,y2)->∀W,Bw w W->Cl gf (#[af (k:Int),.agg #[ag (au (dN y1)),ah (nt (dN y1).natAbs),af (dE y1),ag (au (dN y2)),ah (nt (dN y2).natAbs),af (dE y2)]]++lb) W λe w'=>e=.returned (bK (f k))/\Bw W w'):
 Cl 163 #[.slice a n cap,.func (.func gf) #[] lb] w λe w'=>∃(a':Option Addr) (c':Nat),e=.returned (.slice a' n c')/\At w' a' (((List.range n).map λk=>canon (f k)).flatMap aY)/\Bw w w':=by
 obtain⟨i0,hi,hz0,hz1,hz2⟩:=info_parts Tryz.awK;have vq:=λW (hW:Bw w W)=>Vh a n cap B bx W hn hl hf (ha.below hW) (hT.below hW);obtain⟨Hi,cp,bR,bV⟩:=bU hi hz0 hz1 hz2;obtain⟨X,hX⟩:=az ((List.range n).map λk=>canon (f k));have jo:X.length=n:=by rw[<-hX];simp
 have Ad:∀k (h:k<X.length),X[k]=canon (f k):=λk h=>by subst hX;simp
 obtain⟨BL,eH,iD,Hn,qV,Kp⟩:=ia vq hcl eg hn jo Ad;rw[hX];clear hi hz0 hz1 hz2 vq hcl eg hn jo Ad hX ha hT hf;have Hb:=hbz w;go_enter Tryz.func163,Tryz.ntmps163;go_wp2_with fail;refine(BL.out _ Hb.out).mono ?_;rintro e w1 ⟨a1,c1,rfl,kQ,ak⟩;have eG:=aj kQ;replace Hb:=aZ Hb ak;clear ak kQ;have bB:=Hb;go_wp2_with fail;go_loopw[5,11] (λs5 x wr=>∃(k:Nat) (v:Value),k<=n/\x=af (k:Int)/\v=s5/\wr.ownsRow w1.heap.size 45 3 v k ((X.take k).flatMap aY)/\Bw w1 wr) (λ_ x _=>n-(intOf x).toNat);case atStart=>exact⟨0,_,Nat.zero_le _,rfl,rfl,World.ownsRow_nil _ _ _ _,Below.refl _ _⟩
 case round=>
  clear Hb;obtain⟨k,v,hk,rfl,rfl,ho,pb⟩:=hrel;by_cases hlt:k<n
  . have ir:k<bx.length:=by rw[Hn.out];exact hlt
    have kx:k<(bx.map kG).length:=by simpa using ir
    obtain⟨y1,y2,hy⟩:∃y1 y2,fG (dm bx[k])=(y1,y2):=⟨_,_,rfl⟩;have hx:(bx.map kG)[k]=(canon y1,canon y2):=by rw[List.getElem_map];unfold kG;rw[hy];rfl
    obtain⟨b,o,hab,hp⟩:=(eG.out.below pb).spn k kx hx;have aQ:=AH n c1 k (k:Int) hab hlt rfl;have xu:=eH.out k ir y1 y2 hy;have hkX:k<X.length:=by rw[qV.out];exact hlt
    have hst:=abD X k hkX;rw[Kp.out k hkX]at hst;generalize f k=F at*;have mW:(X.take (k+1)).flatMap aY=(X.take k).flatMap aY++(bo F):=hst;have Hp:Hid (aR wr b (o+k*6) [ag (au (dN y1)),ah (nt (dN y1).natAbs),af (dE y1),ag (au (dN y2)),ah (nt (dN y2).natAbs),af (dE y2)]):=hp;obtain⟨KJ,bE,Ho,aO,kN⟩:=eV xu mW ho pb (aC bB.out pb);have gQ:=pb.size;clear hp hab hx hy xu hst mW ho pb hkX kx ir;have Hb:=hbz wr;obtain⟨ae,ai⟩:=qZ (Hp.an trivial);have jE:=iD.out;have aG:=qL (Hb.an ae);go_wp2_with fail;refine bP wr (Hb.an ae) 88 [ag (au (dN y1)),ah (nt (dN y1).natAbs),af (dE y1),ag (au (dN y2)),ah (nt (dN y2).natAbs),af (dE y2)] λW4 aG ae ai=>?_;go_wp2_with fail;refine aJ ae (KJ.out _ (aC kN.out ae.2.1.out)) λw5 ae ai=>?_;clear jE;obtain⟨W6,rL,aG,ae,ai⟩:=cg w5 ae 45 (bo F);have cu:=ownsRow_below Ho.out ae.2.2.1.out;have jr:=ae.2.2.1.out.size;have hnews:=fJ ae.1.out;go_wp2_with (at_builtin;refine wpList_append_own_at _ rfl _ _ 63 rfl w1.heap.size 45 i0 _ 3 32 Tryz.underlying63 Hi.out cp.out bR.out bV.out rfl zd v k ((X.take k).flatMap aY) rfl cu ⟨w5.heap.size,0,none⟩ 1 1 (bo F) rfl rfl hnews zy zx zo zo ?_;intro v' w7 dt dM _ _);have fK:=(aC aO.out ae.2.2.1.out).grown dM zo (λj e=>cZ cu j e);rw[<-bE.out]at dt;obtain⟨pG,kM⟩:=aI dt fK;clear dt fK dM cu hnews;go_wp2;go_roundw;case rel=>exact⟨k+1,_,by omega,by go_num,rfl,pG.out,kM.out⟩
    case measure=>exact bf
  . obtain rfl:k=n:=by omega
    rw[List.take_of_length_le (by rw[qV.out];exact Nat.le_refl _)]at ho;obtain⟨a2,c2,rfl,hat,_⟩:=cO ho;obtain⟨Hb,wy⟩:=aI (aC bB.out pb) hat;clear pb ho hat;go_wp2;refine bodyPost_ret (results_tmp rfl _ _ _) rfl ⟨a2,c2,rfl,wy.out,Hb.out⟩
def rW (bx:List (Raw×Raw))(ts:List Raw)(k:Nat):Dyadic:=(fG (dm (bx.getD k default))).1+dval (ts.getD k default) *wh (fG (dm (bx.getD k default)))
def apS (a:Option Addr)(n cap B:Nat)(bx:List (Raw×Raw))(ts:List Raw)(ta:Option Addr)(tc:Nat)(w:World)(hn:bx.length=n)(hl:n<=1000)(hf:nD B bx)(hB:B<=10000000)(ha:At w a (bx.flatMap fA))(ht:ts.length=n)(hft:∀x∈ts,Fit B x)(js:At w ta (ts.flatMap aY))(hT:aB w):
 Cl 84 #[.slice a n cap,.slice ta n tc] w λe w'=>∃(a':Option Addr) (c':Nat),e=.returned (.slice a' n c')/\At w' a' (((List.range n).map λk=>canon (rW bx ts k)).flatMap aY)/\Bw w w':=by
 have eg:∀args w,(callFunc 164 args).run Tryz.prog w=.ok (.enter 164 args) w:=enters_of Tryz.func164 zk rfl
 have Yr:=λW bt (hW:Bw w W) (hc:W.cell? ⟨bt,0,none⟩=some (.slice ta n tc))=>akJ a n cap B bx 164 #[.pointer (some ⟨bt,0,none⟩)] (rW bx ts) W hn hl hf (ha.below hW) (hT.below hW) eg (λk hk y1 y2 hy W2 hW2=>by
  have hs:=hf _ (List.getElem_mem hk);have ho:=yo (p:=dm bx[k]) ⟨hs.1.2,hs.2.2⟩;rw[hy]at ho;have h:=apR y1 y2 (rW bx ts k) B k n ts ta tc bt W2 ho.1 ho.2 hB ht zo hft (by unfold rW;rw[show bx.getD k default=bx[k]by simp[hk],hy]) (cell_later hW2 hc) (js.below (aC hW hW2)) (hT.below (aC hW hW2))
  simpa using h)
 have Hea:=aj Yr;clear Yr eg ha hT hf hft js ht hn;have Hb:=hbz w;go_enter Tryz.func84,Tryz.ntmps84;go_wp2_with fail;refine bP w (Hb.an trivial) 63 [.slice ta n tc] λW aG ae ai=>?_;have t0:W.cell? ⟨w.heap.size,0,none⟩=some (.slice ta n tc):=ae.1.out.cell 0;go_wp2_with fail;refine(Hea.out _ _ ae.2.1.out t0).mono ?_;rintro e w1 ⟨a',c',rfl,hat,ak⟩;obtain⟨ae,ai⟩:=qX ak ae;go_wp2;refine bodyPost_ret (results_tmp rfl _ _ _) rfl ⟨a',c',rfl,hat,ae.2.1.out⟩
end Go.Proofs.YtpfgffadgkkedaaGreatDoor
namespace Go.Proofs.YtpfgffadgkkedaaGreatDoor
open Go.RowKit
end Go.Proofs.YtpfgffadgkkedaaGreatDoor
