/- Package poly: Scale. -/
import Derived.Test.YtoopepmmepmfnaaGreatDoorZ14
import Derived.Test.YtoopepmmepmfnaaGreatDoorZ22
set_option linter.unusedVariables false
set_option linter.unusedSimpArgs false
set_option maxRecDepth 100000
set_option maxHeartbeats 16000000
namespace Go.Proofs.YtoopepmmepmfnaaGreatDoor
open Go.RowKit
attribute [local go_sem ↓] Go.wp_at_zero Go.wp_at_succ
theorem ajJ {l:List UInt8}{V:Nat}(h:gh l (V:Int)=true):l.length=V:=by unfold gh at h;rw[Bool.and_eq_true]at h;have:=h.2;simp at this;omega
def jC (V B:Nat)(ts:List aO):Prop:=KL V ts/\∀t∈ts,Fit B t.2
theorem jC.chk {V B:Nat}{ts:List aO}(h:jC V B ts):∀t∈ts,t.1.length<=9223372036854775807/\Ok t.2:=λt ht=>⟨by have:=ajJ (h.1.2.1 t ht);have:=h.1.2.2.2;omega,(h.2 t ht).1⟩
theorem YP (V:Nat)(a:Option Addr)(cap:Nat)(ts:List aO)(s:Bool)(m:List UInt8)(e:Int)(D:Dyadic)(B:Nat)(w:World)(hp:jC V B ts)(ha:cZ w a cap ts)(hf:Fit B (s,m,e))(hB:2*B+8192<=268435456)(hT:az w)(hD:ar (s,m,e)=D):
 Calls Tryz.prog 100 #[.agg #[.int .i64 (V:Int),.slice a ts.length cap],.agg #[.bool s,.string (bs m),.int .i64 e]] w λex w'=>∃a' c',ex=.returned (.tuple #[.agg #[.int .i64 (V:Int),.slice a' (cp (fy D ts)).length c'],.int .i64 0])/\cZ w' a' c' (cp (fy D ts))/\Bw w w':=by
 obtain⟨n,hn⟩:=aB ts.length;have hnl:n<=4096:=by have:=hp.1.2.2.1;omega
 have hV:V<=12:=hp.1.2.2.2;obtain⟨C,hC⟩:=aB (cp (fy D ts));have kr:(fy D ts).length=n:=by unfold fy;rw[List.length_map,hn]
 have Ur:∀t∈fy D ts,Fit (2*B) t.2:=by intro t ht;unfold fy at ht;obtain⟨x,hx,rfl⟩:=List.mem_map.1 ht;refine Sm.fit ?_ zo;have:=Sm.mul (hp.2 x hx).2 hf.2;rw[hD]at this;exact this.mono zo
 have dv:=λW (hW:Bw w W)=>Yq (V:Int) a cap n ts W hn zo (ha.1.below hW) hp.chk (hT.below hW);rw[Yr hp.1]at dv;have hs:=ha.2.1;rw[hn]at hs;have hcn:=λW (hW:Bw w W)=>(SL a n cap ts W hn zo hs (ha.1.below hW)).mono (λe w' h=>(match h with|⟨v,h1,h2,h3⟩=>⟨v,h1,h2,h3,h3⟩:∃v',e=.returned v'/\w'.ownsRow W.heap.size 93 4 v' n (ts.flatMap bf)/\Bw W w'/\Bw W w'));have hcl:=λw0 W v (hw0:Bw w w0) (hb0:Bw w0 W) (ho:W.ownsRow w0.heap.size 93 4 v n ((fy D ts).flatMap bf))=>Lf (V:Int) v n (fy D ts) C (2*B) w0 W hb0 kr hnl ho Ur zo (hT.below hw0) hC;have gy:=hp.2;rw[hn,hC];obtain⟨gV,sk,gm,qV,HT,Hn,Hfc,HD⟩:=mI dv hcn hcl gy hT hn hf hD;clear dv hcn hcl gy hT hn hf hD hC kr Ur hs ha hp;have Hb:Hid (Bw w w):=Below.refl _ _;go_enter Tryz.func100,Tryz.ntmps100;go_wp2_with fail;obtain⟨R,hR⟩:∃R:World->Prop,(λW=>aj W (w.heap.size) 91 [.int .i64 (V:Int),.slice a n cap]/\aj W (w.heap.size+1) 39 [.bool s,.string (bs m),.int .i64 e]/\aj W (w.heap.size+1+1) 91 [.int .i64 0,.slice none 0 0]/\Bw w W)=R:=⟨_,rfl⟩;first|refine bQ R ?hR ?_|refine bP R ?hR ?_
 case hR=>subst hR;exact⟨(((aj.newAt w _ _ (b:=w.heap.size) rfl).alloc _).alloc _),((aj.newAt (w.alloc _) _ _ (b:=w.heap.size+1) zm).alloc _),(aj.newAt ((w.alloc _).alloc _) _ _ (b:=w.heap.size+1+1) zm),((zl.alloc zj _).alloc zj _)⟩
 subst hR;rintro W ⟨qp,qc,qr,ae⟩;have Hp:=af qp;clear qp;have Hc:=af qc;clear qc;have Hr:=af qr;clear qr;obtain⟨p0,p1⟩:=Hp.out.c2;obtain⟨c0,c1,c2⟩:=Hc.out.c3;obtain⟨r0,ag,r1,ah⟩:=Hr.out.g2;replace Hb:=ak Hb ae;clear ae;go_wp2_with fail;refine(gV.out _ Hb.out).mono ?_;rintro e w1 ⟨rfl,ae⟩;clear p0 p1 c0 c1 c2 r0 ag r1 ah;replace Hp:=kB Hp ae;replace Hc:=kB Hc ae;replace Hr:=kB Hr ae;obtain⟨p0,p1⟩:=Hp.out.c2;obtain⟨c0,c1,c2⟩:=Hc.out.c3;obtain⟨r0,ag,r1,ah⟩:=Hr.out.g2;replace Hb:=ak Hb ae;clear ae;have Kl:=Hp;have Jp:=Hc;have lU:=Hr;have eK:=Hb;go_wp2_with fail;refine(sk.out _ Hb.out).mono ?_;rintro e w2 ⟨v1,rfl,fP,uD,ae⟩;clear p0 p1 c0 c1 c2 r0 ag r1 ah;replace Hp:=kB Hp ae;replace Hc:=kB Hc ae;replace Hr:=kB Hr ae;obtain⟨p0,p1⟩:=Hp.out.c2;obtain⟨c0,c1,c2⟩:=Hc.out.c3;obtain⟨r0,ag,r1,ah⟩:=Hr.out.g2;replace Hb:=ak Hb ae;clear ae;obtain⟨a1,d1,rfl,_,_⟩:=eH fP;obtain⟨AJ,QB⟩:=aI fP uD;clear fP uD;go_wp2_with fail;go_loopw[20] (λx wr=>∃(k:Nat) (C:List aO),k<=n/\x=.int .i64 (k:Int)/\C.length=n/\C.take k=(fy D ts).take k/\C.drop k=ts.drop k/\wr.ownsRow w1.heap.size 93 4 (.slice a1 n d1) n (C.flatMap bf)/\Bw w1 wr) (λx _=>n-(intOf x).toNat);case atStart=>exact⟨0,ts,Nat.zero_le _,rfl,Hn.out,rfl,rfl,AJ.out,QB.out⟩
 case round=>
  clear p0 p1 c0 c1 c2 r0 ag r1 ah AJ QB Hp Hc Hr Hb;obtain⟨k,C',hk,rfl,hC,htk,hdr,hov,pb⟩:=hrel;obtain⟨Hp,Hc,Hr⟩:=cG (Kl.out.below pb) (Jp.out.below pb) (lU.out.below pb);have fN:=aH eK.out pb;have rY:=eK.out.size;by_cases hlt:k<n
  . obtain⟨g,cc,he,hg1,hg2,hg3⟩:=xp hov zo;simp only[Value.slice.injEq,true_and]at he;obtain⟨rfl,rfl⟩:=he;have tq:k<C'.length:=by omega
    have wH:k<ts.length:=by have:=Hn.out;omega
    have hel:=Tp hdr tq wH;obtain⟨l,s1,q1,e1,hx⟩:∃l s m e,C'[k]=(l,s,m,e):=⟨_,_,_,_,rfl⟩;have jf:=qV.out _ (List.getElem_mem wH);rw[<-hel,hx]at jf;obtain⟨X,hX⟩:=aB (ar (s1,q1,e1) *D);have iU:=XH (λx=>(x.1,canon (ar x.2*D))) ts C' k tq (by rw[hC,Hn.out]) htk hel;have Cf:(C'[k].1,canon (ar C'[k].2*D))=(l,canon X):=by rw[hx,<-hX]
    have yX:(C'.set k (l,canon X)).take (k+1)=(fy D ts).take (k+1):=by rw[<-Cf];exact iU
    have jv:C'[k].1=l:=by rw[hx]
    obtain⟨_,y1,y2,y3⟩:=(Ij hov k tq hx).w4;have hd2:C'.drop (k+1)=ts.drop (k+1):=by rw[<-List.drop_drop,<-List.drop_drop,hdr]
    have bB:=rM n d1 k (k:Int) (rfl:(some ⟨g,0,none⟩:Option Addr)=_) hlt rfl;rw[Nat.zero_add]at bB;have Hz:Hid (bO wr g (k*4+1) [.bool s1,.string (bs q1),.int .i64 e1]):=oM y1 y2 y3;have HX:Hid (ar (s1,q1,e1) *ar (s,m,e)=X):=by show _=_;rw[HD.out];exact hX
    obtain⟨dW,aZ,vR,xS,HC,Jv,mR,vG⟩:=mI hov pb yX hd2 hC jv jf (HT.out.below fN);have lL:=pb.size;clear hov pb iU yX hd2 hC htk hdr hel hx hX Cf jv jf wH y1 y2 y3 fN Kl Jp lU Hp Hr;have Hb:Hid (Bw wr wr):=Below.refl _ _;go_wp2_with fail;obtain⟨c0,c1,c2⟩:=Hc.out.c3;obtain⟨z0,z1,z2⟩:=Hz.out.w3;have HU:Hid (az wr):=vG.out;refine bW (λw'=>w'.cell? ⟨w.heap.size+1,0,none⟩=some (.bool s)/\w'.cell? ⟨w.heap.size+1,1,none⟩=some (.string (bs m))/\w'.cell? ⟨w.heap.size+1,2,none⟩=some (.int .i64 e)/\w'.cell? ⟨g,k*4+1,none⟩=some (.bool s1)/\w'.cell? ⟨g,k*4+1+1,none⟩=some (.string (bs q1))/\w'.cell? ⟨g,k*4+1+2,none⟩=some (.int .i64 e1)) (λi=>Nat.blt i 12) [(0,true),(1,true),(2,true),(3,true),(4,true),(5,true),(6,true),(7,true),(8,false),(9,false),(10,true),(11,true),(12,false)] zk zk rfl zk zc ⟨c0,c1,c2,z0,z1,z2⟩ ?_;iterate 8 (refine pT rfl rfl ?_ (by intro w' ⟨q0,q1,q2,q3,q4,q5⟩;go_simp;try with_reducible rfl);try simp only[UU])
    refine aC rfl rfl (λK hK=>?_);go_simp;refine hK _ _ (λ_=>⟨aJ c0,aJ c1,aJ c2,aJ z0,aJ z1,aJ z2⟩) ?_;clear hK K;try simp only[UU]
    refine bI (λW4=>aj W4 (wr.heap.size) 39 [.bool s1,.string (bs q1),.int .i64 e1,.bool s,.string (bs m),.int .i64 e]/\Bw wr W4) (by first|exact cS|exact cV) ?_;rintro W4 ⟨qv,ae⟩;clear c0 c1 c2 z0 z1 z2;have ajl:=Hc.out.lt;replace Hc:=kB Hc ae;replace Hz:=kW Hz ae;replace HU:=kT HU ae;have Hv:=af qv;clear qv;obtain⟨c0,c1,c2⟩:=Hc.out.c3;obtain⟨z0,z1,z2⟩:=Hz.out.w3;obtain⟨v0,v1,v2,v3,v4,v5⟩:=Hv.out.c6;replace Hb:=ak Hb ae;clear ae;refine aC rfl rfl (λK hK=>?_);go_simp;with_reducible refine(pE s1 q1 e1 s m e X B HX.out wr.heap.size _ 39 _ mR.out Hfc.out zo Hv.out (by first|exact HU.out|exact az.drew HU.out|exact az.alloc HU.out _|exact az.drew (az.alloc HU.out _) |exact az.alloc (az.drew HU.out) _)).mono ?_
    rintro e w5 ⟨rfl,hq⟩;have ae:Bw W4 w5:=by first|exact hq|exact aM hq
    clear c0 c1 c2 z0 z1 z2 v0 v1 v2 v3 v4 v5;replace Hc:=kB Hc ae;replace Hz:=kW Hz ae;replace HU:=kT HU ae;replace Hv:=kB Hv ae;obtain⟨c0,c1,c2⟩:=Hc.out.c3;obtain⟨z0,z1,z2⟩:=Hz.out.w3;obtain⟨v0,v1,v2,v3,v4,v5⟩:=Hv.out.c6;replace Hb:=ak Hb ae;clear ae;refine hK _ _ (λ_=>⟨c0,c1,c2,z0,z1,z2⟩) ?_;clear hK K;try simp only[UU]
    iterate 2 (refine pT rfl rfl ?_;try simp only[UU])
    refine aC rfl rfl (λK hK=>?_);have gS:=ownsRow_below dW.out Hb.out;have mg:=lI gS (k*4+1);have Fb:=lI gS (k*4+1+1);have Ma:=lI gS (k*4+1+2);have df:=aH aZ.out Hb.out;obtain⟨vN,fB⟩:=aI gS df;clear gS df;go_simp;refine hK _ _ (λh=>absurd h zd) ?_;clear hK K;try simp only[UU]
    simp only[aV];go_wp2;refine⟨⟨k+1,C'.set k (l,canon X),by omega,by go_num,by rw[List.length_set];exact HC.out,vR.out,by rw[Lv _ _ _ _ zo];exact xS.out,?_,?_⟩,by simp[intOf];omega⟩
    . have h:=Yl vN.out k tq (ai (dN X)) (nt (dN X).natAbs) (dE X);rw[Jv.out]at h;exact h
    . exact((fB.out.setCell hg1 _).setCell hg1 _).setCell hg1 _
  . obtain rfl:k=n:=by omega
    have BJ:C'=fy D ts:=by rw[List.take_of_length_le zo,List.take_of_length_le (by unfold fy;rw[List.length_map];have:=Hn.out;omega)]at htk;exact htk
    rw[BJ]at hov;obtain⟨dW,aZ⟩:=aI hov pb;have Hb:Hid (Bw w wr):=fN;clear hov pb htk hdr hC BJ fN;obtain⟨p0,p1⟩:=Hp.out.c2;obtain⟨r0,ag,r1,ah⟩:=Hr.out.g2;go_wp2_with fail;refine(gm.out w1 _ _ eK.out aZ.out dW.out).mono ?_;rintro e w6 ⟨a2,d2,rfl,fQ,ae⟩;clear p0 p1 r0 ag r1 ah;replace Hp:=af (Kl.out.below ae);replace Hr:=af (lU.out.below ae);obtain⟨p0,p1⟩:=Hp.out.c2;obtain⟨r0,ag,r1,ah⟩:=Hr.out.g2;replace Hb:=af (aH eK.out ae);clear ae;go_wp2;refine Bl (Hr.out) fQ Hb.out zo ?_;intro w9 qj mB jO;obtain⟨q0,q1⟩:=qj.c2;exact bodyPost_ret (v:=.tuple #[.agg #[.int .i64 (V:Int),.slice a2 C.length d2],.int .i64 0]) (by simp[results,Tryz.results100,go_sem,q0,q1]) rfl ⟨_,_,rfl,Ii mB,jO⟩
def gD (w:World)(V B:Nat)(ps:List Pv)(Ts:Nat->List aO):Prop:=∀k (h:k<ps.length),∃a c,ps[k]=⟨(V:Int),a,(Ts k).length,c⟩/\cZ w a c (Ts k)/\jC V B (Ts k)
theorem gD.below {w w':World}{V B:Nat}{ps:List Pv}{Ts:Nat->List aO}(h:gD w V B ps Ts)(hb:Bw w w'):gD w' V B ps Ts:=λk hk=>by obtain⟨a,c,h1,h2,h3⟩:=h k hk;exact⟨a,c,h1,h2.below hb,h3⟩
theorem below_drewN {n:Nat}{w w':World}(h:Below n w w')(k:Nat):Below n w (w'.drewN k):=by
 induction k with
 |zero=>exact h
 |succ k ih=>exact ih.drew
theorem aiQ (V V':Int)(aT:Option Addr)(nT cT:Nat)(bl:Nat)(b o L cap:Nat)(q:Value)(w:World)(hc:w.cell? ⟨bl,0,none⟩=some (.slice (some ⟨b,o,none⟩) L cap))(hL:0<L)(hw:bO w b o [.int .i64 V,q]):
 Calls Tryz.prog 192 #[.agg #[.int .i64 V',.slice aT nT cT],.pointer (some ⟨bl,0,none⟩)] w λex w'=>ex=.returned (.bool (V' !=V))/\Bw w w':=by
 have bB:=wX L cap 0 0 (rfl:(some ⟨b,o,none⟩:Option Addr)=_) hL rfl;rw[Nat.zero_mul,Nat.add_zero]at bB;have h0:w.cell? ⟨b,o,none⟩=some (.int .i64 V):=by have:=hw.w2.1;exact this
 obtain⟨Hc,H0⟩:=aI hc h0;clear hc h0 hw;obtain⟨W,bU,Hb,Hx⟩:=gL w 91 [.int .i64 V',.slice aT nT cT];obtain⟨x0,x1⟩:=Hx.out.c2;have k1:=cell_later Hb.out Hc.out;have k2:=cell_later Hb.out H0.out;go_enter Tryz.func192,Tryz.ntmps192;go_wp2_with fail;go_quiet (fail)
 go_wp2;refine bodyPost_ret (results_tmp rfl _ _ _) rfl ⟨rfl,(below_drewN Hb.out _)⟩
theorem aiR (V B:Nat)(b o L cap:Nat)(ps:List Pv)(Ts:Nat->List aO)(w:World)(hL:ps.length=L)(Fy:0<L)(ww:L<=65536)(ha:At w (some ⟨b,o,none⟩) (ps.flatMap jm))(hp:gD w V B ps Ts)(hT:az w):
 Calls Tryz.prog 153 #[.slice (some ⟨b,o,none⟩) L cap] w λe w'=>e=.returned (.int .i64 0)/\Bw w w':=by
 have eg:∀args w,(callFunc 192 args).run Tryz.prog w=.ok (.enter 192 args) w:=enters_of Tryz.func192 zk rfl;have hct:∀W bl,Bw w W->W.cell? ⟨bl,0,none⟩=some (.slice (some ⟨b,o,none⟩) L cap)->Calls Tryz.prog 191 #[.slice (some ⟨b,o,none⟩) L cap,.func (.func 192) #[] #[.pointer (some ⟨bl,0,none⟩)]] W λe w'=>e=.returned (.bool false)/\Bw W w':=by
  intro W bl hW hc;obtain⟨a0,c0,e0,_,_⟩:=hp 0 zo;obtain⟨b',o',hab,eG⟩:=(ha.below hW).arD 0 zo e0;simp only[Option.some.injEq,Addr.mk.injEq,and_true]at hab;obtain⟨rfl,rfl⟩:=hab;rw[Nat.zero_mul,Nat.add_zero]at eG;have h:=afu (some ⟨b,o,none⟩) L cap ps 192 #[.pointer (some ⟨bl,0,none⟩)] (λp=>p.V !=(V:Int)) W hL zo (ha.below hW) eg (λx hx W2 hW2=>by simpa using aiQ (V:Int) x.V x.a x.n x.c bl b o L cap _ W2 (cell_later hW2 hc) Fy (eG.below hW2));have hf:(ps.any λp=>p.V !=(V:Int))=false:=by rw[List.any_eq_false];intro p CE;obtain⟨k,hk,rfl⟩:=List.mem_iff_getElem.1 CE;obtain⟨a,c,e1,_,_⟩:=hp k hk;rw[e1];simp
  rwa [hf]at h
 have dv:=λW (hW:Bw w W) k (hk:k<ps.length)=>(show ∃a c,ps[k]=⟨(V:Int),a,(Ts k).length,c⟩/\Calls Tryz.prog 150 #[.agg #[.int .i64 (V:Int),.slice a (Ts k).length c]] W λe w'=>e=.returned (.int .i64 0)/\Bw W w' from by
  obtain⟨a,c,e1,h1,h2⟩:=hp k hk;refine⟨a,c,e1,?_⟩;have h:=Yq (V:Int) a c (Ts k).length (Ts k) W rfl (by have:=h2.1.2.2.1;omega) (h1.1.below hW) h2.chk (hT.below hW)
  rwa [Yr h2.1]at h)
 obtain⟨Jt,gV,Ha,HL⟩:=cQ hct dv ha hL;clear hct dv ha hL hp hT eg;have hLn:((L:Int)==0)=false:=by simp;omega
 have Hb:Hid (Bw w w):=Below.refl _ _;go_enter Tryz.func153,Tryz.ntmps153;go_wp2_with fail;obtain⟨R,hR⟩:∃R:World->Prop,(λW=>aj W (w.heap.size) 80 [.slice (some ⟨b,o,none⟩) L cap]/\Bw w W)=R:=⟨_,rfl⟩;first|refine bQ R ?hR ?_|refine bP R ?hR ?_
 case hR=>subst hR;exact⟨(aj.newAt w _ _ (b:=w.heap.size) rfl),zl⟩
 subst hR;rintro W ⟨ql,ae⟩;have Hl:=af ql;clear ql;have l0:=Hl.out.c1;replace Hb:=ak Hb ae;clear ae;go_loopw[8] (λx wr=>∃k:Nat,k<=L/\x=.int .i64 (k:Int)/\Bw W wr) (λx _=>L-(intOf x).toNat);case atStart=>exact⟨0,Nat.zero_le _,rfl,Below.refl _ _⟩
 case round=>
  clear l0;obtain⟨k,hk,rfl,pb⟩:=hrel;obtain⟨fN,hl,aZ⟩:=cG (aH Hb.out pb) (Hl.out.below pb) pb;clear pb Hb Hl;by_cases hlt:k<L
  . have hk2:k<ps.length:=by rw[HL.out];exact hlt
    obtain⟨a1,c1,e1,hcall⟩:=gV.out wr fN.out k hk2;obtain⟨b',o',hab,eG⟩:=(Ha.out.below fN.out).arD k hk2 e1;obtain⟨rfl,rfl⟩:b=b'/\o=o':=by simp at hab;exact hab
    have hcall:=λW (hW:Bw w W)=>(gV.out W hW k hk2);have bB:=wX L cap k (k:Int) (rfl:(some ⟨b,o,none⟩:Option Addr)=_) hlt rfl;obtain⟨nT,wQ⟩:=aB ((Ts k).length);have ahy:Hid (∀W,Bw w W->Calls Tryz.prog 150 #[.agg #[.int .i64 (V:Int),.slice a1 nT c1]] W λe w'=>e=.returned (.int .i64 0)/\Bw W w'):=by intro W hW;obtain⟨a2,c2,e2,h2⟩:=hcall W hW;rw[e1]at e2;simp only[Pv.mk.injEq,true_and]at e2;obtain⟨rfl,rfl⟩:=e2;rw[wQ]at h2;exact h2
    rw[wQ]at eG;have Hx:Hid (bO wr b (o+k*2) [.int .i64 (V:Int),.slice a1 nT c1]):=eG;clear eG hcall hab e1 wQ;have Hb:Hid (Bw wr wr):=Below.refl _ _;obtain⟨x0,x1⟩:=Hx.out.w2;have P0:=x0;have P1:=x1;obtain⟨W3,Mx,ae,Hv⟩:=cf wr 91 [.int .i64 (V:Int),.slice a1 nT c1];clear x0 x1;replace Hx:=kW Hx ae;obtain⟨x0,x1⟩:=Hx.out.w2;obtain⟨v0,v1⟩:=Hv.out.c2;replace Hb:=ak Hb ae;clear ae;go_wp2_with fail;refine(ahy.out _ (aH fN.out Hb.out)).mono ?_;rintro e w4 ⟨rfl,ae⟩;clear x0 x1 v0 v1;replace Hx:=kW Hx ae;replace Hv:=kB Hv ae;obtain⟨x0,x1⟩:=Hx.out.w2;obtain⟨v0,v1⟩:=Hv.out.c2;replace Hb:=ak Hb ae;clear ae;go_wp2;go_roundw;case rel=>exact⟨k+1,by omega,by go_num,aH aZ.out Hb.out⟩
    case measure=>simp[intOf];omega
  . obtain rfl:k=L:=by omega
    have Hb:=fN;have Hl:=hl;have l0:=Hl.out.c1;go_wp2_with fail;refine(Jt.out _ _ Hb.out l0).mono ?_;rintro e w6 ⟨rfl,ae⟩;clear l0;replace Hl:=kB Hl ae;have l0:=Hl.out.c1;replace Hb:=ak Hb ae;clear ae;go_wp2;go_ret;exact⟨rfl,Hb.out⟩
def il (Ts:Nat->List aO):Nat->List aO
 |0=>[]
 |k+1=>fR (il Ts k) (Ts k)
def kX (Ts:Nat->List aO):Nat->List aO
 |0=>[]
 |k+1=>kX Ts k++Ts k
theorem afl (Ts:Nat->List aO)(k:Nat)(m:List UInt8):cB (il Ts k) m=cB (kX Ts k) m:=by
 induction k with
 |zero=>rfl
 |succ k ih=>unfold il kX;rw[SQ,yx,ih]
theorem XS (Ts:Nat->List aO)(k:Nat):(il Ts k).length<=(kX Ts k).length:=by
 induction k with
 |zero=>exact Nat.le_refl _
 |succ k ih=>unfold il kX;have:=XR (il Ts k) (Ts k);rw[List.length_append];omega
theorem SE (Ts:Nat->List aO)(j k:Nat)(h:j<=k):(kX Ts j).length<=(kX Ts k).length:=by
 induction k with
 | zero => obtain rfl:j=0:=by omega
           exact Nat.le_refl _
 | succ k ih=>
   by_cases e:j=k+1
   . subst e;exact Nat.le_refl _
   . have:=ih zo;rw[show kX Ts (k+1)=kX Ts k++Ts k from rfl,List.length_append];omega
theorem ajW {B:Nat}(Ts:Nat->List aO)(k:Nat)(h:∀j,j<k->∀t∈Ts j,Fit B t.2)(hB:B+k<=268435456):∀t∈il Ts k,Fit (B+k) t.2:=by
 induction k with
 |zero=>intro t ht;cases ht
 |succ k ih=>unfold il;have:=XQ (B:=B+k) (il Ts k) (Ts k) (ih (λj hj=>h j zo) zo) (λt ht=>(h k zo t ht).mono zo) zo;exact this
theorem adQ (V B:Nat)(b o L cap:Nat)(ps:List Pv)(Ts:Nat->List aO)(C:List aO)(w:World)(hL:ps.length=L)(Fy:0<L)(ww:L<=65536)(ha:At w (some ⟨b,o,none⟩) (ps.flatMap jm))(hp:gD w V B ps Ts)(hn:(kX Ts L).length<=4096)(hB:B+L+8192<=268435456)(hT:az w)(hC:cp (kX Ts L)=C):
 Calls Tryz.prog 101 #[.slice (some ⟨b,o,none⟩) L cap] w λex w'=>∃a' c',ex=.returned (.tuple #[.agg #[.int .i64 (V:Int),.slice a' C.length c'],.int .i64 0])/\cZ w' a' c' C/\Bw w w':=by
 have BF:=enters_of Tryz.func155 zk rfl;have BD:=enters_of Tryz.func156 zk rfl;have hlk:=λW (hW:Bw w W)=>aiR V B b o L cap ps Ts W hL Fy ww (ha.below hW) (hp.below hW) (hT.below hW);have TQ:cp (il Ts L)=C:=by rw[<-hC];exact yw (afl Ts L)
 have Cu:(il Ts L).length<=4096:=Nat.le_trans (XS Ts L) hn;have MP:∀j,j<L->∀t∈Ts j,Fit B t.2:=λj hj=>by obtain⟨a,c,_,_,h⟩:=hp j zo;exact h.2
 have Ct:=λk (hk:k<=L)=>ajW (B:=B) Ts k (λj hj=>MP j zo) zo;have hcl:=λw0 W v (hw0:Bw w w0) (hb0:Bw w0 W) (ho:W.ownsRow w0.heap.size 93 4 v (il Ts L).length ((il Ts L).flatMap bf))=>Lf (V:Int) v _ (il Ts L) C (B+L) w0 W hb0 rfl Cu ho (Ct L (Nat.le_refl _)) zo (hT.below hw0) TQ;obtain⟨a0,c0,e0,_,_⟩:=hp 0 zo;obtain⟨b',o',hab,eG⟩:=ha.arD 0 zo e0;obtain⟨rfl,rfl⟩:b=b'/\o=o':=by simp at hab;exact hab
 rw[Nat.zero_mul,Nat.add_zero]at eG;have iA:=wX L cap 0 0 (rfl:(some ⟨b,o,none⟩:Option Addr)=_) Fy rfl;rw[Nat.zero_mul,Nat.add_zero]at iA;obtain⟨n0,hn0⟩:=aB ((Ts 0).length);rw[hn0]at eG;have hlb:b<w.heap.size:=World.block_lt_of_cell? w _ eG.w2.1;obtain⟨Hlk,gm,Hmf,Hp,Ha,HT,HL,JH,JG,HfT,Hw,JW⟩:=ij hlk hcl Ct hp ha hT hL BF BD MP eG iA
 have mS:Hid (∀k,k<L->(il Ts k).length<=4096/\(Ts k).length<=4096):=λk hk=>⟨Nat.le_trans (Nat.le_trans (XS Ts k) (SE Ts k L zo)) hn,by
  have h1:=SE Ts (k+1) L zo
  rw[show kX Ts (k+1)=kX Ts k++Ts k from rfl,List.length_append]at h1;omega⟩
 clear hlk hcl Ct hp ha hT hL BF BD MP eG iA hC TQ hn Cu hab e0 hn0;have Hb:Hid (Bw w w):=Below.refl _ _;go_enter Tryz.func101,Tryz.ntmps101;go_wp2_with fail;obtain⟨R,hR⟩:∃R:World->Prop,(λW=>aj W (w.heap.size) 91 [.int .i64 0,.slice none 0 0]/\Bw w W)=R:=⟨_,rfl⟩;first|refine bQ R ?hR ?_|refine bP R ?hR ?_
 case hR=>subst hR;exact⟨(aj.newAt w _ _ (b:=w.heap.size) rfl),zl⟩
 subst hR;rintro W ⟨qr,ae⟩;have Hr:=af qr;clear qr;obtain⟨r0,ag,r1,ah⟩:=Hr.out.g2;replace Hb:=ak Hb ae;clear ae;go_wp2_with fail;refine(Hlk.out _ Hb.out).mono ?_;rintro e w1 ⟨rfl,ae⟩;clear r0 ag r1 ah;replace Hr:=kB Hr ae;obtain⟨r0,ag,r1,ah⟩:=Hr.out.g2;replace Hb:=ak Hb ae;clear ae;have lU:=Hr;have eK:=Hb;go_wp2_with fail;go_loopw[5,16] (λs5 x wr=>∃(k:Nat) (v:Value),k<=L/\x=.int .i64 (k:Int)/\v=s5/\wr.ownsRow w1.heap.size 93 4 v (il Ts k).length ((il Ts k).flatMap bf)/\Bw w1 wr) (λ_ x _=>L-(intOf x).toNat);case atStart=>exact⟨0,_,Nat.zero_le _,rfl,rfl,World.ownsRow_nil _ _ _ _,Below.refl _ _⟩
 case round=>
  clear r0 ag r1 ah Hr Hb;obtain⟨k,v,hk,rfl,rfl,ho,pb⟩:=hrel;have fN:=aH eK.out pb;have rY:=eK.out.size;have lL:=pb.size;by_cases hlt:k<L
  . have hk2:k<ps.length:=by rw[HL.out];exact hlt
    obtain⟨a1,c1,e1,hpl,hft⟩:=Hp.out k hk2;obtain⟨b',o',hab,eG⟩:=(Ha.out.below fN).arD k hk2 e1;obtain⟨rfl,rfl⟩:b=b'/\o=o':=by simp at hab;exact hab
    have bB:=wX L cap k (k:Int) (rfl:(some ⟨b,o,none⟩:Option Addr)=_) hlt rfl;obtain⟨av,cv,rfl,UF,_⟩:=eH ho;have WA:=xq ho;have Co:=mS.out k hlt;have Vk:=Hmf.out k zo;have eu:=HfT.out k hlt;have hsk:=hpl.2.1;have Hm:Hid (∀W,Bw wr W->Calls Tryz.prog 154 #[.slice av (il Ts k).length cv,.slice a1 (Ts k).length c1,.func (.func 155) #[] #[],.func (.func 156) #[] #[]] W λe w'=>∃v',e=.returned v'/\w'.ownsRow w1.heap.size 93 4 v' (il Ts (k+1)).length ((il Ts (k+1)).flatMap bf)/\Bw W w'):=by intro W hW;refine(XK av _ cv (il Ts k) a1 _ c1 (Ts k) (B+L) W rfl rfl WA hsk zo zo (UF.below hW) (hpl.1.below (aH fN hW)) (λt ht=>(Vk t ht).mono zo) (λt ht=>(eu t ht).mono zo) zo (HT.out.below (aH fN hW))).mono ?_;rintro e w' ⟨v',rfl,h1,h2⟩;exact⟨v',rfl,xt h1 (by have:=hW.size;omega),h2⟩
    obtain⟨nv,kx⟩:=aB ((il Ts k).length);obtain⟨nT,wQ⟩:=aB ((Ts k).length);rw[kx,wQ]at Hm;rw[wQ]at eG;have Hx:Hid (bO wr b (o+k*2) [.int .i64 (V:Int),.slice a1 nT c1]):=eG;have aZ:=af pb;rw[kx];clear eG hab e1 wQ kx hpl hft ho UF WA Co Vk eu hsk pb fN;have Hb:Hid (Bw wr wr):=Below.refl _ _;obtain⟨x0,x1⟩:=Hx.out.w2;have P0:=x0;have P1:=x1;obtain⟨W3,Mx,ae,Hv⟩:=cf wr 91 [.int .i64 (V:Int),.slice a1 nT c1];clear x0 x1;replace Hx:=kW Hx ae;obtain⟨x0,x1⟩:=Hx.out.w2;obtain⟨v0,v1⟩:=Hv.out.c2;replace Hb:=ak Hb ae;clear ae;have LC:=JH.out;have EW:=JG.out;go_wp2_with fail;refine(Hm.out _ Hb.out).mono ?_;rintro e w4 ⟨v',rfl,VU,hb4⟩;have df:=aH aZ.out (aH Hb.out hb4);obtain⟨Ho4,fB⟩:=aI VU df;clear LC EW VU df hb4;go_wp2;go_roundw;case rel=>exact⟨k+1,v',by omega,by go_num,rfl,Ho4.out,fB.out⟩
    case measure=>simp[intOf];omega
  . obtain rfl:k=L:=by omega
    obtain⟨av,cv,rfl,_,_⟩:=eH ho;have Hx:=af (Hw.out.below fN);have Hb:Hid (Bw w wr):=fN;obtain⟨dW,aZ,Hr⟩:=cG ho pb (lU.out.below pb);have bB:=JW.out;clear ho pb fN;obtain⟨x0,x1⟩:=Hx.out.w2;obtain⟨r0,ag,r1,ah⟩:=Hr.out.g2;have adm:Hid (bO w1 b o [.int .i64 (V:Int),.slice a0 n0 c0]):=Hw.out.below eK.out;go_wp2_with fail;refine(gm.out w1 _ _ eK.out aZ.out dW.out).mono ?_;rintro e w6 ⟨a2,d2,rfl,fQ,ae⟩;clear x0 x1 r0 ag r1 ah;replace Hx:=af (adm.out.below ae);replace Hr:=af (lU.out.below ae);obtain⟨x0,x1⟩:=Hx.out.w2;obtain⟨r0,ag,r1,ah⟩:=Hr.out.g2;replace Hb:=af (aH eK.out ae);clear ae;go_wp2;refine Bl (Hr.out) fQ Hb.out zo ?_;intro w9 qj mB jO;obtain⟨q0,q1⟩:=qj.c2;exact bodyPost_ret (v:=.tuple #[.agg #[.int .i64 (V:Int),.slice a2 C.length d2],.int .i64 0]) (by simp[results,Tryz.results101,go_sem,q0,q1]) rfl ⟨_,_,rfl,Ii mB,jO⟩
end Go.Proofs.YtoopepmmepmfnaaGreatDoor
