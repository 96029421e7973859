/- Package poly: Scale. -/
import Derived.Test.YtoopepmmepmfnaaGreatDoorZ14
import Derived.Test.YtoopepmmepmfnaaGreatDoorZ21
set_option linter.unusedVariables false
set_option linter.unusedSimpArgs false
set_option maxRecDepth 100000
set_option maxHeartbeats 16000000
namespace Go.Proofs.YtoopepmmepmfnaaGreatDoor
open Go.RowKit
attribute [local go_sem ↓] Go.wp_at_zero Go.wp_at_succ
theorem ait {l:List UInt8}{V:Nat}(h:fP l (V:Int)=true):l.length=V:=by unfold fP at h;rw[Bool.and_eq_true]at h;have:=h.2;simp at this;omega
def jl (V B:Nat)(ts:List aI):Prop:=Jr V ts/\∀t∈ts,Fit B t.2
theorem jl.chk {V B:Nat}{ts:List aI}(h:jl V B ts):∀t∈ts,t.1.length<=9223372036854775807/\Ok t.2:=λt ht=>⟨by have:=ait (h.1.2.1 t ht);have:=h.1.2.2.2;omega,(h.2 t ht).1⟩
theorem Xw (V:Nat)(a:Option Addr)(cap:Nat)(ts:List aI)(s:Bool)(m:List UInt8)(e:Int)(D:Dyadic)(B:Nat)(w:World)(hp:jl V B ts)(ha:cN w a cap ts)(hf:Fit B (s,m,e))(hB:2*B+8192<=268435456)(hT:au w)(hD:ar (s,m,e)=D):
 Calls Tryz.prog 100 #[.agg #[.int .i64 (V:Int),.slice a ts.length cap],.agg #[.bool s,.string (bs m),.int .i64 e]] w λex w'=>∃a' c',ex=.returned (.tuple #[.agg #[.int .i64 (V:Int),.slice a' (bT (eZ D ts)).length c'],.int .i64 0])/\cN w' a' c' (bT (eZ D ts))/\Bw w w':=by
 obtain⟨n,hn⟩:=az ts.length;have hnl:n<=4096:=by have:=hp.1.2.2.1;omega
 have hV:V<=12:=hp.1.2.2.2;obtain⟨C,hC⟩:=az (bT (eZ D ts));have jO:(eZ D ts).length=n:=by unfold eZ;rw[List.length_map,hn]
 have Ta:∀t∈eZ D ts,Fit (2*B) t.2:=by intro t ht;unfold eZ at ht;obtain⟨x,hx,rfl⟩:=List.mem_map.1 ht;refine Sm.fit ?_ zo;have:=Sm.mul (hp.2 x hx).2 hf.2;rw[hD]at this;exact this.mono zo
 have di:=λW (hW:Bw w W)=>Xd (V:Int) a cap n ts W hn zo (ha.1.below hW) hp.chk (hT.below hW);rw[Xe hp.1]at di;have hs:=ha.2.1;rw[hn]at hs;have hcn:=λW (hW:Bw w W)=>(QZ a n cap ts W hn zo hs (ha.1.below hW)).mono (λe w' h=>(match h with|⟨v,h1,h2,h3⟩=>⟨v,h1,h2,h3,h3⟩:∃v',e=.returned v'/\w'.ownsRow W.heap.size 93 4 v' n (ts.flatMap aM)/\Bw W w'/\Bw W w'));have hcl:=λw0 W v (hw0:Bw w w0) (hb0:Bw w0 W) (ho:W.ownsRow w0.heap.size 93 4 v n ((eZ D ts).flatMap aM))=>JK (V:Int) v n (eZ D ts) C (2*B) w0 W hb0 jO hnl ho Ta zo (hT.below hw0) hC;have fX:=hp.2;rw[hn,hC];obtain⟨iI,rh,fR,pI,HT,Hn,Hfc,HD⟩:=mB di hcn hcl fX hT hn hf hD;clear di hcn hcl fX hT hn hf hD hC jO Ta hs ha hp;have Hb:Hid (Bw w w):=Below.refl _ _;go_enter Tryz.func100,Tryz.ntmps100;go_wp2_with fail;obtain⟨R,hR⟩:∃R:World->Prop,(λW=>ag W (w.heap.size) 91 [.int .i64 (V:Int),.slice a n cap]/\ag W (w.heap.size+1) 39 [.bool s,.string (bs m),.int .i64 e]/\ag W (w.heap.size+1+1) 91 [.int .i64 0,.slice none 0 0]/\Bw w W)=R:=⟨_,rfl⟩;first|refine bB R ?hR ?_|refine bz R ?hR ?_
 case hR=>subst hR;exact⟨(((ag.newAt w _ _ (b:=w.heap.size) rfl).alloc _).alloc _),((ag.newAt (w.alloc _) _ _ (b:=w.heap.size+1) zm).alloc _),(ag.newAt ((w.alloc _).alloc _) _ _ (b:=w.heap.size+1+1) zm),((zl.alloc zj _).alloc zj _)⟩
 subst hR;rintro W ⟨qp,qc,qr,ae⟩;have Hp:=af qp;clear qp;have Hc:=af qc;clear qc;have Hr:=af qr;clear qr;obtain⟨p0,p1⟩:=Hp.out.c2;obtain⟨c0,c1,c2⟩:=Hc.out.c3;obtain⟨r0,ah,r1,ai⟩:=Hr.out.g2;replace Hb:=ak Hb ae;clear ae;go_wp2_with fail;refine(iI.out _ Hb.out).mono ?_;rintro e w1 ⟨rfl,ae⟩;clear p0 p1 c0 c1 c2 r0 ah r1 ai;replace Hp:=kB Hp ae;replace Hc:=kB Hc ae;replace Hr:=kB Hr ae;obtain⟨p0,p1⟩:=Hp.out.c2;obtain⟨c0,c1,c2⟩:=Hc.out.c3;obtain⟨r0,ah,r1,ai⟩:=Hr.out.g2;replace Hb:=ak Hb ae;clear ae;have IL:=Hp;have GP:=Hc;have kX:=Hr;have eu:=Hb;go_wp2_with fail;refine(rh.out _ Hb.out).mono ?_;rintro e w2 ⟨v1,rfl,fu,tO,ae⟩;clear p0 p1 c0 c1 c2 r0 ah r1 ai;replace Hp:=kB Hp ae;replace Hc:=kB Hc ae;replace Hr:=kB Hr ae;obtain⟨p0,p1⟩:=Hp.out.c2;obtain⟨c0,c1,c2⟩:=Hc.out.c3;obtain⟨r0,ah,r1,ai⟩:=Hr.out.g2;replace Hb:=ak Hb ae;clear ae;obtain⟨a1,d1,rfl,_,_⟩:=eI fu;obtain⟨zN,OU⟩:=aJ fu tO;clear fu tO;go_wp2_with fail;go_loopw[20] (λx wr=>∃(k:Nat) (C:List aI),k<=n/\x=.int .i64 (k:Int)/\C.length=n/\C.take k=(eZ D ts).take k/\C.drop k=ts.drop k/\wr.ownsRow w1.heap.size 93 4 (.slice a1 n d1) n (C.flatMap aM)/\Bw w1 wr) (λx _=>n-(intOf x).toNat);case atStart=>exact⟨0,ts,Nat.zero_le _,rfl,Hn.out,rfl,rfl,zN.out,OU.out⟩
 case round=>
  clear p0 p1 c0 c1 c2 r0 ah r1 ai zN OU Hp Hc Hr Hb;obtain⟨k,C',hk,rfl,hC,htk,hdr,hov,pb⟩:=hrel;obtain⟨Hp,Hc,Hr⟩:=cP (IL.out.below pb) (GP.out.below pb) (kX.out.below pb);have ft:=aG eu.out pb;have sN:=eu.out.size;by_cases hlt:k<n
  . obtain⟨g,cc,he,hg1,hg2,hg3⟩:=yC hov zo;simp only[Value.slice.injEq,true_and]at he;obtain⟨rfl,rfl⟩:=he;have rU:k<C'.length:=by omega
    have vL:k<ts.length:=by have:=Hn.out;omega
    have hel:=Ry hdr rU vL;obtain⟨l,s1,q1,e1,hx⟩:∃l s m e,C'[k]=(l,s,m,e):=⟨_,_,_,_,rfl⟩;have pY:=pI.out _ (List.getElem_mem vL);rw[<-hel,hx]at pY;obtain⟨X,hX⟩:=az (ar (s1,q1,e1) *D);have jV:=Wy (λx=>(x.1,canon (ar x.2*D))) ts C' k rU (by rw[hC,Hn.out]) htk hel;have AV:(C'[k].1,canon (ar C'[k].2*D))=(l,canon X):=by rw[hx,<-hX]
    have Vk:(C'.set k (l,canon X)).take (k+1)=(eZ D ts).take (k+1):=by rw[<-AV];exact jV
    have jb:C'[k].1=l:=by rw[hx]
    obtain⟨_,y1,y2,y3⟩:=(FH hov k rU hx).w4;have hd2:C'.drop (k+1)=ts.drop (k+1):=by rw[<-List.drop_drop,<-List.drop_drop,hdr]
    have aX:=qj n d1 k (k:Int) (rfl:(some ⟨g,0,none⟩:Option Addr)=_) hlt rfl;rw[Nat.zero_add]at aX;have Hz:Hid (bg wr g (k*4+1) [.bool s1,.string (bs q1),.int .i64 e1]):=nU y1 y2 y3;have HX:Hid (ar (s1,q1,e1) *ar (s,m,e)=X):=by show _=_;rw[HD.out];exact hX
    obtain⟨dL,aR,zU,xf,HC,GW,zG,uO⟩:=mB hov pb Vk hd2 hC jb pY (HT.out.below ft);have lM:=pb.size;clear hov pb jV Vk hd2 hC htk hdr hel hx hX AV jb pY vL y1 y2 y3 ft IL GP kX Hp Hr;have Hb:Hid (Bw wr wr):=Below.refl _ _;go_wp2_with fail;obtain⟨c0,c1,c2⟩:=Hc.out.c3;obtain⟨z0,z1,z2⟩:=Hz.out.w3;have HU:Hid (au wr):=uO.out;refine cf (λw'=>w'.cell? ⟨w.heap.size+1,0,none⟩=some (.bool s)/\w'.cell? ⟨w.heap.size+1,1,none⟩=some (.string (bs m))/\w'.cell? ⟨w.heap.size+1,2,none⟩=some (.int .i64 e)/\w'.cell? ⟨g,k*4+1,none⟩=some (.bool s1)/\w'.cell? ⟨g,k*4+1+1,none⟩=some (.string (bs q1))/\w'.cell? ⟨g,k*4+1+2,none⟩=some (.int .i64 e1)) (λi=>Nat.blt i 12) [(0,true),(1,true),(2,true),(3,true),(4,true),(5,true),(6,true),(7,true),(8,false),(9,false),(10,true),(11,true),(12,false)] zk zk rfl zk zc ⟨c0,c1,c2,z0,z1,z2⟩ ?_;iterate 8 (refine pT rfl rfl ?_ (by intro w' ⟨q0,q1,q2,q3,q4,q5⟩;go_simp;try with_reducible rfl);try simp only[UU])
    refine aF rfl rfl (λK hK=>?_);go_simp;refine hK _ _ (λ_=>⟨aH c0,aH c1,aH c2,aH z0,aH z1,aH z2⟩) ?_;clear hK K;try simp only[UU]
    refine cj (λW4=>ag W4 (wr.heap.size) 39 [.bool s1,.string (bs q1),.int .i64 e1,.bool s,.string (bs m),.int .i64 e]/\Bw wr W4) (by first|exact fy|exact fA) ?_;rintro W4 ⟨qv,ae⟩;clear c0 c1 c2 z0 z1 z2;have ah9:=Hc.out.lt;replace Hc:=kB Hc ae;replace Hz:=kW Hz ae;replace HU:=kT HU ae;have Hv:=af qv;clear qv;obtain⟨c0,c1,c2⟩:=Hc.out.c3;obtain⟨z0,z1,z2⟩:=Hz.out.w3;obtain⟨v0,v1,v2,v3,v4,v5⟩:=Hv.out.c6;replace Hb:=ak Hb ae;clear ae;refine aF rfl rfl (λK hK=>?_);go_simp;with_reducible refine(tG s1 q1 e1 s m e X B HX.out wr.heap.size _ 39 _ zG.out Hfc.out zo Hv.out (by first|exact HU.out|exact au.drew HU.out|exact au.alloc HU.out _|exact au.drew (au.alloc HU.out _) |exact au.alloc (au.drew HU.out) _)).mono ?_
    rintro e w5 ⟨rfl,hq⟩;have ae:Bw W4 w5:=by first|exact hq|exact aK hq
    clear c0 c1 c2 z0 z1 z2 v0 v1 v2 v3 v4 v5;replace Hc:=kB Hc ae;replace Hz:=kW Hz ae;replace HU:=kT HU ae;replace Hv:=kB Hv ae;obtain⟨c0,c1,c2⟩:=Hc.out.c3;obtain⟨z0,z1,z2⟩:=Hz.out.w3;obtain⟨v0,v1,v2,v3,v4,v5⟩:=Hv.out.c6;replace Hb:=ak Hb ae;clear ae;refine hK _ _ (λ_=>⟨c0,c1,c2,z0,z1,z2⟩) ?_;clear hK K;try simp only[UU]
    iterate 2 (refine pT rfl rfl ?_;try simp only[UU])
    refine aF rfl rfl (λK hK=>?_);have gD:=ownsRow_below dL.out Hb.out;have lW:=nP gD (k*4+1);have Kp:=nP gD (k*4+1+1);have RS:=nP gD (k*4+1+2);have cW:=aG aR.out Hb.out;obtain⟨uW,fQ⟩:=aJ gD cW;clear gD cW;go_simp;refine hK _ _ (λh=>absurd h zd) ?_;clear hK K;try simp only[UU]
    simp only[aN];go_wp2;refine⟨⟨k+1,C'.set k (l,canon X),by omega,by go_num,by rw[List.length_set];exact HC.out,zU.out,by rw[JZ _ _ _ _ zo];exact xf.out,?_,?_⟩,by simp[intOf];omega⟩
    . have h:=WY uW.out k rU (aj (dN X)) (nt (dN X).natAbs) (dE X);rw[GW.out]at h;exact h
    . exact((fQ.out.setCell hg1 _).setCell hg1 _).setCell hg1 _
  . obtain rfl:k=n:=by omega
    have Av:C'=eZ D ts:=by rw[List.take_of_length_le zo,List.take_of_length_le (by unfold eZ;rw[List.length_map];have:=Hn.out;omega)]at htk;exact htk
    rw[Av]at hov;obtain⟨dL,aR⟩:=aJ hov pb;have Hb:Hid (Bw w wr):=ft;clear hov pb htk hdr hC Av ft;obtain⟨p0,p1⟩:=Hp.out.c2;obtain⟨r0,ah,r1,ai⟩:=Hr.out.g2;go_wp2_with fail;refine(fR.out w1 _ _ eu.out aR.out dL.out).mono ?_;rintro e w6 ⟨a2,d2,rfl,fw,ae⟩;clear p0 p1 r0 ah r1 ai;replace Hp:=af (IL.out.below ae);replace Hr:=af (kX.out.below ae);obtain⟨p0,p1⟩:=Hp.out.c2;obtain⟨r0,ah,r1,ai⟩:=Hr.out.g2;replace Hb:=af (aG eu.out ae);clear ae;go_wp2;refine Af (Hr.out) fw Hb.out zo ?_;intro w9 pg lF jx;obtain⟨q0,q1⟩:=pg.c2;exact bodyPost_ret (v:=.tuple #[.agg #[.int .i64 (V:Int),.slice a2 C.length d2],.int .i64 0]) (by simp[results,Tryz.results100,go_sem,q0,q1]) rfl ⟨_,_,rfl,FD lF,jx⟩
def gw (w:World)(V B:Nat)(ps:List Pv)(Ts:Nat->List aI):Prop:=∀k (h:k<ps.length),∃a c,ps[k]=⟨(V:Int),a,(Ts k).length,c⟩/\cN w a c (Ts k)/\jl V B (Ts k)
theorem gw.below {w w':World}{V B:Nat}{ps:List Pv}{Ts:Nat->List aI}(h:gw w V B ps Ts)(hb:Bw w w'):gw w' V B ps Ts:=λk hk=>by obtain⟨a,c,h1,h2,h3⟩:=h k hk;exact⟨a,c,h1,h2.below hb,h3⟩
theorem below_drewN {n:Nat}{w w':World}(h:Below n w w')(k:Nat):Below n w (w'.drewN k):=by
 induction k with
 |zero=>exact h
 |succ k ih=>exact ih.drew
theorem ahD (V V':Int)(aT:Option Addr)(nT cT:Nat)(bl:Nat)(b o L cap:Nat)(q:Value)(w:World)(hc:w.cell? ⟨bl,0,none⟩=some (.slice (some ⟨b,o,none⟩) L cap))(hL:0<L)(hw:bg w b o [.int .i64 V,q]):
 Calls Tryz.prog 192 #[.agg #[.int .i64 V',.slice aT nT cT],.pointer (some ⟨bl,0,none⟩)] w λex w'=>ex=.returned (.bool (V' !=V))/\Bw w w':=by
 have aX:=vX L cap 0 0 (rfl:(some ⟨b,o,none⟩:Option Addr)=_) hL rfl;rw[Nat.zero_mul,Nat.add_zero]at aX;have h0:w.cell? ⟨b,o,none⟩=some (.int .i64 V):=by have:=hw.w2.1;exact this
 obtain⟨Hc,H0⟩:=aJ hc h0;clear hc h0 hw;obtain⟨W,cL,Hb,Hx⟩:=gX w 91 [.int .i64 V',.slice aT nT cT];obtain⟨x0,x1⟩:=Hx.out.c2;have k1:=cell_later Hb.out Hc.out;have k2:=cell_later Hb.out H0.out;go_enter Tryz.func192,Tryz.ntmps192;go_wp2_with fail;go_quiet (fail)
 go_wp2;refine bodyPost_ret (results_tmp rfl _ _ _) rfl ⟨rfl,(below_drewN Hb.out _)⟩
theorem ahE (V B:Nat)(b o L cap:Nat)(ps:List Pv)(Ts:Nat->List aI)(w:World)(hL:ps.length=L)(Eg:0<L)(vC:L<=65536)(ha:At w (some ⟨b,o,none⟩) (ps.flatMap ji))(hp:gw w V B ps Ts)(hT:au w):
 Calls Tryz.prog 153 #[.slice (some ⟨b,o,none⟩) L cap] w λe w'=>e=.returned (.int .i64 0)/\Bw w w':=by
 have eg:∀args w,(callFunc 192 args).run Tryz.prog w=.ok (.enter 192 args) w:=enters_of Tryz.func192 zk rfl;have hct:∀W bl,Bw w W->W.cell? ⟨bl,0,none⟩=some (.slice (some ⟨b,o,none⟩) L cap)->Calls Tryz.prog 191 #[.slice (some ⟨b,o,none⟩) L cap,.func (.func 192) #[] #[.pointer (some ⟨bl,0,none⟩)]] W λe w'=>e=.returned (.bool false)/\Bw W w':=by
  intro W bl hW hc;obtain⟨a0,c0,e0,_,_⟩:=hp 0 zo;obtain⟨b',o',hab,dZ⟩:=(ha.below hW).aqH 0 zo e0;simp only[Option.some.injEq,Addr.mk.injEq,and_true]at hab;obtain⟨rfl,rfl⟩:=hab;rw[Nat.zero_mul,Nat.add_zero]at dZ;have h:=aee (some ⟨b,o,none⟩) L cap ps 192 #[.pointer (some ⟨bl,0,none⟩)] (λp=>p.V !=(V:Int)) W hL zo (ha.below hW) eg (λx hx W2 hW2=>by simpa using ahD (V:Int) x.V x.a x.n x.c bl b o L cap _ W2 (cell_later hW2 hc) Eg (dZ.below hW2));have hf:(ps.any λp=>p.V !=(V:Int))=false:=by rw[List.any_eq_false];intro p EO;obtain⟨k,hk,rfl⟩:=List.mem_iff_getElem.1 EO;obtain⟨a,c,e1,_,_⟩:=hp k hk;rw[e1];simp
  rwa [hf]at h
 have di:=λW (hW:Bw w W) k (hk:k<ps.length)=>(show ∃a c,ps[k]=⟨(V:Int),a,(Ts k).length,c⟩/\Calls Tryz.prog 150 #[.agg #[.int .i64 (V:Int),.slice a (Ts k).length c]] W λe w'=>e=.returned (.int .i64 0)/\Bw W w' from by
  obtain⟨a,c,e1,h1,h2⟩:=hp k hk;refine⟨a,c,e1,?_⟩;have h:=Xd (V:Int) a c (Ts k).length (Ts k) W rfl (by have:=h2.1.2.2.1;omega) (h1.1.below hW) h2.chk (hT.below hW)
  rwa [Xe h2.1]at h)
 obtain⟨GU,iI,Ha,HL⟩:=dt hct di ha hL;clear hct di ha hL hp hT eg;have hLn:((L:Int)==0)=false:=by simp;omega
 have Hb:Hid (Bw w w):=Below.refl _ _;go_enter Tryz.func153,Tryz.ntmps153;go_wp2_with fail;obtain⟨R,hR⟩:∃R:World->Prop,(λW=>ag W (w.heap.size) 80 [.slice (some ⟨b,o,none⟩) L cap]/\Bw w W)=R:=⟨_,rfl⟩;first|refine bB R ?hR ?_|refine bz R ?hR ?_
 case hR=>subst hR;exact⟨(ag.newAt w _ _ (b:=w.heap.size) rfl),zl⟩
 subst hR;rintro W ⟨ql,ae⟩;have Hl:=af ql;clear ql;have l0:=Hl.out.c1;replace Hb:=ak Hb ae;clear ae;go_loopw[8] (λx wr=>∃k:Nat,k<=L/\x=.int .i64 (k:Int)/\Bw W wr) (λx _=>L-(intOf x).toNat);case atStart=>exact⟨0,Nat.zero_le _,rfl,Below.refl _ _⟩
 case round=>
  clear l0;obtain⟨k,hk,rfl,pb⟩:=hrel;obtain⟨ft,hl,aR⟩:=cP (aG Hb.out pb) (Hl.out.below pb) pb;clear pb Hb Hl;by_cases hlt:k<L
  . have hk2:k<ps.length:=by rw[HL.out];exact hlt
    obtain⟨a1,c1,e1,hcall⟩:=iI.out wr ft.out k hk2;obtain⟨b',o',hab,dZ⟩:=(Ha.out.below ft.out).aqH k hk2 e1;obtain⟨rfl,rfl⟩:b=b'/\o=o':=by simp at hab;exact hab
    have hcall:=λW (hW:Bw w W)=>(iI.out W hW k hk2);have aX:=vX L cap k (k:Int) (rfl:(some ⟨b,o,none⟩:Option Addr)=_) hlt rfl;obtain⟨nT,vS⟩:=az ((Ts k).length);have agi:Hid (∀W,Bw w W->Calls Tryz.prog 150 #[.agg #[.int .i64 (V:Int),.slice a1 nT c1]] W λe w'=>e=.returned (.int .i64 0)/\Bw W w'):=by intro W hW;obtain⟨a2,c2,e2,h2⟩:=hcall W hW;rw[e1]at e2;simp only[Pv.mk.injEq,true_and]at e2;obtain⟨rfl,rfl⟩:=e2;rw[vS]at h2;exact h2
    rw[vS]at dZ;have Hx:Hid (bg wr b (o+k*2) [.int .i64 (V:Int),.slice a1 nT c1]):=dZ;clear dZ hcall hab e1 vS;have Hb:Hid (Bw wr wr):=Below.refl _ _;obtain⟨x0,x1⟩:=Hx.out.w2;have P0:=x0;have P1:=x1;obtain⟨W3,KV,ae,Hv⟩:=bH wr 91 [.int .i64 (V:Int),.slice a1 nT c1];clear x0 x1;replace Hx:=kW Hx ae;obtain⟨x0,x1⟩:=Hx.out.w2;obtain⟨v0,v1⟩:=Hv.out.c2;replace Hb:=ak Hb ae;clear ae;go_wp2_with fail;refine(agi.out _ (aG ft.out Hb.out)).mono ?_;rintro e w4 ⟨rfl,ae⟩;clear x0 x1 v0 v1;replace Hx:=kW Hx ae;replace Hv:=kB Hv ae;obtain⟨x0,x1⟩:=Hx.out.w2;obtain⟨v0,v1⟩:=Hv.out.c2;replace Hb:=ak Hb ae;clear ae;go_wp2;go_roundw;case rel=>exact⟨k+1,by omega,by go_num,aG aR.out Hb.out⟩
    case measure=>simp[intOf];omega
  . obtain rfl:k=L:=by omega
    have Hb:=ft;have Hl:=hl;have l0:=Hl.out.c1;go_wp2_with fail;refine(GU.out _ _ Hb.out l0).mono ?_;rintro e w6 ⟨rfl,ae⟩;clear l0;replace Hl:=kB Hl ae;have l0:=Hl.out.c1;replace Hb:=ak Hb ae;clear ae;go_wp2;go_ret;exact⟨rfl,Hb.out⟩
def gM (Ts:Nat->List aI):Nat->List aI
 |0=>[]
 |k+1=>fx (gM Ts k) (Ts k)
def kx (Ts:Nat->List aI):Nat->List aI
 |0=>[]
 |k+1=>kx Ts k++Ts k
theorem ad5 (Ts:Nat->List aI)(k:Nat)(m:List UInt8):cd (gM Ts k) m=cd (kx Ts k) m:=by
 induction k with
 |zero=>rfl
 |succ k ih=>unfold gM kx;rw[Rb,xJ,ih]
theorem WH (Ts:Nat->List aI)(k:Nat):(gM Ts k).length<=(kx Ts k).length:=by
 induction k with
 |zero=>exact Nat.le_refl _
 |succ k ih=>unfold gM kx;have:=WG (gM Ts k) (Ts k);rw[List.length_append];omega
theorem QT (Ts:Nat->List aI)(j k:Nat)(h:j<=k):(kx Ts j).length<=(kx Ts k).length:=by
 induction k with
 | zero => obtain rfl:j=0:=by omega
           exact Nat.le_refl _
 | succ k ih=>
   by_cases e:j=k+1
   . subst e;exact Nat.le_refl _
   . have:=ih zo;rw[show kx Ts (k+1)=kx Ts k++Ts k from rfl,List.length_append];omega
theorem aiG {B:Nat}(Ts:Nat->List aI)(k:Nat)(h:∀j,j<k->∀t∈Ts j,Fit B t.2)(hB:B+k<=268435456):∀t∈gM Ts k,Fit (B+k) t.2:=by
 induction k with
 |zero=>intro t ht;cases ht
 |succ k ih=>unfold gM;have:=WF (B:=B+k) (gM Ts k) (Ts k) (ih (λj hj=>h j zo) zo) (λt ht=>(h k zo t ht).mono zo) zo;exact this
theorem acx (V B:Nat)(b o L cap:Nat)(ps:List Pv)(Ts:Nat->List aI)(C:List aI)(w:World)(hL:ps.length=L)(Eg:0<L)(vC:L<=65536)(ha:At w (some ⟨b,o,none⟩) (ps.flatMap ji))(hp:gw w V B ps Ts)(hn:(kx Ts L).length<=4096)(hB:B+L+8192<=268435456)(hT:au w)(hC:bT (kx Ts L)=C):
 Calls Tryz.prog 101 #[.slice (some ⟨b,o,none⟩) L cap] w λex w'=>∃a' c',ex=.returned (.tuple #[.agg #[.int .i64 (V:Int),.slice a' C.length c'],.int .i64 0])/\cN w' a' c' C/\Bw w w':=by
 have Aq:=enters_of Tryz.func155 zk rfl;have Ap:=enters_of Tryz.func156 zk rfl;have hlk:=λW (hW:Bw w W)=>ahE V B b o L cap ps Ts W hL Eg vC (ha.below hW) (hp.below hW) (hT.below hW);have Si:bT (gM Ts L)=C:=by rw[<-hC];exact xI (ad5 Ts L)
 have Bq:(gM Ts L).length<=4096:=Nat.le_trans (WH Ts L) hn;have Ls:∀j,j<L->∀t∈Ts j,Fit B t.2:=λj hj=>by obtain⟨a,c,_,_,h⟩:=hp j zo;exact h.2
 have Bo:=λk (hk:k<=L)=>aiG (B:=B) Ts k (λj hj=>Ls j zo) zo;have hcl:=λw0 W v (hw0:Bw w w0) (hb0:Bw w0 W) (ho:W.ownsRow w0.heap.size 93 4 v (gM Ts L).length ((gM Ts L).flatMap aM))=>JK (V:Int) v _ (gM Ts L) C (B+L) w0 W hb0 rfl Bq ho (Bo L (Nat.le_refl _)) zo (hT.below hw0) Si;obtain⟨a0,c0,e0,_,_⟩:=hp 0 zo;obtain⟨b',o',hab,dZ⟩:=ha.aqH 0 zo e0;obtain⟨rfl,rfl⟩:b=b'/\o=o':=by simp at hab;exact hab
 rw[Nat.zero_mul,Nat.add_zero]at dZ;have nC:=vX L cap 0 0 (rfl:(some ⟨b,o,none⟩:Option Addr)=_) Eg rfl;rw[Nat.zero_mul,Nat.add_zero]at nC;obtain⟨n0,hn0⟩:=az ((Ts 0).length);rw[hn0]at dZ;have hlb:b<w.heap.size:=World.block_lt_of_cell? w _ dZ.w2.1;obtain⟨Hlk,fR,Hmf,Hp,Ha,HT,HL,Ie,Ic,HfT,Hw,Ix⟩:=iR hlk hcl Bo hp ha hT hL Aq Ap Ls dZ nC
 have lT:Hid (∀k,k<L->(gM Ts k).length<=4096/\(Ts k).length<=4096):=λk hk=>⟨Nat.le_trans (Nat.le_trans (WH Ts k) (QT Ts k L zo)) hn,by
  have h1:=QT Ts (k+1) L zo
  rw[show kx Ts (k+1)=kx Ts k++Ts k from rfl,List.length_append]at h1;omega⟩
 clear hlk hcl Bo hp ha hT hL Aq Ap Ls dZ nC hC Si hn Bq hab e0 hn0;have Hb:Hid (Bw w w):=Below.refl _ _;go_enter Tryz.func101,Tryz.ntmps101;go_wp2_with fail;obtain⟨R,hR⟩:∃R:World->Prop,(λW=>ag W (w.heap.size) 91 [.int .i64 0,.slice none 0 0]/\Bw w W)=R:=⟨_,rfl⟩;first|refine bB R ?hR ?_|refine bz R ?hR ?_
 case hR=>subst hR;exact⟨(ag.newAt w _ _ (b:=w.heap.size) rfl),zl⟩
 subst hR;rintro W ⟨qr,ae⟩;have Hr:=af qr;clear qr;obtain⟨r0,ah,r1,ai⟩:=Hr.out.g2;replace Hb:=ak Hb ae;clear ae;go_wp2_with fail;refine(Hlk.out _ Hb.out).mono ?_;rintro e w1 ⟨rfl,ae⟩;clear r0 ah r1 ai;replace Hr:=kB Hr ae;obtain⟨r0,ah,r1,ai⟩:=Hr.out.g2;replace Hb:=ak Hb ae;clear ae;have kX:=Hr;have eu:=Hb;go_wp2_with fail;go_loopw[5,16] (λs5 x wr=>∃(k:Nat) (v:Value),k<=L/\x=.int .i64 (k:Int)/\v=s5/\wr.ownsRow w1.heap.size 93 4 v (gM Ts k).length ((gM Ts k).flatMap aM)/\Bw w1 wr) (λ_ x _=>L-(intOf x).toNat);case atStart=>exact⟨0,_,Nat.zero_le _,rfl,rfl,World.ownsRow_nil _ _ _ _,Below.refl _ _⟩
 case round=>
  clear r0 ah r1 ai Hr Hb;obtain⟨k,v,hk,rfl,rfl,ho,pb⟩:=hrel;have ft:=aG eu.out pb;have sN:=eu.out.size;have lM:=pb.size;by_cases hlt:k<L
  . have hk2:k<ps.length:=by rw[HL.out];exact hlt
    obtain⟨a1,c1,e1,hpl,hft⟩:=Hp.out k hk2;obtain⟨b',o',hab,dZ⟩:=(Ha.out.below ft).aqH k hk2 e1;obtain⟨rfl,rfl⟩:b=b'/\o=o':=by simp at hab;exact hab
    have aX:=vX L cap k (k:Int) (rfl:(some ⟨b,o,none⟩:Option Addr)=_) hlt rfl;obtain⟨av,cv,rfl,Tq,_⟩:=eI ho;have Vr:=wD ho;have Be:=lT.out k hlt;have TV:=Hmf.out k zo;have jy:=HfT.out k hlt;have hsk:=hpl.2.1;have Hm:Hid (∀W,Bw wr W->Calls Tryz.prog 154 #[.slice av (gM Ts k).length cv,.slice a1 (Ts k).length c1,.func (.func 155) #[] #[],.func (.func 156) #[] #[]] W λe w'=>∃v',e=.returned v'/\w'.ownsRow w1.heap.size 93 4 v' (gM Ts (k+1)).length ((gM Ts (k+1)).flatMap aM)/\Bw W w'):=by intro W hW;refine(WA av _ cv (gM Ts k) a1 _ c1 (Ts k) (B+L) W rfl rfl Vr hsk zo zo (Tq.below hW) (hpl.1.below (aG ft hW)) (λt ht=>(TV t ht).mono zo) (λt ht=>(jy t ht).mono zo) zo (HT.out.below (aG ft hW))).mono ?_;rintro e w' ⟨v',rfl,h1,h2⟩;exact⟨v',rfl,wE h1 (by have:=hW.size;omega),h2⟩
    obtain⟨nv,kF⟩:=az ((gM Ts k).length);obtain⟨nT,vS⟩:=az ((Ts k).length);rw[kF,vS]at Hm;rw[vS]at dZ;have Hx:Hid (bg wr b (o+k*2) [.int .i64 (V:Int),.slice a1 nT c1]):=dZ;have aR:=af pb;rw[kF];clear dZ hab e1 vS kF hpl hft ho Tq Vr Be TV jy hsk pb ft;have Hb:Hid (Bw wr wr):=Below.refl _ _;obtain⟨x0,x1⟩:=Hx.out.w2;have P0:=x0;have P1:=x1;obtain⟨W3,KV,ae,Hv⟩:=bH wr 91 [.int .i64 (V:Int),.slice a1 nT c1];clear x0 x1;replace Hx:=kW Hx ae;obtain⟨x0,x1⟩:=Hx.out.w2;obtain⟨v0,v1⟩:=Hv.out.c2;replace Hb:=ak Hb ae;clear ae;have Kg:=Ie.out;have DN:=Ic.out;go_wp2_with fail;refine(Hm.out _ Hb.out).mono ?_;rintro e w4 ⟨v',rfl,UH,hb4⟩;have cW:=aG aR.out (aG Hb.out hb4);obtain⟨Ho4,fQ⟩:=aJ UH cW;clear Kg DN UH cW hb4;go_wp2;go_roundw;case rel=>exact⟨k+1,v',by omega,by go_num,rfl,Ho4.out,fQ.out⟩
    case measure=>simp[intOf];omega
  . obtain rfl:k=L:=by omega
    obtain⟨av,cv,rfl,_,_⟩:=eI ho;have Hx:=af (Hw.out.below ft);have Hb:Hid (Bw w wr):=ft;obtain⟨dL,aR,Hr⟩:=cP ho pb (kX.out.below pb);have aX:=Ix.out;clear ho pb ft;obtain⟨x0,x1⟩:=Hx.out.w2;obtain⟨r0,ah,r1,ai⟩:=Hr.out.g2;have abX:Hid (bg w1 b o [.int .i64 (V:Int),.slice a0 n0 c0]):=Hw.out.below eu.out;go_wp2_with fail;refine(fR.out w1 _ _ eu.out aR.out dL.out).mono ?_;rintro e w6 ⟨a2,d2,rfl,fw,ae⟩;clear x0 x1 r0 ah r1 ai;replace Hx:=af (abX.out.below ae);replace Hr:=af (kX.out.below ae);obtain⟨x0,x1⟩:=Hx.out.w2;obtain⟨r0,ah,r1,ai⟩:=Hr.out.g2;replace Hb:=af (aG eu.out ae);clear ae;go_wp2;refine Af (Hr.out) fw Hb.out zo ?_;intro w9 pg lF jx;obtain⟨q0,q1⟩:=pg.c2;exact bodyPost_ret (v:=.tuple #[.agg #[.int .i64 (V:Int),.slice a2 C.length d2],.int .i64 0]) (by simp[results,Tryz.results101,go_sem,q0,q1]) rfl ⟨_,_,rfl,FD lF,jx⟩
end Go.Proofs.YtoopepmmepmfnaaGreatDoor
