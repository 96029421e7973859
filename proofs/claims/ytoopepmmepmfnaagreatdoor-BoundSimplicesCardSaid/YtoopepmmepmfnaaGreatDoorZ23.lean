/- Package poly: Scale. -/
import Derived.Test.YtoopepmmepmfnaaGreatDoorZ14
import Derived.Test.YtoopepmmepmfnaaGreatDoorZ22
set_option linter.unusedVariables false
set_option linter.unusedSimpArgs false
set_option maxRecDepth 100000
set_option maxHeartbeats 16000000
namespace Go.Proofs.YtoopepmmepmfnaaGreatDoor
open Go.RowKit
attribute [local go_sem ↓] Go.wp_at_zero Go.wp_at_succ
theorem abB {l:List UInt8}{V:Nat}(h:gp l (V:Int)=true):l.length=V:=by unfold gp at h;rw[Bool.and_eq_true]at h;have:=h.2;simp at this;omega
def iH (V B:Nat)(ts:List aM):Prop:=EQ V ts/\∀t∈ts,Fit B t.2
theorem iH.chk {V B:Nat}{ts:List aM}(h:iH V B ts):∀t∈ts,t.1.length<=9223372036854775807/\Ok t.2:=λt ht=>⟨by have:=abB (h.1.2.1 t ht);have:=h.1.2.2.2;omega,(h.2 t ht).1⟩
theorem acE (V:Nat)(a:Option Addr)(cap:Nat)(ts:List aM)(s:Bool)(m:List UInt8)(e:Int)(D:Dyadic)(B:Nat)(w:World)(hp:iH V B ts)(ha:cz w a cap ts)(hf:Fit B (s,m,e))(hB:2*B+8192<=268435456)(hT:aH w)(hD:az (s,m,e)=D):
 Calls Tryz.prog 100 #[.agg #[af (V:Int),.slice a ts.length cap],.agg #[ag s,ah m,af e]] w λex w'=>∃a' c',ex=.returned (.tuple #[.agg #[af (V:Int),.slice a' (bY (eK D ts)).length c'],af 0])/\cz w' a' c' (bY (eK D ts))/\Bw w w':=by
 obtain⟨n,hn⟩:=aG ts.length;have hnl:n<=4096:=by have:=hp.1.2.2.1;omega
 have hV:V<=12:=hp.1.2.2.2;obtain⟨C,hC⟩:=aG (bY (eK D ts));have gT:(eK D ts).length=n:=by unfold eK;rw[List.length_map,hn]
 have FI:∀t∈eK D ts,Fit (2*B) t.2:=by intro t ht;unfold eK at ht;obtain⟨x,hx,rfl⟩:=List.mem_map.1 ht;refine Sm.fit ?_ zo;have:=Sm.mul (hp.2 x hx).2 hf.2;rw[hD]at this;exact this.mono zo
 have dZ:=λW (hW:Bw w W)=>ab9 (V:Int) a cap n ts W hn zo (ha.1.below hW) hp.chk (hT.below hW);rw[aca hp.1]at dZ;have hs:=ha.2.1;rw[hn]at hs;have hcn:=λW (hW:Bw w W)=>(Wu a n cap ts W hn zo hs (ha.1.below hW)).mono (λe w' h=>(match h with|⟨v,h1,h2,h3⟩=>⟨v,h1,h2,h3,h3⟩:∃v',e=.returned v'/\w'.ownsRow W.heap.size 93 4 v' n (ts.flatMap aX)/\Bw W w'/\Bw W w'));have hcl:=λw0 W v (hw0:Bw w w0) (hb0:Bw w0 W) (ho:W.ownsRow w0.heap.size 93 4 v n ((eK D ts).flatMap aX))=>OL (V:Int) v n (eK D ts) C (2*B) w0 W hb0 gT hnl ho FI zo (hT.below hw0) hC;have fH:=hp.2;rw[hn,hC];obtain⟨jd,vd,iI,nz,HT,Hn,Hfc,HD⟩:=nZ dZ hcn hcl fH hT hn hf hD;clear dZ hcn hcl fH hT hn hf hD hC gT FI hs ha hp;have Hb:Hid (Bw w w):=Below.refl _ _;go_enter Tryz.func100,Tryz.ntmps100;go_wp2_with fail;obtain⟨R,hR⟩:∃R:World->Prop,(λW=>ar W (w.heap.size) 91 [af (V:Int),.slice a n cap]/\ar W (w.heap.size+1) 39 [ag s,ah m,af e]/\ar W (w.heap.size+1+1) 91 [af 0,.slice none 0 0]/\Bw w W)=R:=⟨_,rfl⟩;first|refine cf R ?hR ?_|refine bZ R ?hR ?_
 case hR=>subst hR;exact⟨(((ar.newAt w _ _ (b:=w.heap.size) rfl).alloc _).alloc _),((ar.newAt (w.alloc _) _ _ (b:=w.heap.size+1) zm).alloc _),(ar.newAt ((w.alloc _).alloc _) _ _ (b:=w.heap.size+1+1) zm),((zl.alloc zj _).alloc zj _)⟩
 subst hR;rintro W ⟨qp,qc,qr,ae⟩;have Hp:=ai qp;clear qp;have Hc:=ai qc;clear qc;have Hr:=ai qr;clear qr;obtain⟨p0,p1⟩:=Hp.out.c2;obtain⟨c0,c1,c2⟩:=Hc.out.c3;obtain⟨r0,aj,r1,ak⟩:=Hr.out.g2;replace Hb:=aB Hb ae;clear ae;go_wp2_with fail;refine(jd.out _ Hb.out).mono ?_;rintro e w1 ⟨rfl,ae⟩;clear p0 p1 c0 c1 c2 r0 aj r1 ak;obtain⟨Hp,p0,p1⟩:=aR Hp ae;obtain⟨Hc,c0,c1,c2⟩:=aQ Hc ae;obtain⟨Hr,r0,aj,r1,ak⟩:=bE Hr ae;replace Hb:=aB Hb ae;clear ae;have EB:=Hp;have BH:=Hc;have ky:=Hr;have fq:=Hb;go_wp2_with fail;refine(vd.out _ Hb.out).mono ?_;rintro e w2 ⟨v1,rfl,ej,xy,ae⟩;clear p0 p1 c0 c1 c2 r0 aj r1 ak;obtain⟨Hp,p0,p1⟩:=aR Hp ae;obtain⟨Hc,c0,c1,c2⟩:=aQ Hc ae;obtain⟨Hr,r0,aj,r1,ak⟩:=bE Hr ae;replace Hb:=aB Hb ae;clear ae;obtain⟨a1,d1,rfl,_,_⟩:=eo ej;obtain⟨nH,Us⟩:=aO ej xy;clear ej xy;go_wp2_with fail;go_loopw[20] (λx wr=>∃(k:Nat) (C:List aM),k<=n/\x=af (k:Int)/\C.length=n/\C.take k=(eK D ts).take k/\C.drop k=ts.drop k/\wr.ownsRow w1.heap.size 93 4 (.slice a1 n d1) n (C.flatMap aX)/\Bw w1 wr) (λx _=>n-(intOf x).toNat);case atStart=>exact⟨0,ts,Nat.zero_le _,rfl,Hn.out,rfl,rfl,nH.out,Us.out⟩
 case round=>
  clear p0 p1 c0 c1 c2 r0 aj r1 ak nH Us Hp Hc Hr Hb;obtain⟨k,C',hk,rfl,hC,htk,hdr,hov,pb⟩:=hrel;obtain⟨Hp,Hc,Hr⟩:=cL (EB.out.below pb) (BH.out.below pb) (ky.out.below pb);have dY:=aJ fq.out pb;have tW:=fq.out.size;by_cases hlt:k<n
  . obtain⟨g,cc,he,hg1,hg2,hg3⟩:=Dl hov zo;simp only[Value.slice.injEq,true_and]at he;obtain⟨rfl,rfl⟩:=he;have vO:k<C'.length:=by omega
    have Ac:k<ts.length:=by have:=Hn.out;omega
    have hel:=WV hdr vO Ac;obtain⟨l,s1,q1,e1,hx⟩:∃l s m e,C'[k]=(l,s,m,e):=⟨_,_,_,_,rfl⟩;have eJ:=nz.out _ (List.getElem_mem Ac);rw[<-hel,hx]at eJ;obtain⟨X,hX⟩:=aG (az (s1,q1,e1) *D);have jG:=abA (λx=>(x.1,canon (az x.2*D))) ts C' k vO (by rw[hC,Hn.out]) htk hel;have Ga:(C'[k].1,canon (az C'[k].2*D))=(l,canon X):=by rw[hx,<-hX]
    have aap:(C'.set k (l,canon X)).take (k+1)=(eK D ts).take (k+1):=by rw[<-Ga];exact jG
    have lu:C'[k].1=l:=by rw[hx]
    obtain⟨_,y1,y2,y3⟩:=(Ma hov k vO hx).w4;have hd2:C'.drop (k+1)=ts.drop (k+1):=by rw[<-List.drop_drop,<-List.drop_drop,hdr]
    have bK:=kP n d1 k (k:Int) (rfl:(some ⟨g,0,none⟩:Option Addr)=_) hlt rfl;rw[Nat.zero_add]at bK;have Hz:Hid (bH wr g (k*4+1) [ag s1,ah q1,af e1]):=kv y1 y2 y3;have HX:Hid (az (s1,q1,e1) *az (s,m,e)=X):=by show _=_;rw[HD.out];exact hX
    obtain⟨dD,bu,EJ,wO,HC,MU,jW,yE⟩:=nZ hov pb aap hd2 hC lu eJ (HT.out.below dY);have iy:=pb.size;clear hov pb jG aap hd2 hC htk hdr hel hx hX Ga lu eJ Ac y1 y2 y3 dY EB BH ky Hp Hr;have Hb:Hid (Bw wr wr):=Below.refl _ _;go_wp2_with fail;obtain⟨c0,c1,c2⟩:=Hc.out.c3;obtain⟨z0,z1,z2⟩:=Hz.out.w3;have HU:Hid (aH wr):=yE.out;refine bR (λw'=>aC w' (w.heap.size+1) 0 (ag s)/\aC w' (w.heap.size+1) 1 (ah m)/\aC w' (w.heap.size+1) 2 (af e)/\aC w' g (k*4+1) (ag s1)/\aC w' g (k*4+1+1) (ah q1)/\aC w' g (k*4+1+2) (af e1)) (λi=>Nat.blt i 12) [(0,true),(1,true),(2,true),(3,true),(4,true),(5,true),(6,true),(7,true),(8,false),(9,false),(10,true),(11,true),(12,false)] zk zk rfl zk zc ⟨c0,c1,c2,z0,z1,z2⟩ ?_;iterate 8 (refine pT rfl rfl ?_ (by intro w' ⟨q0,q1,q2,q3,q4,q5⟩;go_simp;try with_reducible rfl);try simp only[UU])
    refine aI rfl rfl (λK hK=>?_);go_simp;refine hK _ _ (λ_=>⟨aL c0,aL c1,aL c2,aL z0,aL z1,aL z2⟩) ?_;clear hK K;try simp only[UU]
    refine bV (λW4=>ar W4 (wr.heap.size) 39 [ag s1,ah q1,af e1,ag s,ah m,af e]/\Bw wr W4) (by first|exact fe|exact fg) ?_;rintro W4 ⟨qv,ae⟩;clear c0 c1 c2 z0 z1 z2;have abp:=Hc.out.lt;replace Hc:=kB Hc ae;replace Hz:=kW Hz ae;replace HU:=kT HU ae;have Hv:=ai qv;clear qv;obtain⟨c0,c1,c2⟩:=Hc.out.c3;obtain⟨z0,z1,z2⟩:=Hz.out.w3;obtain⟨v0,v1,v2,v3,v4,v5⟩:=Hv.out.c6;replace Hb:=aB Hb ae;clear ae;refine aI rfl rfl (λK hK=>?_);go_simp;with_reducible refine(xh s1 q1 e1 s m e X B HX.out wr.heap.size _ 39 _ jW.out Hfc.out zo Hv.out (by first|exact HU.out|exact aH.drew HU.out|exact aH.alloc HU.out _|exact aH.drew (aH.alloc HU.out _) |exact aH.alloc (aH.drew HU.out) _)).mono ?_
    rintro e w5 ⟨rfl,hq⟩;have ae:Bw W4 w5:=by first|exact hq|exact aW hq
    clear c0 c1 c2 z0 z1 z2 v0 v1 v2 v3 v4 v5;obtain⟨Hc,c0,c1,c2⟩:=aQ Hc ae;replace Hz:=kW Hz ae;replace HU:=kT HU ae;obtain⟨Hv,v0,v1,v2,v3,v4,v5⟩:=fU Hv ae;obtain⟨z0,z1,z2⟩:=Hz.out.w3;replace Hb:=aB Hb ae;clear ae;refine hK _ _ (λ_=>⟨c0,c1,c2,z0,z1,z2⟩) ?_;clear hK K;try simp only[UU]
    iterate 2 (refine pT rfl rfl ?_;try simp only[UU])
    refine aI rfl rfl (λK hK=>?_);have jq:=ownsRow_below dD.out Hb.out;have oX:=rY jq (k*4+1);have Kk:=rY jq (k*4+1+1);have Xo:=rY jq (k*4+1+2);have ez:=aJ bu.out Hb.out;obtain⟨yT,gD⟩:=aO jq ez;clear jq ez;go_simp;refine hK _ _ (λh=>absurd h zd) ?_;clear hK K;try simp only[UU]
    simp only[bi];go_wp2;refine⟨⟨k+1,C'.set k (l,canon X),by omega,by go_num,by rw[List.length_set];exact HC.out,EJ.out,by rw[OY _ _ _ _ zo];exact wO.out,?_,?_⟩,by simp[intOf];omega⟩
    . have h:=ab3 yT.out k vO (au (dN X)) (nt (dN X).natAbs) (dE X);rw[MU.out]at h;exact h
    . exact((gD.out.setCell hg1 _).setCell hg1 _).setCell hg1 _
  . obtain rfl:k=n:=by omega
    have Fl:C'=eK D ts:=by rw[List.take_of_length_le zo,List.take_of_length_le (by unfold eK;rw[List.length_map];have:=Hn.out;omega)]at htk;exact htk
    rw[Fl]at hov;obtain⟨dD,bu⟩:=aO hov pb;have Hb:Hid (Bw w wr):=dY;clear hov pb htk hdr hC Fl dY;obtain⟨p0,p1⟩:=Hp.out.c2;obtain⟨r0,aj,r1,ak⟩:=Hr.out.g2;go_wp2_with fail;refine(iI.out w1 _ _ fq.out bu.out dD.out).mono ?_;rintro e w6 ⟨a2,d2,rfl,eO,ae⟩;clear p0 p1 r0 aj r1 ak;replace Hp:=ai (EB.out.below ae);replace Hr:=ai (ky.out.below ae);obtain⟨p0,p1⟩:=Hp.out.c2;obtain⟨r0,aj,r1,ak⟩:=Hr.out.g2;replace Hb:=ai (aJ fq.out ae);clear ae;go_wp2;refine Cl (Hr.out) eO Hb.out zo ?_;intro w9 qE iD jE;obtain⟨q0,q1⟩:=qE.c2;exact bodyPost_ret (v:=.tuple #[.agg #[af (V:Int),.slice a2 C.length d2],af 0]) (by simp[results,Tryz.results100,go_sem,q0,q1]) rfl ⟨_,_,rfl,Ih iD,jE⟩
def iK (w:World)(V B:Nat)(ps:List Pv)(Ts:Nat->List aM):Prop:=∀k (h:k<ps.length),∃a c,ps[k]=⟨(V:Int),a,(Ts k).length,c⟩/\cz w a c (Ts k)/\iH V B (Ts k)
theorem iK.below {w w':World}{V B:Nat}{ps:List Pv}{Ts:Nat->List aM}(h:iK w V B ps Ts)(hb:Bw w w'):iK w' V B ps Ts:=λk hk=>by obtain⟨a,c,h1,h2,h3⟩:=h k hk;exact⟨a,c,h1,h2.below hb,h3⟩
theorem below_drewN {n:Nat}{w w':World}(h:Below n w w')(k:Nat):Below n w (w'.drewN k):=by
 induction k with
 |zero=>exact h
 |succ k ih=>exact ih.drew
theorem amW (V V':Int)(aT:Option Addr)(nT cT:Nat)(bl:Nat)(b o L cap:Nat)(q:Value)(w:World)(hc:w.cell? ⟨bl,0,none⟩=some (.slice (some ⟨b,o,none⟩) L cap))(hL:0<L)(hw:bH w b o [af V,q]):
 Calls Tryz.prog 192 #[.agg #[af V',.slice aT nT cT],.pointer (some ⟨bl,0,none⟩)] w λex w'=>ex=.returned (ag (V' !=V))/\Bw w w':=by
 have bK:=uH L cap 0 0 (rfl:(some ⟨b,o,none⟩:Option Addr)=_) hL rfl;rw[Nat.zero_mul,Nat.add_zero]at bK;have h0:w.cell? ⟨b,o,none⟩=some (af V):=by have:=hw.w2.1;exact this
 obtain⟨Hc,H0⟩:=aO hc h0;clear hc h0 hw;obtain⟨W,cg,Hb,Hx⟩:=fJ w 91 [af V',.slice aT nT cT];obtain⟨x0,x1⟩:=Hx.out.c2;have k1:=cell_later Hb.out Hc.out;have k2:=cell_later Hb.out H0.out;go_enter Tryz.func192,Tryz.ntmps192;go_wp2_with fail;go_quiet (fail)
 go_wp2;refine bodyPost_ret (results_tmp rfl _ _ _) rfl ⟨rfl,(below_drewN Hb.out _)⟩
theorem amX (V B:Nat)(b o L cap:Nat)(ps:List Pv)(Ts:Nat->List aM)(w:World)(hL:ps.length=L)(KC:0<L)(zO:L<=65536)(ha:At w (some ⟨b,o,none⟩) (ps.flatMap jv))(hp:iK w V B ps Ts)(hT:aH w):
 Calls Tryz.prog 153 #[.slice (some ⟨b,o,none⟩) L cap] w λe w'=>e=.returned (af 0)/\Bw w w':=by
 have eg:∀args w,(callFunc 192 args).run Tryz.prog w=.ok (.enter 192 args) w:=enters_of Tryz.func192 zk rfl;have hct:∀W bl,Bw w W->W.cell? ⟨bl,0,none⟩=some (.slice (some ⟨b,o,none⟩) L cap)->Calls Tryz.prog 191 #[.slice (some ⟨b,o,none⟩) L cap,.func (.func 192) #[] #[.pointer (some ⟨bl,0,none⟩)]] W λe w'=>e=.returned (ag false)/\Bw W w':=by
  intro W bl hW hc;obtain⟨a0,c0,e0,_,_⟩:=hp 0 zo;obtain⟨b',o',hab,dH⟩:=(ha.below hW).aw5 0 zo e0;simp only[Option.some.injEq,Addr.mk.injEq,and_true]at hab;obtain⟨rfl,rfl⟩:=hab;rw[Nat.zero_mul,Nat.add_zero]at dH;have h:=ajg (some ⟨b,o,none⟩) L cap ps 192 #[.pointer (some ⟨bl,0,none⟩)] (λp=>p.V !=(V:Int)) W hL zo (ha.below hW) eg (λx hx W2 hW2=>by simpa using amW (V:Int) x.V x.a x.n x.c bl b o L cap _ W2 (cell_later hW2 hc) KC (dH.below hW2));have hf:(ps.any λp=>p.V !=(V:Int))=false:=by rw[List.any_eq_false];intro p Gz;obtain⟨k,hk,rfl⟩:=List.mem_iff_getElem.1 Gz;obtain⟨a,c,e1,_,_⟩:=hp k hk;rw[e1];simp
  rwa [hf]at h
 have dZ:=λW (hW:Bw w W) k (hk:k<ps.length)=>(show ∃a c,ps[k]=⟨(V:Int),a,(Ts k).length,c⟩/\Calls Tryz.prog 150 #[.agg #[af (V:Int),.slice a (Ts k).length c]] W λe w'=>e=.returned (af 0)/\Bw W w' from by
  obtain⟨a,c,e1,h1,h2⟩:=hp k hk;refine⟨a,c,e1,?_⟩;have h:=ab9 (V:Int) a c (Ts k).length (Ts k) W rfl (by have:=h2.1.2.2.1;omega) (h1.1.below hW) h2.chk (hT.below hW)
  rwa [aca h2.1]at h)
 obtain⟨MR,jd,Ha,HL⟩:=dx hct dZ ha hL;clear hct dZ ha hL hp hT eg;have hLn:((L:Int)==0)=false:=by simp;omega
 have Hb:Hid (Bw w w):=Below.refl _ _;go_enter Tryz.func153,Tryz.ntmps153;go_wp2_with fail;obtain⟨R,hR⟩:∃R:World->Prop,(λW=>ar W (w.heap.size) 80 [.slice (some ⟨b,o,none⟩) L cap]/\Bw w W)=R:=⟨_,rfl⟩;first|refine cf R ?hR ?_|refine bZ R ?hR ?_
 case hR=>subst hR;exact⟨(ar.newAt w _ _ (b:=w.heap.size) rfl),zl⟩
 subst hR;rintro W ⟨ql,ae⟩;have Hl:=ai ql;clear ql;have l0:=Hl.out.c1;replace Hb:=aB Hb ae;clear ae;go_loopw[8] (λx wr=>∃k:Nat,k<=L/\x=af (k:Int)/\Bw W wr) (λx _=>L-(intOf x).toNat);case atStart=>exact⟨0,Nat.zero_le _,rfl,Below.refl _ _⟩
 case round=>
  clear l0;obtain⟨k,hk,rfl,pb⟩:=hrel;obtain⟨dY,hl,bu⟩:=cL (aJ Hb.out pb) (Hl.out.below pb) pb;clear pb Hb Hl;by_cases hlt:k<L
  . have hk2:k<ps.length:=by rw[HL.out];exact hlt
    obtain⟨a1,c1,e1,hcall⟩:=jd.out wr dY.out k hk2;obtain⟨b',o',hab,dH⟩:=(Ha.out.below dY.out).aw5 k hk2 e1;obtain⟨rfl,rfl⟩:b=b'/\o=o':=by simp at hab;exact hab
    have hcall:=λW (hW:Bw w W)=>(jd.out W hW k hk2);have bK:=uH L cap k (k:Int) (rfl:(some ⟨b,o,none⟩:Option Addr)=_) hlt rfl;obtain⟨nT,Ah⟩:=aG ((Ts k).length);have als:Hid (∀W,Bw w W->Calls Tryz.prog 150 #[.agg #[af (V:Int),.slice a1 nT c1]] W λe w'=>e=.returned (af 0)/\Bw W w'):=by intro W hW;obtain⟨a2,c2,e2,h2⟩:=hcall W hW;rw[e1]at e2;simp only[Pv.mk.injEq,true_and]at e2;obtain⟨rfl,rfl⟩:=e2;rw[Ah]at h2;exact h2
    rw[Ah]at dH;have Hx:Hid (bH wr b (o+k*2) [af (V:Int),.slice a1 nT c1]):=dH;clear dH hcall hab e1 Ah;have Hb:Hid (Bw wr wr):=Below.refl _ _;obtain⟨x0,x1⟩:=Hx.out.w2;have P0:=x0;have P1:=x1;obtain⟨W3,Qh,ae,Hv⟩:=cd wr 91 [af (V:Int),.slice a1 nT c1];clear x0 x1;replace Hx:=kW Hx ae;obtain⟨x0,x1⟩:=Hx.out.w2;obtain⟨v0,v1⟩:=Hv.out.c2;replace Hb:=aB Hb ae;clear ae;go_wp2_with fail;refine(als.out _ (aJ dY.out Hb.out)).mono ?_;rintro e w4 ⟨rfl,ae⟩;clear x0 x1 v0 v1;replace Hx:=kW Hx ae;obtain⟨Hv,v0,v1⟩:=aR Hv ae;obtain⟨x0,x1⟩:=Hx.out.w2;replace Hb:=aB Hb ae;clear ae;go_wp2;go_roundw;case rel=>exact⟨k+1,by omega,by go_num,aJ bu.out Hb.out⟩
    case measure=>simp[intOf];omega
  . obtain rfl:k=L:=by omega
    have Hb:=dY;have Hl:=hl;have l0:=Hl.out.c1;go_wp2_with fail;refine(MR.out _ _ Hb.out l0).mono ?_;rintro e w6 ⟨rfl,ae⟩;clear l0;replace Hl:=kB Hl ae;have l0:=Hl.out.c1;replace Hb:=aB Hb ae;clear ae;go_wp2;go_ret;exact⟨rfl,Hb.out⟩
def jI (Ts:Nat->List aM):Nat->List aM
 |0=>[]
 |k+1=>il (jI Ts k) (Ts k)
def mJ (Ts:Nat->List aM):Nat->List aM
 |0=>[]
 |k+1=>mJ Ts k++Ts k
theorem ai5 (Ts:Nat->List aM)(k:Nat)(m:List UInt8):cF (jI Ts k) m=cF (mJ Ts k) m:=by
 induction k with
 |zero=>rfl
 |succ k ih=>unfold jI mJ;rw[Wy,zz,ih]
theorem abJ (Ts:Nat->List aM)(k:Nat):(jI Ts k).length<=(mJ Ts k).length:=by
 induction k with
 |zero=>exact Nat.le_refl _
 |succ k ih=>unfold jI mJ;have:=abI (jI Ts k) (Ts k);rw[List.length_append];omega
theorem Wp (Ts:Nat->List aM)(j k:Nat)(h:j<=k):(mJ Ts j).length<=(mJ Ts k).length:=by
 induction k with
 | zero => obtain rfl:j=0:=by omega
           exact Nat.le_refl _
 | succ k ih=>
   by_cases e:j=k+1
   . subst e;exact Nat.le_refl _
   . have:=ih zo;rw[show mJ Ts (k+1)=mJ Ts k++Ts k from rfl,List.length_append];omega
theorem anX {B:Nat}(Ts:Nat->List aM)(k:Nat)(h:∀j,j<k->∀t∈Ts j,Fit B t.2)(hB:B+k<=268435456):∀t∈jI Ts k,Fit (B+k) t.2:=by
 induction k with
 |zero=>intro t ht;cases ht
 |succ k ih=>unfold jI;have:=abH (B:=B+k) (jI Ts k) (Ts k) (ih (λj hj=>h j zo) zo) (λt ht=>(h k zo t ht).mono zo) zo;exact this
theorem ahx (V B:Nat)(b o L cap:Nat)(ps:List Pv)(Ts:Nat->List aM)(C:List aM)(w:World)(hL:ps.length=L)(KC:0<L)(zO:L<=65536)(ha:At w (some ⟨b,o,none⟩) (ps.flatMap jv))(hp:iK w V B ps Ts)(hn:(mJ Ts L).length<=4096)(hB:B+L+8192<=268435456)(hT:aH w)(hC:bY (mJ Ts L)=C):
 Calls Tryz.prog 101 #[.slice (some ⟨b,o,none⟩) L cap] w λex w'=>∃a' c',ex=.returned (.tuple #[.agg #[af (V:Int),.slice a' C.length c'],af 0])/\cz w' a' c' C/\Bw w w':=by
 have Fh:=enters_of Tryz.func155 zk rfl;have Ff:=enters_of Tryz.func156 zk rfl;have hlk:=λW (hW:Bw w W)=>amX V B b o L cap ps Ts W hL KC zO (ha.below hW) (hp.below hW) (hT.below hW);have XB:bY (jI Ts L)=C:=by rw[<-hC];exact Cn (ai5 Ts L)
 have xJ:(jI Ts L).length<=4096:=Nat.le_trans (abJ Ts L) hn;have QF:∀j,j<L->∀t∈Ts j,Fit B t.2:=λj hj=>by obtain⟨a,c,_,_,h⟩:=hp j zo;exact h.2
 have Ag:=λk (hk:k<=L)=>anX (B:=B) Ts k (λj hj=>QF j zo) zo;have hcl:=λw0 W v (hw0:Bw w w0) (hb0:Bw w0 W) (ho:W.ownsRow w0.heap.size 93 4 v (jI Ts L).length ((jI Ts L).flatMap aX))=>OL (V:Int) v _ (jI Ts L) C (B+L) w0 W hb0 rfl xJ ho (Ag L (Nat.le_refl _)) zo (hT.below hw0) XB;obtain⟨a0,c0,e0,_,_⟩:=hp 0 zo;obtain⟨b',o',hab,dH⟩:=ha.aw5 0 zo e0;obtain⟨rfl,rfl⟩:b=b'/\o=o':=by simp at hab;exact hab
 rw[Nat.zero_mul,Nat.add_zero]at dH;have mf:=uH L cap 0 0 (rfl:(some ⟨b,o,none⟩:Option Addr)=_) KC rfl;rw[Nat.zero_mul,Nat.add_zero]at mf;obtain⟨n0,hn0⟩:=aG ((Ts 0).length);rw[hn0]at dH;have hlb:b<w.heap.size:=World.block_lt_of_cell? w _ dH.w2.1;obtain⟨Ev,iI,Hmf,Hp,Ha,HT,HL,Nc,Nb,HfT,Hw,Nq⟩:=gB hlk hcl Ag hp ha hT hL Fh Ff QF dH mf
 have mE:Hid (∀k,k<L->(jI Ts k).length<=4096/\(Ts k).length<=4096):=λk hk=>⟨Nat.le_trans (Nat.le_trans (abJ Ts k) (Wp Ts k L zo)) hn,by
  have h1:=Wp Ts (k+1) L zo
  rw[show mJ Ts (k+1)=mJ Ts k++Ts k from rfl,List.length_append]at h1;omega⟩
 clear hlk hcl Ag hp ha hT hL Fh Ff QF dH mf hC XB hn xJ hab e0 hn0;have Hb:Hid (Bw w w):=Below.refl _ _;go_enter Tryz.func101,Tryz.ntmps101;go_wp2_with fail;obtain⟨R,hR⟩:∃R:World->Prop,(λW=>ar W (w.heap.size) 91 [af 0,.slice none 0 0]/\Bw w W)=R:=⟨_,rfl⟩;first|refine cf R ?hR ?_|refine bZ R ?hR ?_
 case hR=>subst hR;exact⟨(ar.newAt w _ _ (b:=w.heap.size) rfl),zl⟩
 subst hR;rintro W ⟨qr,ae⟩;have Hr:=ai qr;clear qr;obtain⟨r0,aj,r1,ak⟩:=Hr.out.g2;replace Hb:=aB Hb ae;clear ae;go_wp2_with fail;refine(Ev.out _ Hb.out).mono ?_;rintro e w1 ⟨rfl,ae⟩;clear r0 aj r1 ak;obtain⟨Hr,r0,aj,r1,ak⟩:=bE Hr ae;replace Hb:=aB Hb ae;clear ae;have ky:=Hr;have fq:=Hb;go_wp2_with fail;go_loopw[5,16] (λs5 x wr=>∃(k:Nat) (v:Value),k<=L/\x=af (k:Int)/\v=s5/\wr.ownsRow w1.heap.size 93 4 v (jI Ts k).length ((jI Ts k).flatMap aX)/\Bw w1 wr) (λ_ x _=>L-(intOf x).toNat);case atStart=>exact⟨0,_,Nat.zero_le _,rfl,rfl,World.ownsRow_nil _ _ _ _,Below.refl _ _⟩
 case round=>
  clear r0 aj r1 ak Hr Hb;obtain⟨k,v,hk,rfl,rfl,ho,pb⟩:=hrel;have dY:=aJ fq.out pb;have tW:=fq.out.size;have iy:=pb.size;by_cases hlt:k<L
  . have hk2:k<ps.length:=by rw[HL.out];exact hlt
    obtain⟨a1,c1,e1,hpl,hft⟩:=Hp.out k hk2;obtain⟨b',o',hab,dH⟩:=(Ha.out.below dY).aw5 k hk2 e1;obtain⟨rfl,rfl⟩:b=b'/\o=o':=by simp at hab;exact hab
    have bK:=uH L cap k (k:Int) (rfl:(some ⟨b,o,none⟩:Option Addr)=_) hlt rfl;obtain⟨av,cv,rfl,xx,_⟩:=eo ho;have GI:=uP ho;have xG:=mE.out k hlt;have Zh:=Hmf.out k zo;have ma:=HfT.out k hlt;have hsk:=hpl.2.1;have Hm:Hid (∀W,Bw wr W->Calls Tryz.prog 154 #[.slice av (jI Ts k).length cv,.slice a1 (Ts k).length c1,.func (.func 155) #[] #[],.func (.func 156) #[] #[]] W λe w'=>∃v',e=.returned v'/\w'.ownsRow w1.heap.size 93 4 v' (jI Ts (k+1)).length ((jI Ts (k+1)).flatMap aX)/\Bw W w'):=by intro W hW;refine(abD av _ cv (jI Ts k) a1 _ c1 (Ts k) (B+L) W rfl rfl GI hsk zo zo (xx.below hW) (hpl.1.below (aJ dY hW)) (λt ht=>(Zh t ht).mono zo) (λt ht=>(ma t ht).mono zo) zo (HT.out.below (aJ dY hW))).mono ?_;rintro e w' ⟨v',rfl,h1,h2⟩;exact⟨v',rfl,rZ h1 (by have:=hW.size;omega),h2⟩
    obtain⟨nv,tG⟩:=aG ((jI Ts k).length);obtain⟨nT,Ah⟩:=aG ((Ts k).length);rw[tG,Ah]at Hm;rw[Ah]at dH;have Hx:Hid (bH wr b (o+k*2) [af (V:Int),.slice a1 nT c1]):=dH;have bu:=ai pb;rw[tG];clear dH hab e1 Ah tG hpl hft ho xx GI xG Zh ma hsk pb dY;have Hb:Hid (Bw wr wr):=Below.refl _ _;obtain⟨x0,x1⟩:=Hx.out.w2;have P0:=x0;have P1:=x1;obtain⟨W3,Qh,ae,Hv⟩:=cd wr 91 [af (V:Int),.slice a1 nT c1];clear x0 x1;replace Hx:=kW Hx ae;obtain⟨x0,x1⟩:=Hx.out.w2;obtain⟨v0,v1⟩:=Hv.out.c2;replace Hb:=aB Hb ae;clear ae;have Ph:=Nc.out;have Kg:=Nb.out;go_wp2_with fail;refine(Hm.out _ Hb.out).mono ?_;rintro e w4 ⟨v',rfl,ZW,hb4⟩;have ez:=aJ bu.out (aJ Hb.out hb4);obtain⟨Ho4,gD⟩:=aO ZW ez;clear Ph Kg ZW ez hb4;go_wp2;go_roundw;case rel=>exact⟨k+1,v',by omega,by go_num,rfl,Ho4.out,gD.out⟩
    case measure=>simp[intOf];omega
  . obtain rfl:k=L:=by omega
    obtain⟨av,cv,rfl,_,_⟩:=eo ho;have Hx:=ai (Hw.out.below dY);have Hb:Hid (Bw w wr):=dY;obtain⟨dD,bu,Hr⟩:=cL ho pb (ky.out.below pb);have bK:=Nq.out;clear ho pb dY;obtain⟨x0,x1⟩:=Hx.out.w2;obtain⟨r0,aj,r1,ak⟩:=Hr.out.g2;have ag6:Hid (bH w1 b o [af (V:Int),.slice a0 n0 c0]):=Hw.out.below fq.out;go_wp2_with fail;refine(iI.out w1 _ _ fq.out bu.out dD.out).mono ?_;rintro e w6 ⟨a2,d2,rfl,eO,ae⟩;clear x0 x1 r0 aj r1 ak;replace Hx:=ai (ag6.out.below ae);replace Hr:=ai (ky.out.below ae);obtain⟨x0,x1⟩:=Hx.out.w2;obtain⟨r0,aj,r1,ak⟩:=Hr.out.g2;replace Hb:=ai (aJ fq.out ae);clear ae;go_wp2;refine Cl (Hr.out) eO Hb.out zo ?_;intro w9 qE iD jE;obtain⟨q0,q1⟩:=qE.c2;exact bodyPost_ret (v:=.tuple #[.agg #[af (V:Int),.slice a2 C.length d2],af 0]) (by simp[results,Tryz.results101,go_sem,q0,q1]) rfl ⟨_,_,rfl,Ih iD,jE⟩
end Go.Proofs.YtoopepmmepmfnaaGreatDoor
