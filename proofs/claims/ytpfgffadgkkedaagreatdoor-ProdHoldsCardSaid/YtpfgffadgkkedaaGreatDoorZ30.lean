/- Package calc: put: a polynomial with others in the places of its variables. -/
import Derived.Test.YtpfgffadgkkedaaGreatDoorZ7
import Derived.Test.YtpfgffadgkkedaaGreatDoorZ27
import Derived.Test.YtpfgffadgkkedaaGreatDoorZ28
import Derived.Test.YtpfgffadgkkedaaGreatDoorZ29
import Derived.Deep.CutBlock
import Derived.Test.YtpfgffadgkkedaaGreatDoorZ15
import Derived.Test.YtpfgffadgkkedaaGreatDoorZ12
import Derived.Test.YtpfgffadgkkedaaGreatDoorZ26
import Derived.Test.YtpfgffadgkkedaaGreatDoorZ14
set_option linter.all false
set_option maxRecDepth 100000
set_option maxHeartbeats 16000000
namespace Go.Proofs.YtpfgffadgkkedaaGreatDoor
open Go.RowKit
attribute [local go_sem ↓] Go.wp_at_zero Go.wp_at_succ
structure PutIn (L D r:Nat)(p:List Trm):Prop where
 up:Up p
 len:∀t∈p,t.1.length=L
 may:∀t∈p,∀c∈t.1,c.toNat<=127
 rem:∀t∈p,remS L r t.1<=D
 same:∀t∈p,∀u∈p,∀k,k<L-r->t.1.getD k 0=u.1.getD k 0
def PutIn.blk {L D r:Nat}{p:List Trm}(h:PutIn L D (r+1) p)(hr:r+1<=L)(n:Nat):PutIn L D r (dz (L-(r+1)) n p):=
 ⟨h.up.filter _,λt ht=>h.len t (iP ht).1,λt ht=>h.may t (iP ht).1,λt ht=>by
  have:=h.rem t (iP ht).1;rw[remS]at this;omega,λt ht u hu k hk=>by
  obtain⟨h1,h2⟩:=iP ht;obtain⟨h3,h4⟩:=iP hu;by_cases hkk:k<L-(r+1)
  . exact h.same t h1 u h3 k hkk
  . obtain rfl:k=L-(r+1):=by omega
    exact UInt8.toNat_inj.1 (by rw[h2,h4])⟩
def SubOk.awZ {V L D C K M A:Nat}{l:Nat->List Trm}(h:SubOk V L D C K M l){r:Nat}{p:List Trm}(hr:r+1<=L)(hp:∀t∈p,remS L (r+1) t.1<=D)(hs:∀t∈p,Sm A (dval t.2))(m:Nat)(hm:m<=128):
 ∀t∈dW (l (L-(r+1))) (λn=>dv V l L r (dz (L-(r+1)) n p)) m,Sm (A+13* (r+2)+D*K) (dval t.2):=by
 intro t ht;have hd:=h.dl
 have h1:=Zq (A:=A+13* (r+1)) (K:=K) (C:=C) (D:=D) (la:=l (L-(r+1))) (f:=λn=>dv V l L r (dz (L-(r+1)) n p)) (λn hn=>by
  show dv V l L r (dz _ n p)=[]
  rw[uO (λt ht e=>by have:=hp t ht;rw[remS]at this;omega),vU]) (λn hn=>acl h r (D-n) _ zo zo (λt ht=>by
  obtain⟨h1,h2⟩:=iP ht
  have:=hp t h1;rw[remS]at this;omega) (λt ht=>hs t (iP ht).1)) (h.sm _ zo) h.kc (λm hm=>h.awR zo hp m hm) (λn=>by
  have h2:=JM h.deg zo (r:=r) (p:=dz (L-(r+1)) n p) (D:=D) zo (λt ht=>by
   obtain⟨h1,h2⟩:=iP ht
   have:=hp t h1;rw[remS]at this;omega)
  have:=h.few2
  show(dv V l L r (dz (L-(r+1)) n p)).length<=4096;omega) zo m zo t ht
 refine h1.mono ?_;have:(D-(128-m)) *K<=D*K:=Nat.mul_le_mul_right _ zo;omega
def SubOk.aw6 {V L D C K M A B:Nat}{l:Nat->List Trm}(h:SubOk V L D C K M l)(hV:V<=12){r:Nat}{p:List Trm}(hr:r+1<=L)(hp:∀t∈p,remS L (r+1) t.1<=D)(hs:∀t∈p,Sm A (dval t.2))(hB:A+13* (r+2)+D*K<=B)(hBm:B<=268435456)(m:Nat)(hm:m<=128):
 dJ V B (dW (l (L-(r+1))) (λn=>dv V l L r (dz (L-(r+1)) n p)) m):=by
 have hd:=h.dl;have h1:=JN h.deg zo hr hp m hm;have h2:=GV (IY m) h1;have h3:(D-(128-m)+1)^V<=(D+1)^V:=Nat.pow_le_pow_left zo V;have:=h.few2;exact rE (IY m) h1 zo hV (λt ht=>(h.awZ hr hp hs m hm t ht).mono hB) hBm
def SubOk.aw2 {V L D C K M A B:Nat}{l:Nat->List Trm}(h:SubOk V L D C K M l)(hV:V<=12){r:Nat}{p:List Trm}(hr:r<=L)(hp:∀t∈p,remS L r t.1<=D)(hs:∀t∈p,Sm A (dval t.2))(hB:A+13* (r+1)+D*K<=B)(hBm:B<=268435456):
 dJ V B (dv V l L r p):=by
 have hd:=h.dl;have h2:=JM h.deg zo hr hp;have:=h.few2;exact rE (ack V l L r p) (JL h.deg zo r D p (Nat.le_refl _) hr hp) zo hV (λt ht=>(acl h r D p (Nat.le_refl _) hr hp hs t ht).mono hB) hBm
def aaZ (V:Nat)(l:Nat->Dyadic):cE V 0 l 0=[]:=by
 rw[<-aa5 V 0 (canon 0) l (bD 0)]
 exact Nz (ji _) Good.nil (λm=>by
  rw[oJ];simp only[bN,bD]
  split<;>grind)
def SubOk.axf {V L D C K M A B:Nat}{l:Nat->List Trm}(h:SubOk V L D C K M l)(hV:V<=12){r:Nat}{p:List Trm}(hr:r+1<=L)(hp:∀t∈p,remS L (r+1) t.1<=D)(hs:∀t∈p,Sm A (dval t.2))(hB:A+13* (r+2)+D*K+K<=B)(hBm:B<=268435456)(m:Nat)(hm:m<=127)(hD:127-m<=D):
 dJ V B (aS (fp (dW (l (L-(r+1))) (λn=>dv V l L r (dz (L-(r+1)) n p)) m) (l (L-(r+1)))))/\(aS (fp (dW (l (L-(r+1))) (λn=>dv V l L r (dz (L-(r+1)) n p)) m) (l (L-(r+1))))).length<=2048:=by
 have hd:=h.dl;have hk:=h.kc;have h1:=JN h.deg zo hr hp m zo;have h2:DegT V D (aS (fp (dW (l (L-(r+1))) (λn=>dv V l L r (dz (L-(r+1)) n p)) m) (l (L-(r+1))))):=by
  by_cases he:D<128-m
  . rw [xN m (fun n h3 _=>by
     show dv V l L r (dz _ n p)=[]
     rw[uO (λt ht e=>by have:=hp t ht;rw[remS]at this;omega),vU])]
    intro t ht;cases ht
  . exact DegT.clean ((DegT.mul h1 (h.deg _ zo) zo).mono zo)
 have h3:=GV (ji _) h2;have:=h.few2;refine⟨rE (ji _) h2 zo hV (λt ht=>?_) hBm,by omega⟩;have h4:=pR (k:=12) (Qr (h.awZ hr hp hs m zo) (h.sm _ zo)) (by rw[Jx];exact h.awR hr hp m hm) t ht;exact h4.mono zo
def aM.stsF {a:Option Addr}{c b:Nat}{t:TypeId}{C:List Trm}(ht:t≠111)(vs:List Value):∀(o:Nat) (w:World) (l:List Value),aM w a c C->ar w b t l->aM (qP b o vs w) a c C:=by
 induction vs with
 |nil=>intro o w l h _;exact h
 |cons v vs ih=>intro o w l h hb;exact ih _ _ _ (h.off hb ht o v) (hb.set o v)
def aM.sts {w W:World}{a:Option Addr}{c b o:Nat}{t:TypeId}{C:List Trm}{l vs:List Value}(h:aM w a c C)(hb:ar w b t l)(k:aN w b o vs W)(ht:t≠111:=by decide):aM W a c C:=by
 rcases k with rfl|rfl
 . exact aM.stsF ht vs o w l h hb
 . exact aM.stsF ht vs o w.drew l (h.below ((Below.refl _ _).drew)) hb.drew
def ajR (V L D C K M A B:Nat)(ls:Nat->List Trm)(ps:List Pv)(la:Option Addr)(ni:Nat)(hok:SubOk V L D C K M ls)(hV:0<V)(hV2:V<=12)(hB:A+13* (L+2)+D*K+K<=B)(Ic:C<=B)(hBm:B<=100000000)(hps:ps.length=L)(hL:L<=1000)(r:Nat):
 ∀(a:Option Addr) (n cap:Nat) (p:List Trm) (w:World),r<=L->p.length=n->n<=4096->Sl a n cap->At w a (p.flatMap aH)->At w la (ps.flatMap eJ)->dK w V B ps ls->aB w->PutIn L D r p->(∀t∈p,Fit A t.2)->
 Cl 149 #[.slice a n cap,af ((L-r:Nat):Int),.slice la L ni,af (V:Int)] w λe w'=>∃a' c',e=.returned (.tuple #[.agg #[af (V:Int),.slice a' (dv V ls L r p).length c'],af 0])/\aM w' a' c' (dv V ls L r p)/\Bw w w':=by
 induction r with
 | zero=>
   intro a n cap p w _ hn bH hs ha eN hls hT hp hf;rw[Nat.sub_zero];cases p with
   | nil=>
     simp only[List.length_nil]at hn;subst hn;have hcn:∀W,Bw w W->Cl 157 #[af (V:Int),.agg #[ag false,.string ⟨#[]⟩,af 0]] W λex w'=>∃a' c',ex=.returned (.tuple #[.agg #[af (V:Int),.slice a' 0 c'],af 0])/\aM w' a' c' []/\Bw W w':=λW hW=>by have h:=zO V false [] 0 0 1 (λ_=>0) W hV2 ⟨⟨by decide,by decide,by decide⟩,Sm.zero _⟩ zd (hT.below hW) zd;rw[aaZ]at h;exact h
     have iJ:=aj hcn;clear hcn ha eN hls hT hp hf hs;have Hb:=hbz w;go_enter Tryz.func149,Tryz.ntmps149;go_wp2_with fail;refine bP w (Hb.an trivial) 41 [af 0,.slice none 0 0] λW aG ae ai=>?_;go_wp2_with fail;refine(iJ.out _ ae.2.1.out).mono ?_;rintro e w1 ⟨a1,c1,rfl,hp1,ak⟩;obtain⟨ae,ai⟩:=qX ak ae;have HU:Hid (aM w1 (a1) (c1) []):=hp1;clear hp1;have Mc:=HU;have bR:=ae.1;go_wp2;refine dA (aN w1 (w.heap.size) 0 [af (V:Int),.slice a1 0 c1]) aU ?_;intro w9 hs0;have ae:=bG hs0 ae;simp only[bA,List.set]at ae;have ai:=qC ae;refine bodyPost_ret (v:=.tuple #[.agg #[af (V:Int),.slice a1 0 c1],af 0]) (by simp[results,Tryz.results149,go_sem,ai]) rfl ⟨a1,c1,rfl,Mc.out.sts bR.out hs0,ae.2.1.out⟩
   | cons t p=>
     obtain⟨l,s,m,e⟩:=t;obtain⟨b,o,hab,bJ⟩:=ha.term 0 zm (l:=l) (s:=s) (m:=m) (e:=e) rfl;subst hab;rw[Nat.zero_mul,Nat.add_zero]at bJ;have hlt:0<n:=by rw[<-hn];simp
     have hn0:((n:Int)==0)=false:=by simp;omega
     have aQ:=fW n cap 0 0 (rfl:(some ⟨b,o,none⟩:Option Addr)=_) hlt rfl;rw[Nat.zero_mul,Nat.add_zero]at aQ;have jp:Fit A (s,m,e):=hf (l,s,m,e) zm;have hcn:=λW (hW:Bw w W)=>zO V s m e (dval (s,m,e)) B (λ_=>0) W hV2 ⟨jp.1,jp.2.mono zo⟩ zo (hT.below hW) rfl;show Calls _ _ _ _ λe' w'=>∃a' c',e'=.returned (.tuple #[.agg #[af (V:Int),.slice a' (cE V (dval (s,m,e)) (λ_=>0) 0).length c'],af 0])/\aM w' a' c' (cE V (dval (s,m,e)) (λ_=>0) 0)/\Bw w w'
     obtain⟨R,hR⟩:=az (cE V (dval (s,m,e)) (λ_=>0) 0);rw[hR]at hcn⊢;obtain⟨_,y1,y2,y3⟩:=bJ.w4;have lbw:=World.block_lt_of_cell? w _ y1;simp only at lbw;have Ht:Hid (aR w b (o+1) [ag s,ah m,af e]):=jA y1 y2 y3;have iJ:=aj hcn;clear hcn ha eN hls hT hp hf hs hR jp bJ hn y1 y2 y3;have Hb:=hbz w;go_enter Tryz.func149,Tryz.ntmps149;obtain⟨ae,ai⟩:=qZ (Ht.an trivial);have aG:=qL (Hb.an ae);go_wp2_with fail;refine bP w (Hb.an ae) 41 [af 0,.slice none 0 0] λW aG ae ai=>?_;go_wp2_with fail;refine(iJ.out _ ae.2.1.out).mono ?_;rintro e w1 ⟨a1,c1,rfl,hp1,ak⟩;obtain⟨ae,ai⟩:=qX ak ae;have HU:Hid (aM w1 (a1) (c1) R):=hp1;clear hp1;have Mc:=HU;have bR:=ae.1;go_wp2;refine dA (aN w1 (w.heap.size) 0 [af (V:Int),.slice a1 R.length c1]) aU ?_;intro w9 hs0;have ae:=bG hs0 ae;simp only[bA,List.set]at ae;have ai:=qC ae;refine bodyPost_ret (v:=.tuple #[.agg #[af (V:Int),.slice a1 R.length c1],af 0]) (by simp[results,Tryz.results149,go_sem,ai]) rfl ⟨a1,c1,rfl,Mc.out.sts bR.out hs0,ae.2.1.out⟩
 | succ r ih=>
   intro a n cap p w hr hn bH hs ha eN hls hT hp hf;have oh:∀t∈p,Sm A (dval t.2):=λt ht=>(hf t ht).2;have hfit:=λm (hm:m<=128)=>hok.aw6 (B:=B) hV2 hr hp.rem oh zo zo m hm;have og:=λm (hm:m<=127) (hD:127-m<=D)=>hok.axf (B:=B) hV2 hr hp.rem oh zo zo m hm hD;have hput:=λq=>hok.aw2 (B:=B) hV2 (show r<=L by omega) (hp.blk hr q).rem (λt ht=>oh t (iP ht).1) zo zo;have hlen:=λm (hm:m<=127)=>hok.awR hr hp.rem m hm;have xx:=λm (hm:m<=128)=>JN hok.deg (by have:=hok.dl;omega) hr hp.rem m hm;have Jg:=ak3 hp.up hp.len hp.same;have hblk:=λc=>aiG Jg c;have hget:=λc i hi=>aiH Jg c i hi;obtain⟨k,hk⟩:=az (L-(r+1));have oc:k<L:=by omega
   have hk1:L-r=k+1:=by omega
   have hq0:∀q,D<q->dz k q p=[]:=λq hq=>uO (λt ht e=>by have:=hp.rem t ht;rw[remS,hk]at this;omega);have rM:=λq=>hp.blk hr q;rw[hk]at hfit og hput hlen xx hblk hget Jg rM;rw[hk];rw[hk1]at ih;obtain⟨g,hg⟩:∃g:Nat->List Trm,(λq=>dv V ls L r (dz k q p))=g:=⟨_,rfl⟩;have hpt:dv V ls L (r+1) p=dW (ls k) g 128:=by rw[<-hg,<-hk];rfl
   have Du:∀q,dv V ls L r (dz k q p)=g q:=λq=>by rw[<-hg]
   have hg0:∀q,dz k q p=[]->g q=[]:=λq h=>by rw[<-Du,h,vU]
   rw[hg]at hfit og hlen xx;rw[hpt];have hby:∀t∈p,(t.1.getD k 0).toNat<=127:=λt ht=>by rw[List.getD_eq_getElem?_getD,List.getElem?_eq_getElem (by rw[hp.len t ht];exact oc)];exact hp.may t ht _ (List.getElem_mem _)
   have hlk:=hok.deg k oc;have hll:=hok.len k oc;obtain⟨aL,cL,hel,hpl,hfl⟩:=hls k zo;obtain⟨lb,lo,hlab,OP⟩:=eN.awJ k zo hel;have auW:=mY L ni k (k:Int) hlab oc rfl;obtain⟨N,hN⟩:∃N:Nat->Nat,(λc=>below (eX k) c p)=N:=⟨_,rfl⟩;have CU:∀c,below (eX k) c p=N c:=λc=>by rw[<-hN]
   simp only[CU]at hblk hget;have zZ:∀c,N c<=n:=λc=>by rw[<-CU,<-hn];exact below_le _ _ _
   have Ij:∀c,N c<=N (c+1):=λc=>by rw[<-CU,<-CU];exact aiI _ _ zo
   have Xd:N 128=n:=by
    rcases Nat.lt_or_ge (N 128) n with h|h
    . have h1:=(hget 128 (N 128) zo).1 (by have:=hby _ (List.getElem_mem (show N 128<p.length by omega));show(_:Nat)<128;unfold eX;omega);omega
    . have:=zZ 128;omega
   have hcap:=hs.1;have hrc:∀m,m<=127->∃a',(if cap=N (127-m)then a else a.map (·.add (N (127-m) *4)))=a'/\∀W,Bw w W->Cl 149 #[.slice a' (N (128-m)-N (127-m)) (cap-N (127-m)),af ((k+1:Nat):Int),.slice la L ni,af (V:Int)] W λe w'=>∃a7 c7,e=.returned (.tuple #[.agg #[af (V:Int),.slice a7 (g (127-m)).length c7],af 0])/\aM w' a7 c7 (g (127-m))/\Bw W w':=λm hm=>by
    refine⟨_,rfl,λW hW=>?_⟩;have e1:=zZ (127-m);have e2:=zZ (128-m);have e3:=Ij (127-m);rw[show 127-m+1=128-m by omega]at e3;have hb:=hblk (127-m);rw[show 127-m+1=128-m by omega]at hb;have hbl:(dz k (127-m) p).length=N (128-m)-N (127-m):=by rw[hb,List.length_take,List.length_drop,hn];omega
    have h1:=(ha.below hW).awP (N (127-m)) hn e1 hcap;have h2:=h1.awT (N (128-m)-N (127-m));rw[<-hb]at h2;have h3:=hs.cut (k:=N (127-m)) (size:=4) e1;have h4:=ih _ (N (128-m)-N (127-m)) (cap-N (127-m)) (dz k (127-m) p) W zo hbl zo ⟨by have:=h3.1;omega,h3.2⟩ h2 (eN.below hW) (hls.below hW) (hT.below hW) (rM _) (λt ht=>hf t (iP ht).1);rw[Du]at h4;exact h4
   have hcn:∀W,Bw w W->Cl 157 #[af (V:Int),.agg #[ag false,.string ⟨#[]⟩,af 0]] W λex w'=>∃a' c',ex=.returned (.tuple #[.agg #[af (V:Int),.slice a' 0 c'],af 0])/\aM w' a' c' []/\Bw W w':=λW hW=>by have h:=zO V false [] 0 0 1 (λ_=>0) W hV2 ⟨⟨by decide,by decide,by decide⟩,Sm.zero _⟩ zd (hT.below hW) zd;rw[aaZ]at h;exact h
   have lT:=λm (hm:m<=127) (hD:127-m<=D) W a' c' b (hW:Bw w W) (hb:ar W b 41 [af (V:Int),.slice a' (dW (ls k) g m).length c',af (V:Int),.slice aL (ls k).length cL]) (hp:aM W a' c' (dW (ls k) g m))=>ap5 V B (D-(128-m)) 1 _ _ b a' aL c' cL (dW (ls k) g m) (ls k) _ W hV rfl rfl (hfit m zo) hfl (xx m zo) hlk (by have:=hok.dl;omega) (hlen m hm) hBm hb hp (hpl.below hW) (hT.below hW) rfl
   have had:=λm (hm:m<=127) (hD:127-m<=D) W a9 c9 a7 c7 b (hW:Bw w W) (hb:ar W b 41 [af (V:Int),.slice a9 (aS (fp (dW (ls k) g m) (ls k))).length c9,af (V:Int),.slice a7 (g (127-m)).length c7]) (h9:aM W a9 c9 (aS (fp (dW (ls k) g m) (ls k)))) (h7:aM W a7 c7 (g (127-m)))=>
    Cw V B _ _ (dW (ls k) g (m+1)) a9 a7 c9 c7 W b hb h9 h7 (og m hm hD).1 (by rw[<-Du];exact hput _) (by
     have h1:=(og m hm hD).2;have h2:=JM hok.deg (by have:=hok.dl;omega) (show r<=L by omega) (rM (127-m)).rem;rw[Du]at h2
     have:=hok.few2;omega) zo (hT.below hW) rfl
   have Px:∀m,m<=127->(dW (ls k) g m).length=0->N (127-m)=N (128-m)->dW (ls k) g (m+1)=[]:=λm hm h1 h2=>by have hb:=hblk (127-m);rw[show 127-m+1=128-m by omega,h2,Nat.sub_self,List.take_zero]at hb;rw[dW,List.length_eq_zero_iff.1 h1,Jy,clean_nil,hg0 _ hb];rfl
   have tB:∀m,m<=127->¬((dW (ls k) g m).length=0/\N (127-m)=N (128-m))->127-m<=D:=λm hm h=>by
    rcases Nat.lt_or_ge D (127-m)with h1|h1
    . exfalso
      refine h ⟨?_,?_⟩
      . rw[xN m (λq h3 _=>hg0 q (hq0 q zo))];rfl
      . have hb:=hblk (127-m);rw[show 127-m+1=128-m by omega,hq0 _ h1]at hb;have h3:=congrArg List.length hb;rw[List.length_take,List.length_drop,hn]at h3;have:=zZ (128-m);have h4:=Ij (127-m);rw[show 127-m+1=128-m by omega]at h4;simp only[List.length_nil]at h3;omega
    . exact h1
   have NM:=λi (hi:i<p.length)=>(show(p[i].1).length=L/\eX k p[i]=(p[i].1.getD k 0).toNat from⟨hp.len _ (List.getElem_mem hi),rfl⟩);have au2:((k:Int)==(L:Int))=false:=by simp;omega
   have lC:Hid (∀m,m<=128->¬m<128->m=128):=λm h1 h2=>by omega
   obtain⟨H,hH⟩:=az (dW (ls k) g);rw[hH]at lT had Px tB⊢;have WS:H 0=[]:=by rw[<-hH];rfl
   obtain⟨iJ,Hrc,BP,pC,Cg,KT,yM,Ha,Hl,Hn,HNt,HNm⟩:=gN hcn hrc lT had Px tB hget ha OP hn Xd Ij;obtain⟨HNn,KL,Sy,Sp,atH,HkL⟩:=ia zZ hcap NM WS hlab (And.intro oc hL);have lbl:=World.block_lt_of_cell? w _ OP.w2.1;simp only at lbl;clear ih hs ha eN hls hT hp hf oh hfit og hput hlen xx Jg hblk hget rM hq0 Du hg0 hby hlk hll hel hpl hfl OP CU zZ Ij Xd hcap hrc hcn lT had Px tB hN hg hpt hH WS hk1 hk hn NM hlab;have Hb:=hbz w;go_enter Tryz.func149,Tryz.ntmps149;go_wp2_with fail;refine bP w (Hb.an trivial) 41 [af 0,.slice none 0 0] λW aG ae ai=>?_;go_wp2_with fail;refine(iJ.out _ ae.2.1.out).mono ?_;rintro e w1 ⟨a0,c0,rfl,hp0,ak⟩;obtain⟨ae,ai⟩:=qX ak ae;have HU:Hid (aM w1 (a0) (c0) []):=hp0;clear hp0;have aG:=qL (HU.an ae);go_wp2_with fail;refine bP w1 (HU.an ae) 41 [af (V:Int),.slice a0 0 c0] λW2 aG ae ai=>?_;go_wp2_with fail;go_loopw[11,12,13] (λs11 s12 Rh wr=>∃(m:Nat) (a':Option Addr) (c':Nat),m<=128/\s11=af 0/\s12=af ((N (128-m):Nat):Int)/\Rh=af (127-(m:Int))/\ar wr w.heap.size 41 [af 0,.slice none 0 0]/\ar wr w1.heap.size 41 [af (V:Int),.slice a' (H m).length c']/\aM wr a' c' (H m)/\Bw w wr) (λ_ _ x _=>(intOf x+1).toNat);case atStart=>exact⟨0,a0,c0,Nat.zero_le _,rfl,by rw[Nat.sub_zero,HNt.out],rfl,ae.2.2.1.out,by rw[Sp.out];exact ae.1.out,by rw[Sp.out];exact ae.2.1.out,ae.2.2.2.1.out⟩
   case round=>
    skip
    obtain⟨m,a',c',hm,rfl,rfl,rfl,hz,hq,hu,pb⟩:=hrel;by_cases hlt:m<128
    . have DL:m<=127:=by omega
      have WA:(0:Int)<=127-(m:Int):=by omega
      have e1:=HNm.out (127-m);rw[show 127-m+1=128-m by omega]at e1;have e2:=HNn.out (128-m);have Lp:=λi (h:i<p.length)=>yM.out (127-m) i h;have Lj:=λi (h:i<p.length)=>yM.out (128-m) i h;have FQ:=Cg.out m DL;have Fs:=KT.out m DL;obtain⟨a7,hsl,Jc⟩:=Hrc.out m DL;generalize hlo:N (127-m)=tQ at e1 Lp FQ Fs hsl Jc;generalize hhi:N (128-m)=hi at e1 e2 Lj FQ Fs Jc⊢;obtain⟨q9,ZO⟩:∃q:Nat,127-m=q:=⟨_,rfl⟩;have ZP:127-(m:Int)=(q9:Int):=by omega
      rw[ZP]at WA⊢;obtain⟨TA,afz,agU,ae6,wN,agJ,BO,uC,Hz,Hq,HU,Hb⟩:=gN Lp Lj FQ Fs hsl Jc hlo ZO hz hq hu pb;have mB:Hid (hi<=n):=e2;clear hz hq hu pb Lp Lj FQ Fs hsl Jc hlo hhi ZP e2 ZO;obtain⟨wo,hwo⟩:∃u,u=wr:=⟨_,rfl⟩;subst hwo;go_upto_block 2 with fail
      go_cut[14] (λs14 wx=>s14=af (tQ:Int)/\wo=wx);case first=>
       go_wp2_with fail;go_loopw[14] (λx w2=>∃j:Nat,tQ<=j/\j<=hi/\x=af (j:Int)/\w2=wo) (λx _=>(intOf x).toNat);case atStart=>exact⟨hi,e1,Nat.le_refl _,rfl,rfl⟩
       case round=>
        obtain⟨j,tE,gL,rfl,rfl⟩:=hrel;by_cases hjl:tQ<j
        . have vr:j-1<p.length:=by have:=Hn.out;have:=mB.out;omega
          obtain⟨l,s,mm,e,hx⟩:∃l s mm e,p[j-1]=(l,s,mm,e):=⟨_,_,_,_,rfl⟩;obtain⟨tb,ob,hab,hwn⟩:=(Ha.out.below Hb.out).term (j-1) vr hx;have aQ:=fW n cap (j-1) ((j-1:Nat):Int) hab (by have:=Hn.out;omega) rfl;have mV:=Sy.out (j-1) vr;have hg1:=TA.out (j-1) vr;have hg2:=afz.out (j-1) vr;rw[hx]at mV hg1 hg2;have hkl:k<l.length:=by rw[mV.1];exact oc
          have hst:=rP l (k:Int) k hkl rfl;have hex:l[k].toNat=q9:=by
           have h1:eX k (l,s,mm,e)=l[k].toNat:=by rw[mV.2,List.getD_eq_getElem?_getD,List.getElem?_eq_getElem hkl];rfl
           rw[h1]at hg1 hg2;have:=uC.out;omega
          rw[hex]at hst;obtain⟨y0,_,_,_⟩:=hwn.w4;have hj0:decide (0<j)=true:=by simp;omega
          have hjn:j<=4096:=by have:=mB.out;omega
          have hw1:IntKind.i64.wrap ((j:Int)-1)=((j-1:Nat):Int):=by rw[IntKind.wrap_i64];omega
          have hw2:IntKind.i64.wrap (q9:Int)=(q9:Int):=by have:=uC.out;rw[IntKind.wrap_i64];omega
          clear mV hg1 hg2 hex hab hx hwn;go_wp2;go_roundw;case rel=>exact⟨j-1,by omega,by omega,by go_num,trivial⟩
          case measure=>exact bf
        . obtain rfl:j=tQ:=by omega
          by_cases hj0:j=0
          . have hd0:decide (0<j)=false:=by simp;omega
            go_wp2_with fail;go_meet;exact⟨rfl,rfl⟩
          have vr:j-1<p.length:=by have:=Hn.out;have:=mB.out;omega
          obtain⟨l,s,mm,e,hx⟩:∃l s mm e,p[j-1]=(l,s,mm,e):=⟨_,_,_,_,rfl⟩;obtain⟨tb,ob,hab,hwn⟩:=(Ha.out.below Hb.out).term (j-1) vr hx;have aQ:=fW n cap (j-1) ((j-1:Nat):Int) hab (by have:=Hn.out;omega) rfl;have mV:=Sy.out (j-1) vr;have hg1:=TA.out (j-1) vr;rw[hx]at mV hg1;have hkl:k<l.length:=by rw[mV.1];exact oc
          have hst:=rP l (k:Int) k hkl rfl;obtain⟨x9,PM⟩:=az (l[k].toNat);have hex:x9<q9:=by
           have h1:eX k (l,s,mm,e)=l[k].toNat:=by rw[mV.2,List.getD_eq_getElem?_getD,List.getElem?_eq_getElem hkl];rfl
           rw[h1,PM]at hg1;have:=uC.out;omega
          rw[PM]at hst;obtain⟨y0,_,_,_⟩:=hwn.w4;have hd1:decide (0<j)=true:=by simp;omega
          have hjn:j<=4096:=by have:=mB.out;omega
          have hw1:IntKind.i64.wrap ((j:Int)-1)=((j-1:Nat):Int):=by rw[IntKind.wrap_i64];omega
          have avg:q9<=127:=by have:=uC.out;omega
          have hw2:IntKind.i64.wrap (x9:Int)=(x9:Int):=by rw[IntKind.wrap_i64];omega
          have hne:((x9:Int)==(q9:Int))=false:=by simp;omega
          clear mV hg1 hex hab hx hwn PM;go_wp2_with fail;go_meet;exact⟨rfl,rfl⟩
      case rest=>
       obtain⟨rfl,rfl⟩:=hcut;obtain⟨ae,ai⟩:=qZ (Hz.an<|Hq.an trivial);have HU:Hid (aM wo (a') (c') (H m)):=HU.out;by_cases hsk:(H m).length=0/\tQ=hi
       . obtain⟨gB,rfl⟩:=hsk;have hHe:=agU.out gB rfl;have hl0:(((H m).length:Int)==0)=true:=by rw[gB];rfl
         have hrl:H (m+1)=H m:=by rw[hHe];exact(List.length_eq_zero_iff.1 gB).symm
         have hw3:IntKind.i64.wrap ((q9:Int)-1)=127-((m+1:Nat):Int):=by have:=uC.out;rw[IntKind.wrap_i64];omega
         go_wp2;go_roundw;case rel=>exact⟨m+1,a',c',by omega,rfl,by rw[show 128-(m+1)=127-m by omega,BO.out],rfl,ae.1.out,by rw[hrl];exact ae.2.1.out,by rw[hrl];exact HU.out,Hb.out⟩
         case measure=>simp[intOf];have:=uC.out;omega
       . have Jb:=ae6.out hsk;have uy:=aj (Hl.out.below Hb.out);obtain⟨ae,ai⟩:=qZ (uy.an<|HU.an ae);have lbr:lb<wo.heap.size:=World.block_lt_of_cell? wo _ ae.1.out.w2.1;go_upto_region 13 with fail
         go_cut[78] (λs78 wx=>s78=ag false/\wo=wx);case first=>
          by_cases hl0:(H m).length=0
          . have od:(((H m).length:Int)==0)=true:=by rw[hl0];rfl
            have hje:((tQ:Int)==(hi:Int))=false:=by simp;omega
            go_wp2_with fail;go_meet;exact⟨rfl,rfl⟩
          . have od:(((H m).length:Int)==0)=false:=by simpa using hl0
            go_wp2_with fail;go_meet;exact⟨rfl,rfl⟩
         case rest=>
          obtain⟨rfl,rfl⟩:=hcut;have aG:=qL (Hb.an ae);go_wp2_with fail;refine bP wo (Hb.an ae) 41 [af 0,.slice none 0 0] λW4 aG ae ai=>?_;have ae:=And.intro ae.1<|And.intro ae.2.1<|And.intro ae.2.2.2.1<|And.intro ae.2.2.2.2.1<|And.intro ae.2.2.2.2.2.1<|And.intro ae.2.2.1 trivial
          refine cQ 11 (ae.2.2.2.2.2) (cM 12 0x161413110f0c0a0009070503) ?_;refine bC ?_;have ai:=qC ae;refine qOp λK hK=>?_;go_simp;refine hK _ _ (by first|exact λ_=>QIm.out ae|exact λ_=>QIm.out (qDw (w:=W4) ae)) ?_;try simp only[UU]
          refine qK 41 [af (V:Int),.slice a' (H m).length c',af (V:Int),.slice aL (ls k).length cL] ae λW5 aG ae=>?_;refine qOp λK hK=>?_;go_simp;with_reducible refine(BP.out m DL Jb _ a' c' _ ae.2.2.1.out ae.1.out ae.2.2.2.1.out).mono ?_
          rintro e w6 ⟨a9,c9,rfl,ky,hq⟩;refine ml hK hq ae λae=>?_;clear hK K hq;refine bC ?_;have ai:=qC ae;refine qOp λK hK=>?_;go_simp;refine QT (aN w6 (w1.heap.size) 0 [af (V:Int),.slice a9 (aS (fp (H m) (ls k))).length c9]) aU ?_;intro W7 hs0;have gT:=ae;have ae:=bG hs0 gT;simp only[bA,List.set]at ae;have ai:=qC ae;refine hK _ _ (λ_=>QIm.out ae) ?_;try simp only[UU]
          have ai:=qC ae;refine qOp λK hK=>?_;go_simp;refine hK _ _ (λh=>absurd h zd) ?_;try simp only[UU]
          refine cP ae λai=>?_;have HU:Hid (aM W7 (a9) (c9) (aS (fp (H m) (ls k)))):=ky.sts gT.2.2.2.2.2.1.out hs0;clear ky hs0;have hwk:IntKind.i64.wrap ((k:Int)+1)=((k+1:Nat):Int):=by have:=HkL.out;rw[IntKind.wrap_i64];omega
          have am4:=wN.out;have hic:hi<=cap:=by have:=KL.out;have:=mB.out;omega
          go_wp2_with fail;refine(agJ.out _ ae.2.2.1.out).mono ?_;rintro e w8 ⟨a8,c8,rfl,fL,ak⟩;obtain⟨ae,ai⟩:=qX ak (HU.an ae);have HT:Hid (aM w8 (a8) (c8) (g (127-m))):=fL;clear fL am4 hwk hic;have uq:=ae.1;have SK:=HT;(focus go_upto_region 18 with fail)
          first|refine eu (aN w8 (wo.heap.size) 0 [af (V:Int),.slice a8 (g (127-m)).length c8]) aU ?_|refine dS (aN w8 (wo.heap.size) 0 [af (V:Int),.slice a8 (g (127-m)).length c8]) aU ?_
          intro W9 hs0;have gT:=ae;have ae:=bG hs0 gT;simp only[bA,List.set]at ae;have ai:=qC ae;have HU:Hid (aM W9 (a9) (c9) (aS (fp (H m) (ls k)))):=uq.out.sts gT.2.2.1.out hs0;have HT:Hid (aM W9 (a8) (c8) (g (127-m))):=SK.out.sts gT.2.2.1.out hs0;clear uq SK hs0;have aG:=qL (HU.an<|HT.an ae);go_wp2_with fail;refine bP W9 (HU.an<|HT.an ae) 41 [af (V:Int),.slice a9 (aS (fp (H m) (ls k))).length c9,af (V:Int),.slice a8 (g (127-m)).length c8] λW10 aG ae ai=>?_;go_wp2_with fail;refine(pC.out m DL Jb _ a9 c9 a8 c8 _ ae.2.2.2.2.2.2.1.out ae.1.out ae.2.1.out ae.2.2.1.out).mono ?_;rintro e jz ⟨sQ,c11,rfl,DX,ak⟩;obtain⟨ae,ai⟩:=qX ak ae;(focus go_upto_region 20 with fail)
          first|refine eu (aN jz (w1.heap.size) 0 [af (V:Int),.slice sQ (H (m+1)).length c11]) aU ?_|refine dS (aN jz (w1.heap.size) 0 [af (V:Int),.slice sQ (H (m+1)).length c11]) aU ?_
          intro zz hs0;have gT:=ae;have ae:=bG hs0 gT;simp only[bA,List.set]at ae;have ai:=qC ae;have HU:Hid (aM zz (sQ) (c11) (H (m+1))):=DX.sts gT.2.2.2.2.2.2.2.2.2.1.out hs0;clear DX hs0;have hw3:IntKind.i64.wrap ((q9:Int)-1)=127-((m+1:Nat):Int):=by have:=uC.out;rw[IntKind.wrap_i64];omega
          go_wp2;go_roundw;case rel=>exact⟨m+1,sQ,c11,by omega,rfl,by rw[show 128-(m+1)=127-m by omega,BO.out],rfl,ae.2.2.2.2.2.2.2.2.1.out,ae.2.2.2.2.2.2.2.2.2.1.out,HU.out,ae.2.2.2.2.2.2.1.out⟩
          case measure=>simp[intOf];have:=uC.out;omega
    . obtain rfl:m=128:=lC.out m hm hlt;have WA:¬(0:Int)<=127-((128:Nat):Int):=by omega
      obtain⟨Hz,Hq,HU,Hb⟩:=bU hz hq hu pb;clear hz hq hu pb;obtain⟨ae,ai⟩:=qZ (Hz.an<|Hq.an trivial);have bR:=ae.1;go_wp2;refine dA (aN wr (w.heap.size) 0 [af (V:Int),.slice a' (H 128).length c']) aU ?_;intro w9 hs0;have ae:=bG hs0 (Hb.an ae);simp only[bA,List.set]at ae;have ai:=qC ae;refine bodyPost_ret (v:=.tuple #[.agg #[af (V:Int),.slice a' (H 128).length c'],af 0]) (by simp[results,Tryz.results149,go_sem,ai]) rfl ⟨a',c',rfl,HU.out.sts bR.out hs0,ae.1.out⟩
def aqQ (l:List UInt8)(L:Nat)(h:l.length=L)(r:Nat)(hr:r<=L):remS L r l=((l.drop (L-r)).map UInt8.toNat).sum:=by
 induction r with
 |zero=>rw[Nat.sub_zero,List.drop_of_length_le zo];rfl
 | succ r ih=>
   have hk:L-(r+1)<l.length:=by omega
   rw[remS,ih zo,List.drop_eq_getElem_cons hk,List.map_cons,List.sum_cons,show L-(r+1)+1=L-r by omega,List.getD_eq_getElem?_getD,List.getElem?_eq_getElem hk];rfl
def QZ (l:List UInt8)(L:Nat)(h:l.length=L):remS L L l=degN l:=by rw[aqQ l L h L (Nat.le_refl _),Nat.sub_self,List.drop_zero];rfl
def arS (V V':Int)(aT:Option Addr)(nT cT:Nat)(bv:Nat)(w:World)(hc:w.cell? ⟨bv,0,none⟩=some (af V)):
 Cv 148 #[.agg #[af V',.slice aT nT cT],.pointer (some ⟨bv,0,none⟩)] w (ag (V' !=V)):=by
 have Hc:=aj hc;clear hc;obtain⟨W,bX,ae,ai⟩:=fy w 41 [af V',.slice aT nT cT];have k1:=cell_later ae.1.out Hc.out;go_enter Tryz.func148,Tryz.ntmps148;go_wp2;refine bodyPost_ret (results_tmp rfl _ _ _) rfl ⟨rfl,ae.1.out⟩
def ui (Vq:Int)(q:List Trm)(L:Nat):Int:=if gP Vq q=0 then if(L:Int)=Vq then 0 else 1 else gP Vq q
def My (c:Int)(V:Nat)(C:List Trm)(w:World)(e:Ending)(w':World):Prop:=
 ∃(v:Int) (a':Option Addr) (n' c':Nat),e=.returned (.tuple #[.agg #[af v,.slice a' n' c'],af c])/\(c=0->v=V/\n'=C.length/\aM w' a' c' C)/\Bw w w'
def arT (V L D C K M A B:Nat)(ls:Nat->List Trm)(ps:List Pv)(la:Option Addr)(ni:Nat)(hok:SubOk V L D C K M ls)(hV:0<V)(hV2:V<=12)(hB:A+13* (L+2)+D*K+K<=B)(Ic:C<=B)(hBm:B<=100000000)(hps:ps.length=L)(oK:0<L)(hL:L<=1000)
 (Vq:Int) (a:Option Addr) (n cap:Nat) (q:List Trm) (w:World) (hn:q.length=n) (bH:n<=4096) (hs:Sl a n cap) (ha:At w a (q.flatMap aH)) (eN:At w la (ps.flatMap eJ)) (hls:dK w V B ps ls) (hT:aB w)
 (hq:∀t∈q,t.1.length<=1000/\Fit A t.2/\degN t.1<=D):
 Cl 76 #[.agg #[af Vq,.slice a n cap],.slice la L ni] w (My (ui Vq q L) V (dv V ls L L q) w):=by
 have cF:=λW (hW:Bw w W)=>Ba Vq a cap n q W hn zo (ha.below hW) (λt ht=>⟨by have:=(hq t ht).1;omega,(hq t ht).2.1.1⟩) (hT.below hW);obtain⟨c,hc⟩:=az (gP Vq q);have lV:ui Vq q L=if c=0 then if(L:Int)=Vq then 0 else 1 else c:=by unfold ui;rw[hc]
 rw[hc]at cF;obtain⟨P,hP⟩:=az (dv V ls L L q);rw[hP,lV];by_cases h0:c=0
 rotate_left
 . rw[if_neg h0];have gu:=aj cF;have GY:((c:Int)==0)=false:=by simpa using h0
   have xn:(c !=0)=true:=by simpa using h0
   clear cF hq ha eN hls hT hs hn hc lV hP hps hok;have Hb:=hbz w;go_enter Tryz.func76,Tryz.ntmps76;go_wp2_with fail;refine gG w (Hb.an trivial) 41 [af Vq,.slice a n cap] 41 [af 0,.slice none 0 0] λW aG ae ai=>?_;go_wp2_with fail;refine aJ ae (gu.out _ ae.2.2.1.out) λw1 ae ai=>?_;go_wp2;refine dA (aN w1 (w.heap.size+1) 0 [af 0,.slice none 0 0]) aU ?_;intro w9 hs0;have ae:=bG hs0 ae;simp only[bA,List.set]at ae;have ai:=qC ae;refine bodyPost_ret (v:=.tuple #[.agg #[af 0,.slice none 0 0],af c]) (by simp[results,Tryz.results76,go_sem,ai]) rfl ⟨0,none,0,0,rfl,λh=>absurd h h0,ae.2.2.1.out⟩
 subst h0;rw[if_pos rfl];by_cases hLV:(L:Int)=Vq
 rotate_left
 . rw[if_neg hLV];have gu:=aj cF;have xn:((L:Int) !=Vq)=true:=by simpa using hLV
   have GY:((L:Int)==Vq)=false:=by simpa using hLV
   clear cF hq ha eN hls hT hs hn hc lV hP hps hok;have Hb:=hbz w;go_enter Tryz.func76,Tryz.ntmps76;go_wp2_with fail;refine gG w (Hb.an trivial) 41 [af Vq,.slice a n cap] 41 [af 0,.slice none 0 0] λW aG ae ai=>?_;go_wp2_with fail;refine aJ ae (gu.out _ ae.2.2.1.out) λw1 ae ai=>?_;go_wp2;refine dA (aN w1 (w.heap.size+1) 0 [af 0,.slice none 0 0]) aU ?_;intro w9 hs0;have ae:=bG hs0 ae;simp only[bA,List.set]at ae;have ai:=qC ae;refine bodyPost_ret (v:=.tuple #[.agg #[af 0,.slice none 0 0],af 1]) (by simp[results,Tryz.results76,go_sem,ai]) rfl ⟨0,none,0,0,rfl,λh=>(by cases h),ae.2.2.1.out⟩
 rw[if_pos hLV];subst hLV;have hpo:=QO hc;have hlen:∀t∈q,t.1.length=L:=λt ht=>AR (hpo.2.1 t ht)
 have hpi:PutIn L D L q:=⟨hpo.1.1,hlen,λt ht c hc=>by
  have h:=hpo.2.1 t ht;unfold bZ at h;simp only[Bool.and_eq_true,decide_eq_true_eq,List.all_eq_true]at h
  exact h.1 c hc,λt ht=>by rw[QZ t.1 L (hlen t ht)];exact(hq t ht).2.2,λt _ u _ k hk=>by omega⟩
 have hput:=λW (hW:Bw w W)=>ajR V L D C K M A B ls ps la ni hok hV hV2 hB Ic hBm hps hL L a n cap q W (Nat.le_refl _) hn bH hs (ha.below hW) (eN.below hW) (hls.below hW) (hT.below hW) hpi (λt ht=>(hq t ht).2.1);rw[Nat.sub_self,hP]at hput;have eg:∀args w,(callFunc 148 args).run Tryz.prog w=.ok (.enter 148 args) w:=enters_of Tryz.func148 zk rfl;have hct:∀W bl,Bw w W->W.cell? ⟨bl,0,none⟩=some (af (V:Int))->Cv 147 #[.slice la L ni,.func (.func 148) #[] #[.pointer (some ⟨bl,0,none⟩)]] W (ag false):=by
  intro W bl hW hcl;have h:=VD la L ni ps 148 #[.pointer (some ⟨bl,0,none⟩)] (λp=>p.V !=(V:Int)) W hps zo (eN.below hW) eg (λx hx W2 hW2=>by simpa using arS (V:Int) x.V x.a x.n x.c bl W2 (cell_later hW2 hcl));have hf:(ps.any λp=>p.V !=(V:Int))=false:=by rw[List.any_eq_false];intro p xO;obtain⟨k,hk,rfl⟩:=List.mem_iff_getElem.1 xO;obtain⟨a,c,e1,_,_⟩:=hls k hk;rw[e1];simp
  rwa [hf]at h
 have Yf:=λW (hW:Bw w W) k (hk:k<ps.length)=>(show ∃a c,ps[k]=⟨(V:Int),a,(ls k).length,c⟩/\Cv 79 #[.agg #[af (V:Int),.slice a (ls k).length c]] W (af 0)from by
  obtain⟨a,c,e1,h1,h2⟩:=hls k hk;refine⟨a,c,e1,?_⟩;have h:=Ba (V:Int) a c (ls k).length (ls k) W rfl (by have:=h2.1.2.2.1;omega) (h1.1.below hW) h2.chk (hT.below hW)
  rwa [JI h2.1]at h)
 obtain⟨a1,c1,e1,_,_⟩:=hls 0 zo;obtain⟨b0,o0,tu,hw0⟩:=eN.awJ 0 zo e1;have xy:=mY L ni 0 0 tu oK rfl;rw[Nat.zero_mul,Nat.add_zero]at xy hw0;obtain⟨gu,LP,uv,Td,Ha,HL,Ml⟩:=jv cF hput hct Yf eN hps hw0;have AO:=World.block_lt_of_cell? w _ hw0.w2.1;simp only at AO;clear cF hq ha eN hls hT hs hn hc lV hP hps hok hput hct Yf hpo hlen hpi eg tu hw0 e1;have hLn:decide ((0:Int)<(L:Int))=true:=by simp;omega
 have NM:(0:Int)<(L:Int):=by omega
 have Hb:=hbz w;go_enter Tryz.func76,Tryz.ntmps76;go_wp2_with fail;refine gG w (Hb.an trivial) 41 [af (L:Int),.slice a n cap] 41 [af 0,.slice none 0 0] λW aG ae ai=>?_;go_wp2_with fail;refine aJ ae (gu.out _ ae.2.2.1.out) λw1 ae ai=>?_;obtain⟨W2,kP,aG,ae,ai⟩:=cg w1 ae 3 [af 0];go_wp2_with fail;first|refine eu (aN W2 (w1.heap.size) 0 [af 0]) aU ?_|refine dS (aN W2 (w1.heap.size) 0 [af 0]) aU ?_
 intro W3 hs0;have ae:=bG hs0 ae;simp only[bA,List.set]at ae;have ai:=qC ae;go_loopw[28] (λx wr=>∃k:Nat,k<=L/\x=af (k:Int)/\ar wr w.heap.size 41 [af (L:Int),.slice a n cap]/\ar wr (w.heap.size+1) 41 [af 0,.slice none 0 0]/\ar wr w1.heap.size 3 [af 0]/\Bw w wr) (λx _=>L-(intOf x).toNat);case atStart=>exact⟨0,Nat.zero_le _,rfl,ae.2.1.out,ae.2.2.1.out,ae.1.out,ae.2.2.2.1.out⟩
 case round=>
  skip
  obtain⟨k,hk,rfl,hp,hr,hv,pb⟩:=hrel;obtain⟨Hp,Hr,Hv,Hb⟩:=bU hp hr hv pb;clear hp hr hv pb;by_cases hlt:k<L
  . have hk2:k<ps.length:=by rw[HL.out];exact hlt
    obtain⟨a1,c1,e1,hcall⟩:=Td.out wr Hb.out k hk2;obtain⟨b',o',hab,bJ⟩:=(Ha.out.below Hb.out).awJ k hk2 e1;have hcall:=λW (hW:Bw w W)=>(Td.out W hW k hk2);have aQ:=mY L ni k (k:Int) hab hlt rfl;obtain⟨nT,qA⟩:=az ((ls k).length);have Ou:Hid (∀W,Bw w W->Cv 79 #[.agg #[af (V:Int),.slice a1 nT c1]] W (af 0)):=by intro W hW;obtain⟨a2,c2,e2,h2⟩:=hcall W hW;rw[e1]at e2;simp only[Pv.mk.injEq,true_and]at e2;obtain⟨rfl,rfl⟩:=e2;rw[qA]at h2;exact h2
    rw[qA]at bJ;have Hx:Hid (aR wr b' (o'+k*2) [af (V:Int),.slice a1 nT c1]):=bJ;clear bJ hcall hab e1 qA;obtain⟨ae,ai⟩:=qZ (Hp.an<|Hr.an<|Hv.an<|Hx.an trivial);have aG:=qL (Hb.an ae);go_wp2_with fail;refine bP wr (Hb.an ae) 41 [af (V:Int),.slice a1 nT c1] λW4 aG ae ai=>?_;go_wp2_with fail;refine aJ ae (Ou.out _ ae.2.1.out) λw5 ae ai=>?_;go_wp2;go_roundw;case rel=>exact⟨k+1,by omega,by go_num,ae.2.2.1.out,ae.2.2.2.1.out,ae.2.2.2.2.1.out,ae.2.1.out⟩
    case measure=>exact bf
  . obtain rfl:k=L:=by omega
    have Hx:Hid (aR wr b0 o0 [af (V:Int),.slice a1 (ls 0).length c1]):=Ml.out.below Hb.out;obtain⟨ae,ai⟩:=qZ (Hp.an<|Hr.an<|Hv.an<|Hx.an trivial);go_wp2_with fail;first|refine eu (aN wr (w1.heap.size) 0 [af (V:Int)]) aU ?_|refine dS (aN wr (w1.heap.size) 0 [af (V:Int)]) aU ?_
    intro W6 hs0;have ae:=bG hs0 (Hb.an ae);simp only[bA,List.set]at ae;have ai:=qC ae;have v0:W6.cell? ⟨w1.heap.size,0,none⟩=some (af (V:Int)):=ae.2.2.2.1.out.cell 0;go_wp2_with fail;refine aJ ae (uv.out _ _ ae.1.out v0) λw7 ae ai=>?_;go_wp2_with fail;refine(LP.out _ ae.1.out).mono ?_;rintro e w8 ⟨a',c',rfl,fL,ak⟩;obtain⟨ae,ai⟩:=qX ak ae;have HU:Hid (aM w8 (a') (c') P):=fL;clear fL;have uq:=HU;have wL:=ae.2.2.1;go_wp2;refine dA (aN w8 (w.heap.size+1) 0 [af (V:Int),.slice a' P.length c']) aU ?_;intro w9 hs0;have ae:=bG hs0 ae;simp only[bA,List.set]at ae;have ai:=qC ae;refine bodyPost_ret (v:=.tuple #[.agg #[af (V:Int),.slice a' P.length c'],af 0]) (by simp[results,Tryz.results76,go_sem,ai]) rfl ⟨(V:Int),a',P.length,c',rfl,λ_=>⟨rfl,rfl,uq.out.sts wL.out hs0⟩,ae.1.out⟩
def Wk (V L D C K M A B:Nat)(ls:Nat->List Trm)(ps:List Pv)(la:Option Addr)(ni:Nat)(hok:SubOk V L D C K M ls)(hV:0<V)(hV2:V<=12)(hB:A+13* (L+2)+D*K+K<=B)(Ic:C<=B)(hBm:B<=100000000)(hps:ps.length=L)(oK:0<L)(hL:L<=1000)
 (Vq:Int) (a:Option Addr) (n cap:Nat) (q:List Trm) (w:World) (hn:q.length=n) (bH:n<=4096) (hs:Sl a n cap) (ha:At w a (q.flatMap aH)) (eN:At w la (ps.flatMap eJ)) (hls:dK w V B ps ls) (hT:aB w)
 (hq:∀t∈q,t.1.length<=1000/\Fit A t.2/\degN t.1<=D):
 Cl 18 #[.agg #[af Vq,.slice a n cap],.slice la L ni] w (My (ui Vq q L) V (dv V ls L L q) w):=by
 have hsu:=λW (hW:Bw w W)=>arT V L D C K M A B ls ps la ni hok hV hV2 hB Ic hBm hps oK hL Vq a n cap q W hn bH hs (ha.below hW) (eN.below hW) (hls.below hW) (hT.below hW) hq;obtain⟨c,hc⟩:=az (ui Vq q L);obtain⟨P,hP⟩:=az (dv V ls L L q);rw[hc,hP]at hsu⊢;have xx:∀k,k<L->∀t∈ls k,t.1.length<=12/\(∀c∈t.1,c.toNat<=127)/\degN t.1<=1:=λk hk t ht=>by have h:=hok.deg k hk t ht;have h2:=h.1;unfold bZ at h2;simp only[Bool.and_eq_true,decide_eq_true_eq,List.all_eq_true]at h2;exact⟨by have:=AR h.1;omega,h2.1,h.2⟩
 obtain⟨Hsu,KT,Ha,FD,HL⟩:=eV hsu xx eN hls hps;clear hsu xx eN hls hps hok hq ha hs hT hn hc hP;have Hb:=hbz w;go_enter Tryz.func18,Tryz.ntmps18;go_wp2_with fail;refine gG w (Hb.an trivial) 41 [af Vq,.slice a n cap] 41 [af 0,.slice none 0 0] λW aG ae ai=>?_;go_loopw[12] (λx wr=>∃k:Nat,k<=L/\x=af (k:Int)/\ar wr w.heap.size 41 [af Vq,.slice a n cap]/\ar wr (w.heap.size+1) 41 [af 0,.slice none 0 0]/\Bw w wr) (λx _=>L-(intOf x).toNat);case atStart=>exact⟨0,Nat.zero_le _,rfl,ae.1.out,ae.2.1.out,ae.2.2.1.out⟩
 case round=>
  skip
  obtain⟨k,hk,rfl,hp,hr,pb⟩:=hrel;obtain⟨Hp,Hr,Hb⟩:=bM hp hr pb;clear hp hr pb;by_cases hlt:k<L
  . have hk2:k<ps.length:=by rw[HL.out];exact hlt
    obtain⟨a1,c1,e1,hp1,Ds⟩:=FD.out k hk2;have Xa:(ls k).length<=4096:=Ds.1.2.2.1;clear Ds;obtain⟨b',o',hab,bJ⟩:=(Ha.out.below Hb.out).awJ k hk2 e1;have aQ:=mY L ni k (k:Int) hab hlt rfl;have hd1:=KT.out k hlt;generalize ls k=ts at*;obtain⟨N,hN⟩:=az ts.length;rw[hN]at bJ Xa;have Hx:Hid (aR wr b' (o'+k*2) [af (V:Int),.slice a1 N c1]):=bJ;obtain⟨Hts,Hd1,HN⟩:=bM (hp1.1.below Hb.out) hd1 hN;clear bJ hab e1 hN hp1 hd1;obtain⟨wo,hwo⟩:∃u,u=wr:=⟨_,rfl⟩;subst hwo;have jC:=Hb;obtain⟨ae,ai⟩:=qZ (Hp.an<|Hr.an<|Hx.an trivial);have HY:Hid (At wo a1 (ts.flatMap aH)):=Hts.out;have aG:=qL (Hb.an<|HY.an ae);go_wp2_with fail;refine bP wo (Hb.an<|HY.an ae) 41 [af (V:Int),.slice a1 N c1] λW4 aG ae ai=>?_;go_wp2_with fail;go_loopw[19] (λx wr=>∃j:Nat,j<=N/\x=af (j:Int)/\ar wr w.heap.size 41 [af Vq,.slice a n cap]/\ar wr (w.heap.size+1) 41 [af 0,.slice none 0 0]/\At wr a1 (ts.flatMap aH)/\Bw w wr) (λx _=>N-(intOf x).toNat);case atStart=>exact⟨0,Nat.zero_le _,rfl,ae.2.2.2.1.out,ae.2.2.2.2.1.out,ae.2.2.1.out,ae.2.1.out⟩
    case round=>
     skip
     obtain⟨j,hj,rfl,hp,hr,hy,pb⟩:=hrel;obtain⟨Hp,Hr,Hb,HY⟩:=bU hp hr pb hy;clear hp hr pb hy;by_cases hlj:j<N
     . have gL:j<ts.length:=by rw[HN.out];exact hlj
       obtain⟨l,s,m,e,hx⟩:∃l s m e,ts[j]=(l,s,m,e):=⟨_,_,_,_,rfl⟩;obtain⟨b,o,hab,hw⟩:=HY.out.term j gL hx;have aQ:=fW N c1 j (j:Int) hab hlj rfl;have hd2:l.length<=12/\(∀c∈l,c.toNat<=127)/\degN l<=1:=by have:=Hd1.out _ (List.getElem_mem gL);rw[hx]at this;exact this
       have tB:∀W,Cv 75 #[ah l] W (af (degN l:Int)):=λW=>VO l W (by have:=hd2.1;omega) hd2.2.1;have hd3:¬(1:Int)<(degN l:Int):=by have:=hd2.2.2;show ¬_<_;omega
       generalize degN l=dg at*;have KS:=aj tB;have Hy:Hid (aR wr b (o+j*4) [ah l,ag s,ah m,af e]):=hw;clear tB hab hw hx hd2;obtain⟨ae,ai⟩:=qZ (Hp.an<|Hr.an<|Hy.an trivial);have HY:Hid (At wr a1 (ts.flatMap aH)):=HY.out;have aG:=qL (Hb.an<|HY.an ae);go_wp2_with fail;refine bP wr (Hb.an<|HY.an ae) 111 [ah l,ag s,ah m,af e] λW5 aG ae ai=>?_;go_wp2_with fail;refine aJ ae (KS.out _) λw6 ae ai=>?_;go_wp2;go_roundw;case rel=>exact⟨j+1,by omega,by go_num,ae.2.2.2.1.out,ae.2.2.2.2.1.out,ae.2.2.1.out,ae.2.1.out⟩
       case measure=>exact bf
     . obtain rfl:j=N:=by omega
       go_wp2;go_roundw;case rel=>exact⟨k+1,by omega,by go_num,Hp.out,Hr.out,Hb.out⟩
       case measure=>exact bf
  . obtain rfl:k=L:=by omega
    obtain⟨ae,ai⟩:=qZ (Hp.an<|Hr.an trivial);go_wp2_with fail;refine(Hsu.out _ Hb.out).mono ?_;rintro e w8 ⟨v,a',n',c',rfl,xt,ak⟩;obtain⟨ae,ai⟩:=qX ak (Hb.an ae);have yK:=aj xt;clear xt;have wL:=ae.2.2.1;go_wp2;refine dA (aN w8 (w.heap.size+1) 0 [af v,.slice a' n' c']) aU ?_;intro w9 hs0;have ae:=bG hs0 ae;simp only[bA,List.set]at ae;have ai:=qC ae;refine bodyPost_ret (v:=.tuple #[.agg #[af v,.slice a' n' c'],af c]) (by simp[results,Tryz.results18,go_sem,ai]) rfl ⟨v,a',n',c',rfl,λh=>⟨(yK.out h).1,(yK.out h).2.1,(yK.out h).2.2.sts wL.out hs0⟩,ae.1.out⟩
def lM (Vq:Int)(q:List Trm):Bool:=decide (gP Vq q=0)&&(decide (0<q.length)&&decide (degN (q.getD 0 default).1=0))&&(List.range q.length).all λk=>decide (0<=bg (dval (q.getD k default).2))
def ak5 {Vq:Int}{q:List Trm}(h:gP Vq q≠0\/q.length=0\/degN (q.getD 0 default).1≠0\/∃k,k<q.length/\bg (dval (q.getD k default).2)<0):lM Vq q=false:=by
 unfold lM;rcases h with h|h|h|⟨k,hk,h⟩
 . simp[h]
 . simp[h]
 . rw[decide_eq_false h];simp
 . rw[Bool.and_eq_false_iff];refine .inr ?_;rw[List.all_eq_false];exact⟨k,List.mem_range.2 hk,by rw[decide_eq_false zo];simp⟩
def ak6 {Vq:Int}{q:List Trm}(h1:gP Vq q=0)(h2:0<q.length)(h3:degN (q.getD 0 default).1=0)(h4:∀k,k<q.length->0<=bg (dval (q.getD k default).2)):lM Vq q=true:=by unfold lM;simp only[h1,h2,h3,decide_true,Bool.true_and,List.all_eq_true,List.mem_range,decide_eq_true_eq];exact h4
def Wo (Vq:Int)(a:Option Addr)(n cap:Nat)(q:List Trm)(w:World)(hn:q.length=n)(bH:n<=4096)(ha:At w a (q.flatMap aH))(hT:aB w)(hq:∀t∈q,t.1.length<=1000/\Ok t.2):
 Cv 20 #[.agg #[af Vq,.slice a n cap]] w (ag (lM Vq q)):=by
 have cF:=λW (hW:Bw w W)=>Ba Vq a cap n q W hn zo (ha.below hW) (λt ht=>⟨by have:=(hq t ht).1;omega,(hq t ht).2⟩) (hT.below hW);obtain⟨c,hc⟩:=az (gP Vq q);rw[hc]at cF;obtain⟨F,hF⟩:=az (lM Vq q);rw[hF];have hno:(c≠0\/n=0\/degN (q.getD 0 default).1≠0\/∃k,k<n/\bg (dval (q.getD k default).2)<0)->F=false:=λh=>by rw[<-hF];exact ak5 (by rw[hc,hn];exact h)
 have Em:0<n->c=0->degN (q.getD 0 default).1=0->(∀k,k<n->0<=bg (dval (q.getD k default).2))->F=true:=λh1 h2 h3 h4=>by rw[<-hF];exact ak6 (by rw[hc];exact h2) (by rw[hn];exact h1) h3 (by rw[hn];exact h4)
 have DN:c=0->∀t∈q,∀c∈t.1,c.toNat<=127:=λh t ht=>((abR (hc.trans h)).2.2.2 t ht).2;obtain⟨gu,yT,Mr,Ha,Hn,Hq,HT,Hmy⟩:=nk cF hno Em ha hn hq hT DN;clear cF hno Em ha hn hq hT hc hF DN;have Hb:=hbz w;go_enter Tryz.func20,Tryz.ntmps20;go_wp2_with fail;refine bP w (Hb.an trivial) 41 [af Vq,.slice a n cap] λW aG ae ai=>?_;go_wp2_with fail;refine aJ ae (gu.out _ ae.2.1.out) λw1 ae ai=>?_;by_cases h0:c=0
 rotate_left
 . have GY:(c==0)=false:=by simpa using h0
   have xn:(c !=0)=true:=by simpa using h0
   obtain rfl:=yT.out (.inl h0);go_wp2;refine bodyPost_ret (results_tmp rfl _ _ _) rfl ⟨rfl,ae.2.1.out⟩
 subst h0;by_cases hn0:n=0
 . subst hn0;obtain rfl:=yT.out (.inr (.inl rfl));go_wp2;refine bodyPost_ret (results_tmp rfl _ _ _) rfl ⟨rfl,ae.2.1.out⟩
 have hnb:((n:Int)==0)=false:=by simpa using hn0
 have h0l:0<q.length:=by rw[Hn.out];omega
 have xn:0<n:=by omega
 obtain⟨l,s,m,e,hx⟩:∃l s m e,q[0]=(l,s,m,e):=⟨_,_,_,_,rfl⟩;obtain⟨b,o,hab,hw⟩:=(Ha.out.below ae.2.1.out).term 0 h0l hx;have aQ:=fW n cap 0 0 hab xn rfl;rw[Nat.zero_mul,Nat.add_zero]at aQ hw;have hgd:q.getD 0 default=(l,s,m,e):=by rw[List.getD_eq_getElem?_getD,List.getElem?_eq_getElem h0l,hx];rfl
 have tB:∀W,Cv 75 #[ah l] W (af (degN l:Int)):=λW=>VO l W (by have:=(Hq.out _ (List.getElem_mem h0l)).1;rw[hx]at this;exact Nat.le_trans this zd) (by have:=Hmy.out rfl _ (List.getElem_mem h0l);rw[hx]at this;exact this);have Zj:degN l≠0->F=false:=λh=>yT.out (.inr (.inr (.inl (by rw[hgd];exact h))));have aay:degN l=0->(∀k,k<n->0<=bg (dval (q.getD k default).2))->F=true:=λh=>Mr.out xn rfl (by rw[hgd];exact h);generalize degN l=dg at*;obtain⟨KS,agc,ahn⟩:=bM tB Zj aay;have Hx:Hid (aR w1 b o [ah l,ag s,ah m,af e]):=hw;clear tB Zj aay hab hw hx hgd;obtain⟨ae,ai⟩:=qZ (Hx.an ae);go_wp2_with fail;refine aJ ae (KS.out _) λw2 ae ai=>?_;by_cases hd0:dg=0
 rotate_left
 . have vp:((dg:Int)==0)=false:=by simpa using hd0
   have Dp:((dg:Int) !=0)=true:=by simpa using hd0
   obtain rfl:=agc.out hd0;go_wp2;refine bodyPost_ret (results_tmp rfl _ _ _) rfl ⟨rfl,ae.2.2.1.out⟩
 subst hd0;have cn:=ae.2.2.1;go_wp2_with fail;go_loopw[26] (λx wr=>∃k:Nat,k<=n/\x=af (k:Int)/\(∀j,j<k->0<=bg (dval (q.getD j default).2))/\Bw w wr) (λx _=>n-(intOf x).toNat);case atStart=>exact⟨0,Nat.zero_le _,rfl,λj h=>absurd h (Nat.not_lt_zero _),ae.2.2.1.out⟩
 case round=>
  skip
  obtain⟨k,hk,rfl,hall,pb⟩:=hrel;obtain⟨kL,Hb⟩:=aI hall pb;clear hall pb;by_cases hlt:k<n
  . have hk2:k<q.length:=by rw[Hn.out];exact hlt
    obtain⟨l,s,m,e,hx⟩:∃l s m e,q[k]=(l,s,m,e):=⟨_,_,_,_,rfl⟩;obtain⟨b,o,hab,hw⟩:=(Ha.out.below Hb.out).term k hk2 hx;have aQ:=fW n cap k (k:Int) hab hlt rfl;have hgd:q.getD k default=(l,s,m,e):=by rw[List.getD_eq_getElem?_getD,List.getElem?_eq_getElem hk2,hx];rfl
    have Pg:=(Hq.out _ (List.getElem_mem hk2)).2;rw[hx]at Pg;obtain⟨S,hS⟩:=az (bg (dval (s,m,e)));have jO:bg (dval (q.getD k default).2)=S:=by rw[hgd];exact hS
    have Hy:Hid (aR wr b (o+k*4) [ah l,ag s,ah m,af e]):=hw;obtain⟨iL,HS,agl⟩:=bM jO hS Pg;clear hab hw hx hgd jO hS Pg;obtain⟨ae,ai⟩:=qZ (Hy.an trivial);have aG:=qL (Hb.an ae);go_wp2_with fail;refine bP wr (Hb.an ae) 111 [ah l,ag s,ah m,af e] λW3 aG ae ai=>?_;go_wp2_with fail;refine aJ ae (lK s m e S HS.out _ agl.out) λw4 ae ai=>?_;by_cases pY:S<0
    . obtain rfl:=yT.out (.inr (.inr (.inr ⟨k,hlt,by rw[iL.out];exact pY⟩)));go_wp2;refine bodyPost_ret (results_tmp rfl _ _ _) rfl ⟨rfl,ae.2.1.out⟩
    . go_wp2;go_roundw;case rel=>
       refine⟨k+1,by omega,by go_num,λj h=>?_,ae.2.1.out⟩;by_cases hjk:j=k
       . subst hjk;rw[iL.out];omega
       . exact kL.out j zo
      case measure=>exact bf
  . obtain rfl:k=n:=by omega
    obtain rfl:=ahn.out (by trivial) kL.out;go_wp2;refine bodyPost_ret (results_tmp rfl _ _ _) rfl ⟨rfl,Hb.out⟩
end Go.Proofs.YtpfgffadgkkedaaGreatDoor
namespace Go.Proofs.YtpfgffadgkkedaaGreatDoor
def Nj (Y:Nat->Dyadic)(V:Nat)(ts:List Trm):mH Y V ts ts.length=bz (fw Y V) ts:=by rw[GN Y V ts _ (Nat.le_refl _),List.take_length]
def Wi {V C B:Nat}{ts:List Trm}{xs:List Raw}(hf:dJ V C ts)(hX:xs.length=V)(cS:∀x∈xs,Fit B x)(hB:B<=20000)(hC:C<=10000000):Sm 100000000 (mH (eT xs) V ts ts.length):=by
 have hV:V<=12:=hf.1.2.2.2;have hl:ts.length<=4096:=hf.1.2.2.1;have h:∀k,k<ts.length->Sm (C+V* (127*B+1)) (fx (eT xs) (dval (ts.getD k zT).2) (ts.getD k zT).1 V):=λk hk=>by rw[show ts.getD k zT=ts[k]by simp[List.getD_eq_getElem?_getD,hk]];have h2:=hf.1.2.1 _ (List.getElem_mem hk);unfold bZ at h2;simp only[Bool.and_eq_true,decide_eq_true_eq,List.all_eq_true]at h2;exact abn (hf.2 _ (List.getElem_mem hk)).2 h2.1 V (λj hj=>ads hX cS j hj)
 have h1:V* (127*B+1)<=12* (127*20000+1):=Nat.mul_le_mul hV zo;exact(Wh h _ (Nat.le_refl _)).mono zo
def akw (X:Dyadic):0<bg X↔0<X:=by
 have h1:=sW X;have h2:=Nc X;constructor
 . intro h;have a1:¬X<0:=λh4=>by have:=h1.2 h4;omega
   have a2:¬X=0:=λh4=>by have:=h2.2 h4;omega
   grind
 . intro h;have a1:¬bg X<0:=λh4=>by have:=h1.1 h4;grind
   have a2:¬bg X=0:=λh4=>by have:=h2.1 h4;grind
   omega
def Cs (bx:List (Raw×Raw))(rows:List (List Raw))(X:Nat->Dyadic):Prop:=∀k,k<mh bx.length rows.length->0<=bz (fw X (gD bx.length rows.length)) (iX bx rows k)
def ao7 {bx:List (Raw×Raw)}{tb:List UInt8}{xs:List Raw}(h:jG (bx.map dm)=0)(hx:xs=(List.range bx.length).map λk=>canon (rW bx (qH tb bx.length) k)):Cs bx [] (eT xs):=λk hk=>by
 have hk2:k<2*bx.length:=hk;show 0<=bz (fw (eT xs) bx.length) (nS bx.length (bx.map dm) k)
 have hi:k/2<bx.length:=by omega
 have hlt:=(ajq h).2 (dm bx[k/2]) (List.mem_map.2 ⟨_,List.getElem_mem hi,rfl⟩);have hid:=apA hlt;have hle:(dm bx[k/2]).1<=(dm bx[k/2]).2:=by have:=(sW _).1 hlt;grind
 have hg:(bx.map dm).getD (k/2) (0,0)=dm bx[k/2]:=by simp[hi]
 have hX:eT xs (k/2)=(dm bx[k/2]).1+cV tb (k/2) * ((dm bx[k/2]).2-(dm bx[k/2]).1):=by
  rw[yA xs _ (by rw[hx];simpa using hi)];have e1:xs[k/2]'(by rw[hx];simpa using hi)=canon (rW bx (qH tb bx.length) (k/2)):=by subst hx;simp
  rw[e1,bD];unfold rW;rw[show bx.getD (k/2) default=bx[k/2]by simp[hi],hid];have e2:(qH tb bx.length).getD (k/2) default=canon (cV tb (k/2)):=by unfold qH;simp[hi]
  rw[e2,bD];unfold wh;rw[hid]
 have hs:=arK _ _ _ hle (Vo tb (k/2)).1 (Vo tb (k/2)).2;unfold nS;rw[hg,hid];split
 . rw[aoa _ _ _ _ hi,hX];exact hs.1
 . rw[ams _ _ _ _ hi,hX];exact hs.2
def ao8 {rows:List (List Raw)}{V:Nat}{X:Nat->Dyadic}(h1:1<=V)(h4:V<=4)(hm:rows.length=V+1)(h:mZ V (eF rows) X):Cs [] rows X:=λk hk=>by
 have hV:gD ([]:List (Raw×Raw)).length rows.length=V:=by unfold gD;rw[hm,if_pos zo];omega
 have hT:iX [] rows=ij V (eF rows) V:=by unfold iX;rw[hm,if_pos zo];rfl
 have hk2:k<=V:=by unfold mh at hk;rw[hm,if_pos zo]at hk;omega
 rw[hV,hT,<-Nj,Nv V h1 h4 (eF rows) X k hk2];have:=h k hk2;grind
def abU {V D M N:Nat}(hV:V<=4)(h:D^4*M<=N)(hD:1<=D):D^V*M<=N:=
 Nat.le_trans (Nat.mul_le_mul_right _ (Nat.pow_le_pow_right hD hV)) h
def an2 {bx:List (Raw×Raw)}{rows:List (List Raw)}(hV:gD bx.length rows.length<=4)(hf:∀k,k<mh bx.length rows.length->dJ (gD bx.length rows.length) 993 (iX bx rows k))(hr:0<rows.length->1<=rows.length-1):SubOk (gD bx.length rows.length) (mh bx.length rows.length) 5 993 1018 5 (iX bx rows):=by
 refine⟨λk hk=>?_,λk hk t ht=>((hf k hk).2 t ht).2,by decide,by decide,λk hk=>?_,abU hV zd zd,by have:=abU (M:=1) (N:=2048) hV (show(5+1)^4*1<=2048 by decide) zd;omega⟩
 . unfold iX gD;split
   . exact ali _ _ _ _
   . unfold nS;split
     . exact aa9 _ _ _
     . exact YK _ _ _
 . unfold iX;unfold gD at hV;split
   . rename_i h0
     rw[if_pos h0]at hV;unfold ij;split
     . have:=Wp (rows.length-1) (eF rows) (rows.length-1);omega
     . have:=Qd (rows.length-1) (eF rows) (k-1);omega
   . unfold nS;split
     . have:=aba bx.length (k/2) (fG ((bx.map dm).getD (k/2) (0,0))).1;omega
     . have:=YL bx.length (k/2) (fG ((bx.map dm).getD (k/2) (0,0))).2;omega
def ak8 {V L D C K M:Nat}{l:Nat->List Trm}{q:List Trm}{X:Nat->Dyadic}(h:SubOk V L D C K M l)(hp:zw L q)(hd:∀t∈q,degN t.1<=D)(hX:∀k,k<L->0<=bz (fw X V) (l k))(hF:lM (L:Int) q=true):0<bz (fw X V) (dv V l L L q):=by
 have hlen:∀t∈q,t.1.length=L:=λt ht=>AR (hp.2.1 t ht)
 have e:=aro X h L D q (Nat.le_refl _) (Nat.le_refl _) (λt ht=>by rw[QZ t.1 L (hlen t ht)];exact hd t ht) hp.1.1 (λt ht=>⟨hlen t ht,λc hc=>by
  have h:=hp.2.1 t ht;unfold bZ at h;simp only[Bool.and_eq_true,decide_eq_true_eq,List.all_eq_true]at h
  exact h.1 c hc⟩) (λt _ u _ k hk=>by omega)
 rw[e];unfold lM at hF;simp only[Bool.and_eq_true,decide_eq_true_eq,List.all_eq_true,List.mem_range]at hF;obtain⟨⟨_,h0,h1⟩,h2⟩:=hF;have hnn:∀t∈q,0<=dval t.2:=λt ht=>by obtain⟨k,hk,rfl⟩:=List.mem_iff_getElem.1 ht;have h9:=h2 k hk;rw[List.getD_eq_getElem?_getD,List.getElem?_eq_getElem hk]at h9;have h8:=mt (sW (dval q[k].2)).2 (by have:0<=bg (dval q[k].2):=h9;omega);grind
 cases q with
 |nil=>simp at h0
 |cons x p=>have h1':degN x.1=0:=h1;refine ak7 hX (λk _=>by have:=vY x.1 k;have h7:fP x.1=0:=h1';omega) ?_ (λt ht=>hnn t (by simp[ht]));have hx:=hnn x zm;have hnz:=(hp.1.2 x zm).1;grind
end Go.Proofs.YtpfgffadgkkedaaGreatDoor
namespace Go.Proofs.YtpfgffadgkkedaaGreatDoor
open Go.RowKit
attribute [local go_sem ↓] Go.wp_at_zero Go.wp_at_succ
def kH (f:Nat->List UInt8)(xs:List Raw)(k:Nat):List Trm:=(List.range k).map λi=>(f i,xs.getD i default)
def asi (f:Nat->List UInt8)(xs:List Raw)(k:Nat):(kH f xs (k+1)).flatMap aH=(kH f xs k).flatMap aH++aH (f k,xs.getD k default):=by unfold kH;rw[List.range_succ,List.map_append,List.flatMap_append];simp
def asl (V n B:Nat)(a:Option Addr)(cap:Nat)(xs:List Raw)(gf:Nat)(lb:Array Value)(f:Nat->List UInt8)(w:World)(hV:V<=12)(hn:xs.length=n)(hl:n<=4096)(ha:At w a (xs.flatMap aY))(hf:∀x∈xs,Fit B x)(hB:B<=10000000)(hT:aB w)(hm:∀k,k<n->bZ (f k) (V:Int)=true/\(f k).length<=12)
 (eg:∀args w,(callFunc gf args).run Tryz.prog w=.ok (.enter gf args) w)
 (hcl:∀k,k<n->∀W,Bw w W->Cl gf (#[af (k:Int)]++lb) W λe w'=>e=.returned (ah (f k))/\Bw W w'):
 Cl 51 #[af (V:Int),.slice a n cap,.func (.func gf) #[] lb] w λe w'=>∃a' c',e=.returned (.tuple #[.agg #[af (V:Int),.slice a' (aS (kH f xs n)).length c'],af 0])/\aM w' a' c' (aS (kH f xs n))/\Bw w w':=by
 obtain⟨i0,hi,hz0,hz1,hz2⟩:=info_parts Tryz.awN;have hmem:∀t∈kH f xs n,∃k,∃h:k<xs.length,k<n/\t=(f k,xs[k]):=λt ht=>by unfold kH at ht;obtain⟨k,hk,rfl⟩:=List.mem_map.1 ht;have hk2:=List.mem_range.1 hk;exact⟨k,by omega,hk2,by rw[List.getD_eq_getElem?_getD,List.getElem?_eq_getElem zo];rfl⟩
 have hmk:=λ(W:World) a' c' (hW:Bw w W) (hs:Sl a' n c') (hat:At W a' ((kH f xs n).flatMap aH))=>Qn V a' n c' (kH f xs n) B W hV (by simp[kH]) hl hs hat (λt ht=>by obtain⟨k,_,hk,rfl⟩:=hmem t ht;exact(hm k hk).1) (λt ht=>by obtain⟨k,_,hk,rfl⟩:=hmem t ht;have:=(hm k hk).2;show(f k).length<=_;omega) (λt ht=>by obtain⟨k,h,_,rfl⟩:=hmem t ht;exact hf _ (List.getElem_mem h)) zo (hT.below hW);obtain⟨C,hC⟩:=az (aS (kH f xs n));simp only[hC]at hmk⊢;obtain⟨Hi,cp,bR,bV,jF,eH,iD,Ha,Hn,Hm⟩:=AP hi hz0 hz1 hz2 hmk hcl eg ha hn hm;clear hi hz0 hz1 hz2 hmem hmk hcl eg ha hn hm hf hT hC;have Hb:=hbz w;go_enter Tryz.func51,Tryz.ntmps51;go_wp2_with fail;refine bP w (Hb.an trivial) 41 [af 0,.slice none 0 0] λW aG ae ai=>?_;go_loopw[8,13] (λs8 x wr=>∃(k:Nat) (v:Value),k<=n/\x=af (k:Int)/\v=s8/\wr.ownsRow W.heap.size 111 4 v k ((kH f xs k).flatMap aH)/\ar wr w.heap.size 41 [af 0,.slice none 0 0]/\Bw w wr/\W.heap.size<=wr.heap.size) (λ_ x _=>n-(intOf x).toNat);case atStart=>exact⟨0,_,Nat.zero_le _,rfl,rfl,World.ownsRow_nil _ _ _ _,ae.1.out,ae.2.1.out,Nat.le_refl _⟩
 case round=>
  have hW0:w.heap.size<W.heap.size:=ae.1.out.lt;skip
  obtain⟨k,v,hk,rfl,rfl,ho,hr,pb,hsz⟩:=hrel;obtain⟨Ho,Hr,dG⟩:=bM ho hr pb;clear ho hr pb;by_cases hlt:k<n
  . have hk2:k<xs.length:=by rw[Hn.out];exact hlt
    obtain⟨s,m,e,hx⟩:=pU (xs[k]);obtain⟨b,o,hab,p0,p1,p2⟩:=(Ha.out.below dG.out).num k hk2 hx;have aQ:=ot n cap k (k:Int) hab hlt rfl;have hst:=asi f xs k;rw[show xs.getD k default=(s,m,e)by rw[List.getD_eq_getElem?_getD,List.getElem?_eq_getElem hk2,hx];rfl]at hst;have xu:=eH.out k hlt;have hlk:=(Hm.out k hlt).2;generalize f k=l at*;have mW:(kH f xs (k+1)).flatMap aH=(kH f xs k).flatMap aH++[ah l,ag s,ah m,af e]:=hst;obtain⟨bE,KJ⟩:=aI mW xu;have Hx:Hid (aR wr b (o+k*3) [ag s,ah m,af e]):=jA p0 p1 p2;clear hst mW xu p0 p1 p2 hab hx;have yY:=Hr;have Hb:=hbz wr;obtain⟨ae,ai⟩:=qZ (Hx.an trivial);have aG:=qL (Hb.an ae);go_wp2_with fail;refine bP wr (Hb.an ae) 45 [ag s,ah m,af e] λW4 aG ae ai=>?_;have jE:=iD.out;go_wp2_with fail;obtain⟨Hy,Hb,Hx,_⟩:=ae;obtain⟨x0,x1,x2⟩:=Hx.out.w3;obtain⟨y0,y1,y2⟩:=Hy.out.c3;refine eW (λw'=>aK w' (wr.heap.size) 0 (ag s)/\aK w' (wr.heap.size) 1 (ah m)/\aK w' (wr.heap.size) 2 (af e)) (λi=>Nat.blt i 100000) [(0,true),(1,true),(2,true),(4,true),(3,false),(5,true),(6,false),(7,false),(8,true)] zk zk rfl zk zc ⟨y0,y1,y2⟩ ?_;iterate 4 (refine pT rfl rfl ?_ (by intro w' ⟨q0,q1,q2⟩;go_simp;try with_reducible rfl);try simp only[UU])
    refine aP rfl rfl (λK hK=>?_);go_simp;with_reducible refine(KJ.out _ (by first|exact aC dG.out Hb.out|exact aC dG.out Hb.out.drew)).mono ?_
    rintro e w5 ⟨rfl,hq⟩;have ak:Bw W4 w5:=by first|exact hq|exact cJ hq
    replace Hx:=kW Hx ak;obtain⟨Hy,y0,y1,y2⟩:=AJ Hy ak;obtain⟨x0,x1,x2⟩:=Hx.out.w3;replace Hb:=aZ Hb ak;refine hK _ _ (λ_=>⟨y0,y1,y2⟩) ?_;try simp only[UU]
    refine pT rfl rfl ?_;try simp only[UU]
    refine aP rfl rfl (λK hK=>?_);go_simp;refine hK _ _ (λ_=>⟨aV y0,aV y1,aV y2⟩) ?_;try simp only[UU]
    refine bY (λW6=>ar W6 (w5.heap.size) 111 [ah l,ag s,ah m,af e]/\Bw w5 W6) (by first|exact iA|exact iB) ?_;rintro W6 ⟨qd,ak⟩;have avP:=Hy.out.lt;replace Hx:=kW Hx ak;replace Hy:=kB Hy ak;have Hd:=aj qd;clear qd;obtain⟨x0,x1,x2⟩:=Hx.out.w3;obtain⟨y0,y1,y2⟩:=Hy.out.c3;obtain⟨d0,d1,d2,d3⟩:=Hd.out.c4;replace Hb:=aZ Hb ak;refine aP rfl rfl (λK hK=>?_);have cu:=ownsRow_below Ho.out Hb.out;have jr:=Hb.out.size;refine wp_append_own _ _ _ 39 rfl W.heap.size 111 i0 _ 4 48 Tryz.underlying39 Hi.out cp.out bR.out bV.out rfl zd v k ((kH f xs k).flatMap aH) rfl cu ⟨w5.heap.size,0,none⟩ 1 1 [ah l,ag s,ah m,af e] rfl rfl (fJ Hd.out) zy zx zo zo ?_;intro v' w7 dt dM _;have ya:=Hy.out.row zd cu dM;have ZT:=(yY.out.below Hb.out).row zd cu dM;have fK:=(aC dG.out Hb.out).grown dM zo (λj e=>by have:=cZ cu j e;omega);have aae:W.heap.size<=w7.heap.size:=by have:=dM.size;omega
    rw[<-bE.out]at dt;obtain⟨pG,Hr7,kM⟩:=bM dt ZT fK;refine hK _ _ (λ_=>⟨ya.cell 0,ya.cell 1,ya.cell 2⟩) ?_;try simp only[UU]
    clear dt ZT fK dM cu ya jE;refine pT rfl rfl ?_;try simp only[UU]
    iterate 0 skip
    simp only[bI];go_wp2;go_roundw;case rel=>exact⟨k+1,_,by omega,by go_num,rfl,pG.out,Hr7.out,kM.out,aae⟩
    case measure=>exact bf
  . obtain rfl:k=n:=by omega
    obtain⟨a5,c5,rfl,hat,_⟩:=cO Ho.out;have hsl:=ue Ho.out;obtain⟨eG,wN⟩:=aI hat hsl;have Hb:=dG;clear hat hsl;obtain⟨ae,ai⟩:=qZ (Hr.an trivial);go_wp2_with fail;refine(jF.out _ a5 c5 Hb.out wN.out eG.out).mono ?_;rintro e w8 ⟨a',c',rfl,fL,ak⟩;obtain⟨ae,ai⟩:=qX ak (Hb.an ae);have ky:=vQ fL;clear fL;have HU:Hid (aM w8 (a') (c') C):=ky;clear ky;have uq:=HU;have wL:=ae.2.1;go_wp2;refine dA (aN w8 (w.heap.size) 0 [af (V:Int),.slice a' C.length c']) aU ?_;intro w9 hs0;have ae:=bG hs0 ae;simp only[bA,List.set]at ae;have ai:=qC ae;refine bodyPost_ret (v:=.tuple #[.agg #[af (V:Int),.slice a' C.length c'],af 0]) (by simp[results,Tryz.results51,go_sem,ai]) rfl ⟨a',c',rfl,uq.out.sts wL.out hs0,ae.1.out⟩
end Go.Proofs.YtpfgffadgkkedaaGreatDoor
