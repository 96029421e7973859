/- Package calc: put: a polynomial with others in the places of its variables. -/
import Derived.Test.YtpfgffadgkkedaaGreatDoorZ7
import Derived.Test.YtpfgffadgkkedaaGreatDoorZ28
import Derived.Test.YtpfgffadgkkedaaGreatDoorZ30
import Derived.Test.YtpfgffadgkkedaaGreatDoorZ31
import Derived.Deep.CutBlock
import Derived.Test.YtpfgffadgkkedaaGreatDoorZ15
import Derived.Test.YtpfgffadgkkedaaGreatDoorZ12
import Derived.Test.YtpfgffadgkkedaaGreatDoorZ24
import Derived.Test.YtpfgffadgkkedaaGreatDoorZ19
import Derived.Test.YtpfgffadgkkedaaGreatDoorZ14
import Derived.Test.YtpfgffadgkkedaaGreatDoorZ13
import Derived.Test.YtpfgffadgkkedaaGreatDoorZ16
set_option linter.all false
set_option maxRecDepth 100000
set_option maxHeartbeats 16000000
namespace Go.Proofs.YtpfgffadgkkedaaGreatDoor
open Go.RowKit
attribute [local go_sem ↓] Go.wp_at_zero Go.wp_at_succ
structure PutIn (L D r:Nat)(p:List Trm):Prop where
 up:Up p
 len:∀t∈p,t.1.length=L
 may:∀t∈p,∀c∈t.1,c.toNat<=127
 rem:∀t∈p,remS L r t.1<=D
 same:∀t∈p,∀u∈p,∀k,k<L-r->t.1.getD k 0=u.1.getD k 0
def PutIn.blk {L D r:Nat}{p:List Trm}(h:PutIn L D (r+1) p)(hr:r+1<=L)(n:Nat):PutIn L D r (dR (L-(r+1)) n p):=
 ⟨h.up.filter _,λt ht=>h.len t (jI ht).1,λt ht=>h.may t (jI ht).1,λt ht=>by
  have:=h.rem t (jI ht).1;rw[remS]at this;omega,λt ht u hu k hk=>by
  obtain⟨h1,h2⟩:=jI ht;obtain⟨h3,h4⟩:=jI hu;by_cases hkk:k<L-(r+1)
  . exact h.same t h1 u h3 k hkk
  . obtain rfl:k=L-(r+1):=by omega
    exact UInt8.toNat_inj.1 (by rw[h2,h4])⟩
def SubOk.aAb {V L D C K M A:Nat}{l:Nat->List Trm}(h:SubOk V L D C K M l){r:Nat}{p:List Trm}(hr:r+1<=L)(hp:∀t∈p,remS L (r+1) t.1<=D)(hs:∀t∈p,Sm A (dval t.2))(m:Nat)(hm:m<=128):
 ∀t∈eQ (l (L-(r+1))) (λn=>dP V l L r (dR (L-(r+1)) n p)) m,Sm (A+13* (r+2)+D*K) (dval t.2):=by
 intro t ht;have hd:=h.dl
 have h1:=acR (A:=A+13* (r+1)) (K:=K) (C:=C) (D:=D) (la:=l (L-(r+1))) (f:=λn=>dP V l L r (dR (L-(r+1)) n p)) (λn hn=>by
  show dP V l L r (dR _ n p)=[]
  rw[ya (λt ht e=>by have:=hp t ht;rw[remS]at this;omega),zh]) (λn hn=>afr h r (D-n) _ zo zo (λt ht=>by
  obtain⟨h1,h2⟩:=jI ht
  have:=hp t h1;rw[remS]at this;omega) (λt ht=>hs t (jI ht).1)) (h.sm _ zo) h.kc (λm hm=>h.az4 zo hp m hm) (λn=>by
  have h2:=Np h.deg zo (r:=r) (p:=dR (L-(r+1)) n p) (D:=D) zo (λt ht=>by
   obtain⟨h1,h2⟩:=jI ht
   have:=hp t h1;rw[remS]at this;omega)
  have:=h.few2
  show(dP V l L r (dR (L-(r+1)) n p)).length<=4096;omega) zo m zo t ht
 refine h1.mono ?_;have:(D-(128-m)) *K<=D*K:=Nat.mul_le_mul_right _ zo;omega
def SubOk.aAh {V L D C K M A B:Nat}{l:Nat->List Trm}(h:SubOk V L D C K M l)(hV:V<=12){r:Nat}{p:List Trm}(hr:r+1<=L)(hp:∀t∈p,remS L (r+1) t.1<=D)(hs:∀t∈p,Sm A (dval t.2))(hB:A+13* (r+2)+D*K<=B)(hBm:B<=268435456)(m:Nat)(hm:m<=128):
 dU V B (eQ (l (L-(r+1))) (λn=>dP V l L r (dR (L-(r+1)) n p)) m):=by
 have hd:=h.dl;have h1:=Nq h.deg zo hr hp m hm;have h2:=LH (MB m) h1;have h3:(D-(128-m)+1)^V<=(D+1)^V:=Nat.pow_le_pow_left zo V;have:=h.few2;exact sZ (MB m) h1 zo hV (λt ht=>(h.aAb hr hp hs m hm t ht).mono hB) hBm
def SubOk.aAe {V L D C K M A B:Nat}{l:Nat->List Trm}(h:SubOk V L D C K M l)(hV:V<=12){r:Nat}{p:List Trm}(hr:r<=L)(hp:∀t∈p,remS L r t.1<=D)(hs:∀t∈p,Sm A (dval t.2))(hB:A+13* (r+1)+D*K<=B)(hBm:B<=268435456):
 dU V B (dP V l L r p):=by
 have hd:=h.dl;have h2:=Np h.deg zo hr hp;have:=h.few2;exact sZ (afq V l L r p) (Nn h.deg zo r D p (Nat.le_refl _) hr hp) zo hV (λt ht=>(afr h r D p (Nat.le_refl _) hr hp hs t ht).mono hB) hBm
def ad9 (V:Nat)(l:Nat->Dyadic):cZ V 0 l 0=[]:=by
 rw[<-aed V 0 (canon 0) l (bu 0)]
 exact Rs (jJ _) Good.nil (λm=>by
  rw[rA];simp only[bR,bu]
  split<;>grind)
def SubOk.aAo {V L D C K M A B:Nat}{l:Nat->List Trm}(h:SubOk V L D C K M l)(hV:V<=12){r:Nat}{p:List Trm}(hr:r+1<=L)(hp:∀t∈p,remS L (r+1) t.1<=D)(hs:∀t∈p,Sm A (dval t.2))(hB:A+13* (r+2)+D*K+K<=B)(hBm:B<=268435456)(m:Nat)(hm:m<=127)(hD:127-m<=D):
 dU V B (aU (fO (eQ (l (L-(r+1))) (λn=>dP V l L r (dR (L-(r+1)) n p)) m) (l (L-(r+1)))))/\(aU (fO (eQ (l (L-(r+1))) (λn=>dP V l L r (dR (L-(r+1)) n p)) m) (l (L-(r+1))))).length<=2048:=by
 have hd:=h.dl;have hk:=h.kc;have h1:=Nq h.deg zo hr hp m zo;have h2:DegT V D (aU (fO (eQ (l (L-(r+1))) (λn=>dP V l L r (dR (L-(r+1)) n p)) m) (l (L-(r+1))))):=by
  by_cases he:D<128-m
  . rw [Bb m (fun n h3 _=>by
     show dP V l L r (dR _ n p)=[]
     rw[ya (λt ht e=>by have:=hp t ht;rw[remS]at this;omega),zh])]
    intro t ht;cases ht
  . exact DegT.clean ((DegT.mul h1 (h.deg _ zo) zo).mono zo)
 have h3:=LH (jJ _) h2;have:=h.few2;refine⟨sZ (jJ _) h2 zo hV (λt ht=>?_) hBm,by omega⟩;have h4:=sU (k:=12) (Ut (h.aAb hr hp hs m zo) (h.sm _ zo)) (by rw[Nb];exact h.az4 hr hp m hm) t ht;exact h4.mono zo
def aW.stsF {a:Option Addr}{c b:Nat}{t:TypeId}{C:List Trm}(ht:t≠111)(vs:List Value):∀(o:Nat) (w:World) (l:List Value),aW w a c C->ar w b t l->aW (um b o vs w) a c C:=by
 induction vs with
 |nil=>intro o w l h _;exact h
 |cons v vs ih=>intro o w l h hb;exact ih _ _ _ (h.off hb ht o v) (hb.set o v)
def aW.sts {w W:World}{a:Option Addr}{c b o:Nat}{t:TypeId}{C:List Trm}{l vs:List Value}(h:aW w a c C)(hb:ar w b t l)(k:aN w b o vs W)(ht:t≠111:=by decide):aW W a c C:=by
 rcases k with rfl|rfl
 . exact aW.stsF ht vs o w l h hb
 . exact aW.stsF ht vs o w.drew l (h.below ((Below.refl _ _).drew)) hb.drew
def amm (V L D C K M A B:Nat)(ls:Nat->List Trm)(ps:List Pv)(la:Option Addr)(pq:Nat)(hok:SubOk V L D C K M ls)(hV:0<V)(hV2:V<=12)(hB:A+13* (L+2)+D*K+K<=B)(LP:C<=B)(hBm:B<=100000000)(hps:ps.length=L)(hL:L<=1000)(r:Nat):
 ∀(a:Option Addr) (n cap:Nat) (p:List Trm) (w:World),r<=L->p.length=n->n<=4096->Sl a n cap->At w a (p.flatMap aI)->At w la (ps.flatMap ib)->fE w V B ps ls->aB w->PutIn L D r p->(∀t∈p,Fit A t.2)->
 Cl 149 #[.slice a n cap,af ((L-r:Nat):Int),.slice la L pq,af (V:Int)] w λe w'=>∃a' c',e=.returned (.tuple #[.agg #[af (V:Int),.slice a' (dP V ls L r p).length c'],af 0])/\aW w' a' c' (dP V ls L r p)/\Bw w w':=by
 induction r with
 | zero=>
   intro a n cap p w _ hn aS hs ha fq hls hT hp hf;rw[Nat.sub_zero];cases p with
   | nil=>
     simp only[List.length_nil]at hn;subst hn;have hcn:∀W,Bw w W->Cl 157 #[af (V:Int),.agg #[ag false,.string ⟨#[]⟩,af 0]] W λex w'=>∃a' c',ex=.returned (.tuple #[.agg #[af (V:Int),.slice a' 0 c'],af 0])/\aW w' a' c' []/\Bw W w':=λW hW=>by have h:=CS V false [] 0 0 1 (λ_=>0) W hV2 ⟨⟨by decide,by decide,by decide⟩,Sm.zero _⟩ zd (hT.below hW) zd;rw[ad9]at h;exact h
     have jD:=aj hcn;clear hcn ha fq hls hT hp hf hs;have Hb:=hbz w;go_enter Tryz.func149,Tryz.ntmps149;go_wp2_with fail;refine cF w (Hb.an trivial) 41 [af 0,.slice none 0 0] λW aG ae ai=>?_;go_wp2_with fail;refine(jD.out _ ae.2.1.out).mono ?_;rintro e w1 ⟨a1,c1,rfl,hp1,ak⟩;obtain⟨ae,ai⟩:=qX ak ae;have HU:Hid (aW w1 (a1) (c1) []):=hp1;clear hp1;have PV:=HU;have bV:=ae.1;go_wp2;refine dI (aN w1 (w.heap.size) 0 [af (V:Int),.slice a1 0 c1]) aR ?_;intro w9 hs0;have ae:=bC hs0 ae;simp only[bD,List.set]at ae;have ai:=qC ae;refine bodyPost_ret (v:=.tuple #[.agg #[af (V:Int),.slice a1 0 c1],af 0]) (by simp[results,Tryz.results149,go_sem,ai]) rfl ⟨a1,c1,rfl,PV.out.sts bV.out hs0,ae.2.1.out⟩
   | cons t p=>
     obtain⟨l,s,m,e⟩:=t;obtain⟨b,o,hab,bY⟩:=ha.term 0 zm (l:=l) (s:=s) (m:=m) (e:=e) rfl;subst hab;rw[Nat.zero_mul,Nat.add_zero]at bY;have hlt:0<n:=by rw[<-hn];simp
     have hn0:((n:Int)==0)=false:=by simp;omega
     have aX:=gX n cap 0 0 (rfl:(some ⟨b,o,none⟩:Option Addr)=_) hlt rfl;rw[Nat.zero_mul,Nat.add_zero]at aX;have ko:Fit A (s,m,e):=hf (l,s,m,e) zm;have hcn:=λW (hW:Bw w W)=>CS V s m e (dval (s,m,e)) B (λ_=>0) W hV2 ⟨ko.1,ko.2.mono zo⟩ zo (hT.below hW) rfl;show Calls _ _ _ _ λe' w'=>∃a' c',e'=.returned (.tuple #[.agg #[af (V:Int),.slice a' (cZ V (dval (s,m,e)) (λ_=>0) 0).length c'],af 0])/\aW w' a' c' (cZ V (dval (s,m,e)) (λ_=>0) 0)/\Bw w w'
     obtain⟨R,hR⟩:=au (cZ V (dval (s,m,e)) (λ_=>0) 0);rw[hR]at hcn⊢;obtain⟨_,y1,y2,y3⟩:=bY.w4;have lbw:=World.block_lt_of_cell? w _ y1;simp only at lbw;have Ht:Hid (aQ w b (o+1) [ag s,ah m,af e]):=iI y1 y2 y3;have jD:=aj hcn;clear hcn ha fq hls hT hp hf hs hR ko bY hn y1 y2 y3;have Hb:=hbz w;go_enter Tryz.func149,Tryz.ntmps149;obtain⟨ae,ai⟩:=qZ (Ht.an trivial);have aG:=qL (Hb.an ae);go_wp2_with fail;refine cF w (Hb.an ae) 41 [af 0,.slice none 0 0] λW aG ae ai=>?_;go_wp2_with fail;refine(jD.out _ ae.2.1.out).mono ?_;rintro e w1 ⟨a1,c1,rfl,hp1,ak⟩;obtain⟨ae,ai⟩:=qX ak ae;have HU:Hid (aW w1 (a1) (c1) R):=hp1;clear hp1;have PV:=HU;have bV:=ae.1;go_wp2;refine dI (aN w1 (w.heap.size) 0 [af (V:Int),.slice a1 R.length c1]) aR ?_;intro w9 hs0;have ae:=bC hs0 ae;simp only[bD,List.set]at ae;have ai:=qC ae;refine bodyPost_ret (v:=.tuple #[.agg #[af (V:Int),.slice a1 R.length c1],af 0]) (by simp[results,Tryz.results149,go_sem,ai]) rfl ⟨a1,c1,rfl,PV.out.sts bV.out hs0,ae.2.1.out⟩
 | succ r ih=>
   intro a n cap p w hr hn aS hs ha fq hls hT hp hf;have qD:∀t∈p,Sm A (dval t.2):=λt ht=>(hf t ht).2;have hfit:=λm (hm:m<=128)=>hok.aAh (B:=B) hV2 hr hp.rem qD zo zo m hm;have uZ:=λm (hm:m<=127) (hD:127-m<=D)=>hok.aAo (B:=B) hV2 hr hp.rem qD zo zo m hm hD;have hput:=λq=>hok.aAe (B:=B) hV2 (show r<=L by omega) (hp.blk hr q).rem (λt ht=>qD t (jI ht).1) zo zo;have hlen:=λm (hm:m<=127)=>hok.az4 hr hp.rem m hm;have AL:=λm (hm:m<=128)=>Nq hok.deg (by have:=hok.dl;omega) hr hp.rem m hm;have MJ:=anR hp.up hp.len hp.same;have hblk:=λc=>akW MJ c;have hget:=λc i hi=>akX MJ c i hi;obtain⟨k,hk⟩:=au (L-(r+1));have jx:k<L:=by omega
   have hk1:L-r=k+1:=by omega
   have hq0:∀q,D<q->dR k q p=[]:=λq hq=>ya (λt ht e=>by have:=hp.rem t ht;rw[remS,hk]at this;omega);have Mc:=λq=>hp.blk hr q;rw[hk]at hfit uZ hput hlen AL hblk hget MJ Mc;rw[hk];rw[hk1]at ih;obtain⟨g,hg⟩:∃g:Nat->List Trm,(λq=>dP V ls L r (dR k q p))=g:=⟨_,rfl⟩;have hpt:dP V ls L (r+1) p=eQ (ls k) g 128:=by rw[<-hg,<-hk];rfl
   have GP:∀q,dP V ls L r (dR k q p)=g q:=λq=>by rw[<-hg]
   have hg0:∀q,dR k q p=[]->g q=[]:=λq h=>by rw[<-GP,h,zh]
   rw[hg]at hfit uZ hlen AL;rw[hpt];have hby:∀t∈p,(t.1.getD k 0).toNat<=127:=λt ht=>by rw[List.getD_eq_getElem?_getD,List.getElem?_eq_getElem (by rw[hp.len t ht];exact jx)];exact hp.may t ht _ (List.getElem_mem _)
   have hlk:=hok.deg k jx;have hll:=hok.len k jx;obtain⟨aL,cL,hel,hpl,hfl⟩:=hls k zo;obtain⟨lb,lo,hlab,SZ⟩:=fq.azZ k zo hel;have ayq:=ue L pq k (k:Int) hlab jx rfl;obtain⟨N,hN⟩:∃N:Nat->Nat,(λc=>below (fF k) c p)=N:=⟨_,rfl⟩;have Gt:∀c,below (fF k) c p=N c:=λc=>by rw[<-hN]
   simp only[Gt]at hblk hget;have Dg:∀c,N c<=n:=λc=>by rw[<-Gt,<-hn];exact below_le _ _ _
   have LV:∀c,N c<=N (c+1):=λc=>by rw[<-Gt,<-Gt];exact akY _ _ zo
   have hNt:N 128=n:=by
    rcases Nat.lt_or_ge (N 128) n with h|h
    . have h1:=(hget 128 (N 128) zo).1 (by have:=hby _ (List.getElem_mem (show N 128<p.length by omega));show(_:Nat)<128;unfold fF;omega);omega
    . have:=Dg 128;omega
   have hcap:=hs.1;have hrc:∀m,m<=127->∃a',(if cap=N (127-m)then a else a.map (·.add (N (127-m) *4)))=a'/\∀W,Bw w W->Cl 149 #[.slice a' (N (128-m)-N (127-m)) (cap-N (127-m)),af ((k+1:Nat):Int),.slice la L pq,af (V:Int)] W λe w'=>∃a7 c7,e=.returned (.tuple #[.agg #[af (V:Int),.slice a7 (g (127-m)).length c7],af 0])/\aW w' a7 c7 (g (127-m))/\Bw W w':=λm hm=>by
    refine⟨_,rfl,λW hW=>?_⟩;have e1:=Dg (127-m);have e2:=Dg (128-m);have e3:=LV (127-m);rw[show 127-m+1=128-m by omega]at e3;have hb:=hblk (127-m);rw[show 127-m+1=128-m by omega]at hb;have hbl:(dR k (127-m) p).length=N (128-m)-N (127-m):=by rw[hb,List.length_take,List.length_drop,hn];omega
    have h1:=(ha.below hW).az1 (N (127-m)) hn e1 hcap;have h2:=h1.az6 (N (128-m)-N (127-m));rw[<-hb]at h2;have h3:=hs.cut (k:=N (127-m)) (size:=4) e1;have h4:=ih _ (N (128-m)-N (127-m)) (cap-N (127-m)) (dR k (127-m) p) W zo hbl zo ⟨by have:=h3.1;omega,h3.2⟩ h2 (fq.below hW) (hls.below hW) (hT.below hW) (Mc _) (λt ht=>hf t (jI ht).1);rw[GP]at h4;exact h4
   have hcn:∀W,Bw w W->Cl 157 #[af (V:Int),.agg #[ag false,.string ⟨#[]⟩,af 0]] W λex w'=>∃a' c',ex=.returned (.tuple #[.agg #[af (V:Int),.slice a' 0 c'],af 0])/\aW w' a' c' []/\Bw W w':=λW hW=>by have h:=CS V false [] 0 0 1 (λ_=>0) W hV2 ⟨⟨by decide,by decide,by decide⟩,Sm.zero _⟩ zd (hT.below hW) zd;rw[ad9]at h;exact h
   have mr:=λm (hm:m<=127) (hD:127-m<=D) W a' c' b (hW:Bw w W) (hb:ar W b 41 [af (V:Int),.slice a' (eQ (ls k) g m).length c',af (V:Int),.slice aL (ls k).length cL]) (hp:aW W a' c' (eQ (ls k) g m))=>atD V B (D-(128-m)) 1 _ _ b a' aL c' cL (eQ (ls k) g m) (ls k) _ W hV rfl rfl (hfit m zo) hfl (AL m zo) hlk (by have:=hok.dl;omega) (hlen m hm) hBm hb hp (hpl.below hW) (hT.below hW) rfl
   have had:=λm (hm:m<=127) (hD:127-m<=D) W a9 c9 a7 c7 b (hW:Bw w W) (hb:ar W b 41 [af (V:Int),.slice a9 (aU (fO (eQ (ls k) g m) (ls k))).length c9,af (V:Int),.slice a7 (g (127-m)).length c7]) (h9:aW W a9 c9 (aU (fO (eQ (ls k) g m) (ls k)))) (h7:aW W a7 c7 (g (127-m)))=>
    FP V B _ _ (eQ (ls k) g (m+1)) a9 a7 c9 c7 W b hb h9 h7 (uZ m hm hD).1 (by rw[<-GP];exact hput _) (by
     have h1:=(uZ m hm hD).2;have h2:=Np hok.deg (by have:=hok.dl;omega) (show r<=L by omega) (Mc (127-m)).rem;rw[GP]at h2
     have:=hok.few2;omega) zo (hT.below hW) rfl
   have TB:∀m,m<=127->(eQ (ls k) g m).length=0->N (127-m)=N (128-m)->eQ (ls k) g (m+1)=[]:=λm hm h1 h2=>by have hb:=hblk (127-m);rw[show 127-m+1=128-m by omega,h2,Nat.sub_self,List.take_zero]at hb;rw[eQ,List.length_eq_zero_iff.1 h1,Nc,clean_nil,hg0 _ hb];rfl
   have wI:∀m,m<=127->¬((eQ (ls k) g m).length=0/\N (127-m)=N (128-m))->127-m<=D:=λm hm h=>by
    rcases Nat.lt_or_ge D (127-m)with h1|h1
    . exfalso
      refine h ⟨?_,?_⟩
      . rw[Bb m (λq h3 _=>hg0 q (hq0 q zo))];rfl
      . have hb:=hblk (127-m);rw[show 127-m+1=128-m by omega,hq0 _ h1]at hb;have h3:=congrArg List.length hb;rw[List.length_take,List.length_drop,hn]at h3;have:=Dg (128-m);have h4:=LV (127-m);rw[show 127-m+1=128-m by omega]at h4;simp only[List.length_nil]at h3;omega
    . exact h1
   have RL:=λi (hi:i<p.length)=>(show(p[i].1).length=L/\fF k p[i]=(p[i].1.getD k 0).toNat from⟨hp.len _ (List.getElem_mem hi),rfl⟩);have ayt:((k:Int)==(L:Int))=false:=by simp;omega
   have nP:Hid (∀m,m<=128->¬m<128->m=128):=λm h1 h2=>by omega
   obtain⟨H,hH⟩:=au (eQ (ls k) g);rw[hH]at mr had TB wI⊢;have hH0:H 0=[]:=by rw[<-hH];rfl
   obtain⟨jD,Hrc,Fh,sf,sK,OC,Cm,Ha,Hl,Hn,HNt,HNm⟩:=gL hcn hrc mr had TB wI hget ha SZ hn hNt LV;obtain⟨HNn,ahF,WG,Wy,axc,HkL⟩:=fZ Dg hcap RL hH0 hlab (And.intro jx hL);have lbl:=World.block_lt_of_cell? w _ SZ.w2.1;simp only at lbl;clear ih hs ha fq hls hT hp hf qD hfit uZ hput hlen AL MJ hblk hget Mc hq0 GP hg0 hby hlk hll hel hpl hfl SZ Gt Dg LV hNt hcap hrc hcn mr had TB wI hN hg hpt hH hH0 hk1 hk hn RL hlab;have Hb:=hbz w;go_enter Tryz.func149,Tryz.ntmps149;go_wp2_with fail;refine cF w (Hb.an trivial) 41 [af 0,.slice none 0 0] λW aG ae ai=>?_;go_wp2_with fail;refine(jD.out _ ae.2.1.out).mono ?_;rintro e w1 ⟨a0,c0,rfl,hp0,ak⟩;obtain⟨ae,ai⟩:=qX ak ae;have HU:Hid (aW w1 (a0) (c0) []):=hp0;clear hp0;have aG:=qL (HU.an ae);go_wp2_with fail;refine cF w1 (HU.an ae) 41 [af (V:Int),.slice a0 0 c0] λW2 aG ae ai=>?_;go_wp2_with fail;go_loopw[11,12,13] (λVl s12 BU wr=>∃(m:Nat) (a':Option Addr) (c':Nat),m<=128/\Vl=af 0/\s12=af ((N (128-m):Nat):Int)/\BU=af (127-(m:Int))/\ar wr w.heap.size 41 [af 0,.slice none 0 0]/\ar wr w1.heap.size 41 [af (V:Int),.slice a' (H m).length c']/\aW wr a' c' (H m)/\Bw w wr) (λ_ _ x _=>(intOf x+1).toNat);case atStart=>exact⟨0,a0,c0,Nat.zero_le _,rfl,by rw[Nat.sub_zero,HNt.out],rfl,ae.2.2.1.out,by rw[Wy.out];exact ae.1.out,by rw[Wy.out];exact ae.2.1.out,ae.2.2.2.1.out⟩
   case round=>
    skip
    obtain⟨m,a',c',hm,rfl,rfl,rfl,hz,hq,hu,pb⟩:=hrel;by_cases hlt:m<128
    . have Ij:m<=127:=by omega
      have h13:(0:Int)<=127-(m:Int):=by omega
      have e1:=HNm.out (127-m);rw[show 127-m+1=128-m by omega]at e1;have e2:=HNn.out (128-m);have OW:=λi (h:i<p.length)=>Cm.out (127-m) i h;have OT:=λi (h:i<p.length)=>Cm.out (128-m) i h;have Kq:=sK.out m Ij;have Kc:=OC.out m Ij;obtain⟨a7,hsl,MF⟩:=Hrc.out m Ij;generalize hlo:N (127-m)=xb at e1 OW Kq Kc hsl MF;generalize hhi:N (128-m)=hi at e1 e2 OT Kq Kc MF⊢;obtain⟨q9,hq9⟩:∃q:Nat,127-m=q:=⟨_,rfl⟩;have hqi:127-(m:Int)=(q9:Int):=by omega
      rw[hqi]at h13⊢;obtain⟨XB,aih,ajE,ahT,uD,ajs,Fg,xP,Hz,Hq,HU,Hb⟩:=gL OW OT Kq Kc hsl MF hlo hq9 hz hq hu pb;have mL:Hid (hi<=n):=e2;clear hz hq hu pb OW OT Kq Kc hsl MF hlo hhi hqi e2 hq9;obtain⟨wo,hwo⟩:∃u,u=wr:=⟨_,rfl⟩;subst hwo;go_upto_block 2 with fail
      go_cut[14] (λs14 wx=>s14=af (xb:Int)/\wo=wx);case first=>
       go_wp2_with fail;go_loopw[14] (λx w2=>∃j:Nat,xb<=j/\j<=hi/\x=af (j:Int)/\w2=wo) (λx _=>(intOf x).toNat);case atStart=>exact⟨hi,e1,Nat.le_refl _,rfl,rfl⟩
       case round=>
        obtain⟨j,og,jP,rfl,rfl⟩:=hrel;by_cases hjl:xb<j
        . have yA:j-1<p.length:=by have:=Hn.out;have:=mL.out;omega
          obtain⟨l,s,mm,e,hx⟩:∃l s mm e,p[j-1]=(l,s,mm,e):=⟨_,_,_,_,rfl⟩;obtain⟨tb,ob,hab,hwn⟩:=(Ha.out.below Hb.out).term (j-1) yA hx;have aX:=gX n cap (j-1) ((j-1:Nat):Int) hab (by have:=Hn.out;omega) rfl;have wK:=WG.out (j-1) yA;have hg1:=XB.out (j-1) yA;have hg2:=aih.out (j-1) yA;rw[hx]at wK hg1 hg2;have hkl:k<l.length:=by rw[wK.1];exact jx
          have hst:=vk l (k:Int) k hkl rfl;have hex:l[k].toNat=q9:=by
           have h1:fF k (l,s,mm,e)=l[k].toNat:=by rw[wK.2,List.getD_eq_getElem?_getD,List.getElem?_eq_getElem hkl];rfl
           rw[h1]at hg1 hg2;have:=xP.out;omega
          rw[hex]at hst;obtain⟨y0,_,_,_⟩:=hwn.w4;have Mo:decide (0<j)=true:=by simp;omega
          have hjn:j<=4096:=by have:=mL.out;omega
          have hw1:IntKind.i64.wrap ((j:Int)-1)=((j-1:Nat):Int):=by rw[IntKind.wrap_i64];omega
          have hw2:IntKind.i64.wrap (q9:Int)=(q9:Int):=by have:=xP.out;rw[IntKind.wrap_i64];omega
          clear wK hg1 hg2 hex hab hx hwn;go_wp2;go_roundw;case rel=>exact⟨j-1,by omega,by omega,by go_num,trivial⟩
          case measure=>exact bi
        . obtain rfl:j=xb:=by omega
          by_cases Mo:j=0
          . have hd0:decide (0<j)=false:=by simp;omega
            go_wp2_with fail;go_meet;exact⟨rfl,rfl⟩
          have yA:j-1<p.length:=by have:=Hn.out;have:=mL.out;omega
          obtain⟨l,s,mm,e,hx⟩:∃l s mm e,p[j-1]=(l,s,mm,e):=⟨_,_,_,_,rfl⟩;obtain⟨tb,ob,hab,hwn⟩:=(Ha.out.below Hb.out).term (j-1) yA hx;have aX:=gX n cap (j-1) ((j-1:Nat):Int) hab (by have:=Hn.out;omega) rfl;have wK:=WG.out (j-1) yA;have hg1:=XB.out (j-1) yA;rw[hx]at wK hg1;have hkl:k<l.length:=by rw[wK.1];exact jx
          have hst:=vk l (k:Int) k hkl rfl;obtain⟨x9,TP⟩:=au (l[k].toNat);have hex:x9<q9:=by
           have h1:fF k (l,s,mm,e)=l[k].toNat:=by rw[wK.2,List.getD_eq_getElem?_getD,List.getElem?_eq_getElem hkl];rfl
           rw[h1,TP]at hg1;have:=xP.out;omega
          rw[TP]at hst;obtain⟨y0,_,_,_⟩:=hwn.w4;have hd1:decide (0<j)=true:=by simp;omega
          have hjn:j<=4096:=by have:=mL.out;omega
          have hw1:IntKind.i64.wrap ((j:Int)-1)=((j-1:Nat):Int):=by rw[IntKind.wrap_i64];omega
          have ayJ:q9<=127:=by have:=xP.out;omega
          have hw2:IntKind.i64.wrap (x9:Int)=(x9:Int):=by rw[IntKind.wrap_i64];omega
          have hne:((x9:Int)==(q9:Int))=false:=by simp;omega
          clear wK hg1 hex hab hx hwn TP;go_wp2_with fail;go_meet;exact⟨rfl,rfl⟩
      case rest=>
       obtain⟨rfl,rfl⟩:=hcut;obtain⟨ae,ai⟩:=qZ (Hz.an<|Hq.an trivial);have HU:Hid (aW wo (a') (c') (H m)):=HU.out;by_cases hsk:(H m).length=0/\xb=hi
       . obtain⟨fG,rfl⟩:=hsk;have hHe:=ajE.out fG rfl;have hl0:(((H m).length:Int)==0)=true:=by rw[fG];rfl
         have hrl:H (m+1)=H m:=by rw[hHe];exact(List.length_eq_zero_iff.1 fG).symm
         have hw3:IntKind.i64.wrap ((q9:Int)-1)=127-((m+1:Nat):Int):=by have:=xP.out;rw[IntKind.wrap_i64];omega
         go_wp2;go_roundw;case rel=>exact⟨m+1,a',c',by omega,rfl,by rw[show 128-(m+1)=127-m by omega,Fg.out],rfl,ae.1.out,by rw[hrl];exact ae.2.1.out,by rw[hrl];exact HU.out,Hb.out⟩
         case measure=>simp[intOf];have:=xP.out;omega
       . have ME:=ahT.out hsk;have xK:=aj (Hl.out.below Hb.out);obtain⟨ae,ai⟩:=qZ (xK.an<|HU.an ae);have lbr:lb<wo.heap.size:=World.block_lt_of_cell? wo _ ae.1.out.w2.1;go_upto_region 13 with fail
         go_cut[78] (λs78 wx=>s78=ag false/\wo=wx);case first=>
          by_cases hl0:(H m).length=0
          . have gq:(((H m).length:Int)==0)=true:=by rw[hl0];rfl
            have hje:((xb:Int)==(hi:Int))=false:=by simp;omega
            go_wp2_with fail;go_meet;exact⟨rfl,rfl⟩
          . have gq:(((H m).length:Int)==0)=false:=by simpa using hl0
            go_wp2_with fail;go_meet;exact⟨rfl,rfl⟩
         case rest=>
          obtain⟨rfl,rfl⟩:=hcut;have aG:=qL (Hb.an ae);go_wp2_with fail;refine cF wo (Hb.an ae) 41 [af 0,.slice none 0 0] λW4 aG ae ai=>?_;have ae:=And.intro ae.1<|And.intro ae.2.1<|And.intro ae.2.2.2.1<|And.intro ae.2.2.2.2.1<|And.intro ae.2.2.2.2.2.1<|And.intro ae.2.2.1 trivial
          refine cQ 11 (ae.2.2.2.2.2) (cJ 12 0x161413110f0c0a0009070503) ?_;refine bo ?_;have ai:=qC ae;refine qOp λK hK=>?_;go_simp;refine hK _ _ (by first|exact λ_=>QIm.out ae|exact λ_=>QIm.out (Va (w:=W4) ae)) ?_;try simp only[UU]
          refine nC 41 [af (V:Int),.slice a' (H m).length c',af (V:Int),.slice aL (ls k).length cL] ae λW5 aG ae=>?_;refine qOp λK hK=>?_;go_simp;with_reducible refine(Fh.out m Ij ME _ a' c' _ ae.2.2.1.out ae.1.out ae.2.2.2.1.out).mono ?_
          rintro e w6 ⟨a9,c9,rfl,IB,hq⟩;refine kE hK hq ae λae=>?_;clear hK K hq;refine bo ?_;have ai:=qC ae;refine qOp λK hK=>?_;go_simp;refine BO (aN w6 (w1.heap.size) 0 [af (V:Int),.slice a9 (aU (fO (H m) (ls k))).length c9]) aR ?_;intro W7 hs0;have cn:=ae;have ae:=bC hs0 cn;simp only[bD,List.set]at ae;have ai:=qC ae;refine hK _ _ (λ_=>QIm.out ae) ?_;try simp only[UU]
          have ai:=qC ae;refine qOp λK hK=>?_;go_simp;refine hK _ _ (λh=>absurd h zd) ?_;try simp only[UU]
          refine cP ae λai=>?_;have HU:Hid (aW W7 (a9) (c9) (aU (fO (H m) (ls k)))):=IB.sts cn.2.2.2.2.2.1.out hs0;clear IB hs0;have hwk:IntKind.i64.wrap ((k:Int)+1)=((k+1:Nat):Int):=by have:=HkL.out;rw[IntKind.wrap_i64];omega
          have aqi:=uD.out;have hic:hi<=cap:=by have:=ahF.out;have:=mL.out;omega
          go_wp2_with fail;refine(ajs.out _ ae.2.2.1.out).mono ?_;rintro e w8 ⟨a8,c8,rfl,kv,ak⟩;obtain⟨ae,ai⟩:=qX ak (HU.an ae);have HT:Hid (aW w8 (a8) (c8) (g (127-m))):=kv;clear kv aqi hwk hic;have Cf:=ae.1;have WO:=HT;(focus go_upto_region 18 with fail)
          first|refine eN (aN w8 (wo.heap.size) 0 [af (V:Int),.slice a8 (g (127-m)).length c8]) aR ?_|refine eJ (aN w8 (wo.heap.size) 0 [af (V:Int),.slice a8 (g (127-m)).length c8]) aR ?_
          intro W9 hs0;have cn:=ae;have ae:=bC hs0 cn;simp only[bD,List.set]at ae;have ai:=qC ae;have HU:Hid (aW W9 (a9) (c9) (aU (fO (H m) (ls k)))):=Cf.out.sts cn.2.2.1.out hs0;have HT:Hid (aW W9 (a8) (c8) (g (127-m))):=WO.out.sts cn.2.2.1.out hs0;clear Cf WO hs0;have aG:=qL (HU.an<|HT.an ae);go_wp2_with fail;refine cF W9 (HU.an<|HT.an ae) 41 [af (V:Int),.slice a9 (aU (fO (H m) (ls k))).length c9,af (V:Int),.slice a8 (g (127-m)).length c8] λW10 aG ae ai=>?_;go_wp2_with fail;refine(sf.out m Ij ME _ a9 c9 a8 c8 _ ae.2.2.2.2.2.2.1.out ae.1.out ae.2.1.out ae.2.2.1.out).mono ?_;rintro e xz ⟨vZ,c11,rfl,Iw,ak⟩;obtain⟨ae,ai⟩:=qX ak ae;(focus go_upto_region 20 with fail)
          first|refine eN (aN xz (w1.heap.size) 0 [af (V:Int),.slice vZ (H (m+1)).length c11]) aR ?_|refine eJ (aN xz (w1.heap.size) 0 [af (V:Int),.slice vZ (H (m+1)).length c11]) aR ?_
          intro Qr hs0;have cn:=ae;have ae:=bC hs0 cn;simp only[bD,List.set]at ae;have ai:=qC ae;have HU:Hid (aW Qr (vZ) (c11) (H (m+1))):=Iw.sts cn.2.2.2.2.2.2.2.2.2.1.out hs0;clear Iw hs0;have hw3:IntKind.i64.wrap ((q9:Int)-1)=127-((m+1:Nat):Int):=by have:=xP.out;rw[IntKind.wrap_i64];omega
          go_wp2;go_roundw;case rel=>exact⟨m+1,vZ,c11,by omega,rfl,by rw[show 128-(m+1)=127-m by omega,Fg.out],rfl,ae.2.2.2.2.2.2.2.2.1.out,ae.2.2.2.2.2.2.2.2.2.1.out,HU.out,ae.2.2.2.2.2.2.1.out⟩
          case measure=>simp[intOf];have:=xP.out;omega
    . obtain rfl:m=128:=nP.out m hm hlt;have h13:¬(0:Int)<=127-((128:Nat):Int):=by omega
      obtain⟨Hz,Hq,HU,Hb⟩:=cG hz hq hu pb;clear hz hq hu pb;obtain⟨ae,ai⟩:=qZ (Hz.an<|Hq.an trivial);have bV:=ae.1;go_wp2;refine dI (aN wr (w.heap.size) 0 [af (V:Int),.slice a' (H 128).length c']) aR ?_;intro w9 hs0;have ae:=bC hs0 (Hb.an ae);simp only[bD,List.set]at ae;have ai:=qC ae;refine bodyPost_ret (v:=.tuple #[.agg #[af (V:Int),.slice a' (H 128).length c'],af 0]) (by simp[results,Tryz.results149,go_sem,ai]) rfl ⟨a',c',rfl,HU.out.sts bV.out hs0,ae.1.out⟩
def aui (l:List UInt8)(L:Nat)(h:l.length=L)(r:Nat)(hr:r<=L):remS L r l=((l.drop (L-r)).map UInt8.toNat).sum:=by
 induction r with
 |zero=>rw[Nat.sub_zero,List.drop_of_length_le zo];rfl
 | succ r ih=>
   have hk:L-(r+1)<l.length:=by omega
   rw[remS,ih zo,List.drop_eq_getElem_cons hk,List.map_cons,List.sum_cons,show L-(r+1)+1=L-r by omega,List.getD_eq_getElem?_getD,List.getElem?_eq_getElem hk];rfl
def Vh (l:List UInt8)(L:Nat)(h:l.length=L):remS L L l=degN l:=by rw[aui l L h L (Nat.le_refl _),Nat.sub_self,List.drop_zero];rfl
def avl (V V':Int)(aT:Option Addr)(nT cT:Nat)(bv:Nat)(w:World)(hc:w.cell? ⟨bv,0,none⟩=some (af V)):
 Cv 148 #[.agg #[af V',.slice aT nT cT],.pointer (some ⟨bv,0,none⟩)] w (ag (V' !=V)):=by
 have Hc:=aj hc;clear hc;obtain⟨W,cd,ae,ai⟩:=fJ w 41 [af V',.slice aT nT cT];have k1:=cell_later ae.1.out Hc.out;go_enter Tryz.func148,Tryz.ntmps148;go_wp2;refine bodyPost_ret (results_tmp rfl _ _ _) rfl ⟨rfl,ae.1.out⟩
def vB (Vq:Int)(q:List Trm)(L:Nat):Int:=if iu Vq q=0 then if(L:Int)=Vq then 0 else 1 else iu Vq q
def Qq (c:Int)(V:Nat)(C:List Trm)(w:World)(e:Ending)(w':World):Prop:=
 ∃(v:Int) (a':Option Addr) (n' c':Nat),e=.returned (.tuple #[.agg #[af v,.slice a' n' c'],af c])/\(c=0->v=V/\n'=C.length/\aW w' a' c' C)/\Bw w w'
def avm (V L D C K M A B:Nat)(ls:Nat->List Trm)(ps:List Pv)(la:Option Addr)(pq:Nat)(hok:SubOk V L D C K M ls)(hV:0<V)(hV2:V<=12)(hB:A+13* (L+2)+D*K+K<=B)(LP:C<=B)(hBm:B<=100000000)(hps:ps.length=L)(pS:0<L)(hL:L<=1000)
 (Vq:Int) (a:Option Addr) (n cap:Nat) (q:List Trm) (w:World) (hn:q.length=n) (aS:n<=4096) (hs:Sl a n cap) (ha:At w a (q.flatMap aI)) (fq:At w la (ps.flatMap ib)) (hls:fE w V B ps ls) (hT:aB w)
 (hq:∀t∈q,t.1.length<=1000/\Fit A t.2/\degN t.1<=D):
 Cl 76 #[.agg #[af Vq,.slice a n cap],.slice la L pq] w (Qq (vB Vq q L) V (dP V ls L L q) w):=by
 have cN:=λW (hW:Bw w W)=>Ek Vq a cap n q W hn zo (ha.below hW) (λt ht=>⟨by have:=(hq t ht).1;omega,(hq t ht).2.1.1⟩) (hT.below hW);obtain⟨c,hc⟩:=au (iu Vq q);have gu:vB Vq q L=if c=0 then if(L:Int)=Vq then 0 else 1 else c:=by unfold vB;rw[hc]
 rw[hc]at cN;obtain⟨P,hP⟩:=au (dP V ls L L q);rw[hP,gu];by_cases h0:c=0
 rotate_left
 . rw[if_neg h0];have fQ:=aj cN;have Db:((c:Int)==0)=false:=by simpa using h0
   have uR:(c !=0)=true:=by simpa using h0
   clear cN hq ha fq hls hT hs hn hc gu hP hps hok;have Hb:=hbz w;go_enter Tryz.func76,Tryz.ntmps76;go_wp2_with fail;refine gP w (Hb.an trivial) 41 [af Vq,.slice a n cap] 41 [af 0,.slice none 0 0] λW aG ae ai=>?_;go_wp2_with fail;refine aK ae (fQ.out _ ae.2.2.1.out) λw1 ae ai=>?_;go_wp2;refine dI (aN w1 (w.heap.size+1) 0 [af 0,.slice none 0 0]) aR ?_;intro w9 hs0;have ae:=bC hs0 ae;simp only[bD,List.set]at ae;have ai:=qC ae;refine bodyPost_ret (v:=.tuple #[.agg #[af 0,.slice none 0 0],af c]) (by simp[results,Tryz.results76,go_sem,ai]) rfl ⟨0,none,0,0,rfl,λh=>absurd h h0,ae.2.2.1.out⟩
 subst h0;rw[if_pos rfl];by_cases hLV:(L:Int)=Vq
 rotate_left
 . rw[if_neg hLV];have fQ:=aj cN;have uR:((L:Int) !=Vq)=true:=by simpa using hLV
   have Db:((L:Int)==Vq)=false:=by simpa using hLV
   clear cN hq ha fq hls hT hs hn hc gu hP hps hok;have Hb:=hbz w;go_enter Tryz.func76,Tryz.ntmps76;go_wp2_with fail;refine gP w (Hb.an trivial) 41 [af Vq,.slice a n cap] 41 [af 0,.slice none 0 0] λW aG ae ai=>?_;go_wp2_with fail;refine aK ae (fQ.out _ ae.2.2.1.out) λw1 ae ai=>?_;go_wp2;refine dI (aN w1 (w.heap.size+1) 0 [af 0,.slice none 0 0]) aR ?_;intro w9 hs0;have ae:=bC hs0 ae;simp only[bD,List.set]at ae;have ai:=qC ae;refine bodyPost_ret (v:=.tuple #[.agg #[af 0,.slice none 0 0],af 1]) (by simp[results,Tryz.results76,go_sem,ai]) rfl ⟨0,none,0,0,rfl,λh=>(by cases h),ae.2.2.1.out⟩
 rw[if_pos hLV];subst hLV;have hpo:=Nk hc;have hlen:∀t∈q,t.1.length=L:=λt ht=>Bz (hpo.2.1 t ht)
 have hpi:PutIn L D L q:=⟨hpo.1.1,hlen,λt ht c hc=>by
  have h:=hpo.2.1 t ht;unfold df at h;simp only[Bool.and_eq_true,decide_eq_true_eq,List.all_eq_true]at h
  exact h.1 c hc,λt ht=>by rw[Vh t.1 L (hlen t ht)];exact(hq t ht).2.2,λt _ u _ k hk=>by omega⟩
 have hput:=λW (hW:Bw w W)=>amm V L D C K M A B ls ps la pq hok hV hV2 hB LP hBm hps hL L a n cap q W (Nat.le_refl _) hn aS hs (ha.below hW) (fq.below hW) (hls.below hW) (hT.below hW) hpi (λt ht=>(hq t ht).2.1);rw[Nat.sub_self,hP]at hput;have eg:∀args w,(callFunc 148 args).run Tryz.prog w=.ok (.enter 148 args) w:=enters_of Tryz.func148 zk rfl;have hct:∀W bl,Bw w W->W.cell? ⟨bl,0,none⟩=some (af (V:Int))->Cv 147 #[.slice la L pq,.func (.func 148) #[] #[.pointer (some ⟨bl,0,none⟩)]] W (ag false):=by
  intro W bl hW hcl;have h:=Zn la L pq ps 148 #[.pointer (some ⟨bl,0,none⟩)] (λp=>p.V !=(V:Int)) W hps zo (fq.below hW) eg (λx hx W2 hW2=>by simpa using avl (V:Int) x.V x.a x.n x.c bl W2 (cell_later hW2 hcl));have hf:(ps.any λp=>p.V !=(V:Int))=false:=by rw[List.any_eq_false];intro p Be;obtain⟨k,hk,rfl⟩:=List.mem_iff_getElem.1 Be;obtain⟨a,c,e1,_,_⟩:=hls k hk;rw[e1];simp
  rwa [hf]at h
 have abR:=λW (hW:Bw w W) k (hk:k<ps.length)=>(show ∃a c,ps[k]=⟨(V:Int),a,(ls k).length,c⟩/\Cv 79 #[.agg #[af (V:Int),.slice a (ls k).length c]] W (af 0)from by
  obtain⟨a,c,e1,h1,h2⟩:=hls k hk;refine⟨a,c,e1,?_⟩;have h:=Ek (V:Int) a c (ls k).length (ls k) W rfl (by have:=h2.1.2.2.1;omega) (h1.1.below hW) h2.chk (hT.below hW)
  rwa [UO h2.1]at h)
 obtain⟨a1,c1,e1,_,_⟩:=hls 0 zo;obtain⟨b0,o0,gQ,hw0⟩:=fq.azZ 0 zo e1;have qo:=ue L pq 0 0 gQ pS rfl;rw[Nat.zero_mul,Nat.add_zero]at qo hw0;obtain⟨fQ,PG,EQ,Xf,Ha,HL,Qb⟩:=iX cN hput hct abR fq hps hw0;have ug:=World.block_lt_of_cell? w _ hw0.w2.1;simp only at ug;clear cN hq ha fq hls hT hs hn hc gu hP hps hok hput hct abR hpo hlen hpi eg gQ hw0 e1;have hLn:decide ((0:Int)<(L:Int))=true:=by simp;omega
 have RL:(0:Int)<(L:Int):=by omega
 have Hb:=hbz w;go_enter Tryz.func76,Tryz.ntmps76;go_wp2_with fail;refine gP w (Hb.an trivial) 41 [af (L:Int),.slice a n cap] 41 [af 0,.slice none 0 0] λW aG ae ai=>?_;go_wp2_with fail;refine aK ae (fQ.out _ ae.2.2.1.out) λw1 ae ai=>?_;obtain⟨W2,ke,aG,ae,ai⟩:=bO w1 ae 3 [af 0];go_wp2_with fail;first|refine eN (aN W2 (w1.heap.size) 0 [af 0]) aR ?_|refine eJ (aN W2 (w1.heap.size) 0 [af 0]) aR ?_
 intro W3 hs0;have ae:=bC hs0 ae;simp only[bD,List.set]at ae;have ai:=qC ae;go_loopw[28] (λx wr=>∃k:Nat,k<=L/\x=af (k:Int)/\ar wr w.heap.size 41 [af (L:Int),.slice a n cap]/\ar wr (w.heap.size+1) 41 [af 0,.slice none 0 0]/\ar wr w1.heap.size 3 [af 0]/\Bw w wr) (λx _=>L-(intOf x).toNat);case atStart=>exact⟨0,Nat.zero_le _,rfl,ae.2.1.out,ae.2.2.1.out,ae.1.out,ae.2.2.2.1.out⟩
 case round=>
  skip
  obtain⟨k,hk,rfl,hp,hr,hv,pb⟩:=hrel;obtain⟨Hp,Hr,Hv,Hb⟩:=cG hp hr hv pb;clear hp hr hv pb;by_cases hlt:k<L
  . have hk2:k<ps.length:=by rw[HL.out];exact hlt
    obtain⟨a1,c1,e1,hcall⟩:=Xf.out wr Hb.out k hk2;obtain⟨b',o',hab,bY⟩:=(Ha.out.below Hb.out).azZ k hk2 e1;have hcall:=λW (hW:Bw w W)=>(Xf.out W hW k hk2);have aX:=ue L pq k (k:Int) hab hlt rfl;obtain⟨nT,tT⟩:=au ((ls k).length);have SA:Hid (∀W,Bw w W->Cv 79 #[.agg #[af (V:Int),.slice a1 nT c1]] W (af 0)):=by intro W hW;obtain⟨a2,c2,e2,h2⟩:=hcall W hW;rw[e1]at e2;simp only[Pv.mk.injEq,true_and]at e2;obtain⟨rfl,rfl⟩:=e2;rw[tT]at h2;exact h2
    rw[tT]at bY;have Hx:Hid (aQ wr b' (o'+k*2) [af (V:Int),.slice a1 nT c1]):=bY;clear bY hcall hab e1 tT;obtain⟨ae,ai⟩:=qZ (Hp.an<|Hr.an<|Hv.an<|Hx.an trivial);have aG:=qL (Hb.an ae);go_wp2_with fail;refine cF wr (Hb.an ae) 41 [af (V:Int),.slice a1 nT c1] λW4 aG ae ai=>?_;go_wp2_with fail;refine aK ae (SA.out _ ae.2.1.out) λw5 ae ai=>?_;go_wp2;go_roundw;case rel=>exact⟨k+1,by omega,by go_num,ae.2.2.1.out,ae.2.2.2.1.out,ae.2.2.2.2.1.out,ae.2.1.out⟩
    case measure=>exact bi
  . obtain rfl:k=L:=by omega
    have Hx:Hid (aQ wr b0 o0 [af (V:Int),.slice a1 (ls 0).length c1]):=Qb.out.below Hb.out;obtain⟨ae,ai⟩:=qZ (Hp.an<|Hr.an<|Hv.an<|Hx.an trivial);go_wp2_with fail;first|refine eN (aN wr (w1.heap.size) 0 [af (V:Int)]) aR ?_|refine eJ (aN wr (w1.heap.size) 0 [af (V:Int)]) aR ?_
    intro W6 hs0;have ae:=bC hs0 (Hb.an ae);simp only[bD,List.set]at ae;have ai:=qC ae;have v0:W6.cell? ⟨w1.heap.size,0,none⟩=some (af (V:Int)):=ae.2.2.2.1.out.cell 0;go_wp2_with fail;refine aK ae (EQ.out _ _ ae.1.out v0) λw7 ae ai=>?_;go_wp2_with fail;refine(PG.out _ ae.1.out).mono ?_;rintro e w8 ⟨a',c',rfl,kv,ak⟩;obtain⟨ae,ai⟩:=qX ak ae;have HU:Hid (aW w8 (a') (c') P):=kv;clear kv;have Cf:=HU;have zZ:=ae.2.2.1;go_wp2;refine dI (aN w8 (w.heap.size+1) 0 [af (V:Int),.slice a' P.length c']) aR ?_;intro w9 hs0;have ae:=bC hs0 ae;simp only[bD,List.set]at ae;have ai:=qC ae;refine bodyPost_ret (v:=.tuple #[.agg #[af (V:Int),.slice a' P.length c'],af 0]) (by simp[results,Tryz.results76,go_sem,ai]) rfl ⟨(V:Int),a',P.length,c',rfl,λ_=>⟨rfl,rfl,Cf.out.sts zZ.out hs0⟩,ae.1.out⟩
def anS (V L D C K M A B:Nat)(ls:Nat->List Trm)(ps:List Pv)(la:Option Addr)(pq:Nat)(hok:SubOk V L D C K M ls)(hV:0<V)(hV2:V<=12)(hB:A+13* (L+2)+D*K+K<=B)(LP:C<=B)(hBm:B<=100000000)(hps:ps.length=L)(pS:0<L)(hL:L<=1000)
 (Vq:Int) (a:Option Addr) (n cap:Nat) (q:List Trm) (w:World) (hn:q.length=n) (aS:n<=4096) (hs:Sl a n cap) (ha:At w a (q.flatMap aI)) (fq:At w la (ps.flatMap ib)) (hls:fE w V B ps ls) (hT:aB w)
 (hq:∀t∈q,t.1.length<=1000/\Fit A t.2/\degN t.1<=D):
 Cl 18 #[.agg #[af Vq,.slice a n cap],.slice la L pq] w (Qq (vB Vq q L) V (dP V ls L L q) w):=by
 have hsu:=λW (hW:Bw w W)=>avm V L D C K M A B ls ps la pq hok hV hV2 hB LP hBm hps pS hL Vq a n cap q W hn aS hs (ha.below hW) (fq.below hW) (hls.below hW) (hT.below hW) hq;obtain⟨c,hc⟩:=au (vB Vq q L);obtain⟨P,hP⟩:=au (dP V ls L L q);rw[hc,hP]at hsu⊢;have AL:∀k,k<L->∀t∈ls k,t.1.length<=12/\(∀c∈t.1,c.toNat<=127)/\degN t.1<=1:=λk hk t ht=>by have h:=hok.deg k hk t ht;have h2:=h.1;unfold df at h2;simp only[Bool.and_eq_true,decide_eq_true_eq,List.all_eq_true]at h2;exact⟨by have:=Bz h.1;omega,h2.1,h.2⟩
 obtain⟨Ks,OC,Ha,Kk,HL⟩:=eD hsu AL fq hls hps;clear hsu AL fq hls hps hok hq ha hs hT hn hc hP;have Hb:=hbz w;go_enter Tryz.func18,Tryz.ntmps18;go_wp2_with fail;refine gP w (Hb.an trivial) 41 [af Vq,.slice a n cap] 41 [af 0,.slice none 0 0] λW aG ae ai=>?_;go_loopw[12] (λx wr=>∃k:Nat,k<=L/\x=af (k:Int)/\ar wr w.heap.size 41 [af Vq,.slice a n cap]/\ar wr (w.heap.size+1) 41 [af 0,.slice none 0 0]/\Bw w wr) (λx _=>L-(intOf x).toNat);case atStart=>exact⟨0,Nat.zero_le _,rfl,ae.1.out,ae.2.1.out,ae.2.2.1.out⟩
 case round=>
  skip
  obtain⟨k,hk,rfl,hp,hr,pb⟩:=hrel;obtain⟨Hp,Hr,Hb⟩:=bM hp hr pb;clear hp hr pb;by_cases hlt:k<L
  . have hk2:k<ps.length:=by rw[HL.out];exact hlt
    obtain⟨a1,c1,e1,hp1,yx⟩:=Kk.out k hk2;have hN4:(ls k).length<=4096:=yx.1.2.2.1;clear yx;obtain⟨b',o',hab,bY⟩:=(Ha.out.below Hb.out).azZ k hk2 e1;have aX:=ue L pq k (k:Int) hab hlt rfl;have hd1:=OC.out k hlt;generalize ls k=ts at*;obtain⟨N,hN⟩:=au ts.length;rw[hN]at bY hN4;have Hx:Hid (aQ wr b' (o'+k*2) [af (V:Int),.slice a1 N c1]):=bY;obtain⟨Hts,Oy,HN⟩:=bM (hp1.1.below Hb.out) hd1 hN;clear bY hab e1 hN hp1 hd1;obtain⟨wo,hwo⟩:∃u,u=wr:=⟨_,rfl⟩;subst hwo;have jC:=Hb;obtain⟨ae,ai⟩:=qZ (Hp.an<|Hr.an<|Hx.an trivial);have HY:Hid (At wo a1 (ts.flatMap aI)):=Hts.out;have aG:=qL (Hb.an<|HY.an ae);go_wp2_with fail;refine cF wo (Hb.an<|HY.an ae) 41 [af (V:Int),.slice a1 N c1] λW4 aG ae ai=>?_;go_wp2_with fail;go_loopw[19] (λx wr=>∃j:Nat,j<=N/\x=af (j:Int)/\ar wr w.heap.size 41 [af Vq,.slice a n cap]/\ar wr (w.heap.size+1) 41 [af 0,.slice none 0 0]/\At wr a1 (ts.flatMap aI)/\Bw w wr) (λx _=>N-(intOf x).toNat);case atStart=>exact⟨0,Nat.zero_le _,rfl,ae.2.2.2.1.out,ae.2.2.2.2.1.out,ae.2.2.1.out,ae.2.1.out⟩
    case round=>
     skip
     obtain⟨j,hj,rfl,hp,hr,hy,pb⟩:=hrel;obtain⟨Hp,Hr,Hb,HY⟩:=cG hp hr pb hy;clear hp hr pb hy;by_cases hlj:j<N
     . have jP:j<ts.length:=by rw[HN.out];exact hlj
       obtain⟨l,s,m,e,hx⟩:∃l s m e,ts[j]=(l,s,m,e):=⟨_,_,_,_,rfl⟩;obtain⟨b,o,hab,hw⟩:=HY.out.term j jP hx;have aX:=gX N c1 j (j:Int) hab hlj rfl;have hd2:l.length<=12/\(∀c∈l,c.toNat<=127)/\degN l<=1:=by have:=Oy.out _ (List.getElem_mem jP);rw[hx]at this;exact this
       have wI:∀W,Cv 75 #[ah l] W (af (degN l:Int)):=λW=>ZE l W (by have:=hd2.1;omega) hd2.2.1;have hd3:¬(1:Int)<(degN l:Int):=by have:=hd2.2.2;show ¬_<_;omega
       generalize degN l=dg at*;have OB:=aj wI;have Hy:Hid (aQ wr b (o+j*4) [ah l,ag s,ah m,af e]):=hw;clear wI hab hw hx hd2;obtain⟨ae,ai⟩:=qZ (Hp.an<|Hr.an<|Hy.an trivial);have HY:Hid (At wr a1 (ts.flatMap aI)):=HY.out;have aG:=qL (Hb.an<|HY.an ae);go_wp2_with fail;refine cF wr (Hb.an<|HY.an ae) 111 [ah l,ag s,ah m,af e] λW5 aG ae ai=>?_;go_wp2_with fail;refine aK ae (OB.out _) λw6 ae ai=>?_;go_wp2;go_roundw;case rel=>exact⟨j+1,by omega,by go_num,ae.2.2.2.1.out,ae.2.2.2.2.1.out,ae.2.2.1.out,ae.2.1.out⟩
       case measure=>exact bi
     . obtain rfl:j=N:=by omega
       go_wp2;go_roundw;case rel=>exact⟨k+1,by omega,by go_num,Hp.out,Hr.out,Hb.out⟩
       case measure=>exact bi
  . obtain rfl:k=L:=by omega
    obtain⟨ae,ai⟩:=qZ (Hp.an<|Hr.an trivial);go_wp2_with fail;refine(Ks.out _ Hb.out).mono ?_;rintro e w8 ⟨v,a',n',c',rfl,Sw,ak⟩;obtain⟨ae,ai⟩:=qX ak (Hb.an ae);have Oo:=aj Sw;clear Sw;have zZ:=ae.2.2.1;go_wp2;refine dI (aN w8 (w.heap.size+1) 0 [af v,.slice a' n' c']) aR ?_;intro w9 hs0;have ae:=bC hs0 ae;simp only[bD,List.set]at ae;have ai:=qC ae;refine bodyPost_ret (v:=.tuple #[.agg #[af v,.slice a' n' c'],af c]) (by simp[results,Tryz.results18,go_sem,ai]) rfl ⟨v,a',n',c',rfl,λh=>⟨(Oo.out h).1,(Oo.out h).2.1,(Oo.out h).2.2.sts zZ.out hs0⟩,ae.1.out⟩
def uO (Vq:Int)(q:List Trm):Bool:=decide (iu Vq q=0)&&(decide (0<q.length)&&decide (degN (q.getD 0 default).1=0))&&(List.range q.length).all λk=>decide (0<=bg (dval (q.getD k default).2))
def anT {Vq:Int}{q:List Trm}(h:iu Vq q≠0\/q.length=0\/degN (q.getD 0 default).1≠0\/∃k,k<q.length/\bg (dval (q.getD k default).2)<0):uO Vq q=false:=by
 unfold uO;rcases h with h|h|h|⟨k,hk,h⟩
 . simp[h]
 . simp[h]
 . rw[decide_eq_false h];simp
 . rw[Bool.and_eq_false_iff];refine .inr ?_;rw[List.all_eq_false];exact⟨k,List.mem_range.2 hk,by rw[decide_eq_false zo];simp⟩
def anU {Vq:Int}{q:List Trm}(h1:iu Vq q=0)(h2:0<q.length)(h3:degN (q.getD 0 default).1=0)(h4:∀k,k<q.length->0<=bg (dval (q.getD k default).2)):uO Vq q=true:=by unfold uO;simp only[h1,h2,h3,decide_true,Bool.true_and,List.all_eq_true,List.mem_range,decide_eq_true_eq];exact h4
def anV (Vq:Int)(a:Option Addr)(n cap:Nat)(q:List Trm)(w:World)(hn:q.length=n)(aS:n<=4096)(ha:At w a (q.flatMap aI))(hT:aB w)(hq:∀t∈q,t.1.length<=1000/\Ok t.2):
 Cv 20 #[.agg #[af Vq,.slice a n cap]] w (ag (uO Vq q)):=by
 have cN:=λW (hW:Bw w W)=>Ek Vq a cap n q W hn zo (ha.below hW) (λt ht=>⟨by have:=(hq t ht).1;omega,(hq t ht).2⟩) (hT.below hW);obtain⟨c,hc⟩:=au (iu Vq q);rw[hc]at cN;obtain⟨F,hF⟩:=au (uO Vq q);rw[hF];have hno:(c≠0\/n=0\/degN (q.getD 0 default).1≠0\/∃k,k<n/\bg (dval (q.getD k default).2)<0)->F=false:=λh=>by rw[<-hF];exact anT (by rw[hc,hn];exact h)
 have qH:0<n->c=0->degN (q.getD 0 default).1=0->(∀k,k<n->0<=bg (dval (q.getD k default).2))->F=true:=λh1 h2 h3 h4=>by rw[<-hF];exact anU (by rw[hc];exact h2) (by rw[hn];exact h1) h3 (by rw[hn];exact h4)
 have Im:c=0->∀t∈q,∀c∈t.1,c.toNat<=127:=λh t ht=>((UQ (hc.trans h)).2.2.2 t ht).2;obtain⟨fQ,nQ,Ae,Ha,Hn,Hq,HT,Hmy⟩:=nk cN hno qH ha hn hq hT Im;clear cN hno qH ha hn hq hT hc hF Im;have Hb:=hbz w;go_enter Tryz.func20,Tryz.ntmps20;go_wp2_with fail;refine cF w (Hb.an trivial) 41 [af Vq,.slice a n cap] λW aG ae ai=>?_;go_wp2_with fail;refine aK ae (fQ.out _ ae.2.1.out) λw1 ae ai=>?_;by_cases h0:c=0
 rotate_left
 . have Db:(c==0)=false:=by simpa using h0
   have uR:(c !=0)=true:=by simpa using h0
   obtain rfl:=nQ.out (.inl h0);go_wp2;refine bodyPost_ret (results_tmp rfl _ _ _) rfl ⟨rfl,ae.2.1.out⟩
 subst h0;by_cases hn0:n=0
 . subst hn0;obtain rfl:=nQ.out (.inr (.inl rfl));go_wp2;refine bodyPost_ret (results_tmp rfl _ _ _) rfl ⟨rfl,ae.2.1.out⟩
 have hnb:((n:Int)==0)=false:=by simpa using hn0
 have h0l:0<q.length:=by rw[Hn.out];omega
 have uR:0<n:=by omega
 obtain⟨l,s,m,e,hx⟩:∃l s m e,q[0]=(l,s,m,e):=⟨_,_,_,_,rfl⟩;obtain⟨b,o,hab,hw⟩:=(Ha.out.below ae.2.1.out).term 0 h0l hx;have aX:=gX n cap 0 0 hab uR rfl;rw[Nat.zero_mul,Nat.add_zero]at aX hw;have hgd:q.getD 0 default=(l,s,m,e):=by rw[List.getD_eq_getElem?_getD,List.getElem?_eq_getElem h0l,hx];rfl
 have wI:∀W,Cv 75 #[ah l] W (af (degN l:Int)):=λW=>ZE l W (by have:=(Hq.out _ (List.getElem_mem h0l)).1;rw[hx]at this;exact Nat.le_trans this zd) (by have:=Hmy.out rfl _ (List.getElem_mem h0l);rw[hx]at this;exact this);have acJ:degN l≠0->F=false:=λh=>nQ.out (.inr (.inr (.inl (by rw[hgd];exact h))));have adH:degN l=0->(∀k,k<n->0<=bg (dval (q.getD k default).2))->F=true:=λh=>Ae.out uR rfl (by rw[hgd];exact h);generalize degN l=dg at*;obtain⟨OB,ai0,aj8⟩:=bM wI acJ adH;have Hx:Hid (aQ w1 b o [ah l,ag s,ah m,af e]):=hw;clear wI acJ adH hab hw hx hgd;obtain⟨ae,ai⟩:=qZ (Hx.an ae);go_wp2_with fail;refine aK ae (OB.out _) λw2 ae ai=>?_;by_cases hd0:dg=0
 rotate_left
 . have yw:((dg:Int)==0)=false:=by simpa using hd0
   have fe:((dg:Int) !=0)=true:=by simpa using hd0
   obtain rfl:=ai0.out hd0;go_wp2;refine bodyPost_ret (results_tmp rfl _ _ _) rfl ⟨rfl,ae.2.2.1.out⟩
 subst hd0;have bW:=ae.2.2.1;go_wp2_with fail;go_loopw[26] (λx wr=>∃k:Nat,k<=n/\x=af (k:Int)/\(∀j,j<k->0<=bg (dval (q.getD j default).2))/\Bw w wr) (λx _=>n-(intOf x).toNat);case atStart=>exact⟨0,Nat.zero_le _,rfl,λj h=>absurd h (Nat.not_lt_zero _),ae.2.2.1.out⟩
 case round=>
  skip
  obtain⟨k,hk,rfl,hall,pb⟩:=hrel;obtain⟨fP,Hb⟩:=aH hall pb;clear hall pb;by_cases hlt:k<n
  . have hk2:k<q.length:=by rw[Hn.out];exact hlt
    obtain⟨l,s,m,e,hx⟩:∃l s m e,q[k]=(l,s,m,e):=⟨_,_,_,_,rfl⟩;obtain⟨b,o,hab,hw⟩:=(Ha.out.below Hb.out).term k hk2 hx;have aX:=gX n cap k (k:Int) hab hlt rfl;have hgd:q.getD k default=(l,s,m,e):=by rw[List.getD_eq_getElem?_getD,List.getElem?_eq_getElem hk2,hx];rfl
    have Tk:=(Hq.out _ (List.getElem_mem hk2)).2;rw[hx]at Tk;obtain⟨S,hS⟩:=au (bg (dval (s,m,e)));have jy:bg (dval (q.getD k default).2)=S:=by rw[hgd];exact hS
    have Hy:Hid (aQ wr b (o+k*4) [ah l,ag s,ah m,af e]):=hw;obtain⟨jp,HS,ai7⟩:=bM jy hS Tk;clear hab hw hx hgd jy hS Tk;obtain⟨ae,ai⟩:=qZ (Hy.an trivial);have aG:=qL (Hb.an ae);go_wp2_with fail;refine cF wr (Hb.an ae) 111 [ah l,ag s,ah m,af e] λW3 aG ae ai=>?_;go_wp2_with fail;refine aK ae (nV s m e S HS.out _ ai7.out) λw4 ae ai=>?_;by_cases lf:S<0
    . obtain rfl:=nQ.out (.inr (.inr (.inr ⟨k,hlt,by rw[jp.out];exact lf⟩)));go_wp2;refine bodyPost_ret (results_tmp rfl _ _ _) rfl ⟨rfl,ae.2.1.out⟩
    . go_wp2;go_roundw;case rel=>
       refine⟨k+1,by omega,by go_num,λj h=>?_,ae.2.1.out⟩;by_cases hjk:j=k
       . subst hjk;rw[jp.out];omega
       . exact fP.out j zo
      case measure=>exact bi
  . obtain rfl:k=n:=by omega
    obtain rfl:=aj8.out (by trivial) fP.out;go_wp2;refine bodyPost_ret (results_tmp rfl _ _ _) rfl ⟨rfl,Hb.out⟩
end Go.Proofs.YtpfgffadgkkedaaGreatDoor
namespace Go.Proofs.YtpfgffadgkkedaaGreatDoor
def anE (Y:Nat->Dyadic)(V:Nat)(ts:List Trm):Gg Y V ts ts.length=bG (fh Y V) ts:=by rw[LC Y V ts _ (Nat.le_refl _),List.take_length]
def ZQ (X:Dyadic):0<bg X↔0<X:=by
 have h1:=pQ X;have h2:=QX X;constructor
 . intro h;have a1:¬X<0:=λh4=>by have:=h1.2 h4;omega
   have a2:¬X=0:=λh4=>by have:=h2.2 h4;omega
   grind
 . intro h;have a1:¬bg X<0:=λh4=>by have:=h1.1 h4;grind
   have a2:¬bg X=0:=λh4=>by have:=h2.1 h4;grind
   omega
def Ql (bx:List (Raw×Raw))(rows:List (List Raw))(X:Nat->Dyadic):Prop:=∀k,k<gv bx.length rows.length->0<=bG (fh X (cH bx.length rows.length)) (jh bx rows k)
def asz {rows:List (List Raw)}{V:Nat}{X:Nat->Dyadic}(h1:1<=V)(h4:V<=4)(hm:rows.length=V+1)(h:fU V (cO rows) X):Ql [] rows X:=λk hk=>by
 have hV:cH ([]:List (Raw×Raw)).length rows.length=V:=by unfold cH;rw[hm,if_pos zo];omega
 have hT:jh [] rows=jL V (cO rows) V:=by unfold jh;rw[hm,if_pos zo];rfl
 have hk2:k<=V:=by unfold gv at hk;rw[hm,if_pos zo]at hk;omega
 rw[hV,hT,<-anE,Ro V h1 h4 (cO rows) X k hk2];have:=h k hk2;grind
def ae3 {V D M N:Nat}(hV:V<=4)(h:D^4*M<=N)(hD:1<=D):D^V*M<=N:=
 Nat.le_trans (Nat.mul_le_mul_right _ (Nat.pow_le_pow_right hD hV)) h
def ard {bx:List (Raw×Raw)}{rows:List (List Raw)}{C K:Nat}(hK:C+25<=K)(hV:cH bx.length rows.length<=4)(hf:∀k,k<gv bx.length rows.length->dU (cH bx.length rows.length) C (jh bx rows k))(hr:0<rows.length->1<=rows.length-1):SubOk (cH bx.length rows.length) (gv bx.length rows.length) 5 C K 5 (jh bx rows):=by
 refine⟨λk hk=>?_,λk hk t ht=>((hf k hk).2 t ht).2,hK,by decide,λk hk=>?_,ae3 hV zd zd,by have:=ae3 (M:=1) (N:=2048) hV (show(5+1)^4*1<=2048 by decide) zd;omega⟩
 . unfold jh cH;split
   . exact an7 _ _ _ _
   . unfold pO;split
     . exact aei _ _ _
     . exact ack _ _ _
 . unfold jh;unfold cH at hV;split
   . rename_i h0
     rw[if_pos h0]at hV;unfold jL;split
     . have:=aaf (rows.length-1) (cO rows) (rows.length-1);omega
     . have:=Ue (rows.length-1) (cO rows) (k-1);omega
   . unfold pO;split
     . have:=aej bx.length (k/2) (eK ((bx.map aY).getD (k/2) (0,0))).1;omega
     . have:=acl bx.length (k/2) (eK ((bx.map aY).getD (k/2) (0,0))).2;omega
def anX {V L D C K M:Nat}{l:Nat->List Trm}{q:List Trm}{X:Nat->Dyadic}(h:SubOk V L D C K M l)(hp:FM L q)(hd:∀t∈q,degN t.1<=D)(hX:∀k,k<L->0<=bG (fh X V) (l k))(hF:uO (L:Int) q=true):0<bG (fh X V) (dP V l L L q):=by
 have hlen:∀t∈q,t.1.length=L:=λt ht=>Bz (hp.2.1 t ht)
 have e:=auN X h L D q (Nat.le_refl _) (Nat.le_refl _) (λt ht=>by rw[Vh t.1 L (hlen t ht)];exact hd t ht) hp.1.1 (λt ht=>⟨hlen t ht,λc hc=>by
  have h:=hp.2.1 t ht;unfold df at h;simp only[Bool.and_eq_true,decide_eq_true_eq,List.all_eq_true]at h
  exact h.1 c hc⟩) (λt _ u _ k hk=>by omega)
 rw[e];unfold uO at hF;simp only[Bool.and_eq_true,decide_eq_true_eq,List.all_eq_true,List.mem_range]at hF;obtain⟨⟨_,h0,h1⟩,h2⟩:=hF;have hnn:∀t∈q,0<=dval t.2:=λt ht=>by obtain⟨k,hk,rfl⟩:=List.mem_iff_getElem.1 ht;have h9:=h2 k hk;rw[List.getD_eq_getElem?_getD,List.getElem?_eq_getElem hk]at h9;have h8:=mt (pQ (dval q[k].2)).2 (by have:0<=bg (dval q[k].2):=h9;omega);grind
 cases q with
 |nil=>simp at h0
 |cons x p=>have h1':degN x.1=0:=h1;refine anW hX (λk _=>by have:=zr x.1 k;have h7:gB x.1=0:=h1';omega) ?_ (λt ht=>hnn t (by simp[ht]));have hx:=hnn x zm;have hnz:=(hp.1.2 x zm).1;grind
def aqA (n:Nat)(aS:n<=4){p q:Nat->Nat->Dyadic}(h:∀a b,a<=n->b<n->p a b=q a b)(x:Nat->Dyadic):fU n p x↔fU n q x:=by
 have e:∀k,fK n p x k=fK n q x k:=λk=>by unfold fK;rw[Ra n aS h,Ra n aS (p:=bK p k x) (q:=bK q k x) (λa b ha hb=>by unfold bK;rw[h a b ha hb])]
 unfold fU;simp only[e]
def apa {n B:Nat}{rows:List (List Raw)}(h:Rw n B rows)(hn:1<=n)(aS:n<=4)(hB:B<=10000000)(x:Nat->Dyadic):
 fU n (cO rows) x↔fU n (cO (oU n false rows)) x\/fU n (cO (oU n true rows)) x:=by
 have hF:=MX (gz rows n) (n+1) zo;have h1:∀s:Bool,fU n (cO (oU n s rows)) x↔fU n (yR (cO rows) (hp 1) (gZ (gz rows n) (n+1)).1 (gZ (gz rows n) (n+1)).2.1 (if s then(gZ (gz rows n) (n+1)).1 else(gZ (gz rows n) (n+1)).2.1)) x:=λs=>
  aqA n aS (λa b ha hb=>aby n _ _ _ B rows h.1 h.2.1 hF.1 zo (by cases s<;>simp<;>omega) h.2.2 hB a b ha hb) x
 have h2:=aqC n hn aS (cO rows) (hp 1) IC _ _ (Nat.ne_of_lt hF.1) zo zo x;rw[h1,h1,h2];rfl
def ao9 {n B:Nat}{rows:List (List Raw)}(h:Rw n B rows)(hn:1<=n)(aS:n<=4)(hB:B<=10000000)(h0:jb rows=0)(s:Bool):jb (oU n s rows)=0:=by have hF:=MX (gz rows n) (n+1) zo;exact apc n _ _ _ B rows hn aS h.1 h.2.1 hF.1 zo (by cases s<;>simp) h.2.2 hB h0
def rM (bx:List Pr)(X:Nat->Dyadic):Prop:=∀k,k<bx.length->(bx.getD k (0,0)).1<=X k/\X k<=(bx.getD k (0,0)).2
def alV {bx:List Pr}(h0:bx≠[])(h:∀p∈bx,p.1<p.2):iL bx=0:=by unfold iL;rw[if_neg h0,if_neg];rw[List.any_eq_true];rintro⟨p,hp,h1⟩;have h2:=h p hp;have h3:=(pQ (p.1-p.2)).2 (by grind);simp at h1;omega
def QI {bx:List Pr}(h:iL bx=0):bx≠[]/\∀p∈bx,p.1<p.2:=by obtain⟨h1,h2⟩:=QJ h;exact⟨h1,λp hp=>by have:=(pQ _).1 (h2 p hp);grind⟩
def aes {p:Pr}(h:p.1<p.2):p.1<jA p/\jA p<p.2:=by
 have h1:jA p+jA p=p.1+p.2:=by
  unfold jA;have h3:=IC;have:(p.1+p.2) *hp 1+(p.1+p.2) *hp 1=(p.1+p.2) * (hp 1+hp 1):=by grind
  rw[this,h3];grind
 constructor<;>grind
def UF {p:Pr}(h:p.1<p.2):eK p=p:=UE ((pQ _).2 (by grind))
def arP {bx:List Pr}(h:∀p∈bx,p.1<p.2):bx.map eK=bx:=by
 induction bx with
 |nil=>rfl
 |cons x l ih=>rw[List.map_cons,UF (h x zm),ih (λp hp=>h p (by simp[hp]))]
def getD_in {bx:List Pr}{a:Nat}(ha:a<bx.length):bx.getD a (0,0)∈bx:=by
 have e:bx.getD a (0,0)=bx[a]:=by simp[ha]
 rw[e];exact List.getElem_mem ha
def Sp {bx:List Pr}{a:Nat}(ha:a<bx.length)(h:∀p∈bx,p.1<p.2)(up:Bool):jw bx a up=bx.set a (if up then(jA (bx.getD a (0,0)),(bx.getD a (0,0)).2)else((bx.getD a (0,0)).1,jA (bx.getD a (0,0)))):=by unfold jw;rw[arP h,UF (h _ (getD_in ha))]
def ao6 {bx:List Pr}{a:Nat}(ha:a<bx.length)(h:∀p∈bx,p.1<p.2)(up:Bool):∀p∈jw bx a up,p.1<p.2:=by
 have h2:=aes (h _ (getD_in ha));rw[Sp ha h];intro p hp;rcases List.mem_or_eq_of_mem_set hp with h1|h1
 . exact h p h1
 . subst h1;cases up
   . exact h2.1
   . exact h2.2
def aop {bx:List Pr}{a:Nat}(ha:a<bx.length)(v:Pr)(k:Nat):(bx.set a v).getD k (0,0)=if k=a then v else bx.getD k (0,0):=by
 by_cases hk:k=a
 . subst hk;rw[if_pos rfl];simp[ha]
 . rw[if_neg hk,List.getD_eq_getElem?_getD,List.getD_eq_getElem?_getD,List.getElem?_set_ne (λe=>hk e.symm)]
def ao5 {bx:List Pr}{a:Nat}(ha:a<bx.length)(h:∀p∈bx,p.1<p.2)(X:Nat->Dyadic):rM bx X↔rM (jw bx a false) X\/rM (jw bx a true) X:=by
 have h2:=aes (h _ (getD_in ha));rw[Sp ha h,Sp ha h,if_neg zd,if_pos rfl];generalize hm:jA (bx.getD a (0,0))=m at*;unfold rM;simp only[List.length_set,aop ha];constructor
 . intro h1;by_cases hX:X a<=m
   . left;intro k hk;by_cases hka:k=a
     . subst hka;rw[if_pos rfl];exact⟨(h1 k hk).1,hX⟩
     . rw[if_neg hka];exact h1 k hk
   . right;intro k hk;by_cases hka:k=a
     . subst hka;rw[if_pos rfl];exact⟨by grind,(h1 k hk).2⟩
     . rw[if_neg hka];exact h1 k hk
 . rintro(h1|h1) k hk
   . have h3:=h1 k hk;by_cases hka:k=a
     . subst hka;rw[if_pos rfl]at h3;exact⟨h3.1,by grind⟩
     . rw[if_neg hka]at h3;exact h3
   . have h3:=h1 k hk;by_cases hka:k=a
     . subst hka;rw[if_pos rfl]at h3;exact⟨by grind,h3.2⟩
     . rw[if_neg hka]at h3;exact h3
def fR (d:DmR):Prop:=rC d.1.length d.2.length (iL (d.1.map aY)) (jb d.2)=0
def iy (B:Nat)(d:DmR):Prop:=kJ B d.1/\∀r∈d.2,∀c∈r,Fit B c
def iy.mono {B C:Nat}{d:DmR}(h:iy B d)(hB:B<=C):iy C d:=⟨λs hs=>⟨(h.1 s hs).1.mono hB,(h.1 s hs).2.mono hB⟩,λr hr c hc=>(h.2 r hr c hc).mono hB⟩
def fg (up:Bool)(d:DmR):DmR:=if 0<d.2.length then([],oU (d.2.length-1) up d.2)else((jw (d.1.map aY) (qP (d.1.map aY)) up).map kG,[])
def eO (d:DmR)(X:Nat->Dyadic):Prop:=if 0<d.2.length then fU (d.2.length-1) (cO d.2) X else rM (d.1.map aY) X
def rB {d:DmR}{B:Nat}(h:fR d)(hf:iy B d)(h5:d.2.length<=5):(∃q,q+1<=4/\d.1=[]/\Rw (q+1) B d.2/\d.2.length=q+2/\jb d.2=0)\/(d.2=[]/\1<=d.1.length/\d.1.length<=6/\iL (d.1.map aY)=0):=by
 rcases QT h with⟨h1,h2,h3⟩ |⟨h1,h2,h3,h4⟩
 . obtain⟨q,hq,hr⟩:=afQ h5 hf.2 h3;exact .inl ⟨q,hq,List.length_eq_zero_iff.1 h1,hr,hr.1,h3⟩
 . exact .inr ⟨List.length_eq_zero_iff.1 h1,h2,h3,h4⟩
def amJ {rows:List (List Raw)}{q:Nat}(h:rows.length=q+2)(h0:jb rows=0):fR ([],rows):=by unfold fR rC;rw[h0];simp only[List.length_nil,h];rw[if_neg zo,if_pos zo]
def amH {bx:List (Raw×Raw)}(h1:1<=bx.length)(h6:bx.length<=6)(h0:iL (bx.map aY)=0):fR (bx,[]):=by unfold fR rC;simp only[List.length_nil,h0];rw[if_neg zo,if_neg zo,if_neg zo]
def VU {bx:List Pr}(h:1<=bx.length):qP bx<bx.length:=(YO _ _ h).1
def aer (l:List Pr):(l.map kG).map aY=l:=by
 rw[List.map_map];induction l with
 |nil=>rfl
 |cons x l ih=>rw[List.map_cons,ih];exact congrArg (·::l) (ava x)
def IM {d:DmR}{B:Nat}(h:fR d)(hf:iy B d)(h5:d.2.length<=5)(hB:B<=1000000)(up:Bool):fR (fg up d)/\iy (B+3) (fg up d)/\(fg up d).1.length=d.1.length/\(fg up d).2.length=d.2.length:=by
 rcases rB h hf h5 with⟨q,hq,h1,hr,hl,h0⟩ |⟨h1,h2,h6,h0⟩
 . have e:d.2.length-1=q+1:=by omega
   unfold fg;rw[if_pos zo,e,h1];have hr2:=apb hr zo zo up;exact⟨amJ hr2.1 (ao9 hr zo hq zo h0 up),⟨λs hs=>(by cases hs),hr2.2.2⟩,rfl,by rw[hl];exact hr2.1⟩
 . unfold fg;rw[h1,if_neg zm];have hl:(d.1.map aY).length=d.1.length:=List.length_map ..;have ha:=QI h0;have hw:=VU (bx:=d.1.map aY) zo;refine⟨amH (by rw[List.length_map,Mb,hl];exact h2) (by rw[List.length_map,Mb,hl];exact h6) ?_,⟨kJ.of (ao8 hf.1.smP _ up) zo,λr hr=>(by cases hr)⟩,by rw[List.length_map,Mb,hl],rfl⟩;rw[aer];exact alV (by intro h9;have:=Mb (d.1.map aY) (qP (d.1.map aY)) up;rw[h9]at this;simp at this;omega) (ao6 hw ha.2 up)
def adu {d:DmR}{B:Nat}(h:fR d)(hf:iy B d)(h5:d.2.length<=5)(hB:B<=1000000)(X:Nat->Dyadic):eO d X↔eO (fg false d) X\/eO (fg true d) X:=by
 have hl0:=(IM h hf h5 hB false).2.2.2;have gq:=(IM h hf h5 hB true).2.2.2;rcases rB h hf h5 with⟨q,hq,h1,hr,hl,h0⟩ |⟨h1,h2,h6,h0⟩
 . have e:d.2.length-1=q+1:=by omega
   unfold eO;rw[if_pos zo,if_pos zo,if_pos zo,hl0,gq,e];unfold fg;rw[if_pos zo,if_pos zo,e];exact apa hr zo hq zo X
 . have hl:(d.1.map aY).length=d.1.length:=List.length_map ..;have e0:¬0<d.2.length:=by rw[h1];simp
   unfold eO;rw[if_neg e0,if_neg zo,if_neg zo];unfold fg;rw[if_neg e0,if_neg e0];simp only[aer];exact ao5 (VU zo) (QI h0).2 X
def asy {d:DmR}{B:Nat}{X:Nat->Dyadic}(h:fR d)(hf:iy B d)(h5:d.2.length<=5)(hX:eO d X):Ql d.1 d.2 X:=by
 rcases rB h hf h5 with⟨q,hq,h1,hr,hl,h0⟩ |⟨h1,h2,h6,h0⟩
 . have e:d.2.length-1=q+1:=by omega
   unfold eO at hX;rw[if_pos zo,e]at hX;rw[h1];exact asz zo hq hl hX
 . unfold eO at hX;rw[if_neg (by rw[h1];simp)]at hX;rw[h1];have ha:=QI h0;intro k hk;have hk2:k<2*d.1.length:=hk;have hi:k/2<d.1.length:=by omega
   have hlt:=ha.2 (aY d.1[k/2]) (List.mem_map.2 ⟨_,List.getElem_mem hi,rfl⟩);have hg:(d.1.map aY).getD (k/2) (0,0)=aY d.1[k/2]:=by simp[hi]
   have hs:=hX (k/2) (by simpa using hi);rw[hg]at hs;show 0<=bG (fh X d.1.length) (pO d.1.length (d.1.map aY) k)
   unfold pO;rw[hg,UF hlt];split
   . rw[aro _ _ _ _ hi];grind
   . rw[apG _ _ _ _ hi];grind
end Go.Proofs.YtpfgffadgkkedaaGreatDoor
namespace Go.Proofs.YtpfgffadgkkedaaGreatDoor
open Go.RowKit
attribute [local go_sem ↓] Go.wp_at_zero Go.wp_at_succ
def nX (c:UInt8):Nat:=if c.toNat=255 then 256 else c.toNat
def Re (c:UInt8):nX c<=256:=by unfold nX;have:=c.toNat_lt;split<;>omega
def eV (tb:List UInt8)(k:Nat):Dyadic:=Dyadic.ofIntWithPrec (nX (tb.getD k 0):Int) 0*hp 8
def sY (tb:List UInt8)(n:Nat):List Raw:=(List.range n).map λk=>canon (eV tb k)
def anv (tb:List UInt8)(k:Nat):eV tb k=Dyadic.ofIntWithPrec (nX (tb.getD k 0):Int) 8:=by unfold eV hp;rw[yX,Int.mul_one];rfl
def ZV (c:Nat)(h:c<=256):Sm 9 (Dyadic.ofIntWithPrec (c:Int) 0):=
 ⟨(c:Int) *2^9,(rT (c:Int) 9 0).symm,by rw[Int.natAbs_mul,Int.natAbs_pow];show c*2^9<2^(2*9);omega⟩
def Rf (tb:List UInt8)(k:Nat):Sm 20 (eV tb k):=by unfold eV;exact(Sm.mul (ZV _ (Re _)) (MD 8)).mono zd
def ZW (tb:List UInt8)(k:Nat):0<=eV tb k/\eV tb k<=1:=by
 rw[anv];have h0:=Re (tb.getD k 0);have h1:=UJ (nX (tb.getD k 0):Int) 8;have h2:=UJ (256-nX (tb.getD k 0):Int) 8;have h3:Dyadic.ofIntWithPrec (256-nX (tb.getD k 0):Int) 8=1-Dyadic.ofIntWithPrec (nX (tb.getD k 0):Int) 8:=by
  have e:(1:Dyadic)=Dyadic.ofIntWithPrec 256 8:=by decide+kernel
  have e2:=vv 256 (-(nX (tb.getD k 0):Int)) 8;have e3:=Ji (nX (tb.getD k 0):Int) 8;rw[e,Int.sub_eq_add_neg,<-e2,<-e3];grind
 rw[h3]at h2;have h5:¬1-Dyadic.ofIntWithPrec (nX (tb.getD k 0):Int) 8<0:=λh=>by have:=h2.1 h;omega
 have h6:¬Dyadic.ofIntWithPrec (nX (tb.getD k 0):Int) 8<0:=λh=>by have:=h1.1 h;omega
 constructor<;>grind
def aqF (bx:List (Raw×Raw))(n m B:Nat)(a a':Option Addr)(cap cap':Nat)(tb:List UInt8)(ta:Option Addr)(tn tc:Nat)(w:World)(hn:bx.length=n)(h1:1<=n)(hl:n<=1000)(hf:kJ B bx)(hB8:20<=B)(hB:B<=10000000)(ha:At w a (bx.flatMap spC))(ht:tb.length=tn)(iV:At w ta (mJ tb))(hT:aB w):
 Cl 33 #[.agg #[.slice a n cap,.slice a' m cap'],.slice ta tn tc] w λe w'=>∃(a2:Option Addr) (c2:Nat),e=.returned (.slice a2 n c2)/\At w' a2 (((List.range n).map λk=>canon (vz bx (sY tb n) k)).flatMap aV)/\Bw w w':=by
 obtain⟨i0,hi,hz0,hz1,hz2⟩:=info_parts Tryz.azX;obtain⟨X,hX⟩:=au (sY tb n);have ki:X.length=n:=by rw[<-hX];simp[sY]
 have Dj:∀k (h:k<X.length),X[k]=canon (eV tb k):=λk h=>by subst hX;simp[sY]
 have hXf:∀x∈X,Fit B x:=λx hx=>by obtain⟨k,hk,rfl⟩:=List.mem_iff_getElem.1 hx;rw[Dj k hk];exact((Rf tb k).mono hB8).fit zo
 have hpl:=λ(W:World) a5 c5 (hW:Bw w W) (hat:At W a5 (X.flatMap aV))=>atp a n cap B bx X a5 c5 W hn hl hf hB (ha.below hW) ki hXf hat (hT.below hW);have ve:=iV;rw[<-af3]at ve;rw[hX];obtain⟨Hi,cu,bV,bX,ut,Oc,lM,Cx,HT,Ht⟩:=Bt hi hz0 hz1 hz2 ki Dj hpl ve hT ht;clear hi hz0 hz1 hz2 ki Dj hXf hpl ve iV hT ht hX hf ha hn;have hn0:decide (0<n)=true:=by simp;omega
 have dK:0<n:=h1;have Hb:=hbz w;go_enter Tryz.func33,Tryz.ntmps33;go_wp2_with fail;refine cF w (Hb.an trivial) 27 [.slice a n cap,.slice a' m cap'] λW aG ae ai=>?_;have su:=ae.2.1;go_loopw[5,6] (λs5 x wr=>∃(k:Nat) (v:Value),k<=n/\x=af (k:Int)/\v=s5/\wr.ownsRow W.heap.size 45 3 v k ((X.take k).flatMap aV)/\ar wr w.heap.size 27 [.slice a n cap,.slice a' m cap']/\Bw W wr) (λ_ x _=>n-(intOf x).toNat);case atStart=>exact⟨0,_,Nat.zero_le _,rfl,rfl,World.ownsRow_nil _ _ _ _,ae.1.out,Below.refl _ _⟩
 case round=>
  skip
  obtain⟨k,v,hk,rfl,rfl,ho,hd,pb⟩:=hrel;obtain⟨Ho,Xg,aP,mP⟩:=cG ho hd pb (aF su.out pb);have ic:=pb.size;clear ho hd pb;by_cases hlt:k<n
  . have hkX:k<X.length:=by rw[ut.out];exact hlt
    have hst:=aeP X k hkX;rw[Oc.out k hkX]at hst;obtain⟨c,hc⟩:=au (tb.getD k 0);have hcv:eV tb k=Dyadic.ofIntWithPrec (nX c:Int) 0*hp 8:=by unfold eV;rw[hc]
    have hcs:=Rf tb k;rw[hcv]at hst hcs;have abO:=Re c;have mV:nX c=if c.toNat=255 then 256 else c.toNat:=rfl
    have ayk:c.toNat<=255:=by have:=c.toNat_lt;omega
    generalize nX c=C at*;obtain⟨D,hD⟩:=au (Dyadic.ofIntWithPrec (C:Int) 0);have je:Sm 9 D:=by rw[<-hD];exact ZV _ abO
    rw[hD]at hst hcs;obtain⟨F,hF⟩:=au (D*hp 8);rw[hF]at hst hcs;have nR:=λW (hW:aB W)=>CV (C:Int) D hD W zo hW;have xR:=λW (hW:aB W)=>Ns (az (dN D)) (nt (dN D).natAbs) (dE D) (-8) F (by rw[<-hF];exact Nt D 8) W (je.fit zd).1 zd hW;have tZ:(X.take (k+1)).flatMap aV=(X.take k).flatMap aV++(bE F):=hst;obtain⟨ai6,ajC,bN⟩:=bM nR xR tZ;have hwc:IntKind.i64.wrap (c.toNat:Int)=(c.toNat:Int):=by rw[IntKind.wrap_i64];omega
    have Ch:=aj mV;clear hst tZ hcv hcs hD je hF nR xR mV;have Hc:=aj hc;clear hc;have Hd:=Xg;have Hb:=hbz wr;obtain⟨ae,ai⟩:=qZ (Hd.an trivial);go_upto_if 26 with fail
    go_cut[7] (λs7 wx=>s7=af (c.toNat:Int)/\wr=wx);case first=>
     by_cases hkt:k<tn
     . have Ic:k<tb.length:=by rw[Ht.out];exact hkt
       obtain⟨b,o,hab,hcl⟩:=(Cx.out.below mP.out).elem (f:=λc:UInt8=>[Value.int .u8 (c.toNat:Int)]) (sz:=1) (λ_=>rfl) zd k Ic;have Dn:=hcl 0 zm;rw[Nat.mul_one,Nat.add_zero]at Dn;have cN:tb[k]=c:=by rw[<-Hc.out];simp[Ic]
       rw[cN]at Dn;have aX:=yL tn tc k (k:Int) hab hkt rfl;rw[Nat.mul_one]at aX;clear hcl hab cN;go_wp2_with fail;go_meet;exact⟨rfl,rfl⟩
     . have Ic:¬k<tb.length:=by rw[Ht.out];exact hkt
       have hc0:c.toNat=0:=by rw[<-Hc.out,List.getD_eq_getElem?_getD,List.getElem?_eq_none zo];rfl
       go_wp2_with fail;go_meet;exact⟨by rw[hc0];rfl,rfl⟩
    case rest=>
     obtain⟨rfl,rfl⟩:=hcut;go_upto_if 33 with fail
     go_cut[7] (λs7 wx=>s7=af (C:Int)/\wr=wx);case first=>
      have mV:=Ch.out;by_cases h255:c.toNat=255
      . rw[if_pos h255]at mV;subst mV;have apo:((c.toNat:Int)==255)=true:=by rw[h255];rfl
        go_wp2_with fail;go_meet;exact⟨rfl,rfl⟩
      . rw[if_neg h255]at mV;subst mV;have apo:((c.toNat:Int)==255)=false:=by simp;omega
        go_wp2_with fail;go_meet;exact⟨rfl,rfl⟩
     obtain⟨rfl,rfl⟩:=hcut;have HU:Hid (aB wr):=HT.out.below mP.out;go_wp2_with fail;refine aK (Hb.an<|HU.an ae) (ai6.out _ HU.out) λw5 ae ai=>?_;go_wp2_with fail;refine aK ae (ajC.out _ ae.2.1.out) λw6 ae ai=>?_;obtain⟨W7,AB,aG,ae,ai⟩:=bO w6 ae 45 (bE F);have cf:=ownsRow_below Ho.out ae.2.1.out;have jS:=ae.2.1.out.size;have hnews:=fM ae.1.out;have xH:=ae.2.2.2.1;go_wp2_with (at_builtin;refine wpList_append_own_at _ rfl _ _ 63 rfl W.heap.size 45 i0 _ 3 32 Tryz.underlying63 Hi.out cu.out bV.out bX.out rfl zd v k ((X.take k).flatMap aV) rfl cf ⟨w6.heap.size,0,none⟩ 1 1 (bE F) rfl rfl hnews zy zx zo zo ?_;intro v' w8 dO bA _ _);have gT:=(aF aP.out ae.2.1.out).grown bA zo (λj e=>cE cf j e);have hd8:=xH.out.row zd cf bA;rw[<-bN.out]at dO;obtain⟨iJ,jc,Hd8⟩:=bM dO gT hd8;clear dO gT bA cf hnews hd8 xH;go_wp2;go_roundw;case rel=>exact⟨k+1,_,by omega,by go_num,rfl,iJ.out,Hd8.out,jc.out⟩
     case measure=>exact bi
  . obtain rfl:k=n:=by omega
    have ho:=Ho.out;rw[List.take_of_length_le (by rw[ut.out];exact Nat.le_refl _)]at ho;obtain⟨a5,c5,rfl,hat,_⟩:=cw ho;have Hb:=mP;have dV:=aj hat;have Hd:=Xg;clear ho hat;obtain⟨ae,ai⟩:=qZ (Hd.an trivial);go_wp2_with fail;refine(lM.out _ a5 c5 Hb.out dV.out).mono ?_;rintro e w8 ⟨a2,c2,rfl,rG,ak⟩;obtain⟨ae,ai⟩:=qX ak (Hb.an ae);go_wp2;refine bodyPost_ret (results_tmp rfl _ _ _) rfl ⟨a2,c2,rfl,rG,ae.1.out⟩
def aqG (rows:List (List Raw))(V B:Nat)(a a':Option Addr)(cap cap':Nat)(tb:List UInt8)(ta:Option Addr)(tn tc:Nat)(w:World)(h1:1<=V)(h4:V<=4)(hr:Rw V B rows)(hB:B<=1000000)(ha:Tbl w a' rows)(ht:tb.length=tn)(iV:At w ta (mJ tb))(hT:aB w):
 Cl 33 #[.agg #[.slice a 0 cap,.slice a' (V+1) cap'],.slice ta tn tc] w λe w'=>∃(a2:Option Addr) (c2:Nat) (xs:List Raw),e=.returned (.slice a2 V c2)/\xs.length=V/\(∀x∈xs,Fit (B+40) x)/\fU V (cO rows) (dG xs)/\At w' a2 (xs.flatMap aV)/\Bw w w':=by
 obtain⟨i0,hi,hz0,hz1,hz2⟩:=info_parts Tryz.azX;have h00:0<rows.length:=by have:=hr.1;omega
 obtain⟨b0,o0,a0,c0,gQ,hc0,iG⟩:=ha.row 0 h00;have qo:=ng (V+1) cap' 0 0 gQ zo rfl;simp only[Nat.zero_mul,Nat.add_zero]at qo;rw[Nat.add_zero]at hc0;have hl0:rows[0].length=V:=hr.2.1 _ (List.getElem_mem h00);have ko:∀x∈rows[0],Fit B x:=hr.2.2 _ (List.getElem_mem h00);have acm:fU V (cO rows) (dG rows[0]):=TY h1 h4 _ (λk _=>(afh rows 0 k h00).symm) (adT h1 h4 (cO rows) 0 zo)
 have hrow:=λj (hj:j<rows.length)=>(show rows[j].length=V/\(∀x∈rows[j],Fit B x)/\fU V (cO rows) (dG rows[j])from
  ⟨hr.2.1 _ (List.getElem_mem hj),hr.2.2 _ (List.getElem_mem hj),TY h1 h4 _ (λk _=>(afh rows j k hj).symm) (adT h1 h4 (cO rows) j (by have:=hr.1;omega))⟩)
 generalize hx0:rows[0]=p0 at*;rw[hl0]at hc0;have hmid:=λ(x y:Nat->Dyadic) (hx:fU V (cO rows) x) (hy:fU V (cO rows) y)=>aqB h1 h4 (cO rows) (h:=hp 1) IC hx hy;have hcg:=λ(x y:Nat->Dyadic) (h:∀k,k<V->x k=y k) (hx:fU V (cO rows) x)=>TY h1 h4 (cO rows) h hx;generalize fU V (cO rows)=IN at*;have ve:=iV;rw[<-af3]at ve;have My:a0≠none:=by
  rintro rfl;rcases iG with h|⟨_,_,h,_⟩
  . have h9:=congrArg List.length h;rw[iD aV 3 (λ_=>rfl),hl0,List.length_nil]at h9;omega
  . cases h
 obtain⟨Hi,cu,bV,bX,Ha,HL,ux,jo,jV,ET,aiu,sI⟩:=gL hi hz0 hz1 hz2 ha hr.1 hc0 iG hl0 ko acm hrow;obtain⟨Ph,Hcg,Cx,HT,Ht,aiW⟩:=fZ hmid hcg ve hT ht My;have ug:=World.block_lt_of_cell? w _ hc0;simp only at ug;clear hi hz0 hz1 hz2 ha hr hc0 iG hl0 ko acm hrow hmid hcg iV ve hT ht My gQ hx0 h00;have hV0:((V:Int)+1==0)=false:=by simp;omega
 obtain⟨W,cd,ae,ai⟩:=fJ w 27 [.slice a 0 cap,.slice a' (V+1) cap'];have rp:Hid (aQ W b0 o0 [.slice a0 V c0]):=λj hj=>by
  obtain rfl:j=0:=by simp at hj;omega
  exact cell_later ae.1.out ux.out
 obtain⟨ae,ai⟩:=qZ (rp.an ae);have x00:W.cell? ⟨b0,o0,none⟩=some (.slice a0 V c0):=ae.1.out.cell 0 zm;have lbW:b0<W.heap.size:=World.block_lt_of_cell? W _ x00;have su:=ae.2.1;have zK:=ae.2.2.1;have hWz:w.heap.size<W.heap.size:=zK.out.lt;go_enter Tryz.func33,Tryz.ntmps33;go_wp2_with (at_builtin;refine VX rfl _ _ 63 rfl W.heap.size 45 i0 _ 3 32 Tryz.underlying63 Hi.out cu.out bV.out bX.out rfl zd _ 0 [] rfl (World.ownsRow_made W #[] 0 (Nat.le_refl _) (Nat.zero_le _) zm) a0 V c0 (p0.flatMap aV) rfl (λe=>absurd e aiW.out) (by rw[iD aV 3 (λ_=>rfl),jV.out]) (jo.out.below (aF su.out ((Below.refl _ W).alloc (Nat.le_refl _) _))) (Ef _) zx zo zm ?_;intro v1 w2 cX hg1 wR);rw[Nat.zero_add,List.nil_append]at cX;have hb1:=((Below.refl _ W).alloc (Nat.le_refl _) (.cells #[] 45)).grown hg1 zm (λk hk=>by have h9:W.heap.size=k:=Option.some.inj hk;omega);obtain⟨g,cq,rfl,_⟩:=ui cX h1;have hgb:=vr cX;obtain⟨vL,bW,pK⟩:=bM (zK.out.below hb1) (aF su.out hb1) cX;clear cX hb1 hg1 wR;have hbase:W.heap.size<=g:=hgb.1;go_wp2_with fail;go_loopw[9] (λx wr=>∃(i:Nat) (xs:List Raw),i<=12/\i<=tn/\x=af (i:Int)/\xs.length=V/\(∀y∈xs,Fit (B+3*i) y)/\IN (dG xs)/\wr.ownsRow W.heap.size 45 3 (.slice (some ⟨g,0,none⟩) V cq) V (xs.flatMap aV)/\ar wr w.heap.size 27 [.slice a 0 cap,.slice a' (V+1) cap']/\Bw w wr) (λx _=>12-(intOf x).toNat);case atStart=>exact⟨0,p0,by omega,Nat.zero_le _,rfl,jV.out,ET.out,aiu.out,pK.out,vL.out,bW.out⟩
 case round=>
  clear pK vL bW;obtain⟨i,xs,ayo,hit,rfl,hxl,gW,adC,ho,hd,pb⟩:=hrel;obtain⟨CC,KE,Yt,Ho,Hd,Hb⟩:=fZ hxl gW adC ho hd pb;clear hxl gW adC ho hd pb;by_cases hlt:i<tn/\i<12
  rotate_left
  . have nP:Hid (∀y∈xs,Fit (B+40) y):=λy hy=>(KE.out y hy).mono zo;have dV:Hid (At wr (some ⟨g,0,none⟩) (xs.flatMap aV)):=by obtain⟨a9,c9,e9,h9,_⟩:=cw Ho.out;simp only[Value.slice.injEq,true_and]at e9;obtain⟨rfl,rfl⟩:=e9;exact h9
    rcases(show ¬i<tn\/(i<tn/\¬i<12)by omega)with h2|⟨h2,h3⟩;all_goals
     go_wp2
     refine bodyPost_ret (results_tmp rfl _ _ _) rfl ⟨_,_,xs,rfl,CC.out,nP.out,Yt.out,dV.out,Hb.out⟩
  obtain⟨h2,h3⟩:=hlt;have h3d:decide ((i:Int)<12)=true:=by rw[decide_eq_true_eq];omega
  have Ic:i<tb.length:=by rw[Ht.out];exact h2
  obtain⟨b1,o1,ey,hcl⟩:=(Cx.out.below Hb.out).elem (f:=λc:UInt8=>[Value.int .u8 (c.toNat:Int)]) (sz:=1) (λ_=>rfl) zd i Ic;have Dn:=hcl 0 zm;rw[Nat.mul_one,Nat.add_zero]at Dn;obtain⟨c,hc⟩:=au (tb[i].toNat);have abO:c<=255:=by have:=tb[i].toNat_lt;omega
  have abS:wr.cell? ⟨b1,o1+i,none⟩=some (.int .u8 (c:Int)):=by rw[Dn,<-hc];rfl
  have oX:=yL tn tc i (i:Int) ey h2 rfl;rw[Nat.mul_one]at oX;have hwc:IntKind.i64.wrap (c:Int)=(c:Int):=by rw[IntKind.wrap_i64];omega
  obtain⟨j,hj⟩:=au (c% (V+1));have hjV:j<V+1:=by rw[<-hj];exact Nat.mod_lt _ zo
  have Tz:(c:Int).tmod ((V:Int)+1)=(j:Int):=by rw[<-hj];exact(Int.ofNat_tmod c (V+1)).symm
  have hVn:¬(V:Int)+1=0:=by omega
  have GY:j<rows.length:=by rw[HL.out];exact hjV
  obtain⟨b3,o3,a3,c3,tF,hc3,tH⟩:=Ha.out.row j GY;have SN:=ng (V+1) cap' j (j:Int) tF hjV rfl;rw[Nat.mul_one]at SN;obtain⟨hrl,hrf,ada⟩:=sI.out j GY;rw[hrl]at hc3;generalize rows[j]=R at*;have Hy:Hid (aQ wr b1 (o1+i) [.int .u8 (c:Int)]):=λq hq=>by
   obtain rfl:q=0:=by simp at hq;omega
   exact abS
  have Hp:Hid (aQ wr b3 (o3+j) [.slice a3 V c3]):=λq hq=>by
   obtain rfl:q=0:=by simp at hq;omega
   exact cell_later Hb.out hc3
  obtain⟨HR,Hrl,Hrf,aju⟩:=cG tH hrl hrf ada;clear hcl Dn abS hc ey tF hc3 tH hrl hrf ada hj;obtain⟨wo,hwo⟩:∃u,u=wr:=⟨_,rfl⟩;subst hwo;obtain⟨ae,ai⟩:=qZ (Hd.an<|Hy.an<|Hp.an trivial);go_wp2_with fail;refine cQ 999 ae (cJ 14 0x1b19171513110f0d0b0907050301) ?_;refine bo ?_;refine cP ae λai=>?_;have iP:Bw wo wo.drew:=(Below.refl _ _).drew;have hd:=ae.1.out.below iP;have hb:=aF Hb.out iP;have ho:=ownsRow_below Ho.out iP;generalize wo.drew=wd at iP hd hb ho⊢;obtain⟨Ws,Wq,Cc⟩:=bM hd hb ho;clear iP hd hb ho ae ai Ho;go_wp2_with fail;go_loopw[11] (λx wr=>∃(k:Nat) (ys:List Raw),k<=V/\x=af (k:Int)/\ys.length=V/\(∀q (h:q<ys.length),k<=q->Fit (B+3*i) ys[q])/\(∀q (h:q<ys.length),q<k->Fit (B+3* (i+1)) ys[q])/\(∀q,q<V->dG ys q=if q<k then(dG xs q+dG R q) *hp 1 else dG xs q)/\wr.ownsRow W.heap.size 45 3 (.slice (some ⟨g,0,none⟩) V cq) V (ys.flatMap aV)/\ar wr w.heap.size 27 [.slice a 0 cap,.slice a' (V+1) cap']/\Bw w wr) (λx _=>V-(intOf x).toNat);case atStart=>exact⟨0,xs,Nat.zero_le _,rfl,CC.out,λq h _=>KE.out _ (List.getElem_mem h),λq _ h=>absurd h (Nat.not_lt_zero _),λq _=>by rw[if_neg (Nat.not_lt_zero _)],Cc.out,Ws.out,Wq.out⟩
  case round=>
   clear Ws Wq Cc;obtain⟨k,ys,hk,rfl,IV,hy1,hy2,hy3,ho,hd,pb⟩:=hrel;obtain⟨FI,jF,kU,Qg,Ho,Hd,fB⟩:=iX IV hy1 hy2 hy3 ho hd pb;clear IV hy1 hy2 hy3 ho hd pb;by_cases hkV:k<V
   . have Dx:k<ys.length:=by rw[FI.out];exact hkV
     have Dw:k<R.length:=by rw[Hrl.out];exact hkV
     obtain⟨s,m,e,hx⟩:=nY (ys[k]);obtain⟨t,l,f,hx2⟩:∃t l f,R[k]=(t,l,f):=⟨_,_,_,rfl⟩;have hwx:=ata Ho.out k Dx hx;obtain⟨b4,o4,abv,p0,p1,p2⟩:=(HR.out.below fB.out).num k Dw hx2;have apI:=ot V cq k (k:Int) (rfl:(some ⟨g,0,none⟩:Option Addr)=_) hkV rfl;simp only[Nat.zero_add]at apI;have ayp:=ot V c3 k (k:Int) abv hkV rfl;have dY:Fit (B+3*i) (s,m,e):=by rw[<-hx];exact jF.out k Dx (Nat.le_refl _)
     have iH:Fit (B+3*i) (t,l,f):=by rw[<-hx2];exact(Hrf.out _ (List.getElem_mem Dw)).mono zo
     obtain⟨S,hS⟩:=au (dval (s,m,e)+dval (t,l,f));have uV:Sm (B+3*i+1) S:=by rw[<-hS];exact Sm.add dY.2 iH.2
     obtain⟨H,hH⟩:=au (S*hp 1);have hHs:Sm (B+3* (i+1)) H:=by rw[<-hH];exact(Sm.mul uV (MD 1)).mono zo
     have hval:(dG xs k+dG R k) *hp 1=H:=by have h9:=Qg.out k hkV;rw[if_neg (Nat.lt_irrefl k),xA ys k Dx,hx]at h9;rw[<-h9,xA R k Dw,hx2,hS,hH]
     have xR:=aj λW (hW:aB W)=>Ns (az (dN S)) (nt (dN S).natAbs) (dE S) (-1) H (by rw[<-hH];exact Nt S 1) W (uV.fit zo).1 zd hW;obtain⟨HS,HHs,ajT,EY,HfR⟩:=eD hS hHs hval dY iH;have Hx:Hid (aQ wr g (k*3) [ag s,ah m,af e]):=hwx;have Hy:Hid (aQ wr b4 (o4+k*3) [ag t,ah l,af f]):=iI p0 p1 p2;have GR:g<wr.heap.size:=(vr Ho.out).2;clear hwx abv p0 p1 p2 dY iH hS uV hH hHs hval hx hx2;have Hb:=hbz wr;obtain⟨ae,ai⟩:=qZ (Hx.an<|Hy.an trivial);have HU:Hid (aB wr):=HT.out.below fB.out;go_wp2_with fail;obtain⟨Hx,Hy,_⟩:=ae;obtain⟨x0,x1,x2⟩:=Hx.out.w3;obtain⟨y0,y1,y2⟩:=Hy.out.w3;refine fx (λw'=>aJ w' g (k*3) (ag s)/\aJ w' g (k*3+1) (ah m)/\aJ w' g (k*3+2) (af e)/\aJ w' b4 (o4+k*3) (ag t)/\aJ w' b4 (o4+k*3+1) (ah l)/\aJ w' b4 (o4+k*3+2) (af f)) (λi=>Nat.blt i 14) [(0,true),(1,true),(2,true),(3,true),(4,true),(5,true),(6,true),(7,true),(8,true),(9,true),(10,false),(11,false),(12,false),(13,true),(14,false)] zk zk rfl zk zc ⟨x0,x1,x2,y0,y1,y2⟩ ?_;iterate 10 (refine pT rfl rfl ?_ (by intro w' ⟨q0,q1,q2,q3,q4,q5⟩;go_simp;try with_reducible rfl);try simp only[UU])
     refine aO rfl rfl (λK hK=>?_);go_simp;refine hK _ _ (λ_=>⟨aM x0,aM x1,aM x2,aM y0,aM y1,aM y2⟩) ?_;try simp only[UU]
     refine cg (λW5=>ar W5 (wr.heap.size) 45 [ag s,ah m,af e,ag t,ah l,af f]/\Bw wr W5) (by first|exact iY|exact iZ) ?_;rintro W5 ⟨qu,ak⟩;replace Hx:=kW Hx ak;replace Hy:=kW Hy ak;replace HU:=kT HU ak;have Hu:=aj qu;clear qu;obtain⟨x0,x1,x2⟩:=Hx.out.w3;obtain⟨y0,y1,y2⟩:=Hy.out.w3;obtain⟨u0,u1,u2,u3,u4,u5⟩:=Hu.out.c6;replace Hb:=bj Hb ak;refine aO rfl rfl (λK hK=>?_);go_simp;with_reducible refine(yb s m e t l f S (B+3*i) HS.out wr.heap.size _ 45 _ EY.out HfR.out zo Hu.out (by first|exact HU.out|exact aB.drew HU.out|exact aB.alloc HU.out _|exact aB.drew (aB.alloc HU.out _) |exact aB.alloc (aB.drew HU.out) _)).mono ?_
     rintro e w6 ⟨rfl,hq⟩;have ak:Bw W5 w6:=by first|exact hq|exact cM hq
     replace Hx:=kW Hx ak;replace Hy:=kW Hy ak;replace HU:=kT HU ak;obtain⟨Hu,u0,u1,u2,u3,u4,u5⟩:=MV Hu ak;obtain⟨x0,x1,x2⟩:=Hx.out.w3;obtain⟨y0,y1,y2⟩:=Hy.out.w3;replace Hb:=bj Hb ak;refine hK _ _ (λ_=>⟨x0,x1,x2,y0,y1,y2⟩) ?_;try simp only[UU]
     refine aO rfl rfl (λK hK=>?_);go_simp;with_reducible refine(xR.out _ (by first|exact HU.out|exact aB.drew HU.out|exact aB.alloc HU.out _|exact aB.drew (aB.alloc HU.out _) |exact aB.alloc (aB.drew HU.out) _)).mono ?_
     rintro e w7 ⟨rfl,hq⟩;have ak:Bw w6 w7:=by first|exact hq|exact cM hq
     replace Hx:=kW Hx ak;replace Hy:=kW Hy ak;replace HU:=kT HU ak;obtain⟨Hu,u0,u1,u2,u3,u4,u5⟩:=MV Hu ak;obtain⟨x0,x1,x2⟩:=Hx.out.w3;obtain⟨y0,y1,y2⟩:=Hy.out.w3;replace Hb:=bj Hb ak;refine hK _ _ (λ_=>⟨x0,x1,x2,y0,y1,y2⟩) ?_;try simp only[UU]
     refine pT rfl rfl ?_;try simp only[UU]
     refine aO rfl rfl (λK hK=>?_);have hov:=ownsRow_below Ho.out Hb.out;have Da:=jT hov (k*3);have yg:=jT hov (k*3+1);have Gk:=jT hov (k*3+2);obtain⟨cV,xH,sk⟩:=bM hov (Hd.out.below Hb.out) (aF fB.out Hb.out);clear hov;go_simp;refine hK _ _ (λh=>absurd h zd) ?_;try simp only[UU]
     iterate 0 skip
     simp only[bH];go_wp2;go_roundw;case rel=>
      have fC:=ja (ja (ja cV.out (k*3) (ag (az (dN H)))) (k*3+1) (ah (nt (dN H).natAbs))) (k*3+2) (af (dE H));have e9:(((ys.flatMap aV).set (k*3) (ag (az (dN H)))).set (k*3+1) (ah (nt (dN H).natAbs))).set (k*3+2) (af (dE H))=(ys.set k (canon H)).flatMap aV:=asI ys k (canon H);rw[e9]at fC;refine⟨k+1,ys.set k (canon H),by omega,by go_num,by rw[List.length_set];exact FI.out,λq h hq=>?_,λq h hq=>?_,λq hq=>?_,fC,((xH.out.so g (k*3) zo _).so g (k*3+1) zo _).so g (k*3+2) zo _,((sk.out.setCell zp _).setCell zp _).setCell zp _⟩
      . rw[List.getElem_set_ne zo];exact jF.out q (by rw[List.length_set]at h;exact h) zo
      . by_cases hqk:k=q
        . subst hqk;rw[List.getElem_set_self];exact HHs.out.fit zo
        . rw[List.getElem_set_ne hqk];exact kU.out q (by rw[List.length_set]at h;exact h) zo
      . have hqy:q<ys.length:=by rw[FI.out];exact hq
        rw[xA _ q (by rw[List.length_set];exact hqy)];by_cases hqk:k=q
        . subst hqk;rw[List.getElem_set_self,if_pos zo,bu];exact ajT.out.symm
        . rw[List.getElem_set_ne hqk,<-xA ys q hqy,Qg.out q hq];by_cases h9:q<k
          . rw[if_pos h9,if_pos zo]
          . rw[if_neg h9,if_neg zo]
     case measure=>exact bi
   . obtain rfl:k=V:=by omega
     have hf9:∀y∈ys,Fit (B+3* (i+1)) y:=λy hy=>by obtain⟨q,hq,rfl⟩:=List.mem_iff_getElem.1 hy;exact kU.out q hq (by rw[FI.out]at hq;exact hq)
     have acn:IN (dG ys):=Hcg.out _ _ (λq hq=>by rw[Qg.out q hq,if_pos hq]) (Ph.out _ _ Yt.out aju.out);obtain⟨OL,aiv⟩:=aH hf9 acn;clear hf9 acn;go_wp2;go_roundw;case rel=>exact⟨i+1,ys,by omega,by omega,by go_num,FI.out,OL.out,aiv.out,Ho.out,Hd.out,fB.out⟩
     case measure=>exact bi
def aqD {bx:List (Raw×Raw)}{tb:List UInt8}{xs:List Raw}(h:iL (bx.map aY)=0)(hx:xs=(List.range bx.length).map λk=>canon (vz bx (sY tb bx.length) k)):rM (bx.map aY) (dG xs):=λk hk=>by
 have hi:k<bx.length:=by simpa using hk
 have hlt:=(QJ h).2 (aY bx[k]) (List.mem_map.2 ⟨_,List.getElem_mem hi,rfl⟩);have hid:=UE hlt;have hle:(aY bx[k]).1<=(aY bx[k]).2:=by have:=(pQ _).1 hlt;grind
 have hg:(bx.map aY).getD k (0,0)=aY bx[k]:=by simp[hi]
 have hX:dG xs k=(aY bx[k]).1+eV tb k* ((aY bx[k]).2-(aY bx[k]).1):=by
  rw[xA xs _ (by rw[hx];simpa using hi)];have e1:xs[k]'(by rw[hx];simpa using hi)=canon (vz bx (sY tb bx.length) k):=by subst hx;simp
  rw[e1,bu];unfold vz;rw[show bx.getD k default=bx[k]by simp[hi],hid];have e2:(sY tb bx.length).getD k default=canon (eV tb k):=by unfold sY;simp[hi]
  rw[e2,bu];unfold un;rw[hid]
 have hs:=avb _ _ _ hle (ZW tb k).1 (ZW tb k).2;rw[hg,hX];constructor<;>grind
def Yv (d:DmR)(w:World)(e:Ending)(w':World):Prop:=
 ∃(a2:Option Addr) (c2:Nat) (xs:List Raw),e=.returned (.slice a2 (cH d.1.length d.2.length) c2)/\xs.length=cH d.1.length d.2.length/\(∀x∈xs,Fit 2000 x)/\eO d (dG xs)/\At w' a2 (xs.flatMap aV)/\Bw w w'
def adV (d:DmR)(n m:Nat)(a a':Option Addr)(cap cap':Nat)(tb:List UInt8)(ta:Option Addr)(tn tc:Nat)(w:World)(hn:d.1.length=n)(hm:d.2.length=m)(hb:At w a (d.1.flatMap spC))(ha:Tbl w a' d.2)(hf:iy 312 d)(kr:m<=5)(ht:tb.length=tn)(iV:At w ta (mJ tb))(hT:aB w)(hc:fR d):
 Cl 33 #[.agg #[.slice a n cap,.slice a' m cap'],.slice ta tn tc] w (Yv d w):=by
 obtain⟨bx,rows⟩:=d;rcases rB hc hf zo with⟨q,DI,iQ,qA,hm2,hct⟩ |⟨hrows,dK,wP,hcb⟩
 . simp only at iQ hm2 hn hm hct ha;subst iQ;have Ik:m=q+1+1:=by omega
   obtain rfl:n=0:=hn.symm;subst Ik;refine(aqG rows (q+1) 312 a a' cap cap' tb ta tn tc w zo DI qA zd ha ht iV hT).mono ?_;rintro e w' ⟨a2,c2,xs,rfl,h1,h2,h3,h4,h5⟩;have hV:cH ([]:List (Raw×Raw)).length rows.length=q+1:=by unfold cH;rw[hm,if_pos zo];omega
   refine⟨a2,c2,xs,by rw[hV],by rw[hV];exact h1,λx hx=>(h2 x hx).mono zd,?_,h4,h5⟩;unfold eO;rw[if_pos (by show 0<rows.length;omega),show rows.length-1=q+1 by omega];exact h3
 . simp only at hrows dK wP hn hm hcb hb;subst hrows;obtain rfl:m=0:=hm.symm;refine(aqF bx n 0 312 a a' cap cap' tb ta tn tc w hn zo zo hf.1 zd zd hb ht iV hT).mono ?_;rintro e w' ⟨a2,c2,rfl,h4,h5⟩;subst hn;refine⟨a2,c2,_,rfl,by simp[cH],λx hx=>?_,?_,h4,h5⟩
   . obtain ⟨k,hk,rfl⟩:=List.mem_map.1 hx;have hk2:=List.mem_range.1 hk;have hs:=hf.1 _ (List.getElem_mem hk2);have ho:=qK (p:=aY bx[k]) ⟨hs.1.2,hs.2.2⟩;have hs2:Sm 600 (vz bx (sY tb bx.length) k):=by
      unfold vz;rw[show bx.getD k default=bx[k]by simp[hk2]];have e2:(sY tb bx.length).getD k default=canon (eV tb k):=by unfold sY;simp[hk2]
      rw[e2,bu];exact(Sm.add (ho.1.mono (show 312<=400 by decide)) ((Sm.mul (Rf tb k) (agl ho)).mono zd)).mono zd
     exact(hs2.mono zd).fit zd
   . unfold eO;rw[if_neg (by show ¬0<([]:List (List Raw)).length;decide)];exact aqD hcb rfl
def am4 (x y:Dyadic):bg (x-y)<=0↔x<=y:=by
 have h:=ZQ (x-y);constructor
 . intro h1;have:¬0<x-y:=λh2=>by have:=h.2 h2;omega
   grind
 . intro h1;have:¬0<bg (x-y):=λh2=>by have:=h.1 h2;grind
   omega
def au7 (s:Bool)(l:List UInt8)(e:Int)(t:Bool)(m:List UInt8)(f:Int)(b:Bool)(g:List UInt8)(k:Int)(p:Pr)(A:Dyadic)(B:Nat)(F:Bool)(hp:eK (dval (s,l,e),dval (t,m,f))=p)(hA:dval (b,g,k)=A)(w:World)(hx:Fit B (s,l,e))(hy:Fit B (t,m,f))(hz:Fit B (b,g,k))(hB:B<=10000000)(hT:aB w)(hF:(decide (p.1<=A)&&decide (A<=p.2))=F):
 Cv 171 #[.agg #[ag s,ah l,af e,ag t,ah m,af f],.agg #[ag b,ah g,af k]] w (ag F):=by
 have hs:=qK (p:=(dval (s,l,e),dval (t,m,f))) ⟨hx.2,hy.2⟩;rw[hp]at hs;obtain⟨p1,p2⟩:=p;have h0:=λW (hW:Bw w W)=>Vz s l e t m f (p1,p2) hp W hx.1 hy.1 (hT.below hW);obtain⟨c1,hc1⟩:∃c,bg (p1-A)=c:=⟨_,rfl⟩;obtain⟨c2,hc2⟩:∃c,bg (A-p2)=c:=⟨_,rfl⟩;have h1:=λW (hW:Bw w W)=>Al (az (dN p1)) (nt (dN p1).natAbs) (dE p1) b g k c1 (by rw[hA];show bg (dval (canon p1)-A)=c1;rw[bu];exact hc1) W (hs.1.fit zo).1 hz.1 (hT.below hW);have h2:=λW (hW:Bw w W)=>Al b g k (az (dN p2)) (nt (dN p2).natAbs) (dE p2) c2 (by rw[hA];show bg (A-dval (canon p2))=c2;rw[bu];exact hc2) W hz.1 (hs.2.fit zo).1 (hT.below hW);have hF2:(decide (c1<=0)&&decide (c2<=0))=F:=by rw[<-hF,<-hc1,<-hc2];congr 1<;>exact decide_eq_decide.2 (am4 _ _)
 obtain⟨H0,H1,H2,HF⟩:=cG h0 h1 h2 hF2;clear hp hA hx hy hz hT hF hs h0 h1 h2 hF2 hc1 hc2;have Hb:=hbz w;go_enter Tryz.func171,Tryz.ntmps171;go_wp2_with fail;refine gP w (Hb.an trivial) 88 [ag s,ah l,af e,ag t,ah m,af f] 45 [ag b,ah g,af k] λW aG ae ai=>?_;go_wp2_with fail;refine aK ae (H0.out _ ae.2.2.1.out) λw1 ae ai=>?_;obtain⟨W2,ke,aG,ae,ai⟩:=bO w1 ae 243 [ag (az (dN p1)),ah (nt (dN p1).natAbs),af (dE p1),ag (az (dN p2)),ah (nt (dN p2).natAbs),af (dE p2)];go_wp2_with fail;refine aK ae (H1.out _ ae.2.2.2.1.out) λw3 ae ai=>?_;by_cases g1:c1<=0
 . have hF2:=HF.out;rw[decide_eq_true g1,Bool.true_and]at hF2;have se:=aj hF2;clear hF2;go_wp2_with fail;refine aK ae (H2.out _ ae.2.2.2.1.out) λw4 ae ai=>?_;have hF3:=se.out;subst hF3;go_wp2;refine bodyPost_ret (results_tmp rfl _ _ _) rfl ⟨rfl,ae.2.2.2.1.out⟩
 . have hF2:=HF.out;rw[decide_eq_false g1,Bool.false_and]at hF2;subst hF2;go_wp2;refine bodyPost_ret (results_tmp rfl _ _ _) rfl ⟨rfl,ae.2.2.2.1.out⟩
def Oh (p:Prop)(w:World)(e:Ending)(w':World):Prop:=∃F:Bool,e=.returned (ag F)/\(F=true↔p)/\Bw w w'
def alh (bx:List (Raw×Raw))(n cap B:Nat)(a xa:Option Addr)(xc:Nat)(xs:List Raw)(w:World)(hn:bx.length=n)(hl:n<=1000)(hf:kJ B bx)(hB:B<=10000000)(ha:At w a (bx.flatMap spC))(hc:iL (bx.map aY)=0)(hxl:xs.length=n)(gW:∀x∈xs,Fit B x)(hx:At w xa (xs.flatMap aV))(hT:aB w):
 Cl 97 #[.slice a n cap,.slice xa n xc] w (Oh (rM (bx.map aY) (dG xs)) w):=by
 have hid:=λk (h:k<bx.length)=>UE ((QJ hc).2 (aY bx[k]) (List.mem_map.2 ⟨_,List.getElem_mem h,rfl⟩));have hin:∀k (h:k<bx.length) (h2:k<xs.length),((aY bx[k]).1<=dval xs[k]/\dval xs[k]<=(aY bx[k]).2)↔(((bx.map aY).getD k (0,0)).1<=dG xs k/\dG xs k<=((bx.map aY).getD k (0,0)).2):=λk h h2=>by rw[xA xs k h2,show(bx.map aY).getD k (0,0)=aY bx[k]by simp[h]]
 have hlen:(bx.map aY).length=n:=by rw[List.length_map,hn]
 have hall:(∀k,k<n->(((bx.map aY).getD k (0,0)).1<=dG xs k/\dG xs k<=((bx.map aY).getD k (0,0)).2))↔rM (bx.map aY) (dG xs):=by unfold rM;rw[hlen]
 have Kso:=aj λk (h:k<bx.length) (h2:k<xs.length) (F:Bool) (hF:(decide ((aY bx[k]).1<=dval xs[k])&&decide (dval xs[k]<=(aY bx[k]).2))=F) (W:World) (hW:Bw w W)=>by have e:=hid k h;exact au7 bx[k].1.1 bx[k].1.2.1 bx[k].1.2.2 bx[k].2.1 bx[k].2.2.1 bx[k].2.2.2 xs[k].1 xs[k].2.1 xs[k].2.2 (aY bx[k]) (dval xs[k]) B F e rfl W (hf _ (List.getElem_mem h)).1 (hf _ (List.getElem_mem h)).2 (gW _ (List.getElem_mem h2)) hB (hT.below hW) hF
 generalize rM (bx.map aY) (dG xs)=IN at*;generalize hP:(λk=>(((bx.map aY).getD k (0,0)).1<=dG xs k/\dG xs k<=((bx.map aY).getD k (0,0)).2))=P at*;replace hin:∀k (h:k<bx.length) (h2:k<xs.length),((aY bx[k]).1<=dval xs[k]/\dval xs[k]<=(aY bx[k]).2)↔P k:=λk h h2=>by rw[<-hP];exact hin k h h2
 replace hall:(∀k,k<n->P k)↔IN:=by rw[<-hall,<-hP]
 obtain⟨mL,fP,Ha,Hx,Hn,CC⟩:=fZ hin hall ha hx hn hxl;clear hid hin hlen hall hf ha hc gW hx hT hn hxl hP;have Hb:=hbz w;go_enter Tryz.func97,Tryz.ntmps97;go_wp2_with fail;go_loopw[14] (λx wr=>∃k:Nat,k<=n/\x=af (k:Int)/\(∀j,j<k->P j)/\Bw w wr) (λx _=>n-(intOf x).toNat);case atStart=>exact⟨0,Nat.zero_le _,rfl,λj h=>absurd h (Nat.not_lt_zero _),Hb.out⟩
 case round=>
  clear Hb;obtain⟨k,hk,rfl,hj,pb⟩:=hrel;obtain⟨Hj,Hb⟩:=aH hj pb;clear hj pb;by_cases hlt:k<n
  . have hk1:k<bx.length:=by rw[Hn.out];exact hlt
    have hk2:k<xs.length:=by rw[CC.out];exact hlt
    have DN:=Kso.out k hk1 hk2;have SL:=mL.out k hk1 hk2;obtain⟨s,l,e,t,m,f,iQ⟩:∃s l e t m f,bx[k]=((s,l,e),(t,m,f)):=⟨_,_,_,_,_,_,rfl⟩;obtain⟨b,g,c,hxk⟩:∃b g c,xs[k]=(b,g,c):=⟨_,_,_,rfl⟩;obtain⟨b1,o1,ey,hw1⟩:=(Ha.out.below Hb.out).spn k hk1 iQ;obtain⟨b2,o2,iF,p0,p1,p2⟩:=(Hx.out.below Hb.out).num k hk2 hxk;have aX:=vh n cap k (k:Int) ey hlt rfl;have rH:=ot n xc k (k:Int) iF hlt rfl;rw[iQ,hxk]at DN SL;obtain⟨F,hF⟩:=au (decide ((aY ((s,l,e),(t,m,f))).1<=dval (b,g,c))&&decide (dval (b,g,c)<=(aY ((s,l,e),(t,m,f))).2));have Hso:=aj (DN F hF);have HF:Hid (F=true↔P k):=by show _↔_;rw[<-hF,Bool.and_eq_true,decide_eq_true_eq,decide_eq_true_eq];exact SL
    have Hy:Hid (aQ wr b1 (o1+k*6) [ag s,ah l,af e,ag t,ah m,af f]):=hw1;have Hz:Hid (aQ wr b2 (o2+k*3) [ag b,ah g,af c]):=iI p0 p1 p2;clear DN SL hF hw1 p0 p1 p2 iQ hxk ey iF;obtain⟨ae,ai⟩:=qZ (Hy.an<|Hz.an trivial);have aG:=qL (Hb.an ae);go_wp2_with fail;refine cF wr (Hb.an ae) 88 [ag s,ah l,af e,ag t,ah m,af f] λW3 aG ae ai=>?_;refine cQ 999 ae (cJ 7 0xd0a0907050301) ?_;refine bo ?_;refine bP ae (Hso.out _ ae.2.1.out.drew) λw4 ae=>?_;refine bo ?_;refine cP ae λai=>?_;cases F with
    | false=>
      have hno:¬IN:=λh=>by have:=HF.out.2 (fP.out.2 h k hlt);cases this
      have nQ:=aj hno;go_wp2;refine bodyPost_ret (results_tmp rfl _ _ _) rfl ⟨false,rfl,⟨λh=>(by cases h),λh=>absurd h nQ.out⟩,ae.2.1.out⟩
    | true=>
      have PD:=aj (HF.out.1 (by trivial));go_wp2;go_roundw;case rel=>
       refine⟨k+1,by omega,by go_num,λj h=>?_,ae.2.1.out⟩;by_cases hjk:j=k
       . subst hjk;exact PD.out
       . exact Hj.out j zo
      case measure=>exact bi
  . obtain rfl:k=n:=by omega
    go_wp2;refine bodyPost_ret (results_tmp rfl _ _ _) rfl ⟨true,rfl,⟨λ_=>fP.out.1 Hj.out,λ_=>rfl⟩,Hb.out⟩
def asA {n:Nat}{p:Nat->Nat->Dyadic}{x:Nat->Dyadic}:qJ (qR n p x)=true↔fU n p x:=by
 unfold qJ qR fU;simp only[List.all_eq_true,List.mem_map,List.mem_range,decide_eq_true_eq];constructor
 . intro h k hk hlt;have:=h _ ⟨k,by omega,rfl⟩;have:=(pQ _).2 hlt;omega
 . rintro h d ⟨k,hk,rfl⟩;have h1:=mt (pQ (fK n p x k)).1 (h k zo);omega
def abz (d:DmR)(n m:Nat)(a a':Option Addr)(cap cap':Nat)(xa:Option Addr)(xc:Nat)(xs:List Raw)(w:World)(hn:d.1.length=n)(hm:d.2.length=m)(hcap:m<=cap')(hb:At w a (d.1.flatMap spC))(ha:Tbl w a' d.2)(hf:iy 312 d)(kr:m<=5)(hk:fR d)(hxl:xs.length=cH n m)(gW:∀x∈xs,Fit 2000 x)(hx:At w xa (xs.flatMap aV))(hT:aB w):
 Cl 36 #[.agg #[.slice a n cap,.slice a' m cap'],.slice xa (cH n m) xc] w (Oh (eO d (dG xs)) w):=by
 obtain⟨bx,rows⟩:=d;rcases rB hk hf zo with⟨q,DI,iQ,qA,hm2,hct⟩ |⟨hrows,dK,wP,hcb⟩
 . simp only at iQ hm2 hn hm hct ha;subst iQ;have Ik:m=q+1+1:=by omega
   obtain rfl:n=0:=hn.symm;subst Ik;have hV:cH 0 (q+1+1)=q+1:=by unfold cH;rw[if_pos zo];omega
   rw[hV]at hxl⊢;have hI:eO ([],rows) (dG xs)↔qJ (qR (q+1) (cO rows) (dG xs))=true:=by unfold eO;rw[if_pos (by show 0<rows.length;omega),show rows.length-1=q+1 by omega];exact asA.symm
   have xJ:=aj λW (hW:Bw w W)=>apj a' cap' q rows 2000 xa xc xs W DI ⟨qA.1,qA.2.1,λr hr c hc=>(qA.2.2 r hr c hc).mono zd⟩ hcap (ha.below hW) (hx.below hW) hxl gW zd (hT.below hW) hct;have HI:=aj hI;generalize eO ([],rows) (dG xs)=IN at*;generalize qJ (qR (q+1) (cO rows) (dG xs))=F at*;clear hI DI qA hm2 hct ha hb hf hk hxl gW hx hT hm hcap hn;have Hb:=hbz w;go_enter Tryz.func36,Tryz.ntmps36;go_wp2_with fail;refine cF w (Hb.an trivial) 27 [.slice a 0 cap,.slice a' (q+1+1) cap'] λW aG ae ai=>?_;go_wp2_with fail;refine aK ae (xJ.out _ ae.2.1.out) λw1 ae ai=>?_;go_wp2;refine bodyPost_ret (results_tmp rfl _ _ _) rfl ⟨F,rfl,HI.out.symm,ae.2.1.out⟩
 . simp only at hrows dK wP hn hm hcb hb;subst hrows;obtain rfl:m=0:=hm.symm;have hV:cH n 0=n:=rfl;rw[hV]at hxl⊢;have hI:eO (bx,[]) (dG xs)=rM (bx.map aY) (dG xs):=by unfold eO;rw[if_neg (by show ¬0<([]:List (List Raw)).length;decide)]
   have hn0:decide ((0:Int)<(n:Int))=true:=by simp;omega
   have ayD:0<n:=by omega
   have xJ:=aj λW (hW:Bw w W)=>alh bx n cap 2000 a xa xc xs W hn zo (λs hs=>⟨(hf.1 s hs).1.mono zd,(hf.1 s hs).2.mono zd⟩) zd (hb.below hW) hcb hxl gW (hx.below hW) (hT.below hW);rw[hI];unfold Oh at xJ⊢;generalize rM (bx.map aY) (dG xs)=IN at*;clear hI dK wP hcb ha hb hf hk hxl gW hx hT hm hcap hn;have Hb:=hbz w;go_enter Tryz.func36,Tryz.ntmps36;go_wp2_with fail;refine cF w (Hb.an trivial) 27 [.slice a n cap,.slice a' 0 cap'] λW aG ae ai=>?_;go_wp2_with fail;refine(xJ.out _ ae.2.1.out).mono ?_;rintro e w1 ⟨F,rfl,hF,ak⟩;obtain⟨ae,ai⟩:=qX ak ae;have HF:=aj hF;clear hF;go_wp2;refine bodyPost_ret (results_tmp rfl _ _ _) rfl ⟨F,rfl,HF.out,ae.2.1.out⟩
end Go.Proofs.YtpfgffadgkkedaaGreatDoor
