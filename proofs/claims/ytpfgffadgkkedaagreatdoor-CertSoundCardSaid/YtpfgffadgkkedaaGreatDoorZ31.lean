/- Package calc: put: a polynomial with others in the places of its variables. -/
import Derived.Test.YtpfgffadgkkedaaGreatDoorZ7
import Derived.Test.YtpfgffadgkkedaaGreatDoorZ27
import Derived.Test.YtpfgffadgkkedaaGreatDoorZ29
import Derived.Test.YtpfgffadgkkedaaGreatDoorZ30
import Derived.Deep.CutBlock
import Derived.Test.YtpfgffadgkkedaaGreatDoorZ15
import Derived.Test.YtpfgffadgkkedaaGreatDoorZ12
import Derived.Test.YtpfgffadgkkedaaGreatDoorZ24
import Derived.Test.YtpfgffadgkkedaaGreatDoorZ19
import Derived.Test.YtpfgffadgkkedaaGreatDoorZ14
import Derived.Test.YtpfgffadgkkedaaGreatDoorZ13
set_option linter.all false
set_option maxRecDepth 100000
set_option maxHeartbeats 16000000
namespace Go.Proofs.YtpfgffadgkkedaaGreatDoor
open Go.RowKit
attribute [local go_sem ↓] Go.wp_at_zero Go.wp_at_succ
structure PutIn (L D r:Nat)(p:List Trm):Prop where
 up:Up p
 len:∀t∈p,t.1.length=L
 may:∀t∈p,∀c∈t.1,c.toNat<=127
 rem:∀t∈p,remS L r t.1<=D
 same:∀t∈p,∀u∈p,∀k,k<L-r->t.1.getD k 0=u.1.getD k 0
def PutIn.blk {L D r:Nat}{p:List Trm}(h:PutIn L D (r+1) p)(hr:r+1<=L)(n:Nat):PutIn L D r (dQ (L-(r+1)) n p):=
 ⟨h.up.filter _,λt ht=>h.len t (jI ht).1,λt ht=>h.may t (jI ht).1,λt ht=>by
  have:=h.rem t (jI ht).1;rw[remS]at this;omega,λt ht u hu k hk=>by
  obtain⟨h1,h2⟩:=jI ht;obtain⟨h3,h4⟩:=jI hu;by_cases hkk:k<L-(r+1)
  . exact h.same t h1 u h3 k hkk
  . obtain rfl:k=L-(r+1):=by omega
    exact UInt8.toNat_inj.1 (by rw[h2,h4])⟩
def SubOk.aBo {V L D C K M A:Nat}{l:Nat->List Trm}(h:SubOk V L D C K M l){r:Nat}{p:List Trm}(hr:r+1<=L)(hp:∀t∈p,remS L (r+1) t.1<=D)(hs:∀t∈p,Sm A (dval t.2))(m:Nat)(hm:m<=128):
 ∀t∈eN (l (L-(r+1))) (λn=>dP V l L r (dQ (L-(r+1)) n p)) m,Sm (A+13* (r+2)+D*K) (dval t.2):=by
 intro t ht;have hd:=h.dl
 have h1:=ada (A:=A+13* (r+1)) (K:=K) (C:=C) (D:=D) (la:=l (L-(r+1))) (f:=λn=>dP V l L r (dQ (L-(r+1)) n p)) (λn hn=>by
  show dP V l L r (dQ _ n p)=[]
  rw[xP (λt ht e=>by have:=hp t ht;rw[remS]at this;omega),za]) (λn hn=>afT h r (D-n) _ zo zo (λt ht=>by
  obtain⟨h1,h2⟩:=jI ht
  have:=hp t h1;rw[remS]at this;omega) (λt ht=>hs t (jI ht).1)) (h.sm _ zo) h.kc (λm hm=>h.aBj zo hp m hm) (λn=>by
  have h2:=Nr h.deg zo (r:=r) (p:=dQ (L-(r+1)) n p) (D:=D) zo (λt ht=>by
   obtain⟨h1,h2⟩:=jI ht
   have:=hp t h1;rw[remS]at this;omega)
  have:=h.few2
  show(dP V l L r (dQ (L-(r+1)) n p)).length<=4096;omega) zo m zo t ht
 refine h1.mono ?_;have:(D-(128-m)) *K<=D*K:=Nat.mul_le_mul_right _ zo;omega
def SubOk.aBv {V L D C K M A B:Nat}{l:Nat->List Trm}(h:SubOk V L D C K M l)(hV:V<=12){r:Nat}{p:List Trm}(hr:r+1<=L)(hp:∀t∈p,remS L (r+1) t.1<=D)(hs:∀t∈p,Sm A (dval t.2))(hB:A+13* (r+2)+D*K<=B)(hBm:B<=268435456)(m:Nat)(hm:m<=128):
 dL V B (eN (l (L-(r+1))) (λn=>dP V l L r (dQ (L-(r+1)) n p)) m):=by
 have hd:=h.dl;have h1:=Ns h.deg zo hr hp m hm;have h2:=Lz (MB m) h1;have h3:(D-(128-m)+1)^V<=(D+1)^V:=Nat.pow_le_pow_left zo V;have:=h.few2;exact tj (MB m) h1 zo hV (λt ht=>(h.aBo hr hp hs m hm t ht).mono hB) hBm
def SubOk.aBr {V L D C K M A B:Nat}{l:Nat->List Trm}(h:SubOk V L D C K M l)(hV:V<=12){r:Nat}{p:List Trm}(hr:r<=L)(hp:∀t∈p,remS L r t.1<=D)(hs:∀t∈p,Sm A (dval t.2))(hB:A+13* (r+1)+D*K<=B)(hBm:B<=268435456):
 dL V B (dP V l L r p):=by
 have hd:=h.dl;have h2:=Nr h.deg zo hr hp;have:=h.few2;exact tj (afS V l L r p) (Nq h.deg zo r D p (Nat.le_refl _) hr hp) zo hV (λt ht=>(afT h r D p (Nat.le_refl _) hr hp hs t ht).mono hB) hBm
def aex (V:Nat)(l:Nat->Dyadic):cW V 0 l 0=[]:=by
 rw[<-aeB V 0 (canon 0) l (bA 0)]
 exact Rs (jJ _) Good.nil (λm=>by
  rw[rq];simp only[bU,bA]
  split<;>grind)
def SubOk.aBD {V L D C K M A B:Nat}{l:Nat->List Trm}(h:SubOk V L D C K M l)(hV:V<=12){r:Nat}{p:List Trm}(hr:r+1<=L)(hp:∀t∈p,remS L (r+1) t.1<=D)(hs:∀t∈p,Sm A (dval t.2))(hB:A+13* (r+2)+D*K+K<=B)(hBm:B<=268435456)(m:Nat)(hm:m<=127)(hD:127-m<=D):
 dL V B (aS (fQ (eN (l (L-(r+1))) (λn=>dP V l L r (dQ (L-(r+1)) n p)) m) (l (L-(r+1)))))/\(aS (fQ (eN (l (L-(r+1))) (λn=>dP V l L r (dQ (L-(r+1)) n p)) m) (l (L-(r+1))))).length<=2048:=by
 have hd:=h.dl;have hk:=h.kc;have h1:=Ns h.deg zo hr hp m zo;have h2:DegT V D (aS (fQ (eN (l (L-(r+1))) (λn=>dP V l L r (dQ (L-(r+1)) n p)) m) (l (L-(r+1))))):=by
  by_cases he:D<128-m
  . rw [Bb m (fun n h3 _=>by
     show dP V l L r (dQ _ n p)=[]
     rw[xP (λt ht e=>by have:=hp t ht;rw[remS]at this;omega),za])]
    intro t ht;cases ht
  . exact DegT.clean ((DegT.mul h1 (h.deg _ zo) zo).mono zo)
 have h3:=Lz (jJ _) h2;have:=h.few2;refine⟨tj (jJ _) h2 zo hV (λt ht=>?_) hBm,by omega⟩;have h4:=sS (k:=12) (Uu (h.aBo hr hp hs m zo) (h.sm _ zo)) (by rw[Nc];exact h.aBj hr hp m hm) t ht;exact h4.mono zo
def aW.stsF {a:Option Addr}{c b:Nat}{t:TypeId}{C:List Trm}(ht:t≠111)(vs:List Value):∀(o:Nat) (w:World) (l:List Value),aW w a c C->ar w b t l->aW (ul b o vs w) a c C:=by
 induction vs with
 |nil=>intro o w l h _;exact h
 |cons v vs ih=>intro o w l h hb;exact ih _ _ _ (h.off hb ht o v) (hb.set o v)
def aW.sts {w W:World}{a:Option Addr}{c b o:Nat}{t:TypeId}{C:List Trm}{l vs:List Value}(h:aW w a c C)(hb:ar w b t l)(k:aO w b o vs W)(ht:t≠111:=by decide):aW W a c C:=by
 rcases k with rfl|rfl
 . exact aW.stsF ht vs o w l h hb
 . exact aW.stsF ht vs o w.drew l (h.below ((Below.refl _ _).drew)) hb.drew
def anh (V L D C K M A B:Nat)(ls:Nat->List Trm)(ps:List Pv)(la:Option Addr)(pG:Nat)(hok:SubOk V L D C K M ls)(hV:0<V)(hV2:V<=12)(hB:A+13* (L+2)+D*K+K<=B)(LI:C<=B)(hBm:B<=100000000)(hps:ps.length=L)(hL:L<=1000)(r:Nat):
 ∀(a:Option Addr) (n cap:Nat) (p:List Trm) (w:World),r<=L->p.length=n->n<=4096->Sl a n cap->At w a (p.flatMap aH)->At w la (ps.flatMap ic)->fC w V B ps ls->aB w->PutIn L D r p->(∀t∈p,Fit A t.2)->
 Cl 149 #[.slice a n cap,af ((L-r:Nat):Int),.slice la L pG,af (V:Int)] w λe w'=>∃a' c',e=.returned (.tuple #[.agg #[af (V:Int),.slice a' (dP V ls L r p).length c'],af 0])/\aW w' a' c' (dP V ls L r p)/\Bw w w':=by
 induction r with
 | zero=>
   intro a n cap p w _ hn aZ hs ha fq hls hT hp hf;rw[Nat.sub_zero];cases p with
   | nil=>
     simp only[List.length_nil]at hn;subst hn;have hcn:∀W,Bw w W->Cl 157 #[af (V:Int),.agg #[ag false,.string ⟨#[]⟩,af 0]] W λex w'=>∃a' c',ex=.returned (.tuple #[.agg #[af (V:Int),.slice a' 0 c'],af 0])/\aW w' a' c' []/\Bw W w':=λW hW=>by have h:=CU V false [] 0 0 1 (λ_=>0) W hV2 ⟨⟨by decide,by decide,by decide⟩,Sm.zero _⟩ zd (hT.below hW) zd;rw[aex]at h;exact h
     have jC:=aj hcn;clear hcn ha fq hls hT hp hf hs;have Hb:=hbz w;go_enter Tryz.func149,Tryz.ntmps149;go_wp2_with fail;refine cX w (Hb.an trivial) 41 [af 0,.slice none 0 0] λW aG ae ai=>?_;go_wp2_with fail;refine(jC.out _ ae.2.1.out).mono ?_;rintro e w1 ⟨a1,c1,rfl,hp1,ak⟩;obtain⟨ae,ai⟩:=qX ak ae;have HU:Hid (aW w1 (a1) (c1) []):=hp1;clear hp1;have PO:=HU;have bR:=ae.1;go_wp2;refine dG (aO w1 (w.heap.size) 0 [af (V:Int),.slice a1 0 c1]) aR ?_;intro w9 hs0;have ae:=bD hs0 ae;simp only[bz,List.set]at ae;have ai:=qC ae;refine bodyPost_ret (v:=.tuple #[.agg #[af (V:Int),.slice a1 0 c1],af 0]) (by simp[results,Tryz.results149,go_sem,ai]) rfl ⟨a1,c1,rfl,PO.out.sts bR.out hs0,ae.2.1.out⟩
   | cons t p=>
     obtain⟨l,s,m,e⟩:=t;obtain⟨b,o,hab,bW⟩:=ha.term 0 zm (l:=l) (s:=s) (m:=m) (e:=e) rfl;subst hab;rw[Nat.zero_mul,Nat.add_zero]at bW;have hlt:0<n:=by rw[<-hn];simp
     have hn0:((n:Int)==0)=false:=by simp;omega
     have aU:=gK n cap 0 0 (rfl:(some ⟨b,o,none⟩:Option Addr)=_) hlt rfl;rw[Nat.zero_mul,Nat.add_zero]at aU;have kj:Fit A (s,m,e):=hf (l,s,m,e) zm;have hcn:=λW (hW:Bw w W)=>CU V s m e (dval (s,m,e)) B (λ_=>0) W hV2 ⟨kj.1,kj.2.mono zo⟩ zo (hT.below hW) rfl;show Calls _ _ _ _ λe' w'=>∃a' c',e'=.returned (.tuple #[.agg #[af (V:Int),.slice a' (cW V (dval (s,m,e)) (λ_=>0) 0).length c'],af 0])/\aW w' a' c' (cW V (dval (s,m,e)) (λ_=>0) 0)/\Bw w w'
     obtain⟨R,hR⟩:=az (cW V (dval (s,m,e)) (λ_=>0) 0);rw[hR]at hcn⊢;obtain⟨_,y1,y2,y3⟩:=bW.w4;have lbw:=World.block_lt_of_cell? w _ y1;simp only at lbw;have Ht:Hid (aQ w b (o+1) [ag s,ah m,af e]):=jm y1 y2 y3;have jC:=aj hcn;clear hcn ha fq hls hT hp hf hs hR kj bW hn y1 y2 y3;have Hb:=hbz w;go_enter Tryz.func149,Tryz.ntmps149;obtain⟨ae,ai⟩:=qZ (Ht.an trivial);have aG:=qL (Hb.an ae);go_wp2_with fail;refine cX w (Hb.an ae) 41 [af 0,.slice none 0 0] λW aG ae ai=>?_;go_wp2_with fail;refine(jC.out _ ae.2.1.out).mono ?_;rintro e w1 ⟨a1,c1,rfl,hp1,ak⟩;obtain⟨ae,ai⟩:=qX ak ae;have HU:Hid (aW w1 (a1) (c1) R):=hp1;clear hp1;have PO:=HU;have bR:=ae.1;go_wp2;refine dG (aO w1 (w.heap.size) 0 [af (V:Int),.slice a1 R.length c1]) aR ?_;intro w9 hs0;have ae:=bD hs0 ae;simp only[bz,List.set]at ae;have ai:=qC ae;refine bodyPost_ret (v:=.tuple #[.agg #[af (V:Int),.slice a1 R.length c1],af 0]) (by simp[results,Tryz.results149,go_sem,ai]) rfl ⟨a1,c1,rfl,PO.out.sts bR.out hs0,ae.2.1.out⟩
 | succ r ih=>
   intro a n cap p w hr hn aZ hs ha fq hls hT hp hf;have qE:∀t∈p,Sm A (dval t.2):=λt ht=>(hf t ht).2;have hfit:=λm (hm:m<=128)=>hok.aBv (B:=B) hV2 hr hp.rem qE zo zo m hm;have qA:=λm (hm:m<=127) (hD:127-m<=D)=>hok.aBD (B:=B) hV2 hr hp.rem qE zo zo m hm hD;have hput:=λq=>hok.aBr (B:=B) hV2 (show r<=L by omega) (hp.blk hr q).rem (λt ht=>qE t (jI ht).1) zo zo;have hlen:=λm (hm:m<=127)=>hok.aBj hr hp.rem m hm;have AJ:=λm (hm:m<=128)=>Ns hok.deg (by have:=hok.dl;omega) hr hp.rem m hm;have MJ:=aoP hp.up hp.len hp.same;have hblk:=λc=>alU MJ c;have hget:=λc i hi=>alV MJ c i hi;obtain⟨k,hk⟩:=az (L-(r+1));have mE:k<L:=by omega
   have hk1:L-r=k+1:=by omega
   have hq0:∀q,D<q->dQ k q p=[]:=λq hq=>xP (λt ht e=>by have:=hp.rem t ht;rw[remS,hk]at this;omega);have uR:=λq=>hp.blk hr q;rw[hk]at hfit qA hput hlen AJ hblk hget MJ uR;rw[hk];rw[hk1]at ih;obtain⟨g,hg⟩:∃g:Nat->List Trm,(λq=>dP V ls L r (dQ k q p))=g:=⟨_,rfl⟩;have hpt:dP V ls L (r+1) p=eN (ls k) g 128:=by rw[<-hg,<-hk];rfl
   have GI:∀q,dP V ls L r (dQ k q p)=g q:=λq=>by rw[<-hg]
   have hg0:∀q,dQ k q p=[]->g q=[]:=λq h=>by rw[<-GI,h,za]
   rw[hg]at hfit qA hlen AJ;rw[hpt];have hby:∀t∈p,(t.1.getD k 0).toNat<=127:=λt ht=>by rw[List.getD_eq_getElem?_getD,List.getElem?_eq_getElem (by rw[hp.len t ht];exact mE)];exact hp.may t ht _ (List.getElem_mem _)
   have hlk:=hok.deg k mE;have hll:=hok.len k mE;obtain⟨aL,cL,hel,hpl,hfl⟩:=hls k zo;obtain⟨lb,lo,hlab,SV⟩:=fq.aBd k zo hel;have azw:=ue L pG k (k:Int) hlab mE rfl;obtain⟨N,hN⟩:∃N:Nat->Nat,(λc=>below (fD k) c p)=N:=⟨_,rfl⟩;have Gq:∀c,below (fD k) c p=N c:=λc=>by rw[<-hN]
   simp only[Gq]at hblk hget;have Dh:∀c,N c<=n:=λc=>by rw[<-Gq,<-hn];exact below_le _ _ _
   have LP:∀c,N c<=N (c+1):=λc=>by rw[<-Gq,<-Gq];exact alW _ _ zo
   have hNt:N 128=n:=by
    rcases Nat.lt_or_ge (N 128) n with h|h
    . have h1:=(hget 128 (N 128) zo).1 (by have:=hby _ (List.getElem_mem (show N 128<p.length by omega));show(_:Nat)<128;unfold fD;omega);omega
    . have:=Dh 128;omega
   have hcap:=hs.1;have hrc:∀m,m<=127->∃a',(if cap=N (127-m)then a else a.map (·.add (N (127-m) *4)))=a'/\∀W,Bw w W->Cl 149 #[.slice a' (N (128-m)-N (127-m)) (cap-N (127-m)),af ((k+1:Nat):Int),.slice la L pG,af (V:Int)] W λe w'=>∃a7 c7,e=.returned (.tuple #[.agg #[af (V:Int),.slice a7 (g (127-m)).length c7],af 0])/\aW w' a7 c7 (g (127-m))/\Bw W w':=λm hm=>by
    refine⟨_,rfl,λW hW=>?_⟩;have e1:=Dh (127-m);have e2:=Dh (128-m);have e3:=LP (127-m);rw[show 127-m+1=128-m by omega]at e3;have hb:=hblk (127-m);rw[show 127-m+1=128-m by omega]at hb;have hbl:(dQ k (127-m) p).length=N (128-m)-N (127-m):=by rw[hb,List.length_take,List.length_drop,hn];omega
    have h1:=(ha.below hW).aBf (N (127-m)) hn e1 hcap;have h2:=h1.aBl (N (128-m)-N (127-m));rw[<-hb]at h2;have h3:=hs.cut (k:=N (127-m)) (size:=4) e1;have h4:=ih _ (N (128-m)-N (127-m)) (cap-N (127-m)) (dQ k (127-m) p) W zo hbl zo ⟨by have:=h3.1;omega,h3.2⟩ h2 (fq.below hW) (hls.below hW) (hT.below hW) (uR _) (λt ht=>hf t (jI ht).1);rw[GI]at h4;exact h4
   have hcn:∀W,Bw w W->Cl 157 #[af (V:Int),.agg #[ag false,.string ⟨#[]⟩,af 0]] W λex w'=>∃a' c',ex=.returned (.tuple #[.agg #[af (V:Int),.slice a' 0 c'],af 0])/\aW w' a' c' []/\Bw W w':=λW hW=>by have h:=CU V false [] 0 0 1 (λ_=>0) W hV2 ⟨⟨by decide,by decide,by decide⟩,Sm.zero _⟩ zd (hT.below hW) zd;rw[aex]at h;exact h
   have mG:=λm (hm:m<=127) (hD:127-m<=D) W a' c' b (hW:Bw w W) (hb:ar W b 41 [af (V:Int),.slice a' (eN (ls k) g m).length c',af (V:Int),.slice aL (ls k).length cL]) (hp:aW W a' c' (eN (ls k) g m))=>auH V B (D-(128-m)) 1 _ _ b a' aL c' cL (eN (ls k) g m) (ls k) _ W hV rfl rfl (hfit m zo) hfl (AJ m zo) hlk (by have:=hok.dl;omega) (hlen m hm) hBm hb hp (hpl.below hW) (hT.below hW) rfl
   have had:=λm (hm:m<=127) (hD:127-m<=D) W a9 c9 a7 c7 b (hW:Bw w W) (hb:ar W b 41 [af (V:Int),.slice a9 (aS (fQ (eN (ls k) g m) (ls k))).length c9,af (V:Int),.slice a7 (g (127-m)).length c7]) (h9:aW W a9 c9 (aS (fQ (eN (ls k) g m) (ls k)))) (h7:aW W a7 c7 (g (127-m)))=>
    FL V B _ _ (eN (ls k) g (m+1)) a9 a7 c9 c7 W b hb h9 h7 (qA m hm hD).1 (by rw[<-GI];exact hput _) (by
     have h1:=(qA m hm hD).2;have h2:=Nr hok.deg (by have:=hok.dl;omega) (show r<=L by omega) (uR (127-m)).rem;rw[GI]at h2
     have:=hok.few2;omega) zo (hT.below hW) rfl
   have TC:∀m,m<=127->(eN (ls k) g m).length=0->N (127-m)=N (128-m)->eN (ls k) g (m+1)=[]:=λm hm h1 h2=>by have hb:=hblk (127-m);rw[show 127-m+1=128-m by omega,h2,Nat.sub_self,List.take_zero]at hb;rw[eN,List.length_eq_zero_iff.1 h1,Nf,clean_nil,hg0 _ hb];rfl
   have wA:∀m,m<=127->¬((eN (ls k) g m).length=0/\N (127-m)=N (128-m))->127-m<=D:=λm hm h=>by
    rcases Nat.lt_or_ge D (127-m)with h1|h1
    . exfalso
      refine h ⟨?_,?_⟩
      . rw[Bb m (λq h3 _=>hg0 q (hq0 q zo))];rfl
      . have hb:=hblk (127-m);rw[show 127-m+1=128-m by omega,hq0 _ h1]at hb;have h3:=congrArg List.length hb;rw[List.length_take,List.length_drop,hn]at h3;have:=Dh (128-m);have h4:=LP (127-m);rw[show 127-m+1=128-m by omega]at h4;simp only[List.length_nil]at h3;omega
    . exact h1
   have RJ:=λi (hi:i<p.length)=>(show(p[i].1).length=L/\fD k p[i]=(p[i].1.getD k 0).toNat from⟨hp.len _ (List.getElem_mem hi),rfl⟩);have azB:((k:Int)==(L:Int))=false:=by simp;omega
   have nV:Hid (∀m,m<=128->¬m<128->m=128):=λm h1 h2=>by omega
   obtain⟨H,hH⟩:=az (eN (ls k) g);rw[hH]at mG had TC wA⊢;have hH0:H 0=[]:=by rw[<-hH];rfl
   obtain⟨jC,Hrc,Fa,rX,sI,Ox,Cm,Ha,Hl,Hn,HNt,HNm⟩:=gL hcn hrc mG had TC wA hget ha SV hn hNt LP;obtain⟨HNn,aiq,WB,Wt,ayf,HkL⟩:=gM Dh hcap RJ hH0 hlab (And.intro mE hL);have lbl:=World.block_lt_of_cell? w _ SV.w2.1;simp only at lbl;clear ih hs ha fq hls hT hp hf qE hfit qA hput hlen AJ MJ hblk hget uR hq0 GI hg0 hby hlk hll hel hpl hfl SV Gq Dh LP hNt hcap hrc hcn mG had TC wA hN hg hpt hH hH0 hk1 hk hn RJ hlab;have Hb:=hbz w;go_enter Tryz.func149,Tryz.ntmps149;go_wp2_with fail;refine cX w (Hb.an trivial) 41 [af 0,.slice none 0 0] λW aG ae ai=>?_;go_wp2_with fail;refine(jC.out _ ae.2.1.out).mono ?_;rintro e w1 ⟨a0,c0,rfl,hp0,ak⟩;obtain⟨ae,ai⟩:=qX ak ae;have HU:Hid (aW w1 (a0) (c0) []):=hp0;clear hp0;have aG:=qL (HU.an ae);go_wp2_with fail;refine cX w1 (HU.an ae) 41 [af (V:Int),.slice a0 0 c0] λW2 aG ae ai=>?_;go_wp2_with fail;go_loopw[11,12,13] (λJf s12 Vi wr=>∃(m:Nat) (a':Option Addr) (c':Nat),m<=128/\Jf=af 0/\s12=af ((N (128-m):Nat):Int)/\Vi=af (127-(m:Int))/\ar wr w.heap.size 41 [af 0,.slice none 0 0]/\ar wr w1.heap.size 41 [af (V:Int),.slice a' (H m).length c']/\aW wr a' c' (H m)/\Bw w wr) (λ_ _ x _=>(intOf x+1).toNat);case atStart=>exact⟨0,a0,c0,Nat.zero_le _,rfl,by rw[Nat.sub_zero,HNt.out],rfl,ae.2.2.1.out,by rw[Wt.out];exact ae.1.out,by rw[Wt.out];exact ae.2.1.out,ae.2.2.2.1.out⟩
   case round=>
    skip
    obtain⟨m,a',c',hm,rfl,rfl,rfl,hz,hq,hu,pb⟩:=hrel;by_cases hlt:m<128
    . have GX:m<=127:=by omega
      have h13:(0:Int)<=127-(m:Int):=by omega
      have e1:=HNm.out (127-m);rw[show 127-m+1=128-m by omega]at e1;have e2:=HNn.out (128-m);have OT:=λi (h:i<p.length)=>Cm.out (127-m) i h;have OP:=λi (h:i<p.length)=>Cm.out (128-m) i h;have Km:=sI.out m GX;have JV:=Ox.out m GX;obtain⟨a7,hsl,MF⟩:=Hrc.out m GX;generalize hlo:N (127-m)=wR at e1 OT Km JV hsl MF;generalize hhi:N (128-m)=hi at e1 e2 OP Km JV MF⊢;obtain⟨q9,hq9⟩:∃q:Nat,127-m=q:=⟨_,rfl⟩;have hqi:127-(m:Int)=(q9:Int):=by omega
      rw[hqi]at h13⊢;obtain⟨Xw,ai4,akw,aiC,uz,akl,EZ,xI,Hz,Hq,HU,Hb⟩:=gL OT OP Km JV hsl MF hlo hq9 hz hq hu pb;have lO:Hid (hi<=n):=e2;clear hz hq hu pb OT OP Km JV hsl MF hlo hhi hqi e2 hq9;obtain⟨wo,hwo⟩:∃u,u=wr:=⟨_,rfl⟩;subst hwo;go_upto_block 2 with fail
      go_cut[14] (λs14 wx=>s14=af (wR:Int)/\wo=wx);case first=>
       go_wp2_with fail;go_loopw[14] (λx w2=>∃j:Nat,wR<=j/\j<=hi/\x=af (j:Int)/\w2=wo) (λx _=>(intOf x).toNat);case atStart=>exact⟨hi,e1,Nat.le_refl _,rfl,rfl⟩
       case round=>
        obtain⟨j,ov,iG,rfl,rfl⟩:=hrel;by_cases hjl:wR<j
        . have ym:j-1<p.length:=by have:=Hn.out;have:=lO.out;omega
          obtain⟨l,s,mm,e,hx⟩:∃l s mm e,p[j-1]=(l,s,mm,e):=⟨_,_,_,_,rfl⟩;obtain⟨tb,ob,hab,hwn⟩:=(Ha.out.below Hb.out).term (j-1) ym hx;have aU:=gK n cap (j-1) ((j-1:Nat):Int) hab (by have:=Hn.out;omega) rfl;have wD:=WB.out (j-1) ym;have hg1:=Xw.out (j-1) ym;have hg2:=ai4.out (j-1) ym;rw[hx]at wD hg1 hg2;have hkl:k<l.length:=by rw[wD.1];exact mE
          have hst:=uV l (k:Int) k hkl rfl;have hex:l[k].toNat=q9:=by
           have h1:fD k (l,s,mm,e)=l[k].toNat:=by rw[wD.2,List.getD_eq_getElem?_getD,List.getElem?_eq_getElem hkl];rfl
           rw[h1]at hg1 hg2;have:=xI.out;omega
          rw[hex]at hst;obtain⟨y0,_,_,_⟩:=hwn.w4;have Mm:decide (0<j)=true:=by simp;omega
          have hjn:j<=4096:=by have:=lO.out;omega
          have hw1:IntKind.i64.wrap ((j:Int)-1)=((j-1:Nat):Int):=by rw[IntKind.wrap_i64];omega
          have hw2:IntKind.i64.wrap (q9:Int)=(q9:Int):=by have:=xI.out;rw[IntKind.wrap_i64];omega
          clear wD hg1 hg2 hex hab hx hwn;go_wp2;go_roundw;case rel=>exact⟨j-1,by omega,by omega,by go_num,trivial⟩
          case measure=>exact bf
        . obtain rfl:j=wR:=by omega
          by_cases Mm:j=0
          . have hd0:decide (0<j)=false:=by simp;omega
            go_wp2_with fail;go_meet;exact⟨rfl,rfl⟩
          have ym:j-1<p.length:=by have:=Hn.out;have:=lO.out;omega
          obtain⟨l,s,mm,e,hx⟩:∃l s mm e,p[j-1]=(l,s,mm,e):=⟨_,_,_,_,rfl⟩;obtain⟨tb,ob,hab,hwn⟩:=(Ha.out.below Hb.out).term (j-1) ym hx;have aU:=gK n cap (j-1) ((j-1:Nat):Int) hab (by have:=Hn.out;omega) rfl;have wD:=WB.out (j-1) ym;have hg1:=Xw.out (j-1) ym;rw[hx]at wD hg1;have hkl:k<l.length:=by rw[wD.1];exact mE
          have hst:=uV l (k:Int) k hkl rfl;obtain⟨x9,TR⟩:=az (l[k].toNat);have hex:x9<q9:=by
           have h1:fD k (l,s,mm,e)=l[k].toNat:=by rw[wD.2,List.getD_eq_getElem?_getD,List.getElem?_eq_getElem hkl];rfl
           rw[h1,TR]at hg1;have:=xI.out;omega
          rw[TR]at hst;obtain⟨y0,_,_,_⟩:=hwn.w4;have hd1:decide (0<j)=true:=by simp;omega
          have hjn:j<=4096:=by have:=lO.out;omega
          have hw1:IntKind.i64.wrap ((j:Int)-1)=((j-1:Nat):Int):=by rw[IntKind.wrap_i64];omega
          have azR:q9<=127:=by have:=xI.out;omega
          have hw2:IntKind.i64.wrap (x9:Int)=(x9:Int):=by rw[IntKind.wrap_i64];omega
          have hne:((x9:Int)==(q9:Int))=false:=by simp;omega
          clear wD hg1 hex hab hx hwn TR;go_wp2_with fail;go_meet;exact⟨rfl,rfl⟩
      case rest=>
       obtain⟨rfl,rfl⟩:=hcut;obtain⟨ae,ai⟩:=qZ (Hz.an<|Hq.an trivial);have HU:Hid (aW wo (a') (c') (H m)):=HU.out;by_cases hsk:(H m).length=0/\wR=hi
       . obtain⟨fG,rfl⟩:=hsk;have hHe:=akw.out fG rfl;have hl0:(((H m).length:Int)==0)=true:=by rw[fG];rfl
         have hrl:H (m+1)=H m:=by rw[hHe];exact(List.length_eq_zero_iff.1 fG).symm
         have hw3:IntKind.i64.wrap ((q9:Int)-1)=127-((m+1:Nat):Int):=by have:=xI.out;rw[IntKind.wrap_i64];omega
         go_wp2;go_roundw;case rel=>exact⟨m+1,a',c',by omega,rfl,by rw[show 128-(m+1)=127-m by omega,EZ.out],rfl,ae.1.out,by rw[hrl];exact ae.2.1.out,by rw[hrl];exact HU.out,Hb.out⟩
         case measure=>simp[intOf];have:=xI.out;omega
       . have ME:=aiC.out hsk;have xA:=aj (Hl.out.below Hb.out);obtain⟨ae,ai⟩:=qZ (xA.an<|HU.an ae);have lbr:lb<wo.heap.size:=World.block_lt_of_cell? wo _ ae.1.out.w2.1;go_upto_region 13 with fail
         go_cut[78] (λs78 wx=>s78=ag false/\wo=wx);case first=>
          by_cases hl0:(H m).length=0
          . have gJ:(((H m).length:Int)==0)=true:=by rw[hl0];rfl
            have hje:((wR:Int)==(hi:Int))=false:=by simp;omega
            go_wp2_with fail;go_meet;exact⟨rfl,rfl⟩
          . have gJ:(((H m).length:Int)==0)=false:=by simpa using hl0
            go_wp2_with fail;go_meet;exact⟨rfl,rfl⟩
         case rest=>
          obtain⟨rfl,rfl⟩:=hcut;have aG:=qL (Hb.an ae);go_wp2_with fail;refine cX wo (Hb.an ae) 41 [af 0,.slice none 0 0] λW4 aG ae ai=>?_;have ae:=And.intro ae.1<|And.intro ae.2.1<|And.intro ae.2.2.2.1<|And.intro ae.2.2.2.2.1<|And.intro ae.2.2.2.2.2.1<|And.intro ae.2.2.1 trivial
          refine df 11 (ae.2.2.2.2.2) (cQ 12 0x161413110f0c0a0009070503) ?_;refine bC ?_;have ai:=qC ae;refine qOp λK hK=>?_;go_simp;refine hK _ _ (by first|exact λ_=>QIm.out ae|exact λ_=>QIm.out (UX (w:=W4) ae)) ?_;try simp only[UU]
          refine nM 41 [af (V:Int),.slice a' (H m).length c',af (V:Int),.slice aL (ls k).length cL] ae λW5 aG ae=>?_;refine qOp λK hK=>?_;go_simp;with_reducible refine(Fa.out m GX ME _ a' c' _ ae.2.2.1.out ae.1.out ae.2.2.2.1.out).mono ?_
          rintro e w6 ⟨a9,c9,rfl,yw,hq⟩;refine mR hK hq ae λae=>?_;clear hK K hq;refine bC ?_;have ai:=qC ae;refine qOp λK hK=>?_;go_simp;refine BM (aO w6 (w1.heap.size) 0 [af (V:Int),.slice a9 (aS (fQ (H m) (ls k))).length c9]) aR ?_;intro W7 hs0;have cw:=ae;have ae:=bD hs0 cw;simp only[bz,List.set]at ae;have ai:=qC ae;refine hK _ _ (λ_=>QIm.out ae) ?_;try simp only[UU]
          have ai:=qC ae;refine qOp λK hK=>?_;go_simp;refine hK _ _ (λh=>absurd h zd) ?_;try simp only[UU]
          refine cZ ae λai=>?_;have HU:Hid (aW W7 (a9) (c9) (aS (fQ (H m) (ls k)))):=yw.sts cw.2.2.2.2.2.1.out hs0;clear yw hs0;have hwk:IntKind.i64.wrap ((k:Int)+1)=((k+1:Nat):Int):=by have:=HkL.out;rw[IntKind.wrap_i64];omega
          have arc:=uz.out;have hic:hi<=cap:=by have:=aiq.out;have:=lO.out;omega
          go_wp2_with fail;refine(akl.out _ ae.2.2.1.out).mono ?_;rintro e w8 ⟨a8,c8,rfl,jw,ak⟩;obtain⟨ae,ai⟩:=qX ak (HU.an ae);have HT:Hid (aW w8 (a8) (c8) (g (127-m))):=jw;clear jw arc hwk hic;have Ce:=ae.1;have WL:=HT;(focus go_upto_region 18 with fail)
          first|refine eG (aO w8 (wo.heap.size) 0 [af (V:Int),.slice a8 (g (127-m)).length c8]) aR ?_|refine eF (aO w8 (wo.heap.size) 0 [af (V:Int),.slice a8 (g (127-m)).length c8]) aR ?_
          intro W9 hs0;have cw:=ae;have ae:=bD hs0 cw;simp only[bz,List.set]at ae;have ai:=qC ae;have HU:Hid (aW W9 (a9) (c9) (aS (fQ (H m) (ls k)))):=Ce.out.sts cw.2.2.1.out hs0;have HT:Hid (aW W9 (a8) (c8) (g (127-m))):=WL.out.sts cw.2.2.1.out hs0;clear Ce WL hs0;have aG:=qL (HU.an<|HT.an ae);go_wp2_with fail;refine cX W9 (HU.an<|HT.an ae) 41 [af (V:Int),.slice a9 (aS (fQ (H m) (ls k))).length c9,af (V:Int),.slice a8 (g (127-m)).length c8] λW10 aG ae ai=>?_;go_wp2_with fail;refine(rX.out m GX ME _ a9 c9 a8 c8 _ ae.2.2.2.2.2.2.1.out ae.1.out ae.2.1.out ae.2.2.1.out).mono ?_;rintro e mV ⟨vS,c11,rfl,Ig,ak⟩;obtain⟨ae,ai⟩:=qX ak ae;(focus go_upto_region 20 with fail)
          first|refine eG (aO mV (w1.heap.size) 0 [af (V:Int),.slice vS (H (m+1)).length c11]) aR ?_|refine eF (aO mV (w1.heap.size) 0 [af (V:Int),.slice vS (H (m+1)).length c11]) aR ?_
          intro Qn hs0;have cw:=ae;have ae:=bD hs0 cw;simp only[bz,List.set]at ae;have ai:=qC ae;have HU:Hid (aW Qn (vS) (c11) (H (m+1))):=Ig.sts cw.2.2.2.2.2.2.2.2.2.1.out hs0;clear Ig hs0;have hw3:IntKind.i64.wrap ((q9:Int)-1)=127-((m+1:Nat):Int):=by have:=xI.out;rw[IntKind.wrap_i64];omega
          go_wp2;go_roundw;case rel=>exact⟨m+1,vS,c11,by omega,rfl,by rw[show 128-(m+1)=127-m by omega,EZ.out],rfl,ae.2.2.2.2.2.2.2.2.1.out,ae.2.2.2.2.2.2.2.2.2.1.out,HU.out,ae.2.2.2.2.2.2.1.out⟩
          case measure=>simp[intOf];have:=xI.out;omega
    . obtain rfl:m=128:=nV.out m hm hlt;have h13:¬(0:Int)<=127-((128:Nat):Int):=by omega
      obtain⟨Hz,Hq,HU,Hb⟩:=cE hz hq hu pb;clear hz hq hu pb;obtain⟨ae,ai⟩:=qZ (Hz.an<|Hq.an trivial);have bR:=ae.1;go_wp2;refine dG (aO wr (w.heap.size) 0 [af (V:Int),.slice a' (H 128).length c']) aR ?_;intro w9 hs0;have ae:=bD hs0 (Hb.an ae);simp only[bz,List.set]at ae;have ai:=qC ae;refine bodyPost_ret (v:=.tuple #[.agg #[af (V:Int),.slice a' (H 128).length c'],af 0]) (by simp[results,Tryz.results149,go_sem,ai]) rfl ⟨a',c',rfl,HU.out.sts bR.out hs0,ae.1.out⟩
def avk (l:List UInt8)(L:Nat)(h:l.length=L)(r:Nat)(hr:r<=L):remS L r l=((l.drop (L-r)).map UInt8.toNat).sum:=by
 induction r with
 |zero=>rw[Nat.sub_zero,List.drop_of_length_le zo];rfl
 | succ r ih=>
   have hk:L-(r+1)<l.length:=by omega
   rw[remS,ih zo,List.drop_eq_getElem_cons hk,List.map_cons,List.sum_cons,show L-(r+1)+1=L-r by omega,List.getD_eq_getElem?_getD,List.getElem?_eq_getElem hk];rfl
def Ve (l:List UInt8)(L:Nat)(h:l.length=L):remS L L l=degN l:=by rw[avk l L h L (Nat.le_refl _),Nat.sub_self,List.drop_zero];rfl
def awl (V V':Int)(aT:Option Addr)(nT cT:Nat)(bv:Nat)(w:World)(hc:w.cell? ⟨bv,0,none⟩=some (af V)):
 Cv 148 #[.agg #[af V',.slice aT nT cT],.pointer (some ⟨bv,0,none⟩)] w (ag (V' !=V)):=by
 have Hc:=aj hc;clear hc;obtain⟨W,bX,ae,ai⟩:=fK w 41 [af V',.slice aT nT cT];have k1:=cell_later ae.1.out Hc.out;go_enter Tryz.func148,Tryz.ntmps148;go_wp2;refine bodyPost_ret (results_tmp rfl _ _ _) rfl ⟨rfl,ae.1.out⟩
def vp (Vq:Int)(q:List Trm)(L:Nat):Int:=if gj Vq q=0 then if(L:Int)=Vq then 0 else 1 else gj Vq q
def Qm (c:Int)(V:Nat)(C:List Trm)(w:World)(e:Ending)(w':World):Prop:=
 ∃(v:Int) (a':Option Addr) (n' c':Nat),e=.returned (.tuple #[.agg #[af v,.slice a' n' c'],af c])/\(c=0->v=V/\n'=C.length/\aW w' a' c' C)/\Bw w w'
def awm (V L D C K M A B:Nat)(ls:Nat->List Trm)(ps:List Pv)(la:Option Addr)(pG:Nat)(hok:SubOk V L D C K M ls)(hV:0<V)(hV2:V<=12)(hB:A+13* (L+2)+D*K+K<=B)(LI:C<=B)(hBm:B<=100000000)(hps:ps.length=L)(pZ:0<L)(hL:L<=1000)
 (Vq:Int) (a:Option Addr) (n cap:Nat) (q:List Trm) (w:World) (hn:q.length=n) (aZ:n<=4096) (hs:Sl a n cap) (ha:At w a (q.flatMap aH)) (fq:At w la (ps.flatMap ic)) (hls:fC w V B ps ls) (hT:aB w)
 (hq:∀t∈q,t.1.length<=1000/\Fit A t.2/\degN t.1<=D):
 Cl 76 #[.agg #[af Vq,.slice a n cap],.slice la L pG] w (Qm (vp Vq q L) V (dP V ls L L q) w):=by
 have cH:=λW (hW:Bw w W)=>BK Vq a cap n q W hn zo (ha.below hW) (λt ht=>⟨by have:=(hq t ht).1;omega,(hq t ht).2.1.1⟩) (hT.below hW);obtain⟨c,hc⟩:=az (gj Vq q);have lu:vp Vq q L=if c=0 then if(L:Int)=Vq then 0 else 1 else c:=by unfold vp;rw[hc]
 rw[hc]at cH;obtain⟨P,hP⟩:=az (dP V ls L L q);rw[hP,lu];by_cases h0:c=0
 rotate_left
 . rw[if_neg h0];have fA:=aj cH;have Db:((c:Int)==0)=false:=by simpa using h0
   have vW:(c !=0)=true:=by simpa using h0
   clear cH hq ha fq hls hT hs hn hc lu hP hps hok;have Hb:=hbz w;go_enter Tryz.func76,Tryz.ntmps76;go_wp2_with fail;refine gQ w (Hb.an trivial) 41 [af Vq,.slice a n cap] 41 [af 0,.slice none 0 0] λW aG ae ai=>?_;go_wp2_with fail;refine aK ae (fA.out _ ae.2.2.1.out) λw1 ae ai=>?_;go_wp2;refine dG (aO w1 (w.heap.size+1) 0 [af 0,.slice none 0 0]) aR ?_;intro w9 hs0;have ae:=bD hs0 ae;simp only[bz,List.set]at ae;have ai:=qC ae;refine bodyPost_ret (v:=.tuple #[.agg #[af 0,.slice none 0 0],af c]) (by simp[results,Tryz.results76,go_sem,ai]) rfl ⟨0,none,0,0,rfl,λh=>absurd h h0,ae.2.2.1.out⟩
 subst h0;rw[if_pos rfl];by_cases hLV:(L:Int)=Vq
 rotate_left
 . rw[if_neg hLV];have fA:=aj cH;have vW:((L:Int) !=Vq)=true:=by simpa using hLV
   have Db:((L:Int)==Vq)=false:=by simpa using hLV
   clear cH hq ha fq hls hT hs hn hc lu hP hps hok;have Hb:=hbz w;go_enter Tryz.func76,Tryz.ntmps76;go_wp2_with fail;refine gQ w (Hb.an trivial) 41 [af Vq,.slice a n cap] 41 [af 0,.slice none 0 0] λW aG ae ai=>?_;go_wp2_with fail;refine aK ae (fA.out _ ae.2.2.1.out) λw1 ae ai=>?_;go_wp2;refine dG (aO w1 (w.heap.size+1) 0 [af 0,.slice none 0 0]) aR ?_;intro w9 hs0;have ae:=bD hs0 ae;simp only[bz,List.set]at ae;have ai:=qC ae;refine bodyPost_ret (v:=.tuple #[.agg #[af 0,.slice none 0 0],af 1]) (by simp[results,Tryz.results76,go_sem,ai]) rfl ⟨0,none,0,0,rfl,λh=>(by cases h),ae.2.2.1.out⟩
 rw[if_pos hLV];subst hLV;have hpo:=Er hc;have hlen:∀t∈q,t.1.length=L:=λt ht=>Bp (hpo.2.1 t ht)
 have hpi:PutIn L D L q:=⟨hpo.1.1,hlen,λt ht c hc=>by
  have h:=hpo.2.1 t ht;unfold cJ at h;simp only[Bool.and_eq_true,decide_eq_true_eq,List.all_eq_true]at h
  exact h.1 c hc,λt ht=>by rw[Ve t.1 L (hlen t ht)];exact(hq t ht).2.2,λt _ u _ k hk=>by omega⟩
 have hput:=λW (hW:Bw w W)=>anh V L D C K M A B ls ps la pG hok hV hV2 hB LI hBm hps hL L a n cap q W (Nat.le_refl _) hn aZ hs (ha.below hW) (fq.below hW) (hls.below hW) (hT.below hW) hpi (λt ht=>(hq t ht).2.1);rw[Nat.sub_self,hP]at hput;have eg:∀args w,(callFunc 148 args).run Tryz.prog w=.ok (.enter 148 args) w:=enters_of Tryz.func148 zk rfl;have hct:∀W bl,Bw w W->W.cell? ⟨bl,0,none⟩=some (af (V:Int))->Cv 147 #[.slice la L pG,.func (.func 148) #[] #[.pointer (some ⟨bl,0,none⟩)]] W (ag false):=by
  intro W bl hW hcl;have h:=Zr la L pG ps 148 #[.pointer (some ⟨bl,0,none⟩)] (λp=>p.V !=(V:Int)) W hps zo (fq.below hW) eg (λx hx W2 hW2=>by simpa using awl (V:Int) x.V x.a x.n x.c bl W2 (cell_later hW2 hcl));have hf:(ps.any λp=>p.V !=(V:Int))=false:=by rw[List.any_eq_false];intro p Bc;obtain⟨k,hk,rfl⟩:=List.mem_iff_getElem.1 Bc;obtain⟨a,c,e1,_,_⟩:=hls k hk;rw[e1];simp
  rwa [hf]at h
 have ab4:=λW (hW:Bw w W) k (hk:k<ps.length)=>(show ∃a c,ps[k]=⟨(V:Int),a,(ls k).length,c⟩/\Cv 79 #[.agg #[af (V:Int),.slice a (ls k).length c]] W (af 0)from by
  obtain⟨a,c,e1,h1,h2⟩:=hls k hk;refine⟨a,c,e1,?_⟩;have h:=BK (V:Int) a c (ls k).length (ls k) W rfl (by have:=h2.1.2.2.1;omega) (h1.1.below hW) h2.chk (hT.below hW)
  rwa [Nl h2.1]at h)
 obtain⟨a1,c1,e1,_,_⟩:=hls 0 zo;obtain⟨b0,o0,gW,hw0⟩:=fq.aBd 0 zo e1;have qw:=ue L pG 0 0 gW pZ rfl;rw[Nat.zero_mul,Nat.add_zero]at qw hw0;obtain⟨fA,Pw,ER,Xb,Ha,HL,PY⟩:=jx cH hput hct ab4 fq hps hw0;have uX:=World.block_lt_of_cell? w _ hw0.w2.1;simp only at uX;clear cH hq ha fq hls hT hs hn hc lu hP hps hok hput hct ab4 hpo hlen hpi eg gW hw0 e1;have hLn:decide ((0:Int)<(L:Int))=true:=by simp;omega
 have RJ:(0:Int)<(L:Int):=by omega
 have Hb:=hbz w;go_enter Tryz.func76,Tryz.ntmps76;go_wp2_with fail;refine gQ w (Hb.an trivial) 41 [af (L:Int),.slice a n cap] 41 [af 0,.slice none 0 0] λW aG ae ai=>?_;go_wp2_with fail;refine aK ae (fA.out _ ae.2.2.1.out) λw1 ae ai=>?_;obtain⟨W2,ng,aG,ae,ai⟩:=bO w1 ae 3 [af 0];go_wp2_with fail;first|refine eG (aO W2 (w1.heap.size) 0 [af 0]) aR ?_|refine eF (aO W2 (w1.heap.size) 0 [af 0]) aR ?_
 intro W3 hs0;have ae:=bD hs0 ae;simp only[bz,List.set]at ae;have ai:=qC ae;go_loopw[28] (λx wr=>∃k:Nat,k<=L/\x=af (k:Int)/\ar wr w.heap.size 41 [af (L:Int),.slice a n cap]/\ar wr (w.heap.size+1) 41 [af 0,.slice none 0 0]/\ar wr w1.heap.size 3 [af 0]/\Bw w wr) (λx _=>L-(intOf x).toNat);case atStart=>exact⟨0,Nat.zero_le _,rfl,ae.2.1.out,ae.2.2.1.out,ae.1.out,ae.2.2.2.1.out⟩
 case round=>
  skip
  obtain⟨k,hk,rfl,hp,hr,hv,pb⟩:=hrel;obtain⟨Hp,Hr,Hv,Hb⟩:=cE hp hr hv pb;clear hp hr hv pb;by_cases hlt:k<L
  . have hk2:k<ps.length:=by rw[HL.out];exact hlt
    obtain⟨a1,c1,e1,hcall⟩:=Xb.out wr Hb.out k hk2;obtain⟨b',o',hab,bW⟩:=(Ha.out.below Hb.out).aBd k hk2 e1;have hcall:=λW (hW:Bw w W)=>(Xb.out W hW k hk2);have aU:=ue L pG k (k:Int) hab hlt rfl;obtain⟨nT,tV⟩:=az ((ls k).length);have Sy:Hid (∀W,Bw w W->Cv 79 #[.agg #[af (V:Int),.slice a1 nT c1]] W (af 0)):=by intro W hW;obtain⟨a2,c2,e2,h2⟩:=hcall W hW;rw[e1]at e2;simp only[Pv.mk.injEq,true_and]at e2;obtain⟨rfl,rfl⟩:=e2;rw[tV]at h2;exact h2
    rw[tV]at bW;have Hx:Hid (aQ wr b' (o'+k*2) [af (V:Int),.slice a1 nT c1]):=bW;clear bW hcall hab e1 tV;obtain⟨ae,ai⟩:=qZ (Hp.an<|Hr.an<|Hv.an<|Hx.an trivial);have aG:=qL (Hb.an ae);go_wp2_with fail;refine cX wr (Hb.an ae) 41 [af (V:Int),.slice a1 nT c1] λW4 aG ae ai=>?_;go_wp2_with fail;refine aK ae (Sy.out _ ae.2.1.out) λw5 ae ai=>?_;go_wp2;go_roundw;case rel=>exact⟨k+1,by omega,by go_num,ae.2.2.1.out,ae.2.2.2.1.out,ae.2.2.2.2.1.out,ae.2.1.out⟩
    case measure=>exact bf
  . obtain rfl:k=L:=by omega
    have Hx:Hid (aQ wr b0 o0 [af (V:Int),.slice a1 (ls 0).length c1]):=PY.out.below Hb.out;obtain⟨ae,ai⟩:=qZ (Hp.an<|Hr.an<|Hv.an<|Hx.an trivial);go_wp2_with fail;first|refine eG (aO wr (w1.heap.size) 0 [af (V:Int)]) aR ?_|refine eF (aO wr (w1.heap.size) 0 [af (V:Int)]) aR ?_
    intro W6 hs0;have ae:=bD hs0 (Hb.an ae);simp only[bz,List.set]at ae;have ai:=qC ae;have v0:W6.cell? ⟨w1.heap.size,0,none⟩=some (af (V:Int)):=ae.2.2.2.1.out.cell 0;go_wp2_with fail;refine aK ae (ER.out _ _ ae.1.out v0) λw7 ae ai=>?_;go_wp2_with fail;refine(Pw.out _ ae.1.out).mono ?_;rintro e w8 ⟨a',c',rfl,jw,ak⟩;obtain⟨ae,ai⟩:=qX ak ae;have HU:Hid (aW w8 (a') (c') P):=jw;clear jw;have Ce:=HU;have Aa:=ae.2.2.1;go_wp2;refine dG (aO w8 (w.heap.size+1) 0 [af (V:Int),.slice a' P.length c']) aR ?_;intro w9 hs0;have ae:=bD hs0 ae;simp only[bz,List.set]at ae;have ai:=qC ae;refine bodyPost_ret (v:=.tuple #[.agg #[af (V:Int),.slice a' P.length c'],af 0]) (by simp[results,Tryz.results76,go_sem,ai]) rfl ⟨(V:Int),a',P.length,c',rfl,λ_=>⟨rfl,rfl,Ce.out.sts Aa.out hs0⟩,ae.1.out⟩
def aoQ (V L D C K M A B:Nat)(ls:Nat->List Trm)(ps:List Pv)(la:Option Addr)(pG:Nat)(hok:SubOk V L D C K M ls)(hV:0<V)(hV2:V<=12)(hB:A+13* (L+2)+D*K+K<=B)(LI:C<=B)(hBm:B<=100000000)(hps:ps.length=L)(pZ:0<L)(hL:L<=1000)
 (Vq:Int) (a:Option Addr) (n cap:Nat) (q:List Trm) (w:World) (hn:q.length=n) (aZ:n<=4096) (hs:Sl a n cap) (ha:At w a (q.flatMap aH)) (fq:At w la (ps.flatMap ic)) (hls:fC w V B ps ls) (hT:aB w)
 (hq:∀t∈q,t.1.length<=1000/\Fit A t.2/\degN t.1<=D):
 Cl 18 #[.agg #[af Vq,.slice a n cap],.slice la L pG] w (Qm (vp Vq q L) V (dP V ls L L q) w):=by
 have hsu:=λW (hW:Bw w W)=>awm V L D C K M A B ls ps la pG hok hV hV2 hB LI hBm hps pZ hL Vq a n cap q W hn aZ hs (ha.below hW) (fq.below hW) (hls.below hW) (hT.below hW) hq;obtain⟨c,hc⟩:=az (vp Vq q L);obtain⟨P,hP⟩:=az (dP V ls L L q);rw[hc,hP]at hsu⊢;have AJ:∀k,k<L->∀t∈ls k,t.1.length<=12/\(∀c∈t.1,c.toNat<=127)/\degN t.1<=1:=λk hk t ht=>by have h:=hok.deg k hk t ht;have h2:=h.1;unfold cJ at h2;simp only[Bool.and_eq_true,decide_eq_true_eq,List.all_eq_true]at h2;exact⟨by have:=Bp h.1;omega,h2.1,h.2⟩
 obtain⟨Hsu,Ox,Ha,Ke,HL⟩:=dY hsu AJ fq hls hps;clear hsu AJ fq hls hps hok hq ha hs hT hn hc hP;have Hb:=hbz w;go_enter Tryz.func18,Tryz.ntmps18;go_wp2_with fail;refine gQ w (Hb.an trivial) 41 [af Vq,.slice a n cap] 41 [af 0,.slice none 0 0] λW aG ae ai=>?_;go_loopw[12] (λx wr=>∃k:Nat,k<=L/\x=af (k:Int)/\ar wr w.heap.size 41 [af Vq,.slice a n cap]/\ar wr (w.heap.size+1) 41 [af 0,.slice none 0 0]/\Bw w wr) (λx _=>L-(intOf x).toNat);case atStart=>exact⟨0,Nat.zero_le _,rfl,ae.1.out,ae.2.1.out,ae.2.2.1.out⟩
 case round=>
  skip
  obtain⟨k,hk,rfl,hp,hr,pb⟩:=hrel;obtain⟨Hp,Hr,Hb⟩:=bL hp hr pb;clear hp hr pb;by_cases hlt:k<L
  . have hk2:k<ps.length:=by rw[HL.out];exact hlt
    obtain⟨a1,c1,e1,hp1,yj⟩:=Ke.out k hk2;have hN4:(ls k).length<=4096:=yj.1.2.2.1;clear yj;obtain⟨b',o',hab,bW⟩:=(Ha.out.below Hb.out).aBd k hk2 e1;have aU:=ue L pG k (k:Int) hab hlt rfl;have hd1:=Ox.out k hlt;generalize ls k=ts at*;obtain⟨N,hN⟩:=az ts.length;rw[hN]at bW hN4;have Hx:Hid (aQ wr b' (o'+k*2) [af (V:Int),.slice a1 N c1]):=bW;obtain⟨Hts,Hd1,HN⟩:=bL (hp1.1.below Hb.out) hd1 hN;clear bW hab e1 hN hp1 hd1;obtain⟨wo,hwo⟩:∃u,u=wr:=⟨_,rfl⟩;subst hwo;have iH:=Hb;obtain⟨ae,ai⟩:=qZ (Hp.an<|Hr.an<|Hx.an trivial);have HY:Hid (At wo a1 (ts.flatMap aH)):=Hts.out;have aG:=qL (Hb.an<|HY.an ae);go_wp2_with fail;refine cX wo (Hb.an<|HY.an ae) 41 [af (V:Int),.slice a1 N c1] λW4 aG ae ai=>?_;go_wp2_with fail;go_loopw[19] (λx wr=>∃j:Nat,j<=N/\x=af (j:Int)/\ar wr w.heap.size 41 [af Vq,.slice a n cap]/\ar wr (w.heap.size+1) 41 [af 0,.slice none 0 0]/\At wr a1 (ts.flatMap aH)/\Bw w wr) (λx _=>N-(intOf x).toNat);case atStart=>exact⟨0,Nat.zero_le _,rfl,ae.2.2.2.1.out,ae.2.2.2.2.1.out,ae.2.2.1.out,ae.2.1.out⟩
    case round=>
     skip
     obtain⟨j,hj,rfl,hp,hr,hy,pb⟩:=hrel;obtain⟨Hp,Hr,Hb,HY⟩:=cE hp hr pb hy;clear hp hr pb hy;by_cases hlj:j<N
     . have iG:j<ts.length:=by rw[HN.out];exact hlj
       obtain⟨l,s,m,e,hx⟩:∃l s m e,ts[j]=(l,s,m,e):=⟨_,_,_,_,rfl⟩;obtain⟨b,o,hab,hw⟩:=HY.out.term j iG hx;have aU:=gK N c1 j (j:Int) hab hlj rfl;have hd2:l.length<=12/\(∀c∈l,c.toNat<=127)/\degN l<=1:=by have:=Hd1.out _ (List.getElem_mem iG);rw[hx]at this;exact this
       have wA:∀W,Cv 75 #[ah l] W (af (degN l:Int)):=λW=>ZG l W (by have:=hd2.1;omega) hd2.2.1;have hd3:¬(1:Int)<(degN l:Int):=by have:=hd2.2.2;show ¬_<_;omega
       generalize degN l=dg at*;have Ov:=aj wA;have Hy:Hid (aQ wr b (o+j*4) [ah l,ag s,ah m,af e]):=hw;clear wA hab hw hx hd2;obtain⟨ae,ai⟩:=qZ (Hp.an<|Hr.an<|Hy.an trivial);have HY:Hid (At wr a1 (ts.flatMap aH)):=HY.out;have aG:=qL (Hb.an<|HY.an ae);go_wp2_with fail;refine cX wr (Hb.an<|HY.an ae) 111 [ah l,ag s,ah m,af e] λW5 aG ae ai=>?_;go_wp2_with fail;refine aK ae (Ov.out _) λw6 ae ai=>?_;go_wp2;go_roundw;case rel=>exact⟨j+1,by omega,by go_num,ae.2.2.2.1.out,ae.2.2.2.2.1.out,ae.2.2.1.out,ae.2.1.out⟩
       case measure=>exact bf
     . obtain rfl:j=N:=by omega
       go_wp2;go_roundw;case rel=>exact⟨k+1,by omega,by go_num,Hp.out,Hr.out,Hb.out⟩
       case measure=>exact bf
  . obtain rfl:k=L:=by omega
    obtain⟨ae,ai⟩:=qZ (Hp.an<|Hr.an trivial);go_wp2_with fail;refine(Hsu.out _ Hb.out).mono ?_;rintro e w8 ⟨v,a',n',c',rfl,AB,ak⟩;obtain⟨ae,ai⟩:=qX ak (Hb.an ae);have Ch:=aj AB;clear AB;have Aa:=ae.2.2.1;go_wp2;refine dG (aO w8 (w.heap.size+1) 0 [af v,.slice a' n' c']) aR ?_;intro w9 hs0;have ae:=bD hs0 ae;simp only[bz,List.set]at ae;have ai:=qC ae;refine bodyPost_ret (v:=.tuple #[.agg #[af v,.slice a' n' c'],af c]) (by simp[results,Tryz.results18,go_sem,ai]) rfl ⟨v,a',n',c',rfl,λh=>⟨(Ch.out h).1,(Ch.out h).2.1,(Ch.out h).2.2.sts Aa.out hs0⟩,ae.1.out⟩
def uJ (Vq:Int)(q:List Trm):Bool:=decide (gj Vq q=0)&&(decide (0<q.length)&&decide (degN (q.getD 0 default).1=0))&&(List.range q.length).all λk=>decide (0<=bi (dval (q.getD k default).2))
def aoR {Vq:Int}{q:List Trm}(h:gj Vq q≠0\/q.length=0\/degN (q.getD 0 default).1≠0\/∃k,k<q.length/\bi (dval (q.getD k default).2)<0):uJ Vq q=false:=by
 unfold uJ;rcases h with h|h|h|⟨k,hk,h⟩
 . simp[h]
 . simp[h]
 . rw[decide_eq_false h];simp
 . rw[Bool.and_eq_false_iff];refine .inr ?_;rw[List.all_eq_false];exact⟨k,List.mem_range.2 hk,by rw[decide_eq_false zo];simp⟩
def aoS {Vq:Int}{q:List Trm}(h1:gj Vq q=0)(h2:0<q.length)(h3:degN (q.getD 0 default).1=0)(h4:∀k,k<q.length->0<=bi (dval (q.getD k default).2)):uJ Vq q=true:=by unfold uJ;simp only[h1,h2,h3,decide_true,Bool.true_and,List.all_eq_true,List.mem_range,decide_eq_true_eq];exact h4
def aoT (Vq:Int)(a:Option Addr)(n cap:Nat)(q:List Trm)(w:World)(hn:q.length=n)(aZ:n<=4096)(ha:At w a (q.flatMap aH))(hT:aB w)(hq:∀t∈q,t.1.length<=1000/\Ok t.2):
 Cv 20 #[.agg #[af Vq,.slice a n cap]] w (ag (uJ Vq q)):=by
 have cH:=λW (hW:Bw w W)=>BK Vq a cap n q W hn zo (ha.below hW) (λt ht=>⟨by have:=(hq t ht).1;omega,(hq t ht).2⟩) (hT.below hW);obtain⟨c,hc⟩:=az (gj Vq q);rw[hc]at cH;obtain⟨F,hF⟩:=az (uJ Vq q);rw[hF];have hno:(c≠0\/n=0\/degN (q.getD 0 default).1≠0\/∃k,k<n/\bi (dval (q.getD k default).2)<0)->F=false:=λh=>by rw[<-hF];exact aoR (by rw[hc,hn];exact h)
 have wN:0<n->c=0->degN (q.getD 0 default).1=0->(∀k,k<n->0<=bi (dval (q.getD k default).2))->F=true:=λh1 h2 h3 h4=>by rw[<-hF];exact aoS (by rw[hc];exact h2) (by rw[hn];exact h1) h3 (by rw[hn];exact h4)
 have GY:c=0->∀t∈q,∀c∈t.1,c.toNat<=127:=λh t ht=>((Nn (hc.trans h)).2.2.2 t ht).2;obtain⟨fA,pR,Ae,Ha,Hn,Hq,HT,Hmy⟩:=lC cH hno wN ha hn hq hT GY;clear cH hno wN ha hn hq hT hc hF GY;have Hb:=hbz w;go_enter Tryz.func20,Tryz.ntmps20;go_wp2_with fail;refine cX w (Hb.an trivial) 41 [af Vq,.slice a n cap] λW aG ae ai=>?_;go_wp2_with fail;refine aK ae (fA.out _ ae.2.1.out) λw1 ae ai=>?_;by_cases h0:c=0
 rotate_left
 . have Db:(c==0)=false:=by simpa using h0
   have vW:(c !=0)=true:=by simpa using h0
   obtain rfl:=pR.out (.inl h0);go_wp2;refine bodyPost_ret (results_tmp rfl _ _ _) rfl ⟨rfl,ae.2.1.out⟩
 subst h0;by_cases hn0:n=0
 . subst hn0;obtain rfl:=pR.out (.inr (.inl rfl));go_wp2;refine bodyPost_ret (results_tmp rfl _ _ _) rfl ⟨rfl,ae.2.1.out⟩
 have hnb:((n:Int)==0)=false:=by simpa using hn0
 have h0l:0<q.length:=by rw[Hn.out];omega
 have vW:0<n:=by omega
 obtain⟨l,s,m,e,hx⟩:∃l s m e,q[0]=(l,s,m,e):=⟨_,_,_,_,rfl⟩;obtain⟨b,o,hab,hw⟩:=(Ha.out.below ae.2.1.out).term 0 h0l hx;have aU:=gK n cap 0 0 hab vW rfl;rw[Nat.zero_mul,Nat.add_zero]at aU hw;have hgd:q.getD 0 default=(l,s,m,e):=by rw[List.getD_eq_getElem?_getD,List.getElem?_eq_getElem h0l,hx];rfl
 have wA:∀W,Cv 75 #[ah l] W (af (degN l:Int)):=λW=>ZG l W (by have:=(Hq.out _ (List.getElem_mem h0l)).1;rw[hx]at this;exact Nat.le_trans this zd) (by have:=Hmy.out rfl _ (List.getElem_mem h0l);rw[hx]at this;exact this);have ac2:degN l≠0->F=false:=λh=>pR.out (.inr (.inr (.inl (by rw[hgd];exact h))));have ad4:degN l=0->(∀k,k<n->0<=bi (dval (q.getD k default).2))->F=true:=λh=>Ae.out vW rfl (by rw[hgd];exact h);generalize degN l=dg at*;obtain⟨Ov,ajN,ak1⟩:=bL wA ac2 ad4;have Hx:Hid (aQ w1 b o [ah l,ag s,ah m,af e]):=hw;clear wA ac2 ad4 hab hw hx hgd;obtain⟨ae,ai⟩:=qZ (Hx.an ae);go_wp2_with fail;refine aK ae (Ov.out _) λw2 ae ai=>?_;by_cases hd0:dg=0
 rotate_left
 . have yh:((dg:Int)==0)=false:=by simpa using hd0
   have fF:((dg:Int) !=0)=true:=by simpa using hd0
   obtain rfl:=ajN.out hd0;go_wp2;refine bodyPost_ret (results_tmp rfl _ _ _) rfl ⟨rfl,ae.2.2.1.out⟩
 subst hd0;have bY:=ae.2.2.1;go_wp2_with fail;go_loopw[26] (λx wr=>∃k:Nat,k<=n/\x=af (k:Int)/\(∀j,j<k->0<=bi (dval (q.getD j default).2))/\Bw w wr) (λx _=>n-(intOf x).toNat);case atStart=>exact⟨0,Nat.zero_le _,rfl,λj h=>absurd h (Nat.not_lt_zero _),ae.2.2.1.out⟩
 case round=>
  skip
  obtain⟨k,hk,rfl,hall,pb⟩:=hrel;obtain⟨ij,Hb⟩:=aI hall pb;clear hall pb;by_cases hlt:k<n
  . have hk2:k<q.length:=by rw[Hn.out];exact hlt
    obtain⟨l,s,m,e,hx⟩:∃l s m e,q[k]=(l,s,m,e):=⟨_,_,_,_,rfl⟩;obtain⟨b,o,hab,hw⟩:=(Ha.out.below Hb.out).term k hk2 hx;have aU:=gK n cap k (k:Int) hab hlt rfl;have hgd:q.getD k default=(l,s,m,e):=by rw[List.getD_eq_getElem?_getD,List.getElem?_eq_getElem hk2,hx];rfl
    have Ti:=(Hq.out _ (List.getElem_mem hk2)).2;rw[hx]at Ti;obtain⟨S,hS⟩:=az (bi (dval (s,m,e)));have lv:bi (dval (q.getD k default).2)=S:=by rw[hgd];exact hS
    have Hy:Hid (aQ wr b (o+k*4) [ah l,ag s,ah m,af e]):=hw;obtain⟨jE,HS,ajU⟩:=bL lv hS Ti;clear hab hw hx hgd lv hS Ti;obtain⟨ae,ai⟩:=qZ (Hy.an trivial);have aG:=qL (Hb.an ae);go_wp2_with fail;refine cX wr (Hb.an ae) 111 [ah l,ag s,ah m,af e] λW3 aG ae ai=>?_;go_wp2_with fail;refine aK ae (oc s m e S HS.out _ ajU.out) λw4 ae ai=>?_;by_cases oW:S<0
    . obtain rfl:=pR.out (.inr (.inr (.inr ⟨k,hlt,by rw[jE.out];exact oW⟩)));go_wp2;refine bodyPost_ret (results_tmp rfl _ _ _) rfl ⟨rfl,ae.2.1.out⟩
    . go_wp2;go_roundw;case rel=>
       refine⟨k+1,by omega,by go_num,λj h=>?_,ae.2.1.out⟩;by_cases hjk:j=k
       . subst hjk;rw[jE.out];omega
       . exact ij.out j zo
      case measure=>exact bf
  . obtain rfl:k=n:=by omega
    obtain rfl:=ak1.out (by trivial) ij.out;go_wp2;refine bodyPost_ret (results_tmp rfl _ _ _) rfl ⟨rfl,Hb.out⟩
end Go.Proofs.YtpfgffadgkkedaaGreatDoor
namespace Go.Proofs.YtpfgffadgkkedaaGreatDoor
def Re (Y:Nat->Dyadic)(V:Nat)(ts:List Trm):ml Y V ts ts.length=bG (fp Y V) ts:=by rw[Lu Y V ts _ (Nat.le_refl _),List.take_length]
def aoB {V C B:Nat}{ts:List Trm}{xs:List Raw}(hf:dL V C ts)(hX:xs.length=V)(dz:∀x∈xs,Fit B x)(hB:B<=20000)(hC:C<=10000000):Sm 100000000 (ml (eH xs) V ts ts.length):=by
 have hV:V<=12:=hf.1.2.2.2;have hl:ts.length<=4096:=hf.1.2.2.1;have h:∀k,k<ts.length->Sm (C+V* (127*B+1)) (fU (eH xs) (dval (ts.getD k zT).2) (ts.getD k zT).1 V):=λk hk=>by rw[show ts.getD k zT=ts[k]by simp[List.getD_eq_getElem?_getD,hk]];have h2:=hf.1.2.1 _ (List.getElem_mem hk);unfold cJ at h2;simp only[Bool.and_eq_true,decide_eq_true_eq,List.all_eq_true]at h2;exact aeZ (hf.2 _ (List.getElem_mem hk)).2 h2.1 V (λj hj=>agR hX dz j hj)
 have h1:V* (127*B+1)<=12* (127*20000+1):=Nat.mul_le_mul hV zo;exact(aab h _ (Nat.le_refl _)).mono zo
def ZQ (X:Dyadic):0<bi X↔0<X:=by
 have h1:=sX X;have h2:=QU X;constructor
 . intro h;have a1:¬X<0:=λh4=>by have:=h1.2 h4;omega
   have a2:¬X=0:=λh4=>by have:=h2.2 h4;omega
   grind
 . intro h;have a1:¬bi X<0:=λh4=>by have:=h1.1 h4;grind
   have a2:¬bi X=0:=λh4=>by have:=h2.1 h4;grind
   omega
def Qg (bx:List (Raw×Raw))(rows:List (List Raw))(X:Nat->Dyadic):Prop:=∀k,k<gu bx.length rows.length->0<=bG (fp X (cO bx.length rows.length)) (jf bx rows k)
def atE {rows:List (List Raw)}{V:Nat}{X:Nat->Dyadic}(h1:1<=V)(h4:V<=4)(hm:rows.length=V+1)(h:gq V (dA rows) X):Qg [] rows X:=λk hk=>by
 have hV:cO ([]:List (Raw×Raw)).length rows.length=V:=by unfold cO;rw[hm,if_pos zo];omega
 have hT:jf [] rows=jL V (dA rows) V:=by unfold jf;rw[hm,if_pos zo];rfl
 have hk2:k<=V:=by unfold gu at hk;rw[hm,if_pos zo]at hk;omega
 rw[hV,hT,<-Re,Ro V h1 h4 (dA rows) X k hk2];have:=h k hk2;grind
def afu {V D M N:Nat}(hV:V<=4)(h:D^4*M<=N)(hD:1<=D):D^V*M<=N:=
 Nat.le_trans (Nat.mul_le_mul_right _ (Nat.pow_le_pow_right hD hV)) h
def asi {bx:List (Raw×Raw)}{rows:List (List Raw)}{C K:Nat}(hK:C+25<=K)(hV:cO bx.length rows.length<=4)(hf:∀k,k<gu bx.length rows.length->dL (cO bx.length rows.length) C (jf bx rows k))(hr:0<rows.length->1<=rows.length-1):SubOk (cO bx.length rows.length) (gu bx.length rows.length) 5 C K 5 (jf bx rows):=by
 refine⟨λk hk=>?_,λk hk t ht=>((hf k hk).2 t ht).2,hK,by decide,λk hk=>?_,afu hV zd zd,by have:=afu (M:=1) (N:=2048) hV (show(5+1)^4*1<=2048 by decide) zd;omega⟩
 . unfold jf cO;split
   . exact ao5 _ _ _ _
   . unfold pW;split
     . exact aeG _ _ _
     . exact acA _ _ _
 . unfold jf;unfold cO at hV;split
   . rename_i h0
     rw[if_pos h0]at hV;unfold jL;split
     . have:=aag (rows.length-1) (dA rows) (rows.length-1);omega
     . have:=Uf (rows.length-1) (dA rows) (k-1);omega
   . unfold pW;split
     . have:=aeH bx.length (k/2) (eQ ((bx.map bH).getD (k/2) (0,0))).1;omega
     . have:=acB bx.length (k/2) (eQ ((bx.map bH).getD (k/2) (0,0))).2;omega
def aoV {V L D C K M:Nat}{l:Nat->List Trm}{q:List Trm}{X:Nat->Dyadic}(h:SubOk V L D C K M l)(hp:FJ L q)(hd:∀t∈q,degN t.1<=D)(hX:∀k,k<L->0<=bG (fp X V) (l k))(hF:uJ (L:Int) q=true):0<bG (fp X V) (dP V l L L q):=by
 have hlen:∀t∈q,t.1.length=L:=λt ht=>Bp (hp.2.1 t ht)
 have e:=avP X h L D q (Nat.le_refl _) (Nat.le_refl _) (λt ht=>by rw[Ve t.1 L (hlen t ht)];exact hd t ht) hp.1.1 (λt ht=>⟨hlen t ht,λc hc=>by
  have h:=hp.2.1 t ht;unfold cJ at h;simp only[Bool.and_eq_true,decide_eq_true_eq,List.all_eq_true]at h
  exact h.1 c hc⟩) (λt _ u _ k hk=>by omega)
 rw[e];unfold uJ at hF;simp only[Bool.and_eq_true,decide_eq_true_eq,List.all_eq_true,List.mem_range]at hF;obtain⟨⟨_,h0,h1⟩,h2⟩:=hF;have hnn:∀t∈q,0<=dval t.2:=λt ht=>by obtain⟨k,hk,rfl⟩:=List.mem_iff_getElem.1 ht;have h9:=h2 k hk;rw[List.getD_eq_getElem?_getD,List.getElem?_eq_getElem hk]at h9;have h8:=mt (sX (dval q[k].2)).2 (by have:0<=bi (dval q[k].2):=h9;omega);grind
 cases q with
 |nil=>simp at h0
 |cons x p=>have h1':degN x.1=0:=h1;refine aoU hX (λk _=>by have:=zn x.1 k;have h7:gA x.1=0:=h1';omega) ?_ (λt ht=>hnn t (by simp[ht]));have hx:=hnn x zm;have hnz:=(hp.1.2 x zm).1;grind
def arC (n:Nat)(aZ:n<=4){p q:Nat->Nat->Dyadic}(h:∀a b,a<=n->b<n->p a b=q a b)(x:Nat->Dyadic):gq n p x↔gq n q x:=by
 have e:∀k,ig n p x k=ig n q x k:=λk=>by unfold ig;rw[QX n aZ h,QX n aZ (p:=bI p k x) (q:=bI q k x) (λa b ha hb=>by unfold bI;rw[h a b ha hb])]
 unfold gq;simp only[e]
def ap8 {n B:Nat}{rows:List (List Raw)}(h:Rw n B rows)(hn:1<=n)(aZ:n<=4)(hB:B<=10000000)(x:Nat->Dyadic):
 gq n (dA rows) x↔gq n (dA (oZ n false rows)) x\/gq n (dA (oZ n true rows)) x:=by
 have hF:=MZ (gy rows n) (n+1) zo;have h1:∀s:Bool,gq n (dA (oZ n s rows)) x↔gq n (yP (dA rows) (hp 1) (ia (gy rows n) (n+1)).1 (ia (gy rows n) (n+1)).2.1 (if s then(ia (gy rows n) (n+1)).1 else(ia (gy rows n) (n+1)).2.1)) x:=λs=>
  arC n aZ (λa b ha hb=>abF n _ _ _ B rows h.1 h.2.1 hF.1 zo (by cases s<;>simp<;>omega) h.2.2 hB a b ha hb) x
 have h2:=arE n hn aZ (dA rows) (hp 1) Il _ _ (Nat.ne_of_lt hF.1) zo zo x;rw[h1,h1,h2];rfl
def ap7 {n B:Nat}{rows:List (List Raw)}(h:Rw n B rows)(hn:1<=n)(aZ:n<=4)(hB:B<=10000000)(h0:jA rows=0)(s:Bool):jA (oZ n s rows)=0:=by have hF:=MZ (gy rows n) (n+1) zo;exact aqa n _ _ _ B rows hn aZ h.1 h.2.1 hF.1 zo (by cases s<;>simp) h.2.2 hB h0
def Ed (bx:List Pr)(X:Nat->Dyadic):Prop:=∀k,k<bx.length->(bx.getD k (0,0)).1<=X k/\X k<=(bx.getD k (0,0)).2
def amP {bx:List Pr}(h0:bx≠[])(h:∀p∈bx,p.1<p.2):iV bx=0:=by unfold iV;rw[if_neg h0,if_neg];rw[List.any_eq_true];rintro⟨p,hp,h1⟩;have h2:=h p hp;have h3:=(sX (p.1-p.2)).2 (by grind);simp at h1;omega
def QG {bx:List Pr}(h:iV bx=0):bx≠[]/\∀p∈bx,p.1<p.2:=by obtain⟨h1,h2⟩:=Zi h;exact⟨h1,λp hp=>by have:=(sX _).1 (h2 p hp);grind⟩
def aeQ {p:Pr}(h:p.1<p.2):p.1<jy p/\jy p<p.2:=by
 have h1:jy p+jy p=p.1+p.2:=by
  unfold jy;have h3:=Il;have:(p.1+p.2) *hp 1+(p.1+p.2) *hp 1=(p.1+p.2) * (hp 1+hp 1):=by grind
  rw[this,h3];grind
 constructor<;>grind
def UE {p:Pr}(h:p.1<p.2):eQ p=p:=afm ((sX _).2 (by grind))
def asU {bx:List Pr}(h:∀p∈bx,p.1<p.2):bx.map eQ=bx:=by
 induction bx with
 |nil=>rfl
 |cons x l ih=>rw[List.map_cons,UE (h x zm),ih (λp hp=>h p (by simp[hp]))]
def getD_in {bx:List Pr}{a:Nat}(ha:a<bx.length):bx.getD a (0,0)∈bx:=by
 have e:bx.getD a (0,0)=bx[a]:=by simp[ha]
 rw[e];exact List.getElem_mem ha
def Sn {bx:List Pr}{a:Nat}(ha:a<bx.length)(h:∀p∈bx,p.1<p.2)(up:Bool):jv bx a up=bx.set a (if up then(jy (bx.getD a (0,0)),(bx.getD a (0,0)).2)else((bx.getD a (0,0)).1,jy (bx.getD a (0,0)))):=by unfold jv;rw[asU h,UE (h _ (getD_in ha))]
def ap4 {bx:List Pr}{a:Nat}(ha:a<bx.length)(h:∀p∈bx,p.1<p.2)(up:Bool):∀p∈jv bx a up,p.1<p.2:=by
 have h2:=aeQ (h _ (getD_in ha));rw[Sn ha h];intro p hp;rcases List.mem_or_eq_of_mem_set hp with h1|h1
 . exact h p h1
 . subst h1;cases up
   . exact h2.1
   . exact h2.2
def apn {bx:List Pr}{a:Nat}(ha:a<bx.length)(v:Pr)(k:Nat):(bx.set a v).getD k (0,0)=if k=a then v else bx.getD k (0,0):=by
 by_cases hk:k=a
 . subst hk;rw[if_pos rfl];simp[ha]
 . rw[if_neg hk,List.getD_eq_getElem?_getD,List.getD_eq_getElem?_getD,List.getElem?_set_ne (λe=>hk e.symm)]
def ap3 {bx:List Pr}{a:Nat}(ha:a<bx.length)(h:∀p∈bx,p.1<p.2)(X:Nat->Dyadic):Ed bx X↔Ed (jv bx a false) X\/Ed (jv bx a true) X:=by
 have h2:=aeQ (h _ (getD_in ha));rw[Sn ha h,Sn ha h,if_neg zd,if_pos rfl];generalize hm:jy (bx.getD a (0,0))=m at*;unfold Ed;simp only[List.length_set,apn ha];constructor
 . intro h1;by_cases hX:X a<=m
   . left;intro k hk;by_cases hka:k=a
     . subst hka;rw[if_pos rfl];exact⟨(h1 k hk).1,hX⟩
     . rw[if_neg hka];exact h1 k hk
   . right;intro k hk;by_cases hka:k=a
     . subst hka;rw[if_pos rfl];exact⟨by grind,(h1 k hk).2⟩
     . rw[if_neg hka];exact h1 k hk
 . rintro(h1|h1) k hk
   . have h3:=h1 k hk;by_cases hka:k=a
     . subst hka;rw[if_pos rfl]at h3;exact⟨h3.1,by grind⟩
     . rw[if_neg hka]at h3;exact h3
   . have h3:=h1 k hk;by_cases hka:k=a
     . subst hka;rw[if_pos rfl]at h3;exact⟨by grind,h3.2⟩
     . rw[if_neg hka]at h3;exact h3
def fZ (d:DmR):Prop:=rz d.1.length d.2.length (iV (d.1.map bH)) (jA d.2)=0
def iT (B:Nat)(d:DmR):Prop:=lK B d.1/\∀r∈d.2,∀c∈r,Fit B c
def iT.mono {B C:Nat}{d:DmR}(h:iT B d)(hB:B<=C):iT C d:=⟨λs hs=>⟨(h.1 s hs).1.mono hB,(h.1 s hs).2.mono hB⟩,λr hr c hc=>(h.2 r hr c hc).mono hB⟩
def fh (up:Bool)(d:DmR):DmR:=if 0<d.2.length then([],oZ (d.2.length-1) up d.2)else((jv (d.1.map bH) (qP (d.1.map bH)) up).map kA,[])
def iI (d:DmR)(X:Nat->Dyadic):Prop:=if 0<d.2.length then gq (d.2.length-1) (dA d.2) X else Ed (d.1.map bH) X
def sU {d:DmR}{B:Nat}(h:fZ d)(hf:iT B d)(h5:d.2.length<=5):(∃q,q+1<=4/\d.1=[]/\Rw (q+1) B d.2/\d.2.length=q+2/\jA d.2=0)\/(d.2=[]/\1<=d.1.length/\d.1.length<=6/\iV (d.1.map bH)=0):=by
 rcases QQ h with⟨h1,h2,h3⟩ |⟨h1,h2,h3,h4⟩
 . obtain⟨q,hq,hr⟩:=agl h5 hf.2 h3;exact .inl ⟨q,hq,List.length_eq_zero_iff.1 h1,hr,hr.1,h3⟩
 . exact .inr ⟨List.length_eq_zero_iff.1 h1,h2,h3,h4⟩
def anH {rows:List (List Raw)}{q:Nat}(h:rows.length=q+2)(h0:jA rows=0):fZ ([],rows):=by unfold fZ rz;rw[h0];simp only[List.length_nil,h];rw[if_neg zo,if_pos zo]
def anF {bx:List (Raw×Raw)}(h1:1<=bx.length)(h6:bx.length<=6)(h0:iV (bx.map bH)=0):fZ (bx,[]):=by unfold fZ rz;simp only[List.length_nil,h0];rw[if_neg zo,if_neg zo,if_neg zo]
def VP {bx:List Pr}(h:1<=bx.length):qP bx<bx.length:=(YS _ _ h).1
def aeP (l:List Pr):(l.map kA).map bH=l:=by
 rw[List.map_map];induction l with
 |nil=>rfl
 |cons x l ih=>rw[List.map_cons,ih];exact congrArg (·::l) (awa x)
def Ix {d:DmR}{B:Nat}(h:fZ d)(hf:iT B d)(h5:d.2.length<=5)(hB:B<=1000000)(up:Bool):fZ (fh up d)/\iT (B+3) (fh up d)/\(fh up d).1.length=d.1.length/\(fh up d).2.length=d.2.length:=by
 rcases sU h hf h5 with⟨q,hq,h1,hr,hl,h0⟩ |⟨h1,h2,h6,h0⟩
 . have e:d.2.length-1=q+1:=by omega
   unfold fh;rw[if_pos zo,e,h1];have hr2:=ap9 hr zo zo up;exact⟨anH hr2.1 (ap7 hr zo hq zo h0 up),⟨λs hs=>(by cases hs),hr2.2.2⟩,rfl,by rw[hl];exact hr2.1⟩
 . unfold fh;rw[h1,if_neg zm];have hl:(d.1.map bH).length=d.1.length:=List.length_map ..;have ha:=QG h0;have hw:=VP (bx:=d.1.map bH) zo;refine⟨anF (by rw[List.length_map,Ma,hl];exact h2) (by rw[List.length_map,Ma,hl];exact h6) ?_,⟨lK.of (ap6 hf.1.smP _ up) zo,λr hr=>(by cases hr)⟩,by rw[List.length_map,Ma,hl],rfl⟩;rw[aeP];exact amP (by intro h9;have:=Ma (d.1.map bH) (qP (d.1.map bH)) up;rw[h9]at this;simp at this;omega) (ap4 hw ha.2 up)
def ari {d:DmR}{B:Nat}(h:fZ d)(hf:iT B d)(h5:d.2.length<=5)(hB:B<=1000000)(X:Nat->Dyadic):iI d X↔iI (fh false d) X\/iI (fh true d) X:=by
 have hl0:=(Ix h hf h5 hB false).2.2.2;have gJ:=(Ix h hf h5 hB true).2.2.2;rcases sU h hf h5 with⟨q,hq,h1,hr,hl,h0⟩ |⟨h1,h2,h6,h0⟩
 . have e:d.2.length-1=q+1:=by omega
   unfold iI;rw[if_pos zo,if_pos zo,if_pos zo,hl0,gJ,e];unfold fh;rw[if_pos zo,if_pos zo,e];exact ap8 hr zo hq zo X
 . have hl:(d.1.map bH).length=d.1.length:=List.length_map ..;have e0:¬0<d.2.length:=by rw[h1];simp
   unfold iI;rw[if_neg e0,if_neg zo,if_neg zo];unfold fh;rw[if_neg e0,if_neg e0];simp only[aeP];exact ap3 (VP zo) (QG h0).2 X
def atD {d:DmR}{B:Nat}{X:Nat->Dyadic}(h:fZ d)(hf:iT B d)(h5:d.2.length<=5)(hX:iI d X):Qg d.1 d.2 X:=by
 rcases sU h hf h5 with⟨q,hq,h1,hr,hl,h0⟩ |⟨h1,h2,h6,h0⟩
 . have e:d.2.length-1=q+1:=by omega
   unfold iI at hX;rw[if_pos zo,e]at hX;rw[h1];exact atE zo hq hl hX
 . unfold iI at hX;rw[if_neg (by rw[h1];simp)]at hX;rw[h1];have ha:=QG h0;intro k hk;have hk2:k<2*d.1.length:=hk;have hi:k/2<d.1.length:=by omega
   have hlt:=ha.2 (bH d.1[k/2]) (List.mem_map.2 ⟨_,List.getElem_mem hi,rfl⟩);have hg:(d.1.map bH).getD (k/2) (0,0)=bH d.1[k/2]:=by simp[hi]
   have hs:=hX (k/2) (by simpa using hi);rw[hg]at hs;show 0<=bG (fp X d.1.length) (pW d.1.length (d.1.map bH) k)
   unfold pW;rw[hg,UE hlt];split
   . rw[asr _ _ _ _ hi];grind
   . rw[aqB _ _ _ _ hi];grind
end Go.Proofs.YtpfgffadgkkedaaGreatDoor
namespace Go.Proofs.YtpfgffadgkkedaaGreatDoor
open Go.RowKit
attribute [local go_sem ↓] Go.wp_at_zero Go.wp_at_succ
def og (c:UInt8):Nat:=if c.toNat=255 then 256 else c.toNat
def Ra (c:UInt8):og c<=256:=by unfold og;have:=c.toNat_lt;split<;>omega
def eV (tb:List UInt8)(k:Nat):Dyadic:=Dyadic.ofIntWithPrec (og (tb.getD k 0):Int) 0*hp 8
def sZ (tb:List UInt8)(n:Nat):List Raw:=(List.range n).map λk=>canon (eV tb k)
def aot (tb:List UInt8)(k:Nat):eV tb k=Dyadic.ofIntWithPrec (og (tb.getD k 0):Int) 8:=by unfold eV hp;rw[yU,Int.mul_one];rfl
def ZW (c:Nat)(h:c<=256):Sm 9 (Dyadic.ofIntWithPrec (c:Int) 0):=
 ⟨(c:Int) *2^9,(qK (c:Int) 9 0).symm,by rw[Int.natAbs_mul,Int.natAbs_pow];show c*2^9<2^(2*9);omega⟩
def Rb (tb:List UInt8)(k:Nat):Sm 20 (eV tb k):=by unfold eV;exact(Sm.mul (ZW _ (Ra _)) (MD 8)).mono zd
def ZX (tb:List UInt8)(k:Nat):0<=eV tb k/\eV tb k<=1:=by
 rw[aot];have h0:=Ra (tb.getD k 0);have h1:=UH (og (tb.getD k 0):Int) 8;have h2:=UH (256-og (tb.getD k 0):Int) 8;have h3:Dyadic.ofIntWithPrec (256-og (tb.getD k 0):Int) 8=1-Dyadic.ofIntWithPrec (og (tb.getD k 0):Int) 8:=by
  have e:(1:Dyadic)=Dyadic.ofIntWithPrec 256 8:=by decide+kernel
  have e2:=ve 256 (-(og (tb.getD k 0):Int)) 8;have e3:=IU (og (tb.getD k 0):Int) 8;rw[e,Int.sub_eq_add_neg,<-e2,<-e3];grind
 rw[h3]at h2;have h5:¬1-Dyadic.ofIntWithPrec (og (tb.getD k 0):Int) 8<0:=λh=>by have:=h2.1 h;omega
 have h6:¬Dyadic.ofIntWithPrec (og (tb.getD k 0):Int) 8<0:=λh=>by have:=h1.1 h;omega
 constructor<;>grind
def arI (bx:List (Raw×Raw))(n m B:Nat)(a a':Option Addr)(cap cap':Nat)(tb:List UInt8)(ta:Option Addr)(tn tc:Nat)(w:World)(hn:bx.length=n)(h1:1<=n)(hl:n<=1000)(hf:lK B bx)(hB8:20<=B)(hB:B<=10000000)(ha:At w a (bx.flatMap spC))(ht:tb.length=tn)(je:At w ta (mU tb))(hT:aB w):
 Cl 33 #[.agg #[.slice a n cap,.slice a' m cap'],.slice ta tn tc] w λe w'=>∃(a2:Option Addr) (c2:Nat),e=.returned (.slice a2 n c2)/\At w' a2 (((List.range n).map λk=>canon (vh bx (sZ tb n) k)).flatMap aV)/\Bw w w':=by
 obtain⟨i0,hi,hz0,hz1,hz2⟩:=info_parts Tryz.aBb;obtain⟨X,hX⟩:=az (sZ tb n);have kg:X.length=n:=by rw[<-hX];simp[sZ]
 have Dm:∀k (h:k<X.length),X[k]=canon (eV tb k):=λk h=>by subst hX;simp[sZ]
 have hXf:∀x∈X,Fit B x:=λx hx=>by obtain⟨k,hk,rfl⟩:=List.mem_iff_getElem.1 hx;rw[Dm k hk];exact((Rb tb k).mono hB8).fit zo
 have hpl:=λ(W:World) a5 c5 (hW:Bw w W) (hat:At W a5 (X.flatMap aV))=>auu a n cap B bx X a5 c5 W hn hl hf hB (ha.below hW) kg hXf hat (hT.below hW);have uU:=je;rw[<-agy]at uU;rw[hX];obtain⟨Hi,cm,bR,bZ,ut,NZ,lR,Cy,HT,Ht⟩:=Bl hi hz0 hz1 hz2 kg Dm hpl uU hT ht;clear hi hz0 hz1 hz2 kg Dm hXf hpl uU je hT ht hX hf ha hn;have hn0:decide (0<n)=true:=by simp;omega
 have dV:0<n:=h1;have Hb:=hbz w;go_enter Tryz.func33,Tryz.ntmps33;go_wp2_with fail;refine cX w (Hb.an trivial) 27 [.slice a n cap,.slice a' m cap'] λW aG ae ai=>?_;have rZ:=ae.2.1;go_loopw[5,6] (λs5 x wr=>∃(k:Nat) (v:Value),k<=n/\x=af (k:Int)/\v=s5/\wr.ownsRow W.heap.size 45 3 v k ((X.take k).flatMap aV)/\ar wr w.heap.size 27 [.slice a n cap,.slice a' m cap']/\Bw W wr) (λ_ x _=>n-(intOf x).toNat);case atStart=>exact⟨0,_,Nat.zero_le _,rfl,rfl,World.ownsRow_nil _ _ _ _,ae.1.out,Below.refl _ _⟩
 case round=>
  skip
  obtain⟨k,v,hk,rfl,rfl,ho,hd,pb⟩:=hrel;obtain⟨Ho,Xc,aP,mX⟩:=cE ho hd pb (aC rZ.out pb);have ie:=pb.size;clear ho hd pb;by_cases hlt:k<n
  . have hkX:k<X.length:=by rw[ut.out];exact hlt
    have hst:=afe X k hkX;rw[NZ.out k hkX]at hst;obtain⟨c,hc⟩:=az (tb.getD k 0);have hcv:eV tb k=Dyadic.ofIntWithPrec (og c:Int) 0*hp 8:=by unfold eV;rw[hc]
    have hcs:=Rb tb k;rw[hcv]at hst hcs;have abY:=Ra c;have nj:og c=if c.toNat=255 then 256 else c.toNat:=rfl
    have azp:c.toNat<=255:=by have:=c.toNat_lt;omega
    generalize og c=C at*;obtain⟨D,hD⟩:=az (Dyadic.ofIntWithPrec (C:Int) 0);have kY:Sm 9 D:=by rw[<-hD];exact ZW _ abY
    rw[hD]at hst hcs;obtain⟨F,hF⟩:=az (D*hp 8);rw[hF]at hst hcs;have nX:=λW (hW:aB W)=>Ao (C:Int) D hD W zo hW;have Cx:=λW (hW:aB W)=>Nu (au (dN D)) (nt (dN D).natAbs) (dE D) (-8) F (by rw[<-hF];exact Nv D 8) W (kY.fit zd).1 zd hW;have ua:(X.take (k+1)).flatMap aV=(X.take k).flatMap aV++(bu F):=hst;obtain⟨ajT,aku,bK⟩:=bL nX Cx ua;have hwc:IntKind.i64.wrap (c.toNat:Int)=(c.toNat:Int):=by rw[IntKind.wrap_i64];omega
    have Ci:=aj nj;clear hst ua hcv hcs hD kY hF nX Cx nj;have Hc:=aj hc;clear hc;have Hd:=Xc;have Hb:=hbz wr;obtain⟨ae,ai⟩:=qZ (Hd.an trivial);go_upto_if 26 with fail
    go_cut[7] (λs7 wx=>s7=af (c.toNat:Int)/\wr=wx);case first=>
     by_cases hkt:k<tn
     . have GQ:k<tb.length:=by rw[Ht.out];exact hkt
       obtain⟨b,o,hab,hcl⟩:=(Cy.out.below mX.out).elem (f:=λc:UInt8=>[Value.int .u8 (c.toNat:Int)]) (sz:=1) (λ_=>rfl) zd k GQ;have Ds:=hcl 0 zm;rw[Nat.mul_one,Nat.add_zero]at Ds;have cH:tb[k]=c:=by rw[<-Hc.out];simp[GQ]
       rw[cH]at Ds;have aU:=yJ tn tc k (k:Int) hab hkt rfl;rw[Nat.mul_one]at aU;clear hcl hab cH;go_wp2_with fail;go_meet;exact⟨rfl,rfl⟩
     . have GQ:¬k<tb.length:=by rw[Ht.out];exact hkt
       have hc0:c.toNat=0:=by rw[<-Hc.out,List.getD_eq_getElem?_getD,List.getElem?_eq_none zo];rfl
       go_wp2_with fail;go_meet;exact⟨by rw[hc0];rfl,rfl⟩
    case rest=>
     obtain⟨rfl,rfl⟩:=hcut;go_upto_if 33 with fail
     go_cut[7] (λs7 wx=>s7=af (C:Int)/\wr=wx);case first=>
      have nj:=Ci.out;by_cases h255:c.toNat=255
      . rw[if_pos h255]at nj;subst nj;have aql:((c.toNat:Int)==255)=true:=by rw[h255];rfl
        go_wp2_with fail;go_meet;exact⟨rfl,rfl⟩
      . rw[if_neg h255]at nj;subst nj;have aql:((c.toNat:Int)==255)=false:=by simp;omega
        go_wp2_with fail;go_meet;exact⟨rfl,rfl⟩
     obtain⟨rfl,rfl⟩:=hcut;have HU:Hid (aB wr):=HT.out.below mX.out;go_wp2_with fail;refine aK (Hb.an<|HU.an ae) (ajT.out _ HU.out) λw5 ae ai=>?_;go_wp2_with fail;refine aK ae (aku.out _ ae.2.1.out) λw6 ae ai=>?_;obtain⟨W7,Ay,aG,ae,ai⟩:=bO w6 ae 45 (bu F);have cj:=ownsRow_below Ho.out ae.2.1.out;have jd:=ae.2.1.out.size;have hnews:=fN ae.1.out;have xy:=ae.2.2.2.1;go_wp2_with (at_builtin;refine wpList_append_own_at _ rfl _ _ 63 rfl W.heap.size 45 i0 _ 3 32 Tryz.underlying63 Hi.out cm.out bR.out bZ.out rfl zd v k ((X.take k).flatMap aV) rfl cj ⟨w6.heap.size,0,none⟩ 1 1 (bu F) rfl rfl hnews zy zx zo zo ?_;intro v' w8 dX bj _ _);have gg:=(aC aP.out ae.2.1.out).grown bj zo (λj e=>cK cj j e);have hd8:=xy.out.row zd cj bj;rw[<-bK.out]at dX;obtain⟨jo,gS,Hd8⟩:=bL dX gg hd8;clear dX gg bj cj hnews hd8 xy;go_wp2;go_roundw;case rel=>exact⟨k+1,_,by omega,by go_num,rfl,jo.out,Hd8.out,gS.out⟩
     case measure=>exact bf
  . obtain rfl:k=n:=by omega
    have ho:=Ho.out;rw[List.take_of_length_le (by rw[ut.out];exact Nat.le_refl _)]at ho;obtain⟨a5,c5,rfl,hat,_⟩:=cz ho;have Hb:=mX;have eu:=aj hat;have Hd:=Xc;clear ho hat;obtain⟨ae,ai⟩:=qZ (Hd.an trivial);go_wp2_with fail;refine(lR.out _ a5 c5 Hb.out eu.out).mono ?_;rintro e w8 ⟨a2,c2,rfl,rE,ak⟩;obtain⟨ae,ai⟩:=qX ak (Hb.an ae);go_wp2;refine bodyPost_ret (results_tmp rfl _ _ _) rfl ⟨a2,c2,rfl,rE,ae.1.out⟩
def arJ (rows:List (List Raw))(V B:Nat)(a a':Option Addr)(cap cap':Nat)(tb:List UInt8)(ta:Option Addr)(tn tc:Nat)(w:World)(h1:1<=V)(h4:V<=4)(hr:Rw V B rows)(hB:B<=1000000)(ha:Tbl w a' rows)(ht:tb.length=tn)(je:At w ta (mU tb))(hT:aB w):
 Cl 33 #[.agg #[.slice a 0 cap,.slice a' (V+1) cap'],.slice ta tn tc] w λe w'=>∃(a2:Option Addr) (c2:Nat) (xs:List Raw),e=.returned (.slice a2 V c2)/\xs.length=V/\(∀x∈xs,Fit (B+40) x)/\gq V (dA rows) (eH xs)/\At w' a2 (xs.flatMap aV)/\Bw w w':=by
 obtain⟨i0,hi,hz0,hz1,hz2⟩:=info_parts Tryz.aBb;have h00:0<rows.length:=by have:=hr.1;omega
 obtain⟨b0,o0,a0,c0,gW,hc0,jO⟩:=ha.row 0 h00;have qw:=oC (V+1) cap' 0 0 gW zo rfl;simp only[Nat.zero_mul,Nat.add_zero]at qw;rw[Nat.add_zero]at hc0;have hl0:rows[0].length=V:=hr.2.1 _ (List.getElem_mem h00);have kj:∀x∈rows[0],Fit B x:=hr.2.2 _ (List.getElem_mem h00);have acD:gq V (dA rows) (eH rows[0]):=Uc h1 h4 _ (λk _=>(afJ rows 0 k h00).symm) (ael h1 h4 (dA rows) 0 zo)
 have hrow:=λj (hj:j<rows.length)=>(show rows[j].length=V/\(∀x∈rows[j],Fit B x)/\gq V (dA rows) (eH rows[j])from
  ⟨hr.2.1 _ (List.getElem_mem hj),hr.2.2 _ (List.getElem_mem hj),Uc h1 h4 _ (λk _=>(afJ rows j k hj).symm) (ael h1 h4 (dA rows) j (by have:=hr.1;omega))⟩)
 generalize hx0:rows[0]=p0 at*;rw[hl0]at hc0;have hmid:=λ(x y:Nat->Dyadic) (hx:gq V (dA rows) x) (hy:gq V (dA rows) y)=>arD h1 h4 (dA rows) (h:=hp 1) Il hx hy;have hcg:=λ(x y:Nat->Dyadic) (h:∀k,k<V->x k=y k) (hx:gq V (dA rows) x)=>Uc h1 h4 (dA rows) h hx;generalize gq V (dA rows)=IN at*;have uU:=je;rw[<-agy]at uU;have Mw:a0≠none:=by
  rintro rfl;rcases jO with h|⟨_,_,h,_⟩
  . have h9:=congrArg List.length h;rw[iE aV 3 (λ_=>rfl),hl0,List.length_nil]at h9;omega
  . cases h
 obtain⟨Hi,cm,bR,bZ,Ha,HL,xx,jT,jV,ET,ajd,sG⟩:=gL hi hz0 hz1 hz2 ha hr.1 hc0 jO hl0 kj acD hrow;obtain⟨Ph,JQ,Cy,HT,Ht,ajJ⟩:=gM hmid hcg uU hT ht Mw;have uX:=World.block_lt_of_cell? w _ hc0;simp only at uX;clear hi hz0 hz1 hz2 ha hr hc0 jO hl0 kj acD hrow hmid hcg je uU hT ht Mw gW hx0 h00;have hV0:((V:Int)+1==0)=false:=by simp;omega
 obtain⟨W,bX,ae,ai⟩:=fK w 27 [.slice a 0 cap,.slice a' (V+1) cap'];have qY:Hid (aQ W b0 o0 [.slice a0 V c0]):=λj hj=>by
  obtain rfl:j=0:=by simp at hj;omega
  exact cell_later ae.1.out xx.out
 obtain⟨ae,ai⟩:=qZ (qY.an ae);have x00:W.cell? ⟨b0,o0,none⟩=some (.slice a0 V c0):=ae.1.out.cell 0 zm;have lbW:b0<W.heap.size:=World.block_lt_of_cell? W _ x00;have rZ:=ae.2.1;have zK:=ae.2.2.1;have hWz:w.heap.size<W.heap.size:=zK.out.lt;go_enter Tryz.func33,Tryz.ntmps33;go_wp2_with (at_builtin;refine VR rfl _ _ 63 rfl W.heap.size 45 i0 _ 3 32 Tryz.underlying63 Hi.out cm.out bR.out bZ.out rfl zd _ 0 [] rfl (World.ownsRow_made W #[] 0 (Nat.le_refl _) (Nat.zero_le _) zm) a0 V c0 (p0.flatMap aV) rfl (λe=>absurd e ajJ.out) (by rw[iE aV 3 (λ_=>rfl),jV.out]) (jT.out.below (aC rZ.out ((Below.refl _ W).alloc (Nat.le_refl _) _))) (Ej _) zx zo zm ?_;intro v1 w2 cV hg1 wI);rw[Nat.zero_add,List.nil_append]at cV;have hb1:=((Below.refl _ W).alloc (Nat.le_refl _) (.cells #[] 45)).grown hg1 zm (λk hk=>by have h9:W.heap.size=k:=Option.some.inj hk;omega);obtain⟨g,cq,rfl,_⟩:=rO cV h1;have hgb:=xe cV;obtain⟨vE,bY,pS⟩:=bL (zK.out.below hb1) (aC rZ.out hb1) cV;clear cV hb1 hg1 wI;have hbase:W.heap.size<=g:=hgb.1;go_wp2_with fail;go_loopw[9] (λx wr=>∃(i:Nat) (xs:List Raw),i<=12/\i<=tn/\x=af (i:Int)/\xs.length=V/\(∀y∈xs,Fit (B+3*i) y)/\IN (eH xs)/\wr.ownsRow W.heap.size 45 3 (.slice (some ⟨g,0,none⟩) V cq) V (xs.flatMap aV)/\ar wr w.heap.size 27 [.slice a 0 cap,.slice a' (V+1) cap']/\Bw w wr) (λx _=>12-(intOf x).toNat);case atStart=>exact⟨0,p0,by omega,Nat.zero_le _,rfl,jV.out,ET.out,ajd.out,pS.out,vE.out,bY.out⟩
 case round=>
  clear pS vE bY;obtain⟨i,xs,azu,hit,rfl,hxl,pE,adW,ho,hd,pb⟩:=hrel;obtain⟨Yt,Yq,Yr,Ho,Hd,Hb⟩:=gM hxl pE adW ho hd pb;clear hxl pE adW ho hd pb;by_cases hlt:i<tn/\i<12
  rotate_left
  . have nV:Hid (∀y∈xs,Fit (B+40) y):=λy hy=>(Yq.out y hy).mono zo;have eu:Hid (At wr (some ⟨g,0,none⟩) (xs.flatMap aV)):=by obtain⟨a9,c9,e9,h9,_⟩:=cz Ho.out;simp only[Value.slice.injEq,true_and]at e9;obtain⟨rfl,rfl⟩:=e9;exact h9
    rcases(show ¬i<tn\/(i<tn/\¬i<12)by omega)with h2|⟨h2,h3⟩;all_goals
     go_wp2
     refine bodyPost_ret (results_tmp rfl _ _ _) rfl ⟨_,_,xs,rfl,Yt.out,nV.out,Yr.out,eu.out,Hb.out⟩
  obtain⟨h2,h3⟩:=hlt;have h3d:decide ((i:Int)<12)=true:=by rw[decide_eq_true_eq];omega
  have GQ:i<tb.length:=by rw[Ht.out];exact h2
  obtain⟨b1,o1,eJ,hcl⟩:=(Cy.out.below Hb.out).elem (f:=λc:UInt8=>[Value.int .u8 (c.toNat:Int)]) (sz:=1) (λ_=>rfl) zd i GQ;have Ds:=hcl 0 zm;rw[Nat.mul_one,Nat.add_zero]at Ds;obtain⟨c,hc⟩:=az (tb[i].toNat);have abY:c<=255:=by have:=tb[i].toNat_lt;omega
  have ab5:wr.cell? ⟨b1,o1+i,none⟩=some (.int .u8 (c:Int)):=by rw[Ds,<-hc];rfl
  have pp:=yJ tn tc i (i:Int) eJ h2 rfl;rw[Nat.mul_one]at pp;have hwc:IntKind.i64.wrap (c:Int)=(c:Int):=by rw[IntKind.wrap_i64];omega
  obtain⟨j,hj⟩:=az (c% (V+1));have hjV:j<V+1:=by rw[<-hj];exact Nat.mod_lt _ zo
  have TB:(c:Int).tmod ((V:Int)+1)=(j:Int):=by rw[<-hj];exact(Int.ofNat_tmod c (V+1)).symm
  have hVn:¬(V:Int)+1=0:=by omega
  have GN:j<rows.length:=by rw[HL.out];exact hjV
  obtain⟨b3,o3,a3,c3,ya,hc3,tH⟩:=Ha.out.row j GN;have SI:=oC (V+1) cap' j (j:Int) ya hjV rfl;rw[Nat.mul_one]at SI;obtain⟨hrl,hrf,ads⟩:=sG.out j GN;rw[hrl]at hc3;generalize rows[j]=R at*;have Hy:Hid (aQ wr b1 (o1+i) [.int .u8 (c:Int)]):=λq hq=>by
   obtain rfl:q=0:=by simp at hq;omega
   exact ab5
  have Hp:Hid (aQ wr b3 (o3+j) [.slice a3 V c3]):=λq hq=>by
   obtain rfl:q=0:=by simp at hq;omega
   exact cell_later Hb.out hc3
  obtain⟨HR,Hrl,Hrf,akn⟩:=cE tH hrl hrf ads;clear hcl Ds ab5 hc eJ ya hc3 tH hrl hrf ads hj;obtain⟨wo,hwo⟩:∃u,u=wr:=⟨_,rfl⟩;subst hwo;obtain⟨ae,ai⟩:=qZ (Hd.an<|Hy.an<|Hp.an trivial);go_wp2_with fail;refine df 999 ae (cQ 14 0x1b19171513110f0d0b0907050301) ?_;refine bC ?_;refine cZ ae λai=>?_;have iM:Bw wo wo.drew:=(Below.refl _ _).drew;have hd:=ae.1.out.below iM;have hb:=aC Hb.out iM;have ho:=ownsRow_below Ho.out iM;generalize wo.drew=wd at iM hd hb ho⊢;obtain⟨Wj,Wi,Ca⟩:=bL hd hb ho;clear iM hd hb ho ae ai Ho;go_wp2_with fail;go_loopw[11] (λx wr=>∃(k:Nat) (ys:List Raw),k<=V/\x=af (k:Int)/\ys.length=V/\(∀q (h:q<ys.length),k<=q->Fit (B+3*i) ys[q])/\(∀q (h:q<ys.length),q<k->Fit (B+3* (i+1)) ys[q])/\(∀q,q<V->eH ys q=if q<k then(eH xs q+eH R q) *hp 1 else eH xs q)/\wr.ownsRow W.heap.size 45 3 (.slice (some ⟨g,0,none⟩) V cq) V (ys.flatMap aV)/\ar wr w.heap.size 27 [.slice a 0 cap,.slice a' (V+1) cap']/\Bw w wr) (λx _=>V-(intOf x).toNat);case atStart=>exact⟨0,xs,Nat.zero_le _,rfl,Yt.out,λq h _=>Yq.out _ (List.getElem_mem h),λq _ h=>absurd h (Nat.not_lt_zero _),λq _=>by rw[if_neg (Nat.not_lt_zero _)],Ca.out,Wj.out,Wi.out⟩
  case round=>
   clear Wj Wi Ca;obtain⟨k,ys,hk,rfl,hyl,hy1,hy2,hy3,ho,hd,pb⟩:=hrel;obtain⟨FD,kN,kO,Qc,Ho,Hd,eW⟩:=jx hyl hy1 hy2 hy3 ho hd pb;clear hyl hy1 hy2 hy3 ho hd pb;by_cases hkV:k<V
   . have DG:k<ys.length:=by rw[FD.out];exact hkV
     have DF:k<R.length:=by rw[Hrl.out];exact hkV
     obtain⟨s,m,e,hx⟩:=oP (ys[k]);obtain⟨t,l,f,hx2⟩:∃t l f,R[k]=(t,l,f):=⟨_,_,_,rfl⟩;have hwx:=auf Ho.out k DG hx;obtain⟨b4,o4,abA,p0,p1,p2⟩:=(HR.out.below eW.out).num k DF hx2;have aqD:=qI V cq k (k:Int) (rfl:(some ⟨g,0,none⟩:Option Addr)=_) hkV rfl;simp only[Nat.zero_add]at aqD;have azv:=qI V c3 k (k:Int) abA hkV rfl;have dz:Fit (B+3*i) (s,m,e):=by rw[<-hx];exact kN.out k DG (Nat.le_refl _)
     have iF:Fit (B+3*i) (t,l,f):=by rw[<-hx2];exact(Hrf.out _ (List.getElem_mem DF)).mono zo
     obtain⟨S,hS⟩:=az (dval (s,m,e)+dval (t,l,f));have uP:Sm (B+3*i+1) S:=by rw[<-hS];exact Sm.add dz.2 iF.2
     obtain⟨H,hH⟩:=az (S*hp 1);have hHs:Sm (B+3* (i+1)) H:=by rw[<-hH];exact(Sm.mul uP (MD 1)).mono zo
     have hval:(eH xs k+eH R k) *hp 1=H:=by have h9:=Qc.out k hkV;rw[if_neg (Nat.lt_irrefl k),BW ys k DG,hx]at h9;rw[<-h9,BW R k DF,hx2,hS,hH]
     have Cx:=aj λW (hW:aB W)=>Nu (au (dN S)) (nt (dN S).natAbs) (dE S) (-1) H (by rw[<-hH];exact Nv S 1) W (uP.fit zo).1 zd hW;obtain⟨HS,HHs,akL,EU,HfR⟩:=dY hS hHs hval dz iF;have Hx:Hid (aQ wr g (k*3) [ag s,ah m,af e]):=hwx;have Hy:Hid (aQ wr b4 (o4+k*3) [ag t,ah l,af f]):=jm p0 p1 p2;have Dz:g<wr.heap.size:=(xe Ho.out).2;clear hwx abA p0 p1 p2 dz iF hS uP hH hHs hval hx hx2;have Hb:=hbz wr;obtain⟨ae,ai⟩:=qZ (Hx.an<|Hy.an trivial);have HU:Hid (aB wr):=HT.out.below eW.out;go_wp2_with fail;obtain⟨Hx,Hy,_⟩:=ae;obtain⟨x0,x1,x2⟩:=Hx.out.w3;obtain⟨y0,y1,y2⟩:=Hy.out.w3;refine fx (λw'=>aJ w' g (k*3) (ag s)/\aJ w' g (k*3+1) (ah m)/\aJ w' g (k*3+2) (af e)/\aJ w' b4 (o4+k*3) (ag t)/\aJ w' b4 (o4+k*3+1) (ah l)/\aJ w' b4 (o4+k*3+2) (af f)) (λi=>Nat.blt i 14) [(0,true),(1,true),(2,true),(3,true),(4,true),(5,true),(6,true),(7,true),(8,true),(9,true),(10,false),(11,false),(12,false),(13,true),(14,false)] zk zk rfl zk zc ⟨x0,x1,x2,y0,y1,y2⟩ ?_;iterate 10 (refine pT rfl rfl ?_ (by intro w' ⟨q0,q1,q2,q3,q4,q5⟩;go_simp;try with_reducible rfl);try simp only[UU])
     refine aN rfl rfl (λK hK=>?_);go_simp;refine hK _ _ (λ_=>⟨aM x0,aM x1,aM x2,aM y0,aM y1,aM y2⟩) ?_;try simp only[UU]
     refine cg (λW5=>ar W5 (wr.heap.size) 45 [ag s,ah m,af e,ag t,ah l,af f]/\Bw wr W5) (by first|exact iw|exact iy) ?_;rintro W5 ⟨qu,ak⟩;replace Hx:=kW Hx ak;replace Hy:=kW Hy ak;replace HU:=kT HU ak;have Hu:=aj qu;clear qu;obtain⟨x0,x1,x2⟩:=Hx.out.w3;obtain⟨y0,y1,y2⟩:=Hy.out.w3;obtain⟨u0,u1,u2,u3,u4,u5⟩:=Hu.out.c6;replace Hb:=bg Hb ak;refine aN rfl rfl (λK hK=>?_);go_simp;with_reducible refine(xQ s m e t l f S (B+3*i) HS.out wr.heap.size _ 45 _ EU.out HfR.out zo Hu.out (by first|exact HU.out|exact aB.drew HU.out|exact aB.alloc HU.out _|exact aB.drew (aB.alloc HU.out _) |exact aB.alloc (aB.drew HU.out) _)).mono ?_
     rintro e w6 ⟨rfl,hq⟩;have ak:Bw W5 w6:=by first|exact hq|exact cS hq
     replace Hx:=kW Hx ak;replace Hy:=kW Hy ak;replace HU:=kT HU ak;obtain⟨Hu,u0,u1,u2,u3,u4,u5⟩:=MV Hu ak;obtain⟨x0,x1,x2⟩:=Hx.out.w3;obtain⟨y0,y1,y2⟩:=Hy.out.w3;replace Hb:=bg Hb ak;refine hK _ _ (λ_=>⟨x0,x1,x2,y0,y1,y2⟩) ?_;try simp only[UU]
     refine aN rfl rfl (λK hK=>?_);go_simp;with_reducible refine(Cx.out _ (by first|exact HU.out|exact aB.drew HU.out|exact aB.alloc HU.out _|exact aB.drew (aB.alloc HU.out _) |exact aB.alloc (aB.drew HU.out) _)).mono ?_
     rintro e w7 ⟨rfl,hq⟩;have ak:Bw w6 w7:=by first|exact hq|exact cS hq
     replace Hx:=kW Hx ak;replace Hy:=kW Hy ak;replace HU:=kT HU ak;obtain⟨Hu,u0,u1,u2,u3,u4,u5⟩:=MV Hu ak;obtain⟨x0,x1,x2⟩:=Hx.out.w3;obtain⟨y0,y1,y2⟩:=Hy.out.w3;replace Hb:=bg Hb ak;refine hK _ _ (λ_=>⟨x0,x1,x2,y0,y1,y2⟩) ?_;try simp only[UU]
     refine pT rfl rfl ?_;try simp only[UU]
     refine aN rfl rfl (λK hK=>?_);have hov:=ownsRow_below Ho.out Hb.out;have Da:=mP hov (k*3);have xV:=mP hov (k*3+1);have Gh:=mP hov (k*3+2);obtain⟨dv,xy,rY⟩:=bL hov (Hd.out.below Hb.out) (aC eW.out Hb.out);clear hov;go_simp;refine hK _ _ (λh=>absurd h zd) ?_;try simp only[UU]
     iterate 0 skip
     simp only[bE];go_wp2;go_roundw;case rel=>
      have eZ:=jS (jS (jS dv.out (k*3) (ag (au (dN H)))) (k*3+1) (ah (nt (dN H).natAbs))) (k*3+2) (af (dE H));have e9:(((ys.flatMap aV).set (k*3) (ag (au (dN H)))).set (k*3+1) (ah (nt (dN H).natAbs))).set (k*3+2) (af (dE H))=(ys.set k (canon H)).flatMap aV:=atK ys k (canon H);rw[e9]at eZ;refine⟨k+1,ys.set k (canon H),by omega,by go_num,by rw[List.length_set];exact FD.out,λq h hq=>?_,λq h hq=>?_,λq hq=>?_,eZ,((xy.out.so g (k*3) zo _).so g (k*3+1) zo _).so g (k*3+2) zo _,((rY.out.setCell zp _).setCell zp _).setCell zp _⟩
      . rw[List.getElem_set_ne zo];exact kN.out q (by rw[List.length_set]at h;exact h) zo
      . by_cases hqk:k=q
        . subst hqk;rw[List.getElem_set_self];exact HHs.out.fit zo
        . rw[List.getElem_set_ne hqk];exact kO.out q (by rw[List.length_set]at h;exact h) zo
      . have hqy:q<ys.length:=by rw[FD.out];exact hq
        rw[BW _ q (by rw[List.length_set];exact hqy)];by_cases hqk:k=q
        . subst hqk;rw[List.getElem_set_self,if_pos zo,bA];exact akL.out.symm
        . rw[List.getElem_set_ne hqk,<-BW ys q hqy,Qc.out q hq];by_cases h9:q<k
          . rw[if_pos h9,if_pos zo]
          . rw[if_neg h9,if_neg zo]
     case measure=>exact bf
   . obtain rfl:k=V:=by omega
     have hf9:∀y∈ys,Fit (B+3* (i+1)) y:=λy hy=>by obtain⟨q,hq,rfl⟩:=List.mem_iff_getElem.1 hy;exact kO.out q hq (by rw[FD.out]at hq;exact hq)
     have acE:IN (eH ys):=JQ.out _ _ (λq hq=>by rw[Qc.out q hq,if_pos hq]) (Ph.out _ _ Yr.out akn.out);obtain⟨OE,aje⟩:=aI hf9 acE;clear hf9 acE;go_wp2;go_roundw;case rel=>exact⟨i+1,ys,by omega,by omega,by go_num,FD.out,OE.out,aje.out,Ho.out,Hd.out,eW.out⟩
     case measure=>exact bf
def arF {bx:List (Raw×Raw)}{tb:List UInt8}{xs:List Raw}(h:iV (bx.map bH)=0)(hx:xs=(List.range bx.length).map λk=>canon (vh bx (sZ tb bx.length) k)):Ed (bx.map bH) (eH xs):=λk hk=>by
 have hi:k<bx.length:=by simpa using hk
 have hlt:=(Zi h).2 (bH bx[k]) (List.mem_map.2 ⟨_,List.getElem_mem hi,rfl⟩);have hid:=afm hlt;have hle:(bH bx[k]).1<=(bH bx[k]).2:=by have:=(sX _).1 hlt;grind
 have hg:(bx.map bH).getD k (0,0)=bH bx[k]:=by simp[hi]
 have hX:eH xs k=(bH bx[k]).1+eV tb k* ((bH bx[k]).2-(bH bx[k]).1):=by
  rw[BW xs _ (by rw[hx];simpa using hi)];have e1:xs[k]'(by rw[hx];simpa using hi)=canon (vh bx (sZ tb bx.length) k):=by subst hx;simp
  rw[e1,bA];unfold vh;rw[show bx.getD k default=bx[k]by simp[hi],hid];have e2:(sZ tb bx.length).getD k default=canon (eV tb k):=by unfold sZ;simp[hi]
  rw[e2,bA];unfold um;rw[hid]
 have hs:=awb _ _ _ hle (ZX tb k).1 (ZX tb k).2;rw[hg,hX];constructor<;>grind
def YA (d:DmR)(w:World)(e:Ending)(w':World):Prop:=
 ∃(a2:Option Addr) (c2:Nat) (xs:List Raw),e=.returned (.slice a2 (cO d.1.length d.2.length) c2)/\xs.length=cO d.1.length d.2.length/\(∀x∈xs,Fit 2000 x)/\iI d (eH xs)/\At w' a2 (xs.flatMap aV)/\Bw w w'
def arH (d:DmR)(n m:Nat)(a a':Option Addr)(cap cap':Nat)(tb:List UInt8)(ta:Option Addr)(tn tc:Nat)(w:World)(hn:d.1.length=n)(hm:d.2.length=m)(hb:At w a (d.1.flatMap spC))(ha:Tbl w a' d.2)(hf:iT 312 d)(jc:m<=5)(ht:tb.length=tn)(je:At w ta (mU tb))(hT:aB w)(hc:fZ d):
 Cl 33 #[.agg #[.slice a n cap,.slice a' m cap'],.slice ta tn tc] w (YA d w):=by
 obtain⟨bx,rows⟩:=d;rcases sU hc hf zo with⟨q,Tx,ni,yx,hm2,hct⟩ |⟨hrows,dV,DK,hcb⟩
 . simp only at ni hm2 hn hm hct ha;subst ni;have SY:m=q+1+1:=by omega
   obtain rfl:n=0:=hn.symm;subst SY;refine(arJ rows (q+1) 312 a a' cap cap' tb ta tn tc w zo Tx yx zd ha ht je hT).mono ?_;rintro e w' ⟨a2,c2,xs,rfl,h1,h2,h3,h4,h5⟩;have hV:cO ([]:List (Raw×Raw)).length rows.length=q+1:=by unfold cO;rw[hm,if_pos zo];omega
   refine⟨a2,c2,xs,by rw[hV],by rw[hV];exact h1,λx hx=>(h2 x hx).mono zd,?_,h4,h5⟩;unfold iI;rw[if_pos (by show 0<rows.length;omega),show rows.length-1=q+1 by omega];exact h3
 . simp only at hrows dV DK hn hm hcb hb;subst hrows;obtain rfl:m=0:=hm.symm;refine(arI bx n 0 312 a a' cap cap' tb ta tn tc w hn zo zo hf.1 zd zd hb ht je hT).mono ?_;rintro e w' ⟨a2,c2,rfl,h4,h5⟩;subst hn;refine⟨a2,c2,_,rfl,by simp[cO],λx hx=>?_,?_,h4,h5⟩
   . obtain ⟨k,hk,rfl⟩:=List.mem_map.1 hx;have hk2:=List.mem_range.1 hk;have hs:=hf.1 _ (List.getElem_mem hk2);have ho:=rN (p:=bH bx[k]) ⟨hs.1.2,hs.2.2⟩;have hs2:Sm 600 (vh bx (sZ tb bx.length) k):=by
      unfold vh;rw[show bx.getD k default=bx[k]by simp[hk2]];have e2:(sZ tb bx.length).getD k default=canon (eV tb k):=by unfold sZ;simp[hk2]
      rw[e2,bA];exact(Sm.add (ho.1.mono (show 312<=400 by decide)) ((Sm.mul (Rb tb k) (agO ho)).mono zd)).mono zd
     exact(hs2.mono zd).fit zd
   . unfold iI;rw[if_neg (by show ¬0<([]:List (List Raw)).length;decide)];exact arF hcb rfl
end Go.Proofs.YtpfgffadgkkedaaGreatDoor
