/- Package cert: holds. -/
import Derived.Test.YtpfgffadgkkedaaGreatDoorZ7
import Derived.Test.YtpfgffadgkkedaaGreatDoorZ33
import Derived.Test.YtpfgffadgkkedaaGreatDoorZ39
import Derived.Test.YtpfgffadgkkedaaGreatDoorZ31
import Derived.Test.YtpfgffadgkkedaaGreatDoorZ22
import Derived.Test.YtpfgffadgkkedaaGreatDoorZ30
import Derived.Test.YtpfgffadgkkedaaGreatDoorZ13
import Derived.Test.YtpfgffadgkkedaaGreatDoorZ19
import Derived.Test.YtpfgffadgkkedaaGreatDoorZ27
set_option linter.all false
set_option maxRecDepth 100000
set_option maxHeartbeats 16000000
namespace Go.Proofs.YtpfgffadgkkedaaGreatDoor
open Go.RowKit
attribute [local go_sem ↓] Go.wp_at_zero Go.wp_at_succ
def amR (sp:Int)(s:Bool)(m:List UInt8)(e V:Int)(a:Option Addr)(n c:Nat)(q:List Trm)(Vp:Nat)(ap:Option Addr)(np cp:Nat)(P:List Trm)(d:DmR)(dn dm:Nat)(da gU:Option Addr)(dc gV:Nat)(F:Bool)(w:World)
 (hn:q.length=n) (aZ:n<=4096) (hs:Sl a n c) (hat:At w a (q.flatMap aH)) (hq:∀t∈q,t.1.length<=1000/\Fit 192 t.2/\degN t.1<=5) (hsc:Fit 192 (s,m,e))
 (kr:P.length=np) (hP:dL Vp 192 P) (hap:vO w ap cp P) (fF:d.1.length=dn) (fE:d.2.length=dm) (hb:At w da (d.1.flatMap spC)) (ha:Tbl w gU d.2) (hf:iT 312 d) (hd:fZ d) (jc:dm<=5) (hcap:dm<=gV) (tC:cO dn dm<=4) (hT:aB w) (hF:pH (s,m,e) V q Vp P d=F):
 Cl 92 #[.agg #[af sp,ag s,ah m,af e,af V,.slice a n c],.agg #[af (Vp:Int),.slice ap np cp],.agg #[.slice da dn dc,.slice gU dm gV]] w
  λe w'=>(e=.returned (ag F)/\(F=true->∀X,iI d X->(Vp:Int)=(cO dn dm:Int)/\0<bG (fp X (cO dn dm)) P))/\Bw w w':=by
 obtain⟨hV1,xZ,ay1⟩:=anG hd hf zo;have acd:dn<=1000:=by
  rcases sU hd hf zo with⟨_,_,h,_⟩ |⟨_,_,h,_⟩
  . rw[h]at fF;simp at fF;omega
  . omega
 have hpos:=λhfl hF9 X (hX:iI d X)=>ar7 (B:=312) (C:=1593) (K:=1618) (X:=X) zd hd hf zo (by rw[fF,fE];exact tC) hfl (λt ht=>(hq t ht).2.2) (hF.trans hF9) hX;have hsub:=λhfl=>ZA (B:=312) (C:=1593) (K:=1618) zd hd hf zo (by rw[fF,fE];exact tC) hfl;have XH:=aj λW (hW:Bw w W)=>aeC d.1 d.2 dn dm 312 da gU dc gV 0 W fF fE (hb.below hW) (ha.below hW) hf.1 hf.2 zd zd acd jc hcap (hT.below hW) (by rw[<-fF,<-fE];exact hd);have vG:=aj λW (hW:Bw w W)=>aoT V a n c q W hn aZ (hat.below hW) (hT.below hW) (λt ht=>⟨(hq t ht).1,(hq t ht).2.1.1⟩);obtain⟨D,hD⟩:=az (dval (s,m,e));have uz:=aj λW (hW:Bw w W)=>afU Vp ap cp P s m e D 192 W hP ⟨hap.1.below hW,hap.2⟩ hsc zd (hT.below hW) hD;obtain⟨S,hS⟩:=az (bi (dval (s,m,e)));have jE:=aj λW=>oc s m e S hS W hsc.1;have hPS:(aS (cC D P)).length<=65536:=by
  have h1:=kQ (cC D P);have h2:(cC D P).length=P.length:=by unfold cC;rw[List.length_map]
  have h3:=hP.1.2.2.1;omega
 unfold pH at hF;unfold Qf at XH;rw[fF,fE]at*;rw[hS,hD]at hF;rw[kr]at uz;have AL:=λ(la:Option Addr) (lc:Nat) (ps:List Pv) (hok:SubOk (cO dn dm) (gu dn dm) 5 1593 1618 5 (jf d.1 d.2)) (hpl:ps.length=gu dn dm) (W:World) (hW:Bw w W) (fq:At W la (ps.flatMap ic)) (hls:fC W (cO dn dm) (5*312+33) ps (jf d.1 d.2))=>aoQ (cO dn dm) (gu dn dm) 5 1593 1618 5 192 12000 (jf d.1 d.2) ps la lc hok hV1 zo zo zd zd hpl xZ zo V a n c q W hn aZ hs (hat.below hW) fq (hls.more zd) (hT.below hW) hq
 have hfit:=λ(hok:SubOk (cO dn dm) (gu dn dm) 5 1593 1618 5 (jf d.1 d.2)) (hp:gj V q=0) (hL:(gu dn dm:Int)=V)=>(by
  subst hL;have hpo:=Er hp
  exact(hok.aBr (A:=192) (B:=12000) zo (Nat.le_refl _) (λt ht=>by rw[Ve t.1 _ (Bp (hpo.2.1 t ht))];exact(hq t ht).2.2) (λt ht=>(hq t ht).2.1.2) zo zd).1.2.2.1:(dP (cO dn dm) (jf d.1 d.2) (gu dn dm) (gu dn dm) q).length<=4096)
 have ad9:=λ(h:vp V q (gu dn dm)=0)=>afR h;generalize apN:aS (cC D P)=PS at*;generalize jf d.1 d.2=l at*;generalize cO dn dm=W1 at*;generalize gu dn dm=L at*;obtain⟨cs,hcs⟩:=az (vp V q L);obtain⟨PE,hPE⟩:=az (dP W1 l L L q);obtain⟨G,hG⟩:=az (uJ V q);simp only[hcs,hPE,hG]at*;unfold Qm at AL;obtain⟨HF,aj7,PK,OD,xz,ak5,HPS⟩:=jx hF hpos hsub AL hfit ad9 hPS;clear hn aZ hs hat hq hsc kr hP hap fF fE hb ha hf hd jc hcap tC hT hF hpos hsub AL hfit ad9 hPS hcs hPE hG hS hD acd apN;have Hb:=hbz w;go_enter Tryz.func92,Tryz.ntmps92;go_wp2_with fail;refine BL w (Hb.an trivial) 127 [af sp,ag s,ah m,af e,af V,.slice a n c] 41 [af (Vp:Int),.slice ap np cp] 27 [.slice da dn dc,.slice gU dm gV] λW aG ae ai=>?_;go_wp2_with fail;refine aK ae (jE.out _) λw1 ae ai=>?_;by_cases oW:0<S
 rotate_left
 . have hS1:S<=0:=by omega
   have hF2:=HF.out;rw[decide_eq_false oW,Bool.false_and]at hF2;subst hF2;go_wp2;refine bodyPost_ret (results_tmp rfl _ _ _) rfl ⟨⟨rfl,λh=>by cases h⟩,ae.2.2.2.1.out⟩
 have hS1:¬S<=0:=by omega
 go_wp2_with fail;refine aK ae (vG.out _ ae.2.2.2.1.out) λw2 ae ai=>?_;cases G with
 |false=>have hF2:=HF.out;rw[Bool.false_and,Bool.and_false]at hF2;subst hF2;go_wp2;refine bodyPost_ret (results_tmp rfl _ _ _) rfl ⟨⟨rfl,λh=>by cases h⟩,ae.2.2.2.1.out⟩
 | true=>
   have hF2:=HF.out;rw[decide_eq_true oW,Bool.true_and,Bool.true_and]at hF2;have vB:=aj hF2;clear hF2;go_wp2_with fail;refine(XH.out _ ae.2.2.2.1.out).mono ?_;rintro e w3 ⟨la,k,lc,rfl,_,heq,ak⟩;obtain⟨ae,ai⟩:=qX ak ae;obtain⟨ps,mE,hlc,hpl,tH,Tu⟩:=heq (by trivial);obtain rfl:L=k:=mE.symm;have hfl:∀k,k<L->dL W1 1593 (l k):=λk hk=>by obtain⟨_,_,_,_,h9⟩:=Tu k (by rw[hpl];exact hk);exact h9
   obtain⟨kK,xG,lR⟩:=bL (PK.out hfl) (aj7.out hfl) hpl;have HA:Hid (At w3 la (ps.flatMap ic)):=tH;have HB:Hid (fC w3 W1 (5*312+33) ps l):=Tu;clear heq tH Tu hpl hfl;go_wp2_with fail;refine(uz.out _ ae.2.2.2.1.out).mono ?_;rintro e w4 ⟨a4,c4,rfl,tX,ak⟩;obtain⟨ae,ai⟩:=qX ak (HA.an<|HB.an ae);have HE:Hid (aW w4 a4 c4 PS):=tX;clear tX;obtain⟨W5,wm,aG,ae,ai⟩:=bO w4 (HE.an ae) 41 [af (Vp:Int),.slice a4 PS.length c4];go_wp2_with fail;refine(OD.out la lc ps kK.out lR.out _ ae.2.2.2.2.2.2.2.1.out ae.2.2.1.out ae.2.2.2.1.out).mono ?_;rintro e w6 ⟨v,a6,n6,c6,rfl,h6,ak⟩;obtain⟨ae,ai⟩:=qX ak ae;by_cases hs0:cs=0
   rotate_left
   . have hF2:=vB.out;rw[decide_eq_false hs0,Bool.false_and]at hF2;subst hF2;have lu:(cs==0)=false:=by simpa using hs0
     clear h6;obtain⟨W7,Ay,aG,ae,ai⟩:=bO w6 ae 41 [af v,.slice a6 n6 c6];go_wp2;refine bodyPost_ret (results_tmp rfl _ _ _) rfl ⟨⟨rfl,λh=>by cases h⟩,ae.2.2.2.2.2.2.2.2.1.out⟩
   subst hs0;obtain⟨cj,DK,yu⟩:=h6 rfl;obtain⟨hp0,pZ⟩:=ak5.out rfl;have hl6:=xz.out kK.out hp0 pZ;subst cj DK;have HU:Hid (aW w6 a6 c6 PE):=yu;clear h6 yu hp0 pZ;obtain⟨W7,Ay,aG,ae,ai⟩:=bO w6 (HU.an ae) 41 [af (W1:Int),.slice a6 PE.length c6];have hF2:=vB.out;rw[decide_eq_true rfl,Bool.true_and]at hF2;have Kn:=aj λW (h1:aW W a4 c4 PS) (h2:aW W a6 c6 PE)=>auL (Vp:Int) (W1:Int) PS PE PS.length PE.length a4 a6 c4 c6 F W rfl rfl HPS.out zo h1.1 h2.1 hF2;clear hF2 hl6;go_wp2_with fail;refine aK ae (Kn.out _ ae.2.2.2.1.out ae.2.1.out) λw8 ae ai=>?_;go_wp2;refine bodyPost_ret (results_tmp rfl _ _ _) rfl ⟨⟨rfl,λh X hX=>xG.out h X hX⟩,ae.2.2.2.2.2.2.2.2.2.1.out⟩
def Qh (ns:List Nd)(qs:Nat->List Trm):Prop:=∀k (h:k<ns.length),k<50->Fit 192 ns[k].sc/\(qs k).length<=4096/\∀t∈qs k,t.1.length<=1000/\Fit 192 t.2/\degN t.1<=5
def NM (A:Int×Int)(D:DmR)(Vp:Int)(P:List Trm)(w:World)(e:Ending)(w':World):Prop:=
 e=.returned (.tuple #[af A.1,af A.2])/\(A.2=0->gj Vp P=0/\fZ D/\∀X,iI D X->Vp=(cO D.1.length D.2.length:Int)/\0<bG (fp X (cO D.1.length D.2.length)) P)/\Bw w w'
def an2 {S:Nat->Bool}{n:Nat}{c:Int}(h:sW S n c=0):c=0/\un S n=true:=by
 unfold sW at h;by_cases h1:c=0
 . rw[if_pos h1]at h;cases hk:un S n with
   |true=>exact⟨h1,rfl⟩
   |false=>rw[hk]at h;cases h
 . rw[if_neg h1]at h;exact absurd h h1
def asn {d:DmR}{B:Nat}(h:fZ d)(hf:iT B d)(h5:d.2.length<=5)(h4:d.1.length<=4\/7<=d.1.length):cO d.1.length d.2.length<=4:=by
 unfold cO;rcases sU h hf h5 with⟨q,hq,_,_,hm,_⟩ |⟨hr,h1,h6,_⟩
 . rw[if_pos zo];omega
 . rw[hr,List.length_nil,if_neg (Nat.lt_irrefl 0)];omega
def Zb (S:Nat->Bool)(ns:List Nd)(qs:Nat->List Trm)(n cap:Nat)(a:Option Addr)(Vp:Int)(ap:Option Addr)(np cp:Nat)(P:List Trm)(D:DmR)(dn dm:Nat)(da gU:Option Addr)(dc gV:Nat)(c:Int)(G:Nat->Bool)(A:Int×Int)(w:World)
 (hn:ns.length=n) (hS:∀k (h:k<ns.length),S k=(ns[k].sp !=0)) (uM:n<=40\/4096<n) (hat:At w a (ns.flatMap oD)) (tY:vN w ns qs) (hall:Qh ns qs)
 (kr:P.length=np) (hP:∀t∈P,t.1.length<=1000/\Fit 192 t.2) (My:np<=1048576) (hsp:Sl ap np cp) (hap:At w ap (P.flatMap aH))
 (fF:D.1.length=dn) (fE:D.2.length=dm) (hs:Sl da dn dc) (hb:At w da (D.1.flatMap spC)) (ha:Tbl w gU D.2) (hf:iT 192 D) (Sz:dn<=4\/7<=dn) (dV:dn<=1000) (jc:dm<=5) (hcap:dm<=gV) (hT:aB w)
 (hc:rz dn dm (iV (D.1.map bH)) (jA D.2)=c) (hG:∀i (h:i<ns.length),S i=false->G i=pH ns[i].sc ns[i].V (qs i) Vp P ((bT S D i).1.getLastD default)) (hA:uG (gj Vp P) (sW S n c) S G n=A):
 Cl 32 #[.slice a n cap,.agg #[af Vp,.slice ap np cp],.agg #[.slice da dn dc,.slice gU dm gV]] w (NM A D Vp P w):=by
 have KD:=aj λW (hW:Bw w W)=>BK Vp ap cp np P W kr My (hap.below hW) (λt ht=>⟨by have:=(hP t ht).1;omega,(hP t ht).2.1⟩) (hT.below hW);have KB:=aj λW (hW:Bw w W)=>an7 S ns n cap a D dn dm 192 da gU dc gV c W hn hS uM (hat.below hW) fF fE hs (hb.below hW) (ha.below hW) hf zd zd dV jc hcap (hT.below hW) hc;unfold VX at KB;obtain⟨pc,hpc⟩:=az (gj Vp P);obtain⟨dk,tK⟩:=az (sW S n c);rw[hpc,tK]at hA;simp only[hpc]at KD;simp only[tK]at KB;by_cases h0:pc=0
 rotate_left
 . have Db:(pc==0)=false:=by simpa using h0
   have vW:(pc !=0)=true:=by simpa using h0
   have e:A=(0,pc):=by rw[<-hA];unfold uG;rw[if_neg h0]
   subst e;clear hn hS uM hat tY hall kr hP My hsp hap fF fE hs hb ha hf Sz dV jc hcap hT hc hG hA hpc tK;have Hb:=hbz w;go_enter Tryz.func32,Tryz.ntmps32;go_wp2_with fail;refine gQ w (Hb.an trivial) 41 [af Vp,.slice ap np cp] 27 [.slice da dn dc,.slice gU dm gV] λW aG ae ai=>?_;go_wp2_with fail;refine aK ae (KD.out _ ae.2.2.1.out) λw1 ae ai=>?_;go_wp2;exact bodyPost_ret (v:=.tuple #[af 0,af pc]) (by simp[results,Tryz.results32,go_sem]) rfl ⟨rfl,λh=>absurd h h0,ae.2.2.1.out⟩
 subst h0;by_cases h1:dk=0
 rotate_left
 . have Db:(dk==0)=false:=by simpa using h1
   have vW:(dk !=0)=true:=by simpa using h1
   have e:A=(0,dk):=by rw[<-hA];unfold uG;rw[if_pos rfl,if_neg h1]
   subst e;clear hn hS uM hat tY hall kr hP My hsp hap fF fE hs hb ha hf Sz dV jc hcap hT hc hG hA hpc tK;have Hb:=hbz w;go_enter Tryz.func32,Tryz.ntmps32;go_wp2_with fail;refine gQ w (Hb.an trivial) 41 [af Vp,.slice ap np cp] 27 [.slice da dn dc,.slice gU dm gV] λW aG ae ai=>?_;go_wp2_with fail;refine aK ae (KD.out _ ae.2.2.1.out) λw1 ae ai=>?_;go_wp2_with fail;refine(KB.out _ ae.2.2.1.out).mono ?_;rintro e w2 ⟨va,k,vc,rfl,hne,_,ak⟩;obtain⟨ae,ai⟩:=qX ak ae;go_wp2;exact bodyPost_ret (v:=.tuple #[af 0,af dk]) (by simp[results,Tryz.results32,go_sem]) rfl ⟨rfl,λh=>absurd h h1,ae.2.2.1.out⟩
 subst h1;obtain⟨rfl,hwk⟩:=an2 tK;obtain⟨aZ,hne,hend⟩:=agP hwk;have azL:n<=40:=by omega
 have hk:fZ D:=by unfold fZ;rw[fF,fE];exact hc
 have tC:cO dn dm<=4:=by rw[<-fF,<-fE];exact asn hk hf zo zo
 obtain⟨V,rfl⟩:∃V:Nat,Vp=(V:Int):=⟨Vp.toNat,by have:=(Nn hpc).1;omega⟩;have hPf:dL V 192 P:=⟨Er hpc,λt ht=>(hP t ht).2⟩;have hin:=λi (hi:i<=n)=>QD hk hf (by omega:D.2.length<=5) i zo (λj hj=>hne j zo)
 have hld:=λi (hi:i<n)=>(show(bT S D i).1≠[]from λh=>by
  have h1:=(Ai S D i).1;rw[h]at h1
  exact hne i hi (List.length_eq_zero_iff.1 h1.symm))
 have hX:=λi (hi:i<n)=>(show EE 312 D ((bT S D i).1.getLastD default)from by
  obtain⟨g1,g2,g3⟩:=hin i zo _ (List.mem_append_left _ (MW (hld i hi)))
  exact⟨g1,g2.mono zo,g3⟩)
 have adx:(∀i,i<n->S i=false->∀X,iI ((bT S D i).1.getLastD default) X->(V:Int)=(cO dn dm:Int)/\0<bG (fp X (cO dn dm)) P)->∀X,iI D X->(V:Int)=(cO D.1.length D.2.length:Int)/\0<bG (fp X (cO D.1.length D.2.length)) P:=λh X hXD=>by obtain⟨d,hd,wz⟩:=amu hk hf (by omega:D.2.length<=5) n zo hne hXD;have e:(bT S D n).1=[]:=List.length_eq_zero_iff.1 (by rw[(Ai S D n).1,hend];rfl);rw[e,List.nil_append]at hd;obtain⟨i,h1,h2,h3⟩:=amw S D n d hd;rw[fF,fE];exact h i h1 h2 X (by rw[h3];exact wz)
 have hlen:=λi=>(Ai S D i).2;have acQ:=λi (h:i<n) (hS:S i=false)=>amv S D n i h hS;have hst:=λi=>(show(bT S D (i+1)).2=if S i then(bT S D i).2 else(bT S D i).2++[(bT S D i).1.getLastD default]from by rw[bT];split<;>rfl);have Kho:=aj λk (uS:k<ns.length) (oX:S k=false) (x:Dv) (W:World) (hW:Bw w W) (hx:DT W x ((bT S D k).1.getLastD default))=>by obtain⟨h1,h2,h3⟩:=tY k uS;obtain⟨f1,f2,f3⟩:=hall k uS zo;obtain⟨g1,g2,g3,g4⟩:=hX k zo;exact amR ns[k].sp ns[k].sc.1 ns[k].sc.2.1 ns[k].sc.2.2 ns[k].V ns[k].a ns[k].n ns[k].c (qs k) V ap np cp P _ x.n x.m x.a x.a' x.c x.c' (G k) W h1 zo h2 (h3.below hW) f3 f1 kr hPf ⟨hap.below hW,by rw[kr];exact hsp⟩ hx.n hx.m hx.dat.box hx.dat.row g2 g1 (by have:=hx.m;omega) hx.cap (by rw[<-hx.n,<-hx.m,g3,g4,fF,fE];exact tC) (hT.below hW) (hG k uS oX).symm
 have Ea:=λk (uS:k<n) (W:World) (x:Dv) (hx:DT W x ((bT S D k).1.getLastD default))=>(show x.n=dn/\x.m=dm from by
  obtain⟨_,_,g3,g4⟩:=hX k uS
  exact⟨by rw[<-hx.n,g3,fF],by rw[<-hx.m,g4,fE]⟩)
 obtain⟨HA,Hn,HS,eu,akt,lQ,ajq,bK,Hxn,Fj,Hk⟩:=aev hA hn hS hat adx hlen acQ hst Ea hpc hk;clear hn hS uM hat tY hall kr hP My hsp hap fF fE hs hb ha hf Sz dV jc hcap hT hc hG hA hpc tK hwk aZ hne hend hk tC hPf hin hld hX adx hlen acQ hst Ea;have Hb:=hbz w;go_enter Tryz.func32,Tryz.ntmps32;go_wp2_with fail;refine gQ w (Hb.an trivial) 41 [af (V:Int),.slice ap np cp] 27 [.slice da dn dc,.slice gU dm gV] λW aG ae ai=>?_;go_wp2_with fail;refine aK ae (KD.out _ ae.2.2.1.out) λw1 ae ai=>?_;go_wp2_with fail;refine(KB.out _ ae.2.2.1.out).mono ?_;rintro e w2 ⟨va,k9,vc,rfl,_,heq,ak⟩;obtain⟨ae,ai⟩:=qX ak ae;obtain⟨q,yF,rJ,abG,yi⟩:=heq (by trivial);have Hq:=aj (show q.length=(bT S D n).2.length from rJ.trans yF);obtain rfl:q.length=k9:=rJ;obtain⟨aqi,aqu⟩:=aI abG yi;have xE:=ae.1;have bY:=ae.2.2.1;obtain⟨N,hN⟩:=az q.length;rw[hN]at Hq⊢;have HN:=aj hN;clear heq yF abG yi hN;go_wp2_with fail;go_loopw[11,30] (λJf x wr=>∃k:Nat,k<=n/\x=af (k:Int)/\Jf=af ((bT S D k).2.length:Int)/\(∀j,j<k->S j=false->G j=true/\∀X,iI ((bT S D j).1.getLastD default) X->(V:Int)=(cO dn dm:Int)/\0<bG (fp X (cO dn dm)) P)/\ar wr w.heap.size 41 [af (V:Int),.slice ap np cp]/\Bw w2 wr) (λ_ x _=>n-(intOf x).toNat);case atStart=>exact⟨0,Nat.zero_le _,rfl,rfl,λj h=>absurd h (Nat.not_lt_zero _),xE.out,Below.refl _ _⟩
 case round=>
  clear ae ai;obtain⟨k,hk,rfl,rfl,hall,hp,pb⟩:=hrel;obtain⟨ij,Hp,Hb⟩:=bL hall hp pb;clear hall hp pb;by_cases hlt:k<n
  . have eY:k<ns.length:=by rw[Hn.out];exact hlt
    have hsk:=HS.out k eY;have AO:=Kho.out k eY;have gJ:=lQ.out k;have hle:=ajq.out k hlt;have hst:=bK.out k;have Ea:=Hxn.out k hlt;obtain⟨sp,s,m,e,V1,a1,n1,c1,hx⟩:∃sp s m e V a1 n1 c1,ns[k]=⟨sp,(s,m,e),V,a1,n1,c1⟩:=⟨_,_,_,_,_,_,_,_,rfl⟩;obtain⟨b,o,hab,hw⟩:=(eu.out.below (aC bY.out Hb.out)).node k eY hx;have aU:=MQ n cap k (k:Int) hab hlt rfl;rw[hx]at hsk AO;have Hx:Hid (aQ wr b (o+k*6) [af sp,ag s,ah m,af e,af V1,.slice a1 n1 c1]):=hw;obtain⟨L,hL⟩:=az ((bT S D k).2.length);rw[hL]at hle gJ⊢;obtain⟨Hho,sw,sI,Yb,sL,HL⟩:=gM AO hle hsk hst Ea hL;clear hw hab hx hsk AO hle hst Ea hL;obtain⟨ae,ai⟩:=qZ (Hp.an<|Hx.an trivial);by_cases hsp:sp=0
    rotate_left
    . have hS1:S k=true:=by rw[sI.out];simpa using hsp
      have MI:(sp !=0)=true:=by simpa using hsp
      have lu:(sp==0)=false:=by simpa using hsp
      have kL:Hid ((bT S D (k+1)).2.length=L):=by show _=_;rw[Yb.out,if_pos hS1];exact HL.out
      have NU:=aj hS1;clear hS1;go_wp2;go_roundw;case rel=>
       refine⟨k+1,by omega,by go_num,by rw[kL.out],λj hj qi=>?_,ae.1.out.below zl,aC Hb.out zl⟩;by_cases hjk:j=k
       . subst hjk;rw[NU.out]at qi;cases qi
       . exact ij.out j zo qi
      case measure=>exact bf
    subst hsp;have aG:=qL (Hb.an ae);go_wp2_with fail;refine cX wr (Hb.an ae) 127 [af 0,ag s,ah m,af e,af V1,.slice a1 n1 c1] λW4 aG ae ai=>?_;have hS1:S k=false:=by rw[sI.out];rfl
    have hle:=sw.out hS1;have RH:L<N:=by rw[Hq.out];exact(List.getElem?_eq_some_iff.1 hle).1
    have hLq:L<q.length:=by rw[HN.out];exact RH
    have hLn:L<(bT S D n).2.length:=by rw[<-Hq.out];exact RH
    have yi:=aqu.out.2 L hLq hLn;have e9:(bT S D n).2[L]=(bT S D k).1.getLastD default:=by rw[List.getElem?_eq_getElem hLn]at hle;exact Option.some.inj hle
    rw[e9]at yi;obtain⟨xa,xn,xc,lH,xm,lI,mJ⟩:∃xa xn xc lH xm lI,q[L]=⟨xa,xn,xc,lH,xm,lI⟩:=⟨_,_,_,_,_,_,rfl⟩;obtain⟨b3,o3,ya,hw3⟩:=(aqi.out.below ae.2.1.out).dom L hLq mJ;rw[mJ]at yi;obtain⟨e1,e2⟩:=sL.out _ _ yi;dsimp only at e1 e2;replace e1:=e1.symm;replace e2:=e2.symm;subst e1 e2;have SI:=aec N vc L (L:Int) ya RH rfl;have AO:=λW hW (h:DT W _ _)=>Hho.out hS1 ⟨xa,dn,xc,lH,dm,lI⟩ W hW h;obtain⟨F,Dd⟩:=az (G k);simp only[Dd]at AO;have xp:=aj Dd;have kL:Hid ((bT S D (k+1)).2.length=L+1):=by show _=_;rw[Yb.out,if_neg (by rw[hS1];decide),List.length_append,HL.out];rfl
    have TP:IntKind.i64.wrap ((L:Int)+1)=(L:Int)+1:=by rw[IntKind.wrap_i64];omega
    have Hy:Hid (aQ W4 b3 (o3+L*2) [.slice xa dn xc,.slice lH dm lI]):=hw3;obtain⟨Hdt,aja,NU⟩:=bL (yi.below ae.2.1.out) AO hS1;clear hle hLn yi e9 mJ ya hw3 AO hS1 Dd;obtain⟨ae,ai⟩:=qZ (Hy.an ae);have HZ:Hid (DT W4 ⟨xa,dn,xc,lH,dm,lI⟩ ((bT S D k).1.getLastD default)):=Hdt.out;go_wp2_with fail;have ae:=HZ.an ae;refine df 999 ae (cQ 8 0xf0c0b0907050301) ?_;refine bC ?_;refine qOp λK hK=>?_;go_simp;with_reducible refine(aja.out _ (aC bY.out ae.2.2.2.1.out.drew) (ae.1.out.below ((Below.refl _ _).drew))).mono ?_
    rintro e w5 ⟨⟨rfl,hF⟩,hq⟩;refine mR hK hq ae λae=>?_;clear hK K hq;refine bC ?_;refine cZ ae λai=>?_;have HF:=aj hF;clear hF;cases F with
    | false=>
      have e:A=((k:Int),6):=by rw[<-HA.out];exact amS hlt NU.out xp.out λj hj qi=>(ij.out j hj qi).1
      subst e;go_wp2;exact bodyPost_ret (v:=.tuple #[af (k:Int),af 6]) (by simp[results,Tryz.results32,go_sem]) rfl ⟨rfl,λh=>(by cases h),aC bY.out ae.2.2.2.1.out⟩
    | true=>
      go_wp2;go_roundw;case rel=>
       refine⟨k+1,by omega,by go_num,by rw[kL.out];rfl,λj hj qi=>?_,ae.2.2.2.2.1.out,ae.2.2.2.1.out⟩;by_cases hjk:j=k
       . subst hjk;exact⟨xp.out,HF.out (by trivial)⟩
       . exact ij.out j zo qi
      case measure=>exact bf
  . obtain rfl:k=n:=by omega
    have e:A=(0,0):=by rw[<-HA.out];exact amT λj hj qi=>(ij.out j hj qi).1
    have nV:=aj (akt.out λi hi hSi=>(ij.out i hi hSi).2);subst e;go_wp2;exact bodyPost_ret (v:=.tuple #[af 0,af 0]) (by simp[results,Tryz.results32,go_sem]) rfl ⟨rfl,λ_=>⟨Fj.out,Hk.out,nV.out⟩,aC bY.out Hb.out⟩
def avt (n:Nat)(w:World)(h1:1<=n)(hn:n<=1000000):
 Cv 135 #[af (-(n:Int))] w (.agg #[ag true,ah (nt n)]):=by
 have h1:=λW=>afI n W (by rw[jq];omega);have H1:=aj h1;clear h1;have hlt: -(n:Int)<0:=by omega
 have hw1:IntKind.i64.wrap (-(n:Int)+1)= -(n:Int)+1:=by rw[IntKind.wrap_i64];omega
 have hw2:IntKind.i64.wrap (-(-(n:Int)+1))=(n:Int)-1:=by rw[IntKind.wrap_i64];omega
 have hw3:IntKind.u64.wrap ((n:Int)-1)=(n:Int)-1:=by rw[IntKind.wrap_u64];omega
 have hw4:IntKind.u64.wrap ((n:Int)-1+1)=(n:Int):=by rw[IntKind.wrap_u64];omega
 obtain⟨m,hm⟩:=az (nt n);rw[hm];have Hm:=aj hm;clear hm;obtain⟨W,bX,ae,ai⟩:=fK w 43 [ag false,.string ⟨#[]⟩];go_enter Tryz.func135,Tryz.ntmps135;go_wp2_with fail;refine aK ae (H1.out _) λw1 ae ai=>?_;rw[Hm.out];go_wp2;refine dG (aO w1 (w.heap.size) 0 [ag true,ah m]) aR ?_;intro w9 hs0;have ae:=bD hs0 ae;simp only[bz,List.set]at ae;have ai:=qC ae;refine bodyPost_ret (v:=.agg #[ag true,ah m]) (by simp[results,Tryz.results135,go_sem,ai]) rfl ⟨rfl,ae.1.out⟩
def dZ (n:Int):Dyadic:=Dyadic.ofIntWithPrec n 0
def afA (V:Nat)(a:Option Addr)(n cap:Nat)(ts:List Trm)(B:Nat)(w:World)(hV:V<=12)(hn:ts.length=n)(hl:n<=4096)(ha:At w a (ts.flatMap aH))(hm:∀t∈ts,cJ t.1 (V:Int)=true)(mG:∀t∈ts,t.1.length<=12)(hf:∀t∈ts,mW t.2)(hs:∀t∈ts,Sm B (dval t.2))(hB:B+n<=16384):
 Cl 67 #[af (V:Int),.slice a n cap] w λex w'=>∃a' c',ex=.returned (.tuple #[.agg #[af (V:Int),.slice a' (aS ts).length c'],af 0])/\aW w' a' c' (aS ts)/\Bw w w':=by
 have qo:=λW (hW:Bw w W)=>avo V a n cap ts B W hn hl (ha.below hW) hf hs hB;obtain⟨C,hC⟩:=az (aS ts);simp only[hC]at qo⊢;obtain⟨sk,Ha,Hn,Hm,Fa⟩:=dY qo ha hn hm mG;clear qo ha hn hm mG hf hs hC;have hv1:¬(V:Int)<0:=by omega
 have hv2:¬(12:Int)<(V:Int):=by omega
 have DK:¬(65536:Int)<(n:Int):=by omega
 have Hb:=hbz w;go_enter Tryz.func67,Tryz.ntmps67;go_wp2_with fail;refine cX w (Hb.an trivial) 41 [af 0,.slice none 0 0] λW aG ae ai=>?_;go_loopw[6] (λx wr=>∃k:Nat,k<=n/\x=af (k:Int)/\ar wr w.heap.size 41 [af 0,.slice none 0 0]/\Bw w wr) (λx _=>n-(intOf x).toNat);case atStart=>exact⟨0,Nat.zero_le _,rfl,ae.1.out,ae.2.1.out⟩
 case round=>
  skip
  obtain⟨k,hk,rfl,hr,pb⟩:=hrel;obtain⟨Hr,Hb⟩:=aI hr pb;clear hr pb;by_cases hlt:k<n
  . have hk2:k<ts.length:=by rw[Hn.out];exact hlt
    obtain⟨l,s,m,e,hx⟩:∃l s m e,ts[k]=(l,s,m,e):=⟨_,_,_,_,rfl⟩;obtain⟨b,o,hab,hw⟩:=(Ha.out.below Hb.out).term k hk2 hx;have aU:=gK n cap k (k:Int) hab hlt rfl;have GY:cJ l (V:Int)=true:=by have:=Hm.out _ (List.getElem_mem hk2);rw[hx]at this;exact this
    have hl12:l.length<=12:=by have:=Fa.out _ (List.getElem_mem hk2);rw[hx]at this;exact this
    have DJ:∀W,Cv 141 #[ah l,af (V:Int)] W (ag true):=λW=>by have:=avs l (V:Int) W zo;rwa [GY]at this
    have Pf:=aj DJ;have Hy:Hid (aQ wr b (o+k*4) [ah l,ag s,ah m,af e]):=hw;clear DJ GY hab hw hx;obtain⟨ae,ai⟩:=qZ (Hr.an<|Hy.an trivial);go_wp2_with fail;refine aK (Hb.an ae) (Pf.out _) λw5 ae ai=>?_;go_wp2;go_roundw;case rel=>exact⟨k+1,by omega,by go_num,ae.2.1.out,ae.1.out⟩
    case measure=>exact bf
  . obtain rfl:k=n:=by omega
    obtain⟨ae,ai⟩:=qZ (Hr.an trivial);go_wp2_with fail;refine(sk.out _ Hb.out).mono ?_;rintro e w8 ⟨a',c',rfl,jw,ak⟩;obtain⟨ae,ai⟩:=qX ak (Hb.an ae);have HU:Hid (aW w8 (a') (c') C):=jw;clear jw;have Ce:=HU;have Aa:=ae.2.1;go_wp2;refine dG (aO w8 (w.heap.size) 0 [af (V:Int),.slice a' C.length c']) aR ?_;intro w9 hs0;have ae:=bD hs0 ae;simp only[bz,List.set]at ae;have ai:=qC ae;refine bodyPost_ret (v:=.tuple #[.agg #[af (V:Int),.slice a' C.length c'],af 0]) (by simp[results,Tryz.results67,go_sem,ai]) rfl ⟨a',c',rfl,Ce.out.sts Aa.out hs0,ae.1.out⟩
def CM {P:Trm->Prop}{x y:Trm}(hx:P x)(hy:P y):∀t∈[x,y],P t:=λt ht=>by simp only[List.mem_cons,List.not_mem_nil,or_false]at ht;rcases ht with rfl|rfl<;>assumption
def CK {P:Trm->Prop}{x y z:Trm}(hx:P x)(hy:P y)(hz:P z):∀t∈[x,y,z],P t:=λt ht=>by simp only[List.mem_cons,List.not_mem_nil,or_false]at ht;rcases ht with rfl|rfl|rfl<;>assumption
def uF {B:Nat}{X:Dyadic}{l:List UInt8}(h:Sm B X):Sm B (dval ((l,canon X):Trm).2):=by show Sm B (dval (canon X));rw[bA];exact h
def lF (c a:Int):List Trm:=aS [([0],canon (dZ c)),([1],canon (dZ a))]
def gm (c a b:Int):List Trm:=aS [([0,0],canon (dZ c)),([1,0],canon (dZ a)),([0,1],canon (dZ b))]
def sV (n:Int)(h: -1000<=n/\n<=1000):Sm 10 (dZ n):=⟨n*2^10,by unfold dZ;exact(qK n 10 0).symm,by rw[Int.natAbs_mul,Int.natAbs_pow];show n.natAbs*2^10<2^(2*10);omega⟩
def Ez (n:Int)(D:Dyadic)(hD:dZ n=D)(w:World)(hn: -1000<=n/\n<=1000):
 Cv 169 #[af n] w (bN D):=by
 have hof:∀W,Cv 135 #[af n] W (.agg #[ag (au n),ah (nt n.natAbs)]):=λW=>by
  by_cases h:0<=n
  . obtain⟨k,rfl⟩:=Int.eq_ofNat_of_zero_le h;have:=afH k W zo;rw[show au (k:Int)=false by unfold au;simp];simpa using this
  . obtain⟨k,hk⟩:∃k:Nat,n= -(k:Int):=⟨n.natAbs,by omega⟩;subst hk;have:=avt k W zo zo;rw[show au (-(k:Int))=true by unfold au;simp;omega];simpa using this
 have hmk:=λW=>Vf (au n) (nt n.natAbs) 0 D (by rw[Aq];exact hD) W (Nat.le_trans (ky (k:=4) zo) zd) zo;generalize au n=s at*;generalize nt n.natAbs=m at*;obtain⟨nX,oN⟩:=aI hof hmk;clear hof hmk hD;have Kw:Hid (∀W,Cv 61 #[af n] W (bN D)):=λw=>by clear hn;obtain⟨W,bX,ae,ai⟩:=fK w 45 [ag false,.string ⟨#[]⟩,af 0];go_enter Tryz.func61,Tryz.ntmps61;go_wp2_with fail;refine aK ae (nX.out _) λw1 ae ai=>?_;go_wp2_with fail;refine aK ae (oN.out _) λw2 ae ai=>?_;go_wp2;refine dG (aO w2 (w.heap.size) 0 (bu D)) aR ?_;intro w9 hs0;have ae:=bD hs0 ae;simp only[bz,List.set]at ae;have ai:=qC ae;refine bodyPost_ret (v:=bN D) (by simp[results,Tryz.results61,go_sem,ai]) rfl ⟨rfl,ae.1.out⟩
 clear nX oN hn;obtain⟨W,bX,ae,ai⟩:=fK w 45 [ag false,.string ⟨#[]⟩,af 0];go_enter Tryz.func169,Tryz.ntmps169;go_wp2_with fail;refine aK ae (Kw.out _) λw1 ae ai=>?_;go_wp2;refine dG (aO w1 (w.heap.size) 0 (bu D)) aR ?_;intro w9 hs0;have ae:=bD hs0 ae;simp only[bz,List.set]at ae;have ai:=qC ae;refine bodyPost_ret (v:=bN D) (by simp[results,Tryz.results169,go_sem,ai]) rfl ⟨rfl,ae.1.out⟩
def Vy (c a b:Int)(hc: -1000<=c/\c<=1000)(ha: -1000<=a/\a<=1000)(hb: -1000<=b/\b<=1000)(C:List Trm)(hC:gm c a b=C)(w:World):
 Cl 91 #[af c,af a,af b] w λe w'=>∃a' c',e=.returned (.agg #[af 2,.slice a' C.length c'])/\aW w' a' c' C/\Bw w w':=by
 obtain⟨X,hX⟩:=az (dZ c);obtain⟨Y,hY⟩:=az (dZ a);obtain⟨Z,hZ⟩:=az (dZ b);have hw1:=λW=>Ez c X hX W hc;have hw2:=λW=>Ez a Y hY W ha;have hw3:=λW=>Ez b Z hZ W hb;have dR:Sm 10 X:=by rw[<-hX];exact sV c hc
 have tF:Sm 10 Y:=by rw[<-hY];exact sV a ha
 have Dn:Sm 10 Z:=by rw[<-hZ];exact sV b hb
 have hmk:=λ(W:World) g (hg:ar W g 111 [.string (bs [0,0]),ag (au (dN X)),ah (nt (dN X).natAbs),af (dE X),.string (bs [1,0]),ag (au (dN Y)),ah (nt (dN Y).natAbs),af (dE Y),.string (bs [0,1]),ag (au (dN Z)),ah (nt (dN Z).natAbs),af (dE Z)])=>afA 2 (some ⟨g,0,none⟩) 3 3 [([0,0],canon X),([1,0],canon Y),([0,1],canon Z)] 10 W zd rfl zd (At.aBa hg)
  (CK (show cJ [0,0] ((2:Nat):Int)=true by decide) (show cJ [1,0] ((2:Nat):Int)=true by decide) (show cJ [0,1] ((2:Nat):Int)=true by decide)) (CK (show 2<=12 by decide) (show 2<=12 by decide) (show 2<=12 by decide)) (CK (dR.aBe zd) (tF.aBe zd) (Dn.aBe zd)) (CK (uF dR) (uF tF) (uF Dn)) zd
 unfold gm at hC;rw[hX,hY,hZ]at hC;simp only[hC]at hmk;obtain⟨xJ,Kt,Hw3,oN⟩:=cE hw1 hw2 hw3 hmk;clear hw1 hw2 hw3 hmk hX hY hZ dR tF Dn hC hc ha hb;have Hb:=hbz w;go_enter Tryz.func91,Tryz.ntmps91;go_wp2_with fail;refine cX w (Hb.an trivial) 41 [af 0,.slice none 0 0] λW aG ae ai=>?_;go_wp2_with fail;refine aK ae (xJ.out _) λw1 ae ai=>?_;go_wp2_with fail;refine aK ae (Kt.out _) λw2 ae ai=>?_;go_wp2_with fail;refine aK ae (Hw3.out _) λw3 ae ai=>?_;have aG:=qL ae;go_wp2_with fail;refine cX w3 ae 111 [.string (bs [0,0]),ag (au (dN X)),ah (nt (dN X).natAbs),af (dE X),.string (bs [1,0]),ag (au (dN Y)),ah (nt (dN Y).natAbs),af (dE Y),.string (bs [0,1]),ag (au (dN Z)),ah (nt (dN Z).natAbs),af (dE Z)] λW4 aG ae ai=>?_;go_wp2_with fail;refine(oN.out _ _ ae.1.out).mono ?_;rintro e w5 ⟨a',c',rfl,tX,ak⟩;obtain⟨ae,ai⟩:=qX ak ae;have HU:Hid (aW w5 (a') (c') C):=tX;clear tX;obtain⟨W6,rC,aG,ae,ai⟩:=bO w5 (HU.an ae) 41 [af 2,.slice a' C.length c'];have HU5:=ae.2.1;have Ct:=ae.2.2.2.1;go_wp2;refine dG (aO W6 (w.heap.size) 0 [af 2,.slice a' C.length c']) aR ?_;intro w9 hs0;have ae:=bD hs0 ae;simp only[bz,List.set]at ae;have ai:=qC ae;refine bodyPost_ret (v:=.agg #[af 2,.slice a' C.length c']) (by simp[results,Tryz.results91,go_sem,ai]) rfl ⟨a',c',rfl,HU5.out.sts Ct.out hs0,ae.2.2.2.2.1.out⟩
def aer (n:Int)(D:Dyadic)(hD:dZ n=D)(V:Int)(a:Option Addr)(k c:Nat)(w:World)(hn: -1000<=n/\n<=1000):
 Cv 90 #[af n,.agg #[af V,.slice a k c]] w (.agg #[af 0,ag (au (dN D)),ah (nt (dN D).natAbs),af (dE D),af V,.slice a k c]):=by
 have hw:=λW=>Ez n D hD W hn;have Hw:=aj hw;clear hw hD hn;have Hb:=hbz w;go_enter Tryz.func90,Tryz.ntmps90;go_wp2_with fail;refine gQ w (Hb.an trivial) 41 [af V,.slice a k c] 127 [af 0,ag false,.string ⟨#[]⟩,af 0,af 0,.slice none 0 0] λW aG ae ai=>?_;go_wp2_with fail;refine df 4 ae (cQ 5 0x807020501) ?_;refine bC ?_;refine bP ae (Hw.out _) λw1 ae=>?_;refine bC ?_;have ai:=qC ae;refine qOp λK hK=>?_;go_simp;refine hK _ _ (λh=>absurd h zd) ?_;try simp only[UU]
 refine cg (aO w1 (w.heap.size+1) 0 [af 0,ag (au (dN D)),ah (nt (dN D).natAbs),af (dE D),af V,.slice a k c]) aR ?_;intro w3 hs0;have ae:=bD hs0 ae;simp only[bz,List.set]at ae;have ai:=qC ae;refine cZ ae λai=>?_;go_wp2;have Hb:=ae.2.2.1;go_wp2;exact bodyPost_ret (v:=.agg #[af 0,ag (au (dN D)),ah (nt (dN D).natAbs),af (dE D),af V,.slice a k c]) (by simp[results,Tryz.results90,go_sem,ai]) rfl ⟨rfl,cM⟩
end Go.Proofs.YtpfgffadgkkedaaGreatDoor
namespace Go.Proofs.YtpfgffadgkkedaaGreatDoor
open Go.RowKit
def UC (c a:Int):DegT 1 1 (lF c a):=DegT.clean (CM ⟨by show cJ [0] _=true;decide,by show gA [0]<=1;decide⟩ ⟨by show cJ [1] _=true;decide,by show gA [1]<=1;decide⟩)
def afk (c a:Int)(hc: -1000<=c/\c<=1000)(ha: -1000<=a/\a<=1000):∀t∈lF c a,Sm 11 (dval t.2):=sS (k:=1) (CM (uF (sV c hc)) (uF (sV a ha))) (Nat.le_refl 2)
def afi (c a:Int)(hc: -1000<=c/\c<=1000)(ha: -1000<=a/\a<=1000):dL 1 200 (lF c a):=
 tj (jJ _) (UC c a) (by have:=kQ [(([0]:List UInt8),canon (dZ c)),([1],canon (dZ a))];unfold lF;simp only[List.length_cons,List.length_nil]at this;omega) zd (λt ht=>(afk c a hc ha t ht).mono zd) zd
def VE (c a b:Int):DegT 2 1 (gm c a b):=DegT.clean (CK ⟨by show cJ [0,0] _=true;decide,by show gA [0,0]<=1;decide⟩ ⟨by show cJ [1,0] _=true;decide,by show gA [1,0]<=1;decide⟩ ⟨by show cJ [0,1] _=true;decide,by show gA [0,1]<=1;decide⟩)
def ags (c a b:Int)(hc: -1000<=c/\c<=1000)(ha: -1000<=a/\a<=1000)(hb: -1000<=b/\b<=1000):dL 2 20 (gm c a b):=
 tj (jJ _) (VE c a b) (by have:=kQ [(([0,0]:List UInt8),canon (dZ c)),([1,0],canon (dZ a)),([0,1],canon (dZ b))];unfold gm;simp only[List.length_cons,List.length_nil]at this;omega) zd (λt ht=>(sS (k:=2) (CK (uF (sV c hc)) (uF (sV a ha)) (uF (sV b hb))) (show 3<=4 by decide) t ht).mono zd) zd
def awT (c a b:Int)(hc: -1000<=c/\c<=1000)(ha: -1000<=a/\a<=1000)(hb: -1000<=b/\b<=1000):∀t∈gm c a b,t.1.length<=1000/\Fit 20 t.2/\degN t.1<=1:=λt ht=>
 ⟨by have:=Bp (VE c a b t ht).1;omega,(ags c a b hc ha hb).2 t ht,(VE c a b t ht).2⟩
end Go.Proofs.YtpfgffadgkkedaaGreatDoor
namespace Go.Proofs.YtpfgffadgkkedaaGreatDoor
open Go.RowKit
attribute [local go_sem ↓] Go.wp_at_zero Go.wp_at_succ
def uD :DmR:=([((false,[],0),canon (dZ 2))],[])
def anp :iV (uD.1.map bH)=0:=by decide+kernel
def anq :gj 1 (lF 1 1)=0:=by decide+kernel
def anl :pH (canon (dZ 1)) 2 (gm 1 1 0) 1 (lF 1 1) uD=true:=by decide+kernel
def anm :pH (canon (dZ 2)) 2 (gm 0 3 1) 1 (lF 1 1) uD=false:=by decide+kernel
def ann :pH (canon (dZ 1)) 2 (gm 2 1 0) 1 (lF 1 1) uD=false:=by decide+kernel
def Zw :pH (canon (dZ 1)) 2 (gm 1 1 0) 1 (lF 1 1) (fh false uD)=true:=by decide+kernel
def ano :pH (canon (dZ 1)) 2 (gm 2 1 0) 1 (lF 1 1) (fh true uD)=true:=by decide+kernel
def IJ (D:Dyadic)(a:Option Addr)(n c:Nat):Nd:=⟨0,canon D,2,a,n,c⟩
def spN :Nd:=⟨1,(false,[],0),0,none,0,0⟩
def NE (c a b:Int)(hc: -1000<=c/\c<=1000)(ha: -1000<=a/\a<=1000)(hb: -1000<=b/\b<=1000)(n:Int)(hn: -1000<=n/\n<=1000):Fit 192 (canon (dZ n))/\(gm c a b).length<=4096/\∀t∈gm c a b,t.1.length<=1000/\Fit 192 t.2/\degN t.1<=5:=
 ⟨((sV n hn).mono zd).fit zd,(ags c a b hc ha hb).1.2.2.1,fun t ht=>by
   obtain⟨h1,h2,h3⟩:=awT c a b hc ha hb t ht
   exact⟨h1,h2.mono zd,by omega⟩⟩
def Vk (at' e:Int)(S G:Nat->Bool)(ns:List Nd)(qs:Nat->List Trm)(n cap:Nat)(a:Option Addr)(w:World)(hn:ns.length=n)(hS:∀k (h:k<ns.length),S k=(ns[k].sp !=0))(uM:n<=40)(hat:At w a (ns.flatMap oD))(tY:vN w ns qs)(hall:Qh ns qs)
 (hG:∀i (h:i<ns.length),S i=false->G i=pH ns[i].sc ns[i].V (qs i) 1 (lF 1 1) ((bT S uD i).1.getLastD default)) (hA:uG 0 (sW S n 0) S G n=(at',e)) (hT:aB w):
 Cv 89 #[af at',af e,.slice a n cap] w (ag true):=by
 have yj:dL 1 192 (lF 1 1):=tj (jJ _) (UC 1 1) (afi 1 1 zd zd).1.2.2.1 zd (λt ht=>(afk 1 1 zd zd t ht).mono zd) zd;have cH:=λ(W:World) (hW:Bw w W) ap cp b (hp:aW W ap cp (lF 1 1)) (hb:ar W b 88 [ag false,.string ⟨#[]⟩,af 0,ag (au (dN (dZ 2))),ah (nt (dN (dZ 2)).natAbs),af (dE (dZ 2))])=>
  Zb S ns qs n cap a 1 ap (lF 1 1).length cp (lF 1 1) uD 1 0 (some ⟨b,0,none⟩) none 1 0 0 G (at',e) W hn hS (.inl uM) (hat.below hW) (tY.below hW) hall rfl (λt ht=>⟨by have:=Bp (UC 1 1 t ht).1;omega,yj.2 t ht⟩) (Nat.le_trans (afi 1 1 zd zd).1.2.2.1 zd) hp.2.1 hp.1
   rfl rfl (Sl.some _ _ _ (Nat.le_refl 1)) (At.aBa hb) ⟨[],rfl,.inl rfl,λi h=>absurd h (Nat.not_lt_zero _)⟩ ⟨λx hx=>by
    simp only[uD,List.mem_singleton]at hx;subst hx
    exact⟨⟨⟨by decide,by decide,by decide⟩,Sm.zero _⟩,((sV 2 zd).mono zd).fit zd⟩,λr hr=>by cases hr⟩ zd zd zd zd (hT.below hW) (by unfold rz;rw[if_neg zo,if_neg zo,if_neg zo];exact anp) hG (by rw[anq];exact hA)
 have h1:=λW=>Ez 1 (dZ 1) rfl W zd;have h2:=λW=>Ez 2 (dZ 2) rfl W zd;have dR:Sm 10 (dZ 1):=sV 1 zd;have hmk:=λ(W:World) b (hb:ar W b 111 [.string (bs [0]),ag (au (dN (dZ 1))),ah (nt (dN (dZ 1)).natAbs),af (dE (dZ 1)),.string (bs [1]),ag (au (dN (dZ 1))),ah (nt (dN (dZ 1)).natAbs),af (dE (dZ 1))])=>afA 1 (some ⟨b,0,none⟩) 2 2 [([0],canon (dZ 1)),([1],canon (dZ 1))] 10 W zd rfl zd (At.aBa hb)
  (CM (show cJ [0] ((1:Nat):Int)=true by decide) (show cJ [1] ((1:Nat):Int)=true by decide)) (CM (show 1<=12 by decide) (show 1<=12 by decide)) (CM (dR.aBe zd) (dR.aBe zd)) (CM (uF dR) (uF dR)) zd
 have hQ:aS [(([0]:List UInt8),canon (dZ 1)),([1],canon (dZ 1))]=lF 1 1:=rfl;simp only[hQ]at hmk;generalize lF 1 1=Q at*;generalize dZ 1=X at*;generalize dZ 2=Y at*;unfold NM at cH;obtain⟨fA,H1,H2,oN⟩:=cE cH h1 h2 hmk;clear cH h1 h2 hmk hQ dR hn hS uM hat tY hall hG hA hT yj;have Hb:=hbz w;go_enter Tryz.func89,Tryz.ntmps89;go_wp2_with fail;refine aK (Hb.an trivial) (H1.out _) λw1 ae ai=>?_;go_wp2_with fail;refine aK ae (H1.out _) λw2 ae ai=>?_;have aG:=qL ae;go_wp2_with fail;refine cX w2 ae 111 [.string (bs [0]),ag (au (dN X)),ah (nt (dN X).natAbs),af (dE X),.string (bs [1]),ag (au (dN X)),ah (nt (dN X).natAbs),af (dE X)] λW4 aG ae ai=>?_;go_wp2_with fail;refine(oN.out _ _ ae.1.out).mono ?_;rintro e w5 ⟨a',c',rfl,tX,ak⟩;obtain⟨ae,ai⟩:=qX ak ae;have HU:Hid (aW w5 (a') (c') Q):=tX;clear tX;obtain⟨W6,rC,aG,ae,ai⟩:=bO w5 (HU.an ae) 41 [af 1,.slice a' Q.length c'];go_upto_region 2 with fail
 refine df 999 ae (cQ 12 0x171513110f0c0b0807040301) ?_;refine bC ?_;refine bP ae (H2.out _) λw7 ae=>?_;refine bC ?_;refine nM 88 [ag false,.string ⟨#[]⟩,af 0,ag (au (dN Y)),ah (nt (dN Y).natAbs),af (dE Y)] ae λW8 aG ae=>?_;refine bC ?_;refine qOp λK hK=>?_;go_simp;with_reducible refine(fA.out _ ae.2.2.2.2.1.out a' c' _ ae.2.2.1.out ae.1.out).mono ?_
 rintro e w9 ⟨rfl,_,hq⟩;refine mR hK hq ae λae=>?_;clear hK K hq;refine bC ?_;refine cZ ae λai=>?_;go_wp2;refine bodyPost_ret (results_tmp rfl _ _ _) rfl ⟨rfl,ae.2.2.2.2.1.out⟩
def atx {W:World}{b c:Nat}{p:Option Addr}{D:Dyadic}{Q:List Trm}(hp:aW W p c Q):vN W [IJ D p Q.length c] (λ_=>Q):=λk hk=>by
 obtain rfl:k=0:=by simpa using hk
 exact⟨rfl,hp.2.1,hp.1⟩
def Vl (at' e:Int)(n c a b:Int)(g:Bool)(hn: -1000<=n/\n<=1000)(hc: -1000<=c/\c<=1000)(ha: -1000<=a/\a<=1000)(hb: -1000<=b/\b<=1000)(D:Dyadic)(Q:List Trm)(hD:dZ n=D)(hQ:gm c a b=Q)(hg:pH (canon (dZ n)) 2 (gm c a b) 1 (lF 1 1) uD=g)(hA:uG 0 0 (λ_=>false) (λ_=>g) 1=(at',e))(W:World)(k:Nat)(p:Option Addr)(pc:Nat)(hT:aB W)
 (hk:ar W k 127 [af 0,ag (au (dN D)),ah (nt (dN D).natAbs),af (dE D),af 2,.slice p Q.length pc]) (hp:aW W p pc Q):
 Cv 89 #[af at',af e,.slice (some ⟨k,0,none⟩) 1 1] W (ag true):=by
 subst hD hQ;refine Vk at' e (λ_=>false) (λ_=>g) [IJ (dZ n) p (gm c a b).length pc] (λ_=>gm c a b) 1 1 _ W rfl (λj hj=>?_) zd (At.aBa hk) (atx (b:=k) hp) (λj hj _=>?_) (λi hi _=>?_) hA hT
 . obtain rfl:j=0:=by simpa using hj
   rfl
 . obtain rfl:j=0:=by simpa using hj
   exact NE c a b hc ha hb n hn
 . obtain rfl:i=0:=by simpa using hi
   exact hg.symm
def avO (D:Dyadic)(Q:List Trm)(hD:dZ 1=D)(hQ:gm 1 1 0=Q)(W:World)(k:Nat)(p:Option Addr)(pc:Nat)(hT:aB W)
 (hk:ar W k 127 [af 1,ag false,.string ⟨#[]⟩,af 0,af 0,.slice none 0 0,af 0,ag (au (dN D)),ah (nt (dN D).natAbs),af (dE D),af 2,.slice p Q.length pc]) (hp:aW W p pc Q):
 Cv 89 #[af 0,af 2,.slice (some ⟨k,0,none⟩) 2 2] W (ag true):=by
 subst hD hQ;refine Vk 0 2 (λk=>k==0) (λ_=>true) [spN,IJ (dZ 1) p (gm 1 1 0).length pc] (λk=>if k=0 then[]else gm 1 1 0) 2 2 _ W rfl (λj hj=>?_) zd (At.aBa hk) (λj hj=>?_) (λj hj _=>?_) (λi hi hs=>?_) (by rfl) hT
 . obtain rfl|rfl:j=0\/j=1:=by have:j<2:=hj;omega
   all_goals rfl
 . obtain rfl|rfl:j=0\/j=1:=by have:j<2:=hj;omega
   . exact⟨rfl,Sl.nil,.inl rfl⟩
   . exact⟨rfl,hp.2.1,hp.1⟩
 . obtain rfl|rfl:j=0\/j=1:=by have:j<2:=hj;omega
   . exact⟨(show Fit 192 ((false,[],0):Raw)from⟨⟨by decide,by decide,by decide⟩,Sm.zero _⟩),by decide,λt ht=>by cases ht⟩
   . exact NE 1 1 0 zd zd zd 1 zd
 . obtain rfl|rfl:i=0\/i=1:=by have:i<2:=hi;omega
   . cases hs
   . exact Zw.symm
def avN (D:Dyadic)(Q R:List Trm)(hD:dZ 1=D)(hQ:gm 1 1 0=Q)(hR:gm 2 1 0=R)(W:World)(k:Nat)(p r:Option Addr)(pc rc:Nat)(hT:aB W)
 (hk:ar W k 127 [af 1,ag false,.string ⟨#[]⟩,af 0,af 0,.slice none 0 0,af 0,ag (au (dN D)),ah (nt (dN D).natAbs),af (dE D),af 2,.slice p Q.length pc,af 0,ag (au (dN D)),ah (nt (dN D).natAbs),af (dE D),af 2,.slice r R.length rc]) (hp:aW W p pc Q) (hr:aW W r rc R):
 Cv 89 #[af 0,af 0,.slice (some ⟨k,0,none⟩) 3 3] W (ag true):=by
 subst hD hQ hR;refine Vk 0 0 (λk=>k==0) (λ_=>true) [spN,IJ (dZ 1) p (gm 1 1 0).length pc,IJ (dZ 1) r (gm 2 1 0).length rc] (λk=>if k=0 then[]else if k=1 then gm 1 1 0 else gm 2 1 0) 3 3 _ W rfl (λj hj=>?_) zd (At.aBa hk) (λj hj=>?_) (λj hj _=>?_) (λi hi hs=>?_) (by rfl) hT
 . obtain rfl|rfl|rfl:j=0\/j=1\/j=2:=by have:j<3:=hj;omega
   all_goals rfl
 . obtain rfl|rfl|rfl:j=0\/j=1\/j=2:=by have:j<3:=hj;omega
   . exact⟨rfl,Sl.nil,.inl rfl⟩
   . exact⟨rfl,hp.2.1,hp.1⟩
   . exact⟨rfl,hr.2.1,hr.1⟩
 . obtain rfl|rfl|rfl:j=0\/j=1\/j=2:=by have:j<3:=hj;omega
   . exact⟨(show Fit 192 ((false,[],0):Raw)from⟨⟨by decide,by decide,by decide⟩,Sm.zero _⟩),by decide,λt ht=>by cases ht⟩
   . exact NE 1 1 0 zd zd zd 1 zd
   . exact NE 2 1 0 zd zd zd 1 zd
 . obtain rfl|rfl|rfl:i=0\/i=1\/i=2:=by have:i<3:=hi;omega
   . cases hs
   . exact Zw.symm
   . exact ano.symm
def aly (w:World)(hT:aB w):Cv 31 #[] w (ag true):=by
 obtain⟨D1,h1⟩:∃D,dZ 1=D:=⟨_,rfl⟩;obtain⟨D2,h2⟩:∃D,dZ 2=D:=⟨_,rfl⟩;obtain⟨QA,Gu⟩:∃P,gm 1 1 0=P:=⟨_,rfl⟩;obtain⟨QB,RS⟩:∃P,gm 0 3 1=P:=⟨_,rfl⟩;obtain⟨QC,LS⟩:∃P,gm 2 1 0=P:=⟨_,rfl⟩;have JA:=aj λW=>Vy 1 1 0 zd zd zd QA Gu W;have JB:=aj λW=>Vy 0 3 1 zd zd zd QB RS W;have JC:=aj λW=>Vy 2 1 0 zd zd zd QC LS W;have L1:=aj λV a k c W=>aer 1 D1 h1 V a k c W zd;have L2:=aj λV a k c W=>aer 2 D2 h2 V a k c W zd;have S1:=aj λW k p pc=>Vl 0 0 1 1 1 0 true zd zd zd zd D1 QA h1 Gu anl rfl W k p pc;have S2:=aj λW k p pc=>Vl 0 6 2 0 3 1 false zd zd zd zd D2 QB h2 RS anm rfl W k p pc;have S3:=aj λW k p pc=>Vl 0 6 1 2 1 0 false zd zd zd zd D1 QC h1 LS ann rfl W k p pc;have S4:=aj λW k p r pc rc=>avN D1 QA QC h1 Gu LS W k p r pc rc;have S5:=aj λW k p pc=>avO D1 QA h1 Gu W k p pc;have jB:=aj hT;clear h1 h2 Gu RS LS hT;have Hb:=hbz w;go_enter Tryz.func31,Tryz.ntmps31;obtain⟨W1,apY,aG,ae,ai⟩:=bO w (Hb.an trivial) 127 [af 0,ag false,.string ⟨#[]⟩,af 0,af 0,.slice none 0 0];go_upto_region 2 with fail
 first|refine eG (aO W1 (w.heap.size) 0 [af 1,ag false,.string ⟨#[]⟩,af 0,af 0,.slice none 0 0]) aR ?_|refine eF (aO W1 (w.heap.size) 0 [af 1,ag false,.string ⟨#[]⟩,af 0,af 0,.slice none 0 0]) aR ?_
 intro W2 hs0;have ae:=bD hs0 ae;simp only[bz,List.set]at ae;have ai:=qC ae;refine df 999 ae (cQ 33 0x413f3c3a38363533312e2c2a28262423211f1c1a18161513100e0c0a0906040200) ?_;refine qOp λK hK=>?_;go_simp;with_reducible refine(JA.out _).mono ?_
 rintro e w2 ⟨a2,c2,rfl,hp2,hq⟩;refine mR hK hq ae λae=>?_;clear hK K hq;have NR:=aj hp2;clear hp2;have ae:=NR.an ae;refine bP ae (L1.out 2 a2 QA.length c2 _) λw3 ae=>?_;refine nM 127 [af 0,ag (au (dN D1)),ah (nt (dN D1).natAbs),af (dE D1),af 2,.slice a2 QA.length c2] ae λW4 aG ae=>?_;refine bP ae (S1.out _ _ a2 c2 (jB.out.below ae.2.2.2.1.out) ae.1.out ae.2.1.out) λw5 ae=>?_;refine bC ?_;refine qOp λK hK=>?_;go_simp;with_reducible refine(JB.out _).mono ?_
 rintro e w6 ⟨a6,c6,rfl,yu,hq⟩;refine mR hK hq ae λae=>?_;clear hK K hq;have vB:=aj yu;clear yu;have ae:=vB.an ae;refine bP ae (L2.out 2 a6 QB.length c6 _) λw7 ae=>?_;refine nM 127 [af 0,ag (au (dN D2)),ah (nt (dN D2).natAbs),af (dE D2),af 2,.slice a6 QB.length c6] ae λW8 aG ae=>?_;refine bP ae (S2.out _ _ a6 c6 (jB.out.below ae.2.2.2.2.2.1.out) ae.1.out ae.2.1.out) λw9 ae=>?_;refine bC ?_;refine qOp λK hK=>?_;go_simp;with_reducible refine(JC.out _).mono ?_
 rintro e jl ⟨Qp,c10,rfl,Ie,hq⟩;refine mR hK hq ae λae=>?_;clear hK K hq;have HF3:=aj Ie;clear Ie;have ae:=HF3.an ae;refine bP ae (L1.out 2 Qp QC.length c10 _) λmV ae=>?_;refine nM 127 [af 0,ag (au (dN D1)),ah (nt (dN D1).natAbs),af (dE D1),af 2,.slice Qp QC.length c10] ae λQn aG ae=>?_;refine bP ae (S3.out _ _ Qp c10 (jB.out.below ae.2.2.2.2.2.2.2.1.out) ae.1.out ae.2.1.out) λrT ae=>?_;refine bC ?_;refine qOp λK hK=>?_;go_simp;with_reducible refine(JA.out _).mono ?_
 rintro e NJ ⟨Ah,c14,rfl,Ih,hq⟩;refine mR hK hq ae λae=>?_;clear hK K hq;have HF4:=aj Ih;clear Ih;have ae:=HF4.an ae;refine bP ae (L1.out 2 Ah QA.length c14 _) λw15 ae=>?_;refine qOp λK hK=>?_;go_simp;with_reducible refine(JC.out _).mono ?_
 rintro e VJ ⟨uC,c16,rfl,Ii,hq⟩;refine mR hK hq ae λae=>?_;clear hK K hq;have HF5:=aj Ii;clear Ii;have ae:=HF5.an ae;refine bP ae (L1.out 2 uC QC.length c16 _) λw17 ae=>?_;refine nM 127 [af 1,ag false,.string ⟨#[]⟩,af 0,af 0,.slice none 0 0,af 0,ag (au (dN D1)),ah (nt (dN D1).natAbs),af (dE D1),af 2,.slice Ah QA.length c14,af 0,ag (au (dN D1)),ah (nt (dN D1).natAbs),af (dE D1),af 2,.slice uC QC.length c16] ae λW18 aG ae=>?_;refine bP ae (S4.out _ _ Ah uC c14 c16 (jB.out.below ae.2.2.2.2.2.2.2.2.2.2.1.out) ae.1.out ae.2.2.1.out ae.2.1.out) λrU ae=>?_;refine bC ?_;refine qOp λK hK=>?_;go_simp;with_reducible refine(JA.out _).mono ?_
 rintro e w20 ⟨Qq,c20,rfl,adk,hq⟩;refine mR hK hq ae λae=>?_;clear hK K hq;have HF6:=aj adk;clear adk;have ae:=HF6.an ae;refine bP ae (L1.out 2 Qq QA.length c20 _) λw21 ae=>?_;refine nM 127 [af 1,ag false,.string ⟨#[]⟩,af 0,af 0,.slice none 0 0,af 0,ag (au (dN D1)),ah (nt (dN D1).natAbs),af (dE D1),af 2,.slice Qq QA.length c20] ae λW22 aG ae=>?_;refine bP ae (S5.out _ _ Qq c20 (jB.out.below ae.2.2.2.2.2.2.2.2.2.2.2.2.1.out) ae.1.out ae.2.1.out) λw23 ae=>?_;refine bC ?_;refine cZ ae λai=>?_;go_wp2;refine bodyPost_ret (results_tmp rfl _ _ _) rfl ⟨rfl,ae.2.2.2.2.2.2.2.2.2.2.2.2.1.out⟩
def asx {ns:List Nd}{qs:Nat->List Trm}(h:NotLong ns qs):Qh ns qs:=λk hk h50=>by obtain⟨h1,h2⟩:=h.all k hk h50;refine⟨uh h1,by have:=h2.few;omega,λt ht=>?_⟩;obtain⟨g1,g2,g3⟩:=h2.all t ht;exact⟨by omega,uh g1,g3⟩
def ani (ns:List Nd)(qs:Nat->List Trm)(n cap:Nat)(a:Option Addr)(Vp:Int)(ap:Option Addr)(np cp:Nat)(P:List Trm)(D:DmR)(dn dm:Nat)(da gU:Option Addr)(dc gV:Nat)(tb:List UInt8)(ta:Option Addr)(tn tc:Nat)(w:World)
 (hn:ns.length=n) (hat:At w a (ns.flatMap oD)) (tY:vN w ns qs) (kr:P.length=np) (hsp:Sl ap np cp) (hap:At w ap (P.flatMap aH))
 (fF:D.1.length=dn) (fE:D.2.length=dm) (hs:Sl da dn dc) (hb:At w da (D.1.flatMap spC)) (ha:Tbl w gU D.2) (hcap:dm<=gV) (ht:tb.length=tn) (je:At w ta (mU tb)) (hT:aB w):
 Cv 6 #[.slice a n cap,.agg #[af Vp,.slice ap np cp],.agg #[.slice da dn dc,.slice gU dm gV],.slice ta tn tc] w (ag true):=by
 have FE:=aj λW (hW:Bw w W)=>aly W (hT.below hW);have YF:=aj λW (hW:Bw w W)=>asv ns qs n a cap W hn (hat.below hW) (tY.below hW);have YG:=aj λW (hW:Bw w W)=>axe D.1 D.2 dn dm da gU dc gV W fF fE (hb.below hW) (ha.below hW);have YE:=aj λW (hW:Bw w W)=>ach Vp P np ap cp W kr (hap.below hW);obtain⟨S,hS⟩:∃S:Nat->Bool,∀k (h:k<ns.length),S k=(ns[k].sp !=0):=⟨λk=>if h:k<ns.length then ns[k].sp !=0 else false,λk h=>dif_pos h⟩;obtain⟨G,hG⟩:∃G:Nat->Bool,∀i (h:i<ns.length),S i=false->G i=pH ns[i].sc ns[i].V (qs i) Vp P ((bT S D i).1.getLastD default):=⟨λi=>if h:i<ns.length then pH ns[i].sc ns[i].V (qs i) Vp P ((bT S D i).1.getLastD default)else false,λi h _=>dif_pos h⟩;obtain⟨A,hA⟩:=az (uG (gj Vp P) (sW S n (rz dn dm (iV (D.1.map bH)) (jA D.2))) S G n);have KA:=aj λ(h1:NotLong ns qs) (h2:NotVastD D.1 D.2) (h3:NotHeavy2 P) W (hW:Bw w W)=>by
  have jc:dm<=5:=by have:=h2.five;omega
  have hfw:=h2.few;exact Zb S ns qs n cap a Vp ap np cp P D dn dm da gU dc gV _ G A W hn hS (by have:=h1.few;omega) (hat.below hW) (tY.below hW) (asx h1) kr (λt ht=>⟨by have:=(h3.all t ht).2.1;omega,uh (h3.all t ht).1⟩) (by have:=h3.few;omega) hsp (hap.below hW) fF fE hs (hb.below hW) (ha.below hW) ⟨λx hx=>⟨uh (h2.box x hx).1,uh (h2.box x hx).2⟩,λr hr c hc=>uh ((h2.row r hr).2 c hc)⟩ zo zo jc hcap (hT.below hW) rfl hG hA
 have KC:=aj λ(h2:NotVastD D.1 D.2) (hk:fZ D) W (hW:Bw w W)=>by
  have jc:dm<=5:=by have:=h2.five;omega
  exact arH D dn dm da gU dc gV tb ta tn tc W fF fE (hb.below hW) (ha.below hW) (iT.mono (B:=192) ⟨λx hx=>⟨uh (h2.box x hx).1,uh (h2.box x hx).2⟩,λr hr c hc=>uh ((h2.row r hr).2 c hc)⟩ zd) jc ht (je.below hW) (hT.below hW) hk
 have YD:=aj λ(h3:NotHeavy2 P) (V:Nat) (hp:gj (V:Int) P=0) (xs:List Raw) (a9:Option Addr) (c9:Nat) (W:World) (hW:Bw w W) (hxl:xs.length=V) (pE:∀x∈xs,Fit 2000 x) (h9:At W a9 (xs.flatMap aV))=>aoI V ap cp np P a9 c9 xs 2000 192 W kr hxl ⟨Er hp,λt ht=>uh (h3.all t ht).1⟩ (hap.below hW) h9 pE zd zd (hT.below hW);have YC:=aj λ(h3:NotHeavy2 P) (V:Nat) (hp:gj (V:Int) P=0) (xs:List Raw) (hxl:xs.length=V) (pE:∀x∈xs,Fit 2000 x)=>aoB (V:=V) (C:=192) (ts:=P) (xs:=xs) ⟨Er hp,λt ht=>uh (h3.all t ht).1⟩ hxl pE zd zd
 have zJ:=aj (show fZ D->¬(dn=0/\dm=0)from λh hh=>by
  unfold fZ at h;rw[fF,fE]at h
  rcases QQ h with⟨_,h1,_⟩ |⟨_,h1,_⟩<;>omega)
 have Hnp:=aj kr;unfold NM at KA;unfold YA at KC;rw[fF,fE]at KA KC;clear hn hat tY kr hsp hap fF fE hs hb ha hcap ht je hT hS hG hA;have Hb:=hbz w;go_enter Tryz.func6,Tryz.ntmps6;go_wp2_with fail;refine gQ w (Hb.an trivial) 41 [af Vp,.slice ap np cp] 27 [.slice da dn dc,.slice gU dm gV] λW aG ae ai=>?_;go_wp2_with fail;refine(YF.out _ ae.2.2.1.out).mono ?_;rintro e w1 ⟨⟨v,rfl,hv⟩,ak⟩;obtain⟨ae,ai⟩:=qX ak ae;cases v with
 |true=>go_wp2_with fail;refine aK ae (FE.out _ ae.2.2.1.out) λw2 ae ai=>?_;go_wp2;refine bodyPost_ret (results_tmp rfl _ _ _) rfl ⟨rfl,ae.2.2.1.out⟩
 | false=>
   have h1:NotLong ns qs:=hv rfl;clear hv;go_wp2_with fail;refine(YG.out _ ae.2.2.1.out).mono ?_;rintro e w2 ⟨⟨v,rfl,hv⟩,ak⟩;obtain⟨ae,ai⟩:=qX ak ae;cases v with
   |true=>go_wp2_with fail;refine aK ae (FE.out _ ae.2.2.1.out) λw3 ae ai=>?_;go_wp2;refine bodyPost_ret (results_tmp rfl _ _ _) rfl ⟨rfl,ae.2.2.1.out⟩
   | false=>
     have h2:NotVastD D.1 D.2:=hv rfl;clear hv;go_wp2_with fail;refine(YE.out _ ae.2.2.1.out).mono ?_;rintro e w3 ⟨⟨v,rfl,hv⟩,ak⟩;obtain⟨ae,ai⟩:=qX ak ae;cases v with
     |true=>go_wp2_with fail;refine aK ae (FE.out _ ae.2.2.1.out) λw4 ae ai=>?_;go_wp2;refine bodyPost_ret (results_tmp rfl _ _ _) rfl ⟨rfl,ae.2.2.1.out⟩
     | false=>
       have h3:NotHeavy2 P:=hv rfl;clear hv;obtain⟨fA,lO,Xh,JY⟩:=cE (KA.out h1 h2 h3) (KC.out h2) (YD.out h3) (YC.out h3);clear h1 h2 h3 KA KC YD YC YF YG YE;go_wp2_with fail;refine(fA.out _ ae.2.2.1.out).mono ?_;rintro e w4 ⟨rfl,hok,ak⟩;obtain⟨ae,ai⟩:=qX ak ae;by_cases om:A.2=0
       rotate_left
       . have hAn:(A.2 !=0)=true:=by simpa using om
         clear hok;go_wp2_with fail;go_wp2_with fail;refine aK ae (FE.out _ ae.2.2.1.out) λw5 ae ai=>?_;go_wp2;refine bodyPost_ret (results_tmp rfl _ _ _) rfl ⟨rfl,ae.2.2.1.out⟩
       obtain⟨hpc,tK,hpos⟩:=hok om;rw[om];obtain⟨V,hV⟩:∃V:Nat,Vp=(V:Int):=⟨Vp.toNat,by have:=(Nn hpc).1;omega⟩;have hpc:gj (V:Int) P=0:=by rw[<-hV];exact hpc
       have AG:=zJ.out tK;have hie:∀(xs:List Raw) (a9:Option Addr) (c9:Nat) (W:World),Bw w W->xs.length=cO dn dm->(∀x∈xs,Fit 2000 x)->iI D (eH xs)->At W a9 (xs.flatMap aV)->Cv 26 #[.agg #[af Vp,.slice ap np cp],.slice a9 (cO dn dm) c9] W (.tuple #[bN (ml (eH xs) V P np),af 0]):=λxs a9 c9 W hW h1 h2 h3 h4=>by
        have e:V=cO dn dm:=by have:=(hpos _ h3).1;omega
        rw[<-e]at h1⊢;rw[hV];exact Xh.out V hpc xs a9 c9 W hW h1 h2 h4
       have SJ:∀xs:List Raw,xs.length=cO dn dm->(∀x∈xs,Fit 2000 x)->iI D (eH xs)->0<ml (eH xs) V P np/\Sm 100000000 (ml (eH xs) V P np):=λxs h1 h2 h3=>by
        obtain⟨e,h4⟩:=hpos _ h3;have e:V=cO dn dm:=by omega
        rw[<-e]at h1 h4;rw[<-Hnp.out,Re];exact⟨h4,by rw[<-Re];exact JY.out V hpc xs h1 h2⟩
       obtain⟨Hi2,Hie,Hiz⟩:=bL (lO.out tK) hie SJ;generalize cO dn dm=L at*;clear hok hpc tK hpos lO Xh JY fA om hie SJ hV;obtain⟨zz,AG⟩:=aI ae.2.2.1.out AG;rcases(show((dn:Int)==0)=false\/(((dn:Int)==0)=true/\((dm:Int)==0)=false)by have:=AG.out;simp;omega)with g1|⟨g1,g2⟩;all_goals
        clear AG
        go_upto_region 8 with fail
        have Hb:=hbz w4
        go_cut[11,12] (λJf s12 wx=>∃(g:Nat) (xs:List Raw),xs.length=L/\(∀x∈xs,Fit 2000 x)/\iI D (eH xs)/\Jf=.pointer (some ⟨g,0,none⟩)/\s12=af 0/\ar wx g 45 (aV (canon (ml (eH xs) V P np)))/\Bw w4 wx)
        case first=>
         obtain⟨Hp,Hd,_,_⟩:=ae;obtain⟨p0,p1⟩:=Hp.out.c2;obtain⟨d0,d1⟩:=Hd.out.c2;have oJ:∀w',gF w4 w'->aJ w' (w.heap.size) 0 (af Vp)/\aJ w' (w.heap.size) 1 (.slice ap np cp)/\aJ w' (w.heap.size+1) 0 (.slice da dn dc)/\aJ w' (w.heap.size+1) 1 (.slice gU dm gV):=λw' h=>⟨cell_later h p0,cell_later h p1,cell_later h d0,cell_later h d1⟩;refine Jt (λw'=>gF w4 w') (λi=>Nat.blt i 10) 8 45 [ag false,.string ⟨#[]⟩,af 0] [(0,true),(1,true),(2,true),(3,false),(4,false),(5,true),(6,true),(7,true)] [(9,false),(10,false)] zk zk rfl rfl rfl zk zk zc zc (λK a w h=>IQ rfl rfl (λK' hK=>by go_simp;exact hK _ _ h)) ?_;clear p0 p1 d0 d1 Hp Hd;intro w4f ak;replace Hb:=aj (aC Hb.out ak);refine⟨Hb.out,?_⟩;iterate 3 (refine vk rfl rfl (v:=?_) (λw' hw'=>?_) ?_;rotate_left;(focus have hw':=oJ w' hw';obtain⟨q0,q1,q2,q3⟩:=hw';go_simp;try with_reducible rfl);try simp only[UU])
         refine yV rfl rfl (λK hK=>?_);go_simp;with_reducible refine(Hi2.out _ (aC zz.out Hb.out)).mono ?_
         rintro e w9 ⟨a2,c2,xs,rfl,hxl,pE,hin,h4,hq⟩;refine hK _ _ hq (λw5 ak hb2=>?_);have qPZ:=aj (h4.below hb2);clear h4;replace Hb:=aj (aC Hb.out ak);refine⟨Hb.out,?_⟩;clear ak hb2 hq hK K;have NT:=qPZ;clear qPZ;try simp only[UU]
         refine yV rfl rfl (λK hK=>?_);go_simp;with_reducible refine(Hie.out xs a2 c2 _ (aC zz.out Hb.out) hxl pE hin NT.out).mono ?_
         rintro e w9 ⟨rfl,hq⟩;refine hK _ _ hq (λw6 ak hb2=>?_);replace Hb:=aj (aC Hb.out ak);replace NT:=aj (NT.out.below ak);refine⟨Hb.out,?_⟩;clear ak hb2 hq hK K;try simp only[UU]
         iterate 3 (refine vk rfl rfl (v:=?_) (λw' hw'=>?_) ?_;rotate_left;(focus go_simp;try with_reducible rfl);try simp only[UU])
         intro Jw hb0 qx;have Hz:=aj qx;clear qx;obtain⟨z0,Da,z1,xV,z2,Gh⟩:=Hz.out.g3;try simp only[U1]
         try simp only[Act.put,U2,U3]
         refine aN rfl rfl (λK hK=>?_);go_simp;refine hK _ _ (λ_=>by first|exact((Hb.out.setCell zp _).setCell zp _) |exact(((Hb.out.setCell zp _).setCell zp _).setCell zp _)) ?_;try simp only[UU]
         refine aN rfl rfl (λK hK=>?_);go_simp;refine hK _ _ (λh=>absurd h zd) ?_;try simp only[UU]
         simp only[bE];go_wp2_with fail;go_meet;exact⟨Jw,xs,hxl,pE,hin,rfl,rfl,((Hz.out.set 0 _).set 1 _).set 2 _,((Hb.out.setCell zp _).setCell zp _).setCell zp _⟩
        case rest=>
         obtain⟨g8,xs,hxl,pE,hin,rfl,rfl,hz,rb⟩:=hcut;obtain⟨w7,hw7⟩:∃u,u=wc:=⟨_,rfl⟩;subst hw7;have hzz:=Hiz.out xs hxl pE hin;generalize ml (eH xs) V P np=Z at*;have Wd:=aj (aC zz.out rb);obtain⟨g,hg⟩:=az (bi Z);have hg0:0<g:=by rw[<-hg];exact(ZQ Z).2 hzz.1
         have jE:=aj λW=>oc (au (dN Z)) (nt (dN Z).natAbs) (dE Z) g (by show bi (dval (canon Z))=g;rw[bA];exact hg) W (hzz.2.ok zd);have Kz:Hid (ar w7 g8 45 (bu Z)):=hz;replace Hb:=hbz w7;clear hz rb hxl pE hin hg hzz;obtain⟨ae,ai⟩:=qZ (Kz.an trivial);go_wp2_with fail;refine aK (Hb.an ae) (jE.out _) λw8 ae ai=>?_;go_wp2_with fail;refine aK ae (FE.out _ (aC Wd.out ae.1.out)) λw9 ae ai=>?_;go_wp2;refine bodyPost_ret (results_tmp rfl _ _ _) rfl ⟨rfl,aC Wd.out ae.1.out⟩
end Go.Proofs.YtpfgffadgkkedaaGreatDoor
