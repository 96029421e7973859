/- Package poly: Make,Const,Var. -/
import Derived.Test.YtpfgffadgkkedaaGreatDoorZ7
import Derived.Test.YtpfgffadgkkedaaGreatDoorZ14
import Derived.Test.YtpfgffadgkkedaaGreatDoorZ13
import Derived.Test.YtpfgffadgkkedaaGreatDoorZ9
import Derived.Test.YtpfgffadgkkedaaGreatDoorZ10
import Derived.Deep.DeepAppendRoom
import Derived.Maps.AppendAt
import Derived.Test.YtpfgffadgkkedaaGreatDoorZ11
set_option linter.all false
set_option maxRecDepth 100000
set_option maxHeartbeats 16000000
namespace Go.Proofs.YtpfgffadgkkedaaGreatDoor
open Go.RowKit
attribute [local go_sem ↓] Go.wp_at_zero Go.wp_at_succ
def QK (a:Option Addr)(n cap:Nat)(ts:List Trm)(w:World)(hn:ts.length=n)(hl:n<=1048576)(hs:Sl a n cap)(ha:At w a (ts.flatMap aI)):
 Cl 206 #[.slice a n cap] w λe w'=>∃v',e=.returned v'/\w'.ownsRow w.heap.size 111 4 v' n (ts.flatMap aI)/\Bw w w':=by
 obtain⟨i0,hi,hz0,hz1,hz2⟩:=info_parts Tryz.az3;have q:=λ(w:World) (a:Option Addr) (n c n' c':Nat)=>Lib.run_eql_slice_nil (P:=Tryz.prog) w 39 111 a n c n' c' Tryz.underlying39;have hlen:(ts.flatMap aI).length=n*4:=by rw[iD aI 4 (λ_=>rfl),hn]
 obtain⟨cs,hcs⟩:=au (ts.flatMap aI);have h1:=vD ts;rw[hcs]at hlen ha h1⊢;obtain⟨jE,Ha,H1,Hs,Hi,cu,bV,bX⟩:=nk hlen ha h1 hs hi hz0 hz1 hz2;clear hlen ha h1 hs hi hz0 hz1 hz2 hn hcs;cases a with
 | none=>
   have hc:=Hs.out.2 rfl;have hn0:n=0:=by have:=Hs.out.1;omega
   subst hc;subst hn0;go_enter Tryz.func206,Tryz.ntmps206;go_wp2;go_ret;refine⟨_,rfl,?_,Below.refl _ _⟩;have e:cs=[]:=List.eq_nil_of_length_eq_zero (by have:=jE.out;omega);rw[e];exact World.ownsRow_nil _ _ _ _
 |some ad=>go_enter Tryz.func206,Tryz.ntmps206;go_wp2_with (at_builtin;refine uo rfl _ _ 39 rfl w.heap.size 111 i0 _ 4 48 Tryz.underlying39 Hi.out cu.out bV.out bX.out rfl zd _ 0 [] rfl (World.ownsRow_made w #[] 0 (Nat.le_refl _) (Nat.zero_le _) zm) (some ad) n cap cs rfl Hs.out jE.out (Ha.out.below ((Below.refl _ w).alloc (Nat.le_refl _) _)) H1.out zx zo zm ?_;intro v' w1 hown hgrow fD);go_ret;refine⟨v',rfl,by simpa using hown,?_⟩;exact((Below.refl _ w).alloc (Nat.le_refl _) _).grown hgrow zm (λk hk=>by have h9:w.heap.size=k:=Option.some.inj hk;omega)
def akz (V:Int)(ts:List Trm)(h:∀t∈ts,df t.1 V=true):(ts.any λt=>!df t.1 V)=false:=by rw[List.any_eq_false];intro t ht;rw[h t ht];simp
def aep (V:Nat)(a:Option Addr)(n cap:Nat)(ts:List Trm)(B:Nat)(w:World)(hV:V<=12)(hn:ts.length=n)(hl:n<=4096)(hs:Sl a n cap)(ha:At w a (ts.flatMap aI))(hm:∀t∈ts,df t.1 V=true)(hl2:∀t∈ts,t.1.length<=9223372036854775807)
 (hf:∀t∈ts,Fit B t.2) (hB:B+n+2<=268435456) (hT:aB w):
 Cl 121 #[af (V:Int),.slice a n cap] w λe w'=>∃a' c',e=.returned (.tuple #[.agg #[af (V:Int),.slice a' (aU ts).length c'],af 0])/\w'.ownsRow w.heap.size 111 4 (.slice a' (aU ts).length c') (aU ts).length ((aU ts).flatMap aI)/\Bw w w':=by
 have eg:∀args w,(callFunc 204 args).run Tryz.prog w=.ok (.enter 204 args) w:=enters_of Tryz.func204 zk rfl;have hct:∀W bv,Bw w W->W.cell? ⟨bv,0,none⟩=some (af (V:Int))->Cv 203 #[.slice a n cap,.func (.func 204) #[] #[.pointer (some ⟨bv,0,none⟩)]] W (ag false):=by intro W bv hW hc;have h:=amk a n cap ts 204 #[.pointer (some ⟨bv,0,none⟩)] (λt=>!df t.1 V) W hn zo (ha.below hW) eg (λx hx W2 hW2=>by simpa using arO x.1 x.2.1 x.2.2.1 x.2.2.2 V bv W2 (cell_later hW2 hc) (hl2 x hx));rwa [akz V ts hm]at h
 obtain⟨C,hC⟩:=au (aU ts);have hcn:=λW (hW:Bw w W)=>(QK a n cap ts W hn zo hs (ha.below hW)).mono (λe w' h=>(match h with|⟨v,h1,h2,h3⟩=>⟨v,h1,h2,h3,h3⟩:∃v',e=.returned v'/\w'.ownsRow W.heap.size 111 4 v' n (ts.flatMap aI)/\Bw W w'/\Bw W w'));have hcl:=λw0 W v (hw0:Bw w w0) (hb0:Bw w0 W) (ho:W.ownsRow w0.heap.size 111 4 v n (ts.flatMap aI))=>Lf (V:Int) v n ts C B w0 W hb0 hn hl ho hf hB (hT.below hw0) hC;rw[hC];obtain⟨EQ,jD,fV⟩:=bM hct hcn hcl;clear hct hcn hcl hC ha hT hf hm hl2 hs hn eg;have tM:=λW=>LD (V:Int) W;have hd:decide (0<=(V:Int)/\(V:Int)<=12)=true:=by simp;omega
 rw[hd]at tM;have EZ:=aj tM;clear tM hd;have hni:¬(65536:Int)<(n:Int):=by omega
 have Hb:=hbz w;go_enter Tryz.func121,Tryz.ntmps121;go_wp2_with fail;refine gP w (Hb.an trivial) 3 [af (V:Int)] 41 [af 0,.slice none 0 0] λW aG ae ai=>?_;go_wp2_with fail;refine aK ae (EZ.out _) λw1 ae ai=>?_;have v0:w1.cell? ⟨w.heap.size,0,none⟩=some (af (V:Int)):=ae.1.out.cell 0;go_wp2_with fail;refine aK ae (EQ.out _ _ ae.2.2.1.out v0) λw2 ae ai=>?_;go_wp2_with fail;obtain⟨Hv,Hr,Hb,_⟩:=ae;have v0:=Hv.out.c1;obtain⟨r0,aZ,r1,bf⟩:=Hr.out.g2;refine fx (λw'=>aJ w' (w.heap.size) 0 (af (V:Int))) (λi=>Nat.blt i 6) [(0,true),(1,true),(2,false),(3,false),(4,true),(5,true),(6,false),(7,false)] zk zk rfl zk zc v0 ?_;iterate 2 (refine pT rfl rfl ?_;try simp only[UU])
 have ajR:=Hv;have lN:=Hr;have dQ:=Hb;refine aO rfl rfl (λK hK=>?_);go_simp;with_reducible refine(jD.out _ (by first|exact Hb.out|exact Hb.out.drew)).mono ?_
 rintro e w3 ⟨v1,rfl,cX,apn,hq⟩;have ak:Bw w2 w3:=by first|exact hq|exact cM hq
 replace Hv:=kB Hv ak;replace Hr:=kB Hr ak;have v0:=Hv.out.c1;obtain⟨r0,aZ,r1,bf⟩:=Hr.out.g2;replace Hb:=bj Hb ak;refine hK _ _ (λ_=>v0) ?_;try simp only[UU]
 refine aO rfl rfl (λK hK=>?_);go_simp;with_reducible refine(fV.out _ _ v1 (by first|exact dQ.out|exact dQ.out.drew) apn cX).mono ?_
 rintro e w4 ⟨a2,c2,rfl,fH,hq⟩;have ak:Bw w2 w4:=by first|exact hq|exact cM hq
 replace Hv:=aj (ajR.out.below ak);replace Hr:=aj (lN.out.below ak);have v0:=Hv.out.c1;obtain⟨r0,aZ,r1,bf⟩:=Hr.out.g2;replace Hb:=aj (aF dQ.out ak);refine hK _ _ (λ_=>v0) ?_;try simp only[UU]
 iterate 2 (refine pT rfl rfl ?_;try simp only[UU])
 refine aO rfl rfl (λK hK=>?_);go_simp;refine hK _ _ (by first|exact λh=>absurd h zd|exact λ_=>v0|exact λ_=>gG zg v0) ?_;try simp only[UU]
 refine aO rfl rfl (λK hK=>?_);go_simp;refine hK _ _ (λh=>absurd h zd) ?_;try simp only[UU]
 simp only[bH];go_wp2;refine CO (Hr.out) fH Hb.out zo ?_;intro w9 kx fC ml;obtain⟨p0,p1⟩:=kx.c2;exact bodyPost_ret (v:=.tuple #[.agg #[af (V:Int),.slice a2 C.length c2],af 0]) (by simp[results,Tryz.results121,go_sem,p0,p1]) rfl ⟨_,_,rfl,rS fC (by have:=dQ.out.size;exact this),ml⟩
def Af (w:World)(a:Option Addr)(C:List Trm):Prop:=C=[]\/∃b o cur,a=some ⟨b,o,none⟩/\w.heap[b]?=some (.cells cur 111)
def Af.below {w w':World}{a:Option Addr}{C:List Trm}(h:Af w a C)(hb:Bw w w'):Af w' a C:=by
 rcases h with h|⟨b,o,cur,h1,h2⟩
 . exact .inl h
 . exact .inr ⟨b,o,cur,h1,by rw[hb.block b (Array.getElem?_eq_some_iff.1 h2).1];exact h2⟩
def Af.off {w:World}{a:Option Addr}{C:List Trm}{g:Nat}{cur:Array Value}{t:TypeId}(h:Af w a C)(hg:w.heap[g]?=some (.cells cur t))(ht:t≠111)(i:Nat)(u:Value):Af (w.setCell ⟨g,i,none⟩ u) a C:=by
 rcases h with h|⟨b,o,cur',h1,h2⟩
 . exact .inl h
 . refine .inr ⟨b,o,cur',h1,?_⟩;have hne:b≠g:=λe=>by subst e;rw[hg]at h2;simp at h2;exact ht h2.2
   rw[Below.heap_setCell _ _ _ _ hne];exact h2
def aW (w:World)(a:Option Addr)(c:Nat)(C:List Trm):Prop:=At w a (C.flatMap aI)/\Sl a C.length c/\Af w a C
def aW.below {w w':World}{a:Option Addr}{c:Nat}{C:List Trm}(h:aW w a c C)(hb:Bw w w'):aW w' a c C:=⟨h.1.below hb,h.2.1,h.2.2.below hb⟩
instance {w :World} {a:Option Addr} {c:Nat} {C:List Trm}:QTr (aW w a c C) w (λW=>aW W a c C):=⟨λh _ k=>aW.below h k⟩
def vW (w:World)(a:Option Addr)(c:Nat)(C:List Trm):Prop:=At w a (C.flatMap aI)/\Sl a C.length c
def vW.below {w w':World}{a:Option Addr}{c:Nat}{C:List Trm}(h:vW w a c C)(hb:Bw w w'):vW w' a c C:=⟨h.1.below hb,h.2⟩
def aW.w {w:World}{a:Option Addr}{c:Nat}{C:List Trm}(h:aW w a c C):vW w a c C:=⟨h.1,h.2.1⟩
def aW.off {w:World}{a:Option Addr}{c:Nat}{C:List Trm}{g:Nat}{cur:Array Value}{t:TypeId}(h:aW w a c C)(hg:w.heap[g]?=some (.cells cur t))(ht:t≠111)(i:Nat)(u:Value):aW (w.setCell ⟨g,i,none⟩ u) a c C:=by
 refine⟨?_,h.2.1,h.2.2.off hg ht i u⟩;rcases h.2.2 with h'|⟨b,o,cur',rfl,h2⟩
 . subst h';exact .inl rfl
 . have hne:b≠g:=λe=>by subst e;rw[hg]at h2;simp at h2;exact ht h2.2
   rcases h.1 with h1|⟨b1,o1,e1,hc⟩
   . exact .inl h1
   . simp only[Option.some.injEq,Addr.mk.injEq,and_true]at e1;obtain⟨rfl,rfl⟩:=e1;refine .inr ⟨b,o,rfl,λj hj=>?_⟩;have h9:=hc j hj;rw[List.getElem?_eq_getElem hj]at h9⊢;exact aC (.inl hne) h9
def aW.store {w:World}{a:Option Addr}{c b:Nat}{t:TypeId}{C:List Trm}{cs:List Value}(h:aW w a c C)(hb:ar w b t cs)(ht:t≠111)(u v:Value):aW ((w.setCell ⟨b,0,none⟩ u).setCell ⟨b,1,none⟩ v) a c C:=
 (h.off hb ht 0 u).off (hb.set 0 u) ht 1 v
def BL {w:World}{base c:Nat}{a:Option Addr}{C:List Trm}(h:w.ownsRow base 111 4 (.slice a C.length c) C.length (C.flatMap aI)):aW w a c C:=by
 obtain⟨a',c',hv,hat,_⟩:=cw h;have hs:=yV h;simp only[Value.slice.injEq,true_and]at hv;obtain⟨rfl,rfl⟩:=hv;refine⟨hat,hs,?_⟩;rcases h.2 with⟨_,h2⟩ |⟨g,cap,cur,hv,hb,hg,_⟩
 . exact .inl (List.length_eq_zero_iff.1 h2)
 . simp only[Value.slice.injEq,true_and]at hv;exact .inr ⟨g,0,cur,hv.1,hg⟩
def awU (V:Nat):((List.range V).map λ_=>UInt8.ofNat 0)=lF V:=by
 unfold lF;apply List.ext_getElem
 . simp
 . intro i h1 h2;simp
def aed (V:Nat)(D:Dyadic)(x:Raw)(l:Nat->Dyadic)(h:dval x=D):aU [(lF V,x)]=cZ V D l 0:=by unfold cZ;refine CR (λm=>?_);simp only[fw,List.range_zero,List.map_nil,bR,bu,h]
def CS (V:Nat)(s:Bool)(m:List UInt8)(e:Int)(D:Dyadic)(B:Nat)(l:Nat->Dyadic)(w:World)(hV:V<=12)(hf:Fit B (s,m,e))(hB:B+3<=268435456)(hT:aB w)(hD:dval (s,m,e)=D):
 Cl 157 #[af (V:Int),.agg #[ag s,ah m,af e]] w λex w'=>∃a' c',ex=.returned (.tuple #[.agg #[af (V:Int),.slice a' (cZ V D l 0).length c'],af 0])/\aW w' a' c' (cZ V D l 0)/\Bw w w':=by
 have hC:=aed V D (s,m,e) l hD;obtain⟨C,Rz⟩:=au (cZ V D l 0);rw[Rz]at hC⊢;have hmk:=λW (hW:Bw w W) b (hb:ar W b 111 [ah (lF V),ag s,ah m,af e])=>aep V (some ⟨b,0,none⟩) 1 1 [(lF V,(s,m,e))] B W hV rfl zo (Sl.some _ _ _ (Nat.le_refl _)) (At.azW hb) (by intro t ht;simp at ht;subst ht;exact Wc V) (by intro t ht;simp at ht;subst ht;simp[lF];omega) (by intro t ht;simp at ht;subst ht;exact hf) zo (hT.below hW);rw[hC]at hmk;have tM:=λW=>LD (V:Int) W;have hd:decide (0<=(V:Int)/\(V:Int)<=12)=true:=by simp;omega
 rw[hd]at tM;have hmb:=λW=>xh (V:Int) V rfl zo W;have hcv:∀W b,Hid (ar W b 5 (dt V λ_=>0))->(convert 59 9 (.slice (some ⟨b,0,none⟩) V V)).run Tryz.prog W=.ok (ah (lF V)) W:=λW b h=>by rw[<-awU];exact Es h.out V
 obtain⟨oJ,EZ⟩:=aH hmk tM;clear hmk tM hd hC Rz hT hf hD;have Hb:=hbz w;go_enter Tryz.func157,Tryz.ntmps157;go_wp2_with fail;refine gP w (Hb.an trivial) 45 [ag s,ah m,af e] 41 [af 0,.slice none 0 0] λW aG ae ai=>?_;go_wp2_with fail;refine aK ae (EZ.out _) λw1 ae ai=>?_;go_wp2_with fail;obtain⟨Hc,Hr,Hb,_⟩:=ae;obtain⟨c0,c1,c2⟩:=Hc.out.c3;obtain⟨r0,aZ,r1,bf⟩:=Hr.out.g2;refine fx (λw'=>aJ w' (w.heap.size) 0 (ag s)/\aJ w' (w.heap.size) 1 (ah m)/\aJ w' (w.heap.size) 2 (af e)) (λi=>Nat.blt i 10) [(0,true),(1,true),(4,true),(2,false),(3,false),(5,true),(6,false),(7,false),(8,true),(9,true),(10,false),(11,false)] zk zk rfl zk zc ⟨c0,c1,c2⟩ ?_;iterate 3 (refine pT rfl rfl ?_ (by intro w' ⟨q0,q1,q2⟩;go_simp;try with_reducible rfl);try simp only[UU])
 refine aO rfl rfl (λK hK=>?_);go_simp;refine hK _ _ (λ_=>⟨aM c0,aM c1,aM c2⟩) ?_;try simp only[UU]
 refine cg (λW3=>ar W3 (w1.heap.size) 5 (dt V (λ_=>0))/\Bw w1 W3) (by first|exact iY|exact iZ) ?_;rintro W3 ⟨qq,ak⟩;have ay0:=Hc.out.lt;have ay6:=Hr.out.lt;replace Hc:=kB Hc ak;replace Hr:=kB Hr ak;have Hq:=aj qq;clear qq;obtain⟨c0,c1,c2⟩:=Hc.out.c3;obtain⟨r0,aZ,r1,bf⟩:=Hr.out.g2;replace Hb:=bj Hb ak;refine aO rfl rfl (λK hK=>?_);go_simp;refine hK _ _ (λ_=>⟨c0,c1,c2⟩) ?_;try simp only[UU]
 refine pT rfl rfl ?_;try simp only[UU]
 refine aO rfl rfl (λK hK=>?_);go_simp;refine hK _ _ (λ_=>⟨aM c0,aM c1,aM c2⟩) ?_;try simp only[UU]
 refine cg (λW4=>ar W4 (W3.heap.size) 111 [ah (lF V),ag s,ah m,af e]/\Bw W3 W4) (by first|exact iY|exact iZ) ?_;rintro W4 ⟨qz,ak⟩;have arE:=Hc.out.lt;have ay7:=Hr.out.lt;have ay4:=Hq.out.lt;replace Hc:=kB Hc ak;replace Hr:=kB Hr ak;replace Hq:=kB Hq ak;have Hz:=aj qz;clear qz;obtain⟨c0,c1,c2⟩:=Hc.out.c3;obtain⟨r0,aZ,r1,bf⟩:=Hr.out.g2;obtain⟨z0,z1,z2,z3⟩:=Hz.out.c4;replace Hb:=bj Hb ak;refine aO rfl rfl (λK hK=>?_);go_simp;with_reducible refine(oJ.out _ Hb.out _ Hz.out).mono ?_
 rintro e w5 ⟨a2,d2,rfl,fH,hq⟩;have ak:Bw W4 w5:=by first|exact hq|exact cM hq
 obtain⟨Hc,c0,c1,c2⟩:=Uc Hc ak;obtain⟨Hr,r0,aZ,r1,bf⟩:=dS Hr ak;replace Hq:=kB Hq ak;obtain⟨Hz,z0,z1,z2,z3⟩:=Ea Hz ak;replace Hb:=bj Hb ak;refine hK _ _ (λ_=>⟨c0,c1,c2⟩) ?_;try simp only[UU]
 iterate 2 (refine pT rfl rfl ?_;try simp only[UU])
 refine aO rfl rfl (λK hK=>?_);go_simp;refine hK _ _ (by first|exact λh=>absurd h zd|exact λ_=>⟨c0,c1,c2⟩ |exact λ_=>⟨(by first|exact c0|exact aC zf c0|exact aC zf (aC zf c0) |exact aC zf (aC zf (aC zf c0))),(by first|exact c1|exact aC zf c1|exact aC zf (aC zf c1) |exact aC zf (aC zf (aC zf c1))),(by first|exact c2|exact aC zf c2|exact aC zf (aC zf c2) |exact aC zf (aC zf (aC zf c2)))⟩) ?_;try simp only[UU]
 refine aO rfl rfl (λK hK=>?_);go_simp;refine hK _ _ (λh=>absurd h zd) ?_;try simp only[UU]
 simp only[bH];go_wp2;refine CO (Hr.out) fH Hb.out zo ?_;intro w9 kx fC ml;obtain⟨p0,p1⟩:=kx.c2;exact bodyPost_ret (v:=.tuple #[.agg #[af (V:Int),.slice a2 C.length d2],af 0]) (by simp[results,Tryz.results157,go_sem,p0,p1]) rfl ⟨_,_,rfl,BL fC,ml⟩
def av0 (V k:Nat):((List.range V).map λj=>UInt8.ofNat (if j=k then 1 else 0))=cB V k:=by
 unfold cB;apply List.ext_getElem
 . simp
 . intro i h1 h2;rw[List.getElem_map,List.getElem_range,List.getElem_set];by_cases h:k=i
   . subst h;simp
   . rw[if_neg (λe=>h e.symm),if_neg h];simp
def av1 :Fit 1 (canon (1:Dyadic)):=Sm.one.fit zd
def agb (V k:Nat)(w:World)(hV:V<=12)(hk:k<V)(hT:aB w):
 Cl 162 #[af (V:Int),af (k:Int)] w λex w'=>∃a' c',ex=.returned (.tuple #[.agg #[af (V:Int),.slice a' (aU [(cB V k,canon 1)]).length c'],af 0])/\aW w' a' c' (aU [(cB V k,canon 1)])/\Bw w w':=by
 obtain⟨C,hC⟩:=au (aU [(cB V k,canon 1)]);rw[hC];obtain⟨O,hO⟩:∃O:Dyadic,(1:Dyadic)=O:=⟨_,rfl⟩;have hmk:=λW (hW:Bw w W) b (hb:ar W b 111 [ah (cB V k),ag (az (dN O)),ah (nt (dN O).natAbs),af (dE O)])=>aep V (some ⟨b,0,none⟩) 1 1 [(cB V k,canon 1)] 1 W hV rfl zo (Sl.some _ _ _ (Nat.le_refl _)) (by rw[hO];exact At.azW hb) (by intro t ht;simp at ht;subst ht;exact ND V k) (by intro t ht;simp at ht;subst ht;simp[cB];omega) (by intro t ht;simp at ht;subst ht;exact av1) zo (hT.below hW);rw[hC]at hmk;have hof:=λW (hW:Bw w W)=>CV 1 O hO W zd (hT.below hW);have tM:=λW=>LD (V:Int) W;have hd:decide (0<=(V:Int)/\(V:Int)<=12)=true:=by simp;omega
 rw[hd]at tM;have hmb:=λW=>xh (V:Int) V rfl zo W;have hcv:∀W b,Hid (ar W b 5 (dt V λj=>if j=k then 1 else 0))->(convert 59 9 (.slice (some ⟨b,0,none⟩) V V)).run Tryz.prog W=.ok (ah (cB V k)) W:=λW b h=>by rw[<-av0 V k];exact Es h.out V
 have aX:=λb=>yL V V k (k:Int) (rfl:(some ⟨b,0,none⟩:Option Addr)=_) hk rfl;simp only[Nat.zero_add,Nat.mul_one]at aX;have hget:(dt V λ_=>0)[k]?=some (.int .u8 0):=nH _ _ _ hk;have mZ:(dt V λ_=>0).set k (.int .u8 1)=dt V λj=>if j=k then 1 else 0:=Et V _ k 1
 obtain⟨oJ,nR,EZ⟩:=bM hmk hof tM;clear hmk hof tM hd hC hT hO;have uX:¬(k:Int)<0:=by omega
 have Hb:=hbz w;go_enter Tryz.func162,Tryz.ntmps162;go_wp2_with fail;refine cF w (Hb.an trivial) 41 [af 0,.slice none 0 0] λW aG ae ai=>?_;go_wp2_with fail;refine aK ae (EZ.out _) λw1 ae ai=>?_;go_wp2_with fail;obtain⟨R,hR⟩:∃R:World->Prop,(λW3=>ar W3 w1.heap.size 5 (dt V λj=>if j=k then 1 else 0)/\Bw w1 W3)=R:=⟨_,rfl⟩;first|refine eN R ?hR ?_|refine eJ R ?hR ?_
 case hR=>subst hR;exact⟨ar.newAt w1 _ _ (b:=w1.heap.size) rfl,zl⟩
 subst hR;intro W3 ⟨qm,ak⟩;obtain⟨ae,ai⟩:=qX ak ae;skip
 have Hm:=aj qm;clear qm ak hget mZ aX hmb;obtain⟨Hr,Hb,_⟩:=ae;obtain⟨r0,aZ,r1,bf⟩:=Hr.out.g2;have qT:∀w',iK W3 w'->(convert 59 9 (.slice (some ⟨w1.heap.size,0,none⟩) V V)).run Tryz.prog w'=.ok (ah (cB V k)) w':=λw' h=>hcv w' _ (aj (Hm.out.below h));have lH:Hid (iK W3 W3):=Below.refl _ _;refine fx (λw'=>iK W3 w') (λi=>Nat.blt i 9) [(0,true),(1,true),(2,true),(3,false),(4,true),(5,false),(6,false),(7,true),(8,true),(9,false),(10,false)] zk zk rfl zk zc lH.out.drew ?_;iterate 3 (refine UT rfl rfl (v:=?_) (λw' hw'=>?_) ?_;rotate_left;(focus have hw':=qT w' hw';go_simp;try with_reducible rfl);try simp only[UU])
 refine aO rfl rfl (λK hK=>?_);go_simp;with_reducible refine(nR.out _ (by first|exact Hb.out|exact Hb.out.drew)).mono ?_
 rintro e w4 ⟨rfl,hq⟩;have ak:Bw W3 w4:=by first|exact hq|exact cM hq
 replace lH:=aj (lH.out.below ak);obtain⟨Hr,r0,aZ,r1,bf⟩:=dS Hr ak;replace Hb:=bj Hb ak;refine hK _ _ (λ_=>lH.out) ?_;try simp only[UU]
 refine pT rfl rfl ?_;try simp only[UU]
 refine aO rfl rfl (λK hK=>?_);go_simp;refine hK _ _ (λ_=>by first|exact lH.out.alloc _|exact(lH.out.alloc _).drew|exact(lH.out.drew).alloc _) ?_;try simp only[UU]
 refine cg (λW5=>ar W5 (w4.heap.size) 111 [ah (cB V k),ag (az (dN O)),ah (nt (dN O).natAbs),af (dE O)]/\Bw w4 W5) (by first|exact iY|exact iZ) ?_;rintro W5 ⟨qz,ak⟩;have ay8:=Hr.out.lt;replace lH:=aj (lH.out.below ak);replace Hr:=kB Hr ak;have Hz:=aj qz;clear qz;obtain⟨r0,aZ,r1,bf⟩:=Hr.out.g2;obtain⟨z0,z1,z2,z3⟩:=Hz.out.c4;replace Hb:=bj Hb ak;refine aO rfl rfl (λK hK=>?_);go_simp;with_reducible refine(oJ.out _ Hb.out _ Hz.out).mono ?_
 rintro e w6 ⟨a2,d2,rfl,fH,hq⟩;have ak:Bw W5 w6:=by first|exact hq|exact cM hq
 replace lH:=aj (lH.out.below ak);obtain⟨Hr,r0,aZ,r1,bf⟩:=dS Hr ak;obtain⟨Hz,z0,z1,z2,z3⟩:=Ea Hz ak;replace Hb:=bj Hb ak;refine hK _ _ (λ_=>lH.out) ?_;try simp only[UU]
 iterate 2 (refine pT rfl rfl ?_;try simp only[UU])
 refine aO rfl rfl (λK hK=>?_);go_simp;refine hK _ _ (by first|exact λh=>absurd h zd|exact λ_=>lH.out|exact λ_=>gG zg lH.out) ?_;try simp only[UU]
 refine aO rfl rfl (λK hK=>?_);go_simp;refine hK _ _ (λh=>absurd h zd) ?_;try simp only[UU]
 simp only[bH];go_wp2;refine CO (Hr.out) fH Hb.out zo ?_;intro w9 kx fC ml;obtain⟨p0,p1⟩:=kx.c2;exact bodyPost_ret (v:=.tuple #[.agg #[af (V:Int),.slice a2 C.length d2],af 0]) (by simp[results,Tryz.results162,go_sem,p0,p1]) rfl ⟨_,_,rfl,BL fC,ml⟩
def Bz {l:List UInt8}{V:Nat}(h:df l (V:Int)=true):l.length=V:=by unfold df at h;rw[Bool.and_eq_true]at h;have:=h.2;simp at this;omega
def dU (V B:Nat)(ts:List Trm):Prop:=FM V ts/\∀t∈ts,Fit B t.2
def dU.chk {V B:Nat}{ts:List Trm}(h:dU V B ts):∀t∈ts,t.1.length<=9223372036854775807/\Ok t.2:=λt ht=>⟨by have:=Bz (h.1.2.1 t ht);have:=h.1.2.2.2;omega,(h.2 t ht).1⟩
def afs (V:Nat)(a:Option Addr)(cap:Nat)(ts:List Trm)(s:Bool)(m:List UInt8)(e:Int)(D:Dyadic)(B:Nat)(w:World)(hp:dU V B ts)(ha:vW w a cap ts)(hf:Fit B (s,m,e))(hB:2*B+8192<=268435456)(hT:aB w)(hD:dval (s,m,e)=D):
 Cl 159 #[.agg #[af (V:Int),.slice a ts.length cap],.agg #[ag s,ah m,af e]] w λex w'=>∃a' c',ex=.returned (.tuple #[.agg #[af (V:Int),.slice a' (aU (cz D ts)).length c'],af 0])/\aW w' a' c' (aU (cz D ts))/\Bw w w':=by
 obtain⟨n,hn⟩:=au ts.length;have hnl:n<=4096:=by have:=hp.1.2.2.1;omega
 have hV:V<=12:=hp.1.2.2.2;obtain⟨C,hC⟩:=au (aU (cz D ts));have pV:(cz D ts).length=n:=by unfold cz;rw[List.length_map,hn]
 have hSf:∀t∈cz D ts,Fit (2*B) t.2:=by intro t ht;unfold cz at ht;obtain⟨x,hx,rfl⟩:=List.mem_map.1 ht;refine Sm.fit ?_ zo;have:=Sm.mul (hp.2 x hx).2 hf.2;rw[hD]at this;exact this.mono zo
 have cN:=λW (hW:Bw w W)=>Ek (V:Int) a cap n ts W hn zo (ha.1.below hW) hp.chk (hT.below hW);rw[UO hp.1]at cN;have hs:=ha.2;rw[hn]at hs;have hcn:=λW (hW:Bw w W)=>(QK a n cap ts W hn zo hs (ha.1.below hW)).mono (λe w' h=>(match h with|⟨v,h1,h2,h3⟩=>⟨v,h1,h2,h3,h3⟩:∃v',e=.returned v'/\w'.ownsRow W.heap.size 111 4 v' n (ts.flatMap aI)/\Bw W w'/\Bw W w'));have hcl:=λw0 W v (hw0:Bw w w0) (hb0:Bw w0 W) (ho:W.ownsRow w0.heap.size 111 4 v n ((cz D ts).flatMap aI))=>Lf (V:Int) v n (cz D ts) C (2*B) w0 W hb0 pV hnl ho hSf zo (hT.below hw0) hC;have fp:=hp.2;rw[hn,hC];obtain⟨fQ,jD,fV,oH,HT,Hn,Hfc,HD⟩:=nk cN hcn hcl fp hT hn hf hD;clear cN hcn hcl fp hT hn hf hD hC pV hSf hs ha hp;have Hb:=hbz w;go_enter Tryz.func159,Tryz.ntmps159;go_wp2_with fail;refine yZ w (Hb.an trivial) 41 [af (V:Int),.slice a n cap] 45 [ag s,ah m,af e] 41 [af 0,.slice none 0 0] λW aG ae ai=>?_;go_wp2_with fail;refine aK ae (fQ.out _ ae.2.2.2.1.out) λw1 ae ai=>?_;obtain⟨Hp,Hc,Hr,Hb,_⟩:=ae;obtain⟨p0,p1⟩:=Hp.out.c2;obtain⟨c0,c1,c2⟩:=Hc.out.c3;obtain⟨r0,aZ,r1,bf⟩:=Hr.out.g2;have Fl:=Hp;have Oq:=Hc;have lN:=Hr;have dQ:=Hb;go_wp2_with fail;refine(jD.out _ Hb.out).mono ?_;rintro e w2 ⟨v1,rfl,cX,yr,ak⟩;obtain⟨ae,ai⟩:=qX ak (Hb.an<|Hp.an<|Hc.an<|Hr.an trivial);obtain⟨a1,d1,rfl,_,_⟩:=cw cX;obtain⟨qY,WY⟩:=aH cX yr;clear cX yr;go_wp2_with fail;go_loopw[20] (λx wr=>∃(k:Nat) (C:List Trm),k<=n/\x=af (k:Int)/\C.length=n/\C.take k=(cz D ts).take k/\C.drop k=ts.drop k/\wr.ownsRow w1.heap.size 111 4 (.slice a1 n d1) n (C.flatMap aI)/\Bw w1 wr) (λx _=>n-(intOf x).toNat);case atStart=>exact⟨0,ts,Nat.zero_le _,rfl,Hn.out,rfl,rfl,qY.out,WY.out⟩
 case round=>
  clear qY WY;obtain⟨k,C',hk,rfl,hC,htk,hdr,hov,pb⟩:=hrel;obtain⟨Hp,Hc,Hr⟩:=bM (Fl.out.below pb) (Oq.out.below pb) (lN.out.below pb);have dM:=aF dQ.out pb;have BV:=dQ.out.size;by_cases hlt:k<n
  . obtain⟨g,cc,he,hg1,hg2,hg3⟩:=ui hov zo;simp only[Value.slice.injEq,true_and]at he;obtain⟨rfl,rfl⟩:=he;have wJ:k<C'.length:=by omega
    have AR:k<ts.length:=by have:=Hn.out;omega
    have hel:=ZP hdr wJ AR;obtain⟨l,s1,q1,e1,hx⟩:∃l s m e,C'[k]=(l,s,m,e):=⟨_,_,_,_,rfl⟩;have dY:=oH.out _ (List.getElem_mem AR);rw[<-hel,hx]at dY;obtain⟨X,hX⟩:=au (dval (s1,q1,e1) *D);have mZ:=aeq (λx=>(x.1,canon (dval x.2*D))) ts C' k wJ (by rw[hC,Hn.out]) htk hel;have GK:(C'[k].1,canon (dval C'[k].2*D))=(l,canon X):=by rw[hx,<-hX]
    have adg:(C'.set k (l,canon X)).take (k+1)=(cz D ts).take (k+1):=by rw[<-GK];exact mZ
    have lh:C'[k].1=l:=by rw[hx]
    obtain⟨_,y1,y2,y3⟩:=(Nj hov k wJ hx).w4;have hd2:C'.drop (k+1)=ts.drop (k+1):=by rw[<-List.drop_drop,<-List.drop_drop,hdr]
    have aX:=gX n d1 k (k:Int) (rfl:(some ⟨g,0,none⟩:Option Addr)=_) hlt rfl;rw[Nat.zero_add]at aX;have Hz:Hid (aQ wr g (k*4+1) [ag s1,ah q1,af e1]):=iI y1 y2 y3;have HX:Hid (dval (s1,q1,e1) *dval (s,m,e)=X):=by show _=_;rw[HD.out];exact hX
    obtain⟨cV,aP,Fv,vL,HC,Ox,jd,zG⟩:=nk hov pb adg hd2 hC lh dY (HT.out.below dM);have ic:=pb.size;clear hov pb mZ adg hd2 hC htk hdr hel hx hX GK lh dY AR y1 y2 y3 dM Fl Oq lN Hp Hr;have Hb:=hbz wr;go_wp2_with fail;obtain⟨ae,ai⟩:=qZ (Hc.an<|Hz.an trivial);have HU:Hid (aB wr):=zG.out;obtain⟨Hc,Hz,_⟩:=ae;obtain⟨c0,c1,c2⟩:=Hc.out.c3;obtain⟨z0,z1,z2⟩:=Hz.out.w3;refine fx (λw'=>aJ w' (w.heap.size+1) 0 (ag s)/\aJ w' (w.heap.size+1) 1 (ah m)/\aJ w' (w.heap.size+1) 2 (af e)/\aJ w' g (k*4+1) (ag s1)/\aJ w' g (k*4+1+1) (ah q1)/\aJ w' g (k*4+1+2) (af e1)) (λi=>Nat.blt i 12) [(0,true),(1,true),(2,true),(3,true),(4,true),(5,true),(6,true),(7,true),(8,false),(9,false),(10,true),(11,true),(12,false)] zk zk rfl zk zc ⟨c0,c1,c2,z0,z1,z2⟩ ?_;iterate 8 (refine pT rfl rfl ?_ (by intro w' ⟨q0,q1,q2,q3,q4,q5⟩;go_simp;try with_reducible rfl);try simp only[UU])
    refine aO rfl rfl (λK hK=>?_);go_simp;refine hK _ _ (λ_=>⟨aM c0,aM c1,aM c2,aM z0,aM z1,aM z2⟩) ?_;try simp only[UU]
    refine cg (λW4=>ar W4 (wr.heap.size) 45 [ag s1,ah q1,af e1,ag s,ah m,af e]/\Bw wr W4) (by first|exact iY|exact iZ) ?_;rintro W4 ⟨qv,ak⟩;have arE:=Hc.out.lt;replace Hc:=kB Hc ak;replace Hz:=kW Hz ak;replace HU:=kT HU ak;have Hv:=aj qv;clear qv;obtain⟨c0,c1,c2⟩:=Hc.out.c3;obtain⟨z0,z1,z2⟩:=Hz.out.w3;obtain⟨v0,v1,v2,v3,v4,v5⟩:=Hv.out.c6;replace Hb:=bj Hb ak;refine aO rfl rfl (λK hK=>?_);go_simp;with_reducible refine(Am s1 q1 e1 s m e X B HX.out wr.heap.size _ 45 _ jd.out Hfc.out zo Hv.out (by first|exact HU.out|exact aB.drew HU.out|exact aB.alloc HU.out _|exact aB.drew (aB.alloc HU.out _) |exact aB.alloc (aB.drew HU.out) _)).mono ?_
    rintro e w5 ⟨rfl,hq⟩;have ak:Bw W4 w5:=by first|exact hq|exact cM hq
    obtain⟨Hc,c0,c1,c2⟩:=Uc Hc ak;replace Hz:=kW Hz ak;replace HU:=kT HU ak;obtain⟨Hv,v0,v1,v2,v3,v4,v5⟩:=MV Hv ak;obtain⟨z0,z1,z2⟩:=Hz.out.w3;replace Hb:=bj Hb ak;refine hK _ _ (λ_=>⟨c0,c1,c2,z0,z1,z2⟩) ?_;try simp only[UU]
    iterate 2 (refine pT rfl rfl ?_;try simp only[UU])
    refine aO rfl rfl (λK hK=>?_);have iU:=ownsRow_below cV.out Hb.out;have yg:=jT iU (k*4+1);have Gk:=jT iU (k*4+1+1);have fz3:=jT iU (k*4+1+2);have dv:=aF aP.out Hb.out;obtain⟨zX,eu⟩:=aH iU dv;clear iU dv;go_simp;refine hK _ _ (λh=>absurd h zd) ?_;try simp only[UU]
    simp only[bH];go_wp2;refine⟨⟨k+1,C'.set k (l,canon X),by omega,by go_num,by rw[List.length_set];exact HC.out,Fv.out,by rw[QW _ _ _ _ zo];exact vL.out,?_,?_⟩,by simp[intOf];omega⟩
    . have h:=aeX zX.out k wJ (az (dN X)) (nt (dN X).natAbs) (dE X);rw[Ox.out]at h;exact h
    . exact((eu.out.setCell hg1 _).setCell hg1 _).setCell hg1 _
  . obtain rfl:k=n:=by omega
    have Gm:C'=cz D ts:=by rw[List.take_of_length_le zo,List.take_of_length_le (by unfold cz;rw[List.length_map];have:=Hn.out;omega)]at htk;exact htk
    rw[Gm]at hov;obtain⟨cV,aP⟩:=aH hov pb;have Hb:Hid (Bw w wr):=dM;clear hov pb htk hdr hC Gm dM;obtain⟨ae,ai⟩:=qZ (Hp.an<|Hr.an trivial);obtain⟨Hp,Hr,_⟩:=ae;obtain⟨p0,p1⟩:=Hp.out.c2;obtain⟨r0,aZ,r1,bf⟩:=Hr.out.g2;go_wp2_with fail;refine(fV.out w1 _ _ dQ.out aP.out cV.out).mono ?_;rintro e w6 ⟨a2,d2,rfl,fH,ak⟩;replace Hp:=aj (Fl.out.below ak);replace Hr:=aj (lN.out.below ak);obtain⟨p0,p1⟩:=Hp.out.c2;obtain⟨r0,aZ,r1,bf⟩:=Hr.out.g2;replace Hb:=aj (aF dQ.out ak);go_wp2;refine CO (Hr.out) fH Hb.out zo ?_;intro w9 kx fC ml;obtain⟨q0,q1⟩:=kx.c2;exact bodyPost_ret (v:=.tuple #[.agg #[af (V:Int),.slice a2 C.length d2],af 0]) (by simp[results,Tryz.results159,go_sem,q0,q1]) rfl ⟨_,_,rfl,BL fC,ml⟩
def Vr (V:Nat)(a:Option Addr)(cap:Nat)(ts:List Trm)(s:Bool)(m:List UInt8)(e:Int)(D:Dyadic)(B:Nat)(w:World)(hp:dU V B ts)(ha:aW w a cap ts)(hf:Fit B (s,m,e))(hB:2*B+8192<=268435456)(hT:aB w)(hD:dval (s,m,e)=D):
 Cl 159 #[.agg #[af (V:Int),.slice a ts.length cap],.agg #[ag s,ah m,af e]] w λex w'=>∃a' c',ex=.returned (.tuple #[.agg #[af (V:Int),.slice a' (aU (cz D ts)).length c'],af 0])/\aW w' a' c' (aU (cz D ts))/\Bw w w':=afs V a cap ts s m e D B w hp ha.w hf hB hT hD
def fE (w:World)(V B:Nat)(ps:List Pv)(Ts:Nat->List Trm):Prop:=∀k (h:k<ps.length),∃a c,ps[k]=⟨(V:Int),a,(Ts k).length,c⟩/\aW w a c (Ts k)/\dU V B (Ts k)
def fE.below {w w':World}{V B:Nat}{ps:List Pv}{Ts:Nat->List Trm}(h:fE w V B ps Ts)(hb:Bw w w'):fE w' V B ps Ts:=λk hk=>by obtain⟨a,c,h1,h2,h3⟩:=h k hk;exact⟨a,c,h1,h2.below hb,h3⟩
instance {w :World} {V B:Nat} {ps:List Pv} {Ts:Nat->List Trm}:QTr (fE w V B ps Ts) w (λW=>fE W V B ps Ts):=⟨λh _ k=>fE.below h k⟩
def xW (w:World)(V B:Nat)(ps:List Pv)(Ts:Nat->List Trm):Prop:=∀k (h:k<ps.length),∃a c,ps[k]=⟨(V:Int),a,(Ts k).length,c⟩/\vW w a c (Ts k)/\dU V B (Ts k)
def xW.below {w w':World}{V B:Nat}{ps:List Pv}{Ts:Nat->List Trm}(h:xW w V B ps Ts)(hb:Bw w w'):xW w' V B ps Ts:=λk hk=>by obtain⟨a,c,h1,h2,h3⟩:=h k hk;exact⟨a,c,h1,h2.below hb,h3⟩
instance {w :World} {V B:Nat} {ps:List Pv} {Ts:Nat->List Trm}:QTr (xW w V B ps Ts) w (λW=>xW W V B ps Ts):=⟨λh _ k=>xW.below h k⟩
def below_drewN {n:Nat}{w w':World}(h:Below n w w')(k:Nat):Below n w (w'.drewN k):=by
 induction k with
 |zero=>exact h
 |succ k ih=>exact ih.drew
def aq7 (V V':Int)(aT:Option Addr)(nT cT:Nat)(bl:Nat)(b o L cap:Nat)(q:Value)(w:World)(hc:w.cell? ⟨bl,0,none⟩=some (.slice (some ⟨b,o,none⟩) L cap))(hL:0<L)(hw:aQ w b o [af V,q]):
 Cv 273 #[.agg #[af V',.slice aT nT cT],.pointer (some ⟨bl,0,none⟩)] w (ag (V' !=V)):=by
 have aX:=ue L cap 0 0 (rfl:(some ⟨b,o,none⟩:Option Addr)=_) hL rfl;rw[Nat.zero_mul,Nat.add_zero]at aX;have h0:w.cell? ⟨b,o,none⟩=some (af V):=by have:=hw.w2.1;exact this
 obtain⟨Hc,H0⟩:=aH hc h0;clear hc h0 hw;obtain⟨W,cd,ae,ai⟩:=fJ w 41 [af V',.slice aT nT cT];have k1:=cell_later ae.1.out Hc.out;have k2:=cell_later ae.1.out H0.out;go_enter Tryz.func273,Tryz.ntmps273;go_wp2_with fail;go_quiet (fail)
 go_wp2;refine bodyPost_ret (results_tmp rfl _ _ _) rfl ⟨rfl,(below_drewN ae.1.out _)⟩
def ad8 (V B:Nat)(b o L cap:Nat)(ps:List Pv)(Ts:Nat->List Trm)(w:World)(hL:ps.length=L)(pS:0<L)(yl:L<=65536)(ha:At w (some ⟨b,o,none⟩) (ps.flatMap ib))(hp:xW w V B ps Ts)(hT:aB w):
 Cv 229 #[.slice (some ⟨b,o,none⟩) L cap] w (af 0):=by
 have eg:∀args w,(callFunc 273 args).run Tryz.prog w=.ok (.enter 273 args) w:=enters_of Tryz.func273 zk rfl;have hct:∀W bl,Bw w W->W.cell? ⟨bl,0,none⟩=some (.slice (some ⟨b,o,none⟩) L cap)->Cv 147 #[.slice (some ⟨b,o,none⟩) L cap,.func (.func 273) #[] #[.pointer (some ⟨bl,0,none⟩)]] W (ag false):=by
  intro W bl hW hc;obtain⟨a0,c0,e0,_,_⟩:=hp 0 zo;obtain⟨b',o',hab,bY⟩:=(ha.below hW).azZ 0 zo e0;simp only[Option.some.injEq,Addr.mk.injEq,and_true]at hab;obtain⟨rfl,rfl⟩:=hab;rw[Nat.zero_mul,Nat.add_zero]at bY;have h:=Zn (some ⟨b,o,none⟩) L cap ps 273 #[.pointer (some ⟨bl,0,none⟩)] (λp=>p.V !=(V:Int)) W hL zo (ha.below hW) eg (λx hx W2 hW2=>by simpa using aq7 (V:Int) x.V x.a x.n x.c bl b o L cap _ W2 (cell_later hW2 hc) pS (bY.below hW2));have hf:(ps.any λp=>p.V !=(V:Int))=false:=by rw[List.any_eq_false];intro p Be;obtain⟨k,hk,rfl⟩:=List.mem_iff_getElem.1 Be;obtain⟨a,c,e1,_,_⟩:=hp k hk;rw[e1];simp
  rwa [hf]at h
 have cN:=λW (hW:Bw w W) k (hk:k<ps.length)=>(show ∃a c,ps[k]=⟨(V:Int),a,(Ts k).length,c⟩/\Cv 79 #[.agg #[af (V:Int),.slice a (Ts k).length c]] W (af 0)from by
  obtain⟨a,c,e1,h1,h2⟩:=hp k hk;refine⟨a,c,e1,?_⟩;have h:=Ek (V:Int) a c (Ts k).length (Ts k) W rfl (by have:=h2.1.2.2.1;omega) (h1.1.below hW) h2.chk (hT.below hW)
  rwa [UO h2.1]at h)
 obtain⟨EQ,fQ,Ha,HL⟩:=cG hct cN ha hL;clear hct cN ha hL hp hT eg;have hLn:((L:Int)==0)=false:=by simp;omega
 have Hb:=hbz w;go_enter Tryz.func229,Tryz.ntmps229;go_wp2_with fail;refine cF w (Hb.an trivial) 51 [.slice (some ⟨b,o,none⟩) L cap] λW aG ae ai=>?_;go_loopw[8] (λx wr=>∃k:Nat,k<=L/\x=af (k:Int)/\Bw W wr) (λx _=>L-(intOf x).toNat);case atStart=>exact⟨0,Nat.zero_le _,rfl,Below.refl _ _⟩
 case round=>
  skip
  obtain⟨k,hk,rfl,pb⟩:=hrel;obtain⟨dM,hl,aP⟩:=bM (aF ae.2.1.out pb) (ae.1.out.below pb) pb;clear pb;by_cases hlt:k<L
  . have hk2:k<ps.length:=by rw[HL.out];exact hlt
    obtain⟨a1,c1,e1,hcall⟩:=fQ.out wr dM.out k hk2;obtain⟨b',o',hab,bY⟩:=(Ha.out.below dM.out).azZ k hk2 e1;obtain⟨rfl,rfl⟩:b=b'/\o=o':=by simp at hab;exact hab
    have hcall:=λW (hW:Bw w W)=>(fQ.out W hW k hk2);have aX:=ue L cap k (k:Int) (rfl:(some ⟨b,o,none⟩:Option Addr)=_) hlt rfl;obtain⟨nT,tT⟩:=au ((Ts k).length);have SA:Hid (∀W,Bw w W->Cv 79 #[.agg #[af (V:Int),.slice a1 nT c1]] W (af 0)):=by intro W hW;obtain⟨a2,c2,e2,h2⟩:=hcall W hW;rw[e1]at e2;simp only[Pv.mk.injEq,true_and]at e2;obtain⟨rfl,rfl⟩:=e2;rw[tT]at h2;exact h2
    rw[tT]at bY;have Hx:Hid (aQ wr b (o+k*2) [af (V:Int),.slice a1 nT c1]):=bY;clear bY hcall hab e1 tT;have Hb:=hbz wr;obtain⟨ae,ai⟩:=qZ (Hx.an trivial);have x0:wr.cell? ⟨b,o+k*2,none⟩=some (af (V:Int)):=ae.1.out.cell 0 zm;have x1:wr.cell? ⟨b,o+k*2+1,none⟩=some (.slice a1 nT c1):=ae.1.out.cell 1 zm;have P0:=x0;have P1:=x1;obtain⟨W3,Di,aG,ae,ai⟩:=bO wr (Hb.an ae) 41 [af (V:Int),.slice a1 nT c1];go_wp2_with fail;refine aK ae (SA.out _ (aF dM.out ae.2.1.out)) λw4 ae ai=>?_;go_wp2;go_roundw;case rel=>exact⟨k+1,by omega,by go_num,aF aP.out ae.2.1.out⟩
    case measure=>exact bi
  . obtain rfl:k=L:=by omega
    have Hb:=dM;have Hl:=hl;obtain⟨ae,ai⟩:=qZ (Hl.an trivial);have l0:wr.cell? ⟨w.heap.size,0,none⟩=some (.slice (some ⟨b,o,none⟩) k cap):=ae.1.out.cell 0;go_wp2_with fail;refine aK (Hb.an ae) (EQ.out _ _ Hb.out l0) λw6 ae ai=>?_;go_wp2;go_ret;exact⟨rfl,ae.1.out⟩
def jk (Ts:Nat->List Trm):Nat->List Trm
 |0=>[]
 |k+1=>gw (jk Ts k) (Ts k)
def nS (Ts:Nat->List Trm):Nat->List Trm
 |0=>[]
 |k+1=>nS Ts k++Ts k
def amc (Ts:Nat->List Trm)(k:Nat)(m:List UInt8):bR (jk Ts k) m=bR (nS Ts k) m:=by
 induction k with
 |zero=>rfl
 |succ k ih=>unfold jk nS;rw[Zk,Ai,ih]
def aeE (Ts:Nat->List Trm)(k:Nat):(jk Ts k).length<=(nS Ts k).length:=by
 induction k with
 |zero=>exact Nat.le_refl _
 |succ k ih=>unfold jk nS;have:=aeD (jk Ts k) (Ts k);rw[List.length_append];omega
def YY (Ts:Nat->List Trm)(j k:Nat)(h:j<=k):(nS Ts j).length<=(nS Ts k).length:=by
 induction k with
 | zero => obtain rfl:j=0:=by omega
           exact Nat.le_refl _
 | succ k ih=>
   by_cases e:j=k+1
   . subst e;exact Nat.le_refl _
   . have:=ih zo;rw[show nS Ts (k+1)=nS Ts k++Ts k from rfl,List.length_append];omega
def ar6 {B:Nat}(Ts:Nat->List Trm)(k:Nat)(h:∀j,j<k->∀t∈Ts j,Fit B t.2)(hB:B+k<=268435456):∀t∈jk Ts k,Fit (B+k) t.2:=by
 induction k with
 |zero=>intro t ht;cases ht
 |succ k ih=>unfold jk;have:=aeC (B:=B+k) (jk Ts k) (Ts k) (ih (λj hj=>h j zo) zo) (λt ht=>(h k zo t ht).mono zo) zo;exact this
def ate (V B:Nat)(b o L cap:Nat)(ps:List Pv)(Ts:Nat->List Trm)(C:List Trm)(w:World)(hL:ps.length=L)(pS:0<L)(yl:L<=65536)(ha:At w (some ⟨b,o,none⟩) (ps.flatMap ib))(hp:xW w V B ps Ts)(hn:(nS Ts L).length<=4096)(hB:B+L+8192<=268435456)(hT:aB w)(hC:aU (nS Ts L)=C):
 Cl 160 #[.slice (some ⟨b,o,none⟩) L cap] w λex w'=>∃a' c',ex=.returned (.tuple #[.agg #[af (V:Int),.slice a' C.length c'],af 0])/\aW w' a' c' C/\Bw w w':=by
 have Gf:=enters_of Tryz.func231 zk rfl;have Ge:=enters_of Tryz.func232 zk rfl;have hlk:=λW (hW:Bw w W)=>ad8 V B b o L cap ps Ts W hL pS yl (ha.below hW) (hp.below hW) (hT.below hW);have hCm:aU (jk Ts L)=C:=by rw[<-hC];exact CR (amc Ts L)
 have mr:(jk Ts L).length<=4096:=Nat.le_trans (aeE Ts L) hn;have SG:∀j,j<L->∀t∈Ts j,Fit B t.2:=λj hj=>by obtain⟨a,c,_,_,h⟩:=hp j zo;exact h.2
 have uY:=λk (hk:k<=L)=>ar6 (B:=B) Ts k (λj hj=>SG j zo) zo;have hcl:=λw0 W v (hw0:Bw w w0) (hb0:Bw w0 W) (ho:W.ownsRow w0.heap.size 111 4 v (jk Ts L).length ((jk Ts L).flatMap aI))=>Lf (V:Int) v _ (jk Ts L) C (B+L) w0 W hb0 rfl mr ho (uY L (Nat.le_refl _)) zo (hT.below hw0) hCm;obtain⟨a0,c0,e0,_,_⟩:=hp 0 zo;obtain⟨b',o',hab,bY⟩:=ha.azZ 0 zo e0;obtain⟨rfl,rfl⟩:b=b'/\o=o':=by simp at hab;exact hab
 rw[Nat.zero_mul,Nat.add_zero]at bY;have qo:=ue L cap 0 0 (rfl:(some ⟨b,o,none⟩:Option Addr)=_) pS rfl;rw[Nat.zero_mul,Nat.add_zero]at qo;obtain⟨n0,hn0⟩:=au ((Ts 0).length);rw[hn0]at bY;have hlb:b<w.heap.size:=World.block_lt_of_cell? w _ bY.w2.1;obtain⟨Pb,fV,Hmf,Hp,Ha,HT,HL,OI,OH,EX,Hw,Fe⟩:=gL hlk hcl uY hp ha hT hL Gf Ge SG bY qo
 have jE:Hid (∀k,k<L->(jk Ts k).length<=4096/\(Ts k).length<=4096):=λk hk=>⟨Nat.le_trans (Nat.le_trans (aeE Ts k) (YY Ts k L zo)) hn,by
  have h1:=YY Ts (k+1) L zo
  rw[show nS Ts (k+1)=nS Ts k++Ts k from rfl,List.length_append]at h1;omega⟩
 clear hlk hcl uY hp ha hT hL Gf Ge SG bY qo hC hCm hn mr hab e0 hn0;have Hb:=hbz w;go_enter Tryz.func160,Tryz.ntmps160;go_wp2_with fail;refine cF w (Hb.an trivial) 41 [af 0,.slice none 0 0] λW aG ae ai=>?_;go_wp2_with fail;refine aK ae (Pb.out _ ae.2.1.out) λw1 ae ai=>?_;obtain⟨Hr,Hb,_⟩:=ae;obtain⟨r0,aZ,r1,bf⟩:=Hr.out.g2;have lN:=Hr;have dQ:=Hb;go_wp2_with fail;go_loopw[5,16] (λs5 x wr=>∃(k:Nat) (v:Value),k<=L/\x=af (k:Int)/\v=s5/\wr.ownsRow w1.heap.size 111 4 v (jk Ts k).length ((jk Ts k).flatMap aI)/\Bw w1 wr) (λ_ x _=>L-(intOf x).toNat);case atStart=>exact⟨0,_,Nat.zero_le _,rfl,rfl,World.ownsRow_nil _ _ _ _,Below.refl _ _⟩
 case round=>
  clear r0 aZ r1 bf Hr Hb;obtain⟨k,v,hk,rfl,rfl,ho,pb⟩:=hrel;have dM:=aF dQ.out pb;have BV:=dQ.out.size;have ic:=pb.size;by_cases hlt:k<L
  . have hk2:k<ps.length:=by rw[HL.out];exact hlt
    obtain⟨a1,c1,e1,hpl,hft⟩:=Hp.out k hk2;obtain⟨b',o',hab,bY⟩:=(Ha.out.below dM).azZ k hk2 e1;obtain⟨rfl,rfl⟩:b=b'/\o=o':=by simp at hab;exact hab
    have aX:=ue L cap k (k:Int) (rfl:(some ⟨b,o,none⟩:Option Addr)=_) hlt rfl;obtain⟨av,cv,rfl,yq,_⟩:=cw ho;have IJ:=yV ho;have gq:=jE.out k hlt;have yz:=Hmf.out k zo;have mo:=EX.out k hlt;have hsk:=hpl.2;have Hm:Hid (∀W,Bw wr W->Cl 230 #[.slice av (jk Ts k).length cv,.slice a1 (Ts k).length c1,.func (.func 231) #[] #[],.func (.func 232) #[] #[]] W λe w'=>∃v',e=.returned v'/\w'.ownsRow w1.heap.size 111 4 v' (jk Ts (k+1)).length ((jk Ts (k+1)).flatMap aI)/\Bw W w'):=by intro W hW;refine(aeu av _ cv (jk Ts k) a1 _ c1 (Ts k) (B+L) W rfl rfl IJ hsk zo zo (yq.below hW) (hpl.1.below (aF dM hW)) (λt ht=>(yz t ht).mono zo) (λt ht=>(mo t ht).mono zo) zo (HT.out.below (aF dM hW))).mono ?_;rintro e w' ⟨v',rfl,h1,h2⟩;exact⟨v',rfl,rS h1 (by have:=hW.size;omega),h2⟩
    obtain⟨nv,Tg⟩:=au ((jk Ts k).length);obtain⟨nT,tT⟩:=au ((Ts k).length);rw[Tg,tT]at Hm;rw[tT]at bY;have Hx:Hid (aQ wr b (o+k*2) [af (V:Int),.slice a1 nT c1]):=bY;have aP:=aj pb;rw[Tg];clear bY hab e1 tT Tg hpl hft ho yq IJ gq yz mo hsk pb dM;have Hb:=hbz wr;obtain⟨ae,ai⟩:=qZ (Hx.an trivial);have x0:wr.cell? ⟨b,o+k*2,none⟩=some (af (V:Int)):=ae.1.out.cell 0 zm;have x1:wr.cell? ⟨b,o+k*2+1,none⟩=some (.slice a1 nT c1):=ae.1.out.cell 1 zm;have P0:=x0;have P1:=x1;obtain⟨W3,Di,aG,ae,ai⟩:=bO wr (Hb.an ae) 41 [af (V:Int),.slice a1 nT c1];have Rh:=OI.out;have Lz:=OH.out;go_wp2_with fail;refine(Hm.out _ ae.2.1.out).mono ?_;rintro e w4 ⟨v',rfl,jQ,hb4⟩;have dv:=aF aP.out (aF ae.2.1.out hb4);obtain⟨Ho4,eu⟩:=aH jQ dv;clear Rh Lz jQ dv hb4;go_wp2;go_roundw;case rel=>exact⟨k+1,v',by omega,by go_num,rfl,Ho4.out,eu.out⟩
    case measure=>exact bi
  . obtain rfl:k=L:=by omega
    obtain⟨av,cv,rfl,_,_⟩:=cw ho;have Hx:=aj (Hw.out.below dM);have Hb:Hid (Bw w wr):=dM;obtain⟨cV,aP,Hr⟩:=bM ho pb (lN.out.below pb);have aX:=Fe.out;clear ho pb dM;obtain⟨ae,ai⟩:=qZ (Hx.an<|Hr.an trivial);have aj2:Hid (aQ w1 b o [af (V:Int),.slice a0 n0 c0]):=Hw.out.below dQ.out;obtain⟨Hx,Hr,_⟩:=ae;obtain⟨x0,x1⟩:=Hx.out.w2;obtain⟨r0,aZ,r1,bf⟩:=Hr.out.g2;go_wp2_with fail;refine(fV.out w1 _ _ dQ.out aP.out cV.out).mono ?_;rintro e w6 ⟨a2,d2,rfl,fH,ak⟩;replace Hx:=aj (aj2.out.below ak);replace Hr:=aj (lN.out.below ak);obtain⟨x0,x1⟩:=Hx.out.w2;obtain⟨r0,aZ,r1,bf⟩:=Hr.out.g2;replace Hb:=aj (aF dQ.out ak);go_wp2;refine CO (Hr.out) fH Hb.out zo ?_;intro w9 kx fC ml;obtain⟨q0,q1⟩:=kx.c2;exact bodyPost_ret (v:=.tuple #[.agg #[af (V:Int),.slice a2 C.length d2],af 0]) (by simp[results,Tryz.results160,go_sem,q0,q1]) rfl ⟨_,_,rfl,BL fC,ml⟩
def Le {Y:Nat->Prop}{w W:World}(h:Chg Y w W)(b i:Nat)(v:Value)(hy:Y b):Chg Y w (W.setCell ⟨b,i,none⟩ v):=
 ⟨h.os,h.tape,h.output,by have:=h.size;simp[World.setCell];exact this,λk hk Dx=>by rw[Below.heap_setCell _ _ _ _ (λe=>Dx (by rw[e];exact hy))];exact h.block k hk Dx⟩
def ato (y1 y2 S:Dyadic)(B k n:Nat)(ts:List Raw)(a:Option Addr)(cap bt:Nat)(w:World)(h1:Sm B y1)(h2:Sm B y2)(hB:B<=10000000)(hn:ts.length=n)(hk:k<n)(hf:∀x∈ts,Fit B x)(hS:y1+dval (ts.getD k default) *un (y1,y2)=S)
 (hc:w.cell? ⟨bt,0,none⟩=some (.slice a n cap)) (ha:At w a (ts.flatMap aV)) (hT:aB w):
 Cv 164 #[af (k:Int),.agg #[ag (az (dN y1)),ah (nt (dN y1).natAbs),af (dE y1),ag (az (dN y2)),ah (nt (dN y2).natAbs),af (dE y2)],.pointer (some ⟨bt,0,none⟩)] w (bT S):=by
 have hk2:k<ts.length:=by rw[hn];exact hk
 obtain⟨s,m,e,hx⟩:=nY (ts[k]);have dY:Fit B (s,m,e):=by rw[<-hx];exact hf _ (List.getElem_mem hk2)
 rw[List.getD_eq_getElem?_getD,List.getElem?_eq_getElem hk2]at hS;rw[show(some ts[k]).getD default=(s,m,e)from hx]at hS;obtain⟨b,o,hab,p0,p1,p2⟩:=ha.num k hk2 hx;have aX:=ot n cap k (k:Int) hab hk rfl;obtain⟨D,hD⟩:=au (un (y1,y2));rw[hD]at hS;obtain⟨M,hM⟩:=au (dval (s,m,e) *D);rw[hM]at hS;have je:Sm (B+2) D:=by rw[<-hD];have h:=qK (p:=(y1,y2)) ⟨h1,h2⟩;exact(Sm.sub h.2 h.1).mono zo
 have hMs:Sm (2*B+3) M:=by rw[<-hM];exact(Sm.mul dY.2 je).mono zo
 have Hw:=λW (hW:aB W)=>Vy (az (dN y1)) (nt (dN y1).natAbs) (dE y1) (az (dN y2)) (nt (dN y2).natAbs) (dE y2) B D (by show un (dval (canon y1),dval (canon y2))=D;rw[bu,bu];exact hD) W (h1.fit zo) (h2.fit zo) zo hW;have HD:Hid (dval (s,m,e) *dval (dx D)=M):=by show _*dval (canon D)=M;rw[bu];exact hM
 have HS:Hid (dval (dx y1)+dval (dx M)=S):=by show dval (canon y1)+dval (canon M)=S;rw[bu,bu];exact hS
 have EY:Hid (Fit (B+2) (s,m,e)):=dY.mono zo;have Cj:Hid (Fit (B+2) (dx D)):=je.fit zo;have Hf1:Hid (Fit (2*B+3) (dx y1)):=(h1.mono zo).fit zo;have HfM:Hid (Fit (2*B+3) (dx M)):=hMs.fit zo;obtain⟨aj0,HT,Hc⟩:=bM Hw hT hc;have Hx:Hid (aQ w b (o+k*3) [ag s,ah m,af e]):=iI p0 p1 p2;have hge:¬(n:Int)<=(k:Int):=by omega
 have lbb:=World.block_lt_of_cell? w _ p0;have lbt:=World.block_lt_of_cell? w _ hc;simp only at lbb lbt;clear p0 p1 p2 hab hx dY hS hD hM je hMs Hw hT hc ha hf h1 h2 hn hk2;obtain⟨W,cd,ae,ai⟩:=kF w 88 [ag (az (dN y1)),ah (nt (dN y1).natAbs),af (dE y1),ag (az (dN y2)),ah (nt (dN y2).natAbs),af (dE y2)] 45 [ag false,.string ⟨#[]⟩,af 0];have KD:=aj (Hx.out.below ae.1.out);have hcl:W.cell? ⟨bt,0,none⟩=some (.slice a n cap):=cell_later ae.1.out Hc.out;have Ht:Hid (aQ W bt 0 [.slice a n cap]):=λj hj=>by
  obtain rfl:j=0:=by simp at hj;omega
  exact hcl
 have Hx:=KD;have EG:=aj (HT.out.below ae.1.out);obtain⟨ae,ai⟩:=qZ (Ht.an<|Hx.an ae);have HU:Hid (aB W):=EG.out;clear EG KD;go_enter Tryz.func164,Tryz.ntmps164;go_wp2_with fail;have ae:=HU.an ae;refine cQ 12 ae (cJ 13 0x18161412100e0d0b0907050301) ?_;refine bo ?_;refine bP ae (aj0.out _ (qU ae.1.out)) λw3 ae=>?_;refine nC 45 [ag s,ah m,af e,ag (az (dN D)),ah (nt (dN D).natAbs),af (dE D)] ae λW4 aG ae=>?_;refine bP ae (Am s m e (az (dN D)) (nt (dN D).natAbs) (dE D) M (B+2) HD.out w3.heap.size _ 45 _ EY.out Cj.out zo ae.1.out (qU ae.2.1.out)) λw5 ae=>?_;refine nC 45 [ag (az (dN y1)),ah (nt (dN y1).natAbs),af (dE y1),ag (az (dN M)),ah (nt (dN M).natAbs),af (dE M)] ae λW6 aG ae=>?_;refine bP ae (yb (az (dN y1)) (nt (dN y1).natAbs) (dE y1) (az (dN M)) (nt (dN M).natAbs) (dE M) S (2*B+3) HS.out w5.heap.size _ 45 _ Hf1.out HfM.out zo ae.1.out (qU ae.2.2.1.out)) λw7 ae=>?_;have ai:=qC ae;refine qOp λK hK=>?_;go_simp;refine hK _ _ (λh=>absurd h zd) ?_;try simp only[UU]
 refine cg (aN w7 (w.heap.size+1) 0 (bE S)) aR ?_;intro W8 hs0;have ae:=bC hs0 ae;simp only[bD,List.set]at ae;have ai:=qC ae;refine cP ae λai=>?_;have Hb:=ae.2.2.2.2.2.1;go_wp2;exact bodyPost_ret (v:=bT S) (by simp[results,Tryz.results164,go_sem,ai]) rfl ⟨rfl,cK⟩
def aeP (xs:List Raw)(k:Nat)(hk:k<xs.length):(xs.take (k+1)).flatMap aV=(xs.take k).flatMap aV++aV xs[k]:=by rw[List.take_succ_eq_append_getElem hk,List.flatMap_append];simp
def anw (a:Option Addr)(n cap B:Nat)(bx:List (Raw×Raw))(gf:Nat)(lb:Array Value)(f:Nat->Dyadic)(w:World)(hn:bx.length=n)(hl:n<=1000)(hf:kJ B bx)(ha:At w a (bx.flatMap spC))(hT:aB w)
 (eg:∀args w,(callFunc gf args).run Tryz.prog w=.ok (.enter gf args) w)
 (hcl:∀k (h:k<bx.length) y1 y2,eK (aY bx[k])=(y1,y2)->∀W,Bw w W->Cl gf (#[af (k:Int),.agg #[ag (az (dN y1)),ah (nt (dN y1).natAbs),af (dE y1),ag (az (dN y2)),ah (nt (dN y2).natAbs),af (dE y2)]]++lb) W λe w'=>e=.returned (bT (f k))/\Bw W w'):
 Cl 163 #[.slice a n cap,.func (.func gf) #[] lb] w λe w'=>∃(a':Option Addr) (c':Nat),e=.returned (.slice a' n c')/\At w' a' (((List.range n).map λk=>canon (f k)).flatMap aV)/\Bw w w':=by
 obtain⟨i0,hi,hz0,hz1,hz2⟩:=info_parts Tryz.azX;have yz:=λW (hW:Bw w W)=>QE a n cap B bx W hn hl hf (ha.below hW) (hT.below hW);obtain⟨Hi,cu,bV,bX⟩:=cG hi hz0 hz1 hz2;obtain⟨X,hX⟩:=au ((List.range n).map λk=>canon (f k));have ki:X.length=n:=by rw[<-hX];simp
 have Dj:∀k (h:k<X.length),X[k]=canon (f k):=λk h=>by subst hX;simp
 obtain⟨Fa,fV,lL,Hn,ut,Oc⟩:=fZ yz hcl eg hn ki Dj;rw[hX];clear hi hz0 hz1 hz2 yz hcl eg hn ki Dj hX ha hT hf;have Hb:=hbz w;go_enter Tryz.func163,Tryz.ntmps163;go_wp2_with fail;refine(Fa.out _ Hb.out).mono ?_;rintro e w1 ⟨a1,c1,rfl,jf,ak⟩;have dV:=aj jf;replace Hb:=bj Hb ak;clear ak jf;have bI:=Hb;go_wp2_with fail;go_loopw[5,11] (λs5 x wr=>∃(k:Nat) (v:Value),k<=n/\x=af (k:Int)/\v=s5/\wr.ownsRow w1.heap.size 45 3 v k ((X.take k).flatMap aV)/\Bw w1 wr) (λ_ x _=>n-(intOf x).toNat);case atStart=>exact⟨0,_,Nat.zero_le _,rfl,rfl,World.ownsRow_nil _ _ _ _,Below.refl _ _⟩
 case round=>
  clear Hb;obtain⟨k,v,hk,rfl,rfl,ho,pb⟩:=hrel;by_cases hlt:k<n
  . have ez:k<bx.length:=by rw[Hn.out];exact hlt
    have oY:k<(bx.map jm).length:=by simpa using ez
    obtain⟨y1,y2,hy⟩:∃y1 y2,eK (aY bx[k])=(y1,y2):=⟨_,_,rfl⟩;have hx:(bx.map jm)[k]=(canon y1,canon y2):=by rw[List.getElem_map];unfold jm;rw[hy];rfl
    obtain⟨b,o,hab,hp⟩:=(dV.out.below pb).spn k oY hx;have aX:=vh n c1 k (k:Int) hab hlt rfl;have Sz:=fV.out k ez y1 y2 hy;have hkX:k<X.length:=by rw[ut.out];exact hlt
    have hst:=aeP X k hkX;rw[Oc.out k hkX]at hst;generalize f k=F at*;have tZ:(X.take (k+1)).flatMap aV=(X.take k).flatMap aV++(bE F):=hst;have Hp:Hid (aQ wr b (o+k*6) [ag (az (dN y1)),ah (nt (dN y1).natAbs),af (dE y1),ag (az (dN y2)),ah (nt (dN y2).natAbs),af (dE y2)]):=hp;obtain⟨Hca,bN,Ho,aP,mP⟩:=eD Sz tZ ho pb (aF bI.out pb);have ic:=pb.size;clear hp hab hx hy Sz hst tZ ho pb hkX oY ez;have Hb:=hbz wr;obtain⟨ae,ai⟩:=qZ (Hp.an trivial);have pG:=lL.out;have aG:=qL (Hb.an ae);go_wp2_with fail;refine cF wr (Hb.an ae) 88 [ag (az (dN y1)),ah (nt (dN y1).natAbs),af (dE y1),ag (az (dN y2)),ah (nt (dN y2).natAbs),af (dE y2)] λW4 aG ae ai=>?_;go_wp2_with fail;refine aK ae (Hca.out _ (aF mP.out ae.2.1.out)) λw5 ae ai=>?_;clear pG;obtain⟨W6,pW,aG,ae,ai⟩:=bO w5 ae 45 (bE F);have cf:=ownsRow_below Ho.out ae.2.2.1.out;have jS:=ae.2.2.1.out.size;have hnews:=fM ae.1.out;go_wp2_with (at_builtin;refine wpList_append_own_at _ rfl _ _ 63 rfl w1.heap.size 45 i0 _ 3 32 Tryz.underlying63 Hi.out cu.out bV.out bX.out rfl zd v k ((X.take k).flatMap aV) rfl cf ⟨w5.heap.size,0,none⟩ 1 1 (bE F) rfl rfl hnews zy zx zo zo ?_;intro v' w7 dA eo _ _);have gS:=(aF aP.out ae.2.2.1.out).grown eo zo (λj e=>cE cf j e);rw[<-bN.out]at dA;obtain⟨vS,sk⟩:=aH dA gS;clear dA gS eo cf hnews;go_wp2;go_roundw;case rel=>exact⟨k+1,_,by omega,by go_num,rfl,vS.out,sk.out⟩
    case measure=>exact bi
  . obtain rfl:k=n:=by omega
    rw[List.take_of_length_le (by rw[ut.out];exact Nat.le_refl _)]at ho;obtain⟨a2,c2,rfl,hat,_⟩:=cw ho;obtain⟨Hb,EL⟩:=aH (aF bI.out pb) hat;clear pb ho hat;go_wp2;refine bodyPost_ret (results_tmp rfl _ _ _) rfl ⟨a2,c2,rfl,EL.out,Hb.out⟩
def vz (bx:List (Raw×Raw))(ts:List Raw)(k:Nat):Dyadic:=(eK (aY (bx.getD k default))).1+dval (ts.getD k default) *un (eK (aY (bx.getD k default)))
def atp (a:Option Addr)(n cap B:Nat)(bx:List (Raw×Raw))(ts:List Raw)(ta:Option Addr)(tc:Nat)(w:World)(hn:bx.length=n)(hl:n<=1000)(hf:kJ B bx)(hB:B<=10000000)(ha:At w a (bx.flatMap spC))(ht:ts.length=n)(hft:∀x∈ts,Fit B x)(iV:At w ta (ts.flatMap aV))(hT:aB w):
 Cl 84 #[.slice a n cap,.slice ta n tc] w λe w'=>∃(a':Option Addr) (c':Nat),e=.returned (.slice a' n c')/\At w' a' (((List.range n).map λk=>canon (vz bx ts k)).flatMap aV)/\Bw w w':=by
 have eg:∀args w,(callFunc 164 args).run Tryz.prog w=.ok (.enter 164 args) w:=enters_of Tryz.func164 zk rfl
 have hea:=λW bt (hW:Bw w W) (hc:W.cell? ⟨bt,0,none⟩=some (.slice ta n tc))=>anw a n cap B bx 164 #[.pointer (some ⟨bt,0,none⟩)] (vz bx ts) W hn hl hf (ha.below hW) (hT.below hW) eg (λk hk y1 y2 hy W2 hW2=>by
  have hs:=hf _ (List.getElem_mem hk);have ho:=qK (p:=aY bx[k]) ⟨hs.1.2,hs.2.2⟩;rw[hy]at ho;have h:=ato y1 y2 (vz bx ts k) B k n ts ta tc bt W2 ho.1 ho.2 hB ht zo hft (by unfold vz;rw[show bx.getD k default=bx[k]by simp[hk],hy]) (cell_later hW2 hc) (iV.below (aF hW hW2)) (hT.below (aF hW hW2))
  simpa using h)
 have Hea:=aj hea;clear hea eg ha hT hf hft iV ht hn;have Hb:=hbz w;go_enter Tryz.func84,Tryz.ntmps84;go_wp2_with fail;refine cF w (Hb.an trivial) 63 [.slice ta n tc] λW aG ae ai=>?_;have t0:W.cell? ⟨w.heap.size,0,none⟩=some (.slice ta n tc):=ae.1.out.cell 0;go_wp2_with fail;refine(Hea.out _ _ ae.2.1.out t0).mono ?_;rintro e w1 ⟨a',c',rfl,hat,ak⟩;obtain⟨ae,ai⟩:=qX ak ae;go_wp2;refine bodyPost_ret (results_tmp rfl _ _ _) rfl ⟨a',c',rfl,hat,ae.2.1.out⟩
def kJ.smP {B:Nat}{bx:List (Raw×Raw)}(h:kJ B bx):vX B (bx.map aY):=λp hp=>by obtain⟨s,hs,rfl⟩:=List.mem_map.1 hp;exact⟨(h s hs).1.2,(h s hs).2.2⟩
def kJ.of {B:Nat}{bx:List Pr}(h:vX B bx)(hB:B<=268435456):kJ B (bx.map kG):=λs hs=>by obtain⟨p,hp,rfl⟩:=List.mem_map.1 hs;exact⟨(h p hp).1.fit hB,(h p hp).2.fit hB⟩
def ali (a:Option Addr)(L cap B:Nat)(bx:List (Raw×Raw))(w:World)(hL:bx.length=L)(h1:1<=L)(hl:L<=1000)(hf:kJ B bx)(hB:B<=1000000)(ha:At w a (bx.flatMap spC))(hT:aB w):
 Cv 104 #[.slice a L cap] w (af (qP (bx.map aY):Int)):=by
 obtain⟨F,hF⟩:∃F:Nat->Dyadic,(λi=>un ((bx.map aY).getD i (0,0)))=F:=⟨_,rfl⟩;have Dd:∀k (h:k<bx.length),F k=un (dval bx[k].1,dval bx[k].2):=λk hk=>by rw[<-hF];simp only[Vx hk]
 have hFs:∀k,Sm (B+1) (F k):=λk=>by rw[<-hF];exact agl (hf.smP.get k)
 have hW:qP (bx.map aY)=iB F L:=by unfold qP;rw[hF,List.length_map,hL]
 have hlt:∀k,1<=k->iB F k<k:=λk hk=>(YO F k hk).1;have hst:∀k,iB F (k+1)=if 0<bg (F k-F (iB F k))then k else iB F k:=λk=>rfl
 rw[hW];obtain⟨Ha,HT,HL,Hf,xB,JM,uy,bN⟩:=nk ha hT hL hf Dd hFs hlt hst;clear ha hT hL hf Dd hFs hlt hst hW hF;obtain⟨Lc,abM⟩:∃f:Nat->Nat,iB F=f:=⟨_,rfl⟩;rw[abM]at uy bN⊢;clear abM;have Hb:=hbz w;go_enter Tryz.func104,Tryz.ntmps104;go_wp2_with fail;go_loopw[3,8] (λs3 x wr=>∃k:Nat,k<=L/\x=af (k:Int)/\s3=af (if k=0 then-1 else(Lc k:Int))/\Bw w wr) (λ_ x _=>L-(intOf x).toNat);case atStart=>exact⟨0,Nat.zero_le _,rfl,rfl,Hb.out⟩
 case round=>
  clear Hb;obtain⟨k,hk,rfl,rfl,pb⟩:=hrel;by_cases hlt:k<L
  . have ez:k<bx.length:=by rw[HL.out];exact hlt
    obtain⟨s,m,e,t,n,f,hx⟩:∃s m e t n f,bx[k]=((s,m,e),(t,n,f)):=⟨_,_,_,_,_,_,rfl⟩;obtain⟨b,o,hab,hp⟩:=(Ha.out.below pb).spn k ez hx;have aX:=vh L cap k (k:Int) hab hlt rfl;have mo:=Hf.out _ (List.getElem_mem ez);have hwk:=xB.out k ez;rw[hx]at mo hwk;by_cases fG:k=0
    . have e1:Lc (k+1)=k:=by rw[fG];have:=uy.out 1 zo;show Lc 1=0;omega
      rw[if_pos fG];obtain⟨Hp,Hb,OE⟩:=bM hp pb e1;clear hp pb hab hx mo hwk e1 fG;obtain⟨ae,ai⟩:=qZ (Hp.an trivial);obtain⟨W4,kg,aG,ae,ai⟩:=bO wr (Hb.an ae) 88 [ag s,ah m,af e,ag t,ah n,af f];go_wp2_with fail;refine cQ 999 ae (cJ 13 0x1917141208110f0d0b07050301) ?_;refine bo ?_;refine cP ae λai=>?_;go_wp2;go_roundw;case rel=>exact⟨k+1,by omega,by go_num,by simp[OE.out],ae.2.1.out.drew⟩
      case measure=>exact bi
    . obtain⟨j,hj⟩:=au (Lc k);have hjk:j<k:=by rw[<-hj];exact uy.out k zo
      have GZ:j<bx.length:=by omega
      have GX:j<L:=by omega
      obtain⟨s',m',e',t',n',f',hx'⟩:∃s m e t n f,bx[j]=((s,m,e),(t,n,f)):=⟨_,_,_,_,_,_,rfl⟩;obtain⟨b',o',rF,hp'⟩:=(Ha.out.below pb).spn j GZ hx';obtain⟨rfl,rfl⟩:b'=b/\o'=o:=by rw[hab]at rF;simp at rF;exact⟨rF.1.symm,rF.2.symm⟩
      have aco:=vh L cap j (j:Int) hab GX rfl;have SI:=Hf.out _ (List.getElem_mem GZ);have qG:=xB.out j GZ;rw[hx']at SI qG;have hsk:=bN.out k;rw[hj]at hsk;obtain⟨X,hX⟩:=au (F k);obtain⟨Y,hY⟩:=au (F j);have eY:=JM.out k;have tE:=JM.out j;rw[hX]at hwk hsk eY;rw[hY]at qG hsk tE;obtain⟨c,hc⟩:=au (bg (X-Y));rw[hc]at hsk;have mV:bg (dval (dx X)-dval (dx Y))=c:=by
       show bg (dval (canon X)-dval (canon Y))=c
       rw[bu,bu];exact hc
      have hif:(if k=0 then(-1:Int)else(j:Int))=(j:Int):=if_neg fG;have Mo:¬(j:Int)<0:=by omega
      have og:decide ((j:Int)<0)=false:=by simp
      obtain⟨Hp,Hq,Hb,Xr,Xq,Cz,Qe,sK,Ch⟩:=Uf hp hp' pb mo SI hwk.symm qG.symm hsk mV;have HX1:Hid (Ok (dx X)):=(eY.fit zo).1;have HY1:Hid (Ok (dx Y)):=(tE.fit zo).1;have zO:=aj fG;rw[hj,hif];clear hp hp' pb hab rF hx hx' mo SI hwk qG hsk mV eY tE hc hX hY hj hif fG;obtain⟨ae,ai⟩:=qZ (Hp.an<|Hq.an trivial);obtain⟨W4,kg,aG,ae,ai⟩:=bO wr (Hb.an ae) 88 [ag s,ah m,af e,ag t,ah n,af f];go_wp2_with fail;refine cQ 999 ae (cJ 13 0x1917141208110f0d0b07050301) ?_;refine bo ?_;refine bP ae (Vy s m e t n f B X Cz.out _ Xr.out.1 Xr.out.2 zo (qU (HT.out.below ae.2.1.out))) λw5 ae=>?_;refine bP ae (Vy s' m' e' t' n' f' B Y Qe.out _ Xq.out.1 Xq.out.2 zo (qU (HT.out.below ae.2.1.out))) λw6 ae=>?_;refine bP ae (Al _ _ _ _ _ _ c Ch.out _ HX1.out HY1.out (qU (HT.out.below ae.2.1.out))) λw7 ae=>?_;refine bo ?_;refine cP ae λai=>?_;skip
      by_cases hc0:0<c
      . go_wp2;go_roundw;case rel=>exact⟨k+1,by omega,by go_num,by rw[if_neg zo,sK.out,if_pos hc0],ae.2.1.out⟩
        case measure=>exact bi
      . go_wp2;go_roundw;case rel=>exact⟨k+1,by omega,by go_num,by rw[if_neg zo,sK.out,if_neg hc0],ae.2.1.out⟩
        case measure=>exact bi
  . obtain rfl:k=L:=by omega
    have Hb:=aj pb;rw[if_neg zo];clear pb;go_wp2;refine bodyPost_ret (results_tmp rfl _ _ _) rfl ⟨rfl,Hb.out⟩
def YR (s:Bool)(l:List UInt8)(e:Int)(t:Bool)(m:List UInt8)(f:Int)(u:Bool)(o:List UInt8)(g:Int)(up:Bool)(w:World):
 Cl 183 #[.agg #[ag s,ah l,af e,ag t,ah m,af f,ag u,ah o,af g],ag up] w λe' w'=>e'=.returned (.agg (if up then #[ag u,ah o,af g,ag t,ah m,af f]else #[ag s,ah l,af e,ag u,ah o,af g]))/\Bw w w':=by
 obtain⟨W,cd,ae,ai⟩:=kF w 199 [ag s,ah l,af e,ag t,ah m,af f,ag u,ah o,af g] 88 [ag false,.string ⟨#[]⟩,af 0,ag false,.string ⟨#[]⟩,af 0];go_enter Tryz.func183,Tryz.ntmps183;cases up with
 |true=>go_wp2;refine dI (aN W (w.heap.size+1) 0 [ag u,ah o,af g,ag t,ah m,af f]) aR ?_;intro w9 hs0;have ae:=bC hs0 ae;simp only[bD,List.set]at ae;have ai:=qC ae;refine bodyPost_ret (v:=.agg #[ag u,ah o,af g,ag t,ah m,af f]) (by simp[results,Tryz.results183,go_sem,ai]) rfl ⟨rfl,ae.1.out⟩
 |false=>go_wp2;refine dI (aN W (w.heap.size+1) 0 [ag s,ah l,af e,ag u,ah o,af g]) aR ?_;intro w9 hs0;have ae:=bC hs0 ae;simp only[bD,List.set]at ae;have ai:=qC ae;refine bodyPost_ret (v:=.agg #[ag s,ah l,af e,ag u,ah o,af g]) (by simp[results,Tryz.results183,go_sem,ai]) rfl ⟨rfl,ae.1.out⟩
def ale (s:Bool)(l:List UInt8)(e:Int)(t:Bool)(m:List UInt8)(f:Int)(u:Bool)(o:List UInt8)(g:Int)(w:World):
 Cl 183 #[.agg #[ag s,ah l,af e,ag t,ah m,af f,ag u,ah o,af g],ag false] w λe' w'=>e'=.returned (.agg #[ag s,ah l,af e,ag u,ah o,af g])/\Bw w w':=by
 have h:=YR s l e t m f u o g false w;rwa [if_neg zd]at h
def ald (s:Bool)(l:List UInt8)(e:Int)(t:Bool)(m:List UInt8)(f:Int)(u:Bool)(o:List UInt8)(g:Int)(w:World):
 Cl 183 #[.agg #[ag s,ah l,af e,ag t,ah m,af f,ag u,ah o,af g],ag true] w λe' w'=>e'=.returned (.agg #[ag u,ah o,af g,ag t,ah m,af f])/\Bw w w':=by
 have h:=YR s l e t m f u o g true w;rwa [if_pos rfl]at h
def ao7 (bx:List (Raw×Raw))(i:Nat)(hi:i<bx.length)(y1 y2 X:Dyadic)(hy:eK (aY bx[i])=(y1,y2))(hX:jA (y1,y2)=X):
 (jw (bx.map aY) i false).map kG=(bx.map jm).set i (canon y1,canon X)/\(jw (bx.map aY) i true).map kG=(bx.map jm).set i (canon X,canon y2):=by
 have hg:(bx.map aY).getD i (0,0)=aY bx[i]:=by simp[hi]
 have hm:jA (aY bx[i])=X:=by rw[<-arT,hy,hX]
 have e0:((bx.map aY).map eK).map kG=bx.map jm:=by rw[List.map_map,List.map_map];rfl
 unfold jw;rw[hg,hy,hm];constructor
 . rw[if_neg zd,List.map_set,e0];rfl
 . rw[if_pos rfl,List.map_set,e0];rfl
def alg (a:Option Addr)(L cap B:Nat)(bx:List (Raw×Raw))(i:Nat)(w:World)(hL:bx.length=L)(hi:i<L)(hl:L<=1000)(hf:kJ B bx)(hB:B<=1000000)(ha:At w a (bx.flatMap spC))(hT:aB w):
 Cl 103 #[.slice a L cap,af (i:Int)] w λe w'=>∃g1 g2,e=.returned (.tuple #[.slice (some ⟨g1,0,none⟩) L L,.slice (some ⟨g2,0,none⟩) L L,af 0])/\w.heap.size<=g1/\w.heap.size<=g2/\ar w' g1 88 (((jw (bx.map aY) i false).map kG).flatMap spC)/\ar w' g2 88 (((jw (bx.map aY) i true).map kG).flatMap spC)/\Bw w w':=by
 have qo:i<bx.length:=by omega
 obtain⟨⟨y1,y2⟩,hy⟩:∃p,eK (aY bx[i])=p:=⟨_,rfl⟩;obtain⟨X,hX⟩:=au (jA (y1,y2));obtain⟨ol,hm2⟩:=ao7 bx i qo y1 y2 X hy hX;have TC:Sm B y1/\Sm B y2:=by have:=qK (p:=aY bx[i]) ⟨(hf _ (List.getElem_mem qo)).1.2,(hf _ (List.getElem_mem qo)).2.2⟩;rwa [hy]at this
 have hmid:jA (dval (dx y1),dval (dx y2))=X:=by
  show jA (dval (canon y1),dval (canon y2))=X
  rw[bu,bu];exact hX
 have hF1:Fit B (dx y1):=TC.1.fit zo;have hF2:Fit B (dx y2):=TC.2.fit zo;have hfo:=λW (hW:Bw w W)=>QE a L cap B bx W hL hl hf (ha.below hW) (hT.below hW);obtain⟨G,hG⟩:=au (bx.map jm);have hGL:G.length=L:=by rw[<-hG,List.length_map,hL]
 have Gq:∃h:i<G.length,G[i]=((dx y1),(dx y2)):=by subst hG;refine⟨by simpa using qo,?_⟩;rw[List.getElem_map];unfold jm;rw[hy];rfl
 rw[hG]at ol hm2;simp only[hG]at hfo;rw[ol,hm2];obtain⟨OO,HT,Ww,HGi,Ph,NT,se⟩:=iX hfo hT hGL Gq hmid hF1 hF2;clear hfo hT hGL Gq hmid hF1 hF2 ol hm2 hy hX TC hf ha hL hG qo;have hi0:¬((L:Int)<=(i:Int)):=by omega
 have Hb:=hbz w;go_enter Tryz.func103,Tryz.ntmps103;go_wp2_with fail;refine(OO.out _ Hb.out).mono ?_;rintro e w1 ⟨a',c',rfl,hat,ak⟩;replace Hb:=aj (aF Hb.out ak);obtain⟨hiG,Gq⟩:=HGi.out;obtain⟨b,o,rfl,hp⟩:=hat.spn i hiG Gq;have aX:=vh L c' i (i:Int) (rfl:(some ⟨b,o,none⟩:Option Addr)=_) hi rfl;obtain⟨Hp,dV⟩:=aH hp hat;clear hp hat ak Gq;have bI:=Hb;clear Hb;have Hb:=hbz w1;have dH:=aj (HT.out.below bI.out);go_upto_region 4 with fail
 go_cut[7] (λs7 wx=>∃g:Nat,s7=.pointer (some ⟨g,0,none⟩)/\w1.heap.size<=g/\ar wx g 199 [ag (az (dN y1)),ah (nt (dN y1).natAbs),af (dE y1),ag (az (dN y2)),ah (nt (dN y2).natAbs),af (dE y2),ag (az (dN X)),ah (nt (dN X).natAbs),af (dE X)]/\Bw w1 wx);case first=>
  obtain⟨ae,ai⟩:=qZ (Hp.an trivial);obtain⟨Hp,_⟩:=ae;have p0:w1.cell? ⟨b,o+i*6,none⟩=some (ag (az (dN y1))):=Hp.out.cell 0 zm;have p1:w1.cell? ⟨b,o+i*6+1,none⟩=some (ah (nt (dN y1).natAbs)):=Hp.out.cell 1 zm;have p2:w1.cell? ⟨b,o+i*6+2,none⟩=some (af (dE y1)):=Hp.out.cell 2 zm;have p3:w1.cell? ⟨b,o+i*6+3,none⟩=some (ag (az (dN y2))):=Hp.out.cell 3 zm;have p4:w1.cell? ⟨b,o+i*6+4,none⟩=some (ah (nt (dN y2).natAbs)):=Hp.out.cell 4 zm;have p5:w1.cell? ⟨b,o+i*6+5,none⟩=some (af (dE y2)):=Hp.out.cell 5 zm;have qT:∀w',iK w1 w'->aJ w' b (o+i*6) (ag (az (dN y1)))/\aJ w' b (o+i*6+1) (ah (nt (dN y1).natAbs))/\aJ w' b (o+i*6+2) (af (dE y1))/\aJ w' b (o+i*6+3) (ag (az (dN y2)))/\aJ w' b (o+i*6+4) (ah (nt (dN y2).natAbs))/\aJ w' b (o+i*6+5) (af (dE y2)):=λw' h=>⟨cell_later h p0,cell_later h p1,cell_later h p2,cell_later h p3,cell_later h p4,cell_later h p5⟩;refine NL (λw'=>iK w1 w') (λi=>Nat.blt i 11) 10 199 [ag false,.string ⟨#[]⟩,af 0,ag false,.string ⟨#[]⟩,af 0,ag false,.string ⟨#[]⟩,af 0] [(0,true),(1,true),(2,true),(3,true),(4,true),(5,true),(6,true),(7,true),(8,false),(9,true)] [(11,false)] zk zk rfl rfl rfl zk zk zc zc (λK a w h=>Nh rfl rfl (λK' hK=>by go_simp;exact hK _ _ h)) ?_;clear p0 p1 p2 p3 p4 p5 Hp;intro w1f ak;replace Hb:=aj (aF Hb.out ak);refine⟨Hb.out,?_⟩;iterate 8 (refine yY rfl rfl (v:=?_) (λw' hw'=>?_) ?_;rotate_left;(focus have hw':=qT w' hw';obtain⟨q0,q1,q2,q3,q4,q5⟩:=hw';go_simp;try with_reducible rfl);try simp only[UU])
  refine El rfl rfl (λK hK=>?_);go_simp;with_reducible refine(au8 _ _ _ _ _ _ B X Ph.out _ NT.out se.out zo (dH.out.below Hb.out)).mono ?_
  rintro e w9 ⟨rfl,hq⟩;refine hK _ _ hq (λw2 ak hb2=>?_);replace Hb:=aj (aF Hb.out ak);refine⟨Hb.out,?_⟩;clear ak hb2 hq hK K;try simp only[UU]
  refine yY rfl rfl (v:=?_) (λw' hw'=>?_) ?_;rotate_left;(focus go_simp;try with_reducible rfl);try simp only[UU]
  intro kj hb0 qx;have Hh:=aj qx;clear qx;have h0:w2.cell? ⟨kj,0,none⟩=some (ag false):=Hh.out.cell 0;have fh0:w2.frozen? ⟨kj,0,none⟩=false:=Hh.out.free 0;have h1:w2.cell? ⟨kj,1,none⟩=some (.string ⟨#[]⟩):=Hh.out.cell 1;have fh1:w2.frozen? ⟨kj,1,none⟩=false:=Hh.out.free 1;have h2:w2.cell? ⟨kj,2,none⟩=some (af 0):=Hh.out.cell 2;have fh2:w2.frozen? ⟨kj,2,none⟩=false:=Hh.out.free 2;have h3:w2.cell? ⟨kj,3,none⟩=some (ag false):=Hh.out.cell 3;have fh3:w2.frozen? ⟨kj,3,none⟩=false:=Hh.out.free 3;have h4:w2.cell? ⟨kj,4,none⟩=some (.string ⟨#[]⟩):=Hh.out.cell 4;have fh4:w2.frozen? ⟨kj,4,none⟩=false:=Hh.out.free 4;have h5:w2.cell? ⟨kj,5,none⟩=some (af 0):=Hh.out.cell 5;have fh5:w2.frozen? ⟨kj,5,none⟩=false:=Hh.out.free 5;have h6:w2.cell? ⟨kj,6,none⟩=some (ag false):=Hh.out.cell 6;have fh6:w2.frozen? ⟨kj,6,none⟩=false:=Hh.out.free 6;have h7:w2.cell? ⟨kj,7,none⟩=some (.string ⟨#[]⟩):=Hh.out.cell 7;have fh7:w2.frozen? ⟨kj,7,none⟩=false:=Hh.out.free 7;have h8:w2.cell? ⟨kj,8,none⟩=some (af 0):=Hh.out.cell 8;have fh8:w2.frozen? ⟨kj,8,none⟩=false:=Hh.out.free 8;try simp only[U1]
  try simp only[Act.put,U2,U3]
  refine aO rfl rfl (λK hK=>?_);go_simp;refine hK _ _ (λh=>absurd h zd) ?_;try simp only[UU]
  simp only[bH];go_wp2_with fail;go_meet;exact⟨kj,rfl,hb0,(((((((((Hh.out.set 0 _).set 1 _).set 2 _).set 3 _).set 4 _).set 5 _).set 6 _).set 7 _).set 8 _),(((((((((Hb.out.setCell zp _).setCell zp _).setCell zp _).setCell zp _).setCell zp _).setCell zp _).setCell zp _).setCell zp _).setCell zp _)⟩
 case rest=>
  obtain⟨g,rfl,hg,qh,qb⟩:=hcut;obtain⟨Hh,Hb,HA,xD⟩:=cG qh qb (dV.out.below qb) (dH.out.below qb);clear qh qb Hp aX hg;obtain⟨w2,hw2⟩:=au wc;subst hw2;have sw:=Hb;clear Hb;have Hb:=hbz wc;obtain⟨ae,ai⟩:=qZ (Hh.an trivial);have HA:Hid (At wc (some ⟨b,o,none⟩) (G.flatMap spC)):=HA.out;go_wp2_with fail;have ae:=Hb.an<|HA.an ae
  refine cQ 999 ae (cJ 13 0x191715121008060f0d0b050301) ?_;refine bo ?_;refine bP ae (ale _ _ _ _ _ _ _ _ _ _) λw5 ae=>?_;refine qOp λK hK=>?_;go_simp;with_reducible refine(YS ⟨b,o,none⟩ L c' G i _ _ _ _ _ _ _ Ww.out hl hi ae.2.1.out wc.heap.size ae.1.out.size).mono ?_
  rintro e w6 ⟨g1,rfl,hg1,ht1,hq⟩;refine kE hK hq ae λae=>?_;clear hK K hq;have HU:=aj ht1;clear ht1;have ae:=HU.an ae;refine bP ae (ald _ _ _ _ _ _ _ _ _ _) λw7 ae=>?_;refine qOp λK hK=>?_;go_simp;with_reducible refine(YS ⟨b,o,none⟩ L c' G i _ _ _ _ _ _ _ Ww.out hl hi ae.2.2.1.out wc.heap.size ae.2.1.out.size).mono ?_
  rintro e w8 ⟨g2,rfl,hg2,ht2,hq⟩;refine kE hK hq ae λae=>?_;clear hK K hq;have HV:=aj ht2;clear ht2;have ae:=HV.an ae;refine bo ?_;refine cP ae λai=>?_;have hsz:=(aF bI.out sw.out).size;go_wp2;refine bodyPost_ret (v:=.tuple #[.slice (some ⟨g1,0,none⟩) L L,.slice (some ⟨g2,0,none⟩) L L,af 0]) (by simp[results,Tryz.results103,go_sem]) rfl ⟨g1,g2,rfl,by omega,by omega,ae.2.1.out,ae.1.out,aF (aF bI.out sw.out) ae.2.2.1.out⟩
end Go.Proofs.YtpfgffadgkkedaaGreatDoor
namespace Go.Proofs.YtpfgffadgkkedaaGreatDoor
open Go.RowKit
end Go.Proofs.YtpfgffadgkkedaaGreatDoor
