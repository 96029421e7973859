/- Package poly: Make,Const,Var. -/
import Derived.Test.YtpfgffadgkkedaaGreatDoorZ7
import Derived.Test.YtpfgffadgkkedaaGreatDoorZ14
import Derived.Test.YtpfgffadgkkedaaGreatDoorZ13
import Derived.Test.YtpfgffadgkkedaaGreatDoorZ9
import Derived.Test.YtpfgffadgkkedaaGreatDoorZ10
import Derived.Deep.DeepAppendRoom
import Derived.Maps.AppendAt
set_option linter.all false
set_option maxRecDepth 100000
set_option maxHeartbeats 16000000
namespace Go.Proofs.YtpfgffadgkkedaaGreatDoor
open Go.RowKit
attribute [local go_sem ↓] Go.wp_at_zero Go.wp_at_succ
def QH (a:Option Addr)(n cap:Nat)(ts:List Trm)(w:World)(hn:ts.length=n)(hl:n<=1048576)(hs:Sl a n cap)(ha:At w a (ts.flatMap aH)):
 Cl 206 #[.slice a n cap] w λe w'=>∃v',e=.returned v'/\w'.ownsRow w.heap.size 111 4 v' n (ts.flatMap aH)/\Bw w w':=by
 obtain⟨i0,hi,hz0,hz1,hz2⟩:=info_parts Tryz.aBh;have q:=λ(w:World) (a:Option Addr) (n c n' c':Nat)=>Lib.run_eql_slice_nil (P:=Tryz.prog) w 39 111 a n c n' c' Tryz.underlying39;have hlen:(ts.flatMap aH).length=n*4:=by rw[iE aH 4 (λ_=>rfl),hn]
 obtain⟨cs,hcs⟩:=az (ts.flatMap aH);have h1:=vr ts;rw[hcs]at hlen ha h1⊢;obtain⟨lQ,Ha,H1,Hs,Hi,cm,bR,bZ⟩:=lC hlen ha h1 hs hi hz0 hz1 hz2;clear hlen ha h1 hs hi hz0 hz1 hz2 hn hcs;cases a with
 | none=>
   have hc:=Hs.out.2 rfl;have hn0:n=0:=by have:=Hs.out.1;omega
   subst hc;subst hn0;go_enter Tryz.func206,Tryz.ntmps206;go_wp2;go_ret;refine⟨_,rfl,?_,Below.refl _ _⟩;have e:cs=[]:=List.eq_nil_of_length_eq_zero (by have:=lQ.out;omega);rw[e];exact World.ownsRow_nil _ _ _ _
 |some ad=>go_enter Tryz.func206,Tryz.ntmps206;go_wp2_with (at_builtin;refine uo rfl _ _ 39 rfl w.heap.size 111 i0 _ 4 48 Tryz.underlying39 Hi.out cm.out bR.out bZ.out rfl zd _ 0 [] rfl (World.ownsRow_made w #[] 0 (Nat.le_refl _) (Nat.zero_le _) zm) (some ad) n cap cs rfl Hs.out lQ.out (Ha.out.below ((Below.refl _ w).alloc (Nat.le_refl _) _)) H1.out zx zo zm ?_;intro v' w1 hown hgrow fI);go_ret;refine⟨v',rfl,by simpa using hown,?_⟩;exact((Below.refl _ w).alloc (Nat.le_refl _) _).grown hgrow zm (λk hk=>by have h9:w.heap.size=k:=Option.some.inj hk;omega)
def alu (V:Int)(ts:List Trm)(h:∀t∈ts,cJ t.1 V=true):(ts.any λt=>!cJ t.1 V)=false:=by rw[List.any_eq_false];intro t ht;rw[h t ht];simp
def aeN (V:Nat)(a:Option Addr)(n cap:Nat)(ts:List Trm)(B:Nat)(w:World)(hV:V<=12)(hn:ts.length=n)(hl:n<=4096)(hs:Sl a n cap)(ha:At w a (ts.flatMap aH))(hm:∀t∈ts,cJ t.1 V=true)(hl2:∀t∈ts,t.1.length<=9223372036854775807)
 (hf:∀t∈ts,Fit B t.2) (hB:B+n+2<=268435456) (hT:aB w):
 Cl 121 #[af (V:Int),.slice a n cap] w λe w'=>∃a' c',e=.returned (.tuple #[.agg #[af (V:Int),.slice a' (aS ts).length c'],af 0])/\w'.ownsRow w.heap.size 111 4 (.slice a' (aS ts).length c') (aS ts).length ((aS ts).flatMap aH)/\Bw w w':=by
 have eg:∀args w,(callFunc 204 args).run Tryz.prog w=.ok (.enter 204 args) w:=enters_of Tryz.func204 zk rfl;have hct:∀W bv,Bw w W->W.cell? ⟨bv,0,none⟩=some (af (V:Int))->Cv 203 #[.slice a n cap,.func (.func 204) #[] #[.pointer (some ⟨bv,0,none⟩)]] W (ag false):=by intro W bv hW hc;have h:=anf a n cap ts 204 #[.pointer (some ⟨bv,0,none⟩)] (λt=>!cJ t.1 V) W hn zo (ha.below hW) eg (λx hx W2 hW2=>by simpa using asT x.1 x.2.1 x.2.2.1 x.2.2.2 V bv W2 (cell_later hW2 hc) (hl2 x hx));rwa [alu V ts hm]at h
 obtain⟨C,hC⟩:=az (aS ts);have hcn:=λW (hW:Bw w W)=>(QH a n cap ts W hn zo hs (ha.below hW)).mono (λe w' h=>(match h with|⟨v,h1,h2,h3⟩=>⟨v,h1,h2,h3,h3⟩:∃v',e=.returned v'/\w'.ownsRow W.heap.size 111 4 v' n (ts.flatMap aH)/\Bw W w'/\Bw W w'));have hcl:=λw0 W v (hw0:Bw w w0) (hb0:Bw w0 W) (ho:W.ownsRow w0.heap.size 111 4 v n (ts.flatMap aH))=>KY (V:Int) v n ts C B w0 W hb0 hn hl ho hf hB (hT.below hw0) hC;rw[hC];obtain⟨ER,jC,fV⟩:=bL hct hcn hcl;clear hct hcn hcl hC ha hT hf hm hl2 hs hn eg;have tM:=λW=>Lv (V:Int) W;have hd:decide (0<=(V:Int)/\(V:Int)<=12)=true:=by simp;omega
 rw[hd]at tM;have EW:=aj tM;clear tM hd;have hni:¬(65536:Int)<(n:Int):=by omega
 have Hb:=hbz w;go_enter Tryz.func121,Tryz.ntmps121;go_wp2_with fail;refine gQ w (Hb.an trivial) 3 [af (V:Int)] 41 [af 0,.slice none 0 0] λW aG ae ai=>?_;go_wp2_with fail;refine aK ae (EW.out _) λw1 ae ai=>?_;have v0:w1.cell? ⟨w.heap.size,0,none⟩=some (af (V:Int)):=ae.1.out.cell 0;go_wp2_with fail;refine aK ae (ER.out _ _ ae.2.2.1.out v0) λw2 ae ai=>?_;go_wp2_with fail;obtain⟨Hv,Hr,Hb,_⟩:=ae;have v0:=Hv.out.c1;obtain⟨r0,aX,r1,aY⟩:=Hr.out.g2;refine fx (λw'=>aJ w' (w.heap.size) 0 (af (V:Int))) (λi=>Nat.blt i 6) [(0,true),(1,true),(2,false),(3,false),(4,true),(5,true),(6,false),(7,false)] zk zk rfl zk zc v0 ?_;iterate 2 (refine pT rfl rfl ?_;try simp only[UU])
 have akK:=Hv;have lS:=Hr;have eU:=Hb;refine aN rfl rfl (λK hK=>?_);go_simp;with_reducible refine(jC.out _ (by first|exact Hb.out|exact Hb.out.drew)).mono ?_
 rintro e w3 ⟨v1,rfl,cV,aqk,hq⟩;have ak:Bw w2 w3:=by first|exact hq|exact cS hq
 replace Hv:=kB Hv ak;replace Hr:=kB Hr ak;have v0:=Hv.out.c1;obtain⟨r0,aX,r1,aY⟩:=Hr.out.g2;replace Hb:=bg Hb ak;refine hK _ _ (λ_=>v0) ?_;try simp only[UU]
 refine aN rfl rfl (λK hK=>?_);go_simp;with_reducible refine(fV.out _ _ v1 (by first|exact eU.out|exact eU.out.drew) aqk cV).mono ?_
 rintro e w4 ⟨a2,c2,rfl,fH,hq⟩;have ak:Bw w2 w4:=by first|exact hq|exact cS hq
 replace Hv:=aj (akK.out.below ak);replace Hr:=aj (lS.out.below ak);have v0:=Hv.out.c1;obtain⟨r0,aX,r1,aY⟩:=Hr.out.g2;replace Hb:=aj (aC eU.out ak);refine hK _ _ (λ_=>v0) ?_;try simp only[UU]
 iterate 2 (refine pT rfl rfl ?_;try simp only[UU])
 refine aN rfl rfl (λK hK=>?_);go_simp;refine hK _ _ (by first|exact λh=>absurd h zd|exact λ_=>v0|exact λ_=>gG zg v0) ?_;try simp only[UU]
 refine aN rfl rfl (λK hK=>?_);go_simp;refine hK _ _ (λh=>absurd h zd) ?_;try simp only[UU]
 simp only[bE];go_wp2;refine CP (Hr.out) fH Hb.out zo ?_;intro w9 ll eZ iu;obtain⟨p0,p1⟩:=ll.c2;exact bodyPost_ret (v:=.tuple #[.agg #[af (V:Int),.slice a2 C.length c2],af 0]) (by simp[results,Tryz.results121,go_sem,p0,p1]) rfl ⟨_,_,rfl,rP eZ (by have:=eU.out.size;exact this),iu⟩
def Af (w:World)(a:Option Addr)(C:List Trm):Prop:=C=[]\/∃b o cur,a=some ⟨b,o,none⟩/\w.heap[b]?=some (.cells cur 111)
def Af.below {w w':World}{a:Option Addr}{C:List Trm}(h:Af w a C)(hb:Bw w w'):Af w' a C:=by
 rcases h with h|⟨b,o,cur,h1,h2⟩
 . exact .inl h
 . exact .inr ⟨b,o,cur,h1,by rw[hb.block b (Array.getElem?_eq_some_iff.1 h2).1];exact h2⟩
def Af.off {w:World}{a:Option Addr}{C:List Trm}{g:Nat}{cur:Array Value}{t:TypeId}(h:Af w a C)(hg:w.heap[g]?=some (.cells cur t))(ht:t≠111)(i:Nat)(u:Value):Af (w.setCell ⟨g,i,none⟩ u) a C:=by
 rcases h with h|⟨b,o,cur',h1,h2⟩
 . exact .inl h
 . refine .inr ⟨b,o,cur',h1,?_⟩;have hne:b≠g:=λe=>by subst e;rw[hg]at h2;simp at h2;exact ht h2.2
   rw[Below.heap_setCell _ _ _ _ hne];exact h2
def aW (w:World)(a:Option Addr)(c:Nat)(C:List Trm):Prop:=At w a (C.flatMap aH)/\Sl a C.length c/\Af w a C
def aW.below {w w':World}{a:Option Addr}{c:Nat}{C:List Trm}(h:aW w a c C)(hb:Bw w w'):aW w' a c C:=⟨h.1.below hb,h.2.1,h.2.2.below hb⟩
instance {w :World} {a:Option Addr} {c:Nat} {C:List Trm}:QTr (aW w a c C) w (λW=>aW W a c C):=⟨λh _ k=>aW.below h k⟩
def vO (w:World)(a:Option Addr)(c:Nat)(C:List Trm):Prop:=At w a (C.flatMap aH)/\Sl a C.length c
def vO.below {w w':World}{a:Option Addr}{c:Nat}{C:List Trm}(h:vO w a c C)(hb:Bw w w'):vO w' a c C:=⟨h.1.below hb,h.2⟩
def aW.w {w:World}{a:Option Addr}{c:Nat}{C:List Trm}(h:aW w a c C):vO w a c C:=⟨h.1,h.2.1⟩
def aW.off {w:World}{a:Option Addr}{c:Nat}{C:List Trm}{g:Nat}{cur:Array Value}{t:TypeId}(h:aW w a c C)(hg:w.heap[g]?=some (.cells cur t))(ht:t≠111)(i:Nat)(u:Value):aW (w.setCell ⟨g,i,none⟩ u) a c C:=by
 refine⟨?_,h.2.1,h.2.2.off hg ht i u⟩;rcases h.2.2 with h'|⟨b,o,cur',rfl,h2⟩
 . subst h';exact .inl rfl
 . have hne:b≠g:=λe=>by subst e;rw[hg]at h2;simp at h2;exact ht h2.2
   rcases h.1 with h1|⟨b1,o1,e1,hc⟩
   . exact .inl h1
   . simp only[Option.some.injEq,Addr.mk.injEq,and_true]at e1;obtain⟨rfl,rfl⟩:=e1;refine .inr ⟨b,o,rfl,λj hj=>?_⟩;have h9:=hc j hj;rw[List.getElem?_eq_getElem hj]at h9⊢;exact aF (.inl hne) h9
def aW.store {w:World}{a:Option Addr}{c b:Nat}{t:TypeId}{C:List Trm}{cs:List Value}(h:aW w a c C)(hb:ar w b t cs)(ht:t≠111)(u v:Value):aW ((w.setCell ⟨b,0,none⟩ u).setCell ⟨b,1,none⟩ v) a c C:=
 (h.off hb ht 0 u).off (hb.set 0 u) ht 1 v
def BG {w:World}{base c:Nat}{a:Option Addr}{C:List Trm}(h:w.ownsRow base 111 4 (.slice a C.length c) C.length (C.flatMap aH)):aW w a c C:=by
 obtain⟨a',c',hv,hat,_⟩:=cz h;have hs:=yT h;simp only[Value.slice.injEq,true_and]at hv;obtain⟨rfl,rfl⟩:=hv;refine⟨hat,hs,?_⟩;rcases h.2 with⟨_,h2⟩ |⟨g,cap,cur,hv,hb,hg,_⟩
 . exact .inl (List.length_eq_zero_iff.1 h2)
 . simp only[Value.slice.injEq,true_and]at hv;exact .inr ⟨g,0,cur,hv.1,hg⟩
def axY (V:Nat):((List.range V).map λ_=>UInt8.ofNat 0)=lJ V:=by
 unfold lJ;apply List.ext_getElem
 . simp
 . intro i h1 h2;simp
def aeB (V:Nat)(D:Dyadic)(x:Raw)(l:Nat->Dyadic)(h:dval x=D):aS [(lJ V,x)]=cW V D l 0:=by unfold cW;refine CS (λm=>?_);simp only[fw,List.range_zero,List.map_nil,bU,bA,h]
def CU (V:Nat)(s:Bool)(m:List UInt8)(e:Int)(D:Dyadic)(B:Nat)(l:Nat->Dyadic)(w:World)(hV:V<=12)(hf:Fit B (s,m,e))(hB:B+3<=268435456)(hT:aB w)(hD:dval (s,m,e)=D):
 Cl 157 #[af (V:Int),.agg #[ag s,ah m,af e]] w λex w'=>∃a' c',ex=.returned (.tuple #[.agg #[af (V:Int),.slice a' (cW V D l 0).length c'],af 0])/\aW w' a' c' (cW V D l 0)/\Bw w w':=by
 have hC:=aeB V D (s,m,e) l hD;obtain⟨C,Rz⟩:=az (cW V D l 0);rw[Rz]at hC⊢;have hmk:=λW (hW:Bw w W) b (hb:ar W b 111 [ah (lJ V),ag s,ah m,af e])=>aeN V (some ⟨b,0,none⟩) 1 1 [(lJ V,(s,m,e))] B W hV rfl zo (Sl.some _ _ _ (Nat.le_refl _)) (At.aBa hb) (by intro t ht;simp at ht;subst ht;exact VV V) (by intro t ht;simp at ht;subst ht;simp[lJ];omega) (by intro t ht;simp at ht;subst ht;exact hf) zo (hT.below hW);rw[hC]at hmk;have tM:=λW=>Lv (V:Int) W;have hd:decide (0<=(V:Int)/\(V:Int)<=12)=true:=by simp;omega
 rw[hd]at tM;have hmb:=λW=>wW (V:Int) V rfl zo W;have hcv:∀W b,Hid (ar W b 5 (dt V λ_=>0))->(convert 59 9 (.slice (some ⟨b,0,none⟩) V V)).run Tryz.prog W=.ok (ah (lJ V)) W:=λW b h=>by rw[<-axY];exact Ew h.out V
 obtain⟨oN,EW⟩:=aI hmk tM;clear hmk tM hd hC Rz hT hf hD;have Hb:=hbz w;go_enter Tryz.func157,Tryz.ntmps157;go_wp2_with fail;refine gQ w (Hb.an trivial) 45 [ag s,ah m,af e] 41 [af 0,.slice none 0 0] λW aG ae ai=>?_;go_wp2_with fail;refine aK ae (EW.out _) λw1 ae ai=>?_;go_wp2_with fail;obtain⟨Hc,Hr,Hb,_⟩:=ae;obtain⟨c0,c1,c2⟩:=Hc.out.c3;obtain⟨r0,aX,r1,aY⟩:=Hr.out.g2;refine fx (λw'=>aJ w' (w.heap.size) 0 (ag s)/\aJ w' (w.heap.size) 1 (ah m)/\aJ w' (w.heap.size) 2 (af e)) (λi=>Nat.blt i 10) [(0,true),(1,true),(4,true),(2,false),(3,false),(5,true),(6,false),(7,false),(8,true),(9,true),(10,false),(11,false)] zk zk rfl zk zc ⟨c0,c1,c2⟩ ?_;iterate 3 (refine pT rfl rfl ?_ (by intro w' ⟨q0,q1,q2⟩;go_simp;try with_reducible rfl);try simp only[UU])
 refine aN rfl rfl (λK hK=>?_);go_simp;refine hK _ _ (λ_=>⟨aM c0,aM c1,aM c2⟩) ?_;try simp only[UU]
 refine cg (λW3=>ar W3 (w1.heap.size) 5 (dt V (λ_=>0))/\Bw w1 W3) (by first|exact iw|exact iy) ?_;rintro W3 ⟨qq,ak⟩;have aAg:=Hc.out.lt;have aAm:=Hr.out.lt;replace Hc:=kB Hc ak;replace Hr:=kB Hr ak;have Hq:=aj qq;clear qq;obtain⟨c0,c1,c2⟩:=Hc.out.c3;obtain⟨r0,aX,r1,aY⟩:=Hr.out.g2;replace Hb:=bg Hb ak;refine aN rfl rfl (λK hK=>?_);go_simp;refine hK _ _ (λ_=>⟨c0,c1,c2⟩) ?_;try simp only[UU]
 refine pT rfl rfl ?_;try simp only[UU]
 refine aN rfl rfl (λK hK=>?_);go_simp;refine hK _ _ (λ_=>⟨aM c0,aM c1,aM c2⟩) ?_;try simp only[UU]
 refine cg (λW4=>ar W4 (W3.heap.size) 111 [ah (lJ V),ag s,ah m,af e]/\Bw W3 W4) (by first|exact iw|exact iy) ?_;rintro W4 ⟨qz,ak⟩;have asH:=Hc.out.lt;have aAn:=Hr.out.lt;have aAk:=Hq.out.lt;replace Hc:=kB Hc ak;replace Hr:=kB Hr ak;replace Hq:=kB Hq ak;have Hz:=aj qz;clear qz;obtain⟨c0,c1,c2⟩:=Hc.out.c3;obtain⟨r0,aX,r1,aY⟩:=Hr.out.g2;obtain⟨z0,z1,z2,z3⟩:=Hz.out.c4;replace Hb:=bg Hb ak;refine aN rfl rfl (λK hK=>?_);go_simp;with_reducible refine(oN.out _ Hb.out _ Hz.out).mono ?_
 rintro e w5 ⟨a2,d2,rfl,fH,hq⟩;have ak:Bw W4 w5:=by first|exact hq|exact cS hq
 obtain⟨Hc,c0,c1,c2⟩:=IG Hc ak;obtain⟨Hr,r0,aX,r1,aY⟩:=dS Hr ak;replace Hq:=kB Hq ak;obtain⟨Hz,z0,z1,z2,z3⟩:=Ee Hz ak;replace Hb:=bg Hb ak;refine hK _ _ (λ_=>⟨c0,c1,c2⟩) ?_;try simp only[UU]
 iterate 2 (refine pT rfl rfl ?_;try simp only[UU])
 refine aN rfl rfl (λK hK=>?_);go_simp;refine hK _ _ (by first|exact λh=>absurd h zd|exact λ_=>⟨c0,c1,c2⟩ |exact λ_=>⟨(by first|exact c0|exact aF zf c0|exact aF zf (aF zf c0) |exact aF zf (aF zf (aF zf c0))),(by first|exact c1|exact aF zf c1|exact aF zf (aF zf c1) |exact aF zf (aF zf (aF zf c1))),(by first|exact c2|exact aF zf c2|exact aF zf (aF zf c2) |exact aF zf (aF zf (aF zf c2)))⟩) ?_;try simp only[UU]
 refine aN rfl rfl (λK hK=>?_);go_simp;refine hK _ _ (λh=>absurd h zd) ?_;try simp only[UU]
 simp only[bE];go_wp2;refine CP (Hr.out) fH Hb.out zo ?_;intro w9 ll eZ iu;obtain⟨p0,p1⟩:=ll.c2;exact bodyPost_ret (v:=.tuple #[.agg #[af (V:Int),.slice a2 C.length d2],af 0]) (by simp[results,Tryz.results157,go_sem,p0,p1]) rfl ⟨_,_,rfl,BG eZ,iu⟩
def aw1 (V k:Nat):((List.range V).map λj=>UInt8.ofNat (if j=k then 1 else 0))=cF V k:=by
 unfold cF;apply List.ext_getElem
 . simp
 . intro i h1 h2;rw[List.getElem_map,List.getElem_range,List.getElem_set];by_cases h:k=i
   . subst h;simp
   . rw[if_neg (λe=>h e.symm),if_neg h];simp
def aw2 :Fit 1 (canon (1:Dyadic)):=Sm.one.fit zd
def agG (V k:Nat)(w:World)(hV:V<=12)(hk:k<V)(hT:aB w):
 Cl 162 #[af (V:Int),af (k:Int)] w λex w'=>∃a' c',ex=.returned (.tuple #[.agg #[af (V:Int),.slice a' (aS [(cF V k,canon 1)]).length c'],af 0])/\aW w' a' c' (aS [(cF V k,canon 1)])/\Bw w w':=by
 obtain⟨C,hC⟩:=az (aS [(cF V k,canon 1)]);rw[hC];obtain⟨O,hO⟩:∃O:Dyadic,(1:Dyadic)=O:=⟨_,rfl⟩;have hmk:=λW (hW:Bw w W) b (hb:ar W b 111 [ah (cF V k),ag (au (dN O)),ah (nt (dN O).natAbs),af (dE O)])=>aeN V (some ⟨b,0,none⟩) 1 1 [(cF V k,canon 1)] 1 W hV rfl zo (Sl.some _ _ _ (Nat.le_refl _)) (by rw[hO];exact At.aBa hb) (by intro t ht;simp at ht;subst ht;exact NG V k) (by intro t ht;simp at ht;subst ht;simp[cF];omega) (by intro t ht;simp at ht;subst ht;exact aw2) zo (hT.below hW);rw[hC]at hmk;have hof:=λW (hW:Bw w W)=>Ao 1 O hO W zd (hT.below hW);have tM:=λW=>Lv (V:Int) W;have hd:decide (0<=(V:Int)/\(V:Int)<=12)=true:=by simp;omega
 rw[hd]at tM;have hmb:=λW=>wW (V:Int) V rfl zo W;have hcv:∀W b,Hid (ar W b 5 (dt V λj=>if j=k then 1 else 0))->(convert 59 9 (.slice (some ⟨b,0,none⟩) V V)).run Tryz.prog W=.ok (ah (cF V k)) W:=λW b h=>by rw[<-aw1 V k];exact Ew h.out V
 have aU:=λb=>yJ V V k (k:Int) (rfl:(some ⟨b,0,none⟩:Option Addr)=_) hk rfl;simp only[Nat.zero_add,Nat.mul_one]at aU;have hget:(dt V λ_=>0)[k]?=some (.int .u8 0):=nQ _ _ _ hk;have nC:(dt V λ_=>0).set k (.int .u8 1)=dt V λj=>if j=k then 1 else 0:=Ex V _ k 1
 obtain⟨oN,nX,EW⟩:=bL hmk hof tM;clear hmk hof tM hd hC hT hO;have uT:¬(k:Int)<0:=by omega
 have Hb:=hbz w;go_enter Tryz.func162,Tryz.ntmps162;go_wp2_with fail;refine cX w (Hb.an trivial) 41 [af 0,.slice none 0 0] λW aG ae ai=>?_;go_wp2_with fail;refine aK ae (EW.out _) λw1 ae ai=>?_;go_wp2_with fail;obtain⟨R,hR⟩:∃R:World->Prop,(λW3=>ar W3 w1.heap.size 5 (dt V λj=>if j=k then 1 else 0)/\Bw w1 W3)=R:=⟨_,rfl⟩;first|refine eG R ?hR ?_|refine eF R ?hR ?_
 case hR=>subst hR;exact⟨ar.newAt w1 _ _ (b:=w1.heap.size) rfl,zl⟩
 subst hR;intro W3 ⟨qm,ak⟩;obtain⟨ae,ai⟩:=qX ak ae;skip
 have Hm:=aj qm;clear qm ak hget nC aU hmb;obtain⟨Hr,Hb,_⟩:=ae;obtain⟨r0,aX,r1,aY⟩:=Hr.out.g2;have oJ:∀w',gF W3 w'->(convert 59 9 (.slice (some ⟨w1.heap.size,0,none⟩) V V)).run Tryz.prog w'=.ok (ah (cF V k)) w':=λw' h=>hcv w' _ (aj (Hm.out.below h));have lL:Hid (gF W3 W3):=Below.refl _ _;refine fx (λw'=>gF W3 w') (λi=>Nat.blt i 9) [(0,true),(1,true),(2,true),(3,false),(4,true),(5,false),(6,false),(7,true),(8,true),(9,false),(10,false)] zk zk rfl zk zc lL.out.drew ?_;iterate 3 (refine UN rfl rfl (v:=?_) (λw' hw'=>?_) ?_;rotate_left;(focus have hw':=oJ w' hw';go_simp;try with_reducible rfl);try simp only[UU])
 refine aN rfl rfl (λK hK=>?_);go_simp;with_reducible refine(nX.out _ (by first|exact Hb.out|exact Hb.out.drew)).mono ?_
 rintro e w4 ⟨rfl,hq⟩;have ak:Bw W3 w4:=by first|exact hq|exact cS hq
 replace lL:=aj (lL.out.below ak);obtain⟨Hr,r0,aX,r1,aY⟩:=dS Hr ak;replace Hb:=bg Hb ak;refine hK _ _ (λ_=>lL.out) ?_;try simp only[UU]
 refine pT rfl rfl ?_;try simp only[UU]
 refine aN rfl rfl (λK hK=>?_);go_simp;refine hK _ _ (λ_=>by first|exact lL.out.alloc _|exact(lL.out.alloc _).drew|exact(lL.out.drew).alloc _) ?_;try simp only[UU]
 refine cg (λW5=>ar W5 (w4.heap.size) 111 [ah (cF V k),ag (au (dN O)),ah (nt (dN O).natAbs),af (dE O)]/\Bw w4 W5) (by first|exact iw|exact iy) ?_;rintro W5 ⟨qz,ak⟩;have aAo:=Hr.out.lt;replace lL:=aj (lL.out.below ak);replace Hr:=kB Hr ak;have Hz:=aj qz;clear qz;obtain⟨r0,aX,r1,aY⟩:=Hr.out.g2;obtain⟨z0,z1,z2,z3⟩:=Hz.out.c4;replace Hb:=bg Hb ak;refine aN rfl rfl (λK hK=>?_);go_simp;with_reducible refine(oN.out _ Hb.out _ Hz.out).mono ?_
 rintro e w6 ⟨a2,d2,rfl,fH,hq⟩;have ak:Bw W5 w6:=by first|exact hq|exact cS hq
 replace lL:=aj (lL.out.below ak);obtain⟨Hr,r0,aX,r1,aY⟩:=dS Hr ak;obtain⟨Hz,z0,z1,z2,z3⟩:=Ee Hz ak;replace Hb:=bg Hb ak;refine hK _ _ (λ_=>lL.out) ?_;try simp only[UU]
 iterate 2 (refine pT rfl rfl ?_;try simp only[UU])
 refine aN rfl rfl (λK hK=>?_);go_simp;refine hK _ _ (by first|exact λh=>absurd h zd|exact λ_=>lL.out|exact λ_=>gG zg lL.out) ?_;try simp only[UU]
 refine aN rfl rfl (λK hK=>?_);go_simp;refine hK _ _ (λh=>absurd h zd) ?_;try simp only[UU]
 simp only[bE];go_wp2;refine CP (Hr.out) fH Hb.out zo ?_;intro w9 ll eZ iu;obtain⟨p0,p1⟩:=ll.c2;exact bodyPost_ret (v:=.tuple #[.agg #[af (V:Int),.slice a2 C.length d2],af 0]) (by simp[results,Tryz.results162,go_sem,p0,p1]) rfl ⟨_,_,rfl,BG eZ,iu⟩
def Bp {l:List UInt8}{V:Nat}(h:cJ l (V:Int)=true):l.length=V:=by unfold cJ at h;rw[Bool.and_eq_true]at h;have:=h.2;simp at this;omega
def dL (V B:Nat)(ts:List Trm):Prop:=FJ V ts/\∀t∈ts,Fit B t.2
def dL.chk {V B:Nat}{ts:List Trm}(h:dL V B ts):∀t∈ts,t.1.length<=9223372036854775807/\Ok t.2:=λt ht=>⟨by have:=Bp (h.1.2.1 t ht);have:=h.1.2.2.2;omega,(h.2 t ht).1⟩
def afU (V:Nat)(a:Option Addr)(cap:Nat)(ts:List Trm)(s:Bool)(m:List UInt8)(e:Int)(D:Dyadic)(B:Nat)(w:World)(hp:dL V B ts)(ha:vO w a cap ts)(hf:Fit B (s,m,e))(hB:2*B+8192<=268435456)(hT:aB w)(hD:dval (s,m,e)=D):
 Cl 159 #[.agg #[af (V:Int),.slice a ts.length cap],.agg #[ag s,ah m,af e]] w λex w'=>∃a' c',ex=.returned (.tuple #[.agg #[af (V:Int),.slice a' (aS (cC D ts)).length c'],af 0])/\aW w' a' c' (aS (cC D ts))/\Bw w w':=by
 obtain⟨n,hn⟩:=az ts.length;have hnl:n<=4096:=by have:=hp.1.2.2.1;omega
 have hV:V<=12:=hp.1.2.2.2;obtain⟨C,hC⟩:=az (aS (cC D ts));have qj:(cC D ts).length=n:=by unfold cC;rw[List.length_map,hn]
 have hSf:∀t∈cC D ts,Fit (2*B) t.2:=by intro t ht;unfold cC at ht;obtain⟨x,hx,rfl⟩:=List.mem_map.1 ht;refine Sm.fit ?_ zo;have:=Sm.mul (hp.2 x hx).2 hf.2;rw[hD]at this;exact this.mono zo
 have cH:=λW (hW:Bw w W)=>BK (V:Int) a cap n ts W hn zo (ha.1.below hW) hp.chk (hT.below hW);rw[Nl hp.1]at cH;have hs:=ha.2;rw[hn]at hs;have hcn:=λW (hW:Bw w W)=>(QH a n cap ts W hn zo hs (ha.1.below hW)).mono (λe w' h=>(match h with|⟨v,h1,h2,h3⟩=>⟨v,h1,h2,h3,h3⟩:∃v',e=.returned v'/\w'.ownsRow W.heap.size 111 4 v' n (ts.flatMap aH)/\Bw W w'/\Bw W w'));have hcl:=λw0 W v (hw0:Bw w w0) (hb0:Bw w0 W) (ho:W.ownsRow w0.heap.size 111 4 v n ((cC D ts).flatMap aH))=>KY (V:Int) v n (cC D ts) C (2*B) w0 W hb0 qj hnl ho hSf zo (hT.below hw0) hC;have fT:=hp.2;rw[hn,hC];obtain⟨fA,jC,fV,qV,HT,Hn,Hfc,HD⟩:=lC cH hcn hcl fT hT hn hf hD;clear cH hcn hcl fT hT hn hf hD hC qj hSf hs ha hp;have Hb:=hbz w;go_enter Tryz.func159,Tryz.ntmps159;go_wp2_with fail;refine BL w (Hb.an trivial) 41 [af (V:Int),.slice a n cap] 45 [ag s,ah m,af e] 41 [af 0,.slice none 0 0] λW aG ae ai=>?_;go_wp2_with fail;refine aK ae (fA.out _ ae.2.2.2.1.out) λw1 ae ai=>?_;obtain⟨Hp,Hc,Hr,Hb,_⟩:=ae;obtain⟨p0,p1⟩:=Hp.out.c2;obtain⟨c0,c1,c2⟩:=Hc.out.c3;obtain⟨r0,aX,r1,aY⟩:=Hr.out.g2;have Fi:=Hp;have Ol:=Hc;have lS:=Hr;have eU:=Hb;go_wp2_with fail;refine(jC.out _ Hb.out).mono ?_;rintro e w2 ⟨v1,rfl,cV,yf,ak⟩;obtain⟨ae,ai⟩:=qX ak (Hb.an<|Hp.an<|Hc.an<|Hr.an trivial);obtain⟨a1,d1,rfl,_,_⟩:=cz cV;obtain⟨nW,WT⟩:=aI cV yf;clear cV yf;go_wp2_with fail;go_loopw[20] (λx wr=>∃(k:Nat) (C:List Trm),k<=n/\x=af (k:Int)/\C.length=n/\C.take k=(cC D ts).take k/\C.drop k=ts.drop k/\wr.ownsRow w1.heap.size 111 4 (.slice a1 n d1) n (C.flatMap aH)/\Bw w1 wr) (λx _=>n-(intOf x).toNat);case atStart=>exact⟨0,ts,Nat.zero_le _,rfl,Hn.out,rfl,rfl,nW.out,WT.out⟩
 case round=>
  clear nW WT;obtain⟨k,C',hk,rfl,hC,htk,hdr,hov,pb⟩:=hrel;obtain⟨Hp,Hc,Hr⟩:=bL (Fi.out.below pb) (Ol.out.below pb) (lS.out.below pb);have dO:=aC eU.out pb;have BQ:=eU.out.size;by_cases hlt:k<n
  . obtain⟨g,cc,he,hg1,hg2,hg3⟩:=rO hov zo;simp only[Value.slice.injEq,true_and]at he;obtain⟨rfl,rfl⟩:=he;have wB:k<C'.length:=by omega
    have AQ:k<ts.length:=by have:=Hn.out;omega
    have hel:=ZP hdr wB AQ;obtain⟨l,s1,q1,e1,hx⟩:∃l s m e,C'[k]=(l,s,m,e):=⟨_,_,_,_,rfl⟩;have dz:=qV.out _ (List.getElem_mem AQ);rw[<-hel,hx]at dz;obtain⟨X,hX⟩:=az (dval (s1,q1,e1) *D);have nC:=aeO (λx=>(x.1,canon (dval x.2*D))) ts C' k wB (by rw[hC,Hn.out]) htk hel;have GF:(C'[k].1,canon (dval C'[k].2*D))=(l,canon X):=by rw[hx,<-hX]
    have ady:(C'.set k (l,canon X)).take (k+1)=(cC D ts).take (k+1):=by rw[<-GF];exact nC
    have kZ:C'[k].1=l:=by rw[hx]
    obtain⟨_,y1,y2,y3⟩:=(Nk hov k wB hx).w4;have hd2:C'.drop (k+1)=ts.drop (k+1):=by rw[<-List.drop_drop,<-List.drop_drop,hdr]
    have aU:=gK n d1 k (k:Int) (rfl:(some ⟨g,0,none⟩:Option Addr)=_) hlt rfl;rw[Nat.zero_add]at aU;have Hz:Hid (aQ wr g (k*4+1) [ag s1,ah q1,af e1]):=jm y1 y2 y3;have HX:Hid (dval (s1,q1,e1) *dval (s,m,e)=X):=by show _=_;rw[HD.out];exact hX
    obtain⟨dv,aP,Fs,vE,HC,Ou,iU,rW⟩:=lC hov pb ady hd2 hC kZ dz (HT.out.below dO);have ie:=pb.size;clear hov pb nC ady hd2 hC htk hdr hel hx hX GF kZ dz AQ y1 y2 y3 dO Fi Ol lS Hp Hr;have Hb:=hbz wr;go_wp2_with fail;obtain⟨ae,ai⟩:=qZ (Hc.an<|Hz.an trivial);have HU:Hid (aB wr):=rW.out;obtain⟨Hc,Hz,_⟩:=ae;obtain⟨c0,c1,c2⟩:=Hc.out.c3;obtain⟨z0,z1,z2⟩:=Hz.out.w3;refine fx (λw'=>aJ w' (w.heap.size+1) 0 (ag s)/\aJ w' (w.heap.size+1) 1 (ah m)/\aJ w' (w.heap.size+1) 2 (af e)/\aJ w' g (k*4+1) (ag s1)/\aJ w' g (k*4+1+1) (ah q1)/\aJ w' g (k*4+1+2) (af e1)) (λi=>Nat.blt i 12) [(0,true),(1,true),(2,true),(3,true),(4,true),(5,true),(6,true),(7,true),(8,false),(9,false),(10,true),(11,true),(12,false)] zk zk rfl zk zc ⟨c0,c1,c2,z0,z1,z2⟩ ?_;iterate 8 (refine pT rfl rfl ?_ (by intro w' ⟨q0,q1,q2,q3,q4,q5⟩;go_simp;try with_reducible rfl);try simp only[UU])
    refine aN rfl rfl (λK hK=>?_);go_simp;refine hK _ _ (λ_=>⟨aM c0,aM c1,aM c2,aM z0,aM z1,aM z2⟩) ?_;try simp only[UU]
    refine cg (λW4=>ar W4 (wr.heap.size) 45 [ag s1,ah q1,af e1,ag s,ah m,af e]/\Bw wr W4) (by first|exact iw|exact iy) ?_;rintro W4 ⟨qv,ak⟩;have asH:=Hc.out.lt;replace Hc:=kB Hc ak;replace Hz:=kW Hz ak;replace HU:=kT HU ak;have Hv:=aj qv;clear qv;obtain⟨c0,c1,c2⟩:=Hc.out.c3;obtain⟨z0,z1,z2⟩:=Hz.out.w3;obtain⟨v0,v1,v2,v3,v4,v5⟩:=Hv.out.c6;replace Hb:=bg Hb ak;refine aN rfl rfl (λK hK=>?_);go_simp;with_reducible refine(xR s1 q1 e1 s m e X B HX.out wr.heap.size _ 45 _ iU.out Hfc.out zo Hv.out (by first|exact HU.out|exact aB.drew HU.out|exact aB.alloc HU.out _|exact aB.drew (aB.alloc HU.out _) |exact aB.alloc (aB.drew HU.out) _)).mono ?_
    rintro e w5 ⟨rfl,hq⟩;have ak:Bw W4 w5:=by first|exact hq|exact cS hq
    obtain⟨Hc,c0,c1,c2⟩:=IG Hc ak;replace Hz:=kW Hz ak;replace HU:=kT HU ak;obtain⟨Hv,v0,v1,v2,v3,v4,v5⟩:=MV Hv ak;obtain⟨z0,z1,z2⟩:=Hz.out.w3;replace Hb:=bg Hb ak;refine hK _ _ (λ_=>⟨c0,c1,c2,z0,z1,z2⟩) ?_;try simp only[UU]
    iterate 2 (refine pT rfl rfl ?_;try simp only[UU])
    refine aN rfl rfl (λK hK=>?_);have iP:=ownsRow_below dv.out Hb.out;have xV:=mP iP (k*4+1);have Gh:=mP iP (k*4+1+1);have fz3:=mP iP (k*4+1+2);have dx:=aC aP.out Hb.out;obtain⟨zY,fL⟩:=aI iP dx;clear iP dx;go_simp;refine hK _ _ (λh=>absurd h zd) ?_;try simp only[UU]
    simp only[bE];go_wp2;refine⟨⟨k+1,C'.set k (l,canon X),by omega,by go_num,by rw[List.length_set];exact HC.out,Fs.out,by rw[QT _ _ _ _ zo];exact vE.out,?_,?_⟩,by simp[intOf];omega⟩
    . have h:=afo zY.out k wB (au (dN X)) (nt (dN X).natAbs) (dE X);rw[Ou.out]at h;exact h
    . exact((fL.out.setCell hg1 _).setCell hg1 _).setCell hg1 _
  . obtain rfl:k=n:=by omega
    have Gj:C'=cC D ts:=by rw[List.take_of_length_le zo,List.take_of_length_le (by unfold cC;rw[List.length_map];have:=Hn.out;omega)]at htk;exact htk
    rw[Gj]at hov;obtain⟨dv,aP⟩:=aI hov pb;have Hb:Hid (Bw w wr):=dO;clear hov pb htk hdr hC Gj dO;obtain⟨ae,ai⟩:=qZ (Hp.an<|Hr.an trivial);obtain⟨Hp,Hr,_⟩:=ae;obtain⟨p0,p1⟩:=Hp.out.c2;obtain⟨r0,aX,r1,aY⟩:=Hr.out.g2;go_wp2_with fail;refine(fV.out w1 _ _ eU.out aP.out dv.out).mono ?_;rintro e w6 ⟨a2,d2,rfl,fH,ak⟩;replace Hp:=aj (Fi.out.below ak);replace Hr:=aj (lS.out.below ak);obtain⟨p0,p1⟩:=Hp.out.c2;obtain⟨r0,aX,r1,aY⟩:=Hr.out.g2;replace Hb:=aj (aC eU.out ak);go_wp2;refine CP (Hr.out) fH Hb.out zo ?_;intro w9 ll eZ iu;obtain⟨q0,q1⟩:=ll.c2;exact bodyPost_ret (v:=.tuple #[.agg #[af (V:Int),.slice a2 C.length d2],af 0]) (by simp[results,Tryz.results159,go_sem,q0,q1]) rfl ⟨_,_,rfl,BG eZ,iu⟩
def Vm (V:Nat)(a:Option Addr)(cap:Nat)(ts:List Trm)(s:Bool)(m:List UInt8)(e:Int)(D:Dyadic)(B:Nat)(w:World)(hp:dL V B ts)(ha:aW w a cap ts)(hf:Fit B (s,m,e))(hB:2*B+8192<=268435456)(hT:aB w)(hD:dval (s,m,e)=D):
 Cl 159 #[.agg #[af (V:Int),.slice a ts.length cap],.agg #[ag s,ah m,af e]] w λex w'=>∃a' c',ex=.returned (.tuple #[.agg #[af (V:Int),.slice a' (aS (cC D ts)).length c'],af 0])/\aW w' a' c' (aS (cC D ts))/\Bw w w':=afU V a cap ts s m e D B w hp ha.w hf hB hT hD
def fC (w:World)(V B:Nat)(ps:List Pv)(Ts:Nat->List Trm):Prop:=∀k (h:k<ps.length),∃a c,ps[k]=⟨(V:Int),a,(Ts k).length,c⟩/\aW w a c (Ts k)/\dL V B (Ts k)
def fC.below {w w':World}{V B:Nat}{ps:List Pv}{Ts:Nat->List Trm}(h:fC w V B ps Ts)(hb:Bw w w'):fC w' V B ps Ts:=λk hk=>by obtain⟨a,c,h1,h2,h3⟩:=h k hk;exact⟨a,c,h1,h2.below hb,h3⟩
instance {w :World} {V B:Nat} {ps:List Pv} {Ts:Nat->List Trm}:QTr (fC w V B ps Ts) w (λW=>fC W V B ps Ts):=⟨λh _ k=>fC.below h k⟩
def xM (w:World)(V B:Nat)(ps:List Pv)(Ts:Nat->List Trm):Prop:=∀k (h:k<ps.length),∃a c,ps[k]=⟨(V:Int),a,(Ts k).length,c⟩/\vO w a c (Ts k)/\dL V B (Ts k)
def xM.below {w w':World}{V B:Nat}{ps:List Pv}{Ts:Nat->List Trm}(h:xM w V B ps Ts)(hb:Bw w w'):xM w' V B ps Ts:=λk hk=>by obtain⟨a,c,h1,h2,h3⟩:=h k hk;exact⟨a,c,h1,h2.below hb,h3⟩
instance {w :World} {V B:Nat} {ps:List Pv} {Ts:Nat->List Trm}:QTr (xM w V B ps Ts) w (λW=>xM W V B ps Ts):=⟨λh _ k=>xM.below h k⟩
def below_drewN {n:Nat}{w w':World}(h:Below n w w')(k:Nat):Below n w (w'.drewN k):=by
 induction k with
 |zero=>exact h
 |succ k ih=>exact ih.drew
def asb (V V':Int)(aT:Option Addr)(nT cT:Nat)(bl:Nat)(b o L cap:Nat)(q:Value)(w:World)(hc:w.cell? ⟨bl,0,none⟩=some (.slice (some ⟨b,o,none⟩) L cap))(hL:0<L)(hw:aQ w b o [af V,q]):
 Cv 273 #[.agg #[af V',.slice aT nT cT],.pointer (some ⟨bl,0,none⟩)] w (ag (V' !=V)):=by
 have aU:=ue L cap 0 0 (rfl:(some ⟨b,o,none⟩:Option Addr)=_) hL rfl;rw[Nat.zero_mul,Nat.add_zero]at aU;have h0:w.cell? ⟨b,o,none⟩=some (af V):=by have:=hw.w2.1;exact this
 obtain⟨Hc,H0⟩:=aI hc h0;clear hc h0 hw;obtain⟨W,bX,ae,ai⟩:=fK w 41 [af V',.slice aT nT cT];have k1:=cell_later ae.1.out Hc.out;have k2:=cell_later ae.1.out H0.out;go_enter Tryz.func273,Tryz.ntmps273;go_wp2_with fail;go_quiet (fail)
 go_wp2;refine bodyPost_ret (results_tmp rfl _ _ _) rfl ⟨rfl,(below_drewN ae.1.out _)⟩
def aew (V B:Nat)(b o L cap:Nat)(ps:List Pv)(Ts:Nat->List Trm)(w:World)(hL:ps.length=L)(pZ:0<L)(xZ:L<=65536)(ha:At w (some ⟨b,o,none⟩) (ps.flatMap ic))(hp:xM w V B ps Ts)(hT:aB w):
 Cv 229 #[.slice (some ⟨b,o,none⟩) L cap] w (af 0):=by
 have eg:∀args w,(callFunc 273 args).run Tryz.prog w=.ok (.enter 273 args) w:=enters_of Tryz.func273 zk rfl;have hct:∀W bl,Bw w W->W.cell? ⟨bl,0,none⟩=some (.slice (some ⟨b,o,none⟩) L cap)->Cv 147 #[.slice (some ⟨b,o,none⟩) L cap,.func (.func 273) #[] #[.pointer (some ⟨bl,0,none⟩)]] W (ag false):=by
  intro W bl hW hc;obtain⟨a0,c0,e0,_,_⟩:=hp 0 zo;obtain⟨b',o',hab,bW⟩:=(ha.below hW).aBd 0 zo e0;simp only[Option.some.injEq,Addr.mk.injEq,and_true]at hab;obtain⟨rfl,rfl⟩:=hab;rw[Nat.zero_mul,Nat.add_zero]at bW;have h:=Zr (some ⟨b,o,none⟩) L cap ps 273 #[.pointer (some ⟨bl,0,none⟩)] (λp=>p.V !=(V:Int)) W hL zo (ha.below hW) eg (λx hx W2 hW2=>by simpa using asb (V:Int) x.V x.a x.n x.c bl b o L cap _ W2 (cell_later hW2 hc) pZ (bW.below hW2));have hf:(ps.any λp=>p.V !=(V:Int))=false:=by rw[List.any_eq_false];intro p Bc;obtain⟨k,hk,rfl⟩:=List.mem_iff_getElem.1 Bc;obtain⟨a,c,e1,_,_⟩:=hp k hk;rw[e1];simp
  rwa [hf]at h
 have cH:=λW (hW:Bw w W) k (hk:k<ps.length)=>(show ∃a c,ps[k]=⟨(V:Int),a,(Ts k).length,c⟩/\Cv 79 #[.agg #[af (V:Int),.slice a (Ts k).length c]] W (af 0)from by
  obtain⟨a,c,e1,h1,h2⟩:=hp k hk;refine⟨a,c,e1,?_⟩;have h:=BK (V:Int) a c (Ts k).length (Ts k) W rfl (by have:=h2.1.2.2.1;omega) (h1.1.below hW) h2.chk (hT.below hW)
  rwa [Nl h2.1]at h)
 obtain⟨ER,fA,Ha,HL⟩:=cE hct cH ha hL;clear hct cH ha hL hp hT eg;have hLn:((L:Int)==0)=false:=by simp;omega
 have Hb:=hbz w;go_enter Tryz.func229,Tryz.ntmps229;go_wp2_with fail;refine cX w (Hb.an trivial) 51 [.slice (some ⟨b,o,none⟩) L cap] λW aG ae ai=>?_;go_loopw[8] (λx wr=>∃k:Nat,k<=L/\x=af (k:Int)/\Bw W wr) (λx _=>L-(intOf x).toNat);case atStart=>exact⟨0,Nat.zero_le _,rfl,Below.refl _ _⟩
 case round=>
  skip
  obtain⟨k,hk,rfl,pb⟩:=hrel;obtain⟨dO,hl,aP⟩:=bL (aC ae.2.1.out pb) (ae.1.out.below pb) pb;clear pb;by_cases hlt:k<L
  . have hk2:k<ps.length:=by rw[HL.out];exact hlt
    obtain⟨a1,c1,e1,hcall⟩:=fA.out wr dO.out k hk2;obtain⟨b',o',hab,bW⟩:=(Ha.out.below dO.out).aBd k hk2 e1;obtain⟨rfl,rfl⟩:b=b'/\o=o':=by simp at hab;exact hab
    have hcall:=λW (hW:Bw w W)=>(fA.out W hW k hk2);have aU:=ue L cap k (k:Int) (rfl:(some ⟨b,o,none⟩:Option Addr)=_) hlt rfl;obtain⟨nT,tV⟩:=az ((Ts k).length);have Sy:Hid (∀W,Bw w W->Cv 79 #[.agg #[af (V:Int),.slice a1 nT c1]] W (af 0)):=by intro W hW;obtain⟨a2,c2,e2,h2⟩:=hcall W hW;rw[e1]at e2;simp only[Pv.mk.injEq,true_and]at e2;obtain⟨rfl,rfl⟩:=e2;rw[tV]at h2;exact h2
    rw[tV]at bW;have Hx:Hid (aQ wr b (o+k*2) [af (V:Int),.slice a1 nT c1]):=bW;clear bW hcall hab e1 tV;have Hb:=hbz wr;obtain⟨ae,ai⟩:=qZ (Hx.an trivial);have x0:wr.cell? ⟨b,o+k*2,none⟩=some (af (V:Int)):=ae.1.out.cell 0 zm;have x1:wr.cell? ⟨b,o+k*2+1,none⟩=some (.slice a1 nT c1):=ae.1.out.cell 1 zm;have P0:=x0;have P1:=x1;obtain⟨W3,Dl,aG,ae,ai⟩:=bO wr (Hb.an ae) 41 [af (V:Int),.slice a1 nT c1];go_wp2_with fail;refine aK ae (Sy.out _ (aC dO.out ae.2.1.out)) λw4 ae ai=>?_;go_wp2;go_roundw;case rel=>exact⟨k+1,by omega,by go_num,aC aP.out ae.2.1.out⟩
    case measure=>exact bf
  . obtain rfl:k=L:=by omega
    have Hb:=dO;have Hl:=hl;obtain⟨ae,ai⟩:=qZ (Hl.an trivial);have l0:wr.cell? ⟨w.heap.size,0,none⟩=some (.slice (some ⟨b,o,none⟩) k cap):=ae.1.out.cell 0;go_wp2_with fail;refine aK (Hb.an ae) (ER.out _ _ Hb.out l0) λw6 ae ai=>?_;go_wp2;go_ret;exact⟨rfl,ae.1.out⟩
def jh (Ts:Nat->List Trm):Nat->List Trm
 |0=>[]
 |k+1=>gv (jh Ts k) (Ts k)
def nY (Ts:Nat->List Trm):Nat->List Trm
 |0=>[]
 |k+1=>nY Ts k++Ts k
def am6 (Ts:Nat->List Trm)(k:Nat)(m:List UInt8):bU (jh Ts k) m=bU (nY Ts k) m:=by
 induction k with
 |zero=>rfl
 |succ k ih=>unfold jh nY;rw[Zo,Aj,ih]
def ae3 (Ts:Nat->List Trm)(k:Nat):(jh Ts k).length<=(nY Ts k).length:=by
 induction k with
 |zero=>exact Nat.le_refl _
 |succ k ih=>unfold jh nY;have:=ae2 (jh Ts k) (Ts k);rw[List.length_append];omega
def Za (Ts:Nat->List Trm)(j k:Nat)(h:j<=k):(nY Ts j).length<=(nY Ts k).length:=by
 induction k with
 | zero => obtain rfl:j=0:=by omega
           exact Nat.le_refl _
 | succ k ih=>
   by_cases e:j=k+1
   . subst e;exact Nat.le_refl _
   . have:=ih zo;rw[show nY Ts (k+1)=nY Ts k++Ts k from rfl,List.length_append];omega
def atc {B:Nat}(Ts:Nat->List Trm)(k:Nat)(h:∀j,j<k->∀t∈Ts j,Fit B t.2)(hB:B+k<=268435456):∀t∈jh Ts k,Fit (B+k) t.2:=by
 induction k with
 |zero=>intro t ht;cases ht
 |succ k ih=>unfold jh;have:=ae1 (B:=B+k) (jh Ts k) (Ts k) (ih (λj hj=>h j zo) zo) (λt ht=>(h k zo t ht).mono zo) zo;exact this
def auj (V B:Nat)(b o L cap:Nat)(ps:List Pv)(Ts:Nat->List Trm)(C:List Trm)(w:World)(hL:ps.length=L)(pZ:0<L)(xZ:L<=65536)(ha:At w (some ⟨b,o,none⟩) (ps.flatMap ic))(hp:xM w V B ps Ts)(hn:(nY Ts L).length<=4096)(hB:B+L+8192<=268435456)(hT:aB w)(hC:aS (nY Ts L)=C):
 Cl 160 #[.slice (some ⟨b,o,none⟩) L cap] w λex w'=>∃a' c',ex=.returned (.tuple #[.agg #[af (V:Int),.slice a' C.length c'],af 0])/\aW w' a' c' C/\Bw w w':=by
 have Gd:=enters_of Tryz.func231 zk rfl;have Gc:=enters_of Tryz.func232 zk rfl;have hlk:=λW (hW:Bw w W)=>aew V B b o L cap ps Ts W hL pZ xZ (ha.below hW) (hp.below hW) (hT.below hW);have hCm:aS (jh Ts L)=C:=by rw[<-hC];exact CS (am6 Ts L)
 have mG:(jh Ts L).length<=4096:=Nat.le_trans (ae3 Ts L) hn;have SE:∀j,j<L->∀t∈Ts j,Fit B t.2:=λj hj=>by obtain⟨a,c,_,_,h⟩:=hp j zo;exact h.2
 have nz:=λk (hk:k<=L)=>atc (B:=B) Ts k (λj hj=>SE j zo) zo;have hcl:=λw0 W v (hw0:Bw w w0) (hb0:Bw w0 W) (ho:W.ownsRow w0.heap.size 111 4 v (jh Ts L).length ((jh Ts L).flatMap aH))=>KY (V:Int) v _ (jh Ts L) C (B+L) w0 W hb0 rfl mG ho (nz L (Nat.le_refl _)) zo (hT.below hw0) hCm;obtain⟨a0,c0,e0,_,_⟩:=hp 0 zo;obtain⟨b',o',hab,bW⟩:=ha.aBd 0 zo e0;obtain⟨rfl,rfl⟩:b=b'/\o=o':=by simp at hab;exact hab
 rw[Nat.zero_mul,Nat.add_zero]at bW;have qw:=ue L cap 0 0 (rfl:(some ⟨b,o,none⟩:Option Addr)=_) pZ rfl;rw[Nat.zero_mul,Nat.add_zero]at qw;obtain⟨n0,hn0⟩:=az ((Ts 0).length);rw[hn0]at bW;have hlb:b<w.heap.size:=World.block_lt_of_cell? w _ bW.w2.1;obtain⟨Pb,fV,Hmf,Hp,Ha,HT,HL,OC,OB,HfT,Hw,OX⟩:=gL hlk hcl nz hp ha hT hL Gd Gc SE bW qw
 have lQ:Hid (∀k,k<L->(jh Ts k).length<=4096/\(Ts k).length<=4096):=λk hk=>⟨Nat.le_trans (Nat.le_trans (ae3 Ts k) (Za Ts k L zo)) hn,by
  have h1:=Za Ts (k+1) L zo
  rw[show nY Ts (k+1)=nY Ts k++Ts k from rfl,List.length_append]at h1;omega⟩
 clear hlk hcl nz hp ha hT hL Gd Gc SE bW qw hC hCm hn mG hab e0 hn0;have Hb:=hbz w;go_enter Tryz.func160,Tryz.ntmps160;go_wp2_with fail;refine cX w (Hb.an trivial) 41 [af 0,.slice none 0 0] λW aG ae ai=>?_;go_wp2_with fail;refine aK ae (Pb.out _ ae.2.1.out) λw1 ae ai=>?_;obtain⟨Hr,Hb,_⟩:=ae;obtain⟨r0,aX,r1,aY⟩:=Hr.out.g2;have lS:=Hr;have eU:=Hb;go_wp2_with fail;go_loopw[5,16] (λs5 x wr=>∃(k:Nat) (v:Value),k<=L/\x=af (k:Int)/\v=s5/\wr.ownsRow w1.heap.size 111 4 v (jh Ts k).length ((jh Ts k).flatMap aH)/\Bw w1 wr) (λ_ x _=>L-(intOf x).toNat);case atStart=>exact⟨0,_,Nat.zero_le _,rfl,rfl,World.ownsRow_nil _ _ _ _,Below.refl _ _⟩
 case round=>
  clear r0 aX r1 aY Hr Hb;obtain⟨k,v,hk,rfl,rfl,ho,pb⟩:=hrel;have dO:=aC eU.out pb;have BQ:=eU.out.size;have ie:=pb.size;by_cases hlt:k<L
  . have hk2:k<ps.length:=by rw[HL.out];exact hlt
    obtain⟨a1,c1,e1,hpl,hft⟩:=Hp.out k hk2;obtain⟨b',o',hab,bW⟩:=(Ha.out.below dO).aBd k hk2 e1;obtain⟨rfl,rfl⟩:b=b'/\o=o':=by simp at hab;exact hab
    have aU:=ue L cap k (k:Int) (rfl:(some ⟨b,o,none⟩:Option Addr)=_) hlt rfl;obtain⟨av,cv,rfl,ye,_⟩:=cz ho;have Ir:=yT ho;have gJ:=lQ.out k hlt;have yl:=Hmf.out k zo;have mC:=HfT.out k hlt;have hsk:=hpl.2;have Hm:Hid (∀W,Bw wr W->Cl 230 #[.slice av (jh Ts k).length cv,.slice a1 (Ts k).length c1,.func (.func 231) #[] #[],.func (.func 232) #[] #[]] W λe w'=>∃v',e=.returned v'/\w'.ownsRow w1.heap.size 111 4 v' (jh Ts (k+1)).length ((jh Ts (k+1)).flatMap aH)/\Bw W w'):=by intro W hW;refine(aeS av _ cv (jh Ts k) a1 _ c1 (Ts k) (B+L) W rfl rfl Ir hsk zo zo (ye.below hW) (hpl.1.below (aC dO hW)) (λt ht=>(yl t ht).mono zo) (λt ht=>(mC t ht).mono zo) zo (HT.out.below (aC dO hW))).mono ?_;rintro e w' ⟨v',rfl,h1,h2⟩;exact⟨v',rfl,rP h1 (by have:=hW.size;omega),h2⟩
    obtain⟨nv,Tf⟩:=az ((jh Ts k).length);obtain⟨nT,tV⟩:=az ((Ts k).length);rw[Tf,tV]at Hm;rw[tV]at bW;have Hx:Hid (aQ wr b (o+k*2) [af (V:Int),.slice a1 nT c1]):=bW;have aP:=aj pb;rw[Tf];clear bW hab e1 tV Tf hpl hft ho ye Ir gJ yl mC hsk pb dO;have Hb:=hbz wr;obtain⟨ae,ai⟩:=qZ (Hx.an trivial);have x0:wr.cell? ⟨b,o+k*2,none⟩=some (af (V:Int)):=ae.1.out.cell 0 zm;have x1:wr.cell? ⟨b,o+k*2+1,none⟩=some (.slice a1 nT c1):=ae.1.out.cell 1 zm;have P0:=x0;have P1:=x1;obtain⟨W3,Dl,aG,ae,ai⟩:=bO wr (Hb.an ae) 41 [af (V:Int),.slice a1 nT c1];have Rc:=OC.out;have Lr:=OB.out;go_wp2_with fail;refine(Hm.out _ ae.2.1.out).mono ?_;rintro e w4 ⟨v',rfl,jR,hb4⟩;have dx:=aC aP.out (aC ae.2.1.out hb4);obtain⟨Ho4,fL⟩:=aI jR dx;clear Rc Lr jR dx hb4;go_wp2;go_roundw;case rel=>exact⟨k+1,v',by omega,by go_num,rfl,Ho4.out,fL.out⟩
    case measure=>exact bf
  . obtain rfl:k=L:=by omega
    obtain⟨av,cv,rfl,_,_⟩:=cz ho;have Hx:=aj (Hw.out.below dO);have Hb:Hid (Bw w wr):=dO;obtain⟨dv,aP,Hr⟩:=bL ho pb (lS.out.below pb);have aU:=OX.out;clear ho pb dO;obtain⟨ae,ai⟩:=qZ (Hx.an<|Hr.an trivial);have akU:Hid (aQ w1 b o [af (V:Int),.slice a0 n0 c0]):=Hw.out.below eU.out;obtain⟨Hx,Hr,_⟩:=ae;obtain⟨x0,x1⟩:=Hx.out.w2;obtain⟨r0,aX,r1,aY⟩:=Hr.out.g2;go_wp2_with fail;refine(fV.out w1 _ _ eU.out aP.out dv.out).mono ?_;rintro e w6 ⟨a2,d2,rfl,fH,ak⟩;replace Hx:=aj (akU.out.below ak);replace Hr:=aj (lS.out.below ak);obtain⟨x0,x1⟩:=Hx.out.w2;obtain⟨r0,aX,r1,aY⟩:=Hr.out.g2;replace Hb:=aj (aC eU.out ak);go_wp2;refine CP (Hr.out) fH Hb.out zo ?_;intro w9 ll eZ iu;obtain⟨q0,q1⟩:=ll.c2;exact bodyPost_ret (v:=.tuple #[.agg #[af (V:Int),.slice a2 C.length d2],af 0]) (by simp[results,Tryz.results160,go_sem,q0,q1]) rfl ⟨_,_,rfl,BG eZ,iu⟩
def kz (x:Dyadic)(m:Nat):List Dyadic:=(List.range m).map (fc x)
def afx (x:Dyadic)(m:Nat):(kz x m).length=m:=by simp[kz]
def au2 (x:Dyadic)(m k:Nat)(h:k<(kz x m).length):(kz x m)[k]=fc x k:=by simp[kz]
def afy (x:Dyadic)(m:Nat):dC (kz x (m+1))=dC (kz x m)++dC [fc x m]:=by unfold kz;rw[List.range_succ,List.map_append,CV];rfl
def gT (W:World)(kb n:Nat)(X:Nat->Dyadic)(Z:Nat->Prop):Prop:=
 ∃vs:List Value,∃ms:Nat->Nat,vs.length=n/\ar W kb 124 vs/\(∀i (h:i<vs.length),ms i<=256/\W.ownsRow (kb+1) 45 3 vs[i] (ms i) (dC (kz (X i) (ms i))))/\
  (∀i j (hi:i<vs.length) (hj:j<vs.length) g,vs[i].ownBlock=some g->vs[j].ownBlock=some g->i=j)/\(∀i (h:i<vs.length) g,vs[i].ownBlock=some g->¬Z g)
def gT.re {W:World}{kb n:Nat}{X:Nat->Dyadic}{Z Z':Nat->Prop}(h:gT W kb n X Z)(hz:∀b,Z' b->Z b\/W.heap.size<=b):gT W kb n X Z':=by
 obtain⟨vs,ms,h1,h2,h3,h4,h5⟩:=h;refine⟨vs,ms,h1,h2,h3,h4,λi hi g hg hz'=>?_⟩;rcases hz g hz' with h|h
 . exact h5 i hi g hg h
 . have:=((h3 i hi).2.lt g hg).2;omega
def gT.chg {W W':World}{kb n:Nat}{X:Nat->Dyadic}{Z Y:Nat->Prop}(h:gT W kb n X Z)(hc:Chg Y W W')(hk:¬Y kb)(hy:∀b,Y b->b<W.heap.size->Z b):gT W' kb n X Z:=by obtain⟨vs,ms,h1,h2,h3,h4,h5⟩:=h;refine⟨vs,ms,h1,hc.blk h2 hk,λi hi=>⟨(h3 i hi).1,BI (h3 i hi).2 hc (λg hg hy'=>h5 i hi g hg (hy g hy' ((h3 i hi).2.lt g hg).2))⟩,h4,h5⟩
def KX {W W':World}(h:Bw W W'):Chg (λ_=>False) W W':=⟨h.os,h.tape,h.output,h.size,λk hk _=>h.block k hk⟩
def gT.below {W W':World}{kb n:Nat}{X:Nat->Dyadic}{Z:Nat->Prop}(h:gT W kb n X Z)(hb:Bw W W'):gT W' kb n X Z:=h.chg (KX hb) id (λ_ h=>h.elim)
def gT.lt {W:World}{kb n:Nat}{X:Nat->Dyadic}{Z:Nat->Prop}(h:gT W kb n X Z):kb<W.heap.size:=by obtain⟨vs,ms,h1,h2,_⟩:=h;exact h2.lt
def gT.set {w W:World}{kb n i m:Nat}{X:Nat->Dyadic}{Z:Nat->Prop}{vs:List Value}{ms:Nat->Nat}{v:Value}(h1:vs.length=n)(hi:i<vs.length)
 (h3:∀i (h:i<vs.length),ms i<=256/\w.ownsRow (kb+1) 45 3 vs[i] (ms i) (dC (kz (X i) (ms i)))) (h4:∀i j (hi:i<vs.length) (hj:j<vs.length) g,vs[i].ownBlock=some g->vs[j].ownBlock=some g->i=j) (h5:∀i (h:i<vs.length) g,vs[i].ownBlock=some g->¬Z g)
 (hc:Chg (λb=>b=kb\/some b=(vs[i]).ownBlock) w W) (hk:ar W kb 124 (vs.set i v)) (hm:m<=256) (ho:W.ownsRow (kb+1) 45 3 v m (dC (kz (X i) m))) (hv:v.ownBlock=(vs[i]).ownBlock\/∃g,v.ownBlock=some g/\w.heap.size<=g) (hz:∀b,Z b->b<w.heap.size):gT W kb n X Z:=by
 have hold:∀j (h:j<vs.length) g,vs[j].ownBlock=some g->g<w.heap.size:=λj h g hg=>((h3 j h).2.lt g hg).2;have yG:∀g,v.ownBlock=some g->(vs[i]).ownBlock=some g\/w.heap.size<=g:=λg hg=>by
  rcases hv with h|⟨g',h,h'⟩
  . left;rw[<-h];exact hg
  . right;rw[h]at hg;simp at hg;omega
 refine⟨vs.set i v,λj=>if j=i then m else ms j,by simpa using h1,hk,λj hj=>?_,λj l hj hl g e1 e2=>?_,λj hj g e1=>?_⟩
 . have hj':j<vs.length:=by simpa using hj
   by_cases hji:j=i
   . subst hji;dsimp only;rw[List.getElem_set_self,if_pos rfl];exact⟨hm,ho⟩
   . dsimp only;rw[List.getElem_set_ne (λh=>hji h.symm),if_neg hji];refine⟨(h3 j hj').1,BI (h3 j hj').2 hc (λg hg hy=>?_)⟩;rcases hy with hy|hy
     . have:=((h3 j hj').2.lt g hg).1;omega
     . exact hji (h4 j i hj' hi g hg hy.symm)
 . have hj':j<vs.length:=by simpa using hj
   have hl':l<vs.length:=by simpa using hl
   by_cases hji:j=i
   . by_cases jQ:l=i
     . rw[hji,jQ]
     . subst hji;rw[List.getElem_set_self]at e1;rw[List.getElem_set_ne (λh=>jQ h.symm)]at e2;rcases yG g e1 with h|h
       . exact h4 j l hi hl' g h e2
       . have:=hold l hl' g e2;omega
   . rw[List.getElem_set_ne (λh=>hji h.symm)]at e1;by_cases jQ:l=i
     . subst jQ;rw[List.getElem_set_self]at e2;rcases yG g e2 with h|h
       . exact h4 j l hj' hi g e1 h
       . have:=hold j hj' g e1;omega
     . rw[List.getElem_set_ne (λh=>jQ h.symm)]at e2;exact h4 j l hj' hl' g e1 e2
 . have hj':j<vs.length:=by simpa using hj
   by_cases hji:j=i
   . subst hji;rw[List.getElem_set_self]at e1;rcases yG g e1 with h|h
     . exact h5 j hi g h
     . intro hzg;have:=hz g hzg;omega
   . rw[List.getElem_set_ne (λh=>hji h.symm)]at e1;exact h5 j hj' g e1
def alv {P:Program}(w:World)(base:Nat)(t ty e:TypeId)(i:TypeInfo)(z:Value)(size bytes:Nat)(ht:P.underlying t=some (.slice e))(hi:P.info? e=some i)(hz:i.zero=some z)
 (hsize:i.size=size) (hby:i.bytes=bytes) (hzs:z.cells.size=size) (hsz:0<size) (g n cap:Nat) (xs:List Value) (hown:w.ownsRow base e size (.slice (some ⟨g,0,none⟩) n cap) n xs)
 (a:Addr) (m c:Nat) (news:List Value) (hl:news.length=m*size) (hnews:∀j u,news[j]?=some u->w.cell? (a.add j)=some u) (h1:∀u∈news,u.oneCell'=true)
 (h63:n+m<=maxLen) (hbytes:(n+m) *bytes<=140737488355328) (hbase:base<=w.heap.size):
 ∃v' w',(Builtin.append_ #[t,t] ty #[.slice (some ⟨g,0,none⟩) n cap,.slice (some a) m c]).run P w=.ok v' w'/\w'.ownsRow base e size v' (n+m) (xs++news)/\w.grownBy w' (some g)/\
  (v'.ownBlock=some g\/v'.ownBlock=some w.heap.size)/\∀j u,j<n*size->w.cell? ⟨g,j,none⟩=some u->aJ w' g j u:=by
 obtain⟨v',w',hr,h2,h3,_,h5⟩:=run_append_own_at (P:=P) w base t ty e i z size bytes ht hi hz hsize hby hzs hsz _ n xs hown a m c news hl hnews h1 h63 hbytes hbase;refine⟨v',w',hr,h2,h3,h5,λj u hj hu=>?_⟩;have hcell:w.cell? ⟨g,j,none⟩=xs[j]?:=by
  have rG:j<xs.length:=by rw[hown.1];exact hj
  have h:=hown.cells (g:=g) rfl j xs[j] (List.getElem?_eq_getElem rG);rw[show((⟨g,0,none⟩:Addr).add j)=⟨g,j,none⟩by unfold Addr.add;cases j<;>simp]at h;rw[h,List.getElem?_eq_getElem rG]
 by_cases hroom:n+m<=cap
 . obtain⟨w2,hr2,h4,_⟩:=run_append_own_spare (P:=P) w base t ty e i size ht hi hsize g n cap xs hown a m c news hl hnews h1 hroom;rw[hr]at hr2;simp only[Result.ok.injEq]at hr2;obtain⟨rfl,rfl⟩:=hr2;have rG:j<xs.length:=by rw[hown.1];exact hj
   have h:=h4.cells (g:=g) rfl j xs[j] (by rw[List.getElem?_append_left rG];exact List.getElem?_eq_getElem rG);rw[show((⟨g,0,none⟩:Addr).add j)=⟨g,j,none⟩by unfold Addr.add;cases j<;>simp]at h;exact h.trans (by rw[<-hu,hcell,List.getElem?_eq_getElem rG])
 . have hsmall:n+m<=9223372036854775807:=by simp only[maxLen]at h63;omega
   subst hsize hby;have hr2:=run_append_grow (P:=P) w t ty e i z ht hi hz ⟨g,0,none⟩ n cap xs hown.1 (hown.cells (g:=g) rfl) a m c news hl hnews zo zo (growslice_fits zo hbytes);rw[hr]at hr2;simp only[Result.ok.injEq]at hr2;obtain⟨_,rfl⟩:=hr2;exact aM (w:=w.drew) hu
def axJ {P:Program}{w:World}{o:Oper}{a:Act}{K:Act->World->Prop}{Q:Exit->Act->World->Prop}(s x:Operand)(t:TypeId)
 (ho:o.op=.call {callee:=.builtin .append,args:=#[s,x],argTypes:=#[t,t]})
 (base:Nat) (e:TypeId) (i:TypeInfo) (z:Value) (size bytes:Nat) (ht:P.underlying t=Option.some (.slice e)) (hi:P.info? e=Option.some i) (hz:i.zero=Option.some z)
 (hsize:i.size=size) (hby:i.bytes=bytes) (hzs:z.cells.size=size) (hsz:0<size)
 (g n cap:Nat) (xs:List Value) (hs:a.eval s=.slice (some ⟨g,0,none⟩) n cap) (hown:w.ownsRow base e size (.slice (some ⟨g,0,none⟩) n cap) n xs)
 (ad:Addr) (m c:Nat) (news:List Value) (hx:a.eval x=.slice (some ad) m c) (hl:news.length=m*size) (hnews:∀j u,news[j]?=some u->w.cell? (ad.add j)=some u) (h1:∀u∈news,u.oneCell'=true)
 (h63:n+m<=maxLen) (hbytes:(n+m) *bytes<=140737488355328) (hbase:base<=w.heap.size)
 (h:∀v' w',w'.ownsRow base e size v' (n+m) (xs++news)->w.grownBy w' (some g)->(v'.ownBlock=some g\/v'.ownBlock=some w.heap.size)->(∀j u,j<n*size->w.cell? ⟨g,j,none⟩=some u->aJ w' g j u)->K (a.put o.dst v') w'):o.wp P a w K Q:=by
 obtain⟨v',w',hr,h2,h3,h5,h6⟩:=alv (P:=P) w base t o.type e i z size bytes ht hi hz hsize hby hzs hsz g n cap xs hown ad m c news hl hnews h1 h63 hbytes hbase;unfold Oper.wp execOp;simp only[ho,resolve,invoke,builtin,Sem.run_bind,Sem.run_pure,Result.andThen_ok,List.map_toArray,List.map_cons,List.map_nil,hs,hx,hr];exact h v' w' h2 h3 h5 h6
def rp {Y:Nat->Prop}{w W:World}(h:Chg Y w W)(b i:Nat)(v:Value)(hy:Y b):Chg Y w (W.setCell ⟨b,i,none⟩ v):=
 ⟨h.os,h.tape,h.output,by have:=h.size;simp[World.setCell];exact this,λk hk DG=>by rw[Below.heap_setCell _ _ _ _ (λe=>DG (by rw[e];exact hy))];exact h.block k hk DG⟩
def vP (w W wx:World)(kb i:Nat)(vs:List Value)(v0:Value)(x:Dyadic)(xc:List Value)(v:Value)(m:Nat):Prop:=
 1<=m/\m<=256/\ar wx kb 124 (vs.set i v)/\wx.ownsRow (kb+1) 45 3 v m (dC (kz x m))/\(v.ownBlock=v0.ownBlock\/∃g,v.ownBlock=some g/\W.heap.size<=g)/\
  Chg (λb=>b=kb\/some b=v0.ownBlock) w wx/\ar wx w.heap.size 45 xc/\ar wx (w.heap.size+1) 45 [ag false,.string ⟨#[]⟩,af 0]/\W.heap.size<=wx.heap.size
def vP.push {w W w1 w2:World}{kb i:Nat}{vs:List Value}{v0:Value}{x:Dyadic}{xc:List Value}{v v':Value}{m:Nat}(hk:ar w1 kb 124 (vs.set i v))(hm:m+1<=256)
 (hv:v.ownBlock=v0.ownBlock\/∃g,v.ownBlock=some g/\W.heap.size<=g) (hc:Chg (λb=>b=kb\/some b=v0.ownBlock) w w1) (hx:ar w1 w.heap.size 45 xc) (hr:ar w1 (w.heap.size+1) 45 [ag false,.string ⟨#[]⟩,af 0]) (hsz:W.heap.size<=w1.heap.size)
 (hW:W.heap.size=w.heap.size+2) (yo:kb<w.heap.size) (hv0:∀g,v0.ownBlock=some g->kb<g/\g<w.heap.size) (hvk:∀g,v.ownBlock=some g->kb<g)
 (ho:w2.ownsRow (kb+1) 45 3 v' (m+1) (dC (kz x (m+1)))) (hg:w1.grownBy w2 v.ownBlock) (fI:v'.ownBlock=v.ownBlock\/v'.ownBlock=some w1.heap.size):vP w W (w2.setCell ⟨kb,i,none⟩ v') kb i vs v0 x xc v' (m+1):=by
 have hvx:∀g,v.ownBlock=some g->g≠w.heap.size/\g≠w.heap.size+1:=λg e=>by
  rcases hv with h|⟨g',h,h'⟩
  . have:=(hv0 g (by rw[<-h];exact e)).2;omega
  . rw[h]at e;simp at e;omega
 have hv':v'.ownBlock=v0.ownBlock\/∃g,v'.ownBlock=some g/\W.heap.size<=g:=by
  rcases fI with h|h
  . rw[h];exact hv
  . exact .inr ⟨_,h,hsz⟩
 have hk2:ar w2 kb 124 (vs.set i v):=hk.grown hg (λe=>by have:=hvk kb e.symm;omega);have hx2:=hx.grown hg (λe=>(hvx _ e.symm).1 rfl);have hr2:=hr.grown hg (λe=>(hvx _ e.symm).2 rfl)
 have hc2:Chg (λb=>b=kb\/some b=v0.ownBlock) w w2:=hc.trans (Chg.aBi (Y:=λb=>some b=v.ownBlock) hg (λb e=>e.symm)) (λb e=>by
  rcases hv with h|⟨g,h,h'⟩
  . left;right;rw[<-h];exact e
  . right;rw[h]at e;simp at e;omega)
 have hks:=hk2.set i v';rw[List.set_set]at hks;refine⟨by omega,hm,hks,?_,hv',rp hc2 kb i v' (.inl rfl),hx2.so kb i zo v',hr2.so kb i zo v',by have:=hg.size;simp[World.setCell];omega⟩;refine BI ho (Y:=λb=>b=kb) (rp (Chg.refl _ _) kb i v' rfl) (λb e=>?_);have:=ho.lt b e;omega
def vP.fin {w W wx:World}{kb i m:Nat}{vs:List Value}{v0 v:Value}{x:Dyadic}{xc:List Value}(h:vP w W wx kb i vs v0 x xc v m)(hW:W.heap.size=w.heap.size+2)(yo:kb<w.heap.size)(hv0:∀g,v0.ownBlock=some g->kb<g/\g<w.heap.size)(u1 u2 u3:Value):
 ar (((wx.setCell ⟨w.heap.size+1,0,none⟩ u1).setCell ⟨w.heap.size+1,1,none⟩ u2).setCell ⟨w.heap.size+1,2,none⟩ u3) (w.heap.size+1) 45 [u1,u2,u3]/\
  Chg (λb=>b=kb\/some b=v0.ownBlock) w (((wx.setCell ⟨w.heap.size+1,0,none⟩ u1).setCell ⟨w.heap.size+1,1,none⟩ u2).setCell ⟨w.heap.size+1,2,none⟩ u3)/\
  ar (((wx.setCell ⟨w.heap.size+1,0,none⟩ u1).setCell ⟨w.heap.size+1,1,none⟩ u2).setCell ⟨w.heap.size+1,2,none⟩ u3) kb 124 (vs.set i v)/\
  (((wx.setCell ⟨w.heap.size+1,0,none⟩ u1).setCell ⟨w.heap.size+1,1,none⟩ u2).setCell ⟨w.heap.size+1,2,none⟩ u3).ownsRow (kb+1) 45 3 v m (dC (kz x m)):=by
 obtain⟨_,_,hk,ho,hv,hc,_,hr,_⟩:=h;have hcc:Chg (λb=>b=w.heap.size+1) wx (((wx.setCell ⟨w.heap.size+1,0,none⟩ u1).setCell ⟨w.heap.size+1,1,none⟩ u2).setCell ⟨w.heap.size+1,2,none⟩ u3):=rp (Y:=λb=>b=w.heap.size+1) (rp (Y:=λb=>b=w.heap.size+1) (rp (Y:=λb=>b=w.heap.size+1) (Chg.refl _ _) _ _ _ rfl) _ _ _ rfl) _ _ _ rfl;refine⟨((hr.set 0 u1).set 1 u2).set 2 u3,hc.trans hcc (λb e=>.inr zo),hcc.blk hk zo,BI ho hcc (λb e e2=>?_)⟩;rcases hv with h|⟨g,h,h'⟩
 . have:=(hv0 b (by rw[<-h];exact e)).2;omega
 . rw[h]at e;simp at e;omega
def II (kb i:Nat)(W:World):Nat:=match W.cell? ⟨kb,i,none⟩with
 |some (.slice _ n _)=>n
 |_=>0
def auJ (kb i n k B:Nat)(X:Nat->Dyadic)(Z:Nat->Prop)(s:Bool)(l:List UInt8)(e:Int)(w:World)(hi:i<n)(hk:k<=255)(hx:dval (s,l,e)=X i)(hf:Fit B (s,l,e))(hB:B<=500000)(hp:gT w kb n X Z)(hz:∀b,Z b->b<w.heap.size/\b≠kb)(hT:∀W,Below kb w W->aB W):
 Cl 86 #[.pointer (some ⟨kb,i,none⟩),.agg #[ag s,ah l,af e],af (k:Int)] w λex w'=>ex=.returned (bN (fc (X i) k))/\gT w' kb n X Z/\Chg (λb=>kb<=b/\¬Z b) w w':=by
 obtain⟨i0,hi0,hz0,hz1,hz2⟩:=info_parts Tryz.aBb;have yo:=hp.lt;obtain⟨vs,ms,h1,h2,h3,h4,h5⟩:=hp;have lh:i<vs.length:=by omega
 obtain⟨x,mJ⟩:=az (X i);obtain⟨v0,hv0⟩:=az (vs[i]);obtain⟨m0,hm0⟩:=az (ms i);have ho0:=(h3 i lh).2;have hl0:=(h3 i lh).1;rw[hv0,hm0,mJ]at ho0;rw[hm0]at hl0;have hend:∀W v m,Chg (λb=>b=kb\/some b=v0.ownBlock) w W->ar W kb 124 (vs.set i v)->m<=256->W.ownsRow (kb+1) 45 3 v m (dC (kz x m))->(v.ownBlock=v0.ownBlock\/∃g,v.ownBlock=some g/\w.heap.size<=g)->gT W kb n X Z/\Chg (λb=>kb<=b/\¬Z b) w W:=λW v m a1 a2 a3 a4 a5=>
  ⟨gT.set h1 lh h3 h4 h5 (by rw[hv0];exact a1) a2 a3 (by rw[mJ];exact a4) (by rw[hv0];exact a5) (λb hb=>(hz b hb).1),a1.mono (λb _ hb=>by
   rcases hb with rfl|hb
   . exact⟨Nat.le_refl _,λh=>(hz _ h).2 rfl⟩
   . have h6:=h5 i lh b (by rw[hv0];exact hb.symm);have h7:=(ho0.lt b hb.symm).1
     exact⟨by omega,h6⟩)⟩
 have hown0:∀g,v0.ownBlock=some g->kb<g/\g<w.heap.size:=λg e=>by have:=ho0.lt g e;omega
 have adO:vs.set i v0=vs:=by rw[<-hv0];exact List.set_getElem_self lh
 obtain⟨a0,Lc,MN,_,_⟩:=cz ho0;have dR:Sm B x:=by rw[<-mJ,<-hx];exact hf.2
 have hpw:=λj=>UV dR j;have hxv:dval (s,l,e)=x:=hx.trans mJ;obtain⟨Hi,cm,bR,bZ,eD,xD,PW,Hpw,Hxv,Hf,HT,H2⟩:=gL hi0 hz0 hz1 hz2 hend hown0 adO hpw hxv hf hT h2;obtain⟨Kh,jD,akJ⟩:=bL ho0 lh MN;rw[mJ];clear hi0 hz0 hz1 hz2 hend hown0 adO hpw hxv hf hT h2 ho0 h3 h4 h5 h1 lh hv0 hm0 mJ hx hz dR MN;obtain⟨W,bX,ae,ai⟩:=jz w 45 [ag s,ah l,af e] 45 [ag false,.string ⟨#[]⟩,af 0];have hWs:W.heap.size=w.heap.size+2:=by rw[<-bX];simp
 have JH:=aj hWs;clear hWs;have Ye:Hid (1<=m0->vP w W W kb i vs v0 x [ag s,ah l,af e] v0 m0):=λh=>⟨h,hl0,by rw[PW.out];exact H2.out.below ae.1.out,ownsRow_below Kh.out ae.1.out,.inl rfl,(KX ae.1.out).mono (λ_ _ h=>h.elim),ae.2.1.out,ae.2.2.1.out,Nat.le_refl _⟩;have hcell:W.cell? ⟨kb,i,none⟩=some v0:=by rw[(H2.out.below ae.1.out).cell i,<-PW.out,List.getElem?_set_self jD.out]
 have Hk:Hid (aQ W kb i [v0]):=λj hj=>by
  obtain rfl:j=0:=by simp at hj;omega
  exact hcell
 have nW:=aj (ownsRow_below Kh.out ae.1.out);have oM:Hid (ar W kb 124 (vs.set i v0)):=by show ar _ _ _ _;rw[PW.out];exact H2.out.below ae.1.out
 have rV:Hid (aB W):=HT.out W (ae.1.out.mono zo);have hbs:=ae.1.out.size;have iH:=ae.1;have MN:=akJ.out;subst MN;skip
 have Hb:=hbz W;go_enter Tryz.func86,Tryz.ntmps86;go_upto_if 12 with fail
 go_cut[] (λwx=>∃v m,vP w W wx kb i vs (.slice a0 m0 Lc) x [ag s,ah l,af e] v m);case first=>
  by_cases hm:m0=0
  . subst hm;have Hx:=ae.2.1;have Hr:=ae.2.2.1;obtain⟨ae,ai⟩:=qZ (Hx.an<|Hr.an<|Hk.an trivial);clear hcell;go_wp2_with fail;obtain⟨Hx,Hr,Hk,_⟩:=ae;obtain⟨x0,x1,x2⟩:=Hx.out.c3;obtain⟨r0,r1,r2⟩:=Hr.out.c3;have k0:=Hk.out.w1;refine fx (λw'=>aJ w' kb i (.slice a0 0 Lc)) (λi=>Nat.blt i 10) [(0,true),(1,true),(2,true),(3,true),(4,true),(5,false),(6,false),(7,false),(8,true),(9,true),(10,false)] zk zk rfl zk zc k0 ?_;iterate 5 (refine pT rfl rfl ?_;try simp only[UU])
    refine aN rfl rfl (λK hK=>?_);go_simp;with_reducible refine(Ao 1 1 (by decide+kernel) _ zd (by first|exact rV.out|exact aB.drew rV.out|exact aB.alloc rV.out _|exact aB.drew (aB.alloc rV.out _) |exact aB.alloc (aB.drew rV.out) _)).mono ?_
    rintro e w5 ⟨rfl,hq⟩;have ak:Bw W w5:=by first|exact hq|exact cS hq
    obtain⟨Hx,x0,x1,x2⟩:=IG Hx ak;obtain⟨Hr,r0,r1,r2⟩:=IG Hr ak;replace Hk:=kW Hk ak;have k0:=Hk.out.w1;replace Hb:=bg Hb ak;refine hK _ _ (λ_=>k0) ?_;try simp only[UU]
    refine aN rfl rfl (λK hK=>?_);go_simp;refine hK _ _ (λ_=>aM k0) ?_;try simp only[UU]
    refine cg (λw6=>ar w6 (w5.heap.size) 45 (bu 1)/\Bw w5 w6) (by first|exact iw|exact iy) ?_;rintro w6 ⟨qc,ak⟩;have asL:=Hx.out.lt;have asJ:=Hr.out.lt;replace Hx:=kB Hx ak;replace Hr:=kB Hr ak;replace Hk:=kW Hk ak;have Hc:=aj qc;clear qc;obtain⟨x0,x1,x2⟩:=Hx.out.c3;obtain⟨r0,r1,r2⟩:=Hr.out.c3;have k0:=Hk.out.w1;obtain⟨c0,c1,c2⟩:=Hc.out.c3;replace Hb:=bg Hb ak;refine aN rfl rfl (λK hK=>?_);have cj:=ownsRow_below nW.out Hb.out;have jd:=Hb.out.size;have hkl:kb+1<=W.heap.size:=by omega
    refine axK _ _ 29 29 45 Tryz.underlying29 rfl (kb+1) 45 i0 _ 3 32 Tryz.underlying29 Hi.out cm.out bR.out bZ.out rfl zd (.slice a0 0 Lc) 0 (dC (kz x 0)) rfl cj (some ⟨w5.heap.size,0,none⟩) 1 1 (bu 1) rfl (Sl.some _ _ _ (Nat.le_refl _)) rfl (.inr ⟨_,0,rfl,λj hj=>by rw[Nat.zero_add];exact Hc.out.cell j⟩) zy (by simp[maxLen]) zo zo ?_;intro v' w8 dX bj MA;obtain⟨g',cq,rfl⟩:=ownsRow_succ dX;have AP:=(oM.out.below Hb.out).grown bj (λe=>by have:=(xD.out kb e.symm).1;omega);have jw:=vP.push (xc:=[ag s,ah l,af e]) (m:=0) (v':=.slice (some ⟨g',0,none⟩) 1 cq) (oM.out.below Hb.out) zd (.inl rfl) ((KX (aC iH.out Hb.out)).mono (λ_ _ h=>h.elim)) (Hx.out) (Hr.out) jd JH.out yo xD.out (λg e=>(xD.out g e).1) (by rw[afy];exact dX) bj MA;have Ki:=aj jw;have f8:=AP.free i;have k8:=AP.cell i;rw[List.getElem?_set_self jD.out]at k8;refine hK _ _ (λ_=>cG bj k0 (λe=>by have:=xD.out kb e.symm;omega)) ?_;try simp only[UU]
    iterate 2 (refine pT rfl rfl ?_;try simp only[UU])
    refine aN rfl rfl (λK hK=>?_);go_simp;refine hK _ _ (λh=>absurd h zd) ?_;try simp only[UU]
    simp only[bE];go_wp2_with fail;go_meet;exact⟨_,1,Ki.out⟩
  . have h0:((m0:Int)==0)=false:=by simp;omega
    have h0':¬(m0:Int)=0:=by omega
    go_wp2_with fail;go_meet;exact⟨_,m0,Ye.out zo⟩
 case rest=>
  obtain⟨v1,m1,hst⟩:=hcut;have bK:=aj hst;clear hst hcell Hk Ye oM nW Hb;go_wp2_with fail;go_loopw[] (λwr=>∃v m,vP w W wr kb i vs (.slice a0 m0 Lc) x [ag s,ah l,af e] v m) (λwr=>k+1-II kb i wr);case atStart=>exact⟨v1,m1,bK.out⟩
  case round=>
   clear bK;obtain⟨v,m,hst⟩:=hrel;have bK:=aj hst;obtain⟨ny,hm2,hk1,ho,yG,hc,hx,hr,hsz⟩:=hst;obtain⟨g,cap,rfl,hg1,hg2,hmc⟩:=rO ho zo;have hcell:=hk1.cell i;rw[List.getElem?_set_self jD.out]at hcell;have hfree:=hk1.free i;have hlen:II kb i wr=m:=by unfold II;rw[hcell]
   have ac4:=λj (hj:j<m)=>(show At wr (some ⟨g,0,none⟩) (((kz x m).map canon).flatMap aV)by
    obtain⟨a9,c9,e9,h9,_⟩:=cz ho;simp only[Value.slice.injEq,true_and]at e9;rw[<-e9.1]at h9
    rw[<-Am];exact h9).num j (by rw[List.length_map,afx];exact hj) (show((kz x m).map canon)[j]'(by rw[List.length_map,afx];exact hj)=(au (dN (fc x j)),nt (dN (fc x j)).natAbs,dE (fc x j))by rw[List.getElem_map,au2];rfl)
   obtain⟨lQ,XQ,oM,Ho,PU,JQ,Hx,Hr⟩:=lC hlen ac4 hk1 ho yG hc hx hr;have mD:g≠kb:=by omega
   have azY:kb<w.heap.size:=yo;have Dz:g<wr.heap.size:=hg2;clear hlen ac4 hk1 ho yG hc hx hr;have Hb:=hbz wr
   have rW:Hid (aB wr):=HT.out wr (JQ.out.below zo (λb e=>by
    rcases e with e|e
    . omega
    . have:=(xD.out b e.symm).1;omega))
   by_cases hlt:m<=k
   . obtain⟨j,hj⟩:∃j,m=j+1:=⟨m-1,by omega⟩;have hjm:j<m:=by omega
     have pC:IntKind.i64.wrap (j:Int)=(j:Int):=by rw[IntKind.wrap_i64];omega
     have azX:(m:Int)-1=(j:Int):=by omega
     have bB:(m:Int)<=(k:Int):=by omega
     obtain⟨b9,o9,e9,p0,p1,p2⟩:=XQ.out j hjm;simp only[Option.some.injEq,Addr.mk.injEq,and_true]at e9;obtain⟨rfl,rfl⟩:=e9;rw[Nat.zero_add]at p0 p1 p2;have aU:=ud m cap j (j:Int) (rfl:(some ⟨g,0,none⟩:Option Addr)=_) hjm rfl;rw[Nat.zero_add]at aU;have Hp:Hid (aQ wr g (j*3) [ag (au (dN (fc x j))),ah (nt (dN (fc x j)).natAbs),af (dE (fc x j))]):=jm p0 p1 p2;obtain⟨P,hP⟩:=az (fc x j);obtain⟨Q,hQ⟩:=az (fc x m);have hPQ:P*x=Q:=by rw[<-hQ,<-hP,hj];rfl
     have Gs:Fit (256*B+1) (dF P):=by have h:=Hpw.out j;rw[hP]at h;have h9:B*j<=B*255:=Nat.mul_le_mul_left _ zo;exact(h.mono zo).fit zo
     have hxs:Fit (256*B+1) (s,l,e):=Hf.out.mono zo;have tT:=λb W9 (hbl:ar W9 b 45 [ag (au (dN P)),ah (nt (dN P).natAbs),af (dE P),ag s,ah l,af e]) (Gv:aB W9)=>xR (au (dN P)) (nt (dN P).natAbs) (dE P) s l e Q (256*B+1) (by show dval (canon P) *_=Q;rw[bA,Hxv.out];exact hPQ) b 2 45 W9 Gs hxs zo hbl Gv;rw[hP]at Hp;have hk':Hid (aQ wr kb i [.slice (some ⟨g,0,none⟩) m cap]):=λj hj=>by
      obtain rfl:j=0:=by simp at hj;omega
      exact hcell
     have Hk:=hk';obtain⟨zR,HQ,Om,Hj⟩:=cE tT hQ hcell hj;clear hj tT hQ hP hPQ Gs hxs p0 p1 p2 hk';go_wp2_with fail;clear hcell hfree;obtain⟨ae,ai⟩:=qZ (Hk.an<|Hp.an<|Hx.an<|Hr.an trivial);have HT:Hid (aB wr):=rW.out;obtain⟨Hk,Hp,Hx,Hr,_⟩:=ae;have k0:=Hk.out.w1;obtain⟨p0,p1,p2⟩:=Hp.out.w3;obtain⟨x0,x1,x2⟩:=Hx.out.c3;obtain⟨r0,r1,r2⟩:=Hr.out.c3;refine fx (λw'=>aJ w' kb i (.slice (some ⟨g,0,none⟩) m cap)/\aJ w' g (j*3) (ag (au (dN P)))/\aJ w' g (j*3+1) (ah (nt (dN P).natAbs))/\aJ w' g (j*3+2) (af (dE P))/\aJ w' (w.heap.size) 0 (ag s)/\aJ w' (w.heap.size) 1 (ah l)/\aJ w' (w.heap.size) 2 (af e)) (λi=>Nat.blt i 24) [(0,true),(1,true),(2,true),(3,true),(4,true),(5,true),(6,true),(7,true),(8,true),(9,true),(10,true),(11,true),(12,true),(13,true),(14,true),(15,true),(16,true),(17,true),(18,false),(19,false),(20,false),(21,false),(22,true),(23,true),(24,false)] zk zk rfl zk zc ⟨k0,p0,p1,p2,x0,x1,x2⟩ ?_;iterate 18 (refine pT rfl rfl ?_ (by intro w' ⟨q0,q1,q2,q3,q4,q5,q6⟩;go_simp;try with_reducible rfl);try simp only[UU])
     refine aN rfl rfl (λK hK=>?_);go_simp;refine hK _ _ (λ_=>⟨aM k0,aM p0,aM p1,aM p2,aM x0,aM x1,aM x2⟩) ?_;try simp only[UU]
     refine cg (λw6=>ar w6 (wr.heap.size) 45 [ag (au (dN P)),ah (nt (dN P).natAbs),af (dE P),ag s,ah l,af e]/\Bw wr w6) (by first|exact iw|exact iy) ?_;rintro w6 ⟨qc,ak⟩;have asL:=Hx.out.lt;have asJ:=Hr.out.lt;replace Hk:=kW Hk ak;replace Hp:=kW Hp ak;replace Hx:=kB Hx ak;replace Hr:=kB Hr ak;replace HT:=kT HT ak;have Hc:=aj qc;clear qc;have k0:=Hk.out.w1;obtain⟨p0,p1,p2⟩:=Hp.out.w3;obtain⟨x0,x1,x2⟩:=Hx.out.c3;obtain⟨r0,r1,r2⟩:=Hr.out.c3;obtain⟨c0,c1,c2,c3,c4,c5⟩:=Hc.out.c6;replace Hb:=bg Hb ak;refine aN rfl rfl (λK hK=>?_);go_simp;with_reducible refine(zR.out _ _ Hc.out (by first|exact HT.out|exact aB.drew HT.out|exact aB.alloc HT.out _|exact aB.drew (aB.alloc HT.out _) |exact aB.alloc (aB.drew HT.out) _)).mono ?_
     rintro e w7 ⟨rfl,hq⟩;have ak:Bw w6 w7:=by first|exact hq|exact cS hq
     replace Hk:=kW Hk ak;replace Hp:=kW Hp ak;replace Hx:=kB Hx ak;replace Hr:=kB Hr ak;replace HT:=kT HT ak;replace Hc:=kB Hc ak;have k0:=Hk.out.w1;obtain⟨p0,p1,p2⟩:=Hp.out.w3;obtain⟨x0,x1,x2⟩:=Hx.out.c3;obtain⟨r0,r1,r2⟩:=Hr.out.c3;obtain⟨c0,c1,c2,c3,c4,c5⟩:=Hc.out.c6;replace Hb:=bg Hb ak;refine hK _ _ (λ_=>⟨k0,p0,p1,p2,x0,x1,x2⟩) ?_;try simp only[UU]
     refine aN rfl rfl (λK hK=>?_);go_simp;refine hK _ _ (λ_=>⟨aM k0,aM p0,aM p1,aM p2,aM x0,aM x1,aM x2⟩) ?_;try simp only[UU]
     refine cg (λw8=>ar w8 (w7.heap.size) 45 (bu Q)/\Bw w7 w8) (by first|exact iw|exact iy) ?_;rintro w8 ⟨qd,ak⟩;have aAr:=Hx.out.lt;have aAp:=Hr.out.lt;have aAh:=Hc.out.lt;replace Hk:=kW Hk ak;replace Hp:=kW Hp ak;replace Hx:=kB Hx ak;replace Hr:=kB Hr ak;replace HT:=kT HT ak;replace Hc:=kB Hc ak;have Hd:=aj qd;clear qd;have k0:=Hk.out.w1;obtain⟨p0,p1,p2⟩:=Hp.out.w3;obtain⟨x0,x1,x2⟩:=Hx.out.c3;obtain⟨r0,r1,r2⟩:=Hr.out.c3;obtain⟨c0,c1,c2,c3,c4,c5⟩:=Hc.out.c6;obtain⟨d0,d1,d2⟩:=Hd.out.c3;replace Hb:=bg Hb ak;refine aN rfl rfl (λK hK=>?_);have cj:=ownsRow_below Ho.out Hb.out;have jd:=Hb.out.size;have hkl:kb+1<=wr.heap.size:=by omega
     refine axJ _ _ 29 rfl (kb+1) 45 i0 _ 3 32 Tryz.underlying29 Hi.out cm.out bR.out bZ.out rfl zd g m cap (dC (kz x m)) rfl cj ⟨w7.heap.size,0,none⟩ 1 1 (bu Q) rfl rfl (fN Hd.out) zy zx zo zo ?_;intro v' w9 eZ ko Ib SN;obtain⟨g',cq,rfl⟩:=ownsRow_succ eZ;have uS:=(oM.out.below Hb.out).grown ko (λe=>by have h9:kb=g:=Option.some.inj e;omega);have yw:=vP.push (xc:=[ag s,ah l,af e]) (m:=m) (v':=.slice (some ⟨g',0,none⟩) (m+1) cq) (oM.out.below Hb.out) zo PU.out (JQ.out.trans (KX Hb.out) (λ_ h=>h.elim)) Hx.out Hr.out zo JH.out yo xD.out (λg9 e=>by have h9:g=g9:=Option.some.inj e;omega) (by rw[afy,HQ.out];exact eZ) ko Ib;have hgx:g≠w.heap.size:=by
      have h:=PU.out;rcases h with h|⟨g9,h,h'⟩
      . have:=(xD.out g h.symm).2;omega
      . have h9:g=g9:=Option.some.inj h;have h8:=JH.out;omega
     have P0:=SN _ _ zo p0;have P1:=SN _ _ zo p1;have P2:=SN _ _ zo p2;have X0:=cG ko x0 (λe=>hgx (Option.some.inj e).symm);have X1:=cG ko x1 (λe=>hgx (Option.some.inj e).symm);have X2:=cG ko x2 (λe=>hgx (Option.some.inj e).symm);have Fh:=aj yw;have f9:=uS.free i;have k9:=uS.cell i;rw[List.getElem?_set_self jD.out]at k9;have acW:II kb i (w9.setCell ⟨kb,i,none⟩ (.slice (some ⟨g',0,none⟩) (m+1) cq))=m+1:=by have h:=(uS.set i (.slice (some ⟨g',0,none⟩) (m+1) cq)).cell i;rw[List.set_set,List.getElem?_set_self jD.out]at h;unfold II;rw[h]
     have ajA:=aj acW;clear yw uS acW;refine hK _ _ (λ_=>⟨k9,P0,P1,P2,X0,X1,X2⟩) ?_;try simp only[UU]
     iterate 2 (refine pT rfl rfl ?_;try simp only[UU])
     refine aN rfl rfl (λK hK=>?_);go_simp;refine hK _ _ (λh=>absurd h zd) ?_;try simp only[UU]
     simp only[bE];go_wp2_with fail;go_roundw;case rel=>exact⟨_,m+1,Fh.out⟩
     case measure=>rw[ajA.out,lQ.out];omega
   . have bB:¬(m:Int)<=(k:Int):=by omega
     have mF:k<m:=by omega
     obtain⟨b9,o9,e9,p0,p1,p2⟩:=XQ.out k mF;simp only[Option.some.injEq,Addr.mk.injEq,and_true]at e9;obtain⟨rfl,rfl⟩:=e9;rw[Nat.zero_add]at p0 p1 p2;have aU:=ud m cap k (k:Int) (rfl:(some ⟨g,0,none⟩:Option Addr)=_) mF rfl;rw[Nat.zero_add]at aU;obtain⟨r0,aX,r1,aY,r2,mA⟩:=Hr.out.g3;go_wp2_with fail;have hfin:=bK.out.fin JH.out yo xD.out (ag (au (dN (fc x k)))) (ah (nt (dN (fc x k)).natAbs)) (af (dE (fc x k)));have hsW:w.heap.size<=W.heap.size:=by omega
     refine dG (λw9=>ar w9 (w.heap.size+1) 45 [ag (au (dN (fc x k))),ah (nt (dN (fc x k)).natAbs),af (dE (fc x k))]/\(gT w9 kb n X Z/\Chg (λb=>kb<=b/\¬Z b) w w9)) ⟨hfin.1,eD.out _ _ m hfin.2.1 hfin.2.2.1 hm2 hfin.2.2.2 (by
      rcases PU.out with h|⟨g9,h,h'⟩
      . exact .inl h
      . exact .inr ⟨g9,h,by omega⟩)⟩ ?_
     rintro w9 ⟨ll,h9⟩;obtain⟨q0,q1,q2⟩:=ll.c3;refine bodyPost_ret (v:=bN (fc x k)) (by simp[results,Tryz.results86,go_sem,q0,q1,q2]) rfl ⟨rfl,h9⟩
def aut (y1 y2 S:Dyadic)(B k n:Nat)(ts:List Raw)(a:Option Addr)(cap bt:Nat)(w:World)(h1:Sm B y1)(h2:Sm B y2)(hB:B<=10000000)(hn:ts.length=n)(hk:k<n)(hf:∀x∈ts,Fit B x)(hS:y1+dval (ts.getD k default) *um (y1,y2)=S)
 (hc:w.cell? ⟨bt,0,none⟩=some (.slice a n cap)) (ha:At w a (ts.flatMap aV)) (hT:aB w):
 Cv 164 #[af (k:Int),.agg #[ag (au (dN y1)),ah (nt (dN y1).natAbs),af (dE y1),ag (au (dN y2)),ah (nt (dN y2).natAbs),af (dE y2)],.pointer (some ⟨bt,0,none⟩)] w (bN S):=by
 have hk2:k<ts.length:=by rw[hn];exact hk
 obtain⟨s,m,e,hx⟩:=oP (ts[k]);have dz:Fit B (s,m,e):=by rw[<-hx];exact hf _ (List.getElem_mem hk2)
 rw[List.getD_eq_getElem?_getD,List.getElem?_eq_getElem hk2]at hS;rw[show(some ts[k]).getD default=(s,m,e)from hx]at hS;obtain⟨b,o,hab,p0,p1,p2⟩:=ha.num k hk2 hx;have aU:=qI n cap k (k:Int) hab hk rfl;obtain⟨D,hD⟩:=az (um (y1,y2));rw[hD]at hS;obtain⟨M,hM⟩:=az (dval (s,m,e) *D);rw[hM]at hS;have kY:Sm (B+2) D:=by rw[<-hD];have h:=rN (p:=(y1,y2)) ⟨h1,h2⟩;exact(Sm.sub h.2 h.1).mono zo
 have uN:Sm (2*B+3) M:=by rw[<-hM];exact(Sm.mul dz.2 kY).mono zo
 have Hw:=λW (hW:aB W)=>Vv (au (dN y1)) (nt (dN y1).natAbs) (dE y1) (au (dN y2)) (nt (dN y2).natAbs) (dE y2) B D (by show um (dval (canon y1),dval (canon y2))=D;rw[bA,bA];exact hD) W (h1.fit zo) (h2.fit zo) zo hW;have HD:Hid (dval (s,m,e) *dval (dF D)=M):=by show _*dval (canon D)=M;rw[bA];exact hM
 have HS:Hid (dval (dF y1)+dval (dF M)=S):=by show dval (canon y1)+dval (canon M)=S;rw[bA,bA];exact hS
 have EU:Hid (Fit (B+2) (s,m,e)):=dz.mono zo;have JZ:Hid (Fit (B+2) (dF D)):=kY.fit zo;have Hf1:Hid (Fit (2*B+3) (dF y1)):=(h1.mono zo).fit zo;have HfM:Hid (Fit (2*B+3) (dF M)):=uN.fit zo;obtain⟨akS,HT,Hc⟩:=bL Hw hT hc;have Hx:Hid (aQ w b (o+k*3) [ag s,ah m,af e]):=jm p0 p1 p2;have hge:¬(n:Int)<=(k:Int):=by omega
 have lbb:=World.block_lt_of_cell? w _ p0;have lbt:=World.block_lt_of_cell? w _ hc;simp only at lbb lbt;clear p0 p1 p2 hab hx dz hS hD hM kY uN Hw hT hc ha hf h1 h2 hn hk2;obtain⟨W,bX,ae,ai⟩:=jz w 88 [ag (au (dN y1)),ah (nt (dN y1).natAbs),af (dE y1),ag (au (dN y2)),ah (nt (dN y2).natAbs),af (dE y2)] 45 [ag false,.string ⟨#[]⟩,af 0];have Ky:=aj (Hx.out.below ae.1.out);have hcl:W.cell? ⟨bt,0,none⟩=some (.slice a n cap):=cell_later ae.1.out Hc.out;have Ht:Hid (aQ W bt 0 [.slice a n cap]):=λj hj=>by
  obtain rfl:j=0:=by simp at hj;omega
  exact hcl
 have Hx:=Ky;have rV:=aj (HT.out.below ae.1.out);obtain⟨ae,ai⟩:=qZ (Ht.an<|Hx.an ae);have HU:Hid (aB W):=rV.out;clear rV Ky;go_enter Tryz.func164,Tryz.ntmps164;go_wp2_with fail;have ae:=HU.an ae;refine df 12 ae (cQ 13 0x18161412100e0d0b0907050301) ?_;refine bC ?_;refine bP ae (akS.out _ (qU ae.1.out)) λw3 ae=>?_;refine nM 45 [ag s,ah m,af e,ag (au (dN D)),ah (nt (dN D).natAbs),af (dE D)] ae λW4 aG ae=>?_;refine bP ae (xR s m e (au (dN D)) (nt (dN D).natAbs) (dE D) M (B+2) HD.out w3.heap.size _ 45 _ EU.out JZ.out zo ae.1.out (qU ae.2.1.out)) λw5 ae=>?_;refine nM 45 [ag (au (dN y1)),ah (nt (dN y1).natAbs),af (dE y1),ag (au (dN M)),ah (nt (dN M).natAbs),af (dE M)] ae λW6 aG ae=>?_;refine bP ae (xQ (au (dN y1)) (nt (dN y1).natAbs) (dE y1) (au (dN M)) (nt (dN M).natAbs) (dE M) S (2*B+3) HS.out w5.heap.size _ 45 _ Hf1.out HfM.out zo ae.1.out (qU ae.2.2.1.out)) λw7 ae=>?_;have ai:=qC ae;refine qOp λK hK=>?_;go_simp;refine hK _ _ (λh=>absurd h zd) ?_;try simp only[UU]
 refine cg (aO w7 (w.heap.size+1) 0 (bu S)) aR ?_;intro W8 hs0;have ae:=bD hs0 ae;simp only[bz,List.set]at ae;have ai:=qC ae;refine cZ ae λai=>?_;have Hb:=ae.2.2.2.2.2.1;go_wp2;exact bodyPost_ret (v:=bN S) (by simp[results,Tryz.results164,go_sem,ai]) rfl ⟨rfl,cM⟩
def afe (xs:List Raw)(k:Nat)(hk:k<xs.length):(xs.take (k+1)).flatMap aV=(xs.take k).flatMap aV++aV xs[k]:=by rw[List.take_succ_eq_append_getElem hk,List.flatMap_append];simp
def aou (a:Option Addr)(n cap B:Nat)(bx:List (Raw×Raw))(gf:Nat)(lb:Array Value)(f:Nat->Dyadic)(w:World)(hn:bx.length=n)(hl:n<=1000)(hf:lK B bx)(ha:At w a (bx.flatMap spC))(hT:aB w)
 (eg:∀args w,(callFunc gf args).run Tryz.prog w=.ok (.enter gf args) w)
 (hcl:∀k (h:k<bx.length) y1 y2,eQ (bH bx[k])=(y1,y2)->∀W,Bw w W->Cl gf (#[af (k:Int),.agg #[ag (au (dN y1)),ah (nt (dN y1).natAbs),af (dE y1),ag (au (dN y2)),ah (nt (dN y2).natAbs),af (dE y2)]]++lb) W λe w'=>e=.returned (bN (f k))/\Bw W w'):
 Cl 163 #[.slice a n cap,.func (.func gf) #[] lb] w λe w'=>∃(a':Option Addr) (c':Nat),e=.returned (.slice a' n c')/\At w' a' (((List.range n).map λk=>canon (f k)).flatMap aV)/\Bw w w':=by
 obtain⟨i0,hi,hz0,hz1,hz2⟩:=info_parts Tryz.aBb;have yl:=λW (hW:Bw w W)=>Qy a n cap B bx W hn hl hf (ha.below hW) (hT.below hW);obtain⟨Hi,cm,bR,bZ⟩:=cE hi hz0 hz1 hz2;obtain⟨X,hX⟩:=az ((List.range n).map λk=>canon (f k));have kg:X.length=n:=by rw[<-hX];simp
 have Dm:∀k (h:k<X.length),X[k]=canon (f k):=λk h=>by subst hX;simp
 obtain⟨EX,fV,lN,Hn,ut,NZ⟩:=gM yl hcl eg hn kg Dm;rw[hX];clear hi hz0 hz1 hz2 yl hcl eg hn kg Dm hX ha hT hf;have Hb:=hbz w;go_enter Tryz.func163,Tryz.ntmps163;go_wp2_with fail;refine(EX.out _ Hb.out).mono ?_;rintro e w1 ⟨a1,c1,rfl,iZ,ak⟩;have eu:=aj iZ;replace Hb:=bg Hb ak;clear ak iZ;have bJ:=Hb;go_wp2_with fail;go_loopw[5,11] (λs5 x wr=>∃(k:Nat) (v:Value),k<=n/\x=af (k:Int)/\v=s5/\wr.ownsRow w1.heap.size 45 3 v k ((X.take k).flatMap aV)/\Bw w1 wr) (λ_ x _=>n-(intOf x).toNat);case atStart=>exact⟨0,_,Nat.zero_le _,rfl,rfl,World.ownsRow_nil _ _ _ _,Below.refl _ _⟩
 case round=>
  clear Hb;obtain⟨k,v,hk,rfl,rfl,ho,pb⟩:=hrel;by_cases hlt:k<n
  . have eY:k<bx.length:=by rw[Hn.out];exact hlt
    have mF:k<(bx.map jk).length:=by simpa using eY
    obtain⟨y1,y2,hy⟩:∃y1 y2,eQ (bH bx[k])=(y1,y2):=⟨_,_,rfl⟩;have hx:(bx.map jk)[k]=(canon y1,canon y2):=by rw[List.getElem_map];unfold jk;rw[hy];rfl
    obtain⟨b,o,hab,hp⟩:=(eu.out.below pb).spn k mF hx;have aU:=wP n c1 k (k:Int) hab hlt rfl;have Sw:=fV.out k eY y1 y2 hy;have hkX:k<X.length:=by rw[ut.out];exact hlt
    have hst:=afe X k hkX;rw[NZ.out k hkX]at hst;generalize f k=F at*;have ua:(X.take (k+1)).flatMap aV=(X.take k).flatMap aV++(bu F):=hst;have Hp:Hid (aQ wr b (o+k*6) [ag (au (dN y1)),ah (nt (dN y1).natAbs),af (dE y1),ag (au (dN y2)),ah (nt (dN y2).natAbs),af (dE y2)]):=hp;obtain⟨Hca,bK,Ho,aP,mX⟩:=dY Sw ua ho pb (aC bJ.out pb);have ie:=pb.size;clear hp hab hx hy Sw hst ua ho pb hkX mF eY;have Hb:=hbz wr;obtain⟨ae,ai⟩:=qZ (Hp.an trivial);have pN:=lN.out;have aG:=qL (Hb.an ae);go_wp2_with fail;refine cX wr (Hb.an ae) 88 [ag (au (dN y1)),ah (nt (dN y1).natAbs),af (dE y1),ag (au (dN y2)),ah (nt (dN y2).natAbs),af (dE y2)] λW4 aG ae ai=>?_;go_wp2_with fail;refine aK ae (Hca.out _ (aC mX.out ae.2.1.out)) λw5 ae ai=>?_;clear pN;obtain⟨W6,rC,aG,ae,ai⟩:=bO w5 ae 45 (bu F);have cj:=ownsRow_below Ho.out ae.2.2.1.out;have jd:=ae.2.2.1.out.size;have hnews:=fN ae.1.out;go_wp2_with (at_builtin;refine wpList_append_own_at _ rfl _ _ 63 rfl w1.heap.size 45 i0 _ 3 32 Tryz.underlying63 Hi.out cm.out bR.out bZ.out rfl zd v k ((X.take k).flatMap aV) rfl cj ⟨w5.heap.size,0,none⟩ 1 1 (bu F) rfl rfl hnews zy zx zo zo ?_;intro v' w7 dW eK _ _);have ja:=(aC aP.out ae.2.2.1.out).grown eK zo (λj e=>cK cj j e);rw[<-bK.out]at dW;obtain⟨zX,rY⟩:=aI dW ja;clear dW ja eK cj hnews;go_wp2;go_roundw;case rel=>exact⟨k+1,_,by omega,by go_num,rfl,zX.out,rY.out⟩
    case measure=>exact bf
  . obtain rfl:k=n:=by omega
    rw[List.take_of_length_le (by rw[ut.out];exact Nat.le_refl _)]at ho;obtain⟨a2,c2,rfl,hat,_⟩:=cz ho;obtain⟨Hb,EM⟩:=aI (aC bJ.out pb) hat;clear pb ho hat;go_wp2;refine bodyPost_ret (results_tmp rfl _ _ _) rfl ⟨a2,c2,rfl,EM.out,Hb.out⟩
def vh (bx:List (Raw×Raw))(ts:List Raw)(k:Nat):Dyadic:=(eQ (bH (bx.getD k default))).1+dval (ts.getD k default) *um (eQ (bH (bx.getD k default)))
def auu (a:Option Addr)(n cap B:Nat)(bx:List (Raw×Raw))(ts:List Raw)(ta:Option Addr)(tc:Nat)(w:World)(hn:bx.length=n)(hl:n<=1000)(hf:lK B bx)(hB:B<=10000000)(ha:At w a (bx.flatMap spC))(ht:ts.length=n)(hft:∀x∈ts,Fit B x)(je:At w ta (ts.flatMap aV))(hT:aB w):
 Cl 84 #[.slice a n cap,.slice ta n tc] w λe w'=>∃(a':Option Addr) (c':Nat),e=.returned (.slice a' n c')/\At w' a' (((List.range n).map λk=>canon (vh bx ts k)).flatMap aV)/\Bw w w':=by
 have eg:∀args w,(callFunc 164 args).run Tryz.prog w=.ok (.enter 164 args) w:=enters_of Tryz.func164 zk rfl
 have hea:=λW bt (hW:Bw w W) (hc:W.cell? ⟨bt,0,none⟩=some (.slice ta n tc))=>aou a n cap B bx 164 #[.pointer (some ⟨bt,0,none⟩)] (vh bx ts) W hn hl hf (ha.below hW) (hT.below hW) eg (λk hk y1 y2 hy W2 hW2=>by
  have hs:=hf _ (List.getElem_mem hk);have ho:=rN (p:=bH bx[k]) ⟨hs.1.2,hs.2.2⟩;rw[hy]at ho;have h:=aut y1 y2 (vh bx ts k) B k n ts ta tc bt W2 ho.1 ho.2 hB ht zo hft (by unfold vh;rw[show bx.getD k default=bx[k]by simp[hk],hy]) (cell_later hW2 hc) (je.below (aC hW hW2)) (hT.below (aC hW hW2))
  simpa using h)
 have Hea:=aj hea;clear hea eg ha hT hf hft je ht hn;have Hb:=hbz w;go_enter Tryz.func84,Tryz.ntmps84;go_wp2_with fail;refine cX w (Hb.an trivial) 63 [.slice ta n tc] λW aG ae ai=>?_;have t0:W.cell? ⟨w.heap.size,0,none⟩=some (.slice ta n tc):=ae.1.out.cell 0;go_wp2_with fail;refine(Hea.out _ _ ae.2.1.out t0).mono ?_;rintro e w1 ⟨a',c',rfl,hat,ak⟩;obtain⟨ae,ai⟩:=qX ak ae;go_wp2;refine bodyPost_ret (results_tmp rfl _ _ _) rfl ⟨a',c',rfl,hat,ae.2.1.out⟩
def lK.smP {B:Nat}{bx:List (Raw×Raw)}(h:lK B bx):vQ B (bx.map bH):=λp hp=>by obtain⟨s,hs,rfl⟩:=List.mem_map.1 hp;exact⟨(h s hs).1.2,(h s hs).2.2⟩
def lK.of {B:Nat}{bx:List Pr}(h:vQ B bx)(hB:B<=268435456):lK B (bx.map kA):=λs hs=>by obtain⟨p,hp,rfl⟩:=List.mem_map.1 hs;exact⟨(h p hp).1.fit hB,(h p hp).2.fit hB⟩
def amf (a:Option Addr)(L cap B:Nat)(bx:List (Raw×Raw))(w:World)(hL:bx.length=L)(h1:1<=L)(hl:L<=1000)(hf:lK B bx)(hB:B<=1000000)(ha:At w a (bx.flatMap spC))(hT:aB w):
 Cv 104 #[.slice a L cap] w (af (qP (bx.map bH):Int)):=by
 obtain⟨F,hF⟩:∃F:Nat->Dyadic,(λi=>um ((bx.map bH).getD i (0,0)))=F:=⟨_,rfl⟩;have Dd:∀k (h:k<bx.length),F k=um (dval bx[k].1,dval bx[k].2):=λk hk=>by rw[<-hF];simp only[Vu hk]
 have hFs:∀k,Sm (B+1) (F k):=λk=>by rw[<-hF];exact agO (hf.smP.get k)
 have hW:qP (bx.map bH)=iD F L:=by unfold qP;rw[hF,List.length_map,hL]
 have hlt:∀k,1<=k->iD F k<k:=λk hk=>(YS F k hk).1;have hst:∀k,iD F (k+1)=if 0<bi (F k-F (iD F k))then k else iD F k:=λk=>rfl
 rw[hW];obtain⟨Ha,HT,HL,Hf,xp,Jz,uw,bK⟩:=lC ha hT hL hf Dd hFs hlt hst;clear ha hT hL hf Dd hFs hlt hst hW hF;obtain⟨KU,abU⟩:∃f:Nat->Nat,iD F=f:=⟨_,rfl⟩;rw[abU]at uw bK⊢;clear abU;have Hb:=hbz w;go_enter Tryz.func104,Tryz.ntmps104;go_wp2_with fail;go_loopw[3,8] (λs3 x wr=>∃k:Nat,k<=L/\x=af (k:Int)/\s3=af (if k=0 then-1 else(KU k:Int))/\Bw w wr) (λ_ x _=>L-(intOf x).toNat);case atStart=>exact⟨0,Nat.zero_le _,rfl,rfl,Hb.out⟩
 case round=>
  clear Hb;obtain⟨k,hk,rfl,rfl,pb⟩:=hrel;by_cases hlt:k<L
  . have eY:k<bx.length:=by rw[HL.out];exact hlt
    obtain⟨s,m,e,t,n,f,hx⟩:∃s m e t n f,bx[k]=((s,m,e),(t,n,f)):=⟨_,_,_,_,_,_,rfl⟩;obtain⟨b,o,hab,hp⟩:=(Ha.out.below pb).spn k eY hx;have aU:=wP L cap k (k:Int) hab hlt rfl;have mC:=Hf.out _ (List.getElem_mem eY);have hwk:=xp.out k eY;rw[hx]at mC hwk;by_cases fG:k=0
    . have e1:KU (k+1)=k:=by rw[fG];have:=uw.out 1 zo;show KU 1=0;omega
      rw[if_pos fG];obtain⟨Hp,Hb,Oz⟩:=bL hp pb e1;clear hp pb hab hx mC hwk e1 fG;obtain⟨ae,ai⟩:=qZ (Hp.an trivial);obtain⟨W4,ke,aG,ae,ai⟩:=bO wr (Hb.an ae) 88 [ag s,ah m,af e,ag t,ah n,af f];go_wp2_with fail;refine df 999 ae (cQ 13 0x1917141208110f0d0b07050301) ?_;refine bC ?_;refine cZ ae λai=>?_;go_wp2;go_roundw;case rel=>exact⟨k+1,by omega,by go_num,by simp[Oz.out],ae.2.1.out.drew⟩
      case measure=>exact bf
    . obtain⟨j,hj⟩:=az (KU k);have hjk:j<k:=by rw[<-hj];exact uw.out k zo
      have rG:j<bx.length:=by omega
      have GM:j<L:=by omega
      obtain⟨s',m',e',t',n',f',hx'⟩:∃s m e t n f,bx[j]=((s,m,e),(t,n,f)):=⟨_,_,_,_,_,_,rfl⟩;obtain⟨b',o',rD,hp'⟩:=(Ha.out.below pb).spn j rG hx';obtain⟨rfl,rfl⟩:b'=b/\o'=o:=by rw[hab]at rD;simp at rD;exact⟨rD.1.symm,rD.2.symm⟩
      have acG:=wP L cap j (j:Int) hab GM rfl;have SG:=Hf.out _ (List.getElem_mem rG);have pC:=xp.out j rG;rw[hx']at SG pC;have hsk:=bK.out k;rw[hj]at hsk;obtain⟨X,hX⟩:=az (F k);obtain⟨Y,hY⟩:=az (F j);have dR:=Jz.out k;have tF:=Jz.out j;rw[hX]at hwk hsk dR;rw[hY]at pC hsk tF;obtain⟨c,hc⟩:=az (bi (X-Y));rw[hc]at hsk;have nj:bi (dval (dF X)-dval (dF Y))=c:=by
       show bi (dval (canon X)-dval (canon Y))=c
       rw[bA,bA];exact hc
      have hif:(if k=0 then(-1:Int)else(j:Int))=(j:Int):=if_neg fG;have Mm:¬(j:Int)<0:=by omega
      have ov:decide ((j:Int)<0)=false:=by simp
      obtain⟨Hp,Hq,Hb,Xm,Xl,CC,Qa,sI,Ci⟩:=Ug hp hp' pb mC SG hwk.symm pC.symm hsk nj;have HX1:Hid (Ok (dF X)):=(dR.fit zo).1;have HY1:Hid (Ok (dF Y)):=(tF.fit zo).1;have zN:=aj fG;rw[hj,hif];clear hp hp' pb hab rD hx hx' mC SG hwk pC hsk nj dR tF hc hX hY hj hif fG;obtain⟨ae,ai⟩:=qZ (Hp.an<|Hq.an trivial);obtain⟨W4,ke,aG,ae,ai⟩:=bO wr (Hb.an ae) 88 [ag s,ah m,af e,ag t,ah n,af f];go_wp2_with fail;refine df 999 ae (cQ 13 0x1917141208110f0d0b07050301) ?_;refine bC ?_;refine bP ae (Vv s m e t n f B X CC.out _ Xm.out.1 Xm.out.2 zo (qU (HT.out.below ae.2.1.out))) λw5 ae=>?_;refine bP ae (Vv s' m' e' t' n' f' B Y Qa.out _ Xl.out.1 Xl.out.2 zo (qU (HT.out.below ae.2.1.out))) λw6 ae=>?_;refine bP ae (FW _ _ _ _ _ _ c Ci.out _ HX1.out HY1.out (qU (HT.out.below ae.2.1.out))) λw7 ae=>?_;refine bC ?_;refine cZ ae λai=>?_;skip
      by_cases hc0:0<c
      . go_wp2;go_roundw;case rel=>exact⟨k+1,by omega,by go_num,by rw[if_neg zo,sI.out,if_pos hc0],ae.2.1.out⟩
        case measure=>exact bf
      . go_wp2;go_roundw;case rel=>exact⟨k+1,by omega,by go_num,by rw[if_neg zo,sI.out,if_neg hc0],ae.2.1.out⟩
        case measure=>exact bf
  . obtain rfl:k=L:=by omega
    have Hb:=aj pb;rw[if_neg zo];clear pb;go_wp2;refine bodyPost_ret (results_tmp rfl _ _ _) rfl ⟨rfl,Hb.out⟩
def YV (s:Bool)(l:List UInt8)(e:Int)(t:Bool)(m:List UInt8)(f:Int)(u:Bool)(o:List UInt8)(g:Int)(up:Bool)(w:World):
 Cl 183 #[.agg #[ag s,ah l,af e,ag t,ah m,af f,ag u,ah o,af g],ag up] w λe' w'=>e'=.returned (.agg (if up then #[ag u,ah o,af g,ag t,ah m,af f]else #[ag s,ah l,af e,ag u,ah o,af g]))/\Bw w w':=by
 obtain⟨W,bX,ae,ai⟩:=jz w 199 [ag s,ah l,af e,ag t,ah m,af f,ag u,ah o,af g] 88 [ag false,.string ⟨#[]⟩,af 0,ag false,.string ⟨#[]⟩,af 0];go_enter Tryz.func183,Tryz.ntmps183;cases up with
 |true=>go_wp2;refine dG (aO W (w.heap.size+1) 0 [ag u,ah o,af g,ag t,ah m,af f]) aR ?_;intro w9 hs0;have ae:=bD hs0 ae;simp only[bz,List.set]at ae;have ai:=qC ae;refine bodyPost_ret (v:=.agg #[ag u,ah o,af g,ag t,ah m,af f]) (by simp[results,Tryz.results183,go_sem,ai]) rfl ⟨rfl,ae.1.out⟩
 |false=>go_wp2;refine dG (aO W (w.heap.size+1) 0 [ag s,ah l,af e,ag u,ah o,af g]) aR ?_;intro w9 hs0;have ae:=bD hs0 ae;simp only[bz,List.set]at ae;have ai:=qC ae;refine bodyPost_ret (v:=.agg #[ag s,ah l,af e,ag u,ah o,af g]) (by simp[results,Tryz.results183,go_sem,ai]) rfl ⟨rfl,ae.1.out⟩
def amc (s:Bool)(l:List UInt8)(e:Int)(t:Bool)(m:List UInt8)(f:Int)(u:Bool)(o:List UInt8)(g:Int)(w:World):
 Cl 183 #[.agg #[ag s,ah l,af e,ag t,ah m,af f,ag u,ah o,af g],ag false] w λe' w'=>e'=.returned (.agg #[ag s,ah l,af e,ag u,ah o,af g])/\Bw w w':=by
 have h:=YV s l e t m f u o g false w;rwa [if_neg zd]at h
def amb (s:Bool)(l:List UInt8)(e:Int)(t:Bool)(m:List UInt8)(f:Int)(u:Bool)(o:List UInt8)(g:Int)(w:World):
 Cl 183 #[.agg #[ag s,ah l,af e,ag t,ah m,af f,ag u,ah o,af g],ag true] w λe' w'=>e'=.returned (.agg #[ag u,ah o,af g,ag t,ah m,af f])/\Bw w w':=by
 have h:=YV s l e t m f u o g true w;rwa [if_pos rfl]at h
def ap5 (bx:List (Raw×Raw))(i:Nat)(hi:i<bx.length)(y1 y2 X:Dyadic)(hy:eQ (bH bx[i])=(y1,y2))(hX:jy (y1,y2)=X):
 (jv (bx.map bH) i false).map kA=(bx.map jk).set i (canon y1,canon X)/\(jv (bx.map bH) i true).map kA=(bx.map jk).set i (canon X,canon y2):=by
 have hg:(bx.map bH).getD i (0,0)=bH bx[i]:=by simp[hi]
 have hm:jy (bH bx[i])=X:=by rw[<-asY,hy,hX]
 have e0:((bx.map bH).map eQ).map kA=bx.map jk:=by rw[List.map_map,List.map_map];rfl
 unfold jv;rw[hg,hy,hm];constructor
 . rw[if_neg zd,List.map_set,e0];rfl
 . rw[if_pos rfl,List.map_set,e0];rfl
def ame (a:Option Addr)(L cap B:Nat)(bx:List (Raw×Raw))(i:Nat)(w:World)(hL:bx.length=L)(hi:i<L)(hl:L<=1000)(hf:lK B bx)(hB:B<=1000000)(ha:At w a (bx.flatMap spC))(hT:aB w):
 Cl 103 #[.slice a L cap,af (i:Int)] w λe w'=>∃g1 g2,e=.returned (.tuple #[.slice (some ⟨g1,0,none⟩) L L,.slice (some ⟨g2,0,none⟩) L L,af 0])/\w.heap.size<=g1/\w.heap.size<=g2/\ar w' g1 88 (((jv (bx.map bH) i false).map kA).flatMap spC)/\ar w' g2 88 (((jv (bx.map bH) i true).map kA).flatMap spC)/\Bw w w':=by
 have qw:i<bx.length:=by omega
 obtain⟨⟨y1,y2⟩,hy⟩:∃p,eQ (bH bx[i])=p:=⟨_,rfl⟩;obtain⟨X,hX⟩:=az (jy (y1,y2));obtain⟨ny,hm2⟩:=ap5 bx i qw y1 y2 X hy hX;have TD:Sm B y1/\Sm B y2:=by have:=rN (p:=bH bx[i]) ⟨(hf _ (List.getElem_mem qw)).1.2,(hf _ (List.getElem_mem qw)).2.2⟩;rwa [hy]at this
 have hmid:jy (dval (dF y1),dval (dF y2))=X:=by
  show jy (dval (canon y1),dval (canon y2))=X
  rw[bA,bA];exact hX
 have hF1:Fit B (dF y1):=TD.1.fit zo;have hF2:Fit B (dF y2):=TD.2.fit zo;have hfo:=λW (hW:Bw w W)=>Qy a L cap B bx W hL hl hf (ha.below hW) (hT.below hW);obtain⟨G,hG⟩:=az (bx.map jk);have hGL:G.length=L:=by rw[<-hG,List.length_map,hL]
 have Gm:∃h:i<G.length,G[i]=((dF y1),(dF y2)):=by subst hG;refine⟨by simpa using qw,?_⟩;rw[List.getElem_map];unfold jk;rw[hy];rfl
 rw[hG]at ny hm2;simp only[hG]at hfo;rw[ny,hm2];obtain⟨OJ,HT,Wp,HGi,Ph,NR,vB⟩:=jx hfo hT hGL Gm hmid hF1 hF2;clear hfo hT hGL Gm hmid hF1 hF2 ny hm2 hy hX TD hf ha hL hG qw;have hi0:¬((L:Int)<=(i:Int)):=by omega
 have Hb:=hbz w;go_enter Tryz.func103,Tryz.ntmps103;go_wp2_with fail;refine(OJ.out _ Hb.out).mono ?_;rintro e w1 ⟨a',c',rfl,hat,ak⟩;replace Hb:=aj (aC Hb.out ak);obtain⟨hiG,Gm⟩:=HGi.out;obtain⟨b,o,rfl,hp⟩:=hat.spn i hiG Gm;have aU:=wP L c' i (i:Int) (rfl:(some ⟨b,o,none⟩:Option Addr)=_) hi rfl;obtain⟨Hp,eu⟩:=aI hp hat;clear hp hat ak Gm;have bJ:=Hb;clear Hb;have Hb:=hbz w1;have dJ:=aj (HT.out.below bJ.out);go_upto_region 4 with fail
 go_cut[7] (λs7 wx=>∃g:Nat,s7=.pointer (some ⟨g,0,none⟩)/\w1.heap.size<=g/\ar wx g 199 [ag (au (dN y1)),ah (nt (dN y1).natAbs),af (dE y1),ag (au (dN y2)),ah (nt (dN y2).natAbs),af (dE y2),ag (au (dN X)),ah (nt (dN X).natAbs),af (dE X)]/\Bw w1 wx);case first=>
  obtain⟨ae,ai⟩:=qZ (Hp.an trivial);obtain⟨Hp,_⟩:=ae;have p0:w1.cell? ⟨b,o+i*6,none⟩=some (ag (au (dN y1))):=Hp.out.cell 0 zm;have p1:w1.cell? ⟨b,o+i*6+1,none⟩=some (ah (nt (dN y1).natAbs)):=Hp.out.cell 1 zm;have p2:w1.cell? ⟨b,o+i*6+2,none⟩=some (af (dE y1)):=Hp.out.cell 2 zm;have p3:w1.cell? ⟨b,o+i*6+3,none⟩=some (ag (au (dN y2))):=Hp.out.cell 3 zm;have p4:w1.cell? ⟨b,o+i*6+4,none⟩=some (ah (nt (dN y2).natAbs)):=Hp.out.cell 4 zm;have p5:w1.cell? ⟨b,o+i*6+5,none⟩=some (af (dE y2)):=Hp.out.cell 5 zm;have oJ:∀w',gF w1 w'->aJ w' b (o+i*6) (ag (au (dN y1)))/\aJ w' b (o+i*6+1) (ah (nt (dN y1).natAbs))/\aJ w' b (o+i*6+2) (af (dE y1))/\aJ w' b (o+i*6+3) (ag (au (dN y2)))/\aJ w' b (o+i*6+4) (ah (nt (dN y2).natAbs))/\aJ w' b (o+i*6+5) (af (dE y2)):=λw' h=>⟨cell_later h p0,cell_later h p1,cell_later h p2,cell_later h p3,cell_later h p4,cell_later h p5⟩;refine Jt (λw'=>gF w1 w') (λi=>Nat.blt i 11) 10 199 [ag false,.string ⟨#[]⟩,af 0,ag false,.string ⟨#[]⟩,af 0,ag false,.string ⟨#[]⟩,af 0] [(0,true),(1,true),(2,true),(3,true),(4,true),(5,true),(6,true),(7,true),(8,false),(9,true)] [(11,false)] zk zk rfl rfl rfl zk zk zc zc (λK a w h=>IQ rfl rfl (λK' hK=>by go_simp;exact hK _ _ h)) ?_;clear p0 p1 p2 p3 p4 p5 Hp;intro w1f ak;replace Hb:=aj (aC Hb.out ak);refine⟨Hb.out,?_⟩;iterate 8 (refine vk rfl rfl (v:=?_) (λw' hw'=>?_) ?_;rotate_left;(focus have hw':=oJ w' hw';obtain⟨q0,q1,q2,q3,q4,q5⟩:=hw';go_simp;try with_reducible rfl);try simp only[UU])
  refine yV rfl rfl (λK hK=>?_);go_simp;with_reducible refine(av8 _ _ _ _ _ _ B X Ph.out _ NR.out vB.out zo (dJ.out.below Hb.out)).mono ?_
  rintro e w9 ⟨rfl,hq⟩;refine hK _ _ hq (λw2 ak hb2=>?_);replace Hb:=aj (aC Hb.out ak);refine⟨Hb.out,?_⟩;clear ak hb2 hq hK K;try simp only[UU]
  refine vk rfl rfl (v:=?_) (λw' hw'=>?_) ?_;rotate_left;(focus go_simp;try with_reducible rfl);try simp only[UU]
  intro ki hb0 qx;have Hh:=aj qx;clear qx;have h0:w2.cell? ⟨ki,0,none⟩=some (ag false):=Hh.out.cell 0;have fh0:w2.frozen? ⟨ki,0,none⟩=false:=Hh.out.free 0;have h1:w2.cell? ⟨ki,1,none⟩=some (.string ⟨#[]⟩):=Hh.out.cell 1;have fh1:w2.frozen? ⟨ki,1,none⟩=false:=Hh.out.free 1;have h2:w2.cell? ⟨ki,2,none⟩=some (af 0):=Hh.out.cell 2;have fh2:w2.frozen? ⟨ki,2,none⟩=false:=Hh.out.free 2;have h3:w2.cell? ⟨ki,3,none⟩=some (ag false):=Hh.out.cell 3;have fh3:w2.frozen? ⟨ki,3,none⟩=false:=Hh.out.free 3;have h4:w2.cell? ⟨ki,4,none⟩=some (.string ⟨#[]⟩):=Hh.out.cell 4;have fh4:w2.frozen? ⟨ki,4,none⟩=false:=Hh.out.free 4;have h5:w2.cell? ⟨ki,5,none⟩=some (af 0):=Hh.out.cell 5;have fh5:w2.frozen? ⟨ki,5,none⟩=false:=Hh.out.free 5;have h6:w2.cell? ⟨ki,6,none⟩=some (ag false):=Hh.out.cell 6;have fh6:w2.frozen? ⟨ki,6,none⟩=false:=Hh.out.free 6;have h7:w2.cell? ⟨ki,7,none⟩=some (.string ⟨#[]⟩):=Hh.out.cell 7;have fh7:w2.frozen? ⟨ki,7,none⟩=false:=Hh.out.free 7;have h8:w2.cell? ⟨ki,8,none⟩=some (af 0):=Hh.out.cell 8;have fh8:w2.frozen? ⟨ki,8,none⟩=false:=Hh.out.free 8;try simp only[U1]
  try simp only[Act.put,U2,U3]
  refine aN rfl rfl (λK hK=>?_);go_simp;refine hK _ _ (λh=>absurd h zd) ?_;try simp only[UU]
  simp only[bE];go_wp2_with fail;go_meet;exact⟨ki,rfl,hb0,(((((((((Hh.out.set 0 _).set 1 _).set 2 _).set 3 _).set 4 _).set 5 _).set 6 _).set 7 _).set 8 _),(((((((((Hb.out.setCell zp _).setCell zp _).setCell zp _).setCell zp _).setCell zp _).setCell zp _).setCell zp _).setCell zp _).setCell zp _)⟩
 case rest=>
  obtain⟨g,rfl,hg,qh,qb⟩:=hcut;obtain⟨Hh,Hb,HA,xt⟩:=cE qh qb (eu.out.below qb) (dJ.out.below qb);clear qh qb Hp aU hg;obtain⟨w2,hw2⟩:=az wc;subst hw2;have se:=Hb;clear Hb;have Hb:=hbz wc;obtain⟨ae,ai⟩:=qZ (Hh.an trivial);have HA:Hid (At wc (some ⟨b,o,none⟩) (G.flatMap spC)):=HA.out;go_wp2_with fail;have ae:=Hb.an<|HA.an ae
  refine df 999 ae (cQ 13 0x191715121008060f0d0b050301) ?_;refine bC ?_;refine bP ae (amc _ _ _ _ _ _ _ _ _ _) λw5 ae=>?_;refine qOp λK hK=>?_;go_simp;with_reducible refine(YW ⟨b,o,none⟩ L c' G i _ _ _ _ _ _ _ Wp.out hl hi ae.2.1.out wc.heap.size ae.1.out.size).mono ?_
  rintro e w6 ⟨g1,rfl,hg1,ht1,hq⟩;refine mR hK hq ae λae=>?_;clear hK K hq;have HU:=aj ht1;clear ht1;have ae:=HU.an ae;refine bP ae (amb _ _ _ _ _ _ _ _ _ _) λw7 ae=>?_;refine qOp λK hK=>?_;go_simp;with_reducible refine(YW ⟨b,o,none⟩ L c' G i _ _ _ _ _ _ _ Wp.out hl hi ae.2.2.1.out wc.heap.size ae.2.1.out.size).mono ?_
  rintro e w8 ⟨g2,rfl,hg2,ht2,hq⟩;refine mR hK hq ae λae=>?_;clear hK K hq;have HV:=aj ht2;clear ht2;have ae:=HV.an ae;refine bC ?_;refine cZ ae λai=>?_;have hsz:=(aC bJ.out se.out).size;go_wp2;refine bodyPost_ret (v:=.tuple #[.slice (some ⟨g1,0,none⟩) L L,.slice (some ⟨g2,0,none⟩) L L,af 0]) (by simp[results,Tryz.results103,go_sem]) rfl ⟨g1,g2,rfl,by omega,by omega,ae.2.1.out,ae.1.out,aC (aC bJ.out se.out) ae.2.2.1.out⟩
end Go.Proofs.YtpfgffadgkkedaaGreatDoor
