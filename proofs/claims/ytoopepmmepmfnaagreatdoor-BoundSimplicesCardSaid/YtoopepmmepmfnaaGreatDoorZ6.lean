/- Small facts that walks over blocks of one's own share. -/
import Derived.Test.YtoopepmmepmfnaaGreatDoorZ5
import Derived.Deep.RegionHeld3
import Derived.Deep.DrawnRows
import Derived.Test.YtoopepmmepmfnaaGreatDoorZ1
set_option linter.unusedVariables false
set_option linter.unusedSimpArgs false
set_option maxRecDepth 100000
set_option maxHeartbeats 16000000
namespace Go.Proofs.YtoopepmmepmfnaaGreatDoor
open Go.RowKit
theorem cf {P:Program}{c:Code}{Q:Exit->Act->World->Prop}{a:Act}{W:World}(S:World->Prop)(hS:S W)(h:∀W',S W'->c.wp P Q a W'):c.wp P Q a W:=h W hS
theorem bZ {P:Program}{f:FuncId}{args:Array Value}{R:Ending->World->Prop}{W:World}(S:World->Prop)(hS:S W)(h:∀W',S W'->Calls P f args W' R):Calls P f args W R:=h W hS
theorem gG {w:World}{p a:Addr}{u v:Value}(hne:a.block≠p.block)(h:w.cell? a=some v):(w.setCell p u).cell? a=some v:=
 (World.cell?_of_block (w:=w) (Below.heap_setCell _ _ _ _ hne)).trans h
theorem ar.newAt (w:World)(t:TypeId)(cs:List Value){b:Nat}(h:w.heap.size=b):ar (w.alloc (.cells cs.toArray t)) b t cs:=by subst h;exact ar.new w t cs
theorem cd (w:World)(t0:TypeId)(l0:List Value):∃W,(w.alloc (.cells l0.toArray t0))=W/\Bw w W/\RowKit.Hid (ar W (w.heap.size) t0 l0):=⟨_,rfl,zl,ai (ar.new _ _ _)⟩
theorem aox (w:World)(t0:TypeId)(l0:List Value)(t1:TypeId)(l1:List Value):∃W,((w.alloc (.cells l0.toArray t0)).alloc (.cells l1.toArray t1))=W/\Bw w W/\RowKit.Hid (ar W (w.heap.size) t0 l0)/\RowKit.Hid (ar W (w.heap.size+1) t1 l1):=⟨_,rfl,(zl.alloc zj _),ai ((ar.new _ _ _).alloc _),ai (ar.newAt _ _ _ zm)⟩
theorem fJ (w:World)(t0:TypeId)(l0:List Value):∃W,(w.alloc (.cells l0.toArray t0))=W/\RowKit.Hid (Bw w W)/\RowKit.Hid (ar W (w.heap.size) t0 l0):=⟨_,rfl,ai zl,ai (ar.new _ _ _)⟩
theorem iq (w:World)(t0:TypeId)(l0:List Value)(t1:TypeId)(l1:List Value):∃W,((w.alloc (.cells l0.toArray t0)).alloc (.cells l1.toArray t1))=W/\RowKit.Hid (Bw w W)/\RowKit.Hid (ar W (w.heap.size) t0 l0)/\RowKit.Hid (ar W (w.heap.size+1) t1 l1):=⟨_,rfl,ai (zl.alloc zj _),ai ((ar.new _ _ _).alloc _),ai (ar.newAt _ _ _ zm)⟩
theorem qO (w:World)(t0:TypeId)(l0:List Value)(t1:TypeId)(l1:List Value)(t2:TypeId)(l2:List Value):∃W,(((w.alloc (.cells l0.toArray t0)).alloc (.cells l1.toArray t1)).alloc (.cells l2.toArray t2))=W/\RowKit.Hid (Bw w W)/\RowKit.Hid (ar W (w.heap.size) t0 l0)/\RowKit.Hid (ar W (w.heap.size+1) t1 l1)/\RowKit.Hid (ar W (w.heap.size+1+1) t2 l2):=⟨_,rfl,ai ((zl.alloc zj _).alloc zj _),ai (((ar.new _ _ _).alloc _).alloc _),ai ((ar.newAt _ _ _ zm).alloc _),ai (ar.newAt _ _ _ zm)⟩
theorem Ig (w:World)(t0:TypeId)(l0:List Value)(t1:TypeId)(l1:List Value)(t2:TypeId)(l2:List Value)(t3:TypeId)(l3:List Value):∃W,((((w.alloc (.cells l0.toArray t0)).alloc (.cells l1.toArray t1)).alloc (.cells l2.toArray t2)).alloc (.cells l3.toArray t3))=W/\RowKit.Hid (Bw w W)/\RowKit.Hid (ar W (w.heap.size) t0 l0)/\RowKit.Hid (ar W (w.heap.size+1) t1 l1)/\RowKit.Hid (ar W (w.heap.size+1+1) t2 l2)/\RowKit.Hid (ar W (w.heap.size+1+1+1) t3 l3):=⟨_,rfl,ai (((zl.alloc zj _).alloc zj _).alloc zj _),ai ((((ar.new _ _ _).alloc _).alloc _).alloc _),ai (((ar.newAt _ _ _ zm).alloc _).alloc _),ai ((ar.newAt _ _ _ zm).alloc _),ai (ar.newAt _ _ _ zm)⟩
theorem aW {a w:World}(h:Below a.drew.heap.size a.drew w):Bw a w:=⟨h.os,h.tape,h.output,h.size,h.block⟩
theorem aJ {w W w1:World}(h:Bw w W)(k:Bw W w1):Bw w w1:=h.trans (k.mono h.size)
theorem aB {w W w1:World}(h:Hid (Bw w W))(k:Bw W w1):Hid (Bw w w1):=aJ h.out k
theorem df {p:Prop}(h:p:=by(repeat first|exact Hb.out| (refine Below.setCell ?_ (by have:=Hb.out.size;first| (dsimp only;omega) | (show _<=_;omega) | (simp<;>omega)) _) | (refine Below.alloc ?_ (by have:=Hb.out.size;simp<;>omega) _) |refine Below.drew ?_)):p:=h
def wA (b:Nat):Nat->List Value->World->World
 |_,[],w=>w
 |o,v::l,w=>wA b (o+1) l (w.setCell ⟨b,o,none⟩ v)
def Dw :Nat->List Value->List Value->List Value
 |_,[],c=>c
 |o,v::l,c=>Dw (o+1) l (c.set o v)
def bC (w:World)(b o:Nat)(vs:List Value)(w':World):Prop:=w'=wA b o vs w\/w'=wA b o vs w.drew
theorem stI {w:World}{b o:Nat}{vs:List Value}:bC w b o vs (wA b o vs w):=.inl rfl
theorem stJ {w:World}{b o:Nat}{vs:List Value}:bC w b o vs (wA b o vs w.drew):=.inr rfl
theorem bJ {w:World}{b o:Nat}{vs:List Value}{w':World}(h:bC w b o vs w':=by first|exact stI|exact stJ):bC w b o vs w':=h
theorem aqi (vs:List Value):∀(o:Nat) (cs:List Value),cs.length=o+vs.length->Dw o vs cs=cs.take o++vs:=by
 induction vs with
 |nil=>intro o cs h;simp only[Dw,List.append_nil];rw[List.take_of_length_le (by simp at h;omega)]
 |cons v vs ih=>intro o cs h;simp only[List.length_cons]at h;rw[Dw,ih (o+1) _ (by rw[List.length_set];omega),List.take_succ_eq_append_getElem (by rw[List.length_set];omega),List.getElem_set_self,List.take_set_of_le (Nat.le_refl _),List.append_assoc];rfl
theorem acZ (p b:Nat)(n:p≠b)(t:TypeId)(cs:List Value)(vs:List Value):∀(o:Nat) (w:World),ar w b t cs->ar (wA p o vs w) b t cs:=by
 induction vs with
 |nil=>intro o w h;exact h
 |cons v vs ih=>intro o w h;exact ih _ _ (h.aw3 ⟨p,o,none⟩ n v)
theorem ac2 (b:Nat)(t:TypeId)(vs:List Value):∀(o:Nat) (w:World) (cs:List Value),ar w b t cs->ar (wA b o vs w) b t (Dw o vs cs):=by
 induction vs with
 |nil=>intro o w cs h;exact h
 |cons v vs ih=>intro o w cs h;exact ih _ _ _ (h.set o v)
theorem acY (a w0:World)(p:Nat)(n:a.heap.size<=p)(vs:List Value):∀(o:Nat) (w:World),Below a.heap.size w0 w->Below a.heap.size w0 (wA p o vs w):=by
 induction vs with
 |nil=>intro o w h;exact h
 |cons v vs ih=>intro o w h;exact ih _ _ (h.setCell n v)
theorem kS {w w':World}{b p o:Nat}{t:TypeId}{cs vs:List Value}(h:Hid (ar w b t cs))(k:bC w p o vs w')(n:p≠b):Hid (ar w' b t cs):=by
 rcases k with rfl|rfl
 . exact acZ p b n t cs vs o _ h.out
 . exact acZ p b n t cs vs o _ h.out.drew
theorem Ax {w w':World}{b o:Nat}{t:TypeId}{cs vs:List Value}(h:Hid (ar w b t cs))(k:bC w b o vs w'):Hid (ar w' b t (Dw o vs cs)):=by
 rcases k with rfl|rfl
 . exact ac2 b t vs o _ cs h.out
 . exact ac2 b t vs o _ cs h.out.drew
theorem bP {w w':World}{b:Nat}{t:TypeId}{cs vs:List Value}(h:Hid (ar w b t cs))(k:bC w b 0 vs w')(e:cs.length=vs.length:=by rfl):Hid (ar w' b t vs):=by have:=Ax h k;rwa [aqi vs 0 cs zo,List.take_zero,List.nil_append]at this
theorem bS {a w w':World}{p o:Nat}{vs:List Value}(h:Hid (Bw a w))(k:bC w p o vs w')(n:a.heap.size<=p):Hid (Bw a w'):=by
 rcases k with rfl|rfl
 . exact acY a a p n vs o _ h.out
 . exact acY a a p n vs o _ h.out.drew
theorem sQ {a w:World}{o:Obj}(h:Below (a.alloc o).heap.size (a.alloc o) w):Bw a w:=aJ zl h
theorem rE {a w:World}{o:Obj}(h:Below (a.drew.alloc o).heap.size (a.drew.alloc o) w):Bw a w:=aW (sQ h)
theorem vA {a w:World}{o:Obj}(h:Below (a.alloc o).drew.heap.size (a.alloc o).drew w):Bw a w:=sQ (aW h)
theorem aL {w:World}{a:Addr}{v:Value}{o:Obj}(h:w.cell? a=some v):(w.alloc o).cell? a=some v:=cell_later zl h
theorem OJ {w:World}{a:Addr}{v:Value}(h:w.cell? a=some v):w.drew.cell? a=some v:=h
theorem At.aw2 {w:World}{b:Nat}{t:TypeId}{cs:List Value}(h:ar w b t cs):At w (some ⟨b,0,none⟩) cs:=
 .inr ⟨b,0,rfl,λj _=>by rw[Nat.zero_add];exact h.cell j⟩
theorem flat_get {α:Type}(f:α->List Value)(sz:Nat)(hf:∀x,(f x).length=sz)(xs:List α)(k i:Nat)(hk:k<xs.length)(hi:i<sz):
 (xs.flatMap f)[k*sz+i]?=(f xs[k])[i]?:=by
 induction xs generalizing k with
 |nil=>simp at hk
 | cons x xs ih=>
   rw[List.flatMap_cons];cases k with
   |zero=>rw[Nat.zero_mul,Nat.zero_add,List.getElem?_append_left (by rw[hf];exact hi)];rfl
   | succ k=>
     have e:(k+1) *sz+i=(f x).length+(k*sz+i):=by rw[hf,Nat.add_mul,Nat.one_mul];omega
     rw[e,List.getElem?_append_right zo,Nat.add_sub_cancel_left,ih k (by simpa using hk)];rfl
theorem nM {α:Type}(f:α->List Value)(sz:Nat)(hf:∀x,(f x).length=sz)(xs:List α):(xs.flatMap f).length=xs.length*sz:=by
 induction xs with
 |nil=>simp
 |cons x xs ih=>rw[List.flatMap_cons,List.length_append,ih,hf,List.length_cons,Nat.add_mul,Nat.one_mul,Nat.add_comm]
theorem At.elem {α:Type}{f:α->List Value}{sz:Nat}(hf:∀x,(f x).length=sz)(hsz:0<sz){W:World}{a:Option Addr}{xs:List α}(h:At W a (xs.flatMap f))(k:Nat)(hk:k<xs.length):
 ∃b o,a=some ⟨b,o,none⟩/\∀i,i<sz->W.cell? ⟨b,o+k*sz+i,none⟩=(f xs[k])[i]?:=by
 have hl:=nM f sz hf xs;have hb:∀i,i<sz->k*sz+i<xs.length*sz:=by intro i hi;have:(k+1) *sz<=xs.length*sz:=Nat.mul_le_mul_right _ hk;rw[Nat.add_mul,Nat.one_mul]at this;omega
 have hne:xs.flatMap f≠[]:=by intro h0;have:=congrArg List.length h0;rw[hl]at this;have:=hb 0 hsz;simp at*;omega
 obtain⟨b,o,ha,hc⟩:=h.get hne;refine⟨b,o,ha,λi hi=>?_⟩;rw[Nat.add_assoc,hc _ (by rw[hl];exact hb i hi),flat_get f sz hf xs k i hk hi]
end Go.Proofs.YtoopepmmepmfnaaGreatDoor
namespace Go.Proofs.YtoopepmmepmfnaaGreatDoor
open Go.RowKit
attribute [local go_sem ↓] Go.wp_at_zero Go.wp_at_succ
def iv (s:Bool)(l:List UInt8):Int:=if s then-(nv l:Int)else(nv l:Int)
theorem pk (s:Bool)(l:List UInt8):(iv s l).natAbs=nv l:=by unfold iv;split<;>omega
def au (n:Int):Bool:=decide (n<0)
theorem RL (s:Bool)(l:List UInt8):au (iv s l)=(s&& !(nt (nv l)).isEmpty):=by
 unfold au;have h:(nt (nv l)).isEmpty=decide (nv l=0):=by rw[Bool.eq_iff_iff,List.isEmpty_iff,Sr,decide_eq_true_iff]
 rw[h];unfold iv;cases s<;>simp
 by_cases h0:nv l=0<;>simp[h0];omega
abbrev cX (n:Int):Value:=.agg #[ag (au n),ah (nt n.natAbs)]
theorem eX (n:Int):iv (au n) (nt n.natAbs)=n:=by unfold iv au;rw[jJ];by_cases h:n<0<;>simp[h]<;>omega
theorem mU (s:Bool)(n:Nat):iv s (nt n)=if s then-(n:Int)else n:=by unfold iv;rw[jJ]
theorem Mw (l:List UInt8)(s:Bool)(w:World):
 Calls Tryz.prog 114 #[.agg #[ag s,ah l]] w λe w'=>e=.returned (.agg #[ah l,ag s])/\Bw w w':=by
 go_enter Tryz.func114,Tryz.ntmps114;have Hb:Hid (Bw w w):=Below.refl _ _;go_wp2;exact bodyPost_ret (v:=.agg #[ah l,ag s]) (by simp[results,Tryz.results114,go_sem]) rfl ⟨rfl,df⟩
theorem ye (l:List UInt8)(s:Bool)(w:World)(hl:l.length<=1099511627776):
 Calls Tryz.prog 77 #[.agg #[ah l,ag s]] w λe w'=>e=.returned (cX (iv s l))/\Bw w w':=by
 unfold cX;rw[pk,RL];have hne:=vB (nt (nv l));generalize hb:(nt (nv l)).isEmpty=b at*;have HB:=ai hb;clear hb;cases s
 . go_enter Tryz.func77,Tryz.ntmps77;have Hb:Hid (Bw w w):=Below.refl _ _;go_wp2_with (go_at_call 127;refine(adi l _ hl).mono ?_;rintro e w1 ⟨rfl,rfl⟩);go_wp2;exact bodyPost_ret (v:=.agg #[ag false,ah (nt (nv l))]) (by simp[results,Tryz.results77,go_sem]) rfl ⟨rfl,df⟩
 . go_enter Tryz.func77,Tryz.ntmps77;have Hb:Hid (Bw w w):=Below.refl _ _;go_wp2_with (go_at_call 127;refine(adi l _ hl).mono ?_;rintro e w1 ⟨rfl,rfl⟩);go_wp2;exact bodyPost_ret (v:=.agg #[.bool !b,ah (nt (nv l))]) (by simp[results,Tryz.results77,go_sem]) rfl ⟨rfl,df⟩
theorem an9 (l m:List UInt8)(b cap:Nat)(t:TypeId)(w:World)(hl:l.length<=68719476736)(hm:m.length<=68719476736)(ha:ar w b t [ah l,ah m]):
 Calls Tryz.prog 163 #[.slice (some ⟨b,0,none⟩) 2 cap] w λe w'=>e=.returned (ah (nt (nv l+nv m)))/\Bw w w':=by
 have:=an8 [l,m] (some ⟨b,0,none⟩) cap w (by simp[hl,hm]) zm (At.aw2 ha);have e:im [l,m]=nv l+nv m:=by simp[im]
 rw[e]at this;exact this
theorem ao4 (l m:List UInt8)(s:Bool)(w:World)(hl:l.length<=68719476736)(hm:m.length<=68719476736):
 Calls Tryz.prog 113 #[.agg #[.string (bs l),.bool s],.agg #[.string (bs m),.bool s]] w λe w'=>e=.returned (.agg #[.string (bs (nt (nv l+nv m))),.bool s])/\Bw w w':=by
 go_enter Tryz.func113,Tryz.ntmps113;have Hb:Hid (Bw w w):=Below.refl _ _;go_wp2_with fail;obtain⟨R,hR⟩:∃R:World->Prop,(λW=>ar W (w.heap.size) 112 [.string (bs l),.bool s]/\ar W (w.heap.size+1) 112 [.string (bs m),.bool s]/\ar W (w.heap.size+1+1) 112 [.string (bs []),.bool false]/\Bw w W)=R:=⟨_,rfl⟩;first|refine cf R ?hR ?_|refine bZ R ?hR ?_
 case hR=>subst hR;exact⟨(((ar.newAt w _ _ (b:=w.heap.size) rfl).alloc _).alloc _),((ar.newAt (w.alloc _) _ _ (b:=w.heap.size+1) zm).alloc _),(ar.newAt ((w.alloc _).alloc _) _ _ (b:=w.heap.size+1+1) zm),((zl.alloc zj _).alloc zj _)⟩
 subst hR;rintro W ⟨qx,qy,qr,ae⟩;have Hx:=ai qx;clear qx;have Hy:=ai qy;clear qy;have Hr:=ai qr;clear qr;obtain⟨x0,x1⟩:=Hx.out.c2;obtain⟨y0,y1⟩:=Hy.out.c2;obtain⟨r0,aj,r1,ak⟩:=Hr.out.g2;replace Hb:=aB Hb ae;clear ae;have Sp:w.heap.size≠w.heap.size+1+1:=by omega
 have ney:w.heap.size+1≠w.heap.size+1+1:=by omega
 go_region_held3 (λw'=>w'.cell? ⟨w.heap.size,0,none⟩=some (.string (bs l))/\w'.cell? ⟨w.heap.size,1,none⟩=some (.bool s)/\w'.cell? ⟨w.heap.size+1,0,none⟩=some (.string (bs m))/\w'.cell? ⟨w.heap.size+1,1,none⟩=some (.bool s)) (((try dsimp only);go_split_ands;(repeat' apply And.intro)<;>(first|exact True.intro|with_reducible assumption| ((with_reducible refine gG zg ?_);(repeat(with_reducible refine gG zg ?_));with_reducible assumption) |exact cell_later (by with_reducible assumption) (by with_reducible assumption) |exact aL (by with_reducible assumption) |go_keep))) (first| (go_at_call 163;(with_reducible refine(an9 l m W.heap.size 2 9 _ hl hm (by first|exact ar.drew (ar.new _ _ _) |exact ar.new _ _ _)).mono ?_);rintro e w1 ⟨rfl,hq⟩;have hw1:Bw W w1:=(by first|exact aW hq|exact hq|exact rE hq|exact sQ hq|exact vA hq);clear hq;have lL:=ai (Hx.out.below hw1);have Bo:w1.cell? ⟨w.heap.size,0,none⟩=some (.string (bs l)):=lL.out.cell 0;have Bq:w1.cell? ⟨w.heap.size,1,none⟩=some (.bool s):=lL.out.cell 1;have rD:=ai (Hy.out.below hw1);have IM:w1.cell? ⟨w.heap.size+1,0,none⟩=some (.string (bs m)):=rD.out.cell 0;have IP:w1.cell? ⟨w.heap.size+1,1,none⟩=some (.bool s):=rD.out.cell 1;have iJ:=ai (Hr.out.below hw1);have Bb:w1.cell? ⟨w.heap.size+1+1,0,none⟩=some (.string (bs [])):=iJ.out.cell 0;have zL:w1.frozen? ⟨w.heap.size+1+1,0,none⟩=false:=iJ.out.free 0;have Bc:w1.cell? ⟨w.heap.size+1+1,1,none⟩=some (.bool false):=iJ.out.cell 1;have zM:w1.frozen? ⟨w.heap.size+1+1,1,none⟩=false:=iJ.out.free 1))
 replace Hb:=ai (aJ Hb.out hw1);clear hw1 x0 x1 y0 y1 r0 aj r1 ak;replace Hx:=lL;clear Bo Bq;replace Hy:=rD;clear IM IP;replace Hr:=iJ;clear Bb zL Bc zM;obtain⟨x0,x1⟩:=Hx.out.c2;obtain⟨y0,y1⟩:=Hy.out.c2;obtain⟨r0,aj,r1,ak⟩:=Hr.out.g2;go_wp2;exact bodyPost_ret (v:=.agg #[.string (bs (nt (nv l+nv m))),.bool s]) (by simp[results,Tryz.results113,go_sem,r0,r1]) rfl ⟨rfl,df⟩
theorem acH (l m:List UInt8)(w:World)(hl:l.length<=68719476736)(hm:m.length<=68719476736):
 Calls Tryz.prog 164 #[ah l,ah m] w λe w'=>e=.returned (af (dI (nv l) (nv m)))/\Bw w w':=by
 go_enter Tryz.func164,Tryz.ntmps164;have Hb:Hid (Bw w w):=Below.refl _ _;go_wp2_with fail;refine(aoa l m _ hl hm).mono ?_;rintro e w1 ⟨rfl,ae⟩;replace Hb:=aB Hb ae;clear ae;go_wp2;go_ret;exact⟨rfl,Hb.out⟩
theorem ao1 (l m:List UInt8)(s:Bool)(w:World)(hl:l.length<=68719476736)(hm:m.length<=68719476736)(h:nv m<=nv l):
 Calls Tryz.prog 113 #[.agg #[ah l,ag s],.agg #[ah m,ag (!s)]] w λe w'=>e=.returned (.agg #[ah (nt (nv l-nv m)),ag s])/\Bw w w':=by
 have hc0:0<=dI (nv l) (nv m):=by unfold dI;rw[if_neg zo];split<;>omega
 have hss:(s== !s)=false:=by cases s<;>rfl
 have Hh:=ai h;clear h;go_enter Tryz.func113,Tryz.ntmps113;have Hb:Hid (Bw w w):=Below.refl _ _;go_wp2_with fail;obtain⟨R,hR⟩:∃R:World->Prop,(λW=>ar W (w.heap.size) 112 [ah l,ag s]/\ar W (w.heap.size+1) 112 [ah m,ag (!s)]/\ar W (w.heap.size+1+1) 112 [.string (bs []),ag false]/\Bw w W)=R:=⟨_,rfl⟩;first|refine cf R ?hR ?_|refine bZ R ?hR ?_
 case hR=>subst hR;exact⟨(((ar.newAt w _ _ (b:=w.heap.size) rfl).alloc _).alloc _),((ar.newAt (w.alloc _) _ _ (b:=w.heap.size+1) zm).alloc _),(ar.newAt ((w.alloc _).alloc _) _ _ (b:=w.heap.size+1+1) zm),((zl.alloc zj _).alloc zj _)⟩
 subst hR;rintro W ⟨qx,qy,qr,ae⟩;have Hx:=ai qx;clear qx;have Hy:=ai qy;clear qy;have Hr:=ai qr;clear qr;obtain⟨x0,x1⟩:=Hx.out.c2;obtain⟨y0,y1⟩:=Hy.out.c2;obtain⟨r0,aj,r1,ak⟩:=Hr.out.g2;replace Hb:=aB Hb ae;clear ae;go_wp2_with fail;refine(acH l m _ hl hm).mono ?_;rintro e w1 ⟨rfl,ae⟩;clear x0 x1 y0 y1 r0 aj r1 ak;obtain⟨Hx,x0,x1⟩:=aR Hx ae;obtain⟨Hy,y0,y1⟩:=aR Hy ae;obtain⟨Hr,r0,aj,r1,ak⟩:=bE Hr ae;replace Hb:=aB Hb ae;clear ae;go_wp2_with fail;refine(abL l m _ hl hm Hh.out).mono ?_;rintro e w2 ⟨rfl,ae⟩;clear x0 x1 y0 y1 r0 aj r1 ak;obtain⟨Hx,x0,x1⟩:=aR Hx ae;obtain⟨Hy,y0,y1⟩:=aR Hy ae;obtain⟨Hr,r0,aj,r1,ak⟩:=bE Hr ae;replace Hb:=aB Hb ae;clear ae;go_wp2;exact bodyPost_ret (v:=.agg #[ah (nt (nv l-nv m)),ag s]) (by simp[results,Tryz.results113,go_sem,r0,r1]) rfl ⟨rfl,df⟩
theorem ao2 (l m:List UInt8)(s:Bool)(w:World)(hl:l.length<=68719476736)(hm:m.length<=68719476736)(h:nv l<nv m):
 Calls Tryz.prog 113 #[.agg #[ah l,ag s],.agg #[ah m,ag (!s)]] w λe w'=>e=.returned (.agg #[ah (nt (nv m-nv l)),ag (!s)])/\Bw w w':=by
 have hc0:dI (nv l) (nv m)<0:=by unfold dI;rw[if_pos h];omega
 have hss:(s== !s)=false:=by cases s<;>rfl
 have Hh:=ai (Nat.le_of_lt h);clear h;go_enter Tryz.func113,Tryz.ntmps113;have Hb:Hid (Bw w w):=Below.refl _ _;go_wp2_with fail;obtain⟨R,hR⟩:∃R:World->Prop,(λW=>ar W (w.heap.size) 112 [ah l,ag s]/\ar W (w.heap.size+1) 112 [ah m,ag (!s)]/\ar W (w.heap.size+1+1) 112 [.string (bs []),ag false]/\Bw w W)=R:=⟨_,rfl⟩;first|refine cf R ?hR ?_|refine bZ R ?hR ?_
 case hR=>subst hR;exact⟨(((ar.newAt w _ _ (b:=w.heap.size) rfl).alloc _).alloc _),((ar.newAt (w.alloc _) _ _ (b:=w.heap.size+1) zm).alloc _),(ar.newAt ((w.alloc _).alloc _) _ _ (b:=w.heap.size+1+1) zm),((zl.alloc zj _).alloc zj _)⟩
 subst hR;rintro W ⟨qx,qy,qr,ae⟩;have Hx:=ai qx;clear qx;have Hy:=ai qy;clear qy;have Hr:=ai qr;clear qr;obtain⟨x0,aY,x1,aZ⟩:=Hx.out.g2;obtain⟨y0,aS,y1,aV⟩:=Hy.out.g2;obtain⟨r0,aj,r1,ak⟩:=Hr.out.g2;replace Hb:=aB Hb ae;clear ae;go_wp2_with fail;refine(acH l m _ hl hm).mono ?_;rintro e w1 ⟨rfl,ae⟩;clear x0 aY x1 aZ y0 aS y1 aV r0 aj r1 ak;obtain⟨Hx,x0,aY,x1,aZ⟩:=bE Hx ae;obtain⟨Hy,y0,aS,y1,aV⟩:=bE Hy ae;obtain⟨Hr,r0,aj,r1,ak⟩:=bE Hr ae;replace Hb:=aB Hb ae;clear ae;go_wp2_with fail;clear x0 aY x1 aZ y0 aS y1 aV r0 aj r1 ak;obtain⟨R,hR⟩:∃R:World->Prop,(λw2=>ar w2 (w.heap.size) 112 [ah m,ag (!s)]/\ar w2 (w.heap.size+1) 112 [ah l,ag s]/\ar w2 (w.heap.size+1+1) 112 [.string (bs []),ag false]/\Bw w w2)=R:=⟨_,rfl⟩;first|refine cf R ?hR ?_|refine bZ R ?hR ?_
 case hR=>subst hR;exact⟨((((Hx.out.set 0 _).set 1 _).so (w.heap.size+1) 0 zo _).so (w.heap.size+1) 1 zo _),((((Hy.out.so (w.heap.size) 0 zo _).so (w.heap.size) 1 zo _).set 0 _).set 1 _),((((Hr.out.so (w.heap.size) 0 zo _).so (w.heap.size) 1 zo _).so (w.heap.size+1) 0 zo _).so (w.heap.size+1) 1 zo _),((((Hb.out.sc (w.heap.size) 0 ZS _).sc (w.heap.size) 1 ZS _).sc (w.heap.size+1) 0 ZS _).sc (w.heap.size+1) 1 ZS _)⟩
 subst hR;rintro w2 ⟨qx,qy,qr,ae⟩;replace Hx:=ai qx;clear qx;replace Hy:=ai qy;clear qy;replace Hr:=ai qr;clear qr;obtain⟨x0,aY,x1,aZ⟩:=Hx.out.g2;obtain⟨y0,aS,y1,aV⟩:=Hy.out.g2;obtain⟨r0,aj,r1,ak⟩:=Hr.out.g2;replace Hb:=ai ae;clear ae;go_wp2_with fail;refine(abL m l _ hm hl Hh.out).mono ?_;rintro e w3 ⟨rfl,ae⟩;clear x0 aY x1 aZ y0 aS y1 aV r0 aj r1 ak;obtain⟨Hx,x0,aY,x1,aZ⟩:=bE Hx ae;obtain⟨Hy,y0,aS,y1,aV⟩:=bE Hy ae;obtain⟨Hr,r0,aj,r1,ak⟩:=bE Hr ae;replace Hb:=aB Hb ae;clear ae;go_wp2;exact bodyPost_ret (v:=.agg #[ah (nt (nv m-nv l)),ag (!s)]) (by simp[results,Tryz.results113,go_sem,r0,r1]) rfl ⟨rfl,df⟩
def wu (s:Bool)(l:List UInt8)(t:Bool)(m:List UInt8):Bool:=if s==t then s else if nv l<nv m then t else s
theorem ao9 (s:Bool)(l:List UInt8)(t:Bool)(m:List UInt8):iv (wu s l t m) (nt (iv s l+iv t m).natAbs)=iv s l+iv t m:=by unfold wu iv;rw[jJ];cases s<;>cases t<;>simp<;>(try split)<;>omega
theorem ao0 (l m:List UInt8)(s t:Bool)(w:World)(hl:l.length<=68719476736)(hm:m.length<=68719476736):
 Calls Tryz.prog 113 #[.agg #[ah l,ag s],.agg #[ah m,ag t]] w λe w'=>e=.returned (.agg #[ah (nt (iv s l+iv t m).natAbs),ag (wu s l t m)])/\Bw w w':=by
 by_cases hst:s=t
 . subst hst;have e:(iv s l+iv s m).natAbs=nv l+nv m:=by unfold iv;split<;>omega
   rw[e,show wu s l s m=s by simp[wu]];exact ao4 l m s w hl hm
 . obtain rfl:t= !s:=by cases s<;>cases t<;>simp_all
   by_cases h:nv l<nv m
   . have e:(iv s l+iv (!s) m).natAbs=nv m-nv l:=by unfold iv;cases s<;>simp<;>omega
     rw[e,show wu s l (!s) m= !s by cases s<;>simp[wu,h]];exact ao2 l m s w hl hm h
   . have e:(iv s l+iv (!s) m).natAbs=nv l-nv m:=by unfold iv;cases s<;>simp<;>omega
     rw[e,show wu s l (!s) m=s by cases s<;>simp[wu,h]];exact ao1 l m s w hl hm zo
theorem ari (l m:List UInt8)(s t:Bool)(w:World)(hl:l.length<=68719476736)(hm:m.length<=68719476736):
 Calls Tryz.prog 136 #[.agg #[.string (bs l),.bool s],.agg #[.string (bs m),.bool t]] w λe w'=>e=.returned (.agg #[.string (bs (nt (nv l*nv m))),.bool (!(s==t))])/\Bw w w':=by
 go_enter Tryz.func136,Tryz.ntmps136;have Hb:Hid (Bw w w):=Below.refl _ _;go_wp2_with fail;obtain⟨R,hR⟩:∃R:World->Prop,(λW=>ar W (w.heap.size) 112 [.string (bs l),.bool s]/\ar W (w.heap.size+1) 112 [.string (bs m),.bool t]/\ar W (w.heap.size+1+1) 112 [.string (bs []),.bool false]/\Bw w W)=R:=⟨_,rfl⟩;first|refine cf R ?hR ?_|refine bZ R ?hR ?_
 case hR=>subst hR;exact⟨(((ar.newAt w _ _ (b:=w.heap.size) rfl).alloc _).alloc _),((ar.newAt (w.alloc _) _ _ (b:=w.heap.size+1) zm).alloc _),(ar.newAt ((w.alloc _).alloc _) _ _ (b:=w.heap.size+1+1) zm),((zl.alloc zj _).alloc zj _)⟩
 subst hR;rintro W ⟨qx,qy,qr,ae⟩;have Hx:=ai qx;clear qx;have Hy:=ai qy;clear qy;have Hr:=ai qr;clear qr;obtain⟨x0,x1⟩:=Hx.out.c2;obtain⟨y0,y1⟩:=Hy.out.c2;obtain⟨r0,aj,r1,ak⟩:=Hr.out.g2;replace Hb:=aB Hb ae;clear ae;have Sp:w.heap.size≠w.heap.size+1+1:=by omega
 have ney:w.heap.size+1≠w.heap.size+1+1:=by omega
 go_region_held3 (λw'=>w'.cell? ⟨w.heap.size,0,none⟩=some (.string (bs l))/\w'.cell? ⟨w.heap.size,1,none⟩=some (.bool s)/\w'.cell? ⟨w.heap.size+1,0,none⟩=some (.string (bs m))/\w'.cell? ⟨w.heap.size+1,1,none⟩=some (.bool t)) (((try dsimp only);go_split_ands;(repeat' apply And.intro)<;>(first|exact True.intro|with_reducible assumption| ((with_reducible refine gG zg ?_);(repeat(with_reducible refine gG zg ?_));with_reducible assumption) |exact cell_later (by with_reducible assumption) (by with_reducible assumption) |exact aL (by with_reducible assumption) |go_keep))) (first| (go_at_call 177;(with_reducible refine(aoe l m _ hl hm).mono ?_);rintro e w1 ⟨rfl,hq⟩;have hw1:Bw W w1:=(by first|exact aW hq|exact hq|exact rE hq|exact sQ hq|exact vA hq);clear hq;have lL:=ai (Hx.out.below hw1);have Bo:w1.cell? ⟨w.heap.size,0,none⟩=some (.string (bs l)):=lL.out.cell 0;have Bq:w1.cell? ⟨w.heap.size,1,none⟩=some (.bool s):=lL.out.cell 1;have rD:=ai (Hy.out.below hw1);have IM:w1.cell? ⟨w.heap.size+1,0,none⟩=some (.string (bs m)):=rD.out.cell 0;have IP:w1.cell? ⟨w.heap.size+1,1,none⟩=some (.bool t):=rD.out.cell 1;have iJ:=ai (Hr.out.below hw1);have Bb:w1.cell? ⟨w.heap.size+1+1,0,none⟩=some (.string (bs [])):=iJ.out.cell 0;have zL:w1.frozen? ⟨w.heap.size+1+1,0,none⟩=false:=iJ.out.free 0;have Bc:w1.cell? ⟨w.heap.size+1+1,1,none⟩=some (.bool false):=iJ.out.cell 1;have zM:w1.frozen? ⟨w.heap.size+1+1,1,none⟩=false:=iJ.out.free 1))
 replace Hb:=ai (aJ Hb.out hw1);clear hw1 x0 x1 y0 y1 r0 aj r1 ak;replace Hx:=lL;clear Bo Bq;replace Hy:=rD;clear IM IP;replace Hr:=iJ;clear Bb zL Bc zM;obtain⟨x0,x1⟩:=Hx.out.c2;obtain⟨y0,y1⟩:=Hy.out.c2;obtain⟨r0,aj,r1,ak⟩:=Hr.out.g2;go_wp2;exact bodyPost_ret (v:=.agg #[.string (bs (nt (nv l*nv m))),.bool (!(s==t))]) (by simp[results,Tryz.results136,go_sem,r0,r1]) rfl ⟨rfl,df⟩
theorem amE (s:Bool)(l:List UInt8)(t:Bool)(m:List UInt8):iv (!(s==t)) (nt (nv l*nv m))=iv s l*iv t m:=by unfold iv;rw[jJ];cases s<;>cases t<;>simp[Int.natCast_mul,Int.neg_mul,Int.mul_neg]
theorem TC (n:Int)(w:World)(h0: -9223372036854775808<=n)(h1:n<=9223372036854775807):
 Calls Tryz.prog 36 #[af n] w λe w'=>e=.returned (cX n)/\Bw w w':=by
 have hb:n.natAbs<WW:=by rw[kd];omega
 have hlen:(nt n.natAbs).length<=8:=jr (by rw[kd]at hb;omega);have jy:=ai hb;clear hb;by_cases hn:n<0
 . have vM:IntKind.u64.wrap (-(IntKind.u64.wrap n))=(n.natAbs:Int):=by simp only[IntKind.wrap_u64];omega
   have oI:Hid (iv true (nt n.natAbs)=n):=by show iv _ _=_;unfold iv;rw[jJ];simp;omega
   go_enter Tryz.func36,Tryz.ntmps36;have Hb:Hid (Bw w w):=Below.refl _ _;go_wp2_with fail;obtain⟨R,hR⟩:∃R:World->Prop,(λW=>ar W (w.heap.size) 32 [ag false,.string (bs [])]/\Bw w W)=R:=⟨_,rfl⟩;first|refine cf R ?hR ?_|refine bZ R ?hR ?_
   case hR=>subst hR;exact⟨(ar.newAt w _ _ (b:=w.heap.size) rfl),zl⟩
   subst hR;rintro W ⟨qr,ae⟩;have Hr:=ai qr;clear qr;obtain⟨r0,aj,r1,ak⟩:=Hr.out.g2;replace Hb:=aB Hb ae;clear ae;go_wp2_with fail;refine(abK n.natAbs jy.out _).mono ?_;rintro e w1 ⟨rfl,ae⟩;clear r0 aj r1 ak;obtain⟨Hr,r0,aj,r1,ak⟩:=bE Hr ae;replace Hb:=aB Hb ae;clear ae;go_wp2_with fail;refine(ye (nt n.natAbs) true _ zo).mono ?_;rintro e w2 ⟨rfl,ae⟩;clear r0 aj r1 ak;obtain⟨Hr,r0,aj,r1,ak⟩:=bE Hr ae;replace Hb:=aB Hb ae;clear ae;rw[oI.out];go_wp2;exact bodyPost_ret (v:=cX n) (by simp[results,Tryz.results36,go_sem,r0,r1]) rfl ⟨rfl,df⟩
 . have vM:IntKind.u64.wrap n=(n.natAbs:Int):=by simp only[IntKind.wrap_u64];omega
   have oI:Hid (iv false (nt n.natAbs)=n):=by show iv _ _=_;unfold iv;rw[jJ];simp;omega
   go_enter Tryz.func36,Tryz.ntmps36;have Hb:Hid (Bw w w):=Below.refl _ _;go_wp2_with fail;obtain⟨R,hR⟩:∃R:World->Prop,(λW=>ar W (w.heap.size) 32 [ag false,.string (bs [])]/\Bw w W)=R:=⟨_,rfl⟩;first|refine cf R ?hR ?_|refine bZ R ?hR ?_
   case hR=>subst hR;exact⟨(ar.newAt w _ _ (b:=w.heap.size) rfl),zl⟩
   subst hR;rintro W ⟨qr,ae⟩;have Hr:=ai qr;clear qr;obtain⟨r0,aj,r1,ak⟩:=Hr.out.g2;replace Hb:=aB Hb ae;clear ae;go_wp2_with fail;refine(abK n.natAbs jy.out _).mono ?_;rintro e w1 ⟨rfl,ae⟩;clear r0 aj r1 ak;obtain⟨Hr,r0,aj,r1,ak⟩:=bE Hr ae;replace Hb:=aB Hb ae;clear ae;go_wp2_with fail;refine(ye (nt n.natAbs) false _ zo).mono ?_;rintro e w2 ⟨rfl,ae⟩;clear r0 aj r1 ak;obtain⟨Hr,r0,aj,r1,ak⟩:=bE Hr ae;replace Hb:=aB Hb ae;clear ae;rw[oI.out];go_wp2;exact bodyPost_ret (v:=cX n) (by simp[results,Tryz.results36,go_sem,r0,r1]) rfl ⟨rfl,df⟩
theorem Bj (s:Bool)(l:List UInt8)(w:World)(hl:l.length<=1099511627776):
 Calls Tryz.prog 115 #[.agg #[ag s,ah l]] w λe w'=>e=.returned (cX (iv s l))/\Bw w w':=by
 go_enter Tryz.func115,Tryz.ntmps115;have Hb:Hid (Bw w w):=Below.refl _ _;go_wp2_with fail;obtain⟨R,hR⟩:∃R:World->Prop,(λW=>ar W (w.heap.size) 32 [ag s,ah l]/\ar W (w.heap.size+1) 32 [ag false,.string (bs [])]/\Bw w W)=R:=⟨_,rfl⟩;first|refine cf R ?hR ?_|refine bZ R ?hR ?_
 case hR=>subst hR;exact⟨((ar.newAt w _ _ (b:=w.heap.size) rfl).alloc _),(ar.newAt (w.alloc _) _ _ (b:=w.heap.size+1) zm),(zl.alloc zj _)⟩
 subst hR;rintro W ⟨qx,qr,ae⟩;have Hx:=ai qx;clear qx;have Hr:=ai qr;clear qr;obtain⟨x0,x1⟩:=Hx.out.c2;obtain⟨r0,aj,r1,ak⟩:=Hr.out.g2;replace Hb:=aB Hb ae;clear ae;go_wp2_with fail;refine(Mw l s _).mono ?_;rintro e w1 ⟨rfl,ae⟩;clear x0 x1 r0 aj r1 ak;obtain⟨Hx,x0,x1⟩:=aR Hx ae;obtain⟨Hr,r0,aj,r1,ak⟩:=bE Hr ae;replace Hb:=aB Hb ae;clear ae;go_wp2_with fail;refine(ye l s _ hl).mono ?_;rintro e w2 ⟨rfl,ae⟩;clear x0 x1 r0 aj r1 ak;obtain⟨Hx,x0,x1⟩:=aR Hx ae;obtain⟨Hr,r0,aj,r1,ak⟩:=bE Hr ae;replace Hb:=aB Hb ae;clear ae;go_wp2;exact bodyPost_ret (v:=cX (iv s l)) (by simp[results,Tryz.results115,go_sem,r0,r1]) rfl ⟨rfl,df⟩
def eQ (n:Int):Int:=if n<0 then-1 else if n=0 then 0 else 1
theorem IJ (s:Bool)(l:List UInt8)(w:World)(hl:l.length<=1099511627776):
 Calls Tryz.prog 69 #[.agg #[ag s,ah l]] w λe w'=>e=.returned (af (eQ (iv s l)))/\Bw w w':=by
 have hne:=vB (nt (iv s l).natAbs);by_cases hneg:iv s l<0
 . have hs:au (iv s l)=true:=by simp[au,hneg]
   have gZ:Hid (eQ (iv s l)= -1):=by show eQ _=_;simp[eQ,hneg]
   clear hneg hne;go_enter Tryz.func69,Tryz.ntmps69;have Hb:Hid (Bw w w):=Below.refl _ _;go_wp2_with fail;obtain⟨R,hR⟩:∃R:World->Prop,(λW=>ar W (w.heap.size) 32 [ag s,ah l]/\Bw w W)=R:=⟨_,rfl⟩;first|refine cf R ?hR ?_|refine bZ R ?hR ?_
   case hR=>subst hR;exact⟨(ar.newAt w _ _ (b:=w.heap.size) rfl),zl⟩
   subst hR;rintro W ⟨qx,ae⟩;have Hx:=ai qx;clear qx;obtain⟨x0,x1⟩:=Hx.out.c2;replace Hb:=aB Hb ae;clear ae;go_wp2_with fail;refine(Bj s l _ hl).mono ?_;rintro e w1 ⟨rfl,ae⟩;clear x0 x1;obtain⟨Hx,x0,x1⟩:=aR Hx ae;replace Hb:=aB Hb ae;clear ae;go_wp2;go_ret;rw[gZ.out];refine⟨rfl,?_⟩;exact Hb.out.alloc Hb.out.size _
 . have hs:au (iv s l)=false:=by simp[au,hneg]
   by_cases hz:iv s l=0
   . have gZ:Hid (eQ (iv s l)=0):=by show eQ _=_;simp[eQ,hz]
     have alX:(bs (nt (iv s l).natAbs)).toList.isEmpty=true:=by rw[hne,hz];rfl
     clear hneg hne hz;go_enter Tryz.func69,Tryz.ntmps69;have Hb:Hid (Bw w w):=Below.refl _ _;go_wp2_with fail;obtain⟨R,hR⟩:∃R:World->Prop,(λW=>ar W (w.heap.size) 32 [ag s,ah l]/\Bw w W)=R:=⟨_,rfl⟩;first|refine cf R ?hR ?_|refine bZ R ?hR ?_
     case hR=>subst hR;exact⟨(ar.newAt w _ _ (b:=w.heap.size) rfl),zl⟩
     subst hR;rintro W ⟨qx,ae⟩;have Hx:=ai qx;clear qx;obtain⟨x0,x1⟩:=Hx.out.c2;replace Hb:=aB Hb ae;clear ae;go_wp2_with fail;refine(Bj s l _ hl).mono ?_;rintro e w1 ⟨rfl,ae⟩;clear x0 x1;obtain⟨Hx,x0,x1⟩:=aR Hx ae;replace Hb:=aB Hb ae;clear ae;go_wp2;go_ret;rw[gZ.out];refine⟨rfl,?_⟩;exact Hb.out.alloc Hb.out.size _
   . have gZ:Hid (eQ (iv s l)=1):=by show eQ _=_;simp[eQ,hz,hneg]
     have alX:(bs (nt (iv s l).natAbs)).toList.isEmpty=false:=by
      rw[hne];cases hq:nt (iv s l).natAbs with
      |nil=>rw[Sr]at hq;omega
      |cons a b=>rfl
     clear hneg hne hz;go_enter Tryz.func69,Tryz.ntmps69;have Hb:Hid (Bw w w):=Below.refl _ _;go_wp2_with fail;obtain⟨R,hR⟩:∃R:World->Prop,(λW=>ar W (w.heap.size) 32 [ag s,ah l]/\Bw w W)=R:=⟨_,rfl⟩;first|refine cf R ?hR ?_|refine bZ R ?hR ?_
     case hR=>subst hR;exact⟨(ar.newAt w _ _ (b:=w.heap.size) rfl),zl⟩
     subst hR;rintro W ⟨qx,ae⟩;have Hx:=ai qx;clear qx;obtain⟨x0,x1⟩:=Hx.out.c2;replace Hb:=aB Hb ae;clear ae;go_wp2_with fail;refine(Bj s l _ hl).mono ?_;rintro e w1 ⟨rfl,ae⟩;clear x0 x1;obtain⟨Hx,x0,x1⟩:=aR Hx ae;replace Hb:=aB Hb ae;clear ae;go_wp2;go_ret;rw[gZ.out];refine⟨rfl,?_⟩;exact Hb.out.alloc Hb.out.size _
theorem amF (s:Bool)(l:List UInt8):iv (!s) l= -(iv s l):=by unfold iv;cases s<;>simp
theorem adB (s:Bool)(l:List UInt8)(w:World)(hl:l.length<=1099511627776):
 Calls Tryz.prog 78 #[.agg #[ag s,ah l]] w λe w'=>e=.returned (cX (-(iv s l)))/\Bw w w':=by
 rw[<-amF];go_enter Tryz.func78,Tryz.ntmps78;have Hb:Hid (Bw w w):=Below.refl _ _;go_wp2_with fail;obtain⟨R,hR⟩:∃R:World->Prop,(λW=>ar W (w.heap.size) 32 [ag s,ah l]/\ar W (w.heap.size+1) 32 [ag false,.string (bs [])]/\Bw w W)=R:=⟨_,rfl⟩;first|refine cf R ?hR ?_|refine bZ R ?hR ?_
 case hR=>subst hR;exact⟨((ar.newAt w _ _ (b:=w.heap.size) rfl).alloc _),(ar.newAt (w.alloc _) _ _ (b:=w.heap.size+1) zm),(zl.alloc zj _)⟩
 subst hR;rintro W ⟨qx,qr,ae⟩;have Hx:=ai qx;clear qx;have Hr:=ai qr;clear qr;obtain⟨x0,x1⟩:=Hx.out.c2;obtain⟨r0,aj,r1,ak⟩:=Hr.out.g2;replace Hb:=aB Hb ae;clear ae;go_wp2_with fail;refine(ye l (!s) _ hl).mono ?_;rintro e w1 ⟨rfl,ae⟩;clear x0 x1 r0 aj r1 ak;obtain⟨Hx,x0,x1⟩:=aR Hx ae;obtain⟨Hr,r0,aj,r1,ak⟩:=bE Hr ae;replace Hb:=aB Hb ae;clear ae;go_wp2;exact bodyPost_ret (v:=cX (iv (!s) l)) (by simp[results,Tryz.results78,go_sem,r0,r1]) rfl ⟨rfl,df⟩
def LD (x:Bool×List UInt8):List Value:=[ag x.1,ah x.2]
def mr (xs:List (Bool×List UInt8)):Int:=(xs.map λx=>iv x.1 x.2).sum
theorem amD (xs:List (Bool×List UInt8))(k:Nat)(hk:k<xs.length):mr (xs.take (k+1))=mr (xs.take k)+iv xs[k].1 xs[k].2:=by unfold mr;rw[List.take_succ_eq_append_getElem hk,List.map_append,List.sum_append];simp
theorem amC (xs:List (Bool×List UInt8))(B:Nat)(h:∀x∈xs,x.2.length<=B):(mr xs).natAbs<=xs.length*256^B:=by
 unfold mr;induction xs with
 |nil=>simp
 |cons x xs ih=>have h1:=gL x.2;have h2:256^x.2.length<=256^B:=Nat.pow_le_pow_right zd (h x zm);have h3:=ih (λm hm=>h m (by simp[hm]));have h4:=pk x.1 x.2;simp only[List.map_cons,List.sum_cons,List.length_cons];rw[Nat.add_mul,Nat.one_mul];omega
theorem amB (xs:List (Bool×List UInt8))(B N:Nat)(h:∀x∈xs,x.2.length<=B)(hx:xs.length<=1048576)(hN:B+3<=N):(nt (mr xs).natAbs).length<=N:=by refine jr (Nat.lt_of_le_of_lt (amC xs _ h) ?_);refine Nat.lt_of_le_of_lt (Nat.mul_le_mul_right _ hx) ?_;rw[show(1048576:Nat) *256^B=2^20*256^B from rfl,show(256:Nat)=2^8 from rfl,<-Nat.pow_mul,<-Nat.pow_mul,<-Nat.pow_add];exact Nat.pow_lt_pow_right zd zo
theorem amA (xs:List (Bool×List UInt8))(h:∀x∈xs,x.2.length<=34359738368)(hx:xs.length<=1048576):(nt (mr xs).natAbs).length<=68719476736:=
 amB xs 34359738368 68719476736 h hx zd
theorem arG (xs:List (Bool×List UInt8))(a:Option Addr)(cap:Nat)(w:World)(hl:∀x∈xs,x.2.length<=34359738368)(hx:xs.length<=1048576)
 (ha:At w a (xs.flatMap LD)):
 Calls Tryz.prog 68 #[.slice a xs.length cap] w λe w'=>e=.returned (cX (mr xs))/\Bw w w':=by
 have Hl:=ai hl;clear hl;have Ha:=ai ha;clear ha;have yA:Hid (∀k,(nt (mr (xs.take k)).natAbs).length<=68719476736):=λk=>amA _ (λx hm=>Hl.out x (List.mem_of_mem_take hm)) (by rw[List.length_take];omega);go_enter Tryz.func68,Tryz.ntmps68;have Hb:Hid (Bw w w):=Below.refl _ _;go_wp2_with fail;obtain⟨R,hR⟩:∃R:World->Prop,(λW=>ar W (w.heap.size) 32 [ag false,.string (bs [])]/\ar W (w.heap.size+1) 112 [.string (bs []),ag false]/\Bw w W)=R:=⟨_,rfl⟩;first|refine cf R ?hR ?_|refine bZ R ?hR ?_
 case hR=>subst hR;exact⟨((ar.newAt w _ _ (b:=w.heap.size) rfl).alloc _),(ar.newAt (w.alloc _) _ _ (b:=w.heap.size+1) zm),(zl.alloc zj _)⟩
 subst hR;rintro W ⟨qr,qs,ae⟩;have Hr:=ai qr;clear qr;have Hs:=ai qs;clear qs;obtain⟨r0,aj,r1,ak⟩:=Hr.out.g2;obtain⟨s0,bf,s1,bg⟩:=Hs.out.g2;replace Hb:=aB Hb ae;clear ae
 go_loopw[5,8] (λ_ i wr=>∃(k:Nat) (t:Bool),k<=xs.length/\i=af k/\iv t (nt (mr (xs.take k)).natAbs)=mr (xs.take k)/\ar wr w.heap.size 32 [ag false,.string (bs [])]/\
  ar wr (w.heap.size+1) 112 [ah (nt (mr (xs.take k)).natAbs),ag t]/\Bw w wr) (λ_ i _=>xs.length-(intOf i).toNat)
 case atStart=>exact⟨0,false,Nat.zero_le _,rfl,rfl,Hr.out,Hs.out,Hb.out⟩
 case round=>
  obtain⟨k,t,hk,rfl,uD,qr,qs,hb⟩:=hrel;obtain⟨Hr,Hs,Hb,oI⟩:=dx qr qs hb uD;clear qr qs hb uD;by_cases hlt:k<xs.length
  . obtain⟨b,o,hab,hcs⟩:=(Ha.out.below Hb.out).elem (f:=LD) (sz:=2) (λ_=>rfl) zd k hlt;have hc0:wr.cell? ⟨b,o+k*2,none⟩=some (ag xs[k].1):=hcs 0 zd;have hc1:wr.cell? ⟨b,o+k*2+1,none⟩=some (.string (bs xs[k].2)):=hcs 1 zd;have bK:=vX xs.length cap k (k:Int) hab hlt rfl;have bX:=ai (amD xs k hlt);have lG:Hid (xs[k].2.length<=34359738368):=Hl.out _ (List.getElem_mem hlt);have kX:=ai (yA.out k);clear hcs hab;generalize xs[k]=x at*;obtain⟨t1,l1⟩:=x;generalize hS:mr (xs.take k)=S at*;have HS:=ai hS;clear hS;obtain⟨r0,aj,r1,ak⟩:=Hr.out.g2;obtain⟨s0,bf,s1,bg⟩:=Hs.out.g2;have GX:=Hr.out.lt;have Sb:=Hs.out.lt;go_wp2_with fail;obtain⟨R,hR⟩:∃R:World->Prop,(λW1=>ar W1 (wr.heap.size) 32 [ag t1,ah l1]/\Bw wr W1)=R:=⟨_,rfl⟩;first|refine cf R ?hR ?_|refine bZ R ?hR ?_
    case hR=>subst hR;exact⟨(ar.newAt wr _ _ (b:=wr.heap.size) rfl),zl⟩
    subst hR;rintro W1 ⟨qa,ae⟩;have Ha:=ai qa;clear qa r0 aj r1 ak;obtain⟨Hr,r0,aj,r1,ak⟩:=bE Hr ae;clear s0 bf s1 bg;obtain⟨Hs,s0,bf,s1,bg⟩:=bE Hs ae;obtain⟨a0,a1⟩:=Ha.out.c2;replace Hb:=aB Hb ae;clear ae;go_region_with (first| (go_at_call 114;refine(Mw l1 t1 _).mono ?_;rintro e w1 ⟨rfl,hq⟩;have hw1:Bw W1 w1:=aW hq;clear hq;have SX:w1.cell? ⟨w.heap.size+1,0,none⟩=some (ah (nt S.natAbs)):=cell_later hw1 s0;have SY:w1.cell? ⟨w.heap.size+1,1,none⟩=some (ag t):=cell_later hw1 s1;have akD:=(Hs.out.below hw1).free 0;have akF:=(Hs.out.below hw1).free 1) | (go_at_call 113;refine(ao0 (nt S.natAbs) l1 t t1 _ kX.out (by have:=lG.out;omega)).mono ?_;rintro e w2 ⟨rfl,hw2⟩;have ap9:=cell_later hw2 SX;have aqe:=cell_later hw2 SY;have akE:=((Hs.out.below hw1).below hw2).free 0;have akG:=((Hs.out.below hw1).below hw2).free 1))
    all_goals
     go_wp2
     go_roundw
     case rel=>have hq:=ao9 t (nt S.natAbs) t1 l1;rw[oI.out,<-bX.out]at hq;rw[oI.out,<-bX.out];refine⟨k+1,_,by omega,by go_num,hq,((((Hr.out.below hw1).below hw2).aw3 ⟨w.heap.size+1,0,none⟩ zp _).aw3 ⟨w.heap.size+1,1,none⟩ zp _),((((Hs.out.below hw1).below hw2).set 0 _).set 1 _),?_⟩;exact((aJ (aJ Hb.out hw1) hw2).setCell zp _).setCell zp _
     case measure=>simp[intOf];omega
  . obtain rfl:k=xs.length:=by omega
    rw[List.take_length]at Hs oI;have kX:=yA.out xs.length;rw[List.take_length]at kX;obtain⟨r0,aj,r1,ak⟩:=Hr.out.g2;obtain⟨s0,bf,s1,bg⟩:=Hs.out.g2;go_wp2_with fail;refine(ye (nt (mr xs).natAbs) t _ zo).mono ?_;rintro e w1 ⟨rfl,ae⟩;clear r0 aj r1 ak s0 bf s1 bg;obtain⟨Hr,r0,aj,r1,ak⟩:=bE Hr ae;obtain⟨Hs,s0,bf,s1,bg⟩:=bE Hs ae;replace Hb:=aB Hb ae;clear ae;rw[oI.out];go_wp2;exact bodyPost_ret (v:=cX (mr xs)) (by simp[results,Tryz.results68,go_sem,r0,r1]) rfl ⟨rfl,df⟩
end Go.Proofs.YtoopepmmepmfnaaGreatDoor
namespace Go.Proofs.YtoopepmmepmfnaaGreatDoor
theorem Dy (n k:Int):(Dyadic.ofIntWithPrec n k).toRat=n*2^(-k):=Dyadic.toRat_ofIntWithPrec_eq_mul_two_pow
theorem apv :((2:Rat))≠0:=by decide
theorem AP (a b k:Int):Dyadic.ofIntWithPrec a k+Dyadic.ofIntWithPrec b k=Dyadic.ofIntWithPrec (a+b) k:=by rw[<-Dyadic.toRat_inj,Dyadic.toRat_add,Dy,Dy,Dy,Rat.intCast_add,Rat.add_mul]
theorem wj (a b j k:Int):Dyadic.ofIntWithPrec a j*Dyadic.ofIntWithPrec b k=Dyadic.ofIntWithPrec (a*b) (j+k):=by rw[<-Dyadic.toRat_inj,Dyadic.toRat_mul,Dy,Dy,Dy,Rat.intCast_mul,Int.neg_add,Rat.zpow_add apv];grind
theorem tO (a:Int)(n:Nat)(k:Int):Dyadic.ofIntWithPrec (a*2^n) (k+n)=Dyadic.ofIntWithPrec a k:=by have:=@Dyadic.ofIntWithPrec_shiftLeft_add a k n;rwa [Int.shiftLeft_eq]at this
theorem Ii (a k:Int): -Dyadic.ofIntWithPrec a k=Dyadic.ofIntWithPrec (-a) k:=Dyadic.neg_ofIntWithPrec
theorem yq (k:Int):Dyadic.ofIntWithPrec 0 k=0:=Dyadic.ofIntWithPrec_zero
abbrev Raw:=Bool ×List UInt8×Int
def az (x:Raw):Dyadic:=Dyadic.ofIntWithPrec (iv x.1 x.2.1) (-x.2.2)
def dN :Dyadic->Int
 | .zero=>0
 | .ofOdd n _ _=>n
def dE :Dyadic->Int
 | .zero=>0
 | .ofOdd _ k _=>-k
def canon (d:Dyadic):Raw:=(au (dN d),nt (dN d).natAbs,dE d)
theorem bD (d:Dyadic):az (canon d)=d:=by
 unfold az canon;simp only[eX];cases d with
 |zero=>rfl
 |ofOdd n k hn=>simp only[dN,dE,Int.neg_neg];exact(Dyadic.ofOdd_eq_ofIntWithPrec).symm
theorem WJ {n k:Int}(h:n≠0):dN (Dyadic.ofIntWithPrec n k)=n/2^n.trailingZeros/\dE (Dyadic.ofIntWithPrec n k)=n.trailingZeros-k:=by unfold Dyadic.ofIntWithPrec;rw[dif_neg h];simp only[dN,dE,Int.shiftRight_eq_div_pow];refine⟨by simp[Int.natCast_pow],by omega⟩
theorem OU :dN 0=0:=rfl
theorem ajr :dE 0=0:=rfl
def Sm (B:Nat)(d:Dyadic):Prop:=∃m:Int,d=Dyadic.ofIntWithPrec m B/\m.natAbs<2^(2*B)
theorem Sm.zero (B:Nat):Sm B 0:=⟨0,(yq _).symm,Nat.pow_pos zd⟩
theorem Sm.mono {A B:Nat}{d:Dyadic}(h:Sm A d)(Xt:A<=B):Sm B d:=by
 obtain⟨m,rfl,hm⟩:=h;obtain⟨j,rfl⟩:∃j,B=A+j:=⟨B-A,by omega⟩;refine⟨m*2^j,?_,?_⟩
 . rw[Int.natCast_add,tO]
 . rw[Int.natAbs_mul,Int.natAbs_pow];have:m.natAbs*2^j<2^(2*A) *2^j:=Nat.mul_lt_mul_of_pos_right hm (Nat.pow_pos zd);rw[<-Nat.pow_add]at this;exact Nat.lt_of_lt_of_le this (Nat.pow_le_pow_right zd zo)
theorem Sm.add {B:Nat}{a b:Dyadic}(ha:Sm B a)(hb:Sm B b):Sm (B+1) (a+b):=by
 obtain⟨m,rfl,hm⟩:=ha;obtain⟨n,rfl,hn⟩:=hb;refine⟨(m+n) *2^1,?_,?_⟩
 . rw[AP,Int.natCast_add];exact(tO _ 1 _).symm
 . rw[show 2* (B+1)=2*B+2 by omega,Nat.pow_add];omega
theorem Sm.neg {B:Nat}{a:Dyadic}(ha:Sm B a):Sm B (-a):=by obtain⟨m,rfl,hm⟩:=ha;exact⟨-m,Ii _ _,by omega⟩
theorem Sm.sub {B:Nat}{a b:Dyadic}(ha:Sm B a)(hb:Sm B b):Sm (B+1) (a-b):=ha.add hb.neg
theorem Sm.mul {A B:Nat}{a b:Dyadic}(ha:Sm A a)(hb:Sm B b):Sm (A+B) (a*b):=by
 obtain⟨m,rfl,hm⟩:=ha;obtain⟨n,rfl,hn⟩:=hb;refine⟨m*n,?_,?_⟩
 . rw[wj,Int.natCast_add]
 . rw[Int.natAbs_mul,Nat.mul_add,Nat.pow_add];exact Nat.mul_lt_mul'' hm hn
theorem arw {n:Int}(h:n≠0):2^n.trailingZeros<=n.natAbs:=by
 have hd:=Int.two_pow_trailingZeros_dvd h;have h2:(2^n.trailingZeros:Nat)∣n.natAbs:=by have:=Int.natAbs_dvd_natAbs.2 hd;rwa [Int.natAbs_pow]at this
 exact Nat.le_of_dvd zo h2
theorem Sm.parts {B:Nat}{d:Dyadic}(h:Sm B d):(dN d).natAbs<2^(2*B)/\ -(B:Int)<=dE d/\dE d<=B:=by
 obtain⟨m,rfl,hm⟩:=h;by_cases h0:m=0
 . subst h0;rw[yq,OU,ajr];exact⟨Nat.pow_pos zd,by omega,by omega⟩
 . obtain ⟨e1,e2⟩:=WJ (k:=B) h0;have h1:=arw h0;have h2:m.trailingZeros<2*B:=by
    rcases Nat.lt_or_ge m.trailingZeros (2*B)with h|h
    . exact h
    . have:=Nat.pow_le_pow_right (show 0<2 by decide) h;omega
   rw[e1,e2];refine⟨?_,by omega,by omega⟩;obtain⟨q,hq⟩:=Int.two_pow_trailingZeros_dvd h0;have hp:(2:Int)^m.trailingZeros≠0:=by
    have:((2^m.trailingZeros:Nat):Int)≠0:=by have:=Nat.pow_pos (n:=m.trailingZeros) (show 0<2 by decide);omega
    simpa[Int.natCast_pow]using this
   have e3:m/2^m.trailingZeros=q:=by
    conv=>lhs;lhs;rw[hq]
    exact Int.mul_ediv_cancel_left _ hp
   rw[e3];have e4:m.natAbs=2^m.trailingZeros*q.natAbs:=by
    conv=>lhs;rw[hq]
    rw[Int.natAbs_mul,Int.natAbs_pow];rfl
   have:=Nat.pow_pos (n:=m.trailingZeros) (show 0<2 by decide);have:q.natAbs<=2^m.trailingZeros*q.natAbs:=Nat.le_mul_of_pos_left _ this;omega
def Ok (x:Raw):Prop:=x.2.1.length<=268435456/\ -268435456<=x.2.2/\x.2.2<=268435456
theorem jS {n k N:Nat}(h:n<2^k)(hN:k<=8*N):(nt n).length<=N:=
 jr (Nat.lt_of_lt_of_le h (by rw[show(256:Nat)=2^8 by rfl,<-Nat.pow_mul];exact Nat.pow_le_pow_right zd hN))
theorem Sm.ok {B:Nat}{d:Dyadic}(h:Sm B d)(hB:B<=268435456):Ok (canon d):=by obtain⟨h1,h2,h3⟩:=h.parts;exact⟨jS h1 zo,by show-268435456<=dE d;omega,by show dE d<=268435456;omega⟩
theorem Sm.raw {x:Raw}{B:Nat}(hl:8*x.2.1.length<=B)(h1: -(B:Int)<=x.2.2)(h2:x.2.2<=B):Sm (2*B) (az x):=by
 unfold az;obtain⟨j,hj⟩:∃j:Nat,x.2.2+(2*B:Nat)=j:=⟨(x.2.2+(2*B:Nat)).toNat,by omega⟩;refine⟨iv x.1 x.2.1*2^j,?_,?_⟩
 . rw[<-tO (iv x.1 x.2.1) j (-x.2.2)];congr 1;omega
 . rw[Int.natAbs_mul,Int.natAbs_pow,pk];have hv:=gL x.2.1;rw[show(256:Nat)=2^8 by rfl,<-Nat.pow_mul]at hv;have:nv x.2.1*2^j<2^(8*x.2.1.length) *2^j:=Nat.mul_lt_mul_of_pos_right hv (Nat.pow_pos zd);rw[<-Nat.pow_add]at this;exact Nat.lt_of_lt_of_le this (Nat.pow_le_pow_right zd zo)
theorem Ok.sm {x:Raw}(h:Ok x):Sm 4294967296 (az x):=Sm.raw (B:=2147483648) (by have:=h.1;omega) (by have:=h.2.1;omega) (by have:=h.2.2;omega)
def lD (g:Nat->Nat->Int)(k:Nat)(last:Int)(i j:Nat):Nat->Nat->Int:=λa b=>if k<a/\k<b/\(a<i\/a=i/\b<j)then cQ g k a b/last else g a b
theorem aoS (g:Nat->Nat->Int)(k:Nat)(last:Int):lD g k last (k+1) (k+1)=g:=by
 funext a b;unfold lD
 rw[if_neg zo]
theorem aoQ (g:Nat->Nat->Int)(k:Nat)(last:Int)(i j:Nat)(hi:k<i)(hj:k<j):(λa b=>if a=i/\b=j then cQ g k i j/last else lD g k last i j a b)=lD g k last i (j+1):=by
 funext a b;unfold lD
 by_cases h:a=i/\b=j
 . obtain⟨rfl,rfl⟩:=h;rw[if_pos ⟨rfl,rfl⟩,if_pos ⟨hi,hj,.inr ⟨rfl,by omega⟩⟩]
 . rw[if_neg h];by_cases h2:k<a/\k<b/\(a<i\/a=i/\b<j)
   . rw[if_pos h2,if_pos ⟨h2.1,h2.2.1,by omega⟩]
   . rw[if_neg h2,if_neg (λh3=>h2 ⟨h3.1,h3.2.1,by omega⟩)]
theorem aoR (g:Nat->Nat->Int)(k:Nat)(last:Int)(i n:Nat):∀a b,b<n->lD g k last i n a b=lD g k last (i+1) (k+1) a b:=by
 intro a b hb;unfold lD;by_cases h2:k<a/\k<b/\(a<i\/a=i/\b<n)
 . rw[if_pos h2,if_pos ⟨h2.1,h2.2.1,by omega⟩]
 . rw[if_neg h2,if_neg (λh3=>h2 ⟨h3.1,h3.2.1,by omega⟩)]
theorem aoO (g:Nat->Nat->Int)(k:Nat)(last:Int)(n:Nat):∀a b,a<n->lD g k last n (k+1) a b=eu g k last a b:=by
 intro a b ha;unfold lD eu;by_cases h2:k<a/\k<b/\(a<n\/a=n/\b<k+1)
 . rw[if_pos h2,if_pos ⟨h2.1,h2.2.1⟩]
 . rw[if_neg h2,if_neg (λh3=>h2 ⟨h3.1,h3.2,by omega⟩)]
theorem aoP (g:Nat->Nat->Int)(k:Nat)(last:Int)(i j:Nat):lD g k last i j i j=g i j/\lD g k last i j k k=g k k/\lD g k last i j i k=g i k/\lD g k last i j k j=g k j:=by unfold lD;refine⟨if_neg zo,if_neg zo,if_neg zo,if_neg zo⟩
theorem Sv (g:Nat->Nat->Int)(k a b K:Nat)(h1:(g a b).natAbs<2^K)(h2:(g k k).natAbs<2^K)(h3:(g a k).natAbs<2^K)(h4:(g k b).natAbs<2^K):
 (g a b*g k k).natAbs<2^(2*K)/\(g a k*g k b).natAbs<2^(2*K)/\(cQ g k a b).natAbs<2^(2*K+1):=by
 have e:2^(2*K)=2^K*2^K:=by rw[<-Nat.pow_add];congr 1;omega
 have m1:(g a b*g k k).natAbs<2^K*2^K:=by rw[Int.natAbs_mul];exact Nat.mul_lt_mul'' h1 h2
 have m2:(g a k*g k b).natAbs<2^K*2^K:=by rw[Int.natAbs_mul];exact Nat.mul_lt_mul'' h3 h4
 refine⟨by rw[e];exact m1,by rw[e];exact m2,?_⟩;rw[Nat.pow_succ,e];unfold cQ;generalize g a b*g k k=x at*;generalize g a k*g k b=y at*;omega
theorem div_lt (x y:Int)(M:Nat)(h:x.natAbs<M):(x/y).natAbs<M\/¬y∣x:=by
 by_cases hd:y∣x
 . left;obtain⟨q,rfl⟩:=hd;by_cases hy:y=0
   . subst hy;simp;omega
   . rw[Int.mul_ediv_cancel_left _ hy];rw[Int.natAbs_mul]at h;have:1<=y.natAbs:=by omega
     have:=Nat.mul_le_mul_right q.natAbs this;omega
 . right;exact hd
theorem SC (a b k:Int):Dyadic.ofIntWithPrec a k-Dyadic.ofIntWithPrec b k=Dyadic.ofIntWithPrec (a-b) k:=by
 have h:Dyadic.ofIntWithPrec a k-Dyadic.ofIntWithPrec b k=Dyadic.ofIntWithPrec a k+ -Dyadic.ofIntWithPrec b k:=by grind
 rw[h,Ii,AP];rfl
theorem ajG (n:Nat)(hn:1<=n)(bO:n<=4)(f:Nat->Nat->Int)(e:Nat->Nat->Dyadic)(q:Int)(h:∀a b,a<n->b<n->e a b=Dyadic.ofIntWithPrec (f a b) q):
 cH n e=Dyadic.ofIntWithPrec (fu n n 0 f 1 false) (n*q):=by
 have hc:n=1\/n=2\/n=3\/n=4:=by omega
 rcases hc with rfl|rfl|rfl|rfl
 . rw[ahW];unfold cH;simp only;rw[h 0 0 zo zo];congr 1;omega
 . rw[ahX];unfold cH zE;simp only;rw[h 0 0 zo zo,h 1 1 zo zo,h 0 1 zo zo,h 1 0 zo zo,wj,wj,SC];congr 1;omega
 . rw[ahY];unfold cH je;simp only;rw[h 0 0 zo zo,h 1 1 zo zo,h 0 1 zo zo,h 1 0 zo zo,h 0 2 zo zo,h 2 0 zo zo,h 1 2 zo zo,h 2 1 zo zo,h 2 2 zo zo];simp only[wj,SC,AP];congr 1;omega
 . rw[ah0];unfold cH fx;simp only;rw[h 0 0 zo zo,h 1 1 zo zo,h 0 1 zo zo,h 1 0 zo zo,h 0 2 zo zo,h 2 0 zo zo,h 1 2 zo zo,h 2 1 zo zo,h 2 2 zo zo];rw[h 0 3 zo zo,h 1 3 zo zo,h 2 3 zo zo,h 3 0 zo zo,h 3 1 zo zo,h 3 2 zo zo,h 3 3 zo zo];simp only[wj,SC,AP];congr 1;omega
theorem Xc (n:Nat)(hn:1<=n)(bO:n<=4)(f:Nat->Nat->Int):ie n n 0 f 1:=by
 have hc:n=1\/n=2\/n=3\/n=4:=by omega
 rcases hc with rfl|rfl|rfl|rfl
 . exact aj9 f
 . exact aka f
 . exact akb f
 . exact akc f
end Go.Proofs.YtoopepmmepmfnaaGreatDoor
