/- Small facts that walks over blocks of one's own share. -/
import Derived.Test.YtnjfebkelecgaaaGreatDoorZ5
import Derived.Deep.RegionHeld3
import Derived.Deep.DrawnRows
import Derived.Test.YtnjfebkelecgaaaGreatDoorZ1
set_option linter.unusedVariables false
set_option linter.unusedSimpArgs false
set_option maxRecDepth 100000
set_option maxHeartbeats 16000000
namespace Go.Proofs.YtnjfebkelecgaaaGreatDoor
open Go.RowKit
theorem cj {P:Program}{c:Code}{Q:Exit->Act->World->Prop}{a:Act}{W:World}(S:World->Prop)(hS:S W)(h:∀W',S W'->c.wp P Q a W'):c.wp P Q a W:=h W hS
theorem cu {P:Program}{f:FuncId}{args:Array Value}{R:Ending->World->Prop}{W:World}(S:World->Prop)(hS:S W)(h:∀W',S W'->Calls P f args W' R):Calls P f args W R:=h W hS
theorem ie {w:World}{p a:Addr}{u v:Value}(hne:a.block≠p.block)(h:w.cell? a=some v):(w.setCell p u).cell? a=some v:=
 (World.cell?_of_block (w:=w) (Below.heap_setCell _ _ _ _ hne)).trans h
theorem aC.newAt (w:World)(t:TypeId)(cs:List Value){b:Nat}(h:w.heap.size=b):aC (w.alloc (.cells cs.toArray t)) b t cs:=by subst h;exact aC.new w t cs
theorem cF (w:World)(t0:TypeId)(l0:List Value):∃W,(w.alloc (.cells l0.toArray t0))=W/\Bw w W/\RowKit.Hid (aC W (w.heap.size) t0 l0):=⟨_,rfl,zl,aj (aC.new _ _ _)⟩
theorem asz (w:World)(t0:TypeId)(l0:List Value)(t1:TypeId)(l1:List Value):∃W,((w.alloc (.cells l0.toArray t0)).alloc (.cells l1.toArray t1))=W/\Bw w W/\RowKit.Hid (aC W (w.heap.size) t0 l0)/\RowKit.Hid (aC W (w.heap.size+1) t1 l1):=⟨_,rfl,(zl.alloc zj _),aj ((aC.new _ _ _).alloc _),aj (aC.newAt _ _ _ zm)⟩
theorem jT (w:World)(t0:TypeId)(l0:List Value):∃W,(w.alloc (.cells l0.toArray t0))=W/\RowKit.Hid (Bw w W)/\RowKit.Hid (aC W (w.heap.size) t0 l0):=⟨_,rfl,aj zl,aj (aC.new _ _ _)⟩
theorem mK (w:World)(t0:TypeId)(l0:List Value)(t1:TypeId)(l1:List Value):∃W,((w.alloc (.cells l0.toArray t0)).alloc (.cells l1.toArray t1))=W/\RowKit.Hid (Bw w W)/\RowKit.Hid (aC W (w.heap.size) t0 l0)/\RowKit.Hid (aC W (w.heap.size+1) t1 l1):=⟨_,rfl,aj (zl.alloc zj _),aj ((aC.new _ _ _).alloc _),aj (aC.newAt _ _ _ zm)⟩
theorem vI (w:World)(t0:TypeId)(l0:List Value)(t1:TypeId)(l1:List Value)(t2:TypeId)(l2:List Value):∃W,(((w.alloc (.cells l0.toArray t0)).alloc (.cells l1.toArray t1)).alloc (.cells l2.toArray t2))=W/\RowKit.Hid (Bw w W)/\RowKit.Hid (aC W (w.heap.size) t0 l0)/\RowKit.Hid (aC W (w.heap.size+1) t1 l1)/\RowKit.Hid (aC W (w.heap.size+1+1) t2 l2):=⟨_,rfl,aj ((zl.alloc zj _).alloc zj _),aj (((aC.new _ _ _).alloc _).alloc _),aj ((aC.newAt _ _ _ zm).alloc _),aj (aC.newAt _ _ _ zm)⟩
theorem Jd (w:World)(t0:TypeId)(l0:List Value)(t1:TypeId)(l1:List Value)(t2:TypeId)(l2:List Value)(t3:TypeId)(l3:List Value):∃W,((((w.alloc (.cells l0.toArray t0)).alloc (.cells l1.toArray t1)).alloc (.cells l2.toArray t2)).alloc (.cells l3.toArray t3))=W/\RowKit.Hid (Bw w W)/\RowKit.Hid (aC W (w.heap.size) t0 l0)/\RowKit.Hid (aC W (w.heap.size+1) t1 l1)/\RowKit.Hid (aC W (w.heap.size+1+1) t2 l2)/\RowKit.Hid (aC W (w.heap.size+1+1+1) t3 l3):=⟨_,rfl,aj (((zl.alloc zj _).alloc zj _).alloc zj _),aj ((((aC.new _ _ _).alloc _).alloc _).alloc _),aj (((aC.newAt _ _ _ zm).alloc _).alloc _),aj ((aC.newAt _ _ _ zm).alloc _),aj (aC.newAt _ _ _ zm)⟩
theorem bo {a w:World}(h:Below a.drew.heap.size a.drew w):Bw a w:=⟨h.os,h.tape,h.output,h.size,h.block⟩
theorem aV {w W w1:World}(h:Bw w W)(k:Bw W w1):Bw w w1:=h.trans (k.mono h.size)
theorem aF {w W w1:World}(h:Hid (Bw w W))(k:Bw W w1):Hid (Bw w w1):=aV h.out k
theorem di {p:Prop}(h:p:=by(repeat first|exact Hb.out| (refine Below.setCell ?_ (by have:=Hb.out.size;first| (dsimp only;omega) | (show _<=_;omega) | (simp<;>omega)) _) | (refine Below.alloc ?_ (by have:=Hb.out.size;simp<;>omega) _) |refine Below.drew ?_)):p:=h
def zD (b:Nat):Nat->List Value->World->World
 |_,[],w=>w
 |o,v::l,w=>zD b (o+1) l (w.setCell ⟨b,o,none⟩ v)
def Eo :Nat->List Value->List Value->List Value
 |_,[],c=>c
 |o,v::l,c=>Eo (o+1) l (c.set o v)
def cm (w:World)(b o:Nat)(vs:List Value)(w':World):Prop:=w'=zD b o vs w\/w'=zD b o vs w.drew
theorem stI {w:World}{b o:Nat}{vs:List Value}:cm w b o vs (zD b o vs w):=.inl rfl
theorem stJ {w:World}{b o:Nat}{vs:List Value}:cm w b o vs (zD b o vs w.drew):=.inr rfl
theorem cC {w:World}{b o:Nat}{vs:List Value}{w':World}(h:cm w b o vs w':=by first|exact stI|exact stJ):cm w b o vs w':=h
theorem auY (vs:List Value):∀(o:Nat) (cs:List Value),cs.length=o+vs.length->Eo o vs cs=cs.take o++vs:=by
 induction vs with
 |nil=>intro o cs h;simp only[Eo,List.append_nil];rw[List.take_of_length_le (by simp at h;omega)]
 |cons v vs ih=>intro o cs h;simp only[List.length_cons]at h;rw[Eo,ih (o+1) _ (by rw[List.length_set];omega),List.take_succ_eq_append_getElem (by rw[List.length_set];omega),List.getElem_set_self,List.take_set_of_le (Nat.le_refl _),List.append_assoc];rfl
theorem afP (p b:Nat)(n:p≠b)(t:TypeId)(cs:List Value)(vs:List Value):∀(o:Nat) (w:World),aC w b t cs->aC (zD p o vs w) b t cs:=by
 induction vs with
 |nil=>intro o w h;exact h
 |cons v vs ih=>intro o w h;exact ih _ _ (h.aBg ⟨p,o,none⟩ n v)
theorem afQ (b:Nat)(t:TypeId)(vs:List Value):∀(o:Nat) (w:World) (cs:List Value),aC w b t cs->aC (zD b o vs w) b t (Eo o vs cs):=by
 induction vs with
 |nil=>intro o w cs h;exact h
 |cons v vs ih=>intro o w cs h;exact ih _ _ _ (h.set o v)
theorem afO (a w0:World)(p:Nat)(n:a.heap.size<=p)(vs:List Value):∀(o:Nat) (w:World),Below a.heap.size w0 w->Below a.heap.size w0 (zD p o vs w):=by
 induction vs with
 |nil=>intro o w h;exact h
 |cons v vs ih=>intro o w h;exact ih _ _ (h.setCell n v)
theorem kS {w w':World}{b p o:Nat}{t:TypeId}{cs vs:List Value}(h:Hid (aC w b t cs))(k:cm w p o vs w')(n:p≠b):Hid (aC w' b t cs):=by
 rcases k with rfl|rfl
 . exact afP p b n t cs vs o _ h.out
 . exact afP p b n t cs vs o _ h.out.drew
theorem yR {w w':World}{b o:Nat}{t:TypeId}{cs vs:List Value}(h:Hid (aC w b t cs))(k:cm w b o vs w'):Hid (aC w' b t (Eo o vs cs)):=by
 rcases k with rfl|rfl
 . exact afQ b t vs o _ cs h.out
 . exact afQ b t vs o _ cs h.out.drew
theorem cX {w w':World}{b:Nat}{t:TypeId}{cs vs:List Value}(h:Hid (aC w b t cs))(k:cm w b 0 vs w')(e:cs.length=vs.length:=by rfl):Hid (aC w' b t vs):=by have:=yR h k;rwa [auY vs 0 cs zo,List.take_zero,List.nil_append]at this
theorem bS {a w w':World}{p o:Nat}{vs:List Value}(h:Hid (Bw a w))(k:cm w p o vs w')(n:a.heap.size<=p):Hid (Bw a w'):=by
 rcases k with rfl|rfl
 . exact afO a a p n vs o _ h.out
 . exact afO a a p n vs o _ h.out.drew
theorem tK {a w:World}{o:Obj}(h:Below (a.alloc o).heap.size (a.alloc o) w):Bw a w:=aV zl h
theorem yi {a w:World}{o:Obj}(h:Below (a.drew.alloc o).heap.size (a.drew.alloc o) w):Bw a w:=bo (tK h)
theorem wG {a w:World}{o:Obj}(h:Below (a.alloc o).drew.heap.size (a.alloc o).drew w):Bw a w:=tK (bo h)
theorem aX {w:World}{a:Addr}{v:Value}{o:Obj}(h:w.cell? a=some v):(w.alloc o).cell? a=some v:=cell_later zl h
theorem QZ {w:World}{a:Addr}{v:Value}(h:w.cell? a=some v):w.drew.cell? a=some v:=h
theorem At.aBf {w:World}{b:Nat}{t:TypeId}{cs:List Value}(h:aC w b t cs):At w (some ⟨b,0,none⟩) cs:=
 .inr ⟨b,0,rfl,λj _=>by rw[Nat.zero_add];exact h.cell j⟩
theorem flat_get {α:Type}(f:α->List Value)(sz:Nat)(hf:∀x,(f x).length=sz)(xs:List α)(k i:Nat)(hk:k<xs.length)(hi:i<sz):
 (xs.flatMap f)[k*sz+i]?=(f xs[k])[i]?:=by
 induction xs generalizing k with
 |nil=>simp at hk
 | cons x xs ih=>
   rw[List.flatMap_cons];cases k with
   |zero=>rw[Nat.zero_mul,Nat.zero_add,List.getElem?_append_left (by rw[hf];exact hi)];rfl
   | succ k=>
     have e:(k+1) *sz+i=(f x).length+(k*sz+i):=by rw[hf,Nat.add_mul,Nat.one_mul];omega
     rw[e,List.getElem?_append_right zo,Nat.add_sub_cancel_left,ih k (by simpa using hk)];rfl
theorem oM {α:Type}(f:α->List Value)(sz:Nat)(hf:∀x,(f x).length=sz)(xs:List α):(xs.flatMap f).length=xs.length*sz:=by
 induction xs with
 |nil=>simp
 |cons x xs ih=>rw[List.flatMap_cons,List.length_append,ih,hf,List.length_cons,Nat.add_mul,Nat.one_mul,Nat.add_comm]
theorem At.elem {α:Type}{f:α->List Value}{sz:Nat}(hf:∀x,(f x).length=sz)(hsz:0<sz){W:World}{a:Option Addr}{xs:List α}(h:At W a (xs.flatMap f))(k:Nat)(hk:k<xs.length):
 ∃b o,a=some ⟨b,o,none⟩/\∀i,i<sz->W.cell? ⟨b,o+k*sz+i,none⟩=(f xs[k])[i]?:=by
 have hl:=oM f sz hf xs;have hb:∀i,i<sz->k*sz+i<xs.length*sz:=by intro i hi;have:(k+1) *sz<=xs.length*sz:=Nat.mul_le_mul_right _ hk;rw[Nat.add_mul,Nat.one_mul]at this;omega
 have hne:xs.flatMap f≠[]:=by intro h0;have:=congrArg List.length h0;rw[hl]at this;have:=hb 0 hsz;simp at*;omega
 obtain⟨b,o,ha,hc⟩:=h.get hne;refine⟨b,o,ha,λi hi=>?_⟩;rw[Nat.add_assoc,hc _ (by rw[hl];exact hb i hi),flat_get f sz hf xs k i hk hi]
end Go.Proofs.YtnjfebkelecgaaaGreatDoor
namespace Go.Proofs.YtnjfebkelecgaaaGreatDoor
open Go.RowKit
attribute [local go_sem ↓] Go.wp_at_zero Go.wp_at_succ
def iv (s:Bool)(l:List UInt8):Int:=if s then-(nv l:Int)else(nv l:Int)
theorem oX (s:Bool)(l:List UInt8):(iv s l).natAbs=nv l:=by unfold iv;split<;>omega
def aI (n:Int):Bool:=decide (n<0)
theorem Uo (s:Bool)(l:List UInt8):aI (iv s l)=(s&& !(nt (nv l)).isEmpty):=by
 unfold aI;have h:(nt (nv l)).isEmpty=decide (nv l=0):=by rw[Bool.eq_iff_iff,List.isEmpty_iff,UQ,decide_eq_true_iff]
 rw[h];unfold iv;cases s<;>simp
 by_cases h0:nv l=0<;>simp[h0];omega
abbrev dt (n:Int):Value:=.agg #[ar (aI n),ai (nt n.natAbs)]
theorem fT (n:Int):iv (aI n) (nt n.natAbs)=n:=by unfold iv aI;rw[jz];by_cases h:n<0<;>simp[h]<;>omega
theorem oY (s:Bool)(n:Nat):iv s (nt n)=if s then-(n:Int)else n:=by unfold iv;rw[jz]
theorem Ev (l:List UInt8)(s:Bool)(w:World):
 Calls Tryz.prog 105 #[.agg #[ar s,ai l]] w λe w'=>e=.returned (.agg #[ai l,ar s])/\Bw w w':=by
 go_enter Tryz.func105,Tryz.ntmps105;have Hb:Hid (Bw w w):=Below.refl _ _;go_wp2;exact bodyPost_ret (v:=.agg #[ai l,ar s]) (by simp[results,Tryz.results105,go_sem]) rfl ⟨rfl,di⟩
theorem xt (l:List UInt8)(s:Bool)(w:World)(hl:l.length<=1099511627776):
 Calls Tryz.prog 106 #[.agg #[ai l,ar s]] w λe w'=>e=.returned (dt (iv s l))/\Bw w w':=by
 unfold dt;rw[oX,Uo];have hne:=wI (nt (nv l));generalize hb:(nt (nv l)).isEmpty=b at*;have HB:=aj hb;clear hb;cases s
 . go_enter Tryz.func106,Tryz.ntmps106;have Hb:Hid (Bw w w):=Below.refl _ _;go_wp2_with (go_at_call 145;refine(aga l _ hl).mono ?_;rintro e w1 ⟨rfl,rfl⟩);go_wp2;exact bodyPost_ret (v:=.agg #[ar false,ai (nt (nv l))]) (by simp[results,Tryz.results106,go_sem]) rfl ⟨rfl,di⟩
 . go_enter Tryz.func106,Tryz.ntmps106;have Hb:Hid (Bw w w):=Below.refl _ _;go_wp2_with (go_at_call 145;refine(aga l _ hl).mono ?_;rintro e w1 ⟨rfl,rfl⟩);go_wp2;exact bodyPost_ret (v:=.agg #[.bool !b,ai (nt (nv l))]) (by simp[results,Tryz.results106,go_sem]) rfl ⟨rfl,di⟩
theorem asb (l m:List UInt8)(b cap:Nat)(t:TypeId)(w:World)(hl:l.length<=68719476736)(hm:m.length<=68719476736)(ha:aC w b t [ai l,ai m]):
 Calls Tryz.prog 142 #[.slice (some ⟨b,0,none⟩) 2 cap] w λe w'=>e=.returned (ai (nt (nv l+nv m)))/\Bw w w':=by
 have:=asa [l,m] (some ⟨b,0,none⟩) cap w (by simp[hl,hm]) zm (At.aBf ha);have e:iq [l,m]=nv l+nv m:=by simp[iq]
 rw[e]at this;exact this
theorem atf (l m:List UInt8)(s:Bool)(w:World)(hl:l.length<=68719476736)(hm:m.length<=68719476736):
 Calls Tryz.prog 104 #[.agg #[.string (bs l),.bool s],.agg #[.string (bs m),.bool s]] w λe w'=>e=.returned (.agg #[.string (bs (nt (nv l+nv m))),.bool s])/\Bw w w':=by
 go_enter Tryz.func104,Tryz.ntmps104;have Hb:Hid (Bw w w):=Below.refl _ _;go_wp2_with fail;obtain⟨R,hR⟩:∃R:World->Prop,(λW=>aC W (w.heap.size) 133 [.string (bs l),.bool s]/\aC W (w.heap.size+1) 133 [.string (bs m),.bool s]/\aC W (w.heap.size+1+1) 133 [.string (bs []),.bool false]/\Bw w W)=R:=⟨_,rfl⟩;first|refine cj R ?hR ?_|refine cu R ?hR ?_
 case hR=>subst hR;exact⟨(((aC.newAt w _ _ (b:=w.heap.size) rfl).alloc _).alloc _),((aC.newAt (w.alloc _) _ _ (b:=w.heap.size+1) zm).alloc _),(aC.newAt ((w.alloc _).alloc _) _ _ (b:=w.heap.size+1+1) zm),((zl.alloc zj _).alloc zj _)⟩
 subst hR;rintro W ⟨qx,qy,qr,ag⟩;have Hx:=aj qx;clear qx;have Hy:=aj qy;clear qy;have Hr:=aj qr;clear qr;obtain⟨x0,x1⟩:=Hx.out.c2;obtain⟨y0,y1⟩:=Hy.out.c2;obtain⟨r0,au,r1,az⟩:=Hr.out.g2;replace Hb:=aF Hb ag;clear ag;have UN:w.heap.size≠w.heap.size+1+1:=by omega
 have ney:w.heap.size+1≠w.heap.size+1+1:=by omega
 go_region_held3 (λw'=>w'.cell? ⟨w.heap.size,0,none⟩=some (.string (bs l))/\w'.cell? ⟨w.heap.size,1,none⟩=some (.bool s)/\w'.cell? ⟨w.heap.size+1,0,none⟩=some (.string (bs m))/\w'.cell? ⟨w.heap.size+1,1,none⟩=some (.bool s)) (((try dsimp only);go_split_ands;(repeat' apply And.intro)<;>(first|exact True.intro|with_reducible assumption| ((with_reducible refine ie zg ?_);(repeat(with_reducible refine ie zg ?_));with_reducible assumption) |exact cell_later (by with_reducible assumption) (by with_reducible assumption) |exact aX (by with_reducible assumption) |go_keep))) (first| (go_at_call 142;(with_reducible refine(asb l m W.heap.size 2 9 _ hl hm (by first|exact aC.drew (aC.new _ _ _) |exact aC.new _ _ _)).mono ?_);rintro e w1 ⟨rfl,hq⟩;have hw1:Bw W w1:=(by first|exact bo hq|exact hq|exact yi hq|exact tK hq|exact wG hq);clear hq;have lW:=aj (Hx.out.below hw1);have BU:w1.cell? ⟨w.heap.size,0,none⟩=some (.string (bs l)):=lW.out.cell 0;have BV:w1.cell? ⟨w.heap.size,1,none⟩=some (.bool s):=lW.out.cell 1;have rV:=aj (Hy.out.below hw1);have JL:w1.cell? ⟨w.heap.size+1,0,none⟩=some (.string (bs m)):=rV.out.cell 0;have JM:w1.cell? ⟨w.heap.size+1,1,none⟩=some (.bool s):=rV.out.cell 1;have iR:=aj (Hr.out.below hw1);have BL:w1.cell? ⟨w.heap.size+1+1,0,none⟩=some (.string (bs [])):=iR.out.cell 0;have AC:w1.frozen? ⟨w.heap.size+1+1,0,none⟩=false:=iR.out.free 0;have BM:w1.cell? ⟨w.heap.size+1+1,1,none⟩=some (.bool false):=iR.out.cell 1;have AE:w1.frozen? ⟨w.heap.size+1+1,1,none⟩=false:=iR.out.free 1))
 replace Hb:=aj (aV Hb.out hw1);clear hw1 x0 x1 y0 y1 r0 au r1 az;replace Hx:=lW;clear BU BV;replace Hy:=rV;clear JL JM;replace Hr:=iR;clear BL AC BM AE;obtain⟨x0,x1⟩:=Hx.out.c2;obtain⟨y0,y1⟩:=Hy.out.c2;obtain⟨r0,au,r1,az⟩:=Hr.out.g2;go_wp2;exact bodyPost_ret (v:=.agg #[.string (bs (nt (nv l+nv m))),.bool s]) (by simp[results,Tryz.results104,go_sem,r0,r1]) rfl ⟨rfl,di⟩
theorem afF (l m:List UInt8)(w:World)(hl:l.length<=68719476736)(hm:m.length<=68719476736):
 Calls Tryz.prog 143 #[ai l,ai m] w λe w'=>e=.returned (ah (dx (nv l) (nv m)))/\Bw w w':=by
 go_enter Tryz.func143,Tryz.ntmps143;have Hb:Hid (Bw w w):=Below.refl _ _;go_wp2_with fail;refine(asc l m _ hl hm).mono ?_;rintro e w1 ⟨rfl,ag⟩;replace Hb:=aF Hb ag;clear ag;go_wp2;go_ret;exact⟨rfl,Hb.out⟩
theorem atc (l m:List UInt8)(s:Bool)(w:World)(hl:l.length<=68719476736)(hm:m.length<=68719476736)(h:nv m<=nv l):
 Calls Tryz.prog 104 #[.agg #[ai l,ar s],.agg #[ai m,ar (!s)]] w λe w'=>e=.returned (.agg #[ai (nt (nv l-nv m)),ar s])/\Bw w w':=by
 have hc0:0<=dx (nv l) (nv m):=by unfold dx;rw[if_neg zo];split<;>omega
 have MX:(s== !s)=false:=by cases s<;>rfl
 have Hh:=aj h;clear h;go_enter Tryz.func104,Tryz.ntmps104;have Hb:Hid (Bw w w):=Below.refl _ _;go_wp2_with fail;obtain⟨R,hR⟩:∃R:World->Prop,(λW=>aC W (w.heap.size) 133 [ai l,ar s]/\aC W (w.heap.size+1) 133 [ai m,ar (!s)]/\aC W (w.heap.size+1+1) 133 [.string (bs []),ar false]/\Bw w W)=R:=⟨_,rfl⟩;first|refine cj R ?hR ?_|refine cu R ?hR ?_
 case hR=>subst hR;exact⟨(((aC.newAt w _ _ (b:=w.heap.size) rfl).alloc _).alloc _),((aC.newAt (w.alloc _) _ _ (b:=w.heap.size+1) zm).alloc _),(aC.newAt ((w.alloc _).alloc _) _ _ (b:=w.heap.size+1+1) zm),((zl.alloc zj _).alloc zj _)⟩
 subst hR;rintro W ⟨qx,qy,qr,ag⟩;have Hx:=aj qx;clear qx;have Hy:=aj qy;clear qy;have Hr:=aj qr;clear qr;obtain⟨x0,x1⟩:=Hx.out.c2;obtain⟨y0,y1⟩:=Hy.out.c2;obtain⟨r0,au,r1,az⟩:=Hr.out.g2;replace Hb:=aF Hb ag;clear ag;go_wp2_with fail;refine(afF l m _ hl hm).mono ?_;rintro e w1 ⟨rfl,ag⟩;clear x0 x1 y0 y1 r0 au r1 az;obtain⟨Hx,x0,x1⟩:=bi Hx ag;obtain⟨Hy,y0,y1⟩:=bi Hy ag;obtain⟨Hr,r0,au,r1,az⟩:=bE Hr ag;replace Hb:=aF Hb ag;clear ag;go_wp2_with fail;refine(aeN l m _ hl hm Hh.out).mono ?_;rintro e w2 ⟨rfl,ag⟩;clear x0 x1 y0 y1 r0 au r1 az;obtain⟨Hx,x0,x1⟩:=bi Hx ag;obtain⟨Hy,y0,y1⟩:=bi Hy ag;obtain⟨Hr,r0,au,r1,az⟩:=bE Hr ag;replace Hb:=aF Hb ag;clear ag;go_wp2;exact bodyPost_ret (v:=.agg #[ai (nt (nv l-nv m)),ar s]) (by simp[results,Tryz.results104,go_sem,r0,r1]) rfl ⟨rfl,di⟩
theorem atd (l m:List UInt8)(s:Bool)(w:World)(hl:l.length<=68719476736)(hm:m.length<=68719476736)(h:nv l<nv m):
 Calls Tryz.prog 104 #[.agg #[ai l,ar s],.agg #[ai m,ar (!s)]] w λe w'=>e=.returned (.agg #[ai (nt (nv m-nv l)),ar (!s)])/\Bw w w':=by
 have hc0:dx (nv l) (nv m)<0:=by unfold dx;rw[if_pos h];omega
 have MX:(s== !s)=false:=by cases s<;>rfl
 have Hh:=aj (Nat.le_of_lt h);clear h;go_enter Tryz.func104,Tryz.ntmps104;have Hb:Hid (Bw w w):=Below.refl _ _;go_wp2_with fail;obtain⟨R,hR⟩:∃R:World->Prop,(λW=>aC W (w.heap.size) 133 [ai l,ar s]/\aC W (w.heap.size+1) 133 [ai m,ar (!s)]/\aC W (w.heap.size+1+1) 133 [.string (bs []),ar false]/\Bw w W)=R:=⟨_,rfl⟩;first|refine cj R ?hR ?_|refine cu R ?hR ?_
 case hR=>subst hR;exact⟨(((aC.newAt w _ _ (b:=w.heap.size) rfl).alloc _).alloc _),((aC.newAt (w.alloc _) _ _ (b:=w.heap.size+1) zm).alloc _),(aC.newAt ((w.alloc _).alloc _) _ _ (b:=w.heap.size+1+1) zm),((zl.alloc zj _).alloc zj _)⟩
 subst hR;rintro W ⟨qx,qy,qr,ag⟩;have Hx:=aj qx;clear qx;have Hy:=aj qy;clear qy;have Hr:=aj qr;clear qr;obtain⟨x0,bG,x1,bH⟩:=Hx.out.g2;obtain⟨y0,bz,y1,bA⟩:=Hy.out.g2;obtain⟨r0,au,r1,az⟩:=Hr.out.g2;replace Hb:=aF Hb ag;clear ag;go_wp2_with fail;refine(afF l m _ hl hm).mono ?_;rintro e w1 ⟨rfl,ag⟩;clear x0 bG x1 bH y0 bz y1 bA r0 au r1 az;obtain⟨Hx,x0,bG,x1,bH⟩:=bE Hx ag;obtain⟨Hy,y0,bz,y1,bA⟩:=bE Hy ag;obtain⟨Hr,r0,au,r1,az⟩:=bE Hr ag;replace Hb:=aF Hb ag;clear ag;go_wp2_with fail;clear x0 bG x1 bH y0 bz y1 bA r0 au r1 az;obtain⟨R,hR⟩:∃R:World->Prop,(λw2=>aC w2 (w.heap.size) 133 [ai m,ar (!s)]/\aC w2 (w.heap.size+1) 133 [ai l,ar s]/\aC w2 (w.heap.size+1+1) 133 [.string (bs []),ar false]/\Bw w w2)=R:=⟨_,rfl⟩;first|refine cj R ?hR ?_|refine cu R ?hR ?_
 case hR=>subst hR;exact⟨((((Hx.out.set 0 _).set 1 _).so (w.heap.size+1) 0 zo _).so (w.heap.size+1) 1 zo _),((((Hy.out.so (w.heap.size) 0 zo _).so (w.heap.size) 1 zo _).set 0 _).set 1 _),((((Hr.out.so (w.heap.size) 0 zo _).so (w.heap.size) 1 zo _).so (w.heap.size+1) 0 zo _).so (w.heap.size+1) 1 zo _),((((Hb.out.sc (w.heap.size) 0 ZS _).sc (w.heap.size) 1 ZS _).sc (w.heap.size+1) 0 ZS _).sc (w.heap.size+1) 1 ZS _)⟩
 subst hR;rintro w2 ⟨qx,qy,qr,ag⟩;replace Hx:=aj qx;clear qx;replace Hy:=aj qy;clear qy;replace Hr:=aj qr;clear qr;obtain⟨x0,bG,x1,bH⟩:=Hx.out.g2;obtain⟨y0,bz,y1,bA⟩:=Hy.out.g2;obtain⟨r0,au,r1,az⟩:=Hr.out.g2;replace Hb:=aj ag;clear ag;go_wp2_with fail;refine(aeN m l _ hm hl Hh.out).mono ?_;rintro e w3 ⟨rfl,ag⟩;clear x0 bG x1 bH y0 bz y1 bA r0 au r1 az;obtain⟨Hx,x0,bG,x1,bH⟩:=bE Hx ag;obtain⟨Hy,y0,bz,y1,bA⟩:=bE Hy ag;obtain⟨Hr,r0,au,r1,az⟩:=bE Hr ag;replace Hb:=aF Hb ag;clear ag;go_wp2;exact bodyPost_ret (v:=.agg #[ai (nt (nv m-nv l)),ar (!s)]) (by simp[results,Tryz.results104,go_sem,r0,r1]) rfl ⟨rfl,di⟩
def xB (s:Bool)(l:List UInt8)(t:Bool)(m:List UInt8):Bool:=if s==t then s else if nv l<nv m then t else s
theorem atu (s:Bool)(l:List UInt8)(t:Bool)(m:List UInt8):iv (xB s l t m) (nt (iv s l+iv t m).natAbs)=iv s l+iv t m:=by unfold xB iv;rw[jz];cases s<;>cases t<;>simp<;>(try split)<;>omega
theorem atb (l m:List UInt8)(s t:Bool)(w:World)(hl:l.length<=68719476736)(hm:m.length<=68719476736):
 Calls Tryz.prog 104 #[.agg #[ai l,ar s],.agg #[ai m,ar t]] w λe w'=>e=.returned (.agg #[ai (nt (iv s l+iv t m).natAbs),ar (xB s l t m)])/\Bw w w':=by
 by_cases hst:s=t
 . subst hst;have e:(iv s l+iv s m).natAbs=nv l+nv m:=by unfold iv;split<;>omega
   rw[e,show xB s l s m=s by simp[xB]];exact atf l m s w hl hm
 . obtain rfl:t= !s:=by cases s<;>cases t<;>simp_all
   by_cases h:nv l<nv m
   . have e:(iv s l+iv (!s) m).natAbs=nv m-nv l:=by unfold iv;cases s<;>simp<;>omega
     rw[e,show xB s l (!s) m= !s by cases s<;>simp[xB,h]];exact atd l m s w hl hm h
   . have e:(iv s l+iv (!s) m).natAbs=nv l-nv m:=by unfold iv;cases s<;>simp<;>omega
     rw[e,show xB s l (!s) m=s by cases s<;>simp[xB,h]];exact atc l m s w hl hm zo
theorem af5 (l m:List UInt8)(s t:Bool)(w:World)(hl:l.length<=68719476736)(hm:m.length<=68719476736):
 Calls Tryz.prog 107 #[.agg #[.string (bs l),.bool s],.agg #[.string (bs m),.bool t]] w λe w'=>e=.returned (.agg #[.string (bs (nt (nv l*nv m))),.bool (!(s==t))])/\Bw w w':=by
 go_enter Tryz.func107,Tryz.ntmps107;have Hb:Hid (Bw w w):=Below.refl _ _;go_wp2_with fail;obtain⟨R,hR⟩:∃R:World->Prop,(λW=>aC W (w.heap.size) 133 [.string (bs l),.bool s]/\aC W (w.heap.size+1) 133 [.string (bs m),.bool t]/\aC W (w.heap.size+1+1) 133 [.string (bs []),.bool false]/\Bw w W)=R:=⟨_,rfl⟩;first|refine cj R ?hR ?_|refine cu R ?hR ?_
 case hR=>subst hR;exact⟨(((aC.newAt w _ _ (b:=w.heap.size) rfl).alloc _).alloc _),((aC.newAt (w.alloc _) _ _ (b:=w.heap.size+1) zm).alloc _),(aC.newAt ((w.alloc _).alloc _) _ _ (b:=w.heap.size+1+1) zm),((zl.alloc zj _).alloc zj _)⟩
 subst hR;rintro W ⟨qx,qy,qr,ag⟩;have Hx:=aj qx;clear qx;have Hy:=aj qy;clear qy;have Hr:=aj qr;clear qr;obtain⟨x0,x1⟩:=Hx.out.c2;obtain⟨y0,y1⟩:=Hy.out.c2;obtain⟨r0,au,r1,az⟩:=Hr.out.g2;replace Hb:=aF Hb ag;clear ag;have UN:w.heap.size≠w.heap.size+1+1:=by omega
 have ney:w.heap.size+1≠w.heap.size+1+1:=by omega
 go_region_held3 (λw'=>w'.cell? ⟨w.heap.size,0,none⟩=some (.string (bs l))/\w'.cell? ⟨w.heap.size,1,none⟩=some (.bool s)/\w'.cell? ⟨w.heap.size+1,0,none⟩=some (.string (bs m))/\w'.cell? ⟨w.heap.size+1,1,none⟩=some (.bool t)) (((try dsimp only);go_split_ands;(repeat' apply And.intro)<;>(first|exact True.intro|with_reducible assumption| ((with_reducible refine ie zg ?_);(repeat(with_reducible refine ie zg ?_));with_reducible assumption) |exact cell_later (by with_reducible assumption) (by with_reducible assumption) |exact aX (by with_reducible assumption) |go_keep))) (first| (go_at_call 146;(with_reducible refine(ash l m _ hl hm).mono ?_);rintro e w1 ⟨rfl,hq⟩;have hw1:Bw W w1:=(by first|exact bo hq|exact hq|exact yi hq|exact tK hq|exact wG hq);clear hq;have lW:=aj (Hx.out.below hw1);have BU:w1.cell? ⟨w.heap.size,0,none⟩=some (.string (bs l)):=lW.out.cell 0;have BV:w1.cell? ⟨w.heap.size,1,none⟩=some (.bool s):=lW.out.cell 1;have rV:=aj (Hy.out.below hw1);have JL:w1.cell? ⟨w.heap.size+1,0,none⟩=some (.string (bs m)):=rV.out.cell 0;have JM:w1.cell? ⟨w.heap.size+1,1,none⟩=some (.bool t):=rV.out.cell 1;have iR:=aj (Hr.out.below hw1);have BL:w1.cell? ⟨w.heap.size+1+1,0,none⟩=some (.string (bs [])):=iR.out.cell 0;have AC:w1.frozen? ⟨w.heap.size+1+1,0,none⟩=false:=iR.out.free 0;have BM:w1.cell? ⟨w.heap.size+1+1,1,none⟩=some (.bool false):=iR.out.cell 1;have AE:w1.frozen? ⟨w.heap.size+1+1,1,none⟩=false:=iR.out.free 1))
 replace Hb:=aj (aV Hb.out hw1);clear hw1 x0 x1 y0 y1 r0 au r1 az;replace Hx:=lW;clear BU BV;replace Hy:=rV;clear JL JM;replace Hr:=iR;clear BL AC BM AE;obtain⟨x0,x1⟩:=Hx.out.c2;obtain⟨y0,y1⟩:=Hy.out.c2;obtain⟨r0,au,r1,az⟩:=Hr.out.g2;go_wp2;exact bodyPost_ret (v:=.agg #[.string (bs (nt (nv l*nv m))),.bool (!(s==t))]) (by simp[results,Tryz.results107,go_sem,r0,r1]) rfl ⟨rfl,di⟩
theorem ad4 (s:Bool)(l:List UInt8)(t:Bool)(m:List UInt8):iv (!(s==t)) (nt (nv l*nv m))=iv s l*iv t m:=by unfold iv;rw[jz];cases s<;>cases t<;>simp[Int.natCast_mul,Int.neg_mul,Int.mul_neg]
theorem Wm (n:Int)(w:World)(h0: -9223372036854775808<=n)(h1:n<=9223372036854775807):
 Calls Tryz.prog 78 #[ah n] w λe w'=>e=.returned (dt n)/\Bw w w':=by
 have hb:n.natAbs<WW:=by rw[ki];omega
 have hlen:(nt n.natAbs).length<=8:=jR (by rw[ki]at hb;omega);have lj:=aj hb;clear hb;by_cases hn:n<0
 . have ub:IntKind.u64.wrap (-(IntKind.u64.wrap n))=(n.natAbs:Int):=by simp only[IntKind.wrap_u64];omega
   have ll:Hid (iv true (nt n.natAbs)=n):=by show iv _ _=_;unfold iv;rw[jz];simp;omega
   go_enter Tryz.func78,Tryz.ntmps78;have Hb:Hid (Bw w w):=Below.refl _ _;go_wp2_with fail;obtain⟨R,hR⟩:∃R:World->Prop,(λW=>aC W (w.heap.size) 46 [ar false,.string (bs [])]/\Bw w W)=R:=⟨_,rfl⟩;first|refine cj R ?hR ?_|refine cu R ?hR ?_
   case hR=>subst hR;exact⟨(aC.newAt w _ _ (b:=w.heap.size) rfl),zl⟩
   subst hR;rintro W ⟨qr,ag⟩;have Hr:=aj qr;clear qr;obtain⟨r0,au,r1,az⟩:=Hr.out.g2;replace Hb:=aF Hb ag;clear ag;go_wp2_with fail;refine(aeM n.natAbs lj.out _).mono ?_;rintro e w1 ⟨rfl,ag⟩;clear r0 au r1 az;obtain⟨Hr,r0,au,r1,az⟩:=bE Hr ag;replace Hb:=aF Hb ag;clear ag;go_wp2_with fail;refine(xt (nt n.natAbs) true _ zo).mono ?_;rintro e w2 ⟨rfl,ag⟩;clear r0 au r1 az;obtain⟨Hr,r0,au,r1,az⟩:=bE Hr ag;replace Hb:=aF Hb ag;clear ag;rw[ll.out];go_wp2;exact bodyPost_ret (v:=dt n) (by simp[results,Tryz.results78,go_sem,r0,r1]) rfl ⟨rfl,di⟩
 . have ub:IntKind.u64.wrap n=(n.natAbs:Int):=by simp only[IntKind.wrap_u64];omega
   have ll:Hid (iv false (nt n.natAbs)=n):=by show iv _ _=_;unfold iv;rw[jz];simp;omega
   go_enter Tryz.func78,Tryz.ntmps78;have Hb:Hid (Bw w w):=Below.refl _ _;go_wp2_with fail;obtain⟨R,hR⟩:∃R:World->Prop,(λW=>aC W (w.heap.size) 46 [ar false,.string (bs [])]/\Bw w W)=R:=⟨_,rfl⟩;first|refine cj R ?hR ?_|refine cu R ?hR ?_
   case hR=>subst hR;exact⟨(aC.newAt w _ _ (b:=w.heap.size) rfl),zl⟩
   subst hR;rintro W ⟨qr,ag⟩;have Hr:=aj qr;clear qr;obtain⟨r0,au,r1,az⟩:=Hr.out.g2;replace Hb:=aF Hb ag;clear ag;go_wp2_with fail;refine(aeM n.natAbs lj.out _).mono ?_;rintro e w1 ⟨rfl,ag⟩;clear r0 au r1 az;obtain⟨Hr,r0,au,r1,az⟩:=bE Hr ag;replace Hb:=aF Hb ag;clear ag;go_wp2_with fail;refine(xt (nt n.natAbs) false _ zo).mono ?_;rintro e w2 ⟨rfl,ag⟩;clear r0 au r1 az;obtain⟨Hr,r0,au,r1,az⟩:=bE Hr ag;replace Hb:=aF Hb ag;clear ag;rw[ll.out];go_wp2;exact bodyPost_ret (v:=dt n) (by simp[results,Tryz.results78,go_sem,r0,r1]) rfl ⟨rfl,di⟩
theorem BQ (s:Bool)(l:List UInt8)(w:World)(hl:l.length<=1099511627776):
 Calls Tryz.prog 135 #[.agg #[ar s,ai l]] w λe w'=>e=.returned (dt (iv s l))/\Bw w w':=by
 go_enter Tryz.func135,Tryz.ntmps135;have Hb:Hid (Bw w w):=Below.refl _ _;go_wp2_with fail;obtain⟨R,hR⟩:∃R:World->Prop,(λW=>aC W (w.heap.size) 46 [ar s,ai l]/\aC W (w.heap.size+1) 46 [ar false,.string (bs [])]/\Bw w W)=R:=⟨_,rfl⟩;first|refine cj R ?hR ?_|refine cu R ?hR ?_
 case hR=>subst hR;exact⟨((aC.newAt w _ _ (b:=w.heap.size) rfl).alloc _),(aC.newAt (w.alloc _) _ _ (b:=w.heap.size+1) zm),(zl.alloc zj _)⟩
 subst hR;rintro W ⟨qx,qr,ag⟩;have Hx:=aj qx;clear qx;have Hr:=aj qr;clear qr;obtain⟨x0,x1⟩:=Hx.out.c2;obtain⟨r0,au,r1,az⟩:=Hr.out.g2;replace Hb:=aF Hb ag;clear ag;go_wp2_with fail;refine(Ev l s _).mono ?_;rintro e w1 ⟨rfl,ag⟩;clear x0 x1 r0 au r1 az;obtain⟨Hx,x0,x1⟩:=bi Hx ag;obtain⟨Hr,r0,au,r1,az⟩:=bE Hr ag;replace Hb:=aF Hb ag;clear ag;go_wp2_with fail;refine(xt l s _ hl).mono ?_;rintro e w2 ⟨rfl,ag⟩;clear x0 x1 r0 au r1 az;obtain⟨Hx,x0,x1⟩:=bi Hx ag;obtain⟨Hr,r0,au,r1,az⟩:=bE Hr ag;replace Hb:=aF Hb ag;clear ag;go_wp2;exact bodyPost_ret (v:=dt (iv s l)) (by simp[results,Tryz.results135,go_sem,r0,r1]) rfl ⟨rfl,di⟩
def fH (n:Int):Int:=if n<0 then-1 else if n=0 then 0 else 1
theorem Ol (s:Bool)(l:List UInt8)(w:World)(hl:l.length<=1099511627776):
 Calls Tryz.prog 101 #[.agg #[ar s,ai l]] w λe w'=>e=.returned (ah (fH (iv s l)))/\Bw w w':=by
 have hne:=wI (nt (iv s l).natAbs);by_cases hneg:iv s l<0
 . have hs:aI (iv s l)=true:=by simp[aI,hneg]
   have ia:Hid (fH (iv s l)= -1):=by show fH _=_;simp[fH,hneg]
   clear hneg hne;go_enter Tryz.func101,Tryz.ntmps101;have Hb:Hid (Bw w w):=Below.refl _ _;go_wp2_with fail;obtain⟨R,hR⟩:∃R:World->Prop,(λW=>aC W (w.heap.size) 46 [ar s,ai l]/\Bw w W)=R:=⟨_,rfl⟩;first|refine cj R ?hR ?_|refine cu R ?hR ?_
   case hR=>subst hR;exact⟨(aC.newAt w _ _ (b:=w.heap.size) rfl),zl⟩
   subst hR;rintro W ⟨qx,ag⟩;have Hx:=aj qx;clear qx;obtain⟨x0,x1⟩:=Hx.out.c2;replace Hb:=aF Hb ag;clear ag;go_wp2_with fail;refine(BQ s l _ hl).mono ?_;rintro e w1 ⟨rfl,ag⟩;clear x0 x1;obtain⟨Hx,x0,x1⟩:=bi Hx ag;replace Hb:=aF Hb ag;clear ag;go_wp2;go_ret;rw[ia.out];refine⟨rfl,?_⟩;exact Hb.out.alloc Hb.out.size _
 . have hs:aI (iv s l)=false:=by simp[aI,hneg]
   by_cases hz:iv s l=0
   . have ia:Hid (fH (iv s l)=0):=by show fH _=_;simp[fH,hz]
     have apH:(bs (nt (iv s l).natAbs)).toList.isEmpty=true:=by rw[hne,hz];rfl
     clear hneg hne hz;go_enter Tryz.func101,Tryz.ntmps101;have Hb:Hid (Bw w w):=Below.refl _ _;go_wp2_with fail;obtain⟨R,hR⟩:∃R:World->Prop,(λW=>aC W (w.heap.size) 46 [ar s,ai l]/\Bw w W)=R:=⟨_,rfl⟩;first|refine cj R ?hR ?_|refine cu R ?hR ?_
     case hR=>subst hR;exact⟨(aC.newAt w _ _ (b:=w.heap.size) rfl),zl⟩
     subst hR;rintro W ⟨qx,ag⟩;have Hx:=aj qx;clear qx;obtain⟨x0,x1⟩:=Hx.out.c2;replace Hb:=aF Hb ag;clear ag;go_wp2_with fail;refine(BQ s l _ hl).mono ?_;rintro e w1 ⟨rfl,ag⟩;clear x0 x1;obtain⟨Hx,x0,x1⟩:=bi Hx ag;replace Hb:=aF Hb ag;clear ag;go_wp2;go_ret;rw[ia.out];refine⟨rfl,?_⟩;exact Hb.out.alloc Hb.out.size _
   . have ia:Hid (fH (iv s l)=1):=by show fH _=_;simp[fH,hz,hneg]
     have apH:(bs (nt (iv s l).natAbs)).toList.isEmpty=false:=by
      rw[hne];cases hq:nt (iv s l).natAbs with
      |nil=>rw[UQ]at hq;omega
      |cons a b=>rfl
     clear hneg hne hz;go_enter Tryz.func101,Tryz.ntmps101;have Hb:Hid (Bw w w):=Below.refl _ _;go_wp2_with fail;obtain⟨R,hR⟩:∃R:World->Prop,(λW=>aC W (w.heap.size) 46 [ar s,ai l]/\Bw w W)=R:=⟨_,rfl⟩;first|refine cj R ?hR ?_|refine cu R ?hR ?_
     case hR=>subst hR;exact⟨(aC.newAt w _ _ (b:=w.heap.size) rfl),zl⟩
     subst hR;rintro W ⟨qx,ag⟩;have Hx:=aj qx;clear qx;obtain⟨x0,x1⟩:=Hx.out.c2;replace Hb:=aF Hb ag;clear ag;go_wp2_with fail;refine(BQ s l _ hl).mono ?_;rintro e w1 ⟨rfl,ag⟩;clear x0 x1;obtain⟨Hx,x0,x1⟩:=bi Hx ag;replace Hb:=aF Hb ag;clear ag;go_wp2;go_ret;rw[ia.out];refine⟨rfl,?_⟩;exact Hb.out.alloc Hb.out.size _
theorem aqx (s:Bool)(l:List UInt8):iv (!s) l= -(iv s l):=by unfold iv;cases s<;>simp
theorem agB (s:Bool)(l:List UInt8)(w:World)(hl:l.length<=1099511627776):
 Calls Tryz.prog 114 #[.agg #[ar s,ai l]] w λe w'=>e=.returned (dt (-(iv s l)))/\Bw w w':=by
 rw[<-aqx];go_enter Tryz.func114,Tryz.ntmps114;have Hb:Hid (Bw w w):=Below.refl _ _;go_wp2_with fail;obtain⟨R,hR⟩:∃R:World->Prop,(λW=>aC W (w.heap.size) 46 [ar s,ai l]/\aC W (w.heap.size+1) 46 [ar false,.string (bs [])]/\Bw w W)=R:=⟨_,rfl⟩;first|refine cj R ?hR ?_|refine cu R ?hR ?_
 case hR=>subst hR;exact⟨((aC.newAt w _ _ (b:=w.heap.size) rfl).alloc _),(aC.newAt (w.alloc _) _ _ (b:=w.heap.size+1) zm),(zl.alloc zj _)⟩
 subst hR;rintro W ⟨qx,qr,ag⟩;have Hx:=aj qx;clear qx;have Hr:=aj qr;clear qr;obtain⟨x0,x1⟩:=Hx.out.c2;obtain⟨r0,au,r1,az⟩:=Hr.out.g2;replace Hb:=aF Hb ag;clear ag;go_wp2_with fail;refine(xt l (!s) _ hl).mono ?_;rintro e w1 ⟨rfl,ag⟩;clear x0 x1 r0 au r1 az;obtain⟨Hx,x0,x1⟩:=bi Hx ag;obtain⟨Hr,r0,au,r1,az⟩:=bE Hr ag;replace Hb:=aF Hb ag;clear ag;go_wp2;exact bodyPost_ret (v:=dt (iv (!s) l)) (by simp[results,Tryz.results114,go_sem,r0,r1]) rfl ⟨rfl,di⟩
def Ni (x:Bool×List UInt8):List Value:=[ar x.1,ai x.2]
def mH (xs:List (Bool×List UInt8)):Int:=(xs.map λx=>iv x.1 x.2).sum
theorem aqv (xs:List (Bool×List UInt8))(k:Nat)(hk:k<xs.length):mH (xs.take (k+1))=mH (xs.take k)+iv xs[k].1 xs[k].2:=by unfold mH;rw[List.take_succ_eq_append_getElem hk,List.map_append,List.sum_append];simp
theorem aqu (xs:List (Bool×List UInt8))(B:Nat)(h:∀x∈xs,x.2.length<=B):(mH xs).natAbs<=xs.length*256^B:=by
 unfold mH;induction xs with
 |nil=>simp
 |cons x xs ih=>have h1:=gz x.2;have h2:256^x.2.length<=256^B:=Nat.pow_le_pow_right zd (h x zm);have h3:=ih (λm hm=>h m (by simp[hm]));have h4:=oX x.1 x.2;simp only[List.map_cons,List.sum_cons,List.length_cons];rw[Nat.add_mul,Nat.one_mul];omega
theorem aqt (xs:List (Bool×List UInt8))(B N:Nat)(h:∀x∈xs,x.2.length<=B)(hx:xs.length<=1048576)(hN:B+3<=N):(nt (mH xs).natAbs).length<=N:=by refine jR (Nat.lt_of_le_of_lt (aqu xs _ h) ?_);refine Nat.lt_of_le_of_lt (Nat.mul_le_mul_right _ hx) ?_;rw[show(1048576:Nat) *256^B=2^20*256^B from rfl,show(256:Nat)=2^8 from rfl,<-Nat.pow_mul,<-Nat.pow_mul,<-Nat.pow_add];exact Nat.pow_lt_pow_right zd zo
theorem aqs (xs:List (Bool×List UInt8))(h:∀x∈xs,x.2.length<=34359738368)(hx:xs.length<=1048576):(nt (mH xs).natAbs).length<=68719476736:=
 aqt xs 34359738368 68719476736 h hx zd
theorem awc (xs:List (Bool×List UInt8))(a:Option Addr)(cap:Nat)(w:World)(hl:∀x∈xs,x.2.length<=34359738368)(hx:xs.length<=1048576)
 (ha:At w a (xs.flatMap Ni)):
 Calls Tryz.prog 60 #[.slice a xs.length cap] w λe w'=>e=.returned (dt (mH xs))/\Bw w w':=by
 have Hl:=aj hl;clear hl;have Ha:=aj ha;clear ha;have xK:Hid (∀k,(nt (mH (xs.take k)).natAbs).length<=68719476736):=λk=>aqs _ (λx hm=>Hl.out x (List.mem_of_mem_take hm)) (by rw[List.length_take];omega);go_enter Tryz.func60,Tryz.ntmps60;have Hb:Hid (Bw w w):=Below.refl _ _;go_wp2_with fail;obtain⟨R,hR⟩:∃R:World->Prop,(λW=>aC W (w.heap.size) 46 [ar false,.string (bs [])]/\aC W (w.heap.size+1) 133 [.string (bs []),ar false]/\Bw w W)=R:=⟨_,rfl⟩;first|refine cj R ?hR ?_|refine cu R ?hR ?_
 case hR=>subst hR;exact⟨((aC.newAt w _ _ (b:=w.heap.size) rfl).alloc _),(aC.newAt (w.alloc _) _ _ (b:=w.heap.size+1) zm),(zl.alloc zj _)⟩
 subst hR;rintro W ⟨qr,qs,ag⟩;have Hr:=aj qr;clear qr;have Hs:=aj qs;clear qs;obtain⟨r0,au,r1,az⟩:=Hr.out.g2;obtain⟨s0,dV,s1,dW⟩:=Hs.out.g2;replace Hb:=aF Hb ag;clear ag
 go_loopw[5,8] (λ_ i wr=>∃(k:Nat) (t:Bool),k<=xs.length/\i=ah k/\iv t (nt (mH (xs.take k)).natAbs)=mH (xs.take k)/\aC wr w.heap.size 46 [ar false,.string (bs [])]/\
  aC wr (w.heap.size+1) 133 [ai (nt (mH (xs.take k)).natAbs),ar t]/\Bw w wr) (λ_ i _=>xs.length-(intOf i).toNat)
 case atStart=>exact⟨0,false,Nat.zero_le _,rfl,rfl,Hr.out,Hs.out,Hb.out⟩
 case round=>
  obtain⟨k,t,hk,rfl,rB,qr,qs,hb⟩:=hrel;obtain⟨Hr,Hs,Hb,ll⟩:=eN qr qs hb rB;clear qr qs hb rB;by_cases hlt:k<xs.length
  . obtain⟨b,o,hab,hcs⟩:=(Ha.out.below Hb.out).elem (f:=Ni) (sz:=2) (λ_=>rfl) zd k hlt;have hc0:wr.cell? ⟨b,o+k*2,none⟩=some (ar xs[k].1):=hcs 0 zd;have hc1:wr.cell? ⟨b,o+k*2+1,none⟩=some (.string (bs xs[k].2)):=hcs 1 zd;have bK:=xm xs.length cap k (k:Int) hab hlt rfl;have cB:=aj (aqv xs k hlt);have lQ:Hid (xs[k].2.length<=34359738368):=Hl.out _ (List.getElem_mem hlt);have gW:=aj (xK.out k);clear hcs hab;generalize xs[k]=x at*;obtain⟨t1,l1⟩:=x;generalize hS:mH (xs.take k)=S at*;have HS:=aj hS;clear hS;obtain⟨r0,au,r1,az⟩:=Hr.out.g2;obtain⟨s0,dV,s1,dW⟩:=Hs.out.g2;have IY:=Hr.out.lt;have UC:=Hs.out.lt;go_wp2_with fail;obtain⟨R,hR⟩:∃R:World->Prop,(λW1=>aC W1 (wr.heap.size) 46 [ar t1,ai l1]/\Bw wr W1)=R:=⟨_,rfl⟩;first|refine cj R ?hR ?_|refine cu R ?hR ?_
    case hR=>subst hR;exact⟨(aC.newAt wr _ _ (b:=wr.heap.size) rfl),zl⟩
    subst hR;rintro W1 ⟨qa,ag⟩;have Ha:=aj qa;clear qa r0 au r1 az;obtain⟨Hr,r0,au,r1,az⟩:=bE Hr ag;clear s0 dV s1 dW;obtain⟨Hs,s0,dV,s1,dW⟩:=bE Hs ag;obtain⟨a0,a1⟩:=Ha.out.c2;replace Hb:=aF Hb ag;clear ag;go_region_with (first| (go_at_call 105;refine(Ev l1 t1 _).mono ?_;rintro e w1 ⟨rfl,hq⟩;have hw1:Bw W1 w1:=bo hq;clear hq;have VA:w1.cell? ⟨w.heap.size+1,0,none⟩=some (ai (nt S.natAbs)):=cell_later hw1 s0;have VD:w1.cell? ⟨w.heap.size+1,1,none⟩=some (ar t):=cell_later hw1 s1;have aoj:=(Hs.out.below hw1).free 0;have aol:=(Hs.out.below hw1).free 1) | (go_at_call 104;refine(atb (nt S.natAbs) l1 t t1 _ gW.out (by have:=lQ.out;omega)).mono ?_;rintro e w2 ⟨rfl,hw2⟩;have auQ:=cell_later hw2 VA;have auS:=cell_later hw2 VD;have aok:=((Hs.out.below hw1).below hw2).free 0;have aom:=((Hs.out.below hw1).below hw2).free 1))
    all_goals
     go_wp2
     go_roundw
     case rel=>have hq:=atu t (nt S.natAbs) t1 l1;rw[ll.out,<-cB.out]at hq;rw[ll.out,<-cB.out];refine⟨k+1,_,by omega,by go_num,hq,((((Hr.out.below hw1).below hw2).aBg ⟨w.heap.size+1,0,none⟩ zp _).aBg ⟨w.heap.size+1,1,none⟩ zp _),((((Hs.out.below hw1).below hw2).set 0 _).set 1 _),?_⟩;exact((aV (aV Hb.out hw1) hw2).setCell zp _).setCell zp _
     case measure=>simp[intOf];omega
  . obtain rfl:k=xs.length:=by omega
    rw[List.take_length]at Hs ll;have gW:=xK.out xs.length;rw[List.take_length]at gW;obtain⟨r0,au,r1,az⟩:=Hr.out.g2;obtain⟨s0,dV,s1,dW⟩:=Hs.out.g2;go_wp2_with fail;refine(xt (nt (mH xs).natAbs) t _ zo).mono ?_;rintro e w1 ⟨rfl,ag⟩;clear r0 au r1 az s0 dV s1 dW;obtain⟨Hr,r0,au,r1,az⟩:=bE Hr ag;obtain⟨Hs,s0,dV,s1,dW⟩:=bE Hs ag;replace Hb:=aF Hb ag;clear ag;rw[ll.out];go_wp2;exact bodyPost_ret (v:=dt (mH xs)) (by simp[results,Tryz.results60,go_sem,r0,r1]) rfl ⟨rfl,di⟩
end Go.Proofs.YtnjfebkelecgaaaGreatDoor
namespace Go.Proofs.YtnjfebkelecgaaaGreatDoor
theorem Et (n k:Int):(Dyadic.ofIntWithPrec n k).toRat=n*2^(-k):=Dyadic.toRat_ofIntWithPrec_eq_mul_two_pow
theorem at0 :((2:Rat))≠0:=by decide
theorem Ei (a b k:Int):Dyadic.ofIntWithPrec a k+Dyadic.ofIntWithPrec b k=Dyadic.ofIntWithPrec (a+b) k:=by rw[<-Dyadic.toRat_inj,Dyadic.toRat_add,Et,Et,Et,Rat.intCast_add,Rat.add_mul]
theorem zr (a b j k:Int):Dyadic.ofIntWithPrec a j*Dyadic.ofIntWithPrec b k=Dyadic.ofIntWithPrec (a*b) (j+k):=by rw[<-Dyadic.toRat_inj,Dyadic.toRat_mul,Et,Et,Et,Rat.intCast_mul,Int.neg_add,Rat.zpow_add at0];grind
theorem xy (a:Int)(n:Nat)(k:Int):Dyadic.ofIntWithPrec (a*2^n) (k+n)=Dyadic.ofIntWithPrec a k:=by have:=@Dyadic.ofIntWithPrec_shiftLeft_add a k n;rwa [Int.shiftLeft_eq]at this
theorem Vb (a k:Int): -Dyadic.ofIntWithPrec a k=Dyadic.ofIntWithPrec (-a) k:=Dyadic.neg_ofIntWithPrec
theorem zu (k:Int):Dyadic.ofIntWithPrec 0 k=0:=Dyadic.ofIntWithPrec_zero
abbrev Raw:=Bool ×List UInt8×Int
def aM (x:Raw):Dyadic:=Dyadic.ofIntWithPrec (iv x.1 x.2.1) (-x.2.2)
def dN :Dyadic->Int
 | .zero=>0
 | .ofOdd n _ _=>n
def dE :Dyadic->Int
 | .zero=>0
 | .ofOdd _ k _=>-k
def canon (d:Dyadic):Raw:=(aI (dN d),nt (dN d).natAbs,dE d)
theorem cN (d:Dyadic):aM (canon d)=d:=by
 unfold aM canon;simp only[fT];cases d with
 |zero=>rfl
 |ofOdd n k hn=>simp only[dN,dE,Int.neg_neg];exact(Dyadic.ofOdd_eq_ofIntWithPrec).symm
theorem ZW {n k:Int}(h:n≠0):dN (Dyadic.ofIntWithPrec n k)=n/2^n.trailingZeros/\dE (Dyadic.ofIntWithPrec n k)=n.trailingZeros-k:=by unfold Dyadic.ofIntWithPrec;rw[dif_neg h];simp only[dN,dE,Int.shiftRight_eq_div_pow];refine⟨by simp[Int.natCast_pow],by omega⟩
theorem Rl :dN 0=0:=rfl
theorem am4 :dE 0=0:=rfl
def Sm (B:Nat)(d:Dyadic):Prop:=∃m:Int,d=Dyadic.ofIntWithPrec m B/\m.natAbs<2^(2*B)
theorem Sm.zero (B:Nat):Sm B 0:=⟨0,(zu _).symm,Nat.pow_pos zd⟩
theorem Sm.mono {A B:Nat}{d:Dyadic}(h:Sm A d)(RP:A<=B):Sm B d:=by
 obtain⟨m,rfl,hm⟩:=h;obtain⟨j,rfl⟩:∃j,B=A+j:=⟨B-A,by omega⟩;refine⟨m*2^j,?_,?_⟩
 . rw[Int.natCast_add,xy]
 . rw[Int.natAbs_mul,Int.natAbs_pow];have:m.natAbs*2^j<2^(2*A) *2^j:=Nat.mul_lt_mul_of_pos_right hm (Nat.pow_pos zd);rw[<-Nat.pow_add]at this;exact Nat.lt_of_lt_of_le this (Nat.pow_le_pow_right zd zo)
theorem Sm.add {B:Nat}{a b:Dyadic}(ha:Sm B a)(hb:Sm B b):Sm (B+1) (a+b):=by
 obtain⟨m,rfl,hm⟩:=ha;obtain⟨n,rfl,hn⟩:=hb;refine⟨(m+n) *2^1,?_,?_⟩
 . rw[Ei,Int.natCast_add];exact(xy _ 1 _).symm
 . rw[show 2* (B+1)=2*B+2 by omega,Nat.pow_add];omega
theorem Sm.neg {B:Nat}{a:Dyadic}(ha:Sm B a):Sm B (-a):=by obtain⟨m,rfl,hm⟩:=ha;exact⟨-m,Vb _ _,by omega⟩
theorem Sm.sub {B:Nat}{a b:Dyadic}(ha:Sm B a)(hb:Sm B b):Sm (B+1) (a-b):=ha.add hb.neg
theorem Sm.mul {A B:Nat}{a b:Dyadic}(ha:Sm A a)(hb:Sm B b):Sm (A+B) (a*b):=by
 obtain⟨m,rfl,hm⟩:=ha;obtain⟨n,rfl,hn⟩:=hb;refine⟨m*n,?_,?_⟩
 . rw[zr,Int.natCast_add]
 . rw[Int.natAbs_mul,Nat.mul_add,Nat.pow_add];exact Nat.mul_lt_mul'' hm hn
theorem avY {n:Int}(h:n≠0):2^n.trailingZeros<=n.natAbs:=by
 have hd:=Int.two_pow_trailingZeros_dvd h;have h2:(2^n.trailingZeros:Nat)∣n.natAbs:=by have:=Int.natAbs_dvd_natAbs.2 hd;rwa [Int.natAbs_pow]at this
 exact Nat.le_of_dvd zo h2
theorem Sm.parts {B:Nat}{d:Dyadic}(h:Sm B d):(dN d).natAbs<2^(2*B)/\ -(B:Int)<=dE d/\dE d<=B:=by
 obtain⟨m,rfl,hm⟩:=h;by_cases h0:m=0
 . subst h0;rw[zu,Rl,am4];exact⟨Nat.pow_pos zd,by omega,by omega⟩
 . obtain ⟨e1,e2⟩:=ZW (k:=B) h0;have h1:=avY h0;have h2:m.trailingZeros<2*B:=by
    rcases Nat.lt_or_ge m.trailingZeros (2*B)with h|h
    . exact h
    . have:=Nat.pow_le_pow_right (show 0<2 by decide) h;omega
   rw[e1,e2];refine⟨?_,by omega,by omega⟩;obtain⟨q,hq⟩:=Int.two_pow_trailingZeros_dvd h0;have hp:(2:Int)^m.trailingZeros≠0:=by
    have:((2^m.trailingZeros:Nat):Int)≠0:=by have:=Nat.pow_pos (n:=m.trailingZeros) (show 0<2 by decide);omega
    simpa[Int.natCast_pow]using this
   have e3:m/2^m.trailingZeros=q:=by
    conv=>lhs;lhs;rw[hq]
    exact Int.mul_ediv_cancel_left _ hp
   rw[e3];have e4:m.natAbs=2^m.trailingZeros*q.natAbs:=by
    conv=>lhs;rw[hq]
    rw[Int.natAbs_mul,Int.natAbs_pow];rfl
   have:=Nat.pow_pos (n:=m.trailingZeros) (show 0<2 by decide);have:q.natAbs<=2^m.trailingZeros*q.natAbs:=Nat.le_mul_of_pos_left _ this;omega
def Ok (x:Raw):Prop:=x.2.1.length<=268435456/\ -268435456<=x.2.2/\x.2.2<=268435456
theorem kR {n k N:Nat}(h:n<2^k)(hN:k<=8*N):(nt n).length<=N:=
 jR (Nat.lt_of_lt_of_le h (by rw[show(256:Nat)=2^8 by rfl,<-Nat.pow_mul];exact Nat.pow_le_pow_right zd hN))
theorem Sm.ok {B:Nat}{d:Dyadic}(h:Sm B d)(hB:B<=268435456):Ok (canon d):=by obtain⟨h1,h2,h3⟩:=h.parts;exact⟨kR h1 zo,by show-268435456<=dE d;omega,by show dE d<=268435456;omega⟩
theorem Sm.raw {x:Raw}{B:Nat}(hl:8*x.2.1.length<=B)(h1: -(B:Int)<=x.2.2)(h2:x.2.2<=B):Sm (2*B) (aM x):=by
 unfold aM;obtain⟨j,hj⟩:∃j:Nat,x.2.2+(2*B:Nat)=j:=⟨(x.2.2+(2*B:Nat)).toNat,by omega⟩;refine⟨iv x.1 x.2.1*2^j,?_,?_⟩
 . rw[<-xy (iv x.1 x.2.1) j (-x.2.2)];congr 1;omega
 . rw[Int.natAbs_mul,Int.natAbs_pow,oX];have hv:=gz x.2.1;rw[show(256:Nat)=2^8 by rfl,<-Nat.pow_mul]at hv;have:nv x.2.1*2^j<2^(8*x.2.1.length) *2^j:=Nat.mul_lt_mul_of_pos_right hv (Nat.pow_pos zd);rw[<-Nat.pow_add]at this;exact Nat.lt_of_lt_of_le this (Nat.pow_le_pow_right zd zo)
theorem Ok.sm {x:Raw}(h:Ok x):Sm 4294967296 (aM x):=Sm.raw (B:=2147483648) (by have:=h.1;omega) (by have:=h.2.1;omega) (by have:=h.2.2;omega)
def lJ (g:Nat->Nat->Int)(k:Nat)(last:Int)(i j:Nat):Nat->Nat->Int:=λa b=>if k<a/\k<b/\(a<i\/a=i/\b<j)then cO g k a b/last else g a b
theorem asY (g:Nat->Nat->Int)(k:Nat)(last:Int):lJ g k last (k+1) (k+1)=g:=by
 funext a b;unfold lJ
 rw[if_neg zo]
theorem asW (g:Nat->Nat->Int)(k:Nat)(last:Int)(i j:Nat)(hi:k<i)(hj:k<j):(λa b=>if a=i/\b=j then cO g k i j/last else lJ g k last i j a b)=lJ g k last i (j+1):=by
 funext a b;unfold lJ
 by_cases h:a=i/\b=j
 . obtain⟨rfl,rfl⟩:=h;rw[if_pos ⟨rfl,rfl⟩,if_pos ⟨hi,hj,.inr ⟨rfl,by omega⟩⟩]
 . rw[if_neg h];by_cases h2:k<a/\k<b/\(a<i\/a=i/\b<j)
   . rw[if_pos h2,if_pos ⟨h2.1,h2.2.1,by omega⟩]
   . rw[if_neg h2,if_neg (λh3=>h2 ⟨h3.1,h3.2.1,by omega⟩)]
theorem asX (g:Nat->Nat->Int)(k:Nat)(last:Int)(i n:Nat):∀a b,b<n->lJ g k last i n a b=lJ g k last (i+1) (k+1) a b:=by
 intro a b hb;unfold lJ;by_cases h2:k<a/\k<b/\(a<i\/a=i/\b<n)
 . rw[if_pos h2,if_pos ⟨h2.1,h2.2.1,by omega⟩]
 . rw[if_neg h2,if_neg (λh3=>h2 ⟨h3.1,h3.2.1,by omega⟩)]
theorem asU (g:Nat->Nat->Int)(k:Nat)(last:Int)(n:Nat):∀a b,a<n->lJ g k last n (k+1) a b=dX g k last a b:=by
 intro a b ha;unfold lJ dX;by_cases h2:k<a/\k<b/\(a<n\/a=n/\b<k+1)
 . rw[if_pos h2,if_pos ⟨h2.1,h2.2.1⟩]
 . rw[if_neg h2,if_neg (λh3=>h2 ⟨h3.1,h3.2,by omega⟩)]
theorem asV (g:Nat->Nat->Int)(k:Nat)(last:Int)(i j:Nat):lJ g k last i j i j=g i j/\lJ g k last i j k k=g k k/\lJ g k last i j i k=g i k/\lJ g k last i j k j=g k j:=by unfold lJ;refine⟨if_neg zo,if_neg zo,if_neg zo,if_neg zo⟩
theorem UV (g:Nat->Nat->Int)(k a b K:Nat)(h1:(g a b).natAbs<2^K)(h2:(g k k).natAbs<2^K)(h3:(g a k).natAbs<2^K)(h4:(g k b).natAbs<2^K):
 (g a b*g k k).natAbs<2^(2*K)/\(g a k*g k b).natAbs<2^(2*K)/\(cO g k a b).natAbs<2^(2*K+1):=by
 have e:2^(2*K)=2^K*2^K:=by rw[<-Nat.pow_add];congr 1;omega
 have m1:(g a b*g k k).natAbs<2^K*2^K:=by rw[Int.natAbs_mul];exact Nat.mul_lt_mul'' h1 h2
 have m2:(g a k*g k b).natAbs<2^K*2^K:=by rw[Int.natAbs_mul];exact Nat.mul_lt_mul'' h3 h4
 refine⟨by rw[e];exact m1,by rw[e];exact m2,?_⟩;rw[Nat.pow_succ,e];unfold cO;generalize g a b*g k k=x at*;generalize g a k*g k b=y at*;omega
theorem div_lt (x y:Int)(M:Nat)(h:x.natAbs<M):(x/y).natAbs<M\/¬y∣x:=by
 by_cases hd:y∣x
 . left;obtain⟨q,rfl⟩:=hd;by_cases hy:y=0
   . subst hy;simp;omega
   . rw[Int.mul_ediv_cancel_left _ hy];rw[Int.natAbs_mul]at h;have:1<=y.natAbs:=by omega
     have:=Nat.mul_le_mul_right q.natAbs this;omega
 . right;exact hd
theorem Vd (a b k:Int):Dyadic.ofIntWithPrec a k-Dyadic.ofIntWithPrec b k=Dyadic.ofIntWithPrec (a-b) k:=by
 have h:Dyadic.ofIntWithPrec a k-Dyadic.ofIntWithPrec b k=Dyadic.ofIntWithPrec a k+ -Dyadic.ofIntWithPrec b k:=by grind
 rw[h,Vb,Ei];rfl
theorem ann (n:Nat)(hn:1<=n)(dv:n<=4)(f:Nat->Nat->Int)(e:Nat->Nat->Dyadic)(q:Int)(h:∀a b,a<n->b<n->e a b=Dyadic.ofIntWithPrec (f a b) q):
 ft n e=Dyadic.ofIntWithPrec (fq n n 0 f 1 false) (n*q):=by
 have hc:n=1\/n=2\/n=3\/n=4:=by omega
 rcases hc with rfl|rfl|rfl|rfl
 . rw[aly];unfold ft;simp only;rw[h 0 0 zo zo];congr 1;omega
 . rw[alz];unfold ft Ar;simp only;rw[h 0 0 zo zo,h 1 1 zo zo,h 0 1 zo zo,h 1 0 zo zo,zr,zr,Vd];congr 1;omega
 . rw[alA];unfold ft jk;simp only;rw[h 0 0 zo zo,h 1 1 zo zo,h 0 1 zo zo,h 1 0 zo zo,h 0 2 zo zo,h 2 0 zo zo,h 1 2 zo zo,h 2 1 zo zo,h 2 2 zo zo];simp only[zr,Vd,Ei];congr 1;omega
 . rw[alC];unfold ft fu;simp only;rw[h 0 0 zo zo,h 1 1 zo zo,h 0 1 zo zo,h 1 0 zo zo,h 0 2 zo zo,h 2 0 zo zo,h 1 2 zo zo,h 2 1 zo zo,h 2 2 zo zo];rw[h 0 3 zo zo,h 1 3 zo zo,h 2 3 zo zo,h 3 0 zo zo,h 3 1 zo zo,h 3 2 zo zo,h 3 3 zo zo];simp only[zr,Vd,Ei];congr 1;omega
theorem aaq (n:Nat)(hn:1<=n)(dv:n<=4)(f:Nat->Nat->Int):ig n n 0 f 1:=by
 have hc:n=1\/n=2\/n=3\/n=4:=by omega
 rcases hc with rfl|rfl|rfl|rfl
 . exact anT f
 . exact anU f
 . exact anV f
 . exact anW f
end Go.Proofs.YtnjfebkelecgaaaGreatDoor
