/- Small facts that walks over blocks of one's own share. -/
import Derived.Test.YtbkopgdpcijfbaaGreatDoorZ5
import Derived.Deep.RegionHeld3
import Derived.Deep.DrawnRows
import Derived.Test.YtbkopgdpcijfbaaGreatDoorZ1
set_option linter.all false
set_option maxRecDepth 100000
set_option maxHeartbeats 16000000
namespace Go.Proofs.YtbkopgdpcijfbaaGreatDoor
open Go.RowKit
def dA {P:Program}{c:Code}{Q:Exit->Act->World->Prop}{a:Act}{W:World}(S:World->Prop)(hS:S W)(h:∀W',S W'->c.wp P Q a W'):c.wp P Q a W:=h W hS
def dV {P:Program}{f:FuncId}{args:Array Value}{R:Ending->World->Prop}{W:World}(S:World->Prop)(hS:S W)(h:∀W',S W'->Calls P f args W' R):Calls P f args W R:=h W hS
def gZ {w:World}{p a:Addr}{u v:Value}(hne:a.block≠p.block)(h:w.cell? a=some v):(w.setCell p u).cell? a=some v:=
 (World.cell?_of_block (w:=w) (Below.heap_setCell _ _ _ _ hne)).trans h
def ar.newAt (w:World)(t:TypeId)(cs:List Value){b:Nat}(h:w.heap.size=b):ar (w.alloc (.cells cs.toArray t)) b t cs:=by subst h;exact ar.new w t cs
def NB1 (w:World)(t0:TypeId)(l0:List Value)(W:World):Prop:=RowKit.Hid (ar W (w.heap.size) t0 l0)/\Bw w W
def np (w:World)(t0:TypeId)(l0:List Value):NB1 w t0 l0 (w.alloc (.cells l0.toArray t0)):=⟨aj (ar.new _ _ _),((Below.refl _ _).alloc (Nat.le_refl _) _)⟩
def NB2 (w:World)(t0:TypeId)(l0:List Value)(t1:TypeId)(l1:List Value)(W:World):Prop:=RowKit.Hid (ar W (w.heap.size) t0 l0)/\RowKit.Hid (ar W (w.heap.size+1) t1 l1)/\Bw w W
def CP (w:World)(t0:TypeId)(l0:List Value)(t1:TypeId)(l1:List Value):NB2 w t0 l0 t1 l1 ((w.alloc (.cells l0.toArray t0)).alloc (.cells l1.toArray t1)):=⟨aj ((ar.new _ _ _).alloc _),aj (ar.newAt _ _ _ (by simp)),(((Below.refl _ _).alloc (Nat.le_refl _) _).alloc (by simp<;>omega) _)⟩
def NB3 (w:World)(t0:TypeId)(l0:List Value)(t1:TypeId)(l1:List Value)(t2:TypeId)(l2:List Value)(W:World):Prop:=RowKit.Hid (ar W (w.heap.size) t0 l0)/\RowKit.Hid (ar W (w.heap.size+1) t1 l1)/\RowKit.Hid (ar W (w.heap.size+1+1) t2 l2)/\Bw w W
def Kr (w:World)(t0:TypeId)(l0:List Value)(t1:TypeId)(l1:List Value)(t2:TypeId)(l2:List Value):NB3 w t0 l0 t1 l1 t2 l2 (((w.alloc (.cells l0.toArray t0)).alloc (.cells l1.toArray t1)).alloc (.cells l2.toArray t2)):=⟨aj (((ar.new _ _ _).alloc _).alloc _),aj ((ar.newAt _ _ _ (by simp)).alloc _),aj (ar.newAt _ _ _ (by simp)),((((Below.refl _ _).alloc (Nat.le_refl _) _).alloc (by simp<;>omega) _).alloc (by simp<;>omega) _)⟩
def CR (w:World)(t0:TypeId)(l0:List Value):∃W,(w.alloc (.cells l0.toArray t0))=W/\Bw w W/\RowKit.Hid (ar W (w.heap.size) t0 l0):=⟨_,rfl,zl,aj (ar.new _ _ _)⟩
def axg (w:World)(t0:TypeId)(l0:List Value):∃W,(w.alloc (.cells l0.toArray t0))=W/\RowKit.Hid (Bw w W)/\RowKit.Hid (ar W (w.heap.size) t0 l0):=⟨_,rfl,aj zl,aj (ar.new _ _ _)⟩
def axh (w:World)(t0:TypeId)(l0:List Value)(t1:TypeId)(l1:List Value):∃W,((w.alloc (.cells l0.toArray t0)).alloc (.cells l1.toArray t1))=W/\RowKit.Hid (Bw w W)/\RowKit.Hid (ar W (w.heap.size) t0 l0)/\RowKit.Hid (ar W (w.heap.size+1) t1 l1):=⟨_,rfl,aj (zl.alloc zj _),aj ((ar.new _ _ _).alloc _),aj (ar.newAt _ _ _ zm)⟩
def cu {a w:World}(h:Below a.drew.heap.size a.drew w):Bw a w:=⟨h.os,h.tape,h.output,h.size,h.block⟩
def aI {w W w1:World}(h:Bw w W)(k:Bw W w1):Bw w w1:=h.trans (k.mono h.size)
def aW {w W w1:World}(h:Hid (Bw w W))(k:Bw W w1):Hid (Bw w w1):=aI h.out k
def df {p:Prop}(h:p:=by(repeat first|exact Hb.out| (refine Below.setCell ?_ (by have:=Hb.out.size;first| (dsimp only;omega) | (show _<=_;omega) | (simp<;>omega)) _) | (refine Below.alloc ?_ (by have:=Hb.out.size;simp<;>omega) _) |refine Below.drew ?_)):p:=h
def xg (b:Nat):Nat->List Value->World->World
 |_,[],w=>w
 |o,v::l,w=>xg b (o+1) l (w.setCell ⟨b,o,none⟩ v)
def bV :Nat->List Value->List Value->List Value
 |_,[],c=>c
 |o,v::l,c=>bV (o+1) l (c.set o v)
def aV (w:World)(b o:Nat)(vs:List Value)(w':World):Prop:=w'=xg b o vs w\/w'=xg b o vs w.drew
def stI {w:World}{b o:Nat}{vs:List Value}:aV w b o vs (xg b o vs w):=.inl rfl
def stJ {w:World}{b o:Nat}{vs:List Value}:aV w b o vs (xg b o vs w.drew):=.inr rfl
def aX {w:World}{b o:Nat}{vs:List Value}{w':World}(h:aV w b o vs w':=by first|exact stI|exact stJ):aV w b o vs w':=h
def azj (vs:List Value):∀(o:Nat) (cs:List Value),cs.length=o+vs.length->bV o vs cs=cs.take o++vs:=by
 induction vs with
 |nil=>intro o cs h;simp only[bV,List.append_nil];rw[List.take_of_length_le (by simp at h;omega)]
 |cons v vs ih=>intro o cs h;simp only[List.length_cons]at h;rw[bV,ih (o+1) _ (by rw[List.length_set];omega),List.take_succ_eq_append_getElem (by rw[List.length_set];omega),List.getElem_set_self,List.take_set_of_le (Nat.le_refl _),List.append_assoc];rfl
def ajf (p b:Nat)(n:p≠b)(t:TypeId)(cs:List Value)(vs:List Value):∀(o:Nat) (w:World),ar w b t cs->ar (xg p o vs w) b t cs:=by
 induction vs with
 |nil=>intro o w h;exact h
 |cons v vs ih=>intro o w h;exact ih _ _ (h.aGq ⟨p,o,none⟩ n v)
def ajg (b:Nat)(t:TypeId)(vs:List Value):∀(o:Nat) (w:World) (cs:List Value),ar w b t cs->ar (xg b o vs w) b t (bV o vs cs):=by
 induction vs with
 |nil=>intro o w cs h;exact h
 |cons v vs ih=>intro o w cs h;exact ih _ _ _ (h.set o v)
def aje (a w0:World)(p:Nat)(n:a.heap.size<=p)(vs:List Value):∀(o:Nat) (w:World),Below a.heap.size w0 w->Below a.heap.size w0 (xg p o vs w):=by
 induction vs with
 |nil=>intro o w h;exact h
 |cons v vs ih=>intro o w h;exact ih _ _ (h.setCell n v)
def kS {w w':World}{b p o:Nat}{t:TypeId}{cs vs:List Value}(h:Hid (ar w b t cs))(k:aV w p o vs w')(n:p≠b):Hid (ar w' b t cs):=by
 rcases k with rfl|rfl
 . exact ajf p b n t cs vs o _ h.out
 . exact ajf p b n t cs vs o _ h.out.drew
def Az {w w':World}{b o:Nat}{t:TypeId}{cs vs:List Value}(h:Hid (ar w b t cs))(k:aV w b o vs w'):Hid (ar w' b t (bV o vs cs)):=by
 rcases k with rfl|rfl
 . exact ajg b t vs o _ cs h.out
 . exact ajg b t vs o _ cs h.out.drew
def jJ {w w':World}{b:Nat}{t:TypeId}{cs vs:List Value}(h:Hid (ar w b t cs))(k:aV w b 0 vs w')(e:cs.length=vs.length:=by rfl):Hid (ar w' b t vs):=by have:=Az h k;rwa [azj vs 0 cs zo,List.take_zero,List.nil_append]at this
def bS {a w w':World}{p o:Nat}{vs:List Value}(h:Hid (Bw a w))(k:aV w p o vs w')(n:a.heap.size<=p):Hid (Bw a w'):=by
 rcases k with rfl|rfl
 . exact aje a a p n vs o _ h.out
 . exact aje a a p n vs o _ h.out.drew
def uJ {a w:World}{o:Obj}(h:Below (a.alloc o).heap.size (a.alloc o) w):Bw a w:=aI zl h
def uK {a w:World}{o:Obj}(h:Below (a.drew.alloc o).heap.size (a.drew.alloc o) w):Bw a w:=cu (uJ h)
def xQ {a w:World}{o:Obj}(h:Below (a.alloc o).drew.heap.size (a.alloc o).drew w):Bw a w:=uJ (cu h)
def aU {w:World}{a:Addr}{v:Value}{o:Obj}(h:w.cell? a=some v):(w.alloc o).cell? a=some v:=cell_later zl h
def SV {w:World}{a:Addr}{v:Value}(h:w.cell? a=some v):w.drew.cell? a=some v:=h
def At.aGr {w:World}{b:Nat}{t:TypeId}{cs:List Value}(h:ar w b t cs):At w (some ⟨b,0,none⟩) cs:=
 .inr ⟨b,0,rfl,λj _=>by rw[Nat.zero_add];exact h.cell j⟩
def flat_get {α:Type}(f:α->List Value)(sz:Nat)(hf:∀x,(f x).length=sz)(xs:List α)(k i:Nat)(hk:k<xs.length)(hi:i<sz):
 (xs.flatMap f)[k*sz+i]?=(f xs[k])[i]?:=by
 induction xs generalizing k with
 |nil=>simp at hk
 | cons x xs ih=>
   rw[List.flatMap_cons];cases k with
   |zero=>rw[Nat.zero_mul,Nat.zero_add,List.getElem?_append_left (by rw[hf];exact hi)];rfl
   | succ k=>
     have e:(k+1) *sz+i=(f x).length+(k*sz+i):=by rw[hf,Nat.add_mul,Nat.one_mul];omega
     rw[e,List.getElem?_append_right zo,Nat.add_sub_cancel_left,ih k (by simpa using hk)];rfl
def kQ {α:Type}(f:α->List Value)(sz:Nat)(hf:∀x,(f x).length=sz)(xs:List α):(xs.flatMap f).length=xs.length*sz:=by
 induction xs with
 |nil=>simp
 |cons x xs ih=>rw[List.flatMap_cons,List.length_append,ih,hf,List.length_cons,Nat.add_mul,Nat.one_mul,Nat.add_comm]
def At.elem {α:Type}{f:α->List Value}{sz:Nat}(hf:∀x,(f x).length=sz)(hsz:0<sz){W:World}{a:Option Addr}{xs:List α}(h:At W a (xs.flatMap f))(k:Nat)(hk:k<xs.length):
 ∃b o,a=some ⟨b,o,none⟩/\∀i,i<sz->W.cell? ⟨b,o+k*sz+i,none⟩=(f xs[k])[i]?:=by
 have hl:=kQ f sz hf xs;have hb:∀i,i<sz->k*sz+i<xs.length*sz:=by intro i hi;have:(k+1) *sz<=xs.length*sz:=Nat.mul_le_mul_right _ hk;rw[Nat.add_mul,Nat.one_mul]at this;omega
 have hne:xs.flatMap f≠[]:=by intro h0;have:=congrArg List.length h0;rw[hl]at this;have:=hb 0 hsz;simp at*;omega
 obtain⟨b,o,ha,hc⟩:=h.get hne;refine⟨b,o,ha,λi hi=>?_⟩;rw[Nat.add_assoc,hc _ (by rw[hl];exact hb i hi),flat_get f sz hf xs k i hk hi]
end Go.Proofs.YtbkopgdpcijfbaaGreatDoor
namespace Go.Proofs.YtbkopgdpcijfbaaGreatDoor
open Go.RowKit
attribute [local go_sem ↓] Go.wp_at_zero Go.wp_at_succ
def iv (s:Bool)(l:List UInt8):Int:=if s then-(nv l:Int)else(nv l:Int)
def wQ (s:Bool)(l:List UInt8):(iv s l).natAbs=nv l:=by unfold iv;split<;>omega
def az (n:Int):Bool:=decide (n<0)
def ag5 (s:Bool)(l:List UInt8):az (iv s l)=(s&& !(nt (nv l)).isEmpty):=by
 unfold az;have h:(nt (nv l)).isEmpty=decide (nv l=0):=by rw[Bool.eq_iff_iff,List.isEmpty_iff,WR,decide_eq_true_iff]
 rw[h];unfold iv;cases s<;>simp
 by_cases h0:nv l=0<;>simp[h0];omega
abbrev cd (n:Int):Value:=.agg #[ag (az n),ah (nt n.natAbs)]
def dH (n:Int):iv (az n) (nt n.natAbs)=n:=by unfold iv az;rw[jP];by_cases h:n<0<;>simp[h]<;>omega
def vB (s:Bool)(n:Nat):iv s (nt n)=if s then-(n:Int)else n:=by unfold iv;rw[jP]
def PU (l:List UInt8)(s:Bool)(w:World):
 Cv 215 #[.agg #[ag s,ah l]] w (.agg #[ah l,ag s]):=by
 go_enter Tryz.func215,Tryz.ntmps215;have Hb:=hbz w;go_wp2;exact bodyPost_ret (v:=.agg #[ah l,ag s]) (by simp[results,Tryz.results215,go_sem]) rfl ⟨rfl,df⟩
def AG (l:List UInt8)(s:Bool)(w:World)(hl:l.length<=1099511627776):
 Cv 207 #[.agg #[ah l,ag s]] w (cd (iv s l)):=by
 unfold cd;rw[wQ,ag5];have hne:=vZ (nt (nv l));generalize hb:(nt (nv l)).isEmpty=b at*;have HB:=aj hb;clear hb;cases s
 . go_enter Tryz.func207,Tryz.ntmps207;have Hb:=hbz w;go_wp2_with (go_at_call 261;refine(ajw l _ hl).mono ?_;rintro e w1 ⟨rfl,rfl⟩);go_wp2;exact bodyPost_ret (v:=.agg #[ag false,ah (nt (nv l))]) (by simp[results,Tryz.results207,go_sem]) rfl ⟨rfl,df⟩
 . go_enter Tryz.func207,Tryz.ntmps207;have Hb:=hbz w;go_wp2_with (go_at_call 261;refine(ajw l _ hl).mono ?_;rintro e w1 ⟨rfl,rfl⟩);go_wp2;exact bodyPost_ret (v:=.agg #[.bool !b,ah (nt (nv l))]) (by simp[results,Tryz.results207,go_sem]) rfl ⟨rfl,df⟩
def awP (l m:List UInt8)(b cap:Nat)(t:TypeId)(w:World)(hl:l.length<=68719476736)(hm:m.length<=68719476736)(ha:ar w b t [ah l,ah m]):
 Cv 282 #[.slice (some ⟨b,0,none⟩) 2 cap] w (ah (nt (nv l+nv m))):=by
 have:=awO [l,m] (some ⟨b,0,none⟩) cap w (by simp[hl,hm]) zm (At.aGr ha);have e:kz [l,m]=nv l+nv m:=by simp[kz]
 rw[e]at this;exact this
def ax0 (l m:List UInt8)(s:Bool)(w:World)(hl:l.length<=68719476736)(hm:m.length<=68719476736):
 Cv 232 #[.agg #[.string (bs l),.bool s],.agg #[.string (bs m),.bool s]] w (.agg #[.string (bs (nt (nv l+nv m))),.bool s]):=by
 go_enter Tryz.func232,Tryz.ntmps232;have Hb:=hbz w;go_wp2_with fail;have q:=Kr w 243 [.string (bs l),.bool s] 243 [.string (bs m),.bool s] 243 [.string (bs []),.bool false];first|refine dA _ q ?_|refine dV _ q ?_
 clear q;rintro W ⟨Hx,Hy,Hr,ai⟩;obtain⟨x0,x1⟩:=Hx.out.c2;obtain⟨y0,y1⟩:=Hy.out.c2;obtain⟨r0,aO,r1,aQ⟩:=Hr.out.g2;replace Hb:=aW Hb ai;have WP:w.heap.size≠w.heap.size+1+1:=by omega
 have ney:w.heap.size+1≠w.heap.size+1+1:=by omega
 go_region_held3 (λw'=>w'.cell? ⟨w.heap.size,0,none⟩=some (.string (bs l))/\w'.cell? ⟨w.heap.size,1,none⟩=some (.bool s)/\w'.cell? ⟨w.heap.size+1,0,none⟩=some (.string (bs m))/\w'.cell? ⟨w.heap.size+1,1,none⟩=some (.bool s)) (((try dsimp only);go_split_ands;(repeat' apply And.intro)<;>(first|exact True.intro|with_reducible assumption| ((with_reducible refine gZ zg ?_);(repeat(with_reducible refine gZ zg ?_));with_reducible assumption) |exact cell_later (by with_reducible assumption) (by with_reducible assumption) |exact aU (by with_reducible assumption) |go_keep))) (first| (go_at_call 282;(with_reducible refine(awP l m W.heap.size 2 9 _ hl hm (by first|exact ar.drew (ar.new _ _ _) |exact ar.new _ _ _)).mono ?_);rintro e w1 ⟨rfl,hq⟩;have hw1:Bw W w1:=(by first|exact cu hq|exact hq|exact uK hq|exact uJ hq|exact xQ hq);clear hq;have mH:=aj (Hx.out.below hw1);have Dd:w1.cell? ⟨w.heap.size,0,none⟩=some (.string (bs l)):=mH.out.cell 0;have De:w1.cell? ⟨w.heap.size,1,none⟩=some (.bool s):=mH.out.cell 1;have tA:=aj (Hy.out.below hw1);have Ld:w1.cell? ⟨w.heap.size+1,0,none⟩=some (.string (bs m)):=tA.out.cell 0;have Le:w1.cell? ⟨w.heap.size+1,1,none⟩=some (.bool s):=tA.out.cell 1;have iO:=aj (Hr.out.below hw1);have CX:w1.cell? ⟨w.heap.size+1+1,0,none⟩=some (.string (bs [])):=iO.out.cell 0;have BU:w1.frozen? ⟨w.heap.size+1+1,0,none⟩=false:=iO.out.free 0;have CY:w1.cell? ⟨w.heap.size+1+1,1,none⟩=some (.bool false):=iO.out.cell 1;have BV:w1.frozen? ⟨w.heap.size+1+1,1,none⟩=false:=iO.out.free 1))
 replace Hb:=aj (aI Hb.out hw1);clear hw1 x0 x1 y0 y1 r0 aO r1 aQ;replace Hx:=mH;clear Dd De;replace Hy:=tA;clear Ld Le;replace Hr:=iO;clear CX BU CY BV;obtain⟨x0,x1⟩:=Hx.out.c2;obtain⟨y0,y1⟩:=Hy.out.c2;obtain⟨r0,aO,r1,aQ⟩:=Hr.out.g2;go_wp2;exact bodyPost_ret (v:=.agg #[.string (bs (nt (nv l+nv m))),.bool s]) (by simp[results,Tryz.results232,go_sem,r0,r1]) rfl ⟨rfl,df⟩
def aiP (l m:List UInt8)(w:World)(hl:l.length<=68719476736)(hm:m.length<=68719476736):
 Cv 283 #[ah l,ah m] w (af (dx (nv l) (nv m))):=by
 go_enter Tryz.func283,Tryz.ntmps283;have Hb:=hbz w;go_wp2_with fail;refine(awQ l m _ hl hm).mono ?_;rintro e w1 ⟨rfl,ai⟩;replace Hb:=aW Hb ai;go_wp2;go_ret;exact⟨rfl,Hb.out⟩
def axX (l m:List UInt8)(s:Bool)(w:World)(hl:l.length<=68719476736)(hm:m.length<=68719476736)(h:nv m<=nv l):
 Cv 232 #[.agg #[ah l,ag s],.agg #[ah m,ag (!s)]] w (.agg #[ah (nt (nv l-nv m)),ag s]):=by
 have hc0:0<=dx (nv l) (nv m):=by unfold dx;rw[if_neg zo];split<;>omega
 have yr:(s== !s)=false:=by cases s<;>rfl
 have Hh:=aj h;clear h;go_enter Tryz.func232,Tryz.ntmps232;have Hb:=hbz w;go_wp2_with fail;have q:=Kr w 243 [ah l,ag s] 243 [ah m,ag (!s)] 243 [.string (bs []),ag false];first|refine dA _ q ?_|refine dV _ q ?_
 clear q;rintro W ⟨Hx,Hy,Hr,ai⟩;obtain⟨x0,x1⟩:=Hx.out.c2;obtain⟨y0,y1⟩:=Hy.out.c2;obtain⟨r0,aO,r1,aQ⟩:=Hr.out.g2;replace Hb:=aW Hb ai;go_wp2_with fail;refine(aiP l m _ hl hm).mono ?_;rintro e w1 ⟨rfl,ai⟩;obtain⟨Hx,x0,x1⟩:=eH Hx ai;obtain⟨Hy,y0,y1⟩:=eH Hy ai;obtain⟨Hr,r0,aO,r1,aQ⟩:=dt Hr ai;replace Hb:=aW Hb ai;go_wp2_with fail;refine(ahY l m _ hl hm Hh.out).mono ?_;rintro e w2 ⟨rfl,ai⟩;obtain⟨Hx,x0,x1⟩:=eH Hx ai;obtain⟨Hy,y0,y1⟩:=eH Hy ai;obtain⟨Hr,r0,aO,r1,aQ⟩:=dt Hr ai;replace Hb:=aW Hb ai;go_wp2;exact bodyPost_ret (v:=.agg #[ah (nt (nv l-nv m)),ag s]) (by simp[results,Tryz.results232,go_sem,r0,r1]) rfl ⟨rfl,df⟩
def axY (l m:List UInt8)(s:Bool)(w:World)(hl:l.length<=68719476736)(hm:m.length<=68719476736)(h:nv l<nv m):
 Cv 232 #[.agg #[ah l,ag s],.agg #[ah m,ag (!s)]] w (.agg #[ah (nt (nv m-nv l)),ag (!s)]):=by
 have hc0:dx (nv l) (nv m)<0:=by unfold dx;rw[if_pos h];omega
 have yr:(s== !s)=false:=by cases s<;>rfl
 have Hh:=aj (Nat.le_of_lt h);clear h;go_enter Tryz.func232,Tryz.ntmps232;have Hb:=hbz w;go_wp2_with fail;have q:=Kr w 243 [ah l,ag s] 243 [ah m,ag (!s)] 243 [.string (bs []),ag false];first|refine dA _ q ?_|refine dV _ q ?_
 clear q;rintro W ⟨Hx,Hy,Hr,ai⟩;obtain⟨x0,gu,x1,gv⟩:=Hx.out.g2;obtain⟨y0,fA,y1,fB⟩:=Hy.out.g2;obtain⟨r0,aO,r1,aQ⟩:=Hr.out.g2;replace Hb:=aW Hb ai;go_wp2_with fail;refine(aiP l m _ hl hm).mono ?_;rintro e w1 ⟨rfl,ai⟩;obtain⟨Hx,x0,gu,x1,gv⟩:=dt Hx ai;obtain⟨Hy,y0,fA,y1,fB⟩:=dt Hy ai;obtain⟨Hr,r0,aO,r1,aQ⟩:=dt Hr ai;replace Hb:=aW Hb ai;go_wp2_with fail;obtain⟨R,hR⟩:∃R:World->Prop,(λw2=>ar w2 (w.heap.size) 243 [ah m,ag (!s)]/\ar w2 (w.heap.size+1) 243 [ah l,ag s]/\ar w2 (w.heap.size+1+1) 243 [.string (bs []),ag false]/\Bw w w2)=R:=⟨_,rfl⟩;first|refine dA R ?hR ?_|refine dV R ?hR ?_
 case hR=>subst hR;exact⟨((((Hx.out.set 0 _).set 1 _).so (w.heap.size+1) 0 zo _).so (w.heap.size+1) 1 zo _),((((Hy.out.so (w.heap.size) 0 zo _).so (w.heap.size) 1 zo _).set 0 _).set 1 _),((((Hr.out.so (w.heap.size) 0 zo _).so (w.heap.size) 1 zo _).so (w.heap.size+1) 0 zo _).so (w.heap.size+1) 1 zo _),((((Hb.out.sc (w.heap.size) 0 ZS _).sc (w.heap.size) 1 ZS _).sc (w.heap.size+1) 0 ZS _).sc (w.heap.size+1) 1 ZS _)⟩
 subst hR;rintro w2 ⟨qx,qy,qr,ai⟩;replace Hx:=aj qx;clear qx;replace Hy:=aj qy;clear qy;replace Hr:=aj qr;clear qr;obtain⟨x0,gu,x1,gv⟩:=Hx.out.g2;obtain⟨y0,fA,y1,fB⟩:=Hy.out.g2;obtain⟨r0,aO,r1,aQ⟩:=Hr.out.g2;replace Hb:=aj ai;go_wp2_with fail;refine(ahY m l _ hm hl Hh.out).mono ?_;rintro e w3 ⟨rfl,ai⟩;obtain⟨Hx,x0,gu,x1,gv⟩:=dt Hx ai;obtain⟨Hy,y0,fA,y1,fB⟩:=dt Hy ai;obtain⟨Hr,r0,aO,r1,aQ⟩:=dt Hr ai;replace Hb:=aW Hb ai;go_wp2;exact bodyPost_ret (v:=.agg #[ah (nt (nv m-nv l)),ag (!s)]) (by simp[results,Tryz.results232,go_sem,r0,r1]) rfl ⟨rfl,df⟩
def yK (s:Bool)(l:List UInt8)(t:Bool)(m:List UInt8):Bool:=if s==t then s else if nv l<nv m then t else s
def ayi (s:Bool)(l:List UInt8)(t:Bool)(m:List UInt8):iv (yK s l t m) (nt (iv s l+iv t m).natAbs)=iv s l+iv t m:=by unfold yK iv;rw[jP];cases s<;>cases t<;>simp<;>(try split)<;>omega
def axW (l m:List UInt8)(s t:Bool)(w:World)(hl:l.length<=68719476736)(hm:m.length<=68719476736):
 Cv 232 #[.agg #[ah l,ag s],.agg #[ah m,ag t]] w (.agg #[ah (nt (iv s l+iv t m).natAbs),ag (yK s l t m)]):=by
 by_cases hst:s=t
 . subst hst;have e:(iv s l+iv s m).natAbs=nv l+nv m:=by unfold iv;split<;>omega
   rw[e,show yK s l s m=s by simp[yK]];exact ax0 l m s w hl hm
 . obtain rfl:t= !s:=by cases s<;>cases t<;>simp_all
   by_cases h:nv l<nv m
   . have e:(iv s l+iv (!s) m).natAbs=nv m-nv l:=by unfold iv;cases s<;>simp<;>omega
     rw[e,show yK s l (!s) m= !s by cases s<;>simp[yK,h]];exact axY l m s w hl hm h
   . have e:(iv s l+iv (!s) m).natAbs=nv l-nv m:=by unfold iv;cases s<;>simp<;>omega
     rw[e,show yK s l (!s) m=s by cases s<;>simp[yK,h]];exact axX l m s w hl hm zo
def aAx (l m:List UInt8)(s t:Bool)(w:World)(hl:l.length<=68719476736)(hm:m.length<=68719476736):
 Cv 227 #[.agg #[.string (bs l),.bool s],.agg #[.string (bs m),.bool t]] w (.agg #[.string (bs (nt (nv l*nv m))),.bool (!(s==t))]):=by
 go_enter Tryz.func227,Tryz.ntmps227;have Hb:=hbz w;go_wp2_with fail;have q:=Kr w 243 [.string (bs l),.bool s] 243 [.string (bs m),.bool t] 243 [.string (bs []),.bool false];first|refine dA _ q ?_|refine dV _ q ?_
 clear q;rintro W ⟨Hx,Hy,Hr,ai⟩;obtain⟨x0,x1⟩:=Hx.out.c2;obtain⟨y0,y1⟩:=Hy.out.c2;obtain⟨r0,aO,r1,aQ⟩:=Hr.out.g2;replace Hb:=aW Hb ai;have WP:w.heap.size≠w.heap.size+1+1:=by omega
 have ney:w.heap.size+1≠w.heap.size+1+1:=by omega
 go_region_held3 (λw'=>w'.cell? ⟨w.heap.size,0,none⟩=some (.string (bs l))/\w'.cell? ⟨w.heap.size,1,none⟩=some (.bool s)/\w'.cell? ⟨w.heap.size+1,0,none⟩=some (.string (bs m))/\w'.cell? ⟨w.heap.size+1,1,none⟩=some (.bool t)) (((try dsimp only);go_split_ands;(repeat' apply And.intro)<;>(first|exact True.intro|with_reducible assumption| ((with_reducible refine gZ zg ?_);(repeat(with_reducible refine gZ zg ?_));with_reducible assumption) |exact cell_later (by with_reducible assumption) (by with_reducible assumption) |exact aU (by with_reducible assumption) |go_keep))) (first| (go_at_call 277;(with_reducible refine(awU l m _ hl hm).mono ?_);rintro e w1 ⟨rfl,hq⟩;have hw1:Bw W w1:=(by first|exact cu hq|exact hq|exact uK hq|exact uJ hq|exact xQ hq);clear hq;have mH:=aj (Hx.out.below hw1);have Dd:w1.cell? ⟨w.heap.size,0,none⟩=some (.string (bs l)):=mH.out.cell 0;have De:w1.cell? ⟨w.heap.size,1,none⟩=some (.bool s):=mH.out.cell 1;have tA:=aj (Hy.out.below hw1);have Ld:w1.cell? ⟨w.heap.size+1,0,none⟩=some (.string (bs m)):=tA.out.cell 0;have Le:w1.cell? ⟨w.heap.size+1,1,none⟩=some (.bool t):=tA.out.cell 1;have iO:=aj (Hr.out.below hw1);have CX:w1.cell? ⟨w.heap.size+1+1,0,none⟩=some (.string (bs [])):=iO.out.cell 0;have BU:w1.frozen? ⟨w.heap.size+1+1,0,none⟩=false:=iO.out.free 0;have CY:w1.cell? ⟨w.heap.size+1+1,1,none⟩=some (.bool false):=iO.out.cell 1;have BV:w1.frozen? ⟨w.heap.size+1+1,1,none⟩=false:=iO.out.free 1))
 replace Hb:=aj (aI Hb.out hw1);clear hw1 x0 x1 y0 y1 r0 aO r1 aQ;replace Hx:=mH;clear Dd De;replace Hy:=tA;clear Ld Le;replace Hr:=iO;clear CX BU CY BV;obtain⟨x0,x1⟩:=Hx.out.c2;obtain⟨y0,y1⟩:=Hy.out.c2;obtain⟨r0,aO,r1,aQ⟩:=Hr.out.g2;go_wp2;exact bodyPost_ret (v:=.agg #[.string (bs (nt (nv l*nv m))),.bool (!(s==t))]) (by simp[results,Tryz.results227,go_sem,r0,r1]) rfl ⟨rfl,df⟩
def au0 (s:Bool)(l:List UInt8)(t:Bool)(m:List UInt8):iv (!(s==t)) (nt (nv l*nv m))=iv s l*iv t m:=by unfold iv;rw[jP];cases s<;>cases t<;>simp[Int.natCast_mul,Int.neg_mul,Int.mul_neg]
def Yw (n:Int)(w:World)(h0: -9223372036854775808<=n)(h1:n<=9223372036854775807):
 Cv 133 #[af n] w (cd n):=by
 have hb:n.natAbs<WW:=by rw[ke];omega
 have hlen:(nt n.natAbs).length<=8:=oz (by rw[ke]at hb;omega);have Dm:=aj hb;clear hb;by_cases hn:n<0
 . have tO:IntKind.u64.wrap (-(IntKind.u64.wrap n))=(n.natAbs:Int):=by simp only[IntKind.wrap_u64];omega
   have qA:Hid (iv true (nt n.natAbs)=n):=by show iv _ _=_;unfold iv;rw[jP];simp;omega
   go_enter Tryz.func133,Tryz.ntmps133;have Hb:=hbz w;go_wp2_with fail;have q:=np w 28 [ag false,.string (bs [])];first|refine dA _ q ?_|refine dV _ q ?_
   clear q;rintro W ⟨Hr,ai⟩;obtain⟨r0,aO,r1,aQ⟩:=Hr.out.g2;replace Hb:=aW Hb ai;go_wp2_with fail;refine(ahX n.natAbs Dm.out _).mono ?_;rintro e w1 ⟨rfl,ai⟩;obtain⟨Hr,r0,aO,r1,aQ⟩:=dt Hr ai;replace Hb:=aW Hb ai;go_wp2_with fail;refine(AG (nt n.natAbs) true _ zo).mono ?_;rintro e w2 ⟨rfl,ai⟩;obtain⟨Hr,r0,aO,r1,aQ⟩:=dt Hr ai;replace Hb:=aW Hb ai;rw[qA.out];go_wp2;exact bodyPost_ret (v:=cd n) (by simp[results,Tryz.results133,go_sem,r0,r1]) rfl ⟨rfl,df⟩
 . have tO:IntKind.u64.wrap n=(n.natAbs:Int):=by simp only[IntKind.wrap_u64];omega
   have qA:Hid (iv false (nt n.natAbs)=n):=by show iv _ _=_;unfold iv;rw[jP];simp;omega
   go_enter Tryz.func133,Tryz.ntmps133;have Hb:=hbz w;go_wp2_with fail;have q:=np w 28 [ag false,.string (bs [])];first|refine dA _ q ?_|refine dV _ q ?_
   clear q;rintro W ⟨Hr,ai⟩;obtain⟨r0,aO,r1,aQ⟩:=Hr.out.g2;replace Hb:=aW Hb ai;go_wp2_with fail;refine(ahX n.natAbs Dm.out _).mono ?_;rintro e w1 ⟨rfl,ai⟩;obtain⟨Hr,r0,aO,r1,aQ⟩:=dt Hr ai;replace Hb:=aW Hb ai;go_wp2_with fail;refine(AG (nt n.natAbs) false _ zo).mono ?_;rintro e w2 ⟨rfl,ai⟩;obtain⟨Hr,r0,aO,r1,aQ⟩:=dt Hr ai;replace Hb:=aW Hb ai;rw[qA.out];go_wp2;exact bodyPost_ret (v:=cd n) (by simp[results,Tryz.results133,go_sem,r0,r1]) rfl ⟨rfl,df⟩
def xm (s:Bool)(l:List UInt8)(w:World)(hl:l.length<=1099511627776):
 Cv 141 #[.agg #[ag s,ah l]] w (cd (iv s l)):=by
 go_enter Tryz.func141,Tryz.ntmps141;have Hb:=hbz w;go_wp2_with fail;have q:=CP w 28 [ag s,ah l] 28 [ag false,.string (bs [])];first|refine dA _ q ?_|refine dV _ q ?_
 clear q;rintro W ⟨Hx,Hr,ai⟩;obtain⟨x0,x1⟩:=Hx.out.c2;obtain⟨r0,aO,r1,aQ⟩:=Hr.out.g2;replace Hb:=aW Hb ai;go_wp2_with fail;refine(PU l s _).mono ?_;rintro e w1 ⟨rfl,ai⟩;obtain⟨Hx,x0,x1⟩:=eH Hx ai;obtain⟨Hr,r0,aO,r1,aQ⟩:=dt Hr ai;replace Hb:=aW Hb ai;go_wp2_with fail;refine(AG l s _ hl).mono ?_;rintro e w2 ⟨rfl,ai⟩;obtain⟨Hx,x0,x1⟩:=eH Hx ai;obtain⟨Hr,r0,aO,r1,aQ⟩:=dt Hr ai;replace Hb:=aW Hb ai;go_wp2;exact bodyPost_ret (v:=cd (iv s l)) (by simp[results,Tryz.results141,go_sem,r0,r1]) rfl ⟨rfl,df⟩
def eI (n:Int):Int:=if n<0 then-1 else if n=0 then 0 else 1
def FM (s:Bool)(l:List UInt8)(w:World)(hl:l.length<=1099511627776):
 Cv 53 #[.agg #[ag s,ah l]] w (af (eI (iv s l))):=by
 have hne:=vZ (nt (iv s l).natAbs);by_cases hneg:iv s l<0
 . have hs:az (iv s l)=true:=by simp[az,hneg]
   have iu:Hid (eI (iv s l)= -1):=by show eI _=_;simp[eI,hneg]
   clear hneg hne;go_enter Tryz.func53,Tryz.ntmps53;have Hb:=hbz w;go_wp2_with fail;have q:=np w 28 [ag s,ah l];first|refine dA _ q ?_|refine dV _ q ?_
   clear q;rintro W ⟨Hx,ai⟩;obtain⟨x0,x1⟩:=Hx.out.c2;replace Hb:=aW Hb ai;go_wp2_with fail;refine(xm s l _ hl).mono ?_;rintro e w1 ⟨rfl,ai⟩;obtain⟨Hx,x0,x1⟩:=eH Hx ai;replace Hb:=aW Hb ai;go_wp2;go_ret;rw[iu.out];refine⟨rfl,?_⟩;exact Hb.out.alloc Hb.out.size _
 . have hs:az (iv s l)=false:=by simp[az,hneg]
   by_cases hz:iv s l=0
   . have iu:Hid (eI (iv s l)=0):=by show eI _=_;simp[eI,hz]
     have auf:(bs (nt (iv s l).natAbs)).toList.isEmpty=true:=by rw[hne,hz];rfl
     clear hneg hne hz;go_enter Tryz.func53,Tryz.ntmps53;have Hb:=hbz w;go_wp2_with fail;have q:=np w 28 [ag s,ah l];first|refine dA _ q ?_|refine dV _ q ?_
     clear q;rintro W ⟨Hx,ai⟩;obtain⟨x0,x1⟩:=Hx.out.c2;replace Hb:=aW Hb ai;go_wp2_with fail;refine(xm s l _ hl).mono ?_;rintro e w1 ⟨rfl,ai⟩;obtain⟨Hx,x0,x1⟩:=eH Hx ai;replace Hb:=aW Hb ai;go_wp2;go_ret;rw[iu.out];refine⟨rfl,?_⟩;exact Hb.out.alloc Hb.out.size _
   . have iu:Hid (eI (iv s l)=1):=by show eI _=_;simp[eI,hz,hneg]
     have auf:(bs (nt (iv s l).natAbs)).toList.isEmpty=false:=by
      rw[hne];cases hq:nt (iv s l).natAbs with
      |nil=>rw[WR]at hq;omega
      |cons a b=>rfl
     clear hneg hne hz;go_enter Tryz.func53,Tryz.ntmps53;have Hb:=hbz w;go_wp2_with fail;have q:=np w 28 [ag s,ah l];first|refine dA _ q ?_|refine dV _ q ?_
     clear q;rintro W ⟨Hx,ai⟩;obtain⟨x0,x1⟩:=Hx.out.c2;replace Hb:=aW Hb ai;go_wp2_with fail;refine(xm s l _ hl).mono ?_;rintro e w1 ⟨rfl,ai⟩;obtain⟨Hx,x0,x1⟩:=eH Hx ai;replace Hb:=aW Hb ai;go_wp2;go_ret;rw[iu.out];refine⟨rfl,?_⟩;exact Hb.out.alloc Hb.out.size _
def au1 (s:Bool)(l:List UInt8):iv (!s) l= -(iv s l):=by unfold iv;cases s<;>simp
def ajU (s:Bool)(l:List UInt8)(w:World)(hl:l.length<=1099511627776):
 Cv 208 #[.agg #[ag s,ah l]] w (cd (-(iv s l))):=by
 rw[<-au1];go_enter Tryz.func208,Tryz.ntmps208;have Hb:=hbz w;go_wp2_with fail;have q:=CP w 28 [ag s,ah l] 28 [ag false,.string (bs [])];first|refine dA _ q ?_|refine dV _ q ?_
 clear q;rintro W ⟨Hx,Hr,ai⟩;obtain⟨x0,x1⟩:=Hx.out.c2;obtain⟨r0,aO,r1,aQ⟩:=Hr.out.g2;replace Hb:=aW Hb ai;go_wp2_with fail;refine(AG l (!s) _ hl).mono ?_;rintro e w1 ⟨rfl,ai⟩;obtain⟨Hx,x0,x1⟩:=eH Hx ai;obtain⟨Hr,r0,aO,r1,aQ⟩:=dt Hr ai;replace Hb:=aW Hb ai;go_wp2;exact bodyPost_ret (v:=cd (iv (!s) l)) (by simp[results,Tryz.results208,go_sem,r0,r1]) rfl ⟨rfl,df⟩
def OO (x:Bool×List UInt8):List Value:=[ag x.1,ah x.2]
def ni (xs:List (Bool×List UInt8)):Int:=(xs.map λx=>iv x.1 x.2).sum
def auZ (xs:List (Bool×List UInt8))(k:Nat)(hk:k<xs.length):ni (xs.take (k+1))=ni (xs.take k)+iv xs[k].1 xs[k].2:=by unfold ni;rw[List.take_succ_eq_append_getElem hk,List.map_append,List.sum_append];simp
def auY (xs:List (Bool×List UInt8))(B:Nat)(h:∀x∈xs,x.2.length<=B):(ni xs).natAbs<=xs.length*256^B:=by
 unfold ni;induction xs with
 |nil=>simp
 |cons x xs ih=>have h1:=jH x.2;have h2:256^x.2.length<=256^B:=Nat.pow_le_pow_right zd (h x zm);have h3:=ih (λm hm=>h m (by simp[hm]));have h4:=wQ x.1 x.2;simp only[List.map_cons,List.sum_cons,List.length_cons];rw[Nat.add_mul,Nat.one_mul];omega
def auX (xs:List (Bool×List UInt8))(B N:Nat)(h:∀x∈xs,x.2.length<=B)(hx:xs.length<=1048576)(hN:B+3<=N):(nt (ni xs).natAbs).length<=N:=by refine oz (Nat.lt_of_le_of_lt (auY xs _ h) ?_);refine Nat.lt_of_le_of_lt (Nat.mul_le_mul_right _ hx) ?_;rw[show(1048576:Nat) *256^B=2^20*256^B from rfl,show(256:Nat)=2^8 from rfl,<-Nat.pow_mul,<-Nat.pow_mul,<-Nat.pow_add];exact Nat.pow_lt_pow_right zd zo
def auW (xs:List (Bool×List UInt8))(h:∀x∈xs,x.2.length<=34359738368)(hx:xs.length<=1048576):(nt (ni xs).natAbs).length<=68719476736:=
 auX xs 34359738368 68719476736 h hx zd
def aA2 (xs:List (Bool×List UInt8))(a:Option Addr)(cap:Nat)(w:World)(hl:∀x∈xs,x.2.length<=34359738368)(hx:xs.length<=1048576)
 (ha:At w a (xs.flatMap OO)):
 Cv 166 #[.slice a xs.length cap] w (cd (ni xs)):=by
 have Hl:=aj hl;clear hl;have Ha:=aj ha;clear ha;have Ge:Hid (∀k,(nt (ni (xs.take k)).natAbs).length<=68719476736):=λk=>auW _ (λx hm=>Hl.out x (List.mem_of_mem_take hm)) (by rw[List.length_take];omega);go_enter Tryz.func166,Tryz.ntmps166;have Hb:=hbz w;go_wp2_with fail;have q:=CP w 28 [ag false,.string (bs [])] 243 [.string (bs []),ag false];first|refine dA _ q ?_|refine dV _ q ?_
 clear q;rintro W ⟨Hr,Hs,ai⟩;obtain⟨r0,aO,r1,aQ⟩:=Hr.out.g2;obtain⟨s0,jo,s1,jp⟩:=Hs.out.g2;replace Hb:=aW Hb ai
 go_loopw[5,8] (λ_ i wr=>∃(k:Nat) (t:Bool),k<=xs.length/\i=af k/\iv t (nt (ni (xs.take k)).natAbs)=ni (xs.take k)/\ar wr w.heap.size 28 [ag false,.string (bs [])]/\
  ar wr (w.heap.size+1) 243 [ah (nt (ni (xs.take k)).natAbs),ag t]/\Bw w wr) (λ_ i _=>xs.length-(intOf i).toNat)
 case atStart=>exact⟨0,false,Nat.zero_le _,rfl,rfl,Hr.out,Hs.out,Hb.out⟩
 case round=>
  obtain⟨k,t,hk,rfl,rG,qr,qs,hb⟩:=hrel;obtain⟨Hr,Hs,Hb,qA⟩:=dv qr qs hb rG;clear qr qs hb rG;by_cases hlt:k<xs.length
  . obtain⟨b,o,hab,hcs⟩:=(Ha.out.below Hb.out).elem (f:=OO) (sz:=2) (λ_=>rfl) zd k hlt;have hc0:wr.cell? ⟨b,o+k*2,none⟩=some (ag xs[k].1):=hcs 0 zd;have hc1:wr.cell? ⟨b,o+k*2+1,none⟩=some (.string (bs xs[k].2)):=hcs 1 zd;have bD:=yx xs.length cap k (k:Int) hab hlt rfl;have bR:=aj (auZ xs k hlt);have qo:Hid (xs[k].2.length<=34359738368):=Hl.out _ (List.getElem_mem hlt);have jz:=aj (Ge.out k);clear hcs hab;generalize xs[k]=x at*;obtain⟨t1,l1⟩:=x;generalize hS:ni (xs.take k)=S at*;have HS:=aj hS;clear hS;obtain⟨r0,aO,r1,aQ⟩:=Hr.out.g2;obtain⟨s0,jo,s1,jp⟩:=Hs.out.g2;have avV:=Hr.out.lt;have avY:=Hs.out.lt;go_wp2_with fail;obtain⟨R,hR⟩:∃R:World->Prop,(λW1=>ar W1 (wr.heap.size) 28 [ag t1,ah l1]/\Bw wr W1)=R:=⟨_,rfl⟩;first|refine dA R ?hR ?_|refine dV R ?hR ?_
    case hR=>subst hR;exact⟨(ar.newAt wr _ _ (b:=wr.heap.size) rfl),zl⟩
    subst hR;rintro W1 ⟨qa,ai⟩;have Ha:=aj qa;clear qa r0 aO r1 aQ;obtain⟨Hr,r0,aO,r1,aQ⟩:=dt Hr ai;obtain⟨Hs,s0,jo,s1,jp⟩:=dt Hs ai;obtain⟨a0,a1⟩:=Ha.out.c2;replace Hb:=aW Hb ai;go_region_with (first| (go_at_call 215;refine(PU l1 t1 _).mono ?_;rintro e w1 ⟨rfl,hq⟩;have hw1:Bw W1 w1:=cu hq;clear hq;have Xy:w1.cell? ⟨w.heap.size+1,0,none⟩=some (ah (nt S.natAbs)):=cell_later hw1 s0;have Xz:w1.cell? ⟨w.heap.size+1,1,none⟩=some (ag t):=cell_later hw1 s1;have ast:=(Hs.out.below hw1).free 0;have asv:=(Hs.out.below hw1).free 1) | (go_at_call 232;refine(axW (nt S.natAbs) l1 t t1 _ jz.out (by have:=qo.out;omega)).mono ?_;rintro e w2 ⟨rfl,hw2⟩;have ay8:=cell_later hw2 Xy;have azb:=cell_later hw2 Xz;have asu:=((Hs.out.below hw1).below hw2).free 0;have asw:=((Hs.out.below hw1).below hw2).free 1))
    all_goals
     go_wp2
     go_roundw
     case rel=>have hq:=ayi t (nt S.natAbs) t1 l1;rw[qA.out,<-bR.out]at hq;rw[qA.out,<-bR.out];refine⟨k+1,_,by omega,by go_num,hq,((((Hr.out.below hw1).below hw2).aGq ⟨w.heap.size+1,0,none⟩ zp _).aGq ⟨w.heap.size+1,1,none⟩ zp _),((((Hs.out.below hw1).below hw2).set 0 _).set 1 _),?_⟩;exact((aI (aI Hb.out hw1) hw2).setCell zp _).setCell zp _
     case measure=>exact bC
  . obtain rfl:k=xs.length:=by omega
    rw[List.take_length]at Hs qA;have jz:=Ge.out xs.length;rw[List.take_length]at jz;obtain⟨r0,aO,r1,aQ⟩:=Hr.out.g2;obtain⟨s0,jo,s1,jp⟩:=Hs.out.g2;go_wp2_with fail;refine(AG (nt (ni xs).natAbs) t _ zo).mono ?_;rintro e w1 ⟨rfl,ai⟩;obtain⟨Hr,r0,aO,r1,aQ⟩:=dt Hr ai;obtain⟨Hs,s0,jo,s1,jp⟩:=dt Hs ai;replace Hb:=aW Hb ai;rw[qA.out];go_wp2;exact bodyPost_ret (v:=cd (ni xs)) (by simp[results,Tryz.results166,go_sem,r0,r1]) rfl ⟨rfl,df⟩
end Go.Proofs.YtbkopgdpcijfbaaGreatDoor
namespace Go.Proofs.YtbkopgdpcijfbaaGreatDoor
def FC (n k:Int):(Dyadic.ofIntWithPrec n k).toRat=n*2^(-k):=Dyadic.toRat_ofIntWithPrec_eq_mul_two_pow
def ayD :((2:Rat))≠0:=by decide
def uh (a b k:Int):Dyadic.ofIntWithPrec a k+Dyadic.ofIntWithPrec b k=Dyadic.ofIntWithPrec (a+b) k:=by rw[<-Dyadic.toRat_inj,Dyadic.toRat_add,FC,FC,FC,Rat.intCast_add,Rat.add_mul]
def ui (a b j k:Int):Dyadic.ofIntWithPrec a j*Dyadic.ofIntWithPrec b k=Dyadic.ofIntWithPrec (a*b) (j+k):=by rw[<-Dyadic.toRat_inj,Dyadic.toRat_mul,FC,FC,FC,Rat.intCast_mul,Int.neg_add,Rat.zpow_add ayD];grind
def mz (a:Int)(n:Nat)(k:Int):Dyadic.ofIntWithPrec (a*2^n) (k+n)=Dyadic.ofIntWithPrec a k:=by have:=@Dyadic.ofIntWithPrec_shiftLeft_add a k n;rwa [Int.shiftLeft_eq]at this
def wX (a k:Int): -Dyadic.ofIntWithPrec a k=Dyadic.ofIntWithPrec (-a) k:=Dyadic.neg_ofIntWithPrec
def vE (k:Int):Dyadic.ofIntWithPrec 0 k=0:=Dyadic.ofIntWithPrec_zero
abbrev Raw:=Bool ×List UInt8×Int
def au (x:Raw):Dyadic:=Dyadic.ofIntWithPrec (iv x.1 x.2.1) (-x.2.2)
def dN :Dyadic->Int
 | .zero=>0
 | .ofOdd n _ _=>n
def dE :Dyadic->Int
 | .zero=>0
 | .ofOdd _ k _=>-k
def canon (d:Dyadic):Raw:=(az (dN d),nt (dN d).natAbs,dE d)
def bF (d:Dyadic):au (canon d)=d:=by
 unfold au canon;simp only[dH];cases d with
 |zero=>rfl
 |ofOdd n k hn=>simp only[dN,dE,Int.neg_neg];exact(Dyadic.ofOdd_eq_ofIntWithPrec).symm
def acf {n k:Int}(h:n≠0):dN (Dyadic.ofIntWithPrec n k)=n/2^n.trailingZeros/\dE (Dyadic.ofIntWithPrec n k)=n.trailingZeros-k:=by unfold Dyadic.ofIntWithPrec;rw[dif_neg h];simp only[dN,dE,Int.shiftRight_eq_div_pow];refine⟨by simp[Int.natCast_pow],by omega⟩
def Tf :dN 0=0:=rfl
def aqJ :dE 0=0:=rfl
def Sm (B:Nat)(d:Dyadic):Prop:=∃m:Int,d=Dyadic.ofIntWithPrec m B/\m.natAbs<2^(2*B)
def Sm.zero (B:Nat):Sm B 0:=⟨0,(vE _).symm,Nat.pow_pos zd⟩
def Sm.mono {A B:Nat}{d:Dyadic}(h:Sm A d)(TK:A<=B):Sm B d:=by
 obtain⟨m,rfl,hm⟩:=h;obtain⟨j,rfl⟩:∃j,B=A+j:=⟨B-A,by omega⟩;refine⟨m*2^j,?_,?_⟩
 . rw[Int.natCast_add,mz]
 . rw[Int.natAbs_mul,Int.natAbs_pow];have:m.natAbs*2^j<2^(2*A) *2^j:=Nat.mul_lt_mul_of_pos_right hm (Nat.pow_pos zd);rw[<-Nat.pow_add]at this;exact Nat.lt_of_lt_of_le this (Nat.pow_le_pow_right zd zo)
def Sm.add {B:Nat}{a b:Dyadic}(ha:Sm B a)(hb:Sm B b):Sm (B+1) (a+b):=by
 obtain⟨m,rfl,hm⟩:=ha;obtain⟨n,rfl,hn⟩:=hb;refine⟨(m+n) *2^1,?_,?_⟩
 . rw[uh,Int.natCast_add];exact(mz _ 1 _).symm
 . rw[show 2* (B+1)=2*B+2 by omega,Nat.pow_add];omega
def Sm.neg {B:Nat}{a:Dyadic}(ha:Sm B a):Sm B (-a):=by obtain⟨m,rfl,hm⟩:=ha;exact⟨-m,wX _ _,by omega⟩
def Sm.sub {B:Nat}{a b:Dyadic}(ha:Sm B a)(hb:Sm B b):Sm (B+1) (a-b):=ha.add hb.neg
def Sm.mul {A B:Nat}{a b:Dyadic}(ha:Sm A a)(hb:Sm B b):Sm (A+B) (a*b):=by
 obtain⟨m,rfl,hm⟩:=ha;obtain⟨n,rfl,hn⟩:=hb;refine⟨m*n,?_,?_⟩
 . rw[ui,Int.natCast_add]
 . rw[Int.natAbs_mul,Nat.mul_add,Nat.pow_add];exact Nat.mul_lt_mul'' hm hn
def aAP {n:Int}(h:n≠0):2^n.trailingZeros<=n.natAbs:=by
 have hd:=Int.two_pow_trailingZeros_dvd h;have h2:(2^n.trailingZeros:Nat)∣n.natAbs:=by have:=Int.natAbs_dvd_natAbs.2 hd;rwa [Int.natAbs_pow]at this
 exact Nat.le_of_dvd zo h2
def Sm.parts {B:Nat}{d:Dyadic}(h:Sm B d):(dN d).natAbs<2^(2*B)/\ -(B:Int)<=dE d/\dE d<=B:=by
 obtain⟨m,rfl,hm⟩:=h;by_cases h0:m=0
 . subst h0;rw[vE,Tf,aqJ];exact⟨Nat.pow_pos zd,by omega,by omega⟩
 . obtain ⟨e1,e2⟩:=acf (k:=B) h0;have h1:=aAP h0;have h2:m.trailingZeros<2*B:=by
    rcases Nat.lt_or_ge m.trailingZeros (2*B)with h|h
    . exact h
    . have:=Nat.pow_le_pow_right (show 0<2 by decide) h;omega
   rw[e1,e2];refine⟨?_,by omega,by omega⟩;obtain⟨q,hq⟩:=Int.two_pow_trailingZeros_dvd h0;have hp:(2:Int)^m.trailingZeros≠0:=by
    have:((2^m.trailingZeros:Nat):Int)≠0:=by have:=Nat.pow_pos (n:=m.trailingZeros) (show 0<2 by decide);omega
    simpa[Int.natCast_pow]using this
   have e3:m/2^m.trailingZeros=q:=by
    conv=>lhs;lhs;rw[hq]
    exact Int.mul_ediv_cancel_left _ hp
   rw[e3];have e4:m.natAbs=2^m.trailingZeros*q.natAbs:=by
    conv=>lhs;rw[hq]
    rw[Int.natAbs_mul,Int.natAbs_pow];rfl
   have:=Nat.pow_pos (n:=m.trailingZeros) (show 0<2 by decide);have:q.natAbs<=2^m.trailingZeros*q.natAbs:=Nat.le_mul_of_pos_left _ this;omega
def Ok (x:Raw):Prop:=x.2.1.length<=268435456/\ -268435456<=x.2.2/\x.2.2<=268435456
def jK {n k N:Nat}(h:n<2^k)(hN:k<=8*N):(nt n).length<=N:=
 oz (Nat.lt_of_lt_of_le h (by rw[show(256:Nat)=2^8 by rfl,<-Nat.pow_mul];exact Nat.pow_le_pow_right zd hN))
def Sm.ok {B:Nat}{d:Dyadic}(h:Sm B d)(hB:B<=268435456):Ok (canon d):=by obtain⟨h1,h2,h3⟩:=h.parts;exact⟨jK h1 zo,by show-268435456<=dE d;omega,by show dE d<=268435456;omega⟩
def Sm.raw {x:Raw}{B:Nat}(hl:8*x.2.1.length<=B)(h1: -(B:Int)<=x.2.2)(h2:x.2.2<=B):Sm (2*B) (au x):=by
 unfold au;obtain⟨j,hj⟩:∃j:Nat,x.2.2+(2*B:Nat)=j:=⟨(x.2.2+(2*B:Nat)).toNat,by omega⟩;refine⟨iv x.1 x.2.1*2^j,?_,?_⟩
 . rw[<-mz (iv x.1 x.2.1) j (-x.2.2)];congr 1;omega
 . rw[Int.natAbs_mul,Int.natAbs_pow,wQ];have hv:=jH x.2.1;rw[show(256:Nat)=2^8 by rfl,<-Nat.pow_mul]at hv;have:nv x.2.1*2^j<2^(8*x.2.1.length) *2^j:=Nat.mul_lt_mul_of_pos_right hv (Nat.pow_pos zd);rw[<-Nat.pow_add]at this;exact Nat.lt_of_lt_of_le this (Nat.pow_le_pow_right zd zo)
def Ok.sm {x:Raw}(h:Ok x):Sm 4294967296 (au x):=Sm.raw (B:=2147483648) (by have:=h.1;omega) (by have:=h.2.1;omega) (by have:=h.2.2;omega)
def mB (g:Nat->Nat->Int)(k:Nat)(last:Int)(i j:Nat):Nat->Nat->Int:=λa b=>if k<a/\k<b/\(a<i\/a=i/\b<j)then cz g k a b/last else g a b
def axK (g:Nat->Nat->Int)(k:Nat)(last:Int):mB g k last (k+1) (k+1)=g:=by
 funext a b;unfold mB
 rw[if_neg zo]
def axI (g:Nat->Nat->Int)(k:Nat)(last:Int)(i j:Nat)(hi:k<i)(hj:k<j):(λa b=>if a=i/\b=j then cz g k i j/last else mB g k last i j a b)=mB g k last i (j+1):=by
 funext a b;unfold mB
 by_cases h:a=i/\b=j
 . obtain⟨rfl,rfl⟩:=h;rw[if_pos ⟨rfl,rfl⟩,if_pos ⟨hi,hj,.inr ⟨rfl,by omega⟩⟩]
 . rw[if_neg h];by_cases h2:k<a/\k<b/\(a<i\/a=i/\b<j)
   . rw[if_pos h2,if_pos ⟨h2.1,h2.2.1,by omega⟩]
   . rw[if_neg h2,if_neg (λh3=>h2 ⟨h3.1,h3.2.1,by omega⟩)]
def axJ (g:Nat->Nat->Int)(k:Nat)(last:Int)(i n:Nat):∀a b,b<n->mB g k last i n a b=mB g k last (i+1) (k+1) a b:=by
 intro a b hb;unfold mB;by_cases h2:k<a/\k<b/\(a<i\/a=i/\b<n)
 . rw[if_pos h2,if_pos ⟨h2.1,h2.2.1,by omega⟩]
 . rw[if_neg h2,if_neg (λh3=>h2 ⟨h3.1,h3.2.1,by omega⟩)]
def axG (g:Nat->Nat->Int)(k:Nat)(last:Int)(n:Nat):∀a b,a<n->mB g k last n (k+1) a b=dz g k last a b:=by
 intro a b ha;unfold mB dz;by_cases h2:k<a/\k<b/\(a<n\/a=n/\b<k+1)
 . rw[if_pos h2,if_pos ⟨h2.1,h2.2.1⟩]
 . rw[if_neg h2,if_neg (λh3=>h2 ⟨h3.1,h3.2,by omega⟩)]
def axH (g:Nat->Nat->Int)(k:Nat)(last:Int)(i j:Nat):mB g k last i j i j=g i j/\mB g k last i j k k=g k k/\mB g k last i j i k=g i k/\mB g k last i j k j=g k j:=by unfold mB;refine⟨if_neg zo,if_neg zo,if_neg zo,if_neg zo⟩
def WT (g:Nat->Nat->Int)(k a b K:Nat)(h1:(g a b).natAbs<2^K)(h2:(g k k).natAbs<2^K)(h3:(g a k).natAbs<2^K)(h4:(g k b).natAbs<2^K):
 (g a b*g k k).natAbs<2^(2*K)/\(g a k*g k b).natAbs<2^(2*K)/\(cz g k a b).natAbs<2^(2*K+1):=by
 have e:2^(2*K)=2^K*2^K:=by rw[<-Nat.pow_add];congr 1;omega
 have m1:(g a b*g k k).natAbs<2^K*2^K:=by rw[Int.natAbs_mul];exact Nat.mul_lt_mul'' h1 h2
 have m2:(g a k*g k b).natAbs<2^K*2^K:=by rw[Int.natAbs_mul];exact Nat.mul_lt_mul'' h3 h4
 refine⟨by rw[e];exact m1,by rw[e];exact m2,?_⟩;rw[Nat.pow_succ,e];unfold cz;generalize g a b*g k k=x at*;generalize g a k*g k b=y at*;omega
def div_lt (x y:Int)(M:Nat)(h:x.natAbs<M):(x/y).natAbs<M\/¬y∣x:=by
 by_cases hd:y∣x
 . left;obtain⟨q,rfl⟩:=hd;by_cases hy:y=0
   . subst hy;simp;omega
   . rw[Int.mul_ediv_cancel_left _ hy];rw[Int.natAbs_mul]at h;have:1<=y.natAbs:=by omega
     have:=Nat.mul_le_mul_right q.natAbs this;omega
 . right;exact hd
def Xa (a b k:Int):Dyadic.ofIntWithPrec a k-Dyadic.ofIntWithPrec b k=Dyadic.ofIntWithPrec (a-b) k:=by
 have h:Dyadic.ofIntWithPrec a k-Dyadic.ofIntWithPrec b k=Dyadic.ofIntWithPrec a k+ -Dyadic.ofIntWithPrec b k:=by grind
 rw[h,wX,uh];rfl
def aq0 (n:Nat)(hn:1<=n)(bZ:n<=4)(f:Nat->Nat->Int)(e:Nat->Nat->Dyadic)(q:Int)(h:∀a b,a<n->b<n->e a b=Dyadic.ofIntWithPrec (f a b) q):
 dW n e=Dyadic.ofIntWithPrec (eX n n 0 f 1 false) (n*q):=by
 have hc:n=1\/n=2\/n=3\/n=4:=by omega
 rcases hc with rfl|rfl|rfl|rfl
 . rw[aoU];unfold dW;simp only;rw[h 0 0 zo zo];congr 1;omega
 . rw[aoV];unfold dW BP;simp only;rw[h 0 0 zo zo,h 1 1 zo zo,h 0 1 zo zo,h 1 0 zo zo,ui,ui,Xa];congr 1;omega
 . rw[aoW];unfold dW jC;simp only;rw[h 0 0 zo zo,h 1 1 zo zo,h 0 1 zo zo,h 1 0 zo zo,h 0 2 zo zo,h 2 0 zo zo,h 1 2 zo zo,h 2 1 zo zo,h 2 2 zo zo];simp only[ui,Xa,uh];congr 1;omega
 . rw[aoY];unfold dW fp;simp only;rw[h 0 0 zo zo,h 1 1 zo zo,h 0 1 zo zo,h 1 0 zo zo,h 0 2 zo zo,h 2 0 zo zo,h 1 2 zo zo,h 2 1 zo zo,h 2 2 zo zo];rw[h 0 3 zo zo,h 1 3 zo zo,h 2 3 zo zo,h 3 0 zo zo,h 3 1 zo zo,h 3 2 zo zo,h 3 3 zo zo];simp only[ui,Xa,uh];congr 1;omega
def acH (n:Nat)(hn:1<=n)(bZ:n<=4)(f:Nat->Nat->Int):iz n n 0 f 1:=by
 have hc:n=1\/n=2\/n=3\/n=4:=by omega
 rcases hc with rfl|rfl|rfl|rfl
 . exact arL f
 . exact arM f
 . exact arN f
 . exact arO f
abbrev bE (X:Dyadic):Bool×List UInt8×Int:=(az (dN X),nt (dN X).natAbs,dE X)
abbrev bG (X:Dyadic):List Value:=[ag (az (dN X)),ah (nt (dN X).natAbs),af (dE X)]
end Go.Proofs.YtbkopgdpcijfbaaGreatDoor
