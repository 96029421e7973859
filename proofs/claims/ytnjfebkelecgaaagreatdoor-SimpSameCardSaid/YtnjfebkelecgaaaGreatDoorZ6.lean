/- Small facts that walks over blocks of one's own share. -/
import Derived.Test.YtnjfebkelecgaaaGreatDoorZ5
import Derived.Deep.RegionHeld3
import Derived.Deep.DrawnRows
import Derived.Test.YtnjfebkelecgaaaGreatDoorZ1
set_option linter.all false
set_option maxRecDepth 100000
set_option maxHeartbeats 16000000
namespace Go.Proofs.YtnjfebkelecgaaaGreatDoor
open Go.RowKit
def cd {P:Program}{c:Code}{Q:Exit->Act->World->Prop}{a:Act}{W:World}(S:World->Prop)(hS:S W)(h:∀W',S W'->c.wp P Q a W'):c.wp P Q a W:=h W hS
def cw {P:Program}{f:FuncId}{args:Array Value}{R:Ending->World->Prop}{W:World}(S:World->Prop)(hS:S W)(h:∀W',S W'->Calls P f args W' R):Calls P f args W R:=h W hS
def ij {w:World}{p a:Addr}{u v:Value}(hne:a.block≠p.block)(h:w.cell? a=some v):(w.setCell p u).cell? a=some v:=
 (World.cell?_of_block (w:=w) (Below.heap_setCell _ _ _ _ hne)).trans h
def au.newAt (w:World)(t:TypeId)(cs:List Value){b:Nat}(h:w.heap.size=b):au (w.alloc (.cells cs.toArray t)) b t cs:=by subst h;exact au.new w t cs
def NB1 (w:World)(t0:TypeId)(l0:List Value)(W:World):Prop:=RowKit.Hid (au W (w.heap.size) t0 l0)/\Bw w W
def fK (w:World)(t0:TypeId)(l0:List Value):NB1 w t0 l0 (w.alloc (.cells l0.toArray t0)):=⟨ar (au.new _ _ _),((Below.refl _ _).alloc (Nat.le_refl _) _)⟩
def NB2 (w:World)(t0:TypeId)(l0:List Value)(t1:TypeId)(l1:List Value)(W:World):Prop:=RowKit.Hid (au W (w.heap.size) t0 l0)/\RowKit.Hid (au W (w.heap.size+1) t1 l1)/\Bw w W
def lQ (w:World)(t0:TypeId)(l0:List Value)(t1:TypeId)(l1:List Value):NB2 w t0 l0 t1 l1 ((w.alloc (.cells l0.toArray t0)).alloc (.cells l1.toArray t1)):=⟨ar ((au.new _ _ _).alloc _),ar (au.newAt _ _ _ (by simp)),(((Below.refl _ _).alloc (Nat.le_refl _) _).alloc (by simp<;>omega) _)⟩
def NB3 (w:World)(t0:TypeId)(l0:List Value)(t1:TypeId)(l1:List Value)(t2:TypeId)(l2:List Value)(W:World):Prop:=RowKit.Hid (au W (w.heap.size) t0 l0)/\RowKit.Hid (au W (w.heap.size+1) t1 l1)/\RowKit.Hid (au W (w.heap.size+1+1) t2 l2)/\Bw w W
def uU (w:World)(t0:TypeId)(l0:List Value)(t1:TypeId)(l1:List Value)(t2:TypeId)(l2:List Value):NB3 w t0 l0 t1 l1 t2 l2 (((w.alloc (.cells l0.toArray t0)).alloc (.cells l1.toArray t1)).alloc (.cells l2.toArray t2)):=⟨ar (((au.new _ _ _).alloc _).alloc _),ar ((au.newAt _ _ _ (by simp)).alloc _),ar (au.newAt _ _ _ (by simp)),((((Below.refl _ _).alloc (Nat.le_refl _) _).alloc (by simp<;>omega) _).alloc (by simp<;>omega) _)⟩
def cE (w:World)(t0:TypeId)(l0:List Value):∃W,(w.alloc (.cells l0.toArray t0))=W/\Bw w W/\RowKit.Hid (au W (w.heap.size) t0 l0):=⟨_,rfl,zl,ar (au.new _ _ _)⟩
def awk (w:World)(t0:TypeId)(l0:List Value)(t1:TypeId)(l1:List Value):∃W,((w.alloc (.cells l0.toArray t0)).alloc (.cells l1.toArray t1))=W/\Bw w W/\RowKit.Hid (au W (w.heap.size) t0 l0)/\RowKit.Hid (au W (w.heap.size+1) t1 l1):=⟨_,rfl,(zl.alloc zj _),ar ((au.new _ _ _).alloc _),ar (au.newAt _ _ _ zm)⟩
def jD (w:World)(t0:TypeId)(l0:List Value):∃W,(w.alloc (.cells l0.toArray t0))=W/\RowKit.Hid (Bw w W)/\RowKit.Hid (au W (w.heap.size) t0 l0):=⟨_,rfl,ar zl,ar (au.new _ _ _)⟩
def mG (w:World)(t0:TypeId)(l0:List Value)(t1:TypeId)(l1:List Value):∃W,((w.alloc (.cells l0.toArray t0)).alloc (.cells l1.toArray t1))=W/\RowKit.Hid (Bw w W)/\RowKit.Hid (au W (w.heap.size) t0 l0)/\RowKit.Hid (au W (w.heap.size+1) t1 l1):=⟨_,rfl,ar (zl.alloc zj _),ar ((au.new _ _ _).alloc _),ar (au.newAt _ _ _ zm)⟩
def wu (w:World)(t0:TypeId)(l0:List Value)(t1:TypeId)(l1:List Value)(t2:TypeId)(l2:List Value):∃W,(((w.alloc (.cells l0.toArray t0)).alloc (.cells l1.toArray t1)).alloc (.cells l2.toArray t2))=W/\RowKit.Hid (Bw w W)/\RowKit.Hid (au W (w.heap.size) t0 l0)/\RowKit.Hid (au W (w.heap.size+1) t1 l1)/\RowKit.Hid (au W (w.heap.size+1+1) t2 l2):=⟨_,rfl,ar ((zl.alloc zj _).alloc zj _),ar (((au.new _ _ _).alloc _).alloc _),ar ((au.newAt _ _ _ zm).alloc _),ar (au.newAt _ _ _ zm)⟩
def Kl (w:World)(t0:TypeId)(l0:List Value)(t1:TypeId)(l1:List Value)(t2:TypeId)(l2:List Value)(t3:TypeId)(l3:List Value):∃W,((((w.alloc (.cells l0.toArray t0)).alloc (.cells l1.toArray t1)).alloc (.cells l2.toArray t2)).alloc (.cells l3.toArray t3))=W/\RowKit.Hid (Bw w W)/\RowKit.Hid (au W (w.heap.size) t0 l0)/\RowKit.Hid (au W (w.heap.size+1) t1 l1)/\RowKit.Hid (au W (w.heap.size+1+1) t2 l2)/\RowKit.Hid (au W (w.heap.size+1+1+1) t3 l3):=⟨_,rfl,ar (((zl.alloc zj _).alloc zj _).alloc zj _),ar ((((au.new _ _ _).alloc _).alloc _).alloc _),ar (((au.newAt _ _ _ zm).alloc _).alloc _),ar ((au.newAt _ _ _ zm).alloc _),ar (au.newAt _ _ _ zm)⟩
def bo {a w:World}(h:Below a.drew.heap.size a.drew w):Bw a w:=⟨h.os,h.tape,h.output,h.size,h.block⟩
def aO {w W w1:World}(h:Bw w W)(k:Bw W w1):Bw w w1:=h.trans (k.mono h.size)
def az {w W w1:World}(h:Hid (Bw w W))(k:Bw W w1):Hid (Bw w w1):=aO h.out k
def dH {p:Prop}(h:p:=by(repeat first|exact Hb.out| (refine Below.setCell ?_ (by have:=Hb.out.size;first| (dsimp only;omega) | (show _<=_;omega) | (simp<;>omega)) _) | (refine Below.alloc ?_ (by have:=Hb.out.size;simp<;>omega) _) |refine Below.drew ?_)):p:=h
def yu (b:Nat):Nat->List Value->World->World
 |_,[],w=>w
 |o,v::l,w=>yu b (o+1) l (w.setCell ⟨b,o,none⟩ v)
def Fx :Nat->List Value->List Value->List Value
 |_,[],c=>c
 |o,v::l,c=>Fx (o+1) l (c.set o v)
def bY (w:World)(b o:Nat)(vs:List Value)(w':World):Prop:=w'=yu b o vs w\/w'=yu b o vs w.drew
def stI {w:World}{b o:Nat}{vs:List Value}:bY w b o vs (yu b o vs w):=.inl rfl
def stJ {w:World}{b o:Nat}{vs:List Value}:bY w b o vs (yu b o vs w.drew):=.inr rfl
def cC {w:World}{b o:Nat}{vs:List Value}{w':World}(h:bY w b o vs w':=by first|exact stI|exact stJ):bY w b o vs w':=h
def ayT (vs:List Value):∀(o:Nat) (cs:List Value),cs.length=o+vs.length->Fx o vs cs=cs.take o++vs:=by
 induction vs with
 |nil=>intro o cs h;simp only[Fx,List.append_nil];rw[List.take_of_length_le (by simp at h;omega)]
 |cons v vs ih=>intro o cs h;simp only[List.length_cons]at h;rw[Fx,ih (o+1) _ (by rw[List.length_set];omega),List.take_succ_eq_append_getElem (by rw[List.length_set];omega),List.getElem_set_self,List.take_set_of_le (Nat.le_refl _),List.append_assoc];rfl
def aiE (p b:Nat)(n:p≠b)(t:TypeId)(cs:List Value)(vs:List Value):∀(o:Nat) (w:World),au w b t cs->au (yu p o vs w) b t cs:=by
 induction vs with
 |nil=>intro o w h;exact h
 |cons v vs ih=>intro o w h;exact ih _ _ (h.aFJ ⟨p,o,none⟩ n v)
def aiF (b:Nat)(t:TypeId)(vs:List Value):∀(o:Nat) (w:World) (cs:List Value),au w b t cs->au (yu b o vs w) b t (Fx o vs cs):=by
 induction vs with
 |nil=>intro o w cs h;exact h
 |cons v vs ih=>intro o w cs h;exact ih _ _ _ (h.set o v)
def aiD (a w0:World)(p:Nat)(n:a.heap.size<=p)(vs:List Value):∀(o:Nat) (w:World),Below a.heap.size w0 w->Below a.heap.size w0 (yu p o vs w):=by
 induction vs with
 |nil=>intro o w h;exact h
 |cons v vs ih=>intro o w h;exact ih _ _ (h.setCell n v)
def kS {w w':World}{b p o:Nat}{t:TypeId}{cs vs:List Value}(h:Hid (au w b t cs))(k:bY w p o vs w')(n:p≠b):Hid (au w' b t cs):=by
 rcases k with rfl|rfl
 . exact aiE p b n t cs vs o _ h.out
 . exact aiE p b n t cs vs o _ h.out.drew
def Ak {w w':World}{b o:Nat}{t:TypeId}{cs vs:List Value}(h:Hid (au w b t cs))(k:bY w b o vs w'):Hid (au w' b t (Fx o vs cs)):=by
 rcases k with rfl|rfl
 . exact aiF b t vs o _ cs h.out
 . exact aiF b t vs o _ cs h.out.drew
def dt {w w':World}{b:Nat}{t:TypeId}{cs vs:List Value}(h:Hid (au w b t cs))(k:bY w b 0 vs w')(e:cs.length=vs.length:=by rfl):Hid (au w' b t vs):=by have:=Ak h k;rwa [ayT vs 0 cs zo,List.take_zero,List.nil_append]at this
def bS {a w w':World}{p o:Nat}{vs:List Value}(h:Hid (Bw a w))(k:bY w p o vs w')(n:a.heap.size<=p):Hid (Bw a w'):=by
 rcases k with rfl|rfl
 . exact aiD a a p n vs o _ h.out
 . exact aiD a a p n vs o _ h.out.drew
def ul {a w:World}{o:Obj}(h:Below (a.alloc o).heap.size (a.alloc o) w):Bw a w:=aO zl h
def zn {a w:World}{o:Obj}(h:Below (a.drew.alloc o).heap.size (a.drew.alloc o) w):Bw a w:=bo (ul h)
def xw {a w:World}{o:Obj}(h:Below (a.alloc o).drew.heap.size (a.alloc o).drew w):Bw a w:=ul (bo h)
def aV {w:World}{a:Addr}{v:Value}{o:Obj}(h:w.cell? a=some v):(w.alloc o).cell? a=some v:=cell_later zl h
def Tz {w:World}{a:Addr}{v:Value}(h:w.cell? a=some v):w.drew.cell? a=some v:=h
def At.aFK {w:World}{b:Nat}{t:TypeId}{cs:List Value}(h:au w b t cs):At w (some ⟨b,0,none⟩) cs:=
 .inr ⟨b,0,rfl,λj _=>by rw[Nat.zero_add];exact h.cell j⟩
def flat_get {α:Type}(f:α->List Value)(sz:Nat)(hf:∀x,(f x).length=sz)(xs:List α)(k i:Nat)(hk:k<xs.length)(hi:i<sz):
 (xs.flatMap f)[k*sz+i]?=(f xs[k])[i]?:=by
 induction xs generalizing k with
 |nil=>simp at hk
 | cons x xs ih=>
   rw[List.flatMap_cons];cases k with
   |zero=>rw[Nat.zero_mul,Nat.zero_add,List.getElem?_append_left (by rw[hf];exact hi)];rfl
   | succ k=>
     have e:(k+1) *sz+i=(f x).length+(k*sz+i):=by rw[hf,Nat.add_mul,Nat.one_mul];omega
     rw[e,List.getElem?_append_right zo,Nat.add_sub_cancel_left,ih k (by simpa using hk)];rfl
def kj {α:Type}(f:α->List Value)(sz:Nat)(hf:∀x,(f x).length=sz)(xs:List α):(xs.flatMap f).length=xs.length*sz:=by
 induction xs with
 |nil=>simp
 |cons x xs ih=>rw[List.flatMap_cons,List.length_append,ih,hf,List.length_cons,Nat.add_mul,Nat.one_mul,Nat.add_comm]
def At.elem {α:Type}{f:α->List Value}{sz:Nat}(hf:∀x,(f x).length=sz)(hsz:0<sz){W:World}{a:Option Addr}{xs:List α}(h:At W a (xs.flatMap f))(k:Nat)(hk:k<xs.length):
 ∃b o,a=some ⟨b,o,none⟩/\∀i,i<sz->W.cell? ⟨b,o+k*sz+i,none⟩=(f xs[k])[i]?:=by
 have hl:=kj f sz hf xs;have hb:∀i,i<sz->k*sz+i<xs.length*sz:=by intro i hi;have:(k+1) *sz<=xs.length*sz:=Nat.mul_le_mul_right _ hk;rw[Nat.add_mul,Nat.one_mul]at this;omega
 have hne:xs.flatMap f≠[]:=by intro h0;have:=congrArg List.length h0;rw[hl]at this;have:=hb 0 hsz;simp at*;omega
 obtain⟨b,o,ha,hc⟩:=h.get hne;refine⟨b,o,ha,λi hi=>?_⟩;rw[Nat.add_assoc,hc _ (by rw[hl];exact hb i hi),flat_get f sz hf xs k i hk hi]
end Go.Proofs.YtnjfebkelecgaaaGreatDoor
namespace Go.Proofs.YtnjfebkelecgaaaGreatDoor
open Go.RowKit
attribute [local go_sem ↓] Go.wp_at_zero Go.wp_at_succ
def iv (s:Bool)(l:List UInt8):Int:=if s then-(nv l:Int)else(nv l:Int)
def pX (s:Bool)(l:List UInt8):(iv s l).natAbs=nv l:=by unfold iv;split<;>omega
def aC (n:Int):Bool:=decide (n<0)
def WM (s:Bool)(l:List UInt8):aC (iv s l)=(s&& !(nt (nv l)).isEmpty):=by
 unfold aC;have h:(nt (nv l)).isEmpty=decide (nv l=0):=by rw[Bool.eq_iff_iff,List.isEmpty_iff,Xp,decide_eq_true_iff]
 rw[h];unfold iv;cases s<;>simp
 by_cases h0:nv l=0<;>simp[h0];omega
abbrev dO (n:Int):Value:=.agg #[aj (aC n),ai (nt n.natAbs)]
def gK (n:Int):iv (aC n) (nt n.natAbs)=n:=by unfold iv aC;rw[jC];by_cases h:n<0<;>simp[h]<;>omega
def pY (s:Bool)(n:Nat):iv s (nt n)=if s then-(n:Int)else n:=by unfold iv;rw[jC]
def FD (l:List UInt8)(s:Bool)(w:World):
 Cv 105 #[.agg #[aj s,ai l]] w (.agg #[ai l,aj s]):=by
 go_enter Tryz.func105,Tryz.ntmps105;have Hb:=hbz w;go_wp2;exact bodyPost_ret (v:=.agg #[ai l,aj s]) (by simp[results,Tryz.results105,go_sem]) rfl ⟨rfl,dH⟩
def yc (l:List UInt8)(s:Bool)(w:World)(hl:l.length<=1099511627776):
 Cv 106 #[.agg #[ai l,aj s]] w (dO (iv s l)):=by
 unfold dO;rw[pX,WM];have hne:=xx (nt (nv l));generalize hb:(nt (nv l)).isEmpty=b at*;have HB:=ar hb;clear hb;cases s
 . go_enter Tryz.func106,Tryz.ntmps106;have Hb:=hbz w;go_wp2_with (go_at_call 145;refine(ai1 l _ hl).mono ?_;rintro e w1 ⟨rfl,rfl⟩);go_wp2;exact bodyPost_ret (v:=.agg #[aj false,ai (nt (nv l))]) (by simp[results,Tryz.results106,go_sem]) rfl ⟨rfl,dH⟩
 . go_enter Tryz.func106,Tryz.ntmps106;have Hb:=hbz w;go_wp2_with (go_at_call 145;refine(ai1 l _ hl).mono ?_;rintro e w1 ⟨rfl,rfl⟩);go_wp2;exact bodyPost_ret (v:=.agg #[.bool !b,ai (nt (nv l))]) (by simp[results,Tryz.results106,go_sem]) rfl ⟨rfl,dH⟩
def avX (l m:List UInt8)(b cap:Nat)(t:TypeId)(w:World)(hl:l.length<=68719476736)(hm:m.length<=68719476736)(ha:au w b t [ai l,ai m]):
 Cv 142 #[.slice (some ⟨b,0,none⟩) 2 cap] w (ai (nt (nv l+nv m))):=by
 have:=avW [l,m] (some ⟨b,0,none⟩) cap w (by simp[hl,hm]) zm (At.aFK ha);have e:iN [l,m]=nv l+nv m:=by simp[iN]
 rw[e]at this;exact this
def aw5 (l m:List UInt8)(s:Bool)(w:World)(hl:l.length<=68719476736)(hm:m.length<=68719476736):
 Cv 104 #[.agg #[.string (bs l),.bool s],.agg #[.string (bs m),.bool s]] w (.agg #[.string (bs (nt (nv l+nv m))),.bool s]):=by
 go_enter Tryz.func104,Tryz.ntmps104;have Hb:=hbz w;go_wp2_with fail;have q:=uU w 133 [.string (bs l),.bool s] 133 [.string (bs m),.bool s] 133 [.string (bs []),.bool false];first|refine cd _ q ?_|refine cw _ q ?_
 clear q;rintro W ⟨Hx,Hy,Hr,ag⟩;obtain⟨x0,x1⟩:=Hx.out.c2;obtain⟨y0,y1⟩:=Hy.out.c2;obtain⟨r0,aH,r1,aI⟩:=Hr.out.g2;replace Hb:=az Hb ag;have Xo:w.heap.size≠w.heap.size+1+1:=by omega
 have ney:w.heap.size+1≠w.heap.size+1+1:=by omega
 go_region_held3 (λw'=>w'.cell? ⟨w.heap.size,0,none⟩=some (.string (bs l))/\w'.cell? ⟨w.heap.size,1,none⟩=some (.bool s)/\w'.cell? ⟨w.heap.size+1,0,none⟩=some (.string (bs m))/\w'.cell? ⟨w.heap.size+1,1,none⟩=some (.bool s)) (((try dsimp only);go_split_ands;(repeat' apply And.intro)<;>(first|exact True.intro|with_reducible assumption| ((with_reducible refine ij zg ?_);(repeat(with_reducible refine ij zg ?_));with_reducible assumption) |exact cell_later (by with_reducible assumption) (by with_reducible assumption) |exact aV (by with_reducible assumption) |go_keep))) (first| (go_at_call 142;(with_reducible refine(avX l m W.heap.size 2 9 _ hl hm (by first|exact au.drew (au.new _ _ _) |exact au.new _ _ _)).mono ?_);rintro e w1 ⟨rfl,hq⟩;have hw1:Bw W w1:=(by first|exact bo hq|exact hq|exact zn hq|exact ul hq|exact xw hq);clear hq;have mU:=ar (Hx.out.below hw1);have CX:w1.cell? ⟨w.heap.size,0,none⟩=some (.string (bs l)):=mU.out.cell 0;have CY:w1.cell? ⟨w.heap.size,1,none⟩=some (.bool s):=mU.out.cell 1;have sH:=ar (Hy.out.below hw1);have Li:w1.cell? ⟨w.heap.size+1,0,none⟩=some (.string (bs m)):=sH.out.cell 0;have Lj:w1.cell? ⟨w.heap.size+1,1,none⟩=some (.bool s):=sH.out.cell 1;have jd:=ar (Hr.out.below hw1);have CQ:w1.cell? ⟨w.heap.size+1+1,0,none⟩=some (.string (bs [])):=jd.out.cell 0;have BL:w1.frozen? ⟨w.heap.size+1+1,0,none⟩=false:=jd.out.free 0;have CR:w1.cell? ⟨w.heap.size+1+1,1,none⟩=some (.bool false):=jd.out.cell 1;have BM:w1.frozen? ⟨w.heap.size+1+1,1,none⟩=false:=jd.out.free 1))
 replace Hb:=ar (aO Hb.out hw1);clear hw1 x0 x1 y0 y1 r0 aH r1 aI;replace Hx:=mU;clear CX CY;replace Hy:=sH;clear Li Lj;replace Hr:=jd;clear CQ BL CR BM;obtain⟨x0,x1⟩:=Hx.out.c2;obtain⟨y0,y1⟩:=Hy.out.c2;obtain⟨r0,aH,r1,aI⟩:=Hr.out.g2;go_wp2;exact bodyPost_ret (v:=.agg #[.string (bs (nt (nv l+nv m))),.bool s]) (by simp[results,Tryz.results104,go_sem,r0,r1]) rfl ⟨rfl,dH⟩
def aiv (l m:List UInt8)(w:World)(hl:l.length<=68719476736)(hm:m.length<=68719476736):
 Cv 143 #[ai l,ai m] w (ah (dU (nv l) (nv m))):=by
 go_enter Tryz.func143,Tryz.ntmps143;have Hb:=hbz w;go_wp2_with fail;refine(avY l m _ hl hm).mono ?_;rintro e w1 ⟨rfl,ag⟩;replace Hb:=az Hb ag;go_wp2;go_ret;exact⟨rfl,Hb.out⟩
def aw2 (l m:List UInt8)(s:Bool)(w:World)(hl:l.length<=68719476736)(hm:m.length<=68719476736)(h:nv m<=nv l):
 Cv 104 #[.agg #[ai l,aj s],.agg #[ai m,aj (!s)]] w (.agg #[ai (nt (nv l-nv m)),aj s]):=by
 have hc0:0<=dU (nv l) (nv m):=by unfold dU;rw[if_neg zo];split<;>omega
 have OS:(s== !s)=false:=by cases s<;>rfl
 have Hh:=ar h;clear h;go_enter Tryz.func104,Tryz.ntmps104;have Hb:=hbz w;go_wp2_with fail;have q:=uU w 133 [ai l,aj s] 133 [ai m,aj (!s)] 133 [.string (bs []),aj false];first|refine cd _ q ?_|refine cw _ q ?_
 clear q;rintro W ⟨Hx,Hy,Hr,ag⟩;obtain⟨x0,x1⟩:=Hx.out.c2;obtain⟨y0,y1⟩:=Hy.out.c2;obtain⟨r0,aH,r1,aI⟩:=Hr.out.g2;replace Hb:=az Hb ag;go_wp2_with fail;refine(aiv l m _ hl hm).mono ?_;rintro e w1 ⟨rfl,ag⟩;obtain⟨Hx,x0,x1⟩:=bi Hx ag;obtain⟨Hy,y0,y1⟩:=bi Hy ag;obtain⟨Hr,r0,aH,r1,aI⟩:=bA Hr ag;replace Hb:=az Hb ag;go_wp2_with fail;refine(ahA l m _ hl hm Hh.out).mono ?_;rintro e w2 ⟨rfl,ag⟩;obtain⟨Hx,x0,x1⟩:=bi Hx ag;obtain⟨Hy,y0,y1⟩:=bi Hy ag;obtain⟨Hr,r0,aH,r1,aI⟩:=bA Hr ag;replace Hb:=az Hb ag;go_wp2;exact bodyPost_ret (v:=.agg #[ai (nt (nv l-nv m)),aj s]) (by simp[results,Tryz.results104,go_sem,r0,r1]) rfl ⟨rfl,dH⟩
def aw3 (l m:List UInt8)(s:Bool)(w:World)(hl:l.length<=68719476736)(hm:m.length<=68719476736)(h:nv l<nv m):
 Cv 104 #[.agg #[ai l,aj s],.agg #[ai m,aj (!s)]] w (.agg #[ai (nt (nv m-nv l)),aj (!s)]):=by
 have hc0:dU (nv l) (nv m)<0:=by unfold dU;rw[if_pos h];omega
 have OS:(s== !s)=false:=by cases s<;>rfl
 have Hh:=ar (Nat.le_of_lt h);clear h;go_enter Tryz.func104,Tryz.ntmps104;have Hb:=hbz w;go_wp2_with fail;have q:=uU w 133 [ai l,aj s] 133 [ai m,aj (!s)] 133 [.string (bs []),aj false];first|refine cd _ q ?_|refine cw _ q ?_
 clear q;rintro W ⟨Hx,Hy,Hr,ag⟩;obtain⟨x0,cM,x1,cN⟩:=Hx.out.g2;obtain⟨y0,cG,y1,cH⟩:=Hy.out.g2;obtain⟨r0,aH,r1,aI⟩:=Hr.out.g2;replace Hb:=az Hb ag;go_wp2_with fail;refine(aiv l m _ hl hm).mono ?_;rintro e w1 ⟨rfl,ag⟩;obtain⟨Hx,x0,cM,x1,cN⟩:=bA Hx ag;obtain⟨Hy,y0,cG,y1,cH⟩:=bA Hy ag;obtain⟨Hr,r0,aH,r1,aI⟩:=bA Hr ag;replace Hb:=az Hb ag;go_wp2_with fail;obtain⟨R,hR⟩:∃R:World->Prop,(λw2=>au w2 (w.heap.size) 133 [ai m,aj (!s)]/\au w2 (w.heap.size+1) 133 [ai l,aj s]/\au w2 (w.heap.size+1+1) 133 [.string (bs []),aj false]/\Bw w w2)=R:=⟨_,rfl⟩;first|refine cd R ?hR ?_|refine cw R ?hR ?_
 case hR=>subst hR;exact⟨((((Hx.out.set 0 _).set 1 _).so (w.heap.size+1) 0 zo _).so (w.heap.size+1) 1 zo _),((((Hy.out.so (w.heap.size) 0 zo _).so (w.heap.size) 1 zo _).set 0 _).set 1 _),((((Hr.out.so (w.heap.size) 0 zo _).so (w.heap.size) 1 zo _).so (w.heap.size+1) 0 zo _).so (w.heap.size+1) 1 zo _),((((Hb.out.sc (w.heap.size) 0 ZS _).sc (w.heap.size) 1 ZS _).sc (w.heap.size+1) 0 ZS _).sc (w.heap.size+1) 1 ZS _)⟩
 subst hR;rintro w2 ⟨qx,qy,qr,ag⟩;replace Hx:=ar qx;clear qx;replace Hy:=ar qy;clear qy;replace Hr:=ar qr;clear qr;obtain⟨x0,cM,x1,cN⟩:=Hx.out.g2;obtain⟨y0,cG,y1,cH⟩:=Hy.out.g2;obtain⟨r0,aH,r1,aI⟩:=Hr.out.g2;replace Hb:=ar ag;go_wp2_with fail;refine(ahA m l _ hm hl Hh.out).mono ?_;rintro e w3 ⟨rfl,ag⟩;obtain⟨Hx,x0,cM,x1,cN⟩:=bA Hx ag;obtain⟨Hy,y0,cG,y1,cH⟩:=bA Hy ag;obtain⟨Hr,r0,aH,r1,aI⟩:=bA Hr ag;replace Hb:=az Hb ag;go_wp2;exact bodyPost_ret (v:=.agg #[ai (nt (nv m-nv l)),aj (!s)]) (by simp[results,Tryz.results104,go_sem,r0,r1]) rfl ⟨rfl,dH⟩
def yo (s:Bool)(l:List UInt8)(t:Bool)(m:List UInt8):Bool:=if s==t then s else if nv l<nv m then t else s
def axp (s:Bool)(l:List UInt8)(t:Bool)(m:List UInt8):iv (yo s l t m) (nt (iv s l+iv t m).natAbs)=iv s l+iv t m:=by unfold yo iv;rw[jC];cases s<;>cases t<;>simp<;>(try split)<;>omega
def aw1 (l m:List UInt8)(s t:Bool)(w:World)(hl:l.length<=68719476736)(hm:m.length<=68719476736):
 Cv 104 #[.agg #[ai l,aj s],.agg #[ai m,aj t]] w (.agg #[ai (nt (iv s l+iv t m).natAbs),aj (yo s l t m)]):=by
 by_cases hst:s=t
 . subst hst;have e:(iv s l+iv s m).natAbs=nv l+nv m:=by unfold iv;split<;>omega
   rw[e,show yo s l s m=s by simp[yo]];exact aw5 l m s w hl hm
 . obtain rfl:t= !s:=by cases s<;>cases t<;>simp_all
   by_cases h:nv l<nv m
   . have e:(iv s l+iv (!s) m).natAbs=nv m-nv l:=by unfold iv;cases s<;>simp<;>omega
     rw[e,show yo s l (!s) m= !s by cases s<;>simp[yo,h]];exact aw3 l m s w hl hm h
   . have e:(iv s l+iv (!s) m).natAbs=nv l-nv m:=by unfold iv;cases s<;>simp<;>omega
     rw[e,show yo s l (!s) m=s by cases s<;>simp[yo,h]];exact aw2 l m s w hl hm zo
def aiV (l m:List UInt8)(s t:Bool)(w:World)(hl:l.length<=68719476736)(hm:m.length<=68719476736):
 Cv 107 #[.agg #[.string (bs l),.bool s],.agg #[.string (bs m),.bool t]] w (.agg #[.string (bs (nt (nv l*nv m))),.bool (!(s==t))]):=by
 go_enter Tryz.func107,Tryz.ntmps107;have Hb:=hbz w;go_wp2_with fail;have q:=uU w 133 [.string (bs l),.bool s] 133 [.string (bs m),.bool t] 133 [.string (bs []),.bool false];first|refine cd _ q ?_|refine cw _ q ?_
 clear q;rintro W ⟨Hx,Hy,Hr,ag⟩;obtain⟨x0,x1⟩:=Hx.out.c2;obtain⟨y0,y1⟩:=Hy.out.c2;obtain⟨r0,aH,r1,aI⟩:=Hr.out.g2;replace Hb:=az Hb ag;have Xo:w.heap.size≠w.heap.size+1+1:=by omega
 have ney:w.heap.size+1≠w.heap.size+1+1:=by omega
 go_region_held3 (λw'=>w'.cell? ⟨w.heap.size,0,none⟩=some (.string (bs l))/\w'.cell? ⟨w.heap.size,1,none⟩=some (.bool s)/\w'.cell? ⟨w.heap.size+1,0,none⟩=some (.string (bs m))/\w'.cell? ⟨w.heap.size+1,1,none⟩=some (.bool t)) (((try dsimp only);go_split_ands;(repeat' apply And.intro)<;>(first|exact True.intro|with_reducible assumption| ((with_reducible refine ij zg ?_);(repeat(with_reducible refine ij zg ?_));with_reducible assumption) |exact cell_later (by with_reducible assumption) (by with_reducible assumption) |exact aV (by with_reducible assumption) |go_keep))) (first| (go_at_call 146;(with_reducible refine(av2 l m _ hl hm).mono ?_);rintro e w1 ⟨rfl,hq⟩;have hw1:Bw W w1:=(by first|exact bo hq|exact hq|exact zn hq|exact ul hq|exact xw hq);clear hq;have mU:=ar (Hx.out.below hw1);have CX:w1.cell? ⟨w.heap.size,0,none⟩=some (.string (bs l)):=mU.out.cell 0;have CY:w1.cell? ⟨w.heap.size,1,none⟩=some (.bool s):=mU.out.cell 1;have sH:=ar (Hy.out.below hw1);have Li:w1.cell? ⟨w.heap.size+1,0,none⟩=some (.string (bs m)):=sH.out.cell 0;have Lj:w1.cell? ⟨w.heap.size+1,1,none⟩=some (.bool t):=sH.out.cell 1;have jd:=ar (Hr.out.below hw1);have CQ:w1.cell? ⟨w.heap.size+1+1,0,none⟩=some (.string (bs [])):=jd.out.cell 0;have BL:w1.frozen? ⟨w.heap.size+1+1,0,none⟩=false:=jd.out.free 0;have CR:w1.cell? ⟨w.heap.size+1+1,1,none⟩=some (.bool false):=jd.out.cell 1;have BM:w1.frozen? ⟨w.heap.size+1+1,1,none⟩=false:=jd.out.free 1))
 replace Hb:=ar (aO Hb.out hw1);clear hw1 x0 x1 y0 y1 r0 aH r1 aI;replace Hx:=mU;clear CX CY;replace Hy:=sH;clear Li Lj;replace Hr:=jd;clear CQ BL CR BM;obtain⟨x0,x1⟩:=Hx.out.c2;obtain⟨y0,y1⟩:=Hy.out.c2;obtain⟨r0,aH,r1,aI⟩:=Hr.out.g2;go_wp2;exact bodyPost_ret (v:=.agg #[.string (bs (nt (nv l*nv m))),.bool (!(s==t))]) (by simp[results,Tryz.results107,go_sem,r0,r1]) rfl ⟨rfl,dH⟩
def agM (s:Bool)(l:List UInt8)(t:Bool)(m:List UInt8):iv (!(s==t)) (nt (nv l*nv m))=iv s l*iv t m:=by unfold iv;rw[jC];cases s<;>cases t<;>simp[Int.natCast_mul,Int.neg_mul,Int.mul_neg]
def YP (n:Int)(w:World)(h0: -9223372036854775808<=n)(h1:n<=9223372036854775807):
 Cv 78 #[ah n] w (dO n):=by
 have hb:n.natAbs<WW:=by rw[kF];omega
 have hlen:(nt n.natAbs).length<=8:=kd (by rw[kF]at hb;omega);have mg:=ar hb;clear hb;by_cases hn:n<0
 . have rS:IntKind.u64.wrap (-(IntKind.u64.wrap n))=(n.natAbs:Int):=by simp only[IntKind.wrap_u64];omega
   have jh:Hid (iv true (nt n.natAbs)=n):=by show iv _ _=_;unfold iv;rw[jC];simp;omega
   go_enter Tryz.func78,Tryz.ntmps78;have Hb:=hbz w;go_wp2_with fail;have q:=fK w 46 [aj false,.string (bs [])];first|refine cd _ q ?_|refine cw _ q ?_
   clear q;rintro W ⟨Hr,ag⟩;obtain⟨r0,aH,r1,aI⟩:=Hr.out.g2;replace Hb:=az Hb ag;go_wp2_with fail;refine(ahz n.natAbs mg.out _).mono ?_;rintro e w1 ⟨rfl,ag⟩;obtain⟨Hr,r0,aH,r1,aI⟩:=bA Hr ag;replace Hb:=az Hb ag;go_wp2_with fail;refine(yc (nt n.natAbs) true _ zo).mono ?_;rintro e w2 ⟨rfl,ag⟩;obtain⟨Hr,r0,aH,r1,aI⟩:=bA Hr ag;replace Hb:=az Hb ag;rw[jh.out];go_wp2;exact bodyPost_ret (v:=dO n) (by simp[results,Tryz.results78,go_sem,r0,r1]) rfl ⟨rfl,dH⟩
 . have rS:IntKind.u64.wrap n=(n.natAbs:Int):=by simp only[IntKind.wrap_u64];omega
   have jh:Hid (iv false (nt n.natAbs)=n):=by show iv _ _=_;unfold iv;rw[jC];simp;omega
   go_enter Tryz.func78,Tryz.ntmps78;have Hb:=hbz w;go_wp2_with fail;have q:=fK w 46 [aj false,.string (bs [])];first|refine cd _ q ?_|refine cw _ q ?_
   clear q;rintro W ⟨Hr,ag⟩;obtain⟨r0,aH,r1,aI⟩:=Hr.out.g2;replace Hb:=az Hb ag;go_wp2_with fail;refine(ahz n.natAbs mg.out _).mono ?_;rintro e w1 ⟨rfl,ag⟩;obtain⟨Hr,r0,aH,r1,aI⟩:=bA Hr ag;replace Hb:=az Hb ag;go_wp2_with fail;refine(yc (nt n.natAbs) false _ zo).mono ?_;rintro e w2 ⟨rfl,ag⟩;obtain⟨Hr,r0,aH,r1,aI⟩:=bA Hr ag;replace Hb:=az Hb ag;rw[jh.out];go_wp2;exact bodyPost_ret (v:=dO n) (by simp[results,Tryz.results78,go_sem,r0,r1]) rfl ⟨rfl,dH⟩
def CW (s:Bool)(l:List UInt8)(w:World)(hl:l.length<=1099511627776):
 Cv 135 #[.agg #[aj s,ai l]] w (dO (iv s l)):=by
 go_enter Tryz.func135,Tryz.ntmps135;have Hb:=hbz w;go_wp2_with fail;have q:=lQ w 46 [aj s,ai l] 46 [aj false,.string (bs [])];first|refine cd _ q ?_|refine cw _ q ?_
 clear q;rintro W ⟨Hx,Hr,ag⟩;obtain⟨x0,x1⟩:=Hx.out.c2;obtain⟨r0,aH,r1,aI⟩:=Hr.out.g2;replace Hb:=az Hb ag;go_wp2_with fail;refine(FD l s _).mono ?_;rintro e w1 ⟨rfl,ag⟩;obtain⟨Hx,x0,x1⟩:=bi Hx ag;obtain⟨Hr,r0,aH,r1,aI⟩:=bA Hr ag;replace Hb:=az Hb ag;go_wp2_with fail;refine(yc l s _ hl).mono ?_;rintro e w2 ⟨rfl,ag⟩;obtain⟨Hx,x0,x1⟩:=bi Hx ag;obtain⟨Hr,r0,aH,r1,aI⟩:=bA Hr ag;replace Hb:=az Hb ag;go_wp2;exact bodyPost_ret (v:=dO (iv s l)) (by simp[results,Tryz.results135,go_sem,r0,r1]) rfl ⟨rfl,dH⟩
def gh (n:Int):Int:=if n<0 then-1 else if n=0 then 0 else 1
def Qp (s:Bool)(l:List UInt8)(w:World)(hl:l.length<=1099511627776):
 Cv 101 #[.agg #[aj s,ai l]] w (ah (gh (iv s l))):=by
 have hne:=xx (nt (iv s l).natAbs);by_cases hneg:iv s l<0
 . have hs:aC (iv s l)=true:=by simp[aC,hneg]
   have iE:Hid (gh (iv s l)= -1):=by show gh _=_;simp[gh,hneg]
   clear hneg hne;go_enter Tryz.func101,Tryz.ntmps101;have Hb:=hbz w;go_wp2_with fail;have q:=fK w 46 [aj s,ai l];first|refine cd _ q ?_|refine cw _ q ?_
   clear q;rintro W ⟨Hx,ag⟩;obtain⟨x0,x1⟩:=Hx.out.c2;replace Hb:=az Hb ag;go_wp2_with fail;refine(CW s l _ hl).mono ?_;rintro e w1 ⟨rfl,ag⟩;obtain⟨Hx,x0,x1⟩:=bi Hx ag;replace Hb:=az Hb ag;go_wp2;go_ret;rw[iE.out];refine⟨rfl,?_⟩;exact Hb.out.alloc Hb.out.size _
 . have hs:aC (iv s l)=false:=by simp[aC,hneg]
   by_cases hz:iv s l=0
   . have iE:Hid (gh (iv s l)=0):=by show gh _=_;simp[gh,hz]
     have atg:(bs (nt (iv s l).natAbs)).toList.isEmpty=true:=by rw[hne,hz];rfl
     clear hneg hne hz;go_enter Tryz.func101,Tryz.ntmps101;have Hb:=hbz w;go_wp2_with fail;have q:=fK w 46 [aj s,ai l];first|refine cd _ q ?_|refine cw _ q ?_
     clear q;rintro W ⟨Hx,ag⟩;obtain⟨x0,x1⟩:=Hx.out.c2;replace Hb:=az Hb ag;go_wp2_with fail;refine(CW s l _ hl).mono ?_;rintro e w1 ⟨rfl,ag⟩;obtain⟨Hx,x0,x1⟩:=bi Hx ag;replace Hb:=az Hb ag;go_wp2;go_ret;rw[iE.out];refine⟨rfl,?_⟩;exact Hb.out.alloc Hb.out.size _
   . have iE:Hid (gh (iv s l)=1):=by show gh _=_;simp[gh,hz,hneg]
     have atg:(bs (nt (iv s l).natAbs)).toList.isEmpty=false:=by
      rw[hne];cases hq:nt (iv s l).natAbs with
      |nil=>rw[Xp]at hq;omega
      |cons a b=>rfl
     clear hneg hne hz;go_enter Tryz.func101,Tryz.ntmps101;have Hb:=hbz w;go_wp2_with fail;have q:=fK w 46 [aj s,ai l];first|refine cd _ q ?_|refine cw _ q ?_
     clear q;rintro W ⟨Hx,ag⟩;obtain⟨x0,x1⟩:=Hx.out.c2;replace Hb:=az Hb ag;go_wp2_with fail;refine(CW s l _ hl).mono ?_;rintro e w1 ⟨rfl,ag⟩;obtain⟨Hx,x0,x1⟩:=bi Hx ag;replace Hb:=az Hb ag;go_wp2;go_ret;rw[iE.out];refine⟨rfl,?_⟩;exact Hb.out.alloc Hb.out.size _
def aul (s:Bool)(l:List UInt8):iv (!s) l= -(iv s l):=by unfold iv;cases s<;>simp
def aju (s:Bool)(l:List UInt8)(w:World)(hl:l.length<=1099511627776):
 Cv 114 #[.agg #[aj s,ai l]] w (dO (-(iv s l))):=by
 rw[<-aul];go_enter Tryz.func114,Tryz.ntmps114;have Hb:=hbz w;go_wp2_with fail;have q:=lQ w 46 [aj s,ai l] 46 [aj false,.string (bs [])];first|refine cd _ q ?_|refine cw _ q ?_
 clear q;rintro W ⟨Hx,Hr,ag⟩;obtain⟨x0,x1⟩:=Hx.out.c2;obtain⟨r0,aH,r1,aI⟩:=Hr.out.g2;replace Hb:=az Hb ag;go_wp2_with fail;refine(yc l (!s) _ hl).mono ?_;rintro e w1 ⟨rfl,ag⟩;obtain⟨Hx,x0,x1⟩:=bi Hx ag;obtain⟨Hr,r0,aH,r1,aI⟩:=bA Hr ag;replace Hb:=az Hb ag;go_wp2;exact bodyPost_ret (v:=dO (iv (!s) l)) (by simp[results,Tryz.results114,go_sem,r0,r1]) rfl ⟨rfl,dH⟩
def Pd (x:Bool×List UInt8):List Value:=[aj x.1,ai x.2]
def nD (xs:List (Bool×List UInt8)):Int:=(xs.map λx=>iv x.1 x.2).sum
def auj (xs:List (Bool×List UInt8))(k:Nat)(hk:k<xs.length):nD (xs.take (k+1))=nD (xs.take k)+iv xs[k].1 xs[k].2:=by unfold nD;rw[List.take_succ_eq_append_getElem hk,List.map_append,List.sum_append];simp
def aui (xs:List (Bool×List UInt8))(B:Nat)(h:∀x∈xs,x.2.length<=B):(nD xs).natAbs<=xs.length*256^B:=by
 unfold nD;induction xs with
 |nil=>simp
 |cons x xs ih=>have h1:=ib x.2;have h2:256^x.2.length<=256^B:=Nat.pow_le_pow_right zd (h x zm);have h3:=ih (λm hm=>h m (by simp[hm]));have h4:=pX x.1 x.2;simp only[List.map_cons,List.sum_cons,List.length_cons];rw[Nat.add_mul,Nat.one_mul];omega
def auh (xs:List (Bool×List UInt8))(B N:Nat)(h:∀x∈xs,x.2.length<=B)(hx:xs.length<=1048576)(hN:B+3<=N):(nt (nD xs).natAbs).length<=N:=by refine kd (Nat.lt_of_le_of_lt (aui xs _ h) ?_);refine Nat.lt_of_le_of_lt (Nat.mul_le_mul_right _ hx) ?_;rw[show(1048576:Nat) *256^B=2^20*256^B from rfl,show(256:Nat)=2^8 from rfl,<-Nat.pow_mul,<-Nat.pow_mul,<-Nat.pow_add];exact Nat.pow_lt_pow_right zd zo
def aug (xs:List (Bool×List UInt8))(h:∀x∈xs,x.2.length<=34359738368)(hx:xs.length<=1048576):(nt (nD xs).natAbs).length<=68719476736:=
 auh xs 34359738368 68719476736 h hx zd
def aAc (xs:List (Bool×List UInt8))(a:Option Addr)(cap:Nat)(w:World)(hl:∀x∈xs,x.2.length<=34359738368)(hx:xs.length<=1048576)
 (ha:At w a (xs.flatMap Pd)):
 Cv 60 #[.slice a xs.length cap] w (dO (nD xs)):=by
 have Hl:=ar hl;clear hl;have Ha:=ar ha;clear ha;have yz:Hid (∀k,(nt (nD (xs.take k)).natAbs).length<=68719476736):=λk=>aug _ (λx hm=>Hl.out x (List.mem_of_mem_take hm)) (by rw[List.length_take];omega);go_enter Tryz.func60,Tryz.ntmps60;have Hb:=hbz w;go_wp2_with fail;have q:=lQ w 46 [aj false,.string (bs [])] 133 [.string (bs []),aj false];first|refine cd _ q ?_|refine cw _ q ?_
 clear q;rintro W ⟨Hr,Hs,ag⟩;obtain⟨r0,aH,r1,aI⟩:=Hr.out.g2;obtain⟨s0,gF,s1,gG⟩:=Hs.out.g2;replace Hb:=az Hb ag
 go_loopw[5,8] (λ_ i wr=>∃(k:Nat) (t:Bool),k<=xs.length/\i=ah k/\iv t (nt (nD (xs.take k)).natAbs)=nD (xs.take k)/\au wr w.heap.size 46 [aj false,.string (bs [])]/\
  au wr (w.heap.size+1) 133 [ai (nt (nD (xs.take k)).natAbs),aj t]/\Bw w wr) (λ_ i _=>xs.length-(intOf i).toNat)
 case atStart=>exact⟨0,false,Nat.zero_le _,rfl,rfl,Hr.out,Hs.out,Hb.out⟩
 case round=>
  obtain⟨k,t,hk,rfl,ku,qr,qs,hb⟩:=hrel;obtain⟨Hr,Hs,Hb,jh⟩:=ej qr qs hb ku;clear qr qs hb ku;by_cases hlt:k<xs.length
  . obtain⟨b,o,hab,hcs⟩:=(Ha.out.below Hb.out).elem (f:=Pd) (sz:=2) (λ_=>rfl) zd k hlt;have hc0:wr.cell? ⟨b,o+k*2,none⟩=some (aj xs[k].1):=hcs 0 zd;have hc1:wr.cell? ⟨b,o+k*2+1,none⟩=some (.string (bs xs[k].2)):=hcs 1 zd;have bD:=xZ xs.length cap k (k:Int) hab hlt rfl;have cn:=ar (auj xs k hlt);have mM:Hid (xs[k].2.length<=34359738368):=Hl.out _ (List.getElem_mem hlt);have iA:=ar (yz.out k);clear hcs hab;generalize xs[k]=x at*;obtain⟨t1,l1⟩:=x;generalize hS:nD (xs.take k)=S at*;have HS:=ar hS;clear hS;obtain⟨r0,aH,r1,aI⟩:=Hr.out.g2;obtain⟨s0,gF,s1,gG⟩:=Hs.out.g2;have Kg:=Hr.out.lt;have Xc:=Hs.out.lt;go_wp2_with fail;obtain⟨R,hR⟩:∃R:World->Prop,(λW1=>au W1 (wr.heap.size) 46 [aj t1,ai l1]/\Bw wr W1)=R:=⟨_,rfl⟩;first|refine cd R ?hR ?_|refine cw R ?hR ?_
    case hR=>subst hR;exact⟨(au.newAt wr _ _ (b:=wr.heap.size) rfl),zl⟩
    subst hR;rintro W1 ⟨qa,ag⟩;have Ha:=ar qa;clear qa r0 aH r1 aI;obtain⟨Hr,r0,aH,r1,aI⟩:=bA Hr ag;obtain⟨Hs,s0,gF,s1,gG⟩:=bA Hs ag;obtain⟨a0,a1⟩:=Ha.out.c2;replace Hb:=az Hb ag;go_region_with (first| (go_at_call 105;refine(FD l1 t1 _).mono ?_;rintro e w1 ⟨rfl,hq⟩;have hw1:Bw W1 w1:=bo hq;clear hq;have Yb:w1.cell? ⟨w.heap.size+1,0,none⟩=some (ai (nt S.natAbs)):=cell_later hw1 s0;have Ye:w1.cell? ⟨w.heap.size+1,1,none⟩=some (aj t):=cell_later hw1 s1;have arL:=(Hs.out.below hw1).free 0;have arN:=(Hs.out.below hw1).free 1) | (go_at_call 104;refine(aw1 (nt S.natAbs) l1 t t1 _ iA.out (by have:=mM.out;omega)).mono ?_;rintro e w2 ⟨rfl,hw2⟩;have ayF:=cell_later hw2 Yb;have ayK:=cell_later hw2 Ye;have arM:=((Hs.out.below hw1).below hw2).free 0;have arO:=((Hs.out.below hw1).below hw2).free 1))
    all_goals
     go_wp2
     go_roundw
     case rel=>have hq:=axp t (nt S.natAbs) t1 l1;rw[jh.out,<-cn.out]at hq;rw[jh.out,<-cn.out];refine⟨k+1,_,by omega,by go_num,hq,((((Hr.out.below hw1).below hw2).aFJ ⟨w.heap.size+1,0,none⟩ zp _).aFJ ⟨w.heap.size+1,1,none⟩ zp _),((((Hs.out.below hw1).below hw2).set 0 _).set 1 _),?_⟩;exact((aO (aO Hb.out hw1) hw2).setCell zp _).setCell zp _
     case measure=>exact bI
  . obtain rfl:k=xs.length:=by omega
    rw[List.take_length]at Hs jh;have iA:=yz.out xs.length;rw[List.take_length]at iA;obtain⟨r0,aH,r1,aI⟩:=Hr.out.g2;obtain⟨s0,gF,s1,gG⟩:=Hs.out.g2;go_wp2_with fail;refine(yc (nt (nD xs).natAbs) t _ zo).mono ?_;rintro e w1 ⟨rfl,ag⟩;obtain⟨Hr,r0,aH,r1,aI⟩:=bA Hr ag;obtain⟨Hs,s0,gF,s1,gG⟩:=bA Hs ag;replace Hb:=az Hb ag;rw[jh.out];go_wp2;exact bodyPost_ret (v:=dO (nD xs)) (by simp[results,Tryz.results60,go_sem,r0,r1]) rfl ⟨rfl,dH⟩
end Go.Proofs.YtnjfebkelecgaaaGreatDoor
namespace Go.Proofs.YtnjfebkelecgaaaGreatDoor
def Fz (n k:Int):(Dyadic.ofIntWithPrec n k).toRat=n*2^(-k):=Dyadic.toRat_ofIntWithPrec_eq_mul_two_pow
def axV :((2:Rat))≠0:=by decide
def Ay (a b k:Int):Dyadic.ofIntWithPrec a k+Dyadic.ofIntWithPrec b k=Dyadic.ofIntWithPrec (a+b) k:=by rw[<-Dyadic.toRat_inj,Dyadic.toRat_add,Fz,Fz,Fz,Rat.intCast_add,Rat.add_mul]
def wz (a b j k:Int):Dyadic.ofIntWithPrec a j*Dyadic.ofIntWithPrec b k=Dyadic.ofIntWithPrec (a*b) (j+k):=by rw[<-Dyadic.toRat_inj,Dyadic.toRat_mul,Fz,Fz,Fz,Rat.intCast_mul,Int.neg_add,Rat.zpow_add axV];grind
def wA (a:Int)(n:Nat)(k:Int):Dyadic.ofIntWithPrec (a*2^n) (k+n)=Dyadic.ofIntWithPrec a k:=by have:=@Dyadic.ofIntWithPrec_shiftLeft_add a k n;rwa [Int.shiftLeft_eq]at this
def XB (a k:Int): -Dyadic.ofIntWithPrec a k=Dyadic.ofIntWithPrec (-a) k:=Dyadic.neg_ofIntWithPrec
def uW (k:Int):Dyadic.ofIntWithPrec 0 k=0:=Dyadic.ofIntWithPrec_zero
def awC {n k:Int}:Dyadic.ofIntWithPrec n k=0↔n=0:=by
 constructor
 . intro h;unfold Dyadic.ofIntWithPrec at h;split at h
   . assumption
   . cases h
 . rintro rfl;exact uW k
abbrev Raw:=Bool ×List UInt8×Int
def aJ (x:Raw):Dyadic:=Dyadic.ofIntWithPrec (iv x.1 x.2.1) (-x.2.2)
def dN :Dyadic->Int
 | .zero=>0
 | .ofOdd n _ _=>n
def dE :Dyadic->Int
 | .zero=>0
 | .ofOdd _ k _=>-k
def canon (d:Dyadic):Raw:=(aC (dN d),nt (dN d).natAbs,dE d)
def cp (d:Dyadic):aJ (canon d)=d:=by
 unfold aJ canon;simp only[gK];cases d with
 |zero=>rfl
 |ofOdd n k hn=>simp only[dN,dE,Int.neg_neg];exact(Dyadic.ofOdd_eq_ofIntWithPrec).symm
def acy {n k:Int}(h:n≠0):dN (Dyadic.ofIntWithPrec n k)=n/2^n.trailingZeros/\dE (Dyadic.ofIntWithPrec n k)=n.trailingZeros-k:=by unfold Dyadic.ofIntWithPrec;rw[dif_neg h];simp only[dN,dE,Int.shiftRight_eq_div_pow];refine⟨by simp[Int.natCast_pow],by omega⟩
def TJ :dN 0=0:=rfl
def aqs :dE 0=0:=rfl
def apI :canon 0=(false,[],0):=rfl
def Sm (B:Nat)(d:Dyadic):Prop:=∃m:Int,d=Dyadic.ofIntWithPrec m B/\m.natAbs<2^(2*B)
def Sm.zero (B:Nat):Sm B 0:=⟨0,(uW _).symm,Nat.pow_pos zd⟩
def Sm.mono {A B:Nat}{d:Dyadic}(h:Sm A d)(Uo:A<=B):Sm B d:=by
 obtain⟨m,rfl,hm⟩:=h;obtain⟨j,rfl⟩:∃j,B=A+j:=⟨B-A,by omega⟩;refine⟨m*2^j,?_,?_⟩
 . rw[Int.natCast_add,wA]
 . rw[Int.natAbs_mul,Int.natAbs_pow];have:m.natAbs*2^j<2^(2*A) *2^j:=Nat.mul_lt_mul_of_pos_right hm (Nat.pow_pos zd);rw[<-Nat.pow_add]at this;exact Nat.lt_of_lt_of_le this (Nat.pow_le_pow_right zd zo)
def Sm.add {B:Nat}{a b:Dyadic}(ha:Sm B a)(hb:Sm B b):Sm (B+1) (a+b):=by
 obtain⟨m,rfl,hm⟩:=ha;obtain⟨n,rfl,hn⟩:=hb;refine⟨(m+n) *2^1,?_,?_⟩
 . rw[Ay,Int.natCast_add];exact(wA _ 1 _).symm
 . rw[show 2* (B+1)=2*B+2 by omega,Nat.pow_add];omega
def Sm.neg {B:Nat}{a:Dyadic}(ha:Sm B a):Sm B (-a):=by obtain⟨m,rfl,hm⟩:=ha;exact⟨-m,XB _ _,by omega⟩
def Sm.sub {B:Nat}{a b:Dyadic}(ha:Sm B a)(hb:Sm B b):Sm (B+1) (a-b):=ha.add hb.neg
def Sm.mul {A B:Nat}{a b:Dyadic}(ha:Sm A a)(hb:Sm B b):Sm (A+B) (a*b):=by
 obtain⟨m,rfl,hm⟩:=ha;obtain⟨n,rfl,hn⟩:=hb;refine⟨m*n,?_,?_⟩
 . rw[wz,Int.natCast_add]
 . rw[Int.natAbs_mul,Nat.mul_add,Nat.pow_add];exact Nat.mul_lt_mul'' hm hn
def azW {n:Int}(h:n≠0):2^n.trailingZeros<=n.natAbs:=by
 have hd:=Int.two_pow_trailingZeros_dvd h;have h2:(2^n.trailingZeros:Nat)∣n.natAbs:=by have:=Int.natAbs_dvd_natAbs.2 hd;rwa [Int.natAbs_pow]at this
 exact Nat.le_of_dvd zo h2
def Sm.parts {B:Nat}{d:Dyadic}(h:Sm B d):(dN d).natAbs<2^(2*B)/\ -(B:Int)<=dE d/\dE d<=B:=by
 obtain⟨m,rfl,hm⟩:=h;by_cases h0:m=0
 . subst h0;rw[uW,TJ,aqs];exact⟨Nat.pow_pos zd,by omega,by omega⟩
 . obtain ⟨e1,e2⟩:=acy (k:=B) h0;have h1:=azW h0;have h2:m.trailingZeros<2*B:=by
    rcases Nat.lt_or_ge m.trailingZeros (2*B)with h|h
    . exact h
    . have:=Nat.pow_le_pow_right (show 0<2 by decide) h;omega
   rw[e1,e2];refine⟨?_,by omega,by omega⟩;obtain⟨q,hq⟩:=Int.two_pow_trailingZeros_dvd h0;have hp:(2:Int)^m.trailingZeros≠0:=by
    have:((2^m.trailingZeros:Nat):Int)≠0:=by have:=Nat.pow_pos (n:=m.trailingZeros) (show 0<2 by decide);omega
    simpa[Int.natCast_pow]using this
   have e3:m/2^m.trailingZeros=q:=by
    conv=>lhs;lhs;rw[hq]
    exact Int.mul_ediv_cancel_left _ hp
   rw[e3];have e4:m.natAbs=2^m.trailingZeros*q.natAbs:=by
    conv=>lhs;rw[hq]
    rw[Int.natAbs_mul,Int.natAbs_pow];rfl
   have:=Nat.pow_pos (n:=m.trailingZeros) (show 0<2 by decide);have:q.natAbs<=2^m.trailingZeros*q.natAbs:=Nat.le_mul_of_pos_left _ this;omega
def Ok (x:Raw):Prop:=x.2.1.length<=268435456/\ -268435456<=x.2.2/\x.2.2<=268435456
def lM {n k N:Nat}(h:n<2^k)(hN:k<=8*N):(nt n).length<=N:=
 kd (Nat.lt_of_lt_of_le h (by rw[show(256:Nat)=2^8 by rfl,<-Nat.pow_mul];exact Nat.pow_le_pow_right zd hN))
def Sm.ok {B:Nat}{d:Dyadic}(h:Sm B d)(hB:B<=268435456):Ok (canon d):=by obtain⟨h1,h2,h3⟩:=h.parts;exact⟨lM h1 zo,by show-268435456<=dE d;omega,by show dE d<=268435456;omega⟩
def Sm.raw {x:Raw}{B:Nat}(hl:8*x.2.1.length<=B)(h1: -(B:Int)<=x.2.2)(h2:x.2.2<=B):Sm (2*B) (aJ x):=by
 unfold aJ;obtain⟨j,hj⟩:∃j:Nat,x.2.2+(2*B:Nat)=j:=⟨(x.2.2+(2*B:Nat)).toNat,by omega⟩;refine⟨iv x.1 x.2.1*2^j,?_,?_⟩
 . rw[<-wA (iv x.1 x.2.1) j (-x.2.2)];congr 1;omega
 . rw[Int.natAbs_mul,Int.natAbs_pow,pX];have hv:=ib x.2.1;rw[show(256:Nat)=2^8 by rfl,<-Nat.pow_mul]at hv;have:nv x.2.1*2^j<2^(8*x.2.1.length) *2^j:=Nat.mul_lt_mul_of_pos_right hv (Nat.pow_pos zd);rw[<-Nat.pow_add]at this;exact Nat.lt_of_lt_of_le this (Nat.pow_le_pow_right zd zo)
def Ok.sm {x:Raw}(h:Ok x):Sm 4294967296 (aJ x):=Sm.raw (B:=2147483648) (by have:=h.1;omega) (by have:=h.2.1;omega) (by have:=h.2.2;omega)
def mI (g:Nat->Nat->Int)(k:Nat)(last:Int)(i j:Nat):Nat->Nat->Int:=λa b=>if k<a/\k<b/\(a<i\/a=i/\b<j)then dm g k a b/last else g a b
def awM (g:Nat->Nat->Int)(k:Nat)(last:Int):mI g k last (k+1) (k+1)=g:=by
 funext a b;unfold mI
 rw[if_neg zo]
def awK (g:Nat->Nat->Int)(k:Nat)(last:Int)(i j:Nat)(hi:k<i)(hj:k<j):(λa b=>if a=i/\b=j then dm g k i j/last else mI g k last i j a b)=mI g k last i (j+1):=by
 funext a b;unfold mI
 by_cases h:a=i/\b=j
 . obtain⟨rfl,rfl⟩:=h;rw[if_pos ⟨rfl,rfl⟩,if_pos ⟨hi,hj,.inr ⟨rfl,by omega⟩⟩]
 . rw[if_neg h];by_cases h2:k<a/\k<b/\(a<i\/a=i/\b<j)
   . rw[if_pos h2,if_pos ⟨h2.1,h2.2.1,by omega⟩]
   . rw[if_neg h2,if_neg (λh3=>h2 ⟨h3.1,h3.2.1,by omega⟩)]
def awL (g:Nat->Nat->Int)(k:Nat)(last:Int)(i n:Nat):∀a b,b<n->mI g k last i n a b=mI g k last (i+1) (k+1) a b:=by
 intro a b hb;unfold mI;by_cases h2:k<a/\k<b/\(a<i\/a=i/\b<n)
 . rw[if_pos h2,if_pos ⟨h2.1,h2.2.1,by omega⟩]
 . rw[if_neg h2,if_neg (λh3=>h2 ⟨h3.1,h3.2.1,by omega⟩)]
def awI (g:Nat->Nat->Int)(k:Nat)(last:Int)(n:Nat):∀a b,a<n->mI g k last n (k+1) a b=eI g k last a b:=by
 intro a b ha;unfold mI eI;by_cases h2:k<a/\k<b/\(a<n\/a=n/\b<k+1)
 . rw[if_pos h2,if_pos ⟨h2.1,h2.2.1⟩]
 . rw[if_neg h2,if_neg (λh3=>h2 ⟨h3.1,h3.2,by omega⟩)]
def awJ (g:Nat->Nat->Int)(k:Nat)(last:Int)(i j:Nat):mI g k last i j i j=g i j/\mI g k last i j k k=g k k/\mI g k last i j i k=g i k/\mI g k last i j k j=g k j:=by unfold mI;refine⟨if_neg zo,if_neg zo,if_neg zo,if_neg zo⟩
def Xu (g:Nat->Nat->Int)(k a b K:Nat)(h1:(g a b).natAbs<2^K)(h2:(g k k).natAbs<2^K)(h3:(g a k).natAbs<2^K)(h4:(g k b).natAbs<2^K):
 (g a b*g k k).natAbs<2^(2*K)/\(g a k*g k b).natAbs<2^(2*K)/\(dm g k a b).natAbs<2^(2*K+1):=by
 have e:2^(2*K)=2^K*2^K:=by rw[<-Nat.pow_add];congr 1;omega
 have m1:(g a b*g k k).natAbs<2^K*2^K:=by rw[Int.natAbs_mul];exact Nat.mul_lt_mul'' h1 h2
 have m2:(g a k*g k b).natAbs<2^K*2^K:=by rw[Int.natAbs_mul];exact Nat.mul_lt_mul'' h3 h4
 refine⟨by rw[e];exact m1,by rw[e];exact m2,?_⟩;rw[Nat.pow_succ,e];unfold dm;generalize g a b*g k k=x at*;generalize g a k*g k b=y at*;omega
def div_lt (x y:Int)(M:Nat)(h:x.natAbs<M):(x/y).natAbs<M\/¬y∣x:=by
 by_cases hd:y∣x
 . left;obtain⟨q,rfl⟩:=hd;by_cases hy:y=0
   . subst hy;simp;omega
   . rw[Int.mul_ediv_cancel_left _ hy];rw[Int.natAbs_mul]at h;have:1<=y.natAbs:=by omega
     have:=Nat.mul_le_mul_right q.natAbs this;omega
 . right;exact hd
def XC (a b k:Int):Dyadic.ofIntWithPrec a k-Dyadic.ofIntWithPrec b k=Dyadic.ofIntWithPrec (a-b) k:=by
 have h:Dyadic.ofIntWithPrec a k-Dyadic.ofIntWithPrec b k=Dyadic.ofIntWithPrec a k+ -Dyadic.ofIntWithPrec b k:=by grind
 rw[h,XB,Ay];rfl
def aqJ (n:Nat)(hn:1<=n)(cV:n<=4)(f:Nat->Nat->Int)(e:Nat->Nat->Dyadic)(q:Int)(h:∀a b,a<n->b<n->e a b=Dyadic.ofIntWithPrec (f a b) q):
 eU n e=Dyadic.ofIntWithPrec (fF n n 0 f 1 false) (n*q):=by
 have hc:n=1\/n=2\/n=3\/n=4:=by omega
 rcases hc with rfl|rfl|rfl|rfl
 . rw[aoU];unfold eU;simp only;rw[h 0 0 zo zo];congr 1;omega
 . rw[aoV];unfold eU BG;simp only;rw[h 0 0 zo zo,h 1 1 zo zo,h 0 1 zo zo,h 1 0 zo zo,wz,wz,XC];congr 1;omega
 . rw[aoW];unfold eU jv;simp only;rw[h 0 0 zo zo,h 1 1 zo zo,h 0 1 zo zo,h 1 0 zo zo,h 0 2 zo zo,h 2 0 zo zo,h 1 2 zo zo,h 2 1 zo zo,h 2 2 zo zo];simp only[wz,XC,Ay];congr 1;omega
 . rw[aoY];unfold eU fI;simp only;rw[h 0 0 zo zo,h 1 1 zo zo,h 0 1 zo zo,h 1 0 zo zo,h 0 2 zo zo,h 2 0 zo zo,h 1 2 zo zo,h 2 1 zo zo,h 2 2 zo zo];rw[h 0 3 zo zo,h 1 3 zo zo,h 2 3 zo zo,h 3 0 zo zo,h 3 1 zo zo,h 3 2 zo zo,h 3 3 zo zo];simp only[wz,XC,Ay];congr 1;omega
def acW (n:Nat)(hn:1<=n)(cV:n<=4)(f:Nat->Nat->Int):iI n n 0 f 1:=by
 have hc:n=1\/n=2\/n=3\/n=4:=by omega
 rcases hc with rfl|rfl|rfl|rfl
 . exact arh f
 . exact ari f
 . exact arj f
 . exact ark f
end Go.Proofs.YtnjfebkelecgaaaGreatDoor
