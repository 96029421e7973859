/- Small facts that walks over blocks of one's own share. -/
import Derived.Test.YtnjfebkelecgaaaGreatDoorZ5
import Derived.Deep.RegionHeld3
import Derived.Deep.DrawnRows
import Derived.Test.YtnjfebkelecgaaaGreatDoorZ1
set_option linter.all false
set_option maxRecDepth 100000
set_option maxHeartbeats 16000000
namespace Go.Proofs.YtnjfebkelecgaaaGreatDoor
open Go.RowKit
def eO {P:Program}{c:Code}{Q:Exit->Act->World->Prop}{a:Act}{W:World}(S:World->Prop)(hS:S W)(h:∀W',S W'->c.wp P Q a W'):c.wp P Q a W:=h W hS
def fB {P:Program}{f:FuncId}{args:Array Value}{R:Ending->World->Prop}{W:World}(S:World->Prop)(hS:S W)(h:∀W',S W'->Calls P f args W' R):Calls P f args W R:=h W hS
def gN {w:World}{p a:Addr}{u v:Value}(hne:a.block≠p.block)(h:w.cell? a=some v):(w.setCell p u).cell? a=some v:=
 (World.cell?_of_block (w:=w) (Below.heap_setCell _ _ _ _ hne)).trans h
def aH.newAt (w:World)(t:TypeId)(cs:List Value){b:Nat}(h:w.heap.size=b):aH (w.alloc (.cells cs.toArray t)) b t cs:=by subst h;exact aH.new w t cs
def df {a w:World}(h:Below a.drew.heap.size a.drew w):Bw a w:=⟨h.os,h.tape,h.output,h.size,h.block⟩
def aO {w W w1:World}(h:Bw w W)(k:Bw W w1):Bw w w1:=h.trans (k.mono h.size)
def bD {w W w1:World}(h:Hid (Bw w W))(k:Bw W w1):Hid (Bw w w1):=aO h.out k
def dt {p:Prop}(h:p:=by(repeat first|exact Hb.out| (refine Below.setCell ?_ (by have:=Hb.out.size;first| (dsimp only;omega) | (show _<=_;omega) | (simp<;>omega)) _) | (refine Below.alloc ?_ (by have:=Hb.out.size;simp<;>omega) _) |refine Below.drew ?_)):p:=h
def xQ (b:Nat):Nat->List Value->World->World
 |_,[],w=>w
 |o,v::l,w=>xQ b (o+1) l (w.setCell ⟨b,o,none⟩ v)
def cB :Nat->List Value->List Value->List Value
 |_,[],c=>c
 |o,v::l,c=>cB (o+1) l (c.set o v)
def bG (w:World)(b o:Nat)(vs:List Value)(w':World):Prop:=w'=xQ b o vs w\/w'=xQ b o vs w.drew
def stI {w:World}{b o:Nat}{vs:List Value}:bG w b o vs (xQ b o vs w):=.inl rfl
def stJ {w:World}{b o:Nat}{vs:List Value}:bG w b o vs (xQ b o vs w.drew):=.inr rfl
def bM {w:World}{b o:Nat}{vs:List Value}{w':World}(h:bG w b o vs w':=by first|exact stI|exact stJ):bG w b o vs w':=h
def awJ (vs:List Value):∀(o:Nat) (cs:List Value),cs.length=o+vs.length->cB o vs cs=cs.take o++vs:=by
 induction vs with
 |nil=>intro o cs h;simp only[cB,List.append_nil];rw[List.take_of_length_le (by simp at h;omega)]
 |cons v vs ih=>intro o cs h;simp only[List.length_cons]at h;rw[cB,ih (o+1) _ (by rw[List.length_set];omega),List.take_succ_eq_append_getElem (by rw[List.length_set];omega),List.getElem_set_self,List.take_set_of_le (Nat.le_refl _),List.append_assoc];rfl
def ahk (p b:Nat)(n:p≠b)(t:TypeId)(cs:List Value)(vs:List Value):∀(o:Nat) (w:World),aH w b t cs->aH (xQ p o vs w) b t cs:=by
 induction vs with
 |nil=>intro o w h;exact h
 |cons v vs ih=>intro o w h;exact ih _ _ (h.aCj ⟨p,o,none⟩ n v)
def ahl (b:Nat)(t:TypeId)(vs:List Value):∀(o:Nat) (w:World) (cs:List Value),aH w b t cs->aH (xQ b o vs w) b t (cB o vs cs):=by
 induction vs with
 |nil=>intro o w cs h;exact h
 |cons v vs ih=>intro o w cs h;exact ih _ _ _ (h.set o v)
def ahj (a w0:World)(p:Nat)(n:a.heap.size<=p)(vs:List Value):∀(o:Nat) (w:World),Below a.heap.size w0 w->Below a.heap.size w0 (xQ p o vs w):=by
 induction vs with
 |nil=>intro o w h;exact h
 |cons v vs ih=>intro o w h;exact ih _ _ (h.setCell n v)
def kS {w w':World}{b p o:Nat}{t:TypeId}{cs vs:List Value}(h:Hid (aH w b t cs))(k:bG w p o vs w')(n:p≠b):Hid (aH w' b t cs):=by
 rcases k with rfl|rfl
 . exact ahk p b n t cs vs o _ h.out
 . exact ahk p b n t cs vs o _ h.out.drew
def zJ {w w':World}{b o:Nat}{t:TypeId}{cs vs:List Value}(h:Hid (aH w b t cs))(k:bG w b o vs w'):Hid (aH w' b t (cB o vs cs)):=by
 rcases k with rfl|rfl
 . exact ahl b t vs o _ cs h.out
 . exact ahl b t vs o _ cs h.out.drew
def vH {w w':World}{b:Nat}{t:TypeId}{cs vs:List Value}(h:Hid (aH w b t cs))(k:bG w b 0 vs w')(e:cs.length=vs.length:=by rfl):Hid (aH w' b t vs):=by have:=zJ h k;rwa [awJ vs 0 cs zo,List.take_zero,List.nil_append]at this
def bS {a w w':World}{p o:Nat}{vs:List Value}(h:Hid (Bw a w))(k:bG w p o vs w')(n:a.heap.size<=p):Hid (Bw a w'):=by
 rcases k with rfl|rfl
 . exact ahj a a p n vs o _ h.out
 . exact ahj a a p n vs o _ h.out.drew
def tN {a w:World}{o:Obj}(h:Below (a.alloc o).heap.size (a.alloc o) w):Bw a w:=aO zl h
def yD {a w:World}{o:Obj}(h:Below (a.drew.alloc o).heap.size (a.drew.alloc o) w):Bw a w:=df (tN h)
def wJ {a w:World}{o:Obj}(h:Below (a.alloc o).drew.heap.size (a.alloc o).drew w):Bw a w:=tN (df h)
def bg {w:World}{a:Addr}{v:Value}{o:Obj}(h:w.cell? a=some v):(w.alloc o).cell? a=some v:=cell_later zl h
def Sa {w:World}{a:Addr}{v:Value}(h:w.cell? a=some v):w.drew.cell? a=some v:=h
def At.aCi {w:World}{b:Nat}{t:TypeId}{cs:List Value}(h:aH w b t cs):At w (some ⟨b,0,none⟩) cs:=
 .inr ⟨b,0,rfl,λj _=>by rw[Nat.zero_add];exact h.cell j⟩
def flat_get {α:Type}(f:α->List Value)(sz:Nat)(hf:∀x,(f x).length=sz)(xs:List α)(k i:Nat)(hk:k<xs.length)(hi:i<sz):
 (xs.flatMap f)[k*sz+i]?=(f xs[k])[i]?:=by
 induction xs generalizing k with
 |nil=>simp at hk
 | cons x xs ih=>
   rw[List.flatMap_cons];cases k with
   |zero=>rw[Nat.zero_mul,Nat.zero_add,List.getElem?_append_left (by rw[hf];exact hi)];rfl
   | succ k=>
     have e:(k+1) *sz+i=(f x).length+(k*sz+i):=by rw[hf,Nat.add_mul,Nat.one_mul];omega
     rw[e,List.getElem?_append_right zo,Nat.add_sub_cancel_left,ih k (by simpa using hk)];rfl
def nU {α:Type}(f:α->List Value)(sz:Nat)(hf:∀x,(f x).length=sz)(xs:List α):(xs.flatMap f).length=xs.length*sz:=by
 induction xs with
 |nil=>simp
 |cons x xs ih=>rw[List.flatMap_cons,List.length_append,ih,hf,List.length_cons,Nat.add_mul,Nat.one_mul,Nat.add_comm]
def At.elem {α:Type}{f:α->List Value}{sz:Nat}(hf:∀x,(f x).length=sz)(hsz:0<sz){W:World}{a:Option Addr}{xs:List α}(h:At W a (xs.flatMap f))(k:Nat)(hk:k<xs.length):
 ∃b o,a=some ⟨b,o,none⟩/\∀i,i<sz->W.cell? ⟨b,o+k*sz+i,none⟩=(f xs[k])[i]?:=by
 have hl:=nU f sz hf xs;have hb:∀i,i<sz->k*sz+i<xs.length*sz:=by intro i hi;have:(k+1) *sz<=xs.length*sz:=Nat.mul_le_mul_right _ hk;rw[Nat.add_mul,Nat.one_mul]at this;omega
 have hne:xs.flatMap f≠[]:=by intro h0;have:=congrArg List.length h0;rw[hl]at this;have:=hb 0 hsz;simp at*;omega
 obtain⟨b,o,ha,hc⟩:=h.get hne;refine⟨b,o,ha,λi hi=>?_⟩;rw[Nat.add_assoc,hc _ (by rw[hl];exact hb i hi),flat_get f sz hf xs k i hk hi]
end Go.Proofs.YtnjfebkelecgaaaGreatDoor
namespace Go.Proofs.YtnjfebkelecgaaaGreatDoor
open Go.RowKit
attribute [local go_sem ↓] Go.wp_at_zero Go.wp_at_succ
def iv (s:Bool)(l:List UInt8):Int:=if s then-(nv l:Int)else(nv l:Int)
def oh (s:Bool)(l:List UInt8):(iv s l).natAbs=nv l:=by unfold iv;split<;>omega
def aK (n:Int):Bool:=decide (n<0)
def Vx (s:Bool)(l:List UInt8):aK (iv s l)=(s&& !(nt (nv l)).isEmpty):=by
 unfold aK;have h:(nt (nv l)).isEmpty=decide (nv l=0):=by rw[Bool.eq_iff_iff,List.isEmpty_iff,VY,decide_eq_true_iff]
 rw[h];unfold iv;cases s<;>simp
 by_cases h0:nv l=0<;>simp[h0];omega
abbrev dx (n:Int):Value:=.agg #[aj (aK n),ai (nt n.natAbs)]
def gu (n:Int):iv (aK n) (nt n.natAbs)=n:=by unfold iv aK;rw[jp];by_cases h:n<0<;>simp[h]<;>omega
def pu (s:Bool)(n:Nat):iv s (nt n)=if s then-(n:Int)else n:=by unfold iv;rw[jp]
def EN (l:List UInt8)(s:Bool)(w:World):
 Cv 105 #[.agg #[aj s,ai l]] w (.agg #[ai l,aj s]):=by
 go_enter Tryz.func105,Tryz.ntmps105;have Hb:=hbz w;go_wp2;exact bodyPost_ret (v:=.agg #[ai l,aj s]) (by simp[results,Tryz.results105,go_sem]) rfl ⟨rfl,dt⟩
def xD (l:List UInt8)(s:Bool)(w:World)(hl:l.length<=1099511627776):
 Cv 106 #[.agg #[ai l,aj s]] w (dx (iv s l)):=by
 unfold dx;rw[oh,Vx];have hne:=wL (nt (nv l));generalize hb:(nt (nv l)).isEmpty=b at*;have HB:=az hb;clear hb;cases s
 . go_enter Tryz.func106,Tryz.ntmps106;have Hb:=hbz w;go_wp2_with (go_at_call 145;refine(ahG l _ hl).mono ?_;rintro e w1 ⟨rfl,rfl⟩);go_wp2;exact bodyPost_ret (v:=.agg #[aj false,ai (nt (nv l))]) (by simp[results,Tryz.results106,go_sem]) rfl ⟨rfl,dt⟩
 . go_enter Tryz.func106,Tryz.ntmps106;have Hb:=hbz w;go_wp2_with (go_at_call 145;refine(ahG l _ hl).mono ?_;rintro e w1 ⟨rfl,rfl⟩);go_wp2;exact bodyPost_ret (v:=.agg #[.bool !b,ai (nt (nv l))]) (by simp[results,Tryz.results106,go_sem]) rfl ⟨rfl,dt⟩
def atz (l m:List UInt8)(b cap:Nat)(t:TypeId)(w:World)(hl:l.length<=68719476736)(hm:m.length<=68719476736)(ha:aH w b t [ai l,ai m]):
 Cv 142 #[.slice (some ⟨b,0,none⟩) 2 cap] w (ai (nt (nv l+nv m))):=by
 have:=aty [l,m] (some ⟨b,0,none⟩) cap w (by simp[hl,hm]) zm (At.aCi ha);have e:ij [l,m]=nv l+nv m:=by simp[ij]
 rw[e]at this;exact this
def auN (l m:List UInt8)(s:Bool)(w:World)(hl:l.length<=68719476736)(hm:m.length<=68719476736):
 Cv 104 #[.agg #[.string (bs l),.bool s],.agg #[.string (bs m),.bool s]] w (.agg #[.string (bs (nt (nv l+nv m))),.bool s]):=by
 go_enter Tryz.func104,Tryz.ntmps104;have Hb:=hbz w;go_wp2_with fail;obtain⟨R,hR⟩:∃R:World->Prop,(λW=>aH W (w.heap.size) 133 [.string (bs l),.bool s]/\aH W (w.heap.size+1) 133 [.string (bs m),.bool s]/\aH W (w.heap.size+1+1) 133 [.string (bs []),.bool false]/\Bw w W)=R:=⟨_,rfl⟩;first|refine eO R ?hR ?_|refine fB R ?hR ?_
 case hR=>subst hR;exact⟨(((aH.newAt w _ _ (b:=w.heap.size) rfl).alloc _).alloc _),((aH.newAt (w.alloc _) _ _ (b:=w.heap.size+1) zm).alloc _),(aH.newAt ((w.alloc _).alloc _) _ _ (b:=w.heap.size+1+1) zm),((zl.alloc zj _).alloc zj _)⟩
 subst hR;rintro W ⟨qx,qy,qr,au⟩;have Hx:=az qx;clear qx;have Hy:=az qy;clear qy;have Hr:=az qr;clear qr;obtain⟨x0,x1⟩:=Hx.out.c2;obtain⟨y0,y1⟩:=Hy.out.c2;obtain⟨r0,bo,r1,bz⟩:=Hr.out.g2;replace Hb:=bD Hb au;have VW:w.heap.size≠w.heap.size+1+1:=by omega
 have ney:w.heap.size+1≠w.heap.size+1+1:=by omega
 go_region_held3 (λw'=>w'.cell? ⟨w.heap.size,0,none⟩=some (.string (bs l))/\w'.cell? ⟨w.heap.size,1,none⟩=some (.bool s)/\w'.cell? ⟨w.heap.size+1,0,none⟩=some (.string (bs m))/\w'.cell? ⟨w.heap.size+1,1,none⟩=some (.bool s)) (((try dsimp only);go_split_ands;(repeat' apply And.intro)<;>(first|exact True.intro|with_reducible assumption| ((with_reducible refine gN zg ?_);(repeat(with_reducible refine gN zg ?_));with_reducible assumption) |exact cell_later (by with_reducible assumption) (by with_reducible assumption) |exact bg (by with_reducible assumption) |go_keep))) (first| (go_at_call 142;(with_reducible refine(atz l m W.heap.size 2 9 _ hl hm (by first|exact aH.drew (aH.new _ _ _) |exact aH.new _ _ _)).mono ?_);rintro e w1 ⟨rfl,hq⟩;have hw1:Bw W w1:=(by first|exact df hq|exact hq|exact yD hq|exact tN hq|exact wJ hq);clear hq;have mQ:=az (Hx.out.below hw1);have CE:w1.cell? ⟨w.heap.size,0,none⟩=some (.string (bs l)):=mQ.out.cell 0;have CF:w1.cell? ⟨w.heap.size,1,none⟩=some (.bool s):=mQ.out.cell 1;have rZ:=az (Hy.out.below hw1);have Ky:w1.cell? ⟨w.heap.size+1,0,none⟩=some (.string (bs m)):=rZ.out.cell 0;have Kz:w1.cell? ⟨w.heap.size+1,1,none⟩=some (.bool s):=rZ.out.cell 1;have iJ:=az (Hr.out.below hw1);have Cs:w1.cell? ⟨w.heap.size+1+1,0,none⟩=some (.string (bs [])):=iJ.out.cell 0;have Bh:w1.frozen? ⟨w.heap.size+1+1,0,none⟩=false:=iJ.out.free 0;have Ct:w1.cell? ⟨w.heap.size+1+1,1,none⟩=some (.bool false):=iJ.out.cell 1;have Bi:w1.frozen? ⟨w.heap.size+1+1,1,none⟩=false:=iJ.out.free 1))
 replace Hb:=az (aO Hb.out hw1);clear hw1 x0 x1 y0 y1 r0 bo r1 bz;replace Hx:=mQ;clear CE CF;replace Hy:=rZ;clear Ky Kz;replace Hr:=iJ;clear Cs Bh Ct Bi;obtain⟨x0,x1⟩:=Hx.out.c2;obtain⟨y0,y1⟩:=Hy.out.c2;obtain⟨r0,bo,r1,bz⟩:=Hr.out.g2;go_wp2;exact bodyPost_ret (v:=.agg #[.string (bs (nt (nv l+nv m))),.bool s]) (by simp[results,Tryz.results104,go_sem,r0,r1]) rfl ⟨rfl,dt⟩
def ag8 (l m:List UInt8)(w:World)(hl:l.length<=68719476736)(hm:m.length<=68719476736):
 Cv 143 #[ai l,ai m] w (ah (dH (nv l) (nv m))):=by
 go_enter Tryz.func143,Tryz.ntmps143;have Hb:=hbz w;go_wp2_with fail;refine(atA l m _ hl hm).mono ?_;rintro e w1 ⟨rfl,au⟩;replace Hb:=bD Hb au;go_wp2;go_ret;exact⟨rfl,Hb.out⟩
def auK (l m:List UInt8)(s:Bool)(w:World)(hl:l.length<=68719476736)(hm:m.length<=68719476736)(h:nv m<=nv l):
 Cv 104 #[.agg #[ai l,aj s],.agg #[ai m,aj (!s)]] w (.agg #[ai (nt (nv l-nv m)),aj s]):=by
 have hc0:0<=dH (nv l) (nv m):=by unfold dH;rw[if_neg zo];split<;>omega
 have NY:(s== !s)=false:=by cases s<;>rfl
 have Hh:=az h;clear h;go_enter Tryz.func104,Tryz.ntmps104;have Hb:=hbz w;go_wp2_with fail;obtain⟨R,hR⟩:∃R:World->Prop,(λW=>aH W (w.heap.size) 133 [ai l,aj s]/\aH W (w.heap.size+1) 133 [ai m,aj (!s)]/\aH W (w.heap.size+1+1) 133 [.string (bs []),aj false]/\Bw w W)=R:=⟨_,rfl⟩;first|refine eO R ?hR ?_|refine fB R ?hR ?_
 case hR=>subst hR;exact⟨(((aH.newAt w _ _ (b:=w.heap.size) rfl).alloc _).alloc _),((aH.newAt (w.alloc _) _ _ (b:=w.heap.size+1) zm).alloc _),(aH.newAt ((w.alloc _).alloc _) _ _ (b:=w.heap.size+1+1) zm),((zl.alloc zj _).alloc zj _)⟩
 subst hR;rintro W ⟨qx,qy,qr,au⟩;have Hx:=az qx;clear qx;have Hy:=az qy;clear qy;have Hr:=az qr;clear qr;obtain⟨x0,x1⟩:=Hx.out.c2;obtain⟨y0,y1⟩:=Hy.out.c2;obtain⟨r0,bo,r1,bz⟩:=Hr.out.g2;replace Hb:=bD Hb au;go_wp2_with fail;refine(ag8 l m _ hl hm).mono ?_;rintro e w1 ⟨rfl,au⟩;obtain⟨Hx,x0,x1⟩:=fP Hx au;obtain⟨Hy,y0,y1⟩:=fP Hy au;obtain⟨Hr,r0,bo,r1,bz⟩:=dZ Hr au;replace Hb:=bD Hb au;go_wp2_with fail;refine(af4 l m _ hl hm Hh.out).mono ?_;rintro e w2 ⟨rfl,au⟩;obtain⟨Hx,x0,x1⟩:=fP Hx au;obtain⟨Hy,y0,y1⟩:=fP Hy au;obtain⟨Hr,r0,bo,r1,bz⟩:=dZ Hr au;replace Hb:=bD Hb au;go_wp2;exact bodyPost_ret (v:=.agg #[ai (nt (nv l-nv m)),aj s]) (by simp[results,Tryz.results104,go_sem,r0,r1]) rfl ⟨rfl,dt⟩
def auL (l m:List UInt8)(s:Bool)(w:World)(hl:l.length<=68719476736)(hm:m.length<=68719476736)(h:nv l<nv m):
 Cv 104 #[.agg #[ai l,aj s],.agg #[ai m,aj (!s)]] w (.agg #[ai (nt (nv m-nv l)),aj (!s)]):=by
 have hc0:dH (nv l) (nv m)<0:=by unfold dH;rw[if_pos h];omega
 have NY:(s== !s)=false:=by cases s<;>rfl
 have Hh:=az (Nat.le_of_lt h);clear h;go_enter Tryz.func104,Tryz.ntmps104;have Hb:=hbz w;go_wp2_with fail;obtain⟨R,hR⟩:∃R:World->Prop,(λW=>aH W (w.heap.size) 133 [ai l,aj s]/\aH W (w.heap.size+1) 133 [ai m,aj (!s)]/\aH W (w.heap.size+1+1) 133 [.string (bs []),aj false]/\Bw w W)=R:=⟨_,rfl⟩;first|refine eO R ?hR ?_|refine fB R ?hR ?_
 case hR=>subst hR;exact⟨(((aH.newAt w _ _ (b:=w.heap.size) rfl).alloc _).alloc _),((aH.newAt (w.alloc _) _ _ (b:=w.heap.size+1) zm).alloc _),(aH.newAt ((w.alloc _).alloc _) _ _ (b:=w.heap.size+1+1) zm),((zl.alloc zj _).alloc zj _)⟩
 subst hR;rintro W ⟨qx,qy,qr,au⟩;have Hx:=az qx;clear qx;have Hy:=az qy;clear qy;have Hr:=az qr;clear qr;obtain⟨x0,lT,x1,lU⟩:=Hx.out.g2;obtain⟨y0,jA,y1,jB⟩:=Hy.out.g2;obtain⟨r0,bo,r1,bz⟩:=Hr.out.g2;replace Hb:=bD Hb au;go_wp2_with fail;refine(ag8 l m _ hl hm).mono ?_;rintro e w1 ⟨rfl,au⟩;obtain⟨Hx,x0,lT,x1,lU⟩:=dZ Hx au;obtain⟨Hy,y0,jA,y1,jB⟩:=dZ Hy au;obtain⟨Hr,r0,bo,r1,bz⟩:=dZ Hr au;replace Hb:=bD Hb au;go_wp2_with fail;obtain⟨R,hR⟩:∃R:World->Prop,(λw2=>aH w2 (w.heap.size) 133 [ai m,aj (!s)]/\aH w2 (w.heap.size+1) 133 [ai l,aj s]/\aH w2 (w.heap.size+1+1) 133 [.string (bs []),aj false]/\Bw w w2)=R:=⟨_,rfl⟩;first|refine eO R ?hR ?_|refine fB R ?hR ?_
 case hR=>subst hR;exact⟨((((Hx.out.set 0 _).set 1 _).so (w.heap.size+1) 0 zo _).so (w.heap.size+1) 1 zo _),((((Hy.out.so (w.heap.size) 0 zo _).so (w.heap.size) 1 zo _).set 0 _).set 1 _),((((Hr.out.so (w.heap.size) 0 zo _).so (w.heap.size) 1 zo _).so (w.heap.size+1) 0 zo _).so (w.heap.size+1) 1 zo _),((((Hb.out.sc (w.heap.size) 0 ZS _).sc (w.heap.size) 1 ZS _).sc (w.heap.size+1) 0 ZS _).sc (w.heap.size+1) 1 ZS _)⟩
 subst hR;rintro w2 ⟨qx,qy,qr,au⟩;replace Hx:=az qx;clear qx;replace Hy:=az qy;clear qy;replace Hr:=az qr;clear qr;obtain⟨x0,lT,x1,lU⟩:=Hx.out.g2;obtain⟨y0,jA,y1,jB⟩:=Hy.out.g2;obtain⟨r0,bo,r1,bz⟩:=Hr.out.g2;replace Hb:=az au;go_wp2_with fail;refine(af4 m l _ hm hl Hh.out).mono ?_;rintro e w3 ⟨rfl,au⟩;obtain⟨Hx,x0,lT,x1,lU⟩:=dZ Hx au;obtain⟨Hy,y0,jA,y1,jB⟩:=dZ Hy au;obtain⟨Hr,r0,bo,r1,bz⟩:=dZ Hr au;replace Hb:=bD Hb au;go_wp2;exact bodyPost_ret (v:=.agg #[ai (nt (nv m-nv l)),aj (!s)]) (by simp[results,Tryz.results104,go_sem,r0,r1]) rfl ⟨rfl,dt⟩
def xM (s:Bool)(l:List UInt8)(t:Bool)(m:List UInt8):Bool:=if s==t then s else if nv l<nv m then t else s
def au3 (s:Bool)(l:List UInt8)(t:Bool)(m:List UInt8):iv (xM s l t m) (nt (iv s l+iv t m).natAbs)=iv s l+iv t m:=by unfold xM iv;rw[jp];cases s<;>cases t<;>simp<;>(try split)<;>omega
def auJ (l m:List UInt8)(s t:Bool)(w:World)(hl:l.length<=68719476736)(hm:m.length<=68719476736):
 Cv 104 #[.agg #[ai l,aj s],.agg #[ai m,aj t]] w (.agg #[ai (nt (iv s l+iv t m).natAbs),aj (xM s l t m)]):=by
 by_cases hst:s=t
 . subst hst;have e:(iv s l+iv s m).natAbs=nv l+nv m:=by unfold iv;split<;>omega
   rw[e,show xM s l s m=s by simp[xM]];exact auN l m s w hl hm
 . obtain rfl:t= !s:=by cases s<;>cases t<;>simp_all
   by_cases h:nv l<nv m
   . have e:(iv s l+iv (!s) m).natAbs=nv m-nv l:=by unfold iv;cases s<;>simp<;>omega
     rw[e,show xM s l (!s) m= !s by cases s<;>simp[xM,h]];exact auL l m s w hl hm h
   . have e:(iv s l+iv (!s) m).natAbs=nv l-nv m:=by unfold iv;cases s<;>simp<;>omega
     rw[e,show xM s l (!s) m=s by cases s<;>simp[xM,h]];exact auK l m s w hl hm zo
def ahA (l m:List UInt8)(s t:Bool)(w:World)(hl:l.length<=68719476736)(hm:m.length<=68719476736):
 Cv 107 #[.agg #[.string (bs l),.bool s],.agg #[.string (bs m),.bool t]] w (.agg #[.string (bs (nt (nv l*nv m))),.bool (!(s==t))]):=by
 go_enter Tryz.func107,Tryz.ntmps107;have Hb:=hbz w;go_wp2_with fail;obtain⟨R,hR⟩:∃R:World->Prop,(λW=>aH W (w.heap.size) 133 [.string (bs l),.bool s]/\aH W (w.heap.size+1) 133 [.string (bs m),.bool t]/\aH W (w.heap.size+1+1) 133 [.string (bs []),.bool false]/\Bw w W)=R:=⟨_,rfl⟩;first|refine eO R ?hR ?_|refine fB R ?hR ?_
 case hR=>subst hR;exact⟨(((aH.newAt w _ _ (b:=w.heap.size) rfl).alloc _).alloc _),((aH.newAt (w.alloc _) _ _ (b:=w.heap.size+1) zm).alloc _),(aH.newAt ((w.alloc _).alloc _) _ _ (b:=w.heap.size+1+1) zm),((zl.alloc zj _).alloc zj _)⟩
 subst hR;rintro W ⟨qx,qy,qr,au⟩;have Hx:=az qx;clear qx;have Hy:=az qy;clear qy;have Hr:=az qr;clear qr;obtain⟨x0,x1⟩:=Hx.out.c2;obtain⟨y0,y1⟩:=Hy.out.c2;obtain⟨r0,bo,r1,bz⟩:=Hr.out.g2;replace Hb:=bD Hb au;have VW:w.heap.size≠w.heap.size+1+1:=by omega
 have ney:w.heap.size+1≠w.heap.size+1+1:=by omega
 go_region_held3 (λw'=>w'.cell? ⟨w.heap.size,0,none⟩=some (.string (bs l))/\w'.cell? ⟨w.heap.size,1,none⟩=some (.bool s)/\w'.cell? ⟨w.heap.size+1,0,none⟩=some (.string (bs m))/\w'.cell? ⟨w.heap.size+1,1,none⟩=some (.bool t)) (((try dsimp only);go_split_ands;(repeat' apply And.intro)<;>(first|exact True.intro|with_reducible assumption| ((with_reducible refine gN zg ?_);(repeat(with_reducible refine gN zg ?_));with_reducible assumption) |exact cell_later (by with_reducible assumption) (by with_reducible assumption) |exact bg (by with_reducible assumption) |go_keep))) (first| (go_at_call 146;(with_reducible refine(atE l m _ hl hm).mono ?_);rintro e w1 ⟨rfl,hq⟩;have hw1:Bw W w1:=(by first|exact df hq|exact hq|exact yD hq|exact tN hq|exact wJ hq);clear hq;have mQ:=az (Hx.out.below hw1);have CE:w1.cell? ⟨w.heap.size,0,none⟩=some (.string (bs l)):=mQ.out.cell 0;have CF:w1.cell? ⟨w.heap.size,1,none⟩=some (.bool s):=mQ.out.cell 1;have rZ:=az (Hy.out.below hw1);have Ky:w1.cell? ⟨w.heap.size+1,0,none⟩=some (.string (bs m)):=rZ.out.cell 0;have Kz:w1.cell? ⟨w.heap.size+1,1,none⟩=some (.bool t):=rZ.out.cell 1;have iJ:=az (Hr.out.below hw1);have Cs:w1.cell? ⟨w.heap.size+1+1,0,none⟩=some (.string (bs [])):=iJ.out.cell 0;have Bh:w1.frozen? ⟨w.heap.size+1+1,0,none⟩=false:=iJ.out.free 0;have Ct:w1.cell? ⟨w.heap.size+1+1,1,none⟩=some (.bool false):=iJ.out.cell 1;have Bi:w1.frozen? ⟨w.heap.size+1+1,1,none⟩=false:=iJ.out.free 1))
 replace Hb:=az (aO Hb.out hw1);clear hw1 x0 x1 y0 y1 r0 bo r1 bz;replace Hx:=mQ;clear CE CF;replace Hy:=rZ;clear Ky Kz;replace Hr:=iJ;clear Cs Bh Ct Bi;obtain⟨x0,x1⟩:=Hx.out.c2;obtain⟨y0,y1⟩:=Hy.out.c2;obtain⟨r0,bo,r1,bz⟩:=Hr.out.g2;go_wp2;exact bodyPost_ret (v:=.agg #[.string (bs (nt (nv l*nv m))),.bool (!(s==t))]) (by simp[results,Tryz.results107,go_sem,r0,r1]) rfl ⟨rfl,dt⟩
def afm (s:Bool)(l:List UInt8)(t:Bool)(m:List UInt8):iv (!(s==t)) (nt (nv l*nv m))=iv s l*iv t m:=by unfold iv;rw[jp];cases s<;>cases t<;>simp[Int.natCast_mul,Int.neg_mul,Int.mul_neg]
def Xz (n:Int)(w:World)(h0: -9223372036854775808<=n)(h1:n<=9223372036854775807):
 Cv 78 #[ah n] w (dx n):=by
 have hb:n.natAbs<WW:=by rw[kq];omega
 have hlen:(nt n.natAbs).length<=8:=jo (by rw[kq]at hb;omega);have ju:=az hb;clear hb;by_cases hn:n<0
 . have uf:IntKind.u64.wrap (-(IntKind.u64.wrap n))=(n.natAbs:Int):=by simp only[IntKind.wrap_u64];omega
   have lI:Hid (iv true (nt n.natAbs)=n):=by show iv _ _=_;unfold iv;rw[jp];simp;omega
   go_enter Tryz.func78,Tryz.ntmps78;have Hb:=hbz w;go_wp2_with fail;obtain⟨R,hR⟩:∃R:World->Prop,(λW=>aH W (w.heap.size) 46 [aj false,.string (bs [])]/\Bw w W)=R:=⟨_,rfl⟩;first|refine eO R ?hR ?_|refine fB R ?hR ?_
   case hR=>subst hR;exact⟨(aH.newAt w _ _ (b:=w.heap.size) rfl),zl⟩
   subst hR;rintro W ⟨qr,au⟩;have Hr:=az qr;clear qr;obtain⟨r0,bo,r1,bz⟩:=Hr.out.g2;replace Hb:=bD Hb au;go_wp2_with fail;refine(af3 n.natAbs ju.out _).mono ?_;rintro e w1 ⟨rfl,au⟩;obtain⟨Hr,r0,bo,r1,bz⟩:=dZ Hr au;replace Hb:=bD Hb au;go_wp2_with fail;refine(xD (nt n.natAbs) true _ zo).mono ?_;rintro e w2 ⟨rfl,au⟩;obtain⟨Hr,r0,bo,r1,bz⟩:=dZ Hr au;replace Hb:=bD Hb au;rw[lI.out];go_wp2;exact bodyPost_ret (v:=dx n) (by simp[results,Tryz.results78,go_sem,r0,r1]) rfl ⟨rfl,dt⟩
 . have uf:IntKind.u64.wrap n=(n.natAbs:Int):=by simp only[IntKind.wrap_u64];omega
   have lI:Hid (iv false (nt n.natAbs)=n):=by show iv _ _=_;unfold iv;rw[jp];simp;omega
   go_enter Tryz.func78,Tryz.ntmps78;have Hb:=hbz w;go_wp2_with fail;obtain⟨R,hR⟩:∃R:World->Prop,(λW=>aH W (w.heap.size) 46 [aj false,.string (bs [])]/\Bw w W)=R:=⟨_,rfl⟩;first|refine eO R ?hR ?_|refine fB R ?hR ?_
   case hR=>subst hR;exact⟨(aH.newAt w _ _ (b:=w.heap.size) rfl),zl⟩
   subst hR;rintro W ⟨qr,au⟩;have Hr:=az qr;clear qr;obtain⟨r0,bo,r1,bz⟩:=Hr.out.g2;replace Hb:=bD Hb au;go_wp2_with fail;refine(af3 n.natAbs ju.out _).mono ?_;rintro e w1 ⟨rfl,au⟩;obtain⟨Hr,r0,bo,r1,bz⟩:=dZ Hr au;replace Hb:=bD Hb au;go_wp2_with fail;refine(xD (nt n.natAbs) false _ zo).mono ?_;rintro e w2 ⟨rfl,au⟩;obtain⟨Hr,r0,bo,r1,bz⟩:=dZ Hr au;replace Hb:=bD Hb au;rw[lI.out];go_wp2;exact bodyPost_ret (v:=dx n) (by simp[results,Tryz.results78,go_sem,r0,r1]) rfl ⟨rfl,dt⟩
def CC (s:Bool)(l:List UInt8)(w:World)(hl:l.length<=1099511627776):
 Cv 135 #[.agg #[aj s,ai l]] w (dx (iv s l)):=by
 go_enter Tryz.func135,Tryz.ntmps135;have Hb:=hbz w;go_wp2_with fail;obtain⟨R,hR⟩:∃R:World->Prop,(λW=>aH W (w.heap.size) 46 [aj s,ai l]/\aH W (w.heap.size+1) 46 [aj false,.string (bs [])]/\Bw w W)=R:=⟨_,rfl⟩;first|refine eO R ?hR ?_|refine fB R ?hR ?_
 case hR=>subst hR;exact⟨((aH.newAt w _ _ (b:=w.heap.size) rfl).alloc _),(aH.newAt (w.alloc _) _ _ (b:=w.heap.size+1) zm),(zl.alloc zj _)⟩
 subst hR;rintro W ⟨qx,qr,au⟩;have Hx:=az qx;clear qx;have Hr:=az qr;clear qr;obtain⟨x0,x1⟩:=Hx.out.c2;obtain⟨r0,bo,r1,bz⟩:=Hr.out.g2;replace Hb:=bD Hb au;go_wp2_with fail;refine(EN l s _).mono ?_;rintro e w1 ⟨rfl,au⟩;obtain⟨Hx,x0,x1⟩:=fP Hx au;obtain⟨Hr,r0,bo,r1,bz⟩:=dZ Hr au;replace Hb:=bD Hb au;go_wp2_with fail;refine(xD l s _ hl).mono ?_;rintro e w2 ⟨rfl,au⟩;obtain⟨Hx,x0,x1⟩:=fP Hx au;obtain⟨Hr,r0,bo,r1,bz⟩:=dZ Hr au;replace Hb:=bD Hb au;go_wp2;exact bodyPost_ret (v:=dx (iv s l)) (by simp[results,Tryz.results135,go_sem,r0,r1]) rfl ⟨rfl,dt⟩
def fU (n:Int):Int:=if n<0 then-1 else if n=0 then 0 else 1
def Pn (s:Bool)(l:List UInt8)(w:World)(hl:l.length<=1099511627776):
 Cv 101 #[.agg #[aj s,ai l]] w (ah (fU (iv s l))):=by
 have hne:=wL (nt (iv s l).natAbs);by_cases hneg:iv s l<0
 . have hs:aK (iv s l)=true:=by simp[aK,hneg]
   have gW:Hid (fU (iv s l)= -1):=by show fU _=_;simp[fU,hneg]
   clear hneg hne;go_enter Tryz.func101,Tryz.ntmps101;have Hb:=hbz w;go_wp2_with fail;obtain⟨R,hR⟩:∃R:World->Prop,(λW=>aH W (w.heap.size) 46 [aj s,ai l]/\Bw w W)=R:=⟨_,rfl⟩;first|refine eO R ?hR ?_|refine fB R ?hR ?_
   case hR=>subst hR;exact⟨(aH.newAt w _ _ (b:=w.heap.size) rfl),zl⟩
   subst hR;rintro W ⟨qx,au⟩;have Hx:=az qx;clear qx;obtain⟨x0,x1⟩:=Hx.out.c2;replace Hb:=bD Hb au;go_wp2_with fail;refine(CC s l _ hl).mono ?_;rintro e w1 ⟨rfl,au⟩;obtain⟨Hx,x0,x1⟩:=fP Hx au;replace Hb:=bD Hb au;go_wp2;go_ret;rw[gW.out];refine⟨rfl,?_⟩;exact Hb.out.alloc Hb.out.size _
 . have hs:aK (iv s l)=false:=by simp[aK,hneg]
   by_cases hz:iv s l=0
   . have gW:Hid (fU (iv s l)=0):=by show fU _=_;simp[fU,hz]
     have ars:(bs (nt (iv s l).natAbs)).toList.isEmpty=true:=by rw[hne,hz];rfl
     clear hneg hne hz;go_enter Tryz.func101,Tryz.ntmps101;have Hb:=hbz w;go_wp2_with fail;obtain⟨R,hR⟩:∃R:World->Prop,(λW=>aH W (w.heap.size) 46 [aj s,ai l]/\Bw w W)=R:=⟨_,rfl⟩;first|refine eO R ?hR ?_|refine fB R ?hR ?_
     case hR=>subst hR;exact⟨(aH.newAt w _ _ (b:=w.heap.size) rfl),zl⟩
     subst hR;rintro W ⟨qx,au⟩;have Hx:=az qx;clear qx;obtain⟨x0,x1⟩:=Hx.out.c2;replace Hb:=bD Hb au;go_wp2_with fail;refine(CC s l _ hl).mono ?_;rintro e w1 ⟨rfl,au⟩;obtain⟨Hx,x0,x1⟩:=fP Hx au;replace Hb:=bD Hb au;go_wp2;go_ret;rw[gW.out];refine⟨rfl,?_⟩;exact Hb.out.alloc Hb.out.size _
   . have gW:Hid (fU (iv s l)=1):=by show fU _=_;simp[fU,hz,hneg]
     have ars:(bs (nt (iv s l).natAbs)).toList.isEmpty=false:=by
      rw[hne];cases hq:nt (iv s l).natAbs with
      |nil=>rw[VY]at hq;omega
      |cons a b=>rfl
     clear hneg hne hz;go_enter Tryz.func101,Tryz.ntmps101;have Hb:=hbz w;go_wp2_with fail;obtain⟨R,hR⟩:∃R:World->Prop,(λW=>aH W (w.heap.size) 46 [aj s,ai l]/\Bw w W)=R:=⟨_,rfl⟩;first|refine eO R ?hR ?_|refine fB R ?hR ?_
     case hR=>subst hR;exact⟨(aH.newAt w _ _ (b:=w.heap.size) rfl),zl⟩
     subst hR;rintro W ⟨qx,au⟩;have Hx:=az qx;clear qx;obtain⟨x0,x1⟩:=Hx.out.c2;replace Hb:=bD Hb au;go_wp2_with fail;refine(CC s l _ hl).mono ?_;rintro e w1 ⟨rfl,au⟩;obtain⟨Hx,x0,x1⟩:=fP Hx au;replace Hb:=bD Hb au;go_wp2;go_ret;rw[gW.out];refine⟨rfl,?_⟩;exact Hb.out.alloc Hb.out.size _
def asm (s:Bool)(l:List UInt8):iv (!s) l= -(iv s l):=by unfold iv;cases s<;>simp
def ah4 (s:Bool)(l:List UInt8)(w:World)(hl:l.length<=1099511627776):
 Cv 114 #[.agg #[aj s,ai l]] w (dx (-(iv s l))):=by
 rw[<-asm];go_enter Tryz.func114,Tryz.ntmps114;have Hb:=hbz w;go_wp2_with fail;obtain⟨R,hR⟩:∃R:World->Prop,(λW=>aH W (w.heap.size) 46 [aj s,ai l]/\aH W (w.heap.size+1) 46 [aj false,.string (bs [])]/\Bw w W)=R:=⟨_,rfl⟩;first|refine eO R ?hR ?_|refine fB R ?hR ?_
 case hR=>subst hR;exact⟨((aH.newAt w _ _ (b:=w.heap.size) rfl).alloc _),(aH.newAt (w.alloc _) _ _ (b:=w.heap.size+1) zm),(zl.alloc zj _)⟩
 subst hR;rintro W ⟨qx,qr,au⟩;have Hx:=az qx;clear qx;have Hr:=az qr;clear qr;obtain⟨x0,x1⟩:=Hx.out.c2;obtain⟨r0,bo,r1,bz⟩:=Hr.out.g2;replace Hb:=bD Hb au;go_wp2_with fail;refine(xD l (!s) _ hl).mono ?_;rintro e w1 ⟨rfl,au⟩;obtain⟨Hx,x0,x1⟩:=fP Hx au;obtain⟨Hr,r0,bo,r1,bz⟩:=dZ Hr au;replace Hb:=bD Hb au;go_wp2;exact bodyPost_ret (v:=dx (iv (!s) l)) (by simp[results,Tryz.results114,go_sem,r0,r1]) rfl ⟨rfl,dt⟩
def Og (x:Bool×List UInt8):List Value:=[aj x.1,ai x.2]
def nE (xs:List (Bool×List UInt8)):Int:=(xs.map λx=>iv x.1 x.2).sum
def asj (xs:List (Bool×List UInt8))(k:Nat)(hk:k<xs.length):nE (xs.take (k+1))=nE (xs.take k)+iv xs[k].1 xs[k].2:=by unfold nE;rw[List.take_succ_eq_append_getElem hk,List.map_append,List.sum_append];simp
def asi (xs:List (Bool×List UInt8))(B:Nat)(h:∀x∈xs,x.2.length<=B):(nE xs).natAbs<=xs.length*256^B:=by
 unfold nE;induction xs with
 |nil=>simp
 |cons x xs ih=>have h1:=gw x.2;have h2:256^x.2.length<=256^B:=Nat.pow_le_pow_right zd (h x zm);have h3:=ih (λm hm=>h m (by simp[hm]));have h4:=oh x.1 x.2;simp only[List.map_cons,List.sum_cons,List.length_cons];rw[Nat.add_mul,Nat.one_mul];omega
def ash (xs:List (Bool×List UInt8))(B N:Nat)(h:∀x∈xs,x.2.length<=B)(hx:xs.length<=1048576)(hN:B+3<=N):(nt (nE xs).natAbs).length<=N:=by refine jo (Nat.lt_of_le_of_lt (asi xs _ h) ?_);refine Nat.lt_of_le_of_lt (Nat.mul_le_mul_right _ hx) ?_;rw[show(1048576:Nat) *256^B=2^20*256^B from rfl,show(256:Nat)=2^8 from rfl,<-Nat.pow_mul,<-Nat.pow_mul,<-Nat.pow_add];exact Nat.pow_lt_pow_right zd zo
def asg (xs:List (Bool×List UInt8))(h:∀x∈xs,x.2.length<=34359738368)(hx:xs.length<=1048576):(nt (nE xs).natAbs).length<=68719476736:=
 ash xs 34359738368 68719476736 h hx zd
def ax8 (xs:List (Bool×List UInt8))(a:Option Addr)(cap:Nat)(w:World)(hl:∀x∈xs,x.2.length<=34359738368)(hx:xs.length<=1048576)
 (ha:At w a (xs.flatMap Og)):
 Cv 60 #[.slice a xs.length cap] w (dx (nE xs)):=by
 have Hl:=az hl;clear hl;have Ha:=az ha;clear ha;have ya:Hid (∀k,(nt (nE (xs.take k)).natAbs).length<=68719476736):=λk=>asg _ (λx hm=>Hl.out x (List.mem_of_mem_take hm)) (by rw[List.length_take];omega);go_enter Tryz.func60,Tryz.ntmps60;have Hb:=hbz w;go_wp2_with fail;obtain⟨R,hR⟩:∃R:World->Prop,(λW=>aH W (w.heap.size) 46 [aj false,.string (bs [])]/\aH W (w.heap.size+1) 133 [.string (bs []),aj false]/\Bw w W)=R:=⟨_,rfl⟩;first|refine eO R ?hR ?_|refine fB R ?hR ?_
 case hR=>subst hR;exact⟨((aH.newAt w _ _ (b:=w.heap.size) rfl).alloc _),(aH.newAt (w.alloc _) _ _ (b:=w.heap.size+1) zm),(zl.alloc zj _)⟩
 subst hR;rintro W ⟨qr,qs,au⟩;have Hr:=az qr;clear qr;have Hs:=az qs;clear qs;obtain⟨r0,bo,r1,bz⟩:=Hr.out.g2;obtain⟨s0,vh,s1,vk⟩:=Hs.out.g2;replace Hb:=bD Hb au
 go_loopw[5,8] (λ_ i wr=>∃(k:Nat) (t:Bool),k<=xs.length/\i=ah k/\iv t (nt (nE (xs.take k)).natAbs)=nE (xs.take k)/\aH wr w.heap.size 46 [aj false,.string (bs [])]/\
  aH wr (w.heap.size+1) 133 [ai (nt (nE (xs.take k)).natAbs),aj t]/\Bw w wr) (λ_ i _=>xs.length-(intOf i).toNat)
 case atStart=>exact⟨0,false,Nat.zero_le _,rfl,rfl,Hr.out,Hs.out,Hb.out⟩
 case round=>
  obtain⟨k,t,hk,rfl,rF,qr,qs,hb⟩:=hrel;obtain⟨Hr,Hs,Hb,lI⟩:=dP qr qs hb rF;clear qr qs hb rF;by_cases hlt:k<xs.length
  . obtain⟨b,o,hab,hcs⟩:=(Ha.out.below Hb.out).elem (f:=Og) (sz:=2) (λ_=>rfl) zd k hlt;have hc0:wr.cell? ⟨b,o+k*2,none⟩=some (aj xs[k].1):=hcs 0 zd;have hc1:wr.cell? ⟨b,o+k*2+1,none⟩=some (.string (bs xs[k].2)):=hcs 1 zd;have bC:=xw xs.length cap k (k:Int) hab hlt rfl;have cu:=az (asj xs k hlt);have mI:Hid (xs[k].2.length<=34359738368):=Hl.out _ (List.getElem_mem hlt);have gU:=az (ya.out k);clear hcs hab;generalize xs[k]=x at*;obtain⟨t1,l1⟩:=x;generalize hS:nE (xs.take k)=S at*;have HS:=az hS;clear hS;obtain⟨r0,bo,r1,bz⟩:=Hr.out.g2;obtain⟨s0,vh,s1,vk⟩:=Hs.out.g2;have as4:=Hr.out.lt;have as8:=Hs.out.lt;go_wp2_with fail;obtain⟨R,hR⟩:∃R:World->Prop,(λW1=>aH W1 (wr.heap.size) 46 [aj t1,ai l1]/\Bw wr W1)=R:=⟨_,rfl⟩;first|refine eO R ?hR ?_|refine fB R ?hR ?_
    case hR=>subst hR;exact⟨(aH.newAt wr _ _ (b:=wr.heap.size) rfl),zl⟩
    subst hR;rintro W1 ⟨qa,au⟩;have Ha:=az qa;clear qa r0 bo r1 bz;obtain⟨Hr,r0,bo,r1,bz⟩:=dZ Hr au;obtain⟨Hs,s0,vh,s1,vk⟩:=dZ Hs au;obtain⟨a0,a1⟩:=Ha.out.c2;replace Hb:=bD Hb au;go_region_with (first| (go_at_call 105;refine(EN l1 t1 _).mono ?_;rintro e w1 ⟨rfl,hq⟩;have hw1:Bw W1 w1:=df hq;clear hq;have WM:w1.cell? ⟨w.heap.size+1,0,none⟩=some (ai (nt S.natAbs)):=cell_later hw1 s0;have WP:w1.cell? ⟨w.heap.size+1,1,none⟩=some (aj t):=cell_later hw1 s1;have apX:=(Hs.out.below hw1).free 0;have apZ:=(Hs.out.below hw1).free 1) | (go_at_call 104;refine(auJ (nt S.natAbs) l1 t t1 _ gU.out (by have:=mI.out;omega)).mono ?_;rintro e w2 ⟨rfl,hw2⟩;have awz:=cell_later hw2 WM;have awB:=cell_later hw2 WP;have apY:=((Hs.out.below hw1).below hw2).free 0;have ap0:=((Hs.out.below hw1).below hw2).free 1))
    all_goals
     go_wp2
     go_roundw
     case rel=>have hq:=au3 t (nt S.natAbs) t1 l1;rw[lI.out,<-cu.out]at hq;rw[lI.out,<-cu.out];refine⟨k+1,_,by omega,by go_num,hq,((((Hr.out.below hw1).below hw2).aCj ⟨w.heap.size+1,0,none⟩ zp _).aCj ⟨w.heap.size+1,1,none⟩ zp _),((((Hs.out.below hw1).below hw2).set 0 _).set 1 _),?_⟩;exact((aO (aO Hb.out hw1) hw2).setCell zp _).setCell zp _
     case measure=>exact bH
  . obtain rfl:k=xs.length:=by omega
    rw[List.take_length]at Hs lI;have gU:=ya.out xs.length;rw[List.take_length]at gU;obtain⟨r0,bo,r1,bz⟩:=Hr.out.g2;obtain⟨s0,vh,s1,vk⟩:=Hs.out.g2;go_wp2_with fail;refine(xD (nt (nE xs).natAbs) t _ zo).mono ?_;rintro e w1 ⟨rfl,au⟩;obtain⟨Hr,r0,bo,r1,bz⟩:=dZ Hr au;obtain⟨Hs,s0,vh,s1,vk⟩:=dZ Hs au;replace Hb:=bD Hb au;rw[lI.out];go_wp2;exact bodyPost_ret (v:=dx (nE xs)) (by simp[results,Tryz.results60,go_sem,r0,r1]) rfl ⟨rfl,dt⟩
end Go.Proofs.YtnjfebkelecgaaaGreatDoor
namespace Go.Proofs.YtnjfebkelecgaaaGreatDoor
def EK (n k:Int):(Dyadic.ofIntWithPrec n k).toRat=n*2^(-k):=Dyadic.toRat_ofIntWithPrec_eq_mul_two_pow
def avG :((2:Rat))≠0:=by decide
def EB (a b k:Int):Dyadic.ofIntWithPrec a k+Dyadic.ofIntWithPrec b k=Dyadic.ofIntWithPrec (a+b) k:=by rw[<-Dyadic.toRat_inj,Dyadic.toRat_add,EK,EK,EK,Rat.intCast_add,Rat.add_mul]
def zW (a b j k:Int):Dyadic.ofIntWithPrec a j*Dyadic.ofIntWithPrec b k=Dyadic.ofIntWithPrec (a*b) (j+k):=by rw[<-Dyadic.toRat_inj,Dyadic.toRat_mul,EK,EK,EK,Rat.intCast_mul,Int.neg_add,Rat.zpow_add avG];grind
def xL (a:Int)(n:Nat)(k:Int):Dyadic.ofIntWithPrec (a*2^n) (k+n)=Dyadic.ofIntWithPrec a k:=by have:=@Dyadic.ofIntWithPrec_shiftLeft_add a k n;rwa [Int.shiftLeft_eq]at this
def OB (a k:Int): -Dyadic.ofIntWithPrec a k=Dyadic.ofIntWithPrec (-a) k:=Dyadic.neg_ofIntWithPrec
def zX (k:Int):Dyadic.ofIntWithPrec 0 k=0:=Dyadic.ofIntWithPrec_zero
abbrev Raw:=Bool ×List UInt8×Int
def aJ (x:Raw):Dyadic:=Dyadic.ofIntWithPrec (iv x.1 x.2.1) (-x.2.2)
def dN :Dyadic->Int
 | .zero=>0
 | .ofOdd n _ _=>n
def dE :Dyadic->Int
 | .zero=>0
 | .ofOdd _ k _=>-k
def canon (d:Dyadic):Raw:=(aK (dN d),nt (dN d).natAbs,dE d)
def cJ (d:Dyadic):aJ (canon d)=d:=by
 unfold aJ canon;simp only[gu];cases d with
 |zero=>rfl
 |ofOdd n k hn=>simp only[dN,dE,Int.neg_neg];exact(Dyadic.ofOdd_eq_ofIntWithPrec).symm
def aa6 {n k:Int}(h:n≠0):dN (Dyadic.ofIntWithPrec n k)=n/2^n.trailingZeros/\dE (Dyadic.ofIntWithPrec n k)=n.trailingZeros-k:=by unfold Dyadic.ofIntWithPrec;rw[dif_neg h];simp only[dN,dE,Int.shiftRight_eq_div_pow];refine⟨by simp[Int.natCast_pow],by omega⟩
def Sp :dN 0=0:=rfl
def aoH :dE 0=0:=rfl
def anU :canon 0=(false,[],0):=rfl
def Sm (B:Nat)(d:Dyadic):Prop:=∃m:Int,d=Dyadic.ofIntWithPrec m B/\m.natAbs<2^(2*B)
def Sm.zero (B:Nat):Sm B 0:=⟨0,(zX _).symm,Nat.pow_pos zd⟩
def Sm.mono {A B:Nat}{d:Dyadic}(h:Sm A d)(SV:A<=B):Sm B d:=by
 obtain⟨m,rfl,hm⟩:=h;obtain⟨j,rfl⟩:∃j,B=A+j:=⟨B-A,by omega⟩;refine⟨m*2^j,?_,?_⟩
 . rw[Int.natCast_add,xL]
 . rw[Int.natAbs_mul,Int.natAbs_pow];have:m.natAbs*2^j<2^(2*A) *2^j:=Nat.mul_lt_mul_of_pos_right hm (Nat.pow_pos zd);rw[<-Nat.pow_add]at this;exact Nat.lt_of_lt_of_le this (Nat.pow_le_pow_right zd zo)
def Sm.add {B:Nat}{a b:Dyadic}(ha:Sm B a)(hb:Sm B b):Sm (B+1) (a+b):=by
 obtain⟨m,rfl,hm⟩:=ha;obtain⟨n,rfl,hn⟩:=hb;refine⟨(m+n) *2^1,?_,?_⟩
 . rw[EB,Int.natCast_add];exact(xL _ 1 _).symm
 . rw[show 2* (B+1)=2*B+2 by omega,Nat.pow_add];omega
def Sm.neg {B:Nat}{a:Dyadic}(ha:Sm B a):Sm B (-a):=by obtain⟨m,rfl,hm⟩:=ha;exact⟨-m,OB _ _,by omega⟩
def Sm.sub {B:Nat}{a b:Dyadic}(ha:Sm B a)(hb:Sm B b):Sm (B+1) (a-b):=ha.add hb.neg
def Sm.mul {A B:Nat}{a b:Dyadic}(ha:Sm A a)(hb:Sm B b):Sm (A+B) (a*b):=by
 obtain⟨m,rfl,hm⟩:=ha;obtain⟨n,rfl,hn⟩:=hb;refine⟨m*n,?_,?_⟩
 . rw[zW,Int.natCast_add]
 . rw[Int.natAbs_mul,Nat.mul_add,Nat.pow_add];exact Nat.mul_lt_mul'' hm hn
def axU {n:Int}(h:n≠0):2^n.trailingZeros<=n.natAbs:=by
 have hd:=Int.two_pow_trailingZeros_dvd h;have h2:(2^n.trailingZeros:Nat)∣n.natAbs:=by have:=Int.natAbs_dvd_natAbs.2 hd;rwa [Int.natAbs_pow]at this
 exact Nat.le_of_dvd zo h2
def Sm.parts {B:Nat}{d:Dyadic}(h:Sm B d):(dN d).natAbs<2^(2*B)/\ -(B:Int)<=dE d/\dE d<=B:=by
 obtain⟨m,rfl,hm⟩:=h;by_cases h0:m=0
 . subst h0;rw[zX,Sp,aoH];exact⟨Nat.pow_pos zd,by omega,by omega⟩
 . obtain ⟨e1,e2⟩:=aa6 (k:=B) h0;have h1:=axU h0;have h2:m.trailingZeros<2*B:=by
    rcases Nat.lt_or_ge m.trailingZeros (2*B)with h|h
    . exact h
    . have:=Nat.pow_le_pow_right (show 0<2 by decide) h;omega
   rw[e1,e2];refine⟨?_,by omega,by omega⟩;obtain⟨q,hq⟩:=Int.two_pow_trailingZeros_dvd h0;have hp:(2:Int)^m.trailingZeros≠0:=by
    have:((2^m.trailingZeros:Nat):Int)≠0:=by have:=Nat.pow_pos (n:=m.trailingZeros) (show 0<2 by decide);omega
    simpa[Int.natCast_pow]using this
   have e3:m/2^m.trailingZeros=q:=by
    conv=>lhs;lhs;rw[hq]
    exact Int.mul_ediv_cancel_left _ hp
   rw[e3];have e4:m.natAbs=2^m.trailingZeros*q.natAbs:=by
    conv=>lhs;rw[hq]
    rw[Int.natAbs_mul,Int.natAbs_pow];rfl
   have:=Nat.pow_pos (n:=m.trailingZeros) (show 0<2 by decide);have:q.natAbs<=2^m.trailingZeros*q.natAbs:=Nat.le_mul_of_pos_left _ this;omega
def Ok (x:Raw):Prop:=x.2.1.length<=268435456/\ -268435456<=x.2.2/\x.2.2<=268435456
def ll {n k N:Nat}(h:n<2^k)(hN:k<=8*N):(nt n).length<=N:=
 jo (Nat.lt_of_lt_of_le h (by rw[show(256:Nat)=2^8 by rfl,<-Nat.pow_mul];exact Nat.pow_le_pow_right zd hN))
def Sm.ok {B:Nat}{d:Dyadic}(h:Sm B d)(hB:B<=268435456):Ok (canon d):=by obtain⟨h1,h2,h3⟩:=h.parts;exact⟨ll h1 zo,by show-268435456<=dE d;omega,by show dE d<=268435456;omega⟩
def Sm.raw {x:Raw}{B:Nat}(hl:8*x.2.1.length<=B)(h1: -(B:Int)<=x.2.2)(h2:x.2.2<=B):Sm (2*B) (aJ x):=by
 unfold aJ;obtain⟨j,hj⟩:∃j:Nat,x.2.2+(2*B:Nat)=j:=⟨(x.2.2+(2*B:Nat)).toNat,by omega⟩;refine⟨iv x.1 x.2.1*2^j,?_,?_⟩
 . rw[<-xL (iv x.1 x.2.1) j (-x.2.2)];congr 1;omega
 . rw[Int.natAbs_mul,Int.natAbs_pow,oh];have hv:=gw x.2.1;rw[show(256:Nat)=2^8 by rfl,<-Nat.pow_mul]at hv;have:nv x.2.1*2^j<2^(8*x.2.1.length) *2^j:=Nat.mul_lt_mul_of_pos_right hv (Nat.pow_pos zd);rw[<-Nat.pow_add]at this;exact Nat.lt_of_lt_of_le this (Nat.pow_le_pow_right zd zo)
def Ok.sm {x:Raw}(h:Ok x):Sm 4294967296 (aJ x):=Sm.raw (B:=2147483648) (by have:=h.1;omega) (by have:=h.2.1;omega) (by have:=h.2.2;omega)
def mA (g:Nat->Nat->Int)(k:Nat)(last:Int)(i j:Nat):Nat->Nat->Int:=λa b=>if k<a/\k<b/\(a<i\/a=i/\b<j)then dc g k a b/last else g a b
def auv (g:Nat->Nat->Int)(k:Nat)(last:Int):mA g k last (k+1) (k+1)=g:=by
 funext a b;unfold mA
 rw[if_neg zo]
def aut (g:Nat->Nat->Int)(k:Nat)(last:Int)(i j:Nat)(hi:k<i)(hj:k<j):(λa b=>if a=i/\b=j then dc g k i j/last else mA g k last i j a b)=mA g k last i (j+1):=by
 funext a b;unfold mA
 by_cases h:a=i/\b=j
 . obtain⟨rfl,rfl⟩:=h;rw[if_pos ⟨rfl,rfl⟩,if_pos ⟨hi,hj,.inr ⟨rfl,by omega⟩⟩]
 . rw[if_neg h];by_cases h2:k<a/\k<b/\(a<i\/a=i/\b<j)
   . rw[if_pos h2,if_pos ⟨h2.1,h2.2.1,by omega⟩]
   . rw[if_neg h2,if_neg (λh3=>h2 ⟨h3.1,h3.2.1,by omega⟩)]
def auu (g:Nat->Nat->Int)(k:Nat)(last:Int)(i n:Nat):∀a b,b<n->mA g k last i n a b=mA g k last (i+1) (k+1) a b:=by
 intro a b hb;unfold mA;by_cases h2:k<a/\k<b/\(a<i\/a=i/\b<n)
 . rw[if_pos h2,if_pos ⟨h2.1,h2.2.1,by omega⟩]
 . rw[if_neg h2,if_neg (λh3=>h2 ⟨h3.1,h3.2.1,by omega⟩)]
def aur (g:Nat->Nat->Int)(k:Nat)(last:Int)(n:Nat):∀a b,a<n->mA g k last n (k+1) a b=ej g k last a b:=by
 intro a b ha;unfold mA ej;by_cases h2:k<a/\k<b/\(a<n\/a=n/\b<k+1)
 . rw[if_pos h2,if_pos ⟨h2.1,h2.2.1⟩]
 . rw[if_neg h2,if_neg (λh3=>h2 ⟨h3.1,h3.2,by omega⟩)]
def aus (g:Nat->Nat->Int)(k:Nat)(last:Int)(i j:Nat):mA g k last i j i j=g i j/\mA g k last i j k k=g k k/\mA g k last i j i k=g i k/\mA g k last i j k j=g k j:=by unfold mA;refine⟨if_neg zo,if_neg zo,if_neg zo,if_neg zo⟩
def Wc (g:Nat->Nat->Int)(k a b K:Nat)(h1:(g a b).natAbs<2^K)(h2:(g k k).natAbs<2^K)(h3:(g a k).natAbs<2^K)(h4:(g k b).natAbs<2^K):
 (g a b*g k k).natAbs<2^(2*K)/\(g a k*g k b).natAbs<2^(2*K)/\(dc g k a b).natAbs<2^(2*K+1):=by
 have e:2^(2*K)=2^K*2^K:=by rw[<-Nat.pow_add];congr 1;omega
 have m1:(g a b*g k k).natAbs<2^K*2^K:=by rw[Int.natAbs_mul];exact Nat.mul_lt_mul'' h1 h2
 have m2:(g a k*g k b).natAbs<2^K*2^K:=by rw[Int.natAbs_mul];exact Nat.mul_lt_mul'' h3 h4
 refine⟨by rw[e];exact m1,by rw[e];exact m2,?_⟩;rw[Nat.pow_succ,e];unfold dc;generalize g a b*g k k=x at*;generalize g a k*g k b=y at*;omega
def div_lt (x y:Int)(M:Nat)(h:x.natAbs<M):(x/y).natAbs<M\/¬y∣x:=by
 by_cases hd:y∣x
 . left;obtain⟨q,rfl⟩:=hd;by_cases hy:y=0
   . subst hy;simp;omega
   . rw[Int.mul_ediv_cancel_left _ hy];rw[Int.natAbs_mul]at h;have:1<=y.natAbs:=by omega
     have:=Nat.mul_le_mul_right q.natAbs this;omega
 . right;exact hd
def Wk (a b k:Int):Dyadic.ofIntWithPrec a k-Dyadic.ofIntWithPrec b k=Dyadic.ofIntWithPrec (a-b) k:=by
 have h:Dyadic.ofIntWithPrec a k-Dyadic.ofIntWithPrec b k=Dyadic.ofIntWithPrec a k+ -Dyadic.ofIntWithPrec b k:=by grind
 rw[h,OB,EB];rfl
def aoX (n:Nat)(hn:1<=n)(dv:n<=4)(f:Nat->Nat->Int)(e:Nat->Nat->Dyadic)(q:Int)(h:∀a b,a<n->b<n->e a b=Dyadic.ofIntWithPrec (f a b) q):
 cX n e=Dyadic.ofIntWithPrec (ft n n 0 f 1 false) (n*q):=by
 have hc:n=1\/n=2\/n=3\/n=4:=by omega
 rcases hc with rfl|rfl|rfl|rfl
 . rw[am3];unfold cX;simp only;rw[h 0 0 zo zo];congr 1;omega
 . rw[am4];unfold cX Bb;simp only;rw[h 0 0 zo zo,h 1 1 zo zo,h 0 1 zo zo,h 1 0 zo zo,zW,zW,Wk];congr 1;omega
 . rw[am5];unfold cX jb;simp only;rw[h 0 0 zo zo,h 1 1 zo zo,h 0 1 zo zo,h 1 0 zo zo,h 0 2 zo zo,h 2 0 zo zo,h 1 2 zo zo,h 2 1 zo zo,h 2 2 zo zo];simp only[zW,Wk,EB];congr 1;omega
 . rw[am7];unfold cX fC;simp only;rw[h 0 0 zo zo,h 1 1 zo zo,h 0 1 zo zo,h 1 0 zo zo,h 0 2 zo zo,h 2 0 zo zo,h 1 2 zo zo,h 2 1 zo zo,h 2 2 zo zo];rw[h 0 3 zo zo,h 1 3 zo zo,h 2 3 zo zo,h 3 0 zo zo,h 3 1 zo zo,h 3 2 zo zo,h 3 3 zo zo];simp only[zW,Wk,EB];congr 1;omega
def abt (n:Nat)(hn:1<=n)(dv:n<=4)(f:Nat->Nat->Int):gZ n n 0 f 1:=by
 have hc:n=1\/n=2\/n=3\/n=4:=by omega
 rcases hc with rfl|rfl|rfl|rfl
 . exact apr f
 . exact aps f
 . exact apt f
 . exact apu f
abbrev jP (X:Dyadic):Bool×List UInt8×Int:=(aK (dN X),nt (dN X).natAbs,dE X)
abbrev bY (X:Dyadic):List Value:=[aj (aK (dN X)),ai (nt (dN X).natAbs),ah (dE X)]
end Go.Proofs.YtnjfebkelecgaaaGreatDoor
