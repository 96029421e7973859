/- Small facts that walks over blocks of one's own share. -/
import Derived.Test.YtpfgffadgkkedaaGreatDoorZ5
import Derived.Deep.RegionHeld3
import Derived.Deep.DrawnRows
import Derived.Test.YtpfgffadgkkedaaGreatDoorZ1
set_option linter.all false
set_option maxRecDepth 100000
set_option maxHeartbeats 16000000
namespace Go.Proofs.YtpfgffadgkkedaaGreatDoor
open Go.RowKit
def eN {P:Program}{c:Code}{Q:Exit->Act->World->Prop}{a:Act}{W:World}(S:World->Prop)(hS:S W)(h:∀W',S W'->c.wp P Q a W'):c.wp P Q a W:=h W hS
def eJ {P:Program}{f:FuncId}{args:Array Value}{R:Ending->World->Prop}{W:World}(S:World->Prop)(hS:S W)(h:∀W',S W'->Calls P f args W' R):Calls P f args W R:=h W hS
def gG {w:World}{p a:Addr}{u v:Value}(hne:a.block≠p.block)(h:w.cell? a=some v):(w.setCell p u).cell? a=some v:=
 (World.cell?_of_block (w:=w) (Below.heap_setCell _ _ _ _ hne)).trans h
def ar.newAt (w:World)(t:TypeId)(cs:List Value){b:Nat}(h:w.heap.size=b):ar (w.alloc (.cells cs.toArray t)) b t cs:=by subst h;exact ar.new w t cs
def cM {a w:World}(h:Below a.drew.heap.size a.drew w):Bw a w:=⟨h.os,h.tape,h.output,h.size,h.block⟩
def aF {w W w1:World}(h:Bw w W)(k:Bw W w1):Bw w w1:=h.trans (k.mono h.size)
def bj {w W w1:World}(h:Hid (Bw w W))(k:Bw W w1):Hid (Bw w w1):=aF h.out k
def cK {p:Prop}(h:p:=by(repeat first|exact Hb.out| (refine Below.setCell ?_ (by have:=Hb.out.size;first| (dsimp only;omega) | (show _<=_;omega) | (simp<;>omega)) _) | (refine Below.alloc ?_ (by have:=Hb.out.size;simp<;>omega) _) |refine Below.drew ?_)):p:=h
def um (b:Nat):Nat->List Value->World->World
 |_,[],w=>w
 |o,v::l,w=>um b (o+1) l (w.setCell ⟨b,o,none⟩ v)
def bD :Nat->List Value->List Value->List Value
 |_,[],c=>c
 |o,v::l,c=>bD (o+1) l (c.set o v)
def aN (w:World)(b o:Nat)(vs:List Value)(w':World):Prop:=w'=um b o vs w\/w'=um b o vs w.drew
def stI {w:World}{b o:Nat}{vs:List Value}:aN w b o vs (um b o vs w):=.inl rfl
def stJ {w:World}{b o:Nat}{vs:List Value}:aN w b o vs (um b o vs w.drew):=.inr rfl
def aR {w:World}{b o:Nat}{vs:List Value}{w':World}(h:aN w b o vs w':=by first|exact stI|exact stJ):aN w b o vs w':=h
def auQ (vs:List Value):∀(o:Nat) (cs:List Value),cs.length=o+vs.length->bD o vs cs=cs.take o++vs:=by
 induction vs with
 |nil=>intro o cs h;simp only[bD,List.append_nil];rw[List.take_of_length_le (by simp at h;omega)]
 |cons v vs ih=>intro o cs h;simp only[List.length_cons]at h;rw[bD,ih (o+1) _ (by rw[List.length_set];omega),List.take_succ_eq_append_getElem (by rw[List.length_set];omega),List.getElem_set_self,List.take_set_of_le (Nat.le_refl _),List.append_assoc];rfl
def afF (p b:Nat)(n:p≠b)(t:TypeId)(cs:List Value)(vs:List Value):∀(o:Nat) (w:World),ar w b t cs->ar (um p o vs w) b t cs:=by
 induction vs with
 |nil=>intro o w h;exact h
 |cons v vs ih=>intro o w h;exact ih _ _ (h.azV ⟨p,o,none⟩ n v)
def afG (b:Nat)(t:TypeId)(vs:List Value):∀(o:Nat) (w:World) (cs:List Value),ar w b t cs->ar (um b o vs w) b t (bD o vs cs):=by
 induction vs with
 |nil=>intro o w cs h;exact h
 |cons v vs ih=>intro o w cs h;exact ih _ _ _ (h.set o v)
def afE (a w0:World)(p:Nat)(n:a.heap.size<=p)(vs:List Value):∀(o:Nat) (w:World),Below a.heap.size w0 w->Below a.heap.size w0 (um p o vs w):=by
 induction vs with
 |nil=>intro o w h;exact h
 |cons v vs ih=>intro o w h;exact ih _ _ (h.setCell n v)
def kS {w w':World}{b p o:Nat}{t:TypeId}{cs vs:List Value}(h:Hid (ar w b t cs))(k:aN w p o vs w')(n:p≠b):Hid (ar w' b t cs):=by
 rcases k with rfl|rfl
 . exact afF p b n t cs vs o _ h.out
 . exact afF p b n t cs vs o _ h.out.drew
def yM {w w':World}{b o:Nat}{t:TypeId}{cs vs:List Value}(h:Hid (ar w b t cs))(k:aN w b o vs w'):Hid (ar w' b t (bD o vs cs)):=by
 rcases k with rfl|rfl
 . exact afG b t vs o _ cs h.out
 . exact afG b t vs o _ cs h.out.drew
def rO {w w':World}{b:Nat}{t:TypeId}{cs vs:List Value}(h:Hid (ar w b t cs))(k:aN w b 0 vs w')(e:cs.length=vs.length:=by rfl):Hid (ar w' b t vs):=by have:=yM h k;rwa [auQ vs 0 cs zo,List.take_zero,List.nil_append]at this
def bS {a w w':World}{p o:Nat}{vs:List Value}(h:Hid (Bw a w))(k:aN w p o vs w')(n:a.heap.size<=p):Hid (Bw a w'):=by
 rcases k with rfl|rfl
 . exact afE a a p n vs o _ h.out
 . exact afE a a p n vs o _ h.out.drew
def sO {a w:World}{o:Obj}(h:Below (a.alloc o).heap.size (a.alloc o) w):Bw a w:=aF zl h
def sP {a w:World}{o:Obj}(h:Below (a.drew.alloc o).heap.size (a.drew.alloc o) w):Bw a w:=cM (sO h)
def wh {a w:World}{o:Obj}(h:Below (a.alloc o).drew.heap.size (a.alloc o).drew w):Bw a w:=sO (cM h)
def aM {w:World}{a:Addr}{v:Value}{o:Obj}(h:w.cell? a=some v):(w.alloc o).cell? a=some v:=cell_later zl h
def QH {w:World}{a:Addr}{v:Value}(h:w.cell? a=some v):w.drew.cell? a=some v:=h
def At.azW {w:World}{b:Nat}{t:TypeId}{cs:List Value}(h:ar w b t cs):At w (some ⟨b,0,none⟩) cs:=
 .inr ⟨b,0,rfl,λj _=>by rw[Nat.zero_add];exact h.cell j⟩
def flat_get {α:Type}(f:α->List Value)(sz:Nat)(hf:∀x,(f x).length=sz)(xs:List α)(k i:Nat)(hk:k<xs.length)(hi:i<sz):
 (xs.flatMap f)[k*sz+i]?=(f xs[k])[i]?:=by
 induction xs generalizing k with
 |nil=>simp at hk
 | cons x xs ih=>
   rw[List.flatMap_cons];cases k with
   |zero=>rw[Nat.zero_mul,Nat.zero_add,List.getElem?_append_left (by rw[hf];exact hi)];rfl
   | succ k=>
     have e:(k+1) *sz+i=(f x).length+(k*sz+i):=by rw[hf,Nat.add_mul,Nat.one_mul];omega
     rw[e,List.getElem?_append_right zo,Nat.add_sub_cancel_left,ih k (by simpa using hk)];rfl
def iD {α:Type}(f:α->List Value)(sz:Nat)(hf:∀x,(f x).length=sz)(xs:List α):(xs.flatMap f).length=xs.length*sz:=by
 induction xs with
 |nil=>simp
 |cons x xs ih=>rw[List.flatMap_cons,List.length_append,ih,hf,List.length_cons,Nat.add_mul,Nat.one_mul,Nat.add_comm]
def At.elem {α:Type}{f:α->List Value}{sz:Nat}(hf:∀x,(f x).length=sz)(hsz:0<sz){W:World}{a:Option Addr}{xs:List α}(h:At W a (xs.flatMap f))(k:Nat)(hk:k<xs.length):
 ∃b o,a=some ⟨b,o,none⟩/\∀i,i<sz->W.cell? ⟨b,o+k*sz+i,none⟩=(f xs[k])[i]?:=by
 have hl:=iD f sz hf xs;have hb:∀i,i<sz->k*sz+i<xs.length*sz:=by intro i hi;have:(k+1) *sz<=xs.length*sz:=Nat.mul_le_mul_right _ hk;rw[Nat.add_mul,Nat.one_mul]at this;omega
 have hne:xs.flatMap f≠[]:=by intro h0;have:=congrArg List.length h0;rw[hl]at this;have:=hb 0 hsz;simp at*;omega
 obtain⟨b,o,ha,hc⟩:=h.get hne;refine⟨b,o,ha,λi hi=>?_⟩;rw[Nat.add_assoc,hc _ (by rw[hl];exact hb i hi),flat_get f sz hf xs k i hk hi]
end Go.Proofs.YtpfgffadgkkedaaGreatDoor
namespace Go.Proofs.YtpfgffadgkkedaaGreatDoor
open Go.RowKit
attribute [local go_sem ↓] Go.wp_at_zero Go.wp_at_succ
def iv (s:Bool)(l:List UInt8):Int:=if s then-(nv l:Int)else(nv l:Int)
def uf (s:Bool)(l:List UInt8):(iv s l).natAbs=nv l:=by unfold iv;split<;>omega
def az (n:Int):Bool:=decide (n<0)
def TZ (s:Bool)(l:List UInt8):az (iv s l)=(s&& !(nt (nv l)).isEmpty):=by
 unfold az;have h:(nt (nv l)).isEmpty=decide (nv l=0):=by rw[Bool.eq_iff_iff,List.isEmpty_iff,Ux,decide_eq_true_iff]
 rw[h];unfold iv;cases s<;>simp
 by_cases h0:nv l=0<;>simp[h0];omega
abbrev cS (n:Int):Value:=.agg #[ag (az n),ah (nt n.natAbs)]
def fu (n:Int):iv (az n) (nt n.natAbs)=n:=by unfold iv az;rw[jl];by_cases h:n<0<;>simp[h]<;>omega
def rN (s:Bool)(n:Nat):iv s (nt n)=if s then-(n:Int)else n:=by unfold iv;rw[jl]
def NK (l:List UInt8)(s:Bool)(w:World):
 Cv 212 #[.agg #[ag s,ah l]] w (.agg #[ah l,ag s]):=by
 go_enter Tryz.func212,Tryz.ntmps212;have Hb:=hbz w;go_wp2;exact bodyPost_ret (v:=.agg #[ah l,ag s]) (by simp[results,Tryz.results212,go_sem]) rfl ⟨rfl,cK⟩
def yO (l:List UInt8)(s:Bool)(w:World)(hl:l.length<=1099511627776):
 Cv 211 #[.agg #[ah l,ag s]] w (cS (iv s l)):=by
 unfold cS;rw[uf,TZ];have hne:=wj (nt (nv l));generalize hb:(nt (nv l)).isEmpty=b at*;have HB:=aj hb;clear hb;cases s
 . go_enter Tryz.func211,Tryz.ntmps211;have Hb:=hbz w;go_wp2_with (go_at_call 261;refine(afW l _ hl).mono ?_;rintro e w1 ⟨rfl,rfl⟩);go_wp2;exact bodyPost_ret (v:=.agg #[ag false,ah (nt (nv l))]) (by simp[results,Tryz.results211,go_sem]) rfl ⟨rfl,cK⟩
 . go_enter Tryz.func211,Tryz.ntmps211;have Hb:=hbz w;go_wp2_with (go_at_call 261;refine(afW l _ hl).mono ?_;rintro e w1 ⟨rfl,rfl⟩);go_wp2;exact bodyPost_ret (v:=.agg #[.bool !b,ah (nt (nv l))]) (by simp[results,Tryz.results211,go_sem]) rfl ⟨rfl,cK⟩
def asj (l m:List UInt8)(b cap:Nat)(t:TypeId)(w:World)(hl:l.length<=68719476736)(hm:m.length<=68719476736)(ha:ar w b t [ah l,ah m]):
 Cv 275 #[.slice (some ⟨b,0,none⟩) 2 cap] w (ah (nt (nv l+nv m))):=by
 have:=asi [l,m] (some ⟨b,0,none⟩) cap w (by simp[hl,hm]) zm (At.azW ha);have e:gM [l,m]=nv l+nv m:=by simp[gM]
 rw[e]at this;exact this
def atA (l m:List UInt8)(s:Bool)(w:World)(hl:l.length<=68719476736)(hm:m.length<=68719476736):
 Cv 236 #[.agg #[.string (bs l),.bool s],.agg #[.string (bs m),.bool s]] w (.agg #[.string (bs (nt (nv l+nv m))),.bool s]):=by
 go_enter Tryz.func236,Tryz.ntmps236;have Hb:=hbz w;go_wp2_with fail;obtain⟨R,hR⟩:∃R:World->Prop,(λW=>ar W (w.heap.size) 224 [.string (bs l),.bool s]/\ar W (w.heap.size+1) 224 [.string (bs m),.bool s]/\ar W (w.heap.size+1+1) 224 [.string (bs []),.bool false]/\Bw w W)=R:=⟨_,rfl⟩;first|refine eN R ?hR ?_|refine eJ R ?hR ?_
 case hR=>subst hR;exact⟨(((ar.newAt w _ _ (b:=w.heap.size) rfl).alloc _).alloc _),((ar.newAt (w.alloc _) _ _ (b:=w.heap.size+1) zm).alloc _),(ar.newAt ((w.alloc _).alloc _) _ _ (b:=w.heap.size+1+1) zm),((zl.alloc zj _).alloc zj _)⟩
 subst hR;rintro W ⟨qx,qy,qr,ak⟩;have Hx:=aj qx;clear qx;have Hy:=aj qy;clear qy;have Hr:=aj qr;clear qr;obtain⟨x0,x1⟩:=Hx.out.c2;obtain⟨y0,y1⟩:=Hy.out.c2;obtain⟨r0,aZ,r1,bf⟩:=Hr.out.g2;replace Hb:=bj Hb ak;have Uw:w.heap.size≠w.heap.size+1+1:=by omega
 have ney:w.heap.size+1≠w.heap.size+1+1:=by omega
 go_region_held3 (λw'=>w'.cell? ⟨w.heap.size,0,none⟩=some (.string (bs l))/\w'.cell? ⟨w.heap.size,1,none⟩=some (.bool s)/\w'.cell? ⟨w.heap.size+1,0,none⟩=some (.string (bs m))/\w'.cell? ⟨w.heap.size+1,1,none⟩=some (.bool s)) (((try dsimp only);go_split_ands;(repeat' apply And.intro)<;>(first|exact True.intro|with_reducible assumption| ((with_reducible refine gG zg ?_);(repeat(with_reducible refine gG zg ?_));with_reducible assumption) |exact cell_later (by with_reducible assumption) (by with_reducible assumption) |exact aM (by with_reducible assumption) |go_keep))) (first| (go_at_call 275;(with_reducible refine(asj l m W.heap.size 2 9 _ hl hm (by first|exact ar.drew (ar.new _ _ _) |exact ar.new _ _ _)).mono ?_);rintro e w1 ⟨rfl,hq⟩;have hw1:Bw W w1:=(by first|exact cM hq|exact hq|exact sP hq|exact sO hq|exact wh hq);clear hq;have lQ:=aj (Hx.out.below hw1);have BX:w1.cell? ⟨w.heap.size,0,none⟩=some (.string (bs l)):=lQ.out.cell 0;have BZ:w1.cell? ⟨w.heap.size,1,none⟩=some (.bool s):=lQ.out.cell 1;have ry:=aj (Hy.out.below hw1);have JI:w1.cell? ⟨w.heap.size+1,0,none⟩=some (.string (bs m)):=ry.out.cell 0;have JJ:w1.cell? ⟨w.heap.size+1,1,none⟩=some (.bool s):=ry.out.cell 1;have ik:=aj (Hr.out.below hw1);have BP:w1.cell? ⟨w.heap.size+1+1,0,none⟩=some (.string (bs [])):=ik.out.cell 0;have Aw:w1.frozen? ⟨w.heap.size+1+1,0,none⟩=false:=ik.out.free 0;have BQ:w1.cell? ⟨w.heap.size+1+1,1,none⟩=some (.bool false):=ik.out.cell 1;have Ax:w1.frozen? ⟨w.heap.size+1+1,1,none⟩=false:=ik.out.free 1))
 replace Hb:=aj (aF Hb.out hw1);clear hw1 x0 x1 y0 y1 r0 aZ r1 bf;replace Hx:=lQ;clear BX BZ;replace Hy:=ry;clear JI JJ;replace Hr:=ik;clear BP Aw BQ Ax;obtain⟨x0,x1⟩:=Hx.out.c2;obtain⟨y0,y1⟩:=Hy.out.c2;obtain⟨r0,aZ,r1,bf⟩:=Hr.out.g2;go_wp2;exact bodyPost_ret (v:=.agg #[.string (bs (nt (nv l+nv m))),.bool s]) (by simp[results,Tryz.results236,go_sem,r0,r1]) rfl ⟨rfl,cK⟩
def afv (l m:List UInt8)(w:World)(hl:l.length<=68719476736)(hm:m.length<=68719476736):
 Cv 276 #[ah l,ah m] w (af (di (nv l) (nv m))):=by
 go_enter Tryz.func276,Tryz.ntmps276;have Hb:=hbz w;go_wp2_with fail;refine(asl l m _ hl hm).mono ?_;rintro e w1 ⟨rfl,ak⟩;replace Hb:=bj Hb ak;go_wp2;go_ret;exact⟨rfl,Hb.out⟩
def atx (l m:List UInt8)(s:Bool)(w:World)(hl:l.length<=68719476736)(hm:m.length<=68719476736)(h:nv m<=nv l):
 Cv 236 #[.agg #[ah l,ag s],.agg #[ah m,ag (!s)]] w (.agg #[ah (nt (nv l-nv m)),ag s]):=by
 have hc0:0<=di (nv l) (nv m):=by unfold di;rw[if_neg zo];split<;>omega
 have hss:(s== !s)=false:=by cases s<;>rfl
 have Hh:=aj h;clear h;go_enter Tryz.func236,Tryz.ntmps236;have Hb:=hbz w;go_wp2_with fail;obtain⟨R,hR⟩:∃R:World->Prop,(λW=>ar W (w.heap.size) 224 [ah l,ag s]/\ar W (w.heap.size+1) 224 [ah m,ag (!s)]/\ar W (w.heap.size+1+1) 224 [.string (bs []),ag false]/\Bw w W)=R:=⟨_,rfl⟩;first|refine eN R ?hR ?_|refine eJ R ?hR ?_
 case hR=>subst hR;exact⟨(((ar.newAt w _ _ (b:=w.heap.size) rfl).alloc _).alloc _),((ar.newAt (w.alloc _) _ _ (b:=w.heap.size+1) zm).alloc _),(ar.newAt ((w.alloc _).alloc _) _ _ (b:=w.heap.size+1+1) zm),((zl.alloc zj _).alloc zj _)⟩
 subst hR;rintro W ⟨qx,qy,qr,ak⟩;have Hx:=aj qx;clear qx;have Hy:=aj qy;clear qy;have Hr:=aj qr;clear qr;obtain⟨x0,x1⟩:=Hx.out.c2;obtain⟨y0,y1⟩:=Hy.out.c2;obtain⟨r0,aZ,r1,bf⟩:=Hr.out.g2;replace Hb:=bj Hb ak;go_wp2_with fail;refine(afv l m _ hl hm).mono ?_;rintro e w1 ⟨rfl,ak⟩;obtain⟨Hx,x0,x1⟩:=fI Hx ak;obtain⟨Hy,y0,y1⟩:=fI Hy ak;obtain⟨Hr,r0,aZ,r1,bf⟩:=dS Hr ak;replace Hb:=bj Hb ak;go_wp2_with fail;refine(aeG l m _ hl hm Hh.out).mono ?_;rintro e w2 ⟨rfl,ak⟩;obtain⟨Hx,x0,x1⟩:=fI Hx ak;obtain⟨Hy,y0,y1⟩:=fI Hy ak;obtain⟨Hr,r0,aZ,r1,bf⟩:=dS Hr ak;replace Hb:=bj Hb ak;go_wp2;exact bodyPost_ret (v:=.agg #[ah (nt (nv l-nv m)),ag s]) (by simp[results,Tryz.results236,go_sem,r0,r1]) rfl ⟨rfl,cK⟩
def aty (l m:List UInt8)(s:Bool)(w:World)(hl:l.length<=68719476736)(hm:m.length<=68719476736)(h:nv l<nv m):
 Cv 236 #[.agg #[ah l,ag s],.agg #[ah m,ag (!s)]] w (.agg #[ah (nt (nv m-nv l)),ag (!s)]):=by
 have hc0:di (nv l) (nv m)<0:=by unfold di;rw[if_pos h];omega
 have hss:(s== !s)=false:=by cases s<;>rfl
 have Hh:=aj (Nat.le_of_lt h);clear h;go_enter Tryz.func236,Tryz.ntmps236;have Hb:=hbz w;go_wp2_with fail;obtain⟨R,hR⟩:∃R:World->Prop,(λW=>ar W (w.heap.size) 224 [ah l,ag s]/\ar W (w.heap.size+1) 224 [ah m,ag (!s)]/\ar W (w.heap.size+1+1) 224 [.string (bs []),ag false]/\Bw w W)=R:=⟨_,rfl⟩;first|refine eN R ?hR ?_|refine eJ R ?hR ?_
 case hR=>subst hR;exact⟨(((ar.newAt w _ _ (b:=w.heap.size) rfl).alloc _).alloc _),((ar.newAt (w.alloc _) _ _ (b:=w.heap.size+1) zm).alloc _),(ar.newAt ((w.alloc _).alloc _) _ _ (b:=w.heap.size+1+1) zm),((zl.alloc zj _).alloc zj _)⟩
 subst hR;rintro W ⟨qx,qy,qr,ak⟩;have Hx:=aj qx;clear qx;have Hy:=aj qy;clear qy;have Hr:=aj qr;clear qr;obtain⟨x0,kY,x1,kZ⟩:=Hx.out.g2;obtain⟨y0,gm,y1,gp⟩:=Hy.out.g2;obtain⟨r0,aZ,r1,bf⟩:=Hr.out.g2;replace Hb:=bj Hb ak;go_wp2_with fail;refine(afv l m _ hl hm).mono ?_;rintro e w1 ⟨rfl,ak⟩;obtain⟨Hx,x0,kY,x1,kZ⟩:=dS Hx ak;obtain⟨Hy,y0,gm,y1,gp⟩:=dS Hy ak;obtain⟨Hr,r0,aZ,r1,bf⟩:=dS Hr ak;replace Hb:=bj Hb ak;go_wp2_with fail;obtain⟨R,hR⟩:∃R:World->Prop,(λw2=>ar w2 (w.heap.size) 224 [ah m,ag (!s)]/\ar w2 (w.heap.size+1) 224 [ah l,ag s]/\ar w2 (w.heap.size+1+1) 224 [.string (bs []),ag false]/\Bw w w2)=R:=⟨_,rfl⟩;first|refine eN R ?hR ?_|refine eJ R ?hR ?_
 case hR=>subst hR;exact⟨((((Hx.out.set 0 _).set 1 _).so (w.heap.size+1) 0 zo _).so (w.heap.size+1) 1 zo _),((((Hy.out.so (w.heap.size) 0 zo _).so (w.heap.size) 1 zo _).set 0 _).set 1 _),((((Hr.out.so (w.heap.size) 0 zo _).so (w.heap.size) 1 zo _).so (w.heap.size+1) 0 zo _).so (w.heap.size+1) 1 zo _),((((Hb.out.sc (w.heap.size) 0 ZS _).sc (w.heap.size) 1 ZS _).sc (w.heap.size+1) 0 ZS _).sc (w.heap.size+1) 1 ZS _)⟩
 subst hR;rintro w2 ⟨qx,qy,qr,ak⟩;replace Hx:=aj qx;clear qx;replace Hy:=aj qy;clear qy;replace Hr:=aj qr;clear qr;obtain⟨x0,kY,x1,kZ⟩:=Hx.out.g2;obtain⟨y0,gm,y1,gp⟩:=Hy.out.g2;obtain⟨r0,aZ,r1,bf⟩:=Hr.out.g2;replace Hb:=aj ak;go_wp2_with fail;refine(aeG m l _ hm hl Hh.out).mono ?_;rintro e w3 ⟨rfl,ak⟩;obtain⟨Hx,x0,kY,x1,kZ⟩:=dS Hx ak;obtain⟨Hy,y0,gm,y1,gp⟩:=dS Hy ak;obtain⟨Hr,r0,aZ,r1,bf⟩:=dS Hr ak;replace Hb:=bj Hb ak;go_wp2;exact bodyPost_ret (v:=.agg #[ah (nt (nv m-nv l)),ag (!s)]) (by simp[results,Tryz.results236,go_sem,r0,r1]) rfl ⟨rfl,cK⟩
def xt (s:Bool)(l:List UInt8)(t:Bool)(m:List UInt8):Bool:=if s==t then s else if nv l<nv m then t else s
def atH (s:Bool)(l:List UInt8)(t:Bool)(m:List UInt8):iv (xt s l t m) (nt (iv s l+iv t m).natAbs)=iv s l+iv t m:=by unfold xt iv;rw[jl];cases s<;>cases t<;>simp<;>(try split)<;>omega
def atw (l m:List UInt8)(s t:Bool)(w:World)(hl:l.length<=68719476736)(hm:m.length<=68719476736):
 Cv 236 #[.agg #[ah l,ag s],.agg #[ah m,ag t]] w (.agg #[ah (nt (iv s l+iv t m).natAbs),ag (xt s l t m)]):=by
 by_cases hst:s=t
 . subst hst;have e:(iv s l+iv s m).natAbs=nv l+nv m:=by unfold iv;split<;>omega
   rw[e,show xt s l s m=s by simp[xt]];exact atA l m s w hl hm
 . obtain rfl:t= !s:=by cases s<;>cases t<;>simp_all
   by_cases h:nv l<nv m
   . have e:(iv s l+iv (!s) m).natAbs=nv m-nv l:=by unfold iv;cases s<;>simp<;>omega
     rw[e,show xt s l (!s) m= !s by cases s<;>simp[xt,h]];exact aty l m s w hl hm h
   . have e:(iv s l+iv (!s) m).natAbs=nv l-nv m:=by unfold iv;cases s<;>simp<;>omega
     rw[e,show xt s l (!s) m=s by cases s<;>simp[xt,h]];exact atx l m s w hl hm zo
def avI (l m:List UInt8)(s t:Bool)(w:World)(hl:l.length<=68719476736)(hm:m.length<=68719476736):
 Cv 213 #[.agg #[.string (bs l),.bool s],.agg #[.string (bs m),.bool t]] w (.agg #[.string (bs (nt (nv l*nv m))),.bool (!(s==t))]):=by
 go_enter Tryz.func213,Tryz.ntmps213;have Hb:=hbz w;go_wp2_with fail;obtain⟨R,hR⟩:∃R:World->Prop,(λW=>ar W (w.heap.size) 224 [.string (bs l),.bool s]/\ar W (w.heap.size+1) 224 [.string (bs m),.bool t]/\ar W (w.heap.size+1+1) 224 [.string (bs []),.bool false]/\Bw w W)=R:=⟨_,rfl⟩;first|refine eN R ?hR ?_|refine eJ R ?hR ?_
 case hR=>subst hR;exact⟨(((ar.newAt w _ _ (b:=w.heap.size) rfl).alloc _).alloc _),((ar.newAt (w.alloc _) _ _ (b:=w.heap.size+1) zm).alloc _),(ar.newAt ((w.alloc _).alloc _) _ _ (b:=w.heap.size+1+1) zm),((zl.alloc zj _).alloc zj _)⟩
 subst hR;rintro W ⟨qx,qy,qr,ak⟩;have Hx:=aj qx;clear qx;have Hy:=aj qy;clear qy;have Hr:=aj qr;clear qr;obtain⟨x0,x1⟩:=Hx.out.c2;obtain⟨y0,y1⟩:=Hy.out.c2;obtain⟨r0,aZ,r1,bf⟩:=Hr.out.g2;replace Hb:=bj Hb ak;have Uw:w.heap.size≠w.heap.size+1+1:=by omega
 have ney:w.heap.size+1≠w.heap.size+1+1:=by omega
 go_region_held3 (λw'=>w'.cell? ⟨w.heap.size,0,none⟩=some (.string (bs l))/\w'.cell? ⟨w.heap.size,1,none⟩=some (.bool s)/\w'.cell? ⟨w.heap.size+1,0,none⟩=some (.string (bs m))/\w'.cell? ⟨w.heap.size+1,1,none⟩=some (.bool t)) (((try dsimp only);go_split_ands;(repeat' apply And.intro)<;>(first|exact True.intro|with_reducible assumption| ((with_reducible refine gG zg ?_);(repeat(with_reducible refine gG zg ?_));with_reducible assumption) |exact cell_later (by with_reducible assumption) (by with_reducible assumption) |exact aM (by with_reducible assumption) |go_keep))) (first| (go_at_call 262;(with_reducible refine(asp l m _ hl hm).mono ?_);rintro e w1 ⟨rfl,hq⟩;have hw1:Bw W w1:=(by first|exact cM hq|exact hq|exact sP hq|exact sO hq|exact wh hq);clear hq;have lQ:=aj (Hx.out.below hw1);have BX:w1.cell? ⟨w.heap.size,0,none⟩=some (.string (bs l)):=lQ.out.cell 0;have BZ:w1.cell? ⟨w.heap.size,1,none⟩=some (.bool s):=lQ.out.cell 1;have ry:=aj (Hy.out.below hw1);have JI:w1.cell? ⟨w.heap.size+1,0,none⟩=some (.string (bs m)):=ry.out.cell 0;have JJ:w1.cell? ⟨w.heap.size+1,1,none⟩=some (.bool t):=ry.out.cell 1;have ik:=aj (Hr.out.below hw1);have BP:w1.cell? ⟨w.heap.size+1+1,0,none⟩=some (.string (bs [])):=ik.out.cell 0;have Aw:w1.frozen? ⟨w.heap.size+1+1,0,none⟩=false:=ik.out.free 0;have BQ:w1.cell? ⟨w.heap.size+1+1,1,none⟩=some (.bool false):=ik.out.cell 1;have Ax:w1.frozen? ⟨w.heap.size+1+1,1,none⟩=false:=ik.out.free 1))
 replace Hb:=aj (aF Hb.out hw1);clear hw1 x0 x1 y0 y1 r0 aZ r1 bf;replace Hx:=lQ;clear BX BZ;replace Hy:=ry;clear JI JJ;replace Hr:=ik;clear BP Aw BQ Ax;obtain⟨x0,x1⟩:=Hx.out.c2;obtain⟨y0,y1⟩:=Hy.out.c2;obtain⟨r0,aZ,r1,bf⟩:=Hr.out.g2;go_wp2;exact bodyPost_ret (v:=.agg #[.string (bs (nt (nv l*nv m))),.bool (!(s==t))]) (by simp[results,Tryz.results213,go_sem,r0,r1]) rfl ⟨rfl,cK⟩
def aqP (s:Bool)(l:List UInt8)(t:Bool)(m:List UInt8):iv (!(s==t)) (nt (nv l*nv m))=iv s l*iv t m:=by unfold iv;rw[jl];cases s<;>cases t<;>simp[Int.natCast_mul,Int.neg_mul,Int.mul_neg]
def VO (n:Int)(w:World)(h0: -9223372036854775808<=n)(h1:n<=9223372036854775807):
 Cv 125 #[af n] w (cS n):=by
 have hb:n.natAbs<WW:=by rw[jr];omega
 have hlen:(nt n.natAbs).length<=8:=kC (by rw[jr]at hb;omega);have kN:=aj hb;clear hb;by_cases hn:n<0
 . have uW:IntKind.u64.wrap (-(IntKind.u64.wrap n))=(n.natAbs:Int):=by simp only[IntKind.wrap_u64];omega
   have mM:Hid (iv true (nt n.natAbs)=n):=by show iv _ _=_;unfold iv;rw[jl];simp;omega
   go_enter Tryz.func125,Tryz.ntmps125;have Hb:=hbz w;go_wp2_with fail;obtain⟨R,hR⟩:∃R:World->Prop,(λW=>ar W (w.heap.size) 43 [ag false,.string (bs [])]/\Bw w W)=R:=⟨_,rfl⟩;first|refine eN R ?hR ?_|refine eJ R ?hR ?_
   case hR=>subst hR;exact⟨(ar.newAt w _ _ (b:=w.heap.size) rfl),zl⟩
   subst hR;rintro W ⟨qr,ak⟩;have Hr:=aj qr;clear qr;obtain⟨r0,aZ,r1,bf⟩:=Hr.out.g2;replace Hb:=bj Hb ak;go_wp2_with fail;refine(aeF n.natAbs kN.out _).mono ?_;rintro e w1 ⟨rfl,ak⟩;obtain⟨Hr,r0,aZ,r1,bf⟩:=dS Hr ak;replace Hb:=bj Hb ak;go_wp2_with fail;refine(yO (nt n.natAbs) true _ zo).mono ?_;rintro e w2 ⟨rfl,ak⟩;obtain⟨Hr,r0,aZ,r1,bf⟩:=dS Hr ak;replace Hb:=bj Hb ak;rw[mM.out];go_wp2;exact bodyPost_ret (v:=cS n) (by simp[results,Tryz.results125,go_sem,r0,r1]) rfl ⟨rfl,cK⟩
 . have uW:IntKind.u64.wrap n=(n.natAbs:Int):=by simp only[IntKind.wrap_u64];omega
   have mM:Hid (iv false (nt n.natAbs)=n):=by show iv _ _=_;unfold iv;rw[jl];simp;omega
   go_enter Tryz.func125,Tryz.ntmps125;have Hb:=hbz w;go_wp2_with fail;obtain⟨R,hR⟩:∃R:World->Prop,(λW=>ar W (w.heap.size) 43 [ag false,.string (bs [])]/\Bw w W)=R:=⟨_,rfl⟩;first|refine eN R ?hR ?_|refine eJ R ?hR ?_
   case hR=>subst hR;exact⟨(ar.newAt w _ _ (b:=w.heap.size) rfl),zl⟩
   subst hR;rintro W ⟨qr,ak⟩;have Hr:=aj qr;clear qr;obtain⟨r0,aZ,r1,bf⟩:=Hr.out.g2;replace Hb:=bj Hb ak;go_wp2_with fail;refine(aeF n.natAbs kN.out _).mono ?_;rintro e w1 ⟨rfl,ak⟩;obtain⟨Hr,r0,aZ,r1,bf⟩:=dS Hr ak;replace Hb:=bj Hb ak;go_wp2_with fail;refine(yO (nt n.natAbs) false _ zo).mono ?_;rintro e w2 ⟨rfl,ak⟩;obtain⟨Hr,r0,aZ,r1,bf⟩:=dS Hr ak;replace Hb:=bj Hb ak;rw[mM.out];go_wp2;exact bodyPost_ret (v:=cS n) (by simp[results,Tryz.results125,go_sem,r0,r1]) rfl ⟨rfl,cK⟩
def BW (s:Bool)(l:List UInt8)(w:World)(hl:l.length<=1099511627776):
 Cv 168 #[.agg #[ag s,ah l]] w (cS (iv s l)):=by
 go_enter Tryz.func168,Tryz.ntmps168;have Hb:=hbz w;go_wp2_with fail;obtain⟨R,hR⟩:∃R:World->Prop,(λW=>ar W (w.heap.size) 43 [ag s,ah l]/\ar W (w.heap.size+1) 43 [ag false,.string (bs [])]/\Bw w W)=R:=⟨_,rfl⟩;first|refine eN R ?hR ?_|refine eJ R ?hR ?_
 case hR=>subst hR;exact⟨((ar.newAt w _ _ (b:=w.heap.size) rfl).alloc _),(ar.newAt (w.alloc _) _ _ (b:=w.heap.size+1) zm),(zl.alloc zj _)⟩
 subst hR;rintro W ⟨qx,qr,ak⟩;have Hx:=aj qx;clear qx;have Hr:=aj qr;clear qr;obtain⟨x0,x1⟩:=Hx.out.c2;obtain⟨r0,aZ,r1,bf⟩:=Hr.out.g2;replace Hb:=bj Hb ak;go_wp2_with fail;refine(NK l s _).mono ?_;rintro e w1 ⟨rfl,ak⟩;obtain⟨Hx,x0,x1⟩:=fI Hx ak;obtain⟨Hr,r0,aZ,r1,bf⟩:=dS Hr ak;replace Hb:=bj Hb ak;go_wp2_with fail;refine(yO l s _ hl).mono ?_;rintro e w2 ⟨rfl,ak⟩;obtain⟨Hx,x0,x1⟩:=fI Hx ak;obtain⟨Hr,r0,aZ,r1,bf⟩:=dS Hr ak;replace Hb:=bj Hb ak;go_wp2;exact bodyPost_ret (v:=cS (iv s l)) (by simp[results,Tryz.results168,go_sem,r0,r1]) rfl ⟨rfl,cK⟩
def eF (n:Int):Int:=if n<0 then-1 else if n=0 then 0 else 1
def JF (s:Bool)(l:List UInt8)(w:World)(hl:l.length<=1099511627776):
 Cv 87 #[.agg #[ag s,ah l]] w (af (eF (iv s l))):=by
 have hne:=wj (nt (iv s l).natAbs);by_cases hneg:iv s l<0
 . have hs:az (iv s l)=true:=by simp[az,hneg]
   have gF:Hid (eF (iv s l)= -1):=by show eF _=_;simp[eF,hneg]
   clear hneg hne;go_enter Tryz.func87,Tryz.ntmps87;have Hb:=hbz w;go_wp2_with fail;obtain⟨R,hR⟩:∃R:World->Prop,(λW=>ar W (w.heap.size) 43 [ag s,ah l]/\Bw w W)=R:=⟨_,rfl⟩;first|refine eN R ?hR ?_|refine eJ R ?hR ?_
   case hR=>subst hR;exact⟨(ar.newAt w _ _ (b:=w.heap.size) rfl),zl⟩
   subst hR;rintro W ⟨qx,ak⟩;have Hx:=aj qx;clear qx;obtain⟨x0,x1⟩:=Hx.out.c2;replace Hb:=bj Hb ak;go_wp2_with fail;refine(BW s l _ hl).mono ?_;rintro e w1 ⟨rfl,ak⟩;obtain⟨Hx,x0,x1⟩:=fI Hx ak;replace Hb:=bj Hb ak;go_wp2;go_ret;rw[gF.out];refine⟨rfl,?_⟩;exact Hb.out.alloc Hb.out.size _
 . have hs:az (iv s l)=false:=by simp[az,hneg]
   by_cases hz:iv s l=0
   . have gF:Hid (eF (iv s l)=0):=by show eF _=_;simp[eF,hz]
     have apZ:(bs (nt (iv s l).natAbs)).toList.isEmpty=true:=by rw[hne,hz];rfl
     clear hneg hne hz;go_enter Tryz.func87,Tryz.ntmps87;have Hb:=hbz w;go_wp2_with fail;obtain⟨R,hR⟩:∃R:World->Prop,(λW=>ar W (w.heap.size) 43 [ag s,ah l]/\Bw w W)=R:=⟨_,rfl⟩;first|refine eN R ?hR ?_|refine eJ R ?hR ?_
     case hR=>subst hR;exact⟨(ar.newAt w _ _ (b:=w.heap.size) rfl),zl⟩
     subst hR;rintro W ⟨qx,ak⟩;have Hx:=aj qx;clear qx;obtain⟨x0,x1⟩:=Hx.out.c2;replace Hb:=bj Hb ak;go_wp2_with fail;refine(BW s l _ hl).mono ?_;rintro e w1 ⟨rfl,ak⟩;obtain⟨Hx,x0,x1⟩:=fI Hx ak;replace Hb:=bj Hb ak;go_wp2;go_ret;rw[gF.out];refine⟨rfl,?_⟩;exact Hb.out.alloc Hb.out.size _
   . have gF:Hid (eF (iv s l)=1):=by show eF _=_;simp[eF,hz,hneg]
     have apZ:(bs (nt (iv s l).natAbs)).toList.isEmpty=false:=by
      rw[hne];cases hq:nt (iv s l).natAbs with
      |nil=>rw[Ux]at hq;omega
      |cons a b=>rfl
     clear hneg hne hz;go_enter Tryz.func87,Tryz.ntmps87;have Hb:=hbz w;go_wp2_with fail;obtain⟨R,hR⟩:∃R:World->Prop,(λW=>ar W (w.heap.size) 43 [ag s,ah l]/\Bw w W)=R:=⟨_,rfl⟩;first|refine eN R ?hR ?_|refine eJ R ?hR ?_
     case hR=>subst hR;exact⟨(ar.newAt w _ _ (b:=w.heap.size) rfl),zl⟩
     subst hR;rintro W ⟨qx,ak⟩;have Hx:=aj qx;clear qx;obtain⟨x0,x1⟩:=Hx.out.c2;replace Hb:=bj Hb ak;go_wp2_with fail;refine(BW s l _ hl).mono ?_;rintro e w1 ⟨rfl,ak⟩;obtain⟨Hx,x0,x1⟩:=fI Hx ak;replace Hb:=bj Hb ak;go_wp2;go_ret;rw[gF.out];refine⟨rfl,?_⟩;exact Hb.out.alloc Hb.out.size _
def aqQ (s:Bool)(l:List UInt8):iv (!s) l= -(iv s l):=by unfold iv;cases s<;>simp
def agh (s:Bool)(l:List UInt8)(w:World)(hl:l.length<=1099511627776):
 Cv 214 #[.agg #[ag s,ah l]] w (cS (-(iv s l))):=by
 rw[<-aqQ];go_enter Tryz.func214,Tryz.ntmps214;have Hb:=hbz w;go_wp2_with fail;obtain⟨R,hR⟩:∃R:World->Prop,(λW=>ar W (w.heap.size) 43 [ag s,ah l]/\ar W (w.heap.size+1) 43 [ag false,.string (bs [])]/\Bw w W)=R:=⟨_,rfl⟩;first|refine eN R ?hR ?_|refine eJ R ?hR ?_
 case hR=>subst hR;exact⟨((ar.newAt w _ _ (b:=w.heap.size) rfl).alloc _),(ar.newAt (w.alloc _) _ _ (b:=w.heap.size+1) zm),(zl.alloc zj _)⟩
 subst hR;rintro W ⟨qx,qr,ak⟩;have Hx:=aj qx;clear qx;have Hr:=aj qr;clear qr;obtain⟨x0,x1⟩:=Hx.out.c2;obtain⟨r0,aZ,r1,bf⟩:=Hr.out.g2;replace Hb:=bj Hb ak;go_wp2_with fail;refine(yO l (!s) _ hl).mono ?_;rintro e w1 ⟨rfl,ak⟩;obtain⟨Hx,x0,x1⟩:=fI Hx ak;obtain⟨Hr,r0,aZ,r1,bf⟩:=dS Hr ak;replace Hb:=bj Hb ak;go_wp2;exact bodyPost_ret (v:=cS (iv (!s) l)) (by simp[results,Tryz.results214,go_sem,r0,r1]) rfl ⟨rfl,cK⟩
def MS (x:Bool×List UInt8):List Value:=[ag x.1,ah x.2]
def mB (xs:List (Bool×List UInt8)):Int:=(xs.map λx=>iv x.1 x.2).sum
def aqO (xs:List (Bool×List UInt8))(k:Nat)(hk:k<xs.length):mB (xs.take (k+1))=mB (xs.take k)+iv xs[k].1 xs[k].2:=by unfold mB;rw[List.take_succ_eq_append_getElem hk,List.map_append,List.sum_append];simp
def aqN (xs:List (Bool×List UInt8))(B:Nat)(h:∀x∈xs,x.2.length<=B):(mB xs).natAbs<=xs.length*256^B:=by
 unfold mB;induction xs with
 |nil=>simp
 |cons x xs ih=>have h1:=ia x.2;have h2:256^x.2.length<=256^B:=Nat.pow_le_pow_right zd (h x zm);have h3:=ih (λm hm=>h m (by simp[hm]));have h4:=uf x.1 x.2;simp only[List.map_cons,List.sum_cons,List.length_cons];rw[Nat.add_mul,Nat.one_mul];omega
def aqM (xs:List (Bool×List UInt8))(B N:Nat)(h:∀x∈xs,x.2.length<=B)(hx:xs.length<=1048576)(hN:B+3<=N):(nt (mB xs).natAbs).length<=N:=by refine kC (Nat.lt_of_le_of_lt (aqN xs _ h) ?_);refine Nat.lt_of_le_of_lt (Nat.mul_le_mul_right _ hx) ?_;rw[show(1048576:Nat) *256^B=2^20*256^B from rfl,show(256:Nat)=2^8 from rfl,<-Nat.pow_mul,<-Nat.pow_mul,<-Nat.pow_add];exact Nat.pow_lt_pow_right zd zo
def aqL (xs:List (Bool×List UInt8))(h:∀x∈xs,x.2.length<=34359738368)(hx:xs.length<=1048576):(nt (mB xs).natAbs).length<=68719476736:=
 aqM xs 34359738368 68719476736 h hx zd
def awf (xs:List (Bool×List UInt8))(a:Option Addr)(cap:Nat)(w:World)(hl:∀x∈xs,x.2.length<=34359738368)(hx:xs.length<=1048576)
 (ha:At w a (xs.flatMap MS)):
 Cv 167 #[.slice a xs.length cap] w (cS (mB xs)):=by
 have Hl:=aj hl;clear hl;have Ha:=aj ha;clear ha;have EE:Hid (∀k,(nt (mB (xs.take k)).natAbs).length<=68719476736):=λk=>aqL _ (λx hm=>Hl.out x (List.mem_of_mem_take hm)) (by rw[List.length_take];omega);go_enter Tryz.func167,Tryz.ntmps167;have Hb:=hbz w;go_wp2_with fail;obtain⟨R,hR⟩:∃R:World->Prop,(λW=>ar W (w.heap.size) 43 [ag false,.string (bs [])]/\ar W (w.heap.size+1) 224 [.string (bs []),ag false]/\Bw w W)=R:=⟨_,rfl⟩;first|refine eN R ?hR ?_|refine eJ R ?hR ?_
 case hR=>subst hR;exact⟨((ar.newAt w _ _ (b:=w.heap.size) rfl).alloc _),(ar.newAt (w.alloc _) _ _ (b:=w.heap.size+1) zm),(zl.alloc zj _)⟩
 subst hR;rintro W ⟨qr,qs,ak⟩;have Hr:=aj qr;clear qr;have Hs:=aj qs;clear qs;obtain⟨r0,aZ,r1,bf⟩:=Hr.out.g2;obtain⟨s0,uP,s1,uQ⟩:=Hs.out.g2;replace Hb:=bj Hb ak
 go_loopw[5,8] (λ_ i wr=>∃(k:Nat) (t:Bool),k<=xs.length/\i=af k/\iv t (nt (mB (xs.take k)).natAbs)=mB (xs.take k)/\ar wr w.heap.size 43 [ag false,.string (bs [])]/\
  ar wr (w.heap.size+1) 224 [ah (nt (mB (xs.take k)).natAbs),ag t]/\Bw w wr) (λ_ i _=>xs.length-(intOf i).toNat)
 case atStart=>exact⟨0,false,Nat.zero_le _,rfl,rfl,Hr.out,Hs.out,Hb.out⟩
 case round=>
  obtain⟨k,t,hk,rfl,lu,qr,qs,hb⟩:=hrel;obtain⟨Hr,Hs,Hb,mM⟩:=cG qr qs hb lu;clear qr qs hb lu;by_cases hlt:k<xs.length
  . obtain⟨b,o,hab,hcs⟩:=(Ha.out.below Hb.out).elem (f:=MS) (sz:=2) (λ_=>rfl) zd k hlt;have hc0:wr.cell? ⟨b,o+k*2,none⟩=some (ag xs[k].1):=hcs 0 zd;have hc1:wr.cell? ⟨b,o+k*2+1,none⟩=some (.string (bs xs[k].2)):=hcs 1 zd;have aX:=wX xs.length cap k (k:Int) hab hlt rfl;have bN:=aj (aqO xs k hlt);have lI:Hid (xs[k].2.length<=34359738368):=Hl.out _ (List.getElem_mem hlt);have kL:=aj (EE.out k);clear hcs hab;generalize xs[k]=x at*;obtain⟨t1,l1⟩:=x;generalize hS:mB (xs.take k)=S at*;have HS:=aj hS;clear hS;obtain⟨r0,aZ,r1,bf⟩:=Hr.out.g2;obtain⟨s0,uP,s1,uQ⟩:=Hs.out.g2;have arF:=Hr.out.lt;have arG:=Hs.out.lt;go_wp2_with fail;obtain⟨R,hR⟩:∃R:World->Prop,(λW1=>ar W1 (wr.heap.size) 43 [ag t1,ah l1]/\Bw wr W1)=R:=⟨_,rfl⟩;first|refine eN R ?hR ?_|refine eJ R ?hR ?_
    case hR=>subst hR;exact⟨(ar.newAt wr _ _ (b:=wr.heap.size) rfl),zl⟩
    subst hR;rintro W1 ⟨qa,ak⟩;have Ha:=aj qa;clear qa r0 aZ r1 bf;obtain⟨Hr,r0,aZ,r1,bf⟩:=dS Hr ak;obtain⟨Hs,s0,uP,s1,uQ⟩:=dS Hs ak;obtain⟨a0,a1⟩:=Ha.out.c2;replace Hb:=bj Hb ak;go_region_with (first| (go_at_call 212;refine(NK l1 t1 _).mono ?_;rintro e w1 ⟨rfl,hq⟩;have hw1:Bw W1 w1:=cM hq;clear hq;have Vk:w1.cell? ⟨w.heap.size+1,0,none⟩=some (ah (nt S.natAbs)):=cell_later hw1 s0;have Vm:w1.cell? ⟨w.heap.size+1,1,none⟩=some (ag t):=cell_later hw1 s1;have aoh:=(Hs.out.below hw1).free 0;have aoj:=(Hs.out.below hw1).free 1) | (go_at_call 236;refine(atw (nt S.natAbs) l1 t t1 _ kL.out (by have:=lI.out;omega)).mono ?_;rintro e w2 ⟨rfl,hw2⟩;have auG:=cell_later hw2 Vk;have auJ:=cell_later hw2 Vm;have aoi:=((Hs.out.below hw1).below hw2).free 0;have aok:=((Hs.out.below hw1).below hw2).free 1))
    all_goals
     go_wp2
     go_roundw
     case rel=>have hq:=atH t (nt S.natAbs) t1 l1;rw[mM.out,<-bN.out]at hq;rw[mM.out,<-bN.out];refine⟨k+1,_,by omega,by go_num,hq,((((Hr.out.below hw1).below hw2).azV ⟨w.heap.size+1,0,none⟩ zp _).azV ⟨w.heap.size+1,1,none⟩ zp _),((((Hs.out.below hw1).below hw2).set 0 _).set 1 _),?_⟩;exact((aF (aF Hb.out hw1) hw2).setCell zp _).setCell zp _
     case measure=>exact bi
  . obtain rfl:k=xs.length:=by omega
    rw[List.take_length]at Hs mM;have kL:=EE.out xs.length;rw[List.take_length]at kL;obtain⟨r0,aZ,r1,bf⟩:=Hr.out.g2;obtain⟨s0,uP,s1,uQ⟩:=Hs.out.g2;go_wp2_with fail;refine(yO (nt (mB xs).natAbs) t _ zo).mono ?_;rintro e w1 ⟨rfl,ak⟩;obtain⟨Hr,r0,aZ,r1,bf⟩:=dS Hr ak;obtain⟨Hs,s0,uP,s1,uQ⟩:=dS Hs ak;replace Hb:=bj Hb ak;rw[mM.out];go_wp2;exact bodyPost_ret (v:=cS (mB xs)) (by simp[results,Tryz.results167,go_sem,r0,r1]) rfl ⟨rfl,cK⟩
end Go.Proofs.YtpfgffadgkkedaaGreatDoor
namespace Go.Proofs.YtpfgffadgkkedaaGreatDoor
def Er (n k:Int):(Dyadic.ofIntWithPrec n k).toRat=n*2^(-k):=Dyadic.toRat_ofIntWithPrec_eq_mul_two_pow
def auf :((2:Rat))≠0:=by decide
def vv (a b k:Int):Dyadic.ofIntWithPrec a k+Dyadic.ofIntWithPrec b k=Dyadic.ofIntWithPrec (a+b) k:=by rw[<-Dyadic.toRat_inj,Dyadic.toRat_add,Er,Er,Er,Rat.intCast_add,Rat.add_mul]
def yX (a b j k:Int):Dyadic.ofIntWithPrec a j*Dyadic.ofIntWithPrec b k=Dyadic.ofIntWithPrec (a*b) (j+k):=by rw[<-Dyadic.toRat_inj,Dyadic.toRat_mul,Er,Er,Er,Rat.intCast_mul,Int.neg_add,Rat.zpow_add auf];grind
def rT (a:Int)(n:Nat)(k:Int):Dyadic.ofIntWithPrec (a*2^n) (k+n)=Dyadic.ofIntWithPrec a k:=by have:=@Dyadic.ofIntWithPrec_shiftLeft_add a k n;rwa [Int.shiftLeft_eq]at this
def Ji (a k:Int): -Dyadic.ofIntWithPrec a k=Dyadic.ofIntWithPrec (-a) k:=Dyadic.neg_ofIntWithPrec
def xq (k:Int):Dyadic.ofIntWithPrec 0 k=0:=Dyadic.ofIntWithPrec_zero
abbrev Raw:=Bool ×List UInt8×Int
def dval (x:Raw):Dyadic:=Dyadic.ofIntWithPrec (iv x.1 x.2.1) (-x.2.2)
def dN :Dyadic->Int
 | .zero=>0
 | .ofOdd n _ _=>n
def dE :Dyadic->Int
 | .zero=>0
 | .ofOdd _ k _=>-k
def canon (d:Dyadic):Raw:=(az (dN d),nt (dN d).natAbs,dE d)
def bu (d:Dyadic):dval (canon d)=d:=by
 unfold dval canon;simp only[fu];cases d with
 |zero=>rfl
 |ofOdd n k hn=>simp only[dN,dE,Int.neg_neg];exact(Dyadic.ofOdd_eq_ofIntWithPrec).symm
def Zy {n k:Int}(h:n≠0):dN (Dyadic.ofIntWithPrec n k)=n/2^n.trailingZeros/\dE (Dyadic.ofIntWithPrec n k)=n.trailingZeros-k:=by unfold Dyadic.ofIntWithPrec;rw[dif_neg h];simp only[dN,dE,Int.shiftRight_eq_div_pow];refine⟨by simp[Int.natCast_pow],by omega⟩
def QS :dN 0=0:=rfl
def amC :dE 0=0:=rfl
def Sm (B:Nat)(d:Dyadic):Prop:=∃m:Int,d=Dyadic.ofIntWithPrec m B/\m.natAbs<2^(2*B)
def Sm.zero (B:Nat):Sm B 0:=⟨0,(xq _).symm,Nat.pow_pos zd⟩
def Sm.mono {A B:Nat}{d:Dyadic}(h:Sm A d)(hAB:A<=B):Sm B d:=by
 obtain⟨m,rfl,hm⟩:=h;obtain⟨j,rfl⟩:∃j,B=A+j:=⟨B-A,by omega⟩;refine⟨m*2^j,?_,?_⟩
 . rw[Int.natCast_add,rT]
 . rw[Int.natAbs_mul,Int.natAbs_pow];have:m.natAbs*2^j<2^(2*A) *2^j:=Nat.mul_lt_mul_of_pos_right hm (Nat.pow_pos zd);rw[<-Nat.pow_add]at this;exact Nat.lt_of_lt_of_le this (Nat.pow_le_pow_right zd zo)
def Sm.add {B:Nat}{a b:Dyadic}(ha:Sm B a)(hb:Sm B b):Sm (B+1) (a+b):=by
 obtain⟨m,rfl,hm⟩:=ha;obtain⟨n,rfl,hn⟩:=hb;refine⟨(m+n) *2^1,?_,?_⟩
 . rw[vv,Int.natCast_add];exact(rT _ 1 _).symm
 . rw[show 2* (B+1)=2*B+2 by omega,Nat.pow_add];omega
def Sm.neg {B:Nat}{a:Dyadic}(ha:Sm B a):Sm B (-a):=by obtain⟨m,rfl,hm⟩:=ha;exact⟨-m,Ji _ _,by omega⟩
def Sm.sub {B:Nat}{a b:Dyadic}(ha:Sm B a)(hb:Sm B b):Sm (B+1) (a-b):=ha.add hb.neg
def Sm.mul {A B:Nat}{a b:Dyadic}(ha:Sm A a)(hb:Sm B b):Sm (A+B) (a*b):=by
 obtain⟨m,rfl,hm⟩:=ha;obtain⟨n,rfl,hn⟩:=hb;refine⟨m*n,?_,?_⟩
 . rw[yX,Int.natCast_add]
 . rw[Int.natAbs_mul,Nat.mul_add,Nat.pow_add];exact Nat.mul_lt_mul'' hm hn
def avX {n:Int}(h:n≠0):2^n.trailingZeros<=n.natAbs:=by
 have hd:=Int.two_pow_trailingZeros_dvd h;have h2:(2^n.trailingZeros:Nat)∣n.natAbs:=by have:=Int.natAbs_dvd_natAbs.2 hd;rwa [Int.natAbs_pow]at this
 exact Nat.le_of_dvd zo h2
def Sm.parts {B:Nat}{d:Dyadic}(h:Sm B d):(dN d).natAbs<2^(2*B)/\ -(B:Int)<=dE d/\dE d<=B:=by
 obtain⟨m,rfl,hm⟩:=h;by_cases h0:m=0
 . subst h0;rw[xq,QS,amC];exact⟨Nat.pow_pos zd,by omega,by omega⟩
 . obtain ⟨e1,e2⟩:=Zy (k:=B) h0;have h1:=avX h0;have h2:m.trailingZeros<2*B:=by
    rcases Nat.lt_or_ge m.trailingZeros (2*B)with h|h
    . exact h
    . have:=Nat.pow_le_pow_right (show 0<2 by decide) h;omega
   rw[e1,e2];refine⟨?_,by omega,by omega⟩;obtain⟨q,hq⟩:=Int.two_pow_trailingZeros_dvd h0;have hp:(2:Int)^m.trailingZeros≠0:=by
    have:((2^m.trailingZeros:Nat):Int)≠0:=by have:=Nat.pow_pos (n:=m.trailingZeros) (show 0<2 by decide);omega
    simpa[Int.natCast_pow]using this
   have e3:m/2^m.trailingZeros=q:=by
    conv=>lhs;lhs;rw[hq]
    exact Int.mul_ediv_cancel_left _ hp
   rw[e3];have e4:m.natAbs=2^m.trailingZeros*q.natAbs:=by
    conv=>lhs;rw[hq]
    rw[Int.natAbs_mul,Int.natAbs_pow];rfl
   have:=Nat.pow_pos (n:=m.trailingZeros) (show 0<2 by decide);have:q.natAbs<=2^m.trailingZeros*q.natAbs:=Nat.le_mul_of_pos_left _ this;omega
def Ok (x:Raw):Prop:=x.2.1.length<=268435456/\ -268435456<=x.2.2/\x.2.2<=268435456
def lv {n k N:Nat}(h:n<2^k)(hN:k<=8*N):(nt n).length<=N:=
 kC (Nat.lt_of_lt_of_le h (by rw[show(256:Nat)=2^8 by rfl,<-Nat.pow_mul];exact Nat.pow_le_pow_right zd hN))
def Sm.ok {B:Nat}{d:Dyadic}(h:Sm B d)(hB:B<=268435456):Ok (canon d):=by obtain⟨h1,h2,h3⟩:=h.parts;exact⟨lv h1 zo,by show-268435456<=dE d;omega,by show dE d<=268435456;omega⟩
def Sm.raw {x:Raw}{B:Nat}(hl:8*x.2.1.length<=B)(h1: -(B:Int)<=x.2.2)(h2:x.2.2<=B):Sm (2*B) (dval x):=by
 unfold dval;obtain⟨j,hj⟩:∃j:Nat,x.2.2+(2*B:Nat)=j:=⟨(x.2.2+(2*B:Nat)).toNat,by omega⟩;refine⟨iv x.1 x.2.1*2^j,?_,?_⟩
 . rw[<-rT (iv x.1 x.2.1) j (-x.2.2)];congr 1;omega
 . rw[Int.natAbs_mul,Int.natAbs_pow,uf];have hv:=ia x.2.1;rw[show(256:Nat)=2^8 by rfl,<-Nat.pow_mul]at hv;have:nv x.2.1*2^j<2^(8*x.2.1.length) *2^j:=Nat.mul_lt_mul_of_pos_right hv (Nat.pow_pos zd);rw[<-Nat.pow_add]at this;exact Nat.lt_of_lt_of_le this (Nat.pow_le_pow_right zd zo)
def Ok.sm {x:Raw}(h:Ok x):Sm 4294967296 (dval x):=Sm.raw (B:=2147483648) (by have:=h.1;omega) (by have:=h.2.1;omega) (by have:=h.2.2;omega)
def lC (g:Nat->Nat->Int)(k:Nat)(last:Int)(i j:Nat):Nat->Nat->Int:=λa b=>if k<a/\k<b/\(a<i\/a=i/\b<j)then bZ g k a b/last else g a b
def atj (g:Nat->Nat->Int)(k:Nat)(last:Int):lC g k last (k+1) (k+1)=g:=by
 funext a b;unfold lC
 rw[if_neg zo]
def ath (g:Nat->Nat->Int)(k:Nat)(last:Int)(i j:Nat)(hi:k<i)(hj:k<j):(λa b=>if a=i/\b=j then bZ g k i j/last else lC g k last i j a b)=lC g k last i (j+1):=by
 funext a b;unfold lC
 by_cases h:a=i/\b=j
 . obtain⟨rfl,rfl⟩:=h;rw[if_pos ⟨rfl,rfl⟩,if_pos ⟨hi,hj,.inr ⟨rfl,by omega⟩⟩]
 . rw[if_neg h];by_cases h2:k<a/\k<b/\(a<i\/a=i/\b<j)
   . rw[if_pos h2,if_pos ⟨h2.1,h2.2.1,by omega⟩]
   . rw[if_neg h2,if_neg (λh3=>h2 ⟨h3.1,h3.2.1,by omega⟩)]
def ati (g:Nat->Nat->Int)(k:Nat)(last:Int)(i n:Nat):∀a b,b<n->lC g k last i n a b=lC g k last (i+1) (k+1) a b:=by
 intro a b hb;unfold lC;by_cases h2:k<a/\k<b/\(a<i\/a=i/\b<n)
 . rw[if_pos h2,if_pos ⟨h2.1,h2.2.1,by omega⟩]
 . rw[if_neg h2,if_neg (λh3=>h2 ⟨h3.1,h3.2.1,by omega⟩)]
def atf (g:Nat->Nat->Int)(k:Nat)(last:Int)(n:Nat):∀a b,a<n->lC g k last n (k+1) a b=dD g k last a b:=by
 intro a b ha;unfold lC dD;by_cases h2:k<a/\k<b/\(a<n\/a=n/\b<k+1)
 . rw[if_pos h2,if_pos ⟨h2.1,h2.2.1⟩]
 . rw[if_neg h2,if_neg (λh3=>h2 ⟨h3.1,h3.2,by omega⟩)]
def atg (g:Nat->Nat->Int)(k:Nat)(last:Int)(i j:Nat):lC g k last i j i j=g i j/\lC g k last i j k k=g k k/\lC g k last i j i k=g i k/\lC g k last i j k j=g k j:=by unfold lC;refine⟨if_neg zo,if_neg zo,if_neg zo,if_neg zo⟩
def Uz (g:Nat->Nat->Int)(k a b K:Nat)(h1:(g a b).natAbs<2^K)(h2:(g k k).natAbs<2^K)(h3:(g a k).natAbs<2^K)(h4:(g k b).natAbs<2^K):
 (g a b*g k k).natAbs<2^(2*K)/\(g a k*g k b).natAbs<2^(2*K)/\(bZ g k a b).natAbs<2^(2*K+1):=by
 have e:2^(2*K)=2^K*2^K:=by rw[<-Nat.pow_add];congr 1;omega
 have m1:(g a b*g k k).natAbs<2^K*2^K:=by rw[Int.natAbs_mul];exact Nat.mul_lt_mul'' h1 h2
 have m2:(g a k*g k b).natAbs<2^K*2^K:=by rw[Int.natAbs_mul];exact Nat.mul_lt_mul'' h3 h4
 refine⟨by rw[e];exact m1,by rw[e];exact m2,?_⟩;rw[Nat.pow_succ,e];unfold bZ;generalize g a b*g k k=x at*;generalize g a k*g k b=y at*;omega
def div_lt (x y:Int)(M:Nat)(h:x.natAbs<M):(x/y).natAbs<M\/¬y∣x:=by
 by_cases hd:y∣x
 . left;obtain⟨q,rfl⟩:=hd;by_cases hy:y=0
   . subst hy;simp;omega
   . rw[Int.mul_ediv_cancel_left _ hy];rw[Int.natAbs_mul]at h;have:1<=y.natAbs:=by omega
     have:=Nat.mul_le_mul_right q.natAbs this;omega
 . right;exact hd
def UK (a b k:Int):Dyadic.ofIntWithPrec a k-Dyadic.ofIntWithPrec b k=Dyadic.ofIntWithPrec (a-b) k:=by
 have h:Dyadic.ofIntWithPrec a k-Dyadic.ofIntWithPrec b k=Dyadic.ofIntWithPrec a k+ -Dyadic.ofIntWithPrec b k:=by grind
 rw[h,Ji,vv];rfl
def amS (n:Nat)(hn:1<=n)(aS:n<=4)(f:Nat->Nat->Int)(e:Nat->Nat->Dyadic)(q:Int)(h:∀a b,a<n->b<n->e a b=Dyadic.ofIntWithPrec (f a b) q):
 dJ n e=Dyadic.ofIntWithPrec (eX n n 0 f 1 false) (n*q):=by
 have hc:n=1\/n=2\/n=3\/n=4:=by omega
 rcases hc with rfl|rfl|rfl|rfl
 . rw[akC];unfold dJ;simp only;rw[h 0 0 zo zo];congr 1;omega
 . rw[akD];unfold dJ Ap;simp only;rw[h 0 0 zo zo,h 1 1 zo zo,h 0 1 zo zo,h 1 0 zo zo,yX,yX,UK];congr 1;omega
 . rw[akE];unfold dJ iM;simp only;rw[h 0 0 zo zo,h 1 1 zo zo,h 0 1 zo zo,h 1 0 zo zo,h 0 2 zo zo,h 2 0 zo zo,h 1 2 zo zo,h 2 1 zo zo,h 2 2 zo zo];simp only[yX,UK,vv];congr 1;omega
 . rw[akG];unfold dJ eZ;simp only;rw[h 0 0 zo zo,h 1 1 zo zo,h 0 1 zo zo,h 1 0 zo zo,h 0 2 zo zo,h 2 0 zo zo,h 1 2 zo zo,h 2 1 zo zo,h 2 2 zo zo];rw[h 0 3 zo zo,h 1 3 zo zo,h 2 3 zo zo,h 3 0 zo zo,h 3 1 zo zo,h 3 2 zo zo,h 3 3 zo zo];simp only[yX,UK,vv];congr 1;omega
def aab (n:Nat)(hn:1<=n)(aS:n<=4)(f:Nat->Nat->Int):gK n n 0 f 1:=by
 have hc:n=1\/n=2\/n=3\/n=4:=by omega
 rcases hc with rfl|rfl|rfl|rfl
 . exact anL f
 . exact anM f
 . exact anN f
 . exact anO f
abbrev dx (X:Dyadic):Bool×List UInt8×Int:=(az (dN X),nt (dN X).natAbs,dE X)
abbrev bE (X:Dyadic):List Value:=[ag (az (dN X)),ah (nt (dN X).natAbs),af (dE X)]
end Go.Proofs.YtpfgffadgkkedaaGreatDoor
