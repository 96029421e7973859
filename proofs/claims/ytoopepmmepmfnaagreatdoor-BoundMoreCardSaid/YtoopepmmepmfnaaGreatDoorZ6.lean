/- Small facts that walks over blocks of one's own share. -/
import Derived.Test.YtoopepmmepmfnaaGreatDoorZ5
import Derived.Deep.RegionHeld3
import Derived.Deep.DrawnRows
import Derived.Test.YtoopepmmepmfnaaGreatDoorZ1
set_option linter.unusedVariables false
set_option linter.unusedSimpArgs false
set_option maxRecDepth 100000
set_option maxHeartbeats 16000000
namespace Go.Proofs.YtoopepmmepmfnaaGreatDoor
open Go.RowKit
theorem bB {P:Program}{c:Code}{Q:Exit->Act->World->Prop}{a:Act}{W:World}(S:World->Prop)(hS:S W)(h:∀W',S W'->c.wp P Q a W'):c.wp P Q a W:=h W hS
theorem bz {P:Program}{f:FuncId}{args:Array Value}{R:Ending->World->Prop}{W:World}(S:World->Prop)(hS:S W)(h:∀W',S W'->Calls P f args W' R):Calls P f args W R:=h W hS
theorem eW {w:World}{p a:Addr}{u v:Value}(hne:a.block≠p.block)(h:w.cell? a=some v):(w.setCell p u).cell? a=some v:=
 (World.cell?_of_block (w:=w) (Below.heap_setCell _ _ _ _ hne)).trans h
theorem ag.newAt (w:World)(t:TypeId)(cs:List Value){b:Nat}(h:w.heap.size=b):ag (w.alloc (.cells cs.toArray t)) b t cs:=by subst h;exact ag.new w t cs
theorem bH (w:World)(t0:TypeId)(l0:List Value):∃W,(w.alloc (.cells l0.toArray t0))=W/\Bw w W/\RowKit.Hid (ag W (w.heap.size) t0 l0):=⟨_,rfl,zl,af (ag.new _ _ _)⟩
theorem WS (w:World)(t0:TypeId)(l0:List Value)(t1:TypeId)(l1:List Value):∃W,((w.alloc (.cells l0.toArray t0)).alloc (.cells l1.toArray t1))=W/\Bw w W/\RowKit.Hid (ag W (w.heap.size) t0 l0)/\RowKit.Hid (ag W (w.heap.size+1) t1 l1):=⟨_,rfl,(zl.alloc zj _),af ((ag.new _ _ _).alloc _),af (ag.newAt _ _ _ zm)⟩
theorem gX (w:World)(t0:TypeId)(l0:List Value):∃W,(w.alloc (.cells l0.toArray t0))=W/\RowKit.Hid (Bw w W)/\RowKit.Hid (ag W (w.heap.size) t0 l0):=⟨_,rfl,af zl,af (ag.new _ _ _)⟩
theorem jF (w:World)(t0:TypeId)(l0:List Value)(t1:TypeId)(l1:List Value):∃W,((w.alloc (.cells l0.toArray t0)).alloc (.cells l1.toArray t1))=W/\RowKit.Hid (Bw w W)/\RowKit.Hid (ag W (w.heap.size) t0 l0)/\RowKit.Hid (ag W (w.heap.size+1) t1 l1):=⟨_,rfl,af (zl.alloc zj _),af ((ag.new _ _ _).alloc _),af (ag.newAt _ _ _ zm)⟩
theorem MR (w:World)(t0:TypeId)(l0:List Value)(t1:TypeId)(l1:List Value)(t2:TypeId)(l2:List Value):∃W,(((w.alloc (.cells l0.toArray t0)).alloc (.cells l1.toArray t1)).alloc (.cells l2.toArray t2))=W/\RowKit.Hid (Bw w W)/\RowKit.Hid (ag W (w.heap.size) t0 l0)/\RowKit.Hid (ag W (w.heap.size+1) t1 l1)/\RowKit.Hid (ag W (w.heap.size+1+1) t2 l2):=⟨_,rfl,af ((zl.alloc zj _).alloc zj _),af (((ag.new _ _ _).alloc _).alloc _),af ((ag.newAt _ _ _ zm).alloc _),af (ag.newAt _ _ _ zm)⟩
theorem BV (w:World)(t0:TypeId)(l0:List Value)(t1:TypeId)(l1:List Value)(t2:TypeId)(l2:List Value)(t3:TypeId)(l3:List Value):∃W,((((w.alloc (.cells l0.toArray t0)).alloc (.cells l1.toArray t1)).alloc (.cells l2.toArray t2)).alloc (.cells l3.toArray t3))=W/\RowKit.Hid (Bw w W)/\RowKit.Hid (ag W (w.heap.size) t0 l0)/\RowKit.Hid (ag W (w.heap.size+1) t1 l1)/\RowKit.Hid (ag W (w.heap.size+1+1) t2 l2)/\RowKit.Hid (ag W (w.heap.size+1+1+1) t3 l3):=⟨_,rfl,af (((zl.alloc zj _).alloc zj _).alloc zj _),af ((((ag.new _ _ _).alloc _).alloc _).alloc _),af (((ag.newAt _ _ _ zm).alloc _).alloc _),af ((ag.newAt _ _ _ zm).alloc _),af (ag.newAt _ _ _ zm)⟩
theorem aK {a w:World}(h:Below a.drew.heap.size a.drew w):Bw a w:=⟨h.os,h.tape,h.output,h.size,h.block⟩
theorem aG {w W w1:World}(h:Bw w W)(k:Bw W w1):Bw w w1:=h.trans (k.mono h.size)
theorem ak {w W w1:World}(h:Hid (Bw w W))(k:Bw W w1):Hid (Bw w w1):=aG h.out k
def sM (b:Nat):Nat->List Value->World->World
 |_,[],w=>w
 |o,v::l,w=>sM b (o+1) l (w.setCell ⟨b,o,none⟩ v)
def yE :Nat->List Value->List Value->List Value
 |_,[],c=>c
 |o,v::l,c=>yE (o+1) l (c.set o v)
def bf (w:World)(b o:Nat)(vs:List Value)(w':World):Prop:=w'=sM b o vs w\/w'=sM b o vs w.drew
theorem stI {w:World}{b o:Nat}{vs:List Value}:bf w b o vs (sM b o vs w):=.inl rfl
theorem stJ {w:World}{b o:Nat}{vs:List Value}:bf w b o vs (sM b o vs w.drew):=.inr rfl
theorem bI {w:World}{b o:Nat}{vs:List Value}{w':World}(h:bf w b o vs w':=by first|exact stI|exact stJ):bf w b o vs w':=h
theorem aks (vs:List Value):∀(o:Nat) (cs:List Value),cs.length=o+vs.length->yE o vs cs=cs.take o++vs:=by
 induction vs with
 |nil=>intro o cs h;simp only[yE,List.append_nil];rw[List.take_of_length_le (by simp at h;omega)]
 |cons v vs ih=>intro o cs h;simp only[List.length_cons]at h;rw[yE,ih (o+1) _ (by rw[List.length_set];omega),List.take_succ_eq_append_getElem (by rw[List.length_set];omega),List.getElem_set_self,List.take_set_of_le (Nat.le_refl _),List.append_assoc];rfl
theorem XV (p b:Nat)(n:p≠b)(t:TypeId)(cs:List Value)(vs:List Value):∀(o:Nat) (w:World),ag w b t cs->ag (sM p o vs w) b t cs:=by
 induction vs with
 |nil=>intro o w h;exact h
 |cons v vs ih=>intro o w h;exact ih _ _ (h.aqG ⟨p,o,none⟩ n v)
theorem XW (b:Nat)(t:TypeId)(vs:List Value):∀(o:Nat) (w:World) (cs:List Value),ag w b t cs->ag (sM b o vs w) b t (yE o vs cs):=by
 induction vs with
 |nil=>intro o w cs h;exact h
 |cons v vs ih=>intro o w cs h;exact ih _ _ _ (h.set o v)
theorem XU (a w0:World)(p:Nat)(n:a.heap.size<=p)(vs:List Value):∀(o:Nat) (w:World),Below a.heap.size w0 w->Below a.heap.size w0 (sM p o vs w):=by
 induction vs with
 |nil=>intro o w h;exact h
 |cons v vs ih=>intro o w h;exact ih _ _ (h.setCell n v)
theorem kS {w w':World}{b p o:Nat}{t:TypeId}{cs vs:List Value}(h:Hid (ag w b t cs))(k:bf w p o vs w')(n:p≠b):Hid (ag w' b t cs):=by
 rcases k with rfl|rfl
 . exact XV p b n t cs vs o _ h.out
 . exact XV p b n t cs vs o _ h.out.drew
theorem vY {w w':World}{b o:Nat}{t:TypeId}{cs vs:List Value}(h:Hid (ag w b t cs))(k:bf w b o vs w'):Hid (ag w' b t (yE o vs cs)):=by
 rcases k with rfl|rfl
 . exact XW b t vs o _ cs h.out
 . exact XW b t vs o _ cs h.out.drew
theorem cp {w w':World}{b:Nat}{t:TypeId}{cs vs:List Value}(h:Hid (ag w b t cs))(k:bf w b 0 vs w')(e:cs.length=vs.length:=by rfl):Hid (ag w' b t vs):=by have:=vY h k;rwa [aks vs 0 cs zo,List.take_zero,List.nil_append]at this
theorem bS {a w w':World}{p o:Nat}{vs:List Value}(h:Hid (Bw a w))(k:bf w p o vs w')(n:a.heap.size<=p):Hid (Bw a w'):=by
 rcases k with rfl|rfl
 . exact XU a a p n vs o _ h.out
 . exact XU a a p n vs o _ h.out.drew
theorem ov {a w:World}{o:Obj}(h:Below (a.alloc o).heap.size (a.alloc o) w):Bw a w:=aG zl h
theorem ow {a w:World}{o:Obj}(h:Below (a.drew.alloc o).heap.size (a.drew.alloc o) w):Bw a w:=aK (ov h)
theorem rF {a w:World}{o:Obj}(h:Below (a.alloc o).drew.heap.size (a.alloc o).drew w):Bw a w:=ov (aK h)
theorem aH {w:World}{a:Addr}{v:Value}{o:Obj}(h:w.cell? a=some v):(w.alloc o).cell? a=some v:=cell_later zl h
theorem JJ {w:World}{a:Addr}{v:Value}(h:w.cell? a=some v):w.drew.cell? a=some v:=h
theorem At.aqF {w:World}{b:Nat}{t:TypeId}{cs:List Value}(h:ag w b t cs):At w (some ⟨b,0,none⟩) cs:=
 .inr ⟨b,0,rfl,λj _=>by rw[Nat.zero_add];exact h.cell j⟩
theorem flat_get {α:Type}(f:α->List Value)(sz:Nat)(hf:∀x,(f x).length=sz)(xs:List α)(k i:Nat)(hk:k<xs.length)(hi:i<sz):
 (xs.flatMap f)[k*sz+i]?=(f xs[k])[i]?:=by
 induction xs generalizing k with
 |nil=>simp at hk
 | cons x xs ih=>
   rw[List.flatMap_cons];cases k with
   |zero=>rw[Nat.zero_mul,Nat.zero_add,List.getElem?_append_left (by rw[hf];exact hi)];rfl
   | succ k=>
     have e:(k+1) *sz+i=(f x).length+(k*sz+i):=by rw[hf,Nat.add_mul,Nat.one_mul];omega
     rw[e,List.getElem?_append_right zo,Nat.add_sub_cancel_left,ih k (by simpa using hk)];rfl
theorem lu {α:Type}(f:α->List Value)(sz:Nat)(hf:∀x,(f x).length=sz)(xs:List α):(xs.flatMap f).length=xs.length*sz:=by
 induction xs with
 |nil=>simp
 |cons x xs ih=>rw[List.flatMap_cons,List.length_append,ih,hf,List.length_cons,Nat.add_mul,Nat.one_mul,Nat.add_comm]
theorem At.elem {α:Type}{f:α->List Value}{sz:Nat}(hf:∀x,(f x).length=sz)(hsz:0<sz){W:World}{a:Option Addr}{xs:List α}(h:At W a (xs.flatMap f))(k:Nat)(hk:k<xs.length):
 ∃b o,a=some ⟨b,o,none⟩/\∀i,i<sz->W.cell? ⟨b,o+k*sz+i,none⟩=(f xs[k])[i]?:=by
 have hl:=lu f sz hf xs;have hb:∀i,i<sz->k*sz+i<xs.length*sz:=by intro i hi;have:(k+1) *sz<=xs.length*sz:=Nat.mul_le_mul_right _ hk;rw[Nat.add_mul,Nat.one_mul]at this;omega
 have hne:xs.flatMap f≠[]:=by intro h0;have:=congrArg List.length h0;rw[hl]at this;have:=hb 0 hsz;simp at*;omega
 obtain⟨b,o,ha,hc⟩:=h.get hne;refine⟨b,o,ha,λi hi=>?_⟩;rw[Nat.add_assoc,hc _ (by rw[hl];exact hb i hi),flat_get f sz hf xs k i hk hi]
end Go.Proofs.YtoopepmmepmfnaaGreatDoor
namespace Go.Proofs.YtoopepmmepmfnaaGreatDoor
open Go.RowKit
attribute [local go_sem ↓] Go.wp_at_zero Go.wp_at_succ
def iv (s:Bool)(l:List UInt8):Int:=if s then-(nv l:Int)else(nv l:Int)
theorem qo (s:Bool)(l:List UInt8):(iv s l).natAbs=nv l:=by unfold iv;split<;>omega
def aj (n:Int):Bool:=decide (n<0)
theorem VQ (s:Bool)(l:List UInt8):aj (iv s l)=(s&& !(nt (nv l)).isEmpty):=by
 unfold aj;have h:(nt (nv l)).isEmpty=decide (nv l=0):=by rw[Bool.eq_iff_iff,List.isEmpty_iff,MO,decide_eq_true_iff]
 rw[h];unfold iv;cases s<;>simp
 by_cases h0:nv l=0<;>simp[h0];omega
abbrev bM (n:Int):Value:=.agg #[.bool (aj n),.string (bs (nt n.natAbs))]
theorem dI (n:Int):iv (aj n) (nt n.natAbs)=n:=by unfold iv aj;rw[iG];by_cases h:n<0<;>simp[h]<;>omega
theorem su (s:Bool)(n:Nat):iv s (nt n)=if s then-(n:Int)else n:=by unfold iv;rw[iG]
theorem Gl (l:List UInt8)(s:Bool)(w:World):
 Calls Tryz.prog 114 #[.agg #[.bool s,.string (bs l)]] w λe w'=>e=.returned (.agg #[.string (bs l),.bool s])/\Bw w w':=by
 go_enter Tryz.func114,Tryz.ntmps114;have Hb:Hid (Bw w w):=Below.refl _ _;go_wp2;refine bodyPost_ret (v:=.agg #[.string (bs l),.bool s]) (by simp[results,Tryz.results114,go_sem]) rfl ⟨rfl,?_⟩;(repeat first|exact Hb.out| (refine Below.setCell ?_ (by have:=Hb.out.size;first| (dsimp only;omega) | (show _<=_;omega) | (simp<;>omega)) _) | (refine Below.alloc ?_ zt _) |refine Below.drew ?_)
theorem uo (l:List UInt8)(s:Bool)(w:World)(hl:l.length<=1099511627776):
 Calls Tryz.prog 77 #[.agg #[.string (bs l),.bool s]] w λe w'=>e=.returned (bM (iv s l))/\Bw w w':=by
 unfold bM;rw[qo,VQ];have hne:=rG (nt (nv l));generalize hb:(nt (nv l)).isEmpty=b at*;have HB:=af hb;clear hb;cases s
 . go_enter Tryz.func77,Tryz.ntmps77;have Hb:Hid (Bw w w):=Below.refl _ _;go_wp2_with (go_at_call 127;refine(Yj l _ hl).mono ?_;rintro e w1 ⟨rfl,rfl⟩);go_wp2;refine bodyPost_ret (v:=.agg #[.bool false,.string (bs (nt (nv l)))]) (by simp[results,Tryz.results77,go_sem]) rfl ⟨rfl,?_⟩;(repeat first|exact Hb.out| (refine Below.setCell ?_ (by have:=Hb.out.size;first| (dsimp only;omega) | (show _<=_;omega) | (simp<;>omega)) _) | (refine Below.alloc ?_ zt _) |refine Below.drew ?_)
 . go_enter Tryz.func77,Tryz.ntmps77;have Hb:Hid (Bw w w):=Below.refl _ _;go_wp2_with (go_at_call 127;refine(Yj l _ hl).mono ?_;rintro e w1 ⟨rfl,rfl⟩);go_wp2;refine bodyPost_ret (v:=.agg #[.bool !b,.string (bs (nt (nv l)))]) (by simp[results,Tryz.results77,go_sem]) rfl ⟨rfl,?_⟩;(repeat first|exact Hb.out| (refine Below.setCell ?_ (by have:=Hb.out.size;first| (dsimp only;omega) | (show _<=_;omega) | (simp<;>omega)) _) | (refine Below.alloc ?_ zt _) |refine Below.drew ?_)
theorem aiS (l m:List UInt8)(b cap:Nat)(t:TypeId)(w:World)(hl:l.length<=68719476736)(hm:m.length<=68719476736)(ha:ag w b t [.string (bs l),.string (bs m)]):
 Calls Tryz.prog 163 #[.slice (some ⟨b,0,none⟩) 2 cap] w λe w'=>e=.returned (.string (bs (nt (nv l+nv m))))/\Bw w w':=by
 have:=aiR [l,m] (some ⟨b,0,none⟩) cap w (by simp[hl,hm]) zm (At.aqF ha);have e:iD [l,m]=nv l+nv m:=by simp[iD]
 rw[e]at this;exact this
theorem ajO (l m:List UInt8)(s:Bool)(w:World)(hl:l.length<=68719476736)(hm:m.length<=68719476736):
 Calls Tryz.prog 113 #[.agg #[.string (bs l),.bool s],.agg #[.string (bs m),.bool s]] w λe w'=>e=.returned (.agg #[.string (bs (nt (nv l+nv m))),.bool s])/\Bw w w':=by
 go_enter Tryz.func113,Tryz.ntmps113;have Hb:Hid (Bw w w):=Below.refl _ _;go_wp2_with fail;obtain⟨R,hR⟩:∃R:World->Prop,(λW=>ag W (w.heap.size) 112 [.string (bs l),.bool s]/\ag W (w.heap.size+1) 112 [.string (bs m),.bool s]/\ag W (w.heap.size+1+1) 112 [.string (bs []),.bool false]/\Bw w W)=R:=⟨_,rfl⟩;first|refine bB R ?hR ?_|refine bz R ?hR ?_
 case hR=>subst hR;exact⟨(((ag.newAt w _ _ (b:=w.heap.size) rfl).alloc _).alloc _),((ag.newAt (w.alloc _) _ _ (b:=w.heap.size+1) zm).alloc _),(ag.newAt ((w.alloc _).alloc _) _ _ (b:=w.heap.size+1+1) zm),((zl.alloc zj _).alloc zj _)⟩
 subst hR;rintro W ⟨qx,qy,qr,ae⟩;have Hx:=af qx;clear qx;have Hy:=af qy;clear qy;have Hr:=af qr;clear qr;obtain⟨x0,x1⟩:=Hx.out.c2;obtain⟨y0,y1⟩:=Hy.out.c2;obtain⟨r0,ah,r1,ai⟩:=Hr.out.g2;replace Hb:=ak Hb ae;clear ae;have MN:w.heap.size≠w.heap.size+1+1:=by omega
 have WL:w.heap.size+1≠w.heap.size+1+1:=by omega
 go_region_held3 (λw'=>w'.cell? ⟨w.heap.size,0,none⟩=some (.string (bs l))/\w'.cell? ⟨w.heap.size,1,none⟩=some (.bool s)/\w'.cell? ⟨w.heap.size+1,0,none⟩=some (.string (bs m))/\w'.cell? ⟨w.heap.size+1,1,none⟩=some (.bool s)) (((try dsimp only);go_split_ands;(repeat' apply And.intro)<;>(first|exact True.intro|with_reducible assumption| ((with_reducible refine eW zg ?_);(repeat(with_reducible refine eW zg ?_));with_reducible assumption) |exact cell_later (by with_reducible assumption) (by with_reducible assumption) |exact aH (by with_reducible assumption) |go_keep))) (first| (go_at_call 163;(with_reducible refine(aiS l m W.heap.size 2 9 _ hl hm (by first|exact ag.drew (ag.new _ _ _) |exact ag.new _ _ _)).mono ?_);rintro e w1 ⟨rfl,hq⟩;have hw1:Bw W w1:=(by first|exact aK hq|exact hq|exact ow hq|exact ov hq|exact rF hq);clear hq;have jm:=af (Hx.out.below hw1);have wU:w1.cell? ⟨w.heap.size,0,none⟩=some (.string (bs l)):=jm.out.cell 0;have wV:w1.cell? ⟨w.heap.size,1,none⟩=some (.bool s):=jm.out.cell 1;have mW:=af (Hy.out.below hw1);have Cv:w1.cell? ⟨w.heap.size+1,0,none⟩=some (.string (bs m)):=mW.out.cell 0;have Cw:w1.cell? ⟨w.heap.size+1,1,none⟩=some (.bool s):=mW.out.cell 1;have fV:=af (Hr.out.below hw1);have wN:w1.cell? ⟨w.heap.size+1+1,0,none⟩=some (.string (bs [])):=fV.out.cell 0;have vw:w1.frozen? ⟨w.heap.size+1+1,0,none⟩=false:=fV.out.free 0;have wO:w1.cell? ⟨w.heap.size+1+1,1,none⟩=some (.bool false):=fV.out.cell 1;have vz:w1.frozen? ⟨w.heap.size+1+1,1,none⟩=false:=fV.out.free 1))
 replace Hb:=af (aG Hb.out hw1);clear hw1 x0 x1 y0 y1 r0 ah r1 ai;replace Hx:=jm;clear wU wV;replace Hy:=mW;clear Cv Cw;replace Hr:=fV;clear wN vw wO vz;obtain⟨x0,x1⟩:=Hx.out.c2;obtain⟨y0,y1⟩:=Hy.out.c2;obtain⟨r0,ah,r1,ai⟩:=Hr.out.g2;go_wp2;refine bodyPost_ret (v:=.agg #[.string (bs (nt (nv l+nv m))),.bool s]) (by simp[results,Tryz.results113,go_sem,r0,r1]) rfl ⟨rfl,?_⟩;(repeat first|exact Hb.out| (refine Below.setCell ?_ (by have:=Hb.out.size;first| (dsimp only;omega) | (show _<=_;omega) | (simp<;>omega)) _) | (refine Below.alloc ?_ zt _) |refine Below.drew ?_)
theorem Xy (l m:List UInt8)(w:World)(hl:l.length<=68719476736)(hm:m.length<=68719476736):
 Calls Tryz.prog 164 #[.string (bs l),.string (bs m)] w λe w'=>e=.returned (.int .i64 (cJ (nv l) (nv m)))/\Bw w w':=by
 go_enter Tryz.func164,Tryz.ntmps164;have Hb:Hid (Bw w w):=Below.refl _ _;go_wp2_with fail;refine(aiT l m _ hl hm).mono ?_;rintro e w1 ⟨rfl,ae⟩;replace Hb:=ak Hb ae;clear ae;go_wp2;go_ret;exact⟨rfl,Hb.out⟩
theorem ajL (l m:List UInt8)(s:Bool)(w:World)(hl:l.length<=68719476736)(hm:m.length<=68719476736)(h:nv m<=nv l):
 Calls Tryz.prog 113 #[.agg #[.string (bs l),.bool s],.agg #[.string (bs m),.bool (!s)]] w λe w'=>e=.returned (.agg #[.string (bs (nt (nv l-nv m))),.bool s])/\Bw w w':=by
 have hc0:0<=cJ (nv l) (nv m):=by unfold cJ;rw[if_neg zo];split<;>omega
 have hss:(s== !s)=false:=by cases s<;>rfl
 have Hh:=af h;clear h;go_enter Tryz.func113,Tryz.ntmps113;have Hb:Hid (Bw w w):=Below.refl _ _;go_wp2_with fail;obtain⟨R,hR⟩:∃R:World->Prop,(λW=>ag W (w.heap.size) 112 [.string (bs l),.bool s]/\ag W (w.heap.size+1) 112 [.string (bs m),.bool (!s)]/\ag W (w.heap.size+1+1) 112 [.string (bs []),.bool false]/\Bw w W)=R:=⟨_,rfl⟩;first|refine bB R ?hR ?_|refine bz R ?hR ?_
 case hR=>subst hR;exact⟨(((ag.newAt w _ _ (b:=w.heap.size) rfl).alloc _).alloc _),((ag.newAt (w.alloc _) _ _ (b:=w.heap.size+1) zm).alloc _),(ag.newAt ((w.alloc _).alloc _) _ _ (b:=w.heap.size+1+1) zm),((zl.alloc zj _).alloc zj _)⟩
 subst hR;rintro W ⟨qx,qy,qr,ae⟩;have Hx:=af qx;clear qx;have Hy:=af qy;clear qy;have Hr:=af qr;clear qr;obtain⟨x0,x1⟩:=Hx.out.c2;obtain⟨y0,y1⟩:=Hy.out.c2;obtain⟨r0,ah,r1,ai⟩:=Hr.out.g2;replace Hb:=ak Hb ae;clear ae;go_wp2_with fail;refine(Xy l m _ hl hm).mono ?_;rintro e w1 ⟨rfl,ae⟩;clear x0 x1 y0 y1 r0 ah r1 ai;replace Hx:=kB Hx ae;replace Hy:=kB Hy ae;replace Hr:=kB Hr ae;obtain⟨x0,x1⟩:=Hx.out.c2;obtain⟨y0,y1⟩:=Hy.out.c2;obtain⟨r0,ah,r1,ai⟩:=Hr.out.g2;replace Hb:=ak Hb ae;clear ae;go_wp2_with fail;refine(WJ l m _ hl hm Hh.out).mono ?_;rintro e w2 ⟨rfl,ae⟩;clear x0 x1 y0 y1 r0 ah r1 ai;replace Hx:=kB Hx ae;replace Hy:=kB Hy ae;replace Hr:=kB Hr ae;obtain⟨x0,x1⟩:=Hx.out.c2;obtain⟨y0,y1⟩:=Hy.out.c2;obtain⟨r0,ah,r1,ai⟩:=Hr.out.g2;replace Hb:=ak Hb ae;clear ae;go_wp2;refine bodyPost_ret (v:=.agg #[.string (bs (nt (nv l-nv m))),.bool s]) (by simp[results,Tryz.results113,go_sem,r0,r1]) rfl ⟨rfl,?_⟩;(repeat first|exact Hb.out| (refine Below.setCell ?_ (by have:=Hb.out.size;first| (dsimp only;omega) | (show _<=_;omega) | (simp<;>omega)) _) | (refine Below.alloc ?_ zt _) |refine Below.drew ?_)
theorem ajM (l m:List UInt8)(s:Bool)(w:World)(hl:l.length<=68719476736)(hm:m.length<=68719476736)(h:nv l<nv m):
 Calls Tryz.prog 113 #[.agg #[.string (bs l),.bool s],.agg #[.string (bs m),.bool (!s)]] w λe w'=>e=.returned (.agg #[.string (bs (nt (nv m-nv l))),.bool (!s)])/\Bw w w':=by
 have hc0:cJ (nv l) (nv m)<0:=by unfold cJ;rw[if_pos h];omega
 have hss:(s== !s)=false:=by cases s<;>rfl
 have Hh:=af (Nat.le_of_lt h);clear h;go_enter Tryz.func113,Tryz.ntmps113;have Hb:Hid (Bw w w):=Below.refl _ _;go_wp2_with fail;obtain⟨R,hR⟩:∃R:World->Prop,(λW=>ag W (w.heap.size) 112 [.string (bs l),.bool s]/\ag W (w.heap.size+1) 112 [.string (bs m),.bool (!s)]/\ag W (w.heap.size+1+1) 112 [.string (bs []),.bool false]/\Bw w W)=R:=⟨_,rfl⟩;first|refine bB R ?hR ?_|refine bz R ?hR ?_
 case hR=>subst hR;exact⟨(((ag.newAt w _ _ (b:=w.heap.size) rfl).alloc _).alloc _),((ag.newAt (w.alloc _) _ _ (b:=w.heap.size+1) zm).alloc _),(ag.newAt ((w.alloc _).alloc _) _ _ (b:=w.heap.size+1+1) zm),((zl.alloc zj _).alloc zj _)⟩
 subst hR;rintro W ⟨qx,qy,qr,ae⟩;have Hx:=af qx;clear qx;have Hy:=af qy;clear qy;have Hr:=af qr;clear qr;obtain⟨x0,cu,x1,cw⟩:=Hx.out.g2;obtain⟨y0,bN,y1,bO⟩:=Hy.out.g2;obtain⟨r0,ah,r1,ai⟩:=Hr.out.g2;replace Hb:=ak Hb ae;clear ae;go_wp2_with fail;refine(Xy l m _ hl hm).mono ?_;rintro e w1 ⟨rfl,ae⟩;clear x0 cu x1 cw y0 bN y1 bO r0 ah r1 ai;replace Hx:=kB Hx ae;replace Hy:=kB Hy ae;replace Hr:=kB Hr ae;obtain⟨x0,cu,x1,cw⟩:=Hx.out.g2;obtain⟨y0,bN,y1,bO⟩:=Hy.out.g2;obtain⟨r0,ah,r1,ai⟩:=Hr.out.g2;replace Hb:=ak Hb ae;clear ae;go_wp2_with fail;clear x0 cu x1 cw y0 bN y1 bO r0 ah r1 ai;obtain⟨R,hR⟩:∃R:World->Prop,(λw2=>ag w2 (w.heap.size) 112 [.string (bs m),.bool (!s)]/\ag w2 (w.heap.size+1) 112 [.string (bs l),.bool s]/\ag w2 (w.heap.size+1+1) 112 [.string (bs []),.bool false]/\Bw w w2)=R:=⟨_,rfl⟩;first|refine bB R ?hR ?_|refine bz R ?hR ?_
 case hR=>subst hR;exact⟨((((Hx.out.set 0 _).set 1 _).so (w.heap.size+1) 0 zo _).so (w.heap.size+1) 1 zo _),((((Hy.out.so (w.heap.size) 0 zo _).so (w.heap.size) 1 zo _).set 0 _).set 1 _),((((Hr.out.so (w.heap.size) 0 zo _).so (w.heap.size) 1 zo _).so (w.heap.size+1) 0 zo _).so (w.heap.size+1) 1 zo _),((((Hb.out.sc (w.heap.size) 0 ZS _).sc (w.heap.size) 1 ZS _).sc (w.heap.size+1) 0 ZS _).sc (w.heap.size+1) 1 ZS _)⟩
 subst hR;rintro w2 ⟨qx,qy,qr,ae⟩;replace Hx:=af qx;clear qx;replace Hy:=af qy;clear qy;replace Hr:=af qr;clear qr;obtain⟨x0,cu,x1,cw⟩:=Hx.out.g2;obtain⟨y0,bN,y1,bO⟩:=Hy.out.g2;obtain⟨r0,ah,r1,ai⟩:=Hr.out.g2;replace Hb:=af ae;clear ae;go_wp2_with fail;refine(WJ m l _ hm hl Hh.out).mono ?_;rintro e w3 ⟨rfl,ae⟩;clear x0 cu x1 cw y0 bN y1 bO r0 ah r1 ai;replace Hx:=kB Hx ae;replace Hy:=kB Hy ae;replace Hr:=kB Hr ae;obtain⟨x0,cu,x1,cw⟩:=Hx.out.g2;obtain⟨y0,bN,y1,bO⟩:=Hy.out.g2;obtain⟨r0,ah,r1,ai⟩:=Hr.out.g2;replace Hb:=ak Hb ae;clear ae;go_wp2;refine bodyPost_ret (v:=.agg #[.string (bs (nt (nv m-nv l))),.bool (!s)]) (by simp[results,Tryz.results113,go_sem,r0,r1]) rfl ⟨rfl,?_⟩;(repeat first|exact Hb.out| (refine Below.setCell ?_ (by have:=Hb.out.size;first| (dsimp only;omega) | (show _<=_;omega) | (simp<;>omega)) _) | (refine Below.alloc ?_ zt _) |refine Below.drew ?_)
def sI (s:Bool)(l:List UInt8)(t:Bool)(m:List UInt8):Bool:=if s==t then s else if nv l<nv m then t else s
theorem ajT (s:Bool)(l:List UInt8)(t:Bool)(m:List UInt8):iv (sI s l t m) (nt (iv s l+iv t m).natAbs)=iv s l+iv t m:=by unfold sI iv;rw[iG];cases s<;>cases t<;>simp<;>(try split)<;>omega
theorem ajK (l m:List UInt8)(s t:Bool)(w:World)(hl:l.length<=68719476736)(hm:m.length<=68719476736):
 Calls Tryz.prog 113 #[.agg #[.string (bs l),.bool s],.agg #[.string (bs m),.bool t]] w λe w'=>e=.returned (.agg #[.string (bs (nt (iv s l+iv t m).natAbs)),.bool (sI s l t m)])/\Bw w w':=by
 by_cases hst:s=t
 . subst hst;have e:(iv s l+iv s m).natAbs=nv l+nv m:=by unfold iv;split<;>omega
   rw[e,show sI s l s m=s by simp[sI]];exact ajO l m s w hl hm
 . obtain rfl:t= !s:=by cases s<;>cases t<;>simp_all
   by_cases h:nv l<nv m
   . have e:(iv s l+iv (!s) m).natAbs=nv m-nv l:=by unfold iv;cases s<;>simp<;>omega
     rw[e,show sI s l (!s) m= !s by cases s<;>simp[sI,h]];exact ajM l m s w hl hm h
   . have e:(iv s l+iv (!s) m).natAbs=nv l-nv m:=by unfold iv;cases s<;>simp<;>omega
     rw[e,show sI s l (!s) m=s by cases s<;>simp[sI,h]];exact ajL l m s w hl hm zo
theorem alj (l m:List UInt8)(s t:Bool)(w:World)(hl:l.length<=68719476736)(hm:m.length<=68719476736):
 Calls Tryz.prog 136 #[.agg #[.string (bs l),.bool s],.agg #[.string (bs m),.bool t]] w λe w'=>e=.returned (.agg #[.string (bs (nt (nv l*nv m))),.bool (!(s==t))])/\Bw w w':=by
 go_enter Tryz.func136,Tryz.ntmps136;have Hb:Hid (Bw w w):=Below.refl _ _;go_wp2_with fail;obtain⟨R,hR⟩:∃R:World->Prop,(λW=>ag W (w.heap.size) 112 [.string (bs l),.bool s]/\ag W (w.heap.size+1) 112 [.string (bs m),.bool t]/\ag W (w.heap.size+1+1) 112 [.string (bs []),.bool false]/\Bw w W)=R:=⟨_,rfl⟩;first|refine bB R ?hR ?_|refine bz R ?hR ?_
 case hR=>subst hR;exact⟨(((ag.newAt w _ _ (b:=w.heap.size) rfl).alloc _).alloc _),((ag.newAt (w.alloc _) _ _ (b:=w.heap.size+1) zm).alloc _),(ag.newAt ((w.alloc _).alloc _) _ _ (b:=w.heap.size+1+1) zm),((zl.alloc zj _).alloc zj _)⟩
 subst hR;rintro W ⟨qx,qy,qr,ae⟩;have Hx:=af qx;clear qx;have Hy:=af qy;clear qy;have Hr:=af qr;clear qr;obtain⟨x0,x1⟩:=Hx.out.c2;obtain⟨y0,y1⟩:=Hy.out.c2;obtain⟨r0,ah,r1,ai⟩:=Hr.out.g2;replace Hb:=ak Hb ae;clear ae;have MN:w.heap.size≠w.heap.size+1+1:=by omega
 have WL:w.heap.size+1≠w.heap.size+1+1:=by omega
 go_region_held3 (λw'=>w'.cell? ⟨w.heap.size,0,none⟩=some (.string (bs l))/\w'.cell? ⟨w.heap.size,1,none⟩=some (.bool s)/\w'.cell? ⟨w.heap.size+1,0,none⟩=some (.string (bs m))/\w'.cell? ⟨w.heap.size+1,1,none⟩=some (.bool t)) (((try dsimp only);go_split_ands;(repeat' apply And.intro)<;>(first|exact True.intro|with_reducible assumption| ((with_reducible refine eW zg ?_);(repeat(with_reducible refine eW zg ?_));with_reducible assumption) |exact cell_later (by with_reducible assumption) (by with_reducible assumption) |exact aH (by with_reducible assumption) |go_keep))) (first| (go_at_call 177;(with_reducible refine(aiX l m _ hl hm).mono ?_);rintro e w1 ⟨rfl,hq⟩;have hw1:Bw W w1:=(by first|exact aK hq|exact hq|exact ow hq|exact ov hq|exact rF hq);clear hq;have jm:=af (Hx.out.below hw1);have wU:w1.cell? ⟨w.heap.size,0,none⟩=some (.string (bs l)):=jm.out.cell 0;have wV:w1.cell? ⟨w.heap.size,1,none⟩=some (.bool s):=jm.out.cell 1;have mW:=af (Hy.out.below hw1);have Cv:w1.cell? ⟨w.heap.size+1,0,none⟩=some (.string (bs m)):=mW.out.cell 0;have Cw:w1.cell? ⟨w.heap.size+1,1,none⟩=some (.bool t):=mW.out.cell 1;have fV:=af (Hr.out.below hw1);have wN:w1.cell? ⟨w.heap.size+1+1,0,none⟩=some (.string (bs [])):=fV.out.cell 0;have vw:w1.frozen? ⟨w.heap.size+1+1,0,none⟩=false:=fV.out.free 0;have wO:w1.cell? ⟨w.heap.size+1+1,1,none⟩=some (.bool false):=fV.out.cell 1;have vz:w1.frozen? ⟨w.heap.size+1+1,1,none⟩=false:=fV.out.free 1))
 replace Hb:=af (aG Hb.out hw1);clear hw1 x0 x1 y0 y1 r0 ah r1 ai;replace Hx:=jm;clear wU wV;replace Hy:=mW;clear Cv Cw;replace Hr:=fV;clear wN vw wO vz;obtain⟨x0,x1⟩:=Hx.out.c2;obtain⟨y0,y1⟩:=Hy.out.c2;obtain⟨r0,ah,r1,ai⟩:=Hr.out.g2;go_wp2;refine bodyPost_ret (v:=.agg #[.string (bs (nt (nv l*nv m))),.bool (!(s==t))]) (by simp[results,Tryz.results136,go_sem,r0,r1]) rfl ⟨rfl,?_⟩;(repeat first|exact Hb.out| (refine Below.setCell ?_ (by have:=Hb.out.size;first| (dsimp only;omega) | (show _<=_;omega) | (simp<;>omega)) _) | (refine Below.alloc ?_ zt _) |refine Below.drew ?_)
theorem ahp (s:Bool)(l:List UInt8)(t:Bool)(m:List UInt8):iv (!(s==t)) (nt (nv l*nv m))=iv s l*iv t m:=by unfold iv;rw[iG];cases s<;>cases t<;>simp[Int.natCast_mul,Int.neg_mul,Int.mul_neg]
theorem NS (n:Int)(w:World)(h0: -9223372036854775808<=n)(h1:n<=9223372036854775807):
 Calls Tryz.prog 36 #[.int .i64 n] w λe w'=>e=.returned (bM n)/\Bw w w':=by
 have hb:n.natAbs<WW:=by rw[il];omega
 have hlen:(nt n.natAbs).length<=8:=lL (by rw[il]at hb;omega);have CJ:=af hb;clear hb;by_cases hn:n<0
 . have rR:IntKind.u64.wrap (-(IntKind.u64.wrap n))=(n.natAbs:Int):=by simp only[IntKind.wrap_u64];omega
   have kU:Hid (iv true (nt n.natAbs)=n):=by show iv _ _=_;unfold iv;rw[iG];simp;omega
   go_enter Tryz.func36,Tryz.ntmps36;have Hb:Hid (Bw w w):=Below.refl _ _;go_wp2_with fail;obtain⟨R,hR⟩:∃R:World->Prop,(λW=>ag W (w.heap.size) 32 [.bool false,.string (bs [])]/\Bw w W)=R:=⟨_,rfl⟩;first|refine bB R ?hR ?_|refine bz R ?hR ?_
   case hR=>subst hR;exact⟨(ag.newAt w _ _ (b:=w.heap.size) rfl),zl⟩
   subst hR;rintro W ⟨qr,ae⟩;have Hr:=af qr;clear qr;obtain⟨r0,ah,r1,ai⟩:=Hr.out.g2;replace Hb:=ak Hb ae;clear ae;go_wp2_with fail;refine(WI n.natAbs CJ.out _).mono ?_;rintro e w1 ⟨rfl,ae⟩;clear r0 ah r1 ai;replace Hr:=kB Hr ae;obtain⟨r0,ah,r1,ai⟩:=Hr.out.g2;replace Hb:=ak Hb ae;clear ae;go_wp2_with fail;refine(uo (nt n.natAbs) true _ zo).mono ?_;rintro e w2 ⟨rfl,ae⟩;clear r0 ah r1 ai;replace Hr:=kB Hr ae;obtain⟨r0,ah,r1,ai⟩:=Hr.out.g2;replace Hb:=ak Hb ae;clear ae;rw[kU.out];go_wp2;refine bodyPost_ret (v:=bM n) (by simp[results,Tryz.results36,go_sem,r0,r1]) rfl ⟨rfl,?_⟩;(repeat first|exact Hb.out| (refine Below.setCell ?_ (by have:=Hb.out.size;first| (dsimp only;omega) | (show _<=_;omega) | (simp<;>omega)) _) | (refine Below.alloc ?_ zt _) |refine Below.drew ?_)
 . have rR:IntKind.u64.wrap n=(n.natAbs:Int):=by simp only[IntKind.wrap_u64];omega
   have kU:Hid (iv false (nt n.natAbs)=n):=by show iv _ _=_;unfold iv;rw[iG];simp;omega
   go_enter Tryz.func36,Tryz.ntmps36;have Hb:Hid (Bw w w):=Below.refl _ _;go_wp2_with fail;obtain⟨R,hR⟩:∃R:World->Prop,(λW=>ag W (w.heap.size) 32 [.bool false,.string (bs [])]/\Bw w W)=R:=⟨_,rfl⟩;first|refine bB R ?hR ?_|refine bz R ?hR ?_
   case hR=>subst hR;exact⟨(ag.newAt w _ _ (b:=w.heap.size) rfl),zl⟩
   subst hR;rintro W ⟨qr,ae⟩;have Hr:=af qr;clear qr;obtain⟨r0,ah,r1,ai⟩:=Hr.out.g2;replace Hb:=ak Hb ae;clear ae;go_wp2_with fail;refine(WI n.natAbs CJ.out _).mono ?_;rintro e w1 ⟨rfl,ae⟩;clear r0 ah r1 ai;replace Hr:=kB Hr ae;obtain⟨r0,ah,r1,ai⟩:=Hr.out.g2;replace Hb:=ak Hb ae;clear ae;go_wp2_with fail;refine(uo (nt n.natAbs) false _ zo).mono ?_;rintro e w2 ⟨rfl,ae⟩;clear r0 ah r1 ai;replace Hr:=kB Hr ae;obtain⟨r0,ah,r1,ai⟩:=Hr.out.g2;replace Hb:=ak Hb ae;clear ae;rw[kU.out];go_wp2;refine bodyPost_ret (v:=bM n) (by simp[results,Tryz.results36,go_sem,r0,r1]) rfl ⟨rfl,?_⟩;(repeat first|exact Hb.out| (refine Below.setCell ?_ (by have:=Hb.out.size;first| (dsimp only;omega) | (show _<=_;omega) | (simp<;>omega)) _) | (refine Below.alloc ?_ zt _) |refine Below.drew ?_)
theorem wR (s:Bool)(l:List UInt8)(w:World)(hl:l.length<=1099511627776):
 Calls Tryz.prog 115 #[.agg #[.bool s,.string (bs l)]] w λe w'=>e=.returned (bM (iv s l))/\Bw w w':=by
 go_enter Tryz.func115,Tryz.ntmps115;have Hb:Hid (Bw w w):=Below.refl _ _;go_wp2_with fail;obtain⟨R,hR⟩:∃R:World->Prop,(λW=>ag W (w.heap.size) 32 [.bool s,.string (bs l)]/\ag W (w.heap.size+1) 32 [.bool false,.string (bs [])]/\Bw w W)=R:=⟨_,rfl⟩;first|refine bB R ?hR ?_|refine bz R ?hR ?_
 case hR=>subst hR;exact⟨((ag.newAt w _ _ (b:=w.heap.size) rfl).alloc _),(ag.newAt (w.alloc _) _ _ (b:=w.heap.size+1) zm),(zl.alloc zj _)⟩
 subst hR;rintro W ⟨qx,qr,ae⟩;have Hx:=af qx;clear qx;have Hr:=af qr;clear qr;obtain⟨x0,x1⟩:=Hx.out.c2;obtain⟨r0,ah,r1,ai⟩:=Hr.out.g2;replace Hb:=ak Hb ae;clear ae;go_wp2_with fail;refine(Gl l s _).mono ?_;rintro e w1 ⟨rfl,ae⟩;clear x0 x1 r0 ah r1 ai;replace Hx:=kB Hx ae;replace Hr:=kB Hr ae;obtain⟨x0,x1⟩:=Hx.out.c2;obtain⟨r0,ah,r1,ai⟩:=Hr.out.g2;replace Hb:=ak Hb ae;clear ae;go_wp2_with fail;refine(uo l s _ hl).mono ?_;rintro e w2 ⟨rfl,ae⟩;clear x0 x1 r0 ah r1 ai;replace Hx:=kB Hx ae;replace Hr:=kB Hr ae;obtain⟨x0,x1⟩:=Hx.out.c2;obtain⟨r0,ah,r1,ai⟩:=Hr.out.g2;replace Hb:=ak Hb ae;clear ae;go_wp2;refine bodyPost_ret (v:=bM (iv s l)) (by simp[results,Tryz.results115,go_sem,r0,r1]) rfl ⟨rfl,?_⟩;(repeat first|exact Hb.out| (refine Below.setCell ?_ (by have:=Hb.out.size;first| (dsimp only;omega) | (show _<=_;omega) | (simp<;>omega)) _) | (refine Below.alloc ?_ zt _) |refine Below.drew ?_)
def dO (n:Int):Int:=if n<0 then-1 else if n=0 then 0 else 1
theorem Cs (s:Bool)(l:List UInt8)(w:World)(hl:l.length<=1099511627776):
 Calls Tryz.prog 69 #[.agg #[.bool s,.string (bs l)]] w λe w'=>e=.returned (.int .i64 (dO (iv s l)))/\Bw w w':=by
 have hne:=rG (nt (iv s l).natAbs);by_cases hneg:iv s l<0
 . have hs:aj (iv s l)=true:=by simp[aj,hneg]
   have fg:Hid (dO (iv s l)= -1):=by show dO _=_;simp[dO,hneg]
   clear hneg hne;go_enter Tryz.func69,Tryz.ntmps69;have Hb:Hid (Bw w w):=Below.refl _ _;go_wp2_with fail;obtain⟨R,hR⟩:∃R:World->Prop,(λW=>ag W (w.heap.size) 32 [.bool s,.string (bs l)]/\Bw w W)=R:=⟨_,rfl⟩;first|refine bB R ?hR ?_|refine bz R ?hR ?_
   case hR=>subst hR;exact⟨(ag.newAt w _ _ (b:=w.heap.size) rfl),zl⟩
   subst hR;rintro W ⟨qx,ae⟩;have Hx:=af qx;clear qx;obtain⟨x0,x1⟩:=Hx.out.c2;replace Hb:=ak Hb ae;clear ae;go_wp2_with fail;refine(wR s l _ hl).mono ?_;rintro e w1 ⟨rfl,ae⟩;clear x0 x1;replace Hx:=kB Hx ae;obtain⟨x0,x1⟩:=Hx.out.c2;replace Hb:=ak Hb ae;clear ae;go_wp2;go_ret;rw[fg.out];refine⟨rfl,?_⟩;exact Hb.out.alloc Hb.out.size _
 . have hs:aj (iv s l)=false:=by simp[aj,hneg]
   by_cases hz:iv s l=0
   . have fg:Hid (dO (iv s l)=0):=by show dO _=_;simp[dO,hz]
     have agK:(bs (nt (iv s l).natAbs)).toList.isEmpty=true:=by rw[hne,hz];rfl
     clear hneg hne hz;go_enter Tryz.func69,Tryz.ntmps69;have Hb:Hid (Bw w w):=Below.refl _ _;go_wp2_with fail;obtain⟨R,hR⟩:∃R:World->Prop,(λW=>ag W (w.heap.size) 32 [.bool s,.string (bs l)]/\Bw w W)=R:=⟨_,rfl⟩;first|refine bB R ?hR ?_|refine bz R ?hR ?_
     case hR=>subst hR;exact⟨(ag.newAt w _ _ (b:=w.heap.size) rfl),zl⟩
     subst hR;rintro W ⟨qx,ae⟩;have Hx:=af qx;clear qx;obtain⟨x0,x1⟩:=Hx.out.c2;replace Hb:=ak Hb ae;clear ae;go_wp2_with fail;refine(wR s l _ hl).mono ?_;rintro e w1 ⟨rfl,ae⟩;clear x0 x1;replace Hx:=kB Hx ae;obtain⟨x0,x1⟩:=Hx.out.c2;replace Hb:=ak Hb ae;clear ae;go_wp2;go_ret;rw[fg.out];refine⟨rfl,?_⟩;exact Hb.out.alloc Hb.out.size _
   . have fg:Hid (dO (iv s l)=1):=by show dO _=_;simp[dO,hz,hneg]
     have agK:(bs (nt (iv s l).natAbs)).toList.isEmpty=false:=by
      rw[hne];cases hq:nt (iv s l).natAbs with
      |nil=>rw[MO]at hq;omega
      |cons a b=>rfl
     clear hneg hne hz;go_enter Tryz.func69,Tryz.ntmps69;have Hb:Hid (Bw w w):=Below.refl _ _;go_wp2_with fail;obtain⟨R,hR⟩:∃R:World->Prop,(λW=>ag W (w.heap.size) 32 [.bool s,.string (bs l)]/\Bw w W)=R:=⟨_,rfl⟩;first|refine bB R ?hR ?_|refine bz R ?hR ?_
     case hR=>subst hR;exact⟨(ag.newAt w _ _ (b:=w.heap.size) rfl),zl⟩
     subst hR;rintro W ⟨qx,ae⟩;have Hx:=af qx;clear qx;obtain⟨x0,x1⟩:=Hx.out.c2;replace Hb:=ak Hb ae;clear ae;go_wp2_with fail;refine(wR s l _ hl).mono ?_;rintro e w1 ⟨rfl,ae⟩;clear x0 x1;replace Hx:=kB Hx ae;obtain⟨x0,x1⟩:=Hx.out.c2;replace Hb:=ak Hb ae;clear ae;go_wp2;go_ret;rw[fg.out];refine⟨rfl,?_⟩;exact Hb.out.alloc Hb.out.size _
theorem ahq (s:Bool)(l:List UInt8):iv (!s) l= -(iv s l):=by unfold iv;cases s<;>simp
theorem Yz (s:Bool)(l:List UInt8)(w:World)(hl:l.length<=1099511627776):
 Calls Tryz.prog 78 #[.agg #[.bool s,.string (bs l)]] w λe w'=>e=.returned (bM (-(iv s l)))/\Bw w w':=by
 rw[<-ahq];go_enter Tryz.func78,Tryz.ntmps78;have Hb:Hid (Bw w w):=Below.refl _ _;go_wp2_with fail;obtain⟨R,hR⟩:∃R:World->Prop,(λW=>ag W (w.heap.size) 32 [.bool s,.string (bs l)]/\ag W (w.heap.size+1) 32 [.bool false,.string (bs [])]/\Bw w W)=R:=⟨_,rfl⟩;first|refine bB R ?hR ?_|refine bz R ?hR ?_
 case hR=>subst hR;exact⟨((ag.newAt w _ _ (b:=w.heap.size) rfl).alloc _),(ag.newAt (w.alloc _) _ _ (b:=w.heap.size+1) zm),(zl.alloc zj _)⟩
 subst hR;rintro W ⟨qx,qr,ae⟩;have Hx:=af qx;clear qx;have Hr:=af qr;clear qr;obtain⟨x0,x1⟩:=Hx.out.c2;obtain⟨r0,ah,r1,ai⟩:=Hr.out.g2;replace Hb:=ak Hb ae;clear ae;go_wp2_with fail;refine(uo l (!s) _ hl).mono ?_;rintro e w1 ⟨rfl,ae⟩;clear x0 x1 r0 ah r1 ai;replace Hx:=kB Hx ae;replace Hr:=kB Hr ae;obtain⟨x0,x1⟩:=Hx.out.c2;obtain⟨r0,ah,r1,ai⟩:=Hr.out.g2;replace Hb:=ak Hb ae;clear ae;go_wp2;refine bodyPost_ret (v:=bM (iv (!s) l)) (by simp[results,Tryz.results78,go_sem,r0,r1]) rfl ⟨rfl,?_⟩;(repeat first|exact Hb.out| (refine Below.setCell ?_ (by have:=Hb.out.size;first| (dsimp only;omega) | (show _<=_;omega) | (simp<;>omega)) _) | (refine Below.alloc ?_ zt _) |refine Below.drew ?_)
def EX (x:Bool×List UInt8):List Value:=[.bool x.1,.string (bs x.2)]
def jB (xs:List (Bool×List UInt8)):Int:=(xs.map λx=>iv x.1 x.2).sum
theorem aho (xs:List (Bool×List UInt8))(k:Nat)(hk:k<xs.length):jB (xs.take (k+1))=jB (xs.take k)+iv xs[k].1 xs[k].2:=by unfold jB;rw[List.take_succ_eq_append_getElem hk,List.map_append,List.sum_append];simp
theorem ahn (xs:List (Bool×List UInt8))(B:Nat)(h:∀x∈xs,x.2.length<=B):(jB xs).natAbs<=xs.length*256^B:=by
 unfold jB;induction xs with
 |nil=>simp
 |cons x xs ih=>have h1:=iF x.2;have h2:256^x.2.length<=256^B:=Nat.pow_le_pow_right zd (h x zm);have h3:=ih (λm hm=>h m (by simp[hm]));have h4:=qo x.1 x.2;simp only[List.map_cons,List.sum_cons,List.length_cons];rw[Nat.add_mul,Nat.one_mul];omega
theorem ahm (xs:List (Bool×List UInt8))(B N:Nat)(h:∀x∈xs,x.2.length<=B)(hx:xs.length<=1048576)(hN:B+3<=N):(nt (jB xs).natAbs).length<=N:=by refine lL (Nat.lt_of_le_of_lt (ahn xs _ h) ?_);refine Nat.lt_of_le_of_lt (Nat.mul_le_mul_right _ hx) ?_;rw[show(1048576:Nat) *256^B=2^20*256^B from rfl,show(256:Nat)=2^8 from rfl,<-Nat.pow_mul,<-Nat.pow_mul,<-Nat.pow_add];exact Nat.pow_lt_pow_right zd zo
theorem ahl (xs:List (Bool×List UInt8))(h:∀x∈xs,x.2.length<=34359738368)(hx:xs.length<=1048576):(nt (jB xs).natAbs).length<=68719476736:=
 ahm xs 34359738368 68719476736 h hx zd
theorem alI (xs:List (Bool×List UInt8))(a:Option Addr)(cap:Nat)(w:World)(hl:∀x∈xs,x.2.length<=34359738368)(hx:xs.length<=1048576)
 (ha:At w a (xs.flatMap EX)):
 Calls Tryz.prog 68 #[.slice a xs.length cap] w λe w'=>e=.returned (bM (jB xs))/\Bw w w':=by
 have Hl:=af hl;clear hl;have Ha:=af ha;clear ha;have yU:Hid (∀k,(nt (jB (xs.take k)).natAbs).length<=68719476736):=λk=>ahl _ (λx hm=>Hl.out x (List.mem_of_mem_take hm)) (by rw[List.length_take];omega);go_enter Tryz.func68,Tryz.ntmps68;have Hb:Hid (Bw w w):=Below.refl _ _;go_wp2_with fail;obtain⟨R,hR⟩:∃R:World->Prop,(λW=>ag W (w.heap.size) 32 [.bool false,.string (bs [])]/\ag W (w.heap.size+1) 112 [.string (bs []),.bool false]/\Bw w W)=R:=⟨_,rfl⟩;first|refine bB R ?hR ?_|refine bz R ?hR ?_
 case hR=>subst hR;exact⟨((ag.newAt w _ _ (b:=w.heap.size) rfl).alloc _),(ag.newAt (w.alloc _) _ _ (b:=w.heap.size+1) zm),(zl.alloc zj _)⟩
 subst hR;rintro W ⟨qr,qs,ae⟩;have Hr:=af qr;clear qr;have Hs:=af qs;clear qs;obtain⟨r0,ah,r1,ai⟩:=Hr.out.g2;obtain⟨s0,aO,s1,aP⟩:=Hs.out.g2;replace Hb:=ak Hb ae;clear ae
 go_loopw[5,8] (λ_ i wr=>∃(k:Nat) (t:Bool),k<=xs.length/\i=.int .i64 k/\iv t (nt (jB (xs.take k)).natAbs)=jB (xs.take k)/\ag wr w.heap.size 32 [.bool false,.string (bs [])]/\
  ag wr (w.heap.size+1) 112 [.string (bs (nt (jB (xs.take k)).natAbs)),.bool t]/\Bw w wr) (λ_ i _=>xs.length-(intOf i).toNat)
 case atStart=>exact⟨0,false,Nat.zero_le _,rfl,rfl,Hr.out,Hs.out,Hb.out⟩
 case round=>
  obtain⟨k,t,hk,rfl,pZ,qr,qs,hb⟩:=hrel;obtain⟨Hr,Hs,Hb,kU⟩:=dt qr qs hb pZ;clear qr qs hb pZ;by_cases hlt:k<xs.length
  . obtain⟨b,o,hab,hcs⟩:=(Ha.out.below Hb.out).elem (f:=EX) (sz:=2) (λ_=>rfl) zd k hlt;have hc0:wr.cell? ⟨b,o+k*2,none⟩=some (.bool xs[k].1):=hcs 0 zd;have hc1:wr.cell? ⟨b,o+k*2+1,none⟩=some (.string (bs xs[k].2)):=hcs 1 zd;have aX:=se xs.length cap k (k:Int) hab hlt rfl;have bR:=af (aho xs k hlt);have kO:Hid (xs[k].2.length<=34359738368):=Hl.out _ (List.getElem_mem hlt);have iW:=af (yU.out k);clear hcs hab;generalize xs[k]=x at*;obtain⟨t1,l1⟩:=x;generalize hS:jB (xs.take k)=S at*;have HS:=af hS;clear hS;obtain⟨r0,ah,r1,ai⟩:=Hr.out.g2;obtain⟨s0,aO,s1,aP⟩:=Hs.out.g2;have Fh:=Hr.out.lt;have MH:=Hs.out.lt;go_wp2_with fail;obtain⟨R,hR⟩:∃R:World->Prop,(λW1=>ag W1 (wr.heap.size) 32 [.bool t1,.string (bs l1)]/\Bw wr W1)=R:=⟨_,rfl⟩;first|refine bB R ?hR ?_|refine bz R ?hR ?_
    case hR=>subst hR;exact⟨(ag.newAt wr _ _ (b:=wr.heap.size) rfl),zl⟩
    subst hR;rintro W1 ⟨qa,ae⟩;have Ha:=af qa;clear qa r0 ah r1 ai;replace Hr:=kB Hr ae;obtain⟨r0,ah,r1,ai⟩:=Hr.out.g2;clear s0 aO s1 aP;replace Hs:=kB Hs ae;obtain⟨s0,aO,s1,aP⟩:=Hs.out.g2;obtain⟨a0,a1⟩:=Ha.out.c2;replace Hb:=ak Hb ae;clear ae;go_region_with (first| (go_at_call 114;refine(Gl l1 t1 _).mono ?_;rintro e w1 ⟨rfl,hq⟩;have hw1:Bw W1 w1:=aK hq;clear hq;have Nr:w1.cell? ⟨w.heap.size+1,0,none⟩=some (.string (bs (nt S.natAbs))):=cell_later hw1 s0;have Nt:w1.cell? ⟨w.heap.size+1,1,none⟩=some (.bool t):=cell_later hw1 s1;have afx:=(Hs.out.below hw1).free 0;have afz:=(Hs.out.below hw1).free 1) | (go_at_call 113;refine(ajK (nt S.natAbs) l1 t t1 _ iW.out (by have:=kO.out;omega)).mono ?_;rintro e w2 ⟨rfl,hw2⟩;have akj:=cell_later hw2 Nr;have akm:=cell_later hw2 Nt;have afy:=((Hs.out.below hw1).below hw2).free 0;have afA:=((Hs.out.below hw1).below hw2).free 1))
    all_goals
     go_wp2
     go_roundw
     case rel=>have hq:=ajT t (nt S.natAbs) t1 l1;rw[kU.out,<-bR.out]at hq;rw[kU.out,<-bR.out];refine⟨k+1,_,by omega,by go_num,hq,((((Hr.out.below hw1).below hw2).aqG ⟨w.heap.size+1,0,none⟩ zp _).aqG ⟨w.heap.size+1,1,none⟩ zp _),((((Hs.out.below hw1).below hw2).set 0 _).set 1 _),?_⟩;exact((aG (aG Hb.out hw1) hw2).setCell zp _).setCell zp _
     case measure=>simp[intOf];omega
  . obtain rfl:k=xs.length:=by omega
    rw[List.take_length]at Hs kU;have iW:=yU.out xs.length;rw[List.take_length]at iW;obtain⟨r0,ah,r1,ai⟩:=Hr.out.g2;obtain⟨s0,aO,s1,aP⟩:=Hs.out.g2;go_wp2_with fail;refine(uo (nt (jB xs).natAbs) t _ zo).mono ?_;rintro e w1 ⟨rfl,ae⟩;clear r0 ah r1 ai s0 aO s1 aP;replace Hr:=kB Hr ae;replace Hs:=kB Hs ae;obtain⟨r0,ah,r1,ai⟩:=Hr.out.g2;obtain⟨s0,aO,s1,aP⟩:=Hs.out.g2;replace Hb:=ak Hb ae;clear ae;rw[kU.out];go_wp2;refine bodyPost_ret (v:=bM (jB xs)) (by simp[results,Tryz.results68,go_sem,r0,r1]) rfl ⟨rfl,?_⟩;(repeat first|exact Hb.out| (refine Below.setCell ?_ (by have:=Hb.out.size;first| (dsimp only;omega) | (show _<=_;omega) | (simp<;>omega)) _) | (refine Below.alloc ?_ zt _) |refine Below.drew ?_)
end Go.Proofs.YtoopepmmepmfnaaGreatDoor
namespace Go.Proofs.YtoopepmmepmfnaaGreatDoor
theorem yH (n k:Int):(Dyadic.ofIntWithPrec n k).toRat=n*2^(-k):=Dyadic.toRat_ofIntWithPrec_eq_mul_two_pow
theorem aj0 :((2:Rat))≠0:=by decide
theorem uA (a b k:Int):Dyadic.ofIntWithPrec a k+Dyadic.ofIntWithPrec b k=Dyadic.ofIntWithPrec (a+b) k:=by rw[<-Dyadic.toRat_inj,Dyadic.toRat_add,yH,yH,yH,Rat.intCast_add,Rat.add_mul]
theorem qN (a b j k:Int):Dyadic.ofIntWithPrec a j*Dyadic.ofIntWithPrec b k=Dyadic.ofIntWithPrec (a*b) (j+k):=by rw[<-Dyadic.toRat_inj,Dyadic.toRat_mul,yH,yH,yH,Rat.intCast_mul,Int.neg_add,Rat.zpow_add aj0];grind
theorem mG (a:Int)(n:Nat)(k:Int):Dyadic.ofIntWithPrec (a*2^n) (k+n)=Dyadic.ofIntWithPrec a k:=by have:=@Dyadic.ofIntWithPrec_shiftLeft_add a k n;rwa [Int.shiftLeft_eq]at this
theorem FJ (a k:Int): -Dyadic.ofIntWithPrec a k=Dyadic.ofIntWithPrec (-a) k:=Dyadic.neg_ofIntWithPrec
theorem uC (k:Int):Dyadic.ofIntWithPrec 0 k=0:=Dyadic.ofIntWithPrec_zero
abbrev Raw:=Bool ×List UInt8×Int
def ar (x:Raw):Dyadic:=Dyadic.ofIntWithPrec (iv x.1 x.2.1) (-x.2.2)
def dN :Dyadic->Int
 | .zero=>0
 | .ofOdd n _ _=>n
def dE :Dyadic->Int
 | .zero=>0
 | .ofOdd _ k _=>-k
def canon (d:Dyadic):Raw:=(aj (dN d),nt (dN d).natAbs,dE d)
theorem bC (d:Dyadic):ar (canon d)=d:=by
 unfold ar canon;simp only[dI];cases d with
 |zero=>rfl
 |ofOdd n k hn=>simp only[dN,dE,Int.neg_neg];exact(Dyadic.ofOdd_eq_ofIntWithPrec).symm
theorem Rm {n k:Int}(h:n≠0):dN (Dyadic.ofIntWithPrec n k)=n/2^n.trailingZeros/\dE (Dyadic.ofIntWithPrec n k)=n.trailingZeros-k:=by unfold Dyadic.ofIntWithPrec;rw[dif_neg h];simp only[dN,dE,Int.shiftRight_eq_div_pow];refine⟨by simp[Int.natCast_pow],by omega⟩
theorem JU :dN 0=0:=rfl
theorem aep :dE 0=0:=rfl
def Sm (B:Nat)(d:Dyadic):Prop:=∃m:Int,d=Dyadic.ofIntWithPrec m B/\m.natAbs<2^(2*B)
theorem Sm.zero (B:Nat):Sm B 0:=⟨0,(uC _).symm,Nat.pow_pos zd⟩
theorem Sm.mono {A B:Nat}{d:Dyadic}(h:Sm A d)(RX:A<=B):Sm B d:=by
 obtain⟨m,rfl,hm⟩:=h;obtain⟨j,rfl⟩:∃j,B=A+j:=⟨B-A,by omega⟩;refine⟨m*2^j,?_,?_⟩
 . rw[Int.natCast_add,mG]
 . rw[Int.natAbs_mul,Int.natAbs_pow];have:m.natAbs*2^j<2^(2*A) *2^j:=Nat.mul_lt_mul_of_pos_right hm (Nat.pow_pos zd);rw[<-Nat.pow_add]at this;exact Nat.lt_of_lt_of_le this (Nat.pow_le_pow_right zd zo)
theorem Sm.add {B:Nat}{a b:Dyadic}(ha:Sm B a)(hb:Sm B b):Sm (B+1) (a+b):=by
 obtain⟨m,rfl,hm⟩:=ha;obtain⟨n,rfl,hn⟩:=hb;refine⟨(m+n) *2^1,?_,?_⟩
 . rw[uA,Int.natCast_add];exact(mG _ 1 _).symm
 . rw[show 2* (B+1)=2*B+2 by omega,Nat.pow_add];omega
theorem Sm.neg {B:Nat}{a:Dyadic}(ha:Sm B a):Sm B (-a):=by obtain⟨m,rfl,hm⟩:=ha;exact⟨-m,FJ _ _,by omega⟩
theorem Sm.sub {B:Nat}{a b:Dyadic}(ha:Sm B a)(hb:Sm B b):Sm (B+1) (a-b):=ha.add hb.neg
theorem Sm.mul {A B:Nat}{a b:Dyadic}(ha:Sm A a)(hb:Sm B b):Sm (A+B) (a*b):=by
 obtain⟨m,rfl,hm⟩:=ha;obtain⟨n,rfl,hn⟩:=hb;refine⟨m*n,?_,?_⟩
 . rw[qN,Int.natCast_add]
 . rw[Int.natAbs_mul,Nat.mul_add,Nat.pow_add];exact Nat.mul_lt_mul'' hm hn
theorem alx {n:Int}(h:n≠0):2^n.trailingZeros<=n.natAbs:=by
 have hd:=Int.two_pow_trailingZeros_dvd h;have h2:(2^n.trailingZeros:Nat)∣n.natAbs:=by have:=Int.natAbs_dvd_natAbs.2 hd;rwa [Int.natAbs_pow]at this
 exact Nat.le_of_dvd zo h2
theorem Sm.parts {B:Nat}{d:Dyadic}(h:Sm B d):(dN d).natAbs<2^(2*B)/\ -(B:Int)<=dE d/\dE d<=B:=by
 obtain⟨m,rfl,hm⟩:=h;by_cases h0:m=0
 . subst h0;rw[uC,JU,aep];exact⟨Nat.pow_pos zd,by omega,by omega⟩
 . obtain ⟨e1,e2⟩:=Rm (k:=B) h0;have h1:=alx h0;have h2:m.trailingZeros<2*B:=by
    rcases Nat.lt_or_ge m.trailingZeros (2*B)with h|h
    . exact h
    . have:=Nat.pow_le_pow_right (show 0<2 by decide) h;omega
   rw[e1,e2];refine⟨?_,by omega,by omega⟩;obtain⟨q,hq⟩:=Int.two_pow_trailingZeros_dvd h0;have hp:(2:Int)^m.trailingZeros≠0:=by
    have:((2^m.trailingZeros:Nat):Int)≠0:=by have:=Nat.pow_pos (n:=m.trailingZeros) (show 0<2 by decide);omega
    simpa[Int.natCast_pow]using this
   have e3:m/2^m.trailingZeros=q:=by
    conv=>lhs;lhs;rw[hq]
    exact Int.mul_ediv_cancel_left _ hp
   rw[e3];have e4:m.natAbs=2^m.trailingZeros*q.natAbs:=by
    conv=>lhs;rw[hq]
    rw[Int.natAbs_mul,Int.natAbs_pow];rfl
   have:=Nat.pow_pos (n:=m.trailingZeros) (show 0<2 by decide);have:q.natAbs<=2^m.trailingZeros*q.natAbs:=Nat.le_mul_of_pos_left _ this;omega
def Ok (x:Raw):Prop:=x.2.1.length<=268435456/\ -268435456<=x.2.2/\x.2.2<=268435456
theorem jf {n k N:Nat}(h:n<2^k)(hN:k<=8*N):(nt n).length<=N:=
 lL (Nat.lt_of_lt_of_le h (by rw[show(256:Nat)=2^8 by rfl,<-Nat.pow_mul];exact Nat.pow_le_pow_right zd hN))
theorem Sm.ok {B:Nat}{d:Dyadic}(h:Sm B d)(hB:B<=268435456):Ok (canon d):=by obtain⟨h1,h2,h3⟩:=h.parts;exact⟨jf h1 zo,by show-268435456<=dE d;omega,by show dE d<=268435456;omega⟩
theorem Sm.raw {x:Raw}{B:Nat}(hl:8*x.2.1.length<=B)(h1: -(B:Int)<=x.2.2)(h2:x.2.2<=B):Sm (2*B) (ar x):=by
 unfold ar;obtain⟨j,hj⟩:∃j:Nat,x.2.2+(2*B:Nat)=j:=⟨(x.2.2+(2*B:Nat)).toNat,by omega⟩;refine⟨iv x.1 x.2.1*2^j,?_,?_⟩
 . rw[<-mG (iv x.1 x.2.1) j (-x.2.2)];congr 1;omega
 . rw[Int.natAbs_mul,Int.natAbs_pow,qo];have hv:=iF x.2.1;rw[show(256:Nat)=2^8 by rfl,<-Nat.pow_mul]at hv;have:nv x.2.1*2^j<2^(8*x.2.1.length) *2^j:=Nat.mul_lt_mul_of_pos_right hv (Nat.pow_pos zd);rw[<-Nat.pow_add]at this;exact Nat.lt_of_lt_of_le this (Nat.pow_le_pow_right zd zo)
theorem Ok.sm {x:Raw}(h:Ok x):Sm 4294967296 (ar x):=Sm.raw (B:=2147483648) (by have:=h.1;omega) (by have:=h.2.1;omega) (by have:=h.2.2;omega)
def jh (g:Nat->Nat->Int)(k:Nat)(last:Int)(i j:Nat):Nat->Nat->Int:=λa b=>if k<a/\k<b/\(a<i\/a=i/\b<j)then bK g k a b/last else g a b
theorem ajD (g:Nat->Nat->Int)(k:Nat)(last:Int):jh g k last (k+1) (k+1)=g:=by
 funext a b;unfold jh
 rw[if_neg zo]
theorem ajB (g:Nat->Nat->Int)(k:Nat)(last:Int)(i j:Nat)(hi:k<i)(hj:k<j):(λa b=>if a=i/\b=j then bK g k i j/last else jh g k last i j a b)=jh g k last i (j+1):=by
 funext a b;unfold jh
 by_cases h:a=i/\b=j
 . obtain⟨rfl,rfl⟩:=h;rw[if_pos ⟨rfl,rfl⟩,if_pos ⟨hi,hj,.inr ⟨rfl,by omega⟩⟩]
 . rw[if_neg h];by_cases h2:k<a/\k<b/\(a<i\/a=i/\b<j)
   . rw[if_pos h2,if_pos ⟨h2.1,h2.2.1,by omega⟩]
   . rw[if_neg h2,if_neg (λh3=>h2 ⟨h3.1,h3.2.1,by omega⟩)]
theorem ajC (g:Nat->Nat->Int)(k:Nat)(last:Int)(i n:Nat):∀a b,b<n->jh g k last i n a b=jh g k last (i+1) (k+1) a b:=by
 intro a b hb;unfold jh;by_cases h2:k<a/\k<b/\(a<i\/a=i/\b<n)
 . rw[if_pos h2,if_pos ⟨h2.1,h2.2.1,by omega⟩]
 . rw[if_neg h2,if_neg (λh3=>h2 ⟨h3.1,h3.2.1,by omega⟩)]
theorem ajz (g:Nat->Nat->Int)(k:Nat)(last:Int)(n:Nat):∀a b,a<n->jh g k last n (k+1) a b=cM g k last a b:=by
 intro a b ha;unfold jh cM;by_cases h2:k<a/\k<b/\(a<n\/a=n/\b<k+1)
 . rw[if_pos h2,if_pos ⟨h2.1,h2.2.1⟩]
 . rw[if_neg h2,if_neg (λh3=>h2 ⟨h3.1,h3.2,by omega⟩)]
theorem ajA (g:Nat->Nat->Int)(k:Nat)(last:Int)(i j:Nat):jh g k last i j i j=g i j/\jh g k last i j k k=g k k/\jh g k last i j i k=g i k/\jh g k last i j k j=g k j:=by unfold jh;refine⟨if_neg zo,if_neg zo,if_neg zo,if_neg zo⟩
theorem MQ (g:Nat->Nat->Int)(k a b K:Nat)(h1:(g a b).natAbs<2^K)(h2:(g k k).natAbs<2^K)(h3:(g a k).natAbs<2^K)(h4:(g k b).natAbs<2^K):
 (g a b*g k k).natAbs<2^(2*K)/\(g a k*g k b).natAbs<2^(2*K)/\(bK g k a b).natAbs<2^(2*K+1):=by
 have e:2^(2*K)=2^K*2^K:=by rw[<-Nat.pow_add];congr 1;omega
 have m1:(g a b*g k k).natAbs<2^K*2^K:=by rw[Int.natAbs_mul];exact Nat.mul_lt_mul'' h1 h2
 have m2:(g a k*g k b).natAbs<2^K*2^K:=by rw[Int.natAbs_mul];exact Nat.mul_lt_mul'' h3 h4
 refine⟨by rw[e];exact m1,by rw[e];exact m2,?_⟩;rw[Nat.pow_succ,e];unfold bK;generalize g a b*g k k=x at*;generalize g a k*g k b=y at*;omega
theorem div_lt (x y:Int)(M:Nat)(h:x.natAbs<M):(x/y).natAbs<M\/¬y∣x:=by
 by_cases hd:y∣x
 . left;obtain⟨q,rfl⟩:=hd;by_cases hy:y=0
   . subst hy;simp;omega
   . rw[Int.mul_ediv_cancel_left _ hy];rw[Int.natAbs_mul]at h;have:1<=y.natAbs:=by omega
     have:=Nat.mul_le_mul_right q.natAbs this;omega
 . right;exact hd
theorem MZ (a b k:Int):Dyadic.ofIntWithPrec a k-Dyadic.ofIntWithPrec b k=Dyadic.ofIntWithPrec (a-b) k:=by
 have h:Dyadic.ofIntWithPrec a k-Dyadic.ofIntWithPrec b k=Dyadic.ofIntWithPrec a k+ -Dyadic.ofIntWithPrec b k:=by grind
 rw[h,FJ,uA];rfl
theorem aeE (n:Nat)(hn:1<=n)(cE:n<=4)(f:Nat->Nat->Int)(e:Nat->Nat->Dyadic)(q:Int)(h:∀a b,a<n->b<n->e a b=Dyadic.ofIntWithPrec (f a b) q):
 dH n e=Dyadic.ofIntWithPrec (dG n n 0 f 1 false) (n*q):=by
 have hc:n=1\/n=2\/n=3\/n=4:=by omega
 rcases hc with rfl|rfl|rfl|rfl
 . rw[acU];unfold dH;simp only;rw[h 0 0 zo zo];congr 1;omega
 . rw[acV];unfold dH vr;simp only;rw[h 0 0 zo zo,h 1 1 zo zo,h 0 1 zo zo,h 1 0 zo zo,qN,qN,MZ];congr 1;omega
 . rw[acW];unfold dH gy;simp only;rw[h 0 0 zo zo,h 1 1 zo zo,h 0 1 zo zo,h 1 0 zo zo,h 0 2 zo zo,h 2 0 zo zo,h 1 2 zo zo,h 2 1 zo zo,h 2 2 zo zo];simp only[qN,MZ,uA];congr 1;omega
 . rw[acY];unfold dH dM;simp only;rw[h 0 0 zo zo,h 1 1 zo zo,h 0 1 zo zo,h 1 0 zo zo,h 0 2 zo zo,h 2 0 zo zo,h 1 2 zo zo,h 2 1 zo zo,h 2 2 zo zo];rw[h 0 3 zo zo,h 1 3 zo zo,h 2 3 zo zo,h 3 0 zo zo,h 3 1 zo zo,h 3 2 zo zo,h 3 3 zo zo];simp only[qN,MZ,uA];congr 1;omega
theorem RG (n:Nat)(hn:1<=n)(cE:n<=4)(f:Nat->Nat->Int):fh n n 0 f 1:=by
 have hc:n=1\/n=2\/n=3\/n=4:=by omega
 rcases hc with rfl|rfl|rfl|rfl
 . exact ae5 f
 . exact ae6 f
 . exact ae7 f
 . exact ae8 f
end Go.Proofs.YtoopepmmepmfnaaGreatDoor
