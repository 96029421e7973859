/- Small facts that walks over blocks of one's own share. -/
import Derived.Test.YtdaadlblknpipaaGreatDoorZ5
import Derived.Deep.RegionHeld3
import Derived.Deep.DrawnRows
import Derived.Test.YtdaadlblknpipaaGreatDoorZ1
set_option linter.unusedVariables false
set_option linter.unusedSimpArgs false
set_option maxRecDepth 100000
set_option maxHeartbeats 16000000
namespace Go.Proofs.YtdaadlblknpipaaGreatDoor
open Go.RowKit
theorem bE {P:Program}{c:Code}{Q:Exit->Act->World->Prop}{a:Act}{W:World}(S:World->Prop)(hS:S W)(h:∀W',S W'->c.wp P Q a W'):c.wp P Q a W:=h W hS
theorem bD {P:Program}{f:FuncId}{args:Array Value}{R:Ending->World->Prop}{W:World}(S:World->Prop)(hS:S W)(h:∀W',S W'->Calls P f args W' R):Calls P f args W R:=h W hS
theorem ft {w:World}{p a:Addr}{u v:Value}(hne:a.block≠p.block)(h:w.cell? a=some v):(w.setCell p u).cell? a=some v:=
 (World.cell?_of_block (w:=w) (Below.heap_setCell _ _ _ _ hne)).trans h
theorem ai.newAt (w:World)(t:TypeId)(cs:List Value){b:Nat}(h:w.heap.size=b):ai (w.alloc (.cells cs.toArray t)) b t cs:=by subst h;exact ai.new w t cs
theorem cL (w:World)(t0:TypeId)(l0:List Value):∃W,(w.alloc (.cells l0.toArray t0))=W/\Bw w W/\RowKit.Hid (ai W (w.heap.size) t0 l0):=⟨_,rfl,zl,ah (ai.new _ _ _)⟩
theorem jl (w:World)(t0:TypeId)(l0:List Value):∃W,(w.alloc (.cells l0.toArray t0))=W/\RowKit.Hid (Bw w W)/\RowKit.Hid (ai W (w.heap.size) t0 l0):=⟨_,rfl,ah zl,ah (ai.new _ _ _)⟩
theorem rD (w:World)(t0:TypeId)(l0:List Value)(t1:TypeId)(l1:List Value):∃W,((w.alloc (.cells l0.toArray t0)).alloc (.cells l1.toArray t1))=W/\RowKit.Hid (Bw w W)/\RowKit.Hid (ai W (w.heap.size) t0 l0)/\RowKit.Hid (ai W (w.heap.size+1) t1 l1):=⟨_,rfl,ah (zl.alloc zj _),ah ((ai.new _ _ _).alloc _),ah (ai.newAt _ _ _ zm)⟩
theorem rE (w:World)(t0:TypeId)(l0:List Value)(t1:TypeId)(l1:List Value)(t2:TypeId)(l2:List Value):∃W,(((w.alloc (.cells l0.toArray t0)).alloc (.cells l1.toArray t1)).alloc (.cells l2.toArray t2))=W/\RowKit.Hid (Bw w W)/\RowKit.Hid (ai W (w.heap.size) t0 l0)/\RowKit.Hid (ai W (w.heap.size+1) t1 l1)/\RowKit.Hid (ai W (w.heap.size+1+1) t2 l2):=⟨_,rfl,ah ((zl.alloc zj _).alloc zj _),ah (((ai.new _ _ _).alloc _).alloc _),ah ((ai.newAt _ _ _ zm).alloc _),ah (ai.newAt _ _ _ zm)⟩
theorem Dk (w:World)(t0:TypeId)(l0:List Value)(t1:TypeId)(l1:List Value)(t2:TypeId)(l2:List Value)(t3:TypeId)(l3:List Value):∃W,((((w.alloc (.cells l0.toArray t0)).alloc (.cells l1.toArray t1)).alloc (.cells l2.toArray t2)).alloc (.cells l3.toArray t3))=W/\RowKit.Hid (Bw w W)/\RowKit.Hid (ai W (w.heap.size) t0 l0)/\RowKit.Hid (ai W (w.heap.size+1) t1 l1)/\RowKit.Hid (ai W (w.heap.size+1+1) t2 l2)/\RowKit.Hid (ai W (w.heap.size+1+1+1) t3 l3):=⟨_,rfl,ah (((zl.alloc zj _).alloc zj _).alloc zj _),ah ((((ai.new _ _ _).alloc _).alloc _).alloc _),ah (((ai.newAt _ _ _ zm).alloc _).alloc _),ah ((ai.newAt _ _ _ zm).alloc _),ah (ai.newAt _ _ _ zm)⟩
theorem aN {a w:World}(h:Below a.drew.heap.size a.drew w):Bw a w:=⟨h.os,h.tape,h.output,h.size,h.block⟩
theorem aJ {w W w1:World}(h:Bw w W)(k:Bw W w1):Bw w w1:=h.trans (k.mono h.size)
theorem au {w W w1:World}(h:Hid (Bw w W))(k:Bw W w1):Hid (Bw w w1):=aJ h.out k
def tT (b:Nat):Nat->List Value->World->World
 |_,[],w=>w
 |o,v::l,w=>tT b (o+1) l (w.setCell ⟨b,o,none⟩ v)
def Ak :Nat->List Value->List Value->List Value
 |_,[],c=>c
 |o,v::l,c=>Ak (o+1) l (c.set o v)
def bG (w:World)(b o:Nat)(vs:List Value)(w':World):Prop:=w'=tT b o vs w\/w'=tT b o vs w.drew
theorem stI {w:World}{b o:Nat}{vs:List Value}:bG w b o vs (tT b o vs w):=.inl rfl
theorem stJ {w:World}{b o:Nat}{vs:List Value}:bG w b o vs (tT b o vs w.drew):=.inr rfl
theorem bP {w:World}{b o:Nat}{vs:List Value}{w':World}(h:bG w b o vs w':=by first|exact stI|exact stJ):bG w b o vs w':=h
theorem amC (vs:List Value):∀(o:Nat) (cs:List Value),cs.length=o+vs.length->Ak o vs cs=cs.take o++vs:=by
 induction vs with
 |nil=>intro o cs h;simp only[Ak,List.append_nil];rw[List.take_of_length_le (by simp at h;omega)]
 |cons v vs ih=>intro o cs h;simp only[List.length_cons]at h;rw[Ak,ih (o+1) _ (by rw[List.length_set];omega),List.take_succ_eq_append_getElem (by rw[List.length_set];omega),List.getElem_set_self,List.take_set_of_le (Nat.le_refl _),List.append_assoc];rfl
theorem Zn (p b:Nat)(n:p≠b)(t:TypeId)(cs:List Value)(vs:List Value):∀(o:Nat) (w:World),ai w b t cs->ai (tT p o vs w) b t cs:=by
 induction vs with
 |nil=>intro o w h;exact h
 |cons v vs ih=>intro o w h;exact ih _ _ (h.arF ⟨p,o,none⟩ n v)
theorem Zo (b:Nat)(t:TypeId)(vs:List Value):∀(o:Nat) (w:World) (cs:List Value),ai w b t cs->ai (tT b o vs w) b t (Ak o vs cs):=by
 induction vs with
 |nil=>intro o w cs h;exact h
 |cons v vs ih=>intro o w cs h;exact ih _ _ _ (h.set o v)
theorem Zm (a w0:World)(p:Nat)(n:a.heap.size<=p)(vs:List Value):∀(o:Nat) (w:World),Below a.heap.size w0 w->Below a.heap.size w0 (tT p o vs w):=by
 induction vs with
 |nil=>intro o w h;exact h
 |cons v vs ih=>intro o w h;exact ih _ _ (h.setCell n v)
theorem kS {w w':World}{b p o:Nat}{t:TypeId}{cs vs:List Value}(h:Hid (ai w b t cs))(k:bG w p o vs w')(n:p≠b):Hid (ai w' b t cs):=by
 rcases k with rfl|rfl
 . exact Zn p b n t cs vs o _ h.out
 . exact Zn p b n t cs vs o _ h.out.drew
theorem xB {w w':World}{b o:Nat}{t:TypeId}{cs vs:List Value}(h:Hid (ai w b t cs))(k:bG w b o vs w'):Hid (ai w' b t (Ak o vs cs)):=by
 rcases k with rfl|rfl
 . exact Zo b t vs o _ cs h.out
 . exact Zo b t vs o _ cs h.out.drew
theorem cp {w w':World}{b:Nat}{t:TypeId}{cs vs:List Value}(h:Hid (ai w b t cs))(k:bG w b 0 vs w')(e:cs.length=vs.length:=by rfl):Hid (ai w' b t vs):=by have:=xB h k;rwa [amC vs 0 cs zo,List.take_zero,List.nil_append]at this
theorem bS {a w w':World}{p o:Nat}{vs:List Value}(h:Hid (Bw a w))(k:bG w p o vs w')(n:a.heap.size<=p):Hid (Bw a w'):=by
 rcases k with rfl|rfl
 . exact Zm a a p n vs o _ h.out
 . exact Zm a a p n vs o _ h.out.drew
theorem pE {a w:World}{o:Obj}(h:Below (a.alloc o).heap.size (a.alloc o) w):Bw a w:=aJ zl h
theorem pF {a w:World}{o:Obj}(h:Below (a.drew.alloc o).heap.size (a.drew.alloc o) w):Bw a w:=aN (pE h)
theorem sB {a w:World}{o:Obj}(h:Below (a.alloc o).drew.heap.size (a.alloc o).drew w):Bw a w:=pE (aN h)
theorem aG {w:World}{a:Addr}{v:Value}{o:Obj}(h:w.cell? a=some v):(w.alloc o).cell? a=some v:=cell_later zl h
theorem KO {w:World}{a:Addr}{v:Value}(h:w.cell? a=some v):w.drew.cell? a=some v:=h
theorem At.arG {w:World}{b:Nat}{t:TypeId}{cs:List Value}(h:ai w b t cs):At w (some ⟨b,0,none⟩) cs:=
 .inr ⟨b,0,rfl,λj _=>by rw[Nat.zero_add];exact h.cell j⟩
theorem flat_get {α:Type}(f:α->List Value)(sz:Nat)(hf:∀x,(f x).length=sz)(xs:List α)(k i:Nat)(hk:k<xs.length)(hi:i<sz):
 (xs.flatMap f)[k*sz+i]?=(f xs[k])[i]?:=by
 induction xs generalizing k with
 |nil=>simp at hk
 | cons x xs ih=>
   rw[List.flatMap_cons];cases k with
   |zero=>rw[Nat.zero_mul,Nat.zero_add,List.getElem?_append_left (by rw[hf];exact hi)];rfl
   | succ k=>
     have e:(k+1) *sz+i=(f x).length+(k*sz+i):=by rw[hf,Nat.add_mul,Nat.one_mul];omega
     rw[e,List.getElem?_append_right zo,Nat.add_sub_cancel_left,ih k (by simpa using hk)];rfl
theorem iI {α:Type}(f:α->List Value)(sz:Nat)(hf:∀x,(f x).length=sz)(xs:List α):(xs.flatMap f).length=xs.length*sz:=by
 induction xs with
 |nil=>simp
 |cons x xs ih=>rw[List.flatMap_cons,List.length_append,ih,hf,List.length_cons,Nat.add_mul,Nat.one_mul,Nat.add_comm]
theorem At.elem {α:Type}{f:α->List Value}{sz:Nat}(hf:∀x,(f x).length=sz)(hsz:0<sz){W:World}{a:Option Addr}{xs:List α}(h:At W a (xs.flatMap f))(k:Nat)(hk:k<xs.length):
 ∃b o,a=some ⟨b,o,none⟩/\∀i,i<sz->W.cell? ⟨b,o+k*sz+i,none⟩=(f xs[k])[i]?:=by
 have hl:=iI f sz hf xs;have hb:∀i,i<sz->k*sz+i<xs.length*sz:=by intro i hi;have:(k+1) *sz<=xs.length*sz:=Nat.mul_le_mul_right _ hk;rw[Nat.add_mul,Nat.one_mul]at this;omega
 have hne:xs.flatMap f≠[]:=by intro h0;have:=congrArg List.length h0;rw[hl]at this;have:=hb 0 hsz;simp at*;omega
 obtain⟨b,o,ha,hc⟩:=h.get hne;refine⟨b,o,ha,λi hi=>?_⟩;rw[Nat.add_assoc,hc _ (by rw[hl];exact hb i hi),flat_get f sz hf xs k i hk hi]
end Go.Proofs.YtdaadlblknpipaaGreatDoor
namespace Go.Proofs.YtdaadlblknpipaaGreatDoor
open Go.RowKit
attribute [local go_sem ↓] Go.wp_at_zero Go.wp_at_succ
def iv (s:Bool)(l:List UInt8):Int:=if s then-(nv l:Int)else(nv l:Int)
theorem nO (s:Bool)(l:List UInt8):(iv s l).natAbs=nv l:=by unfold iv;split<;>omega
def ar (n:Int):Bool:=decide (n<0)
theorem Nu (s:Bool)(l:List UInt8):ar (iv s l)=(s&& !(nt (nv l)).isEmpty):=by
 unfold ar;have h:(nt (nv l)).isEmpty=decide (nv l=0):=by rw[Bool.eq_iff_iff,List.isEmpty_iff,NQ,decide_eq_true_iff]
 rw[h];unfold iv;cases s<;>simp
 by_cases h0:nv l=0<;>simp[h0];omega
abbrev cE (n:Int):Value:=.agg #[.bool (ar n),.string (bs (nt n.natAbs))]
theorem fc (n:Int):iv (ar n) (nt n.natAbs)=n:=by unfold iv ar;rw[iF];by_cases h:n<0<;>simp[h]<;>omega
theorem lU (s:Bool)(n:Nat):iv s (nt n)=if s then-(n:Int)else n:=by unfold iv;rw[iF]
theorem IG (l:List UInt8)(s:Bool)(w:World):
 Calls Tryz.prog 110 #[.agg #[.bool s,.string (bs l)]] w λe w'=>e=.returned (.agg #[.string (bs l),.bool s])/\Bw w w':=by
 go_enter Tryz.func110,Tryz.ntmps110;have Hb:Hid (Bw w w):=Below.refl _ _;go_wp2;refine bodyPost_ret (v:=.agg #[.string (bs l),.bool s]) (by simp[results,Tryz.results110,go_sem]) rfl ⟨rfl,?_⟩;(repeat first|exact Hb.out| (refine Below.setCell ?_ (by have:=Hb.out.size;first| (dsimp only;omega) | (show _<=_;omega) | (simp<;>omega)) _) | (refine Below.alloc ?_ zt _) |refine Below.drew ?_)
theorem vr (l:List UInt8)(s:Bool)(w:World)(hl:l.length<=1099511627776):
 Calls Tryz.prog 112 #[.agg #[.string (bs l),.bool s]] w λe w'=>e=.returned (cE (iv s l))/\Bw w w':=by
 unfold cE;rw[nO,Nu];have hne:=sD (nt (nv l));generalize hb:(nt (nv l)).isEmpty=b at*;have HB:=ah hb;clear hb;cases s
 . go_enter Tryz.func112,Tryz.ntmps112;have Hb:Hid (Bw w w):=Below.refl _ _;go_wp2_with (go_at_call 147;refine(Zy l _ hl).mono ?_;rintro e w1 ⟨rfl,rfl⟩);go_wp2;refine bodyPost_ret (v:=.agg #[.bool false,.string (bs (nt (nv l)))]) (by simp[results,Tryz.results112,go_sem]) rfl ⟨rfl,?_⟩;(repeat first|exact Hb.out| (refine Below.setCell ?_ (by have:=Hb.out.size;first| (dsimp only;omega) | (show _<=_;omega) | (simp<;>omega)) _) | (refine Below.alloc ?_ zt _) |refine Below.drew ?_)
 . go_enter Tryz.func112,Tryz.ntmps112;have Hb:Hid (Bw w w):=Below.refl _ _;go_wp2_with (go_at_call 147;refine(Zy l _ hl).mono ?_;rintro e w1 ⟨rfl,rfl⟩);go_wp2;refine bodyPost_ret (v:=.agg #[.bool !b,.string (bs (nt (nv l)))]) (by simp[results,Tryz.results112,go_sem]) rfl ⟨rfl,?_⟩;(repeat first|exact Hb.out| (refine Below.setCell ?_ (by have:=Hb.out.size;first| (dsimp only;omega) | (show _<=_;omega) | (simp<;>omega)) _) | (refine Below.alloc ?_ zt _) |refine Below.drew ?_)
theorem aky (l m:List UInt8)(b cap:Nat)(t:TypeId)(w:World)(hl:l.length<=68719476736)(hm:m.length<=68719476736)(ha:ai w b t [.string (bs l),.string (bs m)]):
 Calls Tryz.prog 149 #[.slice (some ⟨b,0,none⟩) 2 cap] w λe w'=>e=.returned (.string (bs (nt (nv l+nv m))))/\Bw w w':=by
 have:=akx [l,m] (some ⟨b,0,none⟩) cap w (by simp[hl,hm]) zm (At.arG ha);have e:gu [l,m]=nv l+nv m:=by simp[gu]
 rw[e]at this;exact this
theorem alu (l m:List UInt8)(s:Bool)(w:World)(hl:l.length<=68719476736)(hm:m.length<=68719476736):
 Calls Tryz.prog 115 #[.agg #[.string (bs l),.bool s],.agg #[.string (bs m),.bool s]] w λe w'=>e=.returned (.agg #[.string (bs (nt (nv l+nv m))),.bool s])/\Bw w w':=by
 go_enter Tryz.func115,Tryz.ntmps115;have Hb:Hid (Bw w w):=Below.refl _ _;go_wp2_with fail;obtain⟨R,hR⟩:∃R:World->Prop,(λW=>ai W (w.heap.size) 137 [.string (bs l),.bool s]/\ai W (w.heap.size+1) 137 [.string (bs m),.bool s]/\ai W (w.heap.size+1+1) 137 [.string (bs []),.bool false]/\Bw w W)=R:=⟨_,rfl⟩;first|refine bE R ?hR ?_|refine bD R ?hR ?_
 case hR=>subst hR;exact⟨(((ai.newAt w _ _ (b:=w.heap.size) rfl).alloc _).alloc _),((ai.newAt (w.alloc _) _ _ (b:=w.heap.size+1) zm).alloc _),(ai.newAt ((w.alloc _).alloc _) _ _ (b:=w.heap.size+1+1) zm),((zl.alloc zj _).alloc zj _)⟩
 subst hR;rintro W ⟨qx,qy,qr,ae⟩;have Hx:=ah qx;clear qx;have Hy:=ah qy;clear qy;have Hr:=ah qr;clear qr;obtain⟨x0,x1⟩:=Hx.out.c2;obtain⟨y0,y1⟩:=Hy.out.c2;obtain⟨r0,aj,r1,ak⟩:=Hr.out.g2;replace Hb:=au Hb ae;clear ae;have NP:w.heap.size≠w.heap.size+1+1:=by omega
 have Yk:w.heap.size+1≠w.heap.size+1+1:=by omega
 go_region_held3 (λw'=>w'.cell? ⟨w.heap.size,0,none⟩=some (.string (bs l))/\w'.cell? ⟨w.heap.size,1,none⟩=some (.bool s)/\w'.cell? ⟨w.heap.size+1,0,none⟩=some (.string (bs m))/\w'.cell? ⟨w.heap.size+1,1,none⟩=some (.bool s)) (((try dsimp only);go_split_ands;(repeat' apply And.intro)<;>(first|exact True.intro|with_reducible assumption| ((with_reducible refine ft zg ?_);(repeat(with_reducible refine ft zg ?_));with_reducible assumption) |exact cell_later (by with_reducible assumption) (by with_reducible assumption) |exact aG (by with_reducible assumption) |go_keep))) (first| (go_at_call 149;(with_reducible refine(aky l m W.heap.size 2 9 _ hl hm (by first|exact ai.drew (ai.new _ _ _) |exact ai.new _ _ _)).mono ?_);rintro e w1 ⟨rfl,hq⟩;have hw1:Bw W w1:=(by first|exact aN hq|exact hq|exact pF hq|exact pE hq|exact sB hq);clear hq;have jY:=ah (Hx.out.below hw1);have yc:w1.cell? ⟨w.heap.size,0,none⟩=some (.string (bs l)):=jY.out.cell 0;have ye:w1.cell? ⟨w.heap.size,1,none⟩=some (.bool s):=jY.out.cell 1;have nZ:=ah (Hy.out.below hw1);have Ef:w1.cell? ⟨w.heap.size+1,0,none⟩=some (.string (bs m)):=nZ.out.cell 0;have Eg:w1.cell? ⟨w.heap.size+1,1,none⟩=some (.bool s):=nZ.out.cell 1;have gG:=ah (Hr.out.below hw1);have xW:w1.cell? ⟨w.heap.size+1+1,0,none⟩=some (.string (bs [])):=gG.out.cell 0;have wM:w1.frozen? ⟨w.heap.size+1+1,0,none⟩=false:=gG.out.free 0;have xX:w1.cell? ⟨w.heap.size+1+1,1,none⟩=some (.bool false):=gG.out.cell 1;have wN:w1.frozen? ⟨w.heap.size+1+1,1,none⟩=false:=gG.out.free 1))
 replace Hb:=ah (aJ Hb.out hw1);clear hw1 x0 x1 y0 y1 r0 aj r1 ak;replace Hx:=jY;clear yc ye;replace Hy:=nZ;clear Ef Eg;replace Hr:=gG;clear xW wM xX wN;obtain⟨x0,x1⟩:=Hx.out.c2;obtain⟨y0,y1⟩:=Hy.out.c2;obtain⟨r0,aj,r1,ak⟩:=Hr.out.g2;go_wp2;refine bodyPost_ret (v:=.agg #[.string (bs (nt (nv l+nv m))),.bool s]) (by simp[results,Tryz.results115,go_sem,r0,r1]) rfl ⟨rfl,?_⟩;(repeat first|exact Hb.out| (refine Below.setCell ?_ (by have:=Hb.out.size;first| (dsimp only;omega) | (show _<=_;omega) | (simp<;>omega)) _) | (refine Below.alloc ?_ zt _) |refine Below.drew ?_)
theorem Ze (l m:List UInt8)(w:World)(hl:l.length<=68719476736)(hm:m.length<=68719476736):
 Calls Tryz.prog 150 #[.string (bs l),.string (bs m)] w λe w'=>e=.returned (.int .i64 (cP (nv l) (nv m)))/\Bw w w':=by
 go_enter Tryz.func150,Tryz.ntmps150;have Hb:Hid (Bw w w):=Below.refl _ _;go_wp2_with fail;refine(akz l m _ hl hm).mono ?_;rintro e w1 ⟨rfl,ae⟩;replace Hb:=au Hb ae;clear ae;go_wp2;go_ret;exact⟨rfl,Hb.out⟩
theorem alq (l m:List UInt8)(s:Bool)(w:World)(hl:l.length<=68719476736)(hm:m.length<=68719476736)(h:nv m<=nv l):
 Calls Tryz.prog 115 #[.agg #[.string (bs l),.bool s],.agg #[.string (bs m),.bool (!s)]] w λe w'=>e=.returned (.agg #[.string (bs (nt (nv l-nv m))),.bool s])/\Bw w w':=by
 have hc0:0<=cP (nv l) (nv m):=by unfold cP;rw[if_neg zo];split<;>omega
 have hss:(s== !s)=false:=by cases s<;>rfl
 have Hh:=ah h;clear h;go_enter Tryz.func115,Tryz.ntmps115;have Hb:Hid (Bw w w):=Below.refl _ _;go_wp2_with fail;obtain⟨R,hR⟩:∃R:World->Prop,(λW=>ai W (w.heap.size) 137 [.string (bs l),.bool s]/\ai W (w.heap.size+1) 137 [.string (bs m),.bool (!s)]/\ai W (w.heap.size+1+1) 137 [.string (bs []),.bool false]/\Bw w W)=R:=⟨_,rfl⟩;first|refine bE R ?hR ?_|refine bD R ?hR ?_
 case hR=>subst hR;exact⟨(((ai.newAt w _ _ (b:=w.heap.size) rfl).alloc _).alloc _),((ai.newAt (w.alloc _) _ _ (b:=w.heap.size+1) zm).alloc _),(ai.newAt ((w.alloc _).alloc _) _ _ (b:=w.heap.size+1+1) zm),((zl.alloc zj _).alloc zj _)⟩
 subst hR;rintro W ⟨qx,qy,qr,ae⟩;have Hx:=ah qx;clear qx;have Hy:=ah qy;clear qy;have Hr:=ah qr;clear qr;obtain⟨x0,x1⟩:=Hx.out.c2;obtain⟨y0,y1⟩:=Hy.out.c2;obtain⟨r0,aj,r1,ak⟩:=Hr.out.g2;replace Hb:=au Hb ae;clear ae;go_wp2_with fail;refine(Ze l m _ hl hm).mono ?_;rintro e w1 ⟨rfl,ae⟩;clear x0 x1 y0 y1 r0 aj r1 ak;replace Hx:=kB Hx ae;replace Hy:=kB Hy ae;replace Hr:=kB Hr ae;obtain⟨x0,x1⟩:=Hx.out.c2;obtain⟨y0,y1⟩:=Hy.out.c2;obtain⟨r0,aj,r1,ak⟩:=Hr.out.g2;replace Hb:=au Hb ae;clear ae;go_wp2_with fail;refine(Yj l m _ hl hm Hh.out).mono ?_;rintro e w2 ⟨rfl,ae⟩;clear x0 x1 y0 y1 r0 aj r1 ak;replace Hx:=kB Hx ae;replace Hy:=kB Hy ae;replace Hr:=kB Hr ae;obtain⟨x0,x1⟩:=Hx.out.c2;obtain⟨y0,y1⟩:=Hy.out.c2;obtain⟨r0,aj,r1,ak⟩:=Hr.out.g2;replace Hb:=au Hb ae;clear ae;go_wp2;refine bodyPost_ret (v:=.agg #[.string (bs (nt (nv l-nv m))),.bool s]) (by simp[results,Tryz.results115,go_sem,r0,r1]) rfl ⟨rfl,?_⟩;(repeat first|exact Hb.out| (refine Below.setCell ?_ (by have:=Hb.out.size;first| (dsimp only;omega) | (show _<=_;omega) | (simp<;>omega)) _) | (refine Below.alloc ?_ zt _) |refine Below.drew ?_)
theorem alr (l m:List UInt8)(s:Bool)(w:World)(hl:l.length<=68719476736)(hm:m.length<=68719476736)(h:nv l<nv m):
 Calls Tryz.prog 115 #[.agg #[.string (bs l),.bool s],.agg #[.string (bs m),.bool (!s)]] w λe w'=>e=.returned (.agg #[.string (bs (nt (nv m-nv l))),.bool (!s)])/\Bw w w':=by
 have hc0:cP (nv l) (nv m)<0:=by unfold cP;rw[if_pos h];omega
 have hss:(s== !s)=false:=by cases s<;>rfl
 have Hh:=ah (Nat.le_of_lt h);clear h;go_enter Tryz.func115,Tryz.ntmps115;have Hb:Hid (Bw w w):=Below.refl _ _;go_wp2_with fail;obtain⟨R,hR⟩:∃R:World->Prop,(λW=>ai W (w.heap.size) 137 [.string (bs l),.bool s]/\ai W (w.heap.size+1) 137 [.string (bs m),.bool (!s)]/\ai W (w.heap.size+1+1) 137 [.string (bs []),.bool false]/\Bw w W)=R:=⟨_,rfl⟩;first|refine bE R ?hR ?_|refine bD R ?hR ?_
 case hR=>subst hR;exact⟨(((ai.newAt w _ _ (b:=w.heap.size) rfl).alloc _).alloc _),((ai.newAt (w.alloc _) _ _ (b:=w.heap.size+1) zm).alloc _),(ai.newAt ((w.alloc _).alloc _) _ _ (b:=w.heap.size+1+1) zm),((zl.alloc zj _).alloc zj _)⟩
 subst hR;rintro W ⟨qx,qy,qr,ae⟩;have Hx:=ah qx;clear qx;have Hy:=ah qy;clear qy;have Hr:=ah qr;clear qr;obtain⟨x0,aU,x1,aV⟩:=Hx.out.g2;obtain⟨y0,aO,y1,aP⟩:=Hy.out.g2;obtain⟨r0,aj,r1,ak⟩:=Hr.out.g2;replace Hb:=au Hb ae;clear ae;go_wp2_with fail;refine(Ze l m _ hl hm).mono ?_;rintro e w1 ⟨rfl,ae⟩;clear x0 aU x1 aV y0 aO y1 aP r0 aj r1 ak;replace Hx:=kB Hx ae;replace Hy:=kB Hy ae;replace Hr:=kB Hr ae;obtain⟨x0,aU,x1,aV⟩:=Hx.out.g2;obtain⟨y0,aO,y1,aP⟩:=Hy.out.g2;obtain⟨r0,aj,r1,ak⟩:=Hr.out.g2;replace Hb:=au Hb ae;clear ae;go_wp2_with fail;clear x0 aU x1 aV y0 aO y1 aP r0 aj r1 ak;obtain⟨R,hR⟩:∃R:World->Prop,(λw2=>ai w2 (w.heap.size) 137 [.string (bs m),.bool (!s)]/\ai w2 (w.heap.size+1) 137 [.string (bs l),.bool s]/\ai w2 (w.heap.size+1+1) 137 [.string (bs []),.bool false]/\Bw w w2)=R:=⟨_,rfl⟩;first|refine bE R ?hR ?_|refine bD R ?hR ?_
 case hR=>subst hR;exact⟨((((Hx.out.set 0 _).set 1 _).so (w.heap.size+1) 0 zo _).so (w.heap.size+1) 1 zo _),((((Hy.out.so (w.heap.size) 0 zo _).so (w.heap.size) 1 zo _).set 0 _).set 1 _),((((Hr.out.so (w.heap.size) 0 zo _).so (w.heap.size) 1 zo _).so (w.heap.size+1) 0 zo _).so (w.heap.size+1) 1 zo _),((((Hb.out.sc (w.heap.size) 0 ZS _).sc (w.heap.size) 1 ZS _).sc (w.heap.size+1) 0 ZS _).sc (w.heap.size+1) 1 ZS _)⟩
 subst hR;rintro w2 ⟨qx,qy,qr,ae⟩;replace Hx:=ah qx;clear qx;replace Hy:=ah qy;clear qy;replace Hr:=ah qr;clear qr;obtain⟨x0,aU,x1,aV⟩:=Hx.out.g2;obtain⟨y0,aO,y1,aP⟩:=Hy.out.g2;obtain⟨r0,aj,r1,ak⟩:=Hr.out.g2;replace Hb:=ah ae;clear ae;go_wp2_with fail;refine(Yj m l _ hm hl Hh.out).mono ?_;rintro e w3 ⟨rfl,ae⟩;clear x0 aU x1 aV y0 aO y1 aP r0 aj r1 ak;replace Hx:=kB Hx ae;replace Hy:=kB Hy ae;replace Hr:=kB Hr ae;obtain⟨x0,aU,x1,aV⟩:=Hx.out.g2;obtain⟨y0,aO,y1,aP⟩:=Hy.out.g2;obtain⟨r0,aj,r1,ak⟩:=Hr.out.g2;replace Hb:=au Hb ae;clear ae;go_wp2;refine bodyPost_ret (v:=.agg #[.string (bs (nt (nv m-nv l))),.bool (!s)]) (by simp[results,Tryz.results115,go_sem,r0,r1]) rfl ⟨rfl,?_⟩;(repeat first|exact Hb.out| (refine Below.setCell ?_ (by have:=Hb.out.size;first| (dsimp only;omega) | (show _<=_;omega) | (simp<;>omega)) _) | (refine Below.alloc ?_ zt _) |refine Below.drew ?_)
def tN (s:Bool)(l:List UInt8)(t:Bool)(m:List UInt8):Bool:=if s==t then s else if nv l<nv m then t else s
theorem alC (s:Bool)(l:List UInt8)(t:Bool)(m:List UInt8):iv (tN s l t m) (nt (iv s l+iv t m).natAbs)=iv s l+iv t m:=by unfold tN iv;rw[iF];cases s<;>cases t<;>simp<;>(try split)<;>omega
theorem alp (l m:List UInt8)(s t:Bool)(w:World)(hl:l.length<=68719476736)(hm:m.length<=68719476736):
 Calls Tryz.prog 115 #[.agg #[.string (bs l),.bool s],.agg #[.string (bs m),.bool t]] w λe w'=>e=.returned (.agg #[.string (bs (nt (iv s l+iv t m).natAbs)),.bool (tN s l t m)])/\Bw w w':=by
 by_cases hst:s=t
 . subst hst;have e:(iv s l+iv s m).natAbs=nv l+nv m:=by unfold iv;split<;>omega
   rw[e,show tN s l s m=s by simp[tN]];exact alu l m s w hl hm
 . obtain rfl:t= !s:=by cases s<;>cases t<;>simp_all
   by_cases h:nv l<nv m
   . have e:(iv s l+iv (!s) m).natAbs=nv m-nv l:=by unfold iv;cases s<;>simp<;>omega
     rw[e,show tN s l (!s) m= !s by cases s<;>simp[tN,h]];exact alr l m s w hl hm h
   . have e:(iv s l+iv (!s) m).natAbs=nv l-nv m:=by unfold iv;cases s<;>simp<;>omega
     rw[e,show tN s l (!s) m=s by cases s<;>simp[tN,h]];exact alq l m s w hl hm zo
theorem anj (l m:List UInt8)(s t:Bool)(w:World)(hl:l.length<=68719476736)(hm:m.length<=68719476736):
 Calls Tryz.prog 111 #[.agg #[.string (bs l),.bool s],.agg #[.string (bs m),.bool t]] w λe w'=>e=.returned (.agg #[.string (bs (nt (nv l*nv m))),.bool (!(s==t))])/\Bw w w':=by
 go_enter Tryz.func111,Tryz.ntmps111;have Hb:Hid (Bw w w):=Below.refl _ _;go_wp2_with fail;obtain⟨R,hR⟩:∃R:World->Prop,(λW=>ai W (w.heap.size) 137 [.string (bs l),.bool s]/\ai W (w.heap.size+1) 137 [.string (bs m),.bool t]/\ai W (w.heap.size+1+1) 137 [.string (bs []),.bool false]/\Bw w W)=R:=⟨_,rfl⟩;first|refine bE R ?hR ?_|refine bD R ?hR ?_
 case hR=>subst hR;exact⟨(((ai.newAt w _ _ (b:=w.heap.size) rfl).alloc _).alloc _),((ai.newAt (w.alloc _) _ _ (b:=w.heap.size+1) zm).alloc _),(ai.newAt ((w.alloc _).alloc _) _ _ (b:=w.heap.size+1+1) zm),((zl.alloc zj _).alloc zj _)⟩
 subst hR;rintro W ⟨qx,qy,qr,ae⟩;have Hx:=ah qx;clear qx;have Hy:=ah qy;clear qy;have Hr:=ah qr;clear qr;obtain⟨x0,x1⟩:=Hx.out.c2;obtain⟨y0,y1⟩:=Hy.out.c2;obtain⟨r0,aj,r1,ak⟩:=Hr.out.g2;replace Hb:=au Hb ae;clear ae;have NP:w.heap.size≠w.heap.size+1+1:=by omega
 have Yk:w.heap.size+1≠w.heap.size+1+1:=by omega
 go_region_held3 (λw'=>w'.cell? ⟨w.heap.size,0,none⟩=some (.string (bs l))/\w'.cell? ⟨w.heap.size,1,none⟩=some (.bool s)/\w'.cell? ⟨w.heap.size+1,0,none⟩=some (.string (bs m))/\w'.cell? ⟨w.heap.size+1,1,none⟩=some (.bool t)) (((try dsimp only);go_split_ands;(repeat' apply And.intro)<;>(first|exact True.intro|with_reducible assumption| ((with_reducible refine ft zg ?_);(repeat(with_reducible refine ft zg ?_));with_reducible assumption) |exact cell_later (by with_reducible assumption) (by with_reducible assumption) |exact aG (by with_reducible assumption) |go_keep))) (first| (go_at_call 146;(with_reducible refine(akD l m _ hl hm).mono ?_);rintro e w1 ⟨rfl,hq⟩;have hw1:Bw W w1:=(by first|exact aN hq|exact hq|exact pF hq|exact pE hq|exact sB hq);clear hq;have jY:=ah (Hx.out.below hw1);have yc:w1.cell? ⟨w.heap.size,0,none⟩=some (.string (bs l)):=jY.out.cell 0;have ye:w1.cell? ⟨w.heap.size,1,none⟩=some (.bool s):=jY.out.cell 1;have nZ:=ah (Hy.out.below hw1);have Ef:w1.cell? ⟨w.heap.size+1,0,none⟩=some (.string (bs m)):=nZ.out.cell 0;have Eg:w1.cell? ⟨w.heap.size+1,1,none⟩=some (.bool t):=nZ.out.cell 1;have gG:=ah (Hr.out.below hw1);have xW:w1.cell? ⟨w.heap.size+1+1,0,none⟩=some (.string (bs [])):=gG.out.cell 0;have wM:w1.frozen? ⟨w.heap.size+1+1,0,none⟩=false:=gG.out.free 0;have xX:w1.cell? ⟨w.heap.size+1+1,1,none⟩=some (.bool false):=gG.out.cell 1;have wN:w1.frozen? ⟨w.heap.size+1+1,1,none⟩=false:=gG.out.free 1))
 replace Hb:=ah (aJ Hb.out hw1);clear hw1 x0 x1 y0 y1 r0 aj r1 ak;replace Hx:=jY;clear yc ye;replace Hy:=nZ;clear Ef Eg;replace Hr:=gG;clear xW wM xX wN;obtain⟨x0,x1⟩:=Hx.out.c2;obtain⟨y0,y1⟩:=Hy.out.c2;obtain⟨r0,aj,r1,ak⟩:=Hr.out.g2;go_wp2;refine bodyPost_ret (v:=.agg #[.string (bs (nt (nv l*nv m))),.bool (!(s==t))]) (by simp[results,Tryz.results111,go_sem,r0,r1]) rfl ⟨rfl,?_⟩;(repeat first|exact Hb.out| (refine Below.setCell ?_ (by have:=Hb.out.size;first| (dsimp only;omega) | (show _<=_;omega) | (simp<;>omega)) _) | (refine Below.alloc ?_ zt _) |refine Below.drew ?_)
theorem ai7 (s:Bool)(l:List UInt8)(t:Bool)(m:List UInt8):iv (!(s==t)) (nt (nv l*nv m))=iv s l*iv t m:=by unfold iv;rw[iF];cases s<;>cases t<;>simp[Int.natCast_mul,Int.neg_mul,Int.mul_neg]
theorem Ph (n:Int)(w:World)(h0: -9223372036854775808<=n)(h1:n<=9223372036854775807):
 Calls Tryz.prog 74 #[.int .i64 n] w λe w'=>e=.returned (cE n)/\Bw w w':=by
 have hb:n.natAbs<WW:=by rw[iW];omega
 have hlen:(nt n.natAbs).length<=8:=iQ (by rw[iW]at hb;omega);have jE:=ah hb;clear hb;by_cases hn:n<0
 . have sS:IntKind.u64.wrap (-(IntKind.u64.wrap n))=(n.natAbs:Int):=by simp only[IntKind.wrap_u64];omega
   have gw:Hid (iv true (nt n.natAbs)=n):=by show iv _ _=_;unfold iv;rw[iF];simp;omega
   go_enter Tryz.func74,Tryz.ntmps74;have Hb:Hid (Bw w w):=Below.refl _ _;go_wp2_with fail;obtain⟨R,hR⟩:∃R:World->Prop,(λW=>ai W (w.heap.size) 28 [.bool false,.string (bs [])]/\Bw w W)=R:=⟨_,rfl⟩;first|refine bE R ?hR ?_|refine bD R ?hR ?_
   case hR=>subst hR;exact⟨(ai.newAt w _ _ (b:=w.heap.size) rfl),zl⟩
   subst hR;rintro W ⟨qr,ae⟩;have Hr:=ah qr;clear qr;obtain⟨r0,aj,r1,ak⟩:=Hr.out.g2;replace Hb:=au Hb ae;clear ae;go_wp2_with fail;refine(Yi n.natAbs jE.out _).mono ?_;rintro e w1 ⟨rfl,ae⟩;clear r0 aj r1 ak;replace Hr:=kB Hr ae;obtain⟨r0,aj,r1,ak⟩:=Hr.out.g2;replace Hb:=au Hb ae;clear ae;go_wp2_with fail;refine(vr (nt n.natAbs) true _ zo).mono ?_;rintro e w2 ⟨rfl,ae⟩;clear r0 aj r1 ak;replace Hr:=kB Hr ae;obtain⟨r0,aj,r1,ak⟩:=Hr.out.g2;replace Hb:=au Hb ae;clear ae;rw[gw.out];go_wp2;refine bodyPost_ret (v:=cE n) (by simp[results,Tryz.results74,go_sem,r0,r1]) rfl ⟨rfl,?_⟩;(repeat first|exact Hb.out| (refine Below.setCell ?_ (by have:=Hb.out.size;first| (dsimp only;omega) | (show _<=_;omega) | (simp<;>omega)) _) | (refine Below.alloc ?_ zt _) |refine Below.drew ?_)
 . have sS:IntKind.u64.wrap n=(n.natAbs:Int):=by simp only[IntKind.wrap_u64];omega
   have gw:Hid (iv false (nt n.natAbs)=n):=by show iv _ _=_;unfold iv;rw[iF];simp;omega
   go_enter Tryz.func74,Tryz.ntmps74;have Hb:Hid (Bw w w):=Below.refl _ _;go_wp2_with fail;obtain⟨R,hR⟩:∃R:World->Prop,(λW=>ai W (w.heap.size) 28 [.bool false,.string (bs [])]/\Bw w W)=R:=⟨_,rfl⟩;first|refine bE R ?hR ?_|refine bD R ?hR ?_
   case hR=>subst hR;exact⟨(ai.newAt w _ _ (b:=w.heap.size) rfl),zl⟩
   subst hR;rintro W ⟨qr,ae⟩;have Hr:=ah qr;clear qr;obtain⟨r0,aj,r1,ak⟩:=Hr.out.g2;replace Hb:=au Hb ae;clear ae;go_wp2_with fail;refine(Yi n.natAbs jE.out _).mono ?_;rintro e w1 ⟨rfl,ae⟩;clear r0 aj r1 ak;replace Hr:=kB Hr ae;obtain⟨r0,aj,r1,ak⟩:=Hr.out.g2;replace Hb:=au Hb ae;clear ae;go_wp2_with fail;refine(vr (nt n.natAbs) false _ zo).mono ?_;rintro e w2 ⟨rfl,ae⟩;clear r0 aj r1 ak;replace Hr:=kB Hr ae;obtain⟨r0,aj,r1,ak⟩:=Hr.out.g2;replace Hb:=au Hb ae;clear ae;rw[gw.out];go_wp2;refine bodyPost_ret (v:=cE n) (by simp[results,Tryz.results74,go_sem,r0,r1]) rfl ⟨rfl,?_⟩;(repeat first|exact Hb.out| (refine Below.setCell ?_ (by have:=Hb.out.size;first| (dsimp only;omega) | (show _<=_;omega) | (simp<;>omega)) _) | (refine Below.alloc ?_ zt _) |refine Below.drew ?_)
theorem yb (s:Bool)(l:List UInt8)(w:World)(hl:l.length<=1099511627776):
 Calls Tryz.prog 114 #[.agg #[.bool s,.string (bs l)]] w λe w'=>e=.returned (cE (iv s l))/\Bw w w':=by
 go_enter Tryz.func114,Tryz.ntmps114;have Hb:Hid (Bw w w):=Below.refl _ _;go_wp2_with fail;obtain⟨R,hR⟩:∃R:World->Prop,(λW=>ai W (w.heap.size) 28 [.bool s,.string (bs l)]/\ai W (w.heap.size+1) 28 [.bool false,.string (bs [])]/\Bw w W)=R:=⟨_,rfl⟩;first|refine bE R ?hR ?_|refine bD R ?hR ?_
 case hR=>subst hR;exact⟨((ai.newAt w _ _ (b:=w.heap.size) rfl).alloc _),(ai.newAt (w.alloc _) _ _ (b:=w.heap.size+1) zm),(zl.alloc zj _)⟩
 subst hR;rintro W ⟨qx,qr,ae⟩;have Hx:=ah qx;clear qx;have Hr:=ah qr;clear qr;obtain⟨x0,x1⟩:=Hx.out.c2;obtain⟨r0,aj,r1,ak⟩:=Hr.out.g2;replace Hb:=au Hb ae;clear ae;go_wp2_with fail;refine(IG l s _).mono ?_;rintro e w1 ⟨rfl,ae⟩;clear x0 x1 r0 aj r1 ak;replace Hx:=kB Hx ae;replace Hr:=kB Hr ae;obtain⟨x0,x1⟩:=Hx.out.c2;obtain⟨r0,aj,r1,ak⟩:=Hr.out.g2;replace Hb:=au Hb ae;clear ae;go_wp2_with fail;refine(vr l s _ hl).mono ?_;rintro e w2 ⟨rfl,ae⟩;clear x0 x1 r0 aj r1 ak;replace Hx:=kB Hx ae;replace Hr:=kB Hr ae;obtain⟨x0,x1⟩:=Hx.out.c2;obtain⟨r0,aj,r1,ak⟩:=Hr.out.g2;replace Hb:=au Hb ae;clear ae;go_wp2;refine bodyPost_ret (v:=cE (iv s l)) (by simp[results,Tryz.results114,go_sem,r0,r1]) rfl ⟨rfl,?_⟩;(repeat first|exact Hb.out| (refine Below.setCell ?_ (by have:=Hb.out.size;first| (dsimp only;omega) | (show _<=_;omega) | (simp<;>omega)) _) | (refine Below.alloc ?_ zt _) |refine Below.drew ?_)
def dW (n:Int):Int:=if n<0 then-1 else if n=0 then 0 else 1
theorem DZ (s:Bool)(l:List UInt8)(w:World)(hl:l.length<=1099511627776):
 Calls Tryz.prog 75 #[.agg #[.bool s,.string (bs l)]] w λe w'=>e=.returned (.int .i64 (dW (iv s l)))/\Bw w w':=by
 have hne:=sD (nt (iv s l).natAbs);by_cases hneg:iv s l<0
 . have hs:ar (iv s l)=true:=by simp[ar,hneg]
   have gg:Hid (dW (iv s l)= -1):=by show dW _=_;simp[dW,hneg]
   clear hneg hne;go_enter Tryz.func75,Tryz.ntmps75;have Hb:Hid (Bw w w):=Below.refl _ _;go_wp2_with fail;obtain⟨R,hR⟩:∃R:World->Prop,(λW=>ai W (w.heap.size) 28 [.bool s,.string (bs l)]/\Bw w W)=R:=⟨_,rfl⟩;first|refine bE R ?hR ?_|refine bD R ?hR ?_
   case hR=>subst hR;exact⟨(ai.newAt w _ _ (b:=w.heap.size) rfl),zl⟩
   subst hR;rintro W ⟨qx,ae⟩;have Hx:=ah qx;clear qx;obtain⟨x0,x1⟩:=Hx.out.c2;replace Hb:=au Hb ae;clear ae;go_wp2_with fail;refine(yb s l _ hl).mono ?_;rintro e w1 ⟨rfl,ae⟩;clear x0 x1;replace Hx:=kB Hx ae;obtain⟨x0,x1⟩:=Hx.out.c2;replace Hb:=au Hb ae;clear ae;go_wp2;go_ret;rw[gg.out];refine⟨rfl,?_⟩;exact Hb.out.alloc Hb.out.size _
 . have hs:ar (iv s l)=false:=by simp[ar,hneg]
   by_cases hz:iv s l=0
   . have gg:Hid (dW (iv s l)=0):=by show dW _=_;simp[dW,hz]
     have aif:(bs (nt (iv s l).natAbs)).toList.isEmpty=true:=by rw[hne,hz];rfl
     clear hneg hne hz;go_enter Tryz.func75,Tryz.ntmps75;have Hb:Hid (Bw w w):=Below.refl _ _;go_wp2_with fail;obtain⟨R,hR⟩:∃R:World->Prop,(λW=>ai W (w.heap.size) 28 [.bool s,.string (bs l)]/\Bw w W)=R:=⟨_,rfl⟩;first|refine bE R ?hR ?_|refine bD R ?hR ?_
     case hR=>subst hR;exact⟨(ai.newAt w _ _ (b:=w.heap.size) rfl),zl⟩
     subst hR;rintro W ⟨qx,ae⟩;have Hx:=ah qx;clear qx;obtain⟨x0,x1⟩:=Hx.out.c2;replace Hb:=au Hb ae;clear ae;go_wp2_with fail;refine(yb s l _ hl).mono ?_;rintro e w1 ⟨rfl,ae⟩;clear x0 x1;replace Hx:=kB Hx ae;obtain⟨x0,x1⟩:=Hx.out.c2;replace Hb:=au Hb ae;clear ae;go_wp2;go_ret;rw[gg.out];refine⟨rfl,?_⟩;exact Hb.out.alloc Hb.out.size _
   . have gg:Hid (dW (iv s l)=1):=by show dW _=_;simp[dW,hz,hneg]
     have aif:(bs (nt (iv s l).natAbs)).toList.isEmpty=false:=by
      rw[hne];cases hq:nt (iv s l).natAbs with
      |nil=>rw[NQ]at hq;omega
      |cons a b=>rfl
     clear hneg hne hz;go_enter Tryz.func75,Tryz.ntmps75;have Hb:Hid (Bw w w):=Below.refl _ _;go_wp2_with fail;obtain⟨R,hR⟩:∃R:World->Prop,(λW=>ai W (w.heap.size) 28 [.bool s,.string (bs l)]/\Bw w W)=R:=⟨_,rfl⟩;first|refine bE R ?hR ?_|refine bD R ?hR ?_
     case hR=>subst hR;exact⟨(ai.newAt w _ _ (b:=w.heap.size) rfl),zl⟩
     subst hR;rintro W ⟨qx,ae⟩;have Hx:=ah qx;clear qx;obtain⟨x0,x1⟩:=Hx.out.c2;replace Hb:=au Hb ae;clear ae;go_wp2_with fail;refine(yb s l _ hl).mono ?_;rintro e w1 ⟨rfl,ae⟩;clear x0 x1;replace Hx:=kB Hx ae;obtain⟨x0,x1⟩:=Hx.out.c2;replace Hb:=au Hb ae;clear ae;go_wp2;go_ret;rw[gg.out];refine⟨rfl,?_⟩;exact Hb.out.alloc Hb.out.size _
theorem ai8 (s:Bool)(l:List UInt8):iv (!s) l= -(iv s l):=by unfold iv;cases s<;>simp
theorem ZQ (s:Bool)(l:List UInt8)(w:World)(hl:l.length<=1099511627776):
 Calls Tryz.prog 107 #[.agg #[.bool s,.string (bs l)]] w λe w'=>e=.returned (cE (-(iv s l)))/\Bw w w':=by
 rw[<-ai8];go_enter Tryz.func107,Tryz.ntmps107;have Hb:Hid (Bw w w):=Below.refl _ _;go_wp2_with fail;obtain⟨R,hR⟩:∃R:World->Prop,(λW=>ai W (w.heap.size) 28 [.bool s,.string (bs l)]/\ai W (w.heap.size+1) 28 [.bool false,.string (bs [])]/\Bw w W)=R:=⟨_,rfl⟩;first|refine bE R ?hR ?_|refine bD R ?hR ?_
 case hR=>subst hR;exact⟨((ai.newAt w _ _ (b:=w.heap.size) rfl).alloc _),(ai.newAt (w.alloc _) _ _ (b:=w.heap.size+1) zm),(zl.alloc zj _)⟩
 subst hR;rintro W ⟨qx,qr,ae⟩;have Hx:=ah qx;clear qx;have Hr:=ah qr;clear qr;obtain⟨x0,x1⟩:=Hx.out.c2;obtain⟨r0,aj,r1,ak⟩:=Hr.out.g2;replace Hb:=au Hb ae;clear ae;go_wp2_with fail;refine(vr l (!s) _ hl).mono ?_;rintro e w1 ⟨rfl,ae⟩;clear x0 x1 r0 aj r1 ak;replace Hx:=kB Hx ae;replace Hr:=kB Hr ae;obtain⟨x0,x1⟩:=Hx.out.c2;obtain⟨r0,aj,r1,ak⟩:=Hr.out.g2;replace Hb:=au Hb ae;clear ae;go_wp2;refine bodyPost_ret (v:=cE (iv (!s) l)) (by simp[results,Tryz.results107,go_sem,r0,r1]) rfl ⟨rfl,?_⟩;(repeat first|exact Hb.out| (refine Below.setCell ?_ (by have:=Hb.out.size;first| (dsimp only;omega) | (show _<=_;omega) | (simp<;>omega)) _) | (refine Below.alloc ?_ zt _) |refine Below.drew ?_)
def GW (x:Bool×List UInt8):List Value:=[.bool x.1,.string (bs x.2)]
def kx (xs:List (Bool×List UInt8)):Int:=(xs.map λx=>iv x.1 x.2).sum
theorem ai6 (xs:List (Bool×List UInt8))(k:Nat)(hk:k<xs.length):kx (xs.take (k+1))=kx (xs.take k)+iv xs[k].1 xs[k].2:=by unfold kx;rw[List.take_succ_eq_append_getElem hk,List.map_append,List.sum_append];simp
theorem ai5 (xs:List (Bool×List UInt8))(B:Nat)(h:∀x∈xs,x.2.length<=B):(kx xs).natAbs<=xs.length*256^B:=by
 unfold kx;induction xs with
 |nil=>simp
 |cons x xs ih=>have h1:=fW x.2;have h2:256^x.2.length<=256^B:=Nat.pow_le_pow_right zd (h x zm);have h3:=ih (λm hm=>h m (by simp[hm]));have h4:=nO x.1 x.2;simp only[List.map_cons,List.sum_cons,List.length_cons];rw[Nat.add_mul,Nat.one_mul];omega
theorem ai4 (xs:List (Bool×List UInt8))(B N:Nat)(h:∀x∈xs,x.2.length<=B)(hx:xs.length<=1048576)(hN:B+3<=N):(nt (kx xs).natAbs).length<=N:=by refine iQ (Nat.lt_of_le_of_lt (ai5 xs _ h) ?_);refine Nat.lt_of_le_of_lt (Nat.mul_le_mul_right _ hx) ?_;rw[show(1048576:Nat) *256^B=2^20*256^B from rfl,show(256:Nat)=2^8 from rfl,<-Nat.pow_mul,<-Nat.pow_mul,<-Nat.pow_add];exact Nat.pow_lt_pow_right zd zo
theorem ai3 (xs:List (Bool×List UInt8))(h:∀x∈xs,x.2.length<=34359738368)(hx:xs.length<=1048576):(nt (kx xs).natAbs).length<=68719476736:=
 ai4 xs 34359738368 68719476736 h hx zd
theorem anD (xs:List (Bool×List UInt8))(a:Option Addr)(cap:Nat)(w:World)(hl:∀x∈xs,x.2.length<=34359738368)(hx:xs.length<=1048576)
 (ha:At w a (xs.flatMap GW)):
 Calls Tryz.prog 76 #[.slice a xs.length cap] w λe w'=>e=.returned (cE (kx xs))/\Bw w w':=by
 have Hl:=ah hl;clear hl;have Ha:=ah ha;clear ha;have AA:Hid (∀k,(nt (kx (xs.take k)).natAbs).length<=68719476736):=λk=>ai3 _ (λx hm=>Hl.out x (List.mem_of_mem_take hm)) (by rw[List.length_take];omega);go_enter Tryz.func76,Tryz.ntmps76;have Hb:Hid (Bw w w):=Below.refl _ _;go_wp2_with fail;obtain⟨R,hR⟩:∃R:World->Prop,(λW=>ai W (w.heap.size) 28 [.bool false,.string (bs [])]/\ai W (w.heap.size+1) 137 [.string (bs []),.bool false]/\Bw w W)=R:=⟨_,rfl⟩;first|refine bE R ?hR ?_|refine bD R ?hR ?_
 case hR=>subst hR;exact⟨((ai.newAt w _ _ (b:=w.heap.size) rfl).alloc _),(ai.newAt (w.alloc _) _ _ (b:=w.heap.size+1) zm),(zl.alloc zj _)⟩
 subst hR;rintro W ⟨qr,qs,ae⟩;have Hr:=ah qr;clear qr;have Hs:=ah qs;clear qs;obtain⟨r0,aj,r1,ak⟩:=Hr.out.g2;obtain⟨s0,cm,s1,cn⟩:=Hs.out.g2;replace Hb:=au Hb ae;clear ae
 go_loopw[5,8] (λ_ i wr=>∃(k:Nat) (t:Bool),k<=xs.length/\i=.int .i64 k/\iv t (nt (kx (xs.take k)).natAbs)=kx (xs.take k)/\ai wr w.heap.size 28 [.bool false,.string (bs [])]/\
  ai wr (w.heap.size+1) 137 [.string (bs (nt (kx (xs.take k)).natAbs)),.bool t]/\Bw w wr) (λ_ i _=>xs.length-(intOf i).toNat)
 case atStart=>exact⟨0,false,Nat.zero_le _,rfl,rfl,Hr.out,Hs.out,Hb.out⟩
 case round=>
  obtain⟨k,t,hk,rfl,fy,qr,qs,hb⟩:=hrel;obtain⟨Hr,Hs,Hb,gw⟩:=dH qr qs hb fy;clear qr qs hb fy;by_cases hlt:k<xs.length
  . obtain⟨b,o,hab,hcs⟩:=(Ha.out.below Hb.out).elem (f:=GW) (sz:=2) (λ_=>rfl) zd k hlt;have hc0:wr.cell? ⟨b,o+k*2,none⟩=some (.bool xs[k].1):=hcs 0 zd;have hc1:wr.cell? ⟨b,o+k*2+1,none⟩=some (.string (bs xs[k].2)):=hcs 1 zd;have bB:=tA xs.length cap k (k:Int) hab hlt rfl;have bX:=ah (ai6 xs k hlt);have jT:Hid (xs[k].2.length<=34359738368):=Hl.out _ (List.getElem_mem hlt);have jD:=ah (AA.out k);clear hcs hab;generalize xs[k]=x at*;obtain⟨t1,l1⟩:=x;generalize hS:kx (xs.take k)=S at*;have HS:=ah hS;clear hS;obtain⟨r0,aj,r1,ak⟩:=Hr.out.g2;obtain⟨s0,cm,s1,cn⟩:=Hs.out.g2;have Dh:=Hr.out.lt;have NH:=Hs.out.lt;go_wp2_with fail;obtain⟨R,hR⟩:∃R:World->Prop,(λW1=>ai W1 (wr.heap.size) 28 [.bool t1,.string (bs l1)]/\Bw wr W1)=R:=⟨_,rfl⟩;first|refine bE R ?hR ?_|refine bD R ?hR ?_
    case hR=>subst hR;exact⟨(ai.newAt wr _ _ (b:=wr.heap.size) rfl),zl⟩
    subst hR;rintro W1 ⟨qa,ae⟩;have Ha:=ah qa;clear qa r0 aj r1 ak;replace Hr:=kB Hr ae;obtain⟨r0,aj,r1,ak⟩:=Hr.out.g2;clear s0 cm s1 cn;replace Hs:=kB Hs ae;obtain⟨s0,cm,s1,cn⟩:=Hs.out.g2;obtain⟨a0,a1⟩:=Ha.out.c2;replace Hb:=au Hb ae;clear ae;go_region_with (first| (go_at_call 110;refine(IG l1 t1 _).mono ?_;rintro e w1 ⟨rfl,hq⟩;have hw1:Bw W1 w1:=aN hq;clear hq;have OH:w1.cell? ⟨w.heap.size+1,0,none⟩=some (.string (bs (nt S.natAbs))):=cell_later hw1 s0;have OI:w1.cell? ⟨w.heap.size+1,1,none⟩=some (.bool t):=cell_later hw1 s1;have ag5:=(Hs.out.below hw1).free 0;have ag7:=(Hs.out.below hw1).free 1) | (go_at_call 115;refine(alp (nt S.natAbs) l1 t t1 _ jD.out (by have:=jT.out;omega)).mono ?_;rintro e w2 ⟨rfl,hw2⟩;have amv:=cell_later hw2 OH;have amy:=cell_later hw2 OI;have ag6:=((Hs.out.below hw1).below hw2).free 0;have ag8:=((Hs.out.below hw1).below hw2).free 1))
    all_goals
     go_wp2
     go_roundw
     case rel=>have hq:=alC t (nt S.natAbs) t1 l1;rw[gw.out,<-bX.out]at hq;rw[gw.out,<-bX.out];refine⟨k+1,_,by omega,by go_num,hq,((((Hr.out.below hw1).below hw2).arF ⟨w.heap.size+1,0,none⟩ zp _).arF ⟨w.heap.size+1,1,none⟩ zp _),((((Hs.out.below hw1).below hw2).set 0 _).set 1 _),?_⟩;exact((aJ (aJ Hb.out hw1) hw2).setCell zp _).setCell zp _
     case measure=>simp[intOf];omega
  . obtain rfl:k=xs.length:=by omega
    rw[List.take_length]at Hs gw;have jD:=AA.out xs.length;rw[List.take_length]at jD;obtain⟨r0,aj,r1,ak⟩:=Hr.out.g2;obtain⟨s0,cm,s1,cn⟩:=Hs.out.g2;go_wp2_with fail;refine(vr (nt (kx xs).natAbs) t _ zo).mono ?_;rintro e w1 ⟨rfl,ae⟩;clear r0 aj r1 ak s0 cm s1 cn;replace Hr:=kB Hr ae;replace Hs:=kB Hs ae;obtain⟨r0,aj,r1,ak⟩:=Hr.out.g2;obtain⟨s0,cm,s1,cn⟩:=Hs.out.g2;replace Hb:=au Hb ae;clear ae;rw[gw.out];go_wp2;refine bodyPost_ret (v:=cE (kx xs)) (by simp[results,Tryz.results76,go_sem,r0,r1]) rfl ⟨rfl,?_⟩;(repeat first|exact Hb.out| (refine Below.setCell ?_ (by have:=Hb.out.size;first| (dsimp only;omega) | (show _<=_;omega) | (simp<;>omega)) _) | (refine Below.alloc ?_ zt _) |refine Below.drew ?_)
end Go.Proofs.YtdaadlblknpipaaGreatDoor
namespace Go.Proofs.YtdaadlblknpipaaGreatDoor
theorem Ap (n k:Int):(Dyadic.ofIntWithPrec n k).toRat=n*2^(-k):=Dyadic.toRat_ofIntWithPrec_eq_mul_two_pow
theorem alV :((2:Rat))≠0:=by decide
theorem xS (a b k:Int):Dyadic.ofIntWithPrec a k+Dyadic.ofIntWithPrec b k=Dyadic.ofIntWithPrec (a+b) k:=by rw[<-Dyadic.toRat_inj,Dyadic.toRat_add,Ap,Ap,Ap,Rat.intCast_add,Rat.add_mul]
theorem vD (a b j k:Int):Dyadic.ofIntWithPrec a j*Dyadic.ofIntWithPrec b k=Dyadic.ofIntWithPrec (a*b) (j+k):=by rw[<-Dyadic.toRat_inj,Dyadic.toRat_mul,Ap,Ap,Ap,Rat.intCast_mul,Int.neg_add,Rat.zpow_add alV];grind
theorem rG (a:Int)(n:Nat)(k:Int):Dyadic.ofIntWithPrec (a*2^n) (k+n)=Dyadic.ofIntWithPrec a k:=by have:=@Dyadic.ofIntWithPrec_shiftLeft_add a k n;rwa [Int.shiftLeft_eq]at this
theorem Il (a k:Int): -Dyadic.ofIntWithPrec a k=Dyadic.ofIntWithPrec (-a) k:=Dyadic.neg_ofIntWithPrec
theorem vE (k:Int):Dyadic.ofIntWithPrec 0 k=0:=Dyadic.ofIntWithPrec_zero
abbrev Raw:=Bool ×List UInt8×Int
def aC (x:Raw):Dyadic:=Dyadic.ofIntWithPrec (iv x.1 x.2.1) (-x.2.2)
def dN :Dyadic->Int
 | .zero=>0
 | .ofOdd n _ _=>n
def dE :Dyadic->Int
 | .zero=>0
 | .ofOdd _ k _=>-k
def canon (d:Dyadic):Raw:=(ar (dN d),nt (dN d).natAbs,dE d)
theorem bK (d:Dyadic):aC (canon d)=d:=by
 unfold aC canon;simp only[fc];cases d with
 |zero=>rfl
 |ofOdd n k hn=>simp only[dN,dE,Int.neg_neg];exact(Dyadic.ofOdd_eq_ofIntWithPrec).symm
theorem SX {n k:Int}(h:n≠0):dN (Dyadic.ofIntWithPrec n k)=n/2^n.trailingZeros/\dE (Dyadic.ofIntWithPrec n k)=n.trailingZeros-k:=by unfold Dyadic.ofIntWithPrec;rw[dif_neg h];simp only[dN,dE,Int.shiftRight_eq_div_pow];refine⟨by simp[Int.natCast_pow],by omega⟩
theorem KV :dN 0=0:=rfl
theorem afO :dE 0=0:=rfl
def Sm (B:Nat)(d:Dyadic):Prop:=∃m:Int,d=Dyadic.ofIntWithPrec m B/\m.natAbs<2^(2*B)
theorem Sm.zero (B:Nat):Sm B 0:=⟨0,(vE _).symm,Nat.pow_pos zd⟩
theorem Sm.mono {A B:Nat}{d:Dyadic}(h:Sm A d)(TF:A<=B):Sm B d:=by
 obtain⟨m,rfl,hm⟩:=h;obtain⟨j,rfl⟩:∃j,B=A+j:=⟨B-A,by omega⟩;refine⟨m*2^j,?_,?_⟩
 . rw[Int.natCast_add,rG]
 . rw[Int.natAbs_mul,Int.natAbs_pow];have:m.natAbs*2^j<2^(2*A) *2^j:=Nat.mul_lt_mul_of_pos_right hm (Nat.pow_pos zd);rw[<-Nat.pow_add]at this;exact Nat.lt_of_lt_of_le this (Nat.pow_le_pow_right zd zo)
theorem Sm.add {B:Nat}{a b:Dyadic}(ha:Sm B a)(hb:Sm B b):Sm (B+1) (a+b):=by
 obtain⟨m,rfl,hm⟩:=ha;obtain⟨n,rfl,hn⟩:=hb;refine⟨(m+n) *2^1,?_,?_⟩
 . rw[xS,Int.natCast_add];exact(rG _ 1 _).symm
 . rw[show 2* (B+1)=2*B+2 by omega,Nat.pow_add];omega
theorem Sm.neg {B:Nat}{a:Dyadic}(ha:Sm B a):Sm B (-a):=by obtain⟨m,rfl,hm⟩:=ha;exact⟨-m,Il _ _,by omega⟩
theorem Sm.sub {B:Nat}{a b:Dyadic}(ha:Sm B a)(hb:Sm B b):Sm (B+1) (a-b):=ha.add hb.neg
theorem Sm.mul {A B:Nat}{a b:Dyadic}(ha:Sm A a)(hb:Sm B b):Sm (A+B) (a*b):=by
 obtain⟨m,rfl,hm⟩:=ha;obtain⟨n,rfl,hn⟩:=hb;refine⟨m*n,?_,?_⟩
 . rw[vD,Int.natCast_add]
 . rw[Int.natAbs_mul,Nat.mul_add,Nat.pow_add];exact Nat.mul_lt_mul'' hm hn
theorem anr {n:Int}(h:n≠0):2^n.trailingZeros<=n.natAbs:=by
 have hd:=Int.two_pow_trailingZeros_dvd h;have h2:(2^n.trailingZeros:Nat)∣n.natAbs:=by have:=Int.natAbs_dvd_natAbs.2 hd;rwa [Int.natAbs_pow]at this
 exact Nat.le_of_dvd zo h2
theorem Sm.parts {B:Nat}{d:Dyadic}(h:Sm B d):(dN d).natAbs<2^(2*B)/\ -(B:Int)<=dE d/\dE d<=B:=by
 obtain⟨m,rfl,hm⟩:=h;by_cases h0:m=0
 . subst h0;rw[vE,KV,afO];exact⟨Nat.pow_pos zd,by omega,by omega⟩
 . obtain ⟨e1,e2⟩:=SX (k:=B) h0;have h1:=anr h0;have h2:m.trailingZeros<2*B:=by
    rcases Nat.lt_or_ge m.trailingZeros (2*B)with h|h
    . exact h
    . have:=Nat.pow_le_pow_right (show 0<2 by decide) h;omega
   rw[e1,e2];refine⟨?_,by omega,by omega⟩;obtain⟨q,hq⟩:=Int.two_pow_trailingZeros_dvd h0;have hp:(2:Int)^m.trailingZeros≠0:=by
    have:((2^m.trailingZeros:Nat):Int)≠0:=by have:=Nat.pow_pos (n:=m.trailingZeros) (show 0<2 by decide);omega
    simpa[Int.natCast_pow]using this
   have e3:m/2^m.trailingZeros=q:=by
    conv=>lhs;lhs;rw[hq]
    exact Int.mul_ediv_cancel_left _ hp
   rw[e3];have e4:m.natAbs=2^m.trailingZeros*q.natAbs:=by
    conv=>lhs;rw[hq]
    rw[Int.natAbs_mul,Int.natAbs_pow];rfl
   have:=Nat.pow_pos (n:=m.trailingZeros) (show 0<2 by decide);have:q.natAbs<=2^m.trailingZeros*q.natAbs:=Nat.le_mul_of_pos_left _ this;omega
def Ok (x:Raw):Prop:=x.2.1.length<=268435456/\ -268435456<=x.2.2/\x.2.2<=268435456
theorem jK {n k N:Nat}(h:n<2^k)(hN:k<=8*N):(nt n).length<=N:=
 iQ (Nat.lt_of_lt_of_le h (by rw[show(256:Nat)=2^8 by rfl,<-Nat.pow_mul];exact Nat.pow_le_pow_right zd hN))
theorem Sm.ok {B:Nat}{d:Dyadic}(h:Sm B d)(hB:B<=268435456):Ok (canon d):=by obtain⟨h1,h2,h3⟩:=h.parts;exact⟨jK h1 zo,by show-268435456<=dE d;omega,by show dE d<=268435456;omega⟩
theorem Sm.raw {x:Raw}{B:Nat}(hl:8*x.2.1.length<=B)(h1: -(B:Int)<=x.2.2)(h2:x.2.2<=B):Sm (2*B) (aC x):=by
 unfold aC;obtain⟨j,hj⟩:∃j:Nat,x.2.2+(2*B:Nat)=j:=⟨(x.2.2+(2*B:Nat)).toNat,by omega⟩;refine⟨iv x.1 x.2.1*2^j,?_,?_⟩
 . rw[<-rG (iv x.1 x.2.1) j (-x.2.2)];congr 1;omega
 . rw[Int.natAbs_mul,Int.natAbs_pow,nO];have hv:=fW x.2.1;rw[show(256:Nat)=2^8 by rfl,<-Nat.pow_mul]at hv;have:nv x.2.1*2^j<2^(8*x.2.1.length) *2^j:=Nat.mul_lt_mul_of_pos_right hv (Nat.pow_pos zd);rw[<-Nat.pow_add]at this;exact Nat.lt_of_lt_of_le this (Nat.pow_le_pow_right zd zo)
theorem Ok.sm {x:Raw}(h:Ok x):Sm 4294967296 (aC x):=Sm.raw (B:=2147483648) (by have:=h.1;omega) (by have:=h.2.1;omega) (by have:=h.2.2;omega)
def jR (g:Nat->Nat->Int)(k:Nat)(last:Int)(i j:Nat):Nat->Nat->Int:=λa b=>if k<a/\k<b/\(a<i\/a=i/\b<j)then bW g k a b/last else g a b
theorem alf (g:Nat->Nat->Int)(k:Nat)(last:Int):jR g k last (k+1) (k+1)=g:=by
 funext a b;unfold jR
 rw[if_neg zo]
theorem ald (g:Nat->Nat->Int)(k:Nat)(last:Int)(i j:Nat)(hi:k<i)(hj:k<j):(λa b=>if a=i/\b=j then bW g k i j/last else jR g k last i j a b)=jR g k last i (j+1):=by
 funext a b;unfold jR
 by_cases h:a=i/\b=j
 . obtain⟨rfl,rfl⟩:=h;rw[if_pos ⟨rfl,rfl⟩,if_pos ⟨hi,hj,.inr ⟨rfl,by omega⟩⟩]
 . rw[if_neg h];by_cases h2:k<a/\k<b/\(a<i\/a=i/\b<j)
   . rw[if_pos h2,if_pos ⟨h2.1,h2.2.1,by omega⟩]
   . rw[if_neg h2,if_neg (λh3=>h2 ⟨h3.1,h3.2.1,by omega⟩)]
theorem ale (g:Nat->Nat->Int)(k:Nat)(last:Int)(i n:Nat):∀a b,b<n->jR g k last i n a b=jR g k last (i+1) (k+1) a b:=by
 intro a b hb;unfold jR;by_cases h2:k<a/\k<b/\(a<i\/a=i/\b<n)
 . rw[if_pos h2,if_pos ⟨h2.1,h2.2.1,by omega⟩]
 . rw[if_neg h2,if_neg (λh3=>h2 ⟨h3.1,h3.2.1,by omega⟩)]
theorem alb (g:Nat->Nat->Int)(k:Nat)(last:Int)(n:Nat):∀a b,a<n->jR g k last n (k+1) a b=dz g k last a b:=by
 intro a b ha;unfold jR dz;by_cases h2:k<a/\k<b/\(a<n\/a=n/\b<k+1)
 . rw[if_pos h2,if_pos ⟨h2.1,h2.2.1⟩]
 . rw[if_neg h2,if_neg (λh3=>h2 ⟨h3.1,h3.2,by omega⟩)]
theorem alc (g:Nat->Nat->Int)(k:Nat)(last:Int)(i j:Nat):jR g k last i j i j=g i j/\jR g k last i j k k=g k k/\jR g k last i j i k=g i k/\jR g k last i j k j=g k j:=by unfold jR;refine⟨if_neg zo,if_neg zo,if_neg zo,if_neg zo⟩
theorem NT (g:Nat->Nat->Int)(k a b K:Nat)(h1:(g a b).natAbs<2^K)(h2:(g k k).natAbs<2^K)(h3:(g a k).natAbs<2^K)(h4:(g k b).natAbs<2^K):
 (g a b*g k k).natAbs<2^(2*K)/\(g a k*g k b).natAbs<2^(2*K)/\(bW g k a b).natAbs<2^(2*K+1):=by
 have e:2^(2*K)=2^K*2^K:=by rw[<-Nat.pow_add];congr 1;omega
 have m1:(g a b*g k k).natAbs<2^K*2^K:=by rw[Int.natAbs_mul];exact Nat.mul_lt_mul'' h1 h2
 have m2:(g a k*g k b).natAbs<2^K*2^K:=by rw[Int.natAbs_mul];exact Nat.mul_lt_mul'' h3 h4
 refine⟨by rw[e];exact m1,by rw[e];exact m2,?_⟩;rw[Nat.pow_succ,e];unfold bW;generalize g a b*g k k=x at*;generalize g a k*g k b=y at*;omega
theorem div_lt (x y:Int)(M:Nat)(h:x.natAbs<M):(x/y).natAbs<M\/¬y∣x:=by
 by_cases hd:y∣x
 . left;obtain⟨q,rfl⟩:=hd;by_cases hy:y=0
   . subst hy;simp;omega
   . rw[Int.mul_ediv_cancel_left _ hy];rw[Int.natAbs_mul]at h;have:1<=y.natAbs:=by omega
     have:=Nat.mul_le_mul_right q.natAbs this;omega
 . right;exact hd
theorem NY (a b k:Int):Dyadic.ofIntWithPrec a k-Dyadic.ofIntWithPrec b k=Dyadic.ofIntWithPrec (a-b) k:=by
 have h:Dyadic.ofIntWithPrec a k-Dyadic.ofIntWithPrec b k=Dyadic.ofIntWithPrec a k+ -Dyadic.ofIntWithPrec b k:=by grind
 rw[h,Il,xS];rfl
theorem afZ (n:Nat)(hn:1<=n)(bz:n<=4)(f:Nat->Nat->Int)(e:Nat->Nat->Dyadic)(q:Int)(h:∀a b,a<n->b<n->e a b=Dyadic.ofIntWithPrec (f a b) q):
 dw n e=Dyadic.ofIntWithPrec (eI n n 0 f 1 false) (n*q):=by
 have hc:n=1\/n=2\/n=3\/n=4:=by omega
 rcases hc with rfl|rfl|rfl|rfl
 . rw[aeo];unfold dw;simp only;rw[h 0 0 zo zo];congr 1;omega
 . rw[aep];unfold dw wJ;simp only;rw[h 0 0 zo zo,h 1 1 zo zo,h 0 1 zo zo,h 1 0 zo zo,vD,vD,NY];congr 1;omega
 . rw[aeq];unfold dw ik;simp only;rw[h 0 0 zo zo,h 1 1 zo zo,h 0 1 zo zo,h 1 0 zo zo,h 0 2 zo zo,h 2 0 zo zo,h 1 2 zo zo,h 2 1 zo zo,h 2 2 zo zo];simp only[vD,NY,xS];congr 1;omega
 . rw[aes];unfold dw eU;simp only;rw[h 0 0 zo zo,h 1 1 zo zo,h 0 1 zo zo,h 1 0 zo zo,h 0 2 zo zo,h 2 0 zo zo,h 1 2 zo zo,h 2 1 zo zo,h 2 2 zo zo];rw[h 0 3 zo zo,h 1 3 zo zo,h 2 3 zo zo,h 3 0 zo zo,h 3 1 zo zo,h 3 2 zo zo,h 3 3 zo zo];simp only[vD,NY,xS];congr 1;omega
theorem Tt (n:Nat)(hn:1<=n)(bz:n<=4)(f:Nat->Nat->Int):gj n n 0 f 1:=by
 have hc:n=1\/n=2\/n=3\/n=4:=by omega
 rcases hc with rfl|rfl|rfl|rfl
 . exact agF f
 . exact agG f
 . exact agH f
 . exact agI f
end Go.Proofs.YtdaadlblknpipaaGreatDoor
