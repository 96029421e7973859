/- Package simp: Products. -/
import Derived.Test.YtnjfebkelecgaaaGreatDoorZ11
import Derived.Test.YtnjfebkelecgaaaGreatDoorZ20
import Derived.Maps.AppendAt
import Derived.Maps.OwnIn
import Derived.Test.YtnjfebkelecgaaaGreatDoorZ7
import Derived.Test.YtnjfebkelecgaaaGreatDoorZ9
import Derived.Maps.Own
import Derived.Maps.Views
import Derived.Maps.Keyed
import Derived.Maps.OwnSet
import Derived.Carry
import Derived.Lib.BufferWrite
import Derived.Deep.WholeRow
import Derived.Test.YtnjfebkelecgaaaGreatDoorZ12
set_option linter.all false
set_option maxRecDepth 100000
set_option maxHeartbeats 16000000
namespace Go.Proofs.YtnjfebkelecgaaaGreatDoor
open Go.RowKit Go.Shelf
def Tryz.aCK :(Tryz.prog.info? 9).map (λi=>(i.zero,i.size,i.bytes))=some (some (.string (bs [])),1,16):=by kernel_rfl
def Kc (v d:Int):List (List Nat):=if 1<=v/\v<=8/\0<=d/\d<=20/\cnt v.toNat d.toNat<=512 then bZ (v.toNat+1) d.toNat else[]
def Wu (b n₀:Nat)(pre:List (List Nat))(Z:Nat->Prop)(W:World):Prop:=
 ∃v,aH W b 53 [v]/\n₀<=b/\n₀<=W.heap.size/\W.ownsRow n₀ 9 1 v pre.length (pre.map λx=>.string (ex x))/\Z=λk=>k=b\/v.ownBlock=some k
def auX (b n₀:Nat)(pre:List (List Nat)):wH (Wu b n₀ pre):=by rintro Z W W' ⟨v,hB,h1,h2,ho,rfl⟩ hc;exact⟨v,hc.blk hB (λh=>h (.inl rfl)),h1,Nat.le_trans h2 hc.size,Ez ho hc (λk hk h=>h (.inr hk)),rfl⟩
def auW (b n₀:Nat)(pre:List (List Nat)):Gj (Wu b n₀ pre):=by
 rintro Z W ⟨v,hB,h1,h2,ho,rfl⟩ k (rfl|hk)
 . exact hB.lt
 . exact(ho.lt k hk).2
attribute [local go_sem] Oper.semAt_some
def au1 (V D:Nat)(w:World)(hV:1<=V)(hV2:V<=8)(hD:D<=20)(hc:cnt V D<=512):
 Cl 21 #[ah (V:Int),ah (D:Int)] w λe w'=>∃v,e=.returned v/\w'.ownsRow w.heap.size 9 1 v (bZ (V+1) D).length ((bZ (V+1) D).map λx=>.string (ex x))/\Bw w w':=by
 obtain⟨i0,hi,hz0,hz1,hz2⟩:=info_parts Tryz.aCK;have hcl:(bZ (V+1) D).length<=512:=by rw[lv];exact hc
 have mn:decide (1<=(V:Int)/\(V:Int)<=8/\0<=(D:Int)/\(D:Int)<=20)=true:=by simp;omega
 have hw1:IntKind.i64.wrap ((V:Int)+1)=((V+1:Nat):Int):=by rw[IntKind.wrap_i64];omega
 have hmin:((min (cnt (V+1-1) D) 513:Nat):Int)<=512:=by rw[Nat.add_sub_cancel];omega
 generalize hM:((min (cnt (V+1-1) D) 513:Nat):Int)=M at hmin;generalize hV1:((V+1:Nat):Int)=V1 at hw1;refine callsIn_wide (n:=0).1 ?_;refine callsIn_of_wp_marks Tryz.func21 rfl trivial ?_ rfl;simp only[Tryz.ntmps21,List.size_toArray,List.length_cons,List.length_nil,Nat.reduceAdd,Nat.reduceSub,Array.replicate_succ,Array.replicate_zero,List.push_toArray,List.append_toArray,List.nil_append,List.cons_append];gi_wp2
 refine⟨trivial,rfl,?_⟩;refine(callsIn_wide.2 (JN V D w)).mono ?_;rintro e w' ⟨rfl,rfl⟩;rw[mn];gi_wp2
 refine⟨trivial,rfl,?_⟩;rw[<-hV1];refine(callsIn_wide.2 (Oo (V+1) D w' zo zo hD)).mono ?_;rintro e w ⟨rfl,rfl⟩;rw[hM,hV1];gi_wp2
 refine⟨trivial,rfl,?_⟩;obtain⟨W0,hW0⟩:=aI (w.alloc (.cells #[.slice none 0 0] 53));have lW:aH W0 w.heap.size 53 [.slice none 0 0]:=by rw[<-hW0];exact aH.new _ _ _
 have Iw:Bw w W0:=by rw[<-hW0];exact zl
 rw[hW0];refine(callsIn_wide.2 (agV V1 D W0)).mono ?_;rintro e w1 ⟨rfl,bX,eF,vv⟩;have hl0:=lW.lt;have hl2:=eF.lt;gi_wp2
 refine ah8 (gf:=108) (lb:=#[.pointer (some ⟨W0.heap.size,0,none⟩),.pointer (some ⟨W0.heap.size+1,0,none⟩)]) rfl (enters_of Tryz.func108 zk rfl)
  (av6 V zo W0.heap.size (W0.heap.size+1) D zo) (λ_=>rfl) (Wu w.heap.size w.heap.size) (auX _ _) (auW _ _)
  (λb=>b=w.heap.size\/(Value.slice none 0 0).ownBlock=some b) ?h0 ?hok ?a1 ?assign ?body ?done
 case a1=>exact λx=>{tmps:=#[ah (V:Int),ah (D:Int),undef,undef,.slice none 0 0,.pointer (some ⟨w.heap.size,0,none⟩),.string (ex x),ah (V:Int),ah (D:Int),aj true,aj false,aj false,ah (V:Int),ah V1,ah (D:Int),ah M,aj (decide (512<M)),aj (decide (512<M)),ah (V:Int),ah V1,ah (D:Int),.func (.func 108) #[] #[.pointer (some ⟨W0.heap.size,0,none⟩),.pointer (some ⟨W0.heap.size+1,0,none⟩)],.string (ex x),undef,undef,undef,undef,undef],defers:=[]}
 case h0=>exact⟨_,lW.below vv,Nat.le_refl _,Nat.le_trans Iw.size vv.size,World.ownsRow_nil _ _ _ _,rfl⟩
 case hok=>
  intro W1 hg;have hbb:Bw w1 W1:=⟨hg.os,hg.tape,hg.output,hg.size,λk hk=>hg.block k hk (λe=>by cases e)⟩;refine⟨by rw[hV1];exact bX.below hbb,eF.below hbb,?_,?_⟩
  . rintro((h|h) |h|h)
    . omega
    . simp[Value.ownBlock]at h
    . omega
    . omega
  . rintro((h|h) |h|h)
    . omega
    . simp[Value.ownBlock]at h
    . omega
    . omega
 case assign=>
  intro m' l' x W' K hK;gi_wp2
  exact hK
 case body=>
  rintro m' l' pre x Zb Wb ⟨v,hBb,iB,iO,ho,rfl⟩ hpre hzb arJ;have aAw:pre.length+1<=512:=by have:=hpre.length_le;simp at this;omega
  obtain⟨X,hX⟩:=aI (ex x);rw[hX];have HX:=az hX;clear hX;obtain⟨W2,hW2⟩:=aI (Wb.alloc (.cells #[.string X] 9));have hb2:Bw Wb W2:=by rw[<-hW2];exact zl
  have Tk:aH W2 Wb.heap.size 9 [.string X]:=by rw[<-hW2];exact aH.new _ _ _
  have dX:W2.ownsRow w.heap.size 9 1 v pre.length (pre.map λx=>.string (ex x)):=by rw[<-hW2];exact ho.alloc _
  have abP:=hBb.below hb2;have c0:Wb.cell? ⟨w.heap.size,0,none⟩=some v:=hBb.cell 0;have lb:=hBb.lt;have hnews:∀j u,([.string X]:List Value)[j]?=some u->W2.cell? ((⟨Wb.heap.size,0,none⟩:Addr).add j)=some u:=by
   intro j u hj;cases j with
   |zero=>simp at hj;subst hj;exact Tk.cell 0
   |succ j=>simp at hj
  have hbv:some w.heap.size≠v.ownBlock:=Boxed.not_row (t:=53) hBb zd ho;gi_wp2_with (gi_at_builtin;refine wpListIn_append_own_at _ rfl _ _ 53 rfl w.heap.size 9 i0 (.string (bs [])) 1 16 Tryz.underlying53 hi hz0 hz1 hz2 rfl zd v pre.length _ rfl dX ⟨Wb.heap.size,0,none⟩ 1 1 [.string X] rfl rfl hnews zy zx zo (by have:=hb2.size;omega) ?_;intro v' w3 nu hg3 _ eY;obtain⟨g',cap',rfl⟩:=ownsRow_succ nu;have ma:aH w3 w.heap.size 53 [v]:=(hg3.block w.heap.size abP.lt hbv).trans abP;have c3:w3.cell? ⟨w.heap.size,0,none⟩=some v:=ma.cell 0;have f3:w3.frozen? ⟨w.heap.size,0,none⟩=false:=ma.free 0)
  have hnb:some w.heap.size≠(Value.slice (some ⟨g',0,none⟩) (pre.length+1) cap').ownBlock:=Boxed.not_row (t:=53) ma zd nu;refine⟨_,⟨_,ma.set 0 _,iB,?_,?_,rfl⟩,?_,?_⟩
  . exact Nat.le_trans iO (Nat.le_trans hb2.size (Nat.le_trans hg3.size (grownBy_setCell' w3 _ _).size))
  . have:=nu.kept (grownBy_setCell' w3 w.heap.size (Value.slice (some ⟨g',0,none⟩) (pre.length+1) cap')) (.inr hnb.symm);rw[<-HX.out]at this;simpa using this
  . refine((Chg.of_below hb2).trans (Chg.aCn (Y:=λk=>k=w.heap.size\/v.ownBlock=some k) hg3 (λb e=>.inr e)) (λb h=>.inl h)).trans (Chg.aCn (Y:=λk=>k=w.heap.size\/v.ownBlock=some k) (grownBy_setCell' w3 w.heap.size _) (λb e=>by cases e;exact .inl rfl)) (λb h=>.inl h)
  . rintro k (h|h)
    . exact .inl (.inl h)
    . rcases eY with h1|h1
      . rw[h1]at h;exact .inl (.inr h)
      . rw[h1]at h;cases h;exact .inr hb2.size
 case done=>
  rintro W3 ⟨Z3,⟨⟨v,hBb,iB,iO,ho,rfl⟩,hK,hz3⟩,hc3,hz4⟩;have c0:W3.cell? ⟨w.heap.size,0,none⟩=some v:=hBb.cell 0;obtain⟨a0,Mf,rfl,hat,_⟩:=dm ho;gi_wp2
  refine aft [w1.heap.size] W3 zm (λD hD=>by simp at hD;subst hD;exact hK) (λw' hc=>?_);refine⟨_,results_tmp rfl _ _ _,_,rfl,Ez ho hc (λk hk hm=>?_),?_⟩
  . simp at hm;subst hm;rcases hz3 _ (.inr hk)with(h1|h1) |h1
    . omega
    . simp[Value.ownBlock]at h1
    . omega
  . have b1:Below w.heap.size w1 W3:=hc3.below zo (λb h=>by rcases h with h|h;omega;simp[Value.ownBlock]at h);have b2:Below w.heap.size W3 w':=hc.below iO (λb h=>by simp at h;omega);exact((Iw.trans (vv.mono zo)).trans b1).trans b2
section
attribute [local go_sem ↓] Go.wp_at_zero Go.wp_at_succ
def au2 (v d:Int)(w:World)(h:¬(1<=v/\v<=8/\0<=d/\d<=20)):
 Cl 21 #[ah v,ah d] w λe w'=>e=.returned (.slice none 0 0)/\w'=w:=by
 have h1:decide (1<=v/\v<=8/\0<=d/\d<=20)=false:=decide_eq_false h;go_enter Tryz.func21,Tryz.ntmps21;go_wp2_with fail;refine(JN v d w).mono ?_;rintro e w' ⟨rfl,rfl⟩;rw[h1];go_wp2;go_ret;exact⟨rfl,rfl⟩
def au0 (V D:Nat)(w:World)(hV:1<=V)(hV2:V<=8)(hD:D<=20)(hc:¬cnt V D<=512):
 Cl 21 #[ah (V:Int),ah (D:Int)] w λe w'=>e=.returned (.slice none 0 0)/\w'=w:=by
 have mn:decide (1<=(V:Int)/\(V:Int)<=8/\0<=(D:Int)/\(D:Int)<=20)=true:=by simp;omega
 have hw1:IntKind.i64.wrap ((V:Int)+1)=((V+1:Nat):Int):=by rw[IntKind.wrap_i64];omega
 have hmin:((min (cnt (V+1-1) D) 513:Nat):Int)=513:=by rw[Nat.add_sub_cancel];omega
 generalize hV1:((V+1:Nat):Int)=V1 at hw1;go_enter Tryz.func21,Tryz.ntmps21;go_wp2_with fail;refine(JN V D w).mono ?_;rintro e w' ⟨rfl,rfl⟩;rw[mn];go_wp2_with fail;rw[<-hV1];refine(Oo (V+1) D w' zo zo hD).mono ?_;rintro e w ⟨rfl,rfl⟩;rw[hmin];go_wp2;go_ret;exact⟨rfl,rfl⟩
end
def auZ (v d:Int)(w:World):
 Cl 21 #[ah v,ah d] w λe w'=>∃a cap,e=.returned (.slice a (Kc v d).length cap)/\At w' a ((Kc v d).map λx=>.string (ex x))/\(∀b o,a=some ⟨b,o,none⟩->w.heap.size<=b)/\Bw w w':=by
 unfold Kc;by_cases h:1<=v/\v<=8/\0<=d/\d<=20
 . obtain⟨V,rfl⟩:∃V:Nat,v=V:=⟨v.toNat,by omega⟩;obtain⟨D,rfl⟩:∃D:Nat,d=D:=⟨d.toNat,by omega⟩;simp only[Int.toNat_natCast];by_cases hc:cnt V D<=512
   . rw[if_pos ⟨h.1,h.2.1,h.2.2.1,h.2.2.2,hc⟩];refine(au1 V D w zo zo zo hc).mono ?_;rintro e w' ⟨v,rfl,ho,hb⟩;obtain⟨a,cap,rfl,hat,Ir⟩:=dm ho;exact⟨a,cap,rfl,hat,Ir,hb⟩
   . rw[if_neg (λh2=>hc h2.2.2.2.2)];refine(au0 V D w zo zo zo hc).mono ?_;rintro e w' ⟨rfl,rfl⟩;exact⟨none,0,rfl,At.nil _ _,(λb o e=>by cases e),Below.refl _ _⟩
 . rw[if_neg (λh2=>h ⟨h2.1,h2.2.1,h2.2.2.1,h2.2.2.2.1⟩)];refine(au2 v d w h).mono ?_;rintro e w' ⟨rfl,rfl⟩;exact⟨none,0,rfl,At.nil _ _,(λb o e=>by cases e),Below.refl _ _⟩
end Go.Proofs.YtnjfebkelecgaaaGreatDoor
namespace Go.Proofs.YtnjfebkelecgaaaGreatDoor
open Go.RowKit
attribute [local go_sem ↓] Go.wp_at_zero Go.wp_at_succ
def Gx (v d:Int)(n:Nat):Int:=if ¬(1<=v/\v<=8/\0<=d/\d<=20)then 1 else if 512<cnt v.toNat d.toNat then 3 else if n=cnt v.toNat d.toNat then 0 else 1
def aaP (v d:Int)(a:Option Addr)(n cap:Nat)(c:Int)(hc:Gx v d n=c)(w:World):
 Cv 61 #[.agg #[ah v,ah d,.slice a n cap]] w (ah c):=by
 by_cases h:1<=v/\v<=8/\0<=d/\d<=20
 . have h1:decide (1<=v/\v<=8/\0<=d/\d<=20)=true:=decide_eq_true h;obtain⟨V,rfl⟩:∃V:Nat,v=V:=⟨v.toNat,by omega⟩;obtain⟨D,rfl⟩:∃D:Nat,d=D:=⟨d.toNat,by omega⟩;have hw1:IntKind.i64.wrap ((V:Int)+1)=((V+1:Nat):Int):=by rw[IntKind.wrap_i64];omega
   obtain⟨V1,hV1⟩:=aI ((V+1:Nat):Int);obtain⟨M,hM⟩:=aI ((min (cnt (V+1-1) D) 513:Nat):Int);have FI:Hid (∀W,Cv 43 #[ah V1,ah (D:Int)] W (ah M)):=λW=>by rw[<-hV1,<-hM];exact(Oo (V+1) D W zo zo zo).mono (λe w' h=>⟨h.1,by rw[h.2];exact Below.refl _ _⟩)
   rw[hV1]at hw1;unfold Gx at hc;rw[if_neg (by simp only[Decidable.not_not];exact h)]at hc;simp only[Int.toNat_natCast]at hc;rw[Nat.add_sub_cancel]at hM;have kg:=az (JN V D);by_cases hb:512<cnt V D
   . have qD:M=513:=by omega
     rw[if_pos hb]at hc;subst qD;subst hc;clear hM h;go_enter Tryz.func61,Tryz.ntmps61;have Hb:=hbz w;go_wp2_with fail;refine il w (Hb.an trivial) 34 [ah V,ah D,.slice a n cap] λW bi ag aC=>?_;go_wp2_with fail;refine(kg.out W).mono ?_;rintro e w1 ⟨rfl,rfl⟩;rw[h1];go_wp2_with fail;refine aZ ag (FI.out _) λw2 ag aC=>?_;go_wp2;go_ret;exact⟨rfl,ag.2.1.out⟩
   . have qD:M=(cnt V D:Int):=by omega
     have DG:M<=512:=by omega
     rw[if_neg hb]at hc;by_cases he:n=cnt V D
     . rw[if_pos he]at hc;subst hc;have hnM:(n:Int)=M:=by omega
       clear hM h qD hb he;go_enter Tryz.func61,Tryz.ntmps61;have Hb:=hbz w;go_wp2_with fail;refine il w (Hb.an trivial) 34 [ah V,ah D,.slice a n cap] λW bi ag aC=>?_;go_wp2_with fail;refine(kg.out W).mono ?_;rintro e w1 ⟨rfl,rfl⟩;rw[h1];go_wp2_with fail;refine aZ ag (FI.out _) λw2 ag aC=>?_;go_wp2_with fail;refine dG 999 ag (dD 11 0x1513100f0d0b0907050301) ?_;refine bU ?_;refine cz ag (FI.out _) λw3 ag=>?_;refine bU ?_;refine dF ag λaC=>?_;go_wp2;go_ret;exact⟨rfl,ag.2.1.out⟩
     . rw[if_neg he]at hc;subst hc;have hnM:¬(n:Int)=M:=by omega
       have aAq:((n:Int) !=M)=true:=by simp[hnM]
       clear hM h qD hb he;go_enter Tryz.func61,Tryz.ntmps61;have Hb:=hbz w;go_wp2_with fail;refine il w (Hb.an trivial) 34 [ah V,ah D,.slice a n cap] λW bi ag aC=>?_;go_wp2_with fail;refine(kg.out W).mono ?_;rintro e w1 ⟨rfl,rfl⟩;rw[h1];go_wp2_with fail;refine aZ ag (FI.out _) λw2 ag aC=>?_;go_wp2_with fail;refine dG 999 ag (dD 11 0x1513100f0d0b0907050301) ?_;refine bU ?_;refine cz ag (FI.out _) λw3 ag=>?_;refine bU ?_;refine dF ag λaC=>?_;go_wp2;go_ret;exact⟨rfl,ag.2.1.out⟩
 . have h1:decide (1<=v/\v<=8/\0<=d/\d<=20)=false:=decide_eq_false h;unfold Gx at hc;rw[if_pos h]at hc;subst hc;have kg:=az (JN v d);clear h;go_enter Tryz.func61,Tryz.ntmps61;have Hb:=hbz w;go_wp2_with fail;refine il w (Hb.an trivial) 34 [ah v,ah d,.slice a n cap] λW bi ag aC=>?_;go_wp2_with fail;refine(kg.out W).mono ?_;rintro e w1 ⟨rfl,rfl⟩;rw[h1];go_wp2;go_ret;exact⟨rfl,ag.2.1.out⟩
end Go.Proofs.YtnjfebkelecgaaaGreatDoor
namespace Go.Proofs.YtnjfebkelecgaaaGreatDoor
open Go.RowKit
def Tryz.aCQ (w:World):(zeroValue 3).run Tryz.prog w=.ok (ah 0) w:=by obtain⟨i0,hi,hz0,hz1,hz2⟩:=info_parts (show(Tryz.prog.info? 3).map (λi=>(i.zero,i.size,i.bytes))=some (some (ah 0),1,8)by kernel_rfl);simp[zeroValue,typeInfo,hi,hz0]
def Mp (W:World)(b n:Nat)(f:List UInt8->Nat):Prop:=
 ∃D:DataW Unit,W.ownsMap Tryz.prog 9 (plainElem Tryz.prog 3) b n D/\Maps.IsMap D/\∀l,D.atKey (.string l) (.lit (.int .i64 0))=.lit (.int .i64 (f l:Int))
def Mp.made (w:World):Mp (w.alloc (.map #[] 0)) w.heap.size 0 (λ_=>0):=
 ⟨.map [],World.ownsMap_made w _ _ _,⟨_,rfl⟩,λ_=>rfl⟩
def Mp.lt {W:World}{b n:Nat}{f:List UInt8->Nat}(h:Mp W b n f):b<W.heap.size:=by obtain⟨D,h1,_⟩:=h;exact h1.lt
def Mp.kept {W W':World}{b n:Nat}{f:List UInt8->Nat}{r:Option Nat}(h:Mp W b n f)(hg:W.grownBy W' r)(hne:some b≠r):Mp W' b n f:=by obtain⟨D,h1,h2⟩:=h;exact⟨D,h1.kept hg hne,h2⟩
def Mp.below {W W':World}{b n:Nat}{f:List UInt8->Nat}(h:Mp W b n f)(hb:Bw W W'):Mp W' b n f:=
 h.kept (r:=none) ⟨hb.os,hb.tape,hb.output,hb.size,λk hk _=>hb.block k hk⟩ zm
instance {w :World} {b n:Nat} {f:List UInt8->Nat}:QTr (Mp w b n f) w (λW=>Mp W b n f):=⟨λh _ k=>Mp.below h k⟩
def kM {w w':World}{b n:Nat}{f:List UInt8->Nat}(h:Hid (Mp w b n f))(k:Bw w w'):Hid (Mp w' b n f):=h.out.below k
def afr (l:List UInt8)(hl:l.length<=maxLen):keyOf Tryz.prog 9 (ai l)=some (.string l):=by have:=WideMaps.keyOf_string_mk (P:=Tryz.prog) Tryz.underlying9 (s:=bs l) (by rw[gY];exact hl);exact this
def Mp.look {W:World}{b n:Nat}{f:List UInt8->Nat}(h:Mp W b n f)(l:List UInt8)(hl:l.length<=maxLen):
 (Instr.lookup 160 (.map (some b)) (ai l) false).run Tryz.prog W=.ok (ah (f l:Int)) W:=by
 obtain⟨D,h1,h2,h3⟩:=h;obtain⟨c,hrun,hat,hwc⟩:=h1.lookup_int (t:=160) (e:=3) (q:=.i64) (Maps.string_keyed Tryz.underlying9) Tryz.underlying160 Tryz.underlying3 (Tryz.aCQ W) (afr l hl);rw[h3 l]at hat;cases hat
 exact hrun
def Mp.put {W:World}{b n:Nat}{f:List UInt8->Nat}(h:Mp W b n f)(hn:n<maxLen)(l:List UInt8)(hl:l.length<=maxLen)(i:Nat)(hi:i<9223372036854775808):
 ∃w',(Instr.mapUpdate 160 (.map (some b)) (ai l) (ah (i:Int))).run Tryz.prog W=.ok () w'/\Mp w' b (n+1) (λl'=>if l'=l then i else f l')/\W.grownBy w' (some b):=by
 obtain⟨D,h1,h2,h3⟩:=h
 obtain⟨w',hrun,ho,hg⟩:=h1.update (t:=160) (e:=3) (Maps.string_keyed Tryz.underlying9) Tryz.underlying160 hn (afr l hl) (plainElem_int Tryz.underlying3 (show(Lit.int .i64 (i:Int)).wf=true by
  have h1:IntKind.i64.min= -9223372036854775808:=rfl;have h2:IntKind.i64.max=9223372036854775807:=rfl
  simp[Lit.wf];omega))
 refine⟨w',hrun,⟨_,ho,ho.isMap,λl'=>?_⟩,hg⟩;show _=DataW.lit (Lit.int .i64 ((if l'=l then i else f l':Nat):Int))
 by_cases e:l'=l
 . subst e;rw[if_pos rfl,Maps.atKey_put_same h2 (by simp[WideAt.IsKeyLit])]
 . rw[if_neg e,Maps.atKey_put_other (by intro h;cases h;exact e rfl)];exact h3 l'
end Go.Proofs.YtnjfebkelecgaaaGreatDoor
namespace Go.Proofs.YtnjfebkelecgaaaGreatDoor
open Go.RowKit
attribute [local go_sem ↓] Go.wp_at_zero Go.wp_at_succ
def Mp.set {W:World}{b n:Nat}{f:List UInt8->Nat}(h:Mp W b n f)(a:Addr)(hne:b≠a.block)(u:Value):Mp (W.setCell a u) b n f:=by obtain⟨D,h1,h2⟩:=h;exact⟨D,h1.setCell hne u,h2⟩
def place (xs:List (List UInt8)):Nat->List UInt8->Nat
 |0,_=>0
 |k+1,l=>if l=xs.getD k []then k else place xs k l
def auE (xs:List (List UInt8))(k:Nat)(hk:k<xs.length):place xs (k+1)=λl=>if l=xs[k]then k else place xs k l:=by
 funext l
 simp[place,hk]
def Bd {α:Type}(f:α->Value)(xs:List α):xs.flatMap (λx=>[f x])=xs.map f:=by
 induction xs with
 |nil=>rfl
 |cons x xs ih=>simp[ih]
def fF (l:List UInt8):List Value:=l.map λu=>.int .u8 (u.toNat:Int)
def anO (l:List UInt8):fF l=cZ l.length (λj=>(l.getD j 0).toNat):=by
 apply List.ext_getElem?;intro j;by_cases h:j<l.length
 . rw[mG _ _ _ h];simp[fF,h]
 . simp[fF,cZ,h]
def axM {w:World}{b:Nat}{t:TypeId}{l:List UInt8}(h:aH w b t (fF l))(cap:Nat):
 (convert 84 9 (.slice (some ⟨b,0,none⟩) l.length cap)).run Tryz.prog w=.ok (ai l) w:=by
 rw[anO]at h;rw[uH h cap];congr 2;congr 1;apply List.ext_getElem?;intro j;by_cases h:j<l.length
 . simp[h]
 . simp[h]
def tH (ds:List Dyadic)(i:Nat)(x:Dyadic):List Dyadic:=ds.set i (ds.getD i 0+x)
def Gq (ds:List Dyadic)(i:Nat)(x:Dyadic):(tH ds i x).length=ds.length:=by simp[tH]
def amo {B:Nat}{ds:List Dyadic}(h:∀d∈ds,Sm B d)(i:Nat){x:Dyadic}(hx:Sm B x):∀d∈tH ds i x,Sm (B+1) d:=by
 intro d hd;unfold tH at hd;rcases List.mem_or_eq_of_mem_set hd with h1|h1
 . exact(h d h1).mono zo
 . subst h1;by_cases hi:i<ds.length
   . have e:ds.getD i 0=ds[i]:=by simp[hi]
     rw[e];exact Sm.add (h _ (List.getElem_mem hi)) hx
   . have e:ds.getD i 0=0:=by simp[hi]
     rw[e];exact Sm.add (Sm.zero _) hx
def Chg.tab {Y:Nat->Prop}{w w':World}(h:Chg Y w w')(hT:aR w)(hy:¬Y 0):aR w':=λj hj=>h.cell (hT j hj) hy
def Chg.mp {Y:Nat->Prop}{w w':World}(h:Chg Y w w'){b n:Nat}{f:List UInt8->Nat}(hm:Mp w b n f)(hy:¬Y b):Mp w' b n f:=by obtain⟨D,⟨es,clock,hb,F,hs,hD⟩,h2⟩:=hm;exact⟨D,⟨es,clock,(h.block b (Array.getElem?_eq_some_iff.1 hb).1 hy).trans hb,F,hs,hD⟩,h2⟩
def anN (l:List UInt8)(k:Nat)(u:UInt8):(fF l).set k (.int .u8 (u.toNat:Int))=fF (l.set k u):=by unfold fF;rw[List.map_set]
def auF (a:Option Addr)(cap N:Nat)(xs:List (List UInt8))(hN:xs.length=N)(hx:N<=512)(hlen:∀l∈xs,l.length<=255)(w:World)(hat:At w a (xs.map λl=>Value.string (bs l))):
 Cl 127 #[.slice a N cap] w λe w'=>∃bm,e=.returned (.map (some bm))/\(Mp w' bm N (place xs N)/\w.heap.size<=bm)/\Bw w w':=by
 subst hN;obtain⟨eZ,jQ⟩:=aU hat hlen;clear hat hlen;have hmm:=@run_makeMap Tryz.prog;go_enter Tryz.func127,Tryz.ntmps127;go_wp2_with fail;refine eO (λW2=>Mp W2 w.heap.size 0 (λ_=>0)/\Bw w W2) ⟨Mp.made w,zl⟩ ?_;rintro W2 ⟨qm,hb2⟩;go_loopw[9] (λi wr=>∃k:Nat,k<=xs.length/\i=ah (k:Int)/\Mp wr w.heap.size k (place xs k)/\Bw w wr) (λi _=>xs.length-(intOf i).toNat);case atStart=>exact⟨0,Nat.zero_le _,rfl,qm,hb2⟩
 case round=>
  obtain⟨k,hk,rfl,pm,hb3⟩:=hrel;by_cases hlt:k<xs.length
  . have jT:=eZ.out.below hb3;have vt:At wr a (xs.flatMap λl=>[Value.string (bs l)]):=by rw[Bd];exact jT
    obtain⟨b,o,hab,hcs⟩:=vt.elem (f:=λl=>[Value.string (bs l)]) (sz:=1) (λ_=>rfl) zd k hlt;have hc0:wr.cell? ⟨b,o+k,none⟩=some (.string (bs xs[k])):=by simpa using hcs 0 zd
    have bC:=uu xs.length cap k (k:Int) hab hlt rfl;have hl0:=jQ.out _ (List.getElem_mem hlt);obtain⟨w4,hput,hm4,hg4⟩:=pm.put zx xs[k] zx k zo;rw[<-auE xs k hlt]at hm4;rw[Nat.mul_one]at bC;go_wp2;go_roundw;case rel=>refine⟨k+1,by omega,by go_num,hm4,?_⟩;exact hb3.grown hg4 (by have:=hb3.size;omega) (λj e=>by cases e;exact Nat.le_refl _)
    case measure=>exact bH
  . obtain rfl:k=xs.length:=by omega
    go_wp2;refine bodyPost_ret (results_tmp rfl _ _ _) rfl ⟨_,rfl,⟨pm,Nat.le_refl _⟩,hb3⟩
def ahf (bB n i B:Nat)(ds:List Dyadic)(s:Bool)(m:List UInt8)(e:Int)(D:Dyadic)(w:World)
 (hn:ds.length=n) (hB:aH w bB 48 (dC ds)) (hid:i<ds.length)
 (hx:Fit B (s,m,e)) (hd:Sm B ds[i]) (hBB:B+2<=268435456) (hD:ds[i]+aJ (s,m,e)=D) (hT:aR w):
 Cl 45 #[.slice (some ⟨bB,0,none⟩) n n,ah (i:Int),.agg #[aj s,ai m,ah e]] w λex w'=>
  (∃r,ex=.returned r)/\aH w' bB 48 (dC (ds.set i D))/\w.grownBy w' (some bB):=by
 subst hn;have Hg:=az (bA.num hB i hid);have HD:Hid (aJ (aK (dN ds[i]),nt (dN ds[i]).natAbs,dE ds[i])+aJ (s,m,e)=D):=by show aJ (canon ds[i])+_=_;rw[cJ];exact hD
 have YP:Hid (Fit B (aK (dN ds[i]),nt (dN ds[i]).natAbs,dE ds[i])):=hd.fit zo;have gF:=az hx;have lB:=hB.lt;clear hD hd hx;obtain⟨g,hg⟩:=aI (ds[i]);rw[hg]at Hg HD YP;clear hg;obtain⟨W,hW⟩:=aI (w.alloc (.cells #[aj s,ai m,ah e] 48));have Hb:Hid (Bw w W):=by rw[<-hW];exact zl
 have Hc:Hid (aH W w.heap.size 48 [aj s,ai m,ah e]):=by rw[<-hW];exact aH.newAt _ _ _ zm
 obtain⟨HT,CI⟩:=aU (hT.below Hb.out) (hB.below Hb.out);replace Hg:=az (Hg.out.below Hb.out);have bC:=Vt ds.length ds.length i (i:Int) (rfl:(some ⟨bB,0,none⟩:Option Addr)=_) hid rfl;rw[Nat.zero_add]at bC;go_enter Tryz.func45,Tryz.ntmps45;obtain⟨ag,aC⟩:=qZ (Hc.an<|Hg.an trivial);go_wp2_with fail;obtain⟨Hc,Hg,_⟩:=ag;obtain⟨c0,c1,c2⟩:=Hc.out.c3;obtain⟨g0,g1,g2⟩:=Hg.out.w3;refine ez (λw'=>aV w' (w.heap.size) 0 (aj s)/\aV w' (w.heap.size) 1 (ai m)/\aV w' (w.heap.size) 2 (ah e)/\aV w' bB (i*3) (aj (aK (dN g)))/\aV w' bB (i*3+1) (ai (nt (dN g).natAbs))/\aV w' bB (i*3+2) (ah (dE g))) (λi=>Nat.blt i 10) [(0,true),(1,true),(2,true),(3,true),(4,true),(5,true),(6,true),(7,false),(8,false),(9,true),(10,false)] zk zk rfl zk zc ⟨c0,c1,c2,g0,g1,g2⟩ ?_;iterate 7 (refine pT rfl rfl ?_ (by intro w' ⟨q0,q1,q2,q3,q4,q5⟩;go_simp;try with_reducible rfl);try simp only[UU])
 refine aY rfl rfl (λK hK=>?_);go_simp;refine hK _ _ (λ_=>⟨bg c0,bg c1,bg c2,bg g0,bg g1,bg g2⟩) ?_;try simp only[UU]
 refine cL (λW3=>aH W3 (W.heap.size) 48 [aj (aK (dN g)),ai (nt (dN g).natAbs),ah (dE g),aj s,ai m,ah e]/\Bw W W3) (by first|exact fI|exact fJ) ?_;rintro W3 ⟨qa,au⟩;have afJ:=Hc.out.lt;replace Hc:=kB Hc au;replace Hg:=kW Hg au;have Ha:=az qa;clear qa;obtain⟨c0,c1,c2⟩:=Hc.out.c3;obtain⟨g0,g1,g2⟩:=Hg.out.w3;obtain⟨a0,a1,a2,a3,a4,a5⟩:=Ha.out.c6;replace Hb:=bD Hb au;refine aY rfl rfl (λK hK=>?_);go_simp;with_reducible refine(Ml (aK (dN g)) (nt (dN g).natAbs) (dE g) s m e D B HD.out W.heap.size 2 48 _ YP.out gF.out hBB Ha.out (by first|exact(hT.below Hb.out) |exact aR.drew (hT.below Hb.out) |exact aR.alloc (hT.below Hb.out) _|exact aR.drew (aR.alloc (hT.below Hb.out) _) |exact aR.alloc (aR.drew (hT.below Hb.out)) _)).mono ?_
 rintro e w3 ⟨rfl,hq⟩;have au:Bw W3 w3:=by first|exact hq|exact df hq
 obtain⟨Hc,c0,c1,c2⟩:=uw Hc au;replace Hg:=kW Hg au;obtain⟨Ha,a0,a1,a2,a3,a4,a5⟩:=JH Ha au;obtain⟨g0,g1,g2⟩:=Hg.out.w3;replace Hb:=bD Hb au;refine hK _ _ (λ_=>⟨c0,c1,c2,g0,g1,g2⟩) ?_;try simp only[UU]
 refine pT rfl rfl ?_;try simp only[UU]
 refine aY rfl rfl (λK hK=>?_);go_simp;have ma:=hB.below Hb.out;have z0:w3.frozen? ⟨bB,i*3,none⟩=false:=ma.free _;have z1:w3.frozen? ⟨bB,i*3+1,none⟩=false:=ma.free _;have z2:w3.frozen? ⟨bB,i*3+2,none⟩=false:=ma.free _;go_simp;refine hK _ _ (λh=>absurd h zd) ?_;simp only[bP];go_end0
 refine⟨⟨_,rfl⟩,?_,?_⟩
 . have:=((ma.set (i*3) (aj (aK (dN D)))).set (i*3+1) (ai (nt (dN D).natAbs))).set (i*3+2) (ah (dE D));rw[Sn]at this;exact this
 . have q:=Hb.out;refine⟨q.os,q.tape,q.output,?_,λk hk hne=>?_⟩
   . exact Nat.le_trans q.size zm
   . have hkb:k≠bB:=λe=>hne (by rw[e]);refine((Below.heap_setCell _ _ _ k hkb).trans ((Below.heap_setCell _ _ _ k hkb).trans (Below.heap_setCell _ _ _ k hkb))).trans (q.block k hk)
def At.chg {Y:Nat->Prop}{w w':World}{a:Option Addr}{cs:List Value}(h:At w a cs)(hc:Chg Y w w')(hy:∀b o,a=some ⟨b,o,none⟩->¬Y b):At w' a cs:=by
 rcases h with h|⟨b,o,ha,hcs⟩
 . exact .inl h
 . refine .inr ⟨b,o,ha,λj hj=>?_⟩;have h1:=hcs j hj;rw[List.getElem?_eq_getElem hj]at h1⊢;exact hc.cell h1 (hy b o ha)
end Go.Proofs.YtnjfebkelecgaaaGreatDoor
namespace Go.Proofs.YtnjfebkelecgaaaGreatDoor
def qP (n s:Nat)(x:List Nat):x∈bZ (n+1) s↔x.length=n+1/\x.sum=s:=by
 induction n generalizing s x with
 | zero=>
   simp only[bZ,List.mem_singleton];constructor
   . rintro rfl;simp
   . rintro⟨h1,h2⟩;match x,h1,h2 with
     |[a],_,h2=>simp at h2;rw[h2]
 | succ n ih=>
   simp only[bZ,List.mem_flatMap,List.mem_map,List.mem_range];constructor
   . rintro⟨i,hi,y,hy,rfl⟩;obtain⟨h1,h2⟩:=(ih i y).1 hy;exact⟨by simp[h1],by simp[h2];omega⟩
   . rintro⟨h1,h2⟩;match x,h1,h2 with
     |a::y,h1,h2=>simp at h1 h2;exact⟨y.sum,by omega,y,(ih _ y).2 ⟨by omega,rfl⟩,by congr 1;omega⟩
def OL (n s:Nat):(bZ (n+1) s).Nodup:=by
 induction n generalizing s with
 |zero=>simp[bZ]
 | succ n ih=>
   unfold bZ List.Nodup;rw[List.pairwise_flatMap];refine⟨λi _=>?_,?_⟩
   . rw[List.pairwise_map];exact(ih i).imp (λh e=>h (by simpa using e))
   . have h0:(List.range (s+1)).Pairwise (·<·):=List.pairwise_lt_range;refine List.Pairwise.imp_of_mem ?_ h0;intro a b ha hb hab x hx y hy e;rw[List.mem_range]at ha hb;rw[List.mem_map]at hx hy;obtain⟨_,_,rfl⟩:=hx;obtain⟨_,_,rfl⟩:=hy;simp at e;omega
def bytes_inj {x y:List Nat}(hx:∀a∈x,a<=255)(hy:∀a∈y,a<=255)(h:x.map UInt8.ofNat=y.map UInt8.ofNat):x=y:=by
 induction x generalizing y with
 | nil=>cases y with
   |nil=>rfl
   |cons b y=>simp at h
 | cons a x ih=>cases y with
   |nil=>simp at h
   |cons b y=>simp only[List.map_cons,List.cons.injEq]at h;have h1:=congrArg UInt8.toNat h.1;simp at h1;have:=hx a zm;have:=hy b zm;rw[ih (λc hc=>hx c (by simp[hc])) (λc hc=>hy c (by simp[hc])) h.2];congr 1;omega
def JO {x:List Nat}{a:Nat}(h:a∈x):a<=x.sum:=by
 induction x with
 |nil=>cases h
 | cons b x ih=>
   rw[List.mem_cons]at h;rcases h with rfl|h
   . simp
   . have:=ih h;simp;omega
def WH {n s:Nat}(hs:s<=255){x:List Nat}(h:x∈bZ (n+1) s):∀a∈x,a<=255:=by intro a ha;have:=JO ha;have:=((qP n s x).1 h).2;omega
def ass {n s:Nat}(hs:s<=255):((bZ (n+1) s).map λx=>x.map UInt8.ofNat).Nodup:=by unfold List.Nodup;rw[List.pairwise_map];refine List.Pairwise.imp_of_mem ?_ (OL n s);intro a b ha hb hab e;exact hab (bytes_inj (WH hs ha) (WH hs hb) e)
def auC (xs:List (List UInt8))(hn:xs.Nodup)(k q:Nat)(hq:q<k)(hk:k<=xs.length):place xs k (xs[q]'zo)=q:=by
 induction k with
 |zero=>omega
 | succ k ih=>
   rw[place];have e:xs.getD k []=xs[k]:=by simp[show k<xs.length by omega]
   rw[e];by_cases h:q=k
   . subst h;simp
   . rw[if_neg (λe2=>h (VX hn e2)),ih zo zo]
def auD {n s:Nat}(hs:s<=255){x:List Nat}(h:x∈bZ (n+1) s):
 ∃q,∃h:q<(bZ (n+1) s).length,(bZ (n+1) s)[q]=x/\place ((bZ (n+1) s).map λx=>x.map UInt8.ofNat) (bZ (n+1) s).length (x.map UInt8.ofNat)=q:=by
 obtain⟨q,hq,rfl⟩:=List.mem_iff_getElem.1 h;refine⟨q,hq,rfl,?_⟩;have:=auC _ (ass (n:=n) hs) (bZ (n+1) s).length q hq zm;simpa using this
def mB (f:List UInt8->Nat)(ds:List Dyadic)(ps:ja):List Dyadic:=ps.foldl (λds p=>tH ds (f (p.1.map UInt8.ofNat)) p.2) ds
def au6 (f:List UInt8->Nat)(ds:List Dyadic)(a b:ja):mB f ds (a++b)=mB f (mB f ds a) b:=by simp[mB]
def au8 (f:List UInt8->Nat)(ds:List Dyadic)(ps:ja):(mB f ds ps).length=ds.length:=by
 induction ps generalizing ds with
 |nil=>rfl
 |cons p ps ih=>exact(ih _).trans (Gq _ _ _)
def au9 {B:Nat}(f:List UInt8->Nat)(ds:List Dyadic)(ps:ja)(hd:∀d∈ds,Sm B d)(hp:∀p∈ps,Sm B p.2):∀d∈mB f ds ps,Sm (B+ps.length) d:=by
 induction ps generalizing ds B with
 |nil=>exact hd
 |cons p ps ih=>have:=ih (B:=B+1) (tH ds (f (p.1.map UInt8.ofNat)) p.2) (amo hd _ (hp p zm)) (λq hq=>(hp q (by simp[hq])).mono zo);intro d hdd;have h1:=this d hdd;simp only[List.length_cons];rw[show B+(ps.length+1)=B+1+ps.length by omega];exact h1
def au7 (R:List (List Nat))(hR:R.Nodup)(f:List UInt8->Nat)(hf:∀x∈R,∃q,∃h:q<R.length,R[q]=x/\f (x.map UInt8.ofNat)=q)(ps:ja)(hp:∀p∈ps,p.1∈R)(ds:List Dyadic)(hd:ds.length=R.length):
 mB f ds ps=List.zipWith (·+·) ds (pY R ps):=by
 induction ps generalizing ds with
 |nil=>apply List.ext_getElem (by simp[mB,pY,hd]);intro k h1 h2;simp[mB,pY,tO,mz]
 | cons p ps ih=>
   have e:mB f ds (p::ps)=mB f (tH ds (f (p.1.map UInt8.ofNat)) p.2) ps:=rfl;rw[e,ih (λq hq=>hp q (by simp[hq])) _ (by rw[Gq,hd])];obtain⟨q,hq,e1,e2⟩:=hf _ (hp p zm);rw[e2];apply List.ext_getElem (by simp[pY,Gq]);intro k h1 h2;have hk:k<ds.length:=by simp[pY,Gq]at h1;omega
   simp only[pY,List.getElem_zipWith,List.getElem_map];have e3:(tH ds q p.2)[k]'(by rw[Gq];exact hk)=ds[k]+p.2*delta (R[k]'zo) p.1:=by
    unfold tH delta;rw[List.getElem_set];by_cases h:q=k
    . subst h;rw[if_pos rfl,if_pos e1.symm];simp[hk];grind
    . rw[if_neg h,if_neg (λh2=>h (VX hR (e1.trans h2)))];grind
   rw[e3];unfold tO;simp only[mz];grind
def ava (R:List (List Nat))(hR:R.Nodup)(f:List UInt8->Nat)(hf:∀x∈R,∃q,∃h:q<R.length,R[q]=x/\f (x.map UInt8.ofNat)=q)(ps:ja)(hp:∀p∈ps,p.1∈R):
 mB f (List.replicate R.length 0) ps=pY R ps:=by
 rw[au7 R hR f hf ps hp _ zm];apply List.ext_getElem (by simp[pY]);intro k h1 h2;simp
def ar7 (x:List Nat)(k:Nat)(hk:k<x.length):(x.map UInt8.ofNat).set k ((x.map UInt8.ofNat).getD k 0+1)=(gm x k).map UInt8.ofNat:=by unfold gm;rw[List.map_set];congr 1;simp[hk]
end Go.Proofs.YtnjfebkelecgaaaGreatDoor
namespace Go.Proofs.YtnjfebkelecgaaaGreatDoor
open Go.RowKit
attribute [local go_sem ↓] Go.wp_at_zero Go.wp_at_succ
def uC (P:Nat->ja)(k:Nat):ja:=(List.range k).flatMap P
def agz (P:Nat->ja)(k:Nat):uC P (k+1)=uC P k++P k:=by unfold uC;rw[List.range_succ,List.flatMap_append];simp
def agy (P:Nat->ja)(N n k:Nat)(hk:k<=n)(h:∀k,k<n->(P k).length<=N):(uC P k).length<=k*N:=by
 induction k with
 |zero=>simp[uC]
 |succ k ih=>rw[agz,List.length_append,Nat.add_mul,Nat.one_mul];have:=ih zo;have:=h k zo;omega
def agx {Q:List Nat×Dyadic->Prop}(P:Nat->ja)(n k:Nat)(hk:k<=n)(h:∀k,k<n->∀p∈P k,Q p):∀p∈uC P k,Q p:=by intro p hp;unfold uC at hp;rw[List.mem_flatMap]at hp;obtain⟨q,hq,hp⟩:=hp;rw[List.mem_range]at hq;exact h q zo p hp
def Chg.set {Y:Nat->Prop}{W W':World}(h:Chg Y W W'){a:Addr}(hy:Y a.block)(v:Value):Chg Y W (W'.setCell a v):=
 h.trans (Chg.aCn (Y:=Y) (grownBy_set (w:=W') (a:=a) a.block rfl v) (λ_ e=>by cases e;exact hy)) (λ_ h=>.inl h)
def Chg.drew {Y:Nat->Prop}{W W':World}(h:Chg Y W W'):Chg Y W W'.drew:=⟨h.os,h.tape,h.output,h.size,h.block⟩
def Chg.aCk {Y:Nat->Prop}{A B C:World}(h:Chg Y A B)(k:Bw B C):Chg Y A C:=h.trans (Chg.of_below (Y:=Y) k) (λ_ h=>.inl h)
end Go.Proofs.YtnjfebkelecgaaaGreatDoor
