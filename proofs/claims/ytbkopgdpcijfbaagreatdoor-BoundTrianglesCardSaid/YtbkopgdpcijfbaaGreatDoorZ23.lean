/- Package simp: Products. -/
import Derived.Test.YtbkopgdpcijfbaaGreatDoorZ12
import Derived.Test.YtbkopgdpcijfbaaGreatDoorZ22
import Derived.Maps.AppendAt
import Derived.Maps.OwnIn
import Derived.Test.YtbkopgdpcijfbaaGreatDoorZ7
import Derived.Test.YtbkopgdpcijfbaaGreatDoorZ10
import Derived.Maps.Own
import Derived.Maps.Views
import Derived.Maps.Keyed
import Derived.Maps.OwnSet
import Derived.Carry
import Derived.Lib.BufferWrite
import Derived.Deep.WholeRow
import Derived.Test.YtbkopgdpcijfbaaGreatDoorZ14
set_option linter.all false
set_option maxRecDepth 100000
set_option maxHeartbeats 16000000
namespace Go.Proofs.YtbkopgdpcijfbaaGreatDoor
open Go.RowKit Go.Shelf
def Tryz.aGL :(Tryz.prog.info? 9).map (λi=>(i.zero,i.size,i.bytes))=some (some (.string (bs [])),1,16):=by kernel_rfl
def sQ (v d:Int):List (List Nat):=if 1<=v/\v<=8/\0<=d/\d<=20/\cnt v.toNat d.toNat<=512 then bz (v.toNat+1) d.toNat else[]
def Xi (b n₀:Nat)(pre:List (List Nat))(Z:Nat->Prop)(W:World):Prop:=
 ∃v,ar W b 43 [v]/\n₀<=b/\n₀<=W.heap.size/\W.ownsRow n₀ 9 1 v pre.length (pre.map λx=>.string (ex x))/\Z=λk=>k=b\/v.ownBlock=some k
def ayd (b n₀:Nat)(pre:List (List Nat)):xM (Xi b n₀ pre):=by rintro Z W W' ⟨v,hB,h1,h2,ho,rfl⟩ hc;exact⟨v,hc.blk hB (λh=>h (.inl rfl)),h1,Nat.le_trans h2 hc.size,Pn ho hc (λk hk h=>h (.inr hk)),rfl⟩
def ayc (b n₀:Nat)(pre:List (List Nat)):Ih (Xi b n₀ pre):=by
 rintro Z W ⟨v,hB,h1,h2,ho,rfl⟩ k (rfl|hk)
 . exact hB.lt
 . exact(ho.lt k hk).2
attribute [local go_sem] Oper.semAt_some
def ayg (V D:Nat)(w:World)(hV:1<=V)(hV2:V<=8)(hD:D<=20)(hc:cnt V D<=512):
 Cl 13 #[af (V:Int),af (D:Int)] w λe w'=>∃v,e=.returned v/\w'.ownsRow w.heap.size 9 1 v (bz (V+1) D).length ((bz (V+1) D).map λx=>.string (ex x))/\Bw w w':=by
 obtain⟨i0,hi,hz0,hz1,hz2⟩:=info_parts Tryz.aGL;have hcl:(bz (V+1) D).length<=512:=by rw[pQ];exact hc
 have jX:decide (1<=(V:Int)/\(V:Int)<=8/\0<=(D:Int)/\(D:Int)<=20)=true:=by simp;omega
 have hw1:IntKind.i64.wrap ((V:Int)+1)=((V+1:Nat):Int):=by rw[IntKind.wrap_i64];omega
 have hmin:((min (cnt (V+1-1) D) 513:Nat):Int)<=512:=by rw[Nat.add_sub_cancel];omega
 generalize hM:((min (cnt (V+1-1) D) 513:Nat):Int)=M at hmin;generalize hV1:((V+1:Nat):Int)=V1 at hw1;refine callsIn_wide (n:=0).1 ?_;refine callsIn_of_wp_marks Tryz.func13 rfl trivial ?_ rfl;simp only[Tryz.ntmps13,List.size_toArray,List.length_cons,List.length_nil,Nat.reduceAdd,Nat.reduceSub,Array.replicate_succ,Array.replicate_zero,List.push_toArray,List.append_toArray,List.nil_append,List.cons_append];gi_wp2
 refine⟨trivial,rfl,?_⟩;refine(callsIn_wide.2 (Kp V D w)).mono ?_;rintro e w' ⟨rfl,rfl⟩;rw[jX];gi_wp2
 refine⟨trivial,rfl,?_⟩;rw[<-hV1];refine(callsIn_wide.2 (OV (V+1) D w' zo zo hD)).mono ?_;rintro e w ⟨rfl,rfl⟩;rw[hM,hV1];gi_wp2
 refine⟨trivial,rfl,?_⟩;obtain⟨W0,hW0⟩:=aB (w.alloc (.cells #[.slice none 0 0] 43));have gh:ar W0 w.heap.size 43 [.slice none 0 0]:=by rw[<-hW0];exact ar.new _ _ _
 have Jj:Bw w W0:=by rw[<-hW0];exact zl
 rw[hW0];refine(callsIn_wide.2 (aiF V1 D W0)).mono ?_;rintro e w1 ⟨rfl,bP,dF,wH⟩;have hl0:=gh.lt;have hl2:=dF.lt;gi_wp2
 refine ajZ (gf:=142) (lb:=#[.pointer (some ⟨W0.heap.size,0,none⟩),.pointer (some ⟨W0.heap.size+1,0,none⟩)]) rfl (enters_of Tryz.func142 zk rfl)
  (ayY V zo W0.heap.size (W0.heap.size+1) D zo) (λ_=>rfl) (Xi w.heap.size w.heap.size) (ayd _ _) (ayc _ _)
  (λb=>b=w.heap.size\/(Value.slice none 0 0).ownBlock=some b) ?h0 ?hok ?a1 ?assign ?body ?done
 case a1=>exact λx=>{tmps:=#[af (V:Int),af (D:Int),undef,undef,.slice none 0 0,.pointer (some ⟨w.heap.size,0,none⟩),.string (ex x),af (V:Int),af (D:Int),ag true,ag false,ag false,af (V:Int),af V1,af (D:Int),af M,ag (decide (512<M)),ag (decide (512<M)),af (V:Int),af V1,af (D:Int),.func (.func 142) #[] #[.pointer (some ⟨W0.heap.size,0,none⟩),.pointer (some ⟨W0.heap.size+1,0,none⟩)],.string (ex x),undef,undef,undef,undef,undef],defers:=[]}
 case h0=>exact⟨_,gh.below wH,Nat.le_refl _,Nat.le_trans Jj.size wH.size,World.ownsRow_nil _ _ _ _,rfl⟩
 case hok=>
  intro W1 hg;have hbb:Bw w1 W1:=⟨hg.os,hg.tape,hg.output,hg.size,λk hk=>hg.block k hk (λe=>by cases e)⟩;refine⟨by rw[hV1];exact bP.below hbb,dF.below hbb,?_,?_⟩
  . rintro((h|h) |h|h)
    . omega
    . simp[Value.ownBlock]at h
    . omega
    . omega
  . rintro((h|h) |h|h)
    . omega
    . simp[Value.ownBlock]at h
    . omega
    . omega
 case assign=>
  intro m' l' x W' K hK;gi_wp2
  exact hK
 case body=>
  rintro m' l' pre x Zb Wb ⟨v,hBb,gA,oh,ho,rfl⟩ hpre hzb auu;have aEe:pre.length+1<=512:=by have:=hpre.length_le;simp at this;omega
  obtain⟨X,hX⟩:=aB (ex x);rw[hX];have HX:=aj hX;clear hX;obtain⟨W2,hW2⟩:=aB (Wb.alloc (.cells #[.string X] 9));have hb2:Bw Wb W2:=by rw[<-hW2];exact zl
  have Uc:ar W2 Wb.heap.size 9 [.string X]:=by rw[<-hW2];exact ar.new _ _ _
  have gS:W2.ownsRow w.heap.size 9 1 v pre.length (pre.map λx=>.string (ex x)):=by rw[<-hW2];exact ho.alloc _
  have adc:=hBb.below hb2;have c0:Wb.cell? ⟨w.heap.size,0,none⟩=some v:=hBb.cell 0;have lb:=hBb.lt;have hnews:∀j u,([.string X]:List Value)[j]?=some u->W2.cell? ((⟨Wb.heap.size,0,none⟩:Addr).add j)=some u:=by
   intro j u hj;cases j with
   |zero=>simp at hj;subst hj;exact Uc.cell 0
   |succ j=>simp at hj
  have UJ:some w.heap.size≠v.ownBlock:=Boxed.not_row (t:=43) hBb zd ho;gi_wp2_with (gi_at_builtin;refine wpListIn_append_own_at _ rfl _ _ 43 rfl w.heap.size 9 i0 (.string (bs [])) 1 16 Tryz.underlying43 hi hz0 hz1 hz2 rfl zd v pre.length _ rfl gS ⟨Wb.heap.size,0,none⟩ 1 1 [.string X] rfl rfl hnews zy zx zo (by have:=hb2.size;omega) ?_;intro v' w3 EG hg3 _ kx;obtain⟨g',cap',rfl⟩:=ownsRow_succ EG;have mS:ar w3 w.heap.size 43 [v]:=(hg3.block w.heap.size adc.lt UJ).trans adc;have c3:w3.cell? ⟨w.heap.size,0,none⟩=some v:=mS.cell 0;have f3:w3.frozen? ⟨w.heap.size,0,none⟩=false:=mS.free 0)
  have hnb:some w.heap.size≠(Value.slice (some ⟨g',0,none⟩) (pre.length+1) cap').ownBlock:=Boxed.not_row (t:=43) mS zd EG;refine⟨_,⟨_,mS.set 0 _,gA,?_,?_,rfl⟩,?_,?_⟩
  . exact Nat.le_trans oh (Nat.le_trans hb2.size (Nat.le_trans hg3.size (grownBy_setCell' w3 _ _).size))
  . have:=EG.kept (grownBy_setCell' w3 w.heap.size (Value.slice (some ⟨g',0,none⟩) (pre.length+1) cap')) (.inr hnb.symm);rw[<-HX.out]at this;simpa using this
  . refine((Chg.of_below hb2).trans (Chg.aGs (Y:=λk=>k=w.heap.size\/v.ownBlock=some k) hg3 (λb e=>.inr e)) (λb h=>.inl h)).trans (Chg.aGs (Y:=λk=>k=w.heap.size\/v.ownBlock=some k) (grownBy_setCell' w3 w.heap.size _) (λb e=>by cases e;exact .inl rfl)) (λb h=>.inl h)
  . rintro k (h|h)
    . exact .inl (.inl h)
    . rcases kx with h1|h1
      . rw[h1]at h;exact .inl (.inr h)
      . rw[h1]at h;cases h;exact .inr hb2.size
 case done=>
  rintro W3 ⟨Z3,⟨⟨v,hBb,gA,oh,ho,rfl⟩,hK,hz3⟩,hc3,Wj⟩;have c0:W3.cell? ⟨w.heap.size,0,none⟩=some v:=hBb.cell 0;obtain⟨a0,abH,rfl,hat,_⟩:=dZ ho;gi_wp2
  refine ahd [w1.heap.size] W3 zm (λD hD=>by simp at hD;subst hD;exact hK) (λw' hc=>?_);refine⟨_,results_tmp rfl _ _ _,_,rfl,Pn ho hc (λk hk hm=>?_),?_⟩
  . simp at hm;subst hm;rcases hz3 _ (.inr hk)with(h1|h1) |h1
    . omega
    . simp[Value.ownBlock]at h1
    . omega
  . have b1:Below w.heap.size w1 W3:=hc3.below zo (λb h=>by rcases h with h|h;omega;simp[Value.ownBlock]at h);have b2:Below w.heap.size W3 w':=hc.below oh (λb h=>by simp at h;omega);exact((Jj.trans (wH.mono zo)).trans b1).trans b2
section
attribute [local go_sem ↓] Go.wp_at_zero Go.wp_at_succ
def ayh (v d:Int)(w:World)(h:¬(1<=v/\v<=8/\0<=d/\d<=20)):
 Cl 13 #[af v,af d] w λe w'=>e=.returned (.slice none 0 0)/\w'=w:=by
 have h1:decide (1<=v/\v<=8/\0<=d/\d<=20)=false:=decide_eq_false h;go_enter Tryz.func13,Tryz.ntmps13;go_wp2_with fail;refine(Kp v d w).mono ?_;rintro e w' ⟨rfl,rfl⟩;rw[h1];go_wp2;go_ret;exact⟨rfl,rfl⟩
def ayf (V D:Nat)(w:World)(hV:1<=V)(hV2:V<=8)(hD:D<=20)(hc:¬cnt V D<=512):
 Cl 13 #[af (V:Int),af (D:Int)] w λe w'=>e=.returned (.slice none 0 0)/\w'=w:=by
 have jX:decide (1<=(V:Int)/\(V:Int)<=8/\0<=(D:Int)/\(D:Int)<=20)=true:=by simp;omega
 have hw1:IntKind.i64.wrap ((V:Int)+1)=((V+1:Nat):Int):=by rw[IntKind.wrap_i64];omega
 have hmin:((min (cnt (V+1-1) D) 513:Nat):Int)=513:=by rw[Nat.add_sub_cancel];omega
 generalize hV1:((V+1:Nat):Int)=V1 at hw1;go_enter Tryz.func13,Tryz.ntmps13;go_wp2_with fail;refine(Kp V D w).mono ?_;rintro e w' ⟨rfl,rfl⟩;rw[jX];go_wp2_with fail;rw[<-hV1];refine(OV (V+1) D w' zo zo hD).mono ?_;rintro e w ⟨rfl,rfl⟩;rw[hmin];go_wp2;go_ret;exact⟨rfl,rfl⟩
end
def Xj (v d:Int)(w:World):
 Cl 13 #[af v,af d] w λe w'=>∃a cap,e=.returned (.slice a (sQ v d).length cap)/\At w' a ((sQ v d).map λx=>.string (ex x))/\(∀b o,a=some ⟨b,o,none⟩->w.heap.size<=b)/\Bw w w':=by
 unfold sQ;by_cases h:1<=v/\v<=8/\0<=d/\d<=20
 . obtain⟨V,rfl⟩:∃V:Nat,v=V:=⟨v.toNat,by omega⟩;obtain⟨D,rfl⟩:∃D:Nat,d=D:=⟨d.toNat,by omega⟩;simp only[Int.toNat_natCast];by_cases hc:cnt V D<=512
   . rw[if_pos ⟨h.1,h.2.1,h.2.2.1,h.2.2.2,hc⟩];refine(ayg V D w zo zo zo hc).mono ?_;rintro e w' ⟨v,rfl,ho,hb⟩;obtain⟨a,cap,rfl,hat,Ce⟩:=dZ ho;exact⟨a,cap,rfl,hat,Ce,hb⟩
   . rw[if_neg (λh2=>hc h2.2.2.2.2)];refine(ayf V D w zo zo zo hc).mono ?_;rintro e w' ⟨rfl,rfl⟩;exact⟨none,0,rfl,At.nil _ _,(λb o e=>by cases e),Below.refl _ _⟩
 . rw[if_neg (λh2=>h ⟨h2.1,h2.2.1,h2.2.2.1,h2.2.2.2.1⟩)];refine(ayh v d w h).mono ?_;rintro e w' ⟨rfl,rfl⟩;exact⟨none,0,rfl,At.nil _ _,(λb o e=>by cases e),Below.refl _ _⟩
end Go.Proofs.YtbkopgdpcijfbaaGreatDoor
namespace Go.Proofs.YtbkopgdpcijfbaaGreatDoor
open Go.RowKit
attribute [local go_sem ↓] Go.wp_at_zero Go.wp_at_succ
def wn (v d:Int)(n:Nat):Int:=if ¬(1<=v/\v<=8/\0<=d/\d<=20)then 1 else if 512<cnt v.toNat d.toNat then 3 else if n=cnt v.toNat d.toNat then 0 else 1
def ap5 {v d:Int}{n:Nat}(h:wn v d n=0):1<=v/\v<=8/\0<=d/\d<=20/\n=cnt v.toNat d.toNat/\n<=512:=by
 unfold wn at h;split at h
 . omega
 . split at h
   . omega
   . split at h
     . omega
     . omega
def ap0 (v d:Int)(a:Option Addr)(n cap:Nat)(c:Int)(hc:wn v d n=c)(w:World):
 Cv 72 #[.agg #[af v,af d,.slice a n cap]] w (af c):=by
 by_cases h:1<=v/\v<=8/\0<=d/\d<=20
 . have h1:decide (1<=v/\v<=8/\0<=d/\d<=20)=true:=decide_eq_true h;obtain⟨V,rfl⟩:∃V:Nat,v=V:=⟨v.toNat,by omega⟩;obtain⟨D,rfl⟩:∃D:Nat,d=D:=⟨d.toNat,by omega⟩;have hw1:IntKind.i64.wrap ((V:Int)+1)=((V+1:Nat):Int):=by rw[IntKind.wrap_i64];omega
   obtain⟨V1,hV1⟩:=aB ((V+1:Nat):Int);obtain⟨M,hM⟩:=aB ((min (cnt (V+1-1) D) 513:Nat):Int);have GL:Hid (∀W,Cv 50 #[af V1,af (D:Int)] W (af M)):=λW=>by rw[<-hV1,<-hM];exact(OV (V+1) D W zo zo zo).mono (λe w' h=>⟨h.1,by rw[h.2];exact Below.refl _ _⟩)
   rw[hV1]at hw1;unfold wn at hc;rw[if_neg (by simp only[Decidable.not_not];exact h)]at hc;simp only[Int.toNat_natCast]at hc;rw[Nat.add_sub_cancel]at hM;have oQ:=aj (Kp V D);by_cases hb:512<cnt V D
   . have uU:M=513:=by omega
     rw[if_pos hb]at hc;subst uU;subst hc;clear hM h;go_enter Tryz.func72,Tryz.ntmps72;have Hb:=hbz w;go_wp2_with fail;refine ik w (Hb.an trivial) 38 [af V,af D,.slice a n cap] λW aR ae ak=>?_;go_wp2_with fail;refine(oQ.out W).mono ?_;rintro e w1 ⟨rfl,rfl⟩;rw[h1];go_wp2_with fail;refine aJ ae (GL.out _) λw2 ae ak=>?_;go_wp2;go_ret;exact⟨rfl,ae.2.1.out⟩
   . have uU:M=(cnt V D:Int):=by omega
     have wD:M<=512:=by omega
     rw[if_neg hb]at hc;by_cases he:n=cnt V D
     . rw[if_pos he]at hc;subst hc;have hnM:(n:Int)=M:=by omega
       clear hM h uU hb he;go_enter Tryz.func72,Tryz.ntmps72;have Hb:=hbz w;go_wp2_with fail;refine ik w (Hb.an trivial) 38 [af V,af D,.slice a n cap] λW aR ae ak=>?_;go_wp2_with fail;refine(oQ.out W).mono ?_;rintro e w1 ⟨rfl,rfl⟩;rw[h1];go_wp2_with fail;refine aJ ae (GL.out _) λw2 ae ak=>?_;go_wp2_with fail;refine fT 999 ae (fH 11 0x1513100f0d0b0907050301) ?_;refine cG ?_;refine cV ae (GL.out _) λw3 ae=>?_;refine cG ?_;refine fR ae λak=>?_;go_wp2;go_ret;exact⟨rfl,ae.2.1.out⟩
     . rw[if_neg he]at hc;subst hc;have hnM:¬(n:Int)=M:=by omega
       have aD8:((n:Int) !=M)=true:=by simp[hnM]
       clear hM h uU hb he;go_enter Tryz.func72,Tryz.ntmps72;have Hb:=hbz w;go_wp2_with fail;refine ik w (Hb.an trivial) 38 [af V,af D,.slice a n cap] λW aR ae ak=>?_;go_wp2_with fail;refine(oQ.out W).mono ?_;rintro e w1 ⟨rfl,rfl⟩;rw[h1];go_wp2_with fail;refine aJ ae (GL.out _) λw2 ae ak=>?_;go_wp2_with fail;refine fT 999 ae (fH 11 0x1513100f0d0b0907050301) ?_;refine cG ?_;refine cV ae (GL.out _) λw3 ae=>?_;refine cG ?_;refine fR ae λak=>?_;go_wp2;go_ret;exact⟨rfl,ae.2.1.out⟩
 . have h1:decide (1<=v/\v<=8/\0<=d/\d<=20)=false:=decide_eq_false h;unfold wn at hc;rw[if_pos h]at hc;subst hc;have oQ:=aj (Kp v d);clear h;go_enter Tryz.func72,Tryz.ntmps72;have Hb:=hbz w;go_wp2_with fail;refine ik w (Hb.an trivial) 38 [af v,af d,.slice a n cap] λW aR ae ak=>?_;go_wp2_with fail;refine(oQ.out W).mono ?_;rintro e w1 ⟨rfl,rfl⟩;rw[h1];go_wp2;go_ret;exact⟨rfl,ae.2.1.out⟩
def ael (v d:Int)(a:Option Addr)(n cap:Nat)(j:Int)(w:World):
 Cv 73 #[.agg #[af v,af d,.slice a n cap],af j] w (ag (decide (0<=j/\j<=v))):=by
 go_enter Tryz.func73,Tryz.ntmps73;by_cases h:0<=j
 . go_wp2;go_ret;exact⟨by simp[h],zl⟩
 . go_wp2;go_ret;exact⟨by simp;omega,zl⟩
end Go.Proofs.YtbkopgdpcijfbaaGreatDoor
namespace Go.Proofs.YtbkopgdpcijfbaaGreatDoor
open Go.RowKit
def Tryz.aGP (w:World):(zeroValue 3).run Tryz.prog w=.ok (af 0) w:=by obtain⟨i0,hi,hz0,hz1,hz2⟩:=info_parts (show(Tryz.prog.info? 3).map (λi=>(i.zero,i.size,i.bytes))=some (some (af 0),1,8)by kernel_rfl);simp[zeroValue,typeInfo,hi,hz0]
def Mp (W:World)(b n:Nat)(f:List UInt8->Nat):Prop:=
 ∃D:DataW Unit,W.ownsMap Tryz.prog 9 (plainElem Tryz.prog 3) b n D/\Maps.IsMap D/\∀l,D.atKey (.string l) (.lit (.int .i64 0))=.lit (.int .i64 (f l:Int))
def Mp.made (w:World):Mp (w.alloc (.map #[] 0)) w.heap.size 0 (λ_=>0):=
 ⟨.map [],World.ownsMap_made w _ _ _,⟨_,rfl⟩,λ_=>rfl⟩
def Mp.lt {W:World}{b n:Nat}{f:List UInt8->Nat}(h:Mp W b n f):b<W.heap.size:=by obtain⟨D,h1,_⟩:=h;exact h1.lt
def Mp.kept {W W':World}{b n:Nat}{f:List UInt8->Nat}{r:Option Nat}(h:Mp W b n f)(hg:W.grownBy W' r)(hne:some b≠r):Mp W' b n f:=by obtain⟨D,h1,h2⟩:=h;exact⟨D,h1.kept hg hne,h2⟩
def Mp.below {W W':World}{b n:Nat}{f:List UInt8->Nat}(h:Mp W b n f)(hb:Bw W W'):Mp W' b n f:=
 h.kept (r:=none) ⟨hb.os,hb.tape,hb.output,hb.size,λk hk _=>hb.block k hk⟩ zm
instance {w :World} {b n:Nat} {f:List UInt8->Nat}:QTr (Mp w b n f) w (λW=>Mp W b n f):=⟨λh _ k=>Mp.below h k⟩
def kM {w w':World}{b n:Nat}{f:List UInt8->Nat}(h:Hid (Mp w b n f))(k:Bw w w'):Hid (Mp w' b n f):=h.out.below k
def ag8 (l:List UInt8)(hl:l.length<=maxLen):keyOf Tryz.prog 9 (ah l)=some (.string l):=by have:=WideMaps.keyOf_string_mk (P:=Tryz.prog) Tryz.underlying9 (s:=bs l) (by rw[jB];exact hl);exact this
def Mp.look {W:World}{b n:Nat}{f:List UInt8->Nat}(h:Mp W b n f)(l:List UInt8)(hl:l.length<=maxLen):
 (Instr.lookup 215 (.map (some b)) (ah l) false).run Tryz.prog W=.ok (af (f l:Int)) W:=by
 obtain⟨D,h1,h2,h3⟩:=h;obtain⟨c,hrun,hat,hwc⟩:=h1.lookup_int (t:=215) (e:=3) (q:=.i64) (Maps.string_keyed Tryz.underlying9) Tryz.underlying215 Tryz.underlying3 (Tryz.aGP W) (ag8 l hl);rw[h3 l]at hat;cases hat
 exact hrun
def Mp.put {W:World}{b n:Nat}{f:List UInt8->Nat}(h:Mp W b n f)(hn:n<maxLen)(l:List UInt8)(hl:l.length<=maxLen)(i:Nat)(hi:i<9223372036854775808):
 ∃w',(Instr.mapUpdate 215 (.map (some b)) (ah l) (af (i:Int))).run Tryz.prog W=.ok () w'/\Mp w' b (n+1) (λl'=>if l'=l then i else f l')/\W.grownBy w' (some b):=by
 obtain⟨D,h1,h2,h3⟩:=h
 obtain⟨w',hrun,ho,hg⟩:=h1.update (t:=215) (e:=3) (Maps.string_keyed Tryz.underlying9) Tryz.underlying215 hn (ag8 l hl) (plainElem_int Tryz.underlying3 (show(Lit.int .i64 (i:Int)).wf=true by
  have h1:IntKind.i64.min= -9223372036854775808:=rfl;have h2:IntKind.i64.max=9223372036854775807:=rfl
  simp[Lit.wf];omega))
 refine⟨w',hrun,⟨_,ho,ho.isMap,λl'=>?_⟩,hg⟩;show _=DataW.lit (Lit.int .i64 ((if l'=l then i else f l':Nat):Int))
 by_cases e:l'=l
 . subst e;rw[if_pos rfl,Maps.atKey_put_same h2 (by simp[WideAt.IsKeyLit])]
 . rw[if_neg e,Maps.atKey_put_other (by intro h;cases h;exact e rfl)];exact h3 l'
end Go.Proofs.YtbkopgdpcijfbaaGreatDoor
namespace Go.Proofs.YtbkopgdpcijfbaaGreatDoor
open Go.RowKit
attribute [local go_sem ↓] Go.wp_at_zero Go.wp_at_succ
def Mp.set {W:World}{b n:Nat}{f:List UInt8->Nat}(h:Mp W b n f)(a:Addr)(hne:b≠a.block)(u:Value):Mp (W.setCell a u) b n f:=by obtain⟨D,h1,h2⟩:=h;exact⟨D,h1.setCell hne u,h2⟩
def fC (v d:Int):List (List UInt8):=(sQ v d).map λx=>x.map UInt8.ofNat
def place (xs:List (List UInt8)):Nat->List UInt8->Nat
 |0,_=>0
 |k+1,l=>if l=xs.getD k []then k else place xs k l
def aim (xs:List (List UInt8))(k:Nat)(hk:k<xs.length):place xs (k+1)=λl=>if l=xs[k]then k else place xs k l:=by
 funext l
 simp[place,hk]
def aha (v d:Int):(fC v d).length<=512:=by
 unfold fC sQ;rw[List.length_map];split
 . rename_i h
   rw[pQ];omega
 . exact Nat.zero_le _
def Nb {α:Type}(f:α->Value)(xs:List α):xs.flatMap (λx=>[f x])=xs.map f:=by
 induction xs with
 |nil=>rfl
 |cons x xs ih=>simp[ih]
def apd (v d:Int)(hlen:∀l∈fC v d,l.length<=255)(w:World):
 Cl 161 #[af v,af d] w λe w'=>∃bB bm,e=.returned (.agg #[af v,af d,.slice (some ⟨bB,0,none⟩) (fC v d).length (fC v d).length,.map (some bm)])/\
  (ar w' bB 30 (dC (List.replicate (fC v d).length 0))/\w.heap.size<=bB/\Mp w' bm (fC v d).length (place (fC v d) (fC v d).length)/\w.heap.size<=bm)/\Bw w w':=by
 have hK:=aha v d;have xZ:=Xj v d;have IB:(sQ v d).map (λx=>Value.string (ex x))=(fC v d).map (λl=>Value.string (bs l)):=by unfold fC;rw[List.map_map];rfl
 have IA:(sQ v d).length=(fC v d).length:=by unfold fC;rw[List.length_map]
 rw[IB,IA]at xZ;generalize fC v d=xs at*;clear IB IA;obtain⟨Qf,jA⟩:=aK xZ hlen;clear xZ hlen;go_enter Tryz.func161,Tryz.ntmps161;have Hb:=hbz w;go_wp2_with fail;refine ik w (Hb.an trivial) 217 [af 0,af 0,.slice none 0 0,.map none] λW aR ae ak=>?_;go_wp2_with fail;refine(Qf.out _).mono ?_;rintro e w1 ⟨a,cap,rfl,hat,_,ai⟩;have dL:=aj hat;clear hat;have lr:=ae.1.out.lt;obtain⟨Hr,Hb⟩:=aK (ae.1.out.below ai) (aI ae.2.1.out ai);have lr1:=Hr.out.lt;have hmk:=awm (xs.length:Int) xs.length rfl zo;have hmm:=@run_makeMap Tryz.prog;go_wp2_with fail;refine dA (λW2=>ar W2 w.heap.size 217 [af 0,af 0,.slice none 0 0,.map none]/\ar W2 w1.heap.size 30 (dC (List.replicate xs.length 0))/\Mp W2 (w1.heap.size+1) 0 (λ_=>0)/\ar W2 (w1.heap.size+1+1) 217 [af v,af d,.slice (some ⟨w1.heap.size,0,none⟩) xs.length xs.length,.map (some (w1.heap.size+1))]/\Bw w1 W2)
  ⟨((Hr.out.alloc _).alloc _).alloc _,((ar.new _ _ _).alloc _).alloc _,?_,ar.newAt _ _ _ zm,(zl.alloc zm _).alloc zj _⟩ ?_
 . have:=Mp.made (w1.alloc (.cells (dC (List.replicate xs.length 0)).toArray 30));rw[World.size_alloc]at this;exact this.kept (r:=none) (World.grownBy_alloc _ _ none) zm
 rintro W2 ⟨qr,qB,qm,qn,hb2⟩;go_loopw[22] (λi wr=>∃k:Nat,k<=xs.length/\i=af (k:Int)/\ar wr w.heap.size 217 [af 0,af 0,.slice none 0 0,.map none]/\ar wr w1.heap.size 30 (dC (List.replicate xs.length 0))/\Mp wr (w1.heap.size+1) k (place xs k)/\ar wr (w1.heap.size+1+1) 217 [af v,af d,.slice (some ⟨w1.heap.size,0,none⟩) xs.length xs.length,.map (some (w1.heap.size+1))]/\Bw w1 wr) (λi _=>xs.length-(intOf i).toNat);case atStart=>exact⟨0,Nat.zero_le _,rfl,qr,qB,qm,qn,hb2⟩
 case round=>
  obtain⟨k,hk,rfl,pr,pB,pm,pn,hb3⟩:=hrel;have HB:=aj (aI Hb.out hb3);have n1:wr.cell? ⟨w1.heap.size+1+1,3,none⟩=some (.map (some (w1.heap.size+1))):=pn.cell 3;by_cases hlt:k<xs.length
  . have jD:=dL.out.below hb3;have tN:At wr a (xs.flatMap λl=>[Value.string (bs l)]):=by rw[Nb];exact jD
    obtain⟨b,o,hab,hcs⟩:=tN.elem (f:=λl=>[Value.string (bs l)]) (sz:=1) (λ_=>rfl) zd k hlt;have hc0:wr.cell? ⟨b,o+k,none⟩=some (.string (bs xs[k])):=by simpa using hcs 0 zd
    have bD:=ET xs.length cap k (k:Int) hab hlt rfl;have hl0:=jA.out _ (List.getElem_mem hlt);obtain⟨w4,hput,JE,hg4⟩:=pm.put zx xs[k] zx k zo;rw[<-aim xs k hlt]at JE;rw[Nat.mul_one]at bD;go_wp2;go_roundw;case rel=>
     refine⟨k+1,by omega,by go_num,?_,?_,JE,?_,?_⟩
     . exact(hg4.block _ pr.lt zi).trans pr
     . exact(hg4.block _ pB.lt zm).trans pB
     . exact(hg4.block _ pn.lt zm).trans pn
     . exact hb3.grown hg4 (by have:=hb3.size;omega) (λj e=>by cases e;omega)
    case measure=>exact bC
  . obtain rfl:k=xs.length:=by omega
    have n0:wr.cell? ⟨w1.heap.size+1+1,0,none⟩=some (af v):=pn.cell 0;have n2:wr.cell? ⟨w1.heap.size+1+1,1,none⟩=some (af d):=pn.cell 1;have n3:wr.cell? ⟨w1.heap.size+1+1,2,none⟩=some (.slice (some ⟨w1.heap.size,0,none⟩) xs.length xs.length):=pn.cell 2;have r0:wr.cell? ⟨w.heap.size,0,none⟩=some (af 0):=pr.cell 0;have r1:wr.cell? ⟨w.heap.size,1,none⟩=some (af 0):=pr.cell 1;have r2:wr.cell? ⟨w.heap.size,2,none⟩=some (.slice none 0 0):=pr.cell 2;have r3:wr.cell? ⟨w.heap.size,3,none⟩=some (.map none):=pr.cell 3;have aO:=pr.free 0;have aQ:=pr.free 1;have dQ:=pr.free 2;have iG:=pr.free 3;go_wp2;refine bodyPost_ret (v:=.agg #[af v,af d,.slice (some ⟨w1.heap.size,0,none⟩) xs.length xs.length,.map (some (w1.heap.size+1))]) (by simp[results,Tryz.results161,go_sem,r0,r1,r2,r3]) rfl ⟨w1.heap.size,w1.heap.size+1,rfl,⟨?_,by omega,?_,by omega⟩,?_⟩
    . exact(((pB.aGq ⟨w.heap.size,0,none⟩ zp _).aGq ⟨w.heap.size,1,none⟩ zp _).aGq ⟨w.heap.size,2,none⟩ zp _).aGq ⟨w.heap.size,3,none⟩ zp _
    . exact(((pm.set ⟨w.heap.size,0,none⟩ zp _).set ⟨w.heap.size,1,none⟩ zp _).set ⟨w.heap.size,2,none⟩ zp _).set ⟨w.heap.size,3,none⟩ zp _
    . exact(((HB.out.setCell zp _).setCell zp _).setCell zp _).setCell zp _
def jk (l:List UInt8):List Value:=l.map λu=>.int .u8 (u.toNat:Int)
def apM (l:List UInt8):jk l=cM l.length (λj=>(l.getD j 0).toNat):=by
 apply List.ext_getElem?;intro j;by_cases h:j<l.length
 . rw[oJ _ _ _ h];simp[jk,h]
 . simp[jk,cM,h]
def aAF {w:World}{b:Nat}{t:TypeId}{l:List UInt8}(h:ar w b t (jk l))(cap:Nat):
 (convert 172 9 (.slice (some ⟨b,0,none⟩) l.length cap)).run Tryz.prog w=.ok (ah l) w:=by
 rw[apM]at h;rw[yP h cap];congr 2;congr 1;apply List.ext_getElem?;intro j;by_cases h:j<l.length
 . simp[h]
 . simp[h]
def aym (v d:Int)(bB bm bM nM uM n i B:Nat)(f:List UInt8->Nat)(ds:List Dyadic)(l:List UInt8)(s:Bool)(m:List UInt8)(e:Int)(D:Dyadic)(w:World)
 (hB:ar w bB 30 (dC ds)) (hm:Mp w bm n f) (tO:∀W,Bw w W->(convert 172 9 (.slice (some ⟨bM,0,none⟩) nM uM)).run Tryz.prog W=.ok (ah l) W) (hl:l.length<=255) (hi:f l=i) (hid:i<ds.length)
 (hx:Fit B (s,m,e)) (hd:Sm B ds[i]) (sw:B+2<=268435456) (hD:ds[i]+au (s,m,e)=D) (hT:aC w):
 Cl 165 #[.agg #[af v,af d,.slice (some ⟨bB,0,none⟩) ds.length ds.length,.map (some bm)],.slice (some ⟨bM,0,none⟩) nM uM,.agg #[ag s,ah m,af e]] w λex w'=>
  (∃r,ex=.returned r)/\ar w' bB 30 (dC (ds.set i D))/\w.grownBy w' (some bB):=by
 have Hg:=aj (aZ.num hB i hid);have HD:Hid (au (az (dN ds[i]),nt (dN ds[i]).natAbs,dE ds[i])+au (s,m,e)=D):=by show au (canon ds[i])+_=_;rw[bF];exact hD
 have GH:Hid (Fit B (az (dN ds[i]),nt (dN ds[i]).natAbs,dE ds[i])):=hd.fit zo;have td:=aj hx;have lB:=hB.lt;clear hD hd hx;have Jw:∀W,Bw w W->(Instr.lookup 215 (.map (some bm)) (ah l) false).run Tryz.prog W=.ok (af (i:Int)) W:=λW hW=>by rw[<-hi];exact(hm.below hW).look l zx
 obtain⟨aml,aly⟩:=aK Jw tO;clear Jw tO;obtain⟨g,hg⟩:=aB (ds[i]);rw[hg]at Hg HD GH;clear hg;obtain⟨W,hW⟩:=aB ((w.alloc (.cells #[af v,af d,.slice (some ⟨bB,0,none⟩) ds.length ds.length,.map (some bm)] 217)).alloc (.cells #[ag s,ah m,af e] 30));have Hb:Hid (Bw w W):=by rw[<-hW];exact zl.alloc zm _
 have Hx:Hid (ar W w.heap.size 217 [af v,af d,.slice (some ⟨bB,0,none⟩) ds.length ds.length,.map (some bm)]):=by rw[<-hW];exact(ar.new _ _ _).alloc _
 have Hc:Hid (ar W (w.heap.size+1) 30 [ag s,ah m,af e]):=by rw[<-hW];exact ar.newAt _ _ _ zm
 have sF:=aml.out W Hb.out;have hc1:=aly.out W Hb.out;obtain⟨HT,HBW⟩:=aK (hT.below Hb.out) (hB.below Hb.out);replace Hg:=aj (Hg.out.below Hb.out);have bD:=mg ds.length ds.length i (i:Int) (rfl:(some ⟨bB,0,none⟩:Option Addr)=_) hid rfl;rw[Nat.zero_add]at bD;go_enter Tryz.func165,Tryz.ntmps165;obtain⟨ae,ak⟩:=qZ (Hx.an<|Hc.an<|Hg.an trivial);go_wp2_with fail;obtain⟨Hx,Hc,Hg,_⟩:=ae;obtain⟨x0,x1,x2,x3⟩:=Hx.out.c4;obtain⟨c0,c1,c2⟩:=Hc.out.c3;obtain⟨g0,g1,g2⟩:=Hg.out.w3;refine fh (λw'=>aH w' (w.heap.size) 0 (af v)/\aH w' (w.heap.size) 1 (af d)/\aH w' (w.heap.size) 2 (.slice (some ⟨bB,0,none⟩) ds.length ds.length)/\aH w' (w.heap.size) 3 (.map (some bm))/\aH w' (w.heap.size+1) 0 (ag s)/\aH w' (w.heap.size+1) 1 (ah m)/\aH w' (w.heap.size+1) 2 (af e)/\aH w' bB (i*3) (ag (az (dN g)))/\aH w' bB (i*3+1) (ah (nt (dN g).natAbs))/\aH w' bB (i*3+2) (af (dE g))) (λi=>Nat.blt i 14) [(0,true),(1,true),(2,true),(3,true),(4,true),(5,true),(6,true),(7,true),(8,true),(9,true),(10,true),(11,false),(12,false),(13,true),(14,false)] zk zk rfl zk zc ⟨x0,x1,x2,x3,c0,c1,c2,g0,g1,g2⟩ ?_;iterate 11 (refine pT rfl rfl ?_ (by intro w' ⟨q0,q1,q2,q3,q4,q5,q6,q7,q8,q9⟩;go_simp;try with_reducible rfl);try simp only[UU])
 refine aM rfl rfl (λK hK=>?_);go_simp;refine hK _ _ (λ_=>⟨aU x0,aU x1,aU x2,aU x3,aU c0,aU c1,aU c2,aU g0,aU g1,aU g2⟩) ?_;try simp only[UU]
 refine cB (λW3=>ar W3 (W.heap.size) 30 [ag (az (dN g)),ah (nt (dN g).natAbs),af (dE g),ag s,ah m,af e]/\Bw W W3) (by first|exact iX|exact iY) ?_;rintro W3 ⟨qa,ai⟩;have ahx:=Hx.out.lt;have ahv:=Hc.out.lt;replace Hx:=kB Hx ai;replace Hc:=kB Hc ai;replace Hg:=kW Hg ai;have Ha:=aj qa;clear qa;obtain⟨x0,x1,x2,x3⟩:=Hx.out.c4;obtain⟨c0,c1,c2⟩:=Hc.out.c3;obtain⟨g0,g1,g2⟩:=Hg.out.w3;obtain⟨a0,a1,a2,a3,a4,a5⟩:=Ha.out.c6;replace Hb:=aW Hb ai;refine aM rfl rfl (λK hK=>?_);go_simp;with_reducible refine(xU (az (dN g)) (nt (dN g).natAbs) (dE g) s m e D B HD.out W.heap.size 2 30 _ GH.out td.out sw Ha.out (by first|exact(hT.below Hb.out) |exact aC.drew (hT.below Hb.out) |exact aC.alloc (hT.below Hb.out) _|exact aC.drew (aC.alloc (hT.below Hb.out) _) |exact aC.alloc (aC.drew (hT.below Hb.out)) _)).mono ?_
 rintro e w3 ⟨rfl,hq⟩;have ai:Bw W3 w3:=by first|exact hq|exact cu hq
 obtain⟨Hx,x0,x1,x2,x3⟩:=wR Hx ai;obtain⟨Hc,c0,c1,c2⟩:=gD Hc ai;replace Hg:=kW Hg ai;obtain⟨Ha,a0,a1,a2,a3,a4,a5⟩:=AA Ha ai;obtain⟨g0,g1,g2⟩:=Hg.out.w3;replace Hb:=aW Hb ai;refine hK _ _ (λ_=>⟨x0,x1,x2,x3,c0,c1,c2,g0,g1,g2⟩) ?_;try simp only[UU]
 refine pT rfl rfl ?_;try simp only[UU]
 refine aM rfl rfl (λK hK=>?_);go_simp;have mS:=hB.below Hb.out;have z0:w3.frozen? ⟨bB,i*3,none⟩=false:=mS.free _;have z1:w3.frozen? ⟨bB,i*3+1,none⟩=false:=mS.free _;have z2:w3.frozen? ⟨bB,i*3+2,none⟩=false:=mS.free _;go_simp;refine hK _ _ (λh=>absurd h zd) ?_;simp only[bH];go_end0
 refine⟨⟨_,rfl⟩,?_,?_⟩
 . have:=((mS.set (i*3) (ag (az (dN D)))).set (i*3+1) (ah (nt (dN D).natAbs))).set (i*3+2) (af (dE D));rw[Te]at this;exact this
 . have q:=Hb.out;refine⟨q.os,q.tape,q.output,?_,λk hk hne=>?_⟩
   . exact Nat.le_trans q.size zm
   . have hkb:k≠bB:=λe=>hne (by rw[e]);refine((Below.heap_setCell _ _ _ k hkb).trans ((Below.heap_setCell _ _ _ k hkb).trans (Below.heap_setCell _ _ _ k hkb))).trans (q.block k hk)
def ayl (v d:Int)(bB bm bM uM n i B:Nat)(f:List UInt8->Nat)(ds:List Dyadic)(l:List UInt8)(s:Bool)(m:List UInt8)(e:Int)(D:Dyadic)(w:World)
 (hB:ar w bB 30 (dC ds)) (hm:Mp w bm n f) (hM:ar w bM 5 (jk l)) (hl:l.length<=255) (hi:f l=i) (hid:i<ds.length)
 (hx:Fit B (s,m,e)) (hd:Sm B ds[i]) (sw:B+2<=268435456) (hD:ds[i]+au (s,m,e)=D) (hT:aC w):
 Cl 165 #[.agg #[af v,af d,.slice (some ⟨bB,0,none⟩) ds.length ds.length,.map (some bm)],.slice (some ⟨bM,0,none⟩) l.length uM,.agg #[ag s,ah m,af e]] w λex w'=>
  (∃r,ex=.returned r)/\ar w' bB 30 (dC (ds.set i D))/\w.grownBy w' (some bB):=
 aym v d bB bm bM l.length uM n i B f ds l s m e D w hB hm (λ_ hW=>aAF (hM.below hW) uM) hl hi hid hx hd sw hD hT
def se (ds:List Dyadic)(i:Nat)(x:Dyadic):List Dyadic:=ds.set i (ds.getD i 0+x)
def Ik (ds:List Dyadic)(i:Nat)(x:Dyadic):(se ds i x).length=ds.length:=by simp[se]
def aos {B:Nat}{ds:List Dyadic}(h:∀d∈ds,Sm B d)(i:Nat){x:Dyadic}(hx:Sm B x):∀d∈se ds i x,Sm (B+1) d:=by
 intro d hd;unfold se at hd;rcases List.mem_or_eq_of_mem_set hd with h1|h1
 . exact(h d h1).mono zo
 . subst h1;by_cases hi:i<ds.length
   . have e:ds.getD i 0=ds[i]:=by simp[hi]
     rw[e];exact Sm.add (h _ (List.getElem_mem hi)) hx
   . have e:ds.getD i 0=0:=by simp[hi]
     rw[e];exact Sm.add (Sm.zero _) hx
def Chg.tab {Y:Nat->Prop}{w w':World}(h:Chg Y w w')(hT:aC w)(hy:¬Y 0):aC w':=λj hj=>h.cell (hT j hj) hy
def Chg.mp {Y:Nat->Prop}{w w':World}(h:Chg Y w w'){b n:Nat}{f:List UInt8->Nat}(hm:Mp w b n f)(hy:¬Y b):Mp w' b n f:=by obtain⟨D,⟨es,clock,hb,F,hs,hD⟩,h2⟩:=hm;exact⟨D,⟨es,clock,(h.block b (Array.getElem?_eq_some_iff.1 hb).1 hy).trans hb,F,hs,hD⟩,h2⟩
def apL (l:List UInt8)(k:Nat)(u:UInt8):(jk l).set k (.int .u8 (u.toNat:Int))=jk (l.set k u):=by unfold jk;rw[List.map_set]
def apK (l:List UInt8)(k:Nat)(hk:k<l.length):(jk l)[k]?=some (.int .u8 (l[k].toNat:Int)):=by simp[jk,hk]
def aBy {P:Program}{w:World}{ops:Array Oper}{rest:List Oper}{o:Oper}{a:Act}{Q:Exit->Act->World->Prop}(hgd:o.guard=none)(d s:Operand)(dT sT:TypeId)
 (ho:o.op=.call {callee:=.builtin .copy,args:=#[d,s],argTypes:=#[dT,sT]}) (x y v:Value) (w':World) (hd:a.eval d=x) (hs:a.eval s=y)
 (hrun:(Builtin.copy_ #[dT,sT] o.type #[x,y]).run P w=.ok v w') (h:wpList P ops Q rest (a.put o.dst v) w'):wpList P ops Q (o::rest) a w:=by
 refine wpList_plain hgd λK hK=>?_;unfold Oper.wp;simp[execOp,ho,resolve,invoke,builtin,hd,hs,hrun,Result.andThen];exact hK _ _ h
def aqA (w:World)(l:List UInt8)(ty:TypeId):
 (Builtin.copy_ #[172,9] ty #[.slice (some ⟨w.heap.size,0,none⟩) l.length l.length,ah l]).run Tryz.prog (w.alloc (.cells (cM l.length λ_=>0).toArray 5))=
  .ok (af (l.length:Int)) (w.alloc (.cells (jk l).toArray 5)):=by
 have h:=Lib.run_copy_row_string (P:=Tryz.prog) (w.alloc (.cells (cM l.length λ_=>0).toArray 5)) 172 9 ty 5 w.heap.size 0 l.length l.length (bs l) (cM l.length λ_=>0).toArray 5 Tryz.underlying172 zk
  (heap_alloc_new w _) (by rw[jB];exact Nat.le_refl _) (by rw[jB];simp[Db])
 rw[h];rw[jB];have e:(List.take 0 (cM l.length λ_=>0).toArray.toList++Lib.byteCells (bs l).data.toList++List.drop (0+l.length) (cM l.length λ_=>0).toArray.toList)=jk l:=by rw[Nat.zero_add,List.drop_eq_nil_of_le (by simp[Db])];simp;rfl
 rw[e,World.setRow_alloc_new];rfl
def At.chg {Y:Nat->Prop}{w w':World}{a:Option Addr}{cs:List Value}(h:At w a cs)(hc:Chg Y w w')(hy:∀b o,a=some ⟨b,o,none⟩->¬Y b):At w' a cs:=by
 rcases h with h|⟨b,o,ha,hcs⟩
 . exact .inl h
 . refine .inr ⟨b,o,ha,λj hj=>?_⟩;have h1:=hcs j hj;rw[List.getElem?_eq_getElem hj]at h1⊢;exact hc.cell h1 (hy b o ha)
def ag9 (v d:Int):∀l∈fC v d,l.length<=9:=by
 intro l hl;unfold fC sQ at hl;rw[List.mem_map]at hl;obtain⟨x,hx,rfl⟩:=hl;split at hx
 . rename_i h
   rw[List.length_map,aiD _ _ x hx];omega
 . cases hx
def azv (v d:Int)(bB nB bm gf:Nat)(lb:Array Value)(fv fd:Int)(a:Option Addr)(Ec:Nat)(aS:List Raw)(J:Nat->World->Prop)(w:World)
 (hr:aS.length=(fC fv fd).length) (ha:At w a (aS.flatMap bu)) (hab:∀b o,a=some ⟨b,o,none⟩->b≠bB) (hac:∀b o,a=some ⟨b,o,none⟩->b<w.heap.size)
 (eg:∀args w,(callFunc gf args).run Tryz.prog w=.ok (.enter gf args) w) (hJb:∀k W W',J k W->Chg (λb=>w.heap.size<=b) W W'->J k W')
 (hcl:∀k (hk:k<(fC fv fd).length) (hk2:k<aS.length) W bM,J k W->ar W bM 5 (jk (fC fv fd)[k])->w.heap.size<=bM->
  Cl gf (#[.slice (some ⟨bM,0,none⟩) (fC fv fd)[k].length (fC fv fd)[k].length,.agg #[ag aS[k].1,.string (bs aS[k].2.1),af aS[k].2.2]]++lb) W λe w'=>(∃r,e=.returned r)/\J (k+1) w'/\Chg (λb=>b=bM\/b=bB) W w')
 (hbB:bB<w.heap.size) (h0:J 0 w):
 Cl 162 #[.agg #[af v,af d,.slice (some ⟨bB,0,none⟩) nB nB,.map (some bm)],.agg #[af fv,af fd,.slice a aS.length Ec],.func (.func gf) #[] lb] w λe w'=>
  e=.returned (.agg #[af v,af d,.slice (some ⟨bB,0,none⟩) nB nB])/\J (fC fv fd).length w'/\Chg (λb=>b=bB) w w':=by
 have hlen:=ag9 fv fd;have hK5:=aha fv fd;have xZ:=Xj fv fd;have IB:(sQ fv fd).map (λx=>Value.string (ex x))=(fC fv fd).map (λl=>Value.string (bs l)):=by unfold fC;rw[List.map_map];rfl
 have IA:(sQ fv fd).length=(fC fv fd).length:=by unfold fC;rw[List.length_map]
 rw[IB,IA]at xZ;generalize fC fv fd=xs at*;clear IB IA;obtain⟨Qf,jA,fJ,Qd,Ha0,kF,yV,mF,Hrl⟩:=CG xZ hlen hcl hJb ha hab hac eg hr;clear xZ hlen hcl hJb ha hab hac eg hr;obtain⟨W,hW⟩:=aB (((w.alloc (.cells #[af v,af d,.slice (some ⟨bB,0,none⟩) nB nB,.map (some bm)] 217)).alloc (.cells #[af fv,af fd,.slice a aS.length Ec] 38)).alloc (.cells #[af 0,af 0,.slice none 0 0] 38));have Hb:Hid (Bw w W):=by rw[<-hW];exact(zl.alloc zm _).alloc zj _
 have Hx:Hid (ar W w.heap.size 217 [af v,af d,.slice (some ⟨bB,0,none⟩) nB nB,.map (some bm)]):=by rw[<-hW];exact((ar.new _ _ _).alloc _).alloc _
 have Hf:Hid (ar W (w.heap.size+1) 38 [af fv,af fd,.slice a aS.length Ec]):=by rw[<-hW];exact(ar.newAt _ _ _ zm).alloc _
 have Hr:Hid (ar W (w.heap.size+1+1) 38 [af 0,af 0,.slice none 0 0]):=by rw[<-hW];exact ar.newAt _ _ _ zm
 have f0:W.cell? ⟨w.heap.size+1,0,none⟩=some (af fv):=Hf.out.cell 0;have f1:W.cell? ⟨w.heap.size+1,1,none⟩=some (af fd):=Hf.out.cell 1;go_enter Tryz.func162,Tryz.ntmps162;go_wp2_with fail;refine(Qf.out _).mono ?_;rintro e w1 ⟨a1,cap,rfl,hat,Ce,ai⟩;have lz1:=Hx.out.lt;have lz2:=Hf.out.lt;have lz3:=Hr.out.lt;replace Hx:=aj (Hx.out.below ai);replace Hf:=aj (Hf.out.below ai);replace Hr:=aj (Hr.out.below ai);replace Hb:=aj (aI Hb.out ai);obtain⟨dL,Gs⟩:=aK hat Ce;have aEi:=ai.size;clear hat Ce ai;have IV:J 0 w1:=Qd.out _ _ _ h0 (Chg.of_below Hb.out);have Dg:=aj IV;clear IV h0;go_wp2_with fail;go_loopw[16] (λi wr=>∃k:Nat,k<=xs.length/\i=af (k:Int)/\ar wr w.heap.size 217 [af v,af d,.slice (some ⟨bB,0,none⟩) nB nB,.map (some bm)]/\ar wr (w.heap.size+1) 38 [af fv,af fd,.slice a aS.length Ec]/\ar wr (w.heap.size+1+1) 38 [af 0,af 0,.slice none 0 0]/\J k wr/\At wr a1 (xs.map λl=>Value.string (bs l))/\At wr a (aS.flatMap bu)/\Chg (λb=>b=bB) w wr) (λi _=>xs.length-(intOf i).toNat);case atStart=>exact⟨0,Nat.zero_le _,rfl,Hx.out,Hf.out,Hr.out,Dg.out,dL.out,Ha0.out.below Hb.out,Chg.of_below Hb.out⟩
 case round=>
  obtain⟨k,hk,rfl,pX,pF,pR,pJ,pA1,pA,pg⟩:=hrel;by_cases hlt:k<xs.length
  . have tN:At wr a1 (xs.flatMap λl=>[Value.string (bs l)]):=by rw[Nb];exact pA1
    obtain⟨b1,o1,dh,hcs⟩:=tN.elem (f:=λl=>[Value.string (bs l)]) (sz:=1) (λ_=>rfl) zd k hlt;have hc0:wr.cell? ⟨b1,o1+k,none⟩=some (.string (bs xs[k])):=by simpa using hcs 0 zd
    have bD:=ET xs.length cap k (k:Int) dh hlt rfl;rw[Nat.mul_one]at bD;clear tN hcs;have hk2:k<aS.length:=by rw[Hrl.out];exact hlt
    obtain⟨l,hl⟩:=aB (xs[k]);have hll:l.length<=9:=by rw[<-hl];exact jA.out _ (List.getElem_mem hlt)
    obtain⟨x,hx⟩:=aB (aS[k]);obtain⟨W2,hW2⟩:=aB (wr.alloc (.cells (jk l).toArray 5));have hb2:Bw wr W2:=by rw[<-hW2];exact zl
    have qM:ar W2 wr.heap.size 5 (jk l):=by rw[<-hW2];exact ar.new _ _ _
    have UN:=fJ.out k hlt hk2 W2 wr.heap.size (Qd.out _ _ _ pJ (Chg.of_below hb2)) (by rw[hl];exact qM) (by have:=pX.lt;omega);rw[hl,hx]at UN;rw[hl]at hc0;obtain⟨b2,o2,dG,Jo⟩:=(pA.below hb2).elem (f:=bu) (sz:=3) (λ_=>rfl) zd k hk2;rw[hx]at Jo;have y0:W2.cell? ⟨b2,o2+k*3,none⟩=some (ag x.1):=by simpa[bu]using Jo 0 zd
    have y1:W2.cell? ⟨b2,o2+k*3+1,none⟩=some (ah x.2.1):=by simpa[bu]using Jo 1 zd
    have y2:W2.cell? ⟨b2,o2+k*3+2,none⟩=some (af x.2.2):=by simpa[bu]using Jo 2 zd
    have kv:=mg aS.length Ec k (k:Int) dG hk2 rfl;have f2:W2.cell? ⟨w.heap.size+1,2,none⟩=some (.slice a aS.length Ec):=(pF.below hb2).cell 2;have hmk:=yH (l.length:Int) l.length rfl zo;have vd:=aqA wr l;rw[hW2]at vd;have alu:=aj UN;have aDC:(bs l).size=l.length:=jB l;have oP:=mF.out;clear UN Jo hl hx;go_wp2_with (first| (at_builtin;refine aBy rfl _ _ _ _ rfl _ _ _ _ rfl rfl (vd _) ?_));refine alu.out.mono ?_;rintro e' w3 ⟨⟨r,rfl⟩,qJ,qg⟩;have c2:Chg (λb=>b=bB) wr w3:=(Chg.of_below hb2).trans qg (λb h=>by rcases h with h|h;exact .inr zo;exact .inl h);have tJ:=c2.blk pX zo;have hF2:=c2.blk pF zo;have zZ:=c2.blk pR zo;have tE:=pA.chg c2 kF.out;have IJ:=pA1.chg c2 (λb o e h=>by have:=Gs.out b o e;omega);have hG2:=pg.trans c2 (λb h=>.inl h);obtain⟨H1,H2,H3,H4,H5,H6⟩:=gU tJ hF2 zZ tE IJ hG2;clear dG dh y0 y1 y2 bD kv f2 hc0 vd tJ hF2 zZ tE IJ hG2;go_wp2;go_roundw;case rel=>exact⟨k+1,by omega,by go_num,H1.out,H2.out,H3.out,qJ,H5.out,H4.out,H6.out⟩
    case measure=>exact bC
  . obtain rfl:k=xs.length:=by omega
    have x0:wr.cell? ⟨w.heap.size,0,none⟩=some (af v):=pX.cell 0;have x1:wr.cell? ⟨w.heap.size,1,none⟩=some (af d):=pX.cell 1;have x2:wr.cell? ⟨w.heap.size,2,none⟩=some (.slice (some ⟨bB,0,none⟩) nB nB):=pX.cell 2;have r0:wr.cell? ⟨w.heap.size+1+1,0,none⟩=some (af 0):=pR.cell 0;have r1:wr.cell? ⟨w.heap.size+1+1,1,none⟩=some (af 0):=pR.cell 1;have r2:wr.cell? ⟨w.heap.size+1+1,2,none⟩=some (.slice none 0 0):=pR.cell 2;have aO:=pR.free 0;have aQ:=pR.free 1;have dQ:=pR.free 2;go_wp2;have cst:Chg (λb=>b=w.heap.size+1+1) wr (((wr.setCell ⟨w.heap.size+1+1,0,none⟩ (af v)).setCell ⟨w.heap.size+1+1,1,none⟩ (af d)).setCell ⟨w.heap.size+1+1,2,none⟩ (.slice (some ⟨bB,0,none⟩) nB nB)):=
     ⟨rfl,rfl,rfl,by simp,λj _ hne=>(Below.heap_setCell _ _ _ j hne).trans ((Below.heap_setCell _ _ _ j hne).trans (Below.heap_setCell _ _ _ j hne))⟩
    refine bodyPost_ret (v:=.agg #[af v,af d,.slice (some ⟨bB,0,none⟩) nB nB]) (by simp[results,Tryz.results162,go_sem,r0,r1,r2]) rfl ⟨rfl,Qd.out _ _ _ pJ (cst.mono (λb _ h=>by omega)),pg.trans cst (λb h=>.inr zo)⟩
end Go.Proofs.YtbkopgdpcijfbaaGreatDoor
namespace Go.Proofs.YtbkopgdpcijfbaaGreatDoor
def sO (n s:Nat)(x:List Nat):x∈bz (n+1) s↔x.length=n+1/\x.sum=s:=by
 induction n generalizing s x with
 | zero=>
   simp only[bz,List.mem_singleton];constructor
   . rintro rfl;simp
   . rintro⟨h1,h2⟩;match x,h1,h2 with
     |[a],_,h2=>simp at h2;rw[h2]
 | succ n ih=>
   simp only[bz,List.mem_flatMap,List.mem_map,List.mem_range];constructor
   . rintro⟨i,hi,y,hy,rfl⟩;obtain⟨h1,h2⟩:=(ih i y).1 hy;exact⟨by simp[h1],by simp[h2];omega⟩
   . rintro⟨h1,h2⟩;match x,h1,h2 with
     |a::y,h1,h2=>simp at h1 h2;exact⟨y.sum,by omega,y,(ih _ y).2 ⟨by omega,rfl⟩,by congr 1;omega⟩
def CZ (n s:Nat):(bz (n+1) s).Nodup:=by
 induction n generalizing s with
 |zero=>simp[bz]
 | succ n ih=>
   unfold bz List.Nodup;rw[List.pairwise_flatMap];refine⟨λi _=>?_,?_⟩
   . rw[List.pairwise_map];exact(ih i).imp (λh e=>h (by simpa using e))
   . have h0:(List.range (s+1)).Pairwise (·<·):=List.pairwise_lt_range;refine List.Pairwise.imp_of_mem ?_ h0;intro a b ha hb hab x hx y hy e;rw[List.mem_range]at ha hb;rw[List.mem_map]at hx hy;obtain⟨_,_,rfl⟩:=hx;obtain⟨_,_,rfl⟩:=hy;simp at e;omega
def bytes_inj {x y:List Nat}(hx:∀a∈x,a<=255)(hy:∀a∈y,a<=255)(h:x.map UInt8.ofNat=y.map UInt8.ofNat):x=y:=by
 induction x generalizing y with
 | nil=>cases y with
   |nil=>rfl
   |cons b y=>simp at h
 | cons a x ih=>cases y with
   |nil=>simp at h
   |cons b y=>simp only[List.map_cons,List.cons.injEq]at h;have h1:=congrArg UInt8.toNat h.1;simp at h1;have:=hx a zm;have:=hy b zm;rw[ih (λc hc=>hx c (by simp[hc])) (λc hc=>hy c (by simp[hc])) h.2];congr 1;omega
def ahF {x:List Nat}{a:Nat}(h:a∈x):a<=x.sum:=by
 induction x with
 |nil=>cases h
 | cons b x ih=>
   rw[List.mem_cons]at h;rcases h with rfl|h
   . simp
   . have:=ih h;simp;omega
def aiH {n s:Nat}(hs:s<=255){x:List Nat}(h:x∈bz (n+1) s):∀a∈x,a<=255:=by intro a ha;have:=ahF ha;have:=((sO n s x).1 h).2;omega
def ava {n s:Nat}(hs:s<=255):((bz (n+1) s).map λx=>x.map UInt8.ofNat).Nodup:=by unfold List.Nodup;rw[List.pairwise_map];refine List.Pairwise.imp_of_mem ?_ (CZ n s);intro a b ha hb hab e;exact hab (bytes_inj (aiH hs ha) (aiH hs hb) e)
def axT (xs:List (List UInt8))(hn:xs.Nodup)(k q:Nat)(hq:q<k)(hk:k<=xs.length):place xs k (xs[q]'zo)=q:=by
 induction k with
 |zero=>omega
 | succ k ih=>
   rw[place];have e:xs.getD k []=xs[k]:=by simp[show k<xs.length by omega]
   rw[e];by_cases h:q=k
   . subst h;simp
   . rw[if_neg (λe2=>h (Ks hn e2)),ih zo zo]
def ail {n s:Nat}(hs:s<=255){x:List Nat}(h:x∈bz (n+1) s):
 ∃q,∃h:q<(bz (n+1) s).length,(bz (n+1) s)[q]=x/\place ((bz (n+1) s).map λx=>x.map UInt8.ofNat) (bz (n+1) s).length (x.map UInt8.ofNat)=q:=by
 obtain⟨q,hq,rfl⟩:=List.mem_iff_getElem.1 h;refine⟨q,hq,rfl,?_⟩;have:=axT _ (ava (n:=n) hs) (bz (n+1) s).length q hq zm;simpa using this
def ja (f:List UInt8->Nat)(ds:List Dyadic)(ps:iw):List Dyadic:=ps.foldl (λds p=>se ds (f (p.1.map UInt8.ofNat)) p.2) ds
def Xl (f:List UInt8->Nat)(ds:List Dyadic)(a b:iw):ja f ds (a++b)=ja f (ja f ds a) b:=by simp[ja]
def Xm (f:List UInt8->Nat)(ds:List Dyadic)(ps:iw):(ja f ds ps).length=ds.length:=by
 induction ps generalizing ds with
 |nil=>rfl
 |cons p ps ih=>exact(ih _).trans (Ik _ _ _)
def Xn {B:Nat}(f:List UInt8->Nat)(ds:List Dyadic)(ps:iw)(hd:∀d∈ds,Sm B d)(hp:∀p∈ps,Sm B p.2):∀d∈ja f ds ps,Sm (B+ps.length) d:=by
 induction ps generalizing ds B with
 |nil=>exact hd
 |cons p ps ih=>have:=ih (B:=B+1) (se ds (f (p.1.map UInt8.ofNat)) p.2) (aos hd _ (hp p zm)) (λq hq=>(hp q (by simp[hq])).mono zo);intro d hdd;have h1:=this d hdd;simp only[List.length_cons];rw[show B+(ps.length+1)=B+1+ps.length by omega];exact h1
def ayk (R:List (List Nat))(hR:R.Nodup)(f:List UInt8->Nat)(hf:∀x∈R,∃q,∃h:q<R.length,R[q]=x/\f (x.map UInt8.ofNat)=q)(ps:iw)(hp:∀p∈ps,p.1∈R)(ds:List Dyadic)(hd:ds.length=R.length):
 ja f ds ps=List.zipWith (·+·) ds (kN R ps):=by
 induction ps generalizing ds with
 |nil=>apply List.ext_getElem (by simp[ja,kN,hd]);intro k h1 h2;simp[ja,kN,uN,mA]
 | cons p ps ih=>
   have e:ja f ds (p::ps)=ja f (se ds (f (p.1.map UInt8.ofNat)) p.2) ps:=rfl;rw[e,ih (λq hq=>hp q (by simp[hq])) _ (by rw[Ik,hd])];obtain⟨q,hq,e1,e2⟩:=hf _ (hp p zm);rw[e2];apply List.ext_getElem (by simp[kN,Ik]);intro k h1 h2;have hk:k<ds.length:=by simp[kN,Ik]at h1;omega
   simp only[kN,List.getElem_zipWith,List.getElem_map];have e3:(se ds q p.2)[k]'(by rw[Ik];exact hk)=ds[k]+p.2*delta (R[k]'zo) p.1:=by
    unfold se delta;rw[List.getElem_set];by_cases h:q=k
    . subst h;rw[if_pos rfl,if_pos e1.symm];simp[hk];grind
    . rw[if_neg h,if_neg (λh2=>h (Ks hR (e1.trans h2)))];grind
   rw[e3];unfold uN;simp only[mA];grind
def ait (R:List (List Nat))(hR:R.Nodup)(f:List UInt8->Nat)(hf:∀x∈R,∃q,∃h:q<R.length,R[q]=x/\f (x.map UInt8.ofNat)=q)(ps:iw)(hp:∀p∈ps,p.1∈R):
 ja f (List.replicate R.length 0) ps=kN R ps:=by
 rw[ayk R hR f hf ps hp _ zm];apply List.ext_getElem (by simp[kN]);intro k h1 h2;simp
def auP (x:List Nat)(k:Nat)(hk:k<x.length):(x.map UInt8.ofNat).set k ((x.map UInt8.ofNat).getD k 0+1)=(mh x k).map UInt8.ofNat:=by unfold mh;rw[List.map_set];congr 1;simp[hk]
end Go.Proofs.YtbkopgdpcijfbaaGreatDoor
namespace Go.Proofs.YtbkopgdpcijfbaaGreatDoor
open Go.RowKit
attribute [local go_sem ↓] Go.wp_at_zero Go.wp_at_succ
def SQ (y:List Nat)(k:Nat)(hk:k<y.length)(h:y.getD k 0<=255):(jk (y.map UInt8.ofNat))[k]?=some (.int .u8 (y.getD k 0:Int)):=by
 rw[apK _ k (by simpa using hk)];have e:y[k]=y.getD k 0:=by simp[hk]
 rw[List.getElem_map,e];generalize y.getD k 0=z at*;congr 3;simp;omega
def abF (y:List Nat)(k v:Nat)(h:v<=255):(jk (y.map UInt8.ofNat)).set k (.int .u8 (v:Int))=jk ((y.set k v).map UInt8.ofNat):=by
 have e:(v:Int)=((UInt8.ofNat v).toNat:Int):=by simp;omega
 rw[e,apL,List.map_set]
def awx (x:List Nat)(i j t:Nat)(hij:i≠j)(hi:i<x.length)(hj:j<x.length):((mv x i j t).set i (x.getD i 0-t-1)).set j (x.getD j 0+t+1)=mv x i j (t+1):=by
 refine zQ (by simp[lv]) (λl _=>?_);rw[xX _ _ _ _ (by simp[lv,hj]),xX _ _ _ _ (by simp[lv,hi]),ry _ _ _ _ _ hij hi hj,ry _ _ _ _ _ hij hi hj];by_cases e1:j=l
 . subst e1;rw[if_pos rfl,if_pos rfl];omega
 . rw[if_neg e1,if_neg e1,if_neg e1];by_cases e2:i=l
   . subst e2;rw[if_pos rfl,if_pos rfl];omega
   . rw[if_neg e2,if_neg e2,if_neg e2]
def awy (x:List Nat)(i j:Nat)(hij:i≠j)(hi:i<x.length)(hj:j<x.length):mv x i j 0=x:=by
 refine zQ (lv _ _ _ _) (λl _=>?_);rw[ry _ _ _ _ _ hij hi hj];split
 . rfl
 . split<;>rfl
def abN (n k:Nat)(hn:n<=20):Sm 21 (fY n k):=by
 refine⟨(ch n k:Int) *2^21,?_,?_⟩
 . unfold fY;rw[<-mz (ch n k:Int) 21 0];rfl
 . have h:=Nat.le_trans (ME n k) (Nat.pow_le_pow_right zd hn);rw[Int.natAbs_mul];simp only[Int.natAbs_natCast];have:(2^21:Int).natAbs=2097152:=rfl;rw[this];have:2^(2*21)=4398046511104:=rfl;omega
def rD (i j:Nat)(x:List Nat)(c:Dyadic)(t:Nat):iw:=(List.range t).map λt=>(mv x i j t,c*fY (x.getD i 0) t*hp (x.getD j 0+t))
def ato (i j:Nat)(x:List Nat)(c:Dyadic)(t:Nat):rD i j x c (t+1)=rD i j x c t++[(mv x i j t,c*fY (x.getD i 0) t*hp (x.getD j 0+t))]:=by unfold rD;rw[List.range_succ,List.map_append];rfl
def UE {B C i j:Nat}{x:List Nat}{c:Dyadic}(hc:Sm B c)(h:x.sum<=20)(hij:i≠j)(hC:B+42<=C)(t:Nat)(ht:t<=x.getD i 0+1):∀p∈rD i j x c t,Sm C p.2:=by intro p hp';unfold rD at hp';rw[List.mem_map]at hp';obtain⟨s,hs,rfl⟩:=hp';rw[List.mem_range]at hs;have h2:=ac6 x i j hij;have:=(hc.mul (abN (x.getD i 0) s zo)).mul (EI (x.getD j 0+s));exact this.mono zo
def atl (v d:Int)(bB bm bM bx bi bj uM n B C i j:Nat)(f:List UInt8->Nat)(ds:List Dyadic)(x:List Nat)(s:Bool)(m:List UInt8)(e:Int)(w:World)
 (hX:ar w bx 217 [af v,af d,.slice (some ⟨bB,0,none⟩) ds.length ds.length,.map (some bm)]) (hI:ar w bi 3 [af (i:Int)]) (hJ:ar w bj 3 [af (j:Int)])
 (hB:ar w bB 30 (dC ds)) (hm:Mp w bm n f) (hM:ar w bM 5 (jk (x.map UInt8.ofNat))) (hl:x.length<=9) (hs:x.sum<=20) (hij:i≠j) (hi:i<x.length) (hj:j<x.length)
 (hf:∀t,t<=x.getD i 0->f ((mv x i j t).map UInt8.ofNat)<ds.length) (hx:Fit B (s,m,e)) (hd:∀y∈ds,Sm C y) (hC:B+42<=C) (hCC:2*C+100<=268435456) (hT:aC w)
 (t1:0≠bM) (t2:0≠bB):
 Cl 163 #[.slice (some ⟨bM,0,none⟩) x.length uM,.agg #[ag s,ah m,af e],.pointer (some ⟨bi,0,none⟩),.pointer (some ⟨bx,0,none⟩),.pointer (some ⟨bj,0,none⟩)] w λex w'=>
  (∃r,ex=.returned r)/\ar w' bB 30 (dC (ja f ds (rC i j x (au (s,m,e)))))/\Chg (λb=>b=bM\/b=bB) w w':=by
 have OY:bM≠bB:=by rintro rfl;have h:=hM.symm.trans hB;simp at h
 have nMX:bM≠bx:=by rintro rfl;have h:=hM.symm.trans hX;simp at h
 have nXB:bx≠bB:=by rintro rfl;have h:=hX.symm.trans hB;simp at h
 have nMI:bM≠bi:=by rintro rfl;have h:=hM.symm.trans hI;simp at h
 have nBI:bB≠bi:=by rintro rfl;have h:=hB.symm.trans hI;simp at h
 have nMJ:bM≠bj:=by rintro rfl;have h:=hM.symm.trans hJ;simp at h
 have nBJ:bB≠bj:=by rintro rfl;have h:=hB.symm.trans hJ;simp at h
 have nmM:bm≠bM:=by rintro rfl;obtain⟨D,⟨es,clock,hb,_⟩,_⟩:=hm;have h:=hM.symm.trans hb;simp at h
 have nmB:bm≠bB:=by rintro rfl;obtain⟨D,⟨es,clock,hb,_⟩,_⟩:=hm;have h:=hB.symm.trans hb;simp at h
 obtain⟨c,hc⟩:=aB (au (s,m,e));have rI:=ac6 x i j hij;obtain⟨p,hp0⟩:=aB (x.getD i 0);obtain⟨q,hq0⟩:=aB (x.getD j 0);have Cx:p+q<=20:=by omega
 have hR:rC i j x c=rD i j x c (p+1):=by unfold rC rD;rw[hp0]
 rw[hc,hR];have lX:=hX.lt;have lB:=hB.lt;have lM:=hM.lt;have lm:=hm.lt;have lI:=hI.lt;have lJ:=hJ.lt;obtain⟨qV,Hd,GC,qu,HT,oU,RH,Hs⟩:=jZ hx hd hf hc hT hp0 hq0 hs;clear hx hd hf hc hT rI hR hs;have kw:(jk (x.map UInt8.ofNat))[i]?=some (.int .u8 (p:Int)):=by rw[SQ x i hi zo,oU.out]
 have c0:∀W,Bw w W->W.cell? ⟨bM,i,none⟩=some (.int .u8 (p:Int)):=λW hW=>by rw[(hM.below hW).cell,kw]
 obtain⟨W,hW⟩:=aB (w.alloc (.cells #[ag s,ah m,af e] 30));have hb0:Bw w W:=by rw[<-hW];exact zl
 have hcb:ar W w.heap.size 30 [ag s,ah m,af e]:=by rw[<-hW];exact ar.new _ _ _
 have i0:W.cell? ⟨bi,0,none⟩=some (af (i:Int)):=(hI.below hb0).cell 0;have m0:=c0 W hb0;have atS:=yw x.length uM i (i:Int) (rfl:(some ⟨bM,0,none⟩:Option Addr)=_) hi rfl;have atT:=yw x.length uM j (j:Int) (rfl:(some ⟨bM,0,none⟩:Option Addr)=_) hj rfl;rw[Nat.mul_one,Nat.zero_add]at atS atT;obtain⟨ft,Hcb⟩:=aK hb0 hcb;clear hb0 hcb c0 kw hp0 hq0;have hlw:W.heap.size=w.heap.size+1:=by rw[<-hW];simp
 have Hlw:=aj hlw;clear hlw;go_enter Tryz.func163,Tryz.ntmps163;go_wp2_with fail;refine(ap6 p zo W).mono ?_;rintro e' w1 ⟨rfl,hrow,hb1⟩;obtain⟨qQ,cj⟩:=aK hrow hb1;clear hrow hb1;obtain⟨Lv,Lm,Dg,dK,vU,Lp,Dp,Qu⟩:=jZ ((hX.below ft.out).below cj.out) ((hI.below ft.out).below cj.out) ((hJ.below ft.out).below cj.out) ((hB.below ft.out).below cj.out) ((hm.below ft.out).below cj.out) ((hM.below ft.out).below cj.out) (Hcb.out.below cj.out) (aI ft.out cj.out);clear hX hI hJ hB hm hM i0 m0;go_wp2_with fail;go_loopw[8,16] (λ_ u wr=>∃t:Nat,t<=p+1/\u=af (t:Int)/\ar wr w.heap.size 30 [ag s,ah m,af e]/\ar wr bx 217 [af v,af d,.slice (some ⟨bB,0,none⟩) ds.length ds.length,.map (some bm)]/\ar wr bi 3 [af (i:Int)]/\ar wr bj 3 [af (j:Int)]/\ar wr bM 5 (jk ((mv x i j (min t p)).map UInt8.ofNat))/\ar wr bB 30 (dC (ja f ds (rD i j x c t)))/\Mp wr bm n f/\ar wr W.heap.size 2 (js (p+1) (ch p))/\Chg (λb=>b=bM\/b=bB) w wr) (λ_ u _=>p+1-(intOf u).toNat);case atStart=>refine⟨0,Nat.zero_le _,rfl,Dp.out,Lv.out,Lm.out,Dg.out,?_,dK.out,vU.out,qQ.out,Chg.of_below Qu.out⟩;rw[Nat.zero_min,awy x i j hij hi hj];exact Lp.out
 case round=>
  clear Lv Lm Dg dK vU Lp Dp qQ;obtain⟨t,ht,rfl,pc,pX,pI,pJ,pM,pB,pm,pr,pg⟩:=hrel;by_cases hlt:t<p+1
  . rw[Nat.min_eq_left zo]at pM;have hrt:wr.cell? ⟨W.heap.size,t,none⟩=some (af (ch p t:Int)):=by rw[pr.cell,CE _ _ _ hlt]
    have atW:=Kg (p+1) (p+1) t (t:Int) (rfl:(some ⟨W.heap.size,0,none⟩:Option Addr)=_) hlt rfl;rw[Nat.mul_one,Nat.zero_add]at atW;have atD:ch p t<=1048576:=Nat.le_trans (ME p t) (Nat.pow_le_pow_right zd (show p<=20 by omega));have Ai:(mv x i j t).getD i 0=p-t:=by rw[ry _ _ _ _ _ hij hi hj,if_neg (λe=>hij e.symm),if_pos rfl,oU.out]
    have Aj:(mv x i j t).getD j 0=q+t:=by rw[ry _ _ _ _ _ hij hi hj,if_pos rfl,RH.out]
    have hmj:wr.cell? ⟨bM,j,none⟩=some (.int .u8 ((q+t:Nat):Int)):=by rw[pM.cell,SQ _ j (by rw[lv];exact hj) zo,Aj]
    have DG:Hid ((jk ((mv x i j t).map UInt8.ofNat))[i]?=some (.int .u8 ((p-t:Nat):Int))):=by show _=_;rw[SQ _ i (by rw[lv];exact hi) zo,Ai]
    obtain⟨y,hy⟩:=aB (mv x i j t);have hyl:y.length=x.length:=by rw[<-hy,lv]
    rw[hy]at pM DG;have hft:=GC.out t (by rw[oU.out];omega);rw[hy]at hft;obtain⟨cs,hcs⟩:=aB (ja f ds (rD i j x c t));have hcl:cs.length=ds.length:=by rw[<-hcs,Xm]
    have yi:∀z∈cs,Sm (C+t) z:=by
     rw[<-hcs];have:=Xn f ds (rD i j x c t) Hd.out (UE (by rw[<-qu.out];exact qV.out.2) Hs.out hij hC t (by rw[oU.out];omega));intro z hz;have h1:=this z hz;have e1:(rD i j x c t).length=t:=by simp[rD]
     rw[e1]at h1;exact h1
    rw[hcs]at pB;obtain⟨D1,Eo⟩:=aB (Dyadic.ofIntWithPrec (ch p t:Int) 0);have TU:D1=fY p t:=by rw[<-Eo];rfl
    have TV:Sm 21 D1:=by rw[TU];exact abN p t zo
    obtain⟨D2,Nn⟩:=aB (c*D1);have hcS:Sm B c:=by rw[<-qu.out];exact qV.out.2
    have TW:Sm (B+21) D2:=by rw[<-Nn];exact hcS.mul TV
    obtain⟨D3,BX⟩:=aB (D2*hp (q+t));have adi:Sm C D3:=by rw[<-BX];exact(TW.mul (EI (q+t))).mono zo
    have Li:=aj Eo;have HD2:Hid (au (s,m,e) *au (bE D1)=D2):=by
     show au (s,m,e) *au (canon D1)=D2
     rw[bF,qu.out];exact Nn
    have YR:Hid (au (az (dN D2),nt (dN D2).natAbs,dE D2+ -((q+t:Nat):Int))=D3):=by show _=_;rw[PF];exact BX
    have Qc:Hid (Fit (B+21) (bE D1)):=(TV.mono zo).fit zo;have HFx:Hid (Fit (B+21) (s,m,e)):=qV.out.mono zo;have HO2:Hid (Ok (bE D2)):=TW.ok zo;have HF3:Hid (Fit (C+t) (bE D3)):=(adi.mono zo).fit zo;obtain⟨Dn,hDn⟩:=aB (cs[f (y.map UInt8.ofNat)]'zo+D3);have bR:Hid (cs.set (f (y.map UInt8.ofNat)) Dn=ja f ds (rD i j x c (t+1))):=by
     show _=_
     rw[ato,Xl,hcs,<-hDn];show _=se _ _ _
     unfold se;rw[hy,oU.out,RH.out,<-BX,<-Nn,TU];congr 1;have:f (y.map UInt8.ofNat)<cs.length:=by omega
     simp[this]
    obtain⟨alz,aCe⟩:=aK yi hcs;have HDn:Hid (cs[f (y.map UInt8.ofNat)]'zo+au (bE D3)=Dn):=by
     show _+au (canon D3)=_
     rw[bF];exact hDn
    have Ut:aC wr:=pg.tab HT.out (by rintro(h|h);exact t1 h;exact t2 h);have GW:=λW' hW'=>ayl v d bB bm bM uM n (f (y.map UInt8.ofNat)) (C+t) f cs (y.map UInt8.ofNat) (az (dN D3)) (nt (dN D3).natAbs) (dE D3) Dn W' (pB.below hW') (pm.below hW') (pM.below hW') zi rfl zo HF3.out (alz.out _ (List.getElem_mem _)) zo HDn.out (Ut.below hW');rw[List.length_map,hyl,hcl]at GW;replace GW:=aj GW;obtain⟨Hc,Hx,Hj,HpI,HpM,kd,Hpm,Hpr,nJ,fU⟩:=yC pc pX pJ pI pM pB pm pr pg Ut;have Hk:Hid (aZ wr bM j [.int .u8 ((q+t:Nat):Int)]):=λk hk=>by
     obtain rfl:k=0:=by simp at hk;omega
     exact hmj
    have Hy:=aj hy;clear pc pX pI pJ pM pB pm pr pg Eo Nn BX hDn TU hcs hy Ai Aj hmj Ut yi hcS TV TW adi;obtain⟨z,hz⟩:∃z:Int,((q+t:Nat):Int)=z:=⟨_,rfl⟩;have hzb:0<=z/\z<=20:=by omega
    rw[hz]at Hk YR;have Hz:=aj hz;clear hz;obtain⟨ct,hct⟩:∃ct:Int,(ch p t:Int)=ct:=⟨_,rfl⟩;have aDJ:0<=ct/\ct<=1048576:=by omega
    rw[hct]at hrt Li;clear hct atD;have Hb:=hbz wr;have aEs:IntKind.i64.wrap z=z:=by rw[IntKind.wrap_i64];omega
    have aEt:IntKind.i64.wrap (-z)= -z:=by rw[IntKind.wrap_i64];omega
    go_wp2_with fail;obtain⟨ae,ak⟩:=qZ (Hc.an<|Hx.an<|Hj.an<|Hk.an trivial);obtain⟨Hc,Hx,Hj,Hk,_⟩:=ae;obtain⟨c0,c1,c2⟩:=Hc.out.c3;obtain⟨x0,x1,x2,x3⟩:=Hx.out.c4;have j0:=Hj.out.c1;have k0:=Hk.out.w1;refine fh (λw'=>aH w' (w.heap.size) 0 (ag s)/\aH w' (w.heap.size) 1 (ah m)/\aH w' (w.heap.size) 2 (af e)/\aH w' bx 0 (af v)/\aH w' bx 1 (af d)/\aH w' bx 2 (.slice (some ⟨bB,0,none⟩) ds.length ds.length)/\aH w' bx 3 (.map (some bm))/\aH w' bj 0 (af (j:Int))/\aH w' bM j (.int .u8 z)) (λi=>Nat.blt i 100000) [(0,true),(1,true),(2,true),(3,true),(7,true),(8,true),(9,true),(10,true),(11,true),(12,true),(4,false),(5,false),(6,false),(13,false),(14,false)] zk zk rfl zk zc ⟨c0,c1,c2,x0,x1,x2,x3,j0,k0⟩ ?_;iterate 10 (refine pT rfl rfl ?_ (by intro w' ⟨q0,q1,q2,q3,q4,q5,q6,q7,q8⟩;go_simp;try with_reducible rfl);try simp only[UU])
    refine aM rfl rfl (λK hK=>?_);go_simp;with_reducible refine(uP ct D1 Li.out _ zo (by first|exact(fU.out.below Hb.out) |exact aC.drew (fU.out.below Hb.out) |exact aC.alloc (fU.out.below Hb.out) _|exact aC.drew (aC.alloc (fU.out.below Hb.out) _) |exact aC.alloc (aC.drew (fU.out.below Hb.out)) _)).mono ?_
    rintro e w3 ⟨rfl,hq⟩;have ai:Bw wr w3:=by first|exact hq|exact cu hq
    obtain⟨Hc,c0,c1,c2⟩:=gD Hc ai;obtain⟨Hx,x0,x1,x2,x3⟩:=wR Hx ai;replace Hj:=kB Hj ai;replace Hk:=kW Hk ai;have j0:=Hj.out.c1;have k0:=Hk.out.w1;replace Hb:=aW Hb ai;refine hK _ _ (λ_=>⟨c0,c1,c2,x0,x1,x2,x3,j0,k0⟩) ?_;try simp only[UU]
    refine aM rfl rfl (λK hK=>?_);go_simp;refine hK _ _ (λ_=>⟨aU c0,aU c1,aU c2,aU x0,aU x1,aU x2,aU x3,aU j0,aU k0⟩) ?_;try simp only[UU]
    refine cB (λw4=>ar w4 (w3.heap.size) 30 [ag s,ah m,af e,ag (az (dN D1)),ah (nt (dN D1).natAbs),af (dE D1)]/\Bw w3 w4) (by first|exact iX|exact iY) ?_;rintro w4 ⟨qa,ai⟩;have aEZ:=Hc.out.lt;have aFp:=Hx.out.lt;have aE8:=Hj.out.lt;replace Hc:=kB Hc ai;replace Hx:=kB Hx ai;replace Hj:=kB Hj ai;replace Hk:=kW Hk ai;have Ha:=aj qa;clear qa;obtain⟨c0,c1,c2⟩:=Hc.out.c3;obtain⟨x0,x1,x2,x3⟩:=Hx.out.c4;have j0:=Hj.out.c1;have k0:=Hk.out.w1;obtain⟨a0,a1,a2,a3,a4,a5⟩:=Ha.out.c6;replace Hb:=aW Hb ai;refine aM rfl rfl (λK hK=>?_);go_simp;with_reducible refine(tB s m e (az (dN D1)) (nt (dN D1).natAbs) (dE D1) D2 (B+21) HD2.out w3.heap.size 2 30 _ HFx.out Qc.out zo Ha.out (by first|exact(fU.out.below Hb.out) |exact aC.drew (fU.out.below Hb.out) |exact aC.alloc (fU.out.below Hb.out) _|exact aC.drew (aC.alloc (fU.out.below Hb.out) _) |exact aC.alloc (aC.drew (fU.out.below Hb.out)) _)).mono ?_
    rintro e w5 ⟨rfl,hq⟩;have ai:Bw w4 w5:=by first|exact hq|exact cu hq
    obtain⟨Hc,c0,c1,c2⟩:=gD Hc ai;obtain⟨Hx,x0,x1,x2,x3⟩:=wR Hx ai;replace Hj:=kB Hj ai;replace Hk:=kW Hk ai;replace Ha:=kB Ha ai;have j0:=Hj.out.c1;have k0:=Hk.out.w1;obtain⟨a0,a1,a2,a3,a4,a5⟩:=Ha.out.c6;replace Hb:=aW Hb ai;refine hK _ _ (λ_=>⟨c0,c1,c2,x0,x1,x2,x3,j0,k0⟩) ?_;try simp only[UU]
    refine aM rfl rfl (λK hK=>?_);go_simp;with_reducible refine(Fx (az (dN D2)) (nt (dN D2).natAbs) (dE D2) (-z) D3 YR.out _ HO2.out zo (by first|exact(fU.out.below Hb.out) |exact aC.drew (fU.out.below Hb.out) |exact aC.alloc (fU.out.below Hb.out) _|exact aC.drew (aC.alloc (fU.out.below Hb.out) _) |exact aC.alloc (aC.drew (fU.out.below Hb.out)) _)).mono ?_
    rintro e w6 ⟨rfl,hq⟩;have ai:Bw w5 w6:=by first|exact hq|exact cu hq
    obtain⟨Hc,c0,c1,c2⟩:=gD Hc ai;obtain⟨Hx,x0,x1,x2,x3⟩:=wR Hx ai;replace Hj:=kB Hj ai;replace Hk:=kW Hk ai;replace Ha:=kB Ha ai;have j0:=Hj.out.c1;have k0:=Hk.out.w1;obtain⟨a0,a1,a2,a3,a4,a5⟩:=Ha.out.c6;replace Hb:=aW Hb ai;refine hK _ _ (λ_=>⟨c0,c1,c2,x0,x1,x2,x3,j0,k0⟩) ?_;try simp only[UU]
    refine aM rfl rfl (λK hK=>?_);go_simp;refine(GW.out w6 Hb.out).mono ?_;rintro e' w7 ⟨⟨r,rfl⟩,qB,qg⟩;have kp:∀b,b≠bB->some b≠some bB:=λb h e=>h (by cases e;rfl);have C7:Chg (λb=>b=bM\/b=bB) w w7:=(nJ.out.trans (Chg.of_below (Y:=λb=>b=bM\/b=bB) Hb.out) (λb h=>.inl h)).trans (Chg.aGs (Y:=λb=>b=bM\/b=bB) qg (λb e=>by cases e;exact .inr rfl)) (λb h=>.inl h);have z6:=Hb.out.size;have lw1:=Hpr.out.lt;have WC:=Hlw.out;obtain⟨Gc,Gx,Gj,Gi,GM,Gr,Gm⟩:=jL (Hc.out.grown qg (kp _ zo)) (Hx.out.grown qg (kp _ nXB)) (Hj.out.grown qg (kp _ (λe=>nBJ e.symm))) ((HpI.out.below Hb.out).grown qg (kp _ (λe=>nBI e.symm))) ((HpM.out.below Hb.out).grown qg (kp _ OY)) ((Hpr.out.below Hb.out).grown qg (kp _ zo)) ((Hpm.out.below Hb.out).kept qg (kp _ nmB));rw[bR.out]at qB;obtain⟨GB,YQ⟩:=aK qB C7;clear lw1 WC z6;refine hK _ _ (λ_=>⟨Gc.out.cell 0,Gc.out.cell 1,Gc.out.cell 2,Gx.out.cell 0,Gx.out.cell 1,Gx.out.cell 2,Gx.out.cell 3,Gj.out.cell 0,eF qg k0 (kp _ OY)⟩) ?_;have k7:w7.cell? ⟨bM,j,none⟩=some (.int .u8 z):=eF qg k0 (kp _ OY);clear hK K c0 c1 c2 x0 x1 x2 x3 j0 k0 qg qB C7 GW Hb Ha;try simp only[UU]
    simp only[bH];obtain⟨u,hu⟩:∃u:Int,((p-t:Nat):Int)=u:=⟨_,rfl⟩;have hub:0<=u/\u<=20:=by omega
    have i7:w7.cell? ⟨bi,0,none⟩=some (af (i:Int)):=Gi.out.cell 0;have m7:w7.cell? ⟨bM,i,none⟩=some (.int .u8 u):=by rw[GM.out.cell,DG.out,hu]
    have j7:w7.cell? ⟨bj,0,none⟩=some (af (j:Int)):=Gj.out.cell 0;have fi:w7.frozen? ⟨bM,i,none⟩=false:=GM.out.free _;by_cases hpt:t<p
    . have hu1:0<u:=by omega
      have hwu:IntKind.u8.wrap (u-1)=u-1:=by rw[IntKind.wrap_u8];omega
      have hwz:IntKind.u8.wrap (z+1)=z+1:=by rw[IntKind.wrap_u8];omega
      obtain⟨W8,tH⟩:=aB (w7.setCell ⟨bM,i,none⟩ (.int .u8 (u-1)));have YJ:Hid (ar W8 bM 5 (jk ((y.set i (p-t-1)).map UInt8.ofNat))):=by
       show ar _ _ _ _
       rw[<-tH,<-abF y i (p-t-1) zo,show((p-t-1:Nat):Int)=u-1 by omega];exact GM.out.set i _
      have j8:W8.cell? ⟨bj,0,none⟩=some (af (j:Int)):=by rw[<-tH];exact(Gj.out.aGq ⟨bM,i,none⟩ nMJ _).cell 0
      have k8:W8.cell? ⟨bM,j,none⟩=some (.int .u8 z):=by rw[<-tH];exact aF (.inr (λe=>hij e.symm)) k7
      have fj:W8.frozen? ⟨bM,j,none⟩=false:=YJ.out.free _;obtain⟨W9,NC⟩:=aB (W8.setCell ⟨bM,j,none⟩ (.int .u8 (z+1)));have GM9:Hid (ar W9 bM 5 (jk ((mv x i j (min (t+1) p)).map UInt8.ofNat))):=by
       show ar _ _ _ _
       rw[Nat.min_eq_left zo,<-awx x i j t hij hi hj,Hy.out,oU.out,RH.out,<-NC,<-abF _ j (q+t+1) zo,show((q+t+1:Nat):Int)=z+1 by have:=Hz.out;omega];exact YJ.out.set j _
      have so:∀{b:Nat} {ty:TypeId} {cs:List Value},bM≠b->ar w7 b ty cs->ar W9 b ty cs:=λh1 h2=>by rw[<-NC,<-tH];exact(h2.aGq ⟨bM,i,none⟩ h1 _).aGq ⟨bM,j,none⟩ h1 _
      have Gm9:Hid (Mp W9 bm n f):=by
       show Mp _ _ _ _
       rw[<-NC,<-tH];exact(Gm.out.set ⟨bM,i,none⟩ nmM _).set ⟨bM,j,none⟩ nmM _
      have GC9:Hid (Chg (λb=>b=bM\/b=bB) w W9):=by
       show Chg _ _ _
       rw[<-NC,<-tH];exact(YQ.out.trans (Chg.aGs (Y:=λb=>b=bM\/b=bB) (grownBy_set bM rfl _) (λb e=>by cases e;exact .inl rfl)) (λb h=>.inl h)).trans (Chg.aGs (Y:=λb=>b=bM\/b=bB) (grownBy_set bM rfl _) (λb e=>by cases e;exact .inl rfl)) (λb h=>.inl h)
      have WC:=Hlw.out;obtain⟨K1,K2,K3,K4,K5,K6⟩:=gU (so zo Gc.out) (so nMX Gx.out) (so nMI Gi.out) (so nMJ Gj.out) (so OY GB.out) (so zo Gr.out);clear so WC k7 j7 hu;go_wp2;go_roundw;case rel=>exact⟨t+1,by omega,by go_num,K1.out,K2.out,K3.out,K4.out,GM9.out,K5.out,Gm9.out,K6.out,GC9.out⟩
      case measure=>exact bC
    . obtain rfl:t=p:=by omega
      have hu1:u=0:=by omega
      subst hu1;go_wp2;go_roundw;case rel=>refine⟨t+1,by omega,by go_num,Gc.out,Gx.out,Gi.out,Gj.out,?_,GB.out,Gm.out,Gr.out,YQ.out⟩;rw[Nat.min_eq_right zo,Hy.out];exact GM.out
      case measure=>simp[intOf]
  . obtain rfl:t=p+1:=by omega
    go_wp2;go_end0
    exact⟨⟨_,rfl⟩,pB,pg⟩
def au9 (V D:Nat)(hV:1<=V)(hV2:V<=8)(hD:D<=20)(hc:cnt V D<=512):fC (V:Int) (D:Int)=(bz (V+1) D).map λx=>x.map UInt8.ofNat:=by unfold fC sQ;rw[if_pos ⟨by omega,by omega,by omega,by omega,by simpa using hc⟩];simp
def nz (P:Nat->iw)(k:Nat):iw:=(List.range k).flatMap P
def Xo (P:Nat->iw)(k:Nat):nz P (k+1)=nz P k++P k:=by unfold nz;rw[List.range_succ,List.flatMap_append];simp
def Px (P:Nat->iw)(N n k:Nat)(hk:k<=n)(h:∀k,k<n->(P k).length<=N):(nz P k).length<=k*N:=by
 induction k with
 |zero=>simp[nz]
 |succ k ih=>rw[Xo,List.length_append,Nat.add_mul,Nat.one_mul];have:=ih zo;have:=h k zo;omega
def KG {Q:List Nat×Dyadic->Prop}(P:Nat->iw)(n k:Nat)(hk:k<=n)(h:∀k,k<n->∀p∈P k,Q p):∀p∈nz P k,Q p:=by intro p hp;unfold nz at hp;rw[List.mem_flatMap]at hp;obtain⟨q,hq,hp⟩:=hp;rw[List.mem_range]at hq;exact h q zo p hp
def ary (ds:List Dyadic):(ds.map canon).map au=ds:=by
 rw[List.map_map];conv=>rhs;rw[<-List.map_id ds]
 exact List.map_congr_left (λd _=>bF d)
def aeh (i j:Nat)(x:List Nat)(c:Dyadic):(rC i j x c).length=x.getD i 0+1:=by simp[rC]
def aeg (i j:Nat)(x:List Nat)(c:Dyadic):rC i j x c=rD i j x c (x.getD i 0+1):=rfl
def aei (V D:Nat)(a:Option Addr)(cap:Nat)(aS:List Raw)(i j B:Nat)(w:World)(hV:1<=V)(hV2:V<=8)(hD:D<=20)(hc:cnt V D<=512)(hlen:aS.length=cnt V D)(hi:i<=V)(hj:j<=V)(hij:i≠j)
 (hfit:∀x∈aS,Fit B x) (sw:B<=1000000) (ha:At w a (aS.flatMap bu)) (hT:aC w):
 Cl 74 #[.agg #[af (V:Int),af (D:Int),.slice a aS.length cap],af (i:Int),af (j:Int)] w λe w'=>∃r,
  e=.returned (.agg #[af (V:Int),af (D:Int),.slice (some ⟨r,0,none⟩) aS.length aS.length])/\ar w' r 30 (dC (kN (bz (V+1) D) (uY i j (bz (V+1) D) (aS.map au))))/\w.heap.size<=r/\Bw w w':=by
 have ia:(bz (V+1) D).length=aS.length:=by rw[pQ,hlen]
 have Cm:=au9 V D hV hV2 hD hc;have UH:=apd (V:Int) (D:Int) (λl hl=>Nat.le_trans (ag9 _ _ l hl) zd);obtain⟨R,hR⟩:=aB (bz (V+1) D);obtain⟨f,hf⟩:=aB (place (R.map λx=>x.map UInt8.ofNat) R.length);have hkl:(fC (V:Int) (D:Int)).length=aS.length:=by rw[Cm,List.length_map,ia]
 have JQ:∀x∈R,∃q,∃h:q<R.length,R[q]=x/\f (x.map UInt8.ofNat)=q:=by intro x hx;rw[<-hR]at hx;have:=ail (n:=V) (s:=D) zo hx;subst hR;subst hf;exact this
 have hpl:place (fC (V:Int) (D:Int)) aS.length=f:=by rw[Cm,<-ia,hR,hf]
 rw[hkl,hpl]at UH;rw[hR]at ia⊢;have hmem:∀x∈R,x.length=V+1/\x.sum=D:=λx hx=>(sO V D x).1 (by rw[hR];exact hx);have afy:∀x,x.length=V+1->x.sum=D->x∈R:=λx h1 h2=>by rw[<-hR];exact(sO V D x).2 ⟨h1,h2⟩
 have hnd:R.Nodup:=by rw[<-hR];exact CZ V D
 obtain⟨alj,al9,aaC,Bu,aaq,Hnd,sV,vS,jA,HA,HT,HR⟩:=ie UH Cm JQ hmem afy hnd ia hfit hlen ha hT hR;have Hkl:=aj hkl;have Zx:Hid (∀b o,a=some ⟨b,o,none⟩->b<w.heap.size):=by intro b o e;subst e;refine ha.lt (λh0=>?_);have h1:=congrArg List.length h0;rw[kQ bu 3 (λ_=>rfl)]at h1;have:=aqi V D;rw[List.length_nil]at h1;omega
 clear UH Cm JQ hmem afy hnd ia hfit hlen ha hT hR hf hpl hkl;obtain⟨W,hW⟩:=aB ((((w.alloc (.cells #[af (V:Int),af (D:Int),.slice a aS.length cap] 38)).alloc (.cells #[af (i:Int)] 3)).alloc (.cells #[af (j:Int)] 3)).alloc (.cells #[af 0,af 0,.slice none 0 0] 38));have Hb:Hid (Bw w W):=by rw[<-hW];exact((zl.alloc zm _).alloc zj _).alloc zj _
 have Hq:Hid (ar W w.heap.size 38 [af (V:Int),af (D:Int),.slice a aS.length cap]):=by rw[<-hW];exact(((ar.new _ _ _).alloc _).alloc _).alloc _
 have Hi:Hid (ar W (w.heap.size+1) 3 [af (i:Int)]):=by rw[<-hW];exact((ar.newAt _ _ _ zm).alloc _).alloc _
 have Hj:Hid (ar W (w.heap.size+1+1) 3 [af (j:Int)]):=by rw[<-hW];exact(ar.newAt _ _ _ zm).alloc _
 have Hr:Hid (ar W (w.heap.size+1+1+1) 38 [af 0,af 0,.slice none 0 0]):=by rw[<-hW];exact ar.newAt _ _ _ zm
 have q0:W.cell? ⟨w.heap.size,0,none⟩=some (af (V:Int)):=Hq.out.cell 0;have q1:W.cell? ⟨w.heap.size,1,none⟩=some (af (D:Int)):=Hq.out.cell 1;go_enter Tryz.func74,Tryz.ntmps74;go_wp2_with fail;refine(alj.out W).mono ?_;rintro e w1 ⟨bB,bm,rfl,⟨hB,lB,hm,lm⟩,ai⟩;have lz1:=Hq.out.lt;have lz2:=Hi.out.lt;have lz3:=Hj.out.lt;have lz4:=Hr.out.lt;replace Hq:=aj (Hq.out.below ai);replace Hi:=aj (Hi.out.below ai);replace Hj:=aj (Hj.out.below ai);replace Hr:=aj (Hr.out.below ai);replace Hb:=aj (aI Hb.out ai);clear q0 q1 ai;have lB1:=hB.lt;have lm1:=hm.lt;have xh:=Hb.out.size;obtain⟨W3,hW3⟩:=aB (w1.alloc (.cells #[af (V:Int),af (D:Int),.slice (some ⟨bB,0,none⟩) aS.length aS.length,.map (some bm)] 217));have hb3:Bw w1 W3:=by rw[<-hW3];exact zl
 have Hx:Hid (ar W3 w1.heap.size 217 [af (V:Int),af (D:Int),.slice (some ⟨bB,0,none⟩) aS.length aS.length,.map (some bm)]):=by rw[<-hW3];exact ar.new _ _ _
 replace Hq:=aj (Hq.out.below hb3);replace Hi:=aj (Hi.out.below hb3);replace Hj:=aj (Hj.out.below hb3);replace Hr:=aj (Hr.out.below hb3);replace Hb:=aj (aI Hb.out hb3);obtain⟨HB,Hm⟩:=aK (hB.below hb3) (hm.below hb3);clear hB hm hb3;have q0:W3.cell? ⟨w.heap.size,0,none⟩=some (af (V:Int)):=Hq.out.cell 0;have q1:W3.cell? ⟨w.heap.size,1,none⟩=some (af (D:Int)):=Hq.out.cell 1;have q2:W3.cell? ⟨w.heap.size,2,none⟩=some (.slice a aS.length cap):=Hq.out.cell 2;have x0:W3.cell? ⟨w1.heap.size,0,none⟩=some (af (V:Int)):=Hx.out.cell 0;have x1:W3.cell? ⟨w1.heap.size,1,none⟩=some (af (D:Int)):=Hx.out.cell 1;have x2:W3.cell? ⟨w1.heap.size,2,none⟩=some (.slice (some ⟨bB,0,none⟩) aS.length aS.length):=Hx.out.cell 2;have x3:W3.cell? ⟨w1.heap.size,3,none⟩=some (.map (some bm)):=Hx.out.cell 3;have AZ:W3.heap.size=w1.heap.size+1:=by rw[<-hW3];simp
 have Mg:=aj AZ;clear AZ;obtain⟨cs,hcs⟩:=aB (aS.map au);obtain⟨P,hP⟩:∃P:Nat->iw,(λk=>rC i j (R.getD k []) (cs.getD k 0))=P:=⟨_,rfl⟩;have hPl:∀k,k<R.length->(P k).length<=21:=by
  intro k hk;have hm:=Bu.out _ (List.getElem_mem hk);have e:R.getD k []=R[k]:=by simp[hk]
  have:=xW R[k] i;rw[<-hP];dsimp only;rw[aeh,e];omega
 have hcv:∀k (h:k<aS.length),cs.getD k 0=au aS[k]:=λk h=>by rw[<-hcs];simp[h]
 have zW:∀k,k<R.length->∀p∈P k,Sm (B+42) p.2:=by
  intro k hk;have hm:=Bu.out _ (List.getElem_mem hk);have e:R.getD k []=R[k]:=by simp[hk]
  rw[<-hP];dsimp only;have hk2:k<aS.length:=by rw[<-sV.out];exact hk
  rw[aeg,e,hcv k hk2];exact UE (vS.out _ (List.getElem_mem hk2)).2 zo hij (Nat.le_refl _) _ (Nat.le_refl _)
 have xZ:∀k,k<R.length->∀p∈P k,p.1∈R:=by
  intro k hk p hp;have hm:=Bu.out _ (List.getElem_mem hk);have e:R.getD k []=R[k]:=by simp[hk]
  rw[<-hP]at hp;dsimp only at hp;unfold rC at hp;rw[e,List.mem_map]at hp;obtain⟨t,ht,rfl⟩:=hp;rw[List.mem_range]at ht;exact aaq.out _ (by rw[lv];exact hm.1) (by rw[WL _ _ _ _ hij zo zo zo];exact hm.2)
 have rV:Hid (0<w.heap.size):=HT.out.lt;have JF:=azv (V:Int) (D:Int) bB aS.length bm 163 #[.pointer (some ⟨w.heap.size+1,0,none⟩),.pointer (some ⟨w1.heap.size,0,none⟩),.pointer (some ⟨w.heap.size+1+1,0,none⟩)] (V:Int) (D:Int) a cap aS
  (λk W=>ar W w1.heap.size 217 [af (V:Int),af (D:Int),.slice (some ⟨bB,0,none⟩) aS.length aS.length,.map (some bm)]/\ar W (w.heap.size+1) 3 [af (i:Int)]/\ar W (w.heap.size+1+1) 3 [af (j:Int)]/\ar W bB 30 (dC (ja f (List.replicate aS.length 0) (nz P k)))/\Mp W bm aS.length f/\aC W) W3
  Hkl.out.symm (HA.out.below Hb.out) ?hab ?hac (enters_of Tryz.func163 zk rfl) ?hJb ?hcl ?hbB ⟨Hx.out,Hi.out,Hj.out,HB.out,Hm.out,HT.out.below Hb.out⟩
 rotate_right 5
 case hbB=>have:=Mg.out;omega
 case hab=>intro b o e;have:=Zx.out b o e;omega
 case hac=>intro b o e;have:=Zx.out b o e;have:=Hb.out.size;omega
 case hJb=>rintro k W' W'' ⟨j1,j2,j3,j4,j5,j6⟩ hch;have hs:=Mg.out;have:=rV.out;have:=Hb.out.size;exact⟨hch.blk j1 zo,hch.blk j2 zo,hch.blk j3 zo,hch.blk j4 zo,hch.mp j5 zo,hch.tab j6 zo⟩
 case hcl=>
  rintro k hk hk2 W' bM ⟨j1,j2,j3,j4,j5,j6⟩ hM hbM;have hs:=Mg.out;have Jt:k<R.length:=by rw[sV.out];exact hk2
  have hm:=Bu.out _ (List.getElem_mem Jt);have ek:(fC (V:Int) (D:Int))[k]=(R[k]).map UInt8.ofNat:=by have:=al9.out;rw[HR.out]at this;simp only[this,List.getElem_map]
  rw[ek]at hM⊢;rw[List.length_map];obtain⟨ds,hds⟩:=aB (ja f (List.replicate aS.length 0) (nz P k));have Ch:ds.length=aS.length:=by rw[<-hds,Xm,List.length_replicate]
  rw[hds]at j4;have nmB:bm≠bB:=by rintro rfl;obtain⟨D,⟨es,clock,hb,_⟩,_⟩:=j5;have h:=j4.symm.trans hb;simp at h
  have hpl:=Px P 21 R.length k zo hPl;have hkb:k*21<=10752:=by have:=jA.out;omega
  have atK:∀y∈ds,Sm (B+42+10752) y:=by rw[<-hds];intro y hy;have:=Xn (B:=B+42) f (List.replicate aS.length 0) (nz P k) (λd hd=>by rw[List.eq_of_mem_replicate hd];exact Sm.zero _) (KG P R.length k zo zW) y hy;exact this.mono zo
  have mY:=vS.out _ (List.getElem_mem hk2);have hh:=atl (V:Int) (D:Int) bB bm bM w1.heap.size (w.heap.size+1) (w.heap.size+1+1) R[k].length aS.length B (B+42+10752) i j f ds R[k] aS[k].1 aS[k].2.1 aS[k].2.2 W' (by rw[Ch];exact j1) j2 j3 j4 j5 hM zo zo hij zo zo
   (λt ht=>by
    have hmm:mv R[k] i j t∈R:=aaq.out _ (by rw[lv];exact hm.1) (by rw[WL _ _ _ _ hij zo zo ht];exact hm.2);obtain⟨q,hq,_,e2⟩:=aaC.out _ hmm
    rw[e2,Ch,<-sV.out];exact hq) mY atK zo zo j6 (by have:=rV.out;have:=Hb.out.size;omega) (by have:=rV.out;omega)
  refine hh.mono ?_;rintro e' w' ⟨he,hB',hch⟩;refine⟨he,⟨hch.blk j1 zo,hch.blk j2 zo,hch.blk j3 zo,?_,hch.mp j5 zo,hch.tab j6 (by have:=rV.out;have:=Hb.out.size;omega)⟩,hch⟩;rw[Xo,Xl,hds];have eP:P k=rC i j R[k] (au aS[k]):=by rw[<-hP];dsimp only;rw[hcv k hk2];simp[Jt]
  rw[eP];exact hB'
 have Rq:=aj JF;clear JF;go_wp2_with fail;refine Rq.out.mono ?_;rintro e w4 ⟨rfl,⟨_,_,_,hB4,_,_⟩,hch⟩;have hs:=Mg.out;have hr4:ar w4 (w.heap.size+1+1+1) 38 [af 0,af 0,.slice none 0 0]:=hch.blk Hr.out zo;have r0:w4.cell? ⟨w.heap.size+1+1+1,0,none⟩=some (af 0):=hr4.cell 0;have r1:w4.cell? ⟨w.heap.size+1+1+1,1,none⟩=some (af 0):=hr4.cell 1;have r2:w4.cell? ⟨w.heap.size+1+1+1,2,none⟩=some (.slice none 0 0):=hr4.cell 2;have aO:=hr4.free 0;have aQ:=hr4.free 1;have dQ:=hr4.free 2;have hfin:ja f (List.replicate aS.length 0) (nz P (fC (V:Int) (D:Int)).length)=kN R (uY i j R cs):=by
  rw[Hkl.out,<-sV.out];have e:nz P R.length=uY i j R cs:=by rw[<-hP];rfl
  rw[e];exact ait R Hnd.out f aaC.out _ (by rw[<-e];exact KG P R.length R.length (Nat.le_refl _) xZ)
 rw[hfin]at hB4;obtain⟨yQ,xB⟩:=aK hB4 hch;have je:=aj (Hb.out.trans (xB.out.below ZS (λb e=>by omega)));clear hB4 hch hr4 q0 q1 q2 x0 x1 x2 x3 hs;go_wp2;refine bodyPost_ret (v:=.agg #[af (V:Int),af (D:Int),.slice (some ⟨bB,0,none⟩) aS.length aS.length]) (by simp[results,Tryz.results74,go_sem,r0,r1,r2]) rfl ⟨bB,rfl,?_,by omega,?_⟩
 . have:=((yQ.out.aGq ⟨w.heap.size+1+1+1,0,none⟩ zp (af (V:Int))).aGq ⟨w.heap.size+1+1+1,1,none⟩ zp (af (D:Int))).aGq ⟨w.heap.size+1+1+1,2,none⟩ zp (.slice (some ⟨bB,0,none⟩) aS.length aS.length);rw[hcs];exact this
 . exact(((je.out.setCell zp _).setCell zp _).setCell zp _)
def rB (V D i j:Nat)(cs:List Dyadic):List Dyadic:=kN (bz (V+1) D) (uY i j (bz (V+1) D) cs)
def azH (V D:Nat)(a:Option Addr)(cap:Nat)(aS:List Raw)(i j B:Nat)(w:World)(hc:wn V D aS.length=0)(hi:i<=V)(hj:j<=V)(hij:i≠j)
 (hfit:∀x∈aS,Fit B x) (sw:B<=1000000) (ha:At w a (aS.flatMap bu)) (hT:aC w):
 Cl 18 #[.agg #[af (V:Int),af (D:Int),.slice a aS.length cap],af (i:Int),af (j:Int)] w λe w'=>∃r s,
  e=.returned (.tuple #[.agg #[af (V:Int),af (D:Int),.slice (some ⟨r,0,none⟩) aS.length aS.length],.agg #[af (V:Int),af (D:Int),.slice (some ⟨s,0,none⟩) aS.length aS.length],af 0])/\
   ar w' r 30 (dC (rB V D i j (aS.map au)))/\ar w' s 30 (dC (rB V D j i (aS.map au)))/\w.heap.size<=r/\w.heap.size<=s/\Bw w w':=by
 obtain⟨c1,c2,c3,c4,c5,c6⟩:=ap5 hc;simp only[Int.toNat_natCast]at c5;obtain⟨Hc,Hh1,Hh2⟩:=cw hc (λW hW hT=>aei V D a cap aS i j B W zo zo zo zo c5 hi hj hij hfit sw (ha.below hW) hT) (λW hW hT=>aei V D a cap aS j i B W zo zo zo zo c5 hj hi (λe=>hij e.symm) hfit sw (ha.below hW) hT);have h1:=ael V D a aS.length cap i;have h2:=ael V D a aS.length cap j;rw[decide_eq_true zo]at h1 h2;obtain⟨H1,H2,HT⟩:=cw h1 h2 hT;have h3:((i:Int)==(j:Int))=false:=by simp;omega
 clear hc c5 hfit ha h1 h2 hT;obtain⟨W,cE,ae,ak⟩:=Pz w 38 [af (V:Int),af (D:Int),.slice a aS.length cap] 38 [af 0,af 0,.slice none 0 0] 38 [af 0,af 0,.slice none 0 0];go_enter Tryz.func18,Tryz.ntmps18;go_wp2_with fail;refine aJ ae (ap0 V D a aS.length cap 0 Hc.out _) λw1 ae ak=>?_;go_wp2_with fail;refine aJ ae (H1.out _) λw2 ae ak=>?_;go_wp2_with fail;refine aJ ae (H2.out _) λw3 ae ak=>?_;go_wp2_with fail;have lf:=ae.2.1.out.lt;have lx:=ae.2.2.1.out.lt;have ly:=ae.2.2.2.1.out.lt;have hdr:w3.drew.heap.size=w3.heap.size:=rfl;refine fT 8 ae (fH 11 0x1412100e060d0b09050301) ?_;refine cG ?_;refine qOp λK hK=>?_;go_simp;with_reducible refine(Hh1.out _ (qU ae.1.out) (qU (HT.out.below ae.1.out))).mono ?_
 rintro e w4 ⟨r,rfl,hr,lr,hq⟩;refine xc hK hq ae λae=>?_;clear hK K hq;have Hp:=aj hr;clear hr;have aEV:=Hp.out.lt;have ae:=Hp.an ae;refine qOp λK hK=>?_;go_simp;with_reducible refine(Hh2.out _ (qU ae.2.1.out) (qU (HT.out.below ae.2.1.out))).mono ?_
 rintro e w5 ⟨s,rfl,hs,ls,hq⟩;refine xc hK hq ae λae=>?_;clear hK K hq;have Hq:=aj hs;clear hs;have aEW:=Hq.out.lt;have ae:=Hq.an ae;have ak:=qC ae;refine qOp λK hK=>?_;go_simp;refine hK _ _ (λh=>absurd h zd) ?_;try simp only[UU]
 refine cB (aV w5 (w.heap.size+1) 0 [af (V:Int),af (D:Int),.slice (some ⟨r,0,none⟩) aS.length aS.length]) aX ?_;intro w6 hs0;have ae:=bU hs0 ae;simp only[bV,List.set]at ae;have ak:=qC ae;have ak:=qC ae;refine qOp λK hK=>?_;go_simp;refine hK _ _ (λh=>absurd h zd) ?_;try simp only[UU]
 refine cB (aV w6 (w.heap.size+1+1) 0 [af (V:Int),af (D:Int),.slice (some ⟨s,0,none⟩) aS.length aS.length]) aX ?_;intro w7 hs0;have ae:=bU hs0 ae;simp only[bV,List.set]at ae;have ak:=qC ae;have ak:=qC ae;refine qOp λK hK=>?_;go_simp;refine hK _ _ (λh=>absurd h zd) ?_;try simp only[UU]
 refine fR ae λak=>?_;go_wp2;have x2:w7.cell? ⟨w.heap.size+1,2,none⟩=some (.slice (some ⟨r,0,none⟩) aS.length aS.length):=ae.2.2.2.2.1.out.cell 2;have y0:w7.cell? ⟨w.heap.size+1+1,0,none⟩=some (af (V:Int)):=ae.2.2.2.2.2.1.out.cell 0;have x0:w7.cell? ⟨w.heap.size+1,0,none⟩=some (af (V:Int)):=ae.2.2.2.2.1.out.cell 0;have y1:w7.cell? ⟨w.heap.size+1+1,1,none⟩=some (af (D:Int)):=ae.2.2.2.2.2.1.out.cell 1;have x1:w7.cell? ⟨w.heap.size+1,1,none⟩=some (af (D:Int)):=ae.2.2.2.2.1.out.cell 1;have y2:w7.cell? ⟨w.heap.size+1+1,2,none⟩=some (.slice (some ⟨s,0,none⟩) aS.length aS.length):=ae.2.2.2.2.2.1.out.cell 2;refine bodyPost_ret (v:=.tuple #[.agg #[af (V:Int),af (D:Int),.slice (some ⟨r,0,none⟩) aS.length aS.length],.agg #[af (V:Int),af (D:Int),.slice (some ⟨s,0,none⟩) aS.length aS.length],af 0]) (by simp[results,Tryz.results18,go_sem,x0,x1,x2,y0,y1,y2]) rfl ⟨r,s,rfl,ae.2.1.out,ae.1.out,by omega,by omega,ae.2.2.1.out⟩
def Chg.set {Y:Nat->Prop}{W W':World}(h:Chg Y W W'){a:Addr}(hy:Y a.block)(v:Value):Chg Y W (W'.setCell a v):=
 h.trans (Chg.aGs (Y:=Y) (grownBy_set (w:=W') (a:=a) a.block rfl v) (λ_ e=>by cases e;exact hy)) (λ_ h=>.inl h)
def Chg.drew {Y:Nat->Prop}{W W':World}(h:Chg Y W W'):Chg Y W W'.drew:=⟨h.os,h.tape,h.output,h.size,h.block⟩
def Chg.aGu {Y:Nat->Prop}{A B C:World}(h:Chg Y A B)(k:Bw B C):Chg Y A C:=h.trans (Chg.of_below (Y:=Y) k) (λ_ h=>.inl h)
def axU (a:Option Addr)(cap N:Nat)(xs:List (List UInt8))(hN:xs.length=N)(hx:N<=512)(hlen:∀l∈xs,l.length<=255)(w:World)(hat:At w a (xs.map λl=>Value.string (bs l))):
 Cl 214 #[.slice a N cap] w λe w'=>∃bm,e=.returned (.map (some bm))/\(Mp w' bm N (place xs N)/\w.heap.size<=bm)/\Bw w w':=by
 subst hN;obtain⟨dL,jA⟩:=aK hat hlen;clear hat hlen;have hmm:=@run_makeMap Tryz.prog;go_enter Tryz.func214,Tryz.ntmps214;go_wp2_with fail;refine dA (λW2=>Mp W2 w.heap.size 0 (λ_=>0)/\Bw w W2) ⟨Mp.made w,zl⟩ ?_;rintro W2 ⟨qm,hb2⟩;go_loopw[9] (λi wr=>∃k:Nat,k<=xs.length/\i=af (k:Int)/\Mp wr w.heap.size k (place xs k)/\Bw w wr) (λi _=>xs.length-(intOf i).toNat);case atStart=>exact⟨0,Nat.zero_le _,rfl,qm,hb2⟩
 case round=>
  obtain⟨k,hk,rfl,pm,hb3⟩:=hrel;by_cases hlt:k<xs.length
  . have jD:=dL.out.below hb3;have tN:At wr a (xs.flatMap λl=>[Value.string (bs l)]):=by rw[Nb];exact jD
    obtain⟨b,o,hab,hcs⟩:=tN.elem (f:=λl=>[Value.string (bs l)]) (sz:=1) (λ_=>rfl) zd k hlt;have hc0:wr.cell? ⟨b,o+k,none⟩=some (.string (bs xs[k])):=by simpa using hcs 0 zd
    have bD:=ET xs.length cap k (k:Int) hab hlt rfl;have hl0:=jA.out _ (List.getElem_mem hlt);obtain⟨w4,hput,JE,hg4⟩:=pm.put zx xs[k] zx k zo;rw[<-aim xs k hlt]at JE;rw[Nat.mul_one]at bD;go_wp2;go_roundw;case rel=>refine⟨k+1,by omega,by go_num,JE,?_⟩;exact hb3.grown hg4 (by have:=hb3.size;omega) (λj e=>by cases e;exact Nat.le_refl _)
    case measure=>exact bC
  . obtain rfl:k=xs.length:=by omega
    go_wp2;refine bodyPost_ret (results_tmp rfl _ _ _) rfl ⟨_,rfl,⟨pm,Nat.le_refl _⟩,hb3⟩
def ai2 (bB n i B:Nat)(ds:List Dyadic)(s:Bool)(m:List UInt8)(e:Int)(D:Dyadic)(w:World)
 (hn:ds.length=n) (hB:ar w bB 30 (dC ds)) (hid:i<ds.length)
 (hx:Fit B (s,m,e)) (hd:Sm B ds[i]) (sw:B+2<=268435456) (hD:ds[i]+au (s,m,e)=D) (hT:aC w):
 Cl 52 #[.slice (some ⟨bB,0,none⟩) n n,af (i:Int),.agg #[ag s,ah m,af e]] w λex w'=>
  (∃r,ex=.returned r)/\ar w' bB 30 (dC (ds.set i D))/\w.grownBy w' (some bB):=by
 subst hn;have Hg:=aj (aZ.num hB i hid);have HD:Hid (au (az (dN ds[i]),nt (dN ds[i]).natAbs,dE ds[i])+au (s,m,e)=D):=by show au (canon ds[i])+_=_;rw[bF];exact hD
 have GH:Hid (Fit B (az (dN ds[i]),nt (dN ds[i]).natAbs,dE ds[i])):=hd.fit zo;have td:=aj hx;have lB:=hB.lt;clear hD hd hx;obtain⟨g,hg⟩:=aB (ds[i]);rw[hg]at Hg HD GH;clear hg;obtain⟨W,hW⟩:=aB (w.alloc (.cells #[ag s,ah m,af e] 30));have Hb:Hid (Bw w W):=by rw[<-hW];exact zl
 have Hc:Hid (ar W w.heap.size 30 [ag s,ah m,af e]):=by rw[<-hW];exact ar.newAt _ _ _ zm
 obtain⟨HT,HBW⟩:=aK (hT.below Hb.out) (hB.below Hb.out);replace Hg:=aj (Hg.out.below Hb.out);have bD:=Wm ds.length ds.length i (i:Int) (rfl:(some ⟨bB,0,none⟩:Option Addr)=_) hid rfl;rw[Nat.zero_add]at bD;go_enter Tryz.func52,Tryz.ntmps52;obtain⟨ae,ak⟩:=qZ (Hc.an<|Hg.an trivial);go_wp2_with fail;obtain⟨Hc,Hg,_⟩:=ae;obtain⟨c0,c1,c2⟩:=Hc.out.c3;obtain⟨g0,g1,g2⟩:=Hg.out.w3;refine fh (λw'=>aH w' (w.heap.size) 0 (ag s)/\aH w' (w.heap.size) 1 (ah m)/\aH w' (w.heap.size) 2 (af e)/\aH w' bB (i*3) (ag (az (dN g)))/\aH w' bB (i*3+1) (ah (nt (dN g).natAbs))/\aH w' bB (i*3+2) (af (dE g))) (λi=>Nat.blt i 10) [(0,true),(1,true),(2,true),(3,true),(4,true),(5,true),(6,true),(7,false),(8,false),(9,true),(10,false)] zk zk rfl zk zc ⟨c0,c1,c2,g0,g1,g2⟩ ?_;iterate 7 (refine pT rfl rfl ?_ (by intro w' ⟨q0,q1,q2,q3,q4,q5⟩;go_simp;try with_reducible rfl);try simp only[UU])
 refine aM rfl rfl (λK hK=>?_);go_simp;refine hK _ _ (λ_=>⟨aU c0,aU c1,aU c2,aU g0,aU g1,aU g2⟩) ?_;try simp only[UU]
 refine cB (λW3=>ar W3 (W.heap.size) 30 [ag (az (dN g)),ah (nt (dN g).natAbs),af (dE g),ag s,ah m,af e]/\Bw W W3) (by first|exact iX|exact iY) ?_;rintro W3 ⟨qa,ai⟩;have ahv:=Hc.out.lt;replace Hc:=kB Hc ai;replace Hg:=kW Hg ai;have Ha:=aj qa;clear qa;obtain⟨c0,c1,c2⟩:=Hc.out.c3;obtain⟨g0,g1,g2⟩:=Hg.out.w3;obtain⟨a0,a1,a2,a3,a4,a5⟩:=Ha.out.c6;replace Hb:=aW Hb ai;refine aM rfl rfl (λK hK=>?_);go_simp;with_reducible refine(xU (az (dN g)) (nt (dN g).natAbs) (dE g) s m e D B HD.out W.heap.size 2 30 _ GH.out td.out sw Ha.out (by first|exact(hT.below Hb.out) |exact aC.drew (hT.below Hb.out) |exact aC.alloc (hT.below Hb.out) _|exact aC.drew (aC.alloc (hT.below Hb.out) _) |exact aC.alloc (aC.drew (hT.below Hb.out)) _)).mono ?_
 rintro e w3 ⟨rfl,hq⟩;have ai:Bw W3 w3:=by first|exact hq|exact cu hq
 obtain⟨Hc,c0,c1,c2⟩:=gD Hc ai;replace Hg:=kW Hg ai;obtain⟨Ha,a0,a1,a2,a3,a4,a5⟩:=AA Ha ai;obtain⟨g0,g1,g2⟩:=Hg.out.w3;replace Hb:=aW Hb ai;refine hK _ _ (λ_=>⟨c0,c1,c2,g0,g1,g2⟩) ?_;try simp only[UU]
 refine pT rfl rfl ?_;try simp only[UU]
 refine aM rfl rfl (λK hK=>?_);go_simp;have mS:=hB.below Hb.out;have z0:w3.frozen? ⟨bB,i*3,none⟩=false:=mS.free _;have z1:w3.frozen? ⟨bB,i*3+1,none⟩=false:=mS.free _;have z2:w3.frozen? ⟨bB,i*3+2,none⟩=false:=mS.free _;go_simp;refine hK _ _ (λh=>absurd h zd) ?_;simp only[bH];go_end0
 refine⟨⟨_,rfl⟩,?_,?_⟩
 . have:=((mS.set (i*3) (ag (az (dN D)))).set (i*3+1) (ah (nt (dN D).natAbs))).set (i*3+2) (af (dE D));rw[Te]at this;exact this
 . have q:=Hb.out;refine⟨q.os,q.tape,q.output,?_,λk hk hne=>?_⟩
   . exact Nat.le_trans q.size zm
   . have hkb:k≠bB:=λe=>hne (by rw[e]);refine((Below.heap_setCell _ _ _ k hkb).trans ((Below.heap_setCell _ _ _ k hkb).trans (Below.heap_setCell _ _ _ k hkb))).trans (q.block k hk)
end Go.Proofs.YtbkopgdpcijfbaaGreatDoor
