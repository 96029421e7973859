/- Package simp: Products. -/
import Derived.Test.YtnjfebkelecgaaaGreatDoorZ11
import Derived.Test.YtnjfebkelecgaaaGreatDoorZ15
import Derived.Maps.AppendAt
import Derived.Maps.OwnIn
import Derived.Test.YtnjfebkelecgaaaGreatDoorZ9
import Derived.Maps.Own
import Derived.Maps.Views
import Derived.Maps.Keyed
import Derived.Maps.OwnSet
import Derived.Carry
import Derived.Lib.BufferWrite
import Derived.Deep.WholeRow
import Derived.Test.YtnjfebkelecgaaaGreatDoorZ12
set_option linter.unusedVariables false
set_option linter.unusedSimpArgs false
set_option maxRecDepth 100000
set_option maxHeartbeats 16000000
namespace Go.Proofs.YtnjfebkelecgaaaGreatDoor
open Go.RowKit Go.Shelf
theorem Tryz.aBA :(Tryz.prog.info? 9).map (λi=>(i.zero,i.size,i.bytes))=some (some (.string (bs [])),1,16):=by kernel_rfl
def Jl (v d:Int):List (List Nat):=if 1<=v/\v<=8/\0<=d/\d<=20/\cnt v.toNat d.toNat<=512 then cQ (v.toNat+1) d.toNat else[]
def Vn (b n₀:Nat)(pre:List (List Nat))(Z:Nat->Prop)(W:World):Prop:=
 ∃v,aC W b 53 [v]/\n₀<=b/\n₀<=W.heap.size/\W.ownsRow n₀ 9 1 v pre.length (pre.map λx=>.string (ex x))/\Z=λk=>k=b\/v.ownBlock=some k
theorem atn (b n₀:Nat)(pre:List (List Nat)):wE (Vn b n₀ pre):=by rintro Z W W' ⟨v,hB,h1,h2,ho,rfl⟩ hc;exact⟨v,hc.blk hB (λh=>h (.inl rfl)),h1,Nat.le_trans h2 hc.size,Va ho hc (λk hk h=>h (.inr hk)),rfl⟩
theorem atm (b n₀:Nat)(pre:List (List Nat)):FK (Vn b n₀ pre):=by
 rintro Z W ⟨v,hB,h1,h2,ho,rfl⟩ k (rfl|hk)
 . exact hB.lt
 . exact(ho.lt k hk).2
attribute [local go_sem] Oper.semAt_some
theorem atr (V D:Nat)(w:World)(hV:1<=V)(hV2:V<=8)(hD:D<=20)(hc:cnt V D<=512):
 Calls Tryz.prog 21 #[ah (V:Int),ah (D:Int)] w λe w'=>∃v,e=.returned v/\w'.ownsRow w.heap.size 9 1 v (cQ (V+1) D).length ((cQ (V+1) D).map λx=>.string (ex x))/\Bw w w':=by
 obtain⟨i0,hi,hz0,hz1,hz2⟩:=info_parts Tryz.aBA;have hcl:(cQ (V+1) D).length<=512:=by rw[sK];exact hc
 have oU:decide (1<=(V:Int)/\(V:Int)<=8/\0<=(D:Int)/\(D:Int)<=20)=true:=by simp;omega
 have hw1:IntKind.i64.wrap ((V:Int)+1)=((V+1:Nat):Int):=by rw[IntKind.wrap_i64];omega
 have hmin:((min (cnt (V+1-1) D) 513:Nat):Int)<=512:=by rw[Nat.add_sub_cancel];omega
 generalize hM:((min (cnt (V+1-1) D) 513:Nat):Int)=M at hmin;generalize hV1:((V+1:Nat):Int)=V1 at hw1;refine callsIn_wide (n:=0).1 ?_;refine callsIn_of_wp_marks Tryz.func21 rfl trivial ?_ rfl;simp only[Tryz.ntmps21,List.size_toArray,List.length_cons,List.length_nil,Nat.reduceAdd,Nat.reduceSub,Array.replicate_succ,Array.replicate_zero,List.push_toArray,List.append_toArray,List.nil_append,List.cons_append];gi_wp2
 refine⟨trivial,rfl,?_⟩;refine(callsIn_wide.2 (Ja V D w)).mono ?_;rintro e w' ⟨rfl,rfl⟩;rw[oU];gi_wp2
 refine⟨trivial,rfl,?_⟩;rw[<-hV1];refine(callsIn_wide.2 (Nu (V+1) D w' zo zo hD)).mono ?_;rintro e w ⟨rfl,rfl⟩;rw[hM,hV1];gi_wp2
 refine⟨trivial,rfl,?_⟩;obtain⟨W0,hW0⟩:=aK (w.alloc (.cells #[.slice none 0 0] 53));have lw:aC W0 w.heap.size 53 [.slice none 0 0]:=by rw[<-hW0];exact aC.new _ _ _
 have GC:Bw w W0:=by rw[<-hW0];exact zl
 rw[hW0];refine(callsIn_wide.2 (afs V1 D W0)).mono ?_;rintro e w1 ⟨rfl,cd,ez,vt⟩;have hl0:=lw.lt;have hl2:=ez.lt;gi_wp2
 refine agI (gf:=108) (lb:=#[.pointer (some ⟨W0.heap.size,0,none⟩),.pointer (some ⟨W0.heap.size+1,0,none⟩)]) rfl (enters_of Tryz.func108 zk rfl)
  (aut V zo W0.heap.size (W0.heap.size+1) D zo) (λ_=>rfl) (Vn w.heap.size w.heap.size) (atn _ _) (atm _ _)
  (λb=>b=w.heap.size\/(Value.slice none 0 0).ownBlock=some b) ?h0 ?hok ?a1 ?assign ?body ?done
 case a1=>exact λx=>{tmps:=#[ah (V:Int),ah (D:Int),undef,undef,.slice none 0 0,.pointer (some ⟨w.heap.size,0,none⟩),.string (ex x),ah (V:Int),ah (D:Int),ar true,ar false,ar false,ah (V:Int),ah V1,ah (D:Int),ah M,ar (decide (512<M)),ar (decide (512<M)),ah (V:Int),ah V1,ah (D:Int),.func (.func 108) #[] #[.pointer (some ⟨W0.heap.size,0,none⟩),.pointer (some ⟨W0.heap.size+1,0,none⟩)],.string (ex x),undef,undef,undef,undef,undef],defers:=[]}
 case h0=>exact⟨_,lw.below vt,Nat.le_refl _,Nat.le_trans GC.size vt.size,World.ownsRow_nil _ _ _ _,rfl⟩
 case hok=>
  intro W1 hg;have hbb:Bw w1 W1:=⟨hg.os,hg.tape,hg.output,hg.size,λk hk=>hg.block k hk (λe=>by cases e)⟩;refine⟨by rw[hV1];exact cd.below hbb,ez.below hbb,?_,?_⟩
  . rintro((h|h) |h|h)
    . omega
    . simp[Value.ownBlock]at h
    . omega
    . omega
  . rintro((h|h) |h|h)
    . omega
    . simp[Value.ownBlock]at h
    . omega
    . omega
 case assign=>
  intro m' l' x W' K hK;gi_wp2
  exact hK
 case body=>
  rintro m' l' pre x Zb Wb ⟨v,hBb,mD,jf,ho,rfl⟩ hpre hzb apY;have ayz:pre.length+1<=512:=by have:=hpre.length_le;simp at this;omega
  obtain⟨X,hX⟩:=aK (ex x);rw[hX];have HX:=aj hX;clear hX;obtain⟨W2,hW2⟩:=aK (Wb.alloc (.cells #[.string X] 9));have hb2:Bw Wb W2:=by rw[<-hW2];exact zl
  have Sd:aC W2 Wb.heap.size 9 [.string X]:=by rw[<-hW2];exact aC.new _ _ _
  have eD:W2.ownsRow w.heap.size 9 1 v pre.length (pre.map λx=>.string (ex x)):=by rw[<-hW2];exact ho.alloc _
  have aaG:=hBb.below hb2;have c0:Wb.cell? ⟨w.heap.size,0,none⟩=some v:=hBb.cell 0;have lb:=hBb.lt;have hnews:∀j u,([.string X]:List Value)[j]?=some u->W2.cell? ((⟨Wb.heap.size,0,none⟩:Addr).add j)=some u:=by
   intro j u hj;cases j with
   |zero=>simp at hj;subst hj;exact Sd.cell 0
   |succ j=>simp at hj
  have hbv:some w.heap.size≠v.ownBlock:=Boxed.not_row (t:=53) hBb zd ho;gi_wp2_with (gi_at_builtin;refine wpListIn_append_own_at _ rfl _ _ 53 rfl w.heap.size 9 i0 (.string (bs [])) 1 16 Tryz.underlying53 hi hz0 hz1 hz2 rfl zd v pre.length _ rfl eD ⟨Wb.heap.size,0,none⟩ 1 1 [.string X] rfl rfl hnews zy zx zo (by have:=hb2.size;omega) ?_;intro v' w3 uk hg3 _ iU;obtain⟨g',cap',rfl⟩:=ownsRow_succ uk;have sf:aC w3 w.heap.size 53 [v]:=(hg3.block w.heap.size aaG.lt hbv).trans aaG;have c3:w3.cell? ⟨w.heap.size,0,none⟩=some v:=sf.cell 0;have f3:w3.frozen? ⟨w.heap.size,0,none⟩=false:=sf.free 0)
  have hnb:some w.heap.size≠(Value.slice (some ⟨g',0,none⟩) (pre.length+1) cap').ownBlock:=Boxed.not_row (t:=53) sf zd uk;refine⟨_,⟨_,sf.set 0 _,mD,?_,?_,rfl⟩,?_,?_⟩
  . exact Nat.le_trans jf (Nat.le_trans hb2.size (Nat.le_trans hg3.size (grownBy_setCell' w3 _ _).size))
  . have:=uk.kept (grownBy_setCell' w3 w.heap.size (Value.slice (some ⟨g',0,none⟩) (pre.length+1) cap')) (.inr hnb.symm);rw[<-HX.out]at this;simpa using this
  . refine((Chg.of_below hb2).trans (Chg.aBi (Y:=λk=>k=w.heap.size\/v.ownBlock=some k) hg3 (λb e=>.inr e)) (λb h=>.inl h)).trans (Chg.aBi (Y:=λk=>k=w.heap.size\/v.ownBlock=some k) (grownBy_setCell' w3 w.heap.size _) (λb e=>by cases e;exact .inl rfl)) (λb h=>.inl h)
  . rintro k (h|h)
    . exact .inl (.inl h)
    . rcases iU with h1|h1
      . rw[h1]at h;exact .inl (.inr h)
      . rw[h1]at h;cases h;exact .inr hb2.size
 case done=>
  rintro W3 ⟨Z3,⟨⟨v,hBb,mD,jf,ho,rfl⟩,hK,hz3⟩,hc3,hz4⟩;have c0:W3.cell? ⟨w.heap.size,0,none⟩=some v:=hBb.cell 0;obtain⟨a0,Lg,rfl,hat,_⟩:=dU ho;gi_wp2
  refine aeb [w1.heap.size] W3 zm (λD hD=>by simp at hD;subst hD;exact hK) (λw' hc=>?_);refine⟨_,results_tmp rfl _ _ _,_,rfl,Va ho hc (λk hk hm=>?_),?_⟩
  . simp at hm;subst hm;rcases hz3 _ (.inr hk)with(h1|h1) |h1
    . omega
    . simp[Value.ownBlock]at h1
    . omega
  . have b1:Below w.heap.size w1 W3:=hc3.below zo (λb h=>by rcases h with h|h;omega;simp[Value.ownBlock]at h);have b2:Below w.heap.size W3 w':=hc.below jf (λb h=>by simp at h;omega);exact((GC.trans (vt.mono zo)).trans b1).trans b2
section
attribute [local go_sem ↓] Go.wp_at_zero Go.wp_at_succ
theorem att (v d:Int)(w:World)(h:¬(1<=v/\v<=8/\0<=d/\d<=20)):
 Calls Tryz.prog 21 #[ah v,ah d] w λe w'=>e=.returned (.slice none 0 0)/\w'=w:=by
 have h1:decide (1<=v/\v<=8/\0<=d/\d<=20)=false:=decide_eq_false h;go_enter Tryz.func21,Tryz.ntmps21;go_wp2_with fail;refine(Ja v d w).mono ?_;rintro e w' ⟨rfl,rfl⟩;rw[h1];go_wp2;go_ret;exact⟨rfl,rfl⟩
theorem atq (V D:Nat)(w:World)(hV:1<=V)(hV2:V<=8)(hD:D<=20)(hc:¬cnt V D<=512):
 Calls Tryz.prog 21 #[ah (V:Int),ah (D:Int)] w λe w'=>e=.returned (.slice none 0 0)/\w'=w:=by
 have oU:decide (1<=(V:Int)/\(V:Int)<=8/\0<=(D:Int)/\(D:Int)<=20)=true:=by simp;omega
 have hw1:IntKind.i64.wrap ((V:Int)+1)=((V+1:Nat):Int):=by rw[IntKind.wrap_i64];omega
 have hmin:((min (cnt (V+1-1) D) 513:Nat):Int)=513:=by rw[Nat.add_sub_cancel];omega
 generalize hV1:((V+1:Nat):Int)=V1 at hw1;go_enter Tryz.func21,Tryz.ntmps21;go_wp2_with fail;refine(Ja V D w).mono ?_;rintro e w' ⟨rfl,rfl⟩;rw[oU];go_wp2_with fail;rw[<-hV1];refine(Nu (V+1) D w' zo zo hD).mono ?_;rintro e w ⟨rfl,rfl⟩;rw[hmin];go_wp2;go_ret;exact⟨rfl,rfl⟩
end
theorem atp (v d:Int)(w:World):
 Calls Tryz.prog 21 #[ah v,ah d] w λe w'=>∃a cap,e=.returned (.slice a (Jl v d).length cap)/\At w' a ((Jl v d).map λx=>.string (ex x))/\(∀b o,a=some ⟨b,o,none⟩->w.heap.size<=b)/\Bw w w':=by
 unfold Jl;by_cases h:1<=v/\v<=8/\0<=d/\d<=20
 . obtain⟨V,rfl⟩:∃V:Nat,v=V:=⟨v.toNat,by omega⟩;obtain⟨D,rfl⟩:∃D:Nat,d=D:=⟨d.toNat,by omega⟩;simp only[Int.toNat_natCast];by_cases hc:cnt V D<=512
   . rw[if_pos ⟨h.1,h.2.1,h.2.2.1,h.2.2.2,hc⟩];refine(atr V D w zo zo zo hc).mono ?_;rintro e w' ⟨v,rfl,ho,hb⟩;obtain⟨a,cap,rfl,hat,hba⟩:=dU ho;exact⟨a,cap,rfl,hat,hba,hb⟩
   . rw[if_neg (λh2=>hc h2.2.2.2.2)];refine(atq V D w zo zo zo hc).mono ?_;rintro e w' ⟨rfl,rfl⟩;exact⟨none,0,rfl,At.nil _ _,(λb o e=>by cases e),Below.refl _ _⟩
 . rw[if_neg (λh2=>h ⟨h2.1,h2.2.1,h2.2.2.1,h2.2.2.2.1⟩)];refine(att v d w h).mono ?_;rintro e w' ⟨rfl,rfl⟩;exact⟨none,0,rfl,At.nil _ _,(λb o e=>by cases e),Below.refl _ _⟩
end Go.Proofs.YtnjfebkelecgaaaGreatDoor
namespace Go.Proofs.YtnjfebkelecgaaaGreatDoor
open Go.RowKit
attribute [local go_sem ↓] Go.wp_at_zero Go.wp_at_succ
def FY (v d:Int)(n:Nat):Int:=if ¬(1<=v/\v<=8/\0<=d/\d<=20)then 1 else if 512<cnt v.toNat d.toNat then 3 else if n=cnt v.toNat d.toNat then 0 else 1
theorem ZF (v d:Int)(a:Option Addr)(n cap:Nat)(c:Int)(hc:FY v d n=c)(w:World):
 Calls Tryz.prog 61 #[.agg #[ah v,ah d,.slice a n cap]] w λe w'=>e=.returned (ah c)/\Bw w w':=by
 by_cases h:1<=v/\v<=8/\0<=d/\d<=20
 . have h1:decide (1<=v/\v<=8/\0<=d/\d<=20)=true:=decide_eq_true h;obtain⟨V,rfl⟩:∃V:Nat,v=V:=⟨v.toNat,by omega⟩;obtain⟨D,rfl⟩:∃D:Nat,d=D:=⟨d.toNat,by omega⟩;have hw1:IntKind.i64.wrap ((V:Int)+1)=((V+1:Nat):Int):=by rw[IntKind.wrap_i64];omega
   obtain⟨V1,hV1⟩:=aK ((V+1:Nat):Int);obtain⟨M,hM⟩:=aK ((min (cnt (V+1-1) D) 513:Nat):Int);have ET:Hid (∀W,Calls Tryz.prog 43 #[ah V1,ah (D:Int)] W λe w'=>e=.returned (ah M)/\Bw W w'):=λW=>by rw[<-hV1,<-hM];exact(Nu (V+1) D W zo zo zo).mono (λe w' h=>⟨h.1,by rw[h.2];exact Below.refl _ _⟩)
   rw[hV1]at hw1;unfold FY at hc;rw[if_neg (by simp only[Decidable.not_not];exact h)]at hc;simp only[Int.toNat_natCast]at hc;rw[Nat.add_sub_cancel]at hM;have lU:=aj (Ja V D);by_cases hb:512<cnt V D
   . have tT:M=513:=by omega
     rw[if_pos hb]at hc;subst tT;subst hc;clear hM h;go_enter Tryz.func61,Tryz.ntmps61;have Hb:Hid (Bw w w):=Below.refl _ _;go_wp2_with fail;obtain⟨R,hR⟩:∃R:World->Prop,(λW=>aC W (w.heap.size) 34 [ah V,ah D,.slice a n cap]/\Bw w W)=R:=⟨_,rfl⟩;first|refine cj R ?hR ?_|refine cu R ?hR ?_
     case hR=>subst hR;exact⟨(aC.newAt w _ _ (b:=w.heap.size) rfl),zl⟩
     subst hR;rintro W ⟨qx,ag⟩;have Hx:=aj qx;clear qx;obtain⟨x0,x1,x2⟩:=Hx.out.c3;replace Hb:=aF Hb ag;clear ag;go_wp2_with fail;refine(lU.out W).mono ?_;rintro e w1 ⟨rfl,rfl⟩;rw[h1];go_wp2_with fail;refine(ET.out _).mono ?_;rintro e w2 ⟨rfl,ag⟩;clear x0 x1 x2;obtain⟨Hx,x0,x1,x2⟩:=bP Hx ag;replace Hb:=aF Hb ag;clear ag;go_wp2;go_ret;exact⟨rfl,Hb.out⟩
   . have tT:M=(cnt V D:Int):=by omega
     have Dj:M<=512:=by omega
     rw[if_neg hb]at hc;by_cases he:n=cnt V D
     . rw[if_pos he]at hc;subst hc;have hnM:(n:Int)=M:=by omega
       clear hM h tT hb he;go_enter Tryz.func61,Tryz.ntmps61;have Hb:Hid (Bw w w):=Below.refl _ _;go_wp2_with fail;obtain⟨R,hR⟩:∃R:World->Prop,(λW=>aC W (w.heap.size) 34 [ah V,ah D,.slice a n cap]/\Bw w W)=R:=⟨_,rfl⟩;first|refine cj R ?hR ?_|refine cu R ?hR ?_
       case hR=>subst hR;exact⟨(aC.newAt w _ _ (b:=w.heap.size) rfl),zl⟩
       subst hR;rintro W ⟨qx,ag⟩;have Hx:=aj qx;clear qx;obtain⟨x0,x1,x2⟩:=Hx.out.c3;replace Hb:=aF Hb ag;clear ag;go_wp2_with fail;refine(lU.out W).mono ?_;rintro e w1 ⟨rfl,rfl⟩;rw[h1];go_wp2_with fail;refine(ET.out _).mono ?_;rintro e w2 ⟨rfl,ag⟩;clear x0 x1 x2;obtain⟨Hx,x0,x1,x2⟩:=bP Hx ag;replace Hb:=aF Hb ag;clear ag;go_wp2_with fail;refine cg (λw'=>aH w' (w.heap.size) 0 (ah V)/\aH w' (w.heap.size) 1 (ah D)/\aH w' (w.heap.size) 2 (.slice a n cap)) (λi=>Nat.blt i 100000) [(0,true),(1,true),(2,true),(3,true),(4,true),(5,true),(6,true),(7,true),(8,false),(9,true),(10,true)] zk zk rfl zk zc ⟨x0,x1,x2⟩ ?_;iterate 8 (refine pT rfl rfl ?_ (by intro w' ⟨q0,q1,q2⟩;go_simp;try with_reducible rfl);try simp only[UU])
       refine aW rfl rfl (λK hK=>?_);go_simp;with_reducible refine(ET.out _).mono ?_
       rintro e w3 ⟨rfl,hq⟩;have ag:Bw w2 w3:=by first|exact hq|exact bo hq
       clear x0 x1 x2;obtain⟨Hx,x0,x1,x2⟩:=bP Hx ag;replace Hb:=aF Hb ag;clear ag;refine hK _ _ (λ_=>⟨x0,x1,x2⟩) ?_;clear hK K;try simp only[UU]
       iterate 2 (refine pT rfl rfl ?_;try simp only[UU])
       simp only[bD];go_wp2;go_ret;exact⟨rfl,Hb.out⟩
     . rw[if_neg he]at hc;subst hc;have hnM:¬(n:Int)=M:=by omega
       have ayt:((n:Int) !=M)=true:=by simp[hnM]
       clear hM h tT hb he;go_enter Tryz.func61,Tryz.ntmps61;have Hb:Hid (Bw w w):=Below.refl _ _;go_wp2_with fail;obtain⟨R,hR⟩:∃R:World->Prop,(λW=>aC W (w.heap.size) 34 [ah V,ah D,.slice a n cap]/\Bw w W)=R:=⟨_,rfl⟩;first|refine cj R ?hR ?_|refine cu R ?hR ?_
       case hR=>subst hR;exact⟨(aC.newAt w _ _ (b:=w.heap.size) rfl),zl⟩
       subst hR;rintro W ⟨qx,ag⟩;have Hx:=aj qx;clear qx;obtain⟨x0,x1,x2⟩:=Hx.out.c3;replace Hb:=aF Hb ag;clear ag;go_wp2_with fail;refine(lU.out W).mono ?_;rintro e w1 ⟨rfl,rfl⟩;rw[h1];go_wp2_with fail;refine(ET.out _).mono ?_;rintro e w2 ⟨rfl,ag⟩;clear x0 x1 x2;obtain⟨Hx,x0,x1,x2⟩:=bP Hx ag;replace Hb:=aF Hb ag;clear ag;go_wp2_with fail;refine cg (λw'=>aH w' (w.heap.size) 0 (ah V)/\aH w' (w.heap.size) 1 (ah D)/\aH w' (w.heap.size) 2 (.slice a n cap)) (λi=>Nat.blt i 100000) [(0,true),(1,true),(2,true),(3,true),(4,true),(5,true),(6,true),(7,true),(8,false),(9,true),(10,true)] zk zk rfl zk zc ⟨x0,x1,x2⟩ ?_;iterate 8 (refine pT rfl rfl ?_ (by intro w' ⟨q0,q1,q2⟩;go_simp;try with_reducible rfl);try simp only[UU])
       refine aW rfl rfl (λK hK=>?_);go_simp;with_reducible refine(ET.out _).mono ?_
       rintro e w3 ⟨rfl,hq⟩;have ag:Bw w2 w3:=by first|exact hq|exact bo hq
       clear x0 x1 x2;obtain⟨Hx,x0,x1,x2⟩:=bP Hx ag;replace Hb:=aF Hb ag;clear ag;refine hK _ _ (λ_=>⟨x0,x1,x2⟩) ?_;clear hK K;try simp only[UU]
       iterate 2 (refine pT rfl rfl ?_;try simp only[UU])
       simp only[bD];go_wp2;go_ret;exact⟨rfl,Hb.out⟩
 . have h1:decide (1<=v/\v<=8/\0<=d/\d<=20)=false:=decide_eq_false h;unfold FY at hc;rw[if_pos h]at hc;subst hc;have lU:=aj (Ja v d);clear h;go_enter Tryz.func61,Tryz.ntmps61;have Hb:Hid (Bw w w):=Below.refl _ _;go_wp2_with fail;obtain⟨R,hR⟩:∃R:World->Prop,(λW=>aC W (w.heap.size) 34 [ah v,ah d,.slice a n cap]/\Bw w W)=R:=⟨_,rfl⟩;first|refine cj R ?hR ?_|refine cu R ?hR ?_
   case hR=>subst hR;exact⟨(aC.newAt w _ _ (b:=w.heap.size) rfl),zl⟩
   subst hR;rintro W ⟨qx,ag⟩;have Hx:=aj qx;clear qx;obtain⟨x0,x1,x2⟩:=Hx.out.c3;replace Hb:=aF Hb ag;clear ag;go_wp2_with fail;refine(lU.out W).mono ?_;rintro e w1 ⟨rfl,rfl⟩;rw[h1];go_wp2;go_ret;exact⟨rfl,Hb.out⟩
end Go.Proofs.YtnjfebkelecgaaaGreatDoor
namespace Go.Proofs.YtnjfebkelecgaaaGreatDoor
open Go.RowKit
theorem Tryz.aBF (w:World):(zeroValue 3).run Tryz.prog w=.ok (ah 0) w:=by obtain⟨i0,hi,hz0,hz1,hz2⟩:=info_parts (show(Tryz.prog.info? 3).map (λi=>(i.zero,i.size,i.bytes))=some (some (ah 0),1,8)by kernel_rfl);simp[zeroValue,typeInfo,hi,hz0]
def Mp (W:World)(b n:Nat)(f:List UInt8->Nat):Prop:=
 ∃D:DataW Unit,W.ownsMap Tryz.prog 9 (plainElem Tryz.prog 3) b n D/\Maps.IsMap D/\∀l,D.atKey (.string l) (.lit (.int .i64 0))=.lit (.int .i64 (f l:Int))
theorem Mp.made (w:World):Mp (w.alloc (.map #[] 0)) w.heap.size 0 (λ_=>0):=
 ⟨.map [],World.ownsMap_made w _ _ _,⟨_,rfl⟩,λ_=>rfl⟩
theorem Mp.lt {W:World}{b n:Nat}{f:List UInt8->Nat}(h:Mp W b n f):b<W.heap.size:=by obtain⟨D,h1,_⟩:=h;exact h1.lt
theorem Mp.kept {W W':World}{b n:Nat}{f:List UInt8->Nat}{r:Option Nat}(h:Mp W b n f)(hg:W.grownBy W' r)(hne:some b≠r):Mp W' b n f:=by obtain⟨D,h1,h2⟩:=h;exact⟨D,h1.kept hg hne,h2⟩
theorem Mp.below {W W':World}{b n:Nat}{f:List UInt8->Nat}(h:Mp W b n f)(hb:Bw W W'):Mp W' b n f:=
 h.kept (r:=none) ⟨hb.os,hb.tape,hb.output,hb.size,λk hk _=>hb.block k hk⟩ zm
theorem kM {w w':World}{b n:Nat}{f:List UInt8->Nat}(h:Hid (Mp w b n f))(k:Bw w w'):Hid (Mp w' b n f):=h.out.below k
theorem ad9 (l:List UInt8)(hl:l.length<=maxLen):keyOf Tryz.prog 9 (ai l)=some (.string l):=by have:=WideMaps.keyOf_string_mk (P:=Tryz.prog) Tryz.underlying9 (s:=bs l) (by rw[jd];exact hl);exact this
theorem Mp.look {W:World}{b n:Nat}{f:List UInt8->Nat}(h:Mp W b n f)(l:List UInt8)(hl:l.length<=maxLen):
 (Instr.lookup 160 (.map (some b)) (ai l) false).run Tryz.prog W=.ok (ah (f l:Int)) W:=by
 obtain⟨D,h1,h2,h3⟩:=h;obtain⟨c,hrun,hat,hwc⟩:=h1.lookup_int (t:=160) (e:=3) (q:=.i64) (Maps.string_keyed Tryz.underlying9) Tryz.underlying160 Tryz.underlying3 (Tryz.aBF W) (ad9 l hl);rw[h3 l]at hat;cases hat
 exact hrun
theorem Mp.put {W:World}{b n:Nat}{f:List UInt8->Nat}(h:Mp W b n f)(hn:n<maxLen)(l:List UInt8)(hl:l.length<=maxLen)(i:Nat)(hi:i<9223372036854775808):
 ∃w',(Instr.mapUpdate 160 (.map (some b)) (ai l) (ah (i:Int))).run Tryz.prog W=.ok () w'/\Mp w' b (n+1) (λl'=>if l'=l then i else f l')/\W.grownBy w' (some b):=by
 obtain⟨D,h1,h2,h3⟩:=h
 obtain⟨w',hrun,ho,hg⟩:=h1.update (t:=160) (e:=3) (Maps.string_keyed Tryz.underlying9) Tryz.underlying160 hn (ad9 l hl) (plainElem_int Tryz.underlying3 (show(Lit.int .i64 (i:Int)).wf=true by
  have h1:IntKind.i64.min= -9223372036854775808:=rfl;have h2:IntKind.i64.max=9223372036854775807:=rfl
  simp[Lit.wf];omega))
 refine⟨w',hrun,⟨_,ho,ho.isMap,λl'=>?_⟩,hg⟩;show _=DataW.lit (Lit.int .i64 ((if l'=l then i else f l':Nat):Int))
 by_cases e:l'=l
 . subst e;rw[if_pos rfl,Maps.atKey_put_same h2 (by simp[WideAt.IsKeyLit])]
 . rw[if_neg e,Maps.atKey_put_other (by intro h;cases h;exact e rfl)];exact h3 l'
end Go.Proofs.YtnjfebkelecgaaaGreatDoor
namespace Go.Proofs.YtnjfebkelecgaaaGreatDoor
open Go.RowKit
attribute [local go_sem ↓] Go.wp_at_zero Go.wp_at_succ
theorem Mp.set {W:World}{b n:Nat}{f:List UInt8->Nat}(h:Mp W b n f)(a:Addr)(hne:b≠a.block)(u:Value):Mp (W.setCell a u) b n f:=by obtain⟨D,h1,h2⟩:=h;exact⟨D,h1.setCell hne u,h2⟩
def place (xs:List (List UInt8)):Nat->List UInt8->Nat
 |0,_=>0
 |k+1,l=>if l=xs.getD k []then k else place xs k l
theorem as7 (xs:List (List UInt8))(k:Nat)(hk:k<xs.length):place xs (k+1)=λl=>if l=xs[k]then k else place xs k l:=by
 funext l
 simp[place,hk]
theorem Gi {α:Type}(f:α->Value)(xs:List α):xs.flatMap (λx=>[f x])=xs.map f:=by
 induction xs with
 |nil=>rfl
 |cons x xs ih=>simp[ih]
def FW (l:List UInt8):List Value:=l.map λu=>.int .u8 (u.toNat:Int)
theorem amf (l:List UInt8):FW l=cW l.length (λj=>(l.getD j 0).toNat):=by
 apply List.ext_getElem?;intro j;by_cases h:j<l.length
 . rw[lM _ _ _ h];simp[FW,h]
 . simp[FW,cW,h]
theorem avO {w:World}{b:Nat}{t:TypeId}{l:List UInt8}(h:aC w b t (FW l))(cap:Nat):
 (convert 84 9 (.slice (some ⟨b,0,none⟩) l.length cap)).run Tryz.prog w=.ok (ai l) w:=by
 rw[amf]at h;rw[uC h cap];congr 2;congr 1;apply List.ext_getElem?;intro j;by_cases h:j<l.length
 . simp[h]
 . simp[h]
def tE (ds:List Dyadic)(i:Nat)(x:Dyadic):List Dyadic:=ds.set i (ds.getD i 0+x)
theorem FP (ds:List Dyadic)(i:Nat)(x:Dyadic):(tE ds i x).length=ds.length:=by simp[tE]
theorem akW {B:Nat}{ds:List Dyadic}(h:∀d∈ds,Sm B d)(i:Nat){x:Dyadic}(hx:Sm B x):∀d∈tE ds i x,Sm (B+1) d:=by
 intro d hd;unfold tE at hd;rcases List.mem_or_eq_of_mem_set hd with h1|h1
 . exact(h d h1).mono zo
 . subst h1;by_cases hi:i<ds.length
   . have e:ds.getD i 0=ds[i]:=by simp[hi]
     rw[e];exact Sm.add (h _ (List.getElem_mem hi)) hx
   . have e:ds.getD i 0=0:=by simp[hi]
     rw[e];exact Sm.add (Sm.zero _) hx
theorem Chg.tab {Y:Nat->Prop}{w w':World}(h:Chg Y w w')(hT:aO w)(hy:¬Y 0):aO w':=λj hj=>h.cell (hT j hj) hy
theorem Chg.mp {Y:Nat->Prop}{w w':World}(h:Chg Y w w'){b n:Nat}{f:List UInt8->Nat}(hm:Mp w b n f)(hy:¬Y b):Mp w' b n f:=by obtain⟨D,⟨es,clock,hb,F,hs,hD⟩,h2⟩:=hm;exact⟨D,⟨es,clock,(h.block b (Array.getElem?_eq_some_iff.1 hb).1 hy).trans hb,F,hs,hD⟩,h2⟩
theorem as8 (a:Option Addr)(cap N:Nat)(xs:List (List UInt8))(hN:xs.length=N)(hx:N<=512)(hlen:∀l∈xs,l.length<=255)(w:World)(hat:At w a (xs.map λl=>Value.string (bs l))):
 Calls Tryz.prog 127 #[.slice a N cap] w λe w'=>∃bm,e=.returned (.map (some bm))/\(Mp w' bm N (place xs N)/\w.heap.size<=bm)/\Bw w w':=by
 subst hN;obtain⟨gF,lT⟩:=aZ hat hlen;clear hat hlen;have hmm:=@run_makeMap Tryz.prog;go_enter Tryz.func127,Tryz.ntmps127;go_wp2_with fail;refine cj (λW2=>Mp W2 w.heap.size 0 (λ_=>0)/\Bw w W2) ⟨Mp.made w,zl⟩ ?_;rintro W2 ⟨qm,hb2⟩;go_loopw[9] (λi wr=>∃k:Nat,k<=xs.length/\i=ah (k:Int)/\Mp wr w.heap.size k (place xs k)/\Bw w wr) (λi _=>xs.length-(intOf i).toNat);case atStart=>exact⟨0,Nat.zero_le _,rfl,qm,hb2⟩
 case round=>
  obtain⟨k,hk,rfl,pm,hb3⟩:=hrel;by_cases hlt:k<xs.length
  . have iI:=gF.out.below hb3;have ry:At wr a (xs.flatMap λl=>[Value.string (bs l)]):=by rw[Gi];exact iI
    obtain⟨b,o,hab,hcs⟩:=ry.elem (f:=λl=>[Value.string (bs l)]) (sz:=1) (λ_=>rfl) zd k hlt;have hc0:wr.cell? ⟨b,o+k,none⟩=some (.string (bs xs[k])):=by simpa using hcs 0 zd
    have bK:=xo xs.length cap k (k:Int) hab hlt rfl;have hl0:=lT.out _ (List.getElem_mem hlt);obtain⟨w4,hput,hm4,hg4⟩:=pm.put zx xs[k] zx k zo;rw[<-as7 xs k hlt]at hm4;rw[Nat.mul_one]at bK;go_wp2;go_roundw;case rel=>refine⟨k+1,by omega,by go_num,hm4,?_⟩;exact hb3.grown hg4 (by have:=hb3.size;omega) (λj e=>by cases e;exact Nat.le_refl _)
    case measure=>simp[intOf];omega
  . obtain rfl:k=xs.length:=by omega
    go_wp2;refine bodyPost_ret (results_tmp rfl _ _ _) rfl ⟨_,rfl,⟨pm,Nat.le_refl _⟩,hb3⟩
theorem afM (bB n i B:Nat)(ds:List Dyadic)(s:Bool)(m:List UInt8)(e:Int)(D:Dyadic)(w:World)
 (hn:ds.length=n) (hB:aC w bB 48 (dC ds)) (hid:i<ds.length)
 (hx:Fit B (s,m,e)) (hd:Sm B ds[i]) (hBB:B+2<=268435456) (hD:ds[i]+aM (s,m,e)=D) (hT:aO w):
 Calls Tryz.prog 45 #[.slice (some ⟨bB,0,none⟩) n n,ah (i:Int),.agg #[ar s,ai m,ah e]] w λex w'=>
  (∃r,ex=.returned r)/\aC w' bB 48 (dC (ds.set i D))/\w.grownBy w' (some bB):=by
 subst hn;have Hg:=aj (bY.num hB i hid);have HD:Hid (aM (aI (dN ds[i]),nt (dN ds[i]).natAbs,dE ds[i])+aM (s,m,e)=D):=by show aM (canon ds[i])+_=_;rw[cN];exact hD
 have XJ:Hid (Fit B (aI (dN ds[i]),nt (dN ds[i]).natAbs,dE ds[i])):=hd.fit zo;have fx:=aj hx;have lB:=hB.lt;clear hD hd hx;obtain⟨g,hg⟩:=aK (ds[i]);rw[hg]at Hg HD XJ;clear hg;obtain⟨W,hW⟩:=aK (w.alloc (.cells #[ar s,ai m,ah e] 48));have Hb:Hid (Bw w W):=by rw[<-hW];exact zl
 have Hc:Hid (aC W w.heap.size 48 [ar s,ai m,ah e]):=by rw[<-hW];exact aC.newAt _ _ _ zm
 obtain⟨HT,HBW⟩:=aZ (hT.below Hb.out) (hB.below Hb.out);replace Hg:=aj (Hg.out.below Hb.out);have bK:=Ul ds.length ds.length i (i:Int) (rfl:(some ⟨bB,0,none⟩:Option Addr)=_) hid rfl;rw[Nat.zero_add]at bK;go_enter Tryz.func45,Tryz.ntmps45;obtain⟨c0,c1,c2⟩:=Hc.out.c3;obtain⟨g0,g1,g2⟩:=Hg.out.w3;go_wp2_with fail;refine cg (λw'=>aH w' (w.heap.size) 0 (ar s)/\aH w' (w.heap.size) 1 (ai m)/\aH w' (w.heap.size) 2 (ah e)/\aH w' bB (i*3) (ar (aI (dN g)))/\aH w' bB (i*3+1) (ai (nt (dN g).natAbs))/\aH w' bB (i*3+2) (ah (dE g))) (λi=>Nat.blt i 10) [(0,true),(1,true),(2,true),(3,true),(4,true),(5,true),(6,true),(7,false),(8,false),(9,true),(10,false)] zk zk rfl zk zc ⟨c0,c1,c2,g0,g1,g2⟩ ?_;iterate 7 (refine pT rfl rfl ?_ (by intro w' ⟨q0,q1,q2,q3,q4,q5⟩;go_simp;try with_reducible rfl);try simp only[UU])
 refine aW rfl rfl (λK hK=>?_);go_simp;refine hK _ _ (λ_=>⟨aX c0,aX c1,aX c2,aX g0,aX g1,aX g2⟩) ?_;clear hK K;try simp only[UU]
 refine cn (λW3=>aC W3 (W.heap.size) 48 [ar (aI (dN g)),ai (nt (dN g).natAbs),ah (dE g),ar s,ai m,ah e]/\Bw W W3) (by first|exact dZ|exact ej) ?_;rintro W3 ⟨qa,ag⟩;clear c0 c1 c2 g0 g1 g2;have Nq:=Hc.out.lt;replace Hc:=kB Hc ag;replace Hg:=kW Hg ag;have Ha:=aj qa;clear qa;obtain⟨c0,c1,c2⟩:=Hc.out.c3;obtain⟨g0,g1,g2⟩:=Hg.out.w3;obtain⟨a0,a1,a2,a3,a4,a5⟩:=Ha.out.c6;replace Hb:=aF Hb ag;clear ag;refine aW rfl rfl (λK hK=>?_);go_simp;with_reducible refine(Gb (aI (dN g)) (nt (dN g).natAbs) (dE g) s m e D B HD.out W.heap.size 2 48 _ XJ.out fx.out hBB Ha.out (by first|exact(hT.below Hb.out) |exact aO.drew (hT.below Hb.out) |exact aO.alloc (hT.below Hb.out) _|exact aO.drew (aO.alloc (hT.below Hb.out) _) |exact aO.alloc (aO.drew (hT.below Hb.out)) _)).mono ?_
 rintro e w3 ⟨rfl,hq⟩;have ag:Bw W3 w3:=by first|exact hq|exact bo hq
 clear c0 c1 c2 g0 g1 g2 a0 a1 a2 a3 a4 a5;obtain⟨Hc,c0,c1,c2⟩:=bP Hc ag;replace Hg:=kW Hg ag;obtain⟨Ha,a0,a1,a2,a3,a4,a5⟩:=jO Ha ag;obtain⟨g0,g1,g2⟩:=Hg.out.w3;replace Hb:=aF Hb ag;clear ag;refine hK _ _ (λ_=>⟨c0,c1,c2,g0,g1,g2⟩) ?_;clear hK K;try simp only[UU]
 refine pT rfl rfl ?_;try simp only[UU]
 refine aW rfl rfl (λK hK=>?_);go_simp;have sf:=hB.below Hb.out;have z0:w3.frozen? ⟨bB,i*3,none⟩=false:=sf.free _;have z1:w3.frozen? ⟨bB,i*3+1,none⟩=false:=sf.free _;have z2:w3.frozen? ⟨bB,i*3+2,none⟩=false:=sf.free _;go_simp;refine hK _ _ (λh=>absurd h zd) ?_;clear hK K;simp only[bD];go_end0
 refine⟨⟨_,rfl⟩,?_,?_⟩
 . have:=((sf.set (i*3) (ar (aI (dN D)))).set (i*3+1) (ai (nt (dN D).natAbs))).set (i*3+2) (ah (dE D));rw[ZV]at this;exact this
 . have q:=Hb.out;refine⟨q.os,q.tape,q.output,?_,λk hk hne=>?_⟩
   . exact Nat.le_trans q.size zm
   . have hkb:k≠bB:=λe=>hne (by rw[e]);refine((Below.heap_setCell _ _ _ k hkb).trans ((Below.heap_setCell _ _ _ k hkb).trans (Below.heap_setCell _ _ _ k hkb))).trans (q.block k hk)
theorem At.chg {Y:Nat->Prop}{w w':World}{a:Option Addr}{cs:List Value}(h:At w a cs)(hc:Chg Y w w')(hy:∀b o,a=some ⟨b,o,none⟩->¬Y b):At w' a cs:=by
 rcases h with h|⟨b,o,ha,hcs⟩
 . exact .inl h
 . refine .inr ⟨b,o,ha,λj hj=>?_⟩;have h1:=hcs j hj;rw[List.getElem?_eq_getElem hj]at h1⊢;exact hc.cell h1 (hy b o ha)
end Go.Proofs.YtnjfebkelecgaaaGreatDoor
namespace Go.Proofs.YtnjfebkelecgaaaGreatDoor
theorem rH (n s:Nat)(x:List Nat):x∈cQ (n+1) s↔x.length=n+1/\x.sum=s:=by
 induction n generalizing s x with
 | zero=>
   simp only[cQ,List.mem_singleton];constructor
   . rintro rfl;simp
   . rintro⟨h1,h2⟩;match x,h1,h2 with
     |[a],_,h2=>simp at h2;rw[h2]
 | succ n ih=>
   simp only[cQ,List.mem_flatMap,List.mem_map,List.mem_range];constructor
   . rintro⟨i,hi,y,hy,rfl⟩;obtain⟨h1,h2⟩:=(ih i y).1 hy;exact⟨by simp[h1],by simp[h2];omega⟩
   . rintro⟨h1,h2⟩;match x,h1,h2 with
     |a::y,h1,h2=>simp at h1 h2;exact⟨y.sum,by omega,y,(ih _ y).2 ⟨by omega,rfl⟩,by congr 1;omega⟩
theorem Vx (n s:Nat):(cQ (n+1) s).Nodup:=by
 induction n generalizing s with
 |zero=>simp[cQ]
 | succ n ih=>
   unfold cQ List.Nodup;rw[List.pairwise_flatMap];refine⟨λi _=>?_,?_⟩
   . rw[List.pairwise_map];exact(ih i).imp (λh e=>h (by simpa using e))
   . have h0:(List.range (s+1)).Pairwise (·<·):=List.pairwise_lt_range;refine List.Pairwise.imp_of_mem ?_ h0;intro a b ha hb hab x hx y hy e;rw[List.mem_range]at ha hb;rw[List.mem_map]at hx hy;obtain⟨_,_,rfl⟩:=hx;obtain⟨_,_,rfl⟩:=hy;simp at e;omega
theorem bytes_inj {x y:List Nat}(hx:∀a∈x,a<=255)(hy:∀a∈y,a<=255)(h:x.map UInt8.ofNat=y.map UInt8.ofNat):x=y:=by
 induction x generalizing y with
 | nil=>cases y with
   |nil=>rfl
   |cons b y=>simp at h
 | cons a x ih=>cases y with
   |nil=>simp at h
   |cons b y=>simp only[List.map_cons,List.cons.injEq]at h;have h1:=congrArg UInt8.toNat h.1;simp at h1;have:=hx a zm;have:=hy b zm;rw[ih (λc hc=>hx c (by simp[hc])) (λc hc=>hy c (by simp[hc])) h.2];congr 1;omega
theorem Nv {x:List Nat}{a:Nat}(h:a∈x):a<=x.sum:=by
 induction x with
 |nil=>cases h
 | cons b x ih=>
   rw[List.mem_cons]at h;rcases h with rfl|h
   . simp
   . have:=ih h;simp;omega
theorem aft {n s:Nat}(hs:s<=255){x:List Nat}(h:x∈cQ (n+1) s):∀a∈x,a<=255:=by intro a ha;have:=Nv ha;have:=((rH n s x).1 h).2;omega
theorem aqD {n s:Nat}(hs:s<=255):((cQ (n+1) s).map λx=>x.map UInt8.ofNat).Nodup:=by unfold List.Nodup;rw[List.pairwise_map];refine List.Pairwise.imp_of_mem ?_ (Vx n s);intro a b ha hb hab e;exact hab (bytes_inj (aft hs ha) (aft hs hb) e)
theorem as5 (xs:List (List UInt8))(hn:xs.Nodup)(k q:Nat)(hq:q<k)(hk:k<=xs.length):place xs k (xs[q]'zo)=q:=by
 induction k with
 |zero=>omega
 | succ k ih=>
   rw[place];have e:xs.getD k []=xs[k]:=by simp[show k<xs.length by omega]
   rw[e];by_cases h:q=k
   . subst h;simp
   . rw[if_neg (λe2=>h (UO hn e2)),ih zo zo]
theorem as6 {n s:Nat}(hs:s<=255){x:List Nat}(h:x∈cQ (n+1) s):
 ∃q,∃h:q<(cQ (n+1) s).length,(cQ (n+1) s)[q]=x/\place ((cQ (n+1) s).map λx=>x.map UInt8.ofNat) (cQ (n+1) s).length (x.map UInt8.ofNat)=q:=by
 obtain⟨q,hq,rfl⟩:=List.mem_iff_getElem.1 h;refine⟨q,hq,rfl,?_⟩;have:=as5 _ (aqD (n:=n) hs) (cQ (n+1) s).length q hq zm;simpa using this
def lL (f:List UInt8->Nat)(ds:List Dyadic)(ps:jh):List Dyadic:=ps.foldl (λds p=>tE ds (f (p.1.map UInt8.ofNat)) p.2) ds
theorem atx (f:List UInt8->Nat)(ds:List Dyadic)(a b:jh):lL f ds (a++b)=lL f (lL f ds a) b:=by simp[lL]
theorem atz (f:List UInt8->Nat)(ds:List Dyadic)(ps:jh):(lL f ds ps).length=ds.length:=by
 induction ps generalizing ds with
 |nil=>rfl
 |cons p ps ih=>exact(ih _).trans (FP _ _ _)
theorem atA {B:Nat}(f:List UInt8->Nat)(ds:List Dyadic)(ps:jh)(hd:∀d∈ds,Sm B d)(hp:∀p∈ps,Sm B p.2):∀d∈lL f ds ps,Sm (B+ps.length) d:=by
 induction ps generalizing ds B with
 |nil=>exact hd
 |cons p ps ih=>have:=ih (B:=B+1) (tE ds (f (p.1.map UInt8.ofNat)) p.2) (akW hd _ (hp p zm)) (λq hq=>(hp q (by simp[hq])).mono zo);intro d hdd;have h1:=this d hdd;simp only[List.length_cons];rw[show B+(ps.length+1)=B+1+ps.length by omega];exact h1
theorem aty (R:List (List Nat))(hR:R.Nodup)(f:List UInt8->Nat)(hf:∀x∈R,∃q,∃h:q<R.length,R[q]=x/\f (x.map UInt8.ofNat)=q)(ps:jh)(hp:∀p∈ps,p.1∈R)(ds:List Dyadic)(hd:ds.length=R.length):
 lL f ds ps=List.zipWith (·+·) ds (oH R ps):=by
 induction ps generalizing ds with
 |nil=>apply List.ext_getElem (by simp[lL,oH,hd]);intro k h1 h2;simp[lL,oH,pK,lI]
 | cons p ps ih=>
   have e:lL f ds (p::ps)=lL f (tE ds (f (p.1.map UInt8.ofNat)) p.2) ps:=rfl;rw[e,ih (λq hq=>hp q (by simp[hq])) _ (by rw[FP,hd])];obtain⟨q,hq,e1,e2⟩:=hf _ (hp p zm);rw[e2];apply List.ext_getElem (by simp[oH,FP]);intro k h1 h2;have hk:k<ds.length:=by simp[oH,FP]at h1;omega
   simp only[oH,List.getElem_zipWith,List.getElem_map];have e3:(tE ds q p.2)[k]'(by rw[FP];exact hk)=ds[k]+p.2*delta (R[k]'zo) p.1:=by
    unfold tE delta;rw[List.getElem_set];by_cases h:q=k
    . subst h;rw[if_pos rfl,if_pos e1.symm];simp[hk];grind
    . rw[if_neg h,if_neg (λh2=>h (UO hR (e1.trans h2)))];grind
   rw[e3];unfold pK;simp only[lI];grind
theorem atB (R:List (List Nat))(hR:R.Nodup)(f:List UInt8->Nat)(hf:∀x∈R,∃q,∃h:q<R.length,R[q]=x/\f (x.map UInt8.ofNat)=q)(ps:jh)(hp:∀p∈ps,p.1∈R):
 lL f (List.replicate R.length 0) ps=oH R ps:=by
 rw[aty R hR f hf ps hp _ zm];apply List.ext_getElem (by simp[oH]);intro k h1 h2;simp
theorem aqi (x:List Nat)(k:Nat)(hk:k<x.length):(x.map UInt8.ofNat).set k ((x.map UInt8.ofNat).getD k 0+1)=(kx x k).map UInt8.ofNat:=by unfold kx;rw[List.map_set];congr 1;simp[hk]
end Go.Proofs.YtnjfebkelecgaaaGreatDoor
namespace Go.Proofs.YtnjfebkelecgaaaGreatDoor
open Go.RowKit
attribute [local go_sem ↓] Go.wp_at_zero Go.wp_at_succ
def uz (P:Nat->jh)(k:Nat):jh:=(List.range k).flatMap P
theorem afd (P:Nat->jh)(k:Nat):uz P (k+1)=uz P k++P k:=by unfold uz;rw[List.range_succ,List.flatMap_append];simp
theorem afc (P:Nat->jh)(N n k:Nat)(hk:k<=n)(h:∀k,k<n->(P k).length<=N):(uz P k).length<=k*N:=by
 induction k with
 |zero=>simp[uz]
 |succ k ih=>rw[afd,List.length_append,Nat.add_mul,Nat.one_mul];have:=ih zo;have:=h k zo;omega
theorem afb {Q:List Nat×Dyadic->Prop}(P:Nat->jh)(n k:Nat)(hk:k<=n)(h:∀k,k<n->∀p∈P k,Q p):∀p∈uz P k,Q p:=by intro p hp;unfold uz at hp;rw[List.mem_flatMap]at hp;obtain⟨q,hq,hp⟩:=hp;rw[List.mem_range]at hq;exact h q zo p hp
theorem Chg.set {Y:Nat->Prop}{W W':World}(h:Chg Y W W'){a:Addr}(hy:Y a.block)(v:Value):Chg Y W (W'.setCell a v):=
 h.trans (Chg.aBi (Y:=Y) (grownBy_set (w:=W') (a:=a) a.block rfl v) (λ_ e=>by cases e;exact hy)) (λ_ h=>.inl h)
theorem Chg.drew {Y:Nat->Prop}{W W':World}(h:Chg Y W W'):Chg Y W W'.drew:=⟨h.os,h.tape,h.output,h.size,h.block⟩
theorem Chg.aBh {Y:Nat->Prop}{A B C:World}(h:Chg Y A B)(k:Bw B C):Chg Y A C:=h.trans (Chg.of_below (Y:=Y) k) (λ_ h=>.inl h)
def okW (x:Raw):Prop:=x.2.1.length<=12/\ -60<=x.2.2/\x.2.2<=60
theorem ND {x:Raw}(h:okW x):Fit 192 x:=by obtain⟨h1,h2,h3⟩:=h;exact⟨⟨by omega,by omega,by omega⟩,Sm.raw (B:=96) zo zo zo⟩
theorem QW {α:Type}{cG:List α}{Q:α->Prop}{k:Nat}(hk:k<cG.length)(h:∀x∈cG.take k,Q x)(hx:Q cG[k]):∀x∈cG.take (k+1),Q x:=by
 intro x hm;rw[List.take_succ_eq_append_getElem hk,List.mem_append]at hm;rcases hm with hm|hm
 . exact h x hm
 . simp at hm;rw[hm];exact hx
def QG (Q:Prop)(e:Ending):Prop:=∃b,e=.returned (ar b)/\(b=false->Q)
theorem Ry (c:List Raw)(n:Nat)(a:Option Addr)(cv:Nat)(w:World)(hn:c.length=n)(hl:n<=1099511627776)(ha:At w a (c.flatMap cz)):
 Calls Tryz.prog 16 #[.slice a n cv] w λe w'=>QG (∀x∈c,okW x) e/\Bw w w':=by
 obtain⟨gF,Hn⟩:=aZ ha hn;clear ha hn;go_enter Tryz.func16,Tryz.ntmps16;go_wp2_with fail;go_loopw[3] (λx wr=>∃j:Nat,j<=n/\x=ah (j:Int)/\(∀y∈c.take j,okW y)/\Bw w wr) (λx _=>n-(intOf x).toNat);case atStart=>exact⟨0,Nat.zero_le _,rfl,(λy hy=>by simp at hy),Below.refl _ _⟩
 case round=>
  obtain⟨j,hj,rfl,hok,qb⟩:=hrel;by_cases bM:j<n
  . have gK:j<c.length:=by rw[Hn.out];exact bM
    obtain⟨s,m,e,hx⟩:=rZ (c[j]);obtain⟨b1,o1,rfl,p0,p1,p2⟩:=(gF.out.below qb).num j gK hx;have sw:=mG n cv j (j:Int) (rfl:(some ⟨b1,o1,none⟩:Option Addr)=_) bM rfl;have hsz:(bs m).size=m.length:=jd m;obtain⟨jF,EY,uK⟩:=dc qb hok hx;clear qb hok hx;by_cases g:m.length<=12/\ -60<=e/\e<=60
    . obtain⟨g1,g2,g3⟩:=g;have g4:¬(12:Int)<(m.length:Int):=by omega
      have g5:¬e< -60:=by omega
      have g6:¬60<e:=by omega
      go_wp2;go_roundw;case rel=>exact⟨j+1,by omega,by go_num,QW gK EY.out (by rw[uK.out];exact⟨g1,g2,g3⟩),jF.out⟩
      case measure=>simp[intOf];omega
    . rcases (show(12:Int)<(m.length:Int)\/(¬(12:Int)<(m.length:Int)/\e< -60)\/(¬(12:Int)<(m.length:Int)/\¬e< -60/\60<e)by omega)with g1|⟨g1,g2⟩ |⟨g1,g2,g3⟩;all_goals
       clear g
       go_wp2
       refine bodyPost_ret (results_tmp rfl _ _ _) rfl ⟨⟨true,rfl,λh=>by cases h⟩,jF.out⟩
  . obtain rfl:j=n:=by omega
    have hall:∀y∈c,okW y:=by have:=hok;rwa [<-Hn.out,List.take_length]at this
    obtain⟨ov,jF⟩:=aZ hall qb;clear hok hall qb;go_wp2;refine bodyPost_ret (results_tmp rfl _ _ _) rfl ⟨⟨false,rfl,λ_=>ov.out⟩,jF.out⟩
def QH (rows:List (List Raw)):Prop:=rows.length<=4/\∀r∈rows,r.length<=4/\∀x∈r,okW x
theorem av9 (rows:List (List Raw))(L:Nat)(a:Option Addr)(cap:Nat)(w:World)(hL:rows.length=L)(ha:cM w a rows):
 Calls Tryz.prog 7 #[.slice a L cap] w λe w'=>QG (QH rows) e/\Bw w w':=by
 obtain⟨Ha,HL⟩:=aZ ha hL;clear ha hL;have Hb:Hid (Bw w w):=Below.refl _ _;by_cases h5:4<L
 . have RO:(4:Int)<(L:Int):=by omega
   go_enter Tryz.func7,Tryz.ntmps7;go_wp2;refine bodyPost_ret (results_tmp rfl _ _ _) rfl ⟨⟨true,rfl,λh=>by cases h⟩,Hb.out⟩
 have RO:¬(4:Int)<(L:Int):=by omega
 go_enter Tryz.func7,Tryz.ntmps7;go_wp2_with fail;go_loopw[3] (λx wr=>∃j:Nat,j<=L/\x=ah (j:Int)/\(∀y∈rows.take j,y.length<=4/\∀x∈y,okW x)/\Bw w wr) (λx _=>L-(intOf x).toNat);case atStart=>exact⟨0,Nat.zero_le _,rfl,(λy hy=>by simp at hy),Hb.out⟩
 case round=>
  clear Hb;obtain⟨k,hk,rfl,hok,qb⟩:=hrel;by_cases hlt:k<L
  . have hk2:k<rows.length:=by rw[HL.out];exact hlt
    obtain⟨b,o,a1,c1,rfl,hcell,hat⟩:=Ha.out.row k hk2;have bK:=DV L cap k (k:Int) (rfl:(some ⟨b,o,none⟩:Option Addr)=_) hlt rfl;rw[Nat.mul_one]at bK;obtain⟨R,hR⟩:=aK (rows[k]);rw[hR]at hcell hat;obtain⟨n,hn⟩:=aK R.length;rw[hn]at hcell;have SP:=cell_later qb hcell;obtain⟨jF,EY,gF,Hn,HR⟩:=fU qb hok hat hn hR;clear qb hok hat hn hR hcell;by_cases g:4<n
    . have gi:(4:Int)<(n:Int):=by omega
      go_wp2;refine bodyPost_ret (results_tmp rfl _ _ _) rfl ⟨⟨true,rfl,λh=>by cases h⟩,jF.out⟩
    . have gi:¬(4:Int)<(n:Int):=by omega
      go_wp2_with fail;refine(Ry R n a1 c1 _ Hn.out zo (gF.out.below jF.out)).mono ?_;rintro e w5 ⟨⟨v,rfl,hv⟩,ag⟩;obtain⟨Hv,eX⟩:=aZ hv (aV jF.out ag);clear hv ag SP;cases v with
      |true=>go_wp2;refine bodyPost_ret (results_tmp rfl _ _ _) rfl ⟨⟨true,rfl,λh=>by cases h⟩,eX.out⟩
      | false=>
        have Pp:Hid (rows[k].length<=4/\∀x∈rows[k],okW x):=by show _/\_;rw[HR.out];exact⟨by rw[Hn.out];omega,Hv.out rfl⟩
        go_wp2;go_roundw;case rel=>exact⟨k+1,by omega,by go_num,QW hk2 EY.out Pp.out,eX.out⟩
        case measure=>simp[intOf];omega
  . obtain rfl:k=L:=by omega
    have hall:∀y∈rows,y.length<=4/\∀x∈y,okW x:=by have:=hok;rwa [<-HL.out,List.take_length]at this
    have PM:Hid (QH rows):=⟨by rw[HL.out];omega,hall⟩;have jF:=aj qb;clear hok hall qb;go_wp2;refine bodyPost_ret (results_tmp rfl _ _ _) rfl ⟨⟨false,rfl,λ_=>PM.out⟩,jF.out⟩
theorem avS (V:Int)(a:Option Addr)(cap N:Nat)(ts:List aR)(w:World)(hN:ts.length=N)(hn:N<=1000)(hl:∀t∈ts,t.1.length<=1000)(ha:At w a (ts.flatMap aY)):
 Calls Tryz.prog 32 #[.agg #[ah V,.slice a N cap]] w λe w'=>(∃z:Int,e=.returned (ah z))/\Bw w w':=by
 obtain⟨Ha,HN,Hl⟩:=dc ha hN hl;clear ha hN hl;have Hb:Hid (Bw w w):=Below.refl _ _;go_enter Tryz.func32,Tryz.ntmps32;go_wp2_with fail;obtain⟨R,hR⟩:∃R:World->Prop,(λW=>aC W (w.heap.size) 24 [ah V,.slice a N cap]/\Bw w W)=R:=⟨_,rfl⟩;first|refine cj R ?hR ?_|refine cu R ?hR ?_
 case hR=>subst hR;exact⟨(aC.newAt w _ _ (b:=w.heap.size) rfl),zl⟩
 subst hR;rintro W ⟨qp,ag⟩;have Hp:=aj qp;clear qp;obtain⟨p0,p1⟩:=Hp.out.c2;replace Hb:=aF Hb ag;clear ag;have lV:=Hp;have dG:=Hb;go_wp2_with fail;go_loopw[3,4] (λs3 x wr=>∃(k:Nat) (v:Value) (z:Int),k<=N/\x=ah (k:Int)/\v=s3/\v=ah z/\wr=W) (λ_ x _=>N-(intOf x).toNat);case atStart=>exact⟨0,_,0,Nat.zero_le _,rfl,rfl,rfl,rfl⟩
 case round=>
  obtain⟨k,v,z,hk,rfl,rfl,rfl,hw⟩:=hrel;subst hw;by_cases hlt:k<N
  . have hk2:k<ts.length:=by rw[HN.out];exact hlt
    obtain⟨l,s,m,e,hx⟩:∃l s m e,ts[k]=(l,s,m,e):=⟨_,_,_,_,rfl⟩;obtain⟨b,o,rfl,cw⟩:=(Ha.out.below Hb.out).term k hk2 hx;have hl2:=Hl.out _ (List.getElem_mem hk2);rw[hx]at hl2;have bK:=im N cap k (k:Int) (rfl:(some ⟨b,o,none⟩:Option Addr)=_) hlt rfl;obtain⟨n,jf⟩:=aK l.length;have hsz:(bs l).size=n:=by rw[jd,jf]
    have t0:wr.cell? ⟨b,o+k*4,none⟩=some (ai l):=cw.cell 0 zm;obtain⟨mX,Ct⟩:=aZ hl2 jf;clear hl2 jf cw hx;obtain⟨wo,hwo⟩:∃wo,wo=wr:=⟨_,rfl⟩;subst hwo;go_wp2_with fail;go_loopw[5,6] (λs5 x wr=>∃(j:Nat) (v:Value) (y:Int),j<=n/\x=ah (j:Int)/\v=s5/\v=ah y/\wr=wo) (λ_ x _=>n-(intOf x).toNat);case atStart=>exact⟨0,_,0,Nat.zero_le _,rfl,rfl,rfl,rfl⟩
    case round=>
     obtain⟨j,v,y,hj,rfl,rfl,rfl,hw⟩:=hrel;subst hw;by_cases bM:j<n
     . have gK:j<l.length:=by rw[Ct.out];exact bM
       have ix:=vD l (j:Int) j gK rfl;have hnl:n<=1000:=by rw[<-Ct.out];exact mX.out
       go_wp2;go_roundw;case rel=>exact⟨j+1,_,_,by omega,by go_num,rfl,rfl,by first|trivial|rfl⟩
       case measure=>simp[intOf];omega
     . obtain rfl:j=n:=by omega
       go_wp2;go_roundw;case rel=>exact⟨k+1,_,_,by omega,by go_num,rfl,rfl,by first|trivial|rfl⟩
       case measure=>simp[intOf];omega
  . obtain rfl:k=N:=by omega
    go_wp2;refine bodyPost_ret (results_tmp rfl _ _ _) rfl ⟨⟨_,rfl⟩,dG.out⟩
def KC (ts:List aR):Prop:=ts.length<=12/\∀t∈ts,t.1.length<=12/\okW t.2
theorem agG (V:Int)(a:Option Addr)(cap N:Nat)(ts:List aR)(w:World)(hN:ts.length=N)(ha:At w a (ts.flatMap aY)):
 Calls Tryz.prog 6 #[.agg #[ah V,.slice a N cap]] w λe w'=>QG (KC ts) e/\Bw w w':=by
 obtain⟨Ha,HN⟩:=aZ ha hN;clear ha hN;obtain⟨W,dw,Hb,Hp⟩:=jT w 24 [ah V,.slice a N cap];obtain⟨p0,p1⟩:=Hp.out.c2;have lV:=Hp;have dG:=Hb;by_cases h5:12<N
 . have RO:(12:Int)<(N:Int):=by omega
   go_enter Tryz.func6,Tryz.ntmps6;go_wp2;refine bodyPost_ret (results_tmp rfl _ _ _) rfl ⟨⟨true,rfl,λh=>by cases h⟩,Hb.out⟩
 have RO:¬(12:Int)<(N:Int):=by omega
 go_enter Tryz.func6,Tryz.ntmps6;go_wp2_with fail;go_loopw[3] (λx wr=>∃k:Nat,k<=N/\x=ah (k:Int)/\(∀y∈ts.take k,y.1.length<=12/\okW y.2)/\Bw W wr) (λx _=>N-(intOf x).toNat);case atStart=>exact⟨0,Nat.zero_le _,rfl,(λy hy=>by simp at hy),Below.refl _ _⟩
 case round=>
  clear Hb Hp p0 p1;obtain⟨k,hk,rfl,hok,qb⟩:=hrel;have bW:=aV dG.out qb;have Hp:=aj (lV.out.below qb);by_cases hlt:k<N
  . have hk2:k<ts.length:=by rw[HN.out];exact hlt
    obtain⟨l,s,m,e,hx⟩:∃l s m e,ts[k]=(l,s,m,e):=⟨_,_,_,_,rfl⟩;obtain⟨b,o,rfl,cw⟩:=(Ha.out.below bW).term k hk2 hx;have bK:=im N cap k (k:Int) (rfl:(some ⟨b,o,none⟩:Option Addr)=_) hlt rfl;obtain⟨n,jf⟩:=aK l.length;have hsz:(bs l).size=n:=by rw[jd,jf]
    obtain⟨jF,Kw,EY,uK,Ct⟩:=fU bW qb hok hx jf;have Ht:Hid (bY wr b (o+k*4) [ai l,ar s,ai m,ah e]):=cw;clear qb hok hx bW jf cw;have Hb:Hid (Bw wr wr):=Below.refl _ _;obtain⟨p0,p1⟩:=Hp.out.c2;obtain⟨t0,t1,t2,t3⟩:=Ht.out.w4;by_cases g:12<n
    . have gi:(12:Int)<(n:Int):=by omega
      go_wp2;refine bodyPost_ret (results_tmp rfl _ _ _) rfl ⟨⟨true,rfl,λh=>by cases h⟩,jF.out⟩
    . have gi:¬(12:Int)<(n:Int):=by omega
      have FD:=p0;have QD:=p1;have FE:=t0;have FH:=t1;have FI:=t2;have FJ:=t3;have aer:=Hp.out.lt;obtain⟨W4,rp,ag,Hc⟩:=cF wr 48 [ar s,ai m,ah e];clear p0 p1;replace Hp:=kB Hp ag;clear t0 t1 t2 t3;replace Ht:=kW Ht ag;obtain⟨p0,p1⟩:=Hp.out.c2;obtain⟨t0,t1,t2,t3⟩:=Ht.out.w4;obtain⟨c0,c1,c2⟩:=Hc.out.c3;replace Hb:=aF Hb ag;clear ag;go_wp2_with fail;refine(Ry [(s,m,e)] 1 (some ⟨wr.heap.size,0,none⟩) 1 _ rfl zd (At.aBf Hc.out)).mono ?_;rintro e w5 ⟨⟨v,rfl,hv⟩,ag⟩;clear p0 p1 t0 t1 t2 t3 c0 c1 c2;obtain⟨Hp,p0,p1⟩:=bi Hp ag;replace Ht:=kW Ht ag;obtain⟨Hc,c0,c1,c2⟩:=bP Hc ag;obtain⟨t0,t1,t2,t3⟩:=Ht.out.w4;replace Hb:=aF Hb ag;clear ag FD QD FE FH FI FJ;obtain⟨Hv,eX⟩:=aZ hv (Kw.out.trans (Hb.out.mono Kw.out.size));clear hv p0 p1 t0 t1 t2 t3 c0 c1 c2;cases v with
      |true=>go_wp2;refine bodyPost_ret (results_tmp rfl _ _ _) rfl ⟨⟨true,rfl,λh=>by cases h⟩,aV dG.out eX.out⟩
      | false=>
        have Pp:Hid (ts[k].1.length<=12/\okW ts[k].2):=by show _/\_;rw[uK.out];exact⟨by show l.length<=12;rw[Ct.out];omega,Hv.out rfl _ zm⟩
        go_wp2;go_roundw;case rel=>exact⟨k+1,by omega,by go_num,QW hk2 EY.out Pp.out,eX.out⟩
        case measure=>simp[intOf];omega
  . obtain rfl:k=N:=by omega
    have hall:∀y∈ts,y.1.length<=12/\okW y.2:=by have:=hok;rwa [<-HN.out,List.take_length]at this
    have PM:Hid (KC ts):=⟨by rw[HN.out];omega,hall⟩;have uo:=λW (hW:Bw w W)=>avS V a cap k ts W HN.out zo (λt ht=>by have:=(hall t ht).1;omega) (Ha.out.below hW);have ya:=aj uo;have Hb:Hid (Bw w wr):=bW;clear hok hall qb uo bW;obtain⟨p0,p1⟩:=Hp.out.c2;go_wp2_with fail;refine(ya.out _ Hb.out).mono ?_;rintro e w6 ⟨⟨z,rfl⟩,ag⟩;clear p0 p1;obtain⟨Hp,p0,p1⟩:=bi Hp ag;replace Hb:=aF Hb ag;clear ag;go_wp2;refine bodyPost_ret (results_tmp rfl _ _ _) rfl ⟨⟨decide (5<z),rfl,λ_=>PM.out⟩,Hb.out⟩
theorem ad3 (s:Bool)(l:List UInt8)(k:Nat):(nt (iv s l^k).natAbs).length<=l.length*k+1:=by refine jR (Nat.lt_of_le_of_lt (m:=256^(l.length*k)) ?_ (Nat.pow_lt_pow_right zd (Nat.lt_succ_self _)));rw[Int.natAbs_pow,oX,Nat.pow_mul];exact Nat.pow_le_pow_left (Nat.le_of_lt (gz l)) k
theorem awi (s:Bool)(l:List UInt8)(n:Nat)(Z:Int)(hZ:iv s l^n=Z)(w:World)(hl:l.length*n<=1000000000)(hl':l.length<=1000000000)(hn:n<=1000000):
 Calls Tryz.prog 71 #[.agg #[ar s,ai l],ah (n:Int)] w λe w'=>e=.returned (dt Z)/\Bw w w':=by
 have HZ:=aj hZ;clear hZ;have xK:Hid (∀k,k<=n->(nt (iv s l^k).natAbs).length<=1000000001):=λk hk=>by have:=ad3 s l k;have:=Nat.mul_le_mul_left l.length hk;omega
 clear hl;obtain⟨one,hone⟩:∃one:Int,1=one:=⟨_,rfl⟩;have uI:=aj hone;clear hone;obtain⟨W,dw,Hb,Ha,Hr⟩:=mK w 46 [ar s,ai l] 46 [ar false,.string ⟨#[]⟩];obtain⟨a0,a1⟩:=Ha.out.c2;obtain⟨r0,au,r1,az⟩:=Hr.out.g2;go_enter Tryz.func71,Tryz.ntmps71;go_wp2_with fail;refine(Oj 1 one uI.out _ zo zo).mono ?_;rintro e w1 ⟨rfl,ag⟩;clear a0 a1 r0 au r1 az;obtain⟨Ha,a0,a1⟩:=bi Ha ag;obtain⟨Hr,r0,au,r1,az⟩:=bE Hr ag;replace Hb:=aF Hb ag;clear ag;go_wp2_with fail;refine(Ev (nt one.natAbs) (aI one) _).mono ?_;rintro e w2 ⟨rfl,ag⟩;clear a0 a1 r0 au r1 az;obtain⟨Ha,a0,a1⟩:=bi Ha ag;obtain⟨Hr,r0,au,r1,az⟩:=bE Hr ag;replace Hb:=aF Hb ag;clear ag;have ap4:w.heap.size+1<w2.heap.size:=Hr.out.lt;have hmx:max (n:Int) 0=n:=by omega
 have aza:=Ha.out.lt;have xq:=Hr.out.lt;go_wp2_with fail;obtain⟨R,hR⟩:∃R:World->Prop,(λW2=>aC W2 (w2.heap.size) 133 [ai (nt one.natAbs),ar (aI one)]/\Bw w2 W2)=R:=⟨_,rfl⟩;first|refine cj R ?hR ?_|refine cu R ?hR ?_
 case hR=>subst hR;exact⟨(aC.newAt w2 _ _ (b:=w2.heap.size) rfl),zl⟩
 subst hR;rintro W2 ⟨qo,ag⟩;have Ho:=aj qo;clear qo a0 a1;obtain⟨Ha,a0,a1⟩:=bi Ha ag;clear r0 au r1 az;obtain⟨Hr,r0,au,r1,az⟩:=bE Hr ag;obtain⟨o0,dM,o1,dO⟩:=Ho.out.g2;replace Hb:=aF Hb ag;clear ag
 go_loopw[10] (λi wr=>∃(k:Nat) (t:Bool),k<=n/\i=ah k/\iv t (nt (iv s l^k).natAbs)=iv s l^k/\aC wr w.heap.size 46 [ar s,ai l]/\aC wr (w.heap.size+1) 46 [ar false,.string ⟨#[]⟩]/\
  aC wr w2.heap.size 133 [ai (nt (iv s l^k).natAbs),ar t]/\Bw w wr) (λi _=>n-(intOf i).toNat)
 case atStart=>
  have e:iv s l^0=one:=by rw[Int.pow_zero];exact uI.out
  refine⟨0,aI one,Nat.zero_le _,rfl,?_,Ha.out,Hr.out,?_,Hb.out⟩
  . rw[e];exact fT one
  . rw[e];exact Ho.out
 case round=>
  obtain⟨k,t,hk,rfl,rB,qa,qr,qo,hb⟩:=hrel;replace Ha:=aj qa;replace Hr:=aj qr;replace Ho:=aj qo;replace Hb:=aj hb;have ll:=aj rB;clear qa qr qo hb rB a0 a1 r0 r1 au az o0 o1 dM dO;by_cases hlt:k<n
  . have cB:Hid (iv s l^(k+1)=iv s l^k*iv s l):=Int.pow_succ ..;have gW:=aj (xK.out k hk);generalize hS:iv s l^k=S at*;have HS:=aj hS;clear hS;obtain⟨a0,a1⟩:=Ha.out.c2;obtain⟨r0,au,r1,az⟩:=Hr.out.g2;obtain⟨o0,dM,o1,dO⟩:=Ho.out.g2;go_wp2_with fail;refine cg (λw'=>aH w' (w.heap.size) 0 (ar s)/\aH w' (w.heap.size) 1 (ai l)/\aH w' (w2.heap.size) 0 (ai (nt S.natAbs))/\aH w' (w2.heap.size) 1 (ar t)) (λi=>Nat.blt i 4) [(0,true),(1,true),(2,false),(3,false),(4,false)] zk zk rfl zk zc ⟨a0,a1,o0,o1⟩ ?_;iterate 2 (refine pT rfl rfl ?_ (by intro w' ⟨q0,q1,q2,q3⟩;go_simp;try with_reducible rfl);try simp only[UU])
    refine aW rfl rfl (λK hK=>?_);go_simp;with_reducible refine(Ev l s _).mono ?_
    rintro e w3 ⟨rfl,hq⟩;have ag:Bw wr w3:=by first|exact hq|exact bo hq
    clear a0 a1 r0 au r1 az o0 dM o1 dO;obtain⟨Ha,a0,a1⟩:=bi Ha ag;obtain⟨Hr,r0,au,r1,az⟩:=bE Hr ag;obtain⟨Ho,o0,dM,o1,dO⟩:=bE Ho ag;replace Hb:=aF Hb ag;clear ag;refine hK _ _ (λ_=>⟨a0,a1,o0,o1⟩) ?_;clear hK K;try simp only[UU]
    refine aW rfl rfl (λK hK=>?_);go_simp;with_reducible refine(af5 (nt S.natAbs) l t s _ (by have:=gW.out;omega) zo).mono ?_
    rintro e w4 ⟨rfl,hq⟩;have ag:Bw w3 w4:=by first|exact hq|exact bo hq
    clear a0 a1 r0 au r1 az o0 dM o1 dO;obtain⟨Ha,a0,a1⟩:=bi Ha ag;obtain⟨Hr,r0,au,r1,az⟩:=bE Hr ag;obtain⟨Ho,o0,dM,o1,dO⟩:=bE Ho ag;replace Hb:=aF Hb ag;clear ag;refine hK _ _ (λ_=>⟨a0,a1,o0,o1⟩) ?_;clear hK K;try simp only[UU]
    refine aW rfl rfl (λK hK=>?_);go_simp;refine hK _ _ (λh=>absurd h zd) ?_;clear hK K;try simp only[UU]
    clear a0 a1 r0 au r1 az o0 dM o1 dO;refine cn (cm w4 (w2.heap.size) 0 [ai (nt (nv (nt S.natAbs) *nv l)),ar (!(t==s))]) cC ?_;intro W5 hs;replace Ha:=kS Ha hs zo;replace Hr:=kS Hr hs zo;replace Ho:=cX Ho hs;obtain⟨a0,a1⟩:=Ha.out.c2;obtain⟨r0,au,r1,az⟩:=Hr.out.g2;obtain⟨o0,dM,o1,dO⟩:=Ho.out.g2;replace Hb:=bS Hb hs ZS;clear hs;simp only[bD];have hq:=ad4 t (nt S.natAbs) s l;rw[ll.out,<-cB.out]at hq;have hq2:nv (nt S.natAbs) *nv l=(iv s l^(k+1)).natAbs:=by rw[cB.out,Int.natAbs_mul,oX,jz]
    rw[hq2]at hq Ho;have Hq:=aj hq;clear hq hq2 a0 a1 r0 r1 au az o0 o1 dM dO;go_wp2;go_roundw;case rel=>exact⟨k+1,_,by omega,by go_num,Hq.out,Ha.out,Hr.out,Ho.out,Hb.out⟩
    case measure=>simp[intOf];omega
  . obtain rfl:k=n:=by omega
    have gW:=xK.out k hk;rw[HZ.out]at Ho ll gW;obtain⟨a0,a1⟩:=Ha.out.c2;obtain⟨r0,au,r1,az⟩:=Hr.out.g2;obtain⟨o0,dM,o1,dO⟩:=Ho.out.g2;go_wp2_with fail;refine(xt (nt Z.natAbs) t _ zo).mono ?_;rintro e w3 ⟨rfl,ag⟩;clear a0 a1 r0 au r1 az o0 dM o1 dO;obtain⟨Ha,a0,a1⟩:=bi Ha ag;obtain⟨Hr,r0,au,r1,az⟩:=bE Hr ag;obtain⟨Ho,o0,dM,o1,dO⟩:=bE Ho ag;replace Hb:=aF Hb ag;clear ag;rw[ll.out];go_wp2;exact bodyPost_ret (v:=dt Z) (by simp[results,Tryz.results71,go_sem,r0,r1]) rfl ⟨rfl,di⟩
theorem atN (D:Dyadic)(n:Nat):aM (aI (dN D^n),nt (dN D^n).natAbs,dE D* (n:Int))=xD D n:=by
 rw[Au];induction n with
 |zero=>rw[Int.pow_zero,Int.natCast_zero,Int.mul_zero];show Dyadic.ofIntWithPrec 1 (-0)=1;decide+kernel
 |succ n ih=>rw[xD,<-ih];have h:=ux D;rw[show Dyadic.ofIntWithPrec (dN D^n) (-(dE D*n)) *D=Dyadic.ofIntWithPrec (dN D^n) (-(dE D*n)) *Dyadic.ofIntWithPrec (dN D) (-(dE D))by rw[<-h],zr,Int.pow_succ];congr 1;rw[Int.natCast_add,Int.mul_add];omega
theorem am8 (s:Bool)(l:List UInt8)(e:Int)(n:Nat)(D D':Dyadic)(B:Nat)(hD:aM (s,l,e)=D)(hD':xD D n=D')(w:World)(hx:Fit B (s,l,e))(hB:B<=100000)(hn:n<=1000)(hT:aO w):
 Calls Tryz.prog 25 #[.agg #[ar s,ai l,ah e],ah (n:Int)] w λex w'=>ex=.returned (cP D')/\Bw w w':=by
 have hsm:=hx.2;rw[hD]at hsm;obtain⟨p1,p2,p3⟩:=hsm.parts;have hlen:(nt (dN D).natAbs).length<=B:=kR p1 zo;have AR:aM (aI (dN D^n),nt (dN D^n).natAbs,dE D* (n:Int))=D':=by rw[atN,hD']
 have ag:B*n<=100000*1000:=Nat.mul_le_mul hB hn;obtain⟨Z,hZ⟩:=aK (dN D^n);have AK:(nt Z.natAbs).length<=1000000001:=by have:=ad3 (aI (dN D)) (nt (dN D).natAbs) n;rw[fT,hZ]at this;have:=Nat.mul_le_mul_right n hlen;omega
 have he: -1099511627776<=dE D* (n:Int)/\dE D* (n:Int)<=1099511627776:=by
  have h1:(dE D* (n:Int)).natAbs<=100000*1000:=by rw[Int.natAbs_mul];exact Nat.mul_le_mul zo zo
  omega
 rw[hZ]at AR;obtain⟨E,hE⟩:=aK (dE D* (n:Int));rw[hE]at AR he;have hpw:=λW=>awi (aI (dN D)) (nt (dN D).natAbs) n Z (by rw[fT];exact hZ) W (by have:=Nat.mul_le_mul_right n hlen;omega) zo zo;have PY:=aj hpw;have lu:Hid (∀W,aO W->Calls Tryz.prog 59 #[.agg #[ar (aI Z),ai (nt Z.natAbs)],ah E] W λex w'=>ex=.returned (cP D')/\Bw W w'):=λW hW=>yU (aI Z) (nt Z.natAbs) E D' AR W zo he hW;obtain⟨HD,Hx⟩:=aZ hD hx.1;have hwr:IntKind.i64.wrap (dE D*max (n:Int) 0)=E:=by rw[show max (n:Int) 0=n by omega,hE,IntKind.wrap_i64];omega
 have hmx:max (n:Int) 0=n:=by omega
 have ayI:IntKind.i64.wrap (dE D* (n:Int))=E:=by rw[hE,IntKind.wrap_i64];omega
 clear hpw AR AK he hE hlen p1 p2 p3 hsm hx hD hD' ag hZ;obtain⟨W,dw,Hb,Ha,Hr⟩:=mK w 48 [ar s,ai l,ah e] 48 [ar false,.string ⟨#[]⟩,ah 0];obtain⟨a0,vd,a1,ve,a2,vg⟩:=Ha.out.g3;obtain⟨r0,au,r1,az,r2,aJ⟩:=Hr.out.g3;go_enter Tryz.func25,Tryz.ntmps25;go_wp2_with fail;refine(se s l e D HD.out _ Hx.out (by first|exact(hT.below Hb.out) |exact aO.drew (hT.below Hb.out) |exact aO.alloc (hT.below Hb.out) _|exact aO.drew (aO.alloc (hT.below Hb.out) _) |exact aO.alloc (aO.drew (hT.below Hb.out)) _)).mono ?_;rintro e w1 ⟨rfl,ag⟩;clear a0 vd a1 ve a2 vg r0 au r1 az r2 aJ;obtain⟨Ha,a0,vd,a1,ve,a2,vg⟩:=bg Ha ag;obtain⟨Hr,r0,au,r1,az,r2,aJ⟩:=bg Hr ag;replace Hb:=aF Hb ag;clear ag;go_wp2_with fail;clear a0 vd a1 ve a2 vg r0 au r1 az r2 aJ;first|refine cj (cm w1 (w.heap.size) 0 [ar (aI (dN D)),ai (nt (dN D).natAbs),ah (dE D)]) cC ?_|refine cu (cm w1 (w.heap.size) 0 [ar (aI (dN D)),ai (nt (dN D).natAbs),ah (dE D)]) cC ?_
 intro W1 hs;replace Ha:=cX Ha hs;replace Hr:=kS Hr hs zo;obtain⟨a0,vd,a1,ve,a2,vg⟩:=Ha.out.g3;obtain⟨r0,au,r1,az,r2,aJ⟩:=Hr.out.g3;replace Hb:=bS Hb hs ZS;clear hs;refine cg (λw'=>aH w' (w.heap.size) 0 (ar (aI (dN D)))/\aH w' (w.heap.size) 1 (ai (nt (dN D).natAbs))/\aH w' (w.heap.size) 2 (ah (dE D))) (λi=>Nat.blt i 10) [(0,true),(1,true),(2,true),(4,true),(5,true),(6,true),(7,true),(8,true),(3,false),(9,false),(10,false)] zk zk rfl zk zc ⟨a0,a1,a2⟩ ?_;iterate 8 (refine pT rfl rfl ?_ (by intro w' ⟨q0,q1,q2⟩;go_simp;try with_reducible rfl);try simp only[UU])
 refine aW rfl rfl (λK hK=>?_);go_simp;with_reducible refine(PY.out _).mono ?_
 rintro e w2 ⟨rfl,hq⟩;have ag:Bw W1 w2:=by first|exact hq|exact bo hq
 clear a0 vd a1 ve a2 vg r0 au r1 az r2 aJ;obtain⟨Ha,a0,vd,a1,ve,a2,vg⟩:=bg Ha ag;obtain⟨Hr,r0,au,r1,az,r2,aJ⟩:=bg Hr ag;replace Hb:=aF Hb ag;clear ag;refine hK _ _ (λ_=>⟨a0,a1,a2⟩) ?_;clear hK K;try simp only[UU]
 refine aW rfl rfl (λK hK=>?_);go_simp;with_reducible refine(lu.out _ (by first|exact(hT.below Hb.out) |exact aO.drew (hT.below Hb.out) |exact aO.alloc (hT.below Hb.out) _|exact aO.drew (aO.alloc (hT.below Hb.out) _) |exact aO.alloc (aO.drew (hT.below Hb.out)) _)).mono ?_
 rintro e w3 ⟨rfl,hq⟩;have ag:Bw w2 w3:=by first|exact hq|exact bo hq
 clear a0 vd a1 ve a2 vg r0 au r1 az r2 aJ;obtain⟨Ha,a0,vd,a1,ve,a2,vg⟩:=bg Ha ag;obtain⟨Hr,r0,au,r1,az,r2,aJ⟩:=bg Hr ag;replace Hb:=aF Hb ag;clear ag;refine hK _ _ (λ_=>⟨a0,a1,a2⟩) ?_;clear hK K;try simp only[UU]
 refine aW rfl rfl (λK hK=>?_);go_simp;refine hK _ _ (λh=>absurd h zd) ?_;clear hK K;try simp only[UU]
 clear a0 vd a1 ve a2 vg r0 au r1 az r2 aJ;refine cn (cm w3 (w.heap.size+1) 0 [ar (aI (dN D')),ai (nt (dN D').natAbs),ah (dE D')]) cC ?_;intro W4 hs;replace Ha:=kS Ha hs zo;replace Hr:=cX Hr hs;obtain⟨a0,vd,a1,ve,a2,vg⟩:=Ha.out.g3;obtain⟨r0,au,r1,az,r2,aJ⟩:=Hr.out.g3;replace Hb:=bS Hb hs ZS;clear hs;simp only[bD];go_wp2;exact bodyPost_ret (v:=cP D') (by simp[results,Tryz.results25,go_sem,r0,r1,r2]) rfl ⟨rfl,di⟩
end Go.Proofs.YtnjfebkelecgaaaGreatDoor
