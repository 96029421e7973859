/- Package simp: Products. -/
import Derived.Test.YtnjfebkelecgaaaGreatDoorZ11
import Derived.Test.YtnjfebkelecgaaaGreatDoorZ15
import Derived.Maps.AppendAt
import Derived.Maps.OwnIn
import Derived.Test.YtnjfebkelecgaaaGreatDoorZ9
import Derived.Maps.Own
import Derived.Maps.Views
import Derived.Maps.Keyed
import Derived.Maps.OwnSet
import Derived.Carry
import Derived.Lib.BufferWrite
import Derived.Deep.WholeRow
import Derived.Test.YtnjfebkelecgaaaGreatDoorZ12
set_option linter.all false
set_option maxRecDepth 100000
set_option maxHeartbeats 16000000
namespace Go.Proofs.YtnjfebkelecgaaaGreatDoor
open Go.RowKit Go.Shelf
def Tryz.aF5 :(Tryz.prog.info? 9).map (λi=>(i.zero,i.size,i.bytes))=some (some (.string (bs [])),1,16):=by kernel_rfl
def Kw (v d:Int):List (List Nat):=if 1<=v/\v<=8/\0<=d/\d<=20/\cnt v.toNat d.toNat<=512 then bK (v.toNat+1) d.toNat else[]
def XN (b n₀:Nat)(pre:List (List Nat))(Z:Nat->Prop)(W:World):Prop:=
 ∃v,au W b 53 [v]/\n₀<=b/\n₀<=W.heap.size/\W.ownsRow n₀ 9 1 v pre.length (pre.map λx=>.string (ex x))/\Z=λk=>k=b\/v.ownBlock=some k
def axi (b n₀:Nat)(pre:List (List Nat)):xp (XN b n₀ pre):=by rintro Z W W' ⟨v,hB,h1,h2,ho,rfl⟩ hc;exact⟨v,hc.blk hB (λh=>h (.inl rfl)),h1,Nat.le_trans h2 hc.size,CN ho hc (λk hk h=>h (.inr hk)),rfl⟩
def axh (b n₀:Nat)(pre:List (List Nat)):GJ (XN b n₀ pre):=by
 rintro Z W ⟨v,hB,h1,h2,ho,rfl⟩ k (rfl|hk)
 . exact hB.lt
 . exact(ho.lt k hk).2
attribute [local go_sem] Oper.semAt_some
def axm (V D:Nat)(w:World)(hV:1<=V)(hV2:V<=8)(hD:D<=20)(hc:cnt V D<=512):
 Cl 21 #[ah (V:Int),ah (D:Int)] w λe w'=>∃v,e=.returned v/\w'.ownsRow w.heap.size 9 1 v (bK (V+1) D).length ((bK (V+1) D).map λx=>.string (ex x))/\Bw w w':=by
 obtain⟨i0,hi,hz0,hz1,hz2⟩:=info_parts Tryz.aF5;have hcl:(bK (V+1) D).length<=512:=by rw[nS];exact hc
 have oD:decide (1<=(V:Int)/\(V:Int)<=8/\0<=(D:Int)/\(D:Int)<=20)=true:=by simp;omega
 have hw1:IntKind.i64.wrap ((V:Int)+1)=((V+1:Nat):Int):=by rw[IntKind.wrap_i64];omega
 have hmin:((min (cnt (V+1-1) D) 513:Nat):Int)<=512:=by rw[Nat.add_sub_cancel];omega
 generalize hM:((min (cnt (V+1-1) D) 513:Nat):Int)=M at hmin;generalize hV1:((V+1:Nat):Int)=V1 at hw1;refine callsIn_wide (n:=0).1 ?_;refine callsIn_of_wp_marks Tryz.func21 rfl trivial ?_ rfl;simp only[Tryz.ntmps21,List.size_toArray,List.length_cons,List.length_nil,Nat.reduceAdd,Nat.reduceSub,Array.replicate_succ,Array.replicate_zero,List.push_toArray,List.append_toArray,List.nil_append,List.cons_append];gi_wp2
 refine⟨trivial,rfl,?_⟩;refine(callsIn_wide.2 (Ki V D w)).mono ?_;rintro e w' ⟨rfl,rfl⟩;rw[oD];gi_wp2
 refine⟨trivial,rfl,?_⟩;rw[<-hV1];refine(callsIn_wide.2 (Pw (V+1) D w' zo zo hD)).mono ?_;rintro e w ⟨rfl,rfl⟩;rw[hM,hV1];gi_wp2
 refine⟨trivial,rfl,?_⟩;obtain⟨W0,hW0⟩:=aK (w.alloc (.cells #[.slice none 0 0] 53));have mz:au W0 w.heap.size 53 [.slice none 0 0]:=by rw[<-hW0];exact au.new _ _ _
 have Jb:Bw w W0:=by rw[<-hW0];exact zl
 rw[hW0];refine(callsIn_wide.2 (aie V1 D W0)).mono ?_;rintro e w1 ⟨rfl,bX,eO,vO⟩;have hl0:=mz.lt;have hl2:=eO.lt;gi_wp2
 refine ajy (gf:=108) (lb:=#[.pointer (some ⟨W0.heap.size,0,none⟩),.pointer (some ⟨W0.heap.size+1,0,none⟩)]) rfl (enters_of Tryz.func108 zk rfl)
  (ayi V zo W0.heap.size (W0.heap.size+1) D zo) (λ_=>rfl) (XN w.heap.size w.heap.size) (axi _ _) (axh _ _)
  (λb=>b=w.heap.size\/(Value.slice none 0 0).ownBlock=some b) ?h0 ?hok ?a1 ?assign ?body ?done
 case a1=>exact λx=>{tmps:=#[ah (V:Int),ah (D:Int),undef,undef,.slice none 0 0,.pointer (some ⟨w.heap.size,0,none⟩),.string (ex x),ah (V:Int),ah (D:Int),aj true,aj false,aj false,ah (V:Int),ah V1,ah (D:Int),ah M,aj (decide (512<M)),aj (decide (512<M)),ah (V:Int),ah V1,ah (D:Int),.func (.func 108) #[] #[.pointer (some ⟨W0.heap.size,0,none⟩),.pointer (some ⟨W0.heap.size+1,0,none⟩)],.string (ex x),undef,undef,undef,undef,undef],defers:=[]}
 case h0=>exact⟨_,mz.below vO,Nat.le_refl _,Nat.le_trans Jb.size vO.size,World.ownsRow_nil _ _ _ _,rfl⟩
 case hok=>
  intro W1 hg;have hbb:Bw w1 W1:=⟨hg.os,hg.tape,hg.output,hg.size,λk hk=>hg.block k hk (λe=>by cases e)⟩;refine⟨by rw[hV1];exact bX.below hbb,eO.below hbb,?_,?_⟩
  . rintro((h|h) |h|h)
    . omega
    . simp[Value.ownBlock]at h
    . omega
    . omega
  . rintro((h|h) |h|h)
    . omega
    . simp[Value.ownBlock]at h
    . omega
    . omega
 case assign=>
  intro m' l' x W' K hK;gi_wp2
  exact hK
 case body=>
  rintro m' l' pre x Zb Wb ⟨v,hBb,ny,jo,ho,rfl⟩ hpre hzb atz;have aC5:pre.length+1<=512:=by have:=hpre.length_le;simp at this;omega
  obtain⟨X,hX⟩:=aK (ex x);rw[hX];have HX:=ar hX;clear hX;obtain⟨W2,hW2⟩:=aK (Wb.alloc (.cells #[.string X] 9));have hb2:Bw Wb W2:=by rw[<-hW2];exact zl
  have Uz:au W2 Wb.heap.size 9 [.string X]:=by rw[<-hW2];exact au.new _ _ _
  have eP:W2.ownsRow w.heap.size 9 1 v pre.length (pre.map λx=>.string (ex x)):=by rw[<-hW2];exact ho.alloc _
  have adg:=hBb.below hb2;have c0:Wb.cell? ⟨w.heap.size,0,none⟩=some v:=hBb.cell 0;have lb:=hBb.lt;have hnews:∀j u,([.string X]:List Value)[j]?=some u->W2.cell? ((⟨Wb.heap.size,0,none⟩:Addr).add j)=some u:=by
   intro j u hj;cases j with
   |zero=>simp at hj;subst hj;exact Uz.cell 0
   |succ j=>simp at hj
  have hbv:some w.heap.size≠v.ownBlock:=Boxed.not_row (t:=53) hBb zd ho;gi_wp2_with (gi_at_builtin;refine wpListIn_append_own_at _ rfl _ _ 53 rfl w.heap.size 9 i0 (.string (bs [])) 1 16 Tryz.underlying53 hi hz0 hz1 hz2 rfl zd v pre.length _ rfl eP ⟨Wb.heap.size,0,none⟩ 1 1 [.string X] rfl rfl hnews zy zx zo (by have:=hb2.size;omega) ?_;intro v' w3 uK hg3 _ gY;obtain⟨g',cap',rfl⟩:=ownsRow_succ uK;have sP:au w3 w.heap.size 53 [v]:=(hg3.block w.heap.size adg.lt hbv).trans adg;have c3:w3.cell? ⟨w.heap.size,0,none⟩=some v:=sP.cell 0;have f3:w3.frozen? ⟨w.heap.size,0,none⟩=false:=sP.free 0)
  have hnb:some w.heap.size≠(Value.slice (some ⟨g',0,none⟩) (pre.length+1) cap').ownBlock:=Boxed.not_row (t:=53) sP zd uK;refine⟨_,⟨_,sP.set 0 _,ny,?_,?_,rfl⟩,?_,?_⟩
  . exact Nat.le_trans jo (Nat.le_trans hb2.size (Nat.le_trans hg3.size (grownBy_setCell' w3 _ _).size))
  . have:=uK.kept (grownBy_setCell' w3 w.heap.size (Value.slice (some ⟨g',0,none⟩) (pre.length+1) cap')) (.inr hnb.symm);rw[<-HX.out]at this;simpa using this
  . refine((Chg.of_below hb2).trans (Chg.aFL (Y:=λk=>k=w.heap.size\/v.ownBlock=some k) hg3 (λb e=>.inr e)) (λb h=>.inl h)).trans (Chg.aFL (Y:=λk=>k=w.heap.size\/v.ownBlock=some k) (grownBy_setCell' w3 w.heap.size _) (λb e=>by cases e;exact .inl rfl)) (λb h=>.inl h)
  . rintro k (h|h)
    . exact .inl (.inl h)
    . rcases gY with h1|h1
      . rw[h1]at h;exact .inl (.inr h)
      . rw[h1]at h;cases h;exact .inr hb2.size
 case done=>
  rintro W3 ⟨Z3,⟨⟨v,hBb,ny,jo,ho,rfl⟩,hK,hz3⟩,hc3,hz4⟩;have c0:W3.cell? ⟨w.heap.size,0,none⟩=some v:=hBb.cell 0;obtain⟨a0,DU,rfl,hat,_⟩:=dS ho;gi_wp2
  refine agW [w1.heap.size] W3 zm (λD hD=>by simp at hD;subst hD;exact hK) (λw' hc=>?_);refine⟨_,results_tmp rfl _ _ _,_,rfl,CN ho hc (λk hk hm=>?_),?_⟩
  . simp at hm;subst hm;rcases hz3 _ (.inr hk)with(h1|h1) |h1
    . omega
    . simp[Value.ownBlock]at h1
    . omega
  . have b1:Below w.heap.size w1 W3:=hc3.below zo (λb h=>by rcases h with h|h;omega;simp[Value.ownBlock]at h);have b2:Below w.heap.size W3 w':=hc.below jo (λb h=>by simp at h;omega);exact((Jb.trans (vO.mono zo)).trans b1).trans b2
section
attribute [local go_sem ↓] Go.wp_at_zero Go.wp_at_succ
def axn (v d:Int)(w:World)(h:¬(1<=v/\v<=8/\0<=d/\d<=20)):
 Cl 21 #[ah v,ah d] w λe w'=>e=.returned (.slice none 0 0)/\w'=w:=by
 have h1:decide (1<=v/\v<=8/\0<=d/\d<=20)=false:=decide_eq_false h;go_enter Tryz.func21,Tryz.ntmps21;go_wp2_with fail;refine(Ki v d w).mono ?_;rintro e w' ⟨rfl,rfl⟩;rw[h1];go_wp2;go_ret;exact⟨rfl,rfl⟩
def axl (V D:Nat)(w:World)(hV:1<=V)(hV2:V<=8)(hD:D<=20)(hc:¬cnt V D<=512):
 Cl 21 #[ah (V:Int),ah (D:Int)] w λe w'=>e=.returned (.slice none 0 0)/\w'=w:=by
 have oD:decide (1<=(V:Int)/\(V:Int)<=8/\0<=(D:Int)/\(D:Int)<=20)=true:=by simp;omega
 have hw1:IntKind.i64.wrap ((V:Int)+1)=((V+1:Nat):Int):=by rw[IntKind.wrap_i64];omega
 have hmin:((min (cnt (V+1-1) D) 513:Nat):Int)=513:=by rw[Nat.add_sub_cancel];omega
 generalize hV1:((V+1:Nat):Int)=V1 at hw1;go_enter Tryz.func21,Tryz.ntmps21;go_wp2_with fail;refine(Ki V D w).mono ?_;rintro e w' ⟨rfl,rfl⟩;rw[oD];go_wp2_with fail;rw[<-hV1];refine(Pw (V+1) D w' zo zo hD).mono ?_;rintro e w ⟨rfl,rfl⟩;rw[hmin];go_wp2;go_ret;exact⟨rfl,rfl⟩
end
def axk (v d:Int)(w:World):
 Cl 21 #[ah v,ah d] w λe w'=>∃a cap,e=.returned (.slice a (Kw v d).length cap)/\At w' a ((Kw v d).map λx=>.string (ex x))/\(∀b o,a=some ⟨b,o,none⟩->w.heap.size<=b)/\Bw w w':=by
 unfold Kw;by_cases h:1<=v/\v<=8/\0<=d/\d<=20
 . obtain⟨V,rfl⟩:∃V:Nat,v=V:=⟨v.toNat,by omega⟩;obtain⟨D,rfl⟩:∃D:Nat,d=D:=⟨d.toNat,by omega⟩;simp only[Int.toNat_natCast];by_cases hc:cnt V D<=512
   . rw[if_pos ⟨h.1,h.2.1,h.2.2.1,h.2.2.2,hc⟩];refine(axm V D w zo zo zo hc).mono ?_;rintro e w' ⟨v,rfl,ho,hb⟩;obtain⟨a,cap,rfl,hat,hba⟩:=dS ho;exact⟨a,cap,rfl,hat,hba,hb⟩
   . rw[if_neg (λh2=>hc h2.2.2.2.2)];refine(axl V D w zo zo zo hc).mono ?_;rintro e w' ⟨rfl,rfl⟩;exact⟨none,0,rfl,At.nil _ _,(λb o e=>by cases e),Below.refl _ _⟩
 . rw[if_neg (λh2=>h ⟨h2.1,h2.2.1,h2.2.2.1,h2.2.2.2.1⟩)];refine(axn v d w h).mono ?_;rintro e w' ⟨rfl,rfl⟩;exact⟨none,0,rfl,At.nil _ _,(λb o e=>by cases e),Below.refl _ _⟩
end Go.Proofs.YtnjfebkelecgaaaGreatDoor
namespace Go.Proofs.YtnjfebkelecgaaaGreatDoor
open Go.RowKit
attribute [local go_sem ↓] Go.wp_at_zero Go.wp_at_succ
def GY (v d:Int)(n:Nat):Int:=if ¬(1<=v/\v<=8/\0<=d/\d<=20)then 1 else if 512<cnt v.toNat d.toNat then 3 else if n=cnt v.toNat d.toNat then 0 else 1
def aca (v d:Int)(a:Option Addr)(n cap:Nat)(c:Int)(hc:GY v d n=c)(w:World):
 Cv 61 #[.agg #[ah v,ah d,.slice a n cap]] w (ah c):=by
 by_cases h:1<=v/\v<=8/\0<=d/\d<=20
 . have h1:decide (1<=v/\v<=8/\0<=d/\d<=20)=true:=decide_eq_true h;obtain⟨V,rfl⟩:∃V:Nat,v=V:=⟨v.toNat,by omega⟩;obtain⟨D,rfl⟩:∃D:Nat,d=D:=⟨d.toNat,by omega⟩;have hw1:IntKind.i64.wrap ((V:Int)+1)=((V+1:Nat):Int):=by rw[IntKind.wrap_i64];omega
   obtain⟨V1,hV1⟩:=aK ((V+1:Nat):Int);obtain⟨M,hM⟩:=aK ((min (cnt (V+1-1) D) 513:Nat):Int);have Gf:Hid (∀W,Cv 43 #[ah V1,ah (D:Int)] W (ah M)):=λW=>by rw[<-hV1,<-hM];exact(Pw (V+1) D W zo zo zo).mono (λe w' h=>⟨h.1,by rw[h.2];exact Below.refl _ _⟩)
   rw[hV1]at hw1;unfold GY at hc;rw[if_neg (by simp only[Decidable.not_not];exact h)]at hc;simp only[Int.toNat_natCast]at hc;rw[Nat.add_sub_cancel]at hM;have mO:=ar (Ki V D);by_cases hb:512<cnt V D
   . have uv:M=513:=by omega
     rw[if_pos hb]at hc;subst uv;subst hc;clear hM h;go_enter Tryz.func61,Tryz.ntmps61;have Hb:=hbz w;go_wp2_with fail;have q:=fK w 34 [ah V,ah D,.slice a n cap];first|refine cd _ q ?_|refine cw _ q ?_
     clear q;rintro W ⟨Hx,ag⟩;obtain⟨x0,x1,x2⟩:=Hx.out.c3;replace Hb:=az Hb ag;go_wp2_with fail;refine(mO.out W).mono ?_;rintro e w1 ⟨rfl,rfl⟩;rw[h1];go_wp2_with fail;refine(Gf.out _).mono ?_;rintro e w2 ⟨rfl,ag⟩;obtain⟨Hx,x0,x1,x2⟩:=cm Hx ag;replace Hb:=az Hb ag;go_wp2;go_ret;exact⟨rfl,Hb.out⟩
   . have uv:M=(cnt V D:Int):=by omega
     have Em:M<=512:=by omega
     rw[if_neg hb]at hc;by_cases he:n=cnt V D
     . rw[if_pos he]at hc;subst hc;have hnM:(n:Int)=M:=by omega
       clear hM h uv hb he;go_enter Tryz.func61,Tryz.ntmps61;have Hb:=hbz w;go_wp2_with fail;have q:=fK w 34 [ah V,ah D,.slice a n cap];first|refine cd _ q ?_|refine cw _ q ?_
       clear q;rintro W ⟨Hx,ag⟩;obtain⟨x0,x1,x2⟩:=Hx.out.c3;replace Hb:=az Hb ag;go_wp2_with fail;refine(mO.out W).mono ?_;rintro e w1 ⟨rfl,rfl⟩;rw[h1];go_wp2_with fail;refine(Gf.out _).mono ?_;rintro e w2 ⟨rfl,ag⟩;obtain⟨Hx,x0,x1,x2⟩:=cm Hx ag;replace Hb:=az Hb ag;go_wp2_with fail;refine bV (λw'=>aF w' (w.heap.size) 0 (ah V)/\aF w' (w.heap.size) 1 (ah D)/\aF w' (w.heap.size) 2 (.slice a n cap)) (λi=>Nat.blt i 100000) [(0,true),(1,true),(2,true),(3,true),(4,true),(5,true),(6,true),(7,true),(8,false),(9,true),(10,true)] zk zk rfl zk zc ⟨x0,x1,x2⟩ ?_;iterate 8 (refine pT rfl rfl ?_ (by intro w' ⟨q0,q1,q2⟩;go_simp;try with_reducible rfl);try simp only[UU])
       refine aR rfl rfl (λK hK=>?_);go_simp;with_reducible refine(Gf.out _).mono ?_
       rintro e w3 ⟨rfl,hq⟩;have ag:Bw w2 w3:=by first|exact hq|exact bo hq
       obtain⟨Hx,x0,x1,x2⟩:=cm Hx ag;replace Hb:=az Hb ag;refine hK _ _ (λ_=>⟨x0,x1,x2⟩) ?_;try simp only[UU]
       iterate 2 (refine pT rfl rfl ?_;try simp only[UU])
       simp only[bu];go_wp2;go_ret;exact⟨rfl,Hb.out⟩
     . rw[if_neg he]at hc;subst hc;have hnM:¬(n:Int)=M:=by omega
       have aCZ:((n:Int) !=M)=true:=by simp[hnM]
       clear hM h uv hb he;go_enter Tryz.func61,Tryz.ntmps61;have Hb:=hbz w;go_wp2_with fail;have q:=fK w 34 [ah V,ah D,.slice a n cap];first|refine cd _ q ?_|refine cw _ q ?_
       clear q;rintro W ⟨Hx,ag⟩;obtain⟨x0,x1,x2⟩:=Hx.out.c3;replace Hb:=az Hb ag;go_wp2_with fail;refine(mO.out W).mono ?_;rintro e w1 ⟨rfl,rfl⟩;rw[h1];go_wp2_with fail;refine(Gf.out _).mono ?_;rintro e w2 ⟨rfl,ag⟩;obtain⟨Hx,x0,x1,x2⟩:=cm Hx ag;replace Hb:=az Hb ag;go_wp2_with fail;refine bV (λw'=>aF w' (w.heap.size) 0 (ah V)/\aF w' (w.heap.size) 1 (ah D)/\aF w' (w.heap.size) 2 (.slice a n cap)) (λi=>Nat.blt i 100000) [(0,true),(1,true),(2,true),(3,true),(4,true),(5,true),(6,true),(7,true),(8,false),(9,true),(10,true)] zk zk rfl zk zc ⟨x0,x1,x2⟩ ?_;iterate 8 (refine pT rfl rfl ?_ (by intro w' ⟨q0,q1,q2⟩;go_simp;try with_reducible rfl);try simp only[UU])
       refine aR rfl rfl (λK hK=>?_);go_simp;with_reducible refine(Gf.out _).mono ?_
       rintro e w3 ⟨rfl,hq⟩;have ag:Bw w2 w3:=by first|exact hq|exact bo hq
       obtain⟨Hx,x0,x1,x2⟩:=cm Hx ag;replace Hb:=az Hb ag;refine hK _ _ (λ_=>⟨x0,x1,x2⟩) ?_;try simp only[UU]
       iterate 2 (refine pT rfl rfl ?_;try simp only[UU])
       simp only[bu];go_wp2;go_ret;exact⟨rfl,Hb.out⟩
 . have h1:decide (1<=v/\v<=8/\0<=d/\d<=20)=false:=decide_eq_false h;unfold GY at hc;rw[if_pos h]at hc;subst hc;have mO:=ar (Ki v d);clear h;go_enter Tryz.func61,Tryz.ntmps61;have Hb:=hbz w;go_wp2_with fail;have q:=fK w 34 [ah v,ah d,.slice a n cap];first|refine cd _ q ?_|refine cw _ q ?_
   clear q;rintro W ⟨Hx,ag⟩;obtain⟨x0,x1,x2⟩:=Hx.out.c3;replace Hb:=az Hb ag;go_wp2_with fail;refine(mO.out W).mono ?_;rintro e w1 ⟨rfl,rfl⟩;rw[h1];go_wp2;go_ret;exact⟨rfl,Hb.out⟩
end Go.Proofs.YtnjfebkelecgaaaGreatDoor
namespace Go.Proofs.YtnjfebkelecgaaaGreatDoor
open Go.RowKit
def Tryz.aGa (w:World):(zeroValue 3).run Tryz.prog w=.ok (ah 0) w:=by obtain⟨i0,hi,hz0,hz1,hz2⟩:=info_parts (show(Tryz.prog.info? 3).map (λi=>(i.zero,i.size,i.bytes))=some (some (ah 0),1,8)by kernel_rfl);simp[zeroValue,typeInfo,hi,hz0]
def Mp (W:World)(b n:Nat)(f:List UInt8->Nat):Prop:=
 ∃D:DataW Unit,W.ownsMap Tryz.prog 9 (plainElem Tryz.prog 3) b n D/\Maps.IsMap D/\∀l,D.atKey (.string l) (.lit (.int .i64 0))=.lit (.int .i64 (f l:Int))
def Mp.made (w:World):Mp (w.alloc (.map #[] 0)) w.heap.size 0 (λ_=>0):=
 ⟨.map [],World.ownsMap_made w _ _ _,⟨_,rfl⟩,λ_=>rfl⟩
def Mp.lt {W:World}{b n:Nat}{f:List UInt8->Nat}(h:Mp W b n f):b<W.heap.size:=by obtain⟨D,h1,_⟩:=h;exact h1.lt
def Mp.kept {W W':World}{b n:Nat}{f:List UInt8->Nat}{r:Option Nat}(h:Mp W b n f)(hg:W.grownBy W' r)(hne:some b≠r):Mp W' b n f:=by obtain⟨D,h1,h2⟩:=h;exact⟨D,h1.kept hg hne,h2⟩
def Mp.below {W W':World}{b n:Nat}{f:List UInt8->Nat}(h:Mp W b n f)(hb:Bw W W'):Mp W' b n f:=
 h.kept (r:=none) ⟨hb.os,hb.tape,hb.output,hb.size,λk hk _=>hb.block k hk⟩ zm
def kM {w w':World}{b n:Nat}{f:List UInt8->Nat}(h:Hid (Mp w b n f))(k:Bw w w'):Hid (Mp w' b n f):=h.out.below k
def agT (l:List UInt8)(hl:l.length<=maxLen):keyOf Tryz.prog 9 (ai l)=some (.string l):=by have:=WideMaps.keyOf_string_mk (P:=Tryz.prog) Tryz.underlying9 (s:=bs l) (by rw[iH];exact hl);exact this
def Mp.look {W:World}{b n:Nat}{f:List UInt8->Nat}(h:Mp W b n f)(l:List UInt8)(hl:l.length<=maxLen):
 (Instr.lookup 160 (.map (some b)) (ai l) false).run Tryz.prog W=.ok (ah (f l:Int)) W:=by
 obtain⟨D,h1,h2,h3⟩:=h;obtain⟨c,hrun,hat,hwc⟩:=h1.lookup_int (t:=160) (e:=3) (q:=.i64) (Maps.string_keyed Tryz.underlying9) Tryz.underlying160 Tryz.underlying3 (Tryz.aGa W) (agT l hl);rw[h3 l]at hat;cases hat
 exact hrun
def Mp.put {W:World}{b n:Nat}{f:List UInt8->Nat}(h:Mp W b n f)(hn:n<maxLen)(l:List UInt8)(hl:l.length<=maxLen)(i:Nat)(hi:i<9223372036854775808):
 ∃w',(Instr.mapUpdate 160 (.map (some b)) (ai l) (ah (i:Int))).run Tryz.prog W=.ok () w'/\Mp w' b (n+1) (λl'=>if l'=l then i else f l')/\W.grownBy w' (some b):=by
 obtain⟨D,h1,h2,h3⟩:=h
 obtain⟨w',hrun,ho,hg⟩:=h1.update (t:=160) (e:=3) (Maps.string_keyed Tryz.underlying9) Tryz.underlying160 hn (agT l hl) (plainElem_int Tryz.underlying3 (show(Lit.int .i64 (i:Int)).wf=true by
  have h1:IntKind.i64.min= -9223372036854775808:=rfl;have h2:IntKind.i64.max=9223372036854775807:=rfl
  simp[Lit.wf];omega))
 refine⟨w',hrun,⟨_,ho,ho.isMap,λl'=>?_⟩,hg⟩;show _=DataW.lit (Lit.int .i64 ((if l'=l then i else f l':Nat):Int))
 by_cases e:l'=l
 . subst e;rw[if_pos rfl,Maps.atKey_put_same h2 (by simp[WideAt.IsKeyLit])]
 . rw[if_neg e,Maps.atKey_put_other (by intro h;cases h;exact e rfl)];exact h3 l'
end Go.Proofs.YtnjfebkelecgaaaGreatDoor
namespace Go.Proofs.YtnjfebkelecgaaaGreatDoor
open Go.RowKit
attribute [local go_sem ↓] Go.wp_at_zero Go.wp_at_succ
def Mp.set {W:World}{b n:Nat}{f:List UInt8->Nat}(h:Mp W b n f)(a:Addr)(hne:b≠a.block)(u:Value):Mp (W.setCell a u) b n f:=by obtain⟨D,h1,h2⟩:=h;exact⟨D,h1.setCell hne u,h2⟩
def place (xs:List (List UInt8)):Nat->List UInt8->Nat
 |0,_=>0
 |k+1,l=>if l=xs.getD k []then k else place xs k l
def awX (xs:List (List UInt8))(k:Nat)(hk:k<xs.length):place xs (k+1)=λl=>if l=xs[k]then k else place xs k l:=by
 funext l
 simp[place,hk]
def Ec {α:Type}(f:α->Value)(xs:List α):xs.flatMap (λx=>[f x])=xs.map f:=by
 induction xs with
 |nil=>rfl
 |cons x xs ih=>simp[ih]
def GW (l:List UInt8):List Value:=l.map λu=>.int .u8 (u.toNat:Int)
def apC (l:List UInt8):GW l=dw l.length (λj=>(l.getD j 0).toNat):=by
 apply List.ext_getElem?;intro j;by_cases h:j<l.length
 . rw[mL _ _ _ h];simp[GW,h]
 . simp[GW,dw,h]
def azM {w:World}{b:Nat}{t:TypeId}{l:List UInt8}(h:au w b t (GW l))(cap:Nat):
 (convert 84 9 (.slice (some ⟨b,0,none⟩) l.length cap)).run Tryz.prog w=.ok (ai l) w:=by
 rw[apC]at h;rw[vp h cap];congr 2;congr 1;apply List.ext_getElem?;intro j;by_cases h:j<l.length
 . simp[h]
 . simp[h]
def ug (ds:List Dyadic)(i:Nat)(x:Dyadic):List Dyadic:=ds.set i (ds.getD i 0+x)
def GP (ds:List Dyadic)(i:Nat)(x:Dyadic):(ug ds i x).length=ds.length:=by simp[ug]
def aob {B:Nat}{ds:List Dyadic}(h:∀d∈ds,Sm B d)(i:Nat){x:Dyadic}(hx:Sm B x):∀d∈ug ds i x,Sm (B+1) d:=by
 intro d hd;unfold ug at hd;rcases List.mem_or_eq_of_mem_set hd with h1|h1
 . exact(h d h1).mono zo
 . subst h1;by_cases hi:i<ds.length
   . have e:ds.getD i 0=ds[i]:=by simp[hi]
     rw[e];exact Sm.add (h _ (List.getElem_mem hi)) hx
   . have e:ds.getD i 0=0:=by simp[hi]
     rw[e];exact Sm.add (Sm.zero _) hx
def Chg.tab {Y:Nat->Prop}{w w':World}(h:Chg Y w w')(hT:aM w)(hy:¬Y 0):aM w':=λj hj=>h.cell (hT j hj) hy
def Chg.mp {Y:Nat->Prop}{w w':World}(h:Chg Y w w'){b n:Nat}{f:List UInt8->Nat}(hm:Mp w b n f)(hy:¬Y b):Mp w' b n f:=by obtain⟨D,⟨es,clock,hb,F,hs,hD⟩,h2⟩:=hm;exact⟨D,⟨es,clock,(h.block b (Array.getElem?_eq_some_iff.1 hb).1 hy).trans hb,F,hs,hD⟩,h2⟩
def awY (a:Option Addr)(cap N:Nat)(xs:List (List UInt8))(hN:xs.length=N)(hx:N<=512)(hlen:∀l∈xs,l.length<=255)(w:World)(hat:At w a (xs.map λl=>Value.string (bs l))):
 Cl 127 #[.slice a N cap] w λe w'=>∃bm,e=.returned (.map (some bm))/\(Mp w' bm N (place xs N)/\w.heap.size<=bm)/\Bw w w':=by
 subst hN;obtain⟨fW,lj⟩:=aZ hat hlen;clear hat hlen;have hmm:=@run_makeMap Tryz.prog;go_enter Tryz.func127,Tryz.ntmps127;go_wp2_with fail;refine cd (λW2=>Mp W2 w.heap.size 0 (λ_=>0)/\Bw w W2) ⟨Mp.made w,zl⟩ ?_;rintro W2 ⟨qm,hb2⟩;go_loopw[9] (λi wr=>∃k:Nat,k<=xs.length/\i=ah (k:Int)/\Mp wr w.heap.size k (place xs k)/\Bw w wr) (λi _=>xs.length-(intOf i).toNat);case atStart=>exact⟨0,Nat.zero_le _,rfl,qm,hb2⟩
 case round=>
  obtain⟨k,hk,rfl,pm,hb3⟩:=hrel;by_cases hlt:k<xs.length
  . have jR:=fW.out.below hb3;have vN:At wr a (xs.flatMap λl=>[Value.string (bs l)]):=by rw[Ec];exact jR
    obtain⟨b,o,hab,hcs⟩:=vN.elem (f:=λl=>[Value.string (bs l)]) (sz:=1) (λ_=>rfl) zd k hlt;have hc0:wr.cell? ⟨b,o+k,none⟩=some (.string (bs xs[k])):=by simpa using hcs 0 zd
    have bD:=vZ xs.length cap k (k:Int) hab hlt rfl;have hl0:=lj.out _ (List.getElem_mem hlt);obtain⟨w4,hput,hm4,hg4⟩:=pm.put zx xs[k] zx k zo;rw[<-awX xs k hlt]at hm4;rw[Nat.mul_one]at bD;go_wp2;go_roundw;case rel=>refine⟨k+1,by omega,by go_num,hm4,?_⟩;exact hb3.grown hg4 (by have:=hb3.size;omega) (λj e=>by cases e;exact Nat.le_refl _)
    case measure=>exact bI
  . obtain rfl:k=xs.length:=by omega
    go_wp2;refine bodyPost_ret (results_tmp rfl _ _ _) rfl ⟨_,rfl,⟨pm,Nat.le_refl _⟩,hb3⟩
def aiB (bB n i B:Nat)(ds:List Dyadic)(s:Bool)(m:List UInt8)(e:Int)(D:Dyadic)(w:World)
 (hn:ds.length=n) (hB:au w bB 48 (dC ds)) (hid:i<ds.length)
 (hx:Fit B (s,m,e)) (hd:Sm B ds[i]) (hBB:B+2<=268435456) (hD:ds[i]+aJ (s,m,e)=D) (hT:aM w):
 Cl 45 #[.slice (some ⟨bB,0,none⟩) n n,ah (i:Int),.agg #[aj s,ai m,ah e]] w λex w'=>
  (∃r,ex=.returned r)/\au w' bB 48 (dC (ds.set i D))/\w.grownBy w' (some bB):=by
 subst hn;have Hg:=ar (bH.num hB i hid);have HD:Hid (aJ (aC (dN ds[i]),nt (dN ds[i]).natAbs,dE ds[i])+aJ (s,m,e)=D):=by show aJ (canon ds[i])+_=_;rw[cp];exact hD
 have Hfg:Hid (Fit B (aC (dN ds[i]),nt (dN ds[i]).natAbs,dE ds[i])):=hd.fit zo;have fO:=ar hx;have lB:=hB.lt;clear hD hd hx;obtain⟨g,hg⟩:=aK (ds[i]);rw[hg]at Hg HD Hfg;clear hg;obtain⟨W,hW⟩:=aK (w.alloc (.cells #[aj s,ai m,ah e] 48));have Hb:Hid (Bw w W):=by rw[<-hW];exact zl
 have Hc:Hid (au W w.heap.size 48 [aj s,ai m,ah e]):=by rw[<-hW];exact au.newAt _ _ _ zm
 obtain⟨HT,HBW⟩:=aZ (hT.below Hb.out) (hB.below Hb.out);replace Hg:=ar (Hg.out.below Hb.out);have bD:=WJ ds.length ds.length i (i:Int) (rfl:(some ⟨bB,0,none⟩:Option Addr)=_) hid rfl;rw[Nat.zero_add]at bD;go_enter Tryz.func45,Tryz.ntmps45;obtain⟨c0,c1,c2⟩:=Hc.out.c3;obtain⟨g0,g1,g2⟩:=Hg.out.w3;go_wp2_with fail;refine bV (λw'=>aF w' (w.heap.size) 0 (aj s)/\aF w' (w.heap.size) 1 (ai m)/\aF w' (w.heap.size) 2 (ah e)/\aF w' bB (i*3) (aj (aC (dN g)))/\aF w' bB (i*3+1) (ai (nt (dN g).natAbs))/\aF w' bB (i*3+2) (ah (dE g))) (λi=>Nat.blt i 10) [(0,true),(1,true),(2,true),(3,true),(4,true),(5,true),(6,true),(7,false),(8,false),(9,true),(10,false)] zk zk rfl zk zc ⟨c0,c1,c2,g0,g1,g2⟩ ?_;iterate 7 (refine pT rfl rfl ?_ (by intro w' ⟨q0,q1,q2,q3,q4,q5⟩;go_simp;try with_reducible rfl);try simp only[UU])
 refine aR rfl rfl (λK hK=>?_);go_simp;refine hK _ _ (λ_=>⟨aV c0,aV c1,aV c2,aV g0,aV g1,aV g2⟩) ?_;try simp only[UU]
 refine bZ (λW3=>au W3 (W.heap.size) 48 [aj (aC (dN g)),ai (nt (dN g).natAbs),ah (dE g),aj s,ai m,ah e]/\Bw W W3) (by first|exact eo|exact eu) ?_;rintro W3 ⟨qa,ag⟩;have Pk:=Hc.out.lt;replace Hc:=kB Hc ag;replace Hg:=kW Hg ag;have Ha:=ar qa;clear qa;obtain⟨c0,c1,c2⟩:=Hc.out.c3;obtain⟨g0,g1,g2⟩:=Hg.out.w3;obtain⟨a0,a1,a2,a3,a4,a5⟩:=Ha.out.c6;replace Hb:=az Hb ag;refine aR rfl rfl (λK hK=>?_);go_simp;with_reducible refine(DW (aC (dN g)) (nt (dN g).natAbs) (dE g) s m e D B HD.out W.heap.size 2 48 _ Hfg.out fO.out hBB Ha.out (by first|exact(hT.below Hb.out) |exact aM.drew (hT.below Hb.out) |exact aM.alloc (hT.below Hb.out) _|exact aM.drew (aM.alloc (hT.below Hb.out) _) |exact aM.alloc (aM.drew (hT.below Hb.out)) _)).mono ?_
 rintro e w3 ⟨rfl,hq⟩;have ag:Bw W3 w3:=by first|exact hq|exact bo hq
 obtain⟨Hc,c0,c1,c2⟩:=cm Hc ag;replace Hg:=kW Hg ag;obtain⟨Ha,a0,a1,a2,a3,a4,a5⟩:=kR Ha ag;obtain⟨g0,g1,g2⟩:=Hg.out.w3;replace Hb:=az Hb ag;refine hK _ _ (λ_=>⟨c0,c1,c2,g0,g1,g2⟩) ?_;try simp only[UU]
 refine pT rfl rfl ?_;try simp only[UU]
 refine aR rfl rfl (λK hK=>?_);go_simp;have sP:=hB.below Hb.out;have z0:w3.frozen? ⟨bB,i*3,none⟩=false:=sP.free _;have z1:w3.frozen? ⟨bB,i*3+1,none⟩=false:=sP.free _;have z2:w3.frozen? ⟨bB,i*3+2,none⟩=false:=sP.free _;go_simp;refine hK _ _ (λh=>absurd h zd) ?_;simp only[bu];go_end0
 refine⟨⟨_,rfl⟩,?_,?_⟩
 . have:=((sP.set (i*3) (aj (aC (dN D)))).set (i*3+1) (ai (nt (dN D).natAbs))).set (i*3+2) (ah (dE D));rw[acx]at this;exact this
 . have q:=Hb.out;refine⟨q.os,q.tape,q.output,?_,λk hk hne=>?_⟩
   . exact Nat.le_trans q.size zm
   . have hkb:k≠bB:=λe=>hne (by rw[e]);refine((Below.heap_setCell _ _ _ k hkb).trans ((Below.heap_setCell _ _ _ k hkb).trans (Below.heap_setCell _ _ _ k hkb))).trans (q.block k hk)
def At.chg {Y:Nat->Prop}{w w':World}{a:Option Addr}{cs:List Value}(h:At w a cs)(hc:Chg Y w w')(hy:∀b o,a=some ⟨b,o,none⟩->¬Y b):At w' a cs:=by
 rcases h with h|⟨b,o,ha,hcs⟩
 . exact .inl h
 . refine .inr ⟨b,o,ha,λj hj=>?_⟩;have h1:=hcs j hj;rw[List.getElem?_eq_getElem hj]at h1⊢;exact hc.cell h1 (hy b o ha)
end Go.Proofs.YtnjfebkelecgaaaGreatDoor
namespace Go.Proofs.YtnjfebkelecgaaaGreatDoor
def kV (n s:Nat)(x:List Nat):x∈bK (n+1) s↔x.length=n+1/\x.sum=s:=by
 induction n generalizing s x with
 | zero=>
   simp only[bK,List.mem_singleton];constructor
   . rintro rfl;simp
   . rintro⟨h1,h2⟩;match x,h1,h2 with
     |[a],_,h2=>simp at h2;rw[h2]
 | succ n ih=>
   simp only[bK,List.mem_flatMap,List.mem_map,List.mem_range];constructor
   . rintro⟨i,hi,y,hy,rfl⟩;obtain⟨h1,h2⟩:=(ih i y).1 hy;exact⟨by simp[h1],by simp[h2];omega⟩
   . rintro⟨h1,h2⟩;match x,h1,h2 with
     |a::y,h1,h2=>simp at h1 h2;exact⟨y.sum,by omega,y,(ih _ y).2 ⟨by omega,rfl⟩,by congr 1;omega⟩
def PR (n s:Nat):(bK (n+1) s).Nodup:=by
 induction n generalizing s with
 |zero=>simp[bK]
 | succ n ih=>
   unfold bK List.Nodup;rw[List.pairwise_flatMap];refine⟨λi _=>?_,?_⟩
   . rw[List.pairwise_map];exact(ih i).imp (λh e=>h (by simpa using e))
   . have h0:(List.range (s+1)).Pairwise (·<·):=List.pairwise_lt_range;refine List.Pairwise.imp_of_mem ?_ h0;intro a b ha hb hab x hx y hy e;rw[List.mem_range]at ha hb;rw[List.mem_map]at hx hy;obtain⟨_,_,rfl⟩:=hx;obtain⟨_,_,rfl⟩:=hy;simp at e;omega
def bytes_inj {x y:List Nat}(hx:∀a∈x,a<=255)(hy:∀a∈y,a<=255)(h:x.map UInt8.ofNat=y.map UInt8.ofNat):x=y:=by
 induction x generalizing y with
 | nil=>cases y with
   |nil=>rfl
   |cons b y=>simp at h
 | cons a x ih=>cases y with
   |nil=>simp at h
   |cons b y=>simp only[List.map_cons,List.cons.injEq]at h;have h1:=congrArg UInt8.toNat h.1;simp at h1;have:=hx a zm;have:=hy b zm;rw[ih (λc hc=>hx c (by simp[hc])) (λc hc=>hy c (by simp[hc])) h.2];congr 1;omega
def Fb {x:List Nat}{a:Nat}(h:a∈x):a<=x.sum:=by
 induction x with
 |nil=>cases h
 | cons b x ih=>
   rw[List.mem_cons]at h;rcases h with rfl|h
   . simp
   . have:=ih h;simp;omega
def aif {n s:Nat}(hs:s<=255){x:List Nat}(h:x∈bK (n+1) s):∀a∈x,a<=255:=by intro a ha;have:=Fb ha;have:=((kV n s x).1 h).2;omega
def auq {n s:Nat}(hs:s<=255):((bK (n+1) s).map λx=>x.map UInt8.ofNat).Nodup:=by unfold List.Nodup;rw[List.pairwise_map];refine List.Pairwise.imp_of_mem ?_ (PR n s);intro a b ha hb hab e;exact hab (bytes_inj (aif hs ha) (aif hs hb) e)
def awV (xs:List (List UInt8))(hn:xs.Nodup)(k q:Nat)(hq:q<k)(hk:k<=xs.length):place xs k (xs[q]'zo)=q:=by
 induction k with
 |zero=>omega
 | succ k ih=>
   rw[place];have e:xs.getD k []=xs[k]:=by simp[show k<xs.length by omega]
   rw[e];by_cases h:q=k
   . subst h;simp
   . rw[if_neg (λe2=>h (PC hn e2)),ih zo zo]
def awW {n s:Nat}(hs:s<=255){x:List Nat}(h:x∈bK (n+1) s):
 ∃q,∃h:q<(bK (n+1) s).length,(bK (n+1) s)[q]=x/\place ((bK (n+1) s).map λx=>x.map UInt8.ofNat) (bK (n+1) s).length (x.map UInt8.ofNat)=q:=by
 obtain⟨q,hq,rfl⟩:=List.mem_iff_getElem.1 h;refine⟨q,hq,rfl,?_⟩;have:=awV _ (auq (n:=n) hs) (bK (n+1) s).length q hq zm;simpa using this
def mK (f:List UInt8->Nat)(ds:List Dyadic)(ps:ju):List Dyadic:=ps.foldl (λds p=>ug ds (f (p.1.map UInt8.ofNat)) p.2) ds
def axt (f:List UInt8->Nat)(ds:List Dyadic)(a b:ju):mK f ds (a++b)=mK f (mK f ds a) b:=by simp[mK]
def axv (f:List UInt8->Nat)(ds:List Dyadic)(ps:ju):(mK f ds ps).length=ds.length:=by
 induction ps generalizing ds with
 |nil=>rfl
 |cons p ps ih=>exact(ih _).trans (GP _ _ _)
def axw {B:Nat}(f:List UInt8->Nat)(ds:List Dyadic)(ps:ju)(hd:∀d∈ds,Sm B d)(hp:∀p∈ps,Sm B p.2):∀d∈mK f ds ps,Sm (B+ps.length) d:=by
 induction ps generalizing ds B with
 |nil=>exact hd
 |cons p ps ih=>have:=ih (B:=B+1) (ug ds (f (p.1.map UInt8.ofNat)) p.2) (aob hd _ (hp p zm)) (λq hq=>(hp q (by simp[hq])).mono zo);intro d hdd;have h1:=this d hdd;simp only[List.length_cons];rw[show B+(ps.length+1)=B+1+ps.length by omega];exact h1
def axu (R:List (List Nat))(hR:R.Nodup)(f:List UInt8->Nat)(hf:∀x∈R,∃q,∃h:q<R.length,R[q]=x/\f (x.map UInt8.ofNat)=q)(ps:ju)(hp:∀p∈ps,p.1∈R)(ds:List Dyadic)(hd:ds.length=R.length):
 mK f ds ps=List.zipWith (·+·) ds (qR R ps):=by
 induction ps generalizing ds with
 |nil=>apply List.ext_getElem (by simp[mK,qR,hd]);intro k h1 h2;simp[mK,qR,un,mH]
 | cons p ps ih=>
   have e:mK f ds (p::ps)=mK f (ug ds (f (p.1.map UInt8.ofNat)) p.2) ps:=rfl;rw[e,ih (λq hq=>hp q (by simp[hq])) _ (by rw[GP,hd])];obtain⟨q,hq,e1,e2⟩:=hf _ (hp p zm);rw[e2];apply List.ext_getElem (by simp[qR,GP]);intro k h1 h2;have hk:k<ds.length:=by simp[qR,GP]at h1;omega
   simp only[qR,List.getElem_zipWith,List.getElem_map];have e3:(ug ds q p.2)[k]'(by rw[GP];exact hk)=ds[k]+p.2*delta (R[k]'zo) p.1:=by
    unfold ug delta;rw[List.getElem_set];by_cases h:q=k
    . subst h;rw[if_pos rfl,if_pos e1.symm];simp[hk];grind
    . rw[if_neg h,if_neg (λh2=>h (PC hR (e1.trans h2)))];grind
   rw[e3];unfold un;simp only[mH];grind
def axx (R:List (List Nat))(hR:R.Nodup)(f:List UInt8->Nat)(hf:∀x∈R,∃q,∃h:q<R.length,R[q]=x/\f (x.map UInt8.ofNat)=q)(ps:ju)(hp:∀p∈ps,p.1∈R):
 mK f (List.replicate R.length 0) ps=qR R ps:=by
 rw[axu R hR f hf ps hp _ zm];apply List.ext_getElem (by simp[qR]);intro k h1 h2;simp
def at5 (x:List Nat)(k:Nat)(hk:k<x.length):(x.map UInt8.ofNat).set k ((x.map UInt8.ofNat).getD k 0+1)=(kQ x k).map UInt8.ofNat:=by unfold kQ;rw[List.map_set];congr 1;simp[hk]
end Go.Proofs.YtnjfebkelecgaaaGreatDoor
namespace Go.Proofs.YtnjfebkelecgaaaGreatDoor
open Go.RowKit
attribute [local go_sem ↓] Go.wp_at_zero Go.wp_at_succ
def ve (P:Nat->ju)(k:Nat):ju:=(List.range k).flatMap P
def ahX (P:Nat->ju)(k:Nat):ve P (k+1)=ve P k++P k:=by unfold ve;rw[List.range_succ,List.flatMap_append];simp
def ahW (P:Nat->ju)(N n k:Nat)(hk:k<=n)(h:∀k,k<n->(P k).length<=N):(ve P k).length<=k*N:=by
 induction k with
 |zero=>simp[ve]
 |succ k ih=>rw[ahX,List.length_append,Nat.add_mul,Nat.one_mul];have:=ih zo;have:=h k zo;omega
def ahV {Q:List Nat×Dyadic->Prop}(P:Nat->ju)(n k:Nat)(hk:k<=n)(h:∀k,k<n->∀p∈P k,Q p):∀p∈ve P k,Q p:=by intro p hp;unfold ve at hp;rw[List.mem_flatMap]at hp;obtain⟨q,hq,hp⟩:=hp;rw[List.mem_range]at hq;exact h q zo p hp
def Chg.set {Y:Nat->Prop}{W W':World}(h:Chg Y W W'){a:Addr}(hy:Y a.block)(v:Value):Chg Y W (W'.setCell a v):=
 h.trans (Chg.aFL (Y:=Y) (grownBy_set (w:=W') (a:=a) a.block rfl v) (λ_ e=>by cases e;exact hy)) (λ_ h=>.inl h)
def Chg.drew {Y:Nat->Prop}{W W':World}(h:Chg Y W W'):Chg Y W W'.drew:=⟨h.os,h.tape,h.output,h.size,h.block⟩
def Chg.aFM {Y:Nat->Prop}{A B C:World}(h:Chg Y A B)(k:Bw B C):Chg Y A C:=h.trans (Chg.of_below (Y:=Y) k) (λ_ h=>.inl h)
def okW (x:Raw):Prop:=x.2.1.length<=12/\ -60<=x.2.2/\x.2.2<=60
def Xv {x:Raw}(h:okW x):Fit 192 x:=by obtain⟨h1,h2,h3⟩:=h;exact⟨⟨by omega,by omega,by omega⟩,Sm.raw (B:=96) zo zo zo⟩
def Tw {α:Type}{cJ:List α}{Q:α->Prop}{k:Nat}(hk:k<cJ.length)(h:∀x∈cJ.take k,Q x)(hx:Q cJ[k]):∀x∈cJ.take (k+1),Q x:=by
 intro x hm;rw[List.take_succ_eq_append_getElem hk,List.mem_append]at hm;rcases hm with hm|hm
 . exact h x hm
 . simp at hm;rw[hm];exact hx
def SZ (Q:Prop)(e:Ending):Prop:=∃b,e=.returned (aj b)/\(b=false->Q)
def Ud (c:List Raw)(n:Nat)(a:Option Addr)(cv:Nat)(w:World)(hn:c.length=n)(hl:n<=1099511627776)(ha:At w a (c.flatMap bG)):
 Cl 16 #[.slice a n cv] w λe w'=>SZ (∀x∈c,okW x) e/\Bw w w':=by
 obtain⟨fW,Hn⟩:=aZ ha hn;clear ha hn;go_enter Tryz.func16,Tryz.ntmps16;go_wp2_with fail;go_loopw[3] (λx wr=>∃j:Nat,j<=n/\x=ah (j:Int)/\(∀y∈c.take j,okW y)/\Bw w wr) (λx _=>n-(intOf x).toNat);case atStart=>exact⟨0,Nat.zero_le _,rfl,(λy hy=>by simp at hy),Below.refl _ _⟩
 case round=>
  obtain⟨j,hj,rfl,hok,qb⟩:=hrel;by_cases bC:j<n
  . have fZ:j<c.length:=by rw[Hn.out];exact bC
    obtain⟨s,m,e,hx⟩:=pJ (c[j]);obtain⟨b1,o1,rfl,p0,p1,p2⟩:=(fW.out.below qb).num j fZ hx;have sV:=kP n cv j (j:Int) (rfl:(some ⟨b1,o1,none⟩:Option Addr)=_) bC rfl;have hsz:(bs m).size=m.length:=iH m;obtain⟨jM,Gj,vF⟩:=cX qb hok hx;clear qb hok hx;by_cases g:m.length<=12/\ -60<=e/\e<=60
    . obtain⟨g1,g2,g3⟩:=g;have g4:¬(12:Int)<(m.length:Int):=by omega
      have g5:¬e< -60:=by omega
      have g6:¬60<e:=by omega
      go_wp2;go_roundw;case rel=>exact⟨j+1,by omega,by go_num,Tw fZ Gj.out (by rw[vF.out];exact⟨g1,g2,g3⟩),jM.out⟩
      case measure=>exact bI
    . rcases (show(12:Int)<(m.length:Int)\/(¬(12:Int)<(m.length:Int)/\e< -60)\/(¬(12:Int)<(m.length:Int)/\¬e< -60/\60<e)by omega)with g1|⟨g1,g2⟩ |⟨g1,g2,g3⟩;all_goals
       clear g
       go_wp2
       refine bodyPost_ret (results_tmp rfl _ _ _) rfl ⟨⟨true,rfl,λh=>by cases h⟩,jM.out⟩
  . obtain rfl:j=n:=by omega
    have hall:∀y∈c,okW y:=by have:=hok;rwa [<-Hn.out,List.take_length]at this
    obtain⟨pn,jM⟩:=aZ hall qb;clear hok hall qb;go_wp2;refine bodyPost_ret (results_tmp rfl _ _ _) rfl ⟨⟨false,rfl,λ_=>pn.out⟩,jM.out⟩
def Ta (rows:List (List Raw)):Prop:=rows.length<=4/\∀r∈rows,r.length<=4/\∀x∈r,okW x
def az9 (rows:List (List Raw))(L:Nat)(a:Option Addr)(cap:Nat)(w:World)(hL:rows.length=L)(ha:cZ w a rows):
 Cl 7 #[.slice a L cap] w λe w'=>SZ (Ta rows) e/\Bw w w':=by
 obtain⟨Ha,HL⟩:=aZ ha hL;clear ha hL;have Hb:=hbz w;by_cases h5:4<L
 . have Un:(4:Int)<(L:Int):=by omega
   go_enter Tryz.func7,Tryz.ntmps7;go_wp2;refine bodyPost_ret (results_tmp rfl _ _ _) rfl ⟨⟨true,rfl,λh=>by cases h⟩,Hb.out⟩
 have Un:¬(4:Int)<(L:Int):=by omega
 go_enter Tryz.func7,Tryz.ntmps7;go_wp2_with fail;go_loopw[3] (λx wr=>∃j:Nat,j<=L/\x=ah (j:Int)/\(∀y∈rows.take j,y.length<=4/\∀x∈y,okW x)/\Bw w wr) (λx _=>L-(intOf x).toNat);case atStart=>exact⟨0,Nat.zero_le _,rfl,(λy hy=>by simp at hy),Hb.out⟩
 case round=>
  clear Hb;obtain⟨k,hk,rfl,hok,qb⟩:=hrel;by_cases hlt:k<L
  . have hk2:k<rows.length:=by rw[HL.out];exact hlt
    obtain⟨b,o,a1,c1,rfl,hcell,hat⟩:=Ha.out.row k hk2;have bD:=Ai L cap k (k:Int) (rfl:(some ⟨b,o,none⟩:Option Addr)=_) hlt rfl;rw[Nat.mul_one]at bD;obtain⟨R,hR⟩:=aK (rows[k]);rw[hR]at hcell hat;obtain⟨n,hn⟩:=aK R.length;rw[hn]at hcell;have Vl:=cell_later qb hcell;obtain⟨jM,Gj,fW,Hn,HR⟩:=fU qb hok hat hn hR;clear qb hok hat hn hR hcell;by_cases g:4<n
    . have gi:(4:Int)<(n:Int):=by omega
      go_wp2;refine bodyPost_ret (results_tmp rfl _ _ _) rfl ⟨⟨true,rfl,λh=>by cases h⟩,jM.out⟩
    . have gi:¬(4:Int)<(n:Int):=by omega
      go_wp2_with fail;refine(Ud R n a1 c1 _ Hn.out zo (fW.out.below jM.out)).mono ?_;rintro e w5 ⟨⟨v,rfl,hv⟩,ag⟩;obtain⟨Hv,eX⟩:=aZ hv (aO jM.out ag);clear hv ag Vl;cases v with
      |true=>go_wp2;refine bodyPost_ret (results_tmp rfl _ _ _) rfl ⟨⟨true,rfl,λh=>by cases h⟩,eX.out⟩
      | false=>
        have Rz:Hid (rows[k].length<=4/\∀x∈rows[k],okW x):=by show _/\_;rw[HR.out];exact⟨by rw[Hn.out];omega,Hv.out rfl⟩
        go_wp2;go_roundw;case rel=>exact⟨k+1,by omega,by go_num,Tw hk2 Gj.out Rz.out,eX.out⟩
        case measure=>exact bI
  . obtain rfl:k=L:=by omega
    have hall:∀y∈rows,y.length<=4/\∀x∈y,okW x:=by have:=hok;rwa [<-HL.out,List.take_length]at this
    have RU:Hid (Ta rows):=⟨by rw[HL.out];omega,hall⟩;have jM:=ar qb;clear hok hall qb;go_wp2;refine bodyPost_ret (results_tmp rfl _ _ _) rfl ⟨⟨false,rfl,λ_=>RU.out⟩,jM.out⟩
def azP (V:Int)(a:Option Addr)(cap N:Nat)(ts:List aQ)(w:World)(hN:ts.length=N)(hn:N<=1000)(hl:∀t∈ts,t.1.length<=1000)(ha:At w a (ts.flatMap aY)):
 Cl 32 #[.agg #[ah V,.slice a N cap]] w λe w'=>(∃z:Int,e=.returned (ah z))/\Bw w w':=by
 obtain⟨Ha,HN,Hl⟩:=cX ha hN hl;clear ha hN hl;have Hb:=hbz w;go_enter Tryz.func32,Tryz.ntmps32;go_wp2_with fail;have q:=fK w 24 [ah V,.slice a N cap];first|refine cd _ q ?_|refine cw _ q ?_
 clear q;rintro W ⟨Hp,ag⟩;obtain⟨p0,p1⟩:=Hp.out.c2;replace Hb:=az Hb ag;have mQ:=Hp;have dY:=Hb;go_wp2_with fail;go_loopw[3,4] (λs3 x wr=>∃(k:Nat) (v:Value) (z:Int),k<=N/\x=ah (k:Int)/\v=s3/\v=ah z/\wr=W) (λ_ x _=>N-(intOf x).toNat);case atStart=>exact⟨0,_,0,Nat.zero_le _,rfl,rfl,rfl,rfl⟩
 case round=>
  obtain⟨k,v,z,hk,rfl,rfl,rfl,hw⟩:=hrel;subst hw;by_cases hlt:k<N
  . have hk2:k<ts.length:=by rw[HN.out];exact hlt
    obtain⟨l,s,m,e,hx⟩:∃l s m e,ts[k]=(l,s,m,e):=⟨_,_,_,_,rfl⟩;obtain⟨b,o,rfl,cj⟩:=(Ha.out.below Hb.out).term k hk2 hx;have hl2:=Hl.out _ (List.getElem_mem hk2);rw[hx]at hl2;have bD:=gJ N cap k (k:Int) (rfl:(some ⟨b,o,none⟩:Option Addr)=_) hlt rfl;obtain⟨n,jo⟩:=aK l.length;have hsz:(bs l).size=n:=by rw[iH,jo]
    have t0:wr.cell? ⟨b,o+k*4,none⟩=some (ai l):=cj.cell 0 zm;obtain⟨od,Du⟩:=aZ hl2 jo;clear hl2 jo cj hx;obtain⟨wo,hwo⟩:∃wo,wo=wr:=⟨_,rfl⟩;subst hwo;go_wp2_with fail;go_loopw[5,6] (λs5 x wr=>∃(j:Nat) (v:Value) (y:Int),j<=n/\x=ah (j:Int)/\v=s5/\v=ah y/\wr=wo) (λ_ x _=>n-(intOf x).toNat);case atStart=>exact⟨0,_,0,Nat.zero_le _,rfl,rfl,rfl,rfl⟩
    case round=>
     obtain⟨j,v,y,hj,rfl,rfl,rfl,hw⟩:=hrel;subst hw;by_cases bC:j<n
     . have fZ:j<l.length:=by rw[Du.out];exact bC
       have ix:=uO l (j:Int) j fZ rfl;have hnl:n<=1000:=by rw[<-Du.out];exact od.out
       go_wp2;go_roundw;case rel=>exact⟨j+1,_,_,by omega,by go_num,rfl,rfl,by first|trivial|rfl⟩
       case measure=>exact bI
     . obtain rfl:j=n:=by omega
       go_wp2;go_roundw;case rel=>exact⟨k+1,_,_,by omega,by go_num,rfl,rfl,by first|trivial|rfl⟩
       case measure=>exact bI
  . obtain rfl:k=N:=by omega
    go_wp2;refine bodyPost_ret (results_tmp rfl _ _ _) rfl ⟨⟨_,rfl⟩,dY.out⟩
def Tb (ts:List aQ):Prop:=ts.length<=12/\∀t∈ts,t.1.length<=12/\okW t.2
def aAr (V:Int)(a:Option Addr)(cap N:Nat)(ts:List aQ)(w:World)(hN:ts.length=N)(ha:At w a (ts.flatMap aY)):
 Cl 6 #[.agg #[ah V,.slice a N cap]] w λe w'=>SZ (Tb ts) e/\Bw w w':=by
 obtain⟨Ha,HN⟩:=aZ ha hN;clear ha hN;obtain⟨W,dK,Hb,Hp⟩:=jD w 24 [ah V,.slice a N cap];obtain⟨p0,p1⟩:=Hp.out.c2;have mQ:=Hp;have dY:=Hb;by_cases h5:12<N
 . have Un:(12:Int)<(N:Int):=by omega
   go_enter Tryz.func6,Tryz.ntmps6;go_wp2;refine bodyPost_ret (results_tmp rfl _ _ _) rfl ⟨⟨true,rfl,λh=>by cases h⟩,Hb.out⟩
 have Un:¬(12:Int)<(N:Int):=by omega
 go_enter Tryz.func6,Tryz.ntmps6;go_wp2_with fail;go_loopw[3] (λx wr=>∃k:Nat,k<=N/\x=ah (k:Int)/\(∀y∈ts.take k,y.1.length<=12/\okW y.2)/\Bw W wr) (λx _=>N-(intOf x).toNat);case atStart=>exact⟨0,Nat.zero_le _,rfl,(λy hy=>by simp at hy),Below.refl _ _⟩
 case round=>
  clear Hb Hp p0 p1;obtain⟨k,hk,rfl,hok,qb⟩:=hrel;have bQ:=aO dY.out qb;have Hp:=ar (mQ.out.below qb);by_cases hlt:k<N
  . have hk2:k<ts.length:=by rw[HN.out];exact hlt
    obtain⟨l,s,m,e,hx⟩:∃l s m e,ts[k]=(l,s,m,e):=⟨_,_,_,_,rfl⟩;obtain⟨b,o,rfl,cj⟩:=(Ha.out.below bQ).term k hk2 hx;have bD:=gJ N cap k (k:Int) (rfl:(some ⟨b,o,none⟩:Option Addr)=_) hlt rfl;obtain⟨n,jo⟩:=aK l.length;have hsz:(bs l).size=n:=by rw[iH,jo]
    obtain⟨jM,Mc,Gj,vF,Du⟩:=fU bQ qb hok hx jo;have Ht:Hid (bH wr b (o+k*4) [ai l,aj s,ai m,ah e]):=cj;clear qb hok hx bQ jo cj;have Hb:=hbz wr;obtain⟨p0,p1⟩:=Hp.out.c2;obtain⟨t0,t1,t2,t3⟩:=Ht.out.w4;by_cases g:12<n
    . have gi:(12:Int)<(n:Int):=by omega
      go_wp2;refine bodyPost_ret (results_tmp rfl _ _ _) rfl ⟨⟨true,rfl,λh=>by cases h⟩,jM.out⟩
    . have gi:¬(12:Int)<(n:Int):=by omega
      have Kp0:=p0;have Kp1:=p1;have Ml:=t0;have Mm:=t1;have Mn:=t2;have Mo:=t3;have ahe:=Hp.out.lt;obtain⟨W4,ov,ag,Hc⟩:=cE wr 48 [aj s,ai m,ah e];replace Hp:=kB Hp ag;replace Ht:=kW Ht ag;obtain⟨p0,p1⟩:=Hp.out.c2;obtain⟨t0,t1,t2,t3⟩:=Ht.out.w4;obtain⟨c0,c1,c2⟩:=Hc.out.c3;replace Hb:=az Hb ag;go_wp2_with fail;refine(Ud [(s,m,e)] 1 (some ⟨wr.heap.size,0,none⟩) 1 _ rfl zd (At.aFK Hc.out)).mono ?_;rintro e w5 ⟨⟨v,rfl,hv⟩,ag⟩;obtain⟨Hp,p0,p1⟩:=bi Hp ag;replace Ht:=kW Ht ag;obtain⟨Hc,c0,c1,c2⟩:=cm Hc ag;obtain⟨t0,t1,t2,t3⟩:=Ht.out.w4;replace Hb:=az Hb ag;clear ag Kp0 Kp1 Ml Mm Mn Mo;obtain⟨Hv,eX⟩:=aZ hv (Mc.out.trans (Hb.out.mono Mc.out.size));clear hv p0 p1 t0 t1 t2 t3 c0 c1 c2;cases v with
      |true=>go_wp2;refine bodyPost_ret (results_tmp rfl _ _ _) rfl ⟨⟨true,rfl,λh=>by cases h⟩,aO dY.out eX.out⟩
      | false=>
        have Rz:Hid (ts[k].1.length<=12/\okW ts[k].2):=by show _/\_;rw[vF.out];exact⟨by show l.length<=12;rw[Du.out];omega,Hv.out rfl _ zm⟩
        go_wp2;go_roundw;case rel=>exact⟨k+1,by omega,by go_num,Tw hk2 Gj.out Rz.out,eX.out⟩
        case measure=>exact bI
  . obtain rfl:k=N:=by omega
    have hall:∀y∈ts,y.1.length<=12/\okW y.2:=by have:=hok;rwa [<-HN.out,List.take_length]at this
    have RU:Hid (Tb ts):=⟨by rw[HN.out];omega,hall⟩;have uM:=λW (hW:Bw w W)=>azP V a cap k ts W HN.out zo (λt ht=>by have:=(hall t ht).1;omega) (Ha.out.below hW);have yS:=ar uM;have Hb:Hid (Bw w wr):=bQ;clear hok hall qb uM bQ;obtain⟨p0,p1⟩:=Hp.out.c2;go_wp2_with fail;refine(yS.out _ Hb.out).mono ?_;rintro e w6 ⟨⟨z,rfl⟩,ag⟩;obtain⟨Hp,p0,p1⟩:=bi Hp ag;replace Hb:=az Hb ag;go_wp2;refine bodyPost_ret (results_tmp rfl _ _ _) rfl ⟨⟨decide (5<z),rfl,λ_=>RU.out⟩,Hb.out⟩
end Go.Proofs.YtnjfebkelecgaaaGreatDoor
namespace Go.Proofs.YtnjfebkelecgaaaGreatDoor
def jk (m:List UInt8):List aQ->Nat
 |[]=>0
 |x::l=>if Op.bytesLess x.1 m then jk m l+1 else 0
def aoD (m:List UInt8)(l:List aQ):jk m l<=l.length:=by
 induction l with
 |nil=>exact Nat.le_refl _
 |cons x l ih=>unfold jk;split<;>simp<;>omega
def iO (l:List aQ)(x:aQ):List aQ:=match l with
 |[]=>[(x.1,canon (aJ x.2))]
 |y::l=>if Op.bytesLess y.1 x.1 then y::iO l x else if y.1=x.1 then(x.1,canon (aJ y.2+aJ x.2))::l else(x.1,canon (aJ x.2))::y::l
def ahU (l:List aQ)(x:aQ):iO l x=l.take (jk x.1 l)++(if(l.drop (jk x.1 l)).head?.map (·.1)=some x.1 then(x.1,canon (aJ ((l.drop (jk x.1 l)).headD default).2+aJ x.2))::l.drop (jk x.1 l+1)else(x.1,canon (aJ x.2))::l.drop (jk x.1 l)):=by
 induction l with
 |nil=>simp[iO,jk]
 | cons y l ih=>
   unfold iO jk;by_cases h:Op.bytesLess y.1 x.1=true
   . rw[if_pos h,if_pos h,ih,show List.drop (jk x.1 l+1) (y::l)=List.drop (jk x.1 l) l from rfl,show List.drop (jk x.1 l+1+1) (y::l)=List.drop (jk x.1 l+1) l from rfl,List.take_succ_cons,List.cons_append]
   . rw[if_neg h,if_neg h];by_cases e:y.1=x.1
     . rw[if_pos e];simp[e]
     . rw[if_neg e];simp[e]
def ap5 (l:List aQ)(x:aQ)(m:List UInt8):cL (iO l x) m=cL l m+if x.1=m then aJ x.2 else 0:=by
 induction l with
 |nil=>simp only[iO,cL,cp];grind
 | cons y l ih=>
   unfold iO;split
   . simp only[cL,ih];grind
   . split
     . rename_i h e
       simp only[cL,cp,e];split<;>grind
     . simp only[cL,cp];grind
def axA (l:List aQ)(x:aQ):∀y∈iO l x,y.1=x.1\/∃z∈l,z.1=y.1:=by
 induction l with
 |nil=>intro y hy;simp only[iO,List.mem_singleton]at hy;rw[hy];exact .inl rfl
 | cons z l ih=>
   intro y hy;unfold iO at hy;split at hy
   . rcases List.mem_cons.1 hy with rfl|hy
     . exact .inr ⟨y,by simp,rfl⟩
     . rcases ih y hy with h|⟨u,hu,e⟩
       . exact .inl h
       . exact .inr ⟨u,by simp[hu],e⟩
   . split at hy
     . rcases List.mem_cons.1 hy with rfl|hy
       . exact .inl rfl
       . exact .inr ⟨y,by simp[hy],rfl⟩
     . rcases List.mem_cons.1 hy with rfl|hy
       . exact .inl rfl
       . exact .inr ⟨y,hy,rfl⟩
def axD (l:List aQ)(x:aQ)(h:Up l):Up (iO l x):=by
 induction l with
 |nil=>exact List.pairwise_singleton _ _
 | cons y l ih=>
   obtain⟨h1,h2⟩:=List.pairwise_cons.1 h;unfold iO;split
   . rename_i hy
     refine List.pairwise_cons.2 ⟨λz hz=>?_,ih h2⟩;rcases axA l x z hz with e|⟨u,hu,e⟩
     . rw[e];exact hy
     . rw[<-e];exact h1 u hu
   . rename_i hy
     split
     . rename_i e
       refine List.pairwise_cons.2 ⟨λz hz=>?_,h2⟩;show Op.bytesLess x.1 z.1=true
       rw[<-e];exact h1 z hz
     . rename_i e
       have hlt:Op.bytesLess x.1 y.1=true:=by
        cases hc:Op.bytesLess x.1 y.1 with
        |true=>rfl
        |false=>exact absurd (DN (by simpa using hy) hc) e
       refine List.pairwise_cons.2 ⟨λz hz=>?_,h⟩;show Op.bytesLess x.1 z.1=true
       rcases List.mem_cons.1 hz with rfl|hz
       . exact hlt
       . exact DL hlt (h1 z hz)
def axz (l:List aQ)(x:aQ):(iO l x).length<=l.length+1:=by
 induction l with
 |nil=>exact Nat.le_refl _
 | cons y l ih=>
   unfold iO;split
   . simp only[List.length_cons];omega
   . split<;>simp
def jg (l:List aQ):List aQ:=l.foldl iO []
def Fq (l:List aQ)(x:aQ):jg (l++[x])=iO (jg l) x:=by unfold jg;rw[List.foldl_append];rfl
def KZ {Q:List aQ->Prop}(h0:Q [])(h1:∀l x,Q l->Q (l++[x]))(l:List aQ):Q l:=by
 have h:∀r:List aQ,Q r.reverse:=by
  intro r;induction r with
  |nil=>exact h0
  |cons x r ih=>rw[List.reverse_cons];exact h1 _ _ ih
 have:=h l.reverse;rwa [List.reverse_reverse]at this
def axH (l:List aQ):Up (jg l):=KZ (Q:=λl=>Up (jg l)) List.Pairwise.nil (λl x ih=>by rw[Fq];exact axD _ _ ih) l
def ap6 (l:List aQ)(m:List UInt8):cL (jg l) m=cL l m:=KZ (Q:=λl=>cL (jg l) m=cL l m) rfl (λl x ih=>by rw[Fq,ap5,ih,zu];simp only[cL];grind) l
def axF (l:List aQ):(jg l).length<=l.length:=KZ (Q:=λl=>(jg l).length<=l.length) (Nat.le_refl _) (λl x ih=>by rw[Fq];have:=axz (jg l) x;simp;omega) l
def axy (l:List aQ)(x:aQ)(h:∀t∈l,t.2=canon (aJ t.2)):∀t∈iO l x,t.2=canon (aJ t.2):=by
 have hc:∀X:Dyadic,canon X=canon (aJ (canon X)):=λX=>by rw[cp]
 induction l with
 |nil=>intro t ht;simp only[iO,List.mem_singleton]at ht;rw[ht];exact hc _
 | cons y l ih=>
   intro t ht;unfold iO at ht;split at ht
   . rcases List.mem_cons.1 ht with rfl|ht
     . exact h _ zm
     . exact ih (λt ht=>h t (by simp[ht])) t ht
   . split at ht
     . rcases List.mem_cons.1 ht with rfl|ht
       . exact hc _
       . exact h t (by simp[ht])
     . rcases List.mem_cons.1 ht with rfl|ht
       . exact hc _
       . exact h t ht
def ahY (l:List aQ):∀t∈jg l,t.2=canon (aJ t.2):=KZ (Q:=λl=>∀t∈jg l,t.2=canon (aJ t.2)) (λt ht=>by cases ht) (λl x ih=>by rw[Fq];exact axy _ _ ih) l
def arQ (l:List aQ):(jg l).filter iw=bP l:=by refine Um ⟨List.Pairwise.filter _ (axH l),λx hx=>?_⟩ (Bq l) (λm=>by rw[acj,ap6,uo]);obtain⟨h1,h2⟩:=List.mem_filter.1 hx;refine⟨(xz _).1 ?_,ahY l x h1⟩;unfold iw at h2;simpa using h2
end Go.Proofs.YtnjfebkelecgaaaGreatDoor
namespace Go.Proofs.YtnjfebkelecgaaaGreatDoor
open Go.RowKit
attribute [local go_sem ↓] Go.wp_at_zero Go.wp_at_succ
def agL (s:Bool)(l:List UInt8)(k:Nat):(nt (iv s l^k).natAbs).length<=l.length*k+1:=by refine kd (Nat.lt_of_le_of_lt (m:=256^(l.length*k)) ?_ (Nat.pow_lt_pow_right zd (Nat.lt_succ_self _)));rw[Int.natAbs_pow,pX,Nat.pow_mul];exact Nat.pow_le_pow_left (Nat.le_of_lt (ib l)) k
def aAi (s:Bool)(l:List UInt8)(n:Nat)(Z:Int)(hZ:iv s l^n=Z)(w:World)(hl:l.length*n<=1000000000)(hl':l.length<=1000000000)(hn:n<=1000000):
 Cv 71 #[.agg #[aj s,ai l],ah (n:Int)] w (dO Z):=by
 have HZ:=ar hZ;clear hZ;have yz:Hid (∀k,k<=n->(nt (iv s l^k).natAbs).length<=1000000001):=λk hk=>by have:=agL s l k;have:=Nat.mul_le_mul_left l.length hk;omega
 clear hl;obtain⟨one,hone⟩:∃one:Int,1=one:=⟨_,rfl⟩;have vA:=ar hone;clear hone;obtain⟨W,dK,Hb,Ha,Hr⟩:=mG w 46 [aj s,ai l] 46 [aj false,.string ⟨#[]⟩];obtain⟨a0,a1⟩:=Ha.out.c2;obtain⟨r0,aH,r1,aI⟩:=Hr.out.g2;go_enter Tryz.func71,Tryz.ntmps71;go_wp2_with fail;refine(Qo 1 one vA.out _ zo zo).mono ?_;rintro e w1 ⟨rfl,ag⟩;obtain⟨Ha,a0,a1⟩:=bi Ha ag;obtain⟨Hr,r0,aH,r1,aI⟩:=bA Hr ag;replace Hb:=az Hb ag;go_wp2_with fail;refine(FD (nt one.natAbs) (aC one) _).mono ?_;rintro e w2 ⟨rfl,ag⟩;obtain⟨Ha,a0,a1⟩:=bi Ha ag;obtain⟨Hr,r0,aH,r1,aI⟩:=bA Hr ag;replace Hb:=az Hb ag;have atF:w.heap.size+1<w2.heap.size:=Hr.out.lt;have hmx:max (n:Int) 0=n:=by omega
 have aDN:=Ha.out.lt;have wm:=Hr.out.lt;go_wp2_with fail;obtain⟨R,hR⟩:∃R:World->Prop,(λW2=>au W2 (w2.heap.size) 133 [ai (nt one.natAbs),aj (aC one)]/\Bw w2 W2)=R:=⟨_,rfl⟩;first|refine cd R ?hR ?_|refine cw R ?hR ?_
 case hR=>subst hR;exact⟨(au.newAt w2 _ _ (b:=w2.heap.size) rfl),zl⟩
 subst hR;rintro W2 ⟨qo,ag⟩;have Ho:=ar qo;clear qo a0 a1;obtain⟨Ha,a0,a1⟩:=bi Ha ag;obtain⟨Hr,r0,aH,r1,aI⟩:=bA Hr ag;obtain⟨o0,gm,o1,gu⟩:=Ho.out.g2;replace Hb:=az Hb ag
 go_loopw[10] (λi wr=>∃(k:Nat) (t:Bool),k<=n/\i=ah k/\iv t (nt (iv s l^k).natAbs)=iv s l^k/\au wr w.heap.size 46 [aj s,ai l]/\au wr (w.heap.size+1) 46 [aj false,.string ⟨#[]⟩]/\
  au wr w2.heap.size 133 [ai (nt (iv s l^k).natAbs),aj t]/\Bw w wr) (λi _=>n-(intOf i).toNat)
 case atStart=>
  have e:iv s l^0=one:=by rw[Int.pow_zero];exact vA.out
  refine⟨0,aC one,Nat.zero_le _,rfl,?_,Ha.out,Hr.out,?_,Hb.out⟩
  . rw[e];exact gK one
  . rw[e];exact Ho.out
 case round=>
  obtain⟨k,t,hk,rfl,ku,qa,qr,qo,hb⟩:=hrel;replace Ha:=ar qa;replace Hr:=ar qr;replace Ho:=ar qo;replace Hb:=ar hb;have jh:=ar ku;clear qa qr qo hb ku a0 a1 r0 r1 aH aI o0 o1 gm gu;by_cases hlt:k<n
  . have cn:Hid (iv s l^(k+1)=iv s l^k*iv s l):=Int.pow_succ ..;have iA:=ar (yz.out k hk);generalize hS:iv s l^k=S at*;have HS:=ar hS;clear hS;obtain⟨a0,a1⟩:=Ha.out.c2;obtain⟨r0,aH,r1,aI⟩:=Hr.out.g2;obtain⟨o0,gm,o1,gu⟩:=Ho.out.g2;go_wp2_with fail;refine bV (λw'=>aF w' (w.heap.size) 0 (aj s)/\aF w' (w.heap.size) 1 (ai l)/\aF w' (w2.heap.size) 0 (ai (nt S.natAbs))/\aF w' (w2.heap.size) 1 (aj t)) (λi=>Nat.blt i 4) [(0,true),(1,true),(2,false),(3,false),(4,false)] zk zk rfl zk zc ⟨a0,a1,o0,o1⟩ ?_;iterate 2 (refine pT rfl rfl ?_ (by intro w' ⟨q0,q1,q2,q3⟩;go_simp;try with_reducible rfl);try simp only[UU])
    refine aR rfl rfl (λK hK=>?_);go_simp;with_reducible refine(FD l s _).mono ?_
    rintro e w3 ⟨rfl,hq⟩;have ag:Bw wr w3:=by first|exact hq|exact bo hq
    obtain⟨Ha,a0,a1⟩:=bi Ha ag;obtain⟨Hr,r0,aH,r1,aI⟩:=bA Hr ag;obtain⟨Ho,o0,gm,o1,gu⟩:=bA Ho ag;replace Hb:=az Hb ag;refine hK _ _ (λ_=>⟨a0,a1,o0,o1⟩) ?_;try simp only[UU]
    refine aR rfl rfl (λK hK=>?_);go_simp;with_reducible refine(aiV (nt S.natAbs) l t s _ (by have:=iA.out;omega) zo).mono ?_
    rintro e w4 ⟨rfl,hq⟩;have ag:Bw w3 w4:=by first|exact hq|exact bo hq
    obtain⟨Ha,a0,a1⟩:=bi Ha ag;obtain⟨Hr,r0,aH,r1,aI⟩:=bA Hr ag;obtain⟨Ho,o0,gm,o1,gu⟩:=bA Ho ag;replace Hb:=az Hb ag;refine hK _ _ (λ_=>⟨a0,a1,o0,o1⟩) ?_;try simp only[UU]
    refine aR rfl rfl (λK hK=>?_);go_simp;refine hK _ _ (λh=>absurd h zd) ?_;try simp only[UU]
    refine bZ (bY w4 (w2.heap.size) 0 [ai (nt (nv (nt S.natAbs) *nv l)),aj (!(t==s))]) cC ?_;intro W5 hs;replace Ha:=kS Ha hs zo;replace Hr:=kS Hr hs zo;replace Ho:=dt Ho hs;obtain⟨a0,a1⟩:=Ha.out.c2;obtain⟨r0,aH,r1,aI⟩:=Hr.out.g2;obtain⟨o0,gm,o1,gu⟩:=Ho.out.g2;replace Hb:=bS Hb hs ZS;clear hs;simp only[bu];have hq:=agM t (nt S.natAbs) s l;rw[jh.out,<-cn.out]at hq;have hq2:nv (nt S.natAbs) *nv l=(iv s l^(k+1)).natAbs:=by rw[cn.out,Int.natAbs_mul,pX,jC]
    rw[hq2]at hq Ho;have Hq:=ar hq;clear hq hq2 a0 a1 r0 r1 aH aI o0 o1 gm gu;go_wp2;go_roundw;case rel=>exact⟨k+1,_,by omega,by go_num,Hq.out,Ha.out,Hr.out,Ho.out,Hb.out⟩
    case measure=>exact bI
  . obtain rfl:k=n:=by omega
    have iA:=yz.out k hk;rw[HZ.out]at Ho jh iA;obtain⟨a0,a1⟩:=Ha.out.c2;obtain⟨r0,aH,r1,aI⟩:=Hr.out.g2;obtain⟨o0,gm,o1,gu⟩:=Ho.out.g2;go_wp2_with fail;refine(yc (nt Z.natAbs) t _ zo).mono ?_;rintro e w3 ⟨rfl,ag⟩;obtain⟨Ha,a0,a1⟩:=bi Ha ag;obtain⟨Hr,r0,aH,r1,aI⟩:=bA Hr ag;obtain⟨Ho,o0,gm,o1,gu⟩:=bA Ho ag;replace Hb:=az Hb ag;rw[jh.out];go_wp2;exact bodyPost_ret (v:=dO Z) (by simp[results,Tryz.results71,go_sem,r0,r1]) rfl ⟨rfl,dH⟩
def axJ (D:Dyadic)(n:Nat):aJ (aC (dN D^n),nt (dN D^n).natAbs,dE D* (n:Int))=cP D n:=by
 rw[BH];induction n with
 |zero=>rw[Int.pow_zero,Int.natCast_zero,Int.mul_zero];show Dyadic.ofIntWithPrec 1 (-0)=1;decide+kernel
 |succ n ih=>rw[cP,<-ih];have h:=uV D;rw[show Dyadic.ofIntWithPrec (dN D^n) (-(dE D*n)) *D=Dyadic.ofIntWithPrec (dN D^n) (-(dE D*n)) *Dyadic.ofIntWithPrec (dN D) (-(dE D))by rw[<-h],wz,Int.pow_succ];congr 1;rw[Int.natCast_add,Int.mul_add];omega
def acz (s:Bool)(l:List UInt8)(e:Int)(n:Nat)(D D':Dyadic)(B:Nat)(hD:aJ (s,l,e)=D)(hD':cP D n=D')(w:World)(hx:Fit B (s,l,e))(hB:B<=100000)(hn:n<=1000)(hT:aM w):
 Cv 25 #[.agg #[aj s,ai l,ah e],ah (n:Int)] w (cK D'):=by
 have hsm:=hx.2;rw[hD]at hsm;obtain⟨p1,p2,p3⟩:=hsm.parts;have hlen:(nt (dN D).natAbs).length<=B:=lM p1 zo;have BW:aJ (aC (dN D^n),nt (dN D^n).natAbs,dE D* (n:Int))=D':=by rw[axJ,hD']
 have ag:B*n<=100000*1000:=Nat.mul_le_mul hB hn;obtain⟨Z,hZ⟩:=aK (dN D^n);have rf:(nt Z.natAbs).length<=1000000001:=by have:=agL (aC (dN D)) (nt (dN D).natAbs) n;rw[gK,hZ]at this;have:=Nat.mul_le_mul_right n hlen;omega
 have he: -1099511627776<=dE D* (n:Int)/\dE D* (n:Int)<=1099511627776:=by
  have h1:(dE D* (n:Int)).natAbs<=100000*1000:=by rw[Int.natAbs_mul];exact Nat.mul_le_mul zo zo
  omega
 rw[hZ]at BW;obtain⟨E,hE⟩:=aK (dE D* (n:Int));rw[hE]at BW he;have hpw:=λW=>aAi (aC (dN D)) (nt (dN D).natAbs) n Z (by rw[gK];exact hZ) W (by have:=Nat.mul_le_mul_right n hlen;omega) zo zo;have Ba:=ar hpw;have mh:Hid (∀W,aM W->Cv 59 #[.agg #[aj (aC Z),ai (nt Z.natAbs)],ah E] W (cK D')):=λW hW=>Ao (aC Z) (nt Z.natAbs) E D' BW W zo he hW;obtain⟨HD,Hx⟩:=aZ hD hx.1;have hwr:IntKind.i64.wrap (dE D*max (n:Int) 0)=E:=by rw[show max (n:Int) 0=n by omega,hE,IntKind.wrap_i64];omega
 have hmx:max (n:Int) 0=n:=by omega
 have aDk:IntKind.i64.wrap (dE D* (n:Int))=E:=by rw[hE,IntKind.wrap_i64];omega
 clear hpw BW rf he hE hlen p1 p2 p3 hsm hx hD hD' ag hZ;obtain⟨W,dK,Hb,Ha,Hr⟩:=mG w 48 [aj s,ai l,ah e] 48 [aj false,.string ⟨#[]⟩,ah 0];obtain⟨a0,Ip,a1,Iq,a2,Ir⟩:=Ha.out.g3;obtain⟨r0,aH,r1,aI,r2,aX⟩:=Hr.out.g3;go_enter Tryz.func25,Tryz.ntmps25;go_wp2_with fail;refine(sM s l e D HD.out _ Hx.out (by first|exact(hT.below Hb.out) |exact aM.drew (hT.below Hb.out) |exact aM.alloc (hT.below Hb.out) _|exact aM.drew (aM.alloc (hT.below Hb.out) _) |exact aM.alloc (aM.drew (hT.below Hb.out)) _)).mono ?_;rintro e w1 ⟨rfl,ag⟩;obtain⟨Ha,a0,Ip,a1,Iq,a2,Ir⟩:=bg Ha ag;obtain⟨Hr,r0,aH,r1,aI,r2,aX⟩:=bg Hr ag;replace Hb:=az Hb ag;go_wp2_with fail;first|refine cd (bY w1 (w.heap.size) 0 [aj (aC (dN D)),ai (nt (dN D).natAbs),ah (dE D)]) cC ?_|refine cw (bY w1 (w.heap.size) 0 [aj (aC (dN D)),ai (nt (dN D).natAbs),ah (dE D)]) cC ?_
 intro W1 hs;replace Ha:=dt Ha hs;replace Hr:=kS Hr hs zo;obtain⟨a0,Ip,a1,Iq,a2,Ir⟩:=Ha.out.g3;obtain⟨r0,aH,r1,aI,r2,aX⟩:=Hr.out.g3;replace Hb:=bS Hb hs ZS;clear hs;refine bV (λw'=>aF w' (w.heap.size) 0 (aj (aC (dN D)))/\aF w' (w.heap.size) 1 (ai (nt (dN D).natAbs))/\aF w' (w.heap.size) 2 (ah (dE D))) (λi=>Nat.blt i 10) [(0,true),(1,true),(2,true),(4,true),(5,true),(6,true),(7,true),(8,true),(3,false),(9,false),(10,false)] zk zk rfl zk zc ⟨a0,a1,a2⟩ ?_;iterate 8 (refine pT rfl rfl ?_ (by intro w' ⟨q0,q1,q2⟩;go_simp;try with_reducible rfl);try simp only[UU])
 refine aR rfl rfl (λK hK=>?_);go_simp;with_reducible refine(Ba.out _).mono ?_
 rintro e w2 ⟨rfl,hq⟩;have ag:Bw W1 w2:=by first|exact hq|exact bo hq
 obtain⟨Ha,a0,Ip,a1,Iq,a2,Ir⟩:=bg Ha ag;obtain⟨Hr,r0,aH,r1,aI,r2,aX⟩:=bg Hr ag;replace Hb:=az Hb ag;refine hK _ _ (λ_=>⟨a0,a1,a2⟩) ?_;try simp only[UU]
 refine aR rfl rfl (λK hK=>?_);go_simp;with_reducible refine(mh.out _ (by first|exact(hT.below Hb.out) |exact aM.drew (hT.below Hb.out) |exact aM.alloc (hT.below Hb.out) _|exact aM.drew (aM.alloc (hT.below Hb.out) _) |exact aM.alloc (aM.drew (hT.below Hb.out)) _)).mono ?_
 rintro e w3 ⟨rfl,hq⟩;have ag:Bw w2 w3:=by first|exact hq|exact bo hq
 obtain⟨Ha,a0,Ip,a1,Iq,a2,Ir⟩:=bg Ha ag;obtain⟨Hr,r0,aH,r1,aI,r2,aX⟩:=bg Hr ag;replace Hb:=az Hb ag;refine hK _ _ (λ_=>⟨a0,a1,a2⟩) ?_;try simp only[UU]
 refine aR rfl rfl (λK hK=>?_);go_simp;refine hK _ _ (λh=>absurd h zd) ?_;try simp only[UU]
 refine bZ (bY w3 (w.heap.size+1) 0 [aj (aC (dN D')),ai (nt (dN D').natAbs),ah (dE D')]) cC ?_;intro W4 hs;replace Ha:=kS Ha hs zo;replace Hr:=dt Hr hs;obtain⟨a0,Ip,a1,Iq,a2,Ir⟩:=Ha.out.g3;obtain⟨r0,aH,r1,aI,r2,aX⟩:=Hr.out.g3;replace Hb:=bS Hb hs ZS;clear hs;simp only[bu];go_wp2;exact bodyPost_ret (v:=cK D') (by simp[results,Tryz.results25,go_sem,r0,r1,r2]) rfl ⟨rfl,dH⟩
end Go.Proofs.YtnjfebkelecgaaaGreatDoor
