/- Arguments opened: numbers,forms;the listed table. -/
import Derived.Test.YtbkopgdpcijfbaaGreatDoorZ24
import Derived.Test.YtbkopgdpcijfbaaGreatDoorCards
import Derived.ProofKit
import Derived.OpenShut
import Derived.LaidMore
import Derived.Lay
import Derived.Carry
import Derived.Deep.Slices
import Derived.Lib.SmallJoins
import Derived.Lib.LaidTab
import Derived.SevenTiedAt
import Derived.Stop.Joined
import Derived.Test.YtbkopgdpcijfbaaGreatDoorZ12
set_option linter.all false
set_option maxRecDepth 100000
set_option maxHeartbeats 16000000
namespace Go.Proofs.YtbkopgdpcijfbaaGreatDoor
open Go.ChangeShapes Go.WideShapes Go.ChangeAt Go.RowKit Go.Joins Go.Deep
def own :ownKnob Tryz.prog.godebug=none:=by kernel_rfl
def laidOut :laidOutB Tryz.prog=true:=by kernel_rfl
def Wv {α:Type}{P:Nat->α->Prop}(n:Nat)(h:∀i,i<n->∃x,P i x):∃l:List α,l.length=n/\∀i (hi:i<l.length),P i l[i]:=by
 induction n with
 |zero=>exact⟨[],rfl,λi hi=>by simp at hi⟩
 | succ n ih=>
   obtain⟨l,hl,hP⟩:=ih (λi hi=>h i zo);obtain⟨x,hx⟩:=h n zo;refine⟨l++[x],by simp[hl],λi hi=>?_⟩;by_cases h1:i<l.length
   . rw[List.getElem_append_left h1];exact hP i h1
   . have:i=n:=by simp at hi;omega
     subst this;rw[List.getElem_append_right zo];simpa[hl]using hx
section
variable {H:Type} {enc:TypeId×Value->H} {w:World} {base:Nat} {spare:Nat->Bool} {held:Bool}
def SX :Tryz.prog.cellsOf 30=3:=by kernel_rfl
def apV :Tryz.prog.cellsOf 28=2:=by kernel_rfl
def apU :Tryz.prog.cellsOf 3=1:=by kernel_rfl
def apT :Tryz.prog.cellsOf 4=1:=by kernel_rfl
def abL :Tryz.prog.cellsOf 9=1:=by kernel_rfl
def WX {fuel:Nat}{cs:List Value}{x:DataW H×List MemPlace}(h:DataW.trod enc Tryz.prog w base spare held fuel 30 cs=some x):∃r:Raw,cs=bu r:=by
 obtain⟨xs,n,rfl,hx,hlen,hxl,hf⟩:=DataW.trod_struct Tryz.underlying30 h;rw[SX]at hlen;match cs,hlen with
 | [c0,c1,c2],_=>
   match xs,hxl with
   | [y0,y1],_=>
     have h0:DataW.trod enc Tryz.prog w base spare held n 28 (List.take (Tryz.prog.cellsOf 28) (List.drop 0 [c0,c1,c2]))=some y0:=hf 0 _ rfl;have h1:DataW.trod enc Tryz.prog w base spare held n 3 (List.take (Tryz.prog.cellsOf 3) (List.drop 2 [c0,c1,c2]))=some y1:=hf 1 _ rfl;rw[apV]at h0;rw[apU]at h1;have h0':DataW.trod enc Tryz.prog w base spare held n 28 [c0,c1]=some y0:=h0;have h1':DataW.trod enc Tryz.prog w base spare held n 3 [c2]=some y1:=h1;obtain⟨e,he,_,_⟩:=DataW.trod_int Tryz.underlying3 h1';obtain⟨zs,m,rfl,_,_,hzl,hg⟩:=DataW.trod_struct Tryz.underlying28 h0';match zs,hzl with
     |[z0,z1],_=>have g0:DataW.trod enc Tryz.prog w base spare held m 4 (List.take (Tryz.prog.cellsOf 4) (List.drop 0 [c0,c1]))=some z0:=hg 0 _ rfl;have g1:DataW.trod enc Tryz.prog w base spare held m 9 (List.take (Tryz.prog.cellsOf 9) (List.drop 1 [c0,c1]))=some z1:=hg 1 _ rfl;rw[apT]at g0;rw[abL]at g1;have g0':DataW.trod enc Tryz.prog w base spare held m 4 [c0]=some z0:=g0;have g1':DataW.trod enc Tryz.prog w base spare held m 9 [c1]=some z1:=g1;obtain⟨s,hs,_⟩:=DataW.trod_bool Tryz.underlying4 g0';obtain⟨l,hl,_,_⟩:=DataW.trod_string Tryz.underlying9 g1';simp only[List.cons.injEq,and_true]at he hs hl;subst he hs hl;exact⟨(s,l.data.toList,e),by simp[bu,bs]⟩
end
abbrev listed :List (String×DataW Unit):=[("math/bits.deBruijn64tab",Rows.laid_math_bits_deBruijn64tab),("unicode/utf8.acceptRanges",Rows.laid_unicode_utf8_acceptRanges),("unicode/utf8.first",Rows.laid_unicode_utf8_first)]
def aAj {W:World}(h:laidMetH Tryz.prog listed W):aC W:=by
 rw[MakeChecks.laidMetH_plain _ _ _ zk]at h;have hg:Tryz.prog.globalNamed "math/bits.deBruijn64tab" =some 0:=by kernel_rfl
 have hT:=Lib.tabIs_of_head (zs:=Lib.deBruijn64tab.map λ(n:Nat)=>(n:Int)) (k:=.u8) hg zk Tryz.underlying315 Tryz.underlying5 zk zk h;intro j hj;rw[hT.cell hg j (by rw[List.length_map];exact hj)];simp only[List.getD_eq_getElem?_getD,List.getElem?_map,List.getElem?_eq_getElem hj,Option.map_some,Option.getD_some]
def avv (os:Os)(args:Array Value):laidMetH Tryz.prog listed ((World.laidAll Tryz.prog os listed).forCall (λ_ _=>0) ⟨#[],args,[]⟩).memory:=by rw[MakeChecks.laidMetH_plain _ _ _ zk];exact laidMet_laidAll _ zk zk
section
variable {H:Type} {enc:TypeId×Value->H} {w:World} {base:Nat} {spare:Nat->Bool} {held:Bool}
def abM :Tryz.prog.cellsOf 90=4:=by kernel_rfl
def apW :Tryz.prog.cellsOf 36=1:=by kernel_rfl
def axr {fuel:Nat}{cs:List Value}{x:DataW H×List MemPlace}(h:DataW.trod enc Tryz.prog w base spare held fuel 90 cs=some x):∃r:Trm,cs=aY r/\r.1.length<=9223372036854775807:=by
 obtain⟨xs,n,rfl,hx,hlen,hxl,hf⟩:=DataW.trod_struct Tryz.underlying90 h;rw[abM]at hlen;match cs,hlen with
 | [c0,c1,c2,c3],_=>
   match xs,hxl with
   | [y0,y1],_=>
     have h0:DataW.trod enc Tryz.prog w base spare held n 9 (List.take (Tryz.prog.cellsOf 9) (List.drop 0 [c0,c1,c2,c3]))=some y0:=hf 0 _ rfl;have h1:DataW.trod enc Tryz.prog w base spare held n 30 (List.take (Tryz.prog.cellsOf 30) (List.drop 1 [c0,c1,c2,c3]))=some y1:=hf 1 _ rfl;rw[abL]at h0;rw[SX]at h1;have h0':DataW.trod enc Tryz.prog w base spare held n 9 [c0]=some y0:=h0;have h1':DataW.trod enc Tryz.prog w base spare held n 30 [c1,c2,c3]=some y1:=h1;obtain⟨l,hl,_,hsz⟩:=DataW.trod_string Tryz.underlying9 h0';obtain⟨r,hr⟩:=WX h1';simp only[List.cons.injEq,and_true]at hl;subst hl;refine⟨(l.data.toList,r),?_,?_⟩
     . have:aY (l.data.toList,r)=.string (bs l.data.toList)::bu r:=rfl;rw[this,<-hr];simp[bs]
     . have h3:l.data.toList.length=l.size:=Array.length_toList;have h4:l.size<=2^63-1:=hsz;show l.data.toList.length<=_
       omega
end
end Go.Proofs.YtbkopgdpcijfbaaGreatDoor
