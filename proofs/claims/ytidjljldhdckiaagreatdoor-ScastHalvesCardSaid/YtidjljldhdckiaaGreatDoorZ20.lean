/- Arguments opened: numbers,forms;the listed table. -/
import Derived.Test.YtidjljldhdckiaaGreatDoorZ18
import Derived.Test.YtidjljldhdckiaaGreatDoorCards
import Derived.ProofKit
import Derived.OpenShut
import Derived.LaidMore
import Derived.Lay
import Derived.Carry
import Derived.Deep.Slices
import Derived.Lib.SmallJoins
import Derived.Lib.LaidTab
import Derived.SevenTiedAt
import Derived.Stop.Joined
import Derived.Test.YtidjljldhdckiaaGreatDoorZ11
set_option maxRecDepth 100000
set_option maxHeartbeats 16000000
namespace Go.Proofs.YtidjljldhdckiaaGreatDoor
open Go.ChangeShapes Go.WideShapes Go.ChangeAt Go.RowKit Go.Joins Go.Deep
theorem own : ownKnob Tryz.prog.godebug = none:=by kernel_rfl
theorem laidOut : laidOutB Tryz.prog = true:=by kernel_rfl
theorem list_of {α : Type} {P : Nat -> α -> Prop} (n : Nat) (h : ∀ i,i < n -> ∃ x,P i x) : ∃ l : List α,l.length = n /\ ∀ i (hi : i < l.length),P i l[i]:=by
 induction n with
 | zero=>exact ⟨[],rfl,fun i hi=>by simp at hi⟩
 | succ n ih =>
   obtain ⟨l,hl,hP⟩:=ih (fun i hi=>h i (by omega))
   obtain ⟨x,hx⟩:=h n (by omega)
   refine ⟨l ++ [x],by simp [hl],fun i hi=>?_⟩
   by_cases h1 : i < l.length
   . rw [List.getElem_append_left h1];exact hP i h1
   . have : i = n:=by simp at hi;omega
     subst this
     rw [List.getElem_append_right (by omega)]
     simpa [hl] using hx
section
variable {H : Type} {enc : TypeId × Value -> H} {w : World} {base : Nat} {spare : Nat -> Bool} {held : Bool}
theorem cells_num : Tryz.prog.cellsOf 36 = 3:=by kernel_rfl
theorem cells_int2 : Tryz.prog.cellsOf 34 = 2:=by kernel_rfl
theorem cells_int : Tryz.prog.cellsOf 3 = 1:=by kernel_rfl
theorem cells_bool : Tryz.prog.cellsOf 4 = 1:=by kernel_rfl
theorem cells_string : Tryz.prog.cellsOf 9 = 1:=by kernel_rfl
theorem open_num {fuel : Nat} {cs : List Value} {x : DataW H × List MemPlace} (h : DataW.trod enc Tryz.prog w base spare held fuel 36 cs = some x) : ∃ r : Raw,cs = numC r:=by
 obtain ⟨xs,n,rfl,hx,hlen,hxl,hf⟩:=DataW.trod_struct Tryz.underlying36 h
 rw [cells_num] at hlen
 match cs,hlen with
 | [c0,c1,c2],_ =>
   match xs,hxl with
   | [y0,y1],_ =>
     have h0 : DataW.trod enc Tryz.prog w base spare held n 34 (List.take (Tryz.prog.cellsOf 34) (List.drop 0 [c0,c1,c2])) = some y0:=hf 0 _ rfl
     have h1 : DataW.trod enc Tryz.prog w base spare held n 3 (List.take (Tryz.prog.cellsOf 3) (List.drop 2 [c0,c1,c2])) = some y1:=hf 1 _ rfl
     rw [cells_int2] at h0
     rw [cells_int] at h1
     have h0' : DataW.trod enc Tryz.prog w base spare held n 34 [c0,c1] = some y0:=h0
     have h1' : DataW.trod enc Tryz.prog w base spare held n 3 [c2] = some y1:=h1
     obtain ⟨e,he,_,_⟩:=DataW.trod_int Tryz.underlying3 h1'
     obtain ⟨zs,m,rfl,_,_,hzl,hg⟩:=DataW.trod_struct Tryz.underlying34 h0'
     match zs,hzl with
     | [z0,z1],_ =>
       have g0 : DataW.trod enc Tryz.prog w base spare held m 4 (List.take (Tryz.prog.cellsOf 4) (List.drop 0 [c0,c1])) = some z0:=hg 0 _ rfl
       have g1 : DataW.trod enc Tryz.prog w base spare held m 9 (List.take (Tryz.prog.cellsOf 9) (List.drop 1 [c0,c1])) = some z1:=hg 1 _ rfl
       rw [cells_bool] at g0
       rw [cells_string] at g1
       have g0' : DataW.trod enc Tryz.prog w base spare held m 4 [c0] = some z0:=g0
       have g1' : DataW.trod enc Tryz.prog w base spare held m 9 [c1] = some z1:=g1
       obtain ⟨s,hs,_⟩:=DataW.trod_bool Tryz.underlying4 g0'
       obtain ⟨l,hl,_,_⟩:=DataW.trod_string Tryz.underlying9 g1'
       simp only [List.cons.injEq,and_true] at he hs hl
       subst he hs hl
       exact ⟨(s,l.data.toList,e),by simp [numC,bs]⟩
end
abbrev listed : List (String × DataW Unit):=[("math/bits.deBruijn64tab",Rows.laid_math_bits_deBruijn64tab),("unicode/utf8.acceptRanges",Rows.laid_unicode_utf8_acceptRanges),("unicode/utf8.first",Rows.laid_unicode_utf8_first)]
theorem tab_of_laid {W : World} (h : laidMetH Tryz.prog listed W) : Tab W:=by
 rw [MakeChecks.laidMetH_plain _ _ _ (by kernel_rfl)] at h
 have hg : Tryz.prog.globalNamed "math/bits.deBruijn64tab" = some 0:=by kernel_rfl
 have hT:=Lib.tabIs_of_head (zs:=Lib.deBruijn64tab.map fun (n : Nat)=>(n : Int)) (k:=.u8) hg (by kernel_rfl) Tryz.underlying166 Tryz.underlying5 (by kernel_rfl) (by kernel_rfl) h
 intro j hj
 rw [hT.cell hg j (by rw [List.length_map];exact hj)]
 simp only [List.getD_eq_getElem?_getD,List.getElem?_map,List.getElem?_eq_getElem hj,Option.map_some,Option.getD_some]
theorem listed_met (os : Os) (args : Array Value) : laidMetH Tryz.prog listed ((World.laidAll Tryz.prog os listed).forCall (fun _ _=>0) ⟨#[],args,[]⟩).memory:=by
 rw [MakeChecks.laidMetH_plain _ _ _ (by kernel_rfl)]
 exact laidMet_laidAll _ (by kernel_rfl) (by kernel_rfl)
section
variable {H : Type} {enc : TypeId × Value -> H} {w : World} {base : Nat} {spare : Nat -> Bool} {held : Bool}
theorem cells_term : Tryz.prog.cellsOf 49 = 4:=by kernel_rfl
theorem cells_point : Tryz.prog.cellsOf 46 = 1:=by kernel_rfl
theorem open_term {fuel : Nat} {cs : List Value} {x : DataW H × List MemPlace} (h : DataW.trod enc Tryz.prog w base spare held fuel 49 cs = some x) : ∃ r : Trm,cs = termC r /\ r.1.length <= 9223372036854775807:=by
 obtain ⟨xs,n,rfl,hx,hlen,hxl,hf⟩:=DataW.trod_struct Tryz.underlying49 h
 rw [cells_term] at hlen
 match cs,hlen with
 | [c0,c1,c2,c3],_ =>
   match xs,hxl with
   | [y0,y1],_ =>
     have h0 : DataW.trod enc Tryz.prog w base spare held n 9 (List.take (Tryz.prog.cellsOf 9) (List.drop 0 [c0,c1,c2,c3])) = some y0:=hf 0 _ rfl
     have h1 : DataW.trod enc Tryz.prog w base spare held n 36 (List.take (Tryz.prog.cellsOf 36) (List.drop 1 [c0,c1,c2,c3])) = some y1:=hf 1 _ rfl
     rw [cells_string] at h0
     rw [cells_num] at h1
     have h0' : DataW.trod enc Tryz.prog w base spare held n 9 [c0] = some y0:=h0
     have h1' : DataW.trod enc Tryz.prog w base spare held n 36 [c1,c2,c3] = some y1:=h1
     obtain ⟨l,hl,_,hsz⟩:=DataW.trod_string Tryz.underlying9 h0'
     obtain ⟨r,hr⟩:=open_num h1'
     simp only [List.cons.injEq,and_true] at hl
     subst hl
     refine ⟨(l.data.toList,r),?_,?_⟩
     . have : termC (l.data.toList,r) = .string (bs l.data.toList) :: numC r:=rfl
       rw [this,<- hr]
       simp [bs]
     . have h3 : l.data.toList.length = l.size:=Array.length_toList
       have h4 : l.size <= 2 ^ 63 - 1:=hsz
       show l.data.toList.length <= _
       omega
theorem open_terms {fuel : Nat} {v : Value} {x : DataW H × List MemPlace} (h : DataW.trod enc Tryz.prog w base spare held fuel 41 [v] = some x) :
 ∃ (a : Option Addr) (n cap : Nat) (ts : List Trm),v = .slice a n cap /\ ts.length = n /\ At w a (ts.flatMap termC) /\ ∀ t ∈ ts,t.1.length <= 9223372036854775807:=by
 rcases open_slice Tryz.underlying41 h with ⟨hcs,_⟩ | ⟨a,len,cap,m,n,D,Pl,hcs,_,hl,_,hm,_,hi⟩
 . simp only [List.cons.injEq,and_true] at hcs
   exact ⟨none,0,0,[],hcs,rfl,.inl rfl,fun t ht=>by cases ht⟩
 . simp only [List.cons.injEq,and_true] at hcs
   have hlm : len <= m:=by rw [hm];split<;>omega
   obtain ⟨ts,hr,hP⟩:=list_of (P:=fun i (r : Trm)=>(∀ j,j < 4 -> w.cell? (a.add (i * 4 + j)) = (termC r)[j]?) /\ r.1.length <= 9223372036854775807) len (fun i hil=>by
    obtain ⟨cs',hc,ht⟩:=hi i (by omega)
    rw [cells_term] at hc
    obtain ⟨_,hcl,hat⟩:=World.cells?_some hc
    obtain ⟨r,rfl,hr⟩:=open_term ht
    refine ⟨r,fun j hj=>?_,hr⟩
    rw [<- Go.Deep.add_add]
    exact hat j hj)
   refine ⟨some a,len,cap,ts,hcs,hr,?_,fun t ht=>by
    obtain ⟨i,hi,rfl⟩:=List.mem_iff_getElem.1 ht
    exact (hP i hi).2⟩
   by_cases h0 : len = 0
   . have : ts = []:=List.length_eq_zero_iff.1 (hr.trans h0)
     subst this;exact .inl rfl
   . obtain ⟨b,off,spot⟩:=a
     have hspot : spot = none:=by
      have:=(hP 0 (by omega)).1 0 (by decide)
      have h2:=World.cell?_spot (this.trans (show (termC ts[0])[0]? = some (.string (bs ts[0].1)) from rfl))
      simpa [Addr.add] using h2
     subst hspot
     refine .inr ⟨b,off,rfl,fun j hj=>?_⟩
     rw [flat_length termC 4 (fun _=>rfl)] at hj
     have h1 : j / 4 < ts.length:=by omega
     have h2:=(hP (j / 4) h1).1 (j % 4) (by omega)
     have h3:=flat_get termC 4 (fun _=>rfl) ts (j / 4) (j % 4) h1 (by omega)
     rw [show j / 4 * 4 + j % 4 = j by omega] at h2 h3
     rw [h3,<- h2]
     cases j<;>rfl
theorem open_poly {r : Reach} {b0 : Nat} {v : Value} {d : DataW H} {p : List MemPlace} (hv : Value.okWide Tryz.prog w r b0 43 v) (h : DataW.Trod enc Tryz.prog w base spare held 43 v d p) :
 ∃ (vi : Int) (a : Option Addr) (n cap : Nat) (ts : List Trm),v = .agg #[.int .i64 vi,.slice a n cap] /\ ts.length = n /\ At w a (ts.flatMap termC) /\ ∀ t ∈ ts,t.1.length <= 9223372036854775807:=by
 obtain ⟨v0,v1,y0,y1,n,rfl,_,_,h0,h1⟩:=open_agg2 Tryz.underlying43 (by kernel_rfl) (by kernel_rfl) hv h
 obtain ⟨vi,e0,_,_⟩:=DataW.trod_int Tryz.underlying3 h0
 obtain ⟨a,n,cap,ts,rfl,hr,ha,hl⟩:=open_terms h1
 simp only [List.cons.injEq,and_true] at e0
 subst e0
 exact ⟨vi,a,n,cap,ts,rfl,hr,ha,hl⟩
theorem open_point {fuel : Nat} {v : Value} {x : DataW H × List MemPlace} (h : DataW.trod enc Tryz.prog w base spare held fuel 46 [v] = some x) : ∃ raws : List Raw,Pt w v raws:=by
 rcases open_slice Tryz.underlying46 h with ⟨hcs,_⟩ | ⟨a,len,cap,m,n,D,Pl,hcs,_,hl,_,hm,_,hi⟩
 . simp only [List.cons.injEq,and_true] at hcs
   exact ⟨[],none,0,hcs,.inl rfl⟩
 . simp only [List.cons.injEq,and_true] at hcs
   have hlm : len <= m:=by rw [hm];split<;>omega
   obtain ⟨raws,hr,hP⟩:=list_of (P:=fun i (r : Raw)=>∀ j,j < 3 -> w.cell? (a.add (i * 3 + j)) = (numC r)[j]?) len (fun i hil=>by
    obtain ⟨cs',hc,ht⟩:=hi i (by omega)
    rw [cells_num] at hc
    obtain ⟨_,hcl,hat⟩:=World.cells?_some hc
    obtain ⟨r,rfl⟩:=open_num ht
    refine ⟨r,fun j hj=>?_⟩
    rw [<- Go.Deep.add_add]
    exact hat j hj)
   refine ⟨raws,some a,cap,by rw [hr];exact hcs,?_⟩
   by_cases h0 : len = 0
   . have : raws = []:=List.length_eq_zero_iff.1 (hr.trans h0)
     subst this;exact .inl rfl
   . obtain ⟨b,off,spot⟩:=a
     have hspot : spot = none:=by
      have:=hP 0 (by omega) 0 (by decide)
      have h2:=World.cell?_spot (this.trans (show (numC raws[0])[0]? = some (.bool raws[0].1) from rfl))
      simpa [Addr.add] using h2
     subst hspot
     refine .inr ⟨b,off,rfl,fun j hj=>?_⟩
     rw [flat_length numC 3 (fun _=>rfl)] at hj
     have h1 : j / 3 < raws.length:=by omega
     have h2:=hP (j / 3) h1 (j % 3) (by omega)
     have h3:=flat_get numC 3 (fun _=>rfl) raws (j / 3) (j % 3) h1 (by omega)
     rw [show j / 3 * 3 + j % 3 = j by omega] at h2 h3
     rw [h3,<- h2]
     cases j<;>rfl
theorem open_simplex {r : Reach} {b0 : Nat} {v : Value} {d : DataW H} {p : List MemPlace} (hv : Value.okWide Tryz.prog w r b0 45 v) (h : DataW.Trod enc Tryz.prog w base spare held 45 v d p) :
 ∃ (a : Option Addr) (n cap : Nat) (rows : List (List Raw)),v = .slice a n cap /\ rows.length = n /\ n <= cap /\ Tbl w a rows:=by
 obtain ⟨fuel,hf⟩:=h
 have hc : v.cells.toList = [v]:=by
  cases v<;>simp_all [Value.okWide,Tryz.underlying45,Cell.okWide,Cell.ok,Value.cells]
 rw [hc] at hf
 rcases open_slice1 Tryz.underlying45 cells_point hf with ⟨hcs,_⟩ | ⟨a,len,cap,m,n,V,D,Pl,hcs,_,hl,_,hm,_,hi⟩
 . simp only [List.cons.injEq,and_true] at hcs
   exact ⟨none,0,0,[],hcs,rfl,Nat.le_refl _,[],rfl,.inl rfl,fun i hi=>by simp at hi⟩
 . simp only [List.cons.injEq,and_true] at hcs
   have hlm : len <= m:=by rw [hm];split<;>omega
   obtain ⟨rows,hr,hP⟩:=list_of (P:=fun i (r : List Raw)=>Pt w (V i) r) len (fun i hil=>open_point (hi i (by omega)).2)
   refine ⟨some a,len,cap,rows,hcs,hr,hl,(List.range len).map V,by simp [hr],?_,fun i h1 h2=>?_⟩
   . by_cases h0 : len = 0
     . subst h0;exact .inl rfl
     . obtain ⟨b,off,spot⟩:=a
       have hspot : spot = none:=by
        have h2:=World.cell?_spot (hi 0 (by omega)).1
        simpa [Addr.add] using h2
       subst hspot
       refine .inr ⟨b,off,rfl,fun j hj=>?_⟩
       rw [List.length_map,List.length_range] at hj
       have h2:=(hi j (by omega)).1
       rw [List.getElem?_map,List.getElem?_range hj]
       rw [show (⟨b,off + j,none⟩ : Addr) = (⟨b,off,none⟩ : Addr).add j by unfold Addr.add;cases j<;>rfl]
       exact h2
   . rw [List.getElem_map,List.getElem_range]
     exact hP i h1
end
end Go.Proofs.YtidjljldhdckiaaGreatDoor
