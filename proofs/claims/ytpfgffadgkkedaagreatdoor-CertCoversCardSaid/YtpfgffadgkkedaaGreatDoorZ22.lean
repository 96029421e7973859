/- Package simp: Products. -/
import Derived.Test.YtpfgffadgkkedaaGreatDoorZ11
import Derived.Test.YtpfgffadgkkedaaGreatDoorZ21
import Derived.Maps.AppendAt
import Derived.Maps.OwnIn
import Derived.Test.YtpfgffadgkkedaaGreatDoorZ7
import Derived.Test.YtpfgffadgkkedaaGreatDoorZ9
import Derived.Maps.Own
import Derived.Maps.Views
import Derived.Maps.Keyed
import Derived.Maps.OwnSet
import Derived.Carry
import Derived.Lib.BufferWrite
import Derived.Deep.WholeRow
import Derived.Test.YtpfgffadgkkedaaGreatDoorZ12
set_option linter.all false
set_option maxRecDepth 100000
set_option maxHeartbeats 16000000
namespace Go.Proofs.YtpfgffadgkkedaaGreatDoor
open Go.RowKit Go.Shelf
attribute [local go_sem] Oper.semAt_some
section
attribute [local go_sem ↓] Go.wp_at_zero Go.wp_at_succ
end
end Go.Proofs.YtpfgffadgkkedaaGreatDoor
namespace Go.Proofs.YtpfgffadgkkedaaGreatDoor
open Go.RowKit
attribute [local go_sem ↓] Go.wp_at_zero Go.wp_at_succ
def chk (v d:Int)(n:Nat):Int:=if ¬(1<=v/\v<=8/\0<=d/\d<=20)then 1 else if 512<cnt v.toNat d.toNat then 3 else if n=cnt v.toNat d.toNat then 0 else 1
end Go.Proofs.YtpfgffadgkkedaaGreatDoor
namespace Go.Proofs.YtpfgffadgkkedaaGreatDoor
open Go.RowKit
def Mp (W:World)(b n:Nat)(f:List UInt8->Nat):Prop:=
 ∃D:DataW Unit,W.ownsMap Tryz.prog 9 (plainElem Tryz.prog 3) b n D/\Maps.IsMap D/\∀l,D.atKey (.string l) (.lit (.int .i64 0))=.lit (.int .i64 (f l:Int))
def Mp.lt {W:World}{b n:Nat}{f:List UInt8->Nat}(h:Mp W b n f):b<W.heap.size:=by obtain⟨D,h1,_⟩:=h;exact h1.lt
def Mp.kept {W W':World}{b n:Nat}{f:List UInt8->Nat}{r:Option Nat}(h:Mp W b n f)(hg:W.grownBy W' r)(hne:some b≠r):Mp W' b n f:=by obtain⟨D,h1,h2⟩:=h;exact⟨D,h1.kept hg hne,h2⟩
def Mp.below {W W':World}{b n:Nat}{f:List UInt8->Nat}(h:Mp W b n f)(hb:Bw W W'):Mp W' b n f:=
 h.kept (r:=none) ⟨hb.os,hb.tape,hb.output,hb.size,λk hk _=>hb.block k hk⟩ zm
instance {w :World} {b n:Nat} {f:List UInt8->Nat}:QTr (Mp w b n f) w (λW=>Mp W b n f):=⟨λh _ k=>Mp.below h k⟩
end Go.Proofs.YtpfgffadgkkedaaGreatDoor
namespace Go.Proofs.YtpfgffadgkkedaaGreatDoor
open Go.RowKit
attribute [local go_sem ↓] Go.wp_at_zero Go.wp_at_succ
def Mp.set {W:World}{b n:Nat}{f:List UInt8->Nat}(h:Mp W b n f)(a:Addr)(hne:b≠a.block)(u:Value):Mp (W.setCell a u) b n f:=by obtain⟨D,h1,h2⟩:=h;exact⟨D,h1.setCell hne u,h2⟩
def Chg.mp {Y:Nat->Prop}{w w':World}(h:Chg Y w w'){b n:Nat}{f:List UInt8->Nat}(hm:Mp w b n f)(hy:¬Y b):Mp w' b n f:=by obtain⟨D,⟨es,clock,hb,F,hs,hD⟩,h2⟩:=hm;exact⟨D,⟨es,clock,(h.block b (Array.getElem?_eq_some_iff.1 hb).1 hy).trans hb,F,hs,hD⟩,h2⟩
def At.chg {Y:Nat->Prop}{w w':World}{a:Option Addr}{cs:List Value}(h:At w a cs)(hc:Chg Y w w')(hy:∀b o,a=some ⟨b,o,none⟩->¬Y b):At w' a cs:=by
 rcases h with h|⟨b,o,ha,hcs⟩
 . exact .inl h
 . refine .inr ⟨b,o,ha,λj hj=>?_⟩;have h1:=hcs j hj;rw[List.getElem?_eq_getElem hj]at h1⊢;exact hc.cell h1 (hy b o ha)
end Go.Proofs.YtpfgffadgkkedaaGreatDoor
namespace Go.Proofs.YtpfgffadgkkedaaGreatDoor
end Go.Proofs.YtpfgffadgkkedaaGreatDoor
namespace Go.Proofs.YtpfgffadgkkedaaGreatDoor
open Go.RowKit
attribute [local go_sem ↓] Go.wp_at_zero Go.wp_at_succ
def Chg.set {Y:Nat->Prop}{W W':World}(h:Chg Y W W'){a:Addr}(hy:Y a.block)(v:Value):Chg Y W (W'.setCell a v):=
 h.trans (Chg.az8 (Y:=Y) (grownBy_set (w:=W') (a:=a) a.block rfl v) (λ_ e=>by cases e;exact hy)) (λ_ h=>.inl h)
def Chg.drew {Y:Nat->Prop}{W W':World}(h:Chg Y W W'):Chg Y W W'.drew:=⟨h.os,h.tape,h.output,h.size,h.block⟩
end Go.Proofs.YtpfgffadgkkedaaGreatDoor
namespace Go.Proofs.YtpfgffadgkkedaaGreatDoor
def iA (m:List UInt8):List Trm->Nat
 |[]=>0
 |x::l=>if Op.bytesLess x.1 m then iA m l+1 else 0
def akw (m:List UInt8)(l:List Trm):iA m l<=l.length:=by
 induction l with
 |nil=>exact Nat.le_refl _
 |cons x l ih=>unfold iA;split<;>simp<;>omega
def gN (l:List Trm)(x:Trm):List Trm:=match l with
 |[]=>[(x.1,canon (dval x.2))]
 |y::l=>if Op.bytesLess y.1 x.1 then y::gN l x else if y.1=x.1 then(x.1,canon (dval y.2+dval x.2))::l else(x.1,canon (dval x.2))::y::l
def ae5 (l:List Trm)(x:Trm):gN l x=l.take (iA x.1 l)++(if(l.drop (iA x.1 l)).head?.map (·.1)=some x.1 then(x.1,canon (dval ((l.drop (iA x.1 l)).headD default).2+dval x.2))::l.drop (iA x.1 l+1)else(x.1,canon (dval x.2))::l.drop (iA x.1 l)):=by
 induction l with
 |nil=>simp[gN,iA]
 | cons y l ih=>
   unfold gN iA;by_cases h:Op.bytesLess y.1 x.1=true
   . rw[if_pos h,if_pos h,ih,show List.drop (iA x.1 l+1) (y::l)=List.drop (iA x.1 l) l from rfl,show List.drop (iA x.1 l+1+1) (y::l)=List.drop (iA x.1 l+1) l from rfl,List.take_succ_cons,List.cons_append]
   . rw[if_neg h,if_neg h];by_cases e:y.1=x.1
     . rw[if_pos e];simp[e]
     . rw[if_neg e];simp[e]
def amd (l:List Trm)(x:Trm)(m:List UInt8):bR (gN l x) m=bR l m+if x.1=m then dval x.2 else 0:=by
 induction l with
 |nil=>simp only[gN,bR,bu];grind
 | cons y l ih=>
   unfold gN;split
   . simp only[bR,ih];grind
   . split
     . rename_i h e
       simp only[bR,bu,e];split<;>grind
     . simp only[bR,bu];grind
def atL (l:List Trm)(x:Trm):∀y∈gN l x,y.1=x.1\/∃z∈l,z.1=y.1:=by
 induction l with
 |nil=>intro y hy;simp only[gN,List.mem_singleton]at hy;rw[hy];exact .inl rfl
 | cons z l ih=>
   intro y hy;unfold gN at hy;split at hy
   . rcases List.mem_cons.1 hy with rfl|hy
     . exact .inr ⟨y,by simp,rfl⟩
     . rcases ih y hy with h|⟨u,hu,e⟩
       . exact .inl h
       . exact .inr ⟨u,by simp[hu],e⟩
   . split at hy
     . rcases List.mem_cons.1 hy with rfl|hy
       . exact .inl rfl
       . exact .inr ⟨y,by simp[hy],rfl⟩
     . rcases List.mem_cons.1 hy with rfl|hy
       . exact .inl rfl
       . exact .inr ⟨y,hy,rfl⟩
def atO (l:List Trm)(x:Trm)(h:Up l):Up (gN l x):=by
 induction l with
 |nil=>exact List.pairwise_singleton _ _
 | cons y l ih=>
   obtain⟨h1,h2⟩:=List.pairwise_cons.1 h;unfold gN;split
   . rename_i hy
     refine List.pairwise_cons.2 ⟨λz hz=>?_,ih h2⟩;rcases atL l x z hz with e|⟨u,hu,e⟩
     . rw[e];exact hy
     . rw[<-e];exact h1 u hu
   . rename_i hy
     split
     . rename_i e
       refine List.pairwise_cons.2 ⟨λz hz=>?_,h2⟩;show Op.bytesLess x.1 z.1=true
       rw[<-e];exact h1 z hz
     . rename_i e
       have hlt:Op.bytesLess x.1 y.1=true:=by
        cases hc:Op.bytesLess x.1 y.1 with
        |true=>rfl
        |false=>exact absurd (CN (by simpa using hy) hc) e
       refine List.pairwise_cons.2 ⟨λz hz=>?_,h⟩;show Op.bytesLess x.1 z.1=true
       rcases List.mem_cons.1 hz with rfl|hz
       . exact hlt
       . exact FT hlt (h1 z hz)
def atK (l:List Trm)(x:Trm):(gN l x).length<=l.length+1:=by
 induction l with
 |nil=>exact Nat.le_refl _
 | cons y l ih=>
   unfold gN;split
   . simp only[List.length_cons];omega
   . split<;>simp
def iw (l:List Trm):List Trm:=l.foldl gN []
def En (l:List Trm)(x:Trm):iw (l++[x])=gN (iw l) x:=by unfold iw;rw[List.foldl_append];rfl
def Jw {Q:List Trm->Prop}(h0:Q [])(h1:∀l x,Q l->Q (l++[x]))(l:List Trm):Q l:=by
 have h:∀r:List Trm,Q r.reverse:=by
  intro r;induction r with
  |nil=>exact h0
  |cons x r ih=>rw[List.reverse_cons];exact h1 _ _ ih
 have:=h l.reverse;rwa [List.reverse_reverse]at this
def atT (l:List Trm):Up (iw l):=Jw (Q:=λl=>Up (iw l)) List.Pairwise.nil (λl x ih=>by rw[En];exact atO _ _ ih) l
def ame (l:List Trm)(m:List UInt8):bR (iw l) m=bR l m:=Jw (Q:=λl=>bR (iw l) m=bR l m) rfl (λl x ih=>by rw[En,amd,ih,Ai];simp only[bR];grind) l
def atQ (l:List Trm):(iw l).length<=l.length:=Jw (Q:=λl=>(iw l).length<=l.length) (Nat.le_refl _) (λl x ih=>by rw[En];have:=atK (iw l) x;simp;omega) l
def atJ (l:List Trm)(x:Trm)(h:∀t∈l,t.2=canon (dval t.2)):∀t∈gN l x,t.2=canon (dval t.2):=by
 have hc:∀X:Dyadic,canon X=canon (dval (canon X)):=λX=>by rw[bu]
 induction l with
 |nil=>intro t ht;simp only[gN,List.mem_singleton]at ht;rw[ht];exact hc _
 | cons y l ih=>
   intro t ht;unfold gN at ht;split at ht
   . rcases List.mem_cons.1 ht with rfl|ht
     . exact h _ zm
     . exact ih (λt ht=>h t (by simp[ht])) t ht
   . split at ht
     . rcases List.mem_cons.1 ht with rfl|ht
       . exact hc _
       . exact h t (by simp[ht])
     . rcases List.mem_cons.1 ht with rfl|ht
       . exact hc _
       . exact h t ht
def ae6 (l:List Trm):∀t∈iw l,t.2=canon (dval t.2):=Jw (Q:=λl=>∀t∈iw l,t.2=canon (dval t.2)) (λt ht=>by cases ht) (λl x ih=>by rw[En];exact atJ _ _ ih) l
def aon (l:List Trm):(iw l).filter gy=aU l:=by refine Rs ⟨List.Pairwise.filter _ (atT l),λx hx=>?_⟩ (jJ l) (λm=>by rw[Zj,ame,rA]);obtain⟨h1,h2⟩:=List.mem_filter.1 hx;refine⟨(ye _).1 ?_,ae6 l x h1⟩;unfold gy at h2;simpa using h2
end Go.Proofs.YtpfgffadgkkedaaGreatDoor
