/- Arguments opened: boxes. -/
import Derived.Test.YtoopepmmepmfnaaGreatDoorZ18
import Derived.Test.YtoopepmmepmfnaaGreatDoorZ13
import Derived.Test.YtoopepmmepmfnaaGreatDoorCards
import Derived.ProofKit
import Derived.OpenShut
import Derived.LaidMore
import Derived.Lay
import Derived.Carry
import Derived.Deep.Slices
import Derived.Lib.SmallJoins
import Derived.Lib.LaidTab
import Derived.SevenTiedAt
import Derived.Stop.Joined
set_option linter.unusedVariables false
set_option linter.unusedSimpArgs false
set_option maxRecDepth 100000
set_option maxHeartbeats 16000000
namespace Go.Proofs.YtoopepmmepmfnaaGreatDoor
open Go.ChangeShapes Go.WideShapes Go.ChangeAt Go.RowKit Go.Joins Go.Deep
theorem own :ownKnob Tryz.prog.godebug=none:=by kernel_rfl
theorem laidOut :laidOutB Tryz.prog=true:=by kernel_rfl
theorem Wc {α:Type}{P:Nat->α->Prop}(n:Nat)(h:∀i,i<n->∃x,P i x):∃l:List α,l.length=n/\∀i (hi:i<l.length),P i l[i]:=by
 induction n with
 |zero=>exact⟨[],rfl,λi hi=>by simp at hi⟩
 | succ n ih=>
   obtain⟨l,hl,hP⟩:=ih (λi hi=>h i zo);obtain⟨x,hx⟩:=h n zo;refine⟨l++[x],by simp[hl],λi hi=>?_⟩;by_cases h1:i<l.length
   . rw[List.getElem_append_left h1];exact hP i h1
   . have:i=n:=by simp at hi;omega
     subst this;rw[List.getElem_append_right zo];simpa[hl]using hx
section
variable {H:Type} {enc:TypeId×Value->H} {w:World} {base:Nat} {spare:Nat->Bool} {held:Bool}
theorem QV :Tryz.prog.cellsOf 39=3:=by kernel_rfl
theorem adO :Tryz.prog.cellsOf 32=2:=by kernel_rfl
theorem QU :Tryz.prog.cellsOf 3=1:=by kernel_rfl
theorem adN :Tryz.prog.cellsOf 4=1:=by kernel_rfl
theorem adP :Tryz.prog.cellsOf 9=1:=by kernel_rfl
theorem MV {fuel:Nat}{cs:List Value}{x:DataW H×List MemPlace}(h:DataW.trod enc Tryz.prog w base spare held fuel 39 cs=some x):∃r:Raw,cs=bJ r:=by
 obtain⟨xs,n,rfl,hx,hlen,hxl,hf⟩:=DataW.trod_struct Tryz.underlying39 h;rw[QV]at hlen;match cs,hlen with
 | [c0,c1,c2],_=>
   match xs,hxl with
   | [y0,y1],_=>
     have h0:DataW.trod enc Tryz.prog w base spare held n 32 (List.take (Tryz.prog.cellsOf 32) (List.drop 0 [c0,c1,c2]))=some y0:=hf 0 _ rfl;have h1:DataW.trod enc Tryz.prog w base spare held n 3 (List.take (Tryz.prog.cellsOf 3) (List.drop 2 [c0,c1,c2]))=some y1:=hf 1 _ rfl;rw[adO]at h0;rw[QU]at h1;have h0':DataW.trod enc Tryz.prog w base spare held n 32 [c0,c1]=some y0:=h0;have h1':DataW.trod enc Tryz.prog w base spare held n 3 [c2]=some y1:=h1;obtain⟨e,he,_,_⟩:=DataW.trod_int Tryz.underlying3 h1';obtain⟨zs,m,rfl,_,_,hzl,hg⟩:=DataW.trod_struct Tryz.underlying32 h0';match zs,hzl with
     |[z0,z1],_=>have g0:DataW.trod enc Tryz.prog w base spare held m 4 (List.take (Tryz.prog.cellsOf 4) (List.drop 0 [c0,c1]))=some z0:=hg 0 _ rfl;have g1:DataW.trod enc Tryz.prog w base spare held m 9 (List.take (Tryz.prog.cellsOf 9) (List.drop 1 [c0,c1]))=some z1:=hg 1 _ rfl;rw[adN]at g0;rw[adP]at g1;have g0':DataW.trod enc Tryz.prog w base spare held m 4 [c0]=some z0:=g0;have g1':DataW.trod enc Tryz.prog w base spare held m 9 [c1]=some z1:=g1;obtain⟨s,hs,_⟩:=DataW.trod_bool Tryz.underlying4 g0';obtain⟨l,hl,_,_⟩:=DataW.trod_string Tryz.underlying9 g1';simp only[List.cons.injEq,and_true]at he hs hl;subst he hs hl;exact⟨(s,l.data.toList,e),by simp[bJ,bs]⟩
theorem QW :Tryz.prog.cellsOf 61=6:=by kernel_rfl
theorem ajk {fuel:Nat}{cs:List Value}{x:DataW H×List MemPlace}(h:DataW.trod enc Tryz.prog w base spare held fuel 61 cs=some x):∃r:Raw×Raw,cs=bX r:=by
 obtain⟨xs,n,rfl,hx,hlen,hxl,hf⟩:=DataW.trod_struct Tryz.underlying61 h;rw[QW]at hlen;match cs,hlen with
 | [c0,c1,c2,c3,c4,c5],_=>
   match xs,hxl with
   |[y0,y1],_=>have h0:DataW.trod enc Tryz.prog w base spare held n 39 (List.take (Tryz.prog.cellsOf 39) (List.drop 0 [c0,c1,c2,c3,c4,c5]))=some y0:=hf 0 _ rfl;have h1:DataW.trod enc Tryz.prog w base spare held n 39 (List.take (Tryz.prog.cellsOf 39) (List.drop 3 [c0,c1,c2,c3,c4,c5]))=some y1:=hf 1 _ rfl;rw[QV]at h0 h1;have h0':DataW.trod enc Tryz.prog w base spare held n 39 [c0,c1,c2]=some y0:=h0;have h1':DataW.trod enc Tryz.prog w base spare held n 39 [c3,c4,c5]=some y1:=h1;obtain⟨⟨s,m,e⟩,r1⟩:=MV h0';obtain⟨⟨t,l,f⟩,r2⟩:=MV h1';simp only[bJ,List.cons.injEq,and_true]at r1 r2;obtain⟨rfl,rfl,rfl⟩:=r1;obtain⟨rfl,rfl,rfl⟩:=r2;exact⟨((s,m,e),(t,l,f)),rfl⟩
theorem aji {r:Reach}{b0:Nat}{v:Value}{d:DataW H}{p:List MemPlace}(hv:Value.okWide Tryz.prog w r b0 23 v)(h:DataW.Trod enc Tryz.prog w base spare held 23 v d p):∃(a:Option Addr) (L cap:Nat) (bx:List (Raw×Raw)),v=.slice a L cap/\bx.length=L/\Sl a L cap/\At w a (bx.flatMap bX):=by
 obtain⟨fuel,hf⟩:=h;have hc:v.cells.toList=[v]:=by cases v<;>simp_all[Value.okWide,Tryz.underlying23,Cell.okWide,Cell.ok,Value.cells]
 rw[hc]at hf;rcases open_slice Tryz.underlying23 hf with⟨hcs,_⟩ |⟨a,len,cap,m,n,D,Pl,hcs,_,hl,_,hm,_,hi⟩
 . simp only[List.cons.injEq,and_true]at hcs;exact⟨none,0,0,[],hcs,rfl,Sl.nil,.inl rfl⟩
 . simp only[List.cons.injEq,and_true]at hcs;have hlm:len<=m:=by rw[hm];split<;>omega
   obtain⟨bx,hr,hP⟩:=Wc (P:=λi (r:Raw×Raw)=>∀j,j<6->w.cell? (a.add (i*6+j))=(bX r)[j]?) len (λi hil=>by
    obtain⟨cs',hc,ht⟩:=hi i zo;rw[QW]at hc;obtain⟨_,hcl,hat⟩:=World.cells?_some hc;obtain⟨r,rfl⟩:=ajk ht;refine⟨r,λj hj=>?_⟩;rw[<-Go.Deep.add_add]
    exact hat j hj)
   refine⟨some a,len,cap,bx,hcs,hr,Sl.some _ _ _ zo,?_⟩;by_cases h0:len=0
   . have:bx=[]:=List.length_eq_zero_iff.1 (hr.trans h0);subst this;exact .inl rfl
   . obtain⟨b,off,spot⟩:=a;have hspot:spot=none:=by have:=hP 0 zo 0 zd;have h2:=World.cell?_spot (this.trans (show(bX bx[0])[0]?=some (.bool bx[0].1.1)from rfl));simpa[Addr.add]using h2
     subst hspot;refine .inr ⟨b,off,rfl,λj hj=>?_⟩;rw[lu bX 6 (λ_=>rfl)]at hj;have h1:j/6<bx.length:=by omega
     have h2:=hP (j/6) h1 (j%6) zo;have h3:=flat_get bX 6 (λ_=>rfl) bx (j/6) (j%6) h1 zo;rw[show j/6*6+j%6=j by omega]at h2 h3;rw[h3,<-h2];cases j<;>rfl
theorem WV {r:Reach}{b0:Nat}{v:Value}{d:DataW H}{p:List MemPlace}(hv:Value.okWide Tryz.prog w r b0 39 v)(h:DataW.Trod enc Tryz.prog w base spare held 39 v d p):∃(s:Bool) (l:List UInt8) (e:Int),v=.agg #[.bool s,.string (bs l),.int .i64 e]:=by obtain⟨cs,rfl,_⟩:=okWide_struct Tryz.underlying39 hv;obtain⟨fuel,hf⟩:=h;obtain⟨⟨s,l,e⟩,hr⟩:=MV hf;refine⟨s,l,e,?_⟩;have h2:cs.toList=[.bool s,.string (bs l),.int .i64 e]:=hr;rw[<-Array.toList_inj.1 (show cs.toList=(#[.bool s,.string (bs l),.int .i64 e]:Array Value).toList from h2)]
theorem ajj {r:Reach}{b0:Nat}{v:Value}{d:DataW H}{p:List MemPlace}(hv:Value.okWide Tryz.prog w r b0 26 v)(h:DataW.Trod enc Tryz.prog w base spare held 26 v d p):
 ∃(a:Option Addr) (n cap:Nat) (is:List Int),v=.slice a n cap/\is.length=n/\Sl a n cap/\At w a (is.map λx=>.int .i64 x):=by
 obtain⟨fuel,hf⟩:=h;have hc:v.cells.toList=[v]:=by cases v<;>simp_all[Value.okWide,Tryz.underlying26,Cell.okWide,Cell.ok,Value.cells]
 rw[hc]at hf;rcases open_slice1 Tryz.underlying26 QU hf with⟨hcs,_⟩ |⟨a,len,cap,m,n,V,D,Pl,hcs,_,hl,_,hm,_,hi⟩
 . simp only[List.cons.injEq,and_true]at hcs;exact⟨none,0,0,[],hcs,rfl,Sl.nil,.inl rfl⟩
 . simp only[List.cons.injEq,and_true]at hcs;have hlm:len<=m:=by rw[hm];split<;>omega
   obtain⟨is,hr,hP⟩:=Wc (P:=λi (x:Int)=>V i=.int .i64 x) len (λi hil=>by
    obtain⟨e,he,_,_⟩:=DataW.trod_int Tryz.underlying3 (hi i zo).2;simp only[List.cons.injEq,and_true]at he
    exact⟨e,he⟩)
   refine⟨some a,len,cap,is,hcs,hr,Sl.some _ _ _ hl,?_⟩;by_cases h0:len=0
   . have:is=[]:=List.length_eq_zero_iff.1 (hr.trans h0);subst this;exact .inl rfl
   . obtain⟨b,off,spot⟩:=a;have hspot:spot=none:=by have h2:=World.cell?_spot (hi 0 zo).1;simpa[Addr.add]using h2
     subst hspot;refine .inr ⟨b,off,rfl,λj hj=>?_⟩;rw[List.length_map]at hj;have h2:=(hi j zo).1;rw[hP j hj]at h2;rw[List.getElem?_map,List.getElem?_eq_getElem hj,Option.map_some];rw[show(⟨b,off+j,none⟩:Addr)=(⟨b,off,none⟩:Addr).add j by unfold Addr.add;cases j<;>rfl];exact h2
end
abbrev listed :List (String×DataW Unit):=[("math/bits.deBruijn64tab",Rows.laid_math_bits_deBruijn64tab),("unicode/utf8.acceptRanges",Rows.laid_unicode_utf8_acceptRanges),("unicode/utf8.first",Rows.laid_unicode_utf8_first)]
theorem alg {W:World}(h:laidMetH Tryz.prog listed W):au W:=by
 rw[MakeChecks.laidMetH_plain _ _ _ zk]at h;have hg:Tryz.prog.globalNamed "math/bits.deBruijn64tab" =some 0:=by kernel_rfl
 have hT:=Lib.tabIs_of_head (zs:=Lib.deBruijn64tab.map λ(n:Nat)=>(n:Int)) (k:=.u8) hg zk Tryz.underlying190 Tryz.underlying5 zk zk h;intro j hj;rw[hT.cell hg j (by rw[List.length_map];exact hj)];simp only[List.getD_eq_getElem?_getD,List.getElem?_map,List.getElem?_eq_getElem hj,Option.map_some,Option.getD_some]
theorem ahM (os:Os)(args:Array Value):laidMetH Tryz.prog listed ((World.laidAll Tryz.prog os listed).forCall (λ_ _=>0) ⟨#[],args,[]⟩).memory:=by rw[MakeChecks.laidMetH_plain _ _ _ zk];exact laidMet_laidAll _ zk zk
end Go.Proofs.YtoopepmmepmfnaaGreatDoor
