/- Arguments opened: numbers,forms;the listed table. -/
import Derived.Test.YtnjfebkelecgaaaGreatDoorZ17
import Derived.Test.YtnjfebkelecgaaaGreatDoorCards
import Derived.ProofKit
import Derived.OpenShut
import Derived.LaidMore
import Derived.Lay
import Derived.Carry
import Derived.Deep.Slices
import Derived.Lib.SmallJoins
import Derived.Lib.LaidTab
import Derived.SevenTiedAt
import Derived.Stop.Joined
import Derived.Test.YtnjfebkelecgaaaGreatDoorZ11
set_option linter.all false
set_option maxRecDepth 100000
set_option maxHeartbeats 16000000
namespace Go.Proofs.YtnjfebkelecgaaaGreatDoor
open Go.ChangeShapes Go.WideShapes Go.ChangeAt Go.RowKit Go.Joins Go.Deep
def own :ownKnob Tryz.prog.godebug=none:=by kernel_rfl
def laidOut :laidOutB Tryz.prog=true:=by kernel_rfl
def Ph {α:Type}{P:Nat->α->Prop}(n:Nat)(h:∀i,i<n->∃x,P i x):∃l:List α,l.length=n/\∀i (hi:i<l.length),P i l[i]:=by
 induction n with
 |zero=>exact⟨[],rfl,λi hi=>by simp at hi⟩
 | succ n ih=>
   obtain⟨l,hl,hP⟩:=ih (λi hi=>h i zo);obtain⟨x,hx⟩:=h n zo;refine⟨l++[x],by simp[hl],λi hi=>?_⟩;by_cases h1:i<l.length
   . rw[List.getElem_append_left h1];exact hP i h1
   . have:i=n:=by simp at hi;omega
     subst this;rw[List.getElem_append_right zo];simpa[hl]using hx
section
variable {H:Type} {enc:TypeId×Value->H} {w:World} {base:Nat} {spare:Nat->Bool} {held:Bool}
def MN :Tryz.prog.cellsOf 48=3:=by kernel_rfl
def apP :Tryz.prog.cellsOf 46=2:=by kernel_rfl
def apO :Tryz.prog.cellsOf 3=1:=by kernel_rfl
def apN :Tryz.prog.cellsOf 4=1:=by kernel_rfl
def ab8 :Tryz.prog.cellsOf 9=1:=by kernel_rfl
def Xx {fuel:Nat}{cs:List Value}{x:DataW H×List MemPlace}(h:DataW.trod enc Tryz.prog w base spare held fuel 48 cs=some x):∃r:Raw,cs=bG r:=by
 obtain⟨xs,n,rfl,hx,hlen,hxl,hf⟩:=DataW.trod_struct Tryz.underlying48 h;rw[MN]at hlen;match cs,hlen with
 | [c0,c1,c2],_=>
   match xs,hxl with
   | [y0,y1],_=>
     have h0:DataW.trod enc Tryz.prog w base spare held n 46 (List.take (Tryz.prog.cellsOf 46) (List.drop 0 [c0,c1,c2]))=some y0:=hf 0 _ rfl;have h1:DataW.trod enc Tryz.prog w base spare held n 3 (List.take (Tryz.prog.cellsOf 3) (List.drop 2 [c0,c1,c2]))=some y1:=hf 1 _ rfl;rw[apP]at h0;rw[apO]at h1;have h0':DataW.trod enc Tryz.prog w base spare held n 46 [c0,c1]=some y0:=h0;have h1':DataW.trod enc Tryz.prog w base spare held n 3 [c2]=some y1:=h1;obtain⟨e,he,_,_⟩:=DataW.trod_int Tryz.underlying3 h1';obtain⟨zs,m,rfl,_,_,hzl,hg⟩:=DataW.trod_struct Tryz.underlying46 h0';match zs,hzl with
     |[z0,z1],_=>have g0:DataW.trod enc Tryz.prog w base spare held m 4 (List.take (Tryz.prog.cellsOf 4) (List.drop 0 [c0,c1]))=some z0:=hg 0 _ rfl;have g1:DataW.trod enc Tryz.prog w base spare held m 9 (List.take (Tryz.prog.cellsOf 9) (List.drop 1 [c0,c1]))=some z1:=hg 1 _ rfl;rw[apN]at g0;rw[ab8]at g1;have g0':DataW.trod enc Tryz.prog w base spare held m 4 [c0]=some z0:=g0;have g1':DataW.trod enc Tryz.prog w base spare held m 9 [c1]=some z1:=g1;obtain⟨s,hs,_⟩:=DataW.trod_bool Tryz.underlying4 g0';obtain⟨l,hl,_,_⟩:=DataW.trod_string Tryz.underlying9 g1';simp only[List.cons.injEq,and_true]at he hs hl;subst he hs hl;exact⟨(s,l.data.toList,e),by simp[bG,bs]⟩
end
abbrev listed :List (String×DataW Unit):=[("math/bits.deBruijn64tab",Rows.laid_math_bits_deBruijn64tab),("unicode/utf8.acceptRanges",Rows.laid_unicode_utf8_acceptRanges),("unicode/utf8.first",Rows.laid_unicode_utf8_first)]
def azu {W:World}(h:laidMetH Tryz.prog listed W):aM W:=by
 rw[MakeChecks.laidMetH_plain _ _ _ zk]at h;have hg:Tryz.prog.globalNamed "math/bits.deBruijn64tab" =some 0:=by kernel_rfl
 have hT:=Lib.tabIs_of_head (zs:=Lib.deBruijn64tab.map λ(n:Nat)=>(n:Int)) (k:=.u8) hg zk Tryz.underlying190 Tryz.underlying5 zk zk h;intro j hj;rw[hT.cell hg j (by rw[List.length_map];exact hj)];simp only[List.getD_eq_getElem?_getD,List.getElem?_map,List.getElem?_eq_getElem hj,Option.map_some,Option.getD_some]
def auJ (os:Os)(args:Array Value):laidMetH Tryz.prog listed ((World.laidAll Tryz.prog os listed).forCall (λ_ _=>0) ⟨#[],args,[]⟩).memory:=by rw[MakeChecks.laidMetH_plain _ _ _ zk];exact laidMet_laidAll _ zk zk
section
variable {H:Type} {enc:TypeId×Value->H} {w:World} {base:Nat} {spare:Nat->Bool} {held:Bool}
def ab9 :Tryz.prog.cellsOf 67=4:=by kernel_rfl
def apQ :Tryz.prog.cellsOf 56=1:=by kernel_rfl
def aws {fuel:Nat}{cs:List Value}{x:DataW H×List MemPlace}(h:DataW.trod enc Tryz.prog w base spare held fuel 67 cs=some x):∃r:aQ,cs=aY r/\r.1.length<=9223372036854775807:=by
 obtain⟨xs,n,rfl,hx,hlen,hxl,hf⟩:=DataW.trod_struct Tryz.underlying67 h;rw[ab9]at hlen;match cs,hlen with
 | [c0,c1,c2,c3],_=>
   match xs,hxl with
   | [y0,y1],_=>
     have h0:DataW.trod enc Tryz.prog w base spare held n 9 (List.take (Tryz.prog.cellsOf 9) (List.drop 0 [c0,c1,c2,c3]))=some y0:=hf 0 _ rfl;have h1:DataW.trod enc Tryz.prog w base spare held n 48 (List.take (Tryz.prog.cellsOf 48) (List.drop 1 [c0,c1,c2,c3]))=some y1:=hf 1 _ rfl;rw[ab8]at h0;rw[MN]at h1;have h0':DataW.trod enc Tryz.prog w base spare held n 9 [c0]=some y0:=h0;have h1':DataW.trod enc Tryz.prog w base spare held n 48 [c1,c2,c3]=some y1:=h1;obtain⟨l,hl,_,hsz⟩:=DataW.trod_string Tryz.underlying9 h0';obtain⟨r,hr⟩:=Xx h1';simp only[List.cons.injEq,and_true]at hl;subst hl;refine⟨(l.data.toList,r),?_,?_⟩
     . have:aY (l.data.toList,r)=.string (bs l.data.toList)::bG r:=rfl;rw[this,<-hr];simp[bs]
     . have h3:l.data.toList.length=l.size:=Array.length_toList;have h4:l.size<=2^63-1:=hsz;show l.data.toList.length<=_
       omega
def awp {fuel:Nat}{v:Value}{x:DataW H×List MemPlace}(h:DataW.trod enc Tryz.prog w base spare held fuel 56 [v]=some x):∃cJ:List Raw,Pt w v cJ:=by
 rcases open_slice Tryz.underlying56 h with⟨hcs,_⟩ |⟨a,len,cap,m,n,D,Pl,hcs,_,hl,_,hm,_,hi⟩
 . simp only[List.cons.injEq,and_true]at hcs;exact⟨[],none,0,hcs,.inl rfl⟩
 . simp only[List.cons.injEq,and_true]at hcs;have hlm:len<=m:=by rw[hm];split<;>omega
   obtain⟨cJ,hr,hP⟩:=Ph (P:=λi (r:Raw)=>∀j,j<3->w.cell? (a.add (i*3+j))=(bG r)[j]?) len (λi hil=>by
    obtain⟨cs',hc,ht⟩:=hi i zo;rw[MN]at hc;obtain⟨_,hcl,hat⟩:=World.cells?_some hc;obtain⟨r,rfl⟩:=Xx ht;refine⟨r,λj hj=>?_⟩;rw[<-Go.Deep.add_add]
    exact hat j hj)
   refine⟨cJ,some a,cap,by rw[hr];exact hcs,?_⟩;by_cases h0:len=0
   . have:cJ=[]:=List.length_eq_zero_iff.1 (hr.trans h0);subst this;exact .inl rfl
   . obtain⟨b,off,spot⟩:=a;have hspot:spot=none:=by have:=hP 0 zo 0 zd;have h2:=World.cell?_spot (this.trans (show(bG cJ[0])[0]?=some (aj cJ[0].1)from rfl));simpa[Addr.add]using h2
     subst hspot;refine .inr ⟨b,off,rfl,λj hj=>?_⟩;rw[kj bG 3 (λ_=>rfl)]at hj;have h1:j/3<cJ.length:=by omega
     have h2:=hP (j/3) h1 (j%3) zo;have h3:=flat_get bG 3 (λ_=>rfl) cJ (j/3) (j%3) h1 zo;rw[show j/3*3+j%3=j by omega]at h2 h3;rw[h3,<-h2];cases j<;>rfl
def awr {r:Reach}{b0:Nat}{v:Value}{d:DataW H}{p:List MemPlace}(hv:Value.okWide Tryz.prog w r b0 26 v)(h:DataW.Trod enc Tryz.prog w base spare held 26 v d p):
 ∃(a:Option Addr) (n cap:Nat) (rows:List (List Raw)),v=.slice a n cap/\rows.length=n/\n<=cap/\cZ w a rows:=by
 obtain⟨fuel,hf⟩:=h;have hc:v.cells.toList=[v]:=by cases v<;>simp_all[Value.okWide,Tryz.underlying26,Cell.okWide,Cell.ok,Value.cells]
 rw[hc]at hf;rcases open_slice1 Tryz.underlying26 apQ hf with⟨hcs,_⟩ |⟨a,len,cap,m,n,V,D,Pl,hcs,_,hl,_,hm,_,hi⟩
 . simp only[List.cons.injEq,and_true]at hcs;exact⟨none,0,0,[],hcs,rfl,Nat.le_refl _,[],rfl,.inl rfl,λi hi=>by simp at hi⟩
 . simp only[List.cons.injEq,and_true]at hcs;have hlm:len<=m:=by rw[hm];split<;>omega
   obtain⟨rows,hr,hP⟩:=Ph (P:=λi (r:List Raw)=>Pt w (V i) r) len (λi hil=>awp (hi i zo).2);refine⟨some a,len,cap,rows,hcs,hr,hl,(List.range len).map V,by simp[hr],?_,λi h1 h2=>?_⟩
   . by_cases h0:len=0
     . subst h0;exact .inl rfl
     . obtain⟨b,off,spot⟩:=a;have hspot:spot=none:=by have h2:=World.cell?_spot (hi 0 zo).1;simpa[Addr.add]using h2
       subst hspot;refine .inr ⟨b,off,rfl,λj hj=>?_⟩;rw[List.length_map,List.length_range]at hj;have h2:=(hi j zo).1;rw[List.getElem?_map,List.getElem?_range hj];rw[show(⟨b,off+j,none⟩:Addr)=(⟨b,off,none⟩:Addr).add j by unfold Addr.add;cases j<;>rfl];exact h2
   . rw[List.getElem_map,List.getElem_range];exact hP i h1
end
end Go.Proofs.YtnjfebkelecgaaaGreatDoor
