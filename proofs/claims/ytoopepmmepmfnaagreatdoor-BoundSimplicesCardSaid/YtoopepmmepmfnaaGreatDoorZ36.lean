/- Arguments opened: boxes. -/
import Derived.Test.YtoopepmmepmfnaaGreatDoorZ19
import Derived.Test.YtoopepmmepmfnaaGreatDoorZ13
import Derived.Test.YtoopepmmepmfnaaGreatDoorCards
import Derived.ProofKit
import Derived.OpenShut
import Derived.LaidMore
import Derived.Lay
import Derived.Carry
import Derived.Deep.Slices
import Derived.Lib.SmallJoins
import Derived.Lib.LaidTab
import Derived.SevenTiedAt
import Derived.Stop.Joined
set_option linter.unusedVariables false
set_option linter.unusedSimpArgs false
set_option maxRecDepth 100000
set_option maxHeartbeats 16000000
namespace Go.Proofs.YtoopepmmepmfnaaGreatDoor
open Go.ChangeShapes Go.WideShapes Go.ChangeAt Go.RowKit Go.Joins Go.Deep
theorem own :ownKnob Tryz.prog.godebug=none:=by kernel_rfl
theorem laidOut :laidOutB Tryz.prog=true:=by kernel_rfl
theorem abc {α:Type}{P:Nat->α->Prop}(n:Nat)(h:∀i,i<n->∃x,P i x):∃l:List α,l.length=n/\∀i (hi:i<l.length),P i l[i]:=by
 induction n with
 |zero=>exact⟨[],rfl,λi hi=>by simp at hi⟩
 | succ n ih=>
   obtain⟨l,hl,hP⟩:=ih (λi hi=>h i zo);obtain⟨x,hx⟩:=h n zo;refine⟨l++[x],by simp[hl],λi hi=>?_⟩;by_cases h1:i<l.length
   . rw[List.getElem_append_left h1];exact hP i h1
   . have:i=n:=by simp at hi;omega
     subst this;rw[List.getElem_append_right zo];simpa[hl]using hx
section
variable {H:Type} {enc:TypeId×Value->H} {w:World} {base:Nat} {spare:Nat->Bool} {held:Bool}
theorem Wq :Tryz.prog.cellsOf 39=3:=by kernel_rfl
theorem aiQ :Tryz.prog.cellsOf 32=2:=by kernel_rfl
theorem aiP :Tryz.prog.cellsOf 3=1:=by kernel_rfl
theorem aiO :Tryz.prog.cellsOf 4=1:=by kernel_rfl
theorem aiS :Tryz.prog.cellsOf 9=1:=by kernel_rfl
theorem abY {fuel:Nat}{cs:List Value}{x:DataW H×List MemPlace}(h:DataW.trod enc Tryz.prog w base spare held fuel 39 cs=some x):∃r:Raw,cs=bI r:=by
 obtain⟨xs,n,rfl,hx,hlen,hxl,hf⟩:=DataW.trod_struct Tryz.underlying39 h;rw[Wq]at hlen;match cs,hlen with
 | [c0,c1,c2],_=>
   match xs,hxl with
   | [y0,y1],_=>
     have h0:DataW.trod enc Tryz.prog w base spare held n 32 (List.take (Tryz.prog.cellsOf 32) (List.drop 0 [c0,c1,c2]))=some y0:=hf 0 _ rfl;have h1:DataW.trod enc Tryz.prog w base spare held n 3 (List.take (Tryz.prog.cellsOf 3) (List.drop 2 [c0,c1,c2]))=some y1:=hf 1 _ rfl;rw[aiQ]at h0;rw[aiP]at h1;have h0':DataW.trod enc Tryz.prog w base spare held n 32 [c0,c1]=some y0:=h0;have h1':DataW.trod enc Tryz.prog w base spare held n 3 [c2]=some y1:=h1;obtain⟨e,he,_,_⟩:=DataW.trod_int Tryz.underlying3 h1';obtain⟨zs,m,rfl,_,_,hzl,hg⟩:=DataW.trod_struct Tryz.underlying32 h0';match zs,hzl with
     |[z0,z1],_=>have g0:DataW.trod enc Tryz.prog w base spare held m 4 (List.take (Tryz.prog.cellsOf 4) (List.drop 0 [c0,c1]))=some z0:=hg 0 _ rfl;have g1:DataW.trod enc Tryz.prog w base spare held m 9 (List.take (Tryz.prog.cellsOf 9) (List.drop 1 [c0,c1]))=some z1:=hg 1 _ rfl;rw[aiO]at g0;rw[aiS]at g1;have g0':DataW.trod enc Tryz.prog w base spare held m 4 [c0]=some z0:=g0;have g1':DataW.trod enc Tryz.prog w base spare held m 9 [c1]=some z1:=g1;obtain⟨s,hs,_⟩:=DataW.trod_bool Tryz.underlying4 g0';obtain⟨l,hl,_,_⟩:=DataW.trod_string Tryz.underlying9 g1';simp only[List.cons.injEq,and_true]at he hs hl;subst he hs hl;exact⟨(s,l.data.toList,e),by simp[bI,bs]⟩
theorem abZ {r:Reach}{b0:Nat}{v:Value}{d:DataW H}{p:List MemPlace}(hv:Value.okWide Tryz.prog w r b0 39 v)(h:DataW.Trod enc Tryz.prog w base spare held 39 v d p):∃(s:Bool) (l:List UInt8) (e:Int),v=.agg #[ag s,ah l,af e]:=by obtain⟨cs,rfl,_⟩:=okWide_struct Tryz.underlying39 hv;obtain⟨fuel,hf⟩:=h;obtain⟨⟨s,l,e⟩,hr⟩:=abY hf;refine⟨s,l,e,?_⟩;have h2:cs.toList=[ag s,ah l,af e]:=hr;rw[<-Array.toList_inj.1 (show cs.toList=(#[ag s,ah l,af e]:Array Value).toList from h2)]
theorem aiR :Tryz.prog.cellsOf 50=1:=by kernel_rfl
theorem aoz {t:TypeId}{fuel:Nat}{v:Value}{x:DataW H×List MemPlace}(hu:Tryz.prog.underlying t=some (.slice 39))(h:DataW.trod enc Tryz.prog w base spare held fuel t [v]=some x):∃cM:List Raw,Pc w v cM:=by
 rcases open_slice hu h with⟨hcs,_⟩ |⟨a,len,cap,m,n,D,Pl,hcs,_,hl,_,hm,_,hi⟩
 . simp only[List.cons.injEq,and_true]at hcs;exact⟨[],none,0,hcs,.inl rfl,Sl.nil⟩
 . simp only[List.cons.injEq,and_true]at hcs;have hlm:len<=m:=by rw[hm];split<;>omega
   obtain⟨cM,hr,hP⟩:=abc (P:=λi (r:Raw)=>∀j,j<3->w.cell? (a.add (i*3+j))=(bI r)[j]?) len (λi hil=>by
    obtain⟨cs',hc,ht⟩:=hi i zo;rw[Wq]at hc;obtain⟨_,hcl,hat⟩:=World.cells?_some hc;obtain⟨r,rfl⟩:=abY ht;refine⟨r,λj hj=>?_⟩;rw[<-Go.Deep.add_add]
    exact hat j hj)
   refine⟨cM,some a,cap,by rw[hr];exact hcs,?_,Sl.some _ _ _ zo⟩;by_cases h0:len=0
   . have:cM=[]:=List.length_eq_zero_iff.1 (hr.trans h0);subst this;exact .inl rfl
   . obtain⟨b,off,spot⟩:=a;have hspot:spot=none:=by have:=hP 0 zo 0 zd;have h2:=World.cell?_spot (this.trans (show(bI cM[0])[0]?=some (ag cM[0].1)from rfl));simpa[Addr.add]using h2
     subst hspot;refine .inr ⟨b,off,rfl,λj hj=>?_⟩;rw[nM bI 3 (λ_=>rfl)]at hj;have h1:j/3<cM.length:=by omega
     have h2:=hP (j/3) h1 (j%3) zo;have h3:=flat_get bI 3 (λ_=>rfl) cM (j/3) (j%3) h1 zo;rw[show j/3*3+j%3=j by omega]at h2 h3;rw[h3,<-h2];cases j<;>rfl
theorem aoA {r:Reach}{b0:Nat}{v:Value}{d:DataW H}{p:List MemPlace}(hv:Value.okWide Tryz.prog w r b0 48 v)(h:DataW.Trod enc Tryz.prog w base spare held 48 v d p):
 ∃(a:Option Addr) (n cap:Nat) (rows:List (List Raw)),v=.slice a n cap/\rows.length=n/\Sl a n cap/\mG w a rows:=by
 obtain⟨fuel,hf⟩:=h;have hc:v.cells.toList=[v]:=by cases v<;>simp_all[Value.okWide,Tryz.underlying48,Cell.okWide,Cell.ok,Value.cells]
 rw[hc]at hf;rcases open_slice1 Tryz.underlying48 aiR hf with⟨hcs,_⟩ |⟨a,len,cap,m,n,V,D,Pl,hcs,_,hl,_,hm,_,hi⟩
 . simp only[List.cons.injEq,and_true]at hcs;exact⟨none,0,0,[],hcs,rfl,Sl.nil,[],rfl,.inl rfl,λi hi=>by simp at hi⟩
 . simp only[List.cons.injEq,and_true]at hcs;have hlm:len<=m:=by rw[hm];split<;>omega
   obtain⟨rows,hr,hP⟩:=abc (P:=λi (r:List Raw)=>Pc w (V i) r) len (λi hil=>aoz Tryz.underlying50 (hi i zo).2);refine⟨some a,len,cap,rows,hcs,hr,Sl.some _ _ _ hl,(List.range len).map V,by simp[hr],?_,λi h1 h2=>?_⟩
   . by_cases h0:len=0
     . subst h0;exact .inl rfl
     . obtain⟨b,off,spot⟩:=a;have hspot:spot=none:=by have h2:=World.cell?_spot (hi 0 zo).1;simpa[Addr.add]using h2
       subst hspot;refine .inr ⟨b,off,rfl,λj hj=>?_⟩;rw[List.length_map,List.length_range]at hj;have h2:=(hi j zo).1;rw[List.getElem?_map,List.getElem?_range hj];rw[show(⟨b,off+j,none⟩:Addr)=(⟨b,off,none⟩:Addr).add j by unfold Addr.add;cases j<;>rfl];exact h2
   . rw[List.getElem_map,List.getElem_range];exact hP i h1
end
abbrev listed :List (String×DataW Unit):=[("math/bits.deBruijn64tab",Rows.laid_math_bits_deBruijn64tab),("unicode/utf8.acceptRanges",Rows.laid_unicode_utf8_acceptRanges),("unicode/utf8.first",Rows.laid_unicode_utf8_first)]
theorem arc {W:World}(h:laidMetH Tryz.prog listed W):aH W:=by
 rw[MakeChecks.laidMetH_plain _ _ _ zk]at h;have hg:Tryz.prog.globalNamed "math/bits.deBruijn64tab" =some 0:=by kernel_rfl
 have hT:=Lib.tabIs_of_head (zs:=Lib.deBruijn64tab.map λ(n:Nat)=>(n:Int)) (k:=.u8) hg zk Tryz.underlying190 Tryz.underlying5 zk zk h;intro j hj;rw[hT.cell hg j (by rw[List.length_map];exact hj)];simp only[List.getD_eq_getElem?_getD,List.getElem?_map,List.getElem?_eq_getElem hj,Option.map_some,Option.getD_some]
theorem am2 (os:Os)(args:Array Value):laidMetH Tryz.prog listed ((World.laidAll Tryz.prog os listed).forCall (λ_ _=>0) ⟨#[],args,[]⟩).memory:=by rw[MakeChecks.laidMetH_plain _ _ _ zk];exact laidMet_laidAll _ zk zk
end Go.Proofs.YtoopepmmepmfnaaGreatDoor
