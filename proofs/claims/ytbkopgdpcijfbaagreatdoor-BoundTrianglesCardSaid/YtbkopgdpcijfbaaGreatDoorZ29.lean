/- Arguments opened: polynomials with their room,numbers. -/
import Derived.Test.YtbkopgdpcijfbaaGreatDoorZ28
import Derived.Test.YtbkopgdpcijfbaaGreatDoorZ15
set_option linter.all false
set_option maxRecDepth 100000
set_option maxHeartbeats 16000000
namespace Go.Proofs.YtbkopgdpcijfbaaGreatDoor
open Go.ChangeShapes Go.WideShapes Go.ChangeAt Go.RowKit Go.Joins Go.Deep
section
variable {H:Type} {enc:TypeId×Value->H} {w:World} {base:Nat} {spare:Nat->Bool} {held:Bool}
def axs {fuel:Nat}{v:Value}{x:DataW H×List MemPlace}(h:DataW.trod enc Tryz.prog w base spare held fuel 22 [v]=some x):
 ∃(a:Option Addr) (n cap:Nat) (ts:List Trm),v=.slice a n cap/\ts.length=n/\At w a (ts.flatMap aY)/\Sl a n cap/\∀t∈ts,t.1.length<=9223372036854775807:=by
 rcases open_slice Tryz.underlying22 h with⟨hcs,_⟩ |⟨a,len,cap,m,n,D,Pl,hcs,_,hl,_,hm,_,hi⟩
 . simp only[List.cons.injEq,and_true]at hcs;exact⟨none,0,0,[],hcs,rfl,.inl rfl,Sl.nil,λt ht=>by cases ht⟩
 . simp only[List.cons.injEq,and_true]at hcs;have hlm:len<=m:=by rw[hm];split<;>omega
   obtain⟨ts,hr,hP⟩:=Wv (P:=λi (r:Trm)=>(∀j,j<4->w.cell? (a.add (i*4+j))=(aY r)[j]?)/\r.1.length<=9223372036854775807) len (λi hil=>by
    obtain⟨cs',hc,ht⟩:=hi i zo;rw[abM]at hc;obtain⟨_,hcl,hat⟩:=World.cells?_some hc;obtain⟨r,rfl,hr⟩:=axr ht;refine⟨r,λj hj=>?_,hr⟩;rw[<-Go.Deep.add_add]
    exact hat j hj)
   refine⟨some a,len,cap,ts,hcs,hr,?_,Sl.some _ _ _ zo,λt ht=>by
    obtain⟨i,hi,rfl⟩:=List.mem_iff_getElem.1 ht
    exact(hP i hi).2⟩
   by_cases h0:len=0
   . have:ts=[]:=List.length_eq_zero_iff.1 (hr.trans h0);subst this;exact .inl rfl
   . obtain⟨b,off,spot⟩:=a;have hspot:spot=none:=by have:=(hP 0 zo).1 0 zd;have h2:=World.cell?_spot (this.trans (show(aY ts[0])[0]?=some (.string (bs ts[0].1))from rfl));simpa[Addr.add]using h2
     subst hspot;refine .inr ⟨b,off,rfl,λj hj=>?_⟩;rw[kQ aY 4 (λ_=>rfl)]at hj;have h1:j/4<ts.length:=by omega
     have h2:=(hP (j/4) h1).1 (j%4) zo;have h3:=flat_get aY 4 (λ_=>rfl) ts (j/4) (j%4) h1 zo;rw[show j/4*4+j%4=j by omega]at h2 h3;rw[h3,<-h2];cases j<;>rfl
end
section
variable {H:Type} {enc:TypeId×Value->H} {w:World} {base:Nat} {spare:Nat->Bool} {held:Bool}
def axo {t:TypeId}{fuel:Nat}{v:Value}{x:DataW H×List MemPlace}(hu:Tryz.prog.underlying t=some (.slice 30))(h:DataW.trod enc Tryz.prog w base spare held fuel t [v]=some x):∃aS:List Raw,Pc w v aS:=by
 rcases open_slice hu h with⟨hcs,_⟩ |⟨a,len,cap,m,n,D,Pl,hcs,_,hl,_,hm,_,hi⟩
 . simp only[List.cons.injEq,and_true]at hcs;exact⟨[],none,0,hcs,.inl rfl,Sl.nil⟩
 . simp only[List.cons.injEq,and_true]at hcs;have hlm:len<=m:=by rw[hm];split<;>omega
   obtain⟨aS,hr,hP⟩:=Wv (P:=λi (r:Raw)=>∀j,j<3->w.cell? (a.add (i*3+j))=(bu r)[j]?) len (λi hil=>by
    obtain⟨cs',hc,ht⟩:=hi i zo;rw[SX]at hc;obtain⟨_,hcl,hat⟩:=World.cells?_some hc;obtain⟨r,rfl⟩:=WX ht;refine⟨r,λj hj=>?_⟩;rw[<-Go.Deep.add_add]
    exact hat j hj)
   refine⟨aS,some a,cap,by rw[hr];exact hcs,?_,Sl.some _ _ _ zo⟩;by_cases h0:len=0
   . have:aS=[]:=List.length_eq_zero_iff.1 (hr.trans h0);subst this;exact .inl rfl
   . obtain⟨b,off,spot⟩:=a;have hspot:spot=none:=by have:=hP 0 zo 0 zd;have h2:=World.cell?_spot (this.trans (show(bu aS[0])[0]?=some (ag aS[0].1)from rfl));simpa[Addr.add]using h2
     subst hspot;refine .inr ⟨b,off,rfl,λj hj=>?_⟩;rw[kQ bu 3 (λ_=>rfl)]at hj;have h1:j/3<aS.length:=by omega
     have h2:=hP (j/3) h1 (j%3) zo;have h3:=flat_get bu 3 (λ_=>rfl) aS (j/3) (j%3) h1 zo;rw[show j/3*3+j%3=j by omega]at h2 h3;rw[h3,<-h2];cases j<;>rfl
def axq {r:Reach}{b0:Nat}{v:Value}{d:DataW H}{p:List MemPlace}(hv:Value.okWide Tryz.prog w r b0 26 v)(h:DataW.Trod enc Tryz.prog w base spare held 26 v d p):
 ∃(a:Option Addr) (n cap:Nat) (rows:List (List Raw)),v=.slice a n cap/\rows.length=n/\Sl a n cap/\xO w a rows:=by
 obtain⟨fuel,hf⟩:=h;have hc:v.cells.toList=[v]:=by cases v<;>simp_all[Value.okWide,Tryz.underlying26,Cell.okWide,Cell.ok,Value.cells]
 rw[hc]at hf;rcases open_slice1 Tryz.underlying26 apW hf with⟨hcs,_⟩ |⟨a,len,cap,m,n,V,D,Pl,hcs,_,hl,_,hm,_,hi⟩
 . simp only[List.cons.injEq,and_true]at hcs;exact⟨none,0,0,[],hcs,rfl,Sl.nil,[],rfl,.inl rfl,λi hi=>by simp at hi⟩
 . simp only[List.cons.injEq,and_true]at hcs;have hlm:len<=m:=by rw[hm];split<;>omega
   obtain⟨rows,hr,hP⟩:=Wv (P:=λi (r:List Raw)=>Pc w (V i) r) len (λi hil=>axo Tryz.underlying36 (hi i zo).2);refine⟨some a,len,cap,rows,hcs,hr,Sl.some _ _ _ hl,(List.range len).map V,by simp[hr],?_,λi h1 h2=>?_⟩
   . by_cases h0:len=0
     . subst h0;exact .inl rfl
     . obtain⟨b,off,spot⟩:=a;have hspot:spot=none:=by have h2:=World.cell?_spot (hi 0 zo).1;simpa[Addr.add]using h2
       subst hspot;refine .inr ⟨b,off,rfl,λj hj=>?_⟩;rw[List.length_map,List.length_range]at hj;have h2:=(hi j zo).1;rw[List.getElem?_map,List.getElem?_range hj];rw[show(⟨b,off+j,none⟩:Addr)=(⟨b,off,none⟩:Addr).add j by unfold Addr.add;cases j<;>rfl];exact h2
   . rw[List.getElem_map,List.getElem_range];exact hP i h1
end
section
variable {H:Type} {enc:TypeId×Value->H} {w:World} {base:Nat} {spare:Nat->Bool} {held:Bool}
def axp {r:Reach}{b0:Nat}{v:Value}{d:DataW H}{p:List MemPlace}(hv:Value.okWide Tryz.prog w r b0 24 v)(h:DataW.Trod enc Tryz.prog w base spare held 24 v d p):
 ∃(vi:Int) (a:Option Addr) (n cap:Nat) (ts:List Trm),v=.agg #[af vi,.slice a n cap]/\ts.length=n/\n<=9223372036854775807/\At w a (ts.flatMap aY)/\∀t∈ts,t.1.length<=9223372036854775807:=by
 obtain⟨v0,v1,y0,y1,n,rfl,_,_,h0,h1⟩:=open_agg2 Tryz.underlying24 zk zk hv h;obtain⟨vi,e0,_,_⟩:=DataW.trod_int Tryz.underlying3 h0;have hb:∀a n cap,v1=.slice a n cap->n<=9223372036854775807:=by
  intro a n cap e;subst e;rcases open_slice Tryz.underlying22 h1 with⟨hcs,_⟩ |⟨a',len,cap',m,n',D,Pl,hcs,_,hl,hx,_⟩
  . simp only[List.cons.injEq,and_true,Value.slice.injEq]at hcs;omega
  . simp only[List.cons.injEq,and_true,Value.slice.injEq]at hcs;simp only[maxLen]at hx;omega
 obtain⟨a,n,cap,ts,rfl,hr,ha,hs,hl⟩:=axs h1;simp only[List.cons.injEq,and_true]at e0;subst e0;exact⟨vi,a,n,cap,ts,rfl,hr,hb _ _ _ rfl,ha,hl⟩
def axn {r:Reach}{b0:Nat}{v:Value}{d:DataW H}{p:List MemPlace}(hv:Value.okWide Tryz.prog w r b0 30 v)(h:DataW.Trod enc Tryz.prog w base spare held 30 v d p):∃(s:Bool) (l:List UInt8) (e:Int),v=.agg #[ag s,ah l,af e]:=by obtain⟨cs,rfl,_⟩:=okWide_struct Tryz.underlying30 hv;obtain⟨fuel,hf⟩:=h;obtain⟨⟨s,l,e⟩,hr⟩:=WX hf;refine⟨s,l,e,?_⟩;have h2:cs.toList=[ag s,ah l,af e]:=hr;rw[<-Array.toList_inj.1 (show cs.toList=(#[ag s,ah l,af e]:Array Value).toList from h2)]
end
end Go.Proofs.YtbkopgdpcijfbaaGreatDoor
