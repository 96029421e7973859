/- Arguments opened: polynomials with their room,numbers. -/
import Derived.Test.YtpfgffadgkkedaaGreatDoorZ36
import Derived.Test.YtpfgffadgkkedaaGreatDoorZ14
set_option linter.all false
set_option maxRecDepth 100000
set_option maxHeartbeats 16000000
namespace Go.Proofs.YtpfgffadgkkedaaGreatDoor
open Go.ChangeShapes Go.WideShapes Go.ChangeAt Go.RowKit Go.Joins Go.Deep
section
variable {H:Type} {enc:TypeId×Value->H} {w:World} {base:Nat} {spare:Nat->Bool} {held:Bool}
def as2 {fuel:Nat}{v:Value}{x:DataW H×List MemPlace}(h:DataW.trod enc Tryz.prog w base spare held fuel 39 [v]=some x):
 ∃(a:Option Addr) (n cap:Nat) (ts:List Trm),v=.slice a n cap/\ts.length=n/\At w a (ts.flatMap aI)/\Sl a n cap/\∀t∈ts,t.1.length<=9223372036854775807:=by
 rcases open_slice Tryz.underlying39 h with⟨hcs,_⟩ |⟨a,len,cap,m,n,D,Pl,hcs,_,hl,_,hm,_,hi⟩
 . simp only[List.cons.injEq,and_true]at hcs;exact⟨none,0,0,[],hcs,rfl,.inl rfl,Sl.nil,λt ht=>by cases ht⟩
 . simp only[List.cons.injEq,and_true]at hcs;have hlm:len<=m:=by rw[hm];split<;>omega
   obtain⟨ts,hr,hP⟩:=Ed (P:=λi (r:Trm)=>(∀j,j<4->w.cell? (a.add (i*4+j))=(aI r)[j]?)/\r.1.length<=9223372036854775807) len (λi hil=>by
    obtain⟨cs',hc,ht⟩:=hi i zo;rw[Ze]at hc;obtain⟨_,hcl,hat⟩:=World.cells?_some hc;obtain⟨r,rfl,hr⟩:=as1 ht;refine⟨r,λj hj=>?_,hr⟩;rw[<-Go.Deep.add_add]
    exact hat j hj)
   refine⟨some a,len,cap,ts,hcs,hr,?_,Sl.some _ _ _ zo,λt ht=>by
    obtain⟨i,hi,rfl⟩:=List.mem_iff_getElem.1 ht
    exact(hP i hi).2⟩
   by_cases h0:len=0
   . have:ts=[]:=List.length_eq_zero_iff.1 (hr.trans h0);subst this;exact .inl rfl
   . obtain⟨b,off,spot⟩:=a;have hspot:spot=none:=by have:=(hP 0 zo).1 0 zd;have h2:=World.cell?_spot (this.trans (show(aI ts[0])[0]?=some (.string (bs ts[0].1))from rfl));simpa[Addr.add]using h2
     subst hspot;refine .inr ⟨b,off,rfl,λj hj=>?_⟩;rw[iD aI 4 (λ_=>rfl)]at hj;have h1:j/4<ts.length:=by omega
     have h2:=(hP (j/4) h1).1 (j%4) zo;have h3:=flat_get aI 4 (λ_=>rfl) ts (j/4) (j%4) h1 zo;rw[show j/4*4+j%4=j by omega]at h2 h3;rw[h3,<-h2];cases j<;>rfl
end
section
variable {H:Type} {enc:TypeId×Value->H} {w:World} {base:Nat} {spare:Nat->Bool} {held:Bool}
def asX {t:TypeId}{fuel:Nat}{v:Value}{x:DataW H×List MemPlace}(hu:Tryz.prog.underlying t=some (.slice 45))(h:DataW.trod enc Tryz.prog w base spare held fuel t [v]=some x):∃dz:List Raw,Pc w v dz:=by
 rcases open_slice hu h with⟨hcs,_⟩ |⟨a,len,cap,m,n,D,Pl,hcs,_,hl,_,hm,_,hi⟩
 . simp only[List.cons.injEq,and_true]at hcs;exact⟨[],none,0,hcs,.inl rfl,Sl.nil⟩
 . simp only[List.cons.injEq,and_true]at hcs;have hlm:len<=m:=by rw[hm];split<;>omega
   obtain⟨dz,hr,hP⟩:=Ed (P:=λi (r:Raw)=>∀j,j<3->w.cell? (a.add (i*3+j))=(aV r)[j]?) len (λi hil=>by
    obtain⟨cs',hc,ht⟩:=hi i zo;rw[FY]at hc;obtain⟨_,hcl,hat⟩:=World.cells?_some hc;obtain⟨r,rfl⟩:=Jg ht;refine⟨r,λj hj=>?_⟩;rw[<-Go.Deep.add_add]
    exact hat j hj)
   refine⟨dz,some a,cap,by rw[hr];exact hcs,?_,Sl.some _ _ _ zo⟩;by_cases h0:len=0
   . have:dz=[]:=List.length_eq_zero_iff.1 (hr.trans h0);subst this;exact .inl rfl
   . obtain⟨b,off,spot⟩:=a;have hspot:spot=none:=by have:=hP 0 zo 0 zd;have h2:=World.cell?_spot (this.trans (show(aV dz[0])[0]?=some (ag dz[0].1)from rfl));simpa[Addr.add]using h2
     subst hspot;refine .inr ⟨b,off,rfl,λj hj=>?_⟩;rw[iD aV 3 (λ_=>rfl)]at hj;have h1:j/3<dz.length:=by omega
     have h2:=hP (j/3) h1 (j%3) zo;have h3:=flat_get aV 3 (λ_=>rfl) dz (j/3) (j%3) h1 zo;rw[show j/3*3+j%3=j by omega]at h2 h3;rw[h3,<-h2];cases j<;>rfl
end
end Go.Proofs.YtpfgffadgkkedaaGreatDoor
