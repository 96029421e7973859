/- Arguments opened: domains,bytes. -/
import Derived.Test.YtpfgffadgkkedaaGreatDoorZ35
import Derived.Test.YtpfgffadgkkedaaGreatDoorZ14
import Derived.Test.YtpfgffadgkkedaaGreatDoorZ24
set_option linter.all false
set_option maxRecDepth 100000
set_option maxHeartbeats 16000000
namespace Go.Proofs.YtpfgffadgkkedaaGreatDoor
open Go.ChangeShapes Go.WideShapes Go.ChangeAt Go.RowKit Go.Joins Go.Deep
section
variable {H:Type} {enc:TypeId×Value->H} {w:World} {base:Nat} {spare:Nat->Bool} {held:Bool}
def Vs :Tryz.prog.cellsOf 88=6:=by kernel_rfl
def apw {fuel:Nat}{cs:List Value}{x:DataW H×List MemPlace}(h:DataW.trod enc Tryz.prog w base spare held fuel 88 cs=some x):∃r:Raw×Raw,cs=fA r:=by
 obtain⟨xs,n,rfl,hx,hlen,hxl,hf⟩:=DataW.trod_struct Tryz.underlying88 h;rw[Vs]at hlen;match cs,hlen with
 | [c0,c1,c2,c3,c4,c5],_=>
   match xs,hxl with
   |[y0,y1],_=>have h0:DataW.trod enc Tryz.prog w base spare held n 45 (List.take (Tryz.prog.cellsOf 45) (List.drop 0 [c0,c1,c2,c3,c4,c5]))=some y0:=hf 0 _ rfl;have h1:DataW.trod enc Tryz.prog w base spare held n 45 (List.take (Tryz.prog.cellsOf 45) (List.drop 3 [c0,c1,c2,c3,c4,c5]))=some y1:=hf 1 _ rfl;rw[Gp]at h0 h1;have h0':DataW.trod enc Tryz.prog w base spare held n 45 [c0,c1,c2]=some y0:=h0;have h1':DataW.trod enc Tryz.prog w base spare held n 45 [c3,c4,c5]=some y1:=h1;obtain⟨⟨s,m,e⟩,r1⟩:=JF h0';obtain⟨⟨t,l,f⟩,r2⟩:=JF h1';simp only[aY,List.cons.injEq,and_true]at r1 r2;obtain⟨rfl,rfl,rfl⟩:=r1;obtain⟨rfl,rfl,rfl⟩:=r2;exact⟨((s,m,e),(t,l,f)),rfl⟩
def apq {fuel:Nat}{v:Value}{x:DataW H×List MemPlace}(h:DataW.trod enc Tryz.prog w base spare held fuel 23 [v]=some x):∃(a:Option Addr) (L cap:Nat) (bx:List (Raw×Raw)),v=.slice a L cap/\bx.length=L/\Sl a L cap/\At w a (bx.flatMap fA):=by
 rcases open_slice Tryz.underlying23 h with⟨hcs,_⟩ |⟨a,len,cap,m,n,D,Pl,hcs,_,hl,_,hm,_,hi⟩
 . simp only[List.cons.injEq,and_true]at hcs;exact⟨none,0,0,[],hcs,rfl,Sl.nil,.inl rfl⟩
 . simp only[List.cons.injEq,and_true]at hcs;have hlm:len<=m:=by rw[hm];split<;>omega
   obtain⟨bx,hr,hP⟩:=Ep (P:=λi (r:Raw×Raw)=>∀j,j<6->w.cell? (a.add (i*6+j))=(fA r)[j]?) len (λi hil=>by
    obtain⟨cs',hc,ht⟩:=hi i zo;rw[Vs]at hc;obtain⟨_,hcl,hat⟩:=World.cells?_some hc;obtain⟨r,rfl⟩:=apw ht;refine⟨r,λj hj=>?_⟩;rw[<-Go.Deep.add_add]
    exact hat j hj)
   refine⟨some a,len,cap,bx,hcs,hr,Sl.some _ _ _ zo,?_⟩;by_cases h0:len=0
   . have:bx=[]:=List.length_eq_zero_iff.1 (hr.trans h0);subst this;exact .inl rfl
   . obtain⟨b,off,spot⟩:=a;have hspot:spot=none:=by have:=hP 0 zo 0 zd;have h2:=World.cell?_spot (this.trans (show(fA bx[0])[0]?=some (ag bx[0].1.1)from rfl));simpa[Addr.add]using h2
     subst hspot;refine .inr ⟨b,off,rfl,λj hj=>?_⟩;rw[jJ fA 6 (λ_=>rfl)]at hj;have h1:j/6<bx.length:=by omega
     have h2:=hP (j/6) h1 (j%6) zo;have h3:=flat_get fA 6 (λ_=>rfl) bx (j/6) (j%6) h1 zo;rw[show j/6*6+j%6=j by omega]at h2 h3;rw[h3,<-h2];cases j<;>rfl
def apv {fuel:Nat}{v:Value}{x:DataW H×List MemPlace}(h:DataW.trod enc Tryz.prog w base spare held fuel 25 [v]=some x):
 ∃(a:Option Addr) (n cap:Nat) (rows:List (List Raw)),v=.slice a n cap/\rows.length=n/\Sl a n cap/\sP w a rows:=by
 rcases open_slice1 Tryz.underlying25 ajn h with⟨hcs,_⟩ |⟨a,len,cap,m,n,V,D,Pl,hcs,_,hl,_,hm,_,hi⟩
 . simp only[List.cons.injEq,and_true]at hcs;exact⟨none,0,0,[],hcs,rfl,Sl.nil,[],rfl,.inl rfl,λi hi=>by simp at hi⟩
 . simp only[List.cons.injEq,and_true]at hcs;have hlm:len<=m:=by rw[hm];split<;>omega
   obtain⟨rows,hr,hP⟩:=Ep (P:=λi (r:List Raw)=>Pc w (V i) r) len (λi hil=>apt Tryz.underlying63 (hi i zo).2);refine⟨some a,len,cap,rows,hcs,hr,Sl.some _ _ _ hl,(List.range len).map V,by simp[hr],?_,λi h1 h2=>?_⟩
   . by_cases h0:len=0
     . subst h0;exact .inl rfl
     . obtain⟨b,off,spot⟩:=a;have hspot:spot=none:=by have h2:=World.cell?_spot (hi 0 zo).1;simpa[Addr.add]using h2
       subst hspot;refine .inr ⟨b,off,rfl,λj hj=>?_⟩;rw[List.length_map,List.length_range]at hj;have h2:=(hi j zo).1;rw[List.getElem?_map,List.getElem?_range hj];rw[show(⟨b,off+j,none⟩:Addr)=(⟨b,off,none⟩:Addr).add j by unfold Addr.add;cases j<;>rfl];exact h2
   . rw[List.getElem_map,List.getElem_range];exact hP i h1
def aps {r:Reach}{b0:Nat}{v:Value}{d:DataW H}{p:List MemPlace}(hv:Value.okWide Tryz.prog w r b0 27 v)(h:DataW.Trod enc Tryz.prog w base spare held 27 v d p):
 ∃(a:Option Addr) (n cap:Nat) (bx:List (Raw×Raw)) (a':Option Addr) (m cap':Nat) (rows:List (List Raw)),v=.agg #[.slice a n cap,.slice a' m cap']/\bx.length=n/\At w a (bx.flatMap fA)/\rows.length=m/\m<=cap'/\sP w a' rows:=by
 obtain⟨v0,v1,y0,y1,n,rfl,_,_,h0,h1⟩:=open_agg2 Tryz.underlying27 zk zk hv h;obtain⟨a,L,cap,bx,rfl,hb,_,ha⟩:=apq h0;obtain⟨a',m,cap',rows,rfl,hr,hs,ht⟩:=apv h1;exact⟨a,L,cap,bx,a',m,cap',rows,rfl,hb,ha,hr,hs.1,ht⟩
def ajo :Tryz.prog.cellsOf 5=1:=by kernel_rfl
def apr {r:Reach}{b0:Nat}{v:Value}{d:DataW H}{p:List MemPlace}(hv:Value.okWide Tryz.prog w r b0 59 v)(h:DataW.Trod enc Tryz.prog w base spare held 59 v d p):
 ∃(a:Option Addr) (n cap:Nat) (tb:List UInt8),v=.slice a n cap/\tb.length=n/\At w a (ja tb):=by
 obtain⟨fuel,hf⟩:=h;have hc:v.cells.toList=[v]:=by cases v<;>simp_all[Value.okWide,Tryz.underlying59,Cell.okWide,Cell.ok,Value.cells]
 rw[hc]at hf;rcases open_slice1 Tryz.underlying59 ajo hf with⟨hcs,_⟩ |⟨a,len,cap,m,n,V,D,Pl,hcs,_,hl,_,hm,_,hi⟩
 . simp only[List.cons.injEq,and_true]at hcs;exact⟨none,0,0,[],hcs,rfl,.inl rfl⟩
 . simp only[List.cons.injEq,and_true]at hcs;have hlm:len<=m:=by rw[hm];split<;>omega
   obtain⟨tb,hr,hP⟩:=Ep (P:=λi (x:UInt8)=>V i=.int .u8 (x.toNat:Int)) len (λi hil=>by
    obtain⟨e,he,_,hwf⟩:=DataW.trod_int Tryz.underlying5 (hi i zo).2;simp only[List.cons.injEq,and_true]at he;have hw:0<=e/\e<=255:=by simp[Lit.wf]at hwf;exact hwf
    refine⟨UInt8.ofNat e.toNat,?_⟩;rw[he,UInt8.toNat_ofNat'];congr 1
    omega)
   refine⟨some a,len,cap,tb,hcs,hr,?_⟩;by_cases h0:len=0
   . have:tb=[]:=List.length_eq_zero_iff.1 (hr.trans h0);subst this;exact .inl rfl
   . obtain⟨b,off,spot⟩:=a;have hspot:spot=none:=by have h2:=World.cell?_spot (hi 0 zo).1;simpa[Addr.add]using h2
     subst hspot;refine .inr ⟨b,off,rfl,λj hj=>?_⟩;unfold ja at hj⊢;rw[List.length_map]at hj;have h2:=(hi j zo).1;rw[hP j hj]at h2;rw[List.getElem?_map,List.getElem?_eq_getElem hj,Option.map_some];rw[show(⟨b,off+j,none⟩:Addr)=(⟨b,off,none⟩:Addr).add j by unfold Addr.add;cases j<;>rfl];exact h2
end
end Go.Proofs.YtpfgffadgkkedaaGreatDoor
