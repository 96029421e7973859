/- Arguments opened: domains,bytes. -/
import Derived.Test.YtpfgffadgkkedaaGreatDoorZ37
import Derived.Test.YtpfgffadgkkedaaGreatDoorZ14
import Derived.Test.YtpfgffadgkkedaaGreatDoorZ29
import Derived.Test.YtpfgffadgkkedaaGreatDoorZ19
set_option linter.all false
set_option maxRecDepth 100000
set_option maxHeartbeats 16000000
namespace Go.Proofs.YtpfgffadgkkedaaGreatDoor
open Go.ChangeShapes Go.WideShapes Go.ChangeAt Go.RowKit Go.Joins Go.Deep
section
variable {H:Type} {enc:TypeId×Value->H} {w:World} {base:Nat} {spare:Nat->Bool} {held:Bool}
def Zc :Tryz.prog.cellsOf 88=6:=by kernel_rfl
def as0 {fuel:Nat}{cs:List Value}{x:DataW H×List MemPlace}(h:DataW.trod enc Tryz.prog w base spare held fuel 88 cs=some x):∃r:Raw×Raw,cs=spC r:=by
 obtain⟨xs,n,rfl,hx,hlen,hxl,hf⟩:=DataW.trod_struct Tryz.underlying88 h;rw[Zc]at hlen;match cs,hlen with
 | [c0,c1,c2,c3,c4,c5],_=>
   match xs,hxl with
   |[y0,y1],_=>have h0:DataW.trod enc Tryz.prog w base spare held n 45 (List.take (Tryz.prog.cellsOf 45) (List.drop 0 [c0,c1,c2,c3,c4,c5]))=some y0:=hf 0 _ rfl;have h1:DataW.trod enc Tryz.prog w base spare held n 45 (List.take (Tryz.prog.cellsOf 45) (List.drop 3 [c0,c1,c2,c3,c4,c5]))=some y1:=hf 1 _ rfl;rw[FY]at h0 h1;have h0':DataW.trod enc Tryz.prog w base spare held n 45 [c0,c1,c2]=some y0:=h0;have h1':DataW.trod enc Tryz.prog w base spare held n 45 [c3,c4,c5]=some y1:=h1;obtain⟨⟨s,m,e⟩,r1⟩:=Jg h0';obtain⟨⟨t,l,f⟩,r2⟩:=Jg h1';simp only[aV,List.cons.injEq,and_true]at r1 r2;obtain⟨rfl,rfl,rfl⟩:=r1;obtain⟨rfl,rfl,rfl⟩:=r2;exact⟨((s,m,e),(t,l,f)),rfl⟩
def asS {fuel:Nat}{v:Value}{x:DataW H×List MemPlace}(h:DataW.trod enc Tryz.prog w base spare held fuel 23 [v]=some x):∃(a:Option Addr) (L cap:Nat) (bx:List (Raw×Raw)),v=.slice a L cap/\bx.length=L/\Sl a L cap/\At w a (bx.flatMap spC):=by
 rcases open_slice Tryz.underlying23 h with⟨hcs,_⟩ |⟨a,len,cap,m,n,D,Pl,hcs,_,hl,_,hm,_,hi⟩
 . simp only[List.cons.injEq,and_true]at hcs;exact⟨none,0,0,[],hcs,rfl,Sl.nil,.inl rfl⟩
 . simp only[List.cons.injEq,and_true]at hcs;have hlm:len<=m:=by rw[hm];split<;>omega
   obtain⟨bx,hr,hP⟩:=Ed (P:=λi (r:Raw×Raw)=>∀j,j<6->w.cell? (a.add (i*6+j))=(spC r)[j]?) len (λi hil=>by
    obtain⟨cs',hc,ht⟩:=hi i zo;rw[Zc]at hc;obtain⟨_,hcl,hat⟩:=World.cells?_some hc;obtain⟨r,rfl⟩:=as0 ht;refine⟨r,λj hj=>?_⟩;rw[<-Go.Deep.add_add]
    exact hat j hj)
   refine⟨some a,len,cap,bx,hcs,hr,Sl.some _ _ _ zo,?_⟩;by_cases h0:len=0
   . have:bx=[]:=List.length_eq_zero_iff.1 (hr.trans h0);subst this;exact .inl rfl
   . obtain⟨b,off,spot⟩:=a;have hspot:spot=none:=by have:=hP 0 zo 0 zd;have h2:=World.cell?_spot (this.trans (show(spC bx[0])[0]?=some (ag bx[0].1.1)from rfl));simpa[Addr.add]using h2
     subst hspot;refine .inr ⟨b,off,rfl,λj hj=>?_⟩;rw[iD spC 6 (λ_=>rfl)]at hj;have h1:j/6<bx.length:=by omega
     have h2:=hP (j/6) h1 (j%6) zo;have h3:=flat_get spC 6 (λ_=>rfl) bx (j/6) (j%6) h1 zo;rw[show j/6*6+j%6=j by omega]at h2 h3;rw[h3,<-h2];cases j<;>rfl
def asZ {fuel:Nat}{v:Value}{x:DataW H×List MemPlace}(h:DataW.trod enc Tryz.prog w base spare held fuel 25 [v]=some x):
 ∃(a:Option Addr) (n cap:Nat) (rows:List (List Raw)),v=.slice a n cap/\rows.length=n/\Sl a n cap/\vY w a rows:=by
 rcases open_slice1 Tryz.underlying25 alM h with⟨hcs,_⟩ |⟨a,len,cap,m,n,V,D,Pl,hcs,_,hl,_,hm,_,hi⟩
 . simp only[List.cons.injEq,and_true]at hcs;exact⟨none,0,0,[],hcs,rfl,Sl.nil,[],rfl,.inl rfl,λi hi=>by simp at hi⟩
 . simp only[List.cons.injEq,and_true]at hcs;have hlm:len<=m:=by rw[hm];split<;>omega
   obtain⟨rows,hr,hP⟩:=Ed (P:=λi (r:List Raw)=>Pc w (V i) r) len (λi hil=>asX Tryz.underlying63 (hi i zo).2);refine⟨some a,len,cap,rows,hcs,hr,Sl.some _ _ _ hl,(List.range len).map V,by simp[hr],?_,λi h1 h2=>?_⟩
   . by_cases h0:len=0
     . subst h0;exact .inl rfl
     . obtain⟨b,off,spot⟩:=a;have hspot:spot=none:=by have h2:=World.cell?_spot (hi 0 zo).1;simpa[Addr.add]using h2
       subst hspot;refine .inr ⟨b,off,rfl,λj hj=>?_⟩;rw[List.length_map,List.length_range]at hj;have h2:=(hi j zo).1;rw[List.getElem?_map,List.getElem?_range hj];rw[show(⟨b,off+j,none⟩:Addr)=(⟨b,off,none⟩:Addr).add j by unfold Addr.add;cases j<;>rfl];exact h2
   . rw[List.getElem_map,List.getElem_range];exact hP i h1
def alO :Tryz.prog.cellsOf 5=1:=by kernel_rfl
def asT {r:Reach}{b0:Nat}{v:Value}{d:DataW H}{p:List MemPlace}(hv:Value.okWide Tryz.prog w r b0 59 v)(h:DataW.Trod enc Tryz.prog w base spare held 59 v d p):
 ∃(a:Option Addr) (n cap:Nat) (tb:List UInt8),v=.slice a n cap/\tb.length=n/\At w a (mJ tb):=by
 obtain⟨fuel,hf⟩:=h;have hc:v.cells.toList=[v]:=by cases v<;>simp_all[Value.okWide,Tryz.underlying59,Cell.okWide,Cell.ok,Value.cells]
 rw[hc]at hf;rcases open_slice1 Tryz.underlying59 alO hf with⟨hcs,_⟩ |⟨a,len,cap,m,n,V,D,Pl,hcs,_,hl,_,hm,_,hi⟩
 . simp only[List.cons.injEq,and_true]at hcs;exact⟨none,0,0,[],hcs,rfl,.inl rfl⟩
 . simp only[List.cons.injEq,and_true]at hcs;have hlm:len<=m:=by rw[hm];split<;>omega
   obtain⟨tb,hr,hP⟩:=Ed (P:=λi (x:UInt8)=>V i=.int .u8 (x.toNat:Int)) len (λi hil=>by
    obtain⟨e,he,_,hwf⟩:=DataW.trod_int Tryz.underlying5 (hi i zo).2;simp only[List.cons.injEq,and_true]at he;have hw:0<=e/\e<=255:=by simp[Lit.wf]at hwf;exact hwf
    refine⟨UInt8.ofNat e.toNat,?_⟩;rw[he,UInt8.toNat_ofNat'];congr 1
    omega)
   refine⟨some a,len,cap,tb,hcs,hr,?_⟩;by_cases h0:len=0
   . have:tb=[]:=List.length_eq_zero_iff.1 (hr.trans h0);subst this;exact .inl rfl
   . obtain⟨b,off,spot⟩:=a;have hspot:spot=none:=by have h2:=World.cell?_spot (hi 0 zo).1;simpa[Addr.add]using h2
     subst hspot;refine .inr ⟨b,off,rfl,λj hj=>?_⟩;unfold mJ at hj⊢;rw[List.length_map]at hj;have h2:=(hi j zo).1;rw[hP j hj]at h2;rw[List.getElem?_map,List.getElem?_eq_getElem hj,Option.map_some];rw[show(⟨b,off+j,none⟩:Addr)=(⟨b,off,none⟩:Addr).add j by unfold Addr.add;cases j<;>rfl];exact h2
end
section
variable {H:Type} {enc:TypeId×Value->H} {w:World} {base:Nat} {spare:Nat->Bool} {held:Bool}
def YZ :Tryz.prog.cellsOf 3=1:=by kernel_rfl
def Zb :Tryz.prog.cellsOf 41=2:=by kernel_rfl
def alN :Tryz.prog.cellsOf 39=1:=by kernel_rfl
def Za :Tryz.prog.cellsOf 127=6:=by kernel_rfl
def asY {fuel:Nat}{cs:List Value}{x:DataW H×List MemPlace}(h:DataW.trod enc Tryz.prog w base spare held fuel 41 cs=some x):
 ∃(V:Int) (a:Option Addr) (n cap:Nat) (ts:List Trm),cs=[af V,.slice a n cap]/\ts.length=n/\At w a (ts.flatMap aI)/\Sl a n cap:=by
 obtain⟨xs,n,rfl,hx,hlen,hxl,hf⟩:=DataW.trod_struct Tryz.underlying41 h;rw[Zb]at hlen;match cs,hlen with
 | [c0,c1],_=>
   match xs,hxl with
   |[y0,y1],_=>have h0:DataW.trod enc Tryz.prog w base spare held n 3 (List.take (Tryz.prog.cellsOf 3) (List.drop 0 [c0,c1]))=some y0:=hf 0 _ rfl;have h1:DataW.trod enc Tryz.prog w base spare held n 39 (List.take (Tryz.prog.cellsOf 39) (List.drop 1 [c0,c1]))=some y1:=hf 1 _ rfl;rw[YZ]at h0;rw[alN]at h1;have h0':DataW.trod enc Tryz.prog w base spare held n 3 [c0]=some y0:=h0;have h1':DataW.trod enc Tryz.prog w base spare held n 39 [c1]=some y1:=h1;obtain⟨V,e0,_,_⟩:=DataW.trod_int Tryz.underlying3 h0';obtain⟨a,k,cap,ts,rfl,hr,ha,hs,_⟩:=as2 h1';simp only[List.cons.injEq,and_true]at e0;subst e0;exact⟨V,a,k,cap,ts,rfl,hr,ha,hs⟩
def asV {fuel:Nat}{cs:List Value}{x:DataW H×List MemPlace}(h:DataW.trod enc Tryz.prog w base spare held fuel 127 cs=some x):∃r:Nd×List Trm,cs=mF r.1/\r.2.length=r.1.n/\Sl r.1.a r.1.n r.1.c/\At w r.1.a (r.2.flatMap aI):=by
 obtain⟨xs,n,rfl,hx,hlen,hxl,hf⟩:=DataW.trod_struct Tryz.underlying127 h;rw[Za]at hlen;match cs,hlen with
 | [c0,c1,c2,c3,c4,c5],_=>
   match xs,hxl with
   |[y0,y1,y2],_=>have h0:DataW.trod enc Tryz.prog w base spare held n 3 (List.take (Tryz.prog.cellsOf 3) (List.drop 0 [c0,c1,c2,c3,c4,c5]))=some y0:=hf 0 _ rfl;have h1:DataW.trod enc Tryz.prog w base spare held n 45 (List.take (Tryz.prog.cellsOf 45) (List.drop 1 [c0,c1,c2,c3,c4,c5]))=some y1:=hf 1 _ rfl;have h2:DataW.trod enc Tryz.prog w base spare held n 41 (List.take (Tryz.prog.cellsOf 41) (List.drop 4 [c0,c1,c2,c3,c4,c5]))=some y2:=hf 2 _ rfl;rw[YZ]at h0;rw[FY]at h1;rw[Zb]at h2;have h0':DataW.trod enc Tryz.prog w base spare held n 3 [c0]=some y0:=h0;have h1':DataW.trod enc Tryz.prog w base spare held n 45 [c1,c2,c3]=some y1:=h1;have h2':DataW.trod enc Tryz.prog w base spare held n 41 [c4,c5]=some y2:=h2;obtain⟨sp,e0,_,_⟩:=DataW.trod_int Tryz.underlying3 h0';obtain⟨⟨s,m,e⟩,r1⟩:=Jg h1';obtain⟨V,a,k,cap,ts,r2,g1,g2,g3⟩:=asY h2';simp only[aV,List.cons.injEq,and_true]at e0 r1 r2;obtain⟨rfl,rfl,rfl⟩:=r1;obtain⟨rfl,rfl⟩:=r2;subst e0;exact⟨(⟨sp,(s,m,e),V,a,k,cap⟩,ts),rfl,g1,g3,g2⟩
def asW {r:Reach}{b0:Nat}{v:Value}{d:DataW H}{p:List MemPlace}(hv:Value.okWide Tryz.prog w r b0 69 v)(h0:DataW.Trod enc Tryz.prog w base spare held 69 v d p):
 ∃(a:Option Addr) (n cap:Nat) (ns:List Nd) (qs:Nat->List Trm),v=.slice a n cap/\ns.length=n/\At w a (ns.flatMap mF)/\vV w ns qs:=by
 obtain⟨fuel,h⟩:=h0;have hc:v.cells.toList=[v]:=by cases v<;>simp_all[Value.okWide,Tryz.underlying69,Cell.okWide,Cell.ok,Value.cells]
 rw[hc]at h;rcases open_slice Tryz.underlying69 h with⟨hcs,_⟩ |⟨a,len,cap,m,n,D,Pl,hcs,_,hl,_,hm,_,hi⟩
 . simp only[List.cons.injEq,and_true]at hcs;exact⟨none,0,0,[],λ_=>[],hcs,rfl,.inl rfl,λk h=>absurd h (Nat.not_lt_zero _)⟩
 . simp only[List.cons.injEq,and_true]at hcs;have hlm:len<=m:=by rw[hm];split<;>omega
   obtain⟨L,hr,hP⟩:=Ed (P:=λi (r:Nd×List Trm)=>(∀j,j<6->w.cell? (a.add (i*6+j))=(mF r.1)[j]?)/\r.2.length=r.1.n/\Sl r.1.a r.1.n r.1.c/\At w r.1.a (r.2.flatMap aI)) len (λi hil=>by
    obtain⟨cs',hc,ht⟩:=hi i zo;rw[Za]at hc;obtain⟨_,hcl,hat⟩:=World.cells?_some hc;obtain⟨r,rfl,h1,h2,h3⟩:=asV ht;refine⟨r,λj hj=>?_,h1,h2,h3⟩;rw[<-Go.Deep.add_add]
    exact hat j hj)
   refine⟨some a,len,cap,L.map Prod.fst,λk=>if h:k<L.length then L[k].2 else[],hcs,by rw[List.length_map];exact hr,?_,λk hk=>?_⟩
   . by_cases h0:len=0
     . have:L=[]:=List.length_eq_zero_iff.1 (hr.trans h0);subst this;exact .inl rfl
     . obtain⟨b,off,spot⟩:=a;have hspot:spot=none:=by have:=(hP 0 zo).1 0 zd;have h2:=World.cell?_spot (this.trans (show(mF L[0].1)[0]?=some (af L[0].1.sp)from rfl));simpa[Addr.add]using h2
       subst hspot;refine .inr ⟨b,off,rfl,λj hj=>?_⟩;rw[iD mF 6 (λ_=>rfl),List.length_map]at hj;have h1:j/6<L.length:=by omega
       have h2:=(hP (j/6) h1).1 (j%6) zo;have h3:=flat_get mF 6 (λ_=>rfl) (L.map Prod.fst) (j/6) (j%6) (by rw[List.length_map];exact h1) zo;rw[List.getElem_map]at h3;rw[show j/6*6+j%6=j by omega]at h2 h3;rw[h3,<-h2];cases j<;>rfl
   . rw[List.length_map]at hk;obtain⟨_,h1,h2,h3⟩:=hP k hk;simp only[List.getElem_map,dif_pos hk];exact⟨h1,h2,h3⟩
def asU {r:Reach}{b0:Nat}{v:Value}{d:DataW H}{p:List MemPlace}(hv:Value.okWide Tryz.prog w r b0 27 v)(h:DataW.Trod enc Tryz.prog w base spare held 27 v d p):
 ∃(a:Option Addr) (n cap:Nat) (bx:List (Raw×Raw)) (a':Option Addr) (m cap':Nat) (rows:List (List Raw)),v=.agg #[.slice a n cap,.slice a' m cap']/\bx.length=n/\Sl a n cap/\At w a (bx.flatMap spC)/\rows.length=m/\m<=cap'/\vY w a' rows:=by
 obtain⟨v0,v1,y0,y1,n,rfl,_,_,h0,h1⟩:=open_agg2 Tryz.underlying27 zk zk hv h;obtain⟨a,L,cap,bx,rfl,hb,hs0,ha⟩:=asS h0;obtain⟨a',m,cap',rows,rfl,hr,hs,ht⟩:=asZ h1;exact⟨a,L,cap,bx,a',m,cap',rows,rfl,hb,hs0,ha,hr,hs.1,ht⟩
end
end Go.Proofs.YtpfgffadgkkedaaGreatDoor
