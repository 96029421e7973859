/- SimpTo: the law. -/
import Derived.Test.YtnjfebkelecgaaaGreatDoorZ7
import Derived.Test.YtnjfebkelecgaaaGreatDoorZ36
import Derived.Test.YtnjfebkelecgaaaGreatDoorZ19
import Derived.Test.YtnjfebkelecgaaaGreatDoorZ35
import Derived.Test.YtnjfebkelecgaaaGreatDoorZ34
import Derived.Test.YtnjfebkelecgaaaGreatDoorZ33
import Derived.Test.YtnjfebkelecgaaaGreatDoorZ15
set_option linter.all false
set_option maxRecDepth 100000
set_option maxHeartbeats 16000000
namespace Go.Proofs.YtnjfebkelecgaaaGreatDoor
open Go.RowKit
attribute [local go_sem ↓] Go.wp_at_zero Go.wp_at_succ
def FB (k n:Nat)(cs:List Value)(a:Option Addr)(w:World):Prop:=(a=none/\n=0/\cs=[])\/∃b,a=some ⟨b,0,none⟩/\k<=b/\cs.length=n*3/\n<=1048576/\aH w b 48 cs
def FB.below {k n:Nat}{cs:List Value}{a:Option Addr}{w w':World}(h:FB k n cs a w)(hb:Bw w w'):FB k n cs a w':=by
 rcases h with h|⟨b,h1,h2,h3,h4,h5⟩
 . exact .inl h
 . exact .inr ⟨b,h1,h2,h3,h4,h5.below hb⟩
instance {k n:Nat} {cs:List Value} {a:Option Addr} {w:World}:QTr (FB k n cs a w) w (λW=>FB k n cs a W):=⟨λh _ k=>FB.below h k⟩
def FB.at {k n:Nat}{cs:List Value}{a:Option Addr}{w:World}(h:FB k n cs a w):At w a cs:=by
 rcases h with⟨rfl,_,rfl⟩ |⟨b,rfl,_,_,_,h5⟩
 . exact .inl rfl
 . exact At.aCi h5
def FB.clear {k n cap:Nat}{cs:List Value}{a:Option Addr}{w:World}(h:FB k n cs a w):∃w',(∀ty,(Builtin.clear_ #[32] ty #[.slice a n cap]).run Tryz.prog w=.ok (.tuple #[]) w')/\(k<=w.heap.size->Below k w w'):=by
 rcases h with⟨rfl,rfl,_⟩ |⟨b,rfl,hk,hl,hn,h5⟩
 . exact⟨w,λty=>by simp[Builtin.clear_,run_underlying Tryz.underlying32],λ_=>Below.refl _ _⟩
 . have ho:w.ownsRow k 48 3 (.slice (some ⟨b,0,none⟩) 0 n) 0 []:=⟨rfl,.inr ⟨b,n,cs.toArray,rfl,hk,h5,Nat.zero_le _,by unfold maxLen;omega,by simpa using hl,by simp⟩⟩;obtain⟨w2,hcl,_,hg2⟩:=WK w 32 48 _ 3 Tryz.underlying32 Tryz.aCx rfl (by intro v hv;simp[Value.cells]at hv;rcases hv with rfl|rfl|rfl<;>rfl) b 0 n n cap _ [] ho zo;rw[Nat.zero_mul]at hcl;exact⟨w2,hcl,λhs=>(Below.refl k w).grown hg2 hs (λj e=>by have:b=j:=Option.some.inj e;omega)⟩
def anB (PV:Int)(nT:Nat)(ts:List aM)(L:Nat)(rows:List (List Raw))(d:Int)(dQ:ts.length=nT)(hw:LK ts)(hL:rows.length=L)(hv:LJ rows)(hd:d<=5\/20<d):
 ∃(X Y:Int) (c:Int) (n:Nat) (xs:List Raw),xs.length=n/\n<=1000/\
  (∀W aP di a cap,At W aP (ts.flatMap aW)->bQ W a rows->L<=cap->aR W->Cl 11 #[.agg #[ah PV,.slice aP nT di],.slice a L cap,ah d] W λe w'=>(∃aF cF,e=.returned (.tuple #[.agg #[ah X,ah Y,.slice aF n cF],ah c])/\FB W.heap.size n (xs.flatMap bK) aF w')/\Bw W w')/\
  (∀W aP di a cap,At W aP (ts.flatMap aW)->bQ W a rows->L<=cap->Cl 12 #[.agg #[ah PV,.slice aP nT di],.slice a L cap,ah d] W λe w'=>(∃aG cG,e=.returned (.tuple #[.agg #[ah X,ah Y,.slice aG n cG],ah c])/\At w' aG (xs.flatMap bK))/\Bw W w'):=by
 have hfit:∀r∈rows,∀c∈r,Fit 192 c:=λr hr c hc=>We ((hv.2 r hr).2 c hc);have vC:∀r∈rows,∀c∈r,ke 192 c:=λr hr c hc=>by have h:=(hv.2 r hr).2 c hc;exact⟨⟨by have:=h.1;omega,by have:=h.2.1;omega,by have:=h.2.2;omega⟩,(We h).2⟩
 have Eh:∀t∈ts,Fit 192 t.2:=λt ht=>We (hw.2 t ht).2;have htr:∀t∈ts,eI t.2/\t.1.length<=1000:=λt ht=>by have h:=hw.2 t ht;exact⟨⟨by have:=h.2.1;omega,by have:=h.2.2.1;omega,by have:=h.2.2.2;omega⟩,by omega⟩
 have hL4:L<=4:=by rw[<-hL];exact hv.1
 have h12:nT<=12:=by rw[<-dQ];exact hw.1
 have adr:=λW aP di a cap h1 h2 h3 hT=>axH PV aP nT di ts a L cap rows 192 _ d W dQ zo h1 Eh (λt ht=>by have:=(htr t ht).2;omega) hL hL4 h3 h2 hfit zd zd hT hd rfl;by_cases h0:toC PV ts rows d=0
 . have hE:mF PV ts rows d=0/\d<=5:=by
    unfold toC at h0;by_cases h20:20<d
    . rw[if_pos h20]at h0;cases h0
    . rw[if_neg h20]at h0;exact⟨h0,by omega⟩
   obtain⟨V,hV1,jD,rfl,hl,h9,hr,hd0,hp⟩:=ahB zo hfit Eh hE.1;obtain⟨D,rfl⟩:∃D:Nat,d=(D:Int):=⟨d.toNat,by omega⟩;rw[Int.toNat_natCast]at hp;have Ti:L-1=V:=by omega
   have NE:rows.length-1=V:=by omega
   obtain⟨F,hF⟩:=aI (fD V D (rows.map λr=>r.map aJ) (fR ts));have aco:cnt V D<=216:=Gy jD zo;have GX:F.length=cnt V D:=by have h:=SK (S:=rows.map λr=>r.map aJ) (N:=cnt V D) rfl (ts:=ts) (λt ht=>(hp.2 t ht).2) ts.length;rw[List.take_length,hF]at h;exact h
   have vz:(F.map canon).flatMap bK=dC F:=by unfold dC;rw[List.flatMap_map]
   have hpc:fx (V:Int) ts=0:=OD hp.1.1;refine⟨(V:Int),(D:Int),0,cnt V D,F.map canon,by rw[List.length_map,GX],by omega,λW aP di a cap h1 h2 h3 hT=>?_,λW aP di a cap h1 h2 h3=>?_⟩
   . refine(adr W aP di a cap h1 h2 h3 hT).mono ?_;rintro e w' ⟨h|⟨_,b,hb,rfl,hB⟩,au⟩
     . exact absurd h0 h.1
     . rw[Ti,NE,Int.toNat_natCast,hF]at*;exact⟨⟨_,_,rfl,.inr ⟨b,rfl,hb,by rw[vz,Mm,GX],by omega,by rw[vz];exact hB⟩⟩,au⟩
   . refine(awx V D V D rfl rfl aP nT di ts a L cap rows W hV1 jD zo dQ h12 h1 htr hp hL hr h2 vC h9 hpc h3).mono ?_;rintro e w' ⟨b,c,rfl,hat,au⟩;exact⟨⟨_,_,rfl,by rw[vz,<-hF];exact hat⟩,au⟩
 . refine⟨0,0,toC PV ts rows d,0,[],rfl,by omega,λW aP di a cap h1 h2 h3 hT=>?_,λW aP di a cap h1 h2 h3=>?_⟩
   . refine(adr W aP di a cap h1 h2 h3 hT).mono ?_;rintro e w' ⟨⟨_,rfl⟩ |h,au⟩
     . exact⟨⟨_,_,rfl,.inl ⟨rfl,rfl,rfl⟩⟩,au⟩
     . exact absurd h.1 h0
   . refine(aww PV aP nT di ts a L cap rows d W dQ zo h1 htr hL hL4 h2 vC _ rfl h0).mono ?_;rintro e w' ⟨rfl,au⟩;exact⟨⟨_,_,rfl,.inl rfl⟩,au⟩
def Fast.st {k q:Nat}{w6 W:World}{R:World->Prop}(h:Fast k w6 R)(hl:dJ w6 W)(hq:q<k\/w6.heap.size<=q)(u v:Value):R ((W.setCell ⟨q,0,none⟩ u).setCell ⟨q,1,none⟩ v):=by
 rcases hq with hq|hq
 . exact h (λb=>b=q) _ (Chg.set (Y:=λb=>b=q) (a:=⟨q,1,none⟩) (Chg.set (Y:=λb=>b=q) (a:=⟨q,0,none⟩) (Chg.of_below hl) rfl u) rfl v) (λb hb=>by omega)
 . exact h (λ_=>False) _ (Chg.of_below ((Below.setCell hl (p:=⟨q,0,none⟩) hq u).setCell (p:=⟨q,1,none⟩) hq v)) (λ_ _ h=>h)
def amf (tp:List aM)(rows:List (List Raw))(d:Int):Prop:=LK tp/\LJ rows/\(d<=5\/20<d)
def axd (PV:Int)(aP:Option Addr)(nP di:Nat)(tp:List aM)(a:Option Addr)(L cap:Nat)(rows:List (List Raw))(d:Int)(w:World)
 (Ja:tp.length=nP) (iy:At w aP (tp.flatMap aW)) (NU:Sl aP nP di) (hL:rows.length=L) (hcap:L<=cap) (ha:mR w a rows) (hT:aR w):
 Cv 3 #[.agg #[ah PV,.slice aP nP di],.slice a L cap,ah d] w (aj true):=by
 obtain⟨Hwp,Hvs,Yv,FJ,oJ,HsP,HL,ajA,Ha,HT⟩:=JK (λW (hW:Bw w W)=>ayk PV aP di nP tp W Ja (iy.below hW)) (λW (hW:Bw w W)=>ax5 rows L a cap W hL (ha.below hW).tbl) (λW (hW:Bw w W)=>amZ W (hT.below hW)) Ja iy NU hL hcap ha hT;clear Ja iy NU hL hcap ha hT;obtain⟨W,cP,ag,aC⟩:=gz w 24 [ah PV,.slice aP nP di];have uJ:=ag.1;have Hb:=hbz W;go_enter Tryz.func3,Tryz.ntmps3;go_upto_region 1 with fail
 go_cut[26] (λs26 wx=>∃b:Bool,s26=aj b/\(b=false->amf tp rows d)/\Bw W wx);case first=>
  go_wp2_with fail;refine(Hwp.out _ (aO uJ.out Hb.out)).mono ?_;rintro e w1 ⟨⟨b1,rfl,hb1⟩,au⟩;obtain⟨ag,aC⟩:=qX au (Hb.an ag);cases b1 with
  |true=>go_wp2_with fail;go_meet;exact⟨true,rfl,λh=>(by cases h),ag.1.out⟩
  | false=>
    have AC:=az (hb1 rfl);clear hb1;go_wp2_with fail;refine(Hvs.out _ (aO uJ.out ag.1.out)).mono ?_;rintro e w3 ⟨⟨b3,rfl,hb3⟩,au⟩;obtain⟨ag,aC⟩:=qX au ag;cases b3 with
    |true=>go_wp2_with fail;go_meet;exact⟨true,rfl,λh=>(by cases h),ag.1.out⟩
    | false=>
      have Db:=az (hb3 rfl);clear hb3;by_cases g4:5<d
      . have g5:decide (5<d)=true:=by simp;omega
        go_wp2_with fail;go_meet;exact⟨decide (d<=20),rfl,λh=>⟨AC.out,Db.out,.inr (by simp at h;omega)⟩,ag.1.out⟩
      . have g5:decide (5<d)=false:=by simp;omega
        go_wp2_with fail;go_meet;exact⟨false,rfl,λh=>⟨AC.out,Db.out,.inl zo⟩,ag.1.out⟩
 obtain⟨b,rfl,hok,qb⟩:=hcut;obtain⟨w5,xt⟩:∃u,u=wc:=⟨_,rfl⟩;subst xt;obtain⟨ag,aC⟩:=qX qb (Hb.an ag);have Hb:=az (aO uJ.out qb);clear qb uJ Hwp Hvs;cases b with
 |true=>clear hok;go_wp2_with fail;refine aZ (Hb.an ag) (Yv.out _ Hb.out) λw6 ag aC=>?_;go_wp2;refine bodyPost_ret (results_tmp rfl _ _ _) rfl ⟨rfl,ag.1.out⟩
 | false=>
   obtain⟨hq1,pk,hd5⟩:=hok rfl;clear hok;have BR:∀r∈rows,r.length<=5:=λr hr=>by have:=(pk.2 r hr).1;omega
   have hL4:L<=4:=by rw[<-HL.out];exact pk.1
   have UN:nP<=12:=by rw[<-FJ.out];exact hq1.1
   obtain⟨X,Y,c,n,xs,hxn,hn,pp,hrt⟩:=anB PV nP tp L rows d FJ.out hq1 HL.out pk hd5;obtain⟨uT,Hrt,Hxn,QS⟩:=dP pp hrt hxn BR;have FM:Hid (∀W,Bw w W->∀P:Prop,P->Cl 9 #[.slice a L cap] W λe w'=>∃a' c',e=.returned (.slice a' L c')/\L<=c'/\Fast W.heap.size w' (λu=>bQ u a' rows)/\dJ w' w'/\W.heap.size<=w'.heap.size/\P/\Bw W w'):=λW hW P hP=>(avY a L cap rows W HL.out zo BR (Ha.out.below hW)).mono λ_ w' ⟨a',c',h1,h2,h3,h4⟩=>⟨a',c',h1,h2,h3,Below.refl _ _,h4.size,hP,h4⟩;have fZ:Hid (∀W,Bw w W->∀P:Prop,P->Cl 10 #[.agg #[ah PV,.slice aP nP di]] W λe w'=>∃a' c',e=.returned (.agg #[ah PV,.slice a' nP c'])/\Fast W.heap.size w' (λu=>At u a' (tp.flatMap aW))/\dJ w' w'/\W.heap.size<=w'.heap.size/\P/\Bw W w'):=λW hW P hP=>(avX PV aP nP di tp W FJ.out zo HsP.out (oJ.out.below hW)).mono λ_ w' ⟨a',c',h1,h2,h3,h4⟩=>⟨a',c',h1,h2,Below.refl _ _,h4.size,hP,h4⟩;clear pp hrt hxn BR hq1 pk hd5;have fV:=Hb;replace Hb:=hbz w5;go_upto_region 3 with fail
   go_cut[7,8] (λs7 s8 wx=>∃(g:Nat) (a6:Option Addr) (c6:Nat) (a7:Option Addr) (c7:Nat),s7=.slice a6 L c6/\s8=.pointer (some ⟨g,0,none⟩)/\L<=c6/\bQ wx a6 rows/\At wx a7 (tp.flatMap aW)/\aH wx g 24 [ah PV,.slice a7 nP c7]/\Bw w5 wx);case first=>
    obtain⟨_,_,Hp,_⟩:=ag;obtain⟨p0,p1⟩:=Hp.out.c2;have fy:∀w',dJ w5 w'->aV w' (w.heap.size) 0 (ah PV)/\aV w' (w.heap.size) 1 (.slice aP nP di):=λw' h=>⟨cell_later h p0,cell_later h p1⟩;have cg:Hid (dJ w5 w5):=Below.refl _ _;refine aib (λw'=>dJ w5 w') (λi=>Nat.blt i 6) (.rd 0 (.rd 2 (.br 1 4 (.br 3 4 (.lin [(4,false),(5,true),(6,false)]) (.lin [(3,false),(5,true),(6,false)])) (.lin [(1,false),(3,false),(5,true),(6,false)])))) zk zk rfl zk zc cg.out.drew ?_;iterate 2 (refine agt rfl rfl (v:=?_) (λw' hw'=>?_) ?_;rotate_left;(focus have hw':=fy w' hw';obtain⟨q0,q1⟩:=hw';go_simp;try with_reducible rfl);try simp only[UU])
    clear  fy;refine Wq rfl rfl rfl rfl rfl rfl  (λK hK=>?_) (λK hK=>?_) 
    . go_simp;with_reducible refine(FM.out _ (by first|exact aO fV.out Hb.out|exact(aO fV.out Hb.out).drew) _ (by first|exact Hq.out.lt|exact True.intro)).mono ?_
      rintro e w6 ⟨a6,c6,rfl,BA,BX,IQ,jH,MR,hq⟩;have au:Bw w5 w6:=by first|exact hq|exact df hq
      replace cg:=az (cg.out.below au);obtain⟨Hp,p0,p1⟩:=fP Hp au;replace Hb:=bD Hb au;have HX:=az IQ;clear IQ;refine hK _ _ (λ_=>cg.out) ?_;try simp only[UU]
      refine Wq rfl rfl rfl rfl rfl rfl  (λK hK=>?_) (λK hK=>?_) 
      . go_simp;with_reducible refine(fZ.out _ (by first|exact aO fV.out Hb.out|exact(aO fV.out Hb.out).drew) _ (by first|exact Hq.out.lt|exact True.intro)).mono ?_
        rintro e w7 ⟨a7,c7,rfl,zF,za,Jm,Ia,hq⟩;have au:Bw w6 w7:=by first|exact hq|exact df hq
        replace cg:=az (cg.out.below au);replace Hp:=kB Hp au;replace HX:=az (HX.out.below au);obtain⟨p0,p1⟩:=Hp.out.c2;replace Hb:=bD Hb au;have HZ:=az za;clear za;refine hK _ _ (λ_=>cg.out) ?_;try simp only[UU]
        refine Ka ?_;refine aY rfl rfl (λK hK=>?_);go_simp;have afM:=Hb.out.size;refine hK _ _ (λ_=>by first|exact cg.out.alloc _|exact(cg.out.alloc _).drew|exact(cg.out.drew).alloc _) ?_;try simp only[UU]
        refine cL (λW8=>aH W8 (w7.heap.size) 24 [ah 0,.slice none 0 0]/\Bw w7 W8) (by first|exact fI|exact fJ) ?_;rintro W8 ⟨qq,au⟩;have afL:=Hp.out.lt;replace cg:=az (cg.out.below au);replace Hp:=kB Hp au;replace HX:=az (HX.out.below au);replace HZ:=az (HZ.out.below au);have Hq:=az qq;clear qq;obtain⟨p0,p1⟩:=Hp.out.c2;obtain⟨q0,ib,q1,iL⟩:=Hq.out.g2;replace Hb:=bD Hb au;refine pT rfl rfl ?_;try simp only[UU]
        refine aY rfl rfl (λK hK=>?_);go_simp;refine hK _ _ (by first|exact λh=>absurd h zd|exact λ_=>cg.out|exact λ_=>(by first|exact cg.out.setCell zp _|exact(cg.out.setCell zp _).setCell zp _|exact((cg.out.setCell zp _).setCell zp _).setCell zp _)) ?_;try simp only[UU]
        simp only[bP];go_wp2_with fail;go_meet;exact⟨_,_,_,_,_,rfl,rfl,BA,BX.st HX.out (by first|exact .inl MR|exact .inr zo) _ _,zF.st HZ.out (by first|exact .inl Ia|exact .inr zo) _ _,(Hq.out.set 0 _).set 1 _,(Hb.out.setCell zp _).setCell zp _⟩
      . go_simp;have afM:=Hb.out.size;refine hK _ _ (λ_=>by first|exact cg.out.alloc _|exact(cg.out.alloc _).drew|exact(cg.out.drew).alloc _) ?_;try simp only[UU]
        refine agu (λW8=>aH W8 (w6.heap.size) 24 [ah 0,.slice none 0 0]/\Bw w6 W8) (by first|exact fI|exact fJ) ?_;rintro W8 ⟨qq,au⟩;have afL:=Hp.out.lt;replace cg:=az (cg.out.below au);replace Hp:=kB Hp au;replace HX:=az (HX.out.below au);have Hq:=az qq;clear qq;obtain⟨p0,p1⟩:=Hp.out.c2;obtain⟨q0,ib,q1,iL⟩:=Hq.out.g2;replace Hb:=bD Hb au;refine Ka ?_;refine aY rfl rfl (λK hK=>?_);go_simp;with_reducible refine(fZ.out _ (by first|exact aO fV.out Hb.out|exact(aO fV.out Hb.out).drew) _ (by first|exact Hq.out.lt|exact True.intro)).mono ?_
        rintro e w7 ⟨a7,c7,rfl,zF,za,Jm,Ia,hq⟩;have au:Bw W8 w7:=by first|exact hq|exact df hq
        replace cg:=az (cg.out.below au);replace Hp:=kB Hp au;replace HX:=az (HX.out.below au);obtain⟨Hq,q0,ib,q1,iL⟩:=dZ Hq au;obtain⟨p0,p1⟩:=Hp.out.c2;replace Hb:=bD Hb au;have HZ:=az za;clear za;refine hK _ _ (λ_=>cg.out) ?_;try simp only[UU]
        refine pT rfl rfl ?_;try simp only[UU]
        refine aY rfl rfl (λK hK=>?_);go_simp;refine hK _ _ (by first|exact λh=>absurd h zd|exact λ_=>cg.out|exact λ_=>(by first|exact cg.out.setCell zp _|exact(cg.out.setCell zp _).setCell zp _|exact((cg.out.setCell zp _).setCell zp _).setCell zp _)) ?_;try simp only[UU]
        simp only[bP];go_wp2_with fail;go_meet;exact⟨_,_,_,_,_,rfl,rfl,BA,BX.st HX.out (by first|exact .inl MR|exact .inr zo) _ _,zF.st HZ.out (by first|exact .inl Ia|exact .inr zo) _ _,(Hq.out.set 0 _).set 1 _,(Hb.out.setCell zp _).setCell zp _⟩
    . go_simp;have afM:=Hb.out.size;refine hK _ _ (λ_=>by first|exact cg.out.alloc _|exact(cg.out.alloc _).drew|exact(cg.out.drew).alloc _) ?_;try simp only[UU]
      refine agu (λW8=>aH W8 (w5.heap.size) 24 [ah 0,.slice none 0 0]/\Bw w5 W8) (by first|exact fI|exact fJ) ?_;rintro W8 ⟨qq,au⟩;have afL:=Hp.out.lt;replace cg:=az (cg.out.below au);replace Hp:=kB Hp au;have Hq:=az qq;clear qq;obtain⟨p0,p1⟩:=Hp.out.c2;obtain⟨q0,ib,q1,iL⟩:=Hq.out.g2;replace Hb:=bD Hb au;refine Ka ?_;refine aY rfl rfl (λK hK=>?_);go_simp;with_reducible refine(FM.out _ (by first|exact aO fV.out Hb.out|exact(aO fV.out Hb.out).drew) _ (by first|exact Hq.out.lt|exact True.intro)).mono ?_
      rintro e w6 ⟨a6,c6,rfl,BA,BX,IQ,jH,MR,hq⟩;have au:Bw W8 w6:=by first|exact hq|exact df hq
      replace cg:=az (cg.out.below au);obtain⟨Hp,p0,p1⟩:=fP Hp au;obtain⟨Hq,q0,ib,q1,iL⟩:=dZ Hq au;replace Hb:=bD Hb au;have HX:=az IQ;clear IQ;refine hK _ _ (λ_=>cg.out) ?_;try simp only[UU]
      refine aY rfl rfl (λK hK=>?_);go_simp;with_reducible refine(fZ.out _ (by first|exact aO fV.out Hb.out|exact(aO fV.out Hb.out).drew) _ (by first|exact Hq.out.lt|exact True.intro)).mono ?_
      rintro e w7 ⟨a7,c7,rfl,zF,za,Jm,Ia,hq⟩;have au:Bw w6 w7:=by first|exact hq|exact df hq
      replace cg:=az (cg.out.below au);replace Hp:=kB Hp au;replace Hq:=kB Hq au;replace HX:=az (HX.out.below au);obtain⟨p0,p1⟩:=Hp.out.c2;obtain⟨q0,ib,q1,iL⟩:=Hq.out.g2;replace Hb:=bD Hb au;have HZ:=az za;clear za;refine hK _ _ (λ_=>cg.out) ?_;try simp only[UU]
      refine pT rfl rfl ?_;try simp only[UU]
      refine aY rfl rfl (λK hK=>?_);go_simp;refine hK _ _ (by first|exact λh=>absurd h zd|exact λ_=>cg.out|exact λ_=>(by first|exact cg.out.setCell zp _|exact(cg.out.setCell zp _).setCell zp _|exact((cg.out.setCell zp _).setCell zp _).setCell zp _)) ?_;try simp only[UU]
      simp only[bP];go_wp2_with fail;go_meet;exact⟨_,_,_,_,_,rfl,rfl,BA,BX.st HX.out (by first|exact .inl MR|exact .inr zo) _ _,zF.st HZ.out (by first|exact .inl Ia|exact .inr zo) _ _,(Hq.out.set 0 _).set 1 _,(Hb.out.setCell zp _).setCell zp _⟩
   obtain⟨g,a6,c6,a7,c7,rfl,rfl,BA,BX,zF,hbq,qb⟩:=hcut;obtain⟨w9,pq⟩:∃u,u=wc:=⟨_,rfl⟩;subst pq;obtain⟨ZW,ZX,KU,AC⟩:=dP BX zF BA hbq;obtain⟨ag,aC⟩:=qX qb (Hb.an ag);have Hb:=az (aO fV.out qb);clear qb fV FM fZ BX zF hbq BA;have pK:=Hb;have uQ:=ag.2.2.2.1;skip
   replace Hb:=hbz w9;have Hq:=AC;have Hp:=uQ;obtain⟨ag,aC⟩:=qZ (Hp.an<|Hq.an trivial);go_wp2_with fail;refine(uT.out _ _ _ _ _ (ZX.out.below Hb.out) (ZW.out.below Hb.out) KU.out (HT.out.below (aO pK.out Hb.out))).mono ?_;rintro e iI ⟨⟨aF,cF,rfl,hFB⟩,au⟩;obtain⟨ag,aC⟩:=qX au (Hb.an ag);have HF:Hid (FB w9.heap.size n (xs.flatMap bK) aF iI):=hFB;clear hFB;obtain⟨Gn,az1,bi,ag,aC⟩:=cM iI (HF.an ag) 34 [ah X,ah Y,.slice aF n cF];go_wp2_with fail;refine(Hrt.out _ _ _ _ _ (oJ.out.below (aO pK.out ag.2.2.1.out)) (Ha.out.below (aO pK.out ag.2.2.1.out)).tbl ajA.out).mono ?_;rintro e sQ ⟨⟨aG,cG,rfl,hG⟩,au⟩;obtain⟨ag,aC⟩:=qX au ag;have HG:Hid (At sQ aG (xs.flatMap bK)):=hG;clear hG;obtain⟨yx,az2,bi,ag,aC⟩:=cM sQ (HG.an ag) 34 [ah X,ah Y,.slice aG n cG];go_wp2_with fail;refine aZ ag (ag0 X Y aF aG n cF cG xs _ Hxn.out hn ag.2.2.2.1.out.at ag.2.1.out) λKr ag aC=>?_;obtain⟨wc,hcl,hbc⟩:=ag.2.2.2.1.out.clear (cap:=cF);have bE:Bw w9 wc:=ag.2.2.2.2.1.out.trans (hbc ag.2.2.2.2.1.out.size);have dO:=az bE;go_wp2_with fail;skip
   have Hb:=dO;obtain⟨Hp,Hq⟩:=aU (uQ.out.below dO.out) (AC.out.below dO.out);have hr1:∀r∈rows,r.length<=1000:=λr hr=>Nat.le_trans (QS.out r hr) zd;have hps:∀W,Bw w9 W->Cv 15 #[.agg #[ah PV,.slice a7 nP c7],.agg #[ah PV,.slice aP nP di]] W (aj true):=λW hW=>by have h:=agZ PV tp a7 aP c7 di W (by rw[FJ.out];omega) (ZX.out.below hW) (oJ.out.below (aO pK.out hW));rw[FJ.out]at h;exact h
   have uS:=az hps;clear hps bE hbc;obtain⟨ag,aC⟩:=qZ (Hp.an<|Hq.an trivial);go_wp2_with fail;refine aZ (Hb.an ag) (awD rows a6 a L c6 cap _ HL.out zo hr1 (ZW.out.below Hb.out) (Ha.out.below (aO pK.out Hb.out)).tbl) λw15 ag aC=>?_;go_wp2_with fail;refine aZ ag (uS.out _ ag.1.out) λw16 ag aC=>?_;go_wp2_with fail;refine aZ ag (Yv.out _ (aO pK.out ag.1.out)) λw17 ag aC=>?_;go_wp2;refine bodyPost_ret (results_tmp rfl _ _ _) rfl ⟨rfl,aO pK.out ag.1.out⟩
end Go.Proofs.YtnjfebkelecgaaaGreatDoor
