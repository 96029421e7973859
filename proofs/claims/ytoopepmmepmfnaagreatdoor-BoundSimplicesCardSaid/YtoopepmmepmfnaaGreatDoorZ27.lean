/- Package mat: bareiss' test of a row. -/
import Derived.Test.YtoopepmmepmfnaaGreatDoorZ12
import Derived.Test.YtoopepmmepmfnaaGreatDoorZ26
import Derived.Test.YtoopepmmepmfnaaGreatDoorZ6
import Derived.Test.YtoopepmmepmfnaaGreatDoorZ7
import Derived.Test.YtoopepmmepmfnaaGreatDoorZ9
set_option linter.unusedVariables false
set_option linter.unusedSimpArgs false
set_option maxRecDepth 100000
set_option maxHeartbeats 16000000
namespace Go.Proofs.YtoopepmmepmfnaaGreatDoor
open Go.RowKit
attribute [local go_sem ↓] Go.wp_at_zero Go.wp_at_succ
theorem ah5 (bk k g n c:Nat)(z:Int)(w:World)(hk:w.cell? ⟨bk,0,none⟩=some (af (k:Int)))(hkn:k<n)(h0:w.cell? ⟨g,k*2,none⟩=some (ag (au z)))(h1:w.cell? ⟨g,k*2+1,none⟩=some (ah (nt z.natAbs)))(hz:(nt z.natAbs).length<=1099511627776):
 Calls Tryz.prog 182 #[.slice (some ⟨g,0,none⟩) n c,.pointer (some ⟨bk,0,none⟩)] w λe w'=>e=.returned (ag (decide (z≠0)))/\Bw w w':=by
 have bK:=vX n c k (k:Int) (show some (⟨g,0,none⟩:Addr)=some ⟨g,0,none⟩from rfl) hkn rfl;rw[Nat.zero_add]at bK;have Hz:=ai hz;obtain⟨s,hs⟩:=aG (au z);obtain⟨l,hl⟩:=aG (nt z.natAbs);have gU:=λW=>IJ (au z) (nt z.natAbs) W hz;rw[eX]at gU;rw[hs,hl]at gU;rw[hs]at h0;rw[hl]at h1;obtain⟨t,ht⟩:=aG (eQ z);rw[ht]at gU;have hd:decide (z≠0)=decide (t≠0):=by
  rw[<-ht];unfold eQ;by_cases h:z=0
  . simp[h]
  . by_cases h2:z<0
    . simp[h,h2]
    . simp[h,h2]
 rw[hd];have jM:=ai gU;clear gU hd ht hs hl hz Hz;have Hb:Hid (Bw w w):=Below.refl _ _;go_enter Tryz.func182,Tryz.ntmps182;go_wp2_with fail;refine(jM.out _).mono ?_;rintro e w1 ⟨rfl,ae⟩;replace Hb:=aB Hb ae;clear ae h0 h1 hk bK;go_wp2;refine bodyPost_ret (results_tmp rfl _ _ _) rfl ⟨?_,Hb.out⟩;by_cases h:t=0<;>simp[h]
theorem ams (p:Value->Bool)(vs:List Value)(q:Nat->Bool)(c:Nat)(h:∀i (hi:i<vs.length),p vs[i]=q i):
 idxFrom p vs c=match (List.range vs.length).find? q with|none=>-1|some m=>((c+m:Nat):Int):=by
 induction vs generalizing c q with
 |nil=>rfl
 | cons v vs ih=>
   have h0:=h 0 zm;have hs:=ih (λi=>q (i+1)) (c+1) (λi hi=>h (i+1) (by simpa using hi));simp only[List.getElem_cons_zero]at h0;rw[List.length_cons,List.range_succ_eq_map,List.find?_cons];unfold idxFrom;rw[h0];cases hq:q 0 with
   |true=>simp
   | false=>
     rw[hs,List.find?_map];simp only[Bool.false_eq_true,if_false];have e:(q∘Nat.succ)=λi=>q (i+1):=rfl;rw[e];cases (List.range vs.length).find? λi=>q (i+1)with
     |none=>rfl
     |some m=>simp only[Option.map_some];congr 1;omega
theorem aoX (p:Value->Bool)(vals:List Value)(f:Nat->Nat->Int)(n k:Nat)(hn:vals.length=n)(h:∀i (hi:i<vals.length),p vals[i]=decide (f i k≠0)):
 idxFrom p (vals.drop k) 0=match qW f n k with|none=>-1|some m=>(m:Int):=by
 rw[ams p (vals.drop k) (λi=>f (k+i) k !=0) 0 (λi hi=>by
  rw[List.getElem_drop,h]
  simp[bne,Bool.beq_eq_decide_eq])]
 unfold qW;rw[List.length_drop,hn];simp only[Nat.zero_add]
theorem arK (x y:Int)(w:World)(hx:(nt x.natAbs).length<=34359738368)(hy:(nt y.natAbs).length<=34359738368)(h0:y≠0)(hd:y∣x):
 Calls Tryz.prog 183 #[.agg #[ag (au x),ah (nt x.natAbs)],.agg #[ag (au y),ah (nt y.natAbs)]] w λe w'=>∃r,e=.returned (.tuple #[cX (x/y),r,ag true])/\Bw w w':=by
 have h:=arL (au x) (au y) (nt x.natAbs) (nt y.natAbs) w hx hy (by rw[jJ];omega) (by rw[jJ,jJ];exact Nat.mod_eq_zero_of_dvd (Int.natAbs_dvd_natAbs.2 hd));rw[eX,eX]at h;exact h
end Go.Proofs.YtoopepmmepmfnaaGreatDoor
namespace Go.Proofs.YtoopepmmepmfnaaGreatDoor
open Go.RowKit
def fh (f:Nat->Nat->Int)(n:Nat):List (List Int):=(List.range n).map λa=>(List.range n).map (f a)
theorem IC (f:Nat->Nat->Int)(n:Nat):(fh f n).length=n:=by simp[fh]
theorem Mq (f:Nat->Nat->Int)(n i:Nat)(h:i<n):(fh f n).getD i []=(List.range n).map (f i):=by simp[fh,List.getD_eq_getElem?_getD,h]
theorem aq7 (f:Nat->Nat->Int)(n i j:Nat)(h:i<n)(h':j<n):((fh f n).getD i []).getD j 0=f i j:=by rw[Mq f n i h];simp[List.getD_eq_getElem?_getD,h']
theorem aq8 (f:Nat->Nat->Int)(n i j:Nat)(y:Int)(h:i<n):(fh f n).set i (((fh f n).getD i []).set j y)=fh (λa b=>if a=i/\b=j then y else f a b) n:=by
 rw[Mq f n i h];apply List.ext_getElem
 . simp[fh]
 . intro a h1 h2;have ha:a<n:=by simpa[fh]using h2
   rw[List.getElem_set];split
   . rename_i e
     subst e;apply List.ext_getElem
     . simp[fh]
     . intro b h3 h4;have hb:b<n:=by simpa[fh]using h4
       rw[List.getElem_set];by_cases e2:j=b
       . subst e2;simp[fh]
       . have e3:¬b=j:=λe=>e2 e.symm;simp[fh,e2,e3]
   . rename_i e
     have e3:¬a=i:=λe'=>e e'.symm;simp[fh,e3]
theorem aq9 (f:Nat->Nat->Int)(n k m:Nat)(h:k<n)(h':m<n):((fh f n).set k ((fh f n).getD m [])).set m ((fh f n).getD k [])=fh (cE f k m) n:=by
 apply List.ext_getElem
 . simp[fh]
 . intro a h1 h2;have ha:a<n:=by simpa[fh]using h2
   have hs:=Ta (fh f n) [] k m (by rw[IC];exact h) (by rw[IC];exact h') a (by rw[IC];exact ha);rw[List.getD_eq_getElem?_getD,List.getElem?_eq_getElem h1]at hs;simp only[Option.getD_some]at hs;rw[hs,Mq f n _ (Mn h h' ha)];simp[fh,cE,swp]
theorem Dj {w:World}{base:Nat}{e:TypeId}{size n cap g:Nat}{xs:List Value}(h:w.ownsRow base e size (.slice (some ⟨g,0,none⟩) n cap) n xs):base<=g/\∃cur,ar w g e cur:=by
 rcases h.2 with⟨h1,_⟩ |⟨g',cap',cur,h1,hb,hg,_,_,_,hx⟩
 . simp at h1
 . simp only[Value.slice.injEq,Option.some.injEq,Addr.mk.injEq,and_true,true_and]at h1;obtain⟨rfl,rfl⟩:=h1;exact⟨hb,cur.toList,by unfold ar;simpa using hg⟩
theorem SB {w:World}{base:Nat}{e:TypeId}{size n:Nat}{v:Value}{xs:List Value}(h:w.ownsRow base e size v n xs)(hn:1<=n):∃g cap,v=.slice (some ⟨g,0,none⟩) n cap:=by
 rcases h.2 with⟨h1,h2⟩ |⟨g',cap',cur,h1,_⟩
 . omega
 . exact⟨g',cap',h1⟩
theorem aq6 {f g:Nat->Nat->Int}(n:Nat)(h:∀a b,a<n->b<n->f a b=g a b):fh f n=fh g n:=by unfold fh;refine List.map_congr_left (λa ha=>List.map_congr_left (λb hb=>h a b (List.mem_range.1 ha) (List.mem_range.1 hb)))
def ahp (w:World)(go L top:Nat):Prop:=go<top/\∀m g n c,m<L->w.cell? ⟨go,m,none⟩=some (.slice (some ⟨g,0,none⟩) n c)->g<top
def BS (w0 w:World)(base n go cap top:Nat)(f:Nat->Nat->Int):Prop:=
 jO w base n (fh f n) n (.slice (some ⟨go,0,none⟩) n cap)/\ahp w go n top/\Below base w0 w/\top<=w.heap.size
theorem BS.begin {w:World}{base n:Nat}{f:Nat->Nat->Int}{v:Value}(h:jO w base n (fh f n) n v)(hn:1<=n):∃go cap,v=.slice (some ⟨go,0,none⟩) n cap/\n<=cap/\BS w w base n go cap w.heap.size f:=by
 have h0:=h;obtain⟨vals,hl,ho,hv,_⟩:=h;obtain⟨go,cap,rfl⟩:=SB ho hn;refine⟨go,cap,rfl,Dm ho,h0,⟨?_,λm g n' c hm hc=>?_⟩,Below.refl _ _,Nat.le_refl _⟩
 . obtain⟨_,cur,hb⟩:=Dj ho;exact hb.lt
 . have hm2:m<vals.length:=by omega
   rw[mY ho m hm2]at hc;simp only[Option.some.injEq]at hc;have hrow:=hv m hm2;obtain⟨g',cap',e⟩:=SB hrow hn;rw[e]at hrow hc;simp at hc;obtain⟨rfl,rfl,rfl⟩:=hc;exact(Dj hrow).2.choose_spec.lt
theorem BS.below {w0 w w':World}{base n go cap top:Nat}{f:Nat->Nat->Int}(h:BS w0 w base n go cap top f)(hb:Bw w w')(zX:base<=top):BS w0 w' base n go cap top f:=by
 obtain⟨h1,⟨h2,h3⟩,h4,h5⟩:=h;have hs:=hb.size;refine⟨h1.below hb,⟨h2,λm g n' c hm hc=>h3 m g n' c hm ?_⟩,?_,by omega⟩
 . rw[World.cell?_of_block (a:=⟨go,m,none⟩) (w:=w) (hb.block go zo)]at hc;exact hc
 . exact h4.trans (hb.mono zo)
theorem BS.congr {w0 w:World}{base n go cap top:Nat}{f g:Nat->Nat->Int}(h:BS w0 w base n go cap top f)(he:∀a b,a<n->b<n->f a b=g a b):BS w0 w base n go cap top g:=by unfold BS at*;rw[<-aq6 n he];exact h
theorem BS.row {w0 w:World}{base n go cap top:Nat}{f:Nat->Nat->Int}(h:BS w0 w base n go cap top f)(i:Nat)(hi:i<n):
 ∃g c,base<=g/\g<top/\w.cell? ⟨go,i,none⟩=some (.slice (some ⟨g,0,none⟩) n c)/\(∀j,j<n->w.cell? ⟨g,j*2,none⟩=some (ag (au (f i j)))/\w.cell? ⟨g,j*2+1,none⟩=some (ah (nt (f i j).natAbs)))/\
  (∀q,w.frozen? ⟨g,q,none⟩=false)/\
  ∀j,j<n->∀y:Int,BS w0 ((w.setCell ⟨g,j*2,none⟩ (ag (au y))).setCell ⟨g,j*2+1,none⟩ (ah (nt y.natAbs))) base n go cap top (λa b=>if a=i/\b=j then y else f a b):=by
 obtain⟨h1,⟨h2,h3⟩,h4,h5⟩:=h;have hR:(fh f n).length=n:=IC f n;have hr:((fh f n).getD i []).length=n:=by rw[Mq f n i hi];simp
 obtain⟨vals,hl,ho,hv,hd⟩:=id h1;have hi2:i<vals.length:=by omega
 have hrow:=hv i hi2;obtain⟨g,c,e⟩:=SB hrow zo;rw[e]at hrow;obtain⟨hbg,cur,hblk⟩:=Dj hrow;have hc0:w.cell? ⟨go,i,none⟩=some (.slice (some ⟨g,0,none⟩) n c):=by rw[mY ho i hi2,e]
 refine⟨g,c,hbg,h3 i g n c hi hc0,hc0,λj hj=>?_,λq=>hblk.free q,λj hj y=>?_⟩
 . obtain⟨go',cap',g',c',e0,_,_,_,e1,e2,e3,_⟩:=h1.num i j hi hj hR hr;simp at e0;obtain⟨rfl,rfl⟩:=e0;rw[hc0]at e1;simp at e1;obtain⟨rfl,rfl⟩:=e1;rw[aq7 f n i j hi hj]at e2 e3;exact⟨e2,e3⟩
 . obtain⟨go',cap',g',c',e0,hb1,hb2,hne,e1,e2,e3,hw⟩:=h1.num i j hi hj hR hr;simp at e0;obtain⟨rfl,rfl⟩:=e0;rw[hc0]at e1;simp at e1;obtain⟨rfl,rfl⟩:=e1;have h6:=hw y;rw[aq8 f n i j y hi]at h6;refine⟨h6,⟨h2,λm g' n' c' hm hc=>h3 m g' n' c' hm ?_⟩,(h4.setCell hb2 _).setCell hb2 _,by simpa using h5⟩;rw[World.cell?_setCell_far _ _ _ _ (by simpa using hne),World.cell?_setCell_far _ _ _ _ (by simpa using hne)]at hc;exact hc
theorem BS.swap {w0 w:World}{base n go cap top:Nat}{f:Nat->Nat->Int}(h:BS w0 w base n go cap top f)(i m:Nat)(hi:i<n)(hm:m<n):
 ∃g1 c1 g2 c2,w.cell? ⟨go,i,none⟩=some (.slice (some ⟨g1,0,none⟩) n c1)/\w.cell? ⟨go,m,none⟩=some (.slice (some ⟨g2,0,none⟩) n c2)/\(∀q,w.frozen? ⟨go,q,none⟩=false)/\
  BS w0 ((w.setCell ⟨go,i,none⟩ (.slice (some ⟨g2,0,none⟩) n c2)).setCell ⟨go,m,none⟩ (.slice (some ⟨g1,0,none⟩) n c1)) base n go cap top (cE f i m):=by
 have hb:=h;obtain⟨g1,c1,_,t1,e1,_⟩:=hb.row i hi;obtain⟨g2,c2,_,t2,e2,_⟩:=hb.row m hm;obtain⟨h1,⟨h2,h3⟩,h4,h5⟩:=h;obtain⟨_,_,ho,_,_⟩:=id h1;obtain⟨pY,cur,hblk⟩:=Dj ho;obtain⟨x,y,q1,q2,hw⟩:=h1.swap i m hi hm (IC f n);rw[e1]at q1;rw[e2]at q2;simp only[Option.some.injEq]at q1 q2;subst q1 q2;rw[aq9 f n i m hi hm]at hw;refine⟨g1,c1,g2,c2,e1,e2,λq=>hblk.free q,hw,⟨h2,λm' g' n' c' hm' hc=>?_⟩,(h4.setCell pY _).setCell pY _,by simpa using h5⟩;by_cases h7:m'=m
 . subst h7;rw[ar.cell ((hblk.set i _).set m' _)]at hc;rw[List.getElem?_set_self']at hc;have:g'=g1:=by
    cases hq:(cur.set i (.slice (some ⟨g2,0,none⟩) n c2))[m']? with
    |none=>rw[hq]at hc;simp at hc
    |some z=>rw[hq]at hc;simp at hc;exact hc.1.symm
   omega
 . rw[World.cell?_setCell_other _ _ _ _ (show(⟨go,m,none⟩:Addr)≠⟨go,m',none⟩from λe=>h7 (by simpa using e.symm))]at hc;by_cases h8:m'=i
   . subst h8;rw[ar.cell (hblk.set m' _),List.getElem?_set_self']at hc;have:g'=g2:=by
      cases hq:cur[m']? with
      |none=>rw[hq]at hc;simp at hc
      |some z=>rw[hq]at hc;simp at hc;exact hc.1.symm
     omega
   . rw[World.cell?_setCell_other _ _ _ _ (show(⟨go,i,none⟩:Addr)≠⟨go,m',none⟩from λe=>h8 (by simpa using e.symm))]at hc;exact h3 m' g' n' c' hm' hc
end Go.Proofs.YtoopepmmepmfnaaGreatDoor
namespace Go.Proofs.YtoopepmmepmfnaaGreatDoor
open Go.RowKit
attribute [local go_sem ↓] Go.wp_at_zero Go.wp_at_succ
def BT (w0 w:World)(base n go cap top:Nat)(f:Nat->Nat->Int)(r l kb:Nat)(last:Int)(k:Nat):Prop:=
 BS w0 w base n go cap top f/\ar w r 32 [ag false,.string ⟨#[]⟩]/\ar w l 32 [ag (au last),ah (nt last.natAbs)]/\ar w kb 3 [af (k:Int)]/\base<=top/\top<=r/\top<=l/\top<=kb
theorem BT.below {w0 w w':World}{base n go cap top:Nat}{f:Nat->Nat->Int}{r l kb:Nat}{last:Int}{k:Nat}(h:BT w0 w base n go cap top f r l kb last k)(hb:Bw w w'):BT w0 w' base n go cap top f r l kb last k:=by obtain⟨h1,h2,h3,h4,h5,h6⟩:=h;exact⟨h1.below hb h5,h2.below hb,h3.below hb,h4.below hb,h5,h6⟩
theorem BT.congr {w0 w:World}{base n go cap top:Nat}{f g:Nat->Nat->Int}{r l kb:Nat}{last:Int}{k:Nat}(h:BT w0 w base n go cap top f r l kb last k)(he:∀a b,a<n->b<n->f a b=g a b):BT w0 w base n go cap top g r l kb last k:=
 ⟨h.1.congr he,h.2⟩
theorem BT.drew {w0 w:World}{base n go cap top:Nat}{f:Nat->Nat->Int}{r l kb:Nat}{last:Int}{k:Nat}(h:BT w0 w base n go cap top f r l kb last k):BT w0 w.drew base n go cap top f r l kb last k:=h.below ((Below.refl _ _).drew)
theorem BT.row {w0 w:World}{base n go cap top:Nat}{f:Nat->Nat->Int}{r l kb:Nat}{last:Int}{k:Nat}(h:BT w0 w base n go cap top f r l kb last k)(i:Nat)(hi:i<n):
 ∃g c,g<w.heap.size/\g<top/\w.cell? ⟨go,i,none⟩=some (.slice (some ⟨g,0,none⟩) n c)/\(∀j,j<n->w.cell? ⟨g,j*2,none⟩=some (ag (au (f i j)))/\w.cell? ⟨g,j*2+1,none⟩=some (ah (nt (f i j).natAbs)))/\
  (∀q,w.frozen? ⟨g,q,none⟩=false)/\
  ∀j,j<n->∀y:Int,BT w0 ((w.setCell ⟨g,j*2,none⟩ (ag (au y))).setCell ⟨g,j*2+1,none⟩ (ah (nt y.natAbs))) base n go cap top (λa b=>if a=i/\b=j then y else f a b) r l kb last k:=by
 obtain⟨h1,h2,h3,h4,h5,h6,h7,h8⟩:=h;have h9:=h1.2.2.2;obtain⟨g,c,hb,ht,e1,e2,e3,hw⟩:=h1.row i hi;refine⟨g,c,by omega,ht,e1,e2,e3,λj hj y=>⟨hw j hj y,?_,?_,?_,h5,h6,h7,h8⟩⟩
 . exact(h2.so _ _ zo _).so _ _ zo _
 . exact(h3.so _ _ zo _).so _ _ zo _
 . exact(h4.so _ _ zo _).so _ _ zo _
theorem BT.swap {w0 w:World}{base n go cap top:Nat}{f:Nat->Nat->Int}{r l kb:Nat}{last:Int}{k:Nat}(h:BT w0 w base n go cap top f r l kb last k)(i m:Nat)(hi:i<n)(hm:m<n):
 ∃g1 c1 g2 c2,w.cell? ⟨go,i,none⟩=some (.slice (some ⟨g1,0,none⟩) n c1)/\w.cell? ⟨go,m,none⟩=some (.slice (some ⟨g2,0,none⟩) n c2)/\(∀q,w.frozen? ⟨go,q,none⟩=false)/\
  BT w0 ((w.setCell ⟨go,i,none⟩ (.slice (some ⟨g2,0,none⟩) n c2)).setCell ⟨go,m,none⟩ (.slice (some ⟨g1,0,none⟩) n c1)) base n go cap top (cE f i m) r l kb last k:=by
 obtain⟨h1,h2,h3,h4,h5,h6,h7,h8⟩:=h;have h9:=h1.2.1.1;obtain⟨g1,c1,g2,c2,e1,e2,e3,hw⟩:=h1.swap i m hi hm;refine⟨g1,c1,g2,c2,e1,e2,e3,hw,?_,?_,?_,h5,h6,h7,h8⟩
 . exact(h2.so _ _ zo _).so _ _ zo _
 . exact(h3.so _ _ zo _).so _ _ zo _
 . exact(h4.so _ _ zo _).so _ _ zo _
theorem BT.axr {w0 w:World}{base n go cap top:Nat}{f:Nat->Nat->Int}{r l kb:Nat}{last:Int}{k:Nat}(h:BT w0 w base n go cap top f r l kb last k)(i:Nat)(hi:i<n):
 ∃g c,g<w.heap.size/\g<top/\w.cell? ⟨go,i,none⟩=some (.slice (some ⟨g,0,none⟩) n c)/\(∀j,j<n->w.cell? ⟨g,j*2,none⟩=some (ag (au (f i j)))/\w.cell? ⟨g,j*2+1,none⟩=some (ah (nt (f i j).natAbs)))/\
  ∀w',Bw w w'->(∀q,w'.frozen? ⟨g,q,none⟩=false)/\∀j,j<n->∀y:Int,BT w0 ((w'.setCell ⟨g,j*2,none⟩ (ag (au y))).setCell ⟨g,j*2+1,none⟩ (ah (nt y.natAbs))) base n go cap top (λa b=>if a=i/\b=j then y else f a b) r l kb last k:=by
 obtain⟨g,c,h1,h2,h3,h4,_,_⟩:=h.row i hi;refine⟨g,c,h1,h2,h3,h4,λw' hb=>?_⟩;obtain⟨g',c',_,_,e3,_,e5,e6⟩:=(h.below hb).row i hi;have:=cell_later hb h3;rw[e3]at this;simp at this;obtain⟨rfl,rfl⟩:=this;exact⟨e5,e6⟩
theorem BS.setOther {w0 w:World}{base n go cap top:Nat}{f:Nat->Nat->Int}(h:BS w0 w base n go cap top f)(zX:base<=top)(p o:Nat)(u:Value)(hp:top<=p):BS w0 (w.setCell ⟨p,o,none⟩ u) base n go cap top f:=by
 have hbs:=h;obtain⟨⟨vals,hl,ho,hv,hd⟩,⟨h2,h3⟩,h4,h5⟩:=h;refine⟨⟨vals,hl,ownsRow_setCell_other ho (by simp[Value.ownBlock];omega) _,λi hi=>?_,hd⟩,⟨h2,λm g n' c hm hc=>h3 m g n' c hm ?_⟩,h4.setCell zp _,by simpa using h5⟩
 . obtain⟨g,c,_,ht,e,_⟩:=hbs.row i zo;rw[mY ho i hi]at e;have e1:vals[i]=.slice (some ⟨g,0,none⟩) n c:=by simpa using e
   exact ownsRow_setCell_other (hv i hi) (by rw[e1];simp[Value.ownBlock];omega) _
 . rw[World.cell?_setCell_far _ _ _ _ zp]at hc;exact hc
theorem BT.setLast {w0 w:World}{base n go cap top:Nat}{f:Nat->Nat->Int}{r l kb:Nat}{last:Int}{k:Nat}(h:BT w0 w base n go cap top f r l kb last k)(x:Int)(h1:l≠r)(h2:l≠kb):
 BT w0 ((w.setCell ⟨l,0,none⟩ (ag (au x))).setCell ⟨l,1,none⟩ (ah (nt x.natAbs))) base n go cap top f r l kb x k:=by
 obtain⟨q1,q2,q3,q4,q5,q6,q7,q8⟩:=h;exact⟨(q1.setOther q5 l 0 _ q7).setOther q5 l 1 _ q7,(q2.so _ _ h1 _).so _ _ h1 _,(q3.set 0 _).set 1 _,(q4.so _ _ h2 _).so _ _ h2 _,q5,q6,q7,q8⟩
theorem arP (x y N:Int)(h:x-y=N)(w:World)(hx:(nt x.natAbs).length<=34359738368)(hy:(nt y.natAbs).length<=34359738368):
 Calls Tryz.prog 37 #[.agg #[ag (au x),ah (nt x.natAbs)],.agg #[ag (au y),ah (nt y.natAbs)]] w λe w'=>e=.returned (cX N)/\Bw w w':=by
 have:=Mv (au x) (nt x.natAbs) (au y) (nt y.natAbs) w hx hy;rw[eX,eX,h]at this;exact this
theorem adz (x y N:Int)(h:x*y=N)(b cap:Nat)(ty:TypeId)(w:World)(hx:(nt x.natAbs).length<=17179869184)(hy:(nt y.natAbs).length<=17179869184)(ha:ar w b ty [ag (au x),ah (nt x.natAbs),ag (au y),ah (nt y.natAbs)]):
 Calls Tryz.prog 88 #[.slice (some ⟨b,0,none⟩) 2 cap] w λe w'=>e=.returned (cX N)/\Bw w w':=
 adA _ _ _ _ N (by rw[eX,eX,h]) b cap ty w hx hy ha
theorem BS.row_ne {w0 w:World}{base n go cap top:Nat}{f:Nat->Nat->Int}(h:BS w0 w base n go cap top f)(i:Nat)(hi:i<n){g c:Nat}(hc:w.cell? ⟨go,i,none⟩=some (.slice (some ⟨g,0,none⟩) n c)):g≠go:=by
 obtain⟨⟨vals,hl,ho,hv,hd⟩,_⟩:=h;have hi2:i<vals.length:=by omega
 rw[mY ho i hi2]at hc;simp only[Option.some.injEq]at hc;have hrow:=hv i hi2;rw[hc]at hrow;obtain⟨_,c1,b1⟩:=Dj hrow;obtain⟨_,c2,b2⟩:=Dj ho;rintro rfl;have:=b1.symm.trans b2;simp at this
def Ik (f:Nat->Nat->Int)(n k:Nat):Int:=match qW f n k with|none=>-1|some m=>(m:Int)
open Classical in
theorem BS.index {w0 w:World}{base n go cap top:Nat}{f:Nat->Nat->Int}(h:BS w0 w base n go cap top f)(k kb:Nat)(hk:k<n)(hn:n<=8)(hkb:w.cell? ⟨kb,0,none⟩=some (af (k:Int)))(hz:∀a b,a<n->b<n->(nt (f a b).natAbs).length<=1099511627776):
 Calls Tryz.prog 181 #[.slice (some ⟨go,k,none⟩) (n-k) (cap-k),.func (.func 182) #[] #[.pointer (some ⟨kb,0,none⟩)]] w λe w'=>e=.returned (af (Ik f n k))/\Bw w w':=by
 have hbs:=h;obtain⟨h1,_,_,_⟩:=h;obtain⟨vals,hl,ho,hv,hd⟩:=h1;have hrow:∀i (hi:i<vals.length),∃g c,vals[i]=.slice (some ⟨g,0,none⟩) n c/\∀j,j<n->w.cell? ⟨g,j*2,none⟩=some (ag (au (f i j)))/\w.cell? ⟨g,j*2+1,none⟩=some (ah (nt (f i j).natAbs)):=by intro i hi;obtain⟨g,c,_,_,e1,e2,_⟩:=hbs.row i zo;rw[mY ho i hi]at e1;exact⟨g,c,by simpa using e1,e2⟩
 have hinj:∀i j (hi:i<vals.length) (hj:j<vals.length),vals[i]=vals[j]->i=j:=by intro i j hi hj e;obtain⟨g,c,e1,_⟩:=hrow i hi;exact hd i j hi hj g (by rw[e1];rfl) (by rw[<-e,e1];rfl)
 obtain⟨p,hp⟩:∃p:Value->Bool,∀i (hi:i<vals.length),p vals[i]=decide (f i k≠0):=by
  refine⟨λv=>decide (∃i,∃hi:i<vals.length,vals[i]=v/\f i k≠0),λi hi=>?_⟩;by_cases h0:f i k≠0
  . have:∃j,∃hj:j<vals.length,vals[j]=vals[i]/\f j k≠0:=⟨i,hi,rfl,h0⟩;show decide _=decide _
    rw[decide_eq_true this,decide_eq_true h0]
  . have:¬∃j,∃hj:j<vals.length,vals[j]=vals[i]/\f j k≠0:=by rintro⟨j,hj,e,h2⟩;exact h0 (by rw[<-hinj j i hj hi e];exact h2)
    simp only[this,h0,decide_false]
 have hpv:=aoX p vals f n k zo hp;have hat:At w (some ⟨go,k,none⟩) (vals.drop k):=by refine .inr ⟨go,k,rfl,λj hj=>?_⟩;rw[List.length_drop]at hj;rw[mY ho (k+j) zo,List.getElem?_drop,List.getElem?_eq_getElem]
 have:=amn (some ⟨go,k,none⟩) (n-k) (cap-k) (vals.drop k) 182 #[.pointer (some ⟨kb,0,none⟩)] p w (by rw[List.length_drop,hl]) zo hat (enters_of Tryz.func182 zk rfl) (λv hv W hb=>by
  obtain⟨i,hi,rfl⟩:=List.mem_iff_getElem.1 hv;rw[List.getElem_drop];have hi2:k+i<vals.length:=by rw[List.length_drop]at hi;omega
  obtain⟨g,c,e1,e2⟩:=hrow (k+i) hi2;obtain⟨e3,e4⟩:=e2 k hk;rw[hp (k+i) hi2,e1]
  exact ah5 kb k g n c (f (k+i) k) W (cell_later hb hkb) hk (cell_later hb e3) (cell_later hb e4) (hz _ _ zo hk))
 rw[hpv]at this;exact this
def Bs (w0 w:World)(base n go cap top r l K:Nat)(Z:Int)(k:Nat)(f:Nat->Nat->Int)(last:Int)(t:Bool):Prop:=
 BS w0 w base n go cap top f/\ar w r 32 [ag false,.string ⟨#[]⟩]/\ar w l 32 [ag (au last),ah (nt last.natAbs)]/\ie n (n-k) k f last/\fu n (n-k) k f last t=Z/\last≠0/\
  ∃Q,Q+1<=2^k* (K+1)/\last.natAbs<2^Q/\∀a b,a<n->b<n->(f a b).natAbs<2^Q
theorem aqY (f:Nat->Nat->Int)(k:Nat):cE f k (k+0)=f:=by
 funext a b;unfold cE
 simp only[Nat.add_zero];by_cases h:a=k
 . rw[if_pos h,h]
 . rw[if_neg h,if_neg h]
theorem Bs.none {w0 w:World}{base n go cap top r l K k:Nat}{Z:Int}{f:Nat->Nat->Int}{last:Int}{t:Bool}(h:Bs w0 w base n go cap top r l K Z k f last t)(hk:k<n)(hp:qW f n k=none):Z=0:=by obtain⟨_,_,_,_,h2,_⟩:=h;rw[show n-k=n-(k+1)+1 by omega]at h2;unfold fu at h2;rw[hp]at h2;exact h2.symm
theorem Bs.some {w0 w:World}{base n go cap top r l K k m:Nat}{Z:Int}{f:Nat->Nat->Int}{last:Int}{t:Bool}(h:Bs w0 w base n go cap top r l K Z k f last t)(hk:k<n)(hp:qW f n k=some m):
 ∃g,g=cE f k (k+m)/\g k k≠0/\(∀a b,k<a->a<n->k<b->b<n->last∣cQ g k a b)/\ie n (n-(k+1)) (k+1) (eu g k last) (g k k)/\fu n (n-(k+1)) (k+1) (eu g k last) (g k k) (t !=decide (0<m))=Z/\
  ∃Q,2*Q+2<=2^(k+1) * (K+1)/\last.natAbs<2^Q/\(∀a b,a<n->b<n->(g a b).natAbs<2^Q)/\(g k k).natAbs<2^(2*Q+1)/\∀a b,a<n->b<n->(eu g k last a b).natAbs<2^(2*Q+1):=by
 obtain⟨_,_,_,h1,h2,h3,Q,hQ,hl,hf⟩:=h;have Gz:=mA hp;rw[show n-k=n-(k+1)+1 by omega]at h1 h2;unfold ie at h1;unfold fu at h2;rw[hp]at h1 h2;simp only at h1 h2;obtain⟨g,hg⟩:∃g,g=cE f k (k+m):=⟨_,rfl⟩;rw[<-hg]at h1 h2;have jp:∀a b,a<n->b<n->(g a b).natAbs<2^Q:=by
  intro a b ha hb;rw[hg];unfold cE;refine hf _ _ ?_ hb;split
  . omega
  . split
    . omega
    . exact ha
 have FB:2^Q<=2^(2*Q+1):=Nat.pow_le_pow_right zd zo;refine⟨g,hg,?_,h1.1,h1.2,h2,Q,?_,hl,jp,Nat.lt_of_lt_of_le (jp k k hk hk) FB,λa b ha hb=>?_⟩
 . rw[hg];unfold cE;rw[if_pos rfl];exact Gz.2
 . rw[Nat.pow_succ];have:2^k*2* (K+1)=2* (2^k* (K+1)):=by rw[Nat.mul_comm (2^k) 2,Nat.mul_assoc]
   omega
 . unfold eu;split
   . rename_i h4
     have h5:=(Sv g k a b Q (jp a b ha hb) (jp k k hk hk) (jp a k ha hk) (jp k b hk hb)).2.2;rcases div_lt _ last _ h5 with h6|h6
     . exact h6
     . exact absurd (h1.1 a b h4.1 ha h4.2 hb) h6
   . exact Nat.lt_of_lt_of_le (jp a b ha hb) FB
theorem Bs.next {w0 w:World}{base n go cap top r l kb K k:Nat}{Z:Int}{f g:Nat->Nat->Int}{x:Int}{t:Bool}(h:BT w0 w base n go cap top f r l kb x k)(hf:∀a b,a<n->b<n->f a b=g a b)(hx:x≠0)(h1:ie n (n-(k+1)) (k+1) g x)(h2:fu n (n-(k+1)) (k+1) g x t=Z)
 (h3:∃Q,Q+1<=2^(k+1) * (K+1)/\x.natAbs<2^Q/\∀a b,a<n->b<n->(g a b).natAbs<2^Q):Bs w0 w base n go cap top r l K Z (k+1) g x t:=
 ⟨(h.congr hf).1,h.2.1,h.2.2.1,h1,h2,hx,h3⟩
def JF (a0:Act)(w0:World)(cs:List (Addr×Value))(x1 x2 x3 x4 P1 P2 N:Int)(dn:Nat->Bool)(a:Act)(w:World):Prop:=
 ∃v1 v2 v3 v4 v5 v6:Value,a=(((((a0.put (some 76) v1).put (some 77) v2).put (some 92) v3).put (some 93) v4).put (some 94) v5).put (some 10) v6/\jZ cs w/\Bw w0 w/\
  (dn 14=true->∃b,v1=.slice (some ⟨b,0,none⟩) 2 2/\ar w b 32 [ag (au x1),ah (nt x1.natAbs),ag (au x2),ah (nt x2.natAbs)])/\(dn 15=true->v2=cX P1)/\
  (dn 30=true->∃b,v3=.slice (some ⟨b,0,none⟩) 2 2/\ar w b 32 [ag (au x3),ah (nt x3.natAbs),ag (au x4),ah (nt x4.natAbs)])/\(dn 31=true->v4=cX P2)/\(dn 32=true->v5=cX N)/\
  (dn 33=true->∃b,v6=.pointer (some ⟨b,0,none⟩)/\w0.heap.size<=b/\ar w b 32 [ag false,.string ⟨#[]⟩])
theorem JF.init (a:Act)(w0 w:World)(cs:List (Addr×Value))(x1 x2 x3 x4 P1 P2 N:Int)(hk:jZ cs w)(hb:Bw w0 w):JF a w0 cs x1 x2 x3 x4 P1 P2 N (λ_=>false) a w:=
 ⟨a.tmps.getD 76 undef,a.tmps.getD 77 undef,a.tmps.getD 92 undef,a.tmps.getD 93 undef,a.tmps.getD 94 undef,a.tmps.getD 10 undef,by rw[Dq,Dq,Dq,Dq,Dq,Dq],hk,hb,(λh=>by cases h),(λh=>by cases h),(λh=>by cases h),(λh=>by cases h),(λh=>by cases h),(λh=>by cases h)⟩
theorem ah6 (base n K:Nat)(f:Nat->Nat->Int)(v:Value)(w:World)(hn:1<=n)(bO:n<=4)(hO:jO w base n (fh f n) n v)(dY:base<=w.heap.size)(Cw:1<=K)(hK:∀a b,a<n->b<n->(f a b).natAbs<2^K)(hK2:K<=100000000):
 Calls Tryz.prog 143 #[v] w λe w'=>e=.returned (cX (fu n n 0 f 1 false))/\Below base w w':=by
 obtain⟨go,cap,rfl,hcap,hbs⟩:=BS.begin hO hn;obtain⟨Z,hZ⟩:=aG (fu n n 0 f 1 false);have hex:=Xc n hn bO f;have hsz:∀k Q:Nat,k<=n->Q+1<=2^k* (K+1)->Q<=1800000000:=by intro k Q h1 h2;have h3:2^k<=2^4:=Nat.pow_le_pow_right zd zo;have h4:=Nat.mul_le_mul_right (K+1) h3;omega
 rw[hZ];obtain⟨Uw,HZ,UE,jN,HK⟩:=gJ hbs hZ hex hsz hK;clear hO hbs hZ hex hsz hK;have Hb:Hid (Bw w w):=Below.refl _ _;go_enter Tryz.func143,Tryz.ntmps143;go_wp2_with fail;obtain⟨R,hR⟩:∃R:World->Prop,(λW=>ar W (w.heap.size) 32 [ag false,.string ⟨#[]⟩]/\Bw w W)=R:=⟨_,rfl⟩;first|refine cf R ?hR ?_|refine bZ R ?hR ?_
 case hR=>subst hR;exact⟨(ar.newAt w _ _ (b:=w.heap.size) rfl),zl⟩
 subst hR;rintro W ⟨qr,ae⟩;have Hr:=ai qr;clear qr;obtain⟨r0,aj,r1,ak⟩:=Hr.out.g2;replace Hb:=aB Hb ae;clear ae;go_wp2_with fail;refine(TC 1 _ zd zd).mono ?_;rintro e w1 ⟨rfl,ae⟩;clear r0 aj r1 ak;obtain⟨Hr,r0,aj,r1,ak⟩:=bE Hr ae;replace Hb:=aB Hb ae;clear ae;have qK:=Hr.out.lt;obtain⟨W2,mM,ae,Hl⟩:=cd w1 32 [ag (au 1),ah (nt 1)];clear r0 aj r1 ak;obtain⟨Hr,r0,aj,r1,ak⟩:=bE Hr ae;obtain⟨l0,iX,l1,iY⟩:=Hl.out.g2;replace Hb:=aB Hb ae;clear ae;have TS:=ai (Uw.out.below Hb.out zo);have alQ:w.heap.size<w1.heap.size:=qK;have hq0:=Hr.out;have hq1:=Hl.out;clear r0 r1 aj ak l0 l1 iX iY;have hst:Bs w W2 base n go cap w.heap.size w.heap.size w1.heap.size K Z 0 f 1 false:=⟨TS.out,hq0,hq1,UE.out,HZ.out,by decide,K,by omega,by rw[show(1:Int).natAbs=1 from rfl];exact Nat.one_lt_two_pow zo,HK.out⟩;clear hq0 hq1;have bX:=ai hst;have szW:=Hb.out.size;clear hst TS Hb Hr Hl Uw HK UE HZ;go_wp2_with fail;go_loopw[5,15] (λs5 x wr=>∃(k:Nat) (f':Nat->Nat->Int) (last:Int) (t:Bool),k<=n/\x=af (k:Int)/\s5=ag t/\Bs w wr base n go cap w.heap.size w.heap.size w1.heap.size K Z k f' last t) (λ_ x _=>n-(intOf x).toNat);case atStart=>exact⟨0,f,1,false,Nat.zero_le _,rfl,rfl,bX.out⟩
 case round=>
  clear bX;obtain⟨k,f',last,t,hk,rfl,rfl,hS⟩:=hrel;obtain⟨wk,hwk⟩:∃wk,wk=wr:=⟨_,rfl⟩;subst hwk;by_cases hlt:k<n
  . obtain⟨Q0,zQ,_,Yf⟩:=hS.2.2.2.2.2.2;have gz:=jN.out k Q0 hk zQ;have hlen:∀a b,a<n->b<n->(nt (f' a b).natAbs).length<=1099511627776:=λa b ha hb=>jS (Yf a b ha hb) zo;have hkc:k<cap:=by omega
    obtain⟨HS,mE⟩:=aO hS hlen;have tW:=hS.1.2.2.2;clear hS zQ Yf gz hlen;have Hb:Hid (Bw wk wk):=Below.refl _ _;obtain⟨Hr,Hl⟩:=aO HS.out.2.1 HS.out.2.2.1;obtain⟨r0,aj,r1,ak⟩:=Hr.out.g2;obtain⟨l0,iX,l1,iY⟩:=Hl.out.g2;have GY:=Hr.out.lt;have anm:=Hl.out.lt;obtain⟨W3,Qh,ae,oJ⟩:=cd wk 3 [af (k:Int)];clear r0 aj r1 ak;replace Hr:=kB Hr ae;clear l0 iX l1 iY;obtain⟨Hl,l0,iX,l1,iY⟩:=bE Hl ae;obtain⟨r0,aj,r1,ak⟩:=Hr.out.g2;have eP:=oJ.out.c1;replace Hb:=aB Hb ae;clear ae;have kV:=ai (HS.out.1.below Hb.out zo);go_wp2_with fail;refine(kV.out.index k wk.heap.size hlt zo eP mE.out).mono ?_;rintro e w4 ⟨rfl,ae⟩;clear r0 aj r1 ak l0 iX l1 iY eP;obtain⟨Hr,r0,aj,r1,ak⟩:=bE Hr ae;obtain⟨Hl,l0,iX,l1,iY⟩:=bE Hl ae;replace oJ:=kB oJ ae;have eP:=oJ.out.c1;replace Hb:=aB Hb ae;clear ae;cases hp:qW f' n k with
    | none=>
      have hpv:Ik f' n k= -1:=by unfold Ik;rw[hp]
      have hz:=HS.out.none hlt hp;rw[hpv];have ML:=ai (HS.out.1.2.2.1.trans (Hb.out.mono zo));clear HS mE kV hp;go_wp2;refine bodyPost_ret (v:=.agg #[ag false,.string ⟨#[]⟩]) (by simp[results,Tryz.results143,go_sem,r0,r1]) rfl ⟨by rw[hz];rfl,?_⟩;exact(ML.out.setCell zp _).setCell zp _
    | some m=>
      have hpv:Ik f' n k=(m:Int):=by unfold Ik;rw[hp]
      rw[hpv];obtain⟨rT,_⟩:=mA hp;obtain⟨g,hg,lw,nP,Zb,YO,Q,hQ,Gk,jp,Zn,GH⟩:=HS.out.some hlt hp;have hl0:=HS.out.2.2.2.2.2.1;have zX:BT w w4 base n go cap w.heap.size f' w.heap.size w1.heap.size wk.heap.size last k:=⟨HS.out.1.below Hb.out zo,Hr.out,Hl.out,oJ.out,by omega,Nat.le_refl _,by omega,by omega⟩;obtain⟨wN,Hdv,UF,Uu,HQ,UW,UN,UQ,sL,Hg,Jo,ry⟩:=gB zX nP Zb YO hQ Gk jp Zn GH hg lw hl0;clear zX nP Zb YO hQ Gk jp Zn GH hg lw hl0 hpv hp HS mE kV Hb Hr Hl oJ r0 r1 aj ak l0 l1 iX iY eP;have hm0:¬(m:Int)<0:=by omega
      go_upto_if 27 with fail
      go_cut[5] (λs5 wx=>s5=ag (t !=decide (0<m))/\BT w wx base n go cap w.heap.size g w.heap.size w1.heap.size wk.heap.size last k);case first=>
       by_cases hm:0<m
       . have mg:(0:Int)<(m:Int):=by omega
         obtain⟨g1,c1,g2,c2,e1,e2,e3,hsw⟩:=wN.out.swap k (k+m) hlt zo;rw[<-Hg.out]at hsw;have NT:=ai hsw;have nQ:=CU n cap k (k:Int) (rfl:(some ⟨go,0,none⟩:Option Addr)=_) hlt rfl;have kJ:=CU n cap (k+m) ((k+m:Nat):Int) (rfl:(some ⟨go,0,none⟩:Option Addr)=_) zo rfl;rw[Nat.zero_add,Nat.mul_one]at nQ kJ;have hwm:IntKind.i64.wrap ((k:Int)+(m:Int))=((k+m:Nat):Int):=by rw[IntKind.wrap_i64];omega
         obtain⟨km,qo⟩:=aG (k+m);rw[qo]at e2 kJ hwm NT;have oJ:=ai wN.out.2.2.2.1;have Hxa:Hid (bH w4 go k [.slice (some ⟨g1,0,none⟩) n c1]):=λj hj=>by
          obtain rfl:j=0:=by simp at hj;omega
          exact e1
         have Hxb:Hid (bH w4 go km [.slice (some ⟨g2,0,none⟩) n c2]):=λj hj=>by
          obtain rfl:j=0:=by simp at hj;omega
          exact e2
         have z1:w4.drew.frozen? ⟨go,k,none⟩=false:=e3 k;have z2:w4.drew.frozen? ⟨go,km,none⟩=false:=e3 km;have z3:w4.frozen? ⟨go,km,none⟩=false:=e3 km;have y2:(w4.setCell ⟨go,k,none⟩ (.slice (some ⟨g2,0,none⟩) n c2)).cell? ⟨go,km,none⟩=some (.slice (some ⟨g2,0,none⟩) n c2):=aK (.inr zp) e2;have Hkm:=ai qo;clear hsw e1 e2 e3 qo;go_wp2_with fail;have eP:=oJ.out.c1;have xa0:=Hxa.out.w1;have xb0:=Hxb.out.w1;have hgo:go<wk.heap.size:=by have:=wN.out.1.2.1.1;omega
         refine TF (λw'=>aC w' (wk.heap.size) 0 (af (k:Int))) (λi=>Nat.blt i 19) (.rd 0 (.rd 1 (.rd 2 (.rd 3 (.rd 4 (.rd 5 (.rd 6 (.rd 7 (.rd 8 (.rd 9 (.rd 10 (.rd 12 (.rd 13 (.rd 14 (.br 11 15 (.lin [(15,false),(16,true),(17,false),(18,false),(19,false)]) (.lin [(11,false),(16,true),(17,false),(18,false),(19,false)])))))))))))))))) zk zk rfl zk zc eP ?_;iterate 14 (refine Md rfl rfl (v:=?_) (λw' hw'=>?_) ?_;rotate_left;(focus go_simp;try with_reducible rfl))
         refine Dp rfl rfl rfl rfl rfl rfl  (λK hK=>?_) (λK hK=>?_) 
         . go_simp;refine hK _ _ (by first|exact λ_=>eP|exact λ_=>gG zg eP) ?_;clear hK K
           refine wn ?_;refine aI rfl rfl (λK hK=>?_);go_simp;refine hK _ _ (by first|exact λh=>absurd h zd|exact λ_=>eP|exact λ_=>gG zg eP) ?_;clear hK K
           refine pT rfl rfl ?_
           refine aI rfl rfl (λK hK=>?_);go_simp;refine hK _ _ (by first|exact λh=>absurd h zd|exact λ_=>eP|exact λ_=>gG zg eP) ?_;clear hK K
           refine aI rfl rfl (λK hK=>?_);go_simp;refine hK _ _ (by first|exact λh=>absurd h zd|exact λ_=>eP|exact λ_=>gG zg eP) ?_;clear hK K
           refine aI rfl rfl (λK hK=>?_);go_simp;refine hK _ _ (by first|exact λh=>absurd h zd|exact λ_=>eP|exact λ_=>gG zg eP) ?_;clear hK K
           simp only[bi];go_wp2_with fail;go_meet;exact⟨by simp[hm],NT.out.drew⟩
         . go_simp;refine hK _ _ (by first|exact λ_=>eP|exact λ_=>gG zg eP) ?_;clear hK K
           refine wn ?_;refine aI rfl rfl (λK hK=>?_);go_simp;refine hK _ _ (by first|exact λh=>absurd h zd|exact λ_=>eP|exact λ_=>gG zg eP) ?_;clear hK K
           refine pT rfl rfl ?_
           refine aI rfl rfl (λK hK=>?_);go_simp;refine hK _ _ (by first|exact λh=>absurd h zd|exact λ_=>eP|exact λ_=>gG zg eP) ?_;clear hK K
           refine aI rfl rfl (λK hK=>?_);go_simp;refine hK _ _ (by first|exact λh=>absurd h zd|exact λ_=>eP|exact λ_=>gG zg eP) ?_;clear hK K
           refine aI rfl rfl (λK hK=>?_);go_simp;refine hK _ _ (by first|exact λh=>absurd h zd|exact λ_=>eP|exact λ_=>gG zg eP) ?_;clear hK K
           simp only[bi];go_wp2_with fail;go_meet;exact⟨by simp[hm],NT.out.drew⟩
       . have hm2:¬(0:Int)<(m:Int):=by omega
         obtain rfl:m=0:=by omega
         go_wp2_with fail;go_meet;refine⟨by simp,?_⟩;rw[Hg.out,aqY];exact wN.out
      case rest=>
       obtain⟨rfl,zX⟩:=hcut;have wN:=ai zX;have gz:=jN.out (k+1) (2*Q+1) zo (by have:=HQ.out;omega);clear zX;have eP:wc.cell? ⟨wk.heap.size,0,none⟩=some (af (k:Int)):=wN.out.2.2.2.1.cell 0;go_wp2_with fail;go_loopw[8] (λx wr=>∃i:Nat,k<i/\i<=n/\x=af (i:Int)/\BT w wr base n go cap w.heap.size (lD g k last i (k+1)) w.heap.size w1.heap.size wk.heap.size last k) (λx _=>n-(intOf x).toNat);case atStart=>exact⟨k+1,by omega,by omega,by go_num,by rw[aoS];exact wN.out⟩
       case round=>
        clear eP wN;obtain⟨i,Gh,hin,rfl,hT⟩:=hrel;have ue:=ai hT;clear hT;have eP:wr.cell? ⟨wk.heap.size,0,none⟩=some (af (k:Int)):=ue.out.2.2.2.1.cell 0;by_cases bG:i<n
        . obtain⟨wi,nX⟩:∃wi,wi=wr:=⟨_,rfl⟩;subst nX;go_wp2_with fail;go_loopw[9] (λx wr=>∃j:Nat,k<j/\j<=n/\x=af (j:Int)/\BT w wr base n go cap w.heap.size (lD g k last i j) w.heap.size w1.heap.size wk.heap.size last k) (λx _=>n-(intOf x).toNat);case atStart=>exact⟨k+1,by omega,by omega,by go_num,ue.out⟩
          case round=>
           clear eP ue;obtain⟨j,hkj,hjn,rfl,hT⟩:=hrel;by_cases iN:j<n
           . have BD:=ai hT;clear hT;obtain⟨gi,ci,li,ti,ei,ri,_⟩:=BD.out.row i bG;obtain⟨gk,ck,lk,tk,ek,rk,_⟩:=BD.out.row k hlt;obtain⟨p1,p2,p3,p4⟩:=aoP g k last i j;obtain⟨aa,JH⟩:=ri j iN;obtain⟨ab,JK⟩:=rk k hlt;obtain⟨ac,JL⟩:=ri k hlt;obtain⟨ad,JM⟩:=rk j iN;rw[p1]at aa JH;rw[p2]at ab JK;rw[p3]at ac JL;rw[p4]at ad JM;have jp:=UN.out;have q1:=jp i j bG iN;have q2:=jp k k hlt hlt;have q3:=jp i k bG hlt;have q4:=jp k j hlt iN;obtain⟨m1,m2,m3⟩:=Sv g k i j Q q1 q2 q3 q4;have nP:=Hdv.out i j Gh bG hkj iN;have Ai:=fun a b=>congrFun (congrFun (aoQ g k last i j Gh hkj) a) b;have hN:g i j*g k k-g i k*g k j=cQ g k i j:=rfl;generalize cQ g k i j=N at*;obtain⟨x1,hx1⟩:∃x,g i j=x:=⟨_,rfl⟩;obtain⟨x2,hx2⟩:∃x,g k k=x:=⟨_,rfl⟩;obtain⟨x3,hx3⟩:∃x,g i k=x:=⟨_,rfl⟩;obtain⟨x4,hx4⟩:∃x,g k j=x:=⟨_,rfl⟩;rw[hx1]at q1 m1 hN aa JH;rw[hx2]at q2 m1 hN ab JK;rw[hx3]at q3 m2 hN ac JL;rw[hx4]at q4 m2 hN ad JM;obtain⟨P1,PU⟩:∃x,x1*x2=x:=⟨_,rfl⟩;obtain⟨P2,sY⟩:∃x,x3*x4=x:=⟨_,rfl⟩;rw[PU]at m1 hN;rw[sY]at m2 hN;have L1:(nt x1.natAbs).length<=17179869184:=jS q1 zo;have L2:(nt x2.natAbs).length<=17179869184:=jS q2 zo;have L3:(nt x3.natAbs).length<=17179869184:=jS q3 zo;have L4:(nt x4.natAbs).length<=17179869184:=jS q4 zo;have L5:(nt P1.natAbs).length<=34359738368:=jS m1 zo;have L6:(nt P2.natAbs).length<=34359738368:=jS m2 zo;have L7:(nt N.natAbs).length<=34359738368:=jS m3 zo;have L8:(nt last.natAbs).length<=34359738368:=jS UW.out zo;obtain⟨kX,TX,DX,TY,TZ,Ua,Ub,Uc,Uf,Bu,HN,MX⟩:=gB L1 L2 L3 L4 L5 L6 L7 L8 PU sY hN nP;have Vi:=ai Ai;clear L1 L2 L3 L4 L5 L6 L7 L8 PU sY hN nP Ai q1 q2 q3 q4 m1 m2 m3 hx1 hx2 hx3 hx4 jp p1 p2 p3 p4 ri rk;have IK:∀(b o:Nat) (u v:Value),wr.cell? ⟨b,o,none⟩=some u->wr.cell? ⟨b,o+1,none⟩=some v->bH wr b o [u,v]:=by
              intro b o u v h1 h2 j hj;rcases j with _|_|j
              . exact h1
              . exact h2
              . simp at hj;omega
             have TE:∀(b o:Nat) (u:Value),wr.cell? ⟨b,o,none⟩=some u->bH wr b o [u]:=by
              intro b o u h1 j hj;obtain rfl:j=0:=by simp at hj;omega
              exact h1
             obtain⟨oJ,wX,EO,wL,mD,wM,uZ⟩:=jT BD.out.2.2.2.1 (TE _ _ _ ei) (TE _ _ _ ek) (IK _ _ _ _ aa JH) (IK _ _ _ _ ab JK) (IK _ _ _ _ ac JL) (IK _ _ _ _ ad JM);clear TE IK ei ek aa JH ab JK ac JL ad JM;have ixi:=CU n cap i (i:Int) (rfl:(some ⟨go,0,none⟩:Option Addr)=_) bG rfl;have GU:=CU n cap k (k:Int) (rfl:(some ⟨go,0,none⟩:Option Addr)=_) hlt rfl;rw[Nat.zero_add,Nat.mul_one]at ixi GU;have LC:=vX n ci j (j:Int) (rfl:(some ⟨gi,0,none⟩:Option Addr)=_) iN rfl;have iik:=vX n ci k (k:Int) (rfl:(some ⟨gi,0,none⟩:Option Addr)=_) hlt rfl;have ikj:=vX n ck j (j:Int) (rfl:(some ⟨gk,0,none⟩:Option Addr)=_) iN rfl;have ikk:=vX n ck k (k:Int) (rfl:(some ⟨gk,0,none⟩:Option Addr)=_) hlt rfl;rw[Nat.zero_add]at LC iik ikj ikk;go_upto_region 18 with fail
             go_cut[10] (λIy wx=>∃b:Nat,Iy=.pointer (some ⟨b,0,none⟩)/\ar wx b 32 [ag (au N),ah (nt N.natAbs)]/\Bw wr wx);case first=>
              clear UN HQ UW UQ sL Hg Uu UF Vi MX Jo BD;obtain⟨w0,hw0⟩:∃w0,w0=w:=⟨_,rfl⟩;subst hw0;obtain⟨w,RB⟩:∃w,w=wr:=⟨_,rfl⟩;subst RB;have Hb:Hid (Bw w w):=Below.refl _ _;have eP:=oJ.out.c1;have tY:=wX.out.w1;have yx:=EO.out.w1;obtain⟨JI,JJ⟩:=wL.out.w2;obtain⟨wY,xd⟩:=mD.out.w2;obtain⟨ac0,ac1⟩:=wM.out.w2;obtain⟨ad0,ad1⟩:=uZ.out.w2;obtain⟨cs,hcs⟩:∃cs:List (Addr×Value),[(⟨wk.heap.size,0,none⟩,af (k:Int)),(⟨go,i,none⟩,.slice (some ⟨gi,0,none⟩) n ci),(⟨go,k,none⟩,.slice (some ⟨gk,0,none⟩) n ck),(⟨gi,j*2,none⟩,ag (au x1)),(⟨gi,j*2+1,none⟩,ah (nt x1.natAbs)),(⟨gk,k*2,none⟩,ag (au x2)),(⟨gk,k*2+1,none⟩,ah (nt x2.natAbs)),(⟨gi,k*2,none⟩,ag (au x3)),(⟨gi,k*2+1,none⟩,ah (nt x3.natAbs)),(⟨gk,j*2,none⟩,ag (au x4)),(⟨gk,j*2+1,none⟩,ah (nt x4.natAbs))]=cs:=⟨_,rfl⟩;have iT:∀w',jZ cs w'->aC w' (wk.heap.size) 0 (af (k:Int))/\aC w' go i (.slice (some ⟨gi,0,none⟩) n ci)/\aC w' go k (.slice (some ⟨gk,0,none⟩) n ck)/\aC w' gi (j*2) (ag (au x1))/\aC w' gi (j*2+1) (ah (nt x1.natAbs))/\aC w' gk (k*2) (ag (au x2))/\aC w' gk (k*2+1) (ah (nt x2.natAbs))/\aC w' gi (k*2) (ag (au x3))/\aC w' gi (k*2+1) (ah (nt x3.natAbs))/\aC w' gk (j*2) (ag (au x4))/\aC w' gk (j*2+1) (ah (nt x4.natAbs)):=by subst hcs;intro w' h;exact⟨h.hd,h.tl.hd,h.tl.tl.hd,h.tl.tl.tl.hd,h.tl.tl.tl.tl.hd,h.tl.tl.tl.tl.tl.hd,h.tl.tl.tl.tl.tl.tl.hd,h.tl.tl.tl.tl.tl.tl.tl.hd,h.tl.tl.tl.tl.tl.tl.tl.tl.hd,h.tl.tl.tl.tl.tl.tl.tl.tl.tl.hd,h.tl.tl.tl.tl.tl.tl.tl.tl.tl.tl.hd⟩
              have bz:Hid (jZ cs w):=by subst hcs;show jZ _ _;intro p hp;simp only[List.mem_cons,List.not_mem_nil,or_false]at hp;rcases hp with rfl|rfl|rfl|rfl|rfl|rfl|rfl|rfl|rfl|rfl|rfl<;>assumption
              refine ar3 (λw'=>jZ cs w') (λi=>Nat.blt i 34) [14,15,30,31,32,33] (λk=>if k=15 then[14]else if k=31 then[15,30]else if k=32 then[15,31]else[]) [(34,false)] [0,1,2,3,4,5,6,7,8,9,10,11,12,13,16,17,18,19,20,21,22,23,24,25,26,27,28,29] zk zk rfl zk zc bz.out.drew ?_;iterate 28 (refine aoZ rfl rfl (v:=?_) (λw' hw'=>?_) ?_;rotate_left;(focus have hw':=iT w' hw';obtain⟨q0,q1,q2,q3,q4,q5,q6,q7,q8,q9,q10⟩:=hw';go_simp;try with_reducible rfl))
              clear eP tY yx JI JJ wY xd ac0 ac1 ad0 ad1 oJ wX EO wL mD wM uZ iT hcs;refine aoY (λa0=>JF a0 w cs x1 x2 x3 x4 P1 P2 N) (JF.init _ _ _ _ _ _ _ _ _ _ _ bz.out.drew (Below.refl _ _).drew) ?_ ?_ ?_
              . rintro dn a' w' ⟨_,_,_,_,_,_,_,h,_⟩;exact h
              . intro k0 fY dn a' w' _ hD hI;obtain⟨v1,v2,v3,v4,v5,v6,rfl,vI,vG,f1,f2,f3,f4,f5,f6⟩:=hI;simp only[List.mem_cons,List.not_mem_nil,or_false]at fY;rcases fY with rfl|rfl|rfl|rfl|rfl|rfl
                . have Cw:=vI.alloc (.cells #[ag (au x1),ah (nt x1.natAbs),ag (au x2),ah (nt x2.natAbs)] 32);have hal:=(Below.refl w'.heap.size w').alloc (Nat.le_refl _) (.cells #[ag (au x1),ah (nt x1.natAbs),ag (au x2),ah (nt x2.natAbs)] 32);refine Dh rfl rfl (λK hK=>?_);clear f1;simp only[Act.put,U1,U2,U3];go_simp;refine hK _ _ ⟨.slice (some ⟨w'.heap.size,0,none⟩) 2 2,v2,v3,v4,v5,v6,by simp only[Act.put,U1,U2,U3],Cw,aJ vG hal,λ_=>⟨_,rfl,ar.new _ _ _⟩,λh=>f2 (by simpa using h),λh=>?_,λh=>f4 (by simpa using h),λh=>f5 (by simpa using h),λh=>?_⟩
                  . obtain⟨b,e,q⟩:=f3 (by simpa using h);exact⟨b,e,q.below hal⟩
                  . obtain⟨b,e,hb,q⟩:=f6 (by simpa using h);exact⟨b,e,hb,q.below hal⟩
                . obtain⟨b,rfl,q⟩:=f1 (hD 14 zm);refine Dh rfl rfl (λK hK=>?_);clear f1;simp only[Act.put,U1,U2,U3];go_simp;with_reducible refine(adz x1 x2 P1 Uf.out b 2 _ _ kX.out TX.out q).mono ?_
                  rintro e w2 ⟨rfl,hq⟩;refine hK _ _ ⟨_,cX P1,v3,v4,v5,v6,by simp only[Act.put,U1,U2,U3],vI.below hq,aJ vG hq,λ_=>⟨b,rfl,q.below hq⟩,λ_=>rfl,λh=>?_,λh=>f4 (by simpa using h),λh=>f5 (by simpa using h),λh=>?_⟩
                  . obtain⟨b,e,q⟩:=f3 (by simpa using h);exact⟨b,e,q.below hq⟩
                  . obtain⟨b,e,hb,q⟩:=f6 (by simpa using h);exact⟨b,e,hb,q.below hq⟩
                . have Cw:=vI.alloc (.cells #[ag (au x3),ah (nt x3.natAbs),ag (au x4),ah (nt x4.natAbs)] 32);have hal:=(Below.refl w'.heap.size w').alloc (Nat.le_refl _) (.cells #[ag (au x3),ah (nt x3.natAbs),ag (au x4),ah (nt x4.natAbs)] 32);refine Dh rfl rfl (λK hK=>?_);clear f3;simp only[Act.put,U1,U2,U3];go_simp;refine hK _ _ ⟨v1,v2,.slice (some ⟨w'.heap.size,0,none⟩) 2 2,v4,v5,v6,by simp only[Act.put,U1,U2,U3],Cw,aJ vG hal,λh=>?_,λh=>f2 (by simpa using h),λ_=>⟨_,rfl,ar.new _ _ _⟩,λh=>f4 (by simpa using h),λh=>f5 (by simpa using h),λh=>?_⟩
                  . obtain⟨b,e,q⟩:=f1 (by simpa using h);exact⟨b,e,q.below hal⟩
                  . obtain⟨b,e,hb,q⟩:=f6 (by simpa using h);exact⟨b,e,hb,q.below hal⟩
                . obtain⟨b,rfl,q⟩:=f3 (hD 30 zm);obtain rfl:=f2 (hD 15 zm);refine Dh rfl rfl (λK hK=>?_);clear f3;simp only[Act.put,U1,U2,U3];go_simp;with_reducible refine(adz x3 x4 P2 Bu.out b 2 _ _ DX.out TY.out q).mono ?_
                  rintro e w2 ⟨rfl,hq⟩;refine hK _ _ ⟨v1,cX P1,.slice (some ⟨b,0,none⟩) 2 2,cX P2,v5,v6,by simp only[Act.put,U1,U2,U3],vI.below hq,aJ vG hq,λh=>?_,λ_=>rfl,λ_=>⟨b,rfl,q.below hq⟩,λ_=>rfl,λh=>f5 (by simpa using h),λh=>?_⟩
                  . obtain⟨b,e,q⟩:=f1 (by simpa using h);exact⟨b,e,q.below hq⟩
                  . obtain⟨b,e,hb,q⟩:=f6 (by simpa using h);exact⟨b,e,hb,q.below hq⟩
                . obtain rfl:=f2 (hD 15 zm);obtain rfl:=f4 (hD 31 zm);refine Dh rfl rfl (λK hK=>?_);clear f2 f4;simp only[Act.put,U1,U2,U3];go_simp;with_reducible refine(arP P1 P2 N HN.out _ TZ.out Ua.out).mono ?_
                  rintro e w2 ⟨rfl,hq⟩;refine hK _ _ ⟨v1,_,v3,_,cX N,v6,by simp only[Act.put,U1,U2,U3],vI.below hq,aJ vG hq,λh=>?_,λ_=>rfl,λh=>?_,λ_=>rfl,λ_=>rfl,λh=>?_⟩
                  . obtain⟨b,e,q⟩:=f1 (by simpa using h);exact⟨b,e,q.below hq⟩
                  . obtain⟨b,e,q⟩:=f3 (by simpa using h);exact⟨b,e,q.below hq⟩
                  . obtain⟨b,e,hb,q⟩:=f6 (by simpa using h);exact⟨b,e,hb,q.below hq⟩
                . have Cw:=vI.alloc (.cells #[ag false,.string ⟨#[]⟩] 32);have hal:=(Below.refl w'.heap.size w').alloc (Nat.le_refl _) (.cells #[ag false,.string ⟨#[]⟩] 32);refine Dh rfl rfl (λK hK=>?_);clear f6;simp only[Act.put,U1,U2,U3];go_simp;refine hK _ _ ⟨v1,v2,v3,v4,v5,.pointer (some ⟨w'.heap.size,0,none⟩),by simp only[Act.put,U1,U2,U3],Cw,aJ vG hal,λh=>?_,λh=>f2 (by simpa using h),λh=>?_,λh=>f4 (by simpa using h),λh=>f5 (by simpa using h),λ_=>⟨_,rfl,vG.size,ar.new _ _ _⟩⟩
                  . obtain⟨b,e,q⟩:=f1 (by simpa using h);exact⟨b,e,q.below hal⟩
                  . obtain⟨b,e,q⟩:=f3 (by simpa using h);exact⟨b,e,q.below hal⟩
              . intro dn a' w' hall hI;obtain⟨v1,v2,v3,v4,v5,v6,rfl,vI,vG,f1,f2,f3,f4,f5,f6⟩:=hI;obtain rfl:=f5 (hall 32 zm);obtain⟨b,rfl,hb,q⟩:=f6 (hall 33 zm);obtain⟨uM,ata,uN,atb⟩:=q.g2;have hQ9:=(q.set 0 (ag (au N))).set 1 (ah (nt N.natAbs));have hB9:=(vG.sc b 0 hb (ag (au N))).sc b 1 hb (ah (nt N.natAbs));clear f1 f2 f3 f4 f5 f6;refine aI rfl rfl (λK hK=>?_);simp only[Act.put,U1,U2,U3];go_simp;refine hK _ _ (λh=>absurd h zd) ?_;clear hK K;simp only[bi];go_wp2_with fail;go_meet;exact⟨b,rfl,hQ9,hB9⟩
             case rest=>
              obtain⟨bx,rfl,qx,qb⟩:=hcut;obtain⟨Eg,Ey⟩:=aO (BD.out.below qb) qx;clear qx qb BD oJ wX EO wL mD wM uZ GU iik ikj ikk LC kX TX DX TY TZ Ua Uf Bu HN li lk ti tk;obtain⟨g9,c9,lt9,lu9,e9,r9,f9⟩:=Eg.out.axr i bG;have ne9:=Eg.out.1.row_ne i bG e9;have nx9:bx≠g9:=by rintro rfl;have h1:=(r9 1 zo).1;rw[Ey.out.cell]at h1;simp at h1
              obtain⟨SL,SN⟩:=r9 j iN;obtain⟨y,hy⟩:=aG (lD g k last i j i j);rw[hy]at SL SN;have wX:Hid (bH wc go i [.slice (some ⟨g9,0,none⟩) n c9]):=λj hj=>by
               obtain rfl:j=0:=by simp at hj;omega
               exact e9
              have wL:Hid (bH wc g9 (j*2) [ag (au y),ah (nt y.natAbs)]):=λj' hj=>by
               rcases j' with _|_|j'
               . exact SL
               . exact SN
               . simp at hj;omega
              have Hl:=ai Eg.out.2.2.1;have LC:=vX n c9 j (j:Int) (rfl:(some ⟨g9,0,none⟩:Option Addr)=_) iN rfl;rw[Nat.zero_add]at LC;obtain⟨Dv,PG⟩:=aG (N/last);have YY:Calls Tryz.prog 183 #[.agg #[ag (au N),ah (nt N.natAbs)],.agg #[ag (au last),ah (nt last.natAbs)]] wc.drew λe w'=>∃r,e=.returned (.tuple #[cX Dv,r,ag true])/\(w'.frozen? ⟨g9,j*2,none⟩=false/\w'.frozen? ⟨g9,j*2+1,none⟩=false)/\Below wc.drew.heap.size wc.drew w':=
               (arK N last wc.drew Ub.out Uc.out ry.out MX.out).mono (λe w' ⟨r,he,hb⟩=>⟨r,by rw[he,PG],⟨(f9 w' (aW hb)).1 _,(f9 w' (aW hb)).1 _⟩,hb⟩)
              obtain⟨Hf9,Hdc,MB⟩:=cL f9 YY PG;clear SL SN hy e9 r9 f9 YY PG Ub Uc MX;have Hb:Hid (Bw wc wc):=Below.refl _ _;go_wp2_with fail;have tY:=wX.out.w1;obtain⟨JI,JJ⟩:=wL.out.w2;obtain⟨uM,uN⟩:=Ey.out.c2;obtain⟨l0,l1⟩:=Hl.out.c2;refine bR (λw'=>aC w' go i (.slice (some ⟨g9,0,none⟩) n c9)/\aC w' bx 0 (ag (au N))/\aC w' bx 1 (ah (nt N.natAbs))/\aC w' (w1.heap.size) 0 (ag (au last))/\aC w' (w1.heap.size) 1 (ah (nt last.natAbs))) (λi=>Nat.blt i 100000) [(0,true),(1,true),(2,true),(3,true),(4,true),(5,true),(6,true),(7,false),(8,true),(9,true),(10,true),(11,true),(12,true),(13,false)] zk zk rfl zk zc ⟨tY,uM,uN,l0,l1⟩ ?_;iterate 7 (refine pT rfl rfl ?_ (by intro w' ⟨q0,q1,q2,q3,q4⟩;go_simp;try with_reducible rfl))
              refine aI rfl rfl (λK hK=>?_);go_simp;with_reducible refine(Hdc.out).mono ?_
              rintro e w5 ⟨rr,rfl,⟨z0,z1⟩,hq⟩;have ae:Bw wc w5:=by first|exact hq|exact aW hq
              clear tY JI JJ uM uN l0 l1;replace wX:=kW wX ae;replace wL:=kW wL ae;replace Ey:=kB Ey ae;replace Hl:=kB Hl ae;have tY:=wX.out.w1;obtain⟨JI,JJ⟩:=wL.out.w2;obtain⟨uM,uN⟩:=Ey.out.c2;obtain⟨l0,l1⟩:=Hl.out.c2;replace Hb:=aB Hb ae;clear ae;refine hK _ _ (λ_=>⟨tY,uM,uN,l0,l1⟩) ?_;clear hK K
              iterate 5 (refine pT rfl rfl ?_)
              refine aI rfl rfl (λK hK=>?_);go_simp;refine hK _ _ (by first|exact λh=>absurd h zd|exact λ_=>⟨tY,uM,uN,l0,l1⟩ |exact λ_=>⟨(by first|exact tY|exact aK zf tY|exact aK zf (aK zf tY) |exact aK zf (aK zf (aK zf tY))),(by first|exact uM|exact aK zf uM|exact aK zf (aK zf uM) |exact aK zf (aK zf (aK zf uM))),(by first|exact uN|exact aK zf uN|exact aK zf (aK zf uN) |exact aK zf (aK zf (aK zf uN))),(by first|exact l0|exact aK zf l0|exact aK zf (aK zf l0) |exact aK zf (aK zf (aK zf l0))),(by first|exact l1|exact aK zf l1|exact aK zf (aK zf l1) |exact aK zf (aK zf (aK zf l1)))⟩) ?_;clear hK K
              simp only[bi];go_wp2;go_roundw;case rel=>have h9:=(Hf9.out w5 Hb.out).2 j iN Dv;rw[<-MB.out]at h9;exact⟨j+1,by omega,by omega,by go_num,by rw[MB.out]at h9;exact h9.congr (λa b _ _=>by rw[<-MB.out];exact Vi.out a b)⟩
              case measure=>simp[intOf];omega
           . obtain rfl:j=n:=by omega
             have HT:=ai hT;clear hT;go_wp2;go_roundw;case rel=>exact⟨i+1,by omega,by omega,by go_num,HT.out.congr (λa b _ hb=>aoR g k last i j a b hb)⟩
             case measure=>simp[intOf];omega
        . obtain rfl:i=n:=by omega
          have hT:=ue.out.congr (λa b ha _=>aoO g k last i a b ha);obtain⟨gk,ck,lk,tk,ek,rk,_⟩:=hT.row k hlt;have e1:eu g k last k k=g k k:=by unfold eu;rw[if_neg zo]
          obtain⟨Kh,Ki⟩:=rk k hlt;rw[e1]at Kh Ki;obtain⟨x,hx⟩:=aG (g k k);have lw:=Jo.out;have hg2:=UQ.out;have Hn:Hid (∃Q,Q+1<=2^(k+1) * (K+1)/\x.natAbs<2^Q/\∀a b,a<i->b<i->(eu g k last a b).natAbs<2^Q):=⟨2*Q+1,by have:=HQ.out;omega,by rw[<-hx];exact hg2,sL.out⟩;have Na:=UF.out;have MK:=Uu.out;rw[hx]at Kh Ki lw Na MK;obtain⟨HE2,HBA⟩:=aO Na MK;have hLK:w1.heap.size<wk.heap.size:=by have:=anm;omega
          obtain⟨nE,Hl⟩:=aO (hT.setLast x zo zo) hT.2.2.1;have Zv:=CU i cap k (k:Int) (rfl:(some ⟨go,0,none⟩:Option Addr)=_) hlt rfl;have alH:=vX i ck k (k:Int) (rfl:(some ⟨gk,0,none⟩:Option Addr)=_) hlt rfl;rw[Nat.zero_add]at Zv alH;rw[Nat.mul_one]at Zv;have oJ:=ai hT.2.2.2.1;have EO:Hid (bH wr go k [.slice (some ⟨gk,0,none⟩) i ck]):=λj hj=>by
           obtain rfl:j=0:=by simp at hj;omega
           exact ek
          have mD:Hid (bH wr gk (k*2) [ag (au x),ah (nt x.natAbs)]):=λj hj=>by
           rcases j with _|_|j
           . exact Kh
           . exact Ki
           . simp at hj;omega
          have Hhx:=ai hx;clear hT rk ek Kh Ki e1 hg2 Na MK eP hx ue;go_wp2_with fail;have eP:=oJ.out.c1;have yx:=EO.out.w1;obtain⟨wY,xd⟩:=mD.out.w2;obtain⟨l0,iX,l1,iY⟩:=Hl.out.g2;refine bR (λw'=>aC w' (wk.heap.size) 0 (af (k:Int))/\aC w' go k (.slice (some ⟨gk,0,none⟩) i ck)/\aC w' gk (k*2) (ag (au x))/\aC w' gk (k*2+1) (ah (nt x.natAbs))) (λi=>Nat.blt i 7) [(0,true),(1,true),(2,true),(3,true),(4,true),(5,true),(6,true),(7,false)] zk zk rfl zk zc ⟨eP,yx,wY,xd⟩ ?_;iterate 7 (refine pT rfl rfl ?_ (by intro w' ⟨q0,q1,q2,q3⟩;go_simp;try with_reducible rfl))
          refine aI rfl rfl (λK hK=>?_);go_simp;refine hK _ _ (by first|exact λh=>absurd h zd|exact λ_=>⟨eP,yx,wY,xd⟩ |exact λ_=>⟨(by first|exact eP|exact aK zf eP|exact aK zf (aK zf eP) |exact aK zf (aK zf (aK zf eP))),(by first|exact yx|exact aK zf yx|exact aK zf (aK zf yx) |exact aK zf (aK zf (aK zf yx))),(by first|exact wY|exact aK zf wY|exact aK zf (aK zf wY) |exact aK zf (aK zf (aK zf wY))),(by first|exact xd|exact aK zf xd|exact aK zf (aK zf xd) |exact aK zf (aK zf (aK zf xd)))⟩) ?_;clear hK K
          simp only[bi];go_wp2;go_roundw;case rel=>exact⟨k+1,eu g k last,x,_,by omega,by go_num,rfl,Bs.next nE.out.drew (λ_ _ _ _=>rfl) lw HE2.out HBA.out Hn.out⟩
          case measure=>simp[intOf];omega
  . obtain rfl:k=n:=by omega
    obtain⟨q1,q2,q3,_,q5,_,Q,hQ,Gk,_⟩:=hS;have gz:=jN.out k Q (Nat.le_refl _) hQ;have hll:(nt last.natAbs).length<=1099511627776:=jS Gk zo;rw[Nat.sub_self]at q5;unfold fu at q5;obtain⟨Hr,Hl,Hq,HZ,Hll⟩:=gJ q2 q3 q1 q5 hll;clear q1 q2 q3 q5 hQ Gk hll gz;have Hb:Hid (Bw wk wk):=Below.refl _ _;obtain⟨r0,aj,r1,ak⟩:=Hr.out.g2;obtain⟨l0,iX,l1,iY⟩:=Hl.out.g2;have CF:=Hq.out.2.2.1;cases t with
    | false=>
      have Hz:Hid (last=Z):=by have hz:=HZ.out;simp only[Bool.false_eq_true,if_false]at hz;exact hz
      go_wp2;refine bodyPost_ret (v:=.agg #[ag (au last),ah (nt last.natAbs)]) (by simp[results,Tryz.results143,go_sem,r0,r1]) rfl ⟨by rw[Hz.out],?_⟩;exact(CF.setCell zp _).setCell zp _
    | true=>
      have Hz:Hid (-last=Z):=by have hz:=HZ.out;simp only[if_true]at hz;exact hz
      have hneg:∀W,Calls Tryz.prog 78 #[.agg #[ag (au last),ah (nt last.natAbs)]] W λe w'=>e=.returned (cX (-last))/\Bw W w':=λW=>by have:=adB (au last) (nt last.natAbs) W Hll.out;rw[eX]at this;exact this
      go_wp2_with fail;refine(hneg _).mono ?_;rintro e w4 ⟨rfl,ae⟩;clear r0 aj r1 ak l0 iX l1 iY;obtain⟨Hr,r0,aj,r1,ak⟩:=bE Hr ae;obtain⟨Hl,l0,iX,l1,iY⟩:=bE Hl ae;replace Hb:=aB Hb ae;clear ae hneg;go_wp2;refine bodyPost_ret (v:=.agg #[ag (au (-last)),ah (nt (-last).natAbs)]) (by simp[results,Tryz.results143,go_sem,r0,r1]) rfl ⟨by rw[Hz.out],?_⟩;exact((CF.trans (Hb.out.mono (by have:=Hq.out.2.2.2;omega))).setCell zp _).setCell zp _
theorem ah3 (n l k:Nat)(f:Nat->Nat->Int)(last:Int)(t:Bool)(Q:Nat)(hk:k+l=n)(hl:last.natAbs<2^Q)(hf:∀a b,a<n->b<n->(f a b).natAbs<2^Q)(hex:ie n l k f last):(fu n l k f last t).natAbs<2^(2^l* (Q+1)):=by
 induction l generalizing k f last t Q with
 | zero=>
   unfold fu;have h1:2^Q<=2^(2^0* (Q+1)):=Nat.pow_le_pow_right zd zm;split
   . rw[Int.natAbs_neg];omega
   . omega
 | succ l ih=>
   unfold fu;unfold ie at hex;cases hp:qW f n k with
   |none=>exact Nat.pow_pos zd
   | some m=>
     rw[hp]at hex;simp only at hex⊢;have Gz:=mA hp;obtain⟨g,hg⟩:∃g,g=cE f k (k+m):=⟨_,rfl⟩;rw[<-hg]at hex⊢;have hkn:k<n:=by omega
     have jp:∀a b,a<n->b<n->(g a b).natAbs<2^Q:=by
      intro a b ha hb;rw[hg];unfold cE;refine hf _ _ ?_ hb;split
      . omega
      . split
        . omega
        . exact ha
     have FB:2^Q<=2^(2*Q+1):=Nat.pow_le_pow_right zd zo;have e:2^(l+1) * (Q+1)=2^l* (2*Q+1+1):=by rw[Nat.pow_succ,Nat.mul_assoc];congr 1
     rw[e];refine ih (k+1) _ _ _ (2*Q+1) zo (Nat.lt_of_lt_of_le (jp k k hkn hkn) FB) (λa b ha hb=>?_) hex.2;unfold eu;split
     . rename_i h4
       have h5:=(Sv g k a b Q (jp a b ha hb) (jp k k hkn hkn) (jp a k ha hkn) (jp k b hkn hb)).2.2;rcases div_lt _ last _ h5 with h6|h6
       . exact h6
       . exact absurd (hex.1 a b h4.1 ha h4.2 hb) h6
     . exact Nat.lt_of_lt_of_le (jp a b ha hb) FB
def bU (D:List (List Dyadic))(i j:Nat):Dyadic:=(D.getD i []).getD j 0
theorem arb (D:List (List Dyadic))(n:Nat)(g:Dyadic->Int)(hl:D.length=n)(hr:∀r∈D,r.length=n):(D.map λr=>r.map g)=fh (λi j=>g (bU D i j)) n:=by
 apply List.ext_getElem
 . simp[fh,hl]
 . intro i h1 h2;have hi:i<D.length:=by simpa using h1
   have hri:=hr _ (List.getElem_mem hi);apply List.ext_getElem
   . simp[fh,hri]
   . intro j h3 h4;have hj:j<D[i].length:=by simpa using h3
     simp[fh,bU,List.getD_eq_getElem?_getD,hi,hj]
theorem Xa {D:List (List Dyadic)}{n i j:Nat}(hl:D.length=n)(hr:∀r∈D,r.length=n)(hi:i<n)(hj:j<n):∃r∈D,bU D i j∈r:=by
 have h1:i<D.length:=by omega
 have h2:j<D[i].length:=by rw[hr _ (List.getElem_mem h1)];exact hj
 refine⟨D[i],List.getElem_mem h1,?_⟩;have:bU D i j=D[i][j]:=by simp[bU,List.getD_eq_getElem?_getD,h1,h2]
 rw[this];exact List.getElem_mem h2
theorem OW (a:Option Addr)(cap n:Nat)(rows:List (List Raw))(B:Nat)(D:List (List Dyadic))(X:Dyadic)(w:World)(hn:1<=n)(bO:n<=4)(hL:rows.length=n)(hrow:∀r∈rows,r.length=n)(ha:cC w a rows)
 (hfit:∀r∈rows,∀c∈r,Fit B c) (cm:1<=B) (hB:B<=1000000) (hT:aH w) (hD:(rows.map λr=>r.map az)=D) (hX:cH n (bU D)=X):
 Calls Tryz.prog 94 #[.slice a n cap] w λe w'=>e=.returned (.tuple #[bL X,af 0])/\Bw w w':=by
 obtain⟨low,kK⟩:=aG (mW 0 D);have hDl:D.length=n:=by rw[<-hD];simp[hL]
 have Kw:∀r∈D,r.length=n:=by intro r hr;rw[<-hD]at hr;obtain⟨x,hx,rfl⟩:=List.mem_map.1 hr;simpa using hrow x hx
 have eV:∀r∈D,∀d∈r,Sm B d:=by intro r hr d hd;rw[<-hD]at hr;obtain⟨x,hx,rfl⟩:=List.mem_map.1 hr;obtain⟨y,hy,rfl⟩:=List.mem_map.1 hd;exact(hfit x hx y hy).2
 have hlo:=RV 0 D;rw[kK]at hlo;have hlb: -(B:Int)<=low:=by rw[<-kK];exact RU 0 D _ zo (λr hr d hd=>(eV r hr d hd).parts.2.1)
 obtain⟨f,hf⟩:∃f:Nat->Nat->Int,f=λi j=>sf low (bU D i j):=⟨_,rfl⟩;have xP:(D.map λr=>r.map (sf low))=fh f n:=by rw[hf];exact arb D n (sf low) hDl Kw
 have hK:∀a b,a<n->b<n->(f a b).natAbs<2^(4*B):=by
  intro i j hi hj;obtain⟨r,hr,hm⟩:=Xa hDl Kw hi hj;obtain⟨s1,s2,s3⟩:=(eV r hr _ hm).parts;rw[hf];show(sf low (bU D i j)).natAbs<_
  unfold sf;rw[Int.natAbs_mul,Int.natAbs_pow,show 4*B=2*B+2*B by omega,Nat.pow_add];exact Nat.lt_of_lt_of_le (Nat.mul_lt_mul_of_pos_right s1 (Nat.pow_pos zd)) (Nat.mul_le_mul_left _ (Nat.pow_le_pow_right zd zo))
 have hent:∀i j,i<n->j<n->bU D i j=Dyadic.ofIntWithPrec (f i j) (-low):=by intro i j hi hj;obtain⟨r,hr,hm⟩:=Xa hDl Kw hi hj;rw[hf];exact(aqg low _ (hlo.2 r hr _ hm)).symm
 have kq:=ajG n hn bO f (bU D) (-low) hent;have hex:=Xc n hn bO f;have hzl:=ah3 n n 0 f 1 false (4*B) zo (Nat.one_lt_two_pow zo) hK hex;obtain⟨z,hz⟩:=aG (fu n n 0 f 1 false);rw[hz]at hzl kq;have aaQ:(nt z.natAbs).length<=34359738368:=by refine jS hzl ?_;have:2^n<=2^4:=Nat.pow_le_pow_right zd bO;have:=Nat.mul_le_mul_right (4*B+1) this;omega
 obtain⟨e,he⟩:∃e:Int,low*n=e:=⟨_,rfl⟩;have heb: -4000000<=e/\e<=4000000:=by
  have hl0:=hlo.1;have hc:n=1\/n=2\/n=3\/n=4:=by omega
  rcases hc with rfl|rfl|rfl|rfl<;>omega
 have nP:az (au z,nt z.natAbs,e)=X:=by
  rw[<-hX,kq];show Dyadic.ofIntWithPrec (iv (au z) (nt z.natAbs)) (-e)=_
  rw[eX,<-he];congr 1;rw[Int.mul_comm,Int.mul_neg]
 obtain⟨nl,hnl⟩:=aG (-low);have hw1:IntKind.i64.wrap (-nl)=low:=by rw[IntKind.wrap_i64];have:=hlo.1;omega
 have hw2:IntKind.i64.wrap (low* (n:Int))=e:=by rw[he,IntKind.wrap_i64];omega
 have hm0:vZ rows=0:=by
  unfold vZ;rw[if_neg];rintro(h|h)
  . omega
  . rw[List.any_eq_true]at h;obtain⟨r,hr,h⟩:=h;have:=hrow r hr;simp at h;omega
 have hch:=λW=>λ(h:cC W a rows)=>Sc a n cap rows W hL zo h;rw[hm0]at hch;have hsc:=λW=>λ(h:cC W a rows) (hT:aH W)=>acF a n cap n rows B low W hL zo zo hrow h hfit zo hT (by rw[hD];exact kK);rw[hD,xP,hnl]at hsc;have hbr:=λv W base=>λ(h:jO W base n (fh f n) n v) (h2:base<=W.heap.size)=>ah6 base n (4*B) f v W hn bO h h2 zo hK zo;rw[hz]at hbr;have hmk:=λW=>λ(hT:aH W)=>yf (au z) (nt z.natAbs) e X nP W aaQ zo hT;obtain⟨MP,jz,yG,lJ,Ha,HT⟩:=gW hch hsc hbr hmk ha hT;clear hch hsc hbr hmk ha hT hm0 nP heb he aaQ hz hzl hex kq hent hK xP hf hlb hlo eV Kw hDl kK hD hX hfit hrow hL hnl;have Hb:Hid (Bw w w):=Below.refl _ _;go_enter Tryz.func94,Tryz.ntmps94;go_wp2_with fail;obtain⟨R,hR⟩:∃R:World->Prop,(λW=>ar W (w.heap.size) 39 [ag false,.string ⟨#[]⟩,af 0]/\Bw w W)=R:=⟨_,rfl⟩;first|refine cf R ?hR ?_|refine bZ R ?hR ?_
 case hR=>subst hR;exact⟨(ar.newAt w _ _ (b:=w.heap.size) rfl),zl⟩
 subst hR;rintro W ⟨qr,ae⟩;have Hr:=ai qr;clear qr;obtain⟨r0,aj,r1,ak,r2,aF⟩:=Hr.out.g3;replace Hb:=aB Hb ae;clear ae;have HA:Hid (cC W a rows):=Ha.out.below Hb.out;have HU:Hid (aH W):=HT.out.below Hb.out;go_wp2_with fail;refine(MP.out _ HA.out).mono ?_;rintro e w1 ⟨rfl,ae⟩;clear r0 aj r1 ak r2 aF;obtain⟨Hr,r0,aj,r1,ak,r2,aF⟩:=aN Hr ae;replace HA:=kL HA ae;replace HU:=kT HU ae;replace Hb:=aB Hb ae;clear ae;go_wp2_with fail;refine(jz.out _ HA.out HU.out).mono ?_;rintro e' w2 ⟨v,rfl,hO,hb2⟩;have HO:=ai hO;have tW:=hb2.size;clear hO;go_wp2_with fail;refine(yG.out v w2 w1.heap.size HO.out tW).mono ?_;rintro e' w3 ⟨rfl,hb3⟩;have hb4:=hb2.trans hb3;clear hb2 hb3 HO r0 aj r1 ak r2 aF;replace Hr:=kB Hr hb4;replace HA:=kL HA hb4;replace HU:=kT HU hb4;obtain⟨r0,aj,r1,ak,r2,aF⟩:=Hr.out.g3;replace Hb:=ai (aJ Hb.out hb4);clear hb4;go_wp2_with fail;refine(lJ.out _ HU.out).mono ?_;rintro e w4 ⟨rfl,ae⟩;clear r0 aj r1 ak r2 aF;obtain⟨Hr,r0,aj,r1,ak,r2,aF⟩:=aN Hr ae;replace HA:=kL HA ae;replace HU:=kT HU ae;replace Hb:=aB Hb ae;clear ae;go_wp2;clear r0 aj r1 ak r2 aF;refine dW (bC w4 (w.heap.size) 0 [ag (au (dN X)),ah (nt (dN X).natAbs),af (dE X)]) bJ ?_;intro w9 hs;replace Hr:=bP Hr hs;obtain⟨r0,aj,r1,ak,r2,aF⟩:=Hr.out.g3;replace Hb:=bS Hb hs ZS;clear hs;refine bodyPost_ret (v:=.tuple #[bL X,af 0]) (by simp[results,Tryz.results94,go_sem,r0,r1,r2]) rfl ⟨rfl,Hb.out⟩
def bT (rows:List (List Raw)):Nat->Nat->Dyadic:=λa b=>bU (rows.map λr=>r.map az) a b
theorem ajJ (o p:List Raw)(k:Nat)(h:k<p.length)(h':k<o.length):(iW o p).getD k 0=az p[k]-az o[k]:=by unfold iW;rw[List.getD_eq_getElem?_getD,List.getElem?_zipWith];simp[h,h']
theorem se (rows:List (List Raw))(a b:Nat)(ha:a<rows.length)(hb:b<rows[a].length):bT rows a b=az rows[a][b]:=by simp[bT,bU,List.getD_eq_getElem?_getD,ha,hb]
theorem Tf (n:Nat)(rows:List (List Raw))(hL:rows.length=n+1)(hrow:∀r∈rows,r.length=n)(i j:Nat)(hi:i<n)(hj:j<n):
 bU ((rows.drop 1).map λp=>iW (rows.getD 0 []) p) i j=bT rows (i+1) j-bT rows 0 j:=by
 have h0:0<rows.length:=by omega
 have h1:i+1<rows.length:=by omega
 have l0:=hrow _ (List.getElem_mem h0);have l1:=hrow _ (List.getElem_mem h1);rw[se rows (i+1) j h1 zo,se rows 0 j h0 zo];have e0:rows.getD 0 []=rows[0]:=by simp[h0]
 have e1:((rows.drop 1).map λp=>iW (rows.getD 0 []) p).getD i []=iW rows[0] rows[i+1]:=by rw[e0,List.getD_eq_getElem?_getD,List.getElem?_map,List.getElem?_drop];rw[show 1+i=i+1 by omega,List.getElem?_eq_getElem h1];rfl
 unfold bU;rw[e1,ajJ _ _ _ zo zo]
theorem Cr (n:Nat)(bO:n<=4){e f:Nat->Nat->Dyadic}(h:∀i j,i<n->j<n->e i j=f i j):cH n e=cH n f:=by
 have hc:n=0\/n=1\/n=2\/n=3\/n=4:=by omega
 rcases hc with rfl|rfl|rfl|rfl|rfl
 . rfl
 . exact h 0 0 zo zo
 . unfold cH;simp only;rw[h 0 0 zo zo,h 0 1 zo zo,h 1 0 zo zo,h 1 1 zo zo]
 . unfold cH;simp only;rw[h 0 0 zo zo,h 0 1 zo zo,h 0 2 zo zo,h 1 0 zo zo,h 1 1 zo zo,h 1 2 zo zo,h 2 0 zo zo,h 2 1 zo zo,h 2 2 zo zo]
 . unfold cH;simp only;rw[h 0 0 zo zo,h 0 1 zo zo,h 0 2 zo zo,h 0 3 zo zo,h 1 0 zo zo,h 1 1 zo zo,h 1 2 zo zo,h 1 3 zo zo,h 2 0 zo zo,h 2 1 zo zo,h 2 2 zo zo,h 2 3 zo zo,h 3 0 zo zo,h 3 1 zo zo,h 3 2 zo zo,h 3 3 zo zo]
theorem zF {B n:Nat}{e:Nat->Nat->Dyadic}(hn:1<=n)(bO:n<=4)(h:∀i j,i<n->j<n->Sm B (e i j)):Sm (4*B+6) (cH n e):=by
 have m2:∀a b c d:Dyadic,Sm B a->Sm B b->Sm B c->Sm B d->Sm (2*B+1) (a*b-c*d):=λa b c d ha hb hc hd=>(Sm.sub (Sm.mul ha hb) (Sm.mul hc hd)).mono zo;have m3:∀x y:Dyadic,Sm B x->Sm (2*B+1) y->Sm (3*B+1) (x*y):=λx y hx hy=>(Sm.mul hx hy).mono zo;have m4:∀x y z:Dyadic,Sm (3*B+1) x->Sm (3*B+1) y->Sm (3*B+1) z->Sm (3*B+3) (x-y+z):=λx y z hx hy hz=>(Sm.add (Sm.sub hx hy) (hz.mono zo)).mono zo;have m5:∀x y:Dyadic,Sm B x->Sm (3*B+3) y->Sm (4*B+3) (x*y):=λx y hx hy=>(Sm.mul hx hy).mono zo;have hc:n=1\/n=2\/n=3\/n=4:=by omega
 rcases hc with rfl|rfl|rfl|rfl
 . exact(h 0 0 zo zo).mono zo
 . exact(Sm.sub (Sm.mul (h 0 0 zo zo) (h 1 1 zo zo)) (Sm.mul (h 0 1 zo zo) (h 1 0 zo zo))).mono zo
 . unfold cH;refine(m4 _ _ _ (m3 _ _ ?_ (m2 _ _ _ _ ?_ ?_ ?_ ?_)) (m3 _ _ ?_ (m2 _ _ _ _ ?_ ?_ ?_ ?_)) (m3 _ _ ?_ (m2 _ _ _ _ ?_ ?_ ?_ ?_))).mono zo<;>exact h _ _ zo zo
 . unfold cH;have m6:∀x y z u:Dyadic,Sm (4*B+3) x->Sm (4*B+3) y->Sm (4*B+3) z->Sm (4*B+3) u->Sm (4*B+6) (x-y+z-u):=λx y z u hx hy hz hu=>(Sm.sub (Sm.add (Sm.sub hx hy) (hz.mono zo)) (hu.mono zo)).mono zo;refine m6 _ _ _ _ (m5 _ _ ?_ (m4 _ _ _ (m3 _ _ ?_ (m2 _ _ _ _ ?_ ?_ ?_ ?_)) (m3 _ _ ?_ (m2 _ _ _ _ ?_ ?_ ?_ ?_)) (m3 _ _ ?_ (m2 _ _ _ _ ?_ ?_ ?_ ?_)))) (m5 _ _ ?_ (m4 _ _ _ (m3 _ _ ?_ (m2 _ _ _ _ ?_ ?_ ?_ ?_)) (m3 _ _ ?_ (m2 _ _ _ _ ?_ ?_ ?_ ?_)) (m3 _ _ ?_ (m2 _ _ _ _ ?_ ?_ ?_ ?_)))) (m5 _ _ ?_ (m4 _ _ _ (m3 _ _ ?_ (m2 _ _ _ _ ?_ ?_ ?_ ?_)) (m3 _ _ ?_ (m2 _ _ _ _ ?_ ?_ ?_ ?_)) (m3 _ _ ?_ (m2 _ _ _ _ ?_ ?_ ?_ ?_)))) (m5 _ _ ?_ (m4 _ _ _ (m3 _ _ ?_ (m2 _ _ _ _ ?_ ?_ ?_ ?_)) (m3 _ _ ?_ (m2 _ _ _ _ ?_ ?_ ?_ ?_)) (m3 _ _ ?_ (m2 _ _ _ _ ?_ ?_ ?_ ?_))))<;>exact h _ _ zo zo
theorem Pe (X:Dyadic):bA X=0↔X=0:=by
 constructor
 . intro h;have h1:dN X=0:=by
    unfold bA eQ at h;by_cases h1:dN X<0
    . rw[if_pos h1]at h;cases h
    . rw[if_neg h1]at h;by_cases h2:dN X=0
      . exact h2
      . rw[if_neg h2]at h;cases h
   have h2:=uQ X;rw[h1,yq]at h2;exact h2
 . rintro rfl;rfl
noncomputable def kQ (rows:List (List Raw)):Int:=if jw rows=0 then 1 else if dw (jw rows).toNat (bT rows)=0 then 5 else 0
theorem acN (a:Option Addr)(cap n:Nat)(rows:List (List Raw))(B:Nat)(X:Dyadic)(w:World)(hn:1<=n)(bO:n<=4)(hL:rows.length=n+1)(hrow:∀r∈rows,r.length=n)(hcap:n+1<=cap)(ha:cC w a rows)
 (hfit:∀r∈rows,∀c∈r,Fit B c) (hB:B<=900000) (hT:aH w) (hX:dw n (bT rows)=X):
 Calls Tryz.prog 54 #[.slice a (n+1) cap] w λe w'=>e=.returned (.tuple #[bL X,af 0])/\Bw w w':=by
 obtain⟨b,o,rfl⟩:∃b o,a=some ⟨b,o,none⟩:=by
  obtain⟨vals,hvl,hat,_⟩:=ha;rcases hat with h|⟨b,o,h,_⟩
  . rw[h]at hvl;simp at hvl;omega
  . exact⟨b,o,h⟩
 have hv:=DC hL hrow hn zo;obtain⟨S,hS⟩:=aG ((rows.drop 1).map λp=>iW (rows.getD 0 []) p);have gT:S.length=n:=by rw[<-hS];simp[hL]
 have pW:∀r∈S,r.length=n:=by
  intro r hr;rw[<-hS]at hr;obtain⟨p,hp,rfl⟩:=List.mem_map.1 hr;have h0:0<rows.length:=by omega
  have e0:rows.getD 0 []=rows[0]:=by simp[h0]
  rw[Ct (by rw[e0,hrow _ (List.mem_of_mem_drop hp),hrow _ (List.getElem_mem h0)]),hrow _ (List.mem_of_mem_drop hp)]
 have ji:∀r∈S,∀d∈r,Sm (B+1) d:=by
  intro r hr d hd;rw[<-hS]at hr;obtain⟨p,hp,rfl⟩:=List.mem_map.1 hr;unfold iW at hd;obtain⟨i,hi,rfl⟩:=List.mem_iff_getElem.1 hd;rw[List.getElem_zipWith];have h0:0<rows.length:=by omega
  have e0:rows.getD 0 []=rows[0]:=by simp[h0]
  refine Sm.sub (hfit p (List.mem_of_mem_drop hp) _ (List.getElem_mem _)).2 (hfit (rows.getD 0 []) ?_ _ (List.getElem_mem _)).2;rw[e0];exact List.getElem_mem h0
 have hent:cH n (bU S)=X:=by rw[<-hX,vE];refine Cr n bO (λi j hi hj=>?_);rw[<-hS];exact Tf n rows hL hrow i j hi hj
 have hvar:=λW=>λ(h:cC W (some ⟨b,o,none⟩) rows)=>TB (some ⟨b,o,none⟩) (n+1) cap rows W hL zo h;rw[hv]at hvar;have hrows:=λW=>λ(h:cC W (some ⟨b,o,none⟩) rows) (hT:aH W)=>acv b o cap n n rows B W hL zo hcap hn hn zo hrow h hfit zo hT;rw[hS]at hrows;have nP:((S.map λr=>r.map canon).map λr=>r.map az)=S:=by
  rw[List.map_map];have:((λr:List Raw=>r.map az)∘λr:List Dyadic=>r.map canon)=id:=by
   funext r
   show(r.map canon).map az=r
   rw[List.map_map];have:(az∘canon)=id:=funext bD;rw[this];simp
  rw[this];simp
 have kq:=λW a' c'=>λ(h:cC W a' (S.map λr=>r.map canon)) (hT:aH W)=>OW a' c' n (S.map λr=>r.map canon) (B+1) S X W hn bO (by simpa using gT) (by
  intro r hr;obtain⟨x,hx,rfl⟩:=List.mem_map.1 hr
  simpa using pW x hx) h (by
  intro r hr c hc;obtain⟨x,hx,rfl⟩:=List.mem_map.1 hr;obtain⟨y,hy,rfl⟩:=List.mem_map.1 hc
  exact(ji x hx y hy).fit zo) zo zo hT nP hent
 obtain⟨wU,agG,yL,Ha,HT⟩:=gJ hvar hrows kq ha hT;clear hvar hrows kq ha hT nP hent ji pW gT hS hv hX hfit hrow hL;have hn0:¬(n:Int)=0:=by omega
 have Hb:Hid (Bw w w):=Below.refl _ _;go_enter Tryz.func54,Tryz.ntmps54;go_wp2_with fail;obtain⟨R,hR⟩:∃R:World->Prop,(λW=>ar W (w.heap.size) 39 [ag false,.string ⟨#[]⟩,af 0]/\Bw w W)=R:=⟨_,rfl⟩;first|refine cf R ?hR ?_|refine bZ R ?hR ?_
 case hR=>subst hR;exact⟨(ar.newAt w _ _ (b:=w.heap.size) rfl),zl⟩
 subst hR;rintro W ⟨qr,ae⟩;have Hr:=ai qr;clear qr;obtain⟨r0,aj,r1,ak,r2,aF⟩:=Hr.out.g3;replace Hb:=aB Hb ae;clear ae;have HA:Hid (cC W (some ⟨b,o,none⟩) rows):=Ha.out.below Hb.out;have HU:Hid (aH W):=HT.out.below Hb.out;go_wp2_with fail;refine(wU.out _ HA.out).mono ?_;rintro e w1 ⟨rfl,ae⟩;clear r0 aj r1 ak r2 aF;obtain⟨Hr,r0,aj,r1,ak,r2,aF⟩:=aN Hr ae;replace HA:=kL HA ae;replace HU:=kT HU ae;replace Hb:=aB Hb ae;clear ae;go_wp2_with fail;refine(agG.out _ HA.out HU.out).mono ?_;rintro e w2 ⟨a',c',rfl,hcc,pg,ae⟩;clear r0 aj r1 ak r2 aF;obtain⟨Hr,r0,aj,r1,ak,r2,aF⟩:=aN Hr ae;replace HA:=kL HA ae;replace HU:=kT HU ae;replace Hb:=aB Hb ae;clear ae;have Jc:=ai pg;clear pg;go_wp2_with fail;refine(yL.out _ a' c' Jc.out HU.out).mono ?_;rintro e w3 ⟨rfl,ae⟩;clear r0 aj r1 ak r2 aF;obtain⟨Hr,r0,aj,r1,ak,r2,aF⟩:=aN Hr ae;replace HA:=kL HA ae;replace HU:=kT HU ae;replace Hb:=aB Hb ae;clear ae;go_wp2;clear r0 aj r1 ak r2 aF;refine dW (bC w3 (w.heap.size) 0 [ag (au (dN X)),ah (nt (dN X).natAbs),af (dE X)]) bJ ?_;intro w9 hs;replace Hr:=bP Hr hs;obtain⟨r0,aj,r1,ak,r2,aF⟩:=Hr.out.g3;replace Hb:=bS Hb hs ZS;clear hs;refine bodyPost_ret (v:=.tuple #[bL X,af 0]) (by simp[results,Tryz.results54,go_sem,r0,r1,r2]) rfl ⟨rfl,Hb.out⟩
theorem Tv (a:Option Addr)(L cap:Nat)(rows:List (List Raw))(B:Nat)(w:World)(hL:rows.length=L)(hL5:L<=5)(hcap:L<=cap)(ha:cC w a rows)
 (hfit:∀r∈rows,∀c∈r,Fit B c) (hB:B<=900000) (hT:aH w):
 Calls Tryz.prog 53 #[.slice a L cap] w λe w'=>e=.returned (af (kQ rows))/\Bw w w':=by
 obtain⟨R,hR⟩:=aG (kQ rows);rw[hR];unfold kQ at hR;by_cases hv:jw rows=0
 . rw [if_pos hv]at hR;subst hR;have hvar:=fun W=>fun(h:cC W a rows)=>TB a L cap rows W hL zo h;rw[hv]at hvar;obtain⟨wU,Ha⟩:=aO hvar ha;have hsz:∀W,Bw w W->Calls Tryz.prog 54 #[.slice a L cap] W fun e w'=>e=.returned (.tuple #[.agg #[ag false,.string ⟨#[]⟩,af 0],af 1])/\Bw W w':=by
    intro w0 hw0;have ud:=ai (Ha.out.below hw0);clear ha hfit hL hT hv hvar Ha hw0 w;obtain⟨w,RB⟩:∃w,w=w0:=⟨_,rfl⟩;subst RB;have Hb:Hid (Bw w w):=Below.refl _ _;go_enter Tryz.func54,Tryz.ntmps54;go_wp2_with fail;obtain⟨R,hR⟩:∃R:World->Prop,(λW=>ar W (w.heap.size) 39 [ag false,.string ⟨#[]⟩,af 0]/\Bw w W)=R:=⟨_,rfl⟩;first|refine cf R ?hR ?_|refine bZ R ?hR ?_
    case hR=>subst hR;exact⟨(ar.newAt w _ _ (b:=w.heap.size) rfl),zl⟩
    subst hR;rintro W ⟨qr,ae⟩;have Hr:=ai qr;clear qr;obtain⟨r0,aj,r1,ak,r2,aF⟩:=Hr.out.g3;replace Hb:=aB Hb ae;clear ae;go_wp2_with fail;refine(wU.out _ (ud.out.below Hb.out)).mono ?_;rintro e w1 ⟨rfl,ae⟩;clear r0 aj r1 ak r2 aF;obtain⟨Hr,r0,aj,r1,ak,r2,aF⟩:=aN Hr ae;replace Hb:=aB Hb ae;clear ae;go_wp2;clear r0 aj r1 ak r2 aF;refine dW (bC w1 (w.heap.size) 0 [ag false,.string ⟨#[]⟩,af 0]) bJ ?_;intro w9 hs;replace Hr:=bP Hr hs;obtain⟨r0,aj,r1,ak,r2,aF⟩:=Hr.out.g3;replace Hb:=bS Hb hs ZS;clear hs;refine bodyPost_ret (v:=.tuple #[.agg #[ag false,.string ⟨#[]⟩,af 0],af 1]) (by simp[results,Tryz.results54,go_sem,r0,r1,r2]) rfl ⟨rfl,Hb.out⟩
   have jN:=ai hsz;clear hsz hvar ha hfit hL hT hv;have Hb:Hid (Bw w w):=Below.refl _ _;go_enter Tryz.func53,Tryz.ntmps53;go_wp2_with fail;refine(jN.out _ Hb.out).mono ?_;rintro e w1 ⟨rfl,ae⟩;replace Hb:=aB Hb ae;clear ae;have hsz:=Hb.out.size;obtain⟨W2,mM,ae,Hd⟩:=cd w1 39 [ag false,.string ⟨#[]⟩,af 0];obtain⟨d0,rL,d1,rM,d2,rN⟩:=Hd.out.g3;replace Hb:=aB Hb ae;clear ae;go_wp2;refine bodyPost_ret (results_tmp rfl _ _ _) rfl ⟨rfl,?_⟩;exact((Hb.out.setCell zp _).setCell zp _).setCell zp _
 . obtain⟨n,hn⟩:∃n:Nat,jw rows=n:=⟨(jw rows).toNat,by have:=IH rfl hv;omega⟩;rw[if_neg hv,hn,Int.toNat_natCast]at hR;obtain⟨c1,c2,c3,c4⟩:=IH hn zo;obtain rfl:L=n+1:=by omega
   obtain⟨X,hX⟩:=aG (dw n (bT rows));rw[hX]at hR;have hsz:=λW=>λ(h:cC W a rows) (hT:aH W)=>acN a cap n rows B X W zo zo zo (λr hr=>by have:=c4 r hr;omega) hcap h hfit hB hT hX;have hXm:Sm (4* (B+1)+6) X:=by
    rw[<-hX,vE];refine zF zo zo (λi j hi hj=>?_);have h0:0<rows.length:=by omega
    have h1:i+1<rows.length:=by omega
    have l0:=c4 _ (List.getElem_mem h0);have l1:=c4 _ (List.getElem_mem h1);rw[se rows (i+1) j h1 zo,se rows 0 j h0 zo];exact Sm.sub (hfit _ (List.getElem_mem h1) _ (List.getElem_mem _)).2 (hfit _ (List.getElem_mem h0) _ (List.getElem_mem _)).2
   have dM:∀W,Calls Tryz.prog 65 #[.agg #[ag (au (dN X)),ah (nt (dN X).natAbs),af (dE X)]] W λex w'=>ex=.returned (af (bA X))/\Bw W w':=λW=>oV _ _ _ (bA X) (by show bA (az (canon X))=_;rw[bD]) W (hXm.ok zo);obtain⟨g,hg⟩:=aG (bA X);have Zp:R=if g=0 then 5 else 0:=by
    rw[<-hR,<-hg];by_cases h:X=0
    . rw[if_pos h,if_pos ((Pe X).2 h)]
    . rw[if_neg h,if_neg (λh2=>h ((Pe X).1 h2))]
   rw[hg]at dM;obtain⟨jN,jM,Ha,HT,UT⟩:=gJ hsz dM ha hT Zp;clear hsz dM ha hT Zp hg hX hR hfit c4 hL;have Hb:Hid (Bw w w):=Below.refl _ _;go_enter Tryz.func53,Tryz.ntmps53;go_wp2_with fail;refine(jN.out _ (Ha.out.below Hb.out) (HT.out.below Hb.out)).mono ?_;rintro e w1 ⟨rfl,ae⟩;replace Hb:=aB Hb ae;clear ae;obtain⟨W2,mM,ae,Hd⟩:=cd w1 39 [ag (au (dN X)),ah (nt (dN X).natAbs),af (dE X)];obtain⟨d0,d1,d2⟩:=Hd.out.c3;replace Hb:=aB Hb ae;clear ae;go_wp2_with fail;refine(jM.out _).mono ?_;rintro e w3 ⟨rfl,ae⟩;clear d0 d1 d2;obtain⟨Hd,d0,d1,d2⟩:=aQ Hd ae;replace Hb:=aB Hb ae;clear ae;by_cases hg0:g=0
   . have hr:=UT.out;rw[if_pos hg0]at hr;subst hr hg0;go_wp2;refine bodyPost_ret (results_tmp rfl _ _ _) rfl ⟨rfl,Hb.out⟩
   . have hr:=UT.out;rw[if_neg hg0]at hr;subst hr;go_wp2;refine bodyPost_ret (results_tmp rfl _ _ _) rfl ⟨rfl,Hb.out⟩
end Go.Proofs.YtoopepmmepmfnaaGreatDoor
namespace Go.Proofs.YtoopepmmepmfnaaGreatDoor
def Cu (p:Nat->Nat->Dyadic):Nat->Nat->Dyadic:=λa b=>p (a+1) b-p 0 b
def lO (n:Nat)(e:Nat->Nat->Dyadic)(k i:Nat):Dyadic:=if(k+i)%2=1 then-cH (n-1) (gK e i k)else cH (n-1) (gK e i k)
def kD (n:Nat)(p:Nat->Nat->Dyadic)(k i:Nat):Dyadic:=lO n (Cu p) k i*ol (dw n p)
def wS (n:Nat)(p:Nat->Nat->Dyadic)(x:Nat->Dyadic)(i:Nat):Nat->Dyadic
 |0=>0
 |k+1=>wS n p x i k+(x k-p 0 k) *kD n p k i
theorem arN (n:Nat)(p:Nat->Nat->Dyadic)(x:Nat->Dyadic)(i k:Nat):wS n p x i k=ol (dw n p) *CX n (Cu p) (λk=>x k-p 0 k) i k:=by
 induction k with
 |zero=>simp[wS,CX]
 |succ k ih=>unfold wS CX;rw[ih];unfold kD lO;generalize (if(k+i)%2=1 then-cH (n-1) (gK (Cu p) i k)else cH (n-1) (gK (Cu p) i k))=z;grind
theorem II (n:Nat)(hn:1<=n)(bO:n<=4)(p:Nat->Nat->Dyadic)(x:Nat->Dyadic)(i:Nat)(hi:i<n):wS n p x i n=jb n p x (i+1):=by rw[arN,amO n hn bO _ _ i hi];unfold jb;rw[aj1];rfl
def wZ (n:Nat)(p:Nat->Nat->Dyadic)(x:Nat->Dyadic):Nat->Dyadic
 |0=>ol (dw n p) *dw n p
 |k+1=>wZ n p x k-jb n p x (k+1)
theorem arR (n:Nat)(p:Nat->Nat->Dyadic)(x:Nat->Dyadic)(k:Nat):wZ n p x k=ol (dw n p) *dw n p-fC (λi=>jb n p x (i+1)) k:=by
 induction k with
 |zero=>simp[wZ,fC];grind
 |succ k ih=>unfold wZ fC;rw[ih];grind
theorem adF (n:Nat)(hn:1<=n)(bO:n<=4)(p:Nat->Nat->Dyadic)(x:Nat->Dyadic):wZ n p x n=jb n p x 0:=by rw[arR];unfold jb;rw[aqU,ar5 n hn bO p x];grind
theorem aql (X:Dyadic):ol X*X=if X<0 then-X else X:=by
 rw[Tb];split
 . grind
 . split<;>grind
theorem Cs {B n:Nat}{e:Nat->Nat->Dyadic}(bO:n<=4)(h:∀i j,i<n->j<n->Sm B (e i j)):Sm (4*B+6) (cH n e):=by
 by_cases h0:n=0
 . subst h0;exact Sm.one.mono zo
 . exact zF zo bO h
theorem Tc (X:Dyadic):Sm 1 (ol X):=by
 rw[Tb];split
 . exact Sm.neg Sm.one
 . split
   . exact Sm.zero _
   . exact Sm.one
theorem zI {B n:Nat}{p:Nat->Nat->Dyadic}(h:∀a b,a<=n->b<n->Sm B (p a b))(a b:Nat)(ha:a<n)(hb:b<n):Sm (B+1) (Cu p a b):=Sm.sub (h (a+1) b zo hb) (h 0 b zo hb)
theorem VS {B n:Nat}{e:Nat->Nat->Dyadic}(hn:1<=n)(bO:n<=4)(h:∀i j,i<n->j<n->Sm B (e i j))(k i:Nat):Sm (4*B+6) (lO n e k i):=by
 have h2:Sm (4*B+6) (cH (n-1) (gK e i k)):=Cs zo (λa b ha hb=>h _ _ (by split<;>omega) (by split<;>omega));unfold lO;split
 . exact h2.neg
 . exact h2
theorem JN {B n:Nat}{p:Nat->Nat->Dyadic}(hn:1<=n)(bO:n<=4)(h:∀a b,a<=n->b<n->Sm B (p a b))(k i:Nat):Sm (4*B+11) (kD n p k i):=
 (Sm.mul (VS (B:=B+1) hn bO (λa b ha hb=>zI h a b ha hb) k i) (Tc _)).mono zo
theorem acO {B n:Nat}{p:Nat->Nat->Dyadic}(bO:n<=4)(h:∀a b,a<=n->b<n->Sm B (p a b)):Sm (4*B+11) (ol (dw n p) *dw n p):=by rw[vE];exact(Sm.mul (Tc _) (Cs (B:=B+1) bO (λa b ha hb=>zI h a b ha hb))).mono zo
theorem TD {B n:Nat}{p:Nat->Nat->Dyadic}{x:Nat->Dyadic}(hn:1<=n)(bO:n<=4)(h:∀a b,a<=n->b<n->Sm B (p a b))(hx:∀b,b<n->Sm B (x b))(i k:Nat)(hk:k<=n):Sm (5*B+12+k) (wS n p x i k):=by
 induction k with
 |zero=>exact Sm.zero _
 |succ k ih=>have h1:=ih zo;have h2:Sm (5*B+12) ((x k-p 0 k) *kD n p k i):=(Sm.mul (Sm.sub (hx k zo) (h 0 k zo zo)) (JN hn bO h k i)).mono zo;exact(h1.add (h2.mono zo)).mono zo
theorem adI {B n:Nat}{p:Nat->Nat->Dyadic}{x:Nat->Dyadic}(hn:1<=n)(bO:n<=4)(h:∀a b,a<=n->b<n->Sm B (p a b))(hx:∀b,b<n->Sm B (x b))(i:Nat)(hi:i<n):Sm (5*B+16) (jb n p x (i+1)):=by rw[<-II n hn bO p x i hi];exact(TD hn bO h hx i n (Nat.le_refl _)).mono zo
theorem adE {B n:Nat}{p:Nat->Nat->Dyadic}{x:Nat->Dyadic}(hn:1<=n)(bO:n<=4)(h:∀a b,a<=n->b<n->Sm B (p a b))(hx:∀b,b<n->Sm B (x b))(k:Nat)(hk:k<=n):Sm (5*B+16+k) (wZ n p x k):=by
 induction k with
 |zero=>exact(acO bO h).mono zo
 |succ k ih=>exact(Sm.sub (ih zo) ((adI hn bO h hx k zo).mono zo)).mono zo
def wC (n:Nat)(p:Nat->Nat->Dyadic)(i:Nat):Dyadic:=wS n p (λ_=>0) i n
def lZ (n:Nat)(p:Nat->Nat->Dyadic)(b:Nat):Nat->Dyadic
 |0=>0
 |k+1=>lZ n p b k-kD n p b k
theorem adC (n:Nat)(p:Nat->Nat->Dyadic)(x:Nat->Dyadic)(i k:Nat):wS n p x i k=wS n p (λ_=>0) i k+fC (λb=>kD n p b i*x b) k:=by
 induction k with
 |zero=>simp[wS,fC]
 |succ k ih=>unfold wS fC;rw[ih];grind
theorem arQ (n:Nat)(hn:1<=n)(bO:n<=4)(p:Nat->Nat->Dyadic)(x:Nat->Dyadic)(k:Nat)(hk:k<=n):wZ n p x k=wZ n p (λ_=>0) k+fC (λb=>lZ n p b k*x b) n:=by
 induction k with
 | zero=>
   have:fC (λb=>lZ n p b 0*x b) n=0:=by rw[ac5 (g:=λ_=>(0:Dyadic) *0) n (λb _=>by simp[lZ]),ac6];grind
   rw[this];unfold wZ;grind
 | succ k ih=>
   unfold wZ;rw[ih zo,<-II n hn bO p x k zo,<-II n hn bO p (λ_=>0) k zo,adC n p x k n];have:fC (λb=>lZ n p b (k+1) *x b) n=fC (λb=>lZ n p b k*x b) n+fC (λb=>kD n p b k*x b) n* (-1):=by rw[<-ac6,<-aqT];exact ac5 n (λb _=>by simp only[lZ];grind)
   rw[this];grind
def iQ (R:List (List Dyadic))(r c:Nat):List (List Dyadic):=(R.eraseIdx r).map λx=>x.eraseIdx c
theorem Ib (R:List (List Dyadic))(r c m:Nat)(hL:R.length=m+1)(hr:r<=m):(iQ R r c).length=m:=by unfold iQ;rw[List.length_map,List.length_eraseIdx_of_lt zo];omega
theorem Sg (R:List (List Dyadic))(r c m:Nat)(hrow:∀x∈R,x.length=m+1)(hc:c<=m):∀x∈iQ R r c,x.length=m:=by intro x hx;unfold iQ at hx;obtain⟨y,hy,rfl⟩:=List.mem_map.1 hx;have:=hrow y (List.mem_of_mem_eraseIdx hy);rw[List.length_eraseIdx_of_lt zo];omega
theorem Sd (R:List (List Dyadic))(r c m:Nat)(hL:R.length=m+1)(hr:r<=m)(j:Nat)(hj:j<m):(iQ R r c).getD j []=(R.getD (if j<r then j else j+1) []).eraseIdx c:=by
 unfold iQ;have h1:j<(R.eraseIdx r).length:=by rw[List.length_eraseIdx_of_lt zo];omega
 rw[List.getD_eq_getElem?_getD,List.getElem?_map,List.getElem?_eq_getElem h1,Option.map_some,Option.getD_some,List.getElem_eraseIdx];split
 . rename_i h;rw[List.getD_eq_getElem?_getD,List.getElem?_eq_getElem zo];rfl
 . rename_i h;rw[List.getD_eq_getElem?_getD,List.getElem?_eq_getElem zo];rfl
theorem akJ (l:List Dyadic)(c j:Nat)(h:j+1<l.length)(hc:c<l.length):(l.eraseIdx c).getD j 0=l.getD (if j<c then j else j+1) 0:=by
 have h1:j<(l.eraseIdx c).length:=by rw[List.length_eraseIdx_of_lt hc];omega
 rw[List.getD_eq_getElem?_getD,List.getElem?_eq_getElem h1,Option.getD_some,List.getElem_eraseIdx];split
 . rw[List.getD_eq_getElem?_getD,List.getElem?_eq_getElem zo];rfl
 . rw[List.getD_eq_getElem?_getD,List.getElem?_eq_getElem zo];rfl
theorem anN (R:List (List Dyadic))(r c m:Nat)(hL:R.length=m+1)(hrow:∀x∈R,x.length=m+1)(hr:r<=m)(hc:c<=m)(i j:Nat)(hi:i<m)(hj:j<m):bU (iQ R r c) i j=gK (bU R) r c i j:=by
 show((iQ R r c).getD i []).getD j 0=(R.getD (if i<r then i else i+1) []).getD (if j<c then j else j+1) 0
 rw[Sd R r c m hL hr i hi];have hk:(if i<r then i else i+1)<R.length:=by split<;>omega
 have e:R.getD (if i<r then i else i+1) []=R[if i<r then i else i+1]'hk:=by rw[List.getD_eq_getElem?_getD,List.getElem?_eq_getElem hk];rfl
 have hl:=hrow _ (List.getElem_mem hk);rw[e];exact akJ _ c j (by rw[hl];omega) (by rw[hl];omega)
def sN (n:Nat)(e:Nat->Nat->Dyadic):List (List Dyadic):=(List.range n).map λa=>(List.range n).map λb=>lO n e a b
theorem VU (n:Nat)(e:Nat->Nat->Dyadic)(a:Nat)(ha:a<n):(sN n e).getD a []=(List.range n).map λb=>lO n e a b:=by unfold sN;simp[List.getD_eq_getElem?_getD,ha]
theorem ahz (n:Nat)(e:Nat->Nat->Dyadic)(a b:Nat)(ha:a<n)(hb:b<n):bU (sN n e) a b=lO n e a b:=by unfold bU;rw[VU n e a ha];simp[List.getD_eq_getElem?_getD,hb]
theorem ahA (n:Nat)(e:Nat->Nat->Dyadic):(sN n e).length=n:=by simp[sN]
theorem ahB (n:Nat)(e:Nat->Nat->Dyadic):∀r∈sN n e,r.length=n:=by intro r hr;unfold sN at hr;obtain⟨x,_,rfl⟩:=List.mem_map.1 hr;simp
theorem abE (R:List (List Dyadic))(r c m:Nat)(hL:R.length=m+1)(hrow:∀x∈R,x.length=m+1)(hr:r<=m)(hc:c<=m)(hm:m<=4):cH m (bU (iQ R r c))=cH m (gK (bU R) r c):=
 Cr m hm (λi j hi hj=>anN R r c m hL hrow hr hc i j hi hj)
theorem abF {B:Nat}{R:List (List Dyadic)}(h:∀x∈R,∀d∈x,Sm B d)(r c:Nat):∀x∈iQ R r c,∀d∈x,Sm B d:=by intro x hx d hd;unfold iQ at hx;obtain⟨y,hy,rfl⟩:=List.mem_map.1 hx;exact h y (List.mem_of_mem_eraseIdx hy) d (List.mem_of_mem_eraseIdx hd)
end Go.Proofs.YtoopepmmepmfnaaGreatDoor
namespace Go.Proofs.YtoopepmmepmfnaaGreatDoor
open Go.RowKit
theorem aku (r:List Raw):(mK r).map az=r.map az:=by unfold mK;rw[List.map_map];refine List.map_congr_left (λx _=>?_);exact bD _
theorem aj0 (n:Nat)(bO:n<=4){p q:Nat->Nat->Dyadic}(h:∀a b,a<=n->b<n->p a b=q a b):dw n p=dw n q:=by rw[vE,vE];exact Cr n bO (λi j hi hj=>by rw[h (i+1) j zo hj,h 0 j zo hj])
def Rw (n B:Nat)(rows:List (List Raw)):Prop:=rows.length=n+1/\(∀r∈rows,r.length=n)/\∀r∈rows,∀c∈r,Fit B c
theorem apa (rows:List (List Raw)):bT (rows.map mK)=bT rows:=by unfold bT;rw[List.map_map];have e:((λr:List Raw=>r.map az)∘mK)=λr=>r.map az:=funext aku;rw[e]
end Go.Proofs.YtoopepmmepmfnaaGreatDoor
