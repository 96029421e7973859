/- Package mat: bareiss' test of a row. -/
import Derived.Test.YtnjfebkelecgaaaGreatDoorZ11
import Derived.Test.YtnjfebkelecgaaaGreatDoorZ22
import Derived.Test.YtnjfebkelecgaaaGreatDoorZ6
import Derived.Test.YtnjfebkelecgaaaGreatDoorZ7
import Derived.Test.YtnjfebkelecgaaaGreatDoorZ9
set_option linter.unusedVariables false
set_option linter.unusedSimpArgs false
set_option maxRecDepth 100000
set_option maxHeartbeats 16000000
namespace Go.Proofs.YtnjfebkelecgaaaGreatDoor
open Go.RowKit
attribute [local go_sem ↓] Go.wp_at_zero Go.wp_at_succ
theorem alH (bk k g n c:Nat)(z:Int)(w:World)(hk:w.cell? ⟨bk,0,none⟩=some (ah (k:Int)))(hkn:k<n)(h0:w.cell? ⟨g,k*2,none⟩=some (ar (aI z)))(h1:w.cell? ⟨g,k*2+1,none⟩=some (ai (nt z.natAbs)))(hz:(nt z.natAbs).length<=1099511627776):
 Calls Tryz.prog 151 #[.slice (some ⟨g,0,none⟩) n c,.pointer (some ⟨bk,0,none⟩)] w λe w'=>e=.returned (ar (decide (z≠0)))/\Bw w w':=by
 have bK:=xm n c k (k:Int) (show some (⟨g,0,none⟩:Addr)=some ⟨g,0,none⟩from rfl) hkn rfl;rw[Nat.zero_add]at bK;have Hz:=aj hz;obtain⟨s,hs⟩:=aK (aI z);obtain⟨l,hl⟩:=aK (nt z.natAbs);have kQ:=λW=>Ol (aI z) (nt z.natAbs) W hz;rw[fT]at kQ;rw[hs,hl]at kQ;rw[hs]at h0;rw[hl]at h1;obtain⟨t,ht⟩:=aK (fH z);rw[ht]at kQ;have hd:decide (z≠0)=decide (t≠0):=by
  rw[<-ht];unfold fH;by_cases h:z=0
  . simp[h]
  . by_cases h2:z<0
    . simp[h,h2]
    . simp[h,h2]
 rw[hd];have qW:=aj kQ;clear kQ hd ht hs hl hz Hz;have Hb:Hid (Bw w w):=Below.refl _ _;go_enter Tryz.func151,Tryz.ntmps151;go_wp2_with fail;refine(qW.out _).mono ?_;rintro e w1 ⟨rfl,ag⟩;replace Hb:=aF Hb ag;clear ag h0 h1 hk bK;go_wp2;refine bodyPost_ret (results_tmp rfl _ _ _) rfl ⟨?_,Hb.out⟩;by_cases h:t=0<;>simp[h]
theorem aqf (p:Value->Bool)(vs:List Value)(q:Nat->Bool)(c:Nat)(h:∀i (hi:i<vs.length),p vs[i]=q i):
 idxFrom p vs c=match (List.range vs.length).find? q with|none=>-1|some m=>((c+m:Nat):Int):=by
 induction vs generalizing c q with
 |nil=>rfl
 | cons v vs ih=>
   have h0:=h 0 zm;have hs:=ih (λi=>q (i+1)) (c+1) (λi hi=>h (i+1) (by simpa using hi));simp only[List.getElem_cons_zero]at h0;rw[List.length_cons,List.range_succ_eq_map,List.find?_cons];unfold idxFrom;rw[h0];cases hq:q 0 with
   |true=>simp
   | false=>
     rw[hs,List.find?_map];simp only[Bool.false_eq_true,if_false];have e:(q∘Nat.succ)=λi=>q (i+1):=rfl;rw[e];cases (List.range vs.length).find? λi=>q (i+1)with
     |none=>rfl
     |some m=>simp only[Option.map_some];congr 1;omega
theorem as4 (p:Value->Bool)(vals:List Value)(f:Nat->Nat->Int)(n k:Nat)(hn:vals.length=n)(h:∀i (hi:i<vals.length),p vals[i]=decide (f i k≠0)):
 idxFrom p (vals.drop k) 0=match rL f n k with|none=>-1|some m=>(m:Int):=by
 rw[aqf p (vals.drop k) (λi=>f (k+i) k !=0) 0 (λi hi=>by
  rw[List.getElem_drop,h]
  simp[bne,Bool.beq_eq_decide_eq])]
 unfold rL;rw[List.length_drop,hn];simp only[Nat.zero_add]
theorem awf (x y:Int)(w:World)(hx:(nt x.natAbs).length<=34359738368)(hy:(nt y.natAbs).length<=34359738368)(h0:y≠0)(hd:y∣x):
 Calls Tryz.prog 152 #[.agg #[ar (aI x),ai (nt x.natAbs)],.agg #[ar (aI y),ai (nt y.natAbs)]] w λe w'=>∃r,e=.returned (.tuple #[dt (x/y),r,ar true])/\Bw w w':=by
 have h:=awg (aI x) (aI y) (nt x.natAbs) (nt y.natAbs) w hx hy (by rw[jz];omega) (by rw[jz,jz];exact Nat.mod_eq_zero_of_dvd (Int.natAbs_dvd_natAbs.2 hd));rw[fT,fT]at h;exact h
end Go.Proofs.YtnjfebkelecgaaaGreatDoor
namespace Go.Proofs.YtnjfebkelecgaaaGreatDoor
open Go.RowKit
def fg (f:Nat->Nat->Int)(n:Nat):List (List Int):=(List.range n).map λa=>(List.range n).map (f a)
theorem JE (f:Nat->Nat->Int)(n:Nat):(fg f n).length=n:=by simp[fg]
theorem Ob (f:Nat->Nat->Int)(n i:Nat)(h:i<n):(fg f n).getD i []=(List.range n).map (f i):=by simp[fg,List.getD_eq_getElem?_getD,h]
theorem avs (f:Nat->Nat->Int)(n i j:Nat)(h:i<n)(h':j<n):((fg f n).getD i []).getD j 0=f i j:=by rw[Ob f n i h];simp[List.getD_eq_getElem?_getD,h']
theorem avt (f:Nat->Nat->Int)(n i j:Nat)(y:Int)(h:i<n):(fg f n).set i (((fg f n).getD i []).set j y)=fg (λa b=>if a=i/\b=j then y else f a b) n:=by
 rw[Ob f n i h];apply List.ext_getElem
 . simp[fg]
 . intro a h1 h2;have ha:a<n:=by simpa[fg]using h2
   rw[List.getElem_set];split
   . rename_i e
     subst e;apply List.ext_getElem
     . simp[fg]
     . intro b h3 h4;have hb:b<n:=by simpa[fg]using h4
       rw[List.getElem_set];by_cases e2:j=b
       . subst e2;simp[fg]
       . have e3:¬b=j:=λe=>e2 e.symm;simp[fg,e2,e3]
   . rename_i e
     have e3:¬a=i:=λe'=>e e'.symm;simp[fg,e3]
theorem avu (f:Nat->Nat->Int)(n k m:Nat)(h:k<n)(h':m<n):((fg f n).set k ((fg f n).getD m [])).set m ((fg f n).getD k [])=fg (cJ f k m) n:=by
 apply List.ext_getElem
 . simp[fg]
 . intro a h1 h2;have ha:a<n:=by simpa[fg]using h2
   have hs:=VE (fg f n) [] k m (by rw[JE];exact h) (by rw[JE];exact h') a (by rw[JE];exact ha);rw[List.getD_eq_getElem?_getD,List.getElem?_eq_getElem h1]at hs;simp only[Option.getD_some]at hs;rw[hs,Ob f n _ (NY h h' ha)];simp[fg,cJ,swp]
theorem Ee {w:World}{base:Nat}{e:TypeId}{size n cap g:Nat}{xs:List Value}(h:w.ownsRow base e size (.slice (some ⟨g,0,none⟩) n cap) n xs):base<=g/\∃cur,aC w g e cur:=by
 rcases h.2 with⟨h1,_⟩ |⟨g',cap',cur,h1,hb,hg,_,_,_,hx⟩
 . simp at h1
 . simp only[Value.slice.injEq,Option.some.injEq,Addr.mk.injEq,and_true,true_and]at h1;obtain⟨rfl,rfl⟩:=h1;exact⟨hb,cur.toList,by unfold aC;simpa using hg⟩
theorem UZ {w:World}{base:Nat}{e:TypeId}{size n:Nat}{v:Value}{xs:List Value}(h:w.ownsRow base e size v n xs)(hn:1<=n):∃g cap,v=.slice (some ⟨g,0,none⟩) n cap:=by
 rcases h.2 with⟨h1,h2⟩ |⟨g',cap',cur,h1,_⟩
 . omega
 . exact⟨g',cap',h1⟩
theorem avr {f g:Nat->Nat->Int}(n:Nat)(h:∀a b,a<n->b<n->f a b=g a b):fg f n=fg g n:=by unfold fg;refine List.map_congr_left (λa ha=>List.map_congr_left (λb hb=>h a b (List.mem_range.1 ha) (List.mem_range.1 hb)))
def akO (w:World)(go L top:Nat):Prop:=go<top/\∀m g n c,m<L->w.cell? ⟨go,m,none⟩=some (.slice (some ⟨g,0,none⟩) n c)->g<top
def BS (w0 w:World)(base n go cap top:Nat)(f:Nat->Nat->Int):Prop:=
 jW w base n (fg f n) n (.slice (some ⟨go,0,none⟩) n cap)/\akO w go n top/\Below base w0 w/\top<=w.heap.size
theorem BS.begin {w:World}{base n:Nat}{f:Nat->Nat->Int}{v:Value}(h:jW w base n (fg f n) n v)(hn:1<=n):∃go cap,v=.slice (some ⟨go,0,none⟩) n cap/\n<=cap/\BS w w base n go cap w.heap.size f:=by
 have h0:=h;obtain⟨vals,hl,ho,hv,_⟩:=h;obtain⟨go,cap,rfl⟩:=UZ ho hn;refine⟨go,cap,rfl,NG ho,h0,⟨?_,λm g n' c hm hc=>?_⟩,Below.refl _ _,Nat.le_refl _⟩
 . obtain⟨_,cur,hb⟩:=Ee ho;exact hb.lt
 . have hm2:m<vals.length:=by omega
   rw[nS ho m hm2]at hc;simp only[Option.some.injEq]at hc;have hrow:=hv m hm2;obtain⟨g',cap',e⟩:=UZ hrow hn;rw[e]at hrow hc;simp at hc;obtain⟨rfl,rfl,rfl⟩:=hc;exact(Ee hrow).2.choose_spec.lt
theorem BS.below {w0 w w':World}{base n go cap top:Nat}{f:Nat->Nat->Int}(h:BS w0 w base n go cap top f)(hb:Bw w w')(jY:base<=top):BS w0 w' base n go cap top f:=by
 obtain⟨h1,⟨h2,h3⟩,h4,h5⟩:=h;have hs:=hb.size;refine⟨h1.below hb,⟨h2,λm g n' c hm hc=>h3 m g n' c hm ?_⟩,?_,by omega⟩
 . rw[World.cell?_of_block (a:=⟨go,m,none⟩) (w:=w) (hb.block go zo)]at hc;exact hc
 . exact h4.trans (hb.mono zo)
theorem BS.congr {w0 w:World}{base n go cap top:Nat}{f g:Nat->Nat->Int}(h:BS w0 w base n go cap top f)(he:∀a b,a<n->b<n->f a b=g a b):BS w0 w base n go cap top g:=by unfold BS at*;rw[<-avr n he];exact h
theorem BS.row {w0 w:World}{base n go cap top:Nat}{f:Nat->Nat->Int}(h:BS w0 w base n go cap top f)(i:Nat)(hi:i<n):
 ∃g c,base<=g/\g<top/\w.cell? ⟨go,i,none⟩=some (.slice (some ⟨g,0,none⟩) n c)/\(∀j,j<n->w.cell? ⟨g,j*2,none⟩=some (ar (aI (f i j)))/\w.cell? ⟨g,j*2+1,none⟩=some (ai (nt (f i j).natAbs)))/\
  (∀q,w.frozen? ⟨g,q,none⟩=false)/\
  ∀j,j<n->∀y:Int,BS w0 ((w.setCell ⟨g,j*2,none⟩ (ar (aI y))).setCell ⟨g,j*2+1,none⟩ (ai (nt y.natAbs))) base n go cap top (λa b=>if a=i/\b=j then y else f a b):=by
 obtain⟨h1,⟨h2,h3⟩,h4,h5⟩:=h;have hR:(fg f n).length=n:=JE f n;have hr:((fg f n).getD i []).length=n:=by rw[Ob f n i hi];simp
 obtain⟨vals,hl,ho,hv,hd⟩:=id h1;have hi2:i<vals.length:=by omega
 have hrow:=hv i hi2;obtain⟨g,c,e⟩:=UZ hrow zo;rw[e]at hrow;obtain⟨hbg,cur,hblk⟩:=Ee hrow;have hc0:w.cell? ⟨go,i,none⟩=some (.slice (some ⟨g,0,none⟩) n c):=by rw[nS ho i hi2,e]
 refine⟨g,c,hbg,h3 i g n c hi hc0,hc0,λj hj=>?_,λq=>hblk.free q,λj hj y=>?_⟩
 . obtain⟨go',cap',g',c',e0,_,_,_,e1,e2,e3,_⟩:=h1.num i j hi hj hR hr;simp at e0;obtain⟨rfl,rfl⟩:=e0;rw[hc0]at e1;simp at e1;obtain⟨rfl,rfl⟩:=e1;rw[avs f n i j hi hj]at e2 e3;exact⟨e2,e3⟩
 . obtain⟨go',cap',g',c',e0,hb1,hb2,hne,e1,e2,e3,hw⟩:=h1.num i j hi hj hR hr;simp at e0;obtain⟨rfl,rfl⟩:=e0;rw[hc0]at e1;simp at e1;obtain⟨rfl,rfl⟩:=e1;have h6:=hw y;rw[avt f n i j y hi]at h6;refine⟨h6,⟨h2,λm g' n' c' hm hc=>h3 m g' n' c' hm ?_⟩,(h4.setCell hb2 _).setCell hb2 _,by simpa using h5⟩;rw[World.cell?_setCell_far _ _ _ _ (by simpa using hne),World.cell?_setCell_far _ _ _ _ (by simpa using hne)]at hc;exact hc
theorem BS.swap {w0 w:World}{base n go cap top:Nat}{f:Nat->Nat->Int}(h:BS w0 w base n go cap top f)(i m:Nat)(hi:i<n)(hm:m<n):
 ∃g1 c1 g2 c2,w.cell? ⟨go,i,none⟩=some (.slice (some ⟨g1,0,none⟩) n c1)/\w.cell? ⟨go,m,none⟩=some (.slice (some ⟨g2,0,none⟩) n c2)/\(∀q,w.frozen? ⟨go,q,none⟩=false)/\
  BS w0 ((w.setCell ⟨go,i,none⟩ (.slice (some ⟨g2,0,none⟩) n c2)).setCell ⟨go,m,none⟩ (.slice (some ⟨g1,0,none⟩) n c1)) base n go cap top (cJ f i m):=by
 have hb:=h;obtain⟨g1,c1,_,t1,e1,_⟩:=hb.row i hi;obtain⟨g2,c2,_,t2,e2,_⟩:=hb.row m hm;obtain⟨h1,⟨h2,h3⟩,h4,h5⟩:=h;obtain⟨_,_,ho,_,_⟩:=id h1;obtain⟨jL,cur,hblk⟩:=Ee ho;obtain⟨x,y,q1,q2,hw⟩:=h1.swap i m hi hm (JE f n);rw[e1]at q1;rw[e2]at q2;simp only[Option.some.injEq]at q1 q2;subst q1 q2;rw[avu f n i m hi hm]at hw;refine⟨g1,c1,g2,c2,e1,e2,λq=>hblk.free q,hw,⟨h2,λm' g' n' c' hm' hc=>?_⟩,(h4.setCell jL _).setCell jL _,by simpa using h5⟩;by_cases h7:m'=m
 . subst h7;rw[aC.cell ((hblk.set i _).set m' _)]at hc;rw[List.getElem?_set_self']at hc;have:g'=g1:=by
    cases hq:(cur.set i (.slice (some ⟨g2,0,none⟩) n c2))[m']? with
    |none=>rw[hq]at hc;simp at hc
    |some z=>rw[hq]at hc;simp at hc;exact hc.1.symm
   omega
 . rw[World.cell?_setCell_other _ _ _ _ (show(⟨go,m,none⟩:Addr)≠⟨go,m',none⟩from λe=>h7 (by simpa using e.symm))]at hc;by_cases h8:m'=i
   . subst h8;rw[aC.cell (hblk.set m' _),List.getElem?_set_self']at hc;have:g'=g2:=by
      cases hq:cur[m']? with
      |none=>rw[hq]at hc;simp at hc
      |some z=>rw[hq]at hc;simp at hc;exact hc.1.symm
     omega
   . rw[World.cell?_setCell_other _ _ _ _ (show(⟨go,i,none⟩:Addr)≠⟨go,m',none⟩from λe=>h8 (by simpa using e.symm))]at hc;exact h3 m' g' n' c' hm' hc
end Go.Proofs.YtnjfebkelecgaaaGreatDoor
namespace Go.Proofs.YtnjfebkelecgaaaGreatDoor
open Go.RowKit
attribute [local go_sem ↓] Go.wp_at_zero Go.wp_at_succ
def BT (w0 w:World)(base n go cap top:Nat)(f:Nat->Nat->Int)(r l kb:Nat)(last:Int)(k:Nat):Prop:=
 BS w0 w base n go cap top f/\aC w r 46 [ar false,.string ⟨#[]⟩]/\aC w l 46 [ar (aI last),ai (nt last.natAbs)]/\aC w kb 3 [ah (k:Int)]/\base<=top/\top<=r/\top<=l/\top<=kb
theorem BT.below {w0 w w':World}{base n go cap top:Nat}{f:Nat->Nat->Int}{r l kb:Nat}{last:Int}{k:Nat}(h:BT w0 w base n go cap top f r l kb last k)(hb:Bw w w'):BT w0 w' base n go cap top f r l kb last k:=by obtain⟨h1,h2,h3,h4,h5,h6⟩:=h;exact⟨h1.below hb h5,h2.below hb,h3.below hb,h4.below hb,h5,h6⟩
theorem BT.congr {w0 w:World}{base n go cap top:Nat}{f g:Nat->Nat->Int}{r l kb:Nat}{last:Int}{k:Nat}(h:BT w0 w base n go cap top f r l kb last k)(he:∀a b,a<n->b<n->f a b=g a b):BT w0 w base n go cap top g r l kb last k:=
 ⟨h.1.congr he,h.2⟩
theorem BT.drew {w0 w:World}{base n go cap top:Nat}{f:Nat->Nat->Int}{r l kb:Nat}{last:Int}{k:Nat}(h:BT w0 w base n go cap top f r l kb last k):BT w0 w.drew base n go cap top f r l kb last k:=h.below ((Below.refl _ _).drew)
theorem BT.row {w0 w:World}{base n go cap top:Nat}{f:Nat->Nat->Int}{r l kb:Nat}{last:Int}{k:Nat}(h:BT w0 w base n go cap top f r l kb last k)(i:Nat)(hi:i<n):
 ∃g c,g<w.heap.size/\g<top/\w.cell? ⟨go,i,none⟩=some (.slice (some ⟨g,0,none⟩) n c)/\(∀j,j<n->w.cell? ⟨g,j*2,none⟩=some (ar (aI (f i j)))/\w.cell? ⟨g,j*2+1,none⟩=some (ai (nt (f i j).natAbs)))/\
  (∀q,w.frozen? ⟨g,q,none⟩=false)/\
  ∀j,j<n->∀y:Int,BT w0 ((w.setCell ⟨g,j*2,none⟩ (ar (aI y))).setCell ⟨g,j*2+1,none⟩ (ai (nt y.natAbs))) base n go cap top (λa b=>if a=i/\b=j then y else f a b) r l kb last k:=by
 obtain⟨h1,h2,h3,h4,h5,h6,h7,h8⟩:=h;have h9:=h1.2.2.2;obtain⟨g,c,hb,ht,e1,e2,e3,hw⟩:=h1.row i hi;refine⟨g,c,by omega,ht,e1,e2,e3,λj hj y=>⟨hw j hj y,?_,?_,?_,h5,h6,h7,h8⟩⟩
 . exact(h2.so _ _ zo _).so _ _ zo _
 . exact(h3.so _ _ zo _).so _ _ zo _
 . exact(h4.so _ _ zo _).so _ _ zo _
theorem BT.swap {w0 w:World}{base n go cap top:Nat}{f:Nat->Nat->Int}{r l kb:Nat}{last:Int}{k:Nat}(h:BT w0 w base n go cap top f r l kb last k)(i m:Nat)(hi:i<n)(hm:m<n):
 ∃g1 c1 g2 c2,w.cell? ⟨go,i,none⟩=some (.slice (some ⟨g1,0,none⟩) n c1)/\w.cell? ⟨go,m,none⟩=some (.slice (some ⟨g2,0,none⟩) n c2)/\(∀q,w.frozen? ⟨go,q,none⟩=false)/\
  BT w0 ((w.setCell ⟨go,i,none⟩ (.slice (some ⟨g2,0,none⟩) n c2)).setCell ⟨go,m,none⟩ (.slice (some ⟨g1,0,none⟩) n c1)) base n go cap top (cJ f i m) r l kb last k:=by
 obtain⟨h1,h2,h3,h4,h5,h6,h7,h8⟩:=h;have h9:=h1.2.1.1;obtain⟨g1,c1,g2,c2,e1,e2,e3,hw⟩:=h1.swap i m hi hm;refine⟨g1,c1,g2,c2,e1,e2,e3,hw,?_,?_,?_,h5,h6,h7,h8⟩
 . exact(h2.so _ _ zo _).so _ _ zo _
 . exact(h3.so _ _ zo _).so _ _ zo _
 . exact(h4.so _ _ zo _).so _ _ zo _
theorem BT.aBE {w0 w:World}{base n go cap top:Nat}{f:Nat->Nat->Int}{r l kb:Nat}{last:Int}{k:Nat}(h:BT w0 w base n go cap top f r l kb last k)(i:Nat)(hi:i<n):
 ∃g c,g<w.heap.size/\g<top/\w.cell? ⟨go,i,none⟩=some (.slice (some ⟨g,0,none⟩) n c)/\(∀j,j<n->w.cell? ⟨g,j*2,none⟩=some (ar (aI (f i j)))/\w.cell? ⟨g,j*2+1,none⟩=some (ai (nt (f i j).natAbs)))/\
  ∀w',Bw w w'->(∀q,w'.frozen? ⟨g,q,none⟩=false)/\∀j,j<n->∀y:Int,BT w0 ((w'.setCell ⟨g,j*2,none⟩ (ar (aI y))).setCell ⟨g,j*2+1,none⟩ (ai (nt y.natAbs))) base n go cap top (λa b=>if a=i/\b=j then y else f a b) r l kb last k:=by
 obtain⟨g,c,h1,h2,h3,h4,_,_⟩:=h.row i hi;refine⟨g,c,h1,h2,h3,h4,λw' hb=>?_⟩;obtain⟨g',c',_,_,e3,_,e5,e6⟩:=(h.below hb).row i hi;have:=cell_later hb h3;rw[e3]at this;simp at this;obtain⟨rfl,rfl⟩:=this;exact⟨e5,e6⟩
theorem BS.setOther {w0 w:World}{base n go cap top:Nat}{f:Nat->Nat->Int}(h:BS w0 w base n go cap top f)(jY:base<=top)(p o:Nat)(u:Value)(hp:top<=p):BS w0 (w.setCell ⟨p,o,none⟩ u) base n go cap top f:=by
 have hbs:=h;obtain⟨⟨vals,hl,ho,hv,hd⟩,⟨h2,h3⟩,h4,h5⟩:=h;refine⟨⟨vals,hl,ownsRow_setCell_other ho (by simp[Value.ownBlock];omega) _,λi hi=>?_,hd⟩,⟨h2,λm g n' c hm hc=>h3 m g n' c hm ?_⟩,h4.setCell zp _,by simpa using h5⟩
 . obtain⟨g,c,_,ht,e,_⟩:=hbs.row i zo;rw[nS ho i hi]at e;have e1:vals[i]=.slice (some ⟨g,0,none⟩) n c:=by simpa using e
   exact ownsRow_setCell_other (hv i hi) (by rw[e1];simp[Value.ownBlock];omega) _
 . rw[World.cell?_setCell_far _ _ _ _ zp]at hc;exact hc
theorem BT.setLast {w0 w:World}{base n go cap top:Nat}{f:Nat->Nat->Int}{r l kb:Nat}{last:Int}{k:Nat}(h:BT w0 w base n go cap top f r l kb last k)(x:Int)(h1:l≠r)(h2:l≠kb):
 BT w0 ((w.setCell ⟨l,0,none⟩ (ar (aI x))).setCell ⟨l,1,none⟩ (ai (nt x.natAbs))) base n go cap top f r l kb x k:=by
 obtain⟨q1,q2,q3,q4,q5,q6,q7,q8⟩:=h;exact⟨(q1.setOther q5 l 0 _ q7).setOther q5 l 1 _ q7,(q2.so _ _ h1 _).so _ _ h1 _,(q3.set 0 _).set 1 _,(q4.so _ _ h2 _).so _ _ h2 _,q5,q6,q7,q8⟩
theorem awl (x y N:Int)(h:x-y=N)(w:World)(hx:(nt x.natAbs).length<=34359738368)(hy:(nt y.natAbs).length<=34359738368):
 Calls Tryz.prog 141 #[.agg #[ar (aI x),ai (nt x.natAbs)],.agg #[ar (aI y),ai (nt y.natAbs)]] w λe w'=>e=.returned (dt N)/\Bw w w':=by
 have:=agF (aI x) (nt x.natAbs) (aI y) (nt y.natAbs) w hx hy;rw[fT,fT,h]at this;exact this
theorem agz (x y N:Int)(h:x*y=N)(b cap:Nat)(ty:TypeId)(w:World)(hx:(nt x.natAbs).length<=17179869184)(hy:(nt y.natAbs).length<=17179869184)(ha:aC w b ty [ar (aI x),ai (nt x.natAbs),ar (aI y),ai (nt y.natAbs)]):
 Calls Tryz.prog 62 #[.slice (some ⟨b,0,none⟩) 2 cap] w λe w'=>e=.returned (dt N)/\Bw w w':=
 agA _ _ _ _ N (by rw[fT,fT,h]) b cap ty w hx hy ha
theorem BS.row_ne {w0 w:World}{base n go cap top:Nat}{f:Nat->Nat->Int}(h:BS w0 w base n go cap top f)(i:Nat)(hi:i<n){g c:Nat}(hc:w.cell? ⟨go,i,none⟩=some (.slice (some ⟨g,0,none⟩) n c)):g≠go:=by
 obtain⟨⟨vals,hl,ho,hv,hd⟩,_⟩:=h;have hi2:i<vals.length:=by omega
 rw[nS ho i hi2]at hc;simp only[Option.some.injEq]at hc;have hrow:=hv i hi2;rw[hc]at hrow;obtain⟨_,c1,b1⟩:=Ee hrow;obtain⟨_,c2,b2⟩:=Ee ho;rintro rfl;have:=b1.symm.trans b2;simp at this
def Jf (f:Nat->Nat->Int)(n k:Nat):Int:=match rL f n k with|none=>-1|some m=>(m:Int)
open Classical in
theorem BS.index {w0 w:World}{base n go cap top:Nat}{f:Nat->Nat->Int}(h:BS w0 w base n go cap top f)(k kb:Nat)(hk:k<n)(hn:n<=8)(hkb:w.cell? ⟨kb,0,none⟩=some (ah (k:Int)))(hz:∀a b,a<n->b<n->(nt (f a b).natAbs).length<=1099511627776):
 Calls Tryz.prog 150 #[.slice (some ⟨go,k,none⟩) (n-k) (cap-k),.func (.func 151) #[] #[.pointer (some ⟨kb,0,none⟩)]] w λe w'=>e=.returned (ah (Jf f n k))/\Bw w w':=by
 have hbs:=h;obtain⟨h1,_,_,_⟩:=h;obtain⟨vals,hl,ho,hv,hd⟩:=h1;have hrow:∀i (hi:i<vals.length),∃g c,vals[i]=.slice (some ⟨g,0,none⟩) n c/\∀j,j<n->w.cell? ⟨g,j*2,none⟩=some (ar (aI (f i j)))/\w.cell? ⟨g,j*2+1,none⟩=some (ai (nt (f i j).natAbs)):=by intro i hi;obtain⟨g,c,_,_,e1,e2,_⟩:=hbs.row i zo;rw[nS ho i hi]at e1;exact⟨g,c,by simpa using e1,e2⟩
 have hinj:∀i j (hi:i<vals.length) (hj:j<vals.length),vals[i]=vals[j]->i=j:=by intro i j hi hj e;obtain⟨g,c,e1,_⟩:=hrow i hi;exact hd i j hi hj g (by rw[e1];rfl) (by rw[<-e,e1];rfl)
 obtain⟨p,hp⟩:∃p:Value->Bool,∀i (hi:i<vals.length),p vals[i]=decide (f i k≠0):=by
  refine⟨λv=>decide (∃i,∃hi:i<vals.length,vals[i]=v/\f i k≠0),λi hi=>?_⟩;by_cases h0:f i k≠0
  . have:∃j,∃hj:j<vals.length,vals[j]=vals[i]/\f j k≠0:=⟨i,hi,rfl,h0⟩;show decide _=decide _
    rw[decide_eq_true this,decide_eq_true h0]
  . have:¬∃j,∃hj:j<vals.length,vals[j]=vals[i]/\f j k≠0:=by rintro⟨j,hj,e,h2⟩;exact h0 (by rw[<-hinj j i hj hi e];exact h2)
    simp only[this,h0,decide_false]
 have hpv:=as4 p vals f n k zo hp;have hat:At w (some ⟨go,k,none⟩) (vals.drop k):=by refine .inr ⟨go,k,rfl,λj hj=>?_⟩;rw[List.length_drop]at hj;rw[nS ho (k+j) zo,List.getElem?_drop,List.getElem?_eq_getElem]
 have:=aqb (some ⟨go,k,none⟩) (n-k) (cap-k) (vals.drop k) 151 #[.pointer (some ⟨kb,0,none⟩)] p w (by rw[List.length_drop,hl]) zo hat (enters_of Tryz.func151 zk rfl) (λv hv W hb=>by
  obtain⟨i,hi,rfl⟩:=List.mem_iff_getElem.1 hv;rw[List.getElem_drop];have hi2:k+i<vals.length:=by rw[List.length_drop]at hi;omega
  obtain⟨g,c,e1,e2⟩:=hrow (k+i) hi2;obtain⟨e3,e4⟩:=e2 k hk;rw[hp (k+i) hi2,e1]
  exact alH kb k g n c (f (k+i) k) W (cell_later hb hkb) hk (cell_later hb e3) (cell_later hb e4) (hz _ _ zo hk))
 rw[hpv]at this;exact this
def Bs (w0 w:World)(base n go cap top r l K:Nat)(Z:Int)(k:Nat)(f:Nat->Nat->Int)(last:Int)(t:Bool):Prop:=
 BS w0 w base n go cap top f/\aC w r 46 [ar false,.string ⟨#[]⟩]/\aC w l 46 [ar (aI last),ai (nt last.natAbs)]/\ig n (n-k) k f last/\fq n (n-k) k f last t=Z/\last≠0/\
  ∃Q,Q+1<=2^k* (K+1)/\last.natAbs<2^Q/\∀a b,a<n->b<n->(f a b).natAbs<2^Q
theorem avo (f:Nat->Nat->Int)(k:Nat):cJ f k (k+0)=f:=by
 funext a b;unfold cJ
 simp only[Nat.add_zero];by_cases h:a=k
 . rw[if_pos h,h]
 . rw[if_neg h,if_neg h]
theorem Bs.none {w0 w:World}{base n go cap top r l K k:Nat}{Z:Int}{f:Nat->Nat->Int}{last:Int}{t:Bool}(h:Bs w0 w base n go cap top r l K Z k f last t)(hk:k<n)(hp:rL f n k=none):Z=0:=by obtain⟨_,_,_,_,h2,_⟩:=h;rw[show n-k=n-(k+1)+1 by omega]at h2;unfold fq at h2;rw[hp]at h2;exact h2.symm
theorem Bs.some {w0 w:World}{base n go cap top r l K k m:Nat}{Z:Int}{f:Nat->Nat->Int}{last:Int}{t:Bool}(h:Bs w0 w base n go cap top r l K Z k f last t)(hk:k<n)(hp:rL f n k=some m):
 ∃g,g=cJ f k (k+m)/\g k k≠0/\(∀a b,k<a->a<n->k<b->b<n->last∣cO g k a b)/\ig n (n-(k+1)) (k+1) (dX g k last) (g k k)/\fq n (n-(k+1)) (k+1) (dX g k last) (g k k) (t !=decide (0<m))=Z/\
  ∃Q,2*Q+2<=2^(k+1) * (K+1)/\last.natAbs<2^Q/\(∀a b,a<n->b<n->(g a b).natAbs<2^Q)/\(g k k).natAbs<2^(2*Q+1)/\∀a b,a<n->b<n->(dX g k last a b).natAbs<2^(2*Q+1):=by
 obtain⟨_,_,_,h1,h2,h3,Q,hQ,hl,hf⟩:=h;have Il:=mM hp;rw[show n-k=n-(k+1)+1 by omega]at h1 h2;unfold ig at h1;unfold fq at h2;rw[hp]at h1 h2;simp only at h1 h2;obtain⟨g,hg⟩:∃g,g=cJ f k (k+m):=⟨_,rfl⟩;rw[<-hg]at h1 h2;have ju:∀a b,a<n->b<n->(g a b).natAbs<2^Q:=by
  intro a b ha hb;rw[hg];unfold cJ;refine hf _ _ ?_ hb;split
  . omega
  . split
    . omega
    . exact ha
 have Gt:2^Q<=2^(2*Q+1):=Nat.pow_le_pow_right zd zo;refine⟨g,hg,?_,h1.1,h1.2,h2,Q,?_,hl,ju,Nat.lt_of_lt_of_le (ju k k hk hk) Gt,λa b ha hb=>?_⟩
 . rw[hg];unfold cJ;rw[if_pos rfl];exact Il.2
 . rw[Nat.pow_succ];have:2^k*2* (K+1)=2* (2^k* (K+1)):=by rw[Nat.mul_comm (2^k) 2,Nat.mul_assoc]
   omega
 . unfold dX;split
   . rename_i h4
     have h5:=(UV g k a b Q (ju a b ha hb) (ju k k hk hk) (ju a k ha hk) (ju k b hk hb)).2.2;rcases div_lt _ last _ h5 with h6|h6
     . exact h6
     . exact absurd (h1.1 a b h4.1 ha h4.2 hb) h6
   . exact Nat.lt_of_lt_of_le (ju a b ha hb) Gt
theorem Bs.next {w0 w:World}{base n go cap top r l kb K k:Nat}{Z:Int}{f g:Nat->Nat->Int}{x:Int}{t:Bool}(h:BT w0 w base n go cap top f r l kb x k)(hf:∀a b,a<n->b<n->f a b=g a b)(hx:x≠0)(h1:ig n (n-(k+1)) (k+1) g x)(h2:fq n (n-(k+1)) (k+1) g x t=Z)
 (h3:∃Q,Q+1<=2^(k+1) * (K+1)/\x.natAbs<2^Q/\∀a b,a<n->b<n->(g a b).natAbs<2^Q):Bs w0 w base n go cap top r l K Z (k+1) g x t:=
 ⟨(h.congr hf).1,h.2.1,h.2.2.1,h1,h2,hx,h3⟩
def KD (a0:Act)(w0:World)(cs:List (Addr×Value))(x1 x2 x3 x4 P1 P2 N:Int)(dn:Nat->Bool)(a:Act)(w:World):Prop:=
 ∃v1 v2 v3 v4 v5 v6:Value,a=(((((a0.put (some 76) v1).put (some 77) v2).put (some 92) v3).put (some 93) v4).put (some 94) v5).put (some 10) v6/\kg cs w/\Bw w0 w/\
  (dn 14=true->∃b,v1=.slice (some ⟨b,0,none⟩) 2 2/\aC w b 46 [ar (aI x1),ai (nt x1.natAbs),ar (aI x2),ai (nt x2.natAbs)])/\(dn 15=true->v2=dt P1)/\
  (dn 30=true->∃b,v3=.slice (some ⟨b,0,none⟩) 2 2/\aC w b 46 [ar (aI x3),ai (nt x3.natAbs),ar (aI x4),ai (nt x4.natAbs)])/\(dn 31=true->v4=dt P2)/\(dn 32=true->v5=dt N)/\
  (dn 33=true->∃b,v6=.pointer (some ⟨b,0,none⟩)/\w0.heap.size<=b/\aC w b 46 [ar false,.string ⟨#[]⟩])
theorem KD.init (a:Act)(w0 w:World)(cs:List (Addr×Value))(x1 x2 x3 x4 P1 P2 N:Int)(hk:kg cs w)(hb:Bw w0 w):KD a w0 cs x1 x2 x3 x4 P1 P2 N (λ_=>false) a w:=
 ⟨a.tmps.getD 76 undef,a.tmps.getD 77 undef,a.tmps.getD 92 undef,a.tmps.getD 93 undef,a.tmps.getD 94 undef,a.tmps.getD 10 undef,by rw[Ej,Ej,Ej,Ej,Ej,Ej],hk,hb,(λh=>by cases h),(λh=>by cases h),(λh=>by cases h),(λh=>by cases h),(λh=>by cases h),(λh=>by cases h)⟩
theorem alI (base n K:Nat)(f:Nat->Nat->Int)(v:Value)(w:World)(hn:1<=n)(dv:n<=4)(hO:jW w base n (fg f n) n v)(bW:base<=w.heap.size)(Dg:1<=K)(hK:∀a b,a<n->b<n->(f a b).natAbs<2^K)(hK2:K<=100000000):
 Calls Tryz.prog 113 #[v] w λe w'=>e=.returned (dt (fq n n 0 f 1 false))/\Below base w w':=by
 obtain⟨go,cap,rfl,hcap,hbs⟩:=BS.begin hO hn;obtain⟨Z,hZ⟩:=aK (fq n n 0 f 1 false);have hex:=aaq n hn dv f;have hsz:∀k Q:Nat,k<=n->Q+1<=2^k* (K+1)->Q<=1800000000:=by intro k Q h1 h2;have h3:2^k<=2^4:=Nat.pow_le_pow_right zd zo;have h4:=Nat.mul_le_mul_right (K+1) h3;omega
 rw[hZ];obtain⟨Xt,HZ,XF,tA,HK⟩:=fU hbs hZ hex hsz hK;clear hO hbs hZ hex hsz hK;have Hb:Hid (Bw w w):=Below.refl _ _;go_enter Tryz.func113,Tryz.ntmps113;go_wp2_with fail;obtain⟨R,hR⟩:∃R:World->Prop,(λW=>aC W (w.heap.size) 46 [ar false,.string ⟨#[]⟩]/\Bw w W)=R:=⟨_,rfl⟩;first|refine cj R ?hR ?_|refine cu R ?hR ?_
 case hR=>subst hR;exact⟨(aC.newAt w _ _ (b:=w.heap.size) rfl),zl⟩
 subst hR;rintro W ⟨qr,ag⟩;have Hr:=aj qr;clear qr;obtain⟨r0,au,r1,az⟩:=Hr.out.g2;replace Hb:=aF Hb ag;clear ag;go_wp2_with fail;refine(Wm 1 _ zd zd).mono ?_;rintro e w1 ⟨rfl,ag⟩;clear r0 au r1 az;obtain⟨Hr,r0,au,r1,az⟩:=bE Hr ag;replace Hb:=aF Hb ag;clear ag;have xq:=Hr.out.lt;obtain⟨W2,nk,ag,Hl⟩:=cF w1 46 [ar (aI 1),ai (nt 1)];clear r0 au r1 az;obtain⟨Hr,r0,au,r1,az⟩:=bE Hr ag;obtain⟨l0,tN,l1,tO⟩:=Hl.out.g2;replace Hb:=aF Hb ag;clear ag;have WF:=aj (Xt.out.below Hb.out zo);have apC:w.heap.size<w1.heap.size:=xq;have hq0:=Hr.out;have hq1:=Hl.out;clear r0 r1 au az l0 l1 tN tO;have hst:Bs w W2 base n go cap w.heap.size w.heap.size w1.heap.size K Z 0 f 1 false:=⟨WF.out,hq0,hq1,XF.out,HZ.out,by decide,K,by omega,by rw[show(1:Int).natAbs=1 from rfl];exact Nat.one_lt_two_pow zo,HK.out⟩;clear hq0 hq1;have cB:=aj hst;have szW:=Hb.out.size;clear hst WF Hb Hr Hl Xt HK XF HZ;go_wp2_with fail;go_loopw[5,15] (λs5 x wr=>∃(k:Nat) (f':Nat->Nat->Int) (last:Int) (t:Bool),k<=n/\x=ah (k:Int)/\s5=ar t/\Bs w wr base n go cap w.heap.size w.heap.size w1.heap.size K Z k f' last t) (λ_ x _=>n-(intOf x).toNat);case atStart=>exact⟨0,f,1,false,Nat.zero_le _,rfl,rfl,cB.out⟩
 case round=>
  clear cB;obtain⟨k,f',last,t,hk,rfl,rfl,hS⟩:=hrel;obtain⟨wk,hwk⟩:∃wk,wk=wr:=⟨_,rfl⟩;subst hwk;by_cases hlt:k<n
  . obtain⟨Q0,hQ0,_,hQf⟩:=hS.2.2.2.2.2.2;have fP:=tA.out k Q0 hk hQ0;have hlen:∀a b,a<n->b<n->(nt (f' a b).natAbs).length<=1099511627776:=λa b ha hb=>kR (hQf a b ha hb) zo;have hkc:k<cap:=by omega
    obtain⟨HS,lT⟩:=aZ hS hlen;have zE:=hS.1.2.2.2;clear hS hQ0 hQf fP hlen;have Hb:Hid (Bw wk wk):=Below.refl _ _;obtain⟨Hr,Hl⟩:=aZ HS.out.2.1 HS.out.2.2.1;obtain⟨r0,au,r1,az⟩:=Hr.out.g2;obtain⟨l0,tN,l1,tO⟩:=Hl.out.g2;have IZ:=Hr.out.lt;have ari:=Hl.out.lt;obtain⟨W3,Dl,ag,pH⟩:=cF wk 3 [ah (k:Int)];clear r0 au r1 az;replace Hr:=kB Hr ag;clear l0 tN l1 tO;obtain⟨Hl,l0,tN,l1,tO⟩:=bE Hl ag;obtain⟨r0,au,r1,az⟩:=Hr.out.g2;have eT:=pH.out.c1;replace Hb:=aF Hb ag;clear ag;have kZ:=aj (HS.out.1.below Hb.out zo);go_wp2_with fail;refine(kZ.out.index k wk.heap.size hlt zo eT lT.out).mono ?_;rintro e w4 ⟨rfl,ag⟩;clear r0 au r1 az l0 tN l1 tO eT;obtain⟨Hr,r0,au,r1,az⟩:=bE Hr ag;obtain⟨Hl,l0,tN,l1,tO⟩:=bE Hl ag;replace pH:=kB pH ag;have eT:=pH.out.c1;replace Hb:=aF Hb ag;clear ag;cases hp:rL f' n k with
    | none=>
      have hpv:Jf f' n k= -1:=by unfold Jf;rw[hp]
      have hz:=HS.out.none hlt hp;rw[hpv];have Hbb:=aj (HS.out.1.2.2.1.trans (Hb.out.mono zo));clear HS lT kZ hp;go_wp2;refine bodyPost_ret (v:=.agg #[ar false,.string ⟨#[]⟩]) (by simp[results,Tryz.results113,go_sem,r0,r1]) rfl ⟨by rw[hz];rfl,?_⟩;exact(Hbb.out.setCell zp _).setCell zp _
    | some m=>
      have hpv:Jf f' n k=(m:Int):=by unfold Jf;rw[hp]
      rw[hpv];obtain⟨oU,_⟩:=mM hp;obtain⟨g,hg,jv,oP,acn,ab6,Q,hQ,GU,ju,acA,adz⟩:=HS.out.some hlt hp;have hl0:=HS.out.2.2.2.2.2.1;have jY:BT w w4 base n go cap w.heap.size f' w.heap.size w1.heap.size wk.heap.size last k:=⟨HS.out.1.below Hb.out zo,Hr.out,Hl.out,pH.out,by omega,Nat.le_refl _,by omega,by omega⟩;obtain⟨pD,Hdv,XG,Xq,HQ,XZ,XO,XQ,YD,Hg,xQ,rR⟩:=gy jY oP acn ab6 hQ GU ju acA adz hg jv hl0;clear jY oP acn ab6 hQ GU ju acA adz hg jv hl0 hpv hp HS lT kZ Hb Hr Hl pH r0 r1 au az l0 l1 tN tO eT;have hm0:¬(m:Int)<0:=by omega
      go_upto_if 27 with fail
      go_cut[5] (λs5 wx=>s5=ar (t !=decide (0<m))/\BT w wx base n go cap w.heap.size g w.heap.size w1.heap.size wk.heap.size last k);case first=>
       by_cases hm:0<m
       . have xe:(0:Int)<(m:Int):=by omega
         obtain⟨g1,c1,g2,c2,e1,e2,e3,hsw⟩:=pD.out.swap k (k+m) hlt zo;rw[<-Hg.out]at hsw;have Qk:=aj hsw;have sw:=DU n cap k (k:Int) (rfl:(some ⟨go,0,none⟩:Option Addr)=_) hlt rfl;have yH:=DU n cap (k+m) ((k+m:Nat):Int) (rfl:(some ⟨go,0,none⟩:Option Addr)=_) zo rfl;rw[Nat.zero_add,Nat.mul_one]at sw yH;have hwm:IntKind.i64.wrap ((k:Int)+(m:Int))=((k+m:Nat):Int):=by rw[IntKind.wrap_i64];omega
         obtain⟨km,xd⟩:=aK (k+m);rw[xd]at e2 yH hwm Qk;have pH:=aj pD.out.2.2.2.1;have Qy:Hid (bY w4 go k [.slice (some ⟨g1,0,none⟩) n c1]):=λj hj=>by
          obtain rfl:j=0:=by simp at hj;omega
          exact e1
         have Qz:Hid (bY w4 go km [.slice (some ⟨g2,0,none⟩) n c2]):=λj hj=>by
          obtain rfl:j=0:=by simp at hj;omega
          exact e2
         have z1:w4.drew.frozen? ⟨go,k,none⟩=false:=e3 k;have z2:w4.drew.frozen? ⟨go,km,none⟩=false:=e3 km;have z3:w4.frozen? ⟨go,km,none⟩=false:=e3 km;have y2:(w4.setCell ⟨go,k,none⟩ (.slice (some ⟨g2,0,none⟩) n c2)).cell? ⟨go,km,none⟩=some (.slice (some ⟨g2,0,none⟩) n c2):=aU (.inr zp) e2;have Hkm:=aj xd;clear hsw e1 e2 e3 xd;go_wp2_with fail;have eT:=pH.out.c1;have xa0:=Qy.out.w1;have xb0:=Qz.out.w1;have hgo:go<wk.heap.size:=by have:=pD.out.1.2.1.1;omega
         refine Oq (λw'=>aH w' (wk.heap.size) 0 (ah (k:Int))) (λi=>Nat.blt i 19) (.rd 0 (.rd 1 (.rd 2 (.rd 3 (.rd 4 (.rd 5 (.rd 6 (.rd 7 (.rd 8 (.rd 9 (.rd 10 (.rd 12 (.rd 13 (.rd 14 (.br 11 15 (.lin [(15,false),(16,true),(17,false),(18,false),(19,false)]) (.lin [(11,false),(16,true),(17,false),(18,false),(19,false)])))))))))))))))) zk zk rfl zk zc eT ?_;iterate 14 (refine NK rfl rfl (v:=?_) (λw' hw'=>?_) ?_;rotate_left;(focus go_simp;try with_reducible rfl))
         refine Ji rfl rfl rfl rfl rfl rfl  (λK hK=>?_) (λK hK=>?_) 
         . go_simp;refine hK _ _ (by first|exact λ_=>eT|exact λ_=>ie zg eT) ?_;clear hK K
           refine xA ?_;refine aW rfl rfl (λK hK=>?_);go_simp;refine hK _ _ (by first|exact λh=>absurd h zd|exact λ_=>eT|exact λ_=>ie zg eT) ?_;clear hK K
           refine pT rfl rfl ?_
           refine aW rfl rfl (λK hK=>?_);go_simp;refine hK _ _ (by first|exact λh=>absurd h zd|exact λ_=>eT|exact λ_=>ie zg eT) ?_;clear hK K
           refine aW rfl rfl (λK hK=>?_);go_simp;refine hK _ _ (by first|exact λh=>absurd h zd|exact λ_=>eT|exact λ_=>ie zg eT) ?_;clear hK K
           refine aW rfl rfl (λK hK=>?_);go_simp;refine hK _ _ (by first|exact λh=>absurd h zd|exact λ_=>eT|exact λ_=>ie zg eT) ?_;clear hK K
           simp only[bD];go_wp2_with fail;go_meet;exact⟨by simp[hm],Qk.out.drew⟩
         . go_simp;refine hK _ _ (by first|exact λ_=>eT|exact λ_=>ie zg eT) ?_;clear hK K
           refine xA ?_;refine aW rfl rfl (λK hK=>?_);go_simp;refine hK _ _ (by first|exact λh=>absurd h zd|exact λ_=>eT|exact λ_=>ie zg eT) ?_;clear hK K
           refine pT rfl rfl ?_
           refine aW rfl rfl (λK hK=>?_);go_simp;refine hK _ _ (by first|exact λh=>absurd h zd|exact λ_=>eT|exact λ_=>ie zg eT) ?_;clear hK K
           refine aW rfl rfl (λK hK=>?_);go_simp;refine hK _ _ (by first|exact λh=>absurd h zd|exact λ_=>eT|exact λ_=>ie zg eT) ?_;clear hK K
           refine aW rfl rfl (λK hK=>?_);go_simp;refine hK _ _ (by first|exact λh=>absurd h zd|exact λ_=>eT|exact λ_=>ie zg eT) ?_;clear hK K
           simp only[bD];go_wp2_with fail;go_meet;exact⟨by simp[hm],Qk.out.drew⟩
       . have hm2:¬(0:Int)<(m:Int):=by omega
         obtain rfl:m=0:=by omega
         go_wp2_with fail;go_meet;refine⟨by simp,?_⟩;rw[Hg.out,avo];exact pD.out
      case rest=>
       obtain⟨rfl,jY⟩:=hcut;have pD:=aj jY;have fP:=tA.out (k+1) (2*Q+1) zo (by have:=HQ.out;omega);clear jY;have eT:wc.cell? ⟨wk.heap.size,0,none⟩=some (ah (k:Int)):=pD.out.2.2.2.1.cell 0;go_wp2_with fail;go_loopw[8] (λx wr=>∃i:Nat,k<i/\i<=n/\x=ah (i:Int)/\BT w wr base n go cap w.heap.size (lJ g k last i (k+1)) w.heap.size w1.heap.size wk.heap.size last k) (λx _=>n-(intOf x).toNat);case atStart=>exact⟨k+1,by omega,by omega,by go_num,by rw[asY];exact pD.out⟩
       case round=>
        clear eT pD;obtain⟨i,GQ,hin,rfl,hT⟩:=hrel;have EL:=aj hT;clear hT;have eT:wr.cell? ⟨wk.heap.size,0,none⟩=some (ah (k:Int)):=EL.out.2.2.2.1.cell 0;by_cases bM:i<n
        . obtain⟨wi,Ud⟩:∃wi,wi=wr:=⟨_,rfl⟩;subst Ud;go_wp2_with fail;go_loopw[9] (λx wr=>∃j:Nat,k<j/\j<=n/\x=ah (j:Int)/\BT w wr base n go cap w.heap.size (lJ g k last i j) w.heap.size w1.heap.size wk.heap.size last k) (λx _=>n-(intOf x).toNat);case atStart=>exact⟨k+1,by omega,by omega,by go_num,EL.out⟩
          case round=>
           clear eT EL;obtain⟨j,hkj,hjn,rfl,hT⟩:=hrel;by_cases gL:j<n
           . have Ce:=aj hT;clear hT;obtain⟨gi,ci,li,ti,ei,ri,_⟩:=Ce.out.row i bM;obtain⟨gk,ck,lk,tk,ek,rk,_⟩:=Ce.out.row k hlt;obtain⟨p1,p2,p3,p4⟩:=asV g k last i j;obtain⟨aa,KJ⟩:=ri j gL;obtain⟨ab,KN⟩:=rk k hlt;obtain⟨ac,KP⟩:=ri k hlt;obtain⟨ad,KQ⟩:=rk j gL;rw[p1]at aa KJ;rw[p2]at ab KN;rw[p3]at ac KP;rw[p4]at ad KQ;have ju:=XO.out;have q1:=ju i j bM gL;have q2:=ju k k hlt hlt;have q3:=ju i k bM hlt;have q4:=ju k j hlt gL;obtain⟨m1,m2,m3⟩:=UV g k i j Q q1 q2 q3 q4;have oP:=Hdv.out i j GQ bM hkj gL;have Bb:=fun a b=>congrFun (congrFun (asW g k last i j GQ hkj) a) b;have hN:g i j*g k k-g i k*g k j=cO g k i j:=rfl;generalize cO g k i j=N at*;obtain⟨x1,hx1⟩:∃x,g i j=x:=⟨_,rfl⟩;obtain⟨x2,hx2⟩:∃x,g k k=x:=⟨_,rfl⟩;obtain⟨x3,hx3⟩:∃x,g i k=x:=⟨_,rfl⟩;obtain⟨x4,IK⟩:∃x,g k j=x:=⟨_,rfl⟩;rw[hx1]at q1 m1 hN aa KJ;rw[hx2]at q2 m1 hN ab KN;rw[hx3]at q3 m2 hN ac KP;rw[IK]at q4 m2 hN ad KQ;obtain⟨P1,Sj⟩:∃x,x1*x2=x:=⟨_,rfl⟩;obtain⟨P2,tV⟩:∃x,x3*x4=x:=⟨_,rfl⟩;rw[Sj]at m1 hN;rw[tV]at m2 hN;have L1:(nt x1.natAbs).length<=17179869184:=kR q1 zo;have L2:(nt x2.natAbs).length<=17179869184:=kR q2 zo;have L3:(nt x3.natAbs).length<=17179869184:=kR q3 zo;have L4:(nt x4.natAbs).length<=17179869184:=kR q4 zo;have L5:(nt P1.natAbs).length<=34359738368:=kR m1 zo;have L6:(nt P2.natAbs).length<=34359738368:=kR m2 zo;have L7:(nt N.natAbs).length<=34359738368:=kR m3 zo;have L8:(nt last.natAbs).length<=34359738368:=kR XZ.out zo;obtain⟨gW,WL,EE,WM,WN,WO,WP,WQ,WU,WV,HN,Ck⟩:=gy L1 L2 L3 L4 L5 L6 L7 L8 Sj tV hN oP;have Yj:=aj Bb;clear L1 L2 L3 L4 L5 L6 L7 L8 Sj tV hN oP Bb q1 q2 q3 q4 m1 m2 m3 hx1 hx2 hx3 IK ju p1 p2 p3 p4 ri rk;have JJ:∀(b o:Nat) (u v:Value),wr.cell? ⟨b,o,none⟩=some u->wr.cell? ⟨b,o+1,none⟩=some v->bY wr b o [u,v]:=by
              intro b o u v h1 h2 j hj;rcases j with _|_|j
              . exact h1
              . exact h2
              . simp at hj;omega
             have Wt:∀(b o:Nat) (u:Value),wr.cell? ⟨b,o,none⟩=some u->bY wr b o [u]:=by
              intro b o u h1 j hj;obtain rfl:j=0:=by simp at hj;omega
              exact h1
             obtain⟨pH,yc,Fz,xO,qJ,OE,qK⟩:=lG Ce.out.2.2.2.1 (Wt _ _ _ ei) (Wt _ _ _ ek) (JJ _ _ _ _ aa KJ) (JJ _ _ _ _ ab KN) (JJ _ _ _ _ ac KP) (JJ _ _ _ _ ad KQ);clear Wt JJ ei ek aa KJ ab KN ac KP ad KQ;have ixi:=DU n cap i (i:Int) (rfl:(some ⟨go,0,none⟩:Option Addr)=_) bM rfl;have ixk:=DU n cap k (k:Int) (rfl:(some ⟨go,0,none⟩:Option Addr)=_) hlt rfl;rw[Nat.zero_add,Nat.mul_one]at ixi ixk;have Nh:=xm n ci j (j:Int) (rfl:(some ⟨gi,0,none⟩:Option Addr)=_) gL rfl;have iik:=xm n ci k (k:Int) (rfl:(some ⟨gi,0,none⟩:Option Addr)=_) hlt rfl;have ikj:=xm n ck j (j:Int) (rfl:(some ⟨gk,0,none⟩:Option Addr)=_) gL rfl;have ikk:=xm n ck k (k:Int) (rfl:(some ⟨gk,0,none⟩:Option Addr)=_) hlt rfl;rw[Nat.zero_add]at Nh iik ikj ikk;go_upto_region 18 with fail
             go_cut[10] (λpn wx=>∃b:Nat,pn=.pointer (some ⟨b,0,none⟩)/\aC wx b 46 [ar (aI N),ai (nt N.natAbs)]/\Bw wr wx);case first=>
              clear XO HQ XZ XQ YD Hg Xq XG Yj Ck xQ Ce;obtain⟨w0,hw0⟩:∃w0,w0=w:=⟨_,rfl⟩;subst hw0;obtain⟨w,IJ⟩:∃w,w=wr:=⟨_,rfl⟩;subst IJ;have Hb:Hid (Bw w w):=Below.refl _ _;have eT:=pH.out.c1;have uD:=yc.out.w1;have zH:=Fz.out.w1;obtain⟨KL,KM⟩:=xO.out.w2;obtain⟨yf,yg⟩:=qJ.out.w2;obtain⟨ac0,ac1⟩:=OE.out.w2;obtain⟨ad0,ad1⟩:=qK.out.w2;obtain⟨cs,hcs⟩:∃cs:List (Addr×Value),[(⟨wk.heap.size,0,none⟩,ah (k:Int)),(⟨go,i,none⟩,.slice (some ⟨gi,0,none⟩) n ci),(⟨go,k,none⟩,.slice (some ⟨gk,0,none⟩) n ck),(⟨gi,j*2,none⟩,ar (aI x1)),(⟨gi,j*2+1,none⟩,ai (nt x1.natAbs)),(⟨gk,k*2,none⟩,ar (aI x2)),(⟨gk,k*2+1,none⟩,ai (nt x2.natAbs)),(⟨gi,k*2,none⟩,ar (aI x3)),(⟨gi,k*2+1,none⟩,ai (nt x3.natAbs)),(⟨gk,j*2,none⟩,ar (aI x4)),(⟨gk,j*2+1,none⟩,ai (nt x4.natAbs))]=cs:=⟨_,rfl⟩;have fE:∀w',kg cs w'->aH w' (wk.heap.size) 0 (ah (k:Int))/\aH w' go i (.slice (some ⟨gi,0,none⟩) n ci)/\aH w' go k (.slice (some ⟨gk,0,none⟩) n ck)/\aH w' gi (j*2) (ar (aI x1))/\aH w' gi (j*2+1) (ai (nt x1.natAbs))/\aH w' gk (k*2) (ar (aI x2))/\aH w' gk (k*2+1) (ai (nt x2.natAbs))/\aH w' gi (k*2) (ar (aI x3))/\aH w' gi (k*2+1) (ai (nt x3.natAbs))/\aH w' gk (j*2) (ar (aI x4))/\aH w' gk (j*2+1) (ai (nt x4.natAbs)):=by subst hcs;intro w' h;exact⟨h.hd,h.tl.hd,h.tl.tl.hd,h.tl.tl.tl.hd,h.tl.tl.tl.tl.hd,h.tl.tl.tl.tl.tl.hd,h.tl.tl.tl.tl.tl.tl.hd,h.tl.tl.tl.tl.tl.tl.tl.hd,h.tl.tl.tl.tl.tl.tl.tl.tl.hd,h.tl.tl.tl.tl.tl.tl.tl.tl.tl.hd,h.tl.tl.tl.tl.tl.tl.tl.tl.tl.tl.hd⟩
              have bu:Hid (kg cs w):=by subst hcs;show kg _ _;intro p hp;simp only[List.mem_cons,List.not_mem_nil,or_false]at hp;rcases hp with rfl|rfl|rfl|rfl|rfl|rfl|rfl|rfl|rfl|rfl|rfl<;>assumption
              refine aww (λw'=>kg cs w') (λi=>Nat.blt i 34) [14,15,30,31,32,33] (λk=>if k=15 then[14]else if k=31 then[15,30]else if k=32 then[15,31]else[]) [(34,false)] [0,1,2,3,4,5,6,7,8,9,10,11,12,13,16,17,18,19,20,21,22,23,24,25,26,27,28,29] zk zk rfl zk zc bu.out.drew ?_;iterate 28 (refine ata rfl rfl (v:=?_) (λw' hw'=>?_) ?_;rotate_left;(focus have hw':=fE w' hw';obtain⟨q0,q1,q2,q3,q4,q5,q6,q7,q8,q9,zz⟩:=hw';go_simp;try with_reducible rfl))
              clear eT uD zH KL KM yf yg ac0 ac1 ad0 ad1 pH yc Fz xO qJ OE qK fE hcs;refine as9 (λa0=>KD a0 w cs x1 x2 x3 x4 P1 P2 N) (KD.init _ _ _ _ _ _ _ _ _ _ _ bu.out.drew (Below.refl _ _).drew) ?_ ?_ ?_
              . rintro dn a' w' ⟨_,_,_,_,_,_,_,h,_⟩;exact h
              . intro k0 mB dn a' w' _ hD hI;obtain⟨v1,v2,v3,v4,v5,v6,rfl,wN,lw,f1,f2,f3,f4,f5,f6⟩:=hI;simp only[List.mem_cons,List.not_mem_nil,or_false]at mB;rcases mB with rfl|rfl|rfl|rfl|rfl|rfl
                . have Dg:=wN.alloc (.cells #[ar (aI x1),ai (nt x1.natAbs),ar (aI x2),ai (nt x2.natAbs)] 46);have hal:=(Below.refl w'.heap.size w').alloc (Nat.le_refl _) (.cells #[ar (aI x1),ai (nt x1.natAbs),ar (aI x2),ai (nt x2.natAbs)] 46);refine Ed rfl rfl (λK hK=>?_);clear f1;simp only[Act.put,U1,U2,U3];go_simp;refine hK _ _ ⟨.slice (some ⟨w'.heap.size,0,none⟩) 2 2,v2,v3,v4,v5,v6,by simp only[Act.put,U1,U2,U3],Dg,aV lw hal,λ_=>⟨_,rfl,aC.new _ _ _⟩,λh=>f2 (by simpa using h),λh=>?_,λh=>f4 (by simpa using h),λh=>f5 (by simpa using h),λh=>?_⟩
                  . obtain⟨b,e,q⟩:=f3 (by simpa using h);exact⟨b,e,q.below hal⟩
                  . obtain⟨b,e,hb,q⟩:=f6 (by simpa using h);exact⟨b,e,hb,q.below hal⟩
                . obtain⟨b,rfl,q⟩:=f1 (hD 14 zm);refine Ed rfl rfl (λK hK=>?_);clear f1;simp only[Act.put,U1,U2,U3];go_simp;with_reducible refine(agz x1 x2 P1 WU.out b 2 _ _ gW.out WL.out q).mono ?_
                  rintro e w2 ⟨rfl,hq⟩;refine hK _ _ ⟨_,dt P1,v3,v4,v5,v6,by simp only[Act.put,U1,U2,U3],wN.below hq,aV lw hq,λ_=>⟨b,rfl,q.below hq⟩,λ_=>rfl,λh=>?_,λh=>f4 (by simpa using h),λh=>f5 (by simpa using h),λh=>?_⟩
                  . obtain⟨b,e,q⟩:=f3 (by simpa using h);exact⟨b,e,q.below hq⟩
                  . obtain⟨b,e,hb,q⟩:=f6 (by simpa using h);exact⟨b,e,hb,q.below hq⟩
                . have Dg:=wN.alloc (.cells #[ar (aI x3),ai (nt x3.natAbs),ar (aI x4),ai (nt x4.natAbs)] 46);have hal:=(Below.refl w'.heap.size w').alloc (Nat.le_refl _) (.cells #[ar (aI x3),ai (nt x3.natAbs),ar (aI x4),ai (nt x4.natAbs)] 46);refine Ed rfl rfl (λK hK=>?_);clear f3;simp only[Act.put,U1,U2,U3];go_simp;refine hK _ _ ⟨v1,v2,.slice (some ⟨w'.heap.size,0,none⟩) 2 2,v4,v5,v6,by simp only[Act.put,U1,U2,U3],Dg,aV lw hal,λh=>?_,λh=>f2 (by simpa using h),λ_=>⟨_,rfl,aC.new _ _ _⟩,λh=>f4 (by simpa using h),λh=>f5 (by simpa using h),λh=>?_⟩
                  . obtain⟨b,e,q⟩:=f1 (by simpa using h);exact⟨b,e,q.below hal⟩
                  . obtain⟨b,e,hb,q⟩:=f6 (by simpa using h);exact⟨b,e,hb,q.below hal⟩
                . obtain⟨b,rfl,q⟩:=f3 (hD 30 zm);obtain rfl:=f2 (hD 15 zm);refine Ed rfl rfl (λK hK=>?_);clear f3;simp only[Act.put,U1,U2,U3];go_simp;with_reducible refine(agz x3 x4 P2 WV.out b 2 _ _ EE.out WM.out q).mono ?_
                  rintro e w2 ⟨rfl,hq⟩;refine hK _ _ ⟨v1,dt P1,.slice (some ⟨b,0,none⟩) 2 2,dt P2,v5,v6,by simp only[Act.put,U1,U2,U3],wN.below hq,aV lw hq,λh=>?_,λ_=>rfl,λ_=>⟨b,rfl,q.below hq⟩,λ_=>rfl,λh=>f5 (by simpa using h),λh=>?_⟩
                  . obtain⟨b,e,q⟩:=f1 (by simpa using h);exact⟨b,e,q.below hq⟩
                  . obtain⟨b,e,hb,q⟩:=f6 (by simpa using h);exact⟨b,e,hb,q.below hq⟩
                . obtain rfl:=f2 (hD 15 zm);obtain rfl:=f4 (hD 31 zm);refine Ed rfl rfl (λK hK=>?_);clear f2 f4;simp only[Act.put,U1,U2,U3];go_simp;with_reducible refine(awl P1 P2 N HN.out _ WN.out WO.out).mono ?_
                  rintro e w2 ⟨rfl,hq⟩;refine hK _ _ ⟨v1,_,v3,_,dt N,v6,by simp only[Act.put,U1,U2,U3],wN.below hq,aV lw hq,λh=>?_,λ_=>rfl,λh=>?_,λ_=>rfl,λ_=>rfl,λh=>?_⟩
                  . obtain⟨b,e,q⟩:=f1 (by simpa using h);exact⟨b,e,q.below hq⟩
                  . obtain⟨b,e,q⟩:=f3 (by simpa using h);exact⟨b,e,q.below hq⟩
                  . obtain⟨b,e,hb,q⟩:=f6 (by simpa using h);exact⟨b,e,hb,q.below hq⟩
                . have Dg:=wN.alloc (.cells #[ar false,.string ⟨#[]⟩] 46);have hal:=(Below.refl w'.heap.size w').alloc (Nat.le_refl _) (.cells #[ar false,.string ⟨#[]⟩] 46);refine Ed rfl rfl (λK hK=>?_);clear f6;simp only[Act.put,U1,U2,U3];go_simp;refine hK _ _ ⟨v1,v2,v3,v4,v5,.pointer (some ⟨w'.heap.size,0,none⟩),by simp only[Act.put,U1,U2,U3],Dg,aV lw hal,λh=>?_,λh=>f2 (by simpa using h),λh=>?_,λh=>f4 (by simpa using h),λh=>f5 (by simpa using h),λ_=>⟨_,rfl,lw.size,aC.new _ _ _⟩⟩
                  . obtain⟨b,e,q⟩:=f1 (by simpa using h);exact⟨b,e,q.below hal⟩
                  . obtain⟨b,e,q⟩:=f3 (by simpa using h);exact⟨b,e,q.below hal⟩
              . intro dn a' w' hall hI;obtain⟨v1,v2,v3,v4,v5,v6,rfl,wN,lw,f1,f2,f3,f4,f5,f6⟩:=hI;obtain rfl:=f5 (hall 32 zm);obtain⟨b,rfl,hb,q⟩:=f6 (hall 33 zm);obtain⟨vF,axz,vG,axA⟩:=q.g2;have hQ9:=(q.set 0 (ar (aI N))).set 1 (ai (nt N.natAbs));have hB9:=(lw.sc b 0 hb (ar (aI N))).sc b 1 hb (ai (nt N.natAbs));clear f1 f2 f3 f4 f5 f6;refine aW rfl rfl (λK hK=>?_);simp only[Act.put,U1,U2,U3];go_simp;refine hK _ _ (λh=>absurd h zd) ?_;clear hK K;simp only[bD];go_wp2_with fail;go_meet;exact⟨b,rfl,hQ9,hB9⟩
             case rest=>
              obtain⟨bx,rfl,qx,qb⟩:=hcut;obtain⟨sX,EW⟩:=aZ (Ce.out.below qb) qx;clear qx qb Ce pH yc Fz xO qJ OE qK ixk iik ikj ikk Nh gW WL EE WM WN WO WU WV HN li lk ti tk;obtain⟨g9,c9,lt9,lu9,e9,r9,f9⟩:=sX.out.aBE i bM;have ne9:=sX.out.1.row_ne i bM e9;have nx9:bx≠g9:=by rintro rfl;have h1:=(r9 1 zo).1;rw[EW.out.cell]at h1;simp at h1
              obtain⟨Vr,Vs⟩:=r9 j gL;obtain⟨y,hy⟩:=aK (lJ g k last i j i j);rw[hy]at Vr Vs;have yc:Hid (bY wc go i [.slice (some ⟨g9,0,none⟩) n c9]):=λj hj=>by
               obtain rfl:j=0:=by simp at hj;omega
               exact e9
              have xO:Hid (bY wc g9 (j*2) [ar (aI y),ai (nt y.natAbs)]):=λj' hj=>by
               rcases j' with _|_|j'
               . exact Vr
               . exact Vs
               . simp at hj;omega
              have Hl:=aj sX.out.2.2.1;have Nh:=xm n c9 j (j:Int) (rfl:(some ⟨g9,0,none⟩:Option Addr)=_) gL rfl;rw[Nat.zero_add]at Nh;obtain⟨Dv,RY⟩:=aK (N/last);have hdc:Calls Tryz.prog 152 #[.agg #[ar (aI N),ai (nt N.natAbs)],.agg #[ar (aI last),ai (nt last.natAbs)]] wc.drew λe w'=>∃r,e=.returned (.tuple #[dt Dv,r,ar true])/\(w'.frozen? ⟨g9,j*2,none⟩=false/\w'.frozen? ⟨g9,j*2+1,none⟩=false)/\Below wc.drew.heap.size wc.drew w':=
               (awf N last wc.drew WP.out WQ.out rR.out Ck.out).mono (λe w' ⟨r,he,hb⟩=>⟨r,by rw[he,RY],⟨(f9 w' (bo hb)).1 _,(f9 w' (bo hb)).1 _⟩,hb⟩)
              obtain⟨Hf9,qP,Oy⟩:=dc f9 hdc RY;clear Vr Vs hy e9 r9 f9 hdc RY WP WQ Ck;have Hb:Hid (Bw wc wc):=Below.refl _ _;go_wp2_with fail;have uD:=yc.out.w1;obtain⟨KL,KM⟩:=xO.out.w2;obtain⟨vF,vG⟩:=EW.out.c2;obtain⟨l0,l1⟩:=Hl.out.c2;refine cg (λw'=>aH w' go i (.slice (some ⟨g9,0,none⟩) n c9)/\aH w' bx 0 (ar (aI N))/\aH w' bx 1 (ai (nt N.natAbs))/\aH w' (w1.heap.size) 0 (ar (aI last))/\aH w' (w1.heap.size) 1 (ai (nt last.natAbs))) (λi=>Nat.blt i 100000) [(0,true),(1,true),(2,true),(3,true),(4,true),(5,true),(6,true),(7,false),(8,true),(9,true),(10,true),(11,true),(12,true),(13,false)] zk zk rfl zk zc ⟨uD,vF,vG,l0,l1⟩ ?_;iterate 7 (refine pT rfl rfl ?_ (by intro w' ⟨q0,q1,q2,q3,q4⟩;go_simp;try with_reducible rfl))
              refine aW rfl rfl (λK hK=>?_);go_simp;with_reducible refine(qP.out).mono ?_
              rintro e w5 ⟨rr,rfl,⟨z0,z1⟩,hq⟩;have ag:Bw wc w5:=by first|exact hq|exact bo hq
              clear uD KL KM vF vG l0 l1;replace yc:=kW yc ag;replace xO:=kW xO ag;replace EW:=kB EW ag;replace Hl:=kB Hl ag;have uD:=yc.out.w1;obtain⟨KL,KM⟩:=xO.out.w2;obtain⟨vF,vG⟩:=EW.out.c2;obtain⟨l0,l1⟩:=Hl.out.c2;replace Hb:=aF Hb ag;clear ag;refine hK _ _ (λ_=>⟨uD,vF,vG,l0,l1⟩) ?_;clear hK K
              iterate 5 (refine pT rfl rfl ?_)
              refine aW rfl rfl (λK hK=>?_);go_simp;refine hK _ _ (by first|exact λh=>absurd h zd|exact λ_=>⟨uD,vF,vG,l0,l1⟩ |exact λ_=>⟨(by first|exact uD|exact aU zf uD|exact aU zf (aU zf uD) |exact aU zf (aU zf (aU zf uD))),(by first|exact vF|exact aU zf vF|exact aU zf (aU zf vF) |exact aU zf (aU zf (aU zf vF))),(by first|exact vG|exact aU zf vG|exact aU zf (aU zf vG) |exact aU zf (aU zf (aU zf vG))),(by first|exact l0|exact aU zf l0|exact aU zf (aU zf l0) |exact aU zf (aU zf (aU zf l0))),(by first|exact l1|exact aU zf l1|exact aU zf (aU zf l1) |exact aU zf (aU zf (aU zf l1)))⟩) ?_;clear hK K
              simp only[bD];go_wp2;go_roundw;case rel=>have h9:=(Hf9.out w5 Hb.out).2 j gL Dv;rw[<-Oy.out]at h9;exact⟨j+1,by omega,by omega,by go_num,by rw[Oy.out]at h9;exact h9.congr (λa b _ _=>by rw[<-Oy.out];exact Yj.out a b)⟩
              case measure=>simp[intOf];omega
           . obtain rfl:j=n:=by omega
             have HT:=aj hT;clear hT;go_wp2;go_roundw;case rel=>exact⟨i+1,by omega,by omega,by go_num,HT.out.congr (λa b _ hb=>asX g k last i j a b hb)⟩
             case measure=>simp[intOf];omega
        . obtain rfl:i=n:=by omega
          have hT:=EL.out.congr (λa b ha _=>asU g k last i a b ha);obtain⟨gk,ck,lk,tk,ek,rk,_⟩:=hT.row k hlt;have e1:dX g k last k k=g k k:=by unfold dX;rw[if_neg zo]
          obtain⟨LD,LG⟩:=rk k hlt;rw[e1]at LD LG;obtain⟨x,hx⟩:=aK (g k k);have jv:=xQ.out;have hg2:=XQ.out;have Hn:Hid (∃Q,Q+1<=2^(k+1) * (K+1)/\x.natAbs<2^Q/\∀a b,a<i->b<i->(dX g k last a b).natAbs<2^Q):=⟨2*Q+1,by have:=HQ.out;omega,by rw[<-hx];exact hg2,YD.out⟩;have OX:=XG.out;have OL:=Xq.out;rw[hx]at LD LG jv OX OL;obtain⟨HE2,HBA⟩:=aZ OX OL;have hLK:w1.heap.size<wk.heap.size:=by have:=ari;omega
          obtain⟨EX,Hl⟩:=aZ (hT.setLast x zo zo) hT.2.2.1;have acG:=DU i cap k (k:Int) (rfl:(some ⟨go,0,none⟩:Option Addr)=_) hlt rfl;have apu:=xm i ck k (k:Int) (rfl:(some ⟨gk,0,none⟩:Option Addr)=_) hlt rfl;rw[Nat.zero_add]at acG apu;rw[Nat.mul_one]at acG;have pH:=aj hT.2.2.2.1;have Fz:Hid (bY wr go k [.slice (some ⟨gk,0,none⟩) i ck]):=λj hj=>by
           obtain rfl:j=0:=by simp at hj;omega
           exact ek
          have qJ:Hid (bY wr gk (k*2) [ar (aI x),ai (nt x.natAbs)]):=λj hj=>by
           rcases j with _|_|j
           . exact LD
           . exact LG
           . simp at hj;omega
          have Hhx:=aj hx;clear hT rk ek LD LG e1 hg2 OX OL eT hx EL;go_wp2_with fail;have eT:=pH.out.c1;have zH:=Fz.out.w1;obtain⟨yf,yg⟩:=qJ.out.w2;obtain⟨l0,tN,l1,tO⟩:=Hl.out.g2;refine cg (λw'=>aH w' (wk.heap.size) 0 (ah (k:Int))/\aH w' go k (.slice (some ⟨gk,0,none⟩) i ck)/\aH w' gk (k*2) (ar (aI x))/\aH w' gk (k*2+1) (ai (nt x.natAbs))) (λi=>Nat.blt i 7) [(0,true),(1,true),(2,true),(3,true),(4,true),(5,true),(6,true),(7,false)] zk zk rfl zk zc ⟨eT,zH,yf,yg⟩ ?_;iterate 7 (refine pT rfl rfl ?_ (by intro w' ⟨q0,q1,q2,q3⟩;go_simp;try with_reducible rfl))
          refine aW rfl rfl (λK hK=>?_);go_simp;refine hK _ _ (by first|exact λh=>absurd h zd|exact λ_=>⟨eT,zH,yf,yg⟩ |exact λ_=>⟨(by first|exact eT|exact aU zf eT|exact aU zf (aU zf eT) |exact aU zf (aU zf (aU zf eT))),(by first|exact zH|exact aU zf zH|exact aU zf (aU zf zH) |exact aU zf (aU zf (aU zf zH))),(by first|exact yf|exact aU zf yf|exact aU zf (aU zf yf) |exact aU zf (aU zf (aU zf yf))),(by first|exact yg|exact aU zf yg|exact aU zf (aU zf yg) |exact aU zf (aU zf (aU zf yg)))⟩) ?_;clear hK K
          simp only[bD];go_wp2;go_roundw;case rel=>exact⟨k+1,dX g k last,x,_,by omega,by go_num,rfl,Bs.next EX.out.drew (λ_ _ _ _=>rfl) jv HE2.out HBA.out Hn.out⟩
          case measure=>simp[intOf];omega
  . obtain rfl:k=n:=by omega
    obtain⟨q1,q2,q3,_,q5,_,Q,hQ,GU,_⟩:=hS;have fP:=tA.out k Q (Nat.le_refl _) hQ;have hll:(nt last.natAbs).length<=1099511627776:=kR GU zo;rw[Nat.sub_self]at q5;unfold fq at q5;obtain⟨Hr,Hl,Hq,HZ,Km⟩:=fU q2 q3 q1 q5 hll;clear q1 q2 q3 q5 hQ GU hll fP;have Hb:Hid (Bw wk wk):=Below.refl _ _;obtain⟨r0,au,r1,az⟩:=Hr.out.g2;obtain⟨l0,tN,l1,tO⟩:=Hl.out.g2;have Dn:=Hq.out.2.2.1;cases t with
    | false=>
      have Hz:Hid (last=Z):=by have hz:=HZ.out;simp only[Bool.false_eq_true,if_false]at hz;exact hz
      go_wp2;refine bodyPost_ret (v:=.agg #[ar (aI last),ai (nt last.natAbs)]) (by simp[results,Tryz.results113,go_sem,r0,r1]) rfl ⟨by rw[Hz.out],?_⟩;exact(Dn.setCell zp _).setCell zp _
    | true=>
      have Hz:Hid (-last=Z):=by have hz:=HZ.out;simp only[if_true]at hz;exact hz
      have hneg:∀W,Calls Tryz.prog 114 #[.agg #[ar (aI last),ai (nt last.natAbs)]] W λe w'=>e=.returned (dt (-last))/\Bw W w':=λW=>by have:=agB (aI last) (nt last.natAbs) W Km.out;rw[fT]at this;exact this
      go_wp2_with fail;refine(hneg _).mono ?_;rintro e w4 ⟨rfl,ag⟩;clear r0 au r1 az l0 tN l1 tO;obtain⟨Hr,r0,au,r1,az⟩:=bE Hr ag;obtain⟨Hl,l0,tN,l1,tO⟩:=bE Hl ag;replace Hb:=aF Hb ag;clear ag hneg;go_wp2;refine bodyPost_ret (v:=.agg #[ar (aI (-last)),ai (nt (-last).natAbs)]) (by simp[results,Tryz.results113,go_sem,r0,r1]) rfl ⟨by rw[Hz.out],?_⟩;exact((Dn.trans (Hb.out.mono (by have:=Hq.out.2.2.2;omega))).setCell zp _).setCell zp _
theorem alF (n l k:Nat)(f:Nat->Nat->Int)(last:Int)(t:Bool)(Q:Nat)(hk:k+l=n)(hl:last.natAbs<2^Q)(hf:∀a b,a<n->b<n->(f a b).natAbs<2^Q)(hex:ig n l k f last):(fq n l k f last t).natAbs<2^(2^l* (Q+1)):=by
 induction l generalizing k f last t Q with
 | zero=>
   unfold fq;have h1:2^Q<=2^(2^0* (Q+1)):=Nat.pow_le_pow_right zd zm;split
   . rw[Int.natAbs_neg];omega
   . omega
 | succ l ih=>
   unfold fq;unfold ig at hex;cases hp:rL f n k with
   |none=>exact Nat.pow_pos zd
   | some m=>
     rw[hp]at hex;simp only at hex⊢;have Il:=mM hp;obtain⟨g,hg⟩:∃g,g=cJ f k (k+m):=⟨_,rfl⟩;rw[<-hg]at hex⊢;have hkn:k<n:=by omega
     have ju:∀a b,a<n->b<n->(g a b).natAbs<2^Q:=by
      intro a b ha hb;rw[hg];unfold cJ;refine hf _ _ ?_ hb;split
      . omega
      . split
        . omega
        . exact ha
     have Gt:2^Q<=2^(2*Q+1):=Nat.pow_le_pow_right zd zo;have e:2^(l+1) * (Q+1)=2^l* (2*Q+1+1):=by rw[Nat.pow_succ,Nat.mul_assoc];congr 1
     rw[e];refine ih (k+1) _ _ _ (2*Q+1) zo (Nat.lt_of_lt_of_le (ju k k hkn hkn) Gt) (λa b ha hb=>?_) hex.2;unfold dX;split
     . rename_i h4
       have h5:=(UV g k a b Q (ju a b ha hb) (ju k k hkn hkn) (ju a k ha hkn) (ju k b hkn hb)).2.2;rcases div_lt _ last _ h5 with h6|h6
       . exact h6
       . exact absurd (hex.1 a b h4.1 ha h4.2 hb) h6
     . exact Nat.lt_of_lt_of_le (ju a b ha hb) Gt
def cZ (D:List (List Dyadic))(i j:Nat):Dyadic:=(D.getD i []).getD j 0
theorem avw (D:List (List Dyadic))(n:Nat)(g:Dyadic->Int)(hl:D.length=n)(hr:∀r∈D,r.length=n):(D.map λr=>r.map g)=fg (λi j=>g (cZ D i j)) n:=by
 apply List.ext_getElem
 . simp[fg,hl]
 . intro i h1 h2;have hi:i<D.length:=by simpa using h1
   have hri:=hr _ (List.getElem_mem hi);apply List.ext_getElem
   . simp[fg,hri]
   . intro j h3 h4;have hj:j<D[i].length:=by simpa using h3
     simp[fg,cZ,List.getD_eq_getElem?_getD,hi,hj]
theorem aao {D:List (List Dyadic)}{n i j:Nat}(hl:D.length=n)(hr:∀r∈D,r.length=n)(hi:i<n)(hj:j<n):∃r∈D,cZ D i j∈r:=by
 have h1:i<D.length:=by omega
 have h2:j<D[i].length:=by rw[hr _ (List.getElem_mem h1)];exact hj
 refine⟨D[i],List.getElem_mem h1,?_⟩;have:cZ D i j=D[i][j]:=by simp[cZ,List.getD_eq_getElem?_getD,h1,h2]
 rw[this];exact List.getElem_mem h2
theorem Ro (a:Option Addr)(cap n:Nat)(rows:List (List Raw))(B:Nat)(D:List (List Dyadic))(X:Dyadic)(w:World)(hn:1<=n)(dv:n<=4)(hL:rows.length=n)(hrow:∀r∈rows,r.length=n)(ha:cM w a rows)
 (hfit:∀r∈rows,∀c∈r,Fit B c) (cd:1<=B) (hB:B<=1000000) (hT:aO w) (hD:(rows.map λr=>r.map aM)=D) (hX:ft n (cZ D)=X):
 Calls Tryz.prog 67 #[.slice a n cap] w λe w'=>e=.returned (.tuple #[cP X,ah 0])/\Bw w w':=by
 obtain⟨low,kO⟩:=aK (nK 0 D);have hDl:D.length=n:=by rw[<-hD];simp[hL]
 have LU:∀r∈D,r.length=n:=by intro r hr;rw[<-hD]at hr;obtain⟨x,hx,rfl⟩:=List.mem_map.1 hr;simpa using hrow x hx
 have wM:∀r∈D,∀d∈r,Sm B d:=by intro r hr d hd;rw[<-hD]at hr;obtain⟨x,hx,rfl⟩:=List.mem_map.1 hr;obtain⟨y,hy,rfl⟩:=List.mem_map.1 hd;exact(hfit x hx y hy).2
 have hlo:=Uz 0 D;rw[kO]at hlo;have hlb: -(B:Int)<=low:=by rw[<-kO];exact Uy 0 D _ zo (λr hr d hd=>(wM r hr d hd).parts.2.1)
 obtain⟨f,hf⟩:∃f:Nat->Nat->Int,f=λi j=>sM low (cZ D i j):=⟨_,rfl⟩;have yP:(D.map λr=>r.map (sM low))=fg f n:=by rw[hf];exact avw D n (sM low) hDl LU
 have hK:∀a b,a<n->b<n->(f a b).natAbs<2^(4*B):=by
  intro i j hi hj;obtain⟨r,hr,hm⟩:=aao hDl LU hi hj;obtain⟨s1,s2,s3⟩:=(wM r hr _ hm).parts;rw[hf];show(sM low (cZ D i j)).natAbs<_
  unfold sM;rw[Int.natAbs_mul,Int.natAbs_pow,show 4*B=2*B+2*B by omega,Nat.pow_add];exact Nat.lt_of_lt_of_le (Nat.mul_lt_mul_of_pos_right s1 (Nat.pow_pos zd)) (Nat.mul_le_mul_left _ (Nat.pow_le_pow_right zd zo))
 have hent:∀i j,i<n->j<n->cZ D i j=Dyadic.ofIntWithPrec (f i j) (-low):=by intro i j hi hj;obtain⟨r,hr,hm⟩:=aao hDl LU hi hj;rw[hf];exact(auW low _ (hlo.2 r hr _ hm)).symm
 have pX:=ann n hn dv f (cZ D) (-low) hent;have hex:=aaq n hn dv f;have hzl:=alF n n 0 f 1 false (4*B) zo (Nat.one_lt_two_pow zo) hK hex;obtain⟨z,hz⟩:=aK (fq n n 0 f 1 false);rw[hz]at hzl pX;have adR:(nt z.natAbs).length<=34359738368:=by refine kR hzl ?_;have:2^n<=2^4:=Nat.pow_le_pow_right zd dv;have:=Nat.mul_le_mul_right (4*B+1) this;omega
 obtain⟨e,he⟩:∃e:Int,low*n=e:=⟨_,rfl⟩;have heb: -4000000<=e/\e<=4000000:=by
  have hl0:=hlo.1;have hc:n=1\/n=2\/n=3\/n=4:=by omega
  rcases hc with rfl|rfl|rfl|rfl<;>omega
 have oP:aM (aI z,nt z.natAbs,e)=X:=by
  rw[<-hX,pX];show Dyadic.ofIntWithPrec (iv (aI z) (nt z.natAbs)) (-e)=_
  rw[fT,<-he];congr 1;rw[Int.mul_comm,Int.mul_neg]
 obtain⟨nl,hnl⟩:=aK (-low);have hw1:IntKind.i64.wrap (-nl)=low:=by rw[IntKind.wrap_i64];have:=hlo.1;omega
 have hw2:IntKind.i64.wrap (low* (n:Int))=e:=by rw[he,IntKind.wrap_i64];omega
 have hm0:xw rows=0:=by
  unfold xw;rw[if_neg];rintro(h|h)
  . omega
  . rw[List.any_eq_true]at h;obtain⟨r,hr,h⟩:=h;have:=hrow r hr;simp at h;omega
 have hch:=λW=>λ(h:cM W a rows)=>UH a n cap rows W hL zo h;rw[hm0]at hch;have hsc:=λW=>λ(h:cM W a rows) (hT:aO W)=>afE a n cap n rows B low W hL zo zo hrow h hfit zo hT (by rw[hD];exact kO);rw[hD,yP,hnl]at hsc;have hbr:=λv W base=>λ(h:jW W base n (fg f n) n v) (h2:base<=W.heap.size)=>alI base n (4*B) f v W hn dv h h2 zo hK zo;rw[hz]at hbr;have hmk:=λW=>λ(hT:aO W)=>yU (aI z) (nt z.natAbs) e X oP W adR zo hT;obtain⟨zU,oz,zQ,lu,Ha,HT⟩:=gP hch hsc hbr hmk ha hT;clear hch hsc hbr hmk ha hT hm0 oP heb he adR hz hzl hex pX hent hK yP hf hlb hlo wM LU hDl kO hD hX hfit hrow hL hnl;have Hb:Hid (Bw w w):=Below.refl _ _;go_enter Tryz.func67,Tryz.ntmps67;go_wp2_with fail;obtain⟨R,hR⟩:∃R:World->Prop,(λW=>aC W (w.heap.size) 48 [ar false,.string ⟨#[]⟩,ah 0]/\Bw w W)=R:=⟨_,rfl⟩;first|refine cj R ?hR ?_|refine cu R ?hR ?_
 case hR=>subst hR;exact⟨(aC.newAt w _ _ (b:=w.heap.size) rfl),zl⟩
 subst hR;rintro W ⟨qr,ag⟩;have Hr:=aj qr;clear qr;obtain⟨r0,au,r1,az,r2,aJ⟩:=Hr.out.g3;replace Hb:=aF Hb ag;clear ag;have HA:Hid (cM W a rows):=Ha.out.below Hb.out;have HU:Hid (aO W):=HT.out.below Hb.out;go_wp2_with fail;refine(zU.out _ HA.out).mono ?_;rintro e w1 ⟨rfl,ag⟩;clear r0 au r1 az r2 aJ;obtain⟨Hr,r0,au,r1,az,r2,aJ⟩:=bg Hr ag;replace HA:=kL HA ag;replace HU:=kT HU ag;replace Hb:=aF Hb ag;clear ag;go_wp2_with fail;refine(oz.out _ HA.out HU.out).mono ?_;rintro e' w2 ⟨v,rfl,hO,hb2⟩;have HO:=aj hO;have zE:=hb2.size;clear hO;go_wp2_with fail;refine(zQ.out v w2 w1.heap.size HO.out zE).mono ?_;rintro e' w3 ⟨rfl,hb3⟩;have hb4:=hb2.trans hb3;clear hb2 hb3 HO r0 au r1 az r2 aJ;replace Hr:=kB Hr hb4;replace HA:=kL HA hb4;replace HU:=kT HU hb4;obtain⟨r0,au,r1,az,r2,aJ⟩:=Hr.out.g3;replace Hb:=aj (aV Hb.out hb4);clear hb4;go_wp2_with fail;refine(lu.out _ HU.out).mono ?_;rintro e w4 ⟨rfl,ag⟩;clear r0 au r1 az r2 aJ;obtain⟨Hr,r0,au,r1,az,r2,aJ⟩:=bg Hr ag;replace HA:=kL HA ag;replace HU:=kT HU ag;replace Hb:=aF Hb ag;clear ag;go_wp2;clear r0 au r1 az r2 aJ;refine fJ (cm w4 (w.heap.size) 0 [ar (aI (dN X)),ai (nt (dN X).natAbs),ah (dE X)]) cC ?_;intro w9 hs;replace Hr:=cX Hr hs;obtain⟨r0,au,r1,az,r2,aJ⟩:=Hr.out.g3;replace Hb:=bS Hb hs ZS;clear hs;refine bodyPost_ret (v:=.tuple #[cP X,ah 0]) (by simp[results,Tryz.results67,go_sem,r0,r1,r2]) rfl ⟨rfl,Hb.out⟩
def jA (rows:List (List Raw)):Nat->Nat->Dyadic:=λa b=>cZ (rows.map λr=>r.map aM) a b
theorem anq (o p:List Raw)(k:Nat)(h:k<p.length)(h':k<o.length):(kF o p).getD k 0=aM p[k]-aM o[k]:=by unfold kF;rw[List.getD_eq_getElem?_getD,List.getElem?_zipWith];simp[h,h']
theorem xC (rows:List (List Raw))(a b:Nat)(ha:a<rows.length)(hb:b<rows[a].length):jA rows a b=aM rows[a][b]:=by simp[jA,cZ,List.getD_eq_getElem?_getD,ha,hb]
theorem afJ (n:Nat)(rows:List (List Raw))(hL:rows.length=n+1)(hrow:∀r∈rows,r.length=n)(i j:Nat)(hi:i<n)(hj:j<n):
 cZ ((rows.drop 1).map λp=>kF (rows.getD 0 []) p) i j=jA rows (i+1) j-jA rows 0 j:=by
 have h0:0<rows.length:=by omega
 have h1:i+1<rows.length:=by omega
 have l0:=hrow _ (List.getElem_mem h0);have l1:=hrow _ (List.getElem_mem h1);rw[xC rows (i+1) j h1 zo,xC rows 0 j h0 zo];have e0:rows.getD 0 []=rows[0]:=by simp[h0]
 have e1:((rows.drop 1).map λp=>kF (rows.getD 0 []) p).getD i []=kF rows[0] rows[i+1]:=by rw[e0,List.getD_eq_getElem?_getD,List.getElem?_map,List.getElem?_drop];rw[show 1+i=i+1 by omega,List.getElem?_eq_getElem h1];rfl
 unfold cZ;rw[e1,anq _ _ _ zo zo]
theorem Lr (n:Nat)(dv:n<=4){e f:Nat->Nat->Dyadic}(h:∀i j,i<n->j<n->e i j=f i j):ft n e=ft n f:=by
 have hc:n=0\/n=1\/n=2\/n=3\/n=4:=by omega
 rcases hc with rfl|rfl|rfl|rfl|rfl
 . rfl
 . exact h 0 0 zo zo
 . unfold ft;simp only;rw[h 0 0 zo zo,h 0 1 zo zo,h 1 0 zo zo,h 1 1 zo zo]
 . unfold ft;simp only;rw[h 0 0 zo zo,h 0 1 zo zo,h 0 2 zo zo,h 1 0 zo zo,h 1 1 zo zo,h 1 2 zo zo,h 2 0 zo zo,h 2 1 zo zo,h 2 2 zo zo]
 . unfold ft;simp only;rw[h 0 0 zo zo,h 0 1 zo zo,h 0 2 zo zo,h 0 3 zo zo,h 1 0 zo zo,h 1 1 zo zo,h 1 2 zo zo,h 1 3 zo zo,h 2 0 zo zo,h 2 1 zo zo,h 2 2 zo zo,h 2 3 zo zo,h 3 0 zo zo,h 3 1 zo zo,h 3 2 zo zo,h 3 3 zo zo]
theorem aaa {B n:Nat}{e:Nat->Nat->Dyadic}(hn:1<=n)(dv:n<=4)(h:∀i j,i<n->j<n->Sm B (e i j)):Sm (4*B+6) (ft n e):=by
 have m2:∀a b c d:Dyadic,Sm B a->Sm B b->Sm B c->Sm B d->Sm (2*B+1) (a*b-c*d):=λa b c d ha hb hc hd=>(Sm.sub (Sm.mul ha hb) (Sm.mul hc hd)).mono zo;have m3:∀x y:Dyadic,Sm B x->Sm (2*B+1) y->Sm (3*B+1) (x*y):=λx y hx hy=>(Sm.mul hx hy).mono zo;have m4:∀x y z:Dyadic,Sm (3*B+1) x->Sm (3*B+1) y->Sm (3*B+1) z->Sm (3*B+3) (x-y+z):=λx y z hx hy hz=>(Sm.add (Sm.sub hx hy) (hz.mono zo)).mono zo;have m5:∀x y:Dyadic,Sm B x->Sm (3*B+3) y->Sm (4*B+3) (x*y):=λx y hx hy=>(Sm.mul hx hy).mono zo;have hc:n=1\/n=2\/n=3\/n=4:=by omega
 rcases hc with rfl|rfl|rfl|rfl
 . exact(h 0 0 zo zo).mono zo
 . exact(Sm.sub (Sm.mul (h 0 0 zo zo) (h 1 1 zo zo)) (Sm.mul (h 0 1 zo zo) (h 1 0 zo zo))).mono zo
 . unfold ft;refine(m4 _ _ _ (m3 _ _ ?_ (m2 _ _ _ _ ?_ ?_ ?_ ?_)) (m3 _ _ ?_ (m2 _ _ _ _ ?_ ?_ ?_ ?_)) (m3 _ _ ?_ (m2 _ _ _ _ ?_ ?_ ?_ ?_))).mono zo<;>exact h _ _ zo zo
 . unfold ft;have m6:∀x y z u:Dyadic,Sm (4*B+3) x->Sm (4*B+3) y->Sm (4*B+3) z->Sm (4*B+3) u->Sm (4*B+6) (x-y+z-u):=λx y z u hx hy hz hu=>(Sm.sub (Sm.add (Sm.sub hx hy) (hz.mono zo)) (hu.mono zo)).mono zo;refine m6 _ _ _ _ (m5 _ _ ?_ (m4 _ _ _ (m3 _ _ ?_ (m2 _ _ _ _ ?_ ?_ ?_ ?_)) (m3 _ _ ?_ (m2 _ _ _ _ ?_ ?_ ?_ ?_)) (m3 _ _ ?_ (m2 _ _ _ _ ?_ ?_ ?_ ?_)))) (m5 _ _ ?_ (m4 _ _ _ (m3 _ _ ?_ (m2 _ _ _ _ ?_ ?_ ?_ ?_)) (m3 _ _ ?_ (m2 _ _ _ _ ?_ ?_ ?_ ?_)) (m3 _ _ ?_ (m2 _ _ _ _ ?_ ?_ ?_ ?_)))) (m5 _ _ ?_ (m4 _ _ _ (m3 _ _ ?_ (m2 _ _ _ _ ?_ ?_ ?_ ?_)) (m3 _ _ ?_ (m2 _ _ _ _ ?_ ?_ ?_ ?_)) (m3 _ _ ?_ (m2 _ _ _ _ ?_ ?_ ?_ ?_)))) (m5 _ _ ?_ (m4 _ _ _ (m3 _ _ ?_ (m2 _ _ _ _ ?_ ?_ ?_ ?_)) (m3 _ _ ?_ (m2 _ _ _ _ ?_ ?_ ?_ ?_)) (m3 _ _ ?_ (m2 _ _ _ _ ?_ ?_ ?_ ?_))))<;>exact h _ _ zo zo
theorem aaj (X:Dyadic):dY X=0↔X=0:=by
 constructor
 . intro h;have h1:dN X=0:=by
    unfold dY fH at h;by_cases h1:dN X<0
    . rw[if_pos h1]at h;cases h
    . rw[if_neg h1]at h;by_cases h2:dN X=0
      . exact h2
      . rw[if_neg h2]at h;cases h
   have h2:=ux X;rw[h1,zu]at h2;exact h2
 . rintro rfl;rfl
noncomputable def jg (rows:List (List Raw)):Int:=if mR rows=0 then 1 else if kH (mR rows).toNat (jA rows)=0 then 5 else 0
theorem au9 (a:Option Addr)(cap n:Nat)(rows:List (List Raw))(B:Nat)(X:Dyadic)(w:World)(hn:1<=n)(dv:n<=4)(hL:rows.length=n+1)(hrow:∀r∈rows,r.length=n)(hcap:n+1<=cap)(ha:cM w a rows)
 (hfit:∀r∈rows,∀c∈r,Fit B c) (hB:B<=900000) (hT:aO w) (hX:kH n (jA rows)=X):
 Calls Tryz.prog 23 #[.slice a (n+1) cap] w λe w'=>e=.returned (.tuple #[cP X,ah 0])/\Bw w w':=by
 obtain⟨b,o,rfl⟩:∃b o,a=some ⟨b,o,none⟩:=by
  obtain⟨vals,hvl,hat,_⟩:=ha;rcases hat with h|⟨b,o,h,_⟩
  . rw[h]at hvl;simp at hvl;omega
  . exact⟨b,o,h⟩
 have hv:=av7 hL hrow hn zo;obtain⟨S,hS⟩:=aK ((rows.drop 1).map λp=>kF (rows.getD 0 []) p);have lA:S.length=n:=by rw[<-hS];simp[hL]
 have vq:∀r∈S,r.length=n:=by
  intro r hr;rw[<-hS]at hr;obtain⟨p,hp,rfl⟩:=List.mem_map.1 hr;have h0:0<rows.length:=by omega
  have e0:rows.getD 0 []=rows[0]:=by simp[h0]
  rw[Lv (by rw[e0,hrow _ (List.mem_of_mem_drop hp),hrow _ (List.getElem_mem h0)]),hrow _ (List.mem_of_mem_drop hp)]
 have kw:∀r∈S,∀d∈r,Sm (B+1) d:=by
  intro r hr d hd;rw[<-hS]at hr;obtain⟨p,hp,rfl⟩:=List.mem_map.1 hr;unfold kF at hd;obtain⟨i,hi,rfl⟩:=List.mem_iff_getElem.1 hd;rw[List.getElem_zipWith];have h0:0<rows.length:=by omega
  have e0:rows.getD 0 []=rows[0]:=by simp[h0]
  refine Sm.sub (hfit p (List.mem_of_mem_drop hp) _ (List.getElem_mem _)).2 (hfit (rows.getD 0 []) ?_ _ (List.getElem_mem _)).2;rw[e0];exact List.getElem_mem h0
 have hent:ft n (cZ S)=X:=by rw[<-hX,LA];refine Lr n dv (λi j hi hj=>?_);rw[<-hS];exact afJ n rows hL hrow i j hi hj
 have hvar:=λW=>λ(h:cM W (some ⟨b,o,none⟩) rows)=>agt (some ⟨b,o,none⟩) (n+1) cap rows W hL zo h;rw[hv]at hvar;have hrows:=λW=>λ(h:cM W (some ⟨b,o,none⟩) rows) (hT:aO W)=>afu b o cap n n rows B W hL zo hcap hn hn zo hrow h hfit zo hT;rw[hS]at hrows;have oP:((S.map λr=>r.map canon).map λr=>r.map aM)=S:=by
  rw[List.map_map];have:((λr:List Raw=>r.map aM)∘λr:List Dyadic=>r.map canon)=id:=by
   funext r
   show(r.map canon).map aM=r
   rw[List.map_map];have:(aM∘canon)=id:=funext cN;rw[this];simp
  rw[this];simp
 have pX:=λW a' c'=>λ(h:cM W a' (S.map λr=>r.map canon)) (hT:aO W)=>Ro a' c' n (S.map λr=>r.map canon) (B+1) S X W hn dv (by simpa using lA) (by
  intro r hr;obtain⟨x,hx,rfl⟩:=List.mem_map.1 hr
  simpa using vq x hx) h (by
  intro r hr c hc;obtain⟨x,hx,rfl⟩:=List.mem_map.1 hr;obtain⟨y,hy,rfl⟩:=List.mem_map.1 hc
  exact(kw x hx y hy).fit zo) zo zo hT oP hent
 obtain⟨Qs,ajM,EN,Ha,HT⟩:=fU hvar hrows pX ha hT;clear hvar hrows pX ha hT oP hent kw vq lA hS hv hX hfit hrow hL;have hn0:¬(n:Int)=0:=by omega
 have Hb:Hid (Bw w w):=Below.refl _ _;go_enter Tryz.func23,Tryz.ntmps23;go_wp2_with fail;obtain⟨R,hR⟩:∃R:World->Prop,(λW=>aC W (w.heap.size) 48 [ar false,.string ⟨#[]⟩,ah 0]/\Bw w W)=R:=⟨_,rfl⟩;first|refine cj R ?hR ?_|refine cu R ?hR ?_
 case hR=>subst hR;exact⟨(aC.newAt w _ _ (b:=w.heap.size) rfl),zl⟩
 subst hR;rintro W ⟨qr,ag⟩;have Hr:=aj qr;clear qr;obtain⟨r0,au,r1,az,r2,aJ⟩:=Hr.out.g3;replace Hb:=aF Hb ag;clear ag;have HA:Hid (cM W (some ⟨b,o,none⟩) rows):=Ha.out.below Hb.out;have HU:Hid (aO W):=HT.out.below Hb.out;go_wp2_with fail;refine(Qs.out _ HA.out).mono ?_;rintro e w1 ⟨rfl,ag⟩;clear r0 au r1 az r2 aJ;obtain⟨Hr,r0,au,r1,az,r2,aJ⟩:=bg Hr ag;replace HA:=kL HA ag;replace HU:=kT HU ag;replace Hb:=aF Hb ag;clear ag;go_wp2_with fail;refine(ajM.out _ HA.out HU.out).mono ?_;rintro e w2 ⟨a',c',rfl,hcc,mE,ag⟩;clear r0 au r1 az r2 aJ;obtain⟨Hr,r0,au,r1,az,r2,aJ⟩:=bg Hr ag;replace HA:=kL HA ag;replace HU:=kT HU ag;replace Hb:=aF Hb ag;clear ag;have HT2:=aj mE;clear mE;go_wp2_with fail;refine(EN.out _ a' c' HT2.out HU.out).mono ?_;rintro e w3 ⟨rfl,ag⟩;clear r0 au r1 az r2 aJ;obtain⟨Hr,r0,au,r1,az,r2,aJ⟩:=bg Hr ag;replace HA:=kL HA ag;replace HU:=kT HU ag;replace Hb:=aF Hb ag;clear ag;go_wp2;clear r0 au r1 az r2 aJ;refine fJ (cm w3 (w.heap.size) 0 [ar (aI (dN X)),ai (nt (dN X).natAbs),ah (dE X)]) cC ?_;intro w9 hs;replace Hr:=cX Hr hs;obtain⟨r0,au,r1,az,r2,aJ⟩:=Hr.out.g3;replace Hb:=bS Hb hs ZS;clear hs;refine bodyPost_ret (v:=.tuple #[cP X,ah 0]) (by simp[results,Tryz.results23,go_sem,r0,r1,r2]) rfl ⟨rfl,Hb.out⟩
theorem VP (a:Option Addr)(L cap:Nat)(rows:List (List Raw))(B:Nat)(w:World)(hL:rows.length=L)(hL5:L<=5)(hcap:L<=cap)(ha:cM w a rows)
 (hfit:∀r∈rows,∀c∈r,Fit B c) (hB:B<=900000) (hT:aO w):
 Calls Tryz.prog 40 #[.slice a L cap] w λe w'=>e=.returned (ah (jg rows))/\Bw w w':=by
 obtain⟨R,hR⟩:=aK (jg rows);rw[hR];unfold jg at hR;by_cases hv:mR rows=0
 . rw [if_pos hv]at hR;subst hR;have hvar:=fun W=>fun(h:cM W a rows)=>agt a L cap rows W hL zo h;rw[hv]at hvar;obtain⟨Qs,Ha⟩:=aZ hvar ha;have hsz:∀W,Bw w W->Calls Tryz.prog 23 #[.slice a L cap] W fun e w'=>e=.returned (.tuple #[.agg #[ar false,.string ⟨#[]⟩,ah 0],ah 1])/\Bw W w':=by
    intro w0 hw0;have rQ:=aj (Ha.out.below hw0);clear ha hfit hL hT hv hvar Ha hw0 w;obtain⟨w,IJ⟩:∃w,w=w0:=⟨_,rfl⟩;subst IJ;have Hb:Hid (Bw w w):=Below.refl _ _;go_enter Tryz.func23,Tryz.ntmps23;go_wp2_with fail;obtain⟨R,hR⟩:∃R:World->Prop,(λW=>aC W (w.heap.size) 48 [ar false,.string ⟨#[]⟩,ah 0]/\Bw w W)=R:=⟨_,rfl⟩;first|refine cj R ?hR ?_|refine cu R ?hR ?_
    case hR=>subst hR;exact⟨(aC.newAt w _ _ (b:=w.heap.size) rfl),zl⟩
    subst hR;rintro W ⟨qr,ag⟩;have Hr:=aj qr;clear qr;obtain⟨r0,au,r1,az,r2,aJ⟩:=Hr.out.g3;replace Hb:=aF Hb ag;clear ag;go_wp2_with fail;refine(Qs.out _ (rQ.out.below Hb.out)).mono ?_;rintro e w1 ⟨rfl,ag⟩;clear r0 au r1 az r2 aJ;obtain⟨Hr,r0,au,r1,az,r2,aJ⟩:=bg Hr ag;replace Hb:=aF Hb ag;clear ag;go_wp2;clear r0 au r1 az r2 aJ;refine fJ (cm w1 (w.heap.size) 0 [ar false,.string ⟨#[]⟩,ah 0]) cC ?_;intro w9 hs;replace Hr:=cX Hr hs;obtain⟨r0,au,r1,az,r2,aJ⟩:=Hr.out.g3;replace Hb:=bS Hb hs ZS;clear hs;refine bodyPost_ret (v:=.tuple #[.agg #[ar false,.string ⟨#[]⟩,ah 0],ah 1]) (by simp[results,Tryz.results23,go_sem,r0,r1,r2]) rfl ⟨rfl,Hb.out⟩
   have tA:=aj hsz;clear hsz hvar ha hfit hL hT hv;have Hb:Hid (Bw w w):=Below.refl _ _;go_enter Tryz.func40,Tryz.ntmps40;go_wp2_with fail;refine(tA.out _ Hb.out).mono ?_;rintro e w1 ⟨rfl,ag⟩;replace Hb:=aF Hb ag;clear ag;have hsz:=Hb.out.size;obtain⟨W2,nk,ag,Hd⟩:=cF w1 48 [ar false,.string ⟨#[]⟩,ah 0];obtain⟨d0,fd0,d1,fd1,d2,fd2⟩:=Hd.out.g3;replace Hb:=aF Hb ag;clear ag;go_wp2;refine bodyPost_ret (results_tmp rfl _ _ _) rfl ⟨rfl,?_⟩;exact((Hb.out.setCell zp _).setCell zp _).setCell zp _
 . obtain⟨n,hn⟩:∃n:Nat,mR rows=n:=⟨(mR rows).toNat,by have:=Og rfl hv;omega⟩;rw[if_neg hv,hn,Int.toNat_natCast]at hR;obtain⟨c1,c2,c3,c4⟩:=Og hn zo;obtain rfl:L=n+1:=by omega
   obtain⟨X,hX⟩:=aK (kH n (jA rows));rw[hX]at hR;have hsz:=λW=>λ(h:cM W a rows) (hT:aO W)=>au9 a cap n rows B X W zo zo zo (λr hr=>by have:=c4 r hr;omega) hcap h hfit hB hT hX;have hXm:Sm (4* (B+1)+6) X:=by
    rw[<-hX,LA];refine aaa zo zo (λi j hi hj=>?_);have h0:0<rows.length:=by omega
    have h1:i+1<rows.length:=by omega
    have l0:=c4 _ (List.getElem_mem h0);have l1:=c4 _ (List.getElem_mem h1);rw[xC rows (i+1) j h1 zo,xC rows 0 j h0 zo];exact Sm.sub (hfit _ (List.getElem_mem h1) _ (List.getElem_mem _)).2 (hfit _ (List.getElem_mem h0) _ (List.getElem_mem _)).2
   have jo:∀W,Calls Tryz.prog 72 #[.agg #[ar (aI (dN X)),ai (nt (dN X).natAbs),ah (dE X)]] W λex w'=>ex=.returned (ah (dY X))/\Bw W w':=λW=>uZ _ _ _ (dY X) (by show dY (aM (canon X))=_;rw[cN]) W (hXm.ok zo);obtain⟨g,hg⟩:=aK (dY X);have hgz:R=if g=0 then 5 else 0:=by
    rw[<-hR,<-hg];by_cases h:X=0
    . rw[if_pos h,if_pos ((aaj X).2 h)]
    . rw[if_neg h,if_neg (λh2=>h ((aaj X).1 h2))]
   rw[hg]at jo;obtain⟨tA,qW,Ha,HT,XU⟩:=fU hsz jo ha hT hgz;clear hsz jo ha hT hgz hg hX hR hfit c4 hL;have Hb:Hid (Bw w w):=Below.refl _ _;go_enter Tryz.func40,Tryz.ntmps40;go_wp2_with fail;refine(tA.out _ (Ha.out.below Hb.out) (HT.out.below Hb.out)).mono ?_;rintro e w1 ⟨rfl,ag⟩;replace Hb:=aF Hb ag;clear ag;obtain⟨W2,nk,ag,Hd⟩:=cF w1 48 [ar (aI (dN X)),ai (nt (dN X).natAbs),ah (dE X)];obtain⟨d0,d1,d2⟩:=Hd.out.c3;replace Hb:=aF Hb ag;clear ag;go_wp2_with fail;refine(qW.out _).mono ?_;rintro e w3 ⟨rfl,ag⟩;clear d0 d1 d2;obtain⟨Hd,d0,d1,d2⟩:=bP Hd ag;replace Hb:=aF Hb ag;clear ag;by_cases hg0:g=0
   . have hr:=XU.out;rw[if_pos hg0]at hr;subst hr hg0;go_wp2;refine bodyPost_ret (results_tmp rfl _ _ _) rfl ⟨rfl,Hb.out⟩
   . have hr:=XU.out;rw[if_neg hg0]at hr;subst hr;go_wp2;refine bodyPost_ret (results_tmp rfl _ _ _) rfl ⟨rfl,Hb.out⟩
end Go.Proofs.YtnjfebkelecgaaaGreatDoor
namespace Go.Proofs.YtnjfebkelecgaaaGreatDoor
open Go.RowKit
def Rw (n B:Nat)(rows:List (List Raw)):Prop:=rows.length=n+1/\(∀r∈rows,r.length=n)/\∀r∈rows,∀c∈r,Fit B c
end Go.Proofs.YtnjfebkelecgaaaGreatDoor
namespace Go.Proofs.YtnjfebkelecgaaaGreatDoor
theorem av8 {rows:List (List Raw)}{B:Nat}(h5:rows.length<=5)(hf:∀r∈rows,∀c∈r,Fit B c)(hv:mR rows≠0):∃m,m+1<=4/\Rw (m+1) B rows:=by obtain⟨c1,c2,c3,c4⟩:=Og rfl hv;obtain⟨m,hm⟩:∃m:Nat,mR rows=((m+1:Nat):Int):=⟨((mR rows)-1).toNat,by omega⟩;exact⟨m,by omega,by omega,λr hr=>by have:=c4 r hr;omega,hf⟩
theorem avC {rows:List (List Raw)}{B:Nat}(h5:rows.length<=5)(hf:∀r∈rows,∀c∈r,Fit B c)(h:jg rows=0):∃m,m+1<=4/\Rw (m+1) B rows:=
 av8 h5 hf (λh0=>by unfold jg at h;rw[if_pos h0]at h;cases h)
def CY (p:Nat->Nat->Dyadic):Nat->Nat->Dyadic:=λa b=>p (a+1) b-p 0 b
def ml (n:Nat)(e:Nat->Nat->Dyadic)(k i:Nat):Dyadic:=if(k+i)%2=1 then-ft (n-1) (mJ e i k)else ft (n-1) (mJ e i k)
def mh (n:Nat)(p:Nat->Nat->Dyadic)(k i:Nat):Dyadic:=ml n (CY p) k i*rN (kH n p)
def wS (n:Nat)(p:Nat->Nat->Dyadic)(x:Nat->Dyadic)(i:Nat):Nat->Dyadic
 |0=>0
 |k+1=>wS n p x i k+(x k-p 0 k) *mh n p k i
theorem awj (n:Nat)(p:Nat->Nat->Dyadic)(x:Nat->Dyadic)(i k:Nat):wS n p x i k=rN (kH n p) *DY n (CY p) (λk=>x k-p 0 k) i k:=by
 induction k with
 |zero=>simp[wS,DY]
 |succ k ih=>unfold wS DY;rw[ih];unfold mh ml;generalize (if(k+i)%2=1 then-ft (n-1) (mJ (CY p) i k)else ft (n-1) (mJ (CY p) i k))=z;grind
theorem agC (n:Nat)(hn:1<=n)(dv:n<=4)(p:Nat->Nat->Dyadic)(x:Nat->Dyadic)(i:Nat)(hi:i<n):wS n p x i n=Ot n p x (i+1):=by rw[awj,aqG n hn dv _ _ i hi];unfold Ot;rw[anH];rfl
def wZ (n:Nat)(p:Nat->Nat->Dyadic)(x:Nat->Dyadic):Nat->Dyadic
 |0=>rN (kH n p) *kH n p
 |k+1=>wZ n p x k-Ot n p x (k+1)
theorem au0 (X:Dyadic):rN X*X=if X<0 then-X else X:=by
 rw[afG];split
 . grind
 . split<;>grind
theorem Ls {B n:Nat}{e:Nat->Nat->Dyadic}(dv:n<=4)(h:∀i j,i<n->j<n->Sm B (e i j)):Sm (4*B+6) (ft n e):=by
 by_cases h0:n=0
 . subst h0;exact Sm.one.mono zo
 . exact aaa zo dv h
theorem VF (X:Dyadic):Sm 1 (rN X):=by
 rw[afG];split
 . exact Sm.neg Sm.one
 . split
   . exact Sm.zero _
   . exact Sm.one
theorem LB {B n:Nat}{p:Nat->Nat->Dyadic}(h:∀a b,a<=n->b<n->Sm B (p a b))(a b:Nat)(ha:a<n)(hb:b<n):Sm (B+1) (CY p a b):=Sm.sub (h (a+1) b zo hb) (h 0 b zo hb)
theorem Za {B n:Nat}{e:Nat->Nat->Dyadic}(hn:1<=n)(dv:n<=4)(h:∀i j,i<n->j<n->Sm B (e i j))(k i:Nat):Sm (4*B+6) (ml n e k i):=by
 have h2:Sm (4*B+6) (ft (n-1) (mJ e i k)):=Ls zo (λa b ha hb=>h _ _ (by split<;>omega) (by split<;>omega));unfold ml;split
 . exact h2.neg
 . exact h2
theorem KR {B n:Nat}{p:Nat->Nat->Dyadic}(hn:1<=n)(dv:n<=4)(h:∀a b,a<=n->b<n->Sm B (p a b))(k i:Nat):Sm (4*B+11) (mh n p k i):=
 (Sm.mul (Za (B:=B+1) hn dv (λa b ha hb=>LB h a b ha hb) k i) (VF _)).mono zo
theorem afK {B n:Nat}{p:Nat->Nat->Dyadic}(dv:n<=4)(h:∀a b,a<=n->b<n->Sm B (p a b)):Sm (4*B+11) (rN (kH n p) *kH n p):=by rw[LA];exact(Sm.mul (VF _) (Ls (B:=B+1) dv (λa b ha hb=>LB h a b ha hb))).mono zo
theorem Wp {B n:Nat}{p:Nat->Nat->Dyadic}{x:Nat->Dyadic}(hn:1<=n)(dv:n<=4)(h:∀a b,a<=n->b<n->Sm B (p a b))(hx:∀b,b<n->Sm B (x b))(i k:Nat)(hk:k<=n):Sm (5*B+12+k) (wS n p x i k):=by
 induction k with
 |zero=>exact Sm.zero _
 |succ k ih=>have h1:=ih zo;have h2:Sm (5*B+12) ((x k-p 0 k) *mh n p k i):=(Sm.mul (Sm.sub (hx k zo) (h 0 k zo zo)) (KR hn dv h k i)).mono zo;exact(h1.add (h2.mono zo)).mono zo
theorem awx {B n:Nat}{p:Nat->Nat->Dyadic}{x:Nat->Dyadic}(hn:1<=n)(dv:n<=4)(h:∀a b,a<=n->b<n->Sm B (p a b))(hx:∀b,b<n->Sm B (x b))(i:Nat)(hi:i<n):Sm (5*B+16) (Ot n p x (i+1)):=by rw[<-agC n hn dv p x i hi];exact(Wp hn dv h hx i n (Nat.le_refl _)).mono zo
theorem awm {B n:Nat}{p:Nat->Nat->Dyadic}{x:Nat->Dyadic}(hn:1<=n)(dv:n<=4)(h:∀a b,a<=n->b<n->Sm B (p a b))(hx:∀b,b<n->Sm B (x b))(k:Nat)(hk:k<=n):Sm (5*B+16+k) (wZ n p x k):=by
 induction k with
 |zero=>exact(afK dv h).mono zo
 |succ k ih=>exact(Sm.sub (ih zo) ((awx hn dv h hx k zo).mono zo)).mono zo
def wC (n:Nat)(p:Nat->Nat->Dyadic)(i:Nat):Dyadic:=wS n p (λ_=>0) i n
def lZ (n:Nat)(p:Nat->Nat->Dyadic)(b:Nat):Nat->Dyadic
 |0=>0
 |k+1=>lZ n p b k-mh n p b k
def lH (R:List (List Dyadic))(r c:Nat):List (List Dyadic):=(R.eraseIdx r).map λx=>x.eraseIdx c
theorem aeE (R:List (List Dyadic))(r c m:Nat)(hL:R.length=m+1)(hr:r<=m):(lH R r c).length=m:=by unfold lH;rw[List.length_map,List.length_eraseIdx_of_lt zo];omega
theorem aeF (R:List (List Dyadic))(r c m:Nat)(hrow:∀x∈R,x.length=m+1)(hc:c<=m):∀x∈lH R r c,x.length=m:=by intro x hx;unfold lH at hx;obtain⟨y,hy,rfl⟩:=List.mem_map.1 hx;have:=hrow y (List.mem_of_mem_eraseIdx hy);rw[List.length_eraseIdx_of_lt zo];omega
theorem aeD (R:List (List Dyadic))(r c m:Nat)(hL:R.length=m+1)(hr:r<=m)(j:Nat)(hj:j<m):(lH R r c).getD j []=(R.getD (if j<r then j else j+1) []).eraseIdx c:=by
 unfold lH;have h1:j<(R.eraseIdx r).length:=by rw[List.length_eraseIdx_of_lt zo];omega
 rw[List.getD_eq_getElem?_getD,List.getElem?_map,List.getElem?_eq_getElem h1,Option.map_some,Option.getD_some,List.getElem_eraseIdx];split
 . rename_i h;rw[List.getD_eq_getElem?_getD,List.getElem?_eq_getElem zo];rfl
 . rename_i h;rw[List.getD_eq_getElem?_getD,List.getElem?_eq_getElem zo];rfl
theorem aop (l:List Dyadic)(c j:Nat)(h:j+1<l.length)(hc:c<l.length):(l.eraseIdx c).getD j 0=l.getD (if j<c then j else j+1) 0:=by
 have h1:j<(l.eraseIdx c).length:=by rw[List.length_eraseIdx_of_lt hc];omega
 rw[List.getD_eq_getElem?_getD,List.getElem?_eq_getElem h1,Option.getD_some,List.getElem_eraseIdx];split
 . rw[List.getD_eq_getElem?_getD,List.getElem?_eq_getElem zo];rfl
 . rw[List.getD_eq_getElem?_getD,List.getElem?_eq_getElem zo];rfl
theorem arR (R:List (List Dyadic))(r c m:Nat)(hL:R.length=m+1)(hrow:∀x∈R,x.length=m+1)(hr:r<=m)(hc:c<=m)(i j:Nat)(hi:i<m)(hj:j<m):cZ (lH R r c) i j=mJ (cZ R) r c i j:=by
 show((lH R r c).getD i []).getD j 0=(R.getD (if i<r then i else i+1) []).getD (if j<c then j else j+1) 0
 rw[aeD R r c m hL hr i hi];have hk:(if i<r then i else i+1)<R.length:=by split<;>omega
 have e:R.getD (if i<r then i else i+1) []=R[if i<r then i else i+1]'hk:=by rw[List.getD_eq_getElem?_getD,List.getElem?_eq_getElem hk];rfl
 have hl:=hrow _ (List.getElem_mem hk);rw[e];exact aop _ c j (by rw[hl];omega) (by rw[hl];omega)
def tF (n:Nat)(e:Nat->Nat->Dyadic):List (List Dyadic):=(List.range n).map λa=>(List.range n).map λb=>ml n e a b
theorem Zd (n:Nat)(e:Nat->Nat->Dyadic)(a:Nat)(ha:a<n):(tF n e).getD a []=(List.range n).map λb=>ml n e a b:=by unfold tF;simp[List.getD_eq_getElem?_getD,ha]
theorem ak0 (n:Nat)(e:Nat->Nat->Dyadic)(a b:Nat)(ha:a<n)(hb:b<n):cZ (tF n e) a b=ml n e a b:=by unfold cZ;rw[Zd n e a ha];simp[List.getD_eq_getElem?_getD,hb]
theorem ak1 (n:Nat)(e:Nat->Nat->Dyadic):(tF n e).length=n:=by simp[tF]
theorem ak2 (n:Nat)(e:Nat->Nat->Dyadic):∀r∈tF n e,r.length=n:=by intro r hr;unfold tF at hr;obtain⟨x,_,rfl⟩:=List.mem_map.1 hr;simp
theorem arQ (R:List (List Dyadic))(r c m:Nat)(hL:R.length=m+1)(hrow:∀x∈R,x.length=m+1)(hr:r<=m)(hc:c<=m)(hm:m<=4):ft m (cZ (lH R r c))=ft m (mJ (cZ R) r c):=
 Lr m hm (λi j hi hj=>arR R r c m hL hrow hr hc i j hi hj)
theorem arS {B:Nat}{R:List (List Dyadic)}(h:∀x∈R,∀d∈x,Sm B d)(r c:Nat):∀x∈lH R r c,∀d∈x,Sm B d:=by intro x hx d hd;unfold lH at hx;obtain⟨y,hy,rfl⟩:=List.mem_map.1 hx;exact h y (List.mem_of_mem_eraseIdx hy) d (List.mem_of_mem_eraseIdx hd)
end Go.Proofs.YtnjfebkelecgaaaGreatDoor
