/- Package mat: bareiss' test of a row. -/
import Derived.Test.YtnjfebkelecgaaaGreatDoorZ11
import Derived.Test.YtnjfebkelecgaaaGreatDoorZ24
import Derived.Test.YtnjfebkelecgaaaGreatDoorZ6
import Derived.Test.YtnjfebkelecgaaaGreatDoorZ7
import Derived.Test.YtnjfebkelecgaaaGreatDoorZ9
set_option linter.all false
set_option maxRecDepth 100000
set_option maxHeartbeats 16000000
namespace Go.Proofs.YtnjfebkelecgaaaGreatDoor
open Go.RowKit
attribute [local go_sem ↓] Go.wp_at_zero Go.wp_at_succ
def ao3 (bk k g n c:Nat)(z:Int)(w:World)(hk:w.cell? ⟨bk,0,none⟩=some (ah (k:Int)))(hkn:k<n)(h0:w.cell? ⟨g,k*2,none⟩=some (aj (aC z)))(h1:w.cell? ⟨g,k*2+1,none⟩=some (ai (nt z.natAbs)))(hz:(nt z.natAbs).length<=1099511627776):
 Cv 151 #[.slice (some ⟨g,0,none⟩) n c,.pointer (some ⟨bk,0,none⟩)] w (aj (decide (z≠0))):=by
 have bD:=xZ n c k (k:Int) (show some (⟨g,0,none⟩:Addr)=some ⟨g,0,none⟩from rfl) hkn rfl;rw[Nat.zero_add]at bD;have Hz:=ar hz;obtain⟨s,hs⟩:=aK (aC z);obtain⟨l,hl⟩:=aK (nt z.natAbs);have lL:=λW=>Qp (aC z) (nt z.natAbs) W hz;rw[gK]at lL;rw[hs,hl]at lL;rw[hs]at h0;rw[hl]at h1;obtain⟨t,ht⟩:=aK (gh z);rw[ht]at lL;have hd:decide (z≠0)=decide (t≠0):=by
  rw[<-ht];unfold gh;by_cases h:z=0
  . simp[h]
  . by_cases h2:z<0
    . simp[h,h2]
    . simp[h,h2]
 rw[hd];have rN:=ar lL;clear lL hd ht hs hl hz Hz;have Hb:=hbz w;go_enter Tryz.func151,Tryz.ntmps151;go_wp2_with fail;refine(rN.out _).mono ?_;rintro e w1 ⟨rfl,ag⟩;replace Hb:=az Hb ag;clear ag h0 h1 hk bD;go_wp2;refine bodyPost_ret (results_tmp rfl _ _ _) rfl ⟨?_,Hb.out⟩;by_cases h:t=0<;>simp[h]
def atZ (p:Value->Bool)(vs:List Value)(q:Nat->Bool)(c:Nat)(h:∀i (hi:i<vs.length),p vs[i]=q i):
 idxFrom p vs c=match (List.range vs.length).find? q with|none=>-1|some m=>((c+m:Nat):Int):=by
 induction vs generalizing c q with
 |nil=>rfl
 | cons v vs ih=>
   have h0:=h 0 zm;have hs:=ih (λi=>q (i+1)) (c+1) (λi hi=>h (i+1) (by simpa using hi));simp only[List.getElem_cons_zero]at h0;rw[List.length_cons,List.range_succ_eq_map,List.find?_cons];unfold idxFrom;rw[h0];cases hq:q 0 with
   |true=>simp
   | false=>
     rw[hs,List.find?_map];simp only[Bool.false_eq_true,if_false];have e:(q∘Nat.succ)=λi=>q (i+1):=rfl;rw[e];cases (List.range vs.length).find? λi=>q (i+1)with
     |none=>rfl
     |some m=>simp only[Option.map_some];congr 1;omega
def awU (p:Value->Bool)(vals:List Value)(f:Nat->Nat->Int)(n k:Nat)(hn:vals.length=n)(h:∀i (hi:i<vals.length),p vals[i]=decide (f i k≠0)):
 idxFrom p (vals.drop k) 0=match sf f n k with|none=>-1|some m=>(m:Int):=by
 rw[atZ p (vals.drop k) (λi=>f (k+i) k !=0) 0 (λi hi=>by
  rw[List.getElem_drop,h]
  simp[bne,Bool.beq_eq_decide_eq])]
 unfold sf;rw[List.length_drop,hn];simp only[Nat.zero_add]
def aAf (x y:Int)(w:World)(hx:(nt x.natAbs).length<=34359738368)(hy:(nt y.natAbs).length<=34359738368)(h0:y≠0)(hd:y∣x):
 Cl 152 #[.agg #[aj (aC x),ai (nt x.natAbs)],.agg #[aj (aC y),ai (nt y.natAbs)]] w λe w'=>∃r,e=.returned (.tuple #[dO (x/y),r,aj true])/\Bw w w':=by
 have h:=aAg (aC x) (aC y) (nt x.natAbs) (nt y.natAbs) w hx hy (by rw[jC];omega) (by rw[jC,jC];exact Nat.mod_eq_zero_of_dvd (Int.natAbs_dvd_natAbs.2 hd));rw[gK,gK]at h;exact h
end Go.Proofs.YtnjfebkelecgaaaGreatDoor
namespace Go.Proofs.YtnjfebkelecgaaaGreatDoor
open Go.RowKit
def fE (f:Nat->Nat->Int)(n:Nat):List (List Int):=(List.range n).map λa=>(List.range n).map (f a)
def KY (f:Nat->Nat->Int)(n:Nat):(fE f n).length=n:=by simp[fE]
def Qj (f:Nat->Nat->Int)(n i:Nat)(h:i<n):(fE f n).getD i []=(List.range n).map (f i):=by simp[fE,List.getD_eq_getElem?_getD,h]
def azp (f:Nat->Nat->Int)(n i j:Nat)(h:i<n)(h':j<n):((fE f n).getD i []).getD j 0=f i j:=by rw[Qj f n i h];simp[List.getD_eq_getElem?_getD,h']
def azq (f:Nat->Nat->Int)(n i j:Nat)(y:Int)(h:i<n):(fE f n).set i (((fE f n).getD i []).set j y)=fE (λa b=>if a=i/\b=j then y else f a b) n:=by
 rw[Qj f n i h];apply List.ext_getElem
 . simp[fE]
 . intro a h1 h2;have ha:a<n:=by simpa[fE]using h2
   rw[List.getElem_set];split
   . rename_i e
     subst e;apply List.ext_getElem
     . simp[fE]
     . intro b h3 h4;have hb:b<n:=by simpa[fE]using h4
       rw[List.getElem_set];by_cases e2:j=b
       . subst e2;simp[fE]
       . have e3:¬b=j:=λe=>e2 e.symm;simp[fE,e2,e3]
   . rename_i e
     have e3:¬a=i:=λe'=>e e'.symm;simp[fE,e3]
def azr (f:Nat->Nat->Int)(n k m:Nat)(h:k<n)(h':m<n):((fE f n).set k ((fE f n).getD m [])).set m ((fE f n).getD k [])=fE (cQ f k m) n:=by
 apply List.ext_getElem
 . simp[fE]
 . intro a h1 h2;have ha:a<n:=by simpa[fE]using h2
   have hs:=Yg (fE f n) [] k m (by rw[KY];exact h) (by rw[KY];exact h') a (by rw[KY];exact ha);rw[List.getD_eq_getElem?_getD,List.getElem?_eq_getElem h1]at hs;simp only[Option.getD_some]at hs;rw[hs,Qj f n _ (Qf h h' ha)];simp[fE,cQ,swp]
def Fi {w:World}{base:Nat}{e:TypeId}{size n cap g:Nat}{xs:List Value}(h:w.ownsRow base e size (.slice (some ⟨g,0,none⟩) n cap) n xs):base<=g/\∃cur,au w g e cur:=by
 rcases h.2 with⟨h1,_⟩ |⟨g',cap',cur,h1,hb,hg,_,_,_,hx⟩
 . simp at h1
 . simp only[Value.slice.injEq,Option.some.injEq,Addr.mk.injEq,and_true,true_and]at h1;obtain⟨rfl,rfl⟩:=h1;exact⟨hb,cur.toList,by unfold au;simpa using hg⟩
def Xz {w:World}{base:Nat}{e:TypeId}{size n:Nat}{v:Value}{xs:List Value}(h:w.ownsRow base e size v n xs)(hn:1<=n):∃g cap,v=.slice (some ⟨g,0,none⟩) n cap:=by
 rcases h.2 with⟨h1,h2⟩ |⟨g',cap',cur,h1,_⟩
 . omega
 . exact⟨g',cap',h1⟩
def azo {f g:Nat->Nat->Int}(n:Nat)(h:∀a b,a<n->b<n->f a b=g a b):fE f n=fE g n:=by unfold fE;refine List.map_congr_left (λa ha=>List.map_congr_left (λb hb=>h a b (List.mem_range.1 ha) (List.mem_range.1 hb)))
def an2 (w:World)(go L top:Nat):Prop:=go<top/\∀m g n c,m<L->w.cell? ⟨go,m,none⟩=some (.slice (some ⟨g,0,none⟩) n c)->g<top
def BS (w0 w:World)(base n go cap top:Nat)(f:Nat->Nat->Int):Prop:=
 kg w base n (fE f n) n (.slice (some ⟨go,0,none⟩) n cap)/\an2 w go n top/\Below base w0 w/\top<=w.heap.size
def BS.begin {w:World}{base n:Nat}{f:Nat->Nat->Int}{v:Value}(h:kg w base n (fE f n) n v)(hn:1<=n):∃go cap,v=.slice (some ⟨go,0,none⟩) n cap/\n<=cap/\BS w w base n go cap w.heap.size f:=by
 have h0:=h;obtain⟨vals,hl,ho,hv,_⟩:=h;obtain⟨go,cap,rfl⟩:=Xz ho hn;refine⟨go,cap,rfl,PM ho,h0,⟨?_,λm g n' c hm hc=>?_⟩,Below.refl _ _,Nat.le_refl _⟩
 . obtain⟨_,cur,hb⟩:=Fi ho;exact hb.lt
 . have hm2:m<vals.length:=by omega
   rw[lR ho m hm2]at hc;simp only[Option.some.injEq]at hc;have hrow:=hv m hm2;obtain⟨g',cap',e⟩:=Xz hrow hn;rw[e]at hrow hc;simp at hc;obtain⟨rfl,rfl,rfl⟩:=hc;exact(Fi hrow).2.choose_spec.lt
def BS.below {w0 w w':World}{base n go cap top:Nat}{f:Nat->Nat->Int}(h:BS w0 w base n go cap top f)(hb:Bw w w')(ko:base<=top):BS w0 w' base n go cap top f:=by
 obtain⟨h1,⟨h2,h3⟩,h4,h5⟩:=h;have hs:=hb.size;refine⟨h1.below hb,⟨h2,λm g n' c hm hc=>h3 m g n' c hm ?_⟩,?_,by omega⟩
 . rw[World.cell?_of_block (a:=⟨go,m,none⟩) (w:=w) (hb.block go zo)]at hc;exact hc
 . exact h4.trans (hb.mono zo)
def BS.congr {w0 w:World}{base n go cap top:Nat}{f g:Nat->Nat->Int}(h:BS w0 w base n go cap top f)(he:∀a b,a<n->b<n->f a b=g a b):BS w0 w base n go cap top g:=by unfold BS at*;rw[<-azo n he];exact h
def BS.row {w0 w:World}{base n go cap top:Nat}{f:Nat->Nat->Int}(h:BS w0 w base n go cap top f)(i:Nat)(hi:i<n):
 ∃g c,base<=g/\g<top/\w.cell? ⟨go,i,none⟩=some (.slice (some ⟨g,0,none⟩) n c)/\(∀j,j<n->w.cell? ⟨g,j*2,none⟩=some (aj (aC (f i j)))/\w.cell? ⟨g,j*2+1,none⟩=some (ai (nt (f i j).natAbs)))/\
  (∀q,w.frozen? ⟨g,q,none⟩=false)/\
  ∀j,j<n->∀y:Int,BS w0 ((w.setCell ⟨g,j*2,none⟩ (aj (aC y))).setCell ⟨g,j*2+1,none⟩ (ai (nt y.natAbs))) base n go cap top (λa b=>if a=i/\b=j then y else f a b):=by
 obtain⟨h1,⟨h2,h3⟩,h4,h5⟩:=h;have hR:(fE f n).length=n:=KY f n;have hr:((fE f n).getD i []).length=n:=by rw[Qj f n i hi];simp
 obtain⟨vals,hl,ho,hv,hd⟩:=id h1;have hi2:i<vals.length:=by omega
 have hrow:=hv i hi2;obtain⟨g,c,e⟩:=Xz hrow zo;rw[e]at hrow;obtain⟨hbg,cur,hblk⟩:=Fi hrow;have hc0:w.cell? ⟨go,i,none⟩=some (.slice (some ⟨g,0,none⟩) n c):=by rw[lR ho i hi2,e]
 refine⟨g,c,hbg,h3 i g n c hi hc0,hc0,λj hj=>?_,λq=>hblk.free q,λj hj y=>?_⟩
 . obtain⟨go',cap',g',c',e0,_,_,_,e1,e2,e3,_⟩:=h1.num i j hi hj hR hr;simp at e0;obtain⟨rfl,rfl⟩:=e0;rw[hc0]at e1;simp at e1;obtain⟨rfl,rfl⟩:=e1;rw[azp f n i j hi hj]at e2 e3;exact⟨e2,e3⟩
 . obtain⟨go',cap',g',c',e0,hb1,hb2,hne,e1,e2,e3,hw⟩:=h1.num i j hi hj hR hr;simp at e0;obtain⟨rfl,rfl⟩:=e0;rw[hc0]at e1;simp at e1;obtain⟨rfl,rfl⟩:=e1;have h6:=hw y;rw[azq f n i j y hi]at h6;refine⟨h6,⟨h2,λm g' n' c' hm hc=>h3 m g' n' c' hm ?_⟩,(h4.setCell hb2 _).setCell hb2 _,by simpa using h5⟩;rw[World.cell?_setCell_far _ _ _ _ (by simpa using hne),World.cell?_setCell_far _ _ _ _ (by simpa using hne)]at hc;exact hc
def BS.swap {w0 w:World}{base n go cap top:Nat}{f:Nat->Nat->Int}(h:BS w0 w base n go cap top f)(i m:Nat)(hi:i<n)(hm:m<n):
 ∃g1 c1 g2 c2,w.cell? ⟨go,i,none⟩=some (.slice (some ⟨g1,0,none⟩) n c1)/\w.cell? ⟨go,m,none⟩=some (.slice (some ⟨g2,0,none⟩) n c2)/\(∀q,w.frozen? ⟨go,q,none⟩=false)/\
  BS w0 ((w.setCell ⟨go,i,none⟩ (.slice (some ⟨g2,0,none⟩) n c2)).setCell ⟨go,m,none⟩ (.slice (some ⟨g1,0,none⟩) n c1)) base n go cap top (cQ f i m):=by
 have hb:=h;obtain⟨g1,c1,_,t1,e1,_⟩:=hb.row i hi;obtain⟨g2,c2,_,t2,e2,_⟩:=hb.row m hm;obtain⟨h1,⟨h2,h3⟩,h4,h5⟩:=h;obtain⟨_,_,ho,_,_⟩:=id h1;obtain⟨jT,cur,hblk⟩:=Fi ho;obtain⟨x,y,q1,q2,hw⟩:=h1.swap i m hi hm (KY f n);rw[e1]at q1;rw[e2]at q2;simp only[Option.some.injEq]at q1 q2;subst q1 q2;rw[azr f n i m hi hm]at hw;refine⟨g1,c1,g2,c2,e1,e2,λq=>hblk.free q,hw,⟨h2,λm' g' n' c' hm' hc=>?_⟩,(h4.setCell jT _).setCell jT _,by simpa using h5⟩;by_cases h7:m'=m
 . subst h7;rw[au.cell ((hblk.set i _).set m' _)]at hc;rw[List.getElem?_set_self']at hc;have:g'=g1:=by
    cases hq:(cur.set i (.slice (some ⟨g2,0,none⟩) n c2))[m']? with
    |none=>rw[hq]at hc;simp at hc
    |some z=>rw[hq]at hc;simp at hc;exact hc.1.symm
   omega
 . rw[World.cell?_setCell_other _ _ _ _ (show(⟨go,m,none⟩:Addr)≠⟨go,m',none⟩from λe=>h7 (by simpa using e.symm))]at hc;by_cases h8:m'=i
   . subst h8;rw[au.cell (hblk.set m' _),List.getElem?_set_self']at hc;have:g'=g2:=by
      cases hq:cur[m']? with
      |none=>rw[hq]at hc;simp at hc
      |some z=>rw[hq]at hc;simp at hc;exact hc.1.symm
     omega
   . rw[World.cell?_setCell_other _ _ _ _ (show(⟨go,i,none⟩:Addr)≠⟨go,m',none⟩from λe=>h8 (by simpa using e.symm))]at hc;exact h3 m' g' n' c' hm' hc
end Go.Proofs.YtnjfebkelecgaaaGreatDoor
namespace Go.Proofs.YtnjfebkelecgaaaGreatDoor
open Go.RowKit
attribute [local go_sem ↓] Go.wp_at_zero Go.wp_at_succ
def BT (w0 w:World)(base n go cap top:Nat)(f:Nat->Nat->Int)(r l kb:Nat)(last:Int)(k:Nat):Prop:=
 BS w0 w base n go cap top f/\au w r 46 [aj false,.string ⟨#[]⟩]/\au w l 46 [aj (aC last),ai (nt last.natAbs)]/\au w kb 3 [ah (k:Int)]/\base<=top/\top<=r/\top<=l/\top<=kb
def BT.below {w0 w w':World}{base n go cap top:Nat}{f:Nat->Nat->Int}{r l kb:Nat}{last:Int}{k:Nat}(h:BT w0 w base n go cap top f r l kb last k)(hb:Bw w w'):BT w0 w' base n go cap top f r l kb last k:=by obtain⟨h1,h2,h3,h4,h5,h6⟩:=h;exact⟨h1.below hb h5,h2.below hb,h3.below hb,h4.below hb,h5,h6⟩
def BT.congr {w0 w:World}{base n go cap top:Nat}{f g:Nat->Nat->Int}{r l kb:Nat}{last:Int}{k:Nat}(h:BT w0 w base n go cap top f r l kb last k)(he:∀a b,a<n->b<n->f a b=g a b):BT w0 w base n go cap top g r l kb last k:=
 ⟨h.1.congr he,h.2⟩
def BT.drew {w0 w:World}{base n go cap top:Nat}{f:Nat->Nat->Int}{r l kb:Nat}{last:Int}{k:Nat}(h:BT w0 w base n go cap top f r l kb last k):BT w0 w.drew base n go cap top f r l kb last k:=h.below ((Below.refl _ _).drew)
def BT.row {w0 w:World}{base n go cap top:Nat}{f:Nat->Nat->Int}{r l kb:Nat}{last:Int}{k:Nat}(h:BT w0 w base n go cap top f r l kb last k)(i:Nat)(hi:i<n):
 ∃g c,g<w.heap.size/\g<top/\w.cell? ⟨go,i,none⟩=some (.slice (some ⟨g,0,none⟩) n c)/\(∀j,j<n->w.cell? ⟨g,j*2,none⟩=some (aj (aC (f i j)))/\w.cell? ⟨g,j*2+1,none⟩=some (ai (nt (f i j).natAbs)))/\
  (∀q,w.frozen? ⟨g,q,none⟩=false)/\
  ∀j,j<n->∀y:Int,BT w0 ((w.setCell ⟨g,j*2,none⟩ (aj (aC y))).setCell ⟨g,j*2+1,none⟩ (ai (nt y.natAbs))) base n go cap top (λa b=>if a=i/\b=j then y else f a b) r l kb last k:=by
 obtain⟨h1,h2,h3,h4,h5,h6,h7,h8⟩:=h;have h9:=h1.2.2.2;obtain⟨g,c,hb,ht,e1,e2,e3,hw⟩:=h1.row i hi;refine⟨g,c,by omega,ht,e1,e2,e3,λj hj y=>⟨hw j hj y,?_,?_,?_,h5,h6,h7,h8⟩⟩
 . exact(h2.so _ _ zo _).so _ _ zo _
 . exact(h3.so _ _ zo _).so _ _ zo _
 . exact(h4.so _ _ zo _).so _ _ zo _
def BT.swap {w0 w:World}{base n go cap top:Nat}{f:Nat->Nat->Int}{r l kb:Nat}{last:Int}{k:Nat}(h:BT w0 w base n go cap top f r l kb last k)(i m:Nat)(hi:i<n)(hm:m<n):
 ∃g1 c1 g2 c2,w.cell? ⟨go,i,none⟩=some (.slice (some ⟨g1,0,none⟩) n c1)/\w.cell? ⟨go,m,none⟩=some (.slice (some ⟨g2,0,none⟩) n c2)/\(∀q,w.frozen? ⟨go,q,none⟩=false)/\
  BT w0 ((w.setCell ⟨go,i,none⟩ (.slice (some ⟨g2,0,none⟩) n c2)).setCell ⟨go,m,none⟩ (.slice (some ⟨g1,0,none⟩) n c1)) base n go cap top (cQ f i m) r l kb last k:=by
 obtain⟨h1,h2,h3,h4,h5,h6,h7,h8⟩:=h;have h9:=h1.2.1.1;obtain⟨g1,c1,g2,c2,e1,e2,e3,hw⟩:=h1.swap i m hi hm;refine⟨g1,c1,g2,c2,e1,e2,e3,hw,?_,?_,?_,h5,h6,h7,h8⟩
 . exact(h2.so _ _ zo _).so _ _ zo _
 . exact(h3.so _ _ zo _).so _ _ zo _
 . exact(h4.so _ _ zo _).so _ _ zo _
def BT.aF9 {w0 w:World}{base n go cap top:Nat}{f:Nat->Nat->Int}{r l kb:Nat}{last:Int}{k:Nat}(h:BT w0 w base n go cap top f r l kb last k)(i:Nat)(hi:i<n):
 ∃g c,g<w.heap.size/\g<top/\w.cell? ⟨go,i,none⟩=some (.slice (some ⟨g,0,none⟩) n c)/\(∀j,j<n->w.cell? ⟨g,j*2,none⟩=some (aj (aC (f i j)))/\w.cell? ⟨g,j*2+1,none⟩=some (ai (nt (f i j).natAbs)))/\
  ∀w',Bw w w'->(∀q,w'.frozen? ⟨g,q,none⟩=false)/\∀j,j<n->∀y:Int,BT w0 ((w'.setCell ⟨g,j*2,none⟩ (aj (aC y))).setCell ⟨g,j*2+1,none⟩ (ai (nt y.natAbs))) base n go cap top (λa b=>if a=i/\b=j then y else f a b) r l kb last k:=by
 obtain⟨g,c,h1,h2,h3,h4,_,_⟩:=h.row i hi;refine⟨g,c,h1,h2,h3,h4,λw' hb=>?_⟩;obtain⟨g',c',_,_,e3,_,e5,e6⟩:=(h.below hb).row i hi;have:=cell_later hb h3;rw[e3]at this;simp at this;obtain⟨rfl,rfl⟩:=this;exact⟨e5,e6⟩
def BS.setOther {w0 w:World}{base n go cap top:Nat}{f:Nat->Nat->Int}(h:BS w0 w base n go cap top f)(ko:base<=top)(p o:Nat)(u:Value)(hp:top<=p):BS w0 (w.setCell ⟨p,o,none⟩ u) base n go cap top f:=by
 have hbs:=h;obtain⟨⟨vals,hl,ho,hv,hd⟩,⟨h2,h3⟩,h4,h5⟩:=h;refine⟨⟨vals,hl,ownsRow_setCell_other ho (by simp[Value.ownBlock];omega) _,λi hi=>?_,hd⟩,⟨h2,λm g n' c hm hc=>h3 m g n' c hm ?_⟩,h4.setCell zp _,by simpa using h5⟩
 . obtain⟨g,c,_,ht,e,_⟩:=hbs.row i zo;rw[lR ho i hi]at e;have e1:vals[i]=.slice (some ⟨g,0,none⟩) n c:=by simpa using e
   exact ownsRow_setCell_other (hv i hi) (by rw[e1];simp[Value.ownBlock];omega) _
 . rw[World.cell?_setCell_far _ _ _ _ zp]at hc;exact hc
def BT.setLast {w0 w:World}{base n go cap top:Nat}{f:Nat->Nat->Int}{r l kb:Nat}{last:Int}{k:Nat}(h:BT w0 w base n go cap top f r l kb last k)(x:Int)(h1:l≠r)(h2:l≠kb):
 BT w0 ((w.setCell ⟨l,0,none⟩ (aj (aC x))).setCell ⟨l,1,none⟩ (ai (nt x.natAbs))) base n go cap top f r l kb x k:=by
 obtain⟨q1,q2,q3,q4,q5,q6,q7,q8⟩:=h;exact⟨(q1.setOther q5 l 0 _ q7).setOther q5 l 1 _ q7,(q2.so _ _ h1 _).so _ _ h1 _,(q3.set 0 _).set 1 _,(q4.so _ _ h2 _).so _ _ h2 _,q5,q6,q7,q8⟩
def aAl (x y N:Int)(h:x-y=N)(w:World)(hx:(nt x.natAbs).length<=34359738368)(hy:(nt y.natAbs).length<=34359738368):
 Cv 141 #[.agg #[aj (aC x),ai (nt x.natAbs)],.agg #[aj (aC y),ai (nt y.natAbs)]] w (dO N):=by
 have:=ajx (aC x) (nt x.natAbs) (aC y) (nt y.natAbs) w hx hy;rw[gK,gK,h]at this;exact this
def ajs (x y N:Int)(h:x*y=N)(b cap:Nat)(ty:TypeId)(w:World)(hx:(nt x.natAbs).length<=17179869184)(hy:(nt y.natAbs).length<=17179869184)(ha:au w b ty [aj (aC x),ai (nt x.natAbs),aj (aC y),ai (nt y.natAbs)]):
 Cv 62 #[.slice (some ⟨b,0,none⟩) 2 cap] w (dO N):=
 ajt _ _ _ _ N (by rw[gK,gK,h]) b cap ty w hx hy ha
def BS.row_ne {w0 w:World}{base n go cap top:Nat}{f:Nat->Nat->Int}(h:BS w0 w base n go cap top f)(i:Nat)(hi:i<n){g c:Nat}(hc:w.cell? ⟨go,i,none⟩=some (.slice (some ⟨g,0,none⟩) n c)):g≠go:=by
 obtain⟨⟨vals,hl,ho,hv,hd⟩,_⟩:=h;have hi2:i<vals.length:=by omega
 rw[lR ho i hi2]at hc;simp only[Option.some.injEq]at hc;have hrow:=hv i hi2;rw[hc]at hrow;obtain⟨_,c1,b1⟩:=Fi hrow;obtain⟨_,c2,b2⟩:=Fi ho;rintro rfl;have:=b1.symm.trans b2;simp at this
def Ko (f:Nat->Nat->Int)(n k:Nat):Int:=match sf f n k with|none=>-1|some m=>(m:Int)
open Classical in
def BS.index {w0 w:World}{base n go cap top:Nat}{f:Nat->Nat->Int}(h:BS w0 w base n go cap top f)(k kb:Nat)(hk:k<n)(hn:n<=8)(hkb:w.cell? ⟨kb,0,none⟩=some (ah (k:Int)))(hz:∀a b,a<n->b<n->(nt (f a b).natAbs).length<=1099511627776):
 Cv 150 #[.slice (some ⟨go,k,none⟩) (n-k) (cap-k),.func (.func 151) #[] #[.pointer (some ⟨kb,0,none⟩)]] w (ah (Ko f n k)):=by
 have hbs:=h;obtain⟨h1,_,_,_⟩:=h;obtain⟨vals,hl,ho,hv,hd⟩:=h1;have hrow:∀i (hi:i<vals.length),∃g c,vals[i]=.slice (some ⟨g,0,none⟩) n c/\∀j,j<n->w.cell? ⟨g,j*2,none⟩=some (aj (aC (f i j)))/\w.cell? ⟨g,j*2+1,none⟩=some (ai (nt (f i j).natAbs)):=by intro i hi;obtain⟨g,c,_,_,e1,e2,_⟩:=hbs.row i zo;rw[lR ho i hi]at e1;exact⟨g,c,by simpa using e1,e2⟩
 have hinj:∀i j (hi:i<vals.length) (hj:j<vals.length),vals[i]=vals[j]->i=j:=by intro i j hi hj e;obtain⟨g,c,e1,_⟩:=hrow i hi;exact hd i j hi hj g (by rw[e1];rfl) (by rw[<-e,e1];rfl)
 obtain⟨p,hp⟩:∃p:Value->Bool,∀i (hi:i<vals.length),p vals[i]=decide (f i k≠0):=by
  refine⟨λv=>decide (∃i,∃hi:i<vals.length,vals[i]=v/\f i k≠0),λi hi=>?_⟩;by_cases h0:f i k≠0
  . have:∃j,∃hj:j<vals.length,vals[j]=vals[i]/\f j k≠0:=⟨i,hi,rfl,h0⟩;show decide _=decide _
    rw[decide_eq_true this,decide_eq_true h0]
  . have:¬∃j,∃hj:j<vals.length,vals[j]=vals[i]/\f j k≠0:=by rintro⟨j,hj,e,h2⟩;exact h0 (by rw[<-hinj j i hj hi e];exact h2)
    simp only[this,h0,decide_false]
 have hpv:=awU p vals f n k zo hp;have hat:At w (some ⟨go,k,none⟩) (vals.drop k):=by refine .inr ⟨go,k,rfl,λj hj=>?_⟩;rw[List.length_drop]at hj;rw[lR ho (k+j) zo,List.getElem?_drop,List.getElem?_eq_getElem]
 have:=atU (some ⟨go,k,none⟩) (n-k) (cap-k) (vals.drop k) 151 #[.pointer (some ⟨kb,0,none⟩)] p w (by rw[List.length_drop,hl]) zo hat (enters_of Tryz.func151 zk rfl) (λv hv W hb=>by
  obtain⟨i,hi,rfl⟩:=List.mem_iff_getElem.1 hv;rw[List.getElem_drop];have hi2:k+i<vals.length:=by rw[List.length_drop]at hi;omega
  obtain⟨g,c,e1,e2⟩:=hrow (k+i) hi2;obtain⟨e3,e4⟩:=e2 k hk;rw[hp (k+i) hi2,e1]
  exact ao3 kb k g n c (f (k+i) k) W (cell_later hb hkb) hk (cell_later hb e3) (cell_later hb e4) (hz _ _ zo hk))
 rw[hpv]at this;exact this
def Bs (w0 w:World)(base n go cap top r l K:Nat)(Z:Int)(k:Nat)(f:Nat->Nat->Int)(last:Int)(t:Bool):Prop:=
 BS w0 w base n go cap top f/\au w r 46 [aj false,.string ⟨#[]⟩]/\au w l 46 [aj (aC last),ai (nt last.natAbs)]/\iI n (n-k) k f last/\fF n (n-k) k f last t=Z/\last≠0/\
  ∃Q,Q+1<=2^k* (K+1)/\last.natAbs<2^Q/\∀a b,a<n->b<n->(f a b).natAbs<2^Q
def azl (f:Nat->Nat->Int)(k:Nat):cQ f k (k+0)=f:=by
 funext a b;unfold cQ
 simp only[Nat.add_zero];by_cases h:a=k
 . rw[if_pos h,h]
 . rw[if_neg h,if_neg h]
def Bs.none {w0 w:World}{base n go cap top r l K k:Nat}{Z:Int}{f:Nat->Nat->Int}{last:Int}{t:Bool}(h:Bs w0 w base n go cap top r l K Z k f last t)(hk:k<n)(hp:sf f n k=none):Z=0:=by obtain⟨_,_,_,_,h2,_⟩:=h;rw[show n-k=n-(k+1)+1 by omega]at h2;unfold fF at h2;rw[hp]at h2;exact h2.symm
def Bs.some {w0 w:World}{base n go cap top r l K k m:Nat}{Z:Int}{f:Nat->Nat->Int}{last:Int}{t:Bool}(h:Bs w0 w base n go cap top r l K Z k f last t)(hk:k<n)(hp:sf f n k=some m):
 ∃g,g=cQ f k (k+m)/\g k k≠0/\(∀a b,k<a->a<n->k<b->b<n->last∣dm g k a b)/\iI n (n-(k+1)) (k+1) (eI g k last) (g k k)/\fF n (n-(k+1)) (k+1) (eI g k last) (g k k) (t !=decide (0<m))=Z/\
  ∃Q,2*Q+2<=2^(k+1) * (K+1)/\last.natAbs<2^Q/\(∀a b,a<n->b<n->(g a b).natAbs<2^Q)/\(g k k).natAbs<2^(2*Q+1)/\∀a b,a<n->b<n->(eI g k last a b).natAbs<2^(2*Q+1):=by
 obtain⟨_,_,_,h1,h2,h3,Q,hQ,hl,hf⟩:=h;have JC:=nO hp;rw[show n-k=n-(k+1)+1 by omega]at h1 h2;unfold iI at h1;unfold fF at h2;rw[hp]at h1 h2;simp only at h1 h2;obtain⟨g,hg⟩:∃g,g=cQ f k (k+m):=⟨_,rfl⟩;rw[<-hg]at h1 h2;have jA:∀a b,a<n->b<n->(g a b).natAbs<2^Q:=by
  intro a b ha hb;rw[hg];unfold cQ;refine hf _ _ ?_ hb;split
  . omega
  . split
    . omega
    . exact ha
 have IL:2^Q<=2^(2*Q+1):=Nat.pow_le_pow_right zd zo;refine⟨g,hg,?_,h1.1,h1.2,h2,Q,?_,hl,jA,Nat.lt_of_lt_of_le (jA k k hk hk) IL,λa b ha hb=>?_⟩
 . rw[hg];unfold cQ;rw[if_pos rfl];exact JC.2
 . rw[Nat.pow_succ];have:2^k*2* (K+1)=2* (2^k* (K+1)):=by rw[Nat.mul_comm (2^k) 2,Nat.mul_assoc]
   omega
 . unfold eI;split
   . rename_i h4
     have h5:=(Xu g k a b Q (jA a b ha hb) (jA k k hk hk) (jA a k ha hk) (jA k b hk hb)).2.2;rcases div_lt _ last _ h5 with h6|h6
     . exact h6
     . exact absurd (h1.1 a b h4.1 ha h4.2 hb) h6
   . exact Nat.lt_of_lt_of_le (jA a b ha hb) IL
def Bs.next {w0 w:World}{base n go cap top r l kb K k:Nat}{Z:Int}{f g:Nat->Nat->Int}{x:Int}{t:Bool}(h:BT w0 w base n go cap top f r l kb x k)(hf:∀a b,a<n->b<n->f a b=g a b)(hx:x≠0)(h1:iI n (n-(k+1)) (k+1) g x)(h2:fF n (n-(k+1)) (k+1) g x t=Z)
 (h3:∃Q,Q+1<=2^(k+1) * (K+1)/\x.natAbs<2^Q/\∀a b,a<n->b<n->(g a b).natAbs<2^Q):Bs w0 w base n go cap top r l K Z (k+1) g x t:=
 ⟨(h.congr hf).1,h.2.1,h.2.2.1,h1,h2,hx,h3⟩
def Mq (a0:Act)(w0:World)(cs:List (Addr×Value))(x1 x2 x3 x4 P1 P2 N:Int)(dn:Nat->Bool)(a:Act)(w:World):Prop:=
 ∃v1 v2 v3 v4 v5 v6:Value,a=(((((a0.put (some 76) v1).put (some 77) v2).put (some 92) v3).put (some 93) v4).put (some 94) v5).put (some 10) v6/\kE cs w/\Bw w0 w/\
  (dn 14=true->∃b,v1=.slice (some ⟨b,0,none⟩) 2 2/\au w b 46 [aj (aC x1),ai (nt x1.natAbs),aj (aC x2),ai (nt x2.natAbs)])/\(dn 15=true->v2=dO P1)/\
  (dn 30=true->∃b,v3=.slice (some ⟨b,0,none⟩) 2 2/\au w b 46 [aj (aC x3),ai (nt x3.natAbs),aj (aC x4),ai (nt x4.natAbs)])/\(dn 31=true->v4=dO P2)/\(dn 32=true->v5=dO N)/\
  (dn 33=true->∃b,v6=.pointer (some ⟨b,0,none⟩)/\w0.heap.size<=b/\au w b 46 [aj false,.string ⟨#[]⟩])
def Mq.init (a:Act)(w0 w:World)(cs:List (Addr×Value))(x1 x2 x3 x4 P1 P2 N:Int)(hk:kE cs w)(hb:Bw w0 w):Mq a w0 cs x1 x2 x3 x4 P1 P2 N (λ_=>false) a w:=
 ⟨a.tmps.getD 76 undef,a.tmps.getD 77 undef,a.tmps.getD 92 undef,a.tmps.getD 93 undef,a.tmps.getD 94 undef,a.tmps.getD 10 undef,by rw[Fp,Fp,Fp,Fp,Fp,Fp],hk,hb,(λh=>by cases h),(λh=>by cases h),(λh=>by cases h),(λh=>by cases h),(λh=>by cases h),(λh=>by cases h)⟩
def ao4 (base n K:Nat)(f:Nat->Nat->Int)(v:Value)(w:World)(hn:1<=n)(cV:n<=4)(hO:kg w base n (fE f n) n v)(bQ:base<=w.heap.size)(Ei:1<=K)(hK:∀a b,a<n->b<n->(f a b).natAbs<2^K)(hK2:K<=100000000):
 Cl 113 #[v] w λe w'=>e=.returned (dO (fF n n 0 f 1 false))/\Below base w w':=by
 obtain⟨go,cap,rfl,hcap,hbs⟩:=BS.begin hO hn;obtain⟨Z,hZ⟩:=aK (fF n n 0 f 1 false);have hex:=acW n hn cV f;have hsz:∀k Q:Nat,k<=n->Q+1<=2^k* (K+1)->Q<=1800000000:=by intro k Q h1 h2;have h3:2^k<=2^4:=Nat.pow_le_pow_right zd zo;have h4:=Nat.mul_le_mul_right (K+1) h3;omega
 rw[hZ];obtain⟨ZZ,HZ,Hex,mS,HK⟩:=fU hbs hZ hex hsz hK;clear hO hbs hZ hex hsz hK;have Hb:=hbz w;go_enter Tryz.func113,Tryz.ntmps113;go_wp2_with fail;have q:=fK w 46 [aj false,.string ⟨#[]⟩];first|refine cd _ q ?_|refine cw _ q ?_
 clear q;rintro W ⟨Hr,ag⟩;obtain⟨r0,aH,r1,aI⟩:=Hr.out.g2;replace Hb:=az Hb ag;go_wp2_with fail;refine(YP 1 _ zd zd).mono ?_;rintro e w1 ⟨rfl,ag⟩;obtain⟨Hr,r0,aH,r1,aI⟩:=bA Hr ag;replace Hb:=az Hb ag;have wm:=Hr.out.lt;obtain⟨W2,na,ag,Hl⟩:=cE w1 46 [aj (aC 1),ai (nt 1)];obtain⟨Hr,r0,aH,r1,aI⟩:=bA Hr ag;obtain⟨l0,BI,l1,BJ⟩:=Hl.out.g2;replace Hb:=az Hb ag;have Zh:=ar (ZZ.out.below Hb.out zo);have atb:w.heap.size<w1.heap.size:=wm;have hq0:=Hr.out;have hq1:=Hl.out;have hst:Bs w W2 base n go cap w.heap.size w.heap.size w1.heap.size K Z 0 f 1 false:=⟨Zh.out,hq0,hq1,Hex.out,HZ.out,by decide,K,by omega,by rw[show(1:Int).natAbs=1 from rfl];exact Nat.one_lt_two_pow zo,HK.out⟩;clear hq0 hq1;have cn:=ar hst;have szW:=Hb.out.size;clear hst Zh Hb Hr Hl ZZ HK Hex HZ;go_wp2_with fail;go_loopw[5,15] (λs5 x wr=>∃(k:Nat) (f':Nat->Nat->Int) (last:Int) (t:Bool),k<=n/\x=ah (k:Int)/\s5=aj t/\Bs w wr base n go cap w.heap.size w.heap.size w1.heap.size K Z k f' last t) (λ_ x _=>n-(intOf x).toNat);case atStart=>exact⟨0,f,1,false,Nat.zero_le _,rfl,rfl,cn.out⟩
 case round=>
  clear cn;obtain⟨k,f',last,t,hk,rfl,rfl,hS⟩:=hrel;obtain⟨wk,hwk⟩:∃wk,wk=wr:=⟨_,rfl⟩;subst hwk;by_cases hlt:k<n
  . obtain⟨Q0,hQ0,_,hQf⟩:=hS.2.2.2.2.2.2;have gH:=mS.out k Q0 hk hQ0;have hlen:∀a b,a<n->b<n->(nt (f' a b).natAbs).length<=1099511627776:=λa b ha hb=>lM (hQf a b ha hb) zo;have hkc:k<cap:=by omega
    obtain⟨HS,lj⟩:=aZ hS hlen;have sk:=hS.1.2.2.2;clear hS hQ0 hQf gH hlen;have Hb:=hbz wk;obtain⟨Hr,Hl⟩:=aZ HS.out.2.1 HS.out.2.2.1;obtain⟨r0,aH,r1,aI⟩:=Hr.out.g2;obtain⟨l0,BI,l1,BJ⟩:=Hl.out.g2;have Kh:=Hr.out.lt;have au2:=Hl.out.lt;obtain⟨W3,Et,ag,qK⟩:=cE wk 3 [ah (k:Int)];replace Hr:=kB Hr ag;obtain⟨Hl,l0,BI,l1,BJ⟩:=bA Hl ag;obtain⟨r0,aH,r1,aI⟩:=Hr.out.g2;have fq:=qK.out.c1;replace Hb:=az Hb ag;have lW:=ar (HS.out.1.below Hb.out zo);go_wp2_with fail;refine(lW.out.index k wk.heap.size hlt zo fq lj.out).mono ?_;rintro e w4 ⟨rfl,ag⟩;obtain⟨Hr,r0,aH,r1,aI⟩:=bA Hr ag;obtain⟨Hl,l0,BI,l1,BJ⟩:=bA Hl ag;replace qK:=kB qK ag;have fq:=qK.out.c1;replace Hb:=az Hb ag;cases hp:sf f' n k with
    | none=>
      have hpv:Ko f' n k= -1:=by unfold Ko;rw[hp]
      have hz:=HS.out.none hlt hp;rw[hpv];have Hbb:=ar (HS.out.1.2.2.1.trans (Hb.out.mono zo));clear HS lj lW hp;go_wp2;refine bodyPost_ret (v:=.agg #[aj false,.string ⟨#[]⟩]) (by simp[results,Tryz.results113,go_sem,r0,r1]) rfl ⟨by rw[hz];rfl,?_⟩;exact(Hbb.out.setCell zp _).setCell zp _
    | some m=>
      have hpv:Ko f' n k=(m:Int):=by unfold Ko;rw[hp]
      rw[hpv];obtain⟨oD,_⟩:=nO hp;obtain⟨g,hg,jm,pL,ae0,aeF,Q,hQ,Jp,jA,afb,agc⟩:=HS.out.some hlt hp;have hl0:=HS.out.2.2.2.2.2.1;have ko:BT w w4 base n go cap w.heap.size f' w.heap.size w1.heap.size wk.heap.size last k:=⟨HS.out.1.below Hb.out zo,Hr.out,Hl.out,qK.out,by omega,Nat.le_refl _,by omega,by omega⟩;obtain⟨qE,Hdv,aal,ZX,HQ,HlQ,HgQ,aau,Me,Hg,yJ,sB⟩:=gg ko pL ae0 aeF hQ Jp jA afb agc hg jm hl0;clear ko pL ae0 aeF hQ Jp jA afb agc hg jm hl0 hpv hp HS lj lW Hb Hr Hl qK r0 r1 aH aI l0 l1 BI BJ fq;have hm0:¬(m:Int)<0:=by omega
      go_upto_if 27 with fail
      go_cut[5] (λs5 wx=>s5=aj (t !=decide (0<m))/\BT w wx base n go cap w.heap.size g w.heap.size w1.heap.size wk.heap.size last k);case first=>
       by_cases hm:0<m
       . have xS:(0:Int)<(m:Int):=by omega
         obtain⟨g1,c1,g2,c2,e1,e2,e3,hsw⟩:=qE.out.swap k (k+m) hlt zo;rw[<-Hg.out]at hsw;have Su:=ar hsw;have sV:=EU n cap k (k:Int) (rfl:(some ⟨go,0,none⟩:Option Addr)=_) hlt rfl;have zY:=EU n cap (k+m) ((k+m:Nat):Int) (rfl:(some ⟨go,0,none⟩:Option Addr)=_) zo rfl;rw[Nat.zero_add,Nat.mul_one]at sV zY;have hwm:IntKind.i64.wrap ((k:Int)+(m:Int))=((k+m:Nat):Int):=by rw[IntKind.wrap_i64];omega
         obtain⟨km,sW⟩:=aK (k+m);rw[sW]at e2 zY hwm Su;have qK:=ar qE.out.2.2.2.1;have SI:Hid (bH w4 go k [.slice (some ⟨g1,0,none⟩) n c1]):=λj hj=>by
          obtain rfl:j=0:=by simp at hj;omega
          exact e1
         have SJ:Hid (bH w4 go km [.slice (some ⟨g2,0,none⟩) n c2]):=λj hj=>by
          obtain rfl:j=0:=by simp at hj;omega
          exact e2
         have z1:w4.drew.frozen? ⟨go,k,none⟩=false:=e3 k;have z2:w4.drew.frozen? ⟨go,km,none⟩=false:=e3 km;have z3:w4.frozen? ⟨go,km,none⟩=false:=e3 km;have y2:(w4.setCell ⟨go,k,none⟩ (.slice (some ⟨g2,0,none⟩) n c2)).cell? ⟨go,km,none⟩=some (.slice (some ⟨g2,0,none⟩) n c2):=aU (.inr zp) e2;have Hkm:=ar sW;clear hsw e1 e2 e3 sW;go_wp2_with fail;have fq:=qK.out.c1;have xa0:=SI.out.w1;have xb0:=SJ.out.w1;have hgo:go<wk.heap.size:=by have:=qE.out.1.2.1.1;omega
         refine Qs (λw'=>aF w' (wk.heap.size) 0 (ah (k:Int))) (λi=>Nat.blt i 19) (.rd 0 (.rd 1 (.rd 2 (.rd 3 (.rd 4 (.rd 5 (.rd 6 (.rd 7 (.rd 8 (.rd 9 (.rd 10 (.rd 12 (.rd 13 (.rd 14 (.br 11 15 (.lin [(15,false),(16,true),(17,false),(18,false),(19,false)]) (.lin [(11,false),(16,true),(17,false),(18,false),(19,false)])))))))))))))))) zk zk rfl zk zc fq ?_;iterate 14 (refine PO rfl rfl (v:=?_) (λw' hw'=>?_) ?_;rotate_left;(focus go_simp;try with_reducible rfl))
         refine Kr rfl rfl rfl rfl rfl rfl  (λK hK=>?_) (λK hK=>?_) 
         . go_simp;refine hK _ _ (by first|exact λ_=>fq|exact λ_=>ij zg fq) ?_
           refine yn ?_;refine aR rfl rfl (λK hK=>?_);go_simp;refine hK _ _ (by first|exact λh=>absurd h zd|exact λ_=>fq|exact λ_=>ij zg fq) ?_
           refine pT rfl rfl ?_
           refine aR rfl rfl (λK hK=>?_);go_simp;refine hK _ _ (by first|exact λh=>absurd h zd|exact λ_=>fq|exact λ_=>ij zg fq) ?_
           refine aR rfl rfl (λK hK=>?_);go_simp;refine hK _ _ (by first|exact λh=>absurd h zd|exact λ_=>fq|exact λ_=>ij zg fq) ?_
           refine aR rfl rfl (λK hK=>?_);go_simp;refine hK _ _ (by first|exact λh=>absurd h zd|exact λ_=>fq|exact λ_=>ij zg fq) ?_
           simp only[bu];go_wp2_with fail;go_meet;exact⟨by simp[hm],Su.out.drew⟩
         . go_simp;refine hK _ _ (by first|exact λ_=>fq|exact λ_=>ij zg fq) ?_
           refine yn ?_;refine aR rfl rfl (λK hK=>?_);go_simp;refine hK _ _ (by first|exact λh=>absurd h zd|exact λ_=>fq|exact λ_=>ij zg fq) ?_
           refine pT rfl rfl ?_
           refine aR rfl rfl (λK hK=>?_);go_simp;refine hK _ _ (by first|exact λh=>absurd h zd|exact λ_=>fq|exact λ_=>ij zg fq) ?_
           refine aR rfl rfl (λK hK=>?_);go_simp;refine hK _ _ (by first|exact λh=>absurd h zd|exact λ_=>fq|exact λ_=>ij zg fq) ?_
           refine aR rfl rfl (λK hK=>?_);go_simp;refine hK _ _ (by first|exact λh=>absurd h zd|exact λ_=>fq|exact λ_=>ij zg fq) ?_
           simp only[bu];go_wp2_with fail;go_meet;exact⟨by simp[hm],Su.out.drew⟩
       . have hm2:¬(0:Int)<(m:Int):=by omega
         obtain rfl:m=0:=by omega
         go_wp2_with fail;go_meet;refine⟨by simp,?_⟩;rw[Hg.out,azl];exact qE.out
      case rest=>
       obtain⟨rfl,ko⟩:=hcut;have qE:=ar ko;have gH:=mS.out (k+1) (2*Q+1) zo (by have:=HQ.out;omega);clear ko;have fq:wc.cell? ⟨wk.heap.size,0,none⟩=some (ah (k:Int)):=qE.out.2.2.2.1.cell 0;go_wp2_with fail;go_loopw[8] (λx wr=>∃i:Nat,k<i/\i<=n/\x=ah (i:Int)/\BT w wr base n go cap w.heap.size (mI g k last i (k+1)) w.heap.size w1.heap.size wk.heap.size last k) (λx _=>n-(intOf x).toNat);case atStart=>exact⟨k+1,by omega,by omega,by go_num,by rw[awM];exact qE.out⟩
       case round=>
        clear fq qE;obtain⟨i,Cc,hin,rfl,hT⟩:=hrel;have FU:=ar hT;clear hT;have fq:wr.cell? ⟨wk.heap.size,0,none⟩=some (ah (k:Int)):=FU.out.2.2.2.1.cell 0;by_cases bC:i<n
        . obtain⟨wi,Wx⟩:∃wi,wi=wr:=⟨_,rfl⟩;subst Wx;go_wp2_with fail;go_loopw[9] (λx wr=>∃j:Nat,k<j/\j<=n/\x=ah (j:Int)/\BT w wr base n go cap w.heap.size (mI g k last i j) w.heap.size w1.heap.size wk.heap.size last k) (λx _=>n-(intOf x).toNat);case atStart=>exact⟨k+1,by omega,by omega,by go_num,FU.out⟩
          case round=>
           clear fq FU;obtain⟨j,hkj,hjn,rfl,hT⟩:=hrel;by_cases fS:j<n
           . have Dg:=ar hT;clear hT;obtain⟨gi,ci,li,ti,ei,ri,_⟩:=Dg.out.row i bC;obtain⟨gk,ck,lk,tk,ek,rk,_⟩:=Dg.out.row k hlt;obtain⟨p1,p2,p3,p4⟩:=awJ g k last i j;obtain⟨aa,Mu⟩:=ri j fS;obtain⟨ab,Mv⟩:=rk k hlt;obtain⟨ac,Mw⟩:=ri k hlt;obtain⟨ad,Mx⟩:=rk j fS;rw[p1]at aa Mu;rw[p2]at ab Mv;rw[p3]at ac Mw;rw[p4]at ad Mx;have jA:=HgQ.out;have q1:=jA i j bC fS;have q2:=jA k k hlt hlt;have q3:=jA i k bC hlt;have q4:=jA k j hlt fS;obtain⟨m1,m2,m3⟩:=Xu g k i j Q q1 q2 q3 q4;have pL:=Hdv.out i j Cc bC hkj fS;have sZ:=fun a b=>congrFun (congrFun (awK g k last i j Cc hkj) a) b;have hN:g i j*g k k-g i k*g k j=dm g k i j:=rfl;generalize dm g k i j=N at*;obtain⟨x1,hx1⟩:∃x,g i j=x:=⟨_,rfl⟩;obtain⟨x2,hx2⟩:∃x,g k k=x:=⟨_,rfl⟩;obtain⟨x3,hx3⟩:∃x,g i k=x:=⟨_,rfl⟩;obtain⟨x4,JS⟩:∃x,g k j=x:=⟨_,rfl⟩;rw[hx1]at q1 m1 hN aa Mu;rw[hx2]at q2 m1 hN ab Mv;rw[hx3]at q3 m2 hN ac Mw;rw[JS]at q4 m2 hN ad Mx;obtain⟨P1,En⟩:∃x,x1*x2=x:=⟨_,rfl⟩;obtain⟨P2,uw⟩:∃x,x3*x4=x:=⟨_,rfl⟩;rw[En]at m1 hN;rw[uw]at m2 hN;have L1:(nt x1.natAbs).length<=17179869184:=lM q1 zo;have L2:(nt x2.natAbs).length<=17179869184:=lM q2 zo;have L3:(nt x3.natAbs).length<=17179869184:=lM q3 zo;have L4:(nt x4.natAbs).length<=17179869184:=lM q4 zo;have L5:(nt P1.natAbs).length<=34359738368:=lM m1 zo;have L6:(nt P2.natAbs).length<=34359738368:=lM m2 zo;have L7:(nt N.natAbs).length<=34359738368:=lM m3 zo;have L8:(nt last.natAbs).length<=34359738368:=lM HlQ.out zo;obtain⟨iA,Zu,FM,Zv,Zw,Zx,Zy,Zz,Da,ZE,HN,Dm⟩:=gg L1 L2 L3 L4 L5 L6 L7 L8 En uw hN pL;have aaS:=ar sZ;clear L1 L2 L3 L4 L5 L6 L7 L8 En uw hN pL sZ q1 q2 q3 q4 m1 m2 m3 hx1 hx2 hx3 JS jA p1 p2 p3 p4 ri rk;have Lg:∀(b o:Nat) (u v:Value),wr.cell? ⟨b,o,none⟩=some u->wr.cell? ⟨b,o+1,none⟩=some v->bH wr b o [u,v]:=by
              intro b o u v h1 h2 j hj;rcases j with _|_|j
              . exact h1
              . exact h2
              . simp at hj;omega
             have YS:∀(b o:Nat) (u:Value),wr.cell? ⟨b,o,none⟩=some u->bH wr b o [u]:=by
              intro b o u h1 j hj;obtain rfl:j=0:=by simp at hj;omega
              exact h1
             obtain⟨qK,yU,GI,yF,pj,QM,pk⟩:=mE Dg.out.2.2.2.1 (YS _ _ _ ei) (YS _ _ _ ek) (Lg _ _ _ _ aa Mu) (Lg _ _ _ _ ab Mv) (Lg _ _ _ _ ac Mw) (Lg _ _ _ _ ad Mx);clear YS Lg ei ek aa Mu ab Mv ac Mw ad Mx;have ixi:=EU n cap i (i:Int) (rfl:(some ⟨go,0,none⟩:Option Addr)=_) bC rfl;have ixk:=EU n cap k (k:Int) (rfl:(some ⟨go,0,none⟩:Option Addr)=_) hlt rfl;rw[Nat.zero_add,Nat.mul_one]at ixi ixk;have Pb:=xZ n ci j (j:Int) (rfl:(some ⟨gi,0,none⟩:Option Addr)=_) fS rfl;have iik:=xZ n ci k (k:Int) (rfl:(some ⟨gi,0,none⟩:Option Addr)=_) hlt rfl;have ikj:=xZ n ck j (j:Int) (rfl:(some ⟨gk,0,none⟩:Option Addr)=_) fS rfl;have ikk:=xZ n ck k (k:Int) (rfl:(some ⟨gk,0,none⟩:Option Addr)=_) hlt rfl;rw[Nat.zero_add]at Pb iik ikj ikk;go_upto_region 18 with fail
             go_cut[10] (λqi wx=>∃b:Nat,qi=.pointer (some ⟨b,0,none⟩)/\au wx b 46 [aj (aC N),ai (nt N.natAbs)]/\Bw wr wx);case first=>
              clear HgQ HQ HlQ aau Me Hg ZX aal aaS Dm yJ Dg;obtain⟨w0,hw0⟩:∃w0,w0=w:=⟨_,rfl⟩;subst hw0;obtain⟨w,JR⟩:∃w,w=wr:=⟨_,rfl⟩;subst JR;have Hb:=hbz w;have fq:=qK.out.c1;have wJ:=yU.out.w1;have AG:=GI.out.w1;obtain⟨Tg,Ti⟩:=yF.out.w2;obtain⟨yZ,za⟩:=pj.out.w2;obtain⟨ac0,ac1⟩:=QM.out.w2;obtain⟨ad0,ad1⟩:=pk.out.w2;obtain⟨cs,hcs⟩:∃cs:List (Addr×Value),[(⟨wk.heap.size,0,none⟩,ah (k:Int)),(⟨go,i,none⟩,.slice (some ⟨gi,0,none⟩) n ci),(⟨go,k,none⟩,.slice (some ⟨gk,0,none⟩) n ck),(⟨gi,j*2,none⟩,aj (aC x1)),(⟨gi,j*2+1,none⟩,ai (nt x1.natAbs)),(⟨gk,k*2,none⟩,aj (aC x2)),(⟨gk,k*2+1,none⟩,ai (nt x2.natAbs)),(⟨gi,k*2,none⟩,aj (aC x3)),(⟨gi,k*2+1,none⟩,ai (nt x3.natAbs)),(⟨gk,j*2,none⟩,aj (aC x4)),(⟨gk,j*2+1,none⟩,ai (nt x4.natAbs))]=cs:=⟨_,rfl⟩;have fe:∀w',kE cs w'->aF w' (wk.heap.size) 0 (ah (k:Int))/\aF w' go i (.slice (some ⟨gi,0,none⟩) n ci)/\aF w' go k (.slice (some ⟨gk,0,none⟩) n ck)/\aF w' gi (j*2) (aj (aC x1))/\aF w' gi (j*2+1) (ai (nt x1.natAbs))/\aF w' gk (k*2) (aj (aC x2))/\aF w' gk (k*2+1) (ai (nt x2.natAbs))/\aF w' gi (k*2) (aj (aC x3))/\aF w' gi (k*2+1) (ai (nt x3.natAbs))/\aF w' gk (j*2) (aj (aC x4))/\aF w' gk (j*2+1) (ai (nt x4.natAbs)):=by subst hcs;intro w' h;exact⟨h.hd,h.tl.hd,h.tl.tl.hd,h.tl.tl.tl.hd,h.tl.tl.tl.tl.hd,h.tl.tl.tl.tl.tl.hd,h.tl.tl.tl.tl.tl.tl.hd,h.tl.tl.tl.tl.tl.tl.tl.hd,h.tl.tl.tl.tl.tl.tl.tl.tl.hd,h.tl.tl.tl.tl.tl.tl.tl.tl.tl.hd,h.tl.tl.tl.tl.tl.tl.tl.tl.tl.tl.hd⟩
              have bz:Hid (kE cs w):=by subst hcs;show kE _ _;intro p hp;simp only[List.mem_cons,List.not_mem_nil,or_false]at hp;rcases hp with rfl|rfl|rfl|rfl|rfl|rfl|rfl|rfl|rfl|rfl|rfl<;>assumption
              refine aAC (λw'=>kE cs w') (λi=>Nat.blt i 34) [14,15,30,31,32,33] (λk=>if k=15 then[14]else if k=31 then[15,30]else if k=32 then[15,31]else[]) [(34,false)] [0,1,2,3,4,5,6,7,8,9,10,11,12,13,16,17,18,19,20,21,22,23,24,25,26,27,28,29] zk zk rfl zk zc bz.out.drew ?_;iterate 28 (refine aw0 rfl rfl (v:=?_) (λw' hw'=>?_) ?_;rotate_left;(focus have hw':=fe w' hw';obtain⟨q0,q1,q2,q3,q4,q5,q6,q7,q8,q9,CP⟩:=hw';go_simp;try with_reducible rfl))
              clear fq wJ AG Tg Ti yZ za ac0 ac1 ad0 ad1 qK yU GI yF pj QM pk fe hcs;refine awZ (λa0=>Mq a0 w cs x1 x2 x3 x4 P1 P2 N) (Mq.init _ _ _ _ _ _ _ _ _ _ _ bz.out.drew (Below.refl _ _).drew) ?_ ?_ ?_
              . rintro dn a' w' ⟨_,_,_,_,_,_,_,h,_⟩;exact h
              . intro k0 nu dn a' w' _ hD hI;obtain⟨v1,v2,v3,v4,v5,v6,rfl,xD,mz,f1,f2,f3,f4,f5,f6⟩:=hI;simp only[List.mem_cons,List.not_mem_nil,or_false]at nu;rcases nu with rfl|rfl|rfl|rfl|rfl|rfl
                . have Ei:=xD.alloc (.cells #[aj (aC x1),ai (nt x1.natAbs),aj (aC x2),ai (nt x2.natAbs)] 46);have hal:=(Below.refl w'.heap.size w').alloc (Nat.le_refl _) (.cells #[aj (aC x1),ai (nt x1.natAbs),aj (aC x2),ai (nt x2.natAbs)] 46);refine Fh rfl rfl (λK hK=>?_);clear f1;simp only[Act.put,U1,U2,U3];go_simp;refine hK _ _ ⟨.slice (some ⟨w'.heap.size,0,none⟩) 2 2,v2,v3,v4,v5,v6,by simp only[Act.put,U1,U2,U3],Ei,aO mz hal,λ_=>⟨_,rfl,au.new _ _ _⟩,λh=>f2 (by simpa using h),λh=>?_,λh=>f4 (by simpa using h),λh=>f5 (by simpa using h),λh=>?_⟩
                  . obtain⟨b,e,q⟩:=f3 (by simpa using h);exact⟨b,e,q.below hal⟩
                  . obtain⟨b,e,hb,q⟩:=f6 (by simpa using h);exact⟨b,e,hb,q.below hal⟩
                . obtain⟨b,rfl,q⟩:=f1 (hD 14 zm);refine Fh rfl rfl (λK hK=>?_);clear f1;simp only[Act.put,U1,U2,U3];go_simp;with_reducible refine(ajs x1 x2 P1 Da.out b 2 _ _ iA.out Zu.out q).mono ?_
                  rintro e w2 ⟨rfl,hq⟩;refine hK _ _ ⟨_,dO P1,v3,v4,v5,v6,by simp only[Act.put,U1,U2,U3],xD.below hq,aO mz hq,λ_=>⟨b,rfl,q.below hq⟩,λ_=>rfl,λh=>?_,λh=>f4 (by simpa using h),λh=>f5 (by simpa using h),λh=>?_⟩
                  . obtain⟨b,e,q⟩:=f3 (by simpa using h);exact⟨b,e,q.below hq⟩
                  . obtain⟨b,e,hb,q⟩:=f6 (by simpa using h);exact⟨b,e,hb,q.below hq⟩
                . have Ei:=xD.alloc (.cells #[aj (aC x3),ai (nt x3.natAbs),aj (aC x4),ai (nt x4.natAbs)] 46);have hal:=(Below.refl w'.heap.size w').alloc (Nat.le_refl _) (.cells #[aj (aC x3),ai (nt x3.natAbs),aj (aC x4),ai (nt x4.natAbs)] 46);refine Fh rfl rfl (λK hK=>?_);clear f3;simp only[Act.put,U1,U2,U3];go_simp;refine hK _ _ ⟨v1,v2,.slice (some ⟨w'.heap.size,0,none⟩) 2 2,v4,v5,v6,by simp only[Act.put,U1,U2,U3],Ei,aO mz hal,λh=>?_,λh=>f2 (by simpa using h),λ_=>⟨_,rfl,au.new _ _ _⟩,λh=>f4 (by simpa using h),λh=>f5 (by simpa using h),λh=>?_⟩
                  . obtain⟨b,e,q⟩:=f1 (by simpa using h);exact⟨b,e,q.below hal⟩
                  . obtain⟨b,e,hb,q⟩:=f6 (by simpa using h);exact⟨b,e,hb,q.below hal⟩
                . obtain⟨b,rfl,q⟩:=f3 (hD 30 zm);obtain rfl:=f2 (hD 15 zm);refine Fh rfl rfl (λK hK=>?_);clear f3;simp only[Act.put,U1,U2,U3];go_simp;with_reducible refine(ajs x3 x4 P2 ZE.out b 2 _ _ FM.out Zv.out q).mono ?_
                  rintro e w2 ⟨rfl,hq⟩;refine hK _ _ ⟨v1,dO P1,.slice (some ⟨b,0,none⟩) 2 2,dO P2,v5,v6,by simp only[Act.put,U1,U2,U3],xD.below hq,aO mz hq,λh=>?_,λ_=>rfl,λ_=>⟨b,rfl,q.below hq⟩,λ_=>rfl,λh=>f5 (by simpa using h),λh=>?_⟩
                  . obtain⟨b,e,q⟩:=f1 (by simpa using h);exact⟨b,e,q.below hq⟩
                  . obtain⟨b,e,hb,q⟩:=f6 (by simpa using h);exact⟨b,e,hb,q.below hq⟩
                . obtain rfl:=f2 (hD 15 zm);obtain rfl:=f4 (hD 31 zm);refine Fh rfl rfl (λK hK=>?_);clear f2 f4;simp only[Act.put,U1,U2,U3];go_simp;with_reducible refine(aAl P1 P2 N HN.out _ Zw.out Zx.out).mono ?_
                  rintro e w2 ⟨rfl,hq⟩;refine hK _ _ ⟨v1,_,v3,_,dO N,v6,by simp only[Act.put,U1,U2,U3],xD.below hq,aO mz hq,λh=>?_,λ_=>rfl,λh=>?_,λ_=>rfl,λ_=>rfl,λh=>?_⟩
                  . obtain⟨b,e,q⟩:=f1 (by simpa using h);exact⟨b,e,q.below hq⟩
                  . obtain⟨b,e,q⟩:=f3 (by simpa using h);exact⟨b,e,q.below hq⟩
                  . obtain⟨b,e,hb,q⟩:=f6 (by simpa using h);exact⟨b,e,hb,q.below hq⟩
                . have Ei:=xD.alloc (.cells #[aj false,.string ⟨#[]⟩] 46);have hal:=(Below.refl w'.heap.size w').alloc (Nat.le_refl _) (.cells #[aj false,.string ⟨#[]⟩] 46);refine Fh rfl rfl (λK hK=>?_);clear f6;simp only[Act.put,U1,U2,U3];go_simp;refine hK _ _ ⟨v1,v2,v3,v4,v5,.pointer (some ⟨w'.heap.size,0,none⟩),by simp only[Act.put,U1,U2,U3],Ei,aO mz hal,λh=>?_,λh=>f2 (by simpa using h),λh=>?_,λh=>f4 (by simpa using h),λh=>f5 (by simpa using h),λ_=>⟨_,rfl,mz.size,au.new _ _ _⟩⟩
                  . obtain⟨b,e,q⟩:=f1 (by simpa using h);exact⟨b,e,q.below hal⟩
                  . obtain⟨b,e,q⟩:=f3 (by simpa using h);exact⟨b,e,q.below hal⟩
              . intro dn a' w' hall hI;obtain⟨v1,v2,v3,v4,v5,v6,rfl,xD,mz,f1,f2,f3,f4,f5,f6⟩:=hI;obtain rfl:=f5 (hall 32 zm);obtain⟨b,rfl,hb,q⟩:=f6 (hall 33 zm);obtain⟨yg,aBW,fK,aBX⟩:=q.g2;have hQ9:=(q.set 0 (aj (aC N))).set 1 (ai (nt N.natAbs));have hB9:=(mz.sc b 0 hb (aj (aC N))).sc b 1 hb (ai (nt N.natAbs));clear f1 f2 f3 f4 f5 f6;refine aR rfl rfl (λK hK=>?_);simp only[Act.put,U1,U2,U3];go_simp;refine hK _ _ (λh=>absurd h zd) ?_;simp only[bu];go_wp2_with fail;go_meet;exact⟨b,rfl,hQ9,hB9⟩
             case rest=>
              obtain⟨bx,rfl,qx,qb⟩:=hcut;obtain⟨tV,Gi⟩:=aZ (Dg.out.below qb) qx;clear qx qb Dg qK yU GI yF pj QM pk ixk iik ikj ikk Pb iA Zu FM Zv Zw Zx Da ZE HN li lk ti tk;obtain⟨g9,c9,lt9,lu9,e9,r9,f9⟩:=tV.out.aF9 i bC;have ne9:=tV.out.1.row_ne i bC e9;have nx9:bx≠g9:=by rintro rfl;have h1:=(r9 1 zo).1;rw[Gi.out.cell]at h1;simp at h1
              obtain⟨XT,XU⟩:=r9 j fS;obtain⟨y,hy⟩:=aK (mI g k last i j i j);rw[hy]at XT XU;have yU:Hid (bH wc go i [.slice (some ⟨g9,0,none⟩) n c9]):=λj hj=>by
               obtain rfl:j=0:=by simp at hj;omega
               exact e9
              have yF:Hid (bH wc g9 (j*2) [aj (aC y),ai (nt y.natAbs)]):=λj' hj=>by
               rcases j' with _|_|j'
               . exact XT
               . exact XU
               . simp at hj;omega
              have Hl:=ar tV.out.2.2.1;have Pb:=xZ n c9 j (j:Int) (rfl:(some ⟨g9,0,none⟩:Option Addr)=_) fS rfl;rw[Nat.zero_add]at Pb;obtain⟨Dv,Uv⟩:=aK (N/last);have hdc:Cl 152 #[.agg #[aj (aC N),ai (nt N.natAbs)],.agg #[aj (aC last),ai (nt last.natAbs)]] wc.drew λe w'=>∃r,e=.returned (.tuple #[dO Dv,r,aj true])/\(w'.frozen? ⟨g9,j*2,none⟩=false/\w'.frozen? ⟨g9,j*2+1,none⟩=false)/\Below wc.drew.heap.size wc.drew w':=
               (aAf N last wc.drew Zy.out Zz.out sB.out Dm.out).mono (λe w' ⟨r,he,hb⟩=>⟨r,by rw[he,Uv],⟨(f9 w' (bo hb)).1 _,(f9 w' (bo hb)).1 _⟩,hb⟩)
              obtain⟨LP,rJ,QC⟩:=cX f9 hdc Uv;clear XT XU hy e9 r9 f9 hdc Uv Zy Zz Dm;have Hb:=hbz wc;go_wp2_with fail;have wJ:=yU.out.w1;obtain⟨Tg,Ti⟩:=yF.out.w2;obtain⟨yg,fK⟩:=Gi.out.c2;obtain⟨l0,l1⟩:=Hl.out.c2;refine bV (λw'=>aF w' go i (.slice (some ⟨g9,0,none⟩) n c9)/\aF w' bx 0 (aj (aC N))/\aF w' bx 1 (ai (nt N.natAbs))/\aF w' (w1.heap.size) 0 (aj (aC last))/\aF w' (w1.heap.size) 1 (ai (nt last.natAbs))) (λi=>Nat.blt i 100000) [(0,true),(1,true),(2,true),(3,true),(4,true),(5,true),(6,true),(7,false),(8,true),(9,true),(10,true),(11,true),(12,true),(13,false)] zk zk rfl zk zc ⟨wJ,yg,fK,l0,l1⟩ ?_;iterate 7 (refine pT rfl rfl ?_ (by intro w' ⟨q0,q1,q2,q3,q4⟩;go_simp;try with_reducible rfl))
              refine aR rfl rfl (λK hK=>?_);go_simp;with_reducible refine(rJ.out).mono ?_
              rintro e w5 ⟨rr,rfl,⟨z0,z1⟩,hq⟩;have ag:Bw wc w5:=by first|exact hq|exact bo hq
              replace yU:=kW yU ag;replace yF:=kW yF ag;replace Gi:=kB Gi ag;replace Hl:=kB Hl ag;have wJ:=yU.out.w1;obtain⟨Tg,Ti⟩:=yF.out.w2;obtain⟨yg,fK⟩:=Gi.out.c2;obtain⟨l0,l1⟩:=Hl.out.c2;replace Hb:=az Hb ag;refine hK _ _ (λ_=>⟨wJ,yg,fK,l0,l1⟩) ?_
              iterate 5 (refine pT rfl rfl ?_)
              refine aR rfl rfl (λK hK=>?_);go_simp;refine hK _ _ (by first|exact λh=>absurd h zd|exact λ_=>⟨wJ,yg,fK,l0,l1⟩ |exact λ_=>⟨(by first|exact wJ|exact aU zf wJ|exact aU zf (aU zf wJ) |exact aU zf (aU zf (aU zf wJ))),(by first|exact yg|exact aU zf yg|exact aU zf (aU zf yg) |exact aU zf (aU zf (aU zf yg))),(by first|exact fK|exact aU zf fK|exact aU zf (aU zf fK) |exact aU zf (aU zf (aU zf fK))),(by first|exact l0|exact aU zf l0|exact aU zf (aU zf l0) |exact aU zf (aU zf (aU zf l0))),(by first|exact l1|exact aU zf l1|exact aU zf (aU zf l1) |exact aU zf (aU zf (aU zf l1)))⟩) ?_
              simp only[bu];go_wp2;go_roundw;case rel=>have h9:=(LP.out w5 Hb.out).2 j fS Dv;rw[<-QC.out]at h9;exact⟨j+1,by omega,by omega,by go_num,by rw[QC.out]at h9;exact h9.congr (λa b _ _=>by rw[<-QC.out];exact aaS.out a b)⟩
              case measure=>exact bI
           . obtain rfl:j=n:=by omega
             have HT:=ar hT;clear hT;go_wp2;go_roundw;case rel=>exact⟨i+1,by omega,by omega,by go_num,HT.out.congr (λa b _ hb=>awL g k last i j a b hb)⟩
             case measure=>exact bI
        . obtain rfl:i=n:=by omega
          have hT:=FU.out.congr (λa b ha _=>awI g k last i a b ha);obtain⟨gk,ck,lk,tk,ek,rk,_⟩:=hT.row k hlt;have e1:eI g k last k k=g k k:=by unfold eI;rw[if_neg zo]
          obtain⟨Nh,Ni⟩:=rk k hlt;rw[e1]at Nh Ni;obtain⟨x,hx⟩:=aK (g k k);have jm:=yJ.out;have hg2:=aau.out;have Hn:Hid (∃Q,Q+1<=2^(k+1) * (K+1)/\x.natAbs<2^Q/\∀a b,a<i->b<i->(eI g k last a b).natAbs<2^Q):=⟨2*Q+1,by have:=HQ.out;omega,by rw[<-hx];exact hg2,Me.out⟩;have Rf:=aal.out;have QR:=ZX.out;rw[hx]at Nh Ni jm Rf QR;obtain⟨HE2,HBA⟩:=aZ Rf QR;have hLK:w1.heap.size<wk.heap.size:=by have:=au2;omega
          obtain⟨AY,Hl⟩:=aZ (hT.setLast x zo zo) hT.2.2.1;have afi:=EU i cap k (k:Int) (rfl:(some ⟨go,0,none⟩:Option Addr)=_) hlt rfl;have as2:=xZ i ck k (k:Int) (rfl:(some ⟨gk,0,none⟩:Option Addr)=_) hlt rfl;rw[Nat.zero_add]at afi as2;rw[Nat.mul_one]at afi;have qK:=ar hT.2.2.2.1;have GI:Hid (bH wr go k [.slice (some ⟨gk,0,none⟩) i ck]):=λj hj=>by
           obtain rfl:j=0:=by simp at hj;omega
           exact ek
          have pj:Hid (bH wr gk (k*2) [aj (aC x),ai (nt x.natAbs)]):=λj hj=>by
           rcases j with _|_|j
           . exact Nh
           . exact Ni
           . simp at hj;omega
          have Hhx:=ar hx;clear hT rk ek Nh Ni e1 hg2 Rf QR fq hx FU;go_wp2_with fail;have fq:=qK.out.c1;have AG:=GI.out.w1;obtain⟨yZ,za⟩:=pj.out.w2;obtain⟨l0,BI,l1,BJ⟩:=Hl.out.g2;refine bV (λw'=>aF w' (wk.heap.size) 0 (ah (k:Int))/\aF w' go k (.slice (some ⟨gk,0,none⟩) i ck)/\aF w' gk (k*2) (aj (aC x))/\aF w' gk (k*2+1) (ai (nt x.natAbs))) (λi=>Nat.blt i 7) [(0,true),(1,true),(2,true),(3,true),(4,true),(5,true),(6,true),(7,false)] zk zk rfl zk zc ⟨fq,AG,yZ,za⟩ ?_;iterate 7 (refine pT rfl rfl ?_ (by intro w' ⟨q0,q1,q2,q3⟩;go_simp;try with_reducible rfl))
          refine aR rfl rfl (λK hK=>?_);go_simp;refine hK _ _ (by first|exact λh=>absurd h zd|exact λ_=>⟨fq,AG,yZ,za⟩ |exact λ_=>⟨(by first|exact fq|exact aU zf fq|exact aU zf (aU zf fq) |exact aU zf (aU zf (aU zf fq))),(by first|exact AG|exact aU zf AG|exact aU zf (aU zf AG) |exact aU zf (aU zf (aU zf AG))),(by first|exact yZ|exact aU zf yZ|exact aU zf (aU zf yZ) |exact aU zf (aU zf (aU zf yZ))),(by first|exact za|exact aU zf za|exact aU zf (aU zf za) |exact aU zf (aU zf (aU zf za)))⟩) ?_
          simp only[bu];go_wp2;go_roundw;case rel=>exact⟨k+1,eI g k last,x,_,by omega,by go_num,rfl,Bs.next AY.out.drew (λ_ _ _ _=>rfl) jm HE2.out HBA.out Hn.out⟩
          case measure=>exact bI
  . obtain rfl:k=n:=by omega
    obtain⟨q1,q2,q3,_,q5,_,Q,hQ,Jp,_⟩:=hS;have gH:=mS.out k Q (Nat.le_refl _) hQ;have hll:(nt last.natAbs).length<=1099511627776:=lM Jp zo;rw[Nat.sub_self]at q5;unfold fF at q5;obtain⟨Hr,Hl,Hq,HZ,LS⟩:=fU q2 q3 q1 q5 hll;clear q1 q2 q3 q5 hQ Jp hll gH;have Hb:=hbz wk;obtain⟨r0,aH,r1,aI⟩:=Hr.out.g2;obtain⟨l0,BI,l1,BJ⟩:=Hl.out.g2;have Ex:=Hq.out.2.2.1;cases t with
    | false=>
      have Hz:Hid (last=Z):=by have hz:=HZ.out;simp only[Bool.false_eq_true,if_false]at hz;exact hz
      go_wp2;refine bodyPost_ret (v:=.agg #[aj (aC last),ai (nt last.natAbs)]) (by simp[results,Tryz.results113,go_sem,r0,r1]) rfl ⟨by rw[Hz.out],?_⟩;exact(Ex.setCell zp _).setCell zp _
    | true=>
      have Hz:Hid (-last=Z):=by have hz:=HZ.out;simp only[if_true]at hz;exact hz
      have hneg:∀W,Cv 114 #[.agg #[aj (aC last),ai (nt last.natAbs)]] W (dO (-last)):=λW=>by have:=aju (aC last) (nt last.natAbs) W LS.out;rw[gK]at this;exact this
      go_wp2_with fail;refine(hneg _).mono ?_;rintro e w4 ⟨rfl,ag⟩;obtain⟨Hr,r0,aH,r1,aI⟩:=bA Hr ag;obtain⟨Hl,l0,BI,l1,BJ⟩:=bA Hl ag;replace Hb:=az Hb ag;clear ag hneg;go_wp2;refine bodyPost_ret (v:=.agg #[aj (aC (-last)),ai (nt (-last).natAbs)]) (by simp[results,Tryz.results113,go_sem,r0,r1]) rfl ⟨by rw[Hz.out],?_⟩;exact((Ex.trans (Hb.out.mono (by have:=Hq.out.2.2.2;omega))).setCell zp _).setCell zp _
def ao1 (n l k:Nat)(f:Nat->Nat->Int)(last:Int)(t:Bool)(Q:Nat)(hk:k+l=n)(hl:last.natAbs<2^Q)(hf:∀a b,a<n->b<n->(f a b).natAbs<2^Q)(hex:iI n l k f last):(fF n l k f last t).natAbs<2^(2^l* (Q+1)):=by
 induction l generalizing k f last t Q with
 | zero=>
   unfold fF;have h1:2^Q<=2^(2^0* (Q+1)):=Nat.pow_le_pow_right zd zm;split
   . rw[Int.natAbs_neg];omega
   . omega
 | succ l ih=>
   unfold fF;unfold iI at hex;cases hp:sf f n k with
   |none=>exact Nat.pow_pos zd
   | some m=>
     rw[hp]at hex;simp only at hex⊢;have JC:=nO hp;obtain⟨g,hg⟩:∃g,g=cQ f k (k+m):=⟨_,rfl⟩;rw[<-hg]at hex⊢;have hkn:k<n:=by omega
     have jA:∀a b,a<n->b<n->(g a b).natAbs<2^Q:=by
      intro a b ha hb;rw[hg];unfold cQ;refine hf _ _ ?_ hb;split
      . omega
      . split
        . omega
        . exact ha
     have IL:2^Q<=2^(2*Q+1):=Nat.pow_le_pow_right zd zo;have e:2^(l+1) * (Q+1)=2^l* (2*Q+1+1):=by rw[Nat.pow_succ,Nat.mul_assoc];congr 1
     rw[e];refine ih (k+1) _ _ _ (2*Q+1) zo (Nat.lt_of_lt_of_le (jA k k hkn hkn) IL) (λa b ha hb=>?_) hex.2;unfold eI;split
     . rename_i h4
       have h5:=(Xu g k a b Q (jA a b ha hb) (jA k k hkn hkn) (jA a k ha hkn) (jA k b hkn hb)).2.2;rcases div_lt _ last _ h5 with h6|h6
       . exact h6
       . exact absurd (hex.1 a b h4.1 ha h4.2 hb) h6
     . exact Nat.lt_of_lt_of_le (jA a b ha hb) IL
def dx (D:List (List Dyadic))(i j:Nat):Dyadic:=(D.getD i []).getD j 0
def azt (D:List (List Dyadic))(n:Nat)(g:Dyadic->Int)(hl:D.length=n)(hr:∀r∈D,r.length=n):(D.map λr=>r.map g)=fE (λi j=>g (dx D i j)) n:=by
 apply List.ext_getElem
 . simp[fE,hl]
 . intro i h1 h2;have hi:i<D.length:=by simpa using h1
   have hri:=hr _ (List.getElem_mem hi);apply List.ext_getElem
   . simp[fE,hri]
   . intro j h3 h4;have hj:j<D[i].length:=by simpa using h3
     simp[fE,dx,List.getD_eq_getElem?_getD,hi,hj]
def acR {D:List (List Dyadic)}{n i j:Nat}(hl:D.length=n)(hr:∀r∈D,r.length=n)(hi:i<n)(hj:j<n):∃r∈D,dx D i j∈r:=by
 have h1:i<D.length:=by omega
 have h2:j<D[i].length:=by rw[hr _ (List.getElem_mem h1)];exact hj
 refine⟨D[i],List.getElem_mem h1,?_⟩;have:dx D i j=D[i][j]:=by simp[dx,List.getD_eq_getElem?_getD,h1,h2]
 rw[this];exact List.getElem_mem h2
def TV (a:Option Addr)(cap n:Nat)(rows:List (List Raw))(B:Nat)(D:List (List Dyadic))(X:Dyadic)(w:World)(hn:1<=n)(cV:n<=4)(hL:rows.length=n)(hrow:∀r∈rows,r.length=n)(ha:cZ w a rows)
 (hfit:∀r∈rows,∀c∈r,Fit B c) (bX:1<=B) (hB:B<=1000000) (hT:aM w) (hD:(rows.map λr=>r.map aJ)=D) (hX:eU n (dx D)=X):
 Cv 67 #[.slice a n cap] w (.tuple #[cK X,ah 0]):=by
 obtain⟨low,lI⟩:=aK (oM 0 D);have hDl:D.length=n:=by rw[<-hD];simp[hL]
 have NI:∀r∈D,r.length=n:=by intro r hr;rw[<-hD]at hr;obtain⟨x,hx,rfl⟩:=List.mem_map.1 hr;simpa using hrow x hx
 have xC:∀r∈D,∀d∈r,Sm B d:=by intro r hr d hd;rw[<-hD]at hr;obtain⟨x,hx,rfl⟩:=List.mem_map.1 hr;obtain⟨y,hy,rfl⟩:=List.mem_map.1 hd;exact(hfit x hx y hy).2
 have hlo:=WY 0 D;rw[lI]at hlo;have hlb: -(B:Int)<=low:=by rw[<-lI];exact WX 0 D _ zo (λr hr d hd=>(xC r hr d hd).parts.2.1)
 obtain⟨f,hf⟩:∃f:Nat->Nat->Int,f=λi j=>tB low (dx D i j):=⟨_,rfl⟩;have Ag:(D.map λr=>r.map (tB low))=fE f n:=by rw[hf];exact azt D n (tB low) hDl NI
 have hK:∀a b,a<n->b<n->(f a b).natAbs<2^(4*B):=by
  intro i j hi hj;obtain⟨r,hr,hm⟩:=acR hDl NI hi hj;obtain⟨s1,s2,s3⟩:=(xC r hr _ hm).parts;rw[hf];show(tB low (dx D i j)).natAbs<_
  unfold tB;rw[Int.natAbs_mul,Int.natAbs_pow,show 4*B=2*B+2*B by omega,Nat.pow_add];exact Nat.lt_of_lt_of_le (Nat.mul_lt_mul_of_pos_right s1 (Nat.pow_pos zd)) (Nat.mul_le_mul_left _ (Nat.pow_le_pow_right zd zo))
 have hent:∀i j,i<n->j<n->dx D i j=Dyadic.ofIntWithPrec (f i j) (-low):=by intro i j hi hj;obtain⟨r,hr,hm⟩:=acR hDl NI hi hj;rw[hf];exact(ayR low _ (hlo.2 r hr _ hm)).symm
 have rq:=aqJ n hn cV f (dx D) (-low) hent;have hex:=acW n hn cV f;have hzl:=ao1 n n 0 f 1 false (4*B) zo (Nat.one_lt_two_pow zo) hK hex;obtain⟨z,hz⟩:=aK (fF n n 0 f 1 false);rw[hz]at hzl rq;have OY:(nt z.natAbs).length<=34359738368:=by refine lM hzl ?_;have:2^n<=2^4:=Nat.pow_le_pow_right zd cV;have:=Nat.mul_le_mul_right (4*B+1) this;omega
 obtain⟨e,he⟩:∃e:Int,low*n=e:=⟨_,rfl⟩;have heb: -4000000<=e/\e<=4000000:=by
  have hl0:=hlo.1;have hc:n=1\/n=2\/n=3\/n=4:=by omega
  rcases hc with rfl|rfl|rfl|rfl<;>omega
 have pL:aJ (aC z,nt z.natAbs,e)=X:=by
  rw[<-hX,rq];show Dyadic.ofIntWithPrec (iv (aC z) (nt z.natAbs)) (-e)=_
  rw[gK,<-he];congr 1;rw[Int.mul_comm,Int.mul_neg]
 obtain⟨nl,hnl⟩:=aK (-low);have hw1:IntKind.i64.wrap (-nl)=low:=by rw[IntKind.wrap_i64];have:=hlo.1;omega
 have hw2:IntKind.i64.wrap (low* (n:Int))=e:=by rw[he,IntKind.wrap_i64];omega
 have hm0:ye rows=0:=by
  unfold ye;rw[if_neg];rintro(h|h)
  . omega
  . rw[List.any_eq_true]at h;obtain⟨r,hr,h⟩:=h;have:=hrow r hr;simp at h;omega
 have hch:=λW=>λ(h:cZ W a rows)=>Xg a n cap rows W hL zo h;rw[hm0]at hch;have hsc:=λW=>λ(h:cZ W a rows) (hT:aM W)=>aiu a n cap n rows B low W hL zo zo hrow h hfit zo hT (by rw[hD];exact lI);rw[hD,Ag,hnl]at hsc;have hbr:=λv W base=>λ(h:kg W base n (fE f n) n v) (h2:base<=W.heap.size)=>ao4 base n (4*B) f v W hn cV h h2 zo hK zo;rw[hz]at hbr;have hmk:=λW=>λ(hT:aM W)=>Ao (aC z) (nt z.natAbs) e X pL W OY zo hT;obtain⟨AV,mR,AQ,mh,Ha,HT⟩:=iq hch hsc hbr hmk ha hT;clear hch hsc hbr hmk ha hT hm0 pL heb he OY hz hzl hex rq hent hK Ag hf hlb hlo xC NI hDl lI hD hX hfit hrow hL hnl;have Hb:=hbz w;go_enter Tryz.func67,Tryz.ntmps67;go_wp2_with fail;have q:=fK w 48 [aj false,.string ⟨#[]⟩,ah 0];first|refine cd _ q ?_|refine cw _ q ?_
 clear q;rintro W ⟨Hr,ag⟩;obtain⟨r0,aH,r1,aI,r2,aX⟩:=Hr.out.g3;replace Hb:=az Hb ag;have HA:Hid (cZ W a rows):=Ha.out.below Hb.out;have HU:Hid (aM W):=HT.out.below Hb.out;go_wp2_with fail;refine(AV.out _ HA.out).mono ?_;rintro e w1 ⟨rfl,ag⟩;obtain⟨Hr,r0,aH,r1,aI,r2,aX⟩:=bg Hr ag;replace HA:=kL HA ag;replace HU:=kT HU ag;replace Hb:=az Hb ag;go_wp2_with fail;refine(mR.out _ HA.out HU.out).mono ?_;rintro e' w2 ⟨v,rfl,hO,hb2⟩;have HO:=ar hO;have sk:=hb2.size;clear hO;go_wp2_with fail;refine(AQ.out v w2 w1.heap.size HO.out sk).mono ?_;rintro e' w3 ⟨rfl,hb3⟩;have hb4:=hb2.trans hb3;clear hb2 hb3 HO r0 aH r1 aI r2 aX;replace Hr:=kB Hr hb4;replace HA:=kL HA hb4;replace HU:=kT HU hb4;obtain⟨r0,aH,r1,aI,r2,aX⟩:=Hr.out.g3;replace Hb:=ar (aO Hb.out hb4);clear hb4;go_wp2_with fail;refine(mh.out _ HU.out).mono ?_;rintro e w4 ⟨rfl,ag⟩;obtain⟨Hr,r0,aH,r1,aI,r2,aX⟩:=bg Hr ag;replace HA:=kL HA ag;replace HU:=kT HU ag;replace Hb:=az Hb ag;go_wp2;refine fP (bY w4 (w.heap.size) 0 [aj (aC (dN X)),ai (nt (dN X).natAbs),ah (dE X)]) cC ?_;intro w9 hs;replace Hr:=dt Hr hs;obtain⟨r0,aH,r1,aI,r2,aX⟩:=Hr.out.g3;replace Hb:=bS Hb hs ZS;clear hs;refine bodyPost_ret (v:=.tuple #[cK X,ah 0]) (by simp[results,Tryz.results67,go_sem,r0,r1,r2]) rfl ⟨rfl,Hb.out⟩
def cF (rows:List (List Raw)):Nat->Nat->Dyadic:=λa b=>dx (rows.map λr=>r.map aJ) a b
def aqM (o p:List Raw)(k:Nat)(h:k<p.length)(h':k<o.length):(lA o p).getD k 0=aJ p[k]-aJ o[k]:=by unfold lA;rw[List.getD_eq_getElem?_getD,List.getElem?_zipWith];simp[h,h']
def tv (rows:List (List Raw))(a b:Nat)(ha:a<rows.length)(hb:b<rows[a].length):cF rows a b=aJ rows[a][b]:=by simp[cF,dx,List.getD_eq_getElem?_getD,ha,hb]
def aiz (n:Nat)(rows:List (List Raw))(hL:rows.length=n+1)(hrow:∀r∈rows,r.length=n)(i j:Nat)(hi:i<n)(hj:j<n):
 dx ((rows.drop 1).map λp=>lA (rows.getD 0 []) p) i j=cF rows (i+1) j-cF rows 0 j:=by
 have h0:0<rows.length:=by omega
 have h1:i+1<rows.length:=by omega
 have l0:=hrow _ (List.getElem_mem h0);have l1:=hrow _ (List.getElem_mem h1);rw[tv rows (i+1) j h1 zo,tv rows 0 j h0 zo];have e0:rows.getD 0 []=rows[0]:=by simp[h0]
 have e1:((rows.drop 1).map λp=>lA (rows.getD 0 []) p).getD i []=lA rows[0] rows[i+1]:=by rw[e0,List.getD_eq_getElem?_getD,List.getElem?_map,List.getElem?_drop];rw[show 1+i=i+1 by omega,List.getElem?_eq_getElem h1];rfl
 unfold dx;rw[e1,aqM _ _ _ zo zo]
def MV (n:Nat)(cV:n<=4){e f:Nat->Nat->Dyadic}(h:∀i j,i<n->j<n->e i j=f i j):eU n e=eU n f:=by
 have hc:n=0\/n=1\/n=2\/n=3\/n=4:=by omega
 rcases hc with rfl|rfl|rfl|rfl|rfl
 . rfl
 . exact h 0 0 zo zo
 . unfold eU;simp only;rw[h 0 0 zo zo,h 0 1 zo zo,h 1 0 zo zo,h 1 1 zo zo]
 . unfold eU;simp only;rw[h 0 0 zo zo,h 0 1 zo zo,h 0 2 zo zo,h 1 0 zo zo,h 1 1 zo zo,h 1 2 zo zo,h 2 0 zo zo,h 2 1 zo zo,h 2 2 zo zo]
 . unfold eU;simp only;rw[h 0 0 zo zo,h 0 1 zo zo,h 0 2 zo zo,h 0 3 zo zo,h 1 0 zo zo,h 1 1 zo zo,h 1 2 zo zo,h 1 3 zo zo,h 2 0 zo zo,h 2 1 zo zo,h 2 2 zo zo,h 2 3 zo zo,h 3 0 zo zo,h 3 1 zo zo,h 3 2 zo zo,h 3 3 zo zo]
def TU {B n:Nat}{e:Nat->Nat->Dyadic}(hn:1<=n)(cV:n<=4)(h:∀i j,i<n->j<n->Sm B (e i j)):Sm (4*B+6) (eU n e):=by
 have m2:∀a b c d:Dyadic,Sm B a->Sm B b->Sm B c->Sm B d->Sm (2*B+1) (a*b-c*d):=λa b c d ha hb hc hd=>(Sm.sub (Sm.mul ha hb) (Sm.mul hc hd)).mono zo;have m3:∀x y:Dyadic,Sm B x->Sm (2*B+1) y->Sm (3*B+1) (x*y):=λx y hx hy=>(Sm.mul hx hy).mono zo;have m4:∀x y z:Dyadic,Sm (3*B+1) x->Sm (3*B+1) y->Sm (3*B+1) z->Sm (3*B+3) (x-y+z):=λx y z hx hy hz=>(Sm.add (Sm.sub hx hy) (hz.mono zo)).mono zo;have m5:∀x y:Dyadic,Sm B x->Sm (3*B+3) y->Sm (4*B+3) (x*y):=λx y hx hy=>(Sm.mul hx hy).mono zo;have hc:n=1\/n=2\/n=3\/n=4:=by omega
 rcases hc with rfl|rfl|rfl|rfl
 . exact(h 0 0 zo zo).mono zo
 . exact(Sm.sub (Sm.mul (h 0 0 zo zo) (h 1 1 zo zo)) (Sm.mul (h 0 1 zo zo) (h 1 0 zo zo))).mono zo
 . unfold eU;refine(m4 _ _ _ (m3 _ _ ?_ (m2 _ _ _ _ ?_ ?_ ?_ ?_)) (m3 _ _ ?_ (m2 _ _ _ _ ?_ ?_ ?_ ?_)) (m3 _ _ ?_ (m2 _ _ _ _ ?_ ?_ ?_ ?_))).mono zo<;>exact h _ _ zo zo
 . unfold eU;have m6:∀x y z u:Dyadic,Sm (4*B+3) x->Sm (4*B+3) y->Sm (4*B+3) z->Sm (4*B+3) u->Sm (4*B+6) (x-y+z-u):=λx y z u hx hy hz hu=>(Sm.sub (Sm.add (Sm.sub hx hy) (hz.mono zo)) (hu.mono zo)).mono zo;refine m6 _ _ _ _ (m5 _ _ ?_ (m4 _ _ _ (m3 _ _ ?_ (m2 _ _ _ _ ?_ ?_ ?_ ?_)) (m3 _ _ ?_ (m2 _ _ _ _ ?_ ?_ ?_ ?_)) (m3 _ _ ?_ (m2 _ _ _ _ ?_ ?_ ?_ ?_)))) (m5 _ _ ?_ (m4 _ _ _ (m3 _ _ ?_ (m2 _ _ _ _ ?_ ?_ ?_ ?_)) (m3 _ _ ?_ (m2 _ _ _ _ ?_ ?_ ?_ ?_)) (m3 _ _ ?_ (m2 _ _ _ _ ?_ ?_ ?_ ?_)))) (m5 _ _ ?_ (m4 _ _ _ (m3 _ _ ?_ (m2 _ _ _ _ ?_ ?_ ?_ ?_)) (m3 _ _ ?_ (m2 _ _ _ _ ?_ ?_ ?_ ?_)) (m3 _ _ ?_ (m2 _ _ _ _ ?_ ?_ ?_ ?_)))) (m5 _ _ ?_ (m4 _ _ _ (m3 _ _ ?_ (m2 _ _ _ _ ?_ ?_ ?_ ?_)) (m3 _ _ ?_ (m2 _ _ _ _ ?_ ?_ ?_ ?_)) (m3 _ _ ?_ (m2 _ _ _ _ ?_ ?_ ?_ ?_))))<;>exact h _ _ zo zo
def acK (X:Dyadic):eG X=0↔X=0:=by
 constructor
 . intro h;have h1:dN X=0:=by
    unfold eG gh at h;by_cases h1:dN X<0
    . rw[if_pos h1]at h;cases h
    . rw[if_neg h1]at h;by_cases h2:dN X=0
      . exact h2
      . rw[if_neg h2]at h;cases h
   have h2:=uV X;rw[h1,uW]at h2;exact h2
 . rintro rfl;rfl
noncomputable def jE (rows:List (List Raw)):Int:=if nW rows=0 then 1 else if dz (nW rows).toNat (cF rows)=0 then 5 else 0
def aiy (a:Option Addr)(cap n:Nat)(rows:List (List Raw))(B:Nat)(X:Dyadic)(w:World)(hn:1<=n)(cV:n<=4)(hL:rows.length=n+1)(hrow:∀r∈rows,r.length=n)(hcap:n+1<=cap)(ha:cZ w a rows)
 (hfit:∀r∈rows,∀c∈r,Fit B c) (hB:B<=900000) (hT:aM w) (hX:dz n (cF rows)=X):
 Cv 23 #[.slice a (n+1) cap] w (.tuple #[cK X,ah 0]):=by
 obtain⟨b,o,rfl⟩:∃b o,a=some ⟨b,o,none⟩:=by
  obtain⟨vals,hvl,hat,_⟩:=ha;rcases hat with h|⟨b,o,h,_⟩
  . rw[h]at hvl;simp at hvl;omega
  . exact⟨b,o,h⟩
 have hv:=az7 hL hrow hn zo;obtain⟨S,hS⟩:=aK ((rows.drop 1).map λp=>lA (rows.getD 0 []) p);have mA:S.length=n:=by rw[<-hS];simp[hL]
 have vM:∀r∈S,r.length=n:=by
  intro r hr;rw[<-hS]at hr;obtain⟨p,hp,rfl⟩:=List.mem_map.1 hr;have h0:0<rows.length:=by omega
  have e0:rows.getD 0 []=rows[0]:=by simp[h0]
  rw[Na (by rw[e0,hrow _ (List.mem_of_mem_drop hp),hrow _ (List.getElem_mem h0)]),hrow _ (List.mem_of_mem_drop hp)]
 have iL:∀r∈S,∀d∈r,Sm (B+1) d:=by
  intro r hr d hd;rw[<-hS]at hr;obtain⟨p,hp,rfl⟩:=List.mem_map.1 hr;unfold lA at hd;obtain⟨i,hi,rfl⟩:=List.mem_iff_getElem.1 hd;rw[List.getElem_zipWith];have h0:0<rows.length:=by omega
  have e0:rows.getD 0 []=rows[0]:=by simp[h0]
  refine Sm.sub (hfit p (List.mem_of_mem_drop hp) _ (List.getElem_mem _)).2 (hfit (rows.getD 0 []) ?_ _ (List.getElem_mem _)).2;rw[e0];exact List.getElem_mem h0
 have hent:eU n (dx S)=X:=by rw[<-hX,Nf];refine MV n cV (λi j hi hj=>?_);rw[<-hS];exact aiz n rows hL hrow i j hi hj
 have hvar:=λW=>λ(h:cZ W (some ⟨b,o,none⟩) rows)=>ajm (some ⟨b,o,none⟩) (n+1) cap rows W hL zo h;rw[hv]at hvar;have hrows:=λW=>λ(h:cZ W (some ⟨b,o,none⟩) rows) (hT:aM W)=>aig b o cap n n rows B W hL zo hcap hn hn zo hrow h hfit zo hT;rw[hS]at hrows;have pL:((S.map λr=>r.map canon).map λr=>r.map aJ)=S:=by
  rw[List.map_map];have:((λr:List Raw=>r.map aJ)∘λr:List Dyadic=>r.map canon)=id:=by
   funext r
   show(r.map canon).map aJ=r
   rw[List.map_map];have:(aJ∘canon)=id:=funext cp;rw[this];simp
  rw[this];simp
 have rq:=λW a' c'=>λ(h:cZ W a' (S.map λr=>r.map canon)) (hT:aM W)=>TV a' c' n (S.map λr=>r.map canon) (B+1) S X W hn cV (by simpa using mA) (by
  intro r hr;obtain⟨x,hx,rfl⟩:=List.mem_map.1 hr
  simpa using vM x hx) h (by
  intro r hr c hc;obtain⟨x,hx,rfl⟩:=List.mem_map.1 hr;obtain⟨y,hy,rfl⟩:=List.mem_map.1 hc
  exact(iL x hx y hy).fit zo) zo zo hT pL hent
 obtain⟨SB,amU,FZ,Ha,HT⟩:=fU hvar hrows rq ha hT;clear hvar hrows rq ha hT pL hent iL vM mA hS hv hX hfit hrow hL;have hn0:¬(n:Int)=0:=by omega
 have Hb:=hbz w;go_enter Tryz.func23,Tryz.ntmps23;go_wp2_with fail;have q:=fK w 48 [aj false,.string ⟨#[]⟩,ah 0];first|refine cd _ q ?_|refine cw _ q ?_
 clear q;rintro W ⟨Hr,ag⟩;obtain⟨r0,aH,r1,aI,r2,aX⟩:=Hr.out.g3;replace Hb:=az Hb ag;have HA:Hid (cZ W (some ⟨b,o,none⟩) rows):=Ha.out.below Hb.out;have HU:Hid (aM W):=HT.out.below Hb.out;go_wp2_with fail;refine(SB.out _ HA.out).mono ?_;rintro e w1 ⟨rfl,ag⟩;obtain⟨Hr,r0,aH,r1,aI,r2,aX⟩:=bg Hr ag;replace HA:=kL HA ag;replace HU:=kT HU ag;replace Hb:=az Hb ag;go_wp2_with fail;refine(amU.out _ HA.out HU.out).mono ?_;rintro e w2 ⟨a',c',rfl,hcc,nz,ag⟩;obtain⟨Hr,r0,aH,r1,aI,r2,aX⟩:=bg Hr ag;replace HA:=kL HA ag;replace HU:=kT HU ag;replace Hb:=az Hb ag;have HT2:=ar nz;clear nz;go_wp2_with fail;refine(FZ.out _ a' c' HT2.out HU.out).mono ?_;rintro e w3 ⟨rfl,ag⟩;obtain⟨Hr,r0,aH,r1,aI,r2,aX⟩:=bg Hr ag;replace HA:=kL HA ag;replace HU:=kT HU ag;replace Hb:=az Hb ag;go_wp2;refine fP (bY w3 (w.heap.size) 0 [aj (aC (dN X)),ai (nt (dN X).natAbs),ah (dE X)]) cC ?_;intro w9 hs;replace Hr:=dt Hr hs;obtain⟨r0,aH,r1,aI,r2,aX⟩:=Hr.out.g3;replace Hb:=bS Hb hs ZS;clear hs;refine bodyPost_ret (v:=.tuple #[cK X,ah 0]) (by simp[results,Tryz.results23,go_sem,r0,r1,r2]) rfl ⟨rfl,Hb.out⟩
def Yy (a:Option Addr)(L cap:Nat)(rows:List (List Raw))(B:Nat)(w:World)(hL:rows.length=L)(hL5:L<=5)(hcap:L<=cap)(ha:cZ w a rows)
 (hfit:∀r∈rows,∀c∈r,Fit B c) (hB:B<=900000) (hT:aM w):
 Cv 40 #[.slice a L cap] w (ah (jE rows)):=by
 obtain⟨R,hR⟩:=aK (jE rows);rw[hR];unfold jE at hR;by_cases hv:nW rows=0
 . rw [if_pos hv]at hR;subst hR;have hvar:=fun W=>fun(h:cZ W a rows)=>ajm a L cap rows W hL zo h;rw[hv]at hvar;obtain⟨SB,Ha⟩:=aZ hvar ha;have hsz:∀W,Bw w W->Cv 23 #[.slice a L cap] W (.tuple #[.agg #[aj false,.string ⟨#[]⟩,ah 0],ah 1]):=by
    intro w0 hw0;have qD:=ar (Ha.out.below hw0);clear ha hfit hL hT hv hvar Ha hw0 w;obtain⟨w,JR⟩:∃w,w=w0:=⟨_,rfl⟩;subst JR;have Hb:=hbz w;go_enter Tryz.func23,Tryz.ntmps23;go_wp2_with fail;have q:=fK w 48 [aj false,.string ⟨#[]⟩,ah 0];first|refine cd _ q ?_|refine cw _ q ?_
    clear q;rintro W ⟨Hr,ag⟩;obtain⟨r0,aH,r1,aI,r2,aX⟩:=Hr.out.g3;replace Hb:=az Hb ag;go_wp2_with fail;refine(SB.out _ (qD.out.below Hb.out)).mono ?_;rintro e w1 ⟨rfl,ag⟩;obtain⟨Hr,r0,aH,r1,aI,r2,aX⟩:=bg Hr ag;replace Hb:=az Hb ag;go_wp2;refine fP (bY w1 (w.heap.size) 0 [aj false,.string ⟨#[]⟩,ah 0]) cC ?_;intro w9 hs;replace Hr:=dt Hr hs;obtain⟨r0,aH,r1,aI,r2,aX⟩:=Hr.out.g3;replace Hb:=bS Hb hs ZS;clear hs;refine bodyPost_ret (v:=.tuple #[.agg #[aj false,.string ⟨#[]⟩,ah 0],ah 1]) (by simp[results,Tryz.results23,go_sem,r0,r1,r2]) rfl ⟨rfl,Hb.out⟩
   have mS:=ar hsz;clear hsz hvar ha hfit hL hT hv;have Hb:=hbz w;go_enter Tryz.func40,Tryz.ntmps40;go_wp2_with fail;refine(mS.out _ Hb.out).mono ?_;rintro e w1 ⟨rfl,ag⟩;replace Hb:=az Hb ag;have hsz:=Hb.out.size;obtain⟨W2,na,ag,Hd⟩:=cE w1 48 [aj false,.string ⟨#[]⟩,ah 0];obtain⟨d0,fd0,d1,fd1,d2,fd2⟩:=Hd.out.g3;replace Hb:=az Hb ag;go_wp2;refine bodyPost_ret (results_tmp rfl _ _ _) rfl ⟨rfl,?_⟩;exact((Hb.out.setCell zp _).setCell zp _).setCell zp _
 . obtain⟨n,hn⟩:∃n:Nat,nW rows=n:=⟨(nW rows).toNat,by have:=Ql rfl hv;omega⟩;rw[if_neg hv,hn,Int.toNat_natCast]at hR;obtain⟨c1,c2,c3,c4⟩:=Ql hn zo;obtain rfl:L=n+1:=by omega
   obtain⟨X,hX⟩:=aK (dz n (cF rows));rw[hX]at hR;have hsz:=λW=>λ(h:cZ W a rows) (hT:aM W)=>aiy a cap n rows B X W zo zo zo (λr hr=>by have:=c4 r hr;omega) hcap h hfit hB hT hX;have hXm:Sm (4* (B+1)+6) X:=by
    rw[<-hX,Nf];refine TU zo zo (λi j hi hj=>?_);have h0:0<rows.length:=by omega
    have h1:i+1<rows.length:=by omega
    have l0:=c4 _ (List.getElem_mem h0);have l1:=c4 _ (List.getElem_mem h1);rw[tv rows (i+1) j h1 zo,tv rows 0 j h0 zo];exact Sm.sub (hfit _ (List.getElem_mem h1) _ (List.getElem_mem _)).2 (hfit _ (List.getElem_mem h0) _ (List.getElem_mem _)).2
   have fY:∀W,Cv 72 #[.agg #[aj (aC (dN X)),ai (nt (dN X).natAbs),ah (dE X)]] W (ah (eG X)):=λW=>vK _ _ _ (eG X) (by show eG (aJ (canon X))=_;rw[cp]) W (hXm.ok zo);obtain⟨g,hg⟩:=aK (eG X);have hgz:R=if g=0 then 5 else 0:=by
    rw[<-hR,<-hg];by_cases h:X=0
    . rw[if_pos h,if_pos ((acK X).2 h)]
    . rw[if_neg h,if_neg (λh2=>h ((acK X).1 h2))]
   rw[hg]at fY;obtain⟨mS,rN,Ha,HT,Hgz⟩:=fU hsz fY ha hT hgz;clear hsz fY ha hT hgz hg hX hR hfit c4 hL;have Hb:=hbz w;go_enter Tryz.func40,Tryz.ntmps40;go_wp2_with fail;refine(mS.out _ (Ha.out.below Hb.out) (HT.out.below Hb.out)).mono ?_;rintro e w1 ⟨rfl,ag⟩;replace Hb:=az Hb ag;obtain⟨W2,na,ag,Hd⟩:=cE w1 48 [aj (aC (dN X)),ai (nt (dN X).natAbs),ah (dE X)];obtain⟨d0,d1,d2⟩:=Hd.out.c3;replace Hb:=az Hb ag;go_wp2_with fail;refine(rN.out _).mono ?_;rintro e w3 ⟨rfl,ag⟩;obtain⟨Hd,d0,d1,d2⟩:=cm Hd ag;replace Hb:=az Hb ag;by_cases hg0:g=0
   . have hr:=Hgz.out;rw[if_pos hg0]at hr;subst hr hg0;go_wp2;refine bodyPost_ret (results_tmp rfl _ _ _) rfl ⟨rfl,Hb.out⟩
   . have hr:=Hgz.out;rw[if_neg hg0]at hr;subst hr;go_wp2;refine bodyPost_ret (results_tmp rfl _ _ _) rfl ⟨rfl,Hb.out⟩
end Go.Proofs.YtnjfebkelecgaaaGreatDoor
namespace Go.Proofs.YtnjfebkelecgaaaGreatDoor
open Go.RowKit
def Rw (n B:Nat)(rows:List (List Raw)):Prop:=rows.length=n+1/\(∀r∈rows,r.length=n)/\∀r∈rows,∀c∈r,Fit B c
end Go.Proofs.YtnjfebkelecgaaaGreatDoor
namespace Go.Proofs.YtnjfebkelecgaaaGreatDoor
def az8 {rows:List (List Raw)}{B:Nat}(h5:rows.length<=5)(hf:∀r∈rows,∀c∈r,Fit B c)(hv:nW rows≠0):∃m,m+1<=4/\Rw (m+1) B rows:=by obtain⟨c1,c2,c3,c4⟩:=Ql rfl hv;obtain⟨m,hm⟩:∃m:Nat,nW rows=((m+1:Nat):Int):=⟨((nW rows)-1).toNat,by omega⟩;exact⟨m,by omega,by omega,λr hr=>by have:=c4 r hr;omega,hf⟩
def azz {rows:List (List Raw)}{B:Nat}(h5:rows.length<=5)(hf:∀r∈rows,∀c∈r,Fit B c)(h:jE rows=0):∃m,m+1<=4/\Rw (m+1) B rows:=
 az8 h5 hf (λh0=>by unfold jE at h;rw[if_pos h0]at h;cases h)
def DY (p:Nat->Nat->Dyadic):Nat->Nat->Dyadic:=λa b=>p (a+1) b-p 0 b
def mX (n:Nat)(e:Nat->Nat->Dyadic)(k i:Nat):Dyadic:=if(k+i)%2=1 then-eU (n-1) (nJ e i k)else eU (n-1) (nJ e i k)
def lu (n:Nat)(p:Nat->Nat->Dyadic)(k i:Nat):Dyadic:=mX n (DY p) k i*gL (dz n p)
def wS (n:Nat)(p:Nat->Nat->Dyadic)(x:Nat->Dyadic)(i:Nat):Nat->Dyadic
 |0=>0
 |k+1=>wS n p x i k+(x k-p 0 k) *lu n p k i
def aAj (n:Nat)(p:Nat->Nat->Dyadic)(x:Nat->Dyadic)(i k:Nat):wS n p x i k=gL (dz n p) *Fa n (DY p) (λk=>x k-p 0 k) i k:=by
 induction k with
 |zero=>simp[wS,Fa]
 |succ k ih=>unfold wS Fa;rw[ih];unfold lu mX;generalize (if(k+i)%2=1 then-eU (n-1) (nJ (DY p) i k)else eU (n-1) (nJ (DY p) i k))=z;grind
def Lf (n:Nat)(hn:1<=n)(cV:n<=4)(p:Nat->Nat->Dyadic)(x:Nat->Dyadic)(i:Nat)(hi:i<n):wS n p x i n=oZ n p x (i+1):=by rw[aAj,aut n hn cV _ _ i hi];unfold oZ;rw[acN];rfl
def wZ (n:Nat)(p:Nat->Nat->Dyadic)(x:Nat->Dyadic):Nat->Dyadic
 |0=>gL (dz n p) *dz n p
 |k+1=>wZ n p x k-oZ n p x (k+1)
def aAo (n:Nat)(p:Nat->Nat->Dyadic)(x:Nat->Dyadic)(k:Nat):wZ n p x k=gL (dz n p) *dz n p-dM (λi=>oZ n p x (i+1)) k:=by
 induction k with
 |zero=>simp[wZ,dM];grind
 |succ k ih=>unfold wZ dM;rw[ih];grind
def aAp (n:Nat)(hn:1<=n)(cV:n<=4)(p:Nat->Nat->Dyadic)(x:Nat->Dyadic):wZ n p x n=oZ n p x 0:=by rw[aAo];unfold oZ;rw[Yq,YT n hn cV p x];grind
def ayV (X:Dyadic):gL X*X=if X<0 then-X else X:=by
 rw[Yh];split
 . grind
 . split<;>grind
def MW {B n:Nat}{e:Nat->Nat->Dyadic}(cV:n<=4)(h:∀i j,i<n->j<n->Sm B (e i j)):Sm (4*B+6) (eU n e):=by
 by_cases h0:n=0
 . subst h0;exact Sm.one.mono zo
 . exact TU zo cV h
def Yi (X:Dyadic):Sm 1 (gL X):=by
 rw[Yh];split
 . exact Sm.neg Sm.one
 . split
   . exact Sm.zero _
   . exact Sm.one
def Il {B n:Nat}{p:Nat->Nat->Dyadic}(h:∀a b,a<=n->b<n->Sm B (p a b))(a b:Nat)(ha:a<n)(hb:b<n):Sm (B+1) (DY p a b):=Sm.sub (h (a+1) b zo hb) (h 0 b zo hb)
def abL {B n:Nat}{e:Nat->Nat->Dyadic}(hn:1<=n)(cV:n<=4)(h:∀i j,i<n->j<n->Sm B (e i j))(k i:Nat):Sm (4*B+6) (mX n e k i):=by
 have h2:Sm (4*B+6) (eU (n-1) (nJ e i k)):=MW zo (λa b ha hb=>h _ _ (by split<;>omega) (by split<;>omega));unfold mX;split
 . exact h2.neg
 . exact h2
def Mz {B n:Nat}{p:Nat->Nat->Dyadic}(hn:1<=n)(cV:n<=4)(h:∀a b,a<=n->b<n->Sm B (p a b))(k i:Nat):Sm (4*B+11) (lu n p k i):=
 (Sm.mul (abL (B:=B+1) hn cV (λa b ha hb=>Il h a b ha hb) k i) (Yi _)).mono zo
def Yl {B n:Nat}{p:Nat->Nat->Dyadic}(cV:n<=4)(h:∀a b,a<=n->b<n->Sm B (p a b)):Sm (4*B+11) (gL (dz n p) *dz n p):=by rw[Nf];exact(Sm.mul (Yi _) (MW (B:=B+1) cV (λa b ha hb=>Il h a b ha hb))).mono zo
def YQ {B n:Nat}{p:Nat->Nat->Dyadic}{x:Nat->Dyadic}(hn:1<=n)(cV:n<=4)(h:∀a b,a<=n->b<n->Sm B (p a b))(hx:∀b,b<n->Sm B (x b))(i k:Nat)(hk:k<=n):Sm (5*B+12+k) (wS n p x i k):=by
 induction k with
 |zero=>exact Sm.zero _
 |succ k ih=>have h1:=ih zo;have h2:Sm (5*B+12) ((x k-p 0 k) *lu n p k i):=(Sm.mul (Sm.sub (hx k zo) (h 0 k zo zo)) (Mz hn cV h k i)).mono zo;exact(h1.add (h2.mono zo)).mono zo
def aAD {B n:Nat}{p:Nat->Nat->Dyadic}{x:Nat->Dyadic}(hn:1<=n)(cV:n<=4)(h:∀a b,a<=n->b<n->Sm B (p a b))(hx:∀b,b<n->Sm B (x b))(i:Nat)(hi:i<n):Sm (5*B+16) (oZ n p x (i+1)):=by rw[<-Lf n hn cV p x i hi];exact(YQ hn cV h hx i n (Nat.le_refl _)).mono zo
def aAn {B n:Nat}{p:Nat->Nat->Dyadic}{x:Nat->Dyadic}(hn:1<=n)(cV:n<=4)(h:∀a b,a<=n->b<n->Sm B (p a b))(hx:∀b,b<n->Sm B (x b))(k:Nat)(hk:k<=n):Sm (5*B+16+k) (wZ n p x k):=by
 induction k with
 |zero=>exact(Yl cV h).mono zo
 |succ k ih=>exact(Sm.sub (ih zo) ((aAD hn cV h hx k zo).mono zo)).mono zo
def wC (n:Nat)(p:Nat->Nat->Dyadic)(i:Nat):Dyadic:=wS n p (λ_=>0) i n
def lZ (n:Nat)(p:Nat->Nat->Dyadic)(b:Nat):Nat->Dyadic
 |0=>0
 |k+1=>lZ n p b k-lu n p b k
def ajv (n:Nat)(p:Nat->Nat->Dyadic)(x:Nat->Dyadic)(i k:Nat):wS n p x i k=wS n p (λ_=>0) i k+dM (λb=>lu n p b i*x b) k:=by
 induction k with
 |zero=>simp[wS,dM]
 |succ k ih=>unfold wS dM;rw[ih];grind
def aAm (n:Nat)(hn:1<=n)(cV:n<=4)(p:Nat->Nat->Dyadic)(x:Nat->Dyadic)(k:Nat)(hk:k<=n):wZ n p x k=wZ n p (λ_=>0) k+dM (λb=>lZ n p b k*x b) n:=by
 induction k with
 | zero=>
   have:dM (λb=>lZ n p b 0*x b) n=0:=by rw[Qa (g:=λ_=>(0:Dyadic) *0) n (λb _=>by simp[lZ]),Yp];grind
   rw[this];unfold wZ;grind
 | succ k ih=>
   unfold wZ;rw[ih zo,<-Lf n hn cV p x k zo,<-Lf n hn cV p (λ_=>0) k zo,ajv n p x k n];have:dM (λb=>lZ n p b (k+1) *x b) n=dM (λb=>lZ n p b k*x b) n+dM (λb=>lu n p b k*x b) n* (-1):=by rw[<-Yp,<-azf];exact Qa n (λb _=>by simp only[lZ];grind)
   rw[this];grind
def mF (R:List (List Dyadic))(r c:Nat):List (List Dyadic):=(R.eraseIdx r).map λx=>x.eraseIdx c
def ahp (R:List (List Dyadic))(r c m:Nat)(hL:R.length=m+1)(hr:r<=m):(mF R r c).length=m:=by unfold mF;rw[List.length_map,List.length_eraseIdx_of_lt zo];omega
def ahq (R:List (List Dyadic))(r c m:Nat)(hrow:∀x∈R,x.length=m+1)(hc:c<=m):∀x∈mF R r c,x.length=m:=by intro x hx;unfold mF at hx;obtain⟨y,hy,rfl⟩:=List.mem_map.1 hx;have:=hrow y (List.mem_of_mem_eraseIdx hy);rw[List.length_eraseIdx_of_lt zo];omega
def aho (R:List (List Dyadic))(r c m:Nat)(hL:R.length=m+1)(hr:r<=m)(j:Nat)(hj:j<m):(mF R r c).getD j []=(R.getD (if j<r then j else j+1) []).eraseIdx c:=by
 unfold mF;have h1:j<(R.eraseIdx r).length:=by rw[List.length_eraseIdx_of_lt zo];omega
 rw[List.getD_eq_getElem?_getD,List.getElem?_map,List.getElem?_eq_getElem h1,Option.map_some,Option.getD_some,List.getElem_eraseIdx];split
 . rename_i h;rw[List.getD_eq_getElem?_getD,List.getElem?_eq_getElem zo];rfl
 . rename_i h;rw[List.getD_eq_getElem?_getD,List.getElem?_eq_getElem zo];rfl
def arR (l:List Dyadic)(c j:Nat)(h:j+1<l.length)(hc:c<l.length):(l.eraseIdx c).getD j 0=l.getD (if j<c then j else j+1) 0:=by
 have h1:j<(l.eraseIdx c).length:=by rw[List.length_eraseIdx_of_lt hc];omega
 rw[List.getD_eq_getElem?_getD,List.getElem?_eq_getElem h1,Option.getD_some,List.getElem_eraseIdx];split
 . rw[List.getD_eq_getElem?_getD,List.getElem?_eq_getElem zo];rfl
 . rw[List.getD_eq_getElem?_getD,List.getElem?_eq_getElem zo];rfl
def avx (R:List (List Dyadic))(r c m:Nat)(hL:R.length=m+1)(hrow:∀x∈R,x.length=m+1)(hr:r<=m)(hc:c<=m)(i j:Nat)(hi:i<m)(hj:j<m):dx (mF R r c) i j=nJ (dx R) r c i j:=by
 show((mF R r c).getD i []).getD j 0=(R.getD (if i<r then i else i+1) []).getD (if j<c then j else j+1) 0
 rw[aho R r c m hL hr i hi];have hk:(if i<r then i else i+1)<R.length:=by split<;>omega
 have e:R.getD (if i<r then i else i+1) []=R[if i<r then i else i+1]'hk:=by rw[List.getD_eq_getElem?_getD,List.getElem?_eq_getElem hk];rfl
 have hl:=hrow _ (List.getElem_mem hk);rw[e];exact arR _ c j (by rw[hl];omega) (by rw[hl];omega)
def uh (n:Nat)(e:Nat->Nat->Dyadic):List (List Dyadic):=(List.range n).map λa=>(List.range n).map λb=>mX n e a b
def abN (n:Nat)(e:Nat->Nat->Dyadic)(a:Nat)(ha:a<n):(uh n e).getD a []=(List.range n).map λb=>mX n e a b:=by unfold uh;simp[List.getD_eq_getElem?_getD,ha]
def aof (n:Nat)(e:Nat->Nat->Dyadic)(a b:Nat)(ha:a<n)(hb:b<n):dx (uh n e) a b=mX n e a b:=by unfold dx;rw[abN n e a ha];simp[List.getD_eq_getElem?_getD,hb]
def aog (n:Nat)(e:Nat->Nat->Dyadic):(uh n e).length=n:=by simp[uh]
def aoh (n:Nat)(e:Nat->Nat->Dyadic):∀r∈uh n e,r.length=n:=by intro r hr;unfold uh at hr;obtain⟨x,_,rfl⟩:=List.mem_map.1 hr;simp
def avw (R:List (List Dyadic))(r c m:Nat)(hL:R.length=m+1)(hrow:∀x∈R,x.length=m+1)(hr:r<=m)(hc:c<=m)(hm:m<=4):eU m (dx (mF R r c))=eU m (nJ (dx R) r c):=
 MV m hm (λi j hi hj=>avx R r c m hL hrow hr hc i j hi hj)
def avy {B:Nat}{R:List (List Dyadic)}(h:∀x∈R,∀d∈x,Sm B d)(r c:Nat):∀x∈mF R r c,∀d∈x,Sm B d:=by intro x hx d hd;unfold mF at hx;obtain⟨y,hy,rfl⟩:=List.mem_map.1 hx;exact h y (List.mem_of_mem_eraseIdx hy) d (List.mem_of_mem_eraseIdx hd)
end Go.Proofs.YtnjfebkelecgaaaGreatDoor
