/- Package mat: bareiss' test of a row. -/
import Derived.Test.YtoopepmmepmfnaaGreatDoorZ12
import Derived.Test.YtoopepmmepmfnaaGreatDoorZ24
import Derived.Test.YtoopepmmepmfnaaGreatDoorZ6
import Derived.Test.YtoopepmmepmfnaaGreatDoorZ7
import Derived.Test.YtoopepmmepmfnaaGreatDoorZ9
set_option linter.unusedVariables false
set_option linter.unusedSimpArgs false
set_option maxRecDepth 100000
set_option maxHeartbeats 16000000
namespace Go.Proofs.YtoopepmmepmfnaaGreatDoor
open Go.RowKit
attribute [local go_sem ↓] Go.wp_at_zero Go.wp_at_succ
theorem ac5 (bk k g n c:Nat)(z:Int)(w:World)(hk:w.cell? ⟨bk,0,none⟩=some (.int .i64 (k:Int)))(hkn:k<n)(h0:w.cell? ⟨g,k*2,none⟩=some (.bool (aj z)))(h1:w.cell? ⟨g,k*2+1,none⟩=some (.string (bs (nt z.natAbs))))(hz:(nt z.natAbs).length<=1099511627776):
 Calls Tryz.prog 182 #[.slice (some ⟨g,0,none⟩) n c,.pointer (some ⟨bk,0,none⟩)] w λe w'=>e=.returned (.bool (decide (z≠0)))/\Bw w w':=by
 have aX:=se n c k (k:Int) (show some (⟨g,0,none⟩:Addr)=some ⟨g,0,none⟩from rfl) hkn rfl;rw[Nat.zero_add]at aX;have Hz:=af hz;obtain⟨s,hs⟩:=az (aj z);obtain⟨l,hl⟩:=az (nt z.natAbs);have nI:=λW=>Cs (aj z) (nt z.natAbs) W hz;rw[dI]at nI;rw[hs,hl]at nI;rw[hs]at h0;rw[hl]at h1;obtain⟨t,ht⟩:=az (dO z);rw[ht]at nI;have hd:decide (z≠0)=decide (t≠0):=by
  rw[<-ht];unfold dO;by_cases h:z=0
  . simp[h]
  . by_cases h2:z<0
    . simp[h,h2]
    . simp[h,h2]
 rw[hd];have og:=af nI;clear nI hd ht hs hl hz Hz;have Hb:Hid (Bw w w):=Below.refl _ _;go_enter Tryz.func182,Tryz.ntmps182;go_wp2_with fail;refine(og.out _).mono ?_;rintro e w1 ⟨rfl,ae⟩;replace Hb:=ak Hb ae;clear ae h0 h1 hk aX;go_wp2;refine bodyPost_ret (results_tmp rfl _ _ _) rfl ⟨?_,Hb.out⟩;by_cases h:t=0<;>simp[h]
theorem ahd (p:Value->Bool)(vs:List Value)(q:Nat->Bool)(c:Nat)(h:∀i (hi:i<vs.length),p vs[i]=q i):
 idxFrom p vs c=match (List.range vs.length).find? q with|none=>-1|some m=>((c+m:Nat):Int):=by
 induction vs generalizing c q with
 |nil=>rfl
 | cons v vs ih=>
   have h0:=h 0 zm;have hs:=ih (λi=>q (i+1)) (c+1) (λi hi=>h (i+1) (by simpa using hi));simp only[List.getElem_cons_zero]at h0;rw[List.length_cons,List.range_succ_eq_map,List.find?_cons];unfold idxFrom;rw[h0];cases hq:q 0 with
   |true=>simp
   | false=>
     rw[hs,List.find?_map];simp only[Bool.false_eq_true,if_false];have e:(q∘Nat.succ)=λi=>q (i+1):=rfl;rw[e];cases (List.range vs.length).find? λi=>q (i+1)with
     |none=>rfl
     |some m=>simp only[Option.map_some];congr 1;omega
theorem ajH (p:Value->Bool)(vals:List Value)(f:Nat->Nat->Int)(n k:Nat)(hn:vals.length=n)(h:∀i (hi:i<vals.length),p vals[i]=decide (f i k≠0)):
 idxFrom p (vals.drop k) 0=match mN f n k with|none=>-1|some m=>(m:Int):=by
 rw[ahd p (vals.drop k) (λi=>f (k+i) k !=0) 0 (λi hi=>by
  rw[List.getElem_drop,h]
  simp[bne,Bool.beq_eq_decide_eq])]
 unfold mN;rw[List.length_drop,hn];simp only[Nat.zero_add]
theorem alM (x y:Int)(w:World)(hx:(nt x.natAbs).length<=34359738368)(hy:(nt y.natAbs).length<=34359738368)(h0:y≠0)(hd:y∣x):
 Calls Tryz.prog 183 #[.agg #[.bool (aj x),.string (bs (nt x.natAbs))],.agg #[.bool (aj y),.string (bs (nt y.natAbs))]] w λe w'=>∃r,e=.returned (.tuple #[bM (x/y),r,.bool true])/\Bw w w':=by
 have h:=alN (aj x) (aj y) (nt x.natAbs) (nt y.natAbs) w hx hy (by rw[iG];omega) (by rw[iG,iG];exact Nat.mod_eq_zero_of_dvd (Int.natAbs_dvd_natAbs.2 hd));rw[dI,dI]at h;exact h
end Go.Proofs.YtoopepmmepmfnaaGreatDoor
namespace Go.Proofs.YtoopepmmepmfnaaGreatDoor
open Go.RowKit
def dD (f:Nat->Nat->Int)(n:Nat):List (List Int):=(List.range n).map λa=>(List.range n).map (f a)
theorem Cm (f:Nat->Nat->Int)(n:Nat):(dD f n).length=n:=by simp[dD]
theorem Gb (f:Nat->Nat->Int)(n i:Nat)(h:i<n):(dD f n).getD i []=(List.range n).map (f i):=by simp[dD,List.getD_eq_getElem?_getD,h]
theorem alb (f:Nat->Nat->Int)(n i j:Nat)(h:i<n)(h':j<n):((dD f n).getD i []).getD j 0=f i j:=by rw[Gb f n i h];simp[List.getD_eq_getElem?_getD,h']
theorem alc (f:Nat->Nat->Int)(n i j:Nat)(y:Int)(h:i<n):(dD f n).set i (((dD f n).getD i []).set j y)=dD (λa b=>if a=i/\b=j then y else f a b) n:=by
 rw[Gb f n i h];apply List.ext_getElem
 . simp[dD]
 . intro a h1 h2;have ha:a<n:=by simpa[dD]using h2
   rw[List.getElem_set];split
   . rename_i e
     subst e;apply List.ext_getElem
     . simp[dD]
     . intro b h3 h4;have hb:b<n:=by simpa[dD]using h4
       rw[List.getElem_set];by_cases e2:j=b
       . subst e2;simp[dD]
       . have e3:¬b=j:=λe=>e2 e.symm;simp[dD,e2,e3]
   . rename_i e
     have e3:¬a=i:=λe'=>e e'.symm;simp[dD,e3]
theorem ald (f:Nat->Nat->Int)(n k m:Nat)(h:k<n)(h':m<n):((dD f n).set k ((dD f n).getD m [])).set m ((dD f n).getD k [])=dD (bA f k m) n:=by
 apply List.ext_getElem
 . simp[dD]
 . intro a h1 h2;have ha:a<n:=by simpa[dD]using h2
   have hs:=Nu (dD f n) [] k m (by rw[Cm];exact h) (by rw[Cm];exact h') a (by rw[Cm];exact ha);rw[List.getD_eq_getElem?_getD,List.getElem?_eq_getElem h1]at hs;simp only[Option.getD_some]at hs;rw[hs,Gb f n _ (FW h h' ha)];simp[dD,bA,swp]
theorem yz {w:World}{base:Nat}{e:TypeId}{size n cap g:Nat}{xs:List Value}(h:w.ownsRow base e size (.slice (some ⟨g,0,none⟩) n cap) n xs):base<=g/\∃cur,ag w g e cur:=by
 rcases h.2 with⟨h1,_⟩ |⟨g',cap',cur,h1,hb,hg,_,_,_,hx⟩
 . simp at h1
 . simp only[Value.slice.injEq,Option.some.injEq,Addr.mk.injEq,and_true,true_and]at h1;obtain⟨rfl,rfl⟩:=h1;exact⟨hb,cur.toList,by unfold ag;simpa using hg⟩
theorem MX {w:World}{base:Nat}{e:TypeId}{size n:Nat}{v:Value}{xs:List Value}(h:w.ownsRow base e size v n xs)(hn:1<=n):∃g cap,v=.slice (some ⟨g,0,none⟩) n cap:=by
 rcases h.2 with⟨h1,h2⟩ |⟨g',cap',cur,h1,_⟩
 . omega
 . exact⟨g',cap',h1⟩
theorem ala {f g:Nat->Nat->Int}(n:Nat)(h:∀a b,a<n->b<n->f a b=g a b):dD f n=dD g n:=by unfold dD;refine List.map_congr_left (λa ha=>List.map_congr_left (λb hb=>h a b (List.mem_range.1 ha) (List.mem_range.1 hb)))
def aco (w:World)(go L top:Nat):Prop:=go<top/\∀m g n c,m<L->w.cell? ⟨go,m,none⟩=some (.slice (some ⟨g,0,none⟩) n c)->g<top
def BS (w0 w:World)(base n go cap top:Nat)(f:Nat->Nat->Int):Prop:=
 gS w base n (dD f n) n (.slice (some ⟨go,0,none⟩) n cap)/\aco w go n top/\Below base w0 w/\top<=w.heap.size
theorem BS.begin {w:World}{base n:Nat}{f:Nat->Nat->Int}{v:Value}(h:gS w base n (dD f n) n v)(hn:1<=n):∃go cap,v=.slice (some ⟨go,0,none⟩) n cap/\n<=cap/\BS w w base n go cap w.heap.size f:=by
 have h0:=h;obtain⟨vals,hl,ho,hv,_⟩:=h;obtain⟨go,cap,rfl⟩:=MX ho hn;refine⟨go,cap,rfl,FI ho,h0,⟨?_,λm g n' c hm hc=>?_⟩,Below.refl _ _,Nat.le_refl _⟩
 . obtain⟨_,cur,hb⟩:=yz ho;exact hb.lt
 . have hm2:m<vals.length:=by omega
   rw[kd ho m hm2]at hc;simp only[Option.some.injEq]at hc;have hrow:=hv m hm2;obtain⟨g',cap',e⟩:=MX hrow hn;rw[e]at hrow hc;simp at hc;obtain⟨rfl,rfl,rfl⟩:=hc;exact(yz hrow).2.choose_spec.lt
theorem BS.below {w0 w w':World}{base n go cap top:Nat}{f:Nat->Nat->Int}(h:BS w0 w base n go cap top f)(hb:Bw w w')(vG:base<=top):BS w0 w' base n go cap top f:=by
 obtain⟨h1,⟨h2,h3⟩,h4,h5⟩:=h;have hs:=hb.size;refine⟨h1.below hb,⟨h2,λm g n' c hm hc=>h3 m g n' c hm ?_⟩,?_,by omega⟩
 . rw[World.cell?_of_block (a:=⟨go,m,none⟩) (w:=w) (hb.block go zo)]at hc;exact hc
 . exact h4.trans (hb.mono zo)
theorem BS.congr {w0 w:World}{base n go cap top:Nat}{f g:Nat->Nat->Int}(h:BS w0 w base n go cap top f)(he:∀a b,a<n->b<n->f a b=g a b):BS w0 w base n go cap top g:=by unfold BS at*;rw[<-ala n he];exact h
theorem BS.row {w0 w:World}{base n go cap top:Nat}{f:Nat->Nat->Int}(h:BS w0 w base n go cap top f)(i:Nat)(hi:i<n):
 ∃g c,base<=g/\g<top/\w.cell? ⟨go,i,none⟩=some (.slice (some ⟨g,0,none⟩) n c)/\(∀j,j<n->w.cell? ⟨g,j*2,none⟩=some (.bool (aj (f i j)))/\w.cell? ⟨g,j*2+1,none⟩=some (.string (bs (nt (f i j).natAbs))))/\
  (∀q,w.frozen? ⟨g,q,none⟩=false)/\
  ∀j,j<n->∀y:Int,BS w0 ((w.setCell ⟨g,j*2,none⟩ (.bool (aj y))).setCell ⟨g,j*2+1,none⟩ (.string (bs (nt y.natAbs)))) base n go cap top (λa b=>if a=i/\b=j then y else f a b):=by
 obtain⟨h1,⟨h2,h3⟩,h4,h5⟩:=h;have hR:(dD f n).length=n:=Cm f n;have hr:((dD f n).getD i []).length=n:=by rw[Gb f n i hi];simp
 obtain⟨vals,hl,ho,hv,hd⟩:=id h1;have hi2:i<vals.length:=by omega
 have hrow:=hv i hi2;obtain⟨g,c,e⟩:=MX hrow zo;rw[e]at hrow;obtain⟨hbg,cur,hblk⟩:=yz hrow;have hc0:w.cell? ⟨go,i,none⟩=some (.slice (some ⟨g,0,none⟩) n c):=by rw[kd ho i hi2,e]
 refine⟨g,c,hbg,h3 i g n c hi hc0,hc0,λj hj=>?_,λq=>hblk.free q,λj hj y=>?_⟩
 . obtain⟨go',cap',g',c',e0,_,_,_,e1,e2,e3,_⟩:=h1.num i j hi hj hR hr;simp at e0;obtain⟨rfl,rfl⟩:=e0;rw[hc0]at e1;simp at e1;obtain⟨rfl,rfl⟩:=e1;rw[alb f n i j hi hj]at e2 e3;exact⟨e2,e3⟩
 . obtain⟨go',cap',g',c',e0,hb1,hb2,hne,e1,e2,e3,hw⟩:=h1.num i j hi hj hR hr;simp at e0;obtain⟨rfl,rfl⟩:=e0;rw[hc0]at e1;simp at e1;obtain⟨rfl,rfl⟩:=e1;have h6:=hw y;rw[alc f n i j y hi]at h6;refine⟨h6,⟨h2,λm g' n' c' hm hc=>h3 m g' n' c' hm ?_⟩,(h4.setCell hb2 _).setCell hb2 _,by simpa using h5⟩;rw[World.cell?_setCell_far _ _ _ _ (by simpa using hne),World.cell?_setCell_far _ _ _ _ (by simpa using hne)]at hc;exact hc
theorem BS.swap {w0 w:World}{base n go cap top:Nat}{f:Nat->Nat->Int}(h:BS w0 w base n go cap top f)(i m:Nat)(hi:i<n)(hm:m<n):
 ∃g1 c1 g2 c2,w.cell? ⟨go,i,none⟩=some (.slice (some ⟨g1,0,none⟩) n c1)/\w.cell? ⟨go,m,none⟩=some (.slice (some ⟨g2,0,none⟩) n c2)/\(∀q,w.frozen? ⟨go,q,none⟩=false)/\
  BS w0 ((w.setCell ⟨go,i,none⟩ (.slice (some ⟨g2,0,none⟩) n c2)).setCell ⟨go,m,none⟩ (.slice (some ⟨g1,0,none⟩) n c1)) base n go cap top (bA f i m):=by
 have hb:=h;obtain⟨g1,c1,_,t1,e1,_⟩:=hb.row i hi;obtain⟨g2,c2,_,t2,e2,_⟩:=hb.row m hm;obtain⟨h1,⟨h2,h3⟩,h4,h5⟩:=h;obtain⟨_,_,ho,_,_⟩:=id h1;obtain⟨rQ,cur,hblk⟩:=yz ho;obtain⟨x,y,q1,q2,hw⟩:=h1.swap i m hi hm (Cm f n);rw[e1]at q1;rw[e2]at q2;simp only[Option.some.injEq]at q1 q2;subst q1 q2;rw[ald f n i m hi hm]at hw;refine⟨g1,c1,g2,c2,e1,e2,λq=>hblk.free q,hw,⟨h2,λm' g' n' c' hm' hc=>?_⟩,(h4.setCell rQ _).setCell rQ _,by simpa using h5⟩;by_cases h7:m'=m
 . subst h7;rw[ag.cell ((hblk.set i _).set m' _)]at hc;rw[List.getElem?_set_self']at hc;have:g'=g1:=by
    cases hq:(cur.set i (.slice (some ⟨g2,0,none⟩) n c2))[m']? with
    |none=>rw[hq]at hc;simp at hc
    |some z=>rw[hq]at hc;simp at hc;exact hc.1.symm
   omega
 . rw[World.cell?_setCell_other _ _ _ _ (show(⟨go,m,none⟩:Addr)≠⟨go,m',none⟩from λe=>h7 (by simpa using e.symm))]at hc;by_cases h8:m'=i
   . subst h8;rw[ag.cell (hblk.set m' _),List.getElem?_set_self']at hc;have:g'=g2:=by
      cases hq:cur[m']? with
      |none=>rw[hq]at hc;simp at hc
      |some z=>rw[hq]at hc;simp at hc;exact hc.1.symm
     omega
   . rw[World.cell?_setCell_other _ _ _ _ (show(⟨go,i,none⟩:Addr)≠⟨go,m',none⟩from λe=>h8 (by simpa using e.symm))]at hc;exact h3 m' g' n' c' hm' hc
end Go.Proofs.YtoopepmmepmfnaaGreatDoor
namespace Go.Proofs.YtoopepmmepmfnaaGreatDoor
open Go.RowKit
attribute [local go_sem ↓] Go.wp_at_zero Go.wp_at_succ
def BT (w0 w:World)(base n go cap top:Nat)(f:Nat->Nat->Int)(r l kb:Nat)(last:Int)(k:Nat):Prop:=
 BS w0 w base n go cap top f/\ag w r 32 [.bool false,.string ⟨#[]⟩]/\ag w l 32 [.bool (aj last),.string (bs (nt last.natAbs))]/\ag w kb 3 [.int .i64 (k:Int)]/\base<=top/\top<=r/\top<=l/\top<=kb
theorem BT.below {w0 w w':World}{base n go cap top:Nat}{f:Nat->Nat->Int}{r l kb:Nat}{last:Int}{k:Nat}(h:BT w0 w base n go cap top f r l kb last k)(hb:Bw w w'):BT w0 w' base n go cap top f r l kb last k:=by obtain⟨h1,h2,h3,h4,h5,h6⟩:=h;exact⟨h1.below hb h5,h2.below hb,h3.below hb,h4.below hb,h5,h6⟩
theorem BT.congr {w0 w:World}{base n go cap top:Nat}{f g:Nat->Nat->Int}{r l kb:Nat}{last:Int}{k:Nat}(h:BT w0 w base n go cap top f r l kb last k)(he:∀a b,a<n->b<n->f a b=g a b):BT w0 w base n go cap top g r l kb last k:=
 ⟨h.1.congr he,h.2⟩
theorem BT.drew {w0 w:World}{base n go cap top:Nat}{f:Nat->Nat->Int}{r l kb:Nat}{last:Int}{k:Nat}(h:BT w0 w base n go cap top f r l kb last k):BT w0 w.drew base n go cap top f r l kb last k:=h.below ((Below.refl _ _).drew)
theorem BT.row {w0 w:World}{base n go cap top:Nat}{f:Nat->Nat->Int}{r l kb:Nat}{last:Int}{k:Nat}(h:BT w0 w base n go cap top f r l kb last k)(i:Nat)(hi:i<n):
 ∃g c,g<w.heap.size/\g<top/\w.cell? ⟨go,i,none⟩=some (.slice (some ⟨g,0,none⟩) n c)/\(∀j,j<n->w.cell? ⟨g,j*2,none⟩=some (.bool (aj (f i j)))/\w.cell? ⟨g,j*2+1,none⟩=some (.string (bs (nt (f i j).natAbs))))/\
  (∀q,w.frozen? ⟨g,q,none⟩=false)/\
  ∀j,j<n->∀y:Int,BT w0 ((w.setCell ⟨g,j*2,none⟩ (.bool (aj y))).setCell ⟨g,j*2+1,none⟩ (.string (bs (nt y.natAbs)))) base n go cap top (λa b=>if a=i/\b=j then y else f a b) r l kb last k:=by
 obtain⟨h1,h2,h3,h4,h5,h6,h7,h8⟩:=h;have h9:=h1.2.2.2;obtain⟨g,c,hb,ht,e1,e2,e3,hw⟩:=h1.row i hi;refine⟨g,c,by omega,ht,e1,e2,e3,λj hj y=>⟨hw j hj y,?_,?_,?_,h5,h6,h7,h8⟩⟩
 . exact(h2.so _ _ zo _).so _ _ zo _
 . exact(h3.so _ _ zo _).so _ _ zo _
 . exact(h4.so _ _ zo _).so _ _ zo _
theorem BT.swap {w0 w:World}{base n go cap top:Nat}{f:Nat->Nat->Int}{r l kb:Nat}{last:Int}{k:Nat}(h:BT w0 w base n go cap top f r l kb last k)(i m:Nat)(hi:i<n)(hm:m<n):
 ∃g1 c1 g2 c2,w.cell? ⟨go,i,none⟩=some (.slice (some ⟨g1,0,none⟩) n c1)/\w.cell? ⟨go,m,none⟩=some (.slice (some ⟨g2,0,none⟩) n c2)/\(∀q,w.frozen? ⟨go,q,none⟩=false)/\
  BT w0 ((w.setCell ⟨go,i,none⟩ (.slice (some ⟨g2,0,none⟩) n c2)).setCell ⟨go,m,none⟩ (.slice (some ⟨g1,0,none⟩) n c1)) base n go cap top (bA f i m) r l kb last k:=by
 obtain⟨h1,h2,h3,h4,h5,h6,h7,h8⟩:=h;have h9:=h1.2.1.1;obtain⟨g1,c1,g2,c2,e1,e2,e3,hw⟩:=h1.swap i m hi hm;refine⟨g1,c1,g2,c2,e1,e2,e3,hw,?_,?_,?_,h5,h6,h7,h8⟩
 . exact(h2.so _ _ zo _).so _ _ zo _
 . exact(h3.so _ _ zo _).so _ _ zo _
 . exact(h4.so _ _ zo _).so _ _ zo _
theorem BT.aqZ {w0 w:World}{base n go cap top:Nat}{f:Nat->Nat->Int}{r l kb:Nat}{last:Int}{k:Nat}(h:BT w0 w base n go cap top f r l kb last k)(i:Nat)(hi:i<n):
 ∃g c,g<w.heap.size/\g<top/\w.cell? ⟨go,i,none⟩=some (.slice (some ⟨g,0,none⟩) n c)/\(∀j,j<n->w.cell? ⟨g,j*2,none⟩=some (.bool (aj (f i j)))/\w.cell? ⟨g,j*2+1,none⟩=some (.string (bs (nt (f i j).natAbs))))/\
  ∀w',Bw w w'->(∀q,w'.frozen? ⟨g,q,none⟩=false)/\∀j,j<n->∀y:Int,BT w0 ((w'.setCell ⟨g,j*2,none⟩ (.bool (aj y))).setCell ⟨g,j*2+1,none⟩ (.string (bs (nt y.natAbs)))) base n go cap top (λa b=>if a=i/\b=j then y else f a b) r l kb last k:=by
 obtain⟨g,c,h1,h2,h3,h4,_,_⟩:=h.row i hi;refine⟨g,c,h1,h2,h3,h4,λw' hb=>?_⟩;obtain⟨g',c',_,_,e3,_,e5,e6⟩:=(h.below hb).row i hi;have:=cell_later hb h3;rw[e3]at this;simp at this;obtain⟨rfl,rfl⟩:=this;exact⟨e5,e6⟩
theorem BS.setOther {w0 w:World}{base n go cap top:Nat}{f:Nat->Nat->Int}(h:BS w0 w base n go cap top f)(vG:base<=top)(p o:Nat)(u:Value)(hp:top<=p):BS w0 (w.setCell ⟨p,o,none⟩ u) base n go cap top f:=by
 have hbs:=h;obtain⟨⟨vals,hl,ho,hv,hd⟩,⟨h2,h3⟩,h4,h5⟩:=h;refine⟨⟨vals,hl,ownsRow_setCell_other ho (by simp[Value.ownBlock];omega) _,λi hi=>?_,hd⟩,⟨h2,λm g n' c hm hc=>h3 m g n' c hm ?_⟩,h4.setCell zp _,by simpa using h5⟩
 . obtain⟨g,c,_,ht,e,_⟩:=hbs.row i zo;rw[kd ho i hi]at e;have e1:vals[i]=.slice (some ⟨g,0,none⟩) n c:=by simpa using e
   exact ownsRow_setCell_other (hv i hi) (by rw[e1];simp[Value.ownBlock];omega) _
 . rw[World.cell?_setCell_far _ _ _ _ zp]at hc;exact hc
theorem BT.setLast {w0 w:World}{base n go cap top:Nat}{f:Nat->Nat->Int}{r l kb:Nat}{last:Int}{k:Nat}(h:BT w0 w base n go cap top f r l kb last k)(x:Int)(h1:l≠r)(h2:l≠kb):
 BT w0 ((w.setCell ⟨l,0,none⟩ (.bool (aj x))).setCell ⟨l,1,none⟩ (.string (bs (nt x.natAbs)))) base n go cap top f r l kb x k:=by
 obtain⟨q1,q2,q3,q4,q5,q6,q7,q8⟩:=h;exact⟨(q1.setOther q5 l 0 _ q7).setOther q5 l 1 _ q7,(q2.so _ _ h1 _).so _ _ h1 _,(q3.set 0 _).set 1 _,(q4.so _ _ h2 _).so _ _ h2 _,q5,q6,q7,q8⟩
theorem alR (x y N:Int)(h:x-y=N)(w:World)(hx:(nt x.natAbs).length<=34359738368)(hy:(nt y.natAbs).length<=34359738368):
 Calls Tryz.prog 37 #[.agg #[.bool (aj x),.string (bs (nt x.natAbs))],.agg #[.bool (aj y),.string (bs (nt y.natAbs))]] w λe w'=>e=.returned (bM N)/\Bw w w':=by
 have:=Gk (aj x) (nt x.natAbs) (aj y) (nt y.natAbs) w hx hy;rw[dI,dI,h]at this;exact this
theorem Yx (x y N:Int)(h:x*y=N)(b cap:Nat)(ty:TypeId)(w:World)(hx:(nt x.natAbs).length<=17179869184)(hy:(nt y.natAbs).length<=17179869184)(ha:ag w b ty [.bool (aj x),.string (bs (nt x.natAbs)),.bool (aj y),.string (bs (nt y.natAbs))]):
 Calls Tryz.prog 88 #[.slice (some ⟨b,0,none⟩) 2 cap] w λe w'=>e=.returned (bM N)/\Bw w w':=
 Yy _ _ _ _ N (by rw[dI,dI,h]) b cap ty w hx hy ha
theorem BS.row_ne {w0 w:World}{base n go cap top:Nat}{f:Nat->Nat->Int}(h:BS w0 w base n go cap top f)(i:Nat)(hi:i<n){g c:Nat}(hc:w.cell? ⟨go,i,none⟩=some (.slice (some ⟨g,0,none⟩) n c)):g≠go:=by
 obtain⟨⟨vals,hl,ho,hv,hd⟩,_⟩:=h;have hi2:i<vals.length:=by omega
 rw[kd ho i hi2]at hc;simp only[Option.some.injEq]at hc;have hrow:=hv i hi2;rw[hc]at hrow;obtain⟨_,c1,b1⟩:=yz hrow;obtain⟨_,c2,b2⟩:=yz ho;rintro rfl;have:=b1.symm.trans b2;simp at this
def Ca (f:Nat->Nat->Int)(n k:Nat):Int:=match mN f n k with|none=>-1|some m=>(m:Int)
open Classical in
theorem BS.index {w0 w:World}{base n go cap top:Nat}{f:Nat->Nat->Int}(h:BS w0 w base n go cap top f)(k kb:Nat)(hk:k<n)(hn:n<=8)(hkb:w.cell? ⟨kb,0,none⟩=some (.int .i64 (k:Int)))(hz:∀a b,a<n->b<n->(nt (f a b).natAbs).length<=1099511627776):
 Calls Tryz.prog 181 #[.slice (some ⟨go,k,none⟩) (n-k) (cap-k),.func (.func 182) #[] #[.pointer (some ⟨kb,0,none⟩)]] w λe w'=>e=.returned (.int .i64 (Ca f n k))/\Bw w w':=by
 have hbs:=h;obtain⟨h1,_,_,_⟩:=h;obtain⟨vals,hl,ho,hv,hd⟩:=h1;have hrow:∀i (hi:i<vals.length),∃g c,vals[i]=.slice (some ⟨g,0,none⟩) n c/\∀j,j<n->w.cell? ⟨g,j*2,none⟩=some (.bool (aj (f i j)))/\w.cell? ⟨g,j*2+1,none⟩=some (.string (bs (nt (f i j).natAbs))):=by intro i hi;obtain⟨g,c,_,_,e1,e2,_⟩:=hbs.row i zo;rw[kd ho i hi]at e1;exact⟨g,c,by simpa using e1,e2⟩
 have hinj:∀i j (hi:i<vals.length) (hj:j<vals.length),vals[i]=vals[j]->i=j:=by intro i j hi hj e;obtain⟨g,c,e1,_⟩:=hrow i hi;exact hd i j hi hj g (by rw[e1];rfl) (by rw[<-e,e1];rfl)
 obtain⟨p,hp⟩:∃p:Value->Bool,∀i (hi:i<vals.length),p vals[i]=decide (f i k≠0):=by
  refine⟨λv=>decide (∃i,∃hi:i<vals.length,vals[i]=v/\f i k≠0),λi hi=>?_⟩;by_cases h0:f i k≠0
  . have:∃j,∃hj:j<vals.length,vals[j]=vals[i]/\f j k≠0:=⟨i,hi,rfl,h0⟩;show decide _=decide _
    rw[decide_eq_true this,decide_eq_true h0]
  . have:¬∃j,∃hj:j<vals.length,vals[j]=vals[i]/\f j k≠0:=by rintro⟨j,hj,e,h2⟩;exact h0 (by rw[<-hinj j i hj hi e];exact h2)
    simp only[this,h0,decide_false]
 have hpv:=ajH p vals f n k zo hp;have hat:At w (some ⟨go,k,none⟩) (vals.drop k):=by refine .inr ⟨go,k,rfl,λj hj=>?_⟩;rw[List.length_drop]at hj;rw[kd ho (k+j) zo,List.getElem?_drop,List.getElem?_eq_getElem]
 have:=ag9 (some ⟨go,k,none⟩) (n-k) (cap-k) (vals.drop k) 182 #[.pointer (some ⟨kb,0,none⟩)] p w (by rw[List.length_drop,hl]) zo hat (enters_of Tryz.func182 zk rfl) (λv hv W hb=>by
  obtain⟨i,hi,rfl⟩:=List.mem_iff_getElem.1 hv;rw[List.getElem_drop];have hi2:k+i<vals.length:=by rw[List.length_drop]at hi;omega
  obtain⟨g,c,e1,e2⟩:=hrow (k+i) hi2;obtain⟨e3,e4⟩:=e2 k hk;rw[hp (k+i) hi2,e1]
  exact ac5 kb k g n c (f (k+i) k) W (cell_later hb hkb) hk (cell_later hb e3) (cell_later hb e4) (hz _ _ zo hk))
 rw[hpv]at this;exact this
def Bs (w0 w:World)(base n go cap top r l K:Nat)(Z:Int)(k:Nat)(f:Nat->Nat->Int)(last:Int)(t:Bool):Prop:=
 BS w0 w base n go cap top f/\ag w r 32 [.bool false,.string ⟨#[]⟩]/\ag w l 32 [.bool (aj last),.string (bs (nt last.natAbs))]/\fh n (n-k) k f last/\dG n (n-k) k f last t=Z/\last≠0/\
  ∃Q,Q+1<=2^k* (K+1)/\last.natAbs<2^Q/\∀a b,a<n->b<n->(f a b).natAbs<2^Q
theorem ak2 (f:Nat->Nat->Int)(k:Nat):bA f k (k+0)=f:=by
 funext a b;unfold bA
 simp only[Nat.add_zero];by_cases h:a=k
 . rw[if_pos h,h]
 . rw[if_neg h,if_neg h]
theorem Bs.none {w0 w:World}{base n go cap top r l K k:Nat}{Z:Int}{f:Nat->Nat->Int}{last:Int}{t:Bool}(h:Bs w0 w base n go cap top r l K Z k f last t)(hk:k<n)(hp:mN f n k=none):Z=0:=by obtain⟨_,_,_,_,h2,_⟩:=h;rw[show n-k=n-(k+1)+1 by omega]at h2;unfold dG at h2;rw[hp]at h2;exact h2.symm
theorem Bs.some {w0 w:World}{base n go cap top r l K k m:Nat}{Z:Int}{f:Nat->Nat->Int}{last:Int}{t:Bool}(h:Bs w0 w base n go cap top r l K Z k f last t)(hk:k<n)(hp:mN f n k=some m):
 ∃g,g=bA f k (k+m)/\g k k≠0/\(∀a b,k<a->a<n->k<b->b<n->last∣bK g k a b)/\fh n (n-(k+1)) (k+1) (cM g k last) (g k k)/\dG n (n-(k+1)) (k+1) (cM g k last) (g k k) (t !=decide (0<m))=Z/\
  ∃Q,2*Q+2<=2^(k+1) * (K+1)/\last.natAbs<2^Q/\(∀a b,a<n->b<n->(g a b).natAbs<2^Q)/\(g k k).natAbs<2^(2*Q+1)/\∀a b,a<n->b<n->(cM g k last a b).natAbs<2^(2*Q+1):=by
 obtain⟨_,_,_,h1,h2,h3,Q,hQ,hl,hf⟩:=h;have EO:=jG hp;rw[show n-k=n-(k+1)+1 by omega]at h1 h2;unfold fh at h1;unfold dG at h2;rw[hp]at h1 h2;simp only at h1 h2;obtain⟨g,hg⟩:∃g,g=bA f k (k+m):=⟨_,rfl⟩;rw[<-hg]at h1 h2;have gB:∀a b,a<n->b<n->(g a b).natAbs<2^Q:=by
  intro a b ha hb;rw[hg];unfold bA;refine hf _ _ ?_ hb;split
  . omega
  . split
    . omega
    . exact ha
 have AH:2^Q<=2^(2*Q+1):=Nat.pow_le_pow_right zd zo;refine⟨g,hg,?_,h1.1,h1.2,h2,Q,?_,hl,gB,Nat.lt_of_lt_of_le (gB k k hk hk) AH,λa b ha hb=>?_⟩
 . rw[hg];unfold bA;rw[if_pos rfl];exact EO.2
 . rw[Nat.pow_succ];have:2^k*2* (K+1)=2* (2^k* (K+1)):=by rw[Nat.mul_comm (2^k) 2,Nat.mul_assoc]
   omega
 . unfold cM;split
   . rename_i h4
     have h5:=(MQ g k a b Q (gB a b ha hb) (gB k k hk hk) (gB a k ha hk) (gB k b hk hb)).2.2;rcases div_lt _ last _ h5 with h6|h6
     . exact h6
     . exact absurd (h1.1 a b h4.1 ha h4.2 hb) h6
   . exact Nat.lt_of_lt_of_le (gB a b ha hb) AH
theorem Bs.next {w0 w:World}{base n go cap top r l kb K k:Nat}{Z:Int}{f g:Nat->Nat->Int}{x:Int}{t:Bool}(h:BT w0 w base n go cap top f r l kb x k)(hf:∀a b,a<n->b<n->f a b=g a b)(hx:x≠0)(h1:fh n (n-(k+1)) (k+1) g x)(h2:dG n (n-(k+1)) (k+1) g x t=Z)
 (h3:∃Q,Q+1<=2^(k+1) * (K+1)/\x.natAbs<2^Q/\∀a b,a<n->b<n->(g a b).natAbs<2^Q):Bs w0 w base n go cap top r l K Z (k+1) g x t:=
 ⟨(h.congr hf).1,h.2.1,h.2.2.1,h1,h2,hx,h3⟩
def Dd (a0:Act)(w0:World)(cs:List (Addr×Value))(x1 x2 x3 x4 P1 P2 N:Int)(dn:Nat->Bool)(a:Act)(w:World):Prop:=
 ∃v1 v2 v3 v4 v5 v6:Value,a=(((((a0.put (some 76) v1).put (some 77) v2).put (some 92) v3).put (some 93) v4).put (some 94) v5).put (some 10) v6/\ij cs w/\Bw w0 w/\
  (dn 14=true->∃b,v1=.slice (some ⟨b,0,none⟩) 2 2/\ag w b 32 [.bool (aj x1),.string (bs (nt x1.natAbs)),.bool (aj x2),.string (bs (nt x2.natAbs))])/\(dn 15=true->v2=bM P1)/\
  (dn 30=true->∃b,v3=.slice (some ⟨b,0,none⟩) 2 2/\ag w b 32 [.bool (aj x3),.string (bs (nt x3.natAbs)),.bool (aj x4),.string (bs (nt x4.natAbs))])/\(dn 31=true->v4=bM P2)/\(dn 32=true->v5=bM N)/\
  (dn 33=true->∃b,v6=.pointer (some ⟨b,0,none⟩)/\w0.heap.size<=b/\ag w b 32 [.bool false,.string ⟨#[]⟩])
theorem Dd.init (a:Act)(w0 w:World)(cs:List (Addr×Value))(x1 x2 x3 x4 P1 P2 N:Int)(hk:ij cs w)(hb:Bw w0 w):Dd a w0 cs x1 x2 x3 x4 P1 P2 N (λ_=>false) a w:=
 ⟨a.tmps.getD 76 undef,a.tmps.getD 77 undef,a.tmps.getD 92 undef,a.tmps.getD 93 undef,a.tmps.getD 94 undef,a.tmps.getD 10 undef,by rw[yD,yD,yD,yD,yD,yD],hk,hb,(λh=>by cases h),(λh=>by cases h),(λh=>by cases h),(λh=>by cases h),(λh=>by cases h),(λh=>by cases h)⟩
theorem ac6 (base n K:Nat)(f:Nat->Nat->Int)(v:Value)(w:World)(hn:1<=n)(cE:n<=4)(hO:gS w base n (dD f n) n v)(ft:base<=w.heap.size)(xP:1<=K)(hK:∀a b,a<n->b<n->(f a b).natAbs<2^K)(hK2:K<=100000000):
 Calls Tryz.prog 143 #[v] w λe w'=>e=.returned (bM (dG n n 0 f 1 false))/\Below base w w':=by
 obtain⟨go,cap,rfl,hcap,hbs⟩:=BS.begin hO hn;obtain⟨Z,hZ⟩:=az (dG n n 0 f 1 false);have hex:=RG n hn cE f;have hsz:∀k Q:Nat,k<=n->Q+1<=2^k* (K+1)->Q<=1800000000:=by intro k Q h1 h2;have h3:2^k<=2^4:=Nat.pow_le_pow_right zd zo;have h4:=Nat.mul_le_mul_right (K+1) h3;omega
 rw[hZ];obtain⟨OX,HZ,Pg,kY,HK⟩:=iA hbs hZ hex hsz hK;clear hO hbs hZ hex hsz hK;have Hb:Hid (Bw w w):=Below.refl _ _;go_enter Tryz.func143,Tryz.ntmps143;go_wp2_with fail;obtain⟨R,hR⟩:∃R:World->Prop,(λW=>ag W (w.heap.size) 32 [.bool false,.string ⟨#[]⟩]/\Bw w W)=R:=⟨_,rfl⟩;first|refine bB R ?hR ?_|refine bz R ?hR ?_
 case hR=>subst hR;exact⟨(ag.newAt w _ _ (b:=w.heap.size) rfl),zl⟩
 subst hR;rintro W ⟨qr,ae⟩;have Hr:=af qr;clear qr;obtain⟨r0,ah,r1,ai⟩:=Hr.out.g2;replace Hb:=ak Hb ae;clear ae;go_wp2_with fail;refine(NS 1 _ zd zd).mono ?_;rintro e w1 ⟨rfl,ae⟩;clear r0 ah r1 ai;replace Hr:=kB Hr ae;obtain⟨r0,ah,r1,ai⟩:=Hr.out.g2;replace Hb:=ak Hb ae;clear ae;have nO:=Hr.out.lt;obtain⟨W2,kz,ae,Hl⟩:=bH w1 32 [.bool (aj 1),.string (bs (nt 1))];clear r0 ah r1 ai;replace Hr:=kB Hr ae;obtain⟨r0,ah,r1,ai⟩:=Hr.out.g2;obtain⟨l0,gp,l1,gq⟩:=Hl.out.g2;replace Hb:=ak Hb ae;clear ae;have Oj:=af (OX.out.below Hb.out zo);have agE:w.heap.size<w1.heap.size:=nO;have hq0:=Hr.out;have hq1:=Hl.out;clear r0 r1 ah ai l0 l1 gp gq;have hst:Bs w W2 base n go cap w.heap.size w.heap.size w1.heap.size K Z 0 f 1 false:=⟨Oj.out,hq0,hq1,Pg.out,HZ.out,by decide,K,by omega,by rw[show(1:Int).natAbs=1 from rfl];exact Nat.one_lt_two_pow zo,HK.out⟩;clear hq0 hq1;have bR:=af hst;have szW:=Hb.out.size;clear hst Oj Hb Hr Hl OX HK Pg HZ;go_wp2_with fail;go_loopw[5,15] (λs5 x wr=>∃(k:Nat) (f':Nat->Nat->Int) (last:Int) (t:Bool),k<=n/\x=.int .i64 (k:Int)/\s5=.bool t/\Bs w wr base n go cap w.heap.size w.heap.size w1.heap.size K Z k f' last t) (λ_ x _=>n-(intOf x).toNat);case atStart=>exact⟨0,f,1,false,Nat.zero_le _,rfl,rfl,bR.out⟩
 case round=>
  clear bR;obtain⟨k,f',last,t,hk,rfl,rfl,hS⟩:=hrel;obtain⟨wk,hwk⟩:∃wk,wk=wr:=⟨_,rfl⟩;subst hwk;by_cases hlt:k<n
  . obtain⟨Q0,SQ,_,SU⟩:=hS.2.2.2.2.2.2;have eN:=kY.out k Q0 hk SQ;have hlen:∀a b,a<n->b<n->(nt (f' a b).natAbs).length<=1099511627776:=λa b ha hb=>jf (SU a b ha hb) zo;have hkc:k<cap:=by omega
    obtain⟨HS,lT⟩:=aJ hS hlen;have sN:=hS.1.2.2.2;clear hS SQ SU eN hlen;have Hb:Hid (Bw wk wk):=Below.refl _ _;obtain⟨Hr,Hl⟩:=aJ HS.out.2.1 HS.out.2.2.1;obtain⟨r0,ah,r1,ai⟩:=Hr.out.g2;obtain⟨l0,gp,l1,gq⟩:=Hl.out.g2;have Fi:=Hr.out.lt;have aib:=Hl.out.lt;obtain⟨W3,KV,ae,kV⟩:=bH wk 3 [.int .i64 (k:Int)];clear r0 ah r1 ai;replace Hr:=kB Hr ae;clear l0 gp l1 gq;replace Hl:=kB Hl ae;obtain⟨r0,ah,r1,ai⟩:=Hr.out.g2;obtain⟨l0,gp,l1,gq⟩:=Hl.out.g2;have dm:=kV.out.c1;replace Hb:=ak Hb ae;clear ae;have iV:=af (HS.out.1.below Hb.out zo);go_wp2_with fail;refine(iV.out.index k wk.heap.size hlt zo dm lT.out).mono ?_;rintro e w4 ⟨rfl,ae⟩;clear r0 ah r1 ai l0 gp l1 gq dm;replace Hr:=kB Hr ae;replace Hl:=kB Hl ae;replace kV:=kB kV ae;obtain⟨r0,ah,r1,ai⟩:=Hr.out.g2;obtain⟨l0,gp,l1,gq⟩:=Hl.out.g2;have dm:=kV.out.c1;replace Hb:=ak Hb ae;clear ae;cases hp:mN f' n k with
    | none=>
      have hpv:Ca f' n k= -1:=by unfold Ca;rw[hp]
      have hz:=HS.out.none hlt hp;rw[hpv];have ZP:=af (HS.out.1.2.2.1.trans (Hb.out.mono zo));clear HS lT iV hp;go_wp2;refine bodyPost_ret (v:=.agg #[.bool false,.string ⟨#[]⟩]) (by simp[results,Tryz.results143,go_sem,r0,r1]) rfl ⟨by rw[hz];rfl,?_⟩;exact(ZP.out.setCell zp _).setCell zp _
    | some m=>
      have hpv:Ca f' n k=(m:Int):=by unfold Ca;rw[hp]
      rw[hpv];obtain⟨nD,_⟩:=jG hp;obtain⟨g,hg,kD,kC,TQ,TB,Q,hQ,Bf,gB,Ud,BF⟩:=HS.out.some hlt hp;have hl0:=HS.out.2.2.2.2.2.1;have vG:BT w w4 base n go cap w.heap.size f' w.heap.size w1.heap.size wk.heap.size last k:=⟨HS.out.1.below Hb.out zo,Hr.out,Hl.out,kV.out,by omega,Nat.le_refl _,by omega,by omega⟩;obtain⟨sU,Hdv,Ph,OV,HQ,PE,Pw,Py,td,Hg,CQ,mS⟩:=iR vG kC TQ TB hQ Bf gB Ud BF hg kD hl0;clear vG kC TQ TB hQ Bf gB Ud BF hg kD hl0 hpv hp HS lT iV Hb Hr Hl kV r0 r1 ah ai l0 l1 gp gq dm;have hm0:¬(m:Int)<0:=by omega
      go_upto_if 27 with fail
      go_cut[5] (λs5 wx=>s5=.bool (t !=decide (0<m))/\BT w wx base n go cap w.heap.size g w.heap.size w1.heap.size wk.heap.size last k);case first=>
       by_cases hm:0<m
       . have jz:(0:Int)<(m:Int):=by omega
         obtain⟨g1,c1,g2,c2,e1,e2,e3,hsw⟩:=sU.out.swap k (k+m) hlt zo;rw[<-Hg.out]at hsw;have Ja:=af hsw;have oX:=yj n cap k (k:Int) (rfl:(some ⟨go,0,none⟩:Option Addr)=_) hlt rfl;have lD:=yj n cap (k+m) ((k+m:Nat):Int) (rfl:(some ⟨go,0,none⟩:Option Addr)=_) zo rfl;rw[Nat.zero_add,Nat.mul_one]at oX lD;have hwm:IntKind.i64.wrap ((k:Int)+(m:Int))=((k+m:Nat):Int):=by rw[IntKind.wrap_i64];omega
         obtain⟨km,oY⟩:=az (k+m);rw[oY]at e2 lD hwm Ja;have kV:=af sU.out.2.2.2.1;have Hxa:Hid (bg w4 go k [.slice (some ⟨g1,0,none⟩) n c1]):=λj hj=>by
          obtain rfl:j=0:=by simp at hj;omega
          exact e1
         have Hxb:Hid (bg w4 go km [.slice (some ⟨g2,0,none⟩) n c2]):=λj hj=>by
          obtain rfl:j=0:=by simp at hj;omega
          exact e2
         have z1:w4.drew.frozen? ⟨go,k,none⟩=false:=e3 k;have z2:w4.drew.frozen? ⟨go,km,none⟩=false:=e3 km;have z3:w4.frozen? ⟨go,km,none⟩=false:=e3 km;have y2:(w4.setCell ⟨go,k,none⟩ (.slice (some ⟨g2,0,none⟩) n c2)).cell? ⟨go,km,none⟩=some (.slice (some ⟨g2,0,none⟩) n c2):=aC (.inr zp) e2;have Hkm:=af oY;clear hsw e1 e2 e3 oY;go_wp2_with fail;have dm:=kV.out.c1;have xa0:=Hxa.out.w1;have xb0:=Hxb.out.w1;have hgo:go<wk.heap.size:=by have:=sU.out.1.2.1.1;omega
         refine YD (λw'=>w'.cell? ⟨wk.heap.size,0,none⟩=some (.int .i64 (k:Int))) (λi=>Nat.blt i 19) (.rd 0 (.rd 1 (.rd 2 (.rd 3 (.rd 4 (.rd 5 (.rd 6 (.rd 7 (.rd 8 (.rd 9 (.rd 10 (.rd 12 (.rd 13 (.rd 14 (.br 11 15 (.lin [(15,false),(16,true),(17,false),(18,false),(19,false)]) (.lin [(11,false),(16,true),(17,false),(18,false),(19,false)])))))))))))))))) zk zk rfl zk zc dm ?_;iterate 14 (refine Xg rfl rfl (v:=?_) (λw' hw'=>?_) ?_;rotate_left;(focus go_simp;try with_reducible rfl);try simp only[UU])
         refine Ni rfl rfl rfl rfl rfl rfl  (λK hK=>?_) (λK hK=>?_) 
         . go_simp;refine hK _ _ (by first|exact λ_=>dm|exact λ_=>eW zg dm) ?_;clear hK K;try simp only[UU]
           refine Cf ?_;refine aF rfl rfl (λK hK=>?_);go_simp;refine hK _ _ (by first|exact λh=>absurd h zd|exact λ_=>dm|exact λ_=>eW zg dm) ?_;clear hK K;try simp only[UU]
           refine pT rfl rfl ?_;try simp only[UU]
           refine aF rfl rfl (λK hK=>?_);go_simp;refine hK _ _ (by first|exact λh=>absurd h zd|exact λ_=>dm|exact λ_=>eW zg dm) ?_;clear hK K;try simp only[UU]
           refine aF rfl rfl (λK hK=>?_);go_simp;refine hK _ _ (by first|exact λh=>absurd h zd|exact λ_=>dm|exact λ_=>eW zg dm) ?_;clear hK K;try simp only[UU]
           refine aF rfl rfl (λK hK=>?_);go_simp;refine hK _ _ (by first|exact λh=>absurd h zd|exact λ_=>dm|exact λ_=>eW zg dm) ?_;clear hK K;try simp only[UU]
           simp only[aN];go_wp2_with fail;go_meet;exact⟨by simp[hm],Ja.out.drew⟩
         . go_simp;refine hK _ _ (by first|exact λ_=>dm|exact λ_=>eW zg dm) ?_;clear hK K;try simp only[UU]
           refine Cf ?_;refine aF rfl rfl (λK hK=>?_);go_simp;refine hK _ _ (by first|exact λh=>absurd h zd|exact λ_=>dm|exact λ_=>eW zg dm) ?_;clear hK K;try simp only[UU]
           refine pT rfl rfl ?_;try simp only[UU]
           refine aF rfl rfl (λK hK=>?_);go_simp;refine hK _ _ (by first|exact λh=>absurd h zd|exact λ_=>dm|exact λ_=>eW zg dm) ?_;clear hK K;try simp only[UU]
           refine aF rfl rfl (λK hK=>?_);go_simp;refine hK _ _ (by first|exact λh=>absurd h zd|exact λ_=>dm|exact λ_=>eW zg dm) ?_;clear hK K;try simp only[UU]
           refine aF rfl rfl (λK hK=>?_);go_simp;refine hK _ _ (by first|exact λh=>absurd h zd|exact λ_=>dm|exact λ_=>eW zg dm) ?_;clear hK K;try simp only[UU]
           simp only[aN];go_wp2_with fail;go_meet;exact⟨by simp[hm],Ja.out.drew⟩
       . have hm2:¬(0:Int)<(m:Int):=by omega
         obtain rfl:m=0:=by omega
         go_wp2_with fail;go_meet;refine⟨by simp,?_⟩;rw[Hg.out,ak2];exact sU.out
      case rest=>
       obtain⟨rfl,vG⟩:=hcut;have sU:=af vG;have eN:=kY.out (k+1) (2*Q+1) zo (by have:=HQ.out;omega);clear vG;have dm:wc.cell? ⟨wk.heap.size,0,none⟩=some (.int .i64 (k:Int)):=sU.out.2.2.2.1.cell 0;go_wp2_with fail;go_loopw[8] (λx wr=>∃i:Nat,k<i/\i<=n/\x=.int .i64 (i:Int)/\BT w wr base n go cap w.heap.size (jh g k last i (k+1)) w.heap.size w1.heap.size wk.heap.size last k) (λx _=>n-(intOf x).toNat);case atStart=>exact⟨k+1,by omega,by omega,by go_num,by rw[ajD];exact sU.out⟩
       case round=>
        clear dm sU;obtain⟨i,EC,hin,rfl,hT⟩:=hrel;have zn:=af hT;clear hT;have dm:wr.cell? ⟨wk.heap.size,0,none⟩=some (.int .i64 (k:Int)):=zn.out.2.2.2.1.cell 0;by_cases aZ:i<n
        . obtain⟨wi,rZ⟩:∃wi,wi=wr:=⟨_,rfl⟩;subst rZ;go_wp2_with fail;go_loopw[9] (λx wr=>∃j:Nat,k<j/\j<=n/\x=.int .i64 (j:Int)/\BT w wr base n go cap w.heap.size (jh g k last i j) w.heap.size w1.heap.size wk.heap.size last k) (λx _=>n-(intOf x).toNat);case atStart=>exact⟨k+1,by omega,by omega,by go_num,zn.out⟩
          case round=>
           clear dm zn;obtain⟨j,hkj,hjn,rfl,hT⟩:=hrel;by_cases gK:j<n
           . have xd:=af hT;clear hT;obtain⟨gi,ci,li,ti,ei,ri,_⟩:=xd.out.row i aZ;obtain⟨gk,ck,lk,tk,ek,rk,_⟩:=xd.out.row k hlt;obtain⟨p1,p2,p3,p4⟩:=ajA g k last i j;obtain⟨aa,Df⟩:=ri j gK;obtain⟨ab,Di⟩:=rk k hlt;obtain⟨ac,Dj⟩:=ri k hlt;obtain⟨ad,Dk⟩:=rk j gK;rw[p1]at aa Df;rw[p2]at ab Di;rw[p3]at ac Dj;rw[p4]at ad Dk;have gB:=Pw.out;have q1:=gB i j aZ gK;have q2:=gB k k hlt hlt;have q3:=gB i k aZ hlt;have q4:=gB k j hlt gK;obtain⟨m1,m2,m3⟩:=MQ g k i j Q q1 q2 q3 q4;have kC:=Hdv.out i j EC aZ hkj gK;have vT:=fun a b=>congrFun (congrFun (ajB g k last i j EC hkj) a) b;have hN:g i j*g k k-g i k*g k j=bK g k i j:=rfl;generalize bK g k i j=N at*;obtain⟨x1,hx1⟩:∃x,g i j=x:=⟨_,rfl⟩;obtain⟨x2,hx2⟩:∃x,g k k=x:=⟨_,rfl⟩;obtain⟨x3,hx3⟩:∃x,g i k=x:=⟨_,rfl⟩;obtain⟨x4,Vy⟩:∃x,g k j=x:=⟨_,rfl⟩;rw[hx1]at q1 m1 hN aa Df;rw[hx2]at q2 m1 hN ab Di;rw[hx3]at q3 m2 hN ac Dj;rw[Vy]at q4 m2 hN ad Dk;obtain⟨P1,KI⟩:∃x,x1*x2=x:=⟨_,rfl⟩;obtain⟨P2,oK⟩:∃x,x3*x4=x:=⟨_,rfl⟩;rw[KI]at m1 hN;rw[oK]at m2 hN;have L1:(nt x1.natAbs).length<=17179869184:=jf q1 zo;have L2:(nt x2.natAbs).length<=17179869184:=jf q2 zo;have L3:(nt x3.natAbs).length<=17179869184:=jf q3 zo;have L4:(nt x4.natAbs).length<=17179869184:=jf q4 zo;have L5:(nt P1.natAbs).length<=34359738368:=jf m1 zo;have L6:(nt P2.natAbs).length<=34359738368:=jf m2 zo;have L7:(nt N.natAbs).length<=34359738368:=jf m3 zo;have L8:(nt last.natAbs).length<=34359738368:=jf PE.out zo;obtain⟨iW,Ow,yT,Ox,Oy,Oz,OA,OB,OG,CC,HN,GY⟩:=iR L1 L2 L3 L4 L5 L6 L7 L8 KI oK hN kC;have PN:=af vT;clear L1 L2 L3 L4 L5 L6 L7 L8 KI oK hN kC vT q1 q2 q3 q4 m1 m2 m3 hx1 hx2 hx3 Vy gB p1 p2 p3 p4 ri rk;have Ct:∀(b o:Nat) (u v:Value),wr.cell? ⟨b,o,none⟩=some u->wr.cell? ⟨b,o+1,none⟩=some v->bg wr b o [u,v]:=by
              intro b o u v h1 h2 j hj;rcases j with _|_|j
              . exact h1
              . exact h2
              . simp at hj;omega
             have NU:∀(b o:Nat) (u:Value),wr.cell? ⟨b,o,none⟩=some u->bg wr b o [u]:=by
              intro b o u h1 j hj;obtain rfl:j=0:=by simp at hj;omega
              exact h1
             obtain⟨kV,tu,zY,sQ,mR,za,uP⟩:=jC xd.out.2.2.2.1 (NU _ _ _ ei) (NU _ _ _ ek) (Ct _ _ _ _ aa Df) (Ct _ _ _ _ ab Di) (Ct _ _ _ _ ac Dj) (Ct _ _ _ _ ad Dk);clear NU Ct ei ek aa Df ab Di ac Dj ad Dk;have ixi:=yj n cap i (i:Int) (rfl:(some ⟨go,0,none⟩:Option Addr)=_) aZ rfl;have VS:=yj n cap k (k:Int) (rfl:(some ⟨go,0,none⟩:Option Addr)=_) hlt rfl;rw[Nat.zero_add,Nat.mul_one]at ixi VS;have EW:=se n ci j (j:Int) (rfl:(some ⟨gi,0,none⟩:Option Addr)=_) gK rfl;have VN:=se n ci k (k:Int) (rfl:(some ⟨gi,0,none⟩:Option Addr)=_) hlt rfl;have VO:=se n ck j (j:Int) (rfl:(some ⟨gk,0,none⟩:Option Addr)=_) gK rfl;have VP:=se n ck k (k:Int) (rfl:(some ⟨gk,0,none⟩:Option Addr)=_) hlt rfl;rw[Nat.zero_add]at EW VN VO VP;go_upto_region 18 with fail
             go_cut[10] (λNs wx=>∃b:Nat,Ns=.pointer (some ⟨b,0,none⟩)/\ag wx b 32 [.bool (aj N),.string (bs (nt N.natAbs))]/\Bw wr wx);case first=>
              clear Pw HQ PE Py td Hg OV Ph PN GY CQ xd;obtain⟨w0,hw0⟩:∃w0,w0=w:=⟨_,rfl⟩;subst hw0;obtain⟨w,Mp⟩:∃w,w=wr:=⟨_,rfl⟩;subst Mp;have Hb:Hid (Bw w w):=Below.refl _ _;have dm:=kV.out.c1;have pD:=tu.out.w1;have uK:=zY.out.w1;obtain⟨Dg,Dh⟩:=sQ.out.w2;obtain⟨tv,tA⟩:=mR.out.w2;obtain⟨ac0,ac1⟩:=za.out.w2;obtain⟨ad0,ad1⟩:=uP.out.w2;obtain⟨cs,hcs⟩:∃cs:List (Addr×Value),[(⟨wk.heap.size,0,none⟩,.int .i64 (k:Int)),(⟨go,i,none⟩,.slice (some ⟨gi,0,none⟩) n ci),(⟨go,k,none⟩,.slice (some ⟨gk,0,none⟩) n ck),(⟨gi,j*2,none⟩,.bool (aj x1)),(⟨gi,j*2+1,none⟩,.string (bs (nt x1.natAbs))),(⟨gk,k*2,none⟩,.bool (aj x2)),(⟨gk,k*2+1,none⟩,.string (bs (nt x2.natAbs))),(⟨gi,k*2,none⟩,.bool (aj x3)),(⟨gi,k*2+1,none⟩,.string (bs (nt x3.natAbs))),(⟨gk,j*2,none⟩,.bool (aj x4)),(⟨gk,j*2+1,none⟩,.string (bs (nt x4.natAbs)))]=cs:=⟨_,rfl⟩;have lR:∀w',ij cs w'->w'.cell? ⟨wk.heap.size,0,none⟩=some (.int .i64 (k:Int))/\w'.cell? ⟨go,i,none⟩=some (.slice (some ⟨gi,0,none⟩) n ci)/\w'.cell? ⟨go,k,none⟩=some (.slice (some ⟨gk,0,none⟩) n ck)/\w'.cell? ⟨gi,j*2,none⟩=some (.bool (aj x1))/\w'.cell? ⟨gi,j*2+1,none⟩=some (.string (bs (nt x1.natAbs)))/\w'.cell? ⟨gk,k*2,none⟩=some (.bool (aj x2))/\w'.cell? ⟨gk,k*2+1,none⟩=some (.string (bs (nt x2.natAbs)))/\w'.cell? ⟨gi,k*2,none⟩=some (.bool (aj x3))/\w'.cell? ⟨gi,k*2+1,none⟩=some (.string (bs (nt x3.natAbs)))/\w'.cell? ⟨gk,j*2,none⟩=some (.bool (aj x4))/\w'.cell? ⟨gk,j*2+1,none⟩=some (.string (bs (nt x4.natAbs))):=by subst hcs;intro w' h;exact⟨h.hd,h.tl.hd,h.tl.tl.hd,h.tl.tl.tl.hd,h.tl.tl.tl.tl.hd,h.tl.tl.tl.tl.tl.hd,h.tl.tl.tl.tl.tl.tl.hd,h.tl.tl.tl.tl.tl.tl.tl.hd,h.tl.tl.tl.tl.tl.tl.tl.tl.hd,h.tl.tl.tl.tl.tl.tl.tl.tl.tl.hd,h.tl.tl.tl.tl.tl.tl.tl.tl.tl.tl.hd⟩
              have bP:Hid (ij cs w):=by subst hcs;show ij _ _;intro p hp;simp only[List.mem_cons,List.not_mem_nil,or_false]at hp;rcases hp with rfl|rfl|rfl|rfl|rfl|rfl|rfl|rfl|rfl|rfl|rfl<;>assumption
              refine al4 (λw'=>ij cs w') (λi=>Nat.blt i 34) [14,15,30,31,32,33] (λk=>if k=15 then[14]else if k=31 then[15,30]else if k=32 then[15,31]else[]) [(34,false)] [0,1,2,3,4,5,6,7,8,9,10,11,12,13,16,17,18,19,20,21,22,23,24,25,26,27,28,29] zk zk rfl zk zc bP.out.drew ?_;iterate 28 (refine ajJ rfl rfl (v:=?_) (λw' hw'=>?_) ?_;rotate_left;(focus have hw':=lR w' hw';obtain⟨q0,q1,q2,q3,q4,q5,q6,q7,q8,q9,Xi⟩:=hw';go_simp;try with_reducible rfl);try simp only[UU])
              clear dm pD uK Dg Dh tv tA ac0 ac1 ad0 ad1 kV tu zY sQ mR za uP lR hcs;refine ajI (λa0=>Dd a0 w cs x1 x2 x3 x4 P1 P2 N) (Dd.init _ _ _ _ _ _ _ _ _ _ _ bP.out.drew (Below.refl _ _).drew) ?_ ?_ ?_
              . rintro dn a' w' ⟨_,_,_,_,_,_,_,h,_⟩;exact h
              . intro k0 eY dn a' w' _ hD hI;obtain⟨v1,v2,v3,v4,v5,v6,rfl,rL,rK,f1,f2,f3,f4,f5,f6⟩:=hI;simp only[List.mem_cons,List.not_mem_nil,or_false]at eY;rcases eY with rfl|rfl|rfl|rfl|rfl|rfl
                . have xP:=rL.alloc (.cells #[.bool (aj x1),.string (bs (nt x1.natAbs)),.bool (aj x2),.string (bs (nt x2.natAbs))] 32);have hal:=(Below.refl w'.heap.size w').alloc (Nat.le_refl _) (.cells #[.bool (aj x1),.string (bs (nt x1.natAbs)),.bool (aj x2),.string (bs (nt x2.natAbs))] 32);refine yx rfl rfl (λK hK=>?_);clear f1;simp only[Act.put,U1,U2,U3];go_simp;refine hK _ _ ⟨.slice (some ⟨w'.heap.size,0,none⟩) 2 2,v2,v3,v4,v5,v6,by simp only[Act.put,U1,U2,U3],xP,aG rK hal,λ_=>⟨_,rfl,ag.new _ _ _⟩,λh=>f2 (by simpa using h),λh=>?_,λh=>f4 (by simpa using h),λh=>f5 (by simpa using h),λh=>?_⟩
                  . obtain⟨b,e,q⟩:=f3 (by simpa using h);exact⟨b,e,q.below hal⟩
                  . obtain⟨b,e,hb,q⟩:=f6 (by simpa using h);exact⟨b,e,hb,q.below hal⟩
                . obtain⟨b,rfl,q⟩:=f1 (hD 14 zm);refine yx rfl rfl (λK hK=>?_);clear f1;simp only[Act.put,U1,U2,U3];go_simp;with_reducible refine(Yx x1 x2 P1 OG.out b 2 _ _ iW.out Ow.out q).mono ?_
                  rintro e w2 ⟨rfl,hq⟩;refine hK _ _ ⟨_,bM P1,v3,v4,v5,v6,by simp only[Act.put,U1,U2,U3],rL.below hq,aG rK hq,λ_=>⟨b,rfl,q.below hq⟩,λ_=>rfl,λh=>?_,λh=>f4 (by simpa using h),λh=>f5 (by simpa using h),λh=>?_⟩
                  . obtain⟨b,e,q⟩:=f3 (by simpa using h);exact⟨b,e,q.below hq⟩
                  . obtain⟨b,e,hb,q⟩:=f6 (by simpa using h);exact⟨b,e,hb,q.below hq⟩
                . have xP:=rL.alloc (.cells #[.bool (aj x3),.string (bs (nt x3.natAbs)),.bool (aj x4),.string (bs (nt x4.natAbs))] 32);have hal:=(Below.refl w'.heap.size w').alloc (Nat.le_refl _) (.cells #[.bool (aj x3),.string (bs (nt x3.natAbs)),.bool (aj x4),.string (bs (nt x4.natAbs))] 32);refine yx rfl rfl (λK hK=>?_);clear f3;simp only[Act.put,U1,U2,U3];go_simp;refine hK _ _ ⟨v1,v2,.slice (some ⟨w'.heap.size,0,none⟩) 2 2,v4,v5,v6,by simp only[Act.put,U1,U2,U3],xP,aG rK hal,λh=>?_,λh=>f2 (by simpa using h),λ_=>⟨_,rfl,ag.new _ _ _⟩,λh=>f4 (by simpa using h),λh=>f5 (by simpa using h),λh=>?_⟩
                  . obtain⟨b,e,q⟩:=f1 (by simpa using h);exact⟨b,e,q.below hal⟩
                  . obtain⟨b,e,hb,q⟩:=f6 (by simpa using h);exact⟨b,e,hb,q.below hal⟩
                . obtain⟨b,rfl,q⟩:=f3 (hD 30 zm);obtain rfl:=f2 (hD 15 zm);refine yx rfl rfl (λK hK=>?_);clear f3;simp only[Act.put,U1,U2,U3];go_simp;with_reducible refine(Yx x3 x4 P2 CC.out b 2 _ _ yT.out Ox.out q).mono ?_
                  rintro e w2 ⟨rfl,hq⟩;refine hK _ _ ⟨v1,bM P1,.slice (some ⟨b,0,none⟩) 2 2,bM P2,v5,v6,by simp only[Act.put,U1,U2,U3],rL.below hq,aG rK hq,λh=>?_,λ_=>rfl,λ_=>⟨b,rfl,q.below hq⟩,λ_=>rfl,λh=>f5 (by simpa using h),λh=>?_⟩
                  . obtain⟨b,e,q⟩:=f1 (by simpa using h);exact⟨b,e,q.below hq⟩
                  . obtain⟨b,e,hb,q⟩:=f6 (by simpa using h);exact⟨b,e,hb,q.below hq⟩
                . obtain rfl:=f2 (hD 15 zm);obtain rfl:=f4 (hD 31 zm);refine yx rfl rfl (λK hK=>?_);clear f2 f4;simp only[Act.put,U1,U2,U3];go_simp;with_reducible refine(alR P1 P2 N HN.out _ Oy.out Oz.out).mono ?_
                  rintro e w2 ⟨rfl,hq⟩;refine hK _ _ ⟨v1,_,v3,_,bM N,v6,by simp only[Act.put,U1,U2,U3],rL.below hq,aG rK hq,λh=>?_,λ_=>rfl,λh=>?_,λ_=>rfl,λ_=>rfl,λh=>?_⟩
                  . obtain⟨b,e,q⟩:=f1 (by simpa using h);exact⟨b,e,q.below hq⟩
                  . obtain⟨b,e,q⟩:=f3 (by simpa using h);exact⟨b,e,q.below hq⟩
                  . obtain⟨b,e,hb,q⟩:=f6 (by simpa using h);exact⟨b,e,hb,q.below hq⟩
                . have xP:=rL.alloc (.cells #[.bool false,.string ⟨#[]⟩] 32);have hal:=(Below.refl w'.heap.size w').alloc (Nat.le_refl _) (.cells #[.bool false,.string ⟨#[]⟩] 32);refine yx rfl rfl (λK hK=>?_);clear f6;simp only[Act.put,U1,U2,U3];go_simp;refine hK _ _ ⟨v1,v2,v3,v4,v5,.pointer (some ⟨w'.heap.size,0,none⟩),by simp only[Act.put,U1,U2,U3],xP,aG rK hal,λh=>?_,λh=>f2 (by simpa using h),λh=>?_,λh=>f4 (by simpa using h),λh=>f5 (by simpa using h),λ_=>⟨_,rfl,rK.size,ag.new _ _ _⟩⟩
                  . obtain⟨b,e,q⟩:=f1 (by simpa using h);exact⟨b,e,q.below hal⟩
                  . obtain⟨b,e,q⟩:=f3 (by simpa using h);exact⟨b,e,q.below hal⟩
              . intro dn a' w' hall hI;obtain⟨v1,v2,v3,v4,v5,v6,rfl,rL,rK,f1,f2,f3,f4,f5,f6⟩:=hI;obtain rfl:=f5 (hall 32 zm);obtain⟨b,rfl,hb,q⟩:=f6 (hall 33 zm);obtain⟨qH,am4,qJ,am5⟩:=q.g2;have hQ9:=(q.set 0 (.bool (aj N))).set 1 (.string (bs (nt N.natAbs)));have hB9:=(rK.sc b 0 hb (.bool (aj N))).sc b 1 hb (.string (bs (nt N.natAbs)));clear f1 f2 f3 f4 f5 f6;refine aF rfl rfl (λK hK=>?_);simp only[Act.put,U1,U2,U3];go_simp;refine hK _ _ (λh=>absurd h zd) ?_;clear hK K;simp only[aN];go_wp2_with fail;go_meet;exact⟨b,rfl,hQ9,hB9⟩
             case rest=>
              obtain⟨bx,rfl,qx,qb⟩:=hcut;obtain⟨zq,zM⟩:=aJ (xd.out.below qb) qx;clear qx qb xd kV tu zY sQ mR za uP VS VN VO VP EW iW Ow yT Ox Oy Oz OG CC HN li lk ti tk;obtain⟨g9,c9,lt9,lu9,e9,r9,f9⟩:=zq.out.aqZ i aZ;have ne9:=zq.out.1.row_ne i aZ e9;have nx9:bx≠g9:=by rintro rfl;have h1:=(r9 1 zo).1;rw[zM.out.cell]at h1;simp at h1
              obtain⟨Nn,Np⟩:=r9 j gK;obtain⟨y,hy⟩:=az (jh g k last i j i j);rw[hy]at Nn Np;have tu:Hid (bg wc go i [.slice (some ⟨g9,0,none⟩) n c9]):=λj hj=>by
               obtain rfl:j=0:=by simp at hj;omega
               exact e9
              have sQ:Hid (bg wc g9 (j*2) [.bool (aj y),.string (bs (nt y.natAbs))]):=λj' hj=>by
               rcases j' with _|_|j'
               . exact Nn
               . exact Np
               . simp at hj;omega
              have Hl:=af zq.out.2.2.1;have EW:=se n c9 j (j:Int) (rfl:(some ⟨g9,0,none⟩:Option Addr)=_) gK rfl;rw[Nat.zero_add]at EW;obtain⟨Dv,Kz⟩:=az (N/last);have TL:Calls Tryz.prog 183 #[.agg #[.bool (aj N),.string (bs (nt N.natAbs))],.agg #[.bool (aj last),.string (bs (nt last.natAbs))]] wc.drew λe w'=>∃r,e=.returned (.tuple #[bM Dv,r,.bool true])/\(w'.frozen? ⟨g9,j*2,none⟩=false/\w'.frozen? ⟨g9,j*2+1,none⟩=false)/\Below wc.drew.heap.size wc.drew w':=
               (alM N last wc.drew OA.out OB.out mS.out GY.out).mono (λe w' ⟨r,he,hb⟩=>⟨r,by rw[he,Kz],⟨(f9 w' (aK hb)).1 _,(f9 w' (aK hb)).1 _⟩,hb⟩)
              obtain⟨Hf9,ZX,Gt⟩:=cP f9 TL Kz;clear Nn Np hy e9 r9 f9 TL Kz OA OB GY;have Hb:Hid (Bw wc wc):=Below.refl _ _;go_wp2_with fail;have pD:=tu.out.w1;obtain⟨Dg,Dh⟩:=sQ.out.w2;obtain⟨qH,qJ⟩:=zM.out.c2;obtain⟨l0,l1⟩:=Hl.out.c2;refine cf (λw'=>w'.cell? ⟨go,i,none⟩=some (.slice (some ⟨g9,0,none⟩) n c9)/\w'.cell? ⟨bx,0,none⟩=some (.bool (aj N))/\w'.cell? ⟨bx,1,none⟩=some (.string (bs (nt N.natAbs)))/\w'.cell? ⟨w1.heap.size,0,none⟩=some (.bool (aj last))/\w'.cell? ⟨w1.heap.size,1,none⟩=some (.string (bs (nt last.natAbs)))) (λi=>Nat.blt i 100000) [(0,true),(1,true),(2,true),(3,true),(4,true),(5,true),(6,true),(7,false),(8,true),(9,true),(10,true),(11,true),(12,true),(13,false)] zk zk rfl zk zc ⟨pD,qH,qJ,l0,l1⟩ ?_;iterate 7 (refine pT rfl rfl ?_ (by intro w' ⟨q0,q1,q2,q3,q4⟩;go_simp;try with_reducible rfl);try simp only[UU])
              refine aF rfl rfl (λK hK=>?_);go_simp;with_reducible refine(ZX.out).mono ?_
              rintro e w5 ⟨rr,rfl,⟨z0,z1⟩,hq⟩;have ae:Bw wc w5:=by first|exact hq|exact aK hq
              clear pD Dg Dh qH qJ l0 l1;replace tu:=kW tu ae;replace sQ:=kW sQ ae;replace zM:=kB zM ae;replace Hl:=kB Hl ae;have pD:=tu.out.w1;obtain⟨Dg,Dh⟩:=sQ.out.w2;obtain⟨qH,qJ⟩:=zM.out.c2;obtain⟨l0,l1⟩:=Hl.out.c2;replace Hb:=ak Hb ae;clear ae;refine hK _ _ (λ_=>⟨pD,qH,qJ,l0,l1⟩) ?_;clear hK K;try simp only[UU]
              iterate 5 (refine pT rfl rfl ?_;try simp only[UU])
              refine aF rfl rfl (λK hK=>?_);go_simp;refine hK _ _ (by first|exact λh=>absurd h zd|exact λ_=>⟨pD,qH,qJ,l0,l1⟩ |exact λ_=>⟨(by first|exact pD|exact aC zf pD|exact aC zf (aC zf pD) |exact aC zf (aC zf (aC zf pD))),(by first|exact qH|exact aC zf qH|exact aC zf (aC zf qH) |exact aC zf (aC zf (aC zf qH))),(by first|exact qJ|exact aC zf qJ|exact aC zf (aC zf qJ) |exact aC zf (aC zf (aC zf qJ))),(by first|exact l0|exact aC zf l0|exact aC zf (aC zf l0) |exact aC zf (aC zf (aC zf l0))),(by first|exact l1|exact aC zf l1|exact aC zf (aC zf l1) |exact aC zf (aC zf (aC zf l1)))⟩) ?_;clear hK K;try simp only[UU]
              simp only[aN];go_wp2;go_roundw;case rel=>have h9:=(Hf9.out w5 Hb.out).2 j gK Dv;rw[<-Gt.out]at h9;exact⟨j+1,by omega,by omega,by go_num,by rw[Gt.out]at h9;exact h9.congr (λa b _ _=>by rw[<-Gt.out];exact PN.out a b)⟩
              case measure=>simp[intOf];omega
           . obtain rfl:j=n:=by omega
             have HT:=af hT;clear hT;go_wp2;go_roundw;case rel=>exact⟨i+1,by omega,by omega,by go_num,HT.out.congr (λa b _ hb=>ajC g k last i j a b hb)⟩
             case measure=>simp[intOf];omega
        . obtain rfl:i=n:=by omega
          have hT:=zn.out.congr (λa b ha _=>ajz g k last i a b ha);obtain⟨gk,ck,lk,tk,ek,rk,_⟩:=hT.row k hlt;have e1:cM g k last k k=g k k:=by unfold cM;rw[if_neg zo]
          obtain⟨DR,DT⟩:=rk k hlt;rw[e1]at DR DT;obtain⟨x,hx⟩:=az (g k k);have kD:=CQ.out;have hg2:=Py.out;have Hn:Hid (∃Q,Q+1<=2^(k+1) * (K+1)/\x.natAbs<2^Q/\∀a b,a<i->b<i->(cM g k last a b).natAbs<2^Q):=⟨2*Q+1,by have:=HQ.out;omega,by rw[<-hx];exact hg2,td.out⟩;have Ib:=Ph.out;have GK:=OV.out;rw[hx]at DR DT kD Ib GK;obtain⟨YW,YR⟩:=aJ Ib GK;have hLK:w1.heap.size<wk.heap.size:=by have:=aib;omega
          obtain⟨nY,Hl⟩:=aJ (hT.setLast x zo zo) hT.2.2.1;have Uj:=yj i cap k (k:Int) (rfl:(some ⟨go,0,none⟩:Option Addr)=_) hlt rfl;have agw:=se i ck k (k:Int) (rfl:(some ⟨gk,0,none⟩:Option Addr)=_) hlt rfl;rw[Nat.zero_add]at Uj agw;rw[Nat.mul_one]at Uj;have kV:=af hT.2.2.2.1;have zY:Hid (bg wr go k [.slice (some ⟨gk,0,none⟩) i ck]):=λj hj=>by
           obtain rfl:j=0:=by simp at hj;omega
           exact ek
          have mR:Hid (bg wr gk (k*2) [.bool (aj x),.string (bs (nt x.natAbs))]):=λj hj=>by
           rcases j with _|_|j
           . exact DR
           . exact DT
           . simp at hj;omega
          have Hhx:=af hx;clear hT rk ek DR DT e1 hg2 Ib GK dm hx zn;go_wp2_with fail;have dm:=kV.out.c1;have uK:=zY.out.w1;obtain⟨tv,tA⟩:=mR.out.w2;obtain⟨l0,gp,l1,gq⟩:=Hl.out.g2;refine cf (λw'=>w'.cell? ⟨wk.heap.size,0,none⟩=some (.int .i64 (k:Int))/\w'.cell? ⟨go,k,none⟩=some (.slice (some ⟨gk,0,none⟩) i ck)/\w'.cell? ⟨gk,k*2,none⟩=some (.bool (aj x))/\w'.cell? ⟨gk,k*2+1,none⟩=some (.string (bs (nt x.natAbs)))) (λi=>Nat.blt i 7) [(0,true),(1,true),(2,true),(3,true),(4,true),(5,true),(6,true),(7,false)] zk zk rfl zk zc ⟨dm,uK,tv,tA⟩ ?_;iterate 7 (refine pT rfl rfl ?_ (by intro w' ⟨q0,q1,q2,q3⟩;go_simp;try with_reducible rfl);try simp only[UU])
          refine aF rfl rfl (λK hK=>?_);go_simp;refine hK _ _ (by first|exact λh=>absurd h zd|exact λ_=>⟨dm,uK,tv,tA⟩ |exact λ_=>⟨(by first|exact dm|exact aC zf dm|exact aC zf (aC zf dm) |exact aC zf (aC zf (aC zf dm))),(by first|exact uK|exact aC zf uK|exact aC zf (aC zf uK) |exact aC zf (aC zf (aC zf uK))),(by first|exact tv|exact aC zf tv|exact aC zf (aC zf tv) |exact aC zf (aC zf (aC zf tv))),(by first|exact tA|exact aC zf tA|exact aC zf (aC zf tA) |exact aC zf (aC zf (aC zf tA)))⟩) ?_;clear hK K;try simp only[UU]
          simp only[aN];go_wp2;go_roundw;case rel=>exact⟨k+1,cM g k last,x,_,by omega,by go_num,rfl,Bs.next nY.out.drew (λ_ _ _ _=>rfl) kD YW.out YR.out Hn.out⟩
          case measure=>simp[intOf];omega
  . obtain rfl:k=n:=by omega
    obtain⟨q1,q2,q3,_,q5,_,Q,hQ,Bf,_⟩:=hS;have eN:=kY.out k Q (Nat.le_refl _) hQ;have hll:(nt last.natAbs).length<=1099511627776:=jf Bf zo;rw[Nat.sub_self]at q5;unfold dG at q5;obtain⟨Hr,Hl,Hq,HZ,Hll⟩:=iA q2 q3 q1 q5 hll;clear q1 q2 q3 q5 hQ Bf hll eN;have Hb:Hid (Bw wk wk):=Below.refl _ _;obtain⟨r0,ah,r1,ai⟩:=Hr.out.g2;obtain⟨l0,gp,l1,gq⟩:=Hl.out.g2;have xX:=Hq.out.2.2.1;cases t with
    | false=>
      have Hz:Hid (last=Z):=by have hz:=HZ.out;simp only[Bool.false_eq_true,if_false]at hz;exact hz
      go_wp2;refine bodyPost_ret (v:=.agg #[.bool (aj last),.string (bs (nt last.natAbs))]) (by simp[results,Tryz.results143,go_sem,r0,r1]) rfl ⟨by rw[Hz.out],?_⟩;exact(xX.setCell zp _).setCell zp _
    | true=>
      have Hz:Hid (-last=Z):=by have hz:=HZ.out;simp only[if_true]at hz;exact hz
      have hneg:∀W,Calls Tryz.prog 78 #[.agg #[.bool (aj last),.string (bs (nt last.natAbs))]] W λe w'=>e=.returned (bM (-last))/\Bw W w':=λW=>by have:=Yz (aj last) (nt last.natAbs) W Hll.out;rw[dI]at this;exact this
      go_wp2_with fail;refine(hneg _).mono ?_;rintro e w4 ⟨rfl,ae⟩;clear r0 ah r1 ai l0 gp l1 gq;replace Hr:=kB Hr ae;replace Hl:=kB Hl ae;obtain⟨r0,ah,r1,ai⟩:=Hr.out.g2;obtain⟨l0,gp,l1,gq⟩:=Hl.out.g2;replace Hb:=ak Hb ae;clear ae hneg;go_wp2;refine bodyPost_ret (v:=.agg #[.bool (aj (-last)),.string (bs (nt (-last).natAbs))]) (by simp[results,Tryz.results143,go_sem,r0,r1]) rfl ⟨by rw[Hz.out],?_⟩;exact((xX.trans (Hb.out.mono (by have:=Hq.out.2.2.2;omega))).setCell zp _).setCell zp _
theorem ac3 (n l k:Nat)(f:Nat->Nat->Int)(last:Int)(t:Bool)(Q:Nat)(hk:k+l=n)(hl:last.natAbs<2^Q)(hf:∀a b,a<n->b<n->(f a b).natAbs<2^Q)(hex:fh n l k f last):(dG n l k f last t).natAbs<2^(2^l* (Q+1)):=by
 induction l generalizing k f last t Q with
 | zero=>
   unfold dG;have h1:2^Q<=2^(2^0* (Q+1)):=Nat.pow_le_pow_right zd zm;split
   . rw[Int.natAbs_neg];omega
   . omega
 | succ l ih=>
   unfold dG;unfold fh at hex;cases hp:mN f n k with
   |none=>exact Nat.pow_pos zd
   | some m=>
     rw[hp]at hex;simp only at hex⊢;have EO:=jG hp;obtain⟨g,hg⟩:∃g,g=bA f k (k+m):=⟨_,rfl⟩;rw[<-hg]at hex⊢;have hkn:k<n:=by omega
     have gB:∀a b,a<n->b<n->(g a b).natAbs<2^Q:=by
      intro a b ha hb;rw[hg];unfold bA;refine hf _ _ ?_ hb;split
      . omega
      . split
        . omega
        . exact ha
     have AH:2^Q<=2^(2*Q+1):=Nat.pow_le_pow_right zd zo;have e:2^(l+1) * (Q+1)=2^l* (2*Q+1+1):=by rw[Nat.pow_succ,Nat.mul_assoc];congr 1
     rw[e];refine ih (k+1) _ _ _ (2*Q+1) zo (Nat.lt_of_lt_of_le (gB k k hkn hkn) AH) (λa b ha hb=>?_) hex.2;unfold cM;split
     . rename_i h4
       have h5:=(MQ g k a b Q (gB a b ha hb) (gB k k hkn hkn) (gB a k ha hkn) (gB k b hkn hb)).2.2;rcases div_lt _ last _ h5 with h6|h6
       . exact h6
       . exact absurd (hex.1 a b h4.1 ha h4.2 hb) h6
     . exact Nat.lt_of_lt_of_le (gB a b ha hb) AH
def bW (D:List (List Dyadic))(i j:Nat):Dyadic:=(D.getD i []).getD j 0
theorem alf (D:List (List Dyadic))(n:Nat)(g:Dyadic->Int)(hl:D.length=n)(hr:∀r∈D,r.length=n):(D.map λr=>r.map g)=dD (λi j=>g (bW D i j)) n:=by
 apply List.ext_getElem
 . simp[dD,hl]
 . intro i h1 h2;have hi:i<D.length:=by simpa using h1
   have hri:=hr _ (List.getElem_mem hi);apply List.ext_getElem
   . simp[dD,hri]
   . intro j h3 h4;have hj:j<D[i].length:=by simpa using h3
     simp[dD,bW,List.getD_eq_getElem?_getD,hi,hj]
theorem RF {D:List (List Dyadic)}{n i j:Nat}(hl:D.length=n)(hr:∀r∈D,r.length=n)(hi:i<n)(hj:j<n):∃r∈D,bW D i j∈r:=by
 have h1:i<D.length:=by omega
 have h2:j<D[i].length:=by rw[hr _ (List.getElem_mem h1)];exact hj
 refine⟨D[i],List.getElem_mem h1,?_⟩;have:bW D i j=D[i][j]:=by simp[bW,List.getD_eq_getElem?_getD,h1,h2]
 rw[this];exact List.getElem_mem h2
theorem JX (a:Option Addr)(cap n:Nat)(rows:List (List Raw))(B:Nat)(D:List (List Dyadic))(X:Dyadic)(w:World)(hn:1<=n)(cE:n<=4)(hL:rows.length=n)(hrow:∀r∈rows,r.length=n)(ha:cn w a rows)
 (hfit:∀r∈rows,∀c∈r,Fit B c) (bD:1<=B) (hB:B<=1000000) (hT:au w) (hD:(rows.map λr=>r.map ar)=D) (hX:dH n (bW D)=X):
 Calls Tryz.prog 94 #[.slice a n cap] w λe w'=>e=.returned (.tuple #[bQ X,.int .i64 0])/\Bw w w':=by
 obtain⟨low,jd⟩:=az (jX 0 D);have hDl:D.length=n:=by rw[<-hD];simp[hL]
 have Ed:∀r∈D,r.length=n:=by intro r hr;rw[<-hD]at hr;obtain⟨x,hx,rfl⟩:=List.mem_map.1 hr;simpa using hrow x hx
 have iM:∀r∈D,∀d∈r,Sm B d:=by intro r hr d hd;rw[<-hD]at hr;obtain⟨x,hx,rfl⟩:=List.mem_map.1 hr;obtain⟨y,hy,rfl⟩:=List.mem_map.1 hd;exact(hfit x hx y hy).2
 have hlo:=MF 0 D;rw[jd]at hlo;have hlb: -(B:Int)<=low:=by rw[<-jd];exact ME 0 D _ zo (λr hr d hd=>(iM r hr d hd).parts.2.1)
 obtain⟨f,hf⟩:∃f:Nat->Nat->Int,f=λi j=>nQ low (bW D i j):=⟨_,rfl⟩;have ue:(D.map λr=>r.map (nQ low))=dD f n:=by rw[hf];exact alf D n (nQ low) hDl Ed
 have hK:∀a b,a<n->b<n->(f a b).natAbs<2^(4*B):=by
  intro i j hi hj;obtain⟨r,hr,hm⟩:=RF hDl Ed hi hj;obtain⟨s1,s2,s3⟩:=(iM r hr _ hm).parts;rw[hf];show(nQ low (bW D i j)).natAbs<_
  unfold nQ;rw[Int.natAbs_mul,Int.natAbs_pow,show 4*B=2*B+2*B by omega,Nat.pow_add];exact Nat.lt_of_lt_of_le (Nat.mul_lt_mul_of_pos_right s1 (Nat.pow_pos zd)) (Nat.mul_le_mul_left _ (Nat.pow_le_pow_right zd zo))
 have hent:∀i j,i<n->j<n->bW D i j=Dyadic.ofIntWithPrec (f i j) (-low):=by intro i j hi hj;obtain⟨r,hr,hm⟩:=RF hDl Ed hi hj;rw[hf];exact(akp low _ (hlo.2 r hr _ hm)).symm
 have lC:=aeE n hn cE f (bW D) (-low) hent;have hex:=RG n hn cE f;have hzl:=ac3 n n 0 f 1 false (4*B) zo (Nat.one_lt_two_pow zo) hK hex;obtain⟨z,hz⟩:=az (dG n n 0 f 1 false);rw[hz]at hzl lC;have VH:(nt z.natAbs).length<=34359738368:=by refine jf hzl ?_;have:2^n<=2^4:=Nat.pow_le_pow_right zd cE;have:=Nat.mul_le_mul_right (4*B+1) this;omega
 obtain⟨e,he⟩:∃e:Int,low*n=e:=⟨_,rfl⟩;have heb: -4000000<=e/\e<=4000000:=by
  have hl0:=hlo.1;have hc:n=1\/n=2\/n=3\/n=4:=by omega
  rcases hc with rfl|rfl|rfl|rfl<;>omega
 have kC:ar (aj z,nt z.natAbs,e)=X:=by
  rw[<-hX,lC];show Dyadic.ofIntWithPrec (iv (aj z) (nt z.natAbs)) (-e)=_
  rw[dI,<-he];congr 1;rw[Int.mul_comm,Int.mul_neg]
 obtain⟨nl,hnl⟩:=az (-low);have hw1:IntKind.i64.wrap (-nl)=low:=by rw[IntKind.wrap_i64];have:=hlo.1;omega
 have hw2:IntKind.i64.wrap (low* (n:Int))=e:=by rw[he,IntKind.wrap_i64];omega
 have hm0:sD rows=0:=by
  unfold sD;rw[if_neg];rintro(h|h)
  . omega
  . rw[List.any_eq_true]at h;obtain⟨r,hr,h⟩:=h;have:=hrow r hr;simp at h;omega
 have hch:=λW=>λ(h:cn W a rows)=>MI a n cap rows W hL zo h;rw[hm0]at hch;have hsc:=λW=>λ(h:cn W a rows) (hT:au W)=>Xx a n cap n rows B low W hL zo zo hrow h hfit zo hT (by rw[hD];exact jd);rw[hD,ue,hnl]at hsc;have hbr:=λv W base=>λ(h:gS W base n (dD f n) n v) (h2:base<=W.heap.size)=>ac6 base n (4*B) f v W hn cE h h2 zo hK zo;rw[hz]at hbr;have hmk:=λW=>λ(hT:au W)=>qG (aj z) (nt z.natAbs) e X kC W VH zo hT;obtain⟨GQ,uX,zr,pL,Ha,HT⟩:=iB hch hsc hbr hmk ha hT;clear hch hsc hbr hmk ha hT hm0 kC heb he VH hz hzl hex lC hent hK ue hf hlb hlo iM Ed hDl jd hD hX hfit hrow hL hnl;have Hb:Hid (Bw w w):=Below.refl _ _;go_enter Tryz.func94,Tryz.ntmps94;go_wp2_with fail;obtain⟨R,hR⟩:∃R:World->Prop,(λW=>ag W (w.heap.size) 39 [.bool false,.string ⟨#[]⟩,.int .i64 0]/\Bw w W)=R:=⟨_,rfl⟩;first|refine bB R ?hR ?_|refine bz R ?hR ?_
 case hR=>subst hR;exact⟨(ag.newAt w _ _ (b:=w.heap.size) rfl),zl⟩
 subst hR;rintro W ⟨qr,ae⟩;have Hr:=af qr;clear qr;obtain⟨r0,ah,r1,ai,r2,aB⟩:=Hr.out.g3;replace Hb:=ak Hb ae;clear ae;have HA:Hid (cn W a rows):=Ha.out.below Hb.out;have HU:Hid (au W):=HT.out.below Hb.out;go_wp2_with fail;refine(GQ.out _ HA.out).mono ?_;rintro e w1 ⟨rfl,ae⟩;clear r0 ah r1 ai r2 aB;replace Hr:=kB Hr ae;replace HA:=kL HA ae;replace HU:=kT HU ae;obtain⟨r0,ah,r1,ai,r2,aB⟩:=Hr.out.g3;replace Hb:=ak Hb ae;clear ae;go_wp2_with fail;refine(uX.out _ HA.out HU.out).mono ?_;rintro e' w2 ⟨v,rfl,hO,hb2⟩;have HO:=af hO;have sN:=hb2.size;clear hO;go_wp2_with fail;refine(zr.out v w2 w1.heap.size HO.out sN).mono ?_;rintro e' w3 ⟨rfl,hb3⟩;have hb4:=hb2.trans hb3;clear hb2 hb3 HO r0 ah r1 ai r2 aB;replace Hr:=kB Hr hb4;replace HA:=kL HA hb4;replace HU:=kT HU hb4;obtain⟨r0,ah,r1,ai,r2,aB⟩:=Hr.out.g3;replace Hb:=af (aG Hb.out hb4);clear hb4;go_wp2_with fail;refine(pL.out _ HU.out).mono ?_;rintro e w4 ⟨rfl,ae⟩;clear r0 ah r1 ai r2 aB;replace Hr:=kB Hr ae;replace HA:=kL HA ae;replace HU:=kT HU ae;obtain⟨r0,ah,r1,ai,r2,aB⟩:=Hr.out.g3;replace Hb:=ak Hb ae;clear ae;go_wp2;clear r0 ah r1 ai r2 aB;refine eK (bf w4 (w.heap.size) 0 [.bool (aj (dN X)),.string (bs (nt (dN X).natAbs)),.int .i64 (dE X)]) bI ?_;intro w9 hs;replace Hr:=cp Hr hs;obtain⟨r0,ah,r1,ai,r2,aB⟩:=Hr.out.g3;replace Hb:=bS Hb hs ZS;clear hs;refine bodyPost_ret (v:=.tuple #[bQ X,.int .i64 0]) (by simp[results,Tryz.results94,go_sem,r0,r1,r2]) rfl ⟨rfl,Hb.out⟩
def dP (rows:List (List Raw)):Nat->Nat->Dyadic:=λa b=>bW (rows.map λr=>r.map ar) a b
theorem aeH (o p:List Raw)(k:Nat)(h:k<p.length)(h':k<o.length):(iK o p).getD k 0=ar p[k]-ar o[k]:=by unfold iK;rw[List.getD_eq_getElem?_getD,List.getElem?_zipWith];simp[h,h']
theorem qO (rows:List (List Raw))(a b:Nat)(ha:a<rows.length)(hb:b<rows[a].length):dP rows a b=ar rows[a][b]:=by simp[dP,bW,List.getD_eq_getElem?_getD,ha,hb]
theorem XG (n:Nat)(rows:List (List Raw))(hL:rows.length=n+1)(hrow:∀r∈rows,r.length=n)(i j:Nat)(hi:i<n)(hj:j<n):
 bW ((rows.drop 1).map λp=>iK (rows.getD 0 []) p) i j=dP rows (i+1) j-dP rows 0 j:=by
 have h0:0<rows.length:=by omega
 have h1:i+1<rows.length:=by omega
 have l0:=hrow _ (List.getElem_mem h0);have l1:=hrow _ (List.getElem_mem h1);rw[qO rows (i+1) j h1 zo,qO rows 0 j h0 zo];have e0:rows.getD 0 []=rows[0]:=by simp[h0]
 have e1:((rows.drop 1).map λp=>iK (rows.getD 0 []) p).getD i []=iK rows[0] rows[i+1]:=by rw[e0,List.getD_eq_getElem?_getD,List.getElem?_map,List.getElem?_drop];rw[show 1+i=i+1 by omega,List.getElem?_eq_getElem h1];rfl
 unfold bW;rw[e1,aeH _ _ _ zo zo]
theorem Dz (n:Nat)(cE:n<=4){e f:Nat->Nat->Dyadic}(h:∀i j,i<n->j<n->e i j=f i j):dH n e=dH n f:=by
 have hc:n=0\/n=1\/n=2\/n=3\/n=4:=by omega
 rcases hc with rfl|rfl|rfl|rfl|rfl
 . rfl
 . exact h 0 0 zo zo
 . unfold dH;simp only;rw[h 0 0 zo zo,h 0 1 zo zo,h 1 0 zo zo,h 1 1 zo zo]
 . unfold dH;simp only;rw[h 0 0 zo zo,h 0 1 zo zo,h 0 2 zo zo,h 1 0 zo zo,h 1 1 zo zo,h 1 2 zo zo,h 2 0 zo zo,h 2 1 zo zo,h 2 2 zo zo]
 . unfold dH;simp only;rw[h 0 0 zo zo,h 0 1 zo zo,h 0 2 zo zo,h 0 3 zo zo,h 1 0 zo zo,h 1 1 zo zo,h 1 2 zo zo,h 1 3 zo zo,h 2 0 zo zo,h 2 1 zo zo,h 2 2 zo zo,h 2 3 zo zo,h 3 0 zo zo,h 3 1 zo zo,h 3 2 zo zo,h 3 3 zo zo]
theorem JW {B n:Nat}{e:Nat->Nat->Dyadic}(hn:1<=n)(cE:n<=4)(h:∀i j,i<n->j<n->Sm B (e i j)):Sm (4*B+6) (dH n e):=by
 have m2:∀a b c d:Dyadic,Sm B a->Sm B b->Sm B c->Sm B d->Sm (2*B+1) (a*b-c*d):=λa b c d ha hb hc hd=>(Sm.sub (Sm.mul ha hb) (Sm.mul hc hd)).mono zo;have m3:∀x y:Dyadic,Sm B x->Sm (2*B+1) y->Sm (3*B+1) (x*y):=λx y hx hy=>(Sm.mul hx hy).mono zo;have m4:∀x y z:Dyadic,Sm (3*B+1) x->Sm (3*B+1) y->Sm (3*B+1) z->Sm (3*B+3) (x-y+z):=λx y z hx hy hz=>(Sm.add (Sm.sub hx hy) (hz.mono zo)).mono zo;have m5:∀x y:Dyadic,Sm B x->Sm (3*B+3) y->Sm (4*B+3) (x*y):=λx y hx hy=>(Sm.mul hx hy).mono zo;have hc:n=1\/n=2\/n=3\/n=4:=by omega
 rcases hc with rfl|rfl|rfl|rfl
 . exact(h 0 0 zo zo).mono zo
 . exact(Sm.sub (Sm.mul (h 0 0 zo zo) (h 1 1 zo zo)) (Sm.mul (h 0 1 zo zo) (h 1 0 zo zo))).mono zo
 . unfold dH;refine(m4 _ _ _ (m3 _ _ ?_ (m2 _ _ _ _ ?_ ?_ ?_ ?_)) (m3 _ _ ?_ (m2 _ _ _ _ ?_ ?_ ?_ ?_)) (m3 _ _ ?_ (m2 _ _ _ _ ?_ ?_ ?_ ?_))).mono zo<;>exact h _ _ zo zo
 . unfold dH;have m6:∀x y z u:Dyadic,Sm (4*B+3) x->Sm (4*B+3) y->Sm (4*B+3) z->Sm (4*B+3) u->Sm (4*B+6) (x-y+z-u):=λx y z u hx hy hz hu=>(Sm.sub (Sm.add (Sm.sub hx hy) (hz.mono zo)) (hu.mono zo)).mono zo;refine m6 _ _ _ _ (m5 _ _ ?_ (m4 _ _ _ (m3 _ _ ?_ (m2 _ _ _ _ ?_ ?_ ?_ ?_)) (m3 _ _ ?_ (m2 _ _ _ _ ?_ ?_ ?_ ?_)) (m3 _ _ ?_ (m2 _ _ _ _ ?_ ?_ ?_ ?_)))) (m5 _ _ ?_ (m4 _ _ _ (m3 _ _ ?_ (m2 _ _ _ _ ?_ ?_ ?_ ?_)) (m3 _ _ ?_ (m2 _ _ _ _ ?_ ?_ ?_ ?_)) (m3 _ _ ?_ (m2 _ _ _ _ ?_ ?_ ?_ ?_)))) (m5 _ _ ?_ (m4 _ _ _ (m3 _ _ ?_ (m2 _ _ _ _ ?_ ?_ ?_ ?_)) (m3 _ _ ?_ (m2 _ _ _ _ ?_ ?_ ?_ ?_)) (m3 _ _ ?_ (m2 _ _ _ _ ?_ ?_ ?_ ?_)))) (m5 _ _ ?_ (m4 _ _ _ (m3 _ _ ?_ (m2 _ _ _ _ ?_ ?_ ?_ ?_)) (m3 _ _ ?_ (m2 _ _ _ _ ?_ ?_ ?_ ?_)) (m3 _ _ ?_ (m2 _ _ _ _ ?_ ?_ ?_ ?_))))<;>exact h _ _ zo zo
theorem RA (X:Dyadic):aL X=0↔X=0:=by
 constructor
 . intro h;have h1:dN X=0:=by
    unfold aL dO at h;by_cases h1:dN X<0
    . rw[if_pos h1]at h;cases h
    . rw[if_neg h1]at h;by_cases h2:dN X=0
      . exact h2
      . rw[if_neg h2]at h;cases h
   have h2:=uB X;rw[h1,uC]at h2;exact h2
 . rintro rfl;rfl
noncomputable def wP (rows:List (List Raw)):Int:=if lN rows=0 then 1 else if fW (lN rows).toNat (dP rows)=0 then 5 else 0
theorem XF (a:Option Addr)(cap n:Nat)(rows:List (List Raw))(B:Nat)(X:Dyadic)(w:World)(hn:1<=n)(cE:n<=4)(hL:rows.length=n+1)(hrow:∀r∈rows,r.length=n)(hcap:n+1<=cap)(ha:cn w a rows)
 (hfit:∀r∈rows,∀c∈r,Fit B c) (hB:B<=900000) (hT:au w) (hX:fW n (dP rows)=X):
 Calls Tryz.prog 54 #[.slice a (n+1) cap] w λe w'=>e=.returned (.tuple #[bQ X,.int .i64 0])/\Bw w w':=by
 obtain⟨b,o,rfl⟩:∃b o,a=some ⟨b,o,none⟩:=by
  obtain⟨vals,hvl,hat,_⟩:=ha;rcases hat with h|⟨b,o,h,_⟩
  . rw[h]at hvl;simp at hvl;omega
  . exact⟨b,o,h⟩
 have hv:=Yu hL hrow hn zo;obtain⟨S,hS⟩:=az ((rows.drop 1).map λp=>iK (rows.getD 0 []) p);have jO:S.length=n:=by rw[<-hS];simp[hL]
 have pU:∀r∈S,r.length=n:=by
  intro r hr;rw[<-hS]at hr;obtain⟨p,hp,rfl⟩:=List.mem_map.1 hr;have h0:0<rows.length:=by omega
  have e0:rows.getD 0 []=rows[0]:=by simp[h0]
  rw[DI (by rw[e0,hrow _ (List.mem_of_mem_drop hp),hrow _ (List.getElem_mem h0)]),hrow _ (List.mem_of_mem_drop hp)]
 have oO:∀r∈S,∀d∈r,Sm (B+1) d:=by
  intro r hr d hd;rw[<-hS]at hr;obtain⟨p,hp,rfl⟩:=List.mem_map.1 hr;unfold iK at hd;obtain⟨i,hi,rfl⟩:=List.mem_iff_getElem.1 hd;rw[List.getElem_zipWith];have h0:0<rows.length:=by omega
  have e0:rows.getD 0 []=rows[0]:=by simp[h0]
  refine Sm.sub (hfit p (List.mem_of_mem_drop hp) _ (List.getElem_mem _)).2 (hfit (rows.getD 0 []) ?_ _ (List.getElem_mem _)).2;rw[e0];exact List.getElem_mem h0
 have hent:dH n (bW S)=X:=by rw[<-hX,Am];refine Dz n cE (λi j hi hj=>?_);rw[<-hS];exact XG n rows hL hrow i j hi hj
 have hvar:=λW=>λ(h:cn W (some ⟨b,o,none⟩) rows)=>NR (some ⟨b,o,none⟩) (n+1) cap rows W hL zo h;rw[hv]at hvar;have hrows:=λW=>λ(h:cn W (some ⟨b,o,none⟩) rows) (hT:au W)=>Xq b o cap n n rows B W hL zo hcap hn hn zo hrow h hfit zo hT;rw[hS]at hrows;have kC:((S.map λr=>r.map canon).map λr=>r.map ar)=S:=by
  rw[List.map_map];have:((λr:List Raw=>r.map ar)∘λr:List Dyadic=>r.map canon)=id:=by
   funext r
   show(r.map canon).map ar=r
   rw[List.map_map];have:(ar∘canon)=id:=funext bC;rw[this];simp
  rw[this];simp
 have lC:=λW a' c'=>λ(h:cn W a' (S.map λr=>r.map canon)) (hT:au W)=>JX a' c' n (S.map λr=>r.map canon) (B+1) S X W hn cE (by simpa using jO) (by
  intro r hr;obtain⟨x,hx,rfl⟩:=List.mem_map.1 hr
  simpa using pU x hx) h (by
  intro r hr c hc;obtain⟨x,hx,rfl⟩:=List.mem_map.1 hr;obtain⟨y,hy,rfl⟩:=List.mem_map.1 hc
  exact(oO x hx y hy).fit zo) zo zo hT kC hent
 obtain⟨Jd,abv,zu,Ha,HT⟩:=iA hvar hrows lC ha hT;clear hvar hrows lC ha hT kC hent oO pU jO hS hv hX hfit hrow hL;have hn0:¬(n:Int)=0:=by omega
 have Hb:Hid (Bw w w):=Below.refl _ _;go_enter Tryz.func54,Tryz.ntmps54;go_wp2_with fail;obtain⟨R,hR⟩:∃R:World->Prop,(λW=>ag W (w.heap.size) 39 [.bool false,.string ⟨#[]⟩,.int .i64 0]/\Bw w W)=R:=⟨_,rfl⟩;first|refine bB R ?hR ?_|refine bz R ?hR ?_
 case hR=>subst hR;exact⟨(ag.newAt w _ _ (b:=w.heap.size) rfl),zl⟩
 subst hR;rintro W ⟨qr,ae⟩;have Hr:=af qr;clear qr;obtain⟨r0,ah,r1,ai,r2,aB⟩:=Hr.out.g3;replace Hb:=ak Hb ae;clear ae;have HA:Hid (cn W (some ⟨b,o,none⟩) rows):=Ha.out.below Hb.out;have HU:Hid (au W):=HT.out.below Hb.out;go_wp2_with fail;refine(Jd.out _ HA.out).mono ?_;rintro e w1 ⟨rfl,ae⟩;clear r0 ah r1 ai r2 aB;replace Hr:=kB Hr ae;replace HA:=kL HA ae;replace HU:=kT HU ae;obtain⟨r0,ah,r1,ai,r2,aB⟩:=Hr.out.g3;replace Hb:=ak Hb ae;clear ae;go_wp2_with fail;refine(abv.out _ HA.out HU.out).mono ?_;rintro e w2 ⟨a',c',rfl,hcc,pk,ae⟩;clear r0 ah r1 ai r2 aB;replace Hr:=kB Hr ae;replace HA:=kL HA ae;replace HU:=kT HU ae;obtain⟨r0,ah,r1,ai,r2,aB⟩:=Hr.out.g3;replace Hb:=ak Hb ae;clear ae;have CG:=af pk;clear pk;go_wp2_with fail;refine(zu.out _ a' c' CG.out HU.out).mono ?_;rintro e w3 ⟨rfl,ae⟩;clear r0 ah r1 ai r2 aB;replace Hr:=kB Hr ae;replace HA:=kL HA ae;replace HU:=kT HU ae;obtain⟨r0,ah,r1,ai,r2,aB⟩:=Hr.out.g3;replace Hb:=ak Hb ae;clear ae;go_wp2;clear r0 ah r1 ai r2 aB;refine eK (bf w3 (w.heap.size) 0 [.bool (aj (dN X)),.string (bs (nt (dN X).natAbs)),.int .i64 (dE X)]) bI ?_;intro w9 hs;replace Hr:=cp Hr hs;obtain⟨r0,ah,r1,ai,r2,aB⟩:=Hr.out.g3;replace Hb:=bS Hb hs ZS;clear hs;refine bodyPost_ret (v:=.tuple #[bQ X,.int .i64 0]) (by simp[results,Tryz.results54,go_sem,r0,r1,r2]) rfl ⟨rfl,Hb.out⟩
theorem Yc (a:Option Addr)(L cap:Nat)(rows:List (List Raw))(B:Nat)(w:World)(hL:rows.length=L)(hL5:L<=5)(hcap:L<=cap)(ha:cn w a rows)
 (hfit:∀r∈rows,∀c∈r,Fit B c) (hB:B<=900000) (hT:au w):
 Calls Tryz.prog 53 #[.slice a L cap] w λe w'=>e=.returned (.int .i64 (wP rows))/\Bw w w':=by
 obtain⟨R,hR⟩:=az (wP rows);rw[hR];unfold wP at hR;by_cases hv:lN rows=0
 . rw [if_pos hv]at hR;subst hR;have hvar:=fun W=>fun(h:cn W a rows)=>NR a L cap rows W hL zo h;rw[hv]at hvar;obtain⟨Jd,Ha⟩:=aJ hvar ha;have hsz:∀W,Bw w W->Calls Tryz.prog 54 #[.slice a L cap] W fun e w'=>e=.returned (.tuple #[.agg #[.bool false,.string ⟨#[]⟩,.int .i64 0],.int .i64 1])/\Bw W w':=by
    intro w0 hw0;have sP:=af (Ha.out.below hw0);clear ha hfit hL hT hv hvar Ha hw0 w;obtain⟨w,Mp⟩:∃w,w=w0:=⟨_,rfl⟩;subst Mp;have Hb:Hid (Bw w w):=Below.refl _ _;go_enter Tryz.func54,Tryz.ntmps54;go_wp2_with fail;obtain⟨R,hR⟩:∃R:World->Prop,(λW=>ag W (w.heap.size) 39 [.bool false,.string ⟨#[]⟩,.int .i64 0]/\Bw w W)=R:=⟨_,rfl⟩;first|refine bB R ?hR ?_|refine bz R ?hR ?_
    case hR=>subst hR;exact⟨(ag.newAt w _ _ (b:=w.heap.size) rfl),zl⟩
    subst hR;rintro W ⟨qr,ae⟩;have Hr:=af qr;clear qr;obtain⟨r0,ah,r1,ai,r2,aB⟩:=Hr.out.g3;replace Hb:=ak Hb ae;clear ae;go_wp2_with fail;refine(Jd.out _ (sP.out.below Hb.out)).mono ?_;rintro e w1 ⟨rfl,ae⟩;clear r0 ah r1 ai r2 aB;replace Hr:=kB Hr ae;obtain⟨r0,ah,r1,ai,r2,aB⟩:=Hr.out.g3;replace Hb:=ak Hb ae;clear ae;go_wp2;clear r0 ah r1 ai r2 aB;refine eK (bf w1 (w.heap.size) 0 [.bool false,.string ⟨#[]⟩,.int .i64 0]) bI ?_;intro w9 hs;replace Hr:=cp Hr hs;obtain⟨r0,ah,r1,ai,r2,aB⟩:=Hr.out.g3;replace Hb:=bS Hb hs ZS;clear hs;refine bodyPost_ret (v:=.tuple #[.agg #[.bool false,.string ⟨#[]⟩,.int .i64 0],.int .i64 1]) (by simp[results,Tryz.results54,go_sem,r0,r1,r2]) rfl ⟨rfl,Hb.out⟩
   have kY:=af hsz;clear hsz hvar ha hfit hL hT hv;have Hb:Hid (Bw w w):=Below.refl _ _;go_enter Tryz.func53,Tryz.ntmps53;go_wp2_with fail;refine(kY.out _ Hb.out).mono ?_;rintro e w1 ⟨rfl,ae⟩;replace Hb:=ak Hb ae;clear ae;have hsz:=Hb.out.size;obtain⟨W2,kz,ae,Hd⟩:=bH w1 39 [.bool false,.string ⟨#[]⟩,.int .i64 0];obtain⟨d0,Kh,d1,Ki,d2,Kj⟩:=Hd.out.g3;replace Hb:=ak Hb ae;clear ae;go_wp2;refine bodyPost_ret (results_tmp rfl _ _ _) rfl ⟨rfl,?_⟩;exact((Hb.out.setCell zp _).setCell zp _).setCell zp _
 . obtain⟨n,hn⟩:∃n:Nat,lN rows=n:=⟨(lN rows).toNat,by have:=NQ rfl hv;omega⟩;rw[if_neg hv,hn,Int.toNat_natCast]at hR;obtain⟨c1,c2,c3,c4⟩:=NQ hn zo;obtain rfl:L=n+1:=by omega
   obtain⟨X,hX⟩:=az (fW n (dP rows));rw[hX]at hR;have hsz:=λW=>λ(h:cn W a rows) (hT:au W)=>XF a cap n rows B X W zo zo zo (λr hr=>by have:=c4 r hr;omega) hcap h hfit hB hT hX;have hXm:Sm (4* (B+1)+6) X:=by
    rw[<-hX,Am];refine JW zo zo (λi j hi hj=>?_);have h0:0<rows.length:=by omega
    have h1:i+1<rows.length:=by omega
    have l0:=c4 _ (List.getElem_mem h0);have l1:=c4 _ (List.getElem_mem h1);rw[qO rows (i+1) j h1 zo,qO rows 0 j h0 zo];exact Sm.sub (hfit _ (List.getElem_mem h1) _ (List.getElem_mem _)).2 (hfit _ (List.getElem_mem h0) _ (List.getElem_mem _)).2
   have dX:∀W,Calls Tryz.prog 65 #[.agg #[.bool (aj (dN X)),.string (bs (nt (dN X).natAbs)),.int .i64 (dE X)]] W λex w'=>ex=.returned (.int .i64 (aL X))/\Bw W w':=λW=>lj _ _ _ (aL X) (by show aL (ar (canon X))=_;rw[bC]) W (hXm.ok zo);obtain⟨g,hg⟩:=az (aL X);have Uf:R=if g=0 then 5 else 0:=by
    rw[<-hR,<-hg];by_cases h:X=0
    . rw[if_pos h,if_pos ((RA X).2 h)]
    . rw[if_neg h,if_neg (λh2=>h ((RA X).1 h2))]
   rw[hg]at dX;obtain⟨kY,og,Ha,HT,PC⟩:=iA hsz dX ha hT Uf;clear hsz dX ha hT Uf hg hX hR hfit c4 hL;have Hb:Hid (Bw w w):=Below.refl _ _;go_enter Tryz.func53,Tryz.ntmps53;go_wp2_with fail;refine(kY.out _ (Ha.out.below Hb.out) (HT.out.below Hb.out)).mono ?_;rintro e w1 ⟨rfl,ae⟩;replace Hb:=ak Hb ae;clear ae;obtain⟨W2,kz,ae,Hd⟩:=bH w1 39 [.bool (aj (dN X)),.string (bs (nt (dN X).natAbs)),.int .i64 (dE X)];obtain⟨d0,d1,d2⟩:=Hd.out.c3;replace Hb:=ak Hb ae;clear ae;go_wp2_with fail;refine(og.out _).mono ?_;rintro e w3 ⟨rfl,ae⟩;clear d0 d1 d2;replace Hd:=kB Hd ae;obtain⟨d0,d1,d2⟩:=Hd.out.c3;replace Hb:=ak Hb ae;clear ae;by_cases hg0:g=0
   . have hr:=PC.out;rw[if_pos hg0]at hr;subst hr hg0;go_wp2;refine bodyPost_ret (results_tmp rfl _ _ _) rfl ⟨rfl,Hb.out⟩
   . have hr:=PC.out;rw[if_neg hg0]at hr;subst hr;go_wp2;refine bodyPost_ret (results_tmp rfl _ _ _) rfl ⟨rfl,Hb.out⟩
end Go.Proofs.YtoopepmmepmfnaaGreatDoor
namespace Go.Proofs.YtoopepmmepmfnaaGreatDoor
def xM (p:Nat->Nat->Dyadic):Nat->Nat->Dyadic:=λa b=>p (a+1) b-p 0 b
def jr (n:Nat)(e:Nat->Nat->Dyadic)(k i:Nat):Dyadic:=if(k+i)%2=1 then-dH (n-1) (jE e i k)else dH (n-1) (jE e i k)
def jq (n:Nat)(p:Nat->Nat->Dyadic)(k i:Nat):Dyadic:=jr n (xM p) k i*mO (fW n p)
def wS (n:Nat)(p:Nat->Nat->Dyadic)(x:Nat->Dyadic)(i:Nat):Nat->Dyadic
 |0=>0
 |k+1=>wS n p x i k+(x k-p 0 k) *jq n p k i
theorem alP (n:Nat)(p:Nat->Nat->Dyadic)(x:Nat->Dyadic)(i k:Nat):wS n p x i k=mO (fW n p) *ym n (xM p) (λk=>x k-p 0 k) i k:=by
 induction k with
 |zero=>simp[wS,ym]
 |succ k ih=>unfold wS ym;rw[ih];unfold jq jr;generalize (if(k+i)%2=1 then-dH (n-1) (jE (xM p) i k)else dH (n-1) (jE (xM p) i k))=z;grind
theorem YA (n:Nat)(hn:1<=n)(cE:n<=4)(p:Nat->Nat->Dyadic)(x:Nat->Dyadic)(i:Nat)(hi:i<n):wS n p x i n=Gm n p x (i+1):=by rw[alP,ahy n hn cE _ _ i hi];unfold Gm;rw[aeZ];rfl
def wZ (n:Nat)(p:Nat->Nat->Dyadic)(x:Nat->Dyadic):Nat->Dyadic
 |0=>mO (fW n p) *fW n p
 |k+1=>wZ n p x k-Gm n p x (k+1)
theorem aku (X:Dyadic):mO X*X=if X<0 then-X else X:=by
 rw[Xz];split
 . grind
 . split<;>grind
theorem DC {B n:Nat}{e:Nat->Nat->Dyadic}(cE:n<=4)(h:∀i j,i<n->j<n->Sm B (e i j)):Sm (4*B+6) (dH n e):=by
 by_cases h0:n=0
 . subst h0;exact Sm.one.mono zo
 . exact JW zo cE h
theorem Nv (X:Dyadic):Sm 1 (mO X):=by
 rw[Xz];split
 . exact Sm.neg Sm.one
 . split
   . exact Sm.zero _
   . exact Sm.one
theorem DL {B n:Nat}{p:Nat->Nat->Dyadic}(h:∀a b,a<=n->b<n->Sm B (p a b))(a b:Nat)(ha:a<n)(hb:b<n):Sm (B+1) (xM p a b):=Sm.sub (h (a+1) b zo hb) (h 0 b zo hb)
theorem Qy {B n:Nat}{e:Nat->Nat->Dyadic}(hn:1<=n)(cE:n<=4)(h:∀i j,i<n->j<n->Sm B (e i j))(k i:Nat):Sm (4*B+6) (jr n e k i):=by
 have h2:Sm (4*B+6) (dH (n-1) (jE e i k)):=DC zo (λa b ha hb=>h _ _ (by split<;>omega) (by split<;>omega));unfold jr;split
 . exact h2.neg
 . exact h2
theorem Dl {B n:Nat}{p:Nat->Nat->Dyadic}(hn:1<=n)(cE:n<=4)(h:∀a b,a<=n->b<n->Sm B (p a b))(k i:Nat):Sm (4*B+11) (jq n p k i):=
 (Sm.mul (Qy (B:=B+1) hn cE (λa b ha hb=>DL h a b ha hb) k i) (Nv _)).mono zo
theorem XH {B n:Nat}{p:Nat->Nat->Dyadic}(cE:n<=4)(h:∀a b,a<=n->b<n->Sm B (p a b)):Sm (4*B+11) (mO (fW n p) *fW n p):=by rw[Am];exact(Sm.mul (Nv _) (DC (B:=B+1) cE (λa b ha hb=>DL h a b ha hb))).mono zo
theorem NT {B n:Nat}{p:Nat->Nat->Dyadic}{x:Nat->Dyadic}(hn:1<=n)(cE:n<=4)(h:∀a b,a<=n->b<n->Sm B (p a b))(hx:∀b,b<n->Sm B (x b))(i k:Nat)(hk:k<=n):Sm (5*B+12+k) (wS n p x i k):=by
 induction k with
 |zero=>exact Sm.zero _
 |succ k ih=>have h1:=ih zo;have h2:Sm (5*B+12) ((x k-p 0 k) *jq n p k i):=(Sm.mul (Sm.sub (hx k zo) (h 0 k zo zo)) (Dl hn cE h k i)).mono zo;exact(h1.add (h2.mono zo)).mono zo
theorem al5 {B n:Nat}{p:Nat->Nat->Dyadic}{x:Nat->Dyadic}(hn:1<=n)(cE:n<=4)(h:∀a b,a<=n->b<n->Sm B (p a b))(hx:∀b,b<n->Sm B (x b))(i:Nat)(hi:i<n):Sm (5*B+16) (Gm n p x (i+1)):=by rw[<-YA n hn cE p x i hi];exact(NT hn cE h hx i n (Nat.le_refl _)).mono zo
theorem alS {B n:Nat}{p:Nat->Nat->Dyadic}{x:Nat->Dyadic}(hn:1<=n)(cE:n<=4)(h:∀a b,a<=n->b<n->Sm B (p a b))(hx:∀b,b<n->Sm B (x b))(k:Nat)(hk:k<=n):Sm (5*B+16+k) (wZ n p x k):=by
 induction k with
 |zero=>exact(XH cE h).mono zo
 |succ k ih=>exact(Sm.sub (ih zo) ((al5 hn cE h hx k zo).mono zo)).mono zo
def wC (n:Nat)(p:Nat->Nat->Dyadic)(i:Nat):Dyadic:=wS n p (λ_=>0) i n
def lZ (n:Nat)(p:Nat->Nat->Dyadic)(b:Nat):Nat->Dyadic
 |0=>0
 |k+1=>lZ n p b k-jq n p b k
def jg (R:List (List Dyadic))(r c:Nat):List (List Dyadic):=(R.eraseIdx r).map λx=>x.eraseIdx c
theorem WC (R:List (List Dyadic))(r c m:Nat)(hL:R.length=m+1)(hr:r<=m):(jg R r c).length=m:=by unfold jg;rw[List.length_map,List.length_eraseIdx_of_lt zo];omega
theorem WE (R:List (List Dyadic))(r c m:Nat)(hrow:∀x∈R,x.length=m+1)(hc:c<=m):∀x∈jg R r c,x.length=m:=by intro x hx;unfold jg at hx;obtain⟨y,hy,rfl⟩:=List.mem_map.1 hx;have:=hrow y (List.mem_of_mem_eraseIdx hy);rw[List.length_eraseIdx_of_lt zo];omega
theorem WB (R:List (List Dyadic))(r c m:Nat)(hL:R.length=m+1)(hr:r<=m)(j:Nat)(hj:j<m):(jg R r c).getD j []=(R.getD (if j<r then j else j+1) []).eraseIdx c:=by
 unfold jg;have h1:j<(R.eraseIdx r).length:=by rw[List.length_eraseIdx_of_lt zo];omega
 rw[List.getD_eq_getElem?_getD,List.getElem?_map,List.getElem?_eq_getElem h1,Option.map_some,Option.getD_some,List.getElem_eraseIdx];split
 . rename_i h;rw[List.getD_eq_getElem?_getD,List.getElem?_eq_getElem zo];rfl
 . rename_i h;rw[List.getD_eq_getElem?_getD,List.getElem?_eq_getElem zo];rfl
theorem afC (l:List Dyadic)(c j:Nat)(h:j+1<l.length)(hc:c<l.length):(l.eraseIdx c).getD j 0=l.getD (if j<c then j else j+1) 0:=by
 have h1:j<(l.eraseIdx c).length:=by rw[List.length_eraseIdx_of_lt hc];omega
 rw[List.getD_eq_getElem?_getD,List.getElem?_eq_getElem h1,Option.getD_some,List.getElem_eraseIdx];split
 . rw[List.getD_eq_getElem?_getD,List.getElem?_eq_getElem zo];rfl
 . rw[List.getD_eq_getElem?_getD,List.getElem?_eq_getElem zo];rfl
theorem aiy (R:List (List Dyadic))(r c m:Nat)(hL:R.length=m+1)(hrow:∀x∈R,x.length=m+1)(hr:r<=m)(hc:c<=m)(i j:Nat)(hi:i<m)(hj:j<m):bW (jg R r c) i j=jE (bW R) r c i j:=by
 show((jg R r c).getD i []).getD j 0=(R.getD (if i<r then i else i+1) []).getD (if j<c then j else j+1) 0
 rw[WB R r c m hL hr i hi];have hk:(if i<r then i else i+1)<R.length:=by split<;>omega
 have e:R.getD (if i<r then i else i+1) []=R[if i<r then i else i+1]'hk:=by rw[List.getD_eq_getElem?_getD,List.getElem?_eq_getElem hk];rfl
 have hl:=hrow _ (List.getElem_mem hk);rw[e];exact afC _ c j (by rw[hl];omega) (by rw[hl];omega)
def ot (n:Nat)(e:Nat->Nat->Dyadic):List (List Dyadic):=(List.range n).map λa=>(List.range n).map λb=>jr n e a b
theorem QA (n:Nat)(e:Nat->Nat->Dyadic)(a:Nat)(ha:a<n):(ot n e).getD a []=(List.range n).map λb=>jr n e a b:=by unfold ot;simp[List.getD_eq_getElem?_getD,ha]
theorem acz (n:Nat)(e:Nat->Nat->Dyadic)(a b:Nat)(ha:a<n)(hb:b<n):bW (ot n e) a b=jr n e a b:=by unfold bW;rw[QA n e a ha];simp[List.getD_eq_getElem?_getD,hb]
theorem acA (n:Nat)(e:Nat->Nat->Dyadic):(ot n e).length=n:=by simp[ot]
theorem acB (n:Nat)(e:Nat->Nat->Dyadic):∀r∈ot n e,r.length=n:=by intro r hr;unfold ot at hr;obtain⟨x,_,rfl⟩:=List.mem_map.1 hr;simp
theorem aix (R:List (List Dyadic))(r c m:Nat)(hL:R.length=m+1)(hrow:∀x∈R,x.length=m+1)(hr:r<=m)(hc:c<=m)(hm:m<=4):dH m (bW (jg R r c))=dH m (jE (bW R) r c):=
 Dz m hm (λi j hi hj=>aiy R r c m hL hrow hr hc i j hi hj)
theorem aiz {B:Nat}{R:List (List Dyadic)}(h:∀x∈R,∀d∈x,Sm B d)(r c:Nat):∀x∈jg R r c,∀d∈x,Sm B d:=by intro x hx d hd;unfold jg at hx;obtain⟨y,hy,rfl⟩:=List.mem_map.1 hx;exact h y (List.mem_of_mem_eraseIdx hy) d (List.mem_of_mem_eraseIdx hd)
end Go.Proofs.YtoopepmmepmfnaaGreatDoor
namespace Go.Proofs.YtoopepmmepmfnaaGreatDoor
open Go.RowKit
def Rw (n B:Nat)(rows:List (List Raw)):Prop:=rows.length=n+1/\(∀r∈rows,r.length=n)/\∀r∈rows,∀c∈r,Fit B c
end Go.Proofs.YtoopepmmepmfnaaGreatDoor
