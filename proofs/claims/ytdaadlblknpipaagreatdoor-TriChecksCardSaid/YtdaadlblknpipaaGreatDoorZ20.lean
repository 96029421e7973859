/- Package mat: bareiss' test of a row. -/
import Derived.Test.YtdaadlblknpipaaGreatDoorZ12
import Derived.Test.YtdaadlblknpipaaGreatDoorZ19
import Derived.Test.YtdaadlblknpipaaGreatDoorZ6
import Derived.Test.YtdaadlblknpipaaGreatDoorZ7
import Derived.Test.YtdaadlblknpipaaGreatDoorZ9
import Derived.Test.YtdaadlblknpipaaGreatDoorZ16
set_option linter.unusedVariables false
set_option linter.unusedSimpArgs false
set_option maxRecDepth 100000
set_option maxHeartbeats 16000000
namespace Go.Proofs.YtdaadlblknpipaaGreatDoor
open Go.RowKit
attribute [local go_sem ↓] Go.wp_at_zero Go.wp_at_succ
theorem acX (bk k g n c:Nat)(z:Int)(w:World)(hk:w.cell? ⟨bk,0,none⟩=some (.int .i64 (k:Int)))(hkn:k<n)(h0:w.cell? ⟨g,k*2,none⟩=some (.bool (ar z)))(h1:w.cell? ⟨g,k*2+1,none⟩=some (.string (bs (nt z.natAbs))))(hz:(nt z.natAbs).length<=1099511627776):
 Calls Tryz.prog 127 #[.slice (some ⟨g,0,none⟩) n c,.pointer (some ⟨bk,0,none⟩)] w λe w'=>e=.returned (.bool (decide (z≠0)))/\Bw w w':=by
 have bD:=uf n c k (k:Int) (show some (⟨g,0,none⟩:Addr)=some ⟨g,0,none⟩from rfl) hkn rfl;rw[Nat.zero_add]at bD;have Hz:=ah hz;obtain⟨s,hs⟩:=aB (ar z);obtain⟨l,hl⟩:=aB (nt z.natAbs);have il:=λW=>EA (ar z) (nt z.natAbs) W hz;rw[fq]at il;rw[hs,hl]at il;rw[hs]at h0;rw[hl]at h1;obtain⟨t,ht⟩:=aB (eu z);rw[ht]at il;have hd:decide (z≠0)=decide (t≠0):=by
  rw[<-ht];unfold eu;by_cases h:z=0
  . simp[h]
  . by_cases h2:z<0
    . simp[h,h2]
    . simp[h,h2]
 rw[hd];have jU:=ah il;clear il hd ht hs hl hz Hz;have Hb:Hid (Bw w w):=Below.refl _ _;go_enter Tryz.func127,Tryz.ntmps127;go_wp2_with fail;refine(jU.out _).mono ?_;rintro e w1 ⟨rfl,ae⟩;replace Hb:=au Hb ae;clear ae h0 h1 hk bD;go_wp2;refine bodyPost_ret (results_tmp rfl _ _ _) rfl ⟨?_,Hb.out⟩;by_cases h:t=0<;>simp[h]
theorem ag1 (p:Value->Bool)(vs:List Value)(q:Nat->Bool)(c:Nat)(h:∀i (hi:i<vs.length),p vs[i]=q i):
 idxFrom p vs c=match (List.range vs.length).find? q with|none=>-1|some m=>((c+m:Nat):Int):=by
 induction vs generalizing c q with
 |nil=>rfl
 | cons v vs ih=>
   have h0:=h 0 zm;have hs:=ih (λi=>q (i+1)) (c+1) (λi hi=>h (i+1) (by simpa using hi));simp only[List.getElem_cons_zero]at h0;rw[List.length_cons,List.range_succ_eq_map,List.find?_cons];unfold idxFrom;rw[h0];cases hq:q 0 with
   |true=>simp
   | false=>
     rw[hs,List.find?_map];simp only[Bool.false_eq_true,if_false];have e:(q∘Nat.succ)=λi=>q (i+1):=rfl;rw[e];cases (List.range vs.length).find? λi=>q (i+1)with
     |none=>rfl
     |some m=>simp only[Option.map_some];congr 1;omega
theorem ajl (p:Value->Bool)(vals:List Value)(f:Nat->Nat->Int)(n k:Nat)(hn:vals.length=n)(h:∀i (hi:i<vals.length),p vals[i]=decide (f i k≠0)):
 idxFrom p (vals.drop k) 0=match oJ f n k with|none=>-1|some m=>(m:Int):=by
 rw[ag1 p (vals.drop k) (λi=>f (k+i) k !=0) 0 (λi hi=>by
  rw[List.getElem_drop,h]
  simp[bne,Bool.beq_eq_decide_eq])]
 unfold oJ;rw[List.length_drop,hn];simp only[Nat.zero_add]
theorem alK (x y:Int)(w:World)(hx:(nt x.natAbs).length<=34359738368)(hy:(nt y.natAbs).length<=34359738368)(h0:y≠0)(hd:y∣x):
 Calls Tryz.prog 128 #[.agg #[.bool (ar x),.string (bs (nt x.natAbs))],.agg #[.bool (ar y),.string (bs (nt y.natAbs))]] w λe w'=>∃r,e=.returned (.tuple #[cX (x/y),r,.bool true])/\Bw w w':=by
 have h:=alL (ar x) (ar y) (nt x.natAbs) (nt y.natAbs) w hx hy (by rw[jd];omega) (by rw[jd,jd];exact Nat.mod_eq_zero_of_dvd (Int.natAbs_dvd_natAbs.2 hd));rw[fq,fq]at h;exact h
end Go.Proofs.YtdaadlblknpipaaGreatDoor
namespace Go.Proofs.YtdaadlblknpipaaGreatDoor
open Go.RowKit
def eN (f:Nat->Nat->Int)(n:Nat):List (List Int):=(List.range n).map λa=>(List.range n).map (f a)
theorem Ev (f:Nat->Nat->Int)(n:Nat):(eN f n).length=n:=by simp[eN]
theorem IV (f:Nat->Nat->Int)(n i:Nat)(h:i<n):(eN f n).getD i []=(List.range n).map (f i):=by simp[eN,List.getD_eq_getElem?_getD,h]
theorem ak9 (f:Nat->Nat->Int)(n i j:Nat)(h:i<n)(h':j<n):((eN f n).getD i []).getD j 0=f i j:=by rw[IV f n i h];simp[List.getD_eq_getElem?_getD,h']
theorem ala (f:Nat->Nat->Int)(n i j:Nat)(y:Int)(h:i<n):(eN f n).set i (((eN f n).getD i []).set j y)=eN (λa b=>if a=i/\b=j then y else f a b) n:=by
 rw[IV f n i h];apply List.ext_getElem
 . simp[eN]
 . intro a h1 h2;have ha:a<n:=by simpa[eN]using h2
   rw[List.getElem_set];split
   . rename_i e
     subst e;apply List.ext_getElem
     . simp[eN]
     . intro b h3 h4;have hb:b<n:=by simpa[eN]using h4
       rw[List.getElem_set];by_cases e2:j=b
       . subst e2;simp[eN]
       . have e3:¬b=j:=λe=>e2 e.symm;simp[eN,e2,e3]
   . rename_i e
     have e3:¬a=i:=λe'=>e e'.symm;simp[eN,e3]
theorem alb (f:Nat->Nat->Int)(n k m:Nat)(h:k<n)(h':m<n):((eN f n).set k ((eN f n).getD m [])).set m ((eN f n).getD k [])=eN (bZ f k m) n:=by
 apply List.ext_getElem
 . simp[eN]
 . intro a h1 h2;have ha:a<n:=by simpa[eN]using h2
   have hs:=Pf (eN f n) [] k m (by rw[Ev];exact h) (by rw[Ev];exact h') a (by rw[Ev];exact ha);rw[List.getD_eq_getElem?_getD,List.getElem?_eq_getElem h1]at hs;simp only[Option.getD_some]at hs;rw[hs,IV f n _ (IR h h' ha)];simp[eN,bZ,swp]
theorem Aq {w:World}{base:Nat}{e:TypeId}{size n cap g:Nat}{xs:List Value}(h:w.ownsRow base e size (.slice (some ⟨g,0,none⟩) n cap) n xs):base<=g/\∃cur,ak w g e cur:=by
 rcases h.2 with⟨h1,_⟩ |⟨g',cap',cur,h1,hb,hg,_,_,_,hx⟩
 . simp at h1
 . simp only[Value.slice.injEq,Option.some.injEq,Addr.mk.injEq,and_true,true_and]at h1;obtain⟨rfl,rfl⟩:=h1;exact⟨hb,cur.toList,by unfold ak;simpa using hg⟩
theorem Ot {w:World}{base:Nat}{e:TypeId}{size n:Nat}{v:Value}{xs:List Value}(h:w.ownsRow base e size v n xs)(hn:1<=n):∃g cap,v=.slice (some ⟨g,0,none⟩) n cap:=by
 rcases h.2 with⟨h1,h2⟩ |⟨g',cap',cur,h1,_⟩
 . omega
 . exact⟨g',cap',h1⟩
theorem ak8 {f g:Nat->Nat->Int}(n:Nat)(h:∀a b,a<n->b<n->f a b=g a b):eN f n=eN g n:=by unfold eN;refine List.map_congr_left (λa ha=>List.map_congr_left (λb hb=>h a b (List.mem_range.1 ha) (List.mem_range.1 hb)))
def ab6 (w:World)(go L top:Nat):Prop:=go<top/\∀m g n c,m<L->w.cell? ⟨go,m,none⟩=some (.slice (some ⟨g,0,none⟩) n c)->g<top
def BS (w0 w:World)(base n go cap top:Nat)(f:Nat->Nat->Int):Prop:=
 jf w base n (eN f n) n (.slice (some ⟨go,0,none⟩) n cap)/\ab6 w go n top/\Below base w0 w/\top<=w.heap.size
theorem BS.begin {w:World}{base n:Nat}{f:Nat->Nat->Int}{v:Value}(h:jf w base n (eN f n) n v)(hn:1<=n):∃go cap,v=.slice (some ⟨go,0,none⟩) n cap/\n<=cap/\BS w w base n go cap w.heap.size f:=by
 have h0:=h;obtain⟨vals,hl,ho,hv,_⟩:=h;obtain⟨go,cap,rfl⟩:=Ot ho hn;refine⟨go,cap,rfl,Ar ho,h0,⟨?_,λm g n' c hm hc=>?_⟩,Below.refl _ _,Nat.le_refl _⟩
 . obtain⟨_,cur,hb⟩:=Aq ho;exact hb.lt
 . have hm2:m<vals.length:=by omega
   rw[kX ho m hm2]at hc;simp only[Option.some.injEq]at hc;have hrow:=hv m hm2;obtain⟨g',cap',e⟩:=Ot hrow hn;rw[e]at hrow hc;simp at hc;obtain⟨rfl,rfl,rfl⟩:=hc;exact(Aq hrow).2.choose_spec.lt
theorem BS.below {w0 w w':World}{base n go cap top:Nat}{f:Nat->Nat->Int}(h:BS w0 w base n go cap top f)(hb:Bw w w')(xy:base<=top):BS w0 w' base n go cap top f:=by
 obtain⟨h1,⟨h2,h3⟩,h4,h5⟩:=h;have hs:=hb.size;refine⟨h1.below hb,⟨h2,λm g n' c hm hc=>h3 m g n' c hm ?_⟩,?_,by omega⟩
 . rw[World.cell?_of_block (a:=⟨go,m,none⟩) (w:=w) (hb.block go zo)]at hc;exact hc
 . exact h4.trans (hb.mono zo)
theorem BS.congr {w0 w:World}{base n go cap top:Nat}{f g:Nat->Nat->Int}(h:BS w0 w base n go cap top f)(he:∀a b,a<n->b<n->f a b=g a b):BS w0 w base n go cap top g:=by unfold BS at*;rw[<-ak8 n he];exact h
theorem BS.row {w0 w:World}{base n go cap top:Nat}{f:Nat->Nat->Int}(h:BS w0 w base n go cap top f)(i:Nat)(hi:i<n):
 ∃g c,base<=g/\g<top/\w.cell? ⟨go,i,none⟩=some (.slice (some ⟨g,0,none⟩) n c)/\(∀j,j<n->w.cell? ⟨g,j*2,none⟩=some (.bool (ar (f i j)))/\w.cell? ⟨g,j*2+1,none⟩=some (.string (bs (nt (f i j).natAbs))))/\
  (∀q,w.frozen? ⟨g,q,none⟩=false)/\
  ∀j,j<n->∀y:Int,BS w0 ((w.setCell ⟨g,j*2,none⟩ (.bool (ar y))).setCell ⟨g,j*2+1,none⟩ (.string (bs (nt y.natAbs)))) base n go cap top (λa b=>if a=i/\b=j then y else f a b):=by
 obtain⟨h1,⟨h2,h3⟩,h4,h5⟩:=h;have hR:(eN f n).length=n:=Ev f n;have hr:((eN f n).getD i []).length=n:=by rw[IV f n i hi];simp
 obtain⟨vals,hl,ho,hv,hd⟩:=id h1;have hi2:i<vals.length:=by omega
 have hrow:=hv i hi2;obtain⟨g,c,e⟩:=Ot hrow zo;rw[e]at hrow;obtain⟨hbg,cur,hblk⟩:=Aq hrow;have hc0:w.cell? ⟨go,i,none⟩=some (.slice (some ⟨g,0,none⟩) n c):=by rw[kX ho i hi2,e]
 refine⟨g,c,hbg,h3 i g n c hi hc0,hc0,λj hj=>?_,λq=>hblk.free q,λj hj y=>?_⟩
 . obtain⟨go',cap',g',c',e0,_,_,_,e1,e2,e3,_⟩:=h1.num i j hi hj hR hr;simp at e0;obtain⟨rfl,rfl⟩:=e0;rw[hc0]at e1;simp at e1;obtain⟨rfl,rfl⟩:=e1;rw[ak9 f n i j hi hj]at e2 e3;exact⟨e2,e3⟩
 . obtain⟨go',cap',g',c',e0,hb1,hb2,hne,e1,e2,e3,hw⟩:=h1.num i j hi hj hR hr;simp at e0;obtain⟨rfl,rfl⟩:=e0;rw[hc0]at e1;simp at e1;obtain⟨rfl,rfl⟩:=e1;have h6:=hw y;rw[ala f n i j y hi]at h6;refine⟨h6,⟨h2,λm g' n' c' hm hc=>h3 m g' n' c' hm ?_⟩,(h4.setCell hb2 _).setCell hb2 _,by simpa using h5⟩;rw[World.cell?_setCell_far _ _ _ _ (by simpa using hne),World.cell?_setCell_far _ _ _ _ (by simpa using hne)]at hc;exact hc
theorem BS.swap {w0 w:World}{base n go cap top:Nat}{f:Nat->Nat->Int}(h:BS w0 w base n go cap top f)(i m:Nat)(hi:i<n)(hm:m<n):
 ∃g1 c1 g2 c2,w.cell? ⟨go,i,none⟩=some (.slice (some ⟨g1,0,none⟩) n c1)/\w.cell? ⟨go,m,none⟩=some (.slice (some ⟨g2,0,none⟩) n c2)/\(∀q,w.frozen? ⟨go,q,none⟩=false)/\
  BS w0 ((w.setCell ⟨go,i,none⟩ (.slice (some ⟨g2,0,none⟩) n c2)).setCell ⟨go,m,none⟩ (.slice (some ⟨g1,0,none⟩) n c1)) base n go cap top (bZ f i m):=by
 have hb:=h;obtain⟨g1,c1,_,t1,e1,_⟩:=hb.row i hi;obtain⟨g2,c2,_,t2,e2,_⟩:=hb.row m hm;obtain⟨h1,⟨h2,h3⟩,h4,h5⟩:=h;obtain⟨_,_,ho,_,_⟩:=id h1;obtain⟨tV,cur,hblk⟩:=Aq ho;obtain⟨x,y,q1,q2,hw⟩:=h1.swap i m hi hm (Ev f n);rw[e1]at q1;rw[e2]at q2;simp only[Option.some.injEq]at q1 q2;subst q1 q2;rw[alb f n i m hi hm]at hw;refine⟨g1,c1,g2,c2,e1,e2,λq=>hblk.free q,hw,⟨h2,λm' g' n' c' hm' hc=>?_⟩,(h4.setCell tV _).setCell tV _,by simpa using h5⟩;by_cases h7:m'=m
 . subst h7;rw[ak.cell ((hblk.set i _).set m' _)]at hc;rw[List.getElem?_set_self']at hc;have:g'=g1:=by
    cases hq:(cur.set i (.slice (some ⟨g2,0,none⟩) n c2))[m']? with
    |none=>rw[hq]at hc;simp at hc
    |some z=>rw[hq]at hc;simp at hc;exact hc.1.symm
   omega
 . rw[World.cell?_setCell_other _ _ _ _ (show(⟨go,m,none⟩:Addr)≠⟨go,m',none⟩from λe=>h7 (by simpa using e.symm))]at hc;by_cases h8:m'=i
   . subst h8;rw[ak.cell (hblk.set m' _),List.getElem?_set_self']at hc;have:g'=g2:=by
      cases hq:cur[m']? with
      |none=>rw[hq]at hc;simp at hc
      |some z=>rw[hq]at hc;simp at hc;exact hc.1.symm
     omega
   . rw[World.cell?_setCell_other _ _ _ _ (show(⟨go,i,none⟩:Addr)≠⟨go,m',none⟩from λe=>h8 (by simpa using e.symm))]at hc;exact h3 m' g' n' c' hm' hc
end Go.Proofs.YtdaadlblknpipaaGreatDoor
namespace Go.Proofs.YtdaadlblknpipaaGreatDoor
open Go.RowKit
attribute [local go_sem ↓] Go.wp_at_zero Go.wp_at_succ
def BT (w0 w:World)(base n go cap top:Nat)(f:Nat->Nat->Int)(r l kb:Nat)(last:Int)(k:Nat):Prop:=
 BS w0 w base n go cap top f/\ak w r 28 [.bool false,.string ⟨#[]⟩]/\ak w l 28 [.bool (ar last),.string (bs (nt last.natAbs))]/\ak w kb 3 [.int .i64 (k:Int)]/\base<=top/\top<=r/\top<=l/\top<=kb
theorem BT.below {w0 w w':World}{base n go cap top:Nat}{f:Nat->Nat->Int}{r l kb:Nat}{last:Int}{k:Nat}(h:BT w0 w base n go cap top f r l kb last k)(hb:Bw w w'):BT w0 w' base n go cap top f r l kb last k:=by obtain⟨h1,h2,h3,h4,h5,h6⟩:=h;exact⟨h1.below hb h5,h2.below hb,h3.below hb,h4.below hb,h5,h6⟩
theorem BT.congr {w0 w:World}{base n go cap top:Nat}{f g:Nat->Nat->Int}{r l kb:Nat}{last:Int}{k:Nat}(h:BT w0 w base n go cap top f r l kb last k)(he:∀a b,a<n->b<n->f a b=g a b):BT w0 w base n go cap top g r l kb last k:=
 ⟨h.1.congr he,h.2⟩
theorem BT.drew {w0 w:World}{base n go cap top:Nat}{f:Nat->Nat->Int}{r l kb:Nat}{last:Int}{k:Nat}(h:BT w0 w base n go cap top f r l kb last k):BT w0 w.drew base n go cap top f r l kb last k:=h.below ((Below.refl _ _).drew)
theorem BT.row {w0 w:World}{base n go cap top:Nat}{f:Nat->Nat->Int}{r l kb:Nat}{last:Int}{k:Nat}(h:BT w0 w base n go cap top f r l kb last k)(i:Nat)(hi:i<n):
 ∃g c,g<w.heap.size/\g<top/\w.cell? ⟨go,i,none⟩=some (.slice (some ⟨g,0,none⟩) n c)/\(∀j,j<n->w.cell? ⟨g,j*2,none⟩=some (.bool (ar (f i j)))/\w.cell? ⟨g,j*2+1,none⟩=some (.string (bs (nt (f i j).natAbs))))/\
  (∀q,w.frozen? ⟨g,q,none⟩=false)/\
  ∀j,j<n->∀y:Int,BT w0 ((w.setCell ⟨g,j*2,none⟩ (.bool (ar y))).setCell ⟨g,j*2+1,none⟩ (.string (bs (nt y.natAbs)))) base n go cap top (λa b=>if a=i/\b=j then y else f a b) r l kb last k:=by
 obtain⟨h1,h2,h3,h4,h5,h6,h7,h8⟩:=h;have h9:=h1.2.2.2;obtain⟨g,c,hb,ht,e1,e2,e3,hw⟩:=h1.row i hi;refine⟨g,c,by omega,ht,e1,e2,e3,λj hj y=>⟨hw j hj y,?_,?_,?_,h5,h6,h7,h8⟩⟩
 . exact(h2.so _ _ zo _).so _ _ zo _
 . exact(h3.so _ _ zo _).so _ _ zo _
 . exact(h4.so _ _ zo _).so _ _ zo _
theorem BT.swap {w0 w:World}{base n go cap top:Nat}{f:Nat->Nat->Int}{r l kb:Nat}{last:Int}{k:Nat}(h:BT w0 w base n go cap top f r l kb last k)(i m:Nat)(hi:i<n)(hm:m<n):
 ∃g1 c1 g2 c2,w.cell? ⟨go,i,none⟩=some (.slice (some ⟨g1,0,none⟩) n c1)/\w.cell? ⟨go,m,none⟩=some (.slice (some ⟨g2,0,none⟩) n c2)/\(∀q,w.frozen? ⟨go,q,none⟩=false)/\
  BT w0 ((w.setCell ⟨go,i,none⟩ (.slice (some ⟨g2,0,none⟩) n c2)).setCell ⟨go,m,none⟩ (.slice (some ⟨g1,0,none⟩) n c1)) base n go cap top (bZ f i m) r l kb last k:=by
 obtain⟨h1,h2,h3,h4,h5,h6,h7,h8⟩:=h;have h9:=h1.2.1.1;obtain⟨g1,c1,g2,c2,e1,e2,e3,hw⟩:=h1.swap i m hi hm;refine⟨g1,c1,g2,c2,e1,e2,e3,hw,?_,?_,?_,h5,h6,h7,h8⟩
 . exact(h2.so _ _ zo _).so _ _ zo _
 . exact(h3.so _ _ zo _).so _ _ zo _
 . exact(h4.so _ _ zo _).so _ _ zo _
theorem BT.apH {w0 w:World}{base n go cap top:Nat}{f:Nat->Nat->Int}{r l kb:Nat}{last:Int}{k:Nat}(h:BT w0 w base n go cap top f r l kb last k)(i:Nat)(hi:i<n):
 ∃g c,g<w.heap.size/\g<top/\w.cell? ⟨go,i,none⟩=some (.slice (some ⟨g,0,none⟩) n c)/\(∀j,j<n->w.cell? ⟨g,j*2,none⟩=some (.bool (ar (f i j)))/\w.cell? ⟨g,j*2+1,none⟩=some (.string (bs (nt (f i j).natAbs))))/\
  ∀w',Bw w w'->(∀q,w'.frozen? ⟨g,q,none⟩=false)/\∀j,j<n->∀y:Int,BT w0 ((w'.setCell ⟨g,j*2,none⟩ (.bool (ar y))).setCell ⟨g,j*2+1,none⟩ (.string (bs (nt y.natAbs)))) base n go cap top (λa b=>if a=i/\b=j then y else f a b) r l kb last k:=by
 obtain⟨g,c,h1,h2,h3,h4,_,_⟩:=h.row i hi;refine⟨g,c,h1,h2,h3,h4,λw' hb=>?_⟩;obtain⟨g',c',_,_,e3,_,e5,e6⟩:=(h.below hb).row i hi;have:=cell_later hb h3;rw[e3]at this;simp at this;obtain⟨rfl,rfl⟩:=this;exact⟨e5,e6⟩
theorem BS.setOther {w0 w:World}{base n go cap top:Nat}{f:Nat->Nat->Int}(h:BS w0 w base n go cap top f)(xy:base<=top)(p o:Nat)(u:Value)(hp:top<=p):BS w0 (w.setCell ⟨p,o,none⟩ u) base n go cap top f:=by
 have hbs:=h;obtain⟨⟨vals,hl,ho,hv,hd⟩,⟨h2,h3⟩,h4,h5⟩:=h;refine⟨⟨vals,hl,ownsRow_setCell_other ho (by simp[Value.ownBlock];omega) _,λi hi=>?_,hd⟩,⟨h2,λm g n' c hm hc=>h3 m g n' c hm ?_⟩,h4.setCell zp _,by simpa using h5⟩
 . obtain⟨g,c,_,ht,e,_⟩:=hbs.row i zo;rw[kX ho i hi]at e;have e1:vals[i]=.slice (some ⟨g,0,none⟩) n c:=by simpa using e
   exact ownsRow_setCell_other (hv i hi) (by rw[e1];simp[Value.ownBlock];omega) _
 . rw[World.cell?_setCell_far _ _ _ _ zp]at hc;exact hc
theorem BT.setLast {w0 w:World}{base n go cap top:Nat}{f:Nat->Nat->Int}{r l kb:Nat}{last:Int}{k:Nat}(h:BT w0 w base n go cap top f r l kb last k)(x:Int)(h1:l≠r)(h2:l≠kb):
 BT w0 ((w.setCell ⟨l,0,none⟩ (.bool (ar x))).setCell ⟨l,1,none⟩ (.string (bs (nt x.natAbs)))) base n go cap top f r l kb x k:=by
 obtain⟨q1,q2,q3,q4,q5,q6,q7,q8⟩:=h;exact⟨(q1.setOther q5 l 0 _ q7).setOther q5 l 1 _ q7,(q2.so _ _ h1 _).so _ _ h1 _,(q3.set 0 _).set 1 _,(q4.so _ _ h2 _).so _ _ h2 _,q5,q6,q7,q8⟩
theorem alP (x y N:Int)(h:x-y=N)(w:World)(hx:(nt x.natAbs).length<=34359738368)(hy:(nt y.natAbs).length<=34359738368):
 Calls Tryz.prog 109 #[.agg #[.bool (ar x),.string (bs (nt x.natAbs))],.agg #[.bool (ar y),.string (bs (nt y.natAbs))]] w λe w'=>e=.returned (cX N)/\Bw w w':=by
 have:=PM (ar x) (nt x.natAbs) (ar y) (nt y.natAbs) w hx hy;rw[fq,fq,h]at this;exact this
theorem YW (x y N:Int)(h:x*y=N)(b cap:Nat)(ty:TypeId)(w:World)(hx:(nt x.natAbs).length<=17179869184)(hy:(nt y.natAbs).length<=17179869184)(ha:ak w b ty [.bool (ar x),.string (bs (nt x.natAbs)),.bool (ar y),.string (bs (nt y.natAbs))]):
 Calls Tryz.prog 73 #[.slice (some ⟨b,0,none⟩) 2 cap] w λe w'=>e=.returned (cX N)/\Bw w w':=
 YX _ _ _ _ N (by rw[fq,fq,h]) b cap ty w hx hy ha
theorem BS.row_ne {w0 w:World}{base n go cap top:Nat}{f:Nat->Nat->Int}(h:BS w0 w base n go cap top f)(i:Nat)(hi:i<n){g c:Nat}(hc:w.cell? ⟨go,i,none⟩=some (.slice (some ⟨g,0,none⟩) n c)):g≠go:=by
 obtain⟨⟨vals,hl,ho,hv,hd⟩,_⟩:=h;have hi2:i<vals.length:=by omega
 rw[kX ho i hi2]at hc;simp only[Option.some.injEq]at hc;have hrow:=hv i hi2;rw[hc]at hrow;obtain⟨_,c1,b1⟩:=Aq hrow;obtain⟨_,c2,b2⟩:=Aq ho;rintro rfl;have:=b1.symm.trans b2;simp at this
def Eh (f:Nat->Nat->Int)(n k:Nat):Int:=match oJ f n k with|none=>-1|some m=>(m:Int)
open Classical in
theorem BS.index {w0 w:World}{base n go cap top:Nat}{f:Nat->Nat->Int}(h:BS w0 w base n go cap top f)(k kb:Nat)(hk:k<n)(hn:n<=8)(hkb:w.cell? ⟨kb,0,none⟩=some (.int .i64 (k:Int)))(hz:∀a b,a<n->b<n->(nt (f a b).natAbs).length<=1099511627776):
 Calls Tryz.prog 126 #[.slice (some ⟨go,k,none⟩) (n-k) (cap-k),.func (.func 127) #[] #[.pointer (some ⟨kb,0,none⟩)]] w λe w'=>e=.returned (.int .i64 (Eh f n k))/\Bw w w':=by
 have hbs:=h;obtain⟨h1,_,_,_⟩:=h;obtain⟨vals,hl,ho,hv,hd⟩:=h1;have hrow:∀i (hi:i<vals.length),∃g c,vals[i]=.slice (some ⟨g,0,none⟩) n c/\∀j,j<n->w.cell? ⟨g,j*2,none⟩=some (.bool (ar (f i j)))/\w.cell? ⟨g,j*2+1,none⟩=some (.string (bs (nt (f i j).natAbs))):=by intro i hi;obtain⟨g,c,_,_,e1,e2,_⟩:=hbs.row i zo;rw[kX ho i hi]at e1;exact⟨g,c,by simpa using e1,e2⟩
 have hinj:∀i j (hi:i<vals.length) (hj:j<vals.length),vals[i]=vals[j]->i=j:=by intro i j hi hj e;obtain⟨g,c,e1,_⟩:=hrow i hi;exact hd i j hi hj g (by rw[e1];rfl) (by rw[<-e,e1];rfl)
 obtain⟨p,hp⟩:∃p:Value->Bool,∀i (hi:i<vals.length),p vals[i]=decide (f i k≠0):=by
  refine⟨λv=>decide (∃i,∃hi:i<vals.length,vals[i]=v/\f i k≠0),λi hi=>?_⟩;by_cases h0:f i k≠0
  . have:∃j,∃hj:j<vals.length,vals[j]=vals[i]/\f j k≠0:=⟨i,hi,rfl,h0⟩;show decide _=decide _
    rw[decide_eq_true this,decide_eq_true h0]
  . have:¬∃j,∃hj:j<vals.length,vals[j]=vals[i]/\f j k≠0:=by rintro⟨j,hj,e,h2⟩;exact h0 (by rw[<-hinj j i hj hi e];exact h2)
    simp only[this,h0,decide_false]
 have hpv:=ajl p vals f n k zo hp;have hat:At w (some ⟨go,k,none⟩) (vals.drop k):=by refine .inr ⟨go,k,rfl,λj hj=>?_⟩;rw[List.length_drop]at hj;rw[kX ho (k+j) zo,List.getElem?_drop,List.getElem?_eq_getElem]
 have:=agX (some ⟨go,k,none⟩) (n-k) (cap-k) (vals.drop k) 127 #[.pointer (some ⟨kb,0,none⟩)] p w (by rw[List.length_drop,hl]) zo hat (enters_of Tryz.func127 zk rfl) (λv hv W hb=>by
  obtain⟨i,hi,rfl⟩:=List.mem_iff_getElem.1 hv;rw[List.getElem_drop];have hi2:k+i<vals.length:=by rw[List.length_drop]at hi;omega
  obtain⟨g,c,e1,e2⟩:=hrow (k+i) hi2;obtain⟨e3,e4⟩:=e2 k hk;rw[hp (k+i) hi2,e1]
  exact acX kb k g n c (f (k+i) k) W (cell_later hb hkb) hk (cell_later hb e3) (cell_later hb e4) (hz _ _ zo hk))
 rw[hpv]at this;exact this
def Bs (w0 w:World)(base n go cap top r l K:Nat)(Z:Int)(k:Nat)(f:Nat->Nat->Int)(last:Int)(t:Bool):Prop:=
 BS w0 w base n go cap top f/\ak w r 28 [.bool false,.string ⟨#[]⟩]/\ak w l 28 [.bool (ar last),.string (bs (nt last.natAbs))]/\gH n (n-k) k f last/\eO n (n-k) k f last t=Z/\last≠0/\
  ∃Q,Q+1<=2^k* (K+1)/\last.natAbs<2^Q/\∀a b,a<n->b<n->(f a b).natAbs<2^Q
theorem ak2 (f:Nat->Nat->Int)(k:Nat):bZ f k (k+0)=f:=by
 funext a b;unfold bZ
 simp only[Nat.add_zero];by_cases h:a=k
 . rw[if_pos h,h]
 . rw[if_neg h,if_neg h]
theorem Bs.none {w0 w:World}{base n go cap top r l K k:Nat}{Z:Int}{f:Nat->Nat->Int}{last:Int}{t:Bool}(h:Bs w0 w base n go cap top r l K Z k f last t)(hk:k<n)(hp:oJ f n k=none):Z=0:=by obtain⟨_,_,_,_,h2,_⟩:=h;rw[show n-k=n-(k+1)+1 by omega]at h2;unfold eO at h2;rw[hp]at h2;exact h2.symm
theorem Bs.some {w0 w:World}{base n go cap top r l K k m:Nat}{Z:Int}{f:Nat->Nat->Int}{last:Int}{t:Bool}(h:Bs w0 w base n go cap top r l K Z k f last t)(hk:k<n)(hp:oJ f n k=some m):
 ∃g,g=bZ f k (k+m)/\g k k≠0/\(∀a b,k<a->a<n->k<b->b<n->last∣cB g k a b)/\gH n (n-(k+1)) (k+1) (dH g k last) (g k k)/\eO n (n-(k+1)) (k+1) (dH g k last) (g k k) (t !=decide (0<m))=Z/\
  ∃Q,2*Q+2<=2^(k+1) * (K+1)/\last.natAbs<2^Q/\(∀a b,a<n->b<n->(g a b).natAbs<2^Q)/\(g k k).natAbs<2^(2*Q+1)/\∀a b,a<n->b<n->(dH g k last a b).natAbs<2^(2*Q+1):=by
 obtain⟨_,_,_,h1,h2,h3,Q,hQ,hl,hf⟩:=h;have Dy:=kY hp;rw[show n-k=n-(k+1)+1 by omega]at h1 h2;unfold gH at h1;unfold eO at h2;rw[hp]at h1 h2;simp only at h1 h2;obtain⟨g,hg⟩:∃g,g=bZ f k (k+m):=⟨_,rfl⟩;rw[<-hg]at h1 h2;have iP:∀a b,a<n->b<n->(g a b).natAbs<2^Q:=by
  intro a b ha hb;rw[hg];unfold bZ;refine hf _ _ ?_ hb;split
  . omega
  . split
    . omega
    . exact ha
 have CQ:2^Q<=2^(2*Q+1):=Nat.pow_le_pow_right zd zo;refine⟨g,hg,?_,h1.1,h1.2,h2,Q,?_,hl,iP,Nat.lt_of_lt_of_le (iP k k hk hk) CQ,λa b ha hb=>?_⟩
 . rw[hg];unfold bZ;rw[if_pos rfl];exact Dy.2
 . rw[Nat.pow_succ];have:2^k*2* (K+1)=2* (2^k* (K+1)):=by rw[Nat.mul_comm (2^k) 2,Nat.mul_assoc]
   omega
 . unfold dH;split
   . rename_i h4
     have h5:=(Oi g k a b Q (iP a b ha hb) (iP k k hk hk) (iP a k ha hk) (iP k b hk hb)).2.2;rcases div_lt _ last _ h5 with h6|h6
     . exact h6
     . exact absurd (h1.1 a b h4.1 ha h4.2 hb) h6
   . exact Nat.lt_of_lt_of_le (iP a b ha hb) CQ
theorem Bs.next {w0 w:World}{base n go cap top r l kb K k:Nat}{Z:Int}{f g:Nat->Nat->Int}{x:Int}{t:Bool}(h:BT w0 w base n go cap top f r l kb x k)(hf:∀a b,a<n->b<n->f a b=g a b)(hx:x≠0)(h1:gH n (n-(k+1)) (k+1) g x)(h2:eO n (n-(k+1)) (k+1) g x t=Z)
 (h3:∃Q,Q+1<=2^(k+1) * (K+1)/\x.natAbs<2^Q/\∀a b,a<n->b<n->(g a b).natAbs<2^Q):Bs w0 w base n go cap top r l K Z (k+1) g x t:=
 ⟨(h.congr hf).1,h.2.1,h.2.2.1,h1,h2,hx,h3⟩
def Fu (a0:Act)(w0:World)(cs:List (Addr×Value))(x1 x2 x3 x4 P1 P2 N:Int)(dn:Nat->Bool)(a:Act)(w:World):Prop:=
 ∃v1 v2 v3 v4 v5 v6:Value,a=(((((a0.put (some 76) v1).put (some 77) v2).put (some 92) v3).put (some 93) v4).put (some 94) v5).put (some 10) v6/\jp cs w/\Bw w0 w/\
  (dn 14=true->∃b,v1=.slice (some ⟨b,0,none⟩) 2 2/\ak w b 28 [.bool (ar x1),.string (bs (nt x1.natAbs)),.bool (ar x2),.string (bs (nt x2.natAbs))])/\(dn 15=true->v2=cX P1)/\
  (dn 30=true->∃b,v3=.slice (some ⟨b,0,none⟩) 2 2/\ak w b 28 [.bool (ar x3),.string (bs (nt x3.natAbs)),.bool (ar x4),.string (bs (nt x4.natAbs))])/\(dn 31=true->v4=cX P2)/\(dn 32=true->v5=cX N)/\
  (dn 33=true->∃b,v6=.pointer (some ⟨b,0,none⟩)/\w0.heap.size<=b/\ak w b 28 [.bool false,.string ⟨#[]⟩])
theorem Fu.init (a:Act)(w0 w:World)(cs:List (Addr×Value))(x1 x2 x3 x4 P1 P2 N:Int)(hk:jp cs w)(hb:Bw w0 w):Fu a w0 cs x1 x2 x3 x4 P1 P2 N (λ_=>false) a w:=
 ⟨a.tmps.getD 76 undef,a.tmps.getD 77 undef,a.tmps.getD 92 undef,a.tmps.getD 93 undef,a.tmps.getD 94 undef,a.tmps.getD 10 undef,by rw[Aw,Aw,Aw,Aw,Aw,Aw],hk,hb,(λh=>by cases h),(λh=>by cases h),(λh=>by cases h),(λh=>by cases h),(λh=>by cases h),(λh=>by cases h)⟩
theorem acY (base n K:Nat)(f:Nat->Nat->Int)(v:Value)(w:World)(hn:1<=n)(cF:n<=4)(hO:jf w base n (eN f n) n v)(dG:base<=w.heap.size)(zH:1<=K)(hK:∀a b,a<n->b<n->(f a b).natAbs<2^K)(hK2:K<=100000000):
 Calls Tryz.prog 88 #[v] w λe w'=>e=.returned (cX (eO n n 0 f 1 false))/\Below base w w':=by
 obtain⟨go,cap,rfl,hcap,hbs⟩:=BS.begin hO hn;obtain⟨Z,hZ⟩:=aB (eO n n 0 f 1 false);have hex:=Tf n hn cF f;have hsz:∀k Q:Nat,k<=n->Q+1<=2^k* (K+1)->Q<=1800000000:=by intro k Q h1 h2;have h3:2^k<=2^4:=Nat.pow_le_pow_right zd zo;have h4:=Nat.mul_le_mul_right (K+1) h3;omega
 rw[hZ];obtain⟨Qz,HZ,QJ,mA,HK⟩:=fg hbs hZ hex hsz hK;clear hO hbs hZ hex hsz hK;have Hb:Hid (Bw w w):=Below.refl _ _;go_enter Tryz.func88,Tryz.ntmps88;go_wp2_with fail;obtain⟨R,hR⟩:∃R:World->Prop,(λW=>ak W (w.heap.size) 28 [.bool false,.string ⟨#[]⟩]/\Bw w W)=R:=⟨_,rfl⟩;first|refine bO R ?hR ?_|refine bK R ?hR ?_
 case hR=>subst hR;exact⟨(ak.newAt w _ _ (b:=w.heap.size) rfl),zl⟩
 subst hR;rintro W ⟨qr,ae⟩;have Hr:=ah qr;clear qr;obtain⟨r0,ai,r1,aj⟩:=Hr.out.g2;replace Hb:=au Hb ae;clear ae;go_wp2_with fail;refine(PH 1 _ zd zd).mono ?_;rintro e w1 ⟨rfl,ae⟩;clear r0 ai r1 aj;replace Hr:=kB Hr ae;obtain⟨r0,ai,r1,aj⟩:=Hr.out.g2;replace Hb:=au Hb ae;clear ae;have xZ:=Hr.out.lt;obtain⟨W2,pz,ae,Hl⟩:=cN w1 28 [.bool (ar 1),.string (bs (nt 1))];clear r0 ai r1 aj;replace Hr:=kB Hr ae;obtain⟨r0,ai,r1,aj⟩:=Hr.out.g2;obtain⟨l0,qE,l1,qF⟩:=Hl.out.g2;replace Hb:=au Hb ae;clear ae;have Qa:=ah (Qz.out.below Hb.out zo);have ags:w.heap.size<w1.heap.size:=xZ;have hq0:=Hr.out;have hq1:=Hl.out;clear r0 r1 ai aj l0 l1 qE qF;have hst:Bs w W2 base n go cap w.heap.size w.heap.size w1.heap.size K Z 0 f 1 false:=⟨Qa.out,hq0,hq1,QJ.out,HZ.out,by decide,K,by omega,by rw[show(1:Int).natAbs=1 from rfl];exact Nat.one_lt_two_pow zo,HK.out⟩;clear hq0 hq1;have cd:=ah hst;have szW:=Hb.out.size;clear hst Qa Hb Hr Hl Qz HK QJ HZ;go_wp2_with fail;go_loopw[5,15] (λs5 x wr=>∃(k:Nat) (f':Nat->Nat->Int) (last:Int) (t:Bool),k<=n/\x=.int .i64 (k:Int)/\s5=.bool t/\Bs w wr base n go cap w.heap.size w.heap.size w1.heap.size K Z k f' last t) (λ_ x _=>n-(intOf x).toNat);case atStart=>exact⟨0,f,1,false,Nat.zero_le _,rfl,rfl,cd.out⟩
 case round=>
  clear cd;obtain⟨k,f',last,t,hk,rfl,rfl,hS⟩:=hrel;obtain⟨wk,hwk⟩:∃wk,wk=wr:=⟨_,rfl⟩;subst hwk;by_cases hlt:k<n
  . obtain⟨Q0,TY,_,Ua⟩:=hS.2.2.2.2.2.2;have fQ:=mA.out k Q0 hk TY;have hlen:∀a b,a<n->b<n->(nt (f' a b).natAbs).length<=1099511627776:=λa b ha hb=>jK (Ua a b ha hb) zo;have hkc:k<cap:=by omega
    obtain⟨HS,nS⟩:=aL hS hlen;have wj:=hS.1.2.2.2;clear hS TY Ua fQ hlen;have Hb:Hid (Bw wk wk):=Below.refl _ _;obtain⟨Hr,Hl⟩:=aL HS.out.2.1 HS.out.2.2.1;obtain⟨r0,ai,r1,aj⟩:=Hr.out.g2;obtain⟨l0,qE,l1,qF⟩:=Hl.out.g2;have Il:=Hr.out.lt;have ahW:=Hl.out.lt;obtain⟨W3,CZ,ae,mX⟩:=cN wk 3 [.int .i64 (k:Int)];clear r0 ai r1 aj;replace Hr:=kB Hr ae;clear l0 qE l1 qF;replace Hl:=kB Hl ae;obtain⟨r0,ai,r1,aj⟩:=Hr.out.g2;obtain⟨l0,qE,l1,qF⟩:=Hl.out.g2;have eo:=mX.out.c1;replace Hb:=au Hb ae;clear ae;have jP:=ah (HS.out.1.below Hb.out zo);go_wp2_with fail;refine(jP.out.index k wk.heap.size hlt zo eo nS.out).mono ?_;rintro e w4 ⟨rfl,ae⟩;clear r0 ai r1 aj l0 qE l1 qF eo;replace Hr:=kB Hr ae;replace Hl:=kB Hl ae;replace mX:=kB mX ae;obtain⟨r0,ai,r1,aj⟩:=Hr.out.g2;obtain⟨l0,qE,l1,qF⟩:=Hl.out.g2;have eo:=mX.out.c1;replace Hb:=au Hb ae;clear ae;cases hp:oJ f' n k with
    | none=>
      have hpv:Eh f' n k= -1:=by unfold Eh;rw[hp]
      have hz:=HS.out.none hlt hp;rw[hpv];have Hbb:=ah (HS.out.1.2.2.1.trans (Hb.out.mono zo));clear HS nS jP hp;go_wp2;refine bodyPost_ret (v:=.agg #[.bool false,.string ⟨#[]⟩]) (by simp[results,Tryz.results88,go_sem,r0,r1]) rfl ⟨by rw[hz];rfl,?_⟩;exact(Hbb.out.setCell zp _).setCell zp _
    | some m=>
      have hpv:Eh f' n k=(m:Int):=by unfold Eh;rw[hp]
      rw[hpv];obtain⟨vz,_⟩:=kY hp;obtain⟨g,hg,pD,mG,UK,Uz,Q,hQ,Dm,iP,UY,VX⟩:=HS.out.some hlt hp;have hl0:=HS.out.2.2.2.2.2.1;have xy:BT w w4 base n go cap w.heap.size f' w.heap.size w1.heap.size wk.heap.size last k:=⟨HS.out.1.below Hb.out zo,Hr.out,Hl.out,mX.out,by omega,Nat.le_refl _,by omega,by omega⟩;obtain⟨uD,Hdv,QK,Qx,HQ,QV,QQ,QS,Cc,Hg,EX,oV⟩:=fR xy mG UK Uz hQ Dm iP UY VX hg pD hl0;clear xy mG UK Uz hQ Dm iP UY VX hg pD hl0 hpv hp HS nS jP Hb Hr Hl mX r0 r1 ai aj l0 l1 qE qF eo;have hm0:¬(m:Int)<0:=by omega
      go_upto_if 27 with fail
      go_cut[5] (λs5 wx=>s5=.bool (t !=decide (0<m))/\BT w wx base n go cap w.heap.size g w.heap.size w1.heap.size wk.heap.size last k);case first=>
       by_cases hm:0<m
       . have tY:(0:Int)<(m:Int):=by omega
         obtain⟨g1,c1,g2,c2,e1,e2,e3,hsw⟩:=uD.out.swap k (k+m) hlt zo;rw[<-Hg.out]at hsw;have Kt:=ah hsw;have iB:=zZ n cap k (k:Int) (rfl:(some ⟨go,0,none⟩:Option Addr)=_) hlt rfl;have kN:=zZ n cap (k+m) ((k+m:Nat):Int) (rfl:(some ⟨go,0,none⟩:Option Addr)=_) zo rfl;rw[Nat.zero_add,Nat.mul_one]at iB kN;have hwm:IntKind.i64.wrap ((k:Int)+(m:Int))=((k+m:Nat):Int):=by rw[IntKind.wrap_i64];omega
         obtain⟨km,tX⟩:=aB (k+m);rw[tX]at e2 kN hwm Kt;have mX:=ah uD.out.2.2.2.1;have Hxa:Hid (aV w4 go k [.slice (some ⟨g1,0,none⟩) n c1]):=λj hj=>by
          obtain rfl:j=0:=by simp at hj;omega
          exact e1
         have Hxb:Hid (aV w4 go km [.slice (some ⟨g2,0,none⟩) n c2]):=λj hj=>by
          obtain rfl:j=0:=by simp at hj;omega
          exact e2
         have z1:w4.drew.frozen? ⟨go,k,none⟩=false:=e3 k;have z2:w4.drew.frozen? ⟨go,km,none⟩=false:=e3 km;have z3:w4.frozen? ⟨go,km,none⟩=false:=e3 km;have y2:(w4.setCell ⟨go,k,none⟩ (.slice (some ⟨g2,0,none⟩) n c2)).cell? ⟨go,km,none⟩=some (.slice (some ⟨g2,0,none⟩) n c2):=aH (.inr zp) e2;have Hkm:=ah tX;clear hsw e1 e2 e3 tX;go_wp2_with fail;have eo:=mX.out.c1;have xa0:=Hxa.out.w1;have xb0:=Hxb.out.w1;have hgo:go<wk.heap.size:=by have:=uD.out.1.2.1.1;omega
         refine Ja (λw'=>w'.cell? ⟨wk.heap.size,0,none⟩=some (.int .i64 (k:Int))) (λi=>Nat.blt i 19) (.rd 0 (.rd 1 (.rd 2 (.rd 3 (.rd 4 (.rd 5 (.rd 6 (.rd 7 (.rd 8 (.rd 9 (.rd 10 (.rd 12 (.rd 13 (.rd 14 (.br 11 15 (.lin [(15,false),(16,true),(17,false),(18,false),(19,false)]) (.lin [(11,false),(16,true),(17,false),(18,false),(19,false)])))))))))))))))) zk zk rfl zk zc eo ?_;iterate 14 (refine OB rfl rfl (v:=?_) (λw' hw'=>?_) ?_;rotate_left;(focus go_simp;try with_reducible rfl);try simp only[UU])
         refine Av rfl rfl rfl rfl rfl rfl  (λK hK=>?_) (λK hK=>?_) 
         . go_simp;refine hK _ _ (by first|exact λ_=>eo|exact λ_=>fC zg eo) ?_;clear hK K;try simp only[UU]
           refine sM ?_;refine aI rfl rfl (λK hK=>?_);go_simp;refine hK _ _ (by first|exact λh=>absurd h zd|exact λ_=>eo|exact λ_=>fC zg eo) ?_;clear hK K;try simp only[UU]
           refine pT rfl rfl ?_;try simp only[UU]
           refine aI rfl rfl (λK hK=>?_);go_simp;refine hK _ _ (by first|exact λh=>absurd h zd|exact λ_=>eo|exact λ_=>fC zg eo) ?_;clear hK K;try simp only[UU]
           refine aI rfl rfl (λK hK=>?_);go_simp;refine hK _ _ (by first|exact λh=>absurd h zd|exact λ_=>eo|exact λ_=>fC zg eo) ?_;clear hK K;try simp only[UU]
           refine aI rfl rfl (λK hK=>?_);go_simp;refine hK _ _ (by first|exact λh=>absurd h zd|exact λ_=>eo|exact λ_=>fC zg eo) ?_;clear hK K;try simp only[UU]
           simp only[aU];go_wp2_with fail;go_meet;exact⟨by simp[hm],Kt.out.drew⟩
         . go_simp;refine hK _ _ (by first|exact λ_=>eo|exact λ_=>fC zg eo) ?_;clear hK K;try simp only[UU]
           refine sM ?_;refine aI rfl rfl (λK hK=>?_);go_simp;refine hK _ _ (by first|exact λh=>absurd h zd|exact λ_=>eo|exact λ_=>fC zg eo) ?_;clear hK K;try simp only[UU]
           refine pT rfl rfl ?_;try simp only[UU]
           refine aI rfl rfl (λK hK=>?_);go_simp;refine hK _ _ (by first|exact λh=>absurd h zd|exact λ_=>eo|exact λ_=>fC zg eo) ?_;clear hK K;try simp only[UU]
           refine aI rfl rfl (λK hK=>?_);go_simp;refine hK _ _ (by first|exact λh=>absurd h zd|exact λ_=>eo|exact λ_=>fC zg eo) ?_;clear hK K;try simp only[UU]
           refine aI rfl rfl (λK hK=>?_);go_simp;refine hK _ _ (by first|exact λh=>absurd h zd|exact λ_=>eo|exact λ_=>fC zg eo) ?_;clear hK K;try simp only[UU]
           simp only[aU];go_wp2_with fail;go_meet;exact⟨by simp[hm],Kt.out.drew⟩
       . have hm2:¬(0:Int)<(m:Int):=by omega
         obtain rfl:m=0:=by omega
         go_wp2_with fail;go_meet;refine⟨by simp,?_⟩;rw[Hg.out,ak2];exact uD.out
      case rest=>
       obtain⟨rfl,xy⟩:=hcut;have uD:=ah xy;have fQ:=mA.out (k+1) (2*Q+1) zo (by have:=HQ.out;omega);clear xy;have eo:wc.cell? ⟨wk.heap.size,0,none⟩=some (.int .i64 (k:Int)):=uD.out.2.2.2.1.cell 0;go_wp2_with fail;go_loopw[8] (λx wr=>∃i:Nat,k<i/\i<=n/\x=.int .i64 (i:Int)/\BT w wr base n go cap w.heap.size (kx g k last i (k+1)) w.heap.size w1.heap.size wk.heap.size last k) (λx _=>n-(intOf x).toNat);case atStart=>exact⟨k+1,by omega,by omega,by go_num,by rw[ajg];exact uD.out⟩
       case round=>
        clear eo uD;obtain⟨i,Dk,hin,rfl,hT⟩:=hrel;have Bq:=ah hT;clear hT;have eo:wr.cell? ⟨wk.heap.size,0,none⟩=some (.int .i64 (k:Int)):=Bq.out.2.2.2.1.cell 0;by_cases bj:i<n
        . obtain⟨wi,im⟩:∃wi,wi=wr:=⟨_,rfl⟩;subst im;go_wp2_with fail;go_loopw[9] (λx wr=>∃j:Nat,k<j/\j<=n/\x=.int .i64 (j:Int)/\BT w wr base n go cap w.heap.size (kx g k last i j) w.heap.size w1.heap.size wk.heap.size last k) (λx _=>n-(intOf x).toNat);case atStart=>exact⟨k+1,by omega,by omega,by go_num,Bq.out⟩
          case round=>
           clear eo Bq;obtain⟨j,hkj,hjn,rfl,hT⟩:=hrel;by_cases gw:j<n
           . have yH:=ah hT;clear hT;obtain⟨gi,ci,li,ti,ei,ri,_⟩:=yH.out.row i bj;obtain⟨gk,ck,lk,tk,ek,rk,_⟩:=yH.out.row k hlt;obtain⟨p1,p2,p3,p4⟩:=ajd g k last i j;obtain⟨aa,Fw⟩:=ri j gw;obtain⟨ab,Fz⟩:=rk k hlt;obtain⟨ac,FA⟩:=ri k hlt;obtain⟨ad,FB⟩:=rk j gw;rw[p1]at aa Fw;rw[p2]at ab Fz;rw[p3]at ac FA;rw[p4]at ad FB;have iP:=QQ.out;have q1:=iP i j bj gw;have q2:=iP k k hlt hlt;have q3:=iP i k bj hlt;have q4:=iP k j hlt gw;obtain⟨m1,m2,m3⟩:=Oi g k i j Q q1 q2 q3 q4;have mG:=Hdv.out i j Dk bj hkj gw;have Vv:=fun a b=>congrFun (congrFun (aje g k last i j Dk hkj) a) b;have hN:g i j*g k k-g i k*g k j=cB g k i j:=rfl;generalize cB g k i j=N at*;obtain⟨x1,hx1⟩:∃x,g i j=x:=⟨_,rfl⟩;obtain⟨x2,hx2⟩:∃x,g k k=x:=⟨_,rfl⟩;obtain⟨x3,hx3⟩:∃x,g i k=x:=⟨_,rfl⟩;obtain⟨x4,Wo⟩:∃x,g k j=x:=⟨_,rfl⟩;rw[hx1]at q1 m1 hN aa Fw;rw[hx2]at q2 m1 hN ab Fz;rw[hx3]at q3 m2 hN ac FA;rw[Wo]at q4 m2 hN ad FB;obtain⟨P1,Mb⟩:∃x,x1*x2=x:=⟨_,rfl⟩;obtain⟨P2,qI⟩:∃x,x3*x4=x:=⟨_,rfl⟩;rw[Mb]at m1 hN;rw[qI]at m2 hN;have L1:(nt x1.natAbs).length<=17179869184:=jK q1 zo;have L2:(nt x2.natAbs).length<=17179869184:=jK q2 zo;have L3:(nt x3.natAbs).length<=17179869184:=jK q3 zo;have L4:(nt x4.natAbs).length<=17179869184:=jK q4 zo;have L5:(nt P1.natAbs).length<=34359738368:=jK m1 zo;have L6:(nt P2.natAbs).length<=34359738368:=jK m2 zo;have L7:(nt N.natAbs).length<=34359738368:=jK m3 zo;have L8:(nt last.natAbs).length<=34359738368:=jK QV.out zo;obtain⟨jQ,Qh,Ba,Qi,Qj,Qk,Ql,Qm,dD,dF,HN,JH⟩:=fR L1 L2 L3 L4 L5 L6 L7 L8 Mb qI hN mG;have Re:=ah Vv;clear L1 L2 L3 L4 L5 L6 L7 L8 Mb qI hN mG Vv q1 q2 q3 q4 m1 m2 m3 hx1 hx2 hx3 Wo iP p1 p2 p3 p4 ri rk;have EB:∀(b o:Nat) (u v:Value),wr.cell? ⟨b,o,none⟩=some u->wr.cell? ⟨b,o+1,none⟩=some v->aV wr b o [u,v]:=by
              intro b o u v h1 h2 j hj;rcases j with _|_|j
              . exact h1
              . exact h2
              . simp at hj;omega
             have PO:∀(b o:Nat) (u:Value),wr.cell? ⟨b,o,none⟩=some u->aV wr b o [u]:=by
              intro b o u h1 j hj;obtain rfl:j=0:=by simp at hj;omega
              exact h1
             obtain⟨mX,uK,xb,uB,jB,Jt,wE⟩:=pR yH.out.2.2.2.1 (PO _ _ _ ei) (PO _ _ _ ek) (EB _ _ _ _ aa Fw) (EB _ _ _ _ ab Fz) (EB _ _ _ _ ac FA) (EB _ _ _ _ ad FB);clear PO EB ei ek aa Fw ab Fz ac FA ad FB;have ixi:=zZ n cap i (i:Int) (rfl:(some ⟨go,0,none⟩:Option Addr)=_) bj rfl;have WH:=zZ n cap k (k:Int) (rfl:(some ⟨go,0,none⟩:Option Addr)=_) hlt rfl;rw[Nat.zero_add,Nat.mul_one]at ixi WH;have Ib:=uf n ci j (j:Int) (rfl:(some ⟨gi,0,none⟩:Option Addr)=_) gw rfl;have WC:=uf n ci k (k:Int) (rfl:(some ⟨gi,0,none⟩:Option Addr)=_) hlt rfl;have WE:=uf n ck j (j:Int) (rfl:(some ⟨gk,0,none⟩:Option Addr)=_) gw rfl;have WF:=uf n ck k (k:Int) (rfl:(some ⟨gk,0,none⟩:Option Addr)=_) hlt rfl;rw[Nat.zero_add]at Ib WC WE WF;go_upto_region 18 with fail
             go_cut[10] (λum wx=>∃b:Nat,um=.pointer (some ⟨b,0,none⟩)/\ak wx b 28 [.bool (ar N),.string (bs (nt N.natAbs))]/\Bw wr wx);case first=>
              clear QQ HQ QV QS Cc Hg Qx QK Re JH EX yH;obtain⟨w0,hw0⟩:∃w0,w0=w:=⟨_,rfl⟩;subst hw0;obtain⟨w,Nw⟩:∃w,w=wr:=⟨_,rfl⟩;subst Nw;have Hb:Hid (Bw w w):=Below.refl _ _;have eo:=mX.out.c1;have rB:=uK.out.w1;have wu:=xb.out.w1;obtain⟨Fx,Fy⟩:=uB.out.w2;obtain⟨uM,uN⟩:=jB.out.w2;obtain⟨ac0,ac1⟩:=Jt.out.w2;obtain⟨ad0,ad1⟩:=wE.out.w2;obtain⟨cs,hcs⟩:∃cs:List (Addr×Value),[(⟨wk.heap.size,0,none⟩,.int .i64 (k:Int)),(⟨go,i,none⟩,.slice (some ⟨gi,0,none⟩) n ci),(⟨go,k,none⟩,.slice (some ⟨gk,0,none⟩) n ck),(⟨gi,j*2,none⟩,.bool (ar x1)),(⟨gi,j*2+1,none⟩,.string (bs (nt x1.natAbs))),(⟨gk,k*2,none⟩,.bool (ar x2)),(⟨gk,k*2+1,none⟩,.string (bs (nt x2.natAbs))),(⟨gi,k*2,none⟩,.bool (ar x3)),(⟨gi,k*2+1,none⟩,.string (bs (nt x3.natAbs))),(⟨gk,j*2,none⟩,.bool (ar x4)),(⟨gk,j*2+1,none⟩,.string (bs (nt x4.natAbs)))]=cs:=⟨_,rfl⟩;have oP:∀w',jp cs w'->w'.cell? ⟨wk.heap.size,0,none⟩=some (.int .i64 (k:Int))/\w'.cell? ⟨go,i,none⟩=some (.slice (some ⟨gi,0,none⟩) n ci)/\w'.cell? ⟨go,k,none⟩=some (.slice (some ⟨gk,0,none⟩) n ck)/\w'.cell? ⟨gi,j*2,none⟩=some (.bool (ar x1))/\w'.cell? ⟨gi,j*2+1,none⟩=some (.string (bs (nt x1.natAbs)))/\w'.cell? ⟨gk,k*2,none⟩=some (.bool (ar x2))/\w'.cell? ⟨gk,k*2+1,none⟩=some (.string (bs (nt x2.natAbs)))/\w'.cell? ⟨gi,k*2,none⟩=some (.bool (ar x3))/\w'.cell? ⟨gi,k*2+1,none⟩=some (.string (bs (nt x3.natAbs)))/\w'.cell? ⟨gk,j*2,none⟩=some (.bool (ar x4))/\w'.cell? ⟨gk,j*2+1,none⟩=some (.string (bs (nt x4.natAbs))):=by subst hcs;intro w' h;exact⟨h.hd,h.tl.hd,h.tl.tl.hd,h.tl.tl.tl.hd,h.tl.tl.tl.tl.hd,h.tl.tl.tl.tl.tl.hd,h.tl.tl.tl.tl.tl.tl.hd,h.tl.tl.tl.tl.tl.tl.tl.hd,h.tl.tl.tl.tl.tl.tl.tl.tl.hd,h.tl.tl.tl.tl.tl.tl.tl.tl.tl.hd,h.tl.tl.tl.tl.tl.tl.tl.tl.tl.tl.hd⟩
              have aZ:Hid (jp cs w):=by subst hcs;show jp _ _;intro p hp;simp only[List.mem_cons,List.not_mem_nil,or_false]at hp;rcases hp with rfl|rfl|rfl|rfl|rfl|rfl|rfl|rfl|rfl|rfl|rfl<;>assumption
              refine al4 (λw'=>jp cs w') (λi=>Nat.blt i 34) [14,15,30,31,32,33] (λk=>if k=15 then[14]else if k=31 then[15,30]else if k=32 then[15,31]else[]) [(34,false)] [0,1,2,3,4,5,6,7,8,9,10,11,12,13,16,17,18,19,20,21,22,23,24,25,26,27,28,29] zk zk rfl zk zc aZ.out.drew ?_;iterate 28 (refine ajn rfl rfl (v:=?_) (λw' hw'=>?_) ?_;rotate_left;(focus have hw':=oP w' hw';obtain⟨q0,q1,q2,q3,q4,q5,q6,q7,q8,q9,vY⟩:=hw';go_simp;try with_reducible rfl);try simp only[UU])
              clear eo rB wu Fx Fy uM uN ac0 ac1 ad0 ad1 mX uK xb uB jB Jt wE oP hcs;refine ajm (λa0=>Fu a0 w cs x1 x2 x3 x4 P1 P2 N) (Fu.init _ _ _ _ _ _ _ _ _ _ _ aZ.out.drew (Below.refl _ _).drew) ?_ ?_ ?_
              . rintro dn a' w' ⟨_,_,_,_,_,_,_,h,_⟩;exact h
              . intro k0 kP dn a' w' _ hD hI;obtain⟨v1,v2,v3,v4,v5,v6,rfl,tN,tL,f1,f2,f3,f4,f5,f6⟩:=hI;simp only[List.mem_cons,List.not_mem_nil,or_false]at kP;rcases kP with rfl|rfl|rfl|rfl|rfl|rfl
                . have zH:=tN.alloc (.cells #[.bool (ar x1),.string (bs (nt x1.natAbs)),.bool (ar x2),.string (bs (nt x2.natAbs))] 28);have hal:=(Below.refl w'.heap.size w').alloc (Nat.le_refl _) (.cells #[.bool (ar x1),.string (bs (nt x1.natAbs)),.bool (ar x2),.string (bs (nt x2.natAbs))] 28);refine Ap rfl rfl (λK hK=>?_);clear f1;simp only[Act.put,U1,U2,U3];go_simp;refine hK _ _ ⟨.slice (some ⟨w'.heap.size,0,none⟩) 2 2,v2,v3,v4,v5,v6,by simp only[Act.put,U1,U2,U3],zH,aJ tL hal,λ_=>⟨_,rfl,ak.new _ _ _⟩,λh=>f2 (by simpa using h),λh=>?_,λh=>f4 (by simpa using h),λh=>f5 (by simpa using h),λh=>?_⟩
                  . obtain⟨b,e,q⟩:=f3 (by simpa using h);exact⟨b,e,q.below hal⟩
                  . obtain⟨b,e,hb,q⟩:=f6 (by simpa using h);exact⟨b,e,hb,q.below hal⟩
                . obtain⟨b,rfl,q⟩:=f1 (hD 14 zm);refine Ap rfl rfl (λK hK=>?_);clear f1;simp only[Act.put,U1,U2,U3];go_simp;with_reducible refine(YW x1 x2 P1 dD.out b 2 _ _ jQ.out Qh.out q).mono ?_
                  rintro e w2 ⟨rfl,hq⟩;refine hK _ _ ⟨_,cX P1,v3,v4,v5,v6,by simp only[Act.put,U1,U2,U3],tN.below hq,aJ tL hq,λ_=>⟨b,rfl,q.below hq⟩,λ_=>rfl,λh=>?_,λh=>f4 (by simpa using h),λh=>f5 (by simpa using h),λh=>?_⟩
                  . obtain⟨b,e,q⟩:=f3 (by simpa using h);exact⟨b,e,q.below hq⟩
                  . obtain⟨b,e,hb,q⟩:=f6 (by simpa using h);exact⟨b,e,hb,q.below hq⟩
                . have zH:=tN.alloc (.cells #[.bool (ar x3),.string (bs (nt x3.natAbs)),.bool (ar x4),.string (bs (nt x4.natAbs))] 28);have hal:=(Below.refl w'.heap.size w').alloc (Nat.le_refl _) (.cells #[.bool (ar x3),.string (bs (nt x3.natAbs)),.bool (ar x4),.string (bs (nt x4.natAbs))] 28);refine Ap rfl rfl (λK hK=>?_);clear f3;simp only[Act.put,U1,U2,U3];go_simp;refine hK _ _ ⟨v1,v2,.slice (some ⟨w'.heap.size,0,none⟩) 2 2,v4,v5,v6,by simp only[Act.put,U1,U2,U3],zH,aJ tL hal,λh=>?_,λh=>f2 (by simpa using h),λ_=>⟨_,rfl,ak.new _ _ _⟩,λh=>f4 (by simpa using h),λh=>f5 (by simpa using h),λh=>?_⟩
                  . obtain⟨b,e,q⟩:=f1 (by simpa using h);exact⟨b,e,q.below hal⟩
                  . obtain⟨b,e,hb,q⟩:=f6 (by simpa using h);exact⟨b,e,hb,q.below hal⟩
                . obtain⟨b,rfl,q⟩:=f3 (hD 30 zm);obtain rfl:=f2 (hD 15 zm);refine Ap rfl rfl (λK hK=>?_);clear f3;simp only[Act.put,U1,U2,U3];go_simp;with_reducible refine(YW x3 x4 P2 dF.out b 2 _ _ Ba.out Qi.out q).mono ?_
                  rintro e w2 ⟨rfl,hq⟩;refine hK _ _ ⟨v1,cX P1,.slice (some ⟨b,0,none⟩) 2 2,cX P2,v5,v6,by simp only[Act.put,U1,U2,U3],tN.below hq,aJ tL hq,λh=>?_,λ_=>rfl,λ_=>⟨b,rfl,q.below hq⟩,λ_=>rfl,λh=>f5 (by simpa using h),λh=>?_⟩
                  . obtain⟨b,e,q⟩:=f1 (by simpa using h);exact⟨b,e,q.below hq⟩
                  . obtain⟨b,e,hb,q⟩:=f6 (by simpa using h);exact⟨b,e,hb,q.below hq⟩
                . obtain rfl:=f2 (hD 15 zm);obtain rfl:=f4 (hD 31 zm);refine Ap rfl rfl (λK hK=>?_);clear f2 f4;simp only[Act.put,U1,U2,U3];go_simp;with_reducible refine(alP P1 P2 N HN.out _ Qj.out Qk.out).mono ?_
                  rintro e w2 ⟨rfl,hq⟩;refine hK _ _ ⟨v1,_,v3,_,cX N,v6,by simp only[Act.put,U1,U2,U3],tN.below hq,aJ tL hq,λh=>?_,λ_=>rfl,λh=>?_,λ_=>rfl,λ_=>rfl,λh=>?_⟩
                  . obtain⟨b,e,q⟩:=f1 (by simpa using h);exact⟨b,e,q.below hq⟩
                  . obtain⟨b,e,q⟩:=f3 (by simpa using h);exact⟨b,e,q.below hq⟩
                  . obtain⟨b,e,hb,q⟩:=f6 (by simpa using h);exact⟨b,e,hb,q.below hq⟩
                . have zH:=tN.alloc (.cells #[.bool false,.string ⟨#[]⟩] 28);have hal:=(Below.refl w'.heap.size w').alloc (Nat.le_refl _) (.cells #[.bool false,.string ⟨#[]⟩] 28);refine Ap rfl rfl (λK hK=>?_);clear f6;simp only[Act.put,U1,U2,U3];go_simp;refine hK _ _ ⟨v1,v2,v3,v4,v5,.pointer (some ⟨w'.heap.size,0,none⟩),by simp only[Act.put,U1,U2,U3],zH,aJ tL hal,λh=>?_,λh=>f2 (by simpa using h),λh=>?_,λh=>f4 (by simpa using h),λh=>f5 (by simpa using h),λ_=>⟨_,rfl,tL.size,ak.new _ _ _⟩⟩
                  . obtain⟨b,e,q⟩:=f1 (by simpa using h);exact⟨b,e,q.below hal⟩
                  . obtain⟨b,e,q⟩:=f3 (by simpa using h);exact⟨b,e,q.below hal⟩
              . intro dn a' w' hall hI;obtain⟨v1,v2,v3,v4,v5,v6,rfl,tN,tL,f1,f2,f3,f4,f5,f6⟩:=hI;obtain rfl:=f5 (hall 32 zm);obtain⟨b,rfl,hb,q⟩:=f6 (hall 33 zm);obtain⟨sF,amM,sG,amN⟩:=q.g2;have hQ9:=(q.set 0 (.bool (ar N))).set 1 (.string (bs (nt N.natAbs)));have hB9:=(tL.sc b 0 hb (.bool (ar N))).sc b 1 hb (.string (bs (nt N.natAbs)));clear f1 f2 f3 f4 f5 f6;refine aI rfl rfl (λK hK=>?_);simp only[Act.put,U1,U2,U3];go_simp;refine hK _ _ (λh=>absurd h zd) ?_;clear hK K;simp only[aU];go_wp2_with fail;go_meet;exact⟨b,rfl,hQ9,hB9⟩
             case rest=>
              obtain⟨bx,rfl,qx,qb⟩:=hcut;obtain⟨Br,BN⟩:=aL (yH.out.below qb) qx;clear qx qb yH mX uK xb uB jB Jt wE WH WC WE WF Ib jQ Qh Ba Qi Qj Qk dD dF HN li lk ti tk;obtain⟨g9,c9,lt9,lu9,e9,r9,f9⟩:=Br.out.apH i bj;have ne9:=Br.out.1.row_ne i bj e9;have nx9:bx≠g9:=by rintro rfl;have h1:=(r9 1 zo).1;rw[BN.out.cell]at h1;simp at h1
              obtain⟨OI,OJ⟩:=r9 j gw;obtain⟨y,hy⟩:=aB (kx g k last i j i j);rw[hy]at OI OJ;have uK:Hid (aV wc go i [.slice (some ⟨g9,0,none⟩) n c9]):=λj hj=>by
               obtain rfl:j=0:=by simp at hj;omega
               exact e9
              have uB:Hid (aV wc g9 (j*2) [.bool (ar y),.string (bs (nt y.natAbs))]):=λj' hj=>by
               rcases j' with _|_|j'
               . exact OI
               . exact OJ
               . simp at hj;omega
              have Hl:=ah Br.out.2.2.1;have Ib:=uf n c9 j (j:Int) (rfl:(some ⟨g9,0,none⟩:Option Addr)=_) gw rfl;rw[Nat.zero_add]at Ib;obtain⟨Dv,LN⟩:=aB (N/last);have UH:Calls Tryz.prog 128 #[.agg #[.bool (ar N),.string (bs (nt N.natAbs))],.agg #[.bool (ar last),.string (bs (nt last.natAbs))]] wc.drew λe w'=>∃r,e=.returned (.tuple #[cX Dv,r,.bool true])/\(w'.frozen? ⟨g9,j*2,none⟩=false/\w'.frozen? ⟨g9,j*2+1,none⟩=false)/\Below wc.drew.heap.size wc.drew w':=
               (alK N last wc.drew Ql.out Qm.out oV.out JH.out).mono (λe w' ⟨r,he,hb⟩=>⟨r,by rw[he,LN],⟨(f9 w' (aM hb)).1 _,(f9 w' (aM hb)).1 _⟩,hb⟩)
              obtain⟨Hf9,Hdc,Jg⟩:=cL f9 UH LN;clear OI OJ hy e9 r9 f9 UH LN Ql Qm JH;have Hb:Hid (Bw wc wc):=Below.refl _ _;go_wp2_with fail;have rB:=uK.out.w1;obtain⟨Fx,Fy⟩:=uB.out.w2;obtain⟨sF,sG⟩:=BN.out.c2;obtain⟨l0,l1⟩:=Hl.out.c2;refine bJ (λw'=>w'.cell? ⟨go,i,none⟩=some (.slice (some ⟨g9,0,none⟩) n c9)/\w'.cell? ⟨bx,0,none⟩=some (.bool (ar N))/\w'.cell? ⟨bx,1,none⟩=some (.string (bs (nt N.natAbs)))/\w'.cell? ⟨w1.heap.size,0,none⟩=some (.bool (ar last))/\w'.cell? ⟨w1.heap.size,1,none⟩=some (.string (bs (nt last.natAbs)))) (λi=>Nat.blt i 100000) [(0,true),(1,true),(2,true),(3,true),(4,true),(5,true),(6,true),(7,false),(8,true),(9,true),(10,true),(11,true),(12,true),(13,false)] zk zk rfl zk zc ⟨rB,sF,sG,l0,l1⟩ ?_;iterate 7 (refine pT rfl rfl ?_ (by intro w' ⟨q0,q1,q2,q3,q4⟩;go_simp;try with_reducible rfl);try simp only[UU])
              refine aI rfl rfl (λK hK=>?_);go_simp;with_reducible refine(Hdc.out).mono ?_
              rintro e w5 ⟨rr,rfl,⟨z0,z1⟩,hq⟩;have ae:Bw wc w5:=by first|exact hq|exact aM hq
              clear rB Fx Fy sF sG l0 l1;replace uK:=kW uK ae;replace uB:=kW uB ae;replace BN:=kB BN ae;replace Hl:=kB Hl ae;have rB:=uK.out.w1;obtain⟨Fx,Fy⟩:=uB.out.w2;obtain⟨sF,sG⟩:=BN.out.c2;obtain⟨l0,l1⟩:=Hl.out.c2;replace Hb:=au Hb ae;clear ae;refine hK _ _ (λ_=>⟨rB,sF,sG,l0,l1⟩) ?_;clear hK K;try simp only[UU]
              iterate 5 (refine pT rfl rfl ?_;try simp only[UU])
              refine aI rfl rfl (λK hK=>?_);go_simp;refine hK _ _ (by first|exact λh=>absurd h zd|exact λ_=>⟨rB,sF,sG,l0,l1⟩ |exact λ_=>⟨(by first|exact rB|exact aH zf rB|exact aH zf (aH zf rB) |exact aH zf (aH zf (aH zf rB))),(by first|exact sF|exact aH zf sF|exact aH zf (aH zf sF) |exact aH zf (aH zf (aH zf sF))),(by first|exact sG|exact aH zf sG|exact aH zf (aH zf sG) |exact aH zf (aH zf (aH zf sG))),(by first|exact l0|exact aH zf l0|exact aH zf (aH zf l0) |exact aH zf (aH zf (aH zf l0))),(by first|exact l1|exact aH zf l1|exact aH zf (aH zf l1) |exact aH zf (aH zf (aH zf l1)))⟩) ?_;clear hK K;try simp only[UU]
              simp only[aU];go_wp2;go_roundw;case rel=>have h9:=(Hf9.out w5 Hb.out).2 j gw Dv;rw[<-Jg.out]at h9;exact⟨j+1,by omega,by omega,by go_num,by rw[Jg.out]at h9;exact h9.congr (λa b _ _=>by rw[<-Jg.out];exact Re.out a b)⟩
              case measure=>simp[intOf];omega
           . obtain rfl:j=n:=by omega
             have HT:=ah hT;clear hT;go_wp2;go_roundw;case rel=>exact⟨i+1,by omega,by omega,by go_num,HT.out.congr (λa b _ hb=>ajf g k last i j a b hb)⟩
             case measure=>simp[intOf];omega
        . obtain rfl:i=n:=by omega
          have hT:=Bq.out.congr (λa b ha _=>ajc g k last i a b ha);obtain⟨gk,ck,lk,tk,ek,rk,_⟩:=hT.row k hlt;have e1:dH g k last k k=g k k:=by unfold dH;rw[if_neg zo]
          obtain⟨FX,FY⟩:=rk k hlt;rw[e1]at FX FY;obtain⟨x,hx⟩:=aB (g k k);have pD:=EX.out;have hg2:=QS.out;have Hn:Hid (∃Q,Q+1<=2^(k+1) * (K+1)/\x.natAbs<2^Q/\∀a b,a<i->b<i->(dH g k last a b).natAbs<2^Q):=⟨2*Q+1,by have:=HQ.out;omega,by rw[<-hx];exact hg2,Cc.out⟩;have JI:=QK.out;have Jx:=Qx.out;rw[hx]at FX FY pD JI Jx;obtain⟨Zp,Zn⟩:=aL JI Jx;have hLK:w1.heap.size<wk.heap.size:=by have:=ahW;omega
          obtain⟨tE,Hl⟩:=aL (hT.setLast x zo zo) hT.2.2.1;have Vg:=zZ i cap k (k:Int) (rfl:(some ⟨go,0,none⟩:Option Addr)=_) hlt rfl;have agj:=uf i ck k (k:Int) (rfl:(some ⟨gk,0,none⟩:Option Addr)=_) hlt rfl;rw[Nat.zero_add]at Vg agj;rw[Nat.mul_one]at Vg;have mX:=ah hT.2.2.2.1;have xb:Hid (aV wr go k [.slice (some ⟨gk,0,none⟩) i ck]):=λj hj=>by
           obtain rfl:j=0:=by simp at hj;omega
           exact ek
          have jB:Hid (aV wr gk (k*2) [.bool (ar x),.string (bs (nt x.natAbs))]):=λj hj=>by
           rcases j with _|_|j
           . exact FX
           . exact FY
           . simp at hj;omega
          have Hhx:=ah hx;clear hT rk ek FX FY e1 hg2 JI Jx eo hx Bq;go_wp2_with fail;have eo:=mX.out.c1;have wu:=xb.out.w1;obtain⟨uM,uN⟩:=jB.out.w2;obtain⟨l0,qE,l1,qF⟩:=Hl.out.g2;refine bJ (λw'=>w'.cell? ⟨wk.heap.size,0,none⟩=some (.int .i64 (k:Int))/\w'.cell? ⟨go,k,none⟩=some (.slice (some ⟨gk,0,none⟩) i ck)/\w'.cell? ⟨gk,k*2,none⟩=some (.bool (ar x))/\w'.cell? ⟨gk,k*2+1,none⟩=some (.string (bs (nt x.natAbs)))) (λi=>Nat.blt i 7) [(0,true),(1,true),(2,true),(3,true),(4,true),(5,true),(6,true),(7,false)] zk zk rfl zk zc ⟨eo,wu,uM,uN⟩ ?_;iterate 7 (refine pT rfl rfl ?_ (by intro w' ⟨q0,q1,q2,q3⟩;go_simp;try with_reducible rfl);try simp only[UU])
          refine aI rfl rfl (λK hK=>?_);go_simp;refine hK _ _ (by first|exact λh=>absurd h zd|exact λ_=>⟨eo,wu,uM,uN⟩ |exact λ_=>⟨(by first|exact eo|exact aH zf eo|exact aH zf (aH zf eo) |exact aH zf (aH zf (aH zf eo))),(by first|exact wu|exact aH zf wu|exact aH zf (aH zf wu) |exact aH zf (aH zf (aH zf wu))),(by first|exact uM|exact aH zf uM|exact aH zf (aH zf uM) |exact aH zf (aH zf (aH zf uM))),(by first|exact uN|exact aH zf uN|exact aH zf (aH zf uN) |exact aH zf (aH zf (aH zf uN)))⟩) ?_;clear hK K;try simp only[UU]
          simp only[aU];go_wp2;go_roundw;case rel=>exact⟨k+1,dH g k last,x,_,by omega,by go_num,rfl,Bs.next tE.out.drew (λ_ _ _ _=>rfl) pD Zp.out Zn.out Hn.out⟩
          case measure=>simp[intOf];omega
  . obtain rfl:k=n:=by omega
    obtain⟨q1,q2,q3,_,q5,_,Q,hQ,Dm,_⟩:=hS;have fQ:=mA.out k Q (Nat.le_refl _) hQ;have hll:(nt last.natAbs).length<=1099511627776:=jK Dm zo;rw[Nat.sub_self]at q5;unfold eO at q5;obtain⟨Hr,Hl,Hq,HZ,Hll⟩:=fg q2 q3 q1 q5 hll;clear q1 q2 q3 q5 hQ Dm hll fQ;have Hb:Hid (Bw wk wk):=Below.refl _ _;obtain⟨r0,ai,r1,aj⟩:=Hr.out.g2;obtain⟨l0,qE,l1,qF⟩:=Hl.out.g2;have zM:=Hq.out.2.2.1;cases t with
    | false=>
      have Hz:Hid (last=Z):=by have hz:=HZ.out;simp only[Bool.false_eq_true,if_false]at hz;exact hz
      go_wp2;refine bodyPost_ret (v:=.agg #[.bool (ar last),.string (bs (nt last.natAbs))]) (by simp[results,Tryz.results88,go_sem,r0,r1]) rfl ⟨by rw[Hz.out],?_⟩;exact(zM.setCell zp _).setCell zp _
    | true=>
      have Hz:Hid (-last=Z):=by have hz:=HZ.out;simp only[if_true]at hz;exact hz
      have hneg:∀W,Calls Tryz.prog 107 #[.agg #[.bool (ar last),.string (bs (nt last.natAbs))]] W λe w'=>e=.returned (cX (-last))/\Bw W w':=λW=>by have:=YY (ar last) (nt last.natAbs) W Hll.out;rw[fq]at this;exact this
      go_wp2_with fail;refine(hneg _).mono ?_;rintro e w4 ⟨rfl,ae⟩;clear r0 ai r1 aj l0 qE l1 qF;replace Hr:=kB Hr ae;replace Hl:=kB Hl ae;obtain⟨r0,ai,r1,aj⟩:=Hr.out.g2;obtain⟨l0,qE,l1,qF⟩:=Hl.out.g2;replace Hb:=au Hb ae;clear ae hneg;go_wp2;refine bodyPost_ret (v:=.agg #[.bool (ar (-last)),.string (bs (nt (-last).natAbs))]) (by simp[results,Tryz.results88,go_sem,r0,r1]) rfl ⟨by rw[Hz.out],?_⟩;exact((zM.trans (Hb.out.mono (by have:=Hq.out.2.2.2;omega))).setCell zp _).setCell zp _
theorem acV (n l k:Nat)(f:Nat->Nat->Int)(last:Int)(t:Bool)(Q:Nat)(hk:k+l=n)(hl:last.natAbs<2^Q)(hf:∀a b,a<n->b<n->(f a b).natAbs<2^Q)(hex:gH n l k f last):(eO n l k f last t).natAbs<2^(2^l* (Q+1)):=by
 induction l generalizing k f last t Q with
 | zero=>
   unfold eO;have h1:2^Q<=2^(2^0* (Q+1)):=Nat.pow_le_pow_right zd zm;split
   . rw[Int.natAbs_neg];omega
   . omega
 | succ l ih=>
   unfold eO;unfold gH at hex;cases hp:oJ f n k with
   |none=>exact Nat.pow_pos zd
   | some m=>
     rw[hp]at hex;simp only at hex⊢;have Dy:=kY hp;obtain⟨g,hg⟩:∃g,g=bZ f k (k+m):=⟨_,rfl⟩;rw[<-hg]at hex⊢;have hkn:k<n:=by omega
     have iP:∀a b,a<n->b<n->(g a b).natAbs<2^Q:=by
      intro a b ha hb;rw[hg];unfold bZ;refine hf _ _ ?_ hb;split
      . omega
      . split
        . omega
        . exact ha
     have CQ:2^Q<=2^(2*Q+1):=Nat.pow_le_pow_right zd zo;have e:2^(l+1) * (Q+1)=2^l* (2*Q+1+1):=by rw[Nat.pow_succ,Nat.mul_assoc];congr 1
     rw[e];refine ih (k+1) _ _ _ (2*Q+1) zo (Nat.lt_of_lt_of_le (iP k k hkn hkn) CQ) (λa b ha hb=>?_) hex.2;unfold dH;split
     . rename_i h4
       have h5:=(Oi g k a b Q (iP a b ha hb) (iP k k hkn hkn) (iP a k ha hkn) (iP k b hkn hb)).2.2;rcases div_lt _ last _ h5 with h6|h6
       . exact h6
       . exact absurd (hex.1 a b h4.1 ha h4.2 hb) h6
     . exact Nat.lt_of_lt_of_le (iP a b ha hb) CQ
def bG (D:List (List Dyadic))(i j:Nat):Dyadic:=(D.getD i []).getD j 0
theorem ald (D:List (List Dyadic))(n:Nat)(g:Dyadic->Int)(hl:D.length=n)(hr:∀r∈D,r.length=n):(D.map λr=>r.map g)=eN (λi j=>g (bG D i j)) n:=by
 apply List.ext_getElem
 . simp[eN,hl]
 . intro i h1 h2;have hi:i<D.length:=by simpa using h1
   have hri:=hr _ (List.getElem_mem hi);apply List.ext_getElem
   . simp[eN,hri]
   . intro j h3 h4;have hj:j<D[i].length:=by simpa using h3
     simp[eN,bG,List.getD_eq_getElem?_getD,hi,hj]
theorem Td {D:List (List Dyadic)}{n i j:Nat}(hl:D.length=n)(hr:∀r∈D,r.length=n)(hi:i<n)(hj:j<n):∃r∈D,bG D i j∈r:=by
 have h1:i<D.length:=by omega
 have h2:j<D[i].length:=by rw[hr _ (List.getElem_mem h1)];exact hj
 refine⟨D[i],List.getElem_mem h1,?_⟩;have:bG D i j=D[i][j]:=by simp[bG,List.getD_eq_getElem?_getD,h1,h2]
 rw[this];exact List.getElem_mem h2
theorem Lq (a:Option Addr)(cap n:Nat)(rows:List (List Raw))(B:Nat)(D:List (List Dyadic))(X:Dyadic)(w:World)(hn:1<=n)(cF:n<=4)(hL:rows.length=n)(hrow:∀r∈rows,r.length=n)(ha:aR w a rows)
 (hfit:∀r∈rows,∀c∈r,Fit B c) (bV:1<=B) (hB:B<=1000000) (hT:aF w) (hD:(rows.map λr=>r.map az)=D) (hX:cu n (bG D)=X):
 Calls Tryz.prog 45 #[.slice a n cap] w λe w'=>e=.returned (.tuple #[bC X,.int .i64 0])/\Bw w w':=by
 obtain⟨low,jH⟩:=aB (lR 0 D);have hDl:D.length=n:=by rw[<-hD];simp[hL]
 have Gi:∀r∈D,r.length=n:=by intro r hr;rw[<-hD]at hr;obtain⟨x,hx,rfl⟩:=List.mem_map.1 hr;simpa using hrow x hx
 have fG:∀r∈D,∀d∈r,Sm B d:=by intro r hr d hd;rw[<-hD]at hr;obtain⟨x,hx,rfl⟩:=List.mem_map.1 hr;obtain⟨y,hy,rfl⟩:=List.mem_map.1 hd;exact(hfit x hx y hy).2
 have hlo:=NM 0 D;rw[jH]at hlo;have hlb: -(B:Int)<=low:=by rw[<-jH];exact NL 0 D _ zo (λr hr d hd=>(fG r hr d hd).parts.2.1)
 obtain⟨f,hf⟩:∃f:Nat->Nat->Int,f=λi j=>pV low (bG D i j):=⟨_,rfl⟩;have pH:(D.map λr=>r.map (pV low))=eN f n:=by rw[hf];exact ald D n (pV low) hDl Gi
 have hK:∀a b,a<n->b<n->(f a b).natAbs<2^(4*B):=by
  intro i j hi hj;obtain⟨r,hr,hm⟩:=Td hDl Gi hi hj;obtain⟨s1,s2,s3⟩:=(fG r hr _ hm).parts;rw[hf];show(pV low (bG D i j)).natAbs<_
  unfold pV;rw[Int.natAbs_mul,Int.natAbs_pow,show 4*B=2*B+2*B by omega,Nat.pow_add];exact Nat.lt_of_lt_of_le (Nat.mul_lt_mul_of_pos_right s1 (Nat.pow_pos zd)) (Nat.mul_le_mul_left _ (Nat.pow_le_pow_right zd zo))
 have hent:∀i j,i<n->j<n->bG D i j=Dyadic.ofIntWithPrec (f i j) (-low):=by intro i j hi hj;obtain⟨r,hr,hm⟩:=Td hDl Gi hi hj;rw[hf];exact(akD low _ (hlo.2 r hr _ hm)).symm
 have jz:=aeu n hn cF f (bG D) (-low) hent;have hex:=Tf n hn cF f;have hzl:=acV n n 0 f 1 false (4*B) zo (Nat.one_lt_two_pow zo) hK hex;obtain⟨z,hz⟩:=aB (eO n n 0 f 1 false);rw[hz]at hzl jz;have Wv:(nt z.natAbs).length<=34359738368:=by refine jK hzl ?_;have:2^n<=2^4:=Nat.pow_le_pow_right zd cF;have:=Nat.mul_le_mul_right (4*B+1) this;omega
 obtain⟨e,he⟩:∃e:Int,low*n=e:=⟨_,rfl⟩;have heb: -4000000<=e/\e<=4000000:=by
  have hl0:=hlo.1;have hc:n=1\/n=2\/n=3\/n=4:=by omega
  rcases hc with rfl|rfl|rfl|rfl<;>omega
 have mG:az (ar z,nt z.natAbs,e)=X:=by
  rw[<-hX,jz];show Dyadic.ofIntWithPrec (iv (ar z) (nt z.natAbs)) (-e)=_
  rw[fq,<-he];congr 1;rw[Int.mul_comm,Int.mul_neg]
 obtain⟨nl,hnl⟩:=aB (-low);have hw1:IntKind.i64.wrap (-nl)=low:=by rw[IntKind.wrap_i64];have:=hlo.1;omega
 have hw2:IntKind.i64.wrap (low* (n:Int))=e:=by rw[he,IntKind.wrap_i64];omega
 have hm0:uh rows=0:=by
  unfold uh;rw[if_neg];rintro(h|h)
  . omega
  . rw[List.any_eq_true]at h;obtain⟨r,hr,h⟩:=h;have:=hrow r hr;simp at h;omega
 have hch:=λW=>λ(h:aR W a rows)=>NT a n cap rows W hL zo h;rw[hm0]at hch;have hsc:=λW=>λ(h:aR W a rows) (hT:aF W)=>Yq a n cap n rows B low W hL zo zo hrow h hfit zo hT (by rw[hD];exact jH);rw[hD,pH,hnl]at hsc;have hbr:=λv W base=>λ(h:jf W base n (eN f n) n v) (h2:base<=W.heap.size)=>acY base n (4*B) f v W hn cF h h2 zo hK zo;rw[hz]at hbr;have hmk:=λW=>λ(hT:aF W)=>vN (ar z) (nt z.natAbs) e X mG W Wv zo hT;obtain⟨JA,iJ,lh,tC,Ha,HT⟩:=gN hch hsc hbr hmk ha hT;clear hch hsc hbr hmk ha hT hm0 mG heb he Wv hz hzl hex jz hent hK pH hf hlb hlo fG Gi hDl jH hD hX hfit hrow hL hnl;have Hb:Hid (Bw w w):=Below.refl _ _;go_enter Tryz.func45,Tryz.ntmps45;go_wp2_with fail;obtain⟨R,hR⟩:∃R:World->Prop,(λW=>ak W (w.heap.size) 30 [.bool false,.string ⟨#[]⟩,.int .i64 0]/\Bw w W)=R:=⟨_,rfl⟩;first|refine bO R ?hR ?_|refine bK R ?hR ?_
 case hR=>subst hR;exact⟨(ak.newAt w _ _ (b:=w.heap.size) rfl),zl⟩
 subst hR;rintro W ⟨qr,ae⟩;have Hr:=ah qr;clear qr;obtain⟨r0,ai,r1,aj,r2,aC⟩:=Hr.out.g3;replace Hb:=au Hb ae;clear ae;have HA:Hid (aR W a rows):=Ha.out.below Hb.out;have HU:Hid (aF W):=HT.out.below Hb.out;go_wp2_with fail;refine(JA.out _ HA.out).mono ?_;rintro e w1 ⟨rfl,ae⟩;clear r0 ai r1 aj r2 aC;replace Hr:=kB Hr ae;replace HA:=kL HA ae;replace HU:=kT HU ae;obtain⟨r0,ai,r1,aj,r2,aC⟩:=Hr.out.g3;replace Hb:=au Hb ae;clear ae;go_wp2_with fail;refine(iJ.out _ HA.out HU.out).mono ?_;rintro e' w2 ⟨v,rfl,hO,hb2⟩;have HO:=ah hO;have wj:=hb2.size;clear hO;go_wp2_with fail;refine(lh.out v w2 w1.heap.size HO.out wj).mono ?_;rintro e' w3 ⟨rfl,hb3⟩;have hb4:=hb2.trans hb3;clear hb2 hb3 HO r0 ai r1 aj r2 aC;replace Hr:=kB Hr hb4;replace HA:=kL HA hb4;replace HU:=kT HU hb4;obtain⟨r0,ai,r1,aj,r2,aC⟩:=Hr.out.g3;replace Hb:=ah (aJ Hb.out hb4);clear hb4;go_wp2_with fail;refine(tC.out _ HU.out).mono ?_;rintro e w4 ⟨rfl,ae⟩;clear r0 ai r1 aj r2 aC;replace Hr:=kB Hr ae;replace HA:=kL HA ae;replace HU:=kT HU ae;obtain⟨r0,ai,r1,aj,r2,aC⟩:=Hr.out.g3;replace Hb:=au Hb ae;clear ae;go_wp2;clear r0 ai r1 aj r2 aC;refine fF (bz w4 (w.heap.size) 0 [.bool (ar (dN X)),.string (bs (nt (dN X).natAbs)),.int .i64 (dE X)]) bF ?_;intro w9 hs;replace Hr:=bX Hr hs;obtain⟨r0,ai,r1,aj,r2,aC⟩:=Hr.out.g3;replace Hb:=bS Hb hs ZS;clear hs;refine bodyPost_ret (v:=.tuple #[bC X,.int .i64 0]) (by simp[results,Tryz.results45,go_sem,r0,r1,r2]) rfl ⟨rfl,Hb.out⟩
def dR (rows:List (List Raw)):Nat->Nat->Dyadic:=λa b=>bG (rows.map λr=>r.map az) a b
theorem aex (o p:List Raw)(k:Nat)(h:k<p.length)(h':k<o.length):(iz o p).getD k 0=az p[k]-az o[k]:=by unfold iz;rw[List.getD_eq_getElem?_getD,List.getElem?_zipWith];simp[h,h']
theorem sN (rows:List (List Raw))(a b:Nat)(ha:a<rows.length)(hb:b<rows[a].length):dR rows a b=az rows[a][b]:=by simp[dR,bG,List.getD_eq_getElem?_getD,ha,hb]
theorem Pm (n:Nat)(rows:List (List Raw))(hL:rows.length=n+1)(hrow:∀r∈rows,r.length=n)(i j:Nat)(hi:i<n)(hj:j<n):
 bG ((rows.drop 1).map λp=>iz (rows.getD 0 []) p) i j=dR rows (i+1) j-dR rows 0 j:=by
 have h0:0<rows.length:=by omega
 have h1:i+1<rows.length:=by omega
 have l0:=hrow _ (List.getElem_mem h0);have l1:=hrow _ (List.getElem_mem h1);rw[sN rows (i+1) j h1 zo,sN rows 0 j h0 zo];have e0:rows.getD 0 []=rows[0]:=by simp[h0]
 have e1:((rows.drop 1).map λp=>iz (rows.getD 0 []) p).getD i []=iz rows[0] rows[i+1]:=by rw[e0,List.getD_eq_getElem?_getD,List.getElem?_map,List.getElem?_drop];rw[show 1+i=i+1 by omega,List.getElem?_eq_getElem h1];rfl
 unfold bG;rw[e1,aex _ _ _ zo zo]
theorem Cy (n:Nat)(cF:n<=4){e f:Nat->Nat->Dyadic}(h:∀i j,i<n->j<n->e i j=f i j):cu n e=cu n f:=by
 have hc:n=0\/n=1\/n=2\/n=3\/n=4:=by omega
 rcases hc with rfl|rfl|rfl|rfl|rfl
 . rfl
 . exact h 0 0 zo zo
 . unfold cu;simp only;rw[h 0 0 zo zo,h 0 1 zo zo,h 1 0 zo zo,h 1 1 zo zo]
 . unfold cu;simp only;rw[h 0 0 zo zo,h 0 1 zo zo,h 0 2 zo zo,h 1 0 zo zo,h 1 1 zo zo,h 1 2 zo zo,h 2 0 zo zo,h 2 1 zo zo,h 2 2 zo zo]
 . unfold cu;simp only;rw[h 0 0 zo zo,h 0 1 zo zo,h 0 2 zo zo,h 0 3 zo zo,h 1 0 zo zo,h 1 1 zo zo,h 1 2 zo zo,h 1 3 zo zo,h 2 0 zo zo,h 2 1 zo zo,h 2 2 zo zo,h 2 3 zo zo,h 3 0 zo zo,h 3 1 zo zo,h 3 2 zo zo,h 3 3 zo zo]
theorem Lp {B n:Nat}{e:Nat->Nat->Dyadic}(hn:1<=n)(cF:n<=4)(h:∀i j,i<n->j<n->Sm B (e i j)):Sm (4*B+6) (cu n e):=by
 have m2:∀a b c d:Dyadic,Sm B a->Sm B b->Sm B c->Sm B d->Sm (2*B+1) (a*b-c*d):=λa b c d ha hb hc hd=>(Sm.sub (Sm.mul ha hb) (Sm.mul hc hd)).mono zo;have m3:∀x y:Dyadic,Sm B x->Sm (2*B+1) y->Sm (3*B+1) (x*y):=λx y hx hy=>(Sm.mul hx hy).mono zo;have m4:∀x y z:Dyadic,Sm (3*B+1) x->Sm (3*B+1) y->Sm (3*B+1) z->Sm (3*B+3) (x-y+z):=λx y z hx hy hz=>(Sm.add (Sm.sub hx hy) (hz.mono zo)).mono zo;have m5:∀x y:Dyadic,Sm B x->Sm (3*B+3) y->Sm (4*B+3) (x*y):=λx y hx hy=>(Sm.mul hx hy).mono zo;have hc:n=1\/n=2\/n=3\/n=4:=by omega
 rcases hc with rfl|rfl|rfl|rfl
 . exact(h 0 0 zo zo).mono zo
 . exact(Sm.sub (Sm.mul (h 0 0 zo zo) (h 1 1 zo zo)) (Sm.mul (h 0 1 zo zo) (h 1 0 zo zo))).mono zo
 . unfold cu;refine(m4 _ _ _ (m3 _ _ ?_ (m2 _ _ _ _ ?_ ?_ ?_ ?_)) (m3 _ _ ?_ (m2 _ _ _ _ ?_ ?_ ?_ ?_)) (m3 _ _ ?_ (m2 _ _ _ _ ?_ ?_ ?_ ?_))).mono zo<;>exact h _ _ zo zo
 . unfold cu;have m6:∀x y z u:Dyadic,Sm (4*B+3) x->Sm (4*B+3) y->Sm (4*B+3) z->Sm (4*B+3) u->Sm (4*B+6) (x-y+z-u):=λx y z u hx hy hz hu=>(Sm.sub (Sm.add (Sm.sub hx hy) (hz.mono zo)) (hu.mono zo)).mono zo;refine m6 _ _ _ _ (m5 _ _ ?_ (m4 _ _ _ (m3 _ _ ?_ (m2 _ _ _ _ ?_ ?_ ?_ ?_)) (m3 _ _ ?_ (m2 _ _ _ _ ?_ ?_ ?_ ?_)) (m3 _ _ ?_ (m2 _ _ _ _ ?_ ?_ ?_ ?_)))) (m5 _ _ ?_ (m4 _ _ _ (m3 _ _ ?_ (m2 _ _ _ _ ?_ ?_ ?_ ?_)) (m3 _ _ ?_ (m2 _ _ _ _ ?_ ?_ ?_ ?_)) (m3 _ _ ?_ (m2 _ _ _ _ ?_ ?_ ?_ ?_)))) (m5 _ _ ?_ (m4 _ _ _ (m3 _ _ ?_ (m2 _ _ _ _ ?_ ?_ ?_ ?_)) (m3 _ _ ?_ (m2 _ _ _ _ ?_ ?_ ?_ ?_)) (m3 _ _ ?_ (m2 _ _ _ _ ?_ ?_ ?_ ?_)))) (m5 _ _ ?_ (m4 _ _ _ (m3 _ _ ?_ (m2 _ _ _ _ ?_ ?_ ?_ ?_)) (m3 _ _ ?_ (m2 _ _ _ _ ?_ ?_ ?_ ?_)) (m3 _ _ ?_ (m2 _ _ _ _ ?_ ?_ ?_ ?_))))<;>exact h _ _ zo zo
theorem Lv (X:Dyadic):cw X=0↔X=0:=by
 constructor
 . intro h;have h1:dN X=0:=by
    unfold cw eu at h;by_cases h1:dN X<0
    . rw[if_pos h1]at h;cases h
    . rw[if_neg h1]at h;by_cases h2:dN X=0
      . exact h2
      . rw[if_neg h2]at h;cases h
   have h2:=sK X;rw[h1,vX]at h2;exact h2
 . rintro rfl;rfl
noncomputable def jM (rows:List (List Raw)):Int:=if fB rows=0 then 1 else if fp (fB rows).toNat (dR rows)=0 then 5 else 0
theorem Pk (a:Option Addr)(cap n:Nat)(rows:List (List Raw))(B:Nat)(X:Dyadic)(w:World)(hn:1<=n)(cF:n<=4)(hL:rows.length=n+1)(hrow:∀r∈rows,r.length=n)(hcap:n+1<=cap)(ha:aR w a rows)
 (hfit:∀r∈rows,∀c∈r,Fit B c) (hB:B<=900000) (hT:aF w) (hX:fp n (dR rows)=X):
 Calls Tryz.prog 12 #[.slice a (n+1) cap] w λe w'=>e=.returned (.tuple #[bC X,.int .i64 0])/\Bw w w':=by
 obtain⟨b,o,rfl⟩:∃b o,a=some ⟨b,o,none⟩:=by
  obtain⟨vals,hvl,hat,_⟩:=ha;rcases hat with h|⟨b,o,h,_⟩
  . rw[h]at hvl;simp at hvl;omega
  . exact⟨b,o,h⟩
 have hv:=yx hL hrow hn zo;obtain⟨S,hS⟩:=aB ((rows.drop 1).map λp=>iz (rows.getD 0 []) p);have gu:S.length=n:=by rw[<-hS];simp[hL]
 have om:∀r∈S,r.length=n:=by
  intro r hr;rw[<-hS]at hr;obtain⟨p,hp,rfl⟩:=List.mem_map.1 hr;have h0:0<rows.length:=by omega
  have e0:rows.getD 0 []=rows[0]:=by simp[h0]
  rw[zw (by rw[e0,hrow _ (List.mem_of_mem_drop hp),hrow _ (List.getElem_mem h0)]),hrow _ (List.mem_of_mem_drop hp)]
 have jZ:∀r∈S,∀d∈r,Sm (B+1) d:=by
  intro r hr d hd;rw[<-hS]at hr;obtain⟨p,hp,rfl⟩:=List.mem_map.1 hr;unfold iz at hd;obtain⟨i,hi,rfl⟩:=List.mem_iff_getElem.1 hd;rw[List.getElem_zipWith];have h0:0<rows.length:=by omega
  have e0:rows.getD 0 []=rows[0]:=by simp[h0]
  refine Sm.sub (hfit p (List.mem_of_mem_drop hp) _ (List.getElem_mem _)).2 (hfit (rows.getD 0 []) ?_ _ (List.getElem_mem _)).2;rw[e0];exact List.getElem_mem h0
 have hent:cu n (bG S)=X:=by rw[<-hX,CB];refine Cy n cF (λi j hi hj=>?_);rw[<-hS];exact Pm n rows hL hrow i j hi hj
 have hvar:=λW=>λ(h:aR W (some ⟨b,o,none⟩) rows)=>AL (some ⟨b,o,none⟩) (n+1) cap rows W hL zo h;rw[hv]at hvar;have hrows:=λW=>λ(h:aR W (some ⟨b,o,none⟩) rows) (hT:aF W)=>Yj b o cap n n rows B W hL zo hcap hn hn zo hrow h hfit zo hT;rw[hS]at hrows;have mG:((S.map λr=>r.map canon).map λr=>r.map az)=S:=by
  rw[List.map_map];have:((λr:List Raw=>r.map az)∘λr:List Dyadic=>r.map canon)=id:=by
   funext r
   show(r.map canon).map az=r
   rw[List.map_map];have:(az∘canon)=id:=funext bU;rw[this];simp
  rw[this];simp
 have jz:=λW a' c'=>λ(h:aR W a' (S.map λr=>r.map canon)) (hT:aF W)=>Lq a' c' n (S.map λr=>r.map canon) (B+1) S X W hn cF (by simpa using gu) (by
  intro r hr;obtain⟨x,hx,rfl⟩:=List.mem_map.1 hr
  simpa using om x hx) h (by
  intro r hr c hc;obtain⟨x,hx,rfl⟩:=List.mem_map.1 hr;obtain⟨y,hy,rfl⟩:=List.mem_map.1 hc
  exact(jZ x hx y hy).fit zo) zo zo hT mG hent
 obtain⟨rH,abA,wK,Ha,HT⟩:=fg hvar hrows jz ha hT;clear hvar hrows jz ha hT mG hent jZ om gu hS hv hX hfit hrow hL;have hn0:¬(n:Int)=0:=by omega
 have Hb:Hid (Bw w w):=Below.refl _ _;go_enter Tryz.func12,Tryz.ntmps12;go_wp2_with fail;obtain⟨R,hR⟩:∃R:World->Prop,(λW=>ak W (w.heap.size) 30 [.bool false,.string ⟨#[]⟩,.int .i64 0]/\Bw w W)=R:=⟨_,rfl⟩;first|refine bO R ?hR ?_|refine bK R ?hR ?_
 case hR=>subst hR;exact⟨(ak.newAt w _ _ (b:=w.heap.size) rfl),zl⟩
 subst hR;rintro W ⟨qr,ae⟩;have Hr:=ah qr;clear qr;obtain⟨r0,ai,r1,aj,r2,aC⟩:=Hr.out.g3;replace Hb:=au Hb ae;clear ae;have HA:Hid (aR W (some ⟨b,o,none⟩) rows):=Ha.out.below Hb.out;have HU:Hid (aF W):=HT.out.below Hb.out;go_wp2_with fail;refine(rH.out _ HA.out).mono ?_;rintro e w1 ⟨rfl,ae⟩;clear r0 ai r1 aj r2 aC;replace Hr:=kB Hr ae;replace HA:=kL HA ae;replace HU:=kT HU ae;obtain⟨r0,ai,r1,aj,r2,aC⟩:=Hr.out.g3;replace Hb:=au Hb ae;clear ae;go_wp2_with fail;refine(abA.out _ HA.out HU.out).mono ?_;rintro e w2 ⟨a',c',rfl,hcc,iR,ae⟩;clear r0 ai r1 aj r2 aC;replace Hr:=kB Hr ae;replace HA:=kL HA ae;replace HU:=kT HU ae;obtain⟨r0,ai,r1,aj,r2,aC⟩:=Hr.out.g3;replace Hb:=au Hb ae;clear ae;have wB:=ah iR;clear iR;go_wp2_with fail;refine(wK.out _ a' c' wB.out HU.out).mono ?_;rintro e w3 ⟨rfl,ae⟩;clear r0 ai r1 aj r2 aC;replace Hr:=kB Hr ae;replace HA:=kL HA ae;replace HU:=kT HU ae;obtain⟨r0,ai,r1,aj,r2,aC⟩:=Hr.out.g3;replace Hb:=au Hb ae;clear ae;go_wp2;clear r0 ai r1 aj r2 aC;refine fF (bz w3 (w.heap.size) 0 [.bool (ar (dN X)),.string (bs (nt (dN X).natAbs)),.int .i64 (dE X)]) bF ?_;intro w9 hs;replace Hr:=bX Hr hs;obtain⟨r0,ai,r1,aj,r2,aC⟩:=Hr.out.g3;replace Hb:=bS Hb hs ZS;clear hs;refine bodyPost_ret (v:=.tuple #[bC X,.int .i64 0]) (by simp[results,Tryz.results12,go_sem,r0,r1,r2]) rfl ⟨rfl,Hb.out⟩
theorem Ew (a:Option Addr)(L cap:Nat)(rows:List (List Raw))(B:Nat)(w:World)(hL:rows.length=L)(hL5:L<=5)(hcap:L<=cap)(ha:aR w a rows)
 (hfit:∀r∈rows,∀c∈r,Fit B c) (hB:B<=900000) (hT:aF w):
 Calls Tryz.prog 15 #[.slice a L cap] w λe w'=>e=.returned (.int .i64 (jM rows))/\Bw w w':=by
 obtain⟨R,hR⟩:=aB (jM rows);rw[hR];unfold jM at hR;by_cases hv:fB rows=0
 . rw [if_pos hv]at hR;subst hR;have hvar:=fun W=>fun(h:aR W a rows)=>AL a L cap rows W hL zo h;rw[hv]at hvar;obtain⟨rH,Ha⟩:=aL hvar ha;have hsz:∀W,Bw w W->Calls Tryz.prog 12 #[.slice a L cap] W fun e w'=>e=.returned (.tuple #[.agg #[.bool false,.string ⟨#[]⟩,.int .i64 0],.int .i64 1])/\Bw W w':=by
    intro w0 hw0;have oQ:=ah (Ha.out.below hw0);clear ha hfit hL hT hv hvar Ha hw0 w;obtain⟨w,Nw⟩:∃w,w=w0:=⟨_,rfl⟩;subst Nw;have Hb:Hid (Bw w w):=Below.refl _ _;go_enter Tryz.func12,Tryz.ntmps12;go_wp2_with fail;obtain⟨R,hR⟩:∃R:World->Prop,(λW=>ak W (w.heap.size) 30 [.bool false,.string ⟨#[]⟩,.int .i64 0]/\Bw w W)=R:=⟨_,rfl⟩;first|refine bO R ?hR ?_|refine bK R ?hR ?_
    case hR=>subst hR;exact⟨(ak.newAt w _ _ (b:=w.heap.size) rfl),zl⟩
    subst hR;rintro W ⟨qr,ae⟩;have Hr:=ah qr;clear qr;obtain⟨r0,ai,r1,aj,r2,aC⟩:=Hr.out.g3;replace Hb:=au Hb ae;clear ae;go_wp2_with fail;refine(rH.out _ (oQ.out.below Hb.out)).mono ?_;rintro e w1 ⟨rfl,ae⟩;clear r0 ai r1 aj r2 aC;replace Hr:=kB Hr ae;obtain⟨r0,ai,r1,aj,r2,aC⟩:=Hr.out.g3;replace Hb:=au Hb ae;clear ae;go_wp2;clear r0 ai r1 aj r2 aC;refine fF (bz w1 (w.heap.size) 0 [.bool false,.string ⟨#[]⟩,.int .i64 0]) bF ?_;intro w9 hs;replace Hr:=bX Hr hs;obtain⟨r0,ai,r1,aj,r2,aC⟩:=Hr.out.g3;replace Hb:=bS Hb hs ZS;clear hs;refine bodyPost_ret (v:=.tuple #[.agg #[.bool false,.string ⟨#[]⟩,.int .i64 0],.int .i64 1]) (by simp[results,Tryz.results12,go_sem,r0,r1,r2]) rfl ⟨rfl,Hb.out⟩
   have mA:=ah hsz;clear hsz hvar ha hfit hL hT hv;have Hb:Hid (Bw w w):=Below.refl _ _;go_enter Tryz.func15,Tryz.ntmps15;go_wp2_with fail;refine(mA.out _ Hb.out).mono ?_;rintro e w1 ⟨rfl,ae⟩;replace Hb:=au Hb ae;clear ae;have hsz:=Hb.out.size;obtain⟨W2,pz,ae,Hd⟩:=cN w1 30 [.bool false,.string ⟨#[]⟩,.int .i64 0];obtain⟨d0,fu,d1,fw,d2,fx⟩:=Hd.out.g3;replace Hb:=au Hb ae;clear ae;go_wp2;refine bodyPost_ret (results_tmp rfl _ _ _) rfl ⟨rfl,?_⟩;exact((Hb.out.setCell zp _).setCell zp _).setCell zp _
 . obtain⟨n,hn⟩:∃n:Nat,fB rows=n:=⟨(fB rows).toNat,by have:=yz rfl hv;omega⟩;rw[if_neg hv,hn,Int.toNat_natCast]at hR;obtain⟨c1,c2,c3,c4⟩:=yz hn zo;obtain rfl:L=n+1:=by omega
   obtain⟨X,hX⟩:=aB (fp n (dR rows));rw[hX]at hR;have hsz:=λW=>λ(h:aR W a rows) (hT:aF W)=>Pk a cap n rows B X W zo zo zo (λr hr=>by have:=c4 r hr;omega) hcap h hfit hB hT hX;have hXm:Sm (4* (B+1)+6) X:=by
    rw[<-hX,CB];refine Lp zo zo (λi j hi hj=>?_);have h0:0<rows.length:=by omega
    have h1:i+1<rows.length:=by omega
    have l0:=c4 _ (List.getElem_mem h0);have l1:=c4 _ (List.getElem_mem h1);rw[sN rows (i+1) j h1 zo,sN rows 0 j h0 zo];exact Sm.sub (hfit _ (List.getElem_mem h1) _ (List.getElem_mem _)).2 (hfit _ (List.getElem_mem h0) _ (List.getElem_mem _)).2
   have fD:∀W,Calls Tryz.prog 37 #[.agg #[.bool (ar (dN X)),.string (bs (nt (dN X).natAbs)),.int .i64 (dE X)]] W λex w'=>ex=.returned (.int .i64 (cw X))/\Bw W w':=λW=>nZ _ _ _ (cw X) (by show cw (az (canon X))=_;rw[bU]) W (hXm.ok zo);obtain⟨g,hg⟩:=aB (cw X);have UZ:R=if g=0 then 5 else 0:=by
    rw[<-hR,<-hg];by_cases h:X=0
    . rw[if_pos h,if_pos ((Lv X).2 h)]
    . rw[if_neg h,if_neg (λh2=>h ((Lv X).1 h2))]
   rw[hg]at fD;obtain⟨mA,jU,Ha,HT,QU⟩:=fg hsz fD ha hT UZ;clear hsz fD ha hT UZ hg hX hR hfit c4 hL;have Hb:Hid (Bw w w):=Below.refl _ _;go_enter Tryz.func15,Tryz.ntmps15;go_wp2_with fail;refine(mA.out _ (Ha.out.below Hb.out) (HT.out.below Hb.out)).mono ?_;rintro e w1 ⟨rfl,ae⟩;replace Hb:=au Hb ae;clear ae;obtain⟨W2,pz,ae,Hd⟩:=cN w1 30 [.bool (ar (dN X)),.string (bs (nt (dN X).natAbs)),.int .i64 (dE X)];obtain⟨d0,d1,d2⟩:=Hd.out.c3;replace Hb:=au Hb ae;clear ae;go_wp2_with fail;refine(jU.out _).mono ?_;rintro e w3 ⟨rfl,ae⟩;clear d0 d1 d2;replace Hd:=kB Hd ae;obtain⟨d0,d1,d2⟩:=Hd.out.c3;replace Hb:=au Hb ae;clear ae;by_cases hg0:g=0
   . have hr:=QU.out;rw[if_pos hg0]at hr;subst hr hg0;go_wp2;refine bodyPost_ret (results_tmp rfl _ _ _) rfl ⟨rfl,Hb.out⟩
   . have hr:=QU.out;rw[if_neg hg0]at hr;subst hr;go_wp2;refine bodyPost_ret (results_tmp rfl _ _ _) rfl ⟨rfl,Hb.out⟩
end Go.Proofs.YtdaadlblknpipaaGreatDoor
namespace Go.Proofs.YtdaadlblknpipaaGreatDoor
def zz (p:Nat->Nat->Dyadic):Nat->Nat->Dyadic:=λa b=>p (a+1) b-p 0 b
def kH (n:Nat)(e:Nat->Nat->Dyadic)(k i:Nat):Dyadic:=if(k+i)%2=1 then-cu (n-1) (fZ e i k)else cu (n-1) (fZ e i k)
def jX (n:Nat)(p:Nat->Nat->Dyadic)(k i:Nat):Dyadic:=kH n (zz p) k i*mP (fp n p)
def wS (n:Nat)(p:Nat->Nat->Dyadic)(x:Nat->Dyadic)(i:Nat):Nat->Dyadic
 |0=>0
 |k+1=>wS n p x i k+(x k-p 0 k) *jX n p k i
theorem alN (n:Nat)(p:Nat->Nat->Dyadic)(x:Nat->Dyadic)(i k:Nat):wS n p x i k=mP (fp n p) *Ag n (zz p) (λk=>x k-p 0 k) i k:=by
 induction k with
 |zero=>simp[wS,Ag]
 |succ k ih=>unfold wS Ag;rw[ih];unfold jX kH;generalize (if(k+i)%2=1 then-cu (n-1) (fZ (zz p) i k)else cu (n-1) (fZ (zz p) i k))=z;grind
theorem PK (n:Nat)(hn:1<=n)(cF:n<=4)(p:Nat->Nat->Dyadic)(x:Nat->Dyadic)(i:Nat)(hi:i<n):wS n p x i n=pW n p x (i+1):=by rw[alN,ahn n hn cF _ _ i hi];unfold pW;rw[aeO];rfl
def wZ (n:Nat)(p:Nat->Nat->Dyadic)(x:Nat->Dyadic):Nat->Dyadic
 |0=>mP (fp n p) *fp n p
 |k+1=>wZ n p x k-pW n p x (k+1)
theorem alQ (n:Nat)(p:Nat->Nat->Dyadic)(x:Nat->Dyadic)(k:Nat):wZ n p x k=mP (fp n p) *fp n p-sP (λi=>pW n p x (i+1)) k:=by
 induction k with
 |zero=>simp[wZ,sP];grind
 |succ k ih=>unfold wZ sP;rw[ih];grind
theorem Za (n:Nat)(hn:1<=n)(cF:n<=4)(p:Nat->Nat->Dyadic)(x:Nat->Dyadic):wZ n p x n=pW n p x 0:=by rw[alQ];unfold pW;rw[ak0,al7 n hn cF p x];grind
theorem akH (X:Dyadic):mP X*X=if X<0 then-X else X:=by
 rw[Yt];split
 . grind
 . split<;>grind
theorem zu {B n:Nat}{e:Nat->Nat->Dyadic}(cF:n<=4)(h:∀i j,i<n->j<n->Sm B (e i j)):Sm (4*B+6) (cu n e):=by
 by_cases h0:n=0
 . subst h0;exact Sm.one.mono zo
 . exact Lp zo cF h
theorem Pg (X:Dyadic):Sm 1 (mP X):=by
 rw[Yt];split
 . exact Sm.neg Sm.one
 . split
   . exact Sm.zero _
   . exact Sm.one
theorem CC {B n:Nat}{p:Nat->Nat->Dyadic}(h:∀a b,a<=n->b<n->Sm B (p a b))(a b:Nat)(ha:a<n)(hb:b<n):Sm (B+1) (zz p a b):=Sm.sub (h (a+1) b zo hb) (h 0 b zo hb)
theorem RZ {B n:Nat}{e:Nat->Nat->Dyadic}(hn:1<=n)(cF:n<=4)(h:∀i j,i<n->j<n->Sm B (e i j))(k i:Nat):Sm (4*B+6) (kH n e k i):=by
 have h2:Sm (4*B+6) (cu (n-1) (fZ e i k)):=zu zo (λa b ha hb=>h _ _ (by split<;>omega) (by split<;>omega));unfold kH;split
 . exact h2.neg
 . exact h2
theorem Cq {B n:Nat}{p:Nat->Nat->Dyadic}(hn:1<=n)(cF:n<=4)(h:∀a b,a<=n->b<n->Sm B (p a b))(k i:Nat):Sm (4*B+11) (jX n p k i):=
 (Sm.mul (RZ (B:=B+1) hn cF (λa b ha hb=>CC h a b ha hb) k i) (Pg _)).mono zo
theorem Yw {B n:Nat}{p:Nat->Nat->Dyadic}(cF:n<=4)(h:∀a b,a<=n->b<n->Sm B (p a b)):Sm (4*B+11) (mP (fp n p) *fp n p):=by rw[CB];exact(Sm.mul (Pg _) (zu (B:=B+1) cF (λa b ha hb=>CC h a b ha hb))).mono zo
theorem IX {B n:Nat}{p:Nat->Nat->Dyadic}{x:Nat->Dyadic}(hn:1<=n)(cF:n<=4)(h:∀a b,a<=n->b<n->Sm B (p a b))(hx:∀b,b<n->Sm B (x b))(i k:Nat)(hk:k<=n):Sm (5*B+12+k) (wS n p x i k):=by
 induction k with
 |zero=>exact Sm.zero _
 |succ k ih=>have h1:=ih zo;have h2:Sm (5*B+12) ((x k-p 0 k) *jX n p k i):=(Sm.mul (Sm.sub (hx k zo) (h 0 k zo zo)) (Cq hn cF h k i)).mono zo;exact(h1.add (h2.mono zo)).mono zo
theorem Ze {B n:Nat}{p:Nat->Nat->Dyadic}{x:Nat->Dyadic}(hn:1<=n)(cF:n<=4)(h:∀a b,a<=n->b<n->Sm B (p a b))(hx:∀b,b<n->Sm B (x b))(i:Nat)(hi:i<n):Sm (5*B+16) (pW n p x (i+1)):=by rw[<-PK n hn cF p x i hi];exact(IX hn cF h hx i n (Nat.le_refl _)).mono zo
theorem PN {B n:Nat}{p:Nat->Nat->Dyadic}{x:Nat->Dyadic}(hn:1<=n)(cF:n<=4)(h:∀a b,a<=n->b<n->Sm B (p a b))(hx:∀b,b<n->Sm B (x b))(k:Nat)(hk:k<=n):Sm (5*B+16+k) (wZ n p x k):=by
 induction k with
 |zero=>exact(Yw cF h).mono zo
 |succ k ih=>exact(Sm.sub (ih zo) ((Ze hn cF h hx k zo).mono zo)).mono zo
def wC (n:Nat)(p:Nat->Nat->Dyadic)(i:Nat):Dyadic:=wS n p (λ_=>0) i n
def lZ (n:Nat)(p:Nat->Nat->Dyadic)(b:Nat):Nat->Dyadic
 |0=>0
 |k+1=>lZ n p b k-jX n p b k
def iq (R:List (List Dyadic))(r c:Nat):List (List Dyadic):=(R.eraseIdx r).map λx=>x.eraseIdx c
theorem Ea (R:List (List Dyadic))(r c m:Nat)(hL:R.length=m+1)(hr:r<=m):(iq R r c).length=m:=by unfold iq;rw[List.length_map,List.length_eraseIdx_of_lt zo];omega
theorem NY (R:List (List Dyadic))(r c m:Nat)(hrow:∀x∈R,x.length=m+1)(hc:c<=m):∀x∈iq R r c,x.length=m:=by intro x hx;unfold iq at hx;obtain⟨y,hy,rfl⟩:=List.mem_map.1 hx;have:=hrow y (List.mem_of_mem_eraseIdx hy);rw[List.length_eraseIdx_of_lt zo];omega
theorem NW (R:List (List Dyadic))(r c m:Nat)(hL:R.length=m+1)(hr:r<=m)(j:Nat)(hj:j<m):(iq R r c).getD j []=(R.getD (if j<r then j else j+1) []).eraseIdx c:=by
 unfold iq;have h1:j<(R.eraseIdx r).length:=by rw[List.length_eraseIdx_of_lt zo];omega
 rw[List.getD_eq_getElem?_getD,List.getElem?_map,List.getElem?_eq_getElem h1,Option.map_some,Option.getD_some,List.getElem_eraseIdx];split
 . rename_i h;rw[List.getD_eq_getElem?_getD,List.getElem?_eq_getElem zo];rfl
 . rename_i h;rw[List.getD_eq_getElem?_getD,List.getElem?_eq_getElem zo];rfl
theorem afq (l:List Dyadic)(c j:Nat)(h:j+1<l.length)(hc:c<l.length):(l.eraseIdx c).getD j 0=l.getD (if j<c then j else j+1) 0:=by
 have h1:j<(l.eraseIdx c).length:=by rw[List.length_eraseIdx_of_lt hc];omega
 rw[List.getD_eq_getElem?_getD,List.getElem?_eq_getElem h1,Option.getD_some,List.getElem_eraseIdx];split
 . rw[List.getD_eq_getElem?_getD,List.getElem?_eq_getElem zo];rfl
 . rw[List.getD_eq_getElem?_getD,List.getElem?_eq_getElem zo];rfl
theorem aie (R:List (List Dyadic))(r c m:Nat)(hL:R.length=m+1)(hrow:∀x∈R,x.length=m+1)(hr:r<=m)(hc:c<=m)(i j:Nat)(hi:i<m)(hj:j<m):bG (iq R r c) i j=fZ (bG R) r c i j:=by
 show((iq R r c).getD i []).getD j 0=(R.getD (if i<r then i else i+1) []).getD (if j<c then j else j+1) 0
 rw[NW R r c m hL hr i hi];have hk:(if i<r then i else i+1)<R.length:=by split<;>omega
 have e:R.getD (if i<r then i else i+1) []=R[if i<r then i else i+1]'hk:=by rw[List.getD_eq_getElem?_getD,List.getElem?_eq_getElem hk];rfl
 have hl:=hrow _ (List.getElem_mem hk);rw[e];exact afq _ c j (by rw[hl];omega) (by rw[hl];omega)
def qu (n:Nat)(e:Nat->Nat->Dyadic):List (List Dyadic):=(List.range n).map λa=>(List.range n).map λb=>kH n e a b
theorem Sa (n:Nat)(e:Nat->Nat->Dyadic)(a:Nat)(ha:a<n):(qu n e).getD a []=(List.range n).map λb=>kH n e a b:=by unfold qu;simp[List.getD_eq_getElem?_getD,ha]
theorem acg (n:Nat)(e:Nat->Nat->Dyadic)(a b:Nat)(ha:a<n)(hb:b<n):bG (qu n e) a b=kH n e a b:=by unfold bG;rw[Sa n e a ha];simp[List.getD_eq_getElem?_getD,hb]
theorem ach (n:Nat)(e:Nat->Nat->Dyadic):(qu n e).length=n:=by simp[qu]
theorem aci (n:Nat)(e:Nat->Nat->Dyadic):∀r∈qu n e,r.length=n:=by intro r hr;unfold qu at hr;obtain⟨x,_,rfl⟩:=List.mem_map.1 hr;simp
theorem Xl (R:List (List Dyadic))(r c m:Nat)(hL:R.length=m+1)(hrow:∀x∈R,x.length=m+1)(hr:r<=m)(hc:c<=m)(hm:m<=4):cu m (bG (iq R r c))=cu m (fZ (bG R) r c):=
 Cy m hm (λi j hi hj=>aie R r c m hL hrow hr hc i j hi hj)
theorem Xm {B:Nat}{R:List (List Dyadic)}(h:∀x∈R,∀d∈x,Sm B d)(r c:Nat):∀x∈iq R r c,∀d∈x,Sm B d:=by intro x hx d hd;unfold iq at hx;obtain⟨y,hy,rfl⟩:=List.mem_map.1 hx;exact h y (List.mem_of_mem_eraseIdx hy) d (List.mem_of_mem_eraseIdx hd)
end Go.Proofs.YtdaadlblknpipaaGreatDoor
namespace Go.Proofs.YtdaadlblknpipaaGreatDoor
open Go.RowKit
def rT (rows:List (List Raw))(i j v:Nat):List (List Raw):=(rows.set v (fY (rows.getD i []) (rows.getD j []))).map gX
theorem afd (r:List Raw):(gX r).map az=r.map az:=by unfold gX;rw[List.map_map];refine List.map_congr_left (λx _=>?_);exact bU _
theorem afU (V i j v B:Nat)(rows:List (List Raw))(hL:rows.length=V+1)(hrow:∀r∈rows,r.length=V)(hij:i<j)(hj:j<=V)(hfit:∀r∈rows,∀c∈r,Fit B c)(hB:B<=10000000):
 (rT rows i j v).length=V+1/\(∀r∈rT rows i j v,r.length=V)/\(∀r∈rT rows i j v,∀c∈r,Fit (B+3) c)/\
  ((rT rows i j v).map λr=>r.map az)=(rows.map λr=>r.map az).set v (midD (rows.getD i []) (rows.getD j []))/\
  ∀k,k<V->(midD (rows.getD i []) (rows.getD j [])).getD k 0=(((rows.map λr=>r.map az).getD i []).getD k 0+((rows.map λr=>r.map az).getD j []).getD k 0) *hp 1:=by
 have hi1:i<rows.length:=by omega
 have jG:j<rows.length:=by omega
 have ei:rows.getD i []=rows[i]:=by simp[List.getD_eq_getElem?_getD,hi1]
 have ej:rows.getD j []=rows[j]:=by simp[List.getD_eq_getElem?_getD,jG]
 have li:=hrow _ (List.getElem_mem hi1);have lj:=hrow _ (List.getElem_mem jG);rw[show rT rows i j v=(rows.set v (fY rows[i] rows[j])).map gX by unfold rT;rw[ei,ej],ei,ej];have rY:(fY rows[i] rows[j]).length=V:=by rw[Iy zo,li]
 refine⟨by simp[hL],λr hr=>?_,λr hr c hc=>?_,?_,λk hk=>?_⟩
 . obtain⟨x,hx,rfl⟩:=List.mem_map.1 hr;rw[Ga];rcases List.mem_or_eq_of_mem_set hx with h|h
   . exact hrow x h
   . rw[h];exact rY
 . obtain ⟨x,hx,rfl⟩:=List.mem_map.1 hr;unfold gX at hc;obtain⟨y,hy,rfl⟩:=List.mem_map.1 hc;have hys:Sm (B+3) (az y):=by
    rcases List.mem_or_eq_of_mem_set hx with h|h
    . exact(hfit x h y hy).2.mono zo
    . rw[h]at hy;exact(NV (hfit _ (List.getElem_mem hi1)) (hfit _ (List.getElem_mem jG)) hB y hy).2
   exact hys.fit zo
 . rw[List.map_map];have e:((λr:List Raw=>r.map az)∘gX)=λr=>r.map az:=funext afd;rw[e,List.map_set];congr 1;unfold fY;rw[List.map_map];have:(az∘canon)=id:=funext bU;rw[this];simp
 . have h1:((rows.map λr=>r.map az).getD i []).getD k 0=az (rows[i][k]'zo):=by simp[List.getD_eq_getElem?_getD,hi1,show k<rows[i].length by omega]
   have h2:((rows.map λr=>r.map az).getD j []).getD k 0=az (rows[j][k]'zo):=by simp[List.getD_eq_getElem?_getD,jG,show k<rows[j].length by omega]
   rw[h1,h2];unfold midD;rw[List.getD_eq_getElem?_getD,List.getElem?_zipWith,List.getElem?_eq_getElem zo,List.getElem?_eq_getElem zo];rfl
def ow (n:Nat)(second:Bool)(rows:List (List Raw)):List (List Raw):=
 rT rows (gP (eX rows n) (n+1)).1 (gP (eX rows n) (n+1)).2.1 (if second then(gP (eX rows n) (n+1)).1 else(gP (eX rows n) (n+1)).2.1)
def Rw (n B:Nat)(rows:List (List Raw)):Prop:=rows.length=n+1/\(∀r∈rows,r.length=n)/\∀r∈rows,∀c∈r,Fit B c
theorem Uo {n B:Nat}{rows:List (List Raw)}(h:Rw n B rows)(hn:1<=n)(hB:B<=10000000)(s:Bool):Rw n (B+3) (ow n s rows):=by obtain⟨h1,h2,h3⟩:=h;have hF:=Ii (eX rows n) (n+1) zo;obtain⟨q1,q2,q3,_,_⟩:=afU n (gP (eX rows n) (n+1)).1 (gP (eX rows n) (n+1)).2.1 (if s then(gP (eX rows n) (n+1)).1 else(gP (eX rows n) (n+1)).2.1) B rows h1 h2 hF.1 zo h3 hB;exact⟨q1,q2,q3⟩
end Go.Proofs.YtdaadlblknpipaaGreatDoor
namespace Go.Proofs.YtdaadlblknpipaaGreatDoor
open Go.RowKit
attribute [local go_sem ↓] Go.wp_at_zero Go.wp_at_succ
theorem alC {n B:Nat}{rows:List (List Raw)}(h:Rw n B rows)(hn:1<=n)(tZ:n<=8):fB rows=n:=yx h.1 h.2.1 hn tZ
end Go.Proofs.YtdaadlblknpipaaGreatDoor
