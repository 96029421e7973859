/- A table of numbers of one's own,each row in a block of its own: read,written. -/
import Derived.Test.YtnjfebkelecgaaaGreatDoorZ11
import Derived.Test.YtnjfebkelecgaaaGreatDoorZ7
import Derived.Test.YtnjfebkelecgaaaGreatDoorZ5
import Derived.Test.YtnjfebkelecgaaaGreatDoorZ9
set_option linter.all false
set_option maxRecDepth 100000
set_option maxHeartbeats 16000000
namespace Go.Proofs.YtnjfebkelecgaaaGreatDoor
open Go.RowKit
def gH (w:World)(base n:Nat)(R:List (List Dyadic))(k:Nat)(v:Value):Prop:=
 ∃vals:List Value,vals.length=k/\w.ownsRow base 32 1 v k vals/\(∀i (h:i<vals.length),w.ownsRow base 48 3 vals[i] n (dC (R.getD i [])))/\
  ∀i j (hi:i<vals.length) (hj:j<vals.length) g,vals[i].ownBlock=some g->vals[j].ownBlock=some g->i=j
def gH.nil (w:World)(base n:Nat)(R:List (List Dyadic)):gH w base n R 0 (.slice none 0 0):=
 ⟨[],rfl,World.ownsRow_nil _ _ _ _,λ_ h=>absurd h (Nat.not_lt_zero _),λ_ _ h=>absurd h (Nat.not_lt_zero _)⟩
def gH.below {w w':World}{base n k:Nat}{R:List (List Dyadic)}{v:Value}(h:gH w base n R k v)(hb:Bw w w'):gH w' base n R k v:=by obtain⟨vals,hl,ho,hi,hd⟩:=h;exact⟨vals,hl,ownsRow_below ho hb,λi h=>ownsRow_below (hi i h) hb,hd⟩
def gH.push {w w':World}{base n k:Nat}{R:List (List Dyadic)}{v v' x:Value}{vals:List Value}(hl:vals.length=k)(hov:w.ownsRow base 32 1 v k vals)(hi:∀i (h:i<vals.length),w.ownsRow base 48 3 vals[i] n (dC (R.getD i [])))
 (hd:∀i j (hi:i<vals.length) (hj:j<vals.length) g,vals[i].ownBlock=some g->vals[j].ownBlock=some g->i=j)
 (hx:w.ownsRow base 48 3 x n (dC (R.getD k []))) (jh:∀g,x.ownBlock=some g->∀i (h:i<vals.length),vals[i].ownBlock≠some g)
 (ho:w'.ownsRow base 32 1 v' (k+1) (vals++[x])) (hg:w.grownBy w' v.ownBlock):gH w' base n R (k+1) v':=by
 refine⟨_,by simp[hl],ho,λi h=>?_,λi j h1 h2 g e1 e2=>?_⟩
 . by_cases hk:i<vals.length
   . rw[List.getElem_append_left hk];exact(hi i hk).kept hg (Ki (hi i hk) hov zd)
   . have hik:i=k:=by simp at h;omega
     subst hik;rw[List.getElem_append_right zo];simp only[hl,Nat.sub_self,List.getElem_cons_zero];exact hx.kept hg (Ki hx hov zd)
 . by_cases k1:i<vals.length
   . rw[List.getElem_append_left k1]at e1;by_cases k2:j<vals.length
     . rw[List.getElem_append_left k2]at e2;exact hd i j k1 k2 g e1 e2
     . have hjk:j=k:=by simp at h2;omega
       subst hjk;rw[List.getElem_append_right zo]at e2;simp only[hl,Nat.sub_self,List.getElem_cons_zero]at e2;exact absurd e1 (jh g e2 i k1)
   . have hik:i=k:=by simp at h1;omega
     subst hik;rw[List.getElem_append_right zo]at e1;simp only[hl,Nat.sub_self,List.getElem_cons_zero]at e1;by_cases k2:j<vals.length
     . rw[List.getElem_append_left k2]at e2;exact absurd e2 (jh g e1 j k2)
     . simp at h2;omega
def gH.tbl {w:World}{base n k:Nat}{R:List (List Dyadic)}{v:Value}(h:gH w base n R k v)(hk:R.length=k)(hn:∀r∈R,r.length=n):∃a c,v=.slice a k c/\k<=c/\bQ w a (R.map λr=>r.map canon):=by
 obtain⟨vals,hl,ho,hi,hd⟩:=h;obtain⟨a,c,hv,hat,_⟩:=dm ho;subst hv;refine⟨a,c,rfl,OA ho,vals,by simp[hl,hk],hat,λi h1 h2=>?_⟩;obtain⟨a1,c1,e1,e2,_⟩:=dm (hi i h2);have hi1:i<R.length:=by simpa using h1
 have eg:R.getD i []=R[i]:=by simp[hi1]
 rw[eg]at e2;refine⟨a1,c1,?_,?_⟩
 . rw[e1];simp[hn _ (List.getElem_mem hi1)]
 . rw[List.getElem_map,<-sk];exact e2
def aoG (ds:List Dyadic)(j:Nat)(hj:j<ds.length):(dC ds)[j*3]?=some (aj (aK (dN ds[j])))/\(dC ds)[j*3+1]?=some (ai (nt (dN ds[j]).natAbs))/\(dC ds)[j*3+2]?=some (ah (dE ds[j])):=by have h:=λi (hi:i<3)=>flat_get (λd=>bK (canon d)) 3 (λ_=>rfl) ds j i hj hi;unfold dC;exact⟨(h 0 zd),(h 1 zd),(h 2 zd)⟩
def gH.num {w:World}{base n L:Nat}{R:List (List Dyadic)}{v:Value}(h:gH w base n R L v)(i j:Nat)(hi:i<L)(hj:j<n)(hR:R.length=L)(hr:(R.getD i []).length=n):
 ∃go cap g c,v=.slice (some ⟨go,0,none⟩) L cap/\base<=go/\base<=g/\g≠go/\w.cell? ⟨go,i,none⟩=some (.slice (some ⟨g,0,none⟩) n c)/\
  bA w g (j*3) [aj (aK (dN ((R.getD i []).getD j 0))),ai (nt (dN ((R.getD i []).getD j 0)).natAbs),ah (dE ((R.getD i []).getD j 0))]/\(∀o,w.frozen? ⟨g,o,none⟩=false)/\
  ∀y:Dyadic,gH (((w.setCell ⟨g,j*3,none⟩ (aj (aK (dN y)))).setCell ⟨g,j*3+1,none⟩ (ai (nt (dN y).natAbs))).setCell ⟨g,j*3+2,none⟩ (ah (dE y))) base n (R.set i ((R.getD i []).set j y)) L v:=by
 obtain⟨vals,hl,ho,hv,hd⟩:=h;have hi2:i<vals.length:=by omega
 have hrow:=hv i hi2;have hxl:(dC (R.getD i [])).length=n*3:=by rw[Mm,hr]
 obtain⟨a0,cap,rfl,_,_⟩:=dm ho;obtain⟨a1,c,e1,_,hab⟩:=dm hrow;rw[e1]at hrow;rcases ho.2 with⟨h1,_⟩ |⟨go,cap',cur,h1,jE,hgo,_⟩
 . simp at h1;omega
 simp only[Value.slice.injEq,true_and]at h1;obtain⟨rfl,rfl⟩:=h1;have hrow2:=hrow;rcases hrow.2 with⟨h1,_⟩ |⟨g,c',cur',h1,hbg,hgg,_⟩
 . simp at h1;omega
 simp only[Value.slice.injEq,true_and]at h1;obtain⟨rfl,rfl⟩:=h1;have hne:g≠go:=by rintro rfl;rw[hgo]at hgg;simp at hgg
 have hat:=aoG (R.getD i []) j zo;have hg0:(R.getD i []).getD j 0=(R.getD i [])[j]'zo:=by rw[List.getD_eq_getElem?_getD,List.getElem?_eq_getElem zo];rfl
 have hc0:=nK hrow (j*3) zo;have hc1:=nK hrow (j*3+1) zo;have hc2:=nK hrow (j*3+2) zo;rw[<-List.getElem?_eq_getElem]at hc0 hc1 hc2;rw[hat.1]at hc0;rw[hat.2.1]at hc1;rw[hat.2.2]at hc2;refine⟨go,cap,g,c,rfl,jE,hbg,hne,?_,by rw[hg0];exact iR hc0 hc1 hc2,λo=>?_,λy=>?_⟩
 . rw[nK ho i zo,e1]
 . have h4:aH w g 48 cur'.toList:=by unfold aH;simpa using hgg
   exact h4.free o
 . refine⟨vals,hl,?_,λm hm=>?_,hd⟩
   . have hn:∀(o:Nat) (u:Value) (W:World),W.ownsRow base 32 1 (.slice (some ⟨go,0,none⟩) L cap) L vals->(W.setCell ⟨g,o,none⟩ u).ownsRow base 32 1 (.slice (some ⟨go,0,none⟩) L cap) L vals:=λo u W h=>ownsRow_setCell_other h (by simpa[Value.ownBlock]using hne.symm) _;exact hn _ _ _ (hn _ _ _ (hn _ _ _ ho))
   . by_cases xe:m=i
     . subst xe;have hs:(R.set m ((R.getD m []).set j y)).getD m []=(R.getD m []).set j y:=by rw[List.getD_eq_getElem?_getD,List.getElem?_set_self zo];rfl
       rw[hs,e1,<-Sn];exact mr (mr (mr hrow _ _) _ _) _ _
     . have hs:(R.set i ((R.getD i []).set j y)).getD m []=R.getD m []:=by rw[List.getD_eq_getElem?_getD,List.getElem?_set_ne (λe=>xe e.symm),<-List.getD_eq_getElem?_getD]
       rw[hs];have hno:vals[m].ownBlock≠some g:=λe=>xe (hd m i hm hi2 g e (by rw[e1];rfl));exact ownsRow_setCell_other (ownsRow_setCell_other (ownsRow_setCell_other (hv m hm) hno _) hno _) hno _
end Go.Proofs.YtnjfebkelecgaaaGreatDoor
namespace Go.Proofs.YtnjfebkelecgaaaGreatDoor
open Go.RowKit
attribute [local go_sem ↓] Go.wp_at_zero Go.wp_at_succ
def Bs (w0 w:World)(base n go cap top r l K:Nat)(Z:Int)(k:Nat)(f:Nat->Nat->Int)(last:Int)(t:Bool):Prop:=
 BS w0 w base n go cap top f/\aH w r 46 [aj false,.string ⟨#[]⟩]/\aH w l 46 [aj (aK last),ai (nt last.natAbs)]/\gZ n (n-k) k f last/\ft n (n-k) k f last t=Z/\last≠0/\
  ∃Q,Q+1<=2^k* (K+1)/\last.natAbs<2^Q/\∀a b,a<n->b<n->(f a b).natAbs<2^Q
def axi (f:Nat->Nat->Int)(k:Nat):cN f k (k+0)=f:=by
 funext a b;unfold cN
 simp only[Nat.add_zero];by_cases h:a=k
 . rw[if_pos h,h]
 . rw[if_neg h,if_neg h]
def Bs.none {w0 w:World}{base n go cap top r l K k:Nat}{Z:Int}{f:Nat->Nat->Int}{last:Int}{t:Bool}(h:Bs w0 w base n go cap top r l K Z k f last t)(hk:k<n)(hp:rN f n k=none):Z=0:=by obtain⟨_,_,_,_,h2,_⟩:=h;rw[show n-k=n-(k+1)+1 by omega]at h2;unfold ft at h2;rw[hp]at h2;exact h2.symm
def Bs.some {w0 w:World}{base n go cap top r l K k m:Nat}{Z:Int}{f:Nat->Nat->Int}{last:Int}{t:Bool}(h:Bs w0 w base n go cap top r l K Z k f last t)(hk:k<n)(hp:rN f n k=some m):
 ∃g,g=cN f k (k+m)/\g k k≠0/\(∀a b,k<a->a<n->k<b->b<n->last∣dc g k a b)/\gZ n (n-(k+1)) (k+1) (ej g k last) (g k k)/\ft n (n-(k+1)) (k+1) (ej g k last) (g k k) (t !=decide (0<m))=Z/\
  ∃Q,2*Q+2<=2^(k+1) * (K+1)/\last.natAbs<2^Q/\(∀a b,a<n->b<n->(g a b).natAbs<2^Q)/\(g k k).natAbs<2^(2*Q+1)/\∀a b,a<n->b<n->(ej g k last a b).natAbs<2^(2*Q+1):=by
 obtain⟨_,_,_,h1,h2,h3,Q,hQ,hl,hf⟩:=h;have Jj:=nO hp;rw[show n-k=n-(k+1)+1 by omega]at h1 h2;unfold gZ at h1;unfold ft at h2;rw[hp]at h1 h2;simp only at h1 h2;obtain⟨g,hg⟩:∃g,g=cN f k (k+m):=⟨_,rfl⟩;rw[<-hg]at h1 h2;have ji:∀a b,a<n->b<n->(g a b).natAbs<2^Q:=by
  intro a b ha hb;rw[hg];unfold cN;refine hf _ _ ?_ hb;split
  . omega
  . split
    . omega
    . exact ha
 have Ig:2^Q<=2^(2*Q+1):=Nat.pow_le_pow_right zd zo;refine⟨g,hg,?_,h1.1,h1.2,h2,Q,?_,hl,ji,Nat.lt_of_lt_of_le (ji k k hk hk) Ig,λa b ha hb=>?_⟩
 . rw[hg];unfold cN;rw[if_pos rfl];exact Jj.2
 . rw[Nat.pow_succ];have:2^k*2* (K+1)=2* (2^k* (K+1)):=by rw[Nat.mul_comm (2^k) 2,Nat.mul_assoc]
   omega
 . unfold ej;split
   . rename_i h4
     have h5:=(Wc g k a b Q (ji a b ha hb) (ji k k hk hk) (ji a k ha hk) (ji k b hk hb)).2.2;rcases div_lt _ last _ h5 with h6|h6
     . exact h6
     . exact absurd (h1.1 a b h4.1 ha h4.2 hb) h6
   . exact Nat.lt_of_lt_of_le (ji a b ha hb) Ig
def Bs.next {w0 w:World}{base n go cap top r l kb K k:Nat}{Z:Int}{f g:Nat->Nat->Int}{x:Int}{t:Bool}(h:BT w0 w base n go cap top f r l kb x k)(hf:∀a b,a<n->b<n->f a b=g a b)(hx:x≠0)(h1:gZ n (n-(k+1)) (k+1) g x)(h2:ft n (n-(k+1)) (k+1) g x t=Z)
 (h3:∃Q,Q+1<=2^(k+1) * (K+1)/\x.natAbs<2^Q/\∀a b,a<n->b<n->(g a b).natAbs<2^Q):Bs w0 w base n go cap top r l K Z (k+1) g x t:=
 ⟨(h.congr hf).1,h.2.1,h.2.2.1,h1,h2,hx,h3⟩
def LL (a0:Act)(w0:World)(cs:List (Addr×Value))(x1 x2 x3 x4 P1 P2 N:Int)(dn:Nat->Bool)(a:Act)(w:World):Prop:=
 ∃v1 v2 v3 v4 v5 v6:Value,a=(((((a0.put (some 76) v1).put (some 77) v2).put (some 92) v3).put (some 93) v4).put (some 94) v5).put (some 10) v6/\ko cs w/\Bw w0 w/\
  (dn 14=true->∃b,v1=.slice (some ⟨b,0,none⟩) 2 2/\aH w b 46 [aj (aK x1),ai (nt x1.natAbs),aj (aK x2),ai (nt x2.natAbs)])/\(dn 15=true->v2=dx P1)/\
  (dn 30=true->∃b,v3=.slice (some ⟨b,0,none⟩) 2 2/\aH w b 46 [aj (aK x3),ai (nt x3.natAbs),aj (aK x4),ai (nt x4.natAbs)])/\(dn 31=true->v4=dx P2)/\(dn 32=true->v5=dx N)/\
  (dn 33=true->∃b,v6=.pointer (some ⟨b,0,none⟩)/\w0.heap.size<=b/\aH w b 46 [aj false,.string ⟨#[]⟩])
def LL.init (a:Act)(w0 w:World)(cs:List (Addr×Value))(x1 x2 x3 x4 P1 P2 N:Int)(hk:ko cs w)(hb:Bw w0 w):LL a w0 cs x1 x2 x3 x4 P1 P2 N (λ_=>false) a w:=
 ⟨a.tmps.getD 76 undef,a.tmps.getD 77 undef,a.tmps.getD 92 undef,a.tmps.getD 93 undef,a.tmps.getD 94 undef,a.tmps.getD 10 undef,by rw[EC,EC,EC,EC,EC,EC],hk,hb,(λh=>by cases h),(λh=>by cases h),(λh=>by cases h),(λh=>by cases h),(λh=>by cases h),(λh=>by cases h)⟩
def ane (base n K:Nat)(f:Nat->Nat->Int)(v:Value)(w:World)(hn:1<=n)(dv:n<=4)(hO:jR w base n (fh f n) n v)(bE:base<=w.heap.size)(Dz:1<=K)(hK:∀a b,a<n->b<n->(f a b).natAbs<2^K)(hK2:K<=100000000):
 Cl 113 #[v] w λe w'=>e=.returned (dx (ft n n 0 f 1 false))/\Below base w w':=by
 obtain⟨go,cap,rfl,hcap,hbs⟩:=BS.begin hO hn;obtain⟨Z,hZ⟩:=aI (ft n n 0 f 1 false);have hex:=abt n hn dv f;have hsz:∀k Q:Nat,k<=n->Q+1<=2^k* (K+1)->Q<=1800000000:=by intro k Q h1 h2;have h3:2^k<=2^4:=Nat.pow_le_pow_right zd zo;have h4:=Nat.mul_le_mul_right (K+1) h3;omega
 rw[hZ];obtain⟨YA,HZ,YL,pV,HK⟩:=fH hbs hZ hex hsz hK;clear hO hbs hZ hex hsz hK;have Hb:=hbz w;go_enter Tryz.func113,Tryz.ntmps113;go_wp2_with fail;refine il w (Hb.an trivial) 46 [aj false,.string ⟨#[]⟩] λW bi ag aC=>?_;go_wp2_with fail;refine aZ ag (Xz 1 _ zd zd) λw1 ag aC=>?_;obtain⟨W2,nV,bi,ag,aC⟩:=cM w1 ag 46 [aj (aK 1),ai (nt 1)];have XN:=az (YA.out.below ag.2.2.1.out zo);have arn:w.heap.size<w1.heap.size:=zo;have hq0:=ag.2.1.out;have hq1:=ag.1.out;skip
 have hst:Bs w W2 base n go cap w.heap.size w.heap.size w1.heap.size K Z 0 f 1 false:=⟨XN.out,hq0,hq1,YL.out,HZ.out,by decide,K,by omega,by rw[show(1:Int).natAbs=1 from rfl];exact Nat.one_lt_two_pow zo,HK.out⟩;clear hq0 hq1;have cu:=az hst;have Pe:=ag.2.2.1.out.size;clear hst XN YA HK YL HZ;go_wp2_with fail;go_loopw[5,15] (λs5 x wr=>∃(k:Nat) (f':Nat->Nat->Int) (last:Int) (t:Bool),k<=n/\x=ah (k:Int)/\s5=aj t/\Bs w wr base n go cap w.heap.size w.heap.size w1.heap.size K Z k f' last t) (λ_ x _=>n-(intOf x).toNat);case atStart=>exact⟨0,f,1,false,Nat.zero_le _,rfl,rfl,cu.out⟩
 case round=>
  clear cu;obtain⟨k,f',last,t,hk,rfl,rfl,hS⟩:=hrel;obtain⟨wk,hwk⟩:∃wk,wk=wr:=⟨_,rfl⟩;subst hwk;by_cases hlt:k<n
  . obtain⟨Q0,hQ0,_,hQf⟩:=hS.2.2.2.2.2.2;have gh:=pV.out k Q0 hk hQ0;have hlen:∀a b,a<n->b<n->(nt (f' a b).natAbs).length<=1099511627776:=λa b ha hb=>ll (hQf a b ha hb) zo;have hkc:k<cap:=by omega
    obtain⟨HS,jQ⟩:=aU hS hlen;have vN:=hS.1.2.2.2;clear hS hQ0 hQf gh hlen;have Hb:=hbz wk;obtain⟨Hr,Hl⟩:=aU HS.out.2.1 HS.out.2.2.1;obtain⟨ag,aC⟩:=qZ (Hr.an<|Hl.an trivial);obtain⟨W3,DK,bi,ag,aC⟩:=cM wk (Hb.an ag) 3 [ah (k:Int)];have lD:=az (HS.out.1.below ag.2.1.out zo);have fe:W3.cell? ⟨wk.heap.size,0,none⟩=some (ah (k:Int)):=ag.1.out.cell 0;go_wp2_with fail;refine aZ ag (lD.out.index k wk.heap.size hlt zo fe jQ.out) λw4 ag aC=>?_;cases hp:rN f' n k with
    | none=>
      have hpv:JW f' n k= -1:=by unfold JW;rw[hp]
      have hz:=HS.out.none hlt hp;rw[hpv];have Hbb:=az (HS.out.1.2.2.1.trans (ag.2.1.out.mono zo));clear HS jQ lD hp;go_wp2;have r0:w4.cell? ⟨w.heap.size,0,none⟩=some (aj false):=ag.2.2.1.out.cell 0;have r1:w4.cell? ⟨w.heap.size,1,none⟩=some (.string ⟨#[]⟩):=ag.2.2.1.out.cell 1;refine bodyPost_ret (v:=.agg #[aj false,.string ⟨#[]⟩]) (by simp[results,Tryz.results113,go_sem,r0,r1]) rfl ⟨by rw[hz];rfl,?_⟩;exact(Hbb.out.setCell zp _).setCell zp _
    | some m=>
      have hpv:JW f' n k=(m:Int):=by unfold JW;rw[hp]
      rw[hpv];obtain⟨mn,_⟩:=nO hp;obtain⟨g,hg,iz,oY,adB,adh,Q,hQ,IR,ji,adO,Jp⟩:=HS.out.some hlt hp;have hl0:=HS.out.2.2.2.2.2.1;have jU:BT w w4 base n go cap w.heap.size f' w.heap.size w1.heap.size wk.heap.size last k:=⟨HS.out.1.below ag.2.1.out zo,ag.2.2.1.out,ag.2.2.2.1.out,ag.1.out,by omega,Nat.le_refl _,by omega,by omega⟩;obtain⟨pN,Hdv,YM,Yy,HQ,Zg,YU,YW,Ga,Hg,rT,rU⟩:=fu jU oY adB adh hQ IR ji adO Jp hg iz hl0;clear jU oY adB adh hQ IR ji adO Jp hg iz hl0 hpv hp HS jQ lD;have hm0:¬(m:Int)<0:=by omega
      go_upto_if 27 with fail
      go_cut[5] (λs5 wx=>s5=aj (t !=decide (0<m))/\BT w wx base n go cap w.heap.size g w.heap.size w1.heap.size wk.heap.size last k);case first=>
       by_cases hm:0<m
       . have xe:(0:Int)<(m:Int):=by omega
         obtain⟨g1,c1,g2,c2,e1,e2,e3,hsw⟩:=pN.out.swap k (k+m) hlt zo;rw[<-Hg.out]at hsw;have Rc:=az hsw;have sI:=Ej n cap k (k:Int) (rfl:(some ⟨go,0,none⟩:Option Addr)=_) hlt rfl;have xa:=Ej n cap (k+m) ((k+m:Nat):Int) (rfl:(some ⟨go,0,none⟩:Option Addr)=_) zo rfl;rw[Nat.zero_add,Nat.mul_one]at sI xa;have hwm:IntKind.i64.wrap ((k:Int)+(m:Int))=((k+m:Nat):Int):=by rw[IntKind.wrap_i64];omega
         obtain⟨km,xc⟩:=aI (k+m);rw[xc]at e2 xa hwm Rc;have rh:=az pN.out.2.2.2.1;have Gh:Hid (bA w4 go k [.slice (some ⟨g1,0,none⟩) n c1]):=λj hj=>by
          obtain rfl:j=0:=by simp at hj;omega
          exact e1
         have Gi:Hid (bA w4 go km [.slice (some ⟨g2,0,none⟩) n c2]):=λj hj=>by
          obtain rfl:j=0:=by simp at hj;omega
          exact e2
         have z1:w4.drew.frozen? ⟨go,k,none⟩=false:=e3 k;have z2:w4.drew.frozen? ⟨go,km,none⟩=false:=e3 km;have z3:w4.frozen? ⟨go,km,none⟩=false:=e3 km;have y2:(w4.setCell ⟨go,k,none⟩ (.slice (some ⟨g2,0,none⟩) n c2)).cell? ⟨go,km,none⟩=some (.slice (some ⟨g2,0,none⟩) n c2):=aQ (.inr zp) e2;have Hkm:=az xc;clear hsw e1 e2 e3 xc;go_wp2_with fail;obtain⟨ag,aC⟩:=qZ (rh.an<|Gh.an<|Gi.an trivial);have hgo:go<wk.heap.size:=by have:=pN.out.1.2.1.1;omega
         obtain⟨rh,Gh,Gi,_⟩:=ag;have fe:=rh.out.c1;have xa0:=Gh.out.w1;have xb0:=Gi.out.w1;refine aib (λw'=>aV w' (wk.heap.size) 0 (ah (k:Int))) (λi=>Nat.blt i 19) (.rd 0 (.rd 1 (.rd 2 (.rd 3 (.rd 4 (.rd 5 (.rd 6 (.rd 7 (.rd 8 (.rd 9 (.rd 10 (.rd 12 (.rd 13 (.rd 14 (.br 11 15 (.lin [(15,false),(16,true),(17,false),(18,false),(19,false)]) (.lin [(11,false),(16,true),(17,false),(18,false),(19,false)])))))))))))))))) zk zk rfl zk zc fe ?_;iterate 14 (refine agt rfl rfl (v:=?_) (λw' hw'=>?_) ?_;rotate_left;(focus go_simp;try with_reducible rfl))
         refine Wq rfl rfl rfl rfl rfl rfl  (λK hK=>?_) (λK hK=>?_) 
         . go_simp;refine hK _ _ (by first|exact λ_=>fe|exact λ_=>gN zg fe) ?_
           refine Ka ?_;refine aY rfl rfl (λK hK=>?_);go_simp;refine hK _ _ (by first|exact λh=>absurd h zd|exact λ_=>fe|exact λ_=>gN zg fe) ?_
           refine pT rfl rfl ?_
           refine aY rfl rfl (λK hK=>?_);go_simp;refine hK _ _ (by first|exact λh=>absurd h zd|exact λ_=>fe|exact λ_=>gN zg fe) ?_
           refine aY rfl rfl (λK hK=>?_);go_simp;refine hK _ _ (by first|exact λh=>absurd h zd|exact λ_=>fe|exact λ_=>gN zg fe) ?_
           refine aY rfl rfl (λK hK=>?_);go_simp;refine hK _ _ (by first|exact λh=>absurd h zd|exact λ_=>fe|exact λ_=>gN zg fe) ?_
           simp only[bP];go_wp2_with fail;go_meet;exact⟨by simp[hm],Rc.out.drew⟩
         . go_simp;refine hK _ _ (by first|exact λ_=>fe|exact λ_=>gN zg fe) ?_
           refine Ka ?_;refine aY rfl rfl (λK hK=>?_);go_simp;refine hK _ _ (by first|exact λh=>absurd h zd|exact λ_=>fe|exact λ_=>gN zg fe) ?_
           refine pT rfl rfl ?_
           refine aY rfl rfl (λK hK=>?_);go_simp;refine hK _ _ (by first|exact λh=>absurd h zd|exact λ_=>fe|exact λ_=>gN zg fe) ?_
           refine aY rfl rfl (λK hK=>?_);go_simp;refine hK _ _ (by first|exact λh=>absurd h zd|exact λ_=>fe|exact λ_=>gN zg fe) ?_
           refine aY rfl rfl (λK hK=>?_);go_simp;refine hK _ _ (by first|exact λh=>absurd h zd|exact λ_=>fe|exact λ_=>gN zg fe) ?_
           simp only[bP];go_wp2_with fail;go_meet;exact⟨by simp[hm],Rc.out.drew⟩
       . have hm2:¬(0:Int)<(m:Int):=by omega
         obtain rfl:m=0:=by omega
         go_wp2_with fail;go_meet;refine⟨by simp,?_⟩;rw[Hg.out,axi];exact pN.out
      case rest=>
       obtain⟨rfl,jU⟩:=hcut;have pN:=az jU;have gh:=pV.out (k+1) (2*Q+1) zo (by have:=HQ.out;omega);clear jU;have fe:wc.cell? ⟨wk.heap.size,0,none⟩=some (ah (k:Int)):=pN.out.2.2.2.1.cell 0;go_wp2_with fail;go_loopw[8] (λx wr=>∃i:Nat,k<i/\i<=n/\x=ah (i:Int)/\BT w wr base n go cap w.heap.size (mA g k last i (k+1)) w.heap.size w1.heap.size wk.heap.size last k) (λx _=>n-(intOf x).toNat);case atStart=>exact⟨k+1,by omega,by omega,by go_num,by rw[auv];exact pN.out⟩
       case round=>
        clear fe pN;obtain⟨i,IP,hin,rfl,hT⟩:=hrel;have Fi:=az hT;clear hT;have fe:wr.cell? ⟨wk.heap.size,0,none⟩=some (ah (k:Int)):=Fi.out.2.2.2.1.cell 0;by_cases bj:i<n
        . obtain⟨wi,Vj⟩:∃wi,wi=wr:=⟨_,rfl⟩;subst Vj;go_wp2_with fail;go_loopw[9] (λx wr=>∃j:Nat,k<j/\j<=n/\x=ah (j:Int)/\BT w wr base n go cap w.heap.size (mA g k last i j) w.heap.size w1.heap.size wk.heap.size last k) (λx _=>n-(intOf x).toNat);case atStart=>exact⟨k+1,by omega,by omega,by go_num,Fi.out⟩
          case round=>
           clear fe Fi;obtain⟨j,hkj,hjn,rfl,hT⟩:=hrel;by_cases fY:j<n
           . have CL:=az hT;clear hT;obtain⟨gi,ci,li,ti,ei,ri,_⟩:=CL.out.row i bj;obtain⟨gk,ck,lk,tk,ek,rk,_⟩:=CL.out.row k hlt;obtain⟨p1,p2,p3,p4⟩:=aus g k last i j;obtain⟨aa,LN⟩:=ri j fY;obtain⟨ab,LO⟩:=rk k hlt;obtain⟨ac,LP⟩:=ri k hlt;obtain⟨ad,LQ⟩:=rk j fY;rw[p1]at aa LN;rw[p2]at ab LO;rw[p3]at ac LP;rw[p4]at ad LQ;have ji:=YU.out;have q1:=ji i j bj fY;have q2:=ji k k hlt hlt;have q3:=ji i k bj hlt;have q4:=ji k j hlt fY;obtain⟨m1,m2,m3⟩:=Wc g k i j Q q1 q2 q3 q4;have oY:=Hdv.out i j IP bj hkj fY;have BO:=fun a b=>congrFun (congrFun (aut g k last i j IP hkj) a) b;have hN:g i j*g k k-g i k*g k j=dc g k i j:=rfl;generalize dc g k i j=N at*;obtain⟨x1,hx1⟩:∃x,g i j=x:=⟨_,rfl⟩;obtain⟨x2,hx2⟩:∃x,g k k=x:=⟨_,rfl⟩;obtain⟨x3,hx3⟩:∃x,g i k=x:=⟨_,rfl⟩;obtain⟨x4,hx4⟩:∃x,g k j=x:=⟨_,rfl⟩;rw[hx1]at q1 m1 hN aa LN;rw[hx2]at q2 m1 hN ab LO;rw[hx3]at q3 m2 hN ac LP;rw[hx4]at q4 m2 hN ad LQ;obtain⟨P1,Tp⟩:∃x,x1*x2=x:=⟨_,rfl⟩;obtain⟨P2,tV⟩:∃x,x3*x4=x:=⟨_,rfl⟩;rw[Tp]at m1 hN;rw[tV]at m2 hN;have L1:(nt x1.natAbs).length<=17179869184:=ll q1 zo;have L2:(nt x2.natAbs).length<=17179869184:=ll q2 zo;have L3:(nt x3.natAbs).length<=17179869184:=ll q3 zo;have L4:(nt x4.natAbs).length<=17179869184:=ll q4 zo;have L5:(nt P1.natAbs).length<=34359738368:=ll m1 zo;have L6:(nt P2.natAbs).length<=34359738368:=ll m2 zo;have L7:(nt N.natAbs).length<=34359738368:=ll m3 zo;have L8:(nt last.natAbs).length<=34359738368:=ll Zg.out zo;obtain⟨gU,XZ,EW,Ya,Yb,Yc,Yd,Ye,Yg,Yh,HN,CP⟩:=fu L1 L2 L3 L4 L5 L6 L7 L8 Tp tV hN oY;have Zx:=az BO;clear L1 L2 L3 L4 L5 L6 L7 L8 Tp tV hN oY BO q1 q2 q3 q4 m1 m2 m3 hx1 hx2 hx3 hx4 ji p1 p2 p3 p4 ri rk;have Ks:∀(b o:Nat) (u v:Value),wr.cell? ⟨b,o,none⟩=some u->wr.cell? ⟨b,o+1,none⟩=some v->bA wr b o [u,v]:=by
              intro b o u v h1 h2 j hj;rcases j with _|_|j
              . exact h1
              . exact h2
              . simp at hj;omega
             have XC:∀(b o:Nat) (u:Value),wr.cell? ⟨b,o,none⟩=some u->bA wr b o [u]:=by
              intro b o u h1 j hj;obtain rfl:j=0:=by simp at hj;omega
              exact h1
             obtain⟨rh,rY,wG,rR,kJ,Fb,qW⟩:=kH CL.out.2.2.2.1 (XC _ _ _ ei) (XC _ _ _ ek) (Ks _ _ _ _ aa LN) (Ks _ _ _ _ ab LO) (Ks _ _ _ _ ac LP) (Ks _ _ _ _ ad LQ);clear XC Ks ei ek aa LN ab LO ac LP ad LQ;have ixi:=Ej n cap i (i:Int) (rfl:(some ⟨go,0,none⟩:Option Addr)=_) bj rfl;have ixk:=Ej n cap k (k:Int) (rfl:(some ⟨go,0,none⟩:Option Addr)=_) hlt rfl;rw[Nat.zero_add,Nat.mul_one]at ixi ixk;have Oe:=xw n ci j (j:Int) (rfl:(some ⟨gi,0,none⟩:Option Addr)=_) fY rfl;have iik:=xw n ci k (k:Int) (rfl:(some ⟨gi,0,none⟩:Option Addr)=_) hlt rfl;have ikj:=xw n ck j (j:Int) (rfl:(some ⟨gk,0,none⟩:Option Addr)=_) fY rfl;have ikk:=xw n ck k (k:Int) (rfl:(some ⟨gk,0,none⟩:Option Addr)=_) hlt rfl;rw[Nat.zero_add]at Oe iik ikj ikk;go_upto_region 18 with fail
             go_cut[10] (λpF wx=>∃b:Nat,pF=.pointer (some ⟨b,0,none⟩)/\aH wx b 46 [aj (aK N),ai (nt N.natAbs)]/\Bw wr wx);case first=>
              clear YU HQ Zg YW Ga Hg Yy YM Zx CP rT CL;obtain⟨w0,hw0⟩:∃w0,w0=w:=⟨_,rfl⟩;subst hw0;obtain⟨w,JA⟩:∃w,w=wr:=⟨_,rfl⟩;subst JA;have Hb:=hbz w;obtain⟨ag,aC⟩:=qZ (rh.an<|rY.an<|wG.an<|rR.an<|kJ.an<|Fb.an<|qW.an trivial);obtain⟨rh,rY,wG,rR,kJ,Fb,qW,_⟩:=ag;have fe:=rh.out.c1;have vP:=rY.out.w1;have Ag:=wG.out.w1;obtain⟨RG,RH⟩:=rR.out.w2;obtain⟨yz,yA⟩:=kJ.out.w2;obtain⟨ac0,ac1⟩:=Fb.out.w2;obtain⟨ad0,ad1⟩:=qW.out.w2;obtain⟨cs,hcs⟩:∃cs:List (Addr×Value),[(⟨wk.heap.size,0,none⟩,ah (k:Int)),(⟨go,i,none⟩,.slice (some ⟨gi,0,none⟩) n ci),(⟨go,k,none⟩,.slice (some ⟨gk,0,none⟩) n ck),(⟨gi,j*2,none⟩,aj (aK x1)),(⟨gi,j*2+1,none⟩,ai (nt x1.natAbs)),(⟨gk,k*2,none⟩,aj (aK x2)),(⟨gk,k*2+1,none⟩,ai (nt x2.natAbs)),(⟨gi,k*2,none⟩,aj (aK x3)),(⟨gi,k*2+1,none⟩,ai (nt x3.natAbs)),(⟨gk,j*2,none⟩,aj (aK x4)),(⟨gk,j*2+1,none⟩,ai (nt x4.natAbs))]=cs:=⟨_,rfl⟩;have fy:∀w',ko cs w'->aV w' (wk.heap.size) 0 (ah (k:Int))/\aV w' go i (.slice (some ⟨gi,0,none⟩) n ci)/\aV w' go k (.slice (some ⟨gk,0,none⟩) n ck)/\aV w' gi (j*2) (aj (aK x1))/\aV w' gi (j*2+1) (ai (nt x1.natAbs))/\aV w' gk (k*2) (aj (aK x2))/\aV w' gk (k*2+1) (ai (nt x2.natAbs))/\aV w' gi (k*2) (aj (aK x3))/\aV w' gi (k*2+1) (ai (nt x3.natAbs))/\aV w' gk (j*2) (aj (aK x4))/\aV w' gk (j*2+1) (ai (nt x4.natAbs)):=by subst hcs;intro w' h;exact⟨h.hd,h.tl.hd,h.tl.tl.hd,h.tl.tl.tl.hd,h.tl.tl.tl.tl.hd,h.tl.tl.tl.tl.tl.hd,h.tl.tl.tl.tl.tl.tl.hd,h.tl.tl.tl.tl.tl.tl.tl.hd,h.tl.tl.tl.tl.tl.tl.tl.tl.hd,h.tl.tl.tl.tl.tl.tl.tl.tl.tl.hd,h.tl.tl.tl.tl.tl.tl.tl.tl.tl.tl.hd⟩
              have cg:Hid (ko cs w):=by subst hcs;show ko _ _;intro p hp;simp only[List.mem_cons,List.not_mem_nil,or_false]at hp;rcases hp with rfl|rfl|rfl|rfl|rfl|rfl|rfl|rfl|rfl|rfl|rfl<;>assumption
              refine ayt (λw'=>ko cs w') (λi=>Nat.blt i 34) [14,15,30,31,32,33] (λk=>if k=15 then[14]else if k=31 then[15,30]else if k=32 then[15,31]else[]) [(34,false)] [0,1,2,3,4,5,6,7,8,9,10,11,12,13,16,17,18,19,20,21,22,23,24,25,26,27,28,29] zk zk rfl zk zc cg.out.drew ?_;iterate 28 (refine auH rfl rfl (v:=?_) (λw' hw'=>?_) ?_;rotate_left;(focus have hw':=fy w' hw';obtain⟨q0,q1,q2,q3,q4,q5,q6,q7,q8,q9,q10⟩:=hw';go_simp;try with_reducible rfl))
              clear fe vP Ag RG RH yz yA ac0 ac1 ad0 ad1 rh rY wG rR kJ Fb qW fy hcs;refine auG (λa0=>LL a0 w cs x1 x2 x3 x4 P1 P2 N) (LL.init _ _ _ _ _ _ _ _ _ _ _ cg.out.drew (Below.refl _ _).drew) ?_ ?_ ?_
              . rintro dn a' w' ⟨_,_,_,_,_,_,_,h,_⟩;exact h
              . intro k0 kY dn a' w' _ hD hI;obtain⟨v1,v2,v3,v4,v5,v6,rfl,sD,lW,f1,f2,f3,f4,f5,f6⟩:=hI;simp only[List.mem_cons,List.not_mem_nil,or_false]at kY;rcases kY with rfl|rfl|rfl|rfl|rfl|rfl
                . have Dz:=sD.alloc (.cells #[aj (aK x1),ai (nt x1.natAbs),aj (aK x2),ai (nt x2.natAbs)] 46);have hal:=(Below.refl w'.heap.size w').alloc (Nat.le_refl _) (.cells #[aj (aK x1),ai (nt x1.natAbs),aj (aK x2),ai (nt x2.natAbs)] 46);refine Ex rfl rfl (λK hK=>?_);clear f1;simp only[Act.put,U1,U2,U3];go_simp;refine hK _ _ ⟨.slice (some ⟨w'.heap.size,0,none⟩) 2 2,v2,v3,v4,v5,v6,by simp only[Act.put,U1,U2,U3],Dz,aO lW hal,λ_=>⟨_,rfl,aH.new _ _ _⟩,λh=>f2 (by simpa using h),λh=>?_,λh=>f4 (by simpa using h),λh=>f5 (by simpa using h),λh=>?_⟩
                  . obtain⟨b,e,q⟩:=f3 (by simpa using h);exact⟨b,e,q.below hal⟩
                  . obtain⟨b,e,hb,q⟩:=f6 (by simpa using h);exact⟨b,e,hb,q.below hal⟩
                . obtain⟨b,rfl,q⟩:=f1 (hD 14 zm);refine Ex rfl rfl (λK hK=>?_);clear f1;simp only[Act.put,U1,U2,U3];go_simp;with_reducible refine(ah2 x1 x2 P1 Yg.out b 2 _ _ gU.out XZ.out q).mono ?_
                  rintro e w2 ⟨rfl,hq⟩;refine hK _ _ ⟨_,dx P1,v3,v4,v5,v6,by simp only[Act.put,U1,U2,U3],sD.below hq,aO lW hq,λ_=>⟨b,rfl,q.below hq⟩,λ_=>rfl,λh=>?_,λh=>f4 (by simpa using h),λh=>f5 (by simpa using h),λh=>?_⟩
                  . obtain⟨b,e,q⟩:=f3 (by simpa using h);exact⟨b,e,q.below hq⟩
                  . obtain⟨b,e,hb,q⟩:=f6 (by simpa using h);exact⟨b,e,hb,q.below hq⟩
                . have Dz:=sD.alloc (.cells #[aj (aK x3),ai (nt x3.natAbs),aj (aK x4),ai (nt x4.natAbs)] 46);have hal:=(Below.refl w'.heap.size w').alloc (Nat.le_refl _) (.cells #[aj (aK x3),ai (nt x3.natAbs),aj (aK x4),ai (nt x4.natAbs)] 46);refine Ex rfl rfl (λK hK=>?_);clear f3;simp only[Act.put,U1,U2,U3];go_simp;refine hK _ _ ⟨v1,v2,.slice (some ⟨w'.heap.size,0,none⟩) 2 2,v4,v5,v6,by simp only[Act.put,U1,U2,U3],Dz,aO lW hal,λh=>?_,λh=>f2 (by simpa using h),λ_=>⟨_,rfl,aH.new _ _ _⟩,λh=>f4 (by simpa using h),λh=>f5 (by simpa using h),λh=>?_⟩
                  . obtain⟨b,e,q⟩:=f1 (by simpa using h);exact⟨b,e,q.below hal⟩
                  . obtain⟨b,e,hb,q⟩:=f6 (by simpa using h);exact⟨b,e,hb,q.below hal⟩
                . obtain⟨b,rfl,q⟩:=f3 (hD 30 zm);obtain rfl:=f2 (hD 15 zm);refine Ex rfl rfl (λK hK=>?_);clear f3;simp only[Act.put,U1,U2,U3];go_simp;with_reducible refine(ah2 x3 x4 P2 Yh.out b 2 _ _ EW.out Ya.out q).mono ?_
                  rintro e w2 ⟨rfl,hq⟩;refine hK _ _ ⟨v1,dx P1,.slice (some ⟨b,0,none⟩) 2 2,dx P2,v5,v6,by simp only[Act.put,U1,U2,U3],sD.below hq,aO lW hq,λh=>?_,λ_=>rfl,λ_=>⟨b,rfl,q.below hq⟩,λ_=>rfl,λh=>f5 (by simpa using h),λh=>?_⟩
                  . obtain⟨b,e,q⟩:=f1 (by simpa using h);exact⟨b,e,q.below hq⟩
                  . obtain⟨b,e,hb,q⟩:=f6 (by simpa using h);exact⟨b,e,hb,q.below hq⟩
                . obtain rfl:=f2 (hD 15 zm);obtain rfl:=f4 (hD 31 zm);refine Ex rfl rfl (λK hK=>?_);clear f2 f4;simp only[Act.put,U1,U2,U3];go_simp;with_reducible refine(ayh P1 P2 N HN.out _ Yb.out Yc.out).mono ?_
                  rintro e w2 ⟨rfl,hq⟩;refine hK _ _ ⟨v1,_,v3,_,dx N,v6,by simp only[Act.put,U1,U2,U3],sD.below hq,aO lW hq,λh=>?_,λ_=>rfl,λh=>?_,λ_=>rfl,λ_=>rfl,λh=>?_⟩
                  . obtain⟨b,e,q⟩:=f1 (by simpa using h);exact⟨b,e,q.below hq⟩
                  . obtain⟨b,e,q⟩:=f3 (by simpa using h);exact⟨b,e,q.below hq⟩
                  . obtain⟨b,e,hb,q⟩:=f6 (by simpa using h);exact⟨b,e,hb,q.below hq⟩
                . have Dz:=sD.alloc (.cells #[aj false,.string ⟨#[]⟩] 46);have hal:=(Below.refl w'.heap.size w').alloc (Nat.le_refl _) (.cells #[aj false,.string ⟨#[]⟩] 46);refine Ex rfl rfl (λK hK=>?_);clear f6;simp only[Act.put,U1,U2,U3];go_simp;refine hK _ _ ⟨v1,v2,v3,v4,v5,.pointer (some ⟨w'.heap.size,0,none⟩),by simp only[Act.put,U1,U2,U3],Dz,aO lW hal,λh=>?_,λh=>f2 (by simpa using h),λh=>?_,λh=>f4 (by simpa using h),λh=>f5 (by simpa using h),λ_=>⟨_,rfl,lW.size,aH.new _ _ _⟩⟩
                  . obtain⟨b,e,q⟩:=f1 (by simpa using h);exact⟨b,e,q.below hal⟩
                  . obtain⟨b,e,q⟩:=f3 (by simpa using h);exact⟨b,e,q.below hal⟩
              . intro dn a' w' hall hI;obtain⟨v1,v2,v3,v4,v5,v6,rfl,sD,lW,f1,f2,f3,f4,f5,f6⟩:=hI;obtain rfl:=f5 (hall 32 zm);obtain⟨b,rfl,hb,q⟩:=f6 (hall 33 zm);obtain⟨xI,azt,xJ,azu⟩:=q.g2;have hQ9:=(q.set 0 (aj (aK N))).set 1 (ai (nt N.natAbs));have yI:=(lW.sc b 0 hb (aj (aK N))).sc b 1 hb (ai (nt N.natAbs));clear f1 f2 f3 f4 f5 f6;refine aY rfl rfl (λK hK=>?_);simp only[Act.put,U1,U2,U3];go_simp;refine hK _ _ (λh=>absurd h zd) ?_;simp only[bP];go_wp2_with fail;go_meet;exact⟨b,rfl,hQ9,yI⟩
             case rest=>
              obtain⟨bx,rfl,qx,qb⟩:=hcut;obtain⟨tj,Az⟩:=aU (CL.out.below qb) qx;clear qx qb CL rh rY wG rR kJ Fb qW ixk iik ikj ikk Oe gU XZ EW Ya Yb Yc Yg Yh HN li lk ti tk;obtain⟨g9,c9,lt9,lu9,e9,r9,f9⟩:=tj.out.aCO i bj;have ne9:=tj.out.1.row_ne i bj e9;have nx9:bx≠g9:=by rintro rfl;have h1:=(r9 1 zo).1;rw[Az.out.cell]at h1;simp at h1
              obtain⟨Wy,Wz⟩:=r9 j fY;obtain⟨y,hy⟩:=aI (mA g k last i j i j);rw[hy]at Wy Wz;have rY:Hid (bA wc go i [.slice (some ⟨g9,0,none⟩) n c9]):=λj hj=>by
               obtain rfl:j=0:=by simp at hj;omega
               exact e9
              have rR:Hid (bA wc g9 (j*2) [aj (aK y),ai (nt y.natAbs)]):=λj' hj=>by
               rcases j' with _|_|j'
               . exact Wy
               . exact Wz
               . simp at hj;omega
              have Hl:=az tj.out.2.2.1;have Oe:=xw n c9 j (j:Int) (rfl:(some ⟨g9,0,none⟩:Option Addr)=_) fY rfl;rw[Nat.zero_add]at Oe;obtain⟨Dv,Td⟩:=aI (N/last);have hdc:Cl 152 #[.agg #[aj (aK N),ai (nt N.natAbs)],.agg #[aj (aK last),ai (nt last.natAbs)]] wc.drew λe w'=>∃r,e=.returned (.tuple #[dx Dv,r,aj true])/\(w'.frozen? ⟨g9,j*2,none⟩=false/\w'.frozen? ⟨g9,j*2+1,none⟩=false)/\Below wc.drew.heap.size wc.drew w':=
               (ayb N last wc.drew Yd.out Ye.out rU.out CP.out).mono (λe w' ⟨r,he,hb⟩=>⟨r,by rw[he,Td],⟨(f9 w' (df hb)).1 _,(f9 w' (df hb)).1 _⟩,hb⟩)
              obtain⟨Hf9,Hdc,Px⟩:=cE f9 hdc Td;clear Wy Wz hy e9 r9 f9 hdc Td Yd Ye CP;have Hb:=hbz wc;go_wp2_with fail;obtain⟨ag,aC⟩:=qZ (rY.an<|rR.an<|Az.an<|Hl.an trivial);obtain⟨rY,rR,Az,Hl,_⟩:=ag;have vP:=rY.out.w1;obtain⟨RG,RH⟩:=rR.out.w2;obtain⟨xI,xJ⟩:=Az.out.c2;obtain⟨l0,l1⟩:=Hl.out.c2;refine ez (λw'=>aV w' go i (.slice (some ⟨g9,0,none⟩) n c9)/\aV w' bx 0 (aj (aK N))/\aV w' bx 1 (ai (nt N.natAbs))/\aV w' (w1.heap.size) 0 (aj (aK last))/\aV w' (w1.heap.size) 1 (ai (nt last.natAbs))) (λi=>Nat.blt i 100000) [(0,true),(1,true),(2,true),(3,true),(4,true),(5,true),(6,true),(7,false),(8,true),(9,true),(10,true),(11,true),(12,true),(13,false)] zk zk rfl zk zc ⟨vP,xI,xJ,l0,l1⟩ ?_;iterate 7 (refine pT rfl rfl ?_ (by intro w' ⟨q0,q1,q2,q3,q4⟩;go_simp;try with_reducible rfl))
              refine aY rfl rfl (λK hK=>?_);go_simp;with_reducible refine(Hdc.out).mono ?_
              rintro e w5 ⟨rr,rfl,⟨z0,z1⟩,hq⟩;have au:Bw wc w5:=by first|exact hq|exact df hq
              replace rY:=kW rY au;replace rR:=kW rR au;replace Az:=kB Az au;replace Hl:=kB Hl au;have vP:=rY.out.w1;obtain⟨RG,RH⟩:=rR.out.w2;obtain⟨xI,xJ⟩:=Az.out.c2;obtain⟨l0,l1⟩:=Hl.out.c2;replace Hb:=bD Hb au;refine hK _ _ (λ_=>⟨vP,xI,xJ,l0,l1⟩) ?_
              iterate 5 (refine pT rfl rfl ?_)
              refine aY rfl rfl (λK hK=>?_);go_simp;refine hK _ _ (by first|exact λh=>absurd h zd|exact λ_=>⟨vP,xI,xJ,l0,l1⟩ |exact λ_=>⟨(by first|exact vP|exact aQ zf vP|exact aQ zf (aQ zf vP) |exact aQ zf (aQ zf (aQ zf vP))),(by first|exact xI|exact aQ zf xI|exact aQ zf (aQ zf xI) |exact aQ zf (aQ zf (aQ zf xI))),(by first|exact xJ|exact aQ zf xJ|exact aQ zf (aQ zf xJ) |exact aQ zf (aQ zf (aQ zf xJ))),(by first|exact l0|exact aQ zf l0|exact aQ zf (aQ zf l0) |exact aQ zf (aQ zf (aQ zf l0))),(by first|exact l1|exact aQ zf l1|exact aQ zf (aQ zf l1) |exact aQ zf (aQ zf (aQ zf l1)))⟩) ?_
              simp only[bP];go_wp2;go_roundw;case rel=>have h9:=(Hf9.out w5 Hb.out).2 j fY Dv;rw[<-Px.out]at h9;exact⟨j+1,by omega,by omega,by go_num,by rw[Px.out]at h9;exact h9.congr (λa b _ _=>by rw[<-Px.out];exact Zx.out a b)⟩
              case measure=>exact bH
           . obtain rfl:j=n:=by omega
             have HT:=az hT;clear hT;go_wp2;go_roundw;case rel=>exact⟨i+1,by omega,by omega,by go_num,HT.out.congr (λa b _ hb=>auu g k last i j a b hb)⟩
             case measure=>exact bH
        . obtain rfl:i=n:=by omega
          have hT:=Fi.out.congr (λa b ha _=>aur g k last i a b ha);obtain⟨gk,ck,lk,tk,ek,rk,_⟩:=hT.row k hlt;have e1:ej g k last k k=g k k:=by unfold ej;rw[if_neg zo]
          obtain⟨Mt,Mu⟩:=rk k hlt;rw[e1]at Mt Mu;obtain⟨x,hx⟩:=aI (g k k);have iz:=rT.out;have hg2:=YW.out;have Hn:Hid (∃Q,Q+1<=2^(k+1) * (K+1)/\x.natAbs<2^Q/\∀a b,a<i->b<i->(ej g k last a b).natAbs<2^Q):=⟨2*Q+1,by have:=HQ.out;omega,by rw[<-hx];exact hg2,Ga.out⟩;have Qc:=YM.out;have PQ:=Yy.out;rw[hx]at Mt Mu iz Qc PQ;obtain⟨HE2,HBA⟩:=aU Qc PQ;have hLK:w1.heap.size<wk.heap.size:=by have:=zo;omega
          obtain⟨AA,Hl⟩:=aU (hT.setLast x zo zo) hT.2.2.1;have adU:=Ej i cap k (k:Int) (rfl:(some ⟨go,0,none⟩:Option Addr)=_) hlt rfl;have arb:=xw i ck k (k:Int) (rfl:(some ⟨gk,0,none⟩:Option Addr)=_) hlt rfl;rw[Nat.zero_add]at adU arb;rw[Nat.mul_one]at adU;have rh:=az hT.2.2.2.1;have wG:Hid (bA wr go k [.slice (some ⟨gk,0,none⟩) i ck]):=λj hj=>by
           obtain rfl:j=0:=by simp at hj;omega
           exact ek
          have kJ:Hid (bA wr gk (k*2) [aj (aK x),ai (nt x.natAbs)]):=λj hj=>by
           rcases j with _|_|j
           . exact Mt
           . exact Mu
           . simp at hj;omega
          have Hhx:=az hx;clear hT rk ek Mt Mu e1 hg2 Qc PQ fe hx Fi;go_wp2_with fail;obtain⟨ag,aC⟩:=qZ (rh.an<|wG.an<|kJ.an<|Hl.an trivial);obtain⟨rh,wG,kJ,Hl,_⟩:=ag;have fe:=rh.out.c1;have Ag:=wG.out.w1;obtain⟨yz,yA⟩:=kJ.out.w2;obtain⟨l0,fl0,l1,fl1⟩:=Hl.out.g2;refine ez (λw'=>aV w' (wk.heap.size) 0 (ah (k:Int))/\aV w' go k (.slice (some ⟨gk,0,none⟩) i ck)/\aV w' gk (k*2) (aj (aK x))/\aV w' gk (k*2+1) (ai (nt x.natAbs))) (λi=>Nat.blt i 7) [(0,true),(1,true),(2,true),(3,true),(4,true),(5,true),(6,true),(7,false)] zk zk rfl zk zc ⟨fe,Ag,yz,yA⟩ ?_;iterate 7 (refine pT rfl rfl ?_ (by intro w' ⟨q0,q1,q2,q3⟩;go_simp;try with_reducible rfl))
          refine aY rfl rfl (λK hK=>?_);go_simp;refine hK _ _ (by first|exact λh=>absurd h zd|exact λ_=>⟨fe,Ag,yz,yA⟩ |exact λ_=>⟨(by first|exact fe|exact aQ zf fe|exact aQ zf (aQ zf fe) |exact aQ zf (aQ zf (aQ zf fe))),(by first|exact Ag|exact aQ zf Ag|exact aQ zf (aQ zf Ag) |exact aQ zf (aQ zf (aQ zf Ag))),(by first|exact yz|exact aQ zf yz|exact aQ zf (aQ zf yz) |exact aQ zf (aQ zf (aQ zf yz))),(by first|exact yA|exact aQ zf yA|exact aQ zf (aQ zf yA) |exact aQ zf (aQ zf (aQ zf yA)))⟩) ?_
          simp only[bP];go_wp2;go_roundw;case rel=>exact⟨k+1,ej g k last,x,_,by omega,by go_num,rfl,Bs.next AA.out.drew (λ_ _ _ _=>rfl) iz HE2.out HBA.out Hn.out⟩
          case measure=>exact bH
  . obtain rfl:k=n:=by omega
    obtain⟨q1,q2,q3,_,q5,_,Q,hQ,IR,_⟩:=hS;have gh:=pV.out k Q (Nat.le_refl _) hQ;have hll:(nt last.natAbs).length<=1099511627776:=ll IR zo;rw[Nat.sub_self]at q5;unfold ft at q5;obtain⟨Hr,Hl,Hq,HZ,Lq⟩:=fH q2 q3 q1 q5 hll;clear q1 q2 q3 q5 hQ IR hll gh;have Hb:=hbz wk;obtain⟨ag,aC⟩:=qZ (Hr.an<|Hl.an trivial);have DU:=Hq.out.2.2.1;cases t with
    | false=>
      have Hz:Hid (last=Z):=by have hz:=HZ.out;simp only[Bool.false_eq_true,if_false]at hz;exact hz
      go_wp2;have r0:wk.cell? ⟨w.heap.size,0,none⟩=some (aj false):=ag.1.out.cell 0;have r1:wk.cell? ⟨w.heap.size,1,none⟩=some (.string ⟨#[]⟩):=ag.1.out.cell 1;refine bodyPost_ret (v:=.agg #[aj (aK last),ai (nt last.natAbs)]) (by simp[results,Tryz.results113,go_sem,r0,r1]) rfl ⟨by rw[Hz.out],?_⟩;exact(DU.setCell zp _).setCell zp _
    | true=>
      have Hz:Hid (-last=Z):=by have hz:=HZ.out;simp only[if_true]at hz;exact hz
      have hneg:∀W,Cv 114 #[.agg #[aj (aK last),ai (nt last.natAbs)]] W (dx (-last)):=λW=>by have:=ah4 (aK last) (nt last.natAbs) W Lq.out;rw[gu]at this;exact this
      go_wp2_with fail;refine aZ (Hb.an ag) (hneg _) λw4 ag aC=>?_;clear hneg;go_wp2;have r0:w4.cell? ⟨w.heap.size,0,none⟩=some (aj false):=ag.2.1.out.cell 0;have r1:w4.cell? ⟨w.heap.size,1,none⟩=some (.string ⟨#[]⟩):=ag.2.1.out.cell 1;refine bodyPost_ret (v:=.agg #[aj (aK (-last)),ai (nt (-last).natAbs)]) (by simp[results,Tryz.results113,go_sem,r0,r1]) rfl ⟨by rw[Hz.out],?_⟩;exact((DU.trans (ag.1.out.mono (by have:=Hq.out.2.2.2;omega))).setCell zp _).setCell zp _
def ana (n l k:Nat)(f:Nat->Nat->Int)(last:Int)(t:Bool)(Q:Nat)(hk:k+l=n)(hl:last.natAbs<2^Q)(hf:∀a b,a<n->b<n->(f a b).natAbs<2^Q)(hex:gZ n l k f last):(ft n l k f last t).natAbs<2^(2^l* (Q+1)):=by
 induction l generalizing k f last t Q with
 | zero=>
   unfold ft;have h1:2^Q<=2^(2^0* (Q+1)):=Nat.pow_le_pow_right zd zm;split
   . rw[Int.natAbs_neg];omega
   . omega
 | succ l ih=>
   unfold ft;unfold gZ at hex;cases hp:rN f n k with
   |none=>exact Nat.pow_pos zd
   | some m=>
     rw[hp]at hex;simp only at hex⊢;have Jj:=nO hp;obtain⟨g,hg⟩:∃g,g=cN f k (k+m):=⟨_,rfl⟩;rw[<-hg]at hex⊢;have hkn:k<n:=by omega
     have ji:∀a b,a<n->b<n->(g a b).natAbs<2^Q:=by
      intro a b ha hb;rw[hg];unfold cN;refine hf _ _ ?_ hb;split
      . omega
      . split
        . omega
        . exact ha
     have Ig:2^Q<=2^(2*Q+1):=Nat.pow_le_pow_right zd zo;have e:2^(l+1) * (Q+1)=2^l* (2*Q+1+1):=by rw[Nat.pow_succ,Nat.mul_assoc];congr 1
     rw[e];refine ih (k+1) _ _ _ (2*Q+1) zo (Nat.lt_of_lt_of_le (ji k k hkn hkn) Ig) (λa b ha hb=>?_) hex.2;unfold ej;split
     . rename_i h4
       have h5:=(Wc g k a b Q (ji a b ha hb) (ji k k hkn hkn) (ji a k ha hkn) (ji k b hkn hb)).2.2;rcases div_lt _ last _ h5 with h6|h6
       . exact h6
       . exact absurd (hex.1 a b h4.1 ha h4.2 hb) h6
     . exact Nat.lt_of_lt_of_le (ji a b ha hb) Ig
def cj (D:List (List Dyadic))(i j:Nat):Dyadic:=(D.getD i []).getD j 0
def axt (D:List (List Dyadic))(n:Nat)(g:Dyadic->Int)(hl:D.length=n)(hr:∀r∈D,r.length=n):(D.map λr=>r.map g)=fh (λi j=>g (cj D i j)) n:=by
 apply List.ext_getElem
 . simp[fh,hl]
 . intro i h1 h2;have hi:i<D.length:=by simpa using h1
   have hri:=hr _ (List.getElem_mem hi);apply List.ext_getElem
   . simp[fh,hri]
   . intro j h3 h4;have hj:j<D[i].length:=by simpa using h3
     simp[fh,cj,List.getD_eq_getElem?_getD,hi,hj]
def abp {D:List (List Dyadic)}{n i j:Nat}(hl:D.length=n)(hr:∀r∈D,r.length=n)(hi:i<n)(hj:j<n):∃r∈D,cj D i j∈r:=by
 have h1:i<D.length:=by omega
 have h2:j<D[i].length:=by rw[hr _ (List.getElem_mem h1)];exact hj
 refine⟨D[i],List.getElem_mem h1,?_⟩;have:cj D i j=D[i][j]:=by simp[cj,List.getD_eq_getElem?_getD,h1,h2]
 rw[this];exact List.getElem_mem h2
def Su (a:Option Addr)(cap n:Nat)(rows:List (List Raw))(B:Nat)(D:List (List Dyadic))(X:Dyadic)(w:World)(hn:1<=n)(dv:n<=4)(hL:rows.length=n)(hrow:∀r∈rows,r.length=n)(ha:bQ w a rows)
 (hfit:∀r∈rows,∀c∈r,Fit B c) (bX:1<=B) (hB:B<=1000000) (hT:aR w) (hD:(rows.map λr=>r.map aJ)=D) (hX:cX n (cj D)=X):
 Cv 67 #[.slice a n cap] w (.tuple #[cw X,ah 0]):=by
 obtain⟨low,kZ⟩:=aI (ot 0 D);have hDl:D.length=n:=by rw[<-hD];simp[hL]
 have MK:∀r∈D,r.length=n:=by intro r hr;rw[<-hD]at hr;obtain⟨x,hx,rfl⟩:=List.mem_map.1 hr;simpa using hrow x hx
 have mg:∀r∈D,∀d∈r,Sm B d:=by intro r hr d hd;rw[<-hD]at hr;obtain⟨x,hx,rfl⟩:=List.mem_map.1 hr;obtain⟨y,hy,rfl⟩:=List.mem_map.1 hd;exact(hfit x hx y hy).2
 have hlo:=VJ 0 D;rw[kZ]at hlo;have hlb: -(B:Int)<=low:=by rw[<-kZ];exact VI 0 D _ zo (λr hr d hd=>(mg r hr d hd).parts.2.1)
 obtain⟨f,hf⟩:∃f:Nat->Nat->Int,f=λi j=>sO low (cj D i j):=⟨_,rfl⟩;have zG:(D.map λr=>r.map (sO low))=fh f n:=by rw[hf];exact axt D n (sO low) hDl MK
 have hK:∀a b,a<n->b<n->(f a b).natAbs<2^(4*B):=by
  intro i j hi hj;obtain⟨r,hr,hm⟩:=abp hDl MK hi hj;obtain⟨s1,s2,s3⟩:=(mg r hr _ hm).parts;rw[hf];show(sO low (cj D i j)).natAbs<_
  unfold sO;rw[Int.natAbs_mul,Int.natAbs_pow,show 4*B=2*B+2*B by omega,Nat.pow_add];exact Nat.lt_of_lt_of_le (Nat.mul_lt_mul_of_pos_right s1 (Nat.pow_pos zd)) (Nat.mul_le_mul_left _ (Nat.pow_le_pow_right zd zo))
 have hent:∀i j,i<n->j<n->cj D i j=Dyadic.ofIntWithPrec (f i j) (-low):=by intro i j hi hj;obtain⟨r,hr,hm⟩:=abp hDl MK hi hj;rw[hf];exact(awH low _ (hlo.2 r hr _ hm)).symm
 have kD:=aoX n hn dv f (cj D) (-low) hent;have hex:=abt n hn dv f;have hzl:=ana n n 0 f 1 false (4*B) zo (Nat.one_lt_two_pow zo) hK hex;obtain⟨z,hz⟩:=aI (ft n n 0 f 1 false);rw[hz]at hzl kD;have afa:(nt z.natAbs).length<=34359738368:=by refine ll hzl ?_;have:2^n<=2^4:=Nat.pow_le_pow_right zd dv;have:=Nat.mul_le_mul_right (4*B+1) this;omega
 obtain⟨e,he⟩:∃e:Int,low*n=e:=⟨_,rfl⟩;have heb: -4000000<=e/\e<=4000000:=by
  have hl0:=hlo.1;have hc:n=1\/n=2\/n=3\/n=4:=by omega
  rcases hc with rfl|rfl|rfl|rfl<;>omega
 have oY:aJ (aK z,nt z.natAbs,e)=X:=by
  rw[<-hX,kD];show Dyadic.ofIntWithPrec (iv (aK z) (nt z.natAbs)) (-e)=_
  rw[gu,<-he];congr 1;rw[Int.mul_comm,Int.mul_neg]
 obtain⟨nl,hnl⟩:=aI (-low);have hw1:IntKind.i64.wrap (-nl)=low:=by rw[IntKind.wrap_i64];have:=hlo.1;omega
 have hw2:IntKind.i64.wrap (low* (n:Int))=e:=by rw[he,IntKind.wrap_i64];omega
 have hm0:xG rows=0:=by
  unfold xG;rw[if_neg];rintro(h|h)
  . omega
  . rw[List.any_eq_true]at h;obtain⟨r,hr,h⟩:=h;have:=hrow r hr;simp at h;omega
 have hch:=λW=>λ(h:bQ W a rows)=>VO a n cap rows W hL zo h;rw[hm0]at hch;have hsc:=λW=>λ(h:bQ W a rows) (hT:aR W)=>ag7 a n cap n rows B low W hL zo zo hrow h hfit zo hT (by rw[hD];exact kZ);rw[hD,zG,hnl]at hsc;have hbr:=λv W base=>λ(h:jR W base n (fh f n) n v) (h2:base<=W.heap.size)=>ane base n (4*B) f v W hn dv h h2 zo hK zo;rw[hz]at hbr;have hmk:=λW=>λ(hT:aR W)=>zL (aK z) (nt z.natAbs) e X oY W afa zo hT;obtain⟨tq,kN,vW,lK,Ha,HT⟩:=fw hch hsc hbr hmk ha hT;clear hch hsc hbr hmk ha hT hm0 oY heb he afa hz hzl hex kD hent hK zG hf hlb hlo mg MK hDl kZ hD hX hfit hrow hL hnl;have Hb:=hbz w;go_enter Tryz.func67,Tryz.ntmps67;go_wp2_with fail;refine il w (Hb.an trivial) 48 [aj false,.string ⟨#[]⟩,ah 0] λW bi ag aC=>?_;have HA:Hid (bQ W a rows):=Ha.out.below ag.2.1.out;have HU:Hid (aR W):=HT.out.below ag.2.1.out;go_wp2_with fail;refine aZ (HA.an<|HU.an ag) (tq.out _ HA.out) λw1 ag aC=>?_;go_wp2_with fail;refine(kN.out _ ag.1.out ag.2.1.out).mono ?_;rintro e' w2 ⟨v,rfl,hO,hb2⟩;have HO:=az hO;have vN:=hb2.size;clear hO;go_wp2_with fail;refine(vW.out v w2 w1.heap.size HO.out vN).mono ?_;rintro e' w3 ⟨rfl,hb3⟩;have hb4:=hb2.trans hb3;clear hb2 hb3 HO;obtain⟨ag,aC⟩:=qX hb4 ag;skip
 clear hb4;go_wp2_with fail;refine aZ ag (lK.out _ ag.2.1.out) λw4 ag aC=>?_;go_wp2;refine eH (bG w4 (w.heap.size) 0 (bY X)) bM ?_;intro w9 hs0;have ag:=cH hs0 ag;simp only[cB,List.set]at ag;have aC:=qC ag;refine bodyPost_ret (v:=.tuple #[cw X,ah 0]) (by simp[results,Tryz.results67,go_sem,aC]) rfl ⟨rfl,ag.2.2.2.1.out⟩
def gy (rows:List (List Raw)):Nat->Nat->Dyadic:=λa b=>cj (rows.map λr=>r.map aJ) a b
def ao0 (o p:List Raw)(k:Nat)(h:k<p.length)(h':k<o.length):(iY o p).getD k 0=aJ p[k]-aJ o[k]:=by unfold iY;rw[List.getD_eq_getElem?_getD,List.getElem?_zipWith];simp[h,h']
def xN (rows:List (List Raw))(a b:Nat)(ha:a<rows.length)(hb:b<rows[a].length):gy rows a b=aJ rows[a][b]:=by simp[gy,cj,List.getD_eq_getElem?_getD,ha,hb]
def WV (n:Nat)(rows:List (List Raw))(hL:rows.length=n+1)(hrow:∀r∈rows,r.length=n)(i j:Nat)(hi:i<n)(hj:j<n):
 cj ((rows.drop 1).map λp=>iY (rows.getD 0 []) p) i j=gy rows (i+1) j-gy rows 0 j:=by
 have h0:0<rows.length:=by omega
 have h1:i+1<rows.length:=by omega
 have l0:=hrow _ (List.getElem_mem h0);have l1:=hrow _ (List.getElem_mem h1);rw[xN rows (i+1) j h1 zo,xN rows 0 j h0 zo];have e0:rows.getD 0 []=rows[0]:=by simp[h0]
 have e1:((rows.drop 1).map λp=>iY (rows.getD 0 []) p).getD i []=iY rows[0] rows[i+1]:=by rw[e0,List.getD_eq_getElem?_getD,List.getElem?_map,List.getElem?_drop];rw[show 1+i=i+1 by omega,List.getElem?_eq_getElem h1];rfl
 unfold cj;rw[e1,ao0 _ _ _ zo zo]
def GC (n:Nat)(dv:n<=4){e f:Nat->Nat->Dyadic}(h:∀i j,i<n->j<n->e i j=f i j):cX n e=cX n f:=by
 have hc:n=0\/n=1\/n=2\/n=3\/n=4:=by omega
 rcases hc with rfl|rfl|rfl|rfl|rfl
 . rfl
 . exact h 0 0 zo zo
 . unfold cX;simp only;rw[h 0 0 zo zo,h 0 1 zo zo,h 1 0 zo zo,h 1 1 zo zo]
 . unfold cX;simp only;rw[h 0 0 zo zo,h 0 1 zo zo,h 0 2 zo zo,h 1 0 zo zo,h 1 1 zo zo,h 1 2 zo zo,h 2 0 zo zo,h 2 1 zo zo,h 2 2 zo zo]
 . unfold cX;simp only;rw[h 0 0 zo zo,h 0 1 zo zo,h 0 2 zo zo,h 0 3 zo zo,h 1 0 zo zo,h 1 1 zo zo,h 1 2 zo zo,h 1 3 zo zo,h 2 0 zo zo,h 2 1 zo zo,h 2 2 zo zo,h 2 3 zo zo,h 3 0 zo zo,h 3 1 zo zo,h 3 2 zo zo,h 3 3 zo zo]
def Ss {B n:Nat}{e:Nat->Nat->Dyadic}(hn:1<=n)(dv:n<=4)(h:∀i j,i<n->j<n->Sm B (e i j)):Sm (4*B+6) (cX n e):=by
 have m2:∀a b c d:Dyadic,Sm B a->Sm B b->Sm B c->Sm B d->Sm (2*B+1) (a*b-c*d):=λa b c d ha hb hc hd=>(Sm.sub (Sm.mul ha hb) (Sm.mul hc hd)).mono zo;have m3:∀x y:Dyadic,Sm B x->Sm (2*B+1) y->Sm (3*B+1) (x*y):=λx y hx hy=>(Sm.mul hx hy).mono zo;have m4:∀x y z:Dyadic,Sm (3*B+1) x->Sm (3*B+1) y->Sm (3*B+1) z->Sm (3*B+3) (x-y+z):=λx y z hx hy hz=>(Sm.add (Sm.sub hx hy) (hz.mono zo)).mono zo;have m5:∀x y:Dyadic,Sm B x->Sm (3*B+3) y->Sm (4*B+3) (x*y):=λx y hx hy=>(Sm.mul hx hy).mono zo;have hc:n=1\/n=2\/n=3\/n=4:=by omega
 rcases hc with rfl|rfl|rfl|rfl
 . exact(h 0 0 zo zo).mono zo
 . exact(Sm.sub (Sm.mul (h 0 0 zo zo) (h 1 1 zo zo)) (Sm.mul (h 0 1 zo zo) (h 1 0 zo zo))).mono zo
 . unfold cX;refine(m4 _ _ _ (m3 _ _ ?_ (m2 _ _ _ _ ?_ ?_ ?_ ?_)) (m3 _ _ ?_ (m2 _ _ _ _ ?_ ?_ ?_ ?_)) (m3 _ _ ?_ (m2 _ _ _ _ ?_ ?_ ?_ ?_))).mono zo<;>exact h _ _ zo zo
 . unfold cX;have m6:∀x y z u:Dyadic,Sm (4*B+3) x->Sm (4*B+3) y->Sm (4*B+3) z->Sm (4*B+3) u->Sm (4*B+6) (x-y+z-u):=λx y z u hx hy hz hu=>(Sm.sub (Sm.add (Sm.sub hx hy) (hz.mono zo)) (hu.mono zo)).mono zo;refine m6 _ _ _ _ (m5 _ _ ?_ (m4 _ _ _ (m3 _ _ ?_ (m2 _ _ _ _ ?_ ?_ ?_ ?_)) (m3 _ _ ?_ (m2 _ _ _ _ ?_ ?_ ?_ ?_)) (m3 _ _ ?_ (m2 _ _ _ _ ?_ ?_ ?_ ?_)))) (m5 _ _ ?_ (m4 _ _ _ (m3 _ _ ?_ (m2 _ _ _ _ ?_ ?_ ?_ ?_)) (m3 _ _ ?_ (m2 _ _ _ _ ?_ ?_ ?_ ?_)) (m3 _ _ ?_ (m2 _ _ _ _ ?_ ?_ ?_ ?_)))) (m5 _ _ ?_ (m4 _ _ _ (m3 _ _ ?_ (m2 _ _ _ _ ?_ ?_ ?_ ?_)) (m3 _ _ ?_ (m2 _ _ _ _ ?_ ?_ ?_ ?_)) (m3 _ _ ?_ (m2 _ _ _ _ ?_ ?_ ?_ ?_)))) (m5 _ _ ?_ (m4 _ _ _ (m3 _ _ ?_ (m2 _ _ _ _ ?_ ?_ ?_ ?_)) (m3 _ _ ?_ (m2 _ _ _ _ ?_ ?_ ?_ ?_)) (m3 _ _ ?_ (m2 _ _ _ _ ?_ ?_ ?_ ?_))))<;>exact h _ _ zo zo
def Sz (X:Dyadic):dR X=0↔X=0:=by
 constructor
 . intro h;have h1:dN X=0:=by
    unfold dR fU at h;by_cases h1:dN X<0
    . rw[if_pos h1]at h;cases h
    . rw[if_neg h1]at h;by_cases h2:dN X=0
      . exact h2
      . rw[if_neg h2]at h;cases h
   have h2:=uA X;rw[h1,zX]at h2;exact h2
 . rintro rfl;rfl
noncomputable def eU (rows:List (List Raw)):Int:=if gA rows=0 then 1 else if jd (gA rows).toNat (gy rows)=0 then 5 else 0
def awU (a:Option Addr)(cap n:Nat)(rows:List (List Raw))(B:Nat)(X:Dyadic)(w:World)(hn:1<=n)(dv:n<=4)(hL:rows.length=n+1)(hrow:∀r∈rows,r.length=n)(hcap:n+1<=cap)(ha:bQ w a rows)
 (hfit:∀r∈rows,∀c∈r,Fit B c) (hB:B<=900000) (hT:aR w) (hX:jd n (gy rows)=X):
 Cv 23 #[.slice a (n+1) cap] w (.tuple #[cw X,ah 0]):=by
 obtain⟨b,o,rfl⟩:∃b o,a=some ⟨b,o,none⟩:=by
  obtain⟨vals,hvl,hat,_⟩:=ha;rcases hat with h|⟨b,o,h,_⟩
  . rw[h]at hvl;simp at hvl;omega
  . exact⟨b,o,h⟩
 have hv:=Pi hL hrow hn zo;obtain⟨S,hS⟩:=aI ((rows.drop 1).map λp=>iY (rows.getD 0 []) p);have iM:S.length=n:=by rw[<-hS];simp[hL]
 have rC:∀r∈S,r.length=n:=by
  intro r hr;rw[<-hS]at hr;obtain⟨p,hp,rfl⟩:=List.mem_map.1 hr;have h0:0<rows.length:=by omega
  have e0:rows.getD 0 []=rows[0]:=by simp[h0]
  rw[Dt (by rw[e0,hrow _ (List.mem_of_mem_drop hp),hrow _ (List.getElem_mem h0)]),hrow _ (List.mem_of_mem_drop hp)]
 have kC:∀r∈S,∀d∈r,Sm (B+1) d:=by
  intro r hr d hd;rw[<-hS]at hr;obtain⟨p,hp,rfl⟩:=List.mem_map.1 hr;unfold iY at hd;obtain⟨i,hi,rfl⟩:=List.mem_iff_getElem.1 hd;rw[List.getElem_zipWith];have h0:0<rows.length:=by omega
  have e0:rows.getD 0 []=rows[0]:=by simp[h0]
  refine Sm.sub (hfit p (List.mem_of_mem_drop hp) _ (List.getElem_mem _)).2 (hfit (rows.getD 0 []) ?_ _ (List.getElem_mem _)).2;rw[e0];exact List.getElem_mem h0
 have hent:cX n (cj S)=X:=by rw[<-hX,GF];refine GC n dv (λi j hi hj=>?_);rw[<-hS];exact WV n rows hL hrow i j hi hj
 have hvar:=λW=>λ(h:bQ W (some ⟨b,o,none⟩) rows)=>ahZ (some ⟨b,o,none⟩) (n+1) cap rows W hL zo h;rw[hv]at hvar;have hrows:=λW=>λ(h:bQ W (some ⟨b,o,none⟩) rows) (hT:aR W)=>agW b o cap n n rows B W hL zo hcap hn hn zo hrow h hfit zo hT;rw[hS]at hrows;have oY:((S.map λr=>r.map canon).map λr=>r.map aJ)=S:=by
  rw[List.map_map];have:((λr:List Raw=>r.map aJ)∘λr:List Dyadic=>r.map canon)=id:=by
   funext r
   show(r.map canon).map aJ=r
   rw[List.map_map];have:(aJ∘canon)=id:=funext cJ;rw[this];simp
  rw[this];simp
 have kD:=λW a' c'=>λ(h:bQ W a' (S.map λr=>r.map canon)) (hT:aR W)=>Su a' c' n (S.map λr=>r.map canon) (B+1) S X W hn dv (by simpa using iM) (by
  intro r hr;obtain⟨x,hx,rfl⟩:=List.mem_map.1 hr
  simpa using rC x hx) h (by
  intro r hr c hc;obtain⟨x,hx,rfl⟩:=List.mem_map.1 hr;obtain⟨y,hy,rfl⟩:=List.mem_map.1 hc
  exact(kC x hx y hy).fit zo) zo zo hT oY hent
 obtain⟨yt,alB,Au,Ha,HT⟩:=fH hvar hrows kD ha hT;clear hvar hrows kD ha hT oY hent kC rC iM hS hv hX hfit hrow hL;have hn0:¬(n:Int)=0:=by omega
 have Hb:=hbz w;go_enter Tryz.func23,Tryz.ntmps23;go_wp2_with fail;refine il w (Hb.an trivial) 48 [aj false,.string ⟨#[]⟩,ah 0] λW bi ag aC=>?_;have HA:Hid (bQ W (some ⟨b,o,none⟩) rows):=Ha.out.below ag.2.1.out;have HU:Hid (aR W):=HT.out.below ag.2.1.out;go_wp2_with fail;refine aZ (HA.an<|HU.an ag) (yt.out _ HA.out) λw1 ag aC=>?_;go_wp2_with fail;refine(alB.out _ ag.1.out ag.2.1.out).mono ?_;rintro e w2 ⟨a',c',rfl,hcc,kE,au⟩;obtain⟨ag,aC⟩:=qX au ag;have HT2:=az kE;clear kE;go_wp2_with fail;refine aZ ag (Au.out _ a' c' HT2.out ag.2.1.out) λw3 ag aC=>?_;go_wp2;refine eH (bG w3 (w.heap.size) 0 (bY X)) bM ?_;intro w9 hs0;have ag:=cH hs0 ag;simp only[cB,List.set]at ag;have aC:=qC ag;refine bodyPost_ret (v:=.tuple #[cw X,ah 0]) (by simp[results,Tryz.results23,go_sem,aC]) rfl ⟨rfl,ag.2.2.2.1.out⟩
def Pg (a:Option Addr)(L cap:Nat)(rows:List (List Raw))(B:Nat)(w:World)(hL:rows.length=L)(hL5:L<=5)(hcap:L<=cap)(ha:bQ w a rows)
 (hfit:∀r∈rows,∀c∈r,Fit B c) (hB:B<=900000) (hT:aR w):
 Cv 40 #[.slice a L cap] w (ah (eU rows)):=by
 obtain⟨R,hR⟩:=aI (eU rows);rw[hR];unfold eU at hR;by_cases hv:gA rows=0
 . rw[if_pos hv]at hR;subst hR;have hvar:=λW=>λ(h:bQ W a rows)=>ahZ a L cap rows W hL zo h;rw[hv]at hvar;obtain⟨yt,Ha⟩:=aU hvar ha;have hsz:∀W,Bw w W->Cv 23 #[.slice a L cap] W (.tuple #[.agg #[aj false,.string ⟨#[]⟩,ah 0],ah 1]):=by intro w0 hw0;have pL:=az (Ha.out.below hw0);clear ha hfit hL hT hv hvar Ha hw0 w;obtain⟨w,JA⟩:∃w,w=w0:=⟨_,rfl⟩;subst JA;have Hb:=hbz w;go_enter Tryz.func23,Tryz.ntmps23;go_wp2_with fail;refine il w (Hb.an trivial) 48 [aj false,.string ⟨#[]⟩,ah 0] λW bi ag aC=>?_;go_wp2_with fail;refine aZ ag (yt.out _ (pL.out.below ag.2.1.out)) λw1 ag aC=>?_;go_wp2;refine eH (bG w1 (w.heap.size) 0 [aj false,.string ⟨#[]⟩,ah 0]) bM ?_;intro w9 hs0;have ag:=cH hs0 ag;simp only[cB,List.set]at ag;have aC:=qC ag;refine bodyPost_ret (v:=.tuple #[.agg #[aj false,.string ⟨#[]⟩,ah 0],ah 1]) (by simp[results,Tryz.results23,go_sem,aC]) rfl ⟨rfl,ag.2.1.out⟩
   have pV:=az hsz;clear hsz hvar ha hfit hL hT hv;have Hb:=hbz w;go_enter Tryz.func40,Tryz.ntmps40;go_wp2_with fail;refine aZ (Hb.an trivial) (pV.out _ Hb.out) λw1 ag aC=>?_;have hsz:=ag.1.out.size;obtain⟨W2,nV,bi,ag,aC⟩:=cM w1 ag 48 [aj false,.string ⟨#[]⟩,ah 0];go_wp2;refine bodyPost_ret (results_tmp rfl _ _ _) rfl ⟨rfl,?_⟩;exact((ag.2.1.out.setCell zp _).setCell zp _).setCell zp _
 . obtain⟨n,hn⟩:∃n:Nat,gA rows=n:=⟨(gA rows).toNat,by have:=EM rfl hv;omega⟩;rw[if_neg hv,hn,Int.toNat_natCast]at hR;obtain⟨c1,c2,c3,c4⟩:=EM hn zo;obtain rfl:L=n+1:=by omega
   obtain⟨X,hX⟩:=aI (jd n (gy rows));rw[hX]at hR;have hsz:=λW=>λ(h:bQ W a rows) (hT:aR W)=>awU a cap n rows B X W zo zo zo (λr hr=>by have:=c4 r hr;omega) hcap h hfit hB hT hX;have hXm:Sm (4* (B+1)+6) X:=by
    rw[<-hX,GF];refine Ss zo zo (λi j hi hj=>?_);have h0:0<rows.length:=by omega
    have h1:i+1<rows.length:=by omega
    have l0:=c4 _ (List.getElem_mem h0);have l1:=c4 _ (List.getElem_mem h1);rw[xN rows (i+1) j h1 zo,xN rows 0 j h0 zo];exact Sm.sub (hfit _ (List.getElem_mem h1) _ (List.getElem_mem _)).2 (hfit _ (List.getElem_mem h0) _ (List.getElem_mem _)).2
   have fM:∀W,Cv 72 #[.agg #[aj (aK (dN X)),ai (nt (dN X).natAbs),ah (dE X)]] W (ah (dR X)):=λW=>vg _ _ _ (dR X) (by show dR (aJ (canon X))=_;rw[cJ]) W (hXm.ok zo);obtain⟨g,hg⟩:=aI (dR X);have hgz:R=if g=0 then 5 else 0:=by
    rw[<-hR,<-hg];by_cases h:X=0
    . rw[if_pos h,if_pos ((Sz X).2 h)]
    . rw[if_neg h,if_neg (λh2=>h ((Sz X).1 h2))]
   rw[hg]at fM;obtain⟨pV,oO,Ha,HT,Za⟩:=fH hsz fM ha hT hgz;clear hsz fM ha hT hgz hg hX hR hfit c4 hL;have Hb:=hbz w;go_enter Tryz.func40,Tryz.ntmps40;go_wp2_with fail;refine aZ (Hb.an trivial) (pV.out _ (Ha.out.below Hb.out) (HT.out.below Hb.out)) λw1 ag aC=>?_;obtain⟨W2,nV,bi,ag,aC⟩:=cM w1 ag 48 (bY X);go_wp2_with fail;refine aZ ag (oO.out _) λw3 ag aC=>?_;by_cases hg0:g=0
   . have hr:=Za.out;rw[if_pos hg0]at hr;subst hr hg0;go_wp2;refine bodyPost_ret (results_tmp rfl _ _ _) rfl ⟨rfl,ag.2.1.out⟩
   . have hr:=Za.out;rw[if_neg hg0]at hr;subst hr;go_wp2;refine bodyPost_ret (results_tmp rfl _ _ _) rfl ⟨rfl,ag.2.1.out⟩
end Go.Proofs.YtnjfebkelecgaaaGreatDoor
namespace Go.Proofs.YtnjfebkelecgaaaGreatDoor
open Go.RowKit
def Rw (n B:Nat)(rows:List (List Raw)):Prop:=rows.length=n+1/\(∀r∈rows,r.length=n)/\∀r∈rows,∀c∈r,Fit B c
end Go.Proofs.YtnjfebkelecgaaaGreatDoor
namespace Go.Proofs.YtnjfebkelecgaaaGreatDoor
def ax4 {rows:List (List Raw)}{B:Nat}(h5:rows.length<=5)(hf:∀r∈rows,∀c∈r,Fit B c)(hv:gA rows≠0):∃m,m+1<=4/\Rw (m+1) B rows:=by obtain⟨c1,c2,c3,c4⟩:=EM rfl hv;obtain⟨m,hm⟩:∃m:Nat,gA rows=((m+1:Nat):Int):=⟨((gA rows)-1).toNat,by omega⟩;exact⟨m,by omega,by omega,λr hr=>by have:=c4 r hr;omega,hf⟩
def axy {rows:List (List Raw)}{B:Nat}(h5:rows.length<=5)(hf:∀r∈rows,∀c∈r,Fit B c)(h:eU rows=0):∃m,m+1<=4/\Rw (m+1) B rows:=
 ax4 h5 hf (λh0=>by unfold eU at h;rw[if_pos h0]at h;cases h)
end Go.Proofs.YtnjfebkelecgaaaGreatDoor
namespace Go.Proofs.YtnjfebkelecgaaaGreatDoor
open Go.RowKit
attribute [local go_sem ↓] Go.wp_at_zero Go.wp_at_succ
def Bv (w:World)(x:Value)(n v:Nat):Prop:=v<2^n/\((x=.slice none 0 0/\n=0)\/∃b o cap,x=.slice (some ⟨b,o,none⟩) n cap/\n<=cap/\∀j,j<n->w.cell? ⟨b,o+j,none⟩=some (.int .u8 (bd v j:Int)))
def Bv.below {w w':World}{x:Value}{n v:Nat}(h:Bv w x n v)(hb:Bw w w'):Bv w' x n v:=by
 refine⟨h.1,?_⟩;rcases h.2 with h|⟨b,o,cap,e,h1,hc⟩
 . exact .inl h
 . exact .inr ⟨b,o,cap,e,h1,λj hj=>cell_later hb (hc j hj)⟩
def Bv.aCt {w:World}{base:Nat}{e:TypeId}{x:Value}{n v:Nat}(h:w.ownsRow base e 1 x n (cZ n (bd v)))(hx:v<2^n):Bv w x n v:=by
 refine⟨hx,?_⟩;rcases h.2 with⟨rfl,rfl⟩ |⟨g,cap,cur,rfl,hb,hg,h2,h3,h4,h5⟩
 . exact .inl ⟨rfl,rfl⟩
 . refine .inr ⟨g,0,cap,rfl,h2,λj hj=>?_⟩;have:=h.cells (g:=g) rfl j _ (mG n (bd v) j hj);have e2:((⟨g,0,none⟩:Addr).add j)=⟨g,j,none⟩:=by simp[Addr.add];omega
   rw[Nat.zero_add,<-e2];exact this
def Bv.aCi {w:World}{b:Nat}{t:TypeId}{n v:Nat}(h:aH w b t (cZ n (bd v)))(hv:v<2^n):Bv w (.slice (some ⟨b,0,none⟩) n n) n v:=
 ⟨hv,.inr ⟨b,0,n,rfl,Nat.le_refl _,λj hj=>by rw[Nat.zero_add,h.cell,mG _ _ _ hj]⟩⟩
def agL (b o n cap v:Nat)(w:World)(hm:n<=1099511627776)(hcap:n<=cap)(hc:∀j,j<n->w.cell? ⟨b,o+j,none⟩=some (.int .u8 (bd v j:Int)))(hv:v<2^n):
 Cl 186 #[.slice (some ⟨b,o,none⟩) n cap] w λe w'=>e=.returned (.slice (some ⟨b,o,none⟩) (bT v) cap)/\w=w':=by
 have Hc:=az hc;clear hc;have Hv:=az hv;clear hv;go_enter Tryz.func186,Tryz.ntmps186;go_wp2_with fail;go_loop [3] (λx=>∃k:Nat,k<=n/\v<2^k/\x=ah (k:Int)) (λx=>(intOf x).toNat)
 case atStart=>exact⟨n,Nat.le_refl _,Hv.out,rfl⟩
 case round=>
  obtain⟨k,hk,hvk,rfl⟩:=hrel;have pW:=az hvk;clear hvk;by_cases h0:0<k
  . have hcell:w.cell? ⟨b,o+(k-1),none⟩=some (.int .u8 (bd v (k-1):Int)):=Hc.out _ zo;have bC:=rK n cap (k-1) ((k:Int)-1) (rfl:(some ⟨b,o,none⟩:Option Addr)=_) zo zo;rw[Nat.mul_one]at bC;by_cases hd:bd v (k-1)=0
    . have hd':((bd v (k-1):Int)==0)=true:=by simp[hd]
      have Hd:=az hd;clear hd;go_wp2;refine⟨⟨k-1,by omega,?_,by go_num⟩,by simp[intOf];omega⟩;refine anJ ?_ Hd.out;rw[show k-1+1=k by omega];exact pW.out
    . have hd':((bd v (k-1):Int)==0)=false:=by simp[hd]
      have Hd:=az hd;clear hd;go_wp2;go_ret;have e:bT v=k:=by have:=ant (v:=v) (k:=k-1) (by rw[show k-1+1=k by omega];exact pW.out) (anI Hd.out);omega
      rw[e];exact⟨rfl,rfl⟩
  . obtain rfl:k=0:=by omega
    go_wp2;go_ret;have e:bT v=0:=by have:=pW.out;simp at this;subst this;rfl
    rw[e];exact⟨rfl,rfl⟩
def agM (w:World):
 Cl 186 #[.slice none 0 0] w λe w'=>e=.returned (.slice none 0 0)/\w=w':=by
 go_enter Tryz.func186,Tryz.ntmps186;go_wp2_with fail;refine wp_loop_rounds 1 ?_;rw[rounds_succ];go_wp2;go_ret;exact⟨rfl,rfl⟩
def Gk (x:Value)(lo:Nat):Prop:=∀b o n c,x=.slice (some ⟨b,o,none⟩) n c->lo<=b
def WA (x:Value)(n v:Nat)(w:World)(hm:n<=1099511627776)(hx:Bv w x n v):
 Cl 186 #[x] w λe w'=>(∃y,e=.returned y/\Bv w y (bT v) v/\∀lo,Gk x lo->Gk y lo)/\w=w':=by
 have hl:=gX hx.1;rcases hx.2 with⟨rfl,rfl⟩ |⟨b,o,cap,rfl,h1,hc⟩
 . refine(agM w).mono ?_;rintro e w' ⟨rfl,rfl⟩;exact⟨⟨_,rfl,⟨sf v,.inl ⟨rfl,by omega⟩⟩,λ_ h=>h⟩,rfl⟩
 . refine(agL b o n cap v w hm h1 hc hx.1).mono ?_;rintro e w' ⟨rfl,rfl⟩;exact⟨⟨_,rfl,⟨sf v,.inr ⟨b,o,cap,rfl,by omega,λj hj=>hc j zo⟩⟩,λlo h b' o' n' c' e=>by cases e;exact h _ _ _ _ rfl⟩,rfl⟩
def aws (b o n cap v:Nat)(w:World)(hm:n<=1099511627776)(hcap:n<=cap)(hc:∀j,j<n->w.cell? ⟨b,o+j,none⟩=some (.int .u8 (bd v j:Int)))(hv:v<2^n):
 Cv 160 #[.slice (some ⟨b,o,none⟩) n cap] w (ai (nt v)):=by
 have hle:=gX hv;have hcut:=agL b o n cap v w hm hcap hc hv;have hvl:=sf v;have wn:Hid ((List.range ((bT v+7)/8)).map (λj=>UInt8.ofNat (v/256^((bT v+7)/8-1-j)%256))=nt v):=VZ _ _ (Gv v).1 (Gv v).2;generalize hL:bT v=L at*;obtain⟨nb,hnb⟩:=aI ((L+7)/8);have hmk:=sN (((L:Int)+7)/8) nb zo zo;have UB:((L:Int)+7)/8=(nb:Int):=by omega
 rw[UB]at hmk;rw[hnb]at wn;obtain⟨ajH,Hc,Hv,mP,HL⟩:=fH hcut hc hv hvl hL;clear hcut hc hv hvl hL;go_enter Tryz.func160,Tryz.ntmps160;go_wp2_with fail;refine ajH.out.mono ?_;rintro e w' ⟨rfl,rfl⟩;go_wp2_with fail;go_loopw[4] (λi wr=>∃k:Nat,k<=L/\i=ah (k:Int)/\aH wr w.heap.size 5 (cZ nb (λj=>v%2^k/256^(nb-1-j)%256))/\Bw w wr) (λi _=>L-(intOf i).toNat);case atStart=>
  refine⟨0,Nat.zero_le _,rfl,?_,zl⟩;have e:cZ nb (λj=>v%2^0/256^(nb-1-j)%256)=cZ nb λ_=>0:=pI λj hj=>by simp[Nat.mod_one]
  rw[e];exact aH.new _ _ _
 case round=>
  obtain⟨k,hk,rfl,hB,hb⟩:=hrel;by_cases hlt:k<L
  . have hq:k/8<nb:=by omega
    obtain⟨Z,hZ⟩:=aI (bd v k);have hZ1:Z<=1:=by rw[<-hZ];exact uX v k
    have mh:wr.cell? ⟨b,o+k,none⟩=some (.int .u8 (Z:Int)):=by rw[<-hZ];exact cell_later hb (Hc.out _ zo)
    obtain⟨A,hA⟩:=aI (v%2^k/256^(k/8)%256);have hcell:wr.cell? ⟨w.heap.size,nb-1-k/8,none⟩=some (.int .u8 (A:Int)):=by rw[hB.cell,mG _ _ _ zo,show nb-1-(nb-1-k/8)=k/8 by omega,hA]
    have hfree:wr.frozen? ⟨w.heap.size,nb-1-k/8,none⟩=false:=hB.free _;obtain⟨hb1,hb2⟩:=anP v k;rw[hA,hZ]at hb1 hb2;have bX:=hB.set (nb-1-k/8) (.int .u8 ((A+Z*2^(k%8):Nat):Int));have hb3:=hb.setCell (p:=⟨w.heap.size,nb-1-k/8,none⟩) (Nat.le_refl _) (.int .u8 ((A+Z*2^(k%8):Nat):Int))
    rw[CB,pI (g:=λj=>v%2^(k+1)/256^(nb-1-j)%256) λj hj=>by
     by_cases oc:j=nb-1-k/8
     . subst oc;rw[if_pos rfl,show nb-1-(nb-1-k/8)=k/8 by omega,hb1]
     . rw[if_neg oc,anQ v k _ zo]]at bX
    obtain⟨fp,Hb⟩:=aU bX hb3;clear hB hb bX hb3 hb1 hA hZ;have He:Hid ((((A:Int)+(Z:Int) *2^(k%8))%256)=((A+Z*2^(k%8):Nat):Int)):=by
     show _=_
     have:((Z:Int) *2^(k%8))=((Z*2^(k%8):Nat):Int):=by simp
     rw[this];omega
    clear hb2;go_wp2;go_region
    go_wp2;go_roundw;case rel=>rw[He.out];exact⟨k+1,by omega,by go_num,fp.out,Hb.out.drew⟩
    case measure=>exact bH
  . obtain rfl:k=L:=by omega
    rw[Nat.mod_eq_of_lt mP.out]at hB;have uf:=uH hB nb;rw[wn.out]at uf;have Hb:=az hb;clear hb hB;go_wp2;go_ret;exact⟨rfl,Hb.out⟩
def awt (w:World):
 Cv 160 #[.slice none 0 0] w (.string (bs [])):=by
 have hmk:=sN 0 0 rfl zo;have uf:=uH (aH.new w 5 (cZ 0 λ_=>0)) 0;go_enter Tryz.func160,Tryz.ntmps160;go_wp2_with fail;refine(agM w).mono ?_;rintro e w' ⟨rfl,rfl⟩;go_wp2_with fail;refine wp_loop_rounds 1 ?_;rw[rounds_succ];go_wp2;go_ret;exact⟨rfl,zl⟩
def xO (x:Value)(n v:Nat)(w:World)(hm:n<=1099511627776)(hx:Bv w x n v):
 Cv 160 #[x] w (ai (nt v)):=by
 rcases hx.2 with⟨rfl,rfl⟩ |⟨b,o,cap,rfl,h1,hc⟩
 . have h0:=hx.1;obtain rfl:v=0:=by simpa using h0
   exact awt w
 . exact aws b o n cap v w hm h1 hc hx.1
def ahS (n:Nat)(f:Nat->Nat):cZ (n+1) f=cZ n f++[.int .u8 (f n:Int)]:=by unfold cZ;rw[List.range_succ,List.map_append];rfl
def avV (N:Nat)(w:World)(hN:N<WW):
 Cv 125 #[.int .u64 (N:Int)] w (ai (nt N)):=by
 obtain⟨i0,hi,hz0,hz1,hz2⟩:=info_parts Tryz.aCr;have hNb:bT N<=64:=gX (by rw[mS]at hN;exact hN);have hW:=kq;go_enter Tryz.func125,Tryz.ntmps125;go_wp2_with fail;go_loopw[0,3] (λu v wr=>∃k:Nat,k<=bT N/\u=.int .u64 ((N/2^k:Nat):Int)/\wr.ownsRow w.heap.size 5 1 v k (cZ k (bd N))/\Bw w wr) (λu _ _=>(intOf u).toNat);case atStart=>exact⟨0,Nat.zero_le _,by simp,World.ownsRow_nil _ _ _ _,Below.refl _ _⟩
 case round=>
  obtain⟨k,hk,rfl,hown,hb⟩:=hrel;obtain⟨M,hM⟩:=aI (N/2^k);have DG:M<18446744073709551616:=by have:=Nat.div_le_self N (2^k);omega
  have HM:=az hM;rw[hM];have qD:N/2^(k+1)=M/2:=by rw[Nat.pow_succ,<-Nat.div_div_eq_div_mul,hM]
  have jg:bd N k=M%2:=by unfold bd;rw[hM]
  obtain⟨Al,ju⟩:=aU qD jg;clear hM qD jg hW hN;by_cases h0:0<M
  . have h01:(0:Int)<(M:Int):=by omega
    have hkl:k<bT N:=by
     rcases Nat.lt_or_ge k (bT N)with h|h
     . exact h
     . have h1:N<2^k:=Nat.lt_of_lt_of_le (sf N) (Nat.pow_le_pow_right zd h);have:=HM.out;rw[Nat.div_eq_of_lt h1]at this;omega
    have hs0:=hb.size;have rp:=az hown;clear hown;go_wp2_with (first| (at_builtin;refine wpList_append_own _ rfl _ _ 84 rfl w.heap.size 5 i0 (.int .u8 0) 1 1 Tryz.underlying84 hi hz0 hz1 hz2 rfl zd _ _ _ rfl (rp.out.alloc _) ⟨wr.heap.size,0,none⟩ 1 1 [.int .u8 ((M:Int)%2)] rfl rfl (cell_one_new _ _ _) zy zx zo zi ?_;intro v' w1 ho hg _;obtain⟨Ho,Hg⟩:=aU ho hg;clear ho hg));go_roundw;case rel=>
     refine⟨k+1,by omega,?_,?_,?_⟩
     . rw[Al.out];go_num
     . rw[ahS,ju.out];have e:((M%2:Nat):Int)=(M:Int)%2:=by omega
       rw[e];exact Ho.out
     . exact(hb.alloc hs0 _).grown Hg.out zi (λj e=>dz rp.out j e)
    case measure=>exact bH
  . obtain rfl:M=0:=by omega
    have hkN:N<2^k:=by have:=HM.out;exact(Nat.div_eq_zero_iff_lt (Nat.pow_pos zd)).1 this
    obtain⟨PS,Hb⟩:=aU (Bv.aCt hown hkN) hb;clear hown hkN hb;go_wp2_with fail;refine(xO u3 k N wr zo PS.out).mono ?_;rintro e w2 ⟨rfl,hb2⟩;have cQ:=az hb2;clear hb2;go_wp2;go_ret;exact⟨rfl,aO Hb.out cQ.out⟩
def RU (a:Nat)(ha:a<256):bits .and .u8 (a:Int) 1=((a%2:Nat):Int):=by
 have h1:(BitVec.ofInt 8 (a:Int)).toNat=a:=by rw[BitVec.ofInt_natCast,BitVec.toNat_ofNat];exact Nat.mod_eq_of_lt zo
 show IntKind.u8.wrap ((BitVec.ofInt 8 (a:Int)&&&BitVec.ofInt 8 1).toNat:Int)=_
 rw[BitVec.toNat_and,h1,show(BitVec.ofInt 8 1).toNat=1 from rfl,Nat.and_one_is_mod,IntKind.wrap_u8];omega
def rO (l:List UInt8)(w:World)(hl:l.length<=68719476736):
 Cl 161 #[ai l] w λe w'=>(∃y,e=.returned y/\Bv w' y (bT (nv l)) (nv l))/\Bw w w':=by
 obtain⟨i0,hi,hz0,hz1,hz2⟩:=info_parts Tryz.aCr;have hsz:(bs l).size=l.length:=gY l;go_enter Tryz.func161,Tryz.ntmps161;go_wp2_with fail;go_loopw[3,4,5] (λv i _ wr=>∃m:Nat,m<=l.length/\i=ah ((l.length:Int)-1-(m:Int))/\wr.ownsRow w.heap.size 5 1 v (8*m) (cZ (8*m) (bd (nv l)))/\Bw w wr) (λ_ i _ _=>(intOf i+1).toNat);case atStart=>exact⟨0,Nat.zero_le _,by go_num,World.ownsRow_nil _ _ _ _,Below.refl _ _⟩
 case round=>
  obtain⟨m,hm,rfl,hown,hb⟩:=hrel;obtain⟨rp,Hb⟩:=aU hown hb;clear hown hb;by_cases hlt:m<l.length
  . have hge:(m:Int)<=(l.length:Int)-1:=by omega
    have iA:=uv l ((l.length:Int)-1-(m:Int)) (l.length-1-m) zo zo;have ajw:Hid (∀k,k<8->l[l.length-1-m].toNat/2^k%2=bd (nv l) (8*m+k)):=λk hk=>atU l m k hlt hk;have hC:=(l[l.length-1-m]'zo).toNat_lt;generalize hCe:l[l.length-1-m].toNat=C at*;clear hCe;go_wp2_with fail;go_loopw[3,5] (λv j wr=>∃k:Nat,k<=8/\j=ah (k:Int)/\wr.ownsRow w.heap.size 5 1 v (8*m+k) (cZ (8*m+k) (bd (nv l)))/\Bw w wr) (λ_ j _=>8-(intOf j).toNat);case atStart=>exact⟨0,Nat.zero_le _,rfl,rp.out,Hb.out⟩
    case round=>
     clear rp Hb;obtain⟨k,hk,rfl,hown,hb⟩:=hrel;obtain⟨rp,Hb⟩:=aU hown hb;have hs0:=hb.size;clear hown hb;by_cases hk8:k<8
     . obtain ⟨Z,hZ⟩:=aI (C/2^k%2);have hbk:=ajw.out k hk8;rw[hZ]at hbk;have tj:=az hbk;clear hbk;have hand:bits .and .u8 ((C:Int)/2^k) 1=(Z:Int):=by
        have e:(C:Int)/2^k=((C/2^k:Nat):Int):=by simp
        have:=Nat.div_le_self C (2^k);rw[e,RU _ zo,hZ]
       clear hZ;go_wp2_with (first| (at_builtin;refine wpList_append_own _ rfl _ _ 84 rfl w.heap.size 5 i0 (.int .u8 0) 1 1 Tryz.underlying84 hi hz0 hz1 hz2 rfl zd _ _ _ rfl (rp.out.alloc _) ⟨wr.heap.size,0,none⟩ 1 1 [.int .u8 (Z:Int)] rfl rfl (cell_one_new _ _ _) zy zx zo zi ?_;intro v' w1 ho hg _;obtain⟨Ho,Hg⟩:=aU ho hg;clear ho hg));go_roundw;case rel=>
        refine⟨k+1,by omega,?_,?_,?_⟩
        . go_num
        . rw[<-Nat.add_assoc,ahS,<-tj.out];exact Ho.out
        . exact(Hb.out.alloc hs0 _).grown Hg.out zi (λj e=>dz rp.out j e)
       case measure=>exact bH
     . obtain rfl:k=8:=by omega
       go_wp2;go_roundw;case rel=>exact⟨m+1,by omega,by go_num,rp.out,Hb.out⟩
       case measure=>exact bH
  . obtain rfl:m=l.length:=by omega
    have PS:=az (Bv.aCt rp.out (qQ l));clear hlt;go_wp2_with fail;refine(WA u3 (8*l.length) (nv l) wr zo PS.out).mono ?_;rintro e w2 ⟨⟨y,rfl,hy,_⟩,rfl⟩;have Hy:=az hy;clear hy;go_wp2;go_ret;exact⟨⟨_,rfl,Hy.out⟩,Hb.out⟩
def EF (x:Value)(n v i:Nat)(w:World)(hx:Bv w x n v)(hi:i<=1099511627776)(hn:n<=1099511627776):
 Cl 202 #[x,ah (i:Int)] w λe w'=>e=.returned (.int .u8 (bd v i:Int))/\w=w':=by
 obtain⟨hv,h⟩:=hx;by_cases hlt:i<n
 . rcases h with⟨rfl,h0⟩ |⟨b,o,cap,rfl,h1,hc⟩
   . omega
   . have hcell:=hc i hlt;have bC:=rK n cap i (i:Int) (rfl:(some ⟨b,o,none⟩:Option Addr)=_) hlt rfl;rw[Nat.mul_one]at bC;clear hc hv;go_enter Tryz.func202,Tryz.ntmps202;go_wp2;go_ret;exact⟨rfl,rfl⟩
 . have h0:bd v i=0:=anl hv zo;have H0:=az h0;clear h0 hv;rcases h with⟨rfl,h0⟩ |⟨b,o,cap,rfl,h1,hc⟩
   . subst h0;go_enter Tryz.func202,Tryz.ntmps202;go_wp2;go_ret;exact⟨by rw[H0.out];rfl,rfl⟩
   . clear hc;go_enter Tryz.func202,Tryz.ntmps202;go_wp2;go_ret;exact⟨by rw[H0.out];rfl,rfl⟩
def Bv.len {w:World}{x:Value}{n v:Nat}(h:Bv w x n v):∃a cap,x=.slice a n cap:=by
 rcases h.2 with⟨rfl,rfl⟩ |⟨b,o,cap,rfl,_⟩
 . exact⟨_,_,rfl⟩
 . exact⟨_,_,rfl⟩
def agK (x y:Value)(n m v u:Nat)(w:World)(hx:Bv w x n v)(hy:Bv w y m u)(hn:n<=1099511627776)(hm:m<=1099511627776):
 Cl 187 #[x,y] w λe w'=>e=.returned (ah (dH v u))/\w=w':=by
 obtain⟨a,cap,qJ⟩:=hx.len;obtain⟨a',cap',JB⟩:=hy.len;have rE:=λi (hi:i<=1099511627776)=>EF x n v i w hx hi hn;have hby:=λi (hi:i<=1099511627776)=>EF y m u i w hy hi hm;have hv:=hx.1;have hu:=hy.1;subst qJ;subst JB;obtain⟨Fj,uN,Hv,Hu⟩:=dP rE hby hv hu;clear rE hby hv hu hx hy;obtain⟨M,hM⟩:=aI (max n m);have hMI:max (n:Int) (m:Int)=(M:Int):=by omega
 have cu:Hid (v/2^M=u/2^M):=by
  show _=_
  rw[Nat.div_eq_of_lt (Nat.lt_of_lt_of_le Hv.out (Nat.pow_le_pow_right zd zo)),Nat.div_eq_of_lt (Nat.lt_of_lt_of_le Hu.out (Nat.pow_le_pow_right zd zo))]
 have DG:M<=1099511627776:=by omega
 clear hM;go_enter Tryz.func187,Tryz.ntmps187;go_wp2_with fail;go_loop [5] (λi=>∃k:Nat,k<=M/\v/2^k=u/2^k/\i=ah ((k:Int)-1)) (λi=>(intOf i+1).toNat)
 case atStart=>exact⟨M,Nat.le_refl _,cu.out,rfl⟩
 case round=>
  obtain⟨k,hk,hvk,rfl⟩:=hrel;have pW:=az hvk;clear hvk;by_cases h0:0<k
  . obtain⟨j,rfl⟩:∃j,k=j+1:=⟨k-1,by omega⟩;have rE:=Fj.out j zo;have hby:=uN.out j zo;obtain⟨yh,Hgt,Li⟩:=cE (λh=>aaF (v:=v) (u:=u) pW.out h) (λh=>aaF (v:=u) (u:=v) pW.out.symm h) (λh=>ank (v:=v) (u:=u) pW.out h);have hp1:=uX v j;have hq1:=uX u j;generalize bd v j=p at*;generalize bd u j=q at*;obtain⟨H1,H2⟩:=aU rE hby;clear rE hby;have hj:((j+1:Nat):Int)-1=(j:Int):=by omega
    rw[hj];clear hj h0;go_wp2_with fail;refine H1.out.mono ?_;rintro e w' ⟨rfl,rfl⟩;go_wp2_with fail;refine H2.out.mono ?_;rintro e w' ⟨rfl,rfl⟩;by_cases Ef:p<q
    . have arz:(p:Int)<(q:Int):=by omega
      go_wp2;go_ret;have:=yh.out Ef;exact⟨by unfold dH;rw[if_pos this];rfl,rfl⟩
    . have arz:¬(p:Int)<(q:Int):=by omega
      go_wp2_with fail;refine H1.out.mono ?_;rintro e w' ⟨rfl,rfl⟩;go_wp2_with fail;refine H2.out.mono ?_;rintro e w' ⟨rfl,rfl⟩;by_cases hqp:q<p
      . have arD:(q:Int)<(p:Int):=by omega
        go_wp2;go_ret;have:=Hgt.out hqp;exact⟨by unfold dH;rw[if_neg zo,if_pos this];rfl,rfl⟩
      . have arD:¬(q:Int)<(p:Int):=by omega
        go_wp2;refine⟨⟨j,by omega,Li.out zo,by go_num⟩,by simp[intOf]⟩
  . obtain rfl:k=0:=by omega
    have he:v=u:=by simpa using pW.out
    go_wp2;go_ret;exact⟨by unfold dH;rw[if_neg zo,if_neg zo];rfl,rfl⟩
def agQ (x y:Value)(n m v u:Nat)(w:World)(hx:Bv w x n v)(hy:Bv w y m u)(hn:n<=1099511627776)(hm:m<=1099511627776)(zH:u<=v):
 Cl 188 #[x,y] w λe w'=>(∃z,e=.returned z/\Bv w' z n (v-u)/\Gk z w.heap.size)/\Bw w w':=by
 obtain⟨a,cap,qJ⟩:=hx.len;obtain⟨a',cap',JB⟩:=hy.len;have rE:=λW (hW:Bw w W) i (hi:i<=1099511627776)=>EF x n v i W (hx.below hW) hi hn;have hby:=λW (hW:Bw w W) i (hi:i<=1099511627776)=>EF y m u i W (hy.below hW) hi hm;have wE:Hid (v-u<2^n):=by show _<_;have:=hx.1;omega
 subst qJ;subst JB;obtain⟨Fj,uN,Ge⟩:=cE rE hby zH;clear rE hby hx hy zH;have hmk:=sN (n:Int) n rfl zo;go_enter Tryz.func188,Tryz.ntmps188;go_wp2_with fail;go_loopw[6,7,8] (λb i _ wr=>∃k:Nat,k<=n/\i=ah (k:Int)/\b=.int .u8 (bb v u k:Int)/\aH wr w.heap.size 5 (cZ n (λj=>if j<k then bd (v-u) j else 0))/\Bw w wr) (λ_ i _ _=>n-(intOf i).toNat);case atStart=>
  refine⟨0,Nat.zero_le _,rfl,by rw[ani];rfl,?_,zl⟩;have e:cZ n (λj=>if j<0 then bd (v-u) j else 0)=cZ n λ_=>0:=pI λj hj=>by rw[if_neg zo]
  rw[e];exact aH.new _ _ _
 case round=>
  obtain⟨k,hk,rfl,rfl,hB,hb⟩:=hrel;by_cases hlt:k<n
  . obtain⟨H1,H2⟩:=aU (Fj.out wr hb k zo) (uN.out wr hb k zo);have hs:=anh v u k;have hd:=ang v u k Ge.out;have hp:=uX v k;have hq:=uX u k;have hr:=aaD v u k;have hcell:wr.cell? ⟨w.heap.size,k,none⟩=some (.int .u8 0):=by rw[hB.cell,mG _ _ _ hlt,if_neg zo];rfl
    have hfree:wr.frozen? ⟨w.heap.size,k,none⟩=false:=hB.free _;have bX:=hB.set k (.int .u8 ((bd (v-u) k:Nat):Int))
    rw[CB,pI (g:=λj=>if j<k+1 then bd (v-u) j else 0) λj hj=>by
     by_cases e:j=k
     . subst e;rw[if_pos rfl,if_pos zo]
     . rw[if_neg e];by_cases e2:j<k
       . rw[if_pos e2,if_pos zo]
       . rw[if_neg e2,if_neg zo]]at bX
    obtain⟨fp,Hb⟩:=aU bX (hb.setCell (p:=⟨w.heap.size,k,none⟩) (Nat.le_refl _) (.int .u8 ((bd (v-u) k:Nat):Int)));clear hB bX hb;generalize bd v k=p at*;generalize bd u k=q at*;generalize bb v u k=r at*;generalize bd (v-u) k=z at*;have Hs:=az hs;clear hs;obtain⟨S,hS⟩:=aI (2+p-q-r);have hS3:S<=3:=by omega
    have hw1:IntKind.u8.wrap (2+(p:Int))=2+(p:Int):=by rw[IntKind.wrap_u8];omega
    have hw2:IntKind.u8.wrap (2+(p:Int)-(q:Int))=2+(p:Int)-(q:Int):=by rw[IntKind.wrap_u8];omega
    have hw3:IntKind.u8.wrap (2+(p:Int)-(q:Int)-(r:Int))=(S:Int):=by rw[IntKind.wrap_u8];omega
    have hand:bits .and .u8 (S:Int) 1=(z:Int):=by rw[RU S zo,<-hd];omega
    obtain⟨HS,Hd⟩:=aU hS hd;clear hS hd;go_wp2_with fail;refine H1.out.mono ?_;rintro e w' ⟨rfl,rfl⟩;go_wp2_with fail;refine H2.out.mono ?_;rintro e w' ⟨rfl,rfl⟩;go_wp2;go_roundw;case rel=>refine⟨k+1,by omega,by go_num,?_,fp.out,Hb.out⟩;rw[Hs.out];have:=HS.out;congr 1;split<;>omega
    case measure=>exact bH
  . obtain rfl:k=n:=by omega
    rw[pI (g:=bd (v-u)) λj hj=>by rw[if_pos hj]]at hB;obtain⟨Hz,Hb⟩:=aU (Bv.aCi hB wE.out) hb;clear hB hb;go_wp2;go_ret;exact⟨⟨_,rfl,Hz.out,λb o n' c e=>by cases e;exact Nat.le_refl _⟩,Hb.out⟩
end Go.Proofs.YtnjfebkelecgaaaGreatDoor
namespace Go.Proofs.YtnjfebkelecgaaaGreatDoor
def aho (D:Nat->Dyadic)(q n:Nat)(hq:q<n)(h:∀k,k<n->k≠q->D k=0):sumTo D n=D q:=by
 have key:∀m,m<=n->sumTo D m=if q<m then D q else 0:=by
  intro m;induction m with
  |zero=>intro _;simp[sumTo]
  | succ m ih=>
    intro hm;rw[sumTo,ih zo];by_cases h1:m=q
    . subst h1;rw[if_neg (Nat.lt_irrefl _),if_pos (Nat.lt_succ_self _)];grind
    . rw[h m zo h1];rw[asl q m h1];grind
 rw[key n (Nat.le_refl _),if_pos hq]
def VX {α:Type}{l:List α}(h:l.Nodup){i j:Nat}{hi:i<l.length}{hj:j<l.length}(e:l[i]=l[j]):i=j:=by
 have h2:=List.pairwise_iff_getElem.1 h;rcases Nat.lt_trichotomy i j with h1|h1|h1
 . exact absurd e (h2 i j hi hj h1)
 . exact h1
 . exact absurd e.symm (h2 j i hj hi h1)
abbrev ja:=List (List Nat×Dyadic)
def mz (g:List Nat->Dyadic):ja->Dyadic
 |[]=>0
 |p::ps=>p.2*g p.1+mz g ps
def agp (g:List Nat->Dyadic)(a b:ja):mz g (a++b)=mz g a+mz g b:=by
 induction a with
 |nil=>simp only[List.nil_append,mz];grind
 |cons p a ih=>simp only[List.cons_append,mz,ih];grind
def aup (g:List Nat->Dyadic)(r:Nat->List Nat)(c:Nat->Dyadic)(n:Nat):mz g ((List.range n).map λk=>(r k,c k))=sumTo (λk=>c k*g (r k)) n:=by
 induction n with
 |zero=>rfl
 |succ n ih=>rw[List.range_succ,List.map_append,agp,ih,sumTo];simp only[List.map_cons,List.map_nil,mz];grind
def auo (g:List Nat->Dyadic)(P:Nat->ja)(n:Nat):mz g ((List.range n).flatMap P)=sumTo (λk=>mz g (P k)) n:=by
 induction n with
 |zero=>rfl
 |succ n ih=>rw[List.range_succ,List.flatMap_append,agp,ih,sumTo];simp only[List.flatMap_cons,List.flatMap_nil,List.append_nil]
def delta (r x:List Nat):Dyadic:=if x=r then 1 else 0
def tO (ps:ja)(r:List Nat):Dyadic:=mz (delta r) ps
def Ah (h:List Nat->Dyadic)(R:List (List Nat))(cs:List Dyadic):Dyadic:=sumTo (λk=>cs.getD k 0*h (R.getD k [])) R.length
def ayE {g h:List Nat->Dyadic}(R:List (List Nat))(cs:List Dyadic)(hg:∀x∈R,g x=h x):Ah g R cs=Ah h R cs:=by refine sumTo_congr _ (λk hk=>?_);rw[hg _ (by simp[hk])]
def ayD (h:List Nat->Dyadic)(R:List (List Nat))(hn:R.Nodup)(ps:ja)(hp:∀p∈ps,p.1∈R):Ah h R (R.map (tO ps))=mz h ps:=by
 have e:Ah h R (R.map (tO ps))=sumTo (λk=>tO ps (R.getD k []) *h (R.getD k [])) R.length:=by refine sumTo_congr _ (λk hk=>?_);simp[hk]
 rw[e];clear e;induction ps with
 |nil=>rw[sumTo_congr (g:=λ_=>0) _ (λk _=>by simp only[tO,mz];grind),axg];rfl
 | cons p ps ih=>
   rw[sumTo_congr (g:=λk=>p.2* (delta (R.getD k []) p.1*h (R.getD k []))+tO ps (R.getD k []) *h (R.getD k [])) _ (λk _=>by simp only[tO,mz];grind),axf,ih (λq hq=>hp q (by simp[hq])),ahn];obtain⟨q,hq,Ef⟩:=List.mem_iff_getElem.1 (hp p zm)
   rw[aho _ q _ hq (λk hk hne=>by
    unfold delta;have:p.1≠R.getD k []:=by
     rw[<-Ef];have e1:R.getD k []=R[k]:=by simp[hk]
     rw[e1];intro e2;exact hne (VX hn e2).symm
    rw[if_neg this];grind)]
   have e1:R.getD q []=p.1:=by simp[hq,Ef]
   rw[e1];unfold delta;rw[if_pos rfl];simp only[mz];grind
def pY (R:List (List Nat))(ps:ja):List Dyadic:=R.map (tO ps)
def aop (R:List (List Nat))(ps:ja):(pY R ps).length=R.length:=by simp[pY]
def ahp (x:List Nat)(k v:Nat)(hk:k<x.length):(x.set k v).sum+x.getD k 0=x.sum+v:=by
 induction x generalizing k with
 |nil=>simp at hk
 | cons a x ih=>
   cases k with
   |zero=>simp;omega
   |succ k=>have:=ih k (by simpa using hk);simp at this⊢;omega
def ap3 (x:List Nat)(k:Nat):x.getD k 0<=x.sum:=by
 induction x generalizing k with
 |nil=>simp
 | cons a x ih=>
   cases k with
   |zero=>simp
   |succ k=>have:=ih k;simp at this⊢;omega
def afk (x:List Nat)(k:Nat)(hk:k<x.length):(gm x k).sum=x.sum+1:=by have:=ahp x k (x.getD k 0+1) hk;unfold gm;omega
def Xh (l:Nat->Dyadic)(g:List Nat->Dyadic)(x:List Nat):Dyadic:=sumTo (λk=>l k*g (gm x k)) x.length
def uG (x:List Nat)(c:Dyadic)(l:Nat->Dyadic):ja:=(List.range x.length).map λk=>(gm x k,c*l k)
def Cy (R:List (List Nat))(cs:List Dyadic)(l:Nat->Dyadic):ja:=(List.range R.length).flatMap λk=>uG (R.getD k []) (cs.getD k 0) l
def auq (g:List Nat->Dyadic)(R:List (List Nat))(cs:List Dyadic)(l:Nat->Dyadic):mz g (Cy R cs l)=Ah (Xh l g) R cs:=by unfold Cy;rw[auo];refine sumTo_congr _ (λk _=>?_);unfold uG;rw[aup];unfold Xh;rw[<-ahn];exact sumTo_congr _ (λt _=>by grind)
def ahy {R R':List (List Nat)}{cs:List Dyadic}{l:Nat->Dyadic}{n:Nat}(hn:∀x∈R,x.length=n)(h1:∀x∈R,∀k,k<n->gm x k∈R'):∀p∈Cy R cs l,p.1∈R':=by
 intro p hp;unfold Cy at hp;rw[List.mem_flatMap]at hp;obtain⟨k,hk,hp⟩:=hp;rw[List.mem_range]at hk;unfold uG at hp;rw[List.mem_map]at hp;obtain⟨t,ht,rfl⟩:=hp;rw[List.mem_range]at ht;have hm:R.getD k []∈R:=by simp[hk]
 exact h1 _ hm t (by rw[hn _ hm]at ht;exact ht)
end Go.Proofs.YtnjfebkelecgaaaGreatDoor
namespace Go.Proofs.YtnjfebkelecgaaaGreatDoor
open Go.RowKit
abbrev aM:=List UInt8×Raw
def aW (t:aM):List Value:=[ai t.1,aj t.2.1,ai t.2.2.1,ah t.2.2.2]
def At.term {w:World}{a:Option Addr}{ts:List aM}(h:At w a (ts.flatMap aW))(k:Nat)(hk:k<ts.length){l:List UInt8}{s:Bool}{m:List UInt8}{e:Int}(hx:ts[k]=(l,s,m,e)):
 ∃b o,a=some ⟨b,o,none⟩/\bA w b (o+k*4) [ai l,aj s,ai m,ah e]:=by
 obtain⟨b,o,hab,hcs⟩:=h.elem (f:=aW) (sz:=4) (λ_=>rfl) zd k hk;refine⟨b,o,hab,λj hj=>?_⟩;have:=hcs j hj;rw[hx]at this;rw[this];unfold aW;rw[List.getElem?_eq_getElem (by simpa using hj)]
def wO (V:Int)(l:List UInt8)(x:Raw):Bool:=eN l V&& !(dR (aJ x)==0)&&(canon (aJ x)==x)
def je (V:Int)(ts:List aM)(k:Nat):Bool:=wO V (ts.getD k default).1 (ts.getD k default).2&&(k==0||Op.bytesLess (bs (ts.getD (k-1) default).1).toList (bs (ts.getD k default).1).toList)
def fx (V:Int)(ts:List aM):Int:=if ¬(0<=V/\V<=12)then 1 else if 4096<ts.length then 3 else if(List.range ts.length).all (je V ts)then 0 else 1
end Go.Proofs.YtnjfebkelecgaaaGreatDoor
namespace Go.Proofs.YtnjfebkelecgaaaGreatDoor
def Du (p:Nat->Nat->Dyadic):Nat->Nat->Dyadic:=λa b=>p (a+1) b-p 0 b
def mW (n:Nat)(e:Nat->Nat->Dyadic)(k i:Nat):Dyadic:=if(k+i)%2=1 then-cX (n-1) (gL e i k)else cX (n-1) (gL e i k)
def mV (n:Nat)(p:Nat->Nat->Dyadic)(k i:Nat):Dyadic:=mW n (Du p) k i*rP (jd n p)
def wS (n:Nat)(p:Nat->Nat->Dyadic)(x:Nat->Dyadic)(i:Nat):Nat->Dyadic
 |0=>0
 |k+1=>wS n p x i k+(x k-p 0 k) *mV n p k i
def ayf (n:Nat)(p:Nat->Nat->Dyadic)(x:Nat->Dyadic)(i k:Nat):wS n p x i k=rP (jd n p) *Em n (Du p) (λk=>x k-p 0 k) i k:=by
 induction k with
 |zero=>simp[wS,Em]
 |succ k ih=>unfold wS Em;rw[ih];unfold mV mW;generalize (if(k+i)%2=1 then-cX (n-1) (gL (Du p) i k)else cX (n-1) (gL (Du p) i k))=z;grind
def ah5 (n:Nat)(hn:1<=n)(dv:n<=4)(p:Nat->Nat->Dyadic)(x:Nat->Dyadic)(i:Nat)(hi:i<n):wS n p x i n=Pq n p x (i+1):=by rw[ayf,asv n hn dv _ _ i hi];unfold Pq;rw[aph];rfl
def wZ (n:Nat)(p:Nat->Nat->Dyadic)(x:Nat->Dyadic):Nat->Dyadic
 |0=>rP (jd n p) *jd n p
 |k+1=>wZ n p x k-Pq n p x (k+1)
def awL (X:Dyadic):rP X*X=if X<0 then-X else X:=by
 rw[ag9];split
 . grind
 . split<;>grind
def Dr {B n:Nat}{e:Nat->Nat->Dyadic}(dv:n<=4)(h:∀i j,i<n->j<n->Sm B (e i j)):Sm (4*B+6) (cX n e):=by
 by_cases h0:n=0
 . subst h0;exact Sm.one.mono zo
 . exact Ss zo dv h
def WR (X:Dyadic):Sm 1 (rP X):=by
 rw[ag9];split
 . exact Sm.neg Sm.one
 . split
   . exact Sm.zero _
   . exact Sm.one
def GG {B n:Nat}{p:Nat->Nat->Dyadic}(h:∀a b,a<=n->b<n->Sm B (p a b))(a b:Nat)(ha:a<n)(hb:b<n):Sm (B+1) (Du p a b):=Sm.sub (h (a+1) b zo hb) (h 0 b zo hb)
def aat {B n:Nat}{e:Nat->Nat->Dyadic}(hn:1<=n)(dv:n<=4)(h:∀i j,i<n->j<n->Sm B (e i j))(k i:Nat):Sm (4*B+6) (mW n e k i):=by
 have h2:Sm (4*B+6) (cX (n-1) (gL e i k)):=Dr zo (λa b ha hb=>h _ _ (by split<;>omega) (by split<;>omega));unfold mW;split
 . exact h2.neg
 . exact h2
def LR {B n:Nat}{p:Nat->Nat->Dyadic}(hn:1<=n)(dv:n<=4)(h:∀a b,a<=n->b<n->Sm B (p a b))(k i:Nat):Sm (4*B+11) (mV n p k i):=
 (Sm.mul (aat (B:=B+1) hn dv (λa b ha hb=>GG h a b ha hb) k i) (WR _)).mono zo
def ahc {B n:Nat}{p:Nat->Nat->Dyadic}(dv:n<=4)(h:∀a b,a<=n->b<n->Sm B (p a b)):Sm (4*B+11) (rP (jd n p) *jd n p):=by rw[GF];exact(Sm.mul (WR _) (Dr (B:=B+1) dv (λa b ha hb=>GG h a b ha hb))).mono zo
def XA {B n:Nat}{p:Nat->Nat->Dyadic}{x:Nat->Dyadic}(hn:1<=n)(dv:n<=4)(h:∀a b,a<=n->b<n->Sm B (p a b))(hx:∀b,b<n->Sm B (x b))(i k:Nat)(hk:k<=n):Sm (5*B+12+k) (wS n p x i k):=by
 induction k with
 |zero=>exact Sm.zero _
 |succ k ih=>have h1:=ih zo;have h2:Sm (5*B+12) ((x k-p 0 k) *mV n p k i):=(Sm.mul (Sm.sub (hx k zo) (h 0 k zo zo)) (LR hn dv h k i)).mono zo;exact(h1.add (h2.mono zo)).mono zo
def ayu {B n:Nat}{p:Nat->Nat->Dyadic}{x:Nat->Dyadic}(hn:1<=n)(dv:n<=4)(h:∀a b,a<=n->b<n->Sm B (p a b))(hx:∀b,b<n->Sm B (x b))(i:Nat)(hi:i<n):Sm (5*B+16) (Pq n p x (i+1)):=by rw[<-ah5 n hn dv p x i hi];exact(XA hn dv h hx i n (Nat.le_refl _)).mono zo
def ayi {B n:Nat}{p:Nat->Nat->Dyadic}{x:Nat->Dyadic}(hn:1<=n)(dv:n<=4)(h:∀a b,a<=n->b<n->Sm B (p a b))(hx:∀b,b<n->Sm B (x b))(k:Nat)(hk:k<=n):Sm (5*B+16+k) (wZ n p x k):=by
 induction k with
 |zero=>exact(ahc dv h).mono zo
 |succ k ih=>exact(Sm.sub (ih zo) ((ayu hn dv h hx k zo).mono zo)).mono zo
def wC (n:Nat)(p:Nat->Nat->Dyadic)(i:Nat):Dyadic:=wS n p (λ_=>0) i n
def lZ (n:Nat)(p:Nat->Nat->Dyadic)(b:Nat):Nat->Dyadic
 |0=>0
 |k+1=>lZ n p b k-mV n p b k
def iP (R:List (List Dyadic))(r c:Nat):List (List Dyadic):=(R.eraseIdx r).map λx=>x.eraseIdx c
def JP (R:List (List Dyadic))(r c m:Nat)(hL:R.length=m+1)(hr:r<=m):(iP R r c).length=m:=by unfold iP;rw[List.length_map,List.length_eraseIdx_of_lt zo];omega
def VQ (R:List (List Dyadic))(r c m:Nat)(hrow:∀x∈R,x.length=m+1)(hc:c<=m):∀x∈iP R r c,x.length=m:=by intro x hx;unfold iP at hx;obtain⟨y,hy,rfl⟩:=List.mem_map.1 hx;have:=hrow y (List.mem_of_mem_eraseIdx hy);rw[List.length_eraseIdx_of_lt zo];omega
def VP (R:List (List Dyadic))(r c m:Nat)(hL:R.length=m+1)(hr:r<=m)(j:Nat)(hj:j<m):(iP R r c).getD j []=(R.getD (if j<r then j else j+1) []).eraseIdx c:=by
 unfold iP;have h1:j<(R.eraseIdx r).length:=by rw[List.length_eraseIdx_of_lt zo];omega
 rw[List.getD_eq_getElem?_getD,List.getElem?_map,List.getElem?_eq_getElem h1,Option.map_some,Option.getD_some,List.getElem_eraseIdx];split
 . rename_i h;rw[List.getD_eq_getElem?_getD,List.getElem?_eq_getElem zo];rfl
 . rename_i h;rw[List.getD_eq_getElem?_getD,List.getElem?_eq_getElem zo];rfl
def ap2 (l:List Dyadic)(c j:Nat)(h:j+1<l.length)(hc:c<l.length):(l.eraseIdx c).getD j 0=l.getD (if j<c then j else j+1) 0:=by
 have h1:j<(l.eraseIdx c).length:=by rw[List.length_eraseIdx_of_lt hc];omega
 rw[List.getD_eq_getElem?_getD,List.getElem?_eq_getElem h1,Option.getD_some,List.getElem_eraseIdx];split
 . rw[List.getD_eq_getElem?_getD,List.getElem?_eq_getElem zo];rfl
 . rw[List.getD_eq_getElem?_getD,List.getElem?_eq_getElem zo];rfl
def atg (R:List (List Dyadic))(r c m:Nat)(hL:R.length=m+1)(hrow:∀x∈R,x.length=m+1)(hr:r<=m)(hc:c<=m)(i j:Nat)(hi:i<m)(hj:j<m):cj (iP R r c) i j=gL (cj R) r c i j:=by
 show((iP R r c).getD i []).getD j 0=(R.getD (if i<r then i else i+1) []).getD (if j<c then j else j+1) 0
 rw[VP R r c m hL hr i hi];have hk:(if i<r then i else i+1)<R.length:=by split<;>omega
 have e:R.getD (if i<r then i else i+1) []=R[if i<r then i else i+1]'hk:=by rw[List.getD_eq_getElem?_getD,List.getElem?_eq_getElem hk];rfl
 have hl:=hrow _ (List.getElem_mem hk);rw[e];exact ap2 _ c j (by rw[hl];omega) (by rw[hl];omega)
def tJ (n:Nat)(e:Nat->Nat->Dyadic):List (List Dyadic):=(List.range n).map λa=>(List.range n).map λb=>mW n e a b
def aav (n:Nat)(e:Nat->Nat->Dyadic)(a:Nat)(ha:a<n):(tJ n e).getD a []=(List.range n).map λb=>mW n e a b:=by unfold tJ;simp[List.getD_eq_getElem?_getD,ha]
def amt (n:Nat)(e:Nat->Nat->Dyadic)(a b:Nat)(ha:a<n)(hb:b<n):cj (tJ n e) a b=mW n e a b:=by unfold cj;rw[aav n e a ha];simp[List.getD_eq_getElem?_getD,hb]
def amu (n:Nat)(e:Nat->Nat->Dyadic):(tJ n e).length=n:=by simp[tJ]
def amv (n:Nat)(e:Nat->Nat->Dyadic):∀r∈tJ n e,r.length=n:=by intro r hr;unfold tJ at hr;obtain⟨x,_,rfl⟩:=List.mem_map.1 hr;simp
def afV (R:List (List Dyadic))(r c m:Nat)(hL:R.length=m+1)(hrow:∀x∈R,x.length=m+1)(hr:r<=m)(hc:c<=m)(hm:m<=4):cX m (cj (iP R r c))=cX m (gL (cj R) r c):=
 GC m hm (λi j hi hj=>atg R r c m hL hrow hr hc i j hi hj)
def afW {B:Nat}{R:List (List Dyadic)}(h:∀x∈R,∀d∈x,Sm B d)(r c:Nat):∀x∈iP R r c,∀d∈x,Sm B d:=by intro x hx d hd;unfold iP at hx;obtain⟨y,hy,rfl⟩:=List.mem_map.1 hx;exact h y (List.mem_of_mem_eraseIdx hy) d (List.mem_of_mem_eraseIdx hd)
end Go.Proofs.YtnjfebkelecgaaaGreatDoor
