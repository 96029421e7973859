/- Package tri: with and Halve,each row in memory of its own. -/
import Derived.Test.YtpfgffadgkkedaaGreatDoorZ7
import Derived.Test.YtpfgffadgkkedaaGreatDoorZ11
import Derived.Test.YtpfgffadgkkedaaGreatDoorZ12
import Derived.Test.YtpfgffadgkkedaaGreatDoorZ14
set_option linter.all false
set_option maxRecDepth 100000
set_option maxHeartbeats 16000000
namespace Go.Proofs.YtpfgffadgkkedaaGreatDoor
open Go.RowKit
attribute [local go_sem ↓] Go.wp_at_zero Go.wp_at_succ
def UF {w:World}{base base':Nat}{e:TypeId}{size n:Nat}{v:Value}{xs:List Value}(h:w.ownsRow base e size v n xs)(hb:base'<=base):w.ownsRow base' e size v n xs:=by
 refine⟨h.1,?_⟩;rcases h.2 with h1|⟨g,cap,cur,h1,h2,h3⟩
 . exact .inl h1
 . exact .inr ⟨g,cap,cur,h1,by omega,h3⟩
def fM (e:TypeId)(w:World)(base:Nat)(R:List (List Dyadic))(k:Nat)(v:Value):Prop:=
 ∃vals:List Value,vals.length=k/\w.ownsRow base e 1 v k vals/\∀i (h:i<vals.length),w.ownsRow base 45 3 vals[i] (R.getD i []).length (dC (R.getD i []))
def fM.nil (e:TypeId)(w:World)(base:Nat)(R:List (List Dyadic)):fM e w base R 0 (.slice none 0 0):=
 ⟨[],rfl,World.ownsRow_nil _ _ _ _,λ_ h=>absurd h (Nat.not_lt_zero _)⟩
def fM.below {e:TypeId}{w w':World}{base k:Nat}{R:List (List Dyadic)}{v:Value}(h:fM e w base R k v)(hb:Bw w w'):fM e w' base R k v:=by obtain⟨vals,hl,ho,hi⟩:=h;exact⟨vals,hl,ownsRow_below ho hb,λi h=>ownsRow_below (hi i h) hb⟩
instance {e :TypeId} {w:World} {base k:Nat} {R:List (List Dyadic)} {v:Value}:QTr (fM e w base R k v) w (λW=>fM e W base R k v):=⟨λh _ k=>fM.below h k⟩
def fM.base {e:TypeId}{w:World}{base base' k:Nat}{R:List (List Dyadic)}{v:Value}(h:fM e w base R k v)(hb:base'<=base):fM e w base' R k v:=by obtain⟨vals,hl,ho,hi⟩:=h;exact⟨vals,hl,UF ho hb,λi h=>UF (hi i h) hb⟩
def fM.push {e:TypeId}{w w':World}{base k n:Nat}{R:List (List Dyadic)}{v v' x:Value}{vals:List Value}(he:45≠e)(hl:vals.length=k)(hov:w.ownsRow base e 1 v k vals)(hi:∀i (h:i<vals.length),w.ownsRow base 45 3 vals[i] (R.getD i []).length (dC (R.getD i [])))
 (hn:(R.getD k []).length=n) (hx:w.ownsRow base 45 3 x n (dC (R.getD k []))) (ho:w'.ownsRow base e 1 v' (k+1) (vals++[x])) (hg:w.grownBy w' v.ownBlock):fM e w' base R (k+1) v':=by
 refine⟨_,by simp[hl],ho,λi h=>?_⟩;by_cases hk:i<vals.length
 . rw[List.getElem_append_left hk];exact(hi i hk).kept hg (BP (hi i hk) hov he)
 . have hik:i=k:=by simp at h;omega
   subst hik;rw[List.getElem_append_right zo];simp only[hl,Nat.sub_self,List.getElem_cons_zero,hn];exact hx.kept hg (BP hx hov he)
def fM.tbl {e:TypeId}{w:World}{base k:Nat}{R:List (List Raw)}{v:Value}(h:fM e w base (R.map λr=>r.map dval) k v)(hk:R.length=k):∃a c,v=.slice a k c/\k<=c/\Tbl w a (R.map rA):=by
 obtain⟨vals,hl,ho,hi⟩:=h;obtain⟨a,c,hv,hat,_⟩:=cz ho;subst hv;refine⟨a,c,rfl,BH ho,vals,by simp[hl,hk],hat,λi h1 h2=>?_⟩;obtain⟨a1,c1,e1,e2,_⟩:=cz (hi i h2);have hi1:i<R.length:=by simpa using h1
 have eg:(R.map λr=>r.map dval).getD i []=R[i].map dval:=by simp[hi1]
 rw[eg]at e1 e2;refine⟨a1,c1,?_,?_⟩
 . rw[e1];simp[Lx]
 . rw[List.getElem_map,Rn];exact e2
def fM.len {e:TypeId}{w:World}{base k:Nat}{R:List (List Dyadic)}{v:Value}(h:fM e w base R k v):∃a c,v=.slice a k c/\k<=c:=by obtain⟨vals,hl,ho,hi⟩:=h;obtain⟨a,c,hv,_,_⟩:=cz ho;subst hv;exact⟨a,c,rfl,BH ho⟩
def axw (a:Option Addr)(L cap:Nat)(rows:List (List Raw))(k0:Nat)(pa:Option Addr)(pn BJ:Nat)(Pp:List Raw)(w:World)(hL:rows.length=L)(hL9:L<=9)(hP:Pp.length=pn)(Dj:pn<=8)(hrow:∀r∈rows,r.length<=8)(ha:Tbl w a rows)(hp:At w pa (Pp.flatMap aV))
 (hok:∀r∈rows,∀x∈r,Ok x) (ac9:∀x∈Pp,Ok x) (hT:aB w) (at9:Int) (uQ:∀k:Nat,k<L->((k:Int)=at9↔k=k0)):
 Cl 180 #[.slice a L cap,af at9,.slice pa pn BJ] w λe w'=>∃v,e=.returned v/\fM 63 w' w.heap.size ((rows.set k0 Pp).map λr=>r.map dval) L v/\Bw w w':=by
 obtain⟨i0,hi,hz0,hz1,hz2⟩:=info_parts Tryz.aBb;obtain⟨j0,hj,hy0,hy1,hy2⟩:=info_parts Tryz.aBp;obtain⟨R,hR⟩:=az (rows.set k0 Pp);obtain⟨S,hS⟩:=az (R.map λr=>r.map dval);have hRL:R.length=L:=by rw[<-hR];simp[hL]
 have hR8:∀r∈R,r.length<=8:=by
  intro r hr;rw[<-hR]at hr;rcases List.mem_or_eq_of_mem_set hr with h|h
  . exact hrow r h
  . rw[h];omega
 have abh:∀r∈R,∀x∈r,Ok x:=by
  intro r hr;rw[<-hR]at hr;rcases List.mem_or_eq_of_mem_set hr with h|h
  . exact hok r h
  . rw[h];exact ac9
 have yA:∀(W:World) (k:Nat) (hk:k<L),Bw w W->∃b o a1 c1 n1 aq cq,∃(hk2:k<R.length),a=some ⟨b,o,none⟩/\W.cell? ⟨b,o+k,none⟩=some (.slice a1 n1 c1)/\At W aq (R[k].flatMap aV)/\((k=k0/\aq=pa/\R[k].length=pn/\cq=BJ)\/(k≠k0/\aq=a1/\R[k].length=n1/\cq=c1)):=by
  intro W k hk hb;obtain⟨b,o,a1,c1,h1,h2,h3⟩:=(ha.below hb).row k zo;by_cases hkk:k=k0
  . refine⟨b,o,a1,c1,_,pa,BJ,by omega,h1,h2,?_,.inl ⟨hkk,rfl,?_,rfl⟩⟩
    . have:R[k]'zo=Pp:=by simp only[<-hR,hkk,List.getElem_set_self]
      rw[this];exact hp.below hb
    . have:R[k]'zo=Pp:=by simp only[<-hR,hkk,List.getElem_set_self]
      rw[this];exact hP
  . have:R[k]'zo=rows[k]'zo:=by simp only[<-hR];exact List.getElem_set_ne (λh=>hkk h.symm) _
    refine⟨b,o,a1,c1,_,a1,c1,by omega,h1,h2,?_,.inr ⟨hkk,rfl,by rw[this],rfl⟩⟩;rw[this];exact h3
 rw[hR,hS];obtain⟨Hi,cm,bR,bZ,Hj,kM,kN,kO,HS,HRL,HR8,ahJ⟩:=gL hi hz0 hz1 hz2 hj hy0 hy1 hy2 hS hRL hR8 abh;obtain⟨PI,HT,WS⟩:=bL yA hT uQ;clear hi hz0 hz1 hz2 hj hy0 hy1 hy2 hR hS hRL hR8 abh yA ha hp hT hL hP hrow hok ac9 uQ;go_enter Tryz.func180,Tryz.ntmps180;have Hb:=hbz w;go_wp2_with fail;go_loopw[7,15] (λs7 x wr=>∃(k:Nat) (v:Value),k<=L/\x=af (k:Int)/\v=s7/\fM 63 wr w.heap.size S k v/\Bw w wr) (λ_ x _=>L-(intOf x).toNat);case atStart=>exact⟨0,_,Nat.zero_le _,rfl,rfl,fM.nil _ _ _ _,Hb.out⟩
 case round=>
  clear Hb;obtain⟨k,v,hk,rfl,rfl,pv,pb⟩:=hrel;by_cases hlt:k<L
  . obtain⟨b1,o1,a1,c1,n1,aq,cq,hk2,hab,hc1,hat,tW⟩:=PI.out wr k hlt pb;have pp:=oC L cap k (k:Int) hab hlt rfl;rw[Nat.mul_one]at pp;obtain⟨Q,hQ⟩:=az (R[k]);rw[hQ]at hat tW;have RR:=HR8.out _ (List.getElem_mem hk2);have RU:=ahJ.out _ (List.getElem_mem hk2);rw[hQ]at RR RU;obtain⟨Z,hZ⟩:=az (Q.map dval);have oX:S.getD k []=Z:=by rw[<-HS.out,<-hZ,<-hQ];simp[hk2]
    have hQl:Q.length<=8:=RR;obtain⟨n,hn⟩:=az Q.length;rw[hn]at hQl tW;obtain⟨eu,ahH,HZ,vD,Po,Hn,aP,ik⟩:=lC hat RU hZ oX tW hn pb pv;clear hat RU hZ oX tW hn pb pv hQ hab RR;have ie:=aP.out.size;go_upto_if 22 with fail
    go_cut[9] (λs9 wx=>s9=.slice aq n cq/\wx=wr);case first=>
     rcases Po.out with⟨rfl,rfl,rfl,rfl⟩ |⟨h1,rfl,rfl,rfl⟩
     . obtain rfl:=(WS.out k hlt).2 rfl;go_wp2_with fail;go_meet;exact⟨rfl,rfl⟩
     . have h3:¬(k:Int)=at9:=λh=>h1 ((WS.out k hlt).1 h);have h2:((k:Int)==at9)=false:=by simpa using h3
       go_wp2_with fail;go_meet;exact⟨rfl,rfl⟩
    case rest=>
     obtain⟨rfl,rfl⟩:=hcut;clear pp hc1;go_wp2_with fail;go_loopw[10,26] (λJe x wr=>∃(j:Nat) (v2:Value),j<=n/\x=af (j:Int)/\v2=Je/\wr.ownsRow wc.heap.size 45 3 v2 j (dC (Z.take j))/\Bw wc wr) (λ_ x _=>n-(intOf x).toNat);case atStart=>exact⟨0,_,Nat.zero_le _,rfl,rfl,World.ownsRow_nil _ _ _ _,Below.refl _ _⟩
     case round=>
      obtain⟨j,v2,hj,rfl,rfl,ho,hb2⟩:=hrel;by_cases bB:j<n
      . have h1:j<Q.length:=by rw[Hn.out];exact bB
        obtain⟨s,m,e,hx⟩:=oP (Q[j]);have hok:=ahH.out _ (List.getElem_mem h1);rw[hx]at hok;obtain⟨X,hX⟩:=az (dval (s,m,e));have bK:Hid (dC (Z.take (j+1))=dC (Z.take j)++(bu X)):=by
         show _=_
         rw[<-HZ.out,List.take_succ_eq_append_getElem (by simpa using h1),CV];congr 1;simp only[List.getElem_map,hx,hX];rfl
        obtain⟨b2,o2,ju,p0,p1,p2⟩:=(eu.out.below hb2).num j h1 hx;have tO:=qI n cq j (j:Int) ju bB rfl;obtain⟨HX,NS,Ho,bY,xt⟩:=dY hX hok ho hb2 ((HT.out.below aP.out).below hb2);have Jh:=hb2.size;have Hp:Hid (aQ wr b2 (o2+j*3) [ag s,ah m,af e]):=jm p0 p1 p2;clear hX hok ho hb2 hx ju p0 p1 p2;have Hb:=hbz wr;obtain⟨ae,ai⟩:=qZ (Hp.an trivial);have p1:wr.cell? ⟨b2,o2+j*3+1,none⟩=some (ah m):=ae.1.out.cell 1 zm;have p0:wr.cell? ⟨b2,o2+j*3,none⟩=some (ag s):=ae.1.out.cell 0 zm;have p2:wr.cell? ⟨b2,o2+j*3+2,none⟩=some (af e):=ae.1.out.cell 2 zm;have P0:=p0;have P1:=p1;have P2:=p2;obtain⟨W4,ke,aG,ae,ai⟩:=bO wr (Hb.an ae) 45 [ag s,ah m,af e];have HT:Hid (aB W4):=xt.out.below ae.2.1.out;go_wp2_with fail;refine aK (HT.an ae) (rB s m e X HX.out _ NS.out HT.out) λw5 ae ai=>?_;obtain⟨W6,rC,aG,ae,ai⟩:=bO w5 ae 45 (bu X);have cj:=ownsRow_below Ho.out ae.2.2.2.1.out;have jd:=ae.2.2.2.1.out.size;have hnews:=fN ae.1.out;skip
        go_wp2_with (at_builtin;refine wpList_append_own_at _ rfl _ _ 63 rfl wc.heap.size 45 i0 _ 3 32 Tryz.underlying63 Hi.out cm.out bR.out bZ.out rfl zd v2 j (dC (Z.take j)) rfl cj ⟨w5.heap.size,0,none⟩ 1 1 (bu X) rfl rfl hnews zy zx zo zo ?_;intro v' w7 dW eK _ _;obtain⟨g',ry,rfl⟩:=ownsRow_succ dW);go_roundw;case rel=>
         refine⟨j+1,_,by omega,by go_num,rfl,?_,?_⟩
         . rw[bK.out];exact dW
         . exact(aC bY.out ae.2.2.2.1.out).grown eK zo (λj e=>cK cj j e)
        case measure=>exact bf
      . obtain rfl:j=n:=by omega
        have oY:Z.take j=Z:=List.take_of_length_le (by rw[<-HZ.out];simp[Hn.out]);rw[oY]at ho;obtain⟨vals,hvl,hov,oz⟩:=ik.out.below hb2;have Hb:=hbz wr;obtain⟨a2,cap2,rfl,_,_⟩:=cz ho;obtain⟨Hx,sK,vL,dv,bY⟩:=dY (UF ho ie) hvl oz hov hb2;have Jh:=hb2.size;clear hvl oz hov hb2 oY ho bB hj;obtain⟨W6,rC,aG,ae,ai⟩:=bO wr (Hb.an trivial) 63 [.slice a2 j cap2];have cj:=ownsRow_below dv.out ae.2.1.out;have jd:=ae.2.1.out.size;have hnews:∀i u,([.slice a2 j cap2]:List Value)[i]?=some u->W6.cell? ((⟨wr.heap.size,0,none⟩:Addr).add i)=some u:=fN ae.1.out;skip
        go_wp2_with (at_builtin;refine wpList_append_own_at _ rfl _ _ 25 rfl w.heap.size 63 j0 _ 1 24 Tryz.underlying25 Hj.out kM.out kN.out kO.out rfl zd v k vals rfl cj ⟨wr.heap.size,0,none⟩ 1 1 [.slice a2 j cap2] rfl rfl hnews zy zx zo zo ?_;intro v' w7 dW eK _ fI;obtain⟨g',ry,rfl⟩:=ownsRow_succ dW);go_roundw;case rel=>
         refine⟨k+1,_,by omega,by go_num,rfl,?_,?_⟩
         . exact fM.push zd sK.out cj (λi h=>ownsRow_below (vL.out i h) ae.2.1.out) (n:=j) (by rw[vD.out,<-HZ.out,List.length_map,Hn.out]) (by rw[vD.out];exact ownsRow_below Hx.out ae.2.1.out) dW eK
         . exact(aC (aC aP.out bY.out) ae.2.1.out).grown eK zo (λj e=>cK cj j e)
        case measure=>exact bf
  . obtain rfl:k=L:=by omega
    obtain⟨aP,ik⟩:=aI pb pv;clear pv pb;go_wp2;refine bodyPost_ret (v:=v) (by simp[results,Tryz.results180,go_sem]) rfl ⟨v,rfl,ik.out,aP.out⟩
def uB (e:TypeId)(w:World)(base top:Nat)(R:List (List Dyadic))(k:Nat)(v:Value):Prop:=
 ∃vals:List Value,vals.length=k/\w.ownsRow base e 1 v k vals/\∀i (h:i<vals.length),w.ownsRow base 45 3 vals[i] (R.getD i []).length (dC (R.getD i []))/\∀g,vals[i].ownBlock=some g->g<top
def fM.top {e:TypeId}{w:World}{base k:Nat}{R:List (List Dyadic)}{v:Value}(h:fM e w base R k v):uB e w base w.heap.size R k v:=by obtain⟨vals,hl,ho,hi⟩:=h;exact⟨vals,hl,ho,λi h=>⟨hi i h,λg hg=>((hi i h).lt g hg).2⟩⟩
def uB.below {e:TypeId}{w w':World}{base top k:Nat}{R:List (List Dyadic)}{v:Value}(h:uB e w base top R k v)(hb:Bw w w'):uB e w' base top R k v:=by obtain⟨vals,hl,ho,hi⟩:=h;exact⟨vals,hl,ownsRow_below ho hb,λi h=>⟨ownsRow_below (hi i h).1 hb,(hi i h).2⟩⟩
instance {e :TypeId} {w:World} {base top k:Nat} {R:List (List Dyadic)} {v:Value}:QTr (uB e w base top R k v) w (λW=>uB e W base top R k v):=⟨λh _ k=>uB.below h k⟩
def uB.aBE {e:TypeId}{w:World}{base top k:Nat}{R:List (List Dyadic)}{v:Value}(h:uB e w base top R k v):fM e w base R k v:=by obtain⟨vals,hl,ho,hi⟩:=h;exact⟨vals,hl,ho,λi h=>(hi i h).1⟩
def fM.kept {e:TypeId}{w w':World}{base k:Nat}{R:List (List Dyadic)}{v:Value}{g:Nat}(h:fM e w base R k v)(hg:w.grownBy w' (some g))(hb:g<base):fM e w' base R k v:=by obtain⟨vals,hl,ho,hi⟩:=h;exact⟨vals,hl,ho.kept hg (.inr (λh=>by have:=cK ho g h;omega)),λi h=>(hi i h).kept hg (.inr (λh2=>by have:=cK (hi i h) g h2;omega))⟩
def aqg (a:Option Addr)(L cap n:Nat)(rows:List (List Raw))(B:Nat)(i j:Nat)(Y:Dyadic)(w:World)(hL:rows.length=L)(hv:kE rows=n)(hn:1<=n)(ha:Tbl w a rows)
 (hfit:∀r∈rows,∀c∈r,Fit B c) (hB:B<=10000000) (hT:aB w) (hF:ia (gy rows n) L=(i,j,Y)):
 Cl 102 #[.slice a L cap] w λe w'=>∃a1 c1 a2 c2 mid,e=.returned (.tuple #[.slice a1 L c1,.slice a2 L c2,af 0])/\
  uB 63 w' w.heap.size mid ((rows.set j (pJ (rows.getD i []) (rows.getD j []))).map λr=>r.map dval) L (.slice a1 L c1)/\fM 63 w' mid ((rows.set i (pJ (rows.getD i []) (rows.getD j []))).map λr=>r.map dval) L (.slice a2 L c2)/\Bw w w':=by
 obtain⟨i0,hi,hz0,hz1,hz2⟩:=info_parts Tryz.aBb;obtain⟨c1,c2,c3,c4⟩:=Jo hv zo;have AV:=λW=>λ(h:Tbl W a rows) (hT:aB W)=>asA a L cap n rows B W hL hv hn h hfit hB hT;have hinv:=MZ (gy rows n) L zo;rw[hF]at hinv;simp only[hF]at AV;obtain⟨hij,GM,hY⟩:=hinv;dsimp only at hij GM hY;have hiL:i<L:=by omega
 obtain⟨p,hp'⟩:=az (rows.getD i []);obtain⟨q,hq'⟩:=az (rows.getD j []);have ep:rows[i]'zo=p:=by rw[<-hp'];simp[hL,hiL]
 have eq:rows[j]'zo=q:=by rw[<-hq'];simp[hL,GM]
 have hpl:p.length=n:=by have:=c4 p (by rw[<-ep];exact List.getElem_mem _);omega
 have rJ:q.length=n:=by have:=c4 q (by rw[<-eq];exact List.getElem_mem _);omega
 have iQ:∀x∈p,Fit B x:=by rw[<-ep];exact hfit _ (List.getElem_mem _)
 have Tz:∀x∈q,Fit B x:=by rw[<-eq];exact hfit _ (List.getElem_mem _)
 rw[hp',hq'];have TN:=λ(k:Nat) (pa:Option Addr) (pc:Nat) (W:World) (h1:Tbl W a rows) (h2:At W pa (dC (midD p q))) (h3:aB W)=>axw a L cap rows k pa n pc (pJ p q) W hL zo (by rw[aeV zo];exact hpl) zo (λr hr=>by have:=c4 r hr;omega) h1 (by unfold pJ;rw[<-Am];exact h2) (λr hr x hx=>(hfit r hr x hx).1) (λx hx=>(aeU iQ Tz hB x hx).1) h3 (k:Int) (λk _=>by omega);obtain⟨A1,Rt⟩:=az ((rows.set j (pJ p q)).map (λr=>r.map dval));obtain⟨A2,hA2⟩:=az ((rows.set i (pJ p q)).map (λr=>r.map dval));have pC:=TN j;have qH:=TN i;rw[Rt]at pC⊢;rw[hA2]at qH⊢;have hrow:=λ(W:World) (h:Tbl W a rows)=>h.row i zo;have hrow2:=λ(W:World) (h:Tbl W a rows)=>h.row j zo;simp only[ep,hpl]at hrow;simp only[eq,rJ]at hrow2;obtain⟨Z,hZ⟩:=az (midD p q);have hst:∀k (h:k<p.length) (h':k<q.length),Z.take (k+1)=Z.take k++[(dval p[k]+dval q[k]) *hp 1]:=by rw[<-hZ];exact asZ p q
 have GC:Z.length=n:=by rw[<-hZ,aeT zo,hpl]
 rw[hZ]at qH pC;obtain⟨Hi,cm,bR,bZ,Pd,Ha,HT,CB,Qa,sG,akp,bK⟩:=gL hi hz0 hz1 hz2 AV ha hT qH pC hrow hrow2 hst;obtain⟨xu,lR,Px,ux,Hqf⟩:=dY GC hpl rJ iQ Tz;have DN:n<=8:=by omega
 clear hi hz0 hz1 hz2 AV ha hT qH pC TN hrow hrow2 hst GC hpl rJ iQ Tz ep eq hp' hq' hY hF hfit hv c1 c2 c3 c4 hL hZ Rt hA2;have Hb:=hbz w;go_enter Tryz.func102,Tryz.ntmps102;go_wp2_with fail;refine aK (Hb.an trivial) (Pd.out _ (Ha.out.below Hb.out) (HT.out.below Hb.out)) λw1 ae ai=>?_;obtain⟨w2,azh,aG,ae,ai⟩:=bO w1 ae 45 (bu Y);obtain⟨b0,o0,a1,c1,gW,hc0,jO⟩:=sG.out w2 (Ha.out.below ae.2.1.out);obtain⟨jW,mN,a2,c2,eJ,hc1,iZ⟩:=akp.out w2 (Ha.out.below ae.2.1.out);obtain⟨rfl,rfl⟩:jW=b0/\mN=o0:=by rw[gW]at eJ;simp at eJ;exact⟨eJ.1.symm,eJ.2.symm⟩
 clear eJ;have IE:=oC L cap i (i:Int) gW hiL rfl;have Bi:=oC L cap j (j:Int) gW GM rfl;rw[Nat.mul_one]at IE Bi;obtain⟨xx,Hc1,jT,oK,kH⟩:=dY hc0 hc1 jO iZ gW;clear hc1 jO iZ gW;have Jh:=ae.2.1.out.size;go_wp2_with fail;go_loopw[8,25] (λs8 x wr=>∃(k:Nat) (v:Value),k<=n/\x=af (k:Int)/\v=s8/\wr.ownsRow w2.heap.size 45 3 v k (dC (Z.take k))/\Bw w2 wr) (λ_ x _=>n-(intOf x).toNat);case atStart=>exact⟨0,_,Nat.zero_le _,rfl,rfl,World.ownsRow_nil _ _ _ _,Below.refl _ _⟩
 case round=>
  clear hc0;obtain⟨k,v,hk,rfl,rfl,pv,pb⟩:=hrel;by_cases hlt:k<n
  . have k1:k<p.length:=by rw[lR.out];exact hlt
    have k2:k<q.length:=by rw[Px.out];exact hlt
    obtain⟨sp,mp,ep,iR⟩:=oP (p[k]);obtain⟨sq,mq,eq,rK⟩:=oP (q[k]);have fT:=ux.out _ (List.getElem_mem k1);have ql:=Hqf.out _ (List.getElem_mem k2);have hst:=bK.out k k1 k2;rw[iR]at fT hst;rw[rK]at ql hst;obtain⟨D,hD⟩:=az (dval (sp,mp,ep)+dval (sq,mq,eq));obtain⟨X,hX⟩:=az (D*hp 1);rw[hD,hX]at hst;have kY:Sm (B+1) D:=by rw[<-hD];exact Sm.add fT.2 ql.2
    have Ca:Hid (Ok (dF D)):=(kY.fit zo).1;have HX:Hid (dval (au (dN D),nt (dN D).natAbs,dE D+ -1)=X):=by show _=_;rw[<-hX];exact Nv D 1
    have sH:Hid (dC (Z.take (k+1))=dC (Z.take k)++(bu X)):=by
     show _=_
     rw[hst,CV];rfl
    obtain⟨b1,o1,eJ,p0,p1,p2⟩:=(jT.out.below pb).num k k1 iR;obtain⟨b2,o2,ju,q0,q1,q2⟩:=(oK.out.below pb).num k k2 rK;have pp:=qI n c1 k (k:Int) eJ hlt rfl;have tO:=qI n c2 k (k:Int) ju hlt rfl;have nH:b1<w2.heap.size:=(by subst eJ;exact jT.out.lt (by intro h0;have:=congrArg List.length h0;rw[iE aV 3 (λ_=>rfl)]at this;simp at this;omega));have kv:b2<w2.heap.size:=(by subst ju;exact oK.out.lt (by intro h0;have:=congrArg List.length h0;rw[iE aV 3 (λ_=>rfl)]at this;simp at this;omega));have uX:jW<w2.heap.size:=World.block_lt_of_cell? w2 _ xx.out;have Hu:Hid (aQ wr jW (mN+i) [.slice a1 n c1]):=λj hj=>by
     obtain rfl:j=0:=by simp at hj;omega
     exact cell_later pb xx.out
    have Hv:Hid (aQ wr jW (mN+j) [.slice a2 n c2]):=λj hj=>by
     obtain rfl:j=0:=by simp at hj;omega
     exact cell_later pb Hc1.out
    have Hp:Hid (aQ wr b1 (o1+k*3) [ag sp,ah mp,af ep]):=jm p0 p1 p2;have Hq:Hid (aQ wr b2 (o2+k*3) [ag sq,ah mq,af eq]):=jm q0 q1 q2;obtain⟨qV,Ck,HD,ik,zH,dJ⟩:=gM fT ql hD pv pb ((HT.out.below ae.2.1.out).below pb);have iH:=ae.2.1;have Ji:=pb.size;clear pv pb fT ql hD hX hst kY iR rK eJ ju p0 p1 p2 q0 q1 q2;have Hb:=hbz wr;go_wp2_with fail;obtain⟨ae,ai⟩:=qZ (Hu.an<|Hv.an<|Hp.an<|Hq.an trivial);obtain⟨Hu,Hv,Hp,Hq,_⟩:=ae;have u0:=Hu.out.w1;have v0:=Hv.out.w1;obtain⟨p0,p1,p2⟩:=Hp.out.w3;obtain⟨q0,q1,q2⟩:=Hq.out.w3;refine fx (λw'=>aJ w' jW (mN+i) (.slice a1 n c1)/\aJ w' jW (mN+j) (.slice a2 n c2)/\aJ w' b1 (o1+k*3) (ag sp)/\aJ w' b1 (o1+k*3+1) (ah mp)/\aJ w' b1 (o1+k*3+2) (af ep)/\aJ w' b2 (o2+k*3) (ag sq)/\aJ w' b2 (o2+k*3+1) (ah mq)/\aJ w' b2 (o2+k*3+2) (af eq)) (λi=>Nat.blt i 100000) [(0,true),(1,true),(2,true),(3,true),(4,true),(5,true),(6,true),(7,true),(8,true),(9,true),(10,true),(11,true),(12,true),(13,true),(14,true),(15,false),(16,false),(17,false),(18,false),(19,false),(20,true)] zk zk rfl zk zc ⟨u0,v0,p0,p1,p2,q0,q1,q2⟩ ?_;iterate 15 (refine pT rfl rfl ?_ (by intro w' ⟨q0,q1,q2,q3,q4,q5,q6,q7⟩;go_simp;try with_reducible rfl);try simp only[UU])
    refine aN rfl rfl (λK hK=>?_);go_simp;refine hK _ _ (λ_=>⟨aM u0,aM v0,aM p0,aM p1,aM p2,aM q0,aM q1,aM q2⟩) ?_;try simp only[UU]
    refine cg (λw4=>ar w4 (wr.heap.size) 45 [ag sp,ah mp,af ep,ag sq,ah mq,af eq]/\Bw wr w4) (by first|exact iw|exact iy) ?_;rintro w4 ⟨qe,ak⟩;replace Hu:=kW Hu ak;replace Hv:=kW Hv ak;replace Hp:=kW Hp ak;replace Hq:=kW Hq ak;have He:=aj qe;clear qe;have u0:=Hu.out.w1;have v0:=Hv.out.w1;obtain⟨p0,p1,p2⟩:=Hp.out.w3;obtain⟨q0,q1,q2⟩:=Hq.out.w3;obtain⟨e0,e1,e2,e3,e4,e5⟩:=He.out.c6;replace Hb:=bg Hb ak;refine aN rfl rfl (λK hK=>?_);go_simp;with_reducible refine(xQ sp mp ep sq mq eq D B HD.out wr.heap.size 2 45 _ qV.out Ck.out zo He.out (by first|exact(dJ.out.below Hb.out) |exact aB.drew (dJ.out.below Hb.out) |exact aB.alloc (dJ.out.below Hb.out) _|exact aB.drew (aB.alloc (dJ.out.below Hb.out) _) |exact aB.alloc (aB.drew (dJ.out.below Hb.out)) _)).mono ?_
    rintro e w5 ⟨rfl,hq⟩;have ak:Bw w4 w5:=by first|exact hq|exact cS hq
    replace Hu:=kW Hu ak;replace Hv:=kW Hv ak;replace Hp:=kW Hp ak;replace Hq:=kW Hq ak;replace He:=kB He ak;have u0:=Hu.out.w1;have v0:=Hv.out.w1;obtain⟨p0,p1,p2⟩:=Hp.out.w3;obtain⟨q0,q1,q2⟩:=Hq.out.w3;obtain⟨e0,e1,e2,e3,e4,e5⟩:=He.out.c6;replace Hb:=bg Hb ak;refine hK _ _ (λ_=>⟨u0,v0,p0,p1,p2,q0,q1,q2⟩) ?_;try simp only[UU]
    refine aN rfl rfl (λK hK=>?_);go_simp;with_reducible refine(Nu (au (dN D)) (nt (dN D).natAbs) (dE D) (-1) X HX.out _ Ca.out zd (by first|exact(dJ.out.below Hb.out) |exact aB.drew (dJ.out.below Hb.out) |exact aB.alloc (dJ.out.below Hb.out) _|exact aB.drew (aB.alloc (dJ.out.below Hb.out) _) |exact aB.alloc (aB.drew (dJ.out.below Hb.out)) _)).mono ?_
    rintro e w6 ⟨rfl,hq⟩;have ak:Bw w5 w6:=by first|exact hq|exact cS hq
    replace Hu:=kW Hu ak;replace Hv:=kW Hv ak;replace Hp:=kW Hp ak;replace Hq:=kW Hq ak;replace He:=kB He ak;have u0:=Hu.out.w1;have v0:=Hv.out.w1;obtain⟨p0,p1,p2⟩:=Hp.out.w3;obtain⟨q0,q1,q2⟩:=Hq.out.w3;obtain⟨e0,e1,e2,e3,e4,e5⟩:=He.out.c6;replace Hb:=bg Hb ak;refine hK _ _ (λ_=>⟨u0,v0,p0,p1,p2,q0,q1,q2⟩) ?_;try simp only[UU]
    refine aN rfl rfl (λK hK=>?_);go_simp;refine hK _ _ (λ_=>⟨aM u0,aM v0,aM p0,aM p1,aM p2,aM q0,aM q1,aM q2⟩) ?_;try simp only[UU]
    refine cg (λw7=>ar w7 (w6.heap.size) 45 (bu X)/\Bw w6 w7) (by first|exact iw|exact iy) ?_;rintro w7 ⟨qc,ak⟩;have aAi:=He.out.lt;replace Hu:=kW Hu ak;replace Hv:=kW Hv ak;replace Hp:=kW Hp ak;replace Hq:=kW Hq ak;replace He:=kB He ak;have Hc:=aj qc;clear qc;have u0:=Hu.out.w1;have v0:=Hv.out.w1;obtain⟨p0,p1,p2⟩:=Hp.out.w3;obtain⟨q0,q1,q2⟩:=Hq.out.w3;obtain⟨e0,e1,e2,e3,e4,e5⟩:=He.out.c6;obtain⟨c0,c1,c2⟩:=Hc.out.c3;replace Hb:=bg Hb ak;refine aN rfl rfl (λK hK=>?_);have cj:=ownsRow_below ik.out Hb.out;have jd:=Hb.out.size;refine wp_append_own _ _ _ 63 rfl w2.heap.size 45 i0 _ 3 32 Tryz.underlying63 Hi.out cm.out bR.out bZ.out rfl zd v k (dC (Z.take k)) rfl cj ⟨w6.heap.size,0,none⟩ 1 1 (bu X) rfl rfl (fN Hc.out) zy zx zo zo ?_;intro v' w8 dX bj _;obtain⟨g',cq,rfl⟩:=ownsRow_succ dX;have nb:∀b,b<w2.heap.size->some b≠v.ownBlock:=λb hb e=>by have:=cK cj b e.symm;omega
    refine hK _ _ (λ_=>⟨cG bj u0 (nb _ uX),cG bj v0 (nb _ uX),cG bj p0 (nb _ nH),cG bj p1 (nb _ nH),cG bj p2 (nb _ nH),cG bj q0 (nb _ kv),cG bj q1 (nb _ kv),cG bj q2 (nb _ kv)⟩) ?_;try simp only[UU]
    refine pT rfl rfl ?_;try simp only[UU]
    simp only[bE];go_wp2;go_roundw;case rel=>
     refine⟨k+1,_,by omega,by go_num,rfl,?_,?_⟩
     . rw[sH.out];exact dX
     . exact(aC zH.out Hb.out).grown bj zo (λj e=>cK cj j e)
    case measure=>exact bf
  . obtain rfl:k=n:=by omega
    have oY:Z.take k=Z:=List.take_of_length_le (by rw[xu.out];exact Nat.le_refl _);rw[oY]at pv;obtain⟨a3,YZ,rfl,tH,_⟩:=cz pv;obtain⟨JK,JG,JJ,iH⟩:=cE tH ((HT.out.below ae.2.1.out).below pb) ((Ha.out.below ae.2.1.out).below pb) (aC ae.2.1.out pb);clear tH pv pb oY IE Bi;have Hb:Hid (Bw w wr):=iH;go_wp2_with fail;refine(Qa.out a3 YZ _ JJ.out JK.out JG.out).mono ?_;rintro e w4 ⟨v4,rfl,TF,ak⟩;have PM:=aj (fM.top (TF.base Hb.out.size));replace Hb:=aj (aC Hb.out ak);replace JK:=aj (JK.out.below ak);replace JG:=aj (JG.out.below ak);replace JJ:=aj (JJ.out.below ak);obtain⟨a4,c4,rfl,_⟩:=TF.len;clear TF ak;go_wp2_with fail;refine(CB.out a3 YZ _ JJ.out JK.out JG.out).mono ?_;rintro e w5 ⟨v5,rfl,Iu,ak⟩;have Ht5:=aj Iu;replace Hb:=aj (aC Hb.out ak);replace PM:=aj (PM.out.below ak);obtain⟨a5,c5,rfl,_⟩:=Iu.len;clear Iu ak;go_wp2;refine bodyPost_ret (v:=.tuple #[.slice a4 L c4,.slice a5 L c5,af 0]) (by simp[results,Tryz.results102,go_sem]) rfl ⟨a4,c4,a5,c5,w4.heap.size,rfl,PM.out,Ht5.out,Hb.out⟩
end Go.Proofs.YtpfgffadgkkedaaGreatDoor
namespace Go.Proofs.YtpfgffadgkkedaaGreatDoor
open Go.RowKit
end Go.Proofs.YtpfgffadgkkedaaGreatDoor
