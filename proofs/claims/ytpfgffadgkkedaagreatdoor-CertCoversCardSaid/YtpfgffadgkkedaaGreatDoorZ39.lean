/- Package tri: with and Halve,each row in memory of its own. -/
import Derived.Test.YtpfgffadgkkedaaGreatDoorZ7
import Derived.Test.YtpfgffadgkkedaaGreatDoorZ11
import Derived.Test.YtpfgffadgkkedaaGreatDoorZ12
import Derived.Test.YtpfgffadgkkedaaGreatDoorZ14
set_option linter.all false
set_option maxRecDepth 100000
set_option maxHeartbeats 16000000
namespace Go.Proofs.YtpfgffadgkkedaaGreatDoor
open Go.RowKit
attribute [local go_sem ↓] Go.wp_at_zero Go.wp_at_succ
def UG {w:World}{base base':Nat}{e:TypeId}{size n:Nat}{v:Value}{xs:List Value}(h:w.ownsRow base e size v n xs)(hb:base'<=base):w.ownsRow base' e size v n xs:=by
 refine⟨h.1,?_⟩;rcases h.2 with h1|⟨g,cap,cur,h1,h2,h3⟩
 . exact .inl h1
 . exact .inr ⟨g,cap,cur,h1,by omega,h3⟩
def fL (e:TypeId)(w:World)(base:Nat)(R:List (List Dyadic))(k:Nat)(v:Value):Prop:=
 ∃vals:List Value,vals.length=k/\w.ownsRow base e 1 v k vals/\∀i (h:i<vals.length),w.ownsRow base 45 3 vals[i] (R.getD i []).length (dC (R.getD i []))
def fL.nil (e:TypeId)(w:World)(base:Nat)(R:List (List Dyadic)):fL e w base R 0 (.slice none 0 0):=
 ⟨[],rfl,World.ownsRow_nil _ _ _ _,λ_ h=>absurd h (Nat.not_lt_zero _)⟩
def fL.below {e:TypeId}{w w':World}{base k:Nat}{R:List (List Dyadic)}{v:Value}(h:fL e w base R k v)(hb:Bw w w'):fL e w' base R k v:=by obtain⟨vals,hl,ho,hi⟩:=h;exact⟨vals,hl,ownsRow_below ho hb,λi h=>ownsRow_below (hi i h) hb⟩
instance {e :TypeId} {w:World} {base k:Nat} {R:List (List Dyadic)} {v:Value}:QTr (fL e w base R k v) w (λW=>fL e W base R k v):=⟨λh _ k=>fL.below h k⟩
def fL.base {e:TypeId}{w:World}{base base' k:Nat}{R:List (List Dyadic)}{v:Value}(h:fL e w base R k v)(hb:base'<=base):fL e w base' R k v:=by obtain⟨vals,hl,ho,hi⟩:=h;exact⟨vals,hl,UG ho hb,λi h=>UG (hi i h) hb⟩
def fL.push {e:TypeId}{w w':World}{base k n:Nat}{R:List (List Dyadic)}{v v' x:Value}{vals:List Value}(he:45≠e)(hl:vals.length=k)(hov:w.ownsRow base e 1 v k vals)(hi:∀i (h:i<vals.length),w.ownsRow base 45 3 vals[i] (R.getD i []).length (dC (R.getD i [])))
 (hn:(R.getD k []).length=n) (hx:w.ownsRow base 45 3 x n (dC (R.getD k []))) (ho:w'.ownsRow base e 1 v' (k+1) (vals++[x])) (hg:w.grownBy w' v.ownBlock):fL e w' base R (k+1) v':=by
 refine⟨_,by simp[hl],ho,λi h=>?_⟩;by_cases hk:i<vals.length
 . rw[List.getElem_append_left hk];exact(hi i hk).kept hg (BR (hi i hk) hov he)
 . have hik:i=k:=by simp at h;omega
   subst hik;rw[List.getElem_append_right zo];simp only[hl,Nat.sub_self,List.getElem_cons_zero,hn];exact hx.kept hg (BR hx hov he)
def fL.tbl {e:TypeId}{w:World}{base k:Nat}{R:List (List Raw)}{v:Value}(h:fL e w base (R.map λr=>r.map dval) k v)(hk:R.length=k):∃a c,v=.slice a k c/\k<=c/\Tbl w a (R.map rD):=by
 obtain⟨vals,hl,ho,hi⟩:=h;obtain⟨a,c,hv,hat,_⟩:=cw ho;subst hv;refine⟨a,c,rfl,BM ho,vals,by simp[hl,hk],hat,λi h1 h2=>?_⟩;obtain⟨a1,c1,e1,e2,_⟩:=cw (hi i h2);have hi1:i<R.length:=by simpa using h1
 have eg:(R.map λr=>r.map dval).getD i []=R[i].map dval:=by simp[hi1]
 rw[eg]at e1 e2;refine⟨a1,c1,?_,?_⟩
 . rw[e1];simp[LG]
 . rw[List.getElem_map,Rn];exact e2
def fL.len {e:TypeId}{w:World}{base k:Nat}{R:List (List Dyadic)}{v:Value}(h:fL e w base R k v):∃a c,v=.slice a k c/\k<=c:=by obtain⟨vals,hl,ho,hi⟩:=h;obtain⟨a,c,hv,_,_⟩:=cw ho;subst hv;exact⟨a,c,rfl,BM ho⟩
def awt (a:Option Addr)(L cap:Nat)(rows:List (List Raw))(k0:Nat)(pa:Option Addr)(pn BN:Nat)(Pp:List Raw)(w:World)(hL:rows.length=L)(hL9:L<=9)(hP:Pp.length=pn)(hP8:pn<=8)(hrow:∀r∈rows,r.length<=8)(ha:Tbl w a rows)(hp:At w pa (Pp.flatMap aV))
 (hok:∀r∈rows,∀x∈r,Ok x) (acQ:∀x∈Pp,Ok x) (hT:aB w) (at9:Int) (pY:∀k:Nat,k<L->((k:Int)=at9↔k=k0)):
 Cl 180 #[.slice a L cap,af at9,.slice pa pn BN] w λe w'=>∃v,e=.returned v/\fL 63 w' w.heap.size ((rows.set k0 Pp).map λr=>r.map dval) L v/\Bw w w':=by
 obtain⟨i0,hi,hz0,hz1,hz2⟩:=info_parts Tryz.azX;obtain⟨j0,hj,hy0,hy1,hy2⟩:=info_parts Tryz.aAc;obtain⟨R,hR⟩:=au (rows.set k0 Pp);obtain⟨S,hS⟩:=au (R.map λr=>r.map dval);have hRL:R.length=L:=by rw[<-hR];simp[hL]
 have hR8:∀r∈R,r.length<=8:=by
  intro r hr;rw[<-hR]at hr;rcases List.mem_or_eq_of_mem_set hr with h|h
  . exact hrow r h
  . rw[h];omega
 have abf:∀r∈R,∀x∈r,Ok x:=by
  intro r hr;rw[<-hR]at hr;rcases List.mem_or_eq_of_mem_set hr with h|h
  . exact hok r h
  . rw[h];exact acQ
 have yF:∀(W:World) (k:Nat) (hk:k<L),Bw w W->∃b o a1 c1 n1 aq cq,∃(hk2:k<R.length),a=some ⟨b,o,none⟩/\W.cell? ⟨b,o+k,none⟩=some (.slice a1 n1 c1)/\At W aq (R[k].flatMap aV)/\((k=k0/\aq=pa/\R[k].length=pn/\cq=BN)\/(k≠k0/\aq=a1/\R[k].length=n1/\cq=c1)):=by
  intro W k hk hb;obtain⟨b,o,a1,c1,h1,h2,h3⟩:=(ha.below hb).row k zo;by_cases hkk:k=k0
  . refine⟨b,o,a1,c1,_,pa,BN,by omega,h1,h2,?_,.inl ⟨hkk,rfl,?_,rfl⟩⟩
    . have:R[k]'zo=Pp:=by simp only[<-hR,hkk,List.getElem_set_self]
      rw[this];exact hp.below hb
    . have:R[k]'zo=Pp:=by simp only[<-hR,hkk,List.getElem_set_self]
      rw[this];exact hP
  . have:R[k]'zo=rows[k]'zo:=by simp only[<-hR];exact List.getElem_set_ne (λh=>hkk h.symm) _
    refine⟨b,o,a1,c1,_,a1,c1,by omega,h1,h2,?_,.inr ⟨hkk,rfl,by rw[this],rfl⟩⟩;rw[this];exact h3
 rw[hR,hS];obtain⟨Hi,cu,bV,bX,Hj,kR,jF,kU,HS,HRL,HR8,ag5⟩:=gL hi hz0 hz1 hz2 hj hy0 hy1 hy2 hS hRL hR8 abf;obtain⟨PO,HT,WX⟩:=bM yF hT pY;clear hi hz0 hz1 hz2 hj hy0 hy1 hy2 hR hS hRL hR8 abf yF ha hp hT hL hP hrow hok acQ pY;go_enter Tryz.func180,Tryz.ntmps180;have Hb:=hbz w;go_wp2_with fail;go_loopw[7,15] (λs7 x wr=>∃(k:Nat) (v:Value),k<=L/\x=af (k:Int)/\v=s7/\fL 63 wr w.heap.size S k v/\Bw w wr) (λ_ x _=>L-(intOf x).toNat);case atStart=>exact⟨0,_,Nat.zero_le _,rfl,rfl,fL.nil _ _ _ _,Hb.out⟩
 case round=>
  clear Hb;obtain⟨k,v,hk,rfl,rfl,pv,pb⟩:=hrel;by_cases hlt:k<L
  . obtain⟨b1,o1,a1,c1,n1,aq,cq,hk2,hab,hc1,hat,tV⟩:=PO.out wr k hlt pb;have oX:=ng L cap k (k:Int) hab hlt rfl;rw[Nat.mul_one]at oX;obtain⟨Q,hQ⟩:=au (R[k]);rw[hQ]at hat tV;have RS:=HR8.out _ (List.getElem_mem hk2);have RV:=ag5.out _ (List.getElem_mem hk2);rw[hQ]at RS RV;obtain⟨Z,hZ⟩:=au (Q.map dval);have oP:S.getD k []=Z:=by rw[<-HS.out,<-hZ,<-hQ];simp[hk2]
    have hQl:Q.length<=8:=RS;obtain⟨n,hn⟩:=au Q.length;rw[hn]at hQl tV;obtain⟨dV,ag3,HZ,vK,Ps,Hn,aP,ij⟩:=nk hat RV hZ oP tV hn pb pv;clear hat RV hZ oP tV hn pb pv hQ hab RS;have ic:=aP.out.size;go_upto_if 22 with fail
    go_cut[9] (λs9 wx=>s9=.slice aq n cq/\wx=wr);case first=>
     rcases Ps.out with⟨rfl,rfl,rfl,rfl⟩ |⟨h1,rfl,rfl,rfl⟩
     . obtain rfl:=(WX.out k hlt).2 rfl;go_wp2_with fail;go_meet;exact⟨rfl,rfl⟩
     . have h3:¬(k:Int)=at9:=λh=>h1 ((WX.out k hlt).1 h);have h2:((k:Int)==at9)=false:=by simpa using h3
       go_wp2_with fail;go_meet;exact⟨rfl,rfl⟩
    case rest=>
     obtain⟨rfl,rfl⟩:=hcut;clear oX hc1;go_wp2_with fail;go_loopw[10,26] (λJs x wr=>∃(j:Nat) (v2:Value),j<=n/\x=af (j:Int)/\v2=Js/\wr.ownsRow wc.heap.size 45 3 v2 j (dC (Z.take j))/\Bw wc wr) (λ_ x _=>n-(intOf x).toNat);case atStart=>exact⟨0,_,Nat.zero_le _,rfl,rfl,World.ownsRow_nil _ _ _ _,Below.refl _ _⟩
     case round=>
      obtain⟨j,v2,hj,rfl,rfl,ho,hb2⟩:=hrel;by_cases bB:j<n
      . have h1:j<Q.length:=by rw[Hn.out];exact bB
        obtain⟨s,m,e,hx⟩:=nY (Q[j]);have hok:=ag3.out _ (List.getElem_mem h1);rw[hx]at hok;obtain⟨X,hX⟩:=au (dval (s,m,e));have bN:Hid (dC (Z.take (j+1))=dC (Z.take j)++(bE X)):=by
         show _=_
         rw[<-HZ.out,List.take_succ_eq_append_getElem (by simpa using h1),CU];congr 1;simp only[List.getElem_map,hx,hX];rfl
        obtain⟨b2,o2,iF,p0,p1,p2⟩:=(dV.out.below hb2).num j h1 hx;have rH:=ot n cq j (j:Int) iF bB rfl;obtain⟨HX,NU,Ho,bW,xD⟩:=eD hX hok ho hb2 ((HT.out.below aP.out).below hb2);have Ju:=hb2.size;have Hp:Hid (aQ wr b2 (o2+j*3) [ag s,ah m,af e]):=iI p0 p1 p2;clear hX hok ho hb2 hx iF p0 p1 p2;have Hb:=hbz wr;obtain⟨ae,ai⟩:=qZ (Hp.an trivial);have p1:wr.cell? ⟨b2,o2+j*3+1,none⟩=some (ah m):=ae.1.out.cell 1 zm;have p0:wr.cell? ⟨b2,o2+j*3,none⟩=some (ag s):=ae.1.out.cell 0 zm;have p2:wr.cell? ⟨b2,o2+j*3+2,none⟩=some (af e):=ae.1.out.cell 2 zm;have P0:=p0;have P1:=p1;have P2:=p2;obtain⟨W4,kg,aG,ae,ai⟩:=bO wr (Hb.an ae) 45 [ag s,ah m,af e];have HT:Hid (aB W4):=xD.out.below ae.2.1.out;go_wp2_with fail;refine aK (HT.an ae) (rE s m e X HX.out _ NU.out HT.out) λw5 ae ai=>?_;obtain⟨W6,pW,aG,ae,ai⟩:=bO w5 ae 45 (bE X);have cf:=ownsRow_below Ho.out ae.2.2.2.1.out;have jS:=ae.2.2.2.1.out.size;have hnews:=fM ae.1.out;skip
        go_wp2_with (at_builtin;refine wpList_append_own_at _ rfl _ _ 63 rfl wc.heap.size 45 i0 _ 3 32 Tryz.underlying63 Hi.out cu.out bV.out bX.out rfl zd v2 j (dC (Z.take j)) rfl cf ⟨w5.heap.size,0,none⟩ 1 1 (bE X) rfl rfl hnews zy zx zo zo ?_;intro v' w7 dA eo _ _;obtain⟨g',oL,rfl⟩:=ownsRow_succ dA);go_roundw;case rel=>
         refine⟨j+1,_,by omega,by go_num,rfl,?_,?_⟩
         . rw[bN.out];exact dA
         . exact(aF bW.out ae.2.2.2.1.out).grown eo zo (λj e=>cE cf j e)
        case measure=>exact bi
      . obtain rfl:j=n:=by omega
        have oQ:Z.take j=Z:=List.take_of_length_le (by rw[<-HZ.out];simp[Hn.out]);rw[oQ]at ho;obtain⟨vals,hvl,hov,om⟩:=ij.out.below hb2;have Hb:=hbz wr;obtain⟨a2,cap2,rfl,_,_⟩:=cw ho;obtain⟨Hx,sM,vT,cV,bW⟩:=eD (UG ho ic) hvl om hov hb2;have Ju:=hb2.size;clear hvl om hov hb2 oQ ho bB hj;obtain⟨W6,pW,aG,ae,ai⟩:=bO wr (Hb.an trivial) 63 [.slice a2 j cap2];have cf:=ownsRow_below cV.out ae.2.1.out;have jS:=ae.2.1.out.size;have hnews:∀i u,([.slice a2 j cap2]:List Value)[i]?=some u->W6.cell? ((⟨wr.heap.size,0,none⟩:Addr).add i)=some u:=fM ae.1.out;skip
        go_wp2_with (at_builtin;refine wpList_append_own_at _ rfl _ _ 25 rfl w.heap.size 63 j0 _ 1 24 Tryz.underlying25 Hj.out kR.out jF.out kU.out rfl zd v k vals rfl cf ⟨wr.heap.size,0,none⟩ 1 1 [.slice a2 j cap2] rfl rfl hnews zy zx zo zo ?_;intro v' w7 dA eo _ fD;obtain⟨g',oL,rfl⟩:=ownsRow_succ dA);go_roundw;case rel=>
         refine⟨k+1,_,by omega,by go_num,rfl,?_,?_⟩
         . exact fL.push zd sM.out cf (λi h=>ownsRow_below (vT.out i h) ae.2.1.out) (n:=j) (by rw[vK.out,<-HZ.out,List.length_map,Hn.out]) (by rw[vK.out];exact ownsRow_below Hx.out ae.2.1.out) dA eo
         . exact(aF (aF aP.out bW.out) ae.2.1.out).grown eo zo (λj e=>cE cf j e)
        case measure=>exact bi
  . obtain rfl:k=L:=by omega
    obtain⟨aP,ij⟩:=aH pb pv;clear pv pb;go_wp2;refine bodyPost_ret (v:=v) (by simp[results,Tryz.results180,go_sem]) rfl ⟨v,rfl,ij.out,aP.out⟩
def uG (e:TypeId)(w:World)(base top:Nat)(R:List (List Dyadic))(k:Nat)(v:Value):Prop:=
 ∃vals:List Value,vals.length=k/\w.ownsRow base e 1 v k vals/\∀i (h:i<vals.length),w.ownsRow base 45 3 vals[i] (R.getD i []).length (dC (R.getD i []))/\∀g,vals[i].ownBlock=some g->g<top
def fL.top {e:TypeId}{w:World}{base k:Nat}{R:List (List Dyadic)}{v:Value}(h:fL e w base R k v):uG e w base w.heap.size R k v:=by obtain⟨vals,hl,ho,hi⟩:=h;exact⟨vals,hl,ho,λi h=>⟨hi i h,λg hg=>((hi i h).lt g hg).2⟩⟩
def uG.below {e:TypeId}{w w':World}{base top k:Nat}{R:List (List Dyadic)}{v:Value}(h:uG e w base top R k v)(hb:Bw w w'):uG e w' base top R k v:=by obtain⟨vals,hl,ho,hi⟩:=h;exact⟨vals,hl,ownsRow_below ho hb,λi h=>⟨ownsRow_below (hi i h).1 hb,(hi i h).2⟩⟩
instance {e :TypeId} {w:World} {base top k:Nat} {R:List (List Dyadic)} {v:Value}:QTr (uG e w base top R k v) w (λW=>uG e W base top R k v):=⟨λh _ k=>uG.below h k⟩
def uG.aAp {e:TypeId}{w:World}{base top k:Nat}{R:List (List Dyadic)}{v:Value}(h:uG e w base top R k v):fL e w base R k v:=by obtain⟨vals,hl,ho,hi⟩:=h;exact⟨vals,hl,ho,λi h=>(hi i h).1⟩
def fL.kept {e:TypeId}{w w':World}{base k:Nat}{R:List (List Dyadic)}{v:Value}{g:Nat}(h:fL e w base R k v)(hg:w.grownBy w' (some g))(hb:g<base):fL e w' base R k v:=by obtain⟨vals,hl,ho,hi⟩:=h;exact⟨vals,hl,ho.kept hg (.inr (λh=>by have:=cE ho g h;omega)),λi h=>(hi i h).kept hg (.inr (λh2=>by have:=cE (hi i h) g h2;omega))⟩
def api (a:Option Addr)(L cap n:Nat)(rows:List (List Raw))(B:Nat)(i j:Nat)(Y:Dyadic)(w:World)(hL:rows.length=L)(hv:kI rows=n)(hn:1<=n)(ha:Tbl w a rows)
 (hfit:∀r∈rows,∀c∈r,Fit B c) (hB:B<=10000000) (hT:aB w) (hF:gZ (gz rows n) L=(i,j,Y)):
 Cl 102 #[.slice a L cap] w λe w'=>∃a1 c1 a2 c2 mid,e=.returned (.tuple #[.slice a1 L c1,.slice a2 L c2,af 0])/\
  uG 63 w' w.heap.size mid ((rows.set j (pz (rows.getD i []) (rows.getD j []))).map λr=>r.map dval) L (.slice a1 L c1)/\fL 63 w' mid ((rows.set i (pz (rows.getD i []) (rows.getD j []))).map λr=>r.map dval) L (.slice a2 L c2)/\Bw w w':=by
 obtain⟨i0,hi,hz0,hz1,hz2⟩:=info_parts Tryz.azX;obtain⟨c1,c2,c3,c4⟩:=JE hv zo;have AV:=λW=>λ(h:Tbl W a rows) (hT:aB W)=>arx a L cap n rows B W hL hv hn h hfit hB hT;have hinv:=MX (gz rows n) L zo;rw[hF]at hinv;simp only[hF]at AV;obtain⟨hij,GX,hY⟩:=hinv;dsimp only at hij GX hY;have hiL:i<L:=by omega
 obtain⟨p,hp'⟩:=au (rows.getD i []);obtain⟨q,hq'⟩:=au (rows.getD j []);have ep:rows[i]'zo=p:=by rw[<-hp'];simp[hL,hiL]
 have eq:rows[j]'zo=q:=by rw[<-hq'];simp[hL,GX]
 have hpl:p.length=n:=by have:=c4 p (by rw[<-ep];exact List.getElem_mem _);omega
 have rJ:q.length=n:=by have:=c4 q (by rw[<-eq];exact List.getElem_mem _);omega
 have jR:∀x∈p,Fit B x:=by rw[<-ep];exact hfit _ (List.getElem_mem _)
 have Ty:∀x∈q,Fit B x:=by rw[<-eq];exact hfit _ (List.getElem_mem _)
 rw[hp',hq'];have TM:=λ(k:Nat) (pa:Option Addr) (pc:Nat) (W:World) (h1:Tbl W a rows) (h2:At W pa (dC (midD p q))) (h3:aB W)=>awt a L cap rows k pa n pc (pz p q) W hL zo (by rw[aex zo];exact hpl) zo (λr hr=>by have:=c4 r hr;omega) h1 (by unfold pz;rw[<-yc];exact h2) (λr hr x hx=>(hfit r hr x hx).1) (λx hx=>(aew jR Ty hB x hx).1) h3 (k:Int) (λk _=>by omega);obtain⟨A1,Rt⟩:=au ((rows.set j (pz p q)).map (λr=>r.map dval));obtain⟨A2,hA2⟩:=au ((rows.set i (pz p q)).map (λr=>r.map dval));have qG:=TM j;have qF:=TM i;rw[Rt]at qG⊢;rw[hA2]at qF⊢;have hrow:=λ(W:World) (h:Tbl W a rows)=>h.row i zo;have hrow2:=λ(W:World) (h:Tbl W a rows)=>h.row j zo;simp only[ep,hpl]at hrow;simp only[eq,rJ]at hrow2;obtain⟨Z,hZ⟩:=au (midD p q);have hst:∀k (h:k<p.length) (h':k<q.length),Z.take (k+1)=Z.take k++[(dval p[k]+dval q[k]) *hp 1]:=by rw[<-hZ];exact arU p q
 have GF:Z.length=n:=by rw[<-hZ,aev zo,hpl]
 rw[hZ]at qF qG;obtain⟨Hi,cu,bV,bX,Pd,Ha,HT,Qd,Qe,sI,ajw,bN⟩:=gL hi hz0 hz1 hz2 AV ha hT qF qG hrow hrow2 hst;obtain⟨xE,lM,PH,uA,Hqf⟩:=eD GF hpl rJ jR Ty;have DC:n<=8:=by omega
 clear hi hz0 hz1 hz2 AV ha hT qF qG TM hrow hrow2 hst GF hpl rJ jR Ty ep eq hp' hq' hY hF hfit hv c1 c2 c3 c4 hL hZ Rt hA2;have Hb:=hbz w;go_enter Tryz.func102,Tryz.ntmps102;go_wp2_with fail;refine aK (Hb.an trivial) (Pd.out _ (Ha.out.below Hb.out) (HT.out.below Hb.out)) λw1 ae ai=>?_;obtain⟨w2,ayc,aG,ae,ai⟩:=bO w1 ae 45 (bE Y);obtain⟨b0,o0,a1,c1,gQ,hc0,iG⟩:=sI.out w2 (Ha.out.below ae.2.1.out);obtain⟨jW,mG,a2,c2,ey,hc1,jf⟩:=ajw.out w2 (Ha.out.below ae.2.1.out);obtain⟨rfl,rfl⟩:jW=b0/\mG=o0:=by rw[gQ]at ey;simp at ey;exact⟨ey.1.symm,ey.2.symm⟩
 clear ey;have DZ:=ng L cap i (i:Int) gQ hiL rfl;have Bp:=ng L cap j (j:Int) gQ GX rfl;rw[Nat.mul_one]at DZ Bp;obtain⟨ux,Hc1,jo,oG,kM⟩:=eD hc0 hc1 iG jf gQ;clear hc1 iG jf gQ;have Ju:=ae.2.1.out.size;go_wp2_with fail;go_loopw[8,25] (λs8 x wr=>∃(k:Nat) (v:Value),k<=n/\x=af (k:Int)/\v=s8/\wr.ownsRow w2.heap.size 45 3 v k (dC (Z.take k))/\Bw w2 wr) (λ_ x _=>n-(intOf x).toNat);case atStart=>exact⟨0,_,Nat.zero_le _,rfl,rfl,World.ownsRow_nil _ _ _ _,Below.refl _ _⟩
 case round=>
  clear hc0;obtain⟨k,v,hk,rfl,rfl,pv,pb⟩:=hrel;by_cases hlt:k<n
  . have k1:k<p.length:=by rw[lM.out];exact hlt
    have k2:k<q.length:=by rw[PH.out];exact hlt
    obtain⟨sp,mp,ep,iW⟩:=nY (p[k]);obtain⟨sq,mq,eq,rL⟩:=nY (q[k]);have fp:=uA.out _ (List.getElem_mem k1);have pZ:=Hqf.out _ (List.getElem_mem k2);have hst:=bN.out k k1 k2;rw[iW]at fp hst;rw[rL]at pZ hst;obtain⟨D,hD⟩:=au (dval (sp,mp,ep)+dval (sq,mq,eq));obtain⟨X,hX⟩:=au (D*hp 1);rw[hD,hX]at hst;have je:Sm (B+1) D:=by rw[<-hD];exact Sm.add fp.2 pZ.2
    have Cc:Hid (Ok (dx D)):=(je.fit zo).1;have HX:Hid (dval (az (dN D),nt (dN D).natAbs,dE D+ -1)=X):=by show _=_;rw[<-hX];exact Nt D 1
    have sJ:Hid (dC (Z.take (k+1))=dC (Z.take k)++(bE X)):=by
     show _=_
     rw[hst,CU];rfl
    obtain⟨b1,o1,ey,p0,p1,p2⟩:=(jo.out.below pb).num k k1 iW;obtain⟨b2,o2,iF,q0,q1,q2⟩:=(oG.out.below pb).num k k2 rL;have oX:=ot n c1 k (k:Int) ey hlt rfl;have rH:=ot n c2 k (k:Int) iF hlt rfl;have nj:b1<w2.heap.size:=(by subst ey;exact jo.out.lt (by intro h0;have:=congrArg List.length h0;rw[iD aV 3 (λ_=>rfl)]at this;simp at this;omega));have kz:b2<w2.heap.size:=(by subst iF;exact oG.out.lt (by intro h0;have:=congrArg List.length h0;rw[iD aV 3 (λ_=>rfl)]at this;simp at this;omega));have ug:jW<w2.heap.size:=World.block_lt_of_cell? w2 _ ux.out;have Hu:Hid (aQ wr jW (mG+i) [.slice a1 n c1]):=λj hj=>by
     obtain rfl:j=0:=by simp at hj;omega
     exact cell_later pb ux.out
    have Hv:Hid (aQ wr jW (mG+j) [.slice a2 n c2]):=λj hj=>by
     obtain rfl:j=0:=by simp at hj;omega
     exact cell_later pb Hc1.out
    have Hp:Hid (aQ wr b1 (o1+k*3) [ag sp,ah mp,af ep]):=iI p0 p1 p2;have Hq:Hid (aQ wr b2 (o2+k*3) [ag sq,ah mq,af eq]):=iI q0 q1 q2;obtain⟨oH,Ck,HD,ij,zJ,dH⟩:=fZ fp pZ hD pv pb ((HT.out.below ae.2.1.out).below pb);have jC:=ae.2.1;have Ep:=pb.size;clear pv pb fp pZ hD hX hst je iW rL ey iF p0 p1 p2 q0 q1 q2;have Hb:=hbz wr;go_wp2_with fail;obtain⟨ae,ai⟩:=qZ (Hu.an<|Hv.an<|Hp.an<|Hq.an trivial);obtain⟨Hu,Hv,Hp,Hq,_⟩:=ae;have u0:=Hu.out.w1;have v0:=Hv.out.w1;obtain⟨p0,p1,p2⟩:=Hp.out.w3;obtain⟨q0,q1,q2⟩:=Hq.out.w3;refine fx (λw'=>aJ w' jW (mG+i) (.slice a1 n c1)/\aJ w' jW (mG+j) (.slice a2 n c2)/\aJ w' b1 (o1+k*3) (ag sp)/\aJ w' b1 (o1+k*3+1) (ah mp)/\aJ w' b1 (o1+k*3+2) (af ep)/\aJ w' b2 (o2+k*3) (ag sq)/\aJ w' b2 (o2+k*3+1) (ah mq)/\aJ w' b2 (o2+k*3+2) (af eq)) (λi=>Nat.blt i 100000) [(0,true),(1,true),(2,true),(3,true),(4,true),(5,true),(6,true),(7,true),(8,true),(9,true),(10,true),(11,true),(12,true),(13,true),(14,true),(15,false),(16,false),(17,false),(18,false),(19,false),(20,true)] zk zk rfl zk zc ⟨u0,v0,p0,p1,p2,q0,q1,q2⟩ ?_;iterate 15 (refine pT rfl rfl ?_ (by intro w' ⟨q0,q1,q2,q3,q4,q5,q6,q7⟩;go_simp;try with_reducible rfl);try simp only[UU])
    refine aO rfl rfl (λK hK=>?_);go_simp;refine hK _ _ (λ_=>⟨aM u0,aM v0,aM p0,aM p1,aM p2,aM q0,aM q1,aM q2⟩) ?_;try simp only[UU]
    refine cg (λw4=>ar w4 (wr.heap.size) 45 [ag sp,ah mp,af ep,ag sq,ah mq,af eq]/\Bw wr w4) (by first|exact iY|exact iZ) ?_;rintro w4 ⟨qe,ak⟩;replace Hu:=kW Hu ak;replace Hv:=kW Hv ak;replace Hp:=kW Hp ak;replace Hq:=kW Hq ak;have He:=aj qe;clear qe;have u0:=Hu.out.w1;have v0:=Hv.out.w1;obtain⟨p0,p1,p2⟩:=Hp.out.w3;obtain⟨q0,q1,q2⟩:=Hq.out.w3;obtain⟨e0,e1,e2,e3,e4,e5⟩:=He.out.c6;replace Hb:=bj Hb ak;refine aO rfl rfl (λK hK=>?_);go_simp;with_reducible refine(yb sp mp ep sq mq eq D B HD.out wr.heap.size 2 45 _ oH.out Ck.out zo He.out (by first|exact(dH.out.below Hb.out) |exact aB.drew (dH.out.below Hb.out) |exact aB.alloc (dH.out.below Hb.out) _|exact aB.drew (aB.alloc (dH.out.below Hb.out) _) |exact aB.alloc (aB.drew (dH.out.below Hb.out)) _)).mono ?_
    rintro e w5 ⟨rfl,hq⟩;have ak:Bw w4 w5:=by first|exact hq|exact cM hq
    replace Hu:=kW Hu ak;replace Hv:=kW Hv ak;replace Hp:=kW Hp ak;replace Hq:=kW Hq ak;replace He:=kB He ak;have u0:=Hu.out.w1;have v0:=Hv.out.w1;obtain⟨p0,p1,p2⟩:=Hp.out.w3;obtain⟨q0,q1,q2⟩:=Hq.out.w3;obtain⟨e0,e1,e2,e3,e4,e5⟩:=He.out.c6;replace Hb:=bj Hb ak;refine hK _ _ (λ_=>⟨u0,v0,p0,p1,p2,q0,q1,q2⟩) ?_;try simp only[UU]
    refine aO rfl rfl (λK hK=>?_);go_simp;with_reducible refine(Ns (az (dN D)) (nt (dN D).natAbs) (dE D) (-1) X HX.out _ Cc.out zd (by first|exact(dH.out.below Hb.out) |exact aB.drew (dH.out.below Hb.out) |exact aB.alloc (dH.out.below Hb.out) _|exact aB.drew (aB.alloc (dH.out.below Hb.out) _) |exact aB.alloc (aB.drew (dH.out.below Hb.out)) _)).mono ?_
    rintro e w6 ⟨rfl,hq⟩;have ak:Bw w5 w6:=by first|exact hq|exact cM hq
    replace Hu:=kW Hu ak;replace Hv:=kW Hv ak;replace Hp:=kW Hp ak;replace Hq:=kW Hq ak;replace He:=kB He ak;have u0:=Hu.out.w1;have v0:=Hv.out.w1;obtain⟨p0,p1,p2⟩:=Hp.out.w3;obtain⟨q0,q1,q2⟩:=Hq.out.w3;obtain⟨e0,e1,e2,e3,e4,e5⟩:=He.out.c6;replace Hb:=bj Hb ak;refine hK _ _ (λ_=>⟨u0,v0,p0,p1,p2,q0,q1,q2⟩) ?_;try simp only[UU]
    refine aO rfl rfl (λK hK=>?_);go_simp;refine hK _ _ (λ_=>⟨aM u0,aM v0,aM p0,aM p1,aM p2,aM q0,aM q1,aM q2⟩) ?_;try simp only[UU]
    refine cg (λw7=>ar w7 (w6.heap.size) 45 (bE X)/\Bw w6 w7) (by first|exact iY|exact iZ) ?_;rintro w7 ⟨qc,ak⟩;have ay2:=He.out.lt;replace Hu:=kW Hu ak;replace Hv:=kW Hv ak;replace Hp:=kW Hp ak;replace Hq:=kW Hq ak;replace He:=kB He ak;have Hc:=aj qc;clear qc;have u0:=Hu.out.w1;have v0:=Hv.out.w1;obtain⟨p0,p1,p2⟩:=Hp.out.w3;obtain⟨q0,q1,q2⟩:=Hq.out.w3;obtain⟨e0,e1,e2,e3,e4,e5⟩:=He.out.c6;obtain⟨c0,c1,c2⟩:=Hc.out.c3;replace Hb:=bj Hb ak;refine aO rfl rfl (λK hK=>?_);have cf:=ownsRow_below ij.out Hb.out;have jS:=Hb.out.size;refine wp_append_own _ _ _ 63 rfl w2.heap.size 45 i0 _ 3 32 Tryz.underlying63 Hi.out cu.out bV.out bX.out rfl zd v k (dC (Z.take k)) rfl cf ⟨w6.heap.size,0,none⟩ 1 1 (bE X) rfl rfl (fM Hc.out) zy zx zo zo ?_;intro v' w8 dO bA _;obtain⟨g',cq,rfl⟩:=ownsRow_succ dO;have nb:∀b,b<w2.heap.size->some b≠v.ownBlock:=λb hb e=>by have:=cE cf b e.symm;omega
    refine hK _ _ (λ_=>⟨cW bA u0 (nb _ ug),cW bA v0 (nb _ ug),cW bA p0 (nb _ nj),cW bA p1 (nb _ nj),cW bA p2 (nb _ nj),cW bA q0 (nb _ kz),cW bA q1 (nb _ kz),cW bA q2 (nb _ kz)⟩) ?_;try simp only[UU]
    refine pT rfl rfl ?_;try simp only[UU]
    simp only[bH];go_wp2;go_roundw;case rel=>
     refine⟨k+1,_,by omega,by go_num,rfl,?_,?_⟩
     . rw[sJ.out];exact dO
     . exact(aF zJ.out Hb.out).grown bA zo (λj e=>cE cf j e)
    case measure=>exact bi
  . obtain rfl:k=n:=by omega
    have oQ:Z.take k=Z:=List.take_of_length_le (by rw[xE.out];exact Nat.le_refl _);rw[oQ]at pv;obtain⟨a3,YW,rfl,tH,_⟩:=cw pv;obtain⟨JS,JP,JR,jC⟩:=cG tH ((HT.out.below ae.2.1.out).below pb) ((Ha.out.below ae.2.1.out).below pb) (aF ae.2.1.out pb);clear tH pv pb oQ DZ Bp;have Hb:Hid (Bw w wr):=jC;go_wp2_with fail;refine(Qe.out a3 YW _ JR.out JS.out JP.out).mono ?_;rintro e w4 ⟨v4,rfl,TE,ak⟩;have PR:=aj (fL.top (TE.base Hb.out.size));replace Hb:=aj (aF Hb.out ak);replace JS:=aj (JS.out.below ak);replace JP:=aj (JP.out.below ak);replace JR:=aj (JR.out.below ak);obtain⟨a4,c4,rfl,_⟩:=TE.len;clear TE ak;go_wp2_with fail;refine(Qd.out a3 YW _ JR.out JS.out JP.out).mono ?_;rintro e w5 ⟨v5,rfl,IK,ak⟩;have Ht5:=aj IK;replace Hb:=aj (aF Hb.out ak);replace PR:=aj (PR.out.below ak);obtain⟨a5,c5,rfl,_⟩:=IK.len;clear IK ak;go_wp2;refine bodyPost_ret (v:=.tuple #[.slice a4 L c4,.slice a5 L c5,af 0]) (by simp[results,Tryz.results102,go_sem]) rfl ⟨a4,c4,a5,c5,w4.heap.size,rfl,PR.out,Ht5.out,Hb.out⟩
end Go.Proofs.YtpfgffadgkkedaaGreatDoor
