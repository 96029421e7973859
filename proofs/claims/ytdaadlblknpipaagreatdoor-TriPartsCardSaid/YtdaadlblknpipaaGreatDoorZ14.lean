/- Package mat: scaled. -/
import Derived.Test.YtdaadlblknpipaaGreatDoorZ13
import Derived.Test.YtdaadlblknpipaaGreatDoorZ1
import Derived.Test.YtdaadlblknpipaaGreatDoorZ12
import Derived.Test.YtdaadlblknpipaaGreatDoorZ7
import Derived.Test.YtdaadlblknpipaaGreatDoorZ10
import Derived.Test.YtdaadlblknpipaaGreatDoorZ6
set_option linter.unusedVariables false
set_option linter.unusedSimpArgs false
set_option maxRecDepth 100000
set_option maxHeartbeats 16000000
namespace Go.Proofs.YtdaadlblknpipaaGreatDoor
open Go.RowKit
attribute [local go_sem ↓] Go.wp_at_zero Go.wp_at_succ
theorem Tryz.aom :(Tryz.prog.info? 28).map (λi=>(i.zero,i.size,i.bytes))=some (some (.agg #[.bool false,.string (bs [])]),2,24):=by kernel_rfl
theorem Tryz.aon :(Tryz.prog.info? 134).map (λi=>(i.zero,i.size,i.bytes))=some (some (.slice none 0 0),1,24):=by kernel_rfl
def iC (z:Int):List Value:=[.bool (au z),.string (bs (nt z.natAbs))]
def zC (zs:List Int):List Value:=zs.flatMap iC
theorem akT (a b:List Int):zC (a++b)=zC a++zC b:=by unfold zC;rw[List.flatMap_append]
def iz (w:World)(base n:Nat)(R:List (List Int))(k:Nat)(v:Value):Prop:=
 ∃vals:List Value,vals.length=k/\w.ownsRow base 134 1 v k vals/\(∀i (h:i<vals.length),w.ownsRow base 28 2 vals[i] n (zC (R.getD i [])))/\
  ∀i j (hi:i<vals.length) (hj:j<vals.length) g,vals[i].ownBlock=some g->vals[j].ownBlock=some g->i=j
theorem iz.nil (w:World)(base n:Nat)(R:List (List Int)):iz w base n R 0 (.slice none 0 0):=
 ⟨[],rfl,World.ownsRow_nil _ _ _ _,λ_ h=>absurd h (Nat.not_lt_zero _),λ_ _ h=>absurd h (Nat.not_lt_zero _)⟩
theorem iz.below {w w':World}{base n k:Nat}{R:List (List Int)}{v:Value}(h:iz w base n R k v)(hb:Bw w w'):iz w' base n R k v:=by obtain⟨vals,hl,ho,hi,hd⟩:=h;exact⟨vals,hl,ownsRow_below ho hb,λi h=>ownsRow_below (hi i h) hb,hd⟩
theorem Di {W:World}{b1 b2 e1 e2 s1 s2 k1 k2:Nat}{v1 v2:Value}{x1 x2:List Value}(h1:W.ownsRow b1 e1 s1 v1 k1 x1)(h2:W.ownsRow b2 e2 s2 v2 k2 x2)(he:e1≠e2):v1.ownBlock=none\/v1.ownBlock≠v2.ownBlock:=by
 rcases h1.2 with⟨rfl,_⟩ |⟨g,cap,cur,rfl,_,hg,_⟩
 . exact .inl rfl
 . refine .inr λh=>?_;rcases h2.2 with⟨rfl,_⟩ |⟨g',cap',cur',rfl,_,hg',_⟩
   . simp[Value.ownBlock]at h
   . simp only[Value.ownBlock,Option.some.injEq]at h;subst h;rw[hg]at hg';simp at hg';exact he hg'.2
theorem oF {W:World}{base base':Nat}{e:TypeId}{size:Nat}{v:Value}{n:Nat}{xs:List Value}(h:W.ownsRow base e size v n xs)(hb:base'<=base):W.ownsRow base' e size v n xs:=by
 refine⟨h.1,?_⟩;rcases h.2 with h2|⟨g,cap,cur,h1,h2,h3⟩
 . exact .inl h2
 . exact .inr ⟨g,cap,cur,h1,Nat.le_trans hb h2,h3⟩
theorem iz.push {w w':World}{base n k:Nat}{R:List (List Int)}{v v' x:Value}{vals:List Value}(hl:vals.length=k)(hov:w.ownsRow base 134 1 v k vals)(hi:∀i (h:i<vals.length),w.ownsRow base 28 2 vals[i] n (zC (R.getD i [])))
 (hd:∀i j (hi:i<vals.length) (hj:j<vals.length) g,vals[i].ownBlock=some g->vals[j].ownBlock=some g->i=j)
 (hx:w.ownsRow base 28 2 x n (zC (R.getD k []))) (lw:∀g,x.ownBlock=some g->∀i (h:i<vals.length),vals[i].ownBlock≠some g)
 (ho:w'.ownsRow base 134 1 v' (k+1) (vals++[x])) (hg:w.grownBy w' v.ownBlock):iz w' base n R (k+1) v':=by
 refine⟨_,by simp[hl],ho,λi h=>?_,λi j h1 h2 g e1 e2=>?_⟩
 . by_cases hk:i<vals.length
   . rw[List.getElem_append_left hk];exact(hi i hk).kept hg (Di (hi i hk) hov zd)
   . have hik:i=k:=by simp at h;omega
     subst hik;rw[List.getElem_append_right zo];simp only[hl,Nat.sub_self,List.getElem_cons_zero];exact hx.kept hg (Di hx hov zd)
 . by_cases k1:i<vals.length
   . rw[List.getElem_append_left k1]at e1;by_cases k2:j<vals.length
     . rw[List.getElem_append_left k2]at e2;exact hd i j k1 k2 g e1 e2
     . have hjk:j=k:=by simp at h2;omega
       subst hjk;rw[List.getElem_append_right zo]at e2;simp only[hl,Nat.sub_self,List.getElem_cons_zero]at e2;exact absurd e1 (lw g e2 i k1)
   . have hik:i=k:=by simp at h1;omega
     subst hik;rw[List.getElem_append_right zo]at e1;simp only[hl,Nat.sub_self,List.getElem_cons_zero]at e1;by_cases k2:j<vals.length
     . rw[List.getElem_append_left k2]at e2;exact absurd e2 (lw g e1 j k2)
     . simp at h2;omega
def jY (l:Int)(ds:List Dyadic):Int:=ds.foldl (λl d=>min l (dE d)) l
def kG (l:Int)(R:List (List Dyadic)):Int:=R.foldl jY l
def oG (low:Int)(d:Dyadic):Int:=dN d*2^(dE d-low).toNat
theorem VB (l:Int)(ds:List Dyadic):jY l ds<=l/\∀d∈ds,jY l ds<=dE d:=by
 induction ds generalizing l with
 |nil=>exact⟨Int.le_refl _,λd h=>by cases h⟩
 | cons x xs ih=>
   have h:=ih (min l (dE x));have e:jY l (x::xs)=jY (min l (dE x)) xs:=rfl;rw[e];refine⟨by omega,λd hd=>?_⟩;rcases List.mem_cons.1 hd with rfl|hd
   . omega
   . exact h.2 d hd
theorem MJ (l:Int)(R:List (List Dyadic)):kG l R<=l/\∀r∈R,∀d∈r,kG l R<=dE d:=by
 induction R generalizing l with
 |nil=>exact⟨Int.le_refl _,λd h=>by cases h⟩
 | cons x xs ih=>
   have h:=ih (jY l x);have h1:=VB l x;have e:kG l (x::xs)=kG (jY l x) xs:=rfl;rw[e];refine⟨by omega,λr hr d hd=>?_⟩;rcases List.mem_cons.1 hr with rfl|hr
   . have:=h1.2 d hd;omega
   . exact h.2 r hr d hd
theorem VA (l:Int)(ds:List Dyadic)(m:Int)(hl:m<=l)(h:∀d∈ds,m<=dE d):m<=jY l ds:=by
 induction ds generalizing l with
 |nil=>exact hl
 |cons x xs ih=>have hx:=h x (List.mem_cons_self ..);exact ih (min l (dE x)) zo (λd hd=>h d (List.mem_cons_of_mem _ hd))
theorem MI (l:Int)(R:List (List Dyadic))(m:Int)(hl:m<=l)(h:∀r∈R,∀d∈r,m<=dE d):m<=kG l R:=by
 induction R generalizing l with
 |nil=>exact hl
 |cons x xs ih=>exact ih (jY l x) (VA l x m hl (h x (List.mem_cons_self ..))) (λr hr=>h r (List.mem_cons_of_mem _ hr))
theorem agB (l:Int)(ds:List Dyadic)(k:Nat)(h:k<ds.length):jY l (ds.take (k+1))=min (jY l (ds.take k)) (dE ds[k]):=by unfold jY;rw[List.take_succ_eq_append_getElem h,List.foldl_append];rfl
theorem agC (l:Int)(R:List (List Dyadic))(k:Nat)(h:k<R.length):kG l (R.take (k+1))=jY (kG l (R.take k)) R[k]:=by unfold kG;rw[List.take_succ_eq_append_getElem h,List.foldl_append];rfl
theorem adX (x y z:Value)(W:World):(Instr.field 30 (.agg #[x,y,z]) 1).run Tryz.prog W=.ok z W:=by kernel_rfl
theorem ajw (low:Int)(d:Dyadic)(h:low<=dE d):Dyadic.ofIntWithPrec (oG low d) (-low)=d:=by
 have e: -low= -(dE d)+((dE d-low).toNat:Int):=by omega
 unfold oG;rw[e,sO];exact(qX d).symm
theorem Xb (a:Option Addr)(L cap n:Nat)(rows:List (List Raw))(B:Nat)(low:Int)(w:World)(hL:rows.length=L)(hL8:L<=8)(ml:n<=8)(hrow:∀r∈rows,r.length=n)(ha:aX w a rows)
 (hfit:∀r∈rows,∀c∈r,Fit B c) (hB:B<=10000000) (hT:aF w) (ji:kG 0 (rows.map λr=>r.map aB)=low):
 Calls Tryz.prog 87 #[.slice a L cap] w λe w'=>∃v,e=.returned (.tuple #[v,.int .i64 (-low)])/\
  iz w' w.heap.size n ((rows.map λr=>r.map aB).map λr=>r.map (oG low)) L v/\Bw w w':=by
 obtain⟨i0,hi,hz0,hz1,hz2⟩:=info_parts Tryz.aom;obtain⟨j0,hj,hy0,hy1,hy2⟩:=info_parts Tryz.aon;obtain⟨D,hD⟩:=aC (rows.map λr=>r.map aB);have RU:D.length=L:=by rw[<-hD];simp[hL]
 have RX:∀k (h:k<rows.length) (h':k<D.length),D[k]=rows[k].map aB:=λk h h'=>by subst hD;simp
 have BA:∀r∈D,∀d∈r,-268435456<=dE d/\dE d<=268435456:=by intro r hr d hd;rw[<-hD]at hr;obtain⟨r',hr',rfl⟩:=List.mem_map.1 hr;obtain⟨x,hx,rfl⟩:=List.mem_map.1 hd;exact(((hfit r' hr' x hx).2).fit zo).1.2
 rw[hD]at ji⊢;have hlo:low<=0/\∀r∈D,∀d∈r,low<=dE d:=by rw[<-ji];exact MJ 0 D
 have hlb: -268435456<=low:=by rw[<-ji];exact MI 0 D _ zd (λr hr d hd=>(BA r hr d hd).1)
 have Ct:∀k j (h:k<D.length) (h':j<=D[k].length),-268435456<=jY (kG 0 (D.take k)) (D[k].take j)/\jY (kG 0 (D.take k)) (D[k].take j)<=0:=by intro k j h h';have g1: -268435456<=kG 0 (D.take k):=MI 0 _ _ zd (λr hr d hd=>(BA r (List.mem_of_mem_take hr) d hd).1);have g2:=(MJ 0 (D.take k)).1;have g3:=(VB (kG 0 (D.take k)) (D[k].take j)).1;exact⟨VA _ _ _ g1 (λd hd=>(BA _ (List.getElem_mem h) d (List.mem_of_mem_take hd)).1),by omega⟩
 obtain⟨Hi,cM,cN,cJ,Hj,jv,kX,kY,GR,OE,HDe,Zx⟩:=gW hi hz0 hz1 hz2 hj hy0 hy1 hy2 RU RX BA ji;obtain⟨PL,Zp,Eb,Ha,HT,rN,Ao,HL⟩:=ng hlo hlb Ct ha hT hrow hfit hL;have hnl:IntKind.i64.wrap (-low)= -low:=by rw[IntKind.wrap_i64];omega
 obtain⟨nl,Ma⟩:=aC (-low);obtain⟨S,hS⟩:=aC (D.map λr=>r.map (oG low));have lW:∀k (h:k<D.length),S.getD k []=D[k].map (oG low):=λk h=>by subst hS;simp[h]
 rw[hS,Ma];have Ub:IntKind.i64.wrap (-low)=nl:=by rw[hnl,Ma]
 obtain⟨Ji,oI⟩:=aM Ub lW;clear hnl Ma Ub hS lW hi hz0 hz1 hz2 hj hy0 hy1 hy2 Ct hlb hlo BA RX RU ji ha hT hrow hfit hL hD;go_enter Tryz.func87,Tryz.ntmps87;have Hb:Hid (Bw w w):=Below.refl _ _;go_wp2_with fail;go_loopw[4,18] (λs4 x wr=>∃k:Nat,k<=L/\x=.int .i64 (k:Int)/\s4=.int .i64 (kG 0 (D.take k))/\Bw w wr) (λ_ x _=>L-(intOf x).toNat);case atStart=>exact⟨0,Nat.zero_le _,rfl,rfl,Hb.out⟩
 case round=>
  clear Hb;obtain⟨k,hk,rfl,rfl,pb⟩:=hrel;by_cases hlt:k<L
  . have hk2:k<rows.length:=by rw[HL.out];exact hlt
    have hk3:k<D.length:=by rw[GR.out];exact hlt
    obtain⟨p,gH⟩:=aC (rows[k]);obtain⟨b,o,a1,c1,hab,hc1,hat⟩:=(Ha.out.below pb).row k hk2;have lD:p.length=n:=by rw[<-gH];exact rN.out _ (List.getElem_mem hk2)
    have gG:∀x∈p,Fit B x:=by rw[<-gH];exact Ao.out _ (List.getElem_mem hk2)
    have rU:=OE.out k hk2 hk3;rw[gH]at hc1 hat rU;rw[lD]at hc1;have iV:=wO L cap k (k:Int) hab hlt rfl;rw[Nat.mul_one]at iV;have hst:=agC 0 D k hk3;have hpt:=λj (h:j<=n)=>Eb.out k j hk3 (by rw[rU,List.length_map,lD];exact h);rw[rU]at hst;simp only[rU]at hpt;obtain⟨l0,hl0⟩:=aC (kG 0 (D.take k));rw[hl0]at hst⊢;simp only[hl0]at hpt;obtain⟨fF,kq,nJ,bS,Hpt,aR⟩:=gJ hat lD gG hst hpt pb;clear hat lD gG hst hpt pb hab gH rU hl0 hk2 hk3;obtain⟨wc,hwc⟩:∃wc,wc=wr:=⟨_,rfl⟩;subst hwc;have iu:=aR.out.size;go_wp2_with fail;go_loopw[4,24] (λs4 x wr=>∃j:Nat,j<=n/\x=.int .i64 (j:Int)/\s4=.int .i64 (jY l0 ((p.map aB).take j))/\Bw wc wr) (λ_ x _=>n-(intOf x).toNat);case atStart=>exact⟨0,Nat.zero_le _,rfl,rfl,Below.refl _ _⟩
    case round=>
     clear hc1;obtain⟨j,hj,rfl,rfl,hb2⟩:=hrel;by_cases bo:j<n
     . have k1:j<p.length:=by rw[kq.out];exact bo
       obtain⟨sp,mp,ep,fh⟩:=jf (p[j]);have dv:=nJ.out _ (List.getElem_mem k1);have hst:=agB l0 (p.map aB) j (by simpa using k1);rw[List.getElem_map,fh]at hst;rw[fh]at dv;obtain⟨X,hX⟩:=aC (aB (sp,mp,ep));rw[hX]at hst;obtain⟨l1,Cj⟩:=aC (jY l0 ((p.map aB).take j));rw[Cj]at hst⊢;obtain⟨b1,o1,cj,p0,p1,p2⟩:=(fF.out.below hb2).num j k1 fh;have TJ:=mo n c1 j (j:Int) cj bo rfl;have Hp:Hid (aZ wr b1 (o1+j*3) [.bool sp,.string (bs mp),.int .i64 ep]):=gM p0 p1 p2;obtain⟨jb,HX,rC,mJ,cz⟩:=fp dv.1 hX hb2 hst ((HT.out.below aR.out).below hb2);clear hb2 dv hX hst fh cj p0 p1 p2 Cj;have Hb:Hid (Bw wr wr):=Below.refl _ _;obtain⟨p0,p1,p2⟩:=Hp.out.w3;have P0:=p0;have P1:=p1;have P2:=p2;have fl:=adX (.bool (au (dN X))) (.string (bs (nt (dN X).natAbs))) (.int .i64 (dE X));obtain⟨W4,nY,ae,Hc⟩:=cQ wr 30 [.bool sp,.string (bs mp),.int .i64 ep];clear p0 p1 p2;replace Hp:=kW Hp ae;obtain⟨p0,p1,p2⟩:=Hp.out.w3;obtain⟨c0,c1,c2⟩:=Hc.out.c3;replace Hb:=az Hb ae;clear ae;have HT:Hid (aF W4):=cz.out.below Hb.out;go_wp2_with fail;refine(oY sp mp ep X HX.out _ jb.out HT.out).mono ?_;rintro e w5 ⟨rfl,ae⟩;clear p0 p1 p2 c0 c1 c2;replace Hp:=kW Hp ae;replace Hc:=kB Hc ae;replace HT:=kT HT ae;obtain⟨p0,p1,p2⟩:=Hp.out.w3;obtain⟨c0,c1,c2⟩:=Hc.out.c3;replace Hb:=az Hb ae;clear ae;go_wp2;go_roundw;case rel=>exact⟨j+1,by omega,by go_num,by rw[mJ.out],aK rC.out Hb.out⟩
       case measure=>simp[intOf];omega
     . obtain rfl:j=n:=by omega
       have hpt:(p.map aB).take j=p.map aB:=List.take_of_length_le (by simp[kq.out]);rw[hpt];go_wp2;go_roundw;case rel=>exact⟨k+1,by omega,by go_num,by rw[bS.out],aK aR.out hb2⟩
       case measure=>simp[intOf];omega
  . obtain rfl:k=L:=by omega
    have RY:D.take k=D:=List.take_of_length_le (by rw[GR.out];exact Nat.le_refl _);rw[RY,Zx.out];have aR:=ah pb;clear pb RY;obtain⟨wa,hwa⟩:∃wa,wa=wr:=⟨_,rfl⟩;subst hwa;have NV:=aR.out.size;go_wp2_with fail;go_loopw[9,37] (λs9 x wr=>∃(i:Nat) (v:Value),i<=k/\x=.int .i64 (i:Int)/\v=s9/\iz wr w.heap.size n S i v/\Bw w wr) (λ_ x _=>k-(intOf x).toNat);case atStart=>exact⟨0,_,Nat.zero_le _,rfl,rfl,iz.nil _ _ _ _,aR.out⟩
    case round=>
     clear aR NV;obtain⟨i,v,hk,rfl,rfl,pv,pb⟩:=hrel;by_cases hlt:i<k
     . have hk2:i<rows.length:=by rw[HL.out];exact hlt
       have hk3:i<D.length:=by rw[GR.out];exact hlt
       obtain⟨p,gH⟩:=aC (rows[i]);obtain⟨b,o,a1,c1,hab,hc1,hat⟩:=(Ha.out.below pb).row i hk2;have lD:p.length=n:=by rw[<-gH];exact rN.out _ (List.getElem_mem hk2)
       have gG:∀x∈p,Fit B x:=by rw[<-gH];exact Ao.out _ (List.getElem_mem hk2)
       have rU:=OE.out i hk2 hk3;have rY:=oI.out i hk3;have hpl:=PL.out.2 _ (List.getElem_mem hk3);rw[gH]at hc1 hat rU;rw[rU]at rY hpl;rw[lD]at hc1;have iV:=wO k cap i (i:Int) hab hlt rfl;rw[Nat.mul_one]at iV;obtain⟨Z,hZ⟩:=aC ((p.map aB).map (oG low));rw[hZ]at rY;obtain⟨fF,kq,nJ,xD,HZ,oM,aR,cW⟩:=ng hat lD gG rY hZ hpl pb pv;clear hat lD gG rY hZ hpl pb pv hab gH rU hk2 hk3;obtain⟨wc,hwc⟩:∃wc,wc=wr:=⟨_,rfl⟩;subst hwc;have iu:=aR.out.size;go_wp2_with fail;go_loopw[12,43] (λs12 x wr=>∃(j:Nat) (v2:Value),j<=n/\x=.int .i64 (j:Int)/\v2=s12/\wr.ownsRow wc.heap.size 28 2 v2 j (zC (Z.take j))/\Bw wc wr) (λ_ x _=>n-(intOf x).toNat);case atStart=>exact⟨0,_,Nat.zero_le _,rfl,rfl,World.ownsRow_nil _ _ _ _,Below.refl _ _⟩
       case round=>
        clear hc1;obtain⟨j,v2,hj,rfl,rfl,ho,hb2⟩:=hrel;by_cases bo:j<n
        . have k1:j<p.length:=by rw[kq.out];exact bo
          obtain⟨sp,mp,ep,fh⟩:=jf (p[j]);have dv:=nJ.out _ (List.getElem_mem k1);rw[fh]at dv;obtain⟨X,hX⟩:=aC (aB (sp,mp,ep));have hle:low<=dE X:=oM.out X (by rw[<-hX,<-fh];exact List.mem_map_of_mem (List.getElem_mem k1));have gw:Sm B X:=by rw[<-hX];exact dv.2
          have Lm:=(gw.fit zo).1;have nZ:(nt (dN X).natAbs).length<=268435456:=Lm.1;have hXe: -268435456<=dE X/\dE X<=268435456:=Lm.2;obtain⟨Y,hY⟩:=aC (oG low X);have hlb:=Zp.out;have hl0:=PL.out.1;obtain⟨t,ht⟩:∃t:Int,dE X-low=t:=⟨_,rfl⟩;have hwr:IntKind.i64.wrap (dE X-low)=t:=by rw[IntKind.wrap_i64];omega
          have hsh:∀W,Calls Tryz.prog 106 #[.agg #[.bool (au (dN X)),.string (bs (nt (dN X).natAbs))],.int .i64 t] W λe w'=>e=.returned (cB Y)/\Bw W w':=by intro W;have h:=Oj (au (dN X)) (nt (dN X).natAbs) (dE X-low).toNat W zo zo;rw[eV,show((dE X-low).toNat:Int)=t by omega]at h;rw[<-hY];exact h
          have bS:Hid (zC (Z.take (j+1))=zC (Z.take j)++[.bool (au Y),.string (bs (nt Y.natAbs))]):=by
           show _=_
           rw[<-HZ.out,List.take_succ_eq_append_getElem (by simpa using k1),akT];congr 1;simp only[List.getElem_map,fh,hX,hY];rfl
          obtain⟨b1,o1,cj,p0,p1,p2⟩:=(fF.out.below hb2).num j k1 fh;have TJ:=mo n c1 j (j:Int) cj bo rfl;have Hp:Hid (aZ wr b1 (o1+j*3) [.bool sp,.string (bs mp),.int .i64 ep]):=gM p0 p1 p2;obtain⟨jb,HX,Ho,bV,Hsh,Hwr,cz⟩:=na dv.1 hX ho hb2 hsh hwr ((HT.out.below aR.out).below hb2);have uO:=hb2.size;clear ho hb2 dv hX fh cj p0 p1 p2 hle gw Lm nZ hXe hY hlb hl0 ht hsh hwr;have Hb:Hid (Bw wr wr):=Below.refl _ _;obtain⟨p0,p1,p2⟩:=Hp.out.w3;have P0:=p0;have P1:=p1;have P2:=p2;obtain⟨W4,nY,ae,Hc⟩:=cQ wr 30 [.bool sp,.string (bs mp),.int .i64 ep];clear p0 p1 p2;replace Hp:=kW Hp ae;obtain⟨p0,p1,p2⟩:=Hp.out.w3;obtain⟨c0,c1,c2⟩:=Hc.out.c3;replace Hb:=az Hb ae;clear ae;have HT:Hid (aF W4):=cz.out.below Hb.out;go_wp2_with fail;refine(oY sp mp ep X HX.out _ jb.out HT.out).mono ?_;rintro e w5 ⟨rfl,ae⟩;clear p0 p1 p2 c0 c1 c2;replace Hp:=kW Hp ae;replace Hc:=kB Hc ae;replace HT:=kT HT ae;obtain⟨p0,p1,p2⟩:=Hp.out.w3;obtain⟨c0,c1,c2⟩:=Hc.out.c3;replace Hb:=az Hb ae;clear ae;have agH:=Hc.out.lt;obtain⟨W6,pu,ae,Hy⟩:=cQ w5 30 [.bool (au (dN X)),.string (bs (nt (dN X).natAbs)),.int .i64 (dE X)];clear p0 p1 p2;replace Hp:=kW Hp ae;clear c0 c1 c2;replace Hc:=kB Hc ae;replace HT:=kT HT ae;obtain⟨p0,p1,p2⟩:=Hp.out.w3;obtain⟨c0,c1,c2⟩:=Hc.out.c3;obtain⟨y0,y1,y2⟩:=Hy.out.c3;replace Hb:=az Hb ae;clear ae;have hwr:=Hwr.out;go_wp2_with fail;refine(Hsh.out _).mono ?_;rintro e w7 ⟨rfl,ae⟩;clear p0 p1 p2 c0 c1 c2 y0 y1 y2;replace Hp:=kW Hp ae;replace Hc:=kB Hc ae;replace HT:=kT HT ae;replace Hy:=kB Hy ae;obtain⟨p0,p1,p2⟩:=Hp.out.w3;obtain⟨c0,c1,c2⟩:=Hc.out.c3;obtain⟨y0,y1,y2⟩:=Hy.out.c3;replace Hb:=az Hb ae;clear ae hwr;have amG:=Hc.out.lt;have VJ:=Hy.out.lt;obtain⟨W8,SG,ae,Hd⟩:=cQ w7 28 [.bool (au Y),.string (bs (nt Y.natAbs))];clear p0 p1 p2;replace Hp:=kW Hp ae;clear c0 c1 c2;replace Hc:=kB Hc ae;replace HT:=kT HT ae;clear y0 y1 y2;replace Hy:=kB Hy ae;obtain⟨p0,p1,p2⟩:=Hp.out.w3;obtain⟨c0,c1,c2⟩:=Hc.out.c3;obtain⟨y0,y1,y2⟩:=Hy.out.c3;obtain⟨d0,d1⟩:=Hd.out.c2;replace Hb:=az Hb ae;clear ae;have cG:=ownsRow_below Ho.out Hb.out;have ib:=Hb.out.size;have hnews:=fZ Hd.out;clear d0 d1;go_wp2_with (at_builtin;refine wpList_append_own_at _ rfl _ _ 134 rfl wc.heap.size 28 i0 _ 2 24 Tryz.underlying134 Hi.out cM.out cN.out cJ.out rfl zd v2 j (zC (Z.take j)) rfl cG ⟨w7.heap.size,0,none⟩ 1 1 [.bool (au Y),.string (bs (nt Y.natAbs))] rfl rfl hnews zy zx zo zo ?_;intro v' w9 gF qC _ _;obtain⟨g',lS,rfl⟩:=ownsRow_succ gF);go_roundw;case rel=>
           refine⟨j+1,_,by omega,by go_num,rfl,?_,?_⟩
           . rw[bS.out];exact gF
           . exact(aK bV.out Hb.out).grown qC zo (λj e=>cL cG j e)
          case measure=>simp[intOf];omega
        . obtain rfl:j=n:=by omega
          have iT:Z.take j=Z:=List.take_of_length_le (by rw[<-HZ.out];simp[kq.out]);rw[iT]at ho;obtain⟨a2,cap2,rfl,_,_⟩:=dK ho;have fI:=ho.lt;obtain⟨vals,hvl,hov,iE,CE⟩:=cW.out;have lw:∀g,(Value.slice a2 j cap2).ownBlock=some g->∀m (h:m<vals.length),vals[m].ownBlock≠some g:=by intro g h1 m h2 h3;have:=(fI g h1).1;have:=((iE m h2).lt g h3).2;omega
          obtain⟨Ap,kV,oO,cp,bV,JJ,Ho⟩:=na lw hvl iE hov hb2 CE ho;have Hb:Hid (Bw wr wr):=Below.refl _ _;have uO:=hb2.size;clear lw hvl hov iE hb2 CE fI iT ho bo hj;obtain⟨W6,pu,ae,Hd⟩:=cQ wr 134 [.slice a2 j cap2];have d0:=Hd.out.c1;replace Hb:=az Hb ae;clear ae;have KM:=aK bV.out Hb.out;have cG:=ownsRow_below cp.out KM;have ib:=Hb.out.size;have hnews:∀i u,([.slice a2 j cap2]:List Value)[i]?=some u->W6.cell? ((⟨wr.heap.size,0,none⟩:Addr).add i)=some u:=fZ Hd.out;clear d0;go_wp2_with (at_builtin;refine wpList_append_own_at _ rfl _ _ 116 rfl w.heap.size 134 j0 _ 1 24 Tryz.underlying116 Hj.out jv.out kX.out kY.out rfl zd v i vals rfl cG ⟨wr.heap.size,0,none⟩ 1 1 [.slice a2 j cap2] rfl rfl hnews zy zx zo zo ?_;intro v' w7 dD eU _ _;obtain⟨g',lS,rfl⟩:=ownsRow_succ dD);go_roundw;case rel=>
           refine⟨i+1,_,by omega,by go_num,rfl,?_,?_⟩
           . refine iz.push (w:=W6) kV.out cG (λm h=>ownsRow_below (oO.out m h) KM) JJ.out ?_ Ap.out dD eU;rw[xD.out];exact oF (ownsRow_below Ho.out Hb.out) zo
           . exact(aK aR.out KM).grown eU zo (λj e=>cL cG j e)
          case measure=>simp[intOf];omega
     . obtain rfl:i=k:=by omega
       obtain⟨aR,cW⟩:=aM pb pv;clear pb pv;have hnl:=Ji.out;go_wp2;refine bodyPost_ret (v:=.tuple #[v,.int .i64 nl]) (by simp[results,Tryz.results87,go_sem]) rfl ⟨v,rfl,cW.out,aR.out⟩
end Go.Proofs.YtdaadlblknpipaaGreatDoor
namespace Go.Proofs.YtdaadlblknpipaaGreatDoor
open Go.RowKit
theorem kI {w:World}{base:Nat}{e:TypeId}{size n cap g:Nat}{xs:List Value}(h:w.ownsRow base e size (.slice (some ⟨g,0,none⟩) n cap) n xs)(j:Nat)(hj:j<xs.length):w.cell? ⟨g,j,none⟩=some xs[j]:=by
 rcases h.2 with⟨h1,_⟩ |⟨g',cap',cur,h1,_,hg,_,_,_,hx⟩
 . simp at h1
 . simp only[Value.slice.injEq,Option.some.injEq,Addr.mk.injEq,and_true,true_and]at h1;obtain⟨rfl,rfl⟩:=h1;have h2:cur.toList.take (n*size)=xs:=hx;have h3:cur.toList[j]?=some xs[j]:=by rw[<-List.getElem?_eq_getElem hj];simp only[<-h2];rw[List.getElem?_take];rw[<-h2,List.length_take]at hj;rw[if_pos (Nat.lt_of_lt_of_le hj (Nat.min_le_left _ _))]
   have h4:ai w g e cur.toList:=by unfold ai;simpa using hg
   rw[h4.cell];exact h3
theorem jo {w:World}{base:Nat}{e:TypeId}{size n cap g:Nat}{xs:List Value}(h:w.ownsRow base e size (.slice (some ⟨g,0,none⟩) n cap) n xs)(j:Nat)(u:Value):(w.setCell ⟨g,j,none⟩ u).ownsRow base e size (.slice (some ⟨g,0,none⟩) n cap) n (xs.set j u):=by
 refine⟨by rw[List.length_set];exact h.1,?_⟩;rcases h.2 with⟨h1,_⟩ |⟨g',cap',cur,h1,hb,hg,h4,h5,h6,hx⟩
 . simp at h1
 . simp only[Value.slice.injEq,Option.some.injEq,Addr.mk.injEq,and_true,true_and]at h1;obtain⟨rfl,rfl⟩:=h1;refine .inr ⟨g,cap,cur.setIfInBounds j u,rfl,hb,?_,h4,h5,by simpa using h6,?_⟩
   . simp[World.setCell,Array.getElem?_modify,hg]
   . rw[<-hx];simp[List.take_set]
theorem akV (zs:List Int):(zC zs).length=zs.length*2:=jg iC 2 (λ_=>rfl) zs
theorem akU (zs:List Int)(j:Nat)(hj:j<zs.length):(zC zs)[j*2]?=some (.bool (au zs[j]))/\(zC zs)[j*2+1]?=some (.string (bs (nt zs[j].natAbs))):=by
 induction zs generalizing j with
 |nil=>simp at hj
 | cons z zs ih=>
   have e:zC (z::zs)=.bool (au z)::.string (bs (nt z.natAbs))::zC zs:=rfl;rw[e];cases j with
   |zero=>exact⟨rfl,rfl⟩
   |succ j=>have:=ih j (by simpa using hj);rw[show(j+1) *2=j*2+1+1 by omega];simpa using this
theorem akW (zs:List Int)(j:Nat)(hj:j<zs.length)(y:Int):((zC zs).set (j*2) (.bool (au y))).set (j*2+1) (.string (bs (nt y.natAbs)))=zC (zs.set j y):=by
 induction zs generalizing j with
 |nil=>simp at hj
 | cons z zs ih=>
   have e:zC (z::zs)=.bool (au z)::.string (bs (nt z.natAbs))::zC zs:=rfl;rw[e];cases j with
   |zero=>rfl
   |succ j=>have:=ih j (by simpa using hj);rw[show(j+1) *2=j*2+1+1 by omega];simp only[List.set_cons_succ];rw[this];rfl
theorem iz.num {w:World}{base n L:Nat}{R:List (List Int)}{v:Value}(h:iz w base n R L v)(i j:Nat)(hi:i<L)(hj:j<n)(hR:R.length=L)(hr:(R.getD i []).length=n):
 ∃go cap g c,v=.slice (some ⟨go,0,none⟩) L cap/\base<=go/\base<=g/\g≠go/\w.cell? ⟨go,i,none⟩=some (.slice (some ⟨g,0,none⟩) n c)/\
  w.cell? ⟨g,j*2,none⟩=some (.bool (au ((R.getD i []).getD j 0)))/\w.cell? ⟨g,j*2+1,none⟩=some (.string (bs (nt ((R.getD i []).getD j 0).natAbs)))/\
  ∀y:Int,iz ((w.setCell ⟨g,j*2,none⟩ (.bool (au y))).setCell ⟨g,j*2+1,none⟩ (.string (bs (nt y.natAbs)))) base n (R.set i ((R.getD i []).set j y)) L v:=by
 obtain⟨vals,hl,ho,hv,hd⟩:=h;have hi2:i<vals.length:=by omega
 have hrow:=hv i hi2;have hxl:(zC (R.getD i [])).length=n*2:=by rw[akV,hr]
 obtain⟨a0,cap,rfl,_,_⟩:=dK ho;obtain⟨a1,c,e1,_,hab⟩:=dK hrow;rw[e1]at hrow;rcases ho.2 with⟨h1,_⟩ |⟨go,cap',cur,h1,su,hgo,_⟩
 . simp at h1;omega
 simp only[Value.slice.injEq,true_and]at h1;obtain⟨rfl,rfl⟩:=h1;rcases hrow.2 with⟨h1,_⟩ |⟨g,c',cur',h1,hbg,hgg,_⟩
 . simp at h1;omega
 simp only[Value.slice.injEq,true_and]at h1;obtain⟨rfl,rfl⟩:=h1;have hne:g≠go:=by rintro rfl;rw[hgo]at hgg;simp at hgg
 have hat:=akU (R.getD i []) j zo;have hg0:(R.getD i []).getD j 0=(R.getD i [])[j]'zo:=by rw[List.getD_eq_getElem?_getD,List.getElem?_eq_getElem zo];rfl
 have hc0:=kI hrow (j*2) zo;have hc1:=kI hrow (j*2+1) zo;rw[<-List.getElem?_eq_getElem]at hc0 hc1;rw[hat.1]at hc0;rw[hat.2]at hc1;refine⟨go,cap,g,c,rfl,su,hbg,hne,?_,by rw[hg0];exact hc0,by rw[hg0];exact hc1,λy=>?_⟩
 . rw[kI ho i zo,e1]
 . refine⟨vals,hl,?_,λm hm=>?_,hd⟩
   . exact ownsRow_setCell_other (ownsRow_setCell_other ho (by simpa[Value.ownBlock]using hne.symm) _) (by simpa[Value.ownBlock]using hne.symm) _
   . by_cases sD:m=i
     . subst sD;have hs:(R.set m ((R.getD m []).set j y)).getD m []=(R.getD m []).set j y:=by rw[List.getD_eq_getElem?_getD,List.getElem?_set_self zo];rfl
       rw[hs,e1,<-akW _ _ zo];exact jo (jo hrow _ _) _ _
     . have hs:(R.set i ((R.getD i []).set j y)).getD m []=R.getD m []:=by rw[List.getD_eq_getElem?_getD,List.getElem?_set_ne (λe=>sD e.symm),<-List.getD_eq_getElem?_getD]
       rw[hs];have hno:vals[m].ownBlock≠some g:=λe=>sD (hd m i hm hi2 g e (by rw[e1];rfl));exact ownsRow_setCell_other (ownsRow_setCell_other (hv m hm) hno _) hno _
def swp (i m k:Nat):Nat:=if k=i then m else if k=m then i else k
theorem ajT {i m a b:Nat}(h:swp i m a=swp i m b):a=b:=by
 unfold swp at h;repeat' split at h
 all_goals omega
theorem GF {i m k L:Nat}(hi:i<L)(hm:m<L)(hk:k<L):swp i m k<L:=by
 unfold swp;repeat' split
 all_goals omega
theorem NL {α:Type}(l:List α)(d:α)(i m:Nat)(hi:i<l.length)(hm:m<l.length)(k:Nat)(hk:k<l.length):((l.set i (l.getD m d)).set m (l.getD i d)).getD k d=l.getD (swp i m k) d:=by
 unfold swp;by_cases h1:k=m
 . subst h1;rw[List.getD_eq_getElem?_getD,List.getElem?_set_self (by simpa using hk)];by_cases h2:k=i
   . subst h2;simp
   . simp[h2]
 . rw[List.getD_eq_getElem?_getD,List.getElem?_set_ne (λe=>h1 e.symm)];by_cases h2:k=i
   . subst h2;rw[List.getElem?_set_self (by simpa using hk)];simp
   . rw[List.getElem?_set_ne (λe=>h2 e.symm)];simp[h1,h2]
theorem iz.swap {w:World}{base n L go cap:Nat}{R:List (List Int)}(h:iz w base n R L (.slice (some ⟨go,0,none⟩) L cap))(i m:Nat)(hi:i<L)(hm:m<L)(hR:R.length=L):
 ∃x y,w.cell? ⟨go,i,none⟩=some x/\w.cell? ⟨go,m,none⟩=some y/\iz ((w.setCell ⟨go,i,none⟩ y).setCell ⟨go,m,none⟩ x) base n ((R.set i (R.getD m [])).set m (R.getD i [])) L (.slice (some ⟨go,0,none⟩) L cap):=by
 obtain⟨vals,hl,ho,hv,hd⟩:=h;have hi2:i<vals.length:=by omega
 have hm2:m<vals.length:=by omega
 have hgo:∀k (hk:k<vals.length),vals[k].ownBlock≠some go\/vals[k].ownBlock=none:=by
  intro k hk;rcases Di (hv k hk) ho zd with e|e
  . exact .inr e
  . exact .inl e
 have hel:∀k (hk:k<vals.length),((vals.set i vals[m]).set m vals[i])[k]'(by simpa using hk)=vals[swp i m k]'(GF hi2 hm2 hk):=by intro k hk;have:=NL vals (.bool false) i m hi2 hm2 k hk;have hs:=GF hi2 hm2 hk;simpa[List.getD_eq_getElem?_getD,List.getElem?_eq_getElem,hi2,hm2,hk,hs]using this
 refine⟨vals[i],vals[m],kI ho i zo,kI ho m zo,_,by simp[hl],jo (jo ho i _) m _,λk hk=>?_,λa b ha hb g e1 e2=>?_⟩
 . have hk2:k<vals.length:=by simpa using hk
   have hs:=GF hi2 hm2 hk2;rw[hel k hk2,NL R [] i m zo zo k zo];have hno:vals[swp i m k].ownBlock≠some go:=by
    rcases hgo _ hs with e|e
    . exact e
    . rw[e];simp
   exact ownsRow_setCell_other (ownsRow_setCell_other (hv _ hs) hno _) hno _
 . have ha2:a<vals.length:=by simpa using ha
   have hb2:b<vals.length:=by simpa using hb
   rw[hel a ha2]at e1;rw[hel b hb2]at e2;exact ajT (hd _ _ _ _ g e1 e2)
end Go.Proofs.YtdaadlblknpipaaGreatDoor
namespace Go.Proofs.YtdaadlblknpipaaGreatDoor
open Go.RowKit
attribute [local go_sem ↓] Go.wp_at_zero Go.wp_at_succ
theorem MZ (X:Dyadic)(s:Bool)(m:List UInt8)(e:Int)(b:Bool)(h:(canon X==(s,m,e))= !b)(w':World):
 (if au (dN X)=s then if(bs (nt (dN X).natAbs)).toList=(bs m).toList then if dE X=e then Result.ok (Next.value (Value.bool false)) w' else Result.ok (Next.value (Value.bool true)) w' else Result.ok (Next.value (Value.bool true)) w' else Result.ok (Next.value (Value.bool true)) w')=Result.ok (Next.value (Value.bool b)) w':=by
 have ht:∀x y:List UInt8,(bs x).toList=(bs y).toList↔x=y:=λx y=>by rw[fH,fH]
 have hc:(canon X==(s,m,e))=decide (au (dN X)=s/\nt (dN X).natAbs=m/\dE X=e):=by rw[Bool.eq_iff_iff];simp[canon]
 rw[hc]at h;simp only[ht];cases b with
 | false=>
   have h2:au (dN X)=s/\nt (dN X).natAbs=m/\dE X=e:=by simpa using h
   rw[if_pos h2.1,if_pos h2.2.1,if_pos h2.2.2]
 | true=>
   have h2:¬(au (dN X)=s/\nt (dN X).natAbs=m/\dE X=e):=by intro h3;rw[decide_eq_true h3]at h;cases h
   by_cases h3:au (dN X)=s
   . rw[if_pos h3];by_cases h4:nt (dN X).natAbs=m
     . rw[if_pos h4,if_neg (λh5=>h2 ⟨h3,h4,h5⟩)]
     . rw[if_neg h4]
   . rw[if_neg h3]
theorem Wu (V:Int)(a:Option Addr)(cap N:Nat)(ts:List aL)(w:World)(hN:ts.length=N)(hn:N<=1048576)(ha:At w a (ts.flatMap aN))(hl:∀t∈ts,t.1.length<=9223372036854775807/\Ok t.2)(hT:aF w):
 Calls Tryz.prog 77 #[.agg #[.int .i64 V,.slice a N cap]] w λe w'=>e=.returned (.int .i64 (xk V ts))/\Bw w w':=by
 obtain⟨Ha,Hl,HN,fX⟩:=dO ha hl hN hT;obtain⟨R,hR⟩:=aC (xk V ts);unfold xk at hR;rw[hN]at hR;rw[show xk V ts=R by unfold xk;rw[hN];exact hR];have HR:=ah hR;clear ha hl hN hR hT;obtain⟨W,cO,Hb,Hp⟩:=iF w 57 [.int .i64 V,.slice a N cap];obtain⟨p0,p1⟩:=Hp.out.c2;go_enter Tryz.func77,Tryz.ntmps77;go_wp2_with fail;refine(EQ V _).mono ?_;rintro e w1 ⟨rfl,ae⟩;clear p0 p1;replace Hp:=kB Hp ae;obtain⟨p0,p1⟩:=Hp.out.c2;replace Hb:=az Hb ae;clear ae;by_cases h1:0<=V/\V<=12
 . by_cases h2:4096<N
   . have h3:(4096:Int)<(N:Int):=by omega
     have hR:=HR.out;rw[if_neg (λh=>h h1),if_pos h2]at hR;clear HR;subst hR;go_wp2;refine bodyPost_ret (v:=.int .i64 3) (by simp[results,Tryz.results77,go_sem]) rfl ⟨rfl,?_⟩;(repeat first|exact Hb.out| (refine Below.setCell ?_ (by have:=Hb.out.size;first| (dsimp only;omega) | (show _<=_;omega) | (simp<;>omega)) _) | (refine Below.alloc ?_ zt _) |refine Below.drew ?_)
   . have h3:¬(4096:Int)<(N:Int):=by omega
     have h3d:decide ((4096:Int)<(N:Int))=false:=by simp;omega
     have hR:Hid ((if(List.range N).all (oZ V ts)then(0:Int)else 1)=R):=by
      show _=_
      have hR:=HR.out;rw[if_neg (λh=>h h1),if_neg h2]at hR;exact hR
     clear HR;obtain⟨bL,vz⟩:=aM Hb.out Hp.out;clear Hb Hp p0 p1;have p0:w1.cell? ⟨w.heap.size,0,none⟩=some (.int .i64 V):=vz.out.cell 0;have p1:w1.cell? ⟨w.heap.size,1,none⟩=some (.slice a N cap):=vz.out.cell 1;go_wp2_with fail;go_loopw[16] (λx wr=>∃k:Nat,k<=N/\x=.int .i64 (k:Int)/\(List.range k).all (oZ V ts)=true/\ai wr w.heap.size 57 [.int .i64 V,.slice a N cap]/\Bw w wr) (λx _=>N-(intOf x).toNat);case atStart=>exact⟨0,Nat.zero_le _,rfl,rfl,vz.out,bL.out⟩
     case round=>
      clear bL vz p0 p1;obtain⟨k,hk,rfl,oc,gH,pb⟩:=hrel;by_cases hlt:k<N
      . have hk2:k<ts.length:=by rw[HN.out];exact hlt
        obtain⟨l,s,m,e,hx⟩:∃l s m e,ts[k]=(l,s,m,e):=⟨_,_,_,_,rfl⟩;obtain⟨b,o,hab,cw⟩:=(Ha.out.below pb).term k hk2 hx;have hl2:l.length<=9223372036854775807/\Ok (s,m,e):=by have:=Hl.out _ (List.getElem_mem hk2);rw[hx]at this;exact this
        have Rt:ts.getD k default=(l,s,m,e):=by simp[hk2,hx]
        have LC:(List.range (k+1)).all (oZ V ts)=oZ V ts k:=by rw[List.range_succ,List.all_append,oc];simp
        have hbad:oZ V ts k=false->R=1:=by intro h;rw[<-hR.out,if_neg];intro h5;rw[List.all_eq_true]at h5;have:=h5 k (List.mem_range.2 hlt);rw[h]at this;cases this
        have ue:oZ V ts k=(Bq V l (s,m,e)&&(k==0||Op.bytesLess (bs (ts.getD (k-1) default).1).toList (bs l).toList)):=by unfold oZ;rw[Rt]
        have bA:=jl N cap k (k:Int) hab hlt rfl;obtain⟨X,hX⟩:=aC (aB (s,m,e));obtain⟨sg,ie⟩:=aC (bW X);have hgt:Bq V l (s,m,e)=(fK l V&& !(sg==0)&&(canon X==(s,m,e))):=by unfold Bq;rw[hX,ie]
        rw[hgt]at ue;obtain⟨Eg,eY,aR,vr,PF,xI,HX⟩:=na cw hl2 pb ue LC hbad hX;have kr:Hid (bW (aB (s,m,e))=sg):=by show _=_;rw[hX];exact ie
        have Hp:=ah gH;have HU:Hid (aF wr):=fX.out.below pb;clear cw hl2 ue LC hbad hX ie hgt Rt gH hx;have jI:=ah hab;clear hab;have Hb:Hid (Bw wr wr):=Below.refl _ _;have sz:=pb.size;have kU:Hid (aZ wr b (o+k*4) [.string (bs l),.bool s,.string (bs m),.int .i64 e]):=Eg.out;obtain⟨p0,p1⟩:=Hp.out.c2;obtain⟨sW,sX,sY,sZ⟩:=kU.out.w4;have HU:Hid (aF wr):=HU.out;have P0:=sW;have P1:=sX;have P2:=sY;have P3:=sZ;have agL:=Hp.out.lt;obtain⟨W4,nY,ae,Ht⟩:=cQ wr 107 [.string (bs l),.bool s,.string (bs m),.int .i64 e];clear p0 p1;replace Hp:=kB Hp ae;clear sW sX sY sZ;replace kU:=kW kU ae;replace HU:=kT HU ae;obtain⟨p0,p1⟩:=Hp.out.c2;obtain⟨sW,sX,sY,sZ⟩:=kU.out.w4;obtain⟨t0,t1,t2,t3⟩:=Ht.out.c4;replace Hb:=az Hb ae;clear ae sW sX sY sZ kU Eg;cases hmv:fK l V with
        | false=>
          have hr:=xI.out (by rw[vr.out,hmv];rfl);subst hr;have pH:=λW=>MQ l V W (by have:=eY.out.1;omega);rw[hmv]at pH;have rJ:=ah pH;clear pH;go_wp2_with fail;refine bD (λw'=>w'.cell? ⟨w.heap.size,0,none⟩=some (.int .i64 V)/\w'.cell? ⟨w.heap.size,1,none⟩=some (.slice a N cap)/\w'.cell? ⟨wr.heap.size,0,none⟩=some (.string (bs l))/\w'.cell? ⟨wr.heap.size,1,none⟩=some (.bool s)/\w'.cell? ⟨wr.heap.size,2,none⟩=some (.string (bs m))/\w'.cell? ⟨wr.heap.size,3,none⟩=some (.int .i64 e)) (λi=>Nat.blt i 100000) [(0,true),(1,true),(2,true),(3,true),(4,false),(5,true),(6,true),(7,true),(8,true),(9,false),(10,true),(11,true),(12,true),(13,true),(14,true),(16,true),(17,true),(15,false),(18,true),(19,true),(20,true),(21,true),(22,true),(23,true),(24,true),(25,true),(26,true),(27,true),(28,true),(29,true),(30,true),(31,true),(32,true),(33,true),(34,true),(35,true)] zk zk rfl zk zc ⟨p0,p1,t0,t1,t2,t3⟩ ?_;iterate 4 (refine pT rfl rfl ?_ (by intro w' ⟨q0,q1,q2,q3,q4,q5⟩;go_simp;try with_reducible rfl);try simp only[UU])
          refine aJ rfl rfl (λK hK=>?_);go_simp;with_reducible refine(rJ.out _).mono ?_
          rintro e w5 ⟨rfl,hq⟩;have ae:Bw W4 w5:=by first|exact hq|exact aO hq
          clear p0 p1 t0 t1 t2 t3;replace Hp:=kB Hp ae;replace HU:=kT HU ae;replace Ht:=kB Ht ae;obtain⟨p0,p1⟩:=Hp.out.c2;obtain⟨t0,t1,t2,t3⟩:=Ht.out.c4;replace Hb:=az Hb ae;clear ae;refine hK _ _ (λ_=>⟨p0,p1,t0,t1,t2,t3⟩) ?_;clear hK K;try simp only[UU]
          iterate 2 (refine pT rfl rfl ?_;try simp only[UU])
          refine bi rfl rfl ?_;try simp only[UU]
          refine bi rfl rfl ?_;try simp only[UU]
          refine Nl rfl rfl (λ_=>⟨p0,p1,t0,t1,t2,t3⟩) ?_;try simp only[UU]
          refine bi rfl rfl ?_;try simp only[UU]
          iterate 2 (refine pT rfl rfl ?_;try simp only[UU])
          refine bi rfl rfl ?_;try simp only[UU]
          refine bi rfl rfl ?_;try simp only[UU]
          refine bi rfl rfl ?_;try simp only[UU]
          refine bi rfl rfl ?_;try simp only[UU]
          refine Nl rfl rfl (λ_=>⟨p0,p1,t0,t1,t2,t3⟩) ?_;try simp only[UU]
          refine bi rfl rfl ?_;try simp only[UU]
          iterate 2 (refine pT rfl rfl ?_;try simp only[UU])
          refine bi rfl rfl ?_;try simp only[UU]
          refine bi rfl rfl ?_;try simp only[UU]
          refine bi rfl rfl ?_;try simp only[UU]
          refine bi rfl rfl ?_;try simp only[UU]
          refine bi rfl rfl ?_;try simp only[UU]
          refine bi rfl rfl ?_;try simp only[UU]
          refine bi rfl rfl ?_;try simp only[UU]
          refine bi rfl rfl ?_;try simp only[UU]
          refine bi rfl rfl ?_;try simp only[UU]
          refine bi rfl rfl ?_;try simp only[UU]
          refine bi rfl rfl ?_;try simp only[UU]
          refine bi rfl rfl ?_;try simp only[UU]
          refine bi rfl rfl ?_;try simp only[UU]
          refine bi rfl rfl ?_;try simp only[UU]
          refine pT rfl rfl ?_;try simp only[UU]
          simp only[aU];go_wp2;refine bodyPost_ret (results_tmp rfl _ _ _) rfl ⟨rfl,aK aR.out Hb.out⟩
        | true=>
          have pH:=λW=>MQ l V W (by have:=eY.out.1;omega);rw[hmv]at pH;have rJ:=ah pH;clear pH;by_cases hs0:sg=0
          . have hr:=xI.out (by rw[vr.out,hmv,hs0];rfl);subst hr hs0;go_wp2_with fail;refine bD (λw'=>w'.cell? ⟨w.heap.size,0,none⟩=some (.int .i64 V)/\w'.cell? ⟨w.heap.size,1,none⟩=some (.slice a N cap)/\w'.cell? ⟨wr.heap.size,0,none⟩=some (.string (bs l))/\w'.cell? ⟨wr.heap.size,1,none⟩=some (.bool s)/\w'.cell? ⟨wr.heap.size,2,none⟩=some (.string (bs m))/\w'.cell? ⟨wr.heap.size,3,none⟩=some (.int .i64 e)) (λi=>Nat.blt i 100000) [(0,true),(1,true),(2,true),(3,true),(4,false),(5,true),(6,true),(7,true),(8,true),(9,false),(10,true),(11,true),(12,true),(13,true),(14,true),(16,true),(17,true),(15,false),(18,true),(19,true),(20,true),(21,true),(22,true),(23,true),(24,true),(25,true),(26,true),(27,true),(28,true),(29,true),(30,true),(31,true),(32,true),(33,true),(34,true),(35,true)] zk zk rfl zk zc ⟨p0,p1,t0,t1,t2,t3⟩ ?_;iterate 4 (refine pT rfl rfl ?_ (by intro w' ⟨q0,q1,q2,q3,q4,q5⟩;go_simp;try with_reducible rfl);try simp only[UU])
            refine aJ rfl rfl (λK hK=>?_);go_simp;with_reducible refine(rJ.out _).mono ?_
            rintro e w5 ⟨rfl,hq⟩;have ae:Bw W4 w5:=by first|exact hq|exact aO hq
            clear p0 p1 t0 t1 t2 t3;replace Hp:=kB Hp ae;replace HU:=kT HU ae;replace Ht:=kB Ht ae;obtain⟨p0,p1⟩:=Hp.out.c2;obtain⟨t0,t1,t2,t3⟩:=Ht.out.c4;replace Hb:=az Hb ae;clear ae;refine hK _ _ (λ_=>⟨p0,p1,t0,t1,t2,t3⟩) ?_;clear hK K;try simp only[UU]
            iterate 4 (refine pT rfl rfl ?_ (by intro w' ⟨q0,q1,q2,q3,q4,q5⟩;go_simp;try with_reducible rfl);try simp only[UU])
            refine aJ rfl rfl (λK hK=>?_);go_simp;with_reducible refine(mL s m e 0 kr.out _ eY.out.2).mono ?_
            rintro e w6 ⟨rfl,hq⟩;have ae:Bw w5 w6:=by first|exact hq|exact aO hq
            clear p0 p1 t0 t1 t2 t3;replace Hp:=kB Hp ae;replace HU:=kT HU ae;replace Ht:=kB Ht ae;obtain⟨p0,p1⟩:=Hp.out.c2;obtain⟨t0,t1,t2,t3⟩:=Ht.out.c4;replace Hb:=az Hb ae;clear ae;refine hK _ _ (λ_=>⟨p0,p1,t0,t1,t2,t3⟩) ?_;clear hK K;try simp only[UU]
            iterate 3 (refine pT rfl rfl ?_;try simp only[UU])
            refine bi rfl rfl ?_;try simp only[UU]
            refine bi rfl rfl ?_;try simp only[UU]
            refine bi rfl rfl ?_;try simp only[UU]
            refine bi rfl rfl ?_;try simp only[UU]
            refine Nl rfl rfl (λ_=>⟨p0,p1,t0,t1,t2,t3⟩) ?_;try simp only[UU]
            refine bi rfl rfl ?_;try simp only[UU]
            iterate 2 (refine pT rfl rfl ?_;try simp only[UU])
            refine bi rfl rfl ?_;try simp only[UU]
            refine bi rfl rfl ?_;try simp only[UU]
            refine bi rfl rfl ?_;try simp only[UU]
            refine bi rfl rfl ?_;try simp only[UU]
            refine bi rfl rfl ?_;try simp only[UU]
            refine bi rfl rfl ?_;try simp only[UU]
            refine bi rfl rfl ?_;try simp only[UU]
            refine bi rfl rfl ?_;try simp only[UU]
            refine bi rfl rfl ?_;try simp only[UU]
            refine bi rfl rfl ?_;try simp only[UU]
            refine bi rfl rfl ?_;try simp only[UU]
            refine bi rfl rfl ?_;try simp only[UU]
            refine bi rfl rfl ?_;try simp only[UU]
            refine bi rfl rfl ?_;try simp only[UU]
            refine pT rfl rfl ?_;try simp only[UU]
            simp only[aU];go_wp2;refine bodyPost_ret (results_tmp rfl _ _ _) rfl ⟨rfl,aK aR.out Hb.out⟩
          . have hs1:(sg==0)=false:=by simpa using hs0
            by_cases hc:canon X=(s,m,e)
            . have hcb:(canon X==(s,m,e))=true:=by simpa using hc
              have hne:=MZ X s m e false hcb;clear hc;by_cases jU:k=0
              . have hg:=vr.out;rw[hmv,hs1,hcb,jU]at hg;have Aq:Hid ((List.range (k+1)).all (oZ V ts)=true):=by show _=_;rw[PF.out,jU,hg];rfl
                have hk1:decide (0<k)=false:=by simp;omega
                clear hg hcb jU;go_wp2_with fail;refine bD (λw'=>w'.cell? ⟨w.heap.size,0,none⟩=some (.int .i64 V)/\w'.cell? ⟨w.heap.size,1,none⟩=some (.slice a N cap)/\w'.cell? ⟨wr.heap.size,0,none⟩=some (.string (bs l))/\w'.cell? ⟨wr.heap.size,1,none⟩=some (.bool s)/\w'.cell? ⟨wr.heap.size,2,none⟩=some (.string (bs m))/\w'.cell? ⟨wr.heap.size,3,none⟩=some (.int .i64 e)) (λi=>Nat.blt i 100000) [(0,true),(1,true),(2,true),(3,true),(4,false),(5,true),(6,true),(7,true),(8,true),(9,false),(10,true),(11,true),(12,true),(13,true),(14,true),(16,true),(17,true),(15,false),(18,true),(19,true),(20,true),(21,true),(22,true),(23,true),(24,true),(25,true),(26,true),(27,true),(28,true),(29,true),(30,true),(31,true),(32,true),(33,true),(34,true),(35,true)] zk zk rfl zk zc ⟨p0,p1,t0,t1,t2,t3⟩ ?_;iterate 4 (refine pT rfl rfl ?_ (by intro w' ⟨q0,q1,q2,q3,q4,q5⟩;go_simp;try with_reducible rfl);try simp only[UU])
                refine aJ rfl rfl (λK hK=>?_);go_simp;with_reducible refine(rJ.out _).mono ?_
                rintro e w5 ⟨rfl,hq⟩;have ae:Bw W4 w5:=by first|exact hq|exact aO hq
                clear p0 p1 t0 t1 t2 t3;replace Hp:=kB Hp ae;replace HU:=kT HU ae;replace Ht:=kB Ht ae;obtain⟨p0,p1⟩:=Hp.out.c2;obtain⟨t0,t1,t2,t3⟩:=Ht.out.c4;replace Hb:=az Hb ae;clear ae;refine hK _ _ (λ_=>⟨p0,p1,t0,t1,t2,t3⟩) ?_;clear hK K;try simp only[UU]
                iterate 4 (refine pT rfl rfl ?_ (by intro w' ⟨q0,q1,q2,q3,q4,q5⟩;go_simp;try with_reducible rfl);try simp only[UU])
                refine aJ rfl rfl (λK hK=>?_);go_simp;with_reducible refine(mL s m e sg kr.out _ eY.out.2).mono ?_
                rintro e w6 ⟨rfl,hq⟩;have ae:Bw w5 w6:=by first|exact hq|exact aO hq
                clear p0 p1 t0 t1 t2 t3;replace Hp:=kB Hp ae;replace HU:=kT HU ae;replace Ht:=kB Ht ae;obtain⟨p0,p1⟩:=Hp.out.c2;obtain⟨t0,t1,t2,t3⟩:=Ht.out.c4;replace Hb:=az Hb ae;clear ae;refine hK _ _ (λ_=>⟨p0,p1,t0,t1,t2,t3⟩) ?_;clear hK K;try simp only[UU]
                iterate 7 (refine pT rfl rfl ?_ (by intro w' ⟨q0,q1,q2,q3,q4,q5⟩;go_simp;try with_reducible rfl);try simp only[UU])
                refine aJ rfl rfl (λK hK=>?_);go_simp;with_reducible refine(oY s m e X HX.out _ eY.out.2 (by first|exact HU.out|exact aF.drew HU.out|exact aF.alloc HU.out _|exact aF.drew (aF.alloc HU.out _) |exact aF.alloc (aF.drew HU.out) _)).mono ?_
                rintro e w7 ⟨rfl,hq⟩;have ae:Bw w6 w7:=by first|exact hq|exact aO hq
                clear p0 p1 t0 t1 t2 t3;replace Hp:=kB Hp ae;replace HU:=kT HU ae;replace Ht:=kB Ht ae;obtain⟨p0,p1⟩:=Hp.out.c2;obtain⟨t0,t1,t2,t3⟩:=Ht.out.c4;replace Hb:=az Hb ae;clear ae;refine hK _ _ (λ_=>⟨p0,p1,t0,t1,t2,t3⟩) ?_;clear hK K;try simp only[UU]
                iterate 6 (refine pT rfl rfl ?_;try simp only[UU])
                refine bi rfl rfl ?_;try simp only[UU]
                refine bi rfl rfl ?_;try simp only[UU]
                refine bi rfl rfl ?_;try simp only[UU]
                refine bi rfl rfl ?_;try simp only[UU]
                refine bi rfl rfl ?_;try simp only[UU]
                refine bi rfl rfl ?_;try simp only[UU]
                refine bi rfl rfl ?_;try simp only[UU]
                refine bi rfl rfl ?_;try simp only[UU]
                refine bi rfl rfl ?_;try simp only[UU]
                refine bi rfl rfl ?_;try simp only[UU]
                iterate 2 (refine pT rfl rfl ?_;try simp only[UU])
                simp only[aU];go_wp2;go_roundw;case rel=>exact⟨k+1,by omega,by go_num,Aq.out,Hp.out,aK aR.out Hb.out⟩
                case measure=>simp[intOf];omega
              . have mh:k-1<ts.length:=by omega
                obtain⟨l',s',m',e',hx'⟩:∃l s m e,ts[k-1]=(l,s,m,e):=⟨_,_,_,_,rfl⟩;obtain⟨b',o',qA,qJ⟩:=(Ha.out.below (aK aR.out Hb.out)).term (k-1) mh hx';have hab:=jI.out;rw[hab]at qA;simp only[Option.some.injEq,Addr.mk.injEq,and_true]at qA;obtain⟨rfl,rfl⟩:=qA;have Ru:ts.getD (k-1) default=(l',s',m',e'):=by simp[mh,hx']
                have hg:=vr.out;rw[Ru,hmv,hs1,hcb]at hg;have TK:(k==0)=false:=by simpa using jU
                rw[TK]at hg;have hk1:decide (0<k)=true:=by simp;omega
                have LM:IntKind.i64.wrap ((k:Int)-1)=((k-1:Nat):Int):=by rw[IntKind.wrap_i64];omega
                have LI:=jl N cap (k-1) ((k-1:Nat):Int) hab zo rfl;obtain⟨kp,yE⟩:=aC (k-1);rw[yE]at LI LM qJ;have afe:kp<N:=by omega
                have cW:Hid (aZ W4 b (o+kp*4) [.string (bs l'),.bool s',.string (bs m'),.int .i64 e']):=qJ;have ald:=ah yE;clear qJ jU TK hcb Ru hx' yE hab;cases qE:Op.bytesLess (bs l').toList (bs l).toList with
                | true=>
                  have Aq:Hid ((List.range (k+1)).all (oZ V ts)=true):=by show _=_;rw[PF.out,hg];simpa using qE
                  clear hg;go_wp2_with fail;obtain⟨p0,p1⟩:=Hp.out.c2;obtain⟨t0,t1,t2,t3⟩:=Ht.out.c4;have gX:W4.cell? ⟨b,o+kp*4,none⟩=some (.string (bs l')):=cW.out.cell 0 zm;have HU:Hid (aF W4):=HU.out;refine bD (λw'=>w'.cell? ⟨w.heap.size,0,none⟩=some (.int .i64 V)/\w'.cell? ⟨w.heap.size,1,none⟩=some (.slice a N cap)/\w'.cell? ⟨wr.heap.size,0,none⟩=some (.string (bs l))/\w'.cell? ⟨wr.heap.size,1,none⟩=some (.bool s)/\w'.cell? ⟨wr.heap.size,2,none⟩=some (.string (bs m))/\w'.cell? ⟨wr.heap.size,3,none⟩=some (.int .i64 e)/\w'.cell? ⟨b,o+kp*4,none⟩=some (.string (bs l'))) (λi=>Nat.blt i 100000) [(0,true),(1,true),(2,true),(3,true),(4,false),(5,true),(6,true),(7,true),(8,true),(9,false),(10,true),(11,true),(12,true),(13,true),(14,true),(16,true),(17,true),(15,false),(18,true),(19,true),(20,true),(21,true),(22,true),(23,true),(24,true),(25,true),(26,true),(27,true),(28,true),(29,true),(30,true),(31,true),(32,true),(33,true),(34,true),(35,true)] zk zk rfl zk zc ⟨p0,p1,t0,t1,t2,t3,gX⟩ ?_;iterate 4 (refine pT rfl rfl ?_ (by intro w' ⟨q0,q1,q2,q3,q4,q5,q6⟩;go_simp;try with_reducible rfl);try simp only[UU])
                  refine aJ rfl rfl (λK hK=>?_);go_simp;with_reducible refine(rJ.out _).mono ?_
                  rintro e w5 ⟨rfl,hq⟩;have ae:Bw W4 w5:=by first|exact hq|exact aO hq
                  clear p0 p1 t0 t1 t2 t3 gX;replace Hp:=kB Hp ae;replace Ht:=kB Ht ae;replace cW:=kW cW ae;replace HU:=kT HU ae;obtain⟨p0,p1⟩:=Hp.out.c2;obtain⟨t0,t1,t2,t3⟩:=Ht.out.c4;have gX:w5.cell? ⟨b,o+kp*4,none⟩=some (.string (bs l')):=cW.out.cell 0 zm;replace Hb:=az Hb ae;clear ae;refine hK _ _ (λ_=>⟨p0,p1,t0,t1,t2,t3,gX⟩) ?_;clear hK K;try simp only[UU]
                  iterate 4 (refine pT rfl rfl ?_ (by intro w' ⟨q0,q1,q2,q3,q4,q5,q6⟩;go_simp;try with_reducible rfl);try simp only[UU])
                  refine aJ rfl rfl (λK hK=>?_);go_simp;with_reducible refine(mL s m e sg kr.out _ eY.out.2).mono ?_
                  rintro e w6 ⟨rfl,hq⟩;have ae:Bw w5 w6:=by first|exact hq|exact aO hq
                  clear p0 p1 t0 t1 t2 t3 gX;replace Hp:=kB Hp ae;replace Ht:=kB Ht ae;replace cW:=kW cW ae;replace HU:=kT HU ae;obtain⟨p0,p1⟩:=Hp.out.c2;obtain⟨t0,t1,t2,t3⟩:=Ht.out.c4;have gX:w6.cell? ⟨b,o+kp*4,none⟩=some (.string (bs l')):=cW.out.cell 0 zm;replace Hb:=az Hb ae;clear ae;refine hK _ _ (λ_=>⟨p0,p1,t0,t1,t2,t3,gX⟩) ?_;clear hK K;try simp only[UU]
                  iterate 7 (refine pT rfl rfl ?_ (by intro w' ⟨q0,q1,q2,q3,q4,q5,q6⟩;go_simp;try with_reducible rfl);try simp only[UU])
                  refine aJ rfl rfl (λK hK=>?_);go_simp;with_reducible refine(oY s m e X HX.out _ eY.out.2 (by first|exact HU.out|exact aF.drew HU.out|exact aF.alloc HU.out _|exact aF.drew (aF.alloc HU.out _) |exact aF.alloc (aF.drew HU.out) _)).mono ?_
                  rintro e w7 ⟨rfl,hq⟩;have ae:Bw w6 w7:=by first|exact hq|exact aO hq
                  clear p0 p1 t0 t1 t2 t3 gX;replace Hp:=kB Hp ae;replace Ht:=kB Ht ae;replace cW:=kW cW ae;replace HU:=kT HU ae;obtain⟨p0,p1⟩:=Hp.out.c2;obtain⟨t0,t1,t2,t3⟩:=Ht.out.c4;have gX:w7.cell? ⟨b,o+kp*4,none⟩=some (.string (bs l')):=cW.out.cell 0 zm;replace Hb:=az Hb ae;clear ae;refine hK _ _ (λ_=>⟨p0,p1,t0,t1,t2,t3,gX⟩) ?_;clear hK K;try simp only[UU]
                  iterate 18 (refine pT rfl rfl ?_ (by intro w' ⟨q0,q1,q2,q3,q4,q5,q6⟩;go_simp;try with_reducible rfl);try simp only[UU])
                  simp only[aU];go_wp2;go_roundw;case rel=>exact⟨k+1,by omega,by go_num,Aq.out,Hp.out,aK aR.out Hb.out⟩
                  case measure=>simp[intOf];omega
                | false=>
                  have hr:=xI.out (by rw[hg];simpa using qE);subst hr;clear hg;go_wp2_with fail;obtain⟨p0,p1⟩:=Hp.out.c2;obtain⟨t0,t1,t2,t3⟩:=Ht.out.c4;have gX:W4.cell? ⟨b,o+kp*4,none⟩=some (.string (bs l')):=cW.out.cell 0 zm;have HU:Hid (aF W4):=HU.out;refine bD (λw'=>w'.cell? ⟨w.heap.size,0,none⟩=some (.int .i64 V)/\w'.cell? ⟨w.heap.size,1,none⟩=some (.slice a N cap)/\w'.cell? ⟨wr.heap.size,0,none⟩=some (.string (bs l))/\w'.cell? ⟨wr.heap.size,1,none⟩=some (.bool s)/\w'.cell? ⟨wr.heap.size,2,none⟩=some (.string (bs m))/\w'.cell? ⟨wr.heap.size,3,none⟩=some (.int .i64 e)/\w'.cell? ⟨b,o+kp*4,none⟩=some (.string (bs l'))) (λi=>Nat.blt i 100000) [(0,true),(1,true),(2,true),(3,true),(4,false),(5,true),(6,true),(7,true),(8,true),(9,false),(10,true),(11,true),(12,true),(13,true),(14,true),(16,true),(17,true),(15,false),(18,true),(19,true),(20,true),(21,true),(22,true),(23,true),(24,true),(25,true),(26,true),(27,true),(28,true),(29,true),(30,true),(31,true),(32,true),(33,true),(34,true),(35,true)] zk zk rfl zk zc ⟨p0,p1,t0,t1,t2,t3,gX⟩ ?_;iterate 4 (refine pT rfl rfl ?_ (by intro w' ⟨q0,q1,q2,q3,q4,q5,q6⟩;go_simp;try with_reducible rfl);try simp only[UU])
                  refine aJ rfl rfl (λK hK=>?_);go_simp;with_reducible refine(rJ.out _).mono ?_
                  rintro e w5 ⟨rfl,hq⟩;have ae:Bw W4 w5:=by first|exact hq|exact aO hq
                  clear p0 p1 t0 t1 t2 t3 gX;replace Hp:=kB Hp ae;replace Ht:=kB Ht ae;replace cW:=kW cW ae;replace HU:=kT HU ae;obtain⟨p0,p1⟩:=Hp.out.c2;obtain⟨t0,t1,t2,t3⟩:=Ht.out.c4;have gX:w5.cell? ⟨b,o+kp*4,none⟩=some (.string (bs l')):=cW.out.cell 0 zm;replace Hb:=az Hb ae;clear ae;refine hK _ _ (λ_=>⟨p0,p1,t0,t1,t2,t3,gX⟩) ?_;clear hK K;try simp only[UU]
                  iterate 4 (refine pT rfl rfl ?_ (by intro w' ⟨q0,q1,q2,q3,q4,q5,q6⟩;go_simp;try with_reducible rfl);try simp only[UU])
                  refine aJ rfl rfl (λK hK=>?_);go_simp;with_reducible refine(mL s m e sg kr.out _ eY.out.2).mono ?_
                  rintro e w6 ⟨rfl,hq⟩;have ae:Bw w5 w6:=by first|exact hq|exact aO hq
                  clear p0 p1 t0 t1 t2 t3 gX;replace Hp:=kB Hp ae;replace Ht:=kB Ht ae;replace cW:=kW cW ae;replace HU:=kT HU ae;obtain⟨p0,p1⟩:=Hp.out.c2;obtain⟨t0,t1,t2,t3⟩:=Ht.out.c4;have gX:w6.cell? ⟨b,o+kp*4,none⟩=some (.string (bs l')):=cW.out.cell 0 zm;replace Hb:=az Hb ae;clear ae;refine hK _ _ (λ_=>⟨p0,p1,t0,t1,t2,t3,gX⟩) ?_;clear hK K;try simp only[UU]
                  iterate 7 (refine pT rfl rfl ?_ (by intro w' ⟨q0,q1,q2,q3,q4,q5,q6⟩;go_simp;try with_reducible rfl);try simp only[UU])
                  refine aJ rfl rfl (λK hK=>?_);go_simp;with_reducible refine(oY s m e X HX.out _ eY.out.2 (by first|exact HU.out|exact aF.drew HU.out|exact aF.alloc HU.out _|exact aF.drew (aF.alloc HU.out _) |exact aF.alloc (aF.drew HU.out) _)).mono ?_
                  rintro e w7 ⟨rfl,hq⟩;have ae:Bw w6 w7:=by first|exact hq|exact aO hq
                  clear p0 p1 t0 t1 t2 t3 gX;replace Hp:=kB Hp ae;replace Ht:=kB Ht ae;replace cW:=kW cW ae;replace HU:=kT HU ae;obtain⟨p0,p1⟩:=Hp.out.c2;obtain⟨t0,t1,t2,t3⟩:=Ht.out.c4;have gX:w7.cell? ⟨b,o+kp*4,none⟩=some (.string (bs l')):=cW.out.cell 0 zm;replace Hb:=az Hb ae;clear ae;refine hK _ _ (λ_=>⟨p0,p1,t0,t1,t2,t3,gX⟩) ?_;clear hK K;try simp only[UU]
                  iterate 18 (refine pT rfl rfl ?_ (by intro w' ⟨q0,q1,q2,q3,q4,q5,q6⟩;go_simp;try with_reducible rfl);try simp only[UU])
                  simp only[aU];go_wp2;refine bodyPost_ret (results_tmp rfl _ _ _) rfl ⟨rfl,aK aR.out Hb.out⟩
            . have hr:=xI.out (by
               rw[vr.out,hmv,hs1];have:(canon X==(s,m,e))=false:=by simpa using hc
               rw[this];rfl)
              subst hr;have hne:=MZ X s m e true (by simpa using hc);clear hc;go_wp2_with fail;refine bD (λw'=>w'.cell? ⟨w.heap.size,0,none⟩=some (.int .i64 V)/\w'.cell? ⟨w.heap.size,1,none⟩=some (.slice a N cap)/\w'.cell? ⟨wr.heap.size,0,none⟩=some (.string (bs l))/\w'.cell? ⟨wr.heap.size,1,none⟩=some (.bool s)/\w'.cell? ⟨wr.heap.size,2,none⟩=some (.string (bs m))/\w'.cell? ⟨wr.heap.size,3,none⟩=some (.int .i64 e)) (λi=>Nat.blt i 100000) [(0,true),(1,true),(2,true),(3,true),(4,false),(5,true),(6,true),(7,true),(8,true),(9,false),(10,true),(11,true),(12,true),(13,true),(14,true),(16,true),(17,true),(15,false),(18,true),(19,true),(20,true),(21,true),(22,true),(23,true),(24,true),(25,true),(26,true),(27,true),(28,true),(29,true),(30,true),(31,true),(32,true),(33,true),(34,true),(35,true)] zk zk rfl zk zc ⟨p0,p1,t0,t1,t2,t3⟩ ?_;iterate 4 (refine pT rfl rfl ?_ (by intro w' ⟨q0,q1,q2,q3,q4,q5⟩;go_simp;try with_reducible rfl);try simp only[UU])
              refine aJ rfl rfl (λK hK=>?_);go_simp;with_reducible refine(rJ.out _).mono ?_
              rintro e w5 ⟨rfl,hq⟩;have ae:Bw W4 w5:=by first|exact hq|exact aO hq
              clear p0 p1 t0 t1 t2 t3;replace Hp:=kB Hp ae;replace HU:=kT HU ae;replace Ht:=kB Ht ae;obtain⟨p0,p1⟩:=Hp.out.c2;obtain⟨t0,t1,t2,t3⟩:=Ht.out.c4;replace Hb:=az Hb ae;clear ae;refine hK _ _ (λ_=>⟨p0,p1,t0,t1,t2,t3⟩) ?_;clear hK K;try simp only[UU]
              iterate 4 (refine pT rfl rfl ?_ (by intro w' ⟨q0,q1,q2,q3,q4,q5⟩;go_simp;try with_reducible rfl);try simp only[UU])
              refine aJ rfl rfl (λK hK=>?_);go_simp;with_reducible refine(mL s m e sg kr.out _ eY.out.2).mono ?_
              rintro e w6 ⟨rfl,hq⟩;have ae:Bw w5 w6:=by first|exact hq|exact aO hq
              clear p0 p1 t0 t1 t2 t3;replace Hp:=kB Hp ae;replace HU:=kT HU ae;replace Ht:=kB Ht ae;obtain⟨p0,p1⟩:=Hp.out.c2;obtain⟨t0,t1,t2,t3⟩:=Ht.out.c4;replace Hb:=az Hb ae;clear ae;refine hK _ _ (λ_=>⟨p0,p1,t0,t1,t2,t3⟩) ?_;clear hK K;try simp only[UU]
              iterate 7 (refine pT rfl rfl ?_ (by intro w' ⟨q0,q1,q2,q3,q4,q5⟩;go_simp;try with_reducible rfl);try simp only[UU])
              refine aJ rfl rfl (λK hK=>?_);go_simp;with_reducible refine(oY s m e X HX.out _ eY.out.2 (by first|exact HU.out|exact aF.drew HU.out|exact aF.alloc HU.out _|exact aF.drew (aF.alloc HU.out _) |exact aF.alloc (aF.drew HU.out) _)).mono ?_
              rintro e w7 ⟨rfl,hq⟩;have ae:Bw w6 w7:=by first|exact hq|exact aO hq
              clear p0 p1 t0 t1 t2 t3;replace Hp:=kB Hp ae;replace HU:=kT HU ae;replace Ht:=kB Ht ae;obtain⟨p0,p1⟩:=Hp.out.c2;obtain⟨t0,t1,t2,t3⟩:=Ht.out.c4;replace Hb:=az Hb ae;clear ae;refine hK _ _ (λ_=>⟨p0,p1,t0,t1,t2,t3⟩) ?_;clear hK K;try simp only[UU]
              iterate 3 (refine pT rfl rfl ?_;try simp only[UU])
              refine bi rfl rfl ?_;try simp only[UU]
              refine bi rfl rfl ?_;try simp only[UU]
              refine bi rfl rfl ?_;try simp only[UU]
              refine bi rfl rfl ?_;try simp only[UU]
              refine bi rfl rfl ?_;try simp only[UU]
              refine bi rfl rfl ?_;try simp only[UU]
              refine bi rfl rfl ?_;try simp only[UU]
              refine bi rfl rfl ?_;try simp only[UU]
              refine bi rfl rfl ?_;try simp only[UU]
              refine bi rfl rfl ?_;try simp only[UU]
              refine bi rfl rfl ?_;try simp only[UU]
              refine bi rfl rfl ?_;try simp only[UU]
              refine bi rfl rfl ?_;try simp only[UU]
              refine bi rfl rfl ?_;try simp only[UU]
              refine pT rfl rfl ?_;try simp only[UU]
              simp only[aU];go_wp2;refine bodyPost_ret (results_tmp rfl _ _ _) rfl ⟨rfl,aK aR.out Hb.out⟩
      . obtain rfl:k=N:=by omega
        have hr:R=0:=by rw[<-hR.out,if_pos oc]
        subst hr;go_wp2;refine bodyPost_ret (results_tmp rfl _ _ _) rfl ⟨rfl,pb⟩
 . have hR:=HR.out;rw[if_pos h1]at hR;clear HR;subst hR;go_wp2;refine bodyPost_ret (v:=.int .i64 1) (by simp[results,Tryz.results77,go_sem]) rfl ⟨rfl,?_⟩;(repeat first|exact Hb.out| (refine Below.setCell ?_ (by have:=Hb.out.size;first| (dsimp only;omega) | (show _<=_;omega) | (simp<;>omega)) _) | (refine Below.alloc ?_ zt _) |refine Below.drew ?_)
theorem abO (bk k g n c:Nat)(z:Int)(w:World)(hk:w.cell? ⟨bk,0,none⟩=some (.int .i64 (k:Int)))(hkn:k<n)(h0:w.cell? ⟨g,k*2,none⟩=some (.bool (au z)))(h1:w.cell? ⟨g,k*2+1,none⟩=some (.string (bs (nt z.natAbs))))(hz:(nt z.natAbs).length<=1099511627776):
 Calls Tryz.prog 127 #[.slice (some ⟨g,0,none⟩) n c,.pointer (some ⟨bk,0,none⟩)] w λe w'=>e=.returned (.bool (decide (z≠0)))/\Bw w w':=by
 have bA:=sL n c k (k:Int) (show some (⟨g,0,none⟩:Addr)=some ⟨g,0,none⟩from rfl) hkn rfl;rw[Nat.zero_add]at bA;have Hz:=ah hz;obtain⟨s,hs⟩:=aC (au z);obtain⟨l,hl⟩:=aC (nt z.natAbs);have ie:=λW=>Dq (au z) (nt z.natAbs) W hz;rw[eV]at ie;rw[hs,hl]at ie;rw[hs]at h0;rw[hl]at h1;obtain⟨t,ht⟩:=aC (dP z);rw[ht]at ie;have hd:decide (z≠0)=decide (t≠0):=by
  rw[<-ht];unfold dP;by_cases h:z=0
  . simp[h]
  . by_cases h2:z<0
    . simp[h,h2]
    . simp[h,h2]
 rw[hd];have kr:=ah ie;clear ie hd ht hs hl hz Hz;have Hb:Hid (Bw w w):=Below.refl _ _;go_enter Tryz.func127,Tryz.ntmps127;go_wp2_with fail;refine(kr.out _).mono ?_;rintro e w1 ⟨rfl,ae⟩;replace Hb:=az Hb ae;clear ae h0 h1 hk bA;go_wp2;refine bodyPost_ret (results_tmp rfl _ _ _) rfl ⟨?_,Hb.out⟩;by_cases h:t=0<;>simp[h]
theorem afO (p:Value->Bool)(vs:List Value)(q:Nat->Bool)(c:Nat)(h:∀i (hi:i<vs.length),p vs[i]=q i):
 idxFrom p vs c=match (List.range vs.length).find? q with|none=>-1|some m=>((c+m:Nat):Int):=by
 induction vs generalizing c q with
 |nil=>rfl
 | cons v vs ih=>
   have h0:=h 0 zm;have hs:=ih (λi=>q (i+1)) (c+1) (λi hi=>h (i+1) (by simpa using hi));simp only[List.getElem_cons_zero]at h0;rw[List.length_cons,List.range_succ_eq_map,List.find?_cons];unfold idxFrom;rw[h0];cases hq:q 0 with
   |true=>simp
   | false=>
     rw[hs,List.find?_map];simp only[Bool.false_eq_true,if_false];have e:(q∘Nat.succ)=λi=>q (i+1):=rfl;rw[e];cases (List.range vs.length).find? λi=>q (i+1)with
     |none=>rfl
     |some m=>simp only[Option.map_some];congr 1;omega
theorem aif (p:Value->Bool)(vals:List Value)(f:Nat->Nat->Int)(n k:Nat)(hn:vals.length=n)(h:∀i (hi:i<vals.length),p vals[i]=decide (f i k≠0)):
 idxFrom p (vals.drop k) 0=match nj f n k with|none=>-1|some m=>(m:Int):=by
 rw[afO p (vals.drop k) (λi=>f (k+i) k !=0) 0 (λi hi=>by
  rw[List.getElem_drop,h]
  simp[bne,Bool.beq_eq_decide_eq])]
 unfold nj;rw[List.length_drop,hn];simp only[Nat.zero_add]
theorem aku (x y:Int)(w:World)(hx:(nt x.natAbs).length<=34359738368)(hy:(nt y.natAbs).length<=34359738368)(h0:y≠0)(hd:y∣x):
 Calls Tryz.prog 128 #[.agg #[.bool (au x),.string (bs (nt x.natAbs))],.agg #[.bool (au y),.string (bs (nt y.natAbs))]] w λe w'=>∃r,e=.returned (.tuple #[cB (x/y),r,.bool true])/\Bw w w':=by
 have h:=akv (au x) (au y) (nt x.natAbs) (nt y.natAbs) w hx hy (by rw[iq];omega) (by rw[iq,iq];exact Nat.mod_eq_zero_of_dvd (Int.natAbs_dvd_natAbs.2 hd));rw[eV,eV]at h;exact h
end Go.Proofs.YtdaadlblknpipaaGreatDoor
namespace Go.Proofs.YtdaadlblknpipaaGreatDoor
open Go.RowKit
def ez (f:Nat->Nat->Int)(n:Nat):List (List Int):=(List.range n).map λa=>(List.range n).map (f a)
theorem Dk (f:Nat->Nat->Int)(n:Nat):(ez f n).length=n:=by simp[ez]
theorem GH (f:Nat->Nat->Int)(n i:Nat)(h:i<n):(ez f n).getD i []=(List.range n).map (f i):=by simp[ez,List.getD_eq_getElem?_getD,h]
theorem ajY (f:Nat->Nat->Int)(n i j:Nat)(h:i<n)(h':j<n):((ez f n).getD i []).getD j 0=f i j:=by rw[GH f n i h];simp[List.getD_eq_getElem?_getD,h']
theorem ajZ (f:Nat->Nat->Int)(n i j:Nat)(y:Int)(h:i<n):(ez f n).set i (((ez f n).getD i []).set j y)=ez (λa b=>if a=i/\b=j then y else f a b) n:=by
 rw[GH f n i h];apply List.ext_getElem
 . simp[ez]
 . intro a h1 h2;have ha:a<n:=by simpa[ez]using h2
   rw[List.getElem_set];split
   . rename_i e
     subst e;apply List.ext_getElem
     . simp[ez]
     . intro b h3 h4;have hb:b<n:=by simpa[ez]using h4
       rw[List.getElem_set];by_cases e2:j=b
       . subst e2;simp[ez]
       . have e3:¬b=j:=λe=>e2 e.symm;simp[ez,e2,e3]
   . rename_i e
     have e3:¬a=i:=λe'=>e e'.symm;simp[ez,e3]
theorem aj0 (f:Nat->Nat->Int)(n k m:Nat)(h:k<n)(h':m<n):((ez f n).set k ((ez f n).getD m [])).set m ((ez f n).getD k [])=ez (bQ f k m) n:=by
 apply List.ext_getElem
 . simp[ez]
 . intro a h1 h2;have ha:a<n:=by simpa[ez]using h2
   have hs:=NL (ez f n) [] k m (by rw[Dk];exact h) (by rw[Dk];exact h') a (by rw[Dk];exact ha);rw[List.getD_eq_getElem?_getD,List.getElem?_eq_getElem h1]at hs;simp only[Option.getD_some]at hs;rw[hs,GH f n _ (GF h h' ha)];simp[ez,bQ,swp]
theorem za {w:World}{base:Nat}{e:TypeId}{size n cap g:Nat}{xs:List Value}(h:w.ownsRow base e size (.slice (some ⟨g,0,none⟩) n cap) n xs):base<=g/\∃cur,ai w g e cur:=by
 rcases h.2 with⟨h1,_⟩ |⟨g',cap',cur,h1,hb,hg,_,_,_,hx⟩
 . simp at h1
 . simp only[Value.slice.injEq,Option.some.injEq,Addr.mk.injEq,and_true,true_and]at h1;obtain⟨rfl,rfl⟩:=h1;exact⟨hb,cur.toList,by unfold ai;simpa using hg⟩
theorem Ng {w:World}{base:Nat}{e:TypeId}{size n:Nat}{v:Value}{xs:List Value}(h:w.ownsRow base e size v n xs)(hn:1<=n):∃g cap,v=.slice (some ⟨g,0,none⟩) n cap:=by
 rcases h.2 with⟨h1,h2⟩ |⟨g',cap',cur,h1,_⟩
 . omega
 . exact⟨g',cap',h1⟩
theorem ajX {f g:Nat->Nat->Int}(n:Nat)(h:∀a b,a<n->b<n->f a b=g a b):ez f n=ez g n:=by unfold ez;refine List.map_congr_left (λa ha=>List.map_congr_left (λb hb=>h a b (List.mem_range.1 ha) (List.mem_range.1 hb)))
def aaW (w:World)(go L top:Nat):Prop:=go<top/\∀m g n c,m<L->w.cell? ⟨go,m,none⟩=some (.slice (some ⟨g,0,none⟩) n c)->g<top
def BS (w0 w:World)(base n go cap top:Nat)(f:Nat->Nat->Int):Prop:=
 iz w base n (ez f n) n (.slice (some ⟨go,0,none⟩) n cap)/\aaW w go n top/\Below base w0 w/\top<=w.heap.size
theorem BS.begin {w:World}{base n:Nat}{f:Nat->Nat->Int}{v:Value}(h:iz w base n (ez f n) n v)(hn:1<=n):∃go cap,v=.slice (some ⟨go,0,none⟩) n cap/\n<=cap/\BS w w base n go cap w.heap.size f:=by
 have h0:=h;obtain⟨vals,hl,ho,hv,_⟩:=h;obtain⟨go,cap,rfl⟩:=Ng ho hn;refine⟨go,cap,rfl,Gr ho,h0,⟨?_,λm g n' c hm hc=>?_⟩,Below.refl _ _,Nat.le_refl _⟩
 . obtain⟨_,cur,hb⟩:=za ho;exact hb.lt
 . have hm2:m<vals.length:=by omega
   rw[kI ho m hm2]at hc;simp only[Option.some.injEq]at hc;have hrow:=hv m hm2;obtain⟨g',cap',e⟩:=Ng hrow hn;rw[e]at hrow hc;simp at hc;obtain⟨rfl,rfl,rfl⟩:=hc;exact(za hrow).2.choose_spec.lt
theorem BS.below {w0 w w':World}{base n go cap top:Nat}{f:Nat->Nat->Int}(h:BS w0 w base n go cap top f)(hb:Bw w w')(vV:base<=top):BS w0 w' base n go cap top f:=by
 obtain⟨h1,⟨h2,h3⟩,h4,h5⟩:=h;have hs:=hb.size;refine⟨h1.below hb,⟨h2,λm g n' c hm hc=>h3 m g n' c hm ?_⟩,?_,by omega⟩
 . rw[World.cell?_of_block (a:=⟨go,m,none⟩) (w:=w) (hb.block go zo)]at hc;exact hc
 . exact h4.trans (hb.mono zo)
theorem BS.congr {w0 w:World}{base n go cap top:Nat}{f g:Nat->Nat->Int}(h:BS w0 w base n go cap top f)(he:∀a b,a<n->b<n->f a b=g a b):BS w0 w base n go cap top g:=by unfold BS at*;rw[<-ajX n he];exact h
theorem BS.row {w0 w:World}{base n go cap top:Nat}{f:Nat->Nat->Int}(h:BS w0 w base n go cap top f)(i:Nat)(hi:i<n):
 ∃g c,base<=g/\g<top/\w.cell? ⟨go,i,none⟩=some (.slice (some ⟨g,0,none⟩) n c)/\(∀j,j<n->w.cell? ⟨g,j*2,none⟩=some (.bool (au (f i j)))/\w.cell? ⟨g,j*2+1,none⟩=some (.string (bs (nt (f i j).natAbs))))/\
  (∀q,w.frozen? ⟨g,q,none⟩=false)/\
  ∀j,j<n->∀y:Int,BS w0 ((w.setCell ⟨g,j*2,none⟩ (.bool (au y))).setCell ⟨g,j*2+1,none⟩ (.string (bs (nt y.natAbs)))) base n go cap top (λa b=>if a=i/\b=j then y else f a b):=by
 obtain⟨h1,⟨h2,h3⟩,h4,h5⟩:=h;have hR:(ez f n).length=n:=Dk f n;have hr:((ez f n).getD i []).length=n:=by rw[GH f n i hi];simp
 obtain⟨vals,hl,ho,hv,hd⟩:=id h1;have hi2:i<vals.length:=by omega
 have hrow:=hv i hi2;obtain⟨g,c,e⟩:=Ng hrow zo;rw[e]at hrow;obtain⟨hbg,cur,hblk⟩:=za hrow;have hc0:w.cell? ⟨go,i,none⟩=some (.slice (some ⟨g,0,none⟩) n c):=by rw[kI ho i hi2,e]
 refine⟨g,c,hbg,h3 i g n c hi hc0,hc0,λj hj=>?_,λq=>hblk.free q,λj hj y=>?_⟩
 . obtain⟨go',cap',g',c',e0,_,_,_,e1,e2,e3,_⟩:=h1.num i j hi hj hR hr;simp at e0;obtain⟨rfl,rfl⟩:=e0;rw[hc0]at e1;simp at e1;obtain⟨rfl,rfl⟩:=e1;rw[ajY f n i j hi hj]at e2 e3;exact⟨e2,e3⟩
 . obtain⟨go',cap',g',c',e0,hb1,hb2,hne,e1,e2,e3,hw⟩:=h1.num i j hi hj hR hr;simp at e0;obtain⟨rfl,rfl⟩:=e0;rw[hc0]at e1;simp at e1;obtain⟨rfl,rfl⟩:=e1;have h6:=hw y;rw[ajZ f n i j y hi]at h6;refine⟨h6,⟨h2,λm g' n' c' hm hc=>h3 m g' n' c' hm ?_⟩,(h4.setCell hb2 _).setCell hb2 _,by simpa using h5⟩;rw[World.cell?_setCell_far _ _ _ _ (by simpa using hne),World.cell?_setCell_far _ _ _ _ (by simpa using hne)]at hc;exact hc
theorem BS.swap {w0 w:World}{base n go cap top:Nat}{f:Nat->Nat->Int}(h:BS w0 w base n go cap top f)(i m:Nat)(hi:i<n)(hm:m<n):
 ∃g1 c1 g2 c2,w.cell? ⟨go,i,none⟩=some (.slice (some ⟨g1,0,none⟩) n c1)/\w.cell? ⟨go,m,none⟩=some (.slice (some ⟨g2,0,none⟩) n c2)/\(∀q,w.frozen? ⟨go,q,none⟩=false)/\
  BS w0 ((w.setCell ⟨go,i,none⟩ (.slice (some ⟨g2,0,none⟩) n c2)).setCell ⟨go,m,none⟩ (.slice (some ⟨g1,0,none⟩) n c1)) base n go cap top (bQ f i m):=by
 have hb:=h;obtain⟨g1,c1,_,t1,e1,_⟩:=hb.row i hi;obtain⟨g2,c2,_,t2,e2,_⟩:=hb.row m hm;obtain⟨h1,⟨h2,h3⟩,h4,h5⟩:=h;obtain⟨_,_,ho,_,_⟩:=id h1;obtain⟨su,cur,hblk⟩:=za ho;obtain⟨x,y,q1,q2,hw⟩:=h1.swap i m hi hm (Dk f n);rw[e1]at q1;rw[e2]at q2;simp only[Option.some.injEq]at q1 q2;subst q1 q2;rw[aj0 f n i m hi hm]at hw;refine⟨g1,c1,g2,c2,e1,e2,λq=>hblk.free q,hw,⟨h2,λm' g' n' c' hm' hc=>?_⟩,(h4.setCell su _).setCell su _,by simpa using h5⟩;by_cases h7:m'=m
 . subst h7;rw[ai.cell ((hblk.set i _).set m' _)]at hc;rw[List.getElem?_set_self']at hc;have:g'=g1:=by
    cases hq:(cur.set i (.slice (some ⟨g2,0,none⟩) n c2))[m']? with
    |none=>rw[hq]at hc;simp at hc
    |some z=>rw[hq]at hc;simp at hc;exact hc.1.symm
   omega
 . rw[World.cell?_setCell_other _ _ _ _ (show(⟨go,m,none⟩:Addr)≠⟨go,m',none⟩from λe=>h7 (by simpa using e.symm))]at hc;by_cases h8:m'=i
   . subst h8;rw[ai.cell (hblk.set m' _),List.getElem?_set_self']at hc;have:g'=g2:=by
      cases hq:cur[m']? with
      |none=>rw[hq]at hc;simp at hc
      |some z=>rw[hq]at hc;simp at hc;exact hc.1.symm
     omega
   . rw[World.cell?_setCell_other _ _ _ _ (show(⟨go,i,none⟩:Addr)≠⟨go,m',none⟩from λe=>h8 (by simpa using e.symm))]at hc;exact h3 m' g' n' c' hm' hc
end Go.Proofs.YtdaadlblknpipaaGreatDoor
namespace Go.Proofs.YtdaadlblknpipaaGreatDoor
open Go.RowKit
attribute [local go_sem ↓] Go.wp_at_zero Go.wp_at_succ
def BT (w0 w:World)(base n go cap top:Nat)(f:Nat->Nat->Int)(r l kb:Nat)(last:Int)(k:Nat):Prop:=
 BS w0 w base n go cap top f/\ai w r 28 [.bool false,.string ⟨#[]⟩]/\ai w l 28 [.bool (au last),.string (bs (nt last.natAbs))]/\ai w kb 3 [.int .i64 (k:Int)]/\base<=top/\top<=r/\top<=l/\top<=kb
theorem BT.below {w0 w w':World}{base n go cap top:Nat}{f:Nat->Nat->Int}{r l kb:Nat}{last:Int}{k:Nat}(h:BT w0 w base n go cap top f r l kb last k)(hb:Bw w w'):BT w0 w' base n go cap top f r l kb last k:=by obtain⟨h1,h2,h3,h4,h5,h6⟩:=h;exact⟨h1.below hb h5,h2.below hb,h3.below hb,h4.below hb,h5,h6⟩
theorem BT.congr {w0 w:World}{base n go cap top:Nat}{f g:Nat->Nat->Int}{r l kb:Nat}{last:Int}{k:Nat}(h:BT w0 w base n go cap top f r l kb last k)(he:∀a b,a<n->b<n->f a b=g a b):BT w0 w base n go cap top g r l kb last k:=
 ⟨h.1.congr he,h.2⟩
theorem BT.drew {w0 w:World}{base n go cap top:Nat}{f:Nat->Nat->Int}{r l kb:Nat}{last:Int}{k:Nat}(h:BT w0 w base n go cap top f r l kb last k):BT w0 w.drew base n go cap top f r l kb last k:=h.below ((Below.refl _ _).drew)
theorem BT.row {w0 w:World}{base n go cap top:Nat}{f:Nat->Nat->Int}{r l kb:Nat}{last:Int}{k:Nat}(h:BT w0 w base n go cap top f r l kb last k)(i:Nat)(hi:i<n):
 ∃g c,g<w.heap.size/\g<top/\w.cell? ⟨go,i,none⟩=some (.slice (some ⟨g,0,none⟩) n c)/\(∀j,j<n->w.cell? ⟨g,j*2,none⟩=some (.bool (au (f i j)))/\w.cell? ⟨g,j*2+1,none⟩=some (.string (bs (nt (f i j).natAbs))))/\
  (∀q,w.frozen? ⟨g,q,none⟩=false)/\
  ∀j,j<n->∀y:Int,BT w0 ((w.setCell ⟨g,j*2,none⟩ (.bool (au y))).setCell ⟨g,j*2+1,none⟩ (.string (bs (nt y.natAbs)))) base n go cap top (λa b=>if a=i/\b=j then y else f a b) r l kb last k:=by
 obtain⟨h1,h2,h3,h4,h5,h6,h7,h8⟩:=h;have h9:=h1.2.2.2;obtain⟨g,c,hb,ht,e1,e2,e3,hw⟩:=h1.row i hi;refine⟨g,c,by omega,ht,e1,e2,e3,λj hj y=>⟨hw j hj y,?_,?_,?_,h5,h6,h7,h8⟩⟩
 . exact(h2.so _ _ zo _).so _ _ zo _
 . exact(h3.so _ _ zo _).so _ _ zo _
 . exact(h4.so _ _ zo _).so _ _ zo _
theorem BT.swap {w0 w:World}{base n go cap top:Nat}{f:Nat->Nat->Int}{r l kb:Nat}{last:Int}{k:Nat}(h:BT w0 w base n go cap top f r l kb last k)(i m:Nat)(hi:i<n)(hm:m<n):
 ∃g1 c1 g2 c2,w.cell? ⟨go,i,none⟩=some (.slice (some ⟨g1,0,none⟩) n c1)/\w.cell? ⟨go,m,none⟩=some (.slice (some ⟨g2,0,none⟩) n c2)/\(∀q,w.frozen? ⟨go,q,none⟩=false)/\
  BT w0 ((w.setCell ⟨go,i,none⟩ (.slice (some ⟨g2,0,none⟩) n c2)).setCell ⟨go,m,none⟩ (.slice (some ⟨g1,0,none⟩) n c1)) base n go cap top (bQ f i m) r l kb last k:=by
 obtain⟨h1,h2,h3,h4,h5,h6,h7,h8⟩:=h;have h9:=h1.2.1.1;obtain⟨g1,c1,g2,c2,e1,e2,e3,hw⟩:=h1.swap i m hi hm;refine⟨g1,c1,g2,c2,e1,e2,e3,hw,?_,?_,?_,h5,h6,h7,h8⟩
 . exact(h2.so _ _ zo _).so _ _ zo _
 . exact(h3.so _ _ zo _).so _ _ zo _
 . exact(h4.so _ _ zo _).so _ _ zo _
theorem BT.aoq {w0 w:World}{base n go cap top:Nat}{f:Nat->Nat->Int}{r l kb:Nat}{last:Int}{k:Nat}(h:BT w0 w base n go cap top f r l kb last k)(i:Nat)(hi:i<n):
 ∃g c,g<w.heap.size/\g<top/\w.cell? ⟨go,i,none⟩=some (.slice (some ⟨g,0,none⟩) n c)/\(∀j,j<n->w.cell? ⟨g,j*2,none⟩=some (.bool (au (f i j)))/\w.cell? ⟨g,j*2+1,none⟩=some (.string (bs (nt (f i j).natAbs))))/\
  ∀w',Bw w w'->(∀q,w'.frozen? ⟨g,q,none⟩=false)/\∀j,j<n->∀y:Int,BT w0 ((w'.setCell ⟨g,j*2,none⟩ (.bool (au y))).setCell ⟨g,j*2+1,none⟩ (.string (bs (nt y.natAbs)))) base n go cap top (λa b=>if a=i/\b=j then y else f a b) r l kb last k:=by
 obtain⟨g,c,h1,h2,h3,h4,_,_⟩:=h.row i hi;refine⟨g,c,h1,h2,h3,h4,λw' hb=>?_⟩;obtain⟨g',c',_,_,e3,_,e5,e6⟩:=(h.below hb).row i hi;have:=cell_later hb h3;rw[e3]at this;simp at this;obtain⟨rfl,rfl⟩:=this;exact⟨e5,e6⟩
theorem BS.setOther {w0 w:World}{base n go cap top:Nat}{f:Nat->Nat->Int}(h:BS w0 w base n go cap top f)(vV:base<=top)(p o:Nat)(u:Value)(hp:top<=p):BS w0 (w.setCell ⟨p,o,none⟩ u) base n go cap top f:=by
 have hbs:=h;obtain⟨⟨vals,hl,ho,hv,hd⟩,⟨h2,h3⟩,h4,h5⟩:=h;refine⟨⟨vals,hl,ownsRow_setCell_other ho (by simp[Value.ownBlock];omega) _,λi hi=>?_,hd⟩,⟨h2,λm g n' c hm hc=>h3 m g n' c hm ?_⟩,h4.setCell zp _,by simpa using h5⟩
 . obtain⟨g,c,_,ht,e,_⟩:=hbs.row i zo;rw[kI ho i hi]at e;have e1:vals[i]=.slice (some ⟨g,0,none⟩) n c:=by simpa using e
   exact ownsRow_setCell_other (hv i hi) (by rw[e1];simp[Value.ownBlock];omega) _
 . rw[World.cell?_setCell_far _ _ _ _ zp]at hc;exact hc
theorem BT.setLast {w0 w:World}{base n go cap top:Nat}{f:Nat->Nat->Int}{r l kb:Nat}{last:Int}{k:Nat}(h:BT w0 w base n go cap top f r l kb last k)(x:Int)(h1:l≠r)(h2:l≠kb):
 BT w0 ((w.setCell ⟨l,0,none⟩ (.bool (au x))).setCell ⟨l,1,none⟩ (.string (bs (nt x.natAbs)))) base n go cap top f r l kb x k:=by
 obtain⟨q1,q2,q3,q4,q5,q6,q7,q8⟩:=h;exact⟨(q1.setOther q5 l 0 _ q7).setOther q5 l 1 _ q7,(q2.so _ _ h1 _).so _ _ h1 _,(q3.set 0 _).set 1 _,(q4.so _ _ h2 _).so _ _ h2 _,q5,q6,q7,q8⟩
theorem akz (x y N:Int)(h:x-y=N)(w:World)(hx:(nt x.natAbs).length<=34359738368)(hy:(nt y.natAbs).length<=34359738368):
 Calls Tryz.prog 109 #[.agg #[.bool (au x),.string (bs (nt x.natAbs))],.agg #[.bool (au y),.string (bs (nt y.natAbs))]] w λe w'=>e=.returned (cB N)/\Bw w w':=by
 have:=Ol (au x) (nt x.natAbs) (au y) (nt y.natAbs) w hx hy;rw[eV,eV,h]at this;exact this
theorem XG (x y N:Int)(h:x*y=N)(b cap:Nat)(ty:TypeId)(w:World)(hx:(nt x.natAbs).length<=17179869184)(hy:(nt y.natAbs).length<=17179869184)(ha:ai w b ty [.bool (au x),.string (bs (nt x.natAbs)),.bool (au y),.string (bs (nt y.natAbs))]):
 Calls Tryz.prog 73 #[.slice (some ⟨b,0,none⟩) 2 cap] w λe w'=>e=.returned (cB N)/\Bw w w':=
 XH _ _ _ _ N (by rw[eV,eV,h]) b cap ty w hx hy ha
theorem BS.row_ne {w0 w:World}{base n go cap top:Nat}{f:Nat->Nat->Int}(h:BS w0 w base n go cap top f)(i:Nat)(hi:i<n){g c:Nat}(hc:w.cell? ⟨go,i,none⟩=some (.slice (some ⟨g,0,none⟩) n c)):g≠go:=by
 obtain⟨⟨vals,hl,ho,hv,hd⟩,_⟩:=h;have hi2:i<vals.length:=by omega
 rw[kI ho i hi2]at hc;simp only[Option.some.injEq]at hc;have hrow:=hv i hi2;rw[hc]at hrow;obtain⟨_,c1,b1⟩:=za hrow;obtain⟨_,c2,b2⟩:=za ho;rintro rfl;have:=b1.symm.trans b2;simp at this
def CU (f:Nat->Nat->Int)(n k:Nat):Int:=match nj f n k with|none=>-1|some m=>(m:Int)
open Classical in
theorem BS.index {w0 w:World}{base n go cap top:Nat}{f:Nat->Nat->Int}(h:BS w0 w base n go cap top f)(k kb:Nat)(hk:k<n)(hn:n<=8)(hkb:w.cell? ⟨kb,0,none⟩=some (.int .i64 (k:Int)))(hz:∀a b,a<n->b<n->(nt (f a b).natAbs).length<=1099511627776):
 Calls Tryz.prog 126 #[.slice (some ⟨go,k,none⟩) (n-k) (cap-k),.func (.func 127) #[] #[.pointer (some ⟨kb,0,none⟩)]] w λe w'=>e=.returned (.int .i64 (CU f n k))/\Bw w w':=by
 have hbs:=h;obtain⟨h1,_,_,_⟩:=h;obtain⟨vals,hl,ho,hv,hd⟩:=h1;have hrow:∀i (hi:i<vals.length),∃g c,vals[i]=.slice (some ⟨g,0,none⟩) n c/\∀j,j<n->w.cell? ⟨g,j*2,none⟩=some (.bool (au (f i j)))/\w.cell? ⟨g,j*2+1,none⟩=some (.string (bs (nt (f i j).natAbs))):=by intro i hi;obtain⟨g,c,_,_,e1,e2,_⟩:=hbs.row i zo;rw[kI ho i hi]at e1;exact⟨g,c,by simpa using e1,e2⟩
 have hinj:∀i j (hi:i<vals.length) (hj:j<vals.length),vals[i]=vals[j]->i=j:=by intro i j hi hj e;obtain⟨g,c,e1,_⟩:=hrow i hi;exact hd i j hi hj g (by rw[e1];rfl) (by rw[<-e,e1];rfl)
 obtain⟨p,hp⟩:∃p:Value->Bool,∀i (hi:i<vals.length),p vals[i]=decide (f i k≠0):=by
  refine⟨λv=>decide (∃i,∃hi:i<vals.length,vals[i]=v/\f i k≠0),λi hi=>?_⟩;by_cases h0:f i k≠0
  . have:∃j,∃hj:j<vals.length,vals[j]=vals[i]/\f j k≠0:=⟨i,hi,rfl,h0⟩;show decide _=decide _
    rw[decide_eq_true this,decide_eq_true h0]
  . have:¬∃j,∃hj:j<vals.length,vals[j]=vals[i]/\f j k≠0:=by rintro⟨j,hj,e,h2⟩;exact h0 (by rw[<-hinj j i hj hi e];exact h2)
    simp only[this,h0,decide_false]
 have hpv:=aif p vals f n k zo hp;have hat:At w (some ⟨go,k,none⟩) (vals.drop k):=by refine .inr ⟨go,k,rfl,λj hj=>?_⟩;rw[List.length_drop]at hj;rw[kI ho (k+j) zo,List.getElem?_drop,List.getElem?_eq_getElem]
 have:=afK (some ⟨go,k,none⟩) (n-k) (cap-k) (vals.drop k) 127 #[.pointer (some ⟨kb,0,none⟩)] p w (by rw[List.length_drop,hl]) zo hat (enters_of Tryz.func127 zk rfl) (λv hv W hb=>by
  obtain⟨i,hi,rfl⟩:=List.mem_iff_getElem.1 hv;rw[List.getElem_drop];have hi2:k+i<vals.length:=by rw[List.length_drop]at hi;omega
  obtain⟨g,c,e1,e2⟩:=hrow (k+i) hi2;obtain⟨e3,e4⟩:=e2 k hk;rw[hp (k+i) hi2,e1]
  exact abO kb k g n c (f (k+i) k) W (cell_later hb hkb) hk (cell_later hb e3) (cell_later hb e4) (hz _ _ zo hk))
 rw[hpv]at this;exact this
end Go.Proofs.YtdaadlblknpipaaGreatDoor
namespace Go.Proofs.YtdaadlblknpipaaGreatDoor
open Go.RowKit
def fB (w:World)(base n:Nat)(R:List (List Dyadic))(k:Nat)(v:Value):Prop:=
 ∃vals:List Value,vals.length=k/\w.ownsRow base 45 1 v k vals/\(∀i (h:i<vals.length),w.ownsRow base 30 3 vals[i] n (dC (R.getD i [])))/\
  ∀i j (hi:i<vals.length) (hj:j<vals.length) g,vals[i].ownBlock=some g->vals[j].ownBlock=some g->i=j
theorem fB.nil (w:World)(base n:Nat)(R:List (List Dyadic)):fB w base n R 0 (.slice none 0 0):=
 ⟨[],rfl,World.ownsRow_nil _ _ _ _,λ_ h=>absurd h (Nat.not_lt_zero _),λ_ _ h=>absurd h (Nat.not_lt_zero _)⟩
theorem fB.below {w w':World}{base n k:Nat}{R:List (List Dyadic)}{v:Value}(h:fB w base n R k v)(hb:Bw w w'):fB w' base n R k v:=by obtain⟨vals,hl,ho,hi,hd⟩:=h;exact⟨vals,hl,ownsRow_below ho hb,λi h=>ownsRow_below (hi i h) hb,hd⟩
theorem fB.push {w w':World}{base n k:Nat}{R:List (List Dyadic)}{v v' x:Value}{vals:List Value}(hl:vals.length=k)(hov:w.ownsRow base 45 1 v k vals)(hi:∀i (h:i<vals.length),w.ownsRow base 30 3 vals[i] n (dC (R.getD i [])))
 (hd:∀i j (hi:i<vals.length) (hj:j<vals.length) g,vals[i].ownBlock=some g->vals[j].ownBlock=some g->i=j)
 (hx:w.ownsRow base 30 3 x n (dC (R.getD k []))) (lw:∀g,x.ownBlock=some g->∀i (h:i<vals.length),vals[i].ownBlock≠some g)
 (ho:w'.ownsRow base 45 1 v' (k+1) (vals++[x])) (hg:w.grownBy w' v.ownBlock):fB w' base n R (k+1) v':=by
 refine⟨_,by simp[hl],ho,λi h=>?_,λi j h1 h2 g e1 e2=>?_⟩
 . by_cases hk:i<vals.length
   . rw[List.getElem_append_left hk];exact(hi i hk).kept hg (Di (hi i hk) hov zd)
   . have hik:i=k:=by simp at h;omega
     subst hik;rw[List.getElem_append_right zo];simp only[hl,Nat.sub_self,List.getElem_cons_zero];exact hx.kept hg (Di hx hov zd)
 . by_cases k1:i<vals.length
   . rw[List.getElem_append_left k1]at e1;by_cases k2:j<vals.length
     . rw[List.getElem_append_left k2]at e2;exact hd i j k1 k2 g e1 e2
     . have hjk:j=k:=by simp at h2;omega
       subst hjk;rw[List.getElem_append_right zo]at e2;simp only[hl,Nat.sub_self,List.getElem_cons_zero]at e2;exact absurd e1 (lw g e2 i k1)
   . have hik:i=k:=by simp at h1;omega
     subst hik;rw[List.getElem_append_right zo]at e1;simp only[hl,Nat.sub_self,List.getElem_cons_zero]at e1;by_cases k2:j<vals.length
     . rw[List.getElem_append_left k2]at e2;exact absurd e2 (lw g e1 j k2)
     . simp at h2;omega
theorem fB.tbl {w:World}{base n k:Nat}{R:List (List Dyadic)}{v:Value}(h:fB w base n R k v)(hk:R.length=k)(hn:∀r∈R,r.length=n):∃a c,v=.slice a k c/\k<=c/\aX w a (R.map λr=>r.map canon):=by
 obtain⟨vals,hl,ho,hi,hd⟩:=h;obtain⟨a,c,hv,hat,_⟩:=dK ho;subst hv;refine⟨a,c,rfl,Gr ho,vals,by simp[hl,hk],hat,λi h1 h2=>?_⟩;obtain⟨a1,c1,e1,e2,_⟩:=dK (hi i h2);have hi1:i<R.length:=by simpa using h1
 have eg:R.getD i []=R[i]:=by simp[hi1]
 rw[eg]at e2;refine⟨a1,c1,?_,?_⟩
 . rw[e1];simp[hn _ (List.getElem_mem hi1)]
 . rw[List.getElem_map,<-rS];exact e2
theorem ac4 (ds:List Dyadic)(j:Nat)(hj:j<ds.length):(dC ds)[j*3]?=some (.bool (au (dN ds[j])))/\(dC ds)[j*3+1]?=some (.string (bs (nt (dN ds[j]).natAbs)))/\(dC ds)[j*3+2]?=some (.int .i64 (dE ds[j])):=by have h:=λi (hi:i<3)=>flat_get (λd=>bB (canon d)) 3 (λ_=>rfl) ds j i hj hi;unfold dC;exact⟨(h 0 zd),(h 1 zd),(h 2 zd)⟩
theorem fB.num {w:World}{base n L:Nat}{R:List (List Dyadic)}{v:Value}(h:fB w base n R L v)(i j:Nat)(hi:i<L)(hj:j<n)(hR:R.length=L)(hr:(R.getD i []).length=n):
 ∃go cap g c,v=.slice (some ⟨go,0,none⟩) L cap/\base<=go/\base<=g/\g≠go/\w.cell? ⟨go,i,none⟩=some (.slice (some ⟨g,0,none⟩) n c)/\
  aZ w g (j*3) [.bool (au (dN ((R.getD i []).getD j 0))),.string (bs (nt (dN ((R.getD i []).getD j 0)).natAbs)),.int .i64 (dE ((R.getD i []).getD j 0))]/\(∀o,w.frozen? ⟨g,o,none⟩=false)/\
  ∀y:Dyadic,fB (((w.setCell ⟨g,j*3,none⟩ (.bool (au (dN y)))).setCell ⟨g,j*3+1,none⟩ (.string (bs (nt (dN y).natAbs)))).setCell ⟨g,j*3+2,none⟩ (.int .i64 (dE y))) base n (R.set i ((R.getD i []).set j y)) L v:=by
 obtain⟨vals,hl,ho,hv,hd⟩:=h;have hi2:i<vals.length:=by omega
 have hrow:=hv i hi2;have hxl:(dC (R.getD i [])).length=n*3:=by rw[ac5,hr]
 obtain⟨a0,cap,rfl,_,_⟩:=dK ho;obtain⟨a1,c,e1,_,hab⟩:=dK hrow;rw[e1]at hrow;rcases ho.2 with⟨h1,_⟩ |⟨go,cap',cur,h1,su,hgo,_⟩
 . simp at h1;omega
 simp only[Value.slice.injEq,true_and]at h1;obtain⟨rfl,rfl⟩:=h1;have hrow2:=hrow;rcases hrow.2 with⟨h1,_⟩ |⟨g,c',cur',h1,hbg,hgg,_⟩
 . simp at h1;omega
 simp only[Value.slice.injEq,true_and]at h1;obtain⟨rfl,rfl⟩:=h1;have hne:g≠go:=by rintro rfl;rw[hgo]at hgg;simp at hgg
 have hat:=ac4 (R.getD i []) j zo;have hg0:(R.getD i []).getD j 0=(R.getD i [])[j]'zo:=by rw[List.getD_eq_getElem?_getD,List.getElem?_eq_getElem zo];rfl
 have hc0:=kI hrow (j*3) zo;have hc1:=kI hrow (j*3+1) zo;have hc2:=kI hrow (j*3+2) zo;rw[<-List.getElem?_eq_getElem]at hc0 hc1 hc2;rw[hat.1]at hc0;rw[hat.2.1]at hc1;rw[hat.2.2]at hc2;refine⟨go,cap,g,c,rfl,su,hbg,hne,?_,by rw[hg0];exact gM hc0 hc1 hc2,λo=>?_,λy=>?_⟩
 . rw[kI ho i zo,e1]
 . have h4:ai w g 30 cur'.toList:=by unfold ai;simpa using hgg
   exact h4.free o
 . refine⟨vals,hl,?_,λm hm=>?_,hd⟩
   . have hn:∀(o:Nat) (u:Value) (W:World),W.ownsRow base 45 1 (.slice (some ⟨go,0,none⟩) L cap) L vals->(W.setCell ⟨g,o,none⟩ u).ownsRow base 45 1 (.slice (some ⟨go,0,none⟩) L cap) L vals:=λo u W h=>ownsRow_setCell_other h (by simpa[Value.ownBlock]using hne.symm) _;exact hn _ _ _ (hn _ _ _ (hn _ _ _ ho))
   . by_cases sD:m=i
     . subst sD;have hs:(R.set m ((R.getD m []).set j y)).getD m []=(R.getD m []).set j y:=by rw[List.getD_eq_getElem?_getD,List.getElem?_set_self zo];rfl
       rw[hs,e1,<-Re];exact jo (jo (jo hrow _ _) _ _) _ _
     . have hs:(R.set i ((R.getD i []).set j y)).getD m []=R.getD m []:=by rw[List.getD_eq_getElem?_getD,List.getElem?_set_ne (λe=>sD e.symm),<-List.getD_eq_getElem?_getD]
       rw[hs];have hno:vals[m].ownBlock≠some g:=λe=>sD (hd m i hm hi2 g e (by rw[e1];rfl));exact ownsRow_setCell_other (ownsRow_setCell_other (ownsRow_setCell_other (hv m hm) hno _) hno _) hno _
end Go.Proofs.YtdaadlblknpipaaGreatDoor
