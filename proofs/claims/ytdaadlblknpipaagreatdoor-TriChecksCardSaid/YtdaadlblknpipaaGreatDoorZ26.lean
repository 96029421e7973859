/- The reference of chapter 15: With. -/
import Derived.Test.YtdaadlblknpipaaGreatDoorZ15
import Derived.Test.YtdaadlblknpipaaGreatDoorZ12
import Derived.Test.YtdaadlblknpipaaGreatDoorZ20
set_option linter.unusedVariables false
set_option linter.unusedSimpArgs false
set_option maxRecDepth 100000
set_option maxHeartbeats 16000000
namespace Go.Proofs.YtdaadlblknpipaaGreatDoor
open Go.RowKit
attribute [local go_sem ↓] Go.wp_at_zero Go.wp_at_succ
theorem akx (a:Option Addr)(L cap:Nat)(rows:List (List Raw))(k0:Nat)(pa:Option Addr)(pn ji:Nat)(Pp:List Raw)(w:World)(hL:rows.length=L)(uS:L<=9)(hP:Pp.length=pn)(zK:pn<=8)(hrow:∀r∈rows,r.length<=8)(ha:aR w a rows)(hp:At w pa (Pp.flatMap bo))
 (hok:∀r∈rows,∀x∈r,dV x) (pF:k0<L->∀x∈Pp,dV x) (at9:Int) (nk:∀k:Nat,k<L->((k:Int)=at9↔k=k0)):
 Calls Tryz.prog 33 #[.slice a L cap,.int .i64 at9,.slice pa pn ji] w λe w'=>∃a' cap',e=.returned (.slice a' L cap')/\L<=cap'/\aR w' a' ((rows.set k0 Pp).map gX)/\Bw w w':=by
 obtain⟨i0,hi,hz0,hz1,hz2⟩:=info_parts Tryz.apl;obtain⟨j0,hj,hy0,hy1,hy2⟩:=info_parts Tryz.apo;obtain⟨R,hR⟩:=aB (rows.set k0 Pp);obtain⟨S,hS⟩:=aB (R.map λr=>r.map az);have uU:R.length=L:=by rw[<-hR];simp[hL]
 have uT:∀r∈R,r.length<=8:=by
  intro r hr;rw[<-hR]at hr;rcases List.mem_or_eq_of_mem_set hr with h|h
  . exact hrow r h
  . rw[h];omega
 have uV:∀r∈R,∀x∈r,dV x:=by
  intro r hr;by_cases Dj:k0<L
  . rw[<-hR]at hr;rcases List.mem_or_eq_of_mem_set hr with h|h
    . exact hok r h
    . rw[h];exact pF Dj
  . rw[<-hR,List.set_eq_of_length_le zo]at hr;exact hok r hr
 have kj:∀(W:World) (k:Nat) (hk:k<L),Bw w W->∃b o a1 c1 n1 aq cq,∃(hk2:k<R.length),a=some ⟨b,o,none⟩/\W.cell? ⟨b,o+k,none⟩=some (.slice a1 n1 c1)/\At W aq (R[k].flatMap bo)/\((k=k0/\aq=pa/\R[k].length=pn/\cq=ji)\/(k≠k0/\aq=a1/\R[k].length=n1/\cq=c1)):=by
  intro W k hk hb;obtain⟨b,o,a1,c1,h1,h2,h3⟩:=(ha.below hb).row k zo;by_cases hkk:k=k0
  . refine⟨b,o,a1,c1,_,pa,ji,by omega,h1,h2,?_,.inl ⟨hkk,rfl,?_,rfl⟩⟩
    . have:R[k]'zo=Pp:=by simp only[<-hR,hkk,List.getElem_set_self]
      rw[this];exact hp.below hb
    . have:R[k]'zo=Pp:=by simp only[<-hR,hkk,List.getElem_set_self]
      rw[this];exact hP
  . have:R[k]'zo=rows[k]'zo:=by simp only[<-hR];exact List.getElem_set_ne (λh=>hkk h.symm) _
    refine⟨b,o,a1,c1,_,a1,c1,by omega,h1,h2,?_,.inr ⟨hkk,rfl,by rw[this],rfl⟩⟩;rw[this];exact h3
 rw[hR];obtain⟨Hi,cG,cH,cE,Hj,gV,iL,iM,HS,EO,Be,Bf⟩:=fR hi hz0 hz1 hz2 hj hy0 hy1 hy2 hS uU uT uV;obtain⟨rG,uC⟩:=aL kj nk;clear hi hz0 hz1 hz2 hj hy0 hy1 hy2 hR hS uU uT uV kj ha hp hL hP hrow hok pF nk;go_enter Tryz.func33,Tryz.ntmps33;have Hb:Hid (Bw w w):=Below.refl _ _;go_wp2_with fail;go_loopw[7,8] (λs7 x wr=>∃(k:Nat) (v:Value),k<=L/\x=.int .i64 (k:Int)/\v=s7/\Own2 46 wr w.heap.size S k v/\Bw w wr) (λ_ x _=>L-(intOf x).toNat);case atStart=>exact⟨0,_,Nat.zero_le _,rfl,rfl,Own2.nil _ _ _ _,Hb.out⟩
 case round=>
  clear Hb;obtain⟨k,v,hk,rfl,rfl,pv,pb⟩:=hrel;by_cases hlt:k<L
  . obtain⟨b1,o1,a1,c1,n1,aq,cq,hk2,hab,hc1,hat,kg⟩:=rG.out wr k hlt pb;have iB:=fE L cap k (k:Int) hab hlt rfl;rw[Nat.mul_one]at iB;obtain⟨Q,hQ⟩:=aB (R[k]);rw[hQ]at hat kg;have qK:=Be.out _ (List.getElem_mem hk2);have qN:=Bf.out _ (List.getElem_mem hk2);rw[hQ]at qK qN;obtain⟨Z,hZ⟩:=aB (Q.map az);have ij:S.getD k []=Z:=by rw[<-HS.out,<-hZ,<-hQ];simp[hk2]
    have CR:Q.length<=8:=qK;obtain⟨n,hn⟩:=aB Q.length;rw[hn]at CR kg;obtain⟨fc,Bd,HZ,jR,wQ,Hn,aO,cK⟩:=nJ hat qN hZ ij kg hn pb pv;clear hat qN hZ ij kg hn pb pv hQ hab qK;have gB:=aO.out.size;go_upto_if 24 with fail
    go_cut[9] (λs9 wx=>s9=.slice aq n cq/\wx=wr);case first=>
     rcases wQ.out with⟨rfl,rfl,rfl,rfl⟩ |⟨h1,rfl,rfl,rfl⟩
     . obtain rfl:=(uC.out k hlt).2 rfl;go_wp2_with fail;go_meet;exact⟨rfl,rfl⟩
     . have h3:¬(k:Int)=at9:=λh=>h1 ((uC.out k hlt).1 h);have h2:((k:Int)==at9)=false:=by simpa using h3
       go_wp2_with fail;go_meet;exact⟨rfl,rfl⟩
    case rest=>
     obtain⟨rfl,rfl⟩:=hcut;clear iB hc1;go_wp2_with fail;go_loopw[10,11] (λum x wr=>∃(j:Nat) (v2:Value),j<=n/\x=.int .i64 (j:Int)/\v2=um/\wr.ownsRow wc.heap.size 30 3 v2 j (dC (Z.take j))/\Bw wc wr) (λ_ x _=>n-(intOf x).toNat);case atStart=>exact⟨0,_,Nat.zero_le _,rfl,rfl,World.ownsRow_nil _ _ _ _,Below.refl _ _⟩
     case round=>
      obtain⟨j,v2,hj,rfl,rfl,ho,hb2⟩:=hrel;by_cases bj:j<n
      . have h1:j<Q.length:=by rw[Hn.out];exact bj
        obtain⟨s,m,e,hx⟩:=iA (Q[j]);have hok:=Bd.out _ (List.getElem_mem h1);rw[hx]at hok;obtain⟨X,hX⟩:=aB (az (s,m,e));have cd:Hid (dC (Z.take (j+1))=dC (Z.take j)++[.bool (ar (dN X)),.string (bs (nt (dN X).natAbs)),.int .i64 (dE X)]):=by
         show _=_
         rw[<-HZ.out,List.take_succ_eq_append_getElem (by simpa using h1),qA];congr 1;simp only[List.getElem_map,hx,hX];rfl
        obtain⟨b2,o2,dm,p0,p1,p2⟩:=(fc.out.below hb2).num j h1 hx;have kN:=iZ n cq j (j:Int) dm bj rfl;obtain⟨HX,wA,Ho,bP⟩:=dW hX hok ho hb2;have oM:=hb2.size;have Hp:Hid (aV wr b2 (o2+j*3) [.bool s,.string (bs m),.int .i64 e]):=fS p0 p1 p2;clear hX hok ho hb2 hx dm p0 p1 p2;have Hb:Hid (Bw wr wr):=Below.refl _ _;obtain⟨p0,p1,p2⟩:=Hp.out.w3;go_wp2_with fail;refine(yr s m e X HX.out _ wA.out).mono ?_;rintro e w5 ⟨rfl,ae⟩;clear p0 p1 p2;replace Hp:=kW Hp ae;obtain⟨p0,p1,p2⟩:=Hp.out.w3;replace Hb:=au Hb ae;clear ae;obtain⟨W6,ot,ae,Hd⟩:=cN w5 30 [.bool (ar (dN X)),.string (bs (nt (dN X).natAbs)),.int .i64 (dE X)];clear p0 p1 p2;replace Hp:=kW Hp ae;obtain⟨p0,p1,p2⟩:=Hp.out.w3;obtain⟨d0,d1,d2⟩:=Hd.out.c3;replace Hb:=au Hb ae;clear ae;have cm:=ownsRow_below Ho.out Hb.out;have ia:=Hb.out.size;have hnews:=fM Hd.out;clear d0 d1 d2;go_wp2_with (at_builtin;refine wpList_append_own_at _ rfl _ _ 46 rfl wc.heap.size 30 i0 _ 3 32 Tryz.underlying46 Hi.out cG.out cH.out cE.out rfl zd v2 j (dC (Z.take j)) rfl cm ⟨w5.heap.size,0,none⟩ 1 1 [.bool (ar (dN X)),.string (bs (nt (dN X).natAbs)),.int .i64 (dE X)] rfl rfl hnews zy zx zo zo ?_;intro v' w7 dt eD _ _;obtain⟨g',lF,rfl⟩:=ownsRow_succ dt);go_roundw;case rel=>
         refine⟨j+1,_,by omega,by go_num,rfl,?_,?_⟩
         . rw[cd.out];exact dt
         . exact(aJ bP.out Hb.out).grown eD zo (λj e=>cJ cm j e)
        case measure=>simp[intOf];omega
      . obtain rfl:j=n:=by omega
        have fW:Z.take j=Z:=List.take_of_length_le (by rw[<-HZ.out];simp[Hn.out]);rw[fW]at ho;obtain⟨a2,cap2,rfl,kK,dm⟩:=di ho;have gw:=ho.lt;obtain⟨vals,hvl,hov,iD⟩:=cK.out.below hb2;have Hb:Hid (Bw wr wr):=Below.refl _ _;obtain⟨_,_,nz,_⟩:=cK.out;have hvs:=nz.lt;have hin:∀b o,a2=some ⟨b,o,none⟩->some b≠v.ownBlock/\b<wr.heap.size:=by intro b o e;subst e;have h1:=gw b rfl;refine⟨λh2=>?_,h1.2⟩;have h3:=hvs b h2.symm;omega
        obtain⟨mW,sY,iK,nX,cM,bP⟩:=gN hin kK hvl iD hov hb2;have oM:=hb2.size;clear hin kK hvl iD hov nz hvs hb2 dm gw fW ho bj hj;obtain⟨W6,ot,ae,Hd⟩:=cN wr 46 [.slice a2 j cap2];have d0:=Hd.out.c1;replace Hb:=au Hb ae;clear ae;have cm:=ownsRow_below cM.out Hb.out;have ia:=Hb.out.size;have hnews:∀i u,([.slice a2 j cap2]:List Value)[i]?=some u->W6.cell? ((⟨wr.heap.size,0,none⟩:Addr).add i)=some u:=fM Hd.out;clear d0;go_wp2_with (at_builtin;refine wpList_append_own_at _ rfl _ _ 23 rfl w.heap.size 46 j0 _ 1 24 Tryz.underlying23 Hj.out gV.out iL.out iM.out rfl zd v k vals rfl cm ⟨wr.heap.size,0,none⟩ 1 1 [.slice a2 j cap2] rfl rfl hnews zy zx zo zo ?_;intro v' w7 dt eD _ fy;obtain⟨g',lF,rfl⟩:=ownsRow_succ dt);go_roundw;case rel=>
         refine⟨k+1,_,by omega,by go_num,rfl,?_,?_⟩
         . refine Own2.push (a:=a2) (c:=cap2) iK.out (w:=W6) ?_ ?_ ?_ ?_ eD fy
           . intro i h;obtain⟨a,c,h1,h2,h3⟩:=nX.out i h;exact⟨a,c,h1,h2.below Hb.out,λb o e=>⟨(h3 b o e).1,Nat.lt_of_lt_of_le (h3 b o e).2 ia⟩⟩
           . rw[jR.out];exact sY.out.below Hb.out
           . exact λb o e=>⟨(mW.out b o e).1,Nat.lt_of_lt_of_le (mW.out b o e).2 ia⟩
           . rw[jR.out,<-HZ.out,List.length_map,Hn.out];exact dt
         . exact(aJ (aJ aO.out bP.out) Hb.out).grown eD zo (λj e=>cJ cm j e)
        case measure=>simp[intOf];omega
  . obtain rfl:k=L:=by omega
    have hlen:R.length=k:=EO.out;rw[<-HS.out]at pv;obtain⟨a2,c2,rfl,hcl,iR⟩:=Own2.tbl pv hlen;obtain⟨mY,aO⟩:=aL iR pb;clear pv pb iR hlen;go_wp2;refine bodyPost_ret (results_tmp rfl _ _ _) rfl ⟨a2,c2,rfl,hcl,mY.out,aO.out⟩
theorem aky (a:Option Addr)(L cap:Nat)(rows:List (List Raw))(k0:Nat)(pa:Option Addr)(pn ji:Nat)(Pp:List Raw)(w:World)(hL:rows.length=L)(uS:L<=9)(hP:Pp.length=pn)(zK:pn<=8)(hrow:∀r∈rows,r.length<=8)(ha:aR w a rows)(hp:At w pa (Pp.flatMap bo))
 (hok:∀r∈rows,∀x∈r,dV x) (pF:∀x∈Pp,dV x):
 Calls Tryz.prog 33 #[.slice a L cap,.int .i64 (k0:Int),.slice pa pn ji] w λe w'=>∃a' cap',e=.returned (.slice a' L cap')/\L<=cap'/\aR w' a' ((rows.set k0 Pp).map gX)/\Bw w w':=
 akx a L cap rows k0 pa pn ji Pp w hL uS hP zK hrow ha hp hok (λ_=>pF) _ (λk _=>by omega)
theorem aj0 (a:Option Addr)(L cap n:Nat)(rows:List (List Raw))(B:Nat)(i j:Nat)(Y:Dyadic)(un:Bool)(w:World)(hL:rows.length=L)(hL2:L=n+1)(hrl:∀r∈rows,r.length=n)(hn:1<=n)(tZ:n<=8)(ha:aR w a rows)
 (hfit:∀r∈rows,∀c∈r,je B c) (hB:B<=4000) (hF:gP (eX rows n) L=(i,j,Y)):
 Calls Tryz.prog 21 #[.slice a L cap,.bool un] w λe w'=>∃a1 c1,e=.returned (.slice a1 L c1)/\L<=c1/\
  aR w' a1 ((rows.set (if un then i else j) (fY (rows.getD i []) (rows.getD j []))).map gX)/\Bw w w':=by
 obtain⟨i0,hi,hz0,hz1,hz2⟩:=info_parts Tryz.apl;have c4:∀r∈rows,(r.length:Int)=n:=λr hr=>by rw[hrl r hr]
 have kQ:=λW=>λ(h:aR W a rows)=>Yf a L cap n rows B i j Y W hL zo zo tZ hrl h hfit hB hF;have hinv:=Ii (eX rows n) L zo;rw[hF]at hinv;obtain⟨hij,qW,hY⟩:=hinv;dsimp only at hij qW hY;have vt:i<L:=by omega
 obtain⟨p,hp'⟩:=aB (rows.getD i []);obtain⟨q,hq'⟩:=aB (rows.getD j []);have ep:rows[i]'zo=p:=by rw[<-hp'];simp[hL,vt]
 have eq:rows[j]'zo=q:=by rw[<-hq'];simp[hL,qW]
 have hpl:p.length=n:=by have:=c4 p (by rw[<-ep];exact List.getElem_mem _);omega
 have rf:q.length=n:=by have:=c4 q (by rw[<-eq];exact List.getElem_mem _);omega
 have fJ:∀x∈p,je B x:=by rw[<-ep];exact hfit _ (List.getElem_mem _)
 have rc:∀x∈q,je B x:=by rw[<-eq];exact hfit _ (List.getElem_mem _)
 rw[hp',hq'];have rX:∀x∈fY p q,dV x:=by
  intro x hx;unfold fY midD at hx;obtain⟨d,hd,rfl⟩:=List.mem_map.1 hx;obtain⟨t,ht,rfl⟩:=List.mem_iff_getElem.1 hd;have hi1:t<p.length/\t<q.length:=by simp at ht;omega
  rw[List.getElem_zipWith];have h1:=Sm.mul (Sm.add (fJ _ (List.getElem_mem hi1.1)).2 (rc _ (List.getElem_mem hi1.2)).2) (VO 1);exact(h1.mono (show B+1+(1+1)<=B+3 by omega)).apj zo
 have im:=λ(pa:Option Addr) (pc:Nat) (W:World) (h1:aR W a rows) (h2:At W pa (dC (midD p q)))=>aky a L cap rows (if un then i else j) pa n pc (fY p q) W hL zo (by rw[Iy zo];exact hpl) zo (λr hr=>by rw[hrl r hr];omega) h1 (by unfold fY;rw[<-qC];exact h2) (λr hr x hx=>(hfit r hr x hx).1) rX;obtain⟨A2,uQ⟩:=aB ((rows.set (if un then i else j) (fY p q)).map gX);rw[uQ]at im⊢;have hrow:=λ(W:World) (h:aR W a rows)=>h.row i zo;have hrow2:=λ(W:World) (h:aR W a rows)=>h.row j zo;simp only[ep,hpl]at hrow;simp only[eq,rf]at hrow2;obtain⟨Z,hZ⟩:=aB (midD p q);have hst:∀k (h:k<p.length) (h':k<q.length),Z.take (k+1)=Z.take k++[(az p[k]+az q[k]) *hp 1]:=by rw[<-hZ];exact NU p q
 have nj:Z.length=n:=by rw[<-hZ,Ix zo,hpl]
 rw[hZ]at im;obtain⟨Hi,cG,cH,cE,tA,Ha,Cj,nU,Ca,cd,mh,lw⟩:=fR hi hz0 hz1 hz2 kQ ha im hrow hrow2 hst nj hpl;obtain⟨BW,lv,BV⟩:=cL rf fJ rc;clear hL2 hi hz0 hz1 hz2 kQ ha im hrow hrow2 hst nj hpl rf fJ rc ep eq hp' hq' hY hF hfit c4 hL hrl hZ uQ rX;have Hb:Hid (Bw w w):=Below.refl _ _;go_enter Tryz.func21,Tryz.ntmps21;go_wp2_with fail;refine(tA.out _ (Ha.out.below Hb.out)).mono ?_;rintro e w1 ⟨rfl,ae⟩;replace Hb:=au Hb ae;clear ae;obtain⟨w2,Mh,ae,Hx⟩:=cN w1 30 [.bool (ar (dN Y)),.string (bs (nt (dN Y).natAbs)),.int .i64 (dE Y)];obtain⟨x0,x1,x2⟩:=Hx.out.c3;replace Hb:=au Hb ae;clear ae;obtain⟨b0,o0,a1,c1,dA,hc0,fH⟩:=nU.out w2 (Ha.out.below Hb.out);obtain⟨dx,dU,a2,c2,bW,hc1,gL⟩:=Ca.out w2 (Ha.out.below Hb.out);obtain⟨rfl,rfl⟩:dx=b0/\dU=o0:=by rw[dA]at bW;simp at bW;exact⟨bW.1.symm,bW.2.symm⟩
 clear bW;have nH:=fE L cap i (i:Int) dA vt rfl;have nI:=fE L cap j (j:Int) dA qW rfl;rw[Nat.mul_one]at nH nI;obtain⟨jD,nR,gh,iU,jB⟩:=fg hc0 hc1 fH gL dA;clear hc1 fH gL dA;have oM:=Hb.out.size;go_wp2_with fail;go_loopw[8,9] (λs8 x wr=>∃(k:Nat) (v:Value),k<=n/\x=.int .i64 (k:Int)/\v=s8/\wr.ownsRow w2.heap.size 30 3 v k (dC (Z.take k))/\Bw w2 wr) (λ_ x _=>n-(intOf x).toNat);case atStart=>exact⟨0,_,Nat.zero_le _,rfl,rfl,World.ownsRow_nil _ _ _ _,Below.refl _ _⟩
 case round=>
  clear hc0 x0 x1 x2;obtain⟨k,v,hk,rfl,rfl,pv,pb⟩:=hrel;have hu:wr.cell? ⟨dx,dU+i,none⟩=some (.slice a1 n c1):=cell_later pb jD.out;by_cases hlt:k<n
  . have k1:k<p.length:=by rw[lw.out];exact hlt
    have k2:k<q.length:=by rw[BW.out];exact hlt
    obtain⟨sp,mp,ep,dZ⟩:=iA (p[k]);obtain⟨sq,mq,eq,fX⟩:=iA (q[k]);have df:=lv.out _ (List.getElem_mem k1);have ez:=BV.out _ (List.getElem_mem k2);have hst:=cd.out k k1 k2;rw[dZ]at df hst;rw[fX]at ez hst;obtain⟨D,hD⟩:=aB (az (sp,mp,ep)+az (sq,mq,eq));obtain⟨X,hX⟩:=aB (D*hp 1);rw[hD,hX]at hst;have fG:Sm (B+1) D:=by rw[<-hD];exact Sm.add df.2 ez.2
    have AW:Hid (dV (ar (dN D),nt (dN D).natAbs,dE D)):=fG.apj zo;have HX:Hid (az (ar (dN D),nt (dN D).natAbs,dE D+ -1)=X):=by show _=_;rw[<-hX];exact Pi D 1
    have iX:Hid (dC (Z.take (k+1))=dC (Z.take k)++[.bool (ar (dN X)),.string (bs (nt (dN X).natAbs)),.int .i64 (dE X)]):=by
     show _=_
     rw[hst,qA];rfl
    obtain⟨b1,o1,bW,p0,p1,p2⟩:=(gh.out.below pb).num k k1 dZ;obtain⟨b2,o2,dm,q0,q1,q2⟩:=(iU.out.below pb).num k k2 fX;have iB:=iZ n c1 k (k:Int) bW hlt rfl;have kN:=iZ n c2 k (k:Int) dm hlt rfl;have gz:b1<w2.heap.size:=(by subst bW;exact gh.out.lt (by intro h0;have:=congrArg List.length h0;rw[iY bo 3 (λ_=>rfl)]at this;simp at this;omega));have fK:b2<w2.heap.size:=(by subst dm;exact iU.out.lt (by intro h0;have:=congrArg List.length h0;rw[iY bo 3 (λ_=>rfl)]at this;simp at this;omega));have lQ:dx<w2.heap.size:=World.block_lt_of_cell? w2 _ jD.out;have Hu:Hid (aV wr dx (dU+i) [.slice a1 n c1]):=λj hj=>by
     obtain rfl:j=0:=by simp at hj;omega
     exact cell_later pb jD.out
    have Hv:Hid (aV wr dx (dU+j) [.slice a2 n c2]):=λj hj=>by
     obtain rfl:j=0:=by simp at hj;omega
     exact cell_later pb nR.out
    have Hp:Hid (aV wr b1 (o1+k*3) [.bool sp,.string (bs mp),.int .i64 ep]):=fS p0 p1 p2;have Hq:Hid (aV wr b2 (o2+k*3) [.bool sq,.string (bs mq),.int .i64 eq]):=fS q0 q1 q2;obtain⟨iH,jT,HD,cK,lh⟩:=fg df ez hD pv pb;have fT:=Hb;have sQ:=pb.size;clear Hb pv pb df ez hD hX hst fG dZ fX bW dm p0 p1 p2 q0 q1 q2;have Hb:Hid (Bw wr wr):=Below.refl _ _;go_wp2_with fail;clear hu;have u0:=Hu.out.w1;have v0:=Hv.out.w1;obtain⟨p0,p1,p2⟩:=Hp.out.w3;obtain⟨q0,q1,q2⟩:=Hq.out.w3;refine bJ (λw'=>w'.cell? ⟨dx,dU+i,none⟩=some (.slice a1 n c1)/\w'.cell? ⟨dx,dU+j,none⟩=some (.slice a2 n c2)/\w'.cell? ⟨b1,o1+k*3,none⟩=some (.bool sp)/\w'.cell? ⟨b1,o1+k*3+1,none⟩=some (.string (bs mp))/\w'.cell? ⟨b1,o1+k*3+2,none⟩=some (.int .i64 ep)/\w'.cell? ⟨b2,o2+k*3,none⟩=some (.bool sq)/\w'.cell? ⟨b2,o2+k*3+1,none⟩=some (.string (bs mq))/\w'.cell? ⟨b2,o2+k*3+2,none⟩=some (.int .i64 eq)) (λi=>Nat.blt i 100000) [(0,true),(1,true),(2,true),(3,true),(4,true),(5,true),(6,true),(7,true),(8,true),(9,true),(10,true),(11,true),(12,true),(13,true),(14,true),(15,false),(16,false),(17,false),(18,false),(19,true)] zk zk rfl zk zc ⟨u0,v0,p0,p1,p2,q0,q1,q2⟩ ?_;iterate 15 (refine pT rfl rfl ?_ (by intro w' ⟨q0,q1,q2,q3,q4,q5,q6,q7⟩;go_simp;try with_reducible rfl);try simp only[UU])
    refine aI rfl rfl (λK hK=>?_);go_simp;with_reducible refine(Eu sp mp ep sq mq eq D HD.out _ iH.out.1 jT.out.1).mono ?_
    rintro e w5 ⟨rfl,hq⟩;have ae:Bw wr w5:=by first|exact hq|exact aM hq
    clear u0 v0 p0 p1 p2 q0 q1 q2;replace Hu:=kW Hu ae;replace Hv:=kW Hv ae;replace Hp:=kW Hp ae;replace Hq:=kW Hq ae;have u0:=Hu.out.w1;have v0:=Hv.out.w1;obtain⟨p0,p1,p2⟩:=Hp.out.w3;obtain⟨q0,q1,q2⟩:=Hq.out.w3;replace Hb:=au Hb ae;clear ae;refine hK _ _ (λ_=>⟨u0,v0,p0,p1,p2,q0,q1,q2⟩) ?_;clear hK K;try simp only[UU]
    refine aI rfl rfl (λK hK=>?_);go_simp;with_reducible refine(akl (ar (dN D)) (nt (dN D).natAbs) (dE D) (-1) X HX.out _ AW.out zd).mono ?_
    rintro e w6 ⟨rfl,hq⟩;have ae:Bw w5 w6:=by first|exact hq|exact aM hq
    clear u0 v0 p0 p1 p2 q0 q1 q2;replace Hu:=kW Hu ae;replace Hv:=kW Hv ae;replace Hp:=kW Hp ae;replace Hq:=kW Hq ae;have u0:=Hu.out.w1;have v0:=Hv.out.w1;obtain⟨p0,p1,p2⟩:=Hp.out.w3;obtain⟨q0,q1,q2⟩:=Hq.out.w3;replace Hb:=au Hb ae;clear ae;refine hK _ _ (λ_=>⟨u0,v0,p0,p1,p2,q0,q1,q2⟩) ?_;clear hK K;try simp only[UU]
    refine aI rfl rfl (λK hK=>?_);go_simp;refine hK _ _ (λ_=>⟨aG u0,aG v0,aG p0,aG p1,aG p2,aG q0,aG q1,aG q2⟩) ?_;clear hK K;try simp only[UU]
    refine bN (λw7=>ak w7 (w6.heap.size) 30 [.bool (ar (dN X)),.string (bs (nt (dN X).natAbs)),.int .i64 (dE X)]/\Bw w6 w7) (by first|exact dP|exact dQ) ?_;rintro w7 ⟨qc,ae⟩;clear u0 v0 p0 p1 p2 q0 q1 q2;replace Hu:=kW Hu ae;replace Hv:=kW Hv ae;replace Hp:=kW Hp ae;replace Hq:=kW Hq ae;have Hc:=ah qc;clear qc;have u0:=Hu.out.w1;have v0:=Hv.out.w1;obtain⟨p0,p1,p2⟩:=Hp.out.w3;obtain⟨q0,q1,q2⟩:=Hq.out.w3;obtain⟨c0,c1,c2⟩:=Hc.out.c3;replace Hb:=au Hb ae;clear ae;refine aI rfl rfl (λK hK=>?_);have cm:=ownsRow_below cK.out Hb.out;have ia:=Hb.out.size;refine wp_append_own _ _ _ 46 rfl w2.heap.size 30 i0 _ 3 32 Tryz.underlying46 Hi.out cG.out cH.out cE.out rfl zd v k (dC (Z.take k)) rfl cm ⟨w6.heap.size,0,none⟩ 1 1 [.bool (ar (dN X)),.string (bs (nt (dN X).natAbs)),.int .i64 (dE X)] rfl rfl (fM Hc.out) zy zx zo zo ?_;intro v' w8 dv aY _;obtain⟨g',cq,rfl⟩:=ownsRow_succ dv;have nb:∀b,b<w2.heap.size->some b≠v.ownBlock:=λb hb e=>by have:=cJ cm b e.symm;omega
    refine hK _ _ (λ_=>⟨bE aY u0 (nb _ lQ),bE aY v0 (nb _ lQ),bE aY p0 (nb _ gz),bE aY p1 (nb _ gz),bE aY p2 (nb _ gz),bE aY q0 (nb _ fK),bE aY q1 (nb _ fK),bE aY q2 (nb _ fK)⟩) ?_;clear hK K;try simp only[UU]
    refine pT rfl rfl ?_;try simp only[UU]
    simp only[aU];clear u0 v0 p0 p1 p2 q0 q1 q2 c0 c1 c2;go_wp2;go_roundw;case rel=>
     refine⟨k+1,_,by omega,by go_num,rfl,?_,?_⟩
     . rw[iX.out];exact dv
     . exact(aJ lh.out Hb.out).grown aY zo (λj e=>cJ cm j e)
    case measure=>simp[intOf];omega
  . obtain rfl:k=n:=by omega
    have fW:Z.take k=Z:=List.take_of_length_le (by rw[mh.out];exact Nat.le_refl _);rw[fW]at pv;obtain⟨a3,xh,rfl,uX,_⟩:=di pv;obtain⟨pZ,pY,fT⟩:=cL uX ((Ha.out.below Hb.out).below pb) (aJ Hb.out pb);clear Hb uX pv pb fW;have Hb:Hid (Bw w wr):=fT;have im:=Cj.out a3 xh _ pY.out pZ.out;cases un with
    |true=>simp only[if_true]at im;go_wp2_with fail;refine im.mono ?_;rintro e w4 ⟨a4,c4,rfl,hl4,ko,ae⟩;have nW:=ah ko;replace Hb:=ah (aJ Hb.out ae);clear ko ae;go_wp2;refine bodyPost_ret (results_tmp rfl _ _ _) rfl ⟨a4,c4,rfl,hl4,nW.out,Hb.out⟩
    |false=>simp only[Bool.false_eq_true,if_false]at im;go_wp2_with fail;refine im.mono ?_;rintro e w4 ⟨a4,c4,rfl,hl4,ko,ae⟩;have nW:=ah ko;replace Hb:=ah (aJ Hb.out ae);clear ko ae;go_wp2;refine bodyPost_ret (results_tmp rfl _ _ _) rfl ⟨a4,c4,rfl,hl4,nW.out,Hb.out⟩
theorem aj1 (a:Option Addr)(cap n B:Nat)(rows:List (List Raw))(un:Bool)(w:World)(hn:1<=n)(tZ:n<=8)(h1:rows.length=n+1)(h2:∀r∈rows,r.length=n)(ha:aR w a rows)(hfit:∀r∈rows,∀c∈r,je B c)(hB:B<=4000):
 Calls Tryz.prog 21 #[.slice a (n+1) cap,.bool un] w λe w'=>∃a1 c1,e=.returned (.slice a1 (n+1) c1)/\n+1<=c1/\aR w' a1 (ow n un rows)/\Bw w w':=by
 obtain⟨i,j,Y,hF⟩:∃i j Y,gP (eX rows n) (n+1)=(i,j,Y):=⟨_,_,_,rfl⟩;have h:=aj0 a (n+1) cap n rows B i j Y un w h1 rfl h2 hn tZ ha hfit hB hF;unfold ow rT;rw[hF];exact h
end Go.Proofs.YtdaadlblknpipaaGreatDoor
