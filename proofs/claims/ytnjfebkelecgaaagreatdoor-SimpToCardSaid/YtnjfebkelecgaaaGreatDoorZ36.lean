/- The reference of chapter 16: To,where there is a form. -/
import Derived.Test.YtnjfebkelecgaaaGreatDoorZ7
import Derived.Test.YtnjfebkelecgaaaGreatDoorZ33
import Derived.Test.YtnjfebkelecgaaaGreatDoorZ34
import Derived.Test.YtnjfebkelecgaaaGreatDoorZ25
import Derived.Test.YtnjfebkelecgaaaGreatDoorZ14
set_option linter.all false
set_option maxRecDepth 100000
set_option maxHeartbeats 16000000
namespace Go.Proofs.YtnjfebkelecgaaaGreatDoor
open Go.RowKit
attribute [local go_sem ↓] Go.wp_at_zero Go.wp_at_succ
def At.aCC {Y:Nat->Prop}{w w':World}{base:Nat}{e:TypeId}{size n:Nat}{v:Value}{xs:List Value}(h:w.ownsRow base e size v n xs)(hc:Chg Y w w')(hy:∀b,v.ownBlock=some b->¬Y b):∀a c,v=.slice a n c->At w' a xs:=λa c e=>by subst e;obtain⟨a',c',e',h',_⟩:=dm (Ez h hc hy);cases e';exact h'
def gG.form {e:TypeId}{w:World}{base k:Nat}{S:List (List Raw)}{v:Value}(h:gG e w base S k v):∃a c,v=.slice a k c:=by obtain⟨vals,_,ho,_⟩:=h;obtain⟨g,c,h,_⟩:=dm ho;exact⟨g,c,h⟩
def aby {rows:List (List Raw)}{es:List Nat}{V D:Nat}{kI:List (List Raw)}(hF:su rows es V D=kI)(he:es.length=V)(hs:es.sum<=D)(hr:Rw V 192 rows)(hQ:∀r∈rows,∀x∈r,ke 192 x):kI.length=D/\∀r∈kI,r.length=V+1/\∀x∈r,eI x/\Sm 192 (aJ x):=by subst hF;exact⟨apy rows es V D he hs,apz hr.1 hr.2.1 hQ ⟨(Sm.one).aCl zd,by rw[cJ];exact Sm.one.mono zd⟩⟩
def SK {V D N:Nat}{S:List (List Dyadic)}(hN:cnt V D=N){ts:List aM}(ht:∀t∈ts,(t.1.map UInt8.toNat).sum<=D)(k:Nat):(fD V D S (fR (ts.take k))).length=N:=
 (apP (h:=λ_=>(0:Dyadic)) V D N S hN rfl (λ_ _ _ _=>by simp) (fR (ts.take k)) (λt h=>by
  obtain⟨x,hx,rfl⟩:=List.mem_map.1 h
  exact ht x (List.mem_of_mem_take hx))).2
def axL {V D N:Nat}{S:List (List Dyadic)}{rows kI:List (List Raw)}{es:List Nat}{R:List (List Nat)}{ts:List aM}{i:Nat}{l:List UInt8}{x:Raw}(hD:D<=5)(hV:V<=3)(hN:cnt V D=N)(hR:bZ (V+1) D=R)(hS:(rows.map λr=>r.map aJ)=S)(hr:Rw V 192 rows)(hQ:∀r∈rows,∀x∈r,ke 192 x)(hF:su rows es V D=kI)(hes:l.map UInt8.toNat=es)(he:es.length=V)(hs:es.sum<=D)
 (ht:∀t∈ts,(t.1.map UInt8.toNat).sum<=D) (hi:i<ts.length) (hx:ts[i]=(l,x)) (hc:Sm 192 (aJ x)) (hSm:∀d∈fD V D S (fR (ts.take i)),Sm (1152+1024*i) d):
 mD R (aJ x) (kI.map λr=>r.map aJ) (List.replicate (V+1) 0) (fD V D S (fR (ts.take i)))=fD V D S (fR (ts.take (i+1)))/\∀d∈fD V D S (fR (ts.take (i+1))),Sm (1152+1024* (i+1)) d:=by
 have hl:=SK (S:=S) hN ht i;have hfo:=aby hF he hs hr hQ;have e1:mD R (aJ x) (kI.map λr=>r.map aJ) (List.replicate (V+1) 0) (fD V D S (fR (ts.take i)))=fD V D S (fR (ts.take (i+1))):=by rw[SL V D S ts i hi,hx,<-hF,apA rows es V D he,hS,hes,aw6 (by rw[<-hS,List.length_map];exact hr.1) hs (by rw[hl,hN]),hR]
 refine⟨e1,λd hd=>?_⟩;rw[<-e1]at hd
 have h:=ahg (B:=192) R (kI.map λr=>r.map aJ) (1152+1024*i) 192 (aJ x) (List.replicate (V+1) 0) _ (λf hf=>by
  obtain⟨r,hr2,rfl⟩:=List.mem_map.1 hf;have h1:=hfo.2 r hr2;refine⟨by rw[List.length_map];omega,λd hd=>?_⟩;obtain⟨y,hy,rfl⟩:=List.mem_map.1 hd
  exact(h1.2 y hy).2) hc (by rw[List.length_map,hfo.1];omega) (by rw[hl,<-hN,<-hR,lv]) hSm d hd
 refine h.mono ?_;have h4:4^(kI.map λr=>r.map aJ).length<=4^5:=Nat.pow_le_pow_right zd (by rw[List.length_map,hfo.1];exact hD);have:(4:Nat)^5=1024:=by decide
 omega
def anS (n:Nat):cZ n (λ_=>0)=fF (yB (List.replicate n 0)):=by simp[cZ,fF,yB,List.map_const']
def slK :Value->Nat
 | .slice _ n _=>n
 |_=>0
def awx (V D:Nat)(PV d:Int)(DJ:PV=V)(hdD:d=D)(aP:Option Addr)(nT di:Nat)(ts:List aM)(a:Option Addr)(L cap:Nat)(rows:List (List Raw))(w:World)(hV1:1<=V)(jD:V<=3)(hD:D<=5)(dQ:ts.length=nT)(hn:nT<=12)(iy:At w aP (ts.flatMap aW))(hts:∀t∈ts,eI t.2/\t.1.length<=1000)
 (hp:dW V 192 D ts) (hL:rows.length=L) (hr:Rw V 192 rows) (ha:bQ w a rows) (hfit:∀r∈rows,∀c∈r,ke 192 c) (h0:eU rows=0) (aew:fx PV ts=0) (hcap:L<=cap):
 Cl 12 #[.agg #[ah PV,.slice aP nT di],.slice a L cap,ah d] w λe w'=>∃b c,e=.returned (.tuple #[.agg #[ah PV,ah d,.slice (some ⟨b,0,none⟩) (cnt V D) c],ah 0])/\At w' (some ⟨b,0,none⟩) (dC (fD V D (rows.map λr=>r.map aJ) (fR ts)))/\Bw w w':=by
 subst DJ hdD;obtain⟨i0,hi,hz0,hz1,hz2⟩:=info_parts Tryz.aCm;obtain⟨j0,hj,hy0,hy1,hy2⟩:=info_parts Tryz.aCq;have NE:L=V+1:=by rw[<-hL];exact hr.1
 have hvV:gA rows=(V:Int):=Pi hr.1 hr.2.1 hV1 zo;have jJ:(iq ts:Int)<=D:=by have:=axO ts D (λt ht=>(hp.2 t ht).2);omega
 obtain⟨tt,xp⟩:∃tt:Int,(iq ts:Int)=tt:=⟨_,rfl⟩;rw[xp]at jJ;have Jw:=λW (h:bQ W a rows)=>WL a L cap rows V W hL zo h hvV;have hpc:=λW (h:At W aP (ts.flatMap aW))=>WI (V:Int) aP di nT ts W dQ h zo (λt ht=>⟨(hts t ht).1,by have:=(hts t ht).2;omega⟩);have pp:=λW (h:At W aP (ts.flatMap aW))=>Xk (V:Int) aP di nT ts W dQ zo (λt ht=>(hts t ht).2) h;have hch:=λW (h:bQ W a rows)=>agI a L cap 192 rows W hL zo hfit zd h;rw[h0]at hch;simp only[xp]at pp;have sK:=λW=>awe V D hV1 jD hD W;obtain⟨N,hN⟩:=aI (cnt V D);have aco:N<=216:=by rw[<-hN];exact Gy jD hD
 have Tj:0<N:=by rw[<-hN];exact aaT V D
 obtain⟨R,hR⟩:=aI (bZ (V+1) D);have iw:R.length=N:=by rw[<-hR,lv,hN]
 have tX:∀x∈R,∀a∈x,a<=255:=λx hx=>WH (n:=V) (s:=D) zo (by rw[hR];exact hx);rw[hN]at sK⊢;rw[hR]at sK;obtain⟨S,hS⟩:=aI (rows.map λr=>r.map aJ);rw[hS];have hmk:=atk (N:Int) N rfl zo;obtain⟨one,hone⟩:∃one:Dyadic,(1:Dyadic)=one:=⟨_,rfl⟩;have hof:∀W,Cv 50 #[ah 1] W (cw one):=λW=>WE 1 one hone W zd;obtain⟨mM,rV⟩:=aU hof hone;clear hof hone;have hF0:fD V D S (fR (ts.take 0))=List.replicate N 0:=by rw[<-hN];rfl
 have hg1:decide ((D:Int)<tt)=false:=by simp;omega
 have hg2:decide (20<(D:Int))=false:=by simp;omega
 have hL4:L<=4:=by omega
 have hg3:((N:Int)==0)=false:=by simp;omega
 have hg4:((V:Int)==0)=false:=by simp;omega
 obtain⟨yr,kL,uT,tq,oJ,Ha,FU,Hp,Hr,rS,Hts,HN⟩:=fu Jw hpc pp hch iy ha sK hp hr hfit hts hN;obtain⟨HR,sX,PD,HS,XQ,HL,FK,ale,Zh,Hi,cV,cW⟩:=fu hR iw tX hS hF0 hL dQ aew NE hi hz0 hz1;obtain⟨cC,Hj,kP,lN,kj,KL,ES,HV1⟩:=om hz2 hj hy0 hy1 hy2 jD hD hV1;clear Jw hpc pp hch iy ha sK hp hr hfit hts hN hR iw tX hS hF0 hL dQ aew jJ xp hvV h0 hi hz0 hz1 hz2 hj hy0 hy1 hy2 jD hD hV1 NE;obtain⟨W,cP,ag,aC⟩:=jq w 24 [ah (V:Int),.slice aP nT di] 34 [ah 0,ah 0,.slice none 0 0];have lF:Hid (At W aP (ts.flatMap aW)):=oJ.out.below ag.1.out;have fE:Hid (bQ W a rows):=Ha.out.below ag.1.out;go_enter Tryz.func12,Tryz.ntmps12;go_wp2_with fail;refine aZ (lF.an<|fE.an ag) (yr.out _ fE.out) λw1 ag aC=>?_;go_wp2_with fail;refine(kL.out _ ag.1.out).mono ?_;rintro e w2 ⟨⟨c1,rfl,hc1⟩,au⟩;obtain⟨ag,aC⟩:=qX au ag;obtain rfl:=hc1.2 ale.out;clear hc1;go_wp2_with fail;refine aZ ag (uT.out _ ag.1.out) λw3 ag aC=>?_;go_wp2_with fail;refine aZ ag (tq.out _ ag.2.1.out) λw4 ag aC=>?_;go_wp2_with fail;refine(FU.out _).mono ?_;rintro e w5 ⟨v5,rfl,zq,au⟩;obtain⟨ag,aC⟩:=qX au ag;obtain⟨al,cl,rfl,_,_⟩:=dm zq;have ael:=zq.lt;obtain⟨ob,eY⟩:=aI w5.heap.size;obtain⟨W9,Im⟩:=aI ((w5.alloc (.cells (dC (List.replicate N 0)).toArray 48)).alloc (.cells #[ah (V:Int),ah (D:Int),.slice (some ⟨w5.heap.size,0,none⟩) N N] 34));have dS:Bw w5 W9:=by rw[<-Im];exact zl.alloc zm _
 have GW:aH W9 ob 48 (dC (List.replicate N 0)):=by rw[<-Im,<-eY];exact(aH.new w5 _ _).alloc _
 have adI:aH W9 (ob+1) 34 [ah (V:Int),ah (D:Int),.slice (some ⟨ob,0,none⟩) N N]:=by rw[<-Im,<-eY];exact aH.newAt _ _ _ zm
 obtain⟨FP,XR,Efm,Hw9,Epp,Err⟩:=fw (ownsRow_below zq dS) GW adI (aO ag.2.2.1.out dS) (ag.2.2.2.1.out.below dS) (ag.2.2.2.2.1.out.below dS);have lpp:=ag.2.2.2.1.out.lt;have lrr:=ag.2.2.2.2.1.out.lt;have hsW:=ag.2.2.1.out.size;have ak0:=az ael;rw[eY]at Im;clear zq dS GW adI ael;have Hob:=az eY;have lpo:w.heap.size<ob:=by omega
 have lro:w.heap.size+1<ob:=by omega
 have aen:w.heap.size<=ob:=by omega
 go_wp2_with fail;clear eY Im lpp lrr;go_loopw[11] (λx wr=>∃i:Nat,i<=nT/\x=ah (i:Int)/\aH wr ob 48 (dC (fD V D S (fR (ts.take i))))/\(∀d∈fD V D S (fR (ts.take i)),Sm (1152+1024*i) d)/\Chg (λb=>b=ob) W9 wr) (λx _=>nT-(intOf x).toNat);case atStart=>exact⟨0,Nat.zero_le _,rfl,by rw[XQ.out];exact XR.out,by rw[XQ.out];exact λd hd=>by rw[(List.mem_replicate.1 hd).2];exact Sm.zero _,Chg.refl _ _⟩
 case round=>
  clear XR;obtain⟨i,hi,rfl,pB,pS,pb⟩:=hrel;have yj:=az pS;clear pS;have bE:Bw w wr:=Hw9.out.trans (Chg.below pb Hw9.out.size (λb e=>by subst e;exact aen));have fO:=pb.blk Epp.out (show ¬(w.heap.size=ob)by omega);have Eg:=pb.blk Err.out (show ¬(w.heap.size+1=ob)by omega);have BG:=pb.blk Efm.out (show ¬(ob+1=ob)by omega);by_cases hlt:i<nT
  . have hk2:i<ts.length:=by rw[FK.out];exact hlt
    obtain⟨l,s,m,e,hx⟩:∃l s m e,ts[i]=(l,s,m,e):=⟨_,_,_,_,rfl⟩;obtain⟨b,o,hab,cn⟩:=(oJ.out.below bE).term i hk2 hx;have hll:l.length=V:=by have h:=VM (Hp.out.1.1.2.1 _ (List.getElem_mem hk2));rw[hx]at h;exact h
    have vG:(l.map UInt8.toNat).sum<=D:=by have h:=(Hp.out.2 _ (List.getElem_mem hk2)).2;rw[hx]at h;exact h
    obtain⟨es,hes⟩:=aI (l.map UInt8.toNat);have hel:es.length=V:=by rw[<-hes,List.length_map,hll]
    rw[hes]at vG;have BF:∀k (h:k<l.length),(l[k]).toNat=es.getD k 0:=λk h=>by rw[<-hes];simp[List.getD_eq_getElem?_getD,h]
    obtain⟨kI,MO⟩:∃F,su rows es V D=F:=⟨_,rfl⟩;obtain⟨K,hK⟩:∃K:Nat->Nat,(λk=>(ng rows es k).length)=K:=⟨_,rfl⟩;have sD:K 0=0:=by rw[<-hK];rfl
    have hKs:∀k,K (k+1)=K k+es.getD k 0:=λk=>by rw[<-hK];show(ng rows es (k+1)).length=_;rw[Mw,List.length_append,List.length_replicate]
    have hKV:K V=es.sum:=by rw[<-hK];show(ng rows es V).length=_;rw[SE rows es V zo,List.take_of_length_le zo]
    have hg1:∀k t,k<V->t<es.getD k 0->kI.getD (K k+t) []=kw rows k:=λk t h1 h2=>by rw[<-MO,<-hK];exact apw rows es V D k t h1 h2
    have hg2:∀m,es.sum<=m->m<D->kI.getD m []=Af (V+1):=λm h1 h2=>by rw[<-MO];exact apx rows es V D m hel h1 h2
    have hKD:∀k,k<=V->K k<=5:=λk h=>by
     have h1:K k<=K V:=by
      obtain⟨T,hT⟩:=abx rows es k (V-k);rw[show k+(V-k)=V by omega]at hT;rw[<-hK];show(ng rows es k).length<=(ng rows es V).length
      rw[hT,List.length_append];omega
     have:=ES.out;omega
    have bC:=gQ nT di i (i:Int) hab hlt rfl;have jy:Hid (bA wr b (o+i*4) [ai l,aj s,ai m,ah e]):=cn;have aAA:(bs l).size=V:=by rw[gY,hll]
    obtain⟨akm,AH,YK,Hek,XS,HK0,XY,XX,Hg1,Qi,HKD,dO⟩:=fu hll vG hel BF MO sD hKs hKV hg1 hg2 hKD bE;obtain⟨rq,ZK,iV,eQ,aX,kJ,Hx,Qf⟩:=om fO Eg BG pB pb hab hx hes;have szo:=bE.size;clear hll vG hel BF MO sD hKs hKV hg1 hg2 hKD bE fO Eg BG pB pb hab hx hes cn hK;obtain⟨wo,hwo⟩:∃wo,wo=wr:=⟨_,rfl⟩;subst hwo;have Hb:=hbz wo;obtain⟨ag,aC⟩:=qZ (rq.an trivial);go_wp2_with fail;clear Hb;go_loopw[12,13] (λs12 x wr=>∃(k:Nat) (v:Value),k<=V/\x=ah (k:Int)/\v=s12/\gG 32 wr wo.heap.size kI (K k) v/\Bw wo wr) (λ_ x _=>V-(intOf x).toNat);case atStart=>exact⟨0,_,Nat.zero_le _,rfl,rfl,by rw[HK0.out];exact gG.nil _ _ _ _,Below.refl _ _⟩
    case round=>
     obtain⟨k,v,hk,rfl,rfl,pv,pb⟩:=hrel;by_cases bj:k<V
     . obtain⟨eV,ZC⟩:=aU pv pb;have Cx:=pb.size;clear pv pb;obtain⟨wk,hwk⟩:∃wk,wk=wr:=⟨_,rfl⟩;subst hwk;go_wp2_with fail;go_loopw[14,15] (λKl x wr=>∃(j:Nat) (vr:Value),j<=L/\x=ah (j:Int)/\vr=Kl/\wr.ownsRow wk.heap.size 48 3 vr j (((kw rows k).take j).flatMap bK)/\Bw wk wr) (λ_ x _=>L-(intOf x).toNat);case atStart=>exact⟨0,_,Nat.zero_le _,rfl,rfl,World.ownsRow_nil _ _ _ _,Below.refl _ _⟩
       case round=>
        obtain⟨j,vr,hj,rfl,rfl,ho,qb⟩:=hrel;obtain⟨fA,AL⟩:=aU qb ho;have szj:=qb.size;clear ho qb;have Hb:=hbz wr;by_cases fY:j<L
        . have vD:j<rows.length:=by rw[HL.out];exact fY
          have hbj:=aO (aO dO.out ZC.out) fA.out;obtain⟨b1,o1,a1,c1,kV,hc1,jf⟩:=(Ha.out.below hbj).row j vD;have hrl:rows[j].length=V:=Hr.out.2.1 _ (List.getElem_mem vD);have hkr:k<rows[j].length:=by omega
          obtain⟨s2,m2,e2,hx2⟩:=na (rows[j][k]);obtain⟨bq,oq,rfl,n0,n1,n2⟩:=jf.num k hkr hx2;rw[hrl]at hc1;have hst:((kw rows k).take (j+1)).flatMap bK=((kw rows k).take j).flatMap bK++[aj s2,ai m2,ah e2]:=by
           have h1:j<(kw rows k).length:=by simp[kw];exact vD
           rw[List.take_succ_eq_append_getElem h1,List.flatMap_append];congr 1;have h2:(kw rows k)[j]=(s2,m2,e2):=by simp only[kw,List.getElem_map];rw[<-hx2];simp[List.getD_eq_getElem?_getD,hkr]
           rw[h2];rfl
          have Vz:=rJ L cap j (j:Int) kV fY rfl;rw[Nat.mul_one]at Vz;have ixb:=xy V c1 k (k:Int) (rfl:(some ⟨bq,oq,none⟩:Option Addr)=_) bj rfl;have Hhd:Hid (bA wr b1 (o1+j) [.slice (some ⟨bq,oq,none⟩) V c1]):=λz hz=>by
           obtain rfl:z=0:=by simp at hz;omega
           exact hc1
          have Hu:Hid (bA wr bq (oq+k*3) [aj s2,ai m2,ah e2]):=iR n0 n1 n2;have cu:=az hst;clear hst jf n0 n1 n2 kV hc1 hbj hx2 hrl;obtain⟨ag,aC⟩:=qZ (Hhd.an<|Hu.an trivial);obtain⟨W6,tZ,bi,ag,aC⟩:=cM wr (Hb.an ag) 48 [aj s2,ai m2,ah e2];have dw:=ownsRow_below AL.out ag.2.1.out;have jH:=ag.2.1.out.size;go_wp2_with (at_builtin;refine wpList_append_own_at _ rfl _ _ 32 rfl wk.heap.size 48 i0 _ 3 32 Tryz.underlying32 Hi.out cV.out cW.out cC.out rfl zd vr j _ rfl dw ⟨wr.heap.size,0,none⟩ 1 1 [aj s2,ai m2,ah e2] rfl rfl (gK ag.1.out) zy zx zo zo ?_;intro v' w7 ey eT _ eY;obtain⟨g',sj,rfl⟩:=ownsRow_succ ey);go_roundw;case rel=>exact⟨j+1,_,by omega,by go_num,rfl,by rw[cu.out];exact ey,(aO fA.out ag.2.1.out).grown eT zo (λj e=>dz dw j e)⟩
          case measure=>exact bH
        . obtain rfl:j=L:=by omega
          have hwl:(kw rows k).length=j:=by simp[kw];exact HL.out
          have ho:=AL.out;rw[List.take_of_length_le (by rw[hwl];exact Nat.le_refl _)]at ho;have Ji:Pd wr v.ownBlock wo.heap.size vr (kw rows k):=Pd.own ho hwl (λg hg=>(eV.out.lt g hg).2) Cx;obtain⟨ar,cr,rfl,_,_⟩:=dm ho;have hov:=eV.out.below fA.out;obtain⟨E,hE⟩:=aI (es.getD k 0);have hE5:K k+E<=5:=by have h1:=XY.out k;have h2:=HKD.out (k+1) zo;omega
          have hE9:E<=5:=by omega
          have hkl:k<l.length:=by rw[akm.out];exact bj
          have ixl:=uv l (k:Int) k hkl rfl;rw[Hek.out k hkl,hE]at ixl;obtain⟨HE,Lx,dA⟩:=cE hE Ji hov;clear ho Ji hov hE hkl AL Hb;obtain⟨wj,Cb⟩:∃wj,wj=wr:=⟨_,rfl⟩;subst Cb;go_wp2_with fail;go_loopw[12,16] (λs12 x wr=>∃(t:Nat) (v:Value),t<=E/\x=ah (t:Int)/\v=s12/\gG 32 wr wo.heap.size kI (K k+t) v/\Pd wr v.ownBlock wo.heap.size (.slice ar j cr) (kw rows k)/\Bw wo wr) (λ_ x _=>E-(intOf x).toNat);case atStart=>exact⟨0,_,Nat.zero_le _,rfl,rfl,dA.out,Lx.out,aO ZC.out fA.out⟩
          case round=>
           clear dA Lx;obtain⟨t,v,ht,rfl,rfl,pv2,pd2,rb⟩:=hrel;have hb4:=rb;obtain⟨CZ,aab,LH,tu,ym⟩:=fH (ag.1.out.below hb4) (jy.out.below hb4) pv2 pd2 rb;have axn:=hb4.size;clear pv2 pd2 rb hb4;have Hb:=hbz wr;have ay4:=ag.1;have ay7:=jy;clear jy;have rq:=CZ;have jy:=aab;clear CZ aab;obtain⟨ag,aC⟩:=qZ (rq.an<|jy.an trivial);by_cases Uy:t<E
           . have Zo:=az (show t<E from Uy);obtain⟨W7,DL,bi,ag,aC⟩:=cM wr (Hb.an ag) 32 [.slice ar j cr];have Jm:=ag.2.1.out.size;go_wp2_with (at_builtin;refine Kw rfl _ _ 82 rfl wo.heap.size 32 j0 _ Tryz.underlying82 Hj.out kP.out lN.out kj.out rfl v (K k+t) kI rfl (LH.out.below ag.2.1.out) wr.heap.size 1 (.slice ar j cr) rfl (ag.1.out.cell 0) (by rw[Hg1.out k t bj (by rw[HE.out];exact Uy)];exact tu.out.below ag.2.1.out) zo zo ?_;intro v8 w8 dY bJ jX Jf);have hd8:=(tu.out.below ag.2.1.out).grown bJ Jf;have fG:=(aO ym.out ag.2.1.out).grown bJ zo jX;go_roundw;case rel=>exact⟨t+1,v8,Nat.succ_le_of_lt Zo.out,by go_num,rfl,by rw[<-Nat.add_assoc];exact dY,hd8,fG⟩
             case measure=>have:=Zo.out;simp[intOf];omega
           . obtain rfl:t=E:=by omega
             have hks:=XY.out k;rw[HE.out]at hks;obtain⟨Hks,oK⟩:=aU hks (show k<V from bj);have hv3:=KL.out;clear hks;go_wp2;go_roundw;case rel=>exact⟨k+1,v,Nat.succ_le_of_lt oK.out,by go_num,rfl,by rw[Hks.out];exact LH.out,ym.out⟩
             case measure=>have:=oK.out;simp[intOf];omega
     . obtain rfl:V=k:=by omega
       obtain⟨Hv3,eo⟩:=aU pv pb;have szv:=pb.size;clear pv pb;obtain⟨wv,hwv⟩:∃wv,wv=wr:=⟨_,rfl⟩;subst hwv;have aAc:=AH.out;go_wp2_with fail;go_loopw[12] (λs12 wr=>∃(n:Nat) (v:Value),v=s12/\es.sum<=n/\n<=D/\gG 32 wr wo.heap.size kI n v/\Bw wo wr) (λs12 _=>D-slK s12);case atStart=>exact⟨K V,v,rfl,by rw[XX.out];exact Nat.le_refl _,by rw[XX.out];exact AH.out,Hv3.out,eo.out⟩
       case round=>
        obtain⟨n,v',rfl,iB,iO,pv,pb⟩:=hrel;obtain⟨gv,cv,rfl⟩:=pv.form;by_cases hlt5:n<D
        . obtain⟨Hv5,eP,Zp,Ax⟩:=dP pv pb hlt5 iB;have xR:=pb.size;clear pv pb;obtain⟨wt,hwt⟩:∃wt,wt=wr:=⟨_,rfl⟩;subst hwt;go_wp2_with fail;go_loopw[17,18] (λWO x wr=>∃(j:Nat) (vr:Value),j<=L/\x=ah (j:Int)/\vr=WO/\wr.ownsRow wt.heap.size 48 3 vr j ((List.replicate j (canon one)).flatMap bK)/\Bw wt wr) (λ_ x _=>L-(intOf x).toNat);case atStart=>exact⟨0,_,Nat.zero_le _,rfl,rfl,World.ownsRow_nil _ _ _ _,Below.refl _ _⟩
          case round=>
           obtain⟨j,vr,hj,rfl,rfl,ho,qb⟩:=hrel;have szj:=qb.size;obtain⟨fA,AL⟩:=aU qb ho;clear ho qb;have Hb:=hbz wr;by_cases hlt6:j<L
           . have Zq:=az (show j<L from hlt6);have cu:Hid ((List.replicate (j+1) (canon one)).flatMap bK=(List.replicate j (canon one)).flatMap bK++(bY one)):=by
              show _=_
              rw[List.replicate_succ',List.flatMap_append];simp only[List.flatMap_cons,List.flatMap_nil,List.append_nil];rfl
             go_wp2_with fail;refine aZ (Hb.an trivial) (mM.out _) λw8 ag aC=>?_;obtain⟨W7,DL,bi,ag,aC⟩:=cM w8 ag 48 (bY one);have dw:=ownsRow_below AL.out ag.2.1.out;have jH:=ag.2.1.out.size;have hnews:=gK ag.1.out;skip
             go_wp2_with (at_builtin;refine wpList_append_own_at _ rfl _ _ 32 rfl wt.heap.size 48 i0 _ 3 32 Tryz.underlying32 Hi.out cV.out cW.out cC.out rfl zd vr j ((List.replicate j (canon one)).flatMap bK) rfl dw ⟨w8.heap.size,0,none⟩ 1 1 (bY one) rfl rfl hnews zy zx zo zo ?_;intro v' w7 ey eT _ _;obtain⟨g',sj,rfl⟩:=ownsRow_succ ey);go_roundw;case rel=>exact⟨j+1,_,Nat.succ_le_of_lt Zq.out,by go_num,rfl,by rw[cu.out];exact ey,(aO fA.out ag.2.1.out).grown eT zo (λj e=>dz dw j e)⟩
             case measure=>have:=Zq.out;simp[intOf];omega
           . obtain rfl:j=L:=by omega
             have ho:=AL.out;have hun:List.replicate j (canon one)=Af (V+1):=by rw[Zh.out,<-rV.out];rfl
             rw[hun]at ho;have Ji:Pd wr (Value.slice gv n cv).ownBlock wo.heap.size vr (Af (V+1)):=Pd.own ho (by simp[Af,Zh.out]) (λg hg=>(Hv5.out.lt g hg).2) xR;obtain⟨ar,cr,rfl,_,_⟩:=dm ho;obtain⟨Lx,dA⟩:=aU Ji (Hv5.out.below fA.out);have hb4:=aO eP.out fA.out;have hg2:=Qi.out n Ax.out Zp.out;obtain⟨aka,ym,CZ⟩:=cE hg2 hb4 (ag.1.out.below hb4);have axn:=hb4.size;clear ho Ji hb4 hun hg2 AL;obtain⟨W7,DL,bi,ag,aC⟩:=cM wr (Hb.an trivial) 32 [.slice ar j cr];have Jm:=ag.2.1.out.size;have yJ:=ES.out;go_wp2_with (at_builtin;refine Kw rfl _ _ 82 rfl wo.heap.size 32 j0 _ Tryz.underlying82 Hj.out kP.out lN.out kj.out rfl (.slice gv n cv) n kI rfl (dA.out.below ag.2.1.out) wr.heap.size 1 (.slice ar j cr) rfl (ag.1.out.cell 0) (by rw[aka.out];exact Lx.out.below ag.2.1.out) zo zo ?_;intro v8 w8 dY bJ jX Jf);have fG:=(aO ym.out ag.2.1.out).grown bJ zo jX;obtain⟨g9,c9,rfl⟩:=dY.form;have h1:=Ax.out;have h2:=Zp.out;exact⟨⟨n+1,_,rfl,by omega,by omega,dY,fG⟩,by simp[slK];omega⟩
        . obtain rfl:D=n:=by omega
          obtain⟨Hv9,Aq⟩:=aU pv pb;have xR:=pb.size;clear pv;have hmb:=sN ((V:Int)+1) (V+1) zo (by have:=KL.out;omega);have GW:Hid (aH wr (ob+1) 34 [ah (V:Int),ah (D:Int),.slice (some ⟨ob,0,none⟩) N N]):=iV.out.below pb;obtain⟨Ib,hT9⟩:=aU (ag.1.out.below pb) (jy.out.below pb);clear pb iV jy;have iV:=GW;have rq:=Ib;have jy:=hT9;clear GW Ib hT9;have Hb:=hbz wr;obtain⟨ag,aC⟩:=qZ (iV.an<|rq.an<|jy.an trivial);have hv3:=KL.out;have hwv:IntKind.i64.wrap ((V:Int)+1)=(V:Int)+1:=by rw[IntKind.wrap_i64];omega
          go_wp2_with fail;obtain⟨iV,rq,jy,_⟩:=ag;obtain⟨rz,oW,SJ⟩:=iV.out.c3;obtain⟨pp0,Wt⟩:=rq.out.c2;obtain⟨xS,xU,xV,xW⟩:=jy.out.w4;refine ez (λw'=>aV w' (ob+1) 2 (.slice (some ⟨ob,0,none⟩) N N)/\aV w' (w.heap.size) 1 (.slice aP nT di)/\aV w' b (o+i*4) (ai l)/\aV w' b (o+i*4+1) (aj s)/\aV w' b (o+i*4+2) (ai m)/\aV w' b (o+i*4+3) (ah e)) (λi=>Nat.blt i 13) [(0,true),(1,true),(2,true),(3,true),(4,true),(5,true),(6,true),(7,true),(8,true),(9,true),(10,true),(11,true),(12,false),(13,false)] zk zk rfl zk zc ⟨SJ,Wt,xS,xU,xV,xW⟩ ?_;iterate 12 (refine pT rfl rfl ?_ (by intro w' ⟨q0,q1,q2,q3,q4,q5⟩;go_simp;try with_reducible rfl);try simp only[UU])
          refine aY rfl rfl (λK hK=>?_);go_simp;refine hK _ _ (λ_=>⟨bg SJ,bg Wt,bg xS,bg xU,bg xV,bg xW⟩) ?_;try simp only[UU]
          refine cL (λW7=>aH W7 (wr.heap.size) 5 (cZ (V+1) (λ_=>0))/\Bw wr W7) (by first|exact fI|exact fJ) ?_;rintro W7 ⟨qz,au⟩;have aBi:=iV.out.lt;have aBp:=rq.out.lt;replace iV:=kB iV au;replace rq:=kB rq au;replace jy:=kW jy au;have Hz:=az qz;clear qz;obtain⟨rz,oW,SJ⟩:=iV.out.c3;obtain⟨pp0,Wt⟩:=rq.out.c2;obtain⟨xS,xU,xV,xW⟩:=jy.out.w4;replace Hb:=bD Hb au;refine aY rfl rfl (λK hK=>?_);go_simp;have GY:=aby XS.out YK.out AH.out Hr.out rS.out;have htd:∀t∈ts,(t.1.map UInt8.toNat).sum<=D:=λt ht=>(Hp.out.2 t ht).2;have GX:=SK (S:=S) HN.out htd i;have hmem:=List.getElem_mem hk2;have Vn:Sm 192 (aJ (s,m,e)):=by have h:=(Hp.out.1.2 _ hmem).2;rw[Hx.out]at h;exact h
          have hxr:eI (s,m,e):=by have h:=(Hts.out _ hmem).1;rw[Hx.out]at h;exact h
          obtain⟨aeM,Jp⟩:=axL ES.out KL.out HN.out HR.out HS.out Hr.out rS.out XS.out Qf.out YK.out AH.out htd hk2 Hx.out Vn yj.out;obtain⟨_,_,eg,hsl,_⟩:=Hv9.out.tbl GY.1;cases eg
          have aq2:D<=cv:=by unfold Sl at hsl;exact hsl.1
          have DV:=Chg.aCk (Chg.aCk aX.out Aq.out) Hb.out;have GP:=(eQ.out.below Aq.out).below Hb.out;have zw:4^D<=4^5:=Nat.pow_le_pow_right zd ES.out;have UO:(4:Nat)^5=1024:=by decide
          have aen:ob<wo.heap.size:=eQ.out.lt;have hD5:=ES.out;have aq7:i<nT:=hlt;have hz9:aH W7 wr.heap.size 5 (fF (yB (List.replicate (V+1) 0))):=by rw[<-anS];exact Hz.out
          have hall:∀W':World,Chg (λb=>b=ob) W7 W'->At W' al (R.map mZ)/\bQ W' gv kI/\At W' (some ⟨wr.heap.size,0,none⟩) (fF (yB (List.replicate (V+1) 0))):=λW' h=>by
           refine⟨At.aCC FP.out (DV.trans h (λb h=>.inl h)) (λb e=>by have h1:=(ak0.out b e).2;rw[Hob.out]at h1;omega) al cl rfl,?_,At.aCi (h.blk hz9 zo)⟩;obtain⟨_,_,eg,_,ht⟩:=((Hv9.out.below Hb.out).chg h (λb hb=>by omega)).tbl GY.1;cases eg
           exact ht.tbl
          with_reducible refine(aw7 R ob N cl (V+1) al sX.out zo PD.out zo zo kI 192 gv D cv (V+1) (some ⟨wr.heap.size,0,none⟩) (fD V D S (fR (ts.take i))) (List.replicate (V+1) 0) s m e (1152+1024*i) W7 GY.1 aq2 zo GY.2 GX zm (Nat.le_refl _) (λa ha=>by rw[(List.mem_replicate.1 ha).2];omega) GP (λW' h=>(hall W' h).1) (λW' h=>(hall W' h).2.1) (λW' h=>(hall W' h).2.2) hxr Vn zo yj.out zo).mono ?_
          rintro e9 w9 ⟨⟨r9,rfl⟩,yI,GQ⟩;rw[aeM]at yI;obtain⟨pK,Ps,HS9⟩:=cE yI (DV.trans GQ (λb h=>.inl h)) Jp;clear yI GQ GY htd GX hmem Vn hxr aeM Jp hsl DV GP hz9 hall;refine hK _ _ (λh=>absurd h zd) ?_;try simp only[UU]
          simp only[bP];go_wp2;exact⟨⟨i+1,Nat.succ_le_of_lt aq7,rfl,pK.out,HS9.out,Ps.out⟩,by simp[intOf];omega⟩
  . obtain rfl:i=nT:=by omega
    rw[List.take_of_length_le (by rw[FK.out];exact Nat.le_refl _)]at pB;have hb:Bw w wr:=bE;obtain⟨dO,iV,ZK,eQ,rq⟩:=fH bE BG Eg pB fO;clear bE BG Eg pB hb fO pb;have Hb:=hbz wr;obtain⟨ag,aC⟩:=qZ (iV.an<|ZK.an<|rq.an trivial);go_wp2;have rr1:wr.cell? ⟨w.heap.size+1,1,none⟩=some (ah 0):=ag.2.1.out.cell 1;have rr0:wr.cell? ⟨w.heap.size+1,0,none⟩=some (ah 0):=ag.2.1.out.cell 0;have rr2:wr.cell? ⟨w.heap.size+1,2,none⟩=some (.slice none 0 0):=ag.2.1.out.cell 2;refine bodyPost_ret (v:=.tuple #[.agg #[ah (V:Int),ah (D:Int),.slice (some ⟨ob,0,none⟩) N N],ah 0]) (by simp[results,Tryz.results12,go_sem,rr0,rr1,rr2]) rfl ⟨ob,N,rfl,At.aCi (t:=48) ?_,?_⟩
    . exact((eQ.out.so _ _ zo _).so _ _ zo _).so _ _ zo _
    . exact((dO.out.setCell zp _).setCell zp _).setCell zp _
end Go.Proofs.YtnjfebkelecgaaaGreatDoor
