/- mat.bareiss,the walk: the determinant of whole numbers,up to four sides. -/
import Derived.Test.YtdaadlblknpipaaGreatDoorZ14
import Derived.Test.YtdaadlblknpipaaGreatDoorZ7
import Derived.Test.YtdaadlblknpipaaGreatDoorZ10
import Derived.Test.YtdaadlblknpipaaGreatDoorZ13
set_option linter.unusedVariables false
set_option linter.unusedSimpArgs false
set_option maxRecDepth 100000
set_option maxHeartbeats 16000000
namespace Go.Proofs.YtdaadlblknpipaaGreatDoor
open Go.RowKit
attribute [local go_sem ↓] Go.wp_at_zero Go.wp_at_succ
def Bs (w0 w:World)(base n go cap top r l K:Nat)(Z:Int)(k:Nat)(f:Nat->Nat->Int)(last:Int)(t:Bool):Prop:=
 BS w0 w base n go cap top f/\ai w r 28 [.bool false,.string ⟨#[]⟩]/\ai w l 28 [.bool (au last),.string (bs (nt last.natAbs))]/\fP n (n-k) k f last/\eD n (n-k) k f last t=Z/\last≠0/\
  ∃Q,Q+1<=2^k* (K+1)/\last.natAbs<2^Q/\∀a b,a<n->b<n->(f a b).natAbs<2^Q
theorem ajS (f:Nat->Nat->Int)(k:Nat):bQ f k (k+0)=f:=by
 funext a b;unfold bQ
 simp only[Nat.add_zero];by_cases h:a=k
 . rw[if_pos h,h]
 . rw[if_neg h,if_neg h]
theorem Bs.none {w0 w:World}{base n go cap top r l K k:Nat}{Z:Int}{f:Nat->Nat->Int}{last:Int}{t:Bool}(h:Bs w0 w base n go cap top r l K Z k f last t)(hk:k<n)(hp:nj f n k=none):Z=0:=by obtain⟨_,_,_,_,h2,_⟩:=h;rw[show n-k=n-(k+1)+1 by omega]at h2;unfold eD at h2;rw[hp]at h2;exact h2.symm
theorem Bs.some {w0 w:World}{base n go cap top r l K k m:Nat}{Z:Int}{f:Nat->Nat->Int}{last:Int}{t:Bool}(h:Bs w0 w base n go cap top r l K Z k f last t)(hk:k<n)(hp:nj f n k=some m):
 ∃g,g=bQ f k (k+m)/\g k k≠0/\(∀a b,k<a->a<n->k<b->b<n->last∣bX g k a b)/\fP n (n-(k+1)) (k+1) (dh g k last) (g k k)/\eD n (n-(k+1)) (k+1) (dh g k last) (g k k) (t !=decide (0<m))=Z/\
  ∃Q,2*Q+2<=2^(k+1) * (K+1)/\last.natAbs<2^Q/\(∀a b,a<n->b<n->(g a b).natAbs<2^Q)/\(g k k).natAbs<2^(2*Q+1)/\∀a b,a<n->b<n->(dh g k last a b).natAbs<2^(2*Q+1):=by
 obtain⟨_,_,_,h1,h2,h3,Q,hQ,hl,hf⟩:=h;have Cu:=ke hp;rw[show n-k=n-(k+1)+1 by omega]at h1 h2;unfold fP at h1;unfold eD at h2;rw[hp]at h1 h2;simp only at h1 h2;obtain⟨g,hg⟩:∃g,g=bQ f k (k+m):=⟨_,rfl⟩;rw[<-hg]at h1 h2;have gT:∀a b,a<n->b<n->(g a b).natAbs<2^Q:=by
  intro a b ha hb;rw[hg];unfold bQ;refine hf _ _ ?_ hb;split
  . omega
  . split
    . omega
    . exact ha
 have BH:2^Q<=2^(2*Q+1):=Nat.pow_le_pow_right zd zo;refine⟨g,hg,?_,h1.1,h1.2,h2,Q,?_,hl,gT,Nat.lt_of_lt_of_le (gT k k hk hk) BH,λa b ha hb=>?_⟩
 . rw[hg];unfold bQ;rw[if_pos rfl];exact Cu.2
 . rw[Nat.pow_succ];have:2^k*2* (K+1)=2* (2^k* (K+1)):=by rw[Nat.mul_comm (2^k) 2,Nat.mul_assoc]
   omega
 . unfold dh;split
   . rename_i h4
     have h5:=(Na g k a b Q (gT a b ha hb) (gT k k hk hk) (gT a k ha hk) (gT k b hk hb)).2.2;rcases div_lt _ last _ h5 with h6|h6
     . exact h6
     . exact absurd (h1.1 a b h4.1 ha h4.2 hb) h6
   . exact Nat.lt_of_lt_of_le (gT a b ha hb) BH
theorem Bs.next {w0 w:World}{base n go cap top r l kb K k:Nat}{Z:Int}{f g:Nat->Nat->Int}{x:Int}{t:Bool}(h:BT w0 w base n go cap top f r l kb x k)(hf:∀a b,a<n->b<n->f a b=g a b)(hx:x≠0)(h1:fP n (n-(k+1)) (k+1) g x)(h2:eD n (n-(k+1)) (k+1) g x t=Z)
 (h3:∃Q,Q+1<=2^(k+1) * (K+1)/\x.natAbs<2^Q/\∀a b,a<n->b<n->(g a b).natAbs<2^Q):Bs w0 w base n go cap top r l K Z (k+1) g x t:=
 ⟨(h.congr hf).1,h.2.1,h.2.2.1,h1,h2,hx,h3⟩
def Ei (a0:Act)(w0:World)(cs:List (Addr×Value))(x1 x2 x3 x4 P1 P2 N:Int)(dn:Nat->Bool)(a:Act)(w:World):Prop:=
 ∃v1 v2 v3 v4 v5 v6:Value,a=(((((a0.put (some 76) v1).put (some 77) v2).put (some 92) v3).put (some 93) v4).put (some 94) v5).put (some 10) v6/\iL cs w/\Bw w0 w/\
  (dn 14=true->∃b,v1=.slice (some ⟨b,0,none⟩) 2 2/\ai w b 28 [.bool (au x1),.string (bs (nt x1.natAbs)),.bool (au x2),.string (bs (nt x2.natAbs))])/\(dn 15=true->v2=cB P1)/\
  (dn 30=true->∃b,v3=.slice (some ⟨b,0,none⟩) 2 2/\ai w b 28 [.bool (au x3),.string (bs (nt x3.natAbs)),.bool (au x4),.string (bs (nt x4.natAbs))])/\(dn 31=true->v4=cB P2)/\(dn 32=true->v5=cB N)/\
  (dn 33=true->∃b,v6=.pointer (some ⟨b,0,none⟩)/\w0.heap.size<=b/\ai w b 28 [.bool false,.string ⟨#[]⟩])
theorem Ei.init (a:Act)(w0 w:World)(cs:List (Addr×Value))(x1 x2 x3 x4 P1 P2 N:Int)(hk:iL cs w)(hb:Bw w0 w):Ei a w0 cs x1 x2 x3 x4 P1 P2 N (λ_=>false) a w:=
 ⟨a.tmps.getD 76 undef,a.tmps.getD 77 undef,a.tmps.getD 92 undef,a.tmps.getD 93 undef,a.tmps.getD 94 undef,a.tmps.getD 10 undef,by rw[zn,zn,zn,zn,zn,zn],hk,hb,(λh=>by cases h),(λh=>by cases h),(λh=>by cases h),(λh=>by cases h),(λh=>by cases h),(λh=>by cases h)⟩
theorem abP (base n K:Nat)(f:Nat->Nat->Int)(v:Value)(w:World)(hn:1<=n)(cd:n<=4)(hO:iz w base n (ez f n) n v)(dV:base<=w.heap.size)(yo:1<=K)(hK:∀a b,a<n->b<n->(f a b).natAbs<2^K)(hK2:K<=100000000):
 Calls Tryz.prog 88 #[v] w λe w'=>e=.returned (cB (eD n n 0 f 1 false))/\Below base w w':=by
 obtain⟨go,cap,rfl,hcap,hbs⟩:=BS.begin hO hn;obtain⟨Z,hZ⟩:=aC (eD n n 0 f 1 false);have hex:=Rx n hn cd f;have hsz:∀k Q:Nat,k<=n->Q+1<=2^k* (K+1)->Q<=1800000000:=by intro k Q h1 h2;have h3:2^k<=2^4:=Nat.pow_le_pow_right zd zo;have h4:=Nat.mul_le_mul_right (K+1) h3;omega
 rw[hZ];obtain⟨Pg,HZ,Pq,vC,HK⟩:=fp hbs hZ hex hsz hK;clear hO hbs hZ hex hsz hK;have Hb:Hid (Bw w w):=Below.refl _ _;go_enter Tryz.func88,Tryz.ntmps88;go_wp2_with fail;obtain⟨R,hR⟩:∃R:World->Prop,(λW=>ai W (w.heap.size) 28 [.bool false,.string ⟨#[]⟩]/\Bw w W)=R:=⟨_,rfl⟩;first|refine bG R ?hR ?_|refine bF R ?hR ?_
 case hR=>subst hR;exact⟨(ai.newAt w _ _ (b:=w.heap.size) rfl),zl⟩
 subst hR;rintro W ⟨qr,ae⟩;have Hr:=ah qr;clear qr;obtain⟨r0,aj,r1,ar⟩:=Hr.out.g2;replace Hb:=az Hb ae;clear ae;go_wp2_with fail;refine(Og 1 _ zd zd).mono ?_;rintro e w1 ⟨rfl,ae⟩;clear r0 aj r1 ar;replace Hr:=kB Hr ae;obtain⟨r0,aj,r1,ar⟩:=Hr.out.g2;replace Hb:=az Hb ae;clear ae;have wU:=Hr.out.lt;obtain⟨W2,nX,ae,Hl⟩:=cQ w1 28 [.bool (au 1),.string (bs (nt 1))];clear r0 aj r1 ar;replace Hr:=kB Hr ae;obtain⟨r0,aj,r1,ar⟩:=Hr.out.g2;obtain⟨l0,oW,l1,oX⟩:=Hl.out.g2;replace Hb:=az Hb ae;clear ae;have OC:=ah (Pg.out.below Hb.out zo);have afg:w.heap.size<w1.heap.size:=wU;have hq0:=Hr.out;have hq1:=Hl.out;clear r0 r1 aj ar l0 l1 oW oX;have hst:Bs w W2 base n go cap w.heap.size w.heap.size w1.heap.size K Z 0 f 1 false:=⟨OC.out,hq0,hq1,Pq.out,HZ.out,by decide,K,by omega,by rw[show(1:Int).natAbs=1 from rfl];exact Nat.one_lt_two_pow zo,HK.out⟩;clear hq0 hq1;have bS:=ah hst;have szW:=Hb.out.size;clear hst OC Hb Hr Hl Pg HK Pq HZ;go_wp2_with fail;go_loopw[5,15] (λs5 x wr=>∃(k:Nat) (f':Nat->Nat->Int) (last:Int) (t:Bool),k<=n/\x=.int .i64 (k:Int)/\s5=.bool t/\Bs w wr base n go cap w.heap.size w.heap.size w1.heap.size K Z k f' last t) (λ_ x _=>n-(intOf x).toNat);case atStart=>exact⟨0,f,1,false,Nat.zero_le _,rfl,rfl,bS.out⟩
 case round=>
  clear bS;obtain⟨k,f',last,t,hk,rfl,rfl,hS⟩:=hrel;obtain⟨wk,hwk⟩:∃wk,wk=wr:=⟨_,rfl⟩;subst hwk;by_cases hlt:k<n
  . obtain⟨Q0,Su,_,Sw⟩:=hS.2.2.2.2.2.2;have fx:=vC.out k Q0 hk Su;have hlen:∀a b,a<n->b<n->(nt (f' a b).natAbs).length<=1099511627776:=λa b ha hb=>jm (Sw a b ha hb) zo;have hkc:k<cap:=by omega
    obtain⟨HS,mG⟩:=aM hS hlen;have zE:=hS.1.2.2.2;clear hS Su Sw fx hlen;have Hb:Hid (Bw wk wk):=Below.refl _ _;obtain⟨Hr,Hl⟩:=aM HS.out.2.1 HS.out.2.2.1;obtain⟨r0,aj,r1,ar⟩:=Hr.out.g2;obtain⟨l0,oW,l1,oX⟩:=Hl.out.g2;have Gd:=Hr.out.lt;have agJ:=Hl.out.lt;obtain⟨W3,Lh,ae,lQ⟩:=cQ wk 3 [.int .i64 (k:Int)];clear r0 aj r1 ar;replace Hr:=kB Hr ae;clear l0 oW l1 oX;replace Hl:=kB Hl ae;obtain⟨r0,aj,r1,ar⟩:=Hr.out.g2;obtain⟨l0,oW,l1,oX⟩:=Hl.out.g2;have dM:=lQ.out.c1;replace Hb:=az Hb ae;clear ae;have jr:=ah (HS.out.1.below Hb.out zo);go_wp2_with fail;refine(jr.out.index k wk.heap.size hlt zo dM mG.out).mono ?_;rintro e w4 ⟨rfl,ae⟩;clear r0 aj r1 ar l0 oW l1 oX dM;replace Hr:=kB Hr ae;replace Hl:=kB Hl ae;replace lQ:=kB lQ ae;obtain⟨r0,aj,r1,ar⟩:=Hr.out.g2;obtain⟨l0,oW,l1,oX⟩:=Hl.out.g2;have dM:=lQ.out.c1;replace Hb:=az Hb ae;clear ae;cases hp:nj f' n k with
    | none=>
      have hpv:CU f' n k= -1:=by unfold CU;rw[hp]
      have hz:=HS.out.none hlt hp;rw[hpv];have YF:=ah (HS.out.1.2.2.1.trans (Hb.out.mono zo));clear HS mG jr hp;go_wp2;refine bodyPost_ret (v:=.agg #[.bool false,.string ⟨#[]⟩]) (by simp[results,Tryz.results88,go_sem,r0,r1]) rfl ⟨by rw[hz];rfl,?_⟩;exact(YF.out.setCell zp _).setCell zp _
    | some m=>
      have hpv:CU f' n k=(m:Int):=by unfold CU;rw[hp]
      rw[hpv];obtain⟨sB,_⟩:=ke hp;obtain⟨g,hg,oc,lv,Tk,Ta,Q,hQ,Ck,gT,Tz,UD⟩:=HS.out.some hlt hp;have hl0:=HS.out.2.2.2.2.2.1;have vV:BT w w4 base n go cap w.heap.size f' w.heap.size w1.heap.size wk.heap.size last k:=⟨HS.out.1.below Hb.out zo,Hr.out,Hl.out,lQ.out,by omega,Nat.le_refl _,by omega,by omega⟩;obtain⟨tu,YO,Pr,Pe,HQ,PI,PC,PE,JA,Hg,DW,nE⟩:=gW vV lv Tk Ta hQ Ck gT Tz UD hg oc hl0;clear vV lv Tk Ta hQ Ck gT Tz UD hg oc hl0 hpv hp HS mG jr Hb Hr Hl lQ r0 r1 aj ar l0 l1 oW oX dM;have hm0:¬(m:Int)<0:=by omega
      go_upto_if 27 with fail
      go_cut[5] (λs5 wx=>s5=.bool (t !=decide (0<m))/\BT w wx base n go cap w.heap.size g w.heap.size w1.heap.size wk.heap.size last k);case first=>
       by_cases hm:0<m
       . have sD:(0:Int)<(m:Int):=by omega
         obtain⟨g1,c1,g2,c2,e1,e2,e3,hsw⟩:=tu.out.swap k (k+m) hlt zo;rw[<-Hg.out]at hsw;have JB:=ah hsw;have iV:=yJ n cap k (k:Int) (rfl:(some ⟨go,0,none⟩:Option Addr)=_) hlt rfl;have mg:=yJ n cap (k+m) ((k+m:Nat):Int) (rfl:(some ⟨go,0,none⟩:Option Addr)=_) zo rfl;rw[Nat.zero_add,Nat.mul_one]at iV mg;have hwm:IntKind.i64.wrap ((k:Int)+(m:Int))=((k+m:Nat):Int):=by rw[IntKind.wrap_i64];omega
         obtain⟨km,sA⟩:=aC (k+m);rw[sA]at e2 mg hwm JB;have lQ:=ah tu.out.2.2.2.1;have Hxa:Hid (aZ w4 go k [.slice (some ⟨g1,0,none⟩) n c1]):=λj hj=>by
          obtain rfl:j=0:=by simp at hj;omega
          exact e1
         have Hxb:Hid (aZ w4 go km [.slice (some ⟨g2,0,none⟩) n c2]):=λj hj=>by
          obtain rfl:j=0:=by simp at hj;omega
          exact e2
         have z1:w4.drew.frozen? ⟨go,k,none⟩=false:=e3 k;have z2:w4.drew.frozen? ⟨go,km,none⟩=false:=e3 km;have z3:w4.frozen? ⟨go,km,none⟩=false:=e3 km;have y2:(w4.setCell ⟨go,k,none⟩ (.slice (some ⟨g2,0,none⟩) n c2)).cell? ⟨go,km,none⟩=some (.slice (some ⟨g2,0,none⟩) n c2):=aH (.inr zp) e2;have Hkm:=ah sA;clear hsw e1 e2 e3 sA;go_wp2_with fail;have dM:=lQ.out.c1;have xa0:=Hxa.out.w1;have xb0:=Hxb.out.w1;have hgo:go<wk.heap.size:=by have:=tu.out.1.2.1.1;omega
         refine Oq (λw'=>w'.cell? ⟨wk.heap.size,0,none⟩=some (.int .i64 (k:Int))) (λi=>Nat.blt i 19) (.rd 0 (.rd 1 (.rd 2 (.rd 3 (.rd 4 (.rd 5 (.rd 6 (.rd 7 (.rd 8 (.rd 9 (.rd 10 (.rd 12 (.rd 13 (.rd 14 (.br 11 15 (.lin [(15,false),(16,true),(17,false),(18,false),(19,false)]) (.lin [(11,false),(16,true),(17,false),(18,false),(19,false)])))))))))))))))) zk zk rfl zk zc dM ?_;iterate 14 (refine Ww rfl rfl (v:=?_) (λw' hw'=>?_) ?_;rotate_left;(focus go_simp;try with_reducible rfl);try simp only[UU])
         refine Gv rfl rfl rfl rfl rfl rfl  (λK hK=>?_) (λK hK=>?_) 
         . go_simp;refine hK _ _ (by first|exact λ_=>dM|exact λ_=>fc zg dM) ?_;clear hK K;try simp only[UU]
           refine xm ?_;refine aJ rfl rfl (λK hK=>?_);go_simp;refine hK _ _ (by first|exact λh=>absurd h zd|exact λ_=>dM|exact λ_=>fc zg dM) ?_;clear hK K;try simp only[UU]
           refine pT rfl rfl ?_;try simp only[UU]
           refine aJ rfl rfl (λK hK=>?_);go_simp;refine hK _ _ (by first|exact λh=>absurd h zd|exact λ_=>dM|exact λ_=>fc zg dM) ?_;clear hK K;try simp only[UU]
           refine aJ rfl rfl (λK hK=>?_);go_simp;refine hK _ _ (by first|exact λh=>absurd h zd|exact λ_=>dM|exact λ_=>fc zg dM) ?_;clear hK K;try simp only[UU]
           refine aJ rfl rfl (λK hK=>?_);go_simp;refine hK _ _ (by first|exact λh=>absurd h zd|exact λ_=>dM|exact λ_=>fc zg dM) ?_;clear hK K;try simp only[UU]
           simp only[aU];go_wp2_with fail;go_meet;exact⟨by simp[hm],JB.out.drew⟩
         . go_simp;refine hK _ _ (by first|exact λ_=>dM|exact λ_=>fc zg dM) ?_;clear hK K;try simp only[UU]
           refine xm ?_;refine aJ rfl rfl (λK hK=>?_);go_simp;refine hK _ _ (by first|exact λh=>absurd h zd|exact λ_=>dM|exact λ_=>fc zg dM) ?_;clear hK K;try simp only[UU]
           refine pT rfl rfl ?_;try simp only[UU]
           refine aJ rfl rfl (λK hK=>?_);go_simp;refine hK _ _ (by first|exact λh=>absurd h zd|exact λ_=>dM|exact λ_=>fc zg dM) ?_;clear hK K;try simp only[UU]
           refine aJ rfl rfl (λK hK=>?_);go_simp;refine hK _ _ (by first|exact λh=>absurd h zd|exact λ_=>dM|exact λ_=>fc zg dM) ?_;clear hK K;try simp only[UU]
           refine aJ rfl rfl (λK hK=>?_);go_simp;refine hK _ _ (by first|exact λh=>absurd h zd|exact λ_=>dM|exact λ_=>fc zg dM) ?_;clear hK K;try simp only[UU]
           simp only[aU];go_wp2_with fail;go_meet;exact⟨by simp[hm],JB.out.drew⟩
       . have hm2:¬(0:Int)<(m:Int):=by omega
         obtain rfl:m=0:=by omega
         go_wp2_with fail;go_meet;refine⟨by simp,?_⟩;rw[Hg.out,ajS];exact tu.out
      case rest=>
       obtain⟨rfl,vV⟩:=hcut;have tu:=ah vV;have fx:=vC.out (k+1) (2*Q+1) zo (by have:=HQ.out;omega);clear vV;have dM:wc.cell? ⟨wk.heap.size,0,none⟩=some (.int .i64 (k:Int)):=tu.out.2.2.2.1.cell 0;go_wp2_with fail;go_loopw[8] (λx wr=>∃i:Nat,k<i/\i<=n/\x=.int .i64 (i:Int)/\BT w wr base n go cap w.heap.size (jG g k last i (k+1)) w.heap.size w1.heap.size wk.heap.size last k) (λx _=>n-(intOf x).toNat);case atStart=>exact⟨k+1,by omega,by omega,by go_num,by rw[ah3];exact tu.out⟩
       case round=>
        clear dM tu;obtain⟨i,Ci,hin,rfl,hT⟩:=hrel;have Ac:=ah hT;clear hT;have dM:wr.cell? ⟨wk.heap.size,0,none⟩=some (.int .i64 (k:Int)):=Ac.out.2.2.2.1.cell 0;by_cases bo:i<n
        . obtain⟨wi,iX⟩:∃wi,wi=wr:=⟨_,rfl⟩;subst iX;go_wp2_with fail;go_loopw[9] (λx wr=>∃j:Nat,k<j/\j<=n/\x=.int .i64 (j:Int)/\BT w wr base n go cap w.heap.size (jG g k last i j) w.heap.size w1.heap.size wk.heap.size last k) (λx _=>n-(intOf x).toNat);case atStart=>exact⟨k+1,by omega,by omega,by go_num,Ac.out⟩
          case round=>
           clear dM Ac;obtain⟨j,hkj,hjn,rfl,hT⟩:=hrel;by_cases fI:j<n
           . have xJ:=ah hT;clear hT;obtain⟨gi,ci,li,ti,ei,ri,_⟩:=xJ.out.row i bo;obtain⟨gk,ck,lk,tk,ek,rk,_⟩:=xJ.out.row k hlt;obtain⟨p1,p2,p3,p4⟩:=ahY g k last i j;obtain⟨aa,Ek⟩:=ri j fI;obtain⟨ab,En⟩:=rk k hlt;obtain⟨ac,Eo⟩:=ri k hlt;obtain⟨ad,Ep⟩:=rk j fI;rw[p1]at aa Ek;rw[p2]at ab En;rw[p3]at ac Eo;rw[p4]at ad Ep;have gT:=PC.out;have q1:=gT i j bo fI;have q2:=gT k k hlt hlt;have q3:=gT i k bo hlt;have q4:=gT k j hlt fI;obtain⟨m1,m2,m3⟩:=Na g k i j Q q1 q2 q3 q4;have lv:=YO.out i j Ci bo hkj fI;have Cn:=fun a b=>congrFun (congrFun (ahZ g k last i j Ci hkj) a) b;have hN:g i j*g k k-g i k*g k j=bX g k i j:=rfl;generalize bX g k i j=N at*;obtain⟨x1,hx1⟩:∃x,g i j=x:=⟨_,rfl⟩;obtain⟨x2,hx2⟩:∃x,g k k=x:=⟨_,rfl⟩;obtain⟨x3,hx3⟩:∃x,g i k=x:=⟨_,rfl⟩;obtain⟨x4,UT⟩:∃x,g k j=x:=⟨_,rfl⟩;rw[hx1]at q1 m1 hN aa Ek;rw[hx2]at q2 m1 hN ab En;rw[hx3]at q3 m2 hN ac Eo;rw[UT]at q4 m2 hN ad Ep;obtain⟨P1,KX⟩:∃x,x1*x2=x:=⟨_,rfl⟩;obtain⟨P2,pj⟩:∃x,x3*x4=x:=⟨_,rfl⟩;rw[KX]at m1 hN;rw[pj]at m2 hN;have L1:(nt x1.natAbs).length<=17179869184:=jm q1 zo;have L2:(nt x2.natAbs).length<=17179869184:=jm q2 zo;have L3:(nt x3.natAbs).length<=17179869184:=jm q3 zo;have L4:(nt x4.natAbs).length<=17179869184:=jm q4 zo;have L5:(nt P1.natAbs).length<=34359738368:=jm m1 zo;have L6:(nt P2.natAbs).length<=34359738368:=jm m2 zo;have L7:(nt N.natAbs).length<=34359738368:=jm m3 zo;have L8:(nt last.natAbs).length<=34359738368:=jm PI.out zo;obtain⟨js,OI,zR,OJ,OL,OM,OO,OP,cZ,dc,HN,IK⟩:=gW L1 L2 L3 L4 L5 L6 L7 L8 KX pj hN lv;have Ay:=ah Cn;clear L1 L2 L3 L4 L5 L6 L7 L8 KX pj hN lv Cn q1 q2 q3 q4 m1 m2 m3 hx1 hx2 hx3 UT gT p1 p2 p3 p4 ri rk;have Dr:∀(b o:Nat) (u v:Value),wr.cell? ⟨b,o,none⟩=some u->wr.cell? ⟨b,o+1,none⟩=some v->aZ wr b o [u,v]:=by
              intro b o u v h1 h2 j hj;rcases j with _|_|j
              . exact h1
              . exact h2
              . simp at hj;omega
             have Oo:∀(b o:Nat) (u:Value),wr.cell? ⟨b,o,none⟩=some u->aZ wr b o [u]:=by
              intro b o u h1 j hj;obtain rfl:j=0:=by simp at hj;omega
              exact h1
             obtain⟨lQ,tJ,vF,tq,jI,Iq,uX⟩:=na xJ.out.2.2.2.1 (Oo _ _ _ ei) (Oo _ _ _ ek) (Dr _ _ _ _ aa Ek) (Dr _ _ _ _ ab En) (Dr _ _ _ _ ac Eo) (Dr _ _ _ _ ad Ep);clear Oo Dr ei ek aa Ek ab En ac Eo ad Ep;have ixi:=yJ n cap i (i:Int) (rfl:(some ⟨go,0,none⟩:Option Addr)=_) bo rfl;have Vn:=yJ n cap k (k:Int) (rfl:(some ⟨go,0,none⟩:Option Addr)=_) hlt rfl;rw[Nat.zero_add,Nat.mul_one]at ixi Vn;have FY:=sL n ci j (j:Int) (rfl:(some ⟨gi,0,none⟩:Option Addr)=_) fI rfl;have Vj:=sL n ci k (k:Int) (rfl:(some ⟨gi,0,none⟩:Option Addr)=_) hlt rfl;have Vk:=sL n ck j (j:Int) (rfl:(some ⟨gk,0,none⟩:Option Addr)=_) fI rfl;have Vl:=sL n ck k (k:Int) (rfl:(some ⟨gk,0,none⟩:Option Addr)=_) hlt rfl;rw[Nat.zero_add]at FY Vj Vk Vl;go_upto_region 18 with fail
             go_cut[10] (λxu wx=>∃b:Nat,xu=.pointer (some ⟨b,0,none⟩)/\ai wx b 28 [.bool (au N),.string (bs (nt N.natAbs))]/\Bw wr wx);case first=>
              clear PC HQ PI PE JA Hg Pe Pr Ay IK DW xJ;obtain⟨w0,hw0⟩:∃w0,w0=w:=⟨_,rfl⟩;subst hw0;obtain⟨w,Ms⟩:∃w,w=wr:=⟨_,rfl⟩;subst Ms;have Hb:Hid (Bw w w):=Below.refl _ _;have dM:=lQ.out.c1;have pR:=tJ.out.w1;have uS:=vF.out.w1;obtain⟨El,Em⟩:=tq.out.w2;obtain⟨tL,tM⟩:=jI.out.w2;obtain⟨ac0,ac1⟩:=Iq.out.w2;obtain⟨ad0,ad1⟩:=uX.out.w2;obtain⟨cs,hcs⟩:∃cs:List (Addr×Value),[(⟨wk.heap.size,0,none⟩,.int .i64 (k:Int)),(⟨go,i,none⟩,.slice (some ⟨gi,0,none⟩) n ci),(⟨go,k,none⟩,.slice (some ⟨gk,0,none⟩) n ck),(⟨gi,j*2,none⟩,.bool (au x1)),(⟨gi,j*2+1,none⟩,.string (bs (nt x1.natAbs))),(⟨gk,k*2,none⟩,.bool (au x2)),(⟨gk,k*2+1,none⟩,.string (bs (nt x2.natAbs))),(⟨gi,k*2,none⟩,.bool (au x3)),(⟨gi,k*2+1,none⟩,.string (bs (nt x3.natAbs))),(⟨gk,j*2,none⟩,.bool (au x4)),(⟨gk,j*2+1,none⟩,.string (bs (nt x4.natAbs)))]=cs:=⟨_,rfl⟩;have rB:∀w',iL cs w'->w'.cell? ⟨wk.heap.size,0,none⟩=some (.int .i64 (k:Int))/\w'.cell? ⟨go,i,none⟩=some (.slice (some ⟨gi,0,none⟩) n ci)/\w'.cell? ⟨go,k,none⟩=some (.slice (some ⟨gk,0,none⟩) n ck)/\w'.cell? ⟨gi,j*2,none⟩=some (.bool (au x1))/\w'.cell? ⟨gi,j*2+1,none⟩=some (.string (bs (nt x1.natAbs)))/\w'.cell? ⟨gk,k*2,none⟩=some (.bool (au x2))/\w'.cell? ⟨gk,k*2+1,none⟩=some (.string (bs (nt x2.natAbs)))/\w'.cell? ⟨gi,k*2,none⟩=some (.bool (au x3))/\w'.cell? ⟨gi,k*2+1,none⟩=some (.string (bs (nt x3.natAbs)))/\w'.cell? ⟨gk,j*2,none⟩=some (.bool (au x4))/\w'.cell? ⟨gk,j*2+1,none⟩=some (.string (bs (nt x4.natAbs))):=by subst hcs;intro w' h;exact⟨h.hd,h.tl.hd,h.tl.tl.hd,h.tl.tl.tl.hd,h.tl.tl.tl.tl.hd,h.tl.tl.tl.tl.tl.hd,h.tl.tl.tl.tl.tl.tl.hd,h.tl.tl.tl.tl.tl.tl.tl.hd,h.tl.tl.tl.tl.tl.tl.tl.tl.hd,h.tl.tl.tl.tl.tl.tl.tl.tl.tl.hd,h.tl.tl.tl.tl.tl.tl.tl.tl.tl.tl.hd⟩
              have bJ:Hid (iL cs w):=by subst hcs;show iL _ _;intro p hp;simp only[List.mem_cons,List.not_mem_nil,or_false]at hp;rcases hp with rfl|rfl|rfl|rfl|rfl|rfl|rfl|rfl|rfl|rfl|rfl<;>assumption
              refine akM (λw'=>iL cs w') (λi=>Nat.blt i 34) [14,15,30,31,32,33] (λk=>if k=15 then[14]else if k=31 then[15,30]else if k=32 then[15,31]else[]) [(34,false)] [0,1,2,3,4,5,6,7,8,9,10,11,12,13,16,17,18,19,20,21,22,23,24,25,26,27,28,29] zk zk rfl zk zc bJ.out.drew ?_;iterate 28 (refine aih rfl rfl (v:=?_) (λw' hw'=>?_) ?_;rotate_left;(focus have hw':=rB w' hw';obtain⟨q0,q1,q2,q3,q4,q5,q6,q7,q8,q9,uL⟩:=hw';go_simp;try with_reducible rfl);try simp only[UU])
              clear dM pR uS El Em tL tM ac0 ac1 ad0 ad1 lQ tJ vF tq jI Iq uX rB hcs;refine aig (λa0=>Ei a0 w cs x1 x2 x3 x4 P1 P2 N) (Ei.init _ _ _ _ _ _ _ _ _ _ _ bJ.out.drew (Below.refl _ _).drew) ?_ ?_ ?_
              . rintro dn a' w' ⟨_,_,_,_,_,_,_,h,_⟩;exact h
              . intro k0 jU dn a' w' _ hD hI;obtain⟨v1,v2,v3,v4,v5,v6,rfl,rV,rT,f1,f2,f3,f4,f5,f6⟩:=hI;simp only[List.mem_cons,List.not_mem_nil,or_false]at jU;rcases jU with rfl|rfl|rfl|rfl|rfl|rfl
                . have yo:=rV.alloc (.cells #[.bool (au x1),.string (bs (nt x1.natAbs)),.bool (au x2),.string (bs (nt x2.natAbs))] 28);have hal:=(Below.refl w'.heap.size w').alloc (Nat.le_refl _) (.cells #[.bool (au x1),.string (bs (nt x1.natAbs)),.bool (au x2),.string (bs (nt x2.natAbs))] 28);refine yZ rfl rfl (λK hK=>?_);clear f1;simp only[Act.put,U1,U2,U3];go_simp;refine hK _ _ ⟨.slice (some ⟨w'.heap.size,0,none⟩) 2 2,v2,v3,v4,v5,v6,by simp only[Act.put,U1,U2,U3],yo,aK rT hal,λ_=>⟨_,rfl,ai.new _ _ _⟩,λh=>f2 (by simpa using h),λh=>?_,λh=>f4 (by simpa using h),λh=>f5 (by simpa using h),λh=>?_⟩
                  . obtain⟨b,e,q⟩:=f3 (by simpa using h);exact⟨b,e,q.below hal⟩
                  . obtain⟨b,e,hb,q⟩:=f6 (by simpa using h);exact⟨b,e,hb,q.below hal⟩
                . obtain⟨b,rfl,q⟩:=f1 (hD 14 zm);refine yZ rfl rfl (λK hK=>?_);clear f1;simp only[Act.put,U1,U2,U3];go_simp;with_reducible refine(XG x1 x2 P1 cZ.out b 2 _ _ js.out OI.out q).mono ?_
                  rintro e w2 ⟨rfl,hq⟩;refine hK _ _ ⟨_,cB P1,v3,v4,v5,v6,by simp only[Act.put,U1,U2,U3],rV.below hq,aK rT hq,λ_=>⟨b,rfl,q.below hq⟩,λ_=>rfl,λh=>?_,λh=>f4 (by simpa using h),λh=>f5 (by simpa using h),λh=>?_⟩
                  . obtain⟨b,e,q⟩:=f3 (by simpa using h);exact⟨b,e,q.below hq⟩
                  . obtain⟨b,e,hb,q⟩:=f6 (by simpa using h);exact⟨b,e,hb,q.below hq⟩
                . have yo:=rV.alloc (.cells #[.bool (au x3),.string (bs (nt x3.natAbs)),.bool (au x4),.string (bs (nt x4.natAbs))] 28);have hal:=(Below.refl w'.heap.size w').alloc (Nat.le_refl _) (.cells #[.bool (au x3),.string (bs (nt x3.natAbs)),.bool (au x4),.string (bs (nt x4.natAbs))] 28);refine yZ rfl rfl (λK hK=>?_);clear f3;simp only[Act.put,U1,U2,U3];go_simp;refine hK _ _ ⟨v1,v2,.slice (some ⟨w'.heap.size,0,none⟩) 2 2,v4,v5,v6,by simp only[Act.put,U1,U2,U3],yo,aK rT hal,λh=>?_,λh=>f2 (by simpa using h),λ_=>⟨_,rfl,ai.new _ _ _⟩,λh=>f4 (by simpa using h),λh=>f5 (by simpa using h),λh=>?_⟩
                  . obtain⟨b,e,q⟩:=f1 (by simpa using h);exact⟨b,e,q.below hal⟩
                  . obtain⟨b,e,hb,q⟩:=f6 (by simpa using h);exact⟨b,e,hb,q.below hal⟩
                . obtain⟨b,rfl,q⟩:=f3 (hD 30 zm);obtain rfl:=f2 (hD 15 zm);refine yZ rfl rfl (λK hK=>?_);clear f3;simp only[Act.put,U1,U2,U3];go_simp;with_reducible refine(XG x3 x4 P2 dc.out b 2 _ _ zR.out OJ.out q).mono ?_
                  rintro e w2 ⟨rfl,hq⟩;refine hK _ _ ⟨v1,cB P1,.slice (some ⟨b,0,none⟩) 2 2,cB P2,v5,v6,by simp only[Act.put,U1,U2,U3],rV.below hq,aK rT hq,λh=>?_,λ_=>rfl,λ_=>⟨b,rfl,q.below hq⟩,λ_=>rfl,λh=>f5 (by simpa using h),λh=>?_⟩
                  . obtain⟨b,e,q⟩:=f1 (by simpa using h);exact⟨b,e,q.below hq⟩
                  . obtain⟨b,e,hb,q⟩:=f6 (by simpa using h);exact⟨b,e,hb,q.below hq⟩
                . obtain rfl:=f2 (hD 15 zm);obtain rfl:=f4 (hD 31 zm);refine yZ rfl rfl (λK hK=>?_);clear f2 f4;simp only[Act.put,U1,U2,U3];go_simp;with_reducible refine(akz P1 P2 N HN.out _ OL.out OM.out).mono ?_
                  rintro e w2 ⟨rfl,hq⟩;refine hK _ _ ⟨v1,_,v3,_,cB N,v6,by simp only[Act.put,U1,U2,U3],rV.below hq,aK rT hq,λh=>?_,λ_=>rfl,λh=>?_,λ_=>rfl,λ_=>rfl,λh=>?_⟩
                  . obtain⟨b,e,q⟩:=f1 (by simpa using h);exact⟨b,e,q.below hq⟩
                  . obtain⟨b,e,q⟩:=f3 (by simpa using h);exact⟨b,e,q.below hq⟩
                  . obtain⟨b,e,hb,q⟩:=f6 (by simpa using h);exact⟨b,e,hb,q.below hq⟩
                . have yo:=rV.alloc (.cells #[.bool false,.string ⟨#[]⟩] 28);have hal:=(Below.refl w'.heap.size w').alloc (Nat.le_refl _) (.cells #[.bool false,.string ⟨#[]⟩] 28);refine yZ rfl rfl (λK hK=>?_);clear f6;simp only[Act.put,U1,U2,U3];go_simp;refine hK _ _ ⟨v1,v2,v3,v4,v5,.pointer (some ⟨w'.heap.size,0,none⟩),by simp only[Act.put,U1,U2,U3],yo,aK rT hal,λh=>?_,λh=>f2 (by simpa using h),λh=>?_,λh=>f4 (by simpa using h),λh=>f5 (by simpa using h),λ_=>⟨_,rfl,rT.size,ai.new _ _ _⟩⟩
                  . obtain⟨b,e,q⟩:=f1 (by simpa using h);exact⟨b,e,q.below hal⟩
                  . obtain⟨b,e,q⟩:=f3 (by simpa using h);exact⟨b,e,q.below hal⟩
              . intro dn a' w' hall hI;obtain⟨v1,v2,v3,v4,v5,v6,rfl,rV,rT,f1,f2,f3,f4,f5,f6⟩:=hI;obtain rfl:=f5 (hall 32 zm);obtain⟨b,rfl,hb,q⟩:=f6 (hall 33 zm);obtain⟨qT,alv,qU,alx⟩:=q.g2;have hQ9:=(q.set 0 (.bool (au N))).set 1 (.string (bs (nt N.natAbs)));have hB9:=(rT.sc b 0 hb (.bool (au N))).sc b 1 hb (.string (bs (nt N.natAbs)));clear f1 f2 f3 f4 f5 f6;refine aJ rfl rfl (λK hK=>?_);simp only[Act.put,U1,U2,U3];go_simp;refine hK _ _ (λh=>absurd h zd) ?_;clear hK K;simp only[aU];go_wp2_with fail;go_meet;exact⟨b,rfl,hQ9,hB9⟩
             case rest=>
              obtain⟨bx,rfl,qx,qb⟩:=hcut;obtain⟨Ad,Ax⟩:=aM (xJ.out.below qb) qx;clear qx qb xJ lQ tJ vF tq jI Iq uX Vn Vj Vk Vl FY js OI zR OJ OL OM cZ dc HN li lk ti tk;obtain⟨g9,c9,lt9,lu9,e9,r9,f9⟩:=Ad.out.aoq i bo;have ne9:=Ad.out.1.row_ne i bo e9;have nx9:bx≠g9:=by rintro rfl;have h1:=(r9 1 zo).1;rw[Ax.out.cell]at h1;simp at h1
              obtain⟨Nu,Nv⟩:=r9 j fI;obtain⟨y,hy⟩:=aC (jG g k last i j i j);rw[hy]at Nu Nv;have tJ:Hid (aZ wc go i [.slice (some ⟨g9,0,none⟩) n c9]):=λj hj=>by
               obtain rfl:j=0:=by simp at hj;omega
               exact e9
              have tq:Hid (aZ wc g9 (j*2) [.bool (au y),.string (bs (nt y.natAbs))]):=λj' hj=>by
               rcases j' with _|_|j'
               . exact Nu
               . exact Nv
               . simp at hj;omega
              have Hl:=ah Ad.out.2.2.1;have FY:=sL n c9 j (j:Int) (rfl:(some ⟨g9,0,none⟩:Option Addr)=_) fI rfl;rw[Nat.zero_add]at FY;obtain⟨Dv,KP⟩:=aC (N/last);have Ti:Calls Tryz.prog 128 #[.agg #[.bool (au N),.string (bs (nt N.natAbs))],.agg #[.bool (au last),.string (bs (nt last.natAbs))]] wc.drew λe w'=>∃r,e=.returned (.tuple #[cB Dv,r,.bool true])/\(w'.frozen? ⟨g9,j*2,none⟩=false/\w'.frozen? ⟨g9,j*2+1,none⟩=false)/\Below wc.drew.heap.size wc.drew w':=
               (aku N last wc.drew OO.out OP.out nE.out IK.out).mono (λe w' ⟨r,he,hb⟩=>⟨r,by rw[he,KP],⟨(f9 w' (aO hb)).1 _,(f9 w' (aO hb)).1 _⟩,hb⟩)
              obtain⟨YR,YK,GW⟩:=cH f9 Ti KP;clear Nu Nv hy e9 r9 f9 Ti KP OO OP IK;have Hb:Hid (Bw wc wc):=Below.refl _ _;go_wp2_with fail;have pR:=tJ.out.w1;obtain⟨El,Em⟩:=tq.out.w2;obtain⟨qT,qU⟩:=Ax.out.c2;obtain⟨l0,l1⟩:=Hl.out.c2;refine bD (λw'=>w'.cell? ⟨go,i,none⟩=some (.slice (some ⟨g9,0,none⟩) n c9)/\w'.cell? ⟨bx,0,none⟩=some (.bool (au N))/\w'.cell? ⟨bx,1,none⟩=some (.string (bs (nt N.natAbs)))/\w'.cell? ⟨w1.heap.size,0,none⟩=some (.bool (au last))/\w'.cell? ⟨w1.heap.size,1,none⟩=some (.string (bs (nt last.natAbs)))) (λi=>Nat.blt i 100000) [(0,true),(1,true),(2,true),(3,true),(4,true),(5,true),(6,true),(7,false),(8,true),(9,true),(10,true),(11,true),(12,true),(13,false)] zk zk rfl zk zc ⟨pR,qT,qU,l0,l1⟩ ?_;iterate 7 (refine pT rfl rfl ?_ (by intro w' ⟨q0,q1,q2,q3,q4⟩;go_simp;try with_reducible rfl);try simp only[UU])
              refine aJ rfl rfl (λK hK=>?_);go_simp;with_reducible refine(YK.out).mono ?_
              rintro e w5 ⟨rr,rfl,⟨z0,z1⟩,hq⟩;have ae:Bw wc w5:=by first|exact hq|exact aO hq
              clear pR El Em qT qU l0 l1;replace tJ:=kW tJ ae;replace tq:=kW tq ae;replace Ax:=kB Ax ae;replace Hl:=kB Hl ae;have pR:=tJ.out.w1;obtain⟨El,Em⟩:=tq.out.w2;obtain⟨qT,qU⟩:=Ax.out.c2;obtain⟨l0,l1⟩:=Hl.out.c2;replace Hb:=az Hb ae;clear ae;refine hK _ _ (λ_=>⟨pR,qT,qU,l0,l1⟩) ?_;clear hK K;try simp only[UU]
              iterate 5 (refine pT rfl rfl ?_;try simp only[UU])
              refine aJ rfl rfl (λK hK=>?_);go_simp;refine hK _ _ (by first|exact λh=>absurd h zd|exact λ_=>⟨pR,qT,qU,l0,l1⟩ |exact λ_=>⟨(by first|exact pR|exact aH zf pR|exact aH zf (aH zf pR) |exact aH zf (aH zf (aH zf pR))),(by first|exact qT|exact aH zf qT|exact aH zf (aH zf qT) |exact aH zf (aH zf (aH zf qT))),(by first|exact qU|exact aH zf qU|exact aH zf (aH zf qU) |exact aH zf (aH zf (aH zf qU))),(by first|exact l0|exact aH zf l0|exact aH zf (aH zf l0) |exact aH zf (aH zf (aH zf l0))),(by first|exact l1|exact aH zf l1|exact aH zf (aH zf l1) |exact aH zf (aH zf (aH zf l1)))⟩) ?_;clear hK K;try simp only[UU]
              simp only[aU];go_wp2;go_roundw;case rel=>have h9:=(YR.out w5 Hb.out).2 j fI Dv;rw[<-GW.out]at h9;exact⟨j+1,by omega,by omega,by go_num,by rw[GW.out]at h9;exact h9.congr (λa b _ _=>by rw[<-GW.out];exact Ay.out a b)⟩
              case measure=>simp[intOf];omega
           . obtain rfl:j=n:=by omega
             have HT:=ah hT;clear hT;go_wp2;go_roundw;case rel=>exact⟨i+1,by omega,by omega,by go_num,HT.out.congr (λa b _ hb=>ah0 g k last i j a b hb)⟩
             case measure=>simp[intOf];omega
        . obtain rfl:i=n:=by omega
          have hT:=Ac.out.congr (λa b ha _=>ahX g k last i a b ha);obtain⟨gk,ck,lk,tk,ek,rk,_⟩:=hT.row k hlt;have e1:dh g k last k k=g k k:=by unfold dh;rw[if_neg zo]
          obtain⟨EO,EP⟩:=rk k hlt;rw[e1]at EO EP;obtain⟨x,hx⟩:=aC (g k k);have oc:=DW.out;have hg2:=PE.out;have Hn:Hid (∃Q,Q+1<=2^(k+1) * (K+1)/\x.natAbs<2^Q/\∀a b,a<i->b<i->(dh g k last a b).natAbs<2^Q):=⟨2*Q+1,by have:=HQ.out;omega,by rw[<-hx];exact hg2,JA.out⟩;have IL:=Pr.out;have Ix:=Pe.out;rw[hx]at EO EP oc IL Ix;obtain⟨Ya,XY⟩:=aM IL Ix;have hLK:w1.heap.size<wk.heap.size:=by have:=agJ;omega
          obtain⟨rL,Hl⟩:=aM (hT.setLast x zo zo) hT.2.2.1;have TH:=yJ i cap k (k:Int) (rfl:(some ⟨go,0,none⟩:Option Addr)=_) hlt rfl;have ae9:=sL i ck k (k:Int) (rfl:(some ⟨gk,0,none⟩:Option Addr)=_) hlt rfl;rw[Nat.zero_add]at TH ae9;rw[Nat.mul_one]at TH;have lQ:=ah hT.2.2.2.1;have vF:Hid (aZ wr go k [.slice (some ⟨gk,0,none⟩) i ck]):=λj hj=>by
           obtain rfl:j=0:=by simp at hj;omega
           exact ek
          have jI:Hid (aZ wr gk (k*2) [.bool (au x),.string (bs (nt x.natAbs))]):=λj hj=>by
           rcases j with _|_|j
           . exact EO
           . exact EP
           . simp at hj;omega
          have Hhx:=ah hx;clear hT rk ek EO EP e1 hg2 IL Ix dM hx Ac;go_wp2_with fail;have dM:=lQ.out.c1;have uS:=vF.out.w1;obtain⟨tL,tM⟩:=jI.out.w2;obtain⟨l0,oW,l1,oX⟩:=Hl.out.g2;refine bD (λw'=>w'.cell? ⟨wk.heap.size,0,none⟩=some (.int .i64 (k:Int))/\w'.cell? ⟨go,k,none⟩=some (.slice (some ⟨gk,0,none⟩) i ck)/\w'.cell? ⟨gk,k*2,none⟩=some (.bool (au x))/\w'.cell? ⟨gk,k*2+1,none⟩=some (.string (bs (nt x.natAbs)))) (λi=>Nat.blt i 7) [(0,true),(1,true),(2,true),(3,true),(4,true),(5,true),(6,true),(7,false)] zk zk rfl zk zc ⟨dM,uS,tL,tM⟩ ?_;iterate 7 (refine pT rfl rfl ?_ (by intro w' ⟨q0,q1,q2,q3⟩;go_simp;try with_reducible rfl);try simp only[UU])
          refine aJ rfl rfl (λK hK=>?_);go_simp;refine hK _ _ (by first|exact λh=>absurd h zd|exact λ_=>⟨dM,uS,tL,tM⟩ |exact λ_=>⟨(by first|exact dM|exact aH zf dM|exact aH zf (aH zf dM) |exact aH zf (aH zf (aH zf dM))),(by first|exact uS|exact aH zf uS|exact aH zf (aH zf uS) |exact aH zf (aH zf (aH zf uS))),(by first|exact tL|exact aH zf tL|exact aH zf (aH zf tL) |exact aH zf (aH zf (aH zf tL))),(by first|exact tM|exact aH zf tM|exact aH zf (aH zf tM) |exact aH zf (aH zf (aH zf tM)))⟩) ?_;clear hK K;try simp only[UU]
          simp only[aU];go_wp2;go_roundw;case rel=>exact⟨k+1,dh g k last,x,_,by omega,by go_num,rfl,Bs.next rL.out.drew (λ_ _ _ _=>rfl) oc Ya.out XY.out Hn.out⟩
          case measure=>simp[intOf];omega
  . obtain rfl:k=n:=by omega
    obtain⟨q1,q2,q3,_,q5,_,Q,hQ,Ck,_⟩:=hS;have fx:=vC.out k Q (Nat.le_refl _) hQ;have hll:(nt last.natAbs).length<=1099511627776:=jm Ck zo;rw[Nat.sub_self]at q5;unfold eD at q5;obtain⟨Hr,Hl,Hq,HZ,Zw⟩:=fp q2 q3 q1 q5 hll;clear q1 q2 q3 q5 hQ Ck hll fx;have Hb:Hid (Bw wk wk):=Below.refl _ _;obtain⟨r0,aj,r1,ar⟩:=Hr.out.g2;obtain⟨l0,oW,l1,oX⟩:=Hl.out.g2;have yw:=Hq.out.2.2.1;cases t with
    | false=>
      have Hz:Hid (last=Z):=by have hz:=HZ.out;simp only[Bool.false_eq_true,if_false]at hz;exact hz
      go_wp2;refine bodyPost_ret (v:=.agg #[.bool (au last),.string (bs (nt last.natAbs))]) (by simp[results,Tryz.results88,go_sem,r0,r1]) rfl ⟨by rw[Hz.out],?_⟩;exact(yw.setCell zp _).setCell zp _
    | true=>
      have Hz:Hid (-last=Z):=by have hz:=HZ.out;simp only[if_true]at hz;exact hz
      have hneg:∀W,Calls Tryz.prog 107 #[.agg #[.bool (au last),.string (bs (nt last.natAbs))]] W λe w'=>e=.returned (cB (-last))/\Bw W w':=λW=>by have:=XI (au last) (nt last.natAbs) W Zw.out;rw[eV]at this;exact this
      go_wp2_with fail;refine(hneg _).mono ?_;rintro e w4 ⟨rfl,ae⟩;clear r0 aj r1 ar l0 oW l1 oX;replace Hr:=kB Hr ae;replace Hl:=kB Hl ae;obtain⟨r0,aj,r1,ar⟩:=Hr.out.g2;obtain⟨l0,oW,l1,oX⟩:=Hl.out.g2;replace Hb:=az Hb ae;clear ae hneg;go_wp2;refine bodyPost_ret (v:=.agg #[.bool (au (-last)),.string (bs (nt (-last).natAbs))]) (by simp[results,Tryz.results88,go_sem,r0,r1]) rfl ⟨by rw[Hz.out],?_⟩;exact((yw.trans (Hb.out.mono (by have:=Hq.out.2.2.2;omega))).setCell zp _).setCell zp _
theorem abM (n l k:Nat)(f:Nat->Nat->Int)(last:Int)(t:Bool)(Q:Nat)(hk:k+l=n)(hl:last.natAbs<2^Q)(hf:∀a b,a<n->b<n->(f a b).natAbs<2^Q)(hex:fP n l k f last):(eD n l k f last t).natAbs<2^(2^l* (Q+1)):=by
 induction l generalizing k f last t Q with
 | zero=>
   unfold eD;have h1:2^Q<=2^(2^0* (Q+1)):=Nat.pow_le_pow_right zd zm;split
   . rw[Int.natAbs_neg];omega
   . omega
 | succ l ih=>
   unfold eD;unfold fP at hex;cases hp:nj f n k with
   |none=>exact Nat.pow_pos zd
   | some m=>
     rw[hp]at hex;simp only at hex⊢;have Cu:=ke hp;obtain⟨g,hg⟩:∃g,g=bQ f k (k+m):=⟨_,rfl⟩;rw[<-hg]at hex⊢;have hkn:k<n:=by omega
     have gT:∀a b,a<n->b<n->(g a b).natAbs<2^Q:=by
      intro a b ha hb;rw[hg];unfold bQ;refine hf _ _ ?_ hb;split
      . omega
      . split
        . omega
        . exact ha
     have BH:2^Q<=2^(2*Q+1):=Nat.pow_le_pow_right zd zo;have e:2^(l+1) * (Q+1)=2^l* (2*Q+1+1):=by rw[Nat.pow_succ,Nat.mul_assoc];congr 1
     rw[e];refine ih (k+1) _ _ _ (2*Q+1) zo (Nat.lt_of_lt_of_le (gT k k hkn hkn) BH) (λa b ha hb=>?_) hex.2;unfold dh;split
     . rename_i h4
       have h5:=(Na g k a b Q (gT a b ha hb) (gT k k hkn hkn) (gT a k ha hkn) (gT k b hkn hb)).2.2;rcases div_lt _ last _ h5 with h6|h6
       . exact h6
       . exact absurd (hex.1 a b h4.1 ha h4.2 hb) h6
     . exact Nat.lt_of_lt_of_le (gT a b ha hb) BH
def bZ (D:List (List Dyadic))(i j:Nat):Dyadic:=(D.getD i []).getD j 0
theorem aj2 (D:List (List Dyadic))(n:Nat)(g:Dyadic->Int)(hl:D.length=n)(hr:∀r∈D,r.length=n):(D.map λr=>r.map g)=ez (λi j=>g (bZ D i j)) n:=by
 apply List.ext_getElem
 . simp[ez,hl]
 . intro i h1 h2;have hi:i<D.length:=by simpa using h1
   have hri:=hr _ (List.getElem_mem hi);apply List.ext_getElem
   . simp[ez,hri]
   . intro j h3 h4;have hj:j<D[i].length:=by simpa using h3
     simp[ez,bZ,List.getD_eq_getElem?_getD,hi,hj]
theorem Rv {D:List (List Dyadic)}{n i j:Nat}(hl:D.length=n)(hr:∀r∈D,r.length=n)(hi:i<n)(hj:j<n):∃r∈D,bZ D i j∈r:=by
 have h1:i<D.length:=by omega
 have h2:j<D[i].length:=by rw[hr _ (List.getElem_mem h1)];exact hj
 refine⟨D[i],List.getElem_mem h1,?_⟩;have:bZ D i j=D[i][j]:=by simp[bZ,List.getD_eq_getElem?_getD,h1,h2]
 rw[this];exact List.getElem_mem h2
theorem Ko (a:Option Addr)(cap n:Nat)(rows:List (List Raw))(B:Nat)(D:List (List Dyadic))(X:Dyadic)(w:World)(hn:1<=n)(cd:n<=4)(hL:rows.length=n)(hrow:∀r∈rows,r.length=n)(ha:aX w a rows)
 (hfit:∀r∈rows,∀c∈r,Fit B c) (bK:1<=B) (hB:B<=1000000) (hT:aF w) (hD:(rows.map λr=>r.map aB)=D) (hX:dY n (bZ D)=X):
 Calls Tryz.prog 45 #[.slice a n cap] w λe w'=>e=.returned (.tuple #[bC X,.int .i64 0])/\Bw w w':=by
 obtain⟨low,ji⟩:=aC (kG 0 D);have hDl:D.length=n:=by rw[<-hD];simp[hL]
 have Fa:∀r∈D,r.length=n:=by intro r hr;rw[<-hD]at hr;obtain⟨x,hx,rfl⟩:=List.mem_map.1 hr;simpa using hrow x hx
 have gS:∀r∈D,∀d∈r,Sm B d:=by intro r hr d hd;rw[<-hD]at hr;obtain⟨x,hx,rfl⟩:=List.mem_map.1 hr;obtain⟨y,hy,rfl⟩:=List.mem_map.1 hd;exact(hfit x hx y hy).2
 have hlo:=MJ 0 D;rw[ji]at hlo;have hlb: -(B:Int)<=low:=by rw[<-ji];exact MI 0 D _ zo (λr hr d hd=>(gS r hr d hd).parts.2.1)
 obtain⟨f,hf⟩:∃f:Nat->Nat->Int,f=λi j=>oG low (bZ D i j):=⟨_,rfl⟩;have oh:(D.map λr=>r.map (oG low))=ez f n:=by rw[hf];exact aj2 D n (oG low) hDl Fa
 have hK:∀a b,a<n->b<n->(f a b).natAbs<2^(4*B):=by
  intro i j hi hj;obtain⟨r,hr,hm⟩:=Rv hDl Fa hi hj;obtain⟨s1,s2,s3⟩:=(gS r hr _ hm).parts;rw[hf];show(oG low (bZ D i j)).natAbs<_
  unfold oG;rw[Int.natAbs_mul,Int.natAbs_pow,show 4*B=2*B+2*B by omega,Nat.pow_add];exact Nat.lt_of_lt_of_le (Nat.mul_lt_mul_of_pos_right s1 (Nat.pow_pos zd)) (Nat.mul_le_mul_left _ (Nat.pow_le_pow_right zd zo))
 have hent:∀i j,i<n->j<n->bZ D i j=Dyadic.ofIntWithPrec (f i j) (-low):=by intro i j hi hj;obtain⟨r,hr,hm⟩:=Rv hDl Fa hi hj;rw[hf];exact(ajw low _ (hlo.2 r hr _ hm)).symm
 have mf:=adj n hn cd f (bZ D) (-low) hent;have hex:=Rx n hn cd f;have hzl:=abM n n 0 f 1 false (4*B) zo (Nat.one_lt_two_pow zo) hK hex;obtain⟨z,hz⟩:=aC (eD n n 0 f 1 false);rw[hz]at hzl mf;have Va:(nt z.natAbs).length<=34359738368:=by refine jm hzl ?_;have:2^n<=2^4:=Nat.pow_le_pow_right zd cd;have:=Nat.mul_le_mul_right (4*B+1) this;omega
 obtain⟨e,he⟩:∃e:Int,low*n=e:=⟨_,rfl⟩;have heb: -4000000<=e/\e<=4000000:=by
  have hl0:=hlo.1;have hc:n=1\/n=2\/n=3\/n=4:=by omega
  rcases hc with rfl|rfl|rfl|rfl<;>omega
 have lv:aB (au z,nt z.natAbs,e)=X:=by
  rw[<-hX,mf];show Dyadic.ofIntWithPrec (iv (au z) (nt z.natAbs)) (-e)=_
  rw[eV,<-he];congr 1;rw[Int.mul_comm,Int.mul_neg]
 obtain⟨nl,hnl⟩:=aC (-low);have hw1:IntKind.i64.wrap (-nl)=low:=by rw[IntKind.wrap_i64];have:=hlo.1;omega
 have hw2:IntKind.i64.wrap (low* (n:Int))=e:=by rw[he,IntKind.wrap_i64];omega
 have hm0:sN rows=0:=by
  unfold sN;rw[if_neg];rintro(h|h)
  . omega
  . rw[List.any_eq_true]at h;obtain⟨r,hr,h⟩:=h;have:=hrow r hr;simp at h;omega
 have hch:=λW=>λ(h:aX W a rows)=>MN a n cap rows W hL zo h;rw[hm0]at hch;have hsc:=λW=>λ(h:aX W a rows) (hT:aF W)=>Xb a n cap n rows B low W hL zo zo hrow h hfit zo hT (by rw[hD];exact ji);rw[hD,oh,hnl]at hsc;have hbr:=λv W base=>λ(h:iz W base n (ez f n) n v) (h2:base<=W.heap.size)=>abP base n (4*B) f v W hn cd h h2 zo hK zo;rw[hz]at hbr;have hmk:=λW=>λ(hT:aF W)=>uB (au z) (nt z.natAbs) e X lv W Va zo hT;obtain⟨IC,jc,rC,rK,Ha,HT⟩:=gJ hch hsc hbr hmk ha hT;clear hch hsc hbr hmk ha hT hm0 lv heb he Va hz hzl hex mf hent hK oh hf hlb hlo gS Fa hDl ji hD hX hfit hrow hL hnl;have Hb:Hid (Bw w w):=Below.refl _ _;go_enter Tryz.func45,Tryz.ntmps45;go_wp2_with fail;obtain⟨R,hR⟩:∃R:World->Prop,(λW=>ai W (w.heap.size) 30 [.bool false,.string ⟨#[]⟩,.int .i64 0]/\Bw w W)=R:=⟨_,rfl⟩;first|refine bG R ?hR ?_|refine bF R ?hR ?_
 case hR=>subst hR;exact⟨(ai.newAt w _ _ (b:=w.heap.size) rfl),zl⟩
 subst hR;rintro W ⟨qr,ae⟩;have Hr:=ah qr;clear qr;obtain⟨r0,aj,r1,ar,r2,aG⟩:=Hr.out.g3;replace Hb:=az Hb ae;clear ae;have HA:Hid (aX W a rows):=Ha.out.below Hb.out;have HU:Hid (aF W):=HT.out.below Hb.out;go_wp2_with fail;refine(IC.out _ HA.out).mono ?_;rintro e w1 ⟨rfl,ae⟩;clear r0 aj r1 ar r2 aG;replace Hr:=kB Hr ae;replace HA:=kL HA ae;replace HU:=kT HU ae;obtain⟨r0,aj,r1,ar,r2,aG⟩:=Hr.out.g3;replace Hb:=az Hb ae;clear ae;go_wp2_with fail;refine(jc.out _ HA.out HU.out).mono ?_;rintro e' w2 ⟨v,rfl,hO,hb2⟩;have HO:=ah hO;have zE:=hb2.size;clear hO;go_wp2_with fail;refine(rC.out v w2 w1.heap.size HO.out zE).mono ?_;rintro e' w3 ⟨rfl,hb3⟩;have hb4:=hb2.trans hb3;clear hb2 hb3 HO r0 aj r1 ar r2 aG;replace Hr:=kB Hr hb4;replace HA:=kL HA hb4;replace HU:=kT HU hb4;obtain⟨r0,aj,r1,ar,r2,aG⟩:=Hr.out.g3;replace Hb:=ah (aK Hb.out hb4);clear hb4;go_wp2_with fail;refine(rK.out _ HU.out).mono ?_;rintro e w4 ⟨rfl,ae⟩;clear r0 aj r1 ar r2 aG;replace Hr:=kB Hr ae;replace HA:=kL HA ae;replace HU:=kT HU ae;obtain⟨r0,aj,r1,ar,r2,aG⟩:=Hr.out.g3;replace Hb:=az Hb ae;clear ae;go_wp2;clear r0 aj r1 ar r2 aG;refine gu (λw9=>ai w9 (w.heap.size) 30 [.bool (au (dN X)),.string (bs (nt (dN X).natAbs)),.int .i64 (dE X)]/\Bw w w9) ⟨(((Hr.out.set 0 _).set 1 _).set 2 _),(((Hb.out.sc (w.heap.size) 0 ZS _).sc (w.heap.size) 1 ZS _).sc (w.heap.size) 2 ZS _)⟩ ?_;rintro w9 ⟨qr,ae⟩;replace Hr:=ah qr;clear qr;obtain⟨r0,aj,r1,ar,r2,aG⟩:=Hr.out.g3;replace Hb:=ah ae;clear ae;refine bodyPost_ret (v:=.tuple #[bC X,.int .i64 0]) (by simp[results,Tryz.results45,go_sem,r0,r1,r2]) rfl ⟨rfl,Hb.out⟩
def eN (rows:List (List Raw)):Nat->Nat->Dyadic:=λa b=>bZ (rows.map λr=>r.map aB) a b
theorem adm (o p:List Raw)(k:Nat)(h:k<p.length)(h':k<o.length):(jd o p).getD k 0=aB p[k]-aB o[k]:=by unfold jd;rw[List.getD_eq_getElem?_getD,List.getElem?_zipWith];simp[h,h']
theorem qZ (rows:List (List Raw))(a b:Nat)(ha:a<rows.length)(hb:b<rows[a].length):eN rows a b=aB rows[a][b]:=by simp[eN,bZ,List.getD_eq_getElem?_getD,ha,hb]
theorem Xh (n:Nat)(rows:List (List Raw))(hL:rows.length=n+1)(hrow:∀r∈rows,r.length=n)(i j:Nat)(hi:i<n)(hj:j<n):
 bZ ((rows.drop 1).map λp=>jd (rows.getD 0 []) p) i j=eN rows (i+1) j-eN rows 0 j:=by
 have h0:0<rows.length:=by omega
 have h1:i+1<rows.length:=by omega
 have l0:=hrow _ (List.getElem_mem h0);have l1:=hrow _ (List.getElem_mem h1);rw[qZ rows (i+1) j h1 zo,qZ rows 0 j h0 zo];have e0:rows.getD 0 []=rows[0]:=by simp[h0]
 have e1:((rows.drop 1).map λp=>jd (rows.getD 0 []) p).getD i []=jd rows[0] rows[i+1]:=by rw[e0,List.getD_eq_getElem?_getD,List.getElem?_map,List.getElem?_drop];rw[show 1+i=i+1 by omega,List.getElem?_eq_getElem h1];rfl
 unfold bZ;rw[e1,adm _ _ _ zo zo]
theorem EE (n:Nat)(cd:n<=4){e f:Nat->Nat->Dyadic}(h:∀i j,i<n->j<n->e i j=f i j):dY n e=dY n f:=by
 have hc:n=0\/n=1\/n=2\/n=3\/n=4:=by omega
 rcases hc with rfl|rfl|rfl|rfl|rfl
 . rfl
 . exact h 0 0 zo zo
 . unfold dY;simp only;rw[h 0 0 zo zo,h 0 1 zo zo,h 1 0 zo zo,h 1 1 zo zo]
 . unfold dY;simp only;rw[h 0 0 zo zo,h 0 1 zo zo,h 0 2 zo zo,h 1 0 zo zo,h 1 1 zo zo,h 1 2 zo zo,h 2 0 zo zo,h 2 1 zo zo,h 2 2 zo zo]
 . unfold dY;simp only;rw[h 0 0 zo zo,h 0 1 zo zo,h 0 2 zo zo,h 0 3 zo zo,h 1 0 zo zo,h 1 1 zo zo,h 1 2 zo zo,h 1 3 zo zo,h 2 0 zo zo,h 2 1 zo zo,h 2 2 zo zo,h 2 3 zo zo,h 3 0 zo zo,h 3 1 zo zo,h 3 2 zo zo,h 3 3 zo zo]
theorem Rh {B n:Nat}{e:Nat->Nat->Dyadic}(hn:1<=n)(cd:n<=4)(h:∀i j,i<n->j<n->Sm B (e i j)):Sm (4*B+6) (dY n e):=by
 have m2:∀a b c d:Dyadic,Sm B a->Sm B b->Sm B c->Sm B d->Sm (2*B+1) (a*b-c*d):=λa b c d ha hb hc hd=>(Sm.sub (Sm.mul ha hb) (Sm.mul hc hd)).mono zo;have m3:∀x y:Dyadic,Sm B x->Sm (2*B+1) y->Sm (3*B+1) (x*y):=λx y hx hy=>(Sm.mul hx hy).mono zo;have m4:∀x y z:Dyadic,Sm (3*B+1) x->Sm (3*B+1) y->Sm (3*B+1) z->Sm (3*B+3) (x-y+z):=λx y z hx hy hz=>(Sm.add (Sm.sub hx hy) (hz.mono zo)).mono zo;have m5:∀x y:Dyadic,Sm B x->Sm (3*B+3) y->Sm (4*B+3) (x*y):=λx y hx hy=>(Sm.mul hx hy).mono zo;have hc:n=1\/n=2\/n=3\/n=4:=by omega
 rcases hc with rfl|rfl|rfl|rfl
 . exact(h 0 0 zo zo).mono zo
 . exact(Sm.sub (Sm.mul (h 0 0 zo zo) (h 1 1 zo zo)) (Sm.mul (h 0 1 zo zo) (h 1 0 zo zo))).mono zo
 . unfold dY;refine(m4 _ _ _ (m3 _ _ ?_ (m2 _ _ _ _ ?_ ?_ ?_ ?_)) (m3 _ _ ?_ (m2 _ _ _ _ ?_ ?_ ?_ ?_)) (m3 _ _ ?_ (m2 _ _ _ _ ?_ ?_ ?_ ?_))).mono zo<;>exact h _ _ zo zo
 . unfold dY;have m6:∀x y z u:Dyadic,Sm (4*B+3) x->Sm (4*B+3) y->Sm (4*B+3) z->Sm (4*B+3) u->Sm (4*B+6) (x-y+z-u):=λx y z u hx hy hz hu=>(Sm.sub (Sm.add (Sm.sub hx hy) (hz.mono zo)) (hu.mono zo)).mono zo;refine m6 _ _ _ _ (m5 _ _ ?_ (m4 _ _ _ (m3 _ _ ?_ (m2 _ _ _ _ ?_ ?_ ?_ ?_)) (m3 _ _ ?_ (m2 _ _ _ _ ?_ ?_ ?_ ?_)) (m3 _ _ ?_ (m2 _ _ _ _ ?_ ?_ ?_ ?_)))) (m5 _ _ ?_ (m4 _ _ _ (m3 _ _ ?_ (m2 _ _ _ _ ?_ ?_ ?_ ?_)) (m3 _ _ ?_ (m2 _ _ _ _ ?_ ?_ ?_ ?_)) (m3 _ _ ?_ (m2 _ _ _ _ ?_ ?_ ?_ ?_)))) (m5 _ _ ?_ (m4 _ _ _ (m3 _ _ ?_ (m2 _ _ _ _ ?_ ?_ ?_ ?_)) (m3 _ _ ?_ (m2 _ _ _ _ ?_ ?_ ?_ ?_)) (m3 _ _ ?_ (m2 _ _ _ _ ?_ ?_ ?_ ?_)))) (m5 _ _ ?_ (m4 _ _ _ (m3 _ _ ?_ (m2 _ _ _ _ ?_ ?_ ?_ ?_)) (m3 _ _ ?_ (m2 _ _ _ _ ?_ ?_ ?_ ?_)) (m3 _ _ ?_ (m2 _ _ _ _ ?_ ?_ ?_ ?_))))<;>exact h _ _ zo zo
theorem Rq (X:Dyadic):bW X=0↔X=0:=by
 constructor
 . intro h;have h1:dN X=0:=by
    unfold bW dP at h;by_cases h1:dN X<0
    . rw[if_pos h1]at h;cases h
    . rw[if_neg h1]at h;by_cases h2:dN X=0
      . exact h2
      . rw[if_neg h2]at h;cases h
   have h2:=qX X;rw[h1,uK]at h2;exact h2
 . rintro rfl;rfl
noncomputable def ny (rows:List (List Raw)):Int:=if fM rows=0 then 1 else if fC (fM rows).toNat (eN rows)=0 then 5 else 0
theorem Xg (a:Option Addr)(cap n:Nat)(rows:List (List Raw))(B:Nat)(X:Dyadic)(w:World)(hn:1<=n)(cd:n<=4)(hL:rows.length=n+1)(hrow:∀r∈rows,r.length=n)(hcap:n+1<=cap)(ha:aX w a rows)
 (hfit:∀r∈rows,∀c∈r,Fit B c) (hB:B<=900000) (hT:aF w) (hX:fC n (eN rows)=X):
 Calls Tryz.prog 12 #[.slice a (n+1) cap] w λe w'=>e=.returned (.tuple #[bC X,.int .i64 0])/\Bw w w':=by
 obtain⟨b,o,rfl⟩:∃b o,a=some ⟨b,o,none⟩:=by
  obtain⟨vals,hvl,hat,_⟩:=ha;rcases hat with h|⟨b,o,h,_⟩
  . rw[h]at hvl;simp at hvl;omega
  . exact⟨b,o,h⟩
 have hv:=zI hL hrow hn zo;obtain⟨S,hS⟩:=aC ((rows.drop 1).map λp=>jd (rows.getD 0 []) p);have iB:S.length=n:=by rw[<-hS];simp[hL]
 have qw:∀r∈S,r.length=n:=by
  intro r hr;rw[<-hS]at hr;obtain⟨p,hp,rfl⟩:=List.mem_map.1 hr;have h0:0<rows.length:=by omega
  have e0:rows.getD 0 []=rows[0]:=by simp[h0]
  rw[EI (by rw[e0,hrow _ (List.mem_of_mem_drop hp),hrow _ (List.getElem_mem h0)]),hrow _ (List.mem_of_mem_drop hp)]
 have lu:∀r∈S,∀d∈r,Sm (B+1) d:=by
  intro r hr d hd;rw[<-hS]at hr;obtain⟨p,hp,rfl⟩:=List.mem_map.1 hr;unfold jd at hd;obtain⟨i,hi,rfl⟩:=List.mem_iff_getElem.1 hd;rw[List.getElem_zipWith];have h0:0<rows.length:=by omega
  have e0:rows.getD 0 []=rows[0]:=by simp[h0]
  refine Sm.sub (hfit p (List.mem_of_mem_drop hp) _ (List.getElem_mem _)).2 (hfit (rows.getD 0 []) ?_ _ (List.getElem_mem _)).2;rw[e0];exact List.getElem_mem h0
 have hent:dY n (bZ S)=X:=by rw[<-hX,EL];refine EE n cd (λi j hi hj=>?_);rw[<-hS];exact Xh n rows hL hrow i j hi hj
 have hvar:=λW=>λ(h:aX W (some ⟨b,o,none⟩) rows)=>zJ (some ⟨b,o,none⟩) (n+1) cap rows W hL zo h;rw[hv]at hvar;have hrows:=λW=>λ(h:aX W (some ⟨b,o,none⟩) rows) (hT:aF W)=>WP b o cap n n rows B W hL zo hcap hn hn zo hrow h hfit zo hT;rw[hS]at hrows;have lv:((S.map λr=>r.map canon).map λr=>r.map aB)=S:=by
  rw[List.map_map];have:((λr:List Raw=>r.map aB)∘λr:List Dyadic=>r.map canon)=id:=by
   funext r
   show(r.map canon).map aB=r
   rw[List.map_map];have:(aB∘canon)=id:=funext bP;rw[this];simp
  rw[this];simp
 have mf:=λW a' c'=>λ(h:aX W a' (S.map λr=>r.map canon)) (hT:aF W)=>Ko a' c' n (S.map λr=>r.map canon) (B+1) S X W hn cd (by simpa using iB) (by
  intro r hr;obtain⟨x,hx,rfl⟩:=List.mem_map.1 hr
  simpa using qw x hx) h (by
  intro r hr c hc;obtain⟨x,hx,rfl⟩:=List.mem_map.1 hr;obtain⟨y,hy,rfl⟩:=List.mem_map.1 hc
  exact(lu x hx y hy).fit zo) zo zo hT lv hent
 obtain⟨JI,aam,Ag,Ha,HT⟩:=fp hvar hrows mf ha hT;clear hvar hrows mf ha hT lv hent lu qw iB hS hv hX hfit hrow hL;have hn0:¬(n:Int)=0:=by omega
 have Hb:Hid (Bw w w):=Below.refl _ _;go_enter Tryz.func12,Tryz.ntmps12;go_wp2_with fail;obtain⟨R,hR⟩:∃R:World->Prop,(λW=>ai W (w.heap.size) 30 [.bool false,.string ⟨#[]⟩,.int .i64 0]/\Bw w W)=R:=⟨_,rfl⟩;first|refine bG R ?hR ?_|refine bF R ?hR ?_
 case hR=>subst hR;exact⟨(ai.newAt w _ _ (b:=w.heap.size) rfl),zl⟩
 subst hR;rintro W ⟨qr,ae⟩;have Hr:=ah qr;clear qr;obtain⟨r0,aj,r1,ar,r2,aG⟩:=Hr.out.g3;replace Hb:=az Hb ae;clear ae;have HA:Hid (aX W (some ⟨b,o,none⟩) rows):=Ha.out.below Hb.out;have HU:Hid (aF W):=HT.out.below Hb.out;go_wp2_with fail;refine(JI.out _ HA.out).mono ?_;rintro e w1 ⟨rfl,ae⟩;clear r0 aj r1 ar r2 aG;replace Hr:=kB Hr ae;replace HA:=kL HA ae;replace HU:=kT HU ae;obtain⟨r0,aj,r1,ar,r2,aG⟩:=Hr.out.g3;replace Hb:=az Hb ae;clear ae;go_wp2_with fail;refine(aam.out _ HA.out HU.out).mono ?_;rintro e w2 ⟨a',c',rfl,hcc,iW,ae⟩;clear r0 aj r1 ar r2 aG;replace Hr:=kB Hr ae;replace HA:=kL HA ae;replace HU:=kT HU ae;obtain⟨r0,aj,r1,ar,r2,aG⟩:=Hr.out.g3;replace Hb:=az Hb ae;clear ae;have zV:=ah iW;clear iW;go_wp2_with fail;refine(Ag.out _ a' c' zV.out HU.out).mono ?_;rintro e w3 ⟨rfl,ae⟩;clear r0 aj r1 ar r2 aG;replace Hr:=kB Hr ae;replace HA:=kL HA ae;replace HU:=kT HU ae;obtain⟨r0,aj,r1,ar,r2,aG⟩:=Hr.out.g3;replace Hb:=az Hb ae;clear ae;go_wp2;clear r0 aj r1 ar r2 aG;refine gu (λw9=>ai w9 (w.heap.size) 30 [.bool (au (dN X)),.string (bs (nt (dN X).natAbs)),.int .i64 (dE X)]/\Bw w w9) ⟨(((Hr.out.set 0 _).set 1 _).set 2 _),(((Hb.out.sc (w.heap.size) 0 ZS _).sc (w.heap.size) 1 ZS _).sc (w.heap.size) 2 ZS _)⟩ ?_;rintro w9 ⟨qr,ae⟩;replace Hr:=ah qr;clear qr;obtain⟨r0,aj,r1,ar,r2,aG⟩:=Hr.out.g3;replace Hb:=ah ae;clear ae;refine bodyPost_ret (v:=.tuple #[bC X,.int .i64 0]) (by simp[results,Tryz.results12,go_sem,r0,r1,r2]) rfl ⟨rfl,Hb.out⟩
theorem GI (a:Option Addr)(L cap:Nat)(rows:List (List Raw))(B:Nat)(w:World)(hL:rows.length=L)(hL5:L<=5)(hcap:L<=cap)(ha:aX w a rows)
 (hfit:∀r∈rows,∀c∈r,Fit B c) (hB:B<=900000) (hT:aF w):
 Calls Tryz.prog 15 #[.slice a L cap] w λe w'=>e=.returned (.int .i64 (ny rows))/\Bw w w':=by
 obtain⟨R,hR⟩:=aC (ny rows);rw[hR];unfold ny at hR;by_cases hv:fM rows=0
 . rw [if_pos hv]at hR;subst hR;have hvar:=fun W=>fun(h:aX W a rows)=>zJ a L cap rows W hL zo h;rw[hv]at hvar;obtain⟨JI,Ha⟩:=aM hvar ha;have hsz:∀W,Bw w W->Calls Tryz.prog 12 #[.slice a L cap] W fun e w'=>e=.returned (.tuple #[.agg #[.bool false,.string ⟨#[]⟩,.int .i64 0],.int .i64 1])/\Bw W w':=by
    intro w0 hw0;have nz:=ah (Ha.out.below hw0);clear ha hfit hL hT hv hvar Ha hw0 w;obtain⟨w,Ms⟩:∃w,w=w0:=⟨_,rfl⟩;subst Ms;have Hb:Hid (Bw w w):=Below.refl _ _;go_enter Tryz.func12,Tryz.ntmps12;go_wp2_with fail;obtain⟨R,hR⟩:∃R:World->Prop,(λW=>ai W (w.heap.size) 30 [.bool false,.string ⟨#[]⟩,.int .i64 0]/\Bw w W)=R:=⟨_,rfl⟩;first|refine bG R ?hR ?_|refine bF R ?hR ?_
    case hR=>subst hR;exact⟨(ai.newAt w _ _ (b:=w.heap.size) rfl),zl⟩
    subst hR;rintro W ⟨qr,ae⟩;have Hr:=ah qr;clear qr;obtain⟨r0,aj,r1,ar,r2,aG⟩:=Hr.out.g3;replace Hb:=az Hb ae;clear ae;go_wp2_with fail;refine(JI.out _ (nz.out.below Hb.out)).mono ?_;rintro e w1 ⟨rfl,ae⟩;clear r0 aj r1 ar r2 aG;replace Hr:=kB Hr ae;obtain⟨r0,aj,r1,ar,r2,aG⟩:=Hr.out.g3;replace Hb:=az Hb ae;clear ae;go_wp2;clear r0 aj r1 ar r2 aG;refine gu (λw9=>ai w9 (w.heap.size) 30 [.bool false,.string ⟨#[]⟩,.int .i64 0]/\Bw w w9) ⟨(((Hr.out.set 0 _).set 1 _).set 2 _),(((Hb.out.sc (w.heap.size) 0 ZS _).sc (w.heap.size) 1 ZS _).sc (w.heap.size) 2 ZS _)⟩ ?_;rintro w9 ⟨qr,ae⟩;replace Hr:=ah qr;clear qr;obtain⟨r0,aj,r1,ar,r2,aG⟩:=Hr.out.g3;replace Hb:=ah ae;clear ae;refine bodyPost_ret (v:=.tuple #[.agg #[.bool false,.string ⟨#[]⟩,.int .i64 0],.int .i64 1]) (by simp[results,Tryz.results12,go_sem,r0,r1,r2]) rfl ⟨rfl,Hb.out⟩
   have vC:=ah hsz;clear hsz hvar ha hfit hL hT hv;have Hb:Hid (Bw w w):=Below.refl _ _;go_enter Tryz.func15,Tryz.ntmps15;go_wp2_with fail;refine(vC.out _ Hb.out).mono ?_;rintro e w1 ⟨rfl,ae⟩;replace Hb:=az Hb ae;clear ae;have hsz:=Hb.out.size;obtain⟨W2,nX,ae,Hd⟩:=cQ w1 30 [.bool false,.string ⟨#[]⟩,.int .i64 0];obtain⟨d0,Kz,d1,KA,d2,KB⟩:=Hd.out.g3;replace Hb:=az Hb ae;clear ae;go_wp2;refine bodyPost_ret (results_tmp rfl _ _ _) rfl ⟨rfl,?_⟩;exact((Hb.out.setCell zp _).setCell zp _).setCell zp _
 . obtain⟨n,hn⟩:∃n:Nat,fM rows=n:=⟨(fM rows).toNat,by have:=Dp rfl hv;omega⟩;rw[if_neg hv,hn,Int.toNat_natCast]at hR;obtain⟨c1,c2,c3,c4⟩:=Dp hn zo;obtain rfl:L=n+1:=by omega
   obtain⟨X,hX⟩:=aC (fC n (eN rows));rw[hX]at hR;have hsz:=λW=>λ(h:aX W a rows) (hT:aF W)=>Xg a cap n rows B X W zo zo zo (λr hr=>by have:=c4 r hr;omega) hcap h hfit hB hT hX;have hXm:Sm (4* (B+1)+6) X:=by
    rw[<-hX,EL];refine Rh zo zo (λi j hi hj=>?_);have h0:0<rows.length:=by omega
    have h1:i+1<rows.length:=by omega
    have l0:=c4 _ (List.getElem_mem h0);have l1:=c4 _ (List.getElem_mem h1);rw[qZ rows (i+1) j h1 zo,qZ rows 0 j h0 zo];exact Sm.sub (hfit _ (List.getElem_mem h1) _ (List.getElem_mem _)).2 (hfit _ (List.getElem_mem h0) _ (List.getElem_mem _)).2
   have gw:∀W,Calls Tryz.prog 37 #[.agg #[.bool (au (dN X)),.string (bs (nt (dN X).natAbs)),.int .i64 (dE X)]] W λex w'=>ex=.returned (.int .i64 (bW X))/\Bw W w':=λW=>mL _ _ _ (bW X) (by show bW (aB (canon X))=_;rw[bP]) W (hXm.ok zo);obtain⟨g,hg⟩:=aC (bW X);have TA:R=if g=0 then 5 else 0:=by
    rw[<-hR,<-hg];by_cases h:X=0
    . rw[if_pos h,if_pos ((Rq X).2 h)]
    . rw[if_neg h,if_neg (λh2=>h ((Rq X).1 h2))]
   rw[hg]at gw;obtain⟨vC,kr,Ha,HT,PG⟩:=fp hsz gw ha hT TA;clear hsz gw ha hT TA hg hX hR hfit c4 hL;have Hb:Hid (Bw w w):=Below.refl _ _;go_enter Tryz.func15,Tryz.ntmps15;go_wp2_with fail;refine(vC.out _ (Ha.out.below Hb.out) (HT.out.below Hb.out)).mono ?_;rintro e w1 ⟨rfl,ae⟩;replace Hb:=az Hb ae;clear ae;obtain⟨W2,nX,ae,Hd⟩:=cQ w1 30 [.bool (au (dN X)),.string (bs (nt (dN X).natAbs)),.int .i64 (dE X)];obtain⟨d0,d1,d2⟩:=Hd.out.c3;replace Hb:=az Hb ae;clear ae;go_wp2_with fail;refine(kr.out _).mono ?_;rintro e w3 ⟨rfl,ae⟩;clear d0 d1 d2;replace Hd:=kB Hd ae;obtain⟨d0,d1,d2⟩:=Hd.out.c3;replace Hb:=az Hb ae;clear ae;by_cases hg0:g=0
   . have hr:=PG.out;rw[if_pos hg0]at hr;subst hr hg0;go_wp2;refine bodyPost_ret (results_tmp rfl _ _ _) rfl ⟨rfl,Hb.out⟩
   . have hr:=PG.out;rw[if_neg hg0]at hr;subst hr;go_wp2;refine bodyPost_ret (results_tmp rfl _ _ _) rfl ⟨rfl,Hb.out⟩
end Go.Proofs.YtdaadlblknpipaaGreatDoor
namespace Go.Proofs.YtdaadlblknpipaaGreatDoor
def yl (p:Nat->Nat->Dyadic):Nat->Nat->Dyadic:=λa b=>p (a+1) b-p 0 b
def jP (n:Nat)(e:Nat->Nat->Dyadic)(k i:Nat):Dyadic:=if(k+i)%2=1 then-dY (n-1) (jZ e i k)else dY (n-1) (jZ e i k)
def jw (n:Nat)(p:Nat->Nat->Dyadic)(k i:Nat):Dyadic:=jP n (yl p) k i*lI (fC n p)
def wS (n:Nat)(p:Nat->Nat->Dyadic)(x:Nat->Dyadic)(i:Nat):Nat->Dyadic
 |0=>0
 |k+1=>wS n p x i k+(x k-p 0 k) *jw n p k i
theorem akx (n:Nat)(p:Nat->Nat->Dyadic)(x:Nat->Dyadic)(i k:Nat):wS n p x i k=lI (fC n p) *yQ n (yl p) (λk=>x k-p 0 k) i k:=by
 induction k with
 |zero=>simp[wS,yQ]
 |succ k ih=>unfold wS yQ;rw[ih];unfold jw jP;generalize (if(k+i)%2=1 then-dY (n-1) (jZ (yl p) i k)else dY (n-1) (jZ (yl p) i k))=z;grind
theorem Oi (n:Nat)(hn:1<=n)(cd:n<=4)(p:Nat->Nat->Dyadic)(x:Nat->Dyadic)(i:Nat)(hi:i<n):wS n p x i n=oH n p x (i+1):=by rw[akx,aga n hn cd _ _ i hi];unfold oH;rw[adE];rfl
def wZ (n:Nat)(p:Nat->Nat->Dyadic)(x:Nat->Dyadic):Nat->Dyadic
 |0=>lI (fC n p) *fC n p
 |k+1=>wZ n p x k-oH n p x (k+1)
theorem akA (n:Nat)(p:Nat->Nat->Dyadic)(x:Nat->Dyadic)(k:Nat):wZ n p x k=lI (fC n p) *fC n p-rh (λi=>oH n p x (i+1)) k:=by
 induction k with
 |zero=>simp[wZ,rh];grind
 |succ k ih=>unfold wZ rh;rw[ih];grind
theorem XK (n:Nat)(hn:1<=n)(cd:n<=4)(p:Nat->Nat->Dyadic)(x:Nat->Dyadic):wZ n p x n=oH n p x 0:=by rw[akA];unfold oH;rw[ajQ,akP n hn cd p x];grind
theorem ajz (X:Dyadic):lI X*X=if X<0 then-X else X:=by
 rw[Xd];split
 . grind
 . split<;>grind
theorem EF {B n:Nat}{e:Nat->Nat->Dyadic}(cd:n<=4)(h:∀i j,i<n->j<n->Sm B (e i j)):Sm (4*B+6) (dY n e):=by
 by_cases h0:n=0
 . subst h0;exact Sm.one.mono zo
 . exact Rh zo cd h
theorem NM (X:Dyadic):Sm 1 (lI X):=by
 rw[Xd];split
 . exact Sm.neg Sm.one
 . split
   . exact Sm.zero _
   . exact Sm.one
theorem EM {B n:Nat}{p:Nat->Nat->Dyadic}(h:∀a b,a<=n->b<n->Sm B (p a b))(a b:Nat)(ha:a<n)(hb:b<n):Sm (B+1) (yl p a b):=Sm.sub (h (a+1) b zo hb) (h 0 b zo hb)
theorem Qz {B n:Nat}{e:Nat->Nat->Dyadic}(hn:1<=n)(cd:n<=4)(h:∀i j,i<n->j<n->Sm B (e i j))(k i:Nat):Sm (4*B+6) (jP n e k i):=by
 have h2:Sm (4*B+6) (dY (n-1) (jZ e i k)):=EF zo (λa b ha hb=>h _ _ (by split<;>omega) (by split<;>omega));unfold jP;split
 . exact h2.neg
 . exact h2
theorem AZ {B n:Nat}{p:Nat->Nat->Dyadic}(hn:1<=n)(cd:n<=4)(h:∀a b,a<=n->b<n->Sm B (p a b))(k i:Nat):Sm (4*B+11) (jw n p k i):=
 (Sm.mul (Qz (B:=B+1) hn cd (λa b ha hb=>EM h a b ha hb) k i) (NM _)).mono zo
theorem Xi {B n:Nat}{p:Nat->Nat->Dyadic}(cd:n<=4)(h:∀a b,a<=n->b<n->Sm B (p a b)):Sm (4*B+11) (lI (fC n p) *fC n p):=by rw[EL];exact(Sm.mul (NM _) (EF (B:=B+1) cd (λa b ha hb=>EM h a b ha hb))).mono zo
theorem GK {B n:Nat}{p:Nat->Nat->Dyadic}{x:Nat->Dyadic}(hn:1<=n)(cd:n<=4)(h:∀a b,a<=n->b<n->Sm B (p a b))(hx:∀b,b<n->Sm B (x b))(i k:Nat)(hk:k<=n):Sm (5*B+12+k) (wS n p x i k):=by
 induction k with
 |zero=>exact Sm.zero _
 |succ k ih=>have h1:=ih zo;have h2:Sm (5*B+12) ((x k-p 0 k) *jw n p k i):=(Sm.mul (Sm.sub (hx k zo) (h 0 k zo zo)) (AZ hn cd h k i)).mono zo;exact(h1.add (h2.mono zo)).mono zo
theorem XP {B n:Nat}{p:Nat->Nat->Dyadic}{x:Nat->Dyadic}(hn:1<=n)(cd:n<=4)(h:∀a b,a<=n->b<n->Sm B (p a b))(hx:∀b,b<n->Sm B (x b))(i:Nat)(hi:i<n):Sm (5*B+16) (oH n p x (i+1)):=by rw[<-Oi n hn cd p x i hi];exact(GK hn cd h hx i n (Nat.le_refl _)).mono zo
theorem Om {B n:Nat}{p:Nat->Nat->Dyadic}{x:Nat->Dyadic}(hn:1<=n)(cd:n<=4)(h:∀a b,a<=n->b<n->Sm B (p a b))(hx:∀b,b<n->Sm B (x b))(k:Nat)(hk:k<=n):Sm (5*B+16+k) (wZ n p x k):=by
 induction k with
 |zero=>exact(Xi cd h).mono zo
 |succ k ih=>exact(Sm.sub (ih zo) ((XP hn cd h hx k zo).mono zo)).mono zo
def wC (n:Nat)(p:Nat->Nat->Dyadic)(i:Nat):Dyadic:=wS n p (λ_=>0) i n
def lZ (n:Nat)(p:Nat->Nat->Dyadic)(b:Nat):Nat->Dyadic
 |0=>0
 |k+1=>lZ n p b k-jw n p b k
def jA (R:List (List Dyadic))(r c:Nat):List (List Dyadic):=(R.eraseIdx r).map λx=>x.eraseIdx c
theorem VS (R:List (List Dyadic))(r c m:Nat)(hL:R.length=m+1)(hr:r<=m):(jA R r c).length=m:=by unfold jA;rw[List.length_map,List.length_eraseIdx_of_lt zo];omega
theorem VT (R:List (List Dyadic))(r c m:Nat)(hrow:∀x∈R,x.length=m+1)(hc:c<=m):∀x∈jA R r c,x.length=m:=by intro x hx;unfold jA at hx;obtain⟨y,hy,rfl⟩:=List.mem_map.1 hx;have:=hrow y (List.mem_of_mem_eraseIdx hy);rw[List.length_eraseIdx_of_lt zo];omega
theorem VR (R:List (List Dyadic))(r c m:Nat)(hL:R.length=m+1)(hr:r<=m)(j:Nat)(hj:j<m):(jA R r c).getD j []=(R.getD (if j<r then j else j+1) []).eraseIdx c:=by
 unfold jA;have h1:j<(R.eraseIdx r).length:=by rw[List.length_eraseIdx_of_lt zo];omega
 rw[List.getD_eq_getElem?_getD,List.getElem?_map,List.getElem?_eq_getElem h1,Option.map_some,Option.getD_some,List.getElem_eraseIdx];split
 . rename_i h;rw[List.getD_eq_getElem?_getD,List.getElem?_eq_getElem zo];rfl
 . rename_i h;rw[List.getD_eq_getElem?_getD,List.getElem?_eq_getElem zo];rfl
theorem aei (l:List Dyadic)(c j:Nat)(h:j+1<l.length)(hc:c<l.length):(l.eraseIdx c).getD j 0=l.getD (if j<c then j else j+1) 0:=by
 have h1:j<(l.eraseIdx c).length:=by rw[List.length_eraseIdx_of_lt hc];omega
 rw[List.getD_eq_getElem?_getD,List.getElem?_eq_getElem h1,Option.getD_some,List.getElem_eraseIdx];split
 . rw[List.getD_eq_getElem?_getD,List.getElem?_eq_getElem zo];rfl
 . rw[List.getD_eq_getElem?_getD,List.getElem?_eq_getElem zo];rfl
theorem ag0 (R:List (List Dyadic))(r c m:Nat)(hL:R.length=m+1)(hrow:∀x∈R,x.length=m+1)(hr:r<=m)(hc:c<=m)(i j:Nat)(hi:i<m)(hj:j<m):bZ (jA R r c) i j=jZ (bZ R) r c i j:=by
 show((jA R r c).getD i []).getD j 0=(R.getD (if i<r then i else i+1) []).getD (if j<c then j else j+1) 0
 rw[VR R r c m hL hr i hi];have hk:(if i<r then i else i+1)<R.length:=by split<;>omega
 have e:R.getD (if i<r then i else i+1) []=R[if i<r then i else i+1]'hk:=by rw[List.getD_eq_getElem?_getD,List.getElem?_eq_getElem hk];rfl
 have hl:=hrow _ (List.getElem_mem hk);rw[e];exact aei _ c j (by rw[hl];omega) (by rw[hl];omega)
def oQ (n:Nat)(e:Nat->Nat->Dyadic):List (List Dyadic):=(List.range n).map λa=>(List.range n).map λb=>jP n e a b
theorem QA (n:Nat)(e:Nat->Nat->Dyadic)(a:Nat)(ha:a<n):(oQ n e).getD a []=(List.range n).map λb=>jP n e a b:=by unfold oQ;simp[List.getD_eq_getElem?_getD,ha]
theorem aa7 (n:Nat)(e:Nat->Nat->Dyadic)(a b:Nat)(ha:a<n)(hb:b<n):bZ (oQ n e) a b=jP n e a b:=by unfold bZ;rw[QA n e a ha];simp[List.getD_eq_getElem?_getD,hb]
theorem aa8 (n:Nat)(e:Nat->Nat->Dyadic):(oQ n e).length=n:=by simp[oQ]
theorem aa9 (n:Nat)(e:Nat->Nat->Dyadic):∀r∈oQ n e,r.length=n:=by intro r hr;unfold oQ at hr;obtain⟨x,_,rfl⟩:=List.mem_map.1 hr;simp
theorem agZ (R:List (List Dyadic))(r c m:Nat)(hL:R.length=m+1)(hrow:∀x∈R,x.length=m+1)(hr:r<=m)(hc:c<=m)(hm:m<=4):dY m (bZ (jA R r c))=dY m (jZ (bZ R) r c):=
 EE m hm (λi j hi hj=>ag0 R r c m hL hrow hr hc i j hi hj)
theorem ag1 {B:Nat}{R:List (List Dyadic)}(h:∀x∈R,∀d∈x,Sm B d)(r c:Nat):∀x∈jA R r c,∀d∈x,Sm B d:=by intro x hx d hd;unfold jA at hx;obtain⟨y,hy,rfl⟩:=List.mem_map.1 hx;exact h y (List.mem_of_mem_eraseIdx hy) d (List.mem_of_mem_eraseIdx hd)
end Go.Proofs.YtdaadlblknpipaaGreatDoor
namespace Go.Proofs.YtdaadlblknpipaaGreatDoor
open Go.RowKit
def se (rows:List (List Raw))(i j v:Nat):List (List Raw):=(rows.set v (ij (rows.getD i []) (rows.getD j []))).map df
theorem ad5 (r:List Raw):(df r).map aB=r.map aB:=by unfold df;rw[List.map_map];refine List.map_congr_left (λx _=>?_);exact bP _
theorem aeP (V i j v B:Nat)(rows:List (List Raw))(hL:rows.length=V+1)(hrow:∀r∈rows,r.length=V)(hij:i<j)(hj:j<=V)(hfit:∀r∈rows,∀c∈r,Fit B c)(hB:B<=10000000):
 (se rows i j v).length=V+1/\(∀r∈se rows i j v,r.length=V)/\(∀r∈se rows i j v,∀c∈r,Fit (B+3) c)/\
  ((se rows i j v).map λr=>r.map aB)=(rows.map λr=>r.map aB).set v (midD (rows.getD i []) (rows.getD j []))/\
  ∀k,k<V->(midD (rows.getD i []) (rows.getD j [])).getD k 0=(((rows.map λr=>r.map aB).getD i []).getD k 0+((rows.map λr=>r.map aB).getD j []).getD k 0) *hp 1:=by
 have hi1:i<rows.length:=by omega
 have mS:j<rows.length:=by omega
 have ei:rows.getD i []=rows[i]:=by simp[List.getD_eq_getElem?_getD,hi1]
 have ej:rows.getD j []=rows[j]:=by simp[List.getD_eq_getElem?_getD,mS]
 have li:=hrow _ (List.getElem_mem hi1);have lj:=hrow _ (List.getElem_mem mS);rw[show se rows i j v=(rows.set v (ij rows[i] rows[j])).map df by unfold se;rw[ei,ej],ei,ej];have wu:(ij rows[i] rows[j]).length=V:=by rw[MP zo,li]
 refine⟨by simp[hL],λr hr=>?_,λr hr c hc=>?_,?_,λk hk=>?_⟩
 . obtain⟨x,hx,rfl⟩:=List.mem_map.1 hr;rw[KD];rcases List.mem_or_eq_of_mem_set hx with h|h
   . exact hrow x h
   . rw[h];exact wu
 . obtain ⟨x,hx,rfl⟩:=List.mem_map.1 hr;unfold df at hc;obtain⟨y,hy,rfl⟩:=List.mem_map.1 hc;have hys:Sm (B+3) (aB y):=by
    rcases List.mem_or_eq_of_mem_set hx with h|h
    . exact(hfit x h y hy).2.mono zo
    . rw[h]at hy;exact(VQ (hfit _ (List.getElem_mem hi1)) (hfit _ (List.getElem_mem mS)) hB y hy).2
   exact hys.fit zo
 . rw[List.map_map];have e:((λr:List Raw=>r.map aB)∘df)=λr=>r.map aB:=funext ad5;rw[e,List.map_set];congr 1;unfold ij;rw[List.map_map];have:(aB∘canon)=id:=funext bP;rw[this];simp
 . have h1:((rows.map λr=>r.map aB).getD i []).getD k 0=aB (rows[i][k]'zo):=by simp[List.getD_eq_getElem?_getD,hi1,show k<rows[i].length by omega]
   have h2:((rows.map λr=>r.map aB).getD j []).getD k 0=aB (rows[j][k]'zo):=by simp[List.getD_eq_getElem?_getD,mS,show k<rows[j].length by omega]
   rw[h1,h2];unfold midD;rw[List.getD_eq_getElem?_getD,List.getElem?_zipWith,List.getElem?_eq_getElem zo,List.getElem?_eq_getElem zo];rfl
def pC (n:Nat)(second:Bool)(rows:List (List Raw)):List (List Raw):=
 se rows (gm (eW rows n) (n+1)).1 (gm (eW rows n) (n+1)).2.1 (if second then(gm (eW rows n) (n+1)).1 else(gm (eW rows n) (n+1)).2.1)
def ir (n:Nat)(ss:List Bool)(rows:List (List Raw)):List (List Raw):=ss.foldl (λr s=>pC n s r) rows
def Rw (n B:Nat)(rows:List (List Raw)):Prop:=rows.length=n+1/\(∀r∈rows,r.length=n)/\∀r∈rows,∀c∈r,Fit B c
theorem aeO {n B:Nat}{rows:List (List Raw)}(h:Rw n B rows)(hn:1<=n)(hB:B<=10000000)(s:Bool):Rw n (B+3) (pC n s rows):=by obtain⟨h1,h2,h3⟩:=h;have hF:=MH (eW rows n) (n+1) zo;obtain⟨q1,q2,q3,_,_⟩:=aeP n (gm (eW rows n) (n+1)).1 (gm (eW rows n) (n+1)).2.1 (if s then(gm (eW rows n) (n+1)).1 else(gm (eW rows n) (n+1)).2.1) B rows h1 h2 hF.1 zo h3 hB;exact⟨q1,q2,q3⟩
theorem Gs {n:Nat}(hn:1<=n)(ss:List Bool){B:Nat}{rows:List (List Raw)}(h:Rw n B rows)(hB:B+3*ss.length<=10000000):Rw n (B+3*ss.length) (ir n ss rows):=by
 induction ss generalizing B rows with
 |nil=>exact h
 |cons s ss ih=>simp only[List.length_cons]at hB⊢;have:=ih (aeO h hn zo s) zo;rwa [show B+3+3*ss.length=B+3* (ss.length+1)by omega]at this
theorem RG {n B:Nat}{rows:List (List Raw)}(h:Rw n B rows)(hB:B<=10000000):Rw n B (rows.map df):=by
 obtain⟨h1,h2,h3⟩:=h;refine⟨by simpa using h1,λr hr=>?_,λr hr c hc=>?_⟩
 . obtain⟨x,hx,rfl⟩:=List.mem_map.1 hr;rw[KD];exact h2 x hx
 . obtain⟨x,hx,rfl⟩:=List.mem_map.1 hr;unfold df at hc;obtain⟨y,hy,rfl⟩:=List.mem_map.1 hc;exact(h3 x hx y hy).2.fit zo
end Go.Proofs.YtdaadlblknpipaaGreatDoor
namespace Go.Proofs.YtdaadlblknpipaaGreatDoor
open Go.RowKit
attribute [local go_sem ↓] Go.wp_at_zero Go.wp_at_succ
def uN (ss:List Int):List Value:=ss.map λx=>.int .i64 x
def gL (x:Int):Bool:=decide (x=1)
def rc (ss:List Int):Prop:=∀x∈ss,x=0\/x=1
theorem Ws (n:Nat)(ss:List Bool)(s:Bool)(rows:List (List Raw)):ir n (ss++[s]) rows=pC n s (ir n ss rows):=by unfold ir;rw[List.foldl_append];rfl
theorem Od {n B:Nat}{rows:List (List Raw)}(h:Rw n B rows)(hn:1<=n)(ml:n<=8):fM rows=n:=zI h.1 h.2.1 hn ml
theorem aeQ (a:Option Addr)(cap n B:Nat)(rows:List (List Raw))(w:World)(hn:1<=n)(ml:n<=8)(hr:Rw n B rows)(ha:aX w a rows)(hB:B<=10000000)(hT:aF w):
 Calls Tryz.prog 14 #[.slice a (n+1) cap] w λe w'=>∃a1 c1 a2 c2,e=.returned (.tuple #[.slice a1 (n+1) c1,.slice a2 (n+1) c2,.int .i64 0])/\n+1<=c1/\n+1<=c2/\
  aX w' a1 (pC n false rows)/\aX w' a2 (pC n true rows)/\Bw w w':=by
 obtain⟨i,j,Y,hF⟩:∃i j Y,gm (eW rows n) (n+1)=(i,j,Y):=⟨_,_,_,rfl⟩;have h:=SN a (n+1) cap n rows B i j Y w hr.1 (Od hr hn ml) hn ha hr.2.2 hB hT hF;unfold pC se;rw[hF];exact h
def rP (w:World)(n:Nat)(rows:List (List Raw))(ss:List Int)(e:Ending)(w':World):Prop:=
 (rc ss->∃a' c',e=.returned (.tuple #[.slice a' (n+1) c',.int .i64 0])/\n+1<=c'/\aX w' a' (ir n (ss.map gL) (rows.map df)))/\(¬rc ss->e=.returned (.tuple #[.slice none 0 0,.int .i64 1]))/\Bw w w'
theorem rP.ok {w w':World}{n:Nat}{rows:List (List Raw)}{ss:List Int}{a:Option Addr}{c:Nat}(h:rc ss)(hc:n+1<=c)(ht:aX w' a (ir n (ss.map gL) (rows.map df)))(hb:Bw w w'):rP w n rows ss (.returned (.tuple #[.slice a (n+1) c,.int .i64 0])) w':=
 ⟨λ_=>⟨a,c,rfl,hc,ht⟩,λh2=>absurd h h2,hb⟩
theorem rP.no {w w':World}{n:Nat}{rows:List (List Raw)}{ss:List Int}(h:¬rc ss)(hb:Bw w w'):rP w n rows ss (.returned (.tuple #[.slice none 0 0,.int .i64 1])) w':=
 ⟨λh2=>absurd h2 h,λ_=>rfl,hb⟩
theorem ah5 (a:Option Addr)(cap n B:Nat)(rows:List (List Raw))(sa:Option Addr)(m sc:Nat)(ss:List Int)(w:World)(hn:1<=n)(ml:n<=8)(hr:Rw n B rows)(ha:aX w a rows)(hs:At w sa (uN ss))(hm:ss.length=m)(sB:m<=1000)(hB:B<=1000000)(hT:aF w):
 Calls Tryz.prog 32 #[.slice a (n+1) cap,.slice sa m sc] w (rP w n rows ss):=by
 have hv:=λW (hW:Bw w W)=>zJ a (n+1) cap rows W hr.1 zo (ha.below hW);rw[Od hr hn ml]at hv;have jV:rows.set (n+1) []=rows:=List.set_eq_of_length_le (by rw[hr.1];exact Nat.le_refl _);have wM:=λW (hW:Bw w W)=>XM a (n+1) cap rows (n+1) none 0 0 [] W hr.1 zo rfl zo (λr h=>by rw[hr.2.1 r h];exact ml) (ha.below hW) (.inl rfl) (λr h x hx=>(hr.2.2 r h x hx).1) (λx hx=>by cases hx) (hT.below hW) (-1) (λk hk=>by omega);rw[jV]at wM;have hrf:Rw n B (rows.map df):=RG hr zo;have wH:=λk=>Gs hn ((ss.take k).map gL) hrf (by rw[List.length_map,List.length_take];omega);have TD:=λk W (hW:Bw w W) a1 c1 (h1:aX W a1 (ir n ((ss.take k).map gL) (rows.map df)))=>aeQ a1 c1 n _ _ W hn ml (wH k) h1 (by rw[List.length_map,List.length_take];omega) (hT.below hW);obtain⟨Hv,aaE,Zj,Hs,Hm⟩:=fp hv wM TD hs hm;clear hv jV wM hrf wH TD hs hm hT ha hr;have hn0:((n:Int)==0)=false:=by simp;omega
 have Hb:Hid (Bw w w):=Below.refl _ _;go_enter Tryz.func32,Tryz.ntmps32;go_wp2_with fail;refine(Hv.out _ Hb.out).mono ?_;rintro e w1 ⟨rfl,ae⟩;replace Hb:=az Hb ae;clear ae;go_wp2_with fail;refine(aaE.out _ Hb.out).mono ?_;rintro e w2 ⟨a1,c1,rfl,hc1,ht1,ae⟩;replace Hb:=az Hb ae;clear ae;have tF:=ah ht1;clear ht1;go_wp2_with fail;go_loopw[0,18] (λs0 x wr=>∃(k:Nat) (ak:Option Addr) (ck:Nat),k<=m/\x=.int .i64 (k:Int)/\s0=.slice ak (n+1) ck/\n+1<=ck/\rc (ss.take k)/\aX wr ak (ir n ((ss.take k).map gL) (rows.map df))/\Bw w wr) (λ_ x _=>m-(intOf x).toNat);case atStart=>exact⟨0,a1,c1,Nat.zero_le _,rfl,rfl,hc1,(λx hx=>by cases hx),tF.out,Hb.out⟩
 case round=>
  clear tF Hb hn0;obtain⟨k,ak,ck,hk,rfl,rfl,fy,hok,ht,pb⟩:=hrel;by_cases hlt:k<m
  . have hks:k<ss.length:=by rw[Hm.out];exact hlt
    obtain⟨x,hx⟩:=aC (ss[k]);obtain⟨b,o,rfl,hcs⟩:=(Hs.out.below pb).get (by intro h0;have:=congrArg List.length h0;simp[uN]at this;rw[this]at hks;simp at hks);have hc0:wr.cell? ⟨b,o+k,none⟩=some (.int .i64 x):=by rw[hcs k (by simp[uN];exact hks)];simp[uN,hks,hx]
    have bA:=Ve m sc k (k:Int) (rfl:(some ⟨b,o,none⟩:Option Addr)=_) hlt rfl;rw[Nat.mul_one]at bA;have htk:ss.take (k+1)=ss.take k++[x]:=by rw[List.take_succ_eq_append_getElem hks,hx]
    have hmem:x∈ss:=by rw[<-hx];exact List.getElem_mem hks
    have hst:∀(s:Bool),gL x=s->ir n ((ss.take (k+1)).map gL) (rows.map df)=pC n s (ir n ((ss.take k).map gL) (rows.map df)):=λs h=>by rw[htk,List.map_append,List.map_cons,List.map_nil,h,Ws]
    have Uj:x=0\/x=1->rc (ss.take (k+1)):=λh y hy=>by
     rw[htk]at hy;rcases List.mem_append.1 hy with hy|hy
     . exact hok y hy
     . simp at hy;rw[hy];exact h
    have hno:¬(x=0\/x=1)->¬rc ss:=λh h2=>h (h2 x hmem);obtain⟨Ht,aR,bS,PU,ZJ⟩:=fp ht pb hst Uj hno;clear ht pb hst Uj hno htk hmem hok hx hcs;go_wp2_with fail;refine(Zj.out k _ aR.out ak ck Ht.out).mono ?_;rintro e w4 ⟨a2,c2,a3,c3,rfl,hc2,hc3,ht2,pL,hb4⟩;obtain⟨xW,xX,iJ⟩:=cH ht2 pL (aK aR.out hb4);clear ht2 pL hb4 hc0 bA;by_cases h0:x=0
    . subst h0;go_wp2;go_roundw;case rel=>exact⟨k+1,a2,c2,by omega,by go_num,rfl,hc2,PU.out zm,by rw[bS.out false rfl];exact xW.out,iJ.out⟩
      case measure=>simp[intOf];omega
    . by_cases h1:x=1
      . subst h1;go_wp2;go_roundw;case rel=>exact⟨k+1,a3,c3,by omega,by go_num,rfl,hc3,PU.out zm,by rw[bS.out true rfl];exact xX.out,iJ.out⟩
        case measure=>simp[intOf];omega
      . have e0:(x==0)=false:=by simpa using h0
        have e1:(x==1)=false:=by simpa using h1
        go_wp2;refine bodyPost_ret (v:=.tuple #[.slice none 0 0,.int .i64 1]) (by simp[results,Tryz.results32,go_sem]) rfl (rP.no (ZJ.out (λh=>h.elim h0 h1)) iJ.out)
  . obtain rfl:k=m:=by omega
    have tC:=hok;obtain⟨Ht,aR⟩:=aM ht pb;rw[List.take_of_length_le (by rw[Hm.out];exact Nat.le_refl _)]at tC;have CC:=Ht.out;rw[List.take_of_length_le (by rw[Hm.out];exact Nat.le_refl _)]at CC;obtain⟨Ht9,Yl⟩:=aM CC tC;clear ht pb CC hok tC Ht;go_wp2;exact bodyPost_ret (v:=.tuple #[.slice ak (n+1) ck,.int .i64 0]) (by simp[results,Tryz.results32,go_sem]) rfl (rP.ok Yl.out fy Ht9.out aR.out)
end Go.Proofs.YtdaadlblknpipaaGreatDoor
