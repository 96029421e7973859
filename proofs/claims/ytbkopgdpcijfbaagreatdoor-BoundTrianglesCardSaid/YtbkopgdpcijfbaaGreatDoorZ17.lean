/- mat.bareiss,the walk: the determinant of whole numbers,up to four sides. -/
import Derived.Test.YtbkopgdpcijfbaaGreatDoorZ7
import Derived.Test.YtbkopgdpcijfbaaGreatDoorZ14
import Derived.Test.YtbkopgdpcijfbaaGreatDoorZ10
import Derived.Test.YtbkopgdpcijfbaaGreatDoorZ13
set_option linter.all false
set_option maxRecDepth 100000
set_option maxHeartbeats 16000000
namespace Go.Proofs.YtbkopgdpcijfbaaGreatDoor
open Go.RowKit
attribute [local go_sem ↓] Go.wp_at_zero Go.wp_at_succ
def Bs (w0 w:World)(base n go cap top r l K:Nat)(Z:Int)(k:Nat)(f:Nat->Nat->Int)(last:Int)(t:Bool):Prop:=
 BS w0 w base n go cap top f/\ar w r 28 [ag false,.string ⟨#[]⟩]/\ar w l 28 [ag (az last),ah (nt last.natAbs)]/\iz n (n-k) k f last/\eX n (n-k) k f last t=Z/\last≠0/\
  ∃Q,Q+1<=2^k* (K+1)/\last.natAbs<2^Q/\∀a b,a<n->b<n->(f a b).natAbs<2^Q
def az8 (f:Nat->Nat->Int)(k:Nat):bY f k (k+0)=f:=by
 funext a b;unfold bY
 simp only[Nat.add_zero];by_cases h:a=k
 . rw[if_pos h,h]
 . rw[if_neg h,if_neg h]
def Bs.none {w0 w:World}{base n go cap top r l K k:Nat}{Z:Int}{f:Nat->Nat->Int}{last:Int}{t:Bool}(h:Bs w0 w base n go cap top r l K Z k f last t)(hk:k<n)(hp:sP f n k=none):Z=0:=by obtain⟨_,_,_,_,h2,_⟩:=h;rw[show n-k=n-(k+1)+1 by omega]at h2;unfold eX at h2;rw[hp]at h2;exact h2.symm
def Bs.some {w0 w:World}{base n go cap top r l K k m:Nat}{Z:Int}{f:Nat->Nat->Int}{last:Int}{t:Bool}(h:Bs w0 w base n go cap top r l K Z k f last t)(hk:k<n)(hp:sP f n k=some m):
 ∃g,g=bY f k (k+m)/\g k k≠0/\(∀a b,k<a->a<n->k<b->b<n->last∣cz g k a b)/\iz n (n-(k+1)) (k+1) (dz g k last) (g k k)/\eX n (n-(k+1)) (k+1) (dz g k last) (g k k) (t !=decide (0<m))=Z/\
  ∃Q,2*Q+2<=2^(k+1) * (K+1)/\last.natAbs<2^Q/\(∀a b,a<n->b<n->(g a b).natAbs<2^Q)/\(g k k).natAbs<2^(2*Q+1)/\∀a b,a<n->b<n->(dz g k last a b).natAbs<2^(2*Q+1):=by
 obtain⟨_,_,_,h1,h2,h3,Q,hQ,hl,hf⟩:=h;have OB:=ny hp;rw[show n-k=n-(k+1)+1 by omega]at h1 h2;unfold iz at h1;unfold eX at h2;rw[hp]at h1 h2;simp only at h1 h2;obtain⟨g,hg⟩:∃g,g=bY f k (k+m):=⟨_,rfl⟩;rw[<-hg]at h1 h2;have jE:∀a b,a<n->b<n->(g a b).natAbs<2^Q:=by
  intro a b ha hb;rw[hg];unfold bY;refine hf _ _ ?_ hb;split
  . omega
  . split
    . omega
    . exact ha
 have ya:2^Q<=2^(2*Q+1):=Nat.pow_le_pow_right zd zo;refine⟨g,hg,?_,h1.1,h1.2,h2,Q,?_,hl,jE,Nat.lt_of_lt_of_le (jE k k hk hk) ya,λa b ha hb=>?_⟩
 . rw[hg];unfold bY;rw[if_pos rfl];exact OB.2
 . rw[Nat.pow_succ];have:2^k*2* (K+1)=2* (2^k* (K+1)):=by rw[Nat.mul_comm (2^k) 2,Nat.mul_assoc]
   omega
 . unfold dz;split
   . rename_i h4
     have h5:=(WT g k a b Q (jE a b ha hb) (jE k k hk hk) (jE a k ha hk) (jE k b hk hb)).2.2;rcases div_lt _ last _ h5 with h6|h6
     . exact h6
     . exact absurd (h1.1 a b h4.1 ha h4.2 hb) h6
   . exact Nat.lt_of_lt_of_le (jE a b ha hb) ya
def Bs.next {w0 w:World}{base n go cap top r l kb K k:Nat}{Z:Int}{f g:Nat->Nat->Int}{x:Int}{t:Bool}(h:BT w0 w base n go cap top f r l kb x k)(hf:∀a b,a<n->b<n->f a b=g a b)(hx:x≠0)(h1:iz n (n-(k+1)) (k+1) g x)(h2:eX n (n-(k+1)) (k+1) g x t=Z)
 (h3:∃Q,Q+1<=2^(k+1) * (K+1)/\x.natAbs<2^Q/\∀a b,a<n->b<n->(g a b).natAbs<2^Q):Bs w0 w base n go cap top r l K Z (k+1) g x t:=
 ⟨(h.congr hf).1,h.2.1,h.2.2.1,h1,h2,hx,h3⟩
def Mm (a0:Act)(w0:World)(cs:List (Addr×Value))(x1 x2 x3 x4 P1 P2 N:Int)(dn:Nat->Bool)(a:Act)(w:World):Prop:=
 ∃v1 v2 v3 v4 v5 v6:Value,a=(((((a0.put (some 76) v1).put (some 77) v2).put (some 92) v3).put (some 93) v4).put (some 94) v5).put (some 10) v6/\iD cs w/\Bw w0 w/\
  (dn 14=true->∃b,v1=.slice (some ⟨b,0,none⟩) 2 2/\ar w b 28 [ag (az x1),ah (nt x1.natAbs),ag (az x2),ah (nt x2.natAbs)])/\(dn 15=true->v2=cd P1)/\
  (dn 30=true->∃b,v3=.slice (some ⟨b,0,none⟩) 2 2/\ar w b 28 [ag (az x3),ah (nt x3.natAbs),ag (az x4),ah (nt x4.natAbs)])/\(dn 31=true->v4=cd P2)/\(dn 32=true->v5=cd N)/\
  (dn 33=true->∃b,v6=.pointer (some ⟨b,0,none⟩)/\w0.heap.size<=b/\ar w b 28 [ag false,.string ⟨#[]⟩])
def Mm.init (a:Act)(w0 w:World)(cs:List (Addr×Value))(x1 x2 x3 x4 P1 P2 N:Int)(hk:iD cs w)(hb:Bw w0 w):Mm a w0 cs x1 x2 x3 x4 P1 P2 N (λ_=>false) a w:=
 ⟨a.tmps.getD 76 undef,a.tmps.getD 77 undef,a.tmps.getD 92 undef,a.tmps.getD 93 undef,a.tmps.getD 94 undef,a.tmps.getD 10 undef,by rw[uk,uk,uk,uk,uk,uk],hk,hb,(λh=>by cases h),(λh=>by cases h),(λh=>by cases h),(λh=>by cases h),(λh=>by cases h),(λh=>by cases h)⟩
def ao4 (base n K:Nat)(f:Nat->Nat->Int)(v:Value)(w:World)(hn:1<=n)(bZ:n<=4)(hO:jS w base n (eV f n) n v)(dY:base<=w.heap.size)(tF:1<=K)(hK:∀a b,a<n->b<n->(f a b).natAbs<2^K)(hK2:K<=100000000):
 Cl 219 #[v] w λe w'=>e=.returned (cd (eX n n 0 f 1 false))/\Below base w w':=by
 obtain⟨go,cap,rfl,hcap,hbs⟩:=BS.begin hO hn;obtain⟨Z,hZ⟩:=aB (eX n n 0 f 1 false);have hex:=acH n hn bZ f;have hsz:∀k Q:Nat,k<=n->Q+1<=2^k* (K+1)->Q<=1800000000:=by intro k Q h1 h2;have h3:2^k<=2^4:=Nat.pow_le_pow_right zd zo;have h4:=Nat.mul_le_mul_right (K+1) h3;omega
 rw[hZ];obtain⟨ZC,HZ,ZL,qR,HK⟩:=gT hbs hZ hex hsz hK;clear hO hbs hZ hex hsz hK;have Hb:=hbz w;go_enter Tryz.func219,Tryz.ntmps219;go_wp2_with fail;refine ik w (Hb.an trivial) 28 [ag false,.string ⟨#[]⟩] λW aR ae ak=>?_;go_wp2_with fail;refine aJ ae (Yw 1 _ zd zd) λw1 ae ak=>?_;obtain⟨W2,nV,aR,ae,ak⟩:=bX w1 ae 28 [ag (az 1),ah (nt 1)];have YO:=aj (ZC.out.below ae.2.2.1.out zo);have at6:w.heap.size<w1.heap.size:=zo;have hq0:=ae.2.1.out;have hq1:=ae.1.out;skip
 have hst:Bs w W2 base n go cap w.heap.size w.heap.size w1.heap.size K Z 0 f 1 false:=⟨YO.out,hq0,hq1,ZL.out,HZ.out,by decide,K,by omega,by rw[show(1:Int).natAbs=1 from rfl];exact Nat.one_lt_two_pow zo,HK.out⟩;clear hq0 hq1;have bR:=aj hst;have XU:=ae.2.2.1.out.size;clear hst YO ZC HK ZL HZ;go_wp2_with fail;go_loopw[5,15] (λs5 x wr=>∃(k:Nat) (f':Nat->Nat->Int) (last:Int) (t:Bool),k<=n/\x=af (k:Int)/\s5=ag t/\Bs w wr base n go cap w.heap.size w.heap.size w1.heap.size K Z k f' last t) (λ_ x _=>n-(intOf x).toNat);case atStart=>exact⟨0,f,1,false,Nat.zero_le _,rfl,rfl,bR.out⟩
 case round=>
  clear bR;obtain⟨k,f',last,t,hk,rfl,rfl,hS⟩:=hrel;obtain⟨wk,hwk⟩:∃wk,wk=wr:=⟨_,rfl⟩;subst hwk;by_cases hlt:k<n
  . obtain⟨Q0,hQ0,_,hQf⟩:=hS.2.2.2.2.2.2;have gw:=qR.out k Q0 hk hQ0;have hlen:∀a b,a<n->b<n->(nt (f' a b).natAbs).length<=1099511627776:=λa b ha hb=>jK (hQf a b ha hb) zo;have hkc:k<cap:=by omega
    obtain⟨HS,jA⟩:=aK hS hlen;have xh:=hS.1.2.2.2;clear hS hQ0 hQf gw hlen;have Hb:=hbz wk;obtain⟨Hr,Hl⟩:=aK HS.out.2.1 HS.out.2.2.1;obtain⟨ae,ak⟩:=qZ (Hr.an<|Hl.an trivial);obtain⟨W3,Uv,aR,ae,ak⟩:=bX wk (Hb.an ae) 3 [af (k:Int)];have lG:=aj (HS.out.1.below ae.2.1.out zo);have eT:W3.cell? ⟨wk.heap.size,0,none⟩=some (af (k:Int)):=ae.1.out.cell 0;go_wp2_with fail;refine aJ ae (lG.out.index k wk.heap.size hlt zo eT jA.out) λw4 ae ak=>?_;cases hp:sP f' n k with
    | none=>
      have hpv:Kz f' n k= -1:=by unfold Kz;rw[hp]
      have hz:=HS.out.none hlt hp;rw[hpv];have Qu:=aj (HS.out.1.2.2.1.trans (ae.2.1.out.mono zo));clear HS jA lG hp;go_wp2;have r0:w4.cell? ⟨w.heap.size,0,none⟩=some (ag false):=ae.2.2.1.out.cell 0;have r1:w4.cell? ⟨w.heap.size,1,none⟩=some (.string ⟨#[]⟩):=ae.2.2.1.out.cell 1;refine bodyPost_ret (v:=.agg #[ag false,.string ⟨#[]⟩]) (by simp[results,Tryz.results219,go_sem,r0,r1]) rfl ⟨by rw[hz];rfl,?_⟩;exact(Qu.out.setCell zp _).setCell zp _
    | some m=>
      have hpv:Kz f' n k=(m:Int):=by unfold Kz;rw[hp]
      rw[hpv];obtain⟨jX,_⟩:=ny hp;obtain⟨g,hg,pD,kZ,aeS,aew,Q,hQ,Jv,jE,ae1,JV⟩:=HS.out.some hlt hp;have hl0:=HS.out.2.2.2.2.2.1;have pC:BT w w4 base n go cap w.heap.size f' w.heap.size w1.heap.size wk.heap.size last k:=⟨HS.out.1.below ae.2.1.out zo,ae.2.2.1.out,ae.2.2.2.1.out,ae.1.out,by omega,Nat.le_refl _,by omega,by omega⟩;obtain⟨vR,QM,ZM,ZA,HQ,HlQ,ZX,ZZ,zh,Hg,LS,qE⟩:=ie pC kZ aeS aew hQ Jv jE ae1 JV hg pD hl0;clear pC kZ aeS aew hQ Jv jE ae1 JV hg pD hl0 hpv hp HS jA lG;have hm0:¬(m:Int)<0:=by omega
      go_upto_if 27 with fail
      go_cut[5] (λs5 wx=>s5=ag (t !=decide (0<m))/\BT w wx base n go cap w.heap.size g w.heap.size w1.heap.size wk.heap.size last k);case first=>
       by_cases hm:0<m
       . have kw:(0:Int)<(m:Int):=by omega
         obtain⟨g1,c1,g2,c2,e1,e2,e3,hsw⟩:=vR.out.swap k (k+m) hlt zo;rw[<-Hg.out]at hsw;have RV:=aj hsw;have pE:=ES n cap k (k:Int) (rfl:(some ⟨go,0,none⟩:Option Addr)=_) hlt rfl;have kv:=ES n cap (k+m) ((k+m:Nat):Int) (rfl:(some ⟨go,0,none⟩:Option Addr)=_) zo rfl;rw[Nat.zero_add,Nat.mul_one]at pE kv;have hwm:IntKind.i64.wrap ((k:Int)+(m:Int))=((k+m:Nat):Int):=by rw[IntKind.wrap_i64];omega
         obtain⟨km,vp⟩:=aB (k+m);rw[vp]at e2 kv hwm RV;have rQ:=aj vR.out.2.2.2.1;have Sq:Hid (aZ w4 go k [.slice (some ⟨g1,0,none⟩) n c1]):=λj hj=>by
          obtain rfl:j=0:=by simp at hj;omega
          exact e1
         have Sr:Hid (aZ w4 go km [.slice (some ⟨g2,0,none⟩) n c2]):=λj hj=>by
          obtain rfl:j=0:=by simp at hj;omega
          exact e2
         have z1:w4.drew.frozen? ⟨go,k,none⟩=false:=e3 k;have z2:w4.drew.frozen? ⟨go,km,none⟩=false:=e3 km;have z3:w4.frozen? ⟨go,km,none⟩=false:=e3 km;have y2:(w4.setCell ⟨go,k,none⟩ (.slice (some ⟨g2,0,none⟩) n c2)).cell? ⟨go,km,none⟩=some (.slice (some ⟨g2,0,none⟩) n c2):=aF (.inr zp) e2;have Hkm:=aj vp;clear hsw e1 e2 e3 vp;go_wp2_with fail;obtain⟨ae,ak⟩:=qZ (rQ.an<|Sq.an<|Sr.an trivial);have hgo:go<wk.heap.size:=by have:=vR.out.1.2.1.1;omega
         obtain⟨rQ,Sq,Sr,_⟩:=ae;have eT:=rQ.out.c1;have xa0:=Sq.out.w1;have xb0:=Sr.out.w1;refine aj2 (λw'=>aH w' (wk.heap.size) 0 (af (k:Int))) (λi=>Nat.blt i 19) (.rd 0 (.rd 1 (.rd 2 (.rd 3 (.rd 4 (.rd 5 (.rd 6 (.rd 7 (.rd 8 (.rd 9 (.rd 10 (.rd 12 (.rd 13 (.rd 14 (.br 11 15 (.lin [(15,false),(16,true),(17,false),(18,false),(19,false)]) (.lin [(11,false),(16,true),(17,false),(18,false),(19,false)])))))))))))))))) zk zk rfl zk zc eT ?_;iterate 14 (refine air rfl rfl (v:=?_) (λw' hw'=>?_) ?_;rotate_left;(focus go_simp;try with_reducible rfl))
         refine aiq rfl rfl rfl rfl rfl rfl  (λK hK=>?_) (λK hK=>?_) 
         . go_simp;refine hK _ _ (by first|exact λ_=>eT|exact λ_=>gZ zg eT) ?_
           refine Pw ?_;refine aM rfl rfl (λK hK=>?_);go_simp;refine hK _ _ (by first|exact λh=>absurd h zd|exact λ_=>eT|exact λ_=>gZ zg eT) ?_
           refine pT rfl rfl ?_
           refine aM rfl rfl (λK hK=>?_);go_simp;refine hK _ _ (by first|exact λh=>absurd h zd|exact λ_=>eT|exact λ_=>gZ zg eT) ?_
           refine aM rfl rfl (λK hK=>?_);go_simp;refine hK _ _ (by first|exact λh=>absurd h zd|exact λ_=>eT|exact λ_=>gZ zg eT) ?_
           refine aM rfl rfl (λK hK=>?_);go_simp;refine hK _ _ (by first|exact λh=>absurd h zd|exact λ_=>eT|exact λ_=>gZ zg eT) ?_
           simp only[bH];go_wp2_with fail;go_meet;exact⟨by simp[hm],RV.out.drew⟩
         . go_simp;refine hK _ _ (by first|exact λ_=>eT|exact λ_=>gZ zg eT) ?_
           refine Pw ?_;refine aM rfl rfl (λK hK=>?_);go_simp;refine hK _ _ (by first|exact λh=>absurd h zd|exact λ_=>eT|exact λ_=>gZ zg eT) ?_
           refine pT rfl rfl ?_
           refine aM rfl rfl (λK hK=>?_);go_simp;refine hK _ _ (by first|exact λh=>absurd h zd|exact λ_=>eT|exact λ_=>gZ zg eT) ?_
           refine aM rfl rfl (λK hK=>?_);go_simp;refine hK _ _ (by first|exact λh=>absurd h zd|exact λ_=>eT|exact λ_=>gZ zg eT) ?_
           refine aM rfl rfl (λK hK=>?_);go_simp;refine hK _ _ (by first|exact λh=>absurd h zd|exact λ_=>eT|exact λ_=>gZ zg eT) ?_
           simp only[bH];go_wp2_with fail;go_meet;exact⟨by simp[hm],RV.out.drew⟩
       . have hm2:¬(0:Int)<(m:Int):=by omega
         obtain rfl:m=0:=by omega
         go_wp2_with fail;go_meet;refine⟨by simp,?_⟩;rw[Hg.out,az8];exact vR.out
      case rest=>
       obtain⟨rfl,pC⟩:=hcut;have vR:=aj pC;have gw:=qR.out (k+1) (2*Q+1) zo (by have:=HQ.out;omega);clear pC;have eT:wc.cell? ⟨wk.heap.size,0,none⟩=some (af (k:Int)):=vR.out.2.2.2.1.cell 0;go_wp2_with fail;go_loopw[8] (λx wr=>∃i:Nat,k<i/\i<=n/\x=af (i:Int)/\BT w wr base n go cap w.heap.size (mB g k last i (k+1)) w.heap.size w1.heap.size wk.heap.size last k) (λx _=>n-(intOf x).toNat);case atStart=>exact⟨k+1,by omega,by omega,by go_num,by rw[axK];exact vR.out⟩
       case round=>
        clear eT vR;obtain⟨i,Oo,hin,rfl,hT⟩:=hrel;have Gu:=aj hT;clear hT;have eT:wr.cell? ⟨wk.heap.size,0,none⟩=some (af (k:Int)):=Gu.out.2.2.2.1.cell 0;by_cases bA:i<n
        . obtain⟨wi,ma⟩:∃wi,wi=wr:=⟨_,rfl⟩;subst ma;go_wp2_with fail;go_loopw[9] (λx wr=>∃j:Nat,k<j/\j<=n/\x=af (j:Int)/\BT w wr base n go cap w.heap.size (mB g k last i j) w.heap.size w1.heap.size wk.heap.size last k) (λx _=>n-(intOf x).toNat);case atStart=>exact⟨k+1,by omega,by omega,by go_num,Gu.out⟩
          case round=>
           clear eT Gu;obtain⟨j,hkj,hjn,rfl,hT⟩:=hrel;by_cases gz:j<n
           . have xA:=aj hT;clear hT;obtain⟨gi,ci,li,ti,ei,ri,_⟩:=xA.out.row i bA;obtain⟨gk,ck,lk,tk,ek,rk,_⟩:=xA.out.row k hlt;obtain⟨p1,p2,p3,p4⟩:=axH g k last i j;obtain⟨aa,Mq⟩:=ri j gz;obtain⟨ab,Mr⟩:=rk k hlt;obtain⟨ac,Ms⟩:=ri k hlt;obtain⟨ad,Mt⟩:=rk j gz;rw[p1]at aa Mq;rw[p2]at ab Mr;rw[p3]at ac Ms;rw[p4]at ad Mt;have jE:=ZX.out;have q1:=jE i j bA gz;have q2:=jE k k hlt hlt;have q3:=jE i k bA hlt;have q4:=jE k j hlt gz;obtain⟨m1,m2,m3⟩:=WT g k i j Q q1 q2 q3 q4;have kZ:=QM.out i j Oo bA hkj gz;have Cw:=fun a b=>congrFun (congrFun (axI g k last i j Oo hkj) a) b;have hN:g i j*g k k-g i k*g k j=cz g k i j:=rfl;generalize cz g k i j=N at*;obtain⟨x1,hx1⟩:∃x,g i j=x:=⟨_,rfl⟩;obtain⟨x2,hx2⟩:∃x,g k k=x:=⟨_,rfl⟩;obtain⟨x3,hx3⟩:∃x,g i k=x:=⟨_,rfl⟩;obtain⟨x4,Wa⟩:∃x,g k j=x:=⟨_,rfl⟩;rw[hx1]at q1 m1 hN aa Mq;rw[hx2]at q2 m1 hN ab Mr;rw[hx3]at q3 m2 hN ac Ms;rw[Wa]at q4 m2 hN ad Mt;obtain⟨P1,zV⟩:∃x,x1*x2=x:=⟨_,rfl⟩;obtain⟨P2,kU⟩:∃x,x3*x4=x:=⟨_,rfl⟩;rw[zV]at m1 hN;rw[kU]at m2 hN;have L1:(nt x1.natAbs).length<=17179869184:=jK q1 zo;have L2:(nt x2.natAbs).length<=17179869184:=jK q2 zo;have L3:(nt x3.natAbs).length<=17179869184:=jK q3 zo;have L4:(nt x4.natAbs).length<=17179869184:=jK q4 zo;have L5:(nt P1.natAbs).length<=34359738368:=jK m1 zo;have L6:(nt P2.natAbs).length<=34359738368:=jK m2 zo;have L7:(nt N.natAbs).length<=34359738368:=jK m3 zo;have L8:(nt last.natAbs).length<=34359738368:=jK HlQ.out zo;obtain⟨jz,YZ,Gd,Za,Zc,Zd,Ze,Zf,Zl,Lr,HN,Du⟩:=ie L1 L2 L3 L4 L5 L6 L7 L8 zV kU hN kZ;have aas:=aj Cw;clear L1 L2 L3 L4 L5 L6 L7 L8 zV kU hN kZ Cw q1 q2 q3 q4 m1 m2 m3 hx1 hx2 hx3 Wa jE p1 p2 p3 p4 ri rk;have KZ:∀(b o:Nat) (u v:Value),wr.cell? ⟨b,o,none⟩=some u->wr.cell? ⟨b,o+1,none⟩=some v->aZ wr b o [u,v]:=by
              intro b o u v h1 h2 j hj;rcases j with _|_|j
              . exact h1
              . exact h2
              . simp at hj;omega
             have Yz:∀(b o:Nat) (u:Value),wr.cell? ⟨b,o,none⟩=some u->aZ wr b o [u]:=by
              intro b o u h1 j hj;obtain rfl:j=0:=by simp at hj;omega
              exact h1
             obtain⟨rQ,tv,xL,sW,kF,yV,xx⟩:=jL xA.out.2.2.2.1 (Yz _ _ _ ei) (Yz _ _ _ ek) (KZ _ _ _ _ aa Mq) (KZ _ _ _ _ ab Mr) (KZ _ _ _ _ ac Ms) (KZ _ _ _ _ ad Mt);clear Yz KZ ei ek aa Mq ab Mr ac Ms ad Mt;have ixi:=ES n cap i (i:Int) (rfl:(some ⟨go,0,none⟩:Option Addr)=_) bA rfl;have ixk:=ES n cap k (k:Int) (rfl:(some ⟨go,0,none⟩:Option Addr)=_) hlt rfl;rw[Nat.zero_add,Nat.mul_one]at ixi ixk;have OL:=yx n ci j (j:Int) (rfl:(some ⟨gi,0,none⟩:Option Addr)=_) gz rfl;have iik:=yx n ci k (k:Int) (rfl:(some ⟨gi,0,none⟩:Option Addr)=_) hlt rfl;have ikj:=yx n ck j (j:Int) (rfl:(some ⟨gk,0,none⟩:Option Addr)=_) gz rfl;have ikk:=yx n ck k (k:Int) (rfl:(some ⟨gk,0,none⟩:Option Addr)=_) hlt rfl;rw[Nat.zero_add]at OL iik ikj ikk;go_upto_region 18 with fail
             go_cut[10] (λyL wx=>∃b:Nat,yL=.pointer (some ⟨b,0,none⟩)/\ar wx b 28 [ag (az N),ah (nt N.natAbs)]/\Bw wr wx);case first=>
              clear ZX HQ HlQ ZZ zh Hg ZA ZM aas Du LS xA;obtain⟨w0,hw0⟩:∃w0,w0=w:=⟨_,rfl⟩;subst hw0;obtain⟨w,Ke⟩:∃w,w=wr:=⟨_,rfl⟩;subst Ke;have Hb:=hbz w;obtain⟨ae,ak⟩:=qZ (rQ.an<|tv.an<|xL.an<|sW.an<|kF.an<|yV.an<|xx.an trivial);obtain⟨rQ,tv,xL,sW,kF,yV,xx,_⟩:=ae;have eT:=rQ.out.c1;have xu:=tv.out.w1;have Be:=xL.out.w1;obtain⟨SD,SE⟩:=sW.out.w2;obtain⟨zE,zF⟩:=kF.out.w2;obtain⟨ac0,ac1⟩:=yV.out.w2;obtain⟨ad0,ad1⟩:=xx.out.w2;obtain⟨cs,hcs⟩:∃cs:List (Addr×Value),[(⟨wk.heap.size,0,none⟩,af (k:Int)),(⟨go,i,none⟩,.slice (some ⟨gi,0,none⟩) n ci),(⟨go,k,none⟩,.slice (some ⟨gk,0,none⟩) n ck),(⟨gi,j*2,none⟩,ag (az x1)),(⟨gi,j*2+1,none⟩,ah (nt x1.natAbs)),(⟨gk,k*2,none⟩,ag (az x2)),(⟨gk,k*2+1,none⟩,ah (nt x2.natAbs)),(⟨gi,k*2,none⟩,ag (az x3)),(⟨gi,k*2+1,none⟩,ah (nt x3.natAbs)),(⟨gk,j*2,none⟩,ag (az x4)),(⟨gk,j*2+1,none⟩,ah (nt x4.natAbs))]=cs:=⟨_,rfl⟩;have gJ:∀w',iD cs w'->aH w' (wk.heap.size) 0 (af (k:Int))/\aH w' go i (.slice (some ⟨gi,0,none⟩) n ci)/\aH w' go k (.slice (some ⟨gk,0,none⟩) n ck)/\aH w' gi (j*2) (ag (az x1))/\aH w' gi (j*2+1) (ah (nt x1.natAbs))/\aH w' gk (k*2) (ag (az x2))/\aH w' gk (k*2+1) (ah (nt x2.natAbs))/\aH w' gi (k*2) (ag (az x3))/\aH w' gi (k*2+1) (ah (nt x3.natAbs))/\aH w' gk (j*2) (ag (az x4))/\aH w' gk (j*2+1) (ah (nt x4.natAbs)):=by subst hcs;intro w' h;exact⟨h.hd,h.tl.hd,h.tl.tl.hd,h.tl.tl.tl.hd,h.tl.tl.tl.tl.hd,h.tl.tl.tl.tl.tl.hd,h.tl.tl.tl.tl.tl.tl.hd,h.tl.tl.tl.tl.tl.tl.tl.hd,h.tl.tl.tl.tl.tl.tl.tl.tl.hd,h.tl.tl.tl.tl.tl.tl.tl.tl.tl.hd,h.tl.tl.tl.tl.tl.tl.tl.tl.tl.tl.hd⟩
              have cf:Hid (iD cs w):=by subst hcs;show iD _ _;intro p hp;simp only[List.mem_cons,List.not_mem_nil,or_false]at hp;rcases hp with rfl|rfl|rfl|rfl|rfl|rfl|rfl|rfl|rfl|rfl|rfl<;>assumption
              refine aj1 (λw'=>iD cs w') (λi=>Nat.blt i 34) [14,15,30,31,32,33] (λk=>if k=15 then[14]else if k=31 then[15,30]else if k=32 then[15,31]else[]) [(34,false)] [0,1,2,3,4,5,6,7,8,9,10,11,12,13,16,17,18,19,20,21,22,23,24,25,26,27,28,29] zk zk rfl zk zc cf.out.drew ?_;iterate 28 (refine aio rfl rfl (v:=?_) (λw' hw'=>?_) ?_;rotate_left;(focus have hw':=gJ w' hw';obtain⟨q0,q1,q2,q3,q4,q5,q6,q7,q8,q9,q10⟩:=hw';go_simp;try with_reducible rfl))
              clear eT xu Be SD SE zE zF ac0 ac1 ad0 ad1 rQ tv xL sW kF yV xx gJ hcs;refine ain (λa0=>Mm a0 w cs x1 x2 x3 x4 P1 P2 N) (Mm.init _ _ _ _ _ _ _ _ _ _ _ cf.out.drew (Below.refl _ _).drew) ?_ ?_ ?_
              . rintro dn a' w' ⟨_,_,_,_,_,_,_,h,_⟩;exact h
              . intro k0 fN dn a' w' _ hD hI;obtain⟨v1,v2,v3,v4,v5,v6,rfl,mU,gh,f1,f2,f3,f4,f5,f6⟩:=hI;simp only[List.mem_cons,List.not_mem_nil,or_false]at fN;rcases fN with rfl|rfl|rfl|rfl|rfl|rfl
                . have tF:=mU.alloc (.cells #[ag (az x1),ah (nt x1.natAbs),ag (az x2),ah (nt x2.natAbs)] 28);have hal:=(Below.refl w'.heap.size w').alloc (Nat.le_refl _) (.cells #[ag (az x1),ah (nt x1.natAbs),ag (az x2),ah (nt x2.natAbs)] 28);refine uf rfl rfl (λK hK=>?_);clear f1;simp only[Act.put,U1,U2,U3];go_simp;refine hK _ _ ⟨.slice (some ⟨w'.heap.size,0,none⟩) 2 2,v2,v3,v4,v5,v6,by simp only[Act.put,U1,U2,U3],tF,aI gh hal,λ_=>⟨_,rfl,ar.new _ _ _⟩,λh=>f2 (by simpa using h),λh=>?_,λh=>f4 (by simpa using h),λh=>f5 (by simpa using h),λh=>?_⟩
                  . obtain⟨b,e,q⟩:=f3 (by simpa using h);exact⟨b,e,q.below hal⟩
                  . obtain⟨b,e,hb,q⟩:=f6 (by simpa using h);exact⟨b,e,hb,q.below hal⟩
                . obtain⟨b,rfl,q⟩:=f1 (hD 14 zm);refine uf rfl rfl (λK hK=>?_);clear f1;simp only[Act.put,U1,U2,U3];go_simp;with_reducible refine(ajS x1 x2 P1 Zl.out b 2 _ _ jz.out YZ.out q).mono ?_
                  rintro e w2 ⟨rfl,hq⟩;refine hK _ _ ⟨_,cd P1,v3,v4,v5,v6,by simp only[Act.put,U1,U2,U3],mU.below hq,aI gh hq,λ_=>⟨b,rfl,q.below hq⟩,λ_=>rfl,λh=>?_,λh=>f4 (by simpa using h),λh=>f5 (by simpa using h),λh=>?_⟩
                  . obtain⟨b,e,q⟩:=f3 (by simpa using h);exact⟨b,e,q.below hq⟩
                  . obtain⟨b,e,hb,q⟩:=f6 (by simpa using h);exact⟨b,e,hb,q.below hq⟩
                . have tF:=mU.alloc (.cells #[ag (az x3),ah (nt x3.natAbs),ag (az x4),ah (nt x4.natAbs)] 28);have hal:=(Below.refl w'.heap.size w').alloc (Nat.le_refl _) (.cells #[ag (az x3),ah (nt x3.natAbs),ag (az x4),ah (nt x4.natAbs)] 28);refine uf rfl rfl (λK hK=>?_);clear f3;simp only[Act.put,U1,U2,U3];go_simp;refine hK _ _ ⟨v1,v2,.slice (some ⟨w'.heap.size,0,none⟩) 2 2,v4,v5,v6,by simp only[Act.put,U1,U2,U3],tF,aI gh hal,λh=>?_,λh=>f2 (by simpa using h),λ_=>⟨_,rfl,ar.new _ _ _⟩,λh=>f4 (by simpa using h),λh=>f5 (by simpa using h),λh=>?_⟩
                  . obtain⟨b,e,q⟩:=f1 (by simpa using h);exact⟨b,e,q.below hal⟩
                  . obtain⟨b,e,hb,q⟩:=f6 (by simpa using h);exact⟨b,e,hb,q.below hal⟩
                . obtain⟨b,rfl,q⟩:=f3 (hD 30 zm);obtain rfl:=f2 (hD 15 zm);refine uf rfl rfl (λK hK=>?_);clear f3;simp only[Act.put,U1,U2,U3];go_simp;with_reducible refine(ajS x3 x4 P2 Lr.out b 2 _ _ Gd.out Za.out q).mono ?_
                  rintro e w2 ⟨rfl,hq⟩;refine hK _ _ ⟨v1,cd P1,.slice (some ⟨b,0,none⟩) 2 2,cd P2,v5,v6,by simp only[Act.put,U1,U2,U3],mU.below hq,aI gh hq,λh=>?_,λ_=>rfl,λ_=>⟨b,rfl,q.below hq⟩,λ_=>rfl,λh=>f5 (by simpa using h),λh=>?_⟩
                  . obtain⟨b,e,q⟩:=f1 (by simpa using h);exact⟨b,e,q.below hq⟩
                  . obtain⟨b,e,hb,q⟩:=f6 (by simpa using h);exact⟨b,e,hb,q.below hq⟩
                . obtain rfl:=f2 (hD 15 zm);obtain rfl:=f4 (hD 31 zm);refine uf rfl rfl (λK hK=>?_);clear f2 f4;simp only[Act.put,U1,U2,U3];go_simp;with_reducible refine(aBc P1 P2 N HN.out _ Zc.out Zd.out).mono ?_
                  rintro e w2 ⟨rfl,hq⟩;refine hK _ _ ⟨v1,_,v3,_,cd N,v6,by simp only[Act.put,U1,U2,U3],mU.below hq,aI gh hq,λh=>?_,λ_=>rfl,λh=>?_,λ_=>rfl,λ_=>rfl,λh=>?_⟩
                  . obtain⟨b,e,q⟩:=f1 (by simpa using h);exact⟨b,e,q.below hq⟩
                  . obtain⟨b,e,q⟩:=f3 (by simpa using h);exact⟨b,e,q.below hq⟩
                  . obtain⟨b,e,hb,q⟩:=f6 (by simpa using h);exact⟨b,e,hb,q.below hq⟩
                . have tF:=mU.alloc (.cells #[ag false,.string ⟨#[]⟩] 28);have hal:=(Below.refl w'.heap.size w').alloc (Nat.le_refl _) (.cells #[ag false,.string ⟨#[]⟩] 28);refine uf rfl rfl (λK hK=>?_);clear f6;simp only[Act.put,U1,U2,U3];go_simp;refine hK _ _ ⟨v1,v2,v3,v4,v5,.pointer (some ⟨w'.heap.size,0,none⟩),by simp only[Act.put,U1,U2,U3],tF,aI gh hal,λh=>?_,λh=>f2 (by simpa using h),λh=>?_,λh=>f4 (by simpa using h),λh=>f5 (by simpa using h),λ_=>⟨_,rfl,gh.size,ar.new _ _ _⟩⟩
                  . obtain⟨b,e,q⟩:=f1 (by simpa using h);exact⟨b,e,q.below hal⟩
                  . obtain⟨b,e,q⟩:=f3 (by simpa using h);exact⟨b,e,q.below hal⟩
              . intro dn a' w' hall hI;obtain⟨v1,v2,v3,v4,v5,v6,rfl,mU,gh,f1,f2,f3,f4,f5,f6⟩:=hI;obtain rfl:=f5 (hall 32 zm);obtain⟨b,rfl,hb,q⟩:=f6 (hall 33 zm);obtain⟨wV,asb,np,asc⟩:=q.g2;have Ui:=(q.set 0 (ag (az N))).set 1 (ah (nt N.natAbs));have TS:=(gh.sc b 0 hb (ag (az N))).sc b 1 hb (ah (nt N.natAbs));clear f1 f2 f3 f4 f5 f6;refine aM rfl rfl (λK hK=>?_);simp only[Act.put,U1,U2,U3];go_simp;refine hK _ _ (λh=>absurd h zd) ?_;simp only[bH];go_wp2_with fail;go_meet;exact⟨b,rfl,Ui,TS⟩
             case rest=>
              obtain⟨bx,rfl,qx,qb⟩:=hcut;obtain⟨Gv,BA⟩:=aK (xA.out.below qb) qx;clear qx qb xA rQ tv xL sW kF yV xx ixk iik ikj ikk OL jz YZ Gd Za Zc Zd Zl Lr HN li lk ti tk;obtain⟨g9,c9,lt9,lu9,e9,r9,f9⟩:=Gv.out.aGO i bA;have ne9:=Gv.out.1.row_ne i bA e9;have nx9:bx≠g9:=by rintro rfl;have h1:=(r9 1 zo).1;rw[BA.out.cell]at h1;simp at h1
              obtain⟨Xt,Xu⟩:=r9 j gz;obtain⟨y,hy⟩:=aB (mB g k last i j i j);rw[hy]at Xt Xu;have tv:Hid (aZ wc go i [.slice (some ⟨g9,0,none⟩) n c9]):=λj hj=>by
               obtain rfl:j=0:=by simp at hj;omega
               exact e9
              have sW:Hid (aZ wc g9 (j*2) [ag (az y),ah (nt y.natAbs)]):=λj' hj=>by
               rcases j' with _|_|j'
               . exact Xt
               . exact Xu
               . simp at hj;omega
              have Hl:=aj Gv.out.2.2.1;have OL:=yx n c9 j (j:Int) (rfl:(some ⟨g9,0,none⟩:Option Addr)=_) gz rfl;rw[Nat.zero_add]at OL;obtain⟨Dv,TY⟩:=aB (N/last);have hdc:Cl 228 #[.agg #[ag (az N),ah (nt N.natAbs)],.agg #[ag (az last),ah (nt last.natAbs)]] wc.drew λe w'=>∃r,e=.returned (.tuple #[cd Dv,r,ag true])/\(w'.frozen? ⟨g9,j*2,none⟩=false/\w'.frozen? ⟨g9,j*2+1,none⟩=false)/\Below wc.drew.heap.size wc.drew w':=
               (aA7 N last wc.drew Ze.out Zf.out qE.out Du.out).mono (λe w' ⟨r,he,hb⟩=>⟨r,by rw[he,TY],⟨(f9 w' (cu hb)).1 _,(f9 w' (cu hb)).1 _⟩,hb⟩)
              obtain⟨LQ,Hdc,Qa⟩:=cw f9 hdc TY;clear Xt Xu hy e9 r9 f9 hdc TY Ze Zf Du;have Hb:=hbz wc;go_wp2_with fail;obtain⟨ae,ak⟩:=qZ (tv.an<|sW.an<|BA.an<|Hl.an trivial);obtain⟨tv,sW,BA,Hl,_⟩:=ae;have xu:=tv.out.w1;obtain⟨SD,SE⟩:=sW.out.w2;obtain⟨wV,np⟩:=BA.out.c2;obtain⟨l0,l1⟩:=Hl.out.c2;refine fh (λw'=>aH w' go i (.slice (some ⟨g9,0,none⟩) n c9)/\aH w' bx 0 (ag (az N))/\aH w' bx 1 (ah (nt N.natAbs))/\aH w' (w1.heap.size) 0 (ag (az last))/\aH w' (w1.heap.size) 1 (ah (nt last.natAbs))) (λi=>Nat.blt i 100000) [(0,true),(1,true),(2,true),(3,true),(4,true),(5,true),(6,true),(7,false),(8,true),(9,true),(10,true),(11,true),(12,true),(13,false)] zk zk rfl zk zc ⟨xu,wV,np,l0,l1⟩ ?_;iterate 7 (refine pT rfl rfl ?_ (by intro w' ⟨q0,q1,q2,q3,q4⟩;go_simp;try with_reducible rfl))
              refine aM rfl rfl (λK hK=>?_);go_simp;with_reducible refine(Hdc.out).mono ?_
              rintro e w5 ⟨rr,rfl,⟨z0,z1⟩,hq⟩;have ai:Bw wc w5:=by first|exact hq|exact cu hq
              replace tv:=kW tv ai;replace sW:=kW sW ai;replace BA:=kB BA ai;replace Hl:=kB Hl ai;have xu:=tv.out.w1;obtain⟨SD,SE⟩:=sW.out.w2;obtain⟨wV,np⟩:=BA.out.c2;obtain⟨l0,l1⟩:=Hl.out.c2;replace Hb:=aW Hb ai;refine hK _ _ (λ_=>⟨xu,wV,np,l0,l1⟩) ?_
              iterate 5 (refine pT rfl rfl ?_)
              refine aM rfl rfl (λK hK=>?_);go_simp;refine hK _ _ (by first|exact λh=>absurd h zd|exact λ_=>⟨xu,wV,np,l0,l1⟩ |exact λ_=>⟨(by first|exact xu|exact aF zf xu|exact aF zf (aF zf xu) |exact aF zf (aF zf (aF zf xu))),(by first|exact wV|exact aF zf wV|exact aF zf (aF zf wV) |exact aF zf (aF zf (aF zf wV))),(by first|exact np|exact aF zf np|exact aF zf (aF zf np) |exact aF zf (aF zf (aF zf np))),(by first|exact l0|exact aF zf l0|exact aF zf (aF zf l0) |exact aF zf (aF zf (aF zf l0))),(by first|exact l1|exact aF zf l1|exact aF zf (aF zf l1) |exact aF zf (aF zf (aF zf l1)))⟩) ?_
              simp only[bH];go_wp2;go_roundw;case rel=>have h9:=(LQ.out w5 Hb.out).2 j gz Dv;rw[<-Qa.out]at h9;exact⟨j+1,by omega,by omega,by go_num,by rw[Qa.out]at h9;exact h9.congr (λa b _ _=>by rw[<-Qa.out];exact aas.out a b)⟩
              case measure=>exact bC
           . obtain rfl:j=n:=by omega
             have HT:=aj hT;clear hT;go_wp2;go_roundw;case rel=>exact⟨i+1,by omega,by omega,by go_num,HT.out.congr (λa b _ hb=>axJ g k last i j a b hb)⟩
             case measure=>exact bC
        . obtain rfl:i=n:=by omega
          have hT:=Gu.out.congr (λa b ha _=>axG g k last i a b ha);obtain⟨gk,ck,lk,tk,ek,rk,_⟩:=hT.row k hlt;have e1:dz g k last k k=g k k:=by unfold dz;rw[if_neg zo]
          obtain⟨MU,MV⟩:=rk k hlt;rw[e1]at MU MV;obtain⟨x,hx⟩:=aB (g k k);have pD:=LS.out;have hg2:=ZZ.out;have Hn:Hid (∃Q,Q+1<=2^(k+1) * (K+1)/\x.natAbs<2^Q/\∀a b,a<i->b<i->(dz g k last a b).natAbs<2^Q):=⟨2*Q+1,by have:=HQ.out;omega,by rw[<-hx];exact hg2,zh.out⟩;have QO:=ZM.out;have Gs:=ZA.out;rw[hx]at MU MV pD QO Gs;obtain⟨HE2,HBA⟩:=aK QO Gs;have hLK:w1.heap.size<wk.heap.size:=by have:=zo;omega
          obtain⟨uy,Hl⟩:=aK (hT.setLast x zo zo) hT.2.2.1;have afg:=ES i cap k (k:Int) (rfl:(some ⟨go,0,none⟩:Option Addr)=_) hlt rfl;have atU:=yx i ck k (k:Int) (rfl:(some ⟨gk,0,none⟩:Option Addr)=_) hlt rfl;rw[Nat.zero_add]at afg atU;rw[Nat.mul_one]at afg;have rQ:=aj hT.2.2.2.1;have xL:Hid (aZ wr go k [.slice (some ⟨gk,0,none⟩) i ck]):=λj hj=>by
           obtain rfl:j=0:=by simp at hj;omega
           exact ek
          have kF:Hid (aZ wr gk (k*2) [ag (az x),ah (nt x.natAbs)]):=λj hj=>by
           rcases j with _|_|j
           . exact MU
           . exact MV
           . simp at hj;omega
          have Hhx:=aj hx;clear hT rk ek MU MV e1 hg2 QO Gs eT hx Gu;go_wp2_with fail;obtain⟨ae,ak⟩:=qZ (rQ.an<|xL.an<|kF.an<|Hl.an trivial);obtain⟨rQ,xL,kF,Hl,_⟩:=ae;have eT:=rQ.out.c1;have Be:=xL.out.w1;obtain⟨zE,zF⟩:=kF.out.w2;obtain⟨l0,fl0,l1,fl1⟩:=Hl.out.g2;refine fh (λw'=>aH w' (wk.heap.size) 0 (af (k:Int))/\aH w' go k (.slice (some ⟨gk,0,none⟩) i ck)/\aH w' gk (k*2) (ag (az x))/\aH w' gk (k*2+1) (ah (nt x.natAbs))) (λi=>Nat.blt i 7) [(0,true),(1,true),(2,true),(3,true),(4,true),(5,true),(6,true),(7,false)] zk zk rfl zk zc ⟨eT,Be,zE,zF⟩ ?_;iterate 7 (refine pT rfl rfl ?_ (by intro w' ⟨q0,q1,q2,q3⟩;go_simp;try with_reducible rfl))
          refine aM rfl rfl (λK hK=>?_);go_simp;refine hK _ _ (by first|exact λh=>absurd h zd|exact λ_=>⟨eT,Be,zE,zF⟩ |exact λ_=>⟨(by first|exact eT|exact aF zf eT|exact aF zf (aF zf eT) |exact aF zf (aF zf (aF zf eT))),(by first|exact Be|exact aF zf Be|exact aF zf (aF zf Be) |exact aF zf (aF zf (aF zf Be))),(by first|exact zE|exact aF zf zE|exact aF zf (aF zf zE) |exact aF zf (aF zf (aF zf zE))),(by first|exact zF|exact aF zf zF|exact aF zf (aF zf zF) |exact aF zf (aF zf (aF zf zF)))⟩) ?_
          simp only[bH];go_wp2;go_roundw;case rel=>exact⟨k+1,dz g k last,x,_,by omega,by go_num,rfl,Bs.next uy.out.drew (λ_ _ _ _=>rfl) pD HE2.out HBA.out Hn.out⟩
          case measure=>exact bC
  . obtain rfl:k=n:=by omega
    obtain⟨q1,q2,q3,_,q5,_,Q,hQ,Jv,_⟩:=hS;have gw:=qR.out k Q (Nat.le_refl _) hQ;have hll:(nt last.natAbs).length<=1099511627776:=jK Jv zo;rw[Nat.sub_self]at q5;unfold eX at q5;obtain⟨Hr,Hl,Hq,HZ,LW⟩:=gT q2 q3 q1 q5 hll;clear q1 q2 q3 q5 hQ Jv hll gw;have Hb:=hbz wk;obtain⟨ae,ak⟩:=qZ (Hr.an<|Hl.an trivial);have Ey:=Hq.out.2.2.1;cases t with
    | false=>
      have Hz:Hid (last=Z):=by have hz:=HZ.out;simp only[Bool.false_eq_true,if_false]at hz;exact hz
      go_wp2;have r0:wk.cell? ⟨w.heap.size,0,none⟩=some (ag false):=ae.1.out.cell 0;have r1:wk.cell? ⟨w.heap.size,1,none⟩=some (.string ⟨#[]⟩):=ae.1.out.cell 1;refine bodyPost_ret (v:=.agg #[ag (az last),ah (nt last.natAbs)]) (by simp[results,Tryz.results219,go_sem,r0,r1]) rfl ⟨by rw[Hz.out],?_⟩;exact(Ey.setCell zp _).setCell zp _
    | true=>
      have Hz:Hid (-last=Z):=by have hz:=HZ.out;simp only[if_true]at hz;exact hz
      have hneg:∀W,Cv 208 #[.agg #[ag (az last),ah (nt last.natAbs)]] W (cd (-last)):=λW=>by have:=ajU (az last) (nt last.natAbs) W LW.out;rw[dH]at this;exact this
      go_wp2_with fail;refine aJ (Hb.an ae) (hneg _) λw4 ae ak=>?_;clear hneg;go_wp2;have r0:w4.cell? ⟨w.heap.size,0,none⟩=some (ag false):=ae.2.1.out.cell 0;have r1:w4.cell? ⟨w.heap.size,1,none⟩=some (.string ⟨#[]⟩):=ae.2.1.out.cell 1;refine bodyPost_ret (v:=.agg #[ag (az (-last)),ah (nt (-last).natAbs)]) (by simp[results,Tryz.results219,go_sem,r0,r1]) rfl ⟨by rw[Hz.out],?_⟩;exact((Ey.trans (ae.1.out.mono (by have:=Hq.out.2.2.2;omega))).setCell zp _).setCell zp _
def ao1 (n l k:Nat)(f:Nat->Nat->Int)(last:Int)(t:Bool)(Q:Nat)(hk:k+l=n)(hl:last.natAbs<2^Q)(hf:∀a b,a<n->b<n->(f a b).natAbs<2^Q)(hex:iz n l k f last):(eX n l k f last t).natAbs<2^(2^l* (Q+1)):=by
 induction l generalizing k f last t Q with
 | zero=>
   unfold eX;have h1:2^Q<=2^(2^0* (Q+1)):=Nat.pow_le_pow_right zd zm;split
   . rw[Int.natAbs_neg];omega
   . omega
 | succ l ih=>
   unfold eX;unfold iz at hex;cases hp:sP f n k with
   |none=>exact Nat.pow_pos zd
   | some m=>
     rw[hp]at hex;simp only at hex⊢;have OB:=ny hp;obtain⟨g,hg⟩:∃g,g=bY f k (k+m):=⟨_,rfl⟩;rw[<-hg]at hex⊢;have hkn:k<n:=by omega
     have jE:∀a b,a<n->b<n->(g a b).natAbs<2^Q:=by
      intro a b ha hb;rw[hg];unfold bY;refine hf _ _ ?_ hb;split
      . omega
      . split
        . omega
        . exact ha
     have ya:2^Q<=2^(2*Q+1):=Nat.pow_le_pow_right zd zo;have e:2^(l+1) * (Q+1)=2^l* (2*Q+1+1):=by rw[Nat.pow_succ,Nat.mul_assoc];congr 1
     rw[e];refine ih (k+1) _ _ _ (2*Q+1) zo (Nat.lt_of_lt_of_le (jE k k hkn hkn) ya) (λa b ha hb=>?_) hex.2;unfold dz;split
     . rename_i h4
       have h5:=(WT g k a b Q (jE a b ha hb) (jE k k hkn hkn) (jE a k ha hkn) (jE k b hkn hb)).2.2;rcases div_lt _ last _ h5 with h6|h6
       . exact h6
       . exact absurd (hex.1 a b h4.1 ha h4.2 hb) h6
     . exact Nat.lt_of_lt_of_le (jE a b ha hb) ya
def cC (D:List (List Dyadic))(i j:Nat):Dyadic:=(D.getD i []).getD j 0
def aAi (D:List (List Dyadic))(n:Nat)(g:Dyadic->Int)(hl:D.length=n)(hr:∀r∈D,r.length=n):(D.map λr=>r.map g)=eV (λi j=>g (cC D i j)) n:=by
 apply List.ext_getElem
 . simp[eV,hl]
 . intro i h1 h2;have hi:i<D.length:=by simpa using h1
   have hri:=hr _ (List.getElem_mem hi);apply List.ext_getElem
   . simp[eV,hri]
   . intro j h3 h4;have hj:j<D[i].length:=by simpa using h3
     simp[eV,cC,List.getD_eq_getElem?_getD,hi,hj]
def acE {D:List (List Dyadic)}{n i j:Nat}(hl:D.length=n)(hr:∀r∈D,r.length=n)(hi:i<n)(hj:j<n):∃r∈D,cC D i j∈r:=by
 have h1:i<D.length:=by omega
 have h2:j<D[i].length:=by rw[hr _ (List.getElem_mem h1)];exact hj
 refine⟨D[i],List.getElem_mem h1,?_⟩;have:cC D i j=D[i][j]:=by simp[cC,List.getD_eq_getElem?_getD,h1,h2]
 rw[this];exact List.getElem_mem h2
def Tj (a:Option Addr)(cap n:Nat)(rows:List (List Raw))(B:Nat)(D:List (List Dyadic))(X:Dyadic)(w:World)(hn:1<=n)(bZ:n<=4)(hL:rows.length=n)(hrow:∀r∈rows,r.length=n)(ha:bJ w a rows)
 (hfit:∀r∈rows,∀c∈r,Fit B c) (bP:1<=B) (hB:B<=1000000) (hT:aC w) (hD:(rows.map λr=>r.map au)=D) (hX:dW n (cC D)=X):
 Cv 146 #[.slice a n cap] w (.tuple #[bT X,af 0]):=by
 obtain⟨low,lU⟩:=aB (ov 0 D);have hDl:D.length=n:=by rw[<-hD];simp[hL]
 have Np:∀r∈D,r.length=n:=by intro r hr;rw[<-hD]at hr;obtain⟨x,hx,rfl⟩:=List.mem_map.1 hr;simpa using hrow x hx
 have iU:∀r∈D,∀d∈r,Sm B d:=by intro r hr d hd;rw[<-hD]at hr;obtain⟨x,hx,rfl⟩:=List.mem_map.1 hr;obtain⟨y,hy,rfl⟩:=List.mem_map.1 hd;exact(hfit x hx y hy).2
 have hlo:=WB 0 D;rw[lU]at hlo;have hlb: -(B:Int)<=low:=by rw[<-lU];exact WA 0 D _ zo (λr hr d hd=>(iU r hr d hd).parts.2.1)
 obtain⟨f,hf⟩:∃f:Nat->Nat->Int,f=λi j=>um low (cC D i j):=⟨_,rfl⟩;have Ar:(D.map λr=>r.map (um low))=eV f n:=by rw[hf];exact aAi D n (um low) hDl Np
 have hK:∀a b,a<n->b<n->(f a b).natAbs<2^(4*B):=by
  intro i j hi hj;obtain⟨r,hr,hm⟩:=acE hDl Np hi hj;obtain⟨s1,s2,s3⟩:=(iU r hr _ hm).parts;rw[hf];show(um low (cC D i j)).natAbs<_
  unfold um;rw[Int.natAbs_mul,Int.natAbs_pow,show 4*B=2*B+2*B by omega,Nat.pow_add];exact Nat.lt_of_lt_of_le (Nat.mul_lt_mul_of_pos_right s1 (Nat.pow_pos zd)) (Nat.mul_le_mul_left _ (Nat.pow_le_pow_right zd zo))
 have hent:∀i j,i<n->j<n->cC D i j=Dyadic.ofIntWithPrec (f i j) (-low):=by intro i j hi hj;obtain⟨r,hr,hm⟩:=acE hDl Np hi hj;rw[hf];exact(azg low _ (hlo.2 r hr _ hm)).symm
 have rF:=aq0 n hn bZ f (cC D) (-low) hent;have hex:=acH n hn bZ f;have hzl:=ao1 n n 0 f 1 false (4*B) zo (Nat.one_lt_two_pow zo) hK hex;obtain⟨z,hz⟩:=aB (eX n n 0 f 1 false);rw[hz]at hzl rF;have agT:(nt z.natAbs).length<=34359738368:=by refine jK hzl ?_;have:2^n<=2^4:=Nat.pow_le_pow_right zd bZ;have:=Nat.mul_le_mul_right (4*B+1) this;omega
 obtain⟨e,he⟩:∃e:Int,low*n=e:=⟨_,rfl⟩;have heb: -4000000<=e/\e<=4000000:=by
  have hl0:=hlo.1;have hc:n=1\/n=2\/n=3\/n=4:=by omega
  rcases hc with rfl|rfl|rfl|rfl<;>omega
 have kZ:au (az z,nt z.natAbs,e)=X:=by
  rw[<-hX,rF];show Dyadic.ofIntWithPrec (iv (az z) (nt z.natAbs)) (-e)=_
  rw[dH,<-he];congr 1;rw[Int.mul_comm,Int.mul_neg]
 obtain⟨nl,hnl⟩:=aB (-low);have hw1:IntKind.i64.wrap (-nl)=low:=by rw[IntKind.wrap_i64];have:=hlo.1;omega
 have hw2:IntKind.i64.wrap (low* (n:Int))=e:=by rw[he,IntKind.wrap_i64];omega
 have hm0:yG rows=0:=by
  unfold yG;rw[if_neg];rintro(h|h)
  . omega
  . rw[List.any_eq_true]at h;obtain⟨r,hr,h⟩:=h;have:=hrow r hr;simp at h;omega
 have hch:=λW=>λ(h:bJ W a rows)=>WG a n cap rows W hL zo h;rw[hm0]at hch;have hsc:=λW=>λ(h:bJ W a rows) (hT:aC W)=>aiO a n cap n rows B low W hL zo zo hrow h hfit zo hT (by rw[hD];exact lU);rw[hD,Ar,hnl]at hsc;have hbr:=λv W base=>λ(h:jS W base n (eV f n) n v) (h2:base<=W.heap.size)=>ao4 base n (4*B) f v W hn bZ h h2 zo hK zo;rw[hz]at hbr;have hmk:=λW=>λ(hT:aC W)=>yF (az z) (nt z.natAbs) e X kZ W agT zo hT;obtain⟨xB,BF,lH,mG,Ha,HT⟩:=gU hch hsc hbr hmk ha hT;clear hch hsc hbr hmk ha hT hm0 kZ heb he agT hz hzl hex rF hent hK Ar hf hlb hlo iU Np hDl lU hD hX hfit hrow hL hnl;have Hb:=hbz w;go_enter Tryz.func146,Tryz.ntmps146;go_wp2_with fail;refine ik w (Hb.an trivial) 30 [ag false,.string ⟨#[]⟩,af 0] λW aR ae ak=>?_;have HA:Hid (bJ W a rows):=Ha.out.below ae.2.1.out;have HU:Hid (aC W):=HT.out.below ae.2.1.out;go_wp2_with fail;refine aJ (HA.an<|HU.an ae) (xB.out _ HA.out) λw1 ae ak=>?_;go_wp2_with fail;refine(BF.out _ ae.1.out ae.2.1.out).mono ?_;rintro e' w2 ⟨v,rfl,hO,hb2⟩;have HO:=aj hO;have xh:=hb2.size;clear hO;go_wp2_with fail;refine(lH.out v w2 w1.heap.size HO.out xh).mono ?_;rintro e' w3 ⟨rfl,hb3⟩;have hb4:=hb2.trans hb3;clear hb2 hb3 HO;obtain⟨ae,ak⟩:=qX hb4 ae;skip
 clear hb4;go_wp2_with fail;refine aJ ae (mG.out _ ae.2.1.out) λw4 ae ak=>?_;go_wp2;refine dX (aV w4 (w.heap.size) 0 (bG X)) aX ?_;intro w9 hs0;have ae:=bU hs0 ae;simp only[bV,List.set]at ae;have ak:=qC ae;refine bodyPost_ret (v:=.tuple #[bT X,af 0]) (by simp[results,Tryz.results146,go_sem,ak]) rfl ⟨rfl,ae.2.2.2.1.out⟩
def cm (rows:List (List Raw)):Nat->Nat->Dyadic:=λa b=>cC (rows.map λr=>r.map au) a b
def aq3 (o p:List Raw)(k:Nat)(h:k<p.length)(h':k<o.length):(kO o p).getD k 0=au p[k]-au o[k]:=by unfold kO;rw[List.getD_eq_getElem?_getD,List.getElem?_zipWith];simp[h,h']
def xa (rows:List (List Raw))(a b:Nat)(ha:a<rows.length)(hb:b<rows[a].length):cm rows a b=au rows[a][b]:=by simp[cm,cC,List.getD_eq_getElem?_getD,ha,hb]
def aiY (n:Nat)(rows:List (List Raw))(hL:rows.length=n+1)(hrow:∀r∈rows,r.length=n)(i j:Nat)(hi:i<n)(hj:j<n):
 cC ((rows.drop 1).map λp=>kO (rows.getD 0 []) p) i j=cm rows (i+1) j-cm rows 0 j:=by
 have h0:0<rows.length:=by omega
 have h1:i+1<rows.length:=by omega
 have l0:=hrow _ (List.getElem_mem h0);have l1:=hrow _ (List.getElem_mem h1);rw[xa rows (i+1) j h1 zo,xa rows 0 j h0 zo];have e0:rows.getD 0 []=rows[0]:=by simp[h0]
 have e1:((rows.drop 1).map λp=>kO (rows.getD 0 []) p).getD i []=kO rows[0] rows[i+1]:=by rw[e0,List.getD_eq_getElem?_getD,List.getElem?_map,List.getElem?_drop];rw[show 1+i=i+1 by omega,List.getElem?_eq_getElem h1];rfl
 unfold cC;rw[e1,aq3 _ _ _ zo zo]
def MJ (n:Nat)(bZ:n<=4){e f:Nat->Nat->Dyadic}(h:∀i j,i<n->j<n->e i j=f i j):dW n e=dW n f:=by
 have hc:n=0\/n=1\/n=2\/n=3\/n=4:=by omega
 rcases hc with rfl|rfl|rfl|rfl|rfl
 . rfl
 . exact h 0 0 zo zo
 . unfold dW;simp only;rw[h 0 0 zo zo,h 0 1 zo zo,h 1 0 zo zo,h 1 1 zo zo]
 . unfold dW;simp only;rw[h 0 0 zo zo,h 0 1 zo zo,h 0 2 zo zo,h 1 0 zo zo,h 1 1 zo zo,h 1 2 zo zo,h 2 0 zo zo,h 2 1 zo zo,h 2 2 zo zo]
 . unfold dW;simp only;rw[h 0 0 zo zo,h 0 1 zo zo,h 0 2 zo zo,h 0 3 zo zo,h 1 0 zo zo,h 1 1 zo zo,h 1 2 zo zo,h 1 3 zo zo,h 2 0 zo zo,h 2 1 zo zo,h 2 2 zo zo,h 2 3 zo zo,h 3 0 zo zo,h 3 1 zo zo,h 3 2 zo zo,h 3 3 zo zo]
def Ti {B n:Nat}{e:Nat->Nat->Dyadic}(hn:1<=n)(bZ:n<=4)(h:∀i j,i<n->j<n->Sm B (e i j)):Sm (4*B+6) (dW n e):=by
 have m2:∀a b c d:Dyadic,Sm B a->Sm B b->Sm B c->Sm B d->Sm (2*B+1) (a*b-c*d):=λa b c d ha hb hc hd=>(Sm.sub (Sm.mul ha hb) (Sm.mul hc hd)).mono zo;have m3:∀x y:Dyadic,Sm B x->Sm (2*B+1) y->Sm (3*B+1) (x*y):=λx y hx hy=>(Sm.mul hx hy).mono zo;have m4:∀x y z:Dyadic,Sm (3*B+1) x->Sm (3*B+1) y->Sm (3*B+1) z->Sm (3*B+3) (x-y+z):=λx y z hx hy hz=>(Sm.add (Sm.sub hx hy) (hz.mono zo)).mono zo;have m5:∀x y:Dyadic,Sm B x->Sm (3*B+3) y->Sm (4*B+3) (x*y):=λx y hx hy=>(Sm.mul hx hy).mono zo;have hc:n=1\/n=2\/n=3\/n=4:=by omega
 rcases hc with rfl|rfl|rfl|rfl
 . exact(h 0 0 zo zo).mono zo
 . exact(Sm.sub (Sm.mul (h 0 0 zo zo) (h 1 1 zo zo)) (Sm.mul (h 0 1 zo zo) (h 1 0 zo zo))).mono zo
 . unfold dW;refine(m4 _ _ _ (m3 _ _ ?_ (m2 _ _ _ _ ?_ ?_ ?_ ?_)) (m3 _ _ ?_ (m2 _ _ _ _ ?_ ?_ ?_ ?_)) (m3 _ _ ?_ (m2 _ _ _ _ ?_ ?_ ?_ ?_))).mono zo<;>exact h _ _ zo zo
 . unfold dW;have m6:∀x y z u:Dyadic,Sm (4*B+3) x->Sm (4*B+3) y->Sm (4*B+3) z->Sm (4*B+3) u->Sm (4*B+6) (x-y+z-u):=λx y z u hx hy hz hu=>(Sm.sub (Sm.add (Sm.sub hx hy) (hz.mono zo)) (hu.mono zo)).mono zo;refine m6 _ _ _ _ (m5 _ _ ?_ (m4 _ _ _ (m3 _ _ ?_ (m2 _ _ _ _ ?_ ?_ ?_ ?_)) (m3 _ _ ?_ (m2 _ _ _ _ ?_ ?_ ?_ ?_)) (m3 _ _ ?_ (m2 _ _ _ _ ?_ ?_ ?_ ?_)))) (m5 _ _ ?_ (m4 _ _ _ (m3 _ _ ?_ (m2 _ _ _ _ ?_ ?_ ?_ ?_)) (m3 _ _ ?_ (m2 _ _ _ _ ?_ ?_ ?_ ?_)) (m3 _ _ ?_ (m2 _ _ _ _ ?_ ?_ ?_ ?_)))) (m5 _ _ ?_ (m4 _ _ _ (m3 _ _ ?_ (m2 _ _ _ _ ?_ ?_ ?_ ?_)) (m3 _ _ ?_ (m2 _ _ _ _ ?_ ?_ ?_ ?_)) (m3 _ _ ?_ (m2 _ _ _ _ ?_ ?_ ?_ ?_)))) (m5 _ _ ?_ (m4 _ _ _ (m3 _ _ ?_ (m2 _ _ _ _ ?_ ?_ ?_ ?_)) (m3 _ _ ?_ (m2 _ _ _ _ ?_ ?_ ?_ ?_)) (m3 _ _ ?_ (m2 _ _ _ _ ?_ ?_ ?_ ?_))))<;>exact h _ _ zo zo
def acA (X:Dyadic):bg X=0↔X=0:=by
 constructor
 . intro h;have h1:dN X=0:=by
    unfold bg eI at h;by_cases h1:dN X<0
    . rw[if_pos h1]at h;cases h
    . rw[if_neg h1]at h;by_cases h2:dN X=0
      . exact h2
      . rw[if_neg h2]at h;cases h
   have h2:=vD X;rw[h1,vE]at h2;exact h2
 . rintro rfl;rfl
noncomputable def jy (rows:List (List Raw)):Int:=if lF rows=0 then 1 else if bK (lF rows).toNat (cm rows)=0 then 5 else 0
def aiX (a:Option Addr)(cap n:Nat)(rows:List (List Raw))(B:Nat)(X:Dyadic)(w:World)(hn:1<=n)(bZ:n<=4)(hL:rows.length=n+1)(hrow:∀r∈rows,r.length=n)(hcap:n+1<=cap)(ha:bJ w a rows)
 (hfit:∀r∈rows,∀c∈r,Fit B c) (hB:B<=900000) (hT:aC w) (hX:bK n (cm rows)=X):
 Cv 59 #[.slice a (n+1) cap] w (.tuple #[bT X,af 0]):=by
 obtain⟨b,o,rfl⟩:∃b o,a=some ⟨b,o,none⟩:=by
  obtain⟨vals,hvl,hat,_⟩:=ha;rcases hat with h|⟨b,o,h,_⟩
  . rw[h]at hvl;simp at hvl;omega
  . exact⟨b,o,h⟩
 have hv:=PQ hL hrow hn zo;obtain⟨S,hS⟩:=aB ((rows.drop 1).map λp=>kO (rows.getD 0 []) p);have nU:S.length=n:=by rw[<-hS];simp[hL]
 have wF:∀r∈S,r.length=n:=by
  intro r hr;rw[<-hS]at hr;obtain⟨p,hp,rfl⟩:=List.mem_map.1 hr;have h0:0<rows.length:=by omega
  have e0:rows.getD 0 []=rows[0]:=by simp[h0]
  rw[MN (by rw[e0,hrow _ (List.mem_of_mem_drop hp),hrow _ (List.getElem_mem h0)]),hrow _ (List.mem_of_mem_drop hp)]
 have jW:∀r∈S,∀d∈r,Sm (B+1) d:=by
  intro r hr d hd;rw[<-hS]at hr;obtain⟨p,hp,rfl⟩:=List.mem_map.1 hr;unfold kO at hd;obtain⟨i,hi,rfl⟩:=List.mem_iff_getElem.1 hd;rw[List.getElem_zipWith];have h0:0<rows.length:=by omega
  have e0:rows.getD 0 []=rows[0]:=by simp[h0]
  refine Sm.sub (hfit p (List.mem_of_mem_drop hp) _ (List.getElem_mem _)).2 (hfit (rows.getD 0 []) ?_ _ (List.getElem_mem _)).2;rw[e0];exact List.getElem_mem h0
 have hent:dW n (cC S)=X:=by rw[<-hX,Iz];refine MJ n bZ (λi j hi hj=>?_);rw[<-hS];exact aiY n rows hL hrow i j hi hj
 have hvar:=λW=>λ(h:bJ W (some ⟨b,o,none⟩) rows)=>Yu (some ⟨b,o,none⟩) (n+1) cap rows W hL zo h;rw[hv]at hvar;have hrows:=λW=>λ(h:bJ W (some ⟨b,o,none⟩) rows) (hT:aC W)=>aiI b o cap n n rows B W hL zo hcap hn hn zo hrow h hfit zo hT;rw[hS]at hrows;have kZ:((S.map λr=>r.map canon).map λr=>r.map au)=S:=by
  rw[List.map_map];have:((λr:List Raw=>r.map au)∘λr:List Dyadic=>r.map canon)=id:=by
   funext r
   show(r.map canon).map au=r
   rw[List.map_map];have:(au∘canon)=id:=funext bF;rw[this];simp
  rw[this];simp
 have rF:=λW a' c'=>λ(h:bJ W a' (S.map λr=>r.map canon)) (hT:aC W)=>Tj a' c' n (S.map λr=>r.map canon) (B+1) S X W hn bZ (by simpa using nU) (by
  intro r hr;obtain⟨x,hx,rfl⟩:=List.mem_map.1 hr
  simpa using wF x hx) h (by
  intro r hr c hc;obtain⟨x,hx,rfl⟩:=List.mem_map.1 hr;obtain⟨y,hy,rfl⟩:=List.mem_map.1 hc
  exact(jW x hx y hy).fit zo) zo zo hT kZ hent
 obtain⟨Sd,anj,Gz,Ha,HT⟩:=gT hvar hrows rF ha hT;clear hvar hrows rF ha hT kZ hent jW wF nU hS hv hX hfit hrow hL;have hn0:¬(n:Int)=0:=by omega
 have Hb:=hbz w;go_enter Tryz.func59,Tryz.ntmps59;go_wp2_with fail;refine ik w (Hb.an trivial) 30 [ag false,.string ⟨#[]⟩,af 0] λW aR ae ak=>?_;have HA:Hid (bJ W (some ⟨b,o,none⟩) rows):=Ha.out.below ae.2.1.out;have HU:Hid (aC W):=HT.out.below ae.2.1.out;go_wp2_with fail;refine aJ (HA.an<|HU.an ae) (Sd.out _ HA.out) λw1 ae ak=>?_;go_wp2_with fail;refine(anj.out _ ae.1.out ae.2.1.out).mono ?_;rintro e w2 ⟨a',c',rfl,hcc,ky,ai⟩;obtain⟨ae,ak⟩:=qX ai ae;have Dj:=aj ky;clear ky;go_wp2_with fail;refine aJ ae (Gz.out _ a' c' Dj.out ae.2.1.out) λw3 ae ak=>?_;go_wp2;refine dX (aV w3 (w.heap.size) 0 (bG X)) aX ?_;intro w9 hs0;have ae:=bU hs0 ae;simp only[bV,List.set]at ae;have ak:=qC ae;refine bodyPost_ret (v:=.tuple #[bT X,af 0]) (by simp[results,Tryz.results59,go_sem,ak]) rfl ⟨rfl,ae.2.2.2.1.out⟩
def PP (a:Option Addr)(L cap:Nat)(rows:List (List Raw))(B:Nat)(w:World)(hL:rows.length=L)(hL5:L<=5)(hcap:L<=cap)(ha:bJ w a rows)
 (hfit:∀r∈rows,∀c∈r,Fit B c) (hB:B<=900000) (hT:aC w):
 Cv 48 #[.slice a L cap] w (af (jy rows)):=by
 obtain⟨R,hR⟩:=aB (jy rows);rw[hR];unfold jy at hR;by_cases hv:lF rows=0
 . rw[if_pos hv]at hR;subst hR;have hvar:=λW=>λ(h:bJ W a rows)=>Yu a L cap rows W hL zo h;rw[hv]at hvar;obtain⟨Sd,Ha⟩:=aK hvar ha;have hsz:∀W,Bw w W->Cv 59 #[.slice a L cap] W (.tuple #[.agg #[ag false,.string ⟨#[]⟩,af 0],af 1]):=by intro w0 hw0;have yU:=aj (Ha.out.below hw0);clear ha hfit hL hT hv hvar Ha hw0 w;obtain⟨w,Ke⟩:∃w,w=w0:=⟨_,rfl⟩;subst Ke;have Hb:=hbz w;go_enter Tryz.func59,Tryz.ntmps59;go_wp2_with fail;refine ik w (Hb.an trivial) 30 [ag false,.string ⟨#[]⟩,af 0] λW aR ae ak=>?_;go_wp2_with fail;refine aJ ae (Sd.out _ (yU.out.below ae.2.1.out)) λw1 ae ak=>?_;go_wp2;refine dX (aV w1 (w.heap.size) 0 [ag false,.string ⟨#[]⟩,af 0]) aX ?_;intro w9 hs0;have ae:=bU hs0 ae;simp only[bV,List.set]at ae;have ak:=qC ae;refine bodyPost_ret (v:=.tuple #[.agg #[ag false,.string ⟨#[]⟩,af 0],af 1]) (by simp[results,Tryz.results59,go_sem,ak]) rfl ⟨rfl,ae.2.1.out⟩
   have qR:=aj hsz;clear hsz hvar ha hfit hL hT hv;have Hb:=hbz w;go_enter Tryz.func48,Tryz.ntmps48;go_wp2_with fail;refine aJ (Hb.an trivial) (qR.out _ Hb.out) λw1 ae ak=>?_;have hsz:=ae.1.out.size;obtain⟨W2,nV,aR,ae,ak⟩:=bX w1 ae 30 [ag false,.string ⟨#[]⟩,af 0];go_wp2;refine bodyPost_ret (results_tmp rfl _ _ _) rfl ⟨rfl,?_⟩;exact((ae.2.1.out.setCell zp _).setCell zp _).setCell zp _
 . obtain⟨n,hn⟩:∃n:Nat,lF rows=n:=⟨(lF rows).toNat,by have:=FH rfl hv;omega⟩;rw[if_neg hv,hn,Int.toNat_natCast]at hR;obtain⟨c1,c2,c3,c4⟩:=FH hn zo;obtain rfl:L=n+1:=by omega
   obtain⟨X,hX⟩:=aB (bK n (cm rows));rw[hX]at hR;have hsz:=λW=>λ(h:bJ W a rows) (hT:aC W)=>aiX a cap n rows B X W zo zo zo (λr hr=>by have:=c4 r hr;omega) hcap h hfit hB hT hX;have hXm:Sm (4* (B+1)+6) X:=by
    rw[<-hX,Iz];refine Ti zo zo (λi j hi hj=>?_);have h0:0<rows.length:=by omega
    have h1:i+1<rows.length:=by omega
    have l0:=c4 _ (List.getElem_mem h0);have l1:=c4 _ (List.getElem_mem h1);rw[xa rows (i+1) j h1 zo,xa rows 0 j h0 zo];exact Sm.sub (hfit _ (List.getElem_mem h1) _ (List.getElem_mem _)).2 (hfit _ (List.getElem_mem h0) _ (List.getElem_mem _)).2
   have fK:∀W,Cv 12 #[.agg #[ag (az (dN X)),ah (nt (dN X).natAbs),af (dE X)]] W (af (bg X)):=λW=>nR _ _ _ (bg X) (by show bg (au (canon X))=_;rw[bF]) W (hXm.ok zo);obtain⟨g,hg⟩:=aB (bg X);have hgz:R=if g=0 then 5 else 0:=by
    rw[<-hR,<-hg];by_cases h:X=0
    . rw[if_pos h,if_pos ((acA X).2 h)]
    . rw[if_neg h,if_neg (λh2=>h ((acA X).1 h2))]
   rw[hg]at fK;obtain⟨qR,oV,Ha,HT,Hgz⟩:=gT hsz fK ha hT hgz;clear hsz fK ha hT hgz hg hX hR hfit c4 hL;have Hb:=hbz w;go_enter Tryz.func48,Tryz.ntmps48;go_wp2_with fail;refine aJ (Hb.an trivial) (qR.out _ (Ha.out.below Hb.out) (HT.out.below Hb.out)) λw1 ae ak=>?_;obtain⟨W2,nV,aR,ae,ak⟩:=bX w1 ae 30 (bG X);go_wp2_with fail;refine aJ ae (oV.out _) λw3 ae ak=>?_;by_cases hg0:g=0
   . have hr:=Hgz.out;rw[if_pos hg0]at hr;subst hr hg0;go_wp2;refine bodyPost_ret (results_tmp rfl _ _ _) rfl ⟨rfl,ae.2.1.out⟩
   . have hr:=Hgz.out;rw[if_neg hg0]at hr;subst hr;go_wp2;refine bodyPost_ret (results_tmp rfl _ _ _) rfl ⟨rfl,ae.2.1.out⟩
end Go.Proofs.YtbkopgdpcijfbaaGreatDoor
namespace Go.Proofs.YtbkopgdpcijfbaaGreatDoor
def El (p:Nat->Nat->Dyadic):Nat->Nat->Dyadic:=λa b=>p (a+1) b-p 0 b
def mK (n:Nat)(e:Nat->Nat->Dyadic)(k i:Nat):Dyadic:=if(k+i)%2=1 then-dW (n-1) (nk e i k)else dW (n-1) (nk e i k)
def kI (n:Nat)(p:Nat->Nat->Dyadic)(k i:Nat):Dyadic:=mK n (El p) k i*jb (bK n p)
def wS (n:Nat)(p:Nat->Nat->Dyadic)(x:Nat->Dyadic)(i:Nat):Nat->Dyadic
 |0=>0
 |k+1=>wS n p x i k+(x k-p 0 k) *kI n p k i
def aBa (n:Nat)(p:Nat->Nat->Dyadic)(x:Nat->Dyadic)(i k:Nat):wS n p x i k=jb (bK n p) *EX n (El p) (λk=>x k-p 0 k) i k:=by
 induction k with
 |zero=>simp[wS,EX]
 |succ k ih=>unfold wS EX;rw[ih];unfold kI mK;generalize (if(k+i)%2=1 then-dW (n-1) (nk (El p) i k)else dW (n-1) (nk (El p) i k))=z;grind
def KX (n:Nat)(hn:1<=n)(bZ:n<=4)(p:Nat->Nat->Dyadic)(x:Nat->Dyadic)(i:Nat)(hi:i<n):wS n p x i n=xt n p x (i+1):=by rw[aBa,ave n hn bZ _ _ i hi];unfold xt;rw[arx];rfl
def wZ (n:Nat)(p:Nat->Nat->Dyadic)(x:Nat->Dyadic):Nat->Dyadic
 |0=>jb (bK n p) *bK n p
 |k+1=>wZ n p x k-xt n p x (k+1)
def aBf (n:Nat)(p:Nat->Nat->Dyadic)(x:Nat->Dyadic)(k:Nat):wZ n p x k=jb (bK n p) *bK n p-fu (λi=>xt n p x (i+1)) k:=by
 induction k with
 |zero=>simp[wZ,fu];grind
 |succ k ih=>unfold wZ fu;rw[ih];grind
def aBg (n:Nat)(hn:1<=n)(bZ:n<=4)(p:Nat->Nat->Dyadic)(x:Nat->Dyadic):wZ n p x n=xt n p x 0:=by rw[aBf];unfold xt;rw[az3,aBG n hn bZ p x];grind
def aiQ (X:Dyadic):jb X*X=if X<0 then-X else X:=by
 rw[aiR];split
 . grind
 . split<;>grind
def MK {B n:Nat}{e:Nat->Nat->Dyadic}(bZ:n<=4)(h:∀i j,i<n->j<n->Sm B (e i j)):Sm (4*B+6) (dW n e):=by
 by_cases h0:n=0
 . subst h0;exact Sm.one.mono zo
 . exact Ti zo bZ h
def XD (X:Dyadic):Sm 1 (jb X):=by
 rw[aiR];split
 . exact Sm.neg Sm.one
 . split
   . exact Sm.zero _
   . exact Sm.one
def MR {B n:Nat}{p:Nat->Nat->Dyadic}(h:∀a b,a<=n->b<n->Sm B (p a b))(a b:Nat)(ha:a<n)(hb:b<n):Sm (B+1) (El p a b):=Sm.sub (h (a+1) b zo hb) (h 0 b zo hb)
def abg {B n:Nat}{e:Nat->Nat->Dyadic}(hn:1<=n)(bZ:n<=4)(h:∀i j,i<n->j<n->Sm B (e i j))(k i:Nat):Sm (4*B+6) (mK n e k i):=by
 have h2:Sm (4*B+6) (dW (n-1) (nk e i k)):=MK zo (λa b ha hb=>h _ _ (by split<;>omega) (by split<;>omega));unfold mK;split
 . exact h2.neg
 . exact h2
def Mu {B n:Nat}{p:Nat->Nat->Dyadic}(hn:1<=n)(bZ:n<=4)(h:∀a b,a<=n->b<n->Sm B (p a b))(k i:Nat):Sm (4*B+11) (kI n p k i):=
 (Sm.mul (abg (B:=B+1) hn bZ (λa b ha hb=>MR h a b ha hb) k i) (XD _)).mono zo
def aiZ {B n:Nat}{p:Nat->Nat->Dyadic}(bZ:n<=4)(h:∀a b,a<=n->b<n->Sm B (p a b)):Sm (4*B+11) (jb (bK n p) *bK n p):=by rw[Iz];exact(Sm.mul (XD _) (MK (B:=B+1) bZ (λa b ha hb=>MR h a b ha hb))).mono zo
def Yx {B n:Nat}{p:Nat->Nat->Dyadic}{x:Nat->Dyadic}(hn:1<=n)(bZ:n<=4)(h:∀a b,a<=n->b<n->Sm B (p a b))(hx:∀b,b<n->Sm B (x b))(i k:Nat)(hk:k<=n):Sm (5*B+12+k) (wS n p x i k):=by
 induction k with
 |zero=>exact Sm.zero _
 |succ k ih=>have h1:=ih zo;have h2:Sm (5*B+12) ((x k-p 0 k) *kI n p k i):=(Sm.mul (Sm.sub (hx k zo) (h 0 k zo zo)) (Mu hn bZ h k i)).mono zo;exact(h1.add (h2.mono zo)).mono zo
def aBE {B n:Nat}{p:Nat->Nat->Dyadic}{x:Nat->Dyadic}(hn:1<=n)(bZ:n<=4)(h:∀a b,a<=n->b<n->Sm B (p a b))(hx:∀b,b<n->Sm B (x b))(i:Nat)(hi:i<n):Sm (5*B+16) (xt n p x (i+1)):=by rw[<-KX n hn bZ p x i hi];exact(Yx hn bZ h hx i n (Nat.le_refl _)).mono zo
def aBe {B n:Nat}{p:Nat->Nat->Dyadic}{x:Nat->Dyadic}(hn:1<=n)(bZ:n<=4)(h:∀a b,a<=n->b<n->Sm B (p a b))(hx:∀b,b<n->Sm B (x b))(k:Nat)(hk:k<=n):Sm (5*B+16+k) (wZ n p x k):=by
 induction k with
 |zero=>exact(aiZ bZ h).mono zo
 |succ k ih=>exact(Sm.sub (ih zo) ((aBE hn bZ h hx k zo).mono zo)).mono zo
def wC (n:Nat)(p:Nat->Nat->Dyadic)(i:Nat):Dyadic:=wS n p (λ_=>0) i n
def lZ (n:Nat)(p:Nat->Nat->Dyadic)(b:Nat):Nat->Dyadic
 |0=>0
 |k+1=>lZ n p b k-kI n p b k
def ajV (n:Nat)(p:Nat->Nat->Dyadic)(x:Nat->Dyadic)(i k:Nat):wS n p x i k=wS n p (λ_=>0) i k+fu (λb=>kI n p b i*x b) k:=by
 induction k with
 |zero=>simp[wS,fu]
 |succ k ih=>unfold wS fu;rw[ih];grind
def aBd (n:Nat)(hn:1<=n)(bZ:n<=4)(p:Nat->Nat->Dyadic)(x:Nat->Dyadic)(k:Nat)(hk:k<=n):wZ n p x k=wZ n p (λ_=>0) k+fu (λb=>lZ n p b k*x b) n:=by
 induction k with
 | zero=>
   have:fu (λb=>lZ n p b 0*x b) n=0:=by rw[ajj (g:=λ_=>(0:Dyadic) *0) n (λb _=>by simp[lZ]),ajk];grind
   rw[this];unfold wZ;grind
 | succ k ih=>
   unfold wZ;rw[ih zo,<-KX n hn bZ p x k zo,<-KX n hn bZ p (λ_=>0) k zo,ajV n p x k n];have:fu (λb=>lZ n p b (k+1) *x b) n=fu (λb=>lZ n p b k*x b) n+fu (λb=>kI n p b k*x b) n* (-1):=by rw[<-ajk,<-az2];exact ajj n (λb _=>by simp only[lZ];grind)
   rw[this];grind
def mo (R:List (List Dyadic))(r c:Nat):List (List Dyadic):=(R.eraseIdx r).map λx=>x.eraseIdx c
def ahM (R:List (List Dyadic))(r c m:Nat)(hL:R.length=m+1)(hr:r<=m):(mo R r c).length=m:=by unfold mo;rw[List.length_map,List.length_eraseIdx_of_lt zo];omega
def ahN (R:List (List Dyadic))(r c m:Nat)(hrow:∀x∈R,x.length=m+1)(hc:c<=m):∀x∈mo R r c,x.length=m:=by intro x hx;unfold mo at hx;obtain⟨y,hy,rfl⟩:=List.mem_map.1 hx;have:=hrow y (List.mem_of_mem_eraseIdx hy);rw[List.length_eraseIdx_of_lt zo];omega
def ahL (R:List (List Dyadic))(r c m:Nat)(hL:R.length=m+1)(hr:r<=m)(j:Nat)(hj:j<m):(mo R r c).getD j []=(R.getD (if j<r then j else j+1) []).eraseIdx c:=by
 unfold mo;have h1:j<(R.eraseIdx r).length:=by rw[List.length_eraseIdx_of_lt zo];omega
 rw[List.getD_eq_getElem?_getD,List.getElem?_map,List.getElem?_eq_getElem h1,Option.map_some,Option.getD_some,List.getElem_eraseIdx];split
 . rename_i h;rw[List.getD_eq_getElem?_getD,List.getElem?_eq_getElem zo];rfl
 . rename_i h;rw[List.getD_eq_getElem?_getD,List.getElem?_eq_getElem zo];rfl
def asA (l:List Dyadic)(c j:Nat)(h:j+1<l.length)(hc:c<l.length):(l.eraseIdx c).getD j 0=l.getD (if j<c then j else j+1) 0:=by
 have h1:j<(l.eraseIdx c).length:=by rw[List.length_eraseIdx_of_lt hc];omega
 rw[List.getD_eq_getElem?_getD,List.getElem?_eq_getElem h1,Option.getD_some,List.getElem_eraseIdx];split
 . rw[List.getD_eq_getElem?_getD,List.getElem?_eq_getElem zo];rfl
 . rw[List.getD_eq_getElem?_getD,List.getElem?_eq_getElem zo];rfl
def awg (R:List (List Dyadic))(r c m:Nat)(hL:R.length=m+1)(hrow:∀x∈R,x.length=m+1)(hr:r<=m)(hc:c<=m)(i j:Nat)(hi:i<m)(hj:j<m):cC (mo R r c) i j=nk (cC R) r c i j:=by
 show((mo R r c).getD i []).getD j 0=(R.getD (if i<r then i else i+1) []).getD (if j<c then j else j+1) 0
 rw[ahL R r c m hL hr i hi];have hk:(if i<r then i else i+1)<R.length:=by split<;>omega
 have e:R.getD (if i<r then i else i+1) []=R[if i<r then i else i+1]'hk:=by rw[List.getD_eq_getElem?_getD,List.getElem?_eq_getElem hk];rfl
 have hl:=hrow _ (List.getElem_mem hk);rw[e];exact asA _ c j (by rw[hl];omega) (by rw[hl];omega)
def uG (n:Nat)(e:Nat->Nat->Dyadic):List (List Dyadic):=(List.range n).map λa=>(List.range n).map λb=>mK n e a b
def abj (n:Nat)(e:Nat->Nat->Dyadic)(a:Nat)(ha:a<n):(uG n e).getD a []=(List.range n).map λb=>mK n e a b:=by unfold uG;simp[List.getD_eq_getElem?_getD,ha]
def aox (n:Nat)(e:Nat->Nat->Dyadic)(a b:Nat)(ha:a<n)(hb:b<n):cC (uG n e) a b=mK n e a b:=by unfold cC;rw[abj n e a ha];simp[List.getD_eq_getElem?_getD,hb]
def aoy (n:Nat)(e:Nat->Nat->Dyadic):(uG n e).length=n:=by simp[uG]
def aoz (n:Nat)(e:Nat->Nat->Dyadic):∀r∈uG n e,r.length=n:=by intro r hr;unfold uG at hr;obtain⟨x,_,rfl⟩:=List.mem_map.1 hr;simp
def awf (R:List (List Dyadic))(r c m:Nat)(hL:R.length=m+1)(hrow:∀x∈R,x.length=m+1)(hr:r<=m)(hc:c<=m)(hm:m<=4):dW m (cC (mo R r c))=dW m (nk (cC R) r c):=
 MJ m hm (λi j hi hj=>awg R r c m hL hrow hr hc i j hi hj)
def awh {B:Nat}{R:List (List Dyadic)}(h:∀x∈R,∀d∈x,Sm B d)(r c:Nat):∀x∈mo R r c,∀d∈x,Sm B d:=by intro x hx d hd;unfold mo at hx;obtain⟨y,hy,rfl⟩:=List.mem_map.1 hx;exact h y (List.mem_of_mem_eraseIdx hy) d (List.mem_of_mem_eraseIdx hd)
end Go.Proofs.YtbkopgdpcijfbaaGreatDoor
namespace Go.Proofs.YtbkopgdpcijfbaaGreatDoor
open Go.RowKit
def tL (rows:List (List Raw))(i j v:Nat):List (List Raw):=(rows.set v (ow (rows.getD i []) (rows.getD j []))).map lR
def asf (r:List Raw):(lR r).map au=r.map au:=by unfold lR;rw[List.map_map];refine List.map_congr_left (λx _=>?_);exact bF _
def aej (V i j v B:Nat)(rows:List (List Raw))(hL:rows.length=V+1)(hrow:∀r∈rows,r.length=V)(hij:i<j)(hj:j<=V)(hfit:∀r∈rows,∀c∈r,Fit B c)(hB:B<=10000000):
 (tL rows i j v).length=V+1/\(∀r∈tL rows i j v,r.length=V)/\(∀r∈tL rows i j v,∀c∈r,Fit (B+3) c)/\
  ((tL rows i j v).map λr=>r.map au)=(rows.map λr=>r.map au).set v (midD (rows.getD i []) (rows.getD j []))/\
  ∀k,k<V->(midD (rows.getD i []) (rows.getD j [])).getD k 0=(((rows.map λr=>r.map au).getD i []).getD k 0+((rows.map λr=>r.map au).getD j []).getD k 0) *hp 1:=by
 have hi1:i<rows.length:=by omega
 have og:j<rows.length:=by omega
 have ei:rows.getD i []=rows[i]:=by simp[List.getD_eq_getElem?_getD,hi1]
 have ej:rows.getD j []=rows[j]:=by simp[List.getD_eq_getElem?_getD,og]
 have li:=hrow _ (List.getElem_mem hi1);have lj:=hrow _ (List.getElem_mem og);rw[show tL rows i j v=(rows.set v (ow rows[i] rows[j])).map lR by unfold tL;rw[ei,ej],ei,ej];have Am:(ow rows[i] rows[j]).length=V:=by rw[ahJ zo,li]
 refine⟨by simp[hL],λr hr=>?_,λr hr c hc=>?_,?_,λk hk=>?_⟩
 . obtain⟨x,hx,rfl⟩:=List.mem_map.1 hr;rw[acU];rcases List.mem_or_eq_of_mem_set hx with h|h
   . exact hrow x h
   . rw[h];exact Am
 . obtain ⟨x,hx,rfl⟩:=List.mem_map.1 hr;unfold lR at hc;obtain⟨y,hy,rfl⟩:=List.mem_map.1 hc;have hys:Sm (B+3) (au y):=by
    rcases List.mem_or_eq_of_mem_set hx with h|h
    . exact(hfit x h y hy).2.mono zo
    . rw[h]at hy;exact(ahI (hfit _ (List.getElem_mem hi1)) (hfit _ (List.getElem_mem og)) hB y hy).2
   exact hys.fit zo
 . rw[List.map_map];have e:((λr:List Raw=>r.map au)∘lR)=λr=>r.map au:=funext asf;rw[e,List.map_set];congr 1;unfold ow;rw[List.map_map];have:(au∘canon)=id:=funext bF;rw[this];simp
 . have h1:((rows.map λr=>r.map au).getD i []).getD k 0=au (rows[i][k]'zo):=by simp[List.getD_eq_getElem?_getD,hi1,show k<rows[i].length by omega]
   have h2:((rows.map λr=>r.map au).getD j []).getD k 0=au (rows[j][k]'zo):=by simp[List.getD_eq_getElem?_getD,og,show k<rows[j].length by omega]
   rw[h1,h2];unfold midD;rw[List.getD_eq_getElem?_getD,List.getElem?_zipWith,List.getElem?_eq_getElem zo,List.getElem?_eq_getElem zo];rfl
def aek (V i j v B:Nat)(rows:List (List Raw))(hL:rows.length=V+1)(hrow:∀r∈rows,r.length=V)(hij:i<j)(hj:j<=V)(hv:v<=V)(hfit:∀r∈rows,∀c∈r,Fit B c)(hB:B<=10000000)(a b:Nat)(ha:a<=V)(hb:b<V):
 cm (tL rows i j v) a b=jN (cm rows) (hp 1) i j v a b:=by
 obtain⟨q1,q2,_,q4,q5⟩:=aej V i j v B rows hL hrow hij hj hfit hB;unfold cm cC jN;rw[q4];have hlen:(rows.map λr=>r.map au).length=V+1:=by simp[hL]
 by_cases e:a=v
 . subst e;rw[if_pos rfl];have:((rows.map λr=>r.map au).set a (midD (rows.getD i []) (rows.getD j []))).getD a []=midD (rows.getD i []) (rows.getD j []):=by rw[List.getD_eq_getElem?_getD,List.getElem?_set_self zo];rfl
   rw[this];exact q5 b hb
 . rw[if_neg e];have:((rows.map λr=>r.map au).set v (midD (rows.getD i []) (rows.getD j []))).getD a []=(rows.map λr=>r.map au).getD a []:=by rw[List.getD_eq_getElem?_getD,List.getElem?_set_ne (λh=>e h.symm),<-List.getD_eq_getElem?_getD]
   rw[this]
def azP (p q:List Dyadic)(k:Nat):vJ p q k=gH (λi=>p.getD i 0) (λi=>q.getD i 0) k:=by
 induction k with
 |zero=>rfl
 |succ k ih=>unfold vJ gH;rw[ih]
def av6 (rows:List (List Raw))(a:Nat):(rows.map λr=>r.map au).getD a []=(rows.getD a []).map au:=by
 by_cases h:a<rows.length
 . simp[List.getD_eq_getElem?_getD,h]
 . simp[List.getD_eq_getElem?_getD,List.getElem?_eq_none (by omega:rows.length<=a)]
def KO (rows:List (List Raw))(n a b:Nat):cH rows n a b=cL n (cm rows) a b:=by unfold cH cL cm cC;rw[azP];simp only[av6]
def ai5 (n:Nat){p q:Nat->Nat->Dyadic}(h:∀a b,a<=n->b<n->p a b=q a b)(a b:Nat)(ha:a<=n)(hb:b<=n):cL n p a b=cL n q a b:=azM n (λk hk=>h a k ha hk) (λk hk=>h b k hb hk)
def nO.congr {n:Nat}{m:Dyadic}{c:Nat}{p q:Nat->Nat->Dyadic}(hk:nO n m c p)(h:∀a b,a<=n->b<n->p a b=q a b):nO n m c q:=by
 obtain⟨h1,old,h2,h3,h4⟩:=hk;refine⟨λa b ha hb=>?_,old,h2,h3,λa b ha hb hab hn=>?_⟩
 . rw[<-ai5 n h a b ha hb];exact h1 a b ha hb
 . rw[<-ai5 n h a b ha hb];exact h4 a b ha hb hab hn
def Wy (n:Nat)(hn:1<=n)(p:Nat->Nat->Dyadic)(sq:Nat->Nat->Dyadic)(tX:∀a b,sq a b=cL n p a b)(a b:Nat)(ha:a<=n)(hb:b<=n):cL n p a b<=(cZ sq (n+1)).2.2:=by
 have hF:=yD sq (n+1) zo;have h0:∀x y,0<=cL n p x y:=λx y=>XL _ _ _;rcases Nat.lt_trichotomy a b with h|h|h
 . rw[<-tX];exact ahp sq (n+1) a b h zo
 . subst h;have e:cL n p a a=0:=ai4 _ _;rw[e,hF.2.2,tX];exact h0 _ _
 . rw[XM,<-tX];exact ahp sq (n+1) b a h zo
def tM (n:Nat)(second:Bool)(rows:List (List Raw)):List (List Raw):=
 tL rows (cZ (cH rows n) (n+1)).1 (cZ (cH rows n) (n+1)).2.1 (if second then(cZ (cH rows n) (n+1)).1 else(cZ (cH rows n) (n+1)).2.1)
def iL (n:Nat)(ss:List Bool)(rows:List (List Raw)):List (List Raw):=ss.foldl (λr s=>tM n s r) rows
def Rw (n B:Nat)(rows:List (List Raw)):Prop:=rows.length=n+1/\(∀r∈rows,r.length=n)/\∀r∈rows,∀c∈r,Fit B c
def Ew {n B:Nat}{rows:List (List Raw)}(h:Rw n B rows)(hn:1<=n)(hB:B<=10000000)(s:Bool):Rw n (B+3) (tM n s rows):=by obtain⟨h1,h2,h3⟩:=h;have hF:=yD (cH rows n) (n+1) zo;obtain⟨q1,q2,q3,_,_⟩:=aej n (cZ (cH rows n) (n+1)).1 (cZ (cH rows n) (n+1)).2.1 (if s then(cZ (cH rows n) (n+1)).1 else(cZ (cH rows n) (n+1)).2.1) B rows h1 h2 hF.1 zo h3 hB;exact⟨q1,q2,q3⟩
def atn {n B:Nat}{rows:List (List Raw)}(h:Rw n B rows)(hn:1<=n)(hB:B<=10000000)(s:Bool){m:Dyadic}{c:Nat}(hk:nO n m c (cm rows)):nO n m (c-1) (cm (tM n s rows)):=by obtain⟨h1,h2,h3⟩:=h;have hF:=yD (cH rows n) (n+1) zo;have hall:=Wy n hn (cm rows) (cH rows n) (λa b=>KO rows n a b);unfold tM;generalize cZ (cH rows n) (n+1)=F at*;obtain⟨i,j,Y⟩:=F;obtain⟨f1,f2,f3⟩:=hF;simp only at f1 f2 f3 hall⊢;have hst:=hk.step (hp 1) Vy i j (if s then i else j) zo zo zo (by cases s<;>simp) (λa b ha hb=>by have:=hall a b ha hb;rw[f3,KO]at this;exact this);exact hst.congr (λa b ha hb=>(aek n i j _ B rows h1 h2 f1 zo (by cases s<;>simp<;>omega) h3 hB a b ha hb).symm)
def axM {n:Nat}(hn:1<=n)(ss:List Bool){B:Nat}{rows:List (List Raw)}(h:Rw n B rows)(hB:B+3*ss.length<=10000000):Rw n (B+3*ss.length) (iL n ss rows):=by
 induction ss generalizing B rows with
 |nil=>exact h
 |cons s ss ih=>simp only[List.length_cons]at hB⊢;have:=ih (Ew h hn zo s) zo;rwa [show B+3+3*ss.length=B+3* (ss.length+1)by omega]at this
def axL {n:Nat}(hn:1<=n)(ss:List Bool){B:Nat}{rows:List (List Raw)}(h:Rw n B rows)(hB:B+3*ss.length<=10000000){m:Dyadic}{c:Nat}(hk:nO n m c (cm rows)):nO n m (c-ss.length) (cm (iL n ss rows)):=by
 induction ss generalizing B rows c with
 |nil=>exact hk
 |cons s ss ih=>simp only[List.length_cons]at hB⊢;have:=ih (Ew h hn zo s) zo (atn h hn zo s hk);rwa [show c-1-ss.length=c-(ss.length+1)by omega]at this
end Go.Proofs.YtbkopgdpcijfbaaGreatDoor
namespace Go.Proofs.YtbkopgdpcijfbaaGreatDoor
def aA1 {rows:List (List Raw)}{B:Nat}(h5:rows.length<=5)(hf:∀r∈rows,∀c∈r,Fit B c)(hv:lF rows≠0):∃m,m+1<=4/\Rw (m+1) B rows:=by obtain⟨c1,c2,c3,c4⟩:=FH rfl hv;obtain⟨m,hm⟩:∃m:Nat,lF rows=((m+1:Nat):Int):=⟨((lF rows)-1).toNat,by omega⟩;exact⟨m,by omega,by omega,λr hr=>by have:=c4 r hr;omega,hf⟩
def aAo {rows:List (List Raw)}{B:Nat}(h5:rows.length<=5)(hf:∀r∈rows,∀c∈r,Fit B c)(h:jy rows=0):∃m,m+1<=4/\Rw (m+1) B rows:=
 aA1 h5 hf (λh0=>by unfold jy at h;rw[if_pos h0]at h;cases h)
end Go.Proofs.YtbkopgdpcijfbaaGreatDoor
