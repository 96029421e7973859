/- The reference of chapter 16: all rows of exponents. -/
import Derived.Test.YtnjfebkelecgaaaGreatDoorZ7
import Derived.Test.YtnjfebkelecgaaaGreatDoorZ21
import Derived.Test.YtnjfebkelecgaaaGreatDoorZ14
import Derived.Test.YtnjfebkelecgaaaGreatDoorZ15
import Derived.Test.YtnjfebkelecgaaaGreatDoorZ11
set_option linter.all false
set_option maxRecDepth 100000
set_option maxHeartbeats 16000000
namespace Go.Proofs.YtnjfebkelecgaaaGreatDoor
open Go.RowKit
attribute [local go_sem ↓] Go.wp_at_zero Go.wp_at_succ
def mZ (x:List Nat):Value:=.string (ex x)
def Tryz.aCL :(Tryz.prog.info? 9).map (λi=>(i.zero,i.size,i.bytes))=some (some (.string (bs [])),1,16):=by kernel_rfl
def av3 (n s k j:Nat):(kd n s k).length<=(kd n s (k+j)).length:=by
 induction j with
 |zero=>exact Nat.le_refl _
 |succ j ih=>rw[<-Nat.add_assoc,Kj,List.length_append];omega
def one_byte {W:World}{b s:Nat}(h:W.cell? ⟨b,0,none⟩=some (.int .u8 (s:Int))):(convert 84 9 (.slice (some ⟨b,0,none⟩) 1 1)).run Tryz.prog W=.ok (.string (ex [s])) W:=by
 have:=run_convert_bytes_arg (P:=Tryz.prog) W 84 5 Tryz.underlying84 Tryz.underlying5 b 0 1 1 [(s:Int)] rfl (λi hi=>by
  obtain rfl:i=0:=by simp at hi;omega
  exact h) 9 Tryz.underlying9
 rw[this];congr 2
def awj (n:Nat):∀(s:Nat) (w:World),n<=3->s<=5->Cl 93 #[ah ((n+1:Nat):Int),ah (s:Int)] w λe w'=>∃v,e=.returned v/\w'.ownsRow w.heap.size 9 1 v (bZ (n+1) s).length ((bZ (n+1) s).map mZ)/\Bw w w':=by
 induction n with
 | zero=>
   intro s w _ hs;have hcv:IntKind.u8.wrap (s:Int)=s:=by rw[IntKind.wrap_u8];omega
   obtain⟨x,hx⟩:=aI (ex [s]);obtain⟨c,hc⟩:∃c:Int,(s:Int)=c:=⟨_,rfl⟩;rw[hc]at hcv⊢;obtain⟨W,cP,ag,aC⟩:=gz w 5 [.int .u8 c];have d0:W.cell? ⟨w.heap.size,0,none⟩=some (.int .u8 c):=ag.2.1.out.cell 0;have Ni:(convert 84 9 (.slice (some ⟨w.heap.size,0,none⟩) 1 1)).run Tryz.prog W=.ok (.string x) W:=by rw[<-hx];exact one_byte (by rw[d0,hc])
   obtain⟨Hx,Hc⟩:=aU hx hc;clear hx hc;have e1:(((0+1:Nat):Nat):Int)=1:=rfl;rw[e1];go_enter Tryz.func93,Tryz.ntmps93;go_wp2;refine bodyPost_ret (results_tmp rfl _ _ _) rfl ⟨_,rfl,?_,ag.1.out.alloc (by have:=ag.1.out.size;omega) _⟩;have hsz:=ag.1.out.size;have e2:(bZ (0+1) s).map mZ=[.string x]:=by rw[<-Hx.out];rfl
   rw[e2];exact agl (n:=1) (aH.new _ _ _) hsz rfl zd
 | succ n ih=>
   intro s w hn hs;obtain⟨i0,hi,hz0,hz1,hz2⟩:=info_parts Tryz.aCL;have hI:∀k W,k<=s->Cl 93 #[ah ((n+1:Nat):Int),ah (k:Int)] W λe w'=>∃v,e=.returned v/\w'.ownsRow W.heap.size 9 1 v (bZ (n+1) k).length ((bZ (n+1) k).map mZ)/\Bw W w':=λk W hk=>ih k W zo zo;have hlen:∀k,k<=s->(kd (n+1) s (k+1)).length<=216:=λk hk=>by have h1:=av3 (n+1) s (k+1) (s-k);rw[show k+1+(s-k)=s+1 by omega,WG]at h1;have h2:(bZ (n+2) s).length=cnt (n+1) s:=lv (n+1) s;have h3:=Mh (n+1) s;have h4:(s+1)^(n+1)<=6^3:=Nat.le_trans (Nat.pow_le_pow_left zo _) (Nat.pow_le_pow_right zd zo);omega
   obtain⟨HI,jQ,Hi,cV,cW,cC,Hs⟩:=kH hI hlen hi hz0 hz1 hz2 hs;clear hI hlen hi hz0 hz1 hz2 ih;obtain⟨M,hM⟩:∃M:Int,((n+1+1:Nat):Int)=M:=⟨_,rfl⟩;have hMn:IntKind.i64.wrap (M-1)=((n+1:Nat):Int):=by rw[IntKind.wrap_i64];omega
   have GZ:(M==1)=false:=by simp;omega
   rw[hM];clear hM;obtain⟨M1,qD⟩:∃M1:Int,((n+1:Nat):Int)=M1:=⟨_,rfl⟩;rw[qD]at hMn HI;clear qD;have Hb:=hbz w;go_enter Tryz.func93,Tryz.ntmps93;go_wp2_with fail;go_loopw[5,6] (λs5 x wr=>∃(k:Nat) (v:Value),k<=s+1/\x=ah ((s:Int)-k)/\v=s5/\wr.ownsRow w.heap.size 9 1 v (kd (n+1) s k).length ((kd (n+1) s k).map mZ)/\Bw w wr) (λ_ x _=>(intOf x+1).toNat);case atStart=>exact⟨0,_,by omega,by simp,rfl,World.ownsRow_nil _ _ _ _,Hb.out⟩
   case round=>
    clear Hb;obtain⟨k,v,hk,rfl,rfl,pv,pb⟩:=hrel;by_cases hks:k<=s
    . obtain⟨V,hV⟩:∃V:Int,(s:Int)-k=V:=⟨_,rfl⟩;have hV0:0<=V:=by omega
      have hV1:IntKind.i64.wrap ((s:Int)-V)=(k:Int):=by rw[IntKind.wrap_i64];omega
      have hV2:IntKind.i64.wrap (V-1)=V-1:=by rw[IntKind.wrap_i64];omega
      have hcu:IntKind.u8.wrap V=V:=by rw[IntKind.wrap_u8];omega
      rw[hV];have HV:=az hV;clear hV;obtain⟨eV,aX⟩:=aU pv pb;clear pv pb;have Hb:=hbz wr;go_wp2_with fail;refine(HI.out k _ hks).mono ?_;rintro e w1 ⟨v1,rfl,dh,hb1⟩;obtain⟨R,hR⟩:=aI (bZ (n+1) k);rw[hR]at dh;have hne:∀b o,(∃c1,v1=.slice (some ⟨b,o,none⟩) R.length c1)->b<w1.heap.size/\some b≠v.ownBlock:=λb o ⟨c1,e1⟩=>by subst e1;have h1:=dh.lt b rfl;exact⟨h1.2,λe=>by have:=eV.out.lt b e.symm;omega⟩
      obtain⟨a1,c1,rfl,jf,_⟩:=dm dh;have QF:Hid (∀b o,a1=some ⟨b,o,none⟩->b<w1.heap.size/\some b≠v.ownBlock):=λb o e=>hne b o ⟨c1,by rw[e]⟩;clear hne;have pp:kd (n+1) s (k+1)=kd (n+1) s k++R.map ((s-k)::·):=by rw[Kj,hR]
      have hRm:∀x∈R,x.length=n+1:=λx hx=>agT _ _ _ (by rw[hR];exact hx);have BI:=jQ.out k hks;rw[pp,List.length_append,List.length_map]at BI;obtain⟨T,hT⟩:=aI (kd (n+1) s k);rw[hT]at eV pp BI;obtain⟨N,hN⟩:=aI R.length;rw[hN]at BI;have aco:N<=216:=by omega
      obtain⟨vT,cm,uT,HRm,Hlq,HN⟩:=fw jf hb1 pp hRm BI hN;have hp1:=ownsRow_below eV.out hb1;obtain⟨kK,wF⟩:=aU hp1 (aO aX.out hb1);clear jf hb1 pp hRm BI dh hR hT eV aX Hb hp1;rw[hN];clear hN;go_wp2_with fail;go_loopw[5,8] (λs5 x wr=>∃(i:Nat) (v:Value),i<=N/\x=ah (i:Int)/\v=s5/\wr.ownsRow w.heap.size 9 1 v (T.length+i) ((T++(R.take i).map ((s-k)::·)).map mZ)/\At wr a1 (R.map mZ)/\(∀b o,a1=some ⟨b,o,none⟩->b<wr.heap.size/\some b≠v.ownBlock)/\Bw w wr) (λ_ x _=>N-(intOf x).toNat);case atStart=>exact⟨0,_,Nat.zero_le _,rfl,rfl,by simpa using kK.out,vT.out,QF.out,wF.out⟩
      case round=>
       clear kK vT wF cm QF;obtain⟨i,v,hi,rfl,rfl,pv,pa,pn,pb⟩:=hrel;by_cases hlt:i<N
       . have yY:i<R.length:=by rw[HN.out];exact hlt
         obtain⟨b,o,rfl,hce⟩:=(show At wr a1 (R.flatMap λx=>[mZ x])by rw[Bd];exact pa).elem (f:=λx=>[mZ x]) (sz:=1) (λ_=>rfl) zd i yY;obtain⟨x,hx⟩:=aI (R[i]);obtain⟨u,hu⟩:=aI (ex x);obtain⟨y,hy⟩:=aI (ex [s-k]);obtain⟨z,hz⟩:=aI (ex ((s-k)::x));have hxl:x.length=n+1:=by rw[<-hx];exact HRm.out _ (List.getElem_mem yY)
         have adp:y++u=z:=by rw[<-hy,<-hu,<-hz];exact(abr _ _).symm
         have aeP:¬9223372036854775807<y.size+u.size:=by rw[<-hy,<-hu,gY,gY];simp;omega
         have hnx:(T++(R.take (i+1)).map ((s-k)::·)).map mZ=(T++(R.take i).map ((s-k)::·)).map mZ++[.string z]:=by rw[List.take_succ_eq_append_getElem yY,hx,<-hz];simp[mZ]
         have bC:=uu N c1 i (i:Int) (rfl:(some ⟨b,o,none⟩:Option Addr)=_) hlt rfl;rw[Nat.mul_one]at bC;have He:Hid (bA wr b (o+i) [.string u]):=λj hj=>by
          obtain rfl:j=0:=by simp at hj;omega
          have:=hce 0 zd;rw[Nat.mul_one,Nat.add_zero,hx]at this;rw[<-hu];exact this
         have hcv:∀W b,W.cell? ⟨b,0,none⟩=some (.int .u8 V)->(convert 84 9 (.slice (some ⟨b,0,none⟩) 1 1)).run Tryz.prog W=.ok (.string y) W:=λW b h=>by rw[<-hy];exact one_byte (by rw[h,show V=((s-k:Nat):Int)by have:=HV.out;omega])
         obtain⟨eV,Hpa,aX,AA,lM,yh⟩:=fw pv pa pb hnx (pn b o rfl) (show i<N from hlt);have fQ:=pb.size;clear pv pa pn pb hnx hce hx hu hy hz hxl;have Hb:=hbz wr;obtain⟨ag,aC⟩:=qZ (He.an trivial);go_wp2_with fail;obtain⟨He,_⟩:=ag;have e0:=He.out.w1;refine ez (λw'=>aV w' b (o+i) (.string u)) (λi=>Nat.blt i 100000) [(0,true),(1,true),(2,true),(5,true),(6,true),(7,true),(8,true),(3,false),(4,false),(9,true),(10,false),(11,false),(12,true)] zk zk rfl zk zc e0 ?_;iterate 7 (refine pT rfl rfl ?_;try simp only[UU])
         refine aY rfl rfl (λK hK=>?_);go_simp;refine hK _ _ (λ_=>bg e0) ?_;try simp only[UU]
         refine cL (λW8=>aH W8 (wr.heap.size) 5 [.int .u8 V]/\Bw wr W8) (by first|exact fI|exact fJ) ?_;rintro W8 ⟨qd,au⟩;replace He:=kW He au;have Hd:=az qd;clear qd;have e0:=He.out.w1;have d0:=Hd.out.c1;replace Hb:=bD Hb au;refine aY rfl rfl (λK hK=>?_);go_simp;refine hK _ _ (λ_=>e0) ?_;try simp only[UU]
         refine pT rfl rfl ?_;try simp only[UU]
         refine aY rfl rfl (λK hK=>?_);go_simp;refine hK _ _ (λ_=>bg e0) ?_;try simp only[UU]
         refine cL (λW9=>aH W9 (W8.heap.size) 9 [.string z]/\Bw W8 W9) (by first|exact fI|exact fJ) ?_;rintro W9 ⟨qf,au⟩;have aBh:=Hd.out.lt;replace He:=kW He au;replace Hd:=kB Hd au;have Hf:=az qf;clear qf;have e0:=He.out.w1;have d0:=Hd.out.c1;have f0:=Hf.out.c1;replace Hb:=bD Hb au;refine aY rfl rfl (λK hK=>?_);have dw:=ownsRow_below eV.out Hb.out;have jH:=Hb.out.size;have BI:=Hlq.out;refine aia _ _ 53 53 9 Tryz.underlying53 rfl w.heap.size 9 i0 _ 1 16 Tryz.underlying53 Hi.out cV.out cW.out cC.out rfl zd v (T.length+i) _ rfl dw (some ⟨W8.heap.size,0,none⟩) 1 1 [.string z] rfl (Sl.some _ _ _ (Nat.le_refl _)) rfl (At.aCi Hf.out) zy zx zo zo ?_;intro v' w7 ey eT aem;rw[<-AA.out]at ey;have ha7:=(Hpa.out.below Hb.out).grown eT (λb1 o1 e=>by cases e;exact lM.out.2);have hn7:b<w7.heap.size/\some b≠v'.ownBlock:=by
          have h1:=lM.out.1;have h2:=eT.size;refine⟨by omega,λe=>?_⟩;rcases aem with h|h
          . exact lM.out.2 (e.trans h)
          . rw[h]at e;have:=Option.some.inj e;omega
         have kX:=(aO aX.out Hb.out).grown eT zo (λj e=>dz dw j e);refine hK _ _ (λ_=>cK eT e0 lM.out.2) ?_;obtain⟨FO,Ha7,Hn7,Fg⟩:=dP ey ha7 hn7 kX;clear ey ha7 hn7 kX aem eT dw BI Hb He Hd Hf;try simp only[UU]
         refine pT rfl rfl ?_;try simp only[UU]
         simp only[bP];go_wp2;go_roundw;case rel=>exact⟨i+1,v',yh.out,by go_num,rfl,FO.out,Ha7.out,λb1 o1 e=>by cases e;exact Hn7.out,Fg.out⟩
         case measure=>exact bH
       . obtain rfl:i=N:=by omega
         rw[List.take_of_length_le (by rw[HN.out];exact Nat.le_refl _),<-uT.out]at pv;have hl2:T.length+i=(kd (n+1) s (k+1)).length:=by rw[uT.out,List.length_append,List.length_map,HN.out]
         rw[hl2]at pv;obtain⟨eV,aX⟩:=aU pv pb;clear pv pa pn pb hl2;go_wp2;go_roundw;case rel=>exact⟨k+1,v,by omega,by rw[show(s:Int)-((k+1:Nat):Int)=V-1 by have:=HV.out;omega],rfl,eV.out,aX.out⟩
         case measure=>exact bH
    . obtain rfl:k=s+1:=by omega
      rw[WG]at pv;obtain⟨eV,aX⟩:=aU pv pb;clear pv pb;have hlt:¬(0:Int)<=(s:Int)-((s+1:Nat):Int):=by omega
      go_wp2;refine bodyPost_ret (results_tmp rfl _ _ _) rfl ⟨v,rfl,eV.out,aX.out⟩
def Tryz.aCH :(Tryz.prog.info? 3).map (λi=>(i.zero,i.size,i.bytes))=some (some (ah 0),1,8):=by kernel_rfl
def atj (c:Int)(n:Nat)(hc:c=n)(h:n<=1099511627776)(w:World):
 (Instr.makeSlice 154 (ah c) (ah c)).run Tryz.prog w=.ok (.slice (some ⟨w.heap.size,0,none⟩) n n) (w.alloc (.cells (kG n λ_=>0).toArray 3)):=by
 subst hc;obtain⟨i0,hi,hz0,hz1,hz2⟩:=info_parts Tryz.aCH;rw[run_make (P:=Tryz.prog) w 154 3 i0 _ Tryz.underlying154 hi hz0 .i64 .i64 n n zo zo (by rw[hz2];omega) zo];simp only[Int.toNat_natCast,hz1,Nat.mul_one];rw[<-ar6,<-toList_madeCells_one];simp[Value.cells]
def uY (v i j:Nat):Nat:=if j<i then cnt (v+1) j else cnt v j
def aod (v j:Nat):uY v 1 j=cnt v j:=by
 unfold uY;split
 . rw[show j=0 by omega,ry,ry]
 . rfl
def Gy {V D:Nat}(hV:V<=3)(hD:D<=5):cnt V D<=216:=by have h3:=Mh V D;have h4:(D+1)^V<=6^3:=Nat.le_trans (Nat.pow_le_pow_left zo _) (Nat.pow_le_pow_right zd hV);omega
def avR (V n:Nat)(hV:1<=V)(jD:V<=3)(hn:n<=5)(w:World):
 Cv 92 #[ah (V:Int),ah (n:Int)] w (ah (cnt V n:Int)):=by
 have hmk:=atj ((n:Int)+1) (n+1) zo zo;obtain⟨D,hD⟩:∃D:Int,(n:Int)=D:=⟨_,rfl⟩;obtain⟨U,hU⟩:∃U:Int,(V:Int)=U:=⟨_,rfl⟩;rw[hD]at hmk⊢;rw[hU];have hw1:IntKind.i64.wrap (D+1)=D+1:=by rw[IntKind.wrap_i64];omega
 have g1:¬U<1:=by omega
 have g2:¬8<U:=by omega
 have g3:¬D<0:=by omega
 have g4:¬20<D:=by omega
 obtain⟨HD,HU,HV,Hn⟩:=dP hD hU jD hn;clear hD hU jD;go_enter Tryz.func92,Tryz.ntmps92;go_wp2_with fail;go_loopw[6] (λx wr=>∃k:Nat,k<=n+1/\x=ah (k:Int)/\aH wr w.heap.size 3 (kG (n+1) (λj=>if j<k then 1 else 0))/\Bw w wr) (λx _=>n+1-(intOf x).toNat);case atStart=>exact⟨0,Nat.zero_le _,rfl,aH.new w _ _,zl⟩
 case round=>
  obtain⟨k,hk,rfl,pB,pb⟩:=hrel;by_cases hlt:k<n+1
  . have NB:(k:Int)<=D:=by have:=HD.out;omega
    have c0:wr.cell? ⟨w.heap.size,k,none⟩=some (ah 0):=by rw[pB.cell,Cg _ _ _ hlt,if_neg zo];rfl
    have fz:wr.frozen? ⟨w.heap.size,k,none⟩=false:=pB.free _;have qB:=pB.set k (ah ((1:Nat):Int))
    rw[afj,JD (g:=λj=>if j<k+1 then 1 else 0) (λj _=>by
     by_cases e:j=k
     . rw[if_pos e,if_pos zo]
     . rw[if_neg e];by_cases e2:j<k
       . rw[if_pos e2,if_pos zo]
       . rw[if_neg e2,if_neg zo])]at qB
    have qK:=xx (n+1) (n+1) k (k:Int) (rfl:(some ⟨w.heap.size,0,none⟩:Option Addr)=_) hlt rfl;rw[Nat.mul_one,Nat.zero_add]at qK;obtain⟨AE,aX⟩:=aU qB pb;clear qB pB pb;go_wp2;go_roundw;case rel=>exact⟨k+1,by omega,by go_num,AE.out,aX.out.setCell zp _⟩
    case measure=>exact bH
  . have NB:¬(k:Int)<=D:=by have:=HD.out;omega
    have p0:aH wr w.heap.size 3 (kG (n+1) (cnt 0)):=by rw[JD (g:=λj=>if j<k then 1 else 0) (λj hj=>by rw[wM,if_pos zo])];exact pB
    obtain⟨rW,aX⟩:=aU p0 pb;clear pB pb p0;go_wp2_with fail;clear hk hlt NB;go_loopw[7] (λx wr=>∃v:Nat,v<=V/\x=ah (v:Int)/\aH wr w.heap.size 3 (kG (n+1) (cnt v))/\Bw w wr) (λx _=>V-(intOf x).toNat);case atStart=>exact⟨0,Nat.zero_le _,rfl,rW.out,aX.out⟩
    case round=>
     clear rW aX;obtain⟨v,hv,rfl,pB,pb⟩:=hrel;by_cases hlt:v<V
     . have hvU:(v:Int)<U:=by have:=HU.out;omega
       have p0:aH wr w.heap.size 3 (kG (n+1) (uY v 1)):=by rw[JD (g:=cnt v) (λj _=>aod v j)];exact pB
       obtain⟨rW,aX⟩:=aU p0 pb;clear pB pb p0;go_wp2_with fail;go_loopw[8] (λx wr=>∃i:Nat,1<=i/\i<=n+1/\x=ah (i:Int)/\aH wr w.heap.size 3 (kG (n+1) (uY v i))/\Bw w wr) (λx _=>n+1-(intOf x).toNat);case atStart=>exact⟨1,Nat.le_refl _,by omega,rfl,rW.out,aX.out⟩
       case round=>
        clear rW aX;obtain⟨i,hi1,hi,rfl,pB,pb⟩:=hrel;by_cases bj:i<n+1
        . have Un:(i:Int)<=D:=by have:=HD.out;omega
          obtain⟨A,hA⟩:∃A:Int,(cnt v i:Int)=A:=⟨_,rfl⟩;obtain⟨A2,wP⟩:∃A2:Int,(cnt (v+1) (i-1):Int)=A2:=⟨_,rfl⟩;have c0:wr.cell? ⟨w.heap.size,i,none⟩=some (ah A):=by rw[pB.cell,Cg _ _ _ bj,<-hA];unfold uY;rw[if_neg zo]
          have c1:wr.cell? ⟨w.heap.size,i-1,none⟩=some (ah A2):=by rw[pB.cell,Cg _ _ _ zo,<-wP];unfold uY;rw[if_pos zo]
          have fz:wr.frozen? ⟨w.heap.size,i,none⟩=false:=pB.free _;have l1:cnt v i<=216:=Gy (by have:=HV.out;omega) (by have:=Hn.out;omega);have l2:cnt (v+1) (i-1)<=216:=Gy (by have:=HV.out;omega) (by have:=Hn.out;omega);have hs:cnt v i+cnt (v+1) (i-1)=cnt (v+1) i:=by obtain⟨i',rfl⟩:∃i',i=i'+1:=⟨i-1,by omega⟩;rw[Nat.add_sub_cancel,AY];omega
          have mC:=pB.set i (ah ((cnt (v+1) i:Nat):Int))
          rw[afj,JD (g:=uY v (i+1)) (λj _=>by
           unfold uY;by_cases e:j=i
           . subst e;rw[if_pos rfl,if_pos zo]
           . rw[if_neg e];by_cases e2:j<i
             . rw[if_pos e2,if_pos zo]
             . rw[if_neg e2,if_neg zo])]at mC
          rw[<-hs,show((cnt v i+cnt (v+1) (i-1):Nat):Int)=A+A2 by omega]at mC;have qK:=xx (n+1) (n+1) i (i:Int) (rfl:(some ⟨w.heap.size,0,none⟩:Option Addr)=_) zo rfl;have xA:=xx (n+1) (n+1) (i-1) ((i:Int)-1) (rfl:(some ⟨w.heap.size,0,none⟩:Option Addr)=_) zo zo;rw[Nat.mul_one,Nat.zero_add]at qK xA;have b1:0<=A/\A<=216:=by omega
          have b2:0<=A2/\A2<=216:=by omega
          obtain⟨als,aX⟩:=aU mC pb;clear mC hs hA wP l1 l2 pB pb;have hmin:min (A+A2) 513=A+A2:=by omega
          go_wp2;go_region
          go_wp2;go_roundw;case rel=>exact⟨i+1,by omega,by omega,by go_num,als.out,Below.drew (aX.out.setCell zp _)⟩
          case measure=>exact bH
        . have Un:¬(i:Int)<=D:=by have:=HD.out;omega
          have p0:aH wr w.heap.size 3 (kG (n+1) (cnt (v+1))):=by rw[JD (g:=uY v i) (λj hj=>by unfold uY;rw[if_pos zo])];exact pB
          obtain⟨rW,aX⟩:=aU p0 pb;clear pB pb p0;go_wp2;go_roundw;case rel=>exact⟨v+1,by omega,by go_num,rW.out,aX.out⟩
          case measure=>exact bH
     . have hvU:¬(v:Int)<U:=by have:=HU.out;omega
       obtain rfl:v=V:=by omega
       have c0:wr.cell? ⟨w.heap.size,n,none⟩=some (ah (cnt v n:Int)):=by rw[pB.cell,Cg _ _ _ zo]
       have qK:=xx (n+1) (n+1) n D (rfl:(some ⟨w.heap.size,0,none⟩:Option Addr)=_) zo HD.out.symm;rw[Nat.mul_one,Nat.zero_add]at qK;have aX:=az pb;clear pB pb;go_wp2;refine bodyPost_ret (results_tmp rfl _ _ _) rfl ⟨rfl,aX.out⟩
def awe (V n:Nat)(hV:1<=V)(jD:V<=3)(hn:n<=5)(w:World):
 Cl 49 #[ah (V:Int),ah (n:Int)] w λe w'=>∃v,e=.returned v/\w'.ownsRow w.heap.size 9 1 v (cnt V n) ((bZ (V+1) n).map mZ)/\Bw w w':=by
 have um:=λW=>avR V n hV jD hn W;have xj:=λW=>awj V n W jD hn;have h1:=Gy jD hn;have h2:=aaT V n;have h3:(bZ (V+1) n).length=cnt V n:=lv V n;rw[h3]at xj;obtain⟨c,hc⟩:=aI (cnt V n);rw[hc]at um xj h1 h2⊢;obtain⟨M,hM⟩:∃M:Int,((V+1:Nat):Int)=M:=⟨_,rfl⟩;have hwM:IntKind.i64.wrap ((V:Int)+1)=M:=by rw[IntKind.wrap_i64];omega
 rw[hM]at xj;obtain⟨QB,QX⟩:=aU um xj;clear um xj hc h3 hM;have g1:((c:Int)==0)=false:=by simp;omega
 have g2:¬(512:Int)<(c:Int):=by omega
 have Hb:=hbz w;go_enter Tryz.func49,Tryz.ntmps49;go_wp2_with fail;refine aZ (Hb.an trivial) (QB.out _) λw1 ag aC=>?_;have hb1:=az ag.1.out;go_wp2_with fail;refine(QX.out _).mono ?_;rintro e w2 ⟨v,rfl,ho,hb2⟩;obtain⟨Ho,cQ⟩:=aU (rM ho hb1.out.size) (aO hb1.out hb2);clear ho hb2;go_wp2;refine bodyPost_ret (results_tmp rfl _ _ _) rfl ⟨v,rfl,Ho.out,cQ.out⟩
def avX (V:Int)(a:Option Addr)(n cap:Nat)(ts:List aM)(w:World)(hn:ts.length=n)(hl:n<=65536)(hs:Sl a n cap)(ha:At w a (ts.flatMap aW)):
 Cl 10 #[.agg #[ah V,.slice a n cap]] w λe w'=>∃a' c',e=.returned (.agg #[ah V,.slice a' n c'])/\Fast w.heap.size w' (λu=>At u a' (ts.flatMap aW))/\Sl a' n c'/\Bw w w':=by
 obtain⟨i0,hi,hz0,hz1,hz2⟩:=info_parts Tryz.aCo;have hlen:=nU aW 4 (λ_=>rfl) ts;rw[hn]at hlen;have h1:=uF ts;obtain⟨cs,hcs⟩:=aI (ts.flatMap aW);rw[hcs]at hlen h1 ha⊢;obtain⟨Hi,cV,cW,cC,jQ,H1,Ha,Hs⟩:=om hi hz0 hz1 hz2 hlen h1 ha hs;clear hi hz0 hz1 hz2 hlen h1 ha hs hcs hn;obtain⟨W,cP,ag,aC⟩:=jq w 24 [ah V,.slice a n cap] 24 [ah 0,.slice none 0 0];go_enter Tryz.func10,Tryz.ntmps10;go_wp2_with fail;obtain⟨Hb,Hp,Hr,_⟩:=ag;obtain⟨p0,p1⟩:=Hp.out.c2;obtain⟨r0,bo,r1,bz⟩:=Hr.out.g2;refine ez (λw'=>aV w' (w.heap.size) 0 (ah V)/\aV w' (w.heap.size) 1 (.slice a n cap)) (λi=>Nat.blt i 7) [(0,true),(1,true),(3,true),(4,true),(2,false),(5,false),(6,true),(7,false)] zk zk rfl zk zc ⟨p0,p1⟩ ?_;iterate 4 (refine pT rfl rfl ?_ (by intro w' ⟨q0,q1⟩;go_simp;try with_reducible rfl);try simp only[UU])
 refine aY rfl rfl (λK hK=>?_);have hsW:=Hb.out.size;go_simp;refine hK _ _ (λ_=>⟨bg p0,bg p1⟩) ?_;try simp only[UU]
 refine aY rfl rfl (λK hK=>?_);have Ir:Bw w (W.drew.alloc (.cells #[] 67)):=(Hb.out.drew).alloc zi _;have lp:=Hp.out.lt;have lr:=Hr.out.lt;refine aia _ _ 22 22 67 Tryz.underlying22 rfl W.heap.size 67 i0 _ 4 48 Tryz.underlying22 Hi.out cV.out cW.out cC.out rfl zd _ 0 [] rfl (World.ownsRow_made W.drew #[] 0 (Nat.le_refl _) (Nat.zero_le _) zm) a n cap cs rfl Hs.out jQ.out (Ha.out.below Ir) H1.out (by unfold maxLen;omega) zo zm ?_;intro v' w3 ho hg eY;rw[Nat.zero_add,List.nil_append]at ho;obtain⟨a',c',rfl,_,_⟩:=dm ho;have hsl:=uz ho;have np:∀k,k<W.heap.size->some k≠(Value.slice (some ⟨W.heap.size,0,none⟩) 0 0).ownBlock:=λk hk e=>by have h9:k=W.heap.size:=Option.some.inj e;omega
 have sJ:=(((Hp.out.drew).alloc (.cells #[] 67)).grown hg (np _ (by simpa using lp)));have hr3:=(((Hr.out.drew).alloc (.cells #[] 67)).grown hg (np _ (by simpa using lr)));have hb3:=Ir.grown hg zi (λk hk=>by have h9:W.heap.size=k:=Option.some.inj hk;omega);have q0:=sJ.cell 0;have q1:=sJ.cell 1;refine hK _ _ (λ_=>⟨q0,q1⟩) ?_;have r0':=hr3.cell 0;have r1':=hr3.cell 1;have GM:=hr3.free 0;have Bj:=hr3.free 1;obtain⟨Hr3,eo,Ho,FZ⟩:=dP hr3 hb3 ho hsl;clear sJ hr3 hb3 hsl ho hg eY Ir np Hb Hp Hr p0 p1 r0 r1 bo bz q0 q1;try simp only[UU]
 refine pT rfl rfl ?_;try simp only[UU]
 refine aY rfl rfl (λK hK=>?_);go_simp;refine hK _ _ (λh=>absurd h zd) ?_;try simp only[UU]
 simp only[bP];go_wp2;refine AW Hr3.out Ho.out eo.out zo ?_;intro w9 jY fN dS;obtain⟨p0,p1⟩:=jY.c2;refine bodyPost_ret (v:=.agg #[ah V,.slice a' n c']) (by simp[results,Tryz.results10,go_sem,p0,p1]) rfl ⟨a',c',rfl,?_,FZ.out,dS⟩;intro Y w' hc hy;obtain⟨a8,c8,e8,h8,_⟩:=dm (Ez fN hc (λb hb=>hy b (by have:=(fN.lt b hb).1;omega)));cases e8;exact h8
end Go.Proofs.YtnjfebkelecgaaaGreatDoor
