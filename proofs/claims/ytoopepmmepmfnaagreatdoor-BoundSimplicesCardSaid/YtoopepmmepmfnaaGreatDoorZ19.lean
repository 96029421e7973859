/- ogeelaw24: num,numbers,far,vast,degrees. -/
import Derived.Test.YtoopepmmepmfnaaGreatDoorZ17
import Derived.Test.YtoopepmmepmfnaaGreatDoorZ16
import Derived.Test.YtoopepmmepmfnaaGreatDoorZ18
set_option linter.unusedVariables false
set_option linter.unusedSimpArgs false
set_option maxRecDepth 100000
set_option maxHeartbeats 16000000
namespace Go.Proofs.YtoopepmmepmfnaaGreatDoor
open Go.RowKit
attribute [local go_sem ↓] Go.wp_at_zero Go.wp_at_succ
def dJ (n:Nat):Dyadic:=Dyadic.ofIntWithPrec (n:Int) 0
theorem ku (n:Nat)(D:Dyadic)(hD:dJ n=D)(w:World)(hn:n<=1000000):
 Calls Tryz.prog 30 #[af (n:Int)] w λe w'=>e=.returned (bL D)/\Bw w w':=by
 have h1:=λW=>Du n W zo;have h2:=λW=>Be false (nt n) 0 D (by unfold az;simp only[mU];exact hD) W (Nat.le_trans (jr (k:=4) zo) zd) zo;clear hD;generalize nt n=m at*;obtain⟨H1,H2⟩:=aO h1 h2;clear h1 h2;obtain⟨W,cg,Hb,Hr⟩:=fJ w 39 [ag false,.string ⟨#[]⟩,af 0];obtain⟨r0,aj,r1,ak,r2,aF⟩:=Hr.out.g3;go_enter Tryz.func30,Tryz.ntmps30;go_wp2_with fail;refine(H1.out _).mono ?_;rintro e w1 ⟨rfl,ae⟩;clear r0 aj r1 ak r2 aF;obtain⟨Hr,r0,aj,r1,ak,r2,aF⟩:=aN Hr ae;replace Hb:=aB Hb ae;clear ae;go_wp2_with fail;refine(H2.out _).mono ?_;rintro e w2 ⟨rfl,ae⟩;clear r0 aj r1 ak r2 aF;obtain⟨Hr,r0,aj,r1,ak,r2,aF⟩:=aN Hr ae;replace Hb:=aB Hb ae;clear ae;go_wp2;clear r0 aj r1 ak r2 aF;refine dW (bC w2 (w.heap.size) 0 [ag (au (dN D)),ah (nt (dN D).natAbs),af (dE D)]) bJ ?_;intro w9 hs;replace Hr:=bP Hr hs;obtain⟨r0,aj,r1,ak,r2,aF⟩:=Hr.out.g3;replace Hb:=bS Hb hs ZS;clear hs;refine bodyPost_ret (v:=bL D) (by simp[results,Tryz.results30,go_sem,r0,r1,r2]) rfl ⟨rfl,Hb.out⟩
theorem aor (ds:List Int)(n:Nat)(a a':Option Addr)(cap cap':Nat)(w:World)(hn:ds.length=n)(hl:n<=100000)(ha:At w a (mS ds))(ha':At w a' (mS ds)):
 Calls Tryz.prog 14 #[.slice a n cap,.slice a' n cap'] w λe w'=>e=.returned (ag true)/\Bw w w':=by
 obtain⟨Ha,ud,Hn⟩:=cL ha ha' hn;clear ha ha' hn;have Hb:Hid (Bw w w):=Below.refl _ _;go_enter Tryz.func14,Tryz.ntmps14;go_wp2_with fail;go_loopw[5] (λx wr=>∃k:Nat,k<=n/\x=af (k:Int)/\Bw w wr) (λx _=>n-(intOf x).toNat);case atStart=>exact⟨0,Nat.zero_le _,rfl,Hb.out⟩
 case round=>
  clear Hb;obtain⟨k,hk,rfl,pb⟩:=hrel;by_cases hlt:k<n
  . have hk2:k<ds.length:=by rw[Hn.out];exact hlt
    obtain⟨b3,o3,rfl,h3⟩:=(Ha.out.below pb).ig k hk2;obtain⟨b4,o4,rfl,h4⟩:=(ud.out.below pb).ig k hk2;have ix3:=xU n cap k (k:Int) (rfl:(some ⟨b3,o3,none⟩:Option Addr)=_) hlt rfl;have ix4:=xU n cap' k (k:Int) (rfl:(some ⟨b4,o4,none⟩:Option Addr)=_) hlt rfl;rw[Nat.mul_one]at ix3 ix4;obtain⟨d,hd⟩:=aG (ds.getD k 0);rw[hd]at h3 h4;have Hx:Hid (bH wr b3 (o3+k) [af d]):=λj hj=>by
     obtain rfl:j=0:=by simp at hj;omega
     exact h3
    have Hy:Hid (bH wr b4 (o4+k) [af d]):=λj hj=>by
     obtain rfl:j=0:=by simp at hj;omega
     exact h4
    have bu:=ai pb;clear h3 h4 pb hd;have Hb:Hid (Bw wr wr):=Below.refl _ _;have x0:=Hx.out.w1;have y0:=Hy.out.w1;go_wp2_with fail;refine bR (λw'=>aC w' b3 (o3+k) (af d)/\aC w' b4 (o4+k) (af d)) (λi=>Nat.blt i 100000) [(0,true),(1,true),(2,true),(3,true),(4,true),(5,true),(6,true),(7,true),(8,true)] zk zk rfl zk zc ⟨x0,y0⟩ ?_;iterate 9 (refine pT rfl rfl ?_ (by intro w' ⟨q0,q1⟩;go_simp;try with_reducible rfl);try simp only[UU])
    simp only[bi];go_wp2;go_roundw;case rel=>exact⟨k+1,by omega,by go_num,bu.out.drew⟩
    case measure=>simp[intOf];omega
  . obtain rfl:k=n:=by omega
    have bu:=ai pb;clear pb;go_wp2;refine bodyPost_ret (results_tmp rfl _ _ _) rfl ⟨rfl,bu.out⟩
def yn (x:Raw):Prop:=x.2.1.length<=12/\ -60<=x.2.2/\x.2.2<=60
theorem LZ {x:Raw}(h:yn x):Fit 192 x:=by obtain⟨h1,h2,h3⟩:=h;exact⟨⟨by omega,by omega,by omega⟩,Sm.raw (B:=96) zo zo zo⟩
theorem VW {α:Type}{cM:List α}{Q:α->Prop}{k:Nat}(hk:k<cM.length)(h:∀x∈cM.take k,Q x)(hx:Q cM[k]):∀x∈cM.take (k+1),Q x:=by
 intro x hm;rw[List.take_succ_eq_append_getElem hk,List.mem_append]at hm;rcases hm with hm|hm
 . exact h x hm
 . simp at hm;rw[hm];exact hx
def aho (cM:List Raw)(e:Ending):Prop:=∃b,e=.returned (ag b)/\(b=false->∀x∈cM,yn x)
theorem Xf (c:List Raw)(n:Nat)(a:Option Addr)(cv:Nat)(w:World)(hn:c.length=n)(hl:n<=1099511627776)(ha:At w a (c.flatMap bI)):
 Calls Tryz.prog 16 #[.slice a n cv] w λe w'=>aho c e/\Bw w w':=by
 obtain⟨eH,Hn⟩:=aO ha hn;clear ha hn;go_enter Tryz.func16,Tryz.ntmps16;go_wp2_with fail;go_loopw[3] (λx wr=>∃j:Nat,j<=n/\x=af (j:Int)/\(∀y∈c.take j,yn y)/\Bw w wr) (λx _=>n-(intOf x).toNat);case atStart=>exact⟨0,Nat.zero_le _,rfl,(λy hy=>by simp at hy),Below.refl _ _⟩
 case round=>
  obtain⟨j,hj,rfl,hok,qb⟩:=hrel;by_cases bG:j<n
  . have oZ:j<c.length:=by rw[Hn.out];exact bG
    obtain⟨s,m,e,hx⟩:=oW (c[j]);obtain⟨b1,o1,rfl,p0,p1,p2⟩:=(eH.out.below qb).num j oZ hx;have nQ:=qH n cv j (j:Int) (rfl:(some ⟨b1,o1,none⟩:Option Addr)=_) bG rfl;have hsz:(bs m).size=m.length:=oP m;obtain⟨oK,BP,ui⟩:=cL qb hok hx;clear qb hok hx;by_cases g:m.length<=12/\ -60<=e/\e<=60
    . obtain⟨g1,g2,g3⟩:=g;have g4:¬(12:Int)<(m.length:Int):=by omega
      have g5:¬e< -60:=by omega
      have g6:¬60<e:=by omega
      go_wp2;go_roundw;case rel=>exact⟨j+1,by omega,by go_num,VW oZ BP.out (by rw[ui.out];exact⟨g1,g2,g3⟩),oK.out⟩
      case measure=>simp[intOf];omega
    . rcases (show(12:Int)<(m.length:Int)\/(¬(12:Int)<(m.length:Int)/\e< -60)\/(¬(12:Int)<(m.length:Int)/\¬e< -60/\60<e)by omega)with g1|⟨g1,g2⟩ |⟨g1,g2,g3⟩;all_goals
       clear g
       go_wp2
       refine bodyPost_ret (results_tmp rfl _ _ _) rfl ⟨⟨true,rfl,λh=>by cases h⟩,oK.out⟩
  . obtain rfl:j=n:=by omega
    have hall:∀y∈c,yn y:=by have:=hok;rwa [<-Hn.out,List.take_length]at this
    obtain⟨sA,oK⟩:=aO hall qb;clear hok hall qb;go_wp2;refine bodyPost_ret (results_tmp rfl _ _ _) rfl ⟨⟨false,rfl,λ_=>sA.out⟩,oK.out⟩
theorem Ir (n:Nat)(D:Dyadic)(hD:Dyadic.ofIntWithPrec (n:Int) 0=D)(w:World)(hn:n<=1099511627776):
 Calls Tryz.prog 52 #[af (n:Int)] w λe w'=>e=.returned (bL D)/\Bw w w':=by
 have h1:=λW=>Du n W zo;have h2:=λW=>Be false (nt n) 0 D (by unfold az;simp only[mU];exact hD) W (Nat.le_trans (jr (k:=6) zo) zd) zo;clear hD;generalize nt n=m at*;obtain⟨H1,H2⟩:=aO h1 h2;clear h1 h2;obtain⟨W,cg,Hb,Hr⟩:=fJ w 39 [ag false,.string ⟨#[]⟩,af 0];obtain⟨r0,aj,r1,ak,r2,aF⟩:=Hr.out.g3;go_enter Tryz.func52,Tryz.ntmps52;go_wp2_with fail;refine(H1.out _).mono ?_;rintro e w1 ⟨rfl,ae⟩;clear r0 aj r1 ak r2 aF;obtain⟨Hr,r0,aj,r1,ak,r2,aF⟩:=aN Hr ae;replace Hb:=aB Hb ae;clear ae;go_wp2_with fail;refine(H2.out _).mono ?_;rintro e w2 ⟨rfl,ae⟩;clear r0 aj r1 ak r2 aF;obtain⟨Hr,r0,aj,r1,ak,r2,aF⟩:=aN Hr ae;replace Hb:=aB Hb ae;clear ae;go_wp2;clear r0 aj r1 ak r2 aF;refine dW (bC w2 (w.heap.size) 0 [ag (au (dN D)),ah (nt (dN D).natAbs),af (dE D)]) bJ ?_;intro w9 hs;replace Hr:=bP Hr hs;obtain⟨r0,aj,r1,ak,r2,aF⟩:=Hr.out.g3;replace Hb:=bS Hb hs ZS;clear hs;refine bodyPost_ret (v:=bL D) (by simp[results,Tryz.results52,go_sem,r0,r1,r2]) rfl ⟨rfl,Hb.out⟩
theorem anh {c:Nat->Bool}{d:Nat}(f q x:Nat)(h:tN c d f q=some x):x<=1024:=by
 induction f generalizing q with
 |zero=>cases h
 | succ f ih=>
   unfold tN at h;split at h
   . cases h
   . split at h
     . simp at h;omega
     . exact ih _ h
theorem abX {x:Raw}(h:yn x):Fit 300 x:=⟨(LZ h).1,(LZ h).2.mono zd⟩
end Go.Proofs.YtoopepmmepmfnaaGreatDoor
