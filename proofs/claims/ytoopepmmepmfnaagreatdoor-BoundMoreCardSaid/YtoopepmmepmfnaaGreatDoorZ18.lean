/- ogeelaw24: num,numbers,far,vast,degrees. -/
import Derived.Test.YtoopepmmepmfnaaGreatDoorZ16
import Derived.Test.YtoopepmmepmfnaaGreatDoorZ17
set_option linter.unusedVariables false
set_option linter.unusedSimpArgs false
set_option maxRecDepth 100000
set_option maxHeartbeats 16000000
namespace Go.Proofs.YtoopepmmepmfnaaGreatDoor
open Go.RowKit
attribute [local go_sem ↓] Go.wp_at_zero Go.wp_at_succ
def dJ (n:Nat):Dyadic:=Dyadic.ofIntWithPrec (n:Int) 0
theorem iE (n:Nat)(D:Dyadic)(hD:dJ n=D)(w:World)(hn:n<=1000000):
 Calls Tryz.prog 30 #[.int .i64 (n:Int)] w λe w'=>e=.returned (bQ D)/\Bw w w':=by
 have h1:=λW=>FQ n W zo;have h2:=λW=>aj9 false (nt n) 0 D (by unfold ar;simp only[su];exact hD) W (Nat.le_trans (lL (k:=4) zo) zd) zo;clear hD;generalize nt n=m at*;obtain⟨H1,H2⟩:=aJ h1 h2;clear h1 h2;obtain⟨W,cL,Hb,Hr⟩:=gX w 39 [.bool false,.string ⟨#[]⟩,.int .i64 0];obtain⟨r0,ah,r1,ai,r2,aB⟩:=Hr.out.g3;go_enter Tryz.func30,Tryz.ntmps30;go_wp2_with fail;refine(H1.out _).mono ?_;rintro e w1 ⟨rfl,ae⟩;clear r0 ah r1 ai r2 aB;replace Hr:=kB Hr ae;obtain⟨r0,ah,r1,ai,r2,aB⟩:=Hr.out.g3;replace Hb:=ak Hb ae;clear ae;go_wp2_with fail;refine(H2.out _).mono ?_;rintro e w2 ⟨rfl,ae⟩;clear r0 ah r1 ai r2 aB;replace Hr:=kB Hr ae;obtain⟨r0,ah,r1,ai,r2,aB⟩:=Hr.out.g3;replace Hb:=ak Hb ae;clear ae;go_wp2;clear r0 ah r1 ai r2 aB;refine eK (bf w2 (w.heap.size) 0 [.bool (aj (dN D)),.string (bs (nt (dN D).natAbs)),.int .i64 (dE D)]) bI ?_;intro w9 hs;replace Hr:=cp Hr hs;obtain⟨r0,ah,r1,ai,r2,aB⟩:=Hr.out.g3;replace Hb:=bS Hb hs ZS;clear hs;refine bodyPost_ret (v:=bQ D) (by simp[results,Tryz.results30,go_sem,r0,r1,r2]) rfl ⟨rfl,Hb.out⟩
theorem ajb (ds:List Int)(n:Nat)(a a':Option Addr)(cap cap':Nat)(w:World)(hn:ds.length=n)(hl:n<=100000)(ha:At w a (jA ds))(ha':At w a' (jA ds)):
 Calls Tryz.prog 14 #[.slice a n cap,.slice a' n cap'] w λe w'=>e=.returned (.bool true)/\Bw w w':=by
 obtain⟨Ha,sP,Hn⟩:=cP ha ha' hn;clear ha ha' hn;have Hb:Hid (Bw w w):=Below.refl _ _;go_enter Tryz.func14,Tryz.ntmps14;go_wp2_with fail;go_loopw[5] (λx wr=>∃k:Nat,k<=n/\x=.int .i64 (k:Int)/\Bw w wr) (λx _=>n-(intOf x).toNat);case atStart=>exact⟨0,Nat.zero_le _,rfl,Hb.out⟩
 case round=>
  clear Hb;obtain⟨k,hk,rfl,pb⟩:=hrel;by_cases hlt:k<n
  . have hk2:k<ds.length:=by rw[Hn.out];exact hlt
    obtain⟨b3,o3,rfl,h3⟩:=(Ha.out.below pb).ig k hk2;obtain⟨b4,o4,rfl,h4⟩:=(sP.out.below pb).ig k hk2;have My:=sf n cap k (k:Int) (rfl:(some ⟨b3,o3,none⟩:Option Addr)=_) hlt rfl;have ix4:=sf n cap' k (k:Int) (rfl:(some ⟨b4,o4,none⟩:Option Addr)=_) hlt rfl;rw[Nat.mul_one]at My ix4;obtain⟨d,hd⟩:=az (ds.getD k 0);rw[hd]at h3 h4;have Hx:Hid (bg wr b3 (o3+k) [.int .i64 d]):=λj hj=>by
     obtain rfl:j=0:=by simp at hj;omega
     exact h3
    have Hy:Hid (bg wr b4 (o4+k) [.int .i64 d]):=λj hj=>by
     obtain rfl:j=0:=by simp at hj;omega
     exact h4
    have aR:=af pb;clear h3 h4 pb hd;have Hb:Hid (Bw wr wr):=Below.refl _ _;have x0:=Hx.out.w1;have y0:=Hy.out.w1;go_wp2_with fail;refine cf (λw'=>w'.cell? ⟨b3,o3+k,none⟩=some (.int .i64 d)/\w'.cell? ⟨b4,o4+k,none⟩=some (.int .i64 d)) (λi=>Nat.blt i 100000) [(0,true),(1,true),(2,true),(3,true),(4,true),(5,true),(6,true),(7,true),(8,true)] zk zk rfl zk zc ⟨x0,y0⟩ ?_;iterate 9 (refine pT rfl rfl ?_ (by intro w' ⟨q0,q1⟩;go_simp;try with_reducible rfl);try simp only[UU])
    simp only[aN];go_wp2;go_roundw;case rel=>exact⟨k+1,by omega,by go_num,aR.out.drew⟩
    case measure=>simp[intOf];omega
  . obtain rfl:k=n:=by omega
    have aR:=af pb;clear pb;go_wp2;refine bodyPost_ret (results_tmp rfl _ _ _) rfl ⟨rfl,aR.out⟩
def mF (x:Raw):Prop:=x.2.1.length<=12/\ -60<=x.2.2/\x.2.2<=60
theorem uy {x:Raw}(h:mF x):Fit 192 x:=by obtain⟨h1,h2,h3⟩:=h;exact⟨⟨by omega,by omega,by omega⟩,Sm.raw (B:=96) zo zo zo⟩
theorem Jy {α:Type}{dQ:List α}{Q:α->Prop}{k:Nat}(hk:k<dQ.length)(h:∀x∈dQ.take k,Q x)(hx:Q dQ[k]):∀x∈dQ.take (k+1),Q x:=by
 intro x hm;rw[List.take_succ_eq_append_getElem hk,List.mem_append]at hm;rcases hm with hm|hm
 . exact h x hm
 . simp at hm;rw[hm];exact hx
def acn (dQ:List Raw)(e:Ending):Prop:=∃b,e=.returned (.bool b)/\(b=false->∀x∈dQ,mF x)
theorem RJ (c:List Raw)(n:Nat)(a:Option Addr)(cv:Nat)(w:World)(hn:c.length=n)(hl:n<=1099511627776)(ha:At w a (c.flatMap bJ)):
 Calls Tryz.prog 16 #[.slice a n cv] w λe w'=>acn c e/\Bw w w':=by
 obtain⟨ej,Hn⟩:=aJ ha hn;clear ha hn;go_enter Tryz.func16,Tryz.ntmps16;go_wp2_with fail;go_loopw[3] (λx wr=>∃j:Nat,j<=n/\x=.int .i64 (j:Int)/\(∀y∈c.take j,mF y)/\Bw w wr) (λx _=>n-(intOf x).toNat);case atStart=>exact⟨0,Nat.zero_le _,rfl,(λy hy=>by simp at hy),Below.refl _ _⟩
 case round=>
  obtain⟨j,hj,rfl,hok,qb⟩:=hrel;by_cases aZ:j<n
  . have mr:j<c.length:=by rw[Hn.out];exact aZ
    obtain⟨s,m,e,hx⟩:=tH (c[j]);obtain⟨b1,o1,rfl,p0,p1,p2⟩:=(ej.out.below qb).num j mr hx;have oX:=sk n cv j (j:Int) (rfl:(some ⟨b1,o1,none⟩:Option Addr)=_) aZ rfl;have hsz:(bs m).size=m.length:=lV m;obtain⟨jJ,sY,mV⟩:=cP qb hok hx;clear qb hok hx;by_cases g:m.length<=12/\ -60<=e/\e<=60
    . obtain⟨g1,g2,g3⟩:=g;have g4:¬(12:Int)<(m.length:Int):=by omega
      have g5:¬e< -60:=by omega
      have g6:¬60<e:=by omega
      go_wp2;go_roundw;case rel=>exact⟨j+1,by omega,by go_num,Jy mr sY.out (by rw[mV.out];exact⟨g1,g2,g3⟩),jJ.out⟩
      case measure=>simp[intOf];omega
    . rcases (show(12:Int)<(m.length:Int)\/(¬(12:Int)<(m.length:Int)/\e< -60)\/(¬(12:Int)<(m.length:Int)/\¬e< -60/\60<e)by omega)with g1|⟨g1,g2⟩ |⟨g1,g2,g3⟩;all_goals
       clear g
       go_wp2
       refine bodyPost_ret (results_tmp rfl _ _ _) rfl ⟨⟨true,rfl,λh=>by cases h⟩,jJ.out⟩
  . obtain rfl:j=n:=by omega
    have hall:∀y∈c,mF y:=by have:=hok;rwa [<-Hn.out,List.take_length]at this
    obtain⟨sS,jJ⟩:=aJ hall qb;clear hok hall qb;go_wp2;refine bodyPost_ret (results_tmp rfl _ _ _) rfl ⟨⟨false,rfl,λ_=>sS.out⟩,jJ.out⟩
def Dc (bx:List (Raw×Raw)):Prop:=bx.length<=5/\∀s∈bx,mF s.1/\mF s.2
theorem Dc.fit {bx:List (Raw×Raw)}(h:Dc bx):gG 192 bx:=λs hs=>⟨uy (h.2 s hs).1,uy (h.2 s hs).2⟩
theorem alG (bx:List (Raw×Raw))(L:Nat)(a:Option Addr)(cap:Nat)(w:World)(hL:bx.length=L)(ha:At w a (bx.flatMap bX)):
 Calls Tryz.prog 7 #[.slice a L cap] w λe w'=>(∃b,e=.returned (.bool b)/\(b=false->Dc bx))/\Bw w w':=by
 obtain⟨ej,HL⟩:=aJ ha hL;clear ha hL;have Hb:Hid (Bw w w):=Below.refl _ _;by_cases h5:5<L
 . have h5i:(5:Int)<(L:Int):=by omega
   go_enter Tryz.func7,Tryz.ntmps7;go_wp2;refine bodyPost_ret (results_tmp rfl _ _ _) rfl ⟨⟨true,rfl,λh=>by cases h⟩,Hb.out⟩
 have h5i:¬(5:Int)<(L:Int):=by omega
 go_enter Tryz.func7,Tryz.ntmps7;go_wp2_with fail;go_loopw[3] (λx wr=>∃j:Nat,j<=L/\x=.int .i64 (j:Int)/\(∀y∈bx.take j,mF y.1/\mF y.2)/\Bw w wr) (λx _=>L-(intOf x).toNat);case atStart=>exact⟨0,Nat.zero_le _,rfl,(λy hy=>by simp at hy),Below.refl _ _⟩
 case round=>
  clear Hb;obtain⟨j,hj,rfl,hok,qb⟩:=hrel;by_cases hlt:j<L
  . have mr:j<bx.length:=by rw[HL.out];exact hlt
    obtain⟨s,m,e,t,n,f,hx⟩:∃s m e t n f,bx[j]=((s,m,e),(t,n,f)):=⟨_,_,_,_,_,_,rfl⟩;obtain⟨b,o,hab,hp⟩:=(ej.out.below qb).spn j mr hx;have aX:=vW L cap j (j:Int) hab hlt rfl;obtain⟨Hp,jJ,sY,mV⟩:=dt hp qb hok hx;clear hp qb hok hx hab;have Hb:Hid (Bw wr wr):=Below.refl _ _;have p0:wr.cell? ⟨b,o+j*6,none⟩=some (.bool s):=Hp.out.cell 0 zm;have p1:wr.cell? ⟨b,o+j*6+1,none⟩=some (.string (bs m)):=Hp.out.cell 1 zm;have p2:wr.cell? ⟨b,o+j*6+2,none⟩=some (.int .i64 e):=Hp.out.cell 2 zm;have p3:wr.cell? ⟨b,o+j*6+3,none⟩=some (.bool t):=Hp.out.cell 3 zm;have p4:wr.cell? ⟨b,o+j*6+4,none⟩=some (.string (bs n)):=Hp.out.cell 4 zm;have p5:wr.cell? ⟨b,o+j*6+5,none⟩=some (.int .i64 f):=Hp.out.cell 5 zm;go_wp2_with fail;refine cf (λw'=>w'.cell? ⟨b,o+j*6,none⟩=some (.bool s)/\w'.cell? ⟨b,o+j*6+1,none⟩=some (.string (bs m))/\w'.cell? ⟨b,o+j*6+2,none⟩=some (.int .i64 e)/\w'.cell? ⟨b,o+j*6+3,none⟩=some (.bool t)/\w'.cell? ⟨b,o+j*6+4,none⟩=some (.string (bs n))/\w'.cell? ⟨b,o+j*6+5,none⟩=some (.int .i64 f)) (λi=>Nat.blt i 100000) [(0,true),(1,true),(2,true),(3,true),(4,true),(5,true),(6,true),(7,true),(8,true),(9,true),(10,false),(11,false)] zk zk rfl zk zc ⟨p0,p1,p2,p3,p4,p5⟩ ?_;iterate 10 (refine pT rfl rfl ?_ (by intro w' ⟨q0,q1,q2,q3,q4,q5⟩;go_simp;try with_reducible rfl);try simp only[UU])
    refine aF rfl rfl (λK hK=>?_);go_simp;refine hK _ _ (λ_=>⟨aH p0,aH p1,aH p2,aH p3,aH p4,aH p5⟩) ?_;clear hK K;try simp only[UU]
    refine cj (λW4=>ag W4 (wr.heap.size) 39 [.bool s,.string (bs m),.int .i64 e,.bool t,.string (bs n),.int .i64 f]/\Bw wr W4) (by first|exact fy|exact fA) ?_;rintro W4 ⟨qc,ae⟩;clear p0 p1 p2 p3 p4 p5;replace Hp:=kW Hp ae;have Hc:=af qc;clear qc;have p0:W4.cell? ⟨b,o+j*6,none⟩=some (.bool s):=Hp.out.cell 0 zm;have p1:W4.cell? ⟨b,o+j*6+1,none⟩=some (.string (bs m)):=Hp.out.cell 1 zm;have p2:W4.cell? ⟨b,o+j*6+2,none⟩=some (.int .i64 e):=Hp.out.cell 2 zm;have p3:W4.cell? ⟨b,o+j*6+3,none⟩=some (.bool t):=Hp.out.cell 3 zm;have p4:W4.cell? ⟨b,o+j*6+4,none⟩=some (.string (bs n)):=Hp.out.cell 4 zm;have p5:W4.cell? ⟨b,o+j*6+5,none⟩=some (.int .i64 f):=Hp.out.cell 5 zm;obtain⟨c0,c1,c2,c3,c4,c5⟩:=Hc.out.c6;replace Hb:=ak Hb ae;clear ae;refine aF rfl rfl (λK hK=>?_);go_simp;with_reducible refine(RJ [(s,m,e),(t,n,f)] 2 (some ⟨wr.heap.size,0,none⟩) 2 _ rfl zd (At.aqF Hc.out)).mono ?_
    rintro e w5 ⟨⟨v,rfl,hv⟩,hq⟩;have ae:Bw W4 w5:=by first|exact hq|exact aK hq
    clear p0 p1 p2 p3 p4 p5 c0 c1 c2 c3 c4 c5;replace Hp:=kW Hp ae;replace Hc:=kB Hc ae;have p0:w5.cell? ⟨b,o+j*6,none⟩=some (.bool s):=Hp.out.cell 0 zm;have p1:w5.cell? ⟨b,o+j*6+1,none⟩=some (.string (bs m)):=Hp.out.cell 1 zm;have p2:w5.cell? ⟨b,o+j*6+2,none⟩=some (.int .i64 e):=Hp.out.cell 2 zm;have p3:w5.cell? ⟨b,o+j*6+3,none⟩=some (.bool t):=Hp.out.cell 3 zm;have p4:w5.cell? ⟨b,o+j*6+4,none⟩=some (.string (bs n)):=Hp.out.cell 4 zm;have p5:w5.cell? ⟨b,o+j*6+5,none⟩=some (.int .i64 f):=Hp.out.cell 5 zm;obtain⟨c0,c1,c2,c3,c4,c5⟩:=Hc.out.c6;replace Hb:=ak Hb ae;clear ae;refine hK _ _ (λ_=>⟨p0,p1,p2,p3,p4,p5⟩) ?_;clear hK K;try simp only[UU]
    simp only[aN];have Hv:=af hv;clear hv;cases v with
    |true=>go_wp2;refine bodyPost_ret (results_tmp rfl _ _ _) rfl ⟨⟨true,rfl,λh=>by cases h⟩,aG jJ.out Hb.out⟩
    | false=>
      have UM:mF bx[j].1/\mF bx[j].2:=by rw[mV.out];exact⟨Hv.out rfl _ zm,Hv.out rfl _ zm⟩
      have aa9:=af UM;clear UM;go_wp2;go_roundw;case rel=>exact⟨j+1,by omega,by go_num,Jy mr sY.out aa9.out,aG jJ.out Hb.out⟩
      case measure=>simp[intOf];omega
  . obtain rfl:j=L:=by omega
    have hall:∀y∈bx,mF y.1/\mF y.2:=by have:=hok;rwa [<-HL.out,List.take_length]at this
    have uU:Hid (Dc bx):=⟨by rw[HL.out];omega,hall⟩;have jJ:=af qb;clear hok hall qb;go_wp2;refine bodyPost_ret (results_tmp rfl _ _ _) rfl ⟨⟨false,rfl,λ_=>uU.out⟩,jJ.out⟩
theorem ah5 {c:Nat->Bool}{d:Nat}(f q x:Nat)(h:jY c d f q=some x):x<=1024:=by
 induction f generalizing q with
 |zero=>cases h
 | succ f ih=>
   unfold jY at h;split at h
   . cases h
   . split at h
     . simp at h;omega
     . exact ih _ h
theorem adH {g m:Dyadic}{ds:Nat->Dyadic}{bx:List Pr}{x:Nat}(h:gT g m ds bx=some x):x<=1024:=by
 unfold gT at h;split at h
 . simp at h;omega
 . exact ah5 _ _ _ h
theorem WU {x:Raw}(h:mF x):Fit 300 x:=⟨(uy h).1,(uy h).2.mono zd⟩
end Go.Proofs.YtoopepmmepmfnaaGreatDoor
