/- ogeelaw24: num,numbers,far,vast,degrees. -/
import Derived.Test.YtoopepmmepmfnaaGreatDoorZ16
import Derived.Test.YtoopepmmepmfnaaGreatDoorZ17
import Derived.Test.YtoopepmmepmfnaaGreatDoorZ18
set_option linter.unusedVariables false
set_option linter.unusedSimpArgs false
set_option maxRecDepth 100000
set_option maxHeartbeats 16000000
namespace Go.Proofs.YtoopepmmepmfnaaGreatDoor
open Go.RowKit
attribute [local go_sem ↓] Go.wp_at_zero Go.wp_at_succ
def dJ (n:Nat):Dyadic:=Dyadic.ofIntWithPrec (n:Int) 0
theorem iN (n:Nat)(D:Dyadic)(hD:dJ n=D)(w:World)(hn:n<=1000000):
 Calls Tryz.prog 30 #[.int .i64 (n:Int)] w λe w'=>e=.returned (bK D)/\Bw w w':=by
 have h1:=λW=>zQ n W zo;have h2:=λW=>Di false (nt n) 0 D (by unfold ar;simp only[mX];exact hD) W (Nat.le_trans (iM (k:=4) zo) zd) zo;clear hD;generalize nt n=m at*;obtain⟨H1,H2⟩:=aI h1 h2;clear h1 h2;obtain⟨W,bY,Hb,Hr⟩:=gh w 39 [.bool false,.string ⟨#[]⟩,.int .i64 0];obtain⟨r0,ag,r1,ah,r2,au⟩:=Hr.out.g3;go_enter Tryz.func30,Tryz.ntmps30;go_wp2_with fail;refine(H1.out _).mono ?_;rintro e w1 ⟨rfl,ae⟩;clear r0 ag r1 ah r2 au;replace Hr:=kB Hr ae;obtain⟨r0,ag,r1,ah,r2,au⟩:=Hr.out.g3;replace Hb:=ak Hb ae;clear ae;go_wp2_with fail;refine(H2.out _).mono ?_;rintro e w2 ⟨rfl,ae⟩;clear r0 ag r1 ah r2 au;replace Hr:=kB Hr ae;obtain⟨r0,ag,r1,ah,r2,au⟩:=Hr.out.g3;replace Hb:=ak Hb ae;clear ae;go_wp2;clear r0 ag r1 ah r2 au;refine dw (aW w2 (w.heap.size) 0 [.bool (ai (dN D)),.string (bs (nt (dN D).natAbs)),.int .i64 (dE D)]) bi ?_;intro w9 hs;replace Hr:=bF Hr hs;obtain⟨r0,ag,r1,ah,r2,au⟩:=Hr.out.g3;replace Hb:=bS Hb hs ZS;clear hs;refine bodyPost_ret (v:=bK D) (by simp[results,Tryz.results30,go_sem,r0,r1,r2]) rfl ⟨rfl,Hb.out⟩
theorem XP (ds:List Int)(n:Nat)(a a':Option Addr)(cap cap':Nat)(w:World)(hn:ds.length=n)(hl:n<=100000)(ha:At w a (ir ds))(ha':At w a' (ir ds)):
 Calls Tryz.prog 14 #[.slice a n cap,.slice a' n cap'] w λe w'=>e=.returned (.bool true)/\Bw w w':=by
 obtain⟨Ha,qJ,Hn⟩:=cC ha ha' hn;clear ha ha' hn;have Hb:Hid (Bw w w):=Below.refl _ _;go_enter Tryz.func14,Tryz.ntmps14;go_wp2_with fail;go_loopw[5] (λx wr=>∃k:Nat,k<=n/\x=.int .i64 (k:Int)/\Bw w wr) (λx _=>n-(intOf x).toNat);case atStart=>exact⟨0,Nat.zero_le _,rfl,Hb.out⟩
 case round=>
  clear Hb;obtain⟨k,hk,rfl,pb⟩:=hrel;by_cases hlt:k<n
  . have hk2:k<ds.length:=by rw[Hn.out];exact hlt
    obtain⟨b3,o3,rfl,h3⟩:=(Ha.out.below pb).ig k hk2;obtain⟨b4,o4,rfl,h4⟩:=(qJ.out.below pb).ig k hk2;have ix3:=uP n cap k (k:Int) (rfl:(some ⟨b3,o3,none⟩:Option Addr)=_) hlt rfl;have ix4:=uP n cap' k (k:Int) (rfl:(some ⟨b4,o4,none⟩:Option Addr)=_) hlt rfl;rw[Nat.mul_one]at ix3 ix4;obtain⟨d,hd⟩:=aB (ds.getD k 0);rw[hd]at h3 h4;have Hx:Hid (bN wr b3 (o3+k) [.int .i64 d]):=λj hj=>by
     obtain rfl:j=0:=by simp at hj;omega
     exact h3
    have Hy:Hid (bN wr b4 (o4+k) [.int .i64 d]):=λj hj=>by
     obtain rfl:j=0:=by simp at hj;omega
     exact h4
    have aY:=af pb;clear h3 h4 pb hd;have Hb:Hid (Bw wr wr):=Below.refl _ _;have x0:=Hx.out.w1;have y0:=Hy.out.w1;go_wp2_with fail;refine cd (λw'=>w'.cell? ⟨b3,o3+k,none⟩=some (.int .i64 d)/\w'.cell? ⟨b4,o4+k,none⟩=some (.int .i64 d)) (λi=>Nat.blt i 100000) [(0,true),(1,true),(2,true),(3,true),(4,true),(5,true),(6,true),(7,true),(8,true)] zk zk rfl zk zc ⟨x0,y0⟩ ?_;iterate 9 (refine pT rfl rfl ?_ (by intro w' ⟨q0,q1⟩;go_simp;try with_reducible rfl);try simp only[UU])
    simp only[aV];go_wp2;go_roundw;case rel=>exact⟨k+1,by omega,by go_num,aY.out.drew⟩
    case measure=>simp[intOf];omega
  . obtain rfl:k=n:=by omega
    have aY:=af pb;clear pb;go_wp2;refine bodyPost_ret (results_tmp rfl _ _ _) rfl ⟨rfl,aY.out⟩
def mZ (x:Raw):Prop:=x.2.1.length<=12/\ -60<=x.2.2/\x.2.2<=60
theorem Oa {x:Raw}(h:mZ x):Fit 192 x:=by obtain⟨h1,h2,h3⟩:=h;exact⟨⟨by omega,by omega,by omega⟩,Sm.raw (B:=96) zo zo zo⟩
theorem RF {α:Type}{ey:List α}{Q:α->Prop}{k:Nat}(hk:k<ey.length)(h:∀x∈ey.take k,Q x)(hx:Q ey[k]):∀x∈ey.take (k+1),Q x:=by
 intro x hm;rw[List.take_succ_eq_append_getElem hk,List.mem_append]at hm;rcases hm with hm|hm
 . exact h x hm
 . simp at hm;rw[hm];exact hx
def adH (ey:List Raw)(e:Ending):Prop:=∃b,e=.returned (.bool b)/\(b=false->∀x∈ey,mZ x)
theorem ags (c:List Raw)(n:Nat)(a:Option Addr)(cv:Nat)(w:World)(hn:c.length=n)(hl:n<=1099511627776)(ha:At w a (c.flatMap cg)):
 Calls Tryz.prog 16 #[.slice a n cv] w λe w'=>adH c e/\Bw w w':=by
 obtain⟨eD,Hn⟩:=aI ha hn;clear ha hn;go_enter Tryz.func16,Tryz.ntmps16;go_wp2_with fail;go_loopw[3] (λx wr=>∃j:Nat,j<=n/\x=.int .i64 (j:Int)/\(∀y∈c.take j,mZ y)/\Bw w wr) (λx _=>n-(intOf x).toNat);case atStart=>exact⟨0,Nat.zero_le _,rfl,(λy hy=>by simp at hy),Below.refl _ _⟩
 case round=>
  obtain⟨j,hj,rfl,hok,qb⟩:=hrel;by_cases bL:j<n
  . have mU:j<c.length:=by rw[Hn.out];exact bL
    obtain⟨s,m,e,hx⟩:=um (c[j]);obtain⟨b1,o1,rfl,p0,p1,p2⟩:=(eD.out.below qb).num j mU hx;have pM:=td n cv j (j:Int) (rfl:(some ⟨b1,o1,none⟩:Option Addr)=_) bL rfl;have hsz:(bs m).size=m.length:=mK m;obtain⟨gq,AQ,nI⟩:=cC qb hok hx;clear qb hok hx;by_cases g:m.length<=12/\ -60<=e/\e<=60
    . obtain⟨g1,g2,g3⟩:=g;have g4:¬(12:Int)<(m.length:Int):=by omega
      have g5:¬e< -60:=by omega
      have g6:¬60<e:=by omega
      go_wp2;go_roundw;case rel=>exact⟨j+1,by omega,by go_num,RF mU AQ.out (by rw[nI.out];exact⟨g1,g2,g3⟩),gq.out⟩
      case measure=>simp[intOf];omega
    . rcases (show(12:Int)<(m.length:Int)\/(¬(12:Int)<(m.length:Int)/\e< -60)\/(¬(12:Int)<(m.length:Int)/\¬e< -60/\60<e)by omega)with g1|⟨g1,g2⟩ |⟨g1,g2,g3⟩;all_goals
       clear g
       go_wp2
       refine bodyPost_ret (results_tmp rfl _ _ _) rfl ⟨⟨true,rfl,λh=>by cases h⟩,gq.out⟩
  . obtain rfl:j=n:=by omega
    have hall:∀y∈c,mZ y:=by have:=hok;rwa [<-Hn.out,List.take_length]at this
    obtain⟨qK,gq⟩:=aI hall qb;clear hok hall qb;go_wp2;refine bodyPost_ret (results_tmp rfl _ _ _) rfl ⟨⟨false,rfl,λ_=>qK.out⟩,gq.out⟩
def yr (bx:List (Raw×Raw)):Prop:=bx.length<=5/\∀s∈bx,mZ s.1/\mZ s.2
theorem yr.fit {bx:List (Raw×Raw)}(h:yr bx):gN 192 bx:=λs hs=>⟨Oa (h.2 s hs).1,Oa (h.2 s hs).2⟩
theorem amQ (bx:List (Raw×Raw))(L:Nat)(a:Option Addr)(cap:Nat)(w:World)(hL:bx.length=L)(ha:At w a (bx.flatMap bg)):
 Calls Tryz.prog 7 #[.slice a L cap] w λe w'=>(∃b,e=.returned (.bool b)/\(b=false->yr bx))/\Bw w w':=by
 obtain⟨eD,HL⟩:=aI ha hL;clear ha hL;have Hb:Hid (Bw w w):=Below.refl _ _;by_cases h5:5<L
 . have h5i:(5:Int)<(L:Int):=by omega
   go_enter Tryz.func7,Tryz.ntmps7;go_wp2;refine bodyPost_ret (results_tmp rfl _ _ _) rfl ⟨⟨true,rfl,λh=>by cases h⟩,Hb.out⟩
 have h5i:¬(5:Int)<(L:Int):=by omega
 go_enter Tryz.func7,Tryz.ntmps7;go_wp2_with fail;go_loopw[3] (λx wr=>∃j:Nat,j<=L/\x=.int .i64 (j:Int)/\(∀y∈bx.take j,mZ y.1/\mZ y.2)/\Bw w wr) (λx _=>L-(intOf x).toNat);case atStart=>exact⟨0,Nat.zero_le _,rfl,(λy hy=>by simp at hy),Below.refl _ _⟩
 case round=>
  clear Hb;obtain⟨j,hj,rfl,hok,qb⟩:=hrel;by_cases hlt:j<L
  . have mU:j<bx.length:=by rw[HL.out];exact hlt
    obtain⟨s,m,e,t,n,f,hx⟩:∃s m e t n f,bx[j]=((s,m,e),(t,n,f)):=⟨_,_,_,_,_,_,rfl⟩;obtain⟨b,o,hab,hp⟩:=(eD.out.below qb).spn j mU hx;have bD:=kU L cap j (j:Int) hab hlt rfl;obtain⟨Hp,gq,AQ,nI⟩:=cX hp qb hok hx;clear hp qb hok hx hab;have Hb:Hid (Bw wr wr):=Below.refl _ _;have p0:wr.cell? ⟨b,o+j*6,none⟩=some (.bool s):=Hp.out.cell 0 zm;have p1:wr.cell? ⟨b,o+j*6+1,none⟩=some (.string (bs m)):=Hp.out.cell 1 zm;have p2:wr.cell? ⟨b,o+j*6+2,none⟩=some (.int .i64 e):=Hp.out.cell 2 zm;have p3:wr.cell? ⟨b,o+j*6+3,none⟩=some (.bool t):=Hp.out.cell 3 zm;have p4:wr.cell? ⟨b,o+j*6+4,none⟩=some (.string (bs n)):=Hp.out.cell 4 zm;have p5:wr.cell? ⟨b,o+j*6+5,none⟩=some (.int .i64 f):=Hp.out.cell 5 zm;go_wp2_with fail;refine cd (λw'=>w'.cell? ⟨b,o+j*6,none⟩=some (.bool s)/\w'.cell? ⟨b,o+j*6+1,none⟩=some (.string (bs m))/\w'.cell? ⟨b,o+j*6+2,none⟩=some (.int .i64 e)/\w'.cell? ⟨b,o+j*6+3,none⟩=some (.bool t)/\w'.cell? ⟨b,o+j*6+4,none⟩=some (.string (bs n))/\w'.cell? ⟨b,o+j*6+5,none⟩=some (.int .i64 f)) (λi=>Nat.blt i 100000) [(0,true),(1,true),(2,true),(3,true),(4,true),(5,true),(6,true),(7,true),(8,true),(9,true),(10,false),(11,false)] zk zk rfl zk zc ⟨p0,p1,p2,p3,p4,p5⟩ ?_;iterate 10 (refine pT rfl rfl ?_ (by intro w' ⟨q0,q1,q2,q3,q4,q5⟩;go_simp;try with_reducible rfl);try simp only[UU])
    refine aC rfl rfl (λK hK=>?_);go_simp;refine hK _ _ (λ_=>⟨aJ p0,aJ p1,aJ p2,aJ p3,aJ p4,aJ p5⟩) ?_;clear hK K;try simp only[UU]
    refine bJ (λW4=>aj W4 (wr.heap.size) 39 [.bool s,.string (bs m),.int .i64 e,.bool t,.string (bs n),.int .i64 f]/\Bw wr W4) (by first|exact cZ|exact df) ?_;rintro W4 ⟨qc,ae⟩;clear p0 p1 p2 p3 p4 p5;replace Hp:=kW Hp ae;have Hc:=af qc;clear qc;have p0:W4.cell? ⟨b,o+j*6,none⟩=some (.bool s):=Hp.out.cell 0 zm;have p1:W4.cell? ⟨b,o+j*6+1,none⟩=some (.string (bs m)):=Hp.out.cell 1 zm;have p2:W4.cell? ⟨b,o+j*6+2,none⟩=some (.int .i64 e):=Hp.out.cell 2 zm;have p3:W4.cell? ⟨b,o+j*6+3,none⟩=some (.bool t):=Hp.out.cell 3 zm;have p4:W4.cell? ⟨b,o+j*6+4,none⟩=some (.string (bs n)):=Hp.out.cell 4 zm;have p5:W4.cell? ⟨b,o+j*6+5,none⟩=some (.int .i64 f):=Hp.out.cell 5 zm;obtain⟨c0,c1,c2,c3,c4,c5⟩:=Hc.out.c6;replace Hb:=ak Hb ae;clear ae;refine aC rfl rfl (λK hK=>?_);go_simp;with_reducible refine(ags [(s,m,e),(t,n,f)] 2 (some ⟨wr.heap.size,0,none⟩) 2 _ rfl zd (At.arc Hc.out)).mono ?_
    rintro e w5 ⟨⟨v,rfl,hv⟩,hq⟩;have ae:Bw W4 w5:=by first|exact hq|exact aO hq
    clear p0 p1 p2 p3 p4 p5 c0 c1 c2 c3 c4 c5;replace Hp:=kW Hp ae;replace Hc:=kB Hc ae;have p0:w5.cell? ⟨b,o+j*6,none⟩=some (.bool s):=Hp.out.cell 0 zm;have p1:w5.cell? ⟨b,o+j*6+1,none⟩=some (.string (bs m)):=Hp.out.cell 1 zm;have p2:w5.cell? ⟨b,o+j*6+2,none⟩=some (.int .i64 e):=Hp.out.cell 2 zm;have p3:w5.cell? ⟨b,o+j*6+3,none⟩=some (.bool t):=Hp.out.cell 3 zm;have p4:w5.cell? ⟨b,o+j*6+4,none⟩=some (.string (bs n)):=Hp.out.cell 4 zm;have p5:w5.cell? ⟨b,o+j*6+5,none⟩=some (.int .i64 f):=Hp.out.cell 5 zm;obtain⟨c0,c1,c2,c3,c4,c5⟩:=Hc.out.c6;replace Hb:=ak Hb ae;clear ae;refine hK _ _ (λ_=>⟨p0,p1,p2,p3,p4,p5⟩) ?_;clear hK K;try simp only[UU]
    simp only[aV];have Hv:=af hv;clear hv;cases v with
    |true=>go_wp2;refine bodyPost_ret (results_tmp rfl _ _ _) rfl ⟨⟨true,rfl,λh=>by cases h⟩,aH gq.out Hb.out⟩
    | false=>
      have VL:mZ bx[j].1/\mZ bx[j].2:=by rw[nI.out];exact⟨Hv.out rfl _ zm,Hv.out rfl _ zm⟩
      have acr:=af VL;clear VL;go_wp2;go_roundw;case rel=>exact⟨j+1,by omega,by go_num,RF mU AQ.out acr.out,aH gq.out Hb.out⟩
      case measure=>simp[intOf];omega
  . obtain rfl:j=L:=by omega
    have hall:∀y∈bx,mZ y.1/\mZ y.2:=by have:=hok;rwa [<-HL.out,List.take_length]at this
    have vL:Hid (yr bx):=⟨by rw[HL.out];omega,hall⟩;have gq:=af qb;clear hok hall qb;go_wp2;refine bodyPost_ret (results_tmp rfl _ _ _) rfl ⟨⟨false,rfl,λ_=>vL.out⟩,gq.out⟩
theorem mC.smP {B:Nat}{bx:List (Raw×Raw)}(h:mC B bx):mJ B (bx.map bA):=λp hp=>by obtain⟨s,hs,rfl⟩:=List.mem_map.1 hp;exact⟨(h s hs).1.2,(h s hs).2.2⟩
theorem Ze {B:Nat}{bx:List (Raw×Raw)}(h:mC B bx)(k:Nat)(hB:B+3*k<=16384):mC (B+3*k) (jr bx k):=by
 cases k with
 |zero=>exact h
 |succ k=>exact mC.of (Zd h.smP (k+1)) hB
theorem alc (a:Option Addr)(L cap B N:Nat)(bx:List (Raw×Raw))(w:World)(hL:bx.length=L)(h1:1<=L)(hl:L<=1000)(hf:mC B bx)(hB:B<=10000)(ha:At w a (bx.flatMap bg))(hN:N<=1024):
 Calls Tryz.prog 15 #[.slice a L cap,.int .i64 (N:Int)] w λe w'=>∃a' c',e=.returned (.slice a' N c')/\At w' a' (lK (bx.map bA) N)/\Bw w w':=by
 obtain⟨i0,hi,hz0,hz1,hz2⟩:=info_parts Tryz.arn;have hwd:∀k a1 c1 W,k<=1024->At W a1 ((jr bx k).flatMap bg)->Calls Tryz.prog 40 #[.slice a1 L c1] W λe w'=>e=.returned (.int .i64 (kH (bx.map bA) k:Int))/\Bw W w':=λk a1 c1 W hk hat=>by have h:=ak9 a1 L c1 (B+3*k) (jr bx k) W (by rw[OM];exact hL) h1 hl (Ze hf k zo) zo hat;rw[Ih]at h;exact h
 have FW:∀k a1 c1 W,k<=1024->At W a1 ((jr bx k).flatMap bg)->Calls Tryz.prog 41 #[.slice a1 L c1,.int .i64 (kH (bx.map bA) k:Int),.bool false] W λe w'=>∃a2 c2,e=.returned (.slice a2 L c2)/\At w' a2 ((jr bx (k+1)).flatMap bg)/\(∀b o,a2=some ⟨b,o,none⟩->W.heap.size<=b)/\Bw W w':=λk a1 c1 W hk hat=>by have hlt:=ad9 (bx.map bA) k (λe=>by have h9:=congrArg List.length e;rw[List.length_map]at h9;have h8:([]:List Pr).length=0:=rfl;omega);rw[List.length_map,hL]at hlt;have h:=ak8 a1 L c1 (B+3*k) (jr bx k) (kH (bx.map bA) k) W (by rw[OM];exact hL) hlt hl (Ze hf k zo) zo hat;rw[Ih]at h;exact h
 have hnx:=RI (bx.map bA);have lT:lK (bx.map bA) 0=[]:=rfl;have hs0:jr bx 0=bx:=rfl;obtain⟨AC,yD⟩:∃f,lK (bx.map bA)=f:=⟨_,rfl⟩;obtain⟨AX,BK⟩:∃f,kH (bx.map bA)=f:=⟨_,rfl⟩;obtain⟨SR,wu⟩:∃f,jr bx=f:=⟨_,rfl⟩;rw[yD]at hnx lT⊢;simp only[BK]at hnx FW hwd;simp only[wu]at FW hwd;rw[wu]at hs0;rw[<-hs0]at ha;obtain⟨Hi,eF,eG,dL,Hwd,Hhf,mH,Ak,Ha⟩:=CO hi hz0 hz1 hz2 hwd FW hnx lT ha;clear hi hz0 hz1 hz2 hwd FW hnx lT hs0 wu BK yD ha hf hL;have Hb:Hid (Bw w w):=Below.refl _ _;go_enter Tryz.func15,Tryz.ntmps15;go_wp2_with fail;go_loopw[0,5,6] (λs0 s5 x wr=>∃(k:Nat) (v:Value) (a1:Option Addr) (c1:Nat),k<=N/\x=.int .i64 (k:Int)/\s0=.slice a1 L c1/\v=s5/\wr.ownsRow w.heap.size 3 1 v k (AC k)/\At wr a1 ((SR k).flatMap bg)/\Bw w wr) (λ_ _ x _=>N-(intOf x).toNat);case atStart=>exact⟨0,_,_,_,Nat.zero_le _,rfl,rfl,rfl,by rw[Ak.out];exact World.ownsRow_nil _ _ _ _,Ha.out,Hb.out⟩
 case round=>
  clear Hb Ha;obtain⟨k,v,a1,c1,hk,rfl,rfl,rfl,pv,pa,pb⟩:=hrel;by_cases hlt:k<N
  . have hlt':(k:Int)<(N:Int):=by omega
    obtain⟨cQ,JW,aY⟩:=cC pv pa pb;have lh:=pb.size;clear pv pa pb;have Hb:Hid (Bw wr wr):=Below.refl _ _;go_wp2_with fail;refine(Hwd.out k a1 c1 _ zo JW.out).mono ?_;rintro e w4 ⟨rfl,ae⟩;replace Hb:=ak Hb ae;clear ae;go_wp2_with fail;refine(Hhf.out k a1 c1 _ zo (JW.out.below Hb.out)).mono ?_;rintro e w5 ⟨a2,c2,rfl,h2,hnb,ae⟩;have hvl:=cQ.out.lt;have Zm:=Hb.out.size;have cP:=aH Hb.out ae;have za:=ownsRow_below cQ.out cP;have eW:=aH aY.out cP;have OQ:=cP.size;obtain⟨H2,Hv5,gU⟩:=cC h2 za eW;clear h2 ae cP za eW cQ JW aY Hb;have Hb:Hid (Bw w5 w5):=Below.refl _ _;obtain⟨W6,nX,ae,Hd⟩:=cf w5 3 [.int .i64 (AX k:Int)];have d0:=Hd.out.c1;replace Hb:=ak Hb ae;clear ae;have cV:=ownsRow_below Hv5.out Hb.out;have Ue:=H2.out.below Hb.out;have kj:=Hb.out.size;have hnews:∀i u,([.int .i64 (AX k:Int)]:List Value)[i]?=some u->W6.cell? ((⟨w5.heap.size,0,none⟩:Addr).add i)=some u:=jh Hd.out;have Ha6:=af Ue;clear d0 Ue;go_wp2_with (at_builtin;refine wpList_append_own_at _ rfl _ _ 26 rfl w.heap.size 3 i0 _ 1 8 Tryz.underlying26 Hi.out eF.out eG.out dL.out rfl zd v k (AC k) rfl cV ⟨w5.heap.size,0,none⟩ 1 1 [.int .i64 (AX k:Int)] rfl rfl hnews zy zx zo zo ?_;intro v' w7 eU fu _ _;obtain⟨g',nM,rfl⟩:=ownsRow_succ eU);go_roundw;case rel=>
     refine⟨k+1,_,_,_,by omega,by go_num,rfl,rfl,?_,?_,?_⟩
     . rw[mH.out];exact eU
     . exact Ha6.out.grown fu (λb o e1 e2=>by have:=hnb b o e1;have:=hvl b e2.symm;omega)
     . exact(aH gU.out Hb.out).grown fu zo (λj e=>by have:=eI cV j e;omega)
    case measure=>simp[intOf];omega
  . obtain rfl:k=N:=by omega
    obtain⟨a2,c2,rfl,hat,_⟩:=ej pv;obtain⟨eD,Hb⟩:=aI hat pb;clear pv pb hat pa;go_wp2;refine bodyPost_ret (results_tmp rfl _ _ _) rfl ⟨a2,c2,rfl,eD.out,Hb.out⟩
end Go.Proofs.YtoopepmmepmfnaaGreatDoor
