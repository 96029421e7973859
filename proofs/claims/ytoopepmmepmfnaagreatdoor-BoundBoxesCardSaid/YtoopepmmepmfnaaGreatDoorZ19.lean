/- ogeelaw24: num,numbers,far,vast,degrees. -/
import Derived.Test.YtoopepmmepmfnaaGreatDoorZ16
import Derived.Test.YtoopepmmepmfnaaGreatDoorZ17
import Derived.Test.YtoopepmmepmfnaaGreatDoorZ18
set_option linter.unusedVariables false
set_option linter.unusedSimpArgs false
set_option maxRecDepth 100000
set_option maxHeartbeats 16000000
namespace Go.Proofs.YtoopepmmepmfnaaGreatDoor
open Go.RowKit
attribute [local go_sem ↓] Go.wp_at_zero Go.wp_at_succ
def dJ (n:Nat):Dyadic:=Dyadic.ofIntWithPrec (n:Int) 0
theorem iW (n:Nat)(D:Dyadic)(hD:dJ n=D)(w:World)(hn:n<=1000000):
 Calls Tryz.prog 30 #[.int .i64 (n:Int)] w λe w'=>e=.returned (bH D)/\Bw w w':=by
 have h1:=λW=>Dj n W zo;have h2:=λW=>xG false (nt n) 0 D (by unfold ar;simp only[lF];exact hD) W (Nat.le_trans (iq (k:=4) zo) zd) zo;clear hD;generalize nt n=m at*;obtain⟨H1,H2⟩:=aI h1 h2;clear h1 h2;obtain⟨W,bU,Hb,Hr⟩:=gL w 39 [.bool false,.string ⟨#[]⟩,.int .i64 0];obtain⟨r0,ag,r1,ah,r2,au⟩:=Hr.out.g3;go_enter Tryz.func30,Tryz.ntmps30;go_wp2_with fail;refine(H1.out _).mono ?_;rintro e w1 ⟨rfl,ae⟩;clear r0 ag r1 ah r2 au;replace Hr:=kB Hr ae;obtain⟨r0,ag,r1,ah,r2,au⟩:=Hr.out.g3;replace Hb:=ak Hb ae;clear ae;go_wp2_with fail;refine(H2.out _).mono ?_;rintro e w2 ⟨rfl,ae⟩;clear r0 ag r1 ah r2 au;replace Hr:=kB Hr ae;obtain⟨r0,ag,r1,ah,r2,au⟩:=Hr.out.g3;replace Hb:=ak Hb ae;clear ae;go_wp2;clear r0 ag r1 ah r2 au;refine dx (aY w2 (w.heap.size) 0 [.bool (ai (dN D)),.string (bs (nt (dN D).natAbs)),.int .i64 (dE D)]) bg ?_;intro w9 hs;replace Hr:=bE Hr hs;obtain⟨r0,ag,r1,ah,r2,au⟩:=Hr.out.g3;replace Hb:=bS Hb hs ZS;clear hs;refine bodyPost_ret (v:=bH D) (by simp[results,Tryz.results30,go_sem,r0,r1,r2]) rfl ⟨rfl,Hb.out⟩
theorem akp (ds:List Int)(n:Nat)(a a':Option Addr)(cap cap':Nat)(w:World)(hn:ds.length=n)(hl:n<=100000)(ha:At w a (ji ds))(ha':At w a' (ji ds)):
 Calls Tryz.prog 14 #[.slice a n cap,.slice a' n cap'] w λe w'=>e=.returned (.bool true)/\Bw w w':=by
 obtain⟨Ha,ue,Hn⟩:=cG ha ha' hn;clear ha ha' hn;have Hb:Hid (Bw w w):=Below.refl _ _;go_enter Tryz.func14,Tryz.ntmps14;go_wp2_with fail;go_loopw[5] (λx wr=>∃k:Nat,k<=n/\x=.int .i64 (k:Int)/\Bw w wr) (λx _=>n-(intOf x).toNat);case atStart=>exact⟨0,Nat.zero_le _,rfl,Hb.out⟩
 case round=>
  clear Hb;obtain⟨k,hk,rfl,pb⟩:=hrel;by_cases hlt:k<n
  . have hk2:k<ds.length:=by rw[Hn.out];exact hlt
    obtain⟨b3,o3,rfl,h3⟩:=(Ha.out.below pb).ig k hk2;obtain⟨b4,o4,rfl,h4⟩:=(ue.out.below pb).ig k hk2;have CQ:=nu n cap k (k:Int) (rfl:(some ⟨b3,o3,none⟩:Option Addr)=_) hlt rfl;have ix4:=nu n cap' k (k:Int) (rfl:(some ⟨b4,o4,none⟩:Option Addr)=_) hlt rfl;rw[Nat.mul_one]at CQ ix4;obtain⟨d,hd⟩:=aB (ds.getD k 0);rw[hd]at h3 h4;have Hx:Hid (bO wr b3 (o3+k) [.int .i64 d]):=λj hj=>by
     obtain rfl:j=0:=by simp at hj;omega
     exact h3
    have Hy:Hid (bO wr b4 (o4+k) [.int .i64 d]):=λj hj=>by
     obtain rfl:j=0:=by simp at hj;omega
     exact h4
    have aZ:=af pb;clear h3 h4 pb hd;have Hb:Hid (Bw wr wr):=Below.refl _ _;have x0:=Hx.out.w1;have y0:=Hy.out.w1;go_wp2_with fail;refine bW (λw'=>w'.cell? ⟨b3,o3+k,none⟩=some (.int .i64 d)/\w'.cell? ⟨b4,o4+k,none⟩=some (.int .i64 d)) (λi=>Nat.blt i 100000) [(0,true),(1,true),(2,true),(3,true),(4,true),(5,true),(6,true),(7,true),(8,true)] zk zk rfl zk zc ⟨x0,y0⟩ ?_;iterate 9 (refine pT rfl rfl ?_ (by intro w' ⟨q0,q1⟩;go_simp;try with_reducible rfl);try simp only[UU])
    simp only[aV];go_wp2;go_roundw;case rel=>exact⟨k+1,by omega,by go_num,aZ.out.drew⟩
    case measure=>simp[intOf];omega
  . obtain rfl:k=n:=by omega
    have aZ:=af pb;clear pb;go_wp2;refine bodyPost_ret (results_tmp rfl _ _ _) rfl ⟨rfl,aZ.out⟩
def lH (x:Raw):Prop:=x.2.1.length<=12/\ -60<=x.2.2/\x.2.2<=60
theorem CZ {x:Raw}(h:lH x):Fit 192 x:=by obtain⟨h1,h2,h3⟩:=h;exact⟨⟨by omega,by omega,by omega⟩,Sm.raw (B:=96) zo zo zo⟩
theorem EC {α:Type}{ej:List α}{Q:α->Prop}{k:Nat}(hk:k<ej.length)(h:∀x∈ej.take k,Q x)(hx:Q ej[k]):∀x∈ej.take (k+1),Q x:=by
 intro x hm;rw[List.take_succ_eq_append_getElem hk,List.mem_append]at hm;rcases hm with hm|hm
 . exact h x hm
 . simp at hm;rw[hm];exact hx
def adJ (ej:List Raw)(e:Ending):Prop:=∃b,e=.returned (.bool b)/\(b=false->∀x∈ej,lH x)
theorem TA (c:List Raw)(n:Nat)(a:Option Addr)(cv:Nat)(w:World)(hn:c.length=n)(hl:n<=1099511627776)(ha:At w a (c.flatMap cg)):
 Calls Tryz.prog 16 #[.slice a n cv] w λe w'=>adJ c e/\Bw w w':=by
 obtain⟨eJ,Hn⟩:=aI ha hn;clear ha hn;go_enter Tryz.func16,Tryz.ntmps16;go_wp2_with fail;go_loopw[3] (λx wr=>∃j:Nat,j<=n/\x=.int .i64 (j:Int)/\(∀y∈c.take j,lH y)/\Bw w wr) (λx _=>n-(intOf x).toNat);case atStart=>exact⟨0,Nat.zero_le _,rfl,(λy hy=>by simp at hy),Below.refl _ _⟩
 case round=>
  obtain⟨j,hj,rfl,hok,qb⟩:=hrel;by_cases bG:j<n
  . have nj:j<c.length:=by rw[Hn.out];exact bG
    obtain⟨s,m,e,hx⟩:=ux (c[j]);obtain⟨b1,o1,rfl,p0,p1,p2⟩:=(eJ.out.below qb).num j nj hx;have pW:=tE n cv j (j:Int) (rfl:(some ⟨b1,o1,none⟩:Option Addr)=_) bG rfl;have hsz:(bs m).size=m.length:=mW m;obtain⟨gq,rh,nW⟩:=cG qb hok hx;clear qb hok hx;by_cases g:m.length<=12/\ -60<=e/\e<=60
    . obtain⟨g1,g2,g3⟩:=g;have g4:¬(12:Int)<(m.length:Int):=by omega
      have g5:¬e< -60:=by omega
      have g6:¬60<e:=by omega
      go_wp2;go_roundw;case rel=>exact⟨j+1,by omega,by go_num,EC nj rh.out (by rw[nW.out];exact⟨g1,g2,g3⟩),gq.out⟩
      case measure=>simp[intOf];omega
    . rcases (show(12:Int)<(m.length:Int)\/(¬(12:Int)<(m.length:Int)/\e< -60)\/(¬(12:Int)<(m.length:Int)/\¬e< -60/\60<e)by omega)with g1|⟨g1,g2⟩ |⟨g1,g2,g3⟩;all_goals
       clear g
       go_wp2
       refine bodyPost_ret (results_tmp rfl _ _ _) rfl ⟨⟨true,rfl,λh=>by cases h⟩,gq.out⟩
  . obtain rfl:j=n:=by omega
    have hall:∀y∈c,lH y:=by have:=hok;rwa [<-Hn.out,List.take_length]at this
    obtain⟨nR,gq⟩:=aI hall qb;clear hok hall qb;go_wp2;refine bodyPost_ret (results_tmp rfl _ _ _) rfl ⟨⟨false,rfl,λ_=>nR.out⟩,gq.out⟩
def yr (bx:List (Raw×Raw)):Prop:=bx.length<=5/\∀s∈bx,lH s.1/\lH s.2
theorem yr.fit {bx:List (Raw×Raw)}(h:yr bx):gU 192 bx:=λs hs=>⟨CZ (h.2 s hs).1,CZ (h.2 s hs).2⟩
theorem am2 (bx:List (Raw×Raw))(L:Nat)(a:Option Addr)(cap:Nat)(w:World)(hL:bx.length=L)(ha:At w a (bx.flatMap bJ)):
 Calls Tryz.prog 7 #[.slice a L cap] w λe w'=>(∃b,e=.returned (.bool b)/\(b=false->yr bx))/\Bw w w':=by
 obtain⟨eJ,HL⟩:=aI ha hL;clear ha hL;have Hb:Hid (Bw w w):=Below.refl _ _;by_cases h5:5<L
 . have h5i:(5:Int)<(L:Int):=by omega
   go_enter Tryz.func7,Tryz.ntmps7;go_wp2;refine bodyPost_ret (results_tmp rfl _ _ _) rfl ⟨⟨true,rfl,λh=>by cases h⟩,Hb.out⟩
 have h5i:¬(5:Int)<(L:Int):=by omega
 go_enter Tryz.func7,Tryz.ntmps7;go_wp2_with fail;go_loopw[3] (λx wr=>∃j:Nat,j<=L/\x=.int .i64 (j:Int)/\(∀y∈bx.take j,lH y.1/\lH y.2)/\Bw w wr) (λx _=>L-(intOf x).toNat);case atStart=>exact⟨0,Nat.zero_le _,rfl,(λy hy=>by simp at hy),Below.refl _ _⟩
 case round=>
  clear Hb;obtain⟨j,hj,rfl,hok,qb⟩:=hrel;by_cases hlt:j<L
  . have nj:j<bx.length:=by rw[HL.out];exact hlt
    obtain⟨s,m,e,t,n,f,hx⟩:∃s m e t n f,bx[j]=((s,m,e),(t,n,f)):=⟨_,_,_,_,_,_,rfl⟩;obtain⟨b,o,hab,hp⟩:=(eJ.out.below qb).spn j nj hx;have bB:=np L cap j (j:Int) hab hlt rfl;obtain⟨Hp,gq,rh,nW⟩:=cQ hp qb hok hx;clear hp qb hok hx hab;have Hb:Hid (Bw wr wr):=Below.refl _ _;have p0:wr.cell? ⟨b,o+j*6,none⟩=some (.bool s):=Hp.out.cell 0 zm;have p1:wr.cell? ⟨b,o+j*6+1,none⟩=some (.string (bs m)):=Hp.out.cell 1 zm;have p2:wr.cell? ⟨b,o+j*6+2,none⟩=some (.int .i64 e):=Hp.out.cell 2 zm;have p3:wr.cell? ⟨b,o+j*6+3,none⟩=some (.bool t):=Hp.out.cell 3 zm;have p4:wr.cell? ⟨b,o+j*6+4,none⟩=some (.string (bs n)):=Hp.out.cell 4 zm;have p5:wr.cell? ⟨b,o+j*6+5,none⟩=some (.int .i64 f):=Hp.out.cell 5 zm;go_wp2_with fail;refine bW (λw'=>w'.cell? ⟨b,o+j*6,none⟩=some (.bool s)/\w'.cell? ⟨b,o+j*6+1,none⟩=some (.string (bs m))/\w'.cell? ⟨b,o+j*6+2,none⟩=some (.int .i64 e)/\w'.cell? ⟨b,o+j*6+3,none⟩=some (.bool t)/\w'.cell? ⟨b,o+j*6+4,none⟩=some (.string (bs n))/\w'.cell? ⟨b,o+j*6+5,none⟩=some (.int .i64 f)) (λi=>Nat.blt i 100000) [(0,true),(1,true),(2,true),(3,true),(4,true),(5,true),(6,true),(7,true),(8,true),(9,true),(10,false),(11,false)] zk zk rfl zk zc ⟨p0,p1,p2,p3,p4,p5⟩ ?_;iterate 10 (refine pT rfl rfl ?_ (by intro w' ⟨q0,q1,q2,q3,q4,q5⟩;go_simp;try with_reducible rfl);try simp only[UU])
    refine aC rfl rfl (λK hK=>?_);go_simp;refine hK _ _ (λ_=>⟨aJ p0,aJ p1,aJ p2,aJ p3,aJ p4,aJ p5⟩) ?_;clear hK K;try simp only[UU]
    refine bI (λW4=>aj W4 (wr.heap.size) 39 [.bool s,.string (bs m),.int .i64 e,.bool t,.string (bs n),.int .i64 f]/\Bw wr W4) (by first|exact cS|exact cV) ?_;rintro W4 ⟨qc,ae⟩;clear p0 p1 p2 p3 p4 p5;replace Hp:=kW Hp ae;have Hc:=af qc;clear qc;have p0:W4.cell? ⟨b,o+j*6,none⟩=some (.bool s):=Hp.out.cell 0 zm;have p1:W4.cell? ⟨b,o+j*6+1,none⟩=some (.string (bs m)):=Hp.out.cell 1 zm;have p2:W4.cell? ⟨b,o+j*6+2,none⟩=some (.int .i64 e):=Hp.out.cell 2 zm;have p3:W4.cell? ⟨b,o+j*6+3,none⟩=some (.bool t):=Hp.out.cell 3 zm;have p4:W4.cell? ⟨b,o+j*6+4,none⟩=some (.string (bs n)):=Hp.out.cell 4 zm;have p5:W4.cell? ⟨b,o+j*6+5,none⟩=some (.int .i64 f):=Hp.out.cell 5 zm;obtain⟨c0,c1,c2,c3,c4,c5⟩:=Hc.out.c6;replace Hb:=ak Hb ae;clear ae;refine aC rfl rfl (λK hK=>?_);go_simp;with_reducible refine(TA [(s,m,e),(t,n,f)] 2 (some ⟨wr.heap.size,0,none⟩) 2 _ rfl zd (At.arA Hc.out)).mono ?_
    rintro e w5 ⟨⟨v,rfl,hv⟩,hq⟩;have ae:Bw W4 w5:=by first|exact hq|exact aM hq
    clear p0 p1 p2 p3 p4 p5 c0 c1 c2 c3 c4 c5;replace Hp:=kW Hp ae;replace Hc:=kB Hc ae;have p0:w5.cell? ⟨b,o+j*6,none⟩=some (.bool s):=Hp.out.cell 0 zm;have p1:w5.cell? ⟨b,o+j*6+1,none⟩=some (.string (bs m)):=Hp.out.cell 1 zm;have p2:w5.cell? ⟨b,o+j*6+2,none⟩=some (.int .i64 e):=Hp.out.cell 2 zm;have p3:w5.cell? ⟨b,o+j*6+3,none⟩=some (.bool t):=Hp.out.cell 3 zm;have p4:w5.cell? ⟨b,o+j*6+4,none⟩=some (.string (bs n)):=Hp.out.cell 4 zm;have p5:w5.cell? ⟨b,o+j*6+5,none⟩=some (.int .i64 f):=Hp.out.cell 5 zm;obtain⟨c0,c1,c2,c3,c4,c5⟩:=Hc.out.c6;replace Hb:=ak Hb ae;clear ae;refine hK _ _ (λ_=>⟨p0,p1,p2,p3,p4,p5⟩) ?_;clear hK K;try simp only[UU]
    simp only[aV];have Hv:=af hv;clear hv;cases v with
    |true=>go_wp2;refine bodyPost_ret (results_tmp rfl _ _ _) rfl ⟨⟨true,rfl,λh=>by cases h⟩,aH gq.out Hb.out⟩
    | false=>
      have VZ:lH bx[j].1/\lH bx[j].2:=by rw[nW.out];exact⟨Hv.out rfl _ zm,Hv.out rfl _ zm⟩
      have acs:=af VZ;clear VZ;go_wp2;go_roundw;case rel=>exact⟨j+1,by omega,by go_num,EC nj rh.out acs.out,aH gq.out Hb.out⟩
      case measure=>simp[intOf];omega
  . obtain rfl:j=L:=by omega
    have hall:∀y∈bx,lH y.1/\lH y.2:=by have:=hok;rwa [<-HL.out,List.take_length]at this
    have vL:Hid (yr bx):=⟨by rw[HL.out];omega,hall⟩;have gq:=af qb;clear hok hall qb;go_wp2;refine bodyPost_ret (results_tmp rfl _ _ _) rfl ⟨⟨false,rfl,λ_=>vL.out⟩,gq.out⟩
theorem mO.smP {B:Nat}{bx:List (Raw×Raw)}(h:mO B bx):mV B (bx.map bj):=λp hp=>by obtain⟨s,hs,rfl⟩:=List.mem_map.1 hp;exact⟨(h s hs).1.2,(h s hs).2.2⟩
theorem Zo {B:Nat}{bx:List (Raw×Raw)}(h:mO B bx)(k:Nat)(hB:B+3*k<=16384):mO (B+3*k) (jB bx k):=by
 cases k with
 |zero=>exact h
 |succ k=>exact mO.of (Zn h.smP (k+1)) hB
theorem alE (n:Nat)(D:Dyadic)(hD:Dyadic.ofIntWithPrec (n:Int) 0=D)(w:World)(hn:n<=1099511627776):
 Calls Tryz.prog 52 #[.int .i64 (n:Int)] w λe w'=>e=.returned (bH D)/\Bw w w':=by
 have h1:=λW=>Dj n W zo;have h2:=λW=>xG false (nt n) 0 D (by unfold ar;simp only[lF];exact hD) W (Nat.le_trans (iq (k:=6) zo) zd) zo;clear hD;generalize nt n=m at*;obtain⟨H1,H2⟩:=aI h1 h2;clear h1 h2;obtain⟨W,bU,Hb,Hr⟩:=gL w 39 [.bool false,.string ⟨#[]⟩,.int .i64 0];obtain⟨r0,ag,r1,ah,r2,au⟩:=Hr.out.g3;go_enter Tryz.func52,Tryz.ntmps52;go_wp2_with fail;refine(H1.out _).mono ?_;rintro e w1 ⟨rfl,ae⟩;clear r0 ag r1 ah r2 au;replace Hr:=kB Hr ae;obtain⟨r0,ag,r1,ah,r2,au⟩:=Hr.out.g3;replace Hb:=ak Hb ae;clear ae;go_wp2_with fail;refine(H2.out _).mono ?_;rintro e w2 ⟨rfl,ae⟩;clear r0 ag r1 ah r2 au;replace Hr:=kB Hr ae;obtain⟨r0,ag,r1,ah,r2,au⟩:=Hr.out.g3;replace Hb:=ak Hb ae;clear ae;go_wp2;clear r0 ag r1 ah r2 au;refine dx (aY w2 (w.heap.size) 0 [.bool (ai (dN D)),.string (bs (nt (dN D).natAbs)),.int .i64 (dE D)]) bg ?_;intro w9 hs;replace Hr:=bE Hr hs;obtain⟨r0,ag,r1,ah,r2,au⟩:=Hr.out.g3;replace Hb:=bS Hb hs ZS;clear hs;refine bodyPost_ret (v:=bH D) (by simp[results,Tryz.results52,go_sem,r0,r1,r2]) rfl ⟨rfl,Hb.out⟩
theorem aln (a:Option Addr)(L cap B:Nat)(bx:List (Raw×Raw))(da:Option Addr)(dc:Nat)(ds:List Int)(gs:Bool)(gl:List UInt8)(ge:Int)(ms:Bool)(ml:List UInt8)(me:Int)(w:World)(hL:bx.length=L)(h1:1<=L)(hl:L<=1000)(hf:mO B bx)(hB:B<=10000)(ha:At w a (bx.flatMap bJ))(jP:At w da (ji ds))
 (Ci:ds.length=L) (hd:∀d∈ds,0<=d/\d<=1099511627776) (hg:iG 300 (gs,gl,ge)) (hm:iG 300 (ms,ml,me)):
 Calls Tryz.prog 20 #[.slice a L cap,.slice da L dc,.agg #[.bool gs,.string (bs gl),.int .i64 ge],.agg #[.bool ms,.string (bs ml),.int .i64 me]] w λe w'=>e=.returned (.int .i64 (((kV (ar (gs,gl,ge)) (ar (ms,ml,me)) (qw ds) (bx.map bj)).getD 1025:Nat):Int))/\Bw w w':=by
 have hwd:∀k a1 c1 W,k<=1024->At W a1 ((jB bx k).flatMap bJ)->Calls Tryz.prog 40 #[.slice a1 L c1] W λe w'=>e=.returned (.int .i64 (js (bx.map bj) k:Int))/\Bw W w':=λk a1 c1 W hk hat=>by have h:=alj a1 L c1 (B+3*k) (jB bx k) W (by rw[Po];exact hL) h1 hl (Zo hf k zo) zo hat;rw[Ir]at h;exact h
 have hal:∀k,js (bx.map bj) k<L:=λk=>by have hlt:=aec (bx.map bj) k (λe=>by have h9:=congrArg List.length e;rw[List.length_map]at h9;have h8:([]:List Pr).length=0:=rfl;omega);rwa [List.length_map,hL]at hlt
 have Gd:∀k a1 c1 W,k<=1024->At W a1 ((jB bx k).flatMap bJ)->Calls Tryz.prog 41 #[.slice a1 L c1,.int .i64 (js (bx.map bj) k:Int),.bool false] W λe w'=>∃a2 c2,e=.returned (.slice a2 L c2)/\At w' a2 ((jB bx (k+1)).flatMap bJ)/\(∀b o,a2=some ⟨b,o,none⟩->W.heap.size<=b)/\Bw W w':=λk a1 c1 W hk hat=>by have h:=ali a1 L c1 (B+3*k) (jB bx k) (js (bx.map bj) k) W (by rw[Po];exact hL) (hal k) hl (Zo hf k zo) zo hat;rw[Ir]at h;exact h
 have hab:∀b o,a=some ⟨b,o,none⟩->b<w.heap.size:=λb o e=>by subst e;exact ha.lt (by intro h0;have h9:=congrArg List.length h0;rw[Dn,List.length_nil]at h9;omega)
 have Ch:∀b o,da=some ⟨b,o,none⟩->b<w.heap.size:=λb o e=>by obtain⟨b',o',e',hc⟩:=jP.ig 0 zo;rw[e]at e';simp only[Option.some.injEq,Addr.mk.injEq,and_true]at e';rw[e'.1];exact World.block_lt_of_cell? w _ hc
 have htm:∀k,gN (gj (bx.map bj) k) L=gN (gj (bx.map bj) k) L:=λ_=>rfl;have hts:∀k,(gN (gj (bx.map bj) k) L).set (js (bx.map bj) k) (.int .i64 ((gj (bx.map bj) k (js (bx.map bj) k):Int)+1))=gN (gj (bx.map bj) (k+1)) L:=λk=>ZF (gj (bx.map bj) k) L (js (bx.map bj) k) _ zo;have htl:∀k i,gj (bx.map bj) k i<=k:=λk i=>Pz _ _ _;have hs0:jB bx 0=bx:=rfl;have ht0:gj (bx.map bj) 0=λ_=>0:=rfl;obtain⟨G,hG⟩:=aB (ar (gs,gl,ge));obtain⟨M,hM⟩:=aB (ar (ms,ml,me));have mA:Sm 300 G:=by rw[<-hG];exact hg.2
 have ow:Sm 300 M:=by rw[<-hM];exact hm.2
 have hFn:dV (canon (-ar (ms,ml,me))):=LR hm zd;have hdr:∀i,0<=ds.getD i 0/\ds.getD i 0<=1099511627776:=λi=>by
  by_cases h:i<ds.length
  . have e:ds.getD i 0=ds[i]:=by simp[h]
    rw[e];exact hd _ (List.getElem_mem h)
  . have e:ds.getD i 0=0:=by simp[List.getD_eq_getElem?_getD,List.getElem?_eq_none (by omega:ds.length<=i)]
    rw[e];decide
 obtain⟨D,hD⟩:∃D:Nat->Dyadic,qw ds=D:=⟨_,rfl⟩;have wu:∀i,Dyadic.ofIntWithPrec (ds.getD i 0) 0=D i:=λi=>by rw[<-hD];rfl
 have iT:∀i,Sm 128 (D i):=λi=>by rw[<-wu];exact Db _ (by have:=hdr i;omega)
 obtain⟨c0,hc0⟩:=aB (aP (G-M));obtain⟨S,hS⟩:∃S:Nat->Nat->Dyadic,(λk=>oK G D (gj (bx.map bj) k))=S:=⟨_,rfl⟩;have mh:∀k i,k<=1024->Sm (1455+i) (S k i):=λk i hk=>by rw[<-hS];exact(Ze mA iT (λi=>Nat.le_trans (htl k i) hk) i).mono zo
 have wz:∀k i,S k (i+1)=S k i+G*D i*hp (gj (bx.map bj) k i):=λk i=>by rw[<-hS];rfl
 have kq:∀k,S k 0=0:=λk=>by rw[<-hS];rfl
 obtain⟨R,hR⟩:=aB (kV G M D (bx.map bj));obtain⟨F,hF⟩:∃F:Nat->Option Nat,(λk=>qA (λk=>decide (aP (S k L-M)<0)) 1 (1026-k) k)=F:=⟨_,rfl⟩;have TX:c0<0->R=some 0:=λh=>by rw[<-hR];unfold kV;rw[if_pos (by rw[hc0];exact h)]
 have BN:0<=c0->F 0=R:=λh=>by rw[<-hR,<-hF];unfold kV;rw[if_neg (by rw[hc0];omega),List.length_map,hL,<-hS];rfl
 have mY:∀k,k<=1024->F k=if aP (S k L-M)<0 then some k else F (k+1):=λk hk=>by
  rw[<-hF];show qA _ 1 (1026-k) k=_
  rw[show 1026-k=(1026-(k+1))+1 by omega,qA];rw[if_neg zo,Nat.one_mul];by_cases h:aP (S k L-M)<0
  . rw[if_pos (decide_eq_true h),if_pos h]
  . rw[if_neg (by simpa using h),if_neg h]
 have BO:F 1025=none:=by rw[<-hF];rfl
 have hai:=λW (hW:Bw w W) i (hi:i<L)=>(jP.below hW).ig i zo;rw[hG,hM,hD,hR];obtain⟨AX,BH⟩:∃f,js (bx.map bj)=f:=⟨_,rfl⟩;obtain⟨SR,wy⟩:∃f,jB bx=f:=⟨_,rfl⟩;obtain⟨TM,yI⟩:∃f,gj (bx.map bj)=f:=⟨_,rfl⟩;simp only[BH]at Gd hwd hal hts;simp only[wy]at Gd hwd;rw[wy]at hs0;simp only[yI]at hts htl ht0 wz;rw[<-hs0]at ha;have hmk:=XO (L:Int) L rfl zo;rw[<-ht0]at hmk;obtain⟨Hwd,Hhf,Ha,QA,Hts,yg,jY,Jy,HG,HM,Fg,Fm⟩:=ij hwd Gd ha hal hts htl hab Ch hG hM hg.1 hm.1;obtain⟨Fn,Au,IU,zZ,JQ,Qs,Ja,Af,HF0,DJ,rZ,HFe⟩:=ij hFn hdr wu iT mA mh wz kq TX BN mY BO;have Jf:=af hai;have sf:Hid (aP (ar (gs,gl,ge)-ar (ms,ml,me))=c0):=by show _=_;rw[hG,hM];exact hc0
 clear hwd Gd ha hal hts htl hab Ch hG hM hg hm hFn hdr wu iT mA mh wz kq TX BN mY BO hai hc0 hs0 ht0 wy BH yI ow hD hS hR hF hd hf jP hL htm;obtain⟨W,bU,Hb,Hg,Hm⟩:=fw w 39 [.bool gs,.string (bs gl),.int .i64 ge] 39 [.bool ms,.string (bs ml),.int .i64 me];obtain⟨g0,g1,g2⟩:=Hg.out.c3;obtain⟨m0,m1,m2⟩:=Hm.out.c3;go_enter Tryz.func20,Tryz.ntmps20;go_wp2_with fail;refine(zK gs gl ge ms ml me c0 sf.out _ Fg.out Fm.out Fn.out).mono ?_;rintro e w1 ⟨rfl,ae⟩;clear g0 g1 g2 m0 m1 m2;replace Hg:=kB Hg ae;replace Hm:=kB Hm ae;obtain⟨g0,g1,g2⟩:=Hg.out.c3;obtain⟨m0,m1,m2⟩:=Hm.out.c3;replace Hb:=ak Hb ae;clear ae;by_cases hc0:c0<0
 . have hR:=HF0.out hc0;subst hR;go_wp2;refine bodyPost_ret (results_tmp rfl _ _ _) rfl ⟨rfl,Hb.out⟩
 . have hR:=DJ.out zo;have HR:=af hR;clear hR;have Bg:=Hg;have Bm:=Hm;have bN:=Hb;have rY:=Hb.out.size;have lg:=Hg.out.lt;have lm:=Hm.out.lt;clear Hb;go_wp2_with fail;clear g0 g1 g2 m0 m1 m2;go_loopw[0,10] (λs0 x wr=>∃(k:Nat) (a1:Option Addr) (c1:Nat),k<=1025/\x=.int .i64 (k:Int)/\s0=.slice a1 L c1/\At wr a1 ((SR k).flatMap bJ)/\F k=R/\aj wr w1.heap.size 3 (gN (TM k) L)/\(∀b o,a1=some ⟨b,o,none⟩->b≠w1.heap.size)/\Bw w1 wr) (λ_ x _=>1025-(intOf x).toNat);case atStart=>exact⟨0,_,_,by omega,rfl,rfl,(Ha.out.below bN.out).below zl,HR.out,aj.newAt _ _ _ zm,λb o e=>by have:=jY.out b o e;omega,zl⟩
   case round=>
    clear HR hmk Ha Hg Hm jY;obtain⟨k,a1,c1,hk,rfl,rfl,pa,pF,pt,pn,pb⟩:=hrel;by_cases hlt:k<=1024
    . have Gj:(k:Int)<=1024:=by omega
      have hstep:=rZ.out k hlt;rw[pF]at hstep;obtain⟨wo,hwo⟩:∃wo,wo=wr:=⟨_,rfl⟩;subst hwo;obtain⟨Ru,Ko,nV,aZ,eN⟩:=gT pa pt pn pb hstep;have szo:=pb.size;have lto:=pt.lt;clear pa pt pn pb pF hstep;have Hb:Hid (Bw wo wo):=Below.refl _ _;obtain⟨V1,aot,ae,Hs⟩:=cf wo 39 [.bool false,.string ⟨#[]⟩,.int .i64 0];obtain⟨s0,aW,s1,aX,s2,bi⟩:=Hs.out.g3;replace Hb:=ak Hb ae;clear ae;go_wp2_with fail;clear s0 aW s1 aX s2 bi;first|refine bQ (aY V1 (wo.heap.size) 0 [.bool false,.string ⟨#[]⟩,.int .i64 0]) bg ?_|refine bP (aY V1 (wo.heap.size) 0 [.bool false,.string ⟨#[]⟩,.int .i64 0]) bg ?_
      intro V2 hs;replace Hs:=bE Hs hs;obtain⟨s0,aW,s1,aX,s2,bi⟩:=Hs.out.g3;replace Hb:=bS Hb hs ZS;clear hs;go_wp2_with fail;clear s0 s1 s2 aW aX bi;go_loopw[12] (λx wr=>∃j:Nat,j<=L/\x=.int .i64 (j:Int)/\aj wr wo.heap.size 39 (cg (canon (S k j)))/\Bw wo wr) (λx _=>L-(intOf x).toNat);case atStart=>exact⟨0,Nat.zero_le _,rfl,by rw[Af.out k];exact Hs.out,Hb.out⟩
      case round=>
       clear Hs Hb;obtain⟨j,hj,rfl,ps,pb⟩:=hrel;by_cases bG:j<L
       . obtain⟨b,o,hab,hx0⟩:=Jf.out wr (aH bN.out (aH aZ.out pb)) j bG;have lb:=Jy.out b o hab;subst hab;have bB:=nu L dc j (j:Int) (rfl:(some ⟨b,o,none⟩:Option Addr)=_) bG rfl;have jg:=nu L L j (j:Int) (rfl:(some ⟨w1.heap.size,0,none⟩:Option Addr)=_) bG rfl;rw[Nat.mul_one]at bB jg;rw[Nat.zero_add]at jg;have hdr:=Au.out j;have td:=IU.out j;have jd:=zZ.out j;have fW:=Qs.out k j hlt;have hst:=Ja.out k j;have CG:=yg.out k j;obtain⟨d,hd⟩:∃d:Nat,ds.getD j 0=(d:Int):=⟨(ds.getD j 0).toNat,by omega⟩;obtain⟨E,hE⟩:=aB (D j);obtain⟨Y,hY⟩:=aB (S k j);obtain⟨Z,hZ⟩:=aB (S k (j+1));obtain⟨q,hq⟩:=aB (TM k j);obtain⟨P,hP⟩:=aB (G*E);obtain⟨X,hX⟩:=aB (P*hp q);rw[hd]at hdr td hx0;rw[hE]at td jd hst;rw[hY]at fW hst ps;rw[hZ]at hst;rw[hq]at CG hst;rw[hP,hX]at hst;have rH:Sm 428 P:=by rw[<-hP];exact Sm.mul JQ.out jd
         have dY:Sm 4000 X:=by rw[<-hX];exact(Sm.mul rH (Gr q)).mono zo
         have HX:Hid (ar (ai (dN P),nt (dN P).natAbs,dE P+ -(q:Int))=X):=by show _=_;rw[<-hX];exact Im P q
         have HP:Hid (ar (gs,gl,ge) *ar (ai (dN E),nt (dN E).natAbs,dE E)=P):=by show _*ar (canon E)=P;rw[bL,HG.out];exact hP
         have HZ:Hid (ar (ai (dN Y),nt (dN Y).natAbs,dE Y)+ar (ai (dN X),nt (dN X).natAbs,dE X)=Z):=by show ar (canon Y)+ar (canon X)=Z;rw[bL,bL];exact hst.symm
         have FE:Hid (dV (ai (dN E),nt (dN E).natAbs,dE E)):=jd.arC zo;have FP:Hid (dV (ai (dN P),nt (dN P).natAbs,dE P)):=rH.arC zo;have FY:Hid (dV (ai (dN Y),nt (dN Y).natAbs,dE Y)):=fW.arC zo;have FX:Hid (dV (ai (dN X),nt (dN X).natAbs,dE X)):=dY.arC zo;have ht0:wr.cell? ⟨w1.heap.size,j,none⟩=some (.int .i64 (q:Int)):=by rw[(Ko.out.below pb).cell,List.getElem?_eq_getElem (by rw[Ds];exact bG),Iz,hq]
         have hwr:IntKind.i64.wrap (-(q:Int))= -(q:Int):=by rw[IntKind.wrap_i64];omega
         have Hs:Hid (aj wr wo.heap.size 39 [.bool (ai (dN Y)),.string (bs (nt (dN Y).natAbs)),.int .i64 (dE Y)]):=ps;have Hg:=af (Bg.out.below (aH aZ.out pb));have Hd:Hid (bO wr b (o+j) [.int .i64 (d:Int)]):=λi hi=>by
          obtain rfl:i=0:=by simp at hi;omega
          exact hx0
         have Ht:Hid (bO wr w1.heap.size j [.int .i64 (q:Int)]):=λi hi=>by
          obtain rfl:i=0:=by simp at hi;omega
          exact ht0
         obtain⟨Jx,kd,Hb,JD⟩:=cQ td hZ pb hdr;have lL:=pb.size;clear ps pb td jd fW hst rH dY hX hP hZ hY hE hq hd ht0 hx0 hdr;obtain⟨s0,aW,s1,aX,s2,bi⟩:=Hs.out.g3;obtain⟨g0,g1,g2⟩:=Hg.out.c3;have d0:=Hd.out.w1;have t0:=Ht.out.w1;go_wp2_with fail;refine bW (λw'=>w'.cell? ⟨wo.heap.size,0,none⟩=some (.bool (ai (dN Y)))/\w'.cell? ⟨wo.heap.size,1,none⟩=some (.string (bs (nt (dN Y).natAbs)))/\w'.cell? ⟨wo.heap.size,2,none⟩=some (.int .i64 (dE Y))/\w'.cell? ⟨w.heap.size,0,none⟩=some (.bool gs)/\w'.cell? ⟨w.heap.size,1,none⟩=some (.string (bs gl))/\w'.cell? ⟨w.heap.size,2,none⟩=some (.int .i64 ge)/\w'.cell? ⟨b,o+j,none⟩=some (.int .i64 (d:Int))/\w'.cell? ⟨w1.heap.size,j,none⟩=some (.int .i64 (q:Int))) (λi=>Nat.blt i 15) [(0,true),(1,true),(2,true),(3,true),(4,true),(5,true),(8,true),(9,true),(10,true),(11,true),(12,true),(6,false),(7,false),(13,false),(14,false),(15,false)] zk zk rfl zk zc ⟨s0,s1,s2,g0,g1,g2,d0,t0⟩ ?_;iterate 11 (refine pT rfl rfl ?_ (by intro w' ⟨q0,q1,q2,q3,q4,q5,q6,q7⟩;go_simp;try with_reducible rfl);try simp only[UU])
         refine aC rfl rfl (λK hK=>?_);go_simp;with_reducible refine(alE d E Jx.out _ (by have:=JD.out;omega)).mono ?_
         rintro e w5 ⟨rfl,hq⟩;have ae:Bw wr w5:=by first|exact hq|exact aM hq
         clear s0 aW s1 aX s2 bi g0 g1 g2 d0 t0;replace Hs:=kB Hs ae;replace Hg:=kB Hg ae;replace Hd:=kW Hd ae;replace Ht:=kW Ht ae;obtain⟨s0,aW,s1,aX,s2,bi⟩:=Hs.out.g3;obtain⟨g0,g1,g2⟩:=Hg.out.c3;have d0:=Hd.out.w1;have t0:=Ht.out.w1;replace Hb:=ak Hb ae;clear ae;refine hK _ _ (λ_=>⟨s0,s1,s2,g0,g1,g2,d0,t0⟩) ?_;clear hK K;try simp only[UU]
         refine aC rfl rfl (λK hK=>?_);go_simp;with_reducible refine(alR gs gl ge _ _ _ P HP.out _ Fg.out FE.out).mono ?_
         rintro e w7 ⟨rfl,hq⟩;have ae:Bw w5 w7:=by first|exact hq|exact aM hq
         clear s0 aW s1 aX s2 bi g0 g1 g2 d0 t0;replace Hs:=kB Hs ae;replace Hg:=kB Hg ae;replace Hd:=kW Hd ae;replace Ht:=kW Ht ae;obtain⟨s0,aW,s1,aX,s2,bi⟩:=Hs.out.g3;obtain⟨g0,g1,g2⟩:=Hg.out.c3;have d0:=Hd.out.w1;have t0:=Ht.out.w1;replace Hb:=ak Hb ae;clear ae;refine hK _ _ (λ_=>⟨s0,s1,s2,g0,g1,g2,d0,t0⟩) ?_;clear hK K;try simp only[UU]
         refine aC rfl rfl (λK hK=>?_);go_simp;with_reducible refine(YH _ _ _ (-(q:Int)) X HX.out _ FP.out zo).mono ?_
         rintro e w8 ⟨rfl,hq⟩;have ae:Bw w7 w8:=by first|exact hq|exact aM hq
         clear s0 aW s1 aX s2 bi g0 g1 g2 d0 t0;replace Hs:=kB Hs ae;replace Hg:=kB Hg ae;replace Hd:=kW Hd ae;replace Ht:=kW Ht ae;obtain⟨s0,aW,s1,aX,s2,bi⟩:=Hs.out.g3;obtain⟨g0,g1,g2⟩:=Hg.out.c3;have d0:=Hd.out.w1;have t0:=Ht.out.w1;replace Hb:=ak Hb ae;clear ae;refine hK _ _ (λ_=>⟨s0,s1,s2,g0,g1,g2,d0,t0⟩) ?_;clear hK K;try simp only[UU]
         refine aC rfl rfl (λK hK=>?_);go_simp;with_reducible refine(Pb _ _ _ _ _ _ Z HZ.out _ FY.out FX.out).mono ?_
         rintro e cC ⟨rfl,hq⟩;have ae:Bw w8 cC:=by first|exact hq|exact aM hq
         clear s0 aW s1 aX s2 bi g0 g1 g2 d0 t0;replace Hs:=kB Hs ae;replace Hg:=kB Hg ae;replace Hd:=kW Hd ae;replace Ht:=kW Ht ae;obtain⟨s0,aW,s1,aX,s2,bi⟩:=Hs.out.g3;obtain⟨g0,g1,g2⟩:=Hg.out.c3;have d0:=Hd.out.w1;have t0:=Ht.out.w1;replace Hb:=ak Hb ae;clear ae;refine hK _ _ (λ_=>⟨s0,s1,s2,g0,g1,g2,d0,t0⟩) ?_;clear hK K;try simp only[UU]
         refine aC rfl rfl (λK hK=>?_);go_simp;refine hK _ _ (λh=>absurd h zd) ?_;clear hK K;try simp only[UU]
         clear s0 aW s1 aX s2 bi g0 g1 g2 d0 t0;refine bI (aY cC (wo.heap.size) 0 [.bool (ai (dN Z)),.string (bs (nt (dN Z).natAbs)),.int .i64 (dE Z)]) bg ?_;intro gW hs;replace Hs:=bE Hs hs;replace Hg:=kS Hg hs zo;replace Hd:=Oa Hd hs zo;replace Ht:=Oa Ht hs zo;obtain⟨s0,aW,s1,aX,s2,bi⟩:=Hs.out.g3;obtain⟨g0,g1,g2⟩:=Hg.out.c3;have d0:=Hd.out.w1;have t0:=Ht.out.w1;replace Hb:=bS Hb hs ZS;clear hs;simp only[aV];go_wp2;go_roundw;case rel=>exact⟨j+1,by omega,by go_num,by rw[kd.out];exact Hs.out,Hb.out⟩
         case measure=>simp[intOf];omega
       . obtain rfl:j=L:=by omega
         have fW:=Qs.out k j hlt;have hstep:=eN.out;obtain⟨Y,hY⟩:=aB (S k j);rw[hY]at fW ps hstep;obtain⟨c,hc⟩:=aB (aP (Y-M));rw[hc]at hstep;have Hc:Hid (aP (ar (ai (dN Y),nt (dN Y).natAbs,dE Y)-ar (ms,ml,me))=c):=by show aP (ar (canon Y)-_)=c;rw[bL,HM.out];exact hc
         have FY:Hid (dV (ai (dN Y),nt (dN Y).natAbs,dE Y)):=fW.arC zo;have Hs:Hid (aj wr wo.heap.size 39 [.bool (ai (dN Y)),.string (bs (nt (dN Y).natAbs)),.int .i64 (dE Y)]):=ps;obtain⟨Hm,Hb⟩:=aI (Bm.out.below (aH aZ.out pb)) pb;replace eN:=af hstep;clear ps pb fW hc hY hstep;obtain⟨s0,s1,s2⟩:=Hs.out.c3;obtain⟨m0,m1,m2⟩:=Hm.out.c3;go_wp2_with fail;refine(zK _ _ _ _ _ _ c Hc.out _ FY.out Fm.out Fn.out).mono ?_;rintro e w5 ⟨rfl,ae⟩;clear s0 s1 s2 m0 m1 m2;replace Hs:=kB Hs ae;replace Hm:=kB Hm ae;obtain⟨s0,s1,s2⟩:=Hs.out.c3;obtain⟨m0,m1,m2⟩:=Hm.out.c3;replace Hb:=ak Hb ae;clear ae;by_cases hcn:c<0
         . have hstep:=eN.out;rw[if_pos hcn]at hstep;subst hstep;go_wp2;refine bodyPost_ret (results_tmp rfl _ _ _) rfl ⟨rfl,aH bN.out (aH aZ.out Hb.out)⟩
         . have hstep:=eN.out;rw[if_neg hcn]at hstep;replace eN:=af hstep;clear hstep;go_wp2_with fail;refine(Hwd.out k a1 c1 _ hlt (Ru.out.below Hb.out)).mono ?_;rintro e w6 ⟨rfl,ae⟩;clear s0 s1 s2 m0 m1 m2;replace Hs:=kB Hs ae;replace Hm:=kB Hm ae;obtain⟨s0,s1,s2⟩:=Hs.out.c3;obtain⟨m0,m1,m2⟩:=Hm.out.c3;replace Hb:=ak Hb ae;clear ae;go_wp2_with fail;refine(Hhf.out k a1 c1 _ hlt (Ru.out.below Hb.out)).mono ?_;rintro e w7 ⟨a2,c2,rfl,h2,hnb,ae⟩;have Dq:=Hb.out.size;clear s0 s1 s2 m0 m1 m2;replace Hb:=af (aH Hb.out ae);have Zz:=Hb.out.size;have ND:=Ko.out.below Hb.out;obtain⟨i0,fi0⟩:=uv ND (AX k) (by rw[Ds];exact QA.out k);rw[Iz]at i0;have bB:=nu j j (AX k) (AX k:Int) (rfl:(some ⟨w1.heap.size,0,none⟩:Option Addr)=_) (QA.out k) rfl;rw[Nat.mul_one,Nat.zero_add]at bB;have hwr:IntKind.i64.wrap ((TM k (AX k):Int)+1)=(TM k (AX k):Int)+1:=by rw[IntKind.wrap_i64];have:=yg.out k (AX k);omega
           obtain⟨Ht7,H2,uk⟩:=cG ND h2 hnb;clear ND h2 hnb ae;go_wp2;go_roundw;case rel=>exact⟨k+1,a2,c2,by omega,by go_num,rfl,H2.out.so _ _ (λb o e=>by have:=uk.out b o e;omega) _,eN.out.symm,by rw[<-Hts.out k];exact Ht7.out.set _ _,λb o e=>by have:=uk.out b o e;omega,(aH aZ.out Hb.out).sc w1.heap.size (AX k) (Nat.le_refl _) _⟩
           case measure=>simp[intOf];omega
    . obtain rfl:k=1025:=by omega
      have hR:=HFe.out;rw[pF]at hR;subst hR;have Hb:=af (aH bN.out pb);clear pa pt pn pb pF;go_wp2;refine bodyPost_ret (results_tmp rfl _ _ _) rfl ⟨rfl,Hb.out⟩
theorem ajg {c:Nat->Bool}{d:Nat}(f q x:Nat)(h:qA c d f q=some x):x<=1024:=by
 induction f generalizing q with
 |zero=>cases h
 | succ f ih=>
   unfold qA at h;split at h
   . cases h
   . split at h
     . simp at h;omega
     . exact ih _ h
theorem aeZ {g m:Dyadic}{ds:Nat->Dyadic}{bx:List Pr}{x:Nat}(h:kV g m ds bx=some x):x<=1024:=by
 unfold kV at h;split at h
 . simp at h;omega
 . exact ajg _ _ _ h
theorem Yh {x:Raw}(h:lH x):Fit 300 x:=⟨(CZ h).1,(CZ h).2.mono zd⟩
theorem afM (ds:List Int)(m n:Nat)(a:Option Addr)(cap:Nat)(w:World)(hm:ds.length=m)(hl:m<=100000)(hd:∀d∈ds,d<=1099511627776)(ha:At w a (ji ds)):
 Calls Tryz.prog 18 #[.slice a m cap,.int .i64 (n:Int)] w λe w'=>e=.returned (.bool (decide (m=n/\∀d∈ds,0<=d)))/\Bw w w':=by
 obtain⟨u,hu⟩:=aB (decide (m=n/\∀d∈ds,0<=d));have e1:∀d∈ds,d<0->u=false:=λd h1 h2=>by rw[<-hu];exact decide_eq_false λh=>by have:=h.2 d h1;omega
 have e2:(∀d∈ds,0<=d)->u=((m:Int)==(n:Int)):=λh=>by
  rw[<-hu];by_cases h1:m=n
  . rw[decide_eq_true ⟨h1,h⟩,h1];simp
  . rw[decide_eq_false λh2=>h1 h2.1];symm;simp;omega
 rw[hu];obtain⟨Ha,Hm,Hd,E1,E2⟩:=gT ha hm hd e1 e2;clear ha hm hd e1 e2 hu;have Hb:Hid (Bw w w):=Below.refl _ _;go_enter Tryz.func18,Tryz.ntmps18;go_wp2_with fail;go_loopw[5] (λx wr=>∃k:Nat,k<=m/\x=.int .i64 (k:Int)/\(∀d∈ds.take k,0<=d)/\Bw w wr) (λx _=>m-(intOf x).toNat);case atStart=>exact⟨0,Nat.zero_le _,rfl,(λy hy=>by simp at hy),Hb.out⟩
 case round=>
  clear Hb;obtain⟨k,hk,rfl,hok,pb⟩:=hrel;by_cases hlt:k<m
  . have hk2:k<ds.length:=by rw[Hm.out];exact hlt
    obtain⟨b3,o3,rfl,h3⟩:=(Ha.out.below pb).ig k hk2;have CQ:=nu m cap k (k:Int) (rfl:(some ⟨b3,o3,none⟩:Option Addr)=_) hlt rfl;rw[Nat.mul_one]at CQ;have e3:ds.getD k 0=ds[k]:=by simp[hk2]
    have h9:=Hd.out _ (List.getElem_mem hk2);obtain⟨d,hd⟩:=aB (ds[k]);rw[e3,hd]at h3;rw[hd]at h9;obtain⟨aZ,rh,DY⟩:=cG pb hok hd;have h99:¬1099511627776<d:=by omega
    clear pb hok hd e3;by_cases hd0:d<0
    . go_wp2;obtain rfl:=E1.out _ (List.getElem_mem hk2) (by rw[DY.out];exact hd0);refine bodyPost_ret (results_tmp rfl _ _ _) rfl ⟨rfl,aZ.out⟩
    . go_wp2;go_roundw;case rel=>exact⟨k+1,by omega,by go_num,EC hk2 rh.out (by rw[DY.out];omega),aZ.out⟩
      case measure=>simp[intOf];omega
  . obtain rfl:k=m:=by omega
    have hall:∀y∈ds,0<=y:=by have:=hok;rwa [<-Hm.out,List.take_length]at this
    obtain⟨aZ,nR⟩:=aI pb hall;clear pb hok hall;go_wp2;obtain rfl:=E2.out nR.out;refine bodyPost_ret (results_tmp rfl _ _ _) rfl ⟨rfl,aZ.out⟩
end Go.Proofs.YtoopepmmepmfnaaGreatDoor
