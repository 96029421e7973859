/- Package ogeeref04: Make. -/
import Derived.Test.YtnjfebkelecgaaaGreatDoorZ7
import Derived.Test.YtnjfebkelecgaaaGreatDoorZ16
import Derived.Deep.RegionWith
import Derived.Test.YtnjfebkelecgaaaGreatDoorZ9
import Derived.Test.YtnjfebkelecgaaaGreatDoorZ13
import Derived.Test.YtnjfebkelecgaaaGreatDoorZ11
set_option linter.all false
set_option maxRecDepth 100000
set_option maxHeartbeats 16000000
namespace Go.Proofs.YtnjfebkelecgaaaGreatDoor
open Go.RowKit
attribute [local go_sem ↓] Go.wp_at_zero Go.wp_at_succ
def anH (M:List UInt8)(c:UInt8):(bs (M++[c])).extract 0 M.length=bs M:=by apply ByteArray.ext;unfold bs;rw[ByteArray.data_extract];simp
def awW (M:List UInt8)(c:UInt8)(i:Int)(hi:i=M.length)(W:World):
 (Instr.sliceAt 9 (ai (M++[c])) none (some (ah i)) none).run Tryz.prog W=.ok (ai M) W:=by
 subst hi;have h:=run_slice_string_h (P:=Tryz.prog) W 9 (bs (M++[c])) Tryz.underlying9 .i64 M.length zo (by rw[gY];simp<;>omega);simp only[Int.toNat_natCast,anH M c]at h;simpa[Instr.sliceAt,run_underlying Tryz.underlying9]using h
def anT (s:Bool)(n:Nat)(e:Int)(h:n%2=1):canon (aJ (s,nt n,e))=(s,nt n,e):=by
 have h0:iv s (nt n)≠0:=by rw[pu];split<;>omega
 obtain⟨h1,h2⟩:=SA s (nt n) e h0;have ht:tz n=0:=by have:=ahJ 0 (n/2);rw[show 2^0* (2* (n/2)+1)=n by omega]at this;exact this
 rw[jp,ht]at h1 h2;unfold canon;rw[h1,h2];have e1:iv s (nt n)/2^0=iv s (nt n):=by simp
 rw[e1,Vx,oh,jp];have e3:(nt n).isEmpty=false:=by
  have:=Ou (n:=n) zo;cases h:nt n with
  |nil=>exact absurd h this
  |cons a b=>rfl
 rw[e3];simp
def api (s:Bool)(l:List UInt8)(n k:Nat)(e:Int)(h:n*2^k=nv l):aJ (s,nt n,e+k)=aJ (s,l,e):=by
 unfold aJ;have e1:iv s l=iv s (nt n) *2^k:=by
  rw[pu];unfold iv;rw[<-h];split
  . rw[Int.neg_mul];simp
  . simp
 simp only[e1];rw[<-xL (iv s (nt n)) k (-(e+k))];congr 1;omega
def auT {n k v b:Nat}(h:n*2^k=v)(h0:0<v)(hv:v<2^b):k<b/\0<n:=by
 have hn:0<n:=by
  rcases Nat.eq_zero_or_pos n with h1|h1
  . subst h1;simp at h;omega
  . exact h1
 refine⟨?_,hn⟩;rcases Nat.lt_or_ge k b with h1|h1
 . exact h1
 . have h2:=Nat.pow_le_pow_right (show 0<2 by decide) h1;have h3:2^k<=n*2^k:=Nat.le_mul_of_pos_left _ hn;omega
def avU (w:World):Cv 83 #[ah 2] w (.agg #[aj false,ai (nt 2)]):=WC 2 w zd
def af9 {n:Nat}(h:0<n):∃M c,nt n=M++[c]/\M=nt (n/256)/\c.toNat=n%256:=⟨_,_,JR h,rfl,Me n⟩
def avQ (s:Bool)(l:List UInt8)(e:Int)(w:World)(hl:l.length<=1048576)(h0:nv l=0):
 Cv 82 #[.agg #[aj s,ai l],ah e] w (cw 0):=by
 have hf:=λW=>Kh s l W zo;simp only[h0,Cn,List.isEmpty_nil,Bool.not_true,Bool.and_false]at hf;have Hf:=az hf;have hem:(bs []).toList.isEmpty=true:=by rw[wL];rfl
 clear hf h0;obtain⟨W,cP,ag,aC⟩:=jq w 46 [aj s,ai l] 48 [aj false,.string ⟨#[]⟩,ah 0];go_enter Tryz.func82,Tryz.ntmps82;go_wp2_with fail;refine aZ ag (Hf.out _) λw1 ag aC=>?_;go_wp2;have r2:w1.cell? ⟨w.heap.size+1,2,none⟩=some (ah 0):=ag.2.2.1.out.cell 2;have r0:w1.cell? ⟨w.heap.size+1,0,none⟩=some (aj false):=ag.2.2.1.out.cell 0;have r1:w1.cell? ⟨w.heap.size+1,1,none⟩=some (.string ⟨#[]⟩):=ag.2.2.1.out.cell 1;refine bodyPost_ret (v:=.agg #[aj false,.string ⟨#[]⟩,ah 0]) (by simp[results,Tryz.results82,go_sem,r0,r1,r2]) rfl ⟨rfl,?_⟩;(repeat first|exact ag.1.out| (refine Below.setCell ?_ (by have:=ag.1.out.size;first| (dsimp only;omega) | (show _<=_;omega) | (simp<;>omega)) _) |refine Below.drew ?_)
def avP (s:Bool)(l:List UInt8)(e:Int)(D:Dyadic)(hD:aJ (s,l,e)=D)(w:World)(hl:l.length<=1048576)(he: -1099511627776<=e/\e<=1099511627776)(h0:0<nv l):
 Cv 82 #[.agg #[aj s,ai l],ah e] w (cw D):=by
 have hf:=λW=>Kh s l W zo;have e3:(nt (nv l)).isEmpty=false:=by
  have:=Ou h0;cases h:nt (nv l)with
  |nil=>exact absurd h this
  |cons a b=>rfl
 rw[e3]at hf;simp only[Bool.not_false,Bool.and_true]at hf;have hvb:=qQ l;obtain⟨v,hv⟩:=aI (nv l);rw[hv]at h0 hvb;simp only[hv]at hf;have hup:∀n k:Nat,n*2^k=v->aJ (s,nt n,e+k)=D:=λn k h=>by rw[<-hD];exact api s l n k e (by rw[hv];exact h)
 obtain⟨Bn,hBn⟩:=aI (8*l.length);have hpb:∀n k:Nat,n*2^k=v->k<Bn/\0<n:=λn k h=>by rw[<-hBn];exact auT h h0 hvb
 have hBl:Bn<=8388608:=by omega
 obtain⟨Hf,Ri,aX⟩:=cE hf hup hpb;have aAh:(bs (nt v)).toList.isEmpty=false:=by rw[wL,<-hv];exact e3
 have aeh:∀n k:Nat,n*2^k=v->(nt n).length<=1048576:=λn k h=>by refine Nat.le_trans (jo (Nat.lt_of_le_of_lt (Nat.le_mul_of_pos_right n (Nat.pow_pos (n:=k) (show 0<2 by decide))) ?_)) hl;rw[h,<-hv];exact gw l
 have Zy:=az aeh;clear hf e3 hvb hup hpb hBn hD hv h0 aeh;obtain⟨W,cP,ag,aC⟩:=jq w 46 [aj s,ai l] 48 [aj false,.string ⟨#[]⟩,ah 0];go_enter Tryz.func82,Tryz.ntmps82;go_wp2_with fail;refine aZ ag (Hf.out _) λw1 ag aC=>?_;go_wp2_with fail;first|refine eO (bG w1 (w.heap.size) 0 [aj s,ai (nt v)]) bM ?_|refine fB (bG w1 (w.heap.size) 0 [aj s,ai (nt v)]) bM ?_
 intro w2 hs0;have ag:=cH hs0 ag;simp only[cB,List.set]at ag;have aC:=qC ag;skip
 have lm:=ag.2.1.out.lt;have lr:=ag.2.2.1.out.lt;go_loopw[1] (λx wr=>∃n k:Nat,n*2^k=v/\x=ah (e+k)/\aH wr w.heap.size 46 [aj s,ai (nt n)]/\aH wr (w.heap.size+1) 48 [aj false,.string ⟨#[]⟩,ah 0]/\Bw w wr) (λx _=>(e+Bn+100-intOf x).toNat);case atStart=>exact⟨v,0,by simp,by simp,ag.2.1.out,ag.2.2.1.out,ag.1.out⟩
 case round=>
  skip
  obtain⟨n,k,xg,rfl,hm,hr,hb⟩:=hrel;obtain⟨hk,hn⟩:=aX.out n k xg;obtain⟨M,c,hM,Bp,hc⟩:=af9 hn;obtain⟨Hm,Hr,Hb,CX,HM,KG⟩:=fw hm hr hb xg hM Bp;have hnl:=Zy.out n k xg;have DG:M.length+1<=1048576:=by rw[hM]at hnl;simpa using hnl
  have m1:wr.cell? ⟨w.heap.size,1,none⟩=some (ai (M++[c])):=by rw[<-hM];exact hm.cell 1
  have oW:wr.frozen? ⟨w.heap.size,1,none⟩=false:=hm.free 1;have hsz:(bs (M++[c])).size=M.length+1:=by rw[gY];simp
  have iA:=uv (M++[c]) (M.length:Int) M.length zm rfl;have nZ:(M++[c])[M.length]'zm=c:=by simp
  rw[nZ]at iA;obtain⟨C,hC⟩:=aI c.toNat;rw[hC]at iA hc;have hsl:=awW M c (M.length:Int) rfl;have Hc:=az hc;clear hm hr hb xg hM Bp nZ hc hnl;by_cases rA:C=0
  . subst rA;go_wp2;go_roundw;case rel=>
     refine⟨n/256,k+8,?_,by go_num,?_,?_,?_⟩
     . have h1:=Hc.out;have h2:=CX.out;rw[<-h2,Nat.pow_add,show(2:Nat)^8=256 by rfl,Nat.mul_comm (2^k),<-Nat.mul_assoc];congr 1;omega
     . rw[<-KG.out];exact Hm.out.set 1 _
     . exact Hr.out.aCj ⟨w.heap.size,1,none⟩ zp _
     . exact Hb.out.setCell zp _
    case measure=>exact bH
  . have hC1:((C:Int)==0)=false:=by simp;omega
    go_wp2_with fail;clear m1 oW hsz iA hsl DG hC1 hC rA;go_loopw[1] (λx wr=>∃n k:Nat,n*2^k=v/\x=ah (e+k)/\aH wr w.heap.size 46 [aj s,ai (nt n)]/\aH wr (w.heap.size+1) 48 [aj false,.string ⟨#[]⟩,ah 0]/\Bw w wr) (λx _=>(e+Bn+100-intOf x).toNat);case atStart=>exact⟨n,k,CX.out,rfl,Hm.out,Hr.out,Hb.out⟩
    case round=>
     clear Hm Hr Hb CX HM KG Hc hk hn;obtain⟨n,k,xg,rfl,hm,hr,hb⟩:=hrel;obtain⟨hk,hn⟩:=aX.out n k xg;obtain⟨M,c,hM,Bp,hc⟩:=af9 hn;obtain⟨Hr,CX,HM⟩:=cE hr xg hM;have hnl:=Zy.out n k xg;have DG:M.length+1<=1048576:=by rw[hM]at hnl;simpa using hnl
     have Hm:Hid (aH wr w.heap.size 46 [aj s,ai (M++[c])]):=by rw[hM]at hm;exact hm
     have m0:wr.cell? ⟨w.heap.size,0,none⟩=some (aj s):=Hm.out.cell 0;have m1:wr.cell? ⟨w.heap.size,1,none⟩=some (ai (M++[c])):=Hm.out.cell 1;have hsz:(bs (M++[c])).size=M.length+1:=by rw[gY];simp
     have iA:=uv (M++[c]) (M.length:Int) M.length zm rfl;have nZ:(M++[c])[M.length]'zm=c:=by simp
     rw[nZ]at iA;obtain⟨C,hC⟩:=aI c.toNat;rw[hC]at iA hc;have az5:=hb.size;have pM:=az hb;clear hm hr hb xg Bp nZ hC;by_cases hev:n%2=0
     . obtain⟨n',rfl⟩:∃n',n=2*n':=⟨n/2,by omega⟩;have aeD:(C:Int)%2=0:=by omega
       have hh:=λW=>avO s n' W zo (Nat.le_trans hnl zd);rw[hM]at hh;have Hh:=az hh;have Hb:=hbz wr;clear hh hM hnl hc;go_wp2_with fail;have lmm:=Hm.out.lt;have lrr:=Hr.out.lt;go_region_with (first| (go_at_call 83;refine(avU _).mono ?_;rintro e3 w3 ⟨rfl,hb3⟩;replace hb3:=df hb3;have Lt:=az (Hm.out.below hb3);have m03:w3.cell? ⟨w.heap.size,0,none⟩=some (aj s):=Lt.out.cell 0;have Ol:w3.cell? ⟨w.heap.size,1,none⟩=some (ai (M++[c])):=Lt.out.cell 1) | (go_at_call 124;refine(Hh.out _).mono ?_;rintro e4 w4 ⟨rfl,hb4⟩;have CV:=az (Lt.out.below hb4);have m04:w4.cell? ⟨w.heap.size,0,none⟩=some (aj s):=CV.out.cell 0;have Om:w4.cell? ⟨w.heap.size,1,none⟩=some (ai (M++[c])):=CV.out.cell 1;have apH:=CV.out.free 0;have apI:=CV.out.free 1))
       all_goals
        have HBm:=az (aO (aO pM.out hb3) hb4)
        have Hm4:=az ((CV.out.set 0 (aj s)).set 1 (ai (nt n')))
        have FW:=az ((((Hr.out.below hb3).below hb4).aCj ⟨w.heap.size,0,none⟩ zp (aj s)).aCj ⟨w.heap.size,1,none⟩ zp (ai (nt n')))
        clear m0 m1 m03 Ol m04 Om apH apI aeD iA hb3 hb4 Lt CV
        go_wp2
        go_roundw
        case rel=>
         refine⟨n',k+1,?_,by go_num,Hm4.out,FW.out,?_⟩
         . rw[<-CX.out,Nat.pow_succ,Nat.mul_comm (2^k) 2,<-Nat.mul_assoc,Nat.mul_comm n' 2]
         . exact(HBm.out.setCell zp _).setCell zp _
        case measure=>exact bH
     . have aeD:((C:Int)%2==0)=false:=by simp;omega
       have Jg:n%2=1:=by omega
       have hfin:=anT s n (e+k) Jg;rw[Ri.out n k CX.out,HM.out]at hfin;have wn:=az hfin;have r0:wr.cell? ⟨w.heap.size+1,0,none⟩=some (aj false):=Hr.out.cell 0;have r1:wr.cell? ⟨w.heap.size+1,1,none⟩=some (.string ⟨#[]⟩):=Hr.out.cell 1;have r2:wr.cell? ⟨w.heap.size+1,2,none⟩=some (ah 0):=Hr.out.cell 2;have bo:=Hr.out.free 0;have bz:=Hr.out.free 1;have lS:=Hr.out.free 2;clear hM hnl hc Jg hfin hev;go_wp2;refine bodyPost_ret (v:=.agg #[aj s,ai (M++[c]),ah (e+k)]) (by simp[results,Tryz.results82,go_sem,r0,r1,r2]) rfl ⟨?_,?_⟩
       . have h1:=wn.out;unfold canon at h1;simp only[Prod.mk.injEq]at h1;rw[<-h1.1,<-h1.2.1,<-h1.2.2]
       . exact(((pM.out.setCell zp _).setCell zp _).setCell zp _)
def EI (s:Bool)(l:List UInt8)(e:Int)(D:Dyadic)(hD:aJ (s,l,e)=D)(w:World)(hl:l.length<=1048576)(he: -1099511627776<=e/\e<=1099511627776):
 Cv 82 #[.agg #[aj s,ai l],ah e] w (cw D):=by
 rcases Nat.eq_zero_or_pos (nv l)with h0|h0
 . have:D=0:=by rw[<-hD];exact SB s l e (by unfold iv;rw[h0];split<;>rfl)
   rw[this];exact avQ s l e w hl h0
 . exact avP s l e D hD w hl he h0
def eI (x:Raw):Prop:=x.2.1.length<=16384/\ -16384<=x.2.2/\x.2.2<=16384
def eI.sm {x:Raw}(h:eI x):Sm 262144 (aJ x):=Sm.raw (B:=131072) (by have:=h.1;omega) (by have:=h.2.1;omega) (by have:=h.2.2;omega)
def Sm.aCl {B:Nat}{d:Dyadic}(h:Sm B d)(hB:B<=16384):eI (canon d):=by obtain⟨h1,h2,h3⟩:=h.parts;exact⟨ll h1 zo,by show-16384<=dE d;omega,by show dE d<=16384;omega⟩
def eI.ok {x:Raw}(h:eI x):Ok x:=⟨by have:=h.1;omega,by have:=h.2.1;omega,by have:=h.2.2;omega⟩
def EG (s:Bool)(l:List UInt8)(e:Int)(D:Dyadic)(hD:aJ (s,l,e)=D)(w:World)(hx:eI (s,l,e)):
 Cv 90 #[.agg #[aj s,ai l,ah e]] w (cw D):=by
 have h1:=λW=>EI s l e D hD W (by have:=hx.1;simp only at this;omega) (by have:=hx.2;simp only at this;omega);have H1:=az h1;clear h1 hD hx;obtain⟨W,cP,ag,aC⟩:=jq w 48 [aj s,ai l,ah e] 48 [aj false,.string ⟨#[]⟩,ah 0];go_enter Tryz.func90,Tryz.ntmps90;go_wp2_with fail;refine aZ ag (H1.out _) λw1 ag aC=>?_;go_wp2;refine eH (bG w1 (w.heap.size+1) 0 (bY D)) bM ?_;intro w9 hs0;have ag:=cH hs0 ag;simp only[cB,List.set]at ag;have aC:=qC ag;refine bodyPost_ret (v:=cw D) (by simp[results,Tryz.results90,go_sem,aC]) rfl ⟨rfl,ag.1.out⟩
def Kk (s:Bool)(l:List UInt8)(e:Int)(g:Int)(hg:dR (aJ (s,l,e))=g)(w:World)(hl:l.length<=68719476736):
 Cv 89 #[.agg #[aj s,ai l,ah e]] w (ah g):=by
 have h1:=λW=>awn s l W hl;rw[show fU (iv s l)=g by rw[<-hg];exact aha s l e]at h1;have H1:=az h1;clear h1 hg hl;obtain⟨W,cP,ag,aC⟩:=gz w 48 [aj s,ai l,ah e];go_enter Tryz.func89,Tryz.ntmps89;go_wp2_with fail;refine aZ ag (H1.out _) λw1 ag aC=>?_;go_wp2;go_ret;exact⟨rfl,ag.1.out⟩
def WE (n:Nat)(D:Dyadic)(hD:Dyadic.ofIntWithPrec (n:Int) 0=D)(w:World)(hn:n<=1000000):
 Cv 50 #[ah (n:Int)] w (cw D):=by
 have h1:=λW=>WC n W zo;have h2:=λW=>EI false (nt n) 0 D (by unfold aJ;simp only[pu];exact hD) W (Nat.le_trans (jo (k:=4) zo) zd) zo;clear hD;generalize nt n=m at*;obtain⟨H1,H2⟩:=aU h1 h2;clear h1 h2;obtain⟨W,cP,ag,aC⟩:=gz w 48 [aj false,.string ⟨#[]⟩,ah 0];go_enter Tryz.func50,Tryz.ntmps50;go_wp2_with fail;refine aZ ag (H1.out _) λw1 ag aC=>?_;go_wp2_with fail;refine aZ ag (H2.out _) λw2 ag aC=>?_;go_wp2;refine eH (bG w2 (w.heap.size) 0 (bY D)) bM ?_;intro w9 hs0;have ag:=cH hs0 ag;simp only[cB,List.set]at ag;have aC:=qC ag;refine bodyPost_ret (v:=cw D) (by simp[results,Tryz.results50,go_sem,aC]) rfl ⟨rfl,ag.1.out⟩
def agR (s:Bool)(l:List UInt8)(e:Int)(D:Dyadic)(hD: -aJ (s,l,e)=D)(w:World)(hx:eI (s,l,e)):
 Cv 164 #[.agg #[aj s,ai l,ah e]] w (cw D):=by
 obtain⟨Z,hZ⟩:=aI (-iv s l);have hl:(nt Z.natAbs).length<=16384:=by
  have:Z.natAbs=nv l:=by rw[<-hZ,Int.natAbs_neg,oh]
  rw[this];exact Nat.le_trans (jo (k:=l.length) (gw l)) hx.1
 have h1:=λW=>avT s l Z hZ W (by have:=hx.1;simp only at this;omega);have h2:=λW=>EI (aK Z) (nt Z.natAbs) e D (by rw[yH,<-hZ,<-hD];unfold aJ;rw[OB]) W zo (by have:=hx.2;simp only at this;omega);obtain⟨H1,H2⟩:=aU h1 h2;clear h1 h2 hD hZ hl hx;generalize aK Z=t at*;generalize nt Z.natAbs=m at*;obtain⟨W,cP,ag,aC⟩:=jq w 48 [aj s,ai l,ah e] 48 [aj false,.string ⟨#[]⟩,ah 0];go_enter Tryz.func164,Tryz.ntmps164;go_wp2_with fail;refine dG 6 ag (dD 7 0xc0a0409070301) ?_;refine bU ?_;refine cz ag (H1.out _) λw1 ag=>?_;refine cz ag (H2.out _) λw2 ag=>?_;have aC:=qC ag;refine qOp λK hK=>?_;go_simp;refine hK _ _ (λh=>absurd h zd) ?_
 refine cL (bG w2 (w.heap.size+1) 0 (bY D)) bM ?_;intro w9 hs0;have ag:=cH hs0 ag;simp only[cB,List.set]at ag;have aC:=qC ag;refine dF ag λaC=>?_;have Hb:=ag.1;have r0:w9.cell? ⟨w.heap.size+1,0,none⟩=some (aj (aK (dN D))):=ag.2.2.1.out.cell 0;have r1:w9.cell? ⟨w.heap.size+1,1,none⟩=some (ai (nt (dN D).natAbs)):=ag.2.2.1.out.cell 1;have r2:w9.cell? ⟨w.heap.size+1,2,none⟩=some (ah (dE D)):=ag.2.2.1.out.cell 2;go_wp2;exact bodyPost_ret (v:=cw D) (by simp[results,Tryz.results164,go_sem,r0,r1,r2,aC]) rfl ⟨rfl,dt⟩
def OO (s:Bool)(l:List UInt8)(e:Int)(t:Bool)(m:List UInt8)(f:Int)(D:Dyadic)(hD:aJ (s,l,e) *aJ (t,m,f)=D)(w:World)(hx:eI (s,l,e))(hy:eI (t,m,f)):
 Cv 81 #[.agg #[aj s,ai l,ah e],.agg #[aj t,ai m,ah f]] w (cw D):=by
 obtain⟨Z,hZ⟩:=aI (iv s l*iv t m);have hx1:l.length<=16384:=hx.1;have hy1:m.length<=16384:=hy.1;have hx2: -16384<=e/\e<=16384:=hx.2;have hy2: -16384<=f/\f<=16384:=hy.2;have hl:(nt Z.natAbs).length<=32768:=by
  have:Z.natAbs=nv l*nv m:=by rw[<-hZ,Int.natAbs_mul,oh,oh]
  rw[this];exact Nat.le_trans (aga l m) zo
 have h1:=λW=>awu s l t m Z hZ W zo zo;have h2:=λW=>EI (aK Z) (nt Z.natAbs) (e+f) D (by rw[yH,<-hZ,<-hD];unfold aJ;rw[zW,show-(e+f)= -e+ -f by omega]) W zo zo;obtain⟨H1,H2⟩:=aU h1 h2;have hwr:IntKind.i64.wrap (e+f)=e+f:=by rw[IntKind.wrap_i64];omega
 clear h1 h2 hD hZ hl hx hy hx1 hy1;generalize aK Z=v at*;generalize nt Z.natAbs=n at*;obtain⟨W,cP,ag,aC⟩:=uD w 48 [aj s,ai l,ah e] 48 [aj t,ai m,ah f] 48 [aj false,.string ⟨#[]⟩,ah 0];go_enter Tryz.func81,Tryz.ntmps81;go_wp2_with fail;refine dG 11 ag (dD 12 0x16140813110f0d0b07050301) ?_;refine bU ?_;refine cz ag (H1.out _) λw1 ag=>?_;refine cz ag (H2.out _) λw2 ag=>?_;have aC:=qC ag;refine qOp λK hK=>?_;go_simp;refine hK _ _ (λh=>absurd h zd) ?_
 refine cL (bG w2 (w.heap.size+1+1) 0 (bY D)) bM ?_;intro w9 hs0;have ag:=cH hs0 ag;simp only[cB,List.set]at ag;have aC:=qC ag;refine dF ag λaC=>?_;have Hb:=ag.1;have r0:w9.cell? ⟨w.heap.size+1+1,0,none⟩=some (aj (aK (dN D))):=ag.2.2.2.1.out.cell 0;have r1:w9.cell? ⟨w.heap.size+1+1,1,none⟩=some (ai (nt (dN D).natAbs)):=ag.2.2.2.1.out.cell 1;have r2:w9.cell? ⟨w.heap.size+1+1,2,none⟩=some (ah (dE D)):=ag.2.2.2.1.out.cell 2;go_wp2;exact bodyPost_ret (v:=cw D) (by simp[results,Tryz.results81,go_sem,r0,r1,r2,aC]) rfl ⟨rfl,dt⟩
def agc (n:Nat):n<256^(nt n).length:=by have:=gw (nt n);rwa [jp]at this
def auP (A C S:Dyadic)(hS:A+C=S)(p:Nat)(hp:dE A-dE C=(p:Int))(Z1 Z:Int)(h1:dN A*2^p=Z1)(h2:Z1+dN C=Z):aJ (aK Z,nt Z.natAbs,dE C)=S:=by
 rw[yH,<-h2,<-h1,<-EB,<-hS];congr 1
 . have:=xL (dN A) p (-(dE A));rw[show-(dE C)= -(dE A)+(p:Int)by omega,this];exact(uA A).symm
 . exact(uA C).symm
def OM (s:Bool)(l:List UInt8)(e:Int)(t:Bool)(m:List UInt8)(f:Int)(S:Dyadic)(hS:aJ (s,l,e)+aJ (t,m,f)=S)(w:World)(hx:eI (s,l,e))(hy:eI (t,m,f)):
 Cv 94 #[.agg #[aj s,ai l,ah e],.agg #[aj t,ai m,ah f]] w (cw S):=by
 obtain⟨A,hA⟩:=aI (aJ (s,l,e));obtain⟨C,hC⟩:=aI (aJ (t,m,f));have tT:=hx.sm;have Dx:=hy.sm;rw[hA]at tT;rw[hC]at Dx;obtain⟨a1,a2,a3⟩:=tT.parts;obtain⟨c1,c2,c3⟩:=Dx.parts;have la:(nt (dN A).natAbs).length<=65536:=ll a1 zo;have lc:(nt (dN C).natAbs).length<=65536:=ll c1 zo;have eK:=λW=>EG s l e A hA W hx;have gP:=λW=>EG t m f C hC W hy;rw[hA,hC]at hS;have zE:=λW=>Kk (aK (dN A)) (nt (dN A).natAbs) (dE A) (dR A) (by show dR (aJ (canon A))=_;rw[cJ]) W zo;have BU:=λW=>Kk (aK (dN C)) (nt (dN C).natAbs) (dE C) (dR C) (by show dR (aJ (canon C))=_;rw[cJ]) W zo;have DW:(dR A==0)=true↔A=0:=by rw[<-Bool.not_eq_false];rw[Bc];simp
 have vz:(dR C==0)=true↔C=0:=by rw[<-Bool.not_eq_false];rw[Bc];simp
 have hpl:=λ(A C:Dyadic) (hS:A+C=S) (hA1:(nt (dN A).natAbs).length<=65536) (hC1:(nt (dN C).natAbs).length<=65536) (p:Nat) (hp:dE A-dE C=(p:Int)) (Jj:p<=524288) (Dw: -262144<=dE C/\dE C<=262144)=>(show ∃Z1 Z:Int,(∀W,Cv 132 #[.agg #[aj (aK (dN A)),ai (nt (dN A).natAbs)],ah (p:Int)] W (.agg #[aj (aK Z1),ai (nt Z1.natAbs)]))/\(∀W,Cv 131 #[.agg #[aj (aK Z1),ai (nt Z1.natAbs)],.agg #[aj (aK (dN C)),ai (nt (dN C).natAbs)]] W (.agg #[aj (aK Z),ai (nt Z.natAbs)]))/\(∀W,Cv 82 #[.agg #[aj (aK Z),ai (nt Z.natAbs)],ah (dE C)] W (cw S))from by
  obtain⟨Z1,h1⟩:=aI (dN A*2^p);obtain⟨Z,h2⟩:=aI (Z1+dN C);have l1:(nt Z1.natAbs).length<=589824:=by
   have e1:Z1.natAbs=nv (nt (dN A).natAbs) *2^p:=by rw[<-h1,Int.natAbs_mul,jp];simp[Int.natAbs_pow]
   rw[e1];exact Nat.le_trans (agb _ p) zo
  have l2:(nt Z.natAbs).length<=589825:=by
   obtain⟨K,hK⟩:=aI (589824);rw[hK]at l1;have lcK:(nt (dN C).natAbs).length<=K:=by omega
   have hle:(nt Z.natAbs).length<=K+1:=by
    refine jo ?_;have b1:Z1.natAbs<256^K:=Nat.lt_of_lt_of_le (agc _) (Nat.pow_le_pow_right zd l1);have b2:(dN C).natAbs<256^K:=Nat.lt_of_lt_of_le (agc _) (Nat.pow_le_pow_right zd lcK);have b3:Z.natAbs<=Z1.natAbs+(dN C).natAbs:=by rw[<-h2];exact Int.natAbs_add_le _ _
    rw[Nat.pow_succ];omega
   omega
  refine⟨Z1,Z,λW=>awl _ _ p Z1 (by rw[gu];exact h1) W zo zo,λW=>awa _ _ _ _ Z (by rw[gu,gu];exact h2) W zo zo,λW=>EI _ _ (dE C) S (auP A C S hS p hp Z1 Z h1 h2) W zo zo⟩)
 have BQ:=hpl;by_cases vp:A=0
 . have zA:=DW.2 vp;have Tc:C=S:=by rw[<-hS,vp];grind
   subst Tc;obtain⟨gF,mL,AG⟩:=cE eK gP zE;clear eK gP zE BU hpl BQ DW vz vp hA hC hS tT Dx a1 a2 a3 c1 c2 c3 la lc hx hy;obtain⟨W,cP,ag,aC⟩:=uD w 48 [aj s,ai l,ah e] 48 [aj t,ai m,ah f] 48 [aj false,.string ⟨#[]⟩,ah 0];go_enter Tryz.func94,Tryz.ntmps94;go_wp2_with fail;refine dG 4 ag (dD 6 0xa0806020501) ?_;refine bU ?_;refine cz ag (gF.out _) λw1 ag=>?_;refine cz ag (mL.out _) λw2 ag=>?_;have aC:=qC ag;refine qOp λK hK=>?_;go_simp;refine hK _ _ (λh=>absurd h zd) ?_
   refine cL (bG w2 (w.heap.size) 0 (bY A)) bM ?_;intro w3 hs0;have ag:=cH hs0 ag;simp only[cB,List.set]at ag;have aC:=qC ag;have aC:=qC ag;refine qOp λK hK=>?_;go_simp;refine hK _ _ (λh=>absurd h zd) ?_
   refine cL (bG w3 (w.heap.size+1) 0 (bY C)) bM ?_;intro w4 hs0;have ag:=cH hs0 ag;simp only[cB,List.set]at ag;have aC:=qC ag;refine dF ag λaC=>?_;go_wp2_with fail;refine aZ ag (AG.out _) λw5 ag aC=>?_;go_wp2;refine eH (bG w5 (w.heap.size+1+1) 0 (bY C)) bM ?_;intro w9 hs0;have ag:=cH hs0 ag;simp only[cB,List.set]at ag;have aC:=qC ag;refine bodyPost_ret (v:=cw C) (by simp[results,Tryz.results94,go_sem,aC]) rfl ⟨rfl,ag.1.out⟩
 have zA:(dR A==0)=false:=by rw[<-Bool.not_eq_true];exact λh=>vp (DW.1 h)
 by_cases rA:C=0
 . have zC:=vz.2 rA;have Tc:A=S:=by rw[<-hS,rA];grind
   subst Tc;obtain⟨gF,mL,AG,FY⟩:=dP eK gP zE BU;clear eK gP zE BU hpl BQ DW vz vp rA hA hC hS tT Dx a1 a2 a3 c1 c2 c3 la lc hx hy;obtain⟨W,cP,ag,aC⟩:=uD w 48 [aj s,ai l,ah e] 48 [aj t,ai m,ah f] 48 [aj false,.string ⟨#[]⟩,ah 0];go_enter Tryz.func94,Tryz.ntmps94;go_wp2_with fail;refine dG 4 ag (dD 6 0xa0806020501) ?_;refine bU ?_;refine cz ag (gF.out _) λw1 ag=>?_;refine cz ag (mL.out _) λw2 ag=>?_;have aC:=qC ag;refine qOp λK hK=>?_;go_simp;refine hK _ _ (λh=>absurd h zd) ?_
   refine cL (bG w2 (w.heap.size) 0 (bY A)) bM ?_;intro w3 hs0;have ag:=cH hs0 ag;simp only[cB,List.set]at ag;have aC:=qC ag;have aC:=qC ag;refine qOp λK hK=>?_;go_simp;refine hK _ _ (λh=>absurd h zd) ?_
   refine cL (bG w3 (w.heap.size+1) 0 (bY C)) bM ?_;intro w4 hs0;have ag:=cH hs0 ag;simp only[cB,List.set]at ag;have aC:=qC ag;refine dF ag λaC=>?_;go_wp2_with fail;refine aZ ag (AG.out _) λw5 ag aC=>?_;go_wp2_with fail;refine aZ ag (FY.out _) λw6 ag aC=>?_;go_wp2;refine eH (bG w6 (w.heap.size+1+1) 0 (bY A)) bM ?_;intro w9 hs0;have ag:=cH hs0 ag;simp only[cB,List.set]at ag;have aC:=qC ag;refine bodyPost_ret (v:=cw A) (by simp[results,Tryz.results94,go_sem,aC]) rfl ⟨rfl,ag.1.out⟩
 have zC:(dR C==0)=false:=by rw[<-Bool.not_eq_true];exact λh=>rA (vz.1 h)
 by_cases hEE:dE A<dE C
 . obtain⟨p,hp⟩:∃p:Nat,dE C-dE A=(p:Int):=⟨(dE C-dE A).toNat,by omega⟩;obtain⟨Z1,Z,g1,g2,g3⟩:=hpl C A (by rw[<-hS];grind) lc la p hp zo zo;have hwr:IntKind.i64.wrap (dE C-dE A)=(p:Int):=by rw[IntKind.wrap_i64];omega
   obtain⟨gF,mL,AG,FY,G1,G2,G3⟩:=kH eK gP zE BU g1 g2 g3;clear eK gP zE BU hpl BQ DW vz vp rA hA hC hS tT Dx a1 a2 a3 c1 c2 c3 la lc hx hy g1 g2 g3 hp;obtain⟨W,cP,ag,aC⟩:=uD w 48 [aj s,ai l,ah e] 48 [aj t,ai m,ah f] 48 [aj false,.string ⟨#[]⟩,ah 0];go_enter Tryz.func94,Tryz.ntmps94;go_wp2_with fail;refine dG 4 ag (dD 6 0xa0806020501) ?_;refine bU ?_;refine cz ag (gF.out _) λw1 ag=>?_;refine cz ag (mL.out _) λw2 ag=>?_;have aC:=qC ag;refine qOp λK hK=>?_;go_simp;refine hK _ _ (λh=>absurd h zd) ?_
   refine cL (bG w2 (w.heap.size) 0 (bY A)) bM ?_;intro w3 hs0;have ag:=cH hs0 ag;simp only[cB,List.set]at ag;have aC:=qC ag;have aC:=qC ag;refine qOp λK hK=>?_;go_simp;refine hK _ _ (λh=>absurd h zd) ?_
   refine cL (bG w3 (w.heap.size+1) 0 (bY C)) bM ?_;intro w4 hs0;have ag:=cH hs0 ag;simp only[cB,List.set]at ag;have aC:=qC ag;refine dF ag λaC=>?_;go_wp2_with fail;refine aZ ag (AG.out _) λw5 ag aC=>?_;go_wp2_with fail;refine aZ ag (FY.out _) λw6 ag aC=>?_;go_wp2_with fail;first|refine eO (λkQ=>∃gJ,bG w6 (w.heap.size) 0 (bY C) gJ/\bG gJ (w.heap.size+1) 0 (bY A) kQ) ⟨_,bM,bM⟩ ?_|refine fB (λkQ=>∃gJ,bG w6 (w.heap.size) 0 (bY C) gJ/\bG gJ (w.heap.size+1) 0 (bY A) kQ) ⟨_,bM,bM⟩ ?_
   rintro w7 ⟨_,hs0,hs1⟩;have ag:=cH hs1 (cH hs0 ag);simp only[cB,List.set]at ag;have aC:=qC ag;refine dG 14 ag (dD 15 0x1c1a140e191713110d0b0907050301) ?_;refine bU ?_;refine cz ag (G1.out _) λPj ag=>?_;refine cz ag (G2.out _) λsQ ag=>?_;refine cz ag (G3.out _) λsS ag=>?_;have aC:=qC ag;refine qOp λK hK=>?_;go_simp;refine hK _ _ (λh=>absurd h zd) ?_
   refine cL (bG sS (w.heap.size+1+1) 0 (bY S)) bM ?_;intro xY hs0;have ag:=cH hs0 ag;simp only[cB,List.set]at ag;have aC:=qC ag;refine dF ag λaC=>?_;have Hb:=ag.1;have r0:xY.cell? ⟨w.heap.size+1+1,0,none⟩=some (aj (aK (dN S))):=ag.2.2.2.1.out.cell 0;have r1:xY.cell? ⟨w.heap.size+1+1,1,none⟩=some (ai (nt (dN S).natAbs)):=ag.2.2.2.1.out.cell 1;have r2:xY.cell? ⟨w.heap.size+1+1,2,none⟩=some (ah (dE S)):=ag.2.2.2.1.out.cell 2;go_wp2;exact bodyPost_ret (v:=cw S) (by simp[results,Tryz.results94,go_sem,r0,r1,r2,aC]) rfl ⟨rfl,dt⟩
 . obtain⟨p,hp⟩:∃p:Nat,dE A-dE C=(p:Int):=⟨(dE A-dE C).toNat,by omega⟩;obtain⟨Z1,Z,g1,g2,g3⟩:=hpl A C hS la lc p hp zo zo;have hwr:IntKind.i64.wrap (dE A-dE C)=(p:Int):=by rw[IntKind.wrap_i64];omega
   obtain⟨gF,mL,AG,FY,G1,G2,G3⟩:=kH eK gP zE BU g1 g2 g3;clear eK gP zE BU hpl BQ DW vz vp rA hA hC hS tT Dx a1 a2 a3 c1 c2 c3 la lc hx hy g1 g2 g3 hp;obtain⟨W,cP,ag,aC⟩:=uD w 48 [aj s,ai l,ah e] 48 [aj t,ai m,ah f] 48 [aj false,.string ⟨#[]⟩,ah 0];go_enter Tryz.func94,Tryz.ntmps94;go_wp2_with fail;refine dG 4 ag (dD 6 0xa0806020501) ?_;refine bU ?_;refine cz ag (gF.out _) λw1 ag=>?_;refine cz ag (mL.out _) λw2 ag=>?_;have aC:=qC ag;refine qOp λK hK=>?_;go_simp;refine hK _ _ (λh=>absurd h zd) ?_
   refine cL (bG w2 (w.heap.size) 0 (bY A)) bM ?_;intro w3 hs0;have ag:=cH hs0 ag;simp only[cB,List.set]at ag;have aC:=qC ag;have aC:=qC ag;refine qOp λK hK=>?_;go_simp;refine hK _ _ (λh=>absurd h zd) ?_
   refine cL (bG w3 (w.heap.size+1) 0 (bY C)) bM ?_;intro w4 hs0;have ag:=cH hs0 ag;simp only[cB,List.set]at ag;have aC:=qC ag;refine dF ag λaC=>?_;go_wp2_with fail;refine aZ ag (AG.out _) λw5 ag aC=>?_;go_wp2_with fail;refine aZ ag (FY.out _) λw6 ag aC=>?_;go_wp2_with fail;refine dG 14 ag (dD 15 0x1c1a140e191713110d0b0907050301) ?_;refine bU ?_;refine cz ag (G1.out _) λPj ag=>?_;refine cz ag (G2.out _) λsQ ag=>?_;refine cz ag (G3.out _) λsS ag=>?_;have aC:=qC ag;refine qOp λK hK=>?_;go_simp;refine hK _ _ (λh=>absurd h zd) ?_
   refine cL (bG sS (w.heap.size+1+1) 0 (bY S)) bM ?_;intro xY hs0;have ag:=cH hs0 ag;simp only[cB,List.set]at ag;have aC:=qC ag;refine dF ag λaC=>?_;have Hb:=ag.1;have r0:xY.cell? ⟨w.heap.size+1+1,0,none⟩=some (aj (aK (dN S))):=ag.2.2.2.1.out.cell 0;have r1:xY.cell? ⟨w.heap.size+1+1,1,none⟩=some (ai (nt (dN S).natAbs)):=ag.2.2.2.1.out.cell 1;have r2:xY.cell? ⟨w.heap.size+1+1,2,none⟩=some (ah (dE S)):=ag.2.2.2.1.out.cell 2;go_wp2;exact bodyPost_ret (v:=cw S) (by simp[results,Tryz.results94,go_sem,r0,r1,r2,aC]) rfl ⟨rfl,dt⟩
def awp (s:Bool)(l:List UInt8)(e:Int)(t:Bool)(m:List UInt8)(f:Int)(S:Dyadic)(hS:aJ (s,l,e)-aJ (t,m,f)=S)(w:World)(hx:eI (s,l,e))(hy:eI (t,m,f))(rI:eI (canon (-aJ (t,m,f)))):
 Cv 129 #[.agg #[aj s,ai l,ah e],.agg #[aj t,ai m,ah f]] w (cw S):=by
 obtain⟨N,hN⟩:=aI (-aJ (t,m,f));rw[hN]at rI;have h1:=λW=>agR t m f N hN W hy;have h2:=λW=>OM s l e (aK (dN N)) (nt (dN N).natAbs) (dE N) S (by show _+aJ (canon N)=_;rw[cJ,<-hN,<-hS];grind) W hx rI;obtain⟨H1,H2⟩:=aU h1 h2;clear h1 h2 hN rI hS hx hy;obtain⟨W,cP,ag,aC⟩:=uD w 48 [aj s,ai l,ah e] 48 [aj t,ai m,ah f] 48 [aj false,.string ⟨#[]⟩,ah 0];go_enter Tryz.func129,Tryz.ntmps129;go_wp2_with fail;refine dG 4 ag (dD 5 0x806040301) ?_;refine bU ?_;refine cz ag (H1.out _) λw1 ag=>?_;refine cz ag (H2.out _) λw2 ag=>?_;have aC:=qC ag;refine qOp λK hK=>?_;go_simp;refine hK _ _ (λh=>absurd h zd) ?_
 refine cL (bG w2 (w.heap.size+1+1) 0 (bY S)) bM ?_;intro w9 hs0;have ag:=cH hs0 ag;simp only[cB,List.set]at ag;have aC:=qC ag;refine dF ag λaC=>?_;have Hb:=ag.1;have r0:w9.cell? ⟨w.heap.size+1+1,0,none⟩=some (aj (aK (dN S))):=ag.2.2.2.1.out.cell 0;have r1:w9.cell? ⟨w.heap.size+1+1,1,none⟩=some (ai (nt (dN S).natAbs)):=ag.2.2.2.1.out.cell 1;have r2:w9.cell? ⟨w.heap.size+1+1,2,none⟩=some (ah (dE S)):=ag.2.2.2.1.out.cell 2;go_wp2;exact bodyPost_ret (v:=cw S) (by simp[results,Tryz.results129,go_sem,r0,r1,r2,aC]) rfl ⟨rfl,dt⟩
abbrev ke (B:Nat)(x:Raw):Prop:=eI x/\Sm B (aJ x)
def ke.mono {B B':Nat}{x:Raw}(h:ke B x)(hb:B<=B'):ke B' x:=⟨h.1,h.2.mono hb⟩
def ke.canon {B:Nat}{d:Dyadic}(h:Sm B d)(hB:B<=16384):ke B (canon d):=⟨h.aCl hB,by rw[cJ];exact h⟩
def ke.form {B:Nat}{r:List Raw}(h:∀x∈r,ke B x)(hB:B<=16384):∀x∈GK r,ke B x:=λy hy=>by obtain⟨x,hx,rfl⟩:=List.mem_map.1 hy;exact ke.canon (h x hx).2 hB
def ahY {rows:List (List Raw)}(h:rows.length<2\/9<rows.length):gA rows=0:=by
 unfold gA;dsimp only;rw[if_pos];rcases h with h|h
 . left;omega
 . right;left;omega
def ax3 {rows:List (List Raw)}{N j:Nat}(hN:rows.length=N+1)(hj:j<rows.length)(h:rows[j].length≠N):gA rows=0:=by unfold gA;dsimp only;rw[if_pos];right;right;rw[List.any_eq_true];refine⟨rows[j],List.getElem_mem hj,?_⟩;rw[decide_eq_true_eq];omega
def WL (a:Option Addr)(L cap:Nat)(rows:List (List Raw))(V:Int)(w:World)(hL:rows.length=L)(hl:L<=1099511627776)(ha:bQ w a rows)(hV:gA rows=V):
 Cv 46 #[.slice a L cap] w (ah V):=by
 by_cases h1:L<2
 . obtain rfl:V=0:=by rw[<-hV];exact ahY zo
   have t1:(L:Int)-1<1:=by omega
   clear hV ha hL;have Hb:=hbz w;go_enter Tryz.func46,Tryz.ntmps46;go_wp2;refine bodyPost_ret (results_tmp rfl _ _ _) rfl ⟨rfl,Hb.out⟩
 by_cases h2:9<L
 . obtain rfl:V=0:=by rw[<-hV];exact ahY zo
   have t1:¬(L:Int)-1<1:=by omega
   have t2:8<(L:Int)-1:=by omega
   clear hV ha hL;have Hb:=hbz w;go_enter Tryz.func46,Tryz.ntmps46;go_wp2;refine bodyPost_ret (results_tmp rfl _ _ _) rfl ⟨rfl,Hb.out⟩
 obtain⟨N,hN⟩:∃N:Nat,L=N+1:=⟨L-1,by omega⟩;have hLN:(L:Int)-1=(N:Int):=by omega
 have t1:¬(N:Int)<1:=by omega
 have t2:¬8<(N:Int):=by omega
 have hbad:=λj (hj:j<rows.length) h=>ax3 (j:=j) (hL.trans hN) hj h;have Uj:=λh=>Pi (hL.trans hN) h zo zo;rw[hV]at hbad Uj;obtain⟨CK,Fx,HL,Ha,HN⟩:=fH hbad Uj hL ha hN;clear hbad Uj hL ha hV hN;have Hb:=hbz w;go_enter Tryz.func46,Tryz.ntmps46;go_wp2_with fail;go_loopw[4] (λx wr=>∃k:Nat,k<=L/\x=ah (k:Int)/\(∀j (h:j<rows.length),j<k->rows[j].length=N)/\Bw w wr) (λx _=>L-(intOf x).toNat);case atStart=>exact⟨0,Nat.zero_le _,rfl,λj _ h=>absurd h (Nat.not_lt_zero _),Hb.out⟩
 case round=>
  clear Hb;obtain⟨k,hk,rfl,hs,pb⟩:=hrel;obtain⟨Hs,Hb⟩:=aU hs pb;clear hs pb;by_cases hlt:k<L
  . have bj:(k:Int)<=(N:Int):=by have:=HN.out;omega
    have hk1:k<rows.length:=by rw[HL.out];exact hlt
    obtain⟨b0,o0,a1,c1,hab,hc,_⟩:=(Ha.out.below Hb.out).row k hk1;have i0:=rJ L cap k (k:Int) hab hlt rfl;rw[Nat.mul_one]at i0;obtain⟨n1,iB⟩:=aI (rows[k].length);rw[iB]at hc;have Ax:=az iB;clear iB hab;by_cases he:n1=N
    . subst he;go_wp2;go_roundw;case rel=>
       refine⟨k+1,by omega,by go_num,λj h hj=>?_,Hb.out⟩;by_cases hjk:j=k
       . subst hjk;exact Ax.out
       . exact Hs.out j h zo
      case measure=>exact bH
    . have Ub:((n1:Int) !=(N:Int))=true:=by simp;omega
      have he3:¬(n1:Int)=(N:Int):=by omega
      obtain rfl:V=0:=CK.out k hk1 (by rw[Ax.out];exact he);go_wp2;refine bodyPost_ret (results_tmp rfl _ _ _) rfl ⟨rfl,Hb.out⟩
  . obtain rfl:k=L:=by omega
    have bj:¬(k:Int)<=(N:Int):=by have:=HN.out;omega
    obtain rfl:V=N:=Fx.out (λr hr=>by
     obtain⟨j,hj,rfl⟩:=List.mem_iff_getElem.1 hr
     exact Hs.out j hj (by rw[<-HL.out];exact hj))
    go_wp2;refine bodyPost_ret (results_tmp rfl _ _ _) rfl ⟨rfl,Hb.out⟩
end Go.Proofs.YtnjfebkelecgaaaGreatDoor
