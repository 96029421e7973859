/- Package ogeeref04: Make. -/
import Derived.Test.YtdaadlblknpipaaGreatDoorZ14
import Derived.Deep.RegionWith
import Derived.Test.YtdaadlblknpipaaGreatDoorZ9
import Derived.Test.YtdaadlblknpipaaGreatDoorZ11
import Derived.Test.YtdaadlblknpipaaGreatDoorZ12
set_option linter.unusedVariables false
set_option linter.unusedSimpArgs false
set_option maxRecDepth 100000
set_option maxHeartbeats 16000000
namespace Go.Proofs.YtdaadlblknpipaaGreatDoor
open Go.RowKit
attribute [local go_sem ↓] Go.wp_at_zero Go.wp_at_succ
theorem adm (M:List UInt8)(c:UInt8):(bs (M++[c])).extract 0 M.length=bs M:=by apply ByteArray.ext;unfold bs;rw[ByteArray.data_extract];simp
theorem akO (M:List UInt8)(c:UInt8)(i:Int)(hi:i=M.length)(W:World):
 (Instr.sliceAt 9 (.string (bs (M++[c]))) none (some (.int .i64 i)) none).run Tryz.prog W=.ok (.string (bs M)) W:=by
 subst hi;have h:=run_slice_string_h (P:=Tryz.prog) W 9 (bs (M++[c])) Tryz.underlying9 .i64 M.length zo (by rw[nY];simp<;>omega);simp only[Int.toNat_natCast,adm M c]at h;simpa[Instr.sliceAt,run_underlying Tryz.underlying9]using h
theorem adv (s:Bool)(n:Nat)(e:Int)(h:n%2=1):canon (az (s,nt n,e))=(s,nt n,e):=by
 have h0:iv s (nt n)≠0:=by rw[mL];split<;>omega
 obtain⟨h1,h2⟩:=Lx s (nt n) e h0;have ht:tz n=0:=by have:=YM 0 (n/2);rw[show 2^0* (2* (n/2)+1)=n by omega]at this;exact this
 rw[jd,ht]at h1 h2;unfold canon;rw[h1,h2];have e1:iv s (nt n)/2^0=iv s (nt n):=by simp
 rw[e1,ND,nE,jd];have e3:(nt n).isEmpty=false:=by
  have:=IA (n:=n) zo;cases h:nt n with
  |nil=>exact absurd h this
  |cons a b=>rfl
 rw[e3];simp
theorem aeP (s:Bool)(l:List UInt8)(n k:Nat)(e:Int)(h:n*2^k=nv l):az (s,nt n,e+k)=az (s,l,e):=by
 unfold az;have e1:iv s l=iv s (nt n) *2^k:=by
  rw[mL];unfold iv;rw[<-h];split
  . rw[Int.neg_mul];simp
  . simp
 simp only[e1];rw[<-ui (iv s (nt n)) k (-(e+k))];congr 1;omega
theorem ajy {n k v b:Nat}(h:n*2^k=v)(h0:0<v)(hv:v<2^b):k<b/\0<n:=by
 have hn:0<n:=by
  rcases Nat.eq_zero_or_pos n with h1|h1
  . subst h1;simp at h;omega
  . exact h1
 refine⟨?_,hn⟩;rcases Nat.lt_or_ge k b with h1|h1
 . exact h1
 . have h2:=Nat.pow_le_pow_right (show 0<2 by decide) h1;have h3:2^k<=n*2^k:=Nat.le_mul_of_pos_left _ hn;omega
theorem aj8 (w:World):Calls Tryz.prog 80 #[.int .i64 2] w λe w'=>e=.returned (.agg #[.bool false,.string (bs (nt 2))])/\Bw w w':=OO 2 w zd
theorem Xv {n:Nat}(h:0<n):∃M c,nt n=M++[c]/\M=nt (n/256)/\c.toNat=n%256:=⟨_,_,Ec h,rfl,FL n⟩
theorem aj4 (s:Bool)(l:List UInt8)(e:Int)(w:World)(hl:l.length<=1048576)(h0:nv l=0):
 Calls Tryz.prog 79 #[.agg #[.bool s,.string (bs l)],.int .i64 e] w λr w'=>r=.returned (bC 0)/\Bw w w':=by
 have hf:=λW=>Et s l W zo;simp only[h0,yh,List.isEmpty_nil,Bool.not_true,Bool.and_false]at hf;have Hf:=ah hf;have hem:(bs []).toList.isEmpty=true:=by rw[tK];rfl
 clear hf h0;obtain⟨W,dc,Hb,Hm,Hr⟩:=nO w 28 [.bool s,.string (bs l)] 30 [.bool false,.string ⟨#[]⟩,.int .i64 0];obtain⟨m0,uP,m1,rO⟩:=Hm.out.g2;obtain⟨r0,ai,r1,aj,r2,aC⟩:=Hr.out.g3;go_enter Tryz.func79,Tryz.ntmps79;go_wp2_with fail;refine(Hf.out _).mono ?_;rintro e w1 ⟨rfl,ae⟩;clear m0 uP m1 rO r0 ai r1 aj r2 aC;replace Hm:=kB Hm ae;replace Hr:=kB Hr ae;obtain⟨m0,uP,m1,rO⟩:=Hm.out.g2;obtain⟨r0,ai,r1,aj,r2,aC⟩:=Hr.out.g3;replace Hb:=au Hb ae;clear ae;go_wp2;refine bodyPost_ret (v:=.agg #[.bool false,.string ⟨#[]⟩,.int .i64 0]) (by simp[results,Tryz.results79,go_sem,r0,r1,r2]) rfl ⟨rfl,?_⟩;(repeat first|exact Hb.out| (refine Below.setCell ?_ (by have:=Hb.out.size;first| (dsimp only;omega) | (show _<=_;omega) | (simp<;>omega)) _) |refine Below.drew ?_)
theorem aj3 (s:Bool)(l:List UInt8)(e:Int)(D:Dyadic)(hD:az (s,l,e)=D)(w:World)(hl:l.length<=1048576)(he: -1099511627776<=e/\e<=1099511627776)(h0:0<nv l):
 Calls Tryz.prog 79 #[.agg #[.bool s,.string (bs l)],.int .i64 e] w λr w'=>r=.returned (bC D)/\Bw w w':=by
 have hf:=λW=>Et s l W zo;have e3:(nt (nv l)).isEmpty=false:=by
  have:=IA h0;cases h:nt (nv l)with
  |nil=>exact absurd h this
  |cons a b=>rfl
 rw[e3]at hf;simp only[Bool.not_false,Bool.and_true]at hf;have hvb:=nM l;obtain⟨v,hv⟩:=aB (nv l);rw[hv]at h0 hvb;simp only[hv]at hf;have hup:∀n k:Nat,n*2^k=v->az (s,nt n,e+k)=D:=λn k h=>by rw[<-hD];exact aeP s l n k e (by rw[hv];exact h)
 obtain⟨Bn,Tx⟩:=aB (8*l.length);have hpb:∀n k:Nat,n*2^k=v->k<Bn/\0<n:=λn k h=>by rw[<-Tx];exact ajy h h0 hvb
 have hBl:Bn<=8388608:=by omega
 obtain⟨Hf,KC,aO⟩:=cL hf hup hpb;have anp:(bs (nt v)).toList.isEmpty=false:=by rw[tK,<-hv];exact e3
 have Vz:∀n k:Nat,n*2^k=v->(nt n).length<=1048576:=λn k h=>by refine Nat.le_trans (jc (Nat.lt_of_le_of_lt (Nat.le_mul_of_pos_right n (Nat.pow_pos (n:=k) (show 0<2 by decide))) ?_)) hl;rw[h,<-hv];exact gb l
 have Rf:=ah Vz;clear hf e3 hvb hup hpb Tx hD hv h0 Vz;obtain⟨W,dc,Hb,Hm,Hr⟩:=nO w 28 [.bool s,.string (bs l)] 30 [.bool false,.string ⟨#[]⟩,.int .i64 0];obtain⟨m0,uP,m1,rO⟩:=Hm.out.g2;obtain⟨r0,ai,r1,aj,r2,aC⟩:=Hr.out.g3;go_enter Tryz.func79,Tryz.ntmps79;go_wp2_with fail;refine(Hf.out _).mono ?_;rintro e w1 ⟨rfl,ae⟩;clear m0 uP m1 rO r0 ai r1 aj r2 aC;replace Hm:=kB Hm ae;replace Hr:=kB Hr ae;obtain⟨m0,uP,m1,rO⟩:=Hm.out.g2;obtain⟨r0,ai,r1,aj,r2,aC⟩:=Hr.out.g3;replace Hb:=au Hb ae;clear ae;go_wp2_with fail;clear m0 uP m1 rO r0 ai r1 aj r2 aC;first|refine bO (bz w1 (w.heap.size) 0 [.bool s,.string (bs (nt v))]) bF ?_|refine bK (bz w1 (w.heap.size) 0 [.bool s,.string (bs (nt v))]) bF ?_
 intro w2 hs;replace Hm:=bX Hm hs;replace Hr:=kS Hr hs zo;obtain⟨m0,uP,m1,rO⟩:=Hm.out.g2;obtain⟨r0,ai,r1,aj,r2,aC⟩:=Hr.out.g3;replace Hb:=bS Hb hs ZS;clear hs m0 m1 uP rO r0 r1 r2 ai aj aC;have lm:=Hm.out.lt;have lr:=Hr.out.lt;go_loopw[1] (λx wr=>∃n k:Nat,n*2^k=v/\x=.int .i64 (e+k)/\ak wr w.heap.size 28 [.bool s,.string (bs (nt n))]/\ak wr (w.heap.size+1) 30 [.bool false,.string ⟨#[]⟩,.int .i64 0]/\Bw w wr) (λx _=>(e+Bn+100-intOf x).toNat);case atStart=>exact⟨v,0,by simp,by simp,Hm.out,Hr.out,Hb.out⟩
 case round=>
  clear Hm Hr Hb;obtain⟨n,k,ua,rfl,hm,hr,hb⟩:=hrel;obtain⟨hk,hn⟩:=aO.out n k ua;obtain⟨M,c,hM,Gn,hc⟩:=Xv hn;obtain⟨Hm,Hr,Hb,yO,HM,Qn⟩:=gN hm hr hb ua hM Gn;have hnl:=Rf.out n k ua;have CO:M.length+1<=1048576:=by rw[hM]at hnl;simpa using hnl
  have m1:wr.cell? ⟨w.heap.size,1,none⟩=some (.string (bs (M++[c]))):=by rw[<-hM];exact hm.cell 1
  have rO:wr.frozen? ⟨w.heap.size,1,none⟩=false:=hm.free 1;have hsz:(bs (M++[c])).size=M.length+1:=by rw[nY];simp
  have gZ:=xU (M++[c]) (M.length:Int) M.length zm rfl;have oC:(M++[c])[M.length]'zm=c:=by simp
  rw[oC]at gZ;obtain⟨C,hC⟩:=aB c.toNat;rw[hC]at gZ hc;have hsl:=akO M c (M.length:Int) rfl;have Hc:=ah hc;clear hm hr hb ua hM Gn oC hc hnl;by_cases od:C=0
  . subst od;go_wp2;go_roundw;case rel=>
     refine⟨n/256,k+8,?_,by go_num,?_,?_,?_⟩
     . have h1:=Hc.out;have h2:=yO.out;rw[<-h2,Nat.pow_add,show(2:Nat)^8=256 by rfl,Nat.mul_comm (2^k),<-Nat.mul_assoc];congr 1;omega
     . rw[<-Qn.out];exact Hm.out.set 1 _
     . exact Hr.out.api ⟨w.heap.size,1,none⟩ zp _
     . exact Hb.out.setCell zp _
    case measure=>simp[intOf];omega
  . have TA:((C:Int)==0)=false:=by simp;omega
    go_wp2_with fail;clear m1 rO hsz gZ hsl CO TA hC od;go_loopw[1] (λx wr=>∃n k:Nat,n*2^k=v/\x=.int .i64 (e+k)/\ak wr w.heap.size 28 [.bool s,.string (bs (nt n))]/\ak wr (w.heap.size+1) 30 [.bool false,.string ⟨#[]⟩,.int .i64 0]/\Bw w wr) (λx _=>(e+Bn+100-intOf x).toNat);case atStart=>exact⟨n,k,yO.out,rfl,Hm.out,Hr.out,Hb.out⟩
    case round=>
     clear Hm Hr Hb yO HM Qn Hc hk hn;obtain⟨n,k,ua,rfl,hm,hr,hb⟩:=hrel;obtain⟨hk,hn⟩:=aO.out n k ua;obtain⟨M,c,hM,Gn,hc⟩:=Xv hn;obtain⟨Hr,yO,HM⟩:=cL hr ua hM;have hnl:=Rf.out n k ua;have CO:M.length+1<=1048576:=by rw[hM]at hnl;simpa using hnl
     have Hm:Hid (ak wr w.heap.size 28 [.bool s,.string (bs (M++[c]))]):=by rw[hM]at hm;exact hm
     have m0:wr.cell? ⟨w.heap.size,0,none⟩=some (.bool s):=Hm.out.cell 0;have m1:wr.cell? ⟨w.heap.size,1,none⟩=some (.string (bs (M++[c]))):=Hm.out.cell 1;have hsz:(bs (M++[c])).size=M.length+1:=by rw[nY];simp
     have gZ:=xU (M++[c]) (M.length:Int) M.length zm rfl;have oC:(M++[c])[M.length]'zm=c:=by simp
     rw[oC]at gZ;obtain⟨C,hC⟩:=aB c.toNat;rw[hC]at gZ hc;have ane:=hb.size;have fT:=ah hb;clear hm hr hb ua Gn oC hC;by_cases hev:n%2=0
     . obtain⟨n',rfl⟩:∃n',n=2*n':=⟨n/2,by omega⟩;have VR:(C:Int)%2=0:=by omega
       have hh:=λW=>aj2 s n' W zo (Nat.le_trans hnl zd);rw[hM]at hh;have Hh:=ah hh;have Hb:Hid (Bw wr wr):=Below.refl _ _;clear hh hM hnl hc;go_wp2_with fail;have lmm:=Hm.out.lt;have lrr:=Hr.out.lt;go_region_with (first| (go_at_call 80;refine(aj8 _).mono ?_;rintro e3 w3 ⟨rfl,hb3⟩;replace hb3:=aM hb3;have Fe:=ah (Hm.out.below hb3);have m03:w3.cell? ⟨w.heap.size,0,none⟩=some (.bool s):=Fe.out.cell 0;have sA:w3.cell? ⟨w.heap.size,1,none⟩=some (.string (bs (M++[c]))):=Fe.out.cell 1) | (go_at_call 118;refine(Hh.out _).mono ?_;rintro e4 w4 ⟨rfl,hb4⟩;have yM:=ah (Fe.out.below hb4);have m04:w4.cell? ⟨w.heap.size,0,none⟩=some (.bool s):=yM.out.cell 0;have sB:w4.cell? ⟨w.heap.size,1,none⟩=some (.string (bs (M++[c]))):=yM.out.cell 1;have ae9:=yM.out.free 0;have afa:=yM.out.free 1))
       all_goals
        have Zo:=ah (aJ (aJ fT.out hb3) hb4)
        have Hm4:=ah ((yM.out.set 0 (.bool s)).set 1 (.string (bs (nt n'))))
        have BX:=ah ((((Hr.out.below hb3).below hb4).api ⟨w.heap.size,0,none⟩ zp (.bool s)).api ⟨w.heap.size,1,none⟩ zp (.string (bs (nt n'))))
        clear m0 m1 m03 sA m04 sB ae9 afa VR gZ hb3 hb4 Fe yM
        go_wp2
        go_roundw
        case rel=>
         refine⟨n',k+1,?_,by go_num,Hm4.out,BX.out,?_⟩
         . rw[<-yO.out,Nat.pow_succ,Nat.mul_comm (2^k) 2,<-Nat.mul_assoc,Nat.mul_comm n' 2]
         . exact(Zo.out.setCell zp _).setCell zp _
        case measure=>simp[intOf];omega
     . have VR:((C:Int)%2==0)=false:=by simp;omega
       have VD:n%2=1:=by omega
       have hfin:=adv s n (e+k) VD;rw[KC.out n k yO.out,HM.out]at hfin;have tq:=ah hfin;have r0:wr.cell? ⟨w.heap.size+1,0,none⟩=some (.bool false):=Hr.out.cell 0;have r1:wr.cell? ⟨w.heap.size+1,1,none⟩=some (.string ⟨#[]⟩):=Hr.out.cell 1;have r2:wr.cell? ⟨w.heap.size+1,2,none⟩=some (.int .i64 0):=Hr.out.cell 2;have ai:=Hr.out.free 0;have aj:=Hr.out.free 1;have aC:=Hr.out.free 2;clear hM hnl hc VD hfin hev;go_wp2;refine bodyPost_ret (v:=.agg #[.bool s,.string (bs (M++[c])),.int .i64 (e+k)]) (by simp[results,Tryz.results79,go_sem,r0,r1,r2]) rfl ⟨?_,?_⟩
       . have h1:=tq.out;unfold canon at h1;simp only[Prod.mk.injEq]at h1;rw[<-h1.1,<-h1.2.1,<-h1.2.2]
       . exact(((fT.out.setCell zp _).setCell zp _).setCell zp _)
theorem yt (s:Bool)(l:List UInt8)(e:Int)(D:Dyadic)(hD:az (s,l,e)=D)(w:World)(hl:l.length<=1048576)(he: -1099511627776<=e/\e<=1099511627776):
 Calls Tryz.prog 79 #[.agg #[.bool s,.string (bs l)],.int .i64 e] w λr w'=>r=.returned (bC D)/\Bw w w':=by
 rcases Nat.eq_zero_or_pos (nv l)with h0|h0
 . have:D=0:=by rw[<-hD];exact Lz s l e (by unfold iv;rw[h0];split<;>rfl)
   rw[this];exact aj4 s l e w hl h0
 . exact aj3 s l e D hD w hl he h0
def dV (x:Raw):Prop:=x.2.1.length<=16384/\ -16384<=x.2.2/\x.2.2<=16384
theorem dV.sm {x:Raw}(h:dV x):Sm 262144 (az x):=Sm.raw (B:=131072) (by have:=h.1;omega) (by have:=h.2.1;omega) (by have:=h.2.2;omega)
theorem Sm.apj {B:Nat}{d:Dyadic}(h:Sm B d)(hB:B<=16384):dV (canon d):=by obtain⟨h1,h2,h3⟩:=h.parts;exact⟨jK h1 zo,by show-16384<=dE d;omega,by show dE d<=16384;omega⟩
theorem dV.ok {x:Raw}(h:dV x):Ok x:=⟨by have:=h.1;omega,by have:=h.2.1;omega,by have:=h.2.2;omega⟩
theorem yr (s:Bool)(l:List UInt8)(e:Int)(D:Dyadic)(hD:az (s,l,e)=D)(w:World)(hx:dV (s,l,e)):
 Calls Tryz.prog 70 #[.agg #[.bool s,.string (bs l),.int .i64 e]] w λex w'=>ex=.returned (bC D)/\Bw w w':=by
 have h1:=λW=>yt s l e D hD W (by have:=hx.1;simp only at this;omega) (by have:=hx.2;simp only at this;omega);have H1:=ah h1;clear h1 hD hx;obtain⟨W,dc,Hb,Hx,Hr⟩:=nO w 30 [.bool s,.string (bs l),.int .i64 e] 30 [.bool false,.string ⟨#[]⟩,.int .i64 0];obtain⟨x0,x1,x2⟩:=Hx.out.c3;obtain⟨r0,ai,r1,aj,r2,aC⟩:=Hr.out.g3;go_enter Tryz.func70,Tryz.ntmps70;go_wp2_with fail;refine(H1.out _).mono ?_;rintro e w1 ⟨rfl,ae⟩;clear x0 x1 x2 r0 ai r1 aj r2 aC;replace Hx:=kB Hx ae;replace Hr:=kB Hr ae;obtain⟨x0,x1,x2⟩:=Hx.out.c3;obtain⟨r0,ai,r1,aj,r2,aC⟩:=Hr.out.g3;replace Hb:=au Hb ae;clear ae;go_wp2;clear x0 x1 x2 r0 ai r1 aj r2 aC;refine fF (bz w1 (w.heap.size+1) 0 [.bool (ar (dN D)),.string (bs (nt (dN D).natAbs)),.int .i64 (dE D)]) bF ?_;intro w9 hs;replace Hx:=kS Hx hs zo;replace Hr:=bX Hr hs;obtain⟨x0,x1,x2⟩:=Hx.out.c3;obtain⟨r0,ai,r1,aj,r2,aC⟩:=Hr.out.g3;replace Hb:=bS Hb hs ZS;clear hs;refine bodyPost_ret (v:=bC D) (by simp[results,Tryz.results70,go_sem,r0,r1,r2]) rfl ⟨rfl,Hb.out⟩
theorem AE (s:Bool)(l:List UInt8)(e:Int)(g:Int)(hg:cw (az (s,l,e))=g)(w:World)(hl:l.length<=68719476736):
 Calls Tryz.prog 28 #[.agg #[.bool s,.string (bs l),.int .i64 e]] w λex w'=>ex=.returned (.int .i64 g)/\Bw w w':=by
 have h1:=λW=>akn s l W hl;rw[show eu (iv s l)=g by rw[<-hg];exact Ph s l e]at h1;have H1:=ah h1;clear h1 hg hl;obtain⟨W,dc,Hb,Hx⟩:=iF w 30 [.bool s,.string (bs l),.int .i64 e];obtain⟨x0,x1,x2⟩:=Hx.out.c3;go_enter Tryz.func28,Tryz.ntmps28;go_wp2_with fail;refine(H1.out _).mono ?_;rintro e w1 ⟨rfl,ae⟩;clear x0 x1 x2;replace Hx:=kB Hx ae;obtain⟨x0,x1,x2⟩:=Hx.out.c3;replace Hb:=au Hb ae;clear ae;go_wp2;go_ret;exact⟨rfl,Hb.out⟩
theorem Yi (n:Nat)(D:Dyadic)(hD:Dyadic.ofIntWithPrec (n:Int) 0=D)(w:World)(hn:n<=1000000):
 Calls Tryz.prog 62 #[.int .i64 (n:Int)] w λe w'=>e=.returned (bC D)/\Bw w w':=by
 have h1:=λW=>OO n W zo;have h2:=λW=>yt false (nt n) 0 D (by unfold az;simp only[mL];exact hD) W (Nat.le_trans (jc (k:=4) zo) zd) zo;clear hD;generalize nt n=m at*;obtain⟨H1,H2⟩:=aL h1 h2;clear h1 h2;obtain⟨W,dc,Hb,Hr⟩:=iF w 30 [.bool false,.string ⟨#[]⟩,.int .i64 0];obtain⟨r0,ai,r1,aj,r2,aC⟩:=Hr.out.g3;go_enter Tryz.func62,Tryz.ntmps62;go_wp2_with fail;refine(H1.out _).mono ?_;rintro e w1 ⟨rfl,ae⟩;clear r0 ai r1 aj r2 aC;replace Hr:=kB Hr ae;obtain⟨r0,ai,r1,aj,r2,aC⟩:=Hr.out.g3;replace Hb:=au Hb ae;clear ae;go_wp2_with fail;refine(H2.out _).mono ?_;rintro e w2 ⟨rfl,ae⟩;clear r0 ai r1 aj r2 aC;replace Hr:=kB Hr ae;obtain⟨r0,ai,r1,aj,r2,aC⟩:=Hr.out.g3;replace Hb:=au Hb ae;clear ae;go_wp2;clear r0 ai r1 aj r2 aC;refine fF (bz w2 (w.heap.size) 0 [.bool (ar (dN D)),.string (bs (nt (dN D).natAbs)),.int .i64 (dE D)]) bF ?_;intro w9 hs;replace Hr:=bX Hr hs;obtain⟨r0,ai,r1,aj,r2,aC⟩:=Hr.out.g3;replace Hb:=bS Hb hs ZS;clear hs;refine bodyPost_ret (v:=bC D) (by simp[results,Tryz.results62,go_sem,r0,r1,r2]) rfl ⟨rfl,Hb.out⟩
theorem Yh (s:Bool)(l:List UInt8)(e:Int)(D:Dyadic)(hD: -az (s,l,e)=D)(w:World)(hx:dV (s,l,e)):
 Calls Tryz.prog 65 #[.agg #[.bool s,.string (bs l),.int .i64 e]] w λex w'=>ex=.returned (bC D)/\Bw w w':=by
 obtain⟨Z,hZ⟩:=aB (-iv s l);have hl:(nt Z.natAbs).length<=16384:=by
  have:Z.natAbs=nv l:=by rw[<-hZ,Int.natAbs_neg,nE]
  rw[this];exact Nat.le_trans (jc (k:=l.length) (gb l)) hx.1
 have h1:=λW=>aj7 s l Z hZ W (by have:=hx.1;simp only at this;omega);have h2:=λW=>yt (ar Z) (nt Z.natAbs) e D (by rw[uO,<-hZ,<-hD];unfold az;rw[Ef]) W zo (by have:=hx.2;simp only at this;omega);obtain⟨H1,H2⟩:=aL h1 h2;clear h1 h2 hD hZ hl hx;generalize ar Z=t at*;generalize nt Z.natAbs=m at*;obtain⟨W,dc,Hb,Hx,Hr⟩:=nO w 30 [.bool s,.string (bs l),.int .i64 e] 30 [.bool false,.string ⟨#[]⟩,.int .i64 0];obtain⟨x0,x1,x2⟩:=Hx.out.c3;obtain⟨r0,ai,r1,aj,r2,aC⟩:=Hr.out.g3;go_enter Tryz.func65,Tryz.ntmps65;go_wp2_with fail;refine bJ (λw'=>w'.cell? ⟨w.heap.size,0,none⟩=some (.bool s)/\w'.cell? ⟨w.heap.size,1,none⟩=some (.string (bs l))/\w'.cell? ⟨w.heap.size,2,none⟩=some (.int .i64 e)) (λi=>Nat.blt i 6) [(0,true),(1,true),(3,true),(4,true),(2,false),(5,false),(6,false)] zk zk rfl zk zc ⟨x0,x1,x2⟩ ?_;iterate 4 (refine pT rfl rfl ?_ (by intro w' ⟨q0,q1,q2⟩;go_simp;try with_reducible rfl);try simp only[UU])
 refine aI rfl rfl (λK hK=>?_);go_simp;with_reducible refine(H1.out _).mono ?_
 rintro e w1 ⟨rfl,hq⟩;have ae:Bw W w1:=by first|exact hq|exact aM hq
 clear x0 x1 x2 r0 ai r1 aj r2 aC;replace Hx:=kB Hx ae;replace Hr:=kB Hr ae;obtain⟨x0,x1,x2⟩:=Hx.out.c3;obtain⟨r0,ai,r1,aj,r2,aC⟩:=Hr.out.g3;replace Hb:=au Hb ae;clear ae;refine hK _ _ (λ_=>⟨x0,x1,x2⟩) ?_;clear hK K;try simp only[UU]
 refine aI rfl rfl (λK hK=>?_);go_simp;with_reducible refine(H2.out _).mono ?_
 rintro e w2 ⟨rfl,hq⟩;have ae:Bw w1 w2:=by first|exact hq|exact aM hq
 clear x0 x1 x2 r0 ai r1 aj r2 aC;replace Hx:=kB Hx ae;replace Hr:=kB Hr ae;obtain⟨x0,x1,x2⟩:=Hx.out.c3;obtain⟨r0,ai,r1,aj,r2,aC⟩:=Hr.out.g3;replace Hb:=au Hb ae;clear ae;refine hK _ _ (λ_=>⟨x0,x1,x2⟩) ?_;clear hK K;try simp only[UU]
 refine aI rfl rfl (λK hK=>?_);go_simp;refine hK _ _ (λh=>absurd h zd) ?_;clear hK K;try simp only[UU]
 clear x0 x1 x2 r0 ai r1 aj r2 aC;refine bN (bz w2 (w.heap.size+1) 0 [.bool (ar (dN D)),.string (bs (nt (dN D).natAbs)),.int .i64 (dE D)]) bF ?_;intro w9 hs;replace Hx:=kS Hx hs zo;replace Hr:=bX Hr hs;obtain⟨x0,x1,x2⟩:=Hx.out.c3;obtain⟨r0,ai,r1,aj,r2,aC⟩:=Hr.out.g3;replace Hb:=bS Hb hs ZS;clear hs;simp only[aU];go_wp2;refine bodyPost_ret (v:=bC D) (by simp[results,Tryz.results65,go_sem,r0,r1,r2]) rfl ⟨rfl,?_⟩;(repeat first|exact Hb.out| (refine Below.setCell ?_ (by have:=Hb.out.size;first| (dsimp only;omega) | (show _<=_;omega) | (simp<;>omega)) _) | (refine Below.alloc ?_ zt _) |refine Below.drew ?_)
theorem OQ (s:Bool)(l:List UInt8)(e:Int)(t:Bool)(m:List UInt8)(f:Int)(D:Dyadic)(hD:az (s,l,e) *az (t,m,f)=D)(w:World)(hx:dV (s,l,e))(hy:dV (t,m,f)):
 Calls Tryz.prog 83 #[.agg #[.bool s,.string (bs l),.int .i64 e],.agg #[.bool t,.string (bs m),.int .i64 f]] w λex w'=>ex=.returned (bC D)/\Bw w w':=by
 obtain⟨Z,hZ⟩:=aB (iv s l*iv t m);have hx1:l.length<=16384:=hx.1;have hy1:m.length<=16384:=hy.1;have hx2: -16384<=e/\e<=16384:=hx.2;have hy2: -16384<=f/\f<=16384:=hy.2;have hl:(nt Z.natAbs).length<=32768:=by
  have:Z.natAbs=nv l*nv m:=by rw[<-hZ,Int.natAbs_mul,nE,nE]
  rw[this];exact Nat.le_trans (Xw l m) zo
 have h1:=λW=>aku s l t m Z hZ W zo zo;have h2:=λW=>yt (ar Z) (nt Z.natAbs) (e+f) D (by rw[uO,<-hZ,<-hD];unfold az;rw[vW,show-(e+f)= -e+ -f by omega]) W zo zo;obtain⟨H1,H2⟩:=aL h1 h2;have hwr:IntKind.i64.wrap (e+f)=e+f:=by rw[IntKind.wrap_i64];omega
 clear h1 h2 hD hZ hl hx hy hx1 hy1;generalize ar Z=v at*;generalize nt Z.natAbs=n at*;obtain⟨W,dc,Hb,Hx,Hy,Hr⟩:=rq w 30 [.bool s,.string (bs l),.int .i64 e] 30 [.bool t,.string (bs m),.int .i64 f] 30 [.bool false,.string ⟨#[]⟩,.int .i64 0];obtain⟨x0,x1,x2⟩:=Hx.out.c3;obtain⟨y0,y1,y2⟩:=Hy.out.c3;obtain⟨r0,ai,r1,aj,r2,aC⟩:=Hr.out.g3;go_enter Tryz.func83,Tryz.ntmps83;go_wp2_with fail;refine bJ (λw'=>w'.cell? ⟨w.heap.size,0,none⟩=some (.bool s)/\w'.cell? ⟨w.heap.size,1,none⟩=some (.string (bs l))/\w'.cell? ⟨w.heap.size,2,none⟩=some (.int .i64 e)/\w'.cell? ⟨w.heap.size+1,0,none⟩=some (.bool t)/\w'.cell? ⟨w.heap.size+1,1,none⟩=some (.string (bs m))/\w'.cell? ⟨w.heap.size+1,2,none⟩=some (.int .i64 f)) (λi=>Nat.blt i 11) [(0,true),(1,true),(2,true),(3,true),(5,true),(6,true),(7,true),(8,true),(9,true),(4,false),(10,false),(11,false)] zk zk rfl zk zc ⟨x0,x1,x2,y0,y1,y2⟩ ?_;iterate 9 (refine pT rfl rfl ?_ (by intro w' ⟨q0,q1,q2,q3,q4,q5⟩;go_simp;try with_reducible rfl);try simp only[UU])
 refine aI rfl rfl (λK hK=>?_);go_simp;with_reducible refine(H1.out _).mono ?_
 rintro e w1 ⟨rfl,hq⟩;have ae:Bw W w1:=by first|exact hq|exact aM hq
 clear x0 x1 x2 y0 y1 y2 r0 ai r1 aj r2 aC;replace Hx:=kB Hx ae;replace Hy:=kB Hy ae;replace Hr:=kB Hr ae;obtain⟨x0,x1,x2⟩:=Hx.out.c3;obtain⟨y0,y1,y2⟩:=Hy.out.c3;obtain⟨r0,ai,r1,aj,r2,aC⟩:=Hr.out.g3;replace Hb:=au Hb ae;clear ae;refine hK _ _ (λ_=>⟨x0,x1,x2,y0,y1,y2⟩) ?_;clear hK K;try simp only[UU]
 refine aI rfl rfl (λK hK=>?_);go_simp;with_reducible refine(H2.out _).mono ?_
 rintro e w2 ⟨rfl,hq⟩;have ae:Bw w1 w2:=by first|exact hq|exact aM hq
 clear x0 x1 x2 y0 y1 y2 r0 ai r1 aj r2 aC;replace Hx:=kB Hx ae;replace Hy:=kB Hy ae;replace Hr:=kB Hr ae;obtain⟨x0,x1,x2⟩:=Hx.out.c3;obtain⟨y0,y1,y2⟩:=Hy.out.c3;obtain⟨r0,ai,r1,aj,r2,aC⟩:=Hr.out.g3;replace Hb:=au Hb ae;clear ae;refine hK _ _ (λ_=>⟨x0,x1,x2,y0,y1,y2⟩) ?_;clear hK K;try simp only[UU]
 refine aI rfl rfl (λK hK=>?_);go_simp;refine hK _ _ (λh=>absurd h zd) ?_;clear hK K;try simp only[UU]
 clear x0 x1 x2 y0 y1 y2 r0 ai r1 aj r2 aC;refine bN (bz w2 (w.heap.size+1+1) 0 [.bool (ar (dN D)),.string (bs (nt (dN D).natAbs)),.int .i64 (dE D)]) bF ?_;intro w9 hs;replace Hx:=kS Hx hs zo;replace Hy:=kS Hy hs zo;replace Hr:=bX Hr hs;obtain⟨x0,x1,x2⟩:=Hx.out.c3;obtain⟨y0,y1,y2⟩:=Hy.out.c3;obtain⟨r0,ai,r1,aj,r2,aC⟩:=Hr.out.g3;replace Hb:=bS Hb hs ZS;clear hs;simp only[aU];go_wp2;refine bodyPost_ret (v:=bC D) (by simp[results,Tryz.results83,go_sem,r0,r1,r2]) rfl ⟨rfl,?_⟩;(repeat first|exact Hb.out| (refine Below.setCell ?_ (by have:=Hb.out.size;first| (dsimp only;omega) | (show _<=_;omega) | (simp<;>omega)) _) | (refine Below.alloc ?_ zt _) |refine Below.drew ?_)
theorem akl (s:Bool)(l:List UInt8)(e n:Int)(D:Dyadic)(hD:az (s,l,e+n)=D)(w:World)(hx:dV (s,l,e))(hn: -16384<=n/\n<=16384):
 Calls Tryz.prog 53 #[.agg #[.bool s,.string (bs l),.int .i64 e],.int .i64 n] w λex w'=>ex=.returned (bC D)/\Bw w w':=by
 have hx1:l.length<=16384:=hx.1;have hx2: -16384<=e/\e<=16384:=hx.2;have h1:=λW=>yt s l (e+n) D hD W zo zo;have H1:=ah h1;have hwr:IntKind.i64.wrap (e+n)=e+n:=by rw[IntKind.wrap_i64];omega
 clear h1 hD hx hx1;obtain⟨W,dc,Hb,Hx,Hr⟩:=nO w 30 [.bool s,.string (bs l),.int .i64 e] 30 [.bool false,.string ⟨#[]⟩,.int .i64 0];obtain⟨x0,x1,x2⟩:=Hx.out.c3;obtain⟨r0,ai,r1,aj,r2,aC⟩:=Hr.out.g3;go_enter Tryz.func53,Tryz.ntmps53;go_wp2_with fail;refine(H1.out _).mono ?_;rintro e w1 ⟨rfl,ae⟩;clear x0 x1 x2 r0 ai r1 aj r2 aC;replace Hx:=kB Hx ae;replace Hr:=kB Hr ae;obtain⟨x0,x1,x2⟩:=Hx.out.c3;obtain⟨r0,ai,r1,aj,r2,aC⟩:=Hr.out.g3;replace Hb:=au Hb ae;clear ae;go_wp2;clear x0 x1 x2 r0 ai r1 aj r2 aC;refine fF (bz w1 (w.heap.size+1) 0 [.bool (ar (dN D)),.string (bs (nt (dN D).natAbs)),.int .i64 (dE D)]) bF ?_;intro w9 hs;replace Hx:=kS Hx hs zo;replace Hr:=bX Hr hs;obtain⟨x0,x1,x2⟩:=Hx.out.c3;obtain⟨r0,ai,r1,aj,r2,aC⟩:=Hr.out.g3;replace Hb:=bS Hb hs ZS;clear hs;refine bodyPost_ret (v:=bC D) (by simp[results,Tryz.results53,go_sem,r0,r1,r2]) rfl ⟨rfl,Hb.out⟩
theorem Xy (n:Nat):n<256^(nt n).length:=by have:=gb (nt n);rwa [jd]at this
theorem ajv (A C S:Dyadic)(hS:A+C=S)(p:Nat)(hp:dE A-dE C=(p:Int))(Z1 Z:Int)(h1:dN A*2^p=Z1)(h2:Z1+dN C=Z):az (ar Z,nt Z.natAbs,dE C)=S:=by
 rw[uO,<-h2,<-h1,<-ym,<-hS];congr 1
 . have:=ui (dN A) p (-(dE A));rw[show-(dE C)= -(dE A)+(p:Int)by omega,this];exact(sK A).symm
 . exact(sK C).symm
theorem Eu (s:Bool)(l:List UInt8)(e:Int)(t:Bool)(m:List UInt8)(f:Int)(S:Dyadic)(hS:az (s,l,e)+az (t,m,f)=S)(w:World)(hx:dV (s,l,e))(hy:dV (t,m,f)):
 Calls Tryz.prog 54 #[.agg #[.bool s,.string (bs l),.int .i64 e],.agg #[.bool t,.string (bs m),.int .i64 f]] w λex w'=>ex=.returned (bC S)/\Bw w w':=by
 obtain⟨A,hA⟩:=aB (az (s,l,e));obtain⟨C,hC⟩:=aB (az (t,m,f));have qH:=hx.sm;have zE:=hy.sm;rw[hA]at qH;rw[hC]at zE;obtain⟨a1,a2,a3⟩:=qH.parts;obtain⟨c1,c2,c3⟩:=zE.parts;have la:(nt (dN A).natAbs).length<=65536:=jK a1 zo;have lc:(nt (dN C).natAbs).length<=65536:=jK c1 zo;have eP:=λW=>yr s l e A hA W hx;have ke:=λW=>yr t m f C hC W hy;rw[hA,hC]at hS;have vC:=λW=>AE (ar (dN A)) (nt (dN A).natAbs) (dE A) (cw A) (by show cw (az (canon A))=_;rw[bU]) W zo;have xN:=λW=>AE (ar (dN C)) (nt (dN C).natAbs) (dE C) (cw C) (by show cw (az (canon C))=_;rw[bU]) W zo;have zN:(cw A==0)=true↔A=0:=by rw[<-Bool.not_eq_false];rw[xo];simp
 have zO:(cw C==0)=true↔C=0:=by rw[<-Bool.not_eq_false];rw[xo];simp
 have hpl:=λ(A C:Dyadic) (hS:A+C=S) (zD:(nt (dN A).natAbs).length<=65536) (TA:(nt (dN C).natAbs).length<=65536) (p:Nat) (hp:dE A-dE C=(p:Int)) (Dy:p<=524288) (LL: -262144<=dE C/\dE C<=262144)=>(show ∃Z1 Z:Int,(∀W,Calls Tryz.prog 91 #[.agg #[.bool (ar (dN A)),.string (bs (nt (dN A).natAbs))],.int .i64 (p:Int)] W λe w'=>e=.returned (.agg #[.bool (ar Z1),.string (bs (nt Z1.natAbs))])/\Bw W w')/\(∀W,Calls Tryz.prog 90 #[.agg #[.bool (ar Z1),.string (bs (nt Z1.natAbs))],.agg #[.bool (ar (dN C)),.string (bs (nt (dN C).natAbs))]] W λe w'=>e=.returned (.agg #[.bool (ar Z),.string (bs (nt Z.natAbs))])/\Bw W w')/\(∀W,Calls Tryz.prog 79 #[.agg #[.bool (ar Z),.string (bs (nt Z.natAbs))],.int .i64 (dE C)] W λe w'=>e=.returned (bC S)/\Bw W w')from by
  obtain⟨Z1,h1⟩:=aB (dN A*2^p);obtain⟨Z,h2⟩:=aB (Z1+dN C);have l1:(nt Z1.natAbs).length<=589824:=by
   have e1:Z1.natAbs=nv (nt (dN A).natAbs) *2^p:=by rw[<-h1,Int.natAbs_mul,jd];simp[Int.natAbs_pow]
   rw[e1];exact Nat.le_trans (Xx _ p) zo
  have l2:(nt Z.natAbs).length<=589825:=by
   obtain⟨K,hK⟩:=aB (589824);rw[hK]at l1;have lcK:(nt (dN C).natAbs).length<=K:=by omega
   have hle:(nt Z.natAbs).length<=K+1:=by
    refine jc ?_;have b1:Z1.natAbs<256^K:=Nat.lt_of_lt_of_le (Xy _) (Nat.pow_le_pow_right zd l1);have b2:(dN C).natAbs<256^K:=Nat.lt_of_lt_of_le (Xy _) (Nat.pow_le_pow_right zd lcK);have b3:Z.natAbs<=Z1.natAbs+(dN C).natAbs:=by rw[<-h2];exact Int.natAbs_add_le _ _
    rw[Nat.pow_succ];omega
   omega
  refine⟨Z1,Z,λW=>akk _ _ p Z1 (by rw[fq];exact h1) W zo zo,λW=>akd _ _ _ _ Z (by rw[fq,fq];exact h2) W zo zo,λW=>yt _ _ (dE C) S (ajv A C S hS p hp Z1 Z h1 h2) W zo zo⟩)
 have xM:=hpl;by_cases rP:A=0
 . have zA:=zN.2 rP;have LM:C=S:=by rw[<-hS,rP];grind
   subst LM;obtain⟨iW,mn,wW⟩:=cL eP ke vC;clear eP ke vC xN hpl xM zN zO rP hA hC hS qH zE a1 a2 a3 c1 c2 c3 la lc hx hy;obtain⟨W,dc,Hb,Hx,Hy,Hr⟩:=rq w 30 [.bool s,.string (bs l),.int .i64 e] 30 [.bool t,.string (bs m),.int .i64 f] 30 [.bool false,.string ⟨#[]⟩,.int .i64 0];obtain⟨x0,aW,x1,aX,x2,bi⟩:=Hx.out.g3;obtain⟨y0,aP,y1,aQ,y2,aS⟩:=Hy.out.g3;obtain⟨r0,ai,r1,aj,r2,aC⟩:=Hr.out.g3;go_enter Tryz.func54,Tryz.ntmps54;go_wp2_with fail;refine bJ (λw'=>w'.cell? ⟨w.heap.size,0,none⟩=some (.bool s)/\w'.cell? ⟨w.heap.size,1,none⟩=some (.string (bs l))/\w'.cell? ⟨w.heap.size,2,none⟩=some (.int .i64 e)/\w'.cell? ⟨w.heap.size+1,0,none⟩=some (.bool t)/\w'.cell? ⟨w.heap.size+1,1,none⟩=some (.string (bs m))/\w'.cell? ⟨w.heap.size+1,2,none⟩=some (.int .i64 f)) (λi=>Nat.blt i 4) [(0,true),(2,true),(1,false),(3,false),(4,false),(5,false)] zk zk rfl zk zc ⟨x0,x1,x2,y0,y1,y2⟩ ?_;iterate 2 (refine pT rfl rfl ?_ (by intro w' ⟨q0,q1,q2,q3,q4,q5⟩;go_simp;try with_reducible rfl);try simp only[UU])
   refine aI rfl rfl (λK hK=>?_);go_simp;with_reducible refine(iW.out _).mono ?_
   rintro e w1 ⟨rfl,hq⟩;have ae:Bw W w1:=by first|exact hq|exact aM hq
   clear x0 aW x1 aX x2 bi y0 aP y1 aQ y2 aS r0 ai r1 aj r2 aC;replace Hx:=kB Hx ae;replace Hy:=kB Hy ae;replace Hr:=kB Hr ae;obtain⟨x0,aW,x1,aX,x2,bi⟩:=Hx.out.g3;obtain⟨y0,aP,y1,aQ,y2,aS⟩:=Hy.out.g3;obtain⟨r0,ai,r1,aj,r2,aC⟩:=Hr.out.g3;replace Hb:=au Hb ae;clear ae;refine hK _ _ (λ_=>⟨x0,x1,x2,y0,y1,y2⟩) ?_;clear hK K;try simp only[UU]
   refine aI rfl rfl (λK hK=>?_);go_simp;with_reducible refine(mn.out _).mono ?_
   rintro e w2 ⟨rfl,hq⟩;have ae:Bw w1 w2:=by first|exact hq|exact aM hq
   clear x0 aW x1 aX x2 bi y0 aP y1 aQ y2 aS r0 ai r1 aj r2 aC;replace Hx:=kB Hx ae;replace Hy:=kB Hy ae;replace Hr:=kB Hr ae;obtain⟨x0,aW,x1,aX,x2,bi⟩:=Hx.out.g3;obtain⟨y0,aP,y1,aQ,y2,aS⟩:=Hy.out.g3;obtain⟨r0,ai,r1,aj,r2,aC⟩:=Hr.out.g3;replace Hb:=au Hb ae;clear ae;refine hK _ _ (λ_=>⟨x0,x1,x2,y0,y1,y2⟩) ?_;clear hK K;try simp only[UU]
   refine aI rfl rfl (λK hK=>?_);go_simp;refine hK _ _ (λh=>absurd h zd) ?_;clear hK K;try simp only[UU]
   clear x0 aW x1 aX x2 bi y0 aP y1 aQ y2 aS r0 ai r1 aj r2 aC;refine bN (bz w2 (w.heap.size) 0 [.bool (ar (dN A)),.string (bs (nt (dN A).natAbs)),.int .i64 (dE A)]) bF ?_;intro w3 hs;replace Hx:=bX Hx hs;replace Hy:=kS Hy hs zo;replace Hr:=kS Hr hs zo;obtain⟨x0,aW,x1,aX,x2,bi⟩:=Hx.out.g3;obtain⟨y0,aP,y1,aQ,y2,aS⟩:=Hy.out.g3;obtain⟨r0,ai,r1,aj,r2,aC⟩:=Hr.out.g3;replace Hb:=bS Hb hs ZS;clear hs;refine aI rfl rfl (λK hK=>?_);go_simp;refine hK _ _ (λh=>absurd h zd) ?_;clear hK K;try simp only[UU]
   clear x0 aW x1 aX x2 bi y0 aP y1 aQ y2 aS r0 ai r1 aj r2 aC;refine bN (bz w3 (w.heap.size+1) 0 [.bool (ar (dN C)),.string (bs (nt (dN C).natAbs)),.int .i64 (dE C)]) bF ?_;intro w4 hs;replace Hx:=kS Hx hs zo;replace Hy:=bX Hy hs;replace Hr:=kS Hr hs zo;obtain⟨x0,aW,x1,aX,x2,bi⟩:=Hx.out.g3;obtain⟨y0,aP,y1,aQ,y2,aS⟩:=Hy.out.g3;obtain⟨r0,ai,r1,aj,r2,aC⟩:=Hr.out.g3;replace Hb:=bS Hb hs ZS;clear hs;simp only[aU];go_wp2_with fail;refine(wW.out _).mono ?_;rintro e w5 ⟨rfl,ae⟩;clear x0 aW x1 aX x2 bi y0 aP y1 aQ y2 aS r0 ai r1 aj r2 aC;replace Hx:=kB Hx ae;replace Hy:=kB Hy ae;replace Hr:=kB Hr ae;obtain⟨x0,aW,x1,aX,x2,bi⟩:=Hx.out.g3;obtain⟨y0,aP,y1,aQ,y2,aS⟩:=Hy.out.g3;obtain⟨r0,ai,r1,aj,r2,aC⟩:=Hr.out.g3;replace Hb:=au Hb ae;clear ae;go_wp2;clear x0 aW x1 aX x2 bi y0 aP y1 aQ y2 aS r0 ai r1 aj r2 aC;refine fF (bz w5 (w.heap.size+1+1) 0 [.bool (ar (dN C)),.string (bs (nt (dN C).natAbs)),.int .i64 (dE C)]) bF ?_;intro w9 hs;replace Hx:=kS Hx hs zo;replace Hy:=kS Hy hs zo;replace Hr:=bX Hr hs;obtain⟨x0,aW,x1,aX,x2,bi⟩:=Hx.out.g3;obtain⟨y0,aP,y1,aQ,y2,aS⟩:=Hy.out.g3;obtain⟨r0,ai,r1,aj,r2,aC⟩:=Hr.out.g3;replace Hb:=bS Hb hs ZS;clear hs;refine bodyPost_ret (v:=bC C) (by simp[results,Tryz.results54,go_sem,r0,r1,r2]) rfl ⟨rfl,Hb.out⟩
 have zA:(cw A==0)=false:=by rw[<-Bool.not_eq_true];exact λh=>rP (zN.1 h)
 by_cases od:C=0
 . have zC:=zO.2 od;have LM:A=S:=by rw[<-hS,od];grind
   subst LM;obtain⟨iW,mn,wW,Cb⟩:=dW eP ke vC xN;clear eP ke vC xN hpl xM zN zO rP od hA hC hS qH zE a1 a2 a3 c1 c2 c3 la lc hx hy;obtain⟨W,dc,Hb,Hx,Hy,Hr⟩:=rq w 30 [.bool s,.string (bs l),.int .i64 e] 30 [.bool t,.string (bs m),.int .i64 f] 30 [.bool false,.string ⟨#[]⟩,.int .i64 0];obtain⟨x0,aW,x1,aX,x2,bi⟩:=Hx.out.g3;obtain⟨y0,aP,y1,aQ,y2,aS⟩:=Hy.out.g3;obtain⟨r0,ai,r1,aj,r2,aC⟩:=Hr.out.g3;go_enter Tryz.func54,Tryz.ntmps54;go_wp2_with fail;refine bJ (λw'=>w'.cell? ⟨w.heap.size,0,none⟩=some (.bool s)/\w'.cell? ⟨w.heap.size,1,none⟩=some (.string (bs l))/\w'.cell? ⟨w.heap.size,2,none⟩=some (.int .i64 e)/\w'.cell? ⟨w.heap.size+1,0,none⟩=some (.bool t)/\w'.cell? ⟨w.heap.size+1,1,none⟩=some (.string (bs m))/\w'.cell? ⟨w.heap.size+1,2,none⟩=some (.int .i64 f)) (λi=>Nat.blt i 4) [(0,true),(2,true),(1,false),(3,false),(4,false),(5,false)] zk zk rfl zk zc ⟨x0,x1,x2,y0,y1,y2⟩ ?_;iterate 2 (refine pT rfl rfl ?_ (by intro w' ⟨q0,q1,q2,q3,q4,q5⟩;go_simp;try with_reducible rfl);try simp only[UU])
   refine aI rfl rfl (λK hK=>?_);go_simp;with_reducible refine(iW.out _).mono ?_
   rintro e w1 ⟨rfl,hq⟩;have ae:Bw W w1:=by first|exact hq|exact aM hq
   clear x0 aW x1 aX x2 bi y0 aP y1 aQ y2 aS r0 ai r1 aj r2 aC;replace Hx:=kB Hx ae;replace Hy:=kB Hy ae;replace Hr:=kB Hr ae;obtain⟨x0,aW,x1,aX,x2,bi⟩:=Hx.out.g3;obtain⟨y0,aP,y1,aQ,y2,aS⟩:=Hy.out.g3;obtain⟨r0,ai,r1,aj,r2,aC⟩:=Hr.out.g3;replace Hb:=au Hb ae;clear ae;refine hK _ _ (λ_=>⟨x0,x1,x2,y0,y1,y2⟩) ?_;clear hK K;try simp only[UU]
   refine aI rfl rfl (λK hK=>?_);go_simp;with_reducible refine(mn.out _).mono ?_
   rintro e w2 ⟨rfl,hq⟩;have ae:Bw w1 w2:=by first|exact hq|exact aM hq
   clear x0 aW x1 aX x2 bi y0 aP y1 aQ y2 aS r0 ai r1 aj r2 aC;replace Hx:=kB Hx ae;replace Hy:=kB Hy ae;replace Hr:=kB Hr ae;obtain⟨x0,aW,x1,aX,x2,bi⟩:=Hx.out.g3;obtain⟨y0,aP,y1,aQ,y2,aS⟩:=Hy.out.g3;obtain⟨r0,ai,r1,aj,r2,aC⟩:=Hr.out.g3;replace Hb:=au Hb ae;clear ae;refine hK _ _ (λ_=>⟨x0,x1,x2,y0,y1,y2⟩) ?_;clear hK K;try simp only[UU]
   refine aI rfl rfl (λK hK=>?_);go_simp;refine hK _ _ (λh=>absurd h zd) ?_;clear hK K;try simp only[UU]
   clear x0 aW x1 aX x2 bi y0 aP y1 aQ y2 aS r0 ai r1 aj r2 aC;refine bN (bz w2 (w.heap.size) 0 [.bool (ar (dN A)),.string (bs (nt (dN A).natAbs)),.int .i64 (dE A)]) bF ?_;intro w3 hs;replace Hx:=bX Hx hs;replace Hy:=kS Hy hs zo;replace Hr:=kS Hr hs zo;obtain⟨x0,aW,x1,aX,x2,bi⟩:=Hx.out.g3;obtain⟨y0,aP,y1,aQ,y2,aS⟩:=Hy.out.g3;obtain⟨r0,ai,r1,aj,r2,aC⟩:=Hr.out.g3;replace Hb:=bS Hb hs ZS;clear hs;refine aI rfl rfl (λK hK=>?_);go_simp;refine hK _ _ (λh=>absurd h zd) ?_;clear hK K;try simp only[UU]
   clear x0 aW x1 aX x2 bi y0 aP y1 aQ y2 aS r0 ai r1 aj r2 aC;refine bN (bz w3 (w.heap.size+1) 0 [.bool (ar (dN C)),.string (bs (nt (dN C).natAbs)),.int .i64 (dE C)]) bF ?_;intro w4 hs;replace Hx:=kS Hx hs zo;replace Hy:=bX Hy hs;replace Hr:=kS Hr hs zo;obtain⟨x0,aW,x1,aX,x2,bi⟩:=Hx.out.g3;obtain⟨y0,aP,y1,aQ,y2,aS⟩:=Hy.out.g3;obtain⟨r0,ai,r1,aj,r2,aC⟩:=Hr.out.g3;replace Hb:=bS Hb hs ZS;clear hs;simp only[aU];go_wp2_with fail;refine(wW.out _).mono ?_;rintro e w5 ⟨rfl,ae⟩;clear x0 aW x1 aX x2 bi y0 aP y1 aQ y2 aS r0 ai r1 aj r2 aC;replace Hx:=kB Hx ae;replace Hy:=kB Hy ae;replace Hr:=kB Hr ae;obtain⟨x0,aW,x1,aX,x2,bi⟩:=Hx.out.g3;obtain⟨y0,aP,y1,aQ,y2,aS⟩:=Hy.out.g3;obtain⟨r0,ai,r1,aj,r2,aC⟩:=Hr.out.g3;replace Hb:=au Hb ae;clear ae;go_wp2_with fail;refine(Cb.out _).mono ?_;rintro e w6 ⟨rfl,ae⟩;clear x0 aW x1 aX x2 bi y0 aP y1 aQ y2 aS r0 ai r1 aj r2 aC;replace Hx:=kB Hx ae;replace Hy:=kB Hy ae;replace Hr:=kB Hr ae;obtain⟨x0,aW,x1,aX,x2,bi⟩:=Hx.out.g3;obtain⟨y0,aP,y1,aQ,y2,aS⟩:=Hy.out.g3;obtain⟨r0,ai,r1,aj,r2,aC⟩:=Hr.out.g3;replace Hb:=au Hb ae;clear ae;go_wp2;clear x0 aW x1 aX x2 bi y0 aP y1 aQ y2 aS r0 ai r1 aj r2 aC;refine fF (bz w6 (w.heap.size+1+1) 0 [.bool (ar (dN A)),.string (bs (nt (dN A).natAbs)),.int .i64 (dE A)]) bF ?_;intro w9 hs;replace Hx:=kS Hx hs zo;replace Hy:=kS Hy hs zo;replace Hr:=bX Hr hs;obtain⟨x0,aW,x1,aX,x2,bi⟩:=Hx.out.g3;obtain⟨y0,aP,y1,aQ,y2,aS⟩:=Hy.out.g3;obtain⟨r0,ai,r1,aj,r2,aC⟩:=Hr.out.g3;replace Hb:=bS Hb hs ZS;clear hs;refine bodyPost_ret (v:=bC A) (by simp[results,Tryz.results54,go_sem,r0,r1,r2]) rfl ⟨rfl,Hb.out⟩
 have zC:(cw C==0)=false:=by rw[<-Bool.not_eq_true];exact λh=>od (zO.1 h)
 by_cases hEE:dE A<dE C
 . obtain⟨p,hp⟩:∃p:Nat,dE C-dE A=(p:Int):=⟨(dE C-dE A).toNat,by omega⟩;obtain⟨Z1,Z,g1,g2,g3⟩:=hpl C A (by rw[<-hS];grind) lc la p hp zo zo;have hwr:IntKind.i64.wrap (dE C-dE A)=(p:Int):=by rw[IntKind.wrap_i64];omega
   obtain⟨iW,mn,wW,Cb,G1,G2,G3⟩:=pR eP ke vC xN g1 g2 g3;clear eP ke vC xN hpl xM zN zO rP od hA hC hS qH zE a1 a2 a3 c1 c2 c3 la lc hx hy g1 g2 g3 hp;obtain⟨W,dc,Hb,Hx,Hy,Hr⟩:=rq w 30 [.bool s,.string (bs l),.int .i64 e] 30 [.bool t,.string (bs m),.int .i64 f] 30 [.bool false,.string ⟨#[]⟩,.int .i64 0];obtain⟨x0,aW,x1,aX,x2,bi⟩:=Hx.out.g3;obtain⟨y0,aP,y1,aQ,y2,aS⟩:=Hy.out.g3;obtain⟨r0,ai,r1,aj,r2,aC⟩:=Hr.out.g3;go_enter Tryz.func54,Tryz.ntmps54;go_wp2_with fail;refine bJ (λw'=>w'.cell? ⟨w.heap.size,0,none⟩=some (.bool s)/\w'.cell? ⟨w.heap.size,1,none⟩=some (.string (bs l))/\w'.cell? ⟨w.heap.size,2,none⟩=some (.int .i64 e)/\w'.cell? ⟨w.heap.size+1,0,none⟩=some (.bool t)/\w'.cell? ⟨w.heap.size+1,1,none⟩=some (.string (bs m))/\w'.cell? ⟨w.heap.size+1,2,none⟩=some (.int .i64 f)) (λi=>Nat.blt i 4) [(0,true),(2,true),(1,false),(3,false),(4,false),(5,false)] zk zk rfl zk zc ⟨x0,x1,x2,y0,y1,y2⟩ ?_;iterate 2 (refine pT rfl rfl ?_ (by intro w' ⟨q0,q1,q2,q3,q4,q5⟩;go_simp;try with_reducible rfl);try simp only[UU])
   refine aI rfl rfl (λK hK=>?_);go_simp;with_reducible refine(iW.out _).mono ?_
   rintro e w1 ⟨rfl,hq⟩;have ae:Bw W w1:=by first|exact hq|exact aM hq
   clear x0 aW x1 aX x2 bi y0 aP y1 aQ y2 aS r0 ai r1 aj r2 aC;replace Hx:=kB Hx ae;replace Hy:=kB Hy ae;replace Hr:=kB Hr ae;obtain⟨x0,aW,x1,aX,x2,bi⟩:=Hx.out.g3;obtain⟨y0,aP,y1,aQ,y2,aS⟩:=Hy.out.g3;obtain⟨r0,ai,r1,aj,r2,aC⟩:=Hr.out.g3;replace Hb:=au Hb ae;clear ae;refine hK _ _ (λ_=>⟨x0,x1,x2,y0,y1,y2⟩) ?_;clear hK K;try simp only[UU]
   refine aI rfl rfl (λK hK=>?_);go_simp;with_reducible refine(mn.out _).mono ?_
   rintro e w2 ⟨rfl,hq⟩;have ae:Bw w1 w2:=by first|exact hq|exact aM hq
   clear x0 aW x1 aX x2 bi y0 aP y1 aQ y2 aS r0 ai r1 aj r2 aC;replace Hx:=kB Hx ae;replace Hy:=kB Hy ae;replace Hr:=kB Hr ae;obtain⟨x0,aW,x1,aX,x2,bi⟩:=Hx.out.g3;obtain⟨y0,aP,y1,aQ,y2,aS⟩:=Hy.out.g3;obtain⟨r0,ai,r1,aj,r2,aC⟩:=Hr.out.g3;replace Hb:=au Hb ae;clear ae;refine hK _ _ (λ_=>⟨x0,x1,x2,y0,y1,y2⟩) ?_;clear hK K;try simp only[UU]
   refine aI rfl rfl (λK hK=>?_);go_simp;refine hK _ _ (λh=>absurd h zd) ?_;clear hK K;try simp only[UU]
   clear x0 aW x1 aX x2 bi y0 aP y1 aQ y2 aS r0 ai r1 aj r2 aC;refine bN (bz w2 (w.heap.size) 0 [.bool (ar (dN A)),.string (bs (nt (dN A).natAbs)),.int .i64 (dE A)]) bF ?_;intro w3 hs;replace Hx:=bX Hx hs;replace Hy:=kS Hy hs zo;replace Hr:=kS Hr hs zo;obtain⟨x0,aW,x1,aX,x2,bi⟩:=Hx.out.g3;obtain⟨y0,aP,y1,aQ,y2,aS⟩:=Hy.out.g3;obtain⟨r0,ai,r1,aj,r2,aC⟩:=Hr.out.g3;replace Hb:=bS Hb hs ZS;clear hs;refine aI rfl rfl (λK hK=>?_);go_simp;refine hK _ _ (λh=>absurd h zd) ?_;clear hK K;try simp only[UU]
   clear x0 aW x1 aX x2 bi y0 aP y1 aQ y2 aS r0 ai r1 aj r2 aC;refine bN (bz w3 (w.heap.size+1) 0 [.bool (ar (dN C)),.string (bs (nt (dN C).natAbs)),.int .i64 (dE C)]) bF ?_;intro w4 hs;replace Hx:=kS Hx hs zo;replace Hy:=bX Hy hs;replace Hr:=kS Hr hs zo;obtain⟨x0,aW,x1,aX,x2,bi⟩:=Hx.out.g3;obtain⟨y0,aP,y1,aQ,y2,aS⟩:=Hy.out.g3;obtain⟨r0,ai,r1,aj,r2,aC⟩:=Hr.out.g3;replace Hb:=bS Hb hs ZS;clear hs;simp only[aU];go_wp2_with fail;refine(wW.out _).mono ?_;rintro e w5 ⟨rfl,ae⟩;clear x0 aW x1 aX x2 bi y0 aP y1 aQ y2 aS r0 ai r1 aj r2 aC;replace Hx:=kB Hx ae;replace Hy:=kB Hy ae;replace Hr:=kB Hr ae;obtain⟨x0,aW,x1,aX,x2,bi⟩:=Hx.out.g3;obtain⟨y0,aP,y1,aQ,y2,aS⟩:=Hy.out.g3;obtain⟨r0,ai,r1,aj,r2,aC⟩:=Hr.out.g3;replace Hb:=au Hb ae;clear ae;go_wp2_with fail;refine(Cb.out _).mono ?_;rintro e w6 ⟨rfl,ae⟩;clear x0 aW x1 aX x2 bi y0 aP y1 aQ y2 aS r0 ai r1 aj r2 aC;replace Hx:=kB Hx ae;replace Hy:=kB Hy ae;replace Hr:=kB Hr ae;obtain⟨x0,aW,x1,aX,x2,bi⟩:=Hx.out.g3;obtain⟨y0,aP,y1,aQ,y2,aS⟩:=Hy.out.g3;obtain⟨r0,ai,r1,aj,r2,aC⟩:=Hr.out.g3;replace Hb:=au Hb ae;clear ae;go_wp2_with fail;clear x0 aW x1 aX x2 bi y0 aP y1 aQ y2 aS r0 ai r1 aj r2 aC;obtain⟨R,hR⟩:∃R:World->Prop,(λw7=>ak w7 (w.heap.size) 30 [.bool (ar (dN C)),.string (bs (nt (dN C).natAbs)),.int .i64 (dE C)]/\ak w7 (w.heap.size+1) 30 [.bool (ar (dN A)),.string (bs (nt (dN A).natAbs)),.int .i64 (dE A)]/\ak w7 (w.heap.size+1+1) 30 [.bool false,.string ⟨#[]⟩,.int .i64 0]/\Bw w w7)=R:=⟨_,rfl⟩;first|refine bO R ?hR ?_|refine bK R ?hR ?_
   case hR=>subst hR;exact⟨((((((Hx.out.set 0 _).set 1 _).set 2 _).so (w.heap.size+1) 0 zo _).so (w.heap.size+1) 1 zo _).so (w.heap.size+1) 2 zo _),((((((Hy.out.so (w.heap.size) 0 zo _).so (w.heap.size) 1 zo _).so (w.heap.size) 2 zo _).set 0 _).set 1 _).set 2 _),((((((Hr.out.so (w.heap.size) 0 zo _).so (w.heap.size) 1 zo _).so (w.heap.size) 2 zo _).so (w.heap.size+1) 0 zo _).so (w.heap.size+1) 1 zo _).so (w.heap.size+1) 2 zo _),((((((Hb.out.sc (w.heap.size) 0 ZS _).sc (w.heap.size) 1 ZS _).sc (w.heap.size) 2 ZS _).sc (w.heap.size+1) 0 ZS _).sc (w.heap.size+1) 1 ZS _).sc (w.heap.size+1) 2 ZS _)⟩
   subst hR;rintro w7 ⟨qx,qy,qr,ae⟩;replace Hx:=ah qx;clear qx;replace Hy:=ah qy;clear qy;replace Hr:=ah qr;clear qr;obtain⟨x0,aW,x1,aX,x2,bi⟩:=Hx.out.g3;obtain⟨y0,aP,y1,aQ,y2,aS⟩:=Hy.out.g3;obtain⟨r0,ai,r1,aj,r2,aC⟩:=Hr.out.g3;replace Hb:=ah ae;clear ae;refine bJ (λw'=>w'.cell? ⟨w.heap.size,0,none⟩=some (.bool (ar (dN C)))/\w'.cell? ⟨w.heap.size,1,none⟩=some (.string (bs (nt (dN C).natAbs)))/\w'.cell? ⟨w.heap.size,2,none⟩=some (.int .i64 (dE C))/\w'.cell? ⟨w.heap.size+1,0,none⟩=some (.bool (ar (dN A)))/\w'.cell? ⟨w.heap.size+1,1,none⟩=some (.string (bs (nt (dN A).natAbs)))/\w'.cell? ⟨w.heap.size+1,2,none⟩=some (.int .i64 (dE A))) (λi=>Nat.blt i 14) [(0,true),(1,true),(2,true),(3,true),(4,true),(5,true),(6,true),(8,true),(9,true),(11,true),(12,true),(7,false),(10,false),(13,false),(14,false)] zk zk rfl zk zc ⟨x0,x1,x2,y0,y1,y2⟩ ?_;iterate 11 (refine pT rfl rfl ?_ (by intro w' ⟨q0,q1,q2,q3,q4,q5⟩;go_simp;try with_reducible rfl);try simp only[UU])
   refine aI rfl rfl (λK hK=>?_);go_simp;with_reducible refine(G1.out _).mono ?_
   rintro e jA ⟨rfl,hq⟩;have ae:Bw w7 jA:=by first|exact hq|exact aM hq
   clear x0 aW x1 aX x2 bi y0 aP y1 aQ y2 aS r0 ai r1 aj r2 aC;replace Hx:=kB Hx ae;replace Hy:=kB Hy ae;replace Hr:=kB Hr ae;obtain⟨x0,aW,x1,aX,x2,bi⟩:=Hx.out.g3;obtain⟨y0,aP,y1,aQ,y2,aS⟩:=Hy.out.g3;obtain⟨r0,ai,r1,aj,r2,aC⟩:=Hr.out.g3;replace Hb:=au Hb ae;clear ae;refine hK _ _ (λ_=>⟨x0,x1,x2,y0,y1,y2⟩) ?_;clear hK K;try simp only[UU]
   refine aI rfl rfl (λK hK=>?_);go_simp;with_reducible refine(G2.out _).mono ?_
   rintro e lf ⟨rfl,hq⟩;have ae:Bw jA lf:=by first|exact hq|exact aM hq
   clear x0 aW x1 aX x2 bi y0 aP y1 aQ y2 aS r0 ai r1 aj r2 aC;replace Hx:=kB Hx ae;replace Hy:=kB Hy ae;replace Hr:=kB Hr ae;obtain⟨x0,aW,x1,aX,x2,bi⟩:=Hx.out.g3;obtain⟨y0,aP,y1,aQ,y2,aS⟩:=Hy.out.g3;obtain⟨r0,ai,r1,aj,r2,aC⟩:=Hr.out.g3;replace Hb:=au Hb ae;clear ae;refine hK _ _ (λ_=>⟨x0,x1,x2,y0,y1,y2⟩) ?_;clear hK K;try simp only[UU]
   refine aI rfl rfl (λK hK=>?_);go_simp;with_reducible refine(G3.out _).mono ?_
   rintro e oN ⟨rfl,hq⟩;have ae:Bw lf oN:=by first|exact hq|exact aM hq
   clear x0 aW x1 aX x2 bi y0 aP y1 aQ y2 aS r0 ai r1 aj r2 aC;replace Hx:=kB Hx ae;replace Hy:=kB Hy ae;replace Hr:=kB Hr ae;obtain⟨x0,aW,x1,aX,x2,bi⟩:=Hx.out.g3;obtain⟨y0,aP,y1,aQ,y2,aS⟩:=Hy.out.g3;obtain⟨r0,ai,r1,aj,r2,aC⟩:=Hr.out.g3;replace Hb:=au Hb ae;clear ae;refine hK _ _ (λ_=>⟨x0,x1,x2,y0,y1,y2⟩) ?_;clear hK K;try simp only[UU]
   refine aI rfl rfl (λK hK=>?_);go_simp;refine hK _ _ (λh=>absurd h zd) ?_;clear hK K;try simp only[UU]
   clear x0 aW x1 aX x2 bi y0 aP y1 aQ y2 aS r0 ai r1 aj r2 aC;refine bN (bz oN (w.heap.size+1+1) 0 [.bool (ar (dN S)),.string (bs (nt (dN S).natAbs)),.int .i64 (dE S)]) bF ?_;intro w19 hs;replace Hx:=kS Hx hs zo;replace Hy:=kS Hy hs zo;replace Hr:=bX Hr hs;obtain⟨x0,aW,x1,aX,x2,bi⟩:=Hx.out.g3;obtain⟨y0,aP,y1,aQ,y2,aS⟩:=Hy.out.g3;obtain⟨r0,ai,r1,aj,r2,aC⟩:=Hr.out.g3;replace Hb:=bS Hb hs ZS;clear hs;simp only[aU];go_wp2;refine bodyPost_ret (v:=bC S) (by simp[results,Tryz.results54,go_sem,r0,r1,r2]) rfl ⟨rfl,?_⟩;(repeat first|exact Hb.out| (refine Below.setCell ?_ (by have:=Hb.out.size;first| (dsimp only;omega) | (show _<=_;omega) | (simp<;>omega)) _) | (refine Below.alloc ?_ zt _) |refine Below.drew ?_)
 . obtain⟨p,hp⟩:∃p:Nat,dE A-dE C=(p:Int):=⟨(dE A-dE C).toNat,by omega⟩;obtain⟨Z1,Z,g1,g2,g3⟩:=hpl A C hS la lc p hp zo zo;have hwr:IntKind.i64.wrap (dE A-dE C)=(p:Int):=by rw[IntKind.wrap_i64];omega
   obtain⟨iW,mn,wW,Cb,G1,G2,G3⟩:=pR eP ke vC xN g1 g2 g3;clear eP ke vC xN hpl xM zN zO rP od hA hC hS qH zE a1 a2 a3 c1 c2 c3 la lc hx hy g1 g2 g3 hp;obtain⟨W,dc,Hb,Hx,Hy,Hr⟩:=rq w 30 [.bool s,.string (bs l),.int .i64 e] 30 [.bool t,.string (bs m),.int .i64 f] 30 [.bool false,.string ⟨#[]⟩,.int .i64 0];obtain⟨x0,aW,x1,aX,x2,bi⟩:=Hx.out.g3;obtain⟨y0,aP,y1,aQ,y2,aS⟩:=Hy.out.g3;obtain⟨r0,ai,r1,aj,r2,aC⟩:=Hr.out.g3;go_enter Tryz.func54,Tryz.ntmps54;go_wp2_with fail;refine bJ (λw'=>w'.cell? ⟨w.heap.size,0,none⟩=some (.bool s)/\w'.cell? ⟨w.heap.size,1,none⟩=some (.string (bs l))/\w'.cell? ⟨w.heap.size,2,none⟩=some (.int .i64 e)/\w'.cell? ⟨w.heap.size+1,0,none⟩=some (.bool t)/\w'.cell? ⟨w.heap.size+1,1,none⟩=some (.string (bs m))/\w'.cell? ⟨w.heap.size+1,2,none⟩=some (.int .i64 f)) (λi=>Nat.blt i 4) [(0,true),(2,true),(1,false),(3,false),(4,false),(5,false)] zk zk rfl zk zc ⟨x0,x1,x2,y0,y1,y2⟩ ?_;iterate 2 (refine pT rfl rfl ?_ (by intro w' ⟨q0,q1,q2,q3,q4,q5⟩;go_simp;try with_reducible rfl);try simp only[UU])
   refine aI rfl rfl (λK hK=>?_);go_simp;with_reducible refine(iW.out _).mono ?_
   rintro e w1 ⟨rfl,hq⟩;have ae:Bw W w1:=by first|exact hq|exact aM hq
   clear x0 aW x1 aX x2 bi y0 aP y1 aQ y2 aS r0 ai r1 aj r2 aC;replace Hx:=kB Hx ae;replace Hy:=kB Hy ae;replace Hr:=kB Hr ae;obtain⟨x0,aW,x1,aX,x2,bi⟩:=Hx.out.g3;obtain⟨y0,aP,y1,aQ,y2,aS⟩:=Hy.out.g3;obtain⟨r0,ai,r1,aj,r2,aC⟩:=Hr.out.g3;replace Hb:=au Hb ae;clear ae;refine hK _ _ (λ_=>⟨x0,x1,x2,y0,y1,y2⟩) ?_;clear hK K;try simp only[UU]
   refine aI rfl rfl (λK hK=>?_);go_simp;with_reducible refine(mn.out _).mono ?_
   rintro e w2 ⟨rfl,hq⟩;have ae:Bw w1 w2:=by first|exact hq|exact aM hq
   clear x0 aW x1 aX x2 bi y0 aP y1 aQ y2 aS r0 ai r1 aj r2 aC;replace Hx:=kB Hx ae;replace Hy:=kB Hy ae;replace Hr:=kB Hr ae;obtain⟨x0,aW,x1,aX,x2,bi⟩:=Hx.out.g3;obtain⟨y0,aP,y1,aQ,y2,aS⟩:=Hy.out.g3;obtain⟨r0,ai,r1,aj,r2,aC⟩:=Hr.out.g3;replace Hb:=au Hb ae;clear ae;refine hK _ _ (λ_=>⟨x0,x1,x2,y0,y1,y2⟩) ?_;clear hK K;try simp only[UU]
   refine aI rfl rfl (λK hK=>?_);go_simp;refine hK _ _ (λh=>absurd h zd) ?_;clear hK K;try simp only[UU]
   clear x0 aW x1 aX x2 bi y0 aP y1 aQ y2 aS r0 ai r1 aj r2 aC;refine bN (bz w2 (w.heap.size) 0 [.bool (ar (dN A)),.string (bs (nt (dN A).natAbs)),.int .i64 (dE A)]) bF ?_;intro w3 hs;replace Hx:=bX Hx hs;replace Hy:=kS Hy hs zo;replace Hr:=kS Hr hs zo;obtain⟨x0,aW,x1,aX,x2,bi⟩:=Hx.out.g3;obtain⟨y0,aP,y1,aQ,y2,aS⟩:=Hy.out.g3;obtain⟨r0,ai,r1,aj,r2,aC⟩:=Hr.out.g3;replace Hb:=bS Hb hs ZS;clear hs;refine aI rfl rfl (λK hK=>?_);go_simp;refine hK _ _ (λh=>absurd h zd) ?_;clear hK K;try simp only[UU]
   clear x0 aW x1 aX x2 bi y0 aP y1 aQ y2 aS r0 ai r1 aj r2 aC;refine bN (bz w3 (w.heap.size+1) 0 [.bool (ar (dN C)),.string (bs (nt (dN C).natAbs)),.int .i64 (dE C)]) bF ?_;intro w4 hs;replace Hx:=kS Hx hs zo;replace Hy:=bX Hy hs;replace Hr:=kS Hr hs zo;obtain⟨x0,aW,x1,aX,x2,bi⟩:=Hx.out.g3;obtain⟨y0,aP,y1,aQ,y2,aS⟩:=Hy.out.g3;obtain⟨r0,ai,r1,aj,r2,aC⟩:=Hr.out.g3;replace Hb:=bS Hb hs ZS;clear hs;simp only[aU];go_wp2_with fail;refine(wW.out _).mono ?_;rintro e w5 ⟨rfl,ae⟩;clear x0 aW x1 aX x2 bi y0 aP y1 aQ y2 aS r0 ai r1 aj r2 aC;replace Hx:=kB Hx ae;replace Hy:=kB Hy ae;replace Hr:=kB Hr ae;obtain⟨x0,aW,x1,aX,x2,bi⟩:=Hx.out.g3;obtain⟨y0,aP,y1,aQ,y2,aS⟩:=Hy.out.g3;obtain⟨r0,ai,r1,aj,r2,aC⟩:=Hr.out.g3;replace Hb:=au Hb ae;clear ae;go_wp2_with fail;refine(Cb.out _).mono ?_;rintro e w6 ⟨rfl,ae⟩;clear x0 aW x1 aX x2 bi y0 aP y1 aQ y2 aS r0 ai r1 aj r2 aC;replace Hx:=kB Hx ae;replace Hy:=kB Hy ae;replace Hr:=kB Hr ae;obtain⟨x0,aW,x1,aX,x2,bi⟩:=Hx.out.g3;obtain⟨y0,aP,y1,aQ,y2,aS⟩:=Hy.out.g3;obtain⟨r0,ai,r1,aj,r2,aC⟩:=Hr.out.g3;replace Hb:=au Hb ae;clear ae;go_wp2_with fail;refine bJ (λw'=>w'.cell? ⟨w.heap.size,0,none⟩=some (.bool (ar (dN A)))/\w'.cell? ⟨w.heap.size,1,none⟩=some (.string (bs (nt (dN A).natAbs)))/\w'.cell? ⟨w.heap.size,2,none⟩=some (.int .i64 (dE A))/\w'.cell? ⟨w.heap.size+1,0,none⟩=some (.bool (ar (dN C)))/\w'.cell? ⟨w.heap.size+1,1,none⟩=some (.string (bs (nt (dN C).natAbs)))/\w'.cell? ⟨w.heap.size+1,2,none⟩=some (.int .i64 (dE C))) (λi=>Nat.blt i 14) [(0,true),(1,true),(2,true),(3,true),(4,true),(5,true),(6,true),(8,true),(9,true),(11,true),(12,true),(7,false),(10,false),(13,false),(14,false)] zk zk rfl zk zc ⟨x0,x1,x2,y0,y1,y2⟩ ?_;iterate 11 (refine pT rfl rfl ?_ (by intro w' ⟨q0,q1,q2,q3,q4,q5⟩;go_simp;try with_reducible rfl);try simp only[UU])
   refine aI rfl rfl (λK hK=>?_);go_simp;with_reducible refine(G1.out _).mono ?_
   rintro e jA ⟨rfl,hq⟩;have ae:Bw w6 jA:=by first|exact hq|exact aM hq
   clear x0 aW x1 aX x2 bi y0 aP y1 aQ y2 aS r0 ai r1 aj r2 aC;replace Hx:=kB Hx ae;replace Hy:=kB Hy ae;replace Hr:=kB Hr ae;obtain⟨x0,aW,x1,aX,x2,bi⟩:=Hx.out.g3;obtain⟨y0,aP,y1,aQ,y2,aS⟩:=Hy.out.g3;obtain⟨r0,ai,r1,aj,r2,aC⟩:=Hr.out.g3;replace Hb:=au Hb ae;clear ae;refine hK _ _ (λ_=>⟨x0,x1,x2,y0,y1,y2⟩) ?_;clear hK K;try simp only[UU]
   refine aI rfl rfl (λK hK=>?_);go_simp;with_reducible refine(G2.out _).mono ?_
   rintro e lf ⟨rfl,hq⟩;have ae:Bw jA lf:=by first|exact hq|exact aM hq
   clear x0 aW x1 aX x2 bi y0 aP y1 aQ y2 aS r0 ai r1 aj r2 aC;replace Hx:=kB Hx ae;replace Hy:=kB Hy ae;replace Hr:=kB Hr ae;obtain⟨x0,aW,x1,aX,x2,bi⟩:=Hx.out.g3;obtain⟨y0,aP,y1,aQ,y2,aS⟩:=Hy.out.g3;obtain⟨r0,ai,r1,aj,r2,aC⟩:=Hr.out.g3;replace Hb:=au Hb ae;clear ae;refine hK _ _ (λ_=>⟨x0,x1,x2,y0,y1,y2⟩) ?_;clear hK K;try simp only[UU]
   refine aI rfl rfl (λK hK=>?_);go_simp;with_reducible refine(G3.out _).mono ?_
   rintro e oN ⟨rfl,hq⟩;have ae:Bw lf oN:=by first|exact hq|exact aM hq
   clear x0 aW x1 aX x2 bi y0 aP y1 aQ y2 aS r0 ai r1 aj r2 aC;replace Hx:=kB Hx ae;replace Hy:=kB Hy ae;replace Hr:=kB Hr ae;obtain⟨x0,aW,x1,aX,x2,bi⟩:=Hx.out.g3;obtain⟨y0,aP,y1,aQ,y2,aS⟩:=Hy.out.g3;obtain⟨r0,ai,r1,aj,r2,aC⟩:=Hr.out.g3;replace Hb:=au Hb ae;clear ae;refine hK _ _ (λ_=>⟨x0,x1,x2,y0,y1,y2⟩) ?_;clear hK K;try simp only[UU]
   refine aI rfl rfl (λK hK=>?_);go_simp;refine hK _ _ (λh=>absurd h zd) ?_;clear hK K;try simp only[UU]
   clear x0 aW x1 aX x2 bi y0 aP y1 aQ y2 aS r0 ai r1 aj r2 aC;refine bN (bz oN (w.heap.size+1+1) 0 [.bool (ar (dN S)),.string (bs (nt (dN S).natAbs)),.int .i64 (dE S)]) bF ?_;intro w19 hs;replace Hx:=kS Hx hs zo;replace Hy:=kS Hy hs zo;replace Hr:=bX Hr hs;obtain⟨x0,aW,x1,aX,x2,bi⟩:=Hx.out.g3;obtain⟨y0,aP,y1,aQ,y2,aS⟩:=Hy.out.g3;obtain⟨r0,ai,r1,aj,r2,aC⟩:=Hr.out.g3;replace Hb:=bS Hb hs ZS;clear hs;simp only[aU];go_wp2;refine bodyPost_ret (v:=bC S) (by simp[results,Tryz.results54,go_sem,r0,r1,r2]) rfl ⟨rfl,?_⟩;(repeat first|exact Hb.out| (refine Below.setCell ?_ (by have:=Hb.out.size;first| (dsimp only;omega) | (show _<=_;omega) | (simp<;>omega)) _) | (refine Below.alloc ?_ zt _) |refine Below.drew ?_)
theorem II (s:Bool)(l:List UInt8)(e:Int)(t:Bool)(m:List UInt8)(f:Int)(S:Dyadic)(hS:az (s,l,e)-az (t,m,f)=S)(w:World)(hx:dV (s,l,e))(hy:dV (t,m,f))(pI:dV (canon (-az (t,m,f)))):
 Calls Tryz.prog 51 #[.agg #[.bool s,.string (bs l),.int .i64 e],.agg #[.bool t,.string (bs m),.int .i64 f]] w λex w'=>ex=.returned (bC S)/\Bw w w':=by
 obtain⟨N,hN⟩:=aB (-az (t,m,f));rw[hN]at pI;have h1:=λW=>Yh t m f N hN W hy;have h2:=λW=>Eu s l e (ar (dN N)) (nt (dN N).natAbs) (dE N) S (by show _+az (canon N)=_;rw[bU,<-hN,<-hS];grind) W hx pI;obtain⟨H1,H2⟩:=aL h1 h2;clear h1 h2 hN pI hS hx hy;obtain⟨W,dc,Hb,Hx,Hy,Hr⟩:=rq w 30 [.bool s,.string (bs l),.int .i64 e] 30 [.bool t,.string (bs m),.int .i64 f] 30 [.bool false,.string ⟨#[]⟩,.int .i64 0];obtain⟨x0,x1,x2⟩:=Hx.out.c3;obtain⟨y0,y1,y2⟩:=Hy.out.c3;obtain⟨r0,ai,r1,aj,r2,aC⟩:=Hr.out.g3;go_enter Tryz.func51,Tryz.ntmps51;go_wp2_with fail;refine bJ (λw'=>w'.cell? ⟨w.heap.size,0,none⟩=some (.bool s)/\w'.cell? ⟨w.heap.size,1,none⟩=some (.string (bs l))/\w'.cell? ⟨w.heap.size,2,none⟩=some (.int .i64 e)/\w'.cell? ⟨w.heap.size+1,0,none⟩=some (.bool t)/\w'.cell? ⟨w.heap.size+1,1,none⟩=some (.string (bs m))/\w'.cell? ⟨w.heap.size+1,2,none⟩=some (.int .i64 f)) (λi=>Nat.blt i 4) [(0,true),(1,true),(2,false),(3,false),(4,false)] zk zk rfl zk zc ⟨x0,x1,x2,y0,y1,y2⟩ ?_;iterate 2 (refine pT rfl rfl ?_ (by intro w' ⟨q0,q1,q2,q3,q4,q5⟩;go_simp;try with_reducible rfl);try simp only[UU])
 refine aI rfl rfl (λK hK=>?_);go_simp;with_reducible refine(H1.out _).mono ?_
 rintro e w1 ⟨rfl,hq⟩;have ae:Bw W w1:=by first|exact hq|exact aM hq
 clear x0 x1 x2 y0 y1 y2 r0 ai r1 aj r2 aC;replace Hx:=kB Hx ae;replace Hy:=kB Hy ae;replace Hr:=kB Hr ae;obtain⟨x0,x1,x2⟩:=Hx.out.c3;obtain⟨y0,y1,y2⟩:=Hy.out.c3;obtain⟨r0,ai,r1,aj,r2,aC⟩:=Hr.out.g3;replace Hb:=au Hb ae;clear ae;refine hK _ _ (λ_=>⟨x0,x1,x2,y0,y1,y2⟩) ?_;clear hK K;try simp only[UU]
 refine aI rfl rfl (λK hK=>?_);go_simp;with_reducible refine(H2.out _).mono ?_
 rintro e w2 ⟨rfl,hq⟩;have ae:Bw w1 w2:=by first|exact hq|exact aM hq
 clear x0 x1 x2 y0 y1 y2 r0 ai r1 aj r2 aC;replace Hx:=kB Hx ae;replace Hy:=kB Hy ae;replace Hr:=kB Hr ae;obtain⟨x0,x1,x2⟩:=Hx.out.c3;obtain⟨y0,y1,y2⟩:=Hy.out.c3;obtain⟨r0,ai,r1,aj,r2,aC⟩:=Hr.out.g3;replace Hb:=au Hb ae;clear ae;refine hK _ _ (λ_=>⟨x0,x1,x2,y0,y1,y2⟩) ?_;clear hK K;try simp only[UU]
 refine aI rfl rfl (λK hK=>?_);go_simp;refine hK _ _ (λh=>absurd h zd) ?_;clear hK K;try simp only[UU]
 clear x0 x1 x2 y0 y1 y2 r0 ai r1 aj r2 aC;refine bN (bz w2 (w.heap.size+1+1) 0 [.bool (ar (dN S)),.string (bs (nt (dN S).natAbs)),.int .i64 (dE S)]) bF ?_;intro w9 hs;replace Hx:=kS Hx hs zo;replace Hy:=kS Hy hs zo;replace Hr:=bX Hr hs;obtain⟨x0,x1,x2⟩:=Hx.out.c3;obtain⟨y0,y1,y2⟩:=Hy.out.c3;obtain⟨r0,ai,r1,aj,r2,aC⟩:=Hr.out.g3;replace Hb:=bS Hb hs ZS;clear hs;simp only[aU];go_wp2;refine bodyPost_ret (v:=bC S) (by simp[results,Tryz.results51,go_sem,r0,r1,r2]) rfl ⟨rfl,?_⟩;(repeat first|exact Hb.out| (refine Below.setCell ?_ (by have:=Hb.out.size;first| (dsimp only;omega) | (show _<=_;omega) | (simp<;>omega)) _) | (refine Below.alloc ?_ zt _) |refine Below.drew ?_)
theorem ajS (s:Bool)(l:List UInt8)(e:Int)(t:Bool)(m:List UInt8)(f:Int)(c:Int)(hc:cw (az (s,l,e)-az (t,m,f))=c)(w:World)(hx:dV (s,l,e))(hy:dV (t,m,f))(pI:dV (canon (-az (t,m,f)))):
 Calls Tryz.prog 49 #[.agg #[.bool s,.string (bs l),.int .i64 e],.agg #[.bool t,.string (bs m),.int .i64 f]] w λex w'=>ex=.returned (.int .i64 c)/\Bw w w':=by
 obtain⟨S,hS⟩:=aB (az (s,l,e)-az (t,m,f));have hs:Sm 262145 S:=by rw[<-hS];exact Sm.sub hx.sm hy.sm
 have h1:=λW=>II s l e t m f S hS W hx hy pI;rw[hS]at hc;have h2:=λW=>AE (ar (dN S)) (nt (dN S).natAbs) (dE S) c (by show cw (az (canon S))=_;rw[bU];exact hc) W (Nat.le_trans (jK (N:=65537) hs.parts.1 zo) zo);obtain⟨H1,H2⟩:=aL h1 h2;clear h1 h2 hS hs hc pI hx hy;obtain⟨W,dc,Hb,Hx,Hy⟩:=nO w 30 [.bool s,.string (bs l),.int .i64 e] 30 [.bool t,.string (bs m),.int .i64 f];obtain⟨x0,x1,x2⟩:=Hx.out.c3;obtain⟨y0,y1,y2⟩:=Hy.out.c3;go_enter Tryz.func49,Tryz.ntmps49;go_wp2_with fail;refine(H1.out _).mono ?_;rintro e w1 ⟨rfl,ae⟩;clear x0 x1 x2 y0 y1 y2;replace Hx:=kB Hx ae;replace Hy:=kB Hy ae;obtain⟨x0,x1,x2⟩:=Hx.out.c3;obtain⟨y0,y1,y2⟩:=Hy.out.c3;replace Hb:=au Hb ae;clear ae;go_wp2_with fail;refine(H2.out _).mono ?_;rintro e w2 ⟨rfl,ae⟩;clear x0 x1 x2 y0 y1 y2;replace Hx:=kB Hx ae;replace Hy:=kB Hy ae;obtain⟨x0,x1,x2⟩:=Hx.out.c3;obtain⟨y0,y1,y2⟩:=Hy.out.c3;replace Hb:=au Hb ae;clear ae;go_wp2;go_ret;exact⟨rfl,Hb.out⟩
abbrev je (B:Nat)(x:Raw):Prop:=dV x/\Sm B (az x)
theorem je.mono {B B':Nat}{x:Raw}(h:je B x)(hb:B<=B'):je B' x:=⟨h.1,h.2.mono hb⟩
theorem je.canon {B:Nat}{d:Dyadic}(h:Sm B d)(hB:B<=16384):je B (canon d):=⟨h.apj hB,by rw[bU];exact h⟩
theorem ako (a:Option Addr)(n cap:Nat)(P:List Raw)(a':Option Addr)(cap':Nat)(Q:List Raw)(B:Nat)(w:World)(hP:P.length=n)(hQ:Q.length=n)(hn:n<=8)(ha:At w a (P.flatMap bo))(ha':At w a' (Q.flatMap bo))
 (xB:∀x∈P,je B x) (xC:∀x∈Q,je B x) (hB:B<=4000):
 Calls Tryz.prog 50 #[.slice a n cap,.slice a' n cap'] w λe w'=>e=.returned (bC (mR (P.map az) (Q.map az) n))/\Bw w w':=by
 have DC:∀c∈P.map az,Sm B c:=λc hc=>by obtain⟨x,hx,rfl⟩:=List.mem_map.1 hc;exact(xB x hx).2
 have DF:∀c∈Q.map az,Sm B c:=λc hc=>by obtain⟨x,hx,rfl⟩:=List.mem_map.1 hc;exact(xC x hx).2
 have lM:=λk=>IK DC DF k;have hstep:∀k (h1:k<P.length) (h2:k<Q.length),mR (P.map az) (Q.map az) (k+1)=mR (P.map az) (Q.map az) k+(az P[k]-az Q[k]) * (az P[k]-az Q[k]):=λk h1 h2=>by
  have e1:(P.map az).getD k 0=az P[k]:=by simp[h1]
  have e2:(Q.map az).getD k 0=az Q[k]:=by simp[h2]
  rw[mR,e1,e2]
 have hs0:mR (P.map az) (Q.map az) 0=0:=rfl;obtain⟨F,hF⟩:=aB (mR (P.map az) (Q.map az));rw[hF]at hs0⊢;simp only[hF]at lM hstep;obtain⟨HP,HQ,Ha,oQ,BA,wN,Ks,fU,nV⟩:=Ig hP hQ ha ha' xB xC lM hstep hs0;clear hP hQ ha ha' xB xC lM hstep hs0 hF DC DF;obtain⟨W,dc,Hb,Hr,Hs⟩:=nO w 30 [.bool false,.string ⟨#[]⟩,.int .i64 0] 30 [.bool false,.string ⟨#[]⟩,.int .i64 0];obtain⟨r0,ai,r1,aj,r2,aC⟩:=Hr.out.g3;obtain⟨s0,bH,s1,bI,s2,bY⟩:=Hs.out.g3;go_enter Tryz.func50,Tryz.ntmps50;go_wp2_with fail;clear r0 ai r1 aj r2 aC s0 bH s1 bI s2 bY;first|refine bO (bz W (w.heap.size+1) 0 [.bool false,.string ⟨#[]⟩,.int .i64 0]) bF ?_|refine bK (bz W (w.heap.size+1) 0 [.bool false,.string ⟨#[]⟩,.int .i64 0]) bF ?_
 intro w1 hs;replace Hr:=kS Hr hs zo;replace Hs:=bX Hs hs;obtain⟨r0,ai,r1,aj,r2,aC⟩:=Hr.out.g3;obtain⟨s0,bH,s1,bI,s2,bY⟩:=Hs.out.g3;replace Hb:=bS Hb hs ZS;clear hs;have lr:=Hr.out.lt;have ls:=Hs.out.lt;go_wp2_with fail;go_loopw[6] (λi wr=>∃(k:Nat) (X:Dyadic),k<=n/\i=.int .i64 (k:Int)/\F k=X/\ak wr w.heap.size 30 [.bool false,.string ⟨#[]⟩,.int .i64 0]/\ak wr (w.heap.size+1) 30 (bo (canon X))/\Bw w wr) (λi _=>n-(intOf i).toNat);case atStart=>exact⟨0,0,Nat.zero_le _,rfl,nV.out,Hr.out,Hs.out,Hb.out⟩
 case round=>
  clear r0 r1 r2 ai aj aC s0 s1 s2 bH bI bY Hr Hs;obtain⟨k,X,hk,rfl,hX,pr,ps,pb⟩:=hrel;by_cases hlt:k<n
  . have k1:k<P.length:=by rw[HP.out];exact hlt
    have k2:k<Q.length:=by rw[HQ.out];exact hlt
    obtain⟨sp,mp,ep,dZ⟩:=iA (P[k]);obtain⟨sq,mq,eq,fX⟩:=iA (Q[k]);have df:=BA.out _ (List.getElem_mem k1);have ez:=wN.out _ (List.getElem_mem k2);have hst:=fU.out k k1 k2;rw[dZ]at df hst;rw[fX]at ez hst;obtain⟨D,hD⟩:=aB (az (sp,mp,ep)-az (sq,mq,eq));obtain⟨E,hE⟩:=aB (D*D);obtain⟨Y,hY⟩:=aB (X+E);rw[hX,hD,hE,hY]at hst;have fG:Sm (B+1) D:=by rw[<-hD];exact Sm.sub df.2 ez.2
    have rQ:Sm (2*B+2) E:=by rw[<-hE];exact(Sm.mul fG fG).mono zo
    have fD:Sm (2*B+2+k) X:=by rw[<-hX];exact Ks.out k
    obtain⟨b1,o1,bW,p0,p1,p2⟩:=(Ha.out.below pb).num k k1 dZ;obtain⟨b2,o2,dm,q0,q1,q2⟩:=(oQ.out.below pb).num k k2 fX;have iB:=iZ n cap k (k:Int) bW hlt rfl;have kN:=iZ n cap' k (k:Int) dm hlt rfl;have Hp:Hid (aV wr b1 (o1+k*3) [.bool sp,.string (bs mp),.int .i64 ep]):=fS p0 p1 p2;have Hq:Hid (aV wr b2 (o2+k*3) [.bool sq,.string (bs mq),.int .i64 eq]):=fS q0 q1 q2;obtain⟨iH,jT,HD,HE,HY,cd,Jf,Jh,uz,Hr⟩:=xY df ez hD hE hY hst fG rQ fD pr;have Hs:Hid (ak wr (w.heap.size+1) 30 [.bool (ar (dN X)),.string (bs (nt (dN X).natAbs)),.int .i64 (dE X)]):=ps;have fT:=ah pb;have Px:=pb.size;clear pr ps pb df ez hst hD hE hY fG rQ fD p0 p1 p2 q0 q1 q2 dZ fX hX bW dm;have Hb:Hid (Bw wr wr):=Below.refl _ _;go_upto_region 5 with fail
    go_cut[7] (λs7 wx=>∃g:Nat,s7=.pointer (some ⟨g,0,none⟩)/\wr.heap.size<=g/\ak wx g 30 [.bool (ar (dN D)),.string (bs (nt (dN D).natAbs)),.int .i64 (dE D)]/\Bw wr wx);case first=>
     have p0:wr.cell? ⟨b1,o1+k*3,none⟩=some (.bool sp):=Hp.out.cell 0 zm;have p1:wr.cell? ⟨b1,o1+k*3+1,none⟩=some (.string (bs mp)):=Hp.out.cell 1 zm;have p2:wr.cell? ⟨b1,o1+k*3+2,none⟩=some (.int .i64 ep):=Hp.out.cell 2 zm;have q0:wr.cell? ⟨b2,o2+k*3,none⟩=some (.bool sq):=Hq.out.cell 0 zm;have q1:wr.cell? ⟨b2,o2+k*3+1,none⟩=some (.string (bs mq)):=Hq.out.cell 1 zm;have q2:wr.cell? ⟨b2,o2+k*3+2,none⟩=some (.int .i64 eq):=Hq.out.cell 2 zm;obtain⟨p0,p1,p2⟩:=Hp.out.w3;obtain⟨q0,q1,q2⟩:=Hq.out.w3;refine IZ (λw'=>w'.cell? ⟨b1,o1+k*3,none⟩=some (.bool sp)/\w'.cell? ⟨b1,o1+k*3+1,none⟩=some (.string (bs mp))/\w'.cell? ⟨b1,o1+k*3+2,none⟩=some (.int .i64 ep)/\w'.cell? ⟨b2,o2+k*3,none⟩=some (.bool sq)/\w'.cell? ⟨b2,o2+k*3+1,none⟩=some (.string (bs mq))/\w'.cell? ⟨b2,o2+k*3+2,none⟩=some (.int .i64 eq)) (λi=>Nat.blt i 10) 8 9 [(9,false),(10,false)] [(8,false),(10,false)] [0,1,2,3,4,5,6,7] zk zk rfl rfl zk zc ⟨p0,p1,p2,q0,q1,q2⟩ ?_;iterate 8 (refine IE rfl rfl (v:=?_) (λw' hw'=>?_) ?_;rotate_left;(focus obtain⟨q0,q1,q2,q3,q4,q5⟩:=hw';go_simp;try with_reducible rfl);try simp only[UU])
     refine ID rfl rfl rfl rfl (λK hK=>?_) (λK hK=>?_)
     . go_simp;with_reducible refine(II sp mp ep sq mq eq D HD.out _ iH.out.1 jT.out.1 (Sm.apj (Sm.neg jT.out.2) zo)).mono ?_
       rintro e w5 ⟨rfl,hq⟩;have bT:Bw wr w5:=aM hq;refine hK _ _ ⟨cell_later bT p0,cell_later bT p1,cell_later bT p2,cell_later bT q0,cell_later bT q1,cell_later bT q2⟩ ?_;try simp only[UU]
       refine aI rfl rfl (λK hK=>?_);go_simp;refine hK _ _ (λ_=>⟨aG (cell_later bT p0),aG (cell_later bT p1),aG (cell_later bT p2),aG (cell_later bT q0),aG (cell_later bT q1),aG (cell_later bT q2)⟩) ?_;try simp only[UU]
       refine aI rfl rfl (λK hK=>?_);go_simp;refine hK _ _ (λh=>absurd h zd) ?_;simp only[aU];go_wp2_with fail;go_meet;exact⟨w5.heap.size,rfl,bT.size,ak.new _ _ _,bT.alloc bT.size _⟩
     . go_simp;refine hK _ _ ⟨aG p0,aG p1,aG p2,aG q0,aG q1,aG q2⟩ ?_;try simp only[UU]
       refine aI rfl rfl (λK hK=>?_);go_simp;with_reducible refine(II sp mp ep sq mq eq D HD.out _ iH.out.1 jT.out.1 (Sm.apj (Sm.neg jT.out.2) zo)).mono ?_
       rintro e w5 ⟨rfl,hq⟩;have bT:Bw wr w5:=pj hq;have Hn:ak w5 wr.heap.size 30 [.bool false,.string ⟨#[]⟩,.int .i64 0]:=ak.below (ak.new wr.drew 30 [.bool false,.string ⟨#[]⟩,.int .i64 0]) hq;obtain⟨n0,fN,n1,fO,n2,fP⟩:=Hn.g3;refine hK _ _ (λ_=>⟨cell_later bT p0,cell_later bT p1,cell_later bT p2,cell_later bT q0,cell_later bT q1,cell_later bT q2⟩) ?_;try simp only[UU]
       refine aI rfl rfl (λK hK=>?_);go_simp;refine hK _ _ (λh=>absurd h zd) ?_;simp only[aU];go_wp2_with fail;go_meet;exact⟨wr.heap.size,rfl,Nat.le_refl _,((Hn.set 0 _).set 1 _).set 2 _,((bT.sc wr.heap.size 0 (Nat.le_refl _) _).sc wr.heap.size 1 (Nat.le_refl _) _).sc wr.heap.size 2 (Nat.le_refl _) _⟩
    case rest=>
     obtain⟨g,rfl,hg,qd,qb⟩:=hcut;have wM:Hid (dV (ar (dN D),nt (dN D).natAbs,dE D)):=Sm.apj Jf.out zo;have JM:Hid (dV (ar (dN X),nt (dN X).natAbs,dE X)):=Sm.apj uz.out zo;have JL:Hid (dV (ar (dN E),nt (dN E).natAbs,dE E)):=Sm.apj Jh.out zo;have JX:Hid (az (ar (dN D),nt (dN D).natAbs,dE D) *az (ar (dN D),nt (dN D).natAbs,dE D)=E):=by show az (canon D) *az (canon D)=E;rw[bU];exact HE.out
     have Js:Hid (az (ar (dN X),nt (dN X).natAbs,dE X)+az (ar (dN E),nt (dN E).natAbs,dE E)=Y):=by show az (canon X)+az (canon E)=Y;rw[bU,bU];exact HY.out
     have NN:=Hs.out.lt;replace Hr:=ah (Hr.out.below qb);replace Hs:=ah (Hs.out.below qb);have Hd:=ah qd;clear Hb;have Hb:=ah (aJ fT.out qb);have lg:=Hd.out.lt;clear qd qb;obtain⟨r0,r1,r2⟩:=Hr.out.c3;obtain⟨s0,bH,s1,bI,s2,bY⟩:=Hs.out.g3;obtain⟨d0,d1,d2⟩:=Hd.out.c3;go_wp2_with fail;refine bJ (λw'=>w'.cell? ⟨w.heap.size+1,0,none⟩=some (.bool (ar (dN X)))/\w'.cell? ⟨w.heap.size+1,1,none⟩=some (.string (bs (nt (dN X).natAbs)))/\w'.cell? ⟨w.heap.size+1,2,none⟩=some (.int .i64 (dE X))/\w'.cell? ⟨g,0,none⟩=some (.bool (ar (dN D)))/\w'.cell? ⟨g,1,none⟩=some (.string (bs (nt (dN D).natAbs)))/\w'.cell? ⟨g,2,none⟩=some (.int .i64 (dE D))) (λi=>Nat.blt i 5) [(0,true),(1,true),(2,true),(3,false),(4,false),(5,false)] zk zk rfl zk zc ⟨s0,s1,s2,d0,d1,d2⟩ ?_;iterate 3 (refine pT rfl rfl ?_ (by intro w' ⟨q0,q1,q2,q3,q4,q5⟩;go_simp;try with_reducible rfl);try simp only[UU])
     refine aI rfl rfl (λK hK=>?_);go_simp;with_reducible refine(OQ _ _ _ _ _ _ E JX.out _ wM.out wM.out).mono ?_
     rintro e w7 ⟨rfl,hq⟩;have ae:Bw wc w7:=by first|exact hq|exact aM hq
     clear r0 r1 r2 s0 bH s1 bI s2 bY d0 d1 d2;replace Hr:=kB Hr ae;replace Hs:=kB Hs ae;replace Hd:=kB Hd ae;obtain⟨r0,r1,r2⟩:=Hr.out.c3;obtain⟨s0,bH,s1,bI,s2,bY⟩:=Hs.out.g3;obtain⟨d0,d1,d2⟩:=Hd.out.c3;replace Hb:=au Hb ae;clear ae;refine hK _ _ (λ_=>⟨s0,s1,s2,d0,d1,d2⟩) ?_;clear hK K;try simp only[UU]
     refine aI rfl rfl (λK hK=>?_);go_simp;with_reducible refine(Eu _ _ _ _ _ _ Y Js.out _ JM.out JL.out).mono ?_
     rintro e w9 ⟨rfl,hq⟩;have ae:Bw w7 w9:=by first|exact hq|exact aM hq
     clear r0 r1 r2 s0 bH s1 bI s2 bY d0 d1 d2;replace Hr:=kB Hr ae;replace Hs:=kB Hs ae;replace Hd:=kB Hd ae;obtain⟨r0,r1,r2⟩:=Hr.out.c3;obtain⟨s0,bH,s1,bI,s2,bY⟩:=Hs.out.g3;obtain⟨d0,d1,d2⟩:=Hd.out.c3;replace Hb:=au Hb ae;clear ae;refine hK _ _ (λ_=>⟨s0,s1,s2,d0,d1,d2⟩) ?_;clear hK K;try simp only[UU]
     refine aI rfl rfl (λK hK=>?_);go_simp;refine hK _ _ (λh=>absurd h zd) ?_;clear hK K;try simp only[UU]
     clear r0 r1 r2 s0 bH s1 bI s2 bY d0 d1 d2;refine bN (bz w9 (w.heap.size+1) 0 [.bool (ar (dN Y)),.string (bs (nt (dN Y).natAbs)),.int .i64 (dE Y)]) bF ?_;intro eY hs;replace Hr:=kS Hr hs zo;replace Hs:=bX Hs hs;replace Hd:=kS Hd hs zo;obtain⟨r0,r1,r2⟩:=Hr.out.c3;obtain⟨s0,bH,s1,bI,s2,bY⟩:=Hs.out.g3;obtain⟨d0,d1,d2⟩:=Hd.out.c3;replace Hb:=bS Hb hs ZS;clear hs;simp only[aU];go_wp2;go_roundw;case rel=>exact⟨k+1,Y,by omega,by go_num,cd.out,Hr.out,Hs.out,Hb.out⟩
     case measure=>simp[intOf];omega
  . obtain rfl:k=n:=by omega
    have Hr:=ah pr;have Hs:Hid (ak wr (w.heap.size+1) 30 [.bool (ar (dN X)),.string (bs (nt (dN X).natAbs)),.int .i64 (dE X)]):=ps;have HX:=ah hX;replace Hb:=ah pb;clear pr ps pb hX;obtain⟨r0,ai,r1,aj,r2,aC⟩:=Hr.out.g3;obtain⟨s0,s1,s2⟩:=Hs.out.c3;go_wp2;clear r0 ai r1 aj r2 aC s0 s1 s2;refine fF (bz wr (w.heap.size) 0 [.bool (ar (dN X)),.string (bs (nt (dN X).natAbs)),.int .i64 (dE X)]) bF ?_;intro w9 hs;replace Hr:=bX Hr hs;replace Hs:=kS Hs hs zo;obtain⟨r0,ai,r1,aj,r2,aC⟩:=Hr.out.g3;obtain⟨s0,s1,s2⟩:=Hs.out.c3;replace Hb:=bS Hb hs ZS;clear hs;refine bodyPost_ret (v:=bC X) (by simp[results,Tryz.results50,go_sem,r0,r1,r2]) rfl ⟨by rw[HX.out],Hb.out⟩
theorem akp (rows:List (List Raw))(n B x y:Nat)(a:Option Addr)(cap:Nat)(a':Option Addr)(cap':Nat)(D:Dyadic)(w:World)(hx:x<rows.length)(hy:y<rows.length)(hn:n<=8)(hrow:∀r∈rows,r.length=n)(hfit:∀r∈rows,∀c∈r,je B c)(hB:B<=4000)
 (hD:eX rows n x y=D) (ha:At w a (rows[x].flatMap bo)) (ha':At w a' (rows[y].flatMap bo)):
 Calls Tryz.prog 50 #[.slice a n cap,.slice a' n cap'] w λe w'=>e=.returned (bC D)/\Bw w w':=by
 have h1:=hrow _ (List.getElem_mem hx);have h2:=hrow _ (List.getElem_mem hy);have e1:rows.getD x []=rows[x]:=by simp[hx]
 have e2:rows.getD y []=rows[y]:=by simp[hy]
 unfold eX at hD;rw[e1,e2]at hD;rw[<-hD];exact ako a n cap rows[x] a' cap' rows[y] B w h1 h2 hn ha ha' (hfit _ (List.getElem_mem hx)) (hfit _ (List.getElem_mem hy)) hB
theorem akS {rows:List (List Raw)}{n B:Nat}(hfit:∀r∈rows,∀c∈r,je B c)(x y:Nat):Sm (2*B+2+n) (eX rows n x y):=by
 have h:∀z,∀c∈(rows.getD z []).map az,Sm B c:=λz c hc=>by
  obtain⟨u,hu,rfl⟩:=List.mem_map.1 hc;by_cases hz:z<rows.length
  . have e:rows.getD z []=rows[z]:=by simp[hz]
    rw[e]at hu;exact(hfit _ (List.getElem_mem hz) u hu).2
  . have e:rows.getD z []=[]:=by simp[List.getD_eq_getElem?_getD,List.getElem?_eq_none (by omega:rows.length<=z)]
    rw[e]at hu;cases hu
 exact IK (h x) (h y) n
theorem aln (rows:List (List Raw))(L n B x y:Nat)(a:Option Addr)(Y:Dyadic)(w:World)(hL:rows.length=L)(hx:x<L)(hy:y<L)(hn:n<=8)(hrow:∀r∈rows,r.length=n)(hfit:∀r∈rows,∀c∈r,je B c)(hB:B<=4000)(ha:aR w a rows)(hY:eX rows n x y=Y):
 ∃b o a1 c1 a2 c2,a=some ⟨b,o,none⟩/\aV w b (o+x) [.slice a1 n c1]/\aV w b (o+y) [.slice a2 n c2]/\
  ∀W,Bw w W->Calls Tryz.prog 50 #[.slice a1 n c1,.slice a2 n c2] W λe w'=>e=.returned (bC Y)/\Bw W w':=by
 have hx1:x<rows.length:=by omega
 have hy1:y<rows.length:=by omega
 obtain⟨b0,o0,a1,c1,dA,hc0,fH⟩:=ha.row x hx1;obtain⟨dx,dU,a2,c2,bW,hc1,gL⟩:=ha.row y hy1;obtain⟨rfl,rfl⟩:dx=b0/\dU=o0:=by rw[dA]at bW;simp at bW;exact⟨bW.1.symm,bW.2.symm⟩
 rw[hrow _ (List.getElem_mem hx1)]at hc0;rw[hrow _ (List.getElem_mem hy1)]at hc1;refine⟨dx,dU,a1,c1,a2,c2,dA,λj hj=>?_,λj hj=>?_,λW hW=>akp rows n B x y a1 c1 a2 c2 Y W hx1 hy1 hn hrow hfit hB hY (fH.below hW) (gL.below hW)⟩
 . obtain rfl:j=0:=by simp at hj;omega
   exact hc0
 . obtain rfl:j=0:=by simp at hj;omega
   exact hc1
theorem Yf (a:Option Addr)(L cap n:Nat)(rows:List (List Raw))(B i j:Nat)(X:Dyadic)(w:World)(hL:rows.length=L)(hL2:2<=L)(uS:L<=9)(hn:n<=8)(hrow:∀r∈rows,r.length=n)(ha:aR w a rows)
 (hfit:∀r∈rows,∀c∈r,je B c) (hB:B<=4000) (hF:gP (eX rows n) L=(i,j,X)):
 Calls Tryz.prog 19 #[.slice a L cap] w λe w'=>e=.returned (.tuple #[.int .i64 (i:Int),.int .i64 (j:Int),bC X])/\Bw w w':=by
 have Nq:=λx y Y W (hx:x<L) (hy:y<L) (hY:eX rows n x y=Y) (hW:Bw w W)=>aln rows L n B x y a Y W hL hx hy hn hrow hfit hB (ha.below hW) hY;have MN:∀b o,a=some ⟨b,o,none⟩->b<w.heap.size:=λb o e=>by obtain⟨b',o',_,_,h1,h2,_⟩:=ha.row 0 zo;rw[e]at h1;simp only[Option.some.injEq,Addr.mk.injEq,and_true]at h1;rw[h1.1];exact World.block_lt_of_cell? w _ h2
 have aaT:=ah MN;clear MN;have hsm:∀x y,Sm (2*B+10) (eX rows n x y):=λx y=>(akS hfit x y).mono zo;obtain⟨sq,lM⟩:=aB (eX rows n);simp only[lM]at Nq hsm;rw[lM]at hF;have zF:nK sq L (L-0) 0 (0,1,sq 0 1)=(i,j,X):=hF;obtain⟨KB,tG,HF⟩:=cL Nq hsm zF;clear hL ha hsm Nq hF zF hfit hrow lM;obtain⟨W,dc,Hb,Hr⟩:=iF w 30 [.bool false,.string ⟨#[]⟩,.int .i64 0];obtain⟨r0,ai,r1,aj,r2,aC⟩:=Hr.out.g3;go_enter Tryz.func19,Tryz.ntmps19;have lr:=Hr.out.lt;go_wp2_with fail;clear r0 r1 r2 ai aj aC;go_loopw[5,6,7] (λs5 s6 x wr=>∃(k:Nat) (s:Nat×Nat×Dyadic),k<=L/\s5=.int .i64 (s.1:Int)/\s6=.int .i64 (s.2.1:Int)/\x=.int .i64 (k:Int)/\nK sq L (L-k) k s=(i,j,X)/\(s.1<L/\s.2.1<L/\s.2.2=sq s.1 s.2.1)/\ak wr w.heap.size 30 [.bool false,.string ⟨#[]⟩,.int .i64 0]/\Bw w wr) (λ_ _ x _=>L-(intOf x).toNat);case atStart=>exact⟨0,(0,1,sq 0 1),Nat.zero_le _,rfl,rfl,rfl,HF.out,⟨by show 0<L;omega,by show 1<L;omega,rfl⟩,Hr.out,Hb.out⟩
 case round=>
  clear Hr Hb HF;obtain⟨k,s,hk,rfl,rfl,rfl,hF,hs,pr,pb⟩:=hrel;by_cases hlt:k<L
  . obtain⟨Hr,Hb,Hs⟩:=cL pr pb hs;have AY:Hid (nK sq L (L-(k+1)) (k+1) (su sq k (L-(k+1)) (k+1) s)=(i,j,X)):=by rw[show L-k=L-(k+1)+1 by omega]at hF;exact hF
    clear pr pb hs hF;obtain⟨wo,hwo⟩:∃wo,wo=wr:=⟨_,rfl⟩;subst hwo;go_wp2_with fail;go_loopw[5,6,8] (λs5 s6 x wr=>∃(b:Nat) (s:Nat×Nat×Dyadic),b<=L/\k<b/\s5=.int .i64 (s.1:Int)/\s6=.int .i64 (s.2.1:Int)/\x=.int .i64 (b:Int)/\nK sq L (L-(k+1)) (k+1) (su sq k (L-b) b s)=(i,j,X)/\(s.1<L/\s.2.1<L/\s.2.2=sq s.1 s.2.1)/\ak wr w.heap.size 30 [.bool false,.string ⟨#[]⟩,.int .i64 0]/\Bw w wr) (λ_ _ x _=>L-(intOf x).toNat);case atStart=>exact⟨k+1,s,by omega,by omega,rfl,rfl,by go_num,AY.out,Hs.out,Hr.out,Hb.out⟩
    case round=>
     clear Hr Hb AY Hs;obtain⟨b,s,hb1,hb2,rfl,rfl,rfl,hF,hs,pr,pb⟩:=hrel;obtain⟨Hr,Hb,AX⟩:=cL pr pb hF;obtain⟨si,sj,sx⟩:=s;obtain⟨DG,hsj,oG⟩:=hs;dsimp only at DG hsj oG;clear pr pb hF;by_cases bj:b<L
     . obtain⟨Y,hY⟩:=aB (sq k b);obtain⟨b0,o0,a1,c1,a2,c2,dA,hu,hv,hq1⟩:=KB.out k b Y wr hlt bj hY Hb.out;obtain⟨dx,dU,a3,c3,a4,c4,bW,hp,hq,hq2⟩:=KB.out si sj sx wr DG hsj oG.symm Hb.out;obtain⟨rfl,rfl⟩:dx=b0/\dU=o0:=by rw[dA]at bW;simp at bW;exact⟨bW.1.symm,bW.2.symm⟩
       clear bW;have i0:=fE L cap k (k:Int) dA hlt rfl;have i1:=fE L cap b (b:Int) dA bj rfl;have i2:=fE L cap si (si:Int) dA DG rfl;have i3:=fE L cap sj (sj:Int) dA hsj rfl;rw[Nat.mul_one]at i0 i1 i2 i3;have rS:=tG.out k b;have jZ:=tG.out si sj;rw[hY]at rS;rw[<-oG]at jZ;obtain⟨c,hc⟩:=aB (cw (Y-sx));have hcm:=λW=>ajS (ar (dN Y)) (nt (dN Y).natAbs) (dE Y) (ar (dN sx)) (nt (dN sx).natAbs) (dE sx) c (by show cw (az (canon Y)-az (canon sx))=c;rw[bU,bU];exact hc) W (rS.apj zo) (jZ.apj zo) (Sm.apj (B:=2*B+10) (by show Sm _ (-az (canon sx));rw[bU];exact Sm.neg jZ) zo);have AZ:Hid (nK sq L (L-(k+1)) (k+1) (su sq k (L-(b+1)) (b+1) (vI sq k b (si,sj,sx)))=(i,j,X)):=by have h:=AX.out;rw[show L-b=L-(b+1)+1 by omega]at h;exact h
       have hstep:vI sq k b (si,sj,sx)=if 0<c then(k,b,Y)else(si,sj,sx):=by
        unfold vI;rw[hY];show(if 0<cw (Y-sx)then _ else _)=_
        rw[hc]
       have Hu:Hid (aV wr dx (dU+k) [.slice a1 n c1]):=hu;have Hv:Hid (aV wr dx (dU+b) [.slice a2 n c2]):=hv;have Hp:Hid (aV wr dx (dU+si) [.slice a3 n c3]):=hp;have Hq:Hid (aV wr dx (dU+sj) [.slice a4 n c4]):=hq;obtain⟨wU,BU,JB,fU,HY,Kw⟩:=gN hq1 hq2 hcm hstep hY oG;have fT:=Hb;clear hu hv hp hq hq1 hq2 hcm hstep hY oG rS jZ hc dA Hb;have Hb:Hid (Bw wr wr):=Below.refl _ _;obtain⟨r0,r1,r2⟩:=Hr.out.c3;have u0:=Hu.out.w1;have v0:=Hv.out.w1;have p0:=Hp.out.w1;have q0:=Hq.out.w1;go_wp2_with fail;refine bJ (λw'=>w'.cell? ⟨dx,dU+k,none⟩=some (.slice a1 n c1)/\w'.cell? ⟨dx,dU+b,none⟩=some (.slice a2 n c2)/\w'.cell? ⟨dx,dU+si,none⟩=some (.slice a3 n c3)/\w'.cell? ⟨dx,dU+sj,none⟩=some (.slice a4 n c4)) (λi=>Nat.blt i 100000) [(0,true),(1,true),(2,true),(3,true),(4,true),(5,true),(6,true),(7,true),(9,true),(10,true),(11,true),(12,true),(13,true),(14,true),(15,true),(16,true),(8,false),(17,false),(18,false),(19,true)] zk zk rfl zk zc ⟨u0,v0,p0,q0⟩ ?_;iterate 16 (refine pT rfl rfl ?_ (by intro w' ⟨q0,q1,q2,q3⟩;go_simp;try with_reducible rfl);try simp only[UU])
       refine aI rfl rfl (λK hK=>?_);go_simp;with_reducible refine(wU.out _ (Below.refl _ _).drew).mono ?_
       rintro e w5 ⟨rfl,hq⟩;have ae:Bw wr w5:=by first|exact hq|exact aM hq
       clear r0 r1 r2 u0 v0 p0 q0;replace Hr:=kB Hr ae;replace Hu:=kW Hu ae;replace Hv:=kW Hv ae;replace Hp:=kW Hp ae;replace Hq:=kW Hq ae;obtain⟨r0,r1,r2⟩:=Hr.out.c3;have u0:=Hu.out.w1;have v0:=Hv.out.w1;have p0:=Hp.out.w1;have q0:=Hq.out.w1;replace Hb:=au Hb ae;clear ae;refine hK _ _ (λ_=>⟨u0,v0,p0,q0⟩) ?_;clear hK K;try simp only[UU]
       refine aI rfl rfl (λK hK=>?_);go_simp;with_reducible refine(BU.out _ Hb.out).mono ?_
       rintro e w6 ⟨rfl,hq⟩;have ae:Bw w5 w6:=by first|exact hq|exact aM hq
       clear r0 r1 r2 u0 v0 p0 q0;replace Hr:=kB Hr ae;replace Hu:=kW Hu ae;replace Hv:=kW Hv ae;replace Hp:=kW Hp ae;replace Hq:=kW Hq ae;obtain⟨r0,r1,r2⟩:=Hr.out.c3;have u0:=Hu.out.w1;have v0:=Hv.out.w1;have p0:=Hp.out.w1;have q0:=Hq.out.w1;replace Hb:=au Hb ae;clear ae;refine hK _ _ (λ_=>⟨u0,v0,p0,q0⟩) ?_;clear hK K;try simp only[UU]
       refine aI rfl rfl (λK hK=>?_);go_simp;with_reducible refine(JB.out _).mono ?_
       rintro e w7 ⟨rfl,hq⟩;have ae:Bw w6 w7:=by first|exact hq|exact aM hq
       clear r0 r1 r2 u0 v0 p0 q0;replace Hr:=kB Hr ae;replace Hu:=kW Hu ae;replace Hv:=kW Hv ae;replace Hp:=kW Hp ae;replace Hq:=kW Hq ae;obtain⟨r0,r1,r2⟩:=Hr.out.c3;have u0:=Hu.out.w1;have v0:=Hv.out.w1;have p0:=Hp.out.w1;have q0:=Hq.out.w1;replace Hb:=au Hb ae;clear ae;refine hK _ _ (λ_=>⟨u0,v0,p0,q0⟩) ?_;clear hK K;try simp only[UU]
       refine pT rfl rfl ?_;try simp only[UU]
       simp only[aU];have gj:=ah (aJ fT.out Hb.out);by_cases hc0:0<c
       . go_wp2;go_roundw;case rel=>refine⟨b+1,(k,b,Y),by omega,by omega,rfl,rfl,by go_num,?_,⟨hlt,bj,HY.out.symm⟩,Hr.out,gj.out⟩;have h:=AZ.out;rw[fU.out,if_pos hc0]at h;exact h
         case measure=>simp[intOf];omega
       . go_wp2;go_roundw;case rel=>refine⟨b+1,(si,sj,sx),by omega,by omega,rfl,rfl,by go_num,?_,⟨DG,hsj,Kw.out⟩,Hr.out,gj.out⟩;have h:=AZ.out;rw[fU.out,if_neg zo]at h;exact h
         case measure=>simp[intOf];omega
     . obtain rfl:b=L:=by omega
       go_wp2;go_roundw;case rel=>refine⟨k+1,(si,sj,sx),by omega,rfl,rfl,by go_num,?_,⟨DG,hsj,oG⟩,Hr.out,Hb.out⟩;have h:=AX.out;rw[Nat.sub_self]at h;exact h
       case measure=>simp[intOf];omega
  . obtain rfl:k=L:=by omega
    rw[Nat.sub_self]at hF;have hFs:s=(i,j,X):=hF;subst hFs;obtain⟨hi,hj,hx⟩:=hs;dsimp only at hi hj hx;obtain⟨b0,o0,a1,c1,a2,c2,dA,hu,hv,hq1⟩:=KB.out i j X wr hi hj hx.symm pb;have i0:=fE k cap i (i:Int) dA hi rfl;have i1:=fE k cap j (j:Int) dA hj rfl;rw[Nat.mul_one]at i0 i1;obtain⟨Hr,Hb,wU⟩:=cL pr pb hq1;have hl0:=aaT.out b0 o0 dA;have Hu:Hid (aV wr b0 (o0+i) [.slice a1 n c1]):=hu;have Hv:Hid (aV wr b0 (o0+j) [.slice a2 n c2]):=hv;have hbs:=pb.size;clear pr pb hF hx dA hu hv hq1;have u0:=Hu.out.w1;have v0:=Hv.out.w1;obtain⟨r0,ai,r1,aj,r2,aC⟩:=Hr.out.g3;go_wp2_with fail;refine bJ (λw'=>w'.cell? ⟨b0,o0+i,none⟩=some (.slice a1 n c1)/\w'.cell? ⟨b0,o0+j,none⟩=some (.slice a2 n c2)) (λi=>Nat.blt i 13) [(0,true),(1,true),(2,true),(3,true),(4,true),(5,true),(6,true),(7,true),(8,true),(9,true),(10,false),(11,true),(12,true),(13,false)] zk zk rfl zk zc ⟨u0,v0⟩ ?_;iterate 10 (refine pT rfl rfl ?_ (by intro w' ⟨q0,q1⟩;go_simp;try with_reducible rfl);try simp only[UU])
    refine aI rfl rfl (λK hK=>?_);go_simp;with_reducible refine(wU.out _ (Below.refl _ _).drew).mono ?_
    rintro e w5 ⟨rfl,hq⟩;have ae:Bw wr w5:=by first|exact hq|exact aM hq
    clear u0 v0 r0 ai r1 aj r2 aC;replace Hu:=kW Hu ae;replace Hv:=kW Hv ae;replace Hr:=kB Hr ae;have u0:=Hu.out.w1;have v0:=Hv.out.w1;obtain⟨r0,ai,r1,aj,r2,aC⟩:=Hr.out.g3;replace Hb:=au Hb ae;clear ae;refine hK _ _ (λ_=>⟨u0,v0⟩) ?_;clear hK K;try simp only[UU]
    iterate 2 (refine pT rfl rfl ?_;try simp only[UU])
    refine aI rfl rfl (λK hK=>?_);go_simp;refine hK _ _ (λh=>absurd h zd) ?_;clear hK K;try simp only[UU]
    clear u0 v0 r0 ai r1 aj r2 aC;refine bN (bz w5 (w.heap.size) 0 [.bool (ar (dN X)),.string (bs (nt (dN X).natAbs)),.int .i64 (dE X)]) bF ?_;intro w6 hs;replace Hu:=WJ Hu hs zo;replace Hv:=WJ Hv hs zo;replace Hr:=bX Hr hs;have u0:=Hu.out.w1;have v0:=Hv.out.w1;obtain⟨r0,ai,r1,aj,r2,aC⟩:=Hr.out.g3;replace Hb:=bS Hb hs ZS;clear hs;simp only[aU];go_wp2;refine bodyPost_ret (v:=.tuple #[.int .i64 (i:Int),.int .i64 (j:Int),bC X]) (by simp[results,Tryz.results19,go_sem,r0,r1,r2]) rfl ⟨rfl,?_⟩;(repeat first|exact Hb.out| (refine Below.setCell ?_ (by have:=Hb.out.size;first| (dsimp only;omega) | (show _<=_;omega) | (simp<;>omega)) _) | (refine Below.alloc ?_ zt _) |refine Below.drew ?_)
theorem YT {rows:List (List Raw)}(h:rows.length<2\/9<rows.length):fB rows=0:=by
 unfold fB;dsimp only;rw[if_pos];rcases h with h|h
 . left;omega
 . right;left;omega
theorem alB {rows:List (List Raw)}{N j:Nat}(hN:rows.length=N+1)(hj:j<rows.length)(h:rows[j].length≠N):fB rows=0:=by unfold fB;dsimp only;rw[if_pos];right;right;rw[List.any_eq_true];refine⟨rows[j],List.getElem_mem hj,?_⟩;rw[decide_eq_true_eq];omega
theorem OT (a:Option Addr)(L cap:Nat)(rows:List (List Raw))(V:Int)(w:World)(hL:rows.length=L)(hl:L<=1099511627776)(ha:aR w a rows)(hV:fB rows=V):
 Calls Tryz.prog 18 #[.slice a L cap] w λe w'=>e=.returned (.int .i64 V)/\Bw w w':=by
 by_cases h1:L<2
 . obtain rfl:V=0:=by rw[<-hV];exact YT zo
   have t1:(L:Int)-1<1:=by omega
   clear hV ha hL;have Hb:Hid (Bw w w):=Below.refl _ _;go_enter Tryz.func18,Tryz.ntmps18;go_wp2;refine bodyPost_ret (results_tmp rfl _ _ _) rfl ⟨rfl,Hb.out⟩
 by_cases h2:9<L
 . obtain rfl:V=0:=by rw[<-hV];exact YT zo
   have t1:¬(L:Int)-1<1:=by omega
   have t2:8<(L:Int)-1:=by omega
   clear hV ha hL;have Hb:Hid (Bw w w):=Below.refl _ _;go_enter Tryz.func18,Tryz.ntmps18;go_wp2;refine bodyPost_ret (results_tmp rfl _ _ _) rfl ⟨rfl,Hb.out⟩
 obtain⟨N,hN⟩:∃N:Nat,L=N+1:=⟨L-1,by omega⟩;have hLN:(L:Int)-1=(N:Int):=by omega
 have t1:¬(N:Int)<1:=by omega
 have t2:¬8<(N:Int):=by omega
 have hbad:=λj (hj:j<rows.length) h=>alB (j:=j) (hL.trans hN) hj h;have MC:=λh=>yx (hL.trans hN) h zo zo;rw[hV]at hbad MC;obtain⟨yG,BI,HL,Ha,HN⟩:=fg hbad MC hL ha hN;clear hbad MC hL ha hV hN;have Hb:Hid (Bw w w):=Below.refl _ _;go_enter Tryz.func18,Tryz.ntmps18;go_wp2_with fail;go_loopw[4] (λx wr=>∃k:Nat,k<=L/\x=.int .i64 (k:Int)/\(∀j (h:j<rows.length),j<k->rows[j].length=N)/\Bw w wr) (λx _=>L-(intOf x).toNat);case atStart=>exact⟨0,Nat.zero_le _,rfl,λj _ h=>absurd h (Nat.not_lt_zero _),Hb.out⟩
 case round=>
  clear Hb;obtain⟨k,hk,rfl,hs,pb⟩:=hrel;obtain⟨Hs,Hb⟩:=aL hs pb;clear hs pb;by_cases hlt:k<L
  . have bj:(k:Int)<=(N:Int):=by have:=HN.out;omega
    have hk1:k<rows.length:=by rw[HL.out];exact hlt
    obtain⟨b0,o0,a1,c1,hab,hc,_⟩:=(Ha.out.below Hb.out).row k hk1;have i0:=fE L cap k (k:Int) hab hlt rfl;rw[Nat.mul_one]at i0;obtain⟨n1,dL⟩:=aB (rows[k].length);rw[dL]at hc;have yN:=ah dL;clear dL hab;by_cases he:n1=N
    . subst he;go_wp2;go_roundw;case rel=>
       refine⟨k+1,by omega,by go_num,λj h hj=>?_,Hb.out⟩;by_cases hjk:j=k
       . subst hjk;exact yN.out
       . exact Hs.out j h zo
      case measure=>simp[intOf];omega
    . have My:((n1:Int) !=(N:Int))=true:=by simp;omega
      have he3:¬(n1:Int)=(N:Int):=by omega
      obtain rfl:V=0:=yG.out k hk1 (by rw[yN.out];exact he);go_wp2;refine bodyPost_ret (results_tmp rfl _ _ _) rfl ⟨rfl,Hb.out⟩
  . obtain rfl:k=L:=by omega
    have bj:¬(k:Int)<=(N:Int):=by have:=HN.out;omega
    obtain rfl:V=N:=BI.out (λr hr=>by
     obtain⟨j,hj,rfl⟩:=List.mem_iff_getElem.1 hr
     exact Hs.out j hj (by rw[<-HL.out];exact hj))
    go_wp2;refine bodyPost_ret (results_tmp rfl _ _ _) rfl ⟨rfl,Hb.out⟩
end Go.Proofs.YtdaadlblknpipaaGreatDoor
