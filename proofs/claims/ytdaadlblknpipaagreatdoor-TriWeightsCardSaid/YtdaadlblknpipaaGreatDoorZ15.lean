/- Package ogeeref04: Make. -/
import Derived.Test.YtdaadlblknpipaaGreatDoorZ14
import Derived.Deep.RegionWith
import Derived.Test.YtdaadlblknpipaaGreatDoorZ9
import Derived.Test.YtdaadlblknpipaaGreatDoorZ11
import Derived.Test.YtdaadlblknpipaaGreatDoorZ12
set_option linter.unusedVariables false
set_option linter.unusedSimpArgs false
set_option maxRecDepth 100000
set_option maxHeartbeats 16000000
namespace Go.Proofs.YtdaadlblknpipaaGreatDoor
open Go.RowKit
attribute [local go_sem ↓] Go.wp_at_zero Go.wp_at_succ
theorem aeC (M:List UInt8)(c:UInt8):(bs (M++[c])).extract 0 M.length=bs M:=by apply ByteArray.ext;unfold bs;rw[ByteArray.data_extract];simp
theorem al7 (M:List UInt8)(c:UInt8)(i:Int)(hi:i=M.length)(W:World):
 (Instr.sliceAt 9 (.string (bs (M++[c]))) none (some (.int .i64 i)) none).run Tryz.prog W=.ok (.string (bs M)) W:=by
 subst hi;have h:=run_slice_string_h (P:=Tryz.prog) W 9 (bs (M++[c])) Tryz.underlying9 .i64 M.length zo (by rw[nS];simp<;>omega);simp only[Int.toNat_natCast,aeC M c]at h;simpa[Instr.sliceAt,run_underlying Tryz.underlying9]using h
theorem aeL (s:Bool)(n:Nat)(e:Int)(h:n%2=1):canon (aC (s,nt n,e))=(s,nt n,e):=by
 have h0:iv s (nt n)≠0:=by rw[mL];split<;>omega
 obtain⟨h1,h2⟩:=LH s (nt n) e h0;have ht:tz n=0:=by have:=ZF 0 (n/2);rw[show 2^0* (2* (n/2)+1)=n by omega]at this;exact this
 rw[jb,ht]at h1 h2;unfold canon;rw[h1,h2];have e1:iv s (nt n)/2^0=iv s (nt n):=by simp
 rw[e1,NS,nH,jb];have e3:(nt n).isEmpty=false:=by
  have:=IP (n:=n) zo;cases h:nt n with
  |nil=>exact absurd h this
  |cons a b=>rfl
 rw[e3];simp
theorem af0 (s:Bool)(l:List UInt8)(n k:Nat)(e:Int)(h:n*2^k=nv l):aC (s,nt n,e+k)=aC (s,l,e):=by
 unfold aC;have e1:iv s l=iv s (nt n) *2^k:=by
  rw[mL];unfold iv;rw[<-h];split
  . rw[Int.neg_mul];simp
  . simp
 simp only[e1];rw[<-uf (iv s (nt n)) k (-(e+k))];congr 1;omega
theorem akQ {n k v b:Nat}(h:n*2^k=v)(h0:0<v)(hv:v<2^b):k<b/\0<n:=by
 have hn:0<n:=by
  rcases Nat.eq_zero_or_pos n with h1|h1
  . subst h1;simp at h;omega
  . exact h1
 refine⟨?_,hn⟩;rcases Nat.lt_or_ge k b with h1|h1
 . exact h1
 . have h2:=Nat.pow_le_pow_right (show 0<2 by decide) h1;have h3:2^k<=n*2^k:=Nat.le_mul_of_pos_left _ hn;omega
theorem alu (w:World):Calls Tryz.prog 80 #[.int .i64 2] w λe w'=>e=.returned (.agg #[.bool false,.string (bs (nt 2))])/\Bw w w':=Pf 2 w zd
theorem Ye {n:Nat}(h:0<n):∃M c,nt n=M++[c]/\M=nt (n/256)/\c.toNat=n%256:=⟨_,_,Eh h,rfl,Ga n⟩
theorem alp (s:Bool)(l:List UInt8)(e:Int)(w:World)(hl:l.length<=1048576)(h0:nv l=0):
 Calls Tryz.prog 79 #[.agg #[.bool s,.string (bs l)],.int .i64 e] w λr w'=>r=.returned (bH 0)/\Bw w w':=by
 have hf:=λW=>Ez s l W zo;simp only[h0,yw,List.isEmpty_nil,Bool.not_true,Bool.and_false]at hf;have Hf:=ah hf;have hem:(bs []).toList.isEmpty=true:=by rw[tu];rfl
 clear hf h0;obtain⟨W,dw,Hb,Hm,Hr⟩:=pW w 28 [.bool s,.string (bs l)] 30 [.bool false,.string ⟨#[]⟩,.int .i64 0];obtain⟨m0,uS,m1,rQ⟩:=Hm.out.g2;obtain⟨r0,ai,r1,aj,r2,aG⟩:=Hr.out.g3;go_enter Tryz.func79,Tryz.ntmps79;go_wp2_with fail;refine(Hf.out _).mono ?_;rintro e w1 ⟨rfl,ae⟩;clear m0 uS m1 rQ r0 ai r1 aj r2 aG;replace Hm:=kB Hm ae;replace Hr:=kB Hr ae;obtain⟨m0,uS,m1,rQ⟩:=Hm.out.g2;obtain⟨r0,ai,r1,aj,r2,aG⟩:=Hr.out.g3;replace Hb:=az Hb ae;clear ae;go_wp2;refine bodyPost_ret (v:=.agg #[.bool false,.string ⟨#[]⟩,.int .i64 0]) (by simp[results,Tryz.results79,go_sem,r0,r1,r2]) rfl ⟨rfl,?_⟩;(repeat first|exact Hb.out| (refine Below.setCell ?_ (by have:=Hb.out.size;first| (dsimp only;omega) | (show _<=_;omega) | (simp<;>omega)) _) |refine Below.drew ?_)
theorem alo (s:Bool)(l:List UInt8)(e:Int)(D:Dyadic)(hD:aC (s,l,e)=D)(w:World)(hl:l.length<=1048576)(he: -1099511627776<=e/\e<=1099511627776)(h0:0<nv l):
 Calls Tryz.prog 79 #[.agg #[.bool s,.string (bs l)],.int .i64 e] w λr w'=>r=.returned (bH D)/\Bw w w':=by
 have hf:=λW=>Ez s l W zo;have e3:(nt (nv l)).isEmpty=false:=by
  have:=IP h0;cases h:nt (nv l)with
  |nil=>exact absurd h this
  |cons a b=>rfl
 rw[e3]at hf;simp only[Bool.not_false,Bool.and_true]at hf;have hvb:=nJ l;obtain⟨v,hv⟩:=aB (nv l);rw[hv]at h0 hvb;simp only[hv]at hf;have hup:∀n k:Nat,n*2^k=v->aC (s,nt n,e+k)=D:=λn k h=>by rw[<-hD];exact af0 s l n k e (by rw[hv];exact h)
 obtain⟨Bn,TT⟩:=aB (8*l.length);have hpb:∀n k:Nat,n*2^k=v->k<Bn/\0<n:=λn k h=>by rw[<-TT];exact akQ h h0 hvb
 have hBl:Bn<=8388608:=by omega
 obtain⟨Hf,KM,aQ⟩:=cX hf hup hpb;have aoN:(bs (nt v)).toList.isEmpty=false:=by rw[tu,<-hv];exact e3
 have We:∀n k:Nat,n*2^k=v->(nt n).length<=1048576:=λn k h=>by refine Nat.le_trans (ja (Nat.lt_of_le_of_lt (Nat.le_mul_of_pos_right n (Nat.pow_pos (n:=k) (show 0<2 by decide))) ?_)) hl;rw[h,<-hv];exact fT l
 have RD:=ah We;clear hf e3 hvb hup hpb TT hD hv h0 We;obtain⟨W,dw,Hb,Hm,Hr⟩:=pW w 28 [.bool s,.string (bs l)] 30 [.bool false,.string ⟨#[]⟩,.int .i64 0];obtain⟨m0,uS,m1,rQ⟩:=Hm.out.g2;obtain⟨r0,ai,r1,aj,r2,aG⟩:=Hr.out.g3;go_enter Tryz.func79,Tryz.ntmps79;go_wp2_with fail;refine(Hf.out _).mono ?_;rintro e w1 ⟨rfl,ae⟩;clear m0 uS m1 rQ r0 ai r1 aj r2 aG;replace Hm:=kB Hm ae;replace Hr:=kB Hr ae;obtain⟨m0,uS,m1,rQ⟩:=Hm.out.g2;obtain⟨r0,ai,r1,aj,r2,aG⟩:=Hr.out.g3;replace Hb:=az Hb ae;clear ae;go_wp2_with fail;clear m0 uS m1 rQ r0 ai r1 aj r2 aG;first|refine bN (bK w1 (w.heap.size) 0 [.bool s,.string (bs (nt v))]) bV ?_|refine bL (bK w1 (w.heap.size) 0 [.bool s,.string (bs (nt v))]) bV ?_
 intro w2 hs;replace Hm:=cF Hm hs;replace Hr:=kS Hr hs zo;obtain⟨m0,uS,m1,rQ⟩:=Hm.out.g2;obtain⟨r0,ai,r1,aj,r2,aG⟩:=Hr.out.g3;replace Hb:=bS Hb hs ZS;clear hs m0 m1 uS rQ r0 r1 r2 ai aj aG;have lm:=Hm.out.lt;have lr:=Hr.out.lt;go_loopw[1] (λx wr=>∃n k:Nat,n*2^k=v/\x=.int .i64 (e+k)/\ak wr w.heap.size 28 [.bool s,.string (bs (nt n))]/\ak wr (w.heap.size+1) 30 [.bool false,.string ⟨#[]⟩,.int .i64 0]/\Bw w wr) (λx _=>(e+Bn+100-intOf x).toNat);case atStart=>exact⟨v,0,by simp,by simp,Hm.out,Hr.out,Hb.out⟩
 case round=>
  clear Hm Hr Hb;obtain⟨n,k,tL,rfl,hm,hr,hb⟩:=hrel;obtain⟨hk,hn⟩:=aQ.out n k tL;obtain⟨M,c,hM,GC,hc⟩:=Ye hn;obtain⟨Hm,Hr,Hb,zn,HM,QD⟩:=gF hm hr hb tL hM GC;have hnl:=RD.out n k tL;have CM:M.length+1<=1048576:=by rw[hM]at hnl;simpa using hnl
  have m1:wr.cell? ⟨w.heap.size,1,none⟩=some (.string (bs (M++[c]))):=by rw[<-hM];exact hm.cell 1
  have rQ:wr.frozen? ⟨w.heap.size,1,none⟩=false:=hm.free 1;have hsz:(bs (M++[c])).size=M.length+1:=by rw[nS];simp
  have gS:=yf (M++[c]) (M.length:Int) M.length zm rfl;have ou:(M++[c])[M.length]'zm=c:=by simp
  rw[ou]at gS;obtain⟨C,hC⟩:=aB c.toNat;rw[hC]at gS hc;have hsl:=al7 M c (M.length:Int) rfl;have Hc:=ah hc;clear hm hr hb tL hM GC ou hc hnl;by_cases nW:C=0
  . subst nW;go_wp2;go_roundw;case rel=>
     refine⟨n/256,k+8,?_,by go_num,?_,?_,?_⟩
     . have h1:=Hc.out;have h2:=zn.out;rw[<-h2,Nat.pow_add,show(2:Nat)^8=256 by rfl,Nat.mul_comm (2^k),<-Nat.mul_assoc];congr 1;omega
     . rw[<-QD.out];exact Hm.out.set 1 _
     . exact Hr.out.aqR ⟨w.heap.size,1,none⟩ zp _
     . exact Hb.out.setCell zp _
    case measure=>simp[intOf];omega
  . have TW:((C:Int)==0)=false:=by simp;omega
    go_wp2_with fail;clear m1 rQ hsz gS hsl CM TW hC nW;go_loopw[1] (λx wr=>∃n k:Nat,n*2^k=v/\x=.int .i64 (e+k)/\ak wr w.heap.size 28 [.bool s,.string (bs (nt n))]/\ak wr (w.heap.size+1) 30 [.bool false,.string ⟨#[]⟩,.int .i64 0]/\Bw w wr) (λx _=>(e+Bn+100-intOf x).toNat);case atStart=>exact⟨n,k,zn.out,rfl,Hm.out,Hr.out,Hb.out⟩
    case round=>
     clear Hm Hr Hb zn HM QD Hc hk hn;obtain⟨n,k,tL,rfl,hm,hr,hb⟩:=hrel;obtain⟨hk,hn⟩:=aQ.out n k tL;obtain⟨M,c,hM,GC,hc⟩:=Ye hn;obtain⟨Hr,zn,HM⟩:=cX hr tL hM;have hnl:=RD.out n k tL;have CM:M.length+1<=1048576:=by rw[hM]at hnl;simpa using hnl
     have Hm:Hid (ak wr w.heap.size 28 [.bool s,.string (bs (M++[c]))]):=by rw[hM]at hm;exact hm
     have m0:wr.cell? ⟨w.heap.size,0,none⟩=some (.bool s):=Hm.out.cell 0;have m1:wr.cell? ⟨w.heap.size,1,none⟩=some (.string (bs (M++[c]))):=Hm.out.cell 1;have hsz:(bs (M++[c])).size=M.length+1:=by rw[nS];simp
     have gS:=yf (M++[c]) (M.length:Int) M.length zm rfl;have ou:(M++[c])[M.length]'zm=c:=by simp
     rw[ou]at gS;obtain⟨C,hC⟩:=aB c.toNat;rw[hC]at gS hc;have aoC:=hb.size;have gL:=ah hb;clear hm hr hb tL GC ou hC;by_cases hev:n%2=0
     . obtain⟨n',rfl⟩:∃n',n=2*n':=⟨n/2,by omega⟩;have WC:(C:Int)%2=0:=by omega
       have hh:=λW=>alm s n' W zo (Nat.le_trans hnl zd);rw[hM]at hh;have Hh:=ah hh;have Hb:Hid (Bw wr wr):=Below.refl _ _;clear hh hM hnl hc;go_wp2_with fail;have lmm:=Hm.out.lt;have lrr:=Hr.out.lt;go_region_with (first| (go_at_call 80;refine(alu _).mono ?_;rintro e3 w3 ⟨rfl,hb3⟩;replace hb3:=aV hb3;have Fy:=ah (Hm.out.below hb3);have m03:w3.cell? ⟨w.heap.size,0,none⟩=some (.bool s):=Fy.out.cell 0;have sk:w3.cell? ⟨w.heap.size,1,none⟩=some (.string (bs (M++[c]))):=Fy.out.cell 1) | (go_at_call 118;refine(Hh.out _).mono ?_;rintro e4 w4 ⟨rfl,hb4⟩;have ze:=ah (Fy.out.below hb4);have m04:w4.cell? ⟨w.heap.size,0,none⟩=some (.bool s):=ze.out.cell 0;have su:w4.cell? ⟨w.heap.size,1,none⟩=some (.string (bs (M++[c]))):=ze.out.cell 1;have agk:=ze.out.free 0;have agl:=ze.out.free 1))
       all_goals
        have HBm:=ah (aK (aK gL.out hb3) hb4)
        have Hm4:=ah ((ze.out.set 0 (.bool s)).set 1 (.string (bs (nt n'))))
        have BZ:=ah ((((Hr.out.below hb3).below hb4).aqR ⟨w.heap.size,0,none⟩ zp (.bool s)).aqR ⟨w.heap.size,1,none⟩ zp (.string (bs (nt n'))))
        clear m0 m1 m03 sk m04 su agk agl WC gS hb3 hb4 Fy ze
        go_wp2
        go_roundw
        case rel=>
         refine⟨n',k+1,?_,by go_num,Hm4.out,BZ.out,?_⟩
         . rw[<-zn.out,Nat.pow_succ,Nat.mul_comm (2^k) 2,<-Nat.mul_assoc,Nat.mul_comm n' 2]
         . exact(HBm.out.setCell zp _).setCell zp _
        case measure=>simp[intOf];omega
     . have WC:((C:Int)%2==0)=false:=by simp;omega
       have Wl:n%2=1:=by omega
       have hfin:=aeL s n (e+k) Wl;rw[KM.out n k zn.out,HM.out]at hfin;have sS:=ah hfin;have r0:wr.cell? ⟨w.heap.size+1,0,none⟩=some (.bool false):=Hr.out.cell 0;have r1:wr.cell? ⟨w.heap.size+1,1,none⟩=some (.string ⟨#[]⟩):=Hr.out.cell 1;have r2:wr.cell? ⟨w.heap.size+1,2,none⟩=some (.int .i64 0):=Hr.out.cell 2;have ai:=Hr.out.free 0;have aj:=Hr.out.free 1;have aG:=Hr.out.free 2;clear hM hnl hc Wl hfin hev;go_wp2;refine bodyPost_ret (v:=.agg #[.bool s,.string (bs (M++[c])),.int .i64 (e+k)]) (by simp[results,Tryz.results79,go_sem,r0,r1,r2]) rfl ⟨?_,?_⟩
       . have h1:=sS.out;unfold canon at h1;simp only[Prod.mk.injEq]at h1;rw[<-h1.1,<-h1.2.1,<-h1.2.2]
       . exact(((gL.out.setCell zp _).setCell zp _).setCell zp _)
theorem AX (s:Bool)(l:List UInt8)(e:Int)(D:Dyadic)(hD:aC (s,l,e)=D)(w:World)(hl:l.length<=1048576)(he: -1099511627776<=e/\e<=1099511627776):
 Calls Tryz.prog 79 #[.agg #[.bool s,.string (bs l)],.int .i64 e] w λr w'=>r=.returned (bH D)/\Bw w w':=by
 rcases Nat.eq_zero_or_pos (nv l)with h0|h0
 . have:D=0:=by rw[<-hD];exact LI s l e (by unfold iv;rw[h0];split<;>rfl)
   rw[this];exact alp s l e w hl h0
 . exact alo s l e D hD w hl he h0
def eZ (x:Raw):Prop:=x.2.1.length<=16384/\ -16384<=x.2.2/\x.2.2<=16384
theorem eZ.sm {x:Raw}(h:eZ x):Sm 262144 (aC x):=Sm.raw (B:=131072) (by have:=h.1;omega) (by have:=h.2.1;omega) (by have:=h.2.2;omega)
theorem Sm.aqT {B:Nat}{d:Dyadic}(h:Sm B d)(hB:B<=16384):eZ (canon d):=by obtain⟨h1,h2,h3⟩:=h.parts;exact⟨ki h1 zo,by show-16384<=dE d;omega,by show dE d<=16384;omega⟩
theorem eZ.ok {x:Raw}(h:eZ x):Ok x:=⟨by have:=h.1;omega,by have:=h.2.1;omega,by have:=h.2.2;omega⟩
theorem yG (s:Bool)(l:List UInt8)(e:Int)(D:Dyadic)(hD:aC (s,l,e)=D)(w:World)(hx:eZ (s,l,e)):
 Calls Tryz.prog 70 #[.agg #[.bool s,.string (bs l),.int .i64 e]] w λex w'=>ex=.returned (bH D)/\Bw w w':=by
 have h1:=λW=>AX s l e D hD W (by have:=hx.1;simp only at this;omega) (by have:=hx.2;simp only at this;omega);have H1:=ah h1;clear h1 hD hx;obtain⟨W,dw,Hb,Hx,Hr⟩:=pW w 30 [.bool s,.string (bs l),.int .i64 e] 30 [.bool false,.string ⟨#[]⟩,.int .i64 0];obtain⟨x0,x1,x2⟩:=Hx.out.c3;obtain⟨r0,ai,r1,aj,r2,aG⟩:=Hr.out.g3;go_enter Tryz.func70,Tryz.ntmps70;go_wp2_with fail;refine(H1.out _).mono ?_;rintro e w1 ⟨rfl,ae⟩;clear x0 x1 x2 r0 ai r1 aj r2 aG;replace Hx:=kB Hx ae;replace Hr:=kB Hr ae;obtain⟨x0,x1,x2⟩:=Hx.out.c3;obtain⟨r0,ai,r1,aj,r2,aG⟩:=Hr.out.g3;replace Hb:=az Hb ae;clear ae;go_wp2;clear x0 x1 x2 r0 ai r1 aj r2 aG;refine fy (bK w1 (w.heap.size+1) 0 [.bool (ar (dN D)),.string (bs (nt (dN D).natAbs)),.int .i64 (dE D)]) bV ?_;intro w9 hs;replace Hx:=kS Hx hs zo;replace Hr:=cF Hr hs;obtain⟨x0,x1,x2⟩:=Hx.out.c3;obtain⟨r0,ai,r1,aj,r2,aG⟩:=Hr.out.g3;replace Hb:=bS Hb hs ZS;clear hs;refine bodyPost_ret (v:=bH D) (by simp[results,Tryz.results70,go_sem,r0,r1,r2]) rfl ⟨rfl,Hb.out⟩
theorem yH (s:Bool)(l:List UInt8)(e:Int)(g:Int)(hg:bZ (aC (s,l,e))=g)(w:World)(hl:l.length<=68719476736):
 Calls Tryz.prog 28 #[.agg #[.bool s,.string (bs l),.int .i64 e]] w λex w'=>ex=.returned (.int .i64 g)/\Bw w w':=by
 have h1:=λW=>alF s l W hl;rw[show ej (iv s l)=g by rw[<-hg];exact PF s l e]at h1;have H1:=ah h1;clear h1 hg hl;obtain⟨W,dw,Hb,Hx⟩:=iP w 30 [.bool s,.string (bs l),.int .i64 e];obtain⟨x0,x1,x2⟩:=Hx.out.c3;go_enter Tryz.func28,Tryz.ntmps28;go_wp2_with fail;refine(H1.out _).mono ?_;rintro e w1 ⟨rfl,ae⟩;clear x0 x1 x2;replace Hx:=kB Hx ae;obtain⟨x0,x1,x2⟩:=Hx.out.c3;replace Hb:=az Hb ae;clear ae;go_wp2;go_ret;exact⟨rfl,Hb.out⟩
theorem Pg (n:Nat)(D:Dyadic)(hD:Dyadic.ofIntWithPrec (n:Int) 0=D)(w:World)(hn:n<=1000000):
 Calls Tryz.prog 62 #[.int .i64 (n:Int)] w λe w'=>e=.returned (bH D)/\Bw w w':=by
 have h1:=λW=>Pf n W zo;have h2:=λW=>AX false (nt n) 0 D (by unfold aC;simp only[mL];exact hD) W (Nat.le_trans (ja (k:=4) zo) zd) zo;clear hD;generalize nt n=m at*;obtain⟨H1,H2⟩:=aM h1 h2;clear h1 h2;obtain⟨W,dw,Hb,Hr⟩:=iP w 30 [.bool false,.string ⟨#[]⟩,.int .i64 0];obtain⟨r0,ai,r1,aj,r2,aG⟩:=Hr.out.g3;go_enter Tryz.func62,Tryz.ntmps62;go_wp2_with fail;refine(H1.out _).mono ?_;rintro e w1 ⟨rfl,ae⟩;clear r0 ai r1 aj r2 aG;replace Hr:=kB Hr ae;obtain⟨r0,ai,r1,aj,r2,aG⟩:=Hr.out.g3;replace Hb:=az Hb ae;clear ae;go_wp2_with fail;refine(H2.out _).mono ?_;rintro e w2 ⟨rfl,ae⟩;clear r0 ai r1 aj r2 aG;replace Hr:=kB Hr ae;obtain⟨r0,ai,r1,aj,r2,aG⟩:=Hr.out.g3;replace Hb:=az Hb ae;clear ae;go_wp2;clear r0 ai r1 aj r2 aG;refine fy (bK w2 (w.heap.size) 0 [.bool (ar (dN D)),.string (bs (nt (dN D).natAbs)),.int .i64 (dE D)]) bV ?_;intro w9 hs;replace Hr:=cF Hr hs;obtain⟨r0,ai,r1,aj,r2,aG⟩:=Hr.out.g3;replace Hb:=bS Hb hs ZS;clear hs;refine bodyPost_ret (v:=bH D) (by simp[results,Tryz.results62,go_sem,r0,r1,r2]) rfl ⟨rfl,Hb.out⟩
theorem Pe (s:Bool)(l:List UInt8)(e:Int)(D:Dyadic)(hD: -aC (s,l,e)=D)(w:World)(hx:eZ (s,l,e)):
 Calls Tryz.prog 65 #[.agg #[.bool s,.string (bs l),.int .i64 e]] w λex w'=>ex=.returned (bH D)/\Bw w w':=by
 obtain⟨Z,hZ⟩:=aB (-iv s l);have hl:(nt Z.natAbs).length<=16384:=by
  have:Z.natAbs=nv l:=by rw[<-hZ,Int.natAbs_neg,nH]
  rw[this];exact Nat.le_trans (ja (k:=l.length) (fT l)) hx.1
 have h1:=λW=>als s l Z hZ W (by have:=hx.1;simp only at this;omega);have h2:=λW=>AX (ar Z) (nt Z.natAbs) e D (by rw[uR,<-hZ,<-hD];unfold aC;rw[Ek]) W zo (by have:=hx.2;simp only at this;omega);obtain⟨H1,H2⟩:=aM h1 h2;clear h1 h2 hD hZ hl hx;generalize ar Z=t at*;generalize nt Z.natAbs=m at*;obtain⟨W,dw,Hb,Hx,Hr⟩:=pW w 30 [.bool s,.string (bs l),.int .i64 e] 30 [.bool false,.string ⟨#[]⟩,.int .i64 0];obtain⟨x0,x1,x2⟩:=Hx.out.c3;obtain⟨r0,ai,r1,aj,r2,aG⟩:=Hr.out.g3;go_enter Tryz.func65,Tryz.ntmps65;go_wp2_with fail;refine bM (λw'=>w'.cell? ⟨w.heap.size,0,none⟩=some (.bool s)/\w'.cell? ⟨w.heap.size,1,none⟩=some (.string (bs l))/\w'.cell? ⟨w.heap.size,2,none⟩=some (.int .i64 e)) (λi=>Nat.blt i 6) [(0,true),(1,true),(3,true),(4,true),(2,false),(5,false),(6,false)] zk zk rfl zk zc ⟨x0,x1,x2⟩ ?_;iterate 4 (refine pT rfl rfl ?_ (by intro w' ⟨q0,q1,q2⟩;go_simp;try with_reducible rfl);try simp only[UU])
 refine aI rfl rfl (λK hK=>?_);go_simp;with_reducible refine(H1.out _).mono ?_
 rintro e w1 ⟨rfl,hq⟩;have ae:Bw W w1:=by first|exact hq|exact aV hq
 clear x0 x1 x2 r0 ai r1 aj r2 aG;replace Hx:=kB Hx ae;replace Hr:=kB Hr ae;obtain⟨x0,x1,x2⟩:=Hx.out.c3;obtain⟨r0,ai,r1,aj,r2,aG⟩:=Hr.out.g3;replace Hb:=az Hb ae;clear ae;refine hK _ _ (λ_=>⟨x0,x1,x2⟩) ?_;clear hK K;try simp only[UU]
 refine aI rfl rfl (λK hK=>?_);go_simp;with_reducible refine(H2.out _).mono ?_
 rintro e w2 ⟨rfl,hq⟩;have ae:Bw w1 w2:=by first|exact hq|exact aV hq
 clear x0 x1 x2 r0 ai r1 aj r2 aG;replace Hx:=kB Hx ae;replace Hr:=kB Hr ae;obtain⟨x0,x1,x2⟩:=Hx.out.c3;obtain⟨r0,ai,r1,aj,r2,aG⟩:=Hr.out.g3;replace Hb:=az Hb ae;clear ae;refine hK _ _ (λ_=>⟨x0,x1,x2⟩) ?_;clear hK K;try simp only[UU]
 refine aI rfl rfl (λK hK=>?_);go_simp;refine hK _ _ (λh=>absurd h zd) ?_;clear hK K;try simp only[UU]
 clear x0 x1 x2 r0 ai r1 aj r2 aG;refine bO (bK w2 (w.heap.size+1) 0 [.bool (ar (dN D)),.string (bs (nt (dN D).natAbs)),.int .i64 (dE D)]) bV ?_;intro w9 hs;replace Hx:=kS Hx hs zo;replace Hr:=cF Hr hs;obtain⟨x0,x1,x2⟩:=Hx.out.c3;obtain⟨r0,ai,r1,aj,r2,aG⟩:=Hr.out.g3;replace Hb:=bS Hb hs ZS;clear hs;simp only[aZ];go_wp2;refine bodyPost_ret (v:=bH D) (by simp[results,Tryz.results65,go_sem,r0,r1,r2]) rfl ⟨rfl,?_⟩;(repeat first|exact Hb.out| (refine Below.setCell ?_ (by have:=Hb.out.size;first| (dsimp only;omega) | (show _<=_;omega) | (simp<;>omega)) _) | (refine Below.alloc ?_ zt _) |refine Below.drew ?_)
theorem YX (s:Bool)(l:List UInt8)(e:Int)(t:Bool)(m:List UInt8)(f:Int)(D:Dyadic)(hD:aC (s,l,e) *aC (t,m,f)=D)(w:World)(hx:eZ (s,l,e))(hy:eZ (t,m,f)):
 Calls Tryz.prog 83 #[.agg #[.bool s,.string (bs l),.int .i64 e],.agg #[.bool t,.string (bs m),.int .i64 f]] w λex w'=>ex=.returned (bH D)/\Bw w w':=by
 obtain⟨Z,hZ⟩:=aB (iv s l*iv t m);have hx1:l.length<=16384:=hx.1;have hy1:m.length<=16384:=hy.1;have hx2: -16384<=e/\e<=16384:=hx.2;have hy2: -16384<=f/\f<=16384:=hy.2;have hl:(nt Z.natAbs).length<=32768:=by
  have:Z.natAbs=nv l*nv m:=by rw[<-hZ,Int.natAbs_mul,nH,nH]
  rw[this];exact Nat.le_trans (Yf l m) zo
 have h1:=λW=>alK s l t m Z hZ W zo zo;have h2:=λW=>AX (ar Z) (nt Z.natAbs) (e+f) D (by rw[uR,<-hZ,<-hD];unfold aC;rw[vW,show-(e+f)= -e+ -f by omega]) W zo zo;obtain⟨H1,H2⟩:=aM h1 h2;have hwr:IntKind.i64.wrap (e+f)=e+f:=by rw[IntKind.wrap_i64];omega
 clear h1 h2 hD hZ hl hx hy hx1 hy1;generalize ar Z=v at*;generalize nt Z.natAbs=n at*;obtain⟨W,dw,Hb,Hx,Hy,Hr⟩:=rC w 30 [.bool s,.string (bs l),.int .i64 e] 30 [.bool t,.string (bs m),.int .i64 f] 30 [.bool false,.string ⟨#[]⟩,.int .i64 0];obtain⟨x0,x1,x2⟩:=Hx.out.c3;obtain⟨y0,y1,y2⟩:=Hy.out.c3;obtain⟨r0,ai,r1,aj,r2,aG⟩:=Hr.out.g3;go_enter Tryz.func83,Tryz.ntmps83;go_wp2_with fail;refine bM (λw'=>w'.cell? ⟨w.heap.size,0,none⟩=some (.bool s)/\w'.cell? ⟨w.heap.size,1,none⟩=some (.string (bs l))/\w'.cell? ⟨w.heap.size,2,none⟩=some (.int .i64 e)/\w'.cell? ⟨w.heap.size+1,0,none⟩=some (.bool t)/\w'.cell? ⟨w.heap.size+1,1,none⟩=some (.string (bs m))/\w'.cell? ⟨w.heap.size+1,2,none⟩=some (.int .i64 f)) (λi=>Nat.blt i 11) [(0,true),(1,true),(2,true),(3,true),(5,true),(6,true),(7,true),(8,true),(9,true),(4,false),(10,false),(11,false)] zk zk rfl zk zc ⟨x0,x1,x2,y0,y1,y2⟩ ?_;iterate 9 (refine pT rfl rfl ?_ (by intro w' ⟨q0,q1,q2,q3,q4,q5⟩;go_simp;try with_reducible rfl);try simp only[UU])
 refine aI rfl rfl (λK hK=>?_);go_simp;with_reducible refine(H1.out _).mono ?_
 rintro e w1 ⟨rfl,hq⟩;have ae:Bw W w1:=by first|exact hq|exact aV hq
 clear x0 x1 x2 y0 y1 y2 r0 ai r1 aj r2 aG;replace Hx:=kB Hx ae;replace Hy:=kB Hy ae;replace Hr:=kB Hr ae;obtain⟨x0,x1,x2⟩:=Hx.out.c3;obtain⟨y0,y1,y2⟩:=Hy.out.c3;obtain⟨r0,ai,r1,aj,r2,aG⟩:=Hr.out.g3;replace Hb:=az Hb ae;clear ae;refine hK _ _ (λ_=>⟨x0,x1,x2,y0,y1,y2⟩) ?_;clear hK K;try simp only[UU]
 refine aI rfl rfl (λK hK=>?_);go_simp;with_reducible refine(H2.out _).mono ?_
 rintro e w2 ⟨rfl,hq⟩;have ae:Bw w1 w2:=by first|exact hq|exact aV hq
 clear x0 x1 x2 y0 y1 y2 r0 ai r1 aj r2 aG;replace Hx:=kB Hx ae;replace Hy:=kB Hy ae;replace Hr:=kB Hr ae;obtain⟨x0,x1,x2⟩:=Hx.out.c3;obtain⟨y0,y1,y2⟩:=Hy.out.c3;obtain⟨r0,ai,r1,aj,r2,aG⟩:=Hr.out.g3;replace Hb:=az Hb ae;clear ae;refine hK _ _ (λ_=>⟨x0,x1,x2,y0,y1,y2⟩) ?_;clear hK K;try simp only[UU]
 refine aI rfl rfl (λK hK=>?_);go_simp;refine hK _ _ (λh=>absurd h zd) ?_;clear hK K;try simp only[UU]
 clear x0 x1 x2 y0 y1 y2 r0 ai r1 aj r2 aG;refine bO (bK w2 (w.heap.size+1+1) 0 [.bool (ar (dN D)),.string (bs (nt (dN D).natAbs)),.int .i64 (dE D)]) bV ?_;intro w9 hs;replace Hx:=kS Hx hs zo;replace Hy:=kS Hy hs zo;replace Hr:=cF Hr hs;obtain⟨x0,x1,x2⟩:=Hx.out.c3;obtain⟨y0,y1,y2⟩:=Hy.out.c3;obtain⟨r0,ai,r1,aj,r2,aG⟩:=Hr.out.g3;replace Hb:=bS Hb hs ZS;clear hs;simp only[aZ];go_wp2;refine bodyPost_ret (v:=bH D) (by simp[results,Tryz.results83,go_sem,r0,r1,r2]) rfl ⟨rfl,?_⟩;(repeat first|exact Hb.out| (refine Below.setCell ?_ (by have:=Hb.out.size;first| (dsimp only;omega) | (show _<=_;omega) | (simp<;>omega)) _) | (refine Below.alloc ?_ zt _) |refine Below.drew ?_)
theorem Yh (n:Nat):n<256^(nt n).length:=by have:=fT (nt n);rwa [jb]at this
theorem akO (A C S:Dyadic)(hS:A+C=S)(p:Nat)(hp:dE A-dE C=(p:Int))(Z1 Z:Int)(h1:dN A*2^p=Z1)(h2:Z1+dN C=Z):aC (ar Z,nt Z.natAbs,dE C)=S:=by
 rw[uR,<-h2,<-h1,<-yC,<-hS];congr 1
 . have:=uf (dN A) p (-(dE A));rw[show-(dE C)= -(dE A)+(p:Int)by omega,this];exact(sF A).symm
 . exact(sF C).symm
theorem Ph (s:Bool)(l:List UInt8)(e:Int)(t:Bool)(m:List UInt8)(f:Int)(S:Dyadic)(hS:aC (s,l,e)+aC (t,m,f)=S)(w:World)(hx:eZ (s,l,e))(hy:eZ (t,m,f)):
 Calls Tryz.prog 54 #[.agg #[.bool s,.string (bs l),.int .i64 e],.agg #[.bool t,.string (bs m),.int .i64 f]] w λex w'=>ex=.returned (bH S)/\Bw w w':=by
 obtain⟨A,hA⟩:=aB (aC (s,l,e));obtain⟨C,hC⟩:=aB (aC (t,m,f));have qN:=hx.sm;have zS:=hy.sm;rw[hA]at qN;rw[hC]at zS;obtain⟨a1,a2,a3⟩:=qN.parts;obtain⟨c1,c2,c3⟩:=zS.parts;have la:(nt (dN A).natAbs).length<=65536:=ki a1 zo;have lc:(nt (dN C).natAbs).length<=65536:=ki c1 zo;have dL:=λW=>yG s l e A hA W hx;have jZ:=λW=>yG t m f C hC W hy;rw[hA,hC]at hS;have vD:=λW=>yH (ar (dN A)) (nt (dN A).natAbs) (dE A) (bZ A) (by show bZ (aC (canon A))=_;rw[bP]) W zo;have xZ:=λW=>yH (ar (dN C)) (nt (dN C).natAbs) (dE C) (bZ C) (by show bZ (aC (canon C))=_;rw[bP]) W zo;have Aa:(bZ A==0)=true↔A=0:=by rw[<-Bool.not_eq_false];rw[xq];simp
 have Ab:(bZ C==0)=true↔C=0:=by rw[<-Bool.not_eq_false];rw[xq];simp
 have hpl:=λ(A C:Dyadic) (hS:A+C=S) (LP:(nt (dN A).natAbs).length<=65536) (TW:(nt (dN C).natAbs).length<=65536) (p:Nat) (hp:dE A-dE C=(p:Int)) (DF:p<=524288) (zR: -262144<=dE C/\dE C<=262144)=>(show ∃Z1 Z:Int,(∀W,Calls Tryz.prog 91 #[.agg #[.bool (ar (dN A)),.string (bs (nt (dN A).natAbs))],.int .i64 (p:Int)] W λe w'=>e=.returned (.agg #[.bool (ar Z1),.string (bs (nt Z1.natAbs))])/\Bw W w')/\(∀W,Calls Tryz.prog 90 #[.agg #[.bool (ar Z1),.string (bs (nt Z1.natAbs))],.agg #[.bool (ar (dN C)),.string (bs (nt (dN C).natAbs))]] W λe w'=>e=.returned (.agg #[.bool (ar Z),.string (bs (nt Z.natAbs))])/\Bw W w')/\(∀W,Calls Tryz.prog 79 #[.agg #[.bool (ar Z),.string (bs (nt Z.natAbs))],.int .i64 (dE C)] W λe w'=>e=.returned (bH S)/\Bw W w')from by
  obtain⟨Z1,h1⟩:=aB (dN A*2^p);obtain⟨Z,h2⟩:=aB (Z1+dN C);have l1:(nt Z1.natAbs).length<=589824:=by
   have e1:Z1.natAbs=nv (nt (dN A).natAbs) *2^p:=by rw[<-h1,Int.natAbs_mul,jb];simp[Int.natAbs_pow]
   rw[e1];exact Nat.le_trans (Yg _ p) zo
  have l2:(nt Z.natAbs).length<=589825:=by
   obtain⟨K,hK⟩:=aB (589824);rw[hK]at l1;have lcK:(nt (dN C).natAbs).length<=K:=by omega
   have hle:(nt Z.natAbs).length<=K+1:=by
    refine ja ?_;have b1:Z1.natAbs<256^K:=Nat.lt_of_lt_of_le (Yh _) (Nat.pow_le_pow_right zd l1);have b2:(dN C).natAbs<256^K:=Nat.lt_of_lt_of_le (Yh _) (Nat.pow_le_pow_right zd lcK);have b3:Z.natAbs<=Z1.natAbs+(dN C).natAbs:=by rw[<-h2];exact Int.natAbs_add_le _ _
    rw[Nat.pow_succ];omega
   omega
  refine⟨Z1,Z,λW=>alD _ _ p Z1 (by rw[ft];exact h1) W zo zo,λW=>aly _ _ _ _ Z (by rw[ft,ft];exact h2) W zo zo,λW=>AX _ _ (dE C) S (akO A C S hS p hp Z1 Z h1 h2) W zo zo⟩)
 have xY:=hpl;by_cases rR:A=0
 . have zA:=Aa.2 rR;have LV:C=S:=by rw[<-hS,rR];grind
   subst LV;obtain⟨iT,mn,wV⟩:=cX dL jZ vD;clear dL jZ vD xZ hpl xY Aa Ab rR hA hC hS qN zS a1 a2 a3 c1 c2 c3 la lc hx hy;obtain⟨W,dw,Hb,Hx,Hy,Hr⟩:=rC w 30 [.bool s,.string (bs l),.int .i64 e] 30 [.bool t,.string (bs m),.int .i64 f] 30 [.bool false,.string ⟨#[]⟩,.int .i64 0];obtain⟨x0,aX,x1,aY,x2,bi⟩:=Hx.out.g3;obtain⟨y0,aR,y1,aS,y2,aW⟩:=Hy.out.g3;obtain⟨r0,ai,r1,aj,r2,aG⟩:=Hr.out.g3;go_enter Tryz.func54,Tryz.ntmps54;go_wp2_with fail;refine bM (λw'=>w'.cell? ⟨w.heap.size,0,none⟩=some (.bool s)/\w'.cell? ⟨w.heap.size,1,none⟩=some (.string (bs l))/\w'.cell? ⟨w.heap.size,2,none⟩=some (.int .i64 e)/\w'.cell? ⟨w.heap.size+1,0,none⟩=some (.bool t)/\w'.cell? ⟨w.heap.size+1,1,none⟩=some (.string (bs m))/\w'.cell? ⟨w.heap.size+1,2,none⟩=some (.int .i64 f)) (λi=>Nat.blt i 4) [(0,true),(2,true),(1,false),(3,false),(4,false),(5,false)] zk zk rfl zk zc ⟨x0,x1,x2,y0,y1,y2⟩ ?_;iterate 2 (refine pT rfl rfl ?_ (by intro w' ⟨q0,q1,q2,q3,q4,q5⟩;go_simp;try with_reducible rfl);try simp only[UU])
   refine aI rfl rfl (λK hK=>?_);go_simp;with_reducible refine(iT.out _).mono ?_
   rintro e w1 ⟨rfl,hq⟩;have ae:Bw W w1:=by first|exact hq|exact aV hq
   clear x0 aX x1 aY x2 bi y0 aR y1 aS y2 aW r0 ai r1 aj r2 aG;replace Hx:=kB Hx ae;replace Hy:=kB Hy ae;replace Hr:=kB Hr ae;obtain⟨x0,aX,x1,aY,x2,bi⟩:=Hx.out.g3;obtain⟨y0,aR,y1,aS,y2,aW⟩:=Hy.out.g3;obtain⟨r0,ai,r1,aj,r2,aG⟩:=Hr.out.g3;replace Hb:=az Hb ae;clear ae;refine hK _ _ (λ_=>⟨x0,x1,x2,y0,y1,y2⟩) ?_;clear hK K;try simp only[UU]
   refine aI rfl rfl (λK hK=>?_);go_simp;with_reducible refine(mn.out _).mono ?_
   rintro e w2 ⟨rfl,hq⟩;have ae:Bw w1 w2:=by first|exact hq|exact aV hq
   clear x0 aX x1 aY x2 bi y0 aR y1 aS y2 aW r0 ai r1 aj r2 aG;replace Hx:=kB Hx ae;replace Hy:=kB Hy ae;replace Hr:=kB Hr ae;obtain⟨x0,aX,x1,aY,x2,bi⟩:=Hx.out.g3;obtain⟨y0,aR,y1,aS,y2,aW⟩:=Hy.out.g3;obtain⟨r0,ai,r1,aj,r2,aG⟩:=Hr.out.g3;replace Hb:=az Hb ae;clear ae;refine hK _ _ (λ_=>⟨x0,x1,x2,y0,y1,y2⟩) ?_;clear hK K;try simp only[UU]
   refine aI rfl rfl (λK hK=>?_);go_simp;refine hK _ _ (λh=>absurd h zd) ?_;clear hK K;try simp only[UU]
   clear x0 aX x1 aY x2 bi y0 aR y1 aS y2 aW r0 ai r1 aj r2 aG;refine bO (bK w2 (w.heap.size) 0 [.bool (ar (dN A)),.string (bs (nt (dN A).natAbs)),.int .i64 (dE A)]) bV ?_;intro w3 hs;replace Hx:=cF Hx hs;replace Hy:=kS Hy hs zo;replace Hr:=kS Hr hs zo;obtain⟨x0,aX,x1,aY,x2,bi⟩:=Hx.out.g3;obtain⟨y0,aR,y1,aS,y2,aW⟩:=Hy.out.g3;obtain⟨r0,ai,r1,aj,r2,aG⟩:=Hr.out.g3;replace Hb:=bS Hb hs ZS;clear hs;refine aI rfl rfl (λK hK=>?_);go_simp;refine hK _ _ (λh=>absurd h zd) ?_;clear hK K;try simp only[UU]
   clear x0 aX x1 aY x2 bi y0 aR y1 aS y2 aW r0 ai r1 aj r2 aG;refine bO (bK w3 (w.heap.size+1) 0 [.bool (ar (dN C)),.string (bs (nt (dN C).natAbs)),.int .i64 (dE C)]) bV ?_;intro w4 hs;replace Hx:=kS Hx hs zo;replace Hy:=cF Hy hs;replace Hr:=kS Hr hs zo;obtain⟨x0,aX,x1,aY,x2,bi⟩:=Hx.out.g3;obtain⟨y0,aR,y1,aS,y2,aW⟩:=Hy.out.g3;obtain⟨r0,ai,r1,aj,r2,aG⟩:=Hr.out.g3;replace Hb:=bS Hb hs ZS;clear hs;simp only[aZ];go_wp2_with fail;refine(wV.out _).mono ?_;rintro e w5 ⟨rfl,ae⟩;clear x0 aX x1 aY x2 bi y0 aR y1 aS y2 aW r0 ai r1 aj r2 aG;replace Hx:=kB Hx ae;replace Hy:=kB Hy ae;replace Hr:=kB Hr ae;obtain⟨x0,aX,x1,aY,x2,bi⟩:=Hx.out.g3;obtain⟨y0,aR,y1,aS,y2,aW⟩:=Hy.out.g3;obtain⟨r0,ai,r1,aj,r2,aG⟩:=Hr.out.g3;replace Hb:=az Hb ae;clear ae;go_wp2;clear x0 aX x1 aY x2 bi y0 aR y1 aS y2 aW r0 ai r1 aj r2 aG;refine fy (bK w5 (w.heap.size+1+1) 0 [.bool (ar (dN C)),.string (bs (nt (dN C).natAbs)),.int .i64 (dE C)]) bV ?_;intro w9 hs;replace Hx:=kS Hx hs zo;replace Hy:=kS Hy hs zo;replace Hr:=cF Hr hs;obtain⟨x0,aX,x1,aY,x2,bi⟩:=Hx.out.g3;obtain⟨y0,aR,y1,aS,y2,aW⟩:=Hy.out.g3;obtain⟨r0,ai,r1,aj,r2,aG⟩:=Hr.out.g3;replace Hb:=bS Hb hs ZS;clear hs;refine bodyPost_ret (v:=bH C) (by simp[results,Tryz.results54,go_sem,r0,r1,r2]) rfl ⟨rfl,Hb.out⟩
 have zA:(bZ A==0)=false:=by rw[<-Bool.not_eq_true];exact λh=>rR (Aa.1 h)
 by_cases nW:C=0
 . have zC:=Ab.2 nW;have LV:A=S:=by rw[<-hS,nW];grind
   subst LV;obtain⟨iT,mn,wV,Cc⟩:=dS dL jZ vD xZ;clear dL jZ vD xZ hpl xY Aa Ab rR nW hA hC hS qN zS a1 a2 a3 c1 c2 c3 la lc hx hy;obtain⟨W,dw,Hb,Hx,Hy,Hr⟩:=rC w 30 [.bool s,.string (bs l),.int .i64 e] 30 [.bool t,.string (bs m),.int .i64 f] 30 [.bool false,.string ⟨#[]⟩,.int .i64 0];obtain⟨x0,aX,x1,aY,x2,bi⟩:=Hx.out.g3;obtain⟨y0,aR,y1,aS,y2,aW⟩:=Hy.out.g3;obtain⟨r0,ai,r1,aj,r2,aG⟩:=Hr.out.g3;go_enter Tryz.func54,Tryz.ntmps54;go_wp2_with fail;refine bM (λw'=>w'.cell? ⟨w.heap.size,0,none⟩=some (.bool s)/\w'.cell? ⟨w.heap.size,1,none⟩=some (.string (bs l))/\w'.cell? ⟨w.heap.size,2,none⟩=some (.int .i64 e)/\w'.cell? ⟨w.heap.size+1,0,none⟩=some (.bool t)/\w'.cell? ⟨w.heap.size+1,1,none⟩=some (.string (bs m))/\w'.cell? ⟨w.heap.size+1,2,none⟩=some (.int .i64 f)) (λi=>Nat.blt i 4) [(0,true),(2,true),(1,false),(3,false),(4,false),(5,false)] zk zk rfl zk zc ⟨x0,x1,x2,y0,y1,y2⟩ ?_;iterate 2 (refine pT rfl rfl ?_ (by intro w' ⟨q0,q1,q2,q3,q4,q5⟩;go_simp;try with_reducible rfl);try simp only[UU])
   refine aI rfl rfl (λK hK=>?_);go_simp;with_reducible refine(iT.out _).mono ?_
   rintro e w1 ⟨rfl,hq⟩;have ae:Bw W w1:=by first|exact hq|exact aV hq
   clear x0 aX x1 aY x2 bi y0 aR y1 aS y2 aW r0 ai r1 aj r2 aG;replace Hx:=kB Hx ae;replace Hy:=kB Hy ae;replace Hr:=kB Hr ae;obtain⟨x0,aX,x1,aY,x2,bi⟩:=Hx.out.g3;obtain⟨y0,aR,y1,aS,y2,aW⟩:=Hy.out.g3;obtain⟨r0,ai,r1,aj,r2,aG⟩:=Hr.out.g3;replace Hb:=az Hb ae;clear ae;refine hK _ _ (λ_=>⟨x0,x1,x2,y0,y1,y2⟩) ?_;clear hK K;try simp only[UU]
   refine aI rfl rfl (λK hK=>?_);go_simp;with_reducible refine(mn.out _).mono ?_
   rintro e w2 ⟨rfl,hq⟩;have ae:Bw w1 w2:=by first|exact hq|exact aV hq
   clear x0 aX x1 aY x2 bi y0 aR y1 aS y2 aW r0 ai r1 aj r2 aG;replace Hx:=kB Hx ae;replace Hy:=kB Hy ae;replace Hr:=kB Hr ae;obtain⟨x0,aX,x1,aY,x2,bi⟩:=Hx.out.g3;obtain⟨y0,aR,y1,aS,y2,aW⟩:=Hy.out.g3;obtain⟨r0,ai,r1,aj,r2,aG⟩:=Hr.out.g3;replace Hb:=az Hb ae;clear ae;refine hK _ _ (λ_=>⟨x0,x1,x2,y0,y1,y2⟩) ?_;clear hK K;try simp only[UU]
   refine aI rfl rfl (λK hK=>?_);go_simp;refine hK _ _ (λh=>absurd h zd) ?_;clear hK K;try simp only[UU]
   clear x0 aX x1 aY x2 bi y0 aR y1 aS y2 aW r0 ai r1 aj r2 aG;refine bO (bK w2 (w.heap.size) 0 [.bool (ar (dN A)),.string (bs (nt (dN A).natAbs)),.int .i64 (dE A)]) bV ?_;intro w3 hs;replace Hx:=cF Hx hs;replace Hy:=kS Hy hs zo;replace Hr:=kS Hr hs zo;obtain⟨x0,aX,x1,aY,x2,bi⟩:=Hx.out.g3;obtain⟨y0,aR,y1,aS,y2,aW⟩:=Hy.out.g3;obtain⟨r0,ai,r1,aj,r2,aG⟩:=Hr.out.g3;replace Hb:=bS Hb hs ZS;clear hs;refine aI rfl rfl (λK hK=>?_);go_simp;refine hK _ _ (λh=>absurd h zd) ?_;clear hK K;try simp only[UU]
   clear x0 aX x1 aY x2 bi y0 aR y1 aS y2 aW r0 ai r1 aj r2 aG;refine bO (bK w3 (w.heap.size+1) 0 [.bool (ar (dN C)),.string (bs (nt (dN C).natAbs)),.int .i64 (dE C)]) bV ?_;intro w4 hs;replace Hx:=kS Hx hs zo;replace Hy:=cF Hy hs;replace Hr:=kS Hr hs zo;obtain⟨x0,aX,x1,aY,x2,bi⟩:=Hx.out.g3;obtain⟨y0,aR,y1,aS,y2,aW⟩:=Hy.out.g3;obtain⟨r0,ai,r1,aj,r2,aG⟩:=Hr.out.g3;replace Hb:=bS Hb hs ZS;clear hs;simp only[aZ];go_wp2_with fail;refine(wV.out _).mono ?_;rintro e w5 ⟨rfl,ae⟩;clear x0 aX x1 aY x2 bi y0 aR y1 aS y2 aW r0 ai r1 aj r2 aG;replace Hx:=kB Hx ae;replace Hy:=kB Hy ae;replace Hr:=kB Hr ae;obtain⟨x0,aX,x1,aY,x2,bi⟩:=Hx.out.g3;obtain⟨y0,aR,y1,aS,y2,aW⟩:=Hy.out.g3;obtain⟨r0,ai,r1,aj,r2,aG⟩:=Hr.out.g3;replace Hb:=az Hb ae;clear ae;go_wp2_with fail;refine(Cc.out _).mono ?_;rintro e w6 ⟨rfl,ae⟩;clear x0 aX x1 aY x2 bi y0 aR y1 aS y2 aW r0 ai r1 aj r2 aG;replace Hx:=kB Hx ae;replace Hy:=kB Hy ae;replace Hr:=kB Hr ae;obtain⟨x0,aX,x1,aY,x2,bi⟩:=Hx.out.g3;obtain⟨y0,aR,y1,aS,y2,aW⟩:=Hy.out.g3;obtain⟨r0,ai,r1,aj,r2,aG⟩:=Hr.out.g3;replace Hb:=az Hb ae;clear ae;go_wp2;clear x0 aX x1 aY x2 bi y0 aR y1 aS y2 aW r0 ai r1 aj r2 aG;refine fy (bK w6 (w.heap.size+1+1) 0 [.bool (ar (dN A)),.string (bs (nt (dN A).natAbs)),.int .i64 (dE A)]) bV ?_;intro w9 hs;replace Hx:=kS Hx hs zo;replace Hy:=kS Hy hs zo;replace Hr:=cF Hr hs;obtain⟨x0,aX,x1,aY,x2,bi⟩:=Hx.out.g3;obtain⟨y0,aR,y1,aS,y2,aW⟩:=Hy.out.g3;obtain⟨r0,ai,r1,aj,r2,aG⟩:=Hr.out.g3;replace Hb:=bS Hb hs ZS;clear hs;refine bodyPost_ret (v:=bH A) (by simp[results,Tryz.results54,go_sem,r0,r1,r2]) rfl ⟨rfl,Hb.out⟩
 have zC:(bZ C==0)=false:=by rw[<-Bool.not_eq_true];exact λh=>nW (Ab.1 h)
 by_cases hEE:dE A<dE C
 . obtain⟨p,hp⟩:∃p:Nat,dE C-dE A=(p:Int):=⟨(dE C-dE A).toNat,by omega⟩;obtain⟨Z1,Z,g1,g2,g3⟩:=hpl C A (by rw[<-hS];grind) lc la p hp zo zo;have hwr:IntKind.i64.wrap (dE C-dE A)=(p:Int):=by rw[IntKind.wrap_i64];omega
   obtain⟨iT,mn,wV,Cc,G1,G2,G3⟩:=oH dL jZ vD xZ g1 g2 g3;clear dL jZ vD xZ hpl xY Aa Ab rR nW hA hC hS qN zS a1 a2 a3 c1 c2 c3 la lc hx hy g1 g2 g3 hp;obtain⟨W,dw,Hb,Hx,Hy,Hr⟩:=rC w 30 [.bool s,.string (bs l),.int .i64 e] 30 [.bool t,.string (bs m),.int .i64 f] 30 [.bool false,.string ⟨#[]⟩,.int .i64 0];obtain⟨x0,aX,x1,aY,x2,bi⟩:=Hx.out.g3;obtain⟨y0,aR,y1,aS,y2,aW⟩:=Hy.out.g3;obtain⟨r0,ai,r1,aj,r2,aG⟩:=Hr.out.g3;go_enter Tryz.func54,Tryz.ntmps54;go_wp2_with fail;refine bM (λw'=>w'.cell? ⟨w.heap.size,0,none⟩=some (.bool s)/\w'.cell? ⟨w.heap.size,1,none⟩=some (.string (bs l))/\w'.cell? ⟨w.heap.size,2,none⟩=some (.int .i64 e)/\w'.cell? ⟨w.heap.size+1,0,none⟩=some (.bool t)/\w'.cell? ⟨w.heap.size+1,1,none⟩=some (.string (bs m))/\w'.cell? ⟨w.heap.size+1,2,none⟩=some (.int .i64 f)) (λi=>Nat.blt i 4) [(0,true),(2,true),(1,false),(3,false),(4,false),(5,false)] zk zk rfl zk zc ⟨x0,x1,x2,y0,y1,y2⟩ ?_;iterate 2 (refine pT rfl rfl ?_ (by intro w' ⟨q0,q1,q2,q3,q4,q5⟩;go_simp;try with_reducible rfl);try simp only[UU])
   refine aI rfl rfl (λK hK=>?_);go_simp;with_reducible refine(iT.out _).mono ?_
   rintro e w1 ⟨rfl,hq⟩;have ae:Bw W w1:=by first|exact hq|exact aV hq
   clear x0 aX x1 aY x2 bi y0 aR y1 aS y2 aW r0 ai r1 aj r2 aG;replace Hx:=kB Hx ae;replace Hy:=kB Hy ae;replace Hr:=kB Hr ae;obtain⟨x0,aX,x1,aY,x2,bi⟩:=Hx.out.g3;obtain⟨y0,aR,y1,aS,y2,aW⟩:=Hy.out.g3;obtain⟨r0,ai,r1,aj,r2,aG⟩:=Hr.out.g3;replace Hb:=az Hb ae;clear ae;refine hK _ _ (λ_=>⟨x0,x1,x2,y0,y1,y2⟩) ?_;clear hK K;try simp only[UU]
   refine aI rfl rfl (λK hK=>?_);go_simp;with_reducible refine(mn.out _).mono ?_
   rintro e w2 ⟨rfl,hq⟩;have ae:Bw w1 w2:=by first|exact hq|exact aV hq
   clear x0 aX x1 aY x2 bi y0 aR y1 aS y2 aW r0 ai r1 aj r2 aG;replace Hx:=kB Hx ae;replace Hy:=kB Hy ae;replace Hr:=kB Hr ae;obtain⟨x0,aX,x1,aY,x2,bi⟩:=Hx.out.g3;obtain⟨y0,aR,y1,aS,y2,aW⟩:=Hy.out.g3;obtain⟨r0,ai,r1,aj,r2,aG⟩:=Hr.out.g3;replace Hb:=az Hb ae;clear ae;refine hK _ _ (λ_=>⟨x0,x1,x2,y0,y1,y2⟩) ?_;clear hK K;try simp only[UU]
   refine aI rfl rfl (λK hK=>?_);go_simp;refine hK _ _ (λh=>absurd h zd) ?_;clear hK K;try simp only[UU]
   clear x0 aX x1 aY x2 bi y0 aR y1 aS y2 aW r0 ai r1 aj r2 aG;refine bO (bK w2 (w.heap.size) 0 [.bool (ar (dN A)),.string (bs (nt (dN A).natAbs)),.int .i64 (dE A)]) bV ?_;intro w3 hs;replace Hx:=cF Hx hs;replace Hy:=kS Hy hs zo;replace Hr:=kS Hr hs zo;obtain⟨x0,aX,x1,aY,x2,bi⟩:=Hx.out.g3;obtain⟨y0,aR,y1,aS,y2,aW⟩:=Hy.out.g3;obtain⟨r0,ai,r1,aj,r2,aG⟩:=Hr.out.g3;replace Hb:=bS Hb hs ZS;clear hs;refine aI rfl rfl (λK hK=>?_);go_simp;refine hK _ _ (λh=>absurd h zd) ?_;clear hK K;try simp only[UU]
   clear x0 aX x1 aY x2 bi y0 aR y1 aS y2 aW r0 ai r1 aj r2 aG;refine bO (bK w3 (w.heap.size+1) 0 [.bool (ar (dN C)),.string (bs (nt (dN C).natAbs)),.int .i64 (dE C)]) bV ?_;intro w4 hs;replace Hx:=kS Hx hs zo;replace Hy:=cF Hy hs;replace Hr:=kS Hr hs zo;obtain⟨x0,aX,x1,aY,x2,bi⟩:=Hx.out.g3;obtain⟨y0,aR,y1,aS,y2,aW⟩:=Hy.out.g3;obtain⟨r0,ai,r1,aj,r2,aG⟩:=Hr.out.g3;replace Hb:=bS Hb hs ZS;clear hs;simp only[aZ];go_wp2_with fail;refine(wV.out _).mono ?_;rintro e w5 ⟨rfl,ae⟩;clear x0 aX x1 aY x2 bi y0 aR y1 aS y2 aW r0 ai r1 aj r2 aG;replace Hx:=kB Hx ae;replace Hy:=kB Hy ae;replace Hr:=kB Hr ae;obtain⟨x0,aX,x1,aY,x2,bi⟩:=Hx.out.g3;obtain⟨y0,aR,y1,aS,y2,aW⟩:=Hy.out.g3;obtain⟨r0,ai,r1,aj,r2,aG⟩:=Hr.out.g3;replace Hb:=az Hb ae;clear ae;go_wp2_with fail;refine(Cc.out _).mono ?_;rintro e w6 ⟨rfl,ae⟩;clear x0 aX x1 aY x2 bi y0 aR y1 aS y2 aW r0 ai r1 aj r2 aG;replace Hx:=kB Hx ae;replace Hy:=kB Hy ae;replace Hr:=kB Hr ae;obtain⟨x0,aX,x1,aY,x2,bi⟩:=Hx.out.g3;obtain⟨y0,aR,y1,aS,y2,aW⟩:=Hy.out.g3;obtain⟨r0,ai,r1,aj,r2,aG⟩:=Hr.out.g3;replace Hb:=az Hb ae;clear ae;go_wp2_with fail;clear x0 aX x1 aY x2 bi y0 aR y1 aS y2 aW r0 ai r1 aj r2 aG;obtain⟨R,hR⟩:∃R:World->Prop,(λw7=>ak w7 (w.heap.size) 30 [.bool (ar (dN C)),.string (bs (nt (dN C).natAbs)),.int .i64 (dE C)]/\ak w7 (w.heap.size+1) 30 [.bool (ar (dN A)),.string (bs (nt (dN A).natAbs)),.int .i64 (dE A)]/\ak w7 (w.heap.size+1+1) 30 [.bool false,.string ⟨#[]⟩,.int .i64 0]/\Bw w w7)=R:=⟨_,rfl⟩;first|refine bN R ?hR ?_|refine bL R ?hR ?_
   case hR=>subst hR;exact⟨((((((Hx.out.set 0 _).set 1 _).set 2 _).so (w.heap.size+1) 0 zo _).so (w.heap.size+1) 1 zo _).so (w.heap.size+1) 2 zo _),((((((Hy.out.so (w.heap.size) 0 zo _).so (w.heap.size) 1 zo _).so (w.heap.size) 2 zo _).set 0 _).set 1 _).set 2 _),((((((Hr.out.so (w.heap.size) 0 zo _).so (w.heap.size) 1 zo _).so (w.heap.size) 2 zo _).so (w.heap.size+1) 0 zo _).so (w.heap.size+1) 1 zo _).so (w.heap.size+1) 2 zo _),((((((Hb.out.sc (w.heap.size) 0 ZS _).sc (w.heap.size) 1 ZS _).sc (w.heap.size) 2 ZS _).sc (w.heap.size+1) 0 ZS _).sc (w.heap.size+1) 1 ZS _).sc (w.heap.size+1) 2 ZS _)⟩
   subst hR;rintro w7 ⟨qx,qy,qr,ae⟩;replace Hx:=ah qx;clear qx;replace Hy:=ah qy;clear qy;replace Hr:=ah qr;clear qr;obtain⟨x0,aX,x1,aY,x2,bi⟩:=Hx.out.g3;obtain⟨y0,aR,y1,aS,y2,aW⟩:=Hy.out.g3;obtain⟨r0,ai,r1,aj,r2,aG⟩:=Hr.out.g3;replace Hb:=ah ae;clear ae;refine bM (λw'=>w'.cell? ⟨w.heap.size,0,none⟩=some (.bool (ar (dN C)))/\w'.cell? ⟨w.heap.size,1,none⟩=some (.string (bs (nt (dN C).natAbs)))/\w'.cell? ⟨w.heap.size,2,none⟩=some (.int .i64 (dE C))/\w'.cell? ⟨w.heap.size+1,0,none⟩=some (.bool (ar (dN A)))/\w'.cell? ⟨w.heap.size+1,1,none⟩=some (.string (bs (nt (dN A).natAbs)))/\w'.cell? ⟨w.heap.size+1,2,none⟩=some (.int .i64 (dE A))) (λi=>Nat.blt i 14) [(0,true),(1,true),(2,true),(3,true),(4,true),(5,true),(6,true),(8,true),(9,true),(11,true),(12,true),(7,false),(10,false),(13,false),(14,false)] zk zk rfl zk zc ⟨x0,x1,x2,y0,y1,y2⟩ ?_;iterate 11 (refine pT rfl rfl ?_ (by intro w' ⟨q0,q1,q2,q3,q4,q5⟩;go_simp;try with_reducible rfl);try simp only[UU])
   refine aI rfl rfl (λK hK=>?_);go_simp;with_reducible refine(G1.out _).mono ?_
   rintro e il ⟨rfl,hq⟩;have ae:Bw w7 il:=by first|exact hq|exact aV hq
   clear x0 aX x1 aY x2 bi y0 aR y1 aS y2 aW r0 ai r1 aj r2 aG;replace Hx:=kB Hx ae;replace Hy:=kB Hy ae;replace Hr:=kB Hr ae;obtain⟨x0,aX,x1,aY,x2,bi⟩:=Hx.out.g3;obtain⟨y0,aR,y1,aS,y2,aW⟩:=Hy.out.g3;obtain⟨r0,ai,r1,aj,r2,aG⟩:=Hr.out.g3;replace Hb:=az Hb ae;clear ae;refine hK _ _ (λ_=>⟨x0,x1,x2,y0,y1,y2⟩) ?_;clear hK K;try simp only[UU]
   refine aI rfl rfl (λK hK=>?_);go_simp;with_reducible refine(G2.out _).mono ?_
   rintro e gW ⟨rfl,hq⟩;have ae:Bw il gW:=by first|exact hq|exact aV hq
   clear x0 aX x1 aY x2 bi y0 aR y1 aS y2 aW r0 ai r1 aj r2 aG;replace Hx:=kB Hx ae;replace Hy:=kB Hy ae;replace Hr:=kB Hr ae;obtain⟨x0,aX,x1,aY,x2,bi⟩:=Hx.out.g3;obtain⟨y0,aR,y1,aS,y2,aW⟩:=Hy.out.g3;obtain⟨r0,ai,r1,aj,r2,aG⟩:=Hr.out.g3;replace Hb:=az Hb ae;clear ae;refine hK _ _ (λ_=>⟨x0,x1,x2,y0,y1,y2⟩) ?_;clear hK K;try simp only[UU]
   refine aI rfl rfl (λK hK=>?_);go_simp;with_reducible refine(G3.out _).mono ?_
   rintro e kw ⟨rfl,hq⟩;have ae:Bw gW kw:=by first|exact hq|exact aV hq
   clear x0 aX x1 aY x2 bi y0 aR y1 aS y2 aW r0 ai r1 aj r2 aG;replace Hx:=kB Hx ae;replace Hy:=kB Hy ae;replace Hr:=kB Hr ae;obtain⟨x0,aX,x1,aY,x2,bi⟩:=Hx.out.g3;obtain⟨y0,aR,y1,aS,y2,aW⟩:=Hy.out.g3;obtain⟨r0,ai,r1,aj,r2,aG⟩:=Hr.out.g3;replace Hb:=az Hb ae;clear ae;refine hK _ _ (λ_=>⟨x0,x1,x2,y0,y1,y2⟩) ?_;clear hK K;try simp only[UU]
   refine aI rfl rfl (λK hK=>?_);go_simp;refine hK _ _ (λh=>absurd h zd) ?_;clear hK K;try simp only[UU]
   clear x0 aX x1 aY x2 bi y0 aR y1 aS y2 aW r0 ai r1 aj r2 aG;refine bO (bK kw (w.heap.size+1+1) 0 [.bool (ar (dN S)),.string (bs (nt (dN S).natAbs)),.int .i64 (dE S)]) bV ?_;intro w19 hs;replace Hx:=kS Hx hs zo;replace Hy:=kS Hy hs zo;replace Hr:=cF Hr hs;obtain⟨x0,aX,x1,aY,x2,bi⟩:=Hx.out.g3;obtain⟨y0,aR,y1,aS,y2,aW⟩:=Hy.out.g3;obtain⟨r0,ai,r1,aj,r2,aG⟩:=Hr.out.g3;replace Hb:=bS Hb hs ZS;clear hs;simp only[aZ];go_wp2;refine bodyPost_ret (v:=bH S) (by simp[results,Tryz.results54,go_sem,r0,r1,r2]) rfl ⟨rfl,?_⟩;(repeat first|exact Hb.out| (refine Below.setCell ?_ (by have:=Hb.out.size;first| (dsimp only;omega) | (show _<=_;omega) | (simp<;>omega)) _) | (refine Below.alloc ?_ zt _) |refine Below.drew ?_)
 . obtain⟨p,hp⟩:∃p:Nat,dE A-dE C=(p:Int):=⟨(dE A-dE C).toNat,by omega⟩;obtain⟨Z1,Z,g1,g2,g3⟩:=hpl A C hS la lc p hp zo zo;have hwr:IntKind.i64.wrap (dE A-dE C)=(p:Int):=by rw[IntKind.wrap_i64];omega
   obtain⟨iT,mn,wV,Cc,G1,G2,G3⟩:=oH dL jZ vD xZ g1 g2 g3;clear dL jZ vD xZ hpl xY Aa Ab rR nW hA hC hS qN zS a1 a2 a3 c1 c2 c3 la lc hx hy g1 g2 g3 hp;obtain⟨W,dw,Hb,Hx,Hy,Hr⟩:=rC w 30 [.bool s,.string (bs l),.int .i64 e] 30 [.bool t,.string (bs m),.int .i64 f] 30 [.bool false,.string ⟨#[]⟩,.int .i64 0];obtain⟨x0,aX,x1,aY,x2,bi⟩:=Hx.out.g3;obtain⟨y0,aR,y1,aS,y2,aW⟩:=Hy.out.g3;obtain⟨r0,ai,r1,aj,r2,aG⟩:=Hr.out.g3;go_enter Tryz.func54,Tryz.ntmps54;go_wp2_with fail;refine bM (λw'=>w'.cell? ⟨w.heap.size,0,none⟩=some (.bool s)/\w'.cell? ⟨w.heap.size,1,none⟩=some (.string (bs l))/\w'.cell? ⟨w.heap.size,2,none⟩=some (.int .i64 e)/\w'.cell? ⟨w.heap.size+1,0,none⟩=some (.bool t)/\w'.cell? ⟨w.heap.size+1,1,none⟩=some (.string (bs m))/\w'.cell? ⟨w.heap.size+1,2,none⟩=some (.int .i64 f)) (λi=>Nat.blt i 4) [(0,true),(2,true),(1,false),(3,false),(4,false),(5,false)] zk zk rfl zk zc ⟨x0,x1,x2,y0,y1,y2⟩ ?_;iterate 2 (refine pT rfl rfl ?_ (by intro w' ⟨q0,q1,q2,q3,q4,q5⟩;go_simp;try with_reducible rfl);try simp only[UU])
   refine aI rfl rfl (λK hK=>?_);go_simp;with_reducible refine(iT.out _).mono ?_
   rintro e w1 ⟨rfl,hq⟩;have ae:Bw W w1:=by first|exact hq|exact aV hq
   clear x0 aX x1 aY x2 bi y0 aR y1 aS y2 aW r0 ai r1 aj r2 aG;replace Hx:=kB Hx ae;replace Hy:=kB Hy ae;replace Hr:=kB Hr ae;obtain⟨x0,aX,x1,aY,x2,bi⟩:=Hx.out.g3;obtain⟨y0,aR,y1,aS,y2,aW⟩:=Hy.out.g3;obtain⟨r0,ai,r1,aj,r2,aG⟩:=Hr.out.g3;replace Hb:=az Hb ae;clear ae;refine hK _ _ (λ_=>⟨x0,x1,x2,y0,y1,y2⟩) ?_;clear hK K;try simp only[UU]
   refine aI rfl rfl (λK hK=>?_);go_simp;with_reducible refine(mn.out _).mono ?_
   rintro e w2 ⟨rfl,hq⟩;have ae:Bw w1 w2:=by first|exact hq|exact aV hq
   clear x0 aX x1 aY x2 bi y0 aR y1 aS y2 aW r0 ai r1 aj r2 aG;replace Hx:=kB Hx ae;replace Hy:=kB Hy ae;replace Hr:=kB Hr ae;obtain⟨x0,aX,x1,aY,x2,bi⟩:=Hx.out.g3;obtain⟨y0,aR,y1,aS,y2,aW⟩:=Hy.out.g3;obtain⟨r0,ai,r1,aj,r2,aG⟩:=Hr.out.g3;replace Hb:=az Hb ae;clear ae;refine hK _ _ (λ_=>⟨x0,x1,x2,y0,y1,y2⟩) ?_;clear hK K;try simp only[UU]
   refine aI rfl rfl (λK hK=>?_);go_simp;refine hK _ _ (λh=>absurd h zd) ?_;clear hK K;try simp only[UU]
   clear x0 aX x1 aY x2 bi y0 aR y1 aS y2 aW r0 ai r1 aj r2 aG;refine bO (bK w2 (w.heap.size) 0 [.bool (ar (dN A)),.string (bs (nt (dN A).natAbs)),.int .i64 (dE A)]) bV ?_;intro w3 hs;replace Hx:=cF Hx hs;replace Hy:=kS Hy hs zo;replace Hr:=kS Hr hs zo;obtain⟨x0,aX,x1,aY,x2,bi⟩:=Hx.out.g3;obtain⟨y0,aR,y1,aS,y2,aW⟩:=Hy.out.g3;obtain⟨r0,ai,r1,aj,r2,aG⟩:=Hr.out.g3;replace Hb:=bS Hb hs ZS;clear hs;refine aI rfl rfl (λK hK=>?_);go_simp;refine hK _ _ (λh=>absurd h zd) ?_;clear hK K;try simp only[UU]
   clear x0 aX x1 aY x2 bi y0 aR y1 aS y2 aW r0 ai r1 aj r2 aG;refine bO (bK w3 (w.heap.size+1) 0 [.bool (ar (dN C)),.string (bs (nt (dN C).natAbs)),.int .i64 (dE C)]) bV ?_;intro w4 hs;replace Hx:=kS Hx hs zo;replace Hy:=cF Hy hs;replace Hr:=kS Hr hs zo;obtain⟨x0,aX,x1,aY,x2,bi⟩:=Hx.out.g3;obtain⟨y0,aR,y1,aS,y2,aW⟩:=Hy.out.g3;obtain⟨r0,ai,r1,aj,r2,aG⟩:=Hr.out.g3;replace Hb:=bS Hb hs ZS;clear hs;simp only[aZ];go_wp2_with fail;refine(wV.out _).mono ?_;rintro e w5 ⟨rfl,ae⟩;clear x0 aX x1 aY x2 bi y0 aR y1 aS y2 aW r0 ai r1 aj r2 aG;replace Hx:=kB Hx ae;replace Hy:=kB Hy ae;replace Hr:=kB Hr ae;obtain⟨x0,aX,x1,aY,x2,bi⟩:=Hx.out.g3;obtain⟨y0,aR,y1,aS,y2,aW⟩:=Hy.out.g3;obtain⟨r0,ai,r1,aj,r2,aG⟩:=Hr.out.g3;replace Hb:=az Hb ae;clear ae;go_wp2_with fail;refine(Cc.out _).mono ?_;rintro e w6 ⟨rfl,ae⟩;clear x0 aX x1 aY x2 bi y0 aR y1 aS y2 aW r0 ai r1 aj r2 aG;replace Hx:=kB Hx ae;replace Hy:=kB Hy ae;replace Hr:=kB Hr ae;obtain⟨x0,aX,x1,aY,x2,bi⟩:=Hx.out.g3;obtain⟨y0,aR,y1,aS,y2,aW⟩:=Hy.out.g3;obtain⟨r0,ai,r1,aj,r2,aG⟩:=Hr.out.g3;replace Hb:=az Hb ae;clear ae;go_wp2_with fail;refine bM (λw'=>w'.cell? ⟨w.heap.size,0,none⟩=some (.bool (ar (dN A)))/\w'.cell? ⟨w.heap.size,1,none⟩=some (.string (bs (nt (dN A).natAbs)))/\w'.cell? ⟨w.heap.size,2,none⟩=some (.int .i64 (dE A))/\w'.cell? ⟨w.heap.size+1,0,none⟩=some (.bool (ar (dN C)))/\w'.cell? ⟨w.heap.size+1,1,none⟩=some (.string (bs (nt (dN C).natAbs)))/\w'.cell? ⟨w.heap.size+1,2,none⟩=some (.int .i64 (dE C))) (λi=>Nat.blt i 14) [(0,true),(1,true),(2,true),(3,true),(4,true),(5,true),(6,true),(8,true),(9,true),(11,true),(12,true),(7,false),(10,false),(13,false),(14,false)] zk zk rfl zk zc ⟨x0,x1,x2,y0,y1,y2⟩ ?_;iterate 11 (refine pT rfl rfl ?_ (by intro w' ⟨q0,q1,q2,q3,q4,q5⟩;go_simp;try with_reducible rfl);try simp only[UU])
   refine aI rfl rfl (λK hK=>?_);go_simp;with_reducible refine(G1.out _).mono ?_
   rintro e il ⟨rfl,hq⟩;have ae:Bw w6 il:=by first|exact hq|exact aV hq
   clear x0 aX x1 aY x2 bi y0 aR y1 aS y2 aW r0 ai r1 aj r2 aG;replace Hx:=kB Hx ae;replace Hy:=kB Hy ae;replace Hr:=kB Hr ae;obtain⟨x0,aX,x1,aY,x2,bi⟩:=Hx.out.g3;obtain⟨y0,aR,y1,aS,y2,aW⟩:=Hy.out.g3;obtain⟨r0,ai,r1,aj,r2,aG⟩:=Hr.out.g3;replace Hb:=az Hb ae;clear ae;refine hK _ _ (λ_=>⟨x0,x1,x2,y0,y1,y2⟩) ?_;clear hK K;try simp only[UU]
   refine aI rfl rfl (λK hK=>?_);go_simp;with_reducible refine(G2.out _).mono ?_
   rintro e gW ⟨rfl,hq⟩;have ae:Bw il gW:=by first|exact hq|exact aV hq
   clear x0 aX x1 aY x2 bi y0 aR y1 aS y2 aW r0 ai r1 aj r2 aG;replace Hx:=kB Hx ae;replace Hy:=kB Hy ae;replace Hr:=kB Hr ae;obtain⟨x0,aX,x1,aY,x2,bi⟩:=Hx.out.g3;obtain⟨y0,aR,y1,aS,y2,aW⟩:=Hy.out.g3;obtain⟨r0,ai,r1,aj,r2,aG⟩:=Hr.out.g3;replace Hb:=az Hb ae;clear ae;refine hK _ _ (λ_=>⟨x0,x1,x2,y0,y1,y2⟩) ?_;clear hK K;try simp only[UU]
   refine aI rfl rfl (λK hK=>?_);go_simp;with_reducible refine(G3.out _).mono ?_
   rintro e kw ⟨rfl,hq⟩;have ae:Bw gW kw:=by first|exact hq|exact aV hq
   clear x0 aX x1 aY x2 bi y0 aR y1 aS y2 aW r0 ai r1 aj r2 aG;replace Hx:=kB Hx ae;replace Hy:=kB Hy ae;replace Hr:=kB Hr ae;obtain⟨x0,aX,x1,aY,x2,bi⟩:=Hx.out.g3;obtain⟨y0,aR,y1,aS,y2,aW⟩:=Hy.out.g3;obtain⟨r0,ai,r1,aj,r2,aG⟩:=Hr.out.g3;replace Hb:=az Hb ae;clear ae;refine hK _ _ (λ_=>⟨x0,x1,x2,y0,y1,y2⟩) ?_;clear hK K;try simp only[UU]
   refine aI rfl rfl (λK hK=>?_);go_simp;refine hK _ _ (λh=>absurd h zd) ?_;clear hK K;try simp only[UU]
   clear x0 aX x1 aY x2 bi y0 aR y1 aS y2 aW r0 ai r1 aj r2 aG;refine bO (bK kw (w.heap.size+1+1) 0 [.bool (ar (dN S)),.string (bs (nt (dN S).natAbs)),.int .i64 (dE S)]) bV ?_;intro w19 hs;replace Hx:=kS Hx hs zo;replace Hy:=kS Hy hs zo;replace Hr:=cF Hr hs;obtain⟨x0,aX,x1,aY,x2,bi⟩:=Hx.out.g3;obtain⟨y0,aR,y1,aS,y2,aW⟩:=Hy.out.g3;obtain⟨r0,ai,r1,aj,r2,aG⟩:=Hr.out.g3;replace Hb:=bS Hb hs ZS;clear hs;simp only[aZ];go_wp2;refine bodyPost_ret (v:=bH S) (by simp[results,Tryz.results54,go_sem,r0,r1,r2]) rfl ⟨rfl,?_⟩;(repeat first|exact Hb.out| (refine Below.setCell ?_ (by have:=Hb.out.size;first| (dsimp only;omega) | (show _<=_;omega) | (simp<;>omega)) _) | (refine Below.alloc ?_ zt _) |refine Below.drew ?_)
theorem YV (s:Bool)(l:List UInt8)(e:Int)(t:Bool)(m:List UInt8)(f:Int)(S:Dyadic)(hS:aC (s,l,e)-aC (t,m,f)=S)(w:World)(hx:eZ (s,l,e))(hy:eZ (t,m,f))(tX:eZ (canon (-aC (t,m,f)))):
 Calls Tryz.prog 51 #[.agg #[.bool s,.string (bs l),.int .i64 e],.agg #[.bool t,.string (bs m),.int .i64 f]] w λex w'=>ex=.returned (bH S)/\Bw w w':=by
 obtain⟨N,hN⟩:=aB (-aC (t,m,f));rw[hN]at tX;have h1:=λW=>Pe t m f N hN W hy;have h2:=λW=>Ph s l e (ar (dN N)) (nt (dN N).natAbs) (dE N) S (by show _+aC (canon N)=_;rw[bP,<-hN,<-hS];grind) W hx tX;obtain⟨H1,H2⟩:=aM h1 h2;clear h1 h2 hN tX hS hx hy;obtain⟨W,dw,Hb,Hx,Hy,Hr⟩:=rC w 30 [.bool s,.string (bs l),.int .i64 e] 30 [.bool t,.string (bs m),.int .i64 f] 30 [.bool false,.string ⟨#[]⟩,.int .i64 0];obtain⟨x0,x1,x2⟩:=Hx.out.c3;obtain⟨y0,y1,y2⟩:=Hy.out.c3;obtain⟨r0,ai,r1,aj,r2,aG⟩:=Hr.out.g3;go_enter Tryz.func51,Tryz.ntmps51;go_wp2_with fail;refine bM (λw'=>w'.cell? ⟨w.heap.size,0,none⟩=some (.bool s)/\w'.cell? ⟨w.heap.size,1,none⟩=some (.string (bs l))/\w'.cell? ⟨w.heap.size,2,none⟩=some (.int .i64 e)/\w'.cell? ⟨w.heap.size+1,0,none⟩=some (.bool t)/\w'.cell? ⟨w.heap.size+1,1,none⟩=some (.string (bs m))/\w'.cell? ⟨w.heap.size+1,2,none⟩=some (.int .i64 f)) (λi=>Nat.blt i 4) [(0,true),(1,true),(2,false),(3,false),(4,false)] zk zk rfl zk zc ⟨x0,x1,x2,y0,y1,y2⟩ ?_;iterate 2 (refine pT rfl rfl ?_ (by intro w' ⟨q0,q1,q2,q3,q4,q5⟩;go_simp;try with_reducible rfl);try simp only[UU])
 refine aI rfl rfl (λK hK=>?_);go_simp;with_reducible refine(H1.out _).mono ?_
 rintro e w1 ⟨rfl,hq⟩;have ae:Bw W w1:=by first|exact hq|exact aV hq
 clear x0 x1 x2 y0 y1 y2 r0 ai r1 aj r2 aG;replace Hx:=kB Hx ae;replace Hy:=kB Hy ae;replace Hr:=kB Hr ae;obtain⟨x0,x1,x2⟩:=Hx.out.c3;obtain⟨y0,y1,y2⟩:=Hy.out.c3;obtain⟨r0,ai,r1,aj,r2,aG⟩:=Hr.out.g3;replace Hb:=az Hb ae;clear ae;refine hK _ _ (λ_=>⟨x0,x1,x2,y0,y1,y2⟩) ?_;clear hK K;try simp only[UU]
 refine aI rfl rfl (λK hK=>?_);go_simp;with_reducible refine(H2.out _).mono ?_
 rintro e w2 ⟨rfl,hq⟩;have ae:Bw w1 w2:=by first|exact hq|exact aV hq
 clear x0 x1 x2 y0 y1 y2 r0 ai r1 aj r2 aG;replace Hx:=kB Hx ae;replace Hy:=kB Hy ae;replace Hr:=kB Hr ae;obtain⟨x0,x1,x2⟩:=Hx.out.c3;obtain⟨y0,y1,y2⟩:=Hy.out.c3;obtain⟨r0,ai,r1,aj,r2,aG⟩:=Hr.out.g3;replace Hb:=az Hb ae;clear ae;refine hK _ _ (λ_=>⟨x0,x1,x2,y0,y1,y2⟩) ?_;clear hK K;try simp only[UU]
 refine aI rfl rfl (λK hK=>?_);go_simp;refine hK _ _ (λh=>absurd h zd) ?_;clear hK K;try simp only[UU]
 clear x0 x1 x2 y0 y1 y2 r0 ai r1 aj r2 aG;refine bO (bK w2 (w.heap.size+1+1) 0 [.bool (ar (dN S)),.string (bs (nt (dN S).natAbs)),.int .i64 (dE S)]) bV ?_;intro w9 hs;replace Hx:=kS Hx hs zo;replace Hy:=kS Hy hs zo;replace Hr:=cF Hr hs;obtain⟨x0,x1,x2⟩:=Hx.out.c3;obtain⟨y0,y1,y2⟩:=Hy.out.c3;obtain⟨r0,ai,r1,aj,r2,aG⟩:=Hr.out.g3;replace Hb:=bS Hb hs ZS;clear hs;simp only[aZ];go_wp2;refine bodyPost_ret (v:=bH S) (by simp[results,Tryz.results51,go_sem,r0,r1,r2]) rfl ⟨rfl,?_⟩;(repeat first|exact Hb.out| (refine Below.setCell ?_ (by have:=Hb.out.size;first| (dsimp only;omega) | (show _<=_;omega) | (simp<;>omega)) _) | (refine Below.alloc ?_ zt _) |refine Below.drew ?_)
abbrev gY (B:Nat)(x:Raw):Prop:=eZ x/\Sm B (aC x)
theorem gY.mono {B B':Nat}{x:Raw}(h:gY B x)(hb:B<=B'):gY B' x:=⟨h.1,h.2.mono hb⟩
theorem gY.canon {B:Nat}{d:Dyadic}(h:Sm B d)(hB:B<=16384):gY B (canon d):=⟨h.aqT hB,by rw[bP];exact h⟩
theorem gY.form {B:Nat}{r:List Raw}(h:∀x∈r,gY B x)(hB:B<=16384):∀x∈iy r,gY B x:=λy hy=>by obtain⟨x,hx,rfl⟩:=List.mem_map.1 hy;exact gY.canon (h x hx).2 hB
theorem ZN {rows:List (List Raw)}(h:rows.length<2\/9<rows.length):eo rows=0:=by
 unfold eo;dsimp only;rw[if_pos];rcases h with h|h
 . left;omega
 . right;left;omega
theorem amU {rows:List (List Raw)}{N j:Nat}(hN:rows.length=N+1)(hj:j<rows.length)(h:rows[j].length≠N):eo rows=0:=by unfold eo;dsimp only;rw[if_pos];right;right;rw[List.any_eq_true];refine⟨rows[j],List.getElem_mem hj,?_⟩;rw[decide_eq_true_eq];omega
theorem Pk (a:Option Addr)(L cap:Nat)(rows:List (List Raw))(V:Int)(w:World)(hL:rows.length=L)(hl:L<=1099511627776)(ha:bo w a rows)(hV:eo rows=V):
 Calls Tryz.prog 18 #[.slice a L cap] w λe w'=>e=.returned (.int .i64 V)/\Bw w w':=by
 by_cases h1:L<2
 . obtain rfl:V=0:=by rw[<-hV];exact ZN zo
   have t1:(L:Int)-1<1:=by omega
   clear hV ha hL;have Hb:Hid (Bw w w):=Below.refl _ _;go_enter Tryz.func18,Tryz.ntmps18;go_wp2;refine bodyPost_ret (results_tmp rfl _ _ _) rfl ⟨rfl,Hb.out⟩
 by_cases h2:9<L
 . obtain rfl:V=0:=by rw[<-hV];exact ZN zo
   have t1:¬(L:Int)-1<1:=by omega
   have t2:8<(L:Int)-1:=by omega
   clear hV ha hL;have Hb:Hid (Bw w w):=Below.refl _ _;go_enter Tryz.func18,Tryz.ntmps18;go_wp2;refine bodyPost_ret (results_tmp rfl _ _ _) rfl ⟨rfl,Hb.out⟩
 obtain⟨N,hN⟩:∃N:Nat,L=N+1:=⟨L-1,by omega⟩;have hLN:(L:Int)-1=(N:Int):=by omega
 have t1:¬(N:Int)<1:=by omega
 have t2:¬8<(N:Int):=by omega
 have hbad:=λj (hj:j<rows.length) h=>amU (j:=j) (hL.trans hN) hj h;have MS:=λh=>ww (hL.trans hN) h zo zo;rw[hV]at hbad MS;obtain⟨yU,BL,HL,Ha,HN⟩:=fC hbad MS hL ha hN;clear hbad MS hL ha hV hN;have Hb:Hid (Bw w w):=Below.refl _ _;go_enter Tryz.func18,Tryz.ntmps18;go_wp2_with fail;go_loopw[4] (λx wr=>∃k:Nat,k<=L/\x=.int .i64 (k:Int)/\(∀j (h:j<rows.length),j<k->rows[j].length=N)/\Bw w wr) (λx _=>L-(intOf x).toNat);case atStart=>exact⟨0,Nat.zero_le _,rfl,λj _ h=>absurd h (Nat.not_lt_zero _),Hb.out⟩
 case round=>
  clear Hb;obtain⟨k,hk,rfl,hs,pb⟩:=hrel;obtain⟨Hs,Hb⟩:=aM hs pb;clear hs pb;by_cases hlt:k<L
  . have bj:(k:Int)<=(N:Int):=by have:=HN.out;omega
    have hk1:k<rows.length:=by rw[HL.out];exact hlt
    obtain⟨b0,o0,a1,c1,hab,hc,_⟩:=(Ha.out.below Hb.out).row k hk1;have i0:=jN L cap k (k:Int) hab hlt rfl;rw[Nat.mul_one]at i0;obtain⟨n1,fh⟩:=aB (rows[k].length);rw[fh]at hc;have zh:=ah fh;clear fh hab;by_cases he:n1=N
    . subst he;go_wp2;go_roundw;case rel=>
       refine⟨k+1,by omega,by go_num,λj h hj=>?_,Hb.out⟩;by_cases hjk:j=k
       . subst hjk;exact zh.out
       . exact Hs.out j h zo
      case measure=>simp[intOf];omega
    . have MM:((n1:Int) !=(N:Int))=true:=by simp;omega
      have he3:¬(n1:Int)=(N:Int):=by omega
      obtain rfl:V=0:=yU.out k hk1 (by rw[zh.out];exact he);go_wp2;refine bodyPost_ret (results_tmp rfl _ _ _) rfl ⟨rfl,Hb.out⟩
  . obtain rfl:k=L:=by omega
    have bj:¬(k:Int)<=(N:Int):=by have:=HN.out;omega
    obtain rfl:V=N:=BL.out (λr hr=>by
     obtain⟨j,hj,rfl⟩:=List.mem_iff_getElem.1 hr
     exact Hs.out j hj (by rw[<-HL.out];exact hj))
    go_wp2;refine bodyPost_ret (results_tmp rfl _ _ _) rfl ⟨rfl,Hb.out⟩
theorem alM (a:Option Addr)(L cap:Nat)(rows:List (List Raw))(k0:Nat)(pa:Option Addr)(pn kU:Nat)(Pp:List Raw)(w:World)(hL:rows.length=L)(zU:L<=9)(hP:Pp.length=pn)(CN:pn<=8)(hrow:∀r∈rows,r.length<=8)(ha:bo w a rows)(hp:At w pa (Pp.flatMap bA))
 (hok:∀r∈rows,∀x∈r,eZ x) (tO:k0<L->∀x∈Pp,eZ x) (at9:Int) (qV:∀k:Nat,k<L->((k:Int)=at9↔k=k0)):
 Calls Tryz.prog 33 #[.slice a L cap,.int .i64 at9,.slice pa pn kU] w λe w'=>∃a' cap',e=.returned (.slice a' L cap')/\L<=cap'/\bo w' a' ((rows.set k0 Pp).map iy)/\Bw w w':=by
 obtain⟨i0,hi,hz0,hz1,hz2⟩:=info_parts Tryz.aqU;obtain⟨j0,hj,hy0,hy1,hy2⟩:=info_parts Tryz.aq1;obtain⟨R,hR⟩:=aB (rows.set k0 Pp);obtain⟨S,hS⟩:=aB (R.map λr=>r.map aC);have CR:R.length=L:=by rw[<-hR];simp[hL]
 have CQ:∀r∈R,r.length<=8:=by
  intro r hr;rw[<-hR]at hr;rcases List.mem_or_eq_of_mem_set hr with h|h
  . exact hrow r h
  . rw[h];omega
 have CS:∀r∈R,∀x∈r,eZ x:=by
  intro r hr;by_cases Dm:k0<L
  . rw[<-hR]at hr;rcases List.mem_or_eq_of_mem_set hr with h|h
    . exact hok r h
    . rw[h];exact tO Dm
  . rw[<-hR,List.set_eq_of_length_le zo]at hr;exact hok r hr
 have mK:∀(W:World) (k:Nat) (hk:k<L),Bw w W->∃b o a1 c1 n1 aq cq,∃(hk2:k<R.length),a=some ⟨b,o,none⟩/\W.cell? ⟨b,o+k,none⟩=some (.slice a1 n1 c1)/\At W aq (R[k].flatMap bA)/\((k=k0/\aq=pa/\R[k].length=pn/\cq=kU)\/(k≠k0/\aq=a1/\R[k].length=n1/\cq=c1)):=by
  intro W k hk hb;obtain⟨b,o,a1,c1,h1,h2,h3⟩:=(ha.below hb).row k zo;by_cases hkk:k=k0
  . refine⟨b,o,a1,c1,_,pa,kU,by omega,h1,h2,?_,.inl ⟨hkk,rfl,?_,rfl⟩⟩
    . have:R[k]'zo=Pp:=by simp only[<-hR,hkk,List.getElem_set_self]
      rw[this];exact hp.below hb
    . have:R[k]'zo=Pp:=by simp only[<-hR,hkk,List.getElem_set_self]
      rw[this];exact hP
  . have:R[k]'zo=rows[k]'zo:=by simp only[<-hR];exact List.getElem_set_ne (λh=>hkk h.symm) _
    refine⟨b,o,a1,c1,_,a1,c1,by omega,h1,h2,?_,.inr ⟨hkk,rfl,by rw[this],rfl⟩⟩;rw[this];exact h3
 rw[hR];obtain⟨Hi,cN,cO,cH,Hj,ir,jd,je,HS,Jt,Js,Ju⟩:=gh hi hz0 hz1 hz2 hj hy0 hy1 hy2 hS CR CQ CS;obtain⟨uG,Bu⟩:=aM mK qV;clear hi hz0 hz1 hz2 hj hy0 hy1 hy2 hR hS CR CQ CS mK ha hp hL hP hrow hok tO qV;go_enter Tryz.func33,Tryz.ntmps33;have Hb:Hid (Bw w w):=Below.refl _ _;go_wp2_with fail;go_loopw[7,8] (λs7 x wr=>∃(k:Nat) (v:Value),k<=L/\x=.int .i64 (k:Int)/\v=s7/\Own2 46 wr w.heap.size S k v/\Bw w wr) (λ_ x _=>L-(intOf x).toNat);case atStart=>exact⟨0,_,Nat.zero_le _,rfl,rfl,Own2.nil _ _ _ _,Hb.out⟩
 case round=>
  clear Hb;obtain⟨k,v,hk,rfl,rfl,pv,pb⟩:=hrel;by_cases hlt:k<L
  . obtain⟨b1,o1,a1,c1,n1,aq,cq,hk2,hab,hc1,hat,ow⟩:=uG.out wr k hlt pb;have kd:=jN L cap k (k:Int) hab hlt rfl;rw[Nat.mul_one]at kd;obtain⟨Q,hQ⟩:=aB (R[k]);rw[hQ]at hat ow;have xC:=Js.out _ (List.getElem_mem hk2);have xD:=Ju.out _ (List.getElem_mem hk2);rw[hQ]at xC xD;obtain⟨Z,hZ⟩:=aB (Q.map aC);have iW:S.getD k []=Z:=by rw[<-HS.out,<-hZ,<-hQ];simp[hk2]
    have uU:Q.length<=8:=xC;obtain⟨n,hn⟩:=aB Q.length;rw[hn]at uU ow;obtain⟨fx,Jr,HZ,mg,Kq,Hn,aQ,dx⟩:=oI hat xD hZ iW ow hn pb pv;clear hat xD hZ iW ow hn pb pv hQ hab xC;have gm:=aQ.out.size;go_upto_if 24 with fail
    go_cut[9] (λs9 wx=>s9=.slice aq n cq/\wx=wr);case first=>
     rcases Kq.out with⟨rfl,rfl,rfl,rfl⟩ |⟨h1,rfl,rfl,rfl⟩
     . obtain rfl:=(Bu.out k hlt).2 rfl;go_wp2_with fail;go_meet;exact⟨rfl,rfl⟩
     . have h3:¬(k:Int)=at9:=λh=>h1 ((Bu.out k hlt).1 h);have h2:((k:Int)==at9)=false:=by simpa using h3
       go_wp2_with fail;go_meet;exact⟨rfl,rfl⟩
    case rest=>
     obtain⟨rfl,rfl⟩:=hcut;clear kd hc1;go_wp2_with fail;go_loopw[10,11] (λyI x wr=>∃(j:Nat) (v2:Value),j<=n/\x=.int .i64 (j:Int)/\v2=yI/\wr.ownsRow wc.heap.size 30 3 v2 j (dC (Z.take j))/\Bw wc wr) (λ_ x _=>n-(intOf x).toNat);case atStart=>exact⟨0,_,Nat.zero_le _,rfl,rfl,World.ownsRow_nil _ _ _ _,Below.refl _ _⟩
     case round=>
      obtain⟨j,v2,hj,rfl,rfl,ho,hb2⟩:=hrel;by_cases bj:j<n
      . have h1:j<Q.length:=by rw[Hn.out];exact bj
        obtain⟨s,m,e,hx⟩:=kI (Q[j]);have hok:=Jr.out _ (List.getElem_mem h1);rw[hx]at hok;obtain⟨X,hX⟩:=aB (aC (s,m,e));have cE:Hid (dC (Z.take (j+1))=dC (Z.take j)++[.bool (ar (dN X)),.string (bs (nt (dN X).natAbs)),.int .i64 (dE X)]):=by
         show _=_
         rw[<-HZ.out,List.take_succ_eq_append_getElem (by simpa using h1),rN];congr 1;simp only[List.getElem_map,hx,hX];rfl
        obtain⟨b2,o2,fg,p0,p1,p2⟩:=(fx.out.below hb2).num j h1 hx;have ov:=lM n cq j (j:Int) fg bj rfl;obtain⟨HX,Bj,Ho,bQ⟩:=dS hX hok ho hb2;have um:=hb2.size;have Hp:Hid (bB wr b2 (o2+j*3) [.bool s,.string (bs m),.int .i64 e]):=iB p0 p1 p2;clear hX hok ho hb2 hx fg p0 p1 p2;have Hb:Hid (Bw wr wr):=Below.refl _ _;obtain⟨p0,p1,p2⟩:=Hp.out.w3;go_wp2_with fail;refine(yG s m e X HX.out _ Bj.out).mono ?_;rintro e w5 ⟨rfl,ae⟩;clear p0 p1 p2;replace Hp:=kW Hp ae;obtain⟨p0,p1,p2⟩:=Hp.out.w3;replace Hb:=az Hb ae;clear ae;obtain⟨W6,od,ae,Hd⟩:=cS w5 30 [.bool (ar (dN X)),.string (bs (nt (dN X).natAbs)),.int .i64 (dE X)];clear p0 p1 p2;replace Hp:=kW Hp ae;obtain⟨p0,p1,p2⟩:=Hp.out.w3;obtain⟨d0,d1,d2⟩:=Hd.out.c3;replace Hb:=az Hb ae;clear ae;have cG:=ownsRow_below Ho.out Hb.out;have iz:=Hb.out.size;have hnews:=fX Hd.out;clear d0 d1 d2;go_wp2_with (at_builtin;refine wpList_append_own_at _ rfl _ _ 46 rfl wc.heap.size 30 i0 _ 3 32 Tryz.underlying46 Hi.out cN.out cO.out cH.out rfl zd v2 j (dC (Z.take j)) rfl cG ⟨w5.heap.size,0,none⟩ 1 1 [.bool (ar (dN X)),.string (bs (nt (dN X).natAbs)),.int .i64 (dE X)] rfl rfl hnews zy zx zo zo ?_;intro v' w7 dQ eT _ _;obtain⟨g',lC,rfl⟩:=ownsRow_succ dQ);go_roundw;case rel=>
         refine⟨j+1,_,by omega,by go_num,rfl,?_,?_⟩
         . rw[cE.out];exact dQ
         . exact(aK bQ.out Hb.out).grown eT zo (λj e=>cZ cG j e)
        case measure=>simp[intOf];omega
      . obtain rfl:j=n:=by omega
        have iJ:Z.take j=Z:=List.take_of_length_le (by rw[<-HZ.out];simp[Hn.out]);rw[iJ]at ho;obtain⟨a2,cap2,rfl,iK,fg⟩:=dG ho;have gb:=ho.lt;obtain⟨vals,hvl,hov,jh⟩:=dx.out.below hb2;have Hb:Hid (Bw wr wr):=Below.refl _ _;obtain⟨_,_,nE,_⟩:=dx.out;have hvs:=nE.lt;have hin:∀b o,a2=some ⟨b,o,none⟩->some b≠v.ownBlock/\b<wr.heap.size:=by intro b o e;subst e;have h1:=gb b rfl;refine⟨λh2=>?_,h1.2⟩;have h3:=hvs b h2.symm;omega
        obtain⟨mW,nP,jF,qA,cM,bQ⟩:=gF hin iK hvl jh hov hb2;have um:=hb2.size;clear hin iK hvl jh hov nE hvs hb2 fg gb iJ ho bj hj;obtain⟨W6,od,ae,Hd⟩:=cS wr 46 [.slice a2 j cap2];have d0:=Hd.out.c1;replace Hb:=az Hb ae;clear ae;have cG:=ownsRow_below cM.out Hb.out;have iz:=Hb.out.size;have hnews:∀i u,([.slice a2 j cap2]:List Value)[i]?=some u->W6.cell? ((⟨wr.heap.size,0,none⟩:Addr).add i)=some u:=fX Hd.out;clear d0;go_wp2_with (at_builtin;refine wpList_append_own_at _ rfl _ _ 23 rfl w.heap.size 46 j0 _ 1 24 Tryz.underlying23 Hj.out ir.out jd.out je.out rfl zd v k vals rfl cG ⟨wr.heap.size,0,none⟩ 1 1 [.slice a2 j cap2] rfl rfl hnews zy zx zo zo ?_;intro v' w7 dQ eT _ fq;obtain⟨g',lC,rfl⟩:=ownsRow_succ dQ);go_roundw;case rel=>
         refine⟨k+1,_,by omega,by go_num,rfl,?_,?_⟩
         . refine Own2.push (a:=a2) (c:=cap2) jF.out (w:=W6) ?_ ?_ ?_ ?_ eT fq
           . intro i h;obtain⟨a,c,h1,h2,h3⟩:=qA.out i h;exact⟨a,c,h1,h2.below Hb.out,λb o e=>⟨(h3 b o e).1,Nat.lt_of_lt_of_le (h3 b o e).2 iz⟩⟩
           . rw[mg.out];exact nP.out.below Hb.out
           . exact λb o e=>⟨(mW.out b o e).1,Nat.lt_of_lt_of_le (mW.out b o e).2 iz⟩
           . rw[mg.out,<-HZ.out,List.length_map,Hn.out];exact dQ
         . exact(aK (aK aQ.out bQ.out) Hb.out).grown eT zo (λj e=>cZ cG j e)
        case measure=>simp[intOf];omega
  . obtain rfl:k=L:=by omega
    have hlen:R.length=k:=Jt.out;rw[<-HS.out]at pv;obtain⟨a2,c2,rfl,hcl,jA⟩:=Own2.tbl pv hlen;obtain⟨oZ,aQ⟩:=aM jA pb;clear pv pb jA hlen;go_wp2;refine bodyPost_ret (results_tmp rfl _ _ _) rfl ⟨a2,c2,rfl,hcl,oZ.out,aQ.out⟩
theorem alN (a:Option Addr)(L cap:Nat)(rows:List (List Raw))(k0:Nat)(pa:Option Addr)(pn kU:Nat)(Pp:List Raw)(w:World)(hL:rows.length=L)(zU:L<=9)(hP:Pp.length=pn)(CN:pn<=8)(hrow:∀r∈rows,r.length<=8)(ha:bo w a rows)(hp:At w pa (Pp.flatMap bA))
 (hok:∀r∈rows,∀x∈r,eZ x) (tO:∀x∈Pp,eZ x):
 Calls Tryz.prog 33 #[.slice a L cap,.int .i64 (k0:Int),.slice pa pn kU] w λe w'=>∃a' cap',e=.returned (.slice a' L cap')/\L<=cap'/\bo w' a' ((rows.set k0 Pp).map iy)/\Bw w w':=
 alM a L cap rows k0 pa pn kU Pp w hL zU hP CN hrow ha hp hok (λ_=>tO) _ (λk _=>by omega)
end Go.Proofs.YtdaadlblknpipaaGreatDoor
