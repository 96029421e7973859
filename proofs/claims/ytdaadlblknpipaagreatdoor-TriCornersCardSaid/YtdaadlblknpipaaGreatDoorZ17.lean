/- Package ogeeref04: Make. -/
import Derived.Test.YtdaadlblknpipaaGreatDoorZ14
import Derived.Deep.RegionWith
import Derived.Test.YtdaadlblknpipaaGreatDoorZ9
import Derived.Test.YtdaadlblknpipaaGreatDoorZ11
set_option linter.unusedVariables false
set_option linter.unusedSimpArgs false
set_option maxRecDepth 100000
set_option maxHeartbeats 16000000
namespace Go.Proofs.YtdaadlblknpipaaGreatDoor
open Go.RowKit
attribute [local go_sem ↓] Go.wp_at_zero Go.wp_at_succ
theorem aeT (M:List UInt8)(c:UInt8):(bs (M++[c])).extract 0 M.length=bs M:=by apply ByteArray.ext;unfold bs;rw[ByteArray.data_extract];simp
theorem amL (M:List UInt8)(c:UInt8)(i:Int)(hi:i=M.length)(W:World):
 (Instr.sliceAt 9 (.string (bs (M++[c]))) none (some (.int .i64 i)) none).run Tryz.prog W=.ok (.string (bs M)) W:=by
 subst hi;have h:=run_slice_string_h (P:=Tryz.prog) W 9 (bs (M++[c])) Tryz.underlying9 .i64 M.length zo (by rw[lI];simp<;>omega);simp only[Int.toNat_natCast,aeT M c]at h;simpa[Instr.sliceAt,run_underlying Tryz.underlying9]using h
theorem ae2 (s:Bool)(n:Nat)(e:Int)(h:n%2=1):canon (aC (s,nt n,e))=(s,nt n,e):=by
 have h0:iv s (nt n)≠0:=by rw[lU];split<;>omega
 obtain⟨h1,h2⟩:=Le s (nt n) e h0;have ht:tz n=0:=by have:=ZB 0 (n/2);rw[show 2^0* (2* (n/2)+1)=n by omega]at this;exact this
 rw[iF,ht]at h1 h2;unfold canon;rw[h1,h2];have e1:iv s (nt n)/2^0=iv s (nt n):=by simp
 rw[e1,Nu,nO,iF];have e3:(nt n).isEmpty=false:=by
  have:=Ig (n:=n) zo;cases h:nt n with
  |nil=>exact absurd h this
  |cons a b=>rfl
 rw[e3];simp
theorem agt (s:Bool)(l:List UInt8)(n k:Nat)(e:Int)(h:n*2^k=nv l):aC (s,nt n,e+k)=aC (s,l,e):=by
 unfold aC;have e1:iv s l=iv s (nt n) *2^k:=by
  rw[lU];unfold iv;rw[<-h];split
  . rw[Int.neg_mul];simp
  . simp
 simp only[e1];rw[<-rG (iv s (nt n)) k (-(e+k))];congr 1;omega
theorem alB {n k v b:Nat}(h:n*2^k=v)(h0:0<v)(hv:v<2^b):k<b/\0<n:=by
 have hn:0<n:=by
  rcases Nat.eq_zero_or_pos n with h1|h1
  . subst h1;simp at h;omega
  . exact h1
 refine⟨?_,hn⟩;rcases Nat.lt_or_ge k b with h1|h1
 . exact h1
 . have h2:=Nat.pow_le_pow_right (show 0<2 by decide) h1;have h3:2^k<=n*2^k:=Nat.le_mul_of_pos_left _ hn;omega
theorem al7 (w:World):Calls Tryz.prog 80 #[.int .i64 2] w λe w'=>e=.returned (.agg #[.bool false,.string (bs (nt 2))])/\Bw w w':=Oy 2 w zd
theorem Ym {n:Nat}(h:0<n):∃M c,nt n=M++[c]/\M=nt (n/256)/\c.toNat=n%256:=⟨_,_,Dj h,rfl,Fw n⟩
theorem al4 (s:Bool)(l:List UInt8)(e:Int)(w:World)(hl:l.length<=1048576)(h0:nv l=0):
 Calls Tryz.prog 79 #[.agg #[.bool s,.string (bs l)],.int .i64 e] w λr w'=>r=.returned (bL 0)/\Bw w w':=by
 have hf:=λW=>DI s l W zo;simp only[h0,xO,List.isEmpty_nil,Bool.not_true,Bool.and_false]at hf;have Hf:=ah hf;have hem:(bs []).toList.isEmpty=true:=by rw[sD];rfl
 clear hf h0;obtain⟨W,dF,Hb,Hm,Hr⟩:=rD w 28 [.bool s,.string (bs l)] 30 [.bool false,.string ⟨#[]⟩,.int .i64 0];obtain⟨m0,uy,m1,qU⟩:=Hm.out.g2;obtain⟨r0,aj,r1,ak,r2,aF⟩:=Hr.out.g3;go_enter Tryz.func79,Tryz.ntmps79;go_wp2_with fail;refine(Hf.out _).mono ?_;rintro e w1 ⟨rfl,ae⟩;clear m0 uy m1 qU r0 aj r1 ak r2 aF;replace Hm:=kB Hm ae;replace Hr:=kB Hr ae;obtain⟨m0,uy,m1,qU⟩:=Hm.out.g2;obtain⟨r0,aj,r1,ak,r2,aF⟩:=Hr.out.g3;replace Hb:=au Hb ae;clear ae;go_wp2;refine bodyPost_ret (v:=.agg #[.bool false,.string ⟨#[]⟩,.int .i64 0]) (by simp[results,Tryz.results79,go_sem,r0,r1,r2]) rfl ⟨rfl,?_⟩;(repeat first|exact Hb.out| (refine Below.setCell ?_ (by have:=Hb.out.size;first| (dsimp only;omega) | (show _<=_;omega) | (simp<;>omega)) _) |refine Below.drew ?_)
theorem al3 (s:Bool)(l:List UInt8)(e:Int)(D:Dyadic)(hD:aC (s,l,e)=D)(w:World)(hl:l.length<=1048576)(he: -1099511627776<=e/\e<=1099511627776)(h0:0<nv l):
 Calls Tryz.prog 79 #[.agg #[.bool s,.string (bs l)],.int .i64 e] w λr w'=>r=.returned (bL D)/\Bw w w':=by
 have hf:=λW=>DI s l W zo;have e3:(nt (nv l)).isEmpty=false:=by
  have:=Ig h0;cases h:nt (nv l)with
  |nil=>exact absurd h this
  |cons a b=>rfl
 rw[e3]at hf;simp only[Bool.not_false,Bool.and_true]at hf;have hvb:=mR l;obtain⟨v,hv⟩:=aB (nv l);rw[hv]at h0 hvb;simp only[hv]at hf;have hup:∀n k:Nat,n*2^k=v->aC (s,nt n,e+k)=D:=λn k h=>by rw[<-hD];exact agt s l n k e (by rw[hv];exact h)
 obtain⟨Bn,TH⟩:=aB (8*l.length);have hpb:∀n k:Nat,n*2^k=v->k<Bn/\0<n:=λn k h=>by rw[<-TH];exact alB h h0 hvb
 have hBl:Bn<=8388608:=by omega
 obtain⟨Hf,Kl,aQ⟩:=cK hf hup hpb;have apx:(bs (nt v)).toList.isEmpty=false:=by rw[sD,<-hv];exact e3
 have Wc:∀n k:Nat,n*2^k=v->(nt n).length<=1048576:=λn k h=>by refine Nat.le_trans (iQ (Nat.lt_of_le_of_lt (Nat.le_mul_of_pos_right n (Nat.pow_pos (n:=k) (show 0<2 by decide))) ?_)) hl;rw[h,<-hv];exact fW l
 have QZ:=ah Wc;clear hf e3 hvb hup hpb TH hD hv h0 Wc;obtain⟨W,dF,Hb,Hm,Hr⟩:=rD w 28 [.bool s,.string (bs l)] 30 [.bool false,.string ⟨#[]⟩,.int .i64 0];obtain⟨m0,uy,m1,qU⟩:=Hm.out.g2;obtain⟨r0,aj,r1,ak,r2,aF⟩:=Hr.out.g3;go_enter Tryz.func79,Tryz.ntmps79;go_wp2_with fail;refine(Hf.out _).mono ?_;rintro e w1 ⟨rfl,ae⟩;clear m0 uy m1 qU r0 aj r1 ak r2 aF;replace Hm:=kB Hm ae;replace Hr:=kB Hr ae;obtain⟨m0,uy,m1,qU⟩:=Hm.out.g2;obtain⟨r0,aj,r1,ak,r2,aF⟩:=Hr.out.g3;replace Hb:=au Hb ae;clear ae;go_wp2_with fail;clear m0 uy m1 qU r0 aj r1 ak r2 aF;first|refine bE (bG w1 (w.heap.size) 0 [.bool s,.string (bs (nt v))]) bP ?_|refine bD (bG w1 (w.heap.size) 0 [.bool s,.string (bs (nt v))]) bP ?_
 intro w2 hs;replace Hm:=cp Hm hs;replace Hr:=kS Hr hs zo;obtain⟨m0,uy,m1,qU⟩:=Hm.out.g2;obtain⟨r0,aj,r1,ak,r2,aF⟩:=Hr.out.g3;replace Hb:=bS Hb hs ZS;clear hs m0 m1 uy qU r0 r1 r2 aj ak aF;have lm:=Hm.out.lt;have lr:=Hr.out.lt;go_loopw[1] (λx wr=>∃n k:Nat,n*2^k=v/\x=.int .i64 (e+k)/\ai wr w.heap.size 28 [.bool s,.string (bs (nt n))]/\ai wr (w.heap.size+1) 30 [.bool false,.string ⟨#[]⟩,.int .i64 0]/\Bw w wr) (λx _=>(e+Bn+100-intOf x).toNat);case atStart=>exact⟨v,0,by simp,by simp,Hm.out,Hr.out,Hb.out⟩
 case round=>
  clear Hm Hr Hb;obtain⟨n,k,sX,rfl,hm,hr,hb⟩:=hrel;obtain⟨hk,hn⟩:=aQ.out n k sX;obtain⟨M,c,hM,Gd,hc⟩:=Ym hn;obtain⟨Hm,Hr,Hb,yx,HM,Qa⟩:=iz hm hr hb sX hM Gd;have hnl:=QZ.out n k sX;have Cf:M.length+1<=1048576:=by rw[hM]at hnl;simpa using hnl
  have m1:wr.cell? ⟨w.heap.size,1,none⟩=some (.string (bs (M++[c]))):=by rw[<-hM];exact hm.cell 1
  have qU:wr.frozen? ⟨w.heap.size,1,none⟩=false:=hm.free 1;have hsz:(bs (M++[c])).size=M.length+1:=by rw[lI];simp
  have gB:=xy (M++[c]) (M.length:Int) M.length zm rfl;have nH:(M++[c])[M.length]'zm=c:=by simp
  rw[nH]at gB;obtain⟨C,hC⟩:=aB c.toNat;rw[hC]at gB hc;have hsl:=amL M c (M.length:Int) rfl;have Hc:=ah hc;clear hm hr hb sX hM Gd nH hc hnl;by_cases nu:C=0
  . subst nu;go_wp2;go_roundw;case rel=>
     refine⟨n/256,k+8,?_,by go_num,?_,?_,?_⟩
     . have h1:=Hc.out;have h2:=yx.out;rw[<-h2,Nat.pow_add,show(2:Nat)^8=256 by rfl,Nat.mul_comm (2^k),<-Nat.mul_assoc];congr 1;omega
     . rw[<-Qa.out];exact Hm.out.set 1 _
     . exact Hr.out.arF ⟨w.heap.size,1,none⟩ zp _
     . exact Hb.out.setCell zp _
    case measure=>simp[intOf];omega
  . have TK:((C:Int)==0)=false:=by simp;omega
    go_wp2_with fail;clear m1 qU hsz gB hsl Cf TK hC nu;go_loopw[1] (λx wr=>∃n k:Nat,n*2^k=v/\x=.int .i64 (e+k)/\ai wr w.heap.size 28 [.bool s,.string (bs (nt n))]/\ai wr (w.heap.size+1) 30 [.bool false,.string ⟨#[]⟩,.int .i64 0]/\Bw w wr) (λx _=>(e+Bn+100-intOf x).toNat);case atStart=>exact⟨n,k,yx.out,rfl,Hm.out,Hr.out,Hb.out⟩
    case round=>
     clear Hm Hr Hb yx HM Qa Hc hk hn;obtain⟨n,k,sX,rfl,hm,hr,hb⟩:=hrel;obtain⟨hk,hn⟩:=aQ.out n k sX;obtain⟨M,c,hM,Gd,hc⟩:=Ym hn;obtain⟨Hr,yx,HM⟩:=cK hr sX hM;have hnl:=QZ.out n k sX;have Cf:M.length+1<=1048576:=by rw[hM]at hnl;simpa using hnl
     have Hm:Hid (ai wr w.heap.size 28 [.bool s,.string (bs (M++[c]))]):=by rw[hM]at hm;exact hm
     have m0:wr.cell? ⟨w.heap.size,0,none⟩=some (.bool s):=Hm.out.cell 0;have m1:wr.cell? ⟨w.heap.size,1,none⟩=some (.string (bs (M++[c]))):=Hm.out.cell 1;have hsz:(bs (M++[c])).size=M.length+1:=by rw[lI];simp
     have gB:=xy (M++[c]) (M.length:Int) M.length zm rfl;have nH:(M++[c])[M.length]'zm=c:=by simp
     rw[nH]at gB;obtain⟨C,hC⟩:=aB c.toNat;rw[hC]at gB hc;have apf:=hb.size;have jV:=ah hb;clear hm hr hb sX Gd nH hC;by_cases hev:n%2=0
     . obtain⟨n',rfl⟩:∃n',n=2*n':=⟨n/2,by omega⟩;have Wz:(C:Int)%2=0:=by omega
       have hh:=λW=>al2 s n' W zo (Nat.le_trans hnl zd);rw[hM]at hh;have Hh:=ah hh;have Hb:Hid (Bw wr wr):=Below.refl _ _;clear hh hM hnl hc;go_wp2_with fail;have lmm:=Hm.out.lt;have lrr:=Hr.out.lt;go_region_with (first| (go_at_call 80;refine(al7 _).mono ?_;rintro e3 w3 ⟨rfl,hb3⟩;replace hb3:=aN hb3;have EJ:=ah (Hm.out.below hb3);have m03:w3.cell? ⟨w.heap.size,0,none⟩=some (.bool s):=EJ.out.cell 0;have iB:w3.cell? ⟨w.heap.size,1,none⟩=some (.string (bs (M++[c]))):=EJ.out.cell 1) | (go_at_call 118;refine(Hh.out _).mono ?_;rintro e4 w4 ⟨rfl,hb4⟩;have yw:=ah (EJ.out.below hb4);have m04:w4.cell? ⟨w.heap.size,0,none⟩=some (.bool s):=yw.out.cell 0;have iD:w4.cell? ⟨w.heap.size,1,none⟩=some (.string (bs (M++[c]))):=yw.out.cell 1;have agS:=yw.out.free 0;have agT:=yw.out.free 1))
       all_goals
        have HBm:=ah (aJ (aJ jV.out hb3) hb4)
        have Hm4:=ah ((yw.out.set 0 (.bool s)).set 1 (.string (bs (nt n'))))
        have Bo:=ah ((((Hr.out.below hb3).below hb4).arF ⟨w.heap.size,0,none⟩ zp (.bool s)).arF ⟨w.heap.size,1,none⟩ zp (.string (bs (nt n'))))
        clear m0 m1 m03 iB m04 iD agS agT Wz gB hb3 hb4 EJ yw
        go_wp2
        go_roundw
        case rel=>
         refine⟨n',k+1,?_,by go_num,Hm4.out,Bo.out,?_⟩
         . rw[<-yx.out,Nat.pow_succ,Nat.mul_comm (2^k) 2,<-Nat.mul_assoc,Nat.mul_comm n' 2]
         . exact(HBm.out.setCell zp _).setCell zp _
        case measure=>simp[intOf];omega
     . have Wz:((C:Int)%2==0)=false:=by simp;omega
       have Wj:n%2=1:=by omega
       have hfin:=ae2 s n (e+k) Wj;rw[Kl.out n k yx.out,HM.out]at hfin;have rX:=ah hfin;have r0:wr.cell? ⟨w.heap.size+1,0,none⟩=some (.bool false):=Hr.out.cell 0;have r1:wr.cell? ⟨w.heap.size+1,1,none⟩=some (.string ⟨#[]⟩):=Hr.out.cell 1;have r2:wr.cell? ⟨w.heap.size+1,2,none⟩=some (.int .i64 0):=Hr.out.cell 2;have aj:=Hr.out.free 0;have ak:=Hr.out.free 1;have aF:=Hr.out.free 2;clear hM hnl hc Wj hfin hev;go_wp2;refine bodyPost_ret (v:=.agg #[.bool s,.string (bs (M++[c])),.int .i64 (e+k)]) (by simp[results,Tryz.results79,go_sem,r0,r1,r2]) rfl ⟨?_,?_⟩
       . have h1:=rX.out;unfold canon at h1;simp only[Prod.mk.injEq]at h1;rw[<-h1.1,<-h1.2.1,<-h1.2.2]
       . exact(((jV.out.setCell zp _).setCell zp _).setCell zp _)
theorem DK (s:Bool)(l:List UInt8)(e:Int)(D:Dyadic)(hD:aC (s,l,e)=D)(w:World)(hl:l.length<=1048576)(he: -1099511627776<=e/\e<=1099511627776):
 Calls Tryz.prog 79 #[.agg #[.bool s,.string (bs l)],.int .i64 e] w λr w'=>r=.returned (bL D)/\Bw w w':=by
 rcases Nat.eq_zero_or_pos (nv l)with h0|h0
 . have:D=0:=by rw[<-hD];exact Lf s l e (by unfold iv;rw[h0];split<;>rfl)
   rw[this];exact al4 s l e w hl h0
 . exact al3 s l e D hD w hl he h0
def ic (x:Raw):Prop:=x.2.1.length<=16384/\ -16384<=x.2.2/\x.2.2<=16384
theorem ic.sm {x:Raw}(h:ic x):Sm 262144 (aC x):=Sm.raw (B:=131072) (by have:=h.1;omega) (by have:=h.2.1;omega) (by have:=h.2.2;omega)
theorem Sm.arJ {B:Nat}{d:Dyadic}(h:Sm B d)(hB:B<=16384):ic (canon d):=by obtain⟨h1,h2,h3⟩:=h.parts;exact⟨jK h1 zo,by show-16384<=dE d;omega,by show dE d<=16384;omega⟩
theorem ic.ok {x:Raw}(h:ic x):Ok x:=⟨by have:=h.1;omega,by have:=h.2.1;omega,by have:=h.2.2;omega⟩
theorem Aj (s:Bool)(l:List UInt8)(e:Int)(D:Dyadic)(hD:aC (s,l,e)=D)(w:World)(hx:ic (s,l,e)):
 Calls Tryz.prog 70 #[.agg #[.bool s,.string (bs l),.int .i64 e]] w λex w'=>ex=.returned (bL D)/\Bw w w':=by
 have h1:=λW=>DK s l e D hD W (by have:=hx.1;simp only at this;omega) (by have:=hx.2;simp only at this;omega);have H1:=ah h1;clear h1 hD hx;obtain⟨W,dF,Hb,Hx,Hr⟩:=rD w 30 [.bool s,.string (bs l),.int .i64 e] 30 [.bool false,.string ⟨#[]⟩,.int .i64 0];obtain⟨x0,x1,x2⟩:=Hx.out.c3;obtain⟨r0,aj,r1,ak,r2,aF⟩:=Hr.out.g3;go_enter Tryz.func70,Tryz.ntmps70;go_wp2_with fail;refine(H1.out _).mono ?_;rintro e w1 ⟨rfl,ae⟩;clear x0 x1 x2 r0 aj r1 ak r2 aF;replace Hx:=kB Hx ae;replace Hr:=kB Hr ae;obtain⟨x0,x1,x2⟩:=Hx.out.c3;obtain⟨r0,aj,r1,ak,r2,aF⟩:=Hr.out.g3;replace Hb:=au Hb ae;clear ae;go_wp2;clear x0 x1 x2 r0 aj r1 ak r2 aF;refine fR (bG w1 (w.heap.size+1) 0 [.bool (ar (dN D)),.string (bs (nt (dN D).natAbs)),.int .i64 (dE D)]) bP ?_;intro w9 hs;replace Hx:=kS Hx hs zo;replace Hr:=cp Hr hs;obtain⟨x0,x1,x2⟩:=Hx.out.c3;obtain⟨r0,aj,r1,ak,r2,aF⟩:=Hr.out.g3;replace Hb:=bS Hb hs ZS;clear hs;refine bodyPost_ret (v:=bL D) (by simp[results,Tryz.results70,go_sem,r0,r1,r2]) rfl ⟨rfl,Hb.out⟩
theorem Iq (s:Bool)(l:List UInt8)(e:Int)(g:Int)(hg:bV (aC (s,l,e))=g)(w:World)(hl:l.length<=68719476736):
 Calls Tryz.prog 28 #[.agg #[.bool s,.string (bs l),.int .i64 e]] w λex w'=>ex=.returned (.int .i64 g)/\Bw w w':=by
 have h1:=λW=>aml s l W hl;rw[show dW (iv s l)=g by rw[<-hg];exact OM s l e]at h1;have H1:=ah h1;clear h1 hg hl;obtain⟨W,dF,Hb,Hx⟩:=jl w 30 [.bool s,.string (bs l),.int .i64 e];obtain⟨x0,x1,x2⟩:=Hx.out.c3;go_enter Tryz.func28,Tryz.ntmps28;go_wp2_with fail;refine(H1.out _).mono ?_;rintro e w1 ⟨rfl,ae⟩;clear x0 x1 x2;replace Hx:=kB Hx ae;obtain⟨x0,x1,x2⟩:=Hx.out.c3;replace Hb:=au Hb ae;clear ae;go_wp2;go_ret;exact⟨rfl,Hb.out⟩
theorem al8 (n:Nat)(D:Dyadic)(hD:Dyadic.ofIntWithPrec (n:Int) 0=D)(w:World)(hn:n<=1000000):
 Calls Tryz.prog 62 #[.int .i64 (n:Int)] w λe w'=>e=.returned (bL D)/\Bw w w':=by
 have h1:=λW=>Oy n W zo;have h2:=λW=>DK false (nt n) 0 D (by unfold aC;simp only[lU];exact hD) W (Nat.le_trans (iQ (k:=4) zo) zd) zo;clear hD;generalize nt n=m at*;obtain⟨H1,H2⟩:=aL h1 h2;clear h1 h2;obtain⟨W,dF,Hb,Hr⟩:=jl w 30 [.bool false,.string ⟨#[]⟩,.int .i64 0];obtain⟨r0,aj,r1,ak,r2,aF⟩:=Hr.out.g3;go_enter Tryz.func62,Tryz.ntmps62;go_wp2_with fail;refine(H1.out _).mono ?_;rintro e w1 ⟨rfl,ae⟩;clear r0 aj r1 ak r2 aF;replace Hr:=kB Hr ae;obtain⟨r0,aj,r1,ak,r2,aF⟩:=Hr.out.g3;replace Hb:=au Hb ae;clear ae;go_wp2_with fail;refine(H2.out _).mono ?_;rintro e w2 ⟨rfl,ae⟩;clear r0 aj r1 ak r2 aF;replace Hr:=kB Hr ae;obtain⟨r0,aj,r1,ak,r2,aF⟩:=Hr.out.g3;replace Hb:=au Hb ae;clear ae;go_wp2;clear r0 aj r1 ak r2 aF;refine fR (bG w2 (w.heap.size) 0 [.bool (ar (dN D)),.string (bs (nt (dN D).natAbs)),.int .i64 (dE D)]) bP ?_;intro w9 hs;replace Hr:=cp Hr hs;obtain⟨r0,aj,r1,ak,r2,aF⟩:=Hr.out.g3;replace Hb:=bS Hb hs ZS;clear hs;refine bodyPost_ret (v:=bL D) (by simp[results,Tryz.results62,go_sem,r0,r1,r2]) rfl ⟨rfl,Hb.out⟩
theorem ams (s:Bool)(l:List UInt8)(e:Int)(t:Bool)(m:List UInt8)(f:Int)(D:Dyadic)(hD:aC (s,l,e) *aC (t,m,f)=D)(w:World)(hx:ic (s,l,e))(hy:ic (t,m,f)):
 Calls Tryz.prog 83 #[.agg #[.bool s,.string (bs l),.int .i64 e],.agg #[.bool t,.string (bs m),.int .i64 f]] w λex w'=>ex=.returned (bL D)/\Bw w w':=by
 obtain⟨Z,hZ⟩:=aB (iv s l*iv t m);have hx1:l.length<=16384:=hx.1;have hy1:m.length<=16384:=hy.1;have hx2: -16384<=e/\e<=16384:=hx.2;have hy2: -16384<=f/\f<=16384:=hy.2;have hl:(nt Z.natAbs).length<=32768:=by
  have:Z.natAbs=nv l*nv m:=by rw[<-hZ,Int.natAbs_mul,nO,nO]
  rw[this];exact Nat.le_trans (Yn l m) zo
 have h1:=λW=>amr s l t m Z hZ W zo zo;have h2:=λW=>DK (ar Z) (nt Z.natAbs) (e+f) D (by rw[wK,<-hZ,<-hD];unfold aC;rw[vD,show-(e+f)= -e+ -f by omega]) W zo zo;obtain⟨H1,H2⟩:=aL h1 h2;have hwr:IntKind.i64.wrap (e+f)=e+f:=by rw[IntKind.wrap_i64];omega
 clear h1 h2 hD hZ hl hx hy hx1 hy1;generalize ar Z=v at*;generalize nt Z.natAbs=n at*;obtain⟨W,dF,Hb,Hx,Hy,Hr⟩:=rE w 30 [.bool s,.string (bs l),.int .i64 e] 30 [.bool t,.string (bs m),.int .i64 f] 30 [.bool false,.string ⟨#[]⟩,.int .i64 0];obtain⟨x0,x1,x2⟩:=Hx.out.c3;obtain⟨y0,y1,y2⟩:=Hy.out.c3;obtain⟨r0,aj,r1,ak,r2,aF⟩:=Hr.out.g3;go_enter Tryz.func83,Tryz.ntmps83;go_wp2_with fail;refine bC (λw'=>w'.cell? ⟨w.heap.size,0,none⟩=some (.bool s)/\w'.cell? ⟨w.heap.size,1,none⟩=some (.string (bs l))/\w'.cell? ⟨w.heap.size,2,none⟩=some (.int .i64 e)/\w'.cell? ⟨w.heap.size+1,0,none⟩=some (.bool t)/\w'.cell? ⟨w.heap.size+1,1,none⟩=some (.string (bs m))/\w'.cell? ⟨w.heap.size+1,2,none⟩=some (.int .i64 f)) (λi=>Nat.blt i 11) [(0,true),(1,true),(2,true),(3,true),(5,true),(6,true),(7,true),(8,true),(9,true),(4,false),(10,false),(11,false)] zk zk rfl zk zc ⟨x0,x1,x2,y0,y1,y2⟩ ?_;iterate 9 (refine pT rfl rfl ?_ (by intro w' ⟨q0,q1,q2,q3,q4,q5⟩;go_simp;try with_reducible rfl);try simp only[UU])
 refine aI rfl rfl (λK hK=>?_);go_simp;with_reducible refine(H1.out _).mono ?_
 rintro e w1 ⟨rfl,hq⟩;have ae:Bw W w1:=by first|exact hq|exact aN hq
 clear x0 x1 x2 y0 y1 y2 r0 aj r1 ak r2 aF;replace Hx:=kB Hx ae;replace Hy:=kB Hy ae;replace Hr:=kB Hr ae;obtain⟨x0,x1,x2⟩:=Hx.out.c3;obtain⟨y0,y1,y2⟩:=Hy.out.c3;obtain⟨r0,aj,r1,ak,r2,aF⟩:=Hr.out.g3;replace Hb:=au Hb ae;clear ae;refine hK _ _ (λ_=>⟨x0,x1,x2,y0,y1,y2⟩) ?_;clear hK K;try simp only[UU]
 refine aI rfl rfl (λK hK=>?_);go_simp;with_reducible refine(H2.out _).mono ?_
 rintro e w2 ⟨rfl,hq⟩;have ae:Bw w1 w2:=by first|exact hq|exact aN hq
 clear x0 x1 x2 y0 y1 y2 r0 aj r1 ak r2 aF;replace Hx:=kB Hx ae;replace Hy:=kB Hy ae;replace Hr:=kB Hr ae;obtain⟨x0,x1,x2⟩:=Hx.out.c3;obtain⟨y0,y1,y2⟩:=Hy.out.c3;obtain⟨r0,aj,r1,ak,r2,aF⟩:=Hr.out.g3;replace Hb:=au Hb ae;clear ae;refine hK _ _ (λ_=>⟨x0,x1,x2,y0,y1,y2⟩) ?_;clear hK K;try simp only[UU]
 refine aI rfl rfl (λK hK=>?_);go_simp;refine hK _ _ (λh=>absurd h zd) ?_;clear hK K;try simp only[UU]
 clear x0 x1 x2 y0 y1 y2 r0 aj r1 ak r2 aF;refine bF (bG w2 (w.heap.size+1+1) 0 [.bool (ar (dN D)),.string (bs (nt (dN D).natAbs)),.int .i64 (dE D)]) bP ?_;intro w9 hs;replace Hx:=kS Hx hs zo;replace Hy:=kS Hy hs zo;replace Hr:=cp Hr hs;obtain⟨x0,x1,x2⟩:=Hx.out.c3;obtain⟨y0,y1,y2⟩:=Hy.out.c3;obtain⟨r0,aj,r1,ak,r2,aF⟩:=Hr.out.g3;replace Hb:=bS Hb hs ZS;clear hs;simp only[aS];go_wp2;refine bodyPost_ret (v:=bL D) (by simp[results,Tryz.results83,go_sem,r0,r1,r2]) rfl ⟨rfl,?_⟩;(repeat first|exact Hb.out| (refine Below.setCell ?_ (by have:=Hb.out.size;first| (dsimp only;omega) | (show _<=_;omega) | (simp<;>omega)) _) | (refine Below.alloc ?_ zt _) |refine Below.drew ?_)
theorem Yp (n:Nat):n<256^(nt n).length:=by have:=fW (nt n);rwa [iF]at this
theorem alx (A C S:Dyadic)(hS:A+C=S)(p:Nat)(hp:dE A-dE C=(p:Int))(Z1 Z:Int)(h1:dN A*2^p=Z1)(h2:Z1+dN C=Z):aC (ar Z,nt Z.natAbs,dE C)=S:=by
 rw[wK,<-h2,<-h1,<-xS,<-hS];congr 1
 . have:=rG (dN A) p (-(dE A));rw[show-(dE C)= -(dE A)+(p:Int)by omega,this];exact(rF A).symm
 . exact(rF C).symm
theorem amc (s:Bool)(l:List UInt8)(e:Int)(t:Bool)(m:List UInt8)(f:Int)(S:Dyadic)(hS:aC (s,l,e)+aC (t,m,f)=S)(w:World)(hx:ic (s,l,e))(hy:ic (t,m,f)):
 Calls Tryz.prog 54 #[.agg #[.bool s,.string (bs l),.int .i64 e],.agg #[.bool t,.string (bs m),.int .i64 f]] w λex w'=>ex=.returned (bL S)/\Bw w w':=by
 obtain⟨A,hA⟩:=aB (aC (s,l,e));obtain⟨C,hC⟩:=aB (aC (t,m,f));have pM:=hx.sm;have yU:=hy.sm;rw[hA]at pM;rw[hC]at yU;obtain⟨a1,a2,a3⟩:=pM.parts;obtain⟨c1,c2,c3⟩:=yU.parts;have la:(nt (dN A).natAbs).length<=65536:=jK a1 zo;have lc:(nt (dN C).natAbs).length<=65536:=jK c1 zo;have dc:=λW=>Aj s l e A hA W hx;have jI:=λW=>Aj t m f C hC W hy;rw[hA,hC]at hS;have uV:=λW=>Iq (ar (dN A)) (nt (dN A).natAbs) (dE A) (bV A) (by show bV (aC (canon A))=_;rw[bK]) W zo;have xq:=λW=>Iq (ar (dN C)) (nt (dN C).natAbs) (dE C) (bV C) (by show bV (aC (canon C))=_;rw[bK]) W zo;have zz:(bV A==0)=true↔A=0:=by rw[<-Bool.not_eq_false];rw[ux];simp
 have zD:(bV C==0)=true↔C=0:=by rw[<-Bool.not_eq_false];rw[ux];simp
 have hpl:=λ(A C:Dyadic) (hS:A+C=S) (Lp:(nt (dN A).natAbs).length<=65536) (TK:(nt (dN C).natAbs).length<=65536) (p:Nat) (hp:dE A-dE C=(p:Int)) (CR:p<=524288) (Lu: -262144<=dE C/\dE C<=262144)=>(show ∃Z1 Z:Int,(∀W,Calls Tryz.prog 91 #[.agg #[.bool (ar (dN A)),.string (bs (nt (dN A).natAbs))],.int .i64 (p:Int)] W λe w'=>e=.returned (.agg #[.bool (ar Z1),.string (bs (nt Z1.natAbs))])/\Bw W w')/\(∀W,Calls Tryz.prog 90 #[.agg #[.bool (ar Z1),.string (bs (nt Z1.natAbs))],.agg #[.bool (ar (dN C)),.string (bs (nt (dN C).natAbs))]] W λe w'=>e=.returned (.agg #[.bool (ar Z),.string (bs (nt Z.natAbs))])/\Bw W w')/\(∀W,Calls Tryz.prog 79 #[.agg #[.bool (ar Z),.string (bs (nt Z.natAbs))],.int .i64 (dE C)] W λe w'=>e=.returned (bL S)/\Bw W w')from by
  obtain⟨Z1,h1⟩:=aB (dN A*2^p);obtain⟨Z,h2⟩:=aB (Z1+dN C);have l1:(nt Z1.natAbs).length<=589824:=by
   have e1:Z1.natAbs=nv (nt (dN A).natAbs) *2^p:=by rw[<-h1,Int.natAbs_mul,iF];simp[Int.natAbs_pow]
   rw[e1];exact Nat.le_trans (Yo _ p) zo
  have l2:(nt Z.natAbs).length<=589825:=by
   obtain⟨K,hK⟩:=aB (589824);rw[hK]at l1;have lcK:(nt (dN C).natAbs).length<=K:=by omega
   have hle:(nt Z.natAbs).length<=K+1:=by
    refine iQ ?_;have b1:Z1.natAbs<256^K:=Nat.lt_of_lt_of_le (Yp _) (Nat.pow_le_pow_right zd l1);have b2:(dN C).natAbs<256^K:=Nat.lt_of_lt_of_le (Yp _) (Nat.pow_le_pow_right zd lcK);have b3:Z.natAbs<=Z1.natAbs+(dN C).natAbs:=by rw[<-h2];exact Int.natAbs_add_le _ _
    rw[Nat.pow_succ];omega
   omega
  refine⟨Z1,Z,λW=>amj _ _ p Z1 (by rw[fc];exact h1) W zo zo,λW=>amb _ _ _ _ Z (by rw[fc,fc];exact h2) W zo zo,λW=>DK _ _ (dE C) S (alx A C S hS p hp Z1 Z h1 h2) W zo zo⟩)
 have xp:=hpl;by_cases qV:A=0
 . have zA:=zz.2 qV;have Lv:C=S:=by rw[<-hS,qV];grind
   subst Lv;obtain⟨fI,lD,wn⟩:=cK dc jI uV;clear dc jI uV xq hpl xp zz zD qV hA hC hS pM yU a1 a2 a3 c1 c2 c3 la lc hx hy;obtain⟨W,dF,Hb,Hx,Hy,Hr⟩:=rE w 30 [.bool s,.string (bs l),.int .i64 e] 30 [.bool t,.string (bs m),.int .i64 f] 30 [.bool false,.string ⟨#[]⟩,.int .i64 0];obtain⟨x0,aU,x1,aV,x2,aX⟩:=Hx.out.g3;obtain⟨y0,aO,y1,aP,y2,aR⟩:=Hy.out.g3;obtain⟨r0,aj,r1,ak,r2,aF⟩:=Hr.out.g3;go_enter Tryz.func54,Tryz.ntmps54;go_wp2_with fail;refine bC (λw'=>w'.cell? ⟨w.heap.size,0,none⟩=some (.bool s)/\w'.cell? ⟨w.heap.size,1,none⟩=some (.string (bs l))/\w'.cell? ⟨w.heap.size,2,none⟩=some (.int .i64 e)/\w'.cell? ⟨w.heap.size+1,0,none⟩=some (.bool t)/\w'.cell? ⟨w.heap.size+1,1,none⟩=some (.string (bs m))/\w'.cell? ⟨w.heap.size+1,2,none⟩=some (.int .i64 f)) (λi=>Nat.blt i 4) [(0,true),(2,true),(1,false),(3,false),(4,false),(5,false)] zk zk rfl zk zc ⟨x0,x1,x2,y0,y1,y2⟩ ?_;iterate 2 (refine pT rfl rfl ?_ (by intro w' ⟨q0,q1,q2,q3,q4,q5⟩;go_simp;try with_reducible rfl);try simp only[UU])
   refine aI rfl rfl (λK hK=>?_);go_simp;with_reducible refine(fI.out _).mono ?_
   rintro e w1 ⟨rfl,hq⟩;have ae:Bw W w1:=by first|exact hq|exact aN hq
   clear x0 aU x1 aV x2 aX y0 aO y1 aP y2 aR r0 aj r1 ak r2 aF;replace Hx:=kB Hx ae;replace Hy:=kB Hy ae;replace Hr:=kB Hr ae;obtain⟨x0,aU,x1,aV,x2,aX⟩:=Hx.out.g3;obtain⟨y0,aO,y1,aP,y2,aR⟩:=Hy.out.g3;obtain⟨r0,aj,r1,ak,r2,aF⟩:=Hr.out.g3;replace Hb:=au Hb ae;clear ae;refine hK _ _ (λ_=>⟨x0,x1,x2,y0,y1,y2⟩) ?_;clear hK K;try simp only[UU]
   refine aI rfl rfl (λK hK=>?_);go_simp;with_reducible refine(lD.out _).mono ?_
   rintro e w2 ⟨rfl,hq⟩;have ae:Bw w1 w2:=by first|exact hq|exact aN hq
   clear x0 aU x1 aV x2 aX y0 aO y1 aP y2 aR r0 aj r1 ak r2 aF;replace Hx:=kB Hx ae;replace Hy:=kB Hy ae;replace Hr:=kB Hr ae;obtain⟨x0,aU,x1,aV,x2,aX⟩:=Hx.out.g3;obtain⟨y0,aO,y1,aP,y2,aR⟩:=Hy.out.g3;obtain⟨r0,aj,r1,ak,r2,aF⟩:=Hr.out.g3;replace Hb:=au Hb ae;clear ae;refine hK _ _ (λ_=>⟨x0,x1,x2,y0,y1,y2⟩) ?_;clear hK K;try simp only[UU]
   refine aI rfl rfl (λK hK=>?_);go_simp;refine hK _ _ (λh=>absurd h zd) ?_;clear hK K;try simp only[UU]
   clear x0 aU x1 aV x2 aX y0 aO y1 aP y2 aR r0 aj r1 ak r2 aF;refine bF (bG w2 (w.heap.size) 0 [.bool (ar (dN A)),.string (bs (nt (dN A).natAbs)),.int .i64 (dE A)]) bP ?_;intro w3 hs;replace Hx:=cp Hx hs;replace Hy:=kS Hy hs zo;replace Hr:=kS Hr hs zo;obtain⟨x0,aU,x1,aV,x2,aX⟩:=Hx.out.g3;obtain⟨y0,aO,y1,aP,y2,aR⟩:=Hy.out.g3;obtain⟨r0,aj,r1,ak,r2,aF⟩:=Hr.out.g3;replace Hb:=bS Hb hs ZS;clear hs;refine aI rfl rfl (λK hK=>?_);go_simp;refine hK _ _ (λh=>absurd h zd) ?_;clear hK K;try simp only[UU]
   clear x0 aU x1 aV x2 aX y0 aO y1 aP y2 aR r0 aj r1 ak r2 aF;refine bF (bG w3 (w.heap.size+1) 0 [.bool (ar (dN C)),.string (bs (nt (dN C).natAbs)),.int .i64 (dE C)]) bP ?_;intro w4 hs;replace Hx:=kS Hx hs zo;replace Hy:=cp Hy hs;replace Hr:=kS Hr hs zo;obtain⟨x0,aU,x1,aV,x2,aX⟩:=Hx.out.g3;obtain⟨y0,aO,y1,aP,y2,aR⟩:=Hy.out.g3;obtain⟨r0,aj,r1,ak,r2,aF⟩:=Hr.out.g3;replace Hb:=bS Hb hs ZS;clear hs;simp only[aS];go_wp2_with fail;refine(wn.out _).mono ?_;rintro e w5 ⟨rfl,ae⟩;clear x0 aU x1 aV x2 aX y0 aO y1 aP y2 aR r0 aj r1 ak r2 aF;replace Hx:=kB Hx ae;replace Hy:=kB Hy ae;replace Hr:=kB Hr ae;obtain⟨x0,aU,x1,aV,x2,aX⟩:=Hx.out.g3;obtain⟨y0,aO,y1,aP,y2,aR⟩:=Hy.out.g3;obtain⟨r0,aj,r1,ak,r2,aF⟩:=Hr.out.g3;replace Hb:=au Hb ae;clear ae;go_wp2;clear x0 aU x1 aV x2 aX y0 aO y1 aP y2 aR r0 aj r1 ak r2 aF;refine fR (bG w5 (w.heap.size+1+1) 0 [.bool (ar (dN C)),.string (bs (nt (dN C).natAbs)),.int .i64 (dE C)]) bP ?_;intro w9 hs;replace Hx:=kS Hx hs zo;replace Hy:=kS Hy hs zo;replace Hr:=cp Hr hs;obtain⟨x0,aU,x1,aV,x2,aX⟩:=Hx.out.g3;obtain⟨y0,aO,y1,aP,y2,aR⟩:=Hy.out.g3;obtain⟨r0,aj,r1,ak,r2,aF⟩:=Hr.out.g3;replace Hb:=bS Hb hs ZS;clear hs;refine bodyPost_ret (v:=bL C) (by simp[results,Tryz.results54,go_sem,r0,r1,r2]) rfl ⟨rfl,Hb.out⟩
 have zA:(bV A==0)=false:=by rw[<-Bool.not_eq_true];exact λh=>qV (zz.1 h)
 by_cases nu:C=0
 . have zC:=zD.2 nu;have Lv:A=S:=by rw[<-hS,nu];grind
   subst Lv;obtain⟨fI,lD,wn,Bq⟩:=dH dc jI uV xq;clear dc jI uV xq hpl xp zz zD qV nu hA hC hS pM yU a1 a2 a3 c1 c2 c3 la lc hx hy;obtain⟨W,dF,Hb,Hx,Hy,Hr⟩:=rE w 30 [.bool s,.string (bs l),.int .i64 e] 30 [.bool t,.string (bs m),.int .i64 f] 30 [.bool false,.string ⟨#[]⟩,.int .i64 0];obtain⟨x0,aU,x1,aV,x2,aX⟩:=Hx.out.g3;obtain⟨y0,aO,y1,aP,y2,aR⟩:=Hy.out.g3;obtain⟨r0,aj,r1,ak,r2,aF⟩:=Hr.out.g3;go_enter Tryz.func54,Tryz.ntmps54;go_wp2_with fail;refine bC (λw'=>w'.cell? ⟨w.heap.size,0,none⟩=some (.bool s)/\w'.cell? ⟨w.heap.size,1,none⟩=some (.string (bs l))/\w'.cell? ⟨w.heap.size,2,none⟩=some (.int .i64 e)/\w'.cell? ⟨w.heap.size+1,0,none⟩=some (.bool t)/\w'.cell? ⟨w.heap.size+1,1,none⟩=some (.string (bs m))/\w'.cell? ⟨w.heap.size+1,2,none⟩=some (.int .i64 f)) (λi=>Nat.blt i 4) [(0,true),(2,true),(1,false),(3,false),(4,false),(5,false)] zk zk rfl zk zc ⟨x0,x1,x2,y0,y1,y2⟩ ?_;iterate 2 (refine pT rfl rfl ?_ (by intro w' ⟨q0,q1,q2,q3,q4,q5⟩;go_simp;try with_reducible rfl);try simp only[UU])
   refine aI rfl rfl (λK hK=>?_);go_simp;with_reducible refine(fI.out _).mono ?_
   rintro e w1 ⟨rfl,hq⟩;have ae:Bw W w1:=by first|exact hq|exact aN hq
   clear x0 aU x1 aV x2 aX y0 aO y1 aP y2 aR r0 aj r1 ak r2 aF;replace Hx:=kB Hx ae;replace Hy:=kB Hy ae;replace Hr:=kB Hr ae;obtain⟨x0,aU,x1,aV,x2,aX⟩:=Hx.out.g3;obtain⟨y0,aO,y1,aP,y2,aR⟩:=Hy.out.g3;obtain⟨r0,aj,r1,ak,r2,aF⟩:=Hr.out.g3;replace Hb:=au Hb ae;clear ae;refine hK _ _ (λ_=>⟨x0,x1,x2,y0,y1,y2⟩) ?_;clear hK K;try simp only[UU]
   refine aI rfl rfl (λK hK=>?_);go_simp;with_reducible refine(lD.out _).mono ?_
   rintro e w2 ⟨rfl,hq⟩;have ae:Bw w1 w2:=by first|exact hq|exact aN hq
   clear x0 aU x1 aV x2 aX y0 aO y1 aP y2 aR r0 aj r1 ak r2 aF;replace Hx:=kB Hx ae;replace Hy:=kB Hy ae;replace Hr:=kB Hr ae;obtain⟨x0,aU,x1,aV,x2,aX⟩:=Hx.out.g3;obtain⟨y0,aO,y1,aP,y2,aR⟩:=Hy.out.g3;obtain⟨r0,aj,r1,ak,r2,aF⟩:=Hr.out.g3;replace Hb:=au Hb ae;clear ae;refine hK _ _ (λ_=>⟨x0,x1,x2,y0,y1,y2⟩) ?_;clear hK K;try simp only[UU]
   refine aI rfl rfl (λK hK=>?_);go_simp;refine hK _ _ (λh=>absurd h zd) ?_;clear hK K;try simp only[UU]
   clear x0 aU x1 aV x2 aX y0 aO y1 aP y2 aR r0 aj r1 ak r2 aF;refine bF (bG w2 (w.heap.size) 0 [.bool (ar (dN A)),.string (bs (nt (dN A).natAbs)),.int .i64 (dE A)]) bP ?_;intro w3 hs;replace Hx:=cp Hx hs;replace Hy:=kS Hy hs zo;replace Hr:=kS Hr hs zo;obtain⟨x0,aU,x1,aV,x2,aX⟩:=Hx.out.g3;obtain⟨y0,aO,y1,aP,y2,aR⟩:=Hy.out.g3;obtain⟨r0,aj,r1,ak,r2,aF⟩:=Hr.out.g3;replace Hb:=bS Hb hs ZS;clear hs;refine aI rfl rfl (λK hK=>?_);go_simp;refine hK _ _ (λh=>absurd h zd) ?_;clear hK K;try simp only[UU]
   clear x0 aU x1 aV x2 aX y0 aO y1 aP y2 aR r0 aj r1 ak r2 aF;refine bF (bG w3 (w.heap.size+1) 0 [.bool (ar (dN C)),.string (bs (nt (dN C).natAbs)),.int .i64 (dE C)]) bP ?_;intro w4 hs;replace Hx:=kS Hx hs zo;replace Hy:=cp Hy hs;replace Hr:=kS Hr hs zo;obtain⟨x0,aU,x1,aV,x2,aX⟩:=Hx.out.g3;obtain⟨y0,aO,y1,aP,y2,aR⟩:=Hy.out.g3;obtain⟨r0,aj,r1,ak,r2,aF⟩:=Hr.out.g3;replace Hb:=bS Hb hs ZS;clear hs;simp only[aS];go_wp2_with fail;refine(wn.out _).mono ?_;rintro e w5 ⟨rfl,ae⟩;clear x0 aU x1 aV x2 aX y0 aO y1 aP y2 aR r0 aj r1 ak r2 aF;replace Hx:=kB Hx ae;replace Hy:=kB Hy ae;replace Hr:=kB Hr ae;obtain⟨x0,aU,x1,aV,x2,aX⟩:=Hx.out.g3;obtain⟨y0,aO,y1,aP,y2,aR⟩:=Hy.out.g3;obtain⟨r0,aj,r1,ak,r2,aF⟩:=Hr.out.g3;replace Hb:=au Hb ae;clear ae;go_wp2_with fail;refine(Bq.out _).mono ?_;rintro e w6 ⟨rfl,ae⟩;clear x0 aU x1 aV x2 aX y0 aO y1 aP y2 aR r0 aj r1 ak r2 aF;replace Hx:=kB Hx ae;replace Hy:=kB Hy ae;replace Hr:=kB Hr ae;obtain⟨x0,aU,x1,aV,x2,aX⟩:=Hx.out.g3;obtain⟨y0,aO,y1,aP,y2,aR⟩:=Hy.out.g3;obtain⟨r0,aj,r1,ak,r2,aF⟩:=Hr.out.g3;replace Hb:=au Hb ae;clear ae;go_wp2;clear x0 aU x1 aV x2 aX y0 aO y1 aP y2 aR r0 aj r1 ak r2 aF;refine fR (bG w6 (w.heap.size+1+1) 0 [.bool (ar (dN A)),.string (bs (nt (dN A).natAbs)),.int .i64 (dE A)]) bP ?_;intro w9 hs;replace Hx:=kS Hx hs zo;replace Hy:=kS Hy hs zo;replace Hr:=cp Hr hs;obtain⟨x0,aU,x1,aV,x2,aX⟩:=Hx.out.g3;obtain⟨y0,aO,y1,aP,y2,aR⟩:=Hy.out.g3;obtain⟨r0,aj,r1,ak,r2,aF⟩:=Hr.out.g3;replace Hb:=bS Hb hs ZS;clear hs;refine bodyPost_ret (v:=bL A) (by simp[results,Tryz.results54,go_sem,r0,r1,r2]) rfl ⟨rfl,Hb.out⟩
 have zC:(bV C==0)=false:=by rw[<-Bool.not_eq_true];exact λh=>nu (zD.1 h)
 by_cases hEE:dE A<dE C
 . obtain⟨p,hp⟩:∃p:Nat,dE C-dE A=(p:Int):=⟨(dE C-dE A).toNat,by omega⟩;obtain⟨Z1,Z,g1,g2,g3⟩:=hpl C A (by rw[<-hS];grind) lc la p hp zo zo;have hwr:IntKind.i64.wrap (dE C-dE A)=(p:Int):=by rw[IntKind.wrap_i64];omega
   obtain⟨fI,lD,wn,Bq,G1,G2,G3⟩:=oP dc jI uV xq g1 g2 g3;clear dc jI uV xq hpl xp zz zD qV nu hA hC hS pM yU a1 a2 a3 c1 c2 c3 la lc hx hy g1 g2 g3 hp;obtain⟨W,dF,Hb,Hx,Hy,Hr⟩:=rE w 30 [.bool s,.string (bs l),.int .i64 e] 30 [.bool t,.string (bs m),.int .i64 f] 30 [.bool false,.string ⟨#[]⟩,.int .i64 0];obtain⟨x0,aU,x1,aV,x2,aX⟩:=Hx.out.g3;obtain⟨y0,aO,y1,aP,y2,aR⟩:=Hy.out.g3;obtain⟨r0,aj,r1,ak,r2,aF⟩:=Hr.out.g3;go_enter Tryz.func54,Tryz.ntmps54;go_wp2_with fail;refine bC (λw'=>w'.cell? ⟨w.heap.size,0,none⟩=some (.bool s)/\w'.cell? ⟨w.heap.size,1,none⟩=some (.string (bs l))/\w'.cell? ⟨w.heap.size,2,none⟩=some (.int .i64 e)/\w'.cell? ⟨w.heap.size+1,0,none⟩=some (.bool t)/\w'.cell? ⟨w.heap.size+1,1,none⟩=some (.string (bs m))/\w'.cell? ⟨w.heap.size+1,2,none⟩=some (.int .i64 f)) (λi=>Nat.blt i 4) [(0,true),(2,true),(1,false),(3,false),(4,false),(5,false)] zk zk rfl zk zc ⟨x0,x1,x2,y0,y1,y2⟩ ?_;iterate 2 (refine pT rfl rfl ?_ (by intro w' ⟨q0,q1,q2,q3,q4,q5⟩;go_simp;try with_reducible rfl);try simp only[UU])
   refine aI rfl rfl (λK hK=>?_);go_simp;with_reducible refine(fI.out _).mono ?_
   rintro e w1 ⟨rfl,hq⟩;have ae:Bw W w1:=by first|exact hq|exact aN hq
   clear x0 aU x1 aV x2 aX y0 aO y1 aP y2 aR r0 aj r1 ak r2 aF;replace Hx:=kB Hx ae;replace Hy:=kB Hy ae;replace Hr:=kB Hr ae;obtain⟨x0,aU,x1,aV,x2,aX⟩:=Hx.out.g3;obtain⟨y0,aO,y1,aP,y2,aR⟩:=Hy.out.g3;obtain⟨r0,aj,r1,ak,r2,aF⟩:=Hr.out.g3;replace Hb:=au Hb ae;clear ae;refine hK _ _ (λ_=>⟨x0,x1,x2,y0,y1,y2⟩) ?_;clear hK K;try simp only[UU]
   refine aI rfl rfl (λK hK=>?_);go_simp;with_reducible refine(lD.out _).mono ?_
   rintro e w2 ⟨rfl,hq⟩;have ae:Bw w1 w2:=by first|exact hq|exact aN hq
   clear x0 aU x1 aV x2 aX y0 aO y1 aP y2 aR r0 aj r1 ak r2 aF;replace Hx:=kB Hx ae;replace Hy:=kB Hy ae;replace Hr:=kB Hr ae;obtain⟨x0,aU,x1,aV,x2,aX⟩:=Hx.out.g3;obtain⟨y0,aO,y1,aP,y2,aR⟩:=Hy.out.g3;obtain⟨r0,aj,r1,ak,r2,aF⟩:=Hr.out.g3;replace Hb:=au Hb ae;clear ae;refine hK _ _ (λ_=>⟨x0,x1,x2,y0,y1,y2⟩) ?_;clear hK K;try simp only[UU]
   refine aI rfl rfl (λK hK=>?_);go_simp;refine hK _ _ (λh=>absurd h zd) ?_;clear hK K;try simp only[UU]
   clear x0 aU x1 aV x2 aX y0 aO y1 aP y2 aR r0 aj r1 ak r2 aF;refine bF (bG w2 (w.heap.size) 0 [.bool (ar (dN A)),.string (bs (nt (dN A).natAbs)),.int .i64 (dE A)]) bP ?_;intro w3 hs;replace Hx:=cp Hx hs;replace Hy:=kS Hy hs zo;replace Hr:=kS Hr hs zo;obtain⟨x0,aU,x1,aV,x2,aX⟩:=Hx.out.g3;obtain⟨y0,aO,y1,aP,y2,aR⟩:=Hy.out.g3;obtain⟨r0,aj,r1,ak,r2,aF⟩:=Hr.out.g3;replace Hb:=bS Hb hs ZS;clear hs;refine aI rfl rfl (λK hK=>?_);go_simp;refine hK _ _ (λh=>absurd h zd) ?_;clear hK K;try simp only[UU]
   clear x0 aU x1 aV x2 aX y0 aO y1 aP y2 aR r0 aj r1 ak r2 aF;refine bF (bG w3 (w.heap.size+1) 0 [.bool (ar (dN C)),.string (bs (nt (dN C).natAbs)),.int .i64 (dE C)]) bP ?_;intro w4 hs;replace Hx:=kS Hx hs zo;replace Hy:=cp Hy hs;replace Hr:=kS Hr hs zo;obtain⟨x0,aU,x1,aV,x2,aX⟩:=Hx.out.g3;obtain⟨y0,aO,y1,aP,y2,aR⟩:=Hy.out.g3;obtain⟨r0,aj,r1,ak,r2,aF⟩:=Hr.out.g3;replace Hb:=bS Hb hs ZS;clear hs;simp only[aS];go_wp2_with fail;refine(wn.out _).mono ?_;rintro e w5 ⟨rfl,ae⟩;clear x0 aU x1 aV x2 aX y0 aO y1 aP y2 aR r0 aj r1 ak r2 aF;replace Hx:=kB Hx ae;replace Hy:=kB Hy ae;replace Hr:=kB Hr ae;obtain⟨x0,aU,x1,aV,x2,aX⟩:=Hx.out.g3;obtain⟨y0,aO,y1,aP,y2,aR⟩:=Hy.out.g3;obtain⟨r0,aj,r1,ak,r2,aF⟩:=Hr.out.g3;replace Hb:=au Hb ae;clear ae;go_wp2_with fail;refine(Bq.out _).mono ?_;rintro e w6 ⟨rfl,ae⟩;clear x0 aU x1 aV x2 aX y0 aO y1 aP y2 aR r0 aj r1 ak r2 aF;replace Hx:=kB Hx ae;replace Hy:=kB Hy ae;replace Hr:=kB Hr ae;obtain⟨x0,aU,x1,aV,x2,aX⟩:=Hx.out.g3;obtain⟨y0,aO,y1,aP,y2,aR⟩:=Hy.out.g3;obtain⟨r0,aj,r1,ak,r2,aF⟩:=Hr.out.g3;replace Hb:=au Hb ae;clear ae;go_wp2_with fail;clear x0 aU x1 aV x2 aX y0 aO y1 aP y2 aR r0 aj r1 ak r2 aF;obtain⟨R,hR⟩:∃R:World->Prop,(λw7=>ai w7 (w.heap.size) 30 [.bool (ar (dN C)),.string (bs (nt (dN C).natAbs)),.int .i64 (dE C)]/\ai w7 (w.heap.size+1) 30 [.bool (ar (dN A)),.string (bs (nt (dN A).natAbs)),.int .i64 (dE A)]/\ai w7 (w.heap.size+1+1) 30 [.bool false,.string ⟨#[]⟩,.int .i64 0]/\Bw w w7)=R:=⟨_,rfl⟩;first|refine bE R ?hR ?_|refine bD R ?hR ?_
   case hR=>subst hR;exact⟨((((((Hx.out.set 0 _).set 1 _).set 2 _).so (w.heap.size+1) 0 zo _).so (w.heap.size+1) 1 zo _).so (w.heap.size+1) 2 zo _),((((((Hy.out.so (w.heap.size) 0 zo _).so (w.heap.size) 1 zo _).so (w.heap.size) 2 zo _).set 0 _).set 1 _).set 2 _),((((((Hr.out.so (w.heap.size) 0 zo _).so (w.heap.size) 1 zo _).so (w.heap.size) 2 zo _).so (w.heap.size+1) 0 zo _).so (w.heap.size+1) 1 zo _).so (w.heap.size+1) 2 zo _),((((((Hb.out.sc (w.heap.size) 0 ZS _).sc (w.heap.size) 1 ZS _).sc (w.heap.size) 2 ZS _).sc (w.heap.size+1) 0 ZS _).sc (w.heap.size+1) 1 ZS _).sc (w.heap.size+1) 2 ZS _)⟩
   subst hR;rintro w7 ⟨qx,qy,qr,ae⟩;replace Hx:=ah qx;clear qx;replace Hy:=ah qy;clear qy;replace Hr:=ah qr;clear qr;obtain⟨x0,aU,x1,aV,x2,aX⟩:=Hx.out.g3;obtain⟨y0,aO,y1,aP,y2,aR⟩:=Hy.out.g3;obtain⟨r0,aj,r1,ak,r2,aF⟩:=Hr.out.g3;replace Hb:=ah ae;clear ae;refine bC (λw'=>w'.cell? ⟨w.heap.size,0,none⟩=some (.bool (ar (dN C)))/\w'.cell? ⟨w.heap.size,1,none⟩=some (.string (bs (nt (dN C).natAbs)))/\w'.cell? ⟨w.heap.size,2,none⟩=some (.int .i64 (dE C))/\w'.cell? ⟨w.heap.size+1,0,none⟩=some (.bool (ar (dN A)))/\w'.cell? ⟨w.heap.size+1,1,none⟩=some (.string (bs (nt (dN A).natAbs)))/\w'.cell? ⟨w.heap.size+1,2,none⟩=some (.int .i64 (dE A))) (λi=>Nat.blt i 14) [(0,true),(1,true),(2,true),(3,true),(4,true),(5,true),(6,true),(8,true),(9,true),(11,true),(12,true),(7,false),(10,false),(13,false),(14,false)] zk zk rfl zk zc ⟨x0,x1,x2,y0,y1,y2⟩ ?_;iterate 11 (refine pT rfl rfl ?_ (by intro w' ⟨q0,q1,q2,q3,q4,q5⟩;go_simp;try with_reducible rfl);try simp only[UU])
   refine aI rfl rfl (λK hK=>?_);go_simp;with_reducible refine(G1.out _).mono ?_
   rintro e gN ⟨rfl,hq⟩;have ae:Bw w7 gN:=by first|exact hq|exact aN hq
   clear x0 aU x1 aV x2 aX y0 aO y1 aP y2 aR r0 aj r1 ak r2 aF;replace Hx:=kB Hx ae;replace Hy:=kB Hy ae;replace Hr:=kB Hr ae;obtain⟨x0,aU,x1,aV,x2,aX⟩:=Hx.out.g3;obtain⟨y0,aO,y1,aP,y2,aR⟩:=Hy.out.g3;obtain⟨r0,aj,r1,ak,r2,aF⟩:=Hr.out.g3;replace Hb:=au Hb ae;clear ae;refine hK _ _ (λ_=>⟨x0,x1,x2,y0,y1,y2⟩) ?_;clear hK K;try simp only[UU]
   refine aI rfl rfl (λK hK=>?_);go_simp;with_reducible refine(G2.out _).mono ?_
   rintro e mU ⟨rfl,hq⟩;have ae:Bw gN mU:=by first|exact hq|exact aN hq
   clear x0 aU x1 aV x2 aX y0 aO y1 aP y2 aR r0 aj r1 ak r2 aF;replace Hx:=kB Hx ae;replace Hy:=kB Hy ae;replace Hr:=kB Hr ae;obtain⟨x0,aU,x1,aV,x2,aX⟩:=Hx.out.g3;obtain⟨y0,aO,y1,aP,y2,aR⟩:=Hy.out.g3;obtain⟨r0,aj,r1,ak,r2,aF⟩:=Hr.out.g3;replace Hb:=au Hb ae;clear ae;refine hK _ _ (λ_=>⟨x0,x1,x2,y0,y1,y2⟩) ?_;clear hK K;try simp only[UU]
   refine aI rfl rfl (λK hK=>?_);go_simp;with_reducible refine(G3.out _).mono ?_
   rintro e rM ⟨rfl,hq⟩;have ae:Bw mU rM:=by first|exact hq|exact aN hq
   clear x0 aU x1 aV x2 aX y0 aO y1 aP y2 aR r0 aj r1 ak r2 aF;replace Hx:=kB Hx ae;replace Hy:=kB Hy ae;replace Hr:=kB Hr ae;obtain⟨x0,aU,x1,aV,x2,aX⟩:=Hx.out.g3;obtain⟨y0,aO,y1,aP,y2,aR⟩:=Hy.out.g3;obtain⟨r0,aj,r1,ak,r2,aF⟩:=Hr.out.g3;replace Hb:=au Hb ae;clear ae;refine hK _ _ (λ_=>⟨x0,x1,x2,y0,y1,y2⟩) ?_;clear hK K;try simp only[UU]
   refine aI rfl rfl (λK hK=>?_);go_simp;refine hK _ _ (λh=>absurd h zd) ?_;clear hK K;try simp only[UU]
   clear x0 aU x1 aV x2 aX y0 aO y1 aP y2 aR r0 aj r1 ak r2 aF;refine bF (bG rM (w.heap.size+1+1) 0 [.bool (ar (dN S)),.string (bs (nt (dN S).natAbs)),.int .i64 (dE S)]) bP ?_;intro w19 hs;replace Hx:=kS Hx hs zo;replace Hy:=kS Hy hs zo;replace Hr:=cp Hr hs;obtain⟨x0,aU,x1,aV,x2,aX⟩:=Hx.out.g3;obtain⟨y0,aO,y1,aP,y2,aR⟩:=Hy.out.g3;obtain⟨r0,aj,r1,ak,r2,aF⟩:=Hr.out.g3;replace Hb:=bS Hb hs ZS;clear hs;simp only[aS];go_wp2;refine bodyPost_ret (v:=bL S) (by simp[results,Tryz.results54,go_sem,r0,r1,r2]) rfl ⟨rfl,?_⟩;(repeat first|exact Hb.out| (refine Below.setCell ?_ (by have:=Hb.out.size;first| (dsimp only;omega) | (show _<=_;omega) | (simp<;>omega)) _) | (refine Below.alloc ?_ zt _) |refine Below.drew ?_)
 . obtain⟨p,hp⟩:∃p:Nat,dE A-dE C=(p:Int):=⟨(dE A-dE C).toNat,by omega⟩;obtain⟨Z1,Z,g1,g2,g3⟩:=hpl A C hS la lc p hp zo zo;have hwr:IntKind.i64.wrap (dE A-dE C)=(p:Int):=by rw[IntKind.wrap_i64];omega
   obtain⟨fI,lD,wn,Bq,G1,G2,G3⟩:=oP dc jI uV xq g1 g2 g3;clear dc jI uV xq hpl xp zz zD qV nu hA hC hS pM yU a1 a2 a3 c1 c2 c3 la lc hx hy g1 g2 g3 hp;obtain⟨W,dF,Hb,Hx,Hy,Hr⟩:=rE w 30 [.bool s,.string (bs l),.int .i64 e] 30 [.bool t,.string (bs m),.int .i64 f] 30 [.bool false,.string ⟨#[]⟩,.int .i64 0];obtain⟨x0,aU,x1,aV,x2,aX⟩:=Hx.out.g3;obtain⟨y0,aO,y1,aP,y2,aR⟩:=Hy.out.g3;obtain⟨r0,aj,r1,ak,r2,aF⟩:=Hr.out.g3;go_enter Tryz.func54,Tryz.ntmps54;go_wp2_with fail;refine bC (λw'=>w'.cell? ⟨w.heap.size,0,none⟩=some (.bool s)/\w'.cell? ⟨w.heap.size,1,none⟩=some (.string (bs l))/\w'.cell? ⟨w.heap.size,2,none⟩=some (.int .i64 e)/\w'.cell? ⟨w.heap.size+1,0,none⟩=some (.bool t)/\w'.cell? ⟨w.heap.size+1,1,none⟩=some (.string (bs m))/\w'.cell? ⟨w.heap.size+1,2,none⟩=some (.int .i64 f)) (λi=>Nat.blt i 4) [(0,true),(2,true),(1,false),(3,false),(4,false),(5,false)] zk zk rfl zk zc ⟨x0,x1,x2,y0,y1,y2⟩ ?_;iterate 2 (refine pT rfl rfl ?_ (by intro w' ⟨q0,q1,q2,q3,q4,q5⟩;go_simp;try with_reducible rfl);try simp only[UU])
   refine aI rfl rfl (λK hK=>?_);go_simp;with_reducible refine(fI.out _).mono ?_
   rintro e w1 ⟨rfl,hq⟩;have ae:Bw W w1:=by first|exact hq|exact aN hq
   clear x0 aU x1 aV x2 aX y0 aO y1 aP y2 aR r0 aj r1 ak r2 aF;replace Hx:=kB Hx ae;replace Hy:=kB Hy ae;replace Hr:=kB Hr ae;obtain⟨x0,aU,x1,aV,x2,aX⟩:=Hx.out.g3;obtain⟨y0,aO,y1,aP,y2,aR⟩:=Hy.out.g3;obtain⟨r0,aj,r1,ak,r2,aF⟩:=Hr.out.g3;replace Hb:=au Hb ae;clear ae;refine hK _ _ (λ_=>⟨x0,x1,x2,y0,y1,y2⟩) ?_;clear hK K;try simp only[UU]
   refine aI rfl rfl (λK hK=>?_);go_simp;with_reducible refine(lD.out _).mono ?_
   rintro e w2 ⟨rfl,hq⟩;have ae:Bw w1 w2:=by first|exact hq|exact aN hq
   clear x0 aU x1 aV x2 aX y0 aO y1 aP y2 aR r0 aj r1 ak r2 aF;replace Hx:=kB Hx ae;replace Hy:=kB Hy ae;replace Hr:=kB Hr ae;obtain⟨x0,aU,x1,aV,x2,aX⟩:=Hx.out.g3;obtain⟨y0,aO,y1,aP,y2,aR⟩:=Hy.out.g3;obtain⟨r0,aj,r1,ak,r2,aF⟩:=Hr.out.g3;replace Hb:=au Hb ae;clear ae;refine hK _ _ (λ_=>⟨x0,x1,x2,y0,y1,y2⟩) ?_;clear hK K;try simp only[UU]
   refine aI rfl rfl (λK hK=>?_);go_simp;refine hK _ _ (λh=>absurd h zd) ?_;clear hK K;try simp only[UU]
   clear x0 aU x1 aV x2 aX y0 aO y1 aP y2 aR r0 aj r1 ak r2 aF;refine bF (bG w2 (w.heap.size) 0 [.bool (ar (dN A)),.string (bs (nt (dN A).natAbs)),.int .i64 (dE A)]) bP ?_;intro w3 hs;replace Hx:=cp Hx hs;replace Hy:=kS Hy hs zo;replace Hr:=kS Hr hs zo;obtain⟨x0,aU,x1,aV,x2,aX⟩:=Hx.out.g3;obtain⟨y0,aO,y1,aP,y2,aR⟩:=Hy.out.g3;obtain⟨r0,aj,r1,ak,r2,aF⟩:=Hr.out.g3;replace Hb:=bS Hb hs ZS;clear hs;refine aI rfl rfl (λK hK=>?_);go_simp;refine hK _ _ (λh=>absurd h zd) ?_;clear hK K;try simp only[UU]
   clear x0 aU x1 aV x2 aX y0 aO y1 aP y2 aR r0 aj r1 ak r2 aF;refine bF (bG w3 (w.heap.size+1) 0 [.bool (ar (dN C)),.string (bs (nt (dN C).natAbs)),.int .i64 (dE C)]) bP ?_;intro w4 hs;replace Hx:=kS Hx hs zo;replace Hy:=cp Hy hs;replace Hr:=kS Hr hs zo;obtain⟨x0,aU,x1,aV,x2,aX⟩:=Hx.out.g3;obtain⟨y0,aO,y1,aP,y2,aR⟩:=Hy.out.g3;obtain⟨r0,aj,r1,ak,r2,aF⟩:=Hr.out.g3;replace Hb:=bS Hb hs ZS;clear hs;simp only[aS];go_wp2_with fail;refine(wn.out _).mono ?_;rintro e w5 ⟨rfl,ae⟩;clear x0 aU x1 aV x2 aX y0 aO y1 aP y2 aR r0 aj r1 ak r2 aF;replace Hx:=kB Hx ae;replace Hy:=kB Hy ae;replace Hr:=kB Hr ae;obtain⟨x0,aU,x1,aV,x2,aX⟩:=Hx.out.g3;obtain⟨y0,aO,y1,aP,y2,aR⟩:=Hy.out.g3;obtain⟨r0,aj,r1,ak,r2,aF⟩:=Hr.out.g3;replace Hb:=au Hb ae;clear ae;go_wp2_with fail;refine(Bq.out _).mono ?_;rintro e w6 ⟨rfl,ae⟩;clear x0 aU x1 aV x2 aX y0 aO y1 aP y2 aR r0 aj r1 ak r2 aF;replace Hx:=kB Hx ae;replace Hy:=kB Hy ae;replace Hr:=kB Hr ae;obtain⟨x0,aU,x1,aV,x2,aX⟩:=Hx.out.g3;obtain⟨y0,aO,y1,aP,y2,aR⟩:=Hy.out.g3;obtain⟨r0,aj,r1,ak,r2,aF⟩:=Hr.out.g3;replace Hb:=au Hb ae;clear ae;go_wp2_with fail;refine bC (λw'=>w'.cell? ⟨w.heap.size,0,none⟩=some (.bool (ar (dN A)))/\w'.cell? ⟨w.heap.size,1,none⟩=some (.string (bs (nt (dN A).natAbs)))/\w'.cell? ⟨w.heap.size,2,none⟩=some (.int .i64 (dE A))/\w'.cell? ⟨w.heap.size+1,0,none⟩=some (.bool (ar (dN C)))/\w'.cell? ⟨w.heap.size+1,1,none⟩=some (.string (bs (nt (dN C).natAbs)))/\w'.cell? ⟨w.heap.size+1,2,none⟩=some (.int .i64 (dE C))) (λi=>Nat.blt i 14) [(0,true),(1,true),(2,true),(3,true),(4,true),(5,true),(6,true),(8,true),(9,true),(11,true),(12,true),(7,false),(10,false),(13,false),(14,false)] zk zk rfl zk zc ⟨x0,x1,x2,y0,y1,y2⟩ ?_;iterate 11 (refine pT rfl rfl ?_ (by intro w' ⟨q0,q1,q2,q3,q4,q5⟩;go_simp;try with_reducible rfl);try simp only[UU])
   refine aI rfl rfl (λK hK=>?_);go_simp;with_reducible refine(G1.out _).mono ?_
   rintro e gN ⟨rfl,hq⟩;have ae:Bw w6 gN:=by first|exact hq|exact aN hq
   clear x0 aU x1 aV x2 aX y0 aO y1 aP y2 aR r0 aj r1 ak r2 aF;replace Hx:=kB Hx ae;replace Hy:=kB Hy ae;replace Hr:=kB Hr ae;obtain⟨x0,aU,x1,aV,x2,aX⟩:=Hx.out.g3;obtain⟨y0,aO,y1,aP,y2,aR⟩:=Hy.out.g3;obtain⟨r0,aj,r1,ak,r2,aF⟩:=Hr.out.g3;replace Hb:=au Hb ae;clear ae;refine hK _ _ (λ_=>⟨x0,x1,x2,y0,y1,y2⟩) ?_;clear hK K;try simp only[UU]
   refine aI rfl rfl (λK hK=>?_);go_simp;with_reducible refine(G2.out _).mono ?_
   rintro e mU ⟨rfl,hq⟩;have ae:Bw gN mU:=by first|exact hq|exact aN hq
   clear x0 aU x1 aV x2 aX y0 aO y1 aP y2 aR r0 aj r1 ak r2 aF;replace Hx:=kB Hx ae;replace Hy:=kB Hy ae;replace Hr:=kB Hr ae;obtain⟨x0,aU,x1,aV,x2,aX⟩:=Hx.out.g3;obtain⟨y0,aO,y1,aP,y2,aR⟩:=Hy.out.g3;obtain⟨r0,aj,r1,ak,r2,aF⟩:=Hr.out.g3;replace Hb:=au Hb ae;clear ae;refine hK _ _ (λ_=>⟨x0,x1,x2,y0,y1,y2⟩) ?_;clear hK K;try simp only[UU]
   refine aI rfl rfl (λK hK=>?_);go_simp;with_reducible refine(G3.out _).mono ?_
   rintro e rM ⟨rfl,hq⟩;have ae:Bw mU rM:=by first|exact hq|exact aN hq
   clear x0 aU x1 aV x2 aX y0 aO y1 aP y2 aR r0 aj r1 ak r2 aF;replace Hx:=kB Hx ae;replace Hy:=kB Hy ae;replace Hr:=kB Hr ae;obtain⟨x0,aU,x1,aV,x2,aX⟩:=Hx.out.g3;obtain⟨y0,aO,y1,aP,y2,aR⟩:=Hy.out.g3;obtain⟨r0,aj,r1,ak,r2,aF⟩:=Hr.out.g3;replace Hb:=au Hb ae;clear ae;refine hK _ _ (λ_=>⟨x0,x1,x2,y0,y1,y2⟩) ?_;clear hK K;try simp only[UU]
   refine aI rfl rfl (λK hK=>?_);go_simp;refine hK _ _ (λh=>absurd h zd) ?_;clear hK K;try simp only[UU]
   clear x0 aU x1 aV x2 aX y0 aO y1 aP y2 aR r0 aj r1 ak r2 aF;refine bF (bG rM (w.heap.size+1+1) 0 [.bool (ar (dN S)),.string (bs (nt (dN S).natAbs)),.int .i64 (dE S)]) bP ?_;intro w19 hs;replace Hx:=kS Hx hs zo;replace Hy:=kS Hy hs zo;replace Hr:=cp Hr hs;obtain⟨x0,aU,x1,aV,x2,aX⟩:=Hx.out.g3;obtain⟨y0,aO,y1,aP,y2,aR⟩:=Hy.out.g3;obtain⟨r0,aj,r1,ak,r2,aF⟩:=Hr.out.g3;replace Hb:=bS Hb hs ZS;clear hs;simp only[aS];go_wp2;refine bodyPost_ret (v:=bL S) (by simp[results,Tryz.results54,go_sem,r0,r1,r2]) rfl ⟨rfl,?_⟩;(repeat first|exact Hb.out| (refine Below.setCell ?_ (by have:=Hb.out.size;first| (dsimp only;omega) | (show _<=_;omega) | (simp<;>omega)) _) | (refine Below.alloc ?_ zt _) |refine Below.drew ?_)
end Go.Proofs.YtdaadlblknpipaaGreatDoor
