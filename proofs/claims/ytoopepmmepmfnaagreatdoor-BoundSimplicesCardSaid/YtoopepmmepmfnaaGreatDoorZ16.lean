/- Package ogeeref04: Make. -/
import Derived.Test.YtoopepmmepmfnaaGreatDoorZ15
import Derived.Deep.RegionWith
import Derived.Test.YtoopepmmepmfnaaGreatDoorZ9
import Derived.Test.YtoopepmmepmfnaaGreatDoorZ11
import Derived.Test.YtoopepmmepmfnaaGreatDoorZ12
set_option linter.unusedVariables false
set_option linter.unusedSimpArgs false
set_option maxRecDepth 100000
set_option maxHeartbeats 16000000
namespace Go.Proofs.YtoopepmmepmfnaaGreatDoor
open Go.RowKit
attribute [local go_sem ↓] Go.wp_at_zero Go.wp_at_succ
theorem aiy (M:List UInt8)(c:UInt8):(bs (M++[c])).extract 0 M.length=bs M:=by apply ByteArray.ext;unfold bs;rw[ByteArray.data_extract];simp
theorem aqw (M:List UInt8)(c:UInt8)(i:Int)(hi:i=M.length)(W:World):
 (Instr.sliceAt 9 (ah (M++[c])) none (some (af i)) none).run Tryz.prog W=.ok (ah M) W:=by
 subst hi;have h:=run_slice_string_h (P:=Tryz.prog) W 9 (bs (M++[c])) Tryz.underlying9 .i64 M.length zo (by rw[oP];simp<;>omega);simp only[Int.toNat_natCast,aiy M c]at h;simpa[Instr.sliceAt,run_underlying Tryz.underlying9]using h
theorem aiK (s:Bool)(n:Nat)(e:Int)(h:n%2=1):canon (az (s,nt n,e))=(s,nt n,e):=by
 have h0:iv s (nt n)≠0:=by rw[mU];split<;>omega
 obtain⟨h1,h2⟩:=Pf s (nt n) e h0;have ht:tz n=0:=by have:=adm 0 (n/2);rw[show 2^0* (2* (n/2)+1)=n by omega]at this;exact this
 rw[jJ,ht]at h1 h2;unfold canon;rw[h1,h2];have e1:iv s (nt n)/2^0=iv s (nt n):=by simp
 rw[e1,RL,pk,jJ];have e3:(nt n).isEmpty=false:=by
  have:=LV (n:=n) zo;cases h:nt n with
  |nil=>exact absurd h this
  |cons a b=>rfl
 rw[e3];simp
theorem aj2 (s:Bool)(l:List UInt8)(n k:Nat)(e:Int)(h:n*2^k=nv l):az (s,nt n,e+k)=az (s,l,e):=by
 unfold az;have e1:iv s l=iv s (nt n) *2^k:=by
  rw[mU];unfold iv;rw[<-h];split
  . rw[Int.neg_mul];simp
  . simp
 simp only[e1];rw[<-tO (iv s (nt n)) k (-(e+k))];congr 1;omega
theorem ao8 {n k v b:Nat}(h:n*2^k=v)(h0:0<v)(hv:v<2^b):k<b/\0<n:=by
 have hn:0<n:=by
  rcases Nat.eq_zero_or_pos n with h1|h1
  . subst h1;simp at h;omega
  . exact h1
 refine⟨?_,hn⟩;rcases Nat.lt_or_ge k b with h1|h1
 . exact h1
 . have h2:=Nat.pow_le_pow_right (show 0<2 by decide) h1;have h3:2^k<=n*2^k:=Nat.le_mul_of_pos_left _ hn;omega
theorem apN (w:World):Calls Tryz.prog 31 #[af 2] w λe w'=>e=.returned (.agg #[ag false,ah (nt 2)])/\Bw w w':=Du 2 w zd
theorem abO {n:Nat}(h:0<n):∃M c,nt n=M++[c]/\M=nt (n/256)/\c.toNat=n%256:=⟨_,_,Ie h,rfl,JV n⟩
theorem apJ (s:Bool)(l:List UInt8)(e:Int)(w:World)(hl:l.length<=1048576)(h0:nv l=0):
 Calls Tryz.prog 71 #[.agg #[ag s,ah l],af e] w λr w'=>r=.returned (bL 0)/\Bw w w':=by
 have hf:=λW=>Iq s l W zo;simp only[h0,AJ,List.isEmpty_nil,Bool.not_true,Bool.and_false]at hf;have Hf:=ai hf;have hem:(bs []).toList.isEmpty=true:=by rw[vB];rfl
 clear hf h0;obtain⟨W,cg,Hb,Hm,Hr⟩:=iq w 32 [ag s,ah l] 39 [ag false,.string ⟨#[]⟩,af 0];obtain⟨m0,xk,m1,ut⟩:=Hm.out.g2;obtain⟨r0,aj,r1,ak,r2,aF⟩:=Hr.out.g3;go_enter Tryz.func71,Tryz.ntmps71;go_wp2_with fail;refine(Hf.out _).mono ?_;rintro e w1 ⟨rfl,ae⟩;clear m0 xk m1 ut r0 aj r1 ak r2 aF;obtain⟨Hm,m0,xk,m1,ut⟩:=bE Hm ae;obtain⟨Hr,r0,aj,r1,ak,r2,aF⟩:=aN Hr ae;replace Hb:=aB Hb ae;clear ae;go_wp2;refine bodyPost_ret (v:=.agg #[ag false,.string ⟨#[]⟩,af 0]) (by simp[results,Tryz.results71,go_sem,r0,r1,r2]) rfl ⟨rfl,?_⟩;(repeat first|exact Hb.out| (refine Below.setCell ?_ (by have:=Hb.out.size;first| (dsimp only;omega) | (show _<=_;omega) | (simp<;>omega)) _) |refine Below.drew ?_)
theorem apI (s:Bool)(l:List UInt8)(e:Int)(D:Dyadic)(hD:az (s,l,e)=D)(w:World)(hl:l.length<=1048576)(he: -1099511627776<=e/\e<=1099511627776)(h0:0<nv l):
 Calls Tryz.prog 71 #[.agg #[ag s,ah l],af e] w λr w'=>r=.returned (bL D)/\Bw w w':=by
 have hf:=λW=>Iq s l W zo;have e3:(nt (nv l)).isEmpty=false:=by
  have:=LV h0;cases h:nt (nv l)with
  |nil=>exact absurd h this
  |cons a b=>rfl
 rw[e3]at hf;simp only[Bool.not_false,Bool.and_true]at hf;have hvb:=pD l;obtain⟨v,hv⟩:=aG (nv l);rw[hv]at h0 hvb;simp only[hv]at hf;have hup:∀n k:Nat,n*2^k=v->az (s,nt n,e+k)=D:=λn k h=>by rw[<-hD];exact aj2 s l n k e (by rw[hv];exact h)
 obtain⟨Bn,Xw⟩:=aG (8*l.length);have hpb:∀n k:Nat,n*2^k=v->k<Bn/\0<n:=λn k h=>by rw[<-Xw];exact ao8 h h0 hvb
 have hBl:Bn<=8388608:=by omega
 obtain⟨Hf,NY,bu⟩:=cL hf hup hpb;have at1:(bs (nt v)).toList.isEmpty=false:=by rw[vB,<-hv];exact e3
 have ZV:∀n k:Nat,n*2^k=v->(nt n).length<=1048576:=λn k h=>by refine Nat.le_trans (jr (Nat.lt_of_le_of_lt (Nat.le_mul_of_pos_right n (Nat.pow_pos (n:=k) (show 0<2 by decide))) ?_)) hl;rw[h,<-hv];exact gL l
 have Vj:=ai ZV;clear hf e3 hvb hup hpb Xw hD hv h0 ZV;obtain⟨W,cg,Hb,Hm,Hr⟩:=iq w 32 [ag s,ah l] 39 [ag false,.string ⟨#[]⟩,af 0];obtain⟨m0,xk,m1,ut⟩:=Hm.out.g2;obtain⟨r0,aj,r1,ak,r2,aF⟩:=Hr.out.g3;go_enter Tryz.func71,Tryz.ntmps71;go_wp2_with fail;refine(Hf.out _).mono ?_;rintro e w1 ⟨rfl,ae⟩;clear m0 xk m1 ut r0 aj r1 ak r2 aF;obtain⟨Hm,m0,xk,m1,ut⟩:=bE Hm ae;obtain⟨Hr,r0,aj,r1,ak,r2,aF⟩:=aN Hr ae;replace Hb:=aB Hb ae;clear ae;go_wp2_with fail;clear m0 xk m1 ut r0 aj r1 ak r2 aF;first|refine cf (bC w1 (w.heap.size) 0 [ag s,ah (nt v)]) bJ ?_|refine bZ (bC w1 (w.heap.size) 0 [ag s,ah (nt v)]) bJ ?_
 intro w2 hs;replace Hm:=bP Hm hs;replace Hr:=kS Hr hs zo;obtain⟨m0,xk,m1,ut⟩:=Hm.out.g2;obtain⟨r0,aj,r1,ak,r2,aF⟩:=Hr.out.g3;replace Hb:=bS Hb hs ZS;clear hs m0 m1 xk ut r0 r1 r2 aj ak aF;have lm:=Hm.out.lt;have lr:=Hr.out.lt;go_loopw[1] (λx wr=>∃n k:Nat,n*2^k=v/\x=af (e+k)/\ar wr w.heap.size 32 [ag s,ah (nt n)]/\ar wr (w.heap.size+1) 39 [ag false,.string ⟨#[]⟩,af 0]/\Bw w wr) (λx _=>(e+Bn+100-intOf x).toNat);case atStart=>exact⟨v,0,by simp,by simp,Hm.out,Hr.out,Hb.out⟩
 case round=>
  clear Hm Hr Hb;obtain⟨n,k,vR,rfl,hm,hr,hb⟩:=hrel;obtain⟨hk,hn⟩:=bu.out n k vR;obtain⟨M,c,hM,KE,hc⟩:=abO hn;obtain⟨Hm,Hr,Hb,BO,HM,Ud⟩:=gW hm hr hb vR hM KE;have hnl:=Vj.out n k vR;have Fw:M.length+1<=1048576:=by rw[hM]at hnl;simpa using hnl
  have m1:wr.cell? ⟨w.heap.size,1,none⟩=some (ah (M++[c])):=by rw[<-hM];exact hm.cell 1
  have ut:wr.frozen? ⟨w.heap.size,1,none⟩=false:=hm.free 1;have hsz:(bs (M++[c])).size=M.length+1:=by rw[oP];simp
  have iB:=Aw (M++[c]) (M.length:Int) M.length zm rfl;have qj:(M++[c])[M.length]'zm=c:=by simp
  rw[qj]at iB;obtain⟨C,hC⟩:=aG c.toNat;rw[hC]at iB hc;have hsl:=aqw M c (M.length:Int) rfl;have Hc:=ai hc;clear hm hr hb vR hM KE qj hc hnl;by_cases pR:C=0
  . subst pR;go_wp2;go_roundw;case rel=>
     refine⟨n/256,k+8,?_,by go_num,?_,?_,?_⟩
     . have h1:=Hc.out;have h2:=BO.out;rw[<-h2,Nat.pow_add,show(2:Nat)^8=256 by rfl,Nat.mul_comm (2^k),<-Nat.mul_assoc];congr 1;omega
     . rw[<-Ud.out];exact Hm.out.set 1 _
     . exact Hr.out.aw3 ⟨w.heap.size,1,none⟩ zp _
     . exact Hb.out.setCell zp _
    case measure=>simp[intOf];omega
  . have Xz:((C:Int)==0)=false:=by simp;omega
    go_wp2_with fail;clear m1 ut hsz iB hsl Fw Xz hC pR;go_loopw[1] (λx wr=>∃n k:Nat,n*2^k=v/\x=af (e+k)/\ar wr w.heap.size 32 [ag s,ah (nt n)]/\ar wr (w.heap.size+1) 39 [ag false,.string ⟨#[]⟩,af 0]/\Bw w wr) (λx _=>(e+Bn+100-intOf x).toNat);case atStart=>exact⟨n,k,BO.out,rfl,Hm.out,Hr.out,Hb.out⟩
    case round=>
     clear Hm Hr Hb BO HM Ud Hc hk hn;obtain⟨n,k,vR,rfl,hm,hr,hb⟩:=hrel;obtain⟨hk,hn⟩:=bu.out n k vR;obtain⟨M,c,hM,KE,hc⟩:=abO hn;obtain⟨Hr,BO,HM⟩:=cL hr vR hM;have hnl:=Vj.out n k vR;have Fw:M.length+1<=1048576:=by rw[hM]at hnl;simpa using hnl
     have Hm:Hid (ar wr w.heap.size 32 [ag s,ah (M++[c])]):=by rw[hM]at hm;exact hm
     have m0:wr.cell? ⟨w.heap.size,0,none⟩=some (ag s):=Hm.out.cell 0;have m1:wr.cell? ⟨w.heap.size,1,none⟩=some (ah (M++[c])):=Hm.out.cell 1;have hsz:(bs (M++[c])).size=M.length+1:=by rw[oP];simp
     have iB:=Aw (M++[c]) (M.length:Int) M.length zm rfl;have qj:(M++[c])[M.length]'zm=c:=by simp
     rw[qj]at iB;obtain⟨C,hC⟩:=aG c.toNat;rw[hC]at iB hc;have atO:=hb.size;have fP:=ai hb;clear hm hr hb vR KE qj hC;by_cases hev:n%2=0
     . obtain⟨n',rfl⟩:∃n',n=2*n':=⟨n/2,by omega⟩;have aam:(C:Int)%2=0:=by omega
       have hh:=λW=>apF s n' W zo (Nat.le_trans hnl zd);rw[hM]at hh;have Hh:=ai hh;have Hb:Hid (Bw wr wr):=Below.refl _ _;clear hh hM hnl hc;go_wp2_with fail;have lmm:=Hm.out.lt;have lrr:=Hr.out.lt;go_region_with (first| (go_at_call 31;refine(apN _).mono ?_;rintro e3 w3 ⟨rfl,hb3⟩;replace hb3:=aW hb3;have Ju:=ai (Hm.out.below hb3);have m03:w3.cell? ⟨w.heap.size,0,none⟩=some (ag s):=Ju.out.cell 0;have uK:w3.cell? ⟨w.heap.size,1,none⟩=some (ah (M++[c])):=Ju.out.cell 1) | (go_at_call 118;refine(Hh.out _).mono ?_;rintro e4 w4 ⟨rfl,hb4⟩;have BM:=ai (Ju.out.below hb4);have m04:w4.cell? ⟨w.heap.size,0,none⟩=some (ag s):=BM.out.cell 0;have uL:w4.cell? ⟨w.heap.size,1,none⟩=some (ah (M++[c])):=BM.out.cell 1;have akp:=BM.out.free 0;have akq:=BM.out.free 1))
       all_goals
        have HBm:=ai (aJ (aJ fP.out hb3) hb4)
        have Hm4:=ai ((BM.out.set 0 (ag s)).set 1 (ah (nt n')))
        have EF:=ai ((((Hr.out.below hb3).below hb4).aw3 ⟨w.heap.size,0,none⟩ zp (ag s)).aw3 ⟨w.heap.size,1,none⟩ zp (ah (nt n')))
        clear m0 m1 m03 uK m04 uL akp akq aam iB hb3 hb4 Ju BM
        go_wp2
        go_roundw
        case rel=>
         refine⟨n',k+1,?_,by go_num,Hm4.out,EF.out,?_⟩
         . rw[<-BO.out,Nat.pow_succ,Nat.mul_comm (2^k) 2,<-Nat.mul_assoc,Nat.mul_comm n' 2]
         . exact(HBm.out.setCell zp _).setCell zp _
        case measure=>simp[intOf];omega
     . have aam:((C:Int)%2==0)=false:=by simp;omega
       have ZZ:n%2=1:=by omega
       have hfin:=aiK s n (e+k) ZZ;rw[NY.out n k BO.out,HM.out]at hfin;have ve:=ai hfin;have r0:wr.cell? ⟨w.heap.size+1,0,none⟩=some (ag false):=Hr.out.cell 0;have r1:wr.cell? ⟨w.heap.size+1,1,none⟩=some (.string ⟨#[]⟩):=Hr.out.cell 1;have r2:wr.cell? ⟨w.heap.size+1,2,none⟩=some (af 0):=Hr.out.cell 2;have aj:=Hr.out.free 0;have ak:=Hr.out.free 1;have aF:=Hr.out.free 2;clear hM hnl hc ZZ hfin hev;go_wp2;refine bodyPost_ret (v:=.agg #[ag s,ah (M++[c]),af (e+k)]) (by simp[results,Tryz.results71,go_sem,r0,r1,r2]) rfl ⟨?_,?_⟩
       . have h1:=ve.out;unfold canon at h1;simp only[Prod.mk.injEq]at h1;rw[<-h1.1,<-h1.2.1,<-h1.2.2]
       . exact(((fP.out.setCell zp _).setCell zp _).setCell zp _)
theorem Be (s:Bool)(l:List UInt8)(e:Int)(D:Dyadic)(hD:az (s,l,e)=D)(w:World)(hl:l.length<=1048576)(he: -1099511627776<=e/\e<=1099511627776):
 Calls Tryz.prog 71 #[.agg #[ag s,ah l],af e] w λr w'=>r=.returned (bL D)/\Bw w w':=by
 rcases Nat.eq_zero_or_pos (nv l)with h0|h0
 . have:D=0:=by rw[<-hD];exact Pg s l e (by unfold iv;rw[h0];split<;>rfl)
   rw[this];exact apJ s l e w hl h0
 . exact apI s l e D hD w hl he h0
def dv (x:Raw):Prop:=x.2.1.length<=16384/\ -16384<=x.2.2/\x.2.2<=16384
theorem dv.sm {x:Raw}(h:dv x):Sm 262144 (az x):=Sm.raw (B:=131072) (by have:=h.1;omega) (by have:=h.2.1;omega) (by have:=h.2.2;omega)
theorem Sm.aw1 {B:Nat}{d:Dyadic}(h:Sm B d)(hB:B<=16384):dv (canon d):=by obtain⟨h1,h2,h3⟩:=h.parts;exact⟨jS h1 zo,by show-16384<=dE d;omega,by show dE d<=16384;omega⟩
theorem dv.ok {x:Raw}(h:dv x):Ok x:=⟨by have:=h.1;omega,by have:=h.2.1;omega,by have:=h.2.2;omega⟩
theorem Bd (s:Bool)(l:List UInt8)(e:Int)(D:Dyadic)(hD:az (s,l,e)=D)(w:World)(hx:dv (s,l,e)):
 Calls Tryz.prog 90 #[.agg #[ag s,ah l,af e]] w λex w'=>ex=.returned (bL D)/\Bw w w':=by
 have h1:=λW=>Be s l e D hD W (by have:=hx.1;simp only at this;omega) (by have:=hx.2;simp only at this;omega);have H1:=ai h1;clear h1 hD hx;obtain⟨W,cg,Hb,Hx,Hr⟩:=iq w 39 [ag s,ah l,af e] 39 [ag false,.string ⟨#[]⟩,af 0];obtain⟨x0,x1,x2⟩:=Hx.out.c3;obtain⟨r0,aj,r1,ak,r2,aF⟩:=Hr.out.g3;go_enter Tryz.func90,Tryz.ntmps90;go_wp2_with fail;refine(H1.out _).mono ?_;rintro e w1 ⟨rfl,ae⟩;clear x0 x1 x2 r0 aj r1 ak r2 aF;obtain⟨Hx,x0,x1,x2⟩:=aQ Hx ae;obtain⟨Hr,r0,aj,r1,ak,r2,aF⟩:=aN Hr ae;replace Hb:=aB Hb ae;clear ae;go_wp2;clear x0 x1 x2 r0 aj r1 ak r2 aF;refine dW (bC w1 (w.heap.size+1) 0 [ag (au (dN D)),ah (nt (dN D).natAbs),af (dE D)]) bJ ?_;intro w9 hs;replace Hx:=kS Hx hs zo;replace Hr:=bP Hr hs;obtain⟨x0,x1,x2⟩:=Hx.out.c3;obtain⟨r0,aj,r1,ak,r2,aF⟩:=Hr.out.g3;replace Hb:=bS Hb hs ZS;clear hs;refine bodyPost_ret (v:=bL D) (by simp[results,Tryz.results90,go_sem,r0,r1,r2]) rfl ⟨rfl,Hb.out⟩
theorem ww (s:Bool)(l:List UInt8)(e:Int)(g:Int)(hg:bA (az (s,l,e))=g)(w:World)(hl:l.length<=68719476736):
 Calls Tryz.prog 19 #[.agg #[ag s,ah l,af e]] w λex w'=>ex=.returned (af g)/\Bw w w':=by
 have h1:=λW=>apY s l W hl;rw[show eQ (iv s l)=g by rw[<-hg];exact Td s l e]at h1;have H1:=ai h1;clear h1 hg hl;obtain⟨W,cg,Hb,Hx⟩:=fJ w 39 [ag s,ah l,af e];obtain⟨x0,x1,x2⟩:=Hx.out.c3;go_enter Tryz.func19,Tryz.ntmps19;go_wp2_with fail;refine(H1.out _).mono ?_;rintro e w1 ⟨rfl,ae⟩;clear x0 x1 x2;obtain⟨Hx,x0,x1,x2⟩:=aQ Hx ae;replace Hb:=aB Hb ae;clear ae;go_wp2;go_ret;exact⟨rfl,Hb.out⟩
theorem Mf (n:Nat)(D:Dyadic)(hD:Dyadic.ofIntWithPrec (n:Int) 0=D)(w:World)(hn:n<=1000000):
 Calls Tryz.prog 52 #[af (n:Int)] w λe w'=>e=.returned (bL D)/\Bw w w':=by
 have h1:=λW=>Du n W zo;have h2:=λW=>Be false (nt n) 0 D (by unfold az;simp only[mU];exact hD) W (Nat.le_trans (jr (k:=4) zo) zd) zo;clear hD;generalize nt n=m at*;obtain⟨H1,H2⟩:=aO h1 h2;clear h1 h2;obtain⟨W,cg,Hb,Hr⟩:=fJ w 39 [ag false,.string ⟨#[]⟩,af 0];obtain⟨r0,aj,r1,ak,r2,aF⟩:=Hr.out.g3;go_enter Tryz.func52,Tryz.ntmps52;go_wp2_with fail;refine(H1.out _).mono ?_;rintro e w1 ⟨rfl,ae⟩;clear r0 aj r1 ak r2 aF;obtain⟨Hr,r0,aj,r1,ak,r2,aF⟩:=aN Hr ae;replace Hb:=aB Hb ae;clear ae;go_wp2_with fail;refine(H2.out _).mono ?_;rintro e w2 ⟨rfl,ae⟩;clear r0 aj r1 ak r2 aF;obtain⟨Hr,r0,aj,r1,ak,r2,aF⟩:=aN Hr ae;replace Hb:=aB Hb ae;clear ae;go_wp2;clear r0 aj r1 ak r2 aF;refine dW (bC w2 (w.heap.size) 0 [ag (au (dN D)),ah (nt (dN D).natAbs),af (dE D)]) bJ ?_;intro w9 hs;replace Hr:=bP Hr hs;obtain⟨r0,aj,r1,ak,r2,aF⟩:=Hr.out.g3;replace Hb:=bS Hb hs ZS;clear hs;refine bodyPost_ret (v:=bL D) (by simp[results,Tryz.results52,go_sem,r0,r1,r2]) rfl ⟨rfl,Hb.out⟩
theorem SS (s:Bool)(l:List UInt8)(e:Int)(D:Dyadic)(hD: -az (s,l,e)=D)(w:World)(hx:dv (s,l,e)):
 Calls Tryz.prog 125 #[.agg #[ag s,ah l,af e]] w λex w'=>ex=.returned (bL D)/\Bw w w':=by
 obtain⟨Z,hZ⟩:=aG (-iv s l);have hl:(nt Z.natAbs).length<=16384:=by
  have:Z.natAbs=nv l:=by rw[<-hZ,Int.natAbs_neg,pk]
  rw[this];exact Nat.le_trans (jr (k:=l.length) (gL l)) hx.1
 have h1:=λW=>apM s l Z hZ W (by have:=hx.1;simp only at this;omega);have h2:=λW=>Be (au Z) (nt Z.natAbs) e D (by rw[vF,<-hZ,<-hD];unfold az;rw[Ii]) W zo (by have:=hx.2;simp only at this;omega);obtain⟨H1,H2⟩:=aO h1 h2;clear h1 h2 hD hZ hl hx;generalize au Z=t at*;generalize nt Z.natAbs=m at*;obtain⟨W,cg,Hb,Hx,Hr⟩:=iq w 39 [ag s,ah l,af e] 39 [ag false,.string ⟨#[]⟩,af 0];obtain⟨x0,x1,x2⟩:=Hx.out.c3;obtain⟨r0,aj,r1,ak,r2,aF⟩:=Hr.out.g3;go_enter Tryz.func125,Tryz.ntmps125;go_wp2_with fail;refine bR (λw'=>aC w' (w.heap.size) 0 (ag s)/\aC w' (w.heap.size) 1 (ah l)/\aC w' (w.heap.size) 2 (af e)) (λi=>Nat.blt i 6) [(0,true),(1,true),(3,true),(4,true),(2,false),(5,false),(6,false)] zk zk rfl zk zc ⟨x0,x1,x2⟩ ?_;iterate 4 (refine pT rfl rfl ?_ (by intro w' ⟨q0,q1,q2⟩;go_simp;try with_reducible rfl))
 refine aI rfl rfl (λK hK=>?_);go_simp;with_reducible refine(H1.out _).mono ?_
 rintro e w1 ⟨rfl,hq⟩;have ae:Bw W w1:=by first|exact hq|exact aW hq
 clear x0 x1 x2 r0 aj r1 ak r2 aF;obtain⟨Hx,x0,x1,x2⟩:=aQ Hx ae;obtain⟨Hr,r0,aj,r1,ak,r2,aF⟩:=aN Hr ae;replace Hb:=aB Hb ae;clear ae;refine hK _ _ (λ_=>⟨x0,x1,x2⟩) ?_;clear hK K
 refine aI rfl rfl (λK hK=>?_);go_simp;with_reducible refine(H2.out _).mono ?_
 rintro e w2 ⟨rfl,hq⟩;have ae:Bw w1 w2:=by first|exact hq|exact aW hq
 clear x0 x1 x2 r0 aj r1 ak r2 aF;obtain⟨Hx,x0,x1,x2⟩:=aQ Hx ae;obtain⟨Hr,r0,aj,r1,ak,r2,aF⟩:=aN Hr ae;replace Hb:=aB Hb ae;clear ae;refine hK _ _ (λ_=>⟨x0,x1,x2⟩) ?_;clear hK K
 refine aI rfl rfl (λK hK=>?_);go_simp;refine hK _ _ (λh=>absurd h zd) ?_;clear hK K
 clear x0 x1 x2 r0 aj r1 ak r2 aF;refine bV (bC w2 (w.heap.size+1) 0 [ag (au (dN D)),ah (nt (dN D).natAbs),af (dE D)]) bJ ?_;intro w9 hs;replace Hx:=kS Hx hs zo;replace Hr:=bP Hr hs;obtain⟨x0,x1,x2⟩:=Hx.out.c3;obtain⟨r0,aj,r1,ak,r2,aF⟩:=Hr.out.g3;replace Hb:=bS Hb hs ZS;clear hs;simp only[bi];go_wp2;exact bodyPost_ret (v:=bL D) (by simp[results,Tryz.results125,go_sem,r0,r1,r2]) rfl ⟨rfl,df⟩
theorem Bf (s:Bool)(l:List UInt8)(e:Int)(t:Bool)(m:List UInt8)(f:Int)(D:Dyadic)(hD:az (s,l,e) *az (t,m,f)=D)(w:World)(hx:dv (s,l,e))(hy:dv (t,m,f)):
 Calls Tryz.prog 51 #[.agg #[ag s,ah l,af e],.agg #[ag t,ah m,af f]] w λex w'=>ex=.returned (bL D)/\Bw w w':=by
 obtain⟨Z,hZ⟩:=aG (iv s l*iv t m);have hx1:l.length<=16384:=hx.1;have hy1:m.length<=16384:=hy.1;have hx2: -16384<=e/\e<=16384:=hx.2;have hy2: -16384<=f/\f<=16384:=hy.2;have hl:(nt Z.natAbs).length<=32768:=by
  have:Z.natAbs=nv l*nv m:=by rw[<-hZ,Int.natAbs_mul,pk,pk]
  rw[this];exact Nat.le_trans (abP l m) zo
 have h1:=λW=>ap4 s l t m Z hZ W zo zo;have h2:=λW=>Be (au Z) (nt Z.natAbs) (e+f) D (by rw[vF,<-hZ,<-hD];unfold az;rw[wj,show-(e+f)= -e+ -f by omega]) W zo zo;obtain⟨H1,H2⟩:=aO h1 h2;have hwr:IntKind.i64.wrap (e+f)=e+f:=by rw[IntKind.wrap_i64];omega
 clear h1 h2 hD hZ hl hx hy hx1 hy1;generalize au Z=v at*;generalize nt Z.natAbs=n at*;obtain⟨W,cg,Hb,Hx,Hy,Hr⟩:=qO w 39 [ag s,ah l,af e] 39 [ag t,ah m,af f] 39 [ag false,.string ⟨#[]⟩,af 0];obtain⟨x0,x1,x2⟩:=Hx.out.c3;obtain⟨y0,y1,y2⟩:=Hy.out.c3;obtain⟨r0,aj,r1,ak,r2,aF⟩:=Hr.out.g3;go_enter Tryz.func51,Tryz.ntmps51;go_wp2_with fail;refine bR (λw'=>aC w' (w.heap.size) 0 (ag s)/\aC w' (w.heap.size) 1 (ah l)/\aC w' (w.heap.size) 2 (af e)/\aC w' (w.heap.size+1) 0 (ag t)/\aC w' (w.heap.size+1) 1 (ah m)/\aC w' (w.heap.size+1) 2 (af f)) (λi=>Nat.blt i 11) [(0,true),(1,true),(2,true),(3,true),(5,true),(6,true),(7,true),(8,true),(9,true),(4,false),(10,false),(11,false)] zk zk rfl zk zc ⟨x0,x1,x2,y0,y1,y2⟩ ?_;iterate 9 (refine pT rfl rfl ?_ (by intro w' ⟨q0,q1,q2,q3,q4,q5⟩;go_simp;try with_reducible rfl))
 refine aI rfl rfl (λK hK=>?_);go_simp;with_reducible refine(H1.out _).mono ?_
 rintro e w1 ⟨rfl,hq⟩;have ae:Bw W w1:=by first|exact hq|exact aW hq
 clear x0 x1 x2 y0 y1 y2 r0 aj r1 ak r2 aF;obtain⟨Hx,x0,x1,x2⟩:=aQ Hx ae;obtain⟨Hy,y0,y1,y2⟩:=aQ Hy ae;obtain⟨Hr,r0,aj,r1,ak,r2,aF⟩:=aN Hr ae;replace Hb:=aB Hb ae;clear ae;refine hK _ _ (λ_=>⟨x0,x1,x2,y0,y1,y2⟩) ?_;clear hK K
 refine aI rfl rfl (λK hK=>?_);go_simp;with_reducible refine(H2.out _).mono ?_
 rintro e w2 ⟨rfl,hq⟩;have ae:Bw w1 w2:=by first|exact hq|exact aW hq
 clear x0 x1 x2 y0 y1 y2 r0 aj r1 ak r2 aF;obtain⟨Hx,x0,x1,x2⟩:=aQ Hx ae;obtain⟨Hy,y0,y1,y2⟩:=aQ Hy ae;obtain⟨Hr,r0,aj,r1,ak,r2,aF⟩:=aN Hr ae;replace Hb:=aB Hb ae;clear ae;refine hK _ _ (λ_=>⟨x0,x1,x2,y0,y1,y2⟩) ?_;clear hK K
 refine aI rfl rfl (λK hK=>?_);go_simp;refine hK _ _ (λh=>absurd h zd) ?_;clear hK K
 clear x0 x1 x2 y0 y1 y2 r0 aj r1 ak r2 aF;refine bV (bC w2 (w.heap.size+1+1) 0 [ag (au (dN D)),ah (nt (dN D).natAbs),af (dE D)]) bJ ?_;intro w9 hs;replace Hx:=kS Hx hs zo;replace Hy:=kS Hy hs zo;replace Hr:=bP Hr hs;obtain⟨x0,x1,x2⟩:=Hx.out.c3;obtain⟨y0,y1,y2⟩:=Hy.out.c3;obtain⟨r0,aj,r1,ak,r2,aF⟩:=Hr.out.g3;replace Hb:=bS Hb hs ZS;clear hs;simp only[bi];go_wp2;exact bodyPost_ret (v:=bL D) (by simp[results,Tryz.results51,go_sem,r0,r1,r2]) rfl ⟨rfl,df⟩
theorem abR (n:Nat):n<256^(nt n).length:=by have:=gL (nt n);rwa [jJ]at this
theorem ao6 (A C S:Dyadic)(hS:A+C=S)(p:Nat)(hp:dE A-dE C=(p:Int))(Z1 Z:Int)(h1:dN A*2^p=Z1)(h2:Z1+dN C=Z):az (au Z,nt Z.natAbs,dE C)=S:=by
 rw[vF,<-h2,<-h1,<-AP,<-hS];congr 1
 . have:=tO (dN A) p (-(dE A));rw[show-(dE C)= -(dE A)+(p:Int)by omega,this];exact(uQ A).symm
 . exact(uQ C).symm
theorem Iw (s:Bool)(l:List UInt8)(e:Int)(t:Bool)(m:List UInt8)(f:Int)(S:Dyadic)(hS:az (s,l,e)+az (t,m,f)=S)(w:World)(hx:dv (s,l,e))(hy:dv (t,m,f)):
 Calls Tryz.prog 49 #[.agg #[ag s,ah l,af e],.agg #[ag t,ah m,af f]] w λex w'=>ex=.returned (bL S)/\Bw w w':=by
 obtain⟨A,hA⟩:=aG (az (s,l,e));obtain⟨C,hC⟩:=aG (az (t,m,f));have kF:=hx.sm;have Cv:=hy.sm;rw[hA]at kF;rw[hC]at Cv;obtain⟨a1,a2,a3⟩:=kF.parts;obtain⟨c1,c2,c3⟩:=Cv.parts;have la:(nt (dN A).natAbs).length<=65536:=jS a1 zo;have lc:(nt (dN C).natAbs).length<=65536:=jS c1 zo;have eJ:=λW=>Bd s l e A hA W hx;have lv:=λW=>Bd t m f C hC W hy;rw[hA,hC]at hS;have xN:=λW=>ww (au (dN A)) (nt (dN A).natAbs) (dE A) (bA A) (by show bA (az (canon A))=_;rw[bD]) W zo;have Am:=λW=>ww (au (dN C)) (nt (dN C).natAbs) (dE C) (bA C) (by show bA (az (canon C))=_;rw[bD]) W zo;have CH:(bA A==0)=true↔A=0:=by rw[<-Bool.not_eq_false];rw[zH];simp
 have CI:(bA C==0)=true↔C=0:=by rw[<-Bool.not_eq_false];rw[zH];simp
 have hpl:=λ(A C:Dyadic) (hS:A+C=S) (hA1:(nt (dN A).natAbs).length<=65536) (Xz:(nt (dN C).natAbs).length<=65536) (p:Nat) (hp:dE A-dE C=(p:Int)) (Gz:p<=524288) (uv: -262144<=dE C/\dE C<=262144)=>(show ∃Z1 Z:Int,(∀W,Calls Tryz.prog 91 #[.agg #[ag (au (dN A)),ah (nt (dN A).natAbs)],af (p:Int)] W λe w'=>e=.returned (.agg #[ag (au Z1),ah (nt Z1.natAbs)])/\Bw W w')/\(∀W,Calls Tryz.prog 39 #[.agg #[ag (au Z1),ah (nt Z1.natAbs)],.agg #[ag (au (dN C)),ah (nt (dN C).natAbs)]] W λe w'=>e=.returned (.agg #[ag (au Z),ah (nt Z.natAbs)])/\Bw W w')/\(∀W,Calls Tryz.prog 71 #[.agg #[ag (au Z),ah (nt Z.natAbs)],af (dE C)] W λe w'=>e=.returned (bL S)/\Bw W w')from by
  obtain⟨Z1,h1⟩:=aG (dN A*2^p);obtain⟨Z,h2⟩:=aG (Z1+dN C);have l1:(nt Z1.natAbs).length<=589824:=by
   have e1:Z1.natAbs=nv (nt (dN A).natAbs) *2^p:=by rw[<-h1,Int.natAbs_mul,jJ];simp[Int.natAbs_pow]
   rw[e1];exact Nat.le_trans (abQ _ p) zo
  have l2:(nt Z.natAbs).length<=589825:=by
   obtain⟨K,hK⟩:=aG (589824);rw[hK]at l1;have lcK:(nt (dN C).natAbs).length<=K:=by omega
   have hle:(nt Z.natAbs).length<=K+1:=by
    refine jr ?_;have b1:Z1.natAbs<256^K:=Nat.lt_of_lt_of_le (abR _) (Nat.pow_le_pow_right zd l1);have b2:(dN C).natAbs<256^K:=Nat.lt_of_lt_of_le (abR _) (Nat.pow_le_pow_right zd lcK);have b3:Z.natAbs<=Z1.natAbs+(dN C).natAbs:=by rw[<-h2];exact Int.natAbs_add_le _ _
    rw[Nat.pow_succ];omega
   omega
  refine⟨Z1,Z,λW=>apW _ _ p Z1 (by rw[eX];exact h1) W zo zo,λW=>apQ _ _ _ _ Z (by rw[eX,eX];exact h2) W zo zo,λW=>Be _ _ (dE C) S (ao6 A C S hS p hp Z1 Z h1 h2) W zo zo⟩)
 have Al:=hpl;by_cases uu:A=0
 . have zA:=CH.2 uu;have PE:C=S:=by rw[<-hS,uu];grind
   subst PE;obtain⟨jW,nC,yZ⟩:=cL eJ lv xN;clear eJ lv xN Am hpl Al CH CI uu hA hC hS kF Cv a1 a2 a3 c1 c2 c3 la lc hx hy;obtain⟨W,cg,Hb,Hx,Hy,Hr⟩:=qO w 39 [ag s,ah l,af e] 39 [ag t,ah m,af f] 39 [ag false,.string ⟨#[]⟩,af 0];obtain⟨x0,aY,x1,aZ,x2,bj⟩:=Hx.out.g3;obtain⟨y0,aS,y1,aV,y2,bo⟩:=Hy.out.g3;obtain⟨r0,aj,r1,ak,r2,aF⟩:=Hr.out.g3;go_enter Tryz.func49,Tryz.ntmps49;go_wp2_with fail;refine bR (λw'=>aC w' (w.heap.size) 0 (ag s)/\aC w' (w.heap.size) 1 (ah l)/\aC w' (w.heap.size) 2 (af e)/\aC w' (w.heap.size+1) 0 (ag t)/\aC w' (w.heap.size+1) 1 (ah m)/\aC w' (w.heap.size+1) 2 (af f)) (λi=>Nat.blt i 4) [(0,true),(2,true),(1,false),(3,false),(4,false),(5,false)] zk zk rfl zk zc ⟨x0,x1,x2,y0,y1,y2⟩ ?_;iterate 2 (refine pT rfl rfl ?_ (by intro w' ⟨q0,q1,q2,q3,q4,q5⟩;go_simp;try with_reducible rfl))
   refine aI rfl rfl (λK hK=>?_);go_simp;with_reducible refine(jW.out _).mono ?_
   rintro e w1 ⟨rfl,hq⟩;have ae:Bw W w1:=by first|exact hq|exact aW hq
   clear x0 aY x1 aZ x2 bj y0 aS y1 aV y2 bo r0 aj r1 ak r2 aF;obtain⟨Hx,x0,aY,x1,aZ,x2,bj⟩:=aN Hx ae;obtain⟨Hy,y0,aS,y1,aV,y2,bo⟩:=aN Hy ae;obtain⟨Hr,r0,aj,r1,ak,r2,aF⟩:=aN Hr ae;replace Hb:=aB Hb ae;clear ae;refine hK _ _ (λ_=>⟨x0,x1,x2,y0,y1,y2⟩) ?_;clear hK K
   refine aI rfl rfl (λK hK=>?_);go_simp;with_reducible refine(nC.out _).mono ?_
   rintro e w2 ⟨rfl,hq⟩;have ae:Bw w1 w2:=by first|exact hq|exact aW hq
   clear x0 aY x1 aZ x2 bj y0 aS y1 aV y2 bo r0 aj r1 ak r2 aF;obtain⟨Hx,x0,aY,x1,aZ,x2,bj⟩:=aN Hx ae;obtain⟨Hy,y0,aS,y1,aV,y2,bo⟩:=aN Hy ae;obtain⟨Hr,r0,aj,r1,ak,r2,aF⟩:=aN Hr ae;replace Hb:=aB Hb ae;clear ae;refine hK _ _ (λ_=>⟨x0,x1,x2,y0,y1,y2⟩) ?_;clear hK K
   refine aI rfl rfl (λK hK=>?_);go_simp;refine hK _ _ (λh=>absurd h zd) ?_;clear hK K
   clear x0 aY x1 aZ x2 bj y0 aS y1 aV y2 bo r0 aj r1 ak r2 aF;refine bV (bC w2 (w.heap.size) 0 [ag (au (dN A)),ah (nt (dN A).natAbs),af (dE A)]) bJ ?_;intro w3 hs;replace Hx:=bP Hx hs;replace Hy:=kS Hy hs zo;replace Hr:=kS Hr hs zo;obtain⟨x0,aY,x1,aZ,x2,bj⟩:=Hx.out.g3;obtain⟨y0,aS,y1,aV,y2,bo⟩:=Hy.out.g3;obtain⟨r0,aj,r1,ak,r2,aF⟩:=Hr.out.g3;replace Hb:=bS Hb hs ZS;clear hs;refine aI rfl rfl (λK hK=>?_);go_simp;refine hK _ _ (λh=>absurd h zd) ?_;clear hK K
   clear x0 aY x1 aZ x2 bj y0 aS y1 aV y2 bo r0 aj r1 ak r2 aF;refine bV (bC w3 (w.heap.size+1) 0 [ag (au (dN C)),ah (nt (dN C).natAbs),af (dE C)]) bJ ?_;intro w4 hs;replace Hx:=kS Hx hs zo;replace Hy:=bP Hy hs;replace Hr:=kS Hr hs zo;obtain⟨x0,aY,x1,aZ,x2,bj⟩:=Hx.out.g3;obtain⟨y0,aS,y1,aV,y2,bo⟩:=Hy.out.g3;obtain⟨r0,aj,r1,ak,r2,aF⟩:=Hr.out.g3;replace Hb:=bS Hb hs ZS;clear hs;simp only[bi];go_wp2_with fail;refine(yZ.out _).mono ?_;rintro e w5 ⟨rfl,ae⟩;clear x0 aY x1 aZ x2 bj y0 aS y1 aV y2 bo r0 aj r1 ak r2 aF;obtain⟨Hx,x0,aY,x1,aZ,x2,bj⟩:=aN Hx ae;obtain⟨Hy,y0,aS,y1,aV,y2,bo⟩:=aN Hy ae;obtain⟨Hr,r0,aj,r1,ak,r2,aF⟩:=aN Hr ae;replace Hb:=aB Hb ae;clear ae;go_wp2;clear x0 aY x1 aZ x2 bj y0 aS y1 aV y2 bo r0 aj r1 ak r2 aF;refine dW (bC w5 (w.heap.size+1+1) 0 [ag (au (dN C)),ah (nt (dN C).natAbs),af (dE C)]) bJ ?_;intro w9 hs;replace Hx:=kS Hx hs zo;replace Hy:=kS Hy hs zo;replace Hr:=bP Hr hs;obtain⟨x0,aY,x1,aZ,x2,bj⟩:=Hx.out.g3;obtain⟨y0,aS,y1,aV,y2,bo⟩:=Hy.out.g3;obtain⟨r0,aj,r1,ak,r2,aF⟩:=Hr.out.g3;replace Hb:=bS Hb hs ZS;clear hs;refine bodyPost_ret (v:=bL C) (by simp[results,Tryz.results49,go_sem,r0,r1,r2]) rfl ⟨rfl,Hb.out⟩
 have zA:(bA A==0)=false:=by rw[<-Bool.not_eq_true];exact λh=>uu (CH.1 h)
 by_cases pR:C=0
 . have zC:=CI.2 pR;have PE:A=S:=by rw[<-hS,pR];grind
   subst PE;obtain⟨jW,nC,yZ,EH⟩:=dx eJ lv xN Am;clear eJ lv xN Am hpl Al CH CI uu pR hA hC hS kF Cv a1 a2 a3 c1 c2 c3 la lc hx hy;obtain⟨W,cg,Hb,Hx,Hy,Hr⟩:=qO w 39 [ag s,ah l,af e] 39 [ag t,ah m,af f] 39 [ag false,.string ⟨#[]⟩,af 0];obtain⟨x0,aY,x1,aZ,x2,bj⟩:=Hx.out.g3;obtain⟨y0,aS,y1,aV,y2,bo⟩:=Hy.out.g3;obtain⟨r0,aj,r1,ak,r2,aF⟩:=Hr.out.g3;go_enter Tryz.func49,Tryz.ntmps49;go_wp2_with fail;refine bR (λw'=>aC w' (w.heap.size) 0 (ag s)/\aC w' (w.heap.size) 1 (ah l)/\aC w' (w.heap.size) 2 (af e)/\aC w' (w.heap.size+1) 0 (ag t)/\aC w' (w.heap.size+1) 1 (ah m)/\aC w' (w.heap.size+1) 2 (af f)) (λi=>Nat.blt i 4) [(0,true),(2,true),(1,false),(3,false),(4,false),(5,false)] zk zk rfl zk zc ⟨x0,x1,x2,y0,y1,y2⟩ ?_;iterate 2 (refine pT rfl rfl ?_ (by intro w' ⟨q0,q1,q2,q3,q4,q5⟩;go_simp;try with_reducible rfl))
   refine aI rfl rfl (λK hK=>?_);go_simp;with_reducible refine(jW.out _).mono ?_
   rintro e w1 ⟨rfl,hq⟩;have ae:Bw W w1:=by first|exact hq|exact aW hq
   clear x0 aY x1 aZ x2 bj y0 aS y1 aV y2 bo r0 aj r1 ak r2 aF;obtain⟨Hx,x0,aY,x1,aZ,x2,bj⟩:=aN Hx ae;obtain⟨Hy,y0,aS,y1,aV,y2,bo⟩:=aN Hy ae;obtain⟨Hr,r0,aj,r1,ak,r2,aF⟩:=aN Hr ae;replace Hb:=aB Hb ae;clear ae;refine hK _ _ (λ_=>⟨x0,x1,x2,y0,y1,y2⟩) ?_;clear hK K
   refine aI rfl rfl (λK hK=>?_);go_simp;with_reducible refine(nC.out _).mono ?_
   rintro e w2 ⟨rfl,hq⟩;have ae:Bw w1 w2:=by first|exact hq|exact aW hq
   clear x0 aY x1 aZ x2 bj y0 aS y1 aV y2 bo r0 aj r1 ak r2 aF;obtain⟨Hx,x0,aY,x1,aZ,x2,bj⟩:=aN Hx ae;obtain⟨Hy,y0,aS,y1,aV,y2,bo⟩:=aN Hy ae;obtain⟨Hr,r0,aj,r1,ak,r2,aF⟩:=aN Hr ae;replace Hb:=aB Hb ae;clear ae;refine hK _ _ (λ_=>⟨x0,x1,x2,y0,y1,y2⟩) ?_;clear hK K
   refine aI rfl rfl (λK hK=>?_);go_simp;refine hK _ _ (λh=>absurd h zd) ?_;clear hK K
   clear x0 aY x1 aZ x2 bj y0 aS y1 aV y2 bo r0 aj r1 ak r2 aF;refine bV (bC w2 (w.heap.size) 0 [ag (au (dN A)),ah (nt (dN A).natAbs),af (dE A)]) bJ ?_;intro w3 hs;replace Hx:=bP Hx hs;replace Hy:=kS Hy hs zo;replace Hr:=kS Hr hs zo;obtain⟨x0,aY,x1,aZ,x2,bj⟩:=Hx.out.g3;obtain⟨y0,aS,y1,aV,y2,bo⟩:=Hy.out.g3;obtain⟨r0,aj,r1,ak,r2,aF⟩:=Hr.out.g3;replace Hb:=bS Hb hs ZS;clear hs;refine aI rfl rfl (λK hK=>?_);go_simp;refine hK _ _ (λh=>absurd h zd) ?_;clear hK K
   clear x0 aY x1 aZ x2 bj y0 aS y1 aV y2 bo r0 aj r1 ak r2 aF;refine bV (bC w3 (w.heap.size+1) 0 [ag (au (dN C)),ah (nt (dN C).natAbs),af (dE C)]) bJ ?_;intro w4 hs;replace Hx:=kS Hx hs zo;replace Hy:=bP Hy hs;replace Hr:=kS Hr hs zo;obtain⟨x0,aY,x1,aZ,x2,bj⟩:=Hx.out.g3;obtain⟨y0,aS,y1,aV,y2,bo⟩:=Hy.out.g3;obtain⟨r0,aj,r1,ak,r2,aF⟩:=Hr.out.g3;replace Hb:=bS Hb hs ZS;clear hs;simp only[bi];go_wp2_with fail;refine(yZ.out _).mono ?_;rintro e w5 ⟨rfl,ae⟩;clear x0 aY x1 aZ x2 bj y0 aS y1 aV y2 bo r0 aj r1 ak r2 aF;obtain⟨Hx,x0,aY,x1,aZ,x2,bj⟩:=aN Hx ae;obtain⟨Hy,y0,aS,y1,aV,y2,bo⟩:=aN Hy ae;obtain⟨Hr,r0,aj,r1,ak,r2,aF⟩:=aN Hr ae;replace Hb:=aB Hb ae;clear ae;go_wp2_with fail;refine(EH.out _).mono ?_;rintro e w6 ⟨rfl,ae⟩;clear x0 aY x1 aZ x2 bj y0 aS y1 aV y2 bo r0 aj r1 ak r2 aF;obtain⟨Hx,x0,aY,x1,aZ,x2,bj⟩:=aN Hx ae;obtain⟨Hy,y0,aS,y1,aV,y2,bo⟩:=aN Hy ae;obtain⟨Hr,r0,aj,r1,ak,r2,aF⟩:=aN Hr ae;replace Hb:=aB Hb ae;clear ae;go_wp2;clear x0 aY x1 aZ x2 bj y0 aS y1 aV y2 bo r0 aj r1 ak r2 aF;refine dW (bC w6 (w.heap.size+1+1) 0 [ag (au (dN A)),ah (nt (dN A).natAbs),af (dE A)]) bJ ?_;intro w9 hs;replace Hx:=kS Hx hs zo;replace Hy:=kS Hy hs zo;replace Hr:=bP Hr hs;obtain⟨x0,aY,x1,aZ,x2,bj⟩:=Hx.out.g3;obtain⟨y0,aS,y1,aV,y2,bo⟩:=Hy.out.g3;obtain⟨r0,aj,r1,ak,r2,aF⟩:=Hr.out.g3;replace Hb:=bS Hb hs ZS;clear hs;refine bodyPost_ret (v:=bL A) (by simp[results,Tryz.results49,go_sem,r0,r1,r2]) rfl ⟨rfl,Hb.out⟩
 have zC:(bA C==0)=false:=by rw[<-Bool.not_eq_true];exact λh=>pR (CI.1 h)
 by_cases hEE:dE A<dE C
 . obtain⟨p,hp⟩:∃p:Nat,dE C-dE A=(p:Int):=⟨(dE C-dE A).toNat,by omega⟩;obtain⟨Z1,Z,g1,g2,g3⟩:=hpl C A (by rw[<-hS];grind) lc la p hp zo zo;have hwr:IntKind.i64.wrap (dE C-dE A)=(p:Int):=by rw[IntKind.wrap_i64];omega
   obtain⟨jW,nC,yZ,EH,G1,G2,G3⟩:=jT eJ lv xN Am g1 g2 g3;clear eJ lv xN Am hpl Al CH CI uu pR hA hC hS kF Cv a1 a2 a3 c1 c2 c3 la lc hx hy g1 g2 g3 hp;obtain⟨W,cg,Hb,Hx,Hy,Hr⟩:=qO w 39 [ag s,ah l,af e] 39 [ag t,ah m,af f] 39 [ag false,.string ⟨#[]⟩,af 0];obtain⟨x0,aY,x1,aZ,x2,bj⟩:=Hx.out.g3;obtain⟨y0,aS,y1,aV,y2,bo⟩:=Hy.out.g3;obtain⟨r0,aj,r1,ak,r2,aF⟩:=Hr.out.g3;go_enter Tryz.func49,Tryz.ntmps49;go_wp2_with fail;refine bR (λw'=>aC w' (w.heap.size) 0 (ag s)/\aC w' (w.heap.size) 1 (ah l)/\aC w' (w.heap.size) 2 (af e)/\aC w' (w.heap.size+1) 0 (ag t)/\aC w' (w.heap.size+1) 1 (ah m)/\aC w' (w.heap.size+1) 2 (af f)) (λi=>Nat.blt i 4) [(0,true),(2,true),(1,false),(3,false),(4,false),(5,false)] zk zk rfl zk zc ⟨x0,x1,x2,y0,y1,y2⟩ ?_;iterate 2 (refine pT rfl rfl ?_ (by intro w' ⟨q0,q1,q2,q3,q4,q5⟩;go_simp;try with_reducible rfl))
   refine aI rfl rfl (λK hK=>?_);go_simp;with_reducible refine(jW.out _).mono ?_
   rintro e w1 ⟨rfl,hq⟩;have ae:Bw W w1:=by first|exact hq|exact aW hq
   clear x0 aY x1 aZ x2 bj y0 aS y1 aV y2 bo r0 aj r1 ak r2 aF;obtain⟨Hx,x0,aY,x1,aZ,x2,bj⟩:=aN Hx ae;obtain⟨Hy,y0,aS,y1,aV,y2,bo⟩:=aN Hy ae;obtain⟨Hr,r0,aj,r1,ak,r2,aF⟩:=aN Hr ae;replace Hb:=aB Hb ae;clear ae;refine hK _ _ (λ_=>⟨x0,x1,x2,y0,y1,y2⟩) ?_;clear hK K
   refine aI rfl rfl (λK hK=>?_);go_simp;with_reducible refine(nC.out _).mono ?_
   rintro e w2 ⟨rfl,hq⟩;have ae:Bw w1 w2:=by first|exact hq|exact aW hq
   clear x0 aY x1 aZ x2 bj y0 aS y1 aV y2 bo r0 aj r1 ak r2 aF;obtain⟨Hx,x0,aY,x1,aZ,x2,bj⟩:=aN Hx ae;obtain⟨Hy,y0,aS,y1,aV,y2,bo⟩:=aN Hy ae;obtain⟨Hr,r0,aj,r1,ak,r2,aF⟩:=aN Hr ae;replace Hb:=aB Hb ae;clear ae;refine hK _ _ (λ_=>⟨x0,x1,x2,y0,y1,y2⟩) ?_;clear hK K
   refine aI rfl rfl (λK hK=>?_);go_simp;refine hK _ _ (λh=>absurd h zd) ?_;clear hK K
   clear x0 aY x1 aZ x2 bj y0 aS y1 aV y2 bo r0 aj r1 ak r2 aF;refine bV (bC w2 (w.heap.size) 0 [ag (au (dN A)),ah (nt (dN A).natAbs),af (dE A)]) bJ ?_;intro w3 hs;replace Hx:=bP Hx hs;replace Hy:=kS Hy hs zo;replace Hr:=kS Hr hs zo;obtain⟨x0,aY,x1,aZ,x2,bj⟩:=Hx.out.g3;obtain⟨y0,aS,y1,aV,y2,bo⟩:=Hy.out.g3;obtain⟨r0,aj,r1,ak,r2,aF⟩:=Hr.out.g3;replace Hb:=bS Hb hs ZS;clear hs;refine aI rfl rfl (λK hK=>?_);go_simp;refine hK _ _ (λh=>absurd h zd) ?_;clear hK K
   clear x0 aY x1 aZ x2 bj y0 aS y1 aV y2 bo r0 aj r1 ak r2 aF;refine bV (bC w3 (w.heap.size+1) 0 [ag (au (dN C)),ah (nt (dN C).natAbs),af (dE C)]) bJ ?_;intro w4 hs;replace Hx:=kS Hx hs zo;replace Hy:=bP Hy hs;replace Hr:=kS Hr hs zo;obtain⟨x0,aY,x1,aZ,x2,bj⟩:=Hx.out.g3;obtain⟨y0,aS,y1,aV,y2,bo⟩:=Hy.out.g3;obtain⟨r0,aj,r1,ak,r2,aF⟩:=Hr.out.g3;replace Hb:=bS Hb hs ZS;clear hs;simp only[bi];go_wp2_with fail;refine(yZ.out _).mono ?_;rintro e w5 ⟨rfl,ae⟩;clear x0 aY x1 aZ x2 bj y0 aS y1 aV y2 bo r0 aj r1 ak r2 aF;obtain⟨Hx,x0,aY,x1,aZ,x2,bj⟩:=aN Hx ae;obtain⟨Hy,y0,aS,y1,aV,y2,bo⟩:=aN Hy ae;obtain⟨Hr,r0,aj,r1,ak,r2,aF⟩:=aN Hr ae;replace Hb:=aB Hb ae;clear ae;go_wp2_with fail;refine(EH.out _).mono ?_;rintro e w6 ⟨rfl,ae⟩;clear x0 aY x1 aZ x2 bj y0 aS y1 aV y2 bo r0 aj r1 ak r2 aF;obtain⟨Hx,x0,aY,x1,aZ,x2,bj⟩:=aN Hx ae;obtain⟨Hy,y0,aS,y1,aV,y2,bo⟩:=aN Hy ae;obtain⟨Hr,r0,aj,r1,ak,r2,aF⟩:=aN Hr ae;replace Hb:=aB Hb ae;clear ae;go_wp2_with fail;clear x0 aY x1 aZ x2 bj y0 aS y1 aV y2 bo r0 aj r1 ak r2 aF;obtain⟨R,hR⟩:∃R:World->Prop,(λw7=>ar w7 (w.heap.size) 39 [ag (au (dN C)),ah (nt (dN C).natAbs),af (dE C)]/\ar w7 (w.heap.size+1) 39 [ag (au (dN A)),ah (nt (dN A).natAbs),af (dE A)]/\ar w7 (w.heap.size+1+1) 39 [ag false,.string ⟨#[]⟩,af 0]/\Bw w w7)=R:=⟨_,rfl⟩;first|refine cf R ?hR ?_|refine bZ R ?hR ?_
   case hR=>subst hR;exact⟨((((((Hx.out.set 0 _).set 1 _).set 2 _).so (w.heap.size+1) 0 zo _).so (w.heap.size+1) 1 zo _).so (w.heap.size+1) 2 zo _),((((((Hy.out.so (w.heap.size) 0 zo _).so (w.heap.size) 1 zo _).so (w.heap.size) 2 zo _).set 0 _).set 1 _).set 2 _),((((((Hr.out.so (w.heap.size) 0 zo _).so (w.heap.size) 1 zo _).so (w.heap.size) 2 zo _).so (w.heap.size+1) 0 zo _).so (w.heap.size+1) 1 zo _).so (w.heap.size+1) 2 zo _),((((((Hb.out.sc (w.heap.size) 0 ZS _).sc (w.heap.size) 1 ZS _).sc (w.heap.size) 2 ZS _).sc (w.heap.size+1) 0 ZS _).sc (w.heap.size+1) 1 ZS _).sc (w.heap.size+1) 2 ZS _)⟩
   subst hR;rintro w7 ⟨qx,qy,qr,ae⟩;replace Hx:=ai qx;clear qx;replace Hy:=ai qy;clear qy;replace Hr:=ai qr;clear qr;obtain⟨x0,aY,x1,aZ,x2,bj⟩:=Hx.out.g3;obtain⟨y0,aS,y1,aV,y2,bo⟩:=Hy.out.g3;obtain⟨r0,aj,r1,ak,r2,aF⟩:=Hr.out.g3;replace Hb:=ai ae;clear ae;refine bR (λw'=>aC w' (w.heap.size) 0 (ag (au (dN C)))/\aC w' (w.heap.size) 1 (ah (nt (dN C).natAbs))/\aC w' (w.heap.size) 2 (af (dE C))/\aC w' (w.heap.size+1) 0 (ag (au (dN A)))/\aC w' (w.heap.size+1) 1 (ah (nt (dN A).natAbs))/\aC w' (w.heap.size+1) 2 (af (dE A))) (λi=>Nat.blt i 14) [(0,true),(1,true),(2,true),(3,true),(4,true),(5,true),(6,true),(8,true),(9,true),(11,true),(12,true),(7,false),(10,false),(13,false),(14,false)] zk zk rfl zk zc ⟨x0,x1,x2,y0,y1,y2⟩ ?_;iterate 11 (refine pT rfl rfl ?_ (by intro w' ⟨q0,q1,q2,q3,q4,q5⟩;go_simp;try with_reducible rfl))
   refine aI rfl rfl (λK hK=>?_);go_simp;with_reducible refine(G1.out _).mono ?_
   rintro e dX ⟨rfl,hq⟩;have ae:Bw w7 dX:=by first|exact hq|exact aW hq
   clear x0 aY x1 aZ x2 bj y0 aS y1 aV y2 bo r0 aj r1 ak r2 aF;obtain⟨Hx,x0,aY,x1,aZ,x2,bj⟩:=aN Hx ae;obtain⟨Hy,y0,aS,y1,aV,y2,bo⟩:=aN Hy ae;obtain⟨Hr,r0,aj,r1,ak,r2,aF⟩:=aN Hr ae;replace Hb:=aB Hb ae;clear ae;refine hK _ _ (λ_=>⟨x0,x1,x2,y0,y1,y2⟩) ?_;clear hK K
   refine aI rfl rfl (λK hK=>?_);go_simp;with_reducible refine(G2.out _).mono ?_
   rintro e gP ⟨rfl,hq⟩;have ae:Bw dX gP:=by first|exact hq|exact aW hq
   clear x0 aY x1 aZ x2 bj y0 aS y1 aV y2 bo r0 aj r1 ak r2 aF;obtain⟨Hx,x0,aY,x1,aZ,x2,bj⟩:=aN Hx ae;obtain⟨Hy,y0,aS,y1,aV,y2,bo⟩:=aN Hy ae;obtain⟨Hr,r0,aj,r1,ak,r2,aF⟩:=aN Hr ae;replace Hb:=aB Hb ae;clear ae;refine hK _ _ (λ_=>⟨x0,x1,x2,y0,y1,y2⟩) ?_;clear hK K
   refine aI rfl rfl (λK hK=>?_);go_simp;with_reducible refine(G3.out _).mono ?_
   rintro e jU ⟨rfl,hq⟩;have ae:Bw gP jU:=by first|exact hq|exact aW hq
   clear x0 aY x1 aZ x2 bj y0 aS y1 aV y2 bo r0 aj r1 ak r2 aF;obtain⟨Hx,x0,aY,x1,aZ,x2,bj⟩:=aN Hx ae;obtain⟨Hy,y0,aS,y1,aV,y2,bo⟩:=aN Hy ae;obtain⟨Hr,r0,aj,r1,ak,r2,aF⟩:=aN Hr ae;replace Hb:=aB Hb ae;clear ae;refine hK _ _ (λ_=>⟨x0,x1,x2,y0,y1,y2⟩) ?_;clear hK K
   refine aI rfl rfl (λK hK=>?_);go_simp;refine hK _ _ (λh=>absurd h zd) ?_;clear hK K
   clear x0 aY x1 aZ x2 bj y0 aS y1 aV y2 bo r0 aj r1 ak r2 aF;refine bV (bC jU (w.heap.size+1+1) 0 [ag (au (dN S)),ah (nt (dN S).natAbs),af (dE S)]) bJ ?_;intro w19 hs;replace Hx:=kS Hx hs zo;replace Hy:=kS Hy hs zo;replace Hr:=bP Hr hs;obtain⟨x0,aY,x1,aZ,x2,bj⟩:=Hx.out.g3;obtain⟨y0,aS,y1,aV,y2,bo⟩:=Hy.out.g3;obtain⟨r0,aj,r1,ak,r2,aF⟩:=Hr.out.g3;replace Hb:=bS Hb hs ZS;clear hs;simp only[bi];go_wp2;exact bodyPost_ret (v:=bL S) (by simp[results,Tryz.results49,go_sem,r0,r1,r2]) rfl ⟨rfl,df⟩
 . obtain⟨p,hp⟩:∃p:Nat,dE A-dE C=(p:Int):=⟨(dE A-dE C).toNat,by omega⟩;obtain⟨Z1,Z,g1,g2,g3⟩:=hpl A C hS la lc p hp zo zo;have hwr:IntKind.i64.wrap (dE A-dE C)=(p:Int):=by rw[IntKind.wrap_i64];omega
   obtain⟨jW,nC,yZ,EH,G1,G2,G3⟩:=jT eJ lv xN Am g1 g2 g3;clear eJ lv xN Am hpl Al CH CI uu pR hA hC hS kF Cv a1 a2 a3 c1 c2 c3 la lc hx hy g1 g2 g3 hp;obtain⟨W,cg,Hb,Hx,Hy,Hr⟩:=qO w 39 [ag s,ah l,af e] 39 [ag t,ah m,af f] 39 [ag false,.string ⟨#[]⟩,af 0];obtain⟨x0,aY,x1,aZ,x2,bj⟩:=Hx.out.g3;obtain⟨y0,aS,y1,aV,y2,bo⟩:=Hy.out.g3;obtain⟨r0,aj,r1,ak,r2,aF⟩:=Hr.out.g3;go_enter Tryz.func49,Tryz.ntmps49;go_wp2_with fail;refine bR (λw'=>aC w' (w.heap.size) 0 (ag s)/\aC w' (w.heap.size) 1 (ah l)/\aC w' (w.heap.size) 2 (af e)/\aC w' (w.heap.size+1) 0 (ag t)/\aC w' (w.heap.size+1) 1 (ah m)/\aC w' (w.heap.size+1) 2 (af f)) (λi=>Nat.blt i 4) [(0,true),(2,true),(1,false),(3,false),(4,false),(5,false)] zk zk rfl zk zc ⟨x0,x1,x2,y0,y1,y2⟩ ?_;iterate 2 (refine pT rfl rfl ?_ (by intro w' ⟨q0,q1,q2,q3,q4,q5⟩;go_simp;try with_reducible rfl))
   refine aI rfl rfl (λK hK=>?_);go_simp;with_reducible refine(jW.out _).mono ?_
   rintro e w1 ⟨rfl,hq⟩;have ae:Bw W w1:=by first|exact hq|exact aW hq
   clear x0 aY x1 aZ x2 bj y0 aS y1 aV y2 bo r0 aj r1 ak r2 aF;obtain⟨Hx,x0,aY,x1,aZ,x2,bj⟩:=aN Hx ae;obtain⟨Hy,y0,aS,y1,aV,y2,bo⟩:=aN Hy ae;obtain⟨Hr,r0,aj,r1,ak,r2,aF⟩:=aN Hr ae;replace Hb:=aB Hb ae;clear ae;refine hK _ _ (λ_=>⟨x0,x1,x2,y0,y1,y2⟩) ?_;clear hK K
   refine aI rfl rfl (λK hK=>?_);go_simp;with_reducible refine(nC.out _).mono ?_
   rintro e w2 ⟨rfl,hq⟩;have ae:Bw w1 w2:=by first|exact hq|exact aW hq
   clear x0 aY x1 aZ x2 bj y0 aS y1 aV y2 bo r0 aj r1 ak r2 aF;obtain⟨Hx,x0,aY,x1,aZ,x2,bj⟩:=aN Hx ae;obtain⟨Hy,y0,aS,y1,aV,y2,bo⟩:=aN Hy ae;obtain⟨Hr,r0,aj,r1,ak,r2,aF⟩:=aN Hr ae;replace Hb:=aB Hb ae;clear ae;refine hK _ _ (λ_=>⟨x0,x1,x2,y0,y1,y2⟩) ?_;clear hK K
   refine aI rfl rfl (λK hK=>?_);go_simp;refine hK _ _ (λh=>absurd h zd) ?_;clear hK K
   clear x0 aY x1 aZ x2 bj y0 aS y1 aV y2 bo r0 aj r1 ak r2 aF;refine bV (bC w2 (w.heap.size) 0 [ag (au (dN A)),ah (nt (dN A).natAbs),af (dE A)]) bJ ?_;intro w3 hs;replace Hx:=bP Hx hs;replace Hy:=kS Hy hs zo;replace Hr:=kS Hr hs zo;obtain⟨x0,aY,x1,aZ,x2,bj⟩:=Hx.out.g3;obtain⟨y0,aS,y1,aV,y2,bo⟩:=Hy.out.g3;obtain⟨r0,aj,r1,ak,r2,aF⟩:=Hr.out.g3;replace Hb:=bS Hb hs ZS;clear hs;refine aI rfl rfl (λK hK=>?_);go_simp;refine hK _ _ (λh=>absurd h zd) ?_;clear hK K
   clear x0 aY x1 aZ x2 bj y0 aS y1 aV y2 bo r0 aj r1 ak r2 aF;refine bV (bC w3 (w.heap.size+1) 0 [ag (au (dN C)),ah (nt (dN C).natAbs),af (dE C)]) bJ ?_;intro w4 hs;replace Hx:=kS Hx hs zo;replace Hy:=bP Hy hs;replace Hr:=kS Hr hs zo;obtain⟨x0,aY,x1,aZ,x2,bj⟩:=Hx.out.g3;obtain⟨y0,aS,y1,aV,y2,bo⟩:=Hy.out.g3;obtain⟨r0,aj,r1,ak,r2,aF⟩:=Hr.out.g3;replace Hb:=bS Hb hs ZS;clear hs;simp only[bi];go_wp2_with fail;refine(yZ.out _).mono ?_;rintro e w5 ⟨rfl,ae⟩;clear x0 aY x1 aZ x2 bj y0 aS y1 aV y2 bo r0 aj r1 ak r2 aF;obtain⟨Hx,x0,aY,x1,aZ,x2,bj⟩:=aN Hx ae;obtain⟨Hy,y0,aS,y1,aV,y2,bo⟩:=aN Hy ae;obtain⟨Hr,r0,aj,r1,ak,r2,aF⟩:=aN Hr ae;replace Hb:=aB Hb ae;clear ae;go_wp2_with fail;refine(EH.out _).mono ?_;rintro e w6 ⟨rfl,ae⟩;clear x0 aY x1 aZ x2 bj y0 aS y1 aV y2 bo r0 aj r1 ak r2 aF;obtain⟨Hx,x0,aY,x1,aZ,x2,bj⟩:=aN Hx ae;obtain⟨Hy,y0,aS,y1,aV,y2,bo⟩:=aN Hy ae;obtain⟨Hr,r0,aj,r1,ak,r2,aF⟩:=aN Hr ae;replace Hb:=aB Hb ae;clear ae;go_wp2_with fail;refine bR (λw'=>aC w' (w.heap.size) 0 (ag (au (dN A)))/\aC w' (w.heap.size) 1 (ah (nt (dN A).natAbs))/\aC w' (w.heap.size) 2 (af (dE A))/\aC w' (w.heap.size+1) 0 (ag (au (dN C)))/\aC w' (w.heap.size+1) 1 (ah (nt (dN C).natAbs))/\aC w' (w.heap.size+1) 2 (af (dE C))) (λi=>Nat.blt i 14) [(0,true),(1,true),(2,true),(3,true),(4,true),(5,true),(6,true),(8,true),(9,true),(11,true),(12,true),(7,false),(10,false),(13,false),(14,false)] zk zk rfl zk zc ⟨x0,x1,x2,y0,y1,y2⟩ ?_;iterate 11 (refine pT rfl rfl ?_ (by intro w' ⟨q0,q1,q2,q3,q4,q5⟩;go_simp;try with_reducible rfl))
   refine aI rfl rfl (λK hK=>?_);go_simp;with_reducible refine(G1.out _).mono ?_
   rintro e dX ⟨rfl,hq⟩;have ae:Bw w6 dX:=by first|exact hq|exact aW hq
   clear x0 aY x1 aZ x2 bj y0 aS y1 aV y2 bo r0 aj r1 ak r2 aF;obtain⟨Hx,x0,aY,x1,aZ,x2,bj⟩:=aN Hx ae;obtain⟨Hy,y0,aS,y1,aV,y2,bo⟩:=aN Hy ae;obtain⟨Hr,r0,aj,r1,ak,r2,aF⟩:=aN Hr ae;replace Hb:=aB Hb ae;clear ae;refine hK _ _ (λ_=>⟨x0,x1,x2,y0,y1,y2⟩) ?_;clear hK K
   refine aI rfl rfl (λK hK=>?_);go_simp;with_reducible refine(G2.out _).mono ?_
   rintro e gP ⟨rfl,hq⟩;have ae:Bw dX gP:=by first|exact hq|exact aW hq
   clear x0 aY x1 aZ x2 bj y0 aS y1 aV y2 bo r0 aj r1 ak r2 aF;obtain⟨Hx,x0,aY,x1,aZ,x2,bj⟩:=aN Hx ae;obtain⟨Hy,y0,aS,y1,aV,y2,bo⟩:=aN Hy ae;obtain⟨Hr,r0,aj,r1,ak,r2,aF⟩:=aN Hr ae;replace Hb:=aB Hb ae;clear ae;refine hK _ _ (λ_=>⟨x0,x1,x2,y0,y1,y2⟩) ?_;clear hK K
   refine aI rfl rfl (λK hK=>?_);go_simp;with_reducible refine(G3.out _).mono ?_
   rintro e jU ⟨rfl,hq⟩;have ae:Bw gP jU:=by first|exact hq|exact aW hq
   clear x0 aY x1 aZ x2 bj y0 aS y1 aV y2 bo r0 aj r1 ak r2 aF;obtain⟨Hx,x0,aY,x1,aZ,x2,bj⟩:=aN Hx ae;obtain⟨Hy,y0,aS,y1,aV,y2,bo⟩:=aN Hy ae;obtain⟨Hr,r0,aj,r1,ak,r2,aF⟩:=aN Hr ae;replace Hb:=aB Hb ae;clear ae;refine hK _ _ (λ_=>⟨x0,x1,x2,y0,y1,y2⟩) ?_;clear hK K
   refine aI rfl rfl (λK hK=>?_);go_simp;refine hK _ _ (λh=>absurd h zd) ?_;clear hK K
   clear x0 aY x1 aZ x2 bj y0 aS y1 aV y2 bo r0 aj r1 ak r2 aF;refine bV (bC jU (w.heap.size+1+1) 0 [ag (au (dN S)),ah (nt (dN S).natAbs),af (dE S)]) bJ ?_;intro w19 hs;replace Hx:=kS Hx hs zo;replace Hy:=kS Hy hs zo;replace Hr:=bP Hr hs;obtain⟨x0,aY,x1,aZ,x2,bj⟩:=Hx.out.g3;obtain⟨y0,aS,y1,aV,y2,bo⟩:=Hy.out.g3;obtain⟨r0,aj,r1,ak,r2,aF⟩:=Hr.out.g3;replace Hb:=bS Hb hs ZS;clear hs;simp only[bi];go_wp2;exact bodyPost_ret (v:=bL S) (by simp[results,Tryz.results49,go_sem,r0,r1,r2]) rfl ⟨rfl,df⟩
theorem Ix (s:Bool)(l:List UInt8)(e:Int)(t:Bool)(m:List UInt8)(f:Int)(S:Dyadic)(hS:az (s,l,e)-az (t,m,f)=S)(w:World)(hx:dv (s,l,e))(hy:dv (t,m,f))(rW:dv (canon (-az (t,m,f)))):
 Calls Tryz.prog 75 #[.agg #[ag s,ah l,af e],.agg #[ag t,ah m,af f]] w λex w'=>ex=.returned (bL S)/\Bw w w':=by
 obtain⟨N,hN⟩:=aG (-az (t,m,f));rw[hN]at rW;have h1:=λW=>SS t m f N hN W hy;have h2:=λW=>Iw s l e (au (dN N)) (nt (dN N).natAbs) (dE N) S (by show _+az (canon N)=_;rw[bD,<-hN,<-hS];grind) W hx rW;obtain⟨H1,H2⟩:=aO h1 h2;clear h1 h2 hN rW hS hx hy;obtain⟨W,cg,Hb,Hx,Hy,Hr⟩:=qO w 39 [ag s,ah l,af e] 39 [ag t,ah m,af f] 39 [ag false,.string ⟨#[]⟩,af 0];obtain⟨x0,x1,x2⟩:=Hx.out.c3;obtain⟨y0,y1,y2⟩:=Hy.out.c3;obtain⟨r0,aj,r1,ak,r2,aF⟩:=Hr.out.g3;go_enter Tryz.func75,Tryz.ntmps75;go_wp2_with fail;refine bR (λw'=>aC w' (w.heap.size) 0 (ag s)/\aC w' (w.heap.size) 1 (ah l)/\aC w' (w.heap.size) 2 (af e)/\aC w' (w.heap.size+1) 0 (ag t)/\aC w' (w.heap.size+1) 1 (ah m)/\aC w' (w.heap.size+1) 2 (af f)) (λi=>Nat.blt i 4) [(0,true),(1,true),(2,false),(3,false),(4,false)] zk zk rfl zk zc ⟨x0,x1,x2,y0,y1,y2⟩ ?_;iterate 2 (refine pT rfl rfl ?_ (by intro w' ⟨q0,q1,q2,q3,q4,q5⟩;go_simp;try with_reducible rfl))
 refine aI rfl rfl (λK hK=>?_);go_simp;with_reducible refine(H1.out _).mono ?_
 rintro e w1 ⟨rfl,hq⟩;have ae:Bw W w1:=by first|exact hq|exact aW hq
 clear x0 x1 x2 y0 y1 y2 r0 aj r1 ak r2 aF;obtain⟨Hx,x0,x1,x2⟩:=aQ Hx ae;obtain⟨Hy,y0,y1,y2⟩:=aQ Hy ae;obtain⟨Hr,r0,aj,r1,ak,r2,aF⟩:=aN Hr ae;replace Hb:=aB Hb ae;clear ae;refine hK _ _ (λ_=>⟨x0,x1,x2,y0,y1,y2⟩) ?_;clear hK K
 refine aI rfl rfl (λK hK=>?_);go_simp;with_reducible refine(H2.out _).mono ?_
 rintro e w2 ⟨rfl,hq⟩;have ae:Bw w1 w2:=by first|exact hq|exact aW hq
 clear x0 x1 x2 y0 y1 y2 r0 aj r1 ak r2 aF;obtain⟨Hx,x0,x1,x2⟩:=aQ Hx ae;obtain⟨Hy,y0,y1,y2⟩:=aQ Hy ae;obtain⟨Hr,r0,aj,r1,ak,r2,aF⟩:=aN Hr ae;replace Hb:=aB Hb ae;clear ae;refine hK _ _ (λ_=>⟨x0,x1,x2,y0,y1,y2⟩) ?_;clear hK K
 refine aI rfl rfl (λK hK=>?_);go_simp;refine hK _ _ (λh=>absurd h zd) ?_;clear hK K
 clear x0 x1 x2 y0 y1 y2 r0 aj r1 ak r2 aF;refine bV (bC w2 (w.heap.size+1+1) 0 [ag (au (dN S)),ah (nt (dN S).natAbs),af (dE S)]) bJ ?_;intro w9 hs;replace Hx:=kS Hx hs zo;replace Hy:=kS Hy hs zo;replace Hr:=bP Hr hs;obtain⟨x0,x1,x2⟩:=Hx.out.c3;obtain⟨y0,y1,y2⟩:=Hy.out.c3;obtain⟨r0,aj,r1,ak,r2,aF⟩:=Hr.out.g3;replace Hb:=bS Hb hs ZS;clear hs;simp only[bi];go_wp2;exact bodyPost_ret (v:=bL S) (by simp[results,Tryz.results75,go_sem,r0,r1,r2]) rfl ⟨rfl,df⟩
theorem SP (s:Bool)(l:List UInt8)(e:Int)(t:Bool)(m:List UInt8)(f:Int)(c:Int)(hc:bA (az (s,l,e)-az (t,m,f))=c)(w:World)(hx:dv (s,l,e))(hy:dv (t,m,f))(rW:dv (canon (-az (t,m,f)))):
 Calls Tryz.prog 35 #[.agg #[ag s,ah l,af e],.agg #[ag t,ah m,af f]] w λex w'=>ex=.returned (af c)/\Bw w w':=by
 obtain⟨S,hS⟩:=aG (az (s,l,e)-az (t,m,f));have hs:Sm 262145 S:=by rw[<-hS];exact Sm.sub hx.sm hy.sm
 have h1:=λW=>Ix s l e t m f S hS W hx hy rW;rw[hS]at hc;have h2:=λW=>ww (au (dN S)) (nt (dN S).natAbs) (dE S) c (by show bA (az (canon S))=_;rw[bD];exact hc) W (Nat.le_trans (jS (N:=65537) hs.parts.1 zo) zo);obtain⟨H1,H2⟩:=aO h1 h2;clear h1 h2 hS hs hc rW hx hy;obtain⟨W,cg,Hb,Hx,Hy⟩:=iq w 39 [ag s,ah l,af e] 39 [ag t,ah m,af f];obtain⟨x0,x1,x2⟩:=Hx.out.c3;obtain⟨y0,y1,y2⟩:=Hy.out.c3;go_enter Tryz.func35,Tryz.ntmps35;go_wp2_with fail;refine(H1.out _).mono ?_;rintro e w1 ⟨rfl,ae⟩;clear x0 x1 x2 y0 y1 y2;obtain⟨Hx,x0,x1,x2⟩:=aQ Hx ae;obtain⟨Hy,y0,y1,y2⟩:=aQ Hy ae;replace Hb:=aB Hb ae;clear ae;go_wp2_with fail;refine(H2.out _).mono ?_;rintro e w2 ⟨rfl,ae⟩;clear x0 x1 x2 y0 y1 y2;obtain⟨Hx,x0,x1,x2⟩:=aQ Hx ae;obtain⟨Hy,y0,y1,y2⟩:=aQ Hy ae;replace Hb:=aB Hb ae;clear ae;go_wp2;go_ret;exact⟨rfl,Hb.out⟩
abbrev ey (B:Nat)(x:Raw):Prop:=dv x/\Sm B (az x)
theorem ey.mono {B B':Nat}{x:Raw}(h:ey B x)(hb:B<=B'):ey B' x:=⟨h.1,h.2.mono hb⟩
theorem ey.canon {B:Nat}{d:Dyadic}(h:Sm B d)(hB:B<=16384):ey B (canon d):=⟨h.aw1 hB,by rw[bD];exact h⟩
theorem ey.form {B:Nat}{r:List Raw}(h:∀x∈r,ey B x)(hB:B<=16384):∀x∈mK r,ey B x:=λy hy=>by obtain⟨x,hx,rfl⟩:=List.mem_map.1 hy;exact ey.canon (h x hx).2 hB
theorem apZ (a:Option Addr)(n cap:Nat)(P:List Raw)(a':Option Addr)(cap':Nat)(Q:List Raw)(B:Nat)(w:World)(hP:P.length=n)(hQ:Q.length=n)(hn:n<=8)(ha:At w a (P.flatMap bI))(ha':At w a' (Q.flatMap bI))
 (Aa:∀x∈P,ey B x) (Ab:∀x∈Q,ey B x) (hB:B<=4000):
 Calls Tryz.prog 110 #[.slice a n cap,.slice a' n cap'] w λe w'=>e=.returned (bL (ov (P.map az) (Q.map az) n))/\Bw w w':=by
 have GC:∀c∈P.map az,Sm B c:=λc hc=>by obtain⟨x,hx,rfl⟩:=List.mem_map.1 hc;exact(Aa x hx).2
 have GD:∀c∈Q.map az,Sm B c:=λc hc=>by obtain⟨x,hx,rfl⟩:=List.mem_map.1 hc;exact(Ab x hx).2
 have mQ:=λk=>Mj GC GD k;have hstep:∀k (h1:k<P.length) (h2:k<Q.length),ov (P.map az) (Q.map az) (k+1)=ov (P.map az) (Q.map az) k+(az P[k]-az Q[k]) * (az P[k]-az Q[k]):=λk h1 h2=>by
  have e1:(P.map az).getD k 0=az P[k]:=by simp[h1]
  have e2:(Q.map az).getD k 0=az Q[k]:=by simp[h2]
  rw[ov,e1,e2]
 have hs0:ov (P.map az) (Q.map az) 0=0:=rfl;obtain⟨F,hF⟩:=aG (ov (P.map az) (Q.map az));rw[hF]at hs0⊢;simp only[hF]at mQ hstep;obtain⟨HP,HQ,Ha,ud,El,Em,NS,fW,BR⟩:=GV hP hQ ha ha' Aa Ab mQ hstep hs0;clear hP hQ ha ha' Aa Ab mQ hstep hs0 hF GC GD;obtain⟨W,cg,Hb,Hr,Hs⟩:=iq w 39 [ag false,.string ⟨#[]⟩,af 0] 39 [ag false,.string ⟨#[]⟩,af 0];obtain⟨r0,aj,r1,ak,r2,aF⟩:=Hr.out.g3;obtain⟨s0,bf,s1,bg,s2,bB⟩:=Hs.out.g3;go_enter Tryz.func110,Tryz.ntmps110;go_wp2_with fail;clear r0 aj r1 ak r2 aF s0 bf s1 bg s2 bB;first|refine cf (bC W (w.heap.size+1) 0 [ag false,.string ⟨#[]⟩,af 0]) bJ ?_|refine bZ (bC W (w.heap.size+1) 0 [ag false,.string ⟨#[]⟩,af 0]) bJ ?_
 intro w1 hs;replace Hr:=kS Hr hs zo;replace Hs:=bP Hs hs;obtain⟨r0,aj,r1,ak,r2,aF⟩:=Hr.out.g3;obtain⟨s0,bf,s1,bg,s2,bB⟩:=Hs.out.g3;replace Hb:=bS Hb hs ZS;clear hs;have lr:=Hr.out.lt;have ls:=Hs.out.lt;go_wp2_with fail;go_loopw[6] (λi wr=>∃(k:Nat) (X:Dyadic),k<=n/\i=af (k:Int)/\F k=X/\ar wr w.heap.size 39 [ag false,.string ⟨#[]⟩,af 0]/\ar wr (w.heap.size+1) 39 (bI (canon X))/\Bw w wr) (λi _=>n-(intOf i).toNat);case atStart=>exact⟨0,0,Nat.zero_le _,rfl,BR.out,Hr.out,Hs.out,Hb.out⟩
 case round=>
  clear r0 r1 r2 aj ak aF s0 s1 s2 bf bg bB Hr Hs;obtain⟨k,X,hk,rfl,hX,pr,ps,pb⟩:=hrel;by_cases hlt:k<n
  . have k1:k<P.length:=by rw[HP.out];exact hlt
    have k2:k<Q.length:=by rw[HQ.out];exact hlt
    obtain⟨sp,mp,ep,gV⟩:=oW (P[k]);obtain⟨sq,mq,eq,mo⟩:=oW (Q[k]);have fH:=El.out _ (List.getElem_mem k1);have jo:=Em.out _ (List.getElem_mem k2);have hst:=fW.out k k1 k2;rw[gV]at fH hst;rw[mo]at jo hst;obtain⟨D,hD⟩:=aG (az (sp,mp,ep)-az (sq,mq,eq));obtain⟨E,hE⟩:=aG (D*D);obtain⟨Y,hY⟩:=aG (X+E);rw[hX,hD,hE,hY]at hst;have eV:Sm (B+1) D:=by rw[<-hD];exact Sm.sub fH.2 jo.2
    have fN:Sm (2*B+2) E:=by rw[<-hE];exact(Sm.mul eV eV).mono zo
    have dM:Sm (2*B+2+k) X:=by rw[<-hX];exact NS.out k
    obtain⟨b1,o1,eG,p0,p1,p2⟩:=(Ha.out.below pb).num k k1 gV;obtain⟨b2,o2,fA,q0,q1,q2⟩:=(ud.out.below pb).num k k2 mo;have nQ:=tL n cap k (k:Int) eG hlt rfl;have kJ:=tL n cap' k (k:Int) fA hlt rfl;have Hp:Hid (bH wr b1 (o1+k*3) [ag sp,ah mp,af ep]):=kv p0 p1 p2;have Hq:Hid (bH wr b2 (o2+k*3) [ag sq,ah mq,af eq]):=kv q0 q1 q2;obtain⟨nz,rq,HD,HE,HY,bX,DT,DU,pI,Hr⟩:=tM fH jo hD hE hY hst eV fN dM pr;have Hs:Hid (ar wr (w.heap.size+1) 39 [ag (au (dN X)),ah (nt (dN X).natAbs),af (dE X)]):=ps;have fP:=ai pb;have Mp:=pb.size;clear pr ps pb fH jo hst hD hE hY eV fN dM p0 p1 p2 q0 q1 q2 gV mo hX eG fA;have Hb:Hid (Bw wr wr):=Below.refl _ _;go_upto_region 5 with fail
    go_cut[7] (λs7 wx=>∃g:Nat,s7=.pointer (some ⟨g,0,none⟩)/\wr.heap.size<=g/\ar wx g 39 [ag (au (dN D)),ah (nt (dN D).natAbs),af (dE D)]/\Bw wr wx);case first=>
     have p0:wr.cell? ⟨b1,o1+k*3,none⟩=some (ag sp):=Hp.out.cell 0 zm;have p1:wr.cell? ⟨b1,o1+k*3+1,none⟩=some (ah mp):=Hp.out.cell 1 zm;have p2:wr.cell? ⟨b1,o1+k*3+2,none⟩=some (af ep):=Hp.out.cell 2 zm;have q0:wr.cell? ⟨b2,o2+k*3,none⟩=some (ag sq):=Hq.out.cell 0 zm;have q1:wr.cell? ⟨b2,o2+k*3+1,none⟩=some (ah mq):=Hq.out.cell 1 zm;have q2:wr.cell? ⟨b2,o2+k*3+2,none⟩=some (af eq):=Hq.out.cell 2 zm;obtain⟨p0,p1,p2⟩:=Hp.out.w3;obtain⟨q0,q1,q2⟩:=Hq.out.w3;refine Mx (λw'=>aC w' b1 (o1+k*3) (ag sp)/\aC w' b1 (o1+k*3+1) (ah mp)/\aC w' b1 (o1+k*3+2) (af ep)/\aC w' b2 (o2+k*3) (ag sq)/\aC w' b2 (o2+k*3+1) (ah mq)/\aC w' b2 (o2+k*3+2) (af eq)) (λi=>Nat.blt i 10) 8 9 [(9,false),(10,false)] [(8,false),(10,false)] [0,1,2,3,4,5,6,7] zk zk rfl rfl zk zc ⟨p0,p1,p2,q0,q1,q2⟩ ?_;iterate 8 (refine Mc rfl rfl (v:=?_) (λw' hw'=>?_) ?_;rotate_left;(focus obtain⟨q0,q1,q2,q3,q4,q5⟩:=hw';go_simp;try with_reducible rfl))
     refine Mb rfl rfl rfl rfl (λK hK=>?_) (λK hK=>?_)
     . go_simp;with_reducible refine(Ix sp mp ep sq mq eq D HD.out _ nz.out.1 rq.out.1 (Sm.aw1 (Sm.neg rq.out.2) zo)).mono ?_
       rintro e w5 ⟨rfl,hq⟩;have cn:Bw wr w5:=aW hq;refine hK _ _ ⟨cell_later cn p0,cell_later cn p1,cell_later cn p2,cell_later cn q0,cell_later cn q1,cell_later cn q2⟩ ?_
       refine aI rfl rfl (λK hK=>?_);go_simp;refine hK _ _ (λ_=>⟨aL (cell_later cn p0),aL (cell_later cn p1),aL (cell_later cn p2),aL (cell_later cn q0),aL (cell_later cn q1),aL (cell_later cn q2)⟩) ?_
       refine aI rfl rfl (λK hK=>?_);go_simp;refine hK _ _ (λh=>absurd h zd) ?_;simp only[bi];go_wp2_with fail;go_meet;exact⟨w5.heap.size,rfl,cn.size,ar.new _ _ _,cn.alloc cn.size _⟩
     . go_simp;refine hK _ _ ⟨aL p0,aL p1,aL p2,aL q0,aL q1,aL q2⟩ ?_
       refine aI rfl rfl (λK hK=>?_);go_simp;with_reducible refine(Ix sp mp ep sq mq eq D HD.out _ nz.out.1 rq.out.1 (Sm.aw1 (Sm.neg rq.out.2) zo)).mono ?_
       rintro e w5 ⟨rfl,hq⟩;have cn:Bw wr w5:=rE hq;have Hn:ar w5 wr.heap.size 39 [ag false,.string ⟨#[]⟩,af 0]:=ar.below (ar.new wr.drew 39 [ag false,.string ⟨#[]⟩,af 0]) hq;obtain⟨n0,gv,n1,gw,n2,gy⟩:=Hn.g3;refine hK _ _ (λ_=>⟨cell_later cn p0,cell_later cn p1,cell_later cn p2,cell_later cn q0,cell_later cn q1,cell_later cn q2⟩) ?_
       refine aI rfl rfl (λK hK=>?_);go_simp;refine hK _ _ (λh=>absurd h zd) ?_;simp only[bi];go_wp2_with fail;go_meet;exact⟨wr.heap.size,rfl,Nat.le_refl _,((Hn.set 0 _).set 1 _).set 2 _,((cn.sc wr.heap.size 0 (Nat.le_refl _) _).sc wr.heap.size 1 (Nat.le_refl _) _).sc wr.heap.size 2 (Nat.le_refl _) _⟩
    case rest=>
     obtain⟨g,rfl,hg,qd,qb⟩:=hcut;have Ek:Hid (dv (au (dN D),nt (dN D).natAbs,dE D)):=Sm.aw1 DT.out zo;have Ni:Hid (dv (au (dN X),nt (dN X).natAbs,dE X)):=Sm.aw1 pI.out zo;have Ng:Hid (dv (au (dN E),nt (dN E).natAbs,dE E)):=Sm.aw1 DU.out zo;have Nw:Hid (az (au (dN D),nt (dN D).natAbs,dE D) *az (au (dN D),nt (dN D).natAbs,dE D)=E):=by show az (canon D) *az (canon D)=E;rw[bD];exact HE.out
     have MG:Hid (az (au (dN X),nt (dN X).natAbs,dE X)+az (au (dN E),nt (dN E).natAbs,dE E)=Y):=by show az (canon X)+az (canon E)=Y;rw[bD,bD];exact HY.out
     have RX:=Hs.out.lt;replace Hr:=ai (Hr.out.below qb);replace Hs:=ai (Hs.out.below qb);have Hd:=ai qd;clear Hb;have Hb:=ai (aJ fP.out qb);have lg:=Hd.out.lt;clear qd qb;obtain⟨r0,r1,r2⟩:=Hr.out.c3;obtain⟨s0,bf,s1,bg,s2,bB⟩:=Hs.out.g3;obtain⟨d0,d1,d2⟩:=Hd.out.c3;go_wp2_with fail;refine bR (λw'=>aC w' (w.heap.size+1) 0 (ag (au (dN X)))/\aC w' (w.heap.size+1) 1 (ah (nt (dN X).natAbs))/\aC w' (w.heap.size+1) 2 (af (dE X))/\aC w' g 0 (ag (au (dN D)))/\aC w' g 1 (ah (nt (dN D).natAbs))/\aC w' g 2 (af (dE D))) (λi=>Nat.blt i 5) [(0,true),(1,true),(2,true),(3,false),(4,false),(5,false)] zk zk rfl zk zc ⟨s0,s1,s2,d0,d1,d2⟩ ?_;iterate 3 (refine pT rfl rfl ?_ (by intro w' ⟨q0,q1,q2,q3,q4,q5⟩;go_simp;try with_reducible rfl))
     refine aI rfl rfl (λK hK=>?_);go_simp;with_reducible refine(Bf _ _ _ _ _ _ E Nw.out _ Ek.out Ek.out).mono ?_
     rintro e w7 ⟨rfl,hq⟩;have ae:Bw wc w7:=by first|exact hq|exact aW hq
     clear r0 r1 r2 s0 bf s1 bg s2 bB d0 d1 d2;obtain⟨Hr,r0,r1,r2⟩:=aQ Hr ae;obtain⟨Hs,s0,bf,s1,bg,s2,bB⟩:=aN Hs ae;obtain⟨Hd,d0,d1,d2⟩:=aQ Hd ae;replace Hb:=aB Hb ae;clear ae;refine hK _ _ (λ_=>⟨s0,s1,s2,d0,d1,d2⟩) ?_;clear hK K
     refine aI rfl rfl (λK hK=>?_);go_simp;with_reducible refine(Iw _ _ _ _ _ _ Y MG.out _ Ni.out Ng.out).mono ?_
     rintro e w9 ⟨rfl,hq⟩;have ae:Bw w7 w9:=by first|exact hq|exact aW hq
     clear r0 r1 r2 s0 bf s1 bg s2 bB d0 d1 d2;obtain⟨Hr,r0,r1,r2⟩:=aQ Hr ae;obtain⟨Hs,s0,bf,s1,bg,s2,bB⟩:=aN Hs ae;obtain⟨Hd,d0,d1,d2⟩:=aQ Hd ae;replace Hb:=aB Hb ae;clear ae;refine hK _ _ (λ_=>⟨s0,s1,s2,d0,d1,d2⟩) ?_;clear hK K
     refine aI rfl rfl (λK hK=>?_);go_simp;refine hK _ _ (λh=>absurd h zd) ?_;clear hK K
     clear r0 r1 r2 s0 bf s1 bg s2 bB d0 d1 d2;refine bV (bC w9 (w.heap.size+1) 0 [ag (au (dN Y)),ah (nt (dN Y).natAbs),af (dE Y)]) bJ ?_;intro dQ hs;replace Hr:=kS Hr hs zo;replace Hs:=bP Hs hs;replace Hd:=kS Hd hs zo;obtain⟨r0,r1,r2⟩:=Hr.out.c3;obtain⟨s0,bf,s1,bg,s2,bB⟩:=Hs.out.g3;obtain⟨d0,d1,d2⟩:=Hd.out.c3;replace Hb:=bS Hb hs ZS;clear hs;simp only[bi];go_wp2;go_roundw;case rel=>exact⟨k+1,Y,by omega,by go_num,bX.out,Hr.out,Hs.out,Hb.out⟩
     case measure=>simp[intOf];omega
  . obtain rfl:k=n:=by omega
    have Hr:=ai pr;have Hs:Hid (ar wr (w.heap.size+1) 39 [ag (au (dN X)),ah (nt (dN X).natAbs),af (dE X)]):=ps;have HX:=ai hX;replace Hb:=ai pb;clear pr ps pb hX;obtain⟨r0,aj,r1,ak,r2,aF⟩:=Hr.out.g3;obtain⟨s0,s1,s2⟩:=Hs.out.c3;go_wp2;clear r0 aj r1 ak r2 aF s0 s1 s2;refine dW (bC wr (w.heap.size) 0 [ag (au (dN X)),ah (nt (dN X).natAbs),af (dE X)]) bJ ?_;intro w9 hs;replace Hr:=bP Hr hs;replace Hs:=kS Hs hs zo;obtain⟨r0,aj,r1,ak,r2,aF⟩:=Hr.out.g3;obtain⟨s0,s1,s2⟩:=Hs.out.c3;replace Hb:=bS Hb hs ZS;clear hs;refine bodyPost_ret (v:=bL X) (by simp[results,Tryz.results110,go_sem,r0,r1,r2]) rfl ⟨by rw[HX.out],Hb.out⟩
theorem ap0 (rows:List (List Raw))(n B x y:Nat)(a:Option Addr)(cap:Nat)(a':Option Addr)(cap':Nat)(D:Dyadic)(w:World)(hx:x<rows.length)(hy:y<rows.length)(hn:n<=8)(hrow:∀r∈rows,r.length=n)(hfit:∀r∈rows,∀c∈r,ey B c)(hB:B<=4000)
 (hD:gq rows n x y=D) (ha:At w a (rows[x].flatMap bI)) (ha':At w a' (rows[y].flatMap bI)):
 Calls Tryz.prog 110 #[.slice a n cap,.slice a' n cap'] w λe w'=>e=.returned (bL D)/\Bw w w':=by
 have h1:=hrow _ (List.getElem_mem hx);have h2:=hrow _ (List.getElem_mem hy);have e1:rows.getD x []=rows[x]:=by simp[hx]
 have e2:rows.getD y []=rows[y]:=by simp[hy]
 unfold gq at hD;rw[e1,e2]at hD;rw[<-hD];exact apZ a n cap rows[x] a' cap' rows[y] B w h1 h2 hn ha ha' (hfit _ (List.getElem_mem hx)) (hfit _ (List.getElem_mem hy)) hB
theorem aqH {rows:List (List Raw)}{n B:Nat}(hfit:∀r∈rows,∀c∈r,ey B c)(x y:Nat):Sm (2*B+2+n) (gq rows n x y):=by
 have h:∀z,∀c∈(rows.getD z []).map az,Sm B c:=λz c hc=>by
  obtain⟨u,hu,rfl⟩:=List.mem_map.1 hc;by_cases hz:z<rows.length
  . have e:rows.getD z []=rows[z]:=by simp[hz]
    rw[e]at hu;exact(hfit _ (List.getElem_mem hz) u hu).2
  . have e:rows.getD z []=[]:=by simp[List.getD_eq_getElem?_getD,List.getElem?_eq_none (by omega:rows.length<=z)]
    rw[e]at hu;cases hu
 exact Mj (h x) (h y) n
theorem ars (rows:List (List Raw))(L n B x y:Nat)(a:Option Addr)(Y:Dyadic)(w:World)(hL:rows.length=L)(hx:x<L)(hy:y<L)(hn:n<=8)(hrow:∀r∈rows,r.length=n)(hfit:∀r∈rows,∀c∈r,ey B c)(hB:B<=4000)(ha:cC w a rows)(hY:gq rows n x y=Y):
 ∃b o a1 c1 a2 c2,a=some ⟨b,o,none⟩/\bH w b (o+x) [.slice a1 n c1]/\bH w b (o+y) [.slice a2 n c2]/\
  ∀W,Bw w W->Calls Tryz.prog 110 #[.slice a1 n c1,.slice a2 n c2] W λe w'=>e=.returned (bL Y)/\Bw W w':=by
 have hx1:x<rows.length:=by omega
 have hy1:y<rows.length:=by omega
 obtain⟨b0,o0,a1,c1,gH,hc0,jQ⟩:=ha.row x hx1;obtain⟨iL,ja,a2,c2,eG,hc1,lj⟩:=ha.row y hy1;obtain⟨rfl,rfl⟩:iL=b0/\ja=o0:=by rw[gH]at eG;simp at eG;exact⟨eG.1.symm,eG.2.symm⟩
 rw[hrow _ (List.getElem_mem hx1)]at hc0;rw[hrow _ (List.getElem_mem hy1)]at hc1;refine⟨iL,ja,a1,c1,a2,c2,gH,λj hj=>?_,λj hj=>?_,λW hW=>ap0 rows n B x y a1 c1 a2 c2 Y W hx1 hy1 hn hrow hfit hB hY (jQ.below hW) (lj.below hW)⟩
 . obtain rfl:j=0:=by simp at hj;omega
   exact hc0
 . obtain rfl:j=0:=by simp at hj;omega
   exact hc1
theorem apH (a:Option Addr)(L cap n:Nat)(rows:List (List Raw))(B i j:Nat)(X:Dyadic)(w:World)(hL:rows.length=L)(hL2:2<=L)(KD:L<=9)(hn:n<=8)(hrow:∀r∈rows,r.length=n)(ha:cC w a rows)
 (hfit:∀r∈rows,∀c∈r,ey B c) (hB:B<=4000) (hF:iP (gq rows n) L=(i,j,X)):
 Calls Tryz.prog 63 #[.slice a L cap] w λe w'=>e=.returned (.tuple #[af (i:Int),af (j:Int),bL X])/\Bw w w':=by
 have Rv:=λx y Y W (hx:x<L) (hy:y<L) (hY:gq rows n x y=Y) (hW:Bw w W)=>ars rows L n B x y a Y W hL hx hy hn hrow hfit hB (ha.below hW) hY;have QQ:∀b o,a=some ⟨b,o,none⟩->b<w.heap.size:=λb o e=>by obtain⟨b',o',_,_,h1,h2,_⟩:=ha.row 0 zo;rw[e]at h1;simp only[Option.some.injEq,Addr.mk.injEq,and_true]at h1;rw[h1.1];exact World.block_lt_of_cell? w _ h2
 have afQ:=ai QQ;clear QQ;have hsm:∀x y,Sm (2*B+10) (gq rows n x y):=λx y=>(aqH hfit x y).mono zo;obtain⟨sq,mQ⟩:=aG (gq rows n);simp only[mQ]at Rv hsm;rw[mQ]at hF;have sX:pu sq L (L-0) 0 (0,1,sq 0 1)=(i,j,X):=hF;obtain⟨NW,pP,HF⟩:=cL Rv hsm sX;clear hL ha hsm Rv hF sX hfit hrow mQ;obtain⟨W,cg,Hb,Hr⟩:=fJ w 39 [ag false,.string ⟨#[]⟩,af 0];obtain⟨r0,aj,r1,ak,r2,aF⟩:=Hr.out.g3;go_enter Tryz.func63,Tryz.ntmps63;have lr:=Hr.out.lt;go_wp2_with fail;clear r0 r1 r2 aj ak aF;go_loopw[5,6,7] (λs5 s6 x wr=>∃(k:Nat) (s:Nat×Nat×Dyadic),k<=L/\s5=af (s.1:Int)/\s6=af (s.2.1:Int)/\x=af (k:Int)/\pu sq L (L-k) k s=(i,j,X)/\(s.1<L/\s.2.1<L/\s.2.2=sq s.1 s.2.1)/\ar wr w.heap.size 39 [ag false,.string ⟨#[]⟩,af 0]/\Bw w wr) (λ_ _ x _=>L-(intOf x).toNat);case atStart=>exact⟨0,(0,1,sq 0 1),Nat.zero_le _,rfl,rfl,rfl,HF.out,⟨by show 0<L;omega,by show 1<L;omega,rfl⟩,Hr.out,Hb.out⟩
 case round=>
  clear Hr Hb HF;obtain⟨k,s,hk,rfl,rfl,rfl,hF,hs,pr,pb⟩:=hrel;by_cases hlt:k<L
  . obtain⟨Hr,Hb,Hs⟩:=cL pr pb hs;have wI:Hid (pu sq L (L-(k+1)) (k+1) (uI sq k (L-(k+1)) (k+1) s)=(i,j,X)):=by rw[show L-k=L-(k+1)+1 by omega]at hF;exact hF
    clear pr pb hs hF;obtain⟨wo,hwo⟩:∃wo,wo=wr:=⟨_,rfl⟩;subst hwo;go_wp2_with fail;go_loopw[5,6,8] (λs5 s6 x wr=>∃(b:Nat) (s:Nat×Nat×Dyadic),b<=L/\k<b/\s5=af (s.1:Int)/\s6=af (s.2.1:Int)/\x=af (b:Int)/\pu sq L (L-(k+1)) (k+1) (uI sq k (L-b) b s)=(i,j,X)/\(s.1<L/\s.2.1<L/\s.2.2=sq s.1 s.2.1)/\ar wr w.heap.size 39 [ag false,.string ⟨#[]⟩,af 0]/\Bw w wr) (λ_ _ x _=>L-(intOf x).toNat);case atStart=>exact⟨k+1,s,by omega,by omega,rfl,rfl,by go_num,wI.out,Hs.out,Hr.out,Hb.out⟩
    case round=>
     clear Hr Hb wI Hs;obtain⟨b,s,hb1,hb2,rfl,rfl,rfl,hF,hs,pr,pb⟩:=hrel;obtain⟨Hr,Hb,DV⟩:=cL pr pb hF;obtain⟨si,sj,sx⟩:=s;obtain⟨GF,hsj,uG⟩:=hs;dsimp only at GF hsj uG;clear pr pb hF;by_cases bG:b<L
     . obtain⟨Y,hY⟩:=aG (sq k b);obtain⟨b0,o0,a1,c1,a2,c2,gH,hu,hv,hq1⟩:=NW.out k b Y wr hlt bG hY Hb.out;obtain⟨iL,ja,a3,c3,a4,c4,eG,hp,hq,hq2⟩:=NW.out si sj sx wr GF hsj uG.symm Hb.out;obtain⟨rfl,rfl⟩:iL=b0/\ja=o0:=by rw[gH]at eG;simp at eG;exact⟨eG.1.symm,eG.2.symm⟩
       clear eG;have i0:=kO L cap k (k:Int) gH hlt rfl;have i1:=kO L cap b (b:Int) gH bG rfl;have i2:=kO L cap si (si:Int) gH GF rfl;have i3:=kO L cap sj (sj:Int) gH hsj rfl;rw[Nat.mul_one]at i0 i1 i2 i3;have fT:=pP.out k b;have ji:=pP.out si sj;rw[hY]at fT;rw[<-uG]at ji;obtain⟨c,hc⟩:=aG (bA (Y-sx));have hcm:=λW=>SP (au (dN Y)) (nt (dN Y).natAbs) (dE Y) (au (dN sx)) (nt (dN sx).natAbs) (dE sx) c (by show bA (az (canon Y)-az (canon sx))=c;rw[bD,bD];exact hc) W (fT.aw1 zo) (ji.aw1 zo) (Sm.aw1 (B:=2*B+10) (by show Sm _ (-az (canon sx));rw[bD];exact Sm.neg ji) zo);have DW:Hid (pu sq L (L-(k+1)) (k+1) (uI sq k (L-(b+1)) (b+1) (xY sq k b (si,sj,sx)))=(i,j,X)):=by have h:=DV.out;rw[show L-b=L-(b+1)+1 by omega]at h;exact h
       have hstep:xY sq k b (si,sj,sx)=if 0<c then(k,b,Y)else(si,sj,sx):=by
        unfold xY;rw[hY];show(if 0<bA (Y-sx)then _ else _)=_
        rw[hc]
       have Hu:Hid (bH wr iL (ja+k) [.slice a1 n c1]):=hu;have Hv:Hid (bH wr iL (ja+b) [.slice a2 n c2]):=hv;have Hp:Hid (bH wr iL (ja+si) [.slice a3 n c3]):=hp;have Hq:Hid (bH wr iL (ja+sj) [.slice a4 n c4]):=hq;obtain⟨NL,ED,yJ,fW,HY,Hsx⟩:=gW hq1 hq2 hcm hstep hY uG;have fP:=Hb;clear hu hv hp hq hq1 hq2 hcm hstep hY uG fT ji hc gH Hb;have Hb:Hid (Bw wr wr):=Below.refl _ _;obtain⟨r0,r1,r2⟩:=Hr.out.c3;have u0:=Hu.out.w1;have v0:=Hv.out.w1;have p0:=Hp.out.w1;have q0:=Hq.out.w1;go_wp2_with fail;refine bR (λw'=>aC w' iL (ja+k) (.slice a1 n c1)/\aC w' iL (ja+b) (.slice a2 n c2)/\aC w' iL (ja+si) (.slice a3 n c3)/\aC w' iL (ja+sj) (.slice a4 n c4)) (λi=>Nat.blt i 100000) [(0,true),(1,true),(2,true),(3,true),(4,true),(5,true),(6,true),(7,true),(9,true),(10,true),(11,true),(12,true),(13,true),(14,true),(15,true),(16,true),(8,false),(17,false),(18,false),(19,true)] zk zk rfl zk zc ⟨u0,v0,p0,q0⟩ ?_;iterate 16 (refine pT rfl rfl ?_ (by intro w' ⟨q0,q1,q2,q3⟩;go_simp;try with_reducible rfl))
       refine aI rfl rfl (λK hK=>?_);go_simp;with_reducible refine(NL.out _ (Below.refl _ _).drew).mono ?_
       rintro e w5 ⟨rfl,hq⟩;have ae:Bw wr w5:=by first|exact hq|exact aW hq
       clear r0 r1 r2 u0 v0 p0 q0;obtain⟨Hr,r0,r1,r2⟩:=aQ Hr ae;replace Hu:=kW Hu ae;replace Hv:=kW Hv ae;replace Hp:=kW Hp ae;replace Hq:=kW Hq ae;have u0:=Hu.out.w1;have v0:=Hv.out.w1;have p0:=Hp.out.w1;have q0:=Hq.out.w1;replace Hb:=aB Hb ae;clear ae;refine hK _ _ (λ_=>⟨u0,v0,p0,q0⟩) ?_;clear hK K
       refine aI rfl rfl (λK hK=>?_);go_simp;with_reducible refine(ED.out _ Hb.out).mono ?_
       rintro e w6 ⟨rfl,hq⟩;have ae:Bw w5 w6:=by first|exact hq|exact aW hq
       clear r0 r1 r2 u0 v0 p0 q0;obtain⟨Hr,r0,r1,r2⟩:=aQ Hr ae;replace Hu:=kW Hu ae;replace Hv:=kW Hv ae;replace Hp:=kW Hp ae;replace Hq:=kW Hq ae;have u0:=Hu.out.w1;have v0:=Hv.out.w1;have p0:=Hp.out.w1;have q0:=Hq.out.w1;replace Hb:=aB Hb ae;clear ae;refine hK _ _ (λ_=>⟨u0,v0,p0,q0⟩) ?_;clear hK K
       refine aI rfl rfl (λK hK=>?_);go_simp;with_reducible refine(yJ.out _).mono ?_
       rintro e w7 ⟨rfl,hq⟩;have ae:Bw w6 w7:=by first|exact hq|exact aW hq
       clear r0 r1 r2 u0 v0 p0 q0;obtain⟨Hr,r0,r1,r2⟩:=aQ Hr ae;replace Hu:=kW Hu ae;replace Hv:=kW Hv ae;replace Hp:=kW Hp ae;replace Hq:=kW Hq ae;have u0:=Hu.out.w1;have v0:=Hv.out.w1;have p0:=Hp.out.w1;have q0:=Hq.out.w1;replace Hb:=aB Hb ae;clear ae;refine hK _ _ (λ_=>⟨u0,v0,p0,q0⟩) ?_;clear hK K
       refine pT rfl rfl ?_
       simp only[bi];have gQ:=ai (aJ fP.out Hb.out);by_cases hc0:0<c
       . go_wp2;go_roundw;case rel=>refine⟨b+1,(k,b,Y),by omega,by omega,rfl,rfl,by go_num,?_,⟨hlt,bG,HY.out.symm⟩,Hr.out,gQ.out⟩;have h:=DW.out;rw[fW.out,if_pos hc0]at h;exact h
         case measure=>simp[intOf];omega
       . go_wp2;go_roundw;case rel=>refine⟨b+1,(si,sj,sx),by omega,by omega,rfl,rfl,by go_num,?_,⟨GF,hsj,Hsx.out⟩,Hr.out,gQ.out⟩;have h:=DW.out;rw[fW.out,if_neg zo]at h;exact h
         case measure=>simp[intOf];omega
     . obtain rfl:b=L:=by omega
       go_wp2;go_roundw;case rel=>refine⟨k+1,(si,sj,sx),by omega,rfl,rfl,by go_num,?_,⟨GF,hsj,uG⟩,Hr.out,Hb.out⟩;have h:=DV.out;rw[Nat.sub_self]at h;exact h
       case measure=>simp[intOf];omega
  . obtain rfl:k=L:=by omega
    rw[Nat.sub_self]at hF;have pS:s=(i,j,X):=hF;subst pS;obtain⟨hi,hj,hx⟩:=hs;dsimp only at hi hj hx;obtain⟨b0,o0,a1,c1,a2,c2,gH,hu,hv,hq1⟩:=NW.out i j X wr hi hj hx.symm pb;have i0:=kO k cap i (i:Int) gH hi rfl;have i1:=kO k cap j (j:Int) gH hj rfl;rw[Nat.mul_one]at i0 i1;obtain⟨Hr,Hb,NL⟩:=cL pr pb hq1;have hl0:=afQ.out b0 o0 gH;have Hu:Hid (bH wr b0 (o0+i) [.slice a1 n c1]):=hu;have Hv:Hid (bH wr b0 (o0+j) [.slice a2 n c2]):=hv;have hbs:=pb.size;clear pr pb hF hx gH hu hv hq1;have u0:=Hu.out.w1;have v0:=Hv.out.w1;obtain⟨r0,aj,r1,ak,r2,aF⟩:=Hr.out.g3;go_wp2_with fail;refine bR (λw'=>aC w' b0 (o0+i) (.slice a1 n c1)/\aC w' b0 (o0+j) (.slice a2 n c2)) (λi=>Nat.blt i 13) [(0,true),(1,true),(2,true),(3,true),(4,true),(5,true),(6,true),(7,true),(8,true),(9,true),(10,false),(11,true),(12,true),(13,false)] zk zk rfl zk zc ⟨u0,v0⟩ ?_;iterate 10 (refine pT rfl rfl ?_ (by intro w' ⟨q0,q1⟩;go_simp;try with_reducible rfl))
    refine aI rfl rfl (λK hK=>?_);go_simp;with_reducible refine(NL.out _ (Below.refl _ _).drew).mono ?_
    rintro e w5 ⟨rfl,hq⟩;have ae:Bw wr w5:=by first|exact hq|exact aW hq
    clear u0 v0 r0 aj r1 ak r2 aF;replace Hu:=kW Hu ae;replace Hv:=kW Hv ae;replace Hr:=kB Hr ae;have u0:=Hu.out.w1;have v0:=Hv.out.w1;obtain⟨r0,aj,r1,ak,r2,aF⟩:=Hr.out.g3;replace Hb:=aB Hb ae;clear ae;refine hK _ _ (λ_=>⟨u0,v0⟩) ?_;clear hK K
    iterate 2 (refine pT rfl rfl ?_)
    refine aI rfl rfl (λK hK=>?_);go_simp;refine hK _ _ (λh=>absurd h zd) ?_;clear hK K
    clear u0 v0 r0 aj r1 ak r2 aF;refine bV (bC w5 (w.heap.size) 0 [ag (au (dN X)),ah (nt (dN X).natAbs),af (dE X)]) bJ ?_;intro w6 hs;replace Hu:=LH Hu hs zo;replace Hv:=LH Hv hs zo;replace Hr:=bP Hr hs;have u0:=Hu.out.w1;have v0:=Hv.out.w1;obtain⟨r0,aj,r1,ak,r2,aF⟩:=Hr.out.g3;replace Hb:=bS Hb hs ZS;clear hs;simp only[bi];go_wp2;exact bodyPost_ret (v:=.tuple #[af (i:Int),af (j:Int),bL X]) (by simp[results,Tryz.results63,go_sem,r0,r1,r2]) rfl ⟨rfl,df⟩
theorem adv {rows:List (List Raw)}(h:rows.length<2\/9<rows.length):jw rows=0:=by
 unfold jw;dsimp only;rw[if_pos];rcases h with h|h
 . left;omega
 . right;left;omega
theorem arE {rows:List (List Raw)}{N j:Nat}(hN:rows.length=N+1)(hj:j<rows.length)(h:rows[j].length≠N):jw rows=0:=by unfold jw;dsimp only;rw[if_pos];right;right;rw[List.any_eq_true];refine⟨rows[j],List.getElem_mem hj,?_⟩;rw[decide_eq_true_eq];omega
theorem acA (a:Option Addr)(L cap:Nat)(rows:List (List Raw))(V:Int)(w:World)(hL:rows.length=L)(hl:L<=1099511627776)(ha:cC w a rows)(hV:jw rows=V):
 Calls Tryz.prog 60 #[.slice a L cap] w λe w'=>e=.returned (af V)/\Bw w w':=by
 by_cases h1:L<2
 . obtain rfl:V=0:=by rw[<-hV];exact adv zo
   have t1:(L:Int)-1<1:=by omega
   clear hV ha hL;have Hb:Hid (Bw w w):=Below.refl _ _;go_enter Tryz.func60,Tryz.ntmps60;go_wp2;refine bodyPost_ret (results_tmp rfl _ _ _) rfl ⟨rfl,Hb.out⟩
 by_cases h2:9<L
 . obtain rfl:V=0:=by rw[<-hV];exact adv zo
   have t1:¬(L:Int)-1<1:=by omega
   have t2:8<(L:Int)-1:=by omega
   clear hV ha hL;have Hb:Hid (Bw w w):=Below.refl _ _;go_enter Tryz.func60,Tryz.ntmps60;go_wp2;refine bodyPost_ret (results_tmp rfl _ _ _) rfl ⟨rfl,Hb.out⟩
 obtain⟨N,hN⟩:∃N:Nat,L=N+1:=⟨L-1,by omega⟩;have hLN:(L:Int)-1=(N:Int):=by omega
 have t1:¬(N:Int)<1:=by omega
 have t2:¬8<(N:Int):=by omega
 have hbad:=λj (hj:j<rows.length) h=>arE (j:=j) (hL.trans hN) hj h;have QH:=λh=>DC (hL.trans hN) h zo zo;rw[hV]at hbad QH;obtain⟨BC,Er,HL,Ha,HN⟩:=gJ hbad QH hL ha hN;clear hbad QH hL ha hV hN;have Hb:Hid (Bw w w):=Below.refl _ _;go_enter Tryz.func60,Tryz.ntmps60;go_wp2_with fail;go_loopw[4] (λx wr=>∃k:Nat,k<=L/\x=af (k:Int)/\(∀j (h:j<rows.length),j<k->rows[j].length=N)/\Bw w wr) (λx _=>L-(intOf x).toNat);case atStart=>exact⟨0,Nat.zero_le _,rfl,λj _ h=>absurd h (Nat.not_lt_zero _),Hb.out⟩
 case round=>
  clear Hb;obtain⟨k,hk,rfl,hs,pb⟩:=hrel;obtain⟨Hs,Hb⟩:=aO hs pb;clear hs pb;by_cases hlt:k<L
  . have bG:(k:Int)<=(N:Int):=by have:=HN.out;omega
    have hk1:k<rows.length:=by rw[HL.out];exact hlt
    obtain⟨b0,o0,a1,c1,hab,hc,_⟩:=(Ha.out.below Hb.out).row k hk1;have i0:=kO L cap k (k:Int) hab hlt rfl;rw[Nat.mul_one]at i0;obtain⟨n1,gj⟩:=aG (rows[k].length);rw[gj]at hc;have BN:=ai gj;clear gj hab;by_cases he:n1=N
    . subst he;go_wp2;go_roundw;case rel=>
       refine⟨k+1,by omega,by go_num,λj h hj=>?_,Hb.out⟩;by_cases hjk:j=k
       . subst hjk;exact BN.out
       . exact Hs.out j h zo
      case measure=>simp[intOf];omega
    . have QD:((n1:Int) !=(N:Int))=true:=by simp;omega
      have he3:¬(n1:Int)=(N:Int):=by omega
      obtain rfl:V=0:=BC.out k hk1 (by rw[BN.out];exact he);go_wp2;refine bodyPost_ret (results_tmp rfl _ _ _) rfl ⟨rfl,Hb.out⟩
  . obtain rfl:k=L:=by omega
    have bG:¬(k:Int)<=(N:Int):=by have:=HN.out;omega
    obtain rfl:V=N:=Er.out (λr hr=>by
     obtain⟨j,hj,rfl⟩:=List.mem_iff_getElem.1 hr
     exact Hs.out j hj (by rw[<-HL.out];exact hj))
    go_wp2;refine bodyPost_ret (results_tmp rfl _ _ _) rfl ⟨rfl,Hb.out⟩
theorem ap7 (a:Option Addr)(L cap:Nat)(rows:List (List Raw))(k0:Nat)(pa:Option Addr)(pn uR:Nat)(Pp:List Raw)(w:World)(hL:rows.length=L)(KD:L<=9)(hP:Pp.length=pn)(Ya:pn<=8)(hrow:∀r∈rows,r.length<=8)(ha:cC w a rows)(hp:At w pa (Pp.flatMap bI))
 (hok:∀r∈rows,∀x∈r,dv x) (Lm:k0<L->∀x∈Pp,dv x) (at9:Int) (FZ:∀k:Nat,k<L->((k:Int)=at9↔k=k0)):
 Calls Tryz.prog 159 #[.slice a L cap,af at9,.slice pa pn uR] w λe w'=>∃a' cap',e=.returned (.slice a' L cap')/\L<=cap'/\cC w' a' ((rows.set k0 Pp).map mK)/\Bw w w':=by
 obtain⟨i0,hi,hz0,hz1,hz2⟩:=info_parts Tryz.aw4;obtain⟨j0,hj,hy0,hy1,hy2⟩:=info_parts Tryz.axp;obtain⟨R,hR⟩:=aG (rows.set k0 Pp);obtain⟨S,hS⟩:=aG (R.map λr=>r.map az);have Yj:R.length=L:=by rw[<-hR];simp[hL]
 have Yi:∀r∈R,r.length<=8:=by
  intro r hr;rw[<-hR]at hr;rcases List.mem_or_eq_of_mem_set hr with h|h
  . exact hrow r h
  . rw[h];omega
 have Yl:∀r∈R,∀x∈r,dv x:=by
  intro r hr;by_cases vP:k0<L
  . rw[<-hR]at hr;rcases List.mem_or_eq_of_mem_set hr with h|h
    . exact hok r h
    . rw[h];exact Lm vP
  . rw[<-hR,List.set_eq_of_length_le zo]at hr;exact hok r hr
 have rV:∀(W:World) (k:Nat) (hk:k<L),Bw w W->∃b o a1 c1 n1 aq cq,∃(hk2:k<R.length),a=some ⟨b,o,none⟩/\W.cell? ⟨b,o+k,none⟩=some (.slice a1 n1 c1)/\At W aq (R[k].flatMap bI)/\((k=k0/\aq=pa/\R[k].length=pn/\cq=uR)\/(k≠k0/\aq=a1/\R[k].length=n1/\cq=c1)):=by
  intro W k hk hb;obtain⟨b,o,a1,c1,h1,h2,h3⟩:=(ha.below hb).row k zo;by_cases hkk:k=k0
  . refine⟨b,o,a1,c1,_,pa,uR,by omega,h1,h2,?_,.inl ⟨hkk,rfl,?_,rfl⟩⟩
    . have:R[k]'zo=Pp:=by simp only[<-hR,hkk,List.getElem_set_self]
      rw[this];exact hp.below hb
    . have:R[k]'zo=Pp:=by simp only[<-hR,hkk,List.getElem_set_self]
      rw[this];exact hP
  . have:R[k]'zo=rows[k]'zo:=by simp only[<-hR];exact List.getElem_set_ne (λh=>hkk h.symm) _
    refine⟨b,o,a1,c1,_,a1,c1,by omega,h1,h2,?_,.inr ⟨hkk,rfl,by rw[this],rfl⟩⟩;rw[this];exact h3
 rw[hR];obtain⟨Hi,dF,dG,dm,Hj,jA,kz,kC,HS,HRL,HR8,aex⟩:=gB hi hz0 hz1 hz2 hj hy0 hy1 hy2 hS Yj Yi Yl;obtain⟨BU,Ur⟩:=aO rV FZ;clear hi hz0 hz1 hz2 hj hy0 hy1 hy2 hR hS Yj Yi Yl rV ha hp hL hP hrow hok Lm FZ;go_enter Tryz.func159,Tryz.ntmps159;have Hb:Hid (Bw w w):=Below.refl _ _;go_wp2_with fail;go_loopw[7,8] (λs7 x wr=>∃(k:Nat) (v:Value),k<=L/\x=af (k:Int)/\v=s7/\Own2 50 wr w.heap.size S k v/\Bw w wr) (λ_ x _=>L-(intOf x).toNat);case atStart=>exact⟨0,_,Nat.zero_le _,rfl,rfl,Own2.nil _ _ _ _,Hb.out⟩
 case round=>
  clear Hb;obtain⟨k,v,hk,rfl,rfl,pv,pb⟩:=hrel;by_cases hlt:k<L
  . obtain⟨b1,o1,a1,c1,n1,aq,cq,hk2,hab,hc1,hat,xL⟩:=BU.out wr k hlt pb;have nQ:=kO L cap k (k:Int) hab hlt rfl;rw[Nat.mul_one]at nQ;obtain⟨Q,hQ⟩:=aG (R[k]);rw[hQ]at hat xL;have PW:=HR8.out _ (List.getElem_mem hk2);have PY:=aex.out _ (List.getElem_mem hk2);rw[hQ]at PW PY;obtain⟨Z,hZ⟩:=aG (Q.map az);have mL:S.getD k []=Z:=by rw[<-HS.out,<-hZ,<-hQ];simp[hk2]
    have Cz:Q.length<=8:=PW;obtain⟨n,hn⟩:=aG Q.length;rw[hn]at Cz xL;obtain⟨eH,aeu,HZ,ub,Hor,Hn,bu,dS⟩:=nZ hat PY hZ mL xL hn pb pv;clear hat PY hZ mL xL hn pb pv hQ hab PW;have iy:=bu.out.size;go_upto_if 24 with fail
    go_cut[9] (λs9 wx=>s9=.slice aq n cq/\wx=wr);case first=>
     rcases Hor.out with⟨rfl,rfl,rfl,rfl⟩ |⟨h1,rfl,rfl,rfl⟩
     . obtain rfl:=(Ur.out k hlt).2 rfl;go_wp2_with fail;go_meet;exact⟨rfl,rfl⟩
     . have h3:¬(k:Int)=at9:=λh=>h1 ((Ur.out k hlt).1 h);have h2:((k:Int)==at9)=false:=by simpa using h3
       go_wp2_with fail;go_meet;exact⟨rfl,rfl⟩
    case rest=>
     obtain⟨rfl,rfl⟩:=hcut;clear nQ hc1;go_wp2_with fail;go_loopw[10,11] (λIy x wr=>∃(j:Nat) (v2:Value),j<=n/\x=af (j:Int)/\v2=Iy/\wr.ownsRow wc.heap.size 39 3 v2 j (dC (Z.take j))/\Bw wc wr) (λ_ x _=>n-(intOf x).toNat);case atStart=>exact⟨0,_,Nat.zero_le _,rfl,rfl,World.ownsRow_nil _ _ _ _,Below.refl _ _⟩
     case round=>
      obtain⟨j,v2,hj,rfl,rfl,ho,hb2⟩:=hrel;by_cases bG:j<n
      . have h1:j<Q.length:=by rw[Hn.out];exact bG
        obtain⟨s,m,e,hx⟩:=oW (Q[j]);have hok:=aeu.out _ (List.getElem_mem h1);rw[hx]at hok;obtain⟨X,hX⟩:=aG (az (s,m,e));have bX:Hid (dC (Z.take (j+1))=dC (Z.take j)++[ag (au (dN X)),ah (nt (dN X).natAbs),af (dE X)]):=by
         show _=_
         rw[<-HZ.out,List.take_succ_eq_append_getElem (by simpa using h1),zD];congr 1;simp only[List.getElem_map,hx,hX];rfl
        obtain⟨b2,o2,fA,p0,p1,p2⟩:=(eH.out.below hb2).num j h1 hx;have kJ:=tL n cq j (j:Int) fA bG rfl;obtain⟨HX,MC,Ho,cw⟩:=dx hX hok ho hb2;have Dx:=hb2.size;have Hp:Hid (bH wr b2 (o2+j*3) [ag s,ah m,af e]):=kv p0 p1 p2;clear hX hok ho hb2 hx fA p0 p1 p2;have Hb:Hid (Bw wr wr):=Below.refl _ _;obtain⟨p0,p1,p2⟩:=Hp.out.w3;go_wp2_with fail;refine(Bd s m e X HX.out _ MC.out).mono ?_;rintro e w5 ⟨rfl,ae⟩;clear p0 p1 p2;replace Hp:=kW Hp ae;obtain⟨p0,p1,p2⟩:=Hp.out.w3;replace Hb:=aB Hb ae;clear ae;obtain⟨W6,nO,ae,Hd⟩:=cd w5 39 [ag (au (dN X)),ah (nt (dN X).natAbs),af (dE X)];clear p0 p1 p2;replace Hp:=kW Hp ae;obtain⟨p0,p1,p2⟩:=Hp.out.w3;obtain⟨d0,d1,d2⟩:=Hd.out.c3;replace Hb:=aB Hb ae;clear ae;have di:=ownsRow_below Ho.out Hb.out;have jR:=Hb.out.size;have hnews:=ic Hd.out;clear d0 d1 d2;go_wp2_with (at_builtin;refine wpList_append_own_at _ rfl _ _ 50 rfl wc.heap.size 39 i0 _ 3 32 Tryz.underlying50 Hi.out dF.out dG.out dm.out rfl zd v2 j (dC (Z.take j)) rfl di ⟨w5.heap.size,0,none⟩ 1 1 [ag (au (dN X)),ah (nt (dN X).natAbs),af (dE X)] rfl rfl hnews zy zx zo zo ?_;intro v' w7 eW fO _ _;obtain⟨g',oQ,rfl⟩:=ownsRow_succ eW);go_roundw;case rel=>
         refine⟨j+1,_,by omega,by go_num,rfl,?_,?_⟩
         . rw[bX.out];exact eW
         . exact(aJ cw.out Hb.out).grown fO zo (λj e=>dz di j e)
        case measure=>simp[intOf];omega
      . obtain rfl:j=n:=by omega
        have lV:Z.take j=Z:=List.take_of_length_le (by rw[<-HZ.out];simp[Hn.out]);rw[lV]at ho;obtain⟨a2,cap2,rfl,jm,fA⟩:=eo ho;have iN:=ho.lt;obtain⟨vals,hvl,hov,nW⟩:=dS.out.below hb2;have Hb:Hid (Bw wr wr):=Below.refl _ _;obtain⟨_,_,tH,_⟩:=dS.out;have hvs:=tH.lt;have hin:∀b o,a2=some ⟨b,o,none⟩->some b≠v.ownBlock/\b<wr.heap.size:=by intro b o e;subst e;have h1:=iN b rfl;refine⟨λh2=>?_,h1.2⟩;have h3:=hvs b h2.symm;omega
        obtain⟨sG,sB,lK,vq,dD,cw⟩:=gW hin jm hvl nW hov hb2;have Dx:=hb2.size;clear hin jm hvl nW hov tH hvs hb2 fA iN lV ho bG hj;obtain⟨W6,nO,ae,Hd⟩:=cd wr 50 [.slice a2 j cap2];have d0:=Hd.out.c1;replace Hb:=aB Hb ae;clear ae;have di:=ownsRow_below dD.out Hb.out;have jR:=Hb.out.size;have hnews:∀i u,([.slice a2 j cap2]:List Value)[i]?=some u->W6.cell? ((⟨wr.heap.size,0,none⟩:Addr).add i)=some u:=ic Hd.out;clear d0;go_wp2_with (at_builtin;refine wpList_append_own_at _ rfl _ _ 48 rfl w.heap.size 50 j0 _ 1 24 Tryz.underlying48 Hj.out jA.out kz.out kC.out rfl zd v k vals rfl di ⟨wr.heap.size,0,none⟩ 1 1 [.slice a2 j cap2] rfl rfl hnews zy zx zo zo ?_;intro v' w7 eW fO _ iE;obtain⟨g',oQ,rfl⟩:=ownsRow_succ eW);go_roundw;case rel=>
         refine⟨k+1,_,by omega,by go_num,rfl,?_,?_⟩
         . refine Own2.push (a:=a2) (c:=cap2) lK.out (w:=W6) ?_ ?_ ?_ ?_ fO iE
           . intro i h;obtain⟨a,c,h1,h2,h3⟩:=vq.out i h;exact⟨a,c,h1,h2.below Hb.out,λb o e=>⟨(h3 b o e).1,Nat.lt_of_lt_of_le (h3 b o e).2 jR⟩⟩
           . rw[ub.out];exact sB.out.below Hb.out
           . exact λb o e=>⟨(sG.out b o e).1,Nat.lt_of_lt_of_le (sG.out b o e).2 jR⟩
           . rw[ub.out,<-HZ.out,List.length_map,Hn.out];exact eW
         . exact(aJ (aJ bu.out cw.out) Hb.out).grown fO zo (λj e=>dz di j e)
        case measure=>simp[intOf];omega
  . obtain rfl:k=L:=by omega
    have hlen:R.length=k:=HRL.out;rw[<-HS.out]at pv;obtain⟨a2,c2,rfl,hcl,pg⟩:=Own2.tbl pv hlen;obtain⟨wT,bu⟩:=aO pg pb;clear pv pb pg hlen;go_wp2;refine bodyPost_ret (results_tmp rfl _ _ _) rfl ⟨a2,c2,rfl,hcl,wT.out,bu.out⟩
theorem ap8 (a:Option Addr)(L cap:Nat)(rows:List (List Raw))(k0:Nat)(pa:Option Addr)(pn uR:Nat)(Pp:List Raw)(w:World)(hL:rows.length=L)(KD:L<=9)(hP:Pp.length=pn)(Ya:pn<=8)(hrow:∀r∈rows,r.length<=8)(ha:cC w a rows)(hp:At w pa (Pp.flatMap bI))
 (hok:∀r∈rows,∀x∈r,dv x) (Lm:∀x∈Pp,dv x):
 Calls Tryz.prog 159 #[.slice a L cap,af (k0:Int),.slice pa pn uR] w λe w'=>∃a' cap',e=.returned (.slice a' L cap')/\L<=cap'/\cC w' a' ((rows.set k0 Pp).map mK)/\Bw w w':=
 ap7 a L cap rows k0 pa pn uR Pp w hL KD hP Ya hrow ha hp hok (λ_=>Lm) _ (λk _=>by omega)
end Go.Proofs.YtoopepmmepmfnaaGreatDoor
