/- Package ogeeref04: Make. -/
import Derived.Test.YtoopepmmepmfnaaGreatDoorZ15
import Derived.Deep.RegionWith
import Derived.Test.YtoopepmmepmfnaaGreatDoorZ9
import Derived.Test.YtoopepmmepmfnaaGreatDoorZ11
import Derived.Test.YtoopepmmepmfnaaGreatDoorZ12
set_option linter.unusedVariables false
set_option linter.unusedSimpArgs false
set_option maxRecDepth 100000
set_option maxHeartbeats 16000000
namespace Go.Proofs.YtoopepmmepmfnaaGreatDoor
open Go.RowKit
attribute [local go_sem ↓] Go.wp_at_zero Go.wp_at_succ
theorem aeT (M:List UInt8)(c:UInt8):(bs (M++[c])).extract 0 M.length=bs M:=by apply ByteArray.ext;unfold bs;rw[ByteArray.data_extract];simp
theorem amd (M:List UInt8)(c:UInt8)(i:Int)(hi:i=M.length)(W:World):
 (Instr.sliceAt 9 (.string (bs (M++[c]))) none (some (.int .i64 i)) none).run Tryz.prog W=.ok (.string (bs M)) W:=by
 subst hi;have h:=run_slice_string_h (P:=Tryz.prog) W 9 (bs (M++[c])) Tryz.underlying9 .i64 M.length zo (by rw[mW];simp<;>omega);simp only[Int.toNat_natCast,aeT M c]at h;simpa[Instr.sliceAt,run_underlying Tryz.underlying9]using h
theorem ae3 (s:Bool)(n:Nat)(e:Int)(h:n%2=1):canon (ar (s,nt n,e))=(s,nt n,e):=by
 have h0:iv s (nt n)≠0:=by rw[lF];split<;>omega
 obtain⟨h1,h2⟩:=LA s (nt n) e h0;have ht:tz n=0:=by have:=ZK 0 (n/2);rw[show 2^0* (2* (n/2)+1)=n by omega]at this;exact this
 rw[ir,ht]at h1 h2;unfold canon;rw[h1,h2];have e1:iv s (nt n)/2^0=iv s (nt n):=by simp
 rw[e1,NY,mF,ir];have e3:(nt n).isEmpty=false:=by
  have:=Ic (n:=n) zo;cases h:nt n with
  |nil=>exact absurd h this
  |cons a b=>rfl
 rw[e3];simp
theorem agi (s:Bool)(l:List UInt8)(n k:Nat)(e:Int)(h:n*2^k=nv l):ar (s,nt n,e+k)=ar (s,l,e):=by
 unfold ar;have e1:iv s l=iv s (nt n) *2^k:=by
  rw[lF];unfold iv;rw[<-h];split
  . rw[Int.neg_mul];simp
  . simp
 simp only[e1];rw[<-qE (iv s (nt n)) k (-(e+k))];congr 1;omega
theorem ak8 {n k v b:Nat}(h:n*2^k=v)(h0:0<v)(hv:v<2^b):k<b/\0<n:=by
 have hn:0<n:=by
  rcases Nat.eq_zero_or_pos n with h1|h1
  . subst h1;simp at h;omega
  . exact h1
 refine⟨?_,hn⟩;rcases Nat.lt_or_ge k b with h1|h1
 . exact h1
 . have h2:=Nat.pow_le_pow_right (show 0<2 by decide) h1;have h3:2^k<=n*2^k:=Nat.le_mul_of_pos_left _ hn;omega
theorem alD (w:World):Calls Tryz.prog 31 #[.int .i64 2] w λe w'=>e=.returned (.agg #[.bool false,.string (bs (nt 2))])/\Bw w w':=Dj 2 w zd
theorem XX {n:Nat}(h:0<n):∃M c,nt n=M++[c]/\M=nt (n/256)/\c.toNat=n%256:=⟨_,_,CW h,rfl,EH n⟩
theorem alz (s:Bool)(l:List UInt8)(e:Int)(w:World)(hl:l.length<=1048576)(h0:nv l=0):
 Calls Tryz.prog 71 #[.agg #[.bool s,.string (bs l)],.int .i64 e] w λr w'=>r=.returned (bH 0)/\Bw w w':=by
 have hf:=λW=>Di s l W zo;simp only[h0,xn,List.isEmpty_nil,Bool.not_true,Bool.and_false]at hf;have Hf:=af hf;have hem:(bs []).toList.isEmpty=true:=by rw[sL];rfl
 clear hf h0;obtain⟨W,bU,Hb,Hm,Hr⟩:=fw w 32 [.bool s,.string (bs l)] 39 [.bool false,.string ⟨#[]⟩,.int .i64 0];obtain⟨m0,uy,m1,rF⟩:=Hm.out.g2;obtain⟨r0,ag,r1,ah,r2,au⟩:=Hr.out.g3;go_enter Tryz.func71,Tryz.ntmps71;go_wp2_with fail;refine(Hf.out _).mono ?_;rintro e w1 ⟨rfl,ae⟩;clear m0 uy m1 rF r0 ag r1 ah r2 au;replace Hm:=kB Hm ae;replace Hr:=kB Hr ae;obtain⟨m0,uy,m1,rF⟩:=Hm.out.g2;obtain⟨r0,ag,r1,ah,r2,au⟩:=Hr.out.g3;replace Hb:=ak Hb ae;clear ae;go_wp2;refine bodyPost_ret (v:=.agg #[.bool false,.string ⟨#[]⟩,.int .i64 0]) (by simp[results,Tryz.results71,go_sem,r0,r1,r2]) rfl ⟨rfl,?_⟩;(repeat first|exact Hb.out| (refine Below.setCell ?_ (by have:=Hb.out.size;first| (dsimp only;omega) | (show _<=_;omega) | (simp<;>omega)) _) |refine Below.drew ?_)
theorem aly (s:Bool)(l:List UInt8)(e:Int)(D:Dyadic)(hD:ar (s,l,e)=D)(w:World)(hl:l.length<=1048576)(he: -1099511627776<=e/\e<=1099511627776)(h0:0<nv l):
 Calls Tryz.prog 71 #[.agg #[.bool s,.string (bs l)],.int .i64 e] w λr w'=>r=.returned (bH D)/\Bw w w':=by
 have hf:=λW=>Di s l W zo;have e3:(nt (nv l)).isEmpty=false:=by
  have:=Ic h0;cases h:nt (nv l)with
  |nil=>exact absurd h this
  |cons a b=>rfl
 rw[e3]at hf;simp only[Bool.not_false,Bool.and_true]at hf;have hvb:=mK l;obtain⟨v,hv⟩:=aB (nv l);rw[hv]at h0 hvb;simp only[hv]at hf;have hup:∀n k:Nat,n*2^k=v->ar (s,nt n,e+k)=D:=λn k h=>by rw[<-hD];exact agi s l n k e (by rw[hv];exact h)
 obtain⟨Bn,TK⟩:=aB (8*l.length);have hpb:∀n k:Nat,n*2^k=v->k<Bn/\0<n:=λn k h=>by rw[<-TK];exact ak8 h h0 hvb
 have hBl:Bn<=8388608:=by omega
 obtain⟨Hf,KA,aZ⟩:=cG hf hup hpb;have aoT:(bs (nt v)).toList.isEmpty=false:=by rw[sL,<-hv];exact e3
 have VS:∀n k:Nat,n*2^k=v->(nt n).length<=1048576:=λn k h=>by refine Nat.le_trans (iq (Nat.lt_of_le_of_lt (Nat.le_mul_of_pos_right n (Nat.pow_pos (n:=k) (show 0<2 by decide))) ?_)) hl;rw[h,<-hv];exact eY l
 have Ro:=af VS;clear hf e3 hvb hup hpb TK hD hv h0 VS;obtain⟨W,bU,Hb,Hm,Hr⟩:=fw w 32 [.bool s,.string (bs l)] 39 [.bool false,.string ⟨#[]⟩,.int .i64 0];obtain⟨m0,uy,m1,rF⟩:=Hm.out.g2;obtain⟨r0,ag,r1,ah,r2,au⟩:=Hr.out.g3;go_enter Tryz.func71,Tryz.ntmps71;go_wp2_with fail;refine(Hf.out _).mono ?_;rintro e w1 ⟨rfl,ae⟩;clear m0 uy m1 rF r0 ag r1 ah r2 au;replace Hm:=kB Hm ae;replace Hr:=kB Hr ae;obtain⟨m0,uy,m1,rF⟩:=Hm.out.g2;obtain⟨r0,ag,r1,ah,r2,au⟩:=Hr.out.g3;replace Hb:=ak Hb ae;clear ae;go_wp2_with fail;clear m0 uy m1 rF r0 ag r1 ah r2 au;first|refine bQ (aY w1 (w.heap.size) 0 [.bool s,.string (bs (nt v))]) bg ?_|refine bP (aY w1 (w.heap.size) 0 [.bool s,.string (bs (nt v))]) bg ?_
 intro w2 hs;replace Hm:=bE Hm hs;replace Hr:=kS Hr hs zo;obtain⟨m0,uy,m1,rF⟩:=Hm.out.g2;obtain⟨r0,ag,r1,ah,r2,au⟩:=Hr.out.g3;replace Hb:=bS Hb hs ZS;clear hs m0 m1 uy rF r0 r1 r2 ag ah au;have lm:=Hm.out.lt;have lr:=Hr.out.lt;go_loopw[1] (λx wr=>∃n k:Nat,n*2^k=v/\x=.int .i64 (e+k)/\aj wr w.heap.size 32 [.bool s,.string (bs (nt n))]/\aj wr (w.heap.size+1) 39 [.bool false,.string ⟨#[]⟩,.int .i64 0]/\Bw w wr) (λx _=>(e+Bn+100-intOf x).toNat);case atStart=>exact⟨v,0,by simp,by simp,Hm.out,Hr.out,Hb.out⟩
 case round=>
  clear Hm Hr Hb;obtain⟨n,k,tu,rfl,hm,hr,hb⟩:=hrel;obtain⟨hk,hn⟩:=aZ.out n k tu;obtain⟨M,c,hM,Fz,hc⟩:=XX hn;obtain⟨Hm,Hr,Hb,ya,HM,Qn⟩:=iD hm hr hb tu hM Fz;have hnl:=Ro.out n k tu;have BR:M.length+1<=1048576:=by rw[hM]at hnl;simpa using hnl
  have m1:wr.cell? ⟨w.heap.size,1,none⟩=some (.string (bs (M++[c]))):=by rw[<-hM];exact hm.cell 1
  have rF:wr.frozen? ⟨w.heap.size,1,none⟩=false:=hm.free 1;have hsz:(bs (M++[c])).size=M.length+1:=by rw[mW];simp
  have fX:=zh (M++[c]) (M.length:Int) M.length zm rfl;have yS:(M++[c])[M.length]'zm=c:=by simp
  rw[yS]at fX;obtain⟨C,hC⟩:=aB c.toNat;rw[hC]at fX hc;have hsl:=amd M c (M.length:Int) rfl;have Hc:=af hc;clear hm hr hb tu hM Fz yS hc hnl;by_cases mX:C=0
  . subst mX;go_wp2;go_roundw;case rel=>
     refine⟨n/256,k+8,?_,by go_num,?_,?_,?_⟩
     . have h1:=Hc.out;have h2:=ya.out;rw[<-h2,Nat.pow_add,show(2:Nat)^8=256 by rfl,Nat.mul_comm (2^k),<-Nat.mul_assoc];congr 1;omega
     . rw[<-Qn.out];exact Hm.out.set 1 _
     . exact Hr.out.arB ⟨w.heap.size,1,none⟩ zp _
     . exact Hb.out.setCell zp _
    case measure=>simp[intOf];omega
  . have TP:((C:Int)==0)=false:=by simp;omega
    go_wp2_with fail;clear m1 rF hsz fX hsl BR TP hC mX;go_loopw[1] (λx wr=>∃n k:Nat,n*2^k=v/\x=.int .i64 (e+k)/\aj wr w.heap.size 32 [.bool s,.string (bs (nt n))]/\aj wr (w.heap.size+1) 39 [.bool false,.string ⟨#[]⟩,.int .i64 0]/\Bw w wr) (λx _=>(e+Bn+100-intOf x).toNat);case atStart=>exact⟨n,k,ya.out,rfl,Hm.out,Hr.out,Hb.out⟩
    case round=>
     clear Hm Hr Hb ya HM Qn Hc hk hn;obtain⟨n,k,tu,rfl,hm,hr,hb⟩:=hrel;obtain⟨hk,hn⟩:=aZ.out n k tu;obtain⟨M,c,hM,Fz,hc⟩:=XX hn;obtain⟨Hr,ya,HM⟩:=cG hr tu hM;have hnl:=Ro.out n k tu;have BR:M.length+1<=1048576:=by rw[hM]at hnl;simpa using hnl
     have Hm:Hid (aj wr w.heap.size 32 [.bool s,.string (bs (M++[c]))]):=by rw[hM]at hm;exact hm
     have m0:wr.cell? ⟨w.heap.size,0,none⟩=some (.bool s):=Hm.out.cell 0;have m1:wr.cell? ⟨w.heap.size,1,none⟩=some (.string (bs (M++[c]))):=Hm.out.cell 1;have hsz:(bs (M++[c])).size=M.length+1:=by rw[mW];simp
     have fX:=zh (M++[c]) (M.length:Int) M.length zm rfl;have yS:(M++[c])[M.length]'zm=c:=by simp
     rw[yS]at fX;obtain⟨C,hC⟩:=aB c.toNat;rw[hC]at fX hc;have aoH:=hb.size;have iH:=af hb;clear hm hr hb tu Fz yS hC;by_cases hev:n%2=0
     . obtain⟨n',rfl⟩:∃n',n=2*n':=⟨n/2,by omega⟩;have Wq:(C:Int)%2=0:=by omega
       have hh:=λW=>alx s n' W zo (Nat.le_trans hnl zd);rw[hM]at hh;have Hh:=af hh;have Hb:Hid (Bw wr wr):=Below.refl _ _;clear hh hM hnl hc;go_wp2_with fail;have lmm:=Hm.out.lt;have lrr:=Hr.out.lt;go_region_with (first| (go_at_call 31;refine(alD _).mono ?_;rintro e3 w3 ⟨rfl,hb3⟩;replace hb3:=aM hb3;have Eg:=af (Hm.out.below hb3);have m03:w3.cell? ⟨w.heap.size,0,none⟩=some (.bool s):=Eg.out.cell 0;have rO:w3.cell? ⟨w.heap.size,1,none⟩=some (.string (bs (M++[c]))):=Eg.out.cell 1) | (go_at_call 118;refine(Hh.out _).mono ?_;rintro e4 w4 ⟨rfl,hb4⟩;have xZ:=af (Eg.out.below hb4);have m04:w4.cell? ⟨w.heap.size,0,none⟩=some (.bool s):=xZ.out.cell 0;have rP:w4.cell? ⟨w.heap.size,1,none⟩=some (.string (bs (M++[c]))):=xZ.out.cell 1;have agC:=xZ.out.free 0;have agD:=xZ.out.free 1))
       all_goals
        have HBm:=af (aH (aH iH.out hb3) hb4)
        have Hm4:=af ((xZ.out.set 0 (.bool s)).set 1 (.string (bs (nt n'))))
        have AP:=af ((((Hr.out.below hb3).below hb4).arB ⟨w.heap.size,0,none⟩ zp (.bool s)).arB ⟨w.heap.size,1,none⟩ zp (.string (bs (nt n'))))
        clear m0 m1 m03 rO m04 rP agC agD Wq fX hb3 hb4 Eg xZ
        go_wp2
        go_roundw
        case rel=>
         refine⟨n',k+1,?_,by go_num,Hm4.out,AP.out,?_⟩
         . rw[<-ya.out,Nat.pow_succ,Nat.mul_comm (2^k) 2,<-Nat.mul_assoc,Nat.mul_comm n' 2]
         . exact(HBm.out.setCell zp _).setCell zp _
        case measure=>simp[intOf];omega
     . have Wq:((C:Int)%2==0)=false:=by simp;omega
       have VX:n%2=1:=by omega
       have hfin:=ae3 s n (e+k) VX;rw[KA.out n k ya.out,HM.out]at hfin;have sw:=af hfin;have r0:wr.cell? ⟨w.heap.size+1,0,none⟩=some (.bool false):=Hr.out.cell 0;have r1:wr.cell? ⟨w.heap.size+1,1,none⟩=some (.string ⟨#[]⟩):=Hr.out.cell 1;have r2:wr.cell? ⟨w.heap.size+1,2,none⟩=some (.int .i64 0):=Hr.out.cell 2;have ag:=Hr.out.free 0;have ah:=Hr.out.free 1;have au:=Hr.out.free 2;clear hM hnl hc VX hfin hev;go_wp2;refine bodyPost_ret (v:=.agg #[.bool s,.string (bs (M++[c])),.int .i64 (e+k)]) (by simp[results,Tryz.results71,go_sem,r0,r1,r2]) rfl ⟨?_,?_⟩
       . have h1:=sw.out;unfold canon at h1;simp only[Prod.mk.injEq]at h1;rw[<-h1.1,<-h1.2.1,<-h1.2.2]
       . exact(((iH.out.setCell zp _).setCell zp _).setCell zp _)
theorem xG (s:Bool)(l:List UInt8)(e:Int)(D:Dyadic)(hD:ar (s,l,e)=D)(w:World)(hl:l.length<=1048576)(he: -1099511627776<=e/\e<=1099511627776):
 Calls Tryz.prog 71 #[.agg #[.bool s,.string (bs l)],.int .i64 e] w λr w'=>r=.returned (bH D)/\Bw w w':=by
 rcases Nat.eq_zero_or_pos (nv l)with h0|h0
 . have:D=0:=by rw[<-hD];exact LB s l e (by unfold iv;rw[h0];split<;>rfl)
   rw[this];exact alz s l e w hl h0
 . exact aly s l e D hD w hl he h0
def dV (x:Raw):Prop:=x.2.1.length<=16384/\ -16384<=x.2.2/\x.2.2<=16384
theorem dV.sm {x:Raw}(h:dV x):Sm 262144 (ar x):=Sm.raw (B:=131072) (by have:=h.1;omega) (by have:=h.2.1;omega) (by have:=h.2.2;omega)
theorem Sm.arC {B:Nat}{d:Dyadic}(h:Sm B d)(hB:B<=16384):dV (canon d):=by obtain⟨h1,h2,h3⟩:=h.parts;exact⟨iB h1 zo,by show-16384<=dE d;omega,by show dE d<=16384;omega⟩
theorem dV.ok {x:Raw}(h:dV x):Ok x:=⟨by have:=h.1;omega,by have:=h.2.1;omega,by have:=h.2.2;omega⟩
theorem zL (s:Bool)(l:List UInt8)(e:Int)(D:Dyadic)(hD:ar (s,l,e)=D)(w:World)(hx:dV (s,l,e)):
 Calls Tryz.prog 90 #[.agg #[.bool s,.string (bs l),.int .i64 e]] w λex w'=>ex=.returned (bH D)/\Bw w w':=by
 have h1:=λW=>xG s l e D hD W (by have:=hx.1;simp only at this;omega) (by have:=hx.2;simp only at this;omega);have H1:=af h1;clear h1 hD hx;obtain⟨W,bU,Hb,Hx,Hr⟩:=fw w 39 [.bool s,.string (bs l),.int .i64 e] 39 [.bool false,.string ⟨#[]⟩,.int .i64 0];obtain⟨x0,x1,x2⟩:=Hx.out.c3;obtain⟨r0,ag,r1,ah,r2,au⟩:=Hr.out.g3;go_enter Tryz.func90,Tryz.ntmps90;go_wp2_with fail;refine(H1.out _).mono ?_;rintro e w1 ⟨rfl,ae⟩;clear x0 x1 x2 r0 ag r1 ah r2 au;replace Hx:=kB Hx ae;replace Hr:=kB Hr ae;obtain⟨x0,x1,x2⟩:=Hx.out.c3;obtain⟨r0,ag,r1,ah,r2,au⟩:=Hr.out.g3;replace Hb:=ak Hb ae;clear ae;go_wp2;clear x0 x1 x2 r0 ag r1 ah r2 au;refine dx (aY w1 (w.heap.size+1) 0 [.bool (ai (dN D)),.string (bs (nt (dN D).natAbs)),.int .i64 (dE D)]) bg ?_;intro w9 hs;replace Hx:=kS Hx hs zo;replace Hr:=bE Hr hs;obtain⟨x0,x1,x2⟩:=Hx.out.c3;obtain⟨r0,ag,r1,ah,r2,au⟩:=Hr.out.g3;replace Hb:=bS Hb hs ZS;clear hs;refine bodyPost_ret (v:=bH D) (by simp[results,Tryz.results90,go_sem,r0,r1,r2]) rfl ⟨rfl,Hb.out⟩
theorem Dl (s:Bool)(l:List UInt8)(e:Int)(g:Int)(hg:aP (ar (s,l,e))=g)(w:World)(hl:l.length<=68719476736):
 Calls Tryz.prog 19 #[.agg #[.bool s,.string (bs l),.int .i64 e]] w λex w'=>ex=.returned (.int .i64 g)/\Bw w w':=by
 have h1:=λW=>alM s l W hl;rw[show dD (iv s l)=g by rw[<-hg];exact Pj s l e]at h1;have H1:=af h1;clear h1 hg hl;obtain⟨W,bU,Hb,Hx⟩:=gL w 39 [.bool s,.string (bs l),.int .i64 e];obtain⟨x0,x1,x2⟩:=Hx.out.c3;go_enter Tryz.func19,Tryz.ntmps19;go_wp2_with fail;refine(H1.out _).mono ?_;rintro e w1 ⟨rfl,ae⟩;clear x0 x1 x2;replace Hx:=kB Hx ae;obtain⟨x0,x1,x2⟩:=Hx.out.c3;replace Hb:=ak Hb ae;clear ae;go_wp2;go_ret;exact⟨rfl,Hb.out⟩
theorem alC (s:Bool)(l:List UInt8)(e:Int)(D:Dyadic)(hD: -ar (s,l,e)=D)(w:World)(hx:dV (s,l,e)):
 Calls Tryz.prog 125 #[.agg #[.bool s,.string (bs l),.int .i64 e]] w λex w'=>ex=.returned (bH D)/\Bw w w':=by
 obtain⟨Z,hZ⟩:=aB (-iv s l);have hl:(nt Z.natAbs).length<=16384:=by
  have:Z.natAbs=nv l:=by rw[<-hZ,Int.natAbs_neg,mF]
  rw[this];exact Nat.le_trans (iq (k:=l.length) (eY l)) hx.1
 have h1:=λW=>alB s l Z hZ W (by have:=hx.1;simp only at this;omega);have h2:=λW=>xG (ai Z) (nt Z.natAbs) e D (by rw[sO,<-hZ,<-hD];unfold ar;rw[Da]) W zo (by have:=hx.2;simp only at this;omega);obtain⟨H1,H2⟩:=aI h1 h2;clear h1 h2 hD hZ hl hx;generalize ai Z=t at*;generalize nt Z.natAbs=m at*;obtain⟨W,bU,Hb,Hx,Hr⟩:=fw w 39 [.bool s,.string (bs l),.int .i64 e] 39 [.bool false,.string ⟨#[]⟩,.int .i64 0];obtain⟨x0,x1,x2⟩:=Hx.out.c3;obtain⟨r0,ag,r1,ah,r2,au⟩:=Hr.out.g3;go_enter Tryz.func125,Tryz.ntmps125;go_wp2_with fail;refine bW (λw'=>w'.cell? ⟨w.heap.size,0,none⟩=some (.bool s)/\w'.cell? ⟨w.heap.size,1,none⟩=some (.string (bs l))/\w'.cell? ⟨w.heap.size,2,none⟩=some (.int .i64 e)) (λi=>Nat.blt i 6) [(0,true),(1,true),(3,true),(4,true),(2,false),(5,false),(6,false)] zk zk rfl zk zc ⟨x0,x1,x2⟩ ?_;iterate 4 (refine pT rfl rfl ?_ (by intro w' ⟨q0,q1,q2⟩;go_simp;try with_reducible rfl);try simp only[UU])
 refine aC rfl rfl (λK hK=>?_);go_simp;with_reducible refine(H1.out _).mono ?_
 rintro e w1 ⟨rfl,hq⟩;have ae:Bw W w1:=by first|exact hq|exact aM hq
 clear x0 x1 x2 r0 ag r1 ah r2 au;replace Hx:=kB Hx ae;replace Hr:=kB Hr ae;obtain⟨x0,x1,x2⟩:=Hx.out.c3;obtain⟨r0,ag,r1,ah,r2,au⟩:=Hr.out.g3;replace Hb:=ak Hb ae;clear ae;refine hK _ _ (λ_=>⟨x0,x1,x2⟩) ?_;clear hK K;try simp only[UU]
 refine aC rfl rfl (λK hK=>?_);go_simp;with_reducible refine(H2.out _).mono ?_
 rintro e w2 ⟨rfl,hq⟩;have ae:Bw w1 w2:=by first|exact hq|exact aM hq
 clear x0 x1 x2 r0 ag r1 ah r2 au;replace Hx:=kB Hx ae;replace Hr:=kB Hr ae;obtain⟨x0,x1,x2⟩:=Hx.out.c3;obtain⟨r0,ag,r1,ah,r2,au⟩:=Hr.out.g3;replace Hb:=ak Hb ae;clear ae;refine hK _ _ (λ_=>⟨x0,x1,x2⟩) ?_;clear hK K;try simp only[UU]
 refine aC rfl rfl (λK hK=>?_);go_simp;refine hK _ _ (λh=>absurd h zd) ?_;clear hK K;try simp only[UU]
 clear x0 x1 x2 r0 ag r1 ah r2 au;refine bI (aY w2 (w.heap.size+1) 0 [.bool (ai (dN D)),.string (bs (nt (dN D).natAbs)),.int .i64 (dE D)]) bg ?_;intro w9 hs;replace Hx:=kS Hx hs zo;replace Hr:=bE Hr hs;obtain⟨x0,x1,x2⟩:=Hx.out.c3;obtain⟨r0,ag,r1,ah,r2,au⟩:=Hr.out.g3;replace Hb:=bS Hb hs ZS;clear hs;simp only[aV];go_wp2;refine bodyPost_ret (v:=bH D) (by simp[results,Tryz.results125,go_sem,r0,r1,r2]) rfl ⟨rfl,?_⟩;(repeat first|exact Hb.out| (refine Below.setCell ?_ (by have:=Hb.out.size;first| (dsimp only;omega) | (show _<=_;omega) | (simp<;>omega)) _) | (refine Below.alloc ?_ zt _) |refine Below.drew ?_)
theorem alR (s:Bool)(l:List UInt8)(e:Int)(t:Bool)(m:List UInt8)(f:Int)(D:Dyadic)(hD:ar (s,l,e) *ar (t,m,f)=D)(w:World)(hx:dV (s,l,e))(hy:dV (t,m,f)):
 Calls Tryz.prog 51 #[.agg #[.bool s,.string (bs l),.int .i64 e],.agg #[.bool t,.string (bs m),.int .i64 f]] w λex w'=>ex=.returned (bH D)/\Bw w w':=by
 obtain⟨Z,hZ⟩:=aB (iv s l*iv t m);have hx1:l.length<=16384:=hx.1;have hy1:m.length<=16384:=hy.1;have hx2: -16384<=e/\e<=16384:=hx.2;have hy2: -16384<=f/\f<=16384:=hy.2;have hl:(nt Z.natAbs).length<=32768:=by
  have:Z.natAbs=nv l*nv m:=by rw[<-hZ,Int.natAbs_mul,mF,mF]
  rw[this];exact Nat.le_trans (XY l m) zo
 have h1:=λW=>alQ s l t m Z hZ W zo zo;have h2:=λW=>xG (ai Z) (nt Z.natAbs) (e+f) D (by rw[sO,<-hZ,<-hD];unfold ar;rw[tP,show-(e+f)= -e+ -f by omega]) W zo zo;obtain⟨H1,H2⟩:=aI h1 h2;have hwr:IntKind.i64.wrap (e+f)=e+f:=by rw[IntKind.wrap_i64];omega
 clear h1 h2 hD hZ hl hx hy hx1 hy1;generalize ai Z=v at*;generalize nt Z.natAbs=n at*;obtain⟨W,bU,Hb,Hx,Hy,Hr⟩:=nz w 39 [.bool s,.string (bs l),.int .i64 e] 39 [.bool t,.string (bs m),.int .i64 f] 39 [.bool false,.string ⟨#[]⟩,.int .i64 0];obtain⟨x0,x1,x2⟩:=Hx.out.c3;obtain⟨y0,y1,y2⟩:=Hy.out.c3;obtain⟨r0,ag,r1,ah,r2,au⟩:=Hr.out.g3;go_enter Tryz.func51,Tryz.ntmps51;go_wp2_with fail;refine bW (λw'=>w'.cell? ⟨w.heap.size,0,none⟩=some (.bool s)/\w'.cell? ⟨w.heap.size,1,none⟩=some (.string (bs l))/\w'.cell? ⟨w.heap.size,2,none⟩=some (.int .i64 e)/\w'.cell? ⟨w.heap.size+1,0,none⟩=some (.bool t)/\w'.cell? ⟨w.heap.size+1,1,none⟩=some (.string (bs m))/\w'.cell? ⟨w.heap.size+1,2,none⟩=some (.int .i64 f)) (λi=>Nat.blt i 11) [(0,true),(1,true),(2,true),(3,true),(5,true),(6,true),(7,true),(8,true),(9,true),(4,false),(10,false),(11,false)] zk zk rfl zk zc ⟨x0,x1,x2,y0,y1,y2⟩ ?_;iterate 9 (refine pT rfl rfl ?_ (by intro w' ⟨q0,q1,q2,q3,q4,q5⟩;go_simp;try with_reducible rfl);try simp only[UU])
 refine aC rfl rfl (λK hK=>?_);go_simp;with_reducible refine(H1.out _).mono ?_
 rintro e w1 ⟨rfl,hq⟩;have ae:Bw W w1:=by first|exact hq|exact aM hq
 clear x0 x1 x2 y0 y1 y2 r0 ag r1 ah r2 au;replace Hx:=kB Hx ae;replace Hy:=kB Hy ae;replace Hr:=kB Hr ae;obtain⟨x0,x1,x2⟩:=Hx.out.c3;obtain⟨y0,y1,y2⟩:=Hy.out.c3;obtain⟨r0,ag,r1,ah,r2,au⟩:=Hr.out.g3;replace Hb:=ak Hb ae;clear ae;refine hK _ _ (λ_=>⟨x0,x1,x2,y0,y1,y2⟩) ?_;clear hK K;try simp only[UU]
 refine aC rfl rfl (λK hK=>?_);go_simp;with_reducible refine(H2.out _).mono ?_
 rintro e w2 ⟨rfl,hq⟩;have ae:Bw w1 w2:=by first|exact hq|exact aM hq
 clear x0 x1 x2 y0 y1 y2 r0 ag r1 ah r2 au;replace Hx:=kB Hx ae;replace Hy:=kB Hy ae;replace Hr:=kB Hr ae;obtain⟨x0,x1,x2⟩:=Hx.out.c3;obtain⟨y0,y1,y2⟩:=Hy.out.c3;obtain⟨r0,ag,r1,ah,r2,au⟩:=Hr.out.g3;replace Hb:=ak Hb ae;clear ae;refine hK _ _ (λ_=>⟨x0,x1,x2,y0,y1,y2⟩) ?_;clear hK K;try simp only[UU]
 refine aC rfl rfl (λK hK=>?_);go_simp;refine hK _ _ (λh=>absurd h zd) ?_;clear hK K;try simp only[UU]
 clear x0 x1 x2 y0 y1 y2 r0 ag r1 ah r2 au;refine bI (aY w2 (w.heap.size+1+1) 0 [.bool (ai (dN D)),.string (bs (nt (dN D).natAbs)),.int .i64 (dE D)]) bg ?_;intro w9 hs;replace Hx:=kS Hx hs zo;replace Hy:=kS Hy hs zo;replace Hr:=bE Hr hs;obtain⟨x0,x1,x2⟩:=Hx.out.c3;obtain⟨y0,y1,y2⟩:=Hy.out.c3;obtain⟨r0,ag,r1,ah,r2,au⟩:=Hr.out.g3;replace Hb:=bS Hb hs ZS;clear hs;simp only[aV];go_wp2;refine bodyPost_ret (v:=bH D) (by simp[results,Tryz.results51,go_sem,r0,r1,r2]) rfl ⟨rfl,?_⟩;(repeat first|exact Hb.out| (refine Below.setCell ?_ (by have:=Hb.out.size;first| (dsimp only;omega) | (show _<=_;omega) | (simp<;>omega)) _) | (refine Below.alloc ?_ zt _) |refine Below.drew ?_)
theorem YH (s:Bool)(l:List UInt8)(e n:Int)(D:Dyadic)(hD:ar (s,l,e+n)=D)(w:World)(hx:dV (s,l,e))(hn: -16384<=n/\n<=16384):
 Calls Tryz.prog 50 #[.agg #[.bool s,.string (bs l),.int .i64 e],.int .i64 n] w λex w'=>ex=.returned (bH D)/\Bw w w':=by
 have hx1:l.length<=16384:=hx.1;have hx2: -16384<=e/\e<=16384:=hx.2;have h1:=λW=>xG s l (e+n) D hD W zo zo;have H1:=af h1;have hwr:IntKind.i64.wrap (e+n)=e+n:=by rw[IntKind.wrap_i64];omega
 clear h1 hD hx hx1;obtain⟨W,bU,Hb,Hx,Hr⟩:=fw w 39 [.bool s,.string (bs l),.int .i64 e] 39 [.bool false,.string ⟨#[]⟩,.int .i64 0];obtain⟨x0,x1,x2⟩:=Hx.out.c3;obtain⟨r0,ag,r1,ah,r2,au⟩:=Hr.out.g3;go_enter Tryz.func50,Tryz.ntmps50;go_wp2_with fail;refine(H1.out _).mono ?_;rintro e w1 ⟨rfl,ae⟩;clear x0 x1 x2 r0 ag r1 ah r2 au;replace Hx:=kB Hx ae;replace Hr:=kB Hr ae;obtain⟨x0,x1,x2⟩:=Hx.out.c3;obtain⟨r0,ag,r1,ah,r2,au⟩:=Hr.out.g3;replace Hb:=ak Hb ae;clear ae;go_wp2;clear x0 x1 x2 r0 ag r1 ah r2 au;refine dx (aY w1 (w.heap.size+1) 0 [.bool (ai (dN D)),.string (bs (nt (dN D).natAbs)),.int .i64 (dE D)]) bg ?_;intro w9 hs;replace Hx:=kS Hx hs zo;replace Hr:=bE Hr hs;obtain⟨x0,x1,x2⟩:=Hx.out.c3;obtain⟨r0,ag,r1,ah,r2,au⟩:=Hr.out.g3;replace Hb:=bS Hb hs ZS;clear hs;refine bodyPost_ret (v:=bH D) (by simp[results,Tryz.results50,go_sem,r0,r1,r2]) rfl ⟨rfl,Hb.out⟩
theorem Ya (n:Nat):n<256^(nt n).length:=by have:=eY (nt n);rwa [ir]at this
theorem ak5 (A C S:Dyadic)(hS:A+C=S)(p:Nat)(hp:dE A-dE C=(p:Int))(Z1 Z:Int)(h1:dN A*2^p=Z1)(h2:Z1+dN C=Z):ar (ai Z,nt Z.natAbs,dE C)=S:=by
 rw[sO,<-h2,<-h1,<-xu,<-hS];congr 1
 . have:=qE (dN A) p (-(dE A));rw[show-(dE C)= -(dE A)+(p:Int)by omega,this];exact(rT A).symm
 . exact(rT C).symm
theorem Pb (s:Bool)(l:List UInt8)(e:Int)(t:Bool)(m:List UInt8)(f:Int)(S:Dyadic)(hS:ar (s,l,e)+ar (t,m,f)=S)(w:World)(hx:dV (s,l,e))(hy:dV (t,m,f)):
 Calls Tryz.prog 49 #[.agg #[.bool s,.string (bs l),.int .i64 e],.agg #[.bool t,.string (bs m),.int .i64 f]] w λex w'=>ex=.returned (bH S)/\Bw w w':=by
 obtain⟨A,hA⟩:=aB (ar (s,l,e));obtain⟨C,hC⟩:=aB (ar (t,m,f));have lj:=hx.sm;have yD:=hy.sm;rw[hA]at lj;rw[hC]at yD;obtain⟨a1,a2,a3⟩:=lj.parts;obtain⟨c1,c2,c3⟩:=yD.parts;have la:(nt (dN A).natAbs).length<=65536:=iB a1 zo;have lc:(nt (dN C).natAbs).length<=65536:=iB c1 zo;have jf:=λW=>zL s l e A hA W hx;have pV:=λW=>zL t m f C hC W hy;rw[hA,hC]at hS;have uO:=λW=>Dl (ai (dN A)) (nt (dN A).natAbs) (dE A) (aP A) (by show aP (ar (canon A))=_;rw[bL]) W zo;have wV:=λW=>Dl (ai (dN C)) (nt (dN C).natAbs) (dE C) (aP C) (by show aP (ar (canon C))=_;rw[bL]) W zo;have yO:(aP A==0)=true↔A=0:=by rw[<-Bool.not_eq_false];rw[BA];simp
 have yP:(aP C==0)=true↔C=0:=by rw[<-Bool.not_eq_false];rw[BA];simp
 have hpl:=λ(A C:Dyadic) (hS:A+C=S) (hA1:(nt (dN A).natAbs).length<=65536) (TP:(nt (dN C).natAbs).length<=65536) (p:Nat) (hp:dE A-dE C=(p:Int)) (CE:p<=524288) (Mg: -262144<=dE C/\dE C<=262144)=>(show ∃Z1 Z:Int,(∀W,Calls Tryz.prog 91 #[.agg #[.bool (ai (dN A)),.string (bs (nt (dN A).natAbs))],.int .i64 (p:Int)] W λe w'=>e=.returned (.agg #[.bool (ai Z1),.string (bs (nt Z1.natAbs))])/\Bw W w')/\(∀W,Calls Tryz.prog 39 #[.agg #[.bool (ai Z1),.string (bs (nt Z1.natAbs))],.agg #[.bool (ai (dN C)),.string (bs (nt (dN C).natAbs))]] W λe w'=>e=.returned (.agg #[.bool (ai Z),.string (bs (nt Z.natAbs))])/\Bw W w')/\(∀W,Calls Tryz.prog 71 #[.agg #[.bool (ai Z),.string (bs (nt Z.natAbs))],.int .i64 (dE C)] W λe w'=>e=.returned (bH S)/\Bw W w')from by
  obtain⟨Z1,h1⟩:=aB (dN A*2^p);obtain⟨Z,h2⟩:=aB (Z1+dN C);have l1:(nt Z1.natAbs).length<=589824:=by
   have e1:Z1.natAbs=nv (nt (dN A).natAbs) *2^p:=by rw[<-h1,Int.natAbs_mul,ir];simp[Int.natAbs_pow]
   rw[e1];exact Nat.le_trans (XZ _ p) zo
  have l2:(nt Z.natAbs).length<=589825:=by
   obtain⟨K,hK⟩:=aB (589824);rw[hK]at l1;have lcK:(nt (dN C).natAbs).length<=K:=by omega
   have hle:(nt Z.natAbs).length<=K+1:=by
    refine iq ?_;have b1:Z1.natAbs<256^K:=Nat.lt_of_lt_of_le (Ya _) (Nat.pow_le_pow_right zd l1);have b2:(dN C).natAbs<256^K:=Nat.lt_of_lt_of_le (Ya _) (Nat.pow_le_pow_right zd lcK);have b3:Z.natAbs<=Z1.natAbs+(dN C).natAbs:=by rw[<-h2];exact Int.natAbs_add_le _ _
    rw[Nat.pow_succ];omega
   omega
  refine⟨Z1,Z,λW=>alK _ _ p Z1 (by rw[dI];exact h1) W zo zo,λW=>alG _ _ _ _ Z (by rw[dI,dI];exact h2) W zo zo,λW=>xG _ _ (dE C) S (ak5 A C S hS p hp Z1 Z h1 h2) W zo zo⟩)
 have wT:=hpl;by_cases rG:A=0
 . have zA:=yO.2 rG;have Mh:C=S:=by rw[<-hS,rG];grind
   subst Mh;obtain⟨mR,oP,vP⟩:=cG jf pV uO;clear jf pV uO wV hpl wT yO yP rG hA hC hS lj yD a1 a2 a3 c1 c2 c3 la lc hx hy;obtain⟨W,bU,Hb,Hx,Hy,Hr⟩:=nz w 39 [.bool s,.string (bs l),.int .i64 e] 39 [.bool t,.string (bs m),.int .i64 f] 39 [.bool false,.string ⟨#[]⟩,.int .i64 0];obtain⟨x0,aK,x1,aL,x2,aN⟩:=Hx.out.g3;obtain⟨y0,aQ,y1,aR,y2,aS⟩:=Hy.out.g3;obtain⟨r0,ag,r1,ah,r2,au⟩:=Hr.out.g3;go_enter Tryz.func49,Tryz.ntmps49;go_wp2_with fail;refine bW (λw'=>w'.cell? ⟨w.heap.size,0,none⟩=some (.bool s)/\w'.cell? ⟨w.heap.size,1,none⟩=some (.string (bs l))/\w'.cell? ⟨w.heap.size,2,none⟩=some (.int .i64 e)/\w'.cell? ⟨w.heap.size+1,0,none⟩=some (.bool t)/\w'.cell? ⟨w.heap.size+1,1,none⟩=some (.string (bs m))/\w'.cell? ⟨w.heap.size+1,2,none⟩=some (.int .i64 f)) (λi=>Nat.blt i 4) [(0,true),(2,true),(1,false),(3,false),(4,false),(5,false)] zk zk rfl zk zc ⟨x0,x1,x2,y0,y1,y2⟩ ?_;iterate 2 (refine pT rfl rfl ?_ (by intro w' ⟨q0,q1,q2,q3,q4,q5⟩;go_simp;try with_reducible rfl);try simp only[UU])
   refine aC rfl rfl (λK hK=>?_);go_simp;with_reducible refine(mR.out _).mono ?_
   rintro e w1 ⟨rfl,hq⟩;have ae:Bw W w1:=by first|exact hq|exact aM hq
   clear x0 aK x1 aL x2 aN y0 aQ y1 aR y2 aS r0 ag r1 ah r2 au;replace Hx:=kB Hx ae;replace Hy:=kB Hy ae;replace Hr:=kB Hr ae;obtain⟨x0,aK,x1,aL,x2,aN⟩:=Hx.out.g3;obtain⟨y0,aQ,y1,aR,y2,aS⟩:=Hy.out.g3;obtain⟨r0,ag,r1,ah,r2,au⟩:=Hr.out.g3;replace Hb:=ak Hb ae;clear ae;refine hK _ _ (λ_=>⟨x0,x1,x2,y0,y1,y2⟩) ?_;clear hK K;try simp only[UU]
   refine aC rfl rfl (λK hK=>?_);go_simp;with_reducible refine(oP.out _).mono ?_
   rintro e w2 ⟨rfl,hq⟩;have ae:Bw w1 w2:=by first|exact hq|exact aM hq
   clear x0 aK x1 aL x2 aN y0 aQ y1 aR y2 aS r0 ag r1 ah r2 au;replace Hx:=kB Hx ae;replace Hy:=kB Hy ae;replace Hr:=kB Hr ae;obtain⟨x0,aK,x1,aL,x2,aN⟩:=Hx.out.g3;obtain⟨y0,aQ,y1,aR,y2,aS⟩:=Hy.out.g3;obtain⟨r0,ag,r1,ah,r2,au⟩:=Hr.out.g3;replace Hb:=ak Hb ae;clear ae;refine hK _ _ (λ_=>⟨x0,x1,x2,y0,y1,y2⟩) ?_;clear hK K;try simp only[UU]
   refine aC rfl rfl (λK hK=>?_);go_simp;refine hK _ _ (λh=>absurd h zd) ?_;clear hK K;try simp only[UU]
   clear x0 aK x1 aL x2 aN y0 aQ y1 aR y2 aS r0 ag r1 ah r2 au;refine bI (aY w2 (w.heap.size) 0 [.bool (ai (dN A)),.string (bs (nt (dN A).natAbs)),.int .i64 (dE A)]) bg ?_;intro w3 hs;replace Hx:=bE Hx hs;replace Hy:=kS Hy hs zo;replace Hr:=kS Hr hs zo;obtain⟨x0,aK,x1,aL,x2,aN⟩:=Hx.out.g3;obtain⟨y0,aQ,y1,aR,y2,aS⟩:=Hy.out.g3;obtain⟨r0,ag,r1,ah,r2,au⟩:=Hr.out.g3;replace Hb:=bS Hb hs ZS;clear hs;refine aC rfl rfl (λK hK=>?_);go_simp;refine hK _ _ (λh=>absurd h zd) ?_;clear hK K;try simp only[UU]
   clear x0 aK x1 aL x2 aN y0 aQ y1 aR y2 aS r0 ag r1 ah r2 au;refine bI (aY w3 (w.heap.size+1) 0 [.bool (ai (dN C)),.string (bs (nt (dN C).natAbs)),.int .i64 (dE C)]) bg ?_;intro w4 hs;replace Hx:=kS Hx hs zo;replace Hy:=bE Hy hs;replace Hr:=kS Hr hs zo;obtain⟨x0,aK,x1,aL,x2,aN⟩:=Hx.out.g3;obtain⟨y0,aQ,y1,aR,y2,aS⟩:=Hy.out.g3;obtain⟨r0,ag,r1,ah,r2,au⟩:=Hr.out.g3;replace Hb:=bS Hb hs ZS;clear hs;simp only[aV];go_wp2_with fail;refine(vP.out _).mono ?_;rintro e w5 ⟨rfl,ae⟩;clear x0 aK x1 aL x2 aN y0 aQ y1 aR y2 aS r0 ag r1 ah r2 au;replace Hx:=kB Hx ae;replace Hy:=kB Hy ae;replace Hr:=kB Hr ae;obtain⟨x0,aK,x1,aL,x2,aN⟩:=Hx.out.g3;obtain⟨y0,aQ,y1,aR,y2,aS⟩:=Hy.out.g3;obtain⟨r0,ag,r1,ah,r2,au⟩:=Hr.out.g3;replace Hb:=ak Hb ae;clear ae;go_wp2;clear x0 aK x1 aL x2 aN y0 aQ y1 aR y2 aS r0 ag r1 ah r2 au;refine dx (aY w5 (w.heap.size+1+1) 0 [.bool (ai (dN C)),.string (bs (nt (dN C).natAbs)),.int .i64 (dE C)]) bg ?_;intro w9 hs;replace Hx:=kS Hx hs zo;replace Hy:=kS Hy hs zo;replace Hr:=bE Hr hs;obtain⟨x0,aK,x1,aL,x2,aN⟩:=Hx.out.g3;obtain⟨y0,aQ,y1,aR,y2,aS⟩:=Hy.out.g3;obtain⟨r0,ag,r1,ah,r2,au⟩:=Hr.out.g3;replace Hb:=bS Hb hs ZS;clear hs;refine bodyPost_ret (v:=bH C) (by simp[results,Tryz.results49,go_sem,r0,r1,r2]) rfl ⟨rfl,Hb.out⟩
 have zA:(aP A==0)=false:=by rw[<-Bool.not_eq_true];exact λh=>rG (yO.1 h)
 by_cases mX:C=0
 . have zC:=yP.2 mX;have Mh:A=S:=by rw[<-hS,mX];grind
   subst Mh;obtain⟨mR,oP,vP,AU⟩:=cQ jf pV uO wV;clear jf pV uO wV hpl wT yO yP rG mX hA hC hS lj yD a1 a2 a3 c1 c2 c3 la lc hx hy;obtain⟨W,bU,Hb,Hx,Hy,Hr⟩:=nz w 39 [.bool s,.string (bs l),.int .i64 e] 39 [.bool t,.string (bs m),.int .i64 f] 39 [.bool false,.string ⟨#[]⟩,.int .i64 0];obtain⟨x0,aK,x1,aL,x2,aN⟩:=Hx.out.g3;obtain⟨y0,aQ,y1,aR,y2,aS⟩:=Hy.out.g3;obtain⟨r0,ag,r1,ah,r2,au⟩:=Hr.out.g3;go_enter Tryz.func49,Tryz.ntmps49;go_wp2_with fail;refine bW (λw'=>w'.cell? ⟨w.heap.size,0,none⟩=some (.bool s)/\w'.cell? ⟨w.heap.size,1,none⟩=some (.string (bs l))/\w'.cell? ⟨w.heap.size,2,none⟩=some (.int .i64 e)/\w'.cell? ⟨w.heap.size+1,0,none⟩=some (.bool t)/\w'.cell? ⟨w.heap.size+1,1,none⟩=some (.string (bs m))/\w'.cell? ⟨w.heap.size+1,2,none⟩=some (.int .i64 f)) (λi=>Nat.blt i 4) [(0,true),(2,true),(1,false),(3,false),(4,false),(5,false)] zk zk rfl zk zc ⟨x0,x1,x2,y0,y1,y2⟩ ?_;iterate 2 (refine pT rfl rfl ?_ (by intro w' ⟨q0,q1,q2,q3,q4,q5⟩;go_simp;try with_reducible rfl);try simp only[UU])
   refine aC rfl rfl (λK hK=>?_);go_simp;with_reducible refine(mR.out _).mono ?_
   rintro e w1 ⟨rfl,hq⟩;have ae:Bw W w1:=by first|exact hq|exact aM hq
   clear x0 aK x1 aL x2 aN y0 aQ y1 aR y2 aS r0 ag r1 ah r2 au;replace Hx:=kB Hx ae;replace Hy:=kB Hy ae;replace Hr:=kB Hr ae;obtain⟨x0,aK,x1,aL,x2,aN⟩:=Hx.out.g3;obtain⟨y0,aQ,y1,aR,y2,aS⟩:=Hy.out.g3;obtain⟨r0,ag,r1,ah,r2,au⟩:=Hr.out.g3;replace Hb:=ak Hb ae;clear ae;refine hK _ _ (λ_=>⟨x0,x1,x2,y0,y1,y2⟩) ?_;clear hK K;try simp only[UU]
   refine aC rfl rfl (λK hK=>?_);go_simp;with_reducible refine(oP.out _).mono ?_
   rintro e w2 ⟨rfl,hq⟩;have ae:Bw w1 w2:=by first|exact hq|exact aM hq
   clear x0 aK x1 aL x2 aN y0 aQ y1 aR y2 aS r0 ag r1 ah r2 au;replace Hx:=kB Hx ae;replace Hy:=kB Hy ae;replace Hr:=kB Hr ae;obtain⟨x0,aK,x1,aL,x2,aN⟩:=Hx.out.g3;obtain⟨y0,aQ,y1,aR,y2,aS⟩:=Hy.out.g3;obtain⟨r0,ag,r1,ah,r2,au⟩:=Hr.out.g3;replace Hb:=ak Hb ae;clear ae;refine hK _ _ (λ_=>⟨x0,x1,x2,y0,y1,y2⟩) ?_;clear hK K;try simp only[UU]
   refine aC rfl rfl (λK hK=>?_);go_simp;refine hK _ _ (λh=>absurd h zd) ?_;clear hK K;try simp only[UU]
   clear x0 aK x1 aL x2 aN y0 aQ y1 aR y2 aS r0 ag r1 ah r2 au;refine bI (aY w2 (w.heap.size) 0 [.bool (ai (dN A)),.string (bs (nt (dN A).natAbs)),.int .i64 (dE A)]) bg ?_;intro w3 hs;replace Hx:=bE Hx hs;replace Hy:=kS Hy hs zo;replace Hr:=kS Hr hs zo;obtain⟨x0,aK,x1,aL,x2,aN⟩:=Hx.out.g3;obtain⟨y0,aQ,y1,aR,y2,aS⟩:=Hy.out.g3;obtain⟨r0,ag,r1,ah,r2,au⟩:=Hr.out.g3;replace Hb:=bS Hb hs ZS;clear hs;refine aC rfl rfl (λK hK=>?_);go_simp;refine hK _ _ (λh=>absurd h zd) ?_;clear hK K;try simp only[UU]
   clear x0 aK x1 aL x2 aN y0 aQ y1 aR y2 aS r0 ag r1 ah r2 au;refine bI (aY w3 (w.heap.size+1) 0 [.bool (ai (dN C)),.string (bs (nt (dN C).natAbs)),.int .i64 (dE C)]) bg ?_;intro w4 hs;replace Hx:=kS Hx hs zo;replace Hy:=bE Hy hs;replace Hr:=kS Hr hs zo;obtain⟨x0,aK,x1,aL,x2,aN⟩:=Hx.out.g3;obtain⟨y0,aQ,y1,aR,y2,aS⟩:=Hy.out.g3;obtain⟨r0,ag,r1,ah,r2,au⟩:=Hr.out.g3;replace Hb:=bS Hb hs ZS;clear hs;simp only[aV];go_wp2_with fail;refine(vP.out _).mono ?_;rintro e w5 ⟨rfl,ae⟩;clear x0 aK x1 aL x2 aN y0 aQ y1 aR y2 aS r0 ag r1 ah r2 au;replace Hx:=kB Hx ae;replace Hy:=kB Hy ae;replace Hr:=kB Hr ae;obtain⟨x0,aK,x1,aL,x2,aN⟩:=Hx.out.g3;obtain⟨y0,aQ,y1,aR,y2,aS⟩:=Hy.out.g3;obtain⟨r0,ag,r1,ah,r2,au⟩:=Hr.out.g3;replace Hb:=ak Hb ae;clear ae;go_wp2_with fail;refine(AU.out _).mono ?_;rintro e w6 ⟨rfl,ae⟩;clear x0 aK x1 aL x2 aN y0 aQ y1 aR y2 aS r0 ag r1 ah r2 au;replace Hx:=kB Hx ae;replace Hy:=kB Hy ae;replace Hr:=kB Hr ae;obtain⟨x0,aK,x1,aL,x2,aN⟩:=Hx.out.g3;obtain⟨y0,aQ,y1,aR,y2,aS⟩:=Hy.out.g3;obtain⟨r0,ag,r1,ah,r2,au⟩:=Hr.out.g3;replace Hb:=ak Hb ae;clear ae;go_wp2;clear x0 aK x1 aL x2 aN y0 aQ y1 aR y2 aS r0 ag r1 ah r2 au;refine dx (aY w6 (w.heap.size+1+1) 0 [.bool (ai (dN A)),.string (bs (nt (dN A).natAbs)),.int .i64 (dE A)]) bg ?_;intro w9 hs;replace Hx:=kS Hx hs zo;replace Hy:=kS Hy hs zo;replace Hr:=bE Hr hs;obtain⟨x0,aK,x1,aL,x2,aN⟩:=Hx.out.g3;obtain⟨y0,aQ,y1,aR,y2,aS⟩:=Hy.out.g3;obtain⟨r0,ag,r1,ah,r2,au⟩:=Hr.out.g3;replace Hb:=bS Hb hs ZS;clear hs;refine bodyPost_ret (v:=bH A) (by simp[results,Tryz.results49,go_sem,r0,r1,r2]) rfl ⟨rfl,Hb.out⟩
 have zC:(aP C==0)=false:=by rw[<-Bool.not_eq_true];exact λh=>mX (yP.1 h)
 by_cases hEE:dE A<dE C
 . obtain⟨p,hp⟩:∃p:Nat,dE C-dE A=(p:Int):=⟨(dE C-dE A).toNat,by omega⟩;obtain⟨Z1,Z,g1,g2,g3⟩:=hpl C A (by rw[<-hS];grind) lc la p hp zo zo;have hwr:IntKind.i64.wrap (dE C-dE A)=(p:Int):=by rw[IntKind.wrap_i64];omega
   obtain⟨mR,oP,vP,AU,G1,G2,G3⟩:=iV jf pV uO wV g1 g2 g3;clear jf pV uO wV hpl wT yO yP rG mX hA hC hS lj yD a1 a2 a3 c1 c2 c3 la lc hx hy g1 g2 g3 hp;obtain⟨W,bU,Hb,Hx,Hy,Hr⟩:=nz w 39 [.bool s,.string (bs l),.int .i64 e] 39 [.bool t,.string (bs m),.int .i64 f] 39 [.bool false,.string ⟨#[]⟩,.int .i64 0];obtain⟨x0,aK,x1,aL,x2,aN⟩:=Hx.out.g3;obtain⟨y0,aQ,y1,aR,y2,aS⟩:=Hy.out.g3;obtain⟨r0,ag,r1,ah,r2,au⟩:=Hr.out.g3;go_enter Tryz.func49,Tryz.ntmps49;go_wp2_with fail;refine bW (λw'=>w'.cell? ⟨w.heap.size,0,none⟩=some (.bool s)/\w'.cell? ⟨w.heap.size,1,none⟩=some (.string (bs l))/\w'.cell? ⟨w.heap.size,2,none⟩=some (.int .i64 e)/\w'.cell? ⟨w.heap.size+1,0,none⟩=some (.bool t)/\w'.cell? ⟨w.heap.size+1,1,none⟩=some (.string (bs m))/\w'.cell? ⟨w.heap.size+1,2,none⟩=some (.int .i64 f)) (λi=>Nat.blt i 4) [(0,true),(2,true),(1,false),(3,false),(4,false),(5,false)] zk zk rfl zk zc ⟨x0,x1,x2,y0,y1,y2⟩ ?_;iterate 2 (refine pT rfl rfl ?_ (by intro w' ⟨q0,q1,q2,q3,q4,q5⟩;go_simp;try with_reducible rfl);try simp only[UU])
   refine aC rfl rfl (λK hK=>?_);go_simp;with_reducible refine(mR.out _).mono ?_
   rintro e w1 ⟨rfl,hq⟩;have ae:Bw W w1:=by first|exact hq|exact aM hq
   clear x0 aK x1 aL x2 aN y0 aQ y1 aR y2 aS r0 ag r1 ah r2 au;replace Hx:=kB Hx ae;replace Hy:=kB Hy ae;replace Hr:=kB Hr ae;obtain⟨x0,aK,x1,aL,x2,aN⟩:=Hx.out.g3;obtain⟨y0,aQ,y1,aR,y2,aS⟩:=Hy.out.g3;obtain⟨r0,ag,r1,ah,r2,au⟩:=Hr.out.g3;replace Hb:=ak Hb ae;clear ae;refine hK _ _ (λ_=>⟨x0,x1,x2,y0,y1,y2⟩) ?_;clear hK K;try simp only[UU]
   refine aC rfl rfl (λK hK=>?_);go_simp;with_reducible refine(oP.out _).mono ?_
   rintro e w2 ⟨rfl,hq⟩;have ae:Bw w1 w2:=by first|exact hq|exact aM hq
   clear x0 aK x1 aL x2 aN y0 aQ y1 aR y2 aS r0 ag r1 ah r2 au;replace Hx:=kB Hx ae;replace Hy:=kB Hy ae;replace Hr:=kB Hr ae;obtain⟨x0,aK,x1,aL,x2,aN⟩:=Hx.out.g3;obtain⟨y0,aQ,y1,aR,y2,aS⟩:=Hy.out.g3;obtain⟨r0,ag,r1,ah,r2,au⟩:=Hr.out.g3;replace Hb:=ak Hb ae;clear ae;refine hK _ _ (λ_=>⟨x0,x1,x2,y0,y1,y2⟩) ?_;clear hK K;try simp only[UU]
   refine aC rfl rfl (λK hK=>?_);go_simp;refine hK _ _ (λh=>absurd h zd) ?_;clear hK K;try simp only[UU]
   clear x0 aK x1 aL x2 aN y0 aQ y1 aR y2 aS r0 ag r1 ah r2 au;refine bI (aY w2 (w.heap.size) 0 [.bool (ai (dN A)),.string (bs (nt (dN A).natAbs)),.int .i64 (dE A)]) bg ?_;intro w3 hs;replace Hx:=bE Hx hs;replace Hy:=kS Hy hs zo;replace Hr:=kS Hr hs zo;obtain⟨x0,aK,x1,aL,x2,aN⟩:=Hx.out.g3;obtain⟨y0,aQ,y1,aR,y2,aS⟩:=Hy.out.g3;obtain⟨r0,ag,r1,ah,r2,au⟩:=Hr.out.g3;replace Hb:=bS Hb hs ZS;clear hs;refine aC rfl rfl (λK hK=>?_);go_simp;refine hK _ _ (λh=>absurd h zd) ?_;clear hK K;try simp only[UU]
   clear x0 aK x1 aL x2 aN y0 aQ y1 aR y2 aS r0 ag r1 ah r2 au;refine bI (aY w3 (w.heap.size+1) 0 [.bool (ai (dN C)),.string (bs (nt (dN C).natAbs)),.int .i64 (dE C)]) bg ?_;intro w4 hs;replace Hx:=kS Hx hs zo;replace Hy:=bE Hy hs;replace Hr:=kS Hr hs zo;obtain⟨x0,aK,x1,aL,x2,aN⟩:=Hx.out.g3;obtain⟨y0,aQ,y1,aR,y2,aS⟩:=Hy.out.g3;obtain⟨r0,ag,r1,ah,r2,au⟩:=Hr.out.g3;replace Hb:=bS Hb hs ZS;clear hs;simp only[aV];go_wp2_with fail;refine(vP.out _).mono ?_;rintro e w5 ⟨rfl,ae⟩;clear x0 aK x1 aL x2 aN y0 aQ y1 aR y2 aS r0 ag r1 ah r2 au;replace Hx:=kB Hx ae;replace Hy:=kB Hy ae;replace Hr:=kB Hr ae;obtain⟨x0,aK,x1,aL,x2,aN⟩:=Hx.out.g3;obtain⟨y0,aQ,y1,aR,y2,aS⟩:=Hy.out.g3;obtain⟨r0,ag,r1,ah,r2,au⟩:=Hr.out.g3;replace Hb:=ak Hb ae;clear ae;go_wp2_with fail;refine(AU.out _).mono ?_;rintro e w6 ⟨rfl,ae⟩;clear x0 aK x1 aL x2 aN y0 aQ y1 aR y2 aS r0 ag r1 ah r2 au;replace Hx:=kB Hx ae;replace Hy:=kB Hy ae;replace Hr:=kB Hr ae;obtain⟨x0,aK,x1,aL,x2,aN⟩:=Hx.out.g3;obtain⟨y0,aQ,y1,aR,y2,aS⟩:=Hy.out.g3;obtain⟨r0,ag,r1,ah,r2,au⟩:=Hr.out.g3;replace Hb:=ak Hb ae;clear ae;go_wp2_with fail;clear x0 aK x1 aL x2 aN y0 aQ y1 aR y2 aS r0 ag r1 ah r2 au;obtain⟨R,hR⟩:∃R:World->Prop,(λw7=>aj w7 (w.heap.size) 39 [.bool (ai (dN C)),.string (bs (nt (dN C).natAbs)),.int .i64 (dE C)]/\aj w7 (w.heap.size+1) 39 [.bool (ai (dN A)),.string (bs (nt (dN A).natAbs)),.int .i64 (dE A)]/\aj w7 (w.heap.size+1+1) 39 [.bool false,.string ⟨#[]⟩,.int .i64 0]/\Bw w w7)=R:=⟨_,rfl⟩;first|refine bQ R ?hR ?_|refine bP R ?hR ?_
   case hR=>subst hR;exact⟨((((((Hx.out.set 0 _).set 1 _).set 2 _).so (w.heap.size+1) 0 zo _).so (w.heap.size+1) 1 zo _).so (w.heap.size+1) 2 zo _),((((((Hy.out.so (w.heap.size) 0 zo _).so (w.heap.size) 1 zo _).so (w.heap.size) 2 zo _).set 0 _).set 1 _).set 2 _),((((((Hr.out.so (w.heap.size) 0 zo _).so (w.heap.size) 1 zo _).so (w.heap.size) 2 zo _).so (w.heap.size+1) 0 zo _).so (w.heap.size+1) 1 zo _).so (w.heap.size+1) 2 zo _),((((((Hb.out.sc (w.heap.size) 0 ZS _).sc (w.heap.size) 1 ZS _).sc (w.heap.size) 2 ZS _).sc (w.heap.size+1) 0 ZS _).sc (w.heap.size+1) 1 ZS _).sc (w.heap.size+1) 2 ZS _)⟩
   subst hR;rintro w7 ⟨qx,qy,qr,ae⟩;replace Hx:=af qx;clear qx;replace Hy:=af qy;clear qy;replace Hr:=af qr;clear qr;obtain⟨x0,aK,x1,aL,x2,aN⟩:=Hx.out.g3;obtain⟨y0,aQ,y1,aR,y2,aS⟩:=Hy.out.g3;obtain⟨r0,ag,r1,ah,r2,au⟩:=Hr.out.g3;replace Hb:=af ae;clear ae;refine bW (λw'=>w'.cell? ⟨w.heap.size,0,none⟩=some (.bool (ai (dN C)))/\w'.cell? ⟨w.heap.size,1,none⟩=some (.string (bs (nt (dN C).natAbs)))/\w'.cell? ⟨w.heap.size,2,none⟩=some (.int .i64 (dE C))/\w'.cell? ⟨w.heap.size+1,0,none⟩=some (.bool (ai (dN A)))/\w'.cell? ⟨w.heap.size+1,1,none⟩=some (.string (bs (nt (dN A).natAbs)))/\w'.cell? ⟨w.heap.size+1,2,none⟩=some (.int .i64 (dE A))) (λi=>Nat.blt i 14) [(0,true),(1,true),(2,true),(3,true),(4,true),(5,true),(6,true),(8,true),(9,true),(11,true),(12,true),(7,false),(10,false),(13,false),(14,false)] zk zk rfl zk zc ⟨x0,x1,x2,y0,y1,y2⟩ ?_;iterate 11 (refine pT rfl rfl ?_ (by intro w' ⟨q0,q1,q2,q3,q4,q5⟩;go_simp;try with_reducible rfl);try simp only[UU])
   refine aC rfl rfl (λK hK=>?_);go_simp;with_reducible refine(G1.out _).mono ?_
   rintro e aU ⟨rfl,hq⟩;have ae:Bw w7 aU:=by first|exact hq|exact aM hq
   clear x0 aK x1 aL x2 aN y0 aQ y1 aR y2 aS r0 ag r1 ah r2 au;replace Hx:=kB Hx ae;replace Hy:=kB Hy ae;replace Hr:=kB Hr ae;obtain⟨x0,aK,x1,aL,x2,aN⟩:=Hx.out.g3;obtain⟨y0,aQ,y1,aR,y2,aS⟩:=Hy.out.g3;obtain⟨r0,ag,r1,ah,r2,au⟩:=Hr.out.g3;replace Hb:=ak Hb ae;clear ae;refine hK _ _ (λ_=>⟨x0,x1,x2,y0,y1,y2⟩) ?_;clear hK K;try simp only[UU]
   refine aC rfl rfl (λK hK=>?_);go_simp;with_reducible refine(G2.out _).mono ?_
   rintro e mM ⟨rfl,hq⟩;have ae:Bw aU mM:=by first|exact hq|exact aM hq
   clear x0 aK x1 aL x2 aN y0 aQ y1 aR y2 aS r0 ag r1 ah r2 au;replace Hx:=kB Hx ae;replace Hy:=kB Hy ae;replace Hr:=kB Hr ae;obtain⟨x0,aK,x1,aL,x2,aN⟩:=Hx.out.g3;obtain⟨y0,aQ,y1,aR,y2,aS⟩:=Hy.out.g3;obtain⟨r0,ag,r1,ah,r2,au⟩:=Hr.out.g3;replace Hb:=ak Hb ae;clear ae;refine hK _ _ (λ_=>⟨x0,x1,x2,y0,y1,y2⟩) ?_;clear hK K;try simp only[UU]
   refine aC rfl rfl (λK hK=>?_);go_simp;with_reducible refine(G3.out _).mono ?_
   rintro e qN ⟨rfl,hq⟩;have ae:Bw mM qN:=by first|exact hq|exact aM hq
   clear x0 aK x1 aL x2 aN y0 aQ y1 aR y2 aS r0 ag r1 ah r2 au;replace Hx:=kB Hx ae;replace Hy:=kB Hy ae;replace Hr:=kB Hr ae;obtain⟨x0,aK,x1,aL,x2,aN⟩:=Hx.out.g3;obtain⟨y0,aQ,y1,aR,y2,aS⟩:=Hy.out.g3;obtain⟨r0,ag,r1,ah,r2,au⟩:=Hr.out.g3;replace Hb:=ak Hb ae;clear ae;refine hK _ _ (λ_=>⟨x0,x1,x2,y0,y1,y2⟩) ?_;clear hK K;try simp only[UU]
   refine aC rfl rfl (λK hK=>?_);go_simp;refine hK _ _ (λh=>absurd h zd) ?_;clear hK K;try simp only[UU]
   clear x0 aK x1 aL x2 aN y0 aQ y1 aR y2 aS r0 ag r1 ah r2 au;refine bI (aY qN (w.heap.size+1+1) 0 [.bool (ai (dN S)),.string (bs (nt (dN S).natAbs)),.int .i64 (dE S)]) bg ?_;intro w19 hs;replace Hx:=kS Hx hs zo;replace Hy:=kS Hy hs zo;replace Hr:=bE Hr hs;obtain⟨x0,aK,x1,aL,x2,aN⟩:=Hx.out.g3;obtain⟨y0,aQ,y1,aR,y2,aS⟩:=Hy.out.g3;obtain⟨r0,ag,r1,ah,r2,au⟩:=Hr.out.g3;replace Hb:=bS Hb hs ZS;clear hs;simp only[aV];go_wp2;refine bodyPost_ret (v:=bH S) (by simp[results,Tryz.results49,go_sem,r0,r1,r2]) rfl ⟨rfl,?_⟩;(repeat first|exact Hb.out| (refine Below.setCell ?_ (by have:=Hb.out.size;first| (dsimp only;omega) | (show _<=_;omega) | (simp<;>omega)) _) | (refine Below.alloc ?_ zt _) |refine Below.drew ?_)
 . obtain⟨p,hp⟩:∃p:Nat,dE A-dE C=(p:Int):=⟨(dE A-dE C).toNat,by omega⟩;obtain⟨Z1,Z,g1,g2,g3⟩:=hpl A C hS la lc p hp zo zo;have hwr:IntKind.i64.wrap (dE A-dE C)=(p:Int):=by rw[IntKind.wrap_i64];omega
   obtain⟨mR,oP,vP,AU,G1,G2,G3⟩:=iV jf pV uO wV g1 g2 g3;clear jf pV uO wV hpl wT yO yP rG mX hA hC hS lj yD a1 a2 a3 c1 c2 c3 la lc hx hy g1 g2 g3 hp;obtain⟨W,bU,Hb,Hx,Hy,Hr⟩:=nz w 39 [.bool s,.string (bs l),.int .i64 e] 39 [.bool t,.string (bs m),.int .i64 f] 39 [.bool false,.string ⟨#[]⟩,.int .i64 0];obtain⟨x0,aK,x1,aL,x2,aN⟩:=Hx.out.g3;obtain⟨y0,aQ,y1,aR,y2,aS⟩:=Hy.out.g3;obtain⟨r0,ag,r1,ah,r2,au⟩:=Hr.out.g3;go_enter Tryz.func49,Tryz.ntmps49;go_wp2_with fail;refine bW (λw'=>w'.cell? ⟨w.heap.size,0,none⟩=some (.bool s)/\w'.cell? ⟨w.heap.size,1,none⟩=some (.string (bs l))/\w'.cell? ⟨w.heap.size,2,none⟩=some (.int .i64 e)/\w'.cell? ⟨w.heap.size+1,0,none⟩=some (.bool t)/\w'.cell? ⟨w.heap.size+1,1,none⟩=some (.string (bs m))/\w'.cell? ⟨w.heap.size+1,2,none⟩=some (.int .i64 f)) (λi=>Nat.blt i 4) [(0,true),(2,true),(1,false),(3,false),(4,false),(5,false)] zk zk rfl zk zc ⟨x0,x1,x2,y0,y1,y2⟩ ?_;iterate 2 (refine pT rfl rfl ?_ (by intro w' ⟨q0,q1,q2,q3,q4,q5⟩;go_simp;try with_reducible rfl);try simp only[UU])
   refine aC rfl rfl (λK hK=>?_);go_simp;with_reducible refine(mR.out _).mono ?_
   rintro e w1 ⟨rfl,hq⟩;have ae:Bw W w1:=by first|exact hq|exact aM hq
   clear x0 aK x1 aL x2 aN y0 aQ y1 aR y2 aS r0 ag r1 ah r2 au;replace Hx:=kB Hx ae;replace Hy:=kB Hy ae;replace Hr:=kB Hr ae;obtain⟨x0,aK,x1,aL,x2,aN⟩:=Hx.out.g3;obtain⟨y0,aQ,y1,aR,y2,aS⟩:=Hy.out.g3;obtain⟨r0,ag,r1,ah,r2,au⟩:=Hr.out.g3;replace Hb:=ak Hb ae;clear ae;refine hK _ _ (λ_=>⟨x0,x1,x2,y0,y1,y2⟩) ?_;clear hK K;try simp only[UU]
   refine aC rfl rfl (λK hK=>?_);go_simp;with_reducible refine(oP.out _).mono ?_
   rintro e w2 ⟨rfl,hq⟩;have ae:Bw w1 w2:=by first|exact hq|exact aM hq
   clear x0 aK x1 aL x2 aN y0 aQ y1 aR y2 aS r0 ag r1 ah r2 au;replace Hx:=kB Hx ae;replace Hy:=kB Hy ae;replace Hr:=kB Hr ae;obtain⟨x0,aK,x1,aL,x2,aN⟩:=Hx.out.g3;obtain⟨y0,aQ,y1,aR,y2,aS⟩:=Hy.out.g3;obtain⟨r0,ag,r1,ah,r2,au⟩:=Hr.out.g3;replace Hb:=ak Hb ae;clear ae;refine hK _ _ (λ_=>⟨x0,x1,x2,y0,y1,y2⟩) ?_;clear hK K;try simp only[UU]
   refine aC rfl rfl (λK hK=>?_);go_simp;refine hK _ _ (λh=>absurd h zd) ?_;clear hK K;try simp only[UU]
   clear x0 aK x1 aL x2 aN y0 aQ y1 aR y2 aS r0 ag r1 ah r2 au;refine bI (aY w2 (w.heap.size) 0 [.bool (ai (dN A)),.string (bs (nt (dN A).natAbs)),.int .i64 (dE A)]) bg ?_;intro w3 hs;replace Hx:=bE Hx hs;replace Hy:=kS Hy hs zo;replace Hr:=kS Hr hs zo;obtain⟨x0,aK,x1,aL,x2,aN⟩:=Hx.out.g3;obtain⟨y0,aQ,y1,aR,y2,aS⟩:=Hy.out.g3;obtain⟨r0,ag,r1,ah,r2,au⟩:=Hr.out.g3;replace Hb:=bS Hb hs ZS;clear hs;refine aC rfl rfl (λK hK=>?_);go_simp;refine hK _ _ (λh=>absurd h zd) ?_;clear hK K;try simp only[UU]
   clear x0 aK x1 aL x2 aN y0 aQ y1 aR y2 aS r0 ag r1 ah r2 au;refine bI (aY w3 (w.heap.size+1) 0 [.bool (ai (dN C)),.string (bs (nt (dN C).natAbs)),.int .i64 (dE C)]) bg ?_;intro w4 hs;replace Hx:=kS Hx hs zo;replace Hy:=bE Hy hs;replace Hr:=kS Hr hs zo;obtain⟨x0,aK,x1,aL,x2,aN⟩:=Hx.out.g3;obtain⟨y0,aQ,y1,aR,y2,aS⟩:=Hy.out.g3;obtain⟨r0,ag,r1,ah,r2,au⟩:=Hr.out.g3;replace Hb:=bS Hb hs ZS;clear hs;simp only[aV];go_wp2_with fail;refine(vP.out _).mono ?_;rintro e w5 ⟨rfl,ae⟩;clear x0 aK x1 aL x2 aN y0 aQ y1 aR y2 aS r0 ag r1 ah r2 au;replace Hx:=kB Hx ae;replace Hy:=kB Hy ae;replace Hr:=kB Hr ae;obtain⟨x0,aK,x1,aL,x2,aN⟩:=Hx.out.g3;obtain⟨y0,aQ,y1,aR,y2,aS⟩:=Hy.out.g3;obtain⟨r0,ag,r1,ah,r2,au⟩:=Hr.out.g3;replace Hb:=ak Hb ae;clear ae;go_wp2_with fail;refine(AU.out _).mono ?_;rintro e w6 ⟨rfl,ae⟩;clear x0 aK x1 aL x2 aN y0 aQ y1 aR y2 aS r0 ag r1 ah r2 au;replace Hx:=kB Hx ae;replace Hy:=kB Hy ae;replace Hr:=kB Hr ae;obtain⟨x0,aK,x1,aL,x2,aN⟩:=Hx.out.g3;obtain⟨y0,aQ,y1,aR,y2,aS⟩:=Hy.out.g3;obtain⟨r0,ag,r1,ah,r2,au⟩:=Hr.out.g3;replace Hb:=ak Hb ae;clear ae;go_wp2_with fail;refine bW (λw'=>w'.cell? ⟨w.heap.size,0,none⟩=some (.bool (ai (dN A)))/\w'.cell? ⟨w.heap.size,1,none⟩=some (.string (bs (nt (dN A).natAbs)))/\w'.cell? ⟨w.heap.size,2,none⟩=some (.int .i64 (dE A))/\w'.cell? ⟨w.heap.size+1,0,none⟩=some (.bool (ai (dN C)))/\w'.cell? ⟨w.heap.size+1,1,none⟩=some (.string (bs (nt (dN C).natAbs)))/\w'.cell? ⟨w.heap.size+1,2,none⟩=some (.int .i64 (dE C))) (λi=>Nat.blt i 14) [(0,true),(1,true),(2,true),(3,true),(4,true),(5,true),(6,true),(8,true),(9,true),(11,true),(12,true),(7,false),(10,false),(13,false),(14,false)] zk zk rfl zk zc ⟨x0,x1,x2,y0,y1,y2⟩ ?_;iterate 11 (refine pT rfl rfl ?_ (by intro w' ⟨q0,q1,q2,q3,q4,q5⟩;go_simp;try with_reducible rfl);try simp only[UU])
   refine aC rfl rfl (λK hK=>?_);go_simp;with_reducible refine(G1.out _).mono ?_
   rintro e aU ⟨rfl,hq⟩;have ae:Bw w6 aU:=by first|exact hq|exact aM hq
   clear x0 aK x1 aL x2 aN y0 aQ y1 aR y2 aS r0 ag r1 ah r2 au;replace Hx:=kB Hx ae;replace Hy:=kB Hy ae;replace Hr:=kB Hr ae;obtain⟨x0,aK,x1,aL,x2,aN⟩:=Hx.out.g3;obtain⟨y0,aQ,y1,aR,y2,aS⟩:=Hy.out.g3;obtain⟨r0,ag,r1,ah,r2,au⟩:=Hr.out.g3;replace Hb:=ak Hb ae;clear ae;refine hK _ _ (λ_=>⟨x0,x1,x2,y0,y1,y2⟩) ?_;clear hK K;try simp only[UU]
   refine aC rfl rfl (λK hK=>?_);go_simp;with_reducible refine(G2.out _).mono ?_
   rintro e mM ⟨rfl,hq⟩;have ae:Bw aU mM:=by first|exact hq|exact aM hq
   clear x0 aK x1 aL x2 aN y0 aQ y1 aR y2 aS r0 ag r1 ah r2 au;replace Hx:=kB Hx ae;replace Hy:=kB Hy ae;replace Hr:=kB Hr ae;obtain⟨x0,aK,x1,aL,x2,aN⟩:=Hx.out.g3;obtain⟨y0,aQ,y1,aR,y2,aS⟩:=Hy.out.g3;obtain⟨r0,ag,r1,ah,r2,au⟩:=Hr.out.g3;replace Hb:=ak Hb ae;clear ae;refine hK _ _ (λ_=>⟨x0,x1,x2,y0,y1,y2⟩) ?_;clear hK K;try simp only[UU]
   refine aC rfl rfl (λK hK=>?_);go_simp;with_reducible refine(G3.out _).mono ?_
   rintro e qN ⟨rfl,hq⟩;have ae:Bw mM qN:=by first|exact hq|exact aM hq
   clear x0 aK x1 aL x2 aN y0 aQ y1 aR y2 aS r0 ag r1 ah r2 au;replace Hx:=kB Hx ae;replace Hy:=kB Hy ae;replace Hr:=kB Hr ae;obtain⟨x0,aK,x1,aL,x2,aN⟩:=Hx.out.g3;obtain⟨y0,aQ,y1,aR,y2,aS⟩:=Hy.out.g3;obtain⟨r0,ag,r1,ah,r2,au⟩:=Hr.out.g3;replace Hb:=ak Hb ae;clear ae;refine hK _ _ (λ_=>⟨x0,x1,x2,y0,y1,y2⟩) ?_;clear hK K;try simp only[UU]
   refine aC rfl rfl (λK hK=>?_);go_simp;refine hK _ _ (λh=>absurd h zd) ?_;clear hK K;try simp only[UU]
   clear x0 aK x1 aL x2 aN y0 aQ y1 aR y2 aS r0 ag r1 ah r2 au;refine bI (aY qN (w.heap.size+1+1) 0 [.bool (ai (dN S)),.string (bs (nt (dN S).natAbs)),.int .i64 (dE S)]) bg ?_;intro w19 hs;replace Hx:=kS Hx hs zo;replace Hy:=kS Hy hs zo;replace Hr:=bE Hr hs;obtain⟨x0,aK,x1,aL,x2,aN⟩:=Hx.out.g3;obtain⟨y0,aQ,y1,aR,y2,aS⟩:=Hy.out.g3;obtain⟨r0,ag,r1,ah,r2,au⟩:=Hr.out.g3;replace Hb:=bS Hb hs ZS;clear hs;simp only[aV];go_wp2;refine bodyPost_ret (v:=bH S) (by simp[results,Tryz.results49,go_sem,r0,r1,r2]) rfl ⟨rfl,?_⟩;(repeat first|exact Hb.out| (refine Below.setCell ?_ (by have:=Hb.out.size;first| (dsimp only;omega) | (show _<=_;omega) | (simp<;>omega)) _) | (refine Below.alloc ?_ zt _) |refine Below.drew ?_)
theorem YJ (s:Bool)(l:List UInt8)(e:Int)(t:Bool)(m:List UInt8)(f:Int)(S:Dyadic)(hS:ar (s,l,e)-ar (t,m,f)=S)(w:World)(hx:dV (s,l,e))(hy:dV (t,m,f))(oF:dV (canon (-ar (t,m,f)))):
 Calls Tryz.prog 75 #[.agg #[.bool s,.string (bs l),.int .i64 e],.agg #[.bool t,.string (bs m),.int .i64 f]] w λex w'=>ex=.returned (bH S)/\Bw w w':=by
 obtain⟨N,hN⟩:=aB (-ar (t,m,f));rw[hN]at oF;have h1:=λW=>alC t m f N hN W hy;have h2:=λW=>Pb s l e (ai (dN N)) (nt (dN N).natAbs) (dE N) S (by show _+ar (canon N)=_;rw[bL,<-hN,<-hS];grind) W hx oF;obtain⟨H1,H2⟩:=aI h1 h2;clear h1 h2 hN oF hS hx hy;obtain⟨W,bU,Hb,Hx,Hy,Hr⟩:=nz w 39 [.bool s,.string (bs l),.int .i64 e] 39 [.bool t,.string (bs m),.int .i64 f] 39 [.bool false,.string ⟨#[]⟩,.int .i64 0];obtain⟨x0,x1,x2⟩:=Hx.out.c3;obtain⟨y0,y1,y2⟩:=Hy.out.c3;obtain⟨r0,ag,r1,ah,r2,au⟩:=Hr.out.g3;go_enter Tryz.func75,Tryz.ntmps75;go_wp2_with fail;refine bW (λw'=>w'.cell? ⟨w.heap.size,0,none⟩=some (.bool s)/\w'.cell? ⟨w.heap.size,1,none⟩=some (.string (bs l))/\w'.cell? ⟨w.heap.size,2,none⟩=some (.int .i64 e)/\w'.cell? ⟨w.heap.size+1,0,none⟩=some (.bool t)/\w'.cell? ⟨w.heap.size+1,1,none⟩=some (.string (bs m))/\w'.cell? ⟨w.heap.size+1,2,none⟩=some (.int .i64 f)) (λi=>Nat.blt i 4) [(0,true),(1,true),(2,false),(3,false),(4,false)] zk zk rfl zk zc ⟨x0,x1,x2,y0,y1,y2⟩ ?_;iterate 2 (refine pT rfl rfl ?_ (by intro w' ⟨q0,q1,q2,q3,q4,q5⟩;go_simp;try with_reducible rfl);try simp only[UU])
 refine aC rfl rfl (λK hK=>?_);go_simp;with_reducible refine(H1.out _).mono ?_
 rintro e w1 ⟨rfl,hq⟩;have ae:Bw W w1:=by first|exact hq|exact aM hq
 clear x0 x1 x2 y0 y1 y2 r0 ag r1 ah r2 au;replace Hx:=kB Hx ae;replace Hy:=kB Hy ae;replace Hr:=kB Hr ae;obtain⟨x0,x1,x2⟩:=Hx.out.c3;obtain⟨y0,y1,y2⟩:=Hy.out.c3;obtain⟨r0,ag,r1,ah,r2,au⟩:=Hr.out.g3;replace Hb:=ak Hb ae;clear ae;refine hK _ _ (λ_=>⟨x0,x1,x2,y0,y1,y2⟩) ?_;clear hK K;try simp only[UU]
 refine aC rfl rfl (λK hK=>?_);go_simp;with_reducible refine(H2.out _).mono ?_
 rintro e w2 ⟨rfl,hq⟩;have ae:Bw w1 w2:=by first|exact hq|exact aM hq
 clear x0 x1 x2 y0 y1 y2 r0 ag r1 ah r2 au;replace Hx:=kB Hx ae;replace Hy:=kB Hy ae;replace Hr:=kB Hr ae;obtain⟨x0,x1,x2⟩:=Hx.out.c3;obtain⟨y0,y1,y2⟩:=Hy.out.c3;obtain⟨r0,ag,r1,ah,r2,au⟩:=Hr.out.g3;replace Hb:=ak Hb ae;clear ae;refine hK _ _ (λ_=>⟨x0,x1,x2,y0,y1,y2⟩) ?_;clear hK K;try simp only[UU]
 refine aC rfl rfl (λK hK=>?_);go_simp;refine hK _ _ (λh=>absurd h zd) ?_;clear hK K;try simp only[UU]
 clear x0 x1 x2 y0 y1 y2 r0 ag r1 ah r2 au;refine bI (aY w2 (w.heap.size+1+1) 0 [.bool (ai (dN S)),.string (bs (nt (dN S).natAbs)),.int .i64 (dE S)]) bg ?_;intro w9 hs;replace Hx:=kS Hx hs zo;replace Hy:=kS Hy hs zo;replace Hr:=bE Hr hs;obtain⟨x0,x1,x2⟩:=Hx.out.c3;obtain⟨y0,y1,y2⟩:=Hy.out.c3;obtain⟨r0,ag,r1,ah,r2,au⟩:=Hr.out.g3;replace Hb:=bS Hb hs ZS;clear hs;simp only[aV];go_wp2;refine bodyPost_ret (v:=bH S) (by simp[results,Tryz.results75,go_sem,r0,r1,r2]) rfl ⟨rfl,?_⟩;(repeat first|exact Hb.out| (refine Below.setCell ?_ (by have:=Hb.out.size;first| (dsimp only;omega) | (show _<=_;omega) | (simp<;>omega)) _) | (refine Below.alloc ?_ zt _) |refine Below.drew ?_)
theorem zK (s:Bool)(l:List UInt8)(e:Int)(t:Bool)(m:List UInt8)(f:Int)(c:Int)(hc:aP (ar (s,l,e)-ar (t,m,f))=c)(w:World)(hx:dV (s,l,e))(hy:dV (t,m,f))(oF:dV (canon (-ar (t,m,f)))):
 Calls Tryz.prog 35 #[.agg #[.bool s,.string (bs l),.int .i64 e],.agg #[.bool t,.string (bs m),.int .i64 f]] w λex w'=>ex=.returned (.int .i64 c)/\Bw w w':=by
 obtain⟨S,hS⟩:=aB (ar (s,l,e)-ar (t,m,f));have hs:Sm 262145 S:=by rw[<-hS];exact Sm.sub hx.sm hy.sm
 have h1:=λW=>YJ s l e t m f S hS W hx hy oF;rw[hS]at hc;have h2:=λW=>Dl (ai (dN S)) (nt (dN S).natAbs) (dE S) c (by show aP (ar (canon S))=_;rw[bL];exact hc) W (Nat.le_trans (iB (N:=65537) hs.parts.1 zo) zo);obtain⟨H1,H2⟩:=aI h1 h2;clear h1 h2 hS hs hc oF hx hy;obtain⟨W,bU,Hb,Hx,Hy⟩:=fw w 39 [.bool s,.string (bs l),.int .i64 e] 39 [.bool t,.string (bs m),.int .i64 f];obtain⟨x0,x1,x2⟩:=Hx.out.c3;obtain⟨y0,y1,y2⟩:=Hy.out.c3;go_enter Tryz.func35,Tryz.ntmps35;go_wp2_with fail;refine(H1.out _).mono ?_;rintro e w1 ⟨rfl,ae⟩;clear x0 x1 x2 y0 y1 y2;replace Hx:=kB Hx ae;replace Hy:=kB Hy ae;obtain⟨x0,x1,x2⟩:=Hx.out.c3;obtain⟨y0,y1,y2⟩:=Hy.out.c3;replace Hb:=ak Hb ae;clear ae;go_wp2_with fail;refine(H2.out _).mono ?_;rintro e w2 ⟨rfl,ae⟩;clear x0 x1 x2 y0 y1 y2;replace Hx:=kB Hx ae;replace Hy:=kB Hy ae;obtain⟨x0,x1,x2⟩:=Hx.out.c3;obtain⟨y0,y1,y2⟩:=Hy.out.c3;replace Hb:=ak Hb ae;clear ae;go_wp2;go_ret;exact⟨rfl,Hb.out⟩
abbrev iG (B:Nat)(x:Raw):Prop:=dV x/\Sm B (ar x)
theorem iG.mono {B B':Nat}{x:Raw}(h:iG B x)(hb:B<=B'):iG B' x:=⟨h.1,h.2.mono hb⟩
theorem iG.canon {B:Nat}{d:Dyadic}(h:Sm B d)(hB:B<=16384):iG B (canon d):=⟨h.arC hB,by rw[bL];exact h⟩
end Go.Proofs.YtoopepmmepmfnaaGreatDoor
