/- Package ogeeref04: Make. -/
import Derived.Test.YtpfgffadgkkedaaGreatDoorZ7
import Derived.Test.YtpfgffadgkkedaaGreatDoorZ17
import Derived.Deep.RegionWith
import Derived.Test.YtpfgffadgkkedaaGreatDoorZ21
import Derived.Test.YtpfgffadgkkedaaGreatDoorZ11
import Derived.Test.YtpfgffadgkkedaaGreatDoorZ13
import Derived.Test.YtpfgffadgkkedaaGreatDoorZ9
set_option linter.all false
set_option maxRecDepth 100000
set_option maxHeartbeats 16000000
namespace Go.Proofs.YtpfgffadgkkedaaGreatDoor
open Go.RowKit
attribute [local go_sem ↓] Go.wp_at_zero Go.wp_at_succ
def amk (M:List UInt8)(c:UInt8):(bs (M++[c])).extract 0 M.length=bs M:=by apply ByteArray.ext;unfold bs;rw[ByteArray.data_extract];simp
def av2 (M:List UInt8)(c:UInt8)(i:Int)(hi:i=M.length)(W:World):
 (Instr.sliceAt 9 (ah (M++[c])) none (some (af i)) none).run Tryz.prog W=.ok (ah M) W:=by
 subst hi;have h:=run_slice_string_h (P:=Tryz.prog) W 9 (bs (M++[c])) Tryz.underlying9 .i64 M.length zo (by rw[kP];simp<;>omega);simp only[Int.toNat_natCast,amk M c]at h;simpa[Instr.sliceAt,run_underlying Tryz.underlying9]using h
def amy (s:Bool)(n:Nat)(e:Int)(h:n%2=1):canon (dval (s,nt n,e))=(s,nt n,e):=by
 have h0:iv s (nt n)≠0:=by rw[rL];split<;>omega
 obtain⟨h1,h2⟩:=QY s (nt n) e h0;have ht:tz n=0:=by have:=agv 0 (n/2);rw[show 2^0* (2* (n/2)+1)=n by omega]at this;exact this
 rw[ji,ht]at h1 h2;unfold canon;rw[h1,h2];have e1:iv s (nt n)/2^0=iv s (nt n):=by simp
 rw[e1,Ud,uf,ji];have e3:(nt n).isEmpty=false:=by
  have:=Ng (n:=n) zo;cases h:nt n with
  |nil=>exact absurd h this
  |cons a b=>rfl
 rw[e3];simp
def aos (s:Bool)(l:List UInt8)(n k:Nat)(e:Int)(h:n*2^k=nv l):dval (s,nt n,e+k)=dval (s,l,e):=by
 unfold dval;have e1:iv s l=iv s (nt n) *2^k:=by
  rw[rL];unfold iv;rw[<-h];split
  . rw[Int.neg_mul];simp
  . simp
 simp only[e1];rw[<-qK (iv s (nt n)) k (-(e+k))];congr 1;omega
def auK {n k v b:Nat}(h:n*2^k=v)(h0:0<v)(hv:v<2^b):k<b/\0<n:=by
 have hn:0<n:=by
  rcases Nat.eq_zero_or_pos n with h1|h1
  . subst h1;simp at h;omega
  . exact h1
 refine⟨?_,hn⟩;rcases Nat.lt_or_ge k b with h1|h1
 . exact h1
 . have h2:=Nat.pow_le_pow_right (show 0<2 by decide) h1;have h3:2^k<=n*2^k:=Nat.le_mul_of_pos_left _ hn;omega
def avu (w:World):Cv 135 #[af 2] w (.agg #[ag false,ah (nt 2)]):=afH 2 w zd
def ae9 {n:Nat}(h:0<n):∃M c,nt n=M++[c]/\M=nt (n/256)/\c.toNat=n%256:=⟨_,_,IP h,rfl,KV n⟩
def avr (s:Bool)(l:List UInt8)(e:Int)(w:World)(hl:l.length<=1048576)(h0:nv l=0):
 Cv 134 #[.agg #[ag s,ah l],af e] w (bN 0):=by
 have hf:=λW=>Jd s l W zo;simp only[h0,BD,List.isEmpty_nil,Bool.not_true,Bool.and_false]at hf;have Hf:=aj hf;have hem:(bs []).toList.isEmpty=true:=by rw[vU];rfl
 clear hf h0;obtain⟨W,bX,ae,ai⟩:=jz w 43 [ag s,ah l] 45 [ag false,.string ⟨#[]⟩,af 0];go_enter Tryz.func134,Tryz.ntmps134;go_wp2_with fail;refine aK ae (Hf.out _) λw1 ae ai=>?_;go_wp2;have r1:w1.cell? ⟨w.heap.size+1,1,none⟩=some (.string ⟨#[]⟩):=ae.2.2.1.out.cell 1;have r2:w1.cell? ⟨w.heap.size+1,2,none⟩=some (af 0):=ae.2.2.1.out.cell 2;have r0:w1.cell? ⟨w.heap.size+1,0,none⟩=some (ag false):=ae.2.2.1.out.cell 0;refine bodyPost_ret (v:=.agg #[ag false,.string ⟨#[]⟩,af 0]) (by simp[results,Tryz.results134,go_sem,r0,r1,r2]) rfl ⟨rfl,?_⟩;(repeat first|exact ae.1.out| (refine Below.setCell ?_ (by have:=ae.1.out.size;first| (dsimp only;omega) | (show _<=_;omega) | (simp<;>omega)) _) |refine Below.drew ?_)
def avq (s:Bool)(l:List UInt8)(e:Int)(D:Dyadic)(hD:dval (s,l,e)=D)(w:World)(hl:l.length<=1048576)(he: -1099511627776<=e/\e<=1099511627776)(h0:0<nv l):
 Cv 134 #[.agg #[ag s,ah l],af e] w (bN D):=by
 have hf:=λW=>Jd s l W zo;have e3:(nt (nv l)).isEmpty=false:=by
  have:=Ng h0;cases h:nt (nv l)with
  |nil=>exact absurd h this
  |cons a b=>rfl
 rw[e3]at hf;simp only[Bool.not_false,Bool.and_true]at hf;have hvb:=rM l;obtain⟨v,hv⟩:=az (nv l);rw[hv]at h0 hvb;simp only[hv]at hf;have hup:∀n k:Nat,n*2^k=v->dval (s,nt n,e+k)=D:=λn k h=>by rw[<-hD];exact aos s l n k e (by rw[hv];exact h)
 obtain⟨Bn,hBn⟩:=az (8*l.length);have hpb:∀n k:Nat,n*2^k=v->k<Bn/\0<n:=λn k h=>by rw[<-hBn];exact auK h h0 hvb
 have hBl:Bn<=8388608:=by omega
 obtain⟨Hf,PP,aP⟩:=bL hf hup hpb;have azD:(bs (nt v)).toList.isEmpty=false:=by rw[vU,<-hv];exact e3
 have ac3:∀n k:Nat,n*2^k=v->(nt n).length<=1048576:=λn k h=>by refine Nat.le_trans (ky (Nat.lt_of_le_of_lt (Nat.le_mul_of_pos_right n (Nat.pow_pos (n:=k) (show 0<2 by decide))) ?_)) hl;rw[h,<-hv];exact ib l
 have XP:=aj ac3;clear hf e3 hvb hup hpb hBn hD hv h0 ac3;obtain⟨W,bX,ae,ai⟩:=jz w 43 [ag s,ah l] 45 [ag false,.string ⟨#[]⟩,af 0];go_enter Tryz.func134,Tryz.ntmps134;go_wp2_with fail;refine aK ae (Hf.out _) λw1 ae ai=>?_;go_wp2_with fail;first|refine eG (aO w1 (w.heap.size) 0 [ag s,ah (nt v)]) aR ?_|refine eF (aO w1 (w.heap.size) 0 [ag s,ah (nt v)]) aR ?_
 intro w2 hs0;have ae:=bD hs0 ae;simp only[bz,List.set]at ae;have ai:=qC ae;skip
 have lm:=ae.2.1.out.lt;have lr:=ae.2.2.1.out.lt;go_loopw[1] (λx wr=>∃n k:Nat,n*2^k=v/\x=af (e+k)/\ar wr w.heap.size 43 [ag s,ah (nt n)]/\ar wr (w.heap.size+1) 45 [ag false,.string ⟨#[]⟩,af 0]/\Bw w wr) (λx _=>(e+Bn+100-intOf x).toNat);case atStart=>exact⟨v,0,by simp,by simp,ae.2.1.out,ae.2.2.1.out,ae.1.out⟩
 case round=>
  skip
  obtain⟨n,k,wH,rfl,hm,hr,hb⟩:=hrel;obtain⟨hk,hn⟩:=aP.out n k wH;obtain⟨M,c,hM,LN,hc⟩:=ae9 hn;obtain⟨Hm,Hr,Hb,Cq,HM,WC⟩:=gM hm hr hb wH hM LN;have hnl:=XP.out n k wH;have Gp:M.length+1<=1048576:=by rw[hM]at hnl;simpa using hnl
  have m1:wr.cell? ⟨w.heap.size,1,none⟩=some (ah (M++[c])):=by rw[<-hM];exact hm.cell 1
  have fm1:wr.frozen? ⟨w.heap.size,1,none⟩=false:=hm.free 1;have hsz:(bs (M++[c])).size=M.length+1:=by rw[kP];simp
  have gY:=uV (M++[c]) (M.length:Int) M.length zm rfl;have qp:(M++[c])[M.length]'zm=c:=by simp
  rw[qp]at gY;obtain⟨C,hC⟩:=az c.toNat;rw[hC]at gY hc;have hsl:=av2 M c (M.length:Int) rfl;have Hc:=aj hc;clear hm hr hb wH hM LN qp hc hnl;by_cases pY:C=0
  . subst pY;go_wp2;go_roundw;case rel=>
     refine⟨n/256,k+8,?_,by go_num,?_,?_,?_⟩
     . have h1:=Hc.out;have h2:=Cq.out;rw[<-h2,Nat.pow_add,show(2:Nat)^8=256 by rfl,Nat.mul_comm (2^k),<-Nat.mul_assoc];congr 1;omega
     . rw[<-WC.out];exact Hm.out.set 1 _
     . exact Hr.out.aA9 ⟨w.heap.size,1,none⟩ zp _
     . exact Hb.out.setCell zp _
    case measure=>exact bf
  . have hC1:((C:Int)==0)=false:=by simp;omega
    go_wp2_with fail;clear m1 fm1 hsz gY hsl Gp hC1 hC pY;go_loopw[1] (λx wr=>∃n k:Nat,n*2^k=v/\x=af (e+k)/\ar wr w.heap.size 43 [ag s,ah (nt n)]/\ar wr (w.heap.size+1) 45 [ag false,.string ⟨#[]⟩,af 0]/\Bw w wr) (λx _=>(e+Bn+100-intOf x).toNat);case atStart=>exact⟨n,k,Cq.out,rfl,Hm.out,Hr.out,Hb.out⟩
    case round=>
     clear Hm Hr Hb Cq HM WC Hc hk hn;obtain⟨n,k,wH,rfl,hm,hr,hb⟩:=hrel;obtain⟨hk,hn⟩:=aP.out n k wH;obtain⟨M,c,hM,LN,hc⟩:=ae9 hn;obtain⟨Hr,Cq,HM⟩:=bL hr wH hM;have hnl:=XP.out n k wH;have Gp:M.length+1<=1048576:=by rw[hM]at hnl;simpa using hnl
     have Hm:Hid (ar wr w.heap.size 43 [ag s,ah (M++[c])]):=by rw[hM]at hm;exact hm
     have m0:wr.cell? ⟨w.heap.size,0,none⟩=some (ag s):=Hm.out.cell 0;have m1:wr.cell? ⟨w.heap.size,1,none⟩=some (ah (M++[c])):=Hm.out.cell 1;have hsz:(bs (M++[c])).size=M.length+1:=by rw[kP];simp
     have gY:=uV (M++[c]) (M.length:Int) M.length zm rfl;have qp:(M++[c])[M.length]'zm=c:=by simp
     rw[qp]at gY;obtain⟨C,hC⟩:=az c.toNat;rw[hC]at gY hc;have azl:=hb.size;have iH:=aj hb;clear hm hr hb wH LN qp hC;by_cases hev:n%2=0
     . obtain⟨n',rfl⟩:∃n',n=2*n':=⟨n/2,by omega⟩;have TB:(C:Int)%2=0:=by omega
       have hh:=λW=>avp s n' W zo (Nat.le_trans hnl zd);rw[hM]at hh;have Hh:=aj hh;have Hb:=hbz wr;clear hh hM hnl hc;go_wp2_with fail;have lmm:=Hm.out.lt;have lrr:=Hr.out.lt;go_region_with (first| (go_at_call 135;refine(avu _).mono ?_;rintro e3 w3 ⟨rfl,hb3⟩;replace hb3:=cS hb3;have Kf:=aj (Hm.out.below hb3);have m03:w3.cell? ⟨w.heap.size,0,none⟩=some (ag s):=Kf.out.cell 0;have m13:w3.cell? ⟨w.heap.size,1,none⟩=some (ah (M++[c])):=Kf.out.cell 1) | (go_at_call 217;refine(Hh.out _).mono ?_;rintro e4 w4 ⟨rfl,hb4⟩;have Co:=aj (Kf.out.below hb4);have m04:w4.cell? ⟨w.heap.size,0,none⟩=some (ag s):=Co.out.cell 0;have m14:w4.cell? ⟨w.heap.size,1,none⟩=some (ah (M++[c])):=Co.out.cell 1;have ao2:=Co.out.free 0;have ao4:=Co.out.free 1))
       all_goals
        have HBm:=aj (aC (aC iH.out hb3) hb4)
        have Hm4:=aj ((Co.out.set 0 (ag s)).set 1 (ah (nt n')))
        have zZ:=aj ((((Hr.out.below hb3).below hb4).aA9 ⟨w.heap.size,0,none⟩ zp (ag s)).aA9 ⟨w.heap.size,1,none⟩ zp (ah (nt n')))
        clear m0 m1 m03 m13 m04 m14 ao2 ao4 TB gY hb3 hb4 Kf Co
        go_wp2
        go_roundw
        case rel=>
         refine⟨n',k+1,?_,by go_num,Hm4.out,zZ.out,?_⟩
         . rw[<-Cq.out,Nat.pow_succ,Nat.mul_comm (2^k) 2,<-Nat.mul_assoc,Nat.mul_comm n' 2]
         . exact(HBm.out.setCell zp _).setCell zp _
        case measure=>exact bf
     . have TB:((C:Int)%2==0)=false:=by simp;omega
       have hod:n%2=1:=by omega
       have hfin:=amy s n (e+k) hod;rw[PP.out n k Cq.out,HM.out]at hfin;have nV:=aj hfin;have r0:wr.cell? ⟨w.heap.size+1,0,none⟩=some (ag false):=Hr.out.cell 0;have r1:wr.cell? ⟨w.heap.size+1,1,none⟩=some (.string ⟨#[]⟩):=Hr.out.cell 1;have r2:wr.cell? ⟨w.heap.size+1,2,none⟩=some (af 0):=Hr.out.cell 2;have aX:=Hr.out.free 0;have aY:=Hr.out.free 1;have mA:=Hr.out.free 2;clear hM hnl hc hod hfin hev;go_wp2;refine bodyPost_ret (v:=.agg #[ag s,ah (M++[c]),af (e+k)]) (by simp[results,Tryz.results134,go_sem,r0,r1,r2]) rfl ⟨?_,?_⟩
       . have h1:=nV.out;unfold canon at h1;simp only[Prod.mk.injEq]at h1;rw[<-h1.1,<-h1.2.1,<-h1.2.2]
       . exact(((iH.out.setCell zp _).setCell zp _).setCell zp _)
def Vf (s:Bool)(l:List UInt8)(e:Int)(D:Dyadic)(hD:dval (s,l,e)=D)(w:World)(hl:l.length<=1048576)(he: -1099511627776<=e/\e<=1099511627776):
 Cv 134 #[.agg #[ag s,ah l],af e] w (bN D):=by
 rcases Nat.eq_zero_or_pos (nv l)with h0|h0
 . have:D=0:=by rw[<-hD];exact QZ s l e (by unfold iv;rw[h0];split<;>rfl)
   rw[this];exact avr s l e w hl h0
 . exact avq s l e D hD w hl he h0
end Go.Proofs.YtpfgffadgkkedaaGreatDoor
namespace Go.Proofs.YtpfgffadgkkedaaGreatDoor
end Go.Proofs.YtpfgffadgkkedaaGreatDoor
namespace Go.Proofs.YtpfgffadgkkedaaGreatDoor
open Go.RowKit
end Go.Proofs.YtpfgffadgkkedaaGreatDoor
namespace Go.Proofs.YtpfgffadgkkedaaGreatDoor
end Go.Proofs.YtpfgffadgkkedaaGreatDoor
namespace Go.Proofs.YtpfgffadgkkedaaGreatDoor
open Go.RowKit
attribute [local go_sem ↓] Go.wp_at_zero Go.wp_at_succ
def mW (x:Raw):Prop:=x.2.1.length<=16384/\ -16384<=x.2.2/\x.2.2<=16384
def mW.sm {x:Raw}(h:mW x):Sm 262144 (dval x):=Sm.raw (B:=131072) (by have:=h.1;omega) (by have:=h.2.1;omega) (by have:=h.2.2;omega)
def Sm.aBe {B:Nat}{d:Dyadic}(h:Sm B d)(hB:B<=16384):mW (canon d):=by obtain⟨h1,h2,h3⟩:=h.parts;exact⟨lA h1 zo,by show-16384<=dE d;omega,by show dE d<=16384;omega⟩
def mW.ok {x:Raw}(h:mW x):Ok x:=⟨by have:=h.1;omega,by have:=h.2.1;omega,by have:=h.2.2;omega⟩
def Jc (s:Bool)(l:List UInt8)(e:Int)(D:Dyadic)(hD:dval (s,l,e)=D)(w:World)(hx:mW (s,l,e)):
 Cv 99 #[.agg #[ag s,ah l,af e]] w (bN D):=by
 have h1:=λW=>Vf s l e D hD W (by have:=hx.1;simp only at this;omega) (by have:=hx.2;simp only at this;omega);have H1:=aj h1;clear h1 hD hx;obtain⟨W,bX,ae,ai⟩:=jz w 45 [ag s,ah l,af e] 45 [ag false,.string ⟨#[]⟩,af 0];go_enter Tryz.func99,Tryz.ntmps99;go_wp2_with fail;refine aK ae (H1.out _) λw1 ae ai=>?_;go_wp2;refine dG (aO w1 (w.heap.size+1) 0 (bu D)) aR ?_;intro w9 hs0;have ae:=bD hs0 ae;simp only[bz,List.set]at ae;have ai:=qC ae;refine bodyPost_ret (v:=bN D) (by simp[results,Tryz.results99,go_sem,ai]) rfl ⟨rfl,ae.1.out⟩
def Vg (s:Bool)(l:List UInt8)(e:Int)(g:Int)(hg:bi (dval (s,l,e))=g)(w:World)(hl:l.length<=68719476736):
 Cv 64 #[.agg #[ag s,ah l,af e]] w (af g):=by
 have h1:=λW=>avD s l W hl;rw[show eo (iv s l)=g by rw[<-hg];exact Vr s l e]at h1;have H1:=aj h1;clear h1 hg hl;obtain⟨W,bX,ae,ai⟩:=fK w 45 [ag s,ah l,af e];go_enter Tryz.func64,Tryz.ntmps64;go_wp2_with fail;refine aK ae (H1.out _) λw1 ae ai=>?_;go_wp2;go_ret;exact⟨rfl,ae.1.out⟩
def afb (n:Nat):n<256^(nt n).length:=by have:=ib (nt n);rwa [ji]at this
def auG (A C S:Dyadic)(hS:A+C=S)(p:Nat)(hp:dE A-dE C=(p:Int))(Z1 Z:Int)(h1:dN A*2^p=Z1)(h2:Z1+dN C=Z):dval (au Z,nt Z.natAbs,dE C)=S:=by
 rw[Aq,<-h2,<-h1,<-ve,<-hS];congr 1
 . have:=qK (dN A) p (-(dE A));rw[show-(dE C)= -(dE A)+(p:Int)by omega,this];exact(vg A).symm
 . exact(vg C).symm
def avw (s:Bool)(l:List UInt8)(e:Int)(t:Bool)(m:List UInt8)(f:Int)(S:Dyadic)(hS:dval (s,l,e)+dval (t,m,f)=S)(w:World)(hx:mW (s,l,e))(hy:mW (t,m,f)):
 Cv 144 #[.agg #[ag s,ah l,af e],.agg #[ag t,ah m,af f]] w (bN S):=by
 obtain⟨A,hA⟩:=az (dval (s,l,e));obtain⟨C,hC⟩:=az (dval (t,m,f));have tq:=hx.sm;have Dc:=hy.sm;rw[hA]at tq;rw[hC]at Dc;obtain⟨a1,a2,a3⟩:=tq.parts;obtain⟨c1,c2,c3⟩:=Dc.parts;have la:(nt (dN A).natAbs).length<=65536:=lA a1 zo;have lc:(nt (dN C).natAbs).length<=65536:=lA c1 zo;have dz:=λW=>Jc s l e A hA W hx;have jP:=λW=>Jc t m f C hC W hy;rw[hA,hC]at hS;have qE:=λW=>Vg (au (dN A)) (nt (dN A).natAbs) (dE A) (bi A) (by show bi (dval (canon A))=_;rw[bA]) W zo;have Bg:=λW=>Vg (au (dN C)) (nt (dN C).natAbs) (dE C) (bi C) (by show bi (dval (canon C))=_;rw[bA]) W zo;have Du:(bi A==0)=true↔A=0:=by rw[<-Bool.not_eq_false];rw[xS];simp
 have Dw:(bi C==0)=true↔C=0:=by rw[<-Bool.not_eq_false];rw[xS];simp
 have hpl:=λ(A C:Dyadic) (hS:A+C=S) (Rt:(nt (dN A).natAbs).length<=65536) (hC1:(nt (dN C).natAbs).length<=65536) (p:Nat) (hp:dE A-dE C=(p:Int)) (Bc:p<=524288) (Rz: -262144<=dE C/\dE C<=262144)=>(show ∃Z1 Z:Int,(∀W,Cv 223 #[.agg #[ag (au (dN A)),ah (nt (dN A).natAbs)],af (p:Int)] W (.agg #[ag (au Z1),ah (nt Z1.natAbs)]))/\(∀W,Cv 222 #[.agg #[ag (au Z1),ah (nt Z1.natAbs)],.agg #[ag (au (dN C)),ah (nt (dN C).natAbs)]] W (.agg #[ag (au Z),ah (nt Z.natAbs)]))/\(∀W,Cv 134 #[.agg #[ag (au Z),ah (nt Z.natAbs)],af (dE C)] W (bN S))from by
  obtain⟨Z1,h1⟩:=az (dN A*2^p);obtain⟨Z,h2⟩:=az (Z1+dN C);have l1:(nt Z1.natAbs).length<=589824:=by
   have e1:Z1.natAbs=nv (nt (dN A).natAbs) *2^p:=by rw[<-h1,Int.natAbs_mul,ji];simp[Int.natAbs_pow]
   rw[e1];exact Nat.le_trans (afa _ p) zo
  have l2:(nt Z.natAbs).length<=589825:=by
   obtain⟨K,hK⟩:=az (589824);rw[hK]at l1;have lcK:(nt (dN C).natAbs).length<=K:=by omega
   have hle:(nt Z.natAbs).length<=K+1:=by
    refine ky ?_;have b1:Z1.natAbs<256^K:=Nat.lt_of_lt_of_le (afb _) (Nat.pow_le_pow_right zd l1);have b2:(dN C).natAbs<256^K:=Nat.lt_of_lt_of_le (afb _) (Nat.pow_le_pow_right zd lcK);have b3:Z.natAbs<=Z1.natAbs+(dN C).natAbs:=by rw[<-h2];exact Int.natAbs_add_le _ _
    rw[Nat.pow_succ];omega
   omega
  refine⟨Z1,Z,λW=>avB _ _ p Z1 (by rw[fu];exact h1) W zo zo,λW=>avv _ _ _ _ Z (by rw[fu,fu];exact h2) W zo zo,λW=>Vf _ _ (dE C) S (auG A C S hS p hp Z1 Z h1 h2) W zo zo⟩)
 have Be:=hpl;by_cases om:A=0
 . have zA:=Du.2 om;have RA:C=S:=by rw[<-hS,om];grind
   subst RA;obtain⟨iU,pO,Ab⟩:=bL dz jP qE;clear dz jP qE Bg hpl Be Du Dw om hA hC hS tq Dc a1 a2 a3 c1 c2 c3 la lc hx hy;obtain⟨W,bX,ae,ai⟩:=yY w 45 [ag s,ah l,af e] 45 [ag t,ah m,af f] 45 [ag false,.string ⟨#[]⟩,af 0];go_enter Tryz.func144,Tryz.ntmps144;go_wp2_with fail;refine df 4 ae (cQ 6 0xa0806020501) ?_;refine bC ?_;refine bP ae (iU.out _) λw1 ae=>?_;refine bP ae (pO.out _) λw2 ae=>?_;have ai:=qC ae;refine qOp λK hK=>?_;go_simp;refine hK _ _ (λh=>absurd h zd) ?_
   refine cg (aO w2 (w.heap.size) 0 (bu A)) aR ?_;intro w3 hs0;have ae:=bD hs0 ae;simp only[bz,List.set]at ae;have ai:=qC ae;have ai:=qC ae;refine qOp λK hK=>?_;go_simp;refine hK _ _ (λh=>absurd h zd) ?_
   refine cg (aO w3 (w.heap.size+1) 0 (bu C)) aR ?_;intro w4 hs0;have ae:=bD hs0 ae;simp only[bz,List.set]at ae;have ai:=qC ae;refine cZ ae λai=>?_;go_wp2_with fail;refine aK ae (Ab.out _) λw5 ae ai=>?_;go_wp2;refine dG (aO w5 (w.heap.size+1+1) 0 (bu C)) aR ?_;intro w9 hs0;have ae:=bD hs0 ae;simp only[bz,List.set]at ae;have ai:=qC ae;refine bodyPost_ret (v:=bN C) (by simp[results,Tryz.results144,go_sem,ai]) rfl ⟨rfl,ae.1.out⟩
 have zA:(bi A==0)=false:=by rw[<-Bool.not_eq_true];exact λh=>om (Du.1 h)
 by_cases pY:C=0
 . have zC:=Dw.2 pY;have RA:A=S:=by rw[<-hS,pY];grind
   subst RA;obtain⟨iU,pO,Ab,Fq⟩:=cE dz jP qE Bg;clear dz jP qE Bg hpl Be Du Dw om pY hA hC hS tq Dc a1 a2 a3 c1 c2 c3 la lc hx hy;obtain⟨W,bX,ae,ai⟩:=yY w 45 [ag s,ah l,af e] 45 [ag t,ah m,af f] 45 [ag false,.string ⟨#[]⟩,af 0];go_enter Tryz.func144,Tryz.ntmps144;go_wp2_with fail;refine df 4 ae (cQ 6 0xa0806020501) ?_;refine bC ?_;refine bP ae (iU.out _) λw1 ae=>?_;refine bP ae (pO.out _) λw2 ae=>?_;have ai:=qC ae;refine qOp λK hK=>?_;go_simp;refine hK _ _ (λh=>absurd h zd) ?_
   refine cg (aO w2 (w.heap.size) 0 (bu A)) aR ?_;intro w3 hs0;have ae:=bD hs0 ae;simp only[bz,List.set]at ae;have ai:=qC ae;have ai:=qC ae;refine qOp λK hK=>?_;go_simp;refine hK _ _ (λh=>absurd h zd) ?_
   refine cg (aO w3 (w.heap.size+1) 0 (bu C)) aR ?_;intro w4 hs0;have ae:=bD hs0 ae;simp only[bz,List.set]at ae;have ai:=qC ae;refine cZ ae λai=>?_;go_wp2_with fail;refine aK ae (Ab.out _) λw5 ae ai=>?_;go_wp2_with fail;refine aK ae (Fq.out _) λw6 ae ai=>?_;go_wp2;refine dG (aO w6 (w.heap.size+1+1) 0 (bu A)) aR ?_;intro w9 hs0;have ae:=bD hs0 ae;simp only[bz,List.set]at ae;have ai:=qC ae;refine bodyPost_ret (v:=bN A) (by simp[results,Tryz.results144,go_sem,ai]) rfl ⟨rfl,ae.1.out⟩
 have zC:(bi C==0)=false:=by rw[<-Bool.not_eq_true];exact λh=>pY (Dw.1 h)
 by_cases hEE:dE A<dE C
 . obtain⟨p,hp⟩:∃p:Nat,dE C-dE A=(p:Int):=⟨(dE C-dE A).toNat,by omega⟩;obtain⟨Z1,Z,g1,g2,g3⟩:=hpl C A (by rw[<-hS];grind) lc la p hp zo zo;have hwr:IntKind.i64.wrap (dE C-dE A)=(p:Int):=by rw[IntKind.wrap_i64];omega
   obtain⟨iU,pO,Ab,Fq,G1,G2,G3⟩:=jx dz jP qE Bg g1 g2 g3;clear dz jP qE Bg hpl Be Du Dw om pY hA hC hS tq Dc a1 a2 a3 c1 c2 c3 la lc hx hy g1 g2 g3 hp;obtain⟨W,bX,ae,ai⟩:=yY w 45 [ag s,ah l,af e] 45 [ag t,ah m,af f] 45 [ag false,.string ⟨#[]⟩,af 0];go_enter Tryz.func144,Tryz.ntmps144;go_wp2_with fail;refine df 4 ae (cQ 6 0xa0806020501) ?_;refine bC ?_;refine bP ae (iU.out _) λw1 ae=>?_;refine bP ae (pO.out _) λw2 ae=>?_;have ai:=qC ae;refine qOp λK hK=>?_;go_simp;refine hK _ _ (λh=>absurd h zd) ?_
   refine cg (aO w2 (w.heap.size) 0 (bu A)) aR ?_;intro w3 hs0;have ae:=bD hs0 ae;simp only[bz,List.set]at ae;have ai:=qC ae;have ai:=qC ae;refine qOp λK hK=>?_;go_simp;refine hK _ _ (λh=>absurd h zd) ?_
   refine cg (aO w3 (w.heap.size+1) 0 (bu C)) aR ?_;intro w4 hs0;have ae:=bD hs0 ae;simp only[bz,List.set]at ae;have ai:=qC ae;refine cZ ae λai=>?_;go_wp2_with fail;refine aK ae (Ab.out _) λw5 ae ai=>?_;go_wp2_with fail;refine aK ae (Fq.out _) λw6 ae ai=>?_;go_wp2_with fail;first|refine eG (λiJ=>∃fe,aO w6 (w.heap.size) 0 (bu C) fe/\aO fe (w.heap.size+1) 0 (bu A) iJ) ⟨_,aR,aR⟩ ?_|refine eF (λiJ=>∃fe,aO w6 (w.heap.size) 0 (bu C) fe/\aO fe (w.heap.size+1) 0 (bu A) iJ) ⟨_,aR,aR⟩ ?_
   rintro w7 ⟨_,hs0,hs1⟩;have ae:=bD hs1 (bD hs0 ae);simp only[bz,List.set]at ae;have ai:=qC ae;refine df 14 ae (cQ 15 0x1c1a140e191713110d0b0907050301) ?_;refine bC ?_;refine bP ae (G1.out _) λmV ae=>?_;refine bP ae (G2.out _) λVI ae=>?_;refine bP ae (G3.out _) λrT ae=>?_;have ai:=qC ae;refine qOp λK hK=>?_;go_simp;refine hK _ _ (λh=>absurd h zd) ?_
   refine cg (aO rT (w.heap.size+1+1) 0 (bu S)) aR ?_;intro rU hs0;have ae:=bD hs0 ae;simp only[bz,List.set]at ae;have ai:=qC ae;refine cZ ae λai=>?_;have Hb:=ae.1;have r0:rU.cell? ⟨w.heap.size+1+1,0,none⟩=some (ag (au (dN S))):=ae.2.2.2.1.out.cell 0;have r1:rU.cell? ⟨w.heap.size+1+1,1,none⟩=some (ah (nt (dN S).natAbs)):=ae.2.2.2.1.out.cell 1;have r2:rU.cell? ⟨w.heap.size+1+1,2,none⟩=some (af (dE S)):=ae.2.2.2.1.out.cell 2;go_wp2;exact bodyPost_ret (v:=bN S) (by simp[results,Tryz.results144,go_sem,r0,r1,r2,ai]) rfl ⟨rfl,cM⟩
 . obtain⟨p,hp⟩:∃p:Nat,dE A-dE C=(p:Int):=⟨(dE A-dE C).toNat,by omega⟩;obtain⟨Z1,Z,g1,g2,g3⟩:=hpl A C hS la lc p hp zo zo;have hwr:IntKind.i64.wrap (dE A-dE C)=(p:Int):=by rw[IntKind.wrap_i64];omega
   obtain⟨iU,pO,Ab,Fq,G1,G2,G3⟩:=jx dz jP qE Bg g1 g2 g3;clear dz jP qE Bg hpl Be Du Dw om pY hA hC hS tq Dc a1 a2 a3 c1 c2 c3 la lc hx hy g1 g2 g3 hp;obtain⟨W,bX,ae,ai⟩:=yY w 45 [ag s,ah l,af e] 45 [ag t,ah m,af f] 45 [ag false,.string ⟨#[]⟩,af 0];go_enter Tryz.func144,Tryz.ntmps144;go_wp2_with fail;refine df 4 ae (cQ 6 0xa0806020501) ?_;refine bC ?_;refine bP ae (iU.out _) λw1 ae=>?_;refine bP ae (pO.out _) λw2 ae=>?_;have ai:=qC ae;refine qOp λK hK=>?_;go_simp;refine hK _ _ (λh=>absurd h zd) ?_
   refine cg (aO w2 (w.heap.size) 0 (bu A)) aR ?_;intro w3 hs0;have ae:=bD hs0 ae;simp only[bz,List.set]at ae;have ai:=qC ae;have ai:=qC ae;refine qOp λK hK=>?_;go_simp;refine hK _ _ (λh=>absurd h zd) ?_
   refine cg (aO w3 (w.heap.size+1) 0 (bu C)) aR ?_;intro w4 hs0;have ae:=bD hs0 ae;simp only[bz,List.set]at ae;have ai:=qC ae;refine cZ ae λai=>?_;go_wp2_with fail;refine aK ae (Ab.out _) λw5 ae ai=>?_;go_wp2_with fail;refine aK ae (Fq.out _) λw6 ae ai=>?_;go_wp2_with fail;refine df 14 ae (cQ 15 0x1c1a140e191713110d0b0907050301) ?_;refine bC ?_;refine bP ae (G1.out _) λmV ae=>?_;refine bP ae (G2.out _) λVI ae=>?_;refine bP ae (G3.out _) λrT ae=>?_;have ai:=qC ae;refine qOp λK hK=>?_;go_simp;refine hK _ _ (λh=>absurd h zd) ?_
   refine cg (aO rT (w.heap.size+1+1) 0 (bu S)) aR ?_;intro rU hs0;have ae:=bD hs0 ae;simp only[bz,List.set]at ae;have ai:=qC ae;refine cZ ae λai=>?_;have Hb:=ae.1;have r0:rU.cell? ⟨w.heap.size+1+1,0,none⟩=some (ag (au (dN S))):=ae.2.2.2.1.out.cell 0;have r1:rU.cell? ⟨w.heap.size+1+1,1,none⟩=some (ah (nt (dN S).natAbs)):=ae.2.2.2.1.out.cell 1;have r2:rU.cell? ⟨w.heap.size+1+1,2,none⟩=some (af (dE S)):=ae.2.2.2.1.out.cell 2;go_wp2;exact bodyPost_ret (v:=bN S) (by simp[results,Tryz.results144,go_sem,r0,r1,r2,ai]) rfl ⟨rfl,cM⟩
end Go.Proofs.YtpfgffadgkkedaaGreatDoor
