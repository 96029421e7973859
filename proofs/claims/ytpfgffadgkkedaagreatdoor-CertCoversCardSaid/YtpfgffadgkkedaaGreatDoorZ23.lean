/- Package ogeeref04: Make. -/
import Derived.Test.YtpfgffadgkkedaaGreatDoorZ7
import Derived.Test.YtpfgffadgkkedaaGreatDoorZ17
import Derived.Deep.RegionWith
import Derived.Test.YtpfgffadgkkedaaGreatDoorZ22
import Derived.Test.YtpfgffadgkkedaaGreatDoorZ11
import Derived.Test.YtpfgffadgkkedaaGreatDoorZ13
import Derived.Test.YtpfgffadgkkedaaGreatDoorZ9
set_option linter.all false
set_option maxRecDepth 100000
set_option maxHeartbeats 16000000
namespace Go.Proofs.YtpfgffadgkkedaaGreatDoor
open Go.RowKit
attribute [local go_sem ↓] Go.wp_at_zero Go.wp_at_succ
def alo (M:List UInt8)(c:UInt8):(bs (M++[c])).extract 0 M.length=bs M:=by apply ByteArray.ext;unfold bs;rw[ByteArray.data_extract];simp
def au2 (M:List UInt8)(c:UInt8)(i:Int)(hi:i=M.length)(W:World):
 (Instr.sliceAt 9 (ah (M++[c])) none (some (af i)) none).run Tryz.prog W=.ok (ah M) W:=by
 subst hi;have h:=run_slice_string_h (P:=Tryz.prog) W 9 (bs (M++[c])) Tryz.underlying9 .i64 M.length zo (by rw[mR];simp<;>omega);simp only[Int.toNat_natCast,alo M c]at h;simpa[Instr.sliceAt,run_underlying Tryz.underlying9]using h
def alD (s:Bool)(n:Nat)(e:Int)(h:n%2=1):canon (dval (s,nt n,e))=(s,nt n,e):=by
 have h0:iv s (nt n)≠0:=by rw[rN];split<;>omega
 obtain⟨h1,h2⟩:=Rb s (nt n) e h0;have ht:tz n=0:=by have:=af0 0 (n/2);rw[show 2^0* (2* (n/2)+1)=n by omega]at this;exact this
 rw[jl,ht]at h1 h2;unfold canon;rw[h1,h2];have e1:iv s (nt n)/2^0=iv s (nt n):=by simp
 rw[e1,TZ,uf,jl];have e3:(nt n).isEmpty=false:=by
  have:=Nf (n:=n) zo;cases h:nt n with
  |nil=>exact absurd h this
  |cons a b=>rfl
 rw[e3];simp
def anu (s:Bool)(l:List UInt8)(n k:Nat)(e:Int)(h:n*2^k=nv l):dval (s,nt n,e+k)=dval (s,l,e):=by
 unfold dval;have e1:iv s l=iv s (nt n) *2^k:=by
  rw[rN];unfold iv;rw[<-h];split
  . rw[Int.neg_mul];simp
  . simp
 simp only[e1];rw[<-rT (iv s (nt n)) k (-(e+k))];congr 1;omega
def atF {n k v b:Nat}(h:n*2^k=v)(h0:0<v)(hv:v<2^b):k<b/\0<n:=by
 have hn:0<n:=by
  rcases Nat.eq_zero_or_pos n with h1|h1
  . subst h1;simp at h;omega
  . exact h1
 refine⟨?_,hn⟩;rcases Nat.lt_or_ge k b with h1|h1
 . exact h1
 . have h2:=Nat.pow_le_pow_right (show 0<2 by decide) h1;have h3:2^k<=n*2^k:=Nat.le_mul_of_pos_left _ hn;omega
def aus (w:World):Cv 135 #[af 2] w (.agg #[ag false,ah (nt 2)]):=aff 2 w zd
def aeK {n:Nat}(h:0<n):∃M c,nt n=M++[c]/\M=nt (n/256)/\c.toNat=n%256:=⟨_,_,Jf h,rfl,Ld n⟩
def aup (s:Bool)(l:List UInt8)(e:Int)(w:World)(hl:l.length<=1048576)(h0:nv l=0):
 Cv 134 #[.agg #[ag s,ah l],af e] w (bT 0):=by
 have hf:=λW=>Jr s l W zo;simp only[h0,BJ,List.isEmpty_nil,Bool.not_true,Bool.and_false]at hf;have Hf:=aj hf;have hem:(bs []).toList.isEmpty=true:=by rw[wj];rfl
 clear hf h0;obtain⟨W,cd,ae,ai⟩:=kF w 43 [ag s,ah l] 45 [ag false,.string ⟨#[]⟩,af 0];go_enter Tryz.func134,Tryz.ntmps134;go_wp2_with fail;refine aK ae (Hf.out _) λw1 ae ai=>?_;go_wp2;have r1:w1.cell? ⟨w.heap.size+1,1,none⟩=some (.string ⟨#[]⟩):=ae.2.2.1.out.cell 1;have r0:w1.cell? ⟨w.heap.size+1,0,none⟩=some (ag false):=ae.2.2.1.out.cell 0;have r2:w1.cell? ⟨w.heap.size+1,2,none⟩=some (af 0):=ae.2.2.1.out.cell 2;refine bodyPost_ret (v:=.agg #[ag false,.string ⟨#[]⟩,af 0]) (by simp[results,Tryz.results134,go_sem,r0,r1,r2]) rfl ⟨rfl,?_⟩;(repeat first|exact ae.1.out| (refine Below.setCell ?_ (by have:=ae.1.out.size;first| (dsimp only;omega) | (show _<=_;omega) | (simp<;>omega)) _) |refine Below.drew ?_)
def auo (s:Bool)(l:List UInt8)(e:Int)(D:Dyadic)(hD:dval (s,l,e)=D)(w:World)(hl:l.length<=1048576)(he: -1099511627776<=e/\e<=1099511627776)(h0:0<nv l):
 Cv 134 #[.agg #[ag s,ah l],af e] w (bT D):=by
 have hf:=λW=>Jr s l W zo;have e3:(nt (nv l)).isEmpty=false:=by
  have:=Nf h0;cases h:nt (nv l)with
  |nil=>exact absurd h this
  |cons a b=>rfl
 rw[e3]at hf;simp only[Bool.not_false,Bool.and_true]at hf;have hvb:=rQ l;obtain⟨v,hv⟩:=au (nv l);rw[hv]at h0 hvb;simp only[hv]at hf;have hup:∀n k:Nat,n*2^k=v->dval (s,nt n,e+k)=D:=λn k h=>by rw[<-hD];exact anu s l n k e (by rw[hv];exact h)
 obtain⟨Bn,hBn⟩:=au (8*l.length);have hpb:∀n k:Nat,n*2^k=v->k<Bn/\0<n:=λn k h=>by rw[<-hBn];exact atF h h0 hvb
 have hBl:Bn<=8388608:=by omega
 obtain⟨Hf,PW,aP⟩:=bM hf hup hpb;have ayv:(bs (nt v)).toList.isEmpty=false:=by rw[wj,<-hv];exact e3
 have acK:∀n k:Nat,n*2^k=v->(nt n).length<=1048576:=λn k h=>by refine Nat.le_trans (kC (Nat.lt_of_le_of_lt (Nat.le_mul_of_pos_right n (Nat.pow_pos (n:=k) (show 0<2 by decide))) ?_)) hl;rw[h,<-hv];exact ia l
 have XQ:=aj acK;clear hf e3 hvb hup hpb hBn hD hv h0 acK;obtain⟨W,cd,ae,ai⟩:=kF w 43 [ag s,ah l] 45 [ag false,.string ⟨#[]⟩,af 0];go_enter Tryz.func134,Tryz.ntmps134;go_wp2_with fail;refine aK ae (Hf.out _) λw1 ae ai=>?_;go_wp2_with fail;first|refine eN (aN w1 (w.heap.size) 0 [ag s,ah (nt v)]) aR ?_|refine eJ (aN w1 (w.heap.size) 0 [ag s,ah (nt v)]) aR ?_
 intro w2 hs0;have ae:=bC hs0 ae;simp only[bD,List.set]at ae;have ai:=qC ae;skip
 have lm:=ae.2.1.out.lt;have lr:=ae.2.2.1.out.lt;go_loopw[1] (λx wr=>∃n k:Nat,n*2^k=v/\x=af (e+k)/\ar wr w.heap.size 43 [ag s,ah (nt n)]/\ar wr (w.heap.size+1) 45 [ag false,.string ⟨#[]⟩,af 0]/\Bw w wr) (λx _=>(e+Bn+100-intOf x).toNat);case atStart=>exact⟨v,0,by simp,by simp,ae.2.1.out,ae.2.2.1.out,ae.1.out⟩
 case round=>
  skip
  obtain⟨n,k,wQ,rfl,hm,hr,hb⟩:=hrel;obtain⟨hk,hn⟩:=aP.out n k wQ;obtain⟨M,c,hM,Az,hc⟩:=aeK hn;obtain⟨Hm,Hr,Hb,Cq,HM,WH⟩:=fZ hm hr hb wQ hM Az;have hnl:=XQ.out n k wQ;have Gs:M.length+1<=1048576:=by rw[hM]at hnl;simpa using hnl
  have m1:wr.cell? ⟨w.heap.size,1,none⟩=some (ah (M++[c])):=by rw[<-hM];exact hm.cell 1
  have fm1:wr.frozen? ⟨w.heap.size,1,none⟩=false:=hm.free 1;have hsz:(bs (M++[c])).size=M.length+1:=by rw[mR];simp
  have gV:=vk (M++[c]) (M.length:Int) M.length zm rfl;have ql:(M++[c])[M.length]'zm=c:=by simp
  rw[ql]at gV;obtain⟨C,hC⟩:=au c.toNat;rw[hC]at gV hc;have hsl:=au2 M c (M.length:Int) rfl;have Hc:=aj hc;clear hm hr hb wQ hM Az ql hc hnl;by_cases pR:C=0
  . subst pR;go_wp2;go_roundw;case rel=>
     refine⟨n/256,k+8,?_,by go_num,?_,?_,?_⟩
     . have h1:=Hc.out;have h2:=Cq.out;rw[<-h2,Nat.pow_add,show(2:Nat)^8=256 by rfl,Nat.mul_comm (2^k),<-Nat.mul_assoc];congr 1;omega
     . rw[<-WH.out];exact Hm.out.set 1 _
     . exact Hr.out.azV ⟨w.heap.size,1,none⟩ zp _
     . exact Hb.out.setCell zp _
    case measure=>exact bi
  . have hC1:((C:Int)==0)=false:=by simp;omega
    go_wp2_with fail;clear m1 fm1 hsz gV hsl Gs hC1 hC pR;go_loopw[1] (λx wr=>∃n k:Nat,n*2^k=v/\x=af (e+k)/\ar wr w.heap.size 43 [ag s,ah (nt n)]/\ar wr (w.heap.size+1) 45 [ag false,.string ⟨#[]⟩,af 0]/\Bw w wr) (λx _=>(e+Bn+100-intOf x).toNat);case atStart=>exact⟨n,k,Cq.out,rfl,Hm.out,Hr.out,Hb.out⟩
    case round=>
     clear Hm Hr Hb Cq HM WH Hc hk hn;obtain⟨n,k,wQ,rfl,hm,hr,hb⟩:=hrel;obtain⟨hk,hn⟩:=aP.out n k wQ;obtain⟨M,c,hM,Az,hc⟩:=aeK hn;obtain⟨Hr,Cq,HM⟩:=bM hr wQ hM;have hnl:=XQ.out n k wQ;have Gs:M.length+1<=1048576:=by rw[hM]at hnl;simpa using hnl
     have Hm:Hid (ar wr w.heap.size 43 [ag s,ah (M++[c])]):=by rw[hM]at hm;exact hm
     have m0:wr.cell? ⟨w.heap.size,0,none⟩=some (ag s):=Hm.out.cell 0;have m1:wr.cell? ⟨w.heap.size,1,none⟩=some (ah (M++[c])):=Hm.out.cell 1;have hsz:(bs (M++[c])).size=M.length+1:=by rw[mR];simp
     have gV:=vk (M++[c]) (M.length:Int) M.length zm rfl;have ql:(M++[c])[M.length]'zm=c:=by simp
     rw[ql]at gV;obtain⟨C,hC⟩:=au c.toNat;rw[hC]at gV hc;have ayg:=hb.size;have jC:=aj hb;clear hm hr hb wQ Az ql hC;by_cases hev:n%2=0
     . obtain⟨n',rfl⟩:∃n',n=2*n':=⟨n/2,by omega⟩;have Tz:(C:Int)%2=0:=by omega
       have hh:=λW=>aun s n' W zo (Nat.le_trans hnl zd);rw[hM]at hh;have Hh:=aj hh;have Hb:=hbz wr;clear hh hM hnl hc;go_wp2_with fail;have lmm:=Hm.out.lt;have lrr:=Hr.out.lt;go_region_with (first| (go_at_call 135;refine(aus _).mono ?_;rintro e3 w3 ⟨rfl,hb3⟩;replace hb3:=cM hb3;have Kl:=aj (Hm.out.below hb3);have m03:w3.cell? ⟨w.heap.size,0,none⟩=some (ag s):=Kl.out.cell 0;have m13:w3.cell? ⟨w.heap.size,1,none⟩=some (ah (M++[c])):=Kl.out.cell 1) | (go_at_call 217;refine(Hh.out _).mono ?_;rintro e4 w4 ⟨rfl,hb4⟩;have Co:=aj (Kl.out.below hb4);have m04:w4.cell? ⟨w.heap.size,0,none⟩=some (ag s):=Co.out.cell 0;have m14:w4.cell? ⟨w.heap.size,1,none⟩=some (ah (M++[c])):=Co.out.cell 1;have an4:=Co.out.free 0;have an6:=Co.out.free 1))
       all_goals
        have HBm:=aj (aF (aF jC.out hb3) hb4)
        have Hm4:=aj ((Co.out.set 0 (ag s)).set 1 (ah (nt n')))
        have zY:=aj ((((Hr.out.below hb3).below hb4).azV ⟨w.heap.size,0,none⟩ zp (ag s)).azV ⟨w.heap.size,1,none⟩ zp (ah (nt n')))
        clear m0 m1 m03 m13 m04 m14 an4 an6 Tz gV hb3 hb4 Kl Co
        go_wp2
        go_roundw
        case rel=>
         refine⟨n',k+1,?_,by go_num,Hm4.out,zY.out,?_⟩
         . rw[<-Cq.out,Nat.pow_succ,Nat.mul_comm (2^k) 2,<-Nat.mul_assoc,Nat.mul_comm n' 2]
         . exact(HBm.out.setCell zp _).setCell zp _
        case measure=>exact bi
     . have Tz:((C:Int)%2==0)=false:=by simp;omega
       have hod:n%2=1:=by omega
       have hfin:=alD s n (e+k) hod;rw[PW.out n k Cq.out,HM.out]at hfin;have nP:=aj hfin;have r0:wr.cell? ⟨w.heap.size+1,0,none⟩=some (ag false):=Hr.out.cell 0;have r1:wr.cell? ⟨w.heap.size+1,1,none⟩=some (.string ⟨#[]⟩):=Hr.out.cell 1;have r2:wr.cell? ⟨w.heap.size+1,2,none⟩=some (af 0):=Hr.out.cell 2;have aZ:=Hr.out.free 0;have bf:=Hr.out.free 1;have mS:=Hr.out.free 2;clear hM hnl hc hod hfin hev;go_wp2;refine bodyPost_ret (v:=.agg #[ag s,ah (M++[c]),af (e+k)]) (by simp[results,Tryz.results134,go_sem,r0,r1,r2]) rfl ⟨?_,?_⟩
       . have h1:=nP.out;unfold canon at h1;simp only[Prod.mk.injEq]at h1;rw[<-h1.1,<-h1.2.1,<-h1.2.2]
       . exact(((jC.out.setCell zp _).setCell zp _).setCell zp _)
def Vi (s:Bool)(l:List UInt8)(e:Int)(D:Dyadic)(hD:dval (s,l,e)=D)(w:World)(hl:l.length<=1048576)(he: -1099511627776<=e/\e<=1099511627776):
 Cv 134 #[.agg #[ag s,ah l],af e] w (bT D):=by
 rcases Nat.eq_zero_or_pos (nv l)with h0|h0
 . have:D=0:=by rw[<-hD];exact Rc s l e (by unfold iv;rw[h0];split<;>rfl)
   rw[this];exact aup s l e w hl h0
 . exact auo s l e D hD w hl he h0
end Go.Proofs.YtpfgffadgkkedaaGreatDoor
namespace Go.Proofs.YtpfgffadgkkedaaGreatDoor
end Go.Proofs.YtpfgffadgkkedaaGreatDoor
namespace Go.Proofs.YtpfgffadgkkedaaGreatDoor
open Go.RowKit
end Go.Proofs.YtpfgffadgkkedaaGreatDoor
namespace Go.Proofs.YtpfgffadgkkedaaGreatDoor
end Go.Proofs.YtpfgffadgkkedaaGreatDoor
namespace Go.Proofs.YtpfgffadgkkedaaGreatDoor
open Go.RowKit
attribute [local go_sem ↓] Go.wp_at_zero Go.wp_at_succ
def mK (x:Raw):Prop:=x.2.1.length<=16384/\ -16384<=x.2.2/\x.2.2<=16384
def mK.sm {x:Raw}(h:mK x):Sm 262144 (dval x):=Sm.raw (B:=131072) (by have:=h.1;omega) (by have:=h.2.1;omega) (by have:=h.2.2;omega)
def Sm.az0 {B:Nat}{d:Dyadic}(h:Sm B d)(hB:B<=16384):mK (canon d):=by obtain⟨h1,h2,h3⟩:=h.parts;exact⟨lv h1 zo,by show-16384<=dE d;omega,by show dE d<=16384;omega⟩
def mK.ok {x:Raw}(h:mK x):Ok x:=⟨by have:=h.1;omega,by have:=h.2.1;omega,by have:=h.2.2;omega⟩
def Jq (s:Bool)(l:List UInt8)(e:Int)(D:Dyadic)(hD:dval (s,l,e)=D)(w:World)(hx:mK (s,l,e)):
 Cv 99 #[.agg #[ag s,ah l,af e]] w (bT D):=by
 have h1:=λW=>Vi s l e D hD W (by have:=hx.1;simp only at this;omega) (by have:=hx.2;simp only at this;omega);have H1:=aj h1;clear h1 hD hx;obtain⟨W,cd,ae,ai⟩:=kF w 45 [ag s,ah l,af e] 45 [ag false,.string ⟨#[]⟩,af 0];go_enter Tryz.func99,Tryz.ntmps99;go_wp2_with fail;refine aK ae (H1.out _) λw1 ae ai=>?_;go_wp2;refine dI (aN w1 (w.heap.size+1) 0 (bE D)) aR ?_;intro w9 hs0;have ae:=bC hs0 ae;simp only[bD,List.set]at ae;have ai:=qC ae;refine bodyPost_ret (v:=bT D) (by simp[results,Tryz.results99,go_sem,ai]) rfl ⟨rfl,ae.1.out⟩
def Vj (s:Bool)(l:List UInt8)(e:Int)(g:Int)(hg:bg (dval (s,l,e))=g)(w:World)(hl:l.length<=68719476736):
 Cv 64 #[.agg #[ag s,ah l,af e]] w (af g):=by
 have h1:=λW=>auB s l W hl;rw[show eF (iv s l)=g by rw[<-hg];exact Vu s l e]at h1;have H1:=aj h1;clear h1 hg hl;obtain⟨W,cd,ae,ai⟩:=fJ w 45 [ag s,ah l,af e];go_enter Tryz.func64,Tryz.ntmps64;go_wp2_with fail;refine aK ae (H1.out _) λw1 ae ai=>?_;go_wp2;go_ret;exact⟨rfl,ae.1.out⟩
def aeM (n:Nat):n<256^(nt n).length:=by have:=ia (nt n);rwa [jl]at this
def atC (A C S:Dyadic)(hS:A+C=S)(p:Nat)(hp:dE A-dE C=(p:Int))(Z1 Z:Int)(h1:dN A*2^p=Z1)(h2:Z1+dN C=Z):dval (az Z,nt Z.natAbs,dE C)=S:=by
 rw[Aq,<-h2,<-h1,<-vv,<-hS];congr 1
 . have:=rT (dN A) p (-(dE A));rw[show-(dE C)= -(dE A)+(p:Int)by omega,this];exact(vw A).symm
 . exact(vw C).symm
def auu (s:Bool)(l:List UInt8)(e:Int)(t:Bool)(m:List UInt8)(f:Int)(S:Dyadic)(hS:dval (s,l,e)+dval (t,m,f)=S)(w:World)(hx:mK (s,l,e))(hy:mK (t,m,f)):
 Cv 144 #[.agg #[ag s,ah l,af e],.agg #[ag t,ah m,af f]] w (bT S):=by
 obtain⟨A,hA⟩:=au (dval (s,l,e));obtain⟨C,hC⟩:=au (dval (t,m,f));have tj:=hx.sm;have Dc:=hy.sm;rw[hA]at tj;rw[hC]at Dc;obtain⟨a1,a2,a3⟩:=tj.parts;obtain⟨c1,c2,c3⟩:=Dc.parts;have la:(nt (dN A).natAbs).length<=65536:=lv a1 zo;have lc:(nt (dN C).natAbs).length<=65536:=lv c1 zo;have dY:=λW=>Jq s l e A hA W hx;have jO:=λW=>Jq t m f C hC W hy;rw[hA,hC]at hS;have qD:=λW=>Vj (az (dN A)) (nt (dN A).natAbs) (dE A) (bg A) (by show bg (dval (canon A))=_;rw[bu]) W zo;have Bh:=λW=>Vj (az (dN C)) (nt (dN C).natAbs) (dE C) (bg C) (by show bg (dval (canon C))=_;rw[bu]) W zo;have Dq:(bg A==0)=true↔A=0:=by rw[<-Bool.not_eq_false];rw[ye];simp
 have Dr:(bg C==0)=true↔C=0:=by rw[<-Bool.not_eq_false];rw[ye];simp
 have hpl:=λ(A C:Dyadic) (hS:A+C=S) (Rt:(nt (dN A).natAbs).length<=65536) (hC1:(nt (dN C).natAbs).length<=65536) (p:Nat) (hp:dE A-dE C=(p:Int)) (Be:p<=524288) (Rz: -262144<=dE C/\dE C<=262144)=>(show ∃Z1 Z:Int,(∀W,Cv 223 #[.agg #[ag (az (dN A)),ah (nt (dN A).natAbs)],af (p:Int)] W (.agg #[ag (az Z1),ah (nt Z1.natAbs)]))/\(∀W,Cv 222 #[.agg #[ag (az Z1),ah (nt Z1.natAbs)],.agg #[ag (az (dN C)),ah (nt (dN C).natAbs)]] W (.agg #[ag (az Z),ah (nt Z.natAbs)]))/\(∀W,Cv 134 #[.agg #[ag (az Z),ah (nt Z.natAbs)],af (dE C)] W (bT S))from by
  obtain⟨Z1,h1⟩:=au (dN A*2^p);obtain⟨Z,h2⟩:=au (Z1+dN C);have l1:(nt Z1.natAbs).length<=589824:=by
   have e1:Z1.natAbs=nv (nt (dN A).natAbs) *2^p:=by rw[<-h1,Int.natAbs_mul,jl];simp[Int.natAbs_pow]
   rw[e1];exact Nat.le_trans (aeL _ p) zo
  have l2:(nt Z.natAbs).length<=589825:=by
   obtain⟨K,hK⟩:=au (589824);rw[hK]at l1;have lcK:(nt (dN C).natAbs).length<=K:=by omega
   have hle:(nt Z.natAbs).length<=K+1:=by
    refine kC ?_;have b1:Z1.natAbs<256^K:=Nat.lt_of_lt_of_le (aeM _) (Nat.pow_le_pow_right zd l1);have b2:(dN C).natAbs<256^K:=Nat.lt_of_lt_of_le (aeM _) (Nat.pow_le_pow_right zd lcK);have b3:Z.natAbs<=Z1.natAbs+(dN C).natAbs:=by rw[<-h2];exact Int.natAbs_add_le _ _
    rw[Nat.pow_succ];omega
   omega
  refine⟨Z1,Z,λW=>auz _ _ p Z1 (by rw[fu];exact h1) W zo zo,λW=>aut _ _ _ _ Z (by rw[fu,fu];exact h2) W zo zo,λW=>Vi _ _ (dE C) S (atC A C S hS p hp Z1 Z h1 h2) W zo zo⟩)
 have Bf:=hpl;by_cases uT:A=0
 . have zA:=Dq.2 uT;have RA:C=S:=by rw[<-hS,uT];grind
   subst RA;obtain⟨jd,pH,Aa⟩:=bM dY jO qD;clear dY jO qD Bh hpl Bf Dq Dr uT hA hC hS tj Dc a1 a2 a3 c1 c2 c3 la lc hx hy;obtain⟨W,cd,ae,ai⟩:=za w 45 [ag s,ah l,af e] 45 [ag t,ah m,af f] 45 [ag false,.string ⟨#[]⟩,af 0];go_enter Tryz.func144,Tryz.ntmps144;go_wp2_with fail;refine cQ 4 ae (cJ 6 0xa0806020501) ?_;refine bo ?_;refine bP ae (jd.out _) λw1 ae=>?_;refine bP ae (pH.out _) λw2 ae=>?_;have ai:=qC ae;refine qOp λK hK=>?_;go_simp;refine hK _ _ (λh=>absurd h zd) ?_
   refine cg (aN w2 (w.heap.size) 0 (bE A)) aR ?_;intro w3 hs0;have ae:=bC hs0 ae;simp only[bD,List.set]at ae;have ai:=qC ae;have ai:=qC ae;refine qOp λK hK=>?_;go_simp;refine hK _ _ (λh=>absurd h zd) ?_
   refine cg (aN w3 (w.heap.size+1) 0 (bE C)) aR ?_;intro w4 hs0;have ae:=bC hs0 ae;simp only[bD,List.set]at ae;have ai:=qC ae;refine cP ae λai=>?_;go_wp2_with fail;refine aK ae (Aa.out _) λw5 ae ai=>?_;go_wp2;refine dI (aN w5 (w.heap.size+1+1) 0 (bE C)) aR ?_;intro w9 hs0;have ae:=bC hs0 ae;simp only[bD,List.set]at ae;have ai:=qC ae;refine bodyPost_ret (v:=bT C) (by simp[results,Tryz.results144,go_sem,ai]) rfl ⟨rfl,ae.1.out⟩
 have zA:(bg A==0)=false:=by rw[<-Bool.not_eq_true];exact λh=>uT (Dq.1 h)
 by_cases pR:C=0
 . have zC:=Dr.2 pR;have RA:A=S:=by rw[<-hS,pR];grind
   subst RA;obtain⟨jd,pH,Aa,Fs⟩:=cG dY jO qD Bh;clear dY jO qD Bh hpl Bf Dq Dr uT pR hA hC hS tj Dc a1 a2 a3 c1 c2 c3 la lc hx hy;obtain⟨W,cd,ae,ai⟩:=za w 45 [ag s,ah l,af e] 45 [ag t,ah m,af f] 45 [ag false,.string ⟨#[]⟩,af 0];go_enter Tryz.func144,Tryz.ntmps144;go_wp2_with fail;refine cQ 4 ae (cJ 6 0xa0806020501) ?_;refine bo ?_;refine bP ae (jd.out _) λw1 ae=>?_;refine bP ae (pH.out _) λw2 ae=>?_;have ai:=qC ae;refine qOp λK hK=>?_;go_simp;refine hK _ _ (λh=>absurd h zd) ?_
   refine cg (aN w2 (w.heap.size) 0 (bE A)) aR ?_;intro w3 hs0;have ae:=bC hs0 ae;simp only[bD,List.set]at ae;have ai:=qC ae;have ai:=qC ae;refine qOp λK hK=>?_;go_simp;refine hK _ _ (λh=>absurd h zd) ?_
   refine cg (aN w3 (w.heap.size+1) 0 (bE C)) aR ?_;intro w4 hs0;have ae:=bC hs0 ae;simp only[bD,List.set]at ae;have ai:=qC ae;refine cP ae λai=>?_;go_wp2_with fail;refine aK ae (Aa.out _) λw5 ae ai=>?_;go_wp2_with fail;refine aK ae (Fs.out _) λw6 ae ai=>?_;go_wp2;refine dI (aN w6 (w.heap.size+1+1) 0 (bE A)) aR ?_;intro w9 hs0;have ae:=bC hs0 ae;simp only[bD,List.set]at ae;have ai:=qC ae;refine bodyPost_ret (v:=bT A) (by simp[results,Tryz.results144,go_sem,ai]) rfl ⟨rfl,ae.1.out⟩
 have zC:(bg C==0)=false:=by rw[<-Bool.not_eq_true];exact λh=>pR (Dr.1 h)
 by_cases hEE:dE A<dE C
 . obtain⟨p,hp⟩:∃p:Nat,dE C-dE A=(p:Int):=⟨(dE C-dE A).toNat,by omega⟩;obtain⟨Z1,Z,g1,g2,g3⟩:=hpl C A (by rw[<-hS];grind) lc la p hp zo zo;have hwr:IntKind.i64.wrap (dE C-dE A)=(p:Int):=by rw[IntKind.wrap_i64];omega
   obtain⟨jd,pH,Aa,Fs,G1,G2,G3⟩:=iX dY jO qD Bh g1 g2 g3;clear dY jO qD Bh hpl Bf Dq Dr uT pR hA hC hS tj Dc a1 a2 a3 c1 c2 c3 la lc hx hy g1 g2 g3 hp;obtain⟨W,cd,ae,ai⟩:=za w 45 [ag s,ah l,af e] 45 [ag t,ah m,af f] 45 [ag false,.string ⟨#[]⟩,af 0];go_enter Tryz.func144,Tryz.ntmps144;go_wp2_with fail;refine cQ 4 ae (cJ 6 0xa0806020501) ?_;refine bo ?_;refine bP ae (jd.out _) λw1 ae=>?_;refine bP ae (pH.out _) λw2 ae=>?_;have ai:=qC ae;refine qOp λK hK=>?_;go_simp;refine hK _ _ (λh=>absurd h zd) ?_
   refine cg (aN w2 (w.heap.size) 0 (bE A)) aR ?_;intro w3 hs0;have ae:=bC hs0 ae;simp only[bD,List.set]at ae;have ai:=qC ae;have ai:=qC ae;refine qOp λK hK=>?_;go_simp;refine hK _ _ (λh=>absurd h zd) ?_
   refine cg (aN w3 (w.heap.size+1) 0 (bE C)) aR ?_;intro w4 hs0;have ae:=bC hs0 ae;simp only[bD,List.set]at ae;have ai:=qC ae;refine cP ae λai=>?_;go_wp2_with fail;refine aK ae (Aa.out _) λw5 ae ai=>?_;go_wp2_with fail;refine aK ae (Fs.out _) λw6 ae ai=>?_;go_wp2_with fail;first|refine eN (λil=>∃eI,aN w6 (w.heap.size) 0 (bE C) eI/\aN eI (w.heap.size+1) 0 (bE A) il) ⟨_,aR,aR⟩ ?_|refine eJ (λil=>∃eI,aN w6 (w.heap.size) 0 (bE C) eI/\aN eI (w.heap.size+1) 0 (bE A) il) ⟨_,aR,aR⟩ ?_
   rintro w7 ⟨_,hs0,hs1⟩;have ae:=bC hs1 (bC hs0 ae);simp only[bD,List.set]at ae;have ai:=qC ae;refine cQ 14 ae (cJ 15 0x1c1a140e191713110d0b0907050301) ?_;refine bo ?_;refine bP ae (G1.out _) λxz ae=>?_;refine bP ae (G2.out _) λVM ae=>?_;refine bP ae (G3.out _) λrX ae=>?_;have ai:=qC ae;refine qOp λK hK=>?_;go_simp;refine hK _ _ (λh=>absurd h zd) ?_
   refine cg (aN rX (w.heap.size+1+1) 0 (bE S)) aR ?_;intro rY hs0;have ae:=bC hs0 ae;simp only[bD,List.set]at ae;have ai:=qC ae;refine cP ae λai=>?_;have Hb:=ae.1;have r0:rY.cell? ⟨w.heap.size+1+1,0,none⟩=some (ag (az (dN S))):=ae.2.2.2.1.out.cell 0;have r1:rY.cell? ⟨w.heap.size+1+1,1,none⟩=some (ah (nt (dN S).natAbs)):=ae.2.2.2.1.out.cell 1;have r2:rY.cell? ⟨w.heap.size+1+1,2,none⟩=some (af (dE S)):=ae.2.2.2.1.out.cell 2;go_wp2;exact bodyPost_ret (v:=bT S) (by simp[results,Tryz.results144,go_sem,r0,r1,r2,ai]) rfl ⟨rfl,cK⟩
 . obtain⟨p,hp⟩:∃p:Nat,dE A-dE C=(p:Int):=⟨(dE A-dE C).toNat,by omega⟩;obtain⟨Z1,Z,g1,g2,g3⟩:=hpl A C hS la lc p hp zo zo;have hwr:IntKind.i64.wrap (dE A-dE C)=(p:Int):=by rw[IntKind.wrap_i64];omega
   obtain⟨jd,pH,Aa,Fs,G1,G2,G3⟩:=iX dY jO qD Bh g1 g2 g3;clear dY jO qD Bh hpl Bf Dq Dr uT pR hA hC hS tj Dc a1 a2 a3 c1 c2 c3 la lc hx hy g1 g2 g3 hp;obtain⟨W,cd,ae,ai⟩:=za w 45 [ag s,ah l,af e] 45 [ag t,ah m,af f] 45 [ag false,.string ⟨#[]⟩,af 0];go_enter Tryz.func144,Tryz.ntmps144;go_wp2_with fail;refine cQ 4 ae (cJ 6 0xa0806020501) ?_;refine bo ?_;refine bP ae (jd.out _) λw1 ae=>?_;refine bP ae (pH.out _) λw2 ae=>?_;have ai:=qC ae;refine qOp λK hK=>?_;go_simp;refine hK _ _ (λh=>absurd h zd) ?_
   refine cg (aN w2 (w.heap.size) 0 (bE A)) aR ?_;intro w3 hs0;have ae:=bC hs0 ae;simp only[bD,List.set]at ae;have ai:=qC ae;have ai:=qC ae;refine qOp λK hK=>?_;go_simp;refine hK _ _ (λh=>absurd h zd) ?_
   refine cg (aN w3 (w.heap.size+1) 0 (bE C)) aR ?_;intro w4 hs0;have ae:=bC hs0 ae;simp only[bD,List.set]at ae;have ai:=qC ae;refine cP ae λai=>?_;go_wp2_with fail;refine aK ae (Aa.out _) λw5 ae ai=>?_;go_wp2_with fail;refine aK ae (Fs.out _) λw6 ae ai=>?_;go_wp2_with fail;refine cQ 14 ae (cJ 15 0x1c1a140e191713110d0b0907050301) ?_;refine bo ?_;refine bP ae (G1.out _) λxz ae=>?_;refine bP ae (G2.out _) λVM ae=>?_;refine bP ae (G3.out _) λrX ae=>?_;have ai:=qC ae;refine qOp λK hK=>?_;go_simp;refine hK _ _ (λh=>absurd h zd) ?_
   refine cg (aN rX (w.heap.size+1+1) 0 (bE S)) aR ?_;intro rY hs0;have ae:=bC hs0 ae;simp only[bD,List.set]at ae;have ai:=qC ae;refine cP ae λai=>?_;have Hb:=ae.1;have r0:rY.cell? ⟨w.heap.size+1+1,0,none⟩=some (ag (az (dN S))):=ae.2.2.2.1.out.cell 0;have r1:rY.cell? ⟨w.heap.size+1+1,1,none⟩=some (ah (nt (dN S).natAbs)):=ae.2.2.2.1.out.cell 1;have r2:rY.cell? ⟨w.heap.size+1+1,2,none⟩=some (af (dE S)):=ae.2.2.2.1.out.cell 2;go_wp2;exact bodyPost_ret (v:=bT S) (by simp[results,Tryz.results144,go_sem,r0,r1,r2,ai]) rfl ⟨rfl,cK⟩
end Go.Proofs.YtpfgffadgkkedaaGreatDoor
