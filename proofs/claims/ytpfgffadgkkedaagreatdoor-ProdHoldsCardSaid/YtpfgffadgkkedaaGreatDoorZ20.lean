/- Package ogeeref04: Make. -/
import Derived.Test.YtpfgffadgkkedaaGreatDoorZ7
import Derived.Test.YtpfgffadgkkedaaGreatDoorZ17
import Derived.Deep.RegionWith
import Derived.Test.YtpfgffadgkkedaaGreatDoorZ19
import Derived.Test.YtpfgffadgkkedaaGreatDoorZ11
import Derived.Test.YtpfgffadgkkedaaGreatDoorZ12
import Derived.Test.YtpfgffadgkkedaaGreatDoorZ13
import Derived.Test.YtpfgffadgkkedaaGreatDoorZ9
set_option linter.all false
set_option maxRecDepth 100000
set_option maxHeartbeats 16000000
namespace Go.Proofs.YtpfgffadgkkedaaGreatDoor
open Go.RowKit
attribute [local go_sem ↓] Go.wp_at_zero Go.wp_at_succ
def ai0 (M:List UInt8)(c:UInt8):(bs (M++[c])).extract 0 M.length=bs M:=by apply ByteArray.ext;unfold bs;rw[ByteArray.data_extract];simp
def arD (M:List UInt8)(c:UInt8)(i:Int)(hi:i=M.length)(W:World):
 (Instr.sliceAt 9 (ah (M++[c])) none (some (af i)) none).run Tryz.prog W=.ok (ah M) W:=by
 subst hi;have h:=run_slice_string_h (P:=Tryz.prog) W 9 (bs (M++[c])) Tryz.underlying9 .i64 M.length zo (by rw[jh];simp<;>omega);simp only[Int.toNat_natCast,ai0 M c]at h;simpa[Instr.sliceAt,run_underlying Tryz.underlying9]using h
def ajf (s:Bool)(n:Nat)(e:Int)(h:n%2=1):canon (dval (s,nt n,e))=(s,nt n,e):=by
 have h0:iv s (nt n)≠0:=by rw[oX];split<;>omega
 obtain⟨h1,h2⟩:=Nh s (nt n) e h0;have ht:tz n=0:=by have:=acY 0 (n/2);rw[show 2^0* (2* (n/2)+1)=n by omega]at this;exact this
 rw[ib,ht]at h1 h2;unfold canon;rw[h1,h2];have e1:iv s (nt n)/2^0=iv s (nt n):=by simp
 rw[e1,Qb,ov,ib];have e3:(nt n).isEmpty=false:=by
  have:=Jz (n:=n) zo;cases h:nt n with
  |nil=>exact absurd h this
  |cons a b=>rfl
 rw[e3];simp
def akI (s:Bool)(l:List UInt8)(n k:Nat)(e:Int)(h:n*2^k=nv l):dval (s,nt n,e+k)=dval (s,l,e):=by
 unfold dval;have e1:iv s l=iv s (nt n) *2^k:=by
  rw[oX];unfold iv;rw[<-h];split
  . rw[Int.neg_mul];simp
  . simp
 simp only[e1];rw[<-ow (iv s (nt n)) k (-(e+k))];congr 1;omega
def ap9 {n k v b:Nat}(h:n*2^k=v)(h0:0<v)(hv:v<2^b):k<b/\0<n:=by
 have hn:0<n:=by
  rcases Nat.eq_zero_or_pos n with h1|h1
  . subst h1;simp at h;omega
  . exact h1
 refine⟨?_,hn⟩;rcases Nat.lt_or_ge k b with h1|h1
 . exact h1
 . have h2:=Nat.pow_le_pow_right (show 0<2 by decide) h1;have h3:2^k<=n*2^k:=Nat.le_mul_of_pos_left _ hn;omega
def aq0 (w:World):Cv 135 #[af 2] w (.agg #[ag false,ah (nt 2)]):=ab9 2 w zd
def aby {n:Nat}(h:0<n):∃M c,nt n=M++[c]/\M=nt (n/256)/\c.toNat=n%256:=⟨_,_,Ev h,rfl,Gn n⟩
def aqX (s:Bool)(l:List UInt8)(e:Int)(w:World)(hl:l.length<=1048576)(h0:nv l=0):
 Cv 134 #[.agg #[ag s,ah l],af e] w (bK 0):=by
 have hf:=λW=>EI s l W zo;simp only[h0,ym,List.isEmpty_nil,Bool.not_true,Bool.and_false]at hf;have Hf:=aj hf;have hem:(bs []).toList.isEmpty=true:=by rw[sU];rfl
 clear hf h0;obtain⟨W,bX,ae,ai⟩:=jR w 43 [ag s,ah l] 45 [ag false,.string ⟨#[]⟩,af 0];go_enter Tryz.func134,Tryz.ntmps134;go_wp2_with fail;refine aJ ae (Hf.out _) λw1 ae ai=>?_;go_wp2;have r2:w1.cell? ⟨w.heap.size+1,2,none⟩=some (af 0):=ae.2.2.1.out.cell 2;have r0:w1.cell? ⟨w.heap.size+1,0,none⟩=some (ag false):=ae.2.2.1.out.cell 0;have r1:w1.cell? ⟨w.heap.size+1,1,none⟩=some (.string ⟨#[]⟩):=ae.2.2.1.out.cell 1;refine bodyPost_ret (v:=.agg #[ag false,.string ⟨#[]⟩,af 0]) (by simp[results,Tryz.results134,go_sem,r0,r1,r2]) rfl ⟨rfl,?_⟩;(repeat first|exact ae.1.out| (refine Below.setCell ?_ (by have:=ae.1.out.size;first| (dsimp only;omega) | (show _<=_;omega) | (simp<;>omega)) _) |refine Below.drew ?_)
def aqW (s:Bool)(l:List UInt8)(e:Int)(D:Dyadic)(hD:dval (s,l,e)=D)(w:World)(hl:l.length<=1048576)(he: -1099511627776<=e/\e<=1099511627776)(h0:0<nv l):
 Cv 134 #[.agg #[ag s,ah l],af e] w (bK D):=by
 have hf:=λW=>EI s l W zo;have e3:(nt (nv l)).isEmpty=false:=by
  have:=Jz h0;cases h:nt (nv l)with
  |nil=>exact absurd h this
  |cons a b=>rfl
 rw[e3]at hf;simp only[Bool.not_false,Bool.and_true]at hf;have hvb:=pg l;obtain⟨v,hv⟩:=az (nv l);rw[hv]at h0 hvb;simp only[hv]at hf;have hup:∀n k:Nat,n*2^k=v->dval (s,nt n,e+k)=D:=λn k h=>by rw[<-hD];exact akI s l n k e (by rw[hv];exact h)
 obtain⟨Bn,WC⟩:=az (8*l.length);have hpb:∀n k:Nat,n*2^k=v->k<Bn/\0<n:=λn k h=>by rw[<-WC];exact ap9 h h0 hvb
 have hBl:Bn<=8388608:=by omega
 obtain⟨Hf,Md,aO⟩:=bM hf hup hpb;have au4:(bs (nt v)).toList.isEmpty=false:=by rw[sU,<-hv];exact e3
 have Zk:∀n k:Nat,n*2^k=v->(nt n).length<=1048576:=λn k h=>by refine Nat.le_trans (iY (Nat.lt_of_le_of_lt (Nat.le_mul_of_pos_right n (Nat.pow_pos (n:=k) (show 0<2 by decide))) ?_)) hl;rw[h,<-hv];exact fY l
 have TU:=aj Zk;clear hf e3 hvb hup hpb WC hD hv h0 Zk;obtain⟨W,bX,ae,ai⟩:=jR w 43 [ag s,ah l] 45 [ag false,.string ⟨#[]⟩,af 0];go_enter Tryz.func134,Tryz.ntmps134;go_wp2_with fail;refine aJ ae (Hf.out _) λw1 ae ai=>?_;go_wp2_with fail;first|refine eu (aN w1 (w.heap.size) 0 [ag s,ah (nt v)]) aU ?_|refine dS (aN w1 (w.heap.size) 0 [ag s,ah (nt v)]) aU ?_
 intro w2 hs0;have ae:=bG hs0 ae;simp only[bA,List.set]at ae;have ai:=qC ae;skip
 have lm:=ae.2.1.out.lt;have lr:=ae.2.2.1.out.lt;go_loopw[1] (λx wr=>∃n k:Nat,n*2^k=v/\x=af (e+k)/\ar wr w.heap.size 43 [ag s,ah (nt n)]/\ar wr (w.heap.size+1) 45 [ag false,.string ⟨#[]⟩,af 0]/\Bw w wr) (λx _=>(e+Bn+100-intOf x).toNat);case atStart=>exact⟨v,0,by simp,by simp,ae.2.1.out,ae.2.2.1.out,ae.1.out⟩
 case round=>
  skip
  obtain⟨n,k,tG,rfl,hm,hr,hb⟩:=hrel;obtain⟨hk,hn⟩:=aO.out n k tG;obtain⟨M,c,hM,Ii,hc⟩:=aby hn;obtain⟨Hm,Hr,Hb,yS,HM,Sz⟩:=ia hm hr hb tG hM Ii;have hnl:=TU.out n k tG;have CS:M.length+1<=1048576:=by rw[hM]at hnl;simpa using hnl
  have m1:wr.cell? ⟨w.heap.size,1,none⟩=some (ah (M++[c])):=by rw[<-hM];exact hm.cell 1
  have fm1:wr.frozen? ⟨w.heap.size,1,none⟩=false:=hm.free 1;have hsz:(bs (M++[c])).size=M.length+1:=by rw[jh];simp
  have eZ:=rP (M++[c]) (M.length:Int) M.length zm rfl;have nZ:(M++[c])[M.length]'zm=c:=by simp
  rw[nZ]at eZ;obtain⟨C,hC⟩:=az c.toNat;rw[hC]at eZ hc;have hsl:=arD M c (M.length:Int) rfl;have Hc:=aj hc;clear hm hr hb tG hM Ii nZ hc hnl;by_cases nV:C=0
  . subst nV;go_wp2;go_roundw;case rel=>
     refine⟨n/256,k+8,?_,by go_num,?_,?_,?_⟩
     . have h1:=Hc.out;have h2:=yS.out;rw[<-h2,Nat.pow_add,show(2:Nat)^8=256 by rfl,Nat.mul_comm (2^k),<-Nat.mul_assoc];congr 1;omega
     . rw[<-Sz.out];exact Hm.out.set 1 _
     . exact Hr.out.awI ⟨w.heap.size,1,none⟩ zp _
     . exact Hb.out.setCell zp _
    case measure=>exact bf
  . have WG:((C:Int)==0)=false:=by simp;omega
    go_wp2_with fail;clear m1 fm1 hsz eZ hsl CS WG hC nV;go_loopw[1] (λx wr=>∃n k:Nat,n*2^k=v/\x=af (e+k)/\ar wr w.heap.size 43 [ag s,ah (nt n)]/\ar wr (w.heap.size+1) 45 [ag false,.string ⟨#[]⟩,af 0]/\Bw w wr) (λx _=>(e+Bn+100-intOf x).toNat);case atStart=>exact⟨n,k,yS.out,rfl,Hm.out,Hr.out,Hb.out⟩
    case round=>
     clear Hm Hr Hb yS HM Sz Hc hk hn;obtain⟨n,k,tG,rfl,hm,hr,hb⟩:=hrel;obtain⟨hk,hn⟩:=aO.out n k tG;obtain⟨M,c,hM,Ii,hc⟩:=aby hn;obtain⟨Hr,yS,HM⟩:=bM hr tG hM;have hnl:=TU.out n k tG;have CS:M.length+1<=1048576:=by rw[hM]at hnl;simpa using hnl
     have Hm:Hid (ar wr w.heap.size 43 [ag s,ah (M++[c])]):=by rw[hM]at hm;exact hm
     have m0:wr.cell? ⟨w.heap.size,0,none⟩=some (ag s):=Hm.out.cell 0;have m1:wr.cell? ⟨w.heap.size,1,none⟩=some (ah (M++[c])):=Hm.out.cell 1;have hsz:(bs (M++[c])).size=M.length+1:=by rw[jh];simp
     have eZ:=rP (M++[c]) (M.length:Int) M.length zm rfl;have nZ:(M++[c])[M.length]'zm=c:=by simp
     rw[nZ]at eZ;obtain⟨C,hC⟩:=az c.toNat;rw[hC]at eZ hc;have auL:=hb.size;have jC:=aj hb;clear hm hr hb tG Ii nZ hC;by_cases hev:n%2=0
     . obtain⟨n',rfl⟩:∃n',n=2*n':=⟨n/2,by omega⟩;have Pw:(C:Int)%2=0:=by omega
       have hh:=λW=>aqV s n' W zo (Nat.le_trans hnl zd);rw[hM]at hh;have Hh:=aj hh;have Hb:=hbz wr;clear hh hM hnl hc;go_wp2_with fail;have lmm:=Hm.out.lt;have lrr:=Hr.out.lt;go_region_with (first| (go_at_call 135;refine(aq0 _).mono ?_;rintro e3 w3 ⟨rfl,hb3⟩;replace hb3:=cJ hb3;have FE:=aj (Hm.out.below hb3);have m03:w3.cell? ⟨w.heap.size,0,none⟩=some (ag s):=FE.out.cell 0;have m13:w3.cell? ⟨w.heap.size,1,none⟩=some (ah (M++[c])):=FE.out.cell 1) | (go_at_call 217;refine(Hh.out _).mono ?_;rintro e4 w4 ⟨rfl,hb4⟩;have yR:=aj (FE.out.below hb4);have m04:w4.cell? ⟨w.heap.size,0,none⟩=some (ag s):=yR.out.cell 0;have m14:w4.cell? ⟨w.heap.size,1,none⟩=some (ah (M++[c])):=yR.out.cell 1;have alf:=yR.out.free 0;have alh:=yR.out.free 1))
       all_goals
        have HBm:=aj (aC (aC jC.out hb3) hb4)
        have Hm4:=aj ((yR.out.set 0 (ag s)).set 1 (ah (nt n')))
        have Ca:=aj ((((Hr.out.below hb3).below hb4).awI ⟨w.heap.size,0,none⟩ zp (ag s)).awI ⟨w.heap.size,1,none⟩ zp (ah (nt n')))
        clear m0 m1 m03 m13 m04 m14 alf alh Pw eZ hb3 hb4 FE yR
        go_wp2
        go_roundw
        case rel=>
         refine⟨n',k+1,?_,by go_num,Hm4.out,Ca.out,?_⟩
         . rw[<-yS.out,Nat.pow_succ,Nat.mul_comm (2^k) 2,<-Nat.mul_assoc,Nat.mul_comm n' 2]
         . exact(HBm.out.setCell zp _).setCell zp _
        case measure=>exact bf
     . have Pw:((C:Int)%2==0)=false:=by simp;omega
       have Zo:n%2=1:=by omega
       have hfin:=ajf s n (e+k) Zo;rw[Md.out n k yS.out,HM.out]at hfin;have lC:=aj hfin;have r0:wr.cell? ⟨w.heap.size+1,0,none⟩=some (ag false):=Hr.out.cell 0;have r1:wr.cell? ⟨w.heap.size+1,1,none⟩=some (.string ⟨#[]⟩):=Hr.out.cell 1;have r2:wr.cell? ⟨w.heap.size+1,2,none⟩=some (af 0):=Hr.out.cell 2;have aW:=Hr.out.free 0;have aX:=Hr.out.free 1;have kq:=Hr.out.free 2;clear hM hnl hc Zo hfin hev;go_wp2;refine bodyPost_ret (v:=.agg #[ag s,ah (M++[c]),af (e+k)]) (by simp[results,Tryz.results134,go_sem,r0,r1,r2]) rfl ⟨?_,?_⟩
       . have h1:=lC.out;unfold canon at h1;simp only[Prod.mk.injEq]at h1;rw[<-h1.1,<-h1.2.1,<-h1.2.2]
       . exact(((jC.out.setCell zp _).setCell zp _).setCell zp _)
def Ra (s:Bool)(l:List UInt8)(e:Int)(D:Dyadic)(hD:dval (s,l,e)=D)(w:World)(hl:l.length<=1048576)(he: -1099511627776<=e/\e<=1099511627776):
 Cv 134 #[.agg #[ag s,ah l],af e] w (bK D):=by
 rcases Nat.eq_zero_or_pos (nv l)with h0|h0
 . have:D=0:=by rw[<-hD];exact Ni s l e (by unfold iv;rw[h0];split<;>rfl)
   rw[this];exact aqX s l e w hl h0
 . exact aqW s l e D hD w hl he h0
end Go.Proofs.YtpfgffadgkkedaaGreatDoor
namespace Go.Proofs.YtpfgffadgkkedaaGreatDoor
end Go.Proofs.YtpfgffadgkkedaaGreatDoor
namespace Go.Proofs.YtpfgffadgkkedaaGreatDoor
open Go.RowKit
end Go.Proofs.YtpfgffadgkkedaaGreatDoor
namespace Go.Proofs.YtpfgffadgkkedaaGreatDoor
end Go.Proofs.YtpfgffadgkkedaaGreatDoor
namespace Go.Proofs.YtpfgffadgkkedaaGreatDoor
open Go.RowKit
attribute [local go_sem ↓] Go.wp_at_zero Go.wp_at_succ
def kJ (x:Raw):Prop:=x.2.1.length<=16384/\ -16384<=x.2.2/\x.2.2<=16384
def kJ.sm {x:Raw}(h:kJ x):Sm 262144 (dval x):=Sm.raw (B:=131072) (by have:=h.1;omega) (by have:=h.2.1;omega) (by have:=h.2.2;omega)
def Sm.awM {B:Nat}{d:Dyadic}(h:Sm B d)(hB:B<=16384):kJ (canon d):=by obtain⟨h1,h2,h3⟩:=h.parts;exact⟨ju h1 zo,by show-16384<=dE d;omega,by show dE d<=16384;omega⟩
def kJ.ok {x:Raw}(h:kJ x):Ok x:=⟨by have:=h.1;omega,by have:=h.2.1;omega,by have:=h.2.2;omega⟩
def EH (s:Bool)(l:List UInt8)(e:Int)(D:Dyadic)(hD:dval (s,l,e)=D)(w:World)(hx:kJ (s,l,e)):
 Cv 99 #[.agg #[ag s,ah l,af e]] w (bK D):=by
 have h1:=λW=>Ra s l e D hD W (by have:=hx.1;simp only at this;omega) (by have:=hx.2;simp only at this;omega);have H1:=aj h1;clear h1 hD hx;obtain⟨W,bX,ae,ai⟩:=jR w 45 [ag s,ah l,af e] 45 [ag false,.string ⟨#[]⟩,af 0];go_enter Tryz.func99,Tryz.ntmps99;go_wp2_with fail;refine aJ ae (H1.out _) λw1 ae ai=>?_;go_wp2;refine dA (aN w1 (w.heap.size+1) 0 (bo D)) aU ?_;intro w9 hs0;have ae:=bG hs0 ae;simp only[bA,List.set]at ae;have ai:=qC ae;refine bodyPost_ret (v:=bK D) (by simp[results,Tryz.results99,go_sem,ai]) rfl ⟨rfl,ae.1.out⟩
def Rc (s:Bool)(l:List UInt8)(e:Int)(g:Int)(hg:bg (dval (s,l,e))=g)(w:World)(hl:l.length<=68719476736):
 Cv 64 #[.agg #[ag s,ah l,af e]] w (af g):=by
 have h1:=λW=>aq9 s l W hl;rw[show dL (iv s l)=g by rw[<-hg];exact Rm s l e]at h1;have H1:=aj h1;clear h1 hg hl;obtain⟨W,bX,ae,ai⟩:=fy w 45 [ag s,ah l,af e];go_enter Tryz.func64,Tryz.ntmps64;go_wp2_with fail;refine aJ ae (H1.out _) λw1 ae ai=>?_;go_wp2;go_ret;exact⟨rfl,ae.1.out⟩
def abA (n:Nat):n<256^(nt n).length:=by have:=fY (nt n);rwa [ib]at this
def ap4 (A C S:Dyadic)(hS:A+C=S)(p:Nat)(hp:dE A-dE C=(p:Int))(Z1 Z:Int)(h1:dN A*2^p=Z1)(h2:Z1+dN C=Z):dval (au Z,nt Z.natAbs,dE C)=S:=by
 rw[uS,<-h2,<-h1,<-rV,<-hS];congr 1
 . have:=ow (dN A) p (-(dE A));rw[show-(dE C)= -(dE A)+(p:Int)by omega,this];exact(qI A).symm
 . exact(qI C).symm
def aq2 (s:Bool)(l:List UInt8)(e:Int)(t:Bool)(m:List UInt8)(f:Int)(S:Dyadic)(hS:dval (s,l,e)+dval (t,m,f)=S)(w:World)(hx:kJ (s,l,e))(hy:kJ (t,m,f)):
 Cv 144 #[.agg #[ag s,ah l,af e],.agg #[ag t,ah m,af f]] w (bK S):=by
 obtain⟨A,hA⟩:=az (dval (s,l,e));obtain⟨C,hC⟩:=az (dval (t,m,f));have kr:=hx.sm;have zV:=hy.sm;rw[hA]at kr;rw[hC]at zV;obtain⟨a1,a2,a3⟩:=kr.parts;obtain⟨c1,c2,c3⟩:=zV.parts;have la:(nt (dN A).natAbs).length<=65536:=ju a1 zo;have lc:(nt (dN C).natAbs).length<=65536:=ju c1 zo;have cS:=λW=>EH s l e A hA W hx;have iV:=λW=>EH t m f C hC W hy;rw[hA,hC]at hS;have oh:=λW=>Rc (au (dN A)) (nt (dN A).natAbs) (dE A) (bg A) (by show bg (dval (canon A))=_;rw[bD]) W zo;have xU:=λW=>Rc (au (dN C)) (nt (dN C).natAbs) (dE C) (bg C) (by show bg (dval (canon C))=_;rw[bD]) W zo;have Al:(bg A==0)=true↔A=0:=by rw[<-Bool.not_eq_false];rw[uR];simp
 have Am:(bg C==0)=true↔C=0:=by rw[<-Bool.not_eq_false];rw[uR];simp
 have hpl:=λ(A C:Dyadic) (hS:A+C=S) (hA1:(nt (dN A).natAbs).length<=65536) (WG:(nt (dN C).natAbs).length<=65536) (p:Nat) (hp:dE A-dE C=(p:Int)) (xO:p<=524288) (NE: -262144<=dE C/\dE C<=262144)=>(show ∃Z1 Z:Int,(∀W,Cv 223 #[.agg #[ag (au (dN A)),ah (nt (dN A).natAbs)],af (p:Int)] W (.agg #[ag (au Z1),ah (nt Z1.natAbs)]))/\(∀W,Cv 222 #[.agg #[ag (au Z1),ah (nt Z1.natAbs)],.agg #[ag (au (dN C)),ah (nt (dN C).natAbs)]] W (.agg #[ag (au Z),ah (nt Z.natAbs)]))/\(∀W,Cv 134 #[.agg #[ag (au Z),ah (nt Z.natAbs)],af (dE C)] W (bK S))from by
  obtain⟨Z1,h1⟩:=az (dN A*2^p);obtain⟨Z,h2⟩:=az (Z1+dN C);have l1:(nt Z1.natAbs).length<=589824:=by
   have e1:Z1.natAbs=nv (nt (dN A).natAbs) *2^p:=by rw[<-h1,Int.natAbs_mul,ib];simp[Int.natAbs_pow]
   rw[e1];exact Nat.le_trans (abz _ p) zo
  have l2:(nt Z.natAbs).length<=589825:=by
   obtain⟨K,hK⟩:=az (589824);rw[hK]at l1;have lcK:(nt (dN C).natAbs).length<=K:=by omega
   have hle:(nt Z.natAbs).length<=K+1:=by
    refine iY ?_;have b1:Z1.natAbs<256^K:=Nat.lt_of_lt_of_le (abA _) (Nat.pow_le_pow_right zd l1);have b2:(dN C).natAbs<256^K:=Nat.lt_of_lt_of_le (abA _) (Nat.pow_le_pow_right zd lcK);have b3:Z.natAbs<=Z1.natAbs+(dN C).natAbs:=by rw[<-h2];exact Int.natAbs_add_le _ _
    rw[Nat.pow_succ];omega
   omega
  refine⟨Z1,Z,λW=>aq7 _ _ p Z1 (by rw[dX];exact h1) W zo zo,λW=>aq1 _ _ _ _ Z (by rw[dX,dX];exact h2) W zo zo,λW=>Ra _ _ (dE C) S (ap4 A C S hS p hp Z1 Z h1 h2) W zo zo⟩)
 have xQ:=hpl;by_cases rH:A=0
 . have zA:=Al.2 rH;have NG:C=S:=by rw[<-hS,rH];grind
   subst NG;obtain⟨ie,nK,wM⟩:=bM cS iV oh;clear cS iV oh xU hpl xQ Al Am rH hA hC hS kr zV a1 a2 a3 c1 c2 c3 la lc hx hy;obtain⟨W,bX,ae,ai⟩:=vS w 45 [ag s,ah l,af e] 45 [ag t,ah m,af f] 45 [ag false,.string ⟨#[]⟩,af 0];go_enter Tryz.func144,Tryz.ntmps144;go_wp2_with fail;refine cQ 4 ae (cM 6 0xa0806020501) ?_;refine bC ?_;refine bO ae (ie.out _) λw1 ae=>?_;refine bO ae (nK.out _) λw2 ae=>?_;have ai:=qC ae;refine qOp λK hK=>?_;go_simp;refine hK _ _ (λh=>absurd h zd) ?_
   refine bY (aN w2 (w.heap.size) 0 (bo A)) aU ?_;intro w3 hs0;have ae:=bG hs0 ae;simp only[bA,List.set]at ae;have ai:=qC ae;have ai:=qC ae;refine qOp λK hK=>?_;go_simp;refine hK _ _ (λh=>absurd h zd) ?_
   refine bY (aN w3 (w.heap.size+1) 0 (bo C)) aU ?_;intro w4 hs0;have ae:=bG hs0 ae;simp only[bA,List.set]at ae;have ai:=qC ae;refine cP ae λai=>?_;go_wp2_with fail;refine aJ ae (wM.out _) λw5 ae ai=>?_;go_wp2;refine dA (aN w5 (w.heap.size+1+1) 0 (bo C)) aU ?_;intro w9 hs0;have ae:=bG hs0 ae;simp only[bA,List.set]at ae;have ai:=qC ae;refine bodyPost_ret (v:=bK C) (by simp[results,Tryz.results144,go_sem,ai]) rfl ⟨rfl,ae.1.out⟩
 have zA:(bg A==0)=false:=by rw[<-Bool.not_eq_true];exact λh=>rH (Al.1 h)
 by_cases nV:C=0
 . have zC:=Am.2 nV;have NG:A=S:=by rw[<-hS,nV];grind
   subst NG;obtain⟨ie,nK,wM,Ce⟩:=bU cS iV oh xU;clear cS iV oh xU hpl xQ Al Am rH nV hA hC hS kr zV a1 a2 a3 c1 c2 c3 la lc hx hy;obtain⟨W,bX,ae,ai⟩:=vS w 45 [ag s,ah l,af e] 45 [ag t,ah m,af f] 45 [ag false,.string ⟨#[]⟩,af 0];go_enter Tryz.func144,Tryz.ntmps144;go_wp2_with fail;refine cQ 4 ae (cM 6 0xa0806020501) ?_;refine bC ?_;refine bO ae (ie.out _) λw1 ae=>?_;refine bO ae (nK.out _) λw2 ae=>?_;have ai:=qC ae;refine qOp λK hK=>?_;go_simp;refine hK _ _ (λh=>absurd h zd) ?_
   refine bY (aN w2 (w.heap.size) 0 (bo A)) aU ?_;intro w3 hs0;have ae:=bG hs0 ae;simp only[bA,List.set]at ae;have ai:=qC ae;have ai:=qC ae;refine qOp λK hK=>?_;go_simp;refine hK _ _ (λh=>absurd h zd) ?_
   refine bY (aN w3 (w.heap.size+1) 0 (bo C)) aU ?_;intro w4 hs0;have ae:=bG hs0 ae;simp only[bA,List.set]at ae;have ai:=qC ae;refine cP ae λai=>?_;go_wp2_with fail;refine aJ ae (wM.out _) λw5 ae ai=>?_;go_wp2_with fail;refine aJ ae (Ce.out _) λw6 ae ai=>?_;go_wp2;refine dA (aN w6 (w.heap.size+1+1) 0 (bo A)) aU ?_;intro w9 hs0;have ae:=bG hs0 ae;simp only[bA,List.set]at ae;have ai:=qC ae;refine bodyPost_ret (v:=bK A) (by simp[results,Tryz.results144,go_sem,ai]) rfl ⟨rfl,ae.1.out⟩
 have zC:(bg C==0)=false:=by rw[<-Bool.not_eq_true];exact λh=>nV (Am.1 h)
 by_cases hEE:dE A<dE C
 . obtain⟨p,hp⟩:∃p:Nat,dE C-dE A=(p:Int):=⟨(dE C-dE A).toNat,by omega⟩;obtain⟨Z1,Z,g1,g2,g3⟩:=hpl C A (by rw[<-hS];grind) lc la p hp zo zo;have hwr:IntKind.i64.wrap (dE C-dE A)=(p:Int):=by rw[IntKind.wrap_i64];omega
   obtain⟨ie,nK,wM,Ce,G1,G2,G3⟩:=jv cS iV oh xU g1 g2 g3;clear cS iV oh xU hpl xQ Al Am rH nV hA hC hS kr zV a1 a2 a3 c1 c2 c3 la lc hx hy g1 g2 g3 hp;obtain⟨W,bX,ae,ai⟩:=vS w 45 [ag s,ah l,af e] 45 [ag t,ah m,af f] 45 [ag false,.string ⟨#[]⟩,af 0];go_enter Tryz.func144,Tryz.ntmps144;go_wp2_with fail;refine cQ 4 ae (cM 6 0xa0806020501) ?_;refine bC ?_;refine bO ae (ie.out _) λw1 ae=>?_;refine bO ae (nK.out _) λw2 ae=>?_;have ai:=qC ae;refine qOp λK hK=>?_;go_simp;refine hK _ _ (λh=>absurd h zd) ?_
   refine bY (aN w2 (w.heap.size) 0 (bo A)) aU ?_;intro w3 hs0;have ae:=bG hs0 ae;simp only[bA,List.set]at ae;have ai:=qC ae;have ai:=qC ae;refine qOp λK hK=>?_;go_simp;refine hK _ _ (λh=>absurd h zd) ?_
   refine bY (aN w3 (w.heap.size+1) 0 (bo C)) aU ?_;intro w4 hs0;have ae:=bG hs0 ae;simp only[bA,List.set]at ae;have ai:=qC ae;refine cP ae λai=>?_;go_wp2_with fail;refine aJ ae (wM.out _) λw5 ae ai=>?_;go_wp2_with fail;refine aJ ae (Ce.out _) λw6 ae ai=>?_;go_wp2_with fail;first|refine eu (λjf=>∃fD,aN w6 (w.heap.size) 0 (bo C) fD/\aN fD (w.heap.size+1) 0 (bo A) jf) ⟨_,aU,aU⟩ ?_|refine dS (λjf=>∃fD,aN w6 (w.heap.size) 0 (bo C) fD/\aN fD (w.heap.size+1) 0 (bo A) jf) ⟨_,aU,aU⟩ ?_
   rintro w7 ⟨_,hs0,hs1⟩;have ae:=bG hs1 (bG hs0 ae);simp only[bA,List.set]at ae;have ai:=qC ae;refine cQ 14 ae (cM 15 0x1c1a140e191713110d0b0907050301) ?_;refine bC ?_;refine bO ae (G1.out _) λjz ae=>?_;refine bO ae (G2.out _) λKa ae=>?_;refine bO ae (G3.out _) λny ae=>?_;have ai:=qC ae;refine qOp λK hK=>?_;go_simp;refine hK _ _ (λh=>absurd h zd) ?_
   refine bY (aN ny (w.heap.size+1+1) 0 (bo S)) aU ?_;intro nz hs0;have ae:=bG hs0 ae;simp only[bA,List.set]at ae;have ai:=qC ae;refine cP ae λai=>?_;have Hb:=ae.1;have r0:nz.cell? ⟨w.heap.size+1+1,0,none⟩=some (ag (au (dN S))):=ae.2.2.2.1.out.cell 0;have r1:nz.cell? ⟨w.heap.size+1+1,1,none⟩=some (ah (nt (dN S).natAbs)):=ae.2.2.2.1.out.cell 1;have r2:nz.cell? ⟨w.heap.size+1+1,2,none⟩=some (af (dE S)):=ae.2.2.2.1.out.cell 2;go_wp2;exact bodyPost_ret (v:=bK S) (by simp[results,Tryz.results144,go_sem,r0,r1,r2,ai]) rfl ⟨rfl,cm⟩
 . obtain⟨p,hp⟩:∃p:Nat,dE A-dE C=(p:Int):=⟨(dE A-dE C).toNat,by omega⟩;obtain⟨Z1,Z,g1,g2,g3⟩:=hpl A C hS la lc p hp zo zo;have hwr:IntKind.i64.wrap (dE A-dE C)=(p:Int):=by rw[IntKind.wrap_i64];omega
   obtain⟨ie,nK,wM,Ce,G1,G2,G3⟩:=jv cS iV oh xU g1 g2 g3;clear cS iV oh xU hpl xQ Al Am rH nV hA hC hS kr zV a1 a2 a3 c1 c2 c3 la lc hx hy g1 g2 g3 hp;obtain⟨W,bX,ae,ai⟩:=vS w 45 [ag s,ah l,af e] 45 [ag t,ah m,af f] 45 [ag false,.string ⟨#[]⟩,af 0];go_enter Tryz.func144,Tryz.ntmps144;go_wp2_with fail;refine cQ 4 ae (cM 6 0xa0806020501) ?_;refine bC ?_;refine bO ae (ie.out _) λw1 ae=>?_;refine bO ae (nK.out _) λw2 ae=>?_;have ai:=qC ae;refine qOp λK hK=>?_;go_simp;refine hK _ _ (λh=>absurd h zd) ?_
   refine bY (aN w2 (w.heap.size) 0 (bo A)) aU ?_;intro w3 hs0;have ae:=bG hs0 ae;simp only[bA,List.set]at ae;have ai:=qC ae;have ai:=qC ae;refine qOp λK hK=>?_;go_simp;refine hK _ _ (λh=>absurd h zd) ?_
   refine bY (aN w3 (w.heap.size+1) 0 (bo C)) aU ?_;intro w4 hs0;have ae:=bG hs0 ae;simp only[bA,List.set]at ae;have ai:=qC ae;refine cP ae λai=>?_;go_wp2_with fail;refine aJ ae (wM.out _) λw5 ae ai=>?_;go_wp2_with fail;refine aJ ae (Ce.out _) λw6 ae ai=>?_;go_wp2_with fail;refine cQ 14 ae (cM 15 0x1c1a140e191713110d0b0907050301) ?_;refine bC ?_;refine bO ae (G1.out _) λjz ae=>?_;refine bO ae (G2.out _) λKa ae=>?_;refine bO ae (G3.out _) λny ae=>?_;have ai:=qC ae;refine qOp λK hK=>?_;go_simp;refine hK _ _ (λh=>absurd h zd) ?_
   refine bY (aN ny (w.heap.size+1+1) 0 (bo S)) aU ?_;intro nz hs0;have ae:=bG hs0 ae;simp only[bA,List.set]at ae;have ai:=qC ae;refine cP ae λai=>?_;have Hb:=ae.1;have r0:nz.cell? ⟨w.heap.size+1+1,0,none⟩=some (ag (au (dN S))):=ae.2.2.2.1.out.cell 0;have r1:nz.cell? ⟨w.heap.size+1+1,1,none⟩=some (ah (nt (dN S).natAbs)):=ae.2.2.2.1.out.cell 1;have r2:nz.cell? ⟨w.heap.size+1+1,2,none⟩=some (af (dE S)):=ae.2.2.2.1.out.cell 2;go_wp2;exact bodyPost_ret (v:=bK S) (by simp[results,Tryz.results144,go_sem,r0,r1,r2,ai]) rfl ⟨rfl,cm⟩
end Go.Proofs.YtpfgffadgkkedaaGreatDoor
