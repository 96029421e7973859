/- Package ogeeref04: Make. -/
import Derived.Test.YtnjfebkelecgaaaGreatDoorZ14
import Derived.Deep.RegionWith
import Derived.Test.YtnjfebkelecgaaaGreatDoorZ16
import Derived.Test.YtnjfebkelecgaaaGreatDoorZ11
import Derived.Test.YtnjfebkelecgaaaGreatDoorZ12
import Derived.Test.YtnjfebkelecgaaaGreatDoorZ9
set_option linter.all false
set_option maxRecDepth 100000
set_option maxHeartbeats 16000000
namespace Go.Proofs.YtnjfebkelecgaaaGreatDoor
open Go.RowKit
attribute [local go_sem ↓] Go.wp_at_zero Go.wp_at_succ
def apw (M:List UInt8)(c:UInt8):(bs (M++[c])).extract 0 M.length=bs M:=by apply ByteArray.ext;unfold bs;rw[ByteArray.data_extract];simp
def ay7 (M:List UInt8)(c:UInt8)(i:Int)(hi:i=M.length)(W:World):
 (Instr.sliceAt 9 (ai (M++[c])) none (some (ah i)) none).run Tryz.prog W=.ok (ai M) W:=by
 subst hi;have h:=run_slice_string_h (P:=Tryz.prog) W 9 (bs (M++[c])) Tryz.underlying9 .i64 M.length zo (by rw[iH];simp<;>omega);simp only[Int.toNat_natCast,apw M c]at h;simpa[Instr.sliceAt,run_underlying Tryz.underlying9]using h
def apH (s:Bool)(n:Nat)(e:Int)(h:n%2=1):canon (aJ (s,nt n,e))=(s,nt n,e):=by
 have h0:iv s (nt n)≠0:=by rw[pY];split<;>omega
 obtain⟨h1,h2⟩:=TY s (nt n) e h0;have ht:tz n=0:=by have:=ai6 0 (n/2);rw[show 2^0* (2* (n/2)+1)=n by omega]at this;exact this
 rw[jC,ht]at h1 h2;unfold canon;rw[h1,h2];have e1:iv s (nt n)/2^0=iv s (nt n):=by simp
 rw[e1,WM,pX,jC];have e3:(nt n).isEmpty=false:=by
  have:=PD (n:=n) zo;cases h:nt n with
  |nil=>exact absurd h this
  |cons a b=>rfl
 rw[e3];simp
def aq2 (s:Bool)(l:List UInt8)(n k:Nat)(e:Int)(h:n*2^k=nv l):aJ (s,nt n,e+k)=aJ (s,l,e):=by
 unfold aJ;have e1:iv s l=iv s (nt n) *2^k:=by
  rw[pY];unfold iv;rw[<-h];split
  . rw[Int.neg_mul];simp
  . simp
 simp only[e1];rw[<-wA (iv s (nt n)) k (-(e+k))];congr 1;omega
def axe {n k v b:Nat}(h:n*2^k=v)(h0:0<v)(hv:v<2^b):k<b/\0<n:=by
 have hn:0<n:=by
  rcases Nat.eq_zero_or_pos n with h1|h1
  . subst h1;simp at h;omega
  . exact h1
 refine⟨?_,hn⟩;rcases Nat.lt_or_ge k b with h1|h1
 . exact h1
 . have h2:=Nat.pow_le_pow_right (show 0<2 by decide) h1;have h3:2^k<=n*2^k:=Nat.le_mul_of_pos_left _ hn;omega
def ax6 (w:World):Cv 83 #[ah 2] w (.agg #[aj false,ai (nt 2)]):=XX 2 w zd
def ahF {n:Nat}(h:0<n):∃M c,nt n=M++[c]/\M=nt (n/256)/\c.toNat=n%256:=⟨_,_,Kk h,rfl,MJ n⟩
def ax4 (s:Bool)(l:List UInt8)(e:Int)(w:World)(hl:l.length<=1048576)(h0:nv l=0):
 Cv 82 #[.agg #[aj s,ai l],ah e] w (cK 0):=by
 have hf:=λW=>KL s l W zo;simp only[h0,CJ,List.isEmpty_nil,Bool.not_true,Bool.and_false]at hf;have Hf:=ar hf;have hem:(bs []).toList.isEmpty=true:=by rw[xx];rfl
 clear hf h0;obtain⟨W,dK,Hb,Hm,Hr⟩:=mG w 46 [aj s,ai l] 48 [aj false,.string ⟨#[]⟩,ah 0];obtain⟨m0,mZ,m1,lD⟩:=Hm.out.g2;obtain⟨r0,aH,r1,aI,r2,aX⟩:=Hr.out.g3;go_enter Tryz.func82,Tryz.ntmps82;go_wp2_with fail;refine(Hf.out _).mono ?_;rintro e w1 ⟨rfl,ag⟩;obtain⟨Hm,m0,mZ,m1,lD⟩:=bA Hm ag;obtain⟨Hr,r0,aH,r1,aI,r2,aX⟩:=bg Hr ag;replace Hb:=az Hb ag;go_wp2;refine bodyPost_ret (v:=.agg #[aj false,.string ⟨#[]⟩,ah 0]) (by simp[results,Tryz.results82,go_sem,r0,r1,r2]) rfl ⟨rfl,?_⟩;(repeat first|exact Hb.out| (refine Below.setCell ?_ (by have:=Hb.out.size;first| (dsimp only;omega) | (show _<=_;omega) | (simp<;>omega)) _) |refine Below.drew ?_)
def ax3 (s:Bool)(l:List UInt8)(e:Int)(D:Dyadic)(hD:aJ (s,l,e)=D)(w:World)(hl:l.length<=1048576)(he: -1099511627776<=e/\e<=1099511627776)(h0:0<nv l):
 Cv 82 #[.agg #[aj s,ai l],ah e] w (cK D):=by
 have hf:=λW=>KL s l W zo;have e3:(nt (nv l)).isEmpty=false:=by
  have:=PD h0;cases h:nt (nv l)with
  |nil=>exact absurd h this
  |cons a b=>rfl
 rw[e3]at hf;simp only[Bool.not_false,Bool.and_true]at hf;have hvb:=rE l;obtain⟨v,hv⟩:=aK (nv l);rw[hv]at h0 hvb;simp only[hv]at hf;have hup:∀n k:Nat,n*2^k=v->aJ (s,nt n,e+k)=D:=λn k h=>by rw[<-hD];exact aq2 s l n k e (by rw[hv];exact h)
 obtain⟨Bn,hBn⟩:=aK (8*l.length);have hpb:∀n k:Nat,n*2^k=v->k<Bn/\0<n:=λn k h=>by rw[<-hBn];exact axe h h0 hvb
 have hBl:Bn<=8388608:=by omega
 obtain⟨Hf,Sz,bj⟩:=cX hf hup hpb;have aCR:(bs (nt v)).toList.isEmpty=false:=by rw[xx,<-hv];exact e3
 have afG:∀n k:Nat,n*2^k=v->(nt n).length<=1048576:=λn k h=>by refine Nat.le_trans (kd (Nat.lt_of_le_of_lt (Nat.le_mul_of_pos_right n (Nat.pow_pos (n:=k) (show 0<2 by decide))) ?_)) hl;rw[h,<-hv];exact ib l
 have aaT:=ar afG;clear hf e3 hvb hup hpb hBn hD hv h0 afG;obtain⟨W,dK,Hb,Hm,Hr⟩:=mG w 46 [aj s,ai l] 48 [aj false,.string ⟨#[]⟩,ah 0];obtain⟨m0,mZ,m1,lD⟩:=Hm.out.g2;obtain⟨r0,aH,r1,aI,r2,aX⟩:=Hr.out.g3;go_enter Tryz.func82,Tryz.ntmps82;go_wp2_with fail;refine(Hf.out _).mono ?_;rintro e w1 ⟨rfl,ag⟩;obtain⟨Hm,m0,mZ,m1,lD⟩:=bA Hm ag;obtain⟨Hr,r0,aH,r1,aI,r2,aX⟩:=bg Hr ag;replace Hb:=az Hb ag;go_wp2_with fail;first|refine cd (bY w1 (w.heap.size) 0 [aj s,ai (nt v)]) cC ?_|refine cw (bY w1 (w.heap.size) 0 [aj s,ai (nt v)]) cC ?_
 intro w2 hs;replace Hm:=dt Hm hs;replace Hr:=kS Hr hs zo;obtain⟨m0,mZ,m1,lD⟩:=Hm.out.g2;obtain⟨r0,aH,r1,aI,r2,aX⟩:=Hr.out.g3;replace Hb:=bS Hb hs ZS;clear hs m0 m1 mZ lD r0 r1 r2 aH aI aX;have lm:=Hm.out.lt;have lr:=Hr.out.lt;go_loopw[1] (λx wr=>∃n k:Nat,n*2^k=v/\x=ah (e+k)/\au wr w.heap.size 46 [aj s,ai (nt n)]/\au wr (w.heap.size+1) 48 [aj false,.string ⟨#[]⟩,ah 0]/\Bw w wr) (λx _=>(e+Bn+100-intOf x).toNat);case atStart=>exact⟨v,0,by simp,by simp,Hm.out,Hr.out,Hb.out⟩
 case round=>
  clear Hm Hr Hb;obtain⟨n,k,xU,rfl,hm,hr,hb⟩:=hrel;obtain⟨hk,hn⟩:=bj.out n k xU;obtain⟨M,c,hM,NN,hc⟩:=ahF hn;obtain⟨Hm,Hr,Hb,Dw,HM,ZA⟩:=iq hm hr hb xU hM NN;have hnl:=aaT.out n k xU;have Em:M.length+1<=1048576:=by rw[hM]at hnl;simpa using hnl
  have m1:wr.cell? ⟨w.heap.size,1,none⟩=some (ai (M++[c])):=by rw[<-hM];exact hm.cell 1
  have lD:wr.frozen? ⟨w.heap.size,1,none⟩=false:=hm.free 1;have hsz:(bs (M++[c])).size=M.length+1:=by rw[iH];simp
  have iV:=uO (M++[c]) (M.length:Int) M.length zm rfl;have ru:(M++[c])[M.length]'zm=c:=by simp
  rw[ru]at iV;obtain⟨C,hC⟩:=aK c.toNat;rw[hC]at iV hc;have hsl:=ay7 M c (M.length:Int) rfl;have Hc:=ar hc;clear hm hr hb xU hM NN ru hc hnl;by_cases rP:C=0
  . subst rP;go_wp2;go_roundw;case rel=>
     refine⟨n/256,k+8,?_,by go_num,?_,?_,?_⟩
     . have h1:=Hc.out;have h2:=Dw.out;rw[<-h2,Nat.pow_add,show(2:Nat)^8=256 by rfl,Nat.mul_comm (2^k),<-Nat.mul_assoc];congr 1;omega
     . rw[<-ZA.out];exact Hm.out.set 1 _
     . exact Hr.out.aFJ ⟨w.heap.size,1,none⟩ zp _
     . exact Hb.out.setCell zp _
    case measure=>exact bI
  . have hC1:((C:Int)==0)=false:=by simp;omega
    go_wp2_with fail;clear m1 lD hsz iV hsl Em hC1 hC rP;go_loopw[1] (λx wr=>∃n k:Nat,n*2^k=v/\x=ah (e+k)/\au wr w.heap.size 46 [aj s,ai (nt n)]/\au wr (w.heap.size+1) 48 [aj false,.string ⟨#[]⟩,ah 0]/\Bw w wr) (λx _=>(e+Bn+100-intOf x).toNat);case atStart=>exact⟨n,k,Dw.out,rfl,Hm.out,Hr.out,Hb.out⟩
    case round=>
     clear Hm Hr Hb Dw HM ZA Hc hk hn;obtain⟨n,k,xU,rfl,hm,hr,hb⟩:=hrel;obtain⟨hk,hn⟩:=bj.out n k xU;obtain⟨M,c,hM,NN,hc⟩:=ahF hn;obtain⟨Hr,Dw,HM⟩:=cX hr xU hM;have hnl:=aaT.out n k xU;have Em:M.length+1<=1048576:=by rw[hM]at hnl;simpa using hnl
     have Hm:Hid (au wr w.heap.size 46 [aj s,ai (M++[c])]):=by rw[hM]at hm;exact hm
     have m0:wr.cell? ⟨w.heap.size,0,none⟩=some (aj s):=Hm.out.cell 0;have m1:wr.cell? ⟨w.heap.size,1,none⟩=some (ai (M++[c])):=Hm.out.cell 1;have hsz:(bs (M++[c])).size=M.length+1:=by rw[iH];simp
     have iV:=uO (M++[c]) (M.length:Int) M.length zm rfl;have ru:(M++[c])[M.length]'zm=c:=by simp
     rw[ru]at iV;obtain⟨C,hC⟩:=aK c.toNat;rw[hC]at iV hc;have aCA:=hb.size;have sA:=ar hb;clear hm hr hb xU NN ru hC;by_cases hev:n%2=0
     . obtain⟨n',rfl⟩:∃n',n=2*n':=⟨n/2,by omega⟩;have af3:(C:Int)%2=0:=by omega
       have hh:=λW=>ax2 s n' W zo (Nat.le_trans hnl zd);rw[hM]at hh;have Hh:=ar hh;have Hb:=hbz wr;clear hh hM hnl hc;go_wp2_with fail;have lmm:=Hm.out.lt;have lrr:=Hr.out.lt;go_region_with (first| (go_at_call 83;refine(ax6 _).mono ?_;rintro e3 w3 ⟨rfl,hb3⟩;replace hb3:=bo hb3;have LW:=ar (Hm.out.below hb3);have m03:w3.cell? ⟨w.heap.size,0,none⟩=some (aj s):=LW.out.cell 0;have rY:w3.cell? ⟨w.heap.size,1,none⟩=some (ai (M++[c])):=LW.out.cell 1) | (go_at_call 124;refine(Hh.out _).mono ?_;rintro e4 w4 ⟨rfl,hb4⟩;have Dr:=ar (LW.out.below hb4);have m04:w4.cell? ⟨w.heap.size,0,none⟩=some (aj s):=Dr.out.cell 0;have rZ:w4.cell? ⟨w.heap.size,1,none⟩=some (ai (M++[c])):=Dr.out.cell 1;have arw:=Dr.out.free 0;have arx:=Dr.out.free 1))
       all_goals
        have HBm:=ar (aO (aO sA.out hb3) hb4)
        have Hm4:=ar ((Dr.out.set 0 (aj s)).set 1 (ai (nt n')))
        have Gu:=ar ((((Hr.out.below hb3).below hb4).aFJ ⟨w.heap.size,0,none⟩ zp (aj s)).aFJ ⟨w.heap.size,1,none⟩ zp (ai (nt n')))
        clear m0 m1 m03 rY m04 rZ arw arx af3 iV hb3 hb4 LW Dr
        go_wp2
        go_roundw
        case rel=>
         refine⟨n',k+1,?_,by go_num,Hm4.out,Gu.out,?_⟩
         . rw[<-Dw.out,Nat.pow_succ,Nat.mul_comm (2^k) 2,<-Nat.mul_assoc,Nat.mul_comm n' 2]
         . exact(HBm.out.setCell zp _).setCell zp _
        case measure=>exact bI
     . have af3:((C:Int)%2==0)=false:=by simp;omega
       have hod:n%2=1:=by omega
       have hfin:=apH s n (e+k) hod;rw[Sz.out n k Dw.out,HM.out]at hfin;have wV:=ar hfin;have r0:wr.cell? ⟨w.heap.size+1,0,none⟩=some (aj false):=Hr.out.cell 0;have r1:wr.cell? ⟨w.heap.size+1,1,none⟩=some (.string ⟨#[]⟩):=Hr.out.cell 1;have r2:wr.cell? ⟨w.heap.size+1,2,none⟩=some (ah 0):=Hr.out.cell 2;have aH:=Hr.out.free 0;have aI:=Hr.out.free 1;have aX:=Hr.out.free 2;clear hM hnl hc hod hfin hev;go_wp2;refine bodyPost_ret (v:=.agg #[aj s,ai (M++[c]),ah (e+k)]) (by simp[results,Tryz.results82,go_sem,r0,r1,r2]) rfl ⟨?_,?_⟩
       . have h1:=wV.out;unfold canon at h1;simp only[Prod.mk.injEq]at h1;rw[<-h1.1,<-h1.2.1,<-h1.2.2]
       . exact(((sA.out.setCell zp _).setCell zp _).setCell zp _)
def KN (s:Bool)(l:List UInt8)(e:Int)(D:Dyadic)(hD:aJ (s,l,e)=D)(w:World)(hl:l.length<=1048576)(he: -1099511627776<=e/\e<=1099511627776):
 Cv 82 #[.agg #[aj s,ai l],ah e] w (cK D):=by
 rcases Nat.eq_zero_or_pos (nv l)with h0|h0
 . have:D=0:=by rw[<-hD];exact TZ s l e (by unfold iv;rw[h0];split<;>rfl)
   rw[this];exact ax4 s l e w hl h0
 . exact ax3 s l e D hD w hl he h0
def dI (n:Nat):Dyadic:=Dyadic.ofIntWithPrec (n:Int) 0
end Go.Proofs.YtnjfebkelecgaaaGreatDoor
namespace Go.Proofs.YtnjfebkelecgaaaGreatDoor
def DX (n:Nat)(h:n<4096):Sm 12 (dI n):=by
 refine⟨(n:Int) *2^12,?_,?_⟩
 . unfold dI;rw[<-wA (n:Int) 12 0];rfl
 . have:((n:Int) *2^12).natAbs=n*4096:=by rw[Int.natAbs_mul];rfl
   rw[this];have:(2:Nat)^(2*12)=16777216:=by rfl
   omega
end Go.Proofs.YtnjfebkelecgaaaGreatDoor
namespace Go.Proofs.YtnjfebkelecgaaaGreatDoor
open Go.RowKit
def aqD {B:Nat}{c:Dyadic}(h:Sm B c)(r x:List Nat):Sm B (c*delta r x):=by
 unfold delta;split
 . rw[Dyadic.mul_one];exact h
 . rw[Dyadic.mul_zero];exact Sm.zero B
def ap9 {B:Nat}(r:List Nat)(ps:ju)(h:∀p∈ps,Sm B p.2):Sm (B+ps.length) (un ps r):=by
 unfold un;induction ps with
 |nil=>exact Sm.zero _
 |cons p ps ih=>have h1:=ih (λq hq=>h q (by simp[hq]));have h2:=aqD (h p zm) r p.1;have h3:=Sm.add (h2.mono (show B<=B+ps.length by omega)) h1;rw[List.length_cons,<-Nat.add_assoc];exact h3
def aqb {B C:Nat}(R:List (List Nat))(ps:ju)(h:∀p∈ps,Sm B p.2)(hC:B+ps.length<=C):∀d∈qR R ps,Sm C d:=by intro d hd;unfold qR at hd;rw[List.mem_map]at hd;obtain⟨r,_,rfl⟩:=hd;exact(ap9 r ps h).mono hC
def ajN {B:Nat}{cs ds:List Dyadic}(h:∀c∈cs,Sm B c)(h':∀c∈ds,Sm B c):∀c∈List.zipWith (·+·) cs ds,Sm (B+1) c:=by intro c hc;rw[List.mem_iff_getElem]at hc;obtain⟨k,hk,rfl⟩:=hc;rw[List.length_zipWith]at hk;rw[List.getElem_zipWith];exact Sm.add (h _ (List.getElem_mem zo)) (h' _ (List.getElem_mem zo))
end Go.Proofs.YtnjfebkelecgaaaGreatDoor
namespace Go.Proofs.YtnjfebkelecgaaaGreatDoor
def su (V D:Nat)(cs l:List Dyadic):List Dyadic:=qR (bK (V+1) (D+1)) (CU (bK (V+1) D) cs λk=>l.getD k 0)
def azG (V D:Nat)(cs l:List Dyadic):(su V D cs l).length=cnt V (D+1):=by unfold su;rw[aqa,nS]
def azI (x:List Nat)(c:Dyadic)(l:Nat->Dyadic):(vk x c l).length=x.length:=by simp[vk]
def azH {A B V D:Nat}{cs l:List Dyadic}(h:∀c∈cs,Sm A c)(h':∀c∈l,Sm B c)(hV:V<=8)(hc:cnt V D<=512):∀d∈su V D cs l,Sm (A+B+4608) d:=by
 have gy:(bK (V+1) D).length=cnt V D:=nS V D;have hm:∀x∈bK (V+1) D,x.length=V+1:=λx hx=>((kV V D x).1 hx).1;unfold su;generalize bK (V+1) D=R at*;have e:CU R cs (λk=>l.getD k 0)=ve (λk=>vk (R.getD k []) (cs.getD k 0) λk=>l.getD k 0) R.length:=rfl;have hs:∀k,k<R.length->(R.getD k []).length=V+1:=λk hk=>by
  have:R.getD k []=R[k]:=by simp[hk]
  rw[this];exact hm _ (List.getElem_mem hk)
 have hl:=ahW (λk=>vk (R.getD k []) (cs.getD k 0) λk=>l.getD k 0) 9 R.length R.length (Nat.le_refl _) (λk hk=>by rw[azI,hs k hk];omega)
 refine aqb (B:=A+B) _ _ ?_ ?_
 . rw[e];refine ahV _ R.length R.length (Nat.le_refl _) (λk hk p hp=>?_);unfold vk at hp;rw[List.mem_map]at hp;obtain⟨t,_,rfl⟩:=hp;exact Sm.mul (rO h k) (rO h' t)
 . rw[e];omega
def ik (V:Nat):Nat->List Dyadic->List (List Dyadic)->List Dyadic
 |_,cs,[]=>cs
 |D,cs,l::ls=>ik V (D+1) (su V D cs l) ls
def arX (V D:Nat)(cs:List Dyadic)(ls ms:List (List Dyadic)):ik V D cs (ls++ms)=ik V (D+ls.length) (ik V D cs ls) ms:=by
 induction ls generalizing D cs with
 |nil=>rfl
 |cons l ls ih=>rw[List.cons_append,ik,ik,ih,List.length_cons];rw[show D+1+ls.length=D+(ls.length+1)by omega]
def adf (V D:Nat)(cs:List Dyadic)(ls:List (List Dyadic))(l:List Dyadic):ik V D cs (ls++[l])=su V (D+ls.length) (ik V D cs ls) l:=by rw[arX];rfl
def adc (V D:Nat)(cs:List Dyadic)(ls:List (List Dyadic))(h:cs.length=cnt V D):(ik V D cs ls).length=cnt V (D+ls.length):=by
 induction ls generalizing D cs with
 |nil=>exact h
 |cons l ls ih=>rw[ik,ih _ _ (azG V D cs l),List.length_cons];rw[show D+1+ls.length=D+(ls.length+1)by omega]
def ade {A B V D:Nat}{cs:List Dyadic}(ls:List (List Dyadic))(h:∀c∈cs,Sm A c)(h':∀l∈ls,∀c∈l,Sm B c)(hV:V<=8)(hc:∀d,d<D+ls.length->cnt V d<=512):∀d∈ik V D cs ls,Sm (A+ls.length* (B+4608)) d:=by
 induction ls generalizing D cs A with
 |nil=>simpa[ik]using h
 |cons l ls ih=>have h1:=azH (V:=V) (D:=D) h (h' l zm) hV (hc D zm);have h2:=ih (D:=D+1) h1 (λm hm=>h' m (by simp[hm])) (λd hd=>hc d (by rw[List.length_cons];omega));intro d hd;refine(h2 d hd).mono ?_;rw[List.length_cons,Nat.succ_mul];omega
def ayd (V:Nat):bK (V+1) 0=[List.replicate (V+1) 0]:=by
 have h1:(bK (V+1) 0).length=1:=by rw[nS,zr]
 obtain⟨x,hx⟩:∃x,bK (V+1) 0=[x]:=List.length_eq_one_iff.1 h1;have hm:=(kV V 0 x).1 (by rw[hx];simp);rw[hx];congr 1;refine List.eq_replicate_iff.2 ⟨hm.1,λa ha=>?_⟩;have:=Fb ha;omega
def mo (S:List (List Dyadic))(k:Nat):List Dyadic:=S.map λr=>r.getD k 0
def lT (S:List (List Dyadic))(es:List Nat)(n:Nat):List (List Dyadic):=(List.range n).flatMap λk=>List.replicate (es.getD k 0) (mo S k)
def oP (V:Nat):List Dyadic:=List.replicate (V+1) 1
def kJ (V D:Nat)(S:List (List Dyadic))(c:Dyadic)(es:List Nat):List Dyadic:=ik V 0 [c] (lT S es es.length++List.replicate (D-es.sum) (oP V))
def fQ (V D:Nat)(S:List (List Dyadic))(ts:List (Dyadic×List Nat)):List Dyadic:=ts.foldl (λs t=>List.zipWith (·+·) s (kJ V D S t.1 t.2)) (List.replicate (cnt V D) 0)
def PU (S:List (List Dyadic))(es:List Nat)(n:Nat):lT S es (n+1)=lT S es n++List.replicate (es.getD n 0) (mo S n):=by unfold lT;rw[List.range_succ,List.flatMap_append];simp
def Yj (S:List (List Dyadic))(es:List Nat)(n:Nat)(h:n<=es.length):(lT S es n).length=(es.take n).sum:=by
 induction n with
 |zero=>rfl
 | succ n ih=>
   rw[PU,List.length_append,ih zo,List.take_succ_eq_append_getElem zo,List.sum_append,List.length_replicate];have:es.getD n 0=es[n]:=by simp[show n<es.length by omega]
   rw[this];simp
def PW (V D:Nat)(S:List (List Dyadic))(es:List Nat)(h:es.sum<=D):(lT S es es.length++List.replicate (D-es.sum) (oP V)).length=D:=by rw[List.length_append,Yj _ _ _ (Nat.le_refl _),List.take_length,List.length_replicate];omega
def ayZ {P:List Dyadic->Prop}(V D:Nat)(S:List (List Dyadic))(es:List Nat)(h1:∀k,k<es.length->P (mo S k))(h2:P (oP V)):∀l∈lT S es es.length++List.replicate (D-es.sum) (oP V),P l:=by
 intro l hl;rw[List.mem_append]at hl;rcases hl with hl|hl
 . unfold lT at hl;rw[List.mem_flatMap]at hl;obtain⟨k,hk,hl⟩:=hl;rw[List.mem_range]at hk;rw[(List.mem_replicate.1 hl).2];exact h1 k hk
 . rw[(List.mem_replicate.1 hl).2];exact h2
def Ug (V D:Nat)(S:List (List Dyadic))(c:Dyadic)(es:List Nat)(h:es.sum<=D):(kJ V D S c es).length=cnt V D:=by unfold kJ;rw[adc _ _ _ _ (by rw[zr];rfl),PW _ _ _ _ h,Nat.zero_add]
def ada {A B V D:Nat}{S:List (List Dyadic)}{c:Dyadic}{es:List Nat}(hc:Sm A c)(hS:∀r∈S,∀d∈r,Sm B d)(hB:1<=B)(hV:V<=8)(h:es.sum<=D)(h5:∀d,d<D->cnt V d<=512):∀d∈kJ V D S c es,Sm (A+D* (B+4608)) d:=by
 have hg:=ade (A:=A) (B:=B) (V:=V) (D:=0) (cs:=[c]) (lT S es es.length++List.replicate (D-es.sum) (oP V)) (by simpa using hc) (ayZ (P:=λl=>∀c∈l,Sm B c) V D S es (λk _=>by
  intro c hc;unfold mo at hc;obtain⟨r,hr,rfl⟩:=List.mem_map.1 hc
  exact rO (hS r hr) k) (by
  intro c hc;rw[(List.mem_replicate.1 hc).2]
  exact Sm.mono (A:=1) ⟨2,by decide,by decide⟩ hB)) hV (by rw[PW _ _ _ _ h,Nat.zero_add];exact h5)
 rw[PW _ _ _ _ h]at hg;exact hg
def eZ (X:Nat->Dyadic)(x:List Nat):Nat->Dyadic
 |0=>1
 |k+1=>eZ X x k*cP (X k) (x.getD k 0)
def avC (X:Nat->Dyadic)(x:List Nat)(k j:Nat)(hk:k<x.length):eZ X (kQ x k) j=if k<j then X k*eZ X x j else eZ X x j:=by
 induction j with
 |zero=>rfl
 | succ j ih=>
   have e:(kQ x k).getD j 0=if j=k then x.getD k 0+1 else x.getD j 0:=by
    unfold kQ;rw[List.getD_eq_getElem?_getD,List.getElem?_set];by_cases h:k=j
    . subst h;rw[if_pos rfl,if_pos hk,if_pos rfl];rfl
    . rw[if_neg h,if_neg (λh2=>h h2.symm),<-List.getD_eq_getElem?_getD]
   rw[eZ,ih,e,eZ];by_cases h:j=k
   . subst h;rw[if_neg zo,if_pos rfl,if_pos zo,cP];grind
   . rw[if_neg h];by_cases h2:k<j
     . rw[if_pos h2,if_pos zo];grind
     . rw[if_neg h2,if_neg zo]
def iR (X:Nat->Dyadic)(V D:Nat)(cs:List Dyadic):Dyadic:=qw (λx=>eZ X x (V+1)) (bK (V+1) D) cs
def Yr (f:Nat->Dyadic)(c:Dyadic)(n:Nat):sumTo (λk=>f k*c) n=sumTo f n*c:=by
 induction n with
 |zero=>show(0:Dyadic)=0*c;grind
 |succ n ih=>rw[sumTo,sumTo,ih];grind
def at7 {V D:Nat}{x:List Nat}(h:x∈bK (V+1) D)(k:Nat)(hk:k<V+1):kQ x k∈bK (V+1) (D+1):=by obtain⟨h1,h2⟩:=(kV V D x).1 h;exact(kV V (D+1) _).2 ⟨by unfold kQ;rw[List.length_set,h1],by rw[agK x k zo,h2]⟩
def aoP (X:Nat->Dyadic)(V D:Nat)(cs l:List Dyadic):iR X V (D+1) (su V D cs l)=sumTo (λk=>l.getD k 0*X k) (V+1) *iR X V D cs:=by
 unfold iR su qR;rw[aAU _ _ (PR V (D+1)) _ (aiT (n:=V+1) (λx hx=>((kV V D x).1 hx).1) (λx hx k hk=>at7 hx k hk)),awH];rw[ajM (h:=λx=>eZ X x (V+1) *sumTo (λk=>l.getD k 0*X k) (V+1))]
 . unfold qw;rw[<-Dyadic.mul_comm,<-Yr];congr 1;funext k;grind
 . intro x hx;obtain⟨h1,_⟩:=(kV V D x).1 hx;unfold YA;rw[h1,Dyadic.mul_comm,<-Yr];refine sumTo_congr _ (λk hk=>?_);show l.getD k 0*eZ X (kQ x k) (V+1)=_
   rw[avC X x k _ zo,if_pos hk];grind
def aoL (X:Nat->Dyadic)(V D:Nat)(a b:List Dyadic)(h:a.length=b.length):iR X V D (List.zipWith (·+·) a b)=iR X V D a+iR X V D b:=aAT _ _ a b h
def KU {α:Type}(f:α->Dyadic):List α->Dyadic
 |[]=>0
 |x::l=>f x+KU f l
def arC {h:List Dyadic->Dyadic}(V D N:Nat)(S:List (List Dyadic))(hN:cnt V D=N)(h0:h (List.replicate N 0)=0)(hadd:∀a b:List Dyadic,a.length=N->b.length=N->h (List.zipWith (·+·) a b)=h a+h b)(ts:List (Dyadic×List Nat))(ht:∀t∈ts,t.2.sum<=D):h (fQ V D S ts)=KU (λt=>h (kJ V D S t.1 t.2)) ts/\(fQ V D S ts).length=N:=by
 have gen:∀(ts:List (Dyadic×List Nat)) (acc:List Dyadic),(∀t∈ts,t.2.sum<=D)->acc.length=N->h (ts.foldl (λs t=>List.zipWith (·+·) s (kJ V D S t.1 t.2)) acc)=h acc+KU (λt=>h (kJ V D S t.1 t.2)) ts/\(ts.foldl (λs t=>List.zipWith (·+·) s (kJ V D S t.1 t.2)) acc).length=N:=by
  intro ts;induction ts with
  |nil=>intro acc _ ha;exact⟨by show h acc=h acc+0;grind,ha⟩
  | cons t ts ih=>
    intro acc ht ha;have hl:(kJ V D S t.1 t.2).length=N:=by rw[Ug V D S t.1 t.2 (ht t zm),hN]
    obtain⟨h1,h2⟩:=ih (List.zipWith (·+·) acc (kJ V D S t.1 t.2)) (λu hu=>ht u (by simp[hu])) (by rw[List.length_zipWith,ha,hl,Nat.min_self]);refine⟨?_,h2⟩;rw[List.foldl_cons,h1,hadd _ _ ha hl,KU];grind
 unfold fQ;rw[hN];obtain⟨h1,h2⟩:=gen ts (List.replicate N 0) ht zm;exact⟨by rw[h1,h0];grind,h2⟩
def aAV (h:List Nat->Dyadic)(R:List (List Nat))(N:Nat):qw h R (List.replicate N 0)=0:=by
 unfold qw;have:∀k,(List.replicate N (0:Dyadic)).getD k 0=0:=λk=>by rw[List.getD_eq_getElem?_getD,List.getElem?_replicate];split<;>rfl
 rw[show(λk=>(List.replicate N (0:Dyadic)).getD k 0*h (R.getD k []))=λk=>(λ_=>0:Nat->Dyadic) k*0 by funext k;rw[this];grind];rw[Yr];grind
end Go.Proofs.YtnjfebkelecgaaaGreatDoor
namespace Go.Proofs.YtnjfebkelecgaaaGreatDoor
open Go.RowKit
attribute [local go_sem ↓] Go.wp_at_zero Go.wp_at_succ
def ie (x:Raw):Prop:=x.2.1.length<=16384/\ -16384<=x.2.2/\x.2.2<=16384
def ie.sm {x:Raw}(h:ie x):Sm 262144 (aJ x):=Sm.raw (B:=131072) (by have:=h.1;omega) (by have:=h.2.1;omega) (by have:=h.2.2;omega)
def Sm.aFO {B:Nat}{d:Dyadic}(h:Sm B d)(hB:B<=16384):ie (canon d):=by obtain⟨h1,h2,h3⟩:=h.parts;exact⟨lM h1 zo,by show-16384<=dE d;omega,by show dE d<=16384;omega⟩
def ie.ok {x:Raw}(h:ie x):Ok x:=⟨by have:=h.1;omega,by have:=h.2.1;omega,by have:=h.2.2;omega⟩
def Fw (s:Bool)(l:List UInt8)(e:Int)(D:Dyadic)(hD:aJ (s,l,e)=D)(w:World)(hx:ie (s,l,e)):
 Cv 90 #[.agg #[aj s,ai l,ah e]] w (cK D):=by
 have h1:=λW=>KN s l e D hD W (by have:=hx.1;simp only at this;omega) (by have:=hx.2;simp only at this;omega);have H1:=ar h1;clear h1 hD hx;obtain⟨W,dK,Hb,Hx,Hr⟩:=mG w 48 [aj s,ai l,ah e] 48 [aj false,.string ⟨#[]⟩,ah 0];obtain⟨x0,x1,x2⟩:=Hx.out.c3;obtain⟨r0,aH,r1,aI,r2,aX⟩:=Hr.out.g3;go_enter Tryz.func90,Tryz.ntmps90;go_wp2_with fail;refine(H1.out _).mono ?_;rintro e w1 ⟨rfl,ag⟩;obtain⟨Hx,x0,x1,x2⟩:=cm Hx ag;obtain⟨Hr,r0,aH,r1,aI,r2,aX⟩:=bg Hr ag;replace Hb:=az Hb ag;go_wp2;refine fP (bY w1 (w.heap.size+1) 0 [aj (aC (dN D)),ai (nt (dN D).natAbs),ah (dE D)]) cC ?_;intro w9 hs;replace Hx:=kS Hx hs zo;replace Hr:=dt Hr hs;obtain⟨x0,x1,x2⟩:=Hx.out.c3;obtain⟨r0,aH,r1,aI,r2,aX⟩:=Hr.out.g3;replace Hb:=bS Hb hs ZS;clear hs;refine bodyPost_ret (v:=cK D) (by simp[results,Tryz.results90,go_sem,r0,r1,r2]) rfl ⟨rfl,Hb.out⟩
def PS (s:Bool)(l:List UInt8)(e:Int)(g:Int)(hg:eG (aJ (s,l,e))=g)(w:World)(hl:l.length<=68719476736):
 Cv 89 #[.agg #[aj s,ai l,ah e]] w (ah g):=by
 have h1:=λW=>ayx s l W hl;rw[show gh (iv s l)=g by rw[<-hg];exact aiw s l e]at h1;have H1:=ar h1;clear h1 hg hl;obtain⟨W,dK,Hb,Hx⟩:=jD w 48 [aj s,ai l,ah e];obtain⟨x0,x1,x2⟩:=Hx.out.c3;go_enter Tryz.func89,Tryz.ntmps89;go_wp2_with fail;refine(H1.out _).mono ?_;rintro e w1 ⟨rfl,ag⟩;obtain⟨Hx,x0,x1,x2⟩:=cm Hx ag;replace Hb:=az Hb ag;go_wp2;go_ret;exact⟨rfl,Hb.out⟩
def ax7 (n:Nat)(D:Dyadic)(hD:Dyadic.ofIntWithPrec (n:Int) 0=D)(w:World)(hn:n<=1000000):
 Cv 50 #[ah (n:Int)] w (cK D):=by
 have h1:=λW=>XX n W zo;have h2:=λW=>KN false (nt n) 0 D (by unfold aJ;simp only[pY];exact hD) W (Nat.le_trans (kd (k:=4) zo) zd) zo;clear hD;generalize nt n=m at*;obtain⟨H1,H2⟩:=aZ h1 h2;clear h1 h2;obtain⟨W,dK,Hb,Hr⟩:=jD w 48 [aj false,.string ⟨#[]⟩,ah 0];obtain⟨r0,aH,r1,aI,r2,aX⟩:=Hr.out.g3;go_enter Tryz.func50,Tryz.ntmps50;go_wp2_with fail;refine(H1.out _).mono ?_;rintro e w1 ⟨rfl,ag⟩;obtain⟨Hr,r0,aH,r1,aI,r2,aX⟩:=bg Hr ag;replace Hb:=az Hb ag;go_wp2_with fail;refine(H2.out _).mono ?_;rintro e w2 ⟨rfl,ag⟩;obtain⟨Hr,r0,aH,r1,aI,r2,aX⟩:=bg Hr ag;replace Hb:=az Hb ag;go_wp2;refine fP (bY w2 (w.heap.size) 0 [aj (aC (dN D)),ai (nt (dN D).natAbs),ah (dE D)]) cC ?_;intro w9 hs;replace Hr:=dt Hr hs;obtain⟨r0,aH,r1,aI,r2,aX⟩:=Hr.out.g3;replace Hb:=bS Hb hs ZS;clear hs;refine bodyPost_ret (v:=cK D) (by simp[results,Tryz.results50,go_sem,r0,r1,r2]) rfl ⟨rfl,Hb.out⟩
def aij (s:Bool)(l:List UInt8)(e:Int)(t:Bool)(m:List UInt8)(f:Int)(D:Dyadic)(hD:aJ (s,l,e) *aJ (t,m,f)=D)(w:World)(hx:ie (s,l,e))(hy:ie (t,m,f)):
 Cv 81 #[.agg #[aj s,ai l,ah e],.agg #[aj t,ai m,ah f]] w (cK D):=by
 obtain⟨Z,hZ⟩:=aK (iv s l*iv t m);have hx1:l.length<=16384:=hx.1;have hy1:m.length<=16384:=hy.1;have hx2: -16384<=e/\e<=16384:=hx.2;have hy2: -16384<=f/\f<=16384:=hy.2;have hl:(nt Z.natAbs).length<=32768:=by
  have:Z.natAbs=nv l*nv m:=by rw[<-hZ,Int.natAbs_mul,pX,pX]
  rw[this];exact Nat.le_trans (ahG l m) zo
 have h1:=λW=>ayC s l t m Z hZ W zo zo;have h2:=λW=>KN (aC Z) (nt Z.natAbs) (e+f) D (by rw[BH,<-hZ,<-hD];unfold aJ;rw[wz,show-(e+f)= -e+ -f by omega]) W zo zo;obtain⟨H1,H2⟩:=aZ h1 h2;have hwr:IntKind.i64.wrap (e+f)=e+f:=by rw[IntKind.wrap_i64];omega
 clear h1 h2 hD hZ hl hx hy hx1 hy1;generalize aC Z=v at*;generalize nt Z.natAbs=n at*;obtain⟨W,dK,Hb,Hx,Hy,Hr⟩:=wu w 48 [aj s,ai l,ah e] 48 [aj t,ai m,ah f] 48 [aj false,.string ⟨#[]⟩,ah 0];obtain⟨x0,x1,x2⟩:=Hx.out.c3;obtain⟨y0,y1,y2⟩:=Hy.out.c3;obtain⟨r0,aH,r1,aI,r2,aX⟩:=Hr.out.g3;go_enter Tryz.func81,Tryz.ntmps81;go_wp2_with fail;refine bV (λw'=>aF w' (w.heap.size) 0 (aj s)/\aF w' (w.heap.size) 1 (ai l)/\aF w' (w.heap.size) 2 (ah e)/\aF w' (w.heap.size+1) 0 (aj t)/\aF w' (w.heap.size+1) 1 (ai m)/\aF w' (w.heap.size+1) 2 (ah f)) (λi=>Nat.blt i 11) [(0,true),(1,true),(2,true),(3,true),(5,true),(6,true),(7,true),(8,true),(9,true),(4,false),(10,false),(11,false)] zk zk rfl zk zc ⟨x0,x1,x2,y0,y1,y2⟩ ?_;iterate 9 (refine pT rfl rfl ?_ (by intro w' ⟨q0,q1,q2,q3,q4,q5⟩;go_simp;try with_reducible rfl))
 refine aR rfl rfl (λK hK=>?_);go_simp;with_reducible refine(H1.out _).mono ?_
 rintro e w1 ⟨rfl,hq⟩;have ag:Bw W w1:=by first|exact hq|exact bo hq
 obtain⟨Hx,x0,x1,x2⟩:=cm Hx ag;obtain⟨Hy,y0,y1,y2⟩:=cm Hy ag;obtain⟨Hr,r0,aH,r1,aI,r2,aX⟩:=bg Hr ag;replace Hb:=az Hb ag;refine hK _ _ (λ_=>⟨x0,x1,x2,y0,y1,y2⟩) ?_
 refine aR rfl rfl (λK hK=>?_);go_simp;with_reducible refine(H2.out _).mono ?_
 rintro e w2 ⟨rfl,hq⟩;have ag:Bw w1 w2:=by first|exact hq|exact bo hq
 obtain⟨Hx,x0,x1,x2⟩:=cm Hx ag;obtain⟨Hy,y0,y1,y2⟩:=cm Hy ag;obtain⟨Hr,r0,aH,r1,aI,r2,aX⟩:=bg Hr ag;replace Hb:=az Hb ag;refine hK _ _ (λ_=>⟨x0,x1,x2,y0,y1,y2⟩) ?_
 refine aR rfl rfl (λK hK=>?_);go_simp;refine hK _ _ (λh=>absurd h zd) ?_
 refine bZ (bY w2 (w.heap.size+1+1) 0 [aj (aC (dN D)),ai (nt (dN D).natAbs),ah (dE D)]) cC ?_;intro w9 hs;replace Hx:=kS Hx hs zo;replace Hy:=kS Hy hs zo;replace Hr:=dt Hr hs;obtain⟨x0,x1,x2⟩:=Hx.out.c3;obtain⟨y0,y1,y2⟩:=Hy.out.c3;obtain⟨r0,aH,r1,aI,r2,aX⟩:=Hr.out.g3;replace Hb:=bS Hb hs ZS;clear hs;simp only[bu];go_wp2;exact bodyPost_ret (v:=cK D) (by simp[results,Tryz.results81,go_sem,r0,r1,r2]) rfl ⟨rfl,dH⟩
def ahI (n:Nat):n<256^(nt n).length:=by have:=ib (nt n);rwa [jC]at this
def aw7 (A C S:Dyadic)(hS:A+C=S)(p:Nat)(hp:dE A-dE C=(p:Int))(Z1 Z:Int)(h1:dN A*2^p=Z1)(h2:Z1+dN C=Z):aJ (aC Z,nt Z.natAbs,dE C)=S:=by
 rw[BH,<-h2,<-h1,<-Ay,<-hS];congr 1
 . have:=wA (dN A) p (-(dE A));rw[show-(dE C)= -(dE A)+(p:Int)by omega,this];exact(uV A).symm
 . exact(uV C).symm
def ayn (s:Bool)(l:List UInt8)(e:Int)(t:Bool)(m:List UInt8)(f:Int)(S:Dyadic)(hS:aJ (s,l,e)+aJ (t,m,f)=S)(w:World)(hx:ie (s,l,e))(hy:ie (t,m,f)):
 Cv 94 #[.agg #[aj s,ai l,ah e],.agg #[aj t,ai m,ah f]] w (cK S):=by
 obtain⟨A,hA⟩:=aK (aJ (s,l,e));obtain⟨C,hC⟩:=aK (aJ (t,m,f));have uu:=hx.sm;have Eh:=hy.sm;rw[hA]at uu;rw[hC]at Eh;obtain⟨a1,a2,a3⟩:=uu.parts;obtain⟨c1,c2,c3⟩:=Eh.parts;have la:(nt (dN A).natAbs).length<=65536:=lM a1 zo;have lc:(nt (dN C).natAbs).length<=65536:=lM c1 zo;have dG:=λW=>Fw s l e A hA W hx;have il:=λW=>Fw t m f C hC W hy;rw[hA,hC]at hS;have Ae:=λW=>PS (aC (dN A)) (nt (dN A).natAbs) (dE A) (eG A) (by show eG (aJ (canon A))=_;rw[cp]) W zo;have Cr:=λW=>PS (aC (dN C)) (nt (dN C).natAbs) (dE C) (eG C) (by show eG (aJ (canon C))=_;rw[cp]) W zo;have Ey:(eG A==0)=true↔A=0:=by rw[<-Bool.not_eq_false];rw[xz];simp
 have Ez:(eG C==0)=true↔C=0:=by rw[<-Bool.not_eq_false];rw[xz];simp
 have hpl:=λ(A C:Dyadic) (hS:A+C=S) (hA1:(nt (dN A).natAbs).length<=65536) (hC1:(nt (dN C).natAbs).length<=65536) (p:Nat) (hp:dE A-dE C=(p:Int)) (JC:p<=524288) (Eg: -262144<=dE C/\dE C<=262144)=>(show ∃Z1 Z:Int,(∀W,Cv 132 #[.agg #[aj (aC (dN A)),ai (nt (dN A).natAbs)],ah (p:Int)] W (.agg #[aj (aC Z1),ai (nt Z1.natAbs)]))/\(∀W,Cv 131 #[.agg #[aj (aC Z1),ai (nt Z1.natAbs)],.agg #[aj (aC (dN C)),ai (nt (dN C).natAbs)]] W (.agg #[aj (aC Z),ai (nt Z.natAbs)]))/\(∀W,Cv 82 #[.agg #[aj (aC Z),ai (nt Z.natAbs)],ah (dE C)] W (cK S))from by
  obtain⟨Z1,h1⟩:=aK (dN A*2^p);obtain⟨Z,h2⟩:=aK (Z1+dN C);have l1:(nt Z1.natAbs).length<=589824:=by
   have e1:Z1.natAbs=nv (nt (dN A).natAbs) *2^p:=by rw[<-h1,Int.natAbs_mul,jC];simp[Int.natAbs_pow]
   rw[e1];exact Nat.le_trans (ahH _ p) zo
  have l2:(nt Z.natAbs).length<=589825:=by
   obtain⟨K,hK⟩:=aK (589824);rw[hK]at l1;have lcK:(nt (dN C).natAbs).length<=K:=by omega
   have hle:(nt Z.natAbs).length<=K+1:=by
    refine kd ?_;have b1:Z1.natAbs<256^K:=Nat.lt_of_lt_of_le (ahI _) (Nat.pow_le_pow_right zd l1);have b2:(dN C).natAbs<256^K:=Nat.lt_of_lt_of_le (ahI _) (Nat.pow_le_pow_right zd lcK);have b3:Z.natAbs<=Z1.natAbs+(dN C).natAbs:=by rw[<-h2];exact Int.natAbs_add_le _ _
    rw[Nat.pow_succ];omega
   omega
  refine⟨Z1,Z,λW=>ayv _ _ p Z1 (by rw[gK];exact h1) W zo zo,λW=>aym _ _ _ _ Z (by rw[gK,gK];exact h2) W zo zo,λW=>KN _ _ (dE C) S (aw7 A C S hS p hp Z1 Z h1 h2) W zo zo⟩)
 have Cn:=hpl;by_cases vL:A=0
 . have zA:=Ey.2 vL;have Uu:C=S:=by rw[<-hS,vL];grind
   subst Uu;obtain⟨fO,mN,Bb⟩:=cX dG il Ae;clear dG il Ae Cr hpl Cn Ey Ez vL hA hC hS uu Eh a1 a2 a3 c1 c2 c3 la lc hx hy;obtain⟨W,dK,Hb,Hx,Hy,Hr⟩:=wu w 48 [aj s,ai l,ah e] 48 [aj t,ai m,ah f] 48 [aj false,.string ⟨#[]⟩,ah 0];obtain⟨x0,cM,x1,cN,x2,dh⟩:=Hx.out.g3;obtain⟨y0,cG,y1,cH,y2,cO⟩:=Hy.out.g3;obtain⟨r0,aH,r1,aI,r2,aX⟩:=Hr.out.g3;go_enter Tryz.func94,Tryz.ntmps94;go_wp2_with fail;refine bV (λw'=>aF w' (w.heap.size) 0 (aj s)/\aF w' (w.heap.size) 1 (ai l)/\aF w' (w.heap.size) 2 (ah e)/\aF w' (w.heap.size+1) 0 (aj t)/\aF w' (w.heap.size+1) 1 (ai m)/\aF w' (w.heap.size+1) 2 (ah f)) (λi=>Nat.blt i 4) [(0,true),(2,true),(1,false),(3,false),(4,false),(5,false)] zk zk rfl zk zc ⟨x0,x1,x2,y0,y1,y2⟩ ?_;iterate 2 (refine pT rfl rfl ?_ (by intro w' ⟨q0,q1,q2,q3,q4,q5⟩;go_simp;try with_reducible rfl))
   refine aR rfl rfl (λK hK=>?_);go_simp;with_reducible refine(fO.out _).mono ?_
   rintro e w1 ⟨rfl,hq⟩;have ag:Bw W w1:=by first|exact hq|exact bo hq
   obtain⟨Hx,x0,cM,x1,cN,x2,dh⟩:=bg Hx ag;obtain⟨Hy,y0,cG,y1,cH,y2,cO⟩:=bg Hy ag;obtain⟨Hr,r0,aH,r1,aI,r2,aX⟩:=bg Hr ag;replace Hb:=az Hb ag;refine hK _ _ (λ_=>⟨x0,x1,x2,y0,y1,y2⟩) ?_
   refine aR rfl rfl (λK hK=>?_);go_simp;with_reducible refine(mN.out _).mono ?_
   rintro e w2 ⟨rfl,hq⟩;have ag:Bw w1 w2:=by first|exact hq|exact bo hq
   obtain⟨Hx,x0,cM,x1,cN,x2,dh⟩:=bg Hx ag;obtain⟨Hy,y0,cG,y1,cH,y2,cO⟩:=bg Hy ag;obtain⟨Hr,r0,aH,r1,aI,r2,aX⟩:=bg Hr ag;replace Hb:=az Hb ag;refine hK _ _ (λ_=>⟨x0,x1,x2,y0,y1,y2⟩) ?_
   refine aR rfl rfl (λK hK=>?_);go_simp;refine hK _ _ (λh=>absurd h zd) ?_
   refine bZ (bY w2 (w.heap.size) 0 [aj (aC (dN A)),ai (nt (dN A).natAbs),ah (dE A)]) cC ?_;intro w3 hs;replace Hx:=dt Hx hs;replace Hy:=kS Hy hs zo;replace Hr:=kS Hr hs zo;obtain⟨x0,cM,x1,cN,x2,dh⟩:=Hx.out.g3;obtain⟨y0,cG,y1,cH,y2,cO⟩:=Hy.out.g3;obtain⟨r0,aH,r1,aI,r2,aX⟩:=Hr.out.g3;replace Hb:=bS Hb hs ZS;clear hs;refine aR rfl rfl (λK hK=>?_);go_simp;refine hK _ _ (λh=>absurd h zd) ?_
   refine bZ (bY w3 (w.heap.size+1) 0 [aj (aC (dN C)),ai (nt (dN C).natAbs),ah (dE C)]) cC ?_;intro w4 hs;replace Hx:=kS Hx hs zo;replace Hy:=dt Hy hs;replace Hr:=kS Hr hs zo;obtain⟨x0,cM,x1,cN,x2,dh⟩:=Hx.out.g3;obtain⟨y0,cG,y1,cH,y2,cO⟩:=Hy.out.g3;obtain⟨r0,aH,r1,aI,r2,aX⟩:=Hr.out.g3;replace Hb:=bS Hb hs ZS;clear hs;simp only[bu];go_wp2_with fail;refine(Bb.out _).mono ?_;rintro e w5 ⟨rfl,ag⟩;obtain⟨Hx,x0,cM,x1,cN,x2,dh⟩:=bg Hx ag;obtain⟨Hy,y0,cG,y1,cH,y2,cO⟩:=bg Hy ag;obtain⟨Hr,r0,aH,r1,aI,r2,aX⟩:=bg Hr ag;replace Hb:=az Hb ag;go_wp2;refine fP (bY w5 (w.heap.size+1+1) 0 [aj (aC (dN C)),ai (nt (dN C).natAbs),ah (dE C)]) cC ?_;intro w9 hs;replace Hx:=kS Hx hs zo;replace Hy:=kS Hy hs zo;replace Hr:=dt Hr hs;obtain⟨x0,cM,x1,cN,x2,dh⟩:=Hx.out.g3;obtain⟨y0,cG,y1,cH,y2,cO⟩:=Hy.out.g3;obtain⟨r0,aH,r1,aI,r2,aX⟩:=Hr.out.g3;replace Hb:=bS Hb hs ZS;clear hs;refine bodyPost_ret (v:=cK C) (by simp[results,Tryz.results94,go_sem,r0,r1,r2]) rfl ⟨rfl,Hb.out⟩
 have zA:(eG A==0)=false:=by rw[<-Bool.not_eq_true];exact λh=>vL (Ey.1 h)
 by_cases rP:C=0
 . have zC:=Ez.2 rP;have Uu:A=S:=by rw[<-hS,rP];grind
   subst Uu;obtain⟨fO,mN,Bb,Gx⟩:=ej dG il Ae Cr;clear dG il Ae Cr hpl Cn Ey Ez vL rP hA hC hS uu Eh a1 a2 a3 c1 c2 c3 la lc hx hy;obtain⟨W,dK,Hb,Hx,Hy,Hr⟩:=wu w 48 [aj s,ai l,ah e] 48 [aj t,ai m,ah f] 48 [aj false,.string ⟨#[]⟩,ah 0];obtain⟨x0,cM,x1,cN,x2,dh⟩:=Hx.out.g3;obtain⟨y0,cG,y1,cH,y2,cO⟩:=Hy.out.g3;obtain⟨r0,aH,r1,aI,r2,aX⟩:=Hr.out.g3;go_enter Tryz.func94,Tryz.ntmps94;go_wp2_with fail;refine bV (λw'=>aF w' (w.heap.size) 0 (aj s)/\aF w' (w.heap.size) 1 (ai l)/\aF w' (w.heap.size) 2 (ah e)/\aF w' (w.heap.size+1) 0 (aj t)/\aF w' (w.heap.size+1) 1 (ai m)/\aF w' (w.heap.size+1) 2 (ah f)) (λi=>Nat.blt i 4) [(0,true),(2,true),(1,false),(3,false),(4,false),(5,false)] zk zk rfl zk zc ⟨x0,x1,x2,y0,y1,y2⟩ ?_;iterate 2 (refine pT rfl rfl ?_ (by intro w' ⟨q0,q1,q2,q3,q4,q5⟩;go_simp;try with_reducible rfl))
   refine aR rfl rfl (λK hK=>?_);go_simp;with_reducible refine(fO.out _).mono ?_
   rintro e w1 ⟨rfl,hq⟩;have ag:Bw W w1:=by first|exact hq|exact bo hq
   obtain⟨Hx,x0,cM,x1,cN,x2,dh⟩:=bg Hx ag;obtain⟨Hy,y0,cG,y1,cH,y2,cO⟩:=bg Hy ag;obtain⟨Hr,r0,aH,r1,aI,r2,aX⟩:=bg Hr ag;replace Hb:=az Hb ag;refine hK _ _ (λ_=>⟨x0,x1,x2,y0,y1,y2⟩) ?_
   refine aR rfl rfl (λK hK=>?_);go_simp;with_reducible refine(mN.out _).mono ?_
   rintro e w2 ⟨rfl,hq⟩;have ag:Bw w1 w2:=by first|exact hq|exact bo hq
   obtain⟨Hx,x0,cM,x1,cN,x2,dh⟩:=bg Hx ag;obtain⟨Hy,y0,cG,y1,cH,y2,cO⟩:=bg Hy ag;obtain⟨Hr,r0,aH,r1,aI,r2,aX⟩:=bg Hr ag;replace Hb:=az Hb ag;refine hK _ _ (λ_=>⟨x0,x1,x2,y0,y1,y2⟩) ?_
   refine aR rfl rfl (λK hK=>?_);go_simp;refine hK _ _ (λh=>absurd h zd) ?_
   refine bZ (bY w2 (w.heap.size) 0 [aj (aC (dN A)),ai (nt (dN A).natAbs),ah (dE A)]) cC ?_;intro w3 hs;replace Hx:=dt Hx hs;replace Hy:=kS Hy hs zo;replace Hr:=kS Hr hs zo;obtain⟨x0,cM,x1,cN,x2,dh⟩:=Hx.out.g3;obtain⟨y0,cG,y1,cH,y2,cO⟩:=Hy.out.g3;obtain⟨r0,aH,r1,aI,r2,aX⟩:=Hr.out.g3;replace Hb:=bS Hb hs ZS;clear hs;refine aR rfl rfl (λK hK=>?_);go_simp;refine hK _ _ (λh=>absurd h zd) ?_
   refine bZ (bY w3 (w.heap.size+1) 0 [aj (aC (dN C)),ai (nt (dN C).natAbs),ah (dE C)]) cC ?_;intro w4 hs;replace Hx:=kS Hx hs zo;replace Hy:=dt Hy hs;replace Hr:=kS Hr hs zo;obtain⟨x0,cM,x1,cN,x2,dh⟩:=Hx.out.g3;obtain⟨y0,cG,y1,cH,y2,cO⟩:=Hy.out.g3;obtain⟨r0,aH,r1,aI,r2,aX⟩:=Hr.out.g3;replace Hb:=bS Hb hs ZS;clear hs;simp only[bu];go_wp2_with fail;refine(Bb.out _).mono ?_;rintro e w5 ⟨rfl,ag⟩;obtain⟨Hx,x0,cM,x1,cN,x2,dh⟩:=bg Hx ag;obtain⟨Hy,y0,cG,y1,cH,y2,cO⟩:=bg Hy ag;obtain⟨Hr,r0,aH,r1,aI,r2,aX⟩:=bg Hr ag;replace Hb:=az Hb ag;go_wp2_with fail;refine(Gx.out _).mono ?_;rintro e w6 ⟨rfl,ag⟩;obtain⟨Hx,x0,cM,x1,cN,x2,dh⟩:=bg Hx ag;obtain⟨Hy,y0,cG,y1,cH,y2,cO⟩:=bg Hy ag;obtain⟨Hr,r0,aH,r1,aI,r2,aX⟩:=bg Hr ag;replace Hb:=az Hb ag;go_wp2;refine fP (bY w6 (w.heap.size+1+1) 0 [aj (aC (dN A)),ai (nt (dN A).natAbs),ah (dE A)]) cC ?_;intro w9 hs;replace Hx:=kS Hx hs zo;replace Hy:=kS Hy hs zo;replace Hr:=dt Hr hs;obtain⟨x0,cM,x1,cN,x2,dh⟩:=Hx.out.g3;obtain⟨y0,cG,y1,cH,y2,cO⟩:=Hy.out.g3;obtain⟨r0,aH,r1,aI,r2,aX⟩:=Hr.out.g3;replace Hb:=bS Hb hs ZS;clear hs;refine bodyPost_ret (v:=cK A) (by simp[results,Tryz.results94,go_sem,r0,r1,r2]) rfl ⟨rfl,Hb.out⟩
 have zC:(eG C==0)=false:=by rw[<-Bool.not_eq_true];exact λh=>rP (Ez.1 h)
 by_cases hEE:dE A<dE C
 . obtain⟨p,hp⟩:∃p:Nat,dE C-dE A=(p:Int):=⟨(dE C-dE A).toNat,by omega⟩;obtain⟨Z1,Z,g1,g2,g3⟩:=hpl C A (by rw[<-hS];grind) lc la p hp zo zo;have hwr:IntKind.i64.wrap (dE C-dE A)=(p:Int):=by rw[IntKind.wrap_i64];omega
   obtain⟨fO,mN,Bb,Gx,G1,G2,G3⟩:=mE dG il Ae Cr g1 g2 g3;clear dG il Ae Cr hpl Cn Ey Ez vL rP hA hC hS uu Eh a1 a2 a3 c1 c2 c3 la lc hx hy g1 g2 g3 hp;obtain⟨W,dK,Hb,Hx,Hy,Hr⟩:=wu w 48 [aj s,ai l,ah e] 48 [aj t,ai m,ah f] 48 [aj false,.string ⟨#[]⟩,ah 0];obtain⟨x0,cM,x1,cN,x2,dh⟩:=Hx.out.g3;obtain⟨y0,cG,y1,cH,y2,cO⟩:=Hy.out.g3;obtain⟨r0,aH,r1,aI,r2,aX⟩:=Hr.out.g3;go_enter Tryz.func94,Tryz.ntmps94;go_wp2_with fail;refine bV (λw'=>aF w' (w.heap.size) 0 (aj s)/\aF w' (w.heap.size) 1 (ai l)/\aF w' (w.heap.size) 2 (ah e)/\aF w' (w.heap.size+1) 0 (aj t)/\aF w' (w.heap.size+1) 1 (ai m)/\aF w' (w.heap.size+1) 2 (ah f)) (λi=>Nat.blt i 4) [(0,true),(2,true),(1,false),(3,false),(4,false),(5,false)] zk zk rfl zk zc ⟨x0,x1,x2,y0,y1,y2⟩ ?_;iterate 2 (refine pT rfl rfl ?_ (by intro w' ⟨q0,q1,q2,q3,q4,q5⟩;go_simp;try with_reducible rfl))
   refine aR rfl rfl (λK hK=>?_);go_simp;with_reducible refine(fO.out _).mono ?_
   rintro e w1 ⟨rfl,hq⟩;have ag:Bw W w1:=by first|exact hq|exact bo hq
   obtain⟨Hx,x0,cM,x1,cN,x2,dh⟩:=bg Hx ag;obtain⟨Hy,y0,cG,y1,cH,y2,cO⟩:=bg Hy ag;obtain⟨Hr,r0,aH,r1,aI,r2,aX⟩:=bg Hr ag;replace Hb:=az Hb ag;refine hK _ _ (λ_=>⟨x0,x1,x2,y0,y1,y2⟩) ?_
   refine aR rfl rfl (λK hK=>?_);go_simp;with_reducible refine(mN.out _).mono ?_
   rintro e w2 ⟨rfl,hq⟩;have ag:Bw w1 w2:=by first|exact hq|exact bo hq
   obtain⟨Hx,x0,cM,x1,cN,x2,dh⟩:=bg Hx ag;obtain⟨Hy,y0,cG,y1,cH,y2,cO⟩:=bg Hy ag;obtain⟨Hr,r0,aH,r1,aI,r2,aX⟩:=bg Hr ag;replace Hb:=az Hb ag;refine hK _ _ (λ_=>⟨x0,x1,x2,y0,y1,y2⟩) ?_
   refine aR rfl rfl (λK hK=>?_);go_simp;refine hK _ _ (λh=>absurd h zd) ?_
   refine bZ (bY w2 (w.heap.size) 0 [aj (aC (dN A)),ai (nt (dN A).natAbs),ah (dE A)]) cC ?_;intro w3 hs;replace Hx:=dt Hx hs;replace Hy:=kS Hy hs zo;replace Hr:=kS Hr hs zo;obtain⟨x0,cM,x1,cN,x2,dh⟩:=Hx.out.g3;obtain⟨y0,cG,y1,cH,y2,cO⟩:=Hy.out.g3;obtain⟨r0,aH,r1,aI,r2,aX⟩:=Hr.out.g3;replace Hb:=bS Hb hs ZS;clear hs;refine aR rfl rfl (λK hK=>?_);go_simp;refine hK _ _ (λh=>absurd h zd) ?_
   refine bZ (bY w3 (w.heap.size+1) 0 [aj (aC (dN C)),ai (nt (dN C).natAbs),ah (dE C)]) cC ?_;intro w4 hs;replace Hx:=kS Hx hs zo;replace Hy:=dt Hy hs;replace Hr:=kS Hr hs zo;obtain⟨x0,cM,x1,cN,x2,dh⟩:=Hx.out.g3;obtain⟨y0,cG,y1,cH,y2,cO⟩:=Hy.out.g3;obtain⟨r0,aH,r1,aI,r2,aX⟩:=Hr.out.g3;replace Hb:=bS Hb hs ZS;clear hs;simp only[bu];go_wp2_with fail;refine(Bb.out _).mono ?_;rintro e w5 ⟨rfl,ag⟩;obtain⟨Hx,x0,cM,x1,cN,x2,dh⟩:=bg Hx ag;obtain⟨Hy,y0,cG,y1,cH,y2,cO⟩:=bg Hy ag;obtain⟨Hr,r0,aH,r1,aI,r2,aX⟩:=bg Hr ag;replace Hb:=az Hb ag;go_wp2_with fail;refine(Gx.out _).mono ?_;rintro e w6 ⟨rfl,ag⟩;obtain⟨Hx,x0,cM,x1,cN,x2,dh⟩:=bg Hx ag;obtain⟨Hy,y0,cG,y1,cH,y2,cO⟩:=bg Hy ag;obtain⟨Hr,r0,aH,r1,aI,r2,aX⟩:=bg Hr ag;replace Hb:=az Hb ag;go_wp2_with fail;obtain⟨R,hR⟩:∃R:World->Prop,(λw7=>au w7 (w.heap.size) 48 [aj (aC (dN C)),ai (nt (dN C).natAbs),ah (dE C)]/\au w7 (w.heap.size+1) 48 [aj (aC (dN A)),ai (nt (dN A).natAbs),ah (dE A)]/\au w7 (w.heap.size+1+1) 48 [aj false,.string ⟨#[]⟩,ah 0]/\Bw w w7)=R:=⟨_,rfl⟩;first|refine cd R ?hR ?_|refine cw R ?hR ?_
   case hR=>subst hR;exact⟨((((((Hx.out.set 0 _).set 1 _).set 2 _).so (w.heap.size+1) 0 zo _).so (w.heap.size+1) 1 zo _).so (w.heap.size+1) 2 zo _),((((((Hy.out.so (w.heap.size) 0 zo _).so (w.heap.size) 1 zo _).so (w.heap.size) 2 zo _).set 0 _).set 1 _).set 2 _),((((((Hr.out.so (w.heap.size) 0 zo _).so (w.heap.size) 1 zo _).so (w.heap.size) 2 zo _).so (w.heap.size+1) 0 zo _).so (w.heap.size+1) 1 zo _).so (w.heap.size+1) 2 zo _),((((((Hb.out.sc (w.heap.size) 0 ZS _).sc (w.heap.size) 1 ZS _).sc (w.heap.size) 2 ZS _).sc (w.heap.size+1) 0 ZS _).sc (w.heap.size+1) 1 ZS _).sc (w.heap.size+1) 2 ZS _)⟩
   subst hR;rintro w7 ⟨qx,qy,qr,ag⟩;replace Hx:=ar qx;clear qx;replace Hy:=ar qy;clear qy;replace Hr:=ar qr;clear qr;obtain⟨x0,cM,x1,cN,x2,dh⟩:=Hx.out.g3;obtain⟨y0,cG,y1,cH,y2,cO⟩:=Hy.out.g3;obtain⟨r0,aH,r1,aI,r2,aX⟩:=Hr.out.g3;replace Hb:=ar ag;refine bV (λw'=>aF w' (w.heap.size) 0 (aj (aC (dN C)))/\aF w' (w.heap.size) 1 (ai (nt (dN C).natAbs))/\aF w' (w.heap.size) 2 (ah (dE C))/\aF w' (w.heap.size+1) 0 (aj (aC (dN A)))/\aF w' (w.heap.size+1) 1 (ai (nt (dN A).natAbs))/\aF w' (w.heap.size+1) 2 (ah (dE A))) (λi=>Nat.blt i 14) [(0,true),(1,true),(2,true),(3,true),(4,true),(5,true),(6,true),(8,true),(9,true),(11,true),(12,true),(7,false),(10,false),(13,false),(14,false)] zk zk rfl zk zc ⟨x0,x1,x2,y0,y1,y2⟩ ?_;iterate 11 (refine pT rfl rfl ?_ (by intro w' ⟨q0,q1,q2,q3,q4,q5⟩;go_simp;try with_reducible rfl))
   refine aR rfl rfl (λK hK=>?_);go_simp;with_reducible refine(G1.out _).mono ?_
   rintro e jF ⟨rfl,hq⟩;have ag:Bw w7 jF:=by first|exact hq|exact bo hq
   obtain⟨Hx,x0,cM,x1,cN,x2,dh⟩:=bg Hx ag;obtain⟨Hy,y0,cG,y1,cH,y2,cO⟩:=bg Hy ag;obtain⟨Hr,r0,aH,r1,aI,r2,aX⟩:=bg Hr ag;replace Hb:=az Hb ag;refine hK _ _ (λ_=>⟨x0,x1,x2,y0,y1,y2⟩) ?_
   refine aR rfl rfl (λK hK=>?_);go_simp;with_reducible refine(G2.out _).mono ?_
   rintro e jG ⟨rfl,hq⟩;have ag:Bw jF jG:=by first|exact hq|exact bo hq
   obtain⟨Hx,x0,cM,x1,cN,x2,dh⟩:=bg Hx ag;obtain⟨Hy,y0,cG,y1,cH,y2,cO⟩:=bg Hy ag;obtain⟨Hr,r0,aH,r1,aI,r2,aX⟩:=bg Hr ag;replace Hb:=az Hb ag;refine hK _ _ (λ_=>⟨x0,x1,x2,y0,y1,y2⟩) ?_
   refine aR rfl rfl (λK hK=>?_);go_simp;with_reducible refine(G3.out _).mono ?_
   rintro e qu ⟨rfl,hq⟩;have ag:Bw jG qu:=by first|exact hq|exact bo hq
   obtain⟨Hx,x0,cM,x1,cN,x2,dh⟩:=bg Hx ag;obtain⟨Hy,y0,cG,y1,cH,y2,cO⟩:=bg Hy ag;obtain⟨Hr,r0,aH,r1,aI,r2,aX⟩:=bg Hr ag;replace Hb:=az Hb ag;refine hK _ _ (λ_=>⟨x0,x1,x2,y0,y1,y2⟩) ?_
   refine aR rfl rfl (λK hK=>?_);go_simp;refine hK _ _ (λh=>absurd h zd) ?_
   refine bZ (bY qu (w.heap.size+1+1) 0 [aj (aC (dN S)),ai (nt (dN S).natAbs),ah (dE S)]) cC ?_;intro FC hs;replace Hx:=kS Hx hs zo;replace Hy:=kS Hy hs zo;replace Hr:=dt Hr hs;obtain⟨x0,cM,x1,cN,x2,dh⟩:=Hx.out.g3;obtain⟨y0,cG,y1,cH,y2,cO⟩:=Hy.out.g3;obtain⟨r0,aH,r1,aI,r2,aX⟩:=Hr.out.g3;replace Hb:=bS Hb hs ZS;clear hs;simp only[bu];go_wp2;exact bodyPost_ret (v:=cK S) (by simp[results,Tryz.results94,go_sem,r0,r1,r2]) rfl ⟨rfl,dH⟩
 . obtain⟨p,hp⟩:∃p:Nat,dE A-dE C=(p:Int):=⟨(dE A-dE C).toNat,by omega⟩;obtain⟨Z1,Z,g1,g2,g3⟩:=hpl A C hS la lc p hp zo zo;have hwr:IntKind.i64.wrap (dE A-dE C)=(p:Int):=by rw[IntKind.wrap_i64];omega
   obtain⟨fO,mN,Bb,Gx,G1,G2,G3⟩:=mE dG il Ae Cr g1 g2 g3;clear dG il Ae Cr hpl Cn Ey Ez vL rP hA hC hS uu Eh a1 a2 a3 c1 c2 c3 la lc hx hy g1 g2 g3 hp;obtain⟨W,dK,Hb,Hx,Hy,Hr⟩:=wu w 48 [aj s,ai l,ah e] 48 [aj t,ai m,ah f] 48 [aj false,.string ⟨#[]⟩,ah 0];obtain⟨x0,cM,x1,cN,x2,dh⟩:=Hx.out.g3;obtain⟨y0,cG,y1,cH,y2,cO⟩:=Hy.out.g3;obtain⟨r0,aH,r1,aI,r2,aX⟩:=Hr.out.g3;go_enter Tryz.func94,Tryz.ntmps94;go_wp2_with fail;refine bV (λw'=>aF w' (w.heap.size) 0 (aj s)/\aF w' (w.heap.size) 1 (ai l)/\aF w' (w.heap.size) 2 (ah e)/\aF w' (w.heap.size+1) 0 (aj t)/\aF w' (w.heap.size+1) 1 (ai m)/\aF w' (w.heap.size+1) 2 (ah f)) (λi=>Nat.blt i 4) [(0,true),(2,true),(1,false),(3,false),(4,false),(5,false)] zk zk rfl zk zc ⟨x0,x1,x2,y0,y1,y2⟩ ?_;iterate 2 (refine pT rfl rfl ?_ (by intro w' ⟨q0,q1,q2,q3,q4,q5⟩;go_simp;try with_reducible rfl))
   refine aR rfl rfl (λK hK=>?_);go_simp;with_reducible refine(fO.out _).mono ?_
   rintro e w1 ⟨rfl,hq⟩;have ag:Bw W w1:=by first|exact hq|exact bo hq
   obtain⟨Hx,x0,cM,x1,cN,x2,dh⟩:=bg Hx ag;obtain⟨Hy,y0,cG,y1,cH,y2,cO⟩:=bg Hy ag;obtain⟨Hr,r0,aH,r1,aI,r2,aX⟩:=bg Hr ag;replace Hb:=az Hb ag;refine hK _ _ (λ_=>⟨x0,x1,x2,y0,y1,y2⟩) ?_
   refine aR rfl rfl (λK hK=>?_);go_simp;with_reducible refine(mN.out _).mono ?_
   rintro e w2 ⟨rfl,hq⟩;have ag:Bw w1 w2:=by first|exact hq|exact bo hq
   obtain⟨Hx,x0,cM,x1,cN,x2,dh⟩:=bg Hx ag;obtain⟨Hy,y0,cG,y1,cH,y2,cO⟩:=bg Hy ag;obtain⟨Hr,r0,aH,r1,aI,r2,aX⟩:=bg Hr ag;replace Hb:=az Hb ag;refine hK _ _ (λ_=>⟨x0,x1,x2,y0,y1,y2⟩) ?_
   refine aR rfl rfl (λK hK=>?_);go_simp;refine hK _ _ (λh=>absurd h zd) ?_
   refine bZ (bY w2 (w.heap.size) 0 [aj (aC (dN A)),ai (nt (dN A).natAbs),ah (dE A)]) cC ?_;intro w3 hs;replace Hx:=dt Hx hs;replace Hy:=kS Hy hs zo;replace Hr:=kS Hr hs zo;obtain⟨x0,cM,x1,cN,x2,dh⟩:=Hx.out.g3;obtain⟨y0,cG,y1,cH,y2,cO⟩:=Hy.out.g3;obtain⟨r0,aH,r1,aI,r2,aX⟩:=Hr.out.g3;replace Hb:=bS Hb hs ZS;clear hs;refine aR rfl rfl (λK hK=>?_);go_simp;refine hK _ _ (λh=>absurd h zd) ?_
   refine bZ (bY w3 (w.heap.size+1) 0 [aj (aC (dN C)),ai (nt (dN C).natAbs),ah (dE C)]) cC ?_;intro w4 hs;replace Hx:=kS Hx hs zo;replace Hy:=dt Hy hs;replace Hr:=kS Hr hs zo;obtain⟨x0,cM,x1,cN,x2,dh⟩:=Hx.out.g3;obtain⟨y0,cG,y1,cH,y2,cO⟩:=Hy.out.g3;obtain⟨r0,aH,r1,aI,r2,aX⟩:=Hr.out.g3;replace Hb:=bS Hb hs ZS;clear hs;simp only[bu];go_wp2_with fail;refine(Bb.out _).mono ?_;rintro e w5 ⟨rfl,ag⟩;obtain⟨Hx,x0,cM,x1,cN,x2,dh⟩:=bg Hx ag;obtain⟨Hy,y0,cG,y1,cH,y2,cO⟩:=bg Hy ag;obtain⟨Hr,r0,aH,r1,aI,r2,aX⟩:=bg Hr ag;replace Hb:=az Hb ag;go_wp2_with fail;refine(Gx.out _).mono ?_;rintro e w6 ⟨rfl,ag⟩;obtain⟨Hx,x0,cM,x1,cN,x2,dh⟩:=bg Hx ag;obtain⟨Hy,y0,cG,y1,cH,y2,cO⟩:=bg Hy ag;obtain⟨Hr,r0,aH,r1,aI,r2,aX⟩:=bg Hr ag;replace Hb:=az Hb ag;go_wp2_with fail;refine bV (λw'=>aF w' (w.heap.size) 0 (aj (aC (dN A)))/\aF w' (w.heap.size) 1 (ai (nt (dN A).natAbs))/\aF w' (w.heap.size) 2 (ah (dE A))/\aF w' (w.heap.size+1) 0 (aj (aC (dN C)))/\aF w' (w.heap.size+1) 1 (ai (nt (dN C).natAbs))/\aF w' (w.heap.size+1) 2 (ah (dE C))) (λi=>Nat.blt i 14) [(0,true),(1,true),(2,true),(3,true),(4,true),(5,true),(6,true),(8,true),(9,true),(11,true),(12,true),(7,false),(10,false),(13,false),(14,false)] zk zk rfl zk zc ⟨x0,x1,x2,y0,y1,y2⟩ ?_;iterate 11 (refine pT rfl rfl ?_ (by intro w' ⟨q0,q1,q2,q3,q4,q5⟩;go_simp;try with_reducible rfl))
   refine aR rfl rfl (λK hK=>?_);go_simp;with_reducible refine(G1.out _).mono ?_
   rintro e jF ⟨rfl,hq⟩;have ag:Bw w6 jF:=by first|exact hq|exact bo hq
   obtain⟨Hx,x0,cM,x1,cN,x2,dh⟩:=bg Hx ag;obtain⟨Hy,y0,cG,y1,cH,y2,cO⟩:=bg Hy ag;obtain⟨Hr,r0,aH,r1,aI,r2,aX⟩:=bg Hr ag;replace Hb:=az Hb ag;refine hK _ _ (λ_=>⟨x0,x1,x2,y0,y1,y2⟩) ?_
   refine aR rfl rfl (λK hK=>?_);go_simp;with_reducible refine(G2.out _).mono ?_
   rintro e jG ⟨rfl,hq⟩;have ag:Bw jF jG:=by first|exact hq|exact bo hq
   obtain⟨Hx,x0,cM,x1,cN,x2,dh⟩:=bg Hx ag;obtain⟨Hy,y0,cG,y1,cH,y2,cO⟩:=bg Hy ag;obtain⟨Hr,r0,aH,r1,aI,r2,aX⟩:=bg Hr ag;replace Hb:=az Hb ag;refine hK _ _ (λ_=>⟨x0,x1,x2,y0,y1,y2⟩) ?_
   refine aR rfl rfl (λK hK=>?_);go_simp;with_reducible refine(G3.out _).mono ?_
   rintro e qu ⟨rfl,hq⟩;have ag:Bw jG qu:=by first|exact hq|exact bo hq
   obtain⟨Hx,x0,cM,x1,cN,x2,dh⟩:=bg Hx ag;obtain⟨Hy,y0,cG,y1,cH,y2,cO⟩:=bg Hy ag;obtain⟨Hr,r0,aH,r1,aI,r2,aX⟩:=bg Hr ag;replace Hb:=az Hb ag;refine hK _ _ (λ_=>⟨x0,x1,x2,y0,y1,y2⟩) ?_
   refine aR rfl rfl (λK hK=>?_);go_simp;refine hK _ _ (λh=>absurd h zd) ?_
   refine bZ (bY qu (w.heap.size+1+1) 0 [aj (aC (dN S)),ai (nt (dN S).natAbs),ah (dE S)]) cC ?_;intro FC hs;replace Hx:=kS Hx hs zo;replace Hy:=kS Hy hs zo;replace Hr:=dt Hr hs;obtain⟨x0,cM,x1,cN,x2,dh⟩:=Hx.out.g3;obtain⟨y0,cG,y1,cH,y2,cO⟩:=Hy.out.g3;obtain⟨r0,aH,r1,aI,r2,aX⟩:=Hr.out.g3;replace Hb:=bS Hb hs ZS;clear hs;simp only[bu];go_wp2;exact bodyPost_ret (v:=cK S) (by simp[results,Tryz.results94,go_sem,r0,r1,r2]) rfl ⟨rfl,dH⟩
abbrev tL (B:Nat)(x:Raw):Prop:=ie x/\Sm B (aJ x)
def tL.mono {B B':Nat}{x:Raw}(h:tL B x)(hb:B<=B'):tL B' x:=⟨h.1,h.2.mono hb⟩
def tL.canon {B:Nat}{d:Dyadic}(h:Sm B d)(hB:B<=16384):tL B (canon d):=⟨h.aFO hB,by rw[cp];exact h⟩
def tL.form {B:Nat}{r:List Raw}(h:∀x∈r,tL B x)(hB:B<=16384):∀x∈Iy r,tL B x:=λy hy=>by obtain⟨x,hx,rfl⟩:=List.mem_map.1 hy;exact tL.canon (h x hx).2 hB
end Go.Proofs.YtnjfebkelecgaaaGreatDoor
