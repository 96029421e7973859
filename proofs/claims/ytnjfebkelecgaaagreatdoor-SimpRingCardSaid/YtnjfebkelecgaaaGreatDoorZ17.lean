/- Package ogeeref04: Make. -/
import Derived.Test.YtnjfebkelecgaaaGreatDoorZ14
import Derived.Deep.RegionWith
import Derived.Test.YtnjfebkelecgaaaGreatDoorZ16
import Derived.Test.YtnjfebkelecgaaaGreatDoorZ11
import Derived.Test.YtnjfebkelecgaaaGreatDoorZ12
import Derived.Test.YtnjfebkelecgaaaGreatDoorZ9
set_option linter.unusedVariables false
set_option linter.unusedSimpArgs false
set_option maxRecDepth 100000
set_option maxHeartbeats 16000000
namespace Go.Proofs.YtnjfebkelecgaaaGreatDoor
open Go.RowKit
attribute [local go_sem ↓] Go.wp_at_zero Go.wp_at_succ
theorem al9 (M:List UInt8)(c:UInt8):(bs (M++[c])).extract 0 M.length=bs M:=by apply ByteArray.ext;unfold bs;rw[ByteArray.data_extract];simp
theorem avb (M:List UInt8)(c:UInt8)(i:Int)(hi:i=M.length)(W:World):
 (Instr.sliceAt 9 (ai (M++[c])) none (some (ah i)) none).run Tryz.prog W=.ok (ai M) W:=by
 subst hi;have h:=run_slice_string_h (P:=Tryz.prog) W 9 (bs (M++[c])) Tryz.underlying9 .i64 M.length zo (by rw[jd];simp<;>omega);simp only[Int.toNat_natCast,al9 M c]at h;simpa[Instr.sliceAt,run_underlying Tryz.underlying9]using h
theorem amk (s:Bool)(n:Nat)(e:Int)(h:n%2=1):canon (aM (s,nt n,e))=(s,nt n,e):=by
 have h0:iv s (nt n)≠0:=by rw[oY];split<;>omega
 obtain⟨h1,h2⟩:=Rt s (nt n) e h0;have ht:tz n=0:=by have:=agd 0 (n/2);rw[show 2^0* (2* (n/2)+1)=n by omega]at this;exact this
 rw[jz,ht]at h1 h2;unfold canon;rw[h1,h2];have e1:iv s (nt n)/2^0=iv s (nt n):=by simp
 rw[e1,Uo,oX,jz];have e3:(nt n).isEmpty=false:=by
  have:=Nz (n:=n) zo;cases h:nt n with
  |nil=>exact absurd h this
  |cons a b=>rfl
 rw[e3];simp
theorem anI (s:Bool)(l:List UInt8)(n k:Nat)(e:Int)(h:n*2^k=nv l):aM (s,nt n,e+k)=aM (s,l,e):=by
 unfold aM;have e1:iv s l=iv s (nt n) *2^k:=by
  rw[oY];unfold iv;rw[<-h];split
  . rw[Int.neg_mul];simp
  . simp
 simp only[e1];rw[<-xy (iv s (nt n)) k (-(e+k))];congr 1;omega
theorem atl {n k v b:Nat}(h:n*2^k=v)(h0:0<v)(hv:v<2^b):k<b/\0<n:=by
 have hn:0<n:=by
  rcases Nat.eq_zero_or_pos n with h1|h1
  . subst h1;simp at h;omega
  . exact h1
 refine⟨?_,hn⟩;rcases Nat.lt_or_ge k b with h1|h1
 . exact h1
 . have h2:=Nat.pow_le_pow_right (show 0<2 by decide) h1;have h3:2^k<=n*2^k:=Nat.le_mul_of_pos_left _ hn;omega
theorem auj (w:World):Calls Tryz.prog 83 #[ah 2] w λe w'=>e=.returned (.agg #[ar false,ai (nt 2)])/\Bw w w':=Vv 2 w zd
theorem aeS {n:Nat}(h:0<n):∃M c,nt n=M++[c]/\M=nt (n/256)/\c.toNat=n%256:=⟨_,_,Jc h,rfl,Le n⟩
theorem auh (s:Bool)(l:List UInt8)(e:Int)(w:World)(hl:l.length<=1048576)(h0:nv l=0):
 Calls Tryz.prog 82 #[.agg #[ar s,ai l],ah e] w λr w'=>r=.returned (cP 0)/\Bw w w':=by
 have hf:=λW=>Jw s l W zo;simp only[h0,BC,List.isEmpty_nil,Bool.not_true,Bool.and_false]at hf;have Hf:=aj hf;have hem:(bs []).toList.isEmpty=true:=by rw[wI];rfl
 clear hf h0;obtain⟨W,dw,Hb,Hm,Hr⟩:=mK w 46 [ar s,ai l] 48 [ar false,.string ⟨#[]⟩,ah 0];obtain⟨m0,jI,m1,je⟩:=Hm.out.g2;obtain⟨r0,au,r1,az,r2,aJ⟩:=Hr.out.g3;go_enter Tryz.func82,Tryz.ntmps82;go_wp2_with fail;refine(Hf.out _).mono ?_;rintro e w1 ⟨rfl,ag⟩;clear m0 jI m1 je r0 au r1 az r2 aJ;obtain⟨Hm,m0,jI,m1,je⟩:=bE Hm ag;obtain⟨Hr,r0,au,r1,az,r2,aJ⟩:=bg Hr ag;replace Hb:=aF Hb ag;clear ag;go_wp2;refine bodyPost_ret (v:=.agg #[ar false,.string ⟨#[]⟩,ah 0]) (by simp[results,Tryz.results82,go_sem,r0,r1,r2]) rfl ⟨rfl,?_⟩;(repeat first|exact Hb.out| (refine Below.setCell ?_ (by have:=Hb.out.size;first| (dsimp only;omega) | (show _<=_;omega) | (simp<;>omega)) _) |refine Below.drew ?_)
theorem aug (s:Bool)(l:List UInt8)(e:Int)(D:Dyadic)(hD:aM (s,l,e)=D)(w:World)(hl:l.length<=1048576)(he: -1099511627776<=e/\e<=1099511627776)(h0:0<nv l):
 Calls Tryz.prog 82 #[.agg #[ar s,ai l],ah e] w λr w'=>r=.returned (cP D)/\Bw w w':=by
 have hf:=λW=>Jw s l W zo;have e3:(nt (nv l)).isEmpty=false:=by
  have:=Nz h0;cases h:nt (nv l)with
  |nil=>exact absurd h this
  |cons a b=>rfl
 rw[e3]at hf;simp only[Bool.not_false,Bool.and_true]at hf;have hvb:=qA l;obtain⟨v,hv⟩:=aK (nv l);rw[hv]at h0 hvb;simp only[hv]at hf;have hup:∀n k:Nat,n*2^k=v->aM (s,nt n,e+k)=D:=λn k h=>by rw[<-hD];exact anI s l n k e (by rw[hv];exact h)
 obtain⟨Bn,hBn⟩:=aK (8*l.length);have hpb:∀n k:Nat,n*2^k=v->k<Bn/\0<n:=λn k h=>by rw[<-hBn];exact atl h h0 hvb
 have hBl:Bn<=8388608:=by omega
 obtain⟨Hf,Qq,bj⟩:=dc hf hup hpb;have ayk:(bs (nt v)).toList.isEmpty=false:=by rw[wI,<-hv];exact e3
 have ac5:∀n k:Nat,n*2^k=v->(nt n).length<=1048576:=λn k h=>by refine Nat.le_trans (jR (Nat.lt_of_le_of_lt (Nat.le_mul_of_pos_right n (Nat.pow_pos (n:=k) (show 0<2 by decide))) ?_)) hl;rw[h,<-hv];exact gz l
 have Yk:=aj ac5;clear hf e3 hvb hup hpb hBn hD hv h0 ac5;obtain⟨W,dw,Hb,Hm,Hr⟩:=mK w 46 [ar s,ai l] 48 [ar false,.string ⟨#[]⟩,ah 0];obtain⟨m0,jI,m1,je⟩:=Hm.out.g2;obtain⟨r0,au,r1,az,r2,aJ⟩:=Hr.out.g3;go_enter Tryz.func82,Tryz.ntmps82;go_wp2_with fail;refine(Hf.out _).mono ?_;rintro e w1 ⟨rfl,ag⟩;clear m0 jI m1 je r0 au r1 az r2 aJ;obtain⟨Hm,m0,jI,m1,je⟩:=bE Hm ag;obtain⟨Hr,r0,au,r1,az,r2,aJ⟩:=bg Hr ag;replace Hb:=aF Hb ag;clear ag;go_wp2_with fail;clear m0 jI m1 je r0 au r1 az r2 aJ;first|refine cj (cm w1 (w.heap.size) 0 [ar s,ai (nt v)]) cC ?_|refine cu (cm w1 (w.heap.size) 0 [ar s,ai (nt v)]) cC ?_
 intro w2 hs;replace Hm:=cX Hm hs;replace Hr:=kS Hr hs zo;obtain⟨m0,jI,m1,je⟩:=Hm.out.g2;obtain⟨r0,au,r1,az,r2,aJ⟩:=Hr.out.g3;replace Hb:=bS Hb hs ZS;clear hs m0 m1 jI je r0 r1 r2 au az aJ;have lm:=Hm.out.lt;have lr:=Hr.out.lt;go_loopw[1] (λx wr=>∃n k:Nat,n*2^k=v/\x=ah (e+k)/\aC wr w.heap.size 46 [ar s,ai (nt n)]/\aC wr (w.heap.size+1) 48 [ar false,.string ⟨#[]⟩,ah 0]/\Bw w wr) (λx _=>(e+Bn+100-intOf x).toNat);case atStart=>exact⟨v,0,by simp,by simp,Hm.out,Hr.out,Hb.out⟩
 case round=>
  clear Hm Hr Hb;obtain⟨n,k,xf,rfl,hm,hr,hb⟩:=hrel;obtain⟨hk,hn⟩:=bj.out n k xf;obtain⟨M,c,hM,Me,hc⟩:=aeS hn;obtain⟨Hm,Hr,Hb,Cv,HM,WR⟩:=gP hm hr hb xf hM Me;have hnl:=Yk.out n k xf;have Dj:M.length+1<=1048576:=by rw[hM]at hnl;simpa using hnl
  have m1:wr.cell? ⟨w.heap.size,1,none⟩=some (ai (M++[c])):=by rw[<-hM];exact hm.cell 1
  have je:wr.frozen? ⟨w.heap.size,1,none⟩=false:=hm.free 1;have hsz:(bs (M++[c])).size=M.length+1:=by rw[jd];simp
  have iJ:=vD (M++[c]) (M.length:Int) M.length zm rfl;have rA:(M++[c])[M.length]'zm=c:=by simp
  rw[rA]at iJ;obtain⟨C,hC⟩:=aK c.toNat;rw[hC]at iJ hc;have hsl:=avb M c (M.length:Int) rfl;have Hc:=aj hc;clear hm hr hb xf hM Me rA hc hnl;by_cases rf:C=0
  . subst rf;go_wp2;go_roundw;case rel=>
     refine⟨n/256,k+8,?_,by go_num,?_,?_,?_⟩
     . have h1:=Hc.out;have h2:=Cv.out;rw[<-h2,Nat.pow_add,show(2:Nat)^8=256 by rfl,Nat.mul_comm (2^k),<-Nat.mul_assoc];congr 1;omega
     . rw[<-WR.out];exact Hm.out.set 1 _
     . exact Hr.out.aBg ⟨w.heap.size,1,none⟩ zp _
     . exact Hb.out.setCell zp _
    case measure=>simp[intOf];omega
  . have hC1:((C:Int)==0)=false:=by simp;omega
    go_wp2_with fail;clear m1 je hsz iJ hsl Dj hC1 hC rf;go_loopw[1] (λx wr=>∃n k:Nat,n*2^k=v/\x=ah (e+k)/\aC wr w.heap.size 46 [ar s,ai (nt n)]/\aC wr (w.heap.size+1) 48 [ar false,.string ⟨#[]⟩,ah 0]/\Bw w wr) (λx _=>(e+Bn+100-intOf x).toNat);case atStart=>exact⟨n,k,Cv.out,rfl,Hm.out,Hr.out,Hb.out⟩
    case round=>
     clear Hm Hr Hb Cv HM WR Hc hk hn;obtain⟨n,k,xf,rfl,hm,hr,hb⟩:=hrel;obtain⟨hk,hn⟩:=bj.out n k xf;obtain⟨M,c,hM,Me,hc⟩:=aeS hn;obtain⟨Hr,Cv,HM⟩:=dc hr xf hM;have hnl:=Yk.out n k xf;have Dj:M.length+1<=1048576:=by rw[hM]at hnl;simpa using hnl
     have Hm:Hid (aC wr w.heap.size 46 [ar s,ai (M++[c])]):=by rw[hM]at hm;exact hm
     have m0:wr.cell? ⟨w.heap.size,0,none⟩=some (ar s):=Hm.out.cell 0;have m1:wr.cell? ⟨w.heap.size,1,none⟩=some (ai (M++[c])):=Hm.out.cell 1;have hsz:(bs (M++[c])).size=M.length+1:=by rw[jd];simp
     have iJ:=vD (M++[c]) (M.length:Int) M.length zm rfl;have rA:(M++[c])[M.length]'zm=c:=by simp
     rw[rA]at iJ;obtain⟨C,hC⟩:=aK c.toNat;rw[hC]at iJ hc;have ax7:=hb.size;have vS:=aj hb;clear hm hr hb xf Me rA hC;by_cases hev:n%2=0
     . obtain⟨n',rfl⟩:∃n',n=2*n':=⟨n/2,by omega⟩;have adr:(C:Int)%2=0:=by omega
       have hh:=λW=>auc s n' W zo (Nat.le_trans hnl zd);rw[hM]at hh;have Hh:=aj hh;have Hb:Hid (Bw wr wr):=Below.refl _ _;clear hh hM hnl hc;go_wp2_with fail;have lmm:=Hm.out.lt;have lrr:=Hr.out.lt;go_region_with (first| (go_at_call 83;refine(auj _).mono ?_;rintro e3 w3 ⟨rfl,hb3⟩;replace hb3:=bo hb3;have Kp:=aj (Hm.out.below hb3);have m03:w3.cell? ⟨w.heap.size,0,none⟩=some (ar s):=Kp.out.cell 0;have Ns:w3.cell? ⟨w.heap.size,1,none⟩=some (ai (M++[c])):=Kp.out.cell 1) | (go_at_call 124;refine(Hh.out _).mono ?_;rintro e4 w4 ⟨rfl,hb4⟩;have Cr:=aj (Kp.out.below hb4);have m04:w4.cell? ⟨w.heap.size,0,none⟩=some (ar s):=Cr.out.cell 0;have Nt:w4.cell? ⟨w.heap.size,1,none⟩=some (ai (M++[c])):=Cr.out.cell 1;have an4:=Cr.out.free 0;have an5:=Cr.out.free 1))
       all_goals
        have HBm:=aj (aV (aV vS.out hb3) hb4)
        have Hm4:=aj ((Cr.out.set 0 (ar s)).set 1 (ai (nt n')))
        have Fi:=aj ((((Hr.out.below hb3).below hb4).aBg ⟨w.heap.size,0,none⟩ zp (ar s)).aBg ⟨w.heap.size,1,none⟩ zp (ai (nt n')))
        clear m0 m1 m03 Ns m04 Nt an4 an5 adr iJ hb3 hb4 Kp Cr
        go_wp2
        go_roundw
        case rel=>
         refine⟨n',k+1,?_,by go_num,Hm4.out,Fi.out,?_⟩
         . rw[<-Cv.out,Nat.pow_succ,Nat.mul_comm (2^k) 2,<-Nat.mul_assoc,Nat.mul_comm n' 2]
         . exact(HBm.out.setCell zp _).setCell zp _
        case measure=>simp[intOf];omega
     . have adr:((C:Int)%2==0)=false:=by simp;omega
       have hod:n%2=1:=by omega
       have hfin:=amk s n (e+k) hod;rw[Qq.out n k Cv.out,HM.out]at hfin;have vZ:=aj hfin;have r0:wr.cell? ⟨w.heap.size+1,0,none⟩=some (ar false):=Hr.out.cell 0;have r1:wr.cell? ⟨w.heap.size+1,1,none⟩=some (.string ⟨#[]⟩):=Hr.out.cell 1;have r2:wr.cell? ⟨w.heap.size+1,2,none⟩=some (ah 0):=Hr.out.cell 2;have au:=Hr.out.free 0;have az:=Hr.out.free 1;have aJ:=Hr.out.free 2;clear hM hnl hc hod hfin hev;go_wp2;refine bodyPost_ret (v:=.agg #[ar s,ai (M++[c]),ah (e+k)]) (by simp[results,Tryz.results82,go_sem,r0,r1,r2]) rfl ⟨?_,?_⟩
       . have h1:=vZ.out;unfold canon at h1;simp only[Prod.mk.injEq]at h1;rw[<-h1.1,<-h1.2.1,<-h1.2.2]
       . exact(((vS.out.setCell zp _).setCell zp _).setCell zp _)
theorem Jy (s:Bool)(l:List UInt8)(e:Int)(D:Dyadic)(hD:aM (s,l,e)=D)(w:World)(hl:l.length<=1048576)(he: -1099511627776<=e/\e<=1099511627776):
 Calls Tryz.prog 82 #[.agg #[ar s,ai l],ah e] w λr w'=>r=.returned (cP D)/\Bw w w':=by
 rcases Nat.eq_zero_or_pos (nv l)with h0|h0
 . have:D=0:=by rw[<-hD];exact Ru s l e (by unfold iv;rw[h0];split<;>rfl)
   rw[this];exact auh s l e w hl h0
 . exact aug s l e D hD w hl he h0
def dI (n:Nat):Dyadic:=Dyadic.ofIntWithPrec (n:Int) 0
end Go.Proofs.YtnjfebkelecgaaaGreatDoor
namespace Go.Proofs.YtnjfebkelecgaaaGreatDoor
theorem CQ (n:Nat)(h:n<4096):Sm 12 (dI n):=by
 refine⟨(n:Int) *2^12,?_,?_⟩
 . unfold dI;rw[<-xy (n:Int) 12 0];rfl
 . have:((n:Int) *2^12).natAbs=n*4096:=by rw[Int.natAbs_mul];rfl
   rw[this];have:(2:Nat)^(2*12)=16777216:=by rfl
   omega
end Go.Proofs.YtnjfebkelecgaaaGreatDoor
namespace Go.Proofs.YtnjfebkelecgaaaGreatDoor
open Go.RowKit
theorem anh {B:Nat}{c:Dyadic}(h:Sm B c)(r x:List Nat):Sm B (c*delta r x):=by
 unfold delta;split
 . rw[Dyadic.mul_one];exact h
 . rw[Dyadic.mul_zero];exact Sm.zero B
theorem amO {B:Nat}(r:List Nat)(ps:jh)(h:∀p∈ps,Sm B p.2):Sm (B+ps.length) (pK ps r):=by
 unfold pK;induction ps with
 |nil=>exact Sm.zero _
 |cons p ps ih=>have h1:=ih (λq hq=>h q (by simp[hq]));have h2:=anh (h p zm) r p.1;have h3:=Sm.add (h2.mono (show B<=B+ps.length by omega)) h1;rw[List.length_cons,<-Nat.add_assoc];exact h3
theorem amQ {B C:Nat}(R:List (List Nat))(ps:jh)(h:∀p∈ps,Sm B p.2)(hC:B+ps.length<=C):∀d∈oH R ps,Sm C d:=by intro d hd;unfold oH at hd;rw[List.mem_map]at hd;obtain⟨r,_,rfl⟩:=hd;exact(amO r ps h).mono hC
theorem agP {B:Nat}{cs ds:List Dyadic}(h:∀c∈cs,Sm B c)(h':∀c∈ds,Sm B c):∀c∈List.zipWith (·+·) cs ds,Sm (B+1) c:=by intro c hc;rw[List.mem_iff_getElem]at hc;obtain⟨k,hk,rfl⟩:=hc;rw[List.length_zipWith]at hk;rw[List.getElem_zipWith];exact Sm.add (h _ (List.getElem_mem zo)) (h' _ (List.getElem_mem zo))
end Go.Proofs.YtnjfebkelecgaaaGreatDoor
namespace Go.Proofs.YtnjfebkelecgaaaGreatDoor
def mP (V D:Nat)(cs l:List Dyadic):List Dyadic:=oH (cQ (V+1) (D+1)) (BN (cQ (V+1) D) cs λk=>l.getD k 0)
theorem avH (V D:Nat)(cs l:List Dyadic):(mP V D cs l).length=cnt V (D+1):=by unfold mP;rw[amP,sK]
theorem avK (x:List Nat)(c:Dyadic)(l:Nat->Dyadic):(uB x c l).length=x.length:=by simp[uB]
theorem avJ {A B V D:Nat}{cs l:List Dyadic}(h:∀c∈cs,Sm A c)(h':∀c∈l,Sm B c)(hV:V<=8)(hc:cnt V D<=512):∀d∈mP V D cs l,Sm (A+B+4608) d:=by
 have jm:(cQ (V+1) D).length=cnt V D:=sK V D;have hm:∀x∈cQ (V+1) D,x.length=V+1:=λx hx=>((rH V D x).1 hx).1;unfold mP;generalize cQ (V+1) D=R at*;have e:BN R cs (λk=>l.getD k 0)=uz (λk=>uB (R.getD k []) (cs.getD k 0) λk=>l.getD k 0) R.length:=rfl;have hs:∀k,k<R.length->(R.getD k []).length=V+1:=λk hk=>by
  have:R.getD k []=R[k]:=by simp[hk]
  rw[this];exact hm _ (List.getElem_mem hk)
 have hl:=afc (λk=>uB (R.getD k []) (cs.getD k 0) λk=>l.getD k 0) 9 R.length R.length (Nat.le_refl _) (λk hk=>by rw[avK,hs k hk];omega)
 refine amQ (B:=A+B) _ _ ?_ ?_
 . rw[e];refine afb _ R.length R.length (Nat.le_refl _) (λk hk p hp=>?_);unfold uB at hp;rw[List.mem_map]at hp;obtain⟨t,_,rfl⟩:=hp;exact Sm.mul (pU h k) (pU h' t)
 . rw[e];omega
def gw (V:Nat):Nat->List Dyadic->List (List Dyadic)->List Dyadic
 |_,cs,[]=>cs
 |D,cs,l::ls=>gw V (D+1) (mP V D cs l) ls
theorem aou (V D:Nat)(cs:List Dyadic)(ls ms:List (List Dyadic)):gw V D cs (ls++ms)=gw V (D+ls.length) (gw V D cs ls) ms:=by
 induction ls generalizing D cs with
 |nil=>rfl
 |cons l ls ih=>rw[List.cons_append,gw,gw,ih,List.length_cons];rw[show D+1+ls.length=D+(ls.length+1)by omega]
theorem RN (V D:Nat)(cs:List Dyadic)(ls:List (List Dyadic))(l:List Dyadic):gw V D cs (ls++[l])=mP V (D+ls.length) (gw V D cs ls) l:=by rw[aou];rfl
theorem aaE (V D:Nat)(cs:List Dyadic)(ls:List (List Dyadic))(h:cs.length=cnt V D):(gw V D cs ls).length=cnt V (D+ls.length):=by
 induction ls generalizing D cs with
 |nil=>exact h
 |cons l ls ih=>rw[gw,ih _ _ (avH V D cs l),List.length_cons];rw[show D+1+ls.length=D+(ls.length+1)by omega]
theorem aaF {A B V D:Nat}{cs:List Dyadic}(ls:List (List Dyadic))(h:∀c∈cs,Sm A c)(h':∀l∈ls,∀c∈l,Sm B c)(hV:V<=8)(hc:∀d,d<D+ls.length->cnt V d<=512):∀d∈gw V D cs ls,Sm (A+ls.length* (B+4608)) d:=by
 induction ls generalizing D cs A with
 |nil=>simpa[gw]using h
 |cons l ls ih=>have h1:=avJ (V:=V) (D:=D) h (h' l zm) hV (hc D zm);have h2:=ih (D:=D+1) h1 (λm hm=>h' m (by simp[hm])) (λd hd=>hc d (by rw[List.length_cons];omega));intro d hd;refine(h2 d hd).mono ?_;rw[List.length_cons,Nat.succ_mul];omega
def oI (S:List (List Dyadic))(k:Nat):List Dyadic:=S.map λr=>r.getD k 0
def mO (S:List (List Dyadic))(es:List Nat)(n:Nat):List (List Dyadic):=(List.range n).flatMap λk=>List.replicate (es.getD k 0) (oI S k)
def pj (V:Nat):List Dyadic:=List.replicate (V+1) 1
def gH (V D:Nat)(S:List (List Dyadic))(c:Dyadic)(es:List Nat):List Dyadic:=gw V 0 [c] (mO S es es.length++List.replicate (D-es.sum) (pj V))
def eY (V D:Nat)(S:List (List Dyadic))(ts:List (Dyadic×List Nat)):List Dyadic:=ts.foldl (λs t=>List.zipWith (·+·) s (gH V D S t.1 t.2)) (List.replicate (cnt V D) 0)
theorem VH (S:List (List Dyadic))(es:List Nat)(n:Nat):mO S es (n+1)=mO S es n++List.replicate (es.getD n 0) (oI S n):=by unfold mO;rw[List.range_succ,List.flatMap_append];simp
theorem VG (S:List (List Dyadic))(es:List Nat)(n:Nat)(h:n<=es.length):(mO S es n).length=(es.take n).sum:=by
 induction n with
 |zero=>rfl
 | succ n ih=>
   rw[VH,List.length_append,ih zo,List.take_succ_eq_append_getElem zo,List.sum_append,List.length_replicate];have:es.getD n 0=es[n]:=by simp[show n<es.length by omega]
   rw[this];simp
theorem NP (V D:Nat)(S:List (List Dyadic))(es:List Nat)(h:es.sum<=D):(mO S es es.length++List.replicate (D-es.sum) (pj V)).length=D:=by rw[List.length_append,VG _ _ _ (Nat.le_refl _),List.take_length,List.length_replicate];omega
theorem au2 {P:List Dyadic->Prop}(V D:Nat)(S:List (List Dyadic))(es:List Nat)(h1:∀k,k<es.length->P (oI S k))(h2:P (pj V)):∀l∈mO S es es.length++List.replicate (D-es.sum) (pj V),P l:=by
 intro l hl;rw[List.mem_append]at hl;rcases hl with hl|hl
 . unfold mO at hl;rw[List.mem_flatMap]at hl;obtain⟨k,hk,hl⟩:=hl;rw[List.mem_range]at hk;rw[(List.mem_replicate.1 hl).2];exact h1 k hk
 . rw[(List.mem_replicate.1 hl).2];exact h2
theorem RB (V D:Nat)(S:List (List Dyadic))(c:Dyadic)(es:List Nat)(h:es.sum<=D):(gH V D S c es).length=cnt V D:=by unfold gH;rw[aaE _ _ _ _ (by rw[Al];rfl),NP _ _ _ _ h,Nat.zero_add]
theorem aaB {A B V D:Nat}{S:List (List Dyadic)}{c:Dyadic}{es:List Nat}(hc:Sm A c)(hS:∀r∈S,∀d∈r,Sm B d)(hB:1<=B)(hV:V<=8)(h:es.sum<=D)(h5:∀d,d<D->cnt V d<=512):∀d∈gH V D S c es,Sm (A+D* (B+4608)) d:=by
 have hg:=aaF (A:=A) (B:=B) (V:=V) (D:=0) (cs:=[c]) (mO S es es.length++List.replicate (D-es.sum) (pj V)) (by simpa using hc) (au2 (P:=λl=>∀c∈l,Sm B c) V D S es (λk _=>by
  intro c hc;unfold oI at hc;obtain⟨r,hr,rfl⟩:=List.mem_map.1 hc
  exact pU (hS r hr) k) (by
  intro c hc;rw[(List.mem_replicate.1 hc).2]
  exact Sm.mono (A:=1) ⟨2,by decide,by decide⟩ hB)) hV (by rw[NP _ _ _ _ h,Nat.zero_add];exact h5)
 rw[NP _ _ _ _ h]at hg;exact hg
def nO (X:Nat->Dyadic)(x:List Nat):Nat->Dyadic
 |0=>1
 |k+1=>nO X x k*xD (X k) (x.getD k 0)
theorem arV (X:Nat->Dyadic)(x:List Nat)(k j:Nat)(hk:k<x.length):nO X (kx x k) j=if k<j then X k*nO X x j else nO X x j:=by
 induction j with
 |zero=>rfl
 | succ j ih=>
   have e:(kx x k).getD j 0=if j=k then x.getD k 0+1 else x.getD j 0:=by
    unfold kx;rw[List.getD_eq_getElem?_getD,List.getElem?_set];by_cases h:k=j
    . subst h;rw[if_pos rfl,if_pos hk,if_pos rfl];rfl
    . rw[if_neg h,if_neg (λh2=>h h2.symm),<-List.getD_eq_getElem?_getD]
   rw[nO,ih,e,nO];by_cases h:j=k
   . subst h;rw[if_neg zo,if_pos rfl,if_pos zo,xD];grind
   . rw[if_neg h];by_cases h2:k<j
     . rw[if_pos h2,if_pos zo];grind
     . rw[if_neg h2,if_neg zo]
def mn (X:Nat->Dyadic)(V D:Nat)(cs:List Dyadic):Dyadic:=mS (λx=>nO X x (V+1)) (cQ (V+1) D) cs
theorem NV (f:Nat->Dyadic)(c:Dyadic)(n:Nat):sumTo (λk=>f k*c) n=sumTo f n*c:=by
 induction n with
 |zero=>show(0:Dyadic)=0*c;grind
 |succ n ih=>rw[sumTo,sumTo,ih];grind
theorem aqk {V D:Nat}{x:List Nat}(h:x∈cQ (V+1) D)(k:Nat)(hk:k<V+1):kx x k∈cQ (V+1) (D+1):=by obtain⟨h1,h2⟩:=(rH V D x).1 h;exact(rH V (D+1) _).2 ⟨by unfold kx;rw[List.length_set,h1],by rw[ad2 x k zo,h2]⟩
theorem alu (X:Nat->Dyadic)(V D:Nat)(cs l:List Dyadic):mn X V (D+1) (mP V D cs l)=sumTo (λk=>l.getD k 0*X k) (V+1) *mn X V D cs:=by
 unfold mn mP oH;rw[awG _ _ (Vx V (D+1)) _ (af3 (n:=V+1) (λx hx=>((rH V D x).1 hx).1) (λx hx k hk=>aqk hx k hk)),Ve];rw[awH (h:=λx=>nO X x (V+1) *sumTo (λk=>l.getD k 0*X k) (V+1))]
 . unfold mS;rw[<-Dyadic.mul_comm,<-NV];congr 1;funext k;grind
 . intro x hx;obtain⟨h1,_⟩:=(rH V D x).1 hx;unfold VR;rw[h1,Dyadic.mul_comm,<-NV];refine sumTo_congr _ (λk hk=>?_);show l.getD k 0*nO X (kx x k) (V+1)=_
   rw[arV X x k _ zo,if_pos hk];grind
theorem Zq (X:Nat->Dyadic)(V D:Nat)(a b:List Dyadic)(h:a.length=b.length):mn X V D (List.zipWith (·+·) a b)=mn X V D a+mn X V D b:=awF _ _ a b h
def xH {α:Type}(f:α->Dyadic):List α->Dyadic
 |[]=>0
 |x::l=>f x+xH f l
theorem avj {α:Type}(f g:α->Dyadic)(c:Dyadic)(l:List α)(h:∀x∈l,f x=c*g x):xH f l=c*xH g l:=by
 induction l with
 |nil=>show(0:Dyadic)=c*0;grind
 |cons x l ih=>rw[xH,xH,ih (λy hy=>h y (by simp[hy])),h x zm];grind
theorem LL {h:List Dyadic->Dyadic}(V D N:Nat)(S:List (List Dyadic))(hN:cnt V D=N)(h0:h (List.replicate N 0)=0)(hadd:∀a b:List Dyadic,a.length=N->b.length=N->h (List.zipWith (·+·) a b)=h a+h b)(ts:List (Dyadic×List Nat))(ht:∀t∈ts,t.2.sum<=D):h (eY V D S ts)=xH (λt=>h (gH V D S t.1 t.2)) ts/\(eY V D S ts).length=N:=by
 have gen:∀(ts:List (Dyadic×List Nat)) (acc:List Dyadic),(∀t∈ts,t.2.sum<=D)->acc.length=N->h (ts.foldl (λs t=>List.zipWith (·+·) s (gH V D S t.1 t.2)) acc)=h acc+xH (λt=>h (gH V D S t.1 t.2)) ts/\(ts.foldl (λs t=>List.zipWith (·+·) s (gH V D S t.1 t.2)) acc).length=N:=by
  intro ts;induction ts with
  |nil=>intro acc _ ha;exact⟨by show h acc=h acc+0;grind,ha⟩
  | cons t ts ih=>
    intro acc ht ha;have hl:(gH V D S t.1 t.2).length=N:=by rw[RB V D S t.1 t.2 (ht t zm),hN]
    obtain⟨h1,h2⟩:=ih (List.zipWith (·+·) acc (gH V D S t.1 t.2)) (λu hu=>ht u (by simp[hu])) (by rw[List.length_zipWith,ha,hl,Nat.min_self]);refine⟨?_,h2⟩;rw[List.foldl_cons,h1,hadd _ _ ha hl,xH];grind
 unfold eY;rw[hN];obtain⟨h1,h2⟩:=gen ts (List.replicate N 0) ht zm;exact⟨by rw[h1,h0];grind,h2⟩
theorem agN (h:List Nat->Dyadic)(R:List (List Nat))(N:Nat):mS h R (List.replicate N 0)=0:=by
 unfold mS;have:∀k,(List.replicate N (0:Dyadic)).getD k 0=0:=λk=>by rw[List.getD_eq_getElem?_getD,List.getElem?_replicate];split<;>rfl
 rw[show(λk=>(List.replicate N (0:Dyadic)).getD k 0*h (R.getD k []))=λk=>(λ_=>0:Nat->Dyadic) k*0 by funext k;rw[this];grind];rw[NV];grind
theorem aue (X:Nat->Dyadic)(V D:Nat)(S:List (List Dyadic))(ts:List (Dyadic×List Nat))(ht:∀t∈ts,t.2.sum<=D):mn X V (D+1) (eY V (D+1) S ts)=sumTo X (V+1) *mn X V D (eY V D S ts):=by
 rw[(LL (h:=mn X V (D+1)) V (D+1) _ S rfl (agN _ _ _) (λa b ha hb=>Zq X V _ a b (by rw[ha,hb])) ts (λt h=>Nat.le_succ_of_le (ht t h))).1,
  (LL (h:=mn X V D) V D _ S rfl (agN _ _ _) (λa b ha hb=>Zq X V _ a b (by rw[ha,hb])) ts ht).1]
 refine avj _ _ _ _ (λt h=>?_);have h1:=ht t h;have e:gH V (D+1) S t.1 t.2=mP V D (gH V D S t.1 t.2) (pj V):=by unfold gH;rw[show D+1-t.2.sum=(D-t.2.sum)+1 by omega,List.replicate_succ',<-List.append_assoc,RN,NP V D S t.2 h1,Nat.zero_add]
 rw[e,alu];congr 1;refine sumTo_congr _ (λk hk=>?_);show(pj V).getD k 0*X k=X k
 unfold pj;rw[List.getD_eq_getElem?_getD,List.getElem?_replicate,if_pos hk];show 1*X k=X k;grind
theorem awI (h:List Nat->Dyadic)(R:List (List Nat))(c:Dyadic)(cs:List Dyadic):mS h R (cs.map (c*·))=c*mS h R cs:=by
 unfold mS;rw[Dyadic.mul_comm c,<-NV];congr 1;funext k
 have:(cs.map (c*·)).getD k 0=c*cs.getD k 0:=by
  rw[List.getD_eq_getElem?_getD,List.getD_eq_getElem?_getD,List.getElem?_map];cases cs[k]? with
  |none=>show(0:Dyadic)=c*0;grind
  |some x=>rfl
 rw[this];grind
theorem avI (V D:Nat)(c:Dyadic)(cs l:List Dyadic):mP V D (cs.map (c*·)) l=(mP V D cs l).map (c*·):=by
 unfold mP oH;rw[List.map_map];refine List.map_congr_left (λr _=>?_);show pK _ r=c*pK _ r
 unfold pK;rw[Ve,Ve,awI]
theorem aov (V:Nat)(c:Dyadic)(ls:List (List Dyadic)):∀(D:Nat) (cs:List Dyadic),gw V D (cs.map (c*·)) ls=(gw V D cs ls).map (c*·):=by
 induction ls with
 |nil=>intro D cs;rfl
 |cons l ls ih=>intro D cs;rw[gw,gw,avI,ih]
theorem aoc (V D:Nat)(S:List (List Dyadic))(c:Dyadic)(es:List Nat)(r:Nat):(gH V D S c es).getD r 0=c* (gH V D S 1 es).getD r 0:=by
 have e:gH V D S c es=(gH V D S 1 es).map (c*·):=by unfold gH;rw[<-aov,show [c]=[(1:Dyadic)].map (c*·)by show [c]=[c*1];congr 1;grind]
 rw[e,List.getD_eq_getElem?_getD,List.getD_eq_getElem?_getD,List.getElem?_map];cases (gH V D S 1 es)[r]? with
 |none=>show(0:Dyadic)=c*0;grind
 |some x=>rfl
theorem RA (V D N r:Nat)(S:List (List Dyadic))(hN:cnt V D=N)(hr:r<N)(ts:List aR)(ht:∀t∈ts,(t.1.map UInt8.toNat).sum<=D):(eY V D S (ts.map λt=>(aM t.2,t.1.map UInt8.toNat))).getD r 0=gu (λm=>(gH V D S 1 (m.map UInt8.toNat)).getD r 0) ts:=by
 have h0:(List.replicate N (0:Dyadic)).getD r 0=0:=by rw[List.getD_eq_getElem?_getD,List.getElem?_replicate];split<;>rfl
 have hadd:∀a b:List Dyadic,a.length=N->b.length=N->(List.zipWith (·+·) a b).getD r 0=a.getD r 0+b.getD r 0:=λa b ha hb=>by rw[List.getD_eq_getElem?_getD,List.getD_eq_getElem?_getD,List.getD_eq_getElem?_getD,List.getElem?_zipWith,List.getElem?_eq_getElem (by omega:r<a.length),List.getElem?_eq_getElem (by omega:r<b.length)];rfl
 rw[(LL (h:=λl=>l.getD r 0) V D N S hN h0 hadd (ts.map λt=>(aM t.2,t.1.map UInt8.toNat)) (λu hu=>by obtain⟨t,h,rfl⟩:=List.mem_map.1 hu;exact ht t h)).1]
 clear hadd h0;induction ts with
 |nil=>rfl
 |cons t ts ih=>rw[List.map_cons,xH,gu,ih (λu hu=>ht u (by simp[hu])),aoc]
theorem auf (V D:Nat)(S:List (List Dyadic))(tp tq:List aR)(hp:∀t∈tp,(t.1.map UInt8.toNat).sum<=D)(hq:∀t∈tq,(t.1.map UInt8.toNat).sum<=D):
 eY V D S ((bU (tp++tq)).map λt=>(aM t.2,t.1.map UInt8.toNat))=List.zipWith (·+·) (eY V D S (tp.map λt=>(aM t.2,t.1.map UInt8.toNat))) (eY V D S (tq.map λt=>(aM t.2,t.1.map UInt8.toNat))):=by
 have hc:∀t∈bU (tp++tq),(t.1.map UInt8.toNat).sum<=D:=λt ht=>by
  obtain⟨y,hy,e⟩:=Ra _ t ht;rw[<-e];rcases List.mem_append.1 hy with h|h
  . exact hp y h
  . exact hq y h
 have len:∀ts:List aR,(∀t∈ts,(t.1.map UInt8.toNat).sum<=D)->(eY V D S (ts.map λt=>(aM t.2,t.1.map UInt8.toNat))).length=cnt V D:=λts h=>
  (LL (h:=λ_=>0) V D _ S rfl rfl (λ_ _ _ _=>by show(0:Dyadic)=0+0;grind) _ (λu hu=>by obtain⟨t,ht,rfl⟩:=List.mem_map.1 hu;exact h t ht)).2
 refine List.ext_getElem (by rw[len _ hc,List.length_zipWith,len _ hp,len _ hq,Nat.min_self]) (λr h1 h2=>?_);have hr:r<cnt V D:=by rw[len _ hc]at h1;exact h1
 have gd:∀(l:List Dyadic) (h:r<l.length),l[r]=l.getD r 0:=λl h=>by simp[h]
 rw[gd _ h1,List.getElem_zipWith,gd _ (by rw[len _ hp];exact hr),gd _ (by rw[len _ hq];exact hr),RA V D _ r S rfl hr _ hc,RA V D _ r S rfl hr _ hp,RA V D _ r S rfl hr _ hq,anP,aap]
end Go.Proofs.YtnjfebkelecgaaaGreatDoor
namespace Go.Proofs.YtnjfebkelecgaaaGreatDoor
open Go.RowKit
attribute [local go_sem ↓] Go.wp_at_zero Go.wp_at_succ
def gB (x:Raw):Prop:=x.2.1.length<=16384/\ -16384<=x.2.2/\x.2.2<=16384
theorem gB.sm {x:Raw}(h:gB x):Sm 262144 (aM x):=Sm.raw (B:=131072) (by have:=h.1;omega) (by have:=h.2.1;omega) (by have:=h.2.2;omega)
theorem Sm.aBj {B:Nat}{d:Dyadic}(h:Sm B d)(hB:B<=16384):gB (canon d):=by obtain⟨h1,h2,h3⟩:=h.parts;exact⟨kR h1 zo,by show-16384<=dE d;omega,by show dE d<=16384;omega⟩
theorem gB.ok {x:Raw}(h:gB x):Ok x:=⟨by have:=h.1;omega,by have:=h.2.1;omega,by have:=h.2.2;omega⟩
theorem En (s:Bool)(l:List UInt8)(e:Int)(D:Dyadic)(hD:aM (s,l,e)=D)(w:World)(hx:gB (s,l,e)):
 Calls Tryz.prog 90 #[.agg #[ar s,ai l,ah e]] w λex w'=>ex=.returned (cP D)/\Bw w w':=by
 have h1:=λW=>Jy s l e D hD W (by have:=hx.1;simp only at this;omega) (by have:=hx.2;simp only at this;omega);have H1:=aj h1;clear h1 hD hx;obtain⟨W,dw,Hb,Hx,Hr⟩:=mK w 48 [ar s,ai l,ah e] 48 [ar false,.string ⟨#[]⟩,ah 0];obtain⟨x0,x1,x2⟩:=Hx.out.c3;obtain⟨r0,au,r1,az,r2,aJ⟩:=Hr.out.g3;go_enter Tryz.func90,Tryz.ntmps90;go_wp2_with fail;refine(H1.out _).mono ?_;rintro e w1 ⟨rfl,ag⟩;clear x0 x1 x2 r0 au r1 az r2 aJ;obtain⟨Hx,x0,x1,x2⟩:=bP Hx ag;obtain⟨Hr,r0,au,r1,az,r2,aJ⟩:=bg Hr ag;replace Hb:=aF Hb ag;clear ag;go_wp2;clear x0 x1 x2 r0 au r1 az r2 aJ;refine fJ (cm w1 (w.heap.size+1) 0 [ar (aI (dN D)),ai (nt (dN D).natAbs),ah (dE D)]) cC ?_;intro w9 hs;replace Hx:=kS Hx hs zo;replace Hr:=cX Hr hs;obtain⟨x0,x1,x2⟩:=Hx.out.c3;obtain⟨r0,au,r1,az,r2,aJ⟩:=Hr.out.g3;replace Hb:=bS Hb hs ZS;clear hs;refine bodyPost_ret (v:=cP D) (by simp[results,Tryz.results90,go_sem,r0,r1,r2]) rfl ⟨rfl,Hb.out⟩
theorem NN (s:Bool)(l:List UInt8)(e:Int)(g:Int)(hg:dY (aM (s,l,e))=g)(w:World)(hl:l.length<=68719476736):
 Calls Tryz.prog 89 #[.agg #[ar s,ai l,ah e]] w λex w'=>ex=.returned (ah g)/\Bw w w':=by
 have h1:=λW=>auI s l W hl;rw[show fH (iv s l)=g by rw[<-hg];exact afH s l e]at h1;have H1:=aj h1;clear h1 hg hl;obtain⟨W,dw,Hb,Hx⟩:=jT w 48 [ar s,ai l,ah e];obtain⟨x0,x1,x2⟩:=Hx.out.c3;go_enter Tryz.func89,Tryz.ntmps89;go_wp2_with fail;refine(H1.out _).mono ?_;rintro e w1 ⟨rfl,ag⟩;clear x0 x1 x2;obtain⟨Hx,x0,x1,x2⟩:=bP Hx ag;replace Hb:=aF Hb ag;clear ag;go_wp2;go_ret;exact⟨rfl,Hb.out⟩
theorem auk (n:Nat)(D:Dyadic)(hD:Dyadic.ofIntWithPrec (n:Int) 0=D)(w:World)(hn:n<=1000000):
 Calls Tryz.prog 50 #[ah (n:Int)] w λe w'=>e=.returned (cP D)/\Bw w w':=by
 have h1:=λW=>Vv n W zo;have h2:=λW=>Jy false (nt n) 0 D (by unfold aM;simp only[oY];exact hD) W (Nat.le_trans (jR (k:=4) zo) zd) zo;clear hD;generalize nt n=m at*;obtain⟨H1,H2⟩:=aZ h1 h2;clear h1 h2;obtain⟨W,dw,Hb,Hr⟩:=jT w 48 [ar false,.string ⟨#[]⟩,ah 0];obtain⟨r0,au,r1,az,r2,aJ⟩:=Hr.out.g3;go_enter Tryz.func50,Tryz.ntmps50;go_wp2_with fail;refine(H1.out _).mono ?_;rintro e w1 ⟨rfl,ag⟩;clear r0 au r1 az r2 aJ;obtain⟨Hr,r0,au,r1,az,r2,aJ⟩:=bg Hr ag;replace Hb:=aF Hb ag;clear ag;go_wp2_with fail;refine(H2.out _).mono ?_;rintro e w2 ⟨rfl,ag⟩;clear r0 au r1 az r2 aJ;obtain⟨Hr,r0,au,r1,az,r2,aJ⟩:=bg Hr ag;replace Hb:=aF Hb ag;clear ag;go_wp2;clear r0 au r1 az r2 aJ;refine fJ (cm w2 (w.heap.size) 0 [ar (aI (dN D)),ai (nt (dN D).natAbs),ah (dE D)]) cC ?_;intro w9 hs;replace Hr:=cX Hr hs;obtain⟨r0,au,r1,az,r2,aJ⟩:=Hr.out.g3;replace Hb:=bS Hb hs ZS;clear hs;refine bodyPost_ret (v:=cP D) (by simp[results,Tryz.results50,go_sem,r0,r1,r2]) rfl ⟨rfl,Hb.out⟩
theorem afx (s:Bool)(l:List UInt8)(e:Int)(t:Bool)(m:List UInt8)(f:Int)(D:Dyadic)(hD:aM (s,l,e) *aM (t,m,f)=D)(w:World)(hx:gB (s,l,e))(hy:gB (t,m,f)):
 Calls Tryz.prog 81 #[.agg #[ar s,ai l,ah e],.agg #[ar t,ai m,ah f]] w λex w'=>ex=.returned (cP D)/\Bw w w':=by
 obtain⟨Z,hZ⟩:=aK (iv s l*iv t m);have hx1:l.length<=16384:=hx.1;have hy1:m.length<=16384:=hy.1;have hx2: -16384<=e/\e<=16384:=hx.2;have hy2: -16384<=f/\f<=16384:=hy.2;have hl:(nt Z.natAbs).length<=32768:=by
  have:Z.natAbs=nv l*nv m:=by rw[<-hZ,Int.natAbs_mul,oX,oX]
  rw[this];exact Nat.le_trans (aeT l m) zo
 have h1:=λW=>auN s l t m Z hZ W zo zo;have h2:=λW=>Jy (aI Z) (nt Z.natAbs) (e+f) D (by rw[Au,<-hZ,<-hD];unfold aM;rw[zr,show-(e+f)= -e+ -f by omega]) W zo zo;obtain⟨H1,H2⟩:=aZ h1 h2;have hwr:IntKind.i64.wrap (e+f)=e+f:=by rw[IntKind.wrap_i64];omega
 clear h1 h2 hD hZ hl hx hy hx1 hy1;generalize aI Z=v at*;generalize nt Z.natAbs=n at*;obtain⟨W,dw,Hb,Hx,Hy,Hr⟩:=vI w 48 [ar s,ai l,ah e] 48 [ar t,ai m,ah f] 48 [ar false,.string ⟨#[]⟩,ah 0];obtain⟨x0,x1,x2⟩:=Hx.out.c3;obtain⟨y0,y1,y2⟩:=Hy.out.c3;obtain⟨r0,au,r1,az,r2,aJ⟩:=Hr.out.g3;go_enter Tryz.func81,Tryz.ntmps81;go_wp2_with fail;refine cg (λw'=>aH w' (w.heap.size) 0 (ar s)/\aH w' (w.heap.size) 1 (ai l)/\aH w' (w.heap.size) 2 (ah e)/\aH w' (w.heap.size+1) 0 (ar t)/\aH w' (w.heap.size+1) 1 (ai m)/\aH w' (w.heap.size+1) 2 (ah f)) (λi=>Nat.blt i 11) [(0,true),(1,true),(2,true),(3,true),(5,true),(6,true),(7,true),(8,true),(9,true),(4,false),(10,false),(11,false)] zk zk rfl zk zc ⟨x0,x1,x2,y0,y1,y2⟩ ?_;iterate 9 (refine pT rfl rfl ?_ (by intro w' ⟨q0,q1,q2,q3,q4,q5⟩;go_simp;try with_reducible rfl))
 refine aW rfl rfl (λK hK=>?_);go_simp;with_reducible refine(H1.out _).mono ?_
 rintro e w1 ⟨rfl,hq⟩;have ag:Bw W w1:=by first|exact hq|exact bo hq
 clear x0 x1 x2 y0 y1 y2 r0 au r1 az r2 aJ;obtain⟨Hx,x0,x1,x2⟩:=bP Hx ag;obtain⟨Hy,y0,y1,y2⟩:=bP Hy ag;obtain⟨Hr,r0,au,r1,az,r2,aJ⟩:=bg Hr ag;replace Hb:=aF Hb ag;clear ag;refine hK _ _ (λ_=>⟨x0,x1,x2,y0,y1,y2⟩) ?_;clear hK K
 refine aW rfl rfl (λK hK=>?_);go_simp;with_reducible refine(H2.out _).mono ?_
 rintro e w2 ⟨rfl,hq⟩;have ag:Bw w1 w2:=by first|exact hq|exact bo hq
 clear x0 x1 x2 y0 y1 y2 r0 au r1 az r2 aJ;obtain⟨Hx,x0,x1,x2⟩:=bP Hx ag;obtain⟨Hy,y0,y1,y2⟩:=bP Hy ag;obtain⟨Hr,r0,au,r1,az,r2,aJ⟩:=bg Hr ag;replace Hb:=aF Hb ag;clear ag;refine hK _ _ (λ_=>⟨x0,x1,x2,y0,y1,y2⟩) ?_;clear hK K
 refine aW rfl rfl (λK hK=>?_);go_simp;refine hK _ _ (λh=>absurd h zd) ?_;clear hK K
 clear x0 x1 x2 y0 y1 y2 r0 au r1 az r2 aJ;refine cn (cm w2 (w.heap.size+1+1) 0 [ar (aI (dN D)),ai (nt (dN D).natAbs),ah (dE D)]) cC ?_;intro w9 hs;replace Hx:=kS Hx hs zo;replace Hy:=kS Hy hs zo;replace Hr:=cX Hr hs;obtain⟨x0,x1,x2⟩:=Hx.out.c3;obtain⟨y0,y1,y2⟩:=Hy.out.c3;obtain⟨r0,au,r1,az,r2,aJ⟩:=Hr.out.g3;replace Hb:=bS Hb hs ZS;clear hs;simp only[bD];go_wp2;exact bodyPost_ret (v:=cP D) (by simp[results,Tryz.results81,go_sem,r0,r1,r2]) rfl ⟨rfl,di⟩
theorem aeV (n:Nat):n<256^(nt n).length:=by have:=gz (nt n);rwa [jz]at this
theorem ath (A C S:Dyadic)(hS:A+C=S)(p:Nat)(hp:dE A-dE C=(p:Int))(Z1 Z:Int)(h1:dN A*2^p=Z1)(h2:Z1+dN C=Z):aM (aI Z,nt Z.natAbs,dE C)=S:=by
 rw[Au,<-h2,<-h1,<-Ei,<-hS];congr 1
 . have:=xy (dN A) p (-(dE A));rw[show-(dE C)= -(dE A)+(p:Int)by omega,this];exact(ux A).symm
 . exact(ux C).symm
theorem auy (s:Bool)(l:List UInt8)(e:Int)(t:Bool)(m:List UInt8)(f:Int)(S:Dyadic)(hS:aM (s,l,e)+aM (t,m,f)=S)(w:World)(hx:gB (s,l,e))(hy:gB (t,m,f)):
 Calls Tryz.prog 94 #[.agg #[ar s,ai l,ah e],.agg #[ar t,ai m,ah f]] w λex w'=>ex=.returned (cP S)/\Bw w w':=by
 obtain⟨A,hA⟩:=aK (aM (s,l,e));obtain⟨C,hC⟩:=aK (aM (t,m,f));have tQ:=hx.sm;have Df:=hy.sm;rw[hA]at tQ;rw[hC]at Df;obtain⟨a1,a2,a3⟩:=tQ.parts;obtain⟨c1,c2,c3⟩:=Df.parts;have la:(nt (dN A).natAbs).length<=65536:=kR a1 zo;have lc:(nt (dN C).natAbs).length<=65536:=kR c1 zo;have dP:=λW=>En s l e A hA W hx;have gJ:=λW=>En t m f C hC W hy;rw[hA,hC]at hS;have yO:=λW=>NN (aI (dN A)) (nt (dN A).natAbs) (dE A) (dY A) (by show dY (aM (canon A))=_;rw[cN]) W zo;have Bg:=λW=>NN (aI (dN C)) (nt (dN C).natAbs) (dE C) (dY C) (by show dY (aM (canon C))=_;rw[cN]) W zo;have Dp:(dY A==0)=true↔A=0:=by rw[<-Bool.not_eq_false];rw[wK];simp
 have Dq:(dY C==0)=true↔C=0:=by rw[<-Bool.not_eq_false];rw[wK];simp
 have hpl:=λ(A C:Dyadic) (hS:A+C=S) (hA1:(nt (dN A).natAbs).length<=65536) (hC1:(nt (dN C).natAbs).length<=65536) (p:Nat) (hp:dE A-dE C=(p:Int)) (Il:p<=524288) (De: -262144<=dE C/\dE C<=262144)=>(show ∃Z1 Z:Int,(∀W,Calls Tryz.prog 132 #[.agg #[ar (aI (dN A)),ai (nt (dN A).natAbs)],ah (p:Int)] W λe w'=>e=.returned (.agg #[ar (aI Z1),ai (nt Z1.natAbs)])/\Bw W w')/\(∀W,Calls Tryz.prog 131 #[.agg #[ar (aI Z1),ai (nt Z1.natAbs)],.agg #[ar (aI (dN C)),ai (nt (dN C).natAbs)]] W λe w'=>e=.returned (.agg #[ar (aI Z),ai (nt Z.natAbs)])/\Bw W w')/\(∀W,Calls Tryz.prog 82 #[.agg #[ar (aI Z),ai (nt Z.natAbs)],ah (dE C)] W λe w'=>e=.returned (cP S)/\Bw W w')from by
  obtain⟨Z1,h1⟩:=aK (dN A*2^p);obtain⟨Z,h2⟩:=aK (Z1+dN C);have l1:(nt Z1.natAbs).length<=589824:=by
   have e1:Z1.natAbs=nv (nt (dN A).natAbs) *2^p:=by rw[<-h1,Int.natAbs_mul,jz];simp[Int.natAbs_pow]
   rw[e1];exact Nat.le_trans (aeU _ p) zo
  have l2:(nt Z.natAbs).length<=589825:=by
   obtain⟨K,hK⟩:=aK (589824);rw[hK]at l1;have lcK:(nt (dN C).natAbs).length<=K:=by omega
   have hle:(nt Z.natAbs).length<=K+1:=by
    refine jR ?_;have b1:Z1.natAbs<256^K:=Nat.lt_of_lt_of_le (aeV _) (Nat.pow_le_pow_right zd l1);have b2:(dN C).natAbs<256^K:=Nat.lt_of_lt_of_le (aeV _) (Nat.pow_le_pow_right zd lcK);have b3:Z.natAbs<=Z1.natAbs+(dN C).natAbs:=by rw[<-h2];exact Int.natAbs_add_le _ _
    rw[Nat.pow_succ];omega
   omega
  refine⟨Z1,Z,λW=>auG _ _ p Z1 (by rw[fT];exact h1) W zo zo,λW=>aux _ _ _ _ Z (by rw[fT,fT];exact h2) W zo zo,λW=>Jy _ _ (dE C) S (ath A C S hS p hp Z1 Z h1 h2) W zo zo⟩)
 have Be:=hpl;by_cases vp:A=0
 . have zA:=Dp.2 vp;have RV:C=S:=by rw[<-hS,vp];grind
   subst RV;obtain⟨fx,lS,zZ⟩:=dc dP gJ yO;clear dP gJ yO Bg hpl Be Dp Dq vp hA hC hS tQ Df a1 a2 a3 c1 c2 c3 la lc hx hy;obtain⟨W,dw,Hb,Hx,Hy,Hr⟩:=vI w 48 [ar s,ai l,ah e] 48 [ar t,ai m,ah f] 48 [ar false,.string ⟨#[]⟩,ah 0];obtain⟨x0,bG,x1,bH,x2,bI⟩:=Hx.out.g3;obtain⟨y0,bz,y1,bA,y2,bC⟩:=Hy.out.g3;obtain⟨r0,au,r1,az,r2,aJ⟩:=Hr.out.g3;go_enter Tryz.func94,Tryz.ntmps94;go_wp2_with fail;refine cg (λw'=>aH w' (w.heap.size) 0 (ar s)/\aH w' (w.heap.size) 1 (ai l)/\aH w' (w.heap.size) 2 (ah e)/\aH w' (w.heap.size+1) 0 (ar t)/\aH w' (w.heap.size+1) 1 (ai m)/\aH w' (w.heap.size+1) 2 (ah f)) (λi=>Nat.blt i 4) [(0,true),(2,true),(1,false),(3,false),(4,false),(5,false)] zk zk rfl zk zc ⟨x0,x1,x2,y0,y1,y2⟩ ?_;iterate 2 (refine pT rfl rfl ?_ (by intro w' ⟨q0,q1,q2,q3,q4,q5⟩;go_simp;try with_reducible rfl))
   refine aW rfl rfl (λK hK=>?_);go_simp;with_reducible refine(fx.out _).mono ?_
   rintro e w1 ⟨rfl,hq⟩;have ag:Bw W w1:=by first|exact hq|exact bo hq
   clear x0 bG x1 bH x2 bI y0 bz y1 bA y2 bC r0 au r1 az r2 aJ;obtain⟨Hx,x0,bG,x1,bH,x2,bI⟩:=bg Hx ag;obtain⟨Hy,y0,bz,y1,bA,y2,bC⟩:=bg Hy ag;obtain⟨Hr,r0,au,r1,az,r2,aJ⟩:=bg Hr ag;replace Hb:=aF Hb ag;clear ag;refine hK _ _ (λ_=>⟨x0,x1,x2,y0,y1,y2⟩) ?_;clear hK K
   refine aW rfl rfl (λK hK=>?_);go_simp;with_reducible refine(lS.out _).mono ?_
   rintro e w2 ⟨rfl,hq⟩;have ag:Bw w1 w2:=by first|exact hq|exact bo hq
   clear x0 bG x1 bH x2 bI y0 bz y1 bA y2 bC r0 au r1 az r2 aJ;obtain⟨Hx,x0,bG,x1,bH,x2,bI⟩:=bg Hx ag;obtain⟨Hy,y0,bz,y1,bA,y2,bC⟩:=bg Hy ag;obtain⟨Hr,r0,au,r1,az,r2,aJ⟩:=bg Hr ag;replace Hb:=aF Hb ag;clear ag;refine hK _ _ (λ_=>⟨x0,x1,x2,y0,y1,y2⟩) ?_;clear hK K
   refine aW rfl rfl (λK hK=>?_);go_simp;refine hK _ _ (λh=>absurd h zd) ?_;clear hK K
   clear x0 bG x1 bH x2 bI y0 bz y1 bA y2 bC r0 au r1 az r2 aJ;refine cn (cm w2 (w.heap.size) 0 [ar (aI (dN A)),ai (nt (dN A).natAbs),ah (dE A)]) cC ?_;intro w3 hs;replace Hx:=cX Hx hs;replace Hy:=kS Hy hs zo;replace Hr:=kS Hr hs zo;obtain⟨x0,bG,x1,bH,x2,bI⟩:=Hx.out.g3;obtain⟨y0,bz,y1,bA,y2,bC⟩:=Hy.out.g3;obtain⟨r0,au,r1,az,r2,aJ⟩:=Hr.out.g3;replace Hb:=bS Hb hs ZS;clear hs;refine aW rfl rfl (λK hK=>?_);go_simp;refine hK _ _ (λh=>absurd h zd) ?_;clear hK K
   clear x0 bG x1 bH x2 bI y0 bz y1 bA y2 bC r0 au r1 az r2 aJ;refine cn (cm w3 (w.heap.size+1) 0 [ar (aI (dN C)),ai (nt (dN C).natAbs),ah (dE C)]) cC ?_;intro w4 hs;replace Hx:=kS Hx hs zo;replace Hy:=cX Hy hs;replace Hr:=kS Hr hs zo;obtain⟨x0,bG,x1,bH,x2,bI⟩:=Hx.out.g3;obtain⟨y0,bz,y1,bA,y2,bC⟩:=Hy.out.g3;obtain⟨r0,au,r1,az,r2,aJ⟩:=Hr.out.g3;replace Hb:=bS Hb hs ZS;clear hs;simp only[bD];go_wp2_with fail;refine(zZ.out _).mono ?_;rintro e w5 ⟨rfl,ag⟩;clear x0 bG x1 bH x2 bI y0 bz y1 bA y2 bC r0 au r1 az r2 aJ;obtain⟨Hx,x0,bG,x1,bH,x2,bI⟩:=bg Hx ag;obtain⟨Hy,y0,bz,y1,bA,y2,bC⟩:=bg Hy ag;obtain⟨Hr,r0,au,r1,az,r2,aJ⟩:=bg Hr ag;replace Hb:=aF Hb ag;clear ag;go_wp2;clear x0 bG x1 bH x2 bI y0 bz y1 bA y2 bC r0 au r1 az r2 aJ;refine fJ (cm w5 (w.heap.size+1+1) 0 [ar (aI (dN C)),ai (nt (dN C).natAbs),ah (dE C)]) cC ?_;intro w9 hs;replace Hx:=kS Hx hs zo;replace Hy:=kS Hy hs zo;replace Hr:=cX Hr hs;obtain⟨x0,bG,x1,bH,x2,bI⟩:=Hx.out.g3;obtain⟨y0,bz,y1,bA,y2,bC⟩:=Hy.out.g3;obtain⟨r0,au,r1,az,r2,aJ⟩:=Hr.out.g3;replace Hb:=bS Hb hs ZS;clear hs;refine bodyPost_ret (v:=cP C) (by simp[results,Tryz.results94,go_sem,r0,r1,r2]) rfl ⟨rfl,Hb.out⟩
 have zA:(dY A==0)=false:=by rw[<-Bool.not_eq_true];exact λh=>vp (Dp.1 h)
 by_cases rf:C=0
 . have zC:=Dq.2 rf;have RV:A=S:=by rw[<-hS,rf];grind
   subst RV;obtain⟨fx,lS,zZ,Fl⟩:=eN dP gJ yO Bg;clear dP gJ yO Bg hpl Be Dp Dq vp rf hA hC hS tQ Df a1 a2 a3 c1 c2 c3 la lc hx hy;obtain⟨W,dw,Hb,Hx,Hy,Hr⟩:=vI w 48 [ar s,ai l,ah e] 48 [ar t,ai m,ah f] 48 [ar false,.string ⟨#[]⟩,ah 0];obtain⟨x0,bG,x1,bH,x2,bI⟩:=Hx.out.g3;obtain⟨y0,bz,y1,bA,y2,bC⟩:=Hy.out.g3;obtain⟨r0,au,r1,az,r2,aJ⟩:=Hr.out.g3;go_enter Tryz.func94,Tryz.ntmps94;go_wp2_with fail;refine cg (λw'=>aH w' (w.heap.size) 0 (ar s)/\aH w' (w.heap.size) 1 (ai l)/\aH w' (w.heap.size) 2 (ah e)/\aH w' (w.heap.size+1) 0 (ar t)/\aH w' (w.heap.size+1) 1 (ai m)/\aH w' (w.heap.size+1) 2 (ah f)) (λi=>Nat.blt i 4) [(0,true),(2,true),(1,false),(3,false),(4,false),(5,false)] zk zk rfl zk zc ⟨x0,x1,x2,y0,y1,y2⟩ ?_;iterate 2 (refine pT rfl rfl ?_ (by intro w' ⟨q0,q1,q2,q3,q4,q5⟩;go_simp;try with_reducible rfl))
   refine aW rfl rfl (λK hK=>?_);go_simp;with_reducible refine(fx.out _).mono ?_
   rintro e w1 ⟨rfl,hq⟩;have ag:Bw W w1:=by first|exact hq|exact bo hq
   clear x0 bG x1 bH x2 bI y0 bz y1 bA y2 bC r0 au r1 az r2 aJ;obtain⟨Hx,x0,bG,x1,bH,x2,bI⟩:=bg Hx ag;obtain⟨Hy,y0,bz,y1,bA,y2,bC⟩:=bg Hy ag;obtain⟨Hr,r0,au,r1,az,r2,aJ⟩:=bg Hr ag;replace Hb:=aF Hb ag;clear ag;refine hK _ _ (λ_=>⟨x0,x1,x2,y0,y1,y2⟩) ?_;clear hK K
   refine aW rfl rfl (λK hK=>?_);go_simp;with_reducible refine(lS.out _).mono ?_
   rintro e w2 ⟨rfl,hq⟩;have ag:Bw w1 w2:=by first|exact hq|exact bo hq
   clear x0 bG x1 bH x2 bI y0 bz y1 bA y2 bC r0 au r1 az r2 aJ;obtain⟨Hx,x0,bG,x1,bH,x2,bI⟩:=bg Hx ag;obtain⟨Hy,y0,bz,y1,bA,y2,bC⟩:=bg Hy ag;obtain⟨Hr,r0,au,r1,az,r2,aJ⟩:=bg Hr ag;replace Hb:=aF Hb ag;clear ag;refine hK _ _ (λ_=>⟨x0,x1,x2,y0,y1,y2⟩) ?_;clear hK K
   refine aW rfl rfl (λK hK=>?_);go_simp;refine hK _ _ (λh=>absurd h zd) ?_;clear hK K
   clear x0 bG x1 bH x2 bI y0 bz y1 bA y2 bC r0 au r1 az r2 aJ;refine cn (cm w2 (w.heap.size) 0 [ar (aI (dN A)),ai (nt (dN A).natAbs),ah (dE A)]) cC ?_;intro w3 hs;replace Hx:=cX Hx hs;replace Hy:=kS Hy hs zo;replace Hr:=kS Hr hs zo;obtain⟨x0,bG,x1,bH,x2,bI⟩:=Hx.out.g3;obtain⟨y0,bz,y1,bA,y2,bC⟩:=Hy.out.g3;obtain⟨r0,au,r1,az,r2,aJ⟩:=Hr.out.g3;replace Hb:=bS Hb hs ZS;clear hs;refine aW rfl rfl (λK hK=>?_);go_simp;refine hK _ _ (λh=>absurd h zd) ?_;clear hK K
   clear x0 bG x1 bH x2 bI y0 bz y1 bA y2 bC r0 au r1 az r2 aJ;refine cn (cm w3 (w.heap.size+1) 0 [ar (aI (dN C)),ai (nt (dN C).natAbs),ah (dE C)]) cC ?_;intro w4 hs;replace Hx:=kS Hx hs zo;replace Hy:=cX Hy hs;replace Hr:=kS Hr hs zo;obtain⟨x0,bG,x1,bH,x2,bI⟩:=Hx.out.g3;obtain⟨y0,bz,y1,bA,y2,bC⟩:=Hy.out.g3;obtain⟨r0,au,r1,az,r2,aJ⟩:=Hr.out.g3;replace Hb:=bS Hb hs ZS;clear hs;simp only[bD];go_wp2_with fail;refine(zZ.out _).mono ?_;rintro e w5 ⟨rfl,ag⟩;clear x0 bG x1 bH x2 bI y0 bz y1 bA y2 bC r0 au r1 az r2 aJ;obtain⟨Hx,x0,bG,x1,bH,x2,bI⟩:=bg Hx ag;obtain⟨Hy,y0,bz,y1,bA,y2,bC⟩:=bg Hy ag;obtain⟨Hr,r0,au,r1,az,r2,aJ⟩:=bg Hr ag;replace Hb:=aF Hb ag;clear ag;go_wp2_with fail;refine(Fl.out _).mono ?_;rintro e w6 ⟨rfl,ag⟩;clear x0 bG x1 bH x2 bI y0 bz y1 bA y2 bC r0 au r1 az r2 aJ;obtain⟨Hx,x0,bG,x1,bH,x2,bI⟩:=bg Hx ag;obtain⟨Hy,y0,bz,y1,bA,y2,bC⟩:=bg Hy ag;obtain⟨Hr,r0,au,r1,az,r2,aJ⟩:=bg Hr ag;replace Hb:=aF Hb ag;clear ag;go_wp2;clear x0 bG x1 bH x2 bI y0 bz y1 bA y2 bC r0 au r1 az r2 aJ;refine fJ (cm w6 (w.heap.size+1+1) 0 [ar (aI (dN A)),ai (nt (dN A).natAbs),ah (dE A)]) cC ?_;intro w9 hs;replace Hx:=kS Hx hs zo;replace Hy:=kS Hy hs zo;replace Hr:=cX Hr hs;obtain⟨x0,bG,x1,bH,x2,bI⟩:=Hx.out.g3;obtain⟨y0,bz,y1,bA,y2,bC⟩:=Hy.out.g3;obtain⟨r0,au,r1,az,r2,aJ⟩:=Hr.out.g3;replace Hb:=bS Hb hs ZS;clear hs;refine bodyPost_ret (v:=cP A) (by simp[results,Tryz.results94,go_sem,r0,r1,r2]) rfl ⟨rfl,Hb.out⟩
 have zC:(dY C==0)=false:=by rw[<-Bool.not_eq_true];exact λh=>rf (Dq.1 h)
 by_cases hEE:dE A<dE C
 . obtain⟨p,hp⟩:∃p:Nat,dE C-dE A=(p:Int):=⟨(dE C-dE A).toNat,by omega⟩;obtain⟨Z1,Z,g1,g2,g3⟩:=hpl C A (by rw[<-hS];grind) lc la p hp zo zo;have hwr:IntKind.i64.wrap (dE C-dE A)=(p:Int):=by rw[IntKind.wrap_i64];omega
   obtain⟨fx,lS,zZ,Fl,G1,G2,G3⟩:=lG dP gJ yO Bg g1 g2 g3;clear dP gJ yO Bg hpl Be Dp Dq vp rf hA hC hS tQ Df a1 a2 a3 c1 c2 c3 la lc hx hy g1 g2 g3 hp;obtain⟨W,dw,Hb,Hx,Hy,Hr⟩:=vI w 48 [ar s,ai l,ah e] 48 [ar t,ai m,ah f] 48 [ar false,.string ⟨#[]⟩,ah 0];obtain⟨x0,bG,x1,bH,x2,bI⟩:=Hx.out.g3;obtain⟨y0,bz,y1,bA,y2,bC⟩:=Hy.out.g3;obtain⟨r0,au,r1,az,r2,aJ⟩:=Hr.out.g3;go_enter Tryz.func94,Tryz.ntmps94;go_wp2_with fail;refine cg (λw'=>aH w' (w.heap.size) 0 (ar s)/\aH w' (w.heap.size) 1 (ai l)/\aH w' (w.heap.size) 2 (ah e)/\aH w' (w.heap.size+1) 0 (ar t)/\aH w' (w.heap.size+1) 1 (ai m)/\aH w' (w.heap.size+1) 2 (ah f)) (λi=>Nat.blt i 4) [(0,true),(2,true),(1,false),(3,false),(4,false),(5,false)] zk zk rfl zk zc ⟨x0,x1,x2,y0,y1,y2⟩ ?_;iterate 2 (refine pT rfl rfl ?_ (by intro w' ⟨q0,q1,q2,q3,q4,q5⟩;go_simp;try with_reducible rfl))
   refine aW rfl rfl (λK hK=>?_);go_simp;with_reducible refine(fx.out _).mono ?_
   rintro e w1 ⟨rfl,hq⟩;have ag:Bw W w1:=by first|exact hq|exact bo hq
   clear x0 bG x1 bH x2 bI y0 bz y1 bA y2 bC r0 au r1 az r2 aJ;obtain⟨Hx,x0,bG,x1,bH,x2,bI⟩:=bg Hx ag;obtain⟨Hy,y0,bz,y1,bA,y2,bC⟩:=bg Hy ag;obtain⟨Hr,r0,au,r1,az,r2,aJ⟩:=bg Hr ag;replace Hb:=aF Hb ag;clear ag;refine hK _ _ (λ_=>⟨x0,x1,x2,y0,y1,y2⟩) ?_;clear hK K
   refine aW rfl rfl (λK hK=>?_);go_simp;with_reducible refine(lS.out _).mono ?_
   rintro e w2 ⟨rfl,hq⟩;have ag:Bw w1 w2:=by first|exact hq|exact bo hq
   clear x0 bG x1 bH x2 bI y0 bz y1 bA y2 bC r0 au r1 az r2 aJ;obtain⟨Hx,x0,bG,x1,bH,x2,bI⟩:=bg Hx ag;obtain⟨Hy,y0,bz,y1,bA,y2,bC⟩:=bg Hy ag;obtain⟨Hr,r0,au,r1,az,r2,aJ⟩:=bg Hr ag;replace Hb:=aF Hb ag;clear ag;refine hK _ _ (λ_=>⟨x0,x1,x2,y0,y1,y2⟩) ?_;clear hK K
   refine aW rfl rfl (λK hK=>?_);go_simp;refine hK _ _ (λh=>absurd h zd) ?_;clear hK K
   clear x0 bG x1 bH x2 bI y0 bz y1 bA y2 bC r0 au r1 az r2 aJ;refine cn (cm w2 (w.heap.size) 0 [ar (aI (dN A)),ai (nt (dN A).natAbs),ah (dE A)]) cC ?_;intro w3 hs;replace Hx:=cX Hx hs;replace Hy:=kS Hy hs zo;replace Hr:=kS Hr hs zo;obtain⟨x0,bG,x1,bH,x2,bI⟩:=Hx.out.g3;obtain⟨y0,bz,y1,bA,y2,bC⟩:=Hy.out.g3;obtain⟨r0,au,r1,az,r2,aJ⟩:=Hr.out.g3;replace Hb:=bS Hb hs ZS;clear hs;refine aW rfl rfl (λK hK=>?_);go_simp;refine hK _ _ (λh=>absurd h zd) ?_;clear hK K
   clear x0 bG x1 bH x2 bI y0 bz y1 bA y2 bC r0 au r1 az r2 aJ;refine cn (cm w3 (w.heap.size+1) 0 [ar (aI (dN C)),ai (nt (dN C).natAbs),ah (dE C)]) cC ?_;intro w4 hs;replace Hx:=kS Hx hs zo;replace Hy:=cX Hy hs;replace Hr:=kS Hr hs zo;obtain⟨x0,bG,x1,bH,x2,bI⟩:=Hx.out.g3;obtain⟨y0,bz,y1,bA,y2,bC⟩:=Hy.out.g3;obtain⟨r0,au,r1,az,r2,aJ⟩:=Hr.out.g3;replace Hb:=bS Hb hs ZS;clear hs;simp only[bD];go_wp2_with fail;refine(zZ.out _).mono ?_;rintro e w5 ⟨rfl,ag⟩;clear x0 bG x1 bH x2 bI y0 bz y1 bA y2 bC r0 au r1 az r2 aJ;obtain⟨Hx,x0,bG,x1,bH,x2,bI⟩:=bg Hx ag;obtain⟨Hy,y0,bz,y1,bA,y2,bC⟩:=bg Hy ag;obtain⟨Hr,r0,au,r1,az,r2,aJ⟩:=bg Hr ag;replace Hb:=aF Hb ag;clear ag;go_wp2_with fail;refine(Fl.out _).mono ?_;rintro e w6 ⟨rfl,ag⟩;clear x0 bG x1 bH x2 bI y0 bz y1 bA y2 bC r0 au r1 az r2 aJ;obtain⟨Hx,x0,bG,x1,bH,x2,bI⟩:=bg Hx ag;obtain⟨Hy,y0,bz,y1,bA,y2,bC⟩:=bg Hy ag;obtain⟨Hr,r0,au,r1,az,r2,aJ⟩:=bg Hr ag;replace Hb:=aF Hb ag;clear ag;go_wp2_with fail;clear x0 bG x1 bH x2 bI y0 bz y1 bA y2 bC r0 au r1 az r2 aJ;obtain⟨R,hR⟩:∃R:World->Prop,(λw7=>aC w7 (w.heap.size) 48 [ar (aI (dN C)),ai (nt (dN C).natAbs),ah (dE C)]/\aC w7 (w.heap.size+1) 48 [ar (aI (dN A)),ai (nt (dN A).natAbs),ah (dE A)]/\aC w7 (w.heap.size+1+1) 48 [ar false,.string ⟨#[]⟩,ah 0]/\Bw w w7)=R:=⟨_,rfl⟩;first|refine cj R ?hR ?_|refine cu R ?hR ?_
   case hR=>subst hR;exact⟨((((((Hx.out.set 0 _).set 1 _).set 2 _).so (w.heap.size+1) 0 zo _).so (w.heap.size+1) 1 zo _).so (w.heap.size+1) 2 zo _),((((((Hy.out.so (w.heap.size) 0 zo _).so (w.heap.size) 1 zo _).so (w.heap.size) 2 zo _).set 0 _).set 1 _).set 2 _),((((((Hr.out.so (w.heap.size) 0 zo _).so (w.heap.size) 1 zo _).so (w.heap.size) 2 zo _).so (w.heap.size+1) 0 zo _).so (w.heap.size+1) 1 zo _).so (w.heap.size+1) 2 zo _),((((((Hb.out.sc (w.heap.size) 0 ZS _).sc (w.heap.size) 1 ZS _).sc (w.heap.size) 2 ZS _).sc (w.heap.size+1) 0 ZS _).sc (w.heap.size+1) 1 ZS _).sc (w.heap.size+1) 2 ZS _)⟩
   subst hR;rintro w7 ⟨qx,qy,qr,ag⟩;replace Hx:=aj qx;clear qx;replace Hy:=aj qy;clear qy;replace Hr:=aj qr;clear qr;obtain⟨x0,bG,x1,bH,x2,bI⟩:=Hx.out.g3;obtain⟨y0,bz,y1,bA,y2,bC⟩:=Hy.out.g3;obtain⟨r0,au,r1,az,r2,aJ⟩:=Hr.out.g3;replace Hb:=aj ag;clear ag;refine cg (λw'=>aH w' (w.heap.size) 0 (ar (aI (dN C)))/\aH w' (w.heap.size) 1 (ai (nt (dN C).natAbs))/\aH w' (w.heap.size) 2 (ah (dE C))/\aH w' (w.heap.size+1) 0 (ar (aI (dN A)))/\aH w' (w.heap.size+1) 1 (ai (nt (dN A).natAbs))/\aH w' (w.heap.size+1) 2 (ah (dE A))) (λi=>Nat.blt i 14) [(0,true),(1,true),(2,true),(3,true),(4,true),(5,true),(6,true),(8,true),(9,true),(11,true),(12,true),(7,false),(10,false),(13,false),(14,false)] zk zk rfl zk zc ⟨x0,x1,x2,y0,y1,y2⟩ ?_;iterate 11 (refine pT rfl rfl ?_ (by intro w' ⟨q0,q1,q2,q3,q4,q5⟩;go_simp;try with_reducible rfl))
   refine aW rfl rfl (λK hK=>?_);go_simp;with_reducible refine(G1.out _).mono ?_
   rintro e pu ⟨rfl,hq⟩;have ag:Bw w7 pu:=by first|exact hq|exact bo hq
   clear x0 bG x1 bH x2 bI y0 bz y1 bA y2 bC r0 au r1 az r2 aJ;obtain⟨Hx,x0,bG,x1,bH,x2,bI⟩:=bg Hx ag;obtain⟨Hy,y0,bz,y1,bA,y2,bC⟩:=bg Hy ag;obtain⟨Hr,r0,au,r1,az,r2,aJ⟩:=bg Hr ag;replace Hb:=aF Hb ag;clear ag;refine hK _ _ (λ_=>⟨x0,x1,x2,y0,y1,y2⟩) ?_;clear hK K
   refine aW rfl rfl (λK hK=>?_);go_simp;with_reducible refine(G2.out _).mono ?_
   rintro e jU ⟨rfl,hq⟩;have ag:Bw pu jU:=by first|exact hq|exact bo hq
   clear x0 bG x1 bH x2 bI y0 bz y1 bA y2 bC r0 au r1 az r2 aJ;obtain⟨Hx,x0,bG,x1,bH,x2,bI⟩:=bg Hx ag;obtain⟨Hy,y0,bz,y1,bA,y2,bC⟩:=bg Hy ag;obtain⟨Hr,r0,au,r1,az,r2,aJ⟩:=bg Hr ag;replace Hb:=aF Hb ag;clear ag;refine hK _ _ (λ_=>⟨x0,x1,x2,y0,y1,y2⟩) ?_;clear hK K
   refine aW rfl rfl (λK hK=>?_);go_simp;with_reducible refine(G3.out _).mono ?_
   rintro e qG ⟨rfl,hq⟩;have ag:Bw jU qG:=by first|exact hq|exact bo hq
   clear x0 bG x1 bH x2 bI y0 bz y1 bA y2 bC r0 au r1 az r2 aJ;obtain⟨Hx,x0,bG,x1,bH,x2,bI⟩:=bg Hx ag;obtain⟨Hy,y0,bz,y1,bA,y2,bC⟩:=bg Hy ag;obtain⟨Hr,r0,au,r1,az,r2,aJ⟩:=bg Hr ag;replace Hb:=aF Hb ag;clear ag;refine hK _ _ (λ_=>⟨x0,x1,x2,y0,y1,y2⟩) ?_;clear hK K
   refine aW rfl rfl (λK hK=>?_);go_simp;refine hK _ _ (λh=>absurd h zd) ?_;clear hK K
   clear x0 bG x1 bH x2 bI y0 bz y1 bA y2 bC r0 au r1 az r2 aJ;refine cn (cm qG (w.heap.size+1+1) 0 [ar (aI (dN S)),ai (nt (dN S).natAbs),ah (dE S)]) cC ?_;intro vM hs;replace Hx:=kS Hx hs zo;replace Hy:=kS Hy hs zo;replace Hr:=cX Hr hs;obtain⟨x0,bG,x1,bH,x2,bI⟩:=Hx.out.g3;obtain⟨y0,bz,y1,bA,y2,bC⟩:=Hy.out.g3;obtain⟨r0,au,r1,az,r2,aJ⟩:=Hr.out.g3;replace Hb:=bS Hb hs ZS;clear hs;simp only[bD];go_wp2;exact bodyPost_ret (v:=cP S) (by simp[results,Tryz.results94,go_sem,r0,r1,r2]) rfl ⟨rfl,di⟩
 . obtain⟨p,hp⟩:∃p:Nat,dE A-dE C=(p:Int):=⟨(dE A-dE C).toNat,by omega⟩;obtain⟨Z1,Z,g1,g2,g3⟩:=hpl A C hS la lc p hp zo zo;have hwr:IntKind.i64.wrap (dE A-dE C)=(p:Int):=by rw[IntKind.wrap_i64];omega
   obtain⟨fx,lS,zZ,Fl,G1,G2,G3⟩:=lG dP gJ yO Bg g1 g2 g3;clear dP gJ yO Bg hpl Be Dp Dq vp rf hA hC hS tQ Df a1 a2 a3 c1 c2 c3 la lc hx hy g1 g2 g3 hp;obtain⟨W,dw,Hb,Hx,Hy,Hr⟩:=vI w 48 [ar s,ai l,ah e] 48 [ar t,ai m,ah f] 48 [ar false,.string ⟨#[]⟩,ah 0];obtain⟨x0,bG,x1,bH,x2,bI⟩:=Hx.out.g3;obtain⟨y0,bz,y1,bA,y2,bC⟩:=Hy.out.g3;obtain⟨r0,au,r1,az,r2,aJ⟩:=Hr.out.g3;go_enter Tryz.func94,Tryz.ntmps94;go_wp2_with fail;refine cg (λw'=>aH w' (w.heap.size) 0 (ar s)/\aH w' (w.heap.size) 1 (ai l)/\aH w' (w.heap.size) 2 (ah e)/\aH w' (w.heap.size+1) 0 (ar t)/\aH w' (w.heap.size+1) 1 (ai m)/\aH w' (w.heap.size+1) 2 (ah f)) (λi=>Nat.blt i 4) [(0,true),(2,true),(1,false),(3,false),(4,false),(5,false)] zk zk rfl zk zc ⟨x0,x1,x2,y0,y1,y2⟩ ?_;iterate 2 (refine pT rfl rfl ?_ (by intro w' ⟨q0,q1,q2,q3,q4,q5⟩;go_simp;try with_reducible rfl))
   refine aW rfl rfl (λK hK=>?_);go_simp;with_reducible refine(fx.out _).mono ?_
   rintro e w1 ⟨rfl,hq⟩;have ag:Bw W w1:=by first|exact hq|exact bo hq
   clear x0 bG x1 bH x2 bI y0 bz y1 bA y2 bC r0 au r1 az r2 aJ;obtain⟨Hx,x0,bG,x1,bH,x2,bI⟩:=bg Hx ag;obtain⟨Hy,y0,bz,y1,bA,y2,bC⟩:=bg Hy ag;obtain⟨Hr,r0,au,r1,az,r2,aJ⟩:=bg Hr ag;replace Hb:=aF Hb ag;clear ag;refine hK _ _ (λ_=>⟨x0,x1,x2,y0,y1,y2⟩) ?_;clear hK K
   refine aW rfl rfl (λK hK=>?_);go_simp;with_reducible refine(lS.out _).mono ?_
   rintro e w2 ⟨rfl,hq⟩;have ag:Bw w1 w2:=by first|exact hq|exact bo hq
   clear x0 bG x1 bH x2 bI y0 bz y1 bA y2 bC r0 au r1 az r2 aJ;obtain⟨Hx,x0,bG,x1,bH,x2,bI⟩:=bg Hx ag;obtain⟨Hy,y0,bz,y1,bA,y2,bC⟩:=bg Hy ag;obtain⟨Hr,r0,au,r1,az,r2,aJ⟩:=bg Hr ag;replace Hb:=aF Hb ag;clear ag;refine hK _ _ (λ_=>⟨x0,x1,x2,y0,y1,y2⟩) ?_;clear hK K
   refine aW rfl rfl (λK hK=>?_);go_simp;refine hK _ _ (λh=>absurd h zd) ?_;clear hK K
   clear x0 bG x1 bH x2 bI y0 bz y1 bA y2 bC r0 au r1 az r2 aJ;refine cn (cm w2 (w.heap.size) 0 [ar (aI (dN A)),ai (nt (dN A).natAbs),ah (dE A)]) cC ?_;intro w3 hs;replace Hx:=cX Hx hs;replace Hy:=kS Hy hs zo;replace Hr:=kS Hr hs zo;obtain⟨x0,bG,x1,bH,x2,bI⟩:=Hx.out.g3;obtain⟨y0,bz,y1,bA,y2,bC⟩:=Hy.out.g3;obtain⟨r0,au,r1,az,r2,aJ⟩:=Hr.out.g3;replace Hb:=bS Hb hs ZS;clear hs;refine aW rfl rfl (λK hK=>?_);go_simp;refine hK _ _ (λh=>absurd h zd) ?_;clear hK K
   clear x0 bG x1 bH x2 bI y0 bz y1 bA y2 bC r0 au r1 az r2 aJ;refine cn (cm w3 (w.heap.size+1) 0 [ar (aI (dN C)),ai (nt (dN C).natAbs),ah (dE C)]) cC ?_;intro w4 hs;replace Hx:=kS Hx hs zo;replace Hy:=cX Hy hs;replace Hr:=kS Hr hs zo;obtain⟨x0,bG,x1,bH,x2,bI⟩:=Hx.out.g3;obtain⟨y0,bz,y1,bA,y2,bC⟩:=Hy.out.g3;obtain⟨r0,au,r1,az,r2,aJ⟩:=Hr.out.g3;replace Hb:=bS Hb hs ZS;clear hs;simp only[bD];go_wp2_with fail;refine(zZ.out _).mono ?_;rintro e w5 ⟨rfl,ag⟩;clear x0 bG x1 bH x2 bI y0 bz y1 bA y2 bC r0 au r1 az r2 aJ;obtain⟨Hx,x0,bG,x1,bH,x2,bI⟩:=bg Hx ag;obtain⟨Hy,y0,bz,y1,bA,y2,bC⟩:=bg Hy ag;obtain⟨Hr,r0,au,r1,az,r2,aJ⟩:=bg Hr ag;replace Hb:=aF Hb ag;clear ag;go_wp2_with fail;refine(Fl.out _).mono ?_;rintro e w6 ⟨rfl,ag⟩;clear x0 bG x1 bH x2 bI y0 bz y1 bA y2 bC r0 au r1 az r2 aJ;obtain⟨Hx,x0,bG,x1,bH,x2,bI⟩:=bg Hx ag;obtain⟨Hy,y0,bz,y1,bA,y2,bC⟩:=bg Hy ag;obtain⟨Hr,r0,au,r1,az,r2,aJ⟩:=bg Hr ag;replace Hb:=aF Hb ag;clear ag;go_wp2_with fail;refine cg (λw'=>aH w' (w.heap.size) 0 (ar (aI (dN A)))/\aH w' (w.heap.size) 1 (ai (nt (dN A).natAbs))/\aH w' (w.heap.size) 2 (ah (dE A))/\aH w' (w.heap.size+1) 0 (ar (aI (dN C)))/\aH w' (w.heap.size+1) 1 (ai (nt (dN C).natAbs))/\aH w' (w.heap.size+1) 2 (ah (dE C))) (λi=>Nat.blt i 14) [(0,true),(1,true),(2,true),(3,true),(4,true),(5,true),(6,true),(8,true),(9,true),(11,true),(12,true),(7,false),(10,false),(13,false),(14,false)] zk zk rfl zk zc ⟨x0,x1,x2,y0,y1,y2⟩ ?_;iterate 11 (refine pT rfl rfl ?_ (by intro w' ⟨q0,q1,q2,q3,q4,q5⟩;go_simp;try with_reducible rfl))
   refine aW rfl rfl (λK hK=>?_);go_simp;with_reducible refine(G1.out _).mono ?_
   rintro e pu ⟨rfl,hq⟩;have ag:Bw w6 pu:=by first|exact hq|exact bo hq
   clear x0 bG x1 bH x2 bI y0 bz y1 bA y2 bC r0 au r1 az r2 aJ;obtain⟨Hx,x0,bG,x1,bH,x2,bI⟩:=bg Hx ag;obtain⟨Hy,y0,bz,y1,bA,y2,bC⟩:=bg Hy ag;obtain⟨Hr,r0,au,r1,az,r2,aJ⟩:=bg Hr ag;replace Hb:=aF Hb ag;clear ag;refine hK _ _ (λ_=>⟨x0,x1,x2,y0,y1,y2⟩) ?_;clear hK K
   refine aW rfl rfl (λK hK=>?_);go_simp;with_reducible refine(G2.out _).mono ?_
   rintro e jU ⟨rfl,hq⟩;have ag:Bw pu jU:=by first|exact hq|exact bo hq
   clear x0 bG x1 bH x2 bI y0 bz y1 bA y2 bC r0 au r1 az r2 aJ;obtain⟨Hx,x0,bG,x1,bH,x2,bI⟩:=bg Hx ag;obtain⟨Hy,y0,bz,y1,bA,y2,bC⟩:=bg Hy ag;obtain⟨Hr,r0,au,r1,az,r2,aJ⟩:=bg Hr ag;replace Hb:=aF Hb ag;clear ag;refine hK _ _ (λ_=>⟨x0,x1,x2,y0,y1,y2⟩) ?_;clear hK K
   refine aW rfl rfl (λK hK=>?_);go_simp;with_reducible refine(G3.out _).mono ?_
   rintro e qG ⟨rfl,hq⟩;have ag:Bw jU qG:=by first|exact hq|exact bo hq
   clear x0 bG x1 bH x2 bI y0 bz y1 bA y2 bC r0 au r1 az r2 aJ;obtain⟨Hx,x0,bG,x1,bH,x2,bI⟩:=bg Hx ag;obtain⟨Hy,y0,bz,y1,bA,y2,bC⟩:=bg Hy ag;obtain⟨Hr,r0,au,r1,az,r2,aJ⟩:=bg Hr ag;replace Hb:=aF Hb ag;clear ag;refine hK _ _ (λ_=>⟨x0,x1,x2,y0,y1,y2⟩) ?_;clear hK K
   refine aW rfl rfl (λK hK=>?_);go_simp;refine hK _ _ (λh=>absurd h zd) ?_;clear hK K
   clear x0 bG x1 bH x2 bI y0 bz y1 bA y2 bC r0 au r1 az r2 aJ;refine cn (cm qG (w.heap.size+1+1) 0 [ar (aI (dN S)),ai (nt (dN S).natAbs),ah (dE S)]) cC ?_;intro vM hs;replace Hx:=kS Hx hs zo;replace Hy:=kS Hy hs zo;replace Hr:=cX Hr hs;obtain⟨x0,bG,x1,bH,x2,bI⟩:=Hx.out.g3;obtain⟨y0,bz,y1,bA,y2,bC⟩:=Hy.out.g3;obtain⟨r0,au,r1,az,r2,aJ⟩:=Hr.out.g3;replace Hb:=bS Hb hs ZS;clear hs;simp only[bD];go_wp2;exact bodyPost_ret (v:=cP S) (by simp[results,Tryz.results94,go_sem,r0,r1,r2]) rfl ⟨rfl,di⟩
abbrev sP (B:Nat)(x:Raw):Prop:=gB x/\Sm B (aM x)
theorem sP.mono {B B':Nat}{x:Raw}(h:sP B x)(hb:B<=B'):sP B' x:=⟨h.1,h.2.mono hb⟩
theorem sP.canon {B:Nat}{d:Dyadic}(h:Sm B d)(hB:B<=16384):sP B (canon d):=⟨h.aBj hB,by rw[cN];exact h⟩
theorem sP.form {B:Nat}{r:List Raw}(h:∀x∈r,sP B x)(hB:B<=16384):∀x∈Gj r,sP B x:=λy hy=>by obtain⟨x,hx,rfl⟩:=List.mem_map.1 hy;exact sP.canon (h x hx).2 hB
end Go.Proofs.YtnjfebkelecgaaaGreatDoor
