/- Package ogeeref04: Make. -/
import Derived.Test.YtbkopgdpcijfbaaGreatDoorZ7
import Derived.Test.YtbkopgdpcijfbaaGreatDoorZ19
import Derived.Deep.RegionWith
import Derived.Test.YtbkopgdpcijfbaaGreatDoorZ10
import Derived.Test.YtbkopgdpcijfbaaGreatDoorZ13
import Derived.Test.YtbkopgdpcijfbaaGreatDoorZ23
import Derived.Test.YtbkopgdpcijfbaaGreatDoorZ12
set_option linter.all false
set_option maxRecDepth 100000
set_option maxHeartbeats 16000000
namespace Go.Proofs.YtbkopgdpcijfbaaGreatDoor
open Go.RowKit
attribute [local go_sem ↓] Go.wp_at_zero Go.wp_at_succ
def apB (M:List UInt8)(c:UInt8):(bs (M++[c])).extract 0 M.length=bs M:=by apply ByteArray.ext;unfold bs;rw[ByteArray.data_extract];simp
def azt (M:List UInt8)(c:UInt8)(i:Int)(hi:i=M.length)(W:World):
 (Instr.sliceAt 9 (ah (M++[c])) none (some (af i)) none).run Tryz.prog W=.ok (ah M) W:=by
 subst hi;have h:=run_slice_string_h (P:=Tryz.prog) W 9 (bs (M++[c])) Tryz.underlying9 .i64 M.length zo (by rw[jB];simp<;>omega);simp only[Int.toNat_natCast,apB M c]at h;simpa[Instr.sliceAt,run_underlying Tryz.underlying9]using h
def apR (s:Bool)(n:Nat)(e:Int)(h:n%2=1):canon (au (s,nt n,e))=(s,nt n,e):=by
 have h0:iv s (nt n)≠0:=by rw[vB];split<;>omega
 obtain⟨h1,h2⟩:=Tt s (nt n) e h0;have ht:tz n=0:=by have:=ajz 0 (n/2);rw[show 2^0* (2* (n/2)+1)=n by omega]at this;exact this
 rw[jP,ht]at h1 h2;unfold canon;rw[h1,h2];have e1:iv s (nt n)/2^0=iv s (nt n):=by simp
 rw[e1,ag5,wQ,jP];have e3:(nt n).isEmpty=false:=by
  have:=Pb (n:=n) zo;cases h:nt n with
  |nil=>exact absurd h this
  |cons a b=>rfl
 rw[e3];simp
def arz (s:Bool)(l:List UInt8)(n k:Nat)(e:Int)(h:n*2^k=nv l):au (s,nt n,e+k)=au (s,l,e):=by
 unfold au;have e1:iv s l=iv s (nt n) *2^k:=by
  rw[vB];unfold iv;rw[<-h];split
  . rw[Int.neg_mul];simp
  . simp
 simp only[e1];rw[<-mz (iv s (nt n)) k (-(e+k))];congr 1;omega
def aya {n k v b:Nat}(h:n*2^k=v)(h0:0<v)(hv:v<2^b):k<b/\0<n:=by
 have hn:0<n:=by
  rcases Nat.eq_zero_or_pos n with h1|h1
  . subst h1;simp at h;omega
  . exact h1
 refine⟨?_,hn⟩;rcases Nat.lt_or_ge k b with h1|h1
 . exact h1
 . have h2:=Nat.pow_le_pow_right (show 0<2 by decide) h1;have h3:2^k<=n*2^k:=Nat.le_mul_of_pos_left _ hn;omega
def ayQ (w:World):Cv 47 #[af 2] w (.agg #[ag false,ah (nt 2)]):=PE 2 w zd
def ah4 {n:Nat}(h:0<n):∃M c,nt n=M++[c]/\M=nt (n/256)/\c.toNat=n%256:=⟨_,_,Kt h,rfl,MB n⟩
def ayO (s:Bool)(l:List UInt8)(e:Int)(w:World)(hl:l.length<=1048576)(h0:nv l=0):
 Cv 132 #[.agg #[ag s,ah l],af e] w (bT 0):=by
 have hf:=λW=>PD s l W zo;simp only[h0,AP,List.isEmpty_nil,Bool.not_true,Bool.and_false]at hf;have Hf:=aj hf;have UV:(bs []).toList.isEmpty=true:=by rw[vZ];rfl
 clear hf h0;obtain⟨W,cE,ae,ak⟩:=lA w 28 [ag s,ah l] 30 [ag false,.string ⟨#[]⟩,af 0];go_enter Tryz.func132,Tryz.ntmps132;go_wp2_with fail;refine aJ ae (Hf.out _) λw1 ae ak=>?_;go_wp2;have r0:w1.cell? ⟨w.heap.size+1,0,none⟩=some (ag false):=ae.2.2.1.out.cell 0;have r1:w1.cell? ⟨w.heap.size+1,1,none⟩=some (.string ⟨#[]⟩):=ae.2.2.1.out.cell 1;have r2:w1.cell? ⟨w.heap.size+1,2,none⟩=some (af 0):=ae.2.2.1.out.cell 2;refine bodyPost_ret (v:=.agg #[ag false,.string ⟨#[]⟩,af 0]) (by simp[results,Tryz.results132,go_sem,r0,r1,r2]) rfl ⟨rfl,?_⟩;(repeat first|exact ae.1.out| (refine Below.setCell ?_ (by have:=ae.1.out.size;first| (dsimp only;omega) | (show _<=_;omega) | (simp<;>omega)) _) |refine Below.drew ?_)
def ayN (s:Bool)(l:List UInt8)(e:Int)(D:Dyadic)(hD:au (s,l,e)=D)(w:World)(hl:l.length<=1048576)(he: -1099511627776<=e/\e<=1099511627776)(h0:0<nv l):
 Cv 132 #[.agg #[ag s,ah l],af e] w (bT D):=by
 have hf:=λW=>PD s l W zo;have e3:(nt (nv l)).isEmpty=false:=by
  have:=Pb h0;cases h:nt (nv l)with
  |nil=>exact absurd h this
  |cons a b=>rfl
 rw[e3]at hf;simp only[Bool.not_false,Bool.and_true]at hf;have hvb:=Fq l;obtain⟨v,hv⟩:=aB (nv l);rw[hv]at h0 hvb;simp only[hv]at hf;have hup:∀n k:Nat,n*2^k=v->au (s,nt n,e+k)=D:=λn k h=>by rw[<-hD];exact arz s l n k e (by rw[hv];exact h)
 obtain⟨Bn,hBn⟩:=aB (8*l.length);have hpb:∀n k:Nat,n*2^k=v->k<Bn/\0<n:=λn k h=>by rw[<-hBn];exact aya h h0 hvb
 have hBl:Bn<=8388608:=by omega
 obtain⟨Hf,Sb,bo⟩:=cw hf hup hpb;have aDZ:(bs (nt v)).toList.isEmpty=false:=by rw[vZ,<-hv];exact e3
 have afM:∀n k:Nat,n*2^k=v->(nt n).length<=1048576:=λn k h=>by refine Nat.le_trans (oz (Nat.lt_of_le_of_lt (Nat.le_mul_of_pos_right n (Nat.pow_pos (n:=k) (show 0<2 by decide))) ?_)) hl;rw[h,<-hv];exact jH l
 have aat:=aj afM;clear hf e3 hvb hup hpb hBn hD hv h0 afM;obtain⟨W,cE,ae,ak⟩:=lA w 28 [ag s,ah l] 30 [ag false,.string ⟨#[]⟩,af 0];go_enter Tryz.func132,Tryz.ntmps132;go_wp2_with fail;refine aJ ae (Hf.out _) λw1 ae ak=>?_;go_wp2_with fail;first|refine dA (aV w1 (w.heap.size) 0 [ag s,ah (nt v)]) aX ?_|refine dV (aV w1 (w.heap.size) 0 [ag s,ah (nt v)]) aX ?_
 intro w2 hs0;have ae:=bU hs0 ae;simp only[bV,List.set]at ae;have ak:=qC ae;skip
 have lm:=ae.2.1.out.lt;have lr:=ae.2.2.1.out.lt;go_loopw[1] (λx wr=>∃n k:Nat,n*2^k=v/\x=af (e+k)/\ar wr w.heap.size 28 [ag s,ah (nt n)]/\ar wr (w.heap.size+1) 30 [ag false,.string ⟨#[]⟩,af 0]/\Bw w wr) (λx _=>(e+Bn+100-intOf x).toNat);case atStart=>exact⟨v,0,by simp,by simp,ae.2.1.out,ae.2.2.1.out,ae.1.out⟩
 case round=>
  skip
  obtain⟨n,k,ym,rfl,hm,hr,hb⟩:=hrel;obtain⟨hk,hn⟩:=bo.out n k ym;obtain⟨M,c,hM,Nt,hc⟩:=ah4 hn;obtain⟨Hm,Hr,Hb,DJ,HM,Zg⟩:=gU hm hr hb ym hM Nt;have hnl:=aat.out n k ym;have wD:M.length+1<=1048576:=by rw[hM]at hnl;simpa using hnl
  have m1:wr.cell? ⟨w.heap.size,1,none⟩=some (ah (M++[c])):=by rw[<-hM];exact hm.cell 1
  have Nc:wr.frozen? ⟨w.heap.size,1,none⟩=false:=hm.free 1;have hsz:(bs (M++[c])).size=M.length+1:=by rw[jB];simp
  have iJ:=Aw (M++[c]) (M.length:Int) M.length zm rfl;have Jq:(M++[c])[M.length]'zm=c:=by simp
  rw[Jq]at iJ;obtain⟨C,hC⟩:=aB c.toNat;rw[hC]at iJ hc;have hsl:=azt M c (M.length:Int) rfl;have Hc:=aj hc;clear hm hr hb ym hM Nt Jq hc hnl;by_cases En:C=0
  . subst En;go_wp2;go_roundw;case rel=>
     refine⟨n/256,k+8,?_,by go_num,?_,?_,?_⟩
     . have h1:=Hc.out;have h2:=DJ.out;rw[<-h2,Nat.pow_add,show(2:Nat)^8=256 by rfl,Nat.mul_comm (2^k),<-Nat.mul_assoc];congr 1;omega
     . rw[<-Zg.out];exact Hm.out.set 1 _
     . exact Hr.out.aGq ⟨w.heap.size,1,none⟩ zp _
     . exact Hb.out.setCell zp _
    case measure=>exact bC
  . have hC1:((C:Int)==0)=false:=by simp;omega
    go_wp2_with fail;clear m1 Nc hsz iJ hsl wD hC1 hC En;go_loopw[1] (λx wr=>∃n k:Nat,n*2^k=v/\x=af (e+k)/\ar wr w.heap.size 28 [ag s,ah (nt n)]/\ar wr (w.heap.size+1) 30 [ag false,.string ⟨#[]⟩,af 0]/\Bw w wr) (λx _=>(e+Bn+100-intOf x).toNat);case atStart=>exact⟨n,k,DJ.out,rfl,Hm.out,Hr.out,Hb.out⟩
    case round=>
     clear Hm Hr Hb DJ HM Zg Hc hk hn;obtain⟨n,k,ym,rfl,hm,hr,hb⟩:=hrel;obtain⟨hk,hn⟩:=bo.out n k ym;obtain⟨M,c,hM,Nt,hc⟩:=ah4 hn;obtain⟨Hr,DJ,HM⟩:=cw hr ym hM;have hnl:=aat.out n k ym;have wD:M.length+1<=1048576:=by rw[hM]at hnl;simpa using hnl
     have Hm:Hid (ar wr w.heap.size 28 [ag s,ah (M++[c])]):=by rw[hM]at hm;exact hm
     have m0:wr.cell? ⟨w.heap.size,0,none⟩=some (ag s):=Hm.out.cell 0;have m1:wr.cell? ⟨w.heap.size,1,none⟩=some (ah (M++[c])):=Hm.out.cell 1;have hsz:(bs (M++[c])).size=M.length+1:=by rw[jB];simp
     have iJ:=Aw (M++[c]) (M.length:Int) M.length zm rfl;have Jq:(M++[c])[M.length]'zm=c:=by simp
     rw[Jq]at iJ;obtain⟨C,hC⟩:=aB c.toNat;rw[hC]at iJ hc;have aDB:=hb.size;have ft:=aj hb;clear hm hr hb ym Nt Jq hC;by_cases hev:n%2=0
     . obtain⟨n',rfl⟩:∃n',n=2*n':=⟨n/2,by omega⟩;have agd:(C:Int)%2=0:=by omega
       have hh:=λW=>ayK s n' W zo (Nat.le_trans hnl zd);rw[hM]at hh;have Hh:=aj hh;have Hb:=hbz wr;clear hh hM hnl hc;go_wp2_with fail;have lmm:=Hm.out.lt;have lrr:=Hr.out.lt;go_region_with (first| (go_at_call 47;refine(ayQ _).mono ?_;rintro e3 w3 ⟨rfl,hb3⟩;replace hb3:=cu hb3;have Bt:=aj (Hm.out.below hb3);have m03:w3.cell? ⟨w.heap.size,0,none⟩=some (ag s):=Bt.out.cell 0;have OT:w3.cell? ⟨w.heap.size,1,none⟩=some (ah (M++[c])):=Bt.out.cell 1) | (go_at_call 205;refine(Hh.out _).mono ?_;rintro e4 w4 ⟨rfl,hb4⟩;have DF:=aj (Bt.out.below hb4);have m04:w4.cell? ⟨w.heap.size,0,none⟩=some (ag s):=DF.out.cell 0;have OU:w4.cell? ⟨w.heap.size,1,none⟩=some (ah (M++[c])):=DF.out.cell 1;have ar6:=DF.out.free 0;have ar7:=DF.out.free 1))
       all_goals
        have HBm:=aj (aI (aI ft.out hb3) hb4)
        have Hm4:=aj ((DF.out.set 0 (ag s)).set 1 (ah (nt n')))
        have DL:=aj ((((Hr.out.below hb3).below hb4).aGq ⟨w.heap.size,0,none⟩ zp (ag s)).aGq ⟨w.heap.size,1,none⟩ zp (ah (nt n')))
        clear m0 m1 m03 OT m04 OU ar6 ar7 agd iJ hb3 hb4 Bt DF
        go_wp2
        go_roundw
        case rel=>
         refine⟨n',k+1,?_,by go_num,Hm4.out,DL.out,?_⟩
         . rw[<-DJ.out,Nat.pow_succ,Nat.mul_comm (2^k) 2,<-Nat.mul_assoc,Nat.mul_comm n' 2]
         . exact(HBm.out.setCell zp _).setCell zp _
        case measure=>exact bC
     . have agd:((C:Int)%2==0)=false:=by simp;omega
       have hod:n%2=1:=by omega
       have hfin:=apR s n (e+k) hod;rw[Sb.out n k DJ.out,HM.out]at hfin;have uv:=aj hfin;have r0:wr.cell? ⟨w.heap.size+1,0,none⟩=some (ag false):=Hr.out.cell 0;have r1:wr.cell? ⟨w.heap.size+1,1,none⟩=some (.string ⟨#[]⟩):=Hr.out.cell 1;have r2:wr.cell? ⟨w.heap.size+1,2,none⟩=some (af 0):=Hr.out.cell 2;have aO:=Hr.out.free 0;have aQ:=Hr.out.free 1;have dQ:=Hr.out.free 2;clear hM hnl hc hod hfin hev;go_wp2;refine bodyPost_ret (v:=.agg #[ag s,ah (M++[c]),af (e+k)]) (by simp[results,Tryz.results132,go_sem,r0,r1,r2]) rfl ⟨?_,?_⟩
       . have h1:=uv.out;unfold canon at h1;simp only[Prod.mk.injEq]at h1;rw[<-h1.1,<-h1.2.1,<-h1.2.2]
       . exact(((ft.out.setCell zp _).setCell zp _).setCell zp _)
def ayM (s:Bool)(l:List UInt8)(e:Int)(D:Dyadic)(hD:au (s,l,e)=D)(w:World)(hl:l.length<=1048576)(he: -1099511627776<=e/\e<=1099511627776):
 Cv 132 #[.agg #[ag s,ah l],af e] w (bT D):=by
 rcases Nat.eq_zero_or_pos (nv l)with h0|h0
 . have:D=0:=by rw[<-hD];exact Tu s l e (by unfold iv;rw[h0];split<;>rfl)
   rw[this];exact ayO s l e w hl h0
 . exact ayN s l e D hD w hl he h0
end Go.Proofs.YtbkopgdpcijfbaaGreatDoor
namespace Go.Proofs.YtbkopgdpcijfbaaGreatDoor
end Go.Proofs.YtbkopgdpcijfbaaGreatDoor
namespace Go.Proofs.YtbkopgdpcijfbaaGreatDoor
open Go.RowKit
def aqS {B:Nat}{c:Dyadic}(h:Sm B c)(r x:List Nat):Sm B (c*delta r x):=by
 unfold delta;split
 . rw[Dyadic.mul_one];exact h
 . rw[Dyadic.mul_zero];exact Sm.zero B
def aqs {B:Nat}(r:List Nat)(ps:iw)(h:∀p∈ps,Sm B p.2):Sm (B+ps.length) (uN ps r):=by
 unfold uN;induction ps with
 |nil=>exact Sm.zero _
 |cons p ps ih=>have h1:=ih (λq hq=>h q (by simp[hq]));have h2:=aqS (h p zm) r p.1;have h3:=Sm.add (h2.mono (show B<=B+ps.length by omega)) h1;rw[List.length_cons,<-Nat.add_assoc];exact h3
def ab4 {B C:Nat}(R:List (List Nat))(ps:iw)(h:∀p∈ps,Sm B p.2)(hC:B+ps.length<=C):∀d∈kN R ps,Sm C d:=by intro d hd;unfold kN at hd;rw[List.mem_map]at hd;obtain⟨r,_,rfl⟩:=hd;exact(aqs r ps h).mono hC
def aef {B V D i j:Nat}{cs:List Dyadic}(h:∀c∈cs,Sm B c)(hD:D<=20)(hc:cnt V D<=512)(hij:i≠j):∀d∈rB V D i j cs,Sm (B+10794) d:=by
 have ia:(bz (V+1) D).length=cnt V D:=pQ V D;have hm:∀x∈bz (V+1) D,x.sum=D:=λx hx=>((sO V D x).1 hx).2;unfold rB;generalize bz (V+1) D=R at*;have e:uY i j R cs=nz (λk=>rC i j (R.getD k []) (cs.getD k 0)) R.length:=rfl;have hs:∀k,k<R.length->(R.getD k []).sum=D:=λk hk=>by
  have:R.getD k []=R[k]:=by simp[hk]
  rw[this];exact hm _ (List.getElem_mem hk)
 have hl:=Px (λk=>rC i j (R.getD k []) (cs.getD k 0)) 21 R.length R.length (Nat.le_refl _) (λk hk=>by
  have h1:=hs k hk;have h2:=xW (R.getD k []) i
  rw[aeh];omega)
 refine ab4 (B:=B+42) R _ ?_ ?_
 . rw[e];refine KG _ R.length R.length (Nat.le_refl _) (λk hk=>?_);rw[aeg];exact UE (uT h k) (by rw[hs k hk];exact hD) hij (Nat.le_refl _) _ (Nat.le_refl _)
 . rw[e];omega
def akb {B:Nat}{cs ds:List Dyadic}(h:∀c∈cs,Sm B c)(h':∀c∈ds,Sm B c):∀c∈List.zipWith (·+·) cs ds,Sm (B+1) c:=by intro c hc;rw[List.mem_iff_getElem]at hc;obtain⟨k,hk,rfl⟩:=hc;rw[List.length_zipWith]at hk;rw[List.getElem_zipWith];exact Sm.add (h _ (List.getElem_mem zo)) (h' _ (List.getElem_mem zo))
def aee (V D i j:Nat)(cs:List Dyadic):(rB V D i j cs).length=cnt V D:=by unfold rB;rw[ab3,pQ]
def apQ {B:Nat}{cs:List Dyadic}(h:∀c∈cs,Sm B c)(hB:B<=268435456):∀x∈cs.map canon,Fit B x:=by intro x hx;rw[List.mem_map]at hx;obtain⟨c,hc,rfl⟩:=hx;exact(h c hc).fit hB
def azI (V D:Nat)(v d:Int)(hv:(V:Int)=v)(hd:(D:Int)=d)(a:Option Addr)(cap N:Nat)(aS:List Raw)(hN:aS.length=N)(cs:List Dyadic)(hcs:aS.map au=cs)(I J:Nat)(i j:Int)(hI:(I:Int)=i)(hJ:(J:Int)=j)(B:Nat)(w:World)(hc:wn v d N=0)(hi:I<=V)(hj:J<=V)(hij:I≠J)
 (hfit:∀x∈aS,Fit B x) (sw:B<=1000000) (ha:At w a (aS.flatMap bu)) (hT:aC w):
 Cl 18 #[.agg #[af v,af d,.slice a N cap],af i,af j] w λe w'=>∃r s,
  e=.returned (.tuple #[.agg #[af v,af d,.slice (some ⟨r,0,none⟩) N N],.agg #[af v,af d,.slice (some ⟨s,0,none⟩) N N],af 0])/\
   At w' (some ⟨r,0,none⟩) (dC (rB V D I J cs))/\At w' (some ⟨s,0,none⟩) (dC (rB V D J I cs))/\Bw w w':=by
 subst hv hd hN hcs hI hJ;exact(azH V D a cap aS I J B w hc hi hj hij hfit sw ha hT).mono (λe w' ⟨r,s,he,hr,hs,_,_,hb⟩=>⟨r,s,he,At.aGr hr,At.aGr hs,hb⟩)
def azG (V D:Nat)(v d:Int)(hv:(V:Int)=v)(hd:(D:Int)=d)(a:Option Addr)(cap N:Nat)(cs:List Dyadic)(hN:cs.length=N)(I J:Nat)(i j:Int)(hI:(I:Int)=i)(hJ:(J:Int)=j)(B:Nat)(w:World)(hc:wn v d N=0)(hi:I<=V)(hj:J<=V)(hij:I≠J)
 (hs:∀c∈cs,Sm B c) (sw:B<=1000000) (ha:At w a (dC cs)) (hT:aC w):
 Cl 18 #[.agg #[af v,af d,.slice a N cap],af i,af j] w λe w'=>∃r s,
  e=.returned (.tuple #[.agg #[af v,af d,.slice (some ⟨r,0,none⟩) N N],.agg #[af v,af d,.slice (some ⟨s,0,none⟩) N N],af 0])/\
   At w' (some ⟨r,0,none⟩) (dC (rB V D I J cs))/\At w' (some ⟨s,0,none⟩) (dC (rB V D J I cs))/\Bw w w':=
 azI V D v d hv hd a cap N (cs.map canon) (by rw[List.length_map];exact hN) cs (ary cs) I J i j hI hJ B w hc hi hj hij (apQ hs zo) sw (by rw[<-sf];exact ha) hT
end Go.Proofs.YtbkopgdpcijfbaaGreatDoor
namespace Go.Proofs.YtbkopgdpcijfbaaGreatDoor
def vK (V D:Nat)(cs l:List Dyadic):List Dyadic:=kN (bz (V+1) (D+1)) (KT (bz (V+1) D) cs λk=>l.getD k 0)
def aAt (V D:Nat)(cs l:List Dyadic):(vK V D cs l).length=cnt V (D+1):=by unfold vK;rw[ab3,pQ]
def aAw (x:List Nat)(c:Dyadic)(l:Nat->Dyadic):(xj x c l).length=x.length:=by simp[xj]
def aAu {A B V D:Nat}{cs l:List Dyadic}(h:∀c∈cs,Sm A c)(h':∀c∈l,Sm B c)(hV:V<=8)(hc:cnt V D<=512):∀d∈vK V D cs l,Sm (A+B+4608) d:=by
 have ia:(bz (V+1) D).length=cnt V D:=pQ V D;have hm:∀x∈bz (V+1) D,x.length=V+1:=λx hx=>((sO V D x).1 hx).1;unfold vK;generalize bz (V+1) D=R at*;have e:KT R cs (λk=>l.getD k 0)=nz (λk=>xj (R.getD k []) (cs.getD k 0) λk=>l.getD k 0) R.length:=rfl;have hs:∀k,k<R.length->(R.getD k []).length=V+1:=λk hk=>by
  have:R.getD k []=R[k]:=by simp[hk]
  rw[this];exact hm _ (List.getElem_mem hk)
 have hl:=Px (λk=>xj (R.getD k []) (cs.getD k 0) λk=>l.getD k 0) 9 R.length R.length (Nat.le_refl _) (λk hk=>by rw[aAw,hs k hk];omega)
 refine ab4 (B:=A+B) _ _ ?_ ?_
 . rw[e];refine KG _ R.length R.length (Nat.le_refl _) (λk hk p hp=>?_);unfold xj at hp;rw[List.mem_map]at hp;obtain⟨t,_,rfl⟩:=hp;exact Sm.mul (uT h k) (uT h' t)
 . rw[e];omega
def iT (V:Nat):Nat->List Dyadic->List (List Dyadic)->List Dyadic
 |_,cs,[]=>cs
 |D,cs,l::ls=>iT V (D+1) (vK V D cs l) ls
def asF (V D:Nat)(cs:List Dyadic)(ls ms:List (List Dyadic)):iT V D cs (ls++ms)=iT V (D+ls.length) (iT V D cs ls) ms:=by
 induction ls generalizing D cs with
 |nil=>rfl
 |cons l ls ih=>rw[List.cons_append,iT,iT,ih,List.length_cons];rw[show D+1+ls.length=D+(ls.length+1)by omega]
def ac9 (V D:Nat)(cs:List Dyadic)(ls:List (List Dyadic))(l:List Dyadic):iT V D cs (ls++[l])=vK V (D+ls.length) (iT V D cs ls) l:=by rw[asF];rfl
def ac7 (V D:Nat)(cs:List Dyadic)(ls:List (List Dyadic))(h:cs.length=cnt V D):(iT V D cs ls).length=cnt V (D+ls.length):=by
 induction ls generalizing D cs with
 |nil=>exact h
 |cons l ls ih=>rw[iT,ih _ _ (aAt V D cs l),List.length_cons];rw[show D+1+ls.length=D+(ls.length+1)by omega]
def ac8 {A B V D:Nat}{cs:List Dyadic}(ls:List (List Dyadic))(h:∀c∈cs,Sm A c)(h':∀l∈ls,∀c∈l,Sm B c)(hV:V<=8)(hc:∀d,d<D+ls.length->cnt V d<=512):∀d∈iT V D cs ls,Sm (A+ls.length* (B+4608)) d:=by
 induction ls generalizing D cs A with
 |nil=>simpa[iT]using h
 |cons l ls ih=>have h1:=aAu (V:=V) (D:=D) h (h' l zm) hV (hc D zm);have h2:=ih (D:=D+1) h1 (λm hm=>h' m (by simp[hm])) (λd hd=>hc d (by rw[List.length_cons];omega));intro d hd;refine(h2 d hd).mono ?_;rw[List.length_cons,Nat.succ_mul];omega
def oY (S:List (List Dyadic))(k:Nat):List Dyadic:=S.map λr=>r.getD k 0
def nC (S:List (List Dyadic))(es:List Nat)(n:Nat):List (List Dyadic):=(List.range n).flatMap λk=>List.replicate (es.getD k 0) (oY S k)
def ue (V:Nat):List Dyadic:=List.replicate (V+1) 1
def tC (V D:Nat)(S:List (List Dyadic))(c:Dyadic)(es:List Nat):List Dyadic:=iT V 0 [c] (nC S es es.length++List.replicate (D-es.sum) (ue V))
def pp (V D:Nat)(S:List (List Dyadic))(ts:List (Dyadic×List Nat)):List Dyadic:=ts.foldl (λs t=>List.zipWith (·+·) s (tC V D S t.1 t.2)) (List.replicate (cnt V D) 0)
def XF (S:List (List Dyadic))(es:List Nat)(n:Nat):nC S es (n+1)=nC S es n++List.replicate (es.getD n 0) (oY S n):=by unfold nC;rw[List.range_succ,List.flatMap_append];simp
def XE (S:List (List Dyadic))(es:List Nat)(n:Nat)(h:n<=es.length):(nC S es n).length=(es.take n).sum:=by
 induction n with
 |zero=>rfl
 | succ n ih=>
   rw[XF,List.length_append,ih zo,List.take_succ_eq_append_getElem zo,List.sum_append,List.length_replicate];have:es.getD n 0=es[n]:=by simp[show n<es.length by omega]
   rw[this];simp
def XG (V D:Nat)(S:List (List Dyadic))(es:List Nat)(h:es.sum<=D):(nC S es es.length++List.replicate (D-es.sum) (ue V)).length=D:=by rw[List.length_append,XE _ _ _ (Nat.le_refl _),List.take_length,List.length_replicate];omega
def azo {P:List Dyadic->Prop}(V D:Nat)(S:List (List Dyadic))(es:List Nat)(h1:∀k,k<es.length->P (oY S k))(h2:P (ue V)):∀l∈nC S es es.length++List.replicate (D-es.sum) (ue V),P l:=by
 intro l hl;rw[List.mem_append]at hl;rcases hl with hl|hl
 . unfold nC at hl;rw[List.mem_flatMap]at hl;obtain⟨k,hk,hl⟩:=hl;rw[List.mem_range]at hk;rw[(List.mem_replicate.1 hl).2];exact h1 k hk
 . rw[(List.mem_replicate.1 hl).2];exact h2
def acX (V D:Nat)(S:List (List Dyadic))(c:Dyadic)(es:List Nat)(h:es.sum<=D):(tC V D S c es).length=cnt V D:=by unfold tC;rw[ac7 _ _ _ _ (by rw[zM];rfl),XG _ _ _ _ h,Nat.zero_add]
def acY {A B V D:Nat}{S:List (List Dyadic)}{c:Dyadic}{es:List Nat}(hc:Sm A c)(hS:∀r∈S,∀d∈r,Sm B d)(hB:1<=B)(hV:V<=8)(h:es.sum<=D)(h5:∀d,d<D->cnt V d<=512):∀d∈tC V D S c es,Sm (A+D* (B+4608)) d:=by
 have hg:=ac8 (A:=A) (B:=B) (V:=V) (D:=0) (cs:=[c]) (nC S es es.length++List.replicate (D-es.sum) (ue V)) (by simpa using hc) (azo (P:=λl=>∀c∈l,Sm B c) V D S es (λk _=>by
  intro c hc;unfold oY at hc;obtain⟨r,hr,rfl⟩:=List.mem_map.1 hc
  exact uT (hS r hr) k) (by
  intro c hc;rw[(List.mem_replicate.1 hc).2]
  exact Sm.mono (A:=1) ⟨2,by decide,by decide⟩ hB)) hV (by rw[XG _ _ _ _ h,Nat.zero_add];exact h5)
 rw[XG _ _ _ _ h]at hg;exact hg
end Go.Proofs.YtbkopgdpcijfbaaGreatDoor
