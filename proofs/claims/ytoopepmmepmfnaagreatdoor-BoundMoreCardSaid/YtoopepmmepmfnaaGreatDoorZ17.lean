/- Package ogeeref04: Make. -/
import Derived.Test.YtoopepmmepmfnaaGreatDoorZ15
import Derived.Deep.RegionWith
import Derived.Test.YtoopepmmepmfnaaGreatDoorZ9
import Derived.Test.YtoopepmmepmfnaaGreatDoorZ11
set_option linter.unusedVariables false
set_option linter.unusedSimpArgs false
set_option maxRecDepth 100000
set_option maxHeartbeats 16000000
namespace Go.Proofs.YtoopepmmepmfnaaGreatDoor
open Go.RowKit
attribute [local go_sem ↓] Go.wp_at_zero Go.wp_at_succ
theorem adA (M:List UInt8)(c:UInt8):(bs (M++[c])).extract 0 M.length=bs M:=by apply ByteArray.ext;unfold bs;rw[ByteArray.data_extract];simp
theorem akF (M:List UInt8)(c:UInt8)(i:Int)(hi:i=M.length)(W:World):
 (Instr.sliceAt 9 (.string (bs (M++[c]))) none (some (.int .i64 i)) none).run Tryz.prog W=.ok (.string (bs M)) W:=by
 subst hi;have h:=run_slice_string_h (P:=Tryz.prog) W 9 (bs (M++[c])) Tryz.underlying9 .i64 M.length zo (by rw[lV];simp<;>omega);simp only[Int.toNat_natCast,adA M c]at h;simpa[Instr.sliceAt,run_underlying Tryz.underlying9]using h
theorem adM (s:Bool)(n:Nat)(e:Int)(h:n%2=1):canon (ar (s,nt n,e))=(s,nt n,e):=by
 have h0:iv s (nt n)≠0:=by rw[su];split<;>omega
 obtain⟨h1,h2⟩:=Ke s (nt n) e h0;have ht:tz n=0:=by have:=Ym 0 (n/2);rw[show 2^0* (2* (n/2)+1)=n by omega]at this;exact this
 rw[iG,ht]at h1 h2;unfold canon;rw[h1,h2];have e1:iv s (nt n)/2^0=iv s (nt n):=by simp
 rw[e1,VQ,qo,iG];have e3:(nt n).isEmpty=false:=by
  have:=Fz (n:=n) zo;cases h:nt n with
  |nil=>exact absurd h this
  |cons a b=>rfl
 rw[e3];simp
theorem ae0 (s:Bool)(l:List UInt8)(n k:Nat)(e:Int)(h:n*2^k=nv l):ar (s,nt n,e+k)=ar (s,l,e):=by
 unfold ar;have e1:iv s l=iv s (nt n) *2^k:=by
  rw[su];unfold iv;rw[<-h];split
  . rw[Int.neg_mul];simp
  . simp
 simp only[e1];rw[<-mG (iv s (nt n)) k (-(e+k))];congr 1;omega
theorem ajS {n k v b:Nat}(h:n*2^k=v)(h0:0<v)(hv:v<2^b):k<b/\0<n:=by
 have hn:0<n:=by
  rcases Nat.eq_zero_or_pos n with h1|h1
  . subst h1;simp at h;omega
  . exact h1
 refine⟨?_,hn⟩;rcases Nat.lt_or_ge k b with h1|h1
 . exact h1
 . have h2:=Nat.pow_le_pow_right (show 0<2 by decide) h1;have h3:2^k<=n*2^k:=Nat.le_mul_of_pos_left _ hn;omega
theorem akd (w:World):Calls Tryz.prog 31 #[.int .i64 2] w λe w'=>e=.returned (.agg #[.bool false,.string (bs (nt 2))])/\Bw w w':=FQ 2 w zd
theorem WM {n:Nat}(h:0<n):∃M c,nt n=M++[c]/\M=nt (n/256)/\c.toNat=n%256:=⟨_,_,BU h,rfl,Dt n⟩
theorem akb (s:Bool)(l:List UInt8)(e:Int)(w:World)(hl:l.length<=1048576)(h0:nv l=0):
 Calls Tryz.prog 71 #[.agg #[.bool s,.string (bs l)],.int .i64 e] w λr w'=>r=.returned (bQ 0)/\Bw w w':=by
 have hf:=λW=>FO s l W zo;simp only[h0,wA,List.isEmpty_nil,Bool.not_true,Bool.and_false]at hf;have Hf:=af hf;have hem:(bs []).toList.isEmpty=true:=by rw[rG];rfl
 clear hf h0;obtain⟨W,cL,Hb,Hm,Hr⟩:=jF w 32 [.bool s,.string (bs l)] 39 [.bool false,.string ⟨#[]⟩,.int .i64 0];obtain⟨m0,tJ,m1,pS⟩:=Hm.out.g2;obtain⟨r0,ah,r1,ai,r2,aB⟩:=Hr.out.g3;go_enter Tryz.func71,Tryz.ntmps71;go_wp2_with fail;refine(Hf.out _).mono ?_;rintro e w1 ⟨rfl,ae⟩;clear m0 tJ m1 pS r0 ah r1 ai r2 aB;replace Hm:=kB Hm ae;replace Hr:=kB Hr ae;obtain⟨m0,tJ,m1,pS⟩:=Hm.out.g2;obtain⟨r0,ah,r1,ai,r2,aB⟩:=Hr.out.g3;replace Hb:=ak Hb ae;clear ae;go_wp2;refine bodyPost_ret (v:=.agg #[.bool false,.string ⟨#[]⟩,.int .i64 0]) (by simp[results,Tryz.results71,go_sem,r0,r1,r2]) rfl ⟨rfl,?_⟩;(repeat first|exact Hb.out| (refine Below.setCell ?_ (by have:=Hb.out.size;first| (dsimp only;omega) | (show _<=_;omega) | (simp<;>omega)) _) |refine Below.drew ?_)
theorem aka (s:Bool)(l:List UInt8)(e:Int)(D:Dyadic)(hD:ar (s,l,e)=D)(w:World)(hl:l.length<=1048576)(he: -1099511627776<=e/\e<=1099511627776)(h0:0<nv l):
 Calls Tryz.prog 71 #[.agg #[.bool s,.string (bs l)],.int .i64 e] w λr w'=>r=.returned (bQ D)/\Bw w w':=by
 have hf:=λW=>FO s l W zo;have e3:(nt (nv l)).isEmpty=false:=by
  have:=Fz h0;cases h:nt (nv l)with
  |nil=>exact absurd h this
  |cons a b=>rfl
 rw[e3]at hf;simp only[Bool.not_false,Bool.and_true]at hf;have hvb:=yu l;obtain⟨v,hv⟩:=az (nv l);rw[hv]at h0 hvb;simp only[hv]at hf;have hup:∀n k:Nat,n*2^k=v->ar (s,nt n,e+k)=D:=λn k h=>by rw[<-hD];exact ae0 s l n k e (by rw[hv];exact h)
 obtain⟨Bn,Sa⟩:=az (8*l.length);have hpb:∀n k:Nat,n*2^k=v->k<Bn/\0<n:=λn k h=>by rw[<-Sa];exact ajS h h0 hvb
 have hBl:Bn<=8388608:=by omega
 obtain⟨Hf,Jc,aR⟩:=cP hf hup hpb;have anR:(bs (nt v)).toList.isEmpty=false:=by rw[rG,<-hv];exact e3
 have UF:∀n k:Nat,n*2^k=v->(nt n).length<=1048576:=λn k h=>by refine Nat.le_trans (lL (Nat.lt_of_le_of_lt (Nat.le_mul_of_pos_right n (Nat.pow_pos (n:=k) (show 0<2 by decide))) ?_)) hl;rw[h,<-hv];exact iF l
 have PO:=af UF;clear hf e3 hvb hup hpb Sa hD hv h0 UF;obtain⟨W,cL,Hb,Hm,Hr⟩:=jF w 32 [.bool s,.string (bs l)] 39 [.bool false,.string ⟨#[]⟩,.int .i64 0];obtain⟨m0,tJ,m1,pS⟩:=Hm.out.g2;obtain⟨r0,ah,r1,ai,r2,aB⟩:=Hr.out.g3;go_enter Tryz.func71,Tryz.ntmps71;go_wp2_with fail;refine(Hf.out _).mono ?_;rintro e w1 ⟨rfl,ae⟩;clear m0 tJ m1 pS r0 ah r1 ai r2 aB;replace Hm:=kB Hm ae;replace Hr:=kB Hr ae;obtain⟨m0,tJ,m1,pS⟩:=Hm.out.g2;obtain⟨r0,ah,r1,ai,r2,aB⟩:=Hr.out.g3;replace Hb:=ak Hb ae;clear ae;go_wp2_with fail;clear m0 tJ m1 pS r0 ah r1 ai r2 aB;first|refine bB (bf w1 (w.heap.size) 0 [.bool s,.string (bs (nt v))]) bI ?_|refine bz (bf w1 (w.heap.size) 0 [.bool s,.string (bs (nt v))]) bI ?_
 intro w2 hs;replace Hm:=cp Hm hs;replace Hr:=kS Hr hs zo;obtain⟨m0,tJ,m1,pS⟩:=Hm.out.g2;obtain⟨r0,ah,r1,ai,r2,aB⟩:=Hr.out.g3;replace Hb:=bS Hb hs ZS;clear hs m0 m1 tJ pS r0 r1 r2 ah ai aB;have lm:=Hm.out.lt;have lr:=Hr.out.lt;go_loopw[1] (λx wr=>∃n k:Nat,n*2^k=v/\x=.int .i64 (e+k)/\ag wr w.heap.size 32 [.bool s,.string (bs (nt n))]/\ag wr (w.heap.size+1) 39 [.bool false,.string ⟨#[]⟩,.int .i64 0]/\Bw w wr) (λx _=>(e+Bn+100-intOf x).toNat);case atStart=>exact⟨v,0,by simp,by simp,Hm.out,Hr.out,Hb.out⟩
 case round=>
  clear Hm Hr Hb;obtain⟨n,k,rV,rfl,hm,hr,hb⟩:=hrel;obtain⟨hk,hn⟩:=aR.out n k rV;obtain⟨M,c,hM,Eh,hc⟩:=WM hn;obtain⟨Hm,Hr,Hb,xn,HM,OC⟩:=iB hm hr hb rV hM Eh;have hnl:=PO.out n k rV;have AE:M.length+1<=1048576:=by rw[hM]at hnl;simpa using hnl
  have m1:wr.cell? ⟨w.heap.size,1,none⟩=some (.string (bs (M++[c]))):=by rw[<-hM];exact hm.cell 1
  have pS:wr.frozen? ⟨w.heap.size,1,none⟩=false:=hm.free 1;have hsz:(bs (M++[c])).size=M.length+1:=by rw[lV];simp
  have fL:=yl (M++[c]) (M.length:Int) M.length zm rfl;have Bb:(M++[c])[M.length]'zm=c:=by simp
  rw[Bb]at fL;obtain⟨C,hC⟩:=az c.toNat;rw[hC]at fL hc;have hsl:=akF M c (M.length:Int) rfl;have Hc:=af hc;clear hm hr hb rV hM Eh Bb hc hnl;by_cases xO:C=0
  . subst xO;go_wp2;go_roundw;case rel=>
     refine⟨n/256,k+8,?_,by go_num,?_,?_,?_⟩
     . have h1:=Hc.out;have h2:=xn.out;rw[<-h2,Nat.pow_add,show(2:Nat)^8=256 by rfl,Nat.mul_comm (2^k),<-Nat.mul_assoc];congr 1;omega
     . rw[<-OC.out];exact Hm.out.set 1 _
     . exact Hr.out.aqG ⟨w.heap.size,1,none⟩ zp _
     . exact Hb.out.setCell zp _
    case measure=>simp[intOf];omega
  . have hC1:((C:Int)==0)=false:=by simp;omega
    go_wp2_with fail;clear m1 pS hsz fL hsl AE hC1 hC xO;go_loopw[1] (λx wr=>∃n k:Nat,n*2^k=v/\x=.int .i64 (e+k)/\ag wr w.heap.size 32 [.bool s,.string (bs (nt n))]/\ag wr (w.heap.size+1) 39 [.bool false,.string ⟨#[]⟩,.int .i64 0]/\Bw w wr) (λx _=>(e+Bn+100-intOf x).toNat);case atStart=>exact⟨n,k,xn.out,rfl,Hm.out,Hr.out,Hb.out⟩
    case round=>
     clear Hm Hr Hb xn HM OC Hc hk hn;obtain⟨n,k,rV,rfl,hm,hr,hb⟩:=hrel;obtain⟨hk,hn⟩:=aR.out n k rV;obtain⟨M,c,hM,Eh,hc⟩:=WM hn;obtain⟨Hr,xn,HM⟩:=cP hr rV hM;have hnl:=PO.out n k rV;have AE:M.length+1<=1048576:=by rw[hM]at hnl;simpa using hnl
     have Hm:Hid (ag wr w.heap.size 32 [.bool s,.string (bs (M++[c]))]):=by rw[hM]at hm;exact hm
     have m0:wr.cell? ⟨w.heap.size,0,none⟩=some (.bool s):=Hm.out.cell 0;have m1:wr.cell? ⟨w.heap.size,1,none⟩=some (.string (bs (M++[c]))):=Hm.out.cell 1;have hsz:(bs (M++[c])).size=M.length+1:=by rw[lV];simp
     have fL:=yl (M++[c]) (M.length:Int) M.length zm rfl;have Bb:(M++[c])[M.length]'zm=c:=by simp
     rw[Bb]at fL;obtain⟨C,hC⟩:=az c.toNat;rw[hC]at fL hc;have anE:=hb.size;have jI:=af hb;clear hm hr hb rV Eh Bb hC;by_cases hev:n%2=0
     . obtain⟨n',rfl⟩:∃n',n=2*n':=⟨n/2,by omega⟩;have Vg:(C:Int)%2=0:=by omega
       have hh:=λW=>aj7 s n' W zo (Nat.le_trans hnl zd);rw[hM]at hh;have Hh:=af hh;have Hb:Hid (Bw wr wr):=Below.refl _ _;clear hh hM hnl hc;go_wp2_with fail;have lmm:=Hm.out.lt;have lrr:=Hr.out.lt;go_region_with (first| (go_at_call 31;refine(akd _).mono ?_;rintro e3 w3 ⟨rfl,hb3⟩;replace hb3:=aK hb3;have CU:=af (Hm.out.below hb3);have m03:w3.cell? ⟨w.heap.size,0,none⟩=some (.bool s):=CU.out.cell 0;have qA:w3.cell? ⟨w.heap.size,1,none⟩=some (.string (bs (M++[c]))):=CU.out.cell 1) | (go_at_call 118;refine(Hh.out _).mono ?_;rintro e4 w4 ⟨rfl,hb4⟩;have xm:=af (CU.out.below hb4);have m04:w4.cell? ⟨w.heap.size,0,none⟩=some (.bool s):=xm.out.cell 0;have qE:w4.cell? ⟨w.heap.size,1,none⟩=some (.string (bs (M++[c]))):=xm.out.cell 1;have afk:=xm.out.free 0;have afl:=xm.out.free 1))
       all_goals
        have YS:=af (aG (aG jI.out hb3) hb4)
        have Hm4:=af ((xm.out.set 0 (.bool s)).set 1 (.string (bs (nt n'))))
        have zR:=af ((((Hr.out.below hb3).below hb4).aqG ⟨w.heap.size,0,none⟩ zp (.bool s)).aqG ⟨w.heap.size,1,none⟩ zp (.string (bs (nt n'))))
        clear m0 m1 m03 qA m04 qE afk afl Vg fL hb3 hb4 CU xm
        go_wp2
        go_roundw
        case rel=>
         refine⟨n',k+1,?_,by go_num,Hm4.out,zR.out,?_⟩
         . rw[<-xn.out,Nat.pow_succ,Nat.mul_comm (2^k) 2,<-Nat.mul_assoc,Nat.mul_comm n' 2]
         . exact(YS.out.setCell zp _).setCell zp _
        case measure=>simp[intOf];omega
     . have Vg:((C:Int)%2==0)=false:=by simp;omega
       have UK:n%2=1:=by omega
       have hfin:=adM s n (e+k) UK;rw[Jc.out n k xn.out,HM.out]at hfin;have rq:=af hfin;have r0:wr.cell? ⟨w.heap.size+1,0,none⟩=some (.bool false):=Hr.out.cell 0;have r1:wr.cell? ⟨w.heap.size+1,1,none⟩=some (.string ⟨#[]⟩):=Hr.out.cell 1;have r2:wr.cell? ⟨w.heap.size+1,2,none⟩=some (.int .i64 0):=Hr.out.cell 2;have ah:=Hr.out.free 0;have ai:=Hr.out.free 1;have aB:=Hr.out.free 2;clear hM hnl hc UK hfin hev;go_wp2;refine bodyPost_ret (v:=.agg #[.bool s,.string (bs (M++[c])),.int .i64 (e+k)]) (by simp[results,Tryz.results71,go_sem,r0,r1,r2]) rfl ⟨?_,?_⟩
       . have h1:=rq.out;unfold canon at h1;simp only[Prod.mk.injEq]at h1;rw[<-h1.1,<-h1.2.1,<-h1.2.2]
       . exact(((jI.out.setCell zp _).setCell zp _).setCell zp _)
theorem aj9 (s:Bool)(l:List UInt8)(e:Int)(D:Dyadic)(hD:ar (s,l,e)=D)(w:World)(hl:l.length<=1048576)(he: -1099511627776<=e/\e<=1099511627776):
 Calls Tryz.prog 71 #[.agg #[.bool s,.string (bs l)],.int .i64 e] w λr w'=>r=.returned (bQ D)/\Bw w w':=by
 rcases Nat.eq_zero_or_pos (nv l)with h0|h0
 . have:D=0:=by rw[<-hD];exact Kf s l e (by unfold iv;rw[h0];split<;>rfl)
   rw[this];exact akb s l e w hl h0
 . exact aka s l e D hD w hl he h0
end Go.Proofs.YtoopepmmepmfnaaGreatDoor
