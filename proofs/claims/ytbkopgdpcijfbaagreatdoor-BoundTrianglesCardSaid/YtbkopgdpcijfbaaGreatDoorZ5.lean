/- The limbs' functions,on. -/
import Derived.Test.YtbkopgdpcijfbaaGreatDoorZ4
import Derived.Laws.CopyOwn
import Derived.Test.YtbkopgdpcijfbaaGreatDoorZ1
set_option linter.all false
set_option maxRecDepth 100000
set_option maxHeartbeats 16000000
namespace Go.Proofs.YtbkopgdpcijfbaaGreatDoor
open Go.RowKit
def abx (v k:Nat)(h:v<WW^(k+1))(h0:WW^k<=v):bQ v=64*k+bQ (dg v k)/\bQ (dg v k)<=64/\0<bQ (dg v k):=by
 have hd:dg v k=v/WW^k:=by unfold dg;rw[Nat.mod_eq_of_lt];rw[Nat.div_lt_iff_lt_mul (dU k)];rw[Nat.pow_succ,Nat.mul_comm]at h;exact h
 have hd0:0<dg v k:=by rw[hd];exact Nat.div_pos h0 (dU k)
 have hl:=kj v k;refine⟨?_,kK (by rw[mI]at hl;exact hl),My hd0⟩;have a1:=uL (dg v k);have e:dg v k=2^(bQ (dg v k)-1)\/2^(bQ (dg v k)-1)<=dg v k:=by right;unfold bQ;rw[if_neg zo];simp;exact Nat.log2_self_le zo
 have a2:2^(bQ (dg v k)-1)<=dg v k:=by rcases e with e|e<;>omega
 have hm:=Nat.mod_lt v (dU k);have hv:=(Nat.mod_add_div v (WW^k)).symm;rw[<-hd]at hv;generalize v%WW^k=r at hv hm;have b1:v<2^(64*k+bQ (dg v k)):=by rw[Nat.pow_add,<-mJ];have:WW^k* (dg v k+1)<=WW^k*2^bQ (dg v k):=Nat.mul_le_mul_left _ a1;rw[Nat.mul_add]at this;omega
 have b2:2^(64*k+bQ (dg v k)-1)<=v:=by have:=My hd0;rw[show 64*k+bQ (dg v k)-1=64*k+(bQ (dg v k)-1)by omega,Nat.pow_add,<-mJ];have:WW^k*2^(bQ (dg v k)-1)<=WW^k*dg v k:=Nat.mul_le_mul_left _ a2;omega
 have c1:=kK b1;have c2:=Mx b2;omega
def ahn {v k:Nat}(h:ln v=k+1):v<WW^(k+1)/\WW^k<=v:=by
 refine⟨by rw[<-h];exact eU v,?_⟩;rcases Nat.lt_or_ge v (WW^k)with h1|h1
 . have:=jM h1;omega
 . exact h1
def ahl (b o n cap v:Nat)(w:World)(hm:n<=1099511627776)(hcap:n<=cap)(hc:dO w b o n v)(hv:v<WW^n):
 Cl 265 #[.slice (some ⟨b,o,none⟩) n cap] w λe w'=>e=.returned (af (bQ v:Int))/\w=w':=by
 have hle:=jM hv;have Hv:=aj hv;clear hv;rcases Nat.eq_zero_or_pos (ln v)with h0|h0
 . have Hc:=aj hc;clear hc;have hv0:v=0:=by have:=eU v;rw[h0]at this;simpa using this
   subst hv0;clear h0;go_enter Tryz.func265,Tryz.ntmps265;go_wp2_with (go_at_call 296;refine(mN b o n cap 0 _ hm hcap Hc.out Hv.out).mono ?_;rintro e w' ⟨rfl,rfl⟩;rw[Wx]);go_ret;exact⟨rfl,rfl⟩
 . obtain⟨k,hk⟩:∃k,ln v=k+1:=⟨ln v-1,by omega⟩;obtain⟨h1,h2⟩:=ahn hk;obtain⟨e1,e2,e3⟩:=abx v k h1 h2;have hcell:w.cell? ⟨b,o+k,none⟩=some (.int .u64 (dg v k:Int)):=hc _ zo;have Hc:=aj hc;clear hc;obtain⟨QN,Hk⟩:=aK e1 hk;have hkn:k+1<=n:=by omega
   clear h1 h2 h0 hle hk e1;go_enter Tryz.func265,Tryz.ntmps265
   go_wp2_with (first
    | (go_at_call 296;refine(mN b o n cap v _ hm hcap Hc.out Hv.out).mono ?_;rintro e w' ⟨rfl,rfl⟩;rw[Hk.out])
    | (go_at_call 299;refine(WE _ _ (kj _ _)).mono ?_;rintro e w' ⟨rfl,rfl⟩))
   go_ret;rw[QN.out];refine⟨congrArg (λz:Int=>Ending.returned (af z)) ?_,rfl⟩;omega
def avw (a:Option Addr)(cap:Nat)(w:World):
 Cl 265 #[.slice a 0 cap] w λe w'=>e=.returned (af 0)/\w=w':=by
 go_enter Tryz.func265,Tryz.ntmps265;go_wp2_with (go_at_call 296;refine(ab8 cap a _).mono ?_;rintro e w' ⟨rfl,rfl⟩);go_ret;exact⟨rfl,rfl⟩
def dx (a b:Nat):Int:=if a<b then-1 else if b<a then 1 else 0
def acp {v u k:Nat}(h:v/WW^(k+1)=u/WW^(k+1))(hd:dg v k<dg u k):v<u:=by
 unfold dg at hd;have e1:=(Nat.mod_add_div (v/WW^k) WW).symm;have e2:=(Nat.mod_add_div (u/WW^k) WW).symm;rw[Nat.pow_succ,<-Nat.div_div_eq_div_mul,<-Nat.div_div_eq_div_mul]at h;have:v/WW^k<u/WW^k:=by rw[e1,e2,h];omega
 exact Nat.lt_of_div_lt_div this
def aq2 {v u k:Nat}(h:v/WW^(k+1)=u/WW^(k+1))(hd:dg v k=dg u k):v/WW^k=u/WW^k:=by unfold dg at hd;have e1:=(Nat.mod_add_div (v/WW^k) WW).symm;have e2:=(Nat.mod_add_div (u/WW^k) WW).symm;rw[Nat.pow_succ,<-Nat.div_div_eq_div_mul,<-Nat.div_div_eq_div_mul]at h;rw[e1,e2,h,hd]
def Ww {v u:Nat}(h:ln v<ln u):v<u:=by
 rcases Nat.lt_or_ge v u with h1|h1
 . exact h1
 . have:=jM (Nat.lt_of_le_of_lt h1 (eU v));omega
def CF (b o n cap v b2 o2 m cap2 u:Nat)(w:World)(hm:n<=1099511627776)(hcap:n<=cap)(hc:dO w b o n v)(hv:v<WW^n)
 (hm2:m<=1099511627776) (Cg:m<=cap2) (hc2:dO w b2 o2 m u) (hu:u<WW^m):
 Cv 303 #[.slice (some ⟨b,o,none⟩) n cap,.slice (some ⟨b2,o2,none⟩) m cap2] w (af (dx v u)):=by
 have l1:=jM hv;have l2:=jM hu;have Hv:=aj hv;clear hv;have Hu:=aj hu;clear hu;have Hc:=aj hc;clear hc;have Dq:=aj hc2;clear hc2;obtain⟨Kv,Ku⟩:=aK (eU v) (eU u);by_cases hlt:ln v<ln u
 . have hf:(((ln v:Nat):Int) !=((ln u:Nat):Int))=true:=by rw[bne_iff_ne];omega
   have iu:Hid (dx v u= -1):=by show dx v u= -1;unfold dx;rw[if_pos (Ww hlt)]
   go_enter Tryz.func303,Tryz.ntmps303;go_wp2_with fail;refine(mN b o n cap v _ hm hcap Hc.out Hv.out).mono ?_;rintro e w' ⟨rfl,rfl⟩;go_wp2_with fail;refine(mN b2 o2 m cap2 u _ hm2 Cg Dq.out Hu.out).mono ?_;rintro e w' ⟨rfl,rfl⟩;go_wp2;go_ret;rw[iu.out];exact⟨rfl,Below.refl _ _⟩
 by_cases hgt:ln u<ln v
 . have hf:(((ln v:Nat):Int) !=((ln u:Nat):Int))=true:=by rw[bne_iff_ne];omega
   have iu:Hid (dx v u=1):=by show dx v u=1;have:=Ww hgt;unfold dx;rw[if_neg zo,if_pos this]
   go_enter Tryz.func303,Tryz.ntmps303;go_wp2_with fail;refine(mN b o n cap v _ hm hcap Hc.out Hv.out).mono ?_;rintro e w' ⟨rfl,rfl⟩;go_wp2_with fail;refine(mN b2 o2 m cap2 u _ hm2 Cg Dq.out Hu.out).mono ?_;rintro e w' ⟨rfl,rfl⟩;go_wp2;go_ret;rw[iu.out];exact⟨rfl,Below.refl _ _⟩
 . have heq:ln v=ln u:=by omega
   generalize hL:ln u=L at*;have HL:=aj hL;clear hL;have LP:=aj heq;clear heq;have hf:(((L:Nat):Int) !=((L:Nat):Int))=false:=by simp
   rw[LP.out]at Kv l1;go_enter Tryz.func303,Tryz.ntmps303;go_wp2_with fail;refine(mN b o n cap v _ hm hcap Hc.out Hv.out).mono ?_;rintro e w' ⟨rfl,rfl⟩;rw[LP.out];go_wp2_with fail;refine(mN b2 o2 m cap2 u _ hm2 Cg Dq.out Hu.out).mono ?_;rintro e w' ⟨rfl,rfl⟩;rw[HL.out];go_wp2;go_loopw[5] (λi wr=>∃k:Nat,k<=L/\i=af ((k:Int)-1)/\v/WW^k=u/WW^k/\Bw w wr) (λi _=>(intOf i+1).toNat);case atStart=>exact⟨L,Nat.le_refl _,rfl,by rw[Nat.div_eq_of_lt Kv.out,Nat.div_eq_of_lt Ku.out],Below.refl _ _⟩
   case round=>
    obtain⟨k,hk,rfl,EB,hb⟩:=hrel;have Dt:=aj EB;clear EB;by_cases h0:0<k
    . obtain⟨j,rfl⟩:∃j,k=j+1:=⟨k-1,by omega⟩;have c1:wr.cell? ⟨b,o+j,none⟩=some (.int .u64 (dg v j:Int)):=cell_later hb (Hc.out _ zo);have c2:wr.cell? ⟨b2,o2+j,none⟩=some (.int .u64 (dg u j:Int)):=cell_later hb (Dq.out _ zo);rw[show(((j+1:Nat):Int)-1)=(j:Int)by omega];have Hb:=aj hb;clear hb;rcases Nat.lt_trichotomy (dg v j) (dg u j)with hd|hd|hd
      . have iu:Hid (dx v u= -1):=by show dx v u= -1;unfold dx;rw[if_pos (acp Dt.out hd)]
        go_wp2;go_region
        go_wp2;go_ret;rw[iu.out];exact⟨rfl,Hb.out.drew⟩
      . have Hd:=aj (aq2 Dt.out hd);rw[hd]at c1;go_wp2;go_region
        go_wp2;go_region
        go_wp2;go_roundw;case rel=>exact⟨j,by omega,rfl,Hd.out,Hb.out.drew.drew⟩
        case measure=>simp[intOf]
      . have iu:Hid (dx v u=1):=by show dx v u=1;have:=acp Dt.out.symm hd;unfold dx;rw[if_neg zo,if_pos this]
        go_wp2;go_region
        go_wp2;go_region
        go_wp2;go_ret;rw[iu.out];exact⟨rfl,Hb.out.drew.drew⟩
    . obtain rfl:k=0:=by omega
      have iu:Hid (dx v u=0):=by have:=Dt.out;simp at this;subst this;show dx v v=0;simp[dx]
      have Hb:=aj hb;clear hb;go_wp2;go_ret;rw[iu.out];exact⟨rfl,Hb.out⟩
def Tryz.aGM :(Tryz.prog.info? 185).map (λi=>(i.zero,i.size,i.bytes))=some (some (.int .u64 0),1,8):=by kernel_rfl
def Tryz.aGw :(Tryz.prog.info? 5).map (λi=>(i.zero,i.size,i.bytes))=some (some (.int .u8 0),1,1):=by kernel_rfl
def aAR (n:Nat):List.replicate n (Value.int .u64 0)=bI n λ_=>0:=by
 apply List.ext_getElem?;intro j;by_cases h:j<n
 . rw[iq _ _ _ h];simp[h]
 . simp[bI,h]
def CI (c:Int)(n:Nat)(hc:c=n)(h:n<=1099511627776)(w:World):
 (Instr.makeSlice 285 (af c) (af c)).run Tryz.prog w=.ok (.slice (some ⟨w.heap.size,0,none⟩) n n) (w.alloc (.cells (bI n λ_=>0).toArray 185)):=by
 subst hc;obtain⟨i0,hi,hz0,hz1,hz2⟩:=info_parts Tryz.aGM;rw[run_make (P:=Tryz.prog) w 285 185 i0 _ Tryz.underlying285 hi hz0 .i64 .i64 n n zo zo (by rw[hz2];omega) zo];simp only[Int.toNat_natCast,hz1,Nat.mul_one];rw[<-aAR,<-toList_madeCells_one];simp[Value.cells]
def azF {m M v:Nat}(h:m<=M)(hv:v<WW^m):splice (bI M λ_=>0) 0 (bI m (dg v))=bI M (dg v):=by
 unfold splice;rw[List.take_zero,List.nil_append,Bb,Nat.zero_add];apply List.ext_getElem?;intro j;rw[List.getElem?_append,Bb];by_cases h1:j<m
 . rw[if_pos h1,iq _ _ _ h1,iq _ _ _ zo]
 . rw[if_neg h1,List.getElem?_drop,show m+(j-m)=j by omega];by_cases h2:j<M
   . rw[iq _ _ _ h2,iq _ _ _ h2,ww hv zo]
   . simp[bI,h2]
def Tb (a:Option Addr)(m cap v:Nat)(c:Int)(w:World)(hm:m<=1099511627776)(hc0:0<=c)(hc1:c<=1099511627776)
 (hx:0<m->∃b o,a=some ⟨b,o,none⟩/\dO w b o m v) (hv:v<WW^m):
 Cl 298 #[.slice a m cap,af c] w λe w'=>e=.returned (.slice (some ⟨w.heap.size,0,none⟩) (max c.toNat m) (max c.toNat m))/\
  ar w' w.heap.size 185 (bI (max c.toNat m) (dg v))/\Bw w w':=by
 obtain⟨k,rfl⟩:=Int.eq_ofNat_of_zero_le hc0;rw[Int.toNat_natCast];have hM:max (k:Int) (m:Int)=((max k m:Nat):Int):=by omega
 generalize IX:max k m=M at*;have hMm:m<=M:=by omega
 have hMb:M<=1099511627776:=by omega
 have Hv:=aj hv;clear hv;have Hx:=aj hx;clear hx;have HMM:=aj IX;clear IX;have hmk:=CI (M:Int) M rfl hMb;go_enter Tryz.func298,Tryz.ntmps298;go_wp2_with (with_reducible refine wpList_copy_splice rfl (.tmp 11) (.tmp 12) 285 285 rfl 185 Tryz.underlying285 zk (some ⟨w.heap.size,0,none⟩) a M M m cap rfl rfl w.heap.size 0 (bI M λ_=>0) 185 (heap_alloc_new w _) (bI m (dg v)) ?h1 ?h2 ?h3 ?h4 w.heap.size w zl (Nat.le_refl _) ?_);case h1=>rw[Bb];exact(Nat.min_eq_left hMm).symm
 case h2=>
  rw[Bb];intro h0;obtain⟨b,o,rfl,hL⟩:=Hx.out h0;refine⟨⟨b,o,none⟩,rfl,?_⟩;intro j x hj;have hjm:j<m:=by
   rcases Nat.lt_or_ge j m with h|h
   . exact h
   . simp[bI,h]at hj
  rw[iq _ _ _ hjm]at hj;cases hj
  rw[show((⟨b,o,none⟩:Addr).add j)=⟨b,o+j,none⟩by unfold Addr.add;split<;>simp_all];exact cell_later zl (hL j hjm)
 case h3=>rw[Bb,Bb];omega
 case h4=>intro x hx;simp[bI]at hx;obtain⟨j,_,rfl⟩:=hx;rfl
 . intro w1 cj hb1;go_wp2;go_ret;refine⟨rfl,?_,hb1⟩;have:=cj.out;unfold ar;rw[this,azF hMm Hv.out]
def jB (l:List UInt8):(bs l).size=l.length:=by show l.toArray.size=_;simp
def apA (s:ByteArray):s=bs s.data.toList:=by cases s;simp[bs]
def apx (l:List UInt8):(bs l).data.toList=l:=by simp[bs]
def Aw (l:List UInt8)(i:Int)(j:Nat)(hj:j<l.length)(hi:i=j)(W:World):
 (Instr.index 9 (.string (bs l)) (af i)).run Tryz.prog W=.ok (.int .u8 (l[j].toNat:Int)) W:=by
 subst hi;have hj':j<(bs l).size:=by rw[jB];exact hj
 rw[run_index_string W 9 (bs l) .i64 j Tryz.underlying9,dif_pos zo];simp[bs,ByteArray.getElem_eq_getElem_data]
def XH (C i:Nat):IntKind.u64.wrap ((C:Int) *2^i)=((C*2^i%WW:Nat):Int):=by
 rw[IntKind.wrap_u64,ke];have:(C:Int) *2^i=((C*2^i:Nat):Int):=by simp[Int.natCast_mul,Int.natCast_pow]
 rw[this];omega
def WY (X Y:Nat)(i c:Nat)(hY:Y=c*2^i)(hX:X<2^i)(h:c*2^i+2^i<=WW):bits BinOp.or IntKind.u64 (X:Int) (Y:Int)=((X+Y:Nat):Int):=by
 subst hY;have hp:=Nat.pow_pos (n:=i) (show 0<2 by decide);have h1:X<18446744073709551616:=by rw[ke]at h;omega
 have h2:c*2^i<18446744073709551616:=by rw[ke]at h;omega
 rw[bits_or_u64_nat X (c*2^i) h1 h2,axt hX]
def oC (l:List UInt8)(w:World)(hs:l.length<=1099511627776):
 Cl 262 #[ah l] w λe w'=>e=.returned (.slice (some ⟨w.heap.size,0,none⟩) (ln (nv l)) ((l.length+7)/8))/\
  ar w' w.heap.size 185 (bI ((l.length+7)/8) (dg (nv l)))/\Bw w w'/\ln (nv l)<=(l.length+7)/8:=by
 have hsz:=jB l;have hmk:=CI (((l.length:Int)+7)/8) ((l.length+7)/8) zo zo;generalize hn:(l.length+7)/8=n at*;have gA:l.length<=8*n:=by omega
 have oh:8*n<=l.length+7:=by omega
 have Hn:=aj hn;clear hn;have Au:nv l<WW^n:=by refine Nat.lt_of_lt_of_le (jH l) ?_;rw[mJ,show(256:Nat)=2^8 by rfl,<-Nat.pow_mul];exact Nat.pow_le_pow_right zd zo
 have BH:=aj Au;clear Au;go_enter Tryz.func262,Tryz.ntmps262;go_wp2;go_loopw[4,5,13] (λ_ _ i wr=>∃k:Nat,k<=l.length/\i=af k/\ar wr w.heap.size 185 (bI n (dg (nv (l.drop (l.length-k)))))/\Bw w wr) (λ_ _ i _=>l.length-(intOf i).toNat);case atStart=>
  refine⟨0,Nat.zero_le _,rfl,?_,zl⟩;have e:bI n (dg (nv (l.drop (l.length-0))))=bI n λ_=>0:=lD λj _=>by simp[AQ,dg]
  rw[e];exact ar.new _ _ _
 case round=>
  obtain⟨k,hk,rfl,hB,hb⟩:=hrel;by_cases hlt:k<l.length
  . have h8:k/8<n:=by omega
    have hcell:wr.cell? ⟨w.heap.size,k/8,none⟩=some (.int .u64 (dg (nv (l.drop (l.length-k))) (k/8):Int)):=by rw[hB.cell,iq _ _ _ h8]
    have hfree:wr.frozen? ⟨w.heap.size,k/8,none⟩=false:=hB.free _;have iJ:=Aw l ((l.length:Int)-1-(k:Int)) (l.length-1-k) zo zo;have hC:=(l[l.length-1-k]'zo).toNat_lt;have hVk:nv (l.drop (l.length-k))<256^k:=by have:=jH (l.drop (l.length-k));rwa [List.length_drop,show l.length-(l.length-k)=k by omega]at this
    have hlast:=axc l k hlt;obtain⟨d1,d2,d3⟩:=apP _ _ k hVk hC;have hp:=Nat.pow_pos (n:=k%8*8) (show 0<2 by decide);have rI:(l[l.length-1-k]'zo).toNat*2^(k%8*8)+2^(k%8*8)<=WW:=by
     have h2:2^(k%8*8) *256<=WW:=by rw[show(256:Nat)=2^8 by rfl,<-Nat.pow_add,mI];exact Nat.pow_le_pow_right zd zo
     have:2^(k%8*8) * ((l[l.length-1-k]'zo).toNat+1)<=2^(k%8*8) *256:=Nat.mul_le_mul_left _ hC;rw[Nat.mul_add,Nat.mul_comm]at this;omega
    have Cy:=XH (l[l.length-1-k]'zo).toNat (k%8*8);rw[Nat.mod_eq_of_lt d2]at Cy;have Ao:=WY _ _ _ _ rfl d1 rI;have fx:Hid (ar (wr.setCell ⟨w.heap.size,k/8,none⟩ (.int .u64 ((dg (nv (l.drop (l.length-k))) (k/8)+(l[l.length-1-k]'zo).toNat*2^(k%8*8):Nat):Int))) w.heap.size 185 (bI n (dg (nv (l.drop (l.length-(k+1))))))):=by have:=hB.set (k/8) (.int .u64 ((dg (nv (l.drop (l.length-k))) (k/8)+(l[l.length-1-k]'zo).toNat*2^(k%8*8):Nat):Int));rw[FD]at this;rw[show l.length-(k+1)=l.length-1-k by omega,hlast];rw[lD λj _=>d3 j];exact this
    have Hb:Hid (Bw w (wr.setCell ⟨w.heap.size,k/8,none⟩ (.int .u64 ((dg (nv (l.drop (l.length-k))) (k/8)+(l[l.length-1-k]'zo).toNat*2^(k%8*8):Nat):Int)))):=hb.setCell (Nat.le_refl _) _;clear hB hb d1 d2 d3 hp rI hlast hVk;generalize dg (nv (l.drop (l.length-k))) (k/8)+(l[l.length-1-k]'zo).toNat*2^(k%8*8)=Z at*;generalize dg (nv (l.drop (l.length-k))) (k/8)=X at*;generalize (l[l.length-1-k]'zo).toNat=C at*;generalize C*2^(k%8*8)=Y at*;go_wp2;go_region
    go_wp2;go_roundw;case rel=>exact⟨k+1,by omega,by go_num,fx.out.drew,Hb.out.drew⟩
    case measure=>exact bC
  . obtain rfl:k=l.length:=by omega
    rw[Nat.sub_self,List.drop_zero]at hB;have Hc:Hid (dO wr w.heap.size 0 n (nv l)):=λj hj=>by rw[Nat.zero_add,hB.cell,iq _ _ _ hj]
    have HB:=aj hB;clear hB;have Hb:=aj hb;clear hb;go_wp2_with (go_at_call 296;refine(mN w.heap.size 0 n n (nv l) _ zo (Nat.le_refl _) Hc.out BH.out).mono ?_;rintro e w' ⟨rfl,rfl⟩);go_ret;exact⟨rfl,HB.out,Hb.out,jM BH.out⟩
def Yt (b o m cap v n:Nat)(w:World)(hm:m<=549755813888)(hn:n<=549755813888)(hx:dO w b o m v)(hv:v<WW^m):
 Cl 263 #[.slice (some ⟨b,o,none⟩) m cap,af (n:Int)] w λe w'=>e=.returned (.slice (some ⟨w.heap.size,0,none⟩) (ln (v*2^n)) (m+n/64+1))/\
  ar w' w.heap.size 185 (bI (m+n/64+1) (dg (v*2^n)))/\Bw w w'/\ln (v*2^n)<=m+n/64+1:=by
 have hmk:=CI ((m:Int)+(n:Int)/64+1) (m+n/64+1) zo zo;generalize hM:m+n/64+1=M at*;have Hx:=aj hx;clear hx;have Au:v*2^n<WW^M:=by
  have h1:2^n<=WW^(n/64+1):=by rw[mJ];exact Nat.pow_le_pow_right zd zo
  rw[<-hM,Nat.add_assoc,Nat.pow_add];exact Nat.lt_of_lt_of_le (Nat.mul_lt_mul_of_pos_right hv (Nat.pow_pos zd)) (Nat.mul_le_mul_left _ h1)
 have BH:=aj Au;clear Au;have Hv:=aj hv;clear hv;have Cb:m+n/64+1<=M:=by omega
 have uU:M<=1099511627776:=by omega
 have HM:=aj hM;clear hM;go_enter Tryz.func263,Tryz.ntmps263;go_wp2;go_loopw[6,7,8,18] (λ_ _ _ i wr=>∃k:Nat,k<=m/\i=af k/\ar wr w.heap.size 185 (bI M (dg (v%WW^k*2^n)))/\Bw w wr) (λ_ _ _ i _=>m-(intOf i).toNat);case atStart=>
  refine⟨0,Nat.zero_le _,rfl,?_,zl⟩;have e:bI M (dg (v%WW^0*2^n))=bI M λ_=>0:=lD λj _=>by simp[dg,Nat.mod_one]
  rw[e];exact ar.new _ _ _
 case round=>
  obtain⟨k,hk,rfl,hB,hb⟩:=hrel;by_cases hlt:k<m
  . have c0:wr.cell? ⟨b,o+k,none⟩=some (.int .u64 (dg v k:Int)):=cell_later hb (Hx.out k hlt);obtain⟨c,e1,e2,e3,e4,e5,e6⟩:=aAV v n k;have hcell:wr.cell? ⟨w.heap.size,k+n/64,none⟩=some (.int .u64 (dg (v%WW^k*2^n) (k+n/64):Int)):=by rw[hB.cell,iq _ _ _ zo]
    have hfree:wr.frozen? ⟨w.heap.size,k+n/64,none⟩=false:=hB.free _;have Cy:=XH (dg v k) (n%64);rw[<-e1]at Cy;have Ao:=WY _ _ _ _ rfl e2 e3;have bP:=hB.set (k+n/64) (.int .u64 ((dg (v%WW^k*2^n) (k+n/64)+c*2^(n%64):Nat):Int));have hb1:=hb.setCell (p:=⟨w.heap.size,k+n/64,none⟩) (Nat.le_refl _) (.int .u64 ((dg (v%WW^k*2^n) (k+n/64)+c*2^(n%64):Nat):Int));rw[FD]at bP;clear e1 e2 e3 hB hb;by_cases hr:n%64=0
    . have fx:Hid (ar (wr.setCell ⟨w.heap.size,k+n/64,none⟩ (.int .u64 ((dg (v%WW^k*2^n) (k+n/64)+c*2^(n%64):Nat):Int))) w.heap.size 185 (bI M (dg (v%WW^(k+1) *2^n)))):=by
       have hz:dg v k/2^(64-n%64)=0:=by rw[hr];exact Nat.div_eq_of_lt (by have:=kj v k;rw[mI]at this;exact this)
       rw[lD (g:=λj=>if j=k+n/64 then dg (v%WW^k*2^n) (k+n/64)+c*2^(n%64)else dg (v%WW^k*2^n) j) λj _=>by
        rw[e6 j,hz];by_cases hj:j=k+n/64+1
        . subst hj;rw[if_pos rfl,if_neg zo,e4]
        . rw[if_neg hj]]
       exact bP
      have Hb:=aj hb1;clear bP hb1 e4 e5 e6;generalize dg (v%WW^k*2^n) (k+n/64)+c*2^(n%64)=Z at*;generalize dg (v%WW^k*2^n) (k+n/64)=X at*;generalize c*2^(n%64)=Y at*;have yn:decide ((0:Int)<(n:Int)%64)=false:=by simp;omega
      have Hr:=aj hr;clear hr;go_wp2;go_region
      go_wp2;go_roundw;case rel=>exact⟨k+1,by omega,by go_num,fx.out.drew,Hb.out.drew⟩
      case measure=>exact bC
    . have bA:k+n/64+1<M:=by omega
      have atC:(wr.setCell ⟨w.heap.size,k+n/64,none⟩ (.int .u64 ((dg (v%WW^k*2^n) (k+n/64)+c*2^(n%64):Nat):Int))).cell? ⟨w.heap.size,k+n/64+1,none⟩=some (.int .u64 0):=by rw[bP.cell,iq _ _ _ bA,if_neg zo,e4];rfl
      have atM:(wr.setCell ⟨w.heap.size,k+n/64,none⟩ (.int .u64 ((dg (v%WW^k*2^n) (k+n/64)+c*2^(n%64):Nat):Int))).frozen? ⟨w.heap.size,k+n/64+1,none⟩=false:=bP.free _;have dF:=bP.set (k+n/64+1) (.int .u64 ((dg v k/2^(64-n%64):Nat):Int));have hb2:=hb1.setCell (p:=⟨w.heap.size,k+n/64+1,none⟩) (Nat.le_refl _) (.int .u64 ((dg v k/2^(64-n%64):Nat):Int));rw[FD,<-lD λj _=>e6 j]at dF;have aEc:bits BinOp.or IntKind.u64 0 ((dg v k:Int)/2^(64-n%64))=((dg v k/2^(64-n%64):Nat):Int):=by have h:=bits_or_u64_nat 0 (dg v k/2^(64-n%64)) zd (by rw[ke]at e5;exact e5);simp only[Nat.zero_or]at h;rw[<-h];simp[Int.natCast_pow]
      obtain⟨fx,Hb⟩:=aK dF hb2;clear bP hb1 e4 e5 e6 dF hb2;have yn:decide ((0:Int)<(n:Int)%64)=true:=by simp;omega
      have Hr:=aj hr;clear hr;generalize dg (v%WW^k*2^n) (k+n/64)+c*2^(n%64)=Z at*;generalize dg (v%WW^k*2^n) (k+n/64)=X at*;generalize c*2^(n%64)=Y at*;generalize dg v k/2^(64-n%64)=Z2 at*;go_wp2;go_region
      go_wp2;go_region
      go_wp2;go_roundw;case rel=>exact⟨k+1,by omega,by go_num,fx.out.drew.drew,Hb.out.drew.drew⟩
      case measure=>exact bC
  . obtain rfl:k=m:=by omega
    rw[Nat.mod_eq_of_lt Hv.out]at hB;have Hc:Hid (dO wr w.heap.size 0 M (v*2^n)):=λj hj=>by rw[Nat.zero_add,hB.cell,iq _ _ _ hj]
    have HB:=aj hB;clear hB;have Hb:=aj hb;clear hb;go_wp2_with (go_at_call 296;refine(mN w.heap.size 0 M M (v*2^n) _ zo (Nat.le_refl _) Hc.out BH.out).mono ?_;rintro e w' ⟨rfl,rfl⟩);go_ret;exact⟨rfl,HB.out,Hb.out,jM BH.out⟩
def BR (F:Nat->Nat)(k:Nat)(G:Nat->Nat)(j:Nat):Nat:=if j<k then G j else F j
def acS (N:Nat)(F:Nat->Nat)(i:Nat)(G:Nat->Nat)(x:Nat)(hx:x=G i):
 (bI N (BR F i G)).set i (.int .u64 (x:Int))=bI N (BR F (i+1) G):=by
 rw[FD];refine lD λj _=>?_;unfold BR;by_cases h:j=i
 . subst h;rw[if_pos rfl,if_pos zo,hx]
 . rw[if_neg h];by_cases h2:j<i
   . rw[if_pos h2,if_pos zo]
   . rw[if_neg h2,if_neg zo]
def MM (v q j:Nat):dg (v/WW^q) j=dg v (q+j):=by unfold dg;rw[Nat.div_div_eq_div_mul,<-Nat.pow_add]
def arh (v n:Nat):v/WW^(n/64)/2^(n%64)=v/2^n:=by rw[mJ,Nat.div_div_eq_div_mul,<-Nat.pow_add];congr 2;omega
def acv (a:Option Addr)(m cap n:Nat)(w:World)(hm:m<=549755813888)(hn:n<=1099511627776)(hle:m<=n/64):
 Cl 264 #[.slice a m cap,af (n:Int)] w λe w'=>e=.returned (.slice none 0 0)/\w=w':=by
 go_enter Tryz.func264,Tryz.ntmps264;go_wp2;go_ret;exact⟨rfl,rfl⟩
def acu (b o m cap v n:Nat)(w:World)(hm:m<=549755813888)(hcap:m<=cap)(hn:n<=1099511627776)(hx:dO w b o m v)(hv:v<WW^m)(aD2:n/64<m):
 Cl 264 #[.slice (some ⟨b,o,none⟩) m cap,af (n:Int)] w λe w'=>e=.returned (.slice (some ⟨w.heap.size,0,none⟩) (ln (v/2^n)) (m-n/64))/\
  ar w' w.heap.size 185 (bI (m-n/64) (dg (v/2^n)))/\Bw w w'/\ln (v/2^n)<=m-n/64:=by
 have dY:b<w.heap.size:=World.block_lt_of_cell? w ⟨b,o+0,none⟩ (hx 0 zo);have hne:¬cap=n/64:=by omega
 have Hx:=aj hx;clear hx;have hu:v/WW^(n/64)<WW^(m-n/64):=by rw[Nat.div_lt_iff_lt_mul (dU _),<-Nat.pow_add,show m-n/64+n/64=m by omega];exact hv
 have Hu:=aj hu;clear hu;have Hv:=aj hv;clear hv;have Hxu:Hid (dO w b (o+n/64) (m-n/64) (v/WW^(n/64))):=λj hj=>by rw[MM,Nat.add_assoc];exact Hx.out _ zo
 go_enter Tryz.func264,Tryz.ntmps264;go_wp2_with (go_at_call 298;refine(Tb (some ⟨b,o+n/64,none⟩) (m-n/64) (cap-n/64) (v/WW^(n/64)) 0 _ zo zo zo (λ_=>⟨b,o+n/64,rfl,Hxu.out⟩) Hu.out).mono ?_;rintro e w1 ⟨rfl,bP,hb1⟩;rw[show max (0:Int).toNat (m-n/64)=m-n/64 by simp]at bP;rw[show max (0:Int).toNat (m-n/64)=m-n/64 by simp];have dK:=aj bP;clear bP;have cj:=aj hb1;clear hb1);generalize hL:m-n/64=L at*;have HL:=aj hL;have kR:L+n/64=m:=by omega
 clear hL;generalize hU:v/WW^(n/64)=U at*;have HU:=aj hU;clear hU;go_wp2;go_loopw[6,19] (λ_ i wr=>∃k:Nat,k<=L/\i=af k/\ar wr w.heap.size 185 (bI L (BR (dg U) k (dg (U/2^(n%64)))))/\Bw w wr) (λ_ i _=>L-(intOf i).toNat);case atStart=>exact⟨0,Nat.zero_le _,rfl,dK.out,cj.out⟩
 case round=>
  obtain⟨k,hk,rfl,hB,hb⟩:=hrel;by_cases hlt:k<L
  . have hcell:wr.cell? ⟨w.heap.size,k,none⟩=some (.int .u64 (dg U k:Int)):=by rw[hB.cell,iq _ _ _ hlt];simp[BR]
    have hfree:wr.frozen? ⟨w.heap.size,k,none⟩=false:=hB.free _;have NV:=aq1 U (n%64) k (Nat.mod_lt _ zd);have OD:(dg U k:Int)/2^(n%64)=((dg U k/2^(n%64):Nat):Int):=by simp[Int.natCast_pow]
    have bP:=hB.set k (.int .u64 ((dg U k/2^(n%64):Nat):Int));have hb1:=hb.setCell (p:=⟨w.heap.size,k,none⟩) (Nat.le_refl _) (.int .u64 ((dg U k/2^(n%64):Nat):Int));by_cases hc:k+1<L/\0<n%64
    . obtain⟨hc1,hc2⟩:=hc;obtain⟨c,f1,f2,f3,f4,f5⟩:=ajQ (dg U (k+1)) (64-n%64) (kj _ _) zo;have hX:dg U k/2^(n%64)<2^(64-n%64):=by rw[Nat.div_lt_iff_lt_mul (Nat.pow_pos zd),<-Nat.pow_add,show 64-n%64+n%64=64 by omega,<-mI];exact kj _ _
      have aDH:(wr.setCell ⟨w.heap.size,k,none⟩ (.int .u64 ((dg U k/2^(n%64):Nat):Int))).cell? ⟨b,o+(n/64+k+1),none⟩=some (.int .u64 (dg U (k+1):Int)):=by have:=Hxu.out (k+1) zo;rw[show o+(n/64+k+1)=o+n/64+(k+1)by omega];exact cell_later hb1 this
      have atC:(wr.setCell ⟨w.heap.size,k,none⟩ (.int .u64 ((dg U k/2^(n%64):Nat):Int))).cell? ⟨w.heap.size,k,none⟩=some (.int .u64 ((dg U k/2^(n%64):Nat):Int)):=by rw[bP.cell];simp[Bb,hlt]
      have atM:(wr.setCell ⟨w.heap.size,k,none⟩ (.int .u64 ((dg U k/2^(n%64):Nat):Int))).frozen? ⟨w.heap.size,k,none⟩=false:=bP.free _;have Cy:=XH (dg U (k+1)) (64-n%64);have Ao:=WY _ _ _ _ f1 hX f4;have dF:=bP.set k (.int .u64 ((dg (U/2^(n%64)) k:Nat):Int));have hb2:=hb1.setCell (p:=⟨w.heap.size,k,none⟩) (Nat.le_refl _) (.int .u64 ((dg (U/2^(n%64)) k:Nat):Int));rw[List.set_set,acS L _ k _ _ rfl]at dF;rw[<-NV]at Ao;obtain⟨fx,Hb⟩:=aK dF hb2;clear bP hb1 dF hb2 hB hb f1 f2 f3 f4 f5 hX NV;have hq1:decide ((k:Int)+1<(L:Int))=true:=by simp;omega
      have hq2:decide ((0:Int)<(n:Int)%64)=true:=by simp;omega
      generalize dg U k/2^(n%64)=D at*;generalize dg U (k+1) *2^(64-n%64)%WW=Y at*;generalize dg U (k+1)=D1 at*;go_wp2;go_region
      go_wp2;go_roundw;case rel=>exact⟨k+1,by omega,by go_num,fx.out.drew,Hb.out.drew⟩
      case measure=>exact bC
    . have e:dg U k/2^(n%64)=dg (U/2^(n%64)) k:=by
       rw[NV];by_cases h0:n%64=0
       . rw[h0];simp only[Nat.pow_zero,Nat.div_one,Nat.sub_zero,<-mI,Nat.mul_mod_left,Nat.add_zero]
       . rw[ww (j:=k+1) Hu.out zo,Nat.zero_mul,Nat.zero_mod,Nat.add_zero]
      rw[e,acS L _ k _ _ rfl]at bP;rw[e]at hb1 OD;obtain⟨fx,Hb⟩:=aK bP hb1;clear bP hb1 hB hb NV e;by_cases h1:k+1<L
      . have hq1:decide ((k:Int)+1<(L:Int))=true:=by simp;omega
        have hq2:decide ((0:Int)<(n:Int)%64)=false:=by simp;omega
        go_wp2;go_roundw;case rel=>exact⟨k+1,by omega,by go_num,fx.out,Hb.out⟩
        case measure=>exact bC
      . have hq1:decide ((k:Int)+1<(L:Int))=false:=by simp;omega
        go_wp2;go_roundw;case rel=>exact⟨k+1,by omega,by go_num,fx.out,Hb.out⟩
        case measure=>exact bC
  . obtain rfl:k=L:=by omega
    have e:U/2^(n%64)=v/2^n:=by rw[<-HU.out,arh]
    have e2:bI k (BR (dg U) k (dg (U/2^(n%64))))=bI k (dg (v/2^n)):=lD λj hj=>by simp[BR,hj,e]
    rw[e2]at hB;have bA:v/2^n<WW^k:=by rw[<-e];exact Nat.lt_of_le_of_lt (Nat.div_le_self _ _) Hu.out
    have aaj:=aj bA;clear e e2 bA;have Hc:Hid (dO wr w.heap.size 0 k (v/2^n)):=λj hj=>by rw[Nat.zero_add,hB.cell,iq _ _ _ hj]
    have HB:=aj hB;clear hB;have Hb:=aj hb;clear hb;go_wp2_with (go_at_call 296;refine(mN w.heap.size 0 k k (v/2^n) _ zo (Nat.le_refl _) Hc.out aaj.out).mono ?_;rintro e w' ⟨rfl,rfl⟩);go_ret;rw[HL.out];exact⟨rfl,HB.out,Hb.out,jM aaj.out⟩
def cM (n:Nat)(f:Nat->Nat):List Value:=(List.range n).map λj=>.int .u8 (f j:Int)
def Db (n:Nat)(f:Nat->Nat):(cM n f).length=n:=by simp[cM]
def oJ (n:Nat)(f:Nat->Nat)(j:Nat)(h:j<n):(cM n f)[j]?=some (.int .u8 (f j:Int)):=by simp[cM,List.getElem?_range h]
def uo {n:Nat}{f g:Nat->Nat}(h:∀j,j<n->f j=g j):cM n f=cM n g:=by unfold cM;refine List.map_congr_left λj hj=>?_;rw[h j (by simpa using hj)]
def KV (n:Nat)(f:Nat->Nat)(i x:Nat):(cM n f).set i (.int .u8 (x:Int))=cM n (λj=>if j=i then x else f j):=by
 apply List.ext_getElem?;intro j;rw[List.getElem?_set,Db];by_cases h:j<n
 . rw[oJ _ _ _ h,oJ _ _ _ h];by_cases e:i=j
   . subst e;simp[h]
   . simp[e,Ne.symm e]
 . by_cases e:i=j
   . subst e;simp[cM,h]
   . simp[e,cM,h]
def aAQ (n:Nat):List.replicate n (Value.int .u8 0)=cM n λ_=>0:=by
 apply List.ext_getElem?;intro j;by_cases h:j<n
 . rw[oJ _ _ _ h];simp[h]
 . simp[cM,h]
def yH (c:Int)(n:Nat)(hc:c=n)(h:n<=17592186044416)(w:World):
 (Instr.makeSlice 172 (af c) (af c)).run Tryz.prog w=.ok (.slice (some ⟨w.heap.size,0,none⟩) n n) (w.alloc (.cells (cM n λ_=>0).toArray 5)):=by
 subst hc;obtain⟨i0,hi,hz0,hz1,hz2⟩:=info_parts Tryz.aGw;rw[run_make (P:=Tryz.prog) w 172 5 i0 _ Tryz.underlying172 hi hz0 .i64 .i64 n n zo zo (by rw[hz2];omega) zo];simp only[Int.toNat_natCast,hz1,Nat.mul_one];rw[<-aAQ,<-toList_madeCells_one];simp[Value.cells]
def yP {w:World}{b:Nat}{t:TypeId}{n:Nat}{f:Nat->Nat}(h:ar w b t (cM n f))(cap:Nat):
 (convert 172 9 (.slice (some ⟨b,0,none⟩) n cap)).run Tryz.prog w=.ok (.string (bs ((List.range n).map λj=>UInt8.ofNat (f j)))) w:=by
 have:=run_convert_bytes_arg (P:=Tryz.prog) w 172 5 Tryz.underlying172 Tryz.underlying5 b 0 n cap ((List.range n).map λj=>(f j:Int)) zm (λi hi=>by rw[Nat.zero_add,h.cell,oJ _ _ _ hi];simp[hi]) 9 Tryz.underlying9
 rw[this];unfold strOfNums bs;rw[List.map_map];rfl
def axd (v n:Nat):nv ((List.range n).map λj=>UInt8.ofNat (v/256^(n-1-j)%256))=v%256^n:=by
 induction n with
 |zero=>simp[AQ,Nat.mod_one]
 | succ n ih=>
   rw[List.range_succ_eq_map,List.map_cons,List.map_map,wW,MB,List.length_map,List.length_range];have e:(List.range n).map ((λj=>UInt8.ofNat (v/256^(n+1-1-j)%256))∘Nat.succ)=(List.range n).map λj=>UInt8.ofNat (v/256^(n-1-j)%256):=by
    refine List.map_congr_left λj hj=>?_;have hj':j<n:=by simpa using hj
    show UInt8.ofNat (v/256^(n+1-1-(j+1))%256)=_
    rw[show n+1-1-(j+1)=n-1-j by omega]
   rw[e,ih,Nat.pow_succ,Nat.mod_mul,show n+1-1-0=n by omega,Nat.mul_comm,Nat.add_comm]
def WS (v n:Nat)(h:v<256^n)(h0:0<n->256^(n-1)<=v):(List.range n).map (λj=>UInt8.ofNat (v/256^(n-1-j)%256))=nt v:=by
 have e:=axd v n;rw[Nat.mod_eq_of_lt h]at e;refine(ah5 _ ?_).symm.trans (by rw[e]);intro c hc;cases n with
 |zero=>simp at hc
 | succ n=>
   rw[List.range_succ_eq_map,List.map_cons,List.head?_cons]at hc;cases hc
   intro hz;have:=congrArg UInt8.toNat hz;rw[MB]at this;have h1:=h0 zo;rw[show n+1-1=n by omega]at h1;rw[show n+1-1-0=n by omega]at this;have h2:v/256^n<256:=by rw[Nat.div_lt_iff_lt_mul (Nat.pow_pos zd)];rw[Nat.pow_succ,Nat.mul_comm]at h;exact h
   have h3:=Nat.div_pos h1 (Nat.pow_pos (n:=n) (show 0<256 by decide));rw[Nat.mod_eq_of_lt h2]at this;simp at this;omega
def Io (v:Nat):v<256^((bQ v+7)/8)/\(0<(bQ v+7)/8->256^((bQ v+7)/8-1)<=v):=by
 constructor
 . refine Nat.lt_of_lt_of_le (uL v) ?_;rw[show(256:Nat)=2^8 by rfl,<-Nat.pow_mul];exact Nat.pow_le_pow_right zd zo
 . intro h;have hv:v≠0:=by intro h0;subst h0;simp[bQ]at h
   have e:bQ v=Nat.log2 v+1:=by unfold bQ;rw[if_neg hv]
   refine Nat.le_trans ?_ (Nat.log2_self_le hv);rw[show(256:Nat)=2^8 by rfl,<-Nat.pow_mul];exact Nat.pow_le_pow_right zd zo
def aw7 (v:Nat):(nt v).length=(bQ v+7)/8:=by have h:=Io v;rw[<-WS v _ h.1 h.2];simp
def byte_of (v k:Nat):IntKind.u8.wrap ((dg v (k/8):Int)/2^(k%8*8))=((v/256^k%256:Nat):Int):=by
 have e:(dg v (k/8):Int)/2^(k%8*8)=((dg v (k/8)/2^(k%8*8):Nat):Int):=by simp[Int.natCast_pow]
 rw[e];have e2:dg v (k/8)/2^(k%8*8)%256=v/256^k%256:=by
  unfold dg;rw[Xh,<-Nat.div_div_eq_div_mul];generalize v/WW^(k/8)=x;have hW:WW=2^(k%8*8) *2^(64-k%8*8):=by rw[<-Nat.pow_add,mI];congr 1;omega
  rw[hW,Nat.mod_mul_right_div_self,Nat.mod_mod_of_dvd];rw[show(256:Nat)=2^8 by rfl];exact Nat.pow_dvd_pow 2 zo
 rw[<-e2];generalize dg v (k/8)/2^(k%8*8)=y;simp[IntKind.wrap,IntKind.signed,IntKind.bits]
def Ba (b o m cap v:Nat)(w:World)(hm:m<=1099511627776)(hcap:m<=cap)(hx:dO w b o m v)(hv:v<WW^m):
 Cv 260 #[.slice (some ⟨b,o,none⟩) m cap] w (ah (nt v)):=by
 have hle:=jM hv;have hbl:bQ v<=64*m:=kK (by rw[<-mJ];exact hv);have hmk:=yH (((bQ v:Int)+7)/8) ((bQ v+7)/8) zo zo;have Co:(bQ v+7)/8<=8*ln v:=by have h1:bQ v<=64*ln v:=kK (by rw[<-mJ];exact eU v);omega
 have uv:Hid ((List.range ((bQ v+7)/8)).map (λj=>UInt8.ofNat (v/256^((bQ v+7)/8-1-j)%256))=nt v):=WS _ _ (Io v).1 (Io v).2;generalize hn:(bQ v+7)/8=n at*;have hnb:n<=17592186044416:=by omega
 have Hn:=aj hn;have Vq:((bQ v:Int)+7)/8=(n:Int):=by omega
 rw[Vq]at hmk;clear hn;have Hx:=aj hx;clear hx;have Hv:=aj hv;clear hv;have zr:Hid (dO w b o (ln v) v):=Hx.out.less hle;go_enter Tryz.func260,Tryz.ntmps260;go_wp2_with fail;refine(mN b o m cap v _ zo hcap Hx.out Hv.out).mono ?_;rintro e w' ⟨rfl,rfl⟩;go_wp2_with fail;refine(ahl b o (ln v) cap v _ zo zo zr.out (eU v)).mono ?_;rintro e w' ⟨rfl,rfl⟩;go_wp2;go_loopw[5,15] (λ_ i wr=>∃k:Nat,k<=n/\i=af k/\ar wr w.heap.size 5 (cM n (λj=>if n-k<=j then v/256^(n-1-j)%256 else 0))/\Bw w wr) (λ_ i _=>n-(intOf i).toNat);case atStart=>
  refine⟨0,Nat.zero_le _,rfl,?_,zl⟩;have e:cM n (λj=>if n-0<=j then v/256^(n-1-j)%256 else 0)=cM n λ_=>0:=uo λj hj=>by rw[if_neg zo]
  rw[e];exact ar.new _ _ _
 case round=>
  obtain⟨k,hk,rfl,hB,hb⟩:=hrel;by_cases hlt:k<n
  . have lT:wr.cell? ⟨b,o+k/8,none⟩=some (.int .u64 (dg v (k/8):Int)):=cell_later hb (zr.out _ zo);have h8:k/8<ln v:=by omega
    have aDD:=byte_of v k;have hcell:wr.cell? ⟨w.heap.size,n-1-k,none⟩=some (.int .u8 0):=by rw[hB.cell,oJ _ _ _ zo,if_neg zo];rfl
    have hfree:wr.frozen? ⟨w.heap.size,n-1-k,none⟩=false:=hB.free _;have bP:=hB.set (n-1-k) (.int .u8 ((v/256^k%256:Nat):Int));have hb1:=hb.setCell (p:=⟨w.heap.size,n-1-k,none⟩) (Nat.le_refl _) (.int .u8 ((v/256^k%256:Nat):Int))
    rw[KV,uo (g:=λj=>if n-(k+1)<=j then v/256^(n-1-j)%256 else 0) λj hj=>by
     by_cases og:j=n-1-k
     . subst og;rw[if_pos rfl,if_pos zo,show n-1-(n-1-k)=k by omega]
     . rw[if_neg og];by_cases wK:n-k<=j
       . rw[if_pos wK,if_pos zo]
       . rw[if_neg wK,if_neg zo]]at bP
    obtain⟨fx,Hb⟩:=aK bP hb1;clear hB hb bP hb1;generalize v/256^k%256=Z at*;go_wp2;go_roundw;case rel=>exact⟨k+1,by omega,by go_num,fx.out,Hb.out⟩
    case measure=>exact bC
  . obtain rfl:k=n:=by omega
    rw[uo (g:=λj=>v/256^(k-1-j)%256) λj hj=>by rw[if_pos zo]]at hB;have tO:=yP hB k;rw[uv.out]at tO;have Hb:=aj hb;clear hb hB;go_wp2;go_ret;exact⟨rfl,Hb.out⟩
def ot {t e sz:Nat}(hu:Tryz.prog.underlying t=some (.slice e))(hs:(Tryz.prog.info? e).map (·.size)=some sz){a:Option Addr}{b o:Nat}(n cap k:Nat)(i:Int)
 (ha:a=some ⟨b,o,none⟩) (hk:k<n) (hi:i=k) (W:World):
 (Instr.indexAt t (.slice a n cap) (af i)).run Tryz.prog W=.ok (.pointer (some ⟨b,o+k*sz,none⟩)) W:=by
 subst ha;subst hi;obtain⟨inf,h1,h2⟩:=Option.map_eq_some_iff.1 hs;have hk':(0:Int)<=(k:Int)/\(k:Int)<(n:Int):=by omega
 have hadd:(⟨b,o,none⟩:Addr).add (k*sz)=⟨b,o+k*sz,none⟩:=by unfold Addr.add;split<;>simp_all
 simp[Instr.indexAt,run_underlying hu,asIntOf,hk,sizeOf,typeInfo,h1,h2,hadd]
abbrev Wm := @ot 100 30 3 Tryz.underlying100 zk
abbrev yw := @ot 172 5 1 Tryz.underlying172 zk
abbrev Kg := @ot 180 2 1 Tryz.underlying180 zk
abbrev ER := @ot 198 35 1 Tryz.underlying198 zk
abbrev sI := @ot 22 90 4 Tryz.underlying22 zk
abbrev ES := @ot 251 261 1 Tryz.underlying251 zk
abbrev sJ := @ot 26 36 1 Tryz.underlying26 zk
abbrev yx := @ot 261 28 2 Tryz.underlying261 zk
abbrev Kh := @ot 285 185 1 Tryz.underlying285 zk
abbrev mg := @ot 35 30 3 Tryz.underlying35 zk
abbrev yz := @ot 36 30 3 Tryz.underlying36 zk
abbrev ET := @ot 43 9 1 Tryz.underlying43 zk
abbrev auF := @ot 57 119 6 Tryz.underlying57 zk
abbrev EU := @ot 58 119 6 Tryz.underlying58 zk
abbrev Av := @ot 60 3 1 Tryz.underlying60 zk
abbrev CC := @ot 72 24 2 Tryz.underlying72 zk
def At (w:World)(a:Option Addr)(cs:List Value):Prop:=cs=[]\/∃b o,a=some ⟨b,o,none⟩/\∀j,j<cs.length->w.cell? ⟨b,o+j,none⟩=cs[j]?
def At.nil (w:World)(a:Option Addr):At w a []:=.inl rfl
def At.below {w w':World}{a:Option Addr}{cs:List Value}(h:At w a cs)(hb:Bw w w'):At w' a cs:=by
 rcases h with h|⟨b,o,ha,hc⟩
 . exact .inl h
 . refine .inr ⟨b,o,ha,λj hj=>?_⟩;have:=hc j hj;rw[List.getElem?_eq_getElem hj]at this⊢;exact cell_later hb this
def kA {w w':World}{a:Option Addr}{cs:List Value}(h:Hid (At w a cs))(k:Bw w w'):Hid (At w' a cs):=h.out.below k
def At.grown {w w':World}{a:Option Addr}{cs:List Value}{r:Option Nat}(h:At w a cs)(hb:w.grownBy w' r)(hr:∀b o,a=some ⟨b,o,none⟩->some b≠r):At w' a cs:=by
 rcases h with h|⟨b,o,ha,hc⟩
 . exact .inl h
 . refine .inr ⟨b,o,ha,λj hj=>?_⟩;have:=hc j hj;rw[List.getElem?_eq_getElem hj]at this⊢;exact hb.cell this (hr b o ha)
def At.get {w:World}{a:Option Addr}{cs:List Value}(h:At w a cs)(h0:cs≠[]):∃b o,a=some ⟨b,o,none⟩/\∀j,j<cs.length->w.cell? ⟨b,o+j,none⟩=cs[j]?:=by
 rcases h with h|h
 . exact absurd h h0
 . exact h
def At.lt {w:World}{b o:Nat}{cs:List Value}(h:At w (some ⟨b,o,none⟩) cs)(h0:cs≠[]):b<w.heap.size:=by
 obtain⟨b',o',ha,hc⟩:=h.get h0;cases ha
 have hp:0<cs.length:=List.length_pos_iff.2 h0;have:=hc 0 hp;rw[List.getElem?_eq_getElem hp]at this;exact World.block_lt_of_cell? w _ this
def DY (w:World)(a:Option Addr)(n v:Nat):Prop:=0<n->∃b o,a=some ⟨b,o,none⟩/\dO w b o n v
def DY.below {w w':World}{a:Option Addr}{n v:Nat}(h:DY w a n v)(hb:Bw w w'):DY w' a n v:=λh0=>
 let ⟨b,o,ha,hl⟩:=h h0;⟨b,o,ha,hl.below hb⟩
def ajp (a:Option Addr)(cap:Nat)(w:World):
 Cv 260 #[.slice a 0 cap] w (.string (bs [])):=by
 have hmk:=yH 0 0 rfl zo;have tO:=yP (ar.new w 5 (cM 0 λ_=>0)) 0;go_enter Tryz.func260,Tryz.ntmps260;go_wp2_with fail;refine(ab8 cap a _).mono ?_;rintro e w' ⟨rfl,rfl⟩;go_wp2_with fail;refine(avw a cap _).mono ?_;rintro e w' ⟨rfl,rfl⟩;go_wp2;refine wp_loop_rounds 1 ?_;rw[rounds_succ];go_wp2;go_ret;exact⟨rfl,zl⟩
def ajo (a:Option Addr)(m cap v:Nat)(w:World)(hm:m<=1099511627776)(hcap:m<=cap)(hx:DY w a m v)(hv:v<WW^m):
 Cv 260 #[.slice a m cap] w (ah (nt v)):=by
 rcases Nat.eq_zero_or_pos m with h|h
 . subst h;have:v=0:=by simpa using hv
   subst this;exact ajp a cap w
 . obtain⟨b,o,rfl,hl⟩:=hx h;exact Ba b o m cap v w hm hcap hl hv
def axl (n:Nat)(h:n<WW)(w:World):ar (w.alloc (.cells #[.int .u64 (n:Int)] 185)) w.heap.size 185 (bI 1 (dg n)):=by
 have e0:dg n 0=n:=by simp[dg,Nat.mod_eq_of_lt h]
 have e:bI 1 (dg n)=[.int .u64 (n:Int)]:=by simp[bI,e0]
 rw[e];exact ar.new _ _ _
def ahX (n:Nat)(h:n<WW)(w:World):
 Cv 206 #[.int .u64 (n:Int)] w (ah (nt n)):=by
 have hB:=axl n h w;have Hc:Hid (dO (w.alloc (.cells #[.int .u64 (n:Int)] 185)) w.heap.size 0 1 n):=λj hj=>by rw[Nat.zero_add,hB.cell,iq _ _ _ hj]
 have Hh:=aj h;clear h hB;go_enter Tryz.func206,Tryz.ntmps206;go_wp2_with (go_at_call 260;refine(Ba w.heap.size 0 1 1 n _ zo zo Hc.out (by rw[Nat.pow_one];exact Hh.out)).mono ?_;rintro e w' ⟨rfl,hb⟩);go_ret;exact⟨rfl,zl.trans (hb.mono zm)⟩
def apy (l:List UInt8)(k:Nat):(bs l).extract k (bs l).size=bs (l.drop k):=by rw[apA ((bs l).extract k (bs l).size)];congr 1;rw[jB];simp[bs,ByteArray.data_extract];rw[List.take_of_length_le zm]
def azs (l:List UInt8)(i:Int)(k:Nat)(hk:k<=l.length)(hi:i=k)(W:World):
 (Instr.sliceAt 9 (ah l) (some (af i)) none none).run Tryz.prog W=.ok (ah (l.drop k)) W:=by
 subst hi;have h:=run_slice_string_from_if (P:=Tryz.prog) W 9 (bs l) .i64 k Tryz.underlying9;rw[if_pos (by rw[jB];omega)]at h;simp only[Int.toNat_natCast,apy l k]at h;simpa[Instr.sliceAt,run_underlying Tryz.underlying9]using h
def aAK (l:List UInt8)(w:World)(_hs:l.length<=1099511627776):
 Cl 313 #[ah l,.int .u8 0] w λe w'=>e=.returned (ah (nt (nv l)))/\w=w':=by
 go_enter Tryz.func313,Tryz.ntmps313;go_wp2;go_loop [0] (λx=>∃m:List UInt8,m.length<=l.length/\nv m=nv l/\x=ah m) (λx=>match x with| .string s=>s.size|_=>0)
 case atStart=>exact⟨l,Nat.le_refl _,rfl,rfl⟩
 case round=>
  obtain⟨m,hm,hv,rfl⟩:=hrel;have Hv:=aj hv;clear hv;have hsz:=jB m;cases m with
  | nil=>
    go_wp2;go_ret;have e:nt (nv l)=[]:=by rw[<-Hv.out];rfl
    rw[e];exact⟨rfl,rfl⟩
  | cons c m=>
    have iJ:=Aw (c::m) 0 0 zm rfl;have hsl:=azs (c::m) 1 1 zm rfl;simp only[List.getElem_cons_zero,List.drop_succ_cons,List.drop_zero]at iJ hsl;have sF:0<m.length+1:=by omega
    have jA:Hid (m.length+1<=l.length):=hm;rw[List.length_cons]at hsz hm;by_cases hc:c=0
    . have hct:((c.toNat:Int)==0)=true:=by rw[hc];rfl
      have Hn:Hid (nv m=nv l):=by
       show nv m=nv l
       rw[<-Hv.out,wW,hc];simp
      clear hc;go_wp2;refine⟨⟨m,by have:=jA.out;omega,Hn.out,rfl⟩,?_⟩;simp[jB]
    . have hcn:c.toNat≠0:=λh0=>hc (UInt8.toNat_inj.1 (by simpa using h0));have hct:((c.toNat:Int)==0)=false:=by rw[beq_eq_false_iff_ne];omega
      have He:Hid (nt (nv l)=c::m):=by
       show nt (nv l)=c::m
       rw[<-Hv.out];exact ah5 _ (λx hx=>by simp at hx;subst hx;exact hc)
      clear hc hcn;go_wp2;go_ret;rw[He.out];exact⟨rfl,rfl⟩
def aAA (a:ByteArray)(k i:Nat)(hk:a.size-i=k)(r:List UInt8):ByteArray.toList.loop a i r=r.reverse++a.data.toList.drop i:=by
 induction k generalizing i r with
 |zero=>unfold ByteArray.toList.loop;rw[if_neg zo,List.drop_eq_nil_of_le zi,List.append_nil]
 | succ k ih=>
   unfold ByteArray.toList.loop;have hi:i<a.size:=by omega
   have hi':i<a.data.toList.length:=by simpa using hi
   rw[if_pos hi,ih (i+1) zo,List.drop_eq_getElem_cons hi',List.reverse_cons,List.append_assoc];congr 2;simp[ByteArray.get!,hi]
def jT (l:List UInt8):(bs l).toList=l:=by
 show ByteArray.toList.loop (bs l) 0 []=l
 rw[aAA _ _ _ rfl,apx];simp
def vZ (l:List UInt8):(bs l).toList.isEmpty=l.isEmpty:=by rw[jT]
def aAL (l:List UInt8)(w:World)(hs:l.length<=1099511627776):
 Cl 297 #[ah l,.string ⟨#[0]⟩] w λe w'=>e=.returned (ah (nt (nv l)))/\w=w':=by
 cases l with
 |nil=>have hne:=vZ [];simp only[List.isEmpty_nil]at hne;go_enter Tryz.func297,Tryz.ntmps297;go_wp2;go_ret;exact⟨rfl,rfl⟩
 |cons c m=>have hne:=vZ (c::m);simp only[List.isEmpty_cons]at hne;go_enter Tryz.func297,Tryz.ntmps297;go_wp2_with (go_at_call 313;refine(aAK _ _ hs).mono ?_;rintro e w' ⟨rfl,rfl⟩);go_ret;exact⟨rfl,rfl⟩
def ajw (l:List UInt8)(w:World)(hs:l.length<=1099511627776):
 Cl 261 #[ah l] w λe w'=>e=.returned (ah (nt (nv l)))/\w=w':=by
 go_enter Tryz.func261,Tryz.ntmps261;go_wp2_with (go_at_call 297;refine(aAL _ _ hs).mono ?_;rintro e w' ⟨rfl,rfl⟩);go_ret;exact⟨rfl,rfl⟩
def ar.lim {w:World}{b:Nat}{t:TypeId}{N v:Nat}(h:ar w b t (bI N (dg v)))(n:Nat)(hn:n<=N):dO w b 0 n v:=
 λj hj=>by rw[Nat.zero_add,h.cell,iq _ _ _ zo]
def awQ (l m:List UInt8)(w:World)(hl:l.length<=68719476736)(hm:m.length<=68719476736):
 Cv 306 #[ah l,ah m] w (af (dx (nv l) (nv m))):=by
 go_enter Tryz.func306,Tryz.ntmps306;go_wp2_with fail;refine(oC l _ zo).mono ?_;rintro e w1 ⟨rfl,bP,hb1,gj⟩;obtain⟨dK,cj⟩:=aK bP hb1;clear bP hb1;go_wp2_with fail;refine(oC m _ zo).mono ?_;rintro e w2 ⟨rfl,dF,hb2,pH⟩;obtain⟨fw,cX⟩:=aK dF hb2;clear dF hb2;go_wp2_with fail;refine(CF w.heap.size 0 (ln (nv l)) ((l.length+7)/8) (nv l) w1.heap.size 0 (ln (nv m)) ((m.length+7)/8) (nv m) _ zo gj ((dK.out.below cX.out).lim _ gj) (eU _) zo pH (fw.out.lim _ pH) (eU _)).mono ?_;rintro e w3 ⟨rfl,hb3⟩;have fV:=aj hb3;clear hb3;go_wp2;go_ret;exact⟨rfl,(cj.out.trans (cX.out.mono cj.out.size)).trans (fV.out.mono (Nat.le_trans cj.out.size cX.out.size))⟩
def WN (l:List UInt8)(w:World)(hl:l.length<=68719476736):
 Cv 211 #[ah l] w (af (bQ (nv l):Int)):=by
 go_enter Tryz.func211,Tryz.ntmps211;go_wp2_with fail;refine(oC l _ zo).mono ?_;rintro e w1 ⟨rfl,bP,hb1,gj⟩;obtain⟨dK,cj⟩:=aK bP hb1;clear bP hb1;go_wp2_with fail;refine(ahl w.heap.size 0 (ln (nv l)) ((l.length+7)/8) (nv l) _ zo gj (dK.out.lim _ gj) (eU _)).mono ?_;rintro e w3 ⟨rfl,rfl⟩;go_wp2;go_ret;exact⟨rfl,cj.out⟩
def tz (v:Nat):Nat:=((v:Int)).trailingZeros
def ajz (k m:Nat):tz (2^k* (2*m+1))=k:=by
 unfold tz;have e:((2^k* (2*m+1):Nat):Int)=(2* (m:Int)+1)<<<k:=by rw[Int.shiftLeft_eq];simp[Int.natCast_mul,Int.natCast_pow,Int.mul_comm]
 rw[e,Int.trailingZeros_shiftLeft zo,Int.trailingZeros_two_mul_add_one,Nat.zero_add]
def aAN (v i:Nat)(h0:v%WW^i=0)(hd:dg v i≠0):tz v=64*i+Lib.ctz 64 (dg v i):=by
 obtain⟨m,hm,hlt⟩:=ab7 (dg v i) (kj v i) hd;generalize Lib.ctz 64 (dg v i)=c at*;have e1:v=WW^i* (v/WW^i):=by have:=(Nat.mod_add_div v (WW^i)).symm;rw[h0,Nat.zero_add]at this;exact this
 have e2:v/WW^i=dg v i+WW* (v/WW^i/WW):=(Nat.mod_add_div _ _).symm;have e3:WW=2^c* (2*2^(63-c)):=by rw[<-Nat.pow_succ',<-Nat.pow_add,mI];congr 1;omega
 have e4:v=2^(64*i+c) * (2* (m+2^(63-c) * (v/WW^i/WW))+1):=by
  conv=>lhs;rw[e1,e2,hm]
  rw[Nat.pow_add,<-mJ,Nat.mul_assoc];congr 1;generalize v/WW^i/WW=y;conv=>lhs;rw[e3]
  rw[Nat.mul_assoc,<-Nat.mul_add];congr 1;rw[Nat.mul_add,Nat.mul_assoc];omega
 rw[e4];exact ajz _ _
def WO (l:List UInt8)(w:World)(hl:l.length<=68719476736)(hT:aC w):
 Cv 212 #[ah l] w (af (tz (nv l):Int)):=by
 have HT:=aj hT;clear hT;go_enter Tryz.func212,Tryz.ntmps212;go_wp2_with fail;refine(oC l _ zo).mono ?_;rintro e w1 ⟨rfl,bP,hb1,gj⟩;obtain⟨dK,cj⟩:=aK bP hb1;clear bP hb1;have hn:ln (nv l)<=549755813888:=by omega
 have tj:Hid (nv l<WW^ln (nv l)):=eU _;generalize hvv:nv l=v at*;have HV:=aj hvv;clear hvv;go_wp2;go_loop [3,4,8] (λ_ _ i=>∃k:Nat,k<=ln v/\i=af k/\v%WW^k=0) (λ_ _ i=>ln v-(intOf i).toNat)
 case atStart=>exact⟨0,Nat.zero_le _,rfl,by simp[Nat.mod_one]⟩
 case round=>
  obtain⟨k,hk,rfl,hz⟩:=hrel;have Hz:=aj hz;clear hz;by_cases hlt:k<ln v
  . have hcell:w1.cell? ⟨w.heap.size,k,none⟩=some (.int .u64 (dg v k:Int)):=by have:=dK.out.lim _ gj k hlt;rwa [Nat.zero_add]at this
    by_cases hd:dg v k=0
    . have hd':((dg v k:Int) !=0)=false:=by simp[hd]
      have Hd:=aj hd;clear hd;go_wp2;go_round
      case rel=>exact⟨k+1,by omega,by go_num,by rw[CJ,Hz.out,Hd.out];simp⟩
      case measure=>exact bC
    . have hd':((dg v k:Int) !=0)=true:=by rw[bne_iff_ne];omega
      have Hd:=aj hd;clear hd;obtain⟨dD,iu⟩:=aK (HT.out.below cj.out) (aAN v k Hz.out Hd.out);have hct:Lib.ctz 64 (dg v k)<64:=by obtain⟨_,_,h⟩:=ab7 (dg v k) (kj v k) Hd.out;exact h
      go_wp2_with (go_at_call 266;refine(aAM _ (kj _ _) Hd.out _ dD.out).mono ?_;rintro e w' ⟨rfl,rfl⟩);go_ret;rw[HV.out,iu.out];exact⟨congrArg (λz:Int=>Ending.returned (af z)) zo,cj.out⟩
  . have eu:Hid (v=0):=by have:=Hz.out;rwa [Nat.mod_eq_of_lt (Nat.lt_of_lt_of_le tj.out (Nat.pow_le_pow_right kg zo))]at this
    go_wp2;go_ret;rw[HV.out,eu.out];exact⟨rfl,cj.out⟩
def Mo (l:List UInt8):nv l<WW^((l.length+7)/8):=by refine Nat.lt_of_lt_of_le (jH l) ?_;rw[mJ,show(256:Nat)=2^8 by rfl,<-Nat.pow_mul];exact Nat.pow_le_pow_right zd zo
def ahY (l m:List UInt8)(w:World)(hl:l.length<=68719476736)(hm:m.length<=68719476736)(h:nv m<=nv l):
 Cv 284 #[ah l,ah m] w (.tuple #[ah (nt (nv l-nv m)),ag true]):=by
 have hc0:0<=dx (nv l) (nv m):=by unfold dx;rw[if_neg zo];split<;>omega
 have Hh:=aj h;clear h;go_enter Tryz.func284,Tryz.ntmps284;go_wp2_with fail;refine(oC l _ zo).mono ?_;rintro e w1 ⟨rfl,bP,hb1,gj⟩;obtain⟨dK,cj⟩:=aK bP hb1;clear bP hb1;go_wp2_with fail;refine(oC m _ zo).mono ?_;rintro e w2 ⟨rfl,dF,hb2,pH⟩;obtain⟨fw,cX⟩:=aK dF hb2;clear dF hb2;go_wp2_with fail;refine(CF w.heap.size 0 (ln (nv l)) ((l.length+7)/8) (nv l) w1.heap.size 0 (ln (nv m)) ((m.length+7)/8) (nv m) _ zo gj ((dK.out.below cX.out).lim _ gj) (eU _) zo pH (fw.out.lim _ pH) (eU _)).mono ?_;rintro e w3 ⟨rfl,hb3⟩;have fV:=aj hb3;clear hb3;go_wp2_with fail;refine(Ko w.heap.size ((l.length+7)/8) 0 (ln (nv l)) ((l.length+7)/8) (dg (nv l)) (nv l) w1.heap.size 0 (ln (nv m)) ((m.length+7)/8) (nv m) _ zo zo ((dK.out.below cX.out).below fV.out) zo (λj _=>by rw[Nat.zero_add]) ((fw.out.below fV.out).lim _ pH) (eU _) (by have:=dK.out.lt;omega) Hh.out (eU _)).mono ?_;rintro e w4 ⟨rfl,hB4,hg4⟩;have HL:Hid (dO w4 w.heap.size 0 (ln (nv l)) (nv l-nv m)):=λj hj=>by rw[hB4.cell,iq _ _ _ zo,Ky _ _ _ _ _ hj]
 have Hg4:=aj hg4;clear hB4 hg4;go_wp2_with fail;refine(Ba w.heap.size 0 (ln (nv l)) ((l.length+7)/8) (nv l-nv m) _ zo gj HL.out (Nat.lt_of_le_of_lt (Nat.sub_le _ _) (eU _))).mono ?_;rintro e w5 ⟨rfl,di⟩;have gW:=aj di;clear di;go_wp2;go_ret2
 refine⟨rfl,?_⟩;have s1:=cj.out.size;have s2:=cX.out.size;have s3:=fV.out.size;have b3:=((cj.out.trans (cX.out.mono s1)).trans (fV.out.mono (Nat.le_trans s1 s2)));have b4:=b3.grown Hg4.out b3.size (λk hk=>by cases hk;exact Nat.le_refl _);exact b4.trans (gW.out.mono b4.size)
def awV (l:List UInt8)(n:Nat)(w:World)(hl:l.length<=68719476736)(hn:n<=549755813888):
 Cv 209 #[ah l,af (n:Int)] w (ah (nt (nv l*2^n))):=by
 have hmax:max (n:Int) 0=(n:Int):=by omega
 go_enter Tryz.func209,Tryz.ntmps209;go_wp2_with fail;refine(oC l _ zo).mono ?_;rintro e w1 ⟨rfl,bP,hb1,gj⟩;obtain⟨dK,cj⟩:=aK bP hb1;clear bP hb1;go_wp2_with fail;refine(Yt w.heap.size 0 (ln (nv l)) ((l.length+7)/8) (nv l) n _ zo hn (dK.out.lim _ gj) (eU _)).mono ?_;rintro e w2 ⟨rfl,dF,hb2,pH⟩;obtain⟨fw,cX⟩:=aK dF hb2;clear dF hb2;go_wp2_with fail;refine(Ba w1.heap.size 0 (ln (nv l*2^n)) (ln (nv l)+n/64+1) (nv l*2^n) _ zo pH (fw.out.lim _ pH) (eU _)).mono ?_;rintro e w3 ⟨rfl,hb3⟩;have fV:=aj hb3;clear hb3;go_wp2;go_ret;exact⟨rfl,(cj.out.trans (cX.out.mono cj.out.size)).trans (fV.out.mono (Nat.le_trans cj.out.size cX.out.size))⟩
def awW (l:List UInt8)(n:Nat)(w:World)(hl:l.length<=68719476736)(hn:n<=1099511627776):
 Cv 210 #[ah l,af (n:Int)] w (ah (nt (nv l/2^n))):=by
 have hmax:max (n:Int) 0=(n:Int):=by omega
 by_cases hlt:n/64<ln (nv l)
 . go_enter Tryz.func210,Tryz.ntmps210;go_wp2_with fail;refine(oC l _ zo).mono ?_;rintro e w1 ⟨rfl,bP,hb1,gj⟩;obtain⟨dK,cj⟩:=aK bP hb1;clear bP hb1;go_wp2_with fail;refine(acu w.heap.size 0 (ln (nv l)) ((l.length+7)/8) (nv l) n _ zo gj hn (dK.out.lim _ gj) (eU _) hlt).mono ?_;rintro e w2 ⟨rfl,dF,hb2,pH⟩;obtain⟨fw,cX⟩:=aK dF hb2;clear dF hb2;go_wp2_with fail;refine(Ba w1.heap.size 0 (ln (nv l/2^n)) (ln (nv l)-n/64) (nv l/2^n) _ zo pH (fw.out.lim _ pH) (eU _)).mono ?_;rintro e w3 ⟨rfl,hb3⟩;have fV:=aj hb3;clear hb3;go_wp2;go_ret;exact⟨rfl,(cj.out.trans (cX.out.mono cj.out.size)).trans (fV.out.mono (Nat.le_trans cj.out.size cX.out.size))⟩
 . have H0:Hid (nt (nv l/2^n)=[]):=by
    show nt (nv l/2^n)=[]
    rw[WR];refine Nat.div_eq_of_lt (Nat.lt_of_lt_of_le (eU _) ?_);rw[mJ];exact Nat.pow_le_pow_right zd zo
   go_enter Tryz.func210,Tryz.ntmps210;go_wp2_with fail;refine(oC l _ zo).mono ?_;rintro e w1 ⟨rfl,bP,hb1,gj⟩;obtain⟨dK,cj⟩:=aK bP hb1;clear bP hb1;go_wp2_with fail;refine(acv _ (ln (nv l)) ((l.length+7)/8) n _ zo hn zo).mono ?_;rintro e w2 ⟨rfl,rfl⟩;go_wp2_with fail;refine(ajp none 0 _).mono ?_;rintro e w3 ⟨rfl,hb3⟩;have fV:=aj hb3;clear hb3;go_wp2;go_ret;rw[H0.out];exact⟨rfl,cj.out.trans (fV.out.mono cj.out.size)⟩
def aww (v u k:Nat)(o:Nat):v%WW^k*u+dg v k*u*WW^k=v%WW^(k+1) *u/\o=o:=by refine⟨?_,rfl⟩;rw[CJ,Nat.add_mul,Nat.mul_comm (WW^k),Nat.mul_assoc,Nat.mul_assoc,Nat.mul_comm u]
def awU (l m:List UInt8)(w:World)(hl:l.length<=68719476736)(hm:m.length<=68719476736):
 Cv 277 #[ah l,ah m] w (ah (nt (nv l*nv m))):=by
 go_enter Tryz.func277,Tryz.ntmps277;go_wp2_with fail;refine(oC l _ zo).mono ?_;rintro e w1 ⟨rfl,bP,hb1,gj⟩;obtain⟨dK,cj⟩:=aK bP hb1;clear bP hb1;go_wp2_with fail;refine(oC m _ zo).mono ?_;rintro e w2 ⟨rfl,dF,hb2,pH⟩;obtain⟨fw,cX⟩:=aK dF hb2;clear dF hb2;have DC:Hid (nv l<WW^ln (nv l)):=eU _;have Hlu:Hid (nv m<WW^ln (nv m)):=eU _;generalize hv:nv l=v at*;generalize hu:nv m=u at*;obtain⟨HV,HU⟩:=aK hv hu;clear hv hu;have hmk:=CI ((ln v:Int)+(ln u:Int)+1) (ln v+ln u+1) zo zo;generalize hM:ln v+ln u+1=M at*;have Cb:ln v+ln u+1<=M:=by omega
 have uU:M<=ln v+ln u+1:=by omega
 have HM:=aj hM;clear hM;have aD9:w.heap.size<w2.heap.size:=by have:=dK.out.lt;have:=cX.out.size;omega
 have aEa:w1.heap.size<w2.heap.size:=fw.out.lt;go_wp2;go_loopw[8,9,23] (λ_ _ i wr=>∃k:Nat,k<=ln v/\i=af k/\ar wr w2.heap.size 185 (bI M (dg (v%WW^k*u)))/\Bw w2 wr) (λ_ _ i _=>ln v-(intOf i).toNat);case atStart=>
  refine⟨0,Nat.zero_le _,rfl,?_,zl⟩;have e:bI M (dg (v%WW^0*u))=bI M λ_=>0:=lD λj _=>by simp[dg,Nat.mod_one]
  rw[e];exact ar.new _ _ _
 case round=>
  obtain⟨k,hk,rfl,hB,hb⟩:=hrel;by_cases hlt:k<ln v
  . have hcell:wr.cell? ⟨w.heap.size,k,none⟩=some (.int .u64 (dg v k:Int)):=by have:=(((dK.out.below cX.out).below hb).lim _ gj) k hlt;rwa [Nat.zero_add]at this
    have hcap:¬M=k:=by omega
    have HY:Hid (dO wr w1.heap.size 0 (ln u) u):=(fw.out.below hb).lim _ pH;obtain⟨HB,Hb⟩:=aK hB hb;clear hB hb;go_wp2_with fail;refine(OS w2.heap.size M k (M-k) (M-k) (dg (v%WW^k*u)) (v%WW^k*u/WW^k) w1.heap.size 0 (ln u) ((m.length+7)/8) u (dg v k) _ zo zo HB.out zo (λj _=>(MM _ _ _).symm) HY.out Hlu.out zo (kj _ _)).mono ?_;rintro e w4 ⟨rfl,hB4,hg4⟩;have fx:Hid (ar w4 w2.heap.size 185 (bI M (dg (v%WW^(k+1) *u)))):=by
     show ar w4 w2.heap.size 185 (bI M (dg (v%WW^(k+1) *u)))
     rw[lD (g:=gV (dg (v%WW^k*u)) k (M-k) (dg (v%WW^k*u/WW^k+u*dg v k))) λj hj=>?_]
     . exact hB4
     . have hval:=(aww v u k 0).1;unfold gV;by_cases hjk:k<=j
       . rw[if_pos zo];have e1:v%WW^k*u/WW^k+u*dg v k=v%WW^(k+1) *u/WW^k:=by rw[<-hval,Nat.mul_comm _ (WW^k),Nat.add_mul_div_left _ _ (dU k),Nat.mul_comm u]
         rw[e1,MM,show k+(j-k)=j by omega]
       . rw[if_neg zo,<-acr (n:=k) (show j<k by omega),<-hval,Nat.add_mul_mod_self_right,acr (show j<k by omega)]
    have vQ:Hid (Bw w2 w4):=Hb.out.grown hg4 Hb.out.size (λj hj=>by cases hj;exact Nat.le_refl _);clear hB4 hg4;go_wp2;go_roundw;case rel=>exact⟨k+1,by omega,by go_num,fx.out,vQ.out⟩
    case measure=>exact bC
  . obtain rfl:k=ln v:=by omega
    rw[Nat.mod_eq_of_lt DC.out]at hB;obtain⟨HB,Hb⟩:=aK hB hb;clear hB hb;have Hvu:Hid (v*u<WW^M):=by
     show v*u<WW^M
     refine Nat.lt_of_lt_of_le (Nat.mul_lt_mul'' DC.out Hlu.out) ?_;rw[<-Nat.pow_add];exact Nat.pow_le_pow_right kg zo
    go_wp2_with fail;refine(Ba w2.heap.size 0 M M (v*u) _ zo (Nat.le_refl _) (HB.out.lim _ (Nat.le_refl _)) Hvu.out).mono ?_;rintro e w5 ⟨rfl,di⟩;have gW:=aj di;clear di;go_wp2;go_ret;rw[HV.out,HU.out];have b3:=(cj.out.trans (cX.out.mono cj.out.size)).trans (Hb.out.mono (Nat.le_trans cj.out.size cX.out.size));exact⟨rfl,b3.trans (gW.out.mono b3.size)⟩
def kz (xs:List (List UInt8)):Nat:=(xs.map nv).sum
def aw3 (xs:List (List UInt8))(B:Nat)(h:∀l∈xs,l.length<=B):kz xs<=xs.length*256^B:=by
 unfold kz;induction xs with
 |nil=>simp
 |cons l xs ih=>have h1:=jH l;have h2:256^l.length<=256^B:=Nat.pow_le_pow_right zd (h l zm);have h3:=ih (λm hm=>h m (by simp[hm]));simp only[List.map_cons,List.sum_cons,List.length_cons];rw[Nat.add_mul,Nat.one_mul];omega
def avz (xs:List (List UInt8))(B N:Nat)(h:∀l∈xs,l.length<=B)(hx:xs.length<=1048576)(hN:8*B+20<64*N):ln (kz xs)<=N:=by refine jM (Nat.lt_of_le_of_lt (aw3 xs _ h) ?_);refine Nat.lt_of_le_of_lt (Nat.mul_le_mul_right _ hx) ?_;rw[mJ,show(256:Nat)=2^8 from rfl,<-Nat.pow_mul,show(1048576:Nat)=2^20 from rfl,<-Nat.pow_add];exact Nat.pow_lt_pow_right zd zo
def avy (xs:List (List UInt8))(h:∀l∈xs,l.length<=68719476736)(hx:xs.length<=1048576):ln (kz xs)<=8589934593:=
 avz xs 68719476736 8589934593 h hx zd
def aw4 (xs:List (List UInt8))(k:Nat)(hk:k<xs.length):kz (xs.take (k+1))=kz (xs.take k)+nv xs[k]:=by unfold kz;rw[List.take_succ_eq_append_getElem hk,List.map_append,List.sum_append];simp
def awO (xs:List (List UInt8))(a:Option Addr)(cap:Nat)(w:World)(hl:∀l∈xs,l.length<=68719476736)(hx:xs.length<=1048576)
 (ha:At w a (xs.map λl=>ah l)):
 Cv 282 #[.slice a xs.length cap] w (ah (nt (kz xs))):=by
 have Hl:=aj hl;clear hl;have Ha:=aj ha;clear ha;have hs0:∀k,ln (kz (xs.take k))<=8589934593:=λk=>avy _ (λl hm=>Hl.out l (List.mem_of_mem_take hm)) (by rw[List.length_take];omega);have Mf:=aj hs0;clear hs0;go_enter Tryz.func282,Tryz.ntmps282;go_wp2
 go_loopw[3,5,6,9] (λs _ _ i wr=>∃(k:Nat) (a1:Option Addr) (c1:Nat),k<=xs.length/\i=af k/\s=.slice a1 (ln (kz (xs.take k))) c1/\ln (kz (xs.take k))<=c1/\
  DY wr a1 (ln (kz (xs.take k))) (kz (xs.take k))/\Bw w wr) (λ_ _ _ i _=>xs.length-(intOf i).toNat)
 case atStart=>exact⟨0,none,0,Nat.zero_le _,rfl,rfl,by simp[kz,Wx],λh=>by simp[kz,Wx]at h,Below.refl _ _⟩
 case round=>
  obtain⟨k,a1,c1,hk,rfl,rfl,hc1,hL,hb⟩:=hrel;have hlen:=Mf.out k;by_cases hlt:k<xs.length
  . have hne:(xs.map λl=>Value.string (bs l))≠[]:=by intro h0;have:=congrArg List.length h0;simp at this;subst this;simp at hlt
    obtain⟨b,o,hab,hcs⟩:=(Ha.out.below hb).get hne;have hcell:wr.cell? ⟨b,o+k,none⟩=some (.string (bs xs[k])):=by rw[hcs k (by simpa using hlt)];simp[hlt]
    have bD:=ET xs.length cap k (k:Int) hab hlt rfl;clear hcs hne;have qo:Hid (xs[k].length<=68719476736):=Hl.out _ (List.getElem_mem hlt);obtain⟨bR,kF⟩:=aK (aw4 xs k hlt) hab;clear hab;have hlen':=Mf.out (k+1);rw[bR.out]at hlen';have aCi:=aj hlen';clear hlen';generalize xs[k]=x at*;generalize hS:kz (xs.take k)=S at*;have HS:=aj hS;clear hS;obtain⟨HL,Hb⟩:=aK hL hb;clear hL hb;go_wp2_with fail;refine(oC x _ (by have:=qo.out;omega)).mono ?_;rintro e w1 ⟨rfl,bP,hb1,gj⟩;obtain⟨dK,cj⟩:=aK bP hb1;clear bP hb1;have hx1:ln (nv x)<=8589934593:=by have:=qo.out;omega
    have amg:=aj gj;clear gj;have Hlx:Hid (nv x<WW^ln (nv x)):=eU _;have rR:Hid (S<WW^ln S):=eU _;generalize hX:nv x=X at*;have HX:=aj hX;clear hX;have hmax:max (ln S:Int) (ln X:Int)=((max (ln S) (ln X):Nat):Int):=by omega
    have hM0:max (ln S) (ln X)<=8589934593:=by omega
    generalize IX:max (ln S) (ln X)=M at*;have Cb:ln S<=M:=by omega
    have uU:ln X<=M:=by omega
    have HMM:=aj IX;clear IX;go_wp2_with fail;refine(Tb a1 (ln S) c1 S ((M:Int)+1) _ zo zo zo (HL.out.below cj.out) rR.out).mono ?_;rintro e w2 ⟨rfl,dF,hb2⟩;rw[show max ((M:Int)+1).toNat (ln S)=M+1 by omega]at dF⊢;obtain⟨fw,cX⟩:=aK dF hb2;clear dF hb2;go_wp2_with fail;refine(avd w1.heap.size (M+1) 0 (M+1) (M+1) (dg S) S wr.heap.size 0 (ln X) ((x.length+7)/8) X _ zo zo fw.out zo (λj _=>by rw[Nat.zero_add]) ((dK.out.below cX.out).lim _ amg.out) Hlx.out (by have:=dK.out.lt;omega)).mono ?_;rintro e w3 ⟨rfl,mS,hg3⟩;have Gd:Hid (dO w3 w1.heap.size 0 (M+1) (S+X)):=λj hj=>by rw[mS.cell,iq _ _ _ zo,Ky _ _ _ _ _ hj]
    have ZV:=aj hg3;clear mS hg3;have Rn:Hid (S+X<WW^(M+1)):=by
     show S+X<WW^(M+1)
     have a1:=Nat.lt_of_lt_of_le rR.out (Nat.pow_le_pow_right kg Cb);have a2:=Nat.lt_of_lt_of_le Hlx.out (Nat.pow_le_pow_right kg uU);have a3:2*WW^M<=WW^(M+1):=by rw[Nat.pow_succ,Nat.mul_comm];exact Nat.mul_le_mul_left _ zd
     omega
    go_wp2_with fail;refine(mN w1.heap.size 0 (M+1) (M+1) (S+X) _ zo (Nat.le_refl _) Gd.out Rn.out).mono ?_;rintro e w4 ⟨rfl,rfl⟩;have fV:Hid (Bw w w3):=by have s1:=cj.out.size;have s2:=cX.out.size;have s0:=Hb.out.size;have b2:=(Hb.out.trans (cj.out.mono s0)).trans (cX.out.mono (Nat.le_trans s0 s1));exact b2.grown ZV.out b2.size (λj hj=>by cases hj;omega)
    go_wp2;go_roundw;case rel=>
     refine⟨k+1,some ⟨w1.heap.size,0,none⟩,M+1,by omega,by go_num,?_,?_,?_,fV.out⟩
     . rw[bR.out]
     . rw[bR.out];exact jM Rn.out
     . rw[bR.out];exact λ_=>⟨_,_,rfl,Gd.out.less (jM Rn.out)⟩
    case measure=>exact bC
  . obtain rfl:k=xs.length:=by omega
    rw[List.take_length]at*;obtain⟨HL,Hb⟩:=aK hL hb;clear hL hb;go_wp2_with fail;refine(ajo a1 (ln (kz xs)) c1 (kz xs) _ zo hc1 HL.out (eU _)).mono ?_;rintro e w5 ⟨rfl,di⟩;have gW:=aj di;clear di;go_wp2;go_ret;exact⟨rfl,Hb.out.trans (gW.out.mono Hb.out.size)⟩
def aq8 (h lo y:Nat)(w:World)(hy1:9223372036854775808<=y)(hy:y<WW)(hh:h<y)(hl:lo<WW)(h0:0<h):
 Cl 320 #[.int .u64 (h:Int),.int .u64 (lo:Int),.int .u64 (y:Int)] w λe w'=>∃r,e=.returned (.tuple #[.int .u64 (((h*WW+lo)/y:Nat):Int),.int .u64 r])/\Bw w w':=by
 have hb:bQ y=64:=by have h1:bQ y<=64:=kK (by rw[mI]at hy;exact hy);have h2:=Mx (v:=y) (k:=63) (by have:(2:Nat)^63=9223372036854775808:=(by rfl);omega);omega
 have JD:∀W,Cl 299 #[.int .u64 (y:Int)] W λe w'=>e=.returned (af 0)/\W=w':=λW=>by have:=WE y W hy;rw[hb]at this;exact this
 rw[ke]at*;obtain⟨n1,gA⟩:=aB (y/4294967296);obtain⟨n0,hn0⟩:=aB (y%4294967296);obtain⟨u1,hu1⟩:=aB (lo/4294967296);obtain⟨u0,hu0⟩:=aB (lo%4294967296);have hlo:u1*4294967296+u0=lo:=by rw[<-hu1,<-hu0,Nat.mul_comm];exact Nat.div_add_mod _ _
 have Kf:n1*4294967296+n0=y:=by rw[<-gA,<-hn0,Nat.mul_comm];exact Nat.div_add_mod _ _
 have e1:(y:Int)/4294967296=(n1:Int):=by omega
 have e3:(lo:Int)/4294967296=(u1:Int):=by omega
 have e5:((h:Int)==0)=false:=by simp;omega
 have e6:((y:Int)==0)=false:=by simp;omega
 have e7:(lo:Int)/18446744073709551616=0:=by omega
 have ea:=MulX.maskN y hy;have eb:=MulX.maskN lo hl;rw[hn0]at ea;rw[hu0]at eb;have ec:bits BinOp.or IntKind.u64 (h:Int) 0=(h:Int):=by have:=bits_or_u64_nat h 0 zo zd;simpa using this
 obtain⟨s1,s2,s3,s4⟩:=acw h n1 n0 u1 zo zo zo zo zo;obtain⟨q,hq⟩:=aB (h/n1);obtain⟨r,hr⟩:=aB (h%n1);obtain⟨P,hP⟩:=aB (q*n1);rw[hq,hr]at s3;rw[hq]at s1 s2;rw[hr]at s4;have f1:(h:Int).tdiv (n1:Int)=(q:Int):=by rw[<-hq];rfl
 have f2:IntKind.u64.wrap (q:Int)=(q:Int):=by rw[IntKind.wrap_u64];omega
 have f3:IntKind.u64.wrap ((q:Int) * (n1:Int))=(P:Int):=by rw[<-Int.natCast_mul,hP,IntKind.wrap_u64];rw[hP]at s3;omega
 have f4:IntKind.u64.wrap ((h:Int)-(P:Int))=(r:Int):=by rw[IntKind.wrap_u64];rw[hP]at s3;omega
 have aD7:(n1:Int)≠0:=by omega
 have afD:((n1:Int)==0)=false:=by simp;omega
 rw[Kf]at s1;obtain⟨DD,hD⟩:=aB ((h*4294967296+u1)/y);obtain⟨v,hv⟩:=aB ((h*4294967296+u1)%y);obtain⟨E,hE⟩:=aB ((v*4294967296+u0)/y);obtain⟨H1,hH1⟩:=aB (h*4294967296%18446744073709551616);obtain⟨H2,hH2⟩:=aB ((h*4294967296+u1)%18446744073709551616);obtain⟨Z,hZ⟩:=aB (DD*y%18446744073709551616);have hy0:0<y:=by omega
 have hvy:v<y:=by rw[<-hv];exact Nat.mod_lt _ hy0
 have hdm:=Nat.div_add_mod (h*4294967296+u1) y;rw[hD,hv,Nat.mul_comm]at hdm;have hDT:DD<4294967296:=by rw[<-hD];refine Nat.div_lt_of_lt_mul ?_;omega
 have hET:E<4294967296:=by rw[<-hE];refine Nat.div_lt_of_lt_mul ?_;omega
 have m1:IntKind.u64.wrap ((h:Int) *4294967296)=(H1:Int):=by rw[IntKind.wrap_u64];omega
 have m2:IntKind.u64.wrap ((H1:Int)+(u1:Int))=(H2:Int):=by rw[IntKind.wrap_u64];omega
 have m3:IntKind.u64.wrap ((DD:Int) * (y:Int))=(Z:Int):=by rw[<-Int.natCast_mul,IntKind.wrap_u64];omega
 have m4:IntKind.u64.wrap ((H2:Int)-(Z:Int))=(v:Int):=by rw[IntKind.wrap_u64];generalize DD*y=X at*;omega
 have CN:IntKind.u64.wrap ((DD:Int) *4294967296)=(DD:Int) *4294967296:=by rw[IntKind.wrap_u64];omega
 have CO:IntKind.u64.wrap ((DD:Int) *4294967296+(E:Int))=(DD:Int) *4294967296+(E:Int):=by rw[IntKind.wrap_u64];omega
 obtain⟨t1,t2,t3,t4⟩:=acw v n1 n0 u0 zo zo zo zo zo;obtain⟨q2,hq2⟩:=aB (v/n1);obtain⟨r2,hr2⟩:=aB (v%n1);obtain⟨P2,kU⟩:=aB (q2*n1);rw[hq2,hr2]at t3;rw[hq2]at t1 t2;rw[hr2]at t4;have f1':(v:Int).tdiv (n1:Int)=(q2:Int):=by rw[<-hq2];rfl
 have f2':IntKind.u64.wrap (q2:Int)=(q2:Int):=by rw[IntKind.wrap_u64];omega
 have f3':IntKind.u64.wrap ((q2:Int) * (n1:Int))=(P2:Int):=by rw[<-Int.natCast_mul,kU,IntKind.wrap_u64];rw[kU]at t3;omega
 have f4':IntKind.u64.wrap ((v:Int)-(P2:Int))=(r2:Int):=by rw[IntKind.wrap_u64];rw[kU]at t3;omega
 rw[Kf]at t1;have hfin:=arb h u1 u0 y DD hy0 hD;rw[hv,hE,hlo]at hfin;have aeV:((h:Int) *18446744073709551616+(lo:Int))/(y:Int)=(DD:Int) *4294967296+(E:Int):=by
  have:((h:Int) *18446744073709551616+(lo:Int))/(y:Int)=(((h*18446744073709551616+lo)/y:Nat):Int):=by rw[Int.natCast_ediv,Int.natCast_add,Int.natCast_mul];rfl
  rw[this,hfin,Int.natCast_add,Int.natCast_mul];rfl
 have xD:=aj aeV;clear aeV;obtain⟨H3,x3⟩:=aB (IntKind.u64.wrap ((v:Int) *4294967296));obtain⟨H4,x4⟩:=aB (IntKind.u64.wrap (H3+(u0:Int)));obtain⟨H5,x5⟩:=aB (IntKind.u64.wrap ((E:Int) * (y:Int)));obtain⟨X,x6⟩:=aB (IntKind.u64.wrap (H4-H5));obtain⟨X3,X4,X5,X6⟩:=dv x3 x4 x5 x6;clear x3 x4 x5 x6;obtain⟨T1,T2,T3,T4,M1,M2,M3,M4,N1,N2,F1,F2⟩:=ie t1 t2 t3 t4 m1 m2 m3 m4 CN CO f1' f2';obtain⟨F3,F4,uv,HD,HE,Si,Hhh,HDT,HET,aR,S1,S2⟩:=ie f3' f4' hfin hD hE hvy hh hDT hET JD s1 s2;obtain⟨S3,S4,HN1,HN0,HU1,HU0,Hy,gY⟩:=jZ s3 s4 gA hn0 hu1 hu0 hy Kf;have hb1:n1<4294967296:=by omega
 have hb2:n0<4294967296:=by omega
 have hb3:u1<4294967296:=by omega
 have hb4:u0<4294967296:=by omega
 have di:0<n1:=by omega
 obtain⟨B1,B2,B3,B4,B5⟩:=gT hb1 hb2 hb3 hb4 di;clear JD s1 s2 s3 s4 gA hn0 hu1 hu0 Kf hq hr hP t1 t2 t3 t4 m1 m2 m3 m4 CN CO f1' f2' f3' f4' hfin hD hE hvy hDT hET hdm hy0 hv hH1 hH2 hZ hq2 hr2 kU hb1 hb2 hb3 hb4 di;go_enter Tryz.func320,Tryz.ntmps320;go_wp2_with (go_at_call 299;refine(aR.out _).mono ?_;rintro e w' ⟨rfl,rfl⟩);clear f1 f2 f3 f4 e5 e6 e7 ea eb ec e1 e3;go_loop [15,16] (λqv rv=>∃q r:Nat,qv=.int .u64 (q:Int)/\rv=.int .u64 (r:Int)/\q*n1+r=h/\r<4294967296/\(h*4294967296+u1)/y<=q/\q<=4294967297) (λqv _=>(intOf qv).toNat)
 case atStart=>exact⟨q,r,rfl,rfl,S3.out,S4.out,S1.out,S2.out⟩
 case round=>
  clear S1 S2 S3 S4;obtain⟨q,r,rfl,rfl,j1,j2,j3,j4⟩:=hrel;obtain⟨Q,hQ⟩:=aB (q*n0);have g1:IntKind.u64.wrap (4294967296* (r:Int))=4294967296* (r:Int):=by rw[IntKind.wrap_u64];omega
  have g2:IntKind.u64.wrap (4294967296* (r:Int)+(u1:Int))=4294967296* (r:Int)+(u1:Int):=by rw[IntKind.wrap_u64];have:=B3.out;omega
  have gw:q<4294967296->Q<18446744073709551616:=λh=>by rw[<-hQ];have h1:q*n0<=4294967295*4294967295:=Nat.mul_le_mul zo (by have:=B2.out;omega);omega
  by_cases hc:4294967296<=q\/4294967296*r+u1<Q
  . obtain⟨k1,k2,k3⟩:=MP q r h n1 n0 u1 (by rw[gY.out];exact Hhh.out) B3.out j1 (by rw[gY.out];exact j3) (by rw[hQ];exact hc);rw[gY.out]at k3;obtain⟨k,hk⟩:=aB (q-1);rw[hk]at k2 k3;have g3:IntKind.u64.wrap ((q:Int)-1)=(k:Int):=by rw[IntKind.wrap_u64];omega
    have g4:IntKind.u64.wrap ((r:Int)+(n1:Int))=((r+n1:Nat):Int):=by rw[IntKind.wrap_u64];have:=B1.out;omega
    obtain⟨r',hr'⟩:=aB (r+n1);rw[hr']at k2 g4;by_cases hbr:4294967296<=r'
    . have hkD:DD=k:=by rw[<-HD.out,<-gY.out];exact MO k r' h n1 n0 u1 B5.out B2.out k2 (by rw[gY.out];exact k3) zo hbr
      subst hkD;have Cf:(4294967296:Int)<=(r':Int):=by omega
      have m1:=M1.out;have m2:=M2.out;have m3:=M3.out;have m4:=M4.out;have f1:=F1.out;have f2:=F2.out;have f3:=F3.out;have f4:=F4.out;have afD:((n1:Int)==0)=false:=by have:=B5.out;simp;omega
      obtain⟨J,K,HQ,Lt,Hk,Hr'⟩:=gU (And.intro j1 (And.intro j2 (And.intro j3 j4))) (And.intro k1 (And.intro k2 k3)) hQ gw hk hr';clear j1 j2 j3 j4 k1 k2 k3 hQ gw hk hr';by_cases hT:4294967296<=q
      . have eO:(4294967296:Int)<=(q:Int):=by omega
        go_wp2;clear m1 m2 m3 m4 f1 f2 f3 f4 g1 g2 g3 g4;go_loop [18,16] (λqv rv=>∃q r:Nat,qv=.int .u64 (q:Int)/\rv=.int .u64 (r:Int)/\q*n1+r=v/\r<4294967296/\(v*4294967296+u0)/y<=q/\q<=4294967297) (λqv _=>(intOf qv).toNat)
        case atStart=>exact⟨q2,r2,rfl,rfl,T3.out,T4.out,T1.out,T2.out⟩
        case round=>
         clear T1 T2 T3 T4;obtain⟨q,r,rfl,rfl,j1,j2,j3,j4⟩:=hrel;obtain⟨Q,hQ⟩:=aB (q*n0);have g1:IntKind.u64.wrap (4294967296* (r:Int))=4294967296* (r:Int):=by rw[IntKind.wrap_u64];omega
         have g2:IntKind.u64.wrap (4294967296* (r:Int)+(u0:Int))=4294967296* (r:Int)+(u0:Int):=by rw[IntKind.wrap_u64];have:=B4.out;omega
         have gw:q<4294967296->Q<18446744073709551616:=λh=>by rw[<-hQ];have h1:q*n0<=4294967295*4294967295:=Nat.mul_le_mul zo (by have:=B2.out;omega);omega
         have CN:=N1.out;have CO:=N2.out;have x3:=X3.out;have x4:=X4.out;have x5:=X5.out;have x6:=X6.out;by_cases hc:4294967296<=q\/4294967296*r+u0<Q
         . obtain⟨k1,k2,k3⟩:=MP q r v n1 n0 u0 (by rw[gY.out];exact Si.out) B4.out j1 (by rw[gY.out];exact j3) (by rw[hQ];exact hc);rw[gY.out]at k3;obtain⟨m,hm⟩:=aB (q-1);rw[hm]at k2 k3;have g3:IntKind.u64.wrap ((q:Int)-1)=(m:Int):=by rw[IntKind.wrap_u64];omega
           have g4:IntKind.u64.wrap ((r:Int)+(n1:Int))=((r+n1:Nat):Int):=by rw[IntKind.wrap_u64];have:=B1.out;omega
           obtain⟨r',hr'⟩:=aB (r+n1);rw[hr']at k2 g4;have hT0:q<4294967296->IntKind.u64.wrap ((q:Int) * (n0:Int))=(Q:Int):=λh=>by rw[<-Int.natCast_mul,hQ,IntKind.wrap_u64];have:=gw h;omega
           by_cases hbr:4294967296<=r'
           . have Js:E=m:=by rw[<-HE.out,<-gY.out];exact MO m r' v n1 n0 u0 B5.out B2.out k2 (by rw[gY.out];exact k3) zo hbr
             subst Js;have Cf:(4294967296:Int)<=(r':Int):=by omega
             clear j1 j3 k2 k3 hQ gw hm hr';by_cases hT:4294967296<=q
             . have eO:(4294967296:Int)<=(q:Int):=by omega
               go_wp2;refine bodyPost_ret (v:=.tuple #[.int .u64 ((DD:Int) *4294967296+(E:Int)),.int .u64 X]) (by simp[results,Tryz.results320,go_sem]) rfl ⟨⟨_,by rw[xD.out]⟩,Below.refl _ _⟩
             . have hc2:4294967296* (r:Int)+(u0:Int)<(Q:Int):=by omega
               have eO:¬(4294967296:Int)<=(q:Int):=by omega
               have g0:=hT0 zo;go_wp2;refine bodyPost_ret (v:=.tuple #[.int .u64 ((DD:Int) *4294967296+(E:Int)),.int .u64 X]) (by simp[results,Tryz.results320,go_sem]) rfl ⟨⟨_,by rw[xD.out]⟩,Below.refl _ _⟩
           . have Cf:¬(4294967296:Int)<=(r':Int):=by omega
             have K:=aj (And.intro k2 k3);clear j1 j3 k2 k3 hQ gw hr';by_cases hT:4294967296<=q
             . have eO:(4294967296:Int)<=(q:Int):=by omega
               go_wp2;exact⟨⟨m,r',rfl,rfl,K.out.1,by omega,K.out.2,by omega⟩,by simp[intOf];omega⟩
             . have hc2:4294967296* (r:Int)+(u0:Int)<(Q:Int):=by omega
               have eO:¬(4294967296:Int)<=(q:Int):=by omega
               have g0:=hT0 zo;go_wp2;exact⟨⟨m,r',rfl,rfl,K.out.1,by omega,K.out.2,by omega⟩,by simp[intOf];omega⟩
         . have JR:E=q:=by rw[<-HE.out,<-gY.out];exact Ix q r v n1 n0 u0 B5.out j1 (by rw[gY.out];exact j3) (by rw[hQ];omega)
           subst JR;have eO:¬(4294967296:Int)<=(E:Int):=by omega
           have hc2:¬4294967296* (r:Int)+(u0:Int)<(Q:Int):=by omega
           have g0:IntKind.u64.wrap ((E:Int) * (n0:Int))=(Q:Int):=by rw[<-Int.natCast_mul,hQ,IntKind.wrap_u64];have:=gw zo;omega
           clear j1 j3 hQ gw;go_wp2;refine bodyPost_ret (v:=.tuple #[.int .u64 ((DD:Int) *4294967296+(E:Int)),.int .u64 X]) (by simp[results,Tryz.results320,go_sem]) rfl ⟨⟨_,by rw[xD.out]⟩,Below.refl _ _⟩
      . have hc2:4294967296* (r:Int)+(u1:Int)<(Q:Int):=by omega
        have eO:¬(4294967296:Int)<=(q:Int):=by omega
        have g0:IntKind.u64.wrap ((q:Int) * (n0:Int))=(Q:Int):=by rw[<-Int.natCast_mul,HQ.out,IntKind.wrap_u64];have:=Lt.out zo;omega
        go_wp2;clear m1 m2 m3 m4 f1 f2 f3 f4 g0 g1 g2 g3 g4;go_loop [18,16] (λqv rv=>∃q r:Nat,qv=.int .u64 (q:Int)/\rv=.int .u64 (r:Int)/\q*n1+r=v/\r<4294967296/\(v*4294967296+u0)/y<=q/\q<=4294967297) (λqv _=>(intOf qv).toNat)
        case atStart=>exact⟨q2,r2,rfl,rfl,T3.out,T4.out,T1.out,T2.out⟩
        case round=>
         clear T1 T2 T3 T4;obtain⟨q,r,rfl,rfl,j1,j2,j3,j4⟩:=hrel;obtain⟨Q,hQ⟩:=aB (q*n0);have g1:IntKind.u64.wrap (4294967296* (r:Int))=4294967296* (r:Int):=by rw[IntKind.wrap_u64];omega
         have g2:IntKind.u64.wrap (4294967296* (r:Int)+(u0:Int))=4294967296* (r:Int)+(u0:Int):=by rw[IntKind.wrap_u64];have:=B4.out;omega
         have gw:q<4294967296->Q<18446744073709551616:=λh=>by rw[<-hQ];have h1:q*n0<=4294967295*4294967295:=Nat.mul_le_mul zo (by have:=B2.out;omega);omega
         have CN:=N1.out;have CO:=N2.out;have x3:=X3.out;have x4:=X4.out;have x5:=X5.out;have x6:=X6.out;by_cases hc:4294967296<=q\/4294967296*r+u0<Q
         . obtain⟨k1,k2,k3⟩:=MP q r v n1 n0 u0 (by rw[gY.out];exact Si.out) B4.out j1 (by rw[gY.out];exact j3) (by rw[hQ];exact hc);rw[gY.out]at k3;obtain⟨m,hm⟩:=aB (q-1);rw[hm]at k2 k3;have g3:IntKind.u64.wrap ((q:Int)-1)=(m:Int):=by rw[IntKind.wrap_u64];omega
           have g4:IntKind.u64.wrap ((r:Int)+(n1:Int))=((r+n1:Nat):Int):=by rw[IntKind.wrap_u64];have:=B1.out;omega
           obtain⟨r',hr'⟩:=aB (r+n1);rw[hr']at k2 g4;have hT0:q<4294967296->IntKind.u64.wrap ((q:Int) * (n0:Int))=(Q:Int):=λh=>by rw[<-Int.natCast_mul,hQ,IntKind.wrap_u64];have:=gw h;omega
           by_cases hbr:4294967296<=r'
           . have Js:E=m:=by rw[<-HE.out,<-gY.out];exact MO m r' v n1 n0 u0 B5.out B2.out k2 (by rw[gY.out];exact k3) zo hbr
             subst Js;have Cf:(4294967296:Int)<=(r':Int):=by omega
             clear j1 j3 k2 k3 hQ gw hm hr';by_cases hT:4294967296<=q
             . have eO:(4294967296:Int)<=(q:Int):=by omega
               go_wp2;refine bodyPost_ret (v:=.tuple #[.int .u64 ((DD:Int) *4294967296+(E:Int)),.int .u64 X]) (by simp[results,Tryz.results320,go_sem]) rfl ⟨⟨_,by rw[xD.out]⟩,Below.refl _ _⟩
             . have hc2:4294967296* (r:Int)+(u0:Int)<(Q:Int):=by omega
               have eO:¬(4294967296:Int)<=(q:Int):=by omega
               have g0:=hT0 zo;go_wp2;refine bodyPost_ret (v:=.tuple #[.int .u64 ((DD:Int) *4294967296+(E:Int)),.int .u64 X]) (by simp[results,Tryz.results320,go_sem]) rfl ⟨⟨_,by rw[xD.out]⟩,Below.refl _ _⟩
           . have Cf:¬(4294967296:Int)<=(r':Int):=by omega
             have K:=aj (And.intro k2 k3);clear j1 j3 k2 k3 hQ gw hr';by_cases hT:4294967296<=q
             . have eO:(4294967296:Int)<=(q:Int):=by omega
               go_wp2;exact⟨⟨m,r',rfl,rfl,K.out.1,by omega,K.out.2,by omega⟩,by simp[intOf];omega⟩
             . have hc2:4294967296* (r:Int)+(u0:Int)<(Q:Int):=by omega
               have eO:¬(4294967296:Int)<=(q:Int):=by omega
               have g0:=hT0 zo;go_wp2;exact⟨⟨m,r',rfl,rfl,K.out.1,by omega,K.out.2,by omega⟩,by simp[intOf];omega⟩
         . have JR:E=q:=by rw[<-HE.out,<-gY.out];exact Ix q r v n1 n0 u0 B5.out j1 (by rw[gY.out];exact j3) (by rw[hQ];omega)
           subst JR;have eO:¬(4294967296:Int)<=(E:Int):=by omega
           have hc2:¬4294967296* (r:Int)+(u0:Int)<(Q:Int):=by omega
           have g0:IntKind.u64.wrap ((E:Int) * (n0:Int))=(Q:Int):=by rw[<-Int.natCast_mul,hQ,IntKind.wrap_u64];have:=gw zo;omega
           clear j1 j3 hQ gw;go_wp2;refine bodyPost_ret (v:=.tuple #[.int .u64 ((DD:Int) *4294967296+(E:Int)),.int .u64 X]) (by simp[results,Tryz.results320,go_sem]) rfl ⟨⟨_,by rw[xD.out]⟩,Below.refl _ _⟩
    . have Cf:¬(4294967296:Int)<=(r':Int):=by omega
      obtain⟨K,HQ,Lt⟩:=cw (And.intro k2 k3) hQ gw;clear j1 j3 k2 k3 hQ gw hr';by_cases hT:4294967296<=q
      . have eO:(4294967296:Int)<=(q:Int):=by omega
        go_wp2;exact⟨⟨k,r',rfl,rfl,K.out.1,by omega,K.out.2,by omega⟩,by simp[intOf];omega⟩
      . have hc2:4294967296* (r:Int)+(u1:Int)<(Q:Int):=by omega
        have eO:¬(4294967296:Int)<=(q:Int):=by omega
        have g0:IntKind.u64.wrap ((q:Int) * (n0:Int))=(Q:Int):=by rw[<-Int.natCast_mul,HQ.out,IntKind.wrap_u64];have:=Lt.out zo;omega
        go_wp2;exact⟨⟨k,r',rfl,rfl,K.out.1,by omega,K.out.2,by omega⟩,by simp[intOf];omega⟩
  . have hqD:DD=q:=by rw[<-HD.out,<-gY.out];exact Ix q r h n1 n0 u1 B5.out j1 (by rw[gY.out];exact j3) (by rw[hQ];omega)
    subst hqD;have eO:¬(4294967296:Int)<=(DD:Int):=by omega
    have hc2:¬4294967296* (r:Int)+(u1:Int)<(Q:Int):=by omega
    have g0:IntKind.u64.wrap ((DD:Int) * (n0:Int))=(Q:Int):=by rw[<-Int.natCast_mul,hQ,IntKind.wrap_u64];have:=gw zo;omega
    have m1:=M1.out;have m2:=M2.out;have m3:=M3.out;have m4:=M4.out;have f1:=F1.out;have f2:=F2.out;have f3:=F3.out;have f4:=F4.out;have afD:((n1:Int)==0)=false:=by have:=B5.out;simp;omega
    obtain⟨J,HQ,Lt⟩:=cw (And.intro j1 (And.intro j2 (And.intro j3 j4))) hQ gw;clear j1 j2 j3 j4 hQ gw;go_wp2;clear m1 m2 m3 m4 f1 f2 f3 f4 g0 g1 g2;go_loop [18,16] (λqv rv=>∃q r:Nat,qv=.int .u64 (q:Int)/\rv=.int .u64 (r:Int)/\q*n1+r=v/\r<4294967296/\(v*4294967296+u0)/y<=q/\q<=4294967297) (λqv _=>(intOf qv).toNat)
    case atStart=>exact⟨q2,r2,rfl,rfl,T3.out,T4.out,T1.out,T2.out⟩
    case round=>
     clear T1 T2 T3 T4;obtain⟨q,r,rfl,rfl,j1,j2,j3,j4⟩:=hrel;obtain⟨Q,hQ⟩:=aB (q*n0);have g1:IntKind.u64.wrap (4294967296* (r:Int))=4294967296* (r:Int):=by rw[IntKind.wrap_u64];omega
     have g2:IntKind.u64.wrap (4294967296* (r:Int)+(u0:Int))=4294967296* (r:Int)+(u0:Int):=by rw[IntKind.wrap_u64];have:=B4.out;omega
     have gw:q<4294967296->Q<18446744073709551616:=λh=>by rw[<-hQ];have h1:q*n0<=4294967295*4294967295:=Nat.mul_le_mul zo (by have:=B2.out;omega);omega
     have CN:=N1.out;have CO:=N2.out;have x3:=X3.out;have x4:=X4.out;have x5:=X5.out;have x6:=X6.out;by_cases hc:4294967296<=q\/4294967296*r+u0<Q
     . obtain⟨k1,k2,k3⟩:=MP q r v n1 n0 u0 (by rw[gY.out];exact Si.out) B4.out j1 (by rw[gY.out];exact j3) (by rw[hQ];exact hc);rw[gY.out]at k3;obtain⟨m,hm⟩:=aB (q-1);rw[hm]at k2 k3;have g3:IntKind.u64.wrap ((q:Int)-1)=(m:Int):=by rw[IntKind.wrap_u64];omega
       have g4:IntKind.u64.wrap ((r:Int)+(n1:Int))=((r+n1:Nat):Int):=by rw[IntKind.wrap_u64];have:=B1.out;omega
       obtain⟨r',hr'⟩:=aB (r+n1);rw[hr']at k2 g4;have hT0:q<4294967296->IntKind.u64.wrap ((q:Int) * (n0:Int))=(Q:Int):=λh=>by rw[<-Int.natCast_mul,hQ,IntKind.wrap_u64];have:=gw h;omega
       by_cases hbr:4294967296<=r'
       . have Js:E=m:=by rw[<-HE.out,<-gY.out];exact MO m r' v n1 n0 u0 B5.out B2.out k2 (by rw[gY.out];exact k3) zo hbr
         subst Js;have Cf:(4294967296:Int)<=(r':Int):=by omega
         clear j1 j3 k2 k3 hQ gw hm hr';by_cases hT:4294967296<=q
         . have eO:(4294967296:Int)<=(q:Int):=by omega
           go_wp2;refine bodyPost_ret (v:=.tuple #[.int .u64 ((DD:Int) *4294967296+(E:Int)),.int .u64 X]) (by simp[results,Tryz.results320,go_sem]) rfl ⟨⟨_,by rw[xD.out]⟩,Below.refl _ _⟩
         . have hc2:4294967296* (r:Int)+(u0:Int)<(Q:Int):=by omega
           have eO:¬(4294967296:Int)<=(q:Int):=by omega
           have g0:=hT0 zo;go_wp2;refine bodyPost_ret (v:=.tuple #[.int .u64 ((DD:Int) *4294967296+(E:Int)),.int .u64 X]) (by simp[results,Tryz.results320,go_sem]) rfl ⟨⟨_,by rw[xD.out]⟩,Below.refl _ _⟩
       . have Cf:¬(4294967296:Int)<=(r':Int):=by omega
         have K:=aj (And.intro k2 k3);clear j1 j3 k2 k3 hQ gw hr';by_cases hT:4294967296<=q
         . have eO:(4294967296:Int)<=(q:Int):=by omega
           go_wp2;exact⟨⟨m,r',rfl,rfl,K.out.1,by omega,K.out.2,by omega⟩,by simp[intOf];omega⟩
         . have hc2:4294967296* (r:Int)+(u0:Int)<(Q:Int):=by omega
           have eO:¬(4294967296:Int)<=(q:Int):=by omega
           have g0:=hT0 zo;go_wp2;exact⟨⟨m,r',rfl,rfl,K.out.1,by omega,K.out.2,by omega⟩,by simp[intOf];omega⟩
     . have JR:E=q:=by rw[<-HE.out,<-gY.out];exact Ix q r v n1 n0 u0 B5.out j1 (by rw[gY.out];exact j3) (by rw[hQ];omega)
       subst JR;have eO:¬(4294967296:Int)<=(E:Int):=by omega
       have hc2:¬4294967296* (r:Int)+(u0:Int)<(Q:Int):=by omega
       have g0:IntKind.u64.wrap ((E:Int) * (n0:Int))=(Q:Int):=by rw[<-Int.natCast_mul,hQ,IntKind.wrap_u64];have:=gw zo;omega
       clear j1 j3 hQ gw;go_wp2;refine bodyPost_ret (v:=.tuple #[.int .u64 ((DD:Int) *4294967296+(E:Int)),.int .u64 X]) (by simp[results,Tryz.results320,go_sem]) rfl ⟨⟨_,by rw[xD.out]⟩,Below.refl _ _⟩
def aq9 (lo y:Nat)(w:World)(hy:0<y)(hy2:y<WW)(hl:lo<WW):
 Cl 320 #[.int .u64 0,.int .u64 (lo:Int),.int .u64 (y:Int)] w λe w'=>∃r,e=.returned (.tuple #[.int .u64 ((lo/y:Nat):Int),.int .u64 r])/\Bw w w':=by
 rw[ke]at*;have e6:((y:Int)==0)=false:=by simp;omega
 have e7:¬(y:Int)<=0:=by omega
 have f1:(lo:Int).tdiv (y:Int)=((lo/y:Nat):Int):=rfl;obtain⟨q,hq⟩:=aB (lo/y);have VF:q<=lo:=by rw[<-hq];exact Nat.div_le_self _ _
 rw[hq]at f1⊢;have f2:IntKind.u64.wrap (q:Int)=(q:Int):=by rw[IntKind.wrap_u64];omega
 clear hq;go_enter Tryz.func320,Tryz.ntmps320;go_wp2;go_region
 go_wp2;refine bodyPost_ret (v:=.tuple #[.int .u64 (q:Int),.int .u64 ((lo:Int)% (y:Int))]) (by simp[results,Tryz.results320,go_sem]) rfl ⟨_,rfl,(Below.refl _ _).drew⟩
end Go.Proofs.YtbkopgdpcijfbaaGreatDoor
namespace Go.Proofs.YtbkopgdpcijfbaaGreatDoor
def Ye :0<2:=by decide
def p2 (k:Nat):0<2^k:=Nat.pow_pos zd
def bd (v j:Nat):Nat:=v/2^j%2
def abr (v j:Nat):bd v j<2:=Nat.mod_lt _ Ye
def apG {v k:Nat}(h:v<2^(k+1))(h0:bd v k=0):v<2^k:=by
 unfold bd at h0;have h1:v/2^k<2:=by rw[Nat.div_lt_iff_lt_mul (p2 k)];rw[Nat.pow_succ]at h;rwa [Nat.mul_comm]at h
 rw[Nat.mod_eq_of_lt h1]at h0;rcases Nat.lt_or_ge v (2^k)with h2|h2
 . exact h2
 . have:=Nat.div_pos h2 (p2 k);omega
def apF {v k:Nat}(h0:bd v k≠0):2^k<=v:=by
 rcases Nat.lt_or_ge v (2^k)with h2|h2
 . exact absurd (by unfold bd;rw[Nat.div_eq_of_lt h2]) h0
 . exact h2
def apb {v k j:Nat}(h:v<2^k)(hj:k<=j):bd v j=0:=by unfold bd;rw[Nat.div_eq_of_lt (Nat.lt_of_lt_of_le h (Nat.pow_le_pow_right Ye hj))]
def Mz (v i:Nat):v%2^(i+1)=v%2^i+2^i*bd v i:=by unfold bd;rw[Nat.pow_succ,Nat.mod_mul]
def bb (v u i:Nat):Nat:=if v%2^i<u%2^i then 1 else 0
def ao8 (v u:Nat):bb v u 0=0:=by simp[bb,Nat.mod_one]
def abp (v u i:Nat):bb v u i<=1:=by unfold bb;split<;>omega
def ao7 (v u i:Nat):bb v u (i+1)=if bd v i<bd u i+bb v u i then 1 else 0:=by
 have h1:=Nat.mod_lt v (p2 i);have h2:=Nat.mod_lt u (p2 i);unfold bb;rw[Mz v,Mz u];generalize bd v i=a;generalize bd u i=b;generalize v%2^i=r at*;generalize u%2^i=s at*;generalize 2^i=M at*;have key:(r+M*a<s+M*b)↔(a<b+if r<s then 1 else 0):=by
  rcases Nat.lt_trichotomy a b with h|h|h
  . have:M* (a+1)<=M*b:=Nat.mul_le_mul_left _ h;rw[Nat.mul_add]at this;constructor
    . intro _;split<;>omega
    . intro _;omega
  . subst h;split<;>omega
  . have:M* (b+1)<=M*a:=Nat.mul_le_mul_left _ h;rw[Nat.mul_add]at this;constructor
    . intro _;omega
    . intro h';exfalso;revert h';split<;>omega
 simp only[key]
def ao6 (v u i:Nat)(hu:u<=v):(bd v i+2-bd u i-bb v u i)%2=bd (v-u) i:=by
 -- the digit of the difference
 have h1:=Nat.mod_lt v (p2 i);have h2:=Nat.mod_lt u (p2 i);have hM:=p2 i;have hb:=abp v u i;have du:=abr u i;have e1:v=v%2^i+2^i* (v/2^i):=(Nat.mod_add_div v _).symm;have e2:u=u%2^i+2^i* (u/2^i):=(Nat.mod_add_div u _).symm;have e3:(v-u)/2^i+bb v u i+u/2^i=v/2^i:=by
  unfold bb;generalize v%2^i=r at*;generalize u%2^i=s at*;generalize v/2^i=x at*;generalize u/2^i=y at*;generalize 2^i=M at*;have hxy:y<=x:=by
   rcases Nat.lt_or_ge x y with h|h
   . have:M* (x+1)<=M*y:=Nat.mul_le_mul_left _ h;rw[Nat.mul_add]at this;omega
   . exact h
  obtain⟨d,rfl⟩:∃d,x=y+d:=⟨x-y,by omega⟩;split
  . rename_i hrs
    have hd:1<=d:=by
     rcases Nat.eq_zero_or_pos d with h|h
     . subst h;simp at e1;omega
     . exact h
    obtain⟨d',rfl⟩:∃d',d=d'+1:=⟨d-1,by omega⟩;have:v-u=(M+r-s)+M*d':=by rw[Nat.mul_add,Nat.mul_add]at e1;omega
    rw[this,Nat.add_mul_div_left _ _ hM,Nat.div_eq_of_lt zo];omega
  . have:v-u=(r-s)+M*d:=by rw[Nat.mul_add]at e1;omega
    rw[this,Nat.add_mul_div_left _ _ hM,Nat.div_eq_of_lt zo];omega
 unfold bd at*;generalize (v-u)/2^i=q at*;rw[<-e3];generalize bb v u i=c at*;generalize u/2^i=y at*;have hW:=Ye
 -- (q + c + y) % W + W - y % W - c ≡ q
 have e4:((q+c+y)%2+2-y%2-c)%2=q%2:=by
  have a1:y=y%2+2* (y/2):=(Nat.mod_add_div y _).symm;have a2:(q+c+y)%2=(q+c+y%2)%2:=by rw[Nat.add_mod,Nat.add_mod (q+c) (y%2),Nat.mod_mod]
  rw[a2];generalize y%2=z at*;have a3:q=q%2+2* (q/2):=(Nat.mod_add_div q _).symm;have a4:(q+c+z)%2=(q%2+c+z)%2:=by conv=>lhs;rw[a3,show q%2+2* (q/2)+c+z=(q%2+c+z)+2* (q/2)by omega,Nat.add_mul_mod_self_left]
  rw[a4];have hq:=Nat.mod_lt q hW;generalize q%2=p at*;rcases Nat.lt_or_ge (p+c+z) 2 with h|h
  . rw[Nat.mod_eq_of_lt h,show p+c+z+2-z-c=p+2 by omega,Nat.add_mod_right,Nat.mod_eq_of_lt hq]
  . rcases Nat.lt_or_ge (p+c+z) (2*2)with h'|h'
    . have:(p+c+z)%2=p+c+z-2:=by rw[Nat.mod_eq_sub_mod h,Nat.mod_eq_of_lt zo]
      rw[this,show p+c+z-2+2-z-c=p by omega,Nat.mod_eq_of_lt hq]
    . exfalso;omega
 exact e4
def abt {v u k:Nat}(h:v/2^(k+1)=u/2^(k+1))(hd:bd v k<bd u k):v<u:=by
 unfold bd at hd;have e1:=(Nat.mod_add_div (v/2^k) 2).symm;have e2:=(Nat.mod_add_div (u/2^k) 2).symm;rw[Nat.pow_succ,<-Nat.div_div_eq_div_mul,<-Nat.div_div_eq_div_mul]at h;have:v/2^k<u/2^k:=by rw[e1,e2,h];omega
 exact Nat.lt_of_div_lt_div this
def apa {v u k:Nat}(h:v/2^(k+1)=u/2^(k+1))(hd:bd v k=bd u k):v/2^k=u/2^k:=by unfold bd at hd;have e1:=(Nat.mod_add_div (v/2^k) 2).symm;have e2:=(Nat.mod_add_div (u/2^k) 2).symm;rw[Nat.pow_succ,<-Nat.div_div_eq_div_mul,<-Nat.div_div_eq_div_mul]at h;rw[e1,e2,h,hd]
def zI (v j:Nat):bd v j<=1:=by have:=abr v j;omega
def api {v k:Nat}(h:v<2^(k+1))(h':2^k<=v):bQ v=k+1:=by have:=kK h;have:=Mx h';omega
def apk :bQ 0=0:=rfl
def abw {v u:Nat}(h:v<=u):bQ v<=bQ u:=kK (Nat.lt_of_le_of_lt h (uL u))
def apj (v c:Nat)(hc:c<=1):bQ (2*v+c)<=bQ v+1:=by refine kK ?_;have:=uL v;rw[Nat.pow_succ];omega
def KD (q:Nat):256^q=2^(8*q):=by rw[show(256:Nat)=2^8 by rfl,<-Nat.pow_mul]
def apN (v k:Nat):v%2^(k+1)/256^(k/8)%256=v%2^k/256^(k/8)%256+bd v k*2^(k%8)/\v%2^k/256^(k/8)%256+bd v k*2^(k%8)<=255:=by
 have e:2^k=256^(k/8) *2^(k%8):=by rw[KD,<-Nat.pow_add];congr 1;omega
 have hA:=Nat.mod_lt v (p2 k);have hb:=zI v k;rw[Mz];generalize v%2^k=A at*;generalize bd v k=b at*;have hr:2^(k%8)<=128:=Nat.pow_le_pow_right (i:=k%8) (j:=7) zd zo;have hp:0<256^(k/8):=Nat.pow_pos zd;have hq:A/256^(k/8)<2^(k%8):=Nat.div_lt_of_lt_mul (by rw[<-e];exact hA);rw[e,Nat.mul_assoc,Nat.add_mul_div_left _ _ hp];generalize A/256^(k/8)=x at*;generalize 2^(k%8)=y at*;have We:y*b=b*y:=Nat.mul_comm _ _;have:b*y<=1*y:=Nat.mul_le_mul_right _ hb;rw[We,Nat.mod_eq_of_lt (show x<256 by omega),Nat.mod_eq_of_lt (show x+b*y<256 by omega)];omega
def apO (v k q:Nat)(hq:q≠k/8):v%2^(k+1)/256^q%256=v%2^k/256^q%256:=by
 rcases Nat.lt_or_ge q (k/8)with h|h
 . rw[Mz];have e:2^k=256^q* (256*2^(k-8* (q+1))):=by rw[show 256^q* (256*2^(k-8* (q+1)))=256^(q+1) *2^(k-8* (q+1))by rw[Nat.pow_succ,Nat.mul_assoc],KD,<-Nat.pow_add];congr 1;omega
   have e2:2^k*bd v k=256^q* (256* (2^(k-8* (q+1)) *bd v k)):=by rw[e];simp only[Nat.mul_assoc]
   rw[e2,Nat.add_mul_div_left _ _ (Nat.pow_pos zd),Nat.add_mul_mod_self_left]
 . have h1:2^(k+1)<=256^q:=by rw[KD];exact Nat.pow_le_pow_right zd zo
   have h2:2^k<=2^(k+1):=Nat.pow_le_pow_right zd zo;rw[Nat.div_eq_of_lt (Nat.lt_of_lt_of_le (Nat.mod_lt v (p2 (k+1))) h1),Nat.div_eq_of_lt (Nat.lt_of_lt_of_le (Nat.mod_lt v (p2 k)) (Nat.le_trans h2 h1))]
def axb (l:List UInt8)(j:Nat)(hj:j<l.length):nv l/256^j%256=l[l.length-1-j].toNat:=by
 have e:=Pe (l.take (l.length-j)) (l.drop (l.length-j));rw[List.take_append_drop,List.length_drop,show l.length-(l.length-j)=j by omega]at e;have h1:nv (l.drop (l.length-j))<256^j:=by have:=jH (l.drop (l.length-j));rwa [List.length_drop,show l.length-(l.length-j)=j by omega]at this
 have hp:0<256^j:=Nat.pow_pos zd;rw[e,Nat.add_comm,Nat.add_mul_div_right _ _ hp,Nat.div_eq_of_lt h1,Nat.zero_add];have e2:l.take (l.length-j)=l.take (l.length-1-j)++[l[l.length-1-j]]:=by have:=List.take_succ_eq_append_getElem (i:=l.length-1-j) (l:=l) zo;rw[show l.length-j=l.length-1-j+1 by omega];exact this
 rw[e2,Pe];have e3:nv [l[l.length-1-j]]=(l[l.length-1-j]).toNat:=by rw[wW];simp[AQ]
 rw[e3];have:=(l[l.length-1-j]).toNat_lt;simp only[List.length_singleton,Nat.pow_one];rw[Nat.mul_add_mod_of_lt]<;>omega
def axa (l:List UInt8)(j k:Nat)(hj:j<l.length)(hk:k<8):l[l.length-1-j].toNat/2^k%2=bd (nv l) (8*j+k):=by
 rw[<-axb l j hj];unfold bd;rw[Nat.pow_add,<-Nat.div_div_eq_div_mul,<-KD];generalize nv l/256^j=x;have e:256=2^k*2^(8-k):=by rw[<-Nat.pow_add,show k+(8-k)=8 by omega]
 rw[e,Nat.mod_mul_right_div_self,Nat.mod_mod_of_dvd];exact⟨2^(7-k),by rw[show 8-k=7-k+1 by omega,Nat.pow_succ,Nat.mul_comm]⟩
def Fq (l:List UInt8):nv l<2^(8*l.length):=by rw[<-KD];exact jH l
def avH (v u i:Nat)(hu:0<u):∃r c q,v/2^(i+1)%u=r/\bd v i=c/\v/2^(i+1)/u=q/\v/2^i%u=(if u<=2*r+c then 2*r+c-u else 2*r+c)/\v/2^i/u=2*q+(if u<=2*r+c then 1 else 0):=by
 refine⟨_,_,_,rfl,rfl,rfl,?_⟩;have e:v/2^i=2* (v/2^(i+1))+bd v i:=by unfold bd;rw[Nat.pow_succ,<-Nat.div_div_eq_div_mul];omega
 have hb:=zI v i;rw[e];generalize v/2^(i+1)=x;generalize bd v i=c at*;have h1:=Nat.mod_lt x hu;have h2:=Nat.mod_add_div x u;generalize hr:x%u=r at*;generalize hq:x/u=q at*;have e2:2*x+c=2*r+c+u* (2*q):=by rw[<-h2,show u* (2*q)=2* (u*q)by rw[Nat.mul_left_comm]];omega
 rw[e2,Nat.add_mul_mod_self_left,Nat.add_mul_div_left _ _ hu];by_cases h:u<=2*r+c
 . rw[if_pos h,if_pos h];have e3:2*r+c=(2*r+c-u)+u*1:=by omega
   rw[e3,Nat.add_mul_mod_self_left,Nat.add_mul_div_left _ _ hu,Nat.mod_eq_of_lt zo,Nat.div_eq_of_lt zo];omega
 . rw[if_neg h,if_neg h,Nat.mod_eq_of_lt zo,Nat.div_eq_of_lt zo];omega
def avG (v u i:Nat):bd (v/u) i=v/2^i/u%2:=by unfold bd;rw[Nat.div_div_eq_div_mul,Nat.div_div_eq_div_mul,Nat.mul_comm]
end Go.Proofs.YtbkopgdpcijfbaaGreatDoor
