/- The limbs' functions,on. -/
import Derived.Test.YtpfgffadgkkedaaGreatDoorZ4
import Derived.Laws.CopyOwn
import Derived.Test.YtpfgffadgkkedaaGreatDoorZ1
set_option linter.all false
set_option maxRecDepth 100000
set_option maxHeartbeats 16000000
namespace Go.Proofs.YtpfgffadgkkedaaGreatDoor
open Go.RowKit
def YQ (v k:Nat)(h:v<WW^(k+1))(h0:WW^k<=v):bF v=64*k+bF (dg v k)/\bF (dg v k)<=64/\0<bF (dg v k):=by
 have hd:dg v k=v/WW^k:=by unfold dg;rw[Nat.mod_eq_of_lt];rw[Nat.div_lt_iff_lt_mul (dX k)];rw[Nat.pow_succ,Nat.mul_comm]at h;exact h
 have hd0:0<dg v k:=by rw[hd];exact Nat.div_pos h0 (dX k)
 have hl:=jK v k;refine⟨?_,im (by rw[lS]at hl;exact hl),FV hd0⟩;have a1:=sQ (dg v k);have e:dg v k=2^(bF (dg v k)-1)\/2^(bF (dg v k)-1)<=dg v k:=by right;unfold bF;rw[if_neg zo];simp;exact Nat.log2_self_le zo
 have a2:2^(bF (dg v k)-1)<=dg v k:=by rcases e with e|e<;>omega
 have hm:=Nat.mod_lt v (dX k);have hv:=(Nat.mod_add_div v (WW^k)).symm;rw[<-hd]at hv;generalize v%WW^k=r at hv hm;have b1:v<2^(64*k+bF (dg v k)):=by rw[Nat.pow_add,<-lT];have:WW^k* (dg v k+1)<=WW^k*2^bF (dg v k):=Nat.mul_le_mul_left _ a1;rw[Nat.mul_add]at this;omega
 have b2:2^(64*k+bF (dg v k)-1)<=v:=by have:=FV hd0;rw[show 64*k+bF (dg v k)-1=64*k+(bF (dg v k)-1)by omega,Nat.pow_add,<-lT];have:WW^k*2^(bF (dg v k)-1)<=WW^k*dg v k:=Nat.mul_le_mul_left _ a2;omega
 have c1:=im b1;have c2:=KY b2;omega
def aeh {v k:Nat}(h:ln v=k+1):v<WW^(k+1)/\WW^k<=v:=by
 refine⟨by rw[<-h];exact eU v,?_⟩;rcases Nat.lt_or_ge v (WW^k)with h1|h1
 . have:=ji h1;omega
 . exact h1
def aef (b o n cap v:Nat)(w:World)(hm:n<=1099511627776)(hcap:n<=cap)(hc:dL w b o n v)(hv:v<WW^n):
 Cl 284 #[.slice (some ⟨b,o,none⟩) n cap] w λe w'=>e=.returned (af (bF v:Int))/\w=w':=by
 have hle:=ji hv;have Hv:=aj hv;clear hv;rcases Nat.eq_zero_or_pos (ln v)with h0|h0
 . have Hc:=aj hc;clear hc;have hv0:v=0:=by have:=eU v;rw[h0]at this;simpa using this
   subst hv0;clear h0;go_enter Tryz.func284,Tryz.ntmps284;go_wp2_with (go_at_call 281;refine(lV b o n cap 0 _ hm hcap Hc.out Hv.out).mono ?_;rintro e w' ⟨rfl,rfl⟩;rw[Uj]);go_ret;exact⟨rfl,rfl⟩
 . obtain⟨k,hk⟩:∃k,ln v=k+1:=⟨ln v-1,by omega⟩;obtain⟨h1,h2⟩:=aeh hk;obtain⟨e1,e2,e3⟩:=YQ v k h1 h2;have hcell:w.cell? ⟨b,o+k,none⟩=some (.int .u64 (dg v k:Int)):=hc _ zo;have Hc:=aj hc;clear hc;obtain⟨OE,Hk⟩:=aH e1 hk;have hkn:k+1<=n:=by omega
   clear h1 h2 h0 hle hk e1;go_enter Tryz.func284,Tryz.ntmps284
   go_wp2_with (first
    | (go_at_call 281;refine(lV b o n cap v _ hm hcap Hc.out Hv.out).mono ?_;rintro e w' ⟨rfl,rfl⟩;rw[Hk.out])
    | (go_at_call 303;refine(Um _ _ (jK _ _)).mono ?_;rintro e w' ⟨rfl,rfl⟩))
   go_ret;rw[OE.out];refine⟨congrArg (λz:Int=>Ending.returned (af z)) ?_,rfl⟩;omega
def arh (a:Option Addr)(cap:Nat)(w:World):
 Cl 284 #[.slice a 0 cap] w λe w'=>e=.returned (af 0)/\w=w':=by
 go_enter Tryz.func284,Tryz.ntmps284;go_wp2_with (go_at_call 281;refine(Zr cap a _).mono ?_;rintro e w' ⟨rfl,rfl⟩);go_ret;exact⟨rfl,rfl⟩
def di (a b:Nat):Int:=if a<b then-1 else if b<a then 1 else 0
def ZH {v u k:Nat}(h:v/WW^(k+1)=u/WW^(k+1))(hd:dg v k<dg u k):v<u:=by
 unfold dg at hd;have e1:=(Nat.mod_add_div (v/WW^k) WW).symm;have e2:=(Nat.mod_add_div (u/WW^k) WW).symm;rw[Nat.pow_succ,<-Nat.div_div_eq_div_mul,<-Nat.div_div_eq_div_mul]at h;have:v/WW^k<u/WW^k:=by rw[e1,e2,h];omega
 exact Nat.lt_of_div_lt_div this
def amU {v u k:Nat}(h:v/WW^(k+1)=u/WW^(k+1))(hd:dg v k=dg u k):v/WW^k=u/WW^k:=by unfold dg at hd;have e1:=(Nat.mod_add_div (v/WW^k) WW).symm;have e2:=(Nat.mod_add_div (u/WW^k) WW).symm;rw[Nat.pow_succ,<-Nat.div_div_eq_div_mul,<-Nat.div_div_eq_div_mul]at h;rw[e1,e2,h,hd]
def Ui {v u:Nat}(h:ln v<ln u):v<u:=by
 rcases Nat.lt_or_ge v u with h1|h1
 . exact h1
 . have:=ji (Nat.lt_of_le_of_lt h1 (eU v));omega
def Br (b o n cap v b2 o2 m cap2 u:Nat)(w:World)(hm:n<=1099511627776)(hcap:n<=cap)(hc:dL w b o n v)(hv:v<WW^n)
 (hm2:m<=1099511627776) (AG:m<=cap2) (hc2:dL w b2 o2 m u) (hu:u<WW^m):
 Cv 301 #[.slice (some ⟨b,o,none⟩) n cap,.slice (some ⟨b2,o2,none⟩) m cap2] w (af (di v u)):=by
 have l1:=ji hv;have l2:=ji hu;have Hv:=aj hv;clear hv;have Hu:=aj hu;clear hu;have Hc:=aj hc;clear hc;have JW:=aj hc2;clear hc2;obtain⟨Kv,Ku⟩:=aH (eU v) (eU u);by_cases hlt:ln v<ln u
 . have hf:(((ln v:Nat):Int) !=((ln u:Nat):Int))=true:=by rw[bne_iff_ne];omega
   have gF:Hid (di v u= -1):=by show di v u= -1;unfold di;rw[if_pos (Ui hlt)]
   go_enter Tryz.func301,Tryz.ntmps301;go_wp2_with fail;refine(lV b o n cap v _ hm hcap Hc.out Hv.out).mono ?_;rintro e w' ⟨rfl,rfl⟩;go_wp2_with fail;refine(lV b2 o2 m cap2 u _ hm2 AG JW.out Hu.out).mono ?_;rintro e w' ⟨rfl,rfl⟩;go_wp2;go_ret;rw[gF.out];exact⟨rfl,Below.refl _ _⟩
 by_cases hgt:ln u<ln v
 . have hf:(((ln v:Nat):Int) !=((ln u:Nat):Int))=true:=by rw[bne_iff_ne];omega
   have gF:Hid (di v u=1):=by show di v u=1;have:=Ui hgt;unfold di;rw[if_neg zo,if_pos this]
   go_enter Tryz.func301,Tryz.ntmps301;go_wp2_with fail;refine(lV b o n cap v _ hm hcap Hc.out Hv.out).mono ?_;rintro e w' ⟨rfl,rfl⟩;go_wp2_with fail;refine(lV b2 o2 m cap2 u _ hm2 AG JW.out Hu.out).mono ?_;rintro e w' ⟨rfl,rfl⟩;go_wp2;go_ret;rw[gF.out];exact⟨rfl,Below.refl _ _⟩
 . have heq:ln v=ln u:=by omega
   generalize hL:ln u=L at*;have HL:=aj hL;clear hL;have sA:=aj heq;clear heq;have hf:(((L:Nat):Int) !=((L:Nat):Int))=false:=by simp
   rw[sA.out]at Kv l1;go_enter Tryz.func301,Tryz.ntmps301;go_wp2_with fail;refine(lV b o n cap v _ hm hcap Hc.out Hv.out).mono ?_;rintro e w' ⟨rfl,rfl⟩;rw[sA.out];go_wp2_with fail;refine(lV b2 o2 m cap2 u _ hm2 AG JW.out Hu.out).mono ?_;rintro e w' ⟨rfl,rfl⟩;rw[HL.out];go_wp2;go_loopw[5] (λi wr=>∃k:Nat,k<=L/\i=af ((k:Int)-1)/\v/WW^k=u/WW^k/\Bw w wr) (λi _=>(intOf i+1).toNat);case atStart=>exact⟨L,Nat.le_refl _,rfl,by rw[Nat.div_eq_of_lt Kv.out,Nat.div_eq_of_lt Ku.out],Below.refl _ _⟩
   case round=>
    obtain⟨k,hk,rfl,Ds,hb⟩:=hrel;have Ci:=aj Ds;clear Ds;by_cases h0:0<k
    . obtain⟨j,rfl⟩:∃j,k=j+1:=⟨k-1,by omega⟩;have c1:wr.cell? ⟨b,o+j,none⟩=some (.int .u64 (dg v j:Int)):=cell_later hb (Hc.out _ zo);have c2:wr.cell? ⟨b2,o2+j,none⟩=some (.int .u64 (dg u j:Int)):=cell_later hb (JW.out _ zo);rw[show(((j+1:Nat):Int)-1)=(j:Int)by omega];have Hb:=aj hb;clear hb;rcases Nat.lt_trichotomy (dg v j) (dg u j)with hd|hd|hd
      . have gF:Hid (di v u= -1):=by show di v u= -1;unfold di;rw[if_pos (ZH Ci.out hd)]
        go_wp2;go_region
        go_wp2;go_ret;rw[gF.out];exact⟨rfl,Hb.out.drew⟩
      . have Hd:=aj (amU Ci.out hd);rw[hd]at c1;go_wp2;go_region
        go_wp2;go_region
        go_wp2;go_roundw;case rel=>exact⟨j,by omega,rfl,Hd.out,Hb.out.drew.drew⟩
        case measure=>simp[intOf]
      . have gF:Hid (di v u=1):=by show di v u=1;have:=ZH Ci.out.symm hd;unfold di;rw[if_neg zo,if_pos this]
        go_wp2;go_region
        go_wp2;go_region
        go_wp2;go_ret;rw[gF.out];exact⟨rfl,Hb.out.drew.drew⟩
    . obtain rfl:k=0:=by omega
      have gF:Hid (di v u=0):=by have:=Ci.out;simp at this;subst this;show di v v=0;simp[di]
      have Hb:=aj hb;clear hb;go_wp2;go_ret;rw[gF.out];exact⟨rfl,Hb.out⟩
def Tryz.aAm :(Tryz.prog.info? 222).map (λi=>(i.zero,i.size,i.bytes))=some (some (.int .u64 0),1,8):=by kernel_rfl
def Tryz.az2 :(Tryz.prog.info? 5).map (λi=>(i.zero,i.size,i.bytes))=some (some (.int .u8 0),1,1):=by kernel_rfl
def avZ (n:Nat):List.replicate n (Value.int .u64 0)=bz n λ_=>0:=by
 apply List.ext_getElem?;intro j;by_cases h:j<n
 . rw[gD _ _ _ h];simp[h]
 . simp[bz,h]
def BA (c:Int)(n:Nat)(hc:c=n)(h:n<=1099511627776)(w:World):
 (Instr.makeSlice 264 (af c) (af c)).run Tryz.prog w=.ok (.slice (some ⟨w.heap.size,0,none⟩) n n) (w.alloc (.cells (bz n λ_=>0).toArray 222)):=by
 subst hc;obtain⟨i0,hi,hz0,hz1,hz2⟩:=info_parts Tryz.aAm;rw[run_make (P:=Tryz.prog) w 264 222 i0 _ Tryz.underlying264 hi hz0 .i64 .i64 n n zo zo (by rw[hz2];omega) zo];simp only[Int.toNat_natCast,hz1,Nat.mul_one];rw[<-avZ,<-toList_madeCells_one];simp[Value.cells]
def avc {m M v:Nat}(h:m<=M)(hv:v<WW^m):splice (bz M λ_=>0) 0 (bz m (dg v))=bz M (dg v):=by
 unfold splice;rw[List.take_zero,List.nil_append,zu,Nat.zero_add];apply List.ext_getElem?;intro j;rw[List.getElem?_append,zu];by_cases h1:j<m
 . rw[if_pos h1,gD _ _ _ h1,gD _ _ _ zo]
 . rw[if_neg h1,List.getElem?_drop,show m+(j-m)=j by omega];by_cases h2:j<M
   . rw[gD _ _ _ h2,gD _ _ _ h2,uM hv zo]
   . simp[bz,h2]
def QN (a:Option Addr)(m cap v:Nat)(c:Int)(w:World)(hm:m<=1099511627776)(hc0:0<=c)(hc1:c<=1099511627776)
 (hx:0<m->∃b o,a=some ⟨b,o,none⟩/\dL w b o m v) (hv:v<WW^m):
 Cl 298 #[.slice a m cap,af c] w λe w'=>e=.returned (.slice (some ⟨w.heap.size,0,none⟩) (max c.toNat m) (max c.toNat m))/\
  ar w' w.heap.size 222 (bz (max c.toNat m) (dg v))/\Bw w w':=by
 obtain⟨k,rfl⟩:=Int.eq_ofNat_of_zero_le hc0;rw[Int.toNat_natCast];have hM:max (k:Int) (m:Int)=((max k m:Nat):Int):=by omega
 generalize Gr:max k m=M at*;have hMm:m<=M:=by omega
 have hMb:M<=1099511627776:=by omega
 have Hv:=aj hv;clear hv;have Hx:=aj hx;clear hx;have HMM:=aj Gr;clear Gr;have hmk:=BA (M:Int) M rfl hMb;go_enter Tryz.func298,Tryz.ntmps298;go_wp2_with (with_reducible refine wpList_copy_splice rfl (.tmp 11) (.tmp 12) 264 264 rfl 222 Tryz.underlying264 zk (some ⟨w.heap.size,0,none⟩) a M M m cap rfl rfl w.heap.size 0 (bz M λ_=>0) 222 (heap_alloc_new w _) (bz m (dg v)) ?h1 ?h2 ?h3 ?h4 w.heap.size w zl (Nat.le_refl _) ?_);case h1=>rw[zu];exact(Nat.min_eq_left hMm).symm
 case h2=>
  rw[zu];intro h0;obtain⟨b,o,rfl,hL⟩:=Hx.out h0;refine⟨⟨b,o,none⟩,rfl,?_⟩;intro j x hj;have hjm:j<m:=by
   rcases Nat.lt_or_ge j m with h|h
   . exact h
   . simp[bz,h]at hj
  rw[gD _ _ _ hjm]at hj;cases hj
  rw[show((⟨b,o,none⟩:Addr).add j)=⟨b,o+j,none⟩by unfold Addr.add;split<;>simp_all];exact cell_later zl (hL j hjm)
 case h3=>rw[zu,zu];omega
 case h4=>intro x hx;simp[bz]at hx;obtain⟨j,_,rfl⟩:=hx;rfl
 . intro w1 bI hb1;go_wp2;go_ret;refine⟨rfl,?_,hb1⟩;have:=bI.out;unfold ar;rw[this,avc hMm Hv.out]
def mR (l:List UInt8):(bs l).size=l.length:=by show l.toArray.size=_;simp
def aln (s:ByteArray):s=bs s.data.toList:=by cases s;simp[bs]
def alj (l:List UInt8):(bs l).data.toList=l:=by simp[bs]
def vk (l:List UInt8)(i:Int)(j:Nat)(hj:j<l.length)(hi:i=j)(W:World):
 (Instr.index 9 (.string (bs l)) (af i)).run Tryz.prog W=.ok (.int .u8 (l[j].toNat:Int)) W:=by
 subst hi;have hj':j<(bs l).size:=by rw[mR];exact hj
 rw[run_index_string W 9 (bs l) .i64 j Tryz.underlying9,dif_pos zo];simp[bs,ByteArray.getElem_eq_getElem_data]
def Vv (C i:Nat):IntKind.u64.wrap ((C:Int) *2^i)=((C*2^i%WW:Nat):Int):=by
 rw[IntKind.wrap_u64,jr];have:(C:Int) *2^i=((C*2^i:Nat):Int):=by simp[Int.natCast_mul,Int.natCast_pow]
 rw[this];omega
def UD (X Y:Nat)(i c:Nat)(hY:Y=c*2^i)(hX:X<2^i)(h:c*2^i+2^i<=WW):bits BinOp.or IntKind.u64 (X:Int) (Y:Int)=((X+Y:Nat):Int):=by
 subst hY;have hp:=Nat.pow_pos (n:=i) (show 0<2 by decide);have h1:X<18446744073709551616:=by rw[jr]at h;omega
 have h2:c*2^i<18446744073709551616:=by rw[jr]at h;omega
 rw[bits_or_u64_nat X (c*2^i) h1 h2,as3 hX]
def ny (l:List UInt8)(w:World)(hs:l.length<=1099511627776):
 Cl 255 #[ah l] w λe w'=>e=.returned (.slice (some ⟨w.heap.size,0,none⟩) (ln (nv l)) ((l.length+7)/8))/\
  ar w' w.heap.size 222 (bz ((l.length+7)/8) (dg (nv l)))/\Bw w w'/\ln (nv l)<=(l.length+7)/8:=by
 have hsz:=mR l;have hmk:=BA (((l.length:Int)+7)/8) ((l.length+7)/8) zo zo;generalize hn:(l.length+7)/8=n at*;have dK:l.length<=8*n:=by omega
 have wN:8*n<=l.length+7:=by omega
 have Hn:=aj hn;clear hn;have pp:nv l<WW^n:=by refine Nat.lt_of_lt_of_le (ia l) ?_;rw[lT,show(256:Nat)=2^8 by rfl,<-Nat.pow_mul];exact Nat.pow_le_pow_right zd zo
 have rh:=aj pp;clear pp;go_enter Tryz.func255,Tryz.ntmps255;go_wp2;go_loopw[4,5,13] (λ_ _ i wr=>∃k:Nat,k<=l.length/\i=af k/\ar wr w.heap.size 222 (bz n (dg (nv (l.drop (l.length-k)))))/\Bw w wr) (λ_ _ i _=>l.length-(intOf i).toNat);case atStart=>
  refine⟨0,Nat.zero_le _,rfl,?_,zl⟩;have e:bz n (dg (nv (l.drop (l.length-0))))=bz n λ_=>0:=kH λj _=>by simp[yU,dg]
  rw[e];exact ar.new _ _ _
 case round=>
  obtain⟨k,hk,rfl,hB,hb⟩:=hrel;by_cases hlt:k<l.length
  . have h8:k/8<n:=by omega
    have hcell:wr.cell? ⟨w.heap.size,k/8,none⟩=some (.int .u64 (dg (nv (l.drop (l.length-k))) (k/8):Int)):=by rw[hB.cell,gD _ _ _ h8]
    have hfree:wr.frozen? ⟨w.heap.size,k/8,none⟩=false:=hB.free _;have gV:=vk l ((l.length:Int)-1-(k:Int)) (l.length-1-k) zo zo;have hC:=(l[l.length-1-k]'zo).toNat_lt;have hVk:nv (l.drop (l.length-k))<256^k:=by have:=ia (l.drop (l.length-k));rwa [List.length_drop,show l.length-(l.length-k)=k by omega]at this
    have hlast:=asM l k hlt;obtain⟨d1,d2,d3⟩:=aly _ _ k hVk hC;have hp:=Nat.pow_pos (n:=k%8*8) (show 0<2 by decide);have II:(l[l.length-1-k]'zo).toNat*2^(k%8*8)+2^(k%8*8)<=WW:=by
     have h2:2^(k%8*8) *256<=WW:=by rw[show(256:Nat)=2^8 by rfl,<-Nat.pow_add,lS];exact Nat.pow_le_pow_right zd zo
     have:2^(k%8*8) * ((l[l.length-1-k]'zo).toNat+1)<=2^(k%8*8) *256:=Nat.mul_le_mul_left _ hC;rw[Nat.mul_add,Nat.mul_comm]at this;omega
    have MG:=Vv (l[l.length-1-k]'zo).toNat (k%8*8);rw[Nat.mod_eq_of_lt d2]at MG;have tV:=UD _ _ _ _ rfl d1 II;have eH:Hid (ar (wr.setCell ⟨w.heap.size,k/8,none⟩ (.int .u64 ((dg (nv (l.drop (l.length-k))) (k/8)+(l[l.length-1-k]'zo).toNat*2^(k%8*8):Nat):Int))) w.heap.size 222 (bz n (dg (nv (l.drop (l.length-(k+1))))))):=by have:=hB.set (k/8) (.int .u64 ((dg (nv (l.drop (l.length-k))) (k/8)+(l[l.length-1-k]'zo).toNat*2^(k%8*8):Nat):Int));rw[Eu]at this;rw[show l.length-(k+1)=l.length-1-k by omega,hlast];rw[kH λj _=>d3 j];exact this
    have Hb:Hid (Bw w (wr.setCell ⟨w.heap.size,k/8,none⟩ (.int .u64 ((dg (nv (l.drop (l.length-k))) (k/8)+(l[l.length-1-k]'zo).toNat*2^(k%8*8):Nat):Int)))):=hb.setCell (Nat.le_refl _) _;clear hB hb d1 d2 d3 hp II hlast hVk;generalize dg (nv (l.drop (l.length-k))) (k/8)+(l[l.length-1-k]'zo).toNat*2^(k%8*8)=Z at*;generalize dg (nv (l.drop (l.length-k))) (k/8)=X at*;generalize (l[l.length-1-k]'zo).toNat=C at*;generalize C*2^(k%8*8)=Y at*;go_wp2;go_region
    go_wp2;go_roundw;case rel=>exact⟨k+1,by omega,by go_num,eH.out.drew,Hb.out.drew⟩
    case measure=>exact bi
  . obtain rfl:k=l.length:=by omega
    rw[Nat.sub_self,List.drop_zero]at hB;have Hc:Hid (dL wr w.heap.size 0 n (nv l)):=λj hj=>by rw[Nat.zero_add,hB.cell,gD _ _ _ hj]
    have HB:=aj hB;clear hB;have Hb:=aj hb;clear hb;go_wp2_with (go_at_call 281;refine(lV w.heap.size 0 n n (nv l) _ zo (Nat.le_refl _) Hc.out rh.out).mono ?_;rintro e w' ⟨rfl,rfl⟩);go_ret;exact⟨rfl,HB.out,Hb.out,ji rh.out⟩
def VL (b o m cap v n:Nat)(w:World)(hm:m<=549755813888)(hn:n<=549755813888)(hx:dL w b o m v)(hv:v<WW^m):
 Cl 282 #[.slice (some ⟨b,o,none⟩) m cap,af (n:Int)] w λe w'=>e=.returned (.slice (some ⟨w.heap.size,0,none⟩) (ln (v*2^n)) (m+n/64+1))/\
  ar w' w.heap.size 222 (bz (m+n/64+1) (dg (v*2^n)))/\Bw w w'/\ln (v*2^n)<=m+n/64+1:=by
 have hmk:=BA ((m:Int)+(n:Int)/64+1) (m+n/64+1) zo zo;generalize hM:m+n/64+1=M at*;have Hx:=aj hx;clear hx;have pp:v*2^n<WW^M:=by
  have h1:2^n<=WW^(n/64+1):=by rw[lT];exact Nat.pow_le_pow_right zd zo
  rw[<-hM,Nat.add_assoc,Nat.pow_add];exact Nat.lt_of_lt_of_le (Nat.mul_lt_mul_of_pos_right hv (Nat.pow_pos zd)) (Nat.mul_le_mul_left _ h1)
 have rh:=aj pp;clear pp;have Hv:=aj hv;clear hv;have RN:m+n/64+1<=M:=by omega
 have Ay:M<=1099511627776:=by omega
 have HM:=aj hM;clear hM;go_enter Tryz.func282,Tryz.ntmps282;go_wp2;go_loopw[6,7,8,18] (λ_ _ _ i wr=>∃k:Nat,k<=m/\i=af k/\ar wr w.heap.size 222 (bz M (dg (v%WW^k*2^n)))/\Bw w wr) (λ_ _ _ i _=>m-(intOf i).toNat);case atStart=>
  refine⟨0,Nat.zero_le _,rfl,?_,zl⟩;have e:bz M (dg (v%WW^0*2^n))=bz M λ_=>0:=kH λj _=>by simp[dg,Nat.mod_one]
  rw[e];exact ar.new _ _ _
 case round=>
  obtain⟨k,hk,rfl,hB,hb⟩:=hrel;by_cases hlt:k<m
  . have c0:wr.cell? ⟨b,o+k,none⟩=some (.int .u64 (dg v k:Int)):=cell_later hb (Hx.out k hlt);obtain⟨c,e1,e2,e3,e4,e5,e6⟩:=av6 v n k;have hcell:wr.cell? ⟨w.heap.size,k+n/64,none⟩=some (.int .u64 (dg (v%WW^k*2^n) (k+n/64):Int)):=by rw[hB.cell,gD _ _ _ zo]
    have hfree:wr.frozen? ⟨w.heap.size,k+n/64,none⟩=false:=hB.free _;have MG:=Vv (dg v k) (n%64);rw[<-e1]at MG;have tV:=UD _ _ _ _ rfl e2 e3;have bQ:=hB.set (k+n/64) (.int .u64 ((dg (v%WW^k*2^n) (k+n/64)+c*2^(n%64):Nat):Int));have hb1:=hb.setCell (p:=⟨w.heap.size,k+n/64,none⟩) (Nat.le_refl _) (.int .u64 ((dg (v%WW^k*2^n) (k+n/64)+c*2^(n%64):Nat):Int));rw[Eu]at bQ;clear e1 e2 e3 hB hb;by_cases hr:n%64=0
    . have eH:Hid (ar (wr.setCell ⟨w.heap.size,k+n/64,none⟩ (.int .u64 ((dg (v%WW^k*2^n) (k+n/64)+c*2^(n%64):Nat):Int))) w.heap.size 222 (bz M (dg (v%WW^(k+1) *2^n)))):=by
       have hz:dg v k/2^(64-n%64)=0:=by rw[hr];exact Nat.div_eq_of_lt (by have:=jK v k;rw[lS]at this;exact this)
       rw[kH (g:=λj=>if j=k+n/64 then dg (v%WW^k*2^n) (k+n/64)+c*2^(n%64)else dg (v%WW^k*2^n) j) λj _=>by
        rw[e6 j,hz];by_cases hj:j=k+n/64+1
        . subst hj;rw[if_pos rfl,if_neg zo,e4]
        . rw[if_neg hj]]
       exact bQ
      have Hb:=aj hb1;clear bQ hb1 e4 e5 e6;generalize dg (v%WW^k*2^n) (k+n/64)+c*2^(n%64)=Z at*;generalize dg (v%WW^k*2^n) (k+n/64)=X at*;generalize c*2^(n%64)=Y at*;have Bg:decide ((0:Int)<(n:Int)%64)=false:=by simp;omega
      have Hr:=aj hr;clear hr;go_wp2;go_region
      go_wp2;go_roundw;case rel=>exact⟨k+1,by omega,by go_num,eH.out.drew,Hb.out.drew⟩
      case measure=>exact bi
    . have bB:k+n/64+1<M:=by omega
      have apt:(wr.setCell ⟨w.heap.size,k+n/64,none⟩ (.int .u64 ((dg (v%WW^k*2^n) (k+n/64)+c*2^(n%64):Nat):Int))).cell? ⟨w.heap.size,k+n/64+1,none⟩=some (.int .u64 0):=by rw[bQ.cell,gD _ _ _ bB,if_neg zo,e4];rfl
      have apB:(wr.setCell ⟨w.heap.size,k+n/64,none⟩ (.int .u64 ((dg (v%WW^k*2^n) (k+n/64)+c*2^(n%64):Nat):Int))).frozen? ⟨w.heap.size,k+n/64+1,none⟩=false:=bQ.free _;have eP:=bQ.set (k+n/64+1) (.int .u64 ((dg v k/2^(64-n%64):Nat):Int));have hb2:=hb1.setCell (p:=⟨w.heap.size,k+n/64+1,none⟩) (Nat.le_refl _) (.int .u64 ((dg v k/2^(64-n%64):Nat):Int));rw[Eu,<-kH λj _=>e6 j]at eP;have ayH:bits BinOp.or IntKind.u64 0 ((dg v k:Int)/2^(64-n%64))=((dg v k/2^(64-n%64):Nat):Int):=by have h:=bits_or_u64_nat 0 (dg v k/2^(64-n%64)) zd (by rw[jr]at e5;exact e5);simp only[Nat.zero_or]at h;rw[<-h];simp[Int.natCast_pow]
      obtain⟨eH,Hb⟩:=aH eP hb2;clear bQ hb1 e4 e5 e6 eP hb2;have Bg:decide ((0:Int)<(n:Int)%64)=true:=by simp;omega
      have Hr:=aj hr;clear hr;generalize dg (v%WW^k*2^n) (k+n/64)+c*2^(n%64)=Z at*;generalize dg (v%WW^k*2^n) (k+n/64)=X at*;generalize c*2^(n%64)=Y at*;generalize dg v k/2^(64-n%64)=Z2 at*;go_wp2;go_region
      go_wp2;go_region
      go_wp2;go_roundw;case rel=>exact⟨k+1,by omega,by go_num,eH.out.drew.drew,Hb.out.drew.drew⟩
      case measure=>exact bi
  . obtain rfl:k=m:=by omega
    rw[Nat.mod_eq_of_lt Hv.out]at hB;have Hc:Hid (dL wr w.heap.size 0 M (v*2^n)):=λj hj=>by rw[Nat.zero_add,hB.cell,gD _ _ _ hj]
    have HB:=aj hB;clear hB;have Hb:=aj hb;clear hb;go_wp2_with (go_at_call 281;refine(lV w.heap.size 0 M M (v*2^n) _ zo (Nat.le_refl _) Hc.out rh.out).mono ?_;rintro e w' ⟨rfl,rfl⟩);go_ret;exact⟨rfl,HB.out,Hb.out,ji rh.out⟩
def Av (F:Nat->Nat)(k:Nat)(G:Nat->Nat)(j:Nat):Nat:=if j<k then G j else F j
def aai (N:Nat)(F:Nat->Nat)(i:Nat)(G:Nat->Nat)(x:Nat)(hx:x=G i):
 (bz N (Av F i G)).set i (.int .u64 (x:Int))=bz N (Av F (i+1) G):=by
 rw[Eu];refine kH λj _=>?_;unfold Av;by_cases h:j=i
 . subst h;rw[if_pos rfl,if_pos zo,hx]
 . rw[if_neg h];by_cases h2:j<i
   . rw[if_pos h2,if_pos zo]
   . rw[if_neg h2,if_neg zo]
def Lp (v q j:Nat):dg (v/WW^q) j=dg v (q+j):=by unfold dg;rw[Nat.div_div_eq_div_mul,<-Nat.pow_add]
def ana (v n:Nat):v/WW^(n/64)/2^(n%64)=v/2^n:=by rw[lT,Nat.div_div_eq_div_mul,<-Nat.pow_add];congr 2;omega
def ZM (a:Option Addr)(m cap n:Nat)(w:World)(hm:m<=549755813888)(hn:n<=1099511627776)(hle:m<=n/64):
 Cl 283 #[.slice a m cap,af (n:Int)] w λe w'=>e=.returned (.slice none 0 0)/\w=w':=by
 go_enter Tryz.func283,Tryz.ntmps283;go_wp2;go_ret;exact⟨rfl,rfl⟩
def ZL (b o m cap v n:Nat)(w:World)(hm:m<=549755813888)(hcap:m<=cap)(hn:n<=1099511627776)(hx:dL w b o m v)(hv:v<WW^m)(ayB:n/64<m):
 Cl 283 #[.slice (some ⟨b,o,none⟩) m cap,af (n:Int)] w λe w'=>e=.returned (.slice (some ⟨w.heap.size,0,none⟩) (ln (v/2^n)) (m-n/64))/\
  ar w' w.heap.size 222 (bz (m-n/64) (dg (v/2^n)))/\Bw w w'/\ln (v/2^n)<=m-n/64:=by
 have dM:b<w.heap.size:=World.block_lt_of_cell? w ⟨b,o+0,none⟩ (hx 0 zo);have hne:¬cap=n/64:=by omega
 have Hx:=aj hx;clear hx;have hu:v/WW^(n/64)<WW^(m-n/64):=by rw[Nat.div_lt_iff_lt_mul (dX _),<-Nat.pow_add,show m-n/64+n/64=m by omega];exact hv
 have Hu:=aj hu;clear hu;have Hv:=aj hv;clear hv;have Yu:Hid (dL w b (o+n/64) (m-n/64) (v/WW^(n/64))):=λj hj=>by rw[Lp,Nat.add_assoc];exact Hx.out _ zo
 go_enter Tryz.func283,Tryz.ntmps283;go_wp2_with (go_at_call 298;refine(QN (some ⟨b,o+n/64,none⟩) (m-n/64) (cap-n/64) (v/WW^(n/64)) 0 _ zo zo zo (λ_=>⟨b,o+n/64,rfl,Yu.out⟩) Hu.out).mono ?_;rintro e w1 ⟨rfl,bQ,hb1⟩;rw[show max (0:Int).toNat (m-n/64)=m-n/64 by simp]at bQ;rw[show max (0:Int).toNat (m-n/64)=m-n/64 by simp];have eG:=aj bQ;clear bQ;have bI:=aj hb1;clear hb1);generalize hL:m-n/64=L at*;have HL:=aj hL;have yl:L+n/64=m:=by omega
 clear hL;generalize hU:v/WW^(n/64)=U at*;have HU:=aj hU;clear hU;go_wp2;go_loopw[6,19] (λ_ i wr=>∃k:Nat,k<=L/\i=af k/\ar wr w.heap.size 222 (bz L (Av (dg U) k (dg (U/2^(n%64)))))/\Bw w wr) (λ_ i _=>L-(intOf i).toNat);case atStart=>exact⟨0,Nat.zero_le _,rfl,eG.out,bI.out⟩
 case round=>
  obtain⟨k,hk,rfl,hB,hb⟩:=hrel;by_cases hlt:k<L
  . have hcell:wr.cell? ⟨w.heap.size,k,none⟩=some (.int .u64 (dg U k:Int)):=by rw[hB.cell,gD _ _ _ hlt];simp[Av]
    have hfree:wr.frozen? ⟨w.heap.size,k,none⟩=false:=hB.free _;have Mh:=amT U (n%64) k (Nat.mod_lt _ zd);have MH:(dg U k:Int)/2^(n%64)=((dg U k/2^(n%64):Nat):Int):=by simp[Int.natCast_pow]
    have bQ:=hB.set k (.int .u64 ((dg U k/2^(n%64):Nat):Int));have hb1:=hb.setCell (p:=⟨w.heap.size,k,none⟩) (Nat.le_refl _) (.int .u64 ((dg U k/2^(n%64):Nat):Int));by_cases hc:k+1<L/\0<n%64
    . obtain⟨hc1,hc2⟩:=hc;obtain⟨c,f1,f2,f3,f4,f5⟩:=aga (dg U (k+1)) (64-n%64) (jK _ _) zo;have hX:dg U k/2^(n%64)<2^(64-n%64):=by rw[Nat.div_lt_iff_lt_mul (Nat.pow_pos zd),<-Nat.pow_add,show 64-n%64+n%64=64 by omega,<-lS];exact jK _ _
      have ayi:(wr.setCell ⟨w.heap.size,k,none⟩ (.int .u64 ((dg U k/2^(n%64):Nat):Int))).cell? ⟨b,o+(n/64+k+1),none⟩=some (.int .u64 (dg U (k+1):Int)):=by have:=Yu.out (k+1) zo;rw[show o+(n/64+k+1)=o+n/64+(k+1)by omega];exact cell_later hb1 this
      have apt:(wr.setCell ⟨w.heap.size,k,none⟩ (.int .u64 ((dg U k/2^(n%64):Nat):Int))).cell? ⟨w.heap.size,k,none⟩=some (.int .u64 ((dg U k/2^(n%64):Nat):Int)):=by rw[bQ.cell];simp[zu,hlt]
      have apB:(wr.setCell ⟨w.heap.size,k,none⟩ (.int .u64 ((dg U k/2^(n%64):Nat):Int))).frozen? ⟨w.heap.size,k,none⟩=false:=bQ.free _;have MG:=Vv (dg U (k+1)) (64-n%64);have tV:=UD _ _ _ _ f1 hX f4;have eP:=bQ.set k (.int .u64 ((dg (U/2^(n%64)) k:Nat):Int));have hb2:=hb1.setCell (p:=⟨w.heap.size,k,none⟩) (Nat.le_refl _) (.int .u64 ((dg (U/2^(n%64)) k:Nat):Int));rw[List.set_set,aai L _ k _ _ rfl]at eP;rw[<-Mh]at tV;obtain⟨eH,Hb⟩:=aH eP hb2;clear bQ hb1 eP hb2 hB hb f1 f2 f3 f4 f5 hX Mh;have hq1:decide ((k:Int)+1<(L:Int))=true:=by simp;omega
      have hq2:decide ((0:Int)<(n:Int)%64)=true:=by simp;omega
      generalize dg U k/2^(n%64)=D at*;generalize dg U (k+1) *2^(64-n%64)%WW=Y at*;generalize dg U (k+1)=D1 at*;go_wp2;go_region
      go_wp2;go_roundw;case rel=>exact⟨k+1,by omega,by go_num,eH.out.drew,Hb.out.drew⟩
      case measure=>exact bi
    . have e:dg U k/2^(n%64)=dg (U/2^(n%64)) k:=by
       rw[Mh];by_cases h0:n%64=0
       . rw[h0];simp only[Nat.pow_zero,Nat.div_one,Nat.sub_zero,<-lS,Nat.mul_mod_left,Nat.add_zero]
       . rw[uM (j:=k+1) Hu.out zo,Nat.zero_mul,Nat.zero_mod,Nat.add_zero]
      rw[e,aai L _ k _ _ rfl]at bQ;rw[e]at hb1 MH;obtain⟨eH,Hb⟩:=aH bQ hb1;clear bQ hb1 hB hb Mh e;by_cases h1:k+1<L
      . have hq1:decide ((k:Int)+1<(L:Int))=true:=by simp;omega
        have hq2:decide ((0:Int)<(n:Int)%64)=false:=by simp;omega
        go_wp2;go_roundw;case rel=>exact⟨k+1,by omega,by go_num,eH.out,Hb.out⟩
        case measure=>exact bi
      . have hq1:decide ((k:Int)+1<(L:Int))=false:=by simp;omega
        go_wp2;go_roundw;case rel=>exact⟨k+1,by omega,by go_num,eH.out,Hb.out⟩
        case measure=>exact bi
  . obtain rfl:k=L:=by omega
    have e:U/2^(n%64)=v/2^n:=by rw[<-HU.out,ana]
    have e2:bz k (Av (dg U) k (dg (U/2^(n%64))))=bz k (dg (v/2^n)):=kH λj hj=>by simp[Av,hj,e]
    rw[e2]at hB;have bB:v/2^n<WW^k:=by rw[<-e];exact Nat.lt_of_le_of_lt (Nat.div_le_self _ _) Hu.out
    have XK:=aj bB;clear e e2 bB;have Hc:Hid (dL wr w.heap.size 0 k (v/2^n)):=λj hj=>by rw[Nat.zero_add,hB.cell,gD _ _ _ hj]
    have HB:=aj hB;clear hB;have Hb:=aj hb;clear hb;go_wp2_with (go_at_call 281;refine(lV w.heap.size 0 k k (v/2^n) _ zo (Nat.le_refl _) Hc.out XK.out).mono ?_;rintro e w' ⟨rfl,rfl⟩);go_ret;rw[HL.out];exact⟨rfl,HB.out,Hb.out,ji XK.out⟩
def dt (n:Nat)(f:Nat->Nat):List Value:=(List.range n).map λj=>.int .u8 (f j:Int)
def Jy (n:Nat)(f:Nat->Nat):(dt n f).length=n:=by simp[dt]
def nH (n:Nat)(f:Nat->Nat)(j:Nat)(h:j<n):(dt n f)[j]?=some (.int .u8 (f j:Int)):=by simp[dt,List.getElem?_range h]
def oD {n:Nat}{f g:Nat->Nat}(h:∀j,j<n->f j=g j):dt n f=dt n g:=by unfold dt;refine List.map_congr_left λj hj=>?_;rw[h j (by simpa using hj)]
def Et (n:Nat)(f:Nat->Nat)(i x:Nat):(dt n f).set i (.int .u8 (x:Int))=dt n (λj=>if j=i then x else f j):=by
 apply List.ext_getElem?;intro j;rw[List.getElem?_set,Jy];by_cases h:j<n
 . rw[nH _ _ _ h,nH _ _ _ h];by_cases e:i=j
   . subst e;simp[h]
   . simp[e,Ne.symm e]
 . by_cases e:i=j
   . subst e;simp[dt,h]
   . simp[e,dt,h]
def avY (n:Nat):List.replicate n (Value.int .u8 0)=dt n λ_=>0:=by
 apply List.ext_getElem?;intro j;by_cases h:j<n
 . rw[nH _ _ _ h];simp[h]
 . simp[dt,h]
def xh (c:Int)(n:Nat)(hc:c=n)(h:n<=17592186044416)(w:World):
 (Instr.makeSlice 59 (af c) (af c)).run Tryz.prog w=.ok (.slice (some ⟨w.heap.size,0,none⟩) n n) (w.alloc (.cells (dt n λ_=>0).toArray 5)):=by
 subst hc;obtain⟨i0,hi,hz0,hz1,hz2⟩:=info_parts Tryz.az2;rw[run_make (P:=Tryz.prog) w 59 5 i0 _ Tryz.underlying59 hi hz0 .i64 .i64 n n zo zo (by rw[hz2];omega) zo];simp only[Int.toNat_natCast,hz1,Nat.mul_one];rw[<-avY,<-toList_madeCells_one];simp[Value.cells]
def Es {w:World}{b:Nat}{t:TypeId}{n:Nat}{f:Nat->Nat}(h:ar w b t (dt n f))(cap:Nat):
 (convert 59 9 (.slice (some ⟨b,0,none⟩) n cap)).run Tryz.prog w=.ok (.string (bs ((List.range n).map λj=>UInt8.ofNat (f j)))) w:=by
 have:=run_convert_bytes_arg (P:=Tryz.prog) w 59 5 Tryz.underlying59 Tryz.underlying5 b 0 n cap ((List.range n).map λj=>(f j:Int)) zm (λi hi=>by rw[Nat.zero_add,h.cell,nH _ _ _ hi];simp[hi]) 9 Tryz.underlying9
 rw[this];unfold strOfNums bs;rw[List.map_map];rfl
def asN (v n:Nat):nv ((List.range n).map λj=>UInt8.ofNat (v/256^(n-1-j)%256))=v%256^n:=by
 induction n with
 |zero=>simp[yU,Nat.mod_one]
 | succ n ih=>
   rw[List.range_succ_eq_map,List.map_cons,List.map_map,vq,Ld,List.length_map,List.length_range];have e:(List.range n).map ((λj=>UInt8.ofNat (v/256^(n+1-1-j)%256))∘Nat.succ)=(List.range n).map λj=>UInt8.ofNat (v/256^(n-1-j)%256):=by
    refine List.map_congr_left λj hj=>?_;have hj':j<n:=by simpa using hj
    show UInt8.ofNat (v/256^(n+1-1-(j+1))%256)=_
    rw[show n+1-1-(j+1)=n-1-j by omega]
   rw[e,ih,Nat.pow_succ,Nat.mod_mul,show n+1-1-0=n by omega,Nat.mul_comm,Nat.add_comm]
def Uy (v n:Nat)(h:v<256^n)(h0:0<n->256^(n-1)<=v):(List.range n).map (λj=>UInt8.ofNat (v/256^(n-1-j)%256))=nt v:=by
 have e:=asN v n;rw[Nat.mod_eq_of_lt h]at e;refine(aeN _ ?_).symm.trans (by rw[e]);intro c hc;cases n with
 |zero=>simp at hc
 | succ n=>
   rw[List.range_succ_eq_map,List.map_cons,List.head?_cons]at hc;cases hc
   intro hz;have:=congrArg UInt8.toNat hz;rw[Ld]at this;have h1:=h0 zo;rw[show n+1-1=n by omega]at h1;rw[show n+1-1-0=n by omega]at this;have h2:v/256^n<256:=by rw[Nat.div_lt_iff_lt_mul (Nat.pow_pos zd)];rw[Nat.pow_succ,Nat.mul_comm]at h;exact h
   have h3:=Nat.div_pos h1 (Nat.pow_pos (n:=n) (show 0<256 by decide));rw[Nat.mod_eq_of_lt h2]at this;simp at this;omega
def FU (v:Nat):v<256^((bF v+7)/8)/\(0<(bF v+7)/8->256^((bF v+7)/8-1)<=v):=by
 constructor
 . refine Nat.lt_of_lt_of_le (sQ v) ?_;rw[show(256:Nat)=2^8 by rfl,<-Nat.pow_mul];exact Nat.pow_le_pow_right zd zo
 . intro h;have hv:v≠0:=by intro h0;subst h0;simp[bF]at h
   have e:bF v=Nat.log2 v+1:=by unfold bF;rw[if_neg hv]
   refine Nat.le_trans ?_ (Nat.log2_self_le hv);rw[show(256:Nat)=2^8 by rfl,<-Nat.pow_mul];exact Nat.pow_le_pow_right zd zo
def asH (v:Nat):(nt v).length=(bF v+7)/8:=by have h:=FU v;rw[<-Uy v _ h.1 h.2];simp
def byte_of (v k:Nat):IntKind.u8.wrap ((dg v (k/8):Int)/2^(k%8*8))=((v/256^k%256:Nat):Int):=by
 have e:(dg v (k/8):Int)/2^(k%8*8)=((dg v (k/8)/2^(k%8*8):Nat):Int):=by simp[Int.natCast_pow]
 rw[e];have e2:dg v (k/8)/2^(k%8*8)%256=v/256^k%256:=by
  unfold dg;rw[UX,<-Nat.div_div_eq_div_mul];generalize v/WW^(k/8)=x;have hW:WW=2^(k%8*8) *2^(64-k%8*8):=by rw[<-Nat.pow_add,lS];congr 1;omega
  rw[hW,Nat.mod_mul_right_div_self,Nat.mod_mod_of_dvd];rw[show(256:Nat)=2^8 by rfl];exact Nat.pow_dvd_pow 2 zo
 rw[<-e2];generalize dg v (k/8)/2^(k%8*8)=y;simp[IntKind.wrap,IntKind.signed,IntKind.bits]
def zq (b o m cap v:Nat)(w:World)(hm:m<=1099511627776)(hcap:m<=cap)(hx:dL w b o m v)(hv:v<WW^m):
 Cv 260 #[.slice (some ⟨b,o,none⟩) m cap] w (ah (nt v)):=by
 have hle:=ji hv;have hbl:bF v<=64*m:=im (by rw[<-lT];exact hv);have hmk:=xh (((bF v:Int)+7)/8) ((bF v+7)/8) zo zo;have SX:(bF v+7)/8<=8*ln v:=by have h1:bF v<=64*ln v:=im (by rw[<-lT];exact eU v);omega
 have nP:Hid ((List.range ((bF v+7)/8)).map (λj=>UInt8.ofNat (v/256^((bF v+7)/8-1-j)%256))=nt v):=Uy _ _ (FU v).1 (FU v).2;generalize hn:(bF v+7)/8=n at*;have hnb:n<=17592186044416:=by omega
 have Hn:=aj hn;have Tc:((bF v:Int)+7)/8=(n:Int):=by omega
 rw[Tc]at hmk;clear hn;have Hx:=aj hx;clear hx;have Hv:=aj hv;clear hv;have uE:Hid (dL w b o (ln v) v):=Hx.out.less hle;go_enter Tryz.func260,Tryz.ntmps260;go_wp2_with fail;refine(lV b o m cap v _ zo hcap Hx.out Hv.out).mono ?_;rintro e w' ⟨rfl,rfl⟩;go_wp2_with fail;refine(aef b o (ln v) cap v _ zo zo uE.out (eU v)).mono ?_;rintro e w' ⟨rfl,rfl⟩;go_wp2;go_loopw[5,15] (λ_ i wr=>∃k:Nat,k<=n/\i=af k/\ar wr w.heap.size 5 (dt n (λj=>if n-k<=j then v/256^(n-1-j)%256 else 0))/\Bw w wr) (λ_ i _=>n-(intOf i).toNat);case atStart=>
  refine⟨0,Nat.zero_le _,rfl,?_,zl⟩;have e:dt n (λj=>if n-0<=j then v/256^(n-1-j)%256 else 0)=dt n λ_=>0:=oD λj hj=>by rw[if_neg zo]
  rw[e];exact ar.new _ _ _
 case round=>
  obtain⟨k,hk,rfl,hB,hb⟩:=hrel;by_cases hlt:k<n
  . have lh:wr.cell? ⟨b,o+k/8,none⟩=some (.int .u64 (dg v (k/8):Int)):=cell_later hb (uE.out _ zo);have h8:k/8<ln v:=by omega
    have ayh:=byte_of v k;have hcell:wr.cell? ⟨w.heap.size,n-1-k,none⟩=some (.int .u8 0):=by rw[hB.cell,nH _ _ _ zo,if_neg zo];rfl
    have hfree:wr.frozen? ⟨w.heap.size,n-1-k,none⟩=false:=hB.free _;have bQ:=hB.set (n-1-k) (.int .u8 ((v/256^k%256:Nat):Int));have hb1:=hb.setCell (p:=⟨w.heap.size,n-1-k,none⟩) (Nat.le_refl _) (.int .u8 ((v/256^k%256:Nat):Int))
    rw[Et,oD (g:=λj=>if n-(k+1)<=j then v/256^(n-1-j)%256 else 0) λj hj=>by
     by_cases og:j=n-1-k
     . subst og;rw[if_pos rfl,if_pos zo,show n-1-(n-1-k)=k by omega]
     . rw[if_neg og];by_cases jP:n-k<=j
       . rw[if_pos jP,if_pos zo]
       . rw[if_neg jP,if_neg zo]]at bQ
    obtain⟨eH,Hb⟩:=aH bQ hb1;clear hB hb bQ hb1;generalize v/256^k%256=Z at*;go_wp2;go_roundw;case rel=>exact⟨k+1,by omega,by go_num,eH.out,Hb.out⟩
    case measure=>exact bi
  . obtain rfl:k=n:=by omega
    rw[oD (g:=λj=>v/256^(k-1-j)%256) λj hj=>by rw[if_pos zo]]at hB;have uW:=Es hB k;rw[nP.out]at uW;have Hb:=aj hb;clear hb hB;go_wp2;go_ret;exact⟨rfl,Hb.out⟩
def ov {t e sz:Nat}(hu:Tryz.prog.underlying t=some (.slice e))(hs:(Tryz.prog.info? e).map (·.size)=some sz){a:Option Addr}{b o:Nat}(n cap k:Nat)(i:Int)
 (ha:a=some ⟨b,o,none⟩) (hk:k<n) (hi:i=k) (W:World):
 (Instr.indexAt t (.slice a n cap) (af i)).run Tryz.prog W=.ok (.pointer (some ⟨b,o+k*sz,none⟩)) W:=by
 subst ha;subst hi;obtain⟨inf,h1,h2⟩:=Option.map_eq_some_iff.1 hs;have hk':(0:Int)<=(k:Int)/\(k:Int)<(n:Int):=by omega
 have hadd:(⟨b,o,none⟩:Addr).add (k*sz)=⟨b,o+k*sz,none⟩:=by unfold Addr.add;split<;>simp_all
 simp[Instr.indexAt,run_underlying hu,asIntOf,hk,sizeOf,typeInfo,h1,h2,hadd]
abbrev Bo := @ov 153 29 1 Tryz.underlying153 zk
abbrev DY := @ov 211 226 1 Tryz.underlying211 zk
abbrev wX := @ov 226 43 2 Tryz.underlying226 zk
abbrev vh := @ov 23 88 6 Tryz.underlying23 zk
abbrev ng := @ov 25 63 1 Tryz.underlying25 zk
abbrev IW := @ov 264 222 1 Tryz.underlying264 zk
abbrev IX := @ov 28 3 1 Tryz.underlying28 zk
abbrev ud := @ov 29 45 3 Tryz.underlying29 zk
abbrev gX := @ov 39 111 4 Tryz.underlying39 zk
abbrev ue := @ov 51 41 2 Tryz.underlying51 zk
abbrev yL := @ov 59 5 1 Tryz.underlying59 zk
abbrev ot := @ov 63 45 3 Tryz.underlying63 zk
abbrev IY := @ov 69 127 6 Tryz.underlying69 zk
abbrev TV := @ov 74 27 2 Tryz.underlying74 zk
abbrev adL := @ov 98 9 1 Tryz.underlying98 zk
def At (w:World)(a:Option Addr)(cs:List Value):Prop:=cs=[]\/∃b o,a=some ⟨b,o,none⟩/\∀j,j<cs.length->w.cell? ⟨b,o+j,none⟩=cs[j]?
def At.nil (w:World)(a:Option Addr):At w a []:=.inl rfl
def At.below {w w':World}{a:Option Addr}{cs:List Value}(h:At w a cs)(hb:Bw w w'):At w' a cs:=by
 rcases h with h|⟨b,o,ha,hc⟩
 . exact .inl h
 . refine .inr ⟨b,o,ha,λj hj=>?_⟩;have:=hc j hj;rw[List.getElem?_eq_getElem hj]at this⊢;exact cell_later hb this
def At.grown {w w':World}{a:Option Addr}{cs:List Value}{r:Option Nat}(h:At w a cs)(hb:w.grownBy w' r)(hr:∀b o,a=some ⟨b,o,none⟩->some b≠r):At w' a cs:=by
 rcases h with h|⟨b,o,ha,hc⟩
 . exact .inl h
 . refine .inr ⟨b,o,ha,λj hj=>?_⟩;have:=hc j hj;rw[List.getElem?_eq_getElem hj]at this⊢;exact hb.cell this (hr b o ha)
def At.get {w:World}{a:Option Addr}{cs:List Value}(h:At w a cs)(h0:cs≠[]):∃b o,a=some ⟨b,o,none⟩/\∀j,j<cs.length->w.cell? ⟨b,o+j,none⟩=cs[j]?:=by
 rcases h with h|h
 . exact absurd h h0
 . exact h
def At.lt {w:World}{b o:Nat}{cs:List Value}(h:At w (some ⟨b,o,none⟩) cs)(h0:cs≠[]):b<w.heap.size:=by
 obtain⟨b',o',ha,hc⟩:=h.get h0;cases ha
 have hp:0<cs.length:=List.length_pos_iff.2 h0;have:=hc 0 hp;rw[List.getElem?_eq_getElem hp]at this;exact World.block_lt_of_cell? w _ this
def CE (w:World)(a:Option Addr)(n v:Nat):Prop:=0<n->∃b o,a=some ⟨b,o,none⟩/\dL w b o n v
def CE.below {w w':World}{a:Option Addr}{n v:Nat}(h:CE w a n v)(hb:Bw w w'):CE w' a n v:=λh0=>
 let ⟨b,o,ha,hl⟩:=h h0;⟨b,o,ha,hl.below hb⟩
def afS (a:Option Addr)(cap:Nat)(w:World):
 Cv 260 #[.slice a 0 cap] w (.string (bs [])):=by
 have hmk:=xh 0 0 rfl zo;have uW:=Es (ar.new w 5 (dt 0 λ_=>0)) 0;go_enter Tryz.func260,Tryz.ntmps260;go_wp2_with fail;refine(Zr cap a _).mono ?_;rintro e w' ⟨rfl,rfl⟩;go_wp2_with fail;refine(arh a cap _).mono ?_;rintro e w' ⟨rfl,rfl⟩;go_wp2;refine wp_loop_rounds 1 ?_;rw[rounds_succ];go_wp2;go_ret;exact⟨rfl,zl⟩
def afR (a:Option Addr)(m cap v:Nat)(w:World)(hm:m<=1099511627776)(hcap:m<=cap)(hx:CE w a m v)(hv:v<WW^m):
 Cv 260 #[.slice a m cap] w (ah (nt v)):=by
 rcases Nat.eq_zero_or_pos m with h|h
 . subst h;have:v=0:=by simpa using hv
   subst this;exact afS a cap w
 . obtain⟨b,o,rfl,hl⟩:=hx h;exact zq b o m cap v w hm hcap hl hv
def asR (n:Nat)(h:n<WW)(w:World):ar (w.alloc (.cells #[.int .u64 (n:Int)] 222)) w.heap.size 222 (bz 1 (dg n)):=by
 have e0:dg n 0=n:=by simp[dg,Nat.mod_eq_of_lt h]
 have e:bz 1 (dg n)=[.int .u64 (n:Int)]:=by simp[bz,e0]
 rw[e];exact ar.new _ _ _
def aeF (n:Nat)(h:n<WW)(w:World):
 Cv 210 #[.int .u64 (n:Int)] w (ah (nt n)):=by
 have hB:=asR n h w;have Hc:Hid (dL (w.alloc (.cells #[.int .u64 (n:Int)] 222)) w.heap.size 0 1 n):=λj hj=>by rw[Nat.zero_add,hB.cell,gD _ _ _ hj]
 have Hh:=aj h;clear h hB;go_enter Tryz.func210,Tryz.ntmps210;go_wp2_with (go_at_call 260;refine(zq w.heap.size 0 1 1 n _ zo zo Hc.out (by rw[Nat.pow_one];exact Hh.out)).mono ?_;rintro e w' ⟨rfl,hb⟩);go_ret;exact⟨rfl,zl.trans (hb.mono zm)⟩
def alk (l:List UInt8)(k:Nat):(bs l).extract k (bs l).size=bs (l.drop k):=by rw[aln ((bs l).extract k (bs l).size)];congr 1;rw[mR];simp[bs,ByteArray.data_extract];rw[List.take_of_length_le zm]
def au1 (l:List UInt8)(i:Int)(k:Nat)(hk:k<=l.length)(hi:i=k)(W:World):
 (Instr.sliceAt 9 (ah l) (some (af i)) none none).run Tryz.prog W=.ok (ah (l.drop k)) W:=by
 subst hi;have h:=run_slice_string_from_if (P:=Tryz.prog) W 9 (bs l) .i64 k Tryz.underlying9;rw[if_pos (by rw[mR];omega)]at h;simp only[Int.toNat_natCast,alk l k]at h;simpa[Instr.sliceAt,run_underlying Tryz.underlying9]using h
def avR (l:List UInt8)(w:World)(_hs:l.length<=1099511627776):
 Cl 305 #[ah l,.int .u8 0] w λe w'=>e=.returned (ah (nt (nv l)))/\w=w':=by
 go_enter Tryz.func305,Tryz.ntmps305;go_wp2;go_loop [0] (λx=>∃m:List UInt8,m.length<=l.length/\nv m=nv l/\x=ah m) (λx=>match x with| .string s=>s.size|_=>0)
 case atStart=>exact⟨l,Nat.le_refl _,rfl,rfl⟩
 case round=>
  obtain⟨m,hm,hv,rfl⟩:=hrel;have Hv:=aj hv;clear hv;have hsz:=mR m;cases m with
  | nil=>
    go_wp2;go_ret;have e:nt (nv l)=[]:=by rw[<-Hv.out];rfl
    rw[e];exact⟨rfl,rfl⟩
  | cons c m=>
    have gV:=vk (c::m) 0 0 zm rfl;have hsl:=au1 (c::m) 1 1 zm rfl;simp only[List.getElem_cons_zero,List.drop_succ_cons,List.drop_zero]at gV hsl;have gq:0<m.length+1:=by omega
    have jE:Hid (m.length+1<=l.length):=hm;rw[List.length_cons]at hsz hm;by_cases hc:c=0
    . have hct:((c.toNat:Int)==0)=true:=by rw[hc];rfl
      have Hn:Hid (nv m=nv l):=by
       show nv m=nv l
       rw[<-Hv.out,vq,hc];simp
      clear hc;go_wp2;refine⟨⟨m,by have:=jE.out;omega,Hn.out,rfl⟩,?_⟩;simp[mR]
    . have hcn:c.toNat≠0:=λh0=>hc (UInt8.toNat_inj.1 (by simpa using h0));have hct:((c.toNat:Int)==0)=false:=by rw[beq_eq_false_iff_ne];omega
      have He:Hid (nt (nv l)=c::m):=by
       show nt (nv l)=c::m
       rw[<-Hv.out];exact aeN _ (λx hx=>by simp at hx;subst hx;exact hc)
      clear hc hcn;go_wp2;go_ret;rw[He.out];exact⟨rfl,rfl⟩
def avL (a:ByteArray)(k i:Nat)(hk:a.size-i=k)(r:List UInt8):ByteArray.toList.loop a i r=r.reverse++a.data.toList.drop i:=by
 induction k generalizing i r with
 |zero=>unfold ByteArray.toList.loop;rw[if_neg zo,List.drop_eq_nil_of_le zi,List.append_nil]
 | succ k ih=>
   unfold ByteArray.toList.loop;have hi:i<a.size:=by omega
   have hi':i<a.data.toList.length:=by simpa using hi
   rw[if_pos hi,ih (i+1) zo,List.drop_eq_getElem_cons hi',List.reverse_cons,List.append_assoc];congr 2;simp[ByteArray.get!,hi]
def fY (l:List UInt8):(bs l).toList=l:=by
 show ByteArray.toList.loop (bs l) 0 []=l
 rw[avL _ _ _ rfl,alj];simp
def wj (l:List UInt8):(bs l).toList.isEmpty=l.isEmpty:=by rw[fY]
def avS (l:List UInt8)(w:World)(hs:l.length<=1099511627776):
 Cl 285 #[ah l,.string ⟨#[0]⟩] w λe w'=>e=.returned (ah (nt (nv l)))/\w=w':=by
 cases l with
 |nil=>have hne:=wj [];simp only[List.isEmpty_nil]at hne;go_enter Tryz.func285,Tryz.ntmps285;go_wp2;go_ret;exact⟨rfl,rfl⟩
 |cons c m=>have hne:=wj (c::m);simp only[List.isEmpty_cons]at hne;go_enter Tryz.func285,Tryz.ntmps285;go_wp2_with (go_at_call 305;refine(avR _ _ hs).mono ?_;rintro e w' ⟨rfl,rfl⟩);go_ret;exact⟨rfl,rfl⟩
def afW (l:List UInt8)(w:World)(hs:l.length<=1099511627776):
 Cl 261 #[ah l] w λe w'=>e=.returned (ah (nt (nv l)))/\w=w':=by
 go_enter Tryz.func261,Tryz.ntmps261;go_wp2_with (go_at_call 285;refine(avS _ _ hs).mono ?_;rintro e w' ⟨rfl,rfl⟩);go_ret;exact⟨rfl,rfl⟩
def ar.lim {w:World}{b:Nat}{t:TypeId}{N v:Nat}(h:ar w b t (bz N (dg v)))(n:Nat)(hn:n<=N):dL w b 0 n v:=
 λj hj=>by rw[Nat.zero_add,h.cell,gD _ _ _ zo]
def asl (l m:List UInt8)(w:World)(hl:l.length<=68719476736)(hm:m.length<=68719476736):
 Cv 300 #[ah l,ah m] w (af (di (nv l) (nv m))):=by
 go_enter Tryz.func300,Tryz.ntmps300;go_wp2_with fail;refine(ny l _ zo).mono ?_;rintro e w1 ⟨rfl,bQ,hb1,fN⟩;obtain⟨eG,bI⟩:=aH bQ hb1;clear bQ hb1;go_wp2_with fail;refine(ny m _ zo).mono ?_;rintro e w2 ⟨rfl,eP,hb2,oh⟩;obtain⟨fA,bW⟩:=aH eP hb2;clear eP hb2;go_wp2_with fail;refine(Br w.heap.size 0 (ln (nv l)) ((l.length+7)/8) (nv l) w1.heap.size 0 (ln (nv m)) ((m.length+7)/8) (nv m) _ zo fN ((eG.out.below bW.out).lim _ fN) (eU _) zo oh (fA.out.lim _ oh) (eU _)).mono ?_;rintro e w3 ⟨rfl,hb3⟩;have dW:=aj hb3;clear hb3;go_wp2;go_ret;exact⟨rfl,(bI.out.trans (bW.out.mono bI.out.size)).trans (dW.out.mono (Nat.le_trans bI.out.size bW.out.size))⟩
def Uu (l:List UInt8)(w:World)(hl:l.length<=68719476736):
 Cv 259 #[ah l] w (af (bF (nv l):Int)):=by
 go_enter Tryz.func259,Tryz.ntmps259;go_wp2_with fail;refine(ny l _ zo).mono ?_;rintro e w1 ⟨rfl,bQ,hb1,fN⟩;obtain⟨eG,bI⟩:=aH bQ hb1;clear bQ hb1;go_wp2_with fail;refine(aef w.heap.size 0 (ln (nv l)) ((l.length+7)/8) (nv l) _ zo fN (eG.out.lim _ fN) (eU _)).mono ?_;rintro e w3 ⟨rfl,rfl⟩;go_wp2;go_ret;exact⟨rfl,bI.out⟩
def tz (v:Nat):Nat:=((v:Int)).trailingZeros
def af0 (k m:Nat):tz (2^k* (2*m+1))=k:=by
 unfold tz;have e:((2^k* (2*m+1):Nat):Int)=(2* (m:Int)+1)<<<k:=by rw[Int.shiftLeft_eq];simp[Int.natCast_mul,Int.natCast_pow,Int.mul_comm]
 rw[e,Int.trailingZeros_shiftLeft zo,Int.trailingZeros_two_mul_add_one,Nat.zero_add]
def avV (v i:Nat)(h0:v%WW^i=0)(hd:dg v i≠0):tz v=64*i+Lib.ctz 64 (dg v i):=by
 obtain⟨m,hm,hlt⟩:=Zp (dg v i) (jK v i) hd;generalize Lib.ctz 64 (dg v i)=c at*;have e1:v=WW^i* (v/WW^i):=by have:=(Nat.mod_add_div v (WW^i)).symm;rw[h0,Nat.zero_add]at this;exact this
 have e2:v/WW^i=dg v i+WW* (v/WW^i/WW):=(Nat.mod_add_div _ _).symm;have e3:WW=2^c* (2*2^(63-c)):=by rw[<-Nat.pow_succ',<-Nat.pow_add,lS];congr 1;omega
 have e4:v=2^(64*i+c) * (2* (m+2^(63-c) * (v/WW^i/WW))+1):=by
  conv=>lhs;rw[e1,e2,hm]
  rw[Nat.pow_add,<-lT,Nat.mul_assoc];congr 1;generalize v/WW^i/WW=y;conv=>lhs;rw[e3]
  rw[Nat.mul_assoc,<-Nat.mul_add];congr 1;rw[Nat.mul_add,Nat.mul_assoc];omega
 rw[e4];exact af0 _ _
def Uv (l:List UInt8)(w:World)(hl:l.length<=68719476736)(hT:aB w):
 Cv 208 #[ah l] w (af (tz (nv l):Int)):=by
 have HT:=aj hT;clear hT;go_enter Tryz.func208,Tryz.ntmps208;go_wp2_with fail;refine(ny l _ zo).mono ?_;rintro e w1 ⟨rfl,bQ,hb1,fN⟩;obtain⟨eG,bI⟩:=aH bQ hb1;clear bQ hb1;have hn:ln (nv l)<=549755813888:=by omega
 have uy:Hid (nv l<WW^ln (nv l)):=eU _;generalize hvv:nv l=v at*;have HV:=aj hvv;clear hvv;go_wp2;go_loop [3,4,8] (λ_ _ i=>∃k:Nat,k<=ln v/\i=af k/\v%WW^k=0) (λ_ _ i=>ln v-(intOf i).toNat)
 case atStart=>exact⟨0,Nat.zero_le _,rfl,by simp[Nat.mod_one]⟩
 case round=>
  obtain⟨k,hk,rfl,hz⟩:=hrel;have Hz:=aj hz;clear hz;by_cases hlt:k<ln v
  . have hcell:w1.cell? ⟨w.heap.size,k,none⟩=some (.int .u64 (dg v k:Int)):=by have:=eG.out.lim _ fN k hlt;rwa [Nat.zero_add]at this
    by_cases hd:dg v k=0
    . have hd':((dg v k:Int) !=0)=false:=by simp[hd]
      have Hd:=aj hd;clear hd;go_wp2;go_round
      case rel=>exact⟨k+1,by omega,by go_num,by rw[BB,Hz.out,Hd.out];simp⟩
      case measure=>exact bi
    . have hd':((dg v k:Int) !=0)=true:=by rw[bne_iff_ne];omega
      have Hd:=aj hd;clear hd;obtain⟨dH,gF⟩:=aH (HT.out.below bI.out) (avV v k Hz.out Hd.out);have hct:Lib.ctz 64 (dg v k)<64:=by obtain⟨_,_,h⟩:=Zp (dg v k) (jK v k) Hd.out;exact h
      go_wp2_with (go_at_call 256;refine(avU _ (jK _ _) Hd.out _ dH.out).mono ?_;rintro e w' ⟨rfl,rfl⟩);go_ret;rw[HV.out,gF.out];exact⟨congrArg (λz:Int=>Ending.returned (af z)) zo,bI.out⟩
  . have cu:Hid (v=0):=by have:=Hz.out;rwa [Nat.mod_eq_of_lt (Nat.lt_of_lt_of_le uy.out (Nat.pow_le_pow_right jH zo))]at this
    go_wp2;go_ret;rw[HV.out,cu.out];exact⟨rfl,bI.out⟩
def KL (l:List UInt8):nv l<WW^((l.length+7)/8):=by refine Nat.lt_of_lt_of_le (ia l) ?_;rw[lT,show(256:Nat)=2^8 by rfl,<-Nat.pow_mul];exact Nat.pow_le_pow_right zd zo
def aeG (l m:List UInt8)(w:World)(hl:l.length<=68719476736)(hm:m.length<=68719476736)(h:nv m<=nv l):
 Cv 277 #[ah l,ah m] w (.tuple #[ah (nt (nv l-nv m)),ag true]):=by
 have hc0:0<=di (nv l) (nv m):=by unfold di;rw[if_neg zo];split<;>omega
 have Hh:=aj h;clear h;go_enter Tryz.func277,Tryz.ntmps277;go_wp2_with fail;refine(ny l _ zo).mono ?_;rintro e w1 ⟨rfl,bQ,hb1,fN⟩;obtain⟨eG,bI⟩:=aH bQ hb1;clear bQ hb1;go_wp2_with fail;refine(ny m _ zo).mono ?_;rintro e w2 ⟨rfl,eP,hb2,oh⟩;obtain⟨fA,bW⟩:=aH eP hb2;clear eP hb2;go_wp2_with fail;refine(Br w.heap.size 0 (ln (nv l)) ((l.length+7)/8) (nv l) w1.heap.size 0 (ln (nv m)) ((m.length+7)/8) (nv m) _ zo fN ((eG.out.below bW.out).lim _ fN) (eU _) zo oh (fA.out.lim _ oh) (eU _)).mono ?_;rintro e w3 ⟨rfl,hb3⟩;have dW:=aj hb3;clear hb3;go_wp2_with fail;refine(Jd w.heap.size ((l.length+7)/8) 0 (ln (nv l)) ((l.length+7)/8) (dg (nv l)) (nv l) w1.heap.size 0 (ln (nv m)) ((m.length+7)/8) (nv m) _ zo zo ((eG.out.below bW.out).below dW.out) zo (λj _=>by rw[Nat.zero_add]) ((fA.out.below dW.out).lim _ oh) (eU _) (by have:=eG.out.lt;omega) Hh.out (eU _)).mono ?_;rintro e w4 ⟨rfl,hB4,hg4⟩;have HL:Hid (dL w4 w.heap.size 0 (ln (nv l)) (nv l-nv m)):=λj hj=>by rw[hB4.cell,gD _ _ _ zo,Jj _ _ _ _ _ hj]
 have Hg4:=aj hg4;clear hB4 hg4;go_wp2_with fail;refine(zq w.heap.size 0 (ln (nv l)) ((l.length+7)/8) (nv l-nv m) _ zo fN HL.out (Nat.lt_of_le_of_lt (Nat.sub_le _ _) (eU _))).mono ?_;rintro e w5 ⟨rfl,dv⟩;have eu:=aj dv;clear dv;go_wp2;go_ret2
 refine⟨rfl,?_⟩;have s1:=bI.out.size;have s2:=bW.out.size;have s3:=dW.out.size;have b3:=((bI.out.trans (bW.out.mono s1)).trans (dW.out.mono (Nat.le_trans s1 s2)));have b4:=b3.grown Hg4.out b3.size (λk hk=>by cases hk;exact Nat.le_refl _);exact b4.trans (eu.out.mono b4.size)
def asq (l:List UInt8)(n:Nat)(w:World)(hl:l.length<=68719476736)(hn:n<=549755813888):
 Cv 257 #[ah l,af (n:Int)] w (ah (nt (nv l*2^n))):=by
 have hmax:max (n:Int) 0=(n:Int):=by omega
 go_enter Tryz.func257,Tryz.ntmps257;go_wp2_with fail;refine(ny l _ zo).mono ?_;rintro e w1 ⟨rfl,bQ,hb1,fN⟩;obtain⟨eG,bI⟩:=aH bQ hb1;clear bQ hb1;go_wp2_with fail;refine(VL w.heap.size 0 (ln (nv l)) ((l.length+7)/8) (nv l) n _ zo hn (eG.out.lim _ fN) (eU _)).mono ?_;rintro e w2 ⟨rfl,eP,hb2,oh⟩;obtain⟨fA,bW⟩:=aH eP hb2;clear eP hb2;go_wp2_with fail;refine(zq w1.heap.size 0 (ln (nv l*2^n)) (ln (nv l)+n/64+1) (nv l*2^n) _ zo oh (fA.out.lim _ oh) (eU _)).mono ?_;rintro e w3 ⟨rfl,hb3⟩;have dW:=aj hb3;clear hb3;go_wp2;go_ret;exact⟨rfl,(bI.out.trans (bW.out.mono bI.out.size)).trans (dW.out.mono (Nat.le_trans bI.out.size bW.out.size))⟩
def asr (l:List UInt8)(n:Nat)(w:World)(hl:l.length<=68719476736)(hn:n<=1099511627776):
 Cv 258 #[ah l,af (n:Int)] w (ah (nt (nv l/2^n))):=by
 have hmax:max (n:Int) 0=(n:Int):=by omega
 by_cases hlt:n/64<ln (nv l)
 . go_enter Tryz.func258,Tryz.ntmps258;go_wp2_with fail;refine(ny l _ zo).mono ?_;rintro e w1 ⟨rfl,bQ,hb1,fN⟩;obtain⟨eG,bI⟩:=aH bQ hb1;clear bQ hb1;go_wp2_with fail;refine(ZL w.heap.size 0 (ln (nv l)) ((l.length+7)/8) (nv l) n _ zo fN hn (eG.out.lim _ fN) (eU _) hlt).mono ?_;rintro e w2 ⟨rfl,eP,hb2,oh⟩;obtain⟨fA,bW⟩:=aH eP hb2;clear eP hb2;go_wp2_with fail;refine(zq w1.heap.size 0 (ln (nv l/2^n)) (ln (nv l)-n/64) (nv l/2^n) _ zo oh (fA.out.lim _ oh) (eU _)).mono ?_;rintro e w3 ⟨rfl,hb3⟩;have dW:=aj hb3;clear hb3;go_wp2;go_ret;exact⟨rfl,(bI.out.trans (bW.out.mono bI.out.size)).trans (dW.out.mono (Nat.le_trans bI.out.size bW.out.size))⟩
 . have H0:Hid (nt (nv l/2^n)=[]):=by
    show nt (nv l/2^n)=[]
    rw[Ux];refine Nat.div_eq_of_lt (Nat.lt_of_lt_of_le (eU _) ?_);rw[lT];exact Nat.pow_le_pow_right zd zo
   go_enter Tryz.func258,Tryz.ntmps258;go_wp2_with fail;refine(ny l _ zo).mono ?_;rintro e w1 ⟨rfl,bQ,hb1,fN⟩;obtain⟨eG,bI⟩:=aH bQ hb1;clear bQ hb1;go_wp2_with fail;refine(ZM _ (ln (nv l)) ((l.length+7)/8) n _ zo hn zo).mono ?_;rintro e w2 ⟨rfl,rfl⟩;go_wp2_with fail;refine(afS none 0 _).mono ?_;rintro e w3 ⟨rfl,hb3⟩;have dW:=aj hb3;clear hb3;go_wp2;go_ret;rw[H0.out];exact⟨rfl,bI.out.trans (dW.out.mono bI.out.size)⟩
def ar9 (v u k:Nat)(o:Nat):v%WW^k*u+dg v k*u*WW^k=v%WW^(k+1) *u/\o=o:=by refine⟨?_,rfl⟩;rw[BB,Nat.add_mul,Nat.mul_comm (WW^k),Nat.mul_assoc,Nat.mul_assoc,Nat.mul_comm u]
def asp (l m:List UInt8)(w:World)(hl:l.length<=68719476736)(hm:m.length<=68719476736):
 Cv 262 #[ah l,ah m] w (ah (nt (nv l*nv m))):=by
 go_enter Tryz.func262,Tryz.ntmps262;go_wp2_with fail;refine(ny l _ zo).mono ?_;rintro e w1 ⟨rfl,bQ,hb1,fN⟩;obtain⟨eG,bI⟩:=aH bQ hb1;clear bQ hb1;go_wp2_with fail;refine(ny m _ zo).mono ?_;rintro e w2 ⟨rfl,eP,hb2,oh⟩;obtain⟨fA,bW⟩:=aH eP hb2;clear eP hb2;have xK:Hid (nv l<WW^ln (nv l)):=eU _;have XL:Hid (nv m<WW^ln (nv m)):=eU _;generalize hv:nv l=v at*;generalize hu:nv m=u at*;obtain⟨HV,HU⟩:=aH hv hu;clear hv hu;have hmk:=BA ((ln v:Int)+(ln u:Int)+1) (ln v+ln u+1) zo zo;generalize hM:ln v+ln u+1=M at*;have RN:ln v+ln u+1<=M:=by omega
 have Ay:M<=ln v+ln u+1:=by omega
 have HM:=aj hM;clear hM;have acG:w.heap.size<w2.heap.size:=by have:=eG.out.lt;have:=bW.out.size;omega
 have Io:w1.heap.size<w2.heap.size:=fA.out.lt;go_wp2;go_loopw[8,9,23] (λ_ _ i wr=>∃k:Nat,k<=ln v/\i=af k/\ar wr w2.heap.size 222 (bz M (dg (v%WW^k*u)))/\Bw w2 wr) (λ_ _ i _=>ln v-(intOf i).toNat);case atStart=>
  refine⟨0,Nat.zero_le _,rfl,?_,zl⟩;have e:bz M (dg (v%WW^0*u))=bz M λ_=>0:=kH λj _=>by simp[dg,Nat.mod_one]
  rw[e];exact ar.new _ _ _
 case round=>
  obtain⟨k,hk,rfl,hB,hb⟩:=hrel;by_cases hlt:k<ln v
  . have hcell:wr.cell? ⟨w.heap.size,k,none⟩=some (.int .u64 (dg v k:Int)):=by have:=(((eG.out.below bW.out).below hb).lim _ fN) k hlt;rwa [Nat.zero_add]at this
    have hcap:¬M=k:=by omega
    have HY:Hid (dL wr w1.heap.size 0 (ln u) u):=(fA.out.below hb).lim _ oh;obtain⟨HB,Hb⟩:=aH hB hb;clear hB hb;go_wp2_with fail;refine(MZ w2.heap.size M k (M-k) (M-k) (dg (v%WW^k*u)) (v%WW^k*u/WW^k) w1.heap.size 0 (ln u) ((m.length+7)/8) u (dg v k) _ zo zo HB.out zo (λj _=>(Lp _ _ _).symm) HY.out XL.out zo (jK _ _)).mono ?_;rintro e w4 ⟨rfl,hB4,hg4⟩;have eH:Hid (ar w4 w2.heap.size 222 (bz M (dg (v%WW^(k+1) *u)))):=by
     show ar w4 w2.heap.size 222 (bz M (dg (v%WW^(k+1) *u)))
     rw[kH (g:=gg (dg (v%WW^k*u)) k (M-k) (dg (v%WW^k*u/WW^k+u*dg v k))) λj hj=>?_]
     . exact hB4
     . have hval:=(ar9 v u k 0).1;unfold gg;by_cases hjk:k<=j
       . rw[if_pos zo];have e1:v%WW^k*u/WW^k+u*dg v k=v%WW^(k+1) *u/WW^k:=by rw[<-hval,Nat.mul_comm _ (WW^k),Nat.add_mul_div_left _ _ (dX k),Nat.mul_comm u]
         rw[e1,Lp,show k+(j-k)=j by omega]
       . rw[if_neg zo,<-ZI (n:=k) (show j<k by omega),<-hval,Nat.add_mul_mod_self_right,ZI (show j<k by omega)]
    have qW:Hid (Bw w2 w4):=Hb.out.grown hg4 Hb.out.size (λj hj=>by cases hj;exact Nat.le_refl _);clear hB4 hg4;go_wp2;go_roundw;case rel=>exact⟨k+1,by omega,by go_num,eH.out,qW.out⟩
    case measure=>exact bi
  . obtain rfl:k=ln v:=by omega
    rw[Nat.mod_eq_of_lt xK.out]at hB;obtain⟨HB,Hb⟩:=aH hB hb;clear hB hb;have Hvu:Hid (v*u<WW^M):=by
     show v*u<WW^M
     refine Nat.lt_of_lt_of_le (Nat.mul_lt_mul'' xK.out XL.out) ?_;rw[<-Nat.pow_add];exact Nat.pow_le_pow_right jH zo
    go_wp2_with fail;refine(zq w2.heap.size 0 M M (v*u) _ zo (Nat.le_refl _) (HB.out.lim _ (Nat.le_refl _)) Hvu.out).mono ?_;rintro e w5 ⟨rfl,dv⟩;have eu:=aj dv;clear dv;go_wp2;go_ret;rw[HV.out,HU.out];have b3:=(bI.out.trans (bW.out.mono bI.out.size)).trans (Hb.out.mono (Nat.le_trans bI.out.size bW.out.size));exact⟨rfl,b3.trans (eu.out.mono b3.size)⟩
def gM (xs:List (List UInt8)):Nat:=(xs.map nv).sum
def asE (xs:List (List UInt8))(B:Nat)(h:∀l∈xs,l.length<=B):gM xs<=xs.length*256^B:=by
 unfold gM;induction xs with
 |nil=>simp
 |cons l xs ih=>have h1:=ia l;have h2:256^l.length<=256^B:=Nat.pow_le_pow_right zd (h l zm);have h3:=ih (λm hm=>h m (by simp[hm]));simp only[List.map_cons,List.sum_cons,List.length_cons];rw[Nat.add_mul,Nat.one_mul];omega
def arl (xs:List (List UInt8))(B N:Nat)(h:∀l∈xs,l.length<=B)(hx:xs.length<=1048576)(hN:8*B+20<64*N):ln (gM xs)<=N:=by refine ji (Nat.lt_of_le_of_lt (asE xs _ h) ?_);refine Nat.lt_of_le_of_lt (Nat.mul_le_mul_right _ hx) ?_;rw[lT,show(256:Nat)=2^8 from rfl,<-Nat.pow_mul,show(1048576:Nat)=2^20 from rfl,<-Nat.pow_add];exact Nat.pow_lt_pow_right zd zo
def ark (xs:List (List UInt8))(h:∀l∈xs,l.length<=68719476736)(hx:xs.length<=1048576):ln (gM xs)<=8589934593:=
 arl xs 68719476736 8589934593 h hx zd
def aeJ (xs:List (List UInt8))(k:Nat)(hk:k<xs.length):gM (xs.take (k+1))=gM (xs.take k)+nv xs[k]:=by unfold gM;rw[List.take_succ_eq_append_getElem hk,List.map_append,List.sum_append];simp
def asi (xs:List (List UInt8))(a:Option Addr)(cap:Nat)(w:World)(hl:∀l∈xs,l.length<=68719476736)(hx:xs.length<=1048576)
 (ha:At w a (xs.map λl=>ah l)):
 Cv 275 #[.slice a xs.length cap] w (ah (nt (gM xs))):=by
 have Hl:=aj hl;clear hl;have Ha:=aj ha;clear ha;have hs0:∀k,ln (gM (xs.take k))<=8589934593:=λk=>ark _ (λl hm=>Hl.out l (List.mem_of_mem_take hm)) (by rw[List.length_take];omega);have uC:=aj hs0;clear hs0;go_enter Tryz.func275,Tryz.ntmps275;go_wp2
 go_loopw[3,5,6,9] (λs _ _ i wr=>∃(k:Nat) (a1:Option Addr) (c1:Nat),k<=xs.length/\i=af k/\s=.slice a1 (ln (gM (xs.take k))) c1/\ln (gM (xs.take k))<=c1/\
  CE wr a1 (ln (gM (xs.take k))) (gM (xs.take k))/\Bw w wr) (λ_ _ _ i _=>xs.length-(intOf i).toNat)
 case atStart=>exact⟨0,none,0,Nat.zero_le _,rfl,rfl,by simp[gM,Uj],λh=>by simp[gM,Uj]at h,Below.refl _ _⟩
 case round=>
  obtain⟨k,a1,c1,hk,rfl,rfl,hc1,hL,hb⟩:=hrel;have hlen:=uC.out k;by_cases hlt:k<xs.length
  . have hne:(xs.map λl=>Value.string (bs l))≠[]:=by intro h0;have:=congrArg List.length h0;simp at this;subst this;simp at hlt
    obtain⟨b,o,hab,hcs⟩:=(Ha.out.below hb).get hne;have hcell:wr.cell? ⟨b,o+k,none⟩=some (.string (bs xs[k])):=by rw[hcs k (by simpa using hlt)];simp[hlt]
    have aX:=adL xs.length cap k (k:Int) hab hlt rfl;clear hcs hne;have lI:Hid (xs[k].length<=68719476736):=Hl.out _ (List.getElem_mem hlt);obtain⟨bN,kM⟩:=aH (aeJ xs k hlt) hab;clear hab;have hlen':=uC.out (k+1);rw[bN.out]at hlen';have axe:=aj hlen';clear hlen';generalize xs[k]=x at*;generalize hS:gM (xs.take k)=S at*;have HS:=aj hS;clear hS;obtain⟨HL,Hb⟩:=aH hL hb;clear hL hb;go_wp2_with fail;refine(ny x _ (by have:=lI.out;omega)).mono ?_;rintro e w1 ⟨rfl,bQ,hb1,fN⟩;obtain⟨eG,bI⟩:=aH bQ hb1;clear bQ hb1;have hx1:ln (nv x)<=8589934593:=by have:=lI.out;omega
    have aiE:=aj fN;clear fN;have XM:Hid (nv x<WW^ln (nv x)):=eU _;have Kk:Hid (S<WW^ln S):=eU _;generalize hX:nv x=X at*;have HX:=aj hX;clear hX;have hmax:max (ln S:Int) (ln X:Int)=((max (ln S) (ln X):Nat):Int):=by omega
    have hM0:max (ln S) (ln X)<=8589934593:=by omega
    generalize Gr:max (ln S) (ln X)=M at*;have RN:ln S<=M:=by omega
    have Ay:ln X<=M:=by omega
    have HMM:=aj Gr;clear Gr;go_wp2_with fail;refine(QN a1 (ln S) c1 S ((M:Int)+1) _ zo zo zo (HL.out.below bI.out) Kk.out).mono ?_;rintro e w2 ⟨rfl,eP,hb2⟩;rw[show max ((M:Int)+1).toNat (ln S)=M+1 by omega]at eP⊢;obtain⟨fA,bW⟩:=aH eP hb2;clear eP hb2;go_wp2_with fail;refine(aqW w1.heap.size (M+1) 0 (M+1) (M+1) (dg S) S wr.heap.size 0 (ln X) ((x.length+7)/8) X _ zo zo fA.out zo (λj _=>by rw[Nat.zero_add]) ((eG.out.below bW.out).lim _ aiE.out) XM.out (by have:=eG.out.lt;omega)).mono ?_;rintro e w3 ⟨rfl,yi,hg3⟩;have ED:Hid (dL w3 w1.heap.size 0 (M+1) (S+X)):=λj hj=>by rw[yi.cell,gD _ _ _ zo,Jj _ _ _ _ _ hj]
    have Xv:=aj hg3;clear yi hg3;have Pe:Hid (S+X<WW^(M+1)):=by
     show S+X<WW^(M+1)
     have a1:=Nat.lt_of_lt_of_le Kk.out (Nat.pow_le_pow_right jH RN);have a2:=Nat.lt_of_lt_of_le XM.out (Nat.pow_le_pow_right jH Ay);have a3:2*WW^M<=WW^(M+1):=by rw[Nat.pow_succ,Nat.mul_comm];exact Nat.mul_le_mul_left _ zd
     omega
    go_wp2_with fail;refine(lV w1.heap.size 0 (M+1) (M+1) (S+X) _ zo (Nat.le_refl _) ED.out Pe.out).mono ?_;rintro e w4 ⟨rfl,rfl⟩;have dW:Hid (Bw w w3):=by have s1:=bI.out.size;have s2:=bW.out.size;have s0:=Hb.out.size;have b2:=(Hb.out.trans (bI.out.mono s0)).trans (bW.out.mono (Nat.le_trans s0 s1));exact b2.grown Xv.out b2.size (λj hj=>by cases hj;omega)
    go_wp2;go_roundw;case rel=>
     refine⟨k+1,some ⟨w1.heap.size,0,none⟩,M+1,by omega,by go_num,?_,?_,?_,dW.out⟩
     . rw[bN.out]
     . rw[bN.out];exact ji Pe.out
     . rw[bN.out];exact λ_=>⟨_,_,rfl,ED.out.less (ji Pe.out)⟩
    case measure=>exact bi
  . obtain rfl:k=xs.length:=by omega
    rw[List.take_length]at*;obtain⟨HL,Hb⟩:=aH hL hb;clear hL hb;go_wp2_with fail;refine(afR a1 (ln (gM xs)) c1 (gM xs) _ zo hc1 HL.out (eU _)).mono ?_;rintro e w5 ⟨rfl,dv⟩;have eu:=aj dv;clear dv;go_wp2;go_ret;exact⟨rfl,Hb.out.trans (eu.out.mono Hb.out.size)⟩
def am0 (h lo y:Nat)(w:World)(hy1:9223372036854775808<=y)(hy:y<WW)(hh:h<y)(hl:lo<WW)(h0:0<h):
 Cl 318 #[.int .u64 (h:Int),.int .u64 (lo:Int),.int .u64 (y:Int)] w λe w'=>∃r,e=.returned (.tuple #[.int .u64 (((h*WW+lo)/y:Nat):Int),.int .u64 r])/\Bw w w':=by
 have hb:bF y=64:=by have h1:bF y<=64:=im (by rw[lS]at hy;exact hy);have h2:=KY (v:=y) (k:=63) (by have:(2:Nat)^63=9223372036854775808:=(by rfl);omega);omega
 have Ii:∀W,Cl 303 #[.int .u64 (y:Int)] W λe w'=>e=.returned (af 0)/\W=w':=λW=>by have:=Um y W hy;rw[hb]at this;exact this
 rw[jr]at*;obtain⟨n1,dK⟩:=au (y/4294967296);obtain⟨n0,hn0⟩:=au (y%4294967296);obtain⟨u1,hu1⟩:=au (lo/4294967296);obtain⟨u0,hu0⟩:=au (lo%4294967296);have hlo:u1*4294967296+u0=lo:=by rw[<-hu1,<-hu0,Nat.mul_comm];exact Nat.div_add_mod _ _
 have ub:n1*4294967296+n0=y:=by rw[<-dK,<-hn0,Nat.mul_comm];exact Nat.div_add_mod _ _
 have e1:(y:Int)/4294967296=(n1:Int):=by omega
 have e3:(lo:Int)/4294967296=(u1:Int):=by omega
 have e5:((h:Int)==0)=false:=by simp;omega
 have e6:((y:Int)==0)=false:=by simp;omega
 have e7:(lo:Int)/18446744073709551616=0:=by omega
 have ea:=MulX.maskN y hy;have eb:=MulX.maskN lo hl;rw[hn0]at ea;rw[hu0]at eb;have ec:bits BinOp.or IntKind.u64 (h:Int) 0=(h:Int):=by have:=bits_or_u64_nat h 0 zo zd;simpa using this
 obtain⟨s1,s2,s3,s4⟩:=ZN h n1 n0 u1 zo zo zo zo zo;obtain⟨q,hq⟩:=au (h/n1);obtain⟨r,hr⟩:=au (h%n1);obtain⟨P,hP⟩:=au (q*n1);rw[hq,hr]at s3;rw[hq]at s1 s2;rw[hr]at s4;have f1:(h:Int).tdiv (n1:Int)=(q:Int):=by rw[<-hq];rfl
 have f2:IntKind.u64.wrap (q:Int)=(q:Int):=by rw[IntKind.wrap_u64];omega
 have f3:IntKind.u64.wrap ((q:Int) * (n1:Int))=(P:Int):=by rw[<-Int.natCast_mul,hP,IntKind.wrap_u64];rw[hP]at s3;omega
 have f4:IntKind.u64.wrap ((h:Int)-(P:Int))=(r:Int):=by rw[IntKind.wrap_u64];rw[hP]at s3;omega
 have ayE:(n1:Int)≠0:=by omega
 have acF:((n1:Int)==0)=false:=by simp;omega
 rw[ub]at s1;obtain⟨DD,hD⟩:=au ((h*4294967296+u1)/y);obtain⟨v,hv⟩:=au ((h*4294967296+u1)%y);obtain⟨E,hE⟩:=au ((v*4294967296+u0)/y);obtain⟨H1,hH1⟩:=au (h*4294967296%18446744073709551616);obtain⟨H2,hH2⟩:=au ((h*4294967296+u1)%18446744073709551616);obtain⟨Z,hZ⟩:=au (DD*y%18446744073709551616);have hy0:0<y:=by omega
 have hvy:v<y:=by rw[<-hv];exact Nat.mod_lt _ hy0
 have fc:=Nat.div_add_mod (h*4294967296+u1) y;rw[hD,hv,Nat.mul_comm]at fc;have hDT:DD<4294967296:=by rw[<-hD];refine Nat.div_lt_of_lt_mul ?_;omega
 have hET:E<4294967296:=by rw[<-hE];refine Nat.div_lt_of_lt_mul ?_;omega
 have m1:IntKind.u64.wrap ((h:Int) *4294967296)=(H1:Int):=by rw[IntKind.wrap_u64];omega
 have m2:IntKind.u64.wrap ((H1:Int)+(u1:Int))=(H2:Int):=by rw[IntKind.wrap_u64];omega
 have m3:IntKind.u64.wrap ((DD:Int) * (y:Int))=(Z:Int):=by rw[<-Int.natCast_mul,IntKind.wrap_u64];omega
 have m4:IntKind.u64.wrap ((H2:Int)-(Z:Int))=(v:Int):=by rw[IntKind.wrap_u64];generalize DD*y=X at*;omega
 have BG:IntKind.u64.wrap ((DD:Int) *4294967296)=(DD:Int) *4294967296:=by rw[IntKind.wrap_u64];omega
 have BH:IntKind.u64.wrap ((DD:Int) *4294967296+(E:Int))=(DD:Int) *4294967296+(E:Int):=by rw[IntKind.wrap_u64];omega
 obtain⟨t1,t2,t3,t4⟩:=ZN v n1 n0 u0 zo zo zo zo zo;obtain⟨q2,hq2⟩:=au (v/n1);obtain⟨r2,hr2⟩:=au (v%n1);obtain⟨P2,tq⟩:=au (q2*n1);rw[hq2,hr2]at t3;rw[hq2]at t1 t2;rw[hr2]at t4;have f1':(v:Int).tdiv (n1:Int)=(q2:Int):=by rw[<-hq2];rfl
 have f2':IntKind.u64.wrap (q2:Int)=(q2:Int):=by rw[IntKind.wrap_u64];omega
 have f3':IntKind.u64.wrap ((q2:Int) * (n1:Int))=(P2:Int):=by rw[<-Int.natCast_mul,tq,IntKind.wrap_u64];rw[tq]at t3;omega
 have f4':IntKind.u64.wrap ((v:Int)-(P2:Int))=(r2:Int):=by rw[IntKind.wrap_u64];rw[tq]at t3;omega
 rw[ub]at t1;have hfin:=am3 h u1 u0 y DD hy0 hD;rw[hv,hE,hlo]at hfin;have ab9:((h:Int) *18446744073709551616+(lo:Int))/(y:Int)=(DD:Int) *4294967296+(E:Int):=by
  have:((h:Int) *18446744073709551616+(lo:Int))/(y:Int)=(((h*18446744073709551616+lo)/y:Nat):Int):=by rw[Int.natCast_ediv,Int.natCast_add,Int.natCast_mul];rfl
  rw[this,hfin,Int.natCast_add,Int.natCast_mul];rfl
 have vO:=aj ab9;clear ab9;obtain⟨H3,x3⟩:=au (IntKind.u64.wrap ((v:Int) *4294967296));obtain⟨H4,x4⟩:=au (IntKind.u64.wrap (H3+(u0:Int)));obtain⟨H5,x5⟩:=au (IntKind.u64.wrap ((E:Int) * (y:Int)));obtain⟨X,x6⟩:=au (IntKind.u64.wrap (H4-H5));obtain⟨X3,X4,X5,X6⟩:=cG x3 x4 x5 x6;clear x3 x4 x5 x6;obtain⟨T1,T2,T3,T4,M1,M2,M3,M4,N1,N2,F1,F2⟩:=gL t1 t2 t3 t4 m1 m2 m3 m4 BG BH f1' f2';obtain⟨F3,F4,nP,HD,HE,Qa,Hhh,HDT,HET,aG,S1,S2⟩:=gL f3' f4' hfin hD hE hvy hh hDT hET Ii s1 s2;obtain⟨S3,S4,HN1,HN0,HU1,HU0,Hy,gj⟩:=nk s3 s4 dK hn0 hu1 hu0 hy ub;have hb1:n1<4294967296:=by omega
 have hb2:n0<4294967296:=by omega
 have hb3:u1<4294967296:=by omega
 have hb4:u0<4294967296:=by omega
 have dv:0<n1:=by omega
 obtain⟨B1,B2,B3,B4,B5⟩:=eD hb1 hb2 hb3 hb4 dv;clear Ii s1 s2 s3 s4 dK hn0 hu1 hu0 ub hq hr hP t1 t2 t3 t4 m1 m2 m3 m4 BG BH f1' f2' f3' f4' hfin hD hE hvy hDT hET fc hy0 hv hH1 hH2 hZ hq2 hr2 tq hb1 hb2 hb3 hb4 dv;go_enter Tryz.func318,Tryz.ntmps318;go_wp2_with (go_at_call 303;refine(aG.out _).mono ?_;rintro e w' ⟨rfl,rfl⟩);clear f1 f2 f3 f4 e5 e6 e7 ea eb ec e1 e3;go_loop [15,16] (λqv rv=>∃q r:Nat,qv=.int .u64 (q:Int)/\rv=.int .u64 (r:Int)/\q*n1+r=h/\r<4294967296/\(h*4294967296+u1)/y<=q/\q<=4294967297) (λqv _=>(intOf qv).toNat)
 case atStart=>exact⟨q,r,rfl,rfl,S3.out,S4.out,S1.out,S2.out⟩
 case round=>
  clear S1 S2 S3 S4;obtain⟨q,r,rfl,rfl,j1,j2,j3,j4⟩:=hrel;obtain⟨Q,hQ⟩:=au (q*n0);have g1:IntKind.u64.wrap (4294967296* (r:Int))=4294967296* (r:Int):=by rw[IntKind.wrap_u64];omega
  have g2:IntKind.u64.wrap (4294967296* (r:Int)+(u1:Int))=4294967296* (r:Int)+(u1:Int):=by rw[IntKind.wrap_u64];have:=B3.out;omega
  have fS:q<4294967296->Q<18446744073709551616:=λh=>by rw[<-hQ];have h1:q*n0<=4294967295*4294967295:=Nat.mul_le_mul zo (by have:=B2.out;omega);omega
  by_cases hc:4294967296<=q\/4294967296*r+u1<Q
  . obtain⟨k1,k2,k3⟩:=Lt q r h n1 n0 u1 (by rw[gj.out];exact Hhh.out) B3.out j1 (by rw[gj.out];exact j3) (by rw[hQ];exact hc);rw[gj.out]at k3;obtain⟨k,hk⟩:=au (q-1);rw[hk]at k2 k3;have g3:IntKind.u64.wrap ((q:Int)-1)=(k:Int):=by rw[IntKind.wrap_u64];omega
    have g4:IntKind.u64.wrap ((r:Int)+(n1:Int))=((r+n1:Nat):Int):=by rw[IntKind.wrap_u64];have:=B1.out;omega
    obtain⟨r',hr'⟩:=au (r+n1);rw[hr']at k2 g4;by_cases hbr:4294967296<=r'
    . have hkD:DD=k:=by rw[<-HD.out,<-gj.out];exact Lr k r' h n1 n0 u1 B5.out B2.out k2 (by rw[gj.out];exact k3) zo hbr
      subst hkD;have AE:(4294967296:Int)<=(r':Int):=by omega
      have m1:=M1.out;have m2:=M2.out;have m3:=M3.out;have m4:=M4.out;have f1:=F1.out;have f2:=F2.out;have f3:=F3.out;have f4:=F4.out;have acF:((n1:Int)==0)=false:=by have:=B5.out;simp;omega
      obtain⟨J,K,HQ,JO,Hk,Hr'⟩:=fZ (And.intro j1 (And.intro j2 (And.intro j3 j4))) (And.intro k1 (And.intro k2 k3)) hQ fS hk hr';clear j1 j2 j3 j4 k1 k2 k3 hQ fS hk hr';by_cases hT:4294967296<=q
      . have iO:(4294967296:Int)<=(q:Int):=by omega
        go_wp2;clear m1 m2 m3 m4 f1 f2 f3 f4 g1 g2 g3 g4;go_loop [18,16] (λqv rv=>∃q r:Nat,qv=.int .u64 (q:Int)/\rv=.int .u64 (r:Int)/\q*n1+r=v/\r<4294967296/\(v*4294967296+u0)/y<=q/\q<=4294967297) (λqv _=>(intOf qv).toNat)
        case atStart=>exact⟨q2,r2,rfl,rfl,T3.out,T4.out,T1.out,T2.out⟩
        case round=>
         clear T1 T2 T3 T4;obtain⟨q,r,rfl,rfl,j1,j2,j3,j4⟩:=hrel;obtain⟨Q,hQ⟩:=au (q*n0);have g1:IntKind.u64.wrap (4294967296* (r:Int))=4294967296* (r:Int):=by rw[IntKind.wrap_u64];omega
         have g2:IntKind.u64.wrap (4294967296* (r:Int)+(u0:Int))=4294967296* (r:Int)+(u0:Int):=by rw[IntKind.wrap_u64];have:=B4.out;omega
         have fS:q<4294967296->Q<18446744073709551616:=λh=>by rw[<-hQ];have h1:q*n0<=4294967295*4294967295:=Nat.mul_le_mul zo (by have:=B2.out;omega);omega
         have BG:=N1.out;have BH:=N2.out;have x3:=X3.out;have x4:=X4.out;have x5:=X5.out;have x6:=X6.out;by_cases hc:4294967296<=q\/4294967296*r+u0<Q
         . obtain⟨k1,k2,k3⟩:=Lt q r v n1 n0 u0 (by rw[gj.out];exact Qa.out) B4.out j1 (by rw[gj.out];exact j3) (by rw[hQ];exact hc);rw[gj.out]at k3;obtain⟨m,hm⟩:=au (q-1);rw[hm]at k2 k3;have g3:IntKind.u64.wrap ((q:Int)-1)=(m:Int):=by rw[IntKind.wrap_u64];omega
           have g4:IntKind.u64.wrap ((r:Int)+(n1:Int))=((r+n1:Nat):Int):=by rw[IntKind.wrap_u64];have:=B1.out;omega
           obtain⟨r',hr'⟩:=au (r+n1);rw[hr']at k2 g4;have hT0:q<4294967296->IntKind.u64.wrap ((q:Int) * (n0:Int))=(Q:Int):=λh=>by rw[<-Int.natCast_mul,hQ,IntKind.wrap_u64];have:=fS h;omega
           by_cases hbr:4294967296<=r'
           . have Ia:E=m:=by rw[<-HE.out,<-gj.out];exact Lr m r' v n1 n0 u0 B5.out B2.out k2 (by rw[gj.out];exact k3) zo hbr
             subst Ia;have AE:(4294967296:Int)<=(r':Int):=by omega
             clear j1 j3 k2 k3 hQ fS hm hr';by_cases hT:4294967296<=q
             . have iO:(4294967296:Int)<=(q:Int):=by omega
               go_wp2;refine bodyPost_ret (v:=.tuple #[.int .u64 ((DD:Int) *4294967296+(E:Int)),.int .u64 X]) (by simp[results,Tryz.results318,go_sem]) rfl ⟨⟨_,by rw[vO.out]⟩,Below.refl _ _⟩
             . have hc2:4294967296* (r:Int)+(u0:Int)<(Q:Int):=by omega
               have iO:¬(4294967296:Int)<=(q:Int):=by omega
               have g0:=hT0 zo;go_wp2;refine bodyPost_ret (v:=.tuple #[.int .u64 ((DD:Int) *4294967296+(E:Int)),.int .u64 X]) (by simp[results,Tryz.results318,go_sem]) rfl ⟨⟨_,by rw[vO.out]⟩,Below.refl _ _⟩
           . have AE:¬(4294967296:Int)<=(r':Int):=by omega
             have K:=aj (And.intro k2 k3);clear j1 j3 k2 k3 hQ fS hr';by_cases hT:4294967296<=q
             . have iO:(4294967296:Int)<=(q:Int):=by omega
               go_wp2;exact⟨⟨m,r',rfl,rfl,K.out.1,by omega,K.out.2,by omega⟩,by simp[intOf];omega⟩
             . have hc2:4294967296* (r:Int)+(u0:Int)<(Q:Int):=by omega
               have iO:¬(4294967296:Int)<=(q:Int):=by omega
               have g0:=hT0 zo;go_wp2;exact⟨⟨m,r',rfl,rfl,K.out.1,by omega,K.out.2,by omega⟩,by simp[intOf];omega⟩
         . have IE:E=q:=by rw[<-HE.out,<-gj.out];exact Gb q r v n1 n0 u0 B5.out j1 (by rw[gj.out];exact j3) (by rw[hQ];omega)
           subst IE;have iO:¬(4294967296:Int)<=(E:Int):=by omega
           have hc2:¬4294967296* (r:Int)+(u0:Int)<(Q:Int):=by omega
           have g0:IntKind.u64.wrap ((E:Int) * (n0:Int))=(Q:Int):=by rw[<-Int.natCast_mul,hQ,IntKind.wrap_u64];have:=fS zo;omega
           clear j1 j3 hQ fS;go_wp2;refine bodyPost_ret (v:=.tuple #[.int .u64 ((DD:Int) *4294967296+(E:Int)),.int .u64 X]) (by simp[results,Tryz.results318,go_sem]) rfl ⟨⟨_,by rw[vO.out]⟩,Below.refl _ _⟩
      . have hc2:4294967296* (r:Int)+(u1:Int)<(Q:Int):=by omega
        have iO:¬(4294967296:Int)<=(q:Int):=by omega
        have g0:IntKind.u64.wrap ((q:Int) * (n0:Int))=(Q:Int):=by rw[<-Int.natCast_mul,HQ.out,IntKind.wrap_u64];have:=JO.out zo;omega
        go_wp2;clear m1 m2 m3 m4 f1 f2 f3 f4 g0 g1 g2 g3 g4;go_loop [18,16] (λqv rv=>∃q r:Nat,qv=.int .u64 (q:Int)/\rv=.int .u64 (r:Int)/\q*n1+r=v/\r<4294967296/\(v*4294967296+u0)/y<=q/\q<=4294967297) (λqv _=>(intOf qv).toNat)
        case atStart=>exact⟨q2,r2,rfl,rfl,T3.out,T4.out,T1.out,T2.out⟩
        case round=>
         clear T1 T2 T3 T4;obtain⟨q,r,rfl,rfl,j1,j2,j3,j4⟩:=hrel;obtain⟨Q,hQ⟩:=au (q*n0);have g1:IntKind.u64.wrap (4294967296* (r:Int))=4294967296* (r:Int):=by rw[IntKind.wrap_u64];omega
         have g2:IntKind.u64.wrap (4294967296* (r:Int)+(u0:Int))=4294967296* (r:Int)+(u0:Int):=by rw[IntKind.wrap_u64];have:=B4.out;omega
         have fS:q<4294967296->Q<18446744073709551616:=λh=>by rw[<-hQ];have h1:q*n0<=4294967295*4294967295:=Nat.mul_le_mul zo (by have:=B2.out;omega);omega
         have BG:=N1.out;have BH:=N2.out;have x3:=X3.out;have x4:=X4.out;have x5:=X5.out;have x6:=X6.out;by_cases hc:4294967296<=q\/4294967296*r+u0<Q
         . obtain⟨k1,k2,k3⟩:=Lt q r v n1 n0 u0 (by rw[gj.out];exact Qa.out) B4.out j1 (by rw[gj.out];exact j3) (by rw[hQ];exact hc);rw[gj.out]at k3;obtain⟨m,hm⟩:=au (q-1);rw[hm]at k2 k3;have g3:IntKind.u64.wrap ((q:Int)-1)=(m:Int):=by rw[IntKind.wrap_u64];omega
           have g4:IntKind.u64.wrap ((r:Int)+(n1:Int))=((r+n1:Nat):Int):=by rw[IntKind.wrap_u64];have:=B1.out;omega
           obtain⟨r',hr'⟩:=au (r+n1);rw[hr']at k2 g4;have hT0:q<4294967296->IntKind.u64.wrap ((q:Int) * (n0:Int))=(Q:Int):=λh=>by rw[<-Int.natCast_mul,hQ,IntKind.wrap_u64];have:=fS h;omega
           by_cases hbr:4294967296<=r'
           . have Ia:E=m:=by rw[<-HE.out,<-gj.out];exact Lr m r' v n1 n0 u0 B5.out B2.out k2 (by rw[gj.out];exact k3) zo hbr
             subst Ia;have AE:(4294967296:Int)<=(r':Int):=by omega
             clear j1 j3 k2 k3 hQ fS hm hr';by_cases hT:4294967296<=q
             . have iO:(4294967296:Int)<=(q:Int):=by omega
               go_wp2;refine bodyPost_ret (v:=.tuple #[.int .u64 ((DD:Int) *4294967296+(E:Int)),.int .u64 X]) (by simp[results,Tryz.results318,go_sem]) rfl ⟨⟨_,by rw[vO.out]⟩,Below.refl _ _⟩
             . have hc2:4294967296* (r:Int)+(u0:Int)<(Q:Int):=by omega
               have iO:¬(4294967296:Int)<=(q:Int):=by omega
               have g0:=hT0 zo;go_wp2;refine bodyPost_ret (v:=.tuple #[.int .u64 ((DD:Int) *4294967296+(E:Int)),.int .u64 X]) (by simp[results,Tryz.results318,go_sem]) rfl ⟨⟨_,by rw[vO.out]⟩,Below.refl _ _⟩
           . have AE:¬(4294967296:Int)<=(r':Int):=by omega
             have K:=aj (And.intro k2 k3);clear j1 j3 k2 k3 hQ fS hr';by_cases hT:4294967296<=q
             . have iO:(4294967296:Int)<=(q:Int):=by omega
               go_wp2;exact⟨⟨m,r',rfl,rfl,K.out.1,by omega,K.out.2,by omega⟩,by simp[intOf];omega⟩
             . have hc2:4294967296* (r:Int)+(u0:Int)<(Q:Int):=by omega
               have iO:¬(4294967296:Int)<=(q:Int):=by omega
               have g0:=hT0 zo;go_wp2;exact⟨⟨m,r',rfl,rfl,K.out.1,by omega,K.out.2,by omega⟩,by simp[intOf];omega⟩
         . have IE:E=q:=by rw[<-HE.out,<-gj.out];exact Gb q r v n1 n0 u0 B5.out j1 (by rw[gj.out];exact j3) (by rw[hQ];omega)
           subst IE;have iO:¬(4294967296:Int)<=(E:Int):=by omega
           have hc2:¬4294967296* (r:Int)+(u0:Int)<(Q:Int):=by omega
           have g0:IntKind.u64.wrap ((E:Int) * (n0:Int))=(Q:Int):=by rw[<-Int.natCast_mul,hQ,IntKind.wrap_u64];have:=fS zo;omega
           clear j1 j3 hQ fS;go_wp2;refine bodyPost_ret (v:=.tuple #[.int .u64 ((DD:Int) *4294967296+(E:Int)),.int .u64 X]) (by simp[results,Tryz.results318,go_sem]) rfl ⟨⟨_,by rw[vO.out]⟩,Below.refl _ _⟩
    . have AE:¬(4294967296:Int)<=(r':Int):=by omega
      obtain⟨K,HQ,JO⟩:=bM (And.intro k2 k3) hQ fS;clear j1 j3 k2 k3 hQ fS hr';by_cases hT:4294967296<=q
      . have iO:(4294967296:Int)<=(q:Int):=by omega
        go_wp2;exact⟨⟨k,r',rfl,rfl,K.out.1,by omega,K.out.2,by omega⟩,by simp[intOf];omega⟩
      . have hc2:4294967296* (r:Int)+(u1:Int)<(Q:Int):=by omega
        have iO:¬(4294967296:Int)<=(q:Int):=by omega
        have g0:IntKind.u64.wrap ((q:Int) * (n0:Int))=(Q:Int):=by rw[<-Int.natCast_mul,HQ.out,IntKind.wrap_u64];have:=JO.out zo;omega
        go_wp2;exact⟨⟨k,r',rfl,rfl,K.out.1,by omega,K.out.2,by omega⟩,by simp[intOf];omega⟩
  . have ME:DD=q:=by rw[<-HD.out,<-gj.out];exact Gb q r h n1 n0 u1 B5.out j1 (by rw[gj.out];exact j3) (by rw[hQ];omega)
    subst ME;have iO:¬(4294967296:Int)<=(DD:Int):=by omega
    have hc2:¬4294967296* (r:Int)+(u1:Int)<(Q:Int):=by omega
    have g0:IntKind.u64.wrap ((DD:Int) * (n0:Int))=(Q:Int):=by rw[<-Int.natCast_mul,hQ,IntKind.wrap_u64];have:=fS zo;omega
    have m1:=M1.out;have m2:=M2.out;have m3:=M3.out;have m4:=M4.out;have f1:=F1.out;have f2:=F2.out;have f3:=F3.out;have f4:=F4.out;have acF:((n1:Int)==0)=false:=by have:=B5.out;simp;omega
    obtain⟨J,HQ,JO⟩:=bM (And.intro j1 (And.intro j2 (And.intro j3 j4))) hQ fS;clear j1 j2 j3 j4 hQ fS;go_wp2;clear m1 m2 m3 m4 f1 f2 f3 f4 g0 g1 g2;go_loop [18,16] (λqv rv=>∃q r:Nat,qv=.int .u64 (q:Int)/\rv=.int .u64 (r:Int)/\q*n1+r=v/\r<4294967296/\(v*4294967296+u0)/y<=q/\q<=4294967297) (λqv _=>(intOf qv).toNat)
    case atStart=>exact⟨q2,r2,rfl,rfl,T3.out,T4.out,T1.out,T2.out⟩
    case round=>
     clear T1 T2 T3 T4;obtain⟨q,r,rfl,rfl,j1,j2,j3,j4⟩:=hrel;obtain⟨Q,hQ⟩:=au (q*n0);have g1:IntKind.u64.wrap (4294967296* (r:Int))=4294967296* (r:Int):=by rw[IntKind.wrap_u64];omega
     have g2:IntKind.u64.wrap (4294967296* (r:Int)+(u0:Int))=4294967296* (r:Int)+(u0:Int):=by rw[IntKind.wrap_u64];have:=B4.out;omega
     have fS:q<4294967296->Q<18446744073709551616:=λh=>by rw[<-hQ];have h1:q*n0<=4294967295*4294967295:=Nat.mul_le_mul zo (by have:=B2.out;omega);omega
     have BG:=N1.out;have BH:=N2.out;have x3:=X3.out;have x4:=X4.out;have x5:=X5.out;have x6:=X6.out;by_cases hc:4294967296<=q\/4294967296*r+u0<Q
     . obtain⟨k1,k2,k3⟩:=Lt q r v n1 n0 u0 (by rw[gj.out];exact Qa.out) B4.out j1 (by rw[gj.out];exact j3) (by rw[hQ];exact hc);rw[gj.out]at k3;obtain⟨m,hm⟩:=au (q-1);rw[hm]at k2 k3;have g3:IntKind.u64.wrap ((q:Int)-1)=(m:Int):=by rw[IntKind.wrap_u64];omega
       have g4:IntKind.u64.wrap ((r:Int)+(n1:Int))=((r+n1:Nat):Int):=by rw[IntKind.wrap_u64];have:=B1.out;omega
       obtain⟨r',hr'⟩:=au (r+n1);rw[hr']at k2 g4;have hT0:q<4294967296->IntKind.u64.wrap ((q:Int) * (n0:Int))=(Q:Int):=λh=>by rw[<-Int.natCast_mul,hQ,IntKind.wrap_u64];have:=fS h;omega
       by_cases hbr:4294967296<=r'
       . have Ia:E=m:=by rw[<-HE.out,<-gj.out];exact Lr m r' v n1 n0 u0 B5.out B2.out k2 (by rw[gj.out];exact k3) zo hbr
         subst Ia;have AE:(4294967296:Int)<=(r':Int):=by omega
         clear j1 j3 k2 k3 hQ fS hm hr';by_cases hT:4294967296<=q
         . have iO:(4294967296:Int)<=(q:Int):=by omega
           go_wp2;refine bodyPost_ret (v:=.tuple #[.int .u64 ((DD:Int) *4294967296+(E:Int)),.int .u64 X]) (by simp[results,Tryz.results318,go_sem]) rfl ⟨⟨_,by rw[vO.out]⟩,Below.refl _ _⟩
         . have hc2:4294967296* (r:Int)+(u0:Int)<(Q:Int):=by omega
           have iO:¬(4294967296:Int)<=(q:Int):=by omega
           have g0:=hT0 zo;go_wp2;refine bodyPost_ret (v:=.tuple #[.int .u64 ((DD:Int) *4294967296+(E:Int)),.int .u64 X]) (by simp[results,Tryz.results318,go_sem]) rfl ⟨⟨_,by rw[vO.out]⟩,Below.refl _ _⟩
       . have AE:¬(4294967296:Int)<=(r':Int):=by omega
         have K:=aj (And.intro k2 k3);clear j1 j3 k2 k3 hQ fS hr';by_cases hT:4294967296<=q
         . have iO:(4294967296:Int)<=(q:Int):=by omega
           go_wp2;exact⟨⟨m,r',rfl,rfl,K.out.1,by omega,K.out.2,by omega⟩,by simp[intOf];omega⟩
         . have hc2:4294967296* (r:Int)+(u0:Int)<(Q:Int):=by omega
           have iO:¬(4294967296:Int)<=(q:Int):=by omega
           have g0:=hT0 zo;go_wp2;exact⟨⟨m,r',rfl,rfl,K.out.1,by omega,K.out.2,by omega⟩,by simp[intOf];omega⟩
     . have IE:E=q:=by rw[<-HE.out,<-gj.out];exact Gb q r v n1 n0 u0 B5.out j1 (by rw[gj.out];exact j3) (by rw[hQ];omega)
       subst IE;have iO:¬(4294967296:Int)<=(E:Int):=by omega
       have hc2:¬4294967296* (r:Int)+(u0:Int)<(Q:Int):=by omega
       have g0:IntKind.u64.wrap ((E:Int) * (n0:Int))=(Q:Int):=by rw[<-Int.natCast_mul,hQ,IntKind.wrap_u64];have:=fS zo;omega
       clear j1 j3 hQ fS;go_wp2;refine bodyPost_ret (v:=.tuple #[.int .u64 ((DD:Int) *4294967296+(E:Int)),.int .u64 X]) (by simp[results,Tryz.results318,go_sem]) rfl ⟨⟨_,by rw[vO.out]⟩,Below.refl _ _⟩
def am1 (lo y:Nat)(w:World)(hy:0<y)(hy2:y<WW)(hl:lo<WW):
 Cl 318 #[.int .u64 0,.int .u64 (lo:Int),.int .u64 (y:Int)] w λe w'=>∃r,e=.returned (.tuple #[.int .u64 ((lo/y:Nat):Int),.int .u64 r])/\Bw w w':=by
 rw[jr]at*;have e6:((y:Int)==0)=false:=by simp;omega
 have e7:¬(y:Int)<=0:=by omega
 have f1:(lo:Int).tdiv (y:Int)=((lo/y:Nat):Int):=rfl;obtain⟨q,hq⟩:=au (lo/y);have hqb:q<=lo:=by rw[<-hq];exact Nat.div_le_self _ _
 rw[hq]at f1⊢;have f2:IntKind.u64.wrap (q:Int)=(q:Int):=by rw[IntKind.wrap_u64];omega
 clear hq;go_enter Tryz.func318,Tryz.ntmps318;go_wp2;go_region
 go_wp2;refine bodyPost_ret (v:=.tuple #[.int .u64 (q:Int),.int .u64 ((lo:Int)% (y:Int))]) (by simp[results,Tryz.results318,go_sem]) rfl ⟨_,rfl,(Below.refl _ _).drew⟩
end Go.Proofs.YtpfgffadgkkedaaGreatDoor
namespace Go.Proofs.YtpfgffadgkkedaaGreatDoor
def VI :0<2:=by decide
def p2 (k:Nat):0<2^k:=Nat.pow_pos zd
def bd (v j:Nat):Nat:=v/2^j%2
def YM (v j:Nat):bd v j<2:=Nat.mod_lt _ VI
def alq {v k:Nat}(h:v<2^(k+1))(h0:bd v k=0):v<2^k:=by
 unfold bd at h0;have h1:v/2^k<2:=by rw[Nat.div_lt_iff_lt_mul (p2 k)];rw[Nat.pow_succ]at h;rwa [Nat.mul_comm]at h
 rw[Nat.mod_eq_of_lt h1]at h0;rcases Nat.lt_or_ge v (2^k)with h2|h2
 . exact h2
 . have:=Nat.div_pos h2 (p2 k);omega
def alp {v k:Nat}(h0:bd v k≠0):2^k<=v:=by
 rcases Nat.lt_or_ge v (2^k)with h2|h2
 . exact absurd (by unfold bd;rw[Nat.div_eq_of_lt h2]) h0
 . exact h2
def akT {v k j:Nat}(h:v<2^k)(hj:k<=j):bd v j=0:=by unfold bd;rw[Nat.div_eq_of_lt (Nat.lt_of_lt_of_le h (Nat.pow_le_pow_right VI hj))]
def KZ (v i:Nat):v%2^(i+1)=v%2^i+2^i*bd v i:=by unfold bd;rw[Nat.pow_succ,Nat.mod_mul]
def bb (v u i:Nat):Nat:=if v%2^i<u%2^i then 1 else 0
def akQ (v u:Nat):bb v u 0=0:=by simp[bb,Nat.mod_one]
def YL (v u i:Nat):bb v u i<=1:=by unfold bb;split<;>omega
def akP (v u i:Nat):bb v u (i+1)=if bd v i<bd u i+bb v u i then 1 else 0:=by
 have h1:=Nat.mod_lt v (p2 i);have h2:=Nat.mod_lt u (p2 i);unfold bb;rw[KZ v,KZ u];generalize bd v i=a;generalize bd u i=b;generalize v%2^i=r at*;generalize u%2^i=s at*;generalize 2^i=M at*;have key:(r+M*a<s+M*b)↔(a<b+if r<s then 1 else 0):=by
  rcases Nat.lt_trichotomy a b with h|h|h
  . have:M* (a+1)<=M*b:=Nat.mul_le_mul_left _ h;rw[Nat.mul_add]at this;constructor
    . intro _;split<;>omega
    . intro _;omega
  . subst h;split<;>omega
  . have:M* (b+1)<=M*a:=Nat.mul_le_mul_left _ h;rw[Nat.mul_add]at this;constructor
    . intro _;omega
    . intro h';exfalso;revert h';split<;>omega
 simp only[key]
def akO (v u i:Nat)(hu:u<=v):(bd v i+2-bd u i-bb v u i)%2=bd (v-u) i:=by
 -- the digit of the difference
 have h1:=Nat.mod_lt v (p2 i);have h2:=Nat.mod_lt u (p2 i);have hM:=p2 i;have hb:=YL v u i;have du:=YM u i;have e1:v=v%2^i+2^i* (v/2^i):=(Nat.mod_add_div v _).symm;have e2:u=u%2^i+2^i* (u/2^i):=(Nat.mod_add_div u _).symm;have e3:(v-u)/2^i+bb v u i+u/2^i=v/2^i:=by
  unfold bb;generalize v%2^i=r at*;generalize u%2^i=s at*;generalize v/2^i=x at*;generalize u/2^i=y at*;generalize 2^i=M at*;have hxy:y<=x:=by
   rcases Nat.lt_or_ge x y with h|h
   . have:M* (x+1)<=M*y:=Nat.mul_le_mul_left _ h;rw[Nat.mul_add]at this;omega
   . exact h
  obtain⟨d,rfl⟩:∃d,x=y+d:=⟨x-y,by omega⟩;split
  . rename_i hrs
    have hd:1<=d:=by
     rcases Nat.eq_zero_or_pos d with h|h
     . subst h;simp at e1;omega
     . exact h
    obtain⟨d',rfl⟩:∃d',d=d'+1:=⟨d-1,by omega⟩;have:v-u=(M+r-s)+M*d':=by rw[Nat.mul_add,Nat.mul_add]at e1;omega
    rw[this,Nat.add_mul_div_left _ _ hM,Nat.div_eq_of_lt zo];omega
  . have:v-u=(r-s)+M*d:=by rw[Nat.mul_add]at e1;omega
    rw[this,Nat.add_mul_div_left _ _ hM,Nat.div_eq_of_lt zo];omega
 unfold bd at*;generalize (v-u)/2^i=q at*;rw[<-e3];generalize bb v u i=c at*;generalize u/2^i=y at*;have hW:=VI
 -- (q + c + y) % W + W - y % W - c ≡ q
 have e4:((q+c+y)%2+2-y%2-c)%2=q%2:=by
  have a1:y=y%2+2* (y/2):=(Nat.mod_add_div y _).symm;have a2:(q+c+y)%2=(q+c+y%2)%2:=by rw[Nat.add_mod,Nat.add_mod (q+c) (y%2),Nat.mod_mod]
  rw[a2];generalize y%2=z at*;have a3:q=q%2+2* (q/2):=(Nat.mod_add_div q _).symm;have a4:(q+c+z)%2=(q%2+c+z)%2:=by conv=>lhs;rw[a3,show q%2+2* (q/2)+c+z=(q%2+c+z)+2* (q/2)by omega,Nat.add_mul_mod_self_left]
  rw[a4];have hq:=Nat.mod_lt q hW;generalize q%2=p at*;rcases Nat.lt_or_ge (p+c+z) 2 with h|h
  . rw[Nat.mod_eq_of_lt h,show p+c+z+2-z-c=p+2 by omega,Nat.add_mod_right,Nat.mod_eq_of_lt hq]
  . rcases Nat.lt_or_ge (p+c+z) (2*2)with h'|h'
    . have:(p+c+z)%2=p+c+z-2:=by rw[Nat.mod_eq_sub_mod h,Nat.mod_eq_of_lt zo]
      rw[this,show p+c+z-2+2-z-c=p by omega,Nat.mod_eq_of_lt hq]
    . exfalso;omega
 exact e4
def YN {v u k:Nat}(h:v/2^(k+1)=u/2^(k+1))(hd:bd v k<bd u k):v<u:=by
 unfold bd at hd;have e1:=(Nat.mod_add_div (v/2^k) 2).symm;have e2:=(Nat.mod_add_div (u/2^k) 2).symm;rw[Nat.pow_succ,<-Nat.div_div_eq_div_mul,<-Nat.div_div_eq_div_mul]at h;have:v/2^k<u/2^k:=by rw[e1,e2,h];omega
 exact Nat.lt_of_div_lt_div this
def akS {v u k:Nat}(h:v/2^(k+1)=u/2^(k+1))(hd:bd v k=bd u k):v/2^k=u/2^k:=by unfold bd at hd;have e1:=(Nat.mod_add_div (v/2^k) 2).symm;have e2:=(Nat.mod_add_div (u/2^k) 2).symm;rw[Nat.pow_succ,<-Nat.div_div_eq_div_mul,<-Nat.div_div_eq_div_mul]at h;rw[e1,e2,h,hd]
def uJ (v j:Nat):bd v j<=1:=by have:=YM v j;omega
def ak4 {v k:Nat}(h:v<2^(k+1))(h':2^k<=v):bF v=k+1:=by have:=im h;have:=KY h';omega
def ak6 :bF 0=0:=rfl
def YP {v u:Nat}(h:v<=u):bF v<=bF u:=im (Nat.lt_of_le_of_lt h (sQ u))
def ak5 (v c:Nat)(hc:c<=1):bF (2*v+c)<=bF v+1:=by refine im ?_;have:=sQ v;rw[Nat.pow_succ];omega
def Jo (q:Nat):256^q=2^(8*q):=by rw[show(256:Nat)=2^8 by rfl,<-Nat.pow_mul]
def alv (v k:Nat):v%2^(k+1)/256^(k/8)%256=v%2^k/256^(k/8)%256+bd v k*2^(k%8)/\v%2^k/256^(k/8)%256+bd v k*2^(k%8)<=255:=by
 have e:2^k=256^(k/8) *2^(k%8):=by rw[Jo,<-Nat.pow_add];congr 1;omega
 have hA:=Nat.mod_lt v (p2 k);have hb:=uJ v k;rw[KZ];generalize v%2^k=A at*;generalize bd v k=b at*;have hr:2^(k%8)<=128:=Nat.pow_le_pow_right (i:=k%8) (j:=7) zd zo;have hp:0<256^(k/8):=Nat.pow_pos zd;have hq:A/256^(k/8)<2^(k%8):=Nat.div_lt_of_lt_mul (by rw[<-e];exact hA);rw[e,Nat.mul_assoc,Nat.add_mul_div_left _ _ hp];generalize A/256^(k/8)=x at*;generalize 2^(k%8)=y at*;have IR:y*b=b*y:=Nat.mul_comm _ _;have:b*y<=1*y:=Nat.mul_le_mul_right _ hb;rw[IR,Nat.mod_eq_of_lt (show x<256 by omega),Nat.mod_eq_of_lt (show x+b*y<256 by omega)];omega
def alx (v k q:Nat)(hq:q≠k/8):v%2^(k+1)/256^q%256=v%2^k/256^q%256:=by
 rcases Nat.lt_or_ge q (k/8)with h|h
 . rw[KZ];have e:2^k=256^q* (256*2^(k-8* (q+1))):=by rw[show 256^q* (256*2^(k-8* (q+1)))=256^(q+1) *2^(k-8* (q+1))by rw[Nat.pow_succ,Nat.mul_assoc],Jo,<-Nat.pow_add];congr 1;omega
   have e2:2^k*bd v k=256^q* (256* (2^(k-8* (q+1)) *bd v k)):=by rw[e];simp only[Nat.mul_assoc]
   rw[e2,Nat.add_mul_div_left _ _ (Nat.pow_pos zd),Nat.add_mul_mod_self_left]
 . have h1:2^(k+1)<=256^q:=by rw[Jo];exact Nat.pow_le_pow_right zd zo
   have h2:2^k<=2^(k+1):=Nat.pow_le_pow_right zd zo;rw[Nat.div_eq_of_lt (Nat.lt_of_lt_of_le (Nat.mod_lt v (p2 (k+1))) h1),Nat.div_eq_of_lt (Nat.lt_of_lt_of_le (Nat.mod_lt v (p2 k)) (Nat.le_trans h2 h1))]
def asL (l:List UInt8)(j:Nat)(hj:j<l.length):nv l/256^j%256=l[l.length-1-j].toNat:=by
 have e:=Ng (l.take (l.length-j)) (l.drop (l.length-j));rw[List.take_append_drop,List.length_drop,show l.length-(l.length-j)=j by omega]at e;have h1:nv (l.drop (l.length-j))<256^j:=by have:=ia (l.drop (l.length-j));rwa [List.length_drop,show l.length-(l.length-j)=j by omega]at this
 have hp:0<256^j:=Nat.pow_pos zd;rw[e,Nat.add_comm,Nat.add_mul_div_right _ _ hp,Nat.div_eq_of_lt h1,Nat.zero_add];have e2:l.take (l.length-j)=l.take (l.length-1-j)++[l[l.length-1-j]]:=by have:=List.take_succ_eq_append_getElem (i:=l.length-1-j) (l:=l) zo;rw[show l.length-j=l.length-1-j+1 by omega];exact this
 rw[e2,Ng];have e3:nv [l[l.length-1-j]]=(l[l.length-1-j]).toNat:=by rw[vq];simp[yU]
 rw[e3];have:=(l[l.length-1-j]).toNat_lt;simp only[List.length_singleton,Nat.pow_one];rw[Nat.mul_add_mod_of_lt]<;>omega
def asK (l:List UInt8)(j k:Nat)(hj:j<l.length)(hk:k<8):l[l.length-1-j].toNat/2^k%2=bd (nv l) (8*j+k):=by
 rw[<-asL l j hj];unfold bd;rw[Nat.pow_add,<-Nat.div_div_eq_div_mul,<-Jo];generalize nv l/256^j=x;have e:256=2^k*2^(8-k):=by rw[<-Nat.pow_add,show k+(8-k)=8 by omega]
 rw[e,Nat.mod_mul_right_div_self,Nat.mod_mod_of_dvd];exact⟨2^(7-k),by rw[show 8-k=7-k+1 by omega,Nat.pow_succ,Nat.mul_comm]⟩
def rQ (l:List UInt8):nv l<2^(8*l.length):=by rw[<-Jo];exact ia l
def arv (v u i:Nat)(hu:0<u):∃r c q,v/2^(i+1)%u=r/\bd v i=c/\v/2^(i+1)/u=q/\v/2^i%u=(if u<=2*r+c then 2*r+c-u else 2*r+c)/\v/2^i/u=2*q+(if u<=2*r+c then 1 else 0):=by
 refine⟨_,_,_,rfl,rfl,rfl,?_⟩;have e:v/2^i=2* (v/2^(i+1))+bd v i:=by unfold bd;rw[Nat.pow_succ,<-Nat.div_div_eq_div_mul];omega
 have hb:=uJ v i;rw[e];generalize v/2^(i+1)=x;generalize bd v i=c at*;have h1:=Nat.mod_lt x hu;have h2:=Nat.mod_add_div x u;generalize hr:x%u=r at*;generalize hq:x/u=q at*;have e2:2*x+c=2*r+c+u* (2*q):=by rw[<-h2,show u* (2*q)=2* (u*q)by rw[Nat.mul_left_comm]];omega
 rw[e2,Nat.add_mul_mod_self_left,Nat.add_mul_div_left _ _ hu];by_cases h:u<=2*r+c
 . rw[if_pos h,if_pos h];have e3:2*r+c=(2*r+c-u)+u*1:=by omega
   rw[e3,Nat.add_mul_mod_self_left,Nat.add_mul_div_left _ _ hu,Nat.mod_eq_of_lt zo,Nat.div_eq_of_lt zo];omega
 . rw[if_neg h,if_neg h,Nat.mod_eq_of_lt zo,Nat.div_eq_of_lt zo];omega
def aru (v u i:Nat):bd (v/u) i=v/2^i/u%2:=by unfold bd;rw[Nat.div_div_eq_div_mul,Nat.div_div_eq_div_mul,Nat.mul_comm]
end Go.Proofs.YtpfgffadgkkedaaGreatDoor
