/- The limbs' functions,on. -/
import Derived.Test.YtnjfebkelecgaaaGreatDoorZ4
import Derived.Laws.CopyOwn
import Derived.Test.YtnjfebkelecgaaaGreatDoorZ1
set_option linter.all false
set_option maxRecDepth 100000
set_option maxHeartbeats 16000000
namespace Go.Proofs.YtnjfebkelecgaaaGreatDoor
open Go.RowKit
def aaH (v k:Nat)(h:v<WW^(k+1))(h0:WW^k<=v):bT v=64*k+bT (dg v k)/\bT (dg v k)<=64/\0<bT (dg v k):=by
 have hd:dg v k=v/WW^k:=by unfold dg;rw[Nat.mod_eq_of_lt];rw[Nat.div_lt_iff_lt_mul (eJ k)];rw[Nat.pow_succ,Nat.mul_comm]at h;exact h
 have hd0:0<dg v k:=by rw[hd];exact Nat.div_pos h0 (eJ k)
 have hl:=kx v k;refine⟨?_,gX (by rw[mS]at hl;exact hl),Gw hd0⟩;have a1:=sf (dg v k);have e:dg v k=2^(bT (dg v k)-1)\/2^(bT (dg v k)-1)<=dg v k:=by right;unfold bT;rw[if_neg zo];simp;exact Nat.log2_self_le zo
 have a2:2^(bT (dg v k)-1)<=dg v k:=by rcases e with e|e<;>omega
 have hm:=Nat.mod_lt v (eJ k);have hv:=(Nat.mod_add_div v (WW^k)).symm;rw[<-hd]at hv;generalize v%WW^k=r at hv hm;have b1:v<2^(64*k+bT (dg v k)):=by rw[Nat.pow_add,<-mU];have:WW^k* (dg v k+1)<=WW^k*2^bT (dg v k):=Nat.mul_le_mul_left _ a1;rw[Nat.mul_add]at this;omega
 have b2:2^(64*k+bT (dg v k)-1)<=v:=by have:=Gw hd0;rw[show 64*k+bT (dg v k)-1=64*k+(bT (dg v k)-1)by omega,Nat.pow_add,<-mU];have:WW^k*2^(bT (dg v k)-1)<=WW^k*dg v k:=Nat.mul_le_mul_left _ a2;omega
 have c1:=gX b1;have c2:=Mc b2;omega
def afD {v k:Nat}(h:ln v=k+1):v<WW^(k+1)/\WW^k<=v:=by
 refine⟨by rw[<-h];exact fg v,?_⟩;rcases Nat.lt_or_ge v (WW^k)with h1|h1
 . have:=jL h1;omega
 . exact h1
def afB (b o n cap v:Nat)(w:World)(hm:n<=1099511627776)(hcap:n<=cap)(hc:eD w b o n v)(hv:v<WW^n):
 Cl 171 #[.slice (some ⟨b,o,none⟩) n cap] w λe w'=>e=.returned (ah (bT v:Int))/\w=w':=by
 have hle:=jL hv;have Hv:=az hv;clear hv;rcases Nat.eq_zero_or_pos (ln v)with h0|h0
 . have Hc:=az hc;clear hc;have hv0:v=0:=by have:=fg v;rw[h0]at this;simpa using this
   subst hv0;clear h0;go_enter Tryz.func171,Tryz.ntmps171;go_wp2_with (go_at_call 168;refine(mX b o n cap 0 _ hm hcap Hc.out Hv.out).mono ?_;rintro e w' ⟨rfl,rfl⟩;rw[VH]);go_ret;exact⟨rfl,rfl⟩
 . obtain⟨k,hk⟩:∃k,ln v=k+1:=⟨ln v-1,by omega⟩;obtain⟨h1,h2⟩:=afD hk;obtain⟨e1,e2,e3⟩:=aaH v k h1 h2;have hcell:w.cell? ⟨b,o+k,none⟩=some (.int .u64 (dg v k:Int)):=hc _ zo;have Hc:=az hc;clear hc;obtain⟨He1,Hk⟩:=aU e1 hk;have hkn:k+1<=n:=by omega
   clear h1 h2 h0 hle hk e1;go_enter Tryz.func171,Tryz.ntmps171
   go_wp2_with (first
    | (go_at_call 168;refine(mX b o n cap v _ hm hcap Hc.out Hv.out).mono ?_;rintro e w' ⟨rfl,rfl⟩;rw[Hk.out])
    | (go_at_call 191;refine(VK _ _ (kx _ _)).mono ?_;rintro e w' ⟨rfl,rfl⟩))
   go_ret;rw[He1.out];refine⟨congrArg (λz:Int=>Ending.returned (ah z)) ?_,rfl⟩;omega
def asM (a:Option Addr)(cap:Nat)(w:World):
 Cl 171 #[.slice a 0 cap] w λe w'=>e=.returned (ah 0)/\w=w':=by
 go_enter Tryz.func171,Tryz.ntmps171;go_wp2_with (go_at_call 168;refine(aa3 cap a _).mono ?_;rintro e w' ⟨rfl,rfl⟩);go_ret;exact⟨rfl,rfl⟩
def dH (a b:Nat):Int:=if a<b then-1 else if b<a then 1 else 0
def abd {v u k:Nat}(h:v/WW^(k+1)=u/WW^(k+1))(hd:dg v k<dg u k):v<u:=by
 unfold dg at hd;have e1:=(Nat.mod_add_div (v/WW^k) WW).symm;have e2:=(Nat.mod_add_div (u/WW^k) WW).symm;rw[Nat.pow_succ,<-Nat.div_div_eq_div_mul,<-Nat.div_div_eq_div_mul]at h;have:v/WW^k<u/WW^k:=by rw[e1,e2,h];omega
 exact Nat.lt_of_div_lt_div this
def aoZ {v u k:Nat}(h:v/WW^(k+1)=u/WW^(k+1))(hd:dg v k=dg u k):v/WW^k=u/WW^k:=by unfold dg at hd;have e1:=(Nat.mod_add_div (v/WW^k) WW).symm;have e2:=(Nat.mod_add_div (u/WW^k) WW).symm;rw[Nat.pow_succ,<-Nat.div_div_eq_div_mul,<-Nat.div_div_eq_div_mul]at h;rw[e1,e2,h,hd]
def VG {v u:Nat}(h:ln v<ln u):v<u:=by
 rcases Nat.lt_or_ge v u with h1|h1
 . exact h1
 . have:=jL (Nat.lt_of_le_of_lt h1 (fg v));omega
def Ch (b o n cap v b2 o2 m cap2 u:Nat)(w:World)(hm:n<=1099511627776)(hcap:n<=cap)(hc:eD w b o n v)(hv:v<WW^n)
 (hm2:m<=1099511627776) (BB:m<=cap2) (hc2:eD w b2 o2 m u) (hu:u<WW^m):
 Cv 175 #[.slice (some ⟨b,o,none⟩) n cap,.slice (some ⟨b2,o2,none⟩) m cap2] w (ah (dH v u)):=by
 have l1:=jL hv;have l2:=jL hu;have Hv:=az hv;clear hv;have Hu:=az hu;clear hu;have Hc:=az hc;clear hc;have CM:=az hc2;clear hc2;obtain⟨Kv,Ku⟩:=aU (fg v) (fg u);by_cases hlt:ln v<ln u
 . have hf:(((ln v:Nat):Int) !=((ln u:Nat):Int))=true:=by rw[bne_iff_ne];omega
   have gW:Hid (dH v u= -1):=by show dH v u= -1;unfold dH;rw[if_pos (VG hlt)]
   go_enter Tryz.func175,Tryz.ntmps175;go_wp2_with fail;refine(mX b o n cap v _ hm hcap Hc.out Hv.out).mono ?_;rintro e w' ⟨rfl,rfl⟩;go_wp2_with fail;refine(mX b2 o2 m cap2 u _ hm2 BB CM.out Hu.out).mono ?_;rintro e w' ⟨rfl,rfl⟩;go_wp2;go_ret;rw[gW.out];exact⟨rfl,Below.refl _ _⟩
 by_cases hgt:ln u<ln v
 . have hf:(((ln v:Nat):Int) !=((ln u:Nat):Int))=true:=by rw[bne_iff_ne];omega
   have gW:Hid (dH v u=1):=by show dH v u=1;have:=VG hgt;unfold dH;rw[if_neg zo,if_pos this]
   go_enter Tryz.func175,Tryz.ntmps175;go_wp2_with fail;refine(mX b o n cap v _ hm hcap Hc.out Hv.out).mono ?_;rintro e w' ⟨rfl,rfl⟩;go_wp2_with fail;refine(mX b2 o2 m cap2 u _ hm2 BB CM.out Hu.out).mono ?_;rintro e w' ⟨rfl,rfl⟩;go_wp2;go_ret;rw[gW.out];exact⟨rfl,Below.refl _ _⟩
 . have heq:ln v=ln u:=by omega
   generalize hL:ln u=L at*;have HL:=az hL;clear hL;have Li:=az heq;clear heq;have hf:(((L:Nat):Int) !=((L:Nat):Int))=false:=by simp
   rw[Li.out]at Kv l1;go_enter Tryz.func175,Tryz.ntmps175;go_wp2_with fail;refine(mX b o n cap v _ hm hcap Hc.out Hv.out).mono ?_;rintro e w' ⟨rfl,rfl⟩;rw[Li.out];go_wp2_with fail;refine(mX b2 o2 m cap2 u _ hm2 BB CM.out Hu.out).mono ?_;rintro e w' ⟨rfl,rfl⟩;rw[HL.out];go_wp2;go_loopw[5] (λi wr=>∃k:Nat,k<=L/\i=ah ((k:Int)-1)/\v/WW^k=u/WW^k/\Bw w wr) (λi _=>(intOf i+1).toNat);case atStart=>exact⟨L,Nat.le_refl _,rfl,by rw[Nat.div_eq_of_lt Kv.out,Nat.div_eq_of_lt Ku.out],Below.refl _ _⟩
   case round=>
    obtain⟨k,hk,rfl,DX,hb⟩:=hrel;have CO:=az DX;clear DX;by_cases h0:0<k
    . obtain⟨j,rfl⟩:∃j,k=j+1:=⟨k-1,by omega⟩;have c1:wr.cell? ⟨b,o+j,none⟩=some (.int .u64 (dg v j:Int)):=cell_later hb (Hc.out _ zo);have c2:wr.cell? ⟨b2,o2+j,none⟩=some (.int .u64 (dg u j:Int)):=cell_later hb (CM.out _ zo);rw[show(((j+1:Nat):Int)-1)=(j:Int)by omega];have Hb:=az hb;clear hb;rcases Nat.lt_trichotomy (dg v j) (dg u j)with hd|hd|hd
      . have gW:Hid (dH v u= -1):=by show dH v u= -1;unfold dH;rw[if_pos (abd CO.out hd)]
        go_wp2;go_region
        go_wp2;go_ret;rw[gW.out];exact⟨rfl,Hb.out.drew⟩
      . have Hd:=az (aoZ CO.out hd);rw[hd]at c1;go_wp2;go_region
        go_wp2;go_region
        go_wp2;go_roundw;case rel=>exact⟨j,by omega,rfl,Hd.out,Hb.out.drew.drew⟩
        case measure=>simp[intOf]
      . have gW:Hid (dH v u=1):=by show dH v u=1;have:=abd CO.out.symm hd;unfold dH;rw[if_neg zo,if_pos this]
        go_wp2;go_region
        go_wp2;go_region
        go_wp2;go_ret;rw[gW.out];exact⟨rfl,Hb.out.drew.drew⟩
    . obtain rfl:k=0:=by omega
      have gW:Hid (dH v u=0):=by have:=CO.out;simp at this;subst this;show dH v v=0;simp[dH]
      have Hb:=az hb;clear hb;go_wp2;go_ret;rw[gW.out];exact⟨rfl,Hb.out⟩
def Tryz.aCM :(Tryz.prog.info? 152).map (λi=>(i.zero,i.size,i.bytes))=some (some (.int .u64 0),1,8):=by kernel_rfl
def Tryz.aCr :(Tryz.prog.info? 5).map (λi=>(i.zero,i.size,i.bytes))=some (some (.int .u8 0),1,1):=by kernel_rfl
def axW (n:Nat):List.replicate n (Value.int .u64 0)=bV n λ_=>0:=by
 apply List.ext_getElem?;intro j;by_cases h:j<n
 . rw[gT _ _ _ h];simp[h]
 . simp[bV,h]
def Ci (c:Int)(n:Nat)(hc:c=n)(h:n<=1099511627776)(w:World):
 (Instr.makeSlice 166 (ah c) (ah c)).run Tryz.prog w=.ok (.slice (some ⟨w.heap.size,0,none⟩) n n) (w.alloc (.cells (bV n λ_=>0).toArray 152)):=by
 subst hc;obtain⟨i0,hi,hz0,hz1,hz2⟩:=info_parts Tryz.aCM;rw[run_make (P:=Tryz.prog) w 166 152 i0 _ Tryz.underlying166 hi hz0 .i64 .i64 n n zo zo (by rw[hz2];omega) zo];simp only[Int.toNat_natCast,hz1,Nat.mul_one];rw[<-axW,<-toList_madeCells_one];simp[Value.cells]
def awY {m M v:Nat}(h:m<=M)(hv:v<WW^m):splice (bV M λ_=>0) 0 (bV m (dg v))=bV M (dg v):=by
 unfold splice;rw[List.take_zero,List.nil_append,Ae,Nat.zero_add];apply List.ext_getElem?;intro j;rw[List.getElem?_append,Ae];by_cases h1:j<m
 . rw[if_pos h1,gT _ _ _ h1,gT _ _ _ zo]
 . rw[if_neg h1,List.getElem?_drop,show m+(j-m)=j by omega];by_cases h2:j<M
   . rw[gT _ _ _ h2,gT _ _ _ h2,vd hv zo]
   . simp[bV,h2]
def Si (a:Option Addr)(m cap v:Nat)(c:Int)(w:World)(hm:m<=1099511627776)(hc0:0<=c)(hc1:c<=1099511627776)
 (hx:0<m->∃b o,a=some ⟨b,o,none⟩/\eD w b o m v) (hv:v<WW^m):
 Cl 172 #[.slice a m cap,ah c] w λe w'=>e=.returned (.slice (some ⟨w.heap.size,0,none⟩) (max c.toNat m) (max c.toNat m))/\
  aH w' w.heap.size 152 (bV (max c.toNat m) (dg v))/\Bw w w':=by
 obtain⟨k,rfl⟩:=Int.eq_ofNat_of_zero_le hc0;rw[Int.toNat_natCast];have hM:max (k:Int) (m:Int)=((max k m:Nat):Int):=by omega
 generalize yL:max k m=M at*;have hMm:m<=M:=by omega
 have hMb:M<=1099511627776:=by omega
 have Hv:=az hv;clear hv;have Hx:=az hx;clear hx;have HMM:=az yL;clear yL;have hmk:=Ci (M:Int) M rfl hMb;go_enter Tryz.func172,Tryz.ntmps172;go_wp2_with (with_reducible refine wpList_copy_splice rfl (.tmp 11) (.tmp 12) 166 166 rfl 152 Tryz.underlying166 zk (some ⟨w.heap.size,0,none⟩) a M M m cap rfl rfl w.heap.size 0 (bV M λ_=>0) 152 (heap_alloc_new w _) (bV m (dg v)) ?h1 ?h2 ?h3 ?h4 w.heap.size w zl (Nat.le_refl _) ?_);case h1=>rw[Ae];exact(Nat.min_eq_left hMm).symm
 case h2=>
  rw[Ae];intro h0;obtain⟨b,o,rfl,hL⟩:=Hx.out h0;refine⟨⟨b,o,none⟩,rfl,?_⟩;intro j x hj;have hjm:j<m:=by
   rcases Nat.lt_or_ge j m with h|h
   . exact h
   . simp[bV,h]at hj
  rw[gT _ _ _ hjm]at hj;cases hj
  rw[show((⟨b,o,none⟩:Addr).add j)=⟨b,o+j,none⟩by unfold Addr.add;split<;>simp_all];exact cell_later zl (hL j hjm)
 case h3=>rw[Ae,Ae];omega
 case h4=>intro x hx;simp[bV]at hx;obtain⟨j,_,rfl⟩:=hx;rfl
 . intro w1 cm hb1;go_wp2;go_ret;refine⟨rfl,?_,hb1⟩;have:=cm.out;unfold aH;rw[this,awY hMm Hv.out]
def gY (l:List UInt8):(bs l).size=l.length:=by show l.toArray.size=_;simp
def anF (s:ByteArray):s=bs s.data.toList:=by cases s;simp[bs]
def anC (l:List UInt8):(bs l).data.toList=l:=by simp[bs]
def uv (l:List UInt8)(i:Int)(j:Nat)(hj:j<l.length)(hi:i=j)(W:World):
 (Instr.index 9 (.string (bs l)) (ah i)).run Tryz.prog W=.ok (.int .u8 (l[j].toNat:Int)) W:=by
 subst hi;have hj':j<(bs l).size:=by rw[gY];exact hj
 rw[run_index_string W 9 (bs l) .i64 j Tryz.underlying9,dif_pos zo];simp[bs,ByteArray.getElem_eq_getElem_data]
def WU (C i:Nat):IntKind.u64.wrap ((C:Int) *2^i)=((C*2^i%WW:Nat):Int):=by
 rw[IntKind.wrap_u64,kq];have:(C:Int) *2^i=((C*2^i:Nat):Int):=by simp[Int.natCast_mul,Int.natCast_pow]
 rw[this];omega
def Wi (X Y:Nat)(i c:Nat)(hY:Y=c*2^i)(hX:X<2^i)(h:c*2^i+2^i<=WW):bits BinOp.or IntKind.u64 (X:Int) (Y:Int)=((X+Y:Nat):Int):=by
 subst hY;have hp:=Nat.pow_pos (n:=i) (show 0<2 by decide);have h1:X<18446744073709551616:=by rw[kq]at h;omega
 have h2:c*2^i<18446744073709551616:=by rw[kq]at h;omega
 rw[bits_or_u64_nat X (c*2^i) h1 h2,auf hX]
def ov (l:List UInt8)(w:World)(hs:l.length<=1099511627776):
 Cl 136 #[ai l] w λe w'=>e=.returned (.slice (some ⟨w.heap.size,0,none⟩) (ln (nv l)) ((l.length+7)/8))/\
  aH w' w.heap.size 152 (bV ((l.length+7)/8) (dg (nv l)))/\Bw w w'/\ln (nv l)<=(l.length+7)/8:=by
 have hsz:=gY l;have hmk:=Ci (((l.length:Int)+7)/8) ((l.length+7)/8) zo zo;generalize hn:(l.length+7)/8=n at*;have iB:l.length<=8*n:=by omega
 have iO:8*n<=l.length+7:=by omega
 have Hn:=az hn;clear hn;have Jy:nv l<WW^n:=by refine Nat.lt_of_lt_of_le (gw l) ?_;rw[mU,show(256:Nat)=2^8 by rfl,<-Nat.pow_mul];exact Nat.pow_le_pow_right zd zo
 have wE:=az Jy;clear Jy;go_enter Tryz.func136,Tryz.ntmps136;go_wp2;go_loopw[4,5,13] (λ_ _ i wr=>∃k:Nat,k<=l.length/\i=ah k/\aH wr w.heap.size 152 (bV n (dg (nv (l.drop (l.length-k)))))/\Bw w wr) (λ_ _ i _=>l.length-(intOf i).toNat);case atStart=>
  refine⟨0,Nat.zero_le _,rfl,?_,zl⟩;have e:bV n (dg (nv (l.drop (l.length-0))))=bV n λ_=>0:=lA λj _=>by simp[zV,dg]
  rw[e];exact aH.new _ _ _
 case round=>
  obtain⟨k,hk,rfl,hB,hb⟩:=hrel;by_cases hlt:k<l.length
  . have h8:k/8<n:=by omega
    have hcell:wr.cell? ⟨w.heap.size,k/8,none⟩=some (.int .u64 (dg (nv (l.drop (l.length-k))) (k/8):Int)):=by rw[hB.cell,gT _ _ _ h8]
    have hfree:wr.frozen? ⟨w.heap.size,k/8,none⟩=false:=hB.free _;have iA:=uv l ((l.length:Int)-1-(k:Int)) (l.length-1-k) zo zo;have hC:=(l[l.length-1-k]'zo).toNat_lt;have Ik:nv (l.drop (l.length-k))<256^k:=by have:=gw (l.drop (l.length-k));rwa [List.length_drop,show l.length-(l.length-k)=k by omega]at this
    have hlast:=atX l k hlt;obtain⟨d1,d2,d3⟩:=anR _ _ k Ik hC;have hp:=Nat.pow_pos (n:=k%8*8) (show 0<2 by decide);have vG:(l[l.length-1-k]'zo).toNat*2^(k%8*8)+2^(k%8*8)<=WW:=by
     have h2:2^(k%8*8) *256<=WW:=by rw[show(256:Nat)=2^8 by rfl,<-Nat.pow_add,mS];exact Nat.pow_le_pow_right zd zo
     have:2^(k%8*8) * ((l[l.length-1-k]'zo).toNat+1)<=2^(k%8*8) *256:=Nat.mul_le_mul_left _ hC;rw[Nat.mul_add,Nat.mul_comm]at this;omega
    have BW:=WU (l[l.length-1-k]'zo).toNat (k%8*8);rw[Nat.mod_eq_of_lt d2]at BW;have UK:=Wi _ _ _ _ rfl d1 vG;have fp:Hid (aH (wr.setCell ⟨w.heap.size,k/8,none⟩ (.int .u64 ((dg (nv (l.drop (l.length-k))) (k/8)+(l[l.length-1-k]'zo).toNat*2^(k%8*8):Nat):Int))) w.heap.size 152 (bV n (dg (nv (l.drop (l.length-(k+1))))))):=by have:=hB.set (k/8) (.int .u64 ((dg (nv (l.drop (l.length-k))) (k/8)+(l[l.length-1-k]'zo).toNat*2^(k%8*8):Nat):Int));rw[EL]at this;rw[show l.length-(k+1)=l.length-1-k by omega,hlast];rw[lA λj _=>d3 j];exact this
    have Hb:Hid (Bw w (wr.setCell ⟨w.heap.size,k/8,none⟩ (.int .u64 ((dg (nv (l.drop (l.length-k))) (k/8)+(l[l.length-1-k]'zo).toNat*2^(k%8*8):Nat):Int)))):=hb.setCell (Nat.le_refl _) _;clear hB hb d1 d2 d3 hp vG hlast Ik;generalize dg (nv (l.drop (l.length-k))) (k/8)+(l[l.length-1-k]'zo).toNat*2^(k%8*8)=Z at*;generalize dg (nv (l.drop (l.length-k))) (k/8)=X at*;generalize (l[l.length-1-k]'zo).toNat=C at*;generalize C*2^(k%8*8)=Y at*;go_wp2;go_region
    go_wp2;go_roundw;case rel=>exact⟨k+1,by omega,by go_num,fp.out.drew,Hb.out.drew⟩
    case measure=>exact bH
  . obtain rfl:k=l.length:=by omega
    rw[Nat.sub_self,List.drop_zero]at hB;have Hc:Hid (eD wr w.heap.size 0 n (nv l)):=λj hj=>by rw[Nat.zero_add,hB.cell,gT _ _ _ hj]
    have HB:=az hB;clear hB;have Hb:=az hb;clear hb;go_wp2_with (go_at_call 168;refine(mX w.heap.size 0 n n (nv l) _ zo (Nat.le_refl _) Hc.out wE.out).mono ?_;rintro e w' ⟨rfl,rfl⟩);go_ret;exact⟨rfl,HB.out,Hb.out,jL wE.out⟩
def Xy (b o m cap v n:Nat)(w:World)(hm:m<=549755813888)(hn:n<=549755813888)(hx:eD w b o m v)(hv:v<WW^m):
 Cl 169 #[.slice (some ⟨b,o,none⟩) m cap,ah (n:Int)] w λe w'=>e=.returned (.slice (some ⟨w.heap.size,0,none⟩) (ln (v*2^n)) (m+n/64+1))/\
  aH w' w.heap.size 152 (bV (m+n/64+1) (dg (v*2^n)))/\Bw w w'/\ln (v*2^n)<=m+n/64+1:=by
 have hmk:=Ci ((m:Int)+(n:Int)/64+1) (m+n/64+1) zo zo;generalize hM:m+n/64+1=M at*;have Hx:=az hx;clear hx;have Jy:v*2^n<WW^M:=by
  have h1:2^n<=WW^(n/64+1):=by rw[mU];exact Nat.pow_le_pow_right zd zo
  rw[<-hM,Nat.add_assoc,Nat.pow_add];exact Nat.lt_of_lt_of_le (Nat.mul_lt_mul_of_pos_right hv (Nat.pow_pos zd)) (Nat.mul_le_mul_left _ h1)
 have wE:=az Jy;clear Jy;have Hv:=az hv;clear hv;have GZ:m+n/64+1<=M:=by omega
 have qD:M<=1099511627776:=by omega
 have HM:=az hM;clear hM;go_enter Tryz.func169,Tryz.ntmps169;go_wp2;go_loopw[6,7,8,18] (λ_ _ _ i wr=>∃k:Nat,k<=m/\i=ah k/\aH wr w.heap.size 152 (bV M (dg (v%WW^k*2^n)))/\Bw w wr) (λ_ _ _ i _=>m-(intOf i).toNat);case atStart=>
  refine⟨0,Nat.zero_le _,rfl,?_,zl⟩;have e:bV M (dg (v%WW^0*2^n))=bV M λ_=>0:=lA λj _=>by simp[dg,Nat.mod_one]
  rw[e];exact aH.new _ _ _
 case round=>
  obtain⟨k,hk,rfl,hB,hb⟩:=hrel;by_cases hlt:k<m
  . have c0:wr.cell? ⟨b,o+k,none⟩=some (.int .u64 (dg v k:Int)):=cell_later hb (Hx.out k hlt);obtain⟨c,e1,e2,e3,e4,e5,e6⟩:=axY v n k;have hcell:wr.cell? ⟨w.heap.size,k+n/64,none⟩=some (.int .u64 (dg (v%WW^k*2^n) (k+n/64):Int)):=by rw[hB.cell,gT _ _ _ zo]
    have hfree:wr.frozen? ⟨w.heap.size,k+n/64,none⟩=false:=hB.free _;have BW:=WU (dg v k) (n%64);rw[<-e1]at BW;have UK:=Wi _ _ _ _ rfl e2 e3;have bX:=hB.set (k+n/64) (.int .u64 ((dg (v%WW^k*2^n) (k+n/64)+c*2^(n%64):Nat):Int));have hb1:=hb.setCell (p:=⟨w.heap.size,k+n/64,none⟩) (Nat.le_refl _) (.int .u64 ((dg (v%WW^k*2^n) (k+n/64)+c*2^(n%64):Nat):Int));rw[EL]at bX;clear e1 e2 e3 hB hb;by_cases hr:n%64=0
    . have fp:Hid (aH (wr.setCell ⟨w.heap.size,k+n/64,none⟩ (.int .u64 ((dg (v%WW^k*2^n) (k+n/64)+c*2^(n%64):Nat):Int))) w.heap.size 152 (bV M (dg (v%WW^(k+1) *2^n)))):=by
       have hz:dg v k/2^(64-n%64)=0:=by rw[hr];exact Nat.div_eq_of_lt (by have:=kx v k;rw[mS]at this;exact this)
       rw[lA (g:=λj=>if j=k+n/64 then dg (v%WW^k*2^n) (k+n/64)+c*2^(n%64)else dg (v%WW^k*2^n) j) λj _=>by
        rw[e6 j,hz];by_cases hj:j=k+n/64+1
        . subst hj;rw[if_pos rfl,if_neg zo,e4]
        . rw[if_neg hj]]
       exact bX
      have Hb:=az hb1;clear bX hb1 e4 e5 e6;generalize dg (v%WW^k*2^n) (k+n/64)+c*2^(n%64)=Z at*;generalize dg (v%WW^k*2^n) (k+n/64)=X at*;generalize c*2^(n%64)=Y at*;have ny:decide ((0:Int)<(n:Int)%64)=false:=by simp;omega
      have Hr:=az hr;clear hr;go_wp2;go_region
      go_wp2;go_roundw;case rel=>exact⟨k+1,by omega,by go_num,fp.out.drew,Hb.out.drew⟩
      case measure=>exact bH
    . have bj:k+n/64+1<M:=by omega
      have TS:(wr.setCell ⟨w.heap.size,k+n/64,none⟩ (.int .u64 ((dg (v%WW^k*2^n) (k+n/64)+c*2^(n%64):Nat):Int))).cell? ⟨w.heap.size,k+n/64+1,none⟩=some (.int .u64 0):=by rw[bX.cell,gT _ _ _ bj,if_neg zo,e4];rfl
      have aq6:(wr.setCell ⟨w.heap.size,k+n/64,none⟩ (.int .u64 ((dg (v%WW^k*2^n) (k+n/64)+c*2^(n%64):Nat):Int))).frozen? ⟨w.heap.size,k+n/64+1,none⟩=false:=bX.free _;have eF:=bX.set (k+n/64+1) (.int .u64 ((dg v k/2^(64-n%64):Nat):Int));have hb2:=hb1.setCell (p:=⟨w.heap.size,k+n/64+1,none⟩) (Nat.le_refl _) (.int .u64 ((dg v k/2^(64-n%64):Nat):Int));rw[EL,<-lA λj _=>e6 j]at eF;have aAu:bits BinOp.or IntKind.u64 0 ((dg v k:Int)/2^(64-n%64))=((dg v k/2^(64-n%64):Nat):Int):=by have h:=bits_or_u64_nat 0 (dg v k/2^(64-n%64)) zd (by rw[kq]at e5;exact e5);simp only[Nat.zero_or]at h;rw[<-h];simp[Int.natCast_pow]
      obtain⟨fp,Hb⟩:=aU eF hb2;clear bX hb1 e4 e5 e6 eF hb2;have ny:decide ((0:Int)<(n:Int)%64)=true:=by simp;omega
      have Hr:=az hr;clear hr;generalize dg (v%WW^k*2^n) (k+n/64)+c*2^(n%64)=Z at*;generalize dg (v%WW^k*2^n) (k+n/64)=X at*;generalize c*2^(n%64)=Y at*;generalize dg v k/2^(64-n%64)=Z2 at*;go_wp2;go_region
      go_wp2;go_region
      go_wp2;go_roundw;case rel=>exact⟨k+1,by omega,by go_num,fp.out.drew.drew,Hb.out.drew.drew⟩
      case measure=>exact bH
  . obtain rfl:k=m:=by omega
    rw[Nat.mod_eq_of_lt Hv.out]at hB;have Hc:Hid (eD wr w.heap.size 0 M (v*2^n)):=λj hj=>by rw[Nat.zero_add,hB.cell,gT _ _ _ hj]
    have HB:=az hB;clear hB;have Hb:=az hb;clear hb;go_wp2_with (go_at_call 168;refine(mX w.heap.size 0 M M (v*2^n) _ zo (Nat.le_refl _) Hc.out wE.out).mono ?_;rintro e w' ⟨rfl,rfl⟩);go_ret;exact⟨rfl,HB.out,Hb.out,jL wE.out⟩
def Bg (F:Nat->Nat)(k:Nat)(G:Nat->Nat)(j:Nat):Nat:=if j<k then G j else F j
def abE (N:Nat)(F:Nat->Nat)(i:Nat)(G:Nat->Nat)(x:Nat)(hx:x=G i):
 (bV N (Bg F i G)).set i (.int .u64 (x:Int))=bV N (Bg F (i+1) G):=by
 rw[EL];refine lA λj _=>?_;unfold Bg;by_cases h:j=i
 . subst h;rw[if_pos rfl,if_pos zo,hx]
 . rw[if_neg h];by_cases h2:j<i
   . rw[if_pos h2,if_pos zo]
   . rw[if_neg h2,if_neg zo]
def Mo (v q j:Nat):dg (v/WW^q) j=dg v (q+j):=by unfold dg;rw[Nat.div_div_eq_div_mul,<-Nat.pow_add]
def ao9 (v n:Nat):v/WW^(n/64)/2^(n%64)=v/2^n:=by rw[mU,Nat.div_div_eq_div_mul,<-Nat.pow_add];congr 2;omega
def abh (a:Option Addr)(m cap n:Nat)(w:World)(hm:m<=549755813888)(hn:n<=1099511627776)(hle:m<=n/64):
 Cl 170 #[.slice a m cap,ah (n:Int)] w λe w'=>e=.returned (.slice none 0 0)/\w=w':=by
 go_enter Tryz.func170,Tryz.ntmps170;go_wp2;go_ret;exact⟨rfl,rfl⟩
def abg (b o m cap v n:Nat)(w:World)(hm:m<=549755813888)(hcap:m<=cap)(hn:n<=1099511627776)(hx:eD w b o m v)(hv:v<WW^m)(aAl:n/64<m):
 Cl 170 #[.slice (some ⟨b,o,none⟩) m cap,ah (n:Int)] w λe w'=>e=.returned (.slice (some ⟨w.heap.size,0,none⟩) (ln (v/2^n)) (m-n/64))/\
  aH w' w.heap.size 152 (bV (m-n/64) (dg (v/2^n)))/\Bw w w'/\ln (v/2^n)<=m-n/64:=by
 have bE:b<w.heap.size:=World.block_lt_of_cell? w ⟨b,o+0,none⟩ (hx 0 zo);have hne:¬cap=n/64:=by omega
 have Hx:=az hx;clear hx;have hu:v/WW^(n/64)<WW^(m-n/64):=by rw[Nat.div_lt_iff_lt_mul (eJ _),<-Nat.pow_add,show m-n/64+n/64=m by omega];exact hv
 have Hu:=az hu;clear hu;have Hv:=az hv;clear hv;have Hxu:Hid (eD w b (o+n/64) (m-n/64) (v/WW^(n/64))):=λj hj=>by rw[Mo,Nat.add_assoc];exact Hx.out _ zo
 go_enter Tryz.func170,Tryz.ntmps170;go_wp2_with (go_at_call 172;refine(Si (some ⟨b,o+n/64,none⟩) (m-n/64) (cap-n/64) (v/WW^(n/64)) 0 _ zo zo zo (λ_=>⟨b,o+n/64,rfl,Hxu.out⟩) Hu.out).mono ?_;rintro e w1 ⟨rfl,bX,hb1⟩;rw[show max (0:Int).toNat (m-n/64)=m-n/64 by simp]at bX;rw[show max (0:Int).toNat (m-n/64)=m-n/64 by simp];have eW:=az bX;clear bX;have cm:=az hb1;clear hb1);generalize hL:m-n/64=L at*;have HL:=az hL;have oX:L+n/64=m:=by omega
 clear hL;generalize hU:v/WW^(n/64)=U at*;have HU:=az hU;clear hU;go_wp2;go_loopw[6,19] (λ_ i wr=>∃k:Nat,k<=L/\i=ah k/\aH wr w.heap.size 152 (bV L (Bg (dg U) k (dg (U/2^(n%64)))))/\Bw w wr) (λ_ i _=>L-(intOf i).toNat);case atStart=>exact⟨0,Nat.zero_le _,rfl,eW.out,cm.out⟩
 case round=>
  obtain⟨k,hk,rfl,hB,hb⟩:=hrel;by_cases hlt:k<L
  . have hcell:wr.cell? ⟨w.heap.size,k,none⟩=some (.int .u64 (dg U k:Int)):=by rw[hB.cell,gT _ _ _ hlt];simp[Bg]
    have hfree:wr.frozen? ⟨w.heap.size,k,none⟩=false:=hB.free _;have Np:=aoY U (n%64) k (Nat.mod_lt _ zd);have NV:(dg U k:Int)/2^(n%64)=((dg U k/2^(n%64):Nat):Int):=by simp[Int.natCast_pow]
    have bX:=hB.set k (.int .u64 ((dg U k/2^(n%64):Nat):Int));have hb1:=hb.setCell (p:=⟨w.heap.size,k,none⟩) (Nat.le_refl _) (.int .u64 ((dg U k/2^(n%64):Nat):Int));by_cases hc:k+1<L/\0<n%64
    . obtain⟨hc1,hc2⟩:=hc;obtain⟨c,f1,f2,f3,f4,f5⟩:=ahX (dg U (k+1)) (64-n%64) (kx _ _) zo;have hX:dg U k/2^(n%64)<2^(64-n%64):=by rw[Nat.div_lt_iff_lt_mul (Nat.pow_pos zd),<-Nat.pow_add,show 64-n%64+n%64=64 by omega,<-mS];exact kx _ _
      have az8:(wr.setCell ⟨w.heap.size,k,none⟩ (.int .u64 ((dg U k/2^(n%64):Nat):Int))).cell? ⟨b,o+(n/64+k+1),none⟩=some (.int .u64 (dg U (k+1):Int)):=by have:=Hxu.out (k+1) zo;rw[show o+(n/64+k+1)=o+n/64+(k+1)by omega];exact cell_later hb1 this
      have TS:(wr.setCell ⟨w.heap.size,k,none⟩ (.int .u64 ((dg U k/2^(n%64):Nat):Int))).cell? ⟨w.heap.size,k,none⟩=some (.int .u64 ((dg U k/2^(n%64):Nat):Int)):=by rw[bX.cell];simp[Ae,hlt]
      have aq6:(wr.setCell ⟨w.heap.size,k,none⟩ (.int .u64 ((dg U k/2^(n%64):Nat):Int))).frozen? ⟨w.heap.size,k,none⟩=false:=bX.free _;have BW:=WU (dg U (k+1)) (64-n%64);have UK:=Wi _ _ _ _ f1 hX f4;have eF:=bX.set k (.int .u64 ((dg (U/2^(n%64)) k:Nat):Int));have hb2:=hb1.setCell (p:=⟨w.heap.size,k,none⟩) (Nat.le_refl _) (.int .u64 ((dg (U/2^(n%64)) k:Nat):Int));rw[List.set_set,abE L _ k _ _ rfl]at eF;rw[<-Np]at UK;obtain⟨fp,Hb⟩:=aU eF hb2;clear bX hb1 eF hb2 hB hb f1 f2 f3 f4 f5 hX Np;have hq1:decide ((k:Int)+1<(L:Int))=true:=by simp;omega
      have hq2:decide ((0:Int)<(n:Int)%64)=true:=by simp;omega
      generalize dg U k/2^(n%64)=D at*;generalize dg U (k+1) *2^(64-n%64)%WW=Y at*;generalize dg U (k+1)=D1 at*;go_wp2;go_region
      go_wp2;go_roundw;case rel=>exact⟨k+1,by omega,by go_num,fp.out.drew,Hb.out.drew⟩
      case measure=>exact bH
    . have e:dg U k/2^(n%64)=dg (U/2^(n%64)) k:=by
       rw[Np];by_cases h0:n%64=0
       . rw[h0];simp only[Nat.pow_zero,Nat.div_one,Nat.sub_zero,<-mS,Nat.mul_mod_left,Nat.add_zero]
       . rw[vd (j:=k+1) Hu.out zo,Nat.zero_mul,Nat.zero_mod,Nat.add_zero]
      rw[e,abE L _ k _ _ rfl]at bX;rw[e]at hb1 NV;obtain⟨fp,Hb⟩:=aU bX hb1;clear bX hb1 hB hb Np e;by_cases h1:k+1<L
      . have hq1:decide ((k:Int)+1<(L:Int))=true:=by simp;omega
        have hq2:decide ((0:Int)<(n:Int)%64)=false:=by simp;omega
        go_wp2;go_roundw;case rel=>exact⟨k+1,by omega,by go_num,fp.out,Hb.out⟩
        case measure=>exact bH
      . have hq1:decide ((k:Int)+1<(L:Int))=false:=by simp;omega
        go_wp2;go_roundw;case rel=>exact⟨k+1,by omega,by go_num,fp.out,Hb.out⟩
        case measure=>exact bH
  . obtain rfl:k=L:=by omega
    have e:U/2^(n%64)=v/2^n:=by rw[<-HU.out,ao9]
    have e2:bV k (Bg (dg U) k (dg (U/2^(n%64))))=bV k (dg (v/2^n)):=lA λj hj=>by simp[Bg,hj,e]
    rw[e2]at hB;have bj:v/2^n<WW^k:=by rw[<-e];exact Nat.lt_of_le_of_lt (Nat.div_le_self _ _) Hu.out
    have Zn:=az bj;clear e e2 bj;have Hc:Hid (eD wr w.heap.size 0 k (v/2^n)):=λj hj=>by rw[Nat.zero_add,hB.cell,gT _ _ _ hj]
    have HB:=az hB;clear hB;have Hb:=az hb;clear hb;go_wp2_with (go_at_call 168;refine(mX w.heap.size 0 k k (v/2^n) _ zo (Nat.le_refl _) Hc.out Zn.out).mono ?_;rintro e w' ⟨rfl,rfl⟩);go_ret;rw[HL.out];exact⟨rfl,HB.out,Hb.out,jL Zn.out⟩
def cZ (n:Nat)(f:Nat->Nat):List Value:=(List.range n).map λj=>.int .u8 (f j:Int)
def Kp (n:Nat)(f:Nat->Nat):(cZ n f).length=n:=by simp[cZ]
def mG (n:Nat)(f:Nat->Nat)(j:Nat)(h:j<n):(cZ n f)[j]?=some (.int .u8 (f j:Int)):=by simp[cZ,List.getElem?_range h]
def pI {n:Nat}{f g:Nat->Nat}(h:∀j,j<n->f j=g j):cZ n f=cZ n g:=by unfold cZ;refine List.map_congr_left λj hj=>?_;rw[h j (by simpa using hj)]
def CB (n:Nat)(f:Nat->Nat)(i x:Nat):(cZ n f).set i (.int .u8 (x:Int))=cZ n (λj=>if j=i then x else f j):=by
 apply List.ext_getElem?;intro j;rw[List.getElem?_set,Kp];by_cases h:j<n
 . rw[mG _ _ _ h,mG _ _ _ h];by_cases e:i=j
   . subst e;simp[h]
   . simp[e,Ne.symm e]
 . by_cases e:i=j
   . subst e;simp[cZ,h]
   . simp[e,cZ,h]
def axV (n:Nat):List.replicate n (Value.int .u8 0)=cZ n λ_=>0:=by
 apply List.ext_getElem?;intro j;by_cases h:j<n
 . rw[mG _ _ _ h];simp[h]
 . simp[cZ,h]
def sN (c:Int)(n:Nat)(hc:c=n)(h:n<=17592186044416)(w:World):
 (Instr.makeSlice 84 (ah c) (ah c)).run Tryz.prog w=.ok (.slice (some ⟨w.heap.size,0,none⟩) n n) (w.alloc (.cells (cZ n λ_=>0).toArray 5)):=by
 subst hc;obtain⟨i0,hi,hz0,hz1,hz2⟩:=info_parts Tryz.aCr;rw[run_make (P:=Tryz.prog) w 84 5 i0 _ Tryz.underlying84 hi hz0 .i64 .i64 n n zo zo (by rw[hz2];omega) zo];simp only[Int.toNat_natCast,hz1,Nat.mul_one];rw[<-axV,<-toList_madeCells_one];simp[Value.cells]
def uH {w:World}{b:Nat}{t:TypeId}{n:Nat}{f:Nat->Nat}(h:aH w b t (cZ n f))(cap:Nat):
 (convert 84 9 (.slice (some ⟨b,0,none⟩) n cap)).run Tryz.prog w=.ok (.string (bs ((List.range n).map λj=>UInt8.ofNat (f j)))) w:=by
 have:=run_convert_bytes_arg (P:=Tryz.prog) w 84 5 Tryz.underlying84 Tryz.underlying5 b 0 n cap ((List.range n).map λj=>(f j:Int)) zm (λi hi=>by rw[Nat.zero_add,h.cell,mG _ _ _ hi];simp[hi]) 9 Tryz.underlying9
 rw[this];unfold strOfNums bs;rw[List.map_map];rfl
def atY (v n:Nat):nv ((List.range n).map λj=>UInt8.ofNat (v/256^(n-1-j)%256))=v%256^n:=by
 induction n with
 |zero=>simp[zV,Nat.mod_one]
 | succ n ih=>
   rw[List.range_succ_eq_map,List.map_cons,List.map_map,vJ,Me,List.length_map,List.length_range];have e:(List.range n).map ((λj=>UInt8.ofNat (v/256^(n+1-1-j)%256))∘Nat.succ)=(List.range n).map λj=>UInt8.ofNat (v/256^(n-1-j)%256):=by
    refine List.map_congr_left λj hj=>?_;have hj':j<n:=by simpa using hj
    show UInt8.ofNat (v/256^(n+1-1-(j+1))%256)=_
    rw[show n+1-1-(j+1)=n-1-j by omega]
   rw[e,ih,Nat.pow_succ,Nat.mod_mul,show n+1-1-0=n by omega,Nat.mul_comm,Nat.add_comm]
def VZ (v n:Nat)(h:v<256^n)(h0:0<n->256^(n-1)<=v):(List.range n).map (λj=>UInt8.ofNat (v/256^(n-1-j)%256))=nt v:=by
 have e:=atY v n;rw[Nat.mod_eq_of_lt h]at e;refine(agd _ ?_).symm.trans (by rw[e]);intro c hc;cases n with
 |zero=>simp at hc
 | succ n=>
   rw[List.range_succ_eq_map,List.map_cons,List.head?_cons]at hc;cases hc
   intro hz;have:=congrArg UInt8.toNat hz;rw[Me]at this;have h1:=h0 zo;rw[show n+1-1=n by omega]at h1;rw[show n+1-1-0=n by omega]at this;have h2:v/256^n<256:=by rw[Nat.div_lt_iff_lt_mul (Nat.pow_pos zd)];rw[Nat.pow_succ,Nat.mul_comm]at h;exact h
   have h3:=Nat.div_pos h1 (Nat.pow_pos (n:=n) (show 0<256 by decide));rw[Nat.mod_eq_of_lt h2]at this;simp at this;omega
def Gv (v:Nat):v<256^((bT v+7)/8)/\(0<(bT v+7)/8->256^((bT v+7)/8-1)<=v):=by
 constructor
 . refine Nat.lt_of_lt_of_le (sf v) ?_;rw[show(256:Nat)=2^8 by rfl,<-Nat.pow_mul];exact Nat.pow_le_pow_right zd zo
 . intro h;have hv:v≠0:=by intro h0;subst h0;simp[bT]at h
   have e:bT v=Nat.log2 v+1:=by unfold bT;rw[if_neg hv]
   refine Nat.le_trans ?_ (Nat.log2_self_le hv);rw[show(256:Nat)=2^8 by rfl,<-Nat.pow_mul];exact Nat.pow_le_pow_right zd zo
def atP (v:Nat):(nt v).length=(bT v+7)/8:=by have h:=Gv v;rw[<-VZ v _ h.1 h.2];simp
def byte_of (v k:Nat):IntKind.u8.wrap ((dg v (k/8):Int)/2^(k%8*8))=((v/256^k%256:Nat):Int):=by
 have e:(dg v (k/8):Int)/2^(k%8*8)=((dg v (k/8)/2^(k%8*8):Nat):Int):=by simp[Int.natCast_pow]
 rw[e];have e2:dg v (k/8)/2^(k%8*8)%256=v/256^k%256:=by
  unfold dg;rw[Ws,<-Nat.div_div_eq_div_mul];generalize v/WW^(k/8)=x;have hW:WW=2^(k%8*8) *2^(64-k%8*8):=by rw[<-Nat.pow_add,mS];congr 1;omega
  rw[hW,Nat.mod_mul_right_div_self,Nat.mod_mod_of_dvd];rw[show(256:Nat)=2^8 by rfl];exact Nat.pow_dvd_pow 2 zo
 rw[<-e2];generalize dg v (k/8)/2^(k%8*8)=y;simp[IntKind.wrap,IntKind.signed,IntKind.bits]
def Ad (b o m cap v:Nat)(w:World)(hm:m<=1099511627776)(hcap:m<=cap)(hx:eD w b o m v)(hv:v<WW^m):
 Cv 158 #[.slice (some ⟨b,o,none⟩) m cap] w (ai (nt v)):=by
 have hle:=jL hv;have hbl:bT v<=64*m:=gX (by rw[<-mU];exact hv);have hmk:=sN (((bT v:Int)+7)/8) ((bT v+7)/8) zo zo;have Ux:(bT v+7)/8<=8*ln v:=by have h1:bT v<=64*ln v:=gX (by rw[<-mU];exact fg v);omega
 have wn:Hid ((List.range ((bT v+7)/8)).map (λj=>UInt8.ofNat (v/256^((bT v+7)/8-1-j)%256))=nt v):=VZ _ _ (Gv v).1 (Gv v).2;generalize hn:(bT v+7)/8=n at*;have hnb:n<=17592186044416:=by omega
 have Hn:=az hn;have UB:((bT v:Int)+7)/8=(n:Int):=by omega
 rw[UB]at hmk;clear hn;have Hx:=az hx;clear hx;have Hv:=az hv;clear hv;have tG:Hid (eD w b o (ln v) v):=Hx.out.less hle;go_enter Tryz.func158,Tryz.ntmps158;go_wp2_with fail;refine(mX b o m cap v _ zo hcap Hx.out Hv.out).mono ?_;rintro e w' ⟨rfl,rfl⟩;go_wp2_with fail;refine(afB b o (ln v) cap v _ zo zo tG.out (fg v)).mono ?_;rintro e w' ⟨rfl,rfl⟩;go_wp2;go_loopw[5,15] (λ_ i wr=>∃k:Nat,k<=n/\i=ah k/\aH wr w.heap.size 5 (cZ n (λj=>if n-k<=j then v/256^(n-1-j)%256 else 0))/\Bw w wr) (λ_ i _=>n-(intOf i).toNat);case atStart=>
  refine⟨0,Nat.zero_le _,rfl,?_,zl⟩;have e:cZ n (λj=>if n-0<=j then v/256^(n-1-j)%256 else 0)=cZ n λ_=>0:=pI λj hj=>by rw[if_neg zo]
  rw[e];exact aH.new _ _ _
 case round=>
  obtain⟨k,hk,rfl,hB,hb⟩:=hrel;by_cases hlt:k<n
  . have mh:wr.cell? ⟨b,o+k/8,none⟩=some (.int .u64 (dg v (k/8):Int)):=cell_later hb (tG.out _ zo);have h8:k/8<ln v:=by omega
    have az6:=byte_of v k;have hcell:wr.cell? ⟨w.heap.size,n-1-k,none⟩=some (.int .u8 0):=by rw[hB.cell,mG _ _ _ zo,if_neg zo];rfl
    have hfree:wr.frozen? ⟨w.heap.size,n-1-k,none⟩=false:=hB.free _;have bX:=hB.set (n-1-k) (.int .u8 ((v/256^k%256:Nat):Int));have hb1:=hb.setCell (p:=⟨w.heap.size,n-1-k,none⟩) (Nat.le_refl _) (.int .u8 ((v/256^k%256:Nat):Int))
    rw[CB,pI (g:=λj=>if n-(k+1)<=j then v/256^(n-1-j)%256 else 0) λj hj=>by
     by_cases oc:j=n-1-k
     . subst oc;rw[if_pos rfl,if_pos zo,show n-1-(n-1-k)=k by omega]
     . rw[if_neg oc];by_cases fS:n-k<=j
       . rw[if_pos fS,if_pos zo]
       . rw[if_neg fS,if_neg zo]]at bX
    obtain⟨fp,Hb⟩:=aU bX hb1;clear hB hb bX hb1;generalize v/256^k%256=Z at*;go_wp2;go_roundw;case rel=>exact⟨k+1,by omega,by go_num,fp.out,Hb.out⟩
    case measure=>exact bH
  . obtain rfl:k=n:=by omega
    rw[pI (g:=λj=>v/256^(k-1-j)%256) λj hj=>by rw[if_pos zo]]at hB;have uf:=uH hB k;rw[wn.out]at uf;have Hb:=az hb;clear hb hB;go_wp2;go_ret;exact⟨rfl,Hb.out⟩
def qN {t e sz:Nat}(hu:Tryz.prog.underlying t=some (.slice e))(hs:(Tryz.prog.info? e).map (·.size)=some sz){a:Option Addr}{b o:Nat}(n cap k:Nat)(i:Int)
 (ha:a=some ⟨b,o,none⟩) (hk:k<n) (hi:i=k) (W:World):
 (Instr.indexAt t (.slice a n cap) (ah i)).run Tryz.prog W=.ok (.pointer (some ⟨b,o+k*sz,none⟩)) W:=by
 subst ha;subst hi;obtain⟨inf,h1,h2⟩:=Option.map_eq_some_iff.1 hs;have hk':(0:Int)<=(k:Int)/\(k:Int)<(n:Int):=by omega
 have hadd:(⟨b,o,none⟩:Addr).add (k*sz)=⟨b,o+k*sz,none⟩:=by unfold Addr.add;split<;>simp_all
 simp[Instr.indexAt,run_underlying hu,asIntOf,hk,sizeOf,typeInfo,h1,h2,hadd]
abbrev arX := @qN 116 2 1 Tryz.underlying116 zk
abbrev xw := @qN 130 46 2 Tryz.underlying130 zk
abbrev Ej := @qN 142 130 1 Tryz.underlying142 zk
abbrev xx := @qN 154 3 1 Tryz.underlying154 zk
abbrev JC := @qN 166 152 1 Tryz.underlying166 zk
abbrev gQ := @qN 22 67 4 Tryz.underlying22 zk
abbrev rJ := @qN 26 56 1 Tryz.underlying26 zk
abbrev nD := @qN 32 48 3 Tryz.underlying32 zk
abbrev uu := @qN 53 9 1 Tryz.underlying53 zk
abbrev xy := @qN 56 48 3 Tryz.underlying56 zk
abbrev Vt := @qN 78 48 3 Tryz.underlying78 zk
abbrev xz := @qN 82 32 1 Tryz.underlying82 zk
abbrev rK := @qN 84 5 1 Tryz.underlying84 zk
abbrev zI := @qN 86 24 2 Tryz.underlying86 zk
def At (w:World)(a:Option Addr)(cs:List Value):Prop:=cs=[]\/∃b o,a=some ⟨b,o,none⟩/\∀j,j<cs.length->w.cell? ⟨b,o+j,none⟩=cs[j]?
def At.nil (w:World)(a:Option Addr):At w a []:=.inl rfl
def At.below {w w':World}{a:Option Addr}{cs:List Value}(h:At w a cs)(hb:Bw w w'):At w' a cs:=by
 rcases h with h|⟨b,o,ha,hc⟩
 . exact .inl h
 . refine .inr ⟨b,o,ha,λj hj=>?_⟩;have:=hc j hj;rw[List.getElem?_eq_getElem hj]at this⊢;exact cell_later hb this
def At.grown {w w':World}{a:Option Addr}{cs:List Value}{r:Option Nat}(h:At w a cs)(hb:w.grownBy w' r)(hr:∀b o,a=some ⟨b,o,none⟩->some b≠r):At w' a cs:=by
 rcases h with h|⟨b,o,ha,hc⟩
 . exact .inl h
 . refine .inr ⟨b,o,ha,λj hj=>?_⟩;have:=hc j hj;rw[List.getElem?_eq_getElem hj]at this⊢;exact hb.cell this (hr b o ha)
def At.get {w:World}{a:Option Addr}{cs:List Value}(h:At w a cs)(h0:cs≠[]):∃b o,a=some ⟨b,o,none⟩/\∀j,j<cs.length->w.cell? ⟨b,o+j,none⟩=cs[j]?:=by
 rcases h with h|h
 . exact absurd h h0
 . exact h
def At.lt {w:World}{b o:Nat}{cs:List Value}(h:At w (some ⟨b,o,none⟩) cs)(h0:cs≠[]):b<w.heap.size:=by
 obtain⟨b',o',ha,hc⟩:=h.get h0;cases ha
 have hp:0<cs.length:=List.length_pos_iff.2 h0;have:=hc 0 hp;rw[List.getElem?_eq_getElem hp]at this;exact World.block_lt_of_cell? w _ this
def De (w:World)(a:Option Addr)(n v:Nat):Prop:=0<n->∃b o,a=some ⟨b,o,none⟩/\eD w b o n v
def De.below {w w':World}{a:Option Addr}{n v:Nat}(h:De w a n v)(hb:Bw w w'):De w' a n v:=λh0=>
 let ⟨b,o,ha,hl⟩:=h h0;⟨b,o,ha,hl.below hb⟩
def ahx (a:Option Addr)(cap:Nat)(w:World):
 Cv 158 #[.slice a 0 cap] w (.string (bs [])):=by
 have hmk:=sN 0 0 rfl zo;have uf:=uH (aH.new w 5 (cZ 0 λ_=>0)) 0;go_enter Tryz.func158,Tryz.ntmps158;go_wp2_with fail;refine(aa3 cap a _).mono ?_;rintro e w' ⟨rfl,rfl⟩;go_wp2_with fail;refine(asM a cap _).mono ?_;rintro e w' ⟨rfl,rfl⟩;go_wp2;refine wp_loop_rounds 1 ?_;rw[rounds_succ];go_wp2;go_ret;exact⟨rfl,zl⟩
def ahw (a:Option Addr)(m cap v:Nat)(w:World)(hm:m<=1099511627776)(hcap:m<=cap)(hx:De w a m v)(hv:v<WW^m):
 Cv 158 #[.slice a m cap] w (ai (nt v)):=by
 rcases Nat.eq_zero_or_pos m with h|h
 . subst h;have:v=0:=by simpa using hv
   subst this;exact ahx a cap w
 . obtain⟨b,o,rfl,hl⟩:=hx h;exact Ad b o m cap v w hm hcap hl hv
def at7 (n:Nat)(h:n<WW)(w:World):aH (w.alloc (.cells #[.int .u64 (n:Int)] 152)) w.heap.size 152 (bV 1 (dg n)):=by
 have e0:dg n 0=n:=by simp[dg,Nat.mod_eq_of_lt h]
 have e:bV 1 (dg n)=[.int .u64 (n:Int)]:=by simp[bV,e0]
 rw[e];exact aH.new _ _ _
def af3 (n:Nat)(h:n<WW)(w:World):
 Cv 119 #[.int .u64 (n:Int)] w (ai (nt n)):=by
 have hB:=at7 n h w;have Hc:Hid (eD (w.alloc (.cells #[.int .u64 (n:Int)] 152)) w.heap.size 0 1 n):=λj hj=>by rw[Nat.zero_add,hB.cell,gT _ _ _ hj]
 have Hh:=az h;clear h hB;go_enter Tryz.func119,Tryz.ntmps119;go_wp2_with (go_at_call 158;refine(Ad w.heap.size 0 1 1 n _ zo zo Hc.out (by rw[Nat.pow_one];exact Hh.out)).mono ?_;rintro e w' ⟨rfl,hb⟩);go_ret;exact⟨rfl,zl.trans (hb.mono zm)⟩
def anD (l:List UInt8)(k:Nat):(bs l).extract k (bs l).size=bs (l.drop k):=by rw[anF ((bs l).extract k (bs l).size)];congr 1;rw[gY];simp[bs,ByteArray.data_extract];rw[List.take_of_length_le zm]
def awV (l:List UInt8)(i:Int)(k:Nat)(hk:k<=l.length)(hi:i=k)(W:World):
 (Instr.sliceAt 9 (ai l) (some (ah i)) none none).run Tryz.prog W=.ok (ai (l.drop k)) W:=by
 subst hi;have h:=run_slice_string_from_if (P:=Tryz.prog) W 9 (bs l) .i64 k Tryz.underlying9;rw[if_pos (by rw[gY];omega)]at h;simp only[Int.toNat_natCast,anD l k]at h;simpa[Instr.sliceAt,run_underlying Tryz.underlying9]using h
def axP (l:List UInt8)(w:World)(_hs:l.length<=1099511627776):
 Cl 194 #[ai l,.int .u8 0] w λe w'=>e=.returned (ai (nt (nv l)))/\w=w':=by
 go_enter Tryz.func194,Tryz.ntmps194;go_wp2;go_loop [0] (λx=>∃m:List UInt8,m.length<=l.length/\nv m=nv l/\x=ai m) (λx=>match x with| .string s=>s.size|_=>0)
 case atStart=>exact⟨l,Nat.le_refl _,rfl,rfl⟩
 case round=>
  obtain⟨m,hm,hv,rfl⟩:=hrel;have Hv:=az hv;clear hv;have hsz:=gY m;cases m with
  | nil=>
    go_wp2;go_ret;have e:nt (nv l)=[]:=by rw[<-Hv.out];rfl
    rw[e];exact⟨rfl,rfl⟩
  | cons c m=>
    have iA:=uv (c::m) 0 0 zm rfl;have hsl:=awV (c::m) 1 1 zm rfl;simp only[List.getElem_cons_zero,List.drop_succ_cons,List.drop_zero]at iA hsl;have nk:0<m.length+1:=by omega
    have jQ:Hid (m.length+1<=l.length):=hm;rw[List.length_cons]at hsz hm;by_cases hc:c=0
    . have hct:((c.toNat:Int)==0)=true:=by rw[hc];rfl
      have Hn:Hid (nv m=nv l):=by
       show nv m=nv l
       rw[<-Hv.out,vJ,hc];simp
      clear hc;go_wp2;refine⟨⟨m,by have:=jQ.out;omega,Hn.out,rfl⟩,?_⟩;simp[gY]
    . have hcn:c.toNat≠0:=λh0=>hc (UInt8.toNat_inj.1 (by simpa using h0));have hct:((c.toNat:Int)==0)=false:=by rw[beq_eq_false_iff_ne];omega
      have He:Hid (nt (nv l)=c::m):=by
       show nt (nv l)=c::m
       rw[<-Hv.out];exact agd _ (λx hx=>by simp at hx;subst hx;exact hc)
      clear hc hcn;go_wp2;go_ret;rw[He.out];exact⟨rfl,rfl⟩
def axG (a:ByteArray)(k i:Nat)(hk:a.size-i=k)(r:List UInt8):ByteArray.toList.loop a i r=r.reverse++a.data.toList.drop i:=by
 induction k generalizing i r with
 |zero=>unfold ByteArray.toList.loop;rw[if_neg zo,List.drop_eq_nil_of_le zi,List.append_nil]
 | succ k ih=>
   unfold ByteArray.toList.loop;have hi:i<a.size:=by omega
   have hi':i<a.data.toList.length:=by simpa using hi
   rw[if_pos hi,ih (i+1) zo,List.drop_eq_getElem_cons hi',List.reverse_cons,List.append_assoc];congr 2;simp[ByteArray.get!,hi]
def fL (l:List UInt8):(bs l).toList=l:=by
 show ByteArray.toList.loop (bs l) 0 []=l
 rw[axG _ _ _ rfl,anC];simp
def wL (l:List UInt8):(bs l).toList.isEmpty=l.isEmpty:=by rw[fL]
def axQ (l:List UInt8)(w:World)(hs:l.length<=1099511627776):
 Cl 177 #[ai l,.string ⟨#[0]⟩] w λe w'=>e=.returned (ai (nt (nv l)))/\w=w':=by
 cases l with
 |nil=>have hne:=wL [];simp only[List.isEmpty_nil]at hne;go_enter Tryz.func177,Tryz.ntmps177;go_wp2;go_ret;exact⟨rfl,rfl⟩
 |cons c m=>have hne:=wL (c::m);simp only[List.isEmpty_cons]at hne;go_enter Tryz.func177,Tryz.ntmps177;go_wp2_with (go_at_call 194;refine(axP _ _ hs).mono ?_;rintro e w' ⟨rfl,rfl⟩);go_ret;exact⟨rfl,rfl⟩
def ahG (l:List UInt8)(w:World)(hs:l.length<=1099511627776):
 Cl 145 #[ai l] w λe w'=>e=.returned (ai (nt (nv l)))/\w=w':=by
 go_enter Tryz.func145,Tryz.ntmps145;go_wp2_with (go_at_call 177;refine(axQ _ _ hs).mono ?_;rintro e w' ⟨rfl,rfl⟩);go_ret;exact⟨rfl,rfl⟩
def aH.lim {w:World}{b:Nat}{t:TypeId}{N v:Nat}(h:aH w b t (bV N (dg v)))(n:Nat)(hn:n<=N):eD w b 0 n v:=
 λj hj=>by rw[Nat.zero_add,h.cell,gT _ _ _ zo]
def atA (l m:List UInt8)(w:World)(hl:l.length<=68719476736)(hm:m.length<=68719476736):
 Cv 174 #[ai l,ai m] w (ah (dH (nv l) (nv m))):=by
 go_enter Tryz.func174,Tryz.ntmps174;go_wp2_with fail;refine(ov l _ zo).mono ?_;rintro e w1 ⟨rfl,bX,hb1,fX⟩;obtain⟨eW,cm⟩:=aU bX hb1;clear bX hb1;go_wp2_with fail;refine(ov m _ zo).mono ?_;rintro e w2 ⟨rfl,eF,hb2,oZ⟩;obtain⟨fK,cQ⟩:=aU eF hb2;clear eF hb2;go_wp2_with fail;refine(Ch w.heap.size 0 (ln (nv l)) ((l.length+7)/8) (nv l) w1.heap.size 0 (ln (nv m)) ((m.length+7)/8) (nv m) _ zo fX ((eW.out.below cQ.out).lim _ fX) (fg _) zo oZ (fK.out.lim _ oZ) (fg _)).mono ?_;rintro e w3 ⟨rfl,hb3⟩;have eo:=az hb3;clear hb3;go_wp2;go_ret;exact⟨rfl,(cm.out.trans (cQ.out.mono cm.out.size)).trans (eo.out.mono (Nat.le_trans cm.out.size cQ.out.size))⟩
def VU (l:List UInt8)(w:World)(hl:l.length<=68719476736):
 Cv 140 #[ai l] w (ah (bT (nv l):Int)):=by
 go_enter Tryz.func140,Tryz.ntmps140;go_wp2_with fail;refine(ov l _ zo).mono ?_;rintro e w1 ⟨rfl,bX,hb1,fX⟩;obtain⟨eW,cm⟩:=aU bX hb1;clear bX hb1;go_wp2_with fail;refine(afB w.heap.size 0 (ln (nv l)) ((l.length+7)/8) (nv l) _ zo fX (eW.out.lim _ fX) (fg _)).mono ?_;rintro e w3 ⟨rfl,rfl⟩;go_wp2;go_ret;exact⟨rfl,cm.out⟩
def tz (v:Nat):Nat:=((v:Int)).trailingZeros
def ahJ (k m:Nat):tz (2^k* (2*m+1))=k:=by
 unfold tz;have e:((2^k* (2*m+1):Nat):Int)=(2* (m:Int)+1)<<<k:=by rw[Int.shiftLeft_eq];simp[Int.natCast_mul,Int.natCast_pow,Int.mul_comm]
 rw[e,Int.trailingZeros_shiftLeft zo,Int.trailingZeros_two_mul_add_one,Nat.zero_add]
def axS (v i:Nat)(h0:v%WW^i=0)(hd:dg v i≠0):tz v=64*i+Lib.ctz 64 (dg v i):=by
 obtain⟨m,hm,hlt⟩:=aa2 (dg v i) (kx v i) hd;generalize Lib.ctz 64 (dg v i)=c at*;have e1:v=WW^i* (v/WW^i):=by have:=(Nat.mod_add_div v (WW^i)).symm;rw[h0,Nat.zero_add]at this;exact this
 have e2:v/WW^i=dg v i+WW* (v/WW^i/WW):=(Nat.mod_add_div _ _).symm;have e3:WW=2^c* (2*2^(63-c)):=by rw[<-Nat.pow_succ',<-Nat.pow_add,mS];congr 1;omega
 have e4:v=2^(64*i+c) * (2* (m+2^(63-c) * (v/WW^i/WW))+1):=by
  conv=>lhs;rw[e1,e2,hm]
  rw[Nat.pow_add,<-mU,Nat.mul_assoc];congr 1;generalize v/WW^i/WW=y;conv=>lhs;rw[e3]
  rw[Nat.mul_assoc,<-Nat.mul_add];congr 1;rw[Nat.mul_add,Nat.mul_assoc];omega
 rw[e4];exact ahJ _ _
def VV (l:List UInt8)(w:World)(hl:l.length<=68719476736)(hT:aR w):
 Cv 102 #[ai l] w (ah (tz (nv l):Int)):=by
 have HT:=az hT;clear hT;go_enter Tryz.func102,Tryz.ntmps102;go_wp2_with fail;refine(ov l _ zo).mono ?_;rintro e w1 ⟨rfl,bX,hb1,fX⟩;obtain⟨eW,cm⟩:=aU bX hb1;clear bX hb1;have hn:ln (nv l)<=549755813888:=by omega
 have yh:Hid (nv l<WW^ln (nv l)):=fg _;generalize hvv:nv l=v at*;have HV:=az hvv;clear hvv;go_wp2;go_loop [3,4,8] (λ_ _ i=>∃k:Nat,k<=ln v/\i=ah k/\v%WW^k=0) (λ_ _ i=>ln v-(intOf i).toNat)
 case atStart=>exact⟨0,Nat.zero_le _,rfl,by simp[Nat.mod_one]⟩
 case round=>
  obtain⟨k,hk,rfl,hz⟩:=hrel;have Hz:=az hz;clear hz;by_cases hlt:k<ln v
  . have hcell:w1.cell? ⟨w.heap.size,k,none⟩=some (.int .u64 (dg v k:Int)):=by have:=eW.out.lim _ fX k hlt;rwa [Nat.zero_add]at this
    by_cases hd:dg v k=0
    . have hd':((dg v k:Int) !=0)=false:=by simp[hd]
      have Hd:=az hd;clear hd;go_wp2;go_round
      case rel=>exact⟨k+1,by omega,by go_num,by rw[Cj,Hz.out,Hd.out];simp⟩
      case measure=>exact bH
    . have hd':((dg v k:Int) !=0)=true:=by rw[bne_iff_ne];omega
      have Hd:=az hd;clear hd;obtain⟨sY,gW⟩:=aU (HT.out.below cm.out) (axS v k Hz.out Hd.out);have hct:Lib.ctz 64 (dg v k)<64:=by obtain⟨_,_,h⟩:=aa2 (dg v k) (kx v k) Hd.out;exact h
      go_wp2_with (go_at_call 137;refine(axR _ (kx _ _) Hd.out _ sY.out).mono ?_;rintro e w' ⟨rfl,rfl⟩);go_ret;rw[HV.out,gW.out];exact⟨congrArg (λz:Int=>Ending.returned (ah z)) zo,cm.out⟩
  . have cV:Hid (v=0):=by have:=Hz.out;rwa [Nat.mod_eq_of_lt (Nat.lt_of_lt_of_le yh.out (Nat.pow_le_pow_right ku zo))]at this
    go_wp2;go_ret;rw[HV.out,cV.out];exact⟨rfl,cm.out⟩
def LM (l:List UInt8):nv l<WW^((l.length+7)/8):=by refine Nat.lt_of_lt_of_le (gw l) ?_;rw[mU,show(256:Nat)=2^8 by rfl,<-Nat.pow_mul];exact Nat.pow_le_pow_right zd zo
def af4 (l m:List UInt8)(w:World)(hl:l.length<=68719476736)(hm:m.length<=68719476736)(h:nv m<=nv l):
 Cv 144 #[ai l,ai m] w (.tuple #[ai (nt (nv l-nv m)),aj true]):=by
 have hc0:0<=dH (nv l) (nv m):=by unfold dH;rw[if_neg zo];split<;>omega
 have Hh:=az h;clear h;go_enter Tryz.func144,Tryz.ntmps144;go_wp2_with fail;refine(ov l _ zo).mono ?_;rintro e w1 ⟨rfl,bX,hb1,fX⟩;obtain⟨eW,cm⟩:=aU bX hb1;clear bX hb1;go_wp2_with fail;refine(ov m _ zo).mono ?_;rintro e w2 ⟨rfl,eF,hb2,oZ⟩;obtain⟨fK,cQ⟩:=aU eF hb2;clear eF hb2;go_wp2_with fail;refine(Ch w.heap.size 0 (ln (nv l)) ((l.length+7)/8) (nv l) w1.heap.size 0 (ln (nv m)) ((m.length+7)/8) (nv m) _ zo fX ((eW.out.below cQ.out).lim _ fX) (fg _) zo oZ (fK.out.lim _ oZ) (fg _)).mono ?_;rintro e w3 ⟨rfl,hb3⟩;have eo:=az hb3;clear hb3;go_wp2_with fail;refine(JM w.heap.size ((l.length+7)/8) 0 (ln (nv l)) ((l.length+7)/8) (dg (nv l)) (nv l) w1.heap.size 0 (ln (nv m)) ((m.length+7)/8) (nv m) _ zo zo ((eW.out.below cQ.out).below eo.out) zo (λj _=>by rw[Nat.zero_add]) ((fK.out.below eo.out).lim _ oZ) (fg _) (by have:=eW.out.lt;omega) Hh.out (fg _)).mono ?_;rintro e w4 ⟨rfl,hB4,hg4⟩;have HL:Hid (eD w4 w.heap.size 0 (ln (nv l)) (nv l-nv m)):=λj hj=>by rw[hB4.cell,gT _ _ _ zo,JU _ _ _ _ _ hj]
 have Hg4:=az hg4;clear hB4 hg4;go_wp2_with fail;refine(Ad w.heap.size 0 (ln (nv l)) ((l.length+7)/8) (nv l-nv m) _ zo fX HL.out (Nat.lt_of_le_of_lt (Nat.sub_le _ _) (fg _))).mono ?_;rintro e w5 ⟨rfl,dK⟩;have eP:=az dK;clear dK;go_wp2;go_ret2
 refine⟨rfl,?_⟩;have s1:=cm.out.size;have s2:=cQ.out.size;have s3:=eo.out.size;have b3:=((cm.out.trans (cQ.out.mono s1)).trans (eo.out.mono (Nat.le_trans s1 s2)));have b4:=b3.grown Hg4.out b3.size (λk hk=>by cases hk;exact Nat.le_refl _);exact b4.trans (eP.out.mono b4.size)
def atF (l:List UInt8)(n:Nat)(w:World)(hl:l.length<=68719476736)(hn:n<=549755813888):
 Cv 138 #[ai l,ah (n:Int)] w (ai (nt (nv l*2^n))):=by
 have hmax:max (n:Int) 0=(n:Int):=by omega
 go_enter Tryz.func138,Tryz.ntmps138;go_wp2_with fail;refine(ov l _ zo).mono ?_;rintro e w1 ⟨rfl,bX,hb1,fX⟩;obtain⟨eW,cm⟩:=aU bX hb1;clear bX hb1;go_wp2_with fail;refine(Xy w.heap.size 0 (ln (nv l)) ((l.length+7)/8) (nv l) n _ zo hn (eW.out.lim _ fX) (fg _)).mono ?_;rintro e w2 ⟨rfl,eF,hb2,oZ⟩;obtain⟨fK,cQ⟩:=aU eF hb2;clear eF hb2;go_wp2_with fail;refine(Ad w1.heap.size 0 (ln (nv l*2^n)) (ln (nv l)+n/64+1) (nv l*2^n) _ zo oZ (fK.out.lim _ oZ) (fg _)).mono ?_;rintro e w3 ⟨rfl,hb3⟩;have eo:=az hb3;clear hb3;go_wp2;go_ret;exact⟨rfl,(cm.out.trans (cQ.out.mono cm.out.size)).trans (eo.out.mono (Nat.le_trans cm.out.size cQ.out.size))⟩
def atG (l:List UInt8)(n:Nat)(w:World)(hl:l.length<=68719476736)(hn:n<=1099511627776):
 Cv 139 #[ai l,ah (n:Int)] w (ai (nt (nv l/2^n))):=by
 have hmax:max (n:Int) 0=(n:Int):=by omega
 by_cases hlt:n/64<ln (nv l)
 . go_enter Tryz.func139,Tryz.ntmps139;go_wp2_with fail;refine(ov l _ zo).mono ?_;rintro e w1 ⟨rfl,bX,hb1,fX⟩;obtain⟨eW,cm⟩:=aU bX hb1;clear bX hb1;go_wp2_with fail;refine(abg w.heap.size 0 (ln (nv l)) ((l.length+7)/8) (nv l) n _ zo fX hn (eW.out.lim _ fX) (fg _) hlt).mono ?_;rintro e w2 ⟨rfl,eF,hb2,oZ⟩;obtain⟨fK,cQ⟩:=aU eF hb2;clear eF hb2;go_wp2_with fail;refine(Ad w1.heap.size 0 (ln (nv l/2^n)) (ln (nv l)-n/64) (nv l/2^n) _ zo oZ (fK.out.lim _ oZ) (fg _)).mono ?_;rintro e w3 ⟨rfl,hb3⟩;have eo:=az hb3;clear hb3;go_wp2;go_ret;exact⟨rfl,(cm.out.trans (cQ.out.mono cm.out.size)).trans (eo.out.mono (Nat.le_trans cm.out.size cQ.out.size))⟩
 . have H0:Hid (nt (nv l/2^n)=[]):=by
    show nt (nv l/2^n)=[]
    rw[VY];refine Nat.div_eq_of_lt (Nat.lt_of_lt_of_le (fg _) ?_);rw[mU];exact Nat.pow_le_pow_right zd zo
   go_enter Tryz.func139,Tryz.ntmps139;go_wp2_with fail;refine(ov l _ zo).mono ?_;rintro e w1 ⟨rfl,bX,hb1,fX⟩;obtain⟨eW,cm⟩:=aU bX hb1;clear bX hb1;go_wp2_with fail;refine(abh _ (ln (nv l)) ((l.length+7)/8) n _ zo hn zo).mono ?_;rintro e w2 ⟨rfl,rfl⟩;go_wp2_with fail;refine(ahx none 0 _).mono ?_;rintro e w3 ⟨rfl,hb3⟩;have eo:=az hb3;clear hb3;go_wp2;go_ret;rw[H0.out];exact⟨rfl,cm.out.trans (eo.out.mono cm.out.size)⟩
def atq (v u k:Nat)(o:Nat):v%WW^k*u+dg v k*u*WW^k=v%WW^(k+1) *u/\o=o:=by refine⟨?_,rfl⟩;rw[Cj,Nat.add_mul,Nat.mul_comm (WW^k),Nat.mul_assoc,Nat.mul_assoc,Nat.mul_comm u]
def atE (l m:List UInt8)(w:World)(hl:l.length<=68719476736)(hm:m.length<=68719476736):
 Cv 146 #[ai l,ai m] w (ai (nt (nv l*nv m))):=by
 go_enter Tryz.func146,Tryz.ntmps146;go_wp2_with fail;refine(ov l _ zo).mono ?_;rintro e w1 ⟨rfl,bX,hb1,fX⟩;obtain⟨eW,cm⟩:=aU bX hb1;clear bX hb1;go_wp2_with fail;refine(ov m _ zo).mono ?_;rintro e w2 ⟨rfl,eF,hb2,oZ⟩;obtain⟨fK,cQ⟩:=aU eF hb2;clear eF hb2;have Ls:Hid (nv l<WW^ln (nv l)):=fg _;have Zr:Hid (nv m<WW^ln (nv m)):=fg _;generalize hv:nv l=v at*;generalize hu:nv m=u at*;obtain⟨HV,HU⟩:=aU hv hu;clear hv hu;have hmk:=Ci ((ln v:Int)+(ln u:Int)+1) (ln v+ln u+1) zo zo;generalize hM:ln v+ln u+1=M at*;have GZ:ln v+ln u+1<=M:=by omega
 have qD:M<=ln v+ln u+1:=by omega
 have HM:=az hM;clear hM;have aAr:w.heap.size<w2.heap.size:=by have:=eW.out.lt;have:=cQ.out.size;omega
 have aAs:w1.heap.size<w2.heap.size:=fK.out.lt;go_wp2;go_loopw[8,9,23] (λ_ _ i wr=>∃k:Nat,k<=ln v/\i=ah k/\aH wr w2.heap.size 152 (bV M (dg (v%WW^k*u)))/\Bw w2 wr) (λ_ _ i _=>ln v-(intOf i).toNat);case atStart=>
  refine⟨0,Nat.zero_le _,rfl,?_,zl⟩;have e:bV M (dg (v%WW^0*u))=bV M λ_=>0:=lA λj _=>by simp[dg,Nat.mod_one]
  rw[e];exact aH.new _ _ _
 case round=>
  obtain⟨k,hk,rfl,hB,hb⟩:=hrel;by_cases hlt:k<ln v
  . have hcell:wr.cell? ⟨w.heap.size,k,none⟩=some (.int .u64 (dg v k:Int)):=by have:=(((eW.out.below cQ.out).below hb).lim _ fX) k hlt;rwa [Nat.zero_add]at this
    have hcap:¬M=k:=by omega
    have HY:Hid (eD wr w1.heap.size 0 (ln u) u):=(fK.out.below hb).lim _ oZ;obtain⟨HB,Hb⟩:=aU hB hb;clear hB hb;go_wp2_with fail;refine(Oj w2.heap.size M k (M-k) (M-k) (dg (v%WW^k*u)) (v%WW^k*u/WW^k) w1.heap.size 0 (ln u) ((m.length+7)/8) u (dg v k) _ zo zo HB.out zo (λj _=>(Mo _ _ _).symm) HY.out Zr.out zo (kx _ _)).mono ?_;rintro e w4 ⟨rfl,hB4,hg4⟩;have fp:Hid (aH w4 w2.heap.size 152 (bV M (dg (v%WW^(k+1) *u)))):=by
     show aH w4 w2.heap.size 152 (bV M (dg (v%WW^(k+1) *u)))
     rw[lA (g:=gM (dg (v%WW^k*u)) k (M-k) (dg (v%WW^k*u/WW^k+u*dg v k))) λj hj=>?_]
     . exact hB4
     . have hval:=(atq v u k 0).1;unfold gM;by_cases hjk:k<=j
       . rw[if_pos zo];have e1:v%WW^k*u/WW^k+u*dg v k=v%WW^(k+1) *u/WW^k:=by rw[<-hval,Nat.mul_comm _ (WW^k),Nat.add_mul_div_left _ _ (eJ k),Nat.mul_comm u]
         rw[e1,Mo,show k+(j-k)=j by omega]
       . rw[if_neg zo,<-abe (n:=k) (show j<k by omega),<-hval,Nat.add_mul_mod_self_right,abe (show j<k by omega)]
    have lG:Hid (Bw w2 w4):=Hb.out.grown hg4 Hb.out.size (λj hj=>by cases hj;exact Nat.le_refl _);clear hB4 hg4;go_wp2;go_roundw;case rel=>exact⟨k+1,by omega,by go_num,fp.out,lG.out⟩
    case measure=>exact bH
  . obtain rfl:k=ln v:=by omega
    rw[Nat.mod_eq_of_lt Ls.out]at hB;obtain⟨HB,Hb⟩:=aU hB hb;clear hB hb;have Hvu:Hid (v*u<WW^M):=by
     show v*u<WW^M
     refine Nat.lt_of_lt_of_le (Nat.mul_lt_mul'' Ls.out Zr.out) ?_;rw[<-Nat.pow_add];exact Nat.pow_le_pow_right ku zo
    go_wp2_with fail;refine(Ad w2.heap.size 0 M M (v*u) _ zo (Nat.le_refl _) (HB.out.lim _ (Nat.le_refl _)) Hvu.out).mono ?_;rintro e w5 ⟨rfl,dK⟩;have eP:=az dK;clear dK;go_wp2;go_ret;rw[HV.out,HU.out];have b3:=(cm.out.trans (cQ.out.mono cm.out.size)).trans (Hb.out.mono (Nat.le_trans cm.out.size cQ.out.size));exact⟨rfl,b3.trans (eP.out.mono b3.size)⟩
def ij (xs:List (List UInt8)):Nat:=(xs.map nv).sum
def atM (xs:List (List UInt8))(B:Nat)(h:∀l∈xs,l.length<=B):ij xs<=xs.length*256^B:=by
 unfold ij;induction xs with
 |nil=>simp
 |cons l xs ih=>have h1:=gw l;have h2:256^l.length<=256^B:=Nat.pow_le_pow_right zd (h l zm);have h3:=ih (λm hm=>h m (by simp[hm]));simp only[List.map_cons,List.sum_cons,List.length_cons];rw[Nat.add_mul,Nat.one_mul];omega
def asP (xs:List (List UInt8))(B N:Nat)(h:∀l∈xs,l.length<=B)(hx:xs.length<=1048576)(hN:8*B+20<64*N):ln (ij xs)<=N:=by refine jL (Nat.lt_of_le_of_lt (atM xs _ h) ?_);refine Nat.lt_of_le_of_lt (Nat.mul_le_mul_right _ hx) ?_;rw[mU,show(256:Nat)=2^8 from rfl,<-Nat.pow_mul,show(1048576:Nat)=2^20 from rfl,<-Nat.pow_add];exact Nat.pow_lt_pow_right zd zo
def asO (xs:List (List UInt8))(h:∀l∈xs,l.length<=68719476736)(hx:xs.length<=1048576):ln (ij xs)<=8589934593:=
 asP xs 68719476736 8589934593 h hx zd
def af8 (xs:List (List UInt8))(k:Nat)(hk:k<xs.length):ij (xs.take (k+1))=ij (xs.take k)+nv xs[k]:=by unfold ij;rw[List.take_succ_eq_append_getElem hk,List.map_append,List.sum_append];simp
def aty (xs:List (List UInt8))(a:Option Addr)(cap:Nat)(w:World)(hl:∀l∈xs,l.length<=68719476736)(hx:xs.length<=1048576)
 (ha:At w a (xs.map λl=>ai l)):
 Cv 142 #[.slice a xs.length cap] w (ai (nt (ij xs))):=by
 have Hl:=az hl;clear hl;have Ha:=az ha;clear ha;have hs0:∀k,ln (ij (xs.take k))<=8589934593:=λk=>asO _ (λl hm=>Hl.out l (List.mem_of_mem_take hm)) (by rw[List.length_take];omega);have ZM:=az hs0;clear hs0;go_enter Tryz.func142,Tryz.ntmps142;go_wp2
 go_loopw[3,5,6,9] (λs _ _ i wr=>∃(k:Nat) (a1:Option Addr) (c1:Nat),k<=xs.length/\i=ah k/\s=.slice a1 (ln (ij (xs.take k))) c1/\ln (ij (xs.take k))<=c1/\
  De wr a1 (ln (ij (xs.take k))) (ij (xs.take k))/\Bw w wr) (λ_ _ _ i _=>xs.length-(intOf i).toNat)
 case atStart=>exact⟨0,none,0,Nat.zero_le _,rfl,rfl,by simp[ij,VH],λh=>by simp[ij,VH]at h,Below.refl _ _⟩
 case round=>
  obtain⟨k,a1,c1,hk,rfl,rfl,hc1,hL,hb⟩:=hrel;have hlen:=ZM.out k;by_cases hlt:k<xs.length
  . have hne:(xs.map λl=>Value.string (bs l))≠[]:=by intro h0;have:=congrArg List.length h0;simp at this;subst this;simp at hlt
    obtain⟨b,o,hab,hcs⟩:=(Ha.out.below hb).get hne;have hcell:wr.cell? ⟨b,o+k,none⟩=some (.string (bs xs[k])):=by rw[hcs k (by simpa using hlt)];simp[hlt]
    have bC:=uu xs.length cap k (k:Int) hab hlt rfl;clear hcs hne;have mI:Hid (xs[k].length<=68719476736):=Hl.out _ (List.getElem_mem hlt);obtain⟨cu,kJ⟩:=aU (af8 xs k hlt) hab;clear hab;have hlen':=ZM.out (k+1);rw[cu.out]at hlen';have ay2:=az hlen';clear hlen';generalize xs[k]=x at*;generalize hS:ij (xs.take k)=S at*;have HS:=az hS;clear hS;obtain⟨HL,Hb⟩:=aU hL hb;clear hL hb;go_wp2_with fail;refine(ov x _ (by have:=mI.out;omega)).mono ?_;rintro e w1 ⟨rfl,bX,hb1,fX⟩;obtain⟨eW,cm⟩:=aU bX hb1;clear bX hb1;have hx1:ln (nv x)<=8589934593:=by have:=mI.out;omega
    have akt:=az fX;clear fX;have Zt:Hid (nv x<WW^ln (nv x)):=fg _;have FH:Hid (S<WW^ln S):=fg _;generalize hX:nv x=X at*;have HX:=az hX;clear hX;have hmax:max (ln S:Int) (ln X:Int)=((max (ln S) (ln X):Nat):Int):=by omega
    have DF:max (ln S) (ln X)<=8589934593:=by omega
    generalize yL:max (ln S) (ln X)=M at*;have GZ:ln S<=M:=by omega
    have qD:ln X<=M:=by omega
    have HMM:=az yL;clear yL;go_wp2_with fail;refine(Si a1 (ln S) c1 S ((M:Int)+1) _ zo zo zo (HL.out.below cm.out) FH.out).mono ?_;rintro e w2 ⟨rfl,eF,hb2⟩;rw[show max ((M:Int)+1).toNat (ln S)=M+1 by omega]at eF⊢;obtain⟨fK,cQ⟩:=aU eF hb2;clear eF hb2;go_wp2_with fail;refine(asu w1.heap.size (M+1) 0 (M+1) (M+1) (dg S) S wr.heap.size 0 (ln X) ((x.length+7)/8) X _ zo zo fK.out zo (λj _=>by rw[Nat.zero_add]) ((eW.out.below cQ.out).lim _ akt.out) Zt.out (by have:=eW.out.lt;omega)).mono ?_;rintro e w3 ⟨rfl,ma,hg3⟩;have EW:Hid (eD w3 w1.heap.size 0 (M+1) (S+X)):=λj hj=>by rw[ma.cell,gT _ _ _ zo,JU _ _ _ _ _ hj]
    have YS:=az hg3;clear ma hg3;have Qw:Hid (S+X<WW^(M+1)):=by
     show S+X<WW^(M+1)
     have a1:=Nat.lt_of_lt_of_le FH.out (Nat.pow_le_pow_right ku GZ);have a2:=Nat.lt_of_lt_of_le Zt.out (Nat.pow_le_pow_right ku qD);have a3:2*WW^M<=WW^(M+1):=by rw[Nat.pow_succ,Nat.mul_comm];exact Nat.mul_le_mul_left _ zd
     omega
    go_wp2_with fail;refine(mX w1.heap.size 0 (M+1) (M+1) (S+X) _ zo (Nat.le_refl _) EW.out Qw.out).mono ?_;rintro e w4 ⟨rfl,rfl⟩;have eo:Hid (Bw w w3):=by have s1:=cm.out.size;have s2:=cQ.out.size;have s0:=Hb.out.size;have b2:=(Hb.out.trans (cm.out.mono s0)).trans (cQ.out.mono (Nat.le_trans s0 s1));exact b2.grown YS.out b2.size (λj hj=>by cases hj;omega)
    go_wp2;go_roundw;case rel=>
     refine⟨k+1,some ⟨w1.heap.size,0,none⟩,M+1,by omega,by go_num,?_,?_,?_,eo.out⟩
     . rw[cu.out]
     . rw[cu.out];exact jL Qw.out
     . rw[cu.out];exact λ_=>⟨_,_,rfl,EW.out.less (jL Qw.out)⟩
    case measure=>exact bH
  . obtain rfl:k=xs.length:=by omega
    rw[List.take_length]at*;obtain⟨HL,Hb⟩:=aU hL hb;clear hL hb;go_wp2_with fail;refine(ahw a1 (ln (ij xs)) c1 (ij xs) _ zo hc1 HL.out (fg _)).mono ?_;rintro e w5 ⟨rfl,dK⟩;have eP:=az dK;clear dK;go_wp2;go_ret;exact⟨rfl,Hb.out.trans (eP.out.mono Hb.out.size)⟩
def ao3 (h lo y:Nat)(w:World)(hy1:9223372036854775808<=y)(hy:y<WW)(hh:h<y)(hl:lo<WW)(h0:0<h):
 Cl 207 #[.int .u64 (h:Int),.int .u64 (lo:Int),.int .u64 (y:Int)] w λe w'=>∃r,e=.returned (.tuple #[.int .u64 (((h*WW+lo)/y:Nat):Int),.int .u64 r])/\Bw w w':=by
 have hb:bT y=64:=by have h1:bT y<=64:=gX (by rw[mS]at hy;exact hy);have h2:=Mc (v:=y) (k:=63) (by have:(2:Nat)^63=9223372036854775808:=(by rfl);omega);omega
 have IX:∀W,Cl 191 #[.int .u64 (y:Int)] W λe w'=>e=.returned (ah 0)/\W=w':=λW=>by have:=VK y W hy;rw[hb]at this;exact this
 rw[kq]at*;obtain⟨n1,iB⟩:=aI (y/4294967296);obtain⟨n0,hn0⟩:=aI (y%4294967296);obtain⟨u1,hu1⟩:=aI (lo/4294967296);obtain⟨u0,hu0⟩:=aI (lo%4294967296);have hlo:u1*4294967296+u0=lo:=by rw[<-hu1,<-hu0,Nat.mul_comm];exact Nat.div_add_mod _ _
 have rI:n1*4294967296+n0=y:=by rw[<-iB,<-hn0,Nat.mul_comm];exact Nat.div_add_mod _ _
 have e1:(y:Int)/4294967296=(n1:Int):=by omega
 have e3:(lo:Int)/4294967296=(u1:Int):=by omega
 have e5:((h:Int)==0)=false:=by simp;omega
 have e6:((y:Int)==0)=false:=by simp;omega
 have e7:(lo:Int)/18446744073709551616=0:=by omega
 have ea:=MulX.maskN y hy;have eb:=MulX.maskN lo hl;rw[hn0]at ea;rw[hu0]at eb;have ec:bits BinOp.or IntKind.u64 (h:Int) 0=(h:Int):=by have:=bits_or_u64_nat h 0 zo zd;simpa using this
 obtain⟨s1,s2,s3,s4⟩:=abj h n1 n0 u1 zo zo zo zo zo;obtain⟨q,hq⟩:=aI (h/n1);obtain⟨r,hr⟩:=aI (h%n1);obtain⟨P,hP⟩:=aI (q*n1);rw[hq,hr]at s3;rw[hq]at s1 s2;rw[hr]at s4;have f1:(h:Int).tdiv (n1:Int)=(q:Int):=by rw[<-hq];rfl
 have f2:IntKind.u64.wrap (q:Int)=(q:Int):=by rw[IntKind.wrap_u64];omega
 have f3:IntKind.u64.wrap ((q:Int) * (n1:Int))=(P:Int):=by rw[<-Int.natCast_mul,hP,IntKind.wrap_u64];rw[hP]at s3;omega
 have f4:IntKind.u64.wrap ((h:Int)-(P:Int))=(r:Int):=by rw[IntKind.wrap_u64];rw[hP]at s3;omega
 have aAo:(n1:Int)≠0:=by omega
 have aeb:((n1:Int)==0)=false:=by simp;omega
 rw[rI]at s1;obtain⟨DD,hD⟩:=aI ((h*4294967296+u1)/y);obtain⟨v,hv⟩:=aI ((h*4294967296+u1)%y);obtain⟨E,hE⟩:=aI ((v*4294967296+u0)/y);obtain⟨H1,hH1⟩:=aI (h*4294967296%18446744073709551616);obtain⟨H2,hH2⟩:=aI ((h*4294967296+u1)%18446744073709551616);obtain⟨Z,hZ⟩:=aI (DD*y%18446744073709551616);have hy0:0<y:=by omega
 have hvy:v<y:=by rw[<-hv];exact Nat.mod_lt _ hy0
 have hdm:=Nat.div_add_mod (h*4294967296+u1) y;rw[hD,hv,Nat.mul_comm]at hdm;have hDT:DD<4294967296:=by rw[<-hD];refine Nat.div_lt_of_lt_mul ?_;omega
 have hET:E<4294967296:=by rw[<-hE];refine Nat.div_lt_of_lt_mul ?_;omega
 have m1:IntKind.u64.wrap ((h:Int) *4294967296)=(H1:Int):=by rw[IntKind.wrap_u64];omega
 have m2:IntKind.u64.wrap ((H1:Int)+(u1:Int))=(H2:Int):=by rw[IntKind.wrap_u64];omega
 have m3:IntKind.u64.wrap ((DD:Int) * (y:Int))=(Z:Int):=by rw[<-Int.natCast_mul,IntKind.wrap_u64];omega
 have m4:IntKind.u64.wrap ((H2:Int)-(Z:Int))=(v:Int):=by rw[IntKind.wrap_u64];generalize DD*y=X at*;omega
 have zP:IntKind.u64.wrap ((DD:Int) *4294967296)=(DD:Int) *4294967296:=by rw[IntKind.wrap_u64];omega
 have zQ:IntKind.u64.wrap ((DD:Int) *4294967296+(E:Int))=(DD:Int) *4294967296+(E:Int):=by rw[IntKind.wrap_u64];omega
 obtain⟨t1,t2,t3,t4⟩:=abj v n1 n0 u0 zo zo zo zo zo;obtain⟨q2,hq2⟩:=aI (v/n1);obtain⟨r2,hr2⟩:=aI (v%n1);obtain⟨P2,tV⟩:=aI (q2*n1);rw[hq2,hr2]at t3;rw[hq2]at t1 t2;rw[hr2]at t4;have f1':(v:Int).tdiv (n1:Int)=(q2:Int):=by rw[<-hq2];rfl
 have f2':IntKind.u64.wrap (q2:Int)=(q2:Int):=by rw[IntKind.wrap_u64];omega
 have f3':IntKind.u64.wrap ((q2:Int) * (n1:Int))=(P2:Int):=by rw[<-Int.natCast_mul,tV,IntKind.wrap_u64];rw[tV]at t3;omega
 have f4':IntKind.u64.wrap ((v:Int)-(P2:Int))=(r2:Int):=by rw[IntKind.wrap_u64];rw[tV]at t3;omega
 rw[rI]at t1;have hfin:=ao6 h u1 u0 y DD hy0 hD;rw[hv,hE,hlo]at hfin;have adG:((h:Int) *18446744073709551616+(lo:Int))/(y:Int)=(DD:Int) *4294967296+(E:Int):=by
  have:((h:Int) *18446744073709551616+(lo:Int))/(y:Int)=(((h*18446744073709551616+lo)/y:Nat):Int):=by rw[Int.natCast_ediv,Int.natCast_add,Int.natCast_mul];rfl
  rw[this,hfin,Int.natCast_add,Int.natCast_mul];rfl
 have wu:=az adG;clear adG;obtain⟨H3,x3⟩:=aI (IntKind.u64.wrap ((v:Int) *4294967296));obtain⟨H4,x4⟩:=aI (IntKind.u64.wrap (H3+(u0:Int)));obtain⟨H5,x5⟩:=aI (IntKind.u64.wrap ((E:Int) * (y:Int)));obtain⟨X,x6⟩:=aI (IntKind.u64.wrap (H4-H5));obtain⟨X3,X4,X5,X6⟩:=dP x3 x4 x5 x6;clear x3 x4 x5 x6;obtain⟨T1,T2,T3,T4,M1,M2,M3,M4,N1,N2,F1,F2⟩:=fu t1 t2 t3 t4 m1 m2 m3 m4 zP zQ f1' f2';obtain⟨F3,F4,wn,HD,HE,Rl,yf,HDT,HET,bi,S1,S2⟩:=fu f3' f4' hfin hD hE hvy hh hDT hET IX s1 s2;obtain⟨S3,S4,HN1,HN0,HU1,HU0,Hy,gg⟩:=om s3 s4 iB hn0 hu1 hu0 hy rI;have hb1:n1<4294967296:=by omega
 have hb2:n0<4294967296:=by omega
 have hb3:u1<4294967296:=by omega
 have hb4:u0<4294967296:=by omega
 have dK:0<n1:=by omega
 obtain⟨B1,B2,B3,B4,B5⟩:=fH hb1 hb2 hb3 hb4 dK;clear IX s1 s2 s3 s4 iB hn0 hu1 hu0 rI hq hr hP t1 t2 t3 t4 m1 m2 m3 m4 zP zQ f1' f2' f3' f4' hfin hD hE hvy hDT hET hdm hy0 hv hH1 hH2 hZ hq2 hr2 tV hb1 hb2 hb3 hb4 dK;go_enter Tryz.func207,Tryz.ntmps207;go_wp2_with (go_at_call 191;refine(bi.out _).mono ?_;rintro e w' ⟨rfl,rfl⟩);clear f1 f2 f3 f4 e5 e6 e7 ea eb ec e1 e3;go_loop [15,16] (λqv rv=>∃q r:Nat,qv=.int .u64 (q:Int)/\rv=.int .u64 (r:Int)/\q*n1+r=h/\r<4294967296/\(h*4294967296+u1)/y<=q/\q<=4294967297) (λqv _=>(intOf qv).toNat)
 case atStart=>exact⟨q,r,rfl,rfl,S3.out,S4.out,S1.out,S2.out⟩
 case round=>
  clear S1 S2 S3 S4;obtain⟨q,r,rfl,rfl,j1,j2,j3,j4⟩:=hrel;obtain⟨Q,hQ⟩:=aI (q*n0);have g1:IntKind.u64.wrap (4294967296* (r:Int))=4294967296* (r:Int):=by rw[IntKind.wrap_u64];omega
  have g2:IntKind.u64.wrap (4294967296* (r:Int)+(u1:Int))=4294967296* (r:Int)+(u1:Int):=by rw[IntKind.wrap_u64];have:=B3.out;omega
  have gh:q<4294967296->Q<18446744073709551616:=λh=>by rw[<-hQ];have h1:q*n0<=4294967295*4294967295:=Nat.mul_le_mul zo (by have:=B2.out;omega);omega
  by_cases hc:4294967296<=q\/4294967296*r+u1<Q
  . obtain⟨k1,k2,k3⟩:=Mr q r h n1 n0 u1 (by rw[gg.out];exact yf.out) B3.out j1 (by rw[gg.out];exact j3) (by rw[hQ];exact hc);rw[gg.out]at k3;obtain⟨k,hk⟩:=aI (q-1);rw[hk]at k2 k3;have g3:IntKind.u64.wrap ((q:Int)-1)=(k:Int):=by rw[IntKind.wrap_u64];omega
    have g4:IntKind.u64.wrap ((r:Int)+(n1:Int))=((r+n1:Nat):Int):=by rw[IntKind.wrap_u64];have:=B1.out;omega
    obtain⟨r',hr'⟩:=aI (r+n1);rw[hr']at k2 g4;by_cases hbr:4294967296<=r'
    . have NB:DD=k:=by rw[<-HD.out,<-gg.out];exact Mq k r' h n1 n0 u1 B5.out B2.out k2 (by rw[gg.out];exact k3) zo hbr
      subst NB;have Bz:(4294967296:Int)<=(r':Int):=by omega
      have m1:=M1.out;have m2:=M2.out;have m3:=M3.out;have m4:=M4.out;have f1:=F1.out;have f2:=F2.out;have f3:=F3.out;have f4:=F4.out;have aeb:((n1:Int)==0)=false:=by have:=B5.out;simp;omega
      obtain⟨J,K,HQ,KI,Hk,Hr'⟩:=fw (And.intro j1 (And.intro j2 (And.intro j3 j4))) (And.intro k1 (And.intro k2 k3)) hQ gh hk hr';clear j1 j2 j3 j4 k1 k2 k3 hQ gh hk hr';by_cases hT:4294967296<=q
      . have jC:(4294967296:Int)<=(q:Int):=by omega
        go_wp2;clear m1 m2 m3 m4 f1 f2 f3 f4 g1 g2 g3 g4;go_loop [18,16] (λqv rv=>∃q r:Nat,qv=.int .u64 (q:Int)/\rv=.int .u64 (r:Int)/\q*n1+r=v/\r<4294967296/\(v*4294967296+u0)/y<=q/\q<=4294967297) (λqv _=>(intOf qv).toNat)
        case atStart=>exact⟨q2,r2,rfl,rfl,T3.out,T4.out,T1.out,T2.out⟩
        case round=>
         clear T1 T2 T3 T4;obtain⟨q,r,rfl,rfl,j1,j2,j3,j4⟩:=hrel;obtain⟨Q,hQ⟩:=aI (q*n0);have g1:IntKind.u64.wrap (4294967296* (r:Int))=4294967296* (r:Int):=by rw[IntKind.wrap_u64];omega
         have g2:IntKind.u64.wrap (4294967296* (r:Int)+(u0:Int))=4294967296* (r:Int)+(u0:Int):=by rw[IntKind.wrap_u64];have:=B4.out;omega
         have gh:q<4294967296->Q<18446744073709551616:=λh=>by rw[<-hQ];have h1:q*n0<=4294967295*4294967295:=Nat.mul_le_mul zo (by have:=B2.out;omega);omega
         have zP:=N1.out;have zQ:=N2.out;have x3:=X3.out;have x4:=X4.out;have x5:=X5.out;have x6:=X6.out;by_cases hc:4294967296<=q\/4294967296*r+u0<Q
         . obtain⟨k1,k2,k3⟩:=Mr q r v n1 n0 u0 (by rw[gg.out];exact Rl.out) B4.out j1 (by rw[gg.out];exact j3) (by rw[hQ];exact hc);rw[gg.out]at k3;obtain⟨m,hm⟩:=aI (q-1);rw[hm]at k2 k3;have g3:IntKind.u64.wrap ((q:Int)-1)=(m:Int):=by rw[IntKind.wrap_u64];omega
           have g4:IntKind.u64.wrap ((r:Int)+(n1:Int))=((r+n1:Nat):Int):=by rw[IntKind.wrap_u64];have:=B1.out;omega
           obtain⟨r',hr'⟩:=aI (r+n1);rw[hr']at k2 g4;have hT0:q<4294967296->IntKind.u64.wrap ((q:Int) * (n0:Int))=(Q:Int):=λh=>by rw[<-Int.natCast_mul,hQ,IntKind.wrap_u64];have:=gh h;omega
           by_cases hbr:4294967296<=r'
           . have IM:E=m:=by rw[<-HE.out,<-gg.out];exact Mq m r' v n1 n0 u0 B5.out B2.out k2 (by rw[gg.out];exact k3) zo hbr
             subst IM;have Bz:(4294967296:Int)<=(r':Int):=by omega
             clear j1 j3 k2 k3 hQ gh hm hr';by_cases hT:4294967296<=q
             . have jC:(4294967296:Int)<=(q:Int):=by omega
               go_wp2;refine bodyPost_ret (v:=.tuple #[.int .u64 ((DD:Int) *4294967296+(E:Int)),.int .u64 X]) (by simp[results,Tryz.results207,go_sem]) rfl ⟨⟨_,by rw[wu.out]⟩,Below.refl _ _⟩
             . have hc2:4294967296* (r:Int)+(u0:Int)<(Q:Int):=by omega
               have jC:¬(4294967296:Int)<=(q:Int):=by omega
               have g0:=hT0 zo;go_wp2;refine bodyPost_ret (v:=.tuple #[.int .u64 ((DD:Int) *4294967296+(E:Int)),.int .u64 X]) (by simp[results,Tryz.results207,go_sem]) rfl ⟨⟨_,by rw[wu.out]⟩,Below.refl _ _⟩
           . have Bz:¬(4294967296:Int)<=(r':Int):=by omega
             have K:=az (And.intro k2 k3);clear j1 j3 k2 k3 hQ gh hr';by_cases hT:4294967296<=q
             . have jC:(4294967296:Int)<=(q:Int):=by omega
               go_wp2;exact⟨⟨m,r',rfl,rfl,K.out.1,by omega,K.out.2,by omega⟩,by simp[intOf];omega⟩
             . have hc2:4294967296* (r:Int)+(u0:Int)<(Q:Int):=by omega
               have jC:¬(4294967296:Int)<=(q:Int):=by omega
               have g0:=hT0 zo;go_wp2;exact⟨⟨m,r',rfl,rfl,K.out.1,by omega,K.out.2,by omega⟩,by simp[intOf];omega⟩
         . have Jk:E=q:=by rw[<-HE.out,<-gg.out];exact GD q r v n1 n0 u0 B5.out j1 (by rw[gg.out];exact j3) (by rw[hQ];omega)
           subst Jk;have jC:¬(4294967296:Int)<=(E:Int):=by omega
           have hc2:¬4294967296* (r:Int)+(u0:Int)<(Q:Int):=by omega
           have g0:IntKind.u64.wrap ((E:Int) * (n0:Int))=(Q:Int):=by rw[<-Int.natCast_mul,hQ,IntKind.wrap_u64];have:=gh zo;omega
           clear j1 j3 hQ gh;go_wp2;refine bodyPost_ret (v:=.tuple #[.int .u64 ((DD:Int) *4294967296+(E:Int)),.int .u64 X]) (by simp[results,Tryz.results207,go_sem]) rfl ⟨⟨_,by rw[wu.out]⟩,Below.refl _ _⟩
      . have hc2:4294967296* (r:Int)+(u1:Int)<(Q:Int):=by omega
        have jC:¬(4294967296:Int)<=(q:Int):=by omega
        have g0:IntKind.u64.wrap ((q:Int) * (n0:Int))=(Q:Int):=by rw[<-Int.natCast_mul,HQ.out,IntKind.wrap_u64];have:=KI.out zo;omega
        go_wp2;clear m1 m2 m3 m4 f1 f2 f3 f4 g0 g1 g2 g3 g4;go_loop [18,16] (λqv rv=>∃q r:Nat,qv=.int .u64 (q:Int)/\rv=.int .u64 (r:Int)/\q*n1+r=v/\r<4294967296/\(v*4294967296+u0)/y<=q/\q<=4294967297) (λqv _=>(intOf qv).toNat)
        case atStart=>exact⟨q2,r2,rfl,rfl,T3.out,T4.out,T1.out,T2.out⟩
        case round=>
         clear T1 T2 T3 T4;obtain⟨q,r,rfl,rfl,j1,j2,j3,j4⟩:=hrel;obtain⟨Q,hQ⟩:=aI (q*n0);have g1:IntKind.u64.wrap (4294967296* (r:Int))=4294967296* (r:Int):=by rw[IntKind.wrap_u64];omega
         have g2:IntKind.u64.wrap (4294967296* (r:Int)+(u0:Int))=4294967296* (r:Int)+(u0:Int):=by rw[IntKind.wrap_u64];have:=B4.out;omega
         have gh:q<4294967296->Q<18446744073709551616:=λh=>by rw[<-hQ];have h1:q*n0<=4294967295*4294967295:=Nat.mul_le_mul zo (by have:=B2.out;omega);omega
         have zP:=N1.out;have zQ:=N2.out;have x3:=X3.out;have x4:=X4.out;have x5:=X5.out;have x6:=X6.out;by_cases hc:4294967296<=q\/4294967296*r+u0<Q
         . obtain⟨k1,k2,k3⟩:=Mr q r v n1 n0 u0 (by rw[gg.out];exact Rl.out) B4.out j1 (by rw[gg.out];exact j3) (by rw[hQ];exact hc);rw[gg.out]at k3;obtain⟨m,hm⟩:=aI (q-1);rw[hm]at k2 k3;have g3:IntKind.u64.wrap ((q:Int)-1)=(m:Int):=by rw[IntKind.wrap_u64];omega
           have g4:IntKind.u64.wrap ((r:Int)+(n1:Int))=((r+n1:Nat):Int):=by rw[IntKind.wrap_u64];have:=B1.out;omega
           obtain⟨r',hr'⟩:=aI (r+n1);rw[hr']at k2 g4;have hT0:q<4294967296->IntKind.u64.wrap ((q:Int) * (n0:Int))=(Q:Int):=λh=>by rw[<-Int.natCast_mul,hQ,IntKind.wrap_u64];have:=gh h;omega
           by_cases hbr:4294967296<=r'
           . have IM:E=m:=by rw[<-HE.out,<-gg.out];exact Mq m r' v n1 n0 u0 B5.out B2.out k2 (by rw[gg.out];exact k3) zo hbr
             subst IM;have Bz:(4294967296:Int)<=(r':Int):=by omega
             clear j1 j3 k2 k3 hQ gh hm hr';by_cases hT:4294967296<=q
             . have jC:(4294967296:Int)<=(q:Int):=by omega
               go_wp2;refine bodyPost_ret (v:=.tuple #[.int .u64 ((DD:Int) *4294967296+(E:Int)),.int .u64 X]) (by simp[results,Tryz.results207,go_sem]) rfl ⟨⟨_,by rw[wu.out]⟩,Below.refl _ _⟩
             . have hc2:4294967296* (r:Int)+(u0:Int)<(Q:Int):=by omega
               have jC:¬(4294967296:Int)<=(q:Int):=by omega
               have g0:=hT0 zo;go_wp2;refine bodyPost_ret (v:=.tuple #[.int .u64 ((DD:Int) *4294967296+(E:Int)),.int .u64 X]) (by simp[results,Tryz.results207,go_sem]) rfl ⟨⟨_,by rw[wu.out]⟩,Below.refl _ _⟩
           . have Bz:¬(4294967296:Int)<=(r':Int):=by omega
             have K:=az (And.intro k2 k3);clear j1 j3 k2 k3 hQ gh hr';by_cases hT:4294967296<=q
             . have jC:(4294967296:Int)<=(q:Int):=by omega
               go_wp2;exact⟨⟨m,r',rfl,rfl,K.out.1,by omega,K.out.2,by omega⟩,by simp[intOf];omega⟩
             . have hc2:4294967296* (r:Int)+(u0:Int)<(Q:Int):=by omega
               have jC:¬(4294967296:Int)<=(q:Int):=by omega
               have g0:=hT0 zo;go_wp2;exact⟨⟨m,r',rfl,rfl,K.out.1,by omega,K.out.2,by omega⟩,by simp[intOf];omega⟩
         . have Jk:E=q:=by rw[<-HE.out,<-gg.out];exact GD q r v n1 n0 u0 B5.out j1 (by rw[gg.out];exact j3) (by rw[hQ];omega)
           subst Jk;have jC:¬(4294967296:Int)<=(E:Int):=by omega
           have hc2:¬4294967296* (r:Int)+(u0:Int)<(Q:Int):=by omega
           have g0:IntKind.u64.wrap ((E:Int) * (n0:Int))=(Q:Int):=by rw[<-Int.natCast_mul,hQ,IntKind.wrap_u64];have:=gh zo;omega
           clear j1 j3 hQ gh;go_wp2;refine bodyPost_ret (v:=.tuple #[.int .u64 ((DD:Int) *4294967296+(E:Int)),.int .u64 X]) (by simp[results,Tryz.results207,go_sem]) rfl ⟨⟨_,by rw[wu.out]⟩,Below.refl _ _⟩
    . have Bz:¬(4294967296:Int)<=(r':Int):=by omega
      obtain⟨K,HQ,KI⟩:=cE (And.intro k2 k3) hQ gh;clear j1 j3 k2 k3 hQ gh hr';by_cases hT:4294967296<=q
      . have jC:(4294967296:Int)<=(q:Int):=by omega
        go_wp2;exact⟨⟨k,r',rfl,rfl,K.out.1,by omega,K.out.2,by omega⟩,by simp[intOf];omega⟩
      . have hc2:4294967296* (r:Int)+(u1:Int)<(Q:Int):=by omega
        have jC:¬(4294967296:Int)<=(q:Int):=by omega
        have g0:IntKind.u64.wrap ((q:Int) * (n0:Int))=(Q:Int):=by rw[<-Int.natCast_mul,HQ.out,IntKind.wrap_u64];have:=KI.out zo;omega
        go_wp2;exact⟨⟨k,r',rfl,rfl,K.out.1,by omega,K.out.2,by omega⟩,by simp[intOf];omega⟩
  . have hqD:DD=q:=by rw[<-HD.out,<-gg.out];exact GD q r h n1 n0 u1 B5.out j1 (by rw[gg.out];exact j3) (by rw[hQ];omega)
    subst hqD;have jC:¬(4294967296:Int)<=(DD:Int):=by omega
    have hc2:¬4294967296* (r:Int)+(u1:Int)<(Q:Int):=by omega
    have g0:IntKind.u64.wrap ((DD:Int) * (n0:Int))=(Q:Int):=by rw[<-Int.natCast_mul,hQ,IntKind.wrap_u64];have:=gh zo;omega
    have m1:=M1.out;have m2:=M2.out;have m3:=M3.out;have m4:=M4.out;have f1:=F1.out;have f2:=F2.out;have f3:=F3.out;have f4:=F4.out;have aeb:((n1:Int)==0)=false:=by have:=B5.out;simp;omega
    obtain⟨J,HQ,KI⟩:=cE (And.intro j1 (And.intro j2 (And.intro j3 j4))) hQ gh;clear j1 j2 j3 j4 hQ gh;go_wp2;clear m1 m2 m3 m4 f1 f2 f3 f4 g0 g1 g2;go_loop [18,16] (λqv rv=>∃q r:Nat,qv=.int .u64 (q:Int)/\rv=.int .u64 (r:Int)/\q*n1+r=v/\r<4294967296/\(v*4294967296+u0)/y<=q/\q<=4294967297) (λqv _=>(intOf qv).toNat)
    case atStart=>exact⟨q2,r2,rfl,rfl,T3.out,T4.out,T1.out,T2.out⟩
    case round=>
     clear T1 T2 T3 T4;obtain⟨q,r,rfl,rfl,j1,j2,j3,j4⟩:=hrel;obtain⟨Q,hQ⟩:=aI (q*n0);have g1:IntKind.u64.wrap (4294967296* (r:Int))=4294967296* (r:Int):=by rw[IntKind.wrap_u64];omega
     have g2:IntKind.u64.wrap (4294967296* (r:Int)+(u0:Int))=4294967296* (r:Int)+(u0:Int):=by rw[IntKind.wrap_u64];have:=B4.out;omega
     have gh:q<4294967296->Q<18446744073709551616:=λh=>by rw[<-hQ];have h1:q*n0<=4294967295*4294967295:=Nat.mul_le_mul zo (by have:=B2.out;omega);omega
     have zP:=N1.out;have zQ:=N2.out;have x3:=X3.out;have x4:=X4.out;have x5:=X5.out;have x6:=X6.out;by_cases hc:4294967296<=q\/4294967296*r+u0<Q
     . obtain⟨k1,k2,k3⟩:=Mr q r v n1 n0 u0 (by rw[gg.out];exact Rl.out) B4.out j1 (by rw[gg.out];exact j3) (by rw[hQ];exact hc);rw[gg.out]at k3;obtain⟨m,hm⟩:=aI (q-1);rw[hm]at k2 k3;have g3:IntKind.u64.wrap ((q:Int)-1)=(m:Int):=by rw[IntKind.wrap_u64];omega
       have g4:IntKind.u64.wrap ((r:Int)+(n1:Int))=((r+n1:Nat):Int):=by rw[IntKind.wrap_u64];have:=B1.out;omega
       obtain⟨r',hr'⟩:=aI (r+n1);rw[hr']at k2 g4;have hT0:q<4294967296->IntKind.u64.wrap ((q:Int) * (n0:Int))=(Q:Int):=λh=>by rw[<-Int.natCast_mul,hQ,IntKind.wrap_u64];have:=gh h;omega
       by_cases hbr:4294967296<=r'
       . have IM:E=m:=by rw[<-HE.out,<-gg.out];exact Mq m r' v n1 n0 u0 B5.out B2.out k2 (by rw[gg.out];exact k3) zo hbr
         subst IM;have Bz:(4294967296:Int)<=(r':Int):=by omega
         clear j1 j3 k2 k3 hQ gh hm hr';by_cases hT:4294967296<=q
         . have jC:(4294967296:Int)<=(q:Int):=by omega
           go_wp2;refine bodyPost_ret (v:=.tuple #[.int .u64 ((DD:Int) *4294967296+(E:Int)),.int .u64 X]) (by simp[results,Tryz.results207,go_sem]) rfl ⟨⟨_,by rw[wu.out]⟩,Below.refl _ _⟩
         . have hc2:4294967296* (r:Int)+(u0:Int)<(Q:Int):=by omega
           have jC:¬(4294967296:Int)<=(q:Int):=by omega
           have g0:=hT0 zo;go_wp2;refine bodyPost_ret (v:=.tuple #[.int .u64 ((DD:Int) *4294967296+(E:Int)),.int .u64 X]) (by simp[results,Tryz.results207,go_sem]) rfl ⟨⟨_,by rw[wu.out]⟩,Below.refl _ _⟩
       . have Bz:¬(4294967296:Int)<=(r':Int):=by omega
         have K:=az (And.intro k2 k3);clear j1 j3 k2 k3 hQ gh hr';by_cases hT:4294967296<=q
         . have jC:(4294967296:Int)<=(q:Int):=by omega
           go_wp2;exact⟨⟨m,r',rfl,rfl,K.out.1,by omega,K.out.2,by omega⟩,by simp[intOf];omega⟩
         . have hc2:4294967296* (r:Int)+(u0:Int)<(Q:Int):=by omega
           have jC:¬(4294967296:Int)<=(q:Int):=by omega
           have g0:=hT0 zo;go_wp2;exact⟨⟨m,r',rfl,rfl,K.out.1,by omega,K.out.2,by omega⟩,by simp[intOf];omega⟩
     . have Jk:E=q:=by rw[<-HE.out,<-gg.out];exact GD q r v n1 n0 u0 B5.out j1 (by rw[gg.out];exact j3) (by rw[hQ];omega)
       subst Jk;have jC:¬(4294967296:Int)<=(E:Int):=by omega
       have hc2:¬4294967296* (r:Int)+(u0:Int)<(Q:Int):=by omega
       have g0:IntKind.u64.wrap ((E:Int) * (n0:Int))=(Q:Int):=by rw[<-Int.natCast_mul,hQ,IntKind.wrap_u64];have:=gh zo;omega
       clear j1 j3 hQ gh;go_wp2;refine bodyPost_ret (v:=.tuple #[.int .u64 ((DD:Int) *4294967296+(E:Int)),.int .u64 X]) (by simp[results,Tryz.results207,go_sem]) rfl ⟨⟨_,by rw[wu.out]⟩,Below.refl _ _⟩
def ao4 (lo y:Nat)(w:World)(hy:0<y)(hy2:y<WW)(hl:lo<WW):
 Cl 207 #[.int .u64 0,.int .u64 (lo:Int),.int .u64 (y:Int)] w λe w'=>∃r,e=.returned (.tuple #[.int .u64 ((lo/y:Nat):Int),.int .u64 r])/\Bw w w':=by
 rw[kq]at*;have e6:((y:Int)==0)=false:=by simp;omega
 have e7:¬(y:Int)<=0:=by omega
 have f1:(lo:Int).tdiv (y:Int)=((lo/y:Nat):Int):=rfl;obtain⟨q,hq⟩:=aI (lo/y);have hqb:q<=lo:=by rw[<-hq];exact Nat.div_le_self _ _
 rw[hq]at f1⊢;have f2:IntKind.u64.wrap (q:Int)=(q:Int):=by rw[IntKind.wrap_u64];omega
 clear hq;go_enter Tryz.func207,Tryz.ntmps207;go_wp2;go_region
 go_wp2;refine bodyPost_ret (v:=.tuple #[.int .u64 (q:Int),.int .u64 ((lo:Int)% (y:Int))]) (by simp[results,Tryz.results207,go_sem]) rfl ⟨_,rfl,(Below.refl _ _).drew⟩
end Go.Proofs.YtnjfebkelecgaaaGreatDoor
namespace Go.Proofs.YtnjfebkelecgaaaGreatDoor
def Xm :0<2:=by decide
def p2 (k:Nat):0<2^k:=Nat.pow_pos zd
def bd (v j:Nat):Nat:=v/2^j%2
def aaE (v j:Nat):bd v j<2:=Nat.mod_lt _ Xm
def anJ {v k:Nat}(h:v<2^(k+1))(h0:bd v k=0):v<2^k:=by
 unfold bd at h0;have h1:v/2^k<2:=by rw[Nat.div_lt_iff_lt_mul (p2 k)];rw[Nat.pow_succ]at h;rwa [Nat.mul_comm]at h
 rw[Nat.mod_eq_of_lt h1]at h0;rcases Nat.lt_or_ge v (2^k)with h2|h2
 . exact h2
 . have:=Nat.div_pos h2 (p2 k);omega
def anI {v k:Nat}(h0:bd v k≠0):2^k<=v:=by
 rcases Nat.lt_or_ge v (2^k)with h2|h2
 . exact absurd (by unfold bd;rw[Nat.div_eq_of_lt h2]) h0
 . exact h2
def anl {v k j:Nat}(h:v<2^k)(hj:k<=j):bd v j=0:=by unfold bd;rw[Nat.div_eq_of_lt (Nat.lt_of_lt_of_le h (Nat.pow_le_pow_right Xm hj))]
def Md (v i:Nat):v%2^(i+1)=v%2^i+2^i*bd v i:=by unfold bd;rw[Nat.pow_succ,Nat.mod_mul]
def bb (v u i:Nat):Nat:=if v%2^i<u%2^i then 1 else 0
def ani (v u:Nat):bb v u 0=0:=by simp[bb,Nat.mod_one]
def aaD (v u i:Nat):bb v u i<=1:=by unfold bb;split<;>omega
def anh (v u i:Nat):bb v u (i+1)=if bd v i<bd u i+bb v u i then 1 else 0:=by
 have h1:=Nat.mod_lt v (p2 i);have h2:=Nat.mod_lt u (p2 i);unfold bb;rw[Md v,Md u];generalize bd v i=a;generalize bd u i=b;generalize v%2^i=r at*;generalize u%2^i=s at*;generalize 2^i=M at*;have key:(r+M*a<s+M*b)↔(a<b+if r<s then 1 else 0):=by
  rcases Nat.lt_trichotomy a b with h|h|h
  . have:M* (a+1)<=M*b:=Nat.mul_le_mul_left _ h;rw[Nat.mul_add]at this;constructor
    . intro _;split<;>omega
    . intro _;omega
  . subst h;split<;>omega
  . have:M* (b+1)<=M*a:=Nat.mul_le_mul_left _ h;rw[Nat.mul_add]at this;constructor
    . intro _;omega
    . intro h';exfalso;revert h';split<;>omega
 simp only[key]
def ang (v u i:Nat)(hu:u<=v):(bd v i+2-bd u i-bb v u i)%2=bd (v-u) i:=by
 -- the digit of the difference
 have h1:=Nat.mod_lt v (p2 i);have h2:=Nat.mod_lt u (p2 i);have hM:=p2 i;have hb:=aaD v u i;have du:=aaE u i;have e1:v=v%2^i+2^i* (v/2^i):=(Nat.mod_add_div v _).symm;have e2:u=u%2^i+2^i* (u/2^i):=(Nat.mod_add_div u _).symm;have e3:(v-u)/2^i+bb v u i+u/2^i=v/2^i:=by
  unfold bb;generalize v%2^i=r at*;generalize u%2^i=s at*;generalize v/2^i=x at*;generalize u/2^i=y at*;generalize 2^i=M at*;have hxy:y<=x:=by
   rcases Nat.lt_or_ge x y with h|h
   . have:M* (x+1)<=M*y:=Nat.mul_le_mul_left _ h;rw[Nat.mul_add]at this;omega
   . exact h
  obtain⟨d,rfl⟩:∃d,x=y+d:=⟨x-y,by omega⟩;split
  . rename_i hrs
    have hd:1<=d:=by
     rcases Nat.eq_zero_or_pos d with h|h
     . subst h;simp at e1;omega
     . exact h
    obtain⟨d',rfl⟩:∃d',d=d'+1:=⟨d-1,by omega⟩;have:v-u=(M+r-s)+M*d':=by rw[Nat.mul_add,Nat.mul_add]at e1;omega
    rw[this,Nat.add_mul_div_left _ _ hM,Nat.div_eq_of_lt zo];omega
  . have:v-u=(r-s)+M*d:=by rw[Nat.mul_add]at e1;omega
    rw[this,Nat.add_mul_div_left _ _ hM,Nat.div_eq_of_lt zo];omega
 unfold bd at*;generalize (v-u)/2^i=q at*;rw[<-e3];generalize bb v u i=c at*;generalize u/2^i=y at*;have hW:=Xm
 -- (q + c + y) % W + W - y % W - c ≡ q
 have e4:((q+c+y)%2+2-y%2-c)%2=q%2:=by
  have a1:y=y%2+2* (y/2):=(Nat.mod_add_div y _).symm;have a2:(q+c+y)%2=(q+c+y%2)%2:=by rw[Nat.add_mod,Nat.add_mod (q+c) (y%2),Nat.mod_mod]
  rw[a2];generalize y%2=z at*;have a3:q=q%2+2* (q/2):=(Nat.mod_add_div q _).symm;have a4:(q+c+z)%2=(q%2+c+z)%2:=by conv=>lhs;rw[a3,show q%2+2* (q/2)+c+z=(q%2+c+z)+2* (q/2)by omega,Nat.add_mul_mod_self_left]
  rw[a4];have hq:=Nat.mod_lt q hW;generalize q%2=p at*;rcases Nat.lt_or_ge (p+c+z) 2 with h|h
  . rw[Nat.mod_eq_of_lt h,show p+c+z+2-z-c=p+2 by omega,Nat.add_mod_right,Nat.mod_eq_of_lt hq]
  . rcases Nat.lt_or_ge (p+c+z) (2*2)with h'|h'
    . have:(p+c+z)%2=p+c+z-2:=by rw[Nat.mod_eq_sub_mod h,Nat.mod_eq_of_lt zo]
      rw[this,show p+c+z-2+2-z-c=p by omega,Nat.mod_eq_of_lt hq]
    . exfalso;omega
 exact e4
def aaF {v u k:Nat}(h:v/2^(k+1)=u/2^(k+1))(hd:bd v k<bd u k):v<u:=by
 unfold bd at hd;have e1:=(Nat.mod_add_div (v/2^k) 2).symm;have e2:=(Nat.mod_add_div (u/2^k) 2).symm;rw[Nat.pow_succ,<-Nat.div_div_eq_div_mul,<-Nat.div_div_eq_div_mul]at h;have:v/2^k<u/2^k:=by rw[e1,e2,h];omega
 exact Nat.lt_of_div_lt_div this
def ank {v u k:Nat}(h:v/2^(k+1)=u/2^(k+1))(hd:bd v k=bd u k):v/2^k=u/2^k:=by unfold bd at hd;have e1:=(Nat.mod_add_div (v/2^k) 2).symm;have e2:=(Nat.mod_add_div (u/2^k) 2).symm;rw[Nat.pow_succ,<-Nat.div_div_eq_div_mul,<-Nat.div_div_eq_div_mul]at h;rw[e1,e2,h,hd]
def uX (v j:Nat):bd v j<=1:=by have:=aaE v j;omega
def ant {v k:Nat}(h:v<2^(k+1))(h':2^k<=v):bT v=k+1:=by have:=gX h;have:=Mc h';omega
def anv :bT 0=0:=rfl
def aaG {v u:Nat}(h:v<=u):bT v<=bT u:=gX (Nat.lt_of_le_of_lt h (sf u))
def anu (v c:Nat)(hc:c<=1):bT (2*v+c)<=bT v+1:=by refine gX ?_;have:=sf v;rw[Nat.pow_succ];omega
def Kb (q:Nat):256^q=2^(8*q):=by rw[show(256:Nat)=2^8 by rfl,<-Nat.pow_mul]
def anP (v k:Nat):v%2^(k+1)/256^(k/8)%256=v%2^k/256^(k/8)%256+bd v k*2^(k%8)/\v%2^k/256^(k/8)%256+bd v k*2^(k%8)<=255:=by
 have e:2^k=256^(k/8) *2^(k%8):=by rw[Kb,<-Nat.pow_add];congr 1;omega
 have hA:=Nat.mod_lt v (p2 k);have hb:=uX v k;rw[Md];generalize v%2^k=A at*;generalize bd v k=b at*;have hr:2^(k%8)<=128:=Nat.pow_le_pow_right (i:=k%8) (j:=7) zd zo;have hp:0<256^(k/8):=Nat.pow_pos zd;have hq:A/256^(k/8)<2^(k%8):=Nat.div_lt_of_lt_mul (by rw[<-e];exact hA);rw[e,Nat.mul_assoc,Nat.add_mul_div_left _ _ hp];generalize A/256^(k/8)=x at*;generalize 2^(k%8)=y at*;have Vq:y*b=b*y:=Nat.mul_comm _ _;have:b*y<=1*y:=Nat.mul_le_mul_right _ hb;rw[Vq,Nat.mod_eq_of_lt (show x<256 by omega),Nat.mod_eq_of_lt (show x+b*y<256 by omega)];omega
def anQ (v k q:Nat)(hq:q≠k/8):v%2^(k+1)/256^q%256=v%2^k/256^q%256:=by
 rcases Nat.lt_or_ge q (k/8)with h|h
 . rw[Md];have e:2^k=256^q* (256*2^(k-8* (q+1))):=by rw[show 256^q* (256*2^(k-8* (q+1)))=256^(q+1) *2^(k-8* (q+1))by rw[Nat.pow_succ,Nat.mul_assoc],Kb,<-Nat.pow_add];congr 1;omega
   have e2:2^k*bd v k=256^q* (256* (2^(k-8* (q+1)) *bd v k)):=by rw[e];simp only[Nat.mul_assoc]
   rw[e2,Nat.add_mul_div_left _ _ (Nat.pow_pos zd),Nat.add_mul_mod_self_left]
 . have h1:2^(k+1)<=256^q:=by rw[Kb];exact Nat.pow_le_pow_right zd zo
   have h2:2^k<=2^(k+1):=Nat.pow_le_pow_right zd zo;rw[Nat.div_eq_of_lt (Nat.lt_of_lt_of_le (Nat.mod_lt v (p2 (k+1))) h1),Nat.div_eq_of_lt (Nat.lt_of_lt_of_le (Nat.mod_lt v (p2 k)) (Nat.le_trans h2 h1))]
def atW (l:List UInt8)(j:Nat)(hj:j<l.length):nv l/256^j%256=l[l.length-1-j].toNat:=by
 have e:=Ov (l.take (l.length-j)) (l.drop (l.length-j));rw[List.take_append_drop,List.length_drop,show l.length-(l.length-j)=j by omega]at e;have h1:nv (l.drop (l.length-j))<256^j:=by have:=gw (l.drop (l.length-j));rwa [List.length_drop,show l.length-(l.length-j)=j by omega]at this
 have hp:0<256^j:=Nat.pow_pos zd;rw[e,Nat.add_comm,Nat.add_mul_div_right _ _ hp,Nat.div_eq_of_lt h1,Nat.zero_add];have e2:l.take (l.length-j)=l.take (l.length-1-j)++[l[l.length-1-j]]:=by have:=List.take_succ_eq_append_getElem (i:=l.length-1-j) (l:=l) zo;rw[show l.length-j=l.length-1-j+1 by omega];exact this
 rw[e2,Ov];have e3:nv [l[l.length-1-j]]=(l[l.length-1-j]).toNat:=by rw[vJ];simp[zV]
 rw[e3];have:=(l[l.length-1-j]).toNat_lt;simp only[List.length_singleton,Nat.pow_one];rw[Nat.mul_add_mod_of_lt]<;>omega
def atU (l:List UInt8)(j k:Nat)(hj:j<l.length)(hk:k<8):l[l.length-1-j].toNat/2^k%2=bd (nv l) (8*j+k):=by
 rw[<-atW l j hj];unfold bd;rw[Nat.pow_add,<-Nat.div_div_eq_div_mul,<-Kb];generalize nv l/256^j=x;have e:256=2^k*2^(8-k):=by rw[<-Nat.pow_add,show k+(8-k)=8 by omega]
 rw[e,Nat.mod_mul_right_div_self,Nat.mod_mod_of_dvd];exact⟨2^(7-k),by rw[show 8-k=7-k+1 by omega,Nat.pow_succ,Nat.mul_comm]⟩
def qQ (l:List UInt8):nv l<2^(8*l.length):=by rw[<-Kb];exact gw l
def asT (v u i:Nat)(hu:0<u):∃r c q,v/2^(i+1)%u=r/\bd v i=c/\v/2^(i+1)/u=q/\v/2^i%u=(if u<=2*r+c then 2*r+c-u else 2*r+c)/\v/2^i/u=2*q+(if u<=2*r+c then 1 else 0):=by
 refine⟨_,_,_,rfl,rfl,rfl,?_⟩;have e:v/2^i=2* (v/2^(i+1))+bd v i:=by unfold bd;rw[Nat.pow_succ,<-Nat.div_div_eq_div_mul];omega
 have hb:=uX v i;rw[e];generalize v/2^(i+1)=x;generalize bd v i=c at*;have h1:=Nat.mod_lt x hu;have h2:=Nat.mod_add_div x u;generalize hr:x%u=r at*;generalize hq:x/u=q at*;have e2:2*x+c=2*r+c+u* (2*q):=by rw[<-h2,show u* (2*q)=2* (u*q)by rw[Nat.mul_left_comm]];omega
 rw[e2,Nat.add_mul_mod_self_left,Nat.add_mul_div_left _ _ hu];by_cases h:u<=2*r+c
 . rw[if_pos h,if_pos h];have e3:2*r+c=(2*r+c-u)+u*1:=by omega
   rw[e3,Nat.add_mul_mod_self_left,Nat.add_mul_div_left _ _ hu,Nat.mod_eq_of_lt zo,Nat.div_eq_of_lt zo];omega
 . rw[if_neg h,if_neg h,Nat.mod_eq_of_lt zo,Nat.div_eq_of_lt zo];omega
def asS (v u i:Nat):bd (v/u) i=v/2^i/u%2:=by unfold bd;rw[Nat.div_div_eq_div_mul,Nat.div_div_eq_div_mul,Nat.mul_comm]
end Go.Proofs.YtnjfebkelecgaaaGreatDoor
