/- The limbs' functions,on. -/
import Derived.Test.YtnjfebkelecgaaaGreatDoorZ4
import Derived.Laws.CopyOwn
import Derived.Test.YtnjfebkelecgaaaGreatDoorZ1
set_option linter.all false
set_option maxRecDepth 100000
set_option maxHeartbeats 16000000
namespace Go.Proofs.YtnjfebkelecgaaaGreatDoor
open Go.RowKit
def ab2 (v k:Nat)(h:v<WW^(k+1))(h0:WW^k<=v):bT v=64*k+bT (dg v k)/\bT (dg v k)<=64/\0<bT (dg v k):=by
 have hd:dg v k=v/WW^k:=by unfold dg;rw[Nat.mod_eq_of_lt];rw[Nat.div_lt_iff_lt_mul (eY k)];rw[Nat.pow_succ,Nat.mul_comm]at h;exact h
 have hd0:0<dg v k:=by rw[hd];exact Nat.div_pos h0 (eY k)
 have hl:=kI v k;refine⟨?_,iG (by rw[mV]at hl;exact hl),GV hd0⟩;have a1:=sJ (dg v k);have e:dg v k=2^(bT (dg v k)-1)\/2^(bT (dg v k)-1)<=dg v k:=by right;unfold bT;rw[if_neg zo];simp;exact Nat.log2_self_le zo
 have a2:2^(bT (dg v k)-1)<=dg v k:=by rcases e with e|e<;>omega
 have hm:=Nat.mod_lt v (eY k);have hv:=(Nat.mod_add_div v (WW^k)).symm;rw[<-hd]at hv;generalize v%WW^k=r at hv hm;have b1:v<2^(64*k+bT (dg v k)):=by rw[Nat.pow_add,<-mW];have:WW^k* (dg v k+1)<=WW^k*2^bT (dg v k):=Nat.mul_le_mul_left _ a1;rw[Nat.mul_add]at this;omega
 have b2:2^(64*k+bT (dg v k)-1)<=v:=by have:=GV hd0;rw[show 64*k+bT (dg v k)-1=64*k+(bT (dg v k)-1)by omega,Nat.pow_add,<-mW];have:WW^k*2^(bT (dg v k)-1)<=WW^k*dg v k:=Nat.mul_le_mul_left _ a2;omega
 have c1:=iG b1;have c2:=MH b2;omega
def ag7 {v k:Nat}(h:ln v=k+1):v<WW^(k+1)/\WW^k<=v:=by
 refine⟨by rw[<-h];exact fC v,?_⟩;rcases Nat.lt_or_ge v (WW^k)with h1|h1
 . have:=jY h1;omega
 . exact h1
def ag5 (b o n cap v:Nat)(w:World)(hm:n<=1099511627776)(hcap:n<=cap)(hc:eN w b o n v)(hv:v<WW^n):
 Cl 171 #[.slice (some ⟨b,o,none⟩) n cap] w λe w'=>e=.returned (ah (bT v:Int))/\w=w':=by
 have hle:=jY hv;have Hv:=ar hv;clear hv;rcases Nat.eq_zero_or_pos (ln v)with h0|h0
 . have Hc:=ar hc;clear hc;have hv0:v=0:=by have:=fC v;rw[h0]at this;simpa using this
   subst hv0;clear h0;go_enter Tryz.func171,Tryz.ntmps171;go_wp2_with (go_at_call 168;refine(mY b o n cap 0 _ hm hcap Hc.out Hv.out).mono ?_;rintro e w' ⟨rfl,rfl⟩;rw[WV]);go_ret;exact⟨rfl,rfl⟩
 . obtain⟨k,hk⟩:∃k,ln v=k+1:=⟨ln v-1,by omega⟩;obtain⟨h1,h2⟩:=ag7 hk;obtain⟨e1,e2,e3⟩:=ab2 v k h1 h2;have hcell:w.cell? ⟨b,o+k,none⟩=some (.int .u64 (dg v k:Int)):=hc _ zo;have Hc:=ar hc;clear hc;obtain⟨He1,Hk⟩:=aZ e1 hk;have hkn:k+1<=n:=by omega
   clear h1 h2 h0 hle hk e1;go_enter Tryz.func171,Tryz.ntmps171
   go_wp2_with (first
    | (go_at_call 168;refine(mY b o n cap v _ hm hcap Hc.out Hv.out).mono ?_;rintro e w' ⟨rfl,rfl⟩;rw[Hk.out])
    | (go_at_call 191;refine(WZ _ _ (kI _ _)).mono ?_;rintro e w' ⟨rfl,rfl⟩))
   go_ret;rw[He1.out];refine⟨congrArg (λz:Int=>Ending.returned (ah z)) ?_,rfl⟩;omega
def auK (a:Option Addr)(cap:Nat)(w:World):
 Cl 171 #[.slice a 0 cap] w λe w'=>e=.returned (ah 0)/\w=w':=by
 go_enter Tryz.func171,Tryz.ntmps171;go_wp2_with (go_at_call 168;refine(acp cap a _).mono ?_;rintro e w' ⟨rfl,rfl⟩);go_ret;exact⟨rfl,rfl⟩
def dU (a b:Nat):Int:=if a<b then-1 else if b<a then 1 else 0
def acD {v u k:Nat}(h:v/WW^(k+1)=u/WW^(k+1))(hd:dg v k<dg u k):v<u:=by
 unfold dg at hd;have e1:=(Nat.mod_add_div (v/WW^k) WW).symm;have e2:=(Nat.mod_add_div (u/WW^k) WW).symm;rw[Nat.pow_succ,<-Nat.div_div_eq_div_mul,<-Nat.div_div_eq_div_mul]at h;have:v/WW^k<u/WW^k:=by rw[e1,e2,h];omega
 exact Nat.lt_of_div_lt_div this
def aqL {v u k:Nat}(h:v/WW^(k+1)=u/WW^(k+1))(hd:dg v k=dg u k):v/WW^k=u/WW^k:=by unfold dg at hd;have e1:=(Nat.mod_add_div (v/WW^k) WW).symm;have e2:=(Nat.mod_add_div (u/WW^k) WW).symm;rw[Nat.pow_succ,<-Nat.div_div_eq_div_mul,<-Nat.div_div_eq_div_mul]at h;rw[e1,e2,h,hd]
def WU {v u:Nat}(h:ln v<ln u):v<u:=by
 rcases Nat.lt_or_ge v u with h1|h1
 . exact h1
 . have:=jY (Nat.lt_of_le_of_lt h1 (fC v));omega
def CB (b o n cap v b2 o2 m cap2 u:Nat)(w:World)(hm:n<=1099511627776)(hcap:n<=cap)(hc:eN w b o n v)(hv:v<WW^n)
 (hm2:m<=1099511627776) (BV:m<=cap2) (hc2:eN w b2 o2 m u) (hu:u<WW^m):
 Cv 175 #[.slice (some ⟨b,o,none⟩) n cap,.slice (some ⟨b2,o2,none⟩) m cap2] w (ah (dU v u)):=by
 have l1:=jY hv;have l2:=jY hu;have Hv:=ar hv;clear hv;have Hu:=ar hu;clear hu;have Hc:=ar hc;clear hc;have Di:=ar hc2;clear hc2;obtain⟨Kv,Ku⟩:=aZ (fC v) (fC u);by_cases hlt:ln v<ln u
 . have hf:(((ln v:Nat):Int) !=((ln u:Nat):Int))=true:=by rw[bne_iff_ne];omega
   have iE:Hid (dU v u= -1):=by show dU v u= -1;unfold dU;rw[if_pos (WU hlt)]
   go_enter Tryz.func175,Tryz.ntmps175;go_wp2_with fail;refine(mY b o n cap v _ hm hcap Hc.out Hv.out).mono ?_;rintro e w' ⟨rfl,rfl⟩;go_wp2_with fail;refine(mY b2 o2 m cap2 u _ hm2 BV Di.out Hu.out).mono ?_;rintro e w' ⟨rfl,rfl⟩;go_wp2;go_ret;rw[iE.out];exact⟨rfl,Below.refl _ _⟩
 by_cases hgt:ln u<ln v
 . have hf:(((ln v:Nat):Int) !=((ln u:Nat):Int))=true:=by rw[bne_iff_ne];omega
   have iE:Hid (dU v u=1):=by show dU v u=1;have:=WU hgt;unfold dU;rw[if_neg zo,if_pos this]
   go_enter Tryz.func175,Tryz.ntmps175;go_wp2_with fail;refine(mY b o n cap v _ hm hcap Hc.out Hv.out).mono ?_;rintro e w' ⟨rfl,rfl⟩;go_wp2_with fail;refine(mY b2 o2 m cap2 u _ hm2 BV Di.out Hu.out).mono ?_;rintro e w' ⟨rfl,rfl⟩;go_wp2;go_ret;rw[iE.out];exact⟨rfl,Below.refl _ _⟩
 . have heq:ln v=ln u:=by omega
   generalize hL:ln u=L at*;have HL:=ar hL;clear hL;have LO:=ar heq;clear heq;have hf:(((L:Nat):Int) !=((L:Nat):Int))=false:=by simp
   rw[LO.out]at Kv l1;go_enter Tryz.func175,Tryz.ntmps175;go_wp2_with fail;refine(mY b o n cap v _ hm hcap Hc.out Hv.out).mono ?_;rintro e w' ⟨rfl,rfl⟩;rw[LO.out];go_wp2_with fail;refine(mY b2 o2 m cap2 u _ hm2 BV Di.out Hu.out).mono ?_;rintro e w' ⟨rfl,rfl⟩;rw[HL.out];go_wp2;go_loopw[5] (λi wr=>∃k:Nat,k<=L/\i=ah ((k:Int)-1)/\v/WW^k=u/WW^k/\Bw w wr) (λi _=>(intOf i+1).toNat);case atStart=>exact⟨L,Nat.le_refl _,rfl,by rw[Nat.div_eq_of_lt Kv.out,Nat.div_eq_of_lt Ku.out],Below.refl _ _⟩
   case round=>
    obtain⟨k,hk,rfl,EB,hb⟩:=hrel;have Dl:=ar EB;clear EB;by_cases h0:0<k
    . obtain⟨j,rfl⟩:∃j,k=j+1:=⟨k-1,by omega⟩;have c1:wr.cell? ⟨b,o+j,none⟩=some (.int .u64 (dg v j:Int)):=cell_later hb (Hc.out _ zo);have c2:wr.cell? ⟨b2,o2+j,none⟩=some (.int .u64 (dg u j:Int)):=cell_later hb (Di.out _ zo);rw[show(((j+1:Nat):Int)-1)=(j:Int)by omega];have Hb:=ar hb;clear hb;rcases Nat.lt_trichotomy (dg v j) (dg u j)with hd|hd|hd
      . have iE:Hid (dU v u= -1):=by show dU v u= -1;unfold dU;rw[if_pos (acD Dl.out hd)]
        go_wp2;go_region
        go_wp2;go_ret;rw[iE.out];exact⟨rfl,Hb.out.drew⟩
      . have Hd:=ar (aqL Dl.out hd);rw[hd]at c1;go_wp2;go_region
        go_wp2;go_region
        go_wp2;go_roundw;case rel=>exact⟨j,by omega,rfl,Hd.out,Hb.out.drew.drew⟩
        case measure=>simp[intOf]
      . have iE:Hid (dU v u=1):=by show dU v u=1;have:=acD Dl.out.symm hd;unfold dU;rw[if_neg zo,if_pos this]
        go_wp2;go_region
        go_wp2;go_region
        go_wp2;go_ret;rw[iE.out];exact⟨rfl,Hb.out.drew.drew⟩
    . obtain rfl:k=0:=by omega
      have iE:Hid (dU v u=0):=by have:=Dl.out;simp at this;subst this;show dU v v=0;simp[dU]
      have Hb:=ar hb;clear hb;go_wp2;go_ret;rw[iE.out];exact⟨rfl,Hb.out⟩
def Tryz.aF6 :(Tryz.prog.info? 152).map (λi=>(i.zero,i.size,i.bytes))=some (some (.int .u64 0),1,8):=by kernel_rfl
def Tryz.aFR :(Tryz.prog.info? 5).map (λi=>(i.zero,i.size,i.bytes))=some (some (.int .u8 0),1,1):=by kernel_rfl
def azY (n:Nat):List.replicate n (Value.int .u64 0)=bU n λ_=>0:=by
 apply List.ext_getElem?;intro j;by_cases h:j<n
 . rw[iz _ _ _ h];simp[h]
 . simp[bU,h]
def CC (c:Int)(n:Nat)(hc:c=n)(h:n<=1099511627776)(w:World):
 (Instr.makeSlice 166 (ah c) (ah c)).run Tryz.prog w=.ok (.slice (some ⟨w.heap.size,0,none⟩) n n) (w.alloc (.cells (bU n λ_=>0).toArray 152)):=by
 subst hc;obtain⟨i0,hi,hz0,hz1,hz2⟩:=info_parts Tryz.aF6;rw[run_make (P:=Tryz.prog) w 166 152 i0 _ Tryz.underlying166 hi hz0 .i64 .i64 n n zo zo (by rw[hz2];omega) zo];simp only[Int.toNat_natCast,hz1,Nat.mul_one];rw[<-azY,<-toList_madeCells_one];simp[Value.cells]
def ay9 {m M v:Nat}(h:m<=M)(hv:v<WW^m):splice (bU M λ_=>0) 0 (bU m (dg v))=bU M (dg v):=by
 unfold splice;rw[List.take_zero,List.nil_append,AC,Nat.zero_add];apply List.ext_getElem?;intro j;rw[List.getElem?_append,AC];by_cases h1:j<m
 . rw[if_pos h1,iz _ _ _ h1,iz _ _ _ zo]
 . rw[if_neg h1,List.getElem?_drop,show m+(j-m)=j by omega];by_cases h2:j<M
   . rw[iz _ _ _ h2,iz _ _ _ h2,vI hv zo]
   . simp[bU,h2]
def TF (a:Option Addr)(m cap v:Nat)(c:Int)(w:World)(hm:m<=1099511627776)(hc0:0<=c)(hc1:c<=1099511627776)
 (hx:0<m->∃b o,a=some ⟨b,o,none⟩/\eN w b o m v) (hv:v<WW^m):
 Cl 172 #[.slice a m cap,ah c] w λe w'=>e=.returned (.slice (some ⟨w.heap.size,0,none⟩) (max c.toNat m) (max c.toNat m))/\
  au w' w.heap.size 152 (bU (max c.toNat m) (dg v))/\Bw w w':=by
 obtain⟨k,rfl⟩:=Int.eq_ofNat_of_zero_le hc0;rw[Int.toNat_natCast];have hM:max (k:Int) (m:Int)=((max k m:Nat):Int):=by omega
 generalize zK:max k m=M at*;have hMm:m<=M:=by omega
 have hMb:M<=1099511627776:=by omega
 have Hv:=ar hv;clear hv;have Hx:=ar hx;clear hx;have HMM:=ar zK;clear zK;have hmk:=CC (M:Int) M rfl hMb;go_enter Tryz.func172,Tryz.ntmps172;go_wp2_with (with_reducible refine wpList_copy_splice rfl (.tmp 11) (.tmp 12) 166 166 rfl 152 Tryz.underlying166 zk (some ⟨w.heap.size,0,none⟩) a M M m cap rfl rfl w.heap.size 0 (bU M λ_=>0) 152 (heap_alloc_new w _) (bU m (dg v)) ?h1 ?h2 ?h3 ?h4 w.heap.size w zl (Nat.le_refl _) ?_);case h1=>rw[AC];exact(Nat.min_eq_left hMm).symm
 case h2=>
  rw[AC];intro h0;obtain⟨b,o,rfl,hL⟩:=Hx.out h0;refine⟨⟨b,o,none⟩,rfl,?_⟩;intro j x hj;have hjm:j<m:=by
   rcases Nat.lt_or_ge j m with h|h
   . exact h
   . simp[bU,h]at hj
  rw[iz _ _ _ hjm]at hj;cases hj
  rw[show((⟨b,o,none⟩:Addr).add j)=⟨b,o+j,none⟩by unfold Addr.add;split<;>simp_all];exact cell_later zl (hL j hjm)
 case h3=>rw[AC,AC];omega
 case h4=>intro x hx;simp[bU]at hx;obtain⟨j,_,rfl⟩:=hx;rfl
 . intro w1 cu hb1;go_wp2;go_ret;refine⟨rfl,?_,hb1⟩;have:=cu.out;unfold au;rw[this,ay9 hMm Hv.out]
def iH (l:List UInt8):(bs l).size=l.length:=by show l.toArray.size=_;simp
def apu (s:ByteArray):s=bs s.data.toList:=by cases s;simp[bs]
def apr (l:List UInt8):(bs l).data.toList=l:=by simp[bs]
def uO (l:List UInt8)(i:Int)(j:Nat)(hj:j<l.length)(hi:i=j)(W:World):
 (Instr.index 9 (.string (bs l)) (ah i)).run Tryz.prog W=.ok (.int .u8 (l[j].toNat:Int)) W:=by
 subst hi;have hj':j<(bs l).size:=by rw[iH];exact hj
 rw[run_index_string W 9 (bs l) .i64 j Tryz.underlying9,dif_pos zo];simp[bs,ByteArray.getElem_eq_getElem_data]
def Yk (C i:Nat):IntKind.u64.wrap ((C:Int) *2^i)=((C*2^i%WW:Nat):Int):=by
 rw[IntKind.wrap_u64,kF];have:(C:Int) *2^i=((C*2^i:Nat):Int):=by simp[Int.natCast_mul,Int.natCast_pow]
 rw[this];omega
def Xy (X Y:Nat)(i c:Nat)(hY:Y=c*2^i)(hX:X<2^i)(h:c*2^i+2^i<=WW):bits BinOp.or IntKind.u64 (X:Int) (Y:Int)=((X+Y:Nat):Int):=by
 subst hY;have hp:=Nat.pow_pos (n:=i) (show 0<2 by decide);have h1:X<18446744073709551616:=by rw[kF]at h;omega
 have h2:c*2^i<18446744073709551616:=by rw[kF]at h;omega
 rw[bits_or_u64_nat X (c*2^i) h1 h2,awu hX]
def oO (l:List UInt8)(w:World)(hs:l.length<=1099511627776):
 Cl 136 #[ai l] w λe w'=>e=.returned (.slice (some ⟨w.heap.size,0,none⟩) (ln (nv l)) ((l.length+7)/8))/\
  au w' w.heap.size 152 (bU ((l.length+7)/8) (dg (nv l)))/\Bw w w'/\ln (nv l)<=(l.length+7)/8:=by
 have hsz:=iH l;have hmk:=CC (((l.length:Int)+7)/8) ((l.length+7)/8) zo zo;generalize hn:(l.length+7)/8=n at*;have ny:l.length<=8*n:=by omega
 have jo:8*n<=l.length+7:=by omega
 have Hn:=ar hn;clear hn;have JP:nv l<WW^n:=by refine Nat.lt_of_lt_of_le (ib l) ?_;rw[mW,show(256:Nat)=2^8 by rfl,<-Nat.pow_mul];exact Nat.pow_le_pow_right zd zo
 have xh:=ar JP;clear JP;go_enter Tryz.func136,Tryz.ntmps136;go_wp2;go_loopw[4,5,13] (λ_ _ i wr=>∃k:Nat,k<=l.length/\i=ah k/\au wr w.heap.size 152 (bU n (dg (nv (l.drop (l.length-k)))))/\Bw w wr) (λ_ _ i _=>l.length-(intOf i).toNat);case atStart=>
  refine⟨0,Nat.zero_le _,rfl,?_,zl⟩;have e:bU n (dg (nv (l.drop (l.length-0))))=bU n λ_=>0:=lU λj _=>by simp[Ax,dg]
  rw[e];exact au.new _ _ _
 case round=>
  obtain⟨k,hk,rfl,hB,hb⟩:=hrel;by_cases hlt:k<l.length
  . have h8:k/8<n:=by omega
    have hcell:wr.cell? ⟨w.heap.size,k/8,none⟩=some (.int .u64 (dg (nv (l.drop (l.length-k))) (k/8):Int)):=by rw[hB.cell,iz _ _ _ h8]
    have hfree:wr.frozen? ⟨w.heap.size,k/8,none⟩=false:=hB.free _;have iV:=uO l ((l.length:Int)-1-(k:Int)) (l.length-1-k) zo zo;have hC:=(l[l.length-1-k]'zo).toNat_lt;have hVk:nv (l.drop (l.length-k))<256^k:=by have:=ib (l.drop (l.length-k));rwa [List.length_drop,show l.length-(l.length-k)=k by omega]at this
    have hlast:=awi l k hlt;obtain⟨d1,d2,d3⟩:=apF _ _ k hVk hC;have hp:=Nat.pow_pos (n:=k%8*8) (show 0<2 by decide);have td:(l[l.length-1-k]'zo).toNat*2^(k%8*8)+2^(k%8*8)<=WW:=by
     have h2:2^(k%8*8) *256<=WW:=by rw[show(256:Nat)=2^8 by rfl,<-Nat.pow_add,mV];exact Nat.pow_le_pow_right zd zo
     have:2^(k%8*8) * ((l[l.length-1-k]'zo).toNat+1)<=2^(k%8*8) *256:=Nat.mul_le_mul_left _ hC;rw[Nat.mul_add,Nat.mul_comm]at this;omega
    have Ct:=Yk (l[l.length-1-k]'zo).toNat (k%8*8);rw[Nat.mod_eq_of_lt d2]at Ct;have VS:=Xy _ _ _ _ rfl d1 td;have fu:Hid (au (wr.setCell ⟨w.heap.size,k/8,none⟩ (.int .u64 ((dg (nv (l.drop (l.length-k))) (k/8)+(l[l.length-1-k]'zo).toNat*2^(k%8*8):Nat):Int))) w.heap.size 152 (bU n (dg (nv (l.drop (l.length-(k+1))))))):=by have:=hB.set (k/8) (.int .u64 ((dg (nv (l.drop (l.length-k))) (k/8)+(l[l.length-1-k]'zo).toNat*2^(k%8*8):Nat):Int));rw[FA]at this;rw[show l.length-(k+1)=l.length-1-k by omega,hlast];rw[lU λj _=>d3 j];exact this
    have Hb:Hid (Bw w (wr.setCell ⟨w.heap.size,k/8,none⟩ (.int .u64 ((dg (nv (l.drop (l.length-k))) (k/8)+(l[l.length-1-k]'zo).toNat*2^(k%8*8):Nat):Int)))):=hb.setCell (Nat.le_refl _) _;clear hB hb d1 d2 d3 hp td hlast hVk;generalize dg (nv (l.drop (l.length-k))) (k/8)+(l[l.length-1-k]'zo).toNat*2^(k%8*8)=Z at*;generalize dg (nv (l.drop (l.length-k))) (k/8)=X at*;generalize (l[l.length-1-k]'zo).toNat=C at*;generalize C*2^(k%8*8)=Y at*;go_wp2;go_region
    go_wp2;go_roundw;case rel=>exact⟨k+1,by omega,by go_num,fu.out.drew,Hb.out.drew⟩
    case measure=>exact bI
  . obtain rfl:k=l.length:=by omega
    rw[Nat.sub_self,List.drop_zero]at hB;have Hc:Hid (eN wr w.heap.size 0 n (nv l)):=λj hj=>by rw[Nat.zero_add,hB.cell,iz _ _ _ hj]
    have HB:=ar hB;clear hB;have Hb:=ar hb;clear hb;go_wp2_with (go_at_call 168;refine(mY w.heap.size 0 n n (nv l) _ zo (Nat.le_refl _) Hc.out xh.out).mono ?_;rintro e w' ⟨rfl,rfl⟩);go_ret;exact⟨rfl,HB.out,Hb.out,jY xh.out⟩
def YM (b o m cap v n:Nat)(w:World)(hm:m<=549755813888)(hn:n<=549755813888)(hx:eN w b o m v)(hv:v<WW^m):
 Cl 169 #[.slice (some ⟨b,o,none⟩) m cap,ah (n:Int)] w λe w'=>e=.returned (.slice (some ⟨w.heap.size,0,none⟩) (ln (v*2^n)) (m+n/64+1))/\
  au w' w.heap.size 152 (bU (m+n/64+1) (dg (v*2^n)))/\Bw w w'/\ln (v*2^n)<=m+n/64+1:=by
 have hmk:=CC ((m:Int)+(n:Int)/64+1) (m+n/64+1) zo zo;generalize hM:m+n/64+1=M at*;have Hx:=ar hx;clear hx;have JP:v*2^n<WW^M:=by
  have h1:2^n<=WW^(n/64+1):=by rw[mW];exact Nat.pow_le_pow_right zd zo
  rw[<-hM,Nat.add_assoc,Nat.pow_add];exact Nat.lt_of_lt_of_le (Nat.mul_lt_mul_of_pos_right hv (Nat.pow_pos zd)) (Nat.mul_le_mul_left _ h1)
 have xh:=ar JP;clear JP;have Hv:=ar hv;clear hv;have NM:m+n/64+1<=M:=by omega
 have uv:M<=1099511627776:=by omega
 have HM:=ar hM;clear hM;go_enter Tryz.func169,Tryz.ntmps169;go_wp2;go_loopw[6,7,8,18] (λ_ _ _ i wr=>∃k:Nat,k<=m/\i=ah k/\au wr w.heap.size 152 (bU M (dg (v%WW^k*2^n)))/\Bw w wr) (λ_ _ _ i _=>m-(intOf i).toNat);case atStart=>
  refine⟨0,Nat.zero_le _,rfl,?_,zl⟩;have e:bU M (dg (v%WW^0*2^n))=bU M λ_=>0:=lU λj _=>by simp[dg,Nat.mod_one]
  rw[e];exact au.new _ _ _
 case round=>
  obtain⟨k,hk,rfl,hB,hb⟩:=hrel;by_cases hlt:k<m
  . have c0:wr.cell? ⟨b,o+k,none⟩=some (.int .u64 (dg v k:Int)):=cell_later hb (Hx.out k hlt);obtain⟨c,e1,e2,e3,e4,e5,e6⟩:=az2 v n k;have hcell:wr.cell? ⟨w.heap.size,k+n/64,none⟩=some (.int .u64 (dg (v%WW^k*2^n) (k+n/64):Int)):=by rw[hB.cell,iz _ _ _ zo]
    have hfree:wr.frozen? ⟨w.heap.size,k+n/64,none⟩=false:=hB.free _;have Ct:=Yk (dg v k) (n%64);rw[<-e1]at Ct;have VS:=Xy _ _ _ _ rfl e2 e3;have bX:=hB.set (k+n/64) (.int .u64 ((dg (v%WW^k*2^n) (k+n/64)+c*2^(n%64):Nat):Int));have hb1:=hb.setCell (p:=⟨w.heap.size,k+n/64,none⟩) (Nat.le_refl _) (.int .u64 ((dg (v%WW^k*2^n) (k+n/64)+c*2^(n%64):Nat):Int));rw[FA]at bX;clear e1 e2 e3 hB hb;by_cases hr:n%64=0
    . have fu:Hid (au (wr.setCell ⟨w.heap.size,k+n/64,none⟩ (.int .u64 ((dg (v%WW^k*2^n) (k+n/64)+c*2^(n%64):Nat):Int))) w.heap.size 152 (bU M (dg (v%WW^(k+1) *2^n)))):=by
       have hz:dg v k/2^(64-n%64)=0:=by rw[hr];exact Nat.div_eq_of_lt (by have:=kI v k;rw[mV]at this;exact this)
       rw[lU (g:=λj=>if j=k+n/64 then dg (v%WW^k*2^n) (k+n/64)+c*2^(n%64)else dg (v%WW^k*2^n) j) λj _=>by
        rw[e6 j,hz];by_cases hj:j=k+n/64+1
        . subst hj;rw[if_pos rfl,if_neg zo,e4]
        . rw[if_neg hj]]
       exact bX
      have Hb:=ar hb1;clear bX hb1 e4 e5 e6;generalize dg (v%WW^k*2^n) (k+n/64)+c*2^(n%64)=Z at*;generalize dg (v%WW^k*2^n) (k+n/64)=X at*;generalize c*2^(n%64)=Y at*;have Co:decide ((0:Int)<(n:Int)%64)=false:=by simp;omega
      have Hr:=ar hr;clear hr;go_wp2;go_region
      go_wp2;go_roundw;case rel=>exact⟨k+1,by omega,by go_num,fu.out.drew,Hb.out.drew⟩
      case measure=>exact bI
    . have bC:k+n/64+1<M:=by omega
      have Vl:(wr.setCell ⟨w.heap.size,k+n/64,none⟩ (.int .u64 ((dg (v%WW^k*2^n) (k+n/64)+c*2^(n%64):Nat):Int))).cell? ⟨w.heap.size,k+n/64+1,none⟩=some (.int .u64 0):=by rw[bX.cell,iz _ _ _ bC,if_neg zo,e4];rfl
      have asW:(wr.setCell ⟨w.heap.size,k+n/64,none⟩ (.int .u64 ((dg (v%WW^k*2^n) (k+n/64)+c*2^(n%64):Nat):Int))).frozen? ⟨w.heap.size,k+n/64+1,none⟩=false:=bX.free _;have eO:=bX.set (k+n/64+1) (.int .u64 ((dg v k/2^(64-n%64):Nat):Int));have hb2:=hb1.setCell (p:=⟨w.heap.size,k+n/64+1,none⟩) (Nat.le_refl _) (.int .u64 ((dg v k/2^(64-n%64):Nat):Int));rw[FA,<-lU λj _=>e6 j]at eO;have aC3:bits BinOp.or IntKind.u64 0 ((dg v k:Int)/2^(64-n%64))=((dg v k/2^(64-n%64):Nat):Int):=by have h:=bits_or_u64_nat 0 (dg v k/2^(64-n%64)) zd (by rw[kF]at e5;exact e5);simp only[Nat.zero_or]at h;rw[<-h];simp[Int.natCast_pow]
      obtain⟨fu,Hb⟩:=aZ eO hb2;clear bX hb1 e4 e5 e6 eO hb2;have Co:decide ((0:Int)<(n:Int)%64)=true:=by simp;omega
      have Hr:=ar hr;clear hr;generalize dg (v%WW^k*2^n) (k+n/64)+c*2^(n%64)=Z at*;generalize dg (v%WW^k*2^n) (k+n/64)=X at*;generalize c*2^(n%64)=Y at*;generalize dg v k/2^(64-n%64)=Z2 at*;go_wp2;go_region
      go_wp2;go_region
      go_wp2;go_roundw;case rel=>exact⟨k+1,by omega,by go_num,fu.out.drew.drew,Hb.out.drew.drew⟩
      case measure=>exact bI
  . obtain rfl:k=m:=by omega
    rw[Nat.mod_eq_of_lt Hv.out]at hB;have Hc:Hid (eN wr w.heap.size 0 M (v*2^n)):=λj hj=>by rw[Nat.zero_add,hB.cell,iz _ _ _ hj]
    have HB:=ar hB;clear hB;have Hb:=ar hb;clear hb;go_wp2_with (go_at_call 168;refine(mY w.heap.size 0 M M (v*2^n) _ zo (Nat.le_refl _) Hc.out xh.out).mono ?_;rintro e w' ⟨rfl,rfl⟩);go_ret;exact⟨rfl,HB.out,Hb.out,jY xh.out⟩
def BK (F:Nat->Nat)(k:Nat)(G:Nat->Nat)(j:Nat):Nat:=if j<k then G j else F j
def ac7 (N:Nat)(F:Nat->Nat)(i:Nat)(G:Nat->Nat)(x:Nat)(hx:x=G i):
 (bU N (BK F i G)).set i (.int .u64 (x:Int))=bU N (BK F (i+1) G):=by
 rw[FA];refine lU λj _=>?_;unfold BK;by_cases h:j=i
 . subst h;rw[if_pos rfl,if_pos zo,hx]
 . rw[if_neg h];by_cases h2:j<i
   . rw[if_pos h2,if_pos zo]
   . rw[if_neg h2,if_neg zo]
def MZ (v q j:Nat):dg (v/WW^q) j=dg v (q+j):=by unfold dg;rw[Nat.div_div_eq_div_mul,<-Nat.pow_add]
def aqW (v n:Nat):v/WW^(n/64)/2^(n%64)=v/2^n:=by rw[mW,Nat.div_div_eq_div_mul,<-Nat.pow_add];congr 2;omega
def acG (a:Option Addr)(m cap n:Nat)(w:World)(hm:m<=549755813888)(hn:n<=1099511627776)(hle:m<=n/64):
 Cl 170 #[.slice a m cap,ah (n:Int)] w λe w'=>e=.returned (.slice none 0 0)/\w=w':=by
 go_enter Tryz.func170,Tryz.ntmps170;go_wp2;go_ret;exact⟨rfl,rfl⟩
def acF (b o m cap v n:Nat)(w:World)(hm:m<=549755813888)(hcap:m<=cap)(hn:n<=1099511627776)(hx:eN w b o m v)(hv:v<WW^m)(aCV:n/64<m):
 Cl 170 #[.slice (some ⟨b,o,none⟩) m cap,ah (n:Int)] w λe w'=>e=.returned (.slice (some ⟨w.heap.size,0,none⟩) (ln (v/2^n)) (m-n/64))/\
  au w' w.heap.size 152 (bU (m-n/64) (dg (v/2^n)))/\Bw w w'/\ln (v/2^n)<=m-n/64:=by
 have bQ:b<w.heap.size:=World.block_lt_of_cell? w ⟨b,o+0,none⟩ (hx 0 zo);have hne:¬cap=n/64:=by omega
 have Hx:=ar hx;clear hx;have hu:v/WW^(n/64)<WW^(m-n/64):=by rw[Nat.div_lt_iff_lt_mul (eY _),<-Nat.pow_add,show m-n/64+n/64=m by omega];exact hv
 have Hu:=ar hu;clear hu;have Hv:=ar hv;clear hv;have Hxu:Hid (eN w b (o+n/64) (m-n/64) (v/WW^(n/64))):=λj hj=>by rw[MZ,Nat.add_assoc];exact Hx.out _ zo
 go_enter Tryz.func170,Tryz.ntmps170;go_wp2_with (go_at_call 172;refine(TF (some ⟨b,o+n/64,none⟩) (m-n/64) (cap-n/64) (v/WW^(n/64)) 0 _ zo zo zo (λ_=>⟨b,o+n/64,rfl,Hxu.out⟩) Hu.out).mono ?_;rintro e w1 ⟨rfl,bX,hb1⟩;rw[show max (0:Int).toNat (m-n/64)=m-n/64 by simp]at bX;rw[show max (0:Int).toNat (m-n/64)=m-n/64 by simp];have ft:=ar bX;clear bX;have cu:=ar hb1;clear hb1);generalize hL:m-n/64=L at*;have HL:=ar hL;have ou:L+n/64=m:=by omega
 clear hL;generalize hU:v/WW^(n/64)=U at*;have HU:=ar hU;clear hU;go_wp2;go_loopw[6,19] (λ_ i wr=>∃k:Nat,k<=L/\i=ah k/\au wr w.heap.size 152 (bU L (BK (dg U) k (dg (U/2^(n%64)))))/\Bw w wr) (λ_ i _=>L-(intOf i).toNat);case atStart=>exact⟨0,Nat.zero_le _,rfl,ft.out,cu.out⟩
 case round=>
  obtain⟨k,hk,rfl,hB,hb⟩:=hrel;by_cases hlt:k<L
  . have hcell:wr.cell? ⟨w.heap.size,k,none⟩=some (.int .u64 (dg U k:Int)):=by rw[hB.cell,iz _ _ _ hlt];simp[BK]
    have hfree:wr.frozen? ⟨w.heap.size,k,none⟩=false:=hB.free _;have Oh:=aqK U (n%64) k (Nat.mod_lt _ zd);have OP:(dg U k:Int)/2^(n%64)=((dg U k/2^(n%64):Nat):Int):=by simp[Int.natCast_pow]
    have bX:=hB.set k (.int .u64 ((dg U k/2^(n%64):Nat):Int));have hb1:=hb.setCell (p:=⟨w.heap.size,k,none⟩) (Nat.le_refl _) (.int .u64 ((dg U k/2^(n%64):Nat):Int));by_cases hc:k+1<L/\0<n%64
    . obtain⟨hc1,hc2⟩:=hc;obtain⟨c,f1,f2,f3,f4,f5⟩:=ajl (dg U (k+1)) (64-n%64) (kI _ _) zo;have hX:dg U k/2^(n%64)<2^(64-n%64):=by rw[Nat.div_lt_iff_lt_mul (Nat.pow_pos zd),<-Nat.pow_add,show 64-n%64+n%64=64 by omega,<-mV];exact kI _ _
      have aCD:(wr.setCell ⟨w.heap.size,k,none⟩ (.int .u64 ((dg U k/2^(n%64):Nat):Int))).cell? ⟨b,o+(n/64+k+1),none⟩=some (.int .u64 (dg U (k+1):Int)):=by have:=Hxu.out (k+1) zo;rw[show o+(n/64+k+1)=o+n/64+(k+1)by omega];exact cell_later hb1 this
      have Vl:(wr.setCell ⟨w.heap.size,k,none⟩ (.int .u64 ((dg U k/2^(n%64):Nat):Int))).cell? ⟨w.heap.size,k,none⟩=some (.int .u64 ((dg U k/2^(n%64):Nat):Int)):=by rw[bX.cell];simp[AC,hlt]
      have asW:(wr.setCell ⟨w.heap.size,k,none⟩ (.int .u64 ((dg U k/2^(n%64):Nat):Int))).frozen? ⟨w.heap.size,k,none⟩=false:=bX.free _;have Ct:=Yk (dg U (k+1)) (64-n%64);have VS:=Xy _ _ _ _ f1 hX f4;have eO:=bX.set k (.int .u64 ((dg (U/2^(n%64)) k:Nat):Int));have hb2:=hb1.setCell (p:=⟨w.heap.size,k,none⟩) (Nat.le_refl _) (.int .u64 ((dg (U/2^(n%64)) k:Nat):Int));rw[List.set_set,ac7 L _ k _ _ rfl]at eO;rw[<-Oh]at VS;obtain⟨fu,Hb⟩:=aZ eO hb2;clear bX hb1 eO hb2 hB hb f1 f2 f3 f4 f5 hX Oh;have hq1:decide ((k:Int)+1<(L:Int))=true:=by simp;omega
      have hq2:decide ((0:Int)<(n:Int)%64)=true:=by simp;omega
      generalize dg U k/2^(n%64)=D at*;generalize dg U (k+1) *2^(64-n%64)%WW=Y at*;generalize dg U (k+1)=D1 at*;go_wp2;go_region
      go_wp2;go_roundw;case rel=>exact⟨k+1,by omega,by go_num,fu.out.drew,Hb.out.drew⟩
      case measure=>exact bI
    . have e:dg U k/2^(n%64)=dg (U/2^(n%64)) k:=by
       rw[Oh];by_cases h0:n%64=0
       . rw[h0];simp only[Nat.pow_zero,Nat.div_one,Nat.sub_zero,<-mV,Nat.mul_mod_left,Nat.add_zero]
       . rw[vI (j:=k+1) Hu.out zo,Nat.zero_mul,Nat.zero_mod,Nat.add_zero]
      rw[e,ac7 L _ k _ _ rfl]at bX;rw[e]at hb1 OP;obtain⟨fu,Hb⟩:=aZ bX hb1;clear bX hb1 hB hb Oh e;by_cases h1:k+1<L
      . have hq1:decide ((k:Int)+1<(L:Int))=true:=by simp;omega
        have hq2:decide ((0:Int)<(n:Int)%64)=false:=by simp;omega
        go_wp2;go_roundw;case rel=>exact⟨k+1,by omega,by go_num,fu.out,Hb.out⟩
        case measure=>exact bI
      . have hq1:decide ((k:Int)+1<(L:Int))=false:=by simp;omega
        go_wp2;go_roundw;case rel=>exact⟨k+1,by omega,by go_num,fu.out,Hb.out⟩
        case measure=>exact bI
  . obtain rfl:k=L:=by omega
    have e:U/2^(n%64)=v/2^n:=by rw[<-HU.out,aqW]
    have e2:bU k (BK (dg U) k (dg (U/2^(n%64))))=bU k (dg (v/2^n)):=lU λj hj=>by simp[BK,hj,e]
    rw[e2]at hB;have bC:v/2^n<WW^k:=by rw[<-e];exact Nat.lt_of_le_of_lt (Nat.div_le_self _ _) Hu.out
    have aaK:=ar bC;clear e e2 bC;have Hc:Hid (eN wr w.heap.size 0 k (v/2^n)):=λj hj=>by rw[Nat.zero_add,hB.cell,iz _ _ _ hj]
    have HB:=ar hB;clear hB;have Hb:=ar hb;clear hb;go_wp2_with (go_at_call 168;refine(mY w.heap.size 0 k k (v/2^n) _ zo (Nat.le_refl _) Hc.out aaK.out).mono ?_;rintro e w' ⟨rfl,rfl⟩);go_ret;rw[HL.out];exact⟨rfl,HB.out,Hb.out,jY aaK.out⟩
def dw (n:Nat)(f:Nat->Nat):List Value:=(List.range n).map λj=>.int .u8 (f j:Int)
def Ld (n:Nat)(f:Nat->Nat):(dw n f).length=n:=by simp[dw]
def mL (n:Nat)(f:Nat->Nat)(j:Nat)(h:j<n):(dw n f)[j]?=some (.int .u8 (f j:Int)):=by simp[dw,List.getElem?_range h]
def ql {n:Nat}{f g:Nat->Nat}(h:∀j,j<n->f j=g j):dw n f=dw n g:=by unfold dw;refine List.map_congr_left λj hj=>?_;rw[h j (by simpa using hj)]
def CV (n:Nat)(f:Nat->Nat)(i x:Nat):(dw n f).set i (.int .u8 (x:Int))=dw n (λj=>if j=i then x else f j):=by
 apply List.ext_getElem?;intro j;rw[List.getElem?_set,Ld];by_cases h:j<n
 . rw[mL _ _ _ h,mL _ _ _ h];by_cases e:i=j
   . subst e;simp[h]
   . simp[e,Ne.symm e]
 . by_cases e:i=j
   . subst e;simp[dw,h]
   . simp[e,dw,h]
def azX (n:Nat):List.replicate n (Value.int .u8 0)=dw n λ_=>0:=by
 apply List.ext_getElem?;intro j;by_cases h:j<n
 . rw[mL _ _ _ h];simp[h]
 . simp[dw,h]
def uT (c:Int)(n:Nat)(hc:c=n)(h:n<=17592186044416)(w:World):
 (Instr.makeSlice 84 (ah c) (ah c)).run Tryz.prog w=.ok (.slice (some ⟨w.heap.size,0,none⟩) n n) (w.alloc (.cells (dw n λ_=>0).toArray 5)):=by
 subst hc;obtain⟨i0,hi,hz0,hz1,hz2⟩:=info_parts Tryz.aFR;rw[run_make (P:=Tryz.prog) w 84 5 i0 _ Tryz.underlying84 hi hz0 .i64 .i64 n n zo zo (by rw[hz2];omega) zo];simp only[Int.toNat_natCast,hz1,Nat.mul_one];rw[<-azX,<-toList_madeCells_one];simp[Value.cells]
def vp {w:World}{b:Nat}{t:TypeId}{n:Nat}{f:Nat->Nat}(h:au w b t (dw n f))(cap:Nat):
 (convert 84 9 (.slice (some ⟨b,0,none⟩) n cap)).run Tryz.prog w=.ok (.string (bs ((List.range n).map λj=>UInt8.ofNat (f j)))) w:=by
 have:=run_convert_bytes_arg (P:=Tryz.prog) w 84 5 Tryz.underlying84 Tryz.underlying5 b 0 n cap ((List.range n).map λj=>(f j:Int)) zm (λi hi=>by rw[Nat.zero_add,h.cell,mL _ _ _ hi];simp[hi]) 9 Tryz.underlying9
 rw[this];unfold strOfNums bs;rw[List.map_map];rfl
def awj (v n:Nat):nv ((List.range n).map λj=>UInt8.ofNat (v/256^(n-1-j)%256))=v%256^n:=by
 induction n with
 |zero=>simp[Ax,Nat.mod_one]
 | succ n ih=>
   rw[List.range_succ_eq_map,List.map_cons,List.map_map,wn,MJ,List.length_map,List.length_range];have e:(List.range n).map ((λj=>UInt8.ofNat (v/256^(n+1-1-j)%256))∘Nat.succ)=(List.range n).map λj=>UInt8.ofNat (v/256^(n-1-j)%256):=by
    refine List.map_congr_left λj hj=>?_;have hj':j<n:=by simpa using hj
    show UInt8.ofNat (v/256^(n+1-1-(j+1))%256)=_
    rw[show n+1-1-(j+1)=n-1-j by omega]
   rw[e,ih,Nat.pow_succ,Nat.mod_mul,show n+1-1-0=n by omega,Nat.mul_comm,Nat.add_comm]
def Xq (v n:Nat)(h:v<256^n)(h0:0<n->256^(n-1)<=v):(List.range n).map (λj=>UInt8.ofNat (v/256^(n-1-j)%256))=nt v:=by
 have e:=awj v n;rw[Nat.mod_eq_of_lt h]at e;refine(ahJ _ ?_).symm.trans (by rw[e]);intro c hc;cases n with
 |zero=>simp at hc
 | succ n=>
   rw[List.range_succ_eq_map,List.map_cons,List.head?_cons]at hc;cases hc
   intro hz;have:=congrArg UInt8.toNat hz;rw[MJ]at this;have h1:=h0 zo;rw[show n+1-1=n by omega]at h1;rw[show n+1-1-0=n by omega]at this;have h2:v/256^n<256:=by rw[Nat.div_lt_iff_lt_mul (Nat.pow_pos zd)];rw[Nat.pow_succ,Nat.mul_comm]at h;exact h
   have h3:=Nat.div_pos h1 (Nat.pow_pos (n:=n) (show 0<256 by decide));rw[Nat.mod_eq_of_lt h2]at this;simp at this;omega
def GU (v:Nat):v<256^((bT v+7)/8)/\(0<(bT v+7)/8->256^((bT v+7)/8-1)<=v):=by
 constructor
 . refine Nat.lt_of_lt_of_le (sJ v) ?_;rw[show(256:Nat)=2^8 by rfl,<-Nat.pow_mul];exact Nat.pow_le_pow_right zd zo
 . intro h;have hv:v≠0:=by intro h0;subst h0;simp[bT]at h
   have e:bT v=Nat.log2 v+1:=by unfold bT;rw[if_neg hv]
   refine Nat.le_trans ?_ (Nat.log2_self_le hv);rw[show(256:Nat)=2^8 by rfl,<-Nat.pow_mul];exact Nat.pow_le_pow_right zd zo
def awd (v:Nat):(nt v).length=(bT v+7)/8:=by have h:=GU v;rw[<-Xq v _ h.1 h.2];simp
def byte_of (v k:Nat):IntKind.u8.wrap ((dg v (k/8):Int)/2^(k%8*8))=((v/256^k%256:Nat):Int):=by
 have e:(dg v (k/8):Int)/2^(k%8*8)=((dg v (k/8)/2^(k%8*8):Nat):Int):=by simp[Int.natCast_pow]
 rw[e];have e2:dg v (k/8)/2^(k%8*8)%256=v/256^k%256:=by
  unfold dg;rw[XK,<-Nat.div_div_eq_div_mul];generalize v/WW^(k/8)=x;have hW:WW=2^(k%8*8) *2^(64-k%8*8):=by rw[<-Nat.pow_add,mV];congr 1;omega
  rw[hW,Nat.mod_mul_right_div_self,Nat.mod_mod_of_dvd];rw[show(256:Nat)=2^8 by rfl];exact Nat.pow_dvd_pow 2 zo
 rw[<-e2];generalize dg v (k/8)/2^(k%8*8)=y;simp[IntKind.wrap,IntKind.signed,IntKind.bits]
def AB (b o m cap v:Nat)(w:World)(hm:m<=1099511627776)(hcap:m<=cap)(hx:eN w b o m v)(hv:v<WW^m):
 Cv 158 #[.slice (some ⟨b,o,none⟩) m cap] w (ai (nt v)):=by
 have hle:=jY hv;have hbl:bT v<=64*m:=iG (by rw[<-mW];exact hv);have hmk:=uT (((bT v:Int)+7)/8) ((bT v+7)/8) zo zo;have VG:(bT v+7)/8<=8*ln v:=by have h1:bT v<=64*ln v:=iG (by rw[<-mW];exact fC v);omega
 have wV:Hid ((List.range ((bT v+7)/8)).map (λj=>UInt8.ofNat (v/256^((bT v+7)/8-1-j)%256))=nt v):=Xq _ _ (GU v).1 (GU v).2;generalize hn:(bT v+7)/8=n at*;have hnb:n<=17592186044416:=by omega
 have Hn:=ar hn;have VK:((bT v:Int)+7)/8=(n:Int):=by omega
 rw[VK]at hmk;clear hn;have Hx:=ar hx;clear hx;have Hv:=ar hv;clear hv;have uf:Hid (eN w b o (ln v) v):=Hx.out.less hle;go_enter Tryz.func158,Tryz.ntmps158;go_wp2_with fail;refine(mY b o m cap v _ zo hcap Hx.out Hv.out).mono ?_;rintro e w' ⟨rfl,rfl⟩;go_wp2_with fail;refine(ag5 b o (ln v) cap v _ zo zo uf.out (fC v)).mono ?_;rintro e w' ⟨rfl,rfl⟩;go_wp2;go_loopw[5,15] (λ_ i wr=>∃k:Nat,k<=n/\i=ah k/\au wr w.heap.size 5 (dw n (λj=>if n-k<=j then v/256^(n-1-j)%256 else 0))/\Bw w wr) (λ_ i _=>n-(intOf i).toNat);case atStart=>
  refine⟨0,Nat.zero_le _,rfl,?_,zl⟩;have e:dw n (λj=>if n-0<=j then v/256^(n-1-j)%256 else 0)=dw n λ_=>0:=ql λj hj=>by rw[if_neg zo]
  rw[e];exact au.new _ _ _
 case round=>
  obtain⟨k,hk,rfl,hB,hb⟩:=hrel;by_cases hlt:k<n
  . have mB:wr.cell? ⟨b,o+k/8,none⟩=some (.int .u64 (dg v (k/8):Int)):=cell_later hb (uf.out _ zo);have h8:k/8<ln v:=by omega
    have aCB:=byte_of v k;have hcell:wr.cell? ⟨w.heap.size,n-1-k,none⟩=some (.int .u8 0):=by rw[hB.cell,mL _ _ _ zo,if_neg zo];rfl
    have hfree:wr.frozen? ⟨w.heap.size,n-1-k,none⟩=false:=hB.free _;have bX:=hB.set (n-1-k) (.int .u8 ((v/256^k%256:Nat):Int));have hb1:=hb.setCell (p:=⟨w.heap.size,n-1-k,none⟩) (Nat.le_refl _) (.int .u8 ((v/256^k%256:Nat):Int))
    rw[CV,ql (g:=λj=>if n-(k+1)<=j then v/256^(n-1-j)%256 else 0) λj hj=>by
     by_cases vP:j=n-1-k
     . subst vP;rw[if_pos rfl,if_pos zo,show n-1-(n-1-k)=k by omega]
     . rw[if_neg vP];by_cases fZ:n-k<=j
       . rw[if_pos fZ,if_pos zo]
       . rw[if_neg fZ,if_neg zo]]at bX
    obtain⟨fu,Hb⟩:=aZ bX hb1;clear hB hb bX hb1;generalize v/256^k%256=Z at*;go_wp2;go_roundw;case rel=>exact⟨k+1,by omega,by go_num,fu.out,Hb.out⟩
    case measure=>exact bI
  . obtain rfl:k=n:=by omega
    rw[ql (g:=λj=>v/256^(k-1-j)%256) λj hj=>by rw[if_pos zo]]at hB;have rS:=vp hB k;rw[wV.out]at rS;have Hb:=ar hb;clear hb hB;go_wp2;go_ret;exact⟨rfl,Hb.out⟩
def pZ {t e sz:Nat}(hu:Tryz.prog.underlying t=some (.slice e))(hs:(Tryz.prog.info? e).map (·.size)=some sz){a:Option Addr}{b o:Nat}(n cap k:Nat)(i:Int)
 (ha:a=some ⟨b,o,none⟩) (hk:k<n) (hi:i=k) (W:World):
 (Instr.indexAt t (.slice a n cap) (ah i)).run Tryz.prog W=.ok (.pointer (some ⟨b,o+k*sz,none⟩)) W:=by
 subst ha;subst hi;obtain⟨inf,h1,h2⟩:=Option.map_eq_some_iff.1 hs;have hk':(0:Int)<=(k:Int)/\(k:Int)<(n:Int):=by omega
 have hadd:(⟨b,o,none⟩:Addr).add (k*sz)=⟨b,o+k*sz,none⟩:=by unfold Addr.add;split<;>simp_all
 simp[Instr.indexAt,run_underlying hu,asIntOf,hk,sizeOf,typeInfo,h1,h2,hadd]
abbrev atQ := @pZ 103 105 1 Tryz.underlying103 zk
abbrev atT := @pZ 116 2 1 Tryz.underlying116 zk
abbrev xZ := @pZ 130 46 2 Tryz.underlying130 zk
abbrev EU := @pZ 142 130 1 Tryz.underlying142 zk
abbrev JW := @pZ 154 3 1 Tryz.underlying154 zk
abbrev JX := @pZ 166 152 1 Tryz.underlying166 zk
abbrev gJ := @pZ 22 67 4 Tryz.underlying22 zk
abbrev Ai := @pZ 26 56 1 Tryz.underlying26 zk
abbrev kP := @pZ 32 48 3 Tryz.underlying32 zk
abbrev vZ := @pZ 53 9 1 Tryz.underlying53 zk
abbrev EW := @pZ 56 48 3 Tryz.underlying56 zk
abbrev WJ := @pZ 78 48 3 Tryz.underlying78 zk
abbrev EX := @pZ 82 32 1 Tryz.underlying82 zk
abbrev tq := @pZ 84 5 1 Tryz.underlying84 zk
abbrev Aj := @pZ 86 24 2 Tryz.underlying86 zk
def At (w:World)(a:Option Addr)(cs:List Value):Prop:=cs=[]\/∃b o,a=some ⟨b,o,none⟩/\∀j,j<cs.length->w.cell? ⟨b,o+j,none⟩=cs[j]?
def At.nil (w:World)(a:Option Addr):At w a []:=.inl rfl
def At.below {w w':World}{a:Option Addr}{cs:List Value}(h:At w a cs)(hb:Bw w w'):At w' a cs:=by
 rcases h with h|⟨b,o,ha,hc⟩
 . exact .inl h
 . refine .inr ⟨b,o,ha,λj hj=>?_⟩;have:=hc j hj;rw[List.getElem?_eq_getElem hj]at this⊢;exact cell_later hb this
def kA {w w':World}{a:Option Addr}{cs:List Value}(h:Hid (At w a cs))(k:Bw w w'):Hid (At w' a cs):=h.out.below k
def At.grown {w w':World}{a:Option Addr}{cs:List Value}{r:Option Nat}(h:At w a cs)(hb:w.grownBy w' r)(hr:∀b o,a=some ⟨b,o,none⟩->some b≠r):At w' a cs:=by
 rcases h with h|⟨b,o,ha,hc⟩
 . exact .inl h
 . refine .inr ⟨b,o,ha,λj hj=>?_⟩;have:=hc j hj;rw[List.getElem?_eq_getElem hj]at this⊢;exact hb.cell this (hr b o ha)
def At.get {w:World}{a:Option Addr}{cs:List Value}(h:At w a cs)(h0:cs≠[]):∃b o,a=some ⟨b,o,none⟩/\∀j,j<cs.length->w.cell? ⟨b,o+j,none⟩=cs[j]?:=by
 rcases h with h|h
 . exact absurd h h0
 . exact h
def At.lt {w:World}{b o:Nat}{cs:List Value}(h:At w (some ⟨b,o,none⟩) cs)(h0:cs≠[]):b<w.heap.size:=by
 obtain⟨b',o',ha,hc⟩:=h.get h0;cases ha
 have hp:0<cs.length:=List.length_pos_iff.2 h0;have:=hc 0 hp;rw[List.getElem?_eq_getElem hp]at this;exact World.block_lt_of_cell? w _ this
def DJ (w:World)(a:Option Addr)(n v:Nat):Prop:=0<n->∃b o,a=some ⟨b,o,none⟩/\eN w b o n v
def DJ.below {w w':World}{a:Option Addr}{n v:Nat}(h:DJ w a n v)(hb:Bw w w'):DJ w' a n v:=λh0=>
 let ⟨b,o,ha,hl⟩:=h h0;⟨b,o,ha,hl.below hb⟩
def aiS (a:Option Addr)(cap:Nat)(w:World):
 Cv 158 #[.slice a 0 cap] w (.string (bs [])):=by
 have hmk:=uT 0 0 rfl zo;have rS:=vp (au.new w 5 (dw 0 λ_=>0)) 0;go_enter Tryz.func158,Tryz.ntmps158;go_wp2_with fail;refine(acp cap a _).mono ?_;rintro e w' ⟨rfl,rfl⟩;go_wp2_with fail;refine(auK a cap _).mono ?_;rintro e w' ⟨rfl,rfl⟩;go_wp2;refine wp_loop_rounds 1 ?_;rw[rounds_succ];go_wp2;go_ret;exact⟨rfl,zl⟩
def aiR (a:Option Addr)(m cap v:Nat)(w:World)(hm:m<=1099511627776)(hcap:m<=cap)(hx:DJ w a m v)(hv:v<WW^m):
 Cv 158 #[.slice a m cap] w (ai (nt v)):=by
 rcases Nat.eq_zero_or_pos m with h|h
 . subst h;have:v=0:=by simpa using hv
   subst this;exact aiS a cap w
 . obtain⟨b,o,rfl,hl⟩:=hx h;exact AB b o m cap v w hm hcap hl hv
def awn (n:Nat)(h:n<WW)(w:World):au (w.alloc (.cells #[.int .u64 (n:Int)] 152)) w.heap.size 152 (bU 1 (dg n)):=by
 have e0:dg n 0=n:=by simp[dg,Nat.mod_eq_of_lt h]
 have e:bU 1 (dg n)=[.int .u64 (n:Int)]:=by simp[bU,e0]
 rw[e];exact au.new _ _ _
def ahz (n:Nat)(h:n<WW)(w:World):
 Cv 119 #[.int .u64 (n:Int)] w (ai (nt n)):=by
 have hB:=awn n h w;have Hc:Hid (eN (w.alloc (.cells #[.int .u64 (n:Int)] 152)) w.heap.size 0 1 n):=λj hj=>by rw[Nat.zero_add,hB.cell,iz _ _ _ hj]
 have Hh:=ar h;clear h hB;go_enter Tryz.func119,Tryz.ntmps119;go_wp2_with (go_at_call 158;refine(AB w.heap.size 0 1 1 n _ zo zo Hc.out (by rw[Nat.pow_one];exact Hh.out)).mono ?_;rintro e w' ⟨rfl,hb⟩);go_ret;exact⟨rfl,zl.trans (hb.mono zm)⟩
def aps (l:List UInt8)(k:Nat):(bs l).extract k (bs l).size=bs (l.drop k):=by rw[apu ((bs l).extract k (bs l).size)];congr 1;rw[iH];simp[bs,ByteArray.data_extract];rw[List.take_of_length_le zm]
def ay6 (l:List UInt8)(i:Int)(k:Nat)(hk:k<=l.length)(hi:i=k)(W:World):
 (Instr.sliceAt 9 (ai l) (some (ah i)) none none).run Tryz.prog W=.ok (ai (l.drop k)) W:=by
 subst hi;have h:=run_slice_string_from_if (P:=Tryz.prog) W 9 (bs l) .i64 k Tryz.underlying9;rw[if_pos (by rw[iH];omega)]at h;simp only[Int.toNat_natCast,aps l k]at h;simpa[Instr.sliceAt,run_underlying Tryz.underlying9]using h
def azQ (l:List UInt8)(w:World)(_hs:l.length<=1099511627776):
 Cl 194 #[ai l,.int .u8 0] w λe w'=>e=.returned (ai (nt (nv l)))/\w=w':=by
 go_enter Tryz.func194,Tryz.ntmps194;go_wp2;go_loop [0] (λx=>∃m:List UInt8,m.length<=l.length/\nv m=nv l/\x=ai m) (λx=>match x with| .string s=>s.size|_=>0)
 case atStart=>exact⟨l,Nat.le_refl _,rfl,rfl⟩
 case round=>
  obtain⟨m,hm,hv,rfl⟩:=hrel;have Hv:=ar hv;clear hv;have hsz:=iH m;cases m with
  | nil=>
    go_wp2;go_ret;have e:nt (nv l)=[]:=by rw[<-Hv.out];rfl
    rw[e];exact⟨rfl,rfl⟩
  | cons c m=>
    have iV:=uO (c::m) 0 0 zm rfl;have hsl:=ay6 (c::m) 1 1 zm rfl;simp only[List.getElem_cons_zero,List.drop_succ_cons,List.drop_zero]at iV hsl;have uI:0<m.length+1:=by omega
    have lj:Hid (m.length+1<=l.length):=hm;rw[List.length_cons]at hsz hm;by_cases hc:c=0
    . have hct:((c.toNat:Int)==0)=true:=by rw[hc];rfl
      have Hn:Hid (nv m=nv l):=by
       show nv m=nv l
       rw[<-Hv.out,wn,hc];simp
      clear hc;go_wp2;refine⟨⟨m,by have:=lj.out;omega,Hn.out,rfl⟩,?_⟩;simp[iH]
    . have hcn:c.toNat≠0:=λh0=>hc (UInt8.toNat_inj.1 (by simpa using h0));have hct:((c.toNat:Int)==0)=false:=by rw[beq_eq_false_iff_ne];omega
      have He:Hid (nt (nv l)=c::m):=by
       show nt (nv l)=c::m
       rw[<-Hv.out];exact ahJ _ (λx hx=>by simp at hx;subst hx;exact hc)
      clear hc hcn;go_wp2;go_ret;rw[He.out];exact⟨rfl,rfl⟩
def azJ (a:ByteArray)(k i:Nat)(hk:a.size-i=k)(r:List UInt8):ByteArray.toList.loop a i r=r.reverse++a.data.toList.drop i:=by
 induction k generalizing i r with
 |zero=>unfold ByteArray.toList.loop;rw[if_neg zo,List.drop_eq_nil_of_le zi,List.append_nil]
 | succ k ih=>
   unfold ByteArray.toList.loop;have hi:i<a.size:=by omega
   have hi':i<a.data.toList.length:=by simpa using hi
   rw[if_pos hi,ih (i+1) zo,List.drop_eq_getElem_cons hi',List.reverse_cons,List.append_assoc];congr 2;simp[ByteArray.get!,hi]
def gX (l:List UInt8):(bs l).toList=l:=by
 show ByteArray.toList.loop (bs l) 0 []=l
 rw[azJ _ _ _ rfl,apr];simp
def xx (l:List UInt8):(bs l).toList.isEmpty=l.isEmpty:=by rw[gX]
def azR (l:List UInt8)(w:World)(hs:l.length<=1099511627776):
 Cl 177 #[ai l,.string ⟨#[0]⟩] w λe w'=>e=.returned (ai (nt (nv l)))/\w=w':=by
 cases l with
 |nil=>have hne:=xx [];simp only[List.isEmpty_nil]at hne;go_enter Tryz.func177,Tryz.ntmps177;go_wp2;go_ret;exact⟨rfl,rfl⟩
 |cons c m=>have hne:=xx (c::m);simp only[List.isEmpty_cons]at hne;go_enter Tryz.func177,Tryz.ntmps177;go_wp2_with (go_at_call 194;refine(azQ _ _ hs).mono ?_;rintro e w' ⟨rfl,rfl⟩);go_ret;exact⟨rfl,rfl⟩
def ai1 (l:List UInt8)(w:World)(hs:l.length<=1099511627776):
 Cl 145 #[ai l] w λe w'=>e=.returned (ai (nt (nv l)))/\w=w':=by
 go_enter Tryz.func145,Tryz.ntmps145;go_wp2_with (go_at_call 177;refine(azR _ _ hs).mono ?_;rintro e w' ⟨rfl,rfl⟩);go_ret;exact⟨rfl,rfl⟩
def au.lim {w:World}{b:Nat}{t:TypeId}{N v:Nat}(h:au w b t (bU N (dg v)))(n:Nat)(hn:n<=N):eN w b 0 n v:=
 λj hj=>by rw[Nat.zero_add,h.cell,iz _ _ _ zo]
def avY (l m:List UInt8)(w:World)(hl:l.length<=68719476736)(hm:m.length<=68719476736):
 Cv 174 #[ai l,ai m] w (ah (dU (nv l) (nv m))):=by
 go_enter Tryz.func174,Tryz.ntmps174;go_wp2_with fail;refine(oO l _ zo).mono ?_;rintro e w1 ⟨rfl,bX,hb1,gz⟩;obtain⟨ft,cu⟩:=aZ bX hb1;clear bX hb1;go_wp2_with fail;refine(oO m _ zo).mono ?_;rintro e w2 ⟨rfl,eO,hb2,pN⟩;obtain⟨fN,dD⟩:=aZ eO hb2;clear eO hb2;go_wp2_with fail;refine(CB w.heap.size 0 (ln (nv l)) ((l.length+7)/8) (nv l) w1.heap.size 0 (ln (nv m)) ((m.length+7)/8) (nv m) _ zo gz ((ft.out.below dD.out).lim _ gz) (fC _) zo pN (fN.out.lim _ pN) (fC _)).mono ?_;rintro e w3 ⟨rfl,hb3⟩;have eW:=ar hb3;clear hb3;go_wp2;go_ret;exact⟨rfl,(cu.out.trans (dD.out.mono cu.out.size)).trans (eW.out.mono (Nat.le_trans cu.out.size dD.out.size))⟩
def Xm (l:List UInt8)(w:World)(hl:l.length<=68719476736):
 Cv 140 #[ai l] w (ah (bT (nv l):Int)):=by
 go_enter Tryz.func140,Tryz.ntmps140;go_wp2_with fail;refine(oO l _ zo).mono ?_;rintro e w1 ⟨rfl,bX,hb1,gz⟩;obtain⟨ft,cu⟩:=aZ bX hb1;clear bX hb1;go_wp2_with fail;refine(ag5 w.heap.size 0 (ln (nv l)) ((l.length+7)/8) (nv l) _ zo gz (ft.out.lim _ gz) (fC _)).mono ?_;rintro e w3 ⟨rfl,rfl⟩;go_wp2;go_ret;exact⟨rfl,cu.out⟩
def tz (v:Nat):Nat:=((v:Int)).trailingZeros
def ai6 (k m:Nat):tz (2^k* (2*m+1))=k:=by
 unfold tz;have e:((2^k* (2*m+1):Nat):Int)=(2* (m:Int)+1)<<<k:=by rw[Int.shiftLeft_eq];simp[Int.natCast_mul,Int.natCast_pow,Int.mul_comm]
 rw[e,Int.trailingZeros_shiftLeft zo,Int.trailingZeros_two_mul_add_one,Nat.zero_add]
def azU (v i:Nat)(h0:v%WW^i=0)(hd:dg v i≠0):tz v=64*i+Lib.ctz 64 (dg v i):=by
 obtain⟨m,hm,hlt⟩:=aco (dg v i) (kI v i) hd;generalize Lib.ctz 64 (dg v i)=c at*;have e1:v=WW^i* (v/WW^i):=by have:=(Nat.mod_add_div v (WW^i)).symm;rw[h0,Nat.zero_add]at this;exact this
 have e2:v/WW^i=dg v i+WW* (v/WW^i/WW):=(Nat.mod_add_div _ _).symm;have e3:WW=2^c* (2*2^(63-c)):=by rw[<-Nat.pow_succ',<-Nat.pow_add,mV];congr 1;omega
 have e4:v=2^(64*i+c) * (2* (m+2^(63-c) * (v/WW^i/WW))+1):=by
  conv=>lhs;rw[e1,e2,hm]
  rw[Nat.pow_add,<-mW,Nat.mul_assoc];congr 1;generalize v/WW^i/WW=y;conv=>lhs;rw[e3]
  rw[Nat.mul_assoc,<-Nat.mul_add];congr 1;rw[Nat.mul_add,Nat.mul_assoc];omega
 rw[e4];exact ai6 _ _
def Xn (l:List UInt8)(w:World)(hl:l.length<=68719476736)(hT:aM w):
 Cv 102 #[ai l] w (ah (tz (nv l):Int)):=by
 have HT:=ar hT;clear hT;go_enter Tryz.func102,Tryz.ntmps102;go_wp2_with fail;refine(oO l _ zo).mono ?_;rintro e w1 ⟨rfl,bX,hb1,gz⟩;obtain⟨ft,cu⟩:=aZ bX hb1;clear bX hb1;have hn:ln (nv l)<=549755813888:=by omega
 have Dq:Hid (nv l<WW^ln (nv l)):=fC _;generalize hvv:nv l=v at*;have HV:=ar hvv;clear hvv;go_wp2;go_loop [3,4,8] (λ_ _ i=>∃k:Nat,k<=ln v/\i=ah k/\v%WW^k=0) (λ_ _ i=>ln v-(intOf i).toNat)
 case atStart=>exact⟨0,Nat.zero_le _,rfl,by simp[Nat.mod_one]⟩
 case round=>
  obtain⟨k,hk,rfl,hz⟩:=hrel;have Hz:=ar hz;clear hz;by_cases hlt:k<ln v
  . have hcell:w1.cell? ⟨w.heap.size,k,none⟩=some (.int .u64 (dg v k:Int)):=by have:=ft.out.lim _ gz k hlt;rwa [Nat.zero_add]at this
    by_cases hd:dg v k=0
    . have hd':((dg v k:Int) !=0)=false:=by simp[hd]
      have Hd:=ar hd;clear hd;go_wp2;go_round
      case rel=>exact⟨k+1,by omega,by go_num,by rw[CE,Hz.out,Hd.out];simp⟩
      case measure=>exact bI
    . have hd':((dg v k:Int) !=0)=true:=by rw[bne_iff_ne];omega
      have Hd:=ar hd;clear hd;obtain⟨tQ,iE⟩:=aZ (HT.out.below cu.out) (azU v k Hz.out Hd.out);have hct:Lib.ctz 64 (dg v k)<64:=by obtain⟨_,_,h⟩:=aco (dg v k) (kI v k) Hd.out;exact h
      go_wp2_with (go_at_call 137;refine(azT _ (kI _ _) Hd.out _ tQ.out).mono ?_;rintro e w' ⟨rfl,rfl⟩);go_ret;rw[HV.out,iE.out];exact⟨congrArg (λz:Int=>Ending.returned (ah z)) zo,cu.out⟩
  . have dF:Hid (v=0):=by have:=Hz.out;rwa [Nat.mod_eq_of_lt (Nat.lt_of_lt_of_le Dq.out (Nat.pow_le_pow_right kG zo))]at this
    go_wp2;go_ret;rw[HV.out,dF.out];exact⟨rfl,cu.out⟩
def Mt (l:List UInt8):nv l<WW^((l.length+7)/8):=by refine Nat.lt_of_lt_of_le (ib l) ?_;rw[mW,show(256:Nat)=2^8 by rfl,<-Nat.pow_mul];exact Nat.pow_le_pow_right zd zo
def ahA (l m:List UInt8)(w:World)(hl:l.length<=68719476736)(hm:m.length<=68719476736)(h:nv m<=nv l):
 Cv 144 #[ai l,ai m] w (.tuple #[ai (nt (nv l-nv m)),aj true]):=by
 have hc0:0<=dU (nv l) (nv m):=by unfold dU;rw[if_neg zo];split<;>omega
 have Hh:=ar h;clear h;go_enter Tryz.func144,Tryz.ntmps144;go_wp2_with fail;refine(oO l _ zo).mono ?_;rintro e w1 ⟨rfl,bX,hb1,gz⟩;obtain⟨ft,cu⟩:=aZ bX hb1;clear bX hb1;go_wp2_with fail;refine(oO m _ zo).mono ?_;rintro e w2 ⟨rfl,eO,hb2,pN⟩;obtain⟨fN,dD⟩:=aZ eO hb2;clear eO hb2;go_wp2_with fail;refine(CB w.heap.size 0 (ln (nv l)) ((l.length+7)/8) (nv l) w1.heap.size 0 (ln (nv m)) ((m.length+7)/8) (nv m) _ zo gz ((ft.out.below dD.out).lim _ gz) (fC _) zo pN (fN.out.lim _ pN) (fC _)).mono ?_;rintro e w3 ⟨rfl,hb3⟩;have eW:=ar hb3;clear hb3;go_wp2_with fail;refine(Kf w.heap.size ((l.length+7)/8) 0 (ln (nv l)) ((l.length+7)/8) (dg (nv l)) (nv l) w1.heap.size 0 (ln (nv m)) ((m.length+7)/8) (nv m) _ zo zo ((ft.out.below dD.out).below eW.out) zo (λj _=>by rw[Nat.zero_add]) ((fN.out.below eW.out).lim _ pN) (fC _) (by have:=ft.out.lt;omega) Hh.out (fC _)).mono ?_;rintro e w4 ⟨rfl,hB4,hg4⟩;have HL:Hid (eN w4 w.heap.size 0 (ln (nv l)) (nv l-nv m)):=λj hj=>by rw[hB4.cell,iz _ _ _ zo,Km _ _ _ _ _ hj]
 have Hg4:=ar hg4;clear hB4 hg4;go_wp2_with fail;refine(AB w.heap.size 0 (ln (nv l)) ((l.length+7)/8) (nv l-nv m) _ zo gz HL.out (Nat.lt_of_le_of_lt (Nat.sub_le _ _) (fC _))).mono ?_;rintro e w5 ⟨rfl,dL⟩;have eX:=ar dL;clear dL;go_wp2;go_ret2
 refine⟨rfl,?_⟩;have s1:=cu.out.size;have s2:=dD.out.size;have s3:=eW.out.size;have b3:=((cu.out.trans (dD.out.mono s1)).trans (eW.out.mono (Nat.le_trans s1 s2)));have b4:=b3.grown Hg4.out b3.size (λk hk=>by cases hk;exact Nat.le_refl _);exact b4.trans (eX.out.mono b4.size)
def av3 (l:List UInt8)(n:Nat)(w:World)(hl:l.length<=68719476736)(hn:n<=549755813888):
 Cv 138 #[ai l,ah (n:Int)] w (ai (nt (nv l*2^n))):=by
 have hmax:max (n:Int) 0=(n:Int):=by omega
 go_enter Tryz.func138,Tryz.ntmps138;go_wp2_with fail;refine(oO l _ zo).mono ?_;rintro e w1 ⟨rfl,bX,hb1,gz⟩;obtain⟨ft,cu⟩:=aZ bX hb1;clear bX hb1;go_wp2_with fail;refine(YM w.heap.size 0 (ln (nv l)) ((l.length+7)/8) (nv l) n _ zo hn (ft.out.lim _ gz) (fC _)).mono ?_;rintro e w2 ⟨rfl,eO,hb2,pN⟩;obtain⟨fN,dD⟩:=aZ eO hb2;clear eO hb2;go_wp2_with fail;refine(AB w1.heap.size 0 (ln (nv l*2^n)) (ln (nv l)+n/64+1) (nv l*2^n) _ zo pN (fN.out.lim _ pN) (fC _)).mono ?_;rintro e w3 ⟨rfl,hb3⟩;have eW:=ar hb3;clear hb3;go_wp2;go_ret;exact⟨rfl,(cu.out.trans (dD.out.mono cu.out.size)).trans (eW.out.mono (Nat.le_trans cu.out.size dD.out.size))⟩
def av4 (l:List UInt8)(n:Nat)(w:World)(hl:l.length<=68719476736)(hn:n<=1099511627776):
 Cv 139 #[ai l,ah (n:Int)] w (ai (nt (nv l/2^n))):=by
 have hmax:max (n:Int) 0=(n:Int):=by omega
 by_cases hlt:n/64<ln (nv l)
 . go_enter Tryz.func139,Tryz.ntmps139;go_wp2_with fail;refine(oO l _ zo).mono ?_;rintro e w1 ⟨rfl,bX,hb1,gz⟩;obtain⟨ft,cu⟩:=aZ bX hb1;clear bX hb1;go_wp2_with fail;refine(acF w.heap.size 0 (ln (nv l)) ((l.length+7)/8) (nv l) n _ zo gz hn (ft.out.lim _ gz) (fC _) hlt).mono ?_;rintro e w2 ⟨rfl,eO,hb2,pN⟩;obtain⟨fN,dD⟩:=aZ eO hb2;clear eO hb2;go_wp2_with fail;refine(AB w1.heap.size 0 (ln (nv l/2^n)) (ln (nv l)-n/64) (nv l/2^n) _ zo pN (fN.out.lim _ pN) (fC _)).mono ?_;rintro e w3 ⟨rfl,hb3⟩;have eW:=ar hb3;clear hb3;go_wp2;go_ret;exact⟨rfl,(cu.out.trans (dD.out.mono cu.out.size)).trans (eW.out.mono (Nat.le_trans cu.out.size dD.out.size))⟩
 . have H0:Hid (nt (nv l/2^n)=[]):=by
    show nt (nv l/2^n)=[]
    rw[Xp];refine Nat.div_eq_of_lt (Nat.lt_of_lt_of_le (fC _) ?_);rw[mW];exact Nat.pow_le_pow_right zd zo
   go_enter Tryz.func139,Tryz.ntmps139;go_wp2_with fail;refine(oO l _ zo).mono ?_;rintro e w1 ⟨rfl,bX,hb1,gz⟩;obtain⟨ft,cu⟩:=aZ bX hb1;clear bX hb1;go_wp2_with fail;refine(acG _ (ln (nv l)) ((l.length+7)/8) n _ zo hn zo).mono ?_;rintro e w2 ⟨rfl,rfl⟩;go_wp2_with fail;refine(aiS none 0 _).mono ?_;rintro e w3 ⟨rfl,hb3⟩;have eW:=ar hb3;clear hb3;go_wp2;go_ret;rw[H0.out];exact⟨rfl,cu.out.trans (eW.out.mono cu.out.size)⟩
def avM (v u k:Nat)(o:Nat):v%WW^k*u+dg v k*u*WW^k=v%WW^(k+1) *u/\o=o:=by refine⟨?_,rfl⟩;rw[CE,Nat.add_mul,Nat.mul_comm (WW^k),Nat.mul_assoc,Nat.mul_assoc,Nat.mul_comm u]
def av2 (l m:List UInt8)(w:World)(hl:l.length<=68719476736)(hm:m.length<=68719476736):
 Cv 146 #[ai l,ai m] w (ai (nt (nv l*nv m))):=by
 go_enter Tryz.func146,Tryz.ntmps146;go_wp2_with fail;refine(oO l _ zo).mono ?_;rintro e w1 ⟨rfl,bX,hb1,gz⟩;obtain⟨ft,cu⟩:=aZ bX hb1;clear bX hb1;go_wp2_with fail;refine(oO m _ zo).mono ?_;rintro e w2 ⟨rfl,eO,hb2,pN⟩;obtain⟨fN,dD⟩:=aZ eO hb2;clear eO hb2;have LV:Hid (nv l<WW^ln (nv l)):=fC _;have Hlu:Hid (nv m<WW^ln (nv m)):=fC _;generalize hv:nv l=v at*;generalize hu:nv m=u at*;obtain⟨HV,HU⟩:=aZ hv hu;clear hv hu;have hmk:=CC ((ln v:Int)+(ln u:Int)+1) (ln v+ln u+1) zo zo;generalize hM:ln v+ln u+1=M at*;have NM:ln v+ln u+1<=M:=by omega
 have uv:M<=ln v+ln u+1:=by omega
 have HM:=ar hM;clear hM;have aC0:w.heap.size<w2.heap.size:=by have:=ft.out.lt;have:=dD.out.size;omega
 have aC1:w1.heap.size<w2.heap.size:=fN.out.lt;go_wp2;go_loopw[8,9,23] (λ_ _ i wr=>∃k:Nat,k<=ln v/\i=ah k/\au wr w2.heap.size 152 (bU M (dg (v%WW^k*u)))/\Bw w2 wr) (λ_ _ i _=>ln v-(intOf i).toNat);case atStart=>
  refine⟨0,Nat.zero_le _,rfl,?_,zl⟩;have e:bU M (dg (v%WW^0*u))=bU M λ_=>0:=lU λj _=>by simp[dg,Nat.mod_one]
  rw[e];exact au.new _ _ _
 case round=>
  obtain⟨k,hk,rfl,hB,hb⟩:=hrel;by_cases hlt:k<ln v
  . have hcell:wr.cell? ⟨w.heap.size,k,none⟩=some (.int .u64 (dg v k:Int)):=by have:=(((ft.out.below dD.out).below hb).lim _ gz) k hlt;rwa [Nat.zero_add]at this
    have hcap:¬M=k:=by omega
    have HY:Hid (eN wr w1.heap.size 0 (ln u) u):=(fN.out.below hb).lim _ pN;obtain⟨HB,Hb⟩:=aZ hB hb;clear hB hb;go_wp2_with fail;refine(Pj w2.heap.size M k (M-k) (M-k) (dg (v%WW^k*u)) (v%WW^k*u/WW^k) w1.heap.size 0 (ln u) ((m.length+7)/8) u (dg v k) _ zo zo HB.out zo (λj _=>(MZ _ _ _).symm) HY.out Hlu.out zo (kI _ _)).mono ?_;rintro e w4 ⟨rfl,hB4,hg4⟩;have fu:Hid (au w4 w2.heap.size 152 (bU M (dg (v%WW^(k+1) *u)))):=by
     show au w4 w2.heap.size 152 (bU M (dg (v%WW^(k+1) *u)))
     rw[lU (g:=ic (dg (v%WW^k*u)) k (M-k) (dg (v%WW^k*u/WW^k+u*dg v k))) λj hj=>?_]
     . exact hB4
     . have hval:=(avM v u k 0).1;unfold ic;by_cases hjk:k<=j
       . rw[if_pos zo];have e1:v%WW^k*u/WW^k+u*dg v k=v%WW^(k+1) *u/WW^k:=by rw[<-hval,Nat.mul_comm _ (WW^k),Nat.add_mul_div_left _ _ (eY k),Nat.mul_comm u]
         rw[e1,MZ,show k+(j-k)=j by omega]
       . rw[if_neg zo,<-acE (n:=k) (show j<k by omega),<-hval,Nat.add_mul_mod_self_right,acE (show j<k by omega)]
    have nZ:Hid (Bw w2 w4):=Hb.out.grown hg4 Hb.out.size (λj hj=>by cases hj;exact Nat.le_refl _);clear hB4 hg4;go_wp2;go_roundw;case rel=>exact⟨k+1,by omega,by go_num,fu.out,nZ.out⟩
    case measure=>exact bI
  . obtain rfl:k=ln v:=by omega
    rw[Nat.mod_eq_of_lt LV.out]at hB;obtain⟨HB,Hb⟩:=aZ hB hb;clear hB hb;have Hvu:Hid (v*u<WW^M):=by
     show v*u<WW^M
     refine Nat.lt_of_lt_of_le (Nat.mul_lt_mul'' LV.out Hlu.out) ?_;rw[<-Nat.pow_add];exact Nat.pow_le_pow_right kG zo
    go_wp2_with fail;refine(AB w2.heap.size 0 M M (v*u) _ zo (Nat.le_refl _) (HB.out.lim _ (Nat.le_refl _)) Hvu.out).mono ?_;rintro e w5 ⟨rfl,dL⟩;have eX:=ar dL;clear dL;go_wp2;go_ret;rw[HV.out,HU.out];have b3:=(cu.out.trans (dD.out.mono cu.out.size)).trans (Hb.out.mono (Nat.le_trans cu.out.size dD.out.size));exact⟨rfl,b3.trans (eX.out.mono b3.size)⟩
def iN (xs:List (List UInt8)):Nat:=(xs.map nv).sum
def awa (xs:List (List UInt8))(B:Nat)(h:∀l∈xs,l.length<=B):iN xs<=xs.length*256^B:=by
 unfold iN;induction xs with
 |nil=>simp
 |cons l xs ih=>have h1:=ib l;have h2:256^l.length<=256^B:=Nat.pow_le_pow_right zd (h l zm);have h3:=ih (λm hm=>h m (by simp[hm]));simp only[List.map_cons,List.sum_cons,List.length_cons];rw[Nat.add_mul,Nat.one_mul];omega
def auN (xs:List (List UInt8))(B N:Nat)(h:∀l∈xs,l.length<=B)(hx:xs.length<=1048576)(hN:8*B+20<64*N):ln (iN xs)<=N:=by refine jY (Nat.lt_of_le_of_lt (awa xs _ h) ?_);refine Nat.lt_of_le_of_lt (Nat.mul_le_mul_right _ hx) ?_;rw[mW,show(256:Nat)=2^8 from rfl,<-Nat.pow_mul,show(1048576:Nat)=2^20 from rfl,<-Nat.pow_add];exact Nat.pow_lt_pow_right zd zo
def auM (xs:List (List UInt8))(h:∀l∈xs,l.length<=68719476736)(hx:xs.length<=1048576):ln (iN xs)<=8589934593:=
 auN xs 68719476736 8589934593 h hx zd
def ahE (xs:List (List UInt8))(k:Nat)(hk:k<xs.length):iN (xs.take (k+1))=iN (xs.take k)+nv xs[k]:=by unfold iN;rw[List.take_succ_eq_append_getElem hk,List.map_append,List.sum_append];simp
def avW (xs:List (List UInt8))(a:Option Addr)(cap:Nat)(w:World)(hl:∀l∈xs,l.length<=68719476736)(hx:xs.length<=1048576)
 (ha:At w a (xs.map λl=>ai l)):
 Cv 142 #[.slice a xs.length cap] w (ai (nt (iN xs))):=by
 have Hl:=ar hl;clear hl;have Ha:=ar ha;clear ha;have hs0:∀k,ln (iN (xs.take k))<=8589934593:=λk=>auM _ (λl hm=>Hl.out l (List.mem_of_mem_take hm)) (by rw[List.length_take];omega);have Hs0:=ar hs0;clear hs0;go_enter Tryz.func142,Tryz.ntmps142;go_wp2
 go_loopw[3,5,6,9] (λs _ _ i wr=>∃(k:Nat) (a1:Option Addr) (c1:Nat),k<=xs.length/\i=ah k/\s=.slice a1 (ln (iN (xs.take k))) c1/\ln (iN (xs.take k))<=c1/\
  DJ wr a1 (ln (iN (xs.take k))) (iN (xs.take k))/\Bw w wr) (λ_ _ _ i _=>xs.length-(intOf i).toNat)
 case atStart=>exact⟨0,none,0,Nat.zero_le _,rfl,rfl,by simp[iN,WV],λh=>by simp[iN,WV]at h,Below.refl _ _⟩
 case round=>
  obtain⟨k,a1,c1,hk,rfl,rfl,hc1,hL,hb⟩:=hrel;have hlen:=Hs0.out k;by_cases hlt:k<xs.length
  . have hne:(xs.map λl=>Value.string (bs l))≠[]:=by intro h0;have:=congrArg List.length h0;simp at this;subst this;simp at hlt
    obtain⟨b,o,hab,hcs⟩:=(Ha.out.below hb).get hne;have hcell:wr.cell? ⟨b,o+k,none⟩=some (.string (bs xs[k])):=by rw[hcs k (by simpa using hlt)];simp[hlt]
    have bD:=vZ xs.length cap k (k:Int) hab hlt rfl;clear hcs hne;have mM:Hid (xs[k].length<=68719476736):=Hl.out _ (List.getElem_mem hlt);obtain⟨cn,pj⟩:=aZ (ahE xs k hlt) hab;clear hab;have hlen':=Hs0.out (k+1);rw[cn.out]at hlen';have aBk:=ar hlen';clear hlen';generalize xs[k]=x at*;generalize hS:iN (xs.take k)=S at*;have HS:=ar hS;clear hS;obtain⟨HL,Hb⟩:=aZ hL hb;clear hL hb;go_wp2_with fail;refine(oO x _ (by have:=mM.out;omega)).mono ?_;rintro e w1 ⟨rfl,bX,hb1,gz⟩;obtain⟨ft,cu⟩:=aZ bX hb1;clear bX hb1;have hx1:ln (nv x)<=8589934593:=by have:=mM.out;omega
    have alW:=ar gz;clear gz;have Hlx:Hid (nv x<WW^ln (nv x)):=fC _;have Ge:Hid (S<WW^ln S):=fC _;generalize hX:nv x=X at*;have HX:=ar hX;clear hX;have hmax:max (ln S:Int) (ln X:Int)=((max (ln S) (ln X):Nat):Int):=by omega
    have Uy:max (ln S) (ln X)<=8589934593:=by omega
    generalize zK:max (ln S) (ln X)=M at*;have NM:ln S<=M:=by omega
    have uv:ln X<=M:=by omega
    have HMM:=ar zK;clear zK;go_wp2_with fail;refine(TF a1 (ln S) c1 S ((M:Int)+1) _ zo zo zo (HL.out.below cu.out) Ge.out).mono ?_;rintro e w2 ⟨rfl,eO,hb2⟩;rw[show max ((M:Int)+1).toNat (ln S)=M+1 by omega]at eO⊢;obtain⟨fN,dD⟩:=aZ eO hb2;clear eO hb2;go_wp2_with fail;refine(aus w1.heap.size (M+1) 0 (M+1) (M+1) (dg S) S wr.heap.size 0 (ln X) ((x.length+7)/8) X _ zo zo fN.out zo (λj _=>by rw[Nat.zero_add]) ((ft.out.below dD.out).lim _ alW.out) Hlx.out (by have:=ft.out.lt;omega)).mono ?_;rintro e w3 ⟨rfl,sP,hg3⟩;have FM:Hid (eN w3 w1.heap.size 0 (M+1) (S+X)):=λj hj=>by rw[sP.cell,iz _ _ _ zo,Km _ _ _ _ _ hj]
    have Hg3:=ar hg3;clear sP hg3;have RF:Hid (S+X<WW^(M+1)):=by
     show S+X<WW^(M+1)
     have a1:=Nat.lt_of_lt_of_le Ge.out (Nat.pow_le_pow_right kG NM);have a2:=Nat.lt_of_lt_of_le Hlx.out (Nat.pow_le_pow_right kG uv);have a3:2*WW^M<=WW^(M+1):=by rw[Nat.pow_succ,Nat.mul_comm];exact Nat.mul_le_mul_left _ zd
     omega
    go_wp2_with fail;refine(mY w1.heap.size 0 (M+1) (M+1) (S+X) _ zo (Nat.le_refl _) FM.out RF.out).mono ?_;rintro e w4 ⟨rfl,rfl⟩;have eW:Hid (Bw w w3):=by have s1:=cu.out.size;have s2:=dD.out.size;have s0:=Hb.out.size;have b2:=(Hb.out.trans (cu.out.mono s0)).trans (dD.out.mono (Nat.le_trans s0 s1));exact b2.grown Hg3.out b2.size (λj hj=>by cases hj;omega)
    go_wp2;go_roundw;case rel=>
     refine⟨k+1,some ⟨w1.heap.size,0,none⟩,M+1,by omega,by go_num,?_,?_,?_,eW.out⟩
     . rw[cn.out]
     . rw[cn.out];exact jY RF.out
     . rw[cn.out];exact λ_=>⟨_,_,rfl,FM.out.less (jY RF.out)⟩
    case measure=>exact bI
  . obtain rfl:k=xs.length:=by omega
    rw[List.take_length]at*;obtain⟨HL,Hb⟩:=aZ hL hb;clear hL hb;go_wp2_with fail;refine(aiR a1 (ln (iN xs)) c1 (iN xs) _ zo hc1 HL.out (fC _)).mono ?_;rintro e w5 ⟨rfl,dL⟩;have eX:=ar dL;clear dL;go_wp2;go_ret;exact⟨rfl,Hb.out.trans (eX.out.mono Hb.out.size)⟩
def aqQ (h lo y:Nat)(w:World)(hy1:9223372036854775808<=y)(hy:y<WW)(hh:h<y)(hl:lo<WW)(h0:0<h):
 Cl 207 #[.int .u64 (h:Int),.int .u64 (lo:Int),.int .u64 (y:Int)] w λe w'=>∃r,e=.returned (.tuple #[.int .u64 (((h*WW+lo)/y:Nat):Int),.int .u64 r])/\Bw w w':=by
 have hb:bT y=64:=by have h1:bT y<=64:=iG (by rw[mV]at hy;exact hy);have h2:=MH (v:=y) (k:=63) (by have:(2:Nat)^63=9223372036854775808:=(by rfl);omega);omega
 have Js:∀W,Cl 191 #[.int .u64 (y:Int)] W λe w'=>e=.returned (ah 0)/\W=w':=λW=>by have:=WZ y W hy;rw[hb]at this;exact this
 rw[kF]at*;obtain⟨n1,ny⟩:=aK (y/4294967296);obtain⟨n0,hn0⟩:=aK (y%4294967296);obtain⟨u1,hu1⟩:=aK (lo/4294967296);obtain⟨u0,hu0⟩:=aK (lo%4294967296);have hlo:u1*4294967296+u0=lo:=by rw[<-hu1,<-hu0,Nat.mul_comm];exact Nat.div_add_mod _ _
 have JV:n1*4294967296+n0=y:=by rw[<-ny,<-hn0,Nat.mul_comm];exact Nat.div_add_mod _ _
 have e1:(y:Int)/4294967296=(n1:Int):=by omega
 have e3:(lo:Int)/4294967296=(u1:Int):=by omega
 have e5:((h:Int)==0)=false:=by simp;omega
 have e6:((y:Int)==0)=false:=by simp;omega
 have e7:(lo:Int)/18446744073709551616=0:=by omega
 have ea:=MulX.maskN y hy;have eb:=MulX.maskN lo hl;rw[hn0]at ea;rw[hu0]at eb;have ec:bits BinOp.or IntKind.u64 (h:Int) 0=(h:Int):=by have:=bits_or_u64_nat h 0 zo zd;simpa using this
 obtain⟨s1,s2,s3,s4⟩:=acH h n1 n0 u1 zo zo zo zo zo;obtain⟨q,hq⟩:=aK (h/n1);obtain⟨r,hr⟩:=aK (h%n1);obtain⟨P,hP⟩:=aK (q*n1);rw[hq,hr]at s3;rw[hq]at s1 s2;rw[hr]at s4;have f1:(h:Int).tdiv (n1:Int)=(q:Int):=by rw[<-hq];rfl
 have f2:IntKind.u64.wrap (q:Int)=(q:Int):=by rw[IntKind.wrap_u64];omega
 have f3:IntKind.u64.wrap ((q:Int) * (n1:Int))=(P:Int):=by rw[<-Int.natCast_mul,hP,IntKind.wrap_u64];rw[hP]at s3;omega
 have f4:IntKind.u64.wrap ((h:Int)-(P:Int))=(r:Int):=by rw[IntKind.wrap_u64];rw[hP]at s3;omega
 have aCX:(n1:Int)≠0:=by omega
 have afD:((n1:Int)==0)=false:=by simp;omega
 rw[JV]at s1;obtain⟨DD,hD⟩:=aK ((h*4294967296+u1)/y);obtain⟨v,hv⟩:=aK ((h*4294967296+u1)%y);obtain⟨E,hE⟩:=aK ((v*4294967296+u0)/y);obtain⟨H1,hH1⟩:=aK (h*4294967296%18446744073709551616);obtain⟨H2,hH2⟩:=aK ((h*4294967296+u1)%18446744073709551616);obtain⟨Z,hZ⟩:=aK (DD*y%18446744073709551616);have hy0:0<y:=by omega
 have hvy:v<y:=by rw[<-hv];exact Nat.mod_lt _ hy0
 have hdm:=Nat.div_add_mod (h*4294967296+u1) y;rw[hD,hv,Nat.mul_comm]at hdm;have hDT:DD<4294967296:=by rw[<-hD];refine Nat.div_lt_of_lt_mul ?_;omega
 have hET:E<4294967296:=by rw[<-hE];refine Nat.div_lt_of_lt_mul ?_;omega
 have m1:IntKind.u64.wrap ((h:Int) *4294967296)=(H1:Int):=by rw[IntKind.wrap_u64];omega
 have m2:IntKind.u64.wrap ((H1:Int)+(u1:Int))=(H2:Int):=by rw[IntKind.wrap_u64];omega
 have m3:IntKind.u64.wrap ((DD:Int) * (y:Int))=(Z:Int):=by rw[<-Int.natCast_mul,IntKind.wrap_u64];omega
 have m4:IntKind.u64.wrap ((H2:Int)-(Z:Int))=(v:Int):=by rw[IntKind.wrap_u64];generalize DD*y=X at*;omega
 have Ar:IntKind.u64.wrap ((DD:Int) *4294967296)=(DD:Int) *4294967296:=by rw[IntKind.wrap_u64];omega
 have Au:IntKind.u64.wrap ((DD:Int) *4294967296+(E:Int))=(DD:Int) *4294967296+(E:Int):=by rw[IntKind.wrap_u64];omega
 obtain⟨t1,t2,t3,t4⟩:=acH v n1 n0 u0 zo zo zo zo zo;obtain⟨q2,hq2⟩:=aK (v/n1);obtain⟨r2,hr2⟩:=aK (v%n1);obtain⟨P2,uw⟩:=aK (q2*n1);rw[hq2,hr2]at t3;rw[hq2]at t1 t2;rw[hr2]at t4;have f1':(v:Int).tdiv (n1:Int)=(q2:Int):=by rw[<-hq2];rfl
 have f2':IntKind.u64.wrap (q2:Int)=(q2:Int):=by rw[IntKind.wrap_u64];omega
 have f3':IntKind.u64.wrap ((q2:Int) * (n1:Int))=(P2:Int):=by rw[<-Int.natCast_mul,uw,IntKind.wrap_u64];rw[uw]at t3;omega
 have f4':IntKind.u64.wrap ((v:Int)-(P2:Int))=(r2:Int):=by rw[IntKind.wrap_u64];rw[uw]at t3;omega
 rw[JV]at t1;have hfin:=aqT h u1 u0 y DD hy0 hD;rw[hv,hE,hlo]at hfin;have ae4:((h:Int) *18446744073709551616+(lo:Int))/(y:Int)=(DD:Int) *4294967296+(E:Int):=by
  have:((h:Int) *18446744073709551616+(lo:Int))/(y:Int)=(((h*18446744073709551616+lo)/y:Nat):Int):=by rw[Int.natCast_ediv,Int.natCast_add,Int.natCast_mul];rfl
  rw[this,hfin,Int.natCast_add,Int.natCast_mul];rfl
 have wW:=ar ae4;clear ae4;obtain⟨H3,x3⟩:=aK (IntKind.u64.wrap ((v:Int) *4294967296));obtain⟨H4,x4⟩:=aK (IntKind.u64.wrap (H3+(u0:Int)));obtain⟨H5,x5⟩:=aK (IntKind.u64.wrap ((E:Int) * (y:Int)));obtain⟨X,x6⟩:=aK (IntKind.u64.wrap (H4-H5));obtain⟨X3,X4,X5,X6⟩:=ej x3 x4 x5 x6;clear x3 x4 x5 x6;obtain⟨T1,T2,T3,T4,M1,M2,M3,M4,N1,N2,F1,F2⟩:=gg t1 t2 t3 t4 m1 m2 m3 m4 Ar Au f1' f2';obtain⟨F3,F4,wV,HD,HE,SF,Hhh,HDT,HET,RG,S1,S2⟩:=gg f3' f4' hfin hD hE hvy hh hDT hET Js s1 s2;obtain⟨S3,S4,HN1,HN0,HU1,HU0,Hy,ig⟩:=oK s3 s4 ny hn0 hu1 hu0 hy JV;have hb1:n1<4294967296:=by omega
 have hb2:n0<4294967296:=by omega
 have hb3:u1<4294967296:=by omega
 have hb4:u0<4294967296:=by omega
 have dL:0<n1:=by omega
 obtain⟨B1,B2,B3,B4,B5⟩:=fU hb1 hb2 hb3 hb4 dL;clear Js s1 s2 s3 s4 ny hn0 hu1 hu0 JV hq hr hP t1 t2 t3 t4 m1 m2 m3 m4 Ar Au f1' f2' f3' f4' hfin hD hE hvy hDT hET hdm hy0 hv hH1 hH2 hZ hq2 hr2 uw hb1 hb2 hb3 hb4 dL;go_enter Tryz.func207,Tryz.ntmps207;go_wp2_with (go_at_call 191;refine(RG.out _).mono ?_;rintro e w' ⟨rfl,rfl⟩);clear f1 f2 f3 f4 e5 e6 e7 ea eb ec e1 e3;go_loop [15,16] (λqv rv=>∃q r:Nat,qv=.int .u64 (q:Int)/\rv=.int .u64 (r:Int)/\q*n1+r=h/\r<4294967296/\(h*4294967296+u1)/y<=q/\q<=4294967297) (λqv _=>(intOf qv).toNat)
 case atStart=>exact⟨q,r,rfl,rfl,S3.out,S4.out,S1.out,S2.out⟩
 case round=>
  clear S1 S2 S3 S4;obtain⟨q,r,rfl,rfl,j1,j2,j3,j4⟩:=hrel;obtain⟨Q,hQ⟩:=aK (q*n0);have g1:IntKind.u64.wrap (4294967296* (r:Int))=4294967296* (r:Int):=by rw[IntKind.wrap_u64];omega
  have g2:IntKind.u64.wrap (4294967296* (r:Int)+(u1:Int))=4294967296* (r:Int)+(u1:Int):=by rw[IntKind.wrap_u64];have:=B3.out;omega
  have gH:q<4294967296->Q<18446744073709551616:=λh=>by rw[<-hQ];have h1:q*n0<=4294967295*4294967295:=Nat.mul_le_mul zo (by have:=B2.out;omega);omega
  by_cases hc:4294967296<=q\/4294967296*r+u1<Q
  . obtain⟨k1,k2,k3⟩:=Nc q r h n1 n0 u1 (by rw[ig.out];exact Hhh.out) B3.out j1 (by rw[ig.out];exact j3) (by rw[hQ];exact hc);rw[ig.out]at k3;obtain⟨k,hk⟩:=aK (q-1);rw[hk]at k2 k3;have g3:IntKind.u64.wrap ((q:Int)-1)=(k:Int):=by rw[IntKind.wrap_u64];omega
    have g4:IntKind.u64.wrap ((r:Int)+(n1:Int))=((r+n1:Nat):Int):=by rw[IntKind.wrap_u64];have:=B1.out;omega
    obtain⟨r',hr'⟩:=aK (r+n1);rw[hr']at k2 g4;by_cases hbr:4294967296<=r'
    . have hkD:DD=k:=by rw[<-HD.out,<-ig.out];exact Nb k r' h n1 n0 u1 B5.out B2.out k2 (by rw[ig.out];exact k3) zo hbr
      subst hkD;have BU:(4294967296:Int)<=(r':Int):=by omega
      have m1:=M1.out;have m2:=M2.out;have m3:=M3.out;have m4:=M4.out;have f1:=F1.out;have f2:=F2.out;have f3:=F3.out;have f4:=F4.out;have afD:((n1:Int)==0)=false:=by have:=B5.out;simp;omega
      obtain⟨J,K,HQ,Lx,Hk,Hr'⟩:=iq (And.intro j1 (And.intro j2 (And.intro j3 j4))) (And.intro k1 (And.intro k2 k3)) hQ gH hk hr';clear j1 j2 j3 j4 k1 k2 k3 hQ gH hk hr';by_cases hT:4294967296<=q
      . have lG:(4294967296:Int)<=(q:Int):=by omega
        go_wp2;clear m1 m2 m3 m4 f1 f2 f3 f4 g1 g2 g3 g4;go_loop [18,16] (λqv rv=>∃q r:Nat,qv=.int .u64 (q:Int)/\rv=.int .u64 (r:Int)/\q*n1+r=v/\r<4294967296/\(v*4294967296+u0)/y<=q/\q<=4294967297) (λqv _=>(intOf qv).toNat)
        case atStart=>exact⟨q2,r2,rfl,rfl,T3.out,T4.out,T1.out,T2.out⟩
        case round=>
         clear T1 T2 T3 T4;obtain⟨q,r,rfl,rfl,j1,j2,j3,j4⟩:=hrel;obtain⟨Q,hQ⟩:=aK (q*n0);have g1:IntKind.u64.wrap (4294967296* (r:Int))=4294967296* (r:Int):=by rw[IntKind.wrap_u64];omega
         have g2:IntKind.u64.wrap (4294967296* (r:Int)+(u0:Int))=4294967296* (r:Int)+(u0:Int):=by rw[IntKind.wrap_u64];have:=B4.out;omega
         have gH:q<4294967296->Q<18446744073709551616:=λh=>by rw[<-hQ];have h1:q*n0<=4294967295*4294967295:=Nat.mul_le_mul zo (by have:=B2.out;omega);omega
         have Ar:=N1.out;have Au:=N2.out;have x3:=X3.out;have x4:=X4.out;have x5:=X5.out;have x6:=X6.out;by_cases hc:4294967296<=q\/4294967296*r+u0<Q
         . obtain⟨k1,k2,k3⟩:=Nc q r v n1 n0 u0 (by rw[ig.out];exact SF.out) B4.out j1 (by rw[ig.out];exact j3) (by rw[hQ];exact hc);rw[ig.out]at k3;obtain⟨m,hm⟩:=aK (q-1);rw[hm]at k2 k3;have g3:IntKind.u64.wrap ((q:Int)-1)=(m:Int):=by rw[IntKind.wrap_u64];omega
           have g4:IntKind.u64.wrap ((r:Int)+(n1:Int))=((r+n1:Nat):Int):=by rw[IntKind.wrap_u64];have:=B1.out;omega
           obtain⟨r',hr'⟩:=aK (r+n1);rw[hr']at k2 g4;have hT0:q<4294967296->IntKind.u64.wrap ((q:Int) * (n0:Int))=(Q:Int):=λh=>by rw[<-Int.natCast_mul,hQ,IntKind.wrap_u64];have:=gH h;omega
           by_cases hbr:4294967296<=r'
           . have Jn:E=m:=by rw[<-HE.out,<-ig.out];exact Nb m r' v n1 n0 u0 B5.out B2.out k2 (by rw[ig.out];exact k3) zo hbr
             subst Jn;have BU:(4294967296:Int)<=(r':Int):=by omega
             clear j1 j3 k2 k3 hQ gH hm hr';by_cases hT:4294967296<=q
             . have lG:(4294967296:Int)<=(q:Int):=by omega
               go_wp2;refine bodyPost_ret (v:=.tuple #[.int .u64 ((DD:Int) *4294967296+(E:Int)),.int .u64 X]) (by simp[results,Tryz.results207,go_sem]) rfl ⟨⟨_,by rw[wW.out]⟩,Below.refl _ _⟩
             . have hc2:4294967296* (r:Int)+(u0:Int)<(Q:Int):=by omega
               have lG:¬(4294967296:Int)<=(q:Int):=by omega
               have g0:=hT0 zo;go_wp2;refine bodyPost_ret (v:=.tuple #[.int .u64 ((DD:Int) *4294967296+(E:Int)),.int .u64 X]) (by simp[results,Tryz.results207,go_sem]) rfl ⟨⟨_,by rw[wW.out]⟩,Below.refl _ _⟩
           . have BU:¬(4294967296:Int)<=(r':Int):=by omega
             have K:=ar (And.intro k2 k3);clear j1 j3 k2 k3 hQ gH hr';by_cases hT:4294967296<=q
             . have lG:(4294967296:Int)<=(q:Int):=by omega
               go_wp2;exact⟨⟨m,r',rfl,rfl,K.out.1,by omega,K.out.2,by omega⟩,by simp[intOf];omega⟩
             . have hc2:4294967296* (r:Int)+(u0:Int)<(Q:Int):=by omega
               have lG:¬(4294967296:Int)<=(q:Int):=by omega
               have g0:=hT0 zo;go_wp2;exact⟨⟨m,r',rfl,rfl,K.out.1,by omega,K.out.2,by omega⟩,by simp[intOf];omega⟩
         . have JD:E=q:=by rw[<-HE.out,<-ig.out];exact Ij q r v n1 n0 u0 B5.out j1 (by rw[ig.out];exact j3) (by rw[hQ];omega)
           subst JD;have lG:¬(4294967296:Int)<=(E:Int):=by omega
           have hc2:¬4294967296* (r:Int)+(u0:Int)<(Q:Int):=by omega
           have g0:IntKind.u64.wrap ((E:Int) * (n0:Int))=(Q:Int):=by rw[<-Int.natCast_mul,hQ,IntKind.wrap_u64];have:=gH zo;omega
           clear j1 j3 hQ gH;go_wp2;refine bodyPost_ret (v:=.tuple #[.int .u64 ((DD:Int) *4294967296+(E:Int)),.int .u64 X]) (by simp[results,Tryz.results207,go_sem]) rfl ⟨⟨_,by rw[wW.out]⟩,Below.refl _ _⟩
      . have hc2:4294967296* (r:Int)+(u1:Int)<(Q:Int):=by omega
        have lG:¬(4294967296:Int)<=(q:Int):=by omega
        have g0:IntKind.u64.wrap ((q:Int) * (n0:Int))=(Q:Int):=by rw[<-Int.natCast_mul,HQ.out,IntKind.wrap_u64];have:=Lx.out zo;omega
        go_wp2;clear m1 m2 m3 m4 f1 f2 f3 f4 g0 g1 g2 g3 g4;go_loop [18,16] (λqv rv=>∃q r:Nat,qv=.int .u64 (q:Int)/\rv=.int .u64 (r:Int)/\q*n1+r=v/\r<4294967296/\(v*4294967296+u0)/y<=q/\q<=4294967297) (λqv _=>(intOf qv).toNat)
        case atStart=>exact⟨q2,r2,rfl,rfl,T3.out,T4.out,T1.out,T2.out⟩
        case round=>
         clear T1 T2 T3 T4;obtain⟨q,r,rfl,rfl,j1,j2,j3,j4⟩:=hrel;obtain⟨Q,hQ⟩:=aK (q*n0);have g1:IntKind.u64.wrap (4294967296* (r:Int))=4294967296* (r:Int):=by rw[IntKind.wrap_u64];omega
         have g2:IntKind.u64.wrap (4294967296* (r:Int)+(u0:Int))=4294967296* (r:Int)+(u0:Int):=by rw[IntKind.wrap_u64];have:=B4.out;omega
         have gH:q<4294967296->Q<18446744073709551616:=λh=>by rw[<-hQ];have h1:q*n0<=4294967295*4294967295:=Nat.mul_le_mul zo (by have:=B2.out;omega);omega
         have Ar:=N1.out;have Au:=N2.out;have x3:=X3.out;have x4:=X4.out;have x5:=X5.out;have x6:=X6.out;by_cases hc:4294967296<=q\/4294967296*r+u0<Q
         . obtain⟨k1,k2,k3⟩:=Nc q r v n1 n0 u0 (by rw[ig.out];exact SF.out) B4.out j1 (by rw[ig.out];exact j3) (by rw[hQ];exact hc);rw[ig.out]at k3;obtain⟨m,hm⟩:=aK (q-1);rw[hm]at k2 k3;have g3:IntKind.u64.wrap ((q:Int)-1)=(m:Int):=by rw[IntKind.wrap_u64];omega
           have g4:IntKind.u64.wrap ((r:Int)+(n1:Int))=((r+n1:Nat):Int):=by rw[IntKind.wrap_u64];have:=B1.out;omega
           obtain⟨r',hr'⟩:=aK (r+n1);rw[hr']at k2 g4;have hT0:q<4294967296->IntKind.u64.wrap ((q:Int) * (n0:Int))=(Q:Int):=λh=>by rw[<-Int.natCast_mul,hQ,IntKind.wrap_u64];have:=gH h;omega
           by_cases hbr:4294967296<=r'
           . have Jn:E=m:=by rw[<-HE.out,<-ig.out];exact Nb m r' v n1 n0 u0 B5.out B2.out k2 (by rw[ig.out];exact k3) zo hbr
             subst Jn;have BU:(4294967296:Int)<=(r':Int):=by omega
             clear j1 j3 k2 k3 hQ gH hm hr';by_cases hT:4294967296<=q
             . have lG:(4294967296:Int)<=(q:Int):=by omega
               go_wp2;refine bodyPost_ret (v:=.tuple #[.int .u64 ((DD:Int) *4294967296+(E:Int)),.int .u64 X]) (by simp[results,Tryz.results207,go_sem]) rfl ⟨⟨_,by rw[wW.out]⟩,Below.refl _ _⟩
             . have hc2:4294967296* (r:Int)+(u0:Int)<(Q:Int):=by omega
               have lG:¬(4294967296:Int)<=(q:Int):=by omega
               have g0:=hT0 zo;go_wp2;refine bodyPost_ret (v:=.tuple #[.int .u64 ((DD:Int) *4294967296+(E:Int)),.int .u64 X]) (by simp[results,Tryz.results207,go_sem]) rfl ⟨⟨_,by rw[wW.out]⟩,Below.refl _ _⟩
           . have BU:¬(4294967296:Int)<=(r':Int):=by omega
             have K:=ar (And.intro k2 k3);clear j1 j3 k2 k3 hQ gH hr';by_cases hT:4294967296<=q
             . have lG:(4294967296:Int)<=(q:Int):=by omega
               go_wp2;exact⟨⟨m,r',rfl,rfl,K.out.1,by omega,K.out.2,by omega⟩,by simp[intOf];omega⟩
             . have hc2:4294967296* (r:Int)+(u0:Int)<(Q:Int):=by omega
               have lG:¬(4294967296:Int)<=(q:Int):=by omega
               have g0:=hT0 zo;go_wp2;exact⟨⟨m,r',rfl,rfl,K.out.1,by omega,K.out.2,by omega⟩,by simp[intOf];omega⟩
         . have JD:E=q:=by rw[<-HE.out,<-ig.out];exact Ij q r v n1 n0 u0 B5.out j1 (by rw[ig.out];exact j3) (by rw[hQ];omega)
           subst JD;have lG:¬(4294967296:Int)<=(E:Int):=by omega
           have hc2:¬4294967296* (r:Int)+(u0:Int)<(Q:Int):=by omega
           have g0:IntKind.u64.wrap ((E:Int) * (n0:Int))=(Q:Int):=by rw[<-Int.natCast_mul,hQ,IntKind.wrap_u64];have:=gH zo;omega
           clear j1 j3 hQ gH;go_wp2;refine bodyPost_ret (v:=.tuple #[.int .u64 ((DD:Int) *4294967296+(E:Int)),.int .u64 X]) (by simp[results,Tryz.results207,go_sem]) rfl ⟨⟨_,by rw[wW.out]⟩,Below.refl _ _⟩
    . have BU:¬(4294967296:Int)<=(r':Int):=by omega
      obtain⟨K,HQ,Lx⟩:=cX (And.intro k2 k3) hQ gH;clear j1 j3 k2 k3 hQ gH hr';by_cases hT:4294967296<=q
      . have lG:(4294967296:Int)<=(q:Int):=by omega
        go_wp2;exact⟨⟨k,r',rfl,rfl,K.out.1,by omega,K.out.2,by omega⟩,by simp[intOf];omega⟩
      . have hc2:4294967296* (r:Int)+(u1:Int)<(Q:Int):=by omega
        have lG:¬(4294967296:Int)<=(q:Int):=by omega
        have g0:IntKind.u64.wrap ((q:Int) * (n0:Int))=(Q:Int):=by rw[<-Int.natCast_mul,HQ.out,IntKind.wrap_u64];have:=Lx.out zo;omega
        go_wp2;exact⟨⟨k,r',rfl,rfl,K.out.1,by omega,K.out.2,by omega⟩,by simp[intOf];omega⟩
  . have We:DD=q:=by rw[<-HD.out,<-ig.out];exact Ij q r h n1 n0 u1 B5.out j1 (by rw[ig.out];exact j3) (by rw[hQ];omega)
    subst We;have lG:¬(4294967296:Int)<=(DD:Int):=by omega
    have hc2:¬4294967296* (r:Int)+(u1:Int)<(Q:Int):=by omega
    have g0:IntKind.u64.wrap ((DD:Int) * (n0:Int))=(Q:Int):=by rw[<-Int.natCast_mul,hQ,IntKind.wrap_u64];have:=gH zo;omega
    have m1:=M1.out;have m2:=M2.out;have m3:=M3.out;have m4:=M4.out;have f1:=F1.out;have f2:=F2.out;have f3:=F3.out;have f4:=F4.out;have afD:((n1:Int)==0)=false:=by have:=B5.out;simp;omega
    obtain⟨J,HQ,Lx⟩:=cX (And.intro j1 (And.intro j2 (And.intro j3 j4))) hQ gH;clear j1 j2 j3 j4 hQ gH;go_wp2;clear m1 m2 m3 m4 f1 f2 f3 f4 g0 g1 g2;go_loop [18,16] (λqv rv=>∃q r:Nat,qv=.int .u64 (q:Int)/\rv=.int .u64 (r:Int)/\q*n1+r=v/\r<4294967296/\(v*4294967296+u0)/y<=q/\q<=4294967297) (λqv _=>(intOf qv).toNat)
    case atStart=>exact⟨q2,r2,rfl,rfl,T3.out,T4.out,T1.out,T2.out⟩
    case round=>
     clear T1 T2 T3 T4;obtain⟨q,r,rfl,rfl,j1,j2,j3,j4⟩:=hrel;obtain⟨Q,hQ⟩:=aK (q*n0);have g1:IntKind.u64.wrap (4294967296* (r:Int))=4294967296* (r:Int):=by rw[IntKind.wrap_u64];omega
     have g2:IntKind.u64.wrap (4294967296* (r:Int)+(u0:Int))=4294967296* (r:Int)+(u0:Int):=by rw[IntKind.wrap_u64];have:=B4.out;omega
     have gH:q<4294967296->Q<18446744073709551616:=λh=>by rw[<-hQ];have h1:q*n0<=4294967295*4294967295:=Nat.mul_le_mul zo (by have:=B2.out;omega);omega
     have Ar:=N1.out;have Au:=N2.out;have x3:=X3.out;have x4:=X4.out;have x5:=X5.out;have x6:=X6.out;by_cases hc:4294967296<=q\/4294967296*r+u0<Q
     . obtain⟨k1,k2,k3⟩:=Nc q r v n1 n0 u0 (by rw[ig.out];exact SF.out) B4.out j1 (by rw[ig.out];exact j3) (by rw[hQ];exact hc);rw[ig.out]at k3;obtain⟨m,hm⟩:=aK (q-1);rw[hm]at k2 k3;have g3:IntKind.u64.wrap ((q:Int)-1)=(m:Int):=by rw[IntKind.wrap_u64];omega
       have g4:IntKind.u64.wrap ((r:Int)+(n1:Int))=((r+n1:Nat):Int):=by rw[IntKind.wrap_u64];have:=B1.out;omega
       obtain⟨r',hr'⟩:=aK (r+n1);rw[hr']at k2 g4;have hT0:q<4294967296->IntKind.u64.wrap ((q:Int) * (n0:Int))=(Q:Int):=λh=>by rw[<-Int.natCast_mul,hQ,IntKind.wrap_u64];have:=gH h;omega
       by_cases hbr:4294967296<=r'
       . have Jn:E=m:=by rw[<-HE.out,<-ig.out];exact Nb m r' v n1 n0 u0 B5.out B2.out k2 (by rw[ig.out];exact k3) zo hbr
         subst Jn;have BU:(4294967296:Int)<=(r':Int):=by omega
         clear j1 j3 k2 k3 hQ gH hm hr';by_cases hT:4294967296<=q
         . have lG:(4294967296:Int)<=(q:Int):=by omega
           go_wp2;refine bodyPost_ret (v:=.tuple #[.int .u64 ((DD:Int) *4294967296+(E:Int)),.int .u64 X]) (by simp[results,Tryz.results207,go_sem]) rfl ⟨⟨_,by rw[wW.out]⟩,Below.refl _ _⟩
         . have hc2:4294967296* (r:Int)+(u0:Int)<(Q:Int):=by omega
           have lG:¬(4294967296:Int)<=(q:Int):=by omega
           have g0:=hT0 zo;go_wp2;refine bodyPost_ret (v:=.tuple #[.int .u64 ((DD:Int) *4294967296+(E:Int)),.int .u64 X]) (by simp[results,Tryz.results207,go_sem]) rfl ⟨⟨_,by rw[wW.out]⟩,Below.refl _ _⟩
       . have BU:¬(4294967296:Int)<=(r':Int):=by omega
         have K:=ar (And.intro k2 k3);clear j1 j3 k2 k3 hQ gH hr';by_cases hT:4294967296<=q
         . have lG:(4294967296:Int)<=(q:Int):=by omega
           go_wp2;exact⟨⟨m,r',rfl,rfl,K.out.1,by omega,K.out.2,by omega⟩,by simp[intOf];omega⟩
         . have hc2:4294967296* (r:Int)+(u0:Int)<(Q:Int):=by omega
           have lG:¬(4294967296:Int)<=(q:Int):=by omega
           have g0:=hT0 zo;go_wp2;exact⟨⟨m,r',rfl,rfl,K.out.1,by omega,K.out.2,by omega⟩,by simp[intOf];omega⟩
     . have JD:E=q:=by rw[<-HE.out,<-ig.out];exact Ij q r v n1 n0 u0 B5.out j1 (by rw[ig.out];exact j3) (by rw[hQ];omega)
       subst JD;have lG:¬(4294967296:Int)<=(E:Int):=by omega
       have hc2:¬4294967296* (r:Int)+(u0:Int)<(Q:Int):=by omega
       have g0:IntKind.u64.wrap ((E:Int) * (n0:Int))=(Q:Int):=by rw[<-Int.natCast_mul,hQ,IntKind.wrap_u64];have:=gH zo;omega
       clear j1 j3 hQ gH;go_wp2;refine bodyPost_ret (v:=.tuple #[.int .u64 ((DD:Int) *4294967296+(E:Int)),.int .u64 X]) (by simp[results,Tryz.results207,go_sem]) rfl ⟨⟨_,by rw[wW.out]⟩,Below.refl _ _⟩
def aqR (lo y:Nat)(w:World)(hy:0<y)(hy2:y<WW)(hl:lo<WW):
 Cl 207 #[.int .u64 0,.int .u64 (lo:Int),.int .u64 (y:Int)] w λe w'=>∃r,e=.returned (.tuple #[.int .u64 ((lo/y:Nat):Int),.int .u64 r])/\Bw w w':=by
 rw[kF]at*;have e6:((y:Int)==0)=false:=by simp;omega
 have e7:¬(y:Int)<=0:=by omega
 have f1:(lo:Int).tdiv (y:Int)=((lo/y:Nat):Int):=rfl;obtain⟨q,hq⟩:=aK (lo/y);have hqb:q<=lo:=by rw[<-hq];exact Nat.div_le_self _ _
 rw[hq]at f1⊢;have f2:IntKind.u64.wrap (q:Int)=(q:Int):=by rw[IntKind.wrap_u64];omega
 clear hq;go_enter Tryz.func207,Tryz.ntmps207;go_wp2;go_region
 go_wp2;refine bodyPost_ret (v:=.tuple #[.int .u64 (q:Int),.int .u64 ((lo:Int)% (y:Int))]) (by simp[results,Tryz.results207,go_sem]) rfl ⟨_,rfl,(Below.refl _ _).drew⟩
end Go.Proofs.YtnjfebkelecgaaaGreatDoor
namespace Go.Proofs.YtnjfebkelecgaaaGreatDoor
def YC :0<2:=by decide
def p2 (k:Nat):0<2^k:=Nat.pow_pos zd
def bd (v j:Nat):Nat:=v/2^j%2
def abW (v j:Nat):bd v j<2:=Nat.mod_lt _ YC
def apy {v k:Nat}(h:v<2^(k+1))(h0:bd v k=0):v<2^k:=by
 unfold bd at h0;have h1:v/2^k<2:=by rw[Nat.div_lt_iff_lt_mul (p2 k)];rw[Nat.pow_succ]at h;rwa [Nat.mul_comm]at h
 rw[Nat.mod_eq_of_lt h1]at h0;rcases Nat.lt_or_ge v (2^k)with h2|h2
 . exact h2
 . have:=Nat.div_pos h2 (p2 k);omega
def apx {v k:Nat}(h0:bd v k≠0):2^k<=v:=by
 rcases Nat.lt_or_ge v (2^k)with h2|h2
 . exact absurd (by unfold bd;rw[Nat.div_eq_of_lt h2]) h0
 . exact h2
def apb {v k j:Nat}(h:v<2^k)(hj:k<=j):bd v j=0:=by unfold bd;rw[Nat.div_eq_of_lt (Nat.lt_of_lt_of_le h (Nat.pow_le_pow_right YC hj))]
def MI (v i:Nat):v%2^(i+1)=v%2^i+2^i*bd v i:=by unfold bd;rw[Nat.pow_succ,Nat.mod_mul]
def bb (v u i:Nat):Nat:=if v%2^i<u%2^i then 1 else 0
def ao8 (v u:Nat):bb v u 0=0:=by simp[bb,Nat.mod_one]
def abV (v u i:Nat):bb v u i<=1:=by unfold bb;split<;>omega
def ao7 (v u i:Nat):bb v u (i+1)=if bd v i<bd u i+bb v u i then 1 else 0:=by
 have h1:=Nat.mod_lt v (p2 i);have h2:=Nat.mod_lt u (p2 i);unfold bb;rw[MI v,MI u];generalize bd v i=a;generalize bd u i=b;generalize v%2^i=r at*;generalize u%2^i=s at*;generalize 2^i=M at*;have key:(r+M*a<s+M*b)↔(a<b+if r<s then 1 else 0):=by
  rcases Nat.lt_trichotomy a b with h|h|h
  . have:M* (a+1)<=M*b:=Nat.mul_le_mul_left _ h;rw[Nat.mul_add]at this;constructor
    . intro _;split<;>omega
    . intro _;omega
  . subst h;split<;>omega
  . have:M* (b+1)<=M*a:=Nat.mul_le_mul_left _ h;rw[Nat.mul_add]at this;constructor
    . intro _;omega
    . intro h';exfalso;revert h';split<;>omega
 simp only[key]
def ao6 (v u i:Nat)(hu:u<=v):(bd v i+2-bd u i-bb v u i)%2=bd (v-u) i:=by
 -- the digit of the difference
 have h1:=Nat.mod_lt v (p2 i);have h2:=Nat.mod_lt u (p2 i);have hM:=p2 i;have hb:=abV v u i;have du:=abW u i;have e1:v=v%2^i+2^i* (v/2^i):=(Nat.mod_add_div v _).symm;have e2:u=u%2^i+2^i* (u/2^i):=(Nat.mod_add_div u _).symm;have e3:(v-u)/2^i+bb v u i+u/2^i=v/2^i:=by
  unfold bb;generalize v%2^i=r at*;generalize u%2^i=s at*;generalize v/2^i=x at*;generalize u/2^i=y at*;generalize 2^i=M at*;have hxy:y<=x:=by
   rcases Nat.lt_or_ge x y with h|h
   . have:M* (x+1)<=M*y:=Nat.mul_le_mul_left _ h;rw[Nat.mul_add]at this;omega
   . exact h
  obtain⟨d,rfl⟩:∃d,x=y+d:=⟨x-y,by omega⟩;split
  . rename_i hrs
    have hd:1<=d:=by
     rcases Nat.eq_zero_or_pos d with h|h
     . subst h;simp at e1;omega
     . exact h
    obtain⟨d',rfl⟩:∃d',d=d'+1:=⟨d-1,by omega⟩;have:v-u=(M+r-s)+M*d':=by rw[Nat.mul_add,Nat.mul_add]at e1;omega
    rw[this,Nat.add_mul_div_left _ _ hM,Nat.div_eq_of_lt zo];omega
  . have:v-u=(r-s)+M*d:=by rw[Nat.mul_add]at e1;omega
    rw[this,Nat.add_mul_div_left _ _ hM,Nat.div_eq_of_lt zo];omega
 unfold bd at*;generalize (v-u)/2^i=q at*;rw[<-e3];generalize bb v u i=c at*;generalize u/2^i=y at*;have hW:=YC
 -- (q + c + y) % W + W - y % W - c ≡ q
 have e4:((q+c+y)%2+2-y%2-c)%2=q%2:=by
  have a1:y=y%2+2* (y/2):=(Nat.mod_add_div y _).symm;have a2:(q+c+y)%2=(q+c+y%2)%2:=by rw[Nat.add_mod,Nat.add_mod (q+c) (y%2),Nat.mod_mod]
  rw[a2];generalize y%2=z at*;have a3:q=q%2+2* (q/2):=(Nat.mod_add_div q _).symm;have a4:(q+c+z)%2=(q%2+c+z)%2:=by conv=>lhs;rw[a3,show q%2+2* (q/2)+c+z=(q%2+c+z)+2* (q/2)by omega,Nat.add_mul_mod_self_left]
  rw[a4];have hq:=Nat.mod_lt q hW;generalize q%2=p at*;rcases Nat.lt_or_ge (p+c+z) 2 with h|h
  . rw[Nat.mod_eq_of_lt h,show p+c+z+2-z-c=p+2 by omega,Nat.add_mod_right,Nat.mod_eq_of_lt hq]
  . rcases Nat.lt_or_ge (p+c+z) (2*2)with h'|h'
    . have:(p+c+z)%2=p+c+z-2:=by rw[Nat.mod_eq_sub_mod h,Nat.mod_eq_of_lt zo]
      rw[this,show p+c+z-2+2-z-c=p by omega,Nat.mod_eq_of_lt hq]
    . exfalso;omega
 exact e4
def abX {v u k:Nat}(h:v/2^(k+1)=u/2^(k+1))(hd:bd v k<bd u k):v<u:=by
 unfold bd at hd;have e1:=(Nat.mod_add_div (v/2^k) 2).symm;have e2:=(Nat.mod_add_div (u/2^k) 2).symm;rw[Nat.pow_succ,<-Nat.div_div_eq_div_mul,<-Nat.div_div_eq_div_mul]at h;have:v/2^k<u/2^k:=by rw[e1,e2,h];omega
 exact Nat.lt_of_div_lt_div this
def apa {v u k:Nat}(h:v/2^(k+1)=u/2^(k+1))(hd:bd v k=bd u k):v/2^k=u/2^k:=by unfold bd at hd;have e1:=(Nat.mod_add_div (v/2^k) 2).symm;have e2:=(Nat.mod_add_div (u/2^k) 2).symm;rw[Nat.pow_succ,<-Nat.div_div_eq_div_mul,<-Nat.div_div_eq_div_mul]at h;rw[e1,e2,h,hd]
def vH (v j:Nat):bd v j<=1:=by have:=abW v j;omega
def apj {v k:Nat}(h:v<2^(k+1))(h':2^k<=v):bT v=k+1:=by have:=iG h;have:=MH h';omega
def apl :bT 0=0:=rfl
def abZ {v u:Nat}(h:v<=u):bT v<=bT u:=iG (Nat.lt_of_le_of_lt h (sJ u))
def apk (v c:Nat)(hc:c<=1):bT (2*v+c)<=bT v+1:=by refine iG ?_;have:=sJ v;rw[Nat.pow_succ];omega
def Kt (q:Nat):256^q=2^(8*q):=by rw[show(256:Nat)=2^8 by rfl,<-Nat.pow_mul]
def apD (v k:Nat):v%2^(k+1)/256^(k/8)%256=v%2^k/256^(k/8)%256+bd v k*2^(k%8)/\v%2^k/256^(k/8)%256+bd v k*2^(k%8)<=255:=by
 have e:2^k=256^(k/8) *2^(k%8):=by rw[Kt,<-Nat.pow_add];congr 1;omega
 have hA:=Nat.mod_lt v (p2 k);have hb:=vH v k;rw[MI];generalize v%2^k=A at*;generalize bd v k=b at*;have hr:2^(k%8)<=128:=Nat.pow_le_pow_right (i:=k%8) (j:=7) zd zo;have hp:0<256^(k/8):=Nat.pow_pos zd;have hq:A/256^(k/8)<2^(k%8):=Nat.div_lt_of_lt_mul (by rw[<-e];exact hA);rw[e,Nat.mul_assoc,Nat.add_mul_div_left _ _ hp];generalize A/256^(k/8)=x at*;generalize 2^(k%8)=y at*;have WF:y*b=b*y:=Nat.mul_comm _ _;have:b*y<=1*y:=Nat.mul_le_mul_right _ hb;rw[WF,Nat.mod_eq_of_lt (show x<256 by omega),Nat.mod_eq_of_lt (show x+b*y<256 by omega)];omega
def apE (v k q:Nat)(hq:q≠k/8):v%2^(k+1)/256^q%256=v%2^k/256^q%256:=by
 rcases Nat.lt_or_ge q (k/8)with h|h
 . rw[MI];have e:2^k=256^q* (256*2^(k-8* (q+1))):=by rw[show 256^q* (256*2^(k-8* (q+1)))=256^(q+1) *2^(k-8* (q+1))by rw[Nat.pow_succ,Nat.mul_assoc],Kt,<-Nat.pow_add];congr 1;omega
   have e2:2^k*bd v k=256^q* (256* (2^(k-8* (q+1)) *bd v k)):=by rw[e];simp only[Nat.mul_assoc]
   rw[e2,Nat.add_mul_div_left _ _ (Nat.pow_pos zd),Nat.add_mul_mod_self_left]
 . have h1:2^(k+1)<=256^q:=by rw[Kt];exact Nat.pow_le_pow_right zd zo
   have h2:2^k<=2^(k+1):=Nat.pow_le_pow_right zd zo;rw[Nat.div_eq_of_lt (Nat.lt_of_lt_of_le (Nat.mod_lt v (p2 (k+1))) h1),Nat.div_eq_of_lt (Nat.lt_of_lt_of_le (Nat.mod_lt v (p2 k)) (Nat.le_trans h2 h1))]
def awh (l:List UInt8)(j:Nat)(hj:j<l.length):nv l/256^j%256=l[l.length-1-j].toNat:=by
 have e:=PE (l.take (l.length-j)) (l.drop (l.length-j));rw[List.take_append_drop,List.length_drop,show l.length-(l.length-j)=j by omega]at e;have h1:nv (l.drop (l.length-j))<256^j:=by have:=ib (l.drop (l.length-j));rwa [List.length_drop,show l.length-(l.length-j)=j by omega]at this
 have hp:0<256^j:=Nat.pow_pos zd;rw[e,Nat.add_comm,Nat.add_mul_div_right _ _ hp,Nat.div_eq_of_lt h1,Nat.zero_add];have e2:l.take (l.length-j)=l.take (l.length-1-j)++[l[l.length-1-j]]:=by have:=List.take_succ_eq_append_getElem (i:=l.length-1-j) (l:=l) zo;rw[show l.length-j=l.length-1-j+1 by omega];exact this
 rw[e2,PE];have e3:nv [l[l.length-1-j]]=(l[l.length-1-j]).toNat:=by rw[wn];simp[Ax]
 rw[e3];have:=(l[l.length-1-j]).toNat_lt;simp only[List.length_singleton,Nat.pow_one];rw[Nat.mul_add_mod_of_lt]<;>omega
def awg (l:List UInt8)(j k:Nat)(hj:j<l.length)(hk:k<8):l[l.length-1-j].toNat/2^k%2=bd (nv l) (8*j+k):=by
 rw[<-awh l j hj];unfold bd;rw[Nat.pow_add,<-Nat.div_div_eq_div_mul,<-Kt];generalize nv l/256^j=x;have e:256=2^k*2^(8-k):=by rw[<-Nat.pow_add,show k+(8-k)=8 by omega]
 rw[e,Nat.mod_mul_right_div_self,Nat.mod_mod_of_dvd];exact⟨2^(7-k),by rw[show 8-k=7-k+1 by omega,Nat.pow_succ,Nat.mul_comm]⟩
def rE (l:List UInt8):nv l<2^(8*l.length):=by rw[<-Kt];exact ib l
def auQ (v u i:Nat)(hu:0<u):∃r c q,v/2^(i+1)%u=r/\bd v i=c/\v/2^(i+1)/u=q/\v/2^i%u=(if u<=2*r+c then 2*r+c-u else 2*r+c)/\v/2^i/u=2*q+(if u<=2*r+c then 1 else 0):=by
 refine⟨_,_,_,rfl,rfl,rfl,?_⟩;have e:v/2^i=2* (v/2^(i+1))+bd v i:=by unfold bd;rw[Nat.pow_succ,<-Nat.div_div_eq_div_mul];omega
 have hb:=vH v i;rw[e];generalize v/2^(i+1)=x;generalize bd v i=c at*;have h1:=Nat.mod_lt x hu;have h2:=Nat.mod_add_div x u;generalize hr:x%u=r at*;generalize hq:x/u=q at*;have e2:2*x+c=2*r+c+u* (2*q):=by rw[<-h2,show u* (2*q)=2* (u*q)by rw[Nat.mul_left_comm]];omega
 rw[e2,Nat.add_mul_mod_self_left,Nat.add_mul_div_left _ _ hu];by_cases h:u<=2*r+c
 . rw[if_pos h,if_pos h];have e3:2*r+c=(2*r+c-u)+u*1:=by omega
   rw[e3,Nat.add_mul_mod_self_left,Nat.add_mul_div_left _ _ hu,Nat.mod_eq_of_lt zo,Nat.div_eq_of_lt zo];omega
 . rw[if_neg h,if_neg h,Nat.mod_eq_of_lt zo,Nat.div_eq_of_lt zo];omega
def auP (v u i:Nat):bd (v/u) i=v/2^i/u%2:=by unfold bd;rw[Nat.div_div_eq_div_mul,Nat.div_div_eq_div_mul,Nat.mul_comm]
end Go.Proofs.YtnjfebkelecgaaaGreatDoor
