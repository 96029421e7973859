/- The limbs' functions,on. -/
import Derived.Test.YtpfgffadgkkedaaGreatDoorZ4
import Derived.Laws.CopyOwn
import Derived.Test.YtpfgffadgkkedaaGreatDoorZ1
set_option linter.all false
set_option maxRecDepth 100000
set_option maxHeartbeats 16000000
namespace Go.Proofs.YtpfgffadgkkedaaGreatDoor
open Go.RowKit
def Vf (v k:Nat)(h:v<WW^(k+1))(h0:WW^k<=v):bu v=64*k+bu (dg v k)/\bu (dg v k)<=64/\0<bu (dg v k):=by
 have hd:dg v k=v/WW^k:=by unfold dg;rw[Nat.mod_eq_of_lt];rw[Nat.div_lt_iff_lt_mul (dH k)];rw[Nat.pow_succ,Nat.mul_comm]at h;exact h
 have hd0:0<dg v k:=by rw[hd];exact Nat.div_pos h0 (dH k)
 have hl:=iQ v k;refine⟨?_,gw (by rw[kd]at hl;exact hl),CB hd0⟩;have a1:=pP (dg v k);have e:dg v k=2^(bu (dg v k)-1)\/2^(bu (dg v k)-1)<=dg v k:=by right;unfold bu;rw[if_neg zo];simp;exact Nat.log2_self_le zo
 have a2:2^(bu (dg v k)-1)<=dg v k:=by rcases e with e|e<;>omega
 have hm:=Nat.mod_lt v (dH k);have hv:=(Nat.mod_add_div v (WW^k)).symm;rw[<-hd]at hv;generalize v%WW^k=r at hv hm;have b1:v<2^(64*k+bu (dg v k)):=by rw[Nat.pow_add,<-ke];have:WW^k* (dg v k+1)<=WW^k*2^bu (dg v k):=Nat.mul_le_mul_left _ a1;rw[Nat.mul_add]at this;omega
 have b2:2^(64*k+bu (dg v k)-1)<=v:=by have:=CB hd0;rw[show 64*k+bu (dg v k)-1=64*k+(bu (dg v k)-1)by omega,Nat.pow_add,<-ke];have:WW^k*2^(bu (dg v k)-1)<=WW^k*dg v k:=Nat.mul_le_mul_left _ a2;omega
 have c1:=gw b1;have c2:=Gl b2;omega
def aa8 {v k:Nat}(h:ln v=k+1):v<WW^(k+1)/\WW^k<=v:=by
 refine⟨by rw[<-h];exact ej v,?_⟩;rcases Nat.lt_or_ge v (WW^k)with h1|h1
 . have:=iy h1;omega
 . exact h1
def aa6 (b o n cap v:Nat)(w:World)(hm:n<=1099511627776)(hcap:n<=cap)(hc:dx w b o n v)(hv:v<WW^n):
 Cl 284 #[.slice (some ⟨b,o,none⟩) n cap] w λe w'=>e=.returned (af (bu v:Int))/\w=w':=by
 have hle:=iy hv;have Hv:=aj hv;clear hv;rcases Nat.eq_zero_or_pos (ln v)with h0|h0
 . have Hc:=aj hc;clear hc;have hv0:v=0:=by have:=ej v;rw[h0]at this;simpa using this
   subst hv0;clear h0;go_enter Tryz.func284,Tryz.ntmps284;go_wp2_with (go_at_call 281;refine(ki b o n cap 0 _ hm hcap Hc.out Hv.out).mono ?_;rintro e w' ⟨rfl,rfl⟩;rw[Qi]);go_ret;exact⟨rfl,rfl⟩
 . obtain⟨k,hk⟩:∃k,ln v=k+1:=⟨ln v-1,by omega⟩;obtain⟨h1,h2⟩:=aa8 hk;obtain⟨e1,e2,e3⟩:=Vf v k h1 h2;have hcell:w.cell? ⟨b,o+k,none⟩=some (.int .u64 (dg v k:Int)):=hc _ zo;have Hc:=aj hc;clear hc;obtain⟨He1,Hk⟩:=aI e1 hk;have hkn:k+1<=n:=by omega
   clear h1 h2 h0 hle hk e1;go_enter Tryz.func284,Tryz.ntmps284
   go_wp2_with (first
    | (go_at_call 281;refine(ki b o n cap v _ hm hcap Hc.out Hv.out).mono ?_;rintro e w' ⟨rfl,rfl⟩;rw[Hk.out])
    | (go_at_call 303;refine(Ql _ _ (iQ _ _)).mono ?_;rintro e w' ⟨rfl,rfl⟩))
   go_ret;rw[He1.out];refine⟨congrArg (λz:Int=>Ending.returned (af z)) ?_,rfl⟩;omega
def an5 (a:Option Addr)(cap:Nat)(w:World):
 Cl 284 #[.slice a 0 cap] w λe w'=>e=.returned (af 0)/\w=w':=by
 go_enter Tryz.func284,Tryz.ntmps284;go_wp2_with (go_at_call 281;refine(VG cap a _).mono ?_;rintro e w' ⟨rfl,rfl⟩);go_ret;exact⟨rfl,rfl⟩
def cG (a b:Nat):Int:=if a<b then-1 else if b<a then 1 else 0
def VR {v u k:Nat}(h:v/WW^(k+1)=u/WW^(k+1))(hd:dg v k<dg u k):v<u:=by
 unfold dg at hd;have e1:=(Nat.mod_add_div (v/WW^k) WW).symm;have e2:=(Nat.mod_add_div (u/WW^k) WW).symm;rw[Nat.pow_succ,<-Nat.div_div_eq_div_mul,<-Nat.div_div_eq_div_mul]at h;have:v/WW^k<u/WW^k:=by rw[e1,e2,h];omega
 exact Nat.lt_of_div_lt_div this
def akh {v u k:Nat}(h:v/WW^(k+1)=u/WW^(k+1))(hd:dg v k=dg u k):v/WW^k=u/WW^k:=by unfold dg at hd;have e1:=(Nat.mod_add_div (v/WW^k) WW).symm;have e2:=(Nat.mod_add_div (u/WW^k) WW).symm;rw[Nat.pow_succ,<-Nat.div_div_eq_div_mul,<-Nat.div_div_eq_div_mul]at h;rw[e1,e2,h,hd]
def Qh {v u:Nat}(h:ln v<ln u):v<u:=by
 rcases Nat.lt_or_ge v u with h1|h1
 . exact h1
 . have:=iy (Nat.lt_of_le_of_lt h1 (ej v));omega
def ye (b o n cap v b2 o2 m cap2 u:Nat)(w:World)(hm:n<=1099511627776)(hcap:n<=cap)(hc:dx w b o n v)(hv:v<WW^n)
 (hm2:m<=1099511627776) (xw:m<=cap2) (hc2:dx w b2 o2 m u) (hu:u<WW^m):
 Cv 301 #[.slice (some ⟨b,o,none⟩) n cap,.slice (some ⟨b2,o2,none⟩) m cap2] w (af (cG v u)):=by
 have l1:=iy hv;have l2:=iy hu;have Hv:=aj hv;clear hv;have Hu:=aj hu;clear hu;have Hc:=aj hc;clear hc;have yJ:=aj hc2;clear hc2;obtain⟨Kv,Ku⟩:=aI (ej v) (ej u);by_cases hlt:ln v<ln u
 . have hf:(((ln v:Nat):Int) !=((ln u:Nat):Int))=true:=by rw[bne_iff_ne];omega
   have fR:Hid (cG v u= -1):=by show cG v u= -1;unfold cG;rw[if_pos (Qh hlt)]
   go_enter Tryz.func301,Tryz.ntmps301;go_wp2_with fail;refine(ki b o n cap v _ hm hcap Hc.out Hv.out).mono ?_;rintro e w' ⟨rfl,rfl⟩;go_wp2_with fail;refine(ki b2 o2 m cap2 u _ hm2 xw yJ.out Hu.out).mono ?_;rintro e w' ⟨rfl,rfl⟩;go_wp2;go_ret;rw[fR.out];exact⟨rfl,Below.refl _ _⟩
 by_cases hgt:ln u<ln v
 . have hf:(((ln v:Nat):Int) !=((ln u:Nat):Int))=true:=by rw[bne_iff_ne];omega
   have fR:Hid (cG v u=1):=by show cG v u=1;have:=Qh hgt;unfold cG;rw[if_neg zo,if_pos this]
   go_enter Tryz.func301,Tryz.ntmps301;go_wp2_with fail;refine(ki b o n cap v _ hm hcap Hc.out Hv.out).mono ?_;rintro e w' ⟨rfl,rfl⟩;go_wp2_with fail;refine(ki b2 o2 m cap2 u _ hm2 xw yJ.out Hu.out).mono ?_;rintro e w' ⟨rfl,rfl⟩;go_wp2;go_ret;rw[fR.out];exact⟨rfl,Below.refl _ _⟩
 . have heq:ln v=ln u:=by omega
   generalize hL:ln u=L at*;have HL:=aj hL;clear hL;have Fw:=aj heq;clear heq;have hf:(((L:Nat):Int) !=((L:Nat):Int))=false:=by simp
   rw[Fw.out]at Kv l1;go_enter Tryz.func301,Tryz.ntmps301;go_wp2_with fail;refine(ki b o n cap v _ hm hcap Hc.out Hv.out).mono ?_;rintro e w' ⟨rfl,rfl⟩;rw[Fw.out];go_wp2_with fail;refine(ki b2 o2 m cap2 u _ hm2 xw yJ.out Hu.out).mono ?_;rintro e w' ⟨rfl,rfl⟩;rw[HL.out];go_wp2;go_loopw[5] (λi wr=>∃k:Nat,k<=L/\i=af ((k:Int)-1)/\v/WW^k=u/WW^k/\Bw w wr) (λi _=>(intOf i+1).toNat);case atStart=>exact⟨L,Nat.le_refl _,rfl,by rw[Nat.div_eq_of_lt Kv.out,Nat.div_eq_of_lt Ku.out],Below.refl _ _⟩
   case round=>
    obtain⟨k,hk,rfl,Ao,hb⟩:=hrel;have yL:=aj Ao;clear Ao;by_cases h0:0<k
    . obtain⟨j,rfl⟩:∃j,k=j+1:=⟨k-1,by omega⟩;have c1:wr.cell? ⟨b,o+j,none⟩=some (.int .u64 (dg v j:Int)):=cell_later hb (Hc.out _ zo);have c2:wr.cell? ⟨b2,o2+j,none⟩=some (.int .u64 (dg u j:Int)):=cell_later hb (yJ.out _ zo);rw[show(((j+1:Nat):Int)-1)=(j:Int)by omega];have Hb:=aj hb;clear hb;rcases Nat.lt_trichotomy (dg v j) (dg u j)with hd|hd|hd
      . have fR:Hid (cG v u= -1):=by show cG v u= -1;unfold cG;rw[if_pos (VR yL.out hd)]
        go_wp2;go_region
        go_wp2;go_ret;rw[fR.out];exact⟨rfl,Hb.out.drew⟩
      . have Hd:=aj (akh yL.out hd);rw[hd]at c1;go_wp2;go_region
        go_wp2;go_region
        go_wp2;go_roundw;case rel=>exact⟨j,by omega,rfl,Hd.out,Hb.out.drew.drew⟩
        case measure=>simp[intOf]
      . have fR:Hid (cG v u=1):=by show cG v u=1;have:=VR yL.out.symm hd;unfold cG;rw[if_neg zo,if_pos this]
        go_wp2;go_region
        go_wp2;go_region
        go_wp2;go_ret;rw[fR.out];exact⟨rfl,Hb.out.drew.drew⟩
    . obtain rfl:k=0:=by omega
      have fR:Hid (cG v u=0):=by have:=yL.out;simp at this;subst this;show cG v v=0;simp[cG]
      have Hb:=aj hb;clear hb;go_wp2;go_ret;rw[fR.out];exact⟨rfl,Hb.out⟩
def Tryz.axe :(Tryz.prog.info? 222).map (λi=>(i.zero,i.size,i.bytes))=some (some (.int .u64 0),1,8):=by kernel_rfl
def Tryz.awQ :(Tryz.prog.info? 5).map (λi=>(i.zero,i.size,i.bytes))=some (some (.int .u8 0),1,1):=by kernel_rfl
def asz (n:Nat):List.replicate n (Value.int .u64 0)=bj n λ_=>0:=by
 apply List.ext_getElem?;intro j;by_cases h:j<n
 . rw[fQ _ _ _ h];simp[h]
 . simp[bj,h]
def yf (c:Int)(n:Nat)(hc:c=n)(h:n<=1099511627776)(w:World):
 (Instr.makeSlice 264 (af c) (af c)).run Tryz.prog w=.ok (.slice (some ⟨w.heap.size,0,none⟩) n n) (w.alloc (.cells (bj n λ_=>0).toArray 222)):=by
 subst hc;obtain⟨i0,hi,hz0,hz1,hz2⟩:=info_parts Tryz.axe;rw[run_make (P:=Tryz.prog) w 264 222 i0 _ Tryz.underlying264 hi hz0 .i64 .i64 n n zo zo (by rw[hz2];omega) zo];simp only[Int.toNat_natCast,hz1,Nat.mul_one];rw[<-asz,<-toList_madeCells_one];simp[Value.cells]
def arL {m M v:Nat}(h:m<=M)(hv:v<WW^m):splice (bj M λ_=>0) 0 (bj m (dg v))=bj M (dg v):=by
 unfold splice;rw[List.take_zero,List.nil_append,vZ,Nat.zero_add];apply List.ext_getElem?;intro j;rw[List.getElem?_append,vZ];by_cases h1:j<m
 . rw[if_pos h1,fQ _ _ _ h1,fQ _ _ _ zo]
 . rw[if_neg h1,List.getElem?_drop,show m+(j-m)=j by omega];by_cases h2:j<M
   . rw[fQ _ _ _ h2,fQ _ _ _ h2,rC hv zo]
   . simp[bj,h2]
def MQ (a:Option Addr)(m cap v:Nat)(c:Int)(w:World)(hm:m<=1099511627776)(hc0:0<=c)(hc1:c<=1099511627776)
 (hx:0<m->∃b o,a=some ⟨b,o,none⟩/\dx w b o m v) (hv:v<WW^m):
 Cl 298 #[.slice a m cap,af c] w λe w'=>e=.returned (.slice (some ⟨w.heap.size,0,none⟩) (max c.toNat m) (max c.toNat m))/\
  ar w' w.heap.size 222 (bj (max c.toNat m) (dg v))/\Bw w w':=by
 obtain⟨k,rfl⟩:=Int.eq_ofNat_of_zero_le hc0;rw[Int.toNat_natCast];have hM:max (k:Int) (m:Int)=((max k m:Nat):Int):=by omega
 generalize CR:max k m=M at*;have WZ:m<=M:=by omega
 have hMb:M<=1099511627776:=by omega
 have Hv:=aj hv;clear hv;have Hx:=aj hx;clear hx;have HMM:=aj CR;clear CR;have hmk:=yf (M:Int) M rfl hMb;go_enter Tryz.func298,Tryz.ntmps298;go_wp2_with (with_reducible refine wpList_copy_splice rfl (.tmp 11) (.tmp 12) 264 264 rfl 222 Tryz.underlying264 zk (some ⟨w.heap.size,0,none⟩) a M M m cap rfl rfl w.heap.size 0 (bj M λ_=>0) 222 (heap_alloc_new w _) (bj m (dg v)) ?h1 ?h2 ?h3 ?h4 w.heap.size w zl (Nat.le_refl _) ?_);case h1=>rw[vZ];exact(Nat.min_eq_left WZ).symm
 case h2=>
  rw[vZ];intro h0;obtain⟨b,o,rfl,hL⟩:=Hx.out h0;refine⟨⟨b,o,none⟩,rfl,?_⟩;intro j x hj;have hjm:j<m:=by
   rcases Nat.lt_or_ge j m with h|h
   . exact h
   . simp[bj,h]at hj
  rw[fQ _ _ _ hjm]at hj;cases hj
  rw[show((⟨b,o,none⟩:Addr).add j)=⟨b,o+j,none⟩by unfold Addr.add;split<;>simp_all];exact cell_later zl (hL j hjm)
 case h3=>rw[vZ,vZ];omega
 case h4=>intro x hx;simp[bj]at hx;obtain⟨j,_,rfl⟩:=hx;rfl
 . intro w1 bB hb1;go_wp2;go_ret;refine⟨rfl,?_,hb1⟩;have:=bB.out;unfold ar;rw[this,arL WZ Hv.out]
def jh (l:List UInt8):(bs l).size=l.length:=by show l.toArray.size=_;simp
def aiZ (s:ByteArray):s=bs s.data.toList:=by cases s;simp[bs]
def aiW (l:List UInt8):(bs l).data.toList=l:=by simp[bs]
def rP (l:List UInt8)(i:Int)(j:Nat)(hj:j<l.length)(hi:i=j)(W:World):
 (Instr.index 9 (.string (bs l)) (af i)).run Tryz.prog W=.ok (.int .u8 (l[j].toNat:Int)) W:=by
 subst hi;have hj':j<(bs l).size:=by rw[jh];exact hj
 rw[run_index_string W 9 (bs l) .i64 j Tryz.underlying9,dif_pos zo];simp[bs,ByteArray.getElem_eq_getElem_data]
def Rn (C i:Nat):IntKind.u64.wrap ((C:Int) *2^i)=((C*2^i%WW:Nat):Int):=by
 rw[IntKind.wrap_u64,iG];have:(C:Int) *2^i=((C*2^i:Nat):Int):=by simp[Int.natCast_mul,Int.natCast_pow]
 rw[this];omega
def QG (X Y:Nat)(i c:Nat)(hY:Y=c*2^i)(hX:X<2^i)(h:c*2^i+2^i<=WW):bits BinOp.or IntKind.u64 (X:Int) (Y:Int)=((X+Y:Nat):Int):=by
 subst hY;have hp:=Nat.pow_pos (n:=i) (show 0<2 by decide);have h1:X<18446744073709551616:=by rw[iG]at h;omega
 have h2:c*2^i<18446744073709551616:=by rw[iG]at h;omega
 rw[bits_or_u64_nat X (c*2^i) h1 h2,apz hX]
def lf (l:List UInt8)(w:World)(hs:l.length<=1099511627776):
 Cl 255 #[ah l] w λe w'=>e=.returned (.slice (some ⟨w.heap.size,0,none⟩) (ln (nv l)) ((l.length+7)/8))/\
  ar w' w.heap.size 222 (bj ((l.length+7)/8) (dg (nv l)))/\Bw w w'/\ln (nv l)<=(l.length+7)/8:=by
 have hsz:=jh l;have hmk:=yf (((l.length:Int)+7)/8) ((l.length+7)/8) zo zo;generalize hn:(l.length+7)/8=n at*;have iw:l.length<=8*n:=by omega
 have xI:8*n<=l.length+7:=by omega
 have Hn:=aj hn;clear hn;have Eg:nv l<WW^n:=by refine Nat.lt_of_lt_of_le (fY l) ?_;rw[ke,show(256:Nat)=2^8 by rfl,<-Nat.pow_mul];exact Nat.pow_le_pow_right zd zo
 have sM:=aj Eg;clear Eg;go_enter Tryz.func255,Tryz.ntmps255;go_wp2;go_loopw[4,5,13] (λ_ _ i wr=>∃k:Nat,k<=l.length/\i=af k/\ar wr w.heap.size 222 (bj n (dg (nv (l.drop (l.length-k)))))/\Bw w wr) (λ_ _ i _=>l.length-(intOf i).toNat);case atStart=>
  refine⟨0,Nat.zero_le _,rfl,?_,zl⟩;have e:bj n (dg (nv (l.drop (l.length-0))))=bj n λ_=>0:=jy λj _=>by simp[vP,dg]
  rw[e];exact ar.new _ _ _
 case round=>
  obtain⟨k,hk,rfl,hB,hb⟩:=hrel;by_cases hlt:k<l.length
  . have h8:k/8<n:=by omega
    have hcell:wr.cell? ⟨w.heap.size,k/8,none⟩=some (.int .u64 (dg (nv (l.drop (l.length-k))) (k/8):Int)):=by rw[hB.cell,fQ _ _ _ h8]
    have hfree:wr.frozen? ⟨w.heap.size,k/8,none⟩=false:=hB.free _;have eZ:=rP l ((l.length:Int)-1-(k:Int)) (l.length-1-k) zo zo;have hC:=(l[l.length-1-k]'zo).toNat_lt;have Xu:nv (l.drop (l.length-k))<256^k:=by have:=fY (l.drop (l.length-k));rwa [List.length_drop,show l.length-(l.length-k)=k by omega]at this
    have hlast:=api l k hlt;obtain⟨d1,d2,d3⟩:=ai8 _ _ k Xu hC;have hp:=Nat.pow_pos (n:=k%8*8) (show 0<2 by decide);have Ed:(l[l.length-1-k]'zo).toNat*2^(k%8*8)+2^(k%8*8)<=WW:=by
     have h2:2^(k%8*8) *256<=WW:=by rw[show(256:Nat)=2^8 by rfl,<-Nat.pow_add,kd];exact Nat.pow_le_pow_right zd zo
     have:2^(k%8*8) * ((l[l.length-1-k]'zo).toNat+1)<=2^(k%8*8) *256:=Nat.mul_le_mul_left _ hC;rw[Nat.mul_add,Nat.mul_comm]at this;omega
    have Jd:=Rn (l[l.length-1-k]'zo).toNat (k%8*8);rw[Nat.mod_eq_of_lt d2]at Jd;have Az:=QG _ _ _ _ rfl d1 Ed;have dQ:Hid (ar (wr.setCell ⟨w.heap.size,k/8,none⟩ (.int .u64 ((dg (nv (l.drop (l.length-k))) (k/8)+(l[l.length-1-k]'zo).toNat*2^(k%8*8):Nat):Int))) w.heap.size 222 (bj n (dg (nv (l.drop (l.length-(k+1))))))):=by have:=hB.set (k/8) (.int .u64 ((dg (nv (l.drop (l.length-k))) (k/8)+(l[l.length-1-k]'zo).toNat*2^(k%8*8):Nat):Int));rw[Bi]at this;rw[show l.length-(k+1)=l.length-1-k by omega,hlast];rw[jy λj _=>d3 j];exact this
    have Hb:Hid (Bw w (wr.setCell ⟨w.heap.size,k/8,none⟩ (.int .u64 ((dg (nv (l.drop (l.length-k))) (k/8)+(l[l.length-1-k]'zo).toNat*2^(k%8*8):Nat):Int)))):=hb.setCell (Nat.le_refl _) _;clear hB hb d1 d2 d3 hp Ed hlast Xu;generalize dg (nv (l.drop (l.length-k))) (k/8)+(l[l.length-1-k]'zo).toNat*2^(k%8*8)=Z at*;generalize dg (nv (l.drop (l.length-k))) (k/8)=X at*;generalize (l[l.length-1-k]'zo).toNat=C at*;generalize C*2^(k%8*8)=Y at*;go_wp2;go_region
    go_wp2;go_roundw;case rel=>exact⟨k+1,by omega,by go_num,dQ.out.drew,Hb.out.drew⟩
    case measure=>exact bf
  . obtain rfl:k=l.length:=by omega
    rw[Nat.sub_self,List.drop_zero]at hB;have Hc:Hid (dx wr w.heap.size 0 n (nv l)):=λj hj=>by rw[Nat.zero_add,hB.cell,fQ _ _ _ hj]
    have HB:=aj hB;clear hB;have Hb:=aj hb;clear hb;go_wp2_with (go_at_call 281;refine(ki w.heap.size 0 n n (nv l) _ zo (Nat.le_refl _) Hc.out sM.out).mono ?_;rintro e w' ⟨rfl,rfl⟩);go_ret;exact⟨rfl,HB.out,Hb.out,iy sM.out⟩
def RD (b o m cap v n:Nat)(w:World)(hm:m<=549755813888)(hn:n<=549755813888)(hx:dx w b o m v)(hv:v<WW^m):
 Cl 282 #[.slice (some ⟨b,o,none⟩) m cap,af (n:Int)] w λe w'=>e=.returned (.slice (some ⟨w.heap.size,0,none⟩) (ln (v*2^n)) (m+n/64+1))/\
  ar w' w.heap.size 222 (bj (m+n/64+1) (dg (v*2^n)))/\Bw w w'/\ln (v*2^n)<=m+n/64+1:=by
 have hmk:=yf ((m:Int)+(n:Int)/64+1) (m+n/64+1) zo zo;generalize hM:m+n/64+1=M at*;have Hx:=aj hx;clear hx;have Eg:v*2^n<WW^M:=by
  have h1:2^n<=WW^(n/64+1):=by rw[ke];exact Nat.pow_le_pow_right zd zo
  rw[<-hM,Nat.add_assoc,Nat.pow_add];exact Nat.lt_of_lt_of_le (Nat.mul_lt_mul_of_pos_right hv (Nat.pow_pos zd)) (Nat.mul_le_mul_left _ h1)
 have sM:=aj Eg;clear Eg;have Hv:=aj hv;clear hv;have NN:m+n/64+1<=M:=by omega
 have zY:M<=1099511627776:=by omega
 have HM:=aj hM;clear hM;go_enter Tryz.func282,Tryz.ntmps282;go_wp2;go_loopw[6,7,8,18] (λ_ _ _ i wr=>∃k:Nat,k<=m/\i=af k/\ar wr w.heap.size 222 (bj M (dg (v%WW^k*2^n)))/\Bw w wr) (λ_ _ _ i _=>m-(intOf i).toNat);case atStart=>
  refine⟨0,Nat.zero_le _,rfl,?_,zl⟩;have e:bj M (dg (v%WW^0*2^n))=bj M λ_=>0:=jy λj _=>by simp[dg,Nat.mod_one]
  rw[e];exact ar.new _ _ _
 case round=>
  obtain⟨k,hk,rfl,hB,hb⟩:=hrel;by_cases hlt:k<m
  . have c0:wr.cell? ⟨b,o+k,none⟩=some (.int .u64 (dg v k:Int)):=cell_later hb (Hx.out k hlt);obtain⟨c,e1,e2,e3,e4,e5,e6⟩:=asE v n k;have hcell:wr.cell? ⟨w.heap.size,k+n/64,none⟩=some (.int .u64 (dg (v%WW^k*2^n) (k+n/64):Int)):=by rw[hB.cell,fQ _ _ _ zo]
    have hfree:wr.frozen? ⟨w.heap.size,k+n/64,none⟩=false:=hB.free _;have Jd:=Rn (dg v k) (n%64);rw[<-e1]at Jd;have Az:=QG _ _ _ _ rfl e2 e3;have bL:=hB.set (k+n/64) (.int .u64 ((dg (v%WW^k*2^n) (k+n/64)+c*2^(n%64):Nat):Int));have hb1:=hb.setCell (p:=⟨w.heap.size,k+n/64,none⟩) (Nat.le_refl _) (.int .u64 ((dg (v%WW^k*2^n) (k+n/64)+c*2^(n%64):Nat):Int));rw[Bi]at bL;clear e1 e2 e3 hB hb;by_cases hr:n%64=0
    . have dQ:Hid (ar (wr.setCell ⟨w.heap.size,k+n/64,none⟩ (.int .u64 ((dg (v%WW^k*2^n) (k+n/64)+c*2^(n%64):Nat):Int))) w.heap.size 222 (bj M (dg (v%WW^(k+1) *2^n)))):=by
       have hz:dg v k/2^(64-n%64)=0:=by rw[hr];exact Nat.div_eq_of_lt (by have:=iQ v k;rw[kd]at this;exact this)
       rw[jy (g:=λj=>if j=k+n/64 then dg (v%WW^k*2^n) (k+n/64)+c*2^(n%64)else dg (v%WW^k*2^n) j) λj _=>by
        rw[e6 j,hz];by_cases hj:j=k+n/64+1
        . subst hj;rw[if_pos rfl,if_neg zo,e4]
        . rw[if_neg hj]]
       exact bL
      have Hb:=aj hb1;clear bL hb1 e4 e5 e6;generalize dg (v%WW^k*2^n) (k+n/64)+c*2^(n%64)=Z at*;generalize dg (v%WW^k*2^n) (k+n/64)=X at*;generalize c*2^(n%64)=Y at*;have xR:decide ((0:Int)<(n:Int)%64)=false:=by simp;omega
      have Hr:=aj hr;clear hr;go_wp2;go_region
      go_wp2;go_roundw;case rel=>exact⟨k+1,by omega,by go_num,dQ.out.drew,Hb.out.drew⟩
      case measure=>exact bf
    . have bi:k+n/64+1<M:=by omega
      have amf:(wr.setCell ⟨w.heap.size,k+n/64,none⟩ (.int .u64 ((dg (v%WW^k*2^n) (k+n/64)+c*2^(n%64):Nat):Int))).cell? ⟨w.heap.size,k+n/64+1,none⟩=some (.int .u64 0):=by rw[bL.cell,fQ _ _ _ bi,if_neg zo,e4];rfl
      have amq:(wr.setCell ⟨w.heap.size,k+n/64,none⟩ (.int .u64 ((dg (v%WW^k*2^n) (k+n/64)+c*2^(n%64):Nat):Int))).frozen? ⟨w.heap.size,k+n/64+1,none⟩=false:=bL.free _;have dU:=bL.set (k+n/64+1) (.int .u64 ((dg v k/2^(64-n%64):Nat):Int));have hb2:=hb1.setCell (p:=⟨w.heap.size,k+n/64+1,none⟩) (Nat.le_refl _) (.int .u64 ((dg v k/2^(64-n%64):Nat):Int));rw[Bi,<-jy λj _=>e6 j]at dU;have avd:bits BinOp.or IntKind.u64 0 ((dg v k:Int)/2^(64-n%64))=((dg v k/2^(64-n%64):Nat):Int):=by have h:=bits_or_u64_nat 0 (dg v k/2^(64-n%64)) zd (by rw[iG]at e5;exact e5);simp only[Nat.zero_or]at h;rw[<-h];simp[Int.natCast_pow]
      obtain⟨dQ,Hb⟩:=aI dU hb2;clear bL hb1 e4 e5 e6 dU hb2;have xR:decide ((0:Int)<(n:Int)%64)=true:=by simp;omega
      have Hr:=aj hr;clear hr;generalize dg (v%WW^k*2^n) (k+n/64)+c*2^(n%64)=Z at*;generalize dg (v%WW^k*2^n) (k+n/64)=X at*;generalize c*2^(n%64)=Y at*;generalize dg v k/2^(64-n%64)=Z2 at*;go_wp2;go_region
      go_wp2;go_region
      go_wp2;go_roundw;case rel=>exact⟨k+1,by omega,by go_num,dQ.out.drew.drew,Hb.out.drew.drew⟩
      case measure=>exact bf
  . obtain rfl:k=m:=by omega
    rw[Nat.mod_eq_of_lt Hv.out]at hB;have Hc:Hid (dx wr w.heap.size 0 M (v*2^n)):=λj hj=>by rw[Nat.zero_add,hB.cell,fQ _ _ _ hj]
    have HB:=aj hB;clear hB;have Hb:=aj hb;clear hb;go_wp2_with (go_at_call 281;refine(ki w.heap.size 0 M M (v*2^n) _ zo (Nat.le_refl _) Hc.out sM.out).mono ?_;rintro e w' ⟨rfl,rfl⟩);go_ret;exact⟨rfl,HB.out,Hb.out,iy sM.out⟩
def xh (F:Nat->Nat)(k:Nat)(G:Nat->Nat)(j:Nat):Nat:=if j<k then G j else F j
def Wu (N:Nat)(F:Nat->Nat)(i:Nat)(G:Nat->Nat)(x:Nat)(hx:x=G i):
 (bj N (xh F i G)).set i (.int .u64 (x:Int))=bj N (xh F (i+1) G):=by
 rw[Bi];refine jy λj _=>?_;unfold xh;by_cases h:j=i
 . subst h;rw[if_pos rfl,if_pos zo,hx]
 . rw[if_neg h];by_cases h2:j<i
   . rw[if_pos h2,if_pos zo]
   . rw[if_neg h2,if_neg zo]
def GF (v q j:Nat):dg (v/WW^q) j=dg v (q+j):=by unfold dg;rw[Nat.div_div_eq_div_mul,<-Nat.pow_add]
def aks (v n:Nat):v/WW^(n/64)/2^(n%64)=v/2^n:=by rw[ke,Nat.div_div_eq_div_mul,<-Nat.pow_add];congr 2;omega
def VU (a:Option Addr)(m cap n:Nat)(w:World)(hm:m<=549755813888)(hn:n<=1099511627776)(hle:m<=n/64):
 Cl 283 #[.slice a m cap,af (n:Int)] w λe w'=>e=.returned (.slice none 0 0)/\w=w':=by
 go_enter Tryz.func283,Tryz.ntmps283;go_wp2;go_ret;exact⟨rfl,rfl⟩
def VT (b o m cap v n:Nat)(w:World)(hm:m<=549755813888)(hcap:m<=cap)(hn:n<=1099511627776)(hx:dx w b o m v)(hv:v<WW^m)(au7:n/64<m):
 Cl 283 #[.slice (some ⟨b,o,none⟩) m cap,af (n:Int)] w λe w'=>e=.returned (.slice (some ⟨w.heap.size,0,none⟩) (ln (v/2^n)) (m-n/64))/\
  ar w' w.heap.size 222 (bj (m-n/64) (dg (v/2^n)))/\Bw w w'/\ln (v/2^n)<=m-n/64:=by
 have dV:b<w.heap.size:=World.block_lt_of_cell? w ⟨b,o+0,none⟩ (hx 0 zo);have hne:¬cap=n/64:=by omega
 have Hx:=aj hx;clear hx;have hu:v/WW^(n/64)<WW^(m-n/64):=by rw[Nat.div_lt_iff_lt_mul (dH _),<-Nat.pow_add,show m-n/64+n/64=m by omega];exact hv
 have Hu:=aj hu;clear hu;have Hv:=aj hv;clear hv;have Uz:Hid (dx w b (o+n/64) (m-n/64) (v/WW^(n/64))):=λj hj=>by rw[GF,Nat.add_assoc];exact Hx.out _ zo
 go_enter Tryz.func283,Tryz.ntmps283;go_wp2_with (go_at_call 298;refine(MQ (some ⟨b,o+n/64,none⟩) (m-n/64) (cap-n/64) (v/WW^(n/64)) 0 _ zo zo zo (λ_=>⟨b,o+n/64,rfl,Uz.out⟩) Hu.out).mono ?_;rintro e w1 ⟨rfl,bL,hb1⟩;rw[show max (0:Int).toNat (m-n/64)=m-n/64 by simp]at bL;rw[show max (0:Int).toNat (m-n/64)=m-n/64 by simp];have dO:=aj bL;clear bL;have bB:=aj hb1;clear hb1);generalize hL:m-n/64=L at*;have HL:=aj hL;have CQ:L+n/64=m:=by omega
 clear hL;generalize hU:v/WW^(n/64)=U at*;have HU:=aj hU;clear hU;go_wp2;go_loopw[6,19] (λ_ i wr=>∃k:Nat,k<=L/\i=af k/\ar wr w.heap.size 222 (bj L (xh (dg U) k (dg (U/2^(n%64)))))/\Bw w wr) (λ_ i _=>L-(intOf i).toNat);case atStart=>exact⟨0,Nat.zero_le _,rfl,dO.out,bB.out⟩
 case round=>
  obtain⟨k,hk,rfl,hB,hb⟩:=hrel;by_cases hlt:k<L
  . have hcell:wr.cell? ⟨w.heap.size,k,none⟩=some (.int .u64 (dg U k:Int)):=by rw[hB.cell,fQ _ _ _ hlt];simp[xh]
    have hfree:wr.frozen? ⟨w.heap.size,k,none⟩=false:=hB.free _;have IB:=akg U (n%64) k (Nat.mod_lt _ zd);have Je:(dg U k:Int)/2^(n%64)=((dg U k/2^(n%64):Nat):Int):=by simp[Int.natCast_pow]
    have bL:=hB.set k (.int .u64 ((dg U k/2^(n%64):Nat):Int));have hb1:=hb.setCell (p:=⟨w.heap.size,k,none⟩) (Nat.le_refl _) (.int .u64 ((dg U k/2^(n%64):Nat):Int));by_cases hc:k+1<L/\0<n%64
    . obtain⟨hc1,hc2⟩:=hc;obtain⟨c,f1,f2,f3,f4,f5⟩:=adc (dg U (k+1)) (64-n%64) (iQ _ _) zo;have hX:dg U k/2^(n%64)<2^(64-n%64):=by rw[Nat.div_lt_iff_lt_mul (Nat.pow_pos zd),<-Nat.pow_add,show 64-n%64+n%64=64 by omega,<-kd];exact iQ _ _
      have auN:(wr.setCell ⟨w.heap.size,k,none⟩ (.int .u64 ((dg U k/2^(n%64):Nat):Int))).cell? ⟨b,o+(n/64+k+1),none⟩=some (.int .u64 (dg U (k+1):Int)):=by have:=Uz.out (k+1) zo;rw[show o+(n/64+k+1)=o+n/64+(k+1)by omega];exact cell_later hb1 this
      have amf:(wr.setCell ⟨w.heap.size,k,none⟩ (.int .u64 ((dg U k/2^(n%64):Nat):Int))).cell? ⟨w.heap.size,k,none⟩=some (.int .u64 ((dg U k/2^(n%64):Nat):Int)):=by rw[bL.cell];simp[vZ,hlt]
      have amq:(wr.setCell ⟨w.heap.size,k,none⟩ (.int .u64 ((dg U k/2^(n%64):Nat):Int))).frozen? ⟨w.heap.size,k,none⟩=false:=bL.free _;have Jd:=Rn (dg U (k+1)) (64-n%64);have Az:=QG _ _ _ _ f1 hX f4;have dU:=bL.set k (.int .u64 ((dg (U/2^(n%64)) k:Nat):Int));have hb2:=hb1.setCell (p:=⟨w.heap.size,k,none⟩) (Nat.le_refl _) (.int .u64 ((dg (U/2^(n%64)) k:Nat):Int));rw[List.set_set,Wu L _ k _ _ rfl]at dU;rw[<-IB]at Az;obtain⟨dQ,Hb⟩:=aI dU hb2;clear bL hb1 dU hb2 hB hb f1 f2 f3 f4 f5 hX IB;have hq1:decide ((k:Int)+1<(L:Int))=true:=by simp;omega
      have hq2:decide ((0:Int)<(n:Int)%64)=true:=by simp;omega
      generalize dg U k/2^(n%64)=D at*;generalize dg U (k+1) *2^(64-n%64)%WW=Y at*;generalize dg U (k+1)=D1 at*;go_wp2;go_region
      go_wp2;go_roundw;case rel=>exact⟨k+1,by omega,by go_num,dQ.out.drew,Hb.out.drew⟩
      case measure=>exact bf
    . have e:dg U k/2^(n%64)=dg (U/2^(n%64)) k:=by
       rw[IB];by_cases h0:n%64=0
       . rw[h0];simp only[Nat.pow_zero,Nat.div_one,Nat.sub_zero,<-kd,Nat.mul_mod_left,Nat.add_zero]
       . rw[rC (j:=k+1) Hu.out zo,Nat.zero_mul,Nat.zero_mod,Nat.add_zero]
      rw[e,Wu L _ k _ _ rfl]at bL;rw[e]at hb1 Je;obtain⟨dQ,Hb⟩:=aI bL hb1;clear bL hb1 hB hb IB e;by_cases h1:k+1<L
      . have hq1:decide ((k:Int)+1<(L:Int))=true:=by simp;omega
        have hq2:decide ((0:Int)<(n:Int)%64)=false:=by simp;omega
        go_wp2;go_roundw;case rel=>exact⟨k+1,by omega,by go_num,dQ.out,Hb.out⟩
        case measure=>exact bf
      . have hq1:decide ((k:Int)+1<(L:Int))=false:=by simp;omega
        go_wp2;go_roundw;case rel=>exact⟨k+1,by omega,by go_num,dQ.out,Hb.out⟩
        case measure=>exact bf
  . obtain rfl:k=L:=by omega
    have e:U/2^(n%64)=v/2^n:=by rw[<-HU.out,aks]
    have e2:bj k (xh (dg U) k (dg (U/2^(n%64))))=bj k (dg (v/2^n)):=jy λj hj=>by simp[xh,hj,e]
    rw[e2]at hB;have bi:v/2^n<WW^k:=by rw[<-e];exact Nat.lt_of_le_of_lt (Nat.div_le_self _ _) Hu.out
    have TM:=aj bi;clear e e2 bi;have Hc:Hid (dx wr w.heap.size 0 k (v/2^n)):=λj hj=>by rw[Nat.zero_add,hB.cell,fQ _ _ _ hj]
    have HB:=aj hB;clear hB;have Hb:=aj hb;clear hb;go_wp2_with (go_at_call 281;refine(ki w.heap.size 0 k k (v/2^n) _ zo (Nat.le_refl _) Hc.out TM.out).mono ?_;rintro e w' ⟨rfl,rfl⟩);go_ret;rw[HL.out];exact⟨rfl,HB.out,Hb.out,iy TM.out⟩
def cH (n:Nat)(f:Nat->Nat):List Value:=(List.range n).map λj=>.int .u8 (f j:Int)
def EO (n:Nat)(f:Nat->Nat):(cH n f).length=n:=by simp[cH]
def lv (n:Nat)(f:Nat->Nat)(j:Nat)(h:j<n):(cH n f)[j]?=some (.int .u8 (f j:Int)):=by simp[cH,List.getElem?_range h]
def mz {n:Nat}{f g:Nat->Nat}(h:∀j,j<n->f j=g j):cH n f=cH n g:=by unfold cH;refine List.map_congr_left λj hj=>?_;rw[h j (by simpa using hj)]
def Bh (n:Nat)(f:Nat->Nat)(i x:Nat):(cH n f).set i (.int .u8 (x:Int))=cH n (λj=>if j=i then x else f j):=by
 apply List.ext_getElem?;intro j;rw[List.getElem?_set,EO];by_cases h:j<n
 . rw[lv _ _ _ h,lv _ _ _ h];by_cases e:i=j
   . subst e;simp[h]
   . simp[e,Ne.symm e]
 . by_cases e:i=j
   . subst e;simp[cH,h]
   . simp[e,cH,h]
def asy (n:Nat):List.replicate n (Value.int .u8 0)=cH n λ_=>0:=by
 apply List.ext_getElem?;intro j;by_cases h:j<n
 . rw[lv _ _ _ h];simp[h]
 . simp[cH,h]
def tY (c:Int)(n:Nat)(hc:c=n)(h:n<=17592186044416)(w:World):
 (Instr.makeSlice 59 (af c) (af c)).run Tryz.prog w=.ok (.slice (some ⟨w.heap.size,0,none⟩) n n) (w.alloc (.cells (cH n λ_=>0).toArray 5)):=by
 subst hc;obtain⟨i0,hi,hz0,hz1,hz2⟩:=info_parts Tryz.awQ;rw[run_make (P:=Tryz.prog) w 59 5 i0 _ Tryz.underlying59 hi hz0 .i64 .i64 n n zo zo (by rw[hz2];omega) zo];simp only[Int.toNat_natCast,hz1,Nat.mul_one];rw[<-asy,<-toList_madeCells_one];simp[Value.cells]
def Bg {w:World}{b:Nat}{t:TypeId}{n:Nat}{f:Nat->Nat}(h:ar w b t (cH n f))(cap:Nat):
 (convert 59 9 (.slice (some ⟨b,0,none⟩) n cap)).run Tryz.prog w=.ok (.string (bs ((List.range n).map λj=>UInt8.ofNat (f j)))) w:=by
 have:=run_convert_bytes_arg (P:=Tryz.prog) w 59 5 Tryz.underlying59 Tryz.underlying5 b 0 n cap ((List.range n).map λj=>(f j:Int)) zm (λi hi=>by rw[Nat.zero_add,h.cell,lv _ _ _ hi];simp[hi]) 9 Tryz.underlying9
 rw[this];unfold strOfNums bs;rw[List.map_map];rfl
def apj (v n:Nat):nv ((List.range n).map λj=>UInt8.ofNat (v/256^(n-1-j)%256))=v%256^n:=by
 induction n with
 |zero=>simp[vP,Nat.mod_one]
 | succ n ih=>
   rw[List.range_succ_eq_map,List.map_cons,List.map_map,rS,Gn,List.length_map,List.length_range];have e:(List.range n).map ((λj=>UInt8.ofNat (v/256^(n+1-1-j)%256))∘Nat.succ)=(List.range n).map λj=>UInt8.ofNat (v/256^(n-1-j)%256):=by
    refine List.map_congr_left λj hj=>?_;have hj':j<n:=by simpa using hj
    show UInt8.ofNat (v/256^(n+1-1-(j+1))%256)=_
    rw[show n+1-1-(j+1)=n-1-j by omega]
   rw[e,ih,Nat.pow_succ,Nat.mod_mul,show n+1-1-0=n by omega,Nat.mul_comm,Nat.add_comm]
def Qw (v n:Nat)(h:v<256^n)(h0:0<n->256^(n-1)<=v):(List.range n).map (λj=>UInt8.ofNat (v/256^(n-1-j)%256))=nt v:=by
 have e:=apj v n;rw[Nat.mod_eq_of_lt h]at e;refine(abB _ ?_).symm.trans (by rw[e]);intro c hc;cases n with
 |zero=>simp at hc
 | succ n=>
   rw[List.range_succ_eq_map,List.map_cons,List.head?_cons]at hc;cases hc
   intro hz;have:=congrArg UInt8.toNat hz;rw[Gn]at this;have h1:=h0 zo;rw[show n+1-1=n by omega]at h1;rw[show n+1-1-0=n by omega]at this;have h2:v/256^n<256:=by rw[Nat.div_lt_iff_lt_mul (Nat.pow_pos zd)];rw[Nat.pow_succ,Nat.mul_comm]at h;exact h
   have h3:=Nat.div_pos h1 (Nat.pow_pos (n:=n) (show 0<256 by decide));rw[Nat.mod_eq_of_lt h2]at this;simp at this;omega
def Cz (v:Nat):v<256^((bu v+7)/8)/\(0<(bu v+7)/8->256^((bu v+7)/8-1)<=v):=by
 constructor
 . refine Nat.lt_of_lt_of_le (pP v) ?_;rw[show(256:Nat)=2^8 by rfl,<-Nat.pow_mul];exact Nat.pow_le_pow_right zd zo
 . intro h;have hv:v≠0:=by intro h0;subst h0;simp[bu]at h
   have e:bu v=Nat.log2 v+1:=by unfold bu;rw[if_neg hv]
   refine Nat.le_trans ?_ (Nat.log2_self_le hv);rw[show(256:Nat)=2^8 by rfl,<-Nat.pow_mul];exact Nat.pow_le_pow_right zd zo
def apd (v:Nat):(nt v).length=(bu v+7)/8:=by have h:=Cz v;rw[<-Qw v _ h.1 h.2];simp
def byte_of (v k:Nat):IntKind.u8.wrap ((dg v (k/8):Int)/2^(k%8*8))=((v/256^k%256:Nat):Int):=by
 have e:(dg v (k/8):Int)/2^(k%8*8)=((dg v (k/8)/2^(k%8*8):Nat):Int):=by simp[Int.natCast_pow]
 rw[e];have e2:dg v (k/8)/2^(k%8*8)%256=v/256^k%256:=by
  unfold dg;rw[QR,<-Nat.div_div_eq_div_mul];generalize v/WW^(k/8)=x;have hW:WW=2^(k%8*8) *2^(64-k%8*8):=by rw[<-Nat.pow_add,kd];congr 1;omega
  rw[hW,Nat.mod_mul_right_div_self,Nat.mod_mod_of_dvd];rw[show(256:Nat)=2^8 by rfl];exact Nat.pow_dvd_pow 2 zo
 rw[<-e2];generalize dg v (k/8)/2^(k%8*8)=y;simp[IntKind.wrap,IntKind.signed,IntKind.bits]
def vW (b o m cap v:Nat)(w:World)(hm:m<=1099511627776)(hcap:m<=cap)(hx:dx w b o m v)(hv:v<WW^m):
 Cv 260 #[.slice (some ⟨b,o,none⟩) m cap] w (ah (nt v)):=by
 have hle:=iy hv;have hbl:bu v<=64*m:=gw (by rw[<-ke];exact hv);have hmk:=tY (((bu v:Int)+7)/8) ((bu v+7)/8) zo zo;have OO:(bu v+7)/8<=8*ln v:=by have h1:bu v<=64*ln v:=gw (by rw[<-ke];exact ej v);omega
 have lC:Hid ((List.range ((bu v+7)/8)).map (λj=>UInt8.ofNat (v/256^((bu v+7)/8-1-j)%256))=nt v):=Qw _ _ (Cz v).1 (Cz v).2;generalize hn:(bu v+7)/8=n at*;have hnb:n<=17592186044416:=by omega
 have Hn:=aj hn;have OW:((bu v:Int)+7)/8=(n:Int):=by omega
 rw[OW]at hmk;clear hn;have Hx:=aj hx;clear hx;have Hv:=aj hv;clear hv;have uE:Hid (dx w b o (ln v) v):=Hx.out.less hle;go_enter Tryz.func260,Tryz.ntmps260;go_wp2_with fail;refine(ki b o m cap v _ zo hcap Hx.out Hv.out).mono ?_;rintro e w' ⟨rfl,rfl⟩;go_wp2_with fail;refine(aa6 b o (ln v) cap v _ zo zo uE.out (ej v)).mono ?_;rintro e w' ⟨rfl,rfl⟩;go_wp2;go_loopw[5,15] (λ_ i wr=>∃k:Nat,k<=n/\i=af k/\ar wr w.heap.size 5 (cH n (λj=>if n-k<=j then v/256^(n-1-j)%256 else 0))/\Bw w wr) (λ_ i _=>n-(intOf i).toNat);case atStart=>
  refine⟨0,Nat.zero_le _,rfl,?_,zl⟩;have e:cH n (λj=>if n-0<=j then v/256^(n-1-j)%256 else 0)=cH n λ_=>0:=mz λj hj=>by rw[if_neg zo]
  rw[e];exact ar.new _ _ _
 case round=>
  obtain⟨k,hk,rfl,hB,hb⟩:=hrel;by_cases hlt:k<n
  . have jN:wr.cell? ⟨b,o+k/8,none⟩=some (.int .u64 (dg v (k/8):Int)):=cell_later hb (uE.out _ zo);have h8:k/8<ln v:=by omega
    have auM:=byte_of v k;have hcell:wr.cell? ⟨w.heap.size,n-1-k,none⟩=some (.int .u8 0):=by rw[hB.cell,lv _ _ _ zo,if_neg zo];rfl
    have hfree:wr.frozen? ⟨w.heap.size,n-1-k,none⟩=false:=hB.free _;have bL:=hB.set (n-1-k) (.int .u8 ((v/256^k%256:Nat):Int));have hb1:=hb.setCell (p:=⟨w.heap.size,n-1-k,none⟩) (Nat.le_refl _) (.int .u8 ((v/256^k%256:Nat):Int))
    rw[Bh,mz (g:=λj=>if n-(k+1)<=j then v/256^(n-1-j)%256 else 0) λj hj=>by
     by_cases tE:j=n-1-k
     . subst tE;rw[if_pos rfl,if_pos zo,show n-1-(n-1-k)=k by omega]
     . rw[if_neg tE];by_cases gL:n-k<=j
       . rw[if_pos gL,if_pos zo]
       . rw[if_neg gL,if_neg zo]]at bL
    obtain⟨dQ,Hb⟩:=aI bL hb1;clear hB hb bL hb1;generalize v/256^k%256=Z at*;go_wp2;go_roundw;case rel=>exact⟨k+1,by omega,by go_num,dQ.out,Hb.out⟩
    case measure=>exact bf
  . obtain rfl:k=n:=by omega
    rw[mz (g:=λj=>v/256^(k-1-j)%256) λj hj=>by rw[if_pos zo]]at hB;have oM:=Bg hB k;rw[lC.out]at oM;have Hb:=aj hb;clear hb hB;go_wp2;go_ret;exact⟨rfl,Hb.out⟩
def na {t e sz:Nat}(hu:Tryz.prog.underlying t=some (.slice e))(hs:(Tryz.prog.info? e).map (·.size)=some sz){a:Option Addr}{b o:Nat}(n cap k:Nat)(i:Int)
 (ha:a=some ⟨b,o,none⟩) (hk:k<n) (hi:i=k) (W:World):
 (Instr.indexAt t (.slice a n cap) (af i)).run Tryz.prog W=.ok (.pointer (some ⟨b,o+k*sz,none⟩)) W:=by
 subst ha;subst hi;obtain⟨inf,h1,h2⟩:=Option.map_eq_some_iff.1 hs;have hk':(0:Int)<=(k:Int)/\(k:Int)<(n:Int):=by omega
 have hadd:(⟨b,o,none⟩:Addr).add (k*sz)=⟨b,o+k*sz,none⟩:=by unfold Addr.add;split<;>simp_all
 simp[Instr.indexAt,run_underlying hu,asIntOf,hk,sizeOf,typeInfo,h1,h2,hadd]
abbrev anh := @na 122 124 1 Tryz.underlying122 zk
abbrev AE := @na 153 29 1 Tryz.underlying153 zk
abbrev AG := @na 211 226 1 Tryz.underlying211 zk
abbrev tM := @na 226 43 2 Tryz.underlying226 zk
abbrev AH := @na 23 88 6 Tryz.underlying23 zk
abbrev yb := @na 25 63 1 Tryz.underlying25 zk
abbrev En := @na 264 222 1 Tryz.underlying264 zk
abbrev qF := @na 28 3 1 Tryz.underlying28 zk
abbrev ot := @na 29 45 3 Tryz.underlying29 zk
abbrev fW := @na 39 111 4 Tryz.underlying39 zk
abbrev mY := @na 51 41 2 Tryz.underlying51 zk
abbrev tN := @na 59 5 1 Tryz.underlying59 zk
abbrev vK := @na 63 45 3 Tryz.underlying63 zk
abbrev PV := @na 98 9 1 Tryz.underlying98 zk
def At (w:World)(a:Option Addr)(cs:List Value):Prop:=cs=[]\/∃b o,a=some ⟨b,o,none⟩/\∀j,j<cs.length->w.cell? ⟨b,o+j,none⟩=cs[j]?
def At.nil (w:World)(a:Option Addr):At w a []:=.inl rfl
def At.below {w w':World}{a:Option Addr}{cs:List Value}(h:At w a cs)(hb:Bw w w'):At w' a cs:=by
 rcases h with h|⟨b,o,ha,hc⟩
 . exact .inl h
 . refine .inr ⟨b,o,ha,λj hj=>?_⟩;have:=hc j hj;rw[List.getElem?_eq_getElem hj]at this⊢;exact cell_later hb this
def At.grown {w w':World}{a:Option Addr}{cs:List Value}{r:Option Nat}(h:At w a cs)(hb:w.grownBy w' r)(hr:∀b o,a=some ⟨b,o,none⟩->some b≠r):At w' a cs:=by
 rcases h with h|⟨b,o,ha,hc⟩
 . exact .inl h
 . refine .inr ⟨b,o,ha,λj hj=>?_⟩;have:=hc j hj;rw[List.getElem?_eq_getElem hj]at this⊢;exact hb.cell this (hr b o ha)
def At.get {w:World}{a:Option Addr}{cs:List Value}(h:At w a cs)(h0:cs≠[]):∃b o,a=some ⟨b,o,none⟩/\∀j,j<cs.length->w.cell? ⟨b,o+j,none⟩=cs[j]?:=by
 rcases h with h|h
 . exact absurd h h0
 . exact h
def At.lt {w:World}{b o:Nat}{cs:List Value}(h:At w (some ⟨b,o,none⟩) cs)(h0:cs≠[]):b<w.heap.size:=by
 obtain⟨b',o',ha,hc⟩:=h.get h0;cases ha
 have hp:0<cs.length:=List.length_pos_iff.2 h0;have:=hc 0 hp;rw[List.getElem?_eq_getElem hp]at this;exact World.block_lt_of_cell? w _ this
def zu (w:World)(a:Option Addr)(n v:Nat):Prop:=0<n->∃b o,a=some ⟨b,o,none⟩/\dx w b o n v
def zu.below {w w':World}{a:Option Addr}{n v:Nat}(h:zu w a n v)(hb:Bw w w'):zu w' a n v:=λh0=>
 let ⟨b,o,ha,hl⟩:=h h0;⟨b,o,ha,hl.below hb⟩
def acQ (a:Option Addr)(cap:Nat)(w:World):
 Cv 260 #[.slice a 0 cap] w (.string (bs [])):=by
 have hmk:=tY 0 0 rfl zo;have oM:=Bg (ar.new w 5 (cH 0 λ_=>0)) 0;go_enter Tryz.func260,Tryz.ntmps260;go_wp2_with fail;refine(VG cap a _).mono ?_;rintro e w' ⟨rfl,rfl⟩;go_wp2_with fail;refine(an5 a cap _).mono ?_;rintro e w' ⟨rfl,rfl⟩;go_wp2;refine wp_loop_rounds 1 ?_;rw[rounds_succ];go_wp2;go_ret;exact⟨rfl,zl⟩
def acP (a:Option Addr)(m cap v:Nat)(w:World)(hm:m<=1099511627776)(hcap:m<=cap)(hx:zu w a m v)(hv:v<WW^m):
 Cv 260 #[.slice a m cap] w (ah (nt v)):=by
 rcases Nat.eq_zero_or_pos m with h|h
 . subst h;have:v=0:=by simpa using hv
   subst this;exact acQ a cap w
 . obtain⟨b,o,rfl,hl⟩:=hx h;exact vW b o m cap v w hm hcap hl hv
def apn (n:Nat)(h:n<WW)(w:World):ar (w.alloc (.cells #[.int .u64 (n:Int)] 222)) w.heap.size 222 (bj 1 (dg n)):=by
 have e0:dg n 0=n:=by simp[dg,Nat.mod_eq_of_lt h]
 have e:bj 1 (dg n)=[.int .u64 (n:Int)]:=by simp[bj,e0]
 rw[e];exact ar.new _ _ _
def abt (n:Nat)(h:n<WW)(w:World):
 Cv 210 #[.int .u64 (n:Int)] w (ah (nt n)):=by
 have hB:=apn n h w;have Hc:Hid (dx (w.alloc (.cells #[.int .u64 (n:Int)] 222)) w.heap.size 0 1 n):=λj hj=>by rw[Nat.zero_add,hB.cell,fQ _ _ _ hj]
 have Hh:=aj h;clear h hB;go_enter Tryz.func210,Tryz.ntmps210;go_wp2_with (go_at_call 260;refine(vW w.heap.size 0 1 1 n _ zo zo Hc.out (by rw[Nat.pow_one];exact Hh.out)).mono ?_;rintro e w' ⟨rfl,hb⟩);go_ret;exact⟨rfl,zl.trans (hb.mono zm)⟩
def aiX (l:List UInt8)(k:Nat):(bs l).extract k (bs l).size=bs (l.drop k):=by rw[aiZ ((bs l).extract k (bs l).size)];congr 1;rw[jh];simp[bs,ByteArray.data_extract];rw[List.take_of_length_le zm]
def arC (l:List UInt8)(i:Int)(k:Nat)(hk:k<=l.length)(hi:i=k)(W:World):
 (Instr.sliceAt 9 (ah l) (some (af i)) none none).run Tryz.prog W=.ok (ah (l.drop k)) W:=by
 subst hi;have h:=run_slice_string_from_if (P:=Tryz.prog) W 9 (bs l) .i64 k Tryz.underlying9;rw[if_pos (by rw[jh];omega)]at h;simp only[Int.toNat_natCast,aiX l k]at h;simpa[Instr.sliceAt,run_underlying Tryz.underlying9]using h
def ass (l:List UInt8)(w:World)(_hs:l.length<=1099511627776):
 Cl 305 #[ah l,.int .u8 0] w λe w'=>e=.returned (ah (nt (nv l)))/\w=w':=by
 go_enter Tryz.func305,Tryz.ntmps305;go_wp2;go_loop [0] (λx=>∃m:List UInt8,m.length<=l.length/\nv m=nv l/\x=ah m) (λx=>match x with| .string s=>s.size|_=>0)
 case atStart=>exact⟨l,Nat.le_refl _,rfl,rfl⟩
 case round=>
  obtain⟨m,hm,hv,rfl⟩:=hrel;have Hv:=aj hv;clear hv;have hsz:=jh m;cases m with
  | nil=>
    go_wp2;go_ret;have e:nt (nv l)=[]:=by rw[<-Hv.out];rfl
    rw[e];exact⟨rfl,rfl⟩
  | cons c m=>
    have eZ:=rP (c::m) 0 0 zm rfl;have hsl:=arC (c::m) 1 1 zm rfl;simp only[List.getElem_cons_zero,List.drop_succ_cons,List.drop_zero]at eZ hsl;have od:0<m.length+1:=by omega
    have lF:Hid (m.length+1<=l.length):=hm;rw[List.length_cons]at hsz hm;by_cases hc:c=0
    . have hct:((c.toNat:Int)==0)=true:=by rw[hc];rfl
      have Hn:Hid (nv m=nv l):=by
       show nv m=nv l
       rw[<-Hv.out,rS,hc];simp
      clear hc;go_wp2;refine⟨⟨m,by have:=lF.out;omega,Hn.out,rfl⟩,?_⟩;simp[jh]
    . have hcn:c.toNat≠0:=λh0=>hc (UInt8.toNat_inj.1 (by simpa using h0));have hct:((c.toNat:Int)==0)=false:=by rw[beq_eq_false_iff_ne];omega
      have He:Hid (nt (nv l)=c::m):=by
       show nt (nv l)=c::m
       rw[<-Hv.out];exact abB _ (λx hx=>by simp at hx;subst hx;exact hc)
      clear hc hcn;go_wp2;go_ret;rw[He.out];exact⟨rfl,rfl⟩
def asg (a:ByteArray)(k i:Nat)(hk:a.size-i=k)(r:List UInt8):ByteArray.toList.loop a i r=r.reverse++a.data.toList.drop i:=by
 induction k generalizing i r with
 |zero=>unfold ByteArray.toList.loop;rw[if_neg zo,List.drop_eq_nil_of_le zi,List.append_nil]
 | succ k ih=>
   unfold ByteArray.toList.loop;have hi:i<a.size:=by omega
   have hi':i<a.data.toList.length:=by simpa using hi
   rw[if_pos hi,ih (i+1) zo,List.drop_eq_getElem_cons hi',List.reverse_cons,List.append_assoc];congr 2;simp[ByteArray.get!,hi]
def gy (l:List UInt8):(bs l).toList=l:=by
 show ByteArray.toList.loop (bs l) 0 []=l
 rw[asg _ _ _ rfl,aiW];simp
def sU (l:List UInt8):(bs l).toList.isEmpty=l.isEmpty:=by rw[gy]
def ast (l:List UInt8)(w:World)(hs:l.length<=1099511627776):
 Cl 285 #[ah l,.string ⟨#[0]⟩] w λe w'=>e=.returned (ah (nt (nv l)))/\w=w':=by
 cases l with
 |nil=>have hne:=sU [];simp only[List.isEmpty_nil]at hne;go_enter Tryz.func285,Tryz.ntmps285;go_wp2;go_ret;exact⟨rfl,rfl⟩
 |cons c m=>have hne:=sU (c::m);simp only[List.isEmpty_cons]at hne;go_enter Tryz.func285,Tryz.ntmps285;go_wp2_with (go_at_call 305;refine(ass _ _ hs).mono ?_;rintro e w' ⟨rfl,rfl⟩);go_ret;exact⟨rfl,rfl⟩
def acV (l:List UInt8)(w:World)(hs:l.length<=1099511627776):
 Cl 261 #[ah l] w λe w'=>e=.returned (ah (nt (nv l)))/\w=w':=by
 go_enter Tryz.func261,Tryz.ntmps261;go_wp2_with (go_at_call 285;refine(ast _ _ hs).mono ?_;rintro e w' ⟨rfl,rfl⟩);go_ret;exact⟨rfl,rfl⟩
def ar.lim {w:World}{b:Nat}{t:TypeId}{N v:Nat}(h:ar w b t (bj N (dg v)))(n:Nat)(hn:n<=N):dx w b 0 n v:=
 λj hj=>by rw[Nat.zero_add,h.cell,fQ _ _ _ zo]
def aoV (l m:List UInt8)(w:World)(hl:l.length<=68719476736)(hm:m.length<=68719476736):
 Cv 300 #[ah l,ah m] w (af (cG (nv l) (nv m))):=by
 go_enter Tryz.func300,Tryz.ntmps300;go_wp2_with fail;refine(lf l _ zo).mono ?_;rintro e w1 ⟨rfl,bL,hb1,fg⟩;obtain⟨dO,bB⟩:=aI bL hb1;clear bL hb1;go_wp2_with fail;refine(lf m _ zo).mono ?_;rintro e w2 ⟨rfl,dU,hb2,lR⟩;obtain⟨eU,cn⟩:=aI dU hb2;clear dU hb2;go_wp2_with fail;refine(ye w.heap.size 0 (ln (nv l)) ((l.length+7)/8) (nv l) w1.heap.size 0 (ln (nv m)) ((m.length+7)/8) (nv m) _ zo fg ((dO.out.below cn.out).lim _ fg) (ej _) zo lR (eU.out.lim _ lR) (ej _)).mono ?_;rintro e w3 ⟨rfl,hb3⟩;have dP:=aj hb3;clear hb3;go_wp2;go_ret;exact⟨rfl,(bB.out.trans (cn.out.mono bB.out.size)).trans (dP.out.mono (Nat.le_trans bB.out.size cn.out.size))⟩
def Qs (l:List UInt8)(w:World)(hl:l.length<=68719476736):
 Cv 259 #[ah l] w (af (bu (nv l):Int)):=by
 go_enter Tryz.func259,Tryz.ntmps259;go_wp2_with fail;refine(lf l _ zo).mono ?_;rintro e w1 ⟨rfl,bL,hb1,fg⟩;obtain⟨dO,bB⟩:=aI bL hb1;clear bL hb1;go_wp2_with fail;refine(aa6 w.heap.size 0 (ln (nv l)) ((l.length+7)/8) (nv l) _ zo fg (dO.out.lim _ fg) (ej _)).mono ?_;rintro e w3 ⟨rfl,rfl⟩;go_wp2;go_ret;exact⟨rfl,bB.out⟩
def tz (v:Nat):Nat:=((v:Int)).trailingZeros
def acY (k m:Nat):tz (2^k* (2*m+1))=k:=by
 unfold tz;have e:((2^k* (2*m+1):Nat):Int)=(2* (m:Int)+1)<<<k:=by rw[Int.shiftLeft_eq];simp[Int.natCast_mul,Int.natCast_pow,Int.mul_comm]
 rw[e,Int.trailingZeros_shiftLeft zo,Int.trailingZeros_two_mul_add_one,Nat.zero_add]
def asv (v i:Nat)(h0:v%WW^i=0)(hd:dg v i≠0):tz v=64*i+Lib.ctz 64 (dg v i):=by
 obtain⟨m,hm,hlt⟩:=VF (dg v i) (iQ v i) hd;generalize Lib.ctz 64 (dg v i)=c at*;have e1:v=WW^i* (v/WW^i):=by have:=(Nat.mod_add_div v (WW^i)).symm;rw[h0,Nat.zero_add]at this;exact this
 have e2:v/WW^i=dg v i+WW* (v/WW^i/WW):=(Nat.mod_add_div _ _).symm;have e3:WW=2^c* (2*2^(63-c)):=by rw[<-Nat.pow_succ',<-Nat.pow_add,kd];congr 1;omega
 have e4:v=2^(64*i+c) * (2* (m+2^(63-c) * (v/WW^i/WW))+1):=by
  conv=>lhs;rw[e1,e2,hm]
  rw[Nat.pow_add,<-ke,Nat.mul_assoc];congr 1;generalize v/WW^i/WW=y;conv=>lhs;rw[e3]
  rw[Nat.mul_assoc,<-Nat.mul_add];congr 1;rw[Nat.mul_add,Nat.mul_assoc];omega
 rw[e4];exact acY _ _
def Qt (l:List UInt8)(w:World)(hl:l.length<=68719476736)(hT:aB w):
 Cv 208 #[ah l] w (af (tz (nv l):Int)):=by
 have HT:=aj hT;clear hT;go_enter Tryz.func208,Tryz.ntmps208;go_wp2_with fail;refine(lf l _ zo).mono ?_;rintro e w1 ⟨rfl,bL,hb1,fg⟩;obtain⟨dO,bB⟩:=aI bL hb1;clear bL hb1;have hn:ln (nv l)<=549755813888:=by omega
 have yQ:Hid (nv l<WW^ln (nv l)):=ej _;generalize hvv:nv l=v at*;have HV:=aj hvv;clear hvv;go_wp2;go_loop [3,4,8] (λ_ _ i=>∃k:Nat,k<=ln v/\i=af k/\v%WW^k=0) (λ_ _ i=>ln v-(intOf i).toNat)
 case atStart=>exact⟨0,Nat.zero_le _,rfl,by simp[Nat.mod_one]⟩
 case round=>
  obtain⟨k,hk,rfl,hz⟩:=hrel;have Hz:=aj hz;clear hz;by_cases hlt:k<ln v
  . have hcell:w1.cell? ⟨w.heap.size,k,none⟩=some (.int .u64 (dg v k:Int)):=by have:=dO.out.lim _ fg k hlt;rwa [Nat.zero_add]at this
    by_cases hd:dg v k=0
    . have hd':((dg v k:Int) !=0)=false:=by simp[hd]
      have Hd:=aj hd;clear hd;go_wp2;go_round
      case rel=>exact⟨k+1,by omega,by go_num,by rw[yg,Hz.out,Hd.out];simp⟩
      case measure=>exact bf
    . have hd':((dg v k:Int) !=0)=true:=by rw[bne_iff_ne];omega
      have Hd:=aj hd;clear hd;obtain⟨nI,fR⟩:=aI (HT.out.below bB.out) (asv v k Hz.out Hd.out);have hct:Lib.ctz 64 (dg v k)<64:=by obtain⟨_,_,h⟩:=VF (dg v k) (iQ v k) Hd.out;exact h
      go_wp2_with (go_at_call 256;refine(asu _ (iQ _ _) Hd.out _ nI.out).mono ?_;rintro e w' ⟨rfl,rfl⟩);go_ret;rw[HV.out,fR.out];exact⟨congrArg (λz:Int=>Ending.returned (af z)) zo,bB.out⟩
  . have cp:Hid (v=0):=by have:=Hz.out;rwa [Nat.mod_eq_of_lt (Nat.lt_of_lt_of_le yQ.out (Nat.pow_le_pow_right iN zo))]at this
    go_wp2;go_ret;rw[HV.out,cp.out];exact⟨rfl,bB.out⟩
def Gc (l:List UInt8):nv l<WW^((l.length+7)/8):=by refine Nat.lt_of_lt_of_le (fY l) ?_;rw[ke,show(256:Nat)=2^8 by rfl,<-Nat.pow_mul];exact Nat.pow_le_pow_right zd zo
def abu (l m:List UInt8)(w:World)(hl:l.length<=68719476736)(hm:m.length<=68719476736)(h:nv m<=nv l):
 Cv 277 #[ah l,ah m] w (.tuple #[ah (nt (nv l-nv m)),ag true]):=by
 have hc0:0<=cG (nv l) (nv m):=by unfold cG;rw[if_neg zo];split<;>omega
 have Hh:=aj h;clear h;go_enter Tryz.func277,Tryz.ntmps277;go_wp2_with fail;refine(lf l _ zo).mono ?_;rintro e w1 ⟨rfl,bL,hb1,fg⟩;obtain⟨dO,bB⟩:=aI bL hb1;clear bL hb1;go_wp2_with fail;refine(lf m _ zo).mono ?_;rintro e w2 ⟨rfl,dU,hb2,lR⟩;obtain⟨eU,cn⟩:=aI dU hb2;clear dU hb2;go_wp2_with fail;refine(ye w.heap.size 0 (ln (nv l)) ((l.length+7)/8) (nv l) w1.heap.size 0 (ln (nv m)) ((m.length+7)/8) (nv m) _ zo fg ((dO.out.below cn.out).lim _ fg) (ej _) zo lR (eU.out.lim _ lR) (ej _)).mono ?_;rintro e w3 ⟨rfl,hb3⟩;have dP:=aj hb3;clear hb3;go_wp2_with fail;refine(Er w.heap.size ((l.length+7)/8) 0 (ln (nv l)) ((l.length+7)/8) (dg (nv l)) (nv l) w1.heap.size 0 (ln (nv m)) ((m.length+7)/8) (nv m) _ zo zo ((dO.out.below cn.out).below dP.out) zo (λj _=>by rw[Nat.zero_add]) ((eU.out.below dP.out).lim _ lR) (ej _) (by have:=dO.out.lt;omega) Hh.out (ej _)).mono ?_;rintro e w4 ⟨rfl,hB4,hg4⟩;have HL:Hid (dx w4 w.heap.size 0 (ln (nv l)) (nv l-nv m)):=λj hj=>by rw[hB4.cell,fQ _ _ _ zo,Ez _ _ _ _ _ hj]
 have Hg4:=aj hg4;clear hB4 hg4;go_wp2_with fail;refine(vW w.heap.size 0 (ln (nv l)) ((l.length+7)/8) (nv l-nv m) _ zo fg HL.out (Nat.lt_of_le_of_lt (Nat.sub_le _ _) (ej _))).mono ?_;rintro e w5 ⟨rfl,di⟩;have fe:=aj di;clear di;go_wp2;go_ret2
 refine⟨rfl,?_⟩;have s1:=bB.out.size;have s2:=cn.out.size;have s3:=dP.out.size;have b3:=((bB.out.trans (cn.out.mono s1)).trans (dP.out.mono (Nat.le_trans s1 s2)));have b4:=b3.grown Hg4.out b3.size (λk hk=>by cases hk;exact Nat.le_refl _);exact b4.trans (fe.out.mono b4.size)
def ao0 (l:List UInt8)(n:Nat)(w:World)(hl:l.length<=68719476736)(hn:n<=549755813888):
 Cv 257 #[ah l,af (n:Int)] w (ah (nt (nv l*2^n))):=by
 have hmax:max (n:Int) 0=(n:Int):=by omega
 go_enter Tryz.func257,Tryz.ntmps257;go_wp2_with fail;refine(lf l _ zo).mono ?_;rintro e w1 ⟨rfl,bL,hb1,fg⟩;obtain⟨dO,bB⟩:=aI bL hb1;clear bL hb1;go_wp2_with fail;refine(RD w.heap.size 0 (ln (nv l)) ((l.length+7)/8) (nv l) n _ zo hn (dO.out.lim _ fg) (ej _)).mono ?_;rintro e w2 ⟨rfl,dU,hb2,lR⟩;obtain⟨eU,cn⟩:=aI dU hb2;clear dU hb2;go_wp2_with fail;refine(vW w1.heap.size 0 (ln (nv l*2^n)) (ln (nv l)+n/64+1) (nv l*2^n) _ zo lR (eU.out.lim _ lR) (ej _)).mono ?_;rintro e w3 ⟨rfl,hb3⟩;have dP:=aj hb3;clear hb3;go_wp2;go_ret;exact⟨rfl,(bB.out.trans (cn.out.mono bB.out.size)).trans (dP.out.mono (Nat.le_trans bB.out.size cn.out.size))⟩
def ao1 (l:List UInt8)(n:Nat)(w:World)(hl:l.length<=68719476736)(hn:n<=1099511627776):
 Cv 258 #[ah l,af (n:Int)] w (ah (nt (nv l/2^n))):=by
 have hmax:max (n:Int) 0=(n:Int):=by omega
 by_cases hlt:n/64<ln (nv l)
 . go_enter Tryz.func258,Tryz.ntmps258;go_wp2_with fail;refine(lf l _ zo).mono ?_;rintro e w1 ⟨rfl,bL,hb1,fg⟩;obtain⟨dO,bB⟩:=aI bL hb1;clear bL hb1;go_wp2_with fail;refine(VT w.heap.size 0 (ln (nv l)) ((l.length+7)/8) (nv l) n _ zo fg hn (dO.out.lim _ fg) (ej _) hlt).mono ?_;rintro e w2 ⟨rfl,dU,hb2,lR⟩;obtain⟨eU,cn⟩:=aI dU hb2;clear dU hb2;go_wp2_with fail;refine(vW w1.heap.size 0 (ln (nv l/2^n)) (ln (nv l)-n/64) (nv l/2^n) _ zo lR (eU.out.lim _ lR) (ej _)).mono ?_;rintro e w3 ⟨rfl,hb3⟩;have dP:=aj hb3;clear hb3;go_wp2;go_ret;exact⟨rfl,(bB.out.trans (cn.out.mono bB.out.size)).trans (dP.out.mono (Nat.le_trans bB.out.size cn.out.size))⟩
 . have H0:Hid (nt (nv l/2^n)=[]):=by
    show nt (nv l/2^n)=[]
    rw[Qv];refine Nat.div_eq_of_lt (Nat.lt_of_lt_of_le (ej _) ?_);rw[ke];exact Nat.pow_le_pow_right zd zo
   go_enter Tryz.func258,Tryz.ntmps258;go_wp2_with fail;refine(lf l _ zo).mono ?_;rintro e w1 ⟨rfl,bL,hb1,fg⟩;obtain⟨dO,bB⟩:=aI bL hb1;clear bL hb1;go_wp2_with fail;refine(VU _ (ln (nv l)) ((l.length+7)/8) n _ zo hn zo).mono ?_;rintro e w2 ⟨rfl,rfl⟩;go_wp2_with fail;refine(acQ none 0 _).mono ?_;rintro e w3 ⟨rfl,hb3⟩;have dP:=aj hb3;clear hb3;go_wp2;go_ret;rw[H0.out];exact⟨rfl,bB.out.trans (dP.out.mono bB.out.size)⟩
def aoM (v u k:Nat)(o:Nat):v%WW^k*u+dg v k*u*WW^k=v%WW^(k+1) *u/\o=o:=by refine⟨?_,rfl⟩;rw[yg,Nat.add_mul,Nat.mul_comm (WW^k),Nat.mul_assoc,Nat.mul_assoc,Nat.mul_comm u]
def aoZ (l m:List UInt8)(w:World)(hl:l.length<=68719476736)(hm:m.length<=68719476736):
 Cv 262 #[ah l,ah m] w (ah (nt (nv l*nv m))):=by
 go_enter Tryz.func262,Tryz.ntmps262;go_wp2_with fail;refine(lf l _ zo).mono ?_;rintro e w1 ⟨rfl,bL,hb1,fg⟩;obtain⟨dO,bB⟩:=aI bL hb1;clear bL hb1;go_wp2_with fail;refine(lf m _ zo).mono ?_;rintro e w2 ⟨rfl,dU,hb2,lR⟩;obtain⟨eU,cn⟩:=aI dU hb2;clear dU hb2;have uy:Hid (nv l<WW^ln (nv l)):=ej _;have TN:Hid (nv m<WW^ln (nv m)):=ej _;generalize hv:nv l=v at*;generalize hu:nv m=u at*;obtain⟨HV,HU⟩:=aI hv hu;clear hv hu;have hmk:=yf ((ln v:Int)+(ln u:Int)+1) (ln v+ln u+1) zo zo;generalize hM:ln v+ln u+1=M at*;have NN:ln v+ln u+1<=M:=by omega
 have zY:M<=ln v+ln u+1:=by omega
 have HM:=aj hM;clear hM;have ava:w.heap.size<w2.heap.size:=by have:=dO.out.lt;have:=cn.out.size;omega
 have avb:w1.heap.size<w2.heap.size:=eU.out.lt;go_wp2;go_loopw[8,9,23] (λ_ _ i wr=>∃k:Nat,k<=ln v/\i=af k/\ar wr w2.heap.size 222 (bj M (dg (v%WW^k*u)))/\Bw w2 wr) (λ_ _ i _=>ln v-(intOf i).toNat);case atStart=>
  refine⟨0,Nat.zero_le _,rfl,?_,zl⟩;have e:bj M (dg (v%WW^0*u))=bj M λ_=>0:=jy λj _=>by simp[dg,Nat.mod_one]
  rw[e];exact ar.new _ _ _
 case round=>
  obtain⟨k,hk,rfl,hB,hb⟩:=hrel;by_cases hlt:k<ln v
  . have hcell:wr.cell? ⟨w.heap.size,k,none⟩=some (.int .u64 (dg v k:Int)):=by have:=(((dO.out.below cn.out).below hb).lim _ fg) k hlt;rwa [Nat.zero_add]at this
    have hcap:¬M=k:=by omega
    have HY:Hid (dx wr w1.heap.size 0 (ln u) u):=(eU.out.below hb).lim _ lR;obtain⟨HB,Hb⟩:=aI hB hb;clear hB hb;go_wp2_with fail;refine(Jv w2.heap.size M k (M-k) (M-k) (dg (v%WW^k*u)) (v%WW^k*u/WW^k) w1.heap.size 0 (ln u) ((m.length+7)/8) u (dg v k) _ zo zo HB.out zo (λj _=>(GF _ _ _).symm) HY.out TN.out zo (iQ _ _)).mono ?_;rintro e w4 ⟨rfl,hB4,hg4⟩;have dQ:Hid (ar w4 w2.heap.size 222 (bj M (dg (v%WW^(k+1) *u)))):=by
     show ar w4 w2.heap.size 222 (bj M (dg (v%WW^(k+1) *u)))
     rw[jy (g:=fH (dg (v%WW^k*u)) k (M-k) (dg (v%WW^k*u/WW^k+u*dg v k))) λj hj=>?_]
     . exact hB4
     . have hval:=(aoM v u k 0).1;unfold fH;by_cases hjk:k<=j
       . rw[if_pos zo];have e1:v%WW^k*u/WW^k+u*dg v k=v%WW^(k+1) *u/WW^k:=by rw[<-hval,Nat.mul_comm _ (WW^k),Nat.add_mul_div_left _ _ (dH k),Nat.mul_comm u]
         rw[e1,GF,show k+(j-k)=j by omega]
       . rw[if_neg zo,<-VS (n:=k) (show j<k by omega),<-hval,Nat.add_mul_mod_self_right,VS (show j<k by omega)]
    have gS:Hid (Bw w2 w4):=Hb.out.grown hg4 Hb.out.size (λj hj=>by cases hj;exact Nat.le_refl _);clear hB4 hg4;go_wp2;go_roundw;case rel=>exact⟨k+1,by omega,by go_num,dQ.out,gS.out⟩
    case measure=>exact bf
  . obtain rfl:k=ln v:=by omega
    rw[Nat.mod_eq_of_lt uy.out]at hB;obtain⟨HB,Hb⟩:=aI hB hb;clear hB hb;have Hvu:Hid (v*u<WW^M):=by
     show v*u<WW^M
     refine Nat.lt_of_lt_of_le (Nat.mul_lt_mul'' uy.out TN.out) ?_;rw[<-Nat.pow_add];exact Nat.pow_le_pow_right iN zo
    go_wp2_with fail;refine(vW w2.heap.size 0 M M (v*u) _ zo (Nat.le_refl _) (HB.out.lim _ (Nat.le_refl _)) Hvu.out).mono ?_;rintro e w5 ⟨rfl,di⟩;have fe:=aj di;clear di;go_wp2;go_ret;rw[HV.out,HU.out];have b3:=(bB.out.trans (cn.out.mono bB.out.size)).trans (Hb.out.mono (Nat.le_trans bB.out.size cn.out.size));exact⟨rfl,b3.trans (fe.out.mono b3.size)⟩
def fX (xs:List (List UInt8)):Nat:=(xs.map nv).sum
def apa (xs:List (List UInt8))(B:Nat)(h:∀l∈xs,l.length<=B):fX xs<=xs.length*256^B:=by
 unfold fX;induction xs with
 |nil=>simp
 |cons l xs ih=>have h1:=fY l;have h2:256^l.length<=256^B:=Nat.pow_le_pow_right zd (h l zm);have h3:=ih (λm hm=>h m (by simp[hm]));simp only[List.map_cons,List.sum_cons,List.length_cons];rw[Nat.add_mul,Nat.one_mul];omega
def an8 (xs:List (List UInt8))(B N:Nat)(h:∀l∈xs,l.length<=B)(hx:xs.length<=1048576)(hN:8*B+20<64*N):ln (fX xs)<=N:=by refine iy (Nat.lt_of_le_of_lt (apa xs _ h) ?_);refine Nat.lt_of_le_of_lt (Nat.mul_le_mul_right _ hx) ?_;rw[ke,show(256:Nat)=2^8 from rfl,<-Nat.pow_mul,show(1048576:Nat)=2^20 from rfl,<-Nat.pow_add];exact Nat.pow_lt_pow_right zd zo
def an7 (xs:List (List UInt8))(h:∀l∈xs,l.length<=68719476736)(hx:xs.length<=1048576):ln (fX xs)<=8589934593:=
 an8 xs 68719476736 8589934593 h hx zd
def abx (xs:List (List UInt8))(k:Nat)(hk:k<xs.length):fX (xs.take (k+1))=fX (xs.take k)+nv xs[k]:=by unfold fX;rw[List.take_succ_eq_append_getElem hk,List.map_append,List.sum_append];simp
def aoT (xs:List (List UInt8))(a:Option Addr)(cap:Nat)(w:World)(hl:∀l∈xs,l.length<=68719476736)(hx:xs.length<=1048576)
 (ha:At w a (xs.map λl=>ah l)):
 Cv 275 #[.slice a xs.length cap] w (ah (nt (fX xs))):=by
 have Hl:=aj hl;clear hl;have Ha:=aj ha;clear ha;have hs0:∀k,ln (fX (xs.take k))<=8589934593:=λk=>an7 _ (λl hm=>Hl.out l (List.mem_of_mem_take hm)) (by rw[List.length_take];omega);have Ug:=aj hs0;clear hs0;go_enter Tryz.func275,Tryz.ntmps275;go_wp2
 go_loopw[3,5,6,9] (λs _ _ i wr=>∃(k:Nat) (a1:Option Addr) (c1:Nat),k<=xs.length/\i=af k/\s=.slice a1 (ln (fX (xs.take k))) c1/\ln (fX (xs.take k))<=c1/\
  zu wr a1 (ln (fX (xs.take k))) (fX (xs.take k))/\Bw w wr) (λ_ _ _ i _=>xs.length-(intOf i).toNat)
 case atStart=>exact⟨0,none,0,Nat.zero_le _,rfl,rfl,by simp[fX,Qi],λh=>by simp[fX,Qi]at h,Below.refl _ _⟩
 case round=>
  obtain⟨k,a1,c1,hk,rfl,rfl,hc1,hL,hb⟩:=hrel;have hlen:=Ug.out k;by_cases hlt:k<xs.length
  . have hne:(xs.map λl=>Value.string (bs l))≠[]:=by intro h0;have:=congrArg List.length h0;simp at this;subst this;simp at hlt
    obtain⟨b,o,hab,hcs⟩:=(Ha.out.below hb).get hne;have hcell:wr.cell? ⟨b,o+k,none⟩=some (.string (bs xs[k])):=by rw[hcs k (by simpa using hlt)];simp[hlt]
    have aQ:=PV xs.length cap k (k:Int) hab hlt rfl;clear hcs hne;have jU:Hid (xs[k].length<=68719476736):=Hl.out _ (List.getElem_mem hlt);obtain⟨bE,jV⟩:=aI (abx xs k hlt) hab;clear hab;have hlen':=Ug.out (k+1);rw[bE.out]at hlen';have atI:=aj hlen';clear hlen';generalize xs[k]=x at*;generalize hS:fX (xs.take k)=S at*;have HS:=aj hS;clear hS;obtain⟨HL,Hb⟩:=aI hL hb;clear hL hb;go_wp2_with fail;refine(lf x _ (by have:=jU.out;omega)).mono ?_;rintro e w1 ⟨rfl,bL,hb1,fg⟩;obtain⟨dO,bB⟩:=aI bL hb1;clear bL hb1;have hx1:ln (nv x)<=8589934593:=by have:=jU.out;omega
    have afO:=aj fg;clear fg;have TP:Hid (nv x<WW^ln (nv x)):=ej _;have FD:Hid (S<WW^ln S):=ej _;generalize hX:nv x=X at*;have HX:=aj hX;clear hX;have hmax:max (ln S:Int) (ln X:Int)=((max (ln S) (ln X):Nat):Int):=by omega
    have hM0:max (ln S) (ln X)<=8589934593:=by omega
    generalize CR:max (ln S) (ln X)=M at*;have NN:ln S<=M:=by omega
    have zY:ln X<=M:=by omega
    have HMM:=aj CR;clear CR;go_wp2_with fail;refine(MQ a1 (ln S) c1 S ((M:Int)+1) _ zo zo zo (HL.out.below bB.out) FD.out).mono ?_;rintro e w2 ⟨rfl,dU,hb2⟩;rw[show max ((M:Int)+1).toNat (ln S)=M+1 by omega]at dU⊢;obtain⟨eU,cn⟩:=aI dU hb2;clear dU hb2;go_wp2_with fail;refine(anM w1.heap.size (M+1) 0 (M+1) (M+1) (dg S) S wr.heap.size 0 (ln X) ((x.length+7)/8) X _ zo zo eU.out zo (λj _=>by rw[Nat.zero_add]) ((dO.out.below cn.out).lim _ afO.out) TP.out (by have:=dO.out.lt;omega)).mono ?_;rintro e w3 ⟨rfl,zU,hg3⟩;have Bq:Hid (dx w3 w1.heap.size 0 (M+1) (S+X)):=λj hj=>by rw[zU.cell,fQ _ _ _ zo,Ez _ _ _ _ _ hj]
    have Tv:=aj hg3;clear zU hg3;have Lz:Hid (S+X<WW^(M+1)):=by
     show S+X<WW^(M+1)
     have a1:=Nat.lt_of_lt_of_le FD.out (Nat.pow_le_pow_right iN NN);have a2:=Nat.lt_of_lt_of_le TP.out (Nat.pow_le_pow_right iN zY);have a3:2*WW^M<=WW^(M+1):=by rw[Nat.pow_succ,Nat.mul_comm];exact Nat.mul_le_mul_left _ zd
     omega
    go_wp2_with fail;refine(ki w1.heap.size 0 (M+1) (M+1) (S+X) _ zo (Nat.le_refl _) Bq.out Lz.out).mono ?_;rintro e w4 ⟨rfl,rfl⟩;have dP:Hid (Bw w w3):=by have s1:=bB.out.size;have s2:=cn.out.size;have s0:=Hb.out.size;have b2:=(Hb.out.trans (bB.out.mono s0)).trans (cn.out.mono (Nat.le_trans s0 s1));exact b2.grown Tv.out b2.size (λj hj=>by cases hj;omega)
    go_wp2;go_roundw;case rel=>
     refine⟨k+1,some ⟨w1.heap.size,0,none⟩,M+1,by omega,by go_num,?_,?_,?_,dP.out⟩
     . rw[bE.out]
     . rw[bE.out];exact iy Lz.out
     . rw[bE.out];exact λ_=>⟨_,_,rfl,Bq.out.less (iy Lz.out)⟩
    case measure=>exact bf
  . obtain rfl:k=xs.length:=by omega
    rw[List.take_length]at*;obtain⟨HL,Hb⟩:=aI hL hb;clear hL hb;go_wp2_with fail;refine(acP a1 (ln (fX xs)) c1 (fX xs) _ zo hc1 HL.out (ej _)).mono ?_;rintro e w5 ⟨rfl,di⟩;have fe:=aj di;clear di;go_wp2;go_ret;exact⟨rfl,Hb.out.trans (fe.out.mono Hb.out.size)⟩
def akm (h lo y:Nat)(w:World)(hy1:9223372036854775808<=y)(hy:y<WW)(hh:h<y)(hl:lo<WW)(h0:0<h):
 Cl 318 #[.int .u64 (h:Int),.int .u64 (lo:Int),.int .u64 (y:Int)] w λe w'=>∃r,e=.returned (.tuple #[.int .u64 (((h*WW+lo)/y:Nat):Int),.int .u64 r])/\Bw w w':=by
 have hb:bu y=64:=by have h1:bu y<=64:=gw (by rw[kd]at hy;exact hy);have h2:=Gl (v:=y) (k:=63) (by have:(2:Nat)^63=9223372036854775808:=(by rfl);omega);omega
 have DK:∀W,Cl 303 #[.int .u64 (y:Int)] W λe w'=>e=.returned (af 0)/\W=w':=λW=>by have:=Ql y W hy;rw[hb]at this;exact this
 rw[iG]at*;obtain⟨n1,iw⟩:=az (y/4294967296);obtain⟨n0,hn0⟩:=az (y%4294967296);obtain⟨u1,hu1⟩:=az (lo/4294967296);obtain⟨u0,hu0⟩:=az (lo%4294967296);have hlo:u1*4294967296+u0=lo:=by rw[<-hu1,<-hu0,Nat.mul_comm];exact Nat.div_add_mod _ _
 have vJ:n1*4294967296+n0=y:=by rw[<-iw,<-hn0,Nat.mul_comm];exact Nat.div_add_mod _ _
 have e1:(y:Int)/4294967296=(n1:Int):=by omega
 have e3:(lo:Int)/4294967296=(u1:Int):=by omega
 have e5:((h:Int)==0)=false:=by simp;omega
 have e6:((y:Int)==0)=false:=by simp;omega
 have e7:(lo:Int)/18446744073709551616=0:=by omega
 have ea:=MulX.maskN y hy;have eb:=MulX.maskN lo hl;rw[hn0]at ea;rw[hu0]at eb;have ec:bits BinOp.or IntKind.u64 (h:Int) 0=(h:Int):=by have:=bits_or_u64_nat h 0 zo zd;simpa using this
 obtain⟨s1,s2,s3,s4⟩:=VV h n1 n0 u1 zo zo zo zo zo;obtain⟨q,hq⟩:=az (h/n1);obtain⟨r,hr⟩:=az (h%n1);obtain⟨P,hP⟩:=az (q*n1);rw[hq,hr]at s3;rw[hq]at s1 s2;rw[hr]at s4;have f1:(h:Int).tdiv (n1:Int)=(q:Int):=by rw[<-hq];rfl
 have f2:IntKind.u64.wrap (q:Int)=(q:Int):=by rw[IntKind.wrap_u64];omega
 have f3:IntKind.u64.wrap ((q:Int) * (n1:Int))=(P:Int):=by rw[<-Int.natCast_mul,hP,IntKind.wrap_u64];rw[hP]at s3;omega
 have f4:IntKind.u64.wrap ((h:Int)-(P:Int))=(r:Int):=by rw[IntKind.wrap_u64];rw[hP]at s3;omega
 have au8:(n1:Int)≠0:=by omega
 have Zf:((n1:Int)==0)=false:=by simp;omega
 rw[vJ]at s1;obtain⟨DD,hD⟩:=az ((h*4294967296+u1)/y);obtain⟨v,hv⟩:=az ((h*4294967296+u1)%y);obtain⟨E,hE⟩:=az ((v*4294967296+u0)/y);obtain⟨H1,hH1⟩:=az (h*4294967296%18446744073709551616);obtain⟨H2,hH2⟩:=az ((h*4294967296+u1)%18446744073709551616);obtain⟨Z,hZ⟩:=az (DD*y%18446744073709551616);have hy0:0<y:=by omega
 have hvy:v<y:=by rw[<-hv];exact Nat.mod_lt _ hy0
 have Yp:=Nat.div_add_mod (h*4294967296+u1) y;rw[hD,hv,Nat.mul_comm]at Yp;have WL:DD<4294967296:=by rw[<-hD];refine Nat.div_lt_of_lt_mul ?_;omega
 have WP:E<4294967296:=by rw[<-hE];refine Nat.div_lt_of_lt_mul ?_;omega
 have m1:IntKind.u64.wrap ((h:Int) *4294967296)=(H1:Int):=by rw[IntKind.wrap_u64];omega
 have m2:IntKind.u64.wrap ((H1:Int)+(u1:Int))=(H2:Int):=by rw[IntKind.wrap_u64];omega
 have m3:IntKind.u64.wrap ((DD:Int) * (y:Int))=(Z:Int):=by rw[<-Int.natCast_mul,IntKind.wrap_u64];omega
 have m4:IntKind.u64.wrap ((H2:Int)-(Z:Int))=(v:Int):=by rw[IntKind.wrap_u64];generalize DD*y=X at*;omega
 have Es:IntKind.u64.wrap ((DD:Int) *4294967296)=(DD:Int) *4294967296:=by rw[IntKind.wrap_u64];omega
 have Et:IntKind.u64.wrap ((DD:Int) *4294967296+(E:Int))=(DD:Int) *4294967296+(E:Int):=by rw[IntKind.wrap_u64];omega
 obtain⟨t1,t2,t3,t4⟩:=VV v n1 n0 u0 zo zo zo zo zo;obtain⟨q2,hq2⟩:=az (v/n1);obtain⟨r2,hr2⟩:=az (v%n1);obtain⟨P2,nW⟩:=az (q2*n1);rw[hq2,hr2]at t3;rw[hq2]at t1 t2;rw[hr2]at t4;have Wl:(v:Int).tdiv (n1:Int)=(q2:Int):=by rw[<-hq2];rfl
 have f2':IntKind.u64.wrap (q2:Int)=(q2:Int):=by rw[IntKind.wrap_u64];omega
 have f3':IntKind.u64.wrap ((q2:Int) * (n1:Int))=(P2:Int):=by rw[<-Int.natCast_mul,nW,IntKind.wrap_u64];rw[nW]at t3;omega
 have Wm:IntKind.u64.wrap ((v:Int)-(P2:Int))=(r2:Int):=by rw[IntKind.wrap_u64];rw[nW]at t3;omega
 rw[vJ]at t1;have hfin:=akp h u1 u0 y DD hy0 hD;rw[hv,hE,hlo]at hfin;have Yy:((h:Int) *18446744073709551616+(lo:Int))/(y:Int)=(DD:Int) *4294967296+(E:Int):=by
  have:((h:Int) *18446744073709551616+(lo:Int))/(y:Int)=(((h*18446744073709551616+lo)/y:Nat):Int):=by rw[Int.natCast_ediv,Int.natCast_add,Int.natCast_mul];rfl
  rw[this,hfin,Int.natCast_add,Int.natCast_mul];rfl
 have sD:=aj Yy;clear Yy;obtain⟨H3,x3⟩:=az (IntKind.u64.wrap ((v:Int) *4294967296));obtain⟨H4,x4⟩:=az (IntKind.u64.wrap (H3+(u0:Int)));obtain⟨H5,x5⟩:=az (IntKind.u64.wrap ((E:Int) * (y:Int)));obtain⟨X,x6⟩:=az (IntKind.u64.wrap (H4-H5));obtain⟨X3,X4,X5,X6⟩:=bU x3 x4 x5 x6;clear x3 x4 x5 x6;obtain⟨T1,T2,T3,T4,M1,M2,M3,M4,N1,N2,F1,F2⟩:=gN t1 t2 t3 t4 m1 m2 m3 m4 Es Et Wl f2';obtain⟨F3,F4,lC,HD,HE,Mk,Hhh,HDT,HET,aG,S1,S2⟩:=gN f3' Wm hfin hD hE hvy hh WL WP DK s1 s2;obtain⟨S3,S4,HN1,HN0,HU1,HU0,Hy,fI⟩:=nk s3 s4 iw hn0 hu1 hu0 hy vJ;have hb1:n1<4294967296:=by omega
 have hb2:n0<4294967296:=by omega
 have hb3:u1<4294967296:=by omega
 have hb4:u0<4294967296:=by omega
 have di:0<n1:=by omega
 obtain⟨B1,B2,B3,B4,B5⟩:=eV hb1 hb2 hb3 hb4 di;clear DK s1 s2 s3 s4 iw hn0 hu1 hu0 vJ hq hr hP t1 t2 t3 t4 m1 m2 m3 m4 Es Et Wl f2' f3' Wm hfin hD hE hvy WL WP Yp hy0 hv hH1 hH2 hZ hq2 hr2 nW hb1 hb2 hb3 hb4 di;go_enter Tryz.func318,Tryz.ntmps318;go_wp2_with (go_at_call 303;refine(aG.out _).mono ?_;rintro e w' ⟨rfl,rfl⟩);clear f1 f2 f3 f4 e5 e6 e7 ea eb ec e1 e3;go_loop [15,16] (λqv rv=>∃q r:Nat,qv=.int .u64 (q:Int)/\rv=.int .u64 (r:Int)/\q*n1+r=h/\r<4294967296/\(h*4294967296+u1)/y<=q/\q<=4294967297) (λqv _=>(intOf qv).toNat)
 case atStart=>exact⟨q,r,rfl,rfl,S3.out,S4.out,S1.out,S2.out⟩
 case round=>
  clear S1 S2 S3 S4;obtain⟨q,r,rfl,rfl,j1,j2,j3,j4⟩:=hrel;obtain⟨Q,hQ⟩:=az (q*n0);have g1:IntKind.u64.wrap (4294967296* (r:Int))=4294967296* (r:Int):=by rw[IntKind.wrap_u64];omega
  have g2:IntKind.u64.wrap (4294967296* (r:Int)+(u1:Int))=4294967296* (r:Int)+(u1:Int):=by rw[IntKind.wrap_u64];have:=B3.out;omega
  have fq:q<4294967296->Q<18446744073709551616:=λh=>by rw[<-hQ];have h1:q*n0<=4294967295*4294967295:=Nat.mul_le_mul zo (by have:=B2.out;omega);omega
  by_cases hc:4294967296<=q\/4294967296*r+u1<Q
  . obtain⟨k1,k2,k3⟩:=GI q r h n1 n0 u1 (by rw[fI.out];exact Hhh.out) B3.out j1 (by rw[fI.out];exact j3) (by rw[hQ];exact hc);rw[fI.out]at k3;obtain⟨k,hk⟩:=az (q-1);rw[hk]at k2 k3;have g3:IntKind.u64.wrap ((q:Int)-1)=(k:Int):=by rw[IntKind.wrap_u64];omega
    have g4:IntKind.u64.wrap ((r:Int)+(n1:Int))=((r+n1:Nat):Int):=by rw[IntKind.wrap_u64];have:=B1.out;omega
    obtain⟨r',hr'⟩:=az (r+n1);rw[hr']at k2 g4;by_cases hbr:4294967296<=r'
    . have hkD:DD=k:=by rw[<-HD.out,<-fI.out];exact GH k r' h n1 n0 u1 B5.out B2.out k2 (by rw[fI.out];exact k3) zo hbr
      subst hkD;have xq:(4294967296:Int)<=(r':Int):=by omega
      have m1:=M1.out;have m2:=M2.out;have m3:=M3.out;have m4:=M4.out;have f1:=F1.out;have f2:=F2.out;have f3:=F3.out;have f4:=F4.out;have Zf:((n1:Int)==0)=false:=by have:=B5.out;simp;omega
      obtain⟨J,K,HQ,Fe,Hk,Hr'⟩:=ia (And.intro j1 (And.intro j2 (And.intro j3 j4))) (And.intro k1 (And.intro k2 k3)) hQ fq hk hr';clear j1 j2 j3 j4 k1 k2 k3 hQ fq hk hr';by_cases hT:4294967296<=q
      . have gW:(4294967296:Int)<=(q:Int):=by omega
        go_wp2;clear m1 m2 m3 m4 f1 f2 f3 f4 g1 g2 g3 g4;go_loop [18,16] (λqv rv=>∃q r:Nat,qv=.int .u64 (q:Int)/\rv=.int .u64 (r:Int)/\q*n1+r=v/\r<4294967296/\(v*4294967296+u0)/y<=q/\q<=4294967297) (λqv _=>(intOf qv).toNat)
        case atStart=>exact⟨q2,r2,rfl,rfl,T3.out,T4.out,T1.out,T2.out⟩
        case round=>
         clear T1 T2 T3 T4;obtain⟨q,r,rfl,rfl,j1,j2,j3,j4⟩:=hrel;obtain⟨Q,hQ⟩:=az (q*n0);have g1:IntKind.u64.wrap (4294967296* (r:Int))=4294967296* (r:Int):=by rw[IntKind.wrap_u64];omega
         have g2:IntKind.u64.wrap (4294967296* (r:Int)+(u0:Int))=4294967296* (r:Int)+(u0:Int):=by rw[IntKind.wrap_u64];have:=B4.out;omega
         have fq:q<4294967296->Q<18446744073709551616:=λh=>by rw[<-hQ];have h1:q*n0<=4294967295*4294967295:=Nat.mul_le_mul zo (by have:=B2.out;omega);omega
         have Es:=N1.out;have Et:=N2.out;have x3:=X3.out;have x4:=X4.out;have x5:=X5.out;have x6:=X6.out;by_cases hc:4294967296<=q\/4294967296*r+u0<Q
         . obtain⟨k1,k2,k3⟩:=GI q r v n1 n0 u0 (by rw[fI.out];exact Mk.out) B4.out j1 (by rw[fI.out];exact j3) (by rw[hQ];exact hc);rw[fI.out]at k3;obtain⟨m,hm⟩:=az (q-1);rw[hm]at k2 k3;have g3:IntKind.u64.wrap ((q:Int)-1)=(m:Int):=by rw[IntKind.wrap_u64];omega
           have g4:IntKind.u64.wrap ((r:Int)+(n1:Int))=((r+n1:Nat):Int):=by rw[IntKind.wrap_u64];have:=B1.out;omega
           obtain⟨r',hr'⟩:=az (r+n1);rw[hr']at k2 g4;have hT0:q<4294967296->IntKind.u64.wrap ((q:Int) * (n0:Int))=(Q:Int):=λh=>by rw[<-Int.natCast_mul,hQ,IntKind.wrap_u64];have:=fq h;omega
           by_cases hbr:4294967296<=r'
           . have DC:E=m:=by rw[<-HE.out,<-fI.out];exact GH m r' v n1 n0 u0 B5.out B2.out k2 (by rw[fI.out];exact k3) zo hbr
             subst DC;have xq:(4294967296:Int)<=(r':Int):=by omega
             clear j1 j3 k2 k3 hQ fq hm hr';by_cases hT:4294967296<=q
             . have gW:(4294967296:Int)<=(q:Int):=by omega
               go_wp2;refine bodyPost_ret (v:=.tuple #[.int .u64 ((DD:Int) *4294967296+(E:Int)),.int .u64 X]) (by simp[results,Tryz.results318,go_sem]) rfl ⟨⟨_,by rw[sD.out]⟩,Below.refl _ _⟩
             . have hc2:4294967296* (r:Int)+(u0:Int)<(Q:Int):=by omega
               have gW:¬(4294967296:Int)<=(q:Int):=by omega
               have g0:=hT0 zo;go_wp2;refine bodyPost_ret (v:=.tuple #[.int .u64 ((DD:Int) *4294967296+(E:Int)),.int .u64 X]) (by simp[results,Tryz.results318,go_sem]) rfl ⟨⟨_,by rw[sD.out]⟩,Below.refl _ _⟩
           . have xq:¬(4294967296:Int)<=(r':Int):=by omega
             have K:=aj (And.intro k2 k3);clear j1 j3 k2 k3 hQ fq hr';by_cases hT:4294967296<=q
             . have gW:(4294967296:Int)<=(q:Int):=by omega
               go_wp2;exact⟨⟨m,r',rfl,rfl,K.out.1,by omega,K.out.2,by omega⟩,by simp[intOf];omega⟩
             . have hc2:4294967296* (r:Int)+(u0:Int)<(Q:Int):=by omega
               have gW:¬(4294967296:Int)<=(q:Int):=by omega
               have g0:=hT0 zo;go_wp2;exact⟨⟨m,r',rfl,rfl,K.out.1,by omega,K.out.2,by omega⟩,by simp[intOf];omega⟩
         . have Eb:E=q:=by rw[<-HE.out,<-fI.out];exact CG q r v n1 n0 u0 B5.out j1 (by rw[fI.out];exact j3) (by rw[hQ];omega)
           subst Eb;have gW:¬(4294967296:Int)<=(E:Int):=by omega
           have hc2:¬4294967296* (r:Int)+(u0:Int)<(Q:Int):=by omega
           have g0:IntKind.u64.wrap ((E:Int) * (n0:Int))=(Q:Int):=by rw[<-Int.natCast_mul,hQ,IntKind.wrap_u64];have:=fq zo;omega
           clear j1 j3 hQ fq;go_wp2;refine bodyPost_ret (v:=.tuple #[.int .u64 ((DD:Int) *4294967296+(E:Int)),.int .u64 X]) (by simp[results,Tryz.results318,go_sem]) rfl ⟨⟨_,by rw[sD.out]⟩,Below.refl _ _⟩
      . have hc2:4294967296* (r:Int)+(u1:Int)<(Q:Int):=by omega
        have gW:¬(4294967296:Int)<=(q:Int):=by omega
        have g0:IntKind.u64.wrap ((q:Int) * (n0:Int))=(Q:Int):=by rw[<-Int.natCast_mul,HQ.out,IntKind.wrap_u64];have:=Fe.out zo;omega
        go_wp2;clear m1 m2 m3 m4 f1 f2 f3 f4 g0 g1 g2 g3 g4;go_loop [18,16] (λqv rv=>∃q r:Nat,qv=.int .u64 (q:Int)/\rv=.int .u64 (r:Int)/\q*n1+r=v/\r<4294967296/\(v*4294967296+u0)/y<=q/\q<=4294967297) (λqv _=>(intOf qv).toNat)
        case atStart=>exact⟨q2,r2,rfl,rfl,T3.out,T4.out,T1.out,T2.out⟩
        case round=>
         clear T1 T2 T3 T4;obtain⟨q,r,rfl,rfl,j1,j2,j3,j4⟩:=hrel;obtain⟨Q,hQ⟩:=az (q*n0);have g1:IntKind.u64.wrap (4294967296* (r:Int))=4294967296* (r:Int):=by rw[IntKind.wrap_u64];omega
         have g2:IntKind.u64.wrap (4294967296* (r:Int)+(u0:Int))=4294967296* (r:Int)+(u0:Int):=by rw[IntKind.wrap_u64];have:=B4.out;omega
         have fq:q<4294967296->Q<18446744073709551616:=λh=>by rw[<-hQ];have h1:q*n0<=4294967295*4294967295:=Nat.mul_le_mul zo (by have:=B2.out;omega);omega
         have Es:=N1.out;have Et:=N2.out;have x3:=X3.out;have x4:=X4.out;have x5:=X5.out;have x6:=X6.out;by_cases hc:4294967296<=q\/4294967296*r+u0<Q
         . obtain⟨k1,k2,k3⟩:=GI q r v n1 n0 u0 (by rw[fI.out];exact Mk.out) B4.out j1 (by rw[fI.out];exact j3) (by rw[hQ];exact hc);rw[fI.out]at k3;obtain⟨m,hm⟩:=az (q-1);rw[hm]at k2 k3;have g3:IntKind.u64.wrap ((q:Int)-1)=(m:Int):=by rw[IntKind.wrap_u64];omega
           have g4:IntKind.u64.wrap ((r:Int)+(n1:Int))=((r+n1:Nat):Int):=by rw[IntKind.wrap_u64];have:=B1.out;omega
           obtain⟨r',hr'⟩:=az (r+n1);rw[hr']at k2 g4;have hT0:q<4294967296->IntKind.u64.wrap ((q:Int) * (n0:Int))=(Q:Int):=λh=>by rw[<-Int.natCast_mul,hQ,IntKind.wrap_u64];have:=fq h;omega
           by_cases hbr:4294967296<=r'
           . have DC:E=m:=by rw[<-HE.out,<-fI.out];exact GH m r' v n1 n0 u0 B5.out B2.out k2 (by rw[fI.out];exact k3) zo hbr
             subst DC;have xq:(4294967296:Int)<=(r':Int):=by omega
             clear j1 j3 k2 k3 hQ fq hm hr';by_cases hT:4294967296<=q
             . have gW:(4294967296:Int)<=(q:Int):=by omega
               go_wp2;refine bodyPost_ret (v:=.tuple #[.int .u64 ((DD:Int) *4294967296+(E:Int)),.int .u64 X]) (by simp[results,Tryz.results318,go_sem]) rfl ⟨⟨_,by rw[sD.out]⟩,Below.refl _ _⟩
             . have hc2:4294967296* (r:Int)+(u0:Int)<(Q:Int):=by omega
               have gW:¬(4294967296:Int)<=(q:Int):=by omega
               have g0:=hT0 zo;go_wp2;refine bodyPost_ret (v:=.tuple #[.int .u64 ((DD:Int) *4294967296+(E:Int)),.int .u64 X]) (by simp[results,Tryz.results318,go_sem]) rfl ⟨⟨_,by rw[sD.out]⟩,Below.refl _ _⟩
           . have xq:¬(4294967296:Int)<=(r':Int):=by omega
             have K:=aj (And.intro k2 k3);clear j1 j3 k2 k3 hQ fq hr';by_cases hT:4294967296<=q
             . have gW:(4294967296:Int)<=(q:Int):=by omega
               go_wp2;exact⟨⟨m,r',rfl,rfl,K.out.1,by omega,K.out.2,by omega⟩,by simp[intOf];omega⟩
             . have hc2:4294967296* (r:Int)+(u0:Int)<(Q:Int):=by omega
               have gW:¬(4294967296:Int)<=(q:Int):=by omega
               have g0:=hT0 zo;go_wp2;exact⟨⟨m,r',rfl,rfl,K.out.1,by omega,K.out.2,by omega⟩,by simp[intOf];omega⟩
         . have Eb:E=q:=by rw[<-HE.out,<-fI.out];exact CG q r v n1 n0 u0 B5.out j1 (by rw[fI.out];exact j3) (by rw[hQ];omega)
           subst Eb;have gW:¬(4294967296:Int)<=(E:Int):=by omega
           have hc2:¬4294967296* (r:Int)+(u0:Int)<(Q:Int):=by omega
           have g0:IntKind.u64.wrap ((E:Int) * (n0:Int))=(Q:Int):=by rw[<-Int.natCast_mul,hQ,IntKind.wrap_u64];have:=fq zo;omega
           clear j1 j3 hQ fq;go_wp2;refine bodyPost_ret (v:=.tuple #[.int .u64 ((DD:Int) *4294967296+(E:Int)),.int .u64 X]) (by simp[results,Tryz.results318,go_sem]) rfl ⟨⟨_,by rw[sD.out]⟩,Below.refl _ _⟩
    . have xq:¬(4294967296:Int)<=(r':Int):=by omega
      obtain⟨K,HQ,Fe⟩:=bM (And.intro k2 k3) hQ fq;clear j1 j3 k2 k3 hQ fq hr';by_cases hT:4294967296<=q
      . have gW:(4294967296:Int)<=(q:Int):=by omega
        go_wp2;exact⟨⟨k,r',rfl,rfl,K.out.1,by omega,K.out.2,by omega⟩,by simp[intOf];omega⟩
      . have hc2:4294967296* (r:Int)+(u1:Int)<(Q:Int):=by omega
        have gW:¬(4294967296:Int)<=(q:Int):=by omega
        have g0:IntKind.u64.wrap ((q:Int) * (n0:Int))=(Q:Int):=by rw[<-Int.natCast_mul,HQ.out,IntKind.wrap_u64];have:=Fe.out zo;omega
        go_wp2;exact⟨⟨k,r',rfl,rfl,K.out.1,by omega,K.out.2,by omega⟩,by simp[intOf];omega⟩
  . have Jb:DD=q:=by rw[<-HD.out,<-fI.out];exact CG q r h n1 n0 u1 B5.out j1 (by rw[fI.out];exact j3) (by rw[hQ];omega)
    subst Jb;have gW:¬(4294967296:Int)<=(DD:Int):=by omega
    have hc2:¬4294967296* (r:Int)+(u1:Int)<(Q:Int):=by omega
    have g0:IntKind.u64.wrap ((DD:Int) * (n0:Int))=(Q:Int):=by rw[<-Int.natCast_mul,hQ,IntKind.wrap_u64];have:=fq zo;omega
    have m1:=M1.out;have m2:=M2.out;have m3:=M3.out;have m4:=M4.out;have f1:=F1.out;have f2:=F2.out;have f3:=F3.out;have f4:=F4.out;have Zf:((n1:Int)==0)=false:=by have:=B5.out;simp;omega
    obtain⟨J,HQ,Fe⟩:=bM (And.intro j1 (And.intro j2 (And.intro j3 j4))) hQ fq;clear j1 j2 j3 j4 hQ fq;go_wp2;clear m1 m2 m3 m4 f1 f2 f3 f4 g0 g1 g2;go_loop [18,16] (λqv rv=>∃q r:Nat,qv=.int .u64 (q:Int)/\rv=.int .u64 (r:Int)/\q*n1+r=v/\r<4294967296/\(v*4294967296+u0)/y<=q/\q<=4294967297) (λqv _=>(intOf qv).toNat)
    case atStart=>exact⟨q2,r2,rfl,rfl,T3.out,T4.out,T1.out,T2.out⟩
    case round=>
     clear T1 T2 T3 T4;obtain⟨q,r,rfl,rfl,j1,j2,j3,j4⟩:=hrel;obtain⟨Q,hQ⟩:=az (q*n0);have g1:IntKind.u64.wrap (4294967296* (r:Int))=4294967296* (r:Int):=by rw[IntKind.wrap_u64];omega
     have g2:IntKind.u64.wrap (4294967296* (r:Int)+(u0:Int))=4294967296* (r:Int)+(u0:Int):=by rw[IntKind.wrap_u64];have:=B4.out;omega
     have fq:q<4294967296->Q<18446744073709551616:=λh=>by rw[<-hQ];have h1:q*n0<=4294967295*4294967295:=Nat.mul_le_mul zo (by have:=B2.out;omega);omega
     have Es:=N1.out;have Et:=N2.out;have x3:=X3.out;have x4:=X4.out;have x5:=X5.out;have x6:=X6.out;by_cases hc:4294967296<=q\/4294967296*r+u0<Q
     . obtain⟨k1,k2,k3⟩:=GI q r v n1 n0 u0 (by rw[fI.out];exact Mk.out) B4.out j1 (by rw[fI.out];exact j3) (by rw[hQ];exact hc);rw[fI.out]at k3;obtain⟨m,hm⟩:=az (q-1);rw[hm]at k2 k3;have g3:IntKind.u64.wrap ((q:Int)-1)=(m:Int):=by rw[IntKind.wrap_u64];omega
       have g4:IntKind.u64.wrap ((r:Int)+(n1:Int))=((r+n1:Nat):Int):=by rw[IntKind.wrap_u64];have:=B1.out;omega
       obtain⟨r',hr'⟩:=az (r+n1);rw[hr']at k2 g4;have hT0:q<4294967296->IntKind.u64.wrap ((q:Int) * (n0:Int))=(Q:Int):=λh=>by rw[<-Int.natCast_mul,hQ,IntKind.wrap_u64];have:=fq h;omega
       by_cases hbr:4294967296<=r'
       . have DC:E=m:=by rw[<-HE.out,<-fI.out];exact GH m r' v n1 n0 u0 B5.out B2.out k2 (by rw[fI.out];exact k3) zo hbr
         subst DC;have xq:(4294967296:Int)<=(r':Int):=by omega
         clear j1 j3 k2 k3 hQ fq hm hr';by_cases hT:4294967296<=q
         . have gW:(4294967296:Int)<=(q:Int):=by omega
           go_wp2;refine bodyPost_ret (v:=.tuple #[.int .u64 ((DD:Int) *4294967296+(E:Int)),.int .u64 X]) (by simp[results,Tryz.results318,go_sem]) rfl ⟨⟨_,by rw[sD.out]⟩,Below.refl _ _⟩
         . have hc2:4294967296* (r:Int)+(u0:Int)<(Q:Int):=by omega
           have gW:¬(4294967296:Int)<=(q:Int):=by omega
           have g0:=hT0 zo;go_wp2;refine bodyPost_ret (v:=.tuple #[.int .u64 ((DD:Int) *4294967296+(E:Int)),.int .u64 X]) (by simp[results,Tryz.results318,go_sem]) rfl ⟨⟨_,by rw[sD.out]⟩,Below.refl _ _⟩
       . have xq:¬(4294967296:Int)<=(r':Int):=by omega
         have K:=aj (And.intro k2 k3);clear j1 j3 k2 k3 hQ fq hr';by_cases hT:4294967296<=q
         . have gW:(4294967296:Int)<=(q:Int):=by omega
           go_wp2;exact⟨⟨m,r',rfl,rfl,K.out.1,by omega,K.out.2,by omega⟩,by simp[intOf];omega⟩
         . have hc2:4294967296* (r:Int)+(u0:Int)<(Q:Int):=by omega
           have gW:¬(4294967296:Int)<=(q:Int):=by omega
           have g0:=hT0 zo;go_wp2;exact⟨⟨m,r',rfl,rfl,K.out.1,by omega,K.out.2,by omega⟩,by simp[intOf];omega⟩
     . have Eb:E=q:=by rw[<-HE.out,<-fI.out];exact CG q r v n1 n0 u0 B5.out j1 (by rw[fI.out];exact j3) (by rw[hQ];omega)
       subst Eb;have gW:¬(4294967296:Int)<=(E:Int):=by omega
       have hc2:¬4294967296* (r:Int)+(u0:Int)<(Q:Int):=by omega
       have g0:IntKind.u64.wrap ((E:Int) * (n0:Int))=(Q:Int):=by rw[<-Int.natCast_mul,hQ,IntKind.wrap_u64];have:=fq zo;omega
       clear j1 j3 hQ fq;go_wp2;refine bodyPost_ret (v:=.tuple #[.int .u64 ((DD:Int) *4294967296+(E:Int)),.int .u64 X]) (by simp[results,Tryz.results318,go_sem]) rfl ⟨⟨_,by rw[sD.out]⟩,Below.refl _ _⟩
def akn (lo y:Nat)(w:World)(hy:0<y)(hy2:y<WW)(hl:lo<WW):
 Cl 318 #[.int .u64 0,.int .u64 (lo:Int),.int .u64 (y:Int)] w λe w'=>∃r,e=.returned (.tuple #[.int .u64 ((lo/y:Nat):Int),.int .u64 r])/\Bw w w':=by
 rw[iG]at*;have e6:((y:Int)==0)=false:=by simp;omega
 have e7:¬(y:Int)<=0:=by omega
 have f1:(lo:Int).tdiv (y:Int)=((lo/y:Nat):Int):=rfl;obtain⟨q,hq⟩:=az (lo/y);have hqb:q<=lo:=by rw[<-hq];exact Nat.div_le_self _ _
 rw[hq]at f1⊢;have f2:IntKind.u64.wrap (q:Int)=(q:Int):=by rw[IntKind.wrap_u64];omega
 clear hq;go_enter Tryz.func318,Tryz.ntmps318;go_wp2;go_region
 go_wp2;refine bodyPost_ret (v:=.tuple #[.int .u64 (q:Int),.int .u64 ((lo:Int)% (y:Int))]) (by simp[results,Tryz.results318,go_sem]) rfl ⟨_,rfl,(Below.refl _ _).drew⟩
end Go.Proofs.YtpfgffadgkkedaaGreatDoor
namespace Go.Proofs.YtpfgffadgkkedaaGreatDoor
def Rx :0<2:=by decide
def p2 (k:Nat):0<2^k:=Nat.pow_pos zd
def bd (v j:Nat):Nat:=v/2^j%2
def Vb (v j:Nat):bd v j<2:=Nat.mod_lt _ Rx
def ai2 {v k:Nat}(h:v<2^(k+1))(h0:bd v k=0):v<2^k:=by
 unfold bd at h0;have h1:v/2^k<2:=by rw[Nat.div_lt_iff_lt_mul (p2 k)];rw[Nat.pow_succ]at h;rwa [Nat.mul_comm]at h
 rw[Nat.mod_eq_of_lt h1]at h0;rcases Nat.lt_or_ge v (2^k)with h2|h2
 . exact h2
 . have:=Nat.div_pos h2 (p2 k);omega
def ai1 {v k:Nat}(h0:bd v k≠0):2^k<=v:=by
 rcases Nat.lt_or_ge v (2^k)with h2|h2
 . exact absurd (by unfold bd;rw[Nat.div_eq_of_lt h2]) h0
 . exact h2
def aiD {v k j:Nat}(h:v<2^k)(hj:k<=j):bd v j=0:=by unfold bd;rw[Nat.div_eq_of_lt (Nat.lt_of_lt_of_le h (Nat.pow_le_pow_right Rx hj))]
def Gm (v i:Nat):v%2^(i+1)=v%2^i+2^i*bd v i:=by unfold bd;rw[Nat.pow_succ,Nat.mod_mul]
def bb (v u i:Nat):Nat:=if v%2^i<u%2^i then 1 else 0
def aiv (v u:Nat):bb v u 0=0:=by simp[bb,Nat.mod_one]
def Va (v u i:Nat):bb v u i<=1:=by unfold bb;split<;>omega
def aiu (v u i:Nat):bb v u (i+1)=if bd v i<bd u i+bb v u i then 1 else 0:=by
 have h1:=Nat.mod_lt v (p2 i);have h2:=Nat.mod_lt u (p2 i);unfold bb;rw[Gm v,Gm u];generalize bd v i=a;generalize bd u i=b;generalize v%2^i=r at*;generalize u%2^i=s at*;generalize 2^i=M at*;have key:(r+M*a<s+M*b)↔(a<b+if r<s then 1 else 0):=by
  rcases Nat.lt_trichotomy a b with h|h|h
  . have:M* (a+1)<=M*b:=Nat.mul_le_mul_left _ h;rw[Nat.mul_add]at this;constructor
    . intro _;split<;>omega
    . intro _;omega
  . subst h;split<;>omega
  . have:M* (b+1)<=M*a:=Nat.mul_le_mul_left _ h;rw[Nat.mul_add]at this;constructor
    . intro _;omega
    . intro h';exfalso;revert h';split<;>omega
 simp only[key]
def ait (v u i:Nat)(hu:u<=v):(bd v i+2-bd u i-bb v u i)%2=bd (v-u) i:=by
 -- the digit of the difference
 have h1:=Nat.mod_lt v (p2 i);have h2:=Nat.mod_lt u (p2 i);have hM:=p2 i;have hb:=Va v u i;have du:=Vb u i;have e1:v=v%2^i+2^i* (v/2^i):=(Nat.mod_add_div v _).symm;have e2:u=u%2^i+2^i* (u/2^i):=(Nat.mod_add_div u _).symm;have e3:(v-u)/2^i+bb v u i+u/2^i=v/2^i:=by
  unfold bb;generalize v%2^i=r at*;generalize u%2^i=s at*;generalize v/2^i=x at*;generalize u/2^i=y at*;generalize 2^i=M at*;have hxy:y<=x:=by
   rcases Nat.lt_or_ge x y with h|h
   . have:M* (x+1)<=M*y:=Nat.mul_le_mul_left _ h;rw[Nat.mul_add]at this;omega
   . exact h
  obtain⟨d,rfl⟩:∃d,x=y+d:=⟨x-y,by omega⟩;split
  . rename_i hrs
    have hd:1<=d:=by
     rcases Nat.eq_zero_or_pos d with h|h
     . subst h;simp at e1;omega
     . exact h
    obtain⟨d',rfl⟩:∃d',d=d'+1:=⟨d-1,by omega⟩;have:v-u=(M+r-s)+M*d':=by rw[Nat.mul_add,Nat.mul_add]at e1;omega
    rw[this,Nat.add_mul_div_left _ _ hM,Nat.div_eq_of_lt zo];omega
  . have:v-u=(r-s)+M*d:=by rw[Nat.mul_add]at e1;omega
    rw[this,Nat.add_mul_div_left _ _ hM,Nat.div_eq_of_lt zo];omega
 unfold bd at*;generalize (v-u)/2^i=q at*;rw[<-e3];generalize bb v u i=c at*;generalize u/2^i=y at*;have hW:=Rx
 -- (q + c + y) % W + W - y % W - c ≡ q
 have e4:((q+c+y)%2+2-y%2-c)%2=q%2:=by
  have a1:y=y%2+2* (y/2):=(Nat.mod_add_div y _).symm;have a2:(q+c+y)%2=(q+c+y%2)%2:=by rw[Nat.add_mod,Nat.add_mod (q+c) (y%2),Nat.mod_mod]
  rw[a2];generalize y%2=z at*;have a3:q=q%2+2* (q/2):=(Nat.mod_add_div q _).symm;have a4:(q+c+z)%2=(q%2+c+z)%2:=by conv=>lhs;rw[a3,show q%2+2* (q/2)+c+z=(q%2+c+z)+2* (q/2)by omega,Nat.add_mul_mod_self_left]
  rw[a4];have hq:=Nat.mod_lt q hW;generalize q%2=p at*;rcases Nat.lt_or_ge (p+c+z) 2 with h|h
  . rw[Nat.mod_eq_of_lt h,show p+c+z+2-z-c=p+2 by omega,Nat.add_mod_right,Nat.mod_eq_of_lt hq]
  . rcases Nat.lt_or_ge (p+c+z) (2*2)with h'|h'
    . have:(p+c+z)%2=p+c+z-2:=by rw[Nat.mod_eq_sub_mod h,Nat.mod_eq_of_lt zo]
      rw[this,show p+c+z-2+2-z-c=p by omega,Nat.mod_eq_of_lt hq]
    . exfalso;omega
 exact e4
def Vd {v u k:Nat}(h:v/2^(k+1)=u/2^(k+1))(hd:bd v k<bd u k):v<u:=by
 unfold bd at hd;have e1:=(Nat.mod_add_div (v/2^k) 2).symm;have e2:=(Nat.mod_add_div (u/2^k) 2).symm;rw[Nat.pow_succ,<-Nat.div_div_eq_div_mul,<-Nat.div_div_eq_div_mul]at h;have:v/2^k<u/2^k:=by rw[e1,e2,h];omega
 exact Nat.lt_of_div_lt_div this
def aiC {v u k:Nat}(h:v/2^(k+1)=u/2^(k+1))(hd:bd v k=bd u k):v/2^k=u/2^k:=by unfold bd at hd;have e1:=(Nat.mod_add_div (v/2^k) 2).symm;have e2:=(Nat.mod_add_div (u/2^k) 2).symm;rw[Nat.pow_succ,<-Nat.div_div_eq_div_mul,<-Nat.div_div_eq_div_mul]at h;rw[e1,e2,h,hd]
def ry (v j:Nat):bd v j<=1:=by have:=Vb v j;omega
def aiO {v k:Nat}(h:v<2^(k+1))(h':2^k<=v):bu v=k+1:=by have:=gw h;have:=Gl h';omega
def aiQ :bu 0=0:=rfl
def Ve {v u:Nat}(h:v<=u):bu v<=bu u:=gw (Nat.lt_of_le_of_lt h (pP u))
def aiP (v c:Nat)(hc:c<=1):bu (2*v+c)<=bu v+1:=by refine gw ?_;have:=pP v;rw[Nat.pow_succ];omega
def EE (q:Nat):256^q=2^(8*q):=by rw[show(256:Nat)=2^8 by rfl,<-Nat.pow_mul]
def ai6 (v k:Nat):v%2^(k+1)/256^(k/8)%256=v%2^k/256^(k/8)%256+bd v k*2^(k%8)/\v%2^k/256^(k/8)%256+bd v k*2^(k%8)<=255:=by
 have e:2^k=256^(k/8) *2^(k%8):=by rw[EE,<-Nat.pow_add];congr 1;omega
 have hA:=Nat.mod_lt v (p2 k);have hb:=ry v k;rw[Gm];generalize v%2^k=A at*;generalize bd v k=b at*;have hr:2^(k%8)<=128:=Nat.pow_le_pow_right (i:=k%8) (j:=7) zd zo;have hp:0<256^(k/8):=Nat.pow_pos zd;have hq:A/256^(k/8)<2^(k%8):=Nat.div_lt_of_lt_mul (by rw[<-e];exact hA);rw[e,Nat.mul_assoc,Nat.add_mul_div_left _ _ hp];generalize A/256^(k/8)=x at*;generalize 2^(k%8)=y at*;have PR:y*b=b*y:=Nat.mul_comm _ _;have:b*y<=1*y:=Nat.mul_le_mul_right _ hb;rw[PR,Nat.mod_eq_of_lt (show x<256 by omega),Nat.mod_eq_of_lt (show x+b*y<256 by omega)];omega
def ai7 (v k q:Nat)(hq:q≠k/8):v%2^(k+1)/256^q%256=v%2^k/256^q%256:=by
 rcases Nat.lt_or_ge q (k/8)with h|h
 . rw[Gm];have e:2^k=256^q* (256*2^(k-8* (q+1))):=by rw[show 256^q* (256*2^(k-8* (q+1)))=256^(q+1) *2^(k-8* (q+1))by rw[Nat.pow_succ,Nat.mul_assoc],EE,<-Nat.pow_add];congr 1;omega
   have e2:2^k*bd v k=256^q* (256* (2^(k-8* (q+1)) *bd v k)):=by rw[e];simp only[Nat.mul_assoc]
   rw[e2,Nat.add_mul_div_left _ _ (Nat.pow_pos zd),Nat.add_mul_mod_self_left]
 . have h1:2^(k+1)<=256^q:=by rw[EE];exact Nat.pow_le_pow_right zd zo
   have h2:2^k<=2^(k+1):=Nat.pow_le_pow_right zd zo;rw[Nat.div_eq_of_lt (Nat.lt_of_lt_of_le (Nat.mod_lt v (p2 (k+1))) h1),Nat.div_eq_of_lt (Nat.lt_of_lt_of_le (Nat.mod_lt v (p2 k)) (Nat.le_trans h2 h1))]
def aph (l:List UInt8)(j:Nat)(hj:j<l.length):nv l/256^j%256=l[l.length-1-j].toNat:=by
 have e:=JD (l.take (l.length-j)) (l.drop (l.length-j));rw[List.take_append_drop,List.length_drop,show l.length-(l.length-j)=j by omega]at e;have h1:nv (l.drop (l.length-j))<256^j:=by have:=fY (l.drop (l.length-j));rwa [List.length_drop,show l.length-(l.length-j)=j by omega]at this
 have hp:0<256^j:=Nat.pow_pos zd;rw[e,Nat.add_comm,Nat.add_mul_div_right _ _ hp,Nat.div_eq_of_lt h1,Nat.zero_add];have e2:l.take (l.length-j)=l.take (l.length-1-j)++[l[l.length-1-j]]:=by have:=List.take_succ_eq_append_getElem (i:=l.length-1-j) (l:=l) zo;rw[show l.length-j=l.length-1-j+1 by omega];exact this
 rw[e2,JD];have e3:nv [l[l.length-1-j]]=(l[l.length-1-j]).toNat:=by rw[rS];simp[vP]
 rw[e3];have:=(l[l.length-1-j]).toNat_lt;simp only[List.length_singleton,Nat.pow_one];rw[Nat.mul_add_mod_of_lt]<;>omega
def apg (l:List UInt8)(j k:Nat)(hj:j<l.length)(hk:k<8):l[l.length-1-j].toNat/2^k%2=bd (nv l) (8*j+k):=by
 rw[<-aph l j hj];unfold bd;rw[Nat.pow_add,<-Nat.div_div_eq_div_mul,<-EE];generalize nv l/256^j=x;have e:256=2^k*2^(8-k):=by rw[<-Nat.pow_add,show k+(8-k)=8 by omega]
 rw[e,Nat.mod_mul_right_div_self,Nat.mod_mod_of_dvd];exact⟨2^(7-k),by rw[show 8-k=7-k+1 by omega,Nat.pow_succ,Nat.mul_comm]⟩
def pg (l:List UInt8):nv l<2^(8*l.length):=by rw[<-EE];exact fY l
def aod (v u i:Nat)(hu:0<u):∃r c q,v/2^(i+1)%u=r/\bd v i=c/\v/2^(i+1)/u=q/\v/2^i%u=(if u<=2*r+c then 2*r+c-u else 2*r+c)/\v/2^i/u=2*q+(if u<=2*r+c then 1 else 0):=by
 refine⟨_,_,_,rfl,rfl,rfl,?_⟩;have e:v/2^i=2* (v/2^(i+1))+bd v i:=by unfold bd;rw[Nat.pow_succ,<-Nat.div_div_eq_div_mul];omega
 have hb:=ry v i;rw[e];generalize v/2^(i+1)=x;generalize bd v i=c at*;have h1:=Nat.mod_lt x hu;have h2:=Nat.mod_add_div x u;generalize hr:x%u=r at*;generalize hq:x/u=q at*;have e2:2*x+c=2*r+c+u* (2*q):=by rw[<-h2,show u* (2*q)=2* (u*q)by rw[Nat.mul_left_comm]];omega
 rw[e2,Nat.add_mul_mod_self_left,Nat.add_mul_div_left _ _ hu];by_cases h:u<=2*r+c
 . rw[if_pos h,if_pos h];have e3:2*r+c=(2*r+c-u)+u*1:=by omega
   rw[e3,Nat.add_mul_mod_self_left,Nat.add_mul_div_left _ _ hu,Nat.mod_eq_of_lt zo,Nat.div_eq_of_lt zo];omega
 . rw[if_neg h,if_neg h,Nat.mod_eq_of_lt zo,Nat.div_eq_of_lt zo];omega
def aoc (v u i:Nat):bd (v/u) i=v/2^i/u%2:=by unfold bd;rw[Nat.div_div_eq_div_mul,Nat.div_div_eq_div_mul,Nat.mul_comm]
end Go.Proofs.YtpfgffadgkkedaaGreatDoor
