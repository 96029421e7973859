/- math/bits: what the calls answer (the walks are the guide's own,turned to this program). -/
import Derived.Test.YtnjfebkelecgaaaGreatDoorZ2
import Derived.Test.YtnjfebkelecgaaaGreatDoorZ3
import Derived.Lib.BitFns
import Derived.Lib.ItoaNum
import Derived.Lib.TrailingZeros
import Derived.Lib.Mul64
import Derived.Laws.Bits64b
set_option linter.unusedVariables false
set_option linter.unusedSimpArgs false
set_option maxRecDepth 100000
set_option maxHeartbeats 16000000
namespace Go.Proofs.YtnjfebkelecgaaaGreatDoor
open Go.RowKit
theorem QM (x y c:Nat)(hx:x<WW)(hy:y<WW)(hc:c<=1)(w:World):
 (callFunc 192 #[.int .u64 x,.int .u64 y,.int .u64 c]).run Tryz.prog w=
  .ok (.value (.tuple #[.int .u64 (((x+y+c)%WW:Nat):Int),.int .u64 (((x+y+c)/WW:Nat):Int)])) w:=by
 rw[ki]at*;rw[run_callFunc_extern Tryz.func192 zk zk zk (e:=add64Entry) zk,run_add64 x y c zo zo zo zo];simp only[Result.andThen];congr 5<;>omega
def afR :Array Value->Sem Value:=λargs=>do
 let (x,y,b)<-Extern.MathBitsCarry.three "Sub64" args
 pure (Extern.MathBitsCarry.pair ((x+Extern.MathBitsCarry.m64-y-b)%Extern.MathBitsCarry.m64) (if x<y+b then 1 else 0))
theorem auP (x y b:Nat)(hb:b<=1)(w:World):
 (afR #[.int .u64 x,.int .u64 y,.int .u64 b]).run Tryz.prog w=
  .ok (.tuple #[.int .u64 (((x+18446744073709551616-y-b)%18446744073709551616:Nat):Int),.int .u64 ((if x<y+b then 1 else 0:Nat):Int)]) w:=by
 have:b=0\/b=1:=by omega
 rcases this with rfl|rfl<;>rfl
theorem avi (x y b:Nat)(hb:b<=1)(w:World):
 (callFunc 193 #[.int .u64 x,.int .u64 y,.int .u64 b]).run Tryz.prog w=
  .ok (.value (.tuple #[.int .u64 (((x+WW-y-b)%WW:Nat):Int),.int .u64 ((if x<y+b then 1 else 0:Nat):Int)])) w:=by
 rw[run_callFunc_extern Tryz.func193 zk zk zk (e:=afR) zk,auP x y b hb];rfl
namespace MulX
theorem maskN (a:Nat)(ha:a<18446744073709551616):bits .and .u64 (a:Int) 4294967295=((a%4294967296:Nat):Int):=by have h:=bits_and_u64_nat a 4294967295 ha zo;have e:a&&&4294967295=a%4294967296:=Nat.and_two_pow_sub_one_eq_mod a 32;rw[e]at h;exact h
theorem divN (a:Nat):(a:Int)/4294967296=((a/4294967296:Nat):Int):=by omega
theorem mulN (a b:Nat):(a:Int) * (b:Int)=((a*b:Nat):Int):=(Int.natCast_mul a b).symm
theorem addN (a b:Nat):(a:Int)+(b:Int)=((a+b:Nat):Int):=(Int.natCast_add a b).symm
theorem wrapN (a:Nat)(ha:a<18446744073709551616):IntKind.u64.wrap (a:Int)=(a:Int):=by rw[IntKind.wrap_u64];omega
theorem wrapM (a:Nat):IntKind.u64.wrap (a:Int)=((a%18446744073709551616:Nat):Int):=by rw[IntKind.wrap_u64];omega
end MulX
theorem arY (x y:Nat)(hx:x<WW)(hy:y<WW)(w:World):
 Calls Tryz.prog 198 #[.int .u64 x,.int .u64 y] w λe w'=>e=.returned (.tuple #[.int .u64 ((x*y/WW:Nat):Int),.int .u64 ((x*y%WW:Nat):Int)])/\w=w':=by
 rw[ki]at*;obtain⟨bd,bt,bw,hhi⟩:=Lib.mul64_hi x y hx hy;have ba:=Lib.half_mul_le (a:=x/4294967296) (b:=y/4294967296) zo zo;have bb:=Lib.half_mul_le (a:=x/4294967296) (b:=y%4294967296) zo zo;have bc:=Lib.half_mul_le (a:=x%4294967296) (b:=y/4294967296) zo zo;have ba':x/4294967296* (y/4294967296)<18446744073709551616:=by omega
 have bb':x/4294967296* (y%4294967296)<18446744073709551616:=by omega
 have bc':x%4294967296* (y/4294967296)<18446744073709551616:=by omega
 have bh1:x/4294967296* (y/4294967296)+(x/4294967296* (y%4294967296)+x%4294967296* (y%4294967296)/4294967296)/4294967296<18446744073709551616:=by omega
 have bh:x/4294967296* (y/4294967296)+(x/4294967296* (y%4294967296)+x%4294967296* (y%4294967296)/4294967296)/4294967296+((x/4294967296* (y%4294967296)+x%4294967296* (y%4294967296)/4294967296)%4294967296+x%4294967296* (y/4294967296))/4294967296<18446744073709551616:=by omega
 go_enter Tryz.func198,Tryz.ntmps198;go_wp2;simp only[MulX.maskN x hx,MulX.maskN y hy,MulX.divN,MulX.mulN,MulX.addN,MulX.wrapN _ bd,MulX.wrapN _ bb',MulX.wrapN _ bt,MulX.maskN _ bt,MulX.wrapN _ bc',MulX.wrapN _ bw,MulX.wrapN _ ba',MulX.wrapN _ bh1,MulX.wrapN _ bh,MulX.wrapM (x*y)];rw[hhi];go_ret2
 exact⟨rfl,rfl⟩
def bV (v:Nat):Nat:=if v=0 then 0 else Nat.log2 v+1
theorem rX (v:Nat):v<2^bV v:=by
 unfold bV;split
 . subst v;simp
 . exact Nat.lt_log2_self
theorem ib {v k:Nat}(h:v<2^k):bV v<=k:=by
 unfold bV;split
 . omega
 . rename_i h0;have:=(Nat.log2_lt h0).2 h;omega
theorem FV {v:Nat}(h:0<v):0<bV v:=by unfold bV;split<;>omega
theorem Lc {v k:Nat}(h:2^k<=v):k<bV v:=by
 rcases Nat.lt_or_ge k (bV v)with h1|h1
 . exact h1
 . have:=rX v;have:=Nat.pow_le_pow_right (show 0<2 by decide) h1;omega
theorem alU (x:Nat)(h:x<18446744073709551616):Lib.bitLen x=bV x:=by
 by_cases h0:x=0
 . subst h0;rfl
 . obtain⟨h1,h2,h3⟩:=Lib.bitLenAux_bounds 64 x h h0;have e:Lib.bitLen x=Lib.bitLenAux 64 x:=rfl;rw[e];have a:=ib h3;have b:=Lc h2;omega
theorem aqL (x:Nat)(w:World)(h:x<WW):
 Calls Tryz.prog 203 #[.int .u64 x] w λe w'=>e=.returned (ah (bV x))/\w=w':=by
 rw[ki]at h;refine(aqM x w zo zo).mono ?_;rintro e w' ⟨rfl,rfl⟩;rw[Int.toNat_natCast,alU x h];exact⟨rfl,rfl⟩
theorem UA (x:Nat)(w:World)(h:x<WW):
 Calls Tryz.prog 191 #[.int .u64 x] w λe w'=>e=.returned (ah (64-bV x:Int))/\w=w':=by
 have hb:bV x<=64:=ib (by rw[ma]at h;exact h);have Hx:=aj h;clear h;go_enter Tryz.func191,Tryz.ntmps191;go_wp2_with (go_at_call 203;refine(aqL _ _ Hx.out).mono ?_;rintro e w' ⟨rfl,rfl⟩);go_ret;exact⟨rfl,rfl⟩
def aO (w:World):Prop:=∀j,j<Lib.deBruijn64tab.length->w.cell? ⟨0,j,none⟩=some (.int .u8 (Lib.deBruijn64tab.getD j 0))
theorem aO.below {w w':World}(h:aO w)(hb:Bw w w'):aO w':=λj hj=>cell_later hb (h j hj)
theorem kT {w w':World}(h:Hid (aO w))(k:Bw w w'):Hid (aO w'):=h.out.below k
theorem tz64_core (x k idx:Nat)(w:World)(hx0:((x:Int)==0)=false)
 (key:IntKind.u64.wrap (bits BinOp.and IntKind.u64 (x:Int) (IntKind.u64.wrap (-(x:Int))) *285870213051353865)/288230376151711744=(idx:Int))
 (hi:idx<64) (hk:k<64) (hcell:w.cell? ⟨0,idx,none⟩=some (.int .u8 k)):
 Calls Tryz.prog 137 #[.int .u64 x] w λe w'=>e=.returned (ah k)/\w=w':=by
 go_enter Tryz.func137,Tryz.ntmps137;go_wp2_with (simp only[key]);go_ret;exact⟨rfl,rfl⟩
theorem tz64_key (x a:Nat)(hx:x<18446744073709551616)(kO:x&&&(18446744073709551616-x)=a)(hx0:x≠0):
 IntKind.u64.wrap (bits BinOp.and IntKind.u64 (x:Int) (IntKind.u64.wrap (-(x:Int))) *285870213051353865)/288230376151711744=((a*285870213051353865%18446744073709551616/288230376151711744:Nat):Int):=by
 have e1:IntKind.u64.wrap (-(x:Int))=((18446744073709551616-x:Nat):Int):=by rw[IntKind.wrap_u64];omega
 rw[e1,bits_and_u64_nat x _ hx zo,kO,IntKind.wrap_u64];omega
theorem avV (x:Nat)(hx:x<WW)(hx0:x≠0)(w:World)(hT:aO w):
 Calls Tryz.prog 137 #[.int .u64 x] w λe w'=>e=.returned (ah (Lib.ctz 64 x))/\w=w':=by
 rw[ki]at hx;obtain⟨kO,hk⟩:=Lib.lowest_bit 64 x hx0 hx;obtain⟨hi,yP⟩:=Lib.deBruijn64_at _ hk;have hcell:=hT _ hi;rw[yP]at hcell;exact tz64_core x _ _ w zi (tz64_key x _ hx kO hx0) hi hk hcell
theorem ZO (x:Nat)(hx:x<WW)(hx0:x≠0):∃m,x=2^Lib.ctz 64 x* (2*m+1)/\Lib.ctz 64 x<64:=by have:=Lib.ctzFrom_spec 64 x zo (by rw[ma]at hx;exact hx);unfold Lib.ctz;rw[if_neg hx0];exact this
theorem mo (b o n cap v:Nat)(w:World)(hm:n<=1099511627776)(hcap:n<=cap)(hc:ey w b o n v)(hv:v<WW^n):
 Calls Tryz.prog 168 #[.slice (some ⟨b,o,none⟩) n cap] w λe w'=>e=.returned (.slice (some ⟨b,o,none⟩) (ln v) cap)/\w=w':=by
 have Hc:=aj hc;clear hc;have Hv:=aj hv;clear hv;go_enter Tryz.func168,Tryz.ntmps168;go_wp2;go_loop [0] (λx=>∃k:Nat,k<=n/\v<WW^k/\x=.slice (some ⟨b,o,none⟩) k cap) (λx=>match x with| .slice _ k _=>k|_=>0)
 case atStart=>exact⟨n,Nat.le_refl _,Hv.out,rfl⟩
 case round=>
  obtain⟨k,hk,hvk,rfl⟩:=hrel;have pJ:=aj hvk;clear hvk;by_cases h0:0<k
  . have hcell:w.cell? ⟨b,o+(k-1),none⟩=some (.int .u64 (dg v (k-1):Int)):=Hc.out _ zo;by_cases hd:dg v (k-1)=0
    . have hd':((dg v (k-1):Int)==0)=true:=by simp[hd]
      have Hd:=aj hd;clear hd;go_wp2;refine⟨⟨k-1,by omega,?_,rfl⟩,by simp;omega⟩;refine avP ?_ Hd.out;rw[show k-1+1=k by omega];exact pJ.out
    . have hd':((dg v (k-1):Int)==0)=false:=by simp[hd]
      have Hd:=aj hd;clear hd;go_wp2;go_ret;have e:ln v=k:=by have:=aej (v:=v) (n:=k-1) (by rw[show k-1+1=k by omega];exact pJ.out) (af7 Hd.out);omega
      rw[e];exact⟨rfl,rfl⟩
  . obtain rfl:k=0:=by omega
    go_wp2;go_ret;have e:ln v=0:=by have:=pJ.out;simp at this;subst this;rfl
    rw[e];exact⟨rfl,rfl⟩
theorem ZP (cap:Nat)(a:Option Addr)(w:World):
 Calls Tryz.prog 168 #[.slice a 0 cap] w λe w'=>e=.returned (.slice a 0 cap)/\w=w':=by
 go_enter Tryz.func168,Tryz.ntmps168;go_wp2;refine wp_loop_rounds 1 ?_;rw[rounds_succ];go_wp2;go_ret;exact⟨rfl,rfl⟩
def gA (F:Nat->Nat)(o k:Nat)(G:Nat->Nat)(j:Nat):Nat:=if o<=j/\j<o+k then G (j-o)else F j
theorem Vh (F:Nat->Nat)(o:Nat)(G:Nat->Nat):gA F o 0 G=F:=by funext j;unfold gA;rw[if_neg zo]
theorem Vf (F:Nat->Nat)(o k:Nat)(G:Nat->Nat)(j:Nat)(h:k<=j):gA F o k G (o+j)=F (o+j):=by unfold gA;rw[if_neg zo]
theorem Je (F:Nat->Nat)(o k:Nat)(G:Nat->Nat)(j:Nat)(h:j<k):gA F o k G (o+j)=G j:=by unfold gA;rw[if_pos zo];congr 1;omega
theorem Vg (N:Nat)(F:Nat->Nat)(o i:Nat)(G:Nat->Nat)(x:Nat)(hx:x=G i):
 (bX N (gA F o i G)).set (o+i) (.int .u64 (x:Int))=bX N (gA F o (i+1) G):=by
 rw[Eu];refine kV λj _=>?_;unfold gA;by_cases h:j=o+i
 . subst h;rw[if_pos rfl,if_pos zo,hx];congr 1;omega
 . rw[if_neg h];by_cases h2:o<=j/\j<o+i
   . rw[if_pos h2,if_pos zo]
   . rw[if_neg h2,if_neg zo]
theorem aqF (b N o n iA:Nat)(F:Nat->Nat)(v:Nat)(b2 o2 m cap2 u:Nat)(w:World)(hm:n<=1099511627776)(YX:m<=1099511627776)
 (hB:aC w b 152 (bX N F)) (hN:o+n<=N) (hF:∀j,j<n->F (o+j)=dg v j)
 (hy:ey w b2 o2 m u) (hu:u<WW^m) (hne:b2≠b):
 Calls Tryz.prog 173 #[.slice (some ⟨b,o,none⟩) n iA,.slice (some ⟨b2,o2,none⟩) m cap2] w λe w'=>e=.returned (.tuple #[])/\
  aC w' b 152 (bX N (gA F o n (dg (v+u))))/\w.grownBy w' (some b):=by
 have HB:=aj hB;clear hB;have HF:=aj hF;clear hF;have Hy:=aj hy;clear hy;have Hu:=aj hu;clear hu;go_enter Tryz.func173,Tryz.ntmps173;go_wp2;go_loopw[4,5,6,9] (λc _ _ i wr=>∃k:Nat,k<=n/\i=ah k/\c=.int .u64 (cy v u 1 k:Int)/\aC wr b 152 (bX N (gA F o k (dg (v+u))))/\w.grownBy wr (some b)) (λ_ _ _ i _=>n-(intOf i).toNat);case atStart=>exact⟨0,Nat.zero_le _,rfl,by rw[ZR];rfl,by rw[Vh];exact HB.out,grownBy_refl _ _⟩
 case round=>
  obtain⟨k,hk,rfl,rfl,kv,hg⟩:=hrel;by_cases hlt:k<n
  . have hcell:wr.cell? ⟨b,o+k,none⟩=some (.int .u64 (dg v k:Int)):=by rw[kv.cell,gV _ _ _ zo,Vf _ _ _ _ _ (Nat.le_refl _),HF.out k hlt]
    have hfree:wr.frozen? ⟨b,o+k,none⟩=false:=kv.free _;have hstep:=ZQ v u 1 k;have yD:cy v u 1 k<=1:=by
     unfold cy;have h1:=Nat.mod_lt v (eK k);have h2:=Nat.mod_lt u (eK k);have:(v%WW^k+u%WW^k*1)/WW^k<2:=by rw[Nat.div_lt_iff_lt_mul (eK k)];omega
     omega
    have hrun:=λW=>QM (dg v k) (dg u k) (cy v u 1 k) (kq _ _) (kq _ _) yD W;have e1:(dg v k+dg u k+cy v u 1 k)%WW=dg (v+u) k:=by have:=hstep.1;simp only[Nat.mul_one]at this;exact this
    have e2:(dg v k+dg u k+cy v u 1 k)/WW=cy v u 1 (k+1):=by have:=hstep.2;simp only[Nat.mul_one]at this;exact this
    rw[e1,e2]at hrun;clear hstep e1 e2;have fh:Hid (aC (wr.setCell ⟨b,o+k,none⟩ (.int .u64 (dg (v+u) k:Int))) b 152 (bX N (gA F o (k+1) (dg (v+u))))):=by rw[<-Vg N F o k (dg (v+u)) _ rfl];exact kv.set _ _
    have Hg:Hid (w.grownBy (wr.setCell ⟨b,o+k,none⟩ (.int .u64 (dg (v+u) k:Int))) (some b)):=grownBy_trans hg (grownBy_set b rfl _);clear kv;by_cases xd:k<m
    . have Mu:wr.cell? ⟨b2,o2+k,none⟩=some (.int .u64 (dg u k:Int)):=cV hg (Hy.out k xd) zi;clear hg;go_wp2;go_roundw;case rel=>exact⟨k+1,by omega,by go_num,rfl,fh.out,Hg.out⟩
      case measure=>simp[intOf];omega
    . have hz:dg u k=0:=uX Hu.out zo;simp only[hz,show((0:Nat):Int)=0 from rfl]at hrun;clear hg hz;go_wp2;go_roundw;case rel=>exact⟨k+1,by omega,by go_num,rfl,fh.out,Hg.out⟩
      case measure=>simp[intOf];omega
  . obtain rfl:k=n:=by omega
    have fh:=aj kv;clear kv;have Hg:=aj hg;clear hg;go_wp2;go_end0
    exact⟨rfl,fh.out,Hg.out⟩
theorem IX (b N o n iA:Nat)(F:Nat->Nat)(v:Nat)(b2 o2 m cap2 u:Nat)(w:World)(hm:n<=1099511627776)(YX:m<=1099511627776)
 (hB:aC w b 152 (bX N F)) (hN:o+n<=N) (hF:∀j,j<n->F (o+j)=dg v j)
 (hy:ey w b2 o2 m u) (hu:u<WW^m) (hne:b2≠b) (ID:u<=v) (hv:v<WW^n):
 Calls Tryz.prog 176 #[.slice (some ⟨b,o,none⟩) n iA,.slice (some ⟨b2,o2,none⟩) m cap2] w λe w'=>e=.returned (ar true)/\
  aC w' b 152 (bX N (gA F o n (dg (v-u))))/\w.grownBy w' (some b):=by
 have HB:=aj hB;clear hB;have HF:=aj hF;clear hF;have Hy:=aj hy;clear hy;have Hu:=aj hu;clear hu;have Hv:=aj hv;clear hv;have Fw:=aj ID;clear ID;go_enter Tryz.func176,Tryz.ntmps176;go_wp2;go_loopw[5,6,7,10] (λc _ _ i wr=>∃k:Nat,k<=n/\i=ah k/\c=.int .u64 (bw v u k:Int)/\aC wr b 152 (bX N (gA F o k (dg (v-u))))/\w.grownBy wr (some b)) (λ_ _ _ i _=>n-(intOf i).toNat);case atStart=>exact⟨0,Nat.zero_le _,rfl,by rw[ame];rfl,by rw[Vh];exact HB.out,grownBy_refl _ _⟩
 case round=>
  obtain⟨k,hk,rfl,rfl,kv,hg⟩:=hrel;by_cases hlt:k<n
  . have hcell:wr.cell? ⟨b,o+k,none⟩=some (.int .u64 (dg v k:Int)):=by rw[kv.cell,gV _ _ _ zo,Vf _ _ _ _ _ (Nat.le_refl _),HF.out k hlt]
    have hfree:wr.frozen? ⟨b,o+k,none⟩=false:=kv.free _;have hrun:=λW=>avi (dg v k) (dg u k) (bw v u k) (Zx _ _ _) W;rw[amc v u k Fw.out,<-amd v u k]at hrun;have fh:Hid (aC (wr.setCell ⟨b,o+k,none⟩ (.int .u64 (dg (v-u) k:Int))) b 152 (bX N (gA F o (k+1) (dg (v-u))))):=by rw[<-Vg N F o k (dg (v-u)) _ rfl];exact kv.set _ _
    have Hg:Hid (w.grownBy (wr.setCell ⟨b,o+k,none⟩ (.int .u64 (dg (v-u) k:Int))) (some b)):=grownBy_trans hg (grownBy_set b rfl _);clear kv;by_cases xd:k<m
    . have Mu:wr.cell? ⟨b2,o2+k,none⟩=some (.int .u64 (dg u k:Int)):=cV hg (Hy.out k xd) zi;clear hg;go_wp2;go_roundw;case rel=>exact⟨k+1,by omega,by go_num,rfl,fh.out,Hg.out⟩
      case measure=>simp[intOf];omega
    . have hz:dg u k=0:=uX Hu.out zo;simp only[hz,show((0:Nat):Int)=0 from rfl]at hrun;clear hg hz;go_wp2;go_roundw;case rel=>exact⟨k+1,by omega,by go_num,rfl,fh.out,Hg.out⟩
      case measure=>simp[intOf];omega
  . obtain rfl:k=n:=by omega
    have fh:=aj kv;clear kv;have Hg:=aj hg;clear hg;have hb0:bw v u k=0:=by unfold bw;rw[Nat.mod_eq_of_lt Hv.out,Nat.mod_eq_of_lt (Nat.lt_of_le_of_lt Fw.out Hv.out),if_neg (by have:=Fw.out;omega)]
    rw[hb0];have hb1:(((0:Nat):Int)==0)=true:=rfl;clear hb0;go_wp2;go_ret;exact⟨rfl,fh.out,Hg.out⟩
theorem atg (x p c0:Nat):(x+(p%WW+c0+0)%WW+0)%WW=(x+p+c0)%WW/\p/WW+(p%WW+c0+0)/WW+(x+(p%WW+c0+0)%WW+0)/WW=(x+p+c0)/WW:=by rw[ki];omega
theorem ate (x d m c:Nat)(hx:x<WW)(hd:d<WW)(hm:m<WW)(hc:c<WW):(x+d*m+c)/WW<WW:=by
 rw[Nat.div_lt_iff_lt_mul kj];have h1:d*m<=(WW-1) * (WW-1):=Nat.mul_le_mul zo zo;have:(WW-1) * (WW-1)+(WW-1)+(WW-1)<WW*WW:=by decide
 omega
theorem agm (a b:Nat)(h:a+b<WW):IntKind.u64.wrap ((a:Int)+(b:Int))=((a+b:Nat):Int):=by rw[ki]at h;rw[IntKind.wrap_u64];omega
theorem Np (b N o n iA:Nat)(F:Nat->Nat)(v:Nat)(b2 o2 m cap2 u q:Nat)(w:World)(hm:n<=1099511627776)(YX:m<=1099511627776)
 (hB:aC w b 152 (bX N F)) (hN:o+n<=N) (hF:∀j,j<n->F (o+j)=dg v j)
 (hy:ey w b2 o2 m u) (hu:u<WW^m) (hne:b2≠b) (hq:q<WW):
 Calls Tryz.prog 178 #[.slice (some ⟨b,o,none⟩) n iA,.slice (some ⟨b2,o2,none⟩) m cap2,.int .u64 (q:Int)] w λe w'=>e=.returned (.tuple #[])/\
  aC w' b 152 (bX N (gA F o n (dg (v+u*q))))/\w.grownBy w' (some b):=by
 have HB:=aj hB;clear hB;have HF:=aj hF;clear hF;have Hy:=aj hy;clear hy;have Hu:=aj hu;clear hu;have Hq:=aj hq;clear hq;go_enter Tryz.func178,Tryz.ntmps178;go_wp2;go_loopw[6,7,8,9,10,11,14] (λc _ _ _ _ _ i wr=>∃k:Nat,k<=n/\i=ah k/\c=.int .u64 (cy v u q k:Int)/\aC wr b 152 (bX N (gA F o k (dg (v+u*q))))/\w.grownBy wr (some b)) (λ_ _ _ _ _ _ i _=>n-(intOf i).toNat);case atStart=>exact⟨0,Nat.zero_le _,rfl,by rw[ZR];rfl,by rw[Vh];exact HB.out,grownBy_refl _ _⟩
 case round=>
  obtain⟨k,hk,rfl,rfl,kv,hg⟩:=hrel;by_cases hlt:k<n
  . have hcell:wr.cell? ⟨b,o+k,none⟩=some (.int .u64 (dg v k:Int)):=by rw[kv.cell,gV _ _ _ zo,Vf _ _ _ _ _ (Nat.le_refl _),HF.out k hlt]
    have hfree:wr.frozen? ⟨b,o+k,none⟩=false:=kv.free _;have hcl:=am0 v u q k Hq.out;have hs:=atg (dg v k) (dg u k*q) (cy v u q k);have hl:=ate (dg v k) (dg u k) q (cy v u q k) (kq _ _) (kq _ _) Hq.out hcl;have hstep:=ZQ v u q k;rw[hstep.1,hstep.2]at hs;rw[hstep.2,<-hs.2]at hl;have MO:=λW=>arY (dg u k) q (kq _ _) Hq.out W;have r1:=λW=>QM (dg u k*q%WW) (cy v u q k) 0 (Nat.mod_lt _ kj) hcl zo W;have r2:=λW=>QM (dg v k) ((dg u k*q%WW+cy v u q k+0)%WW) 0 (kq _ _) (Nat.mod_lt _ kj) zo W;rw[hs.1]at r2;have wy:=aj hs.2;clear hs hstep hcl;generalize (dg u k*q%WW+cy v u q k+0)%WW=lo2 at*;generalize (dg u k*q%WW+cy v u q k+0)/WW=c1 at*;generalize (dg v k+lo2+0)/WW=c2 at*;generalize dg u k*q/WW=hi at*;generalize dg u k*q%WW=lo at*;have s1:=agm hi c1 zo;have s2:=agm (hi+c1) c2 hl;have PE:=aj MO;clear hl MO;simp only[show((0:Nat):Int)=0 from rfl]at r1 r2;have fh:Hid (aC (wr.setCell ⟨b,o+k,none⟩ (.int .u64 (dg (v+u*q) k:Int))) b 152 (bX N (gA F o (k+1) (dg (v+u*q))))):=by rw[<-Vg N F o k (dg (v+u*q)) _ rfl];exact kv.set _ _
    have Hg:Hid (w.grownBy (wr.setCell ⟨b,o+k,none⟩ (.int .u64 (dg (v+u*q) k:Int))) (some b)):=grownBy_trans hg (grownBy_set b rfl _);clear kv;by_cases xd:k<m
    . have Mu:wr.cell? ⟨b2,o2+k,none⟩=some (.int .u64 (dg u k:Int)):=cV hg (Hy.out k xd) zi;clear hg;go_wp2_with (go_at_call 198;refine(PE.out _).mono ?_;rintro e w' ⟨rfl,rfl⟩);go_roundw;case rel=>exact⟨k+1,by omega,by go_num,by rw[<-wy.out,<-s2,Int.natCast_add],fh.out,Hg.out⟩
      case measure=>simp[intOf];omega
    . have hz:dg u k=0:=uX Hu.out zo;have ai4:Hid (∀W,Calls Tryz.prog 198 #[.int .u64 0,.int .u64 (q:Int)] W λe w'=>e=.returned (.tuple #[.int .u64 (hi:Int),.int .u64 (lo:Int)])/\W=w'):=by have:=PE.out;simp only[hz,show((0:Nat):Int)=0 from rfl]at this;exact this
      clear hg hz PE;go_wp2_with (go_at_call 198;refine(ai4.out _).mono ?_;rintro e w' ⟨rfl,rfl⟩);go_roundw;case rel=>exact⟨k+1,by omega,by go_num,by rw[<-wy.out,<-s2,Int.natCast_add],fh.out,Hg.out⟩
      case measure=>simp[intOf];omega
  . obtain rfl:k=n:=by omega
    have fh:=aj kv;clear kv;have Hg:=aj hg;clear hg;go_wp2;go_end0
    exact⟨rfl,fh.out,Hg.out⟩
end Go.Proofs.YtnjfebkelecgaaaGreatDoor
