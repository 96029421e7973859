/- math/bits: what the calls answer (the walks are the guide's own,turned to this program). -/
import Derived.Test.YtoopepmmepmfnaaGreatDoorZ2
import Derived.Test.YtoopepmmepmfnaaGreatDoorZ3
import Derived.Lib.BitFns
import Derived.Lib.ItoaNum
import Derived.Lib.TrailingZeros
import Derived.Lib.Mul64
import Derived.Laws.Bits64b
set_option linter.unusedVariables false
set_option linter.unusedSimpArgs false
set_option maxRecDepth 100000
set_option maxHeartbeats 16000000
namespace Go.Proofs.YtoopepmmepmfnaaGreatDoor
open Go.RowKit
theorem Jv (x y c:Nat)(hx:x<WW)(hy:y<WW)(hc:c<=1)(w:World):
 (callFunc 212 #[.int .u64 x,.int .u64 y,.int .u64 c]).run Tryz.prog w=
  .ok (.value (.tuple #[.int .u64 (((x+y+c)%WW:Nat):Int),.int .u64 (((x+y+c)/WW:Nat):Int)])) w:=by
 rw[il]at*;rw[run_callFunc_extern Tryz.func212 zk zk zk (e:=add64Entry) zk,run_add64 x y c zo zo zo zo];simp only[Result.andThen];congr 5<;>omega
def XX :Array Value->Sem Value:=λargs=>do
 let (x,y,b)<-Extern.MathBitsCarry.three "Sub64" args
 pure (Extern.MathBitsCarry.pair ((x+Extern.MathBitsCarry.m64-y-b)%Extern.MathBitsCarry.m64) (if x<y+b then 1 else 0))
theorem aki (x y b:Nat)(hb:b<=1)(w:World):
 (XX #[.int .u64 x,.int .u64 y,.int .u64 b]).run Tryz.prog w=
  .ok (.tuple #[.int .u64 (((x+18446744073709551616-y-b)%18446744073709551616:Nat):Int),.int .u64 ((if x<y+b then 1 else 0:Nat):Int)]) w:=by
 have:b=0\/b=1:=by omega
 rcases this with rfl|rfl<;>rfl
theorem ak0 (x y b:Nat)(hb:b<=1)(w:World):
 (callFunc 213 #[.int .u64 x,.int .u64 y,.int .u64 b]).run Tryz.prog w=
  .ok (.value (.tuple #[.int .u64 (((x+WW-y-b)%WW:Nat):Int),.int .u64 ((if x<y+b then 1 else 0:Nat):Int)])) w:=by
 rw[run_callFunc_extern Tryz.func213 zk zk zk (e:=XX) zk,aki x y b hb];rfl
namespace MulX
theorem maskN (a:Nat)(ha:a<18446744073709551616):bits .and .u64 (a:Int) 4294967295=((a%4294967296:Nat):Int):=by have h:=bits_and_u64_nat a 4294967295 ha zo;have e:a&&&4294967295=a%4294967296:=Nat.and_two_pow_sub_one_eq_mod a 32;rw[e]at h;exact h
theorem divN (a:Nat):(a:Int)/4294967296=((a/4294967296:Nat):Int):=by omega
theorem mulN (a b:Nat):(a:Int) * (b:Int)=((a*b:Nat):Int):=(Int.natCast_mul a b).symm
theorem addN (a b:Nat):(a:Int)+(b:Int)=((a+b:Nat):Int):=(Int.natCast_add a b).symm
theorem wrapN (a:Nat)(ha:a<18446744073709551616):IntKind.u64.wrap (a:Int)=(a:Int):=by rw[IntKind.wrap_u64];omega
theorem wrapM (a:Nat):IntKind.u64.wrap (a:Int)=((a%18446744073709551616:Nat):Int):=by rw[IntKind.wrap_u64];omega
end MulX
theorem aiH (x y:Nat)(hx:x<WW)(hy:y<WW)(w:World):
 Calls Tryz.prog 219 #[.int .u64 x,.int .u64 y] w λe w'=>e=.returned (.tuple #[.int .u64 ((x*y/WW:Nat):Int),.int .u64 ((x*y%WW:Nat):Int)])/\w=w':=by
 rw[il]at*;obtain⟨bd,bt,bw,hhi⟩:=Lib.mul64_hi x y hx hy;have ba:=Lib.half_mul_le (a:=x/4294967296) (b:=y/4294967296) zo zo;have bb:=Lib.half_mul_le (a:=x/4294967296) (b:=y%4294967296) zo zo;have bc:=Lib.half_mul_le (a:=x%4294967296) (b:=y/4294967296) zo zo;have ba':x/4294967296* (y/4294967296)<18446744073709551616:=by omega
 have bb':x/4294967296* (y%4294967296)<18446744073709551616:=by omega
 have bc':x%4294967296* (y/4294967296)<18446744073709551616:=by omega
 have bh1:x/4294967296* (y/4294967296)+(x/4294967296* (y%4294967296)+x%4294967296* (y%4294967296)/4294967296)/4294967296<18446744073709551616:=by omega
 have bh:x/4294967296* (y/4294967296)+(x/4294967296* (y%4294967296)+x%4294967296* (y%4294967296)/4294967296)/4294967296+((x/4294967296* (y%4294967296)+x%4294967296* (y%4294967296)/4294967296)%4294967296+x%4294967296* (y/4294967296))/4294967296<18446744073709551616:=by omega
 go_enter Tryz.func219,Tryz.ntmps219;go_wp2;simp only[MulX.maskN x hx,MulX.maskN y hy,MulX.divN,MulX.mulN,MulX.addN,MulX.wrapN _ bd,MulX.wrapN _ bb',MulX.wrapN _ bt,MulX.maskN _ bt,MulX.wrapN _ bc',MulX.wrapN _ bw,MulX.wrapN _ ba',MulX.wrapN _ bh1,MulX.wrapN _ bh,MulX.wrapM (x*y)];rw[hhi];go_ret2
 exact⟨rfl,rfl⟩
def aU (v:Nat):Nat:=if v=0 then 0 else Nat.log2 v+1
theorem oz (v:Nat):v<2^aU v:=by
 unfold aU;split
 . subst v;simp
 . exact Nat.lt_log2_self
theorem iJ {v k:Nat}(h:v<2^k):aU v<=k:=by
 unfold aU;split
 . omega
 . rename_i h0;have:=(Nat.log2_lt h0).2 h;omega
theorem Dp {v:Nat}(h:0<v):0<aU v:=by unfold aU;split<;>omega
theorem Dn {v k:Nat}(h:2^k<=v):k<aU v:=by
 rcases Nat.lt_or_ge k (aU v)with h1|h1
 . exact h1
 . have:=oz v;have:=Nat.pow_le_pow_right (show 0<2 by decide) h1;omega
theorem adi (x:Nat)(h:x<18446744073709551616):Lib.bitLen x=aU x:=by
 by_cases h0:x=0
 . subst h0;rfl
 . obtain⟨h1,h2,h3⟩:=Lib.bitLenAux_bounds 64 x h h0;have e:Lib.bitLen x=Lib.bitLenAux 64 x:=rfl;rw[e];have a:=iJ h3;have b:=Dn h2;omega
theorem ahA (x:Nat)(w:World)(h:x<WW):
 Calls Tryz.prog 204 #[.int .u64 x] w λe w'=>e=.returned (.int .i64 (aU x))/\w=w':=by
 rw[il]at h;refine(ahB x w zo zo).mono ?_;rintro e w' ⟨rfl,rfl⟩;rw[Int.toNat_natCast,adi x h];exact⟨rfl,rfl⟩
theorem MG (x:Nat)(w:World)(h:x<WW):
 Calls Tryz.prog 174 #[.int .u64 x] w λe w'=>e=.returned (.int .i64 (64-aU x:Int))/\w=w':=by
 have hb:aU x<=64:=iJ (by rw[jo]at h;exact h);have Hx:=af h;clear h;go_enter Tryz.func174,Tryz.ntmps174;go_wp2_with (go_at_call 204;refine(ahA _ _ Hx.out).mono ?_;rintro e w' ⟨rfl,rfl⟩);go_ret;exact⟨rfl,rfl⟩
def au (w:World):Prop:=∀j,j<Lib.deBruijn64tab.length->w.cell? ⟨0,j,none⟩=some (.int .u8 (Lib.deBruijn64tab.getD j 0))
theorem au.below {w w':World}(h:au w)(hb:Bw w w'):au w':=λj hj=>cell_later hb (h j hj)
theorem kT {w w':World}(h:Hid (au w))(k:Bw w w'):Hid (au w'):=h.out.below k
theorem tz64_core (x k idx:Nat)(w:World)(hx0:((x:Int)==0)=false)
 (key:IntKind.u64.wrap (bits BinOp.and IntKind.u64 (x:Int) (IntKind.u64.wrap (-(x:Int))) *285870213051353865)/288230376151711744=(idx:Int))
 (hi:idx<64) (hk:k<64) (hcell:w.cell? ⟨0,idx,none⟩=some (.int .u8 k)):
 Calls Tryz.prog 117 #[.int .u64 x] w λe w'=>e=.returned (.int .i64 k)/\w=w':=by
 go_enter Tryz.func117,Tryz.ntmps117;go_wp2_with (simp only[key]);go_ret;exact⟨rfl,rfl⟩
theorem tz64_key (x a:Nat)(hx:x<18446744073709551616)(jd:x&&&(18446744073709551616-x)=a)(hx0:x≠0):
 IntKind.u64.wrap (bits BinOp.and IntKind.u64 (x:Int) (IntKind.u64.wrap (-(x:Int))) *285870213051353865)/288230376151711744=((a*285870213051353865%18446744073709551616/288230376151711744:Nat):Int):=by
 have e1:IntKind.u64.wrap (-(x:Int))=((18446744073709551616-x:Nat):Int):=by rw[IntKind.wrap_u64];omega
 rw[e1,bits_and_u64_nat x _ hx zo,jd,IntKind.wrap_u64];omega
theorem als (x:Nat)(hx:x<WW)(hx0:x≠0)(w:World)(hT:au w):
 Calls Tryz.prog 117 #[.int .u64 x] w λe w'=>e=.returned (.int .i64 (Lib.ctz 64 x))/\w=w':=by
 rw[il]at hx;obtain⟨jd,hk⟩:=Lib.lowest_bit 64 x hx0 hx;obtain⟨hi,ue⟩:=Lib.deBruijn64_at _ hk;have hcell:=hT _ hi;rw[ue]at hcell;exact tz64_core x _ _ w zi (tz64_key x _ hx jd hx0) hi hk hcell
theorem Rh (x:Nat)(hx:x<WW)(hx0:x≠0):∃m,x=2^Lib.ctz 64 x* (2*m+1)/\Lib.ctz 64 x<64:=by have:=Lib.ctzFrom_spec 64 x zo (by rw[jo]at hx;exact hx);unfold Lib.ctz;rw[if_neg hx0];exact this
theorem ju (b o n cap v:Nat)(w:World)(hm:n<=1099511627776)(hcap:n<=cap)(hc:cS w b o n v)(hv:v<WW^n):
 Calls Tryz.prog 166 #[.slice (some ⟨b,o,none⟩) n cap] w λe w'=>e=.returned (.slice (some ⟨b,o,none⟩) (ln v) cap)/\w=w':=by
 have Hc:=af hc;clear hc;have Hv:=af hv;clear hv;go_enter Tryz.func166,Tryz.ntmps166;go_wp2;go_loop [0] (λx=>∃k:Nat,k<=n/\v<WW^k/\x=.slice (some ⟨b,o,none⟩) k cap) (λx=>match x with| .slice _ k _=>k|_=>0)
 case atStart=>exact⟨n,Nat.le_refl _,Hv.out,rfl⟩
 case round=>
  obtain⟨k,hk,hvk,rfl⟩:=hrel;have kZ:=af hvk;clear hvk;by_cases h0:0<k
  . have hcell:w.cell? ⟨b,o+(k-1),none⟩=some (.int .u64 (dg v (k-1):Int)):=Hc.out _ zo;by_cases hd:dg v (k-1)=0
    . have hd':((dg v (k-1):Int)==0)=true:=by simp[hd]
      have Hd:=af hd;clear hd;go_wp2;refine⟨⟨k-1,by omega,?_,rfl⟩,by simp;omega⟩;refine alo ?_ Hd.out;rw[show k-1+1=k by omega];exact kZ.out
    . have hd':((dg v (k-1):Int)==0)=false:=by simp[hd]
      have Hd:=af hd;clear hd;go_wp2;go_ret;have e:ln v=k:=by have:=We (v:=v) (n:=k-1) (by rw[show k-1+1=k by omega];exact kZ.out) (Yi Hd.out);omega
      rw[e];exact⟨rfl,rfl⟩
  . obtain rfl:k=0:=by omega
    go_wp2;go_ret;have e:ln v=0:=by have:=kZ.out;simp at this;subst this;rfl
    rw[e];exact⟨rfl,rfl⟩
theorem Ri (cap:Nat)(a:Option Addr)(w:World):
 Calls Tryz.prog 166 #[.slice a 0 cap] w λe w'=>e=.returned (.slice a 0 cap)/\w=w':=by
 go_enter Tryz.func166,Tryz.ntmps166;go_wp2;refine wp_loop_rounds 1 ?_;rw[rounds_succ];go_wp2;go_ret;exact⟨rfl,rfl⟩
def eU (F:Nat->Nat)(o k:Nat)(G:Nat->Nat)(j:Nat):Nat:=if o<=j/\j<o+k then G (j-o)else F j
theorem Nc (F:Nat->Nat)(o:Nat)(G:Nat->Nat):eU F o 0 G=F:=by funext j;unfold eU;rw[if_neg zo]
theorem Na (F:Nat->Nat)(o k:Nat)(G:Nat->Nat)(j:Nat)(h:k<=j):eU F o k G (o+j)=F (o+j):=by unfold eU;rw[if_neg zo]
theorem BZ (F:Nat->Nat)(o k:Nat)(G:Nat->Nat)(j:Nat)(h:j<k):eU F o k G (o+j)=G j:=by unfold eU;rw[if_pos zo];congr 1;omega
theorem Nb (N:Nat)(F:Nat->Nat)(o i:Nat)(G:Nat->Nat)(x:Nat)(hx:x=G i):
 (aS N (eU F o i G)).set (o+i) (.int .u64 (x:Int))=aS N (eU F o (i+1) G):=by
 rw[yJ];refine iU λj _=>?_;unfold eU;by_cases h:j=o+i
 . subst h;rw[if_pos rfl,if_pos zo,hx];congr 1;omega
 . rw[if_neg h];by_cases h2:o<=j/\j<o+i
   . rw[if_pos h2,if_pos zo]
   . rw[if_neg h2,if_neg zo]
theorem ahx (b N o n fK:Nat)(F:Nat->Nat)(v:Nat)(b2 o2 m cap2 u:Nat)(w:World)(hm:n<=1099511627776)(Qt:m<=1099511627776)
 (hB:ag w b 107 (aS N F)) (hN:o+n<=N) (hF:∀j,j<n->F (o+j)=dg v j)
 (hy:cS w b2 o2 m u) (hu:u<WW^m) (hne:b2≠b):
 Calls Tryz.prog 195 #[.slice (some ⟨b,o,none⟩) n fK,.slice (some ⟨b2,o2,none⟩) m cap2] w λe w'=>e=.returned (.tuple #[])/\
  ag w' b 107 (aS N (eU F o n (dg (v+u))))/\w.grownBy w' (some b):=by
 have HB:=af hB;clear hB;have HF:=af hF;clear hF;have Hy:=af hy;clear hy;have Hu:=af hu;clear hu;go_enter Tryz.func195,Tryz.ntmps195;go_wp2;go_loopw[4,5,6,9] (λc _ _ i wr=>∃k:Nat,k<=n/\i=.int .i64 k/\c=.int .u64 (cy v u 1 k:Int)/\ag wr b 107 (aS N (eU F o k (dg (v+u))))/\w.grownBy wr (some b)) (λ_ _ _ i _=>n-(intOf i).toNat);case atStart=>exact⟨0,Nat.zero_le _,rfl,by rw[Rk];rfl,by rw[Nc];exact HB.out,grownBy_refl _ _⟩
 case round=>
  obtain⟨k,hk,rfl,rfl,iy,hg⟩:=hrel;by_cases hlt:k<n
  . have hcell:wr.cell? ⟨b,o+k,none⟩=some (.int .u64 (dg v k:Int)):=by rw[iy.cell,fe _ _ _ zo,Na _ _ _ _ _ (Nat.le_refl _),HF.out k hlt]
    have hfree:wr.frozen? ⟨b,o+k,none⟩=false:=iy.free _;have hstep:=Rj v u 1 k;have tQ:cy v u 1 k<=1:=by
     unfold cy;have h1:=Nat.mod_lt v (df k);have h2:=Nat.mod_lt u (df k);have:(v%WW^k+u%WW^k*1)/WW^k<2:=by rw[Nat.div_lt_iff_lt_mul (df k)];omega
     omega
    have hrun:=λW=>Jv (dg v k) (dg u k) (cy v u 1 k) (ir _ _) (ir _ _) tQ W;have e1:(dg v k+dg u k+cy v u 1 k)%WW=dg (v+u) k:=by have:=hstep.1;simp only[Nat.mul_one]at this;exact this
    have e2:(dg v k+dg u k+cy v u 1 k)/WW=cy v u 1 (k+1):=by have:=hstep.2;simp only[Nat.mul_one]at this;exact this
    rw[e1,e2]at hrun;clear hstep e1 e2;have dU:Hid (ag (wr.setCell ⟨b,o+k,none⟩ (.int .u64 (dg (v+u) k:Int))) b 107 (aS N (eU F o (k+1) (dg (v+u))))):=by rw[<-Nb N F o k (dg (v+u)) _ rfl];exact iy.set _ _
    have Hg:Hid (w.grownBy (wr.setCell ⟨b,o+k,none⟩ (.int .u64 (dg (v+u) k:Int))) (some b)):=grownBy_trans hg (grownBy_set b rfl _);clear iy;by_cases oY:k<m
    . have Er:wr.cell? ⟨b2,o2+k,none⟩=some (.int .u64 (dg u k:Int)):=eX hg (Hy.out k oY) zi;clear hg;go_wp2;go_roundw;case rel=>exact⟨k+1,by omega,by go_num,rfl,dU.out,Hg.out⟩
      case measure=>simp[intOf];omega
    . have hz:dg u k=0:=pP Hu.out zo;simp only[hz,show((0:Nat):Int)=0 from rfl]at hrun;clear hg hz;go_wp2;go_roundw;case rel=>exact⟨k+1,by omega,by go_num,rfl,dU.out,Hg.out⟩
      case measure=>simp[intOf];omega
  . obtain rfl:k=n:=by omega
    have dU:=af iy;clear iy;have Hg:=af hg;clear hg;go_wp2;go_end0
    exact⟨rfl,dU.out,Hg.out⟩
theorem BP (b N o n fK:Nat)(F:Nat->Nat)(v:Nat)(b2 o2 m cap2 u:Nat)(w:World)(hm:n<=1099511627776)(Qt:m<=1099511627776)
 (hB:ag w b 107 (aS N F)) (hN:o+n<=N) (hF:∀j,j<n->F (o+j)=dg v j)
 (hy:cS w b2 o2 m u) (hu:u<WW^m) (hne:b2≠b) (rY:u<=v) (hv:v<WW^n):
 Calls Tryz.prog 198 #[.slice (some ⟨b,o,none⟩) n fK,.slice (some ⟨b2,o2,none⟩) m cap2] w λe w'=>e=.returned (.bool true)/\
  ag w' b 107 (aS N (eU F o n (dg (v-u))))/\w.grownBy w' (some b):=by
 have HB:=af hB;clear hB;have HF:=af hF;clear hF;have Hy:=af hy;clear hy;have Hu:=af hu;clear hu;have Hv:=af hv;clear hv;have zW:=af rY;clear rY;go_enter Tryz.func198,Tryz.ntmps198;go_wp2;go_loopw[5,6,7,10] (λc _ _ i wr=>∃k:Nat,k<=n/\i=.int .i64 k/\c=.int .u64 (bw v u k:Int)/\ag wr b 107 (aS N (eU F o k (dg (v-u))))/\w.grownBy wr (some b)) (λ_ _ _ i _=>n-(intOf i).toNat);case atStart=>exact⟨0,Nat.zero_le _,rfl,by rw[adF];rfl,by rw[Nc];exact HB.out,grownBy_refl _ _⟩
 case round=>
  obtain⟨k,hk,rfl,rfl,iy,hg⟩:=hrel;by_cases hlt:k<n
  . have hcell:wr.cell? ⟨b,o+k,none⟩=some (.int .u64 (dg v k:Int)):=by rw[iy.cell,fe _ _ _ zo,Na _ _ _ _ _ (Nat.le_refl _),HF.out k hlt]
    have hfree:wr.frozen? ⟨b,o+k,none⟩=false:=iy.free _;have hrun:=λW=>ak0 (dg v k) (dg u k) (bw v u k) (QQ _ _ _) W;rw[adD v u k zW.out,<-adE v u k]at hrun;have dU:Hid (ag (wr.setCell ⟨b,o+k,none⟩ (.int .u64 (dg (v-u) k:Int))) b 107 (aS N (eU F o (k+1) (dg (v-u))))):=by rw[<-Nb N F o k (dg (v-u)) _ rfl];exact iy.set _ _
    have Hg:Hid (w.grownBy (wr.setCell ⟨b,o+k,none⟩ (.int .u64 (dg (v-u) k:Int))) (some b)):=grownBy_trans hg (grownBy_set b rfl _);clear iy;by_cases oY:k<m
    . have Er:wr.cell? ⟨b2,o2+k,none⟩=some (.int .u64 (dg u k:Int)):=eX hg (Hy.out k oY) zi;clear hg;go_wp2;go_roundw;case rel=>exact⟨k+1,by omega,by go_num,rfl,dU.out,Hg.out⟩
      case measure=>simp[intOf];omega
    . have hz:dg u k=0:=pP Hu.out zo;simp only[hz,show((0:Nat):Int)=0 from rfl]at hrun;clear hg hz;go_wp2;go_roundw;case rel=>exact⟨k+1,by omega,by go_num,rfl,dU.out,Hg.out⟩
      case measure=>simp[intOf];omega
  . obtain rfl:k=n:=by omega
    have dU:=af iy;clear iy;have Hg:=af hg;clear hg;have hb0:bw v u k=0:=by unfold bw;rw[Nat.mod_eq_of_lt Hv.out,Nat.mod_eq_of_lt (Nat.lt_of_le_of_lt zW.out Hv.out),if_neg (by have:=zW.out;omega)]
    rw[hb0];have hb1:(((0:Nat):Int)==0)=true:=rfl;clear hb0;go_wp2;go_ret;exact⟨rfl,dU.out,Hg.out⟩
theorem ajP (x p c0:Nat):(x+(p%WW+c0+0)%WW+0)%WW=(x+p+c0)%WW/\p/WW+(p%WW+c0+0)/WW+(x+(p%WW+c0+0)%WW+0)/WW=(x+p+c0)/WW:=by rw[il];omega
theorem ajN (x d m c:Nat)(hx:x<WW)(hd:d<WW)(hm:m<WW)(hc:c<WW):(x+d*m+c)/WW<WW:=by
 rw[Nat.div_lt_iff_lt_mul iq];have h1:d*m<=(WW-1) * (WW-1):=Nat.mul_le_mul zo zo;have:(WW-1) * (WW-1)+(WW-1)+(WW-1)<WW*WW:=by decide
 omega
theorem Yo (a b:Nat)(h:a+b<WW):IntKind.u64.wrap ((a:Int)+(b:Int))=((a+b:Nat):Int):=by rw[il]at h;rw[IntKind.wrap_u64];omega
theorem Ff (b N o n fK:Nat)(F:Nat->Nat)(v:Nat)(b2 o2 m cap2 u q:Nat)(w:World)(hm:n<=1099511627776)(Qt:m<=1099511627776)
 (hB:ag w b 107 (aS N F)) (hN:o+n<=N) (hF:∀j,j<n->F (o+j)=dg v j)
 (hy:cS w b2 o2 m u) (hu:u<WW^m) (hne:b2≠b) (hq:q<WW):
 Calls Tryz.prog 205 #[.slice (some ⟨b,o,none⟩) n fK,.slice (some ⟨b2,o2,none⟩) m cap2,.int .u64 (q:Int)] w λe w'=>e=.returned (.tuple #[])/\
  ag w' b 107 (aS N (eU F o n (dg (v+u*q))))/\w.grownBy w' (some b):=by
 have HB:=af hB;clear hB;have HF:=af hF;clear hF;have Hy:=af hy;clear hy;have Hu:=af hu;clear hu;have Hq:=af hq;clear hq;go_enter Tryz.func205,Tryz.ntmps205;go_wp2;go_loopw[6,7,8,9,10,11,14] (λc _ _ _ _ _ i wr=>∃k:Nat,k<=n/\i=.int .i64 k/\c=.int .u64 (cy v u q k:Int)/\ag wr b 107 (aS N (eU F o k (dg (v+u*q))))/\w.grownBy wr (some b)) (λ_ _ _ _ _ _ i _=>n-(intOf i).toNat);case atStart=>exact⟨0,Nat.zero_le _,rfl,by rw[Rk];rfl,by rw[Nc];exact HB.out,grownBy_refl _ _⟩
 case round=>
  obtain⟨k,hk,rfl,rfl,iy,hg⟩:=hrel;by_cases hlt:k<n
  . have hcell:wr.cell? ⟨b,o+k,none⟩=some (.int .u64 (dg v k:Int)):=by rw[iy.cell,fe _ _ _ zo,Na _ _ _ _ _ (Nat.le_refl _),HF.out k hlt]
    have hfree:wr.frozen? ⟨b,o+k,none⟩=false:=iy.free _;have hcl:=aei v u q k Hq.out;have hs:=ajP (dg v k) (dg u k*q) (cy v u q k);have hl:=ajN (dg v k) (dg u k) q (cy v u q k) (ir _ _) (ir _ _) Hq.out hcl;have hstep:=Rj v u q k;rw[hstep.1,hstep.2]at hs;rw[hstep.2,<-hs.2]at hl;have EI:=λW=>aiH (dg u k) q (ir _ _) Hq.out W;have r1:=λW=>Jv (dg u k*q%WW) (cy v u q k) 0 (Nat.mod_lt _ iq) hcl zo W;have r2:=λW=>Jv (dg v k) ((dg u k*q%WW+cy v u q k+0)%WW) 0 (ir _ _) (Nat.mod_lt _ iq) zo W;rw[hs.1]at r2;have xt:=af hs.2;clear hs hstep hcl;generalize (dg u k*q%WW+cy v u q k+0)%WW=Wi at*;generalize (dg u k*q%WW+cy v u q k+0)/WW=c1 at*;generalize (dg v k+Wi+0)/WW=c2 at*;generalize dg u k*q/WW=hi at*;generalize dg u k*q%WW=lo at*;have s1:=Yo hi c1 zo;have s2:=Yo (hi+c1) c2 hl;have IE:=af EI;clear hl EI;simp only[show((0:Nat):Int)=0 from rfl]at r1 r2;have dU:Hid (ag (wr.setCell ⟨b,o+k,none⟩ (.int .u64 (dg (v+u*q) k:Int))) b 107 (aS N (eU F o (k+1) (dg (v+u*q))))):=by rw[<-Nb N F o k (dg (v+u*q)) _ rfl];exact iy.set _ _
    have Hg:Hid (w.grownBy (wr.setCell ⟨b,o+k,none⟩ (.int .u64 (dg (v+u*q) k:Int))) (some b)):=grownBy_trans hg (grownBy_set b rfl _);clear iy;by_cases oY:k<m
    . have Er:wr.cell? ⟨b2,o2+k,none⟩=some (.int .u64 (dg u k:Int)):=eX hg (Hy.out k oY) zi;clear hg;go_wp2_with (go_at_call 219;refine(IE.out _).mono ?_;rintro e w' ⟨rfl,rfl⟩);go_roundw;case rel=>exact⟨k+1,by omega,by go_num,by rw[<-xt.out,<-s2,Int.natCast_add],dU.out,Hg.out⟩
      case measure=>simp[intOf];omega
    . have hz:dg u k=0:=pP Hu.out zo;have aaX:Hid (∀W,Calls Tryz.prog 219 #[.int .u64 0,.int .u64 (q:Int)] W λe w'=>e=.returned (.tuple #[.int .u64 (hi:Int),.int .u64 (lo:Int)])/\W=w'):=by have:=IE.out;simp only[hz,show((0:Nat):Int)=0 from rfl]at this;exact this
      clear hg hz IE;go_wp2_with (go_at_call 219;refine(aaX.out _).mono ?_;rintro e w' ⟨rfl,rfl⟩);go_roundw;case rel=>exact⟨k+1,by omega,by go_num,by rw[<-xt.out,<-s2,Int.natCast_add],dU.out,Hg.out⟩
      case measure=>simp[intOf];omega
  . obtain rfl:k=n:=by omega
    have dU:=af iy;clear iy;have Hg:=af hg;clear hg;go_wp2;go_end0
    exact⟨rfl,dU.out,Hg.out⟩
end Go.Proofs.YtoopepmmepmfnaaGreatDoor
