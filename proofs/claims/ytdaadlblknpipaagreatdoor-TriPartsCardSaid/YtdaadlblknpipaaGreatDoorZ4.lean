/- math/bits: what the calls answer (the walks are the guide's own,turned to this program). -/
import Derived.Test.YtdaadlblknpipaaGreatDoorZ2
import Derived.Test.YtdaadlblknpipaaGreatDoorZ3
import Derived.Lib.BitFns
import Derived.Lib.ItoaNum
import Derived.Lib.TrailingZeros
import Derived.Lib.Mul64
import Derived.Laws.Bits64b
set_option linter.unusedVariables false
set_option linter.unusedSimpArgs false
set_option maxRecDepth 100000
set_option maxHeartbeats 16000000
namespace Go.Proofs.YtdaadlblknpipaaGreatDoor
open Go.RowKit
theorem JU (x y c:Nat)(hx:x<WW)(hy:y<WW)(hc:c<=1)(w:World):
 (callFunc 181 #[.int .u64 x,.int .u64 y,.int .u64 c]).run Tryz.prog w=
  .ok (.value (.tuple #[.int .u64 (((x+y+c)%WW:Nat):Int),.int .u64 (((x+y+c)/WW:Nat):Int)])) w:=by
 rw[iN]at*;rw[run_callFunc_extern Tryz.func181 zk zk zk (e:=add64Entry) zk,run_add64 x y c zo zo zo zo];simp only[Result.andThen];congr 5<;>omega
def Xk :Array Value->Sem Value:=λargs=>do
 let (x,y,b)<-Extern.MathBitsCarry.three "Sub64" args
 pure (Extern.MathBitsCarry.pair ((x+Extern.MathBitsCarry.m64-y-b)%Extern.MathBitsCarry.m64) (if x<y+b then 1 else 0))
theorem ajo (x y b:Nat)(hb:b<=1)(w:World):
 (Xk #[.int .u64 x,.int .u64 y,.int .u64 b]).run Tryz.prog w=
  .ok (.tuple #[.int .u64 (((x+18446744073709551616-y-b)%18446744073709551616:Nat):Int),.int .u64 ((if x<y+b then 1 else 0:Nat):Int)]) w:=by
 have:b=0\/b=1:=by omega
 rcases this with rfl|rfl<;>rfl
theorem ajP (x y b:Nat)(hb:b<=1)(w:World):
 (callFunc 186 #[.int .u64 x,.int .u64 y,.int .u64 b]).run Tryz.prog w=
  .ok (.value (.tuple #[.int .u64 (((x+WW-y-b)%WW:Nat):Int),.int .u64 ((if x<y+b then 1 else 0:Nat):Int)])) w:=by
 rw[run_callFunc_extern Tryz.func186 zk zk zk (e:=Xk) zk,ajo x y b hb];rfl
namespace MulX
theorem maskN (a:Nat)(ha:a<18446744073709551616):bits .and .u64 (a:Int) 4294967295=((a%4294967296:Nat):Int):=by have h:=bits_and_u64_nat a 4294967295 ha zo;have e:a&&&4294967295=a%4294967296:=Nat.and_two_pow_sub_one_eq_mod a 32;rw[e]at h;exact h
theorem divN (a:Nat):(a:Int)/4294967296=((a/4294967296:Nat):Int):=by omega
theorem mulN (a b:Nat):(a:Int) * (b:Int)=((a*b:Nat):Int):=(Int.natCast_mul a b).symm
theorem addN (a b:Nat):(a:Int)+(b:Int)=((a+b:Nat):Int):=(Int.natCast_add a b).symm
theorem wrapN (a:Nat)(ha:a<18446744073709551616):IntKind.u64.wrap (a:Int)=(a:Int):=by rw[IntKind.wrap_u64];omega
theorem wrapM (a:Nat):IntKind.u64.wrap (a:Int)=((a%18446744073709551616:Nat):Int):=by rw[IntKind.wrap_u64];omega
end MulX
theorem ag6 (x y:Nat)(hx:x<WW)(hy:y<WW)(w:World):
 Calls Tryz.prog 180 #[.int .u64 x,.int .u64 y] w λe w'=>e=.returned (.tuple #[.int .u64 ((x*y/WW:Nat):Int),.int .u64 ((x*y%WW:Nat):Int)])/\w=w':=by
 rw[iN]at*;obtain⟨bd,bt,bw,hhi⟩:=Lib.mul64_hi x y hx hy;have ba:=Lib.half_mul_le (a:=x/4294967296) (b:=y/4294967296) zo zo;have bb:=Lib.half_mul_le (a:=x/4294967296) (b:=y%4294967296) zo zo;have bc:=Lib.half_mul_le (a:=x%4294967296) (b:=y/4294967296) zo zo;have ba':x/4294967296* (y/4294967296)<18446744073709551616:=by omega
 have bb':x/4294967296* (y%4294967296)<18446744073709551616:=by omega
 have bc':x%4294967296* (y/4294967296)<18446744073709551616:=by omega
 have bh1:x/4294967296* (y/4294967296)+(x/4294967296* (y%4294967296)+x%4294967296* (y%4294967296)/4294967296)/4294967296<18446744073709551616:=by omega
 have bh:x/4294967296* (y/4294967296)+(x/4294967296* (y%4294967296)+x%4294967296* (y%4294967296)/4294967296)/4294967296+((x/4294967296* (y%4294967296)+x%4294967296* (y%4294967296)/4294967296)%4294967296+x%4294967296* (y/4294967296))/4294967296<18446744073709551616:=by omega
 go_enter Tryz.func180,Tryz.ntmps180;go_wp2;simp only[MulX.maskN x hx,MulX.maskN y hy,MulX.divN,MulX.mulN,MulX.addN,MulX.wrapN _ bd,MulX.wrapN _ bb',MulX.wrapN _ bt,MulX.maskN _ bt,MulX.wrapN _ bc',MulX.wrapN _ bw,MulX.wrapN _ ba',MulX.wrapN _ bh1,MulX.wrapN _ bh,MulX.wrapM (x*y)];rw[hhi];go_ret2
 exact⟨rfl,rfl⟩
def bu (v:Nat):Nat:=if v=0 then 0 else Nat.log2 v+1
theorem nS (v:Nat):v<2^bu v:=by
 unfold bu;split
 . subst v;simp
 . exact Nat.lt_log2_self
theorem fO {v k:Nat}(h:v<2^k):bu v<=k:=by
 unfold bu;split
 . omega
 . rename_i h0;have:=(Nat.log2_lt h0).2 h;omega
theorem Bf {v:Nat}(h:0<v):0<bu v:=by unfold bu;split<;>omega
theorem Ew {v k:Nat}(h:2^k<=v):k<bu v:=by
 rcases Nat.lt_or_ge k (bu v)with h1|h1
 . exact h1
 . have:=nS v;have:=Nat.pow_le_pow_right (show 0<2 by decide) h1;omega
theorem ab3 (x:Nat)(h:x<18446744073709551616):Lib.bitLen x=bu x:=by
 by_cases h0:x=0
 . subst h0;rfl
 . obtain⟨h1,h2,h3⟩:=Lib.bitLenAux_bounds 64 x h h0;have e:Lib.bitLen x=Lib.bitLenAux 64 x:=rfl;rw[e];have a:=fO h3;have b:=Ew h2;omega
theorem age (x:Nat)(w:World)(h:x<WW):
 Calls Tryz.prog 187 #[.int .u64 x] w λe w'=>e=.returned (.int .i64 (bu x))/\w=w':=by
 rw[iN]at h;refine(agf x w zo zo).mono ?_;rintro e w' ⟨rfl,rfl⟩;rw[Int.toNat_natCast,ab3 x h];exact⟨rfl,rfl⟩
theorem ML (x:Nat)(w:World)(h:x<WW):
 Calls Tryz.prog 177 #[.int .u64 x] w λe w'=>e=.returned (.int .i64 (64-bu x:Int))/\w=w':=by
 have hb:bu x<=64:=fO (by rw[jN]at h;exact h);have Hx:=ah h;clear h;go_enter Tryz.func177,Tryz.ntmps177;go_wp2_with (go_at_call 187;refine(age _ _ Hx.out).mono ?_;rintro e w' ⟨rfl,rfl⟩);go_ret;exact⟨rfl,rfl⟩
def aF (w:World):Prop:=∀j,j<Lib.deBruijn64tab.length->w.cell? ⟨0,j,none⟩=some (.int .u8 (Lib.deBruijn64tab.getD j 0))
theorem aF.below {w w':World}(h:aF w)(hb:Bw w w'):aF w':=λj hj=>cell_later hb (h j hj)
theorem kT {w w':World}(h:Hid (aF w))(k:Bw w w'):Hid (aF w'):=h.out.below k
theorem tz64_core (x k idx:Nat)(w:World)(hx0:((x:Int)==0)=false)
 (key:IntKind.u64.wrap (bits BinOp.and IntKind.u64 (x:Int) (IntKind.u64.wrap (-(x:Int))) *285870213051353865)/288230376151711744=(idx:Int))
 (hi:idx<64) (hk:k<64) (hcell:w.cell? ⟨0,idx,none⟩=some (.int .u8 k)):
 Calls Tryz.prog 142 #[.int .u64 x] w λe w'=>e=.returned (.int .i64 k)/\w=w':=by
 go_enter Tryz.func142,Tryz.ntmps142;go_wp2_with (simp only[key]);go_ret;exact⟨rfl,rfl⟩
theorem tz64_key (x a:Nat)(hx:x<18446744073709551616)(ji:x&&&(18446744073709551616-x)=a)(hx0:x≠0):
 IntKind.u64.wrap (bits BinOp.and IntKind.u64 (x:Int) (IntKind.u64.wrap (-(x:Int))) *285870213051353865)/288230376151711744=((a*285870213051353865%18446744073709551616/288230376151711744:Nat):Int):=by
 have e1:IntKind.u64.wrap (-(x:Int))=((18446744073709551616-x:Nat):Int):=by rw[IntKind.wrap_u64];omega
 rw[e1,bits_and_u64_nat x _ hx zo,ji,IntKind.wrap_u64];omega
theorem akc (x:Nat)(hx:x<WW)(hx0:x≠0)(w:World)(hT:aF w):
 Calls Tryz.prog 142 #[.int .u64 x] w λe w'=>e=.returned (.int .i64 (Lib.ctz 64 x))/\w=w':=by
 rw[iN]at hx;obtain⟨ji,hk⟩:=Lib.lowest_bit 64 x hx0 hx;obtain⟨hi,oh⟩:=Lib.deBruijn64_at _ hk;have hcell:=hT _ hi;rw[oh]at hcell;exact tz64_core x _ _ w zi (tz64_key x _ hx ji hx0) hi hk hcell
theorem QY (x:Nat)(hx:x<WW)(hx0:x≠0):∃m,x=2^Lib.ctz 64 x* (2*m+1)/\Lib.ctz 64 x<64:=by have:=Lib.ctzFrom_spec 64 x zo (by rw[jN]at hx;exact hx);unfold Lib.ctz;rw[if_neg hx0];exact this
theorem jQ (b o n cap v:Nat)(w:World)(hm:n<=1099511627776)(hcap:n<=cap)(hc:dx w b o n v)(hv:v<WW^n):
 Calls Tryz.prog 165 #[.slice (some ⟨b,o,none⟩) n cap] w λe w'=>e=.returned (.slice (some ⟨b,o,none⟩) (ln v) cap)/\w=w':=by
 have Hc:=ah hc;clear hc;have Hv:=ah hv;clear hv;go_enter Tryz.func165,Tryz.ntmps165;go_wp2;go_loop [0] (λx=>∃k:Nat,k<=n/\v<WW^k/\x=.slice (some ⟨b,o,none⟩) k cap) (λx=>match x with| .slice _ k _=>k|_=>0)
 case atStart=>exact⟨n,Nat.le_refl _,Hv.out,rfl⟩
 case round=>
  obtain⟨k,hk,hvk,rfl⟩:=hrel;have lR:=ah hvk;clear hvk;by_cases h0:0<k
  . have hcell:w.cell? ⟨b,o+(k-1),none⟩=some (.int .u64 (dg v (k-1):Int)):=Hc.out _ zo;by_cases hd:dg v (k-1)=0
    . have hd':((dg v (k-1):Int)==0)=true:=by simp[hd]
      have Hd:=ah hd;clear hd;go_wp2;refine⟨⟨k-1,by omega,?_,rfl⟩,by simp;omega⟩;refine aj8 ?_ Hd.out;rw[show k-1+1=k by omega];exact lR.out
    . have hd':((dg v (k-1):Int)==0)=false:=by simp[hd]
      have Hd:=ah hd;clear hd;go_wp2;go_ret;have e:ln v=k:=by have:=Vx (v:=v) (n:=k-1) (by rw[show k-1+1=k by omega];exact lR.out) (Xr Hd.out);omega
      rw[e];exact⟨rfl,rfl⟩
  . obtain rfl:k=0:=by omega
    go_wp2;go_ret;have e:ln v=0:=by have:=lR.out;simp at this;subst this;rfl
    rw[e];exact⟨rfl,rfl⟩
theorem QZ (cap:Nat)(a:Option Addr)(w:World):
 Calls Tryz.prog 165 #[.slice a 0 cap] w λe w'=>e=.returned (.slice a 0 cap)/\w=w':=by
 go_enter Tryz.func165,Tryz.ntmps165;go_wp2;refine wp_loop_rounds 1 ?_;rw[rounds_succ];go_wp2;go_ret;exact⟨rfl,rfl⟩
def fE (F:Nat->Nat)(o k:Nat)(G:Nat->Nat)(j:Nat):Nat:=if o<=j/\j<o+k then G (j-o)else F j
theorem Nk (F:Nat->Nat)(o:Nat)(G:Nat->Nat):fE F o 0 G=F:=by funext j;unfold fE;rw[if_neg zo]
theorem Ni (F:Nat->Nat)(o k:Nat)(G:Nat->Nat)(j:Nat)(h:k<=j):fE F o k G (o+j)=F (o+j):=by unfold fE;rw[if_neg zo]
theorem CS (F:Nat->Nat)(o k:Nat)(G:Nat->Nat)(j:Nat)(h:j<k):fE F o k G (o+j)=G j:=by unfold fE;rw[if_pos zo];congr 1;omega
theorem Nj (N:Nat)(F:Nat->Nat)(o i:Nat)(G:Nat->Nat)(x:Nat)(hx:x=G i):
 (bz N (fE F o i G)).set (o+i) (.int .u64 (x:Int))=bz N (fE F o (i+1) G):=by
 rw[zG];refine jp λj _=>?_;unfold fE;by_cases h:j=o+i
 . subst h;rw[if_pos rfl,if_pos zo,hx];congr 1;omega
 . rw[if_neg h];by_cases h2:o<=j/\j<o+i
   . rw[if_pos h2,if_pos zo]
   . rw[if_neg h2,if_neg zo]
theorem af9 (b N o n gb:Nat)(F:Nat->Nat)(v:Nat)(b2 o2 m cap2 u:Nat)(w:World)(hm:n<=1099511627776)(Qu:m<=1099511627776)
 (hB:ai w b 142 (bz N F)) (hN:o+n<=N) (hF:∀j,j<n->F (o+j)=dg v j)
 (hy:dx w b2 o2 m u) (hu:u<WW^m) (hne:b2≠b):
 Calls Tryz.prog 172 #[.slice (some ⟨b,o,none⟩) n gb,.slice (some ⟨b2,o2,none⟩) m cap2] w λe w'=>e=.returned (.tuple #[])/\
  ai w' b 142 (bz N (fE F o n (dg (v+u))))/\w.grownBy w' (some b):=by
 have HB:=ah hB;clear hB;have HF:=ah hF;clear hF;have Hy:=ah hy;clear hy;have Hu:=ah hu;clear hu;go_enter Tryz.func172,Tryz.ntmps172;go_wp2;go_loopw[4,5,6,9] (λc _ _ i wr=>∃k:Nat,k<=n/\i=.int .i64 k/\c=.int .u64 (cy v u 1 k:Int)/\ai wr b 142 (bz N (fE F o k (dg (v+u))))/\w.grownBy wr (some b)) (λ_ _ _ i _=>n-(intOf i).toNat);case atStart=>exact⟨0,Nat.zero_le _,rfl,by rw[Rb];rfl,by rw[Nk];exact HB.out,grownBy_refl _ _⟩
 case round=>
  obtain⟨k,hk,rfl,rfl,iR,hg⟩:=hrel;by_cases hlt:k<n
  . have hcell:wr.cell? ⟨b,o+k,none⟩=some (.int .u64 (dg v k:Int)):=by rw[iR.cell,fL _ _ _ zo,Ni _ _ _ _ _ (Nat.le_refl _),HF.out k hlt]
    have hfree:wr.frozen? ⟨b,o+k,none⟩=false:=iR.free _;have hstep:=Ra v u 1 k;have ua:cy v u 1 k<=1:=by
     unfold cy;have h1:=Nat.mod_lt v (dH k);have h2:=Nat.mod_lt u (dH k);have:(v%WW^k+u%WW^k*1)/WW^k<2:=by rw[Nat.div_lt_iff_lt_mul (dH k)];omega
     omega
    have hrun:=λW=>JU (dg v k) (dg u k) (cy v u 1 k) (iP _ _) (iP _ _) ua W;have e1:(dg v k+dg u k+cy v u 1 k)%WW=dg (v+u) k:=by have:=hstep.1;simp only[Nat.mul_one]at this;exact this
    have e2:(dg v k+dg u k+cy v u 1 k)/WW=cy v u 1 (k+1):=by have:=hstep.2;simp only[Nat.mul_one]at this;exact this
    rw[e1,e2]at hrun;clear hstep e1 e2;have dU:Hid (ai (wr.setCell ⟨b,o+k,none⟩ (.int .u64 (dg (v+u) k:Int))) b 142 (bz N (fE F o (k+1) (dg (v+u))))):=by rw[<-Nj N F o k (dg (v+u)) _ rfl];exact iR.set _ _
    have Hg:Hid (w.grownBy (wr.setCell ⟨b,o+k,none⟩ (.int .u64 (dg (v+u) k:Int))) (some b)):=grownBy_trans hg (grownBy_set b rfl _);clear iR;by_cases sA:k<m
    . have Fv:wr.cell? ⟨b2,o2+k,none⟩=some (.int .u64 (dg u k:Int)):=bO hg (Hy.out k sA) zi;clear hg;go_wp2;go_roundw;case rel=>exact⟨k+1,by omega,by go_num,rfl,dU.out,Hg.out⟩
      case measure=>simp[intOf];omega
    . have hz:dg u k=0:=qh Hu.out zo;simp only[hz,show((0:Nat):Int)=0 from rfl]at hrun;clear hg hz;go_wp2;go_roundw;case rel=>exact⟨k+1,by omega,by go_num,rfl,dU.out,Hg.out⟩
      case measure=>simp[intOf];omega
  . obtain rfl:k=n:=by omega
    have dU:=ah iR;clear iR;have Hg:=ah hg;clear hg;go_wp2;go_end0
    exact⟨rfl,dU.out,Hg.out⟩
theorem CL (b N o n gb:Nat)(F:Nat->Nat)(v:Nat)(b2 o2 m cap2 u:Nat)(w:World)(hm:n<=1099511627776)(Qu:m<=1099511627776)
 (hB:ai w b 142 (bz N F)) (hN:o+n<=N) (hF:∀j,j<n->F (o+j)=dg v j)
 (hy:dx w b2 o2 m u) (hu:u<WW^m) (hne:b2≠b) (sK:u<=v) (hv:v<WW^n):
 Calls Tryz.prog 175 #[.slice (some ⟨b,o,none⟩) n gb,.slice (some ⟨b2,o2,none⟩) m cap2] w λe w'=>e=.returned (.bool true)/\
  ai w' b 142 (bz N (fE F o n (dg (v-u))))/\w.grownBy w' (some b):=by
 have HB:=ah hB;clear hB;have HF:=ah hF;clear hF;have Hy:=ah hy;clear hy;have Hu:=ah hu;clear hu;have Hv:=ah hv;clear hv;have AQ:=ah sK;clear sK;go_enter Tryz.func175,Tryz.ntmps175;go_wp2;go_loopw[5,6,7,10] (λc _ _ i wr=>∃k:Nat,k<=n/\i=.int .i64 k/\c=.int .u64 (bw v u k:Int)/\ai wr b 142 (bz N (fE F o k (dg (v-u))))/\w.grownBy wr (some b)) (λ_ _ _ i _=>n-(intOf i).toNat);case atStart=>exact⟨0,Nat.zero_le _,rfl,by rw[aci];rfl,by rw[Nk];exact HB.out,grownBy_refl _ _⟩
 case round=>
  obtain⟨k,hk,rfl,rfl,iR,hg⟩:=hrel;by_cases hlt:k<n
  . have hcell:wr.cell? ⟨b,o+k,none⟩=some (.int .u64 (dg v k:Int)):=by rw[iR.cell,fL _ _ _ zo,Ni _ _ _ _ _ (Nat.le_refl _),HF.out k hlt]
    have hfree:wr.frozen? ⟨b,o+k,none⟩=false:=iR.free _;have hrun:=λW=>ajP (dg v k) (dg u k) (bw v u k) (QL _ _ _) W;rw[acg v u k AQ.out,<-ach v u k]at hrun;have dU:Hid (ai (wr.setCell ⟨b,o+k,none⟩ (.int .u64 (dg (v-u) k:Int))) b 142 (bz N (fE F o (k+1) (dg (v-u))))):=by rw[<-Nj N F o k (dg (v-u)) _ rfl];exact iR.set _ _
    have Hg:Hid (w.grownBy (wr.setCell ⟨b,o+k,none⟩ (.int .u64 (dg (v-u) k:Int))) (some b)):=grownBy_trans hg (grownBy_set b rfl _);clear iR;by_cases sA:k<m
    . have Fv:wr.cell? ⟨b2,o2+k,none⟩=some (.int .u64 (dg u k:Int)):=bO hg (Hy.out k sA) zi;clear hg;go_wp2;go_roundw;case rel=>exact⟨k+1,by omega,by go_num,rfl,dU.out,Hg.out⟩
      case measure=>simp[intOf];omega
    . have hz:dg u k=0:=qh Hu.out zo;simp only[hz,show((0:Nat):Int)=0 from rfl]at hrun;clear hg hz;go_wp2;go_roundw;case rel=>exact⟨k+1,by omega,by go_num,rfl,dU.out,Hg.out⟩
      case measure=>simp[intOf];omega
  . obtain rfl:k=n:=by omega
    have dU:=ah iR;clear iR;have Hg:=ah hg;clear hg;have hb0:bw v u k=0:=by unfold bw;rw[Nat.mod_eq_of_lt Hv.out,Nat.mod_eq_of_lt (Nat.lt_of_le_of_lt AQ.out Hv.out),if_neg (by have:=AQ.out;omega)]
    rw[hb0];have hb1:(((0:Nat):Int)==0)=true:=rfl;clear hb0;go_wp2;go_ret;exact⟨rfl,dU.out,Hg.out⟩
theorem aio (x p c0:Nat):(x+(p%WW+c0+0)%WW+0)%WW=(x+p+c0)%WW/\p/WW+(p%WW+c0+0)/WW+(x+(p%WW+c0+0)%WW+0)/WW=(x+p+c0)/WW:=by rw[iN];omega
theorem aim (x d m c:Nat)(hx:x<WW)(hd:d<WW)(hm:m<WW)(hc:c<WW):(x+d*m+c)/WW<WW:=by
 rw[Nat.div_lt_iff_lt_mul iO];have h1:d*m<=(WW-1) * (WW-1):=Nat.mul_le_mul zo zo;have:(WW-1) * (WW-1)+(WW-1)+(WW-1)<WW*WW:=by decide
 omega
theorem Xy (a b:Nat)(h:a+b<WW):IntKind.u64.wrap ((a:Int)+(b:Int))=((a+b:Nat):Int):=by rw[iN]at h;rw[IntKind.wrap_u64];omega
theorem Gc (b N o n gb:Nat)(F:Nat->Nat)(v:Nat)(b2 o2 m cap2 u q:Nat)(w:World)(hm:n<=1099511627776)(Qu:m<=1099511627776)
 (hB:ai w b 142 (bz N F)) (hN:o+n<=N) (hF:∀j,j<n->F (o+j)=dg v j)
 (hy:dx w b2 o2 m u) (hu:u<WW^m) (hne:b2≠b) (hq:q<WW):
 Calls Tryz.prog 169 #[.slice (some ⟨b,o,none⟩) n gb,.slice (some ⟨b2,o2,none⟩) m cap2,.int .u64 (q:Int)] w λe w'=>e=.returned (.tuple #[])/\
  ai w' b 142 (bz N (fE F o n (dg (v+u*q))))/\w.grownBy w' (some b):=by
 have HB:=ah hB;clear hB;have HF:=ah hF;clear hF;have Hy:=ah hy;clear hy;have Hu:=ah hu;clear hu;have Hq:=ah hq;clear hq;go_enter Tryz.func169,Tryz.ntmps169;go_wp2;go_loopw[6,7,8,9,10,11,14] (λc _ _ _ _ _ i wr=>∃k:Nat,k<=n/\i=.int .i64 k/\c=.int .u64 (cy v u q k:Int)/\ai wr b 142 (bz N (fE F o k (dg (v+u*q))))/\w.grownBy wr (some b)) (λ_ _ _ _ _ _ i _=>n-(intOf i).toNat);case atStart=>exact⟨0,Nat.zero_le _,rfl,by rw[Rb];rfl,by rw[Nk];exact HB.out,grownBy_refl _ _⟩
 case round=>
  obtain⟨k,hk,rfl,rfl,iR,hg⟩:=hrel;by_cases hlt:k<n
  . have hcell:wr.cell? ⟨b,o+k,none⟩=some (.int .u64 (dg v k:Int)):=by rw[iR.cell,fL _ _ _ zo,Ni _ _ _ _ _ (Nat.le_refl _),HF.out k hlt]
    have hfree:wr.frozen? ⟨b,o+k,none⟩=false:=iR.free _;have hcl:=acY v u q k Hq.out;have hs:=aio (dg v k) (dg u k*q) (cy v u q k);have hl:=aim (dg v k) (dg u k) q (cy v u q k) (iP _ _) (iP _ _) Hq.out hcl;have hstep:=Ra v u q k;rw[hstep.1,hstep.2]at hs;rw[hstep.2,<-hs.2]at hl;have FO:=λW=>ag6 (dg u k) q (iP _ _) Hq.out W;have r1:=λW=>JU (dg u k*q%WW) (cy v u q k) 0 (Nat.mod_lt _ iO) hcl zo W;have r2:=λW=>JU (dg v k) ((dg u k*q%WW+cy v u q k+0)%WW) 0 (iP _ _) (Nat.mod_lt _ iO) zo W;rw[hs.1]at r2;have mJ:=ah hs.2;clear hs hstep hcl;generalize (dg u k*q%WW+cy v u q k+0)%WW=lo2 at*;generalize (dg u k*q%WW+cy v u q k+0)/WW=c1 at*;generalize (dg v k+lo2+0)/WW=c2 at*;generalize dg u k*q/WW=hi at*;generalize dg u k*q%WW=lo at*;have s1:=Xy hi c1 zo;have s2:=Xy (hi+c1) c2 hl;have Jg:=ah FO;clear hl FO;simp only[show((0:Nat):Int)=0 from rfl]at r1 r2;have dU:Hid (ai (wr.setCell ⟨b,o+k,none⟩ (.int .u64 (dg (v+u*q) k:Int))) b 142 (bz N (fE F o (k+1) (dg (v+u*q))))):=by rw[<-Nj N F o k (dg (v+u*q)) _ rfl];exact iR.set _ _
    have Hg:Hid (w.grownBy (wr.setCell ⟨b,o+k,none⟩ (.int .u64 (dg (v+u*q) k:Int))) (some b)):=grownBy_trans hg (grownBy_set b rfl _);clear iR;by_cases sA:k<m
    . have Fv:wr.cell? ⟨b2,o2+k,none⟩=some (.int .u64 (dg u k:Int)):=bO hg (Hy.out k sA) zi;clear hg;go_wp2_with (go_at_call 180;refine(Jg.out _).mono ?_;rintro e w' ⟨rfl,rfl⟩);go_roundw;case rel=>exact⟨k+1,by omega,by go_num,by rw[<-mJ.out,<-s2,Int.natCast_add],dU.out,Hg.out⟩
      case measure=>simp[intOf];omega
    . have hz:dg u k=0:=qh Hu.out zo;have ZE:Hid (∀W,Calls Tryz.prog 180 #[.int .u64 0,.int .u64 (q:Int)] W λe w'=>e=.returned (.tuple #[.int .u64 (hi:Int),.int .u64 (lo:Int)])/\W=w'):=by have:=Jg.out;simp only[hz,show((0:Nat):Int)=0 from rfl]at this;exact this
      clear hg hz Jg;go_wp2_with (go_at_call 180;refine(ZE.out _).mono ?_;rintro e w' ⟨rfl,rfl⟩);go_roundw;case rel=>exact⟨k+1,by omega,by go_num,by rw[<-mJ.out,<-s2,Int.natCast_add],dU.out,Hg.out⟩
      case measure=>simp[intOf];omega
  . obtain rfl:k=n:=by omega
    have dU:=ah iR;clear iR;have Hg:=ah hg;clear hg;go_wp2;go_end0
    exact⟨rfl,dU.out,Hg.out⟩
end Go.Proofs.YtdaadlblknpipaaGreatDoor
