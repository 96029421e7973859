/- math/bits: what the calls answer (the walks are the guide's own,turned to this program). -/
import Derived.Test.YtpfgffadgkkedaaGreatDoorZ2
import Derived.Test.YtpfgffadgkkedaaGreatDoorZ3
import Derived.Lib.BitFns
import Derived.Lib.ItoaNum
import Derived.Lib.TrailingZeros
import Derived.Lib.Mul64
import Derived.Laws.Bits64b
set_option linter.all false
set_option maxRecDepth 100000
set_option maxHeartbeats 16000000
namespace Go.Proofs.YtpfgffadgkkedaaGreatDoor
open Go.RowKit
def Qx (x y c:Nat)(hx:x<WW)(hy:y<WW)(hc:c<=1)(w:World):
 (callFunc 310 #[.int .u64 x,.int .u64 y,.int .u64 c]).run Tryz.prog w=
  .ok (.value (.tuple #[.int .u64 (((x+y+c)%WW:Nat):Int),.int .u64 (((x+y+c)/WW:Nat):Int)])) w:=by
 rw[jr]at*;rw[run_callFunc_extern Tryz.func310 zk zk zk (e:=add64Entry) zk,run_add64 x y c zo zo zo zo];simp only[Result.andThen];congr 5<;>omega
def afH :Array Value->Sem Value:=λargs=>do
 let (x,y,b)<-Extern.MathBitsCarry.three "Sub64" args
 pure (Extern.MathBitsCarry.pair ((x+Extern.MathBitsCarry.m64-y-b)%Extern.MathBitsCarry.m64) (if x<y+b then 1 else 0))
def auF (x y b:Nat)(hb:b<=1)(w:World):
 (afH #[.int .u64 x,.int .u64 y,.int .u64 b]).run Tryz.prog w=
  .ok (.tuple #[.int .u64 (((x+18446744073709551616-y-b)%18446744073709551616:Nat):Int),.int .u64 ((if x<y+b then 1 else 0:Nat):Int)]) w:=by
 have:b=0\/b=1:=by omega
 rcases this with rfl|rfl<;>rfl
def avk (x y b:Nat)(hb:b<=1)(w:World):
 (callFunc 316 #[.int .u64 x,.int .u64 y,.int .u64 b]).run Tryz.prog w=
  .ok (.value (.tuple #[.int .u64 (((x+WW-y-b)%WW:Nat):Int),.int .u64 ((if x<y+b then 1 else 0:Nat):Int)])) w:=by
 rw[run_callFunc_extern Tryz.func316 zk zk zk (e:=afH) zk,auF x y b hb];rfl
namespace MulX
def maskN (a:Nat)(ha:a<18446744073709551616):bits .and .u64 (a:Int) 4294967295=((a%4294967296:Nat):Int):=by have h:=bits_and_u64_nat a 4294967295 ha zo;have e:a&&&4294967295=a%4294967296:=Nat.and_two_pow_sub_one_eq_mod a 32;rw[e]at h;exact h
def divN (a:Nat):(a:Int)/4294967296=((a/4294967296:Nat):Int):=by omega
def mulN (a b:Nat):(a:Int) * (b:Int)=((a*b:Nat):Int):=(Int.natCast_mul a b).symm
def addN (a b:Nat):(a:Int)+(b:Int)=((a+b:Nat):Int):=(Int.natCast_add a b).symm
def wrapN (a:Nat)(ha:a<18446744073709551616):IntKind.u64.wrap (a:Int)=(a:Int):=by rw[IntKind.wrap_u64];omega
def wrapM (a:Nat):IntKind.u64.wrap (a:Int)=((a%18446744073709551616:Nat):Int):=by rw[IntKind.wrap_u64];omega
end MulX
def ar7 (x y:Nat)(hx:x<WW)(hy:y<WW)(w:World):
 Cl 309 #[.int .u64 x,.int .u64 y] w λe w'=>e=.returned (.tuple #[.int .u64 ((x*y/WW:Nat):Int),.int .u64 ((x*y%WW:Nat):Int)])/\w=w':=by
 rw[jr]at*;obtain⟨bd,bt,bw,hhi⟩:=Lib.mul64_hi x y hx hy;have ba:=Lib.half_mul_le (a:=x/4294967296) (b:=y/4294967296) zo zo;have bb:=Lib.half_mul_le (a:=x/4294967296) (b:=y%4294967296) zo zo;have bc:=Lib.half_mul_le (a:=x%4294967296) (b:=y/4294967296) zo zo;have ba':x/4294967296* (y/4294967296)<18446744073709551616:=by omega
 have bb':x/4294967296* (y%4294967296)<18446744073709551616:=by omega
 have bc':x%4294967296* (y/4294967296)<18446744073709551616:=by omega
 have bh1:x/4294967296* (y/4294967296)+(x/4294967296* (y%4294967296)+x%4294967296* (y%4294967296)/4294967296)/4294967296<18446744073709551616:=by omega
 have bh:x/4294967296* (y/4294967296)+(x/4294967296* (y%4294967296)+x%4294967296* (y%4294967296)/4294967296)/4294967296+((x/4294967296* (y%4294967296)+x%4294967296* (y%4294967296)/4294967296)%4294967296+x%4294967296* (y/4294967296))/4294967296<18446744073709551616:=by omega
 go_enter Tryz.func309,Tryz.ntmps309;go_wp2;simp only[MulX.maskN x hx,MulX.maskN y hy,MulX.divN,MulX.mulN,MulX.addN,MulX.wrapN _ bd,MulX.wrapN _ bb',MulX.wrapN _ bt,MulX.maskN _ bt,MulX.wrapN _ bc',MulX.wrapN _ bw,MulX.wrapN _ ba',MulX.wrapN _ bh1,MulX.wrapN _ bh,MulX.wrapM (x*y)];rw[hhi];go_ret2
 exact⟨rfl,rfl⟩
def bF (v:Nat):Nat:=if v=0 then 0 else Nat.log2 v+1
def sQ (v:Nat):v<2^bF v:=by
 unfold bF;split
 . subst v;simp
 . exact Nat.lt_log2_self
def im {v k:Nat}(h:v<2^k):bF v<=k:=by
 unfold bF;split
 . omega
 . rename_i h0;have:=(Nat.log2_lt h0).2 h;omega
def FV {v:Nat}(h:0<v):0<bF v:=by unfold bF;split<;>omega
def KY {v k:Nat}(h:2^k<=v):k<bF v:=by
 rcases Nat.lt_or_ge k (bF v)with h1|h1
 . exact h1
 . have:=sQ v;have:=Nat.pow_le_pow_right (show 0<2 by decide) h1;omega
def ak1 (x:Nat)(h:x<18446744073709551616):Lib.bitLen x=bF x:=by
 by_cases h0:x=0
 . subst h0;rfl
 . obtain⟨h1,h2,h3⟩:=Lib.bitLenAux_bounds 64 x h h0;have e:Lib.bitLen x=Lib.bitLenAux 64 x:=rfl;rw[e];have a:=im h3;have b:=KY h2;omega
def aq4 (x:Nat)(w:World)(h:x<WW):
 Cl 317 #[.int .u64 x] w λe w'=>e=.returned (af (bF x))/\w=w':=by
 rw[jr]at h;refine(aq5 x w zo zo).mono ?_;rintro e w' ⟨rfl,rfl⟩;rw[Int.toNat_natCast,ak1 x h];exact⟨rfl,rfl⟩
def Um (x:Nat)(w:World)(h:x<WW):
 Cl 303 #[.int .u64 x] w λe w'=>e=.returned (af (64-bF x:Int))/\w=w':=by
 have hb:bF x<=64:=im (by rw[lS]at h;exact h);have Hx:=aj h;clear h;go_enter Tryz.func303,Tryz.ntmps303;go_wp2_with (go_at_call 317;refine(aq4 _ _ Hx.out).mono ?_;rintro e w' ⟨rfl,rfl⟩);go_ret;exact⟨rfl,rfl⟩
def aB (w:World):Prop:=∀j,j<Lib.deBruijn64tab.length->w.cell? ⟨0,j,none⟩=some (.int .u8 (Lib.deBruijn64tab.getD j 0))
def aB.below {w w':World}(h:aB w)(hb:Bw w w'):aB w':=λj hj=>cell_later hb (h j hj)
def kT {w w':World}(h:Hid (aB w))(k:Bw w w'):Hid (aB w'):=h.out.below k
def tz64_core (x k idx:Nat)(w:World)(hx0:((x:Int)==0)=false)
 (key:IntKind.u64.wrap (bits BinOp.and IntKind.u64 (x:Int) (IntKind.u64.wrap (-(x:Int))) *285870213051353865)/288230376151711744=(idx:Int))
 (hi:idx<64) (hk:k<64) (hcell:w.cell? ⟨0,idx,none⟩=some (.int .u8 k)):
 Cl 256 #[.int .u64 x] w λe w'=>e=.returned (af k)/\w=w':=by
 go_enter Tryz.func256,Tryz.ntmps256;go_wp2_with (simp only[key]);go_ret;exact⟨rfl,rfl⟩
def tz64_key (x a:Nat)(hx:x<18446744073709551616)(kq:x&&&(18446744073709551616-x)=a)(hx0:x≠0):
 IntKind.u64.wrap (bits BinOp.and IntKind.u64 (x:Int) (IntKind.u64.wrap (-(x:Int))) *285870213051353865)/288230376151711744=((a*285870213051353865%18446744073709551616/288230376151711744:Nat):Int):=by
 have e1:IntKind.u64.wrap (-(x:Int))=((18446744073709551616-x:Nat):Int):=by rw[IntKind.wrap_u64];omega
 rw[e1,bits_and_u64_nat x _ hx zo,kq,IntKind.wrap_u64];omega
def avU (x:Nat)(hx:x<WW)(hx0:x≠0)(w:World)(hT:aB w):
 Cl 256 #[.int .u64 x] w λe w'=>e=.returned (af (Lib.ctz 64 x))/\w=w':=by
 rw[jr]at hx;obtain⟨kq,hk⟩:=Lib.lowest_bit 64 x hx0 hx;obtain⟨hi,rK⟩:=Lib.deBruijn64_at _ hk;have hcell:=hT _ hi;rw[rK]at hcell;exact tz64_core x _ _ w zi (tz64_key x _ hx kq hx0) hi hk hcell
def Zp (x:Nat)(hx:x<WW)(hx0:x≠0):∃m,x=2^Lib.ctz 64 x* (2*m+1)/\Lib.ctz 64 x<64:=by have:=Lib.ctzFrom_spec 64 x zo (by rw[lS]at hx;exact hx);unfold Lib.ctz;rw[if_neg hx0];exact this
def lV (b o n cap v:Nat)(w:World)(hm:n<=1099511627776)(hcap:n<=cap)(hc:dL w b o n v)(hv:v<WW^n):
 Cl 281 #[.slice (some ⟨b,o,none⟩) n cap] w λe w'=>e=.returned (.slice (some ⟨b,o,none⟩) (ln v) cap)/\w=w':=by
 have Hc:=aj hc;clear hc;have Hv:=aj hv;clear hv;go_enter Tryz.func281,Tryz.ntmps281;go_wp2;go_loop [0] (λx=>∃k:Nat,k<=n/\v<WW^k/\x=.slice (some ⟨b,o,none⟩) k cap) (λx=>match x with| .slice _ k _=>k|_=>0)
 case atStart=>exact⟨n,Nat.le_refl _,Hv.out,rfl⟩
 case round=>
  obtain⟨k,hk,hvk,rfl⟩:=hrel;have oK:=aj hvk;clear hvk;by_cases h0:0<k
  . have hcell:w.cell? ⟨b,o+(k-1),none⟩=some (.int .u64 (dg v (k-1):Int)):=Hc.out _ zo;by_cases hd:dg v (k-1)=0
    . have hd':((dg v (k-1):Int)==0)=true:=by simp[hd]
      have Hd:=aj hd;clear hd;go_wp2;refine⟨⟨k-1,by omega,?_,rfl⟩,by simp;omega⟩;refine avM ?_ Hd.out;rw[show k-1+1=k by omega];exact oK.out
    . have hd':((dg v (k-1):Int)==0)=false:=by simp[hd]
      have Hd:=aj hd;clear hd;go_wp2;go_ret;have e:ln v=k:=by have:=aeg (v:=v) (n:=k-1) (by rw[show k-1+1=k by omega];exact oK.out) (afT Hd.out);omega
      rw[e];exact⟨rfl,rfl⟩
  . obtain rfl:k=0:=by omega
    go_wp2;go_ret;have e:ln v=0:=by have:=oK.out;simp at this;subst this;rfl
    rw[e];exact⟨rfl,rfl⟩
def Zr (cap:Nat)(a:Option Addr)(w:World):
 Cl 281 #[.slice a 0 cap] w λe w'=>e=.returned (.slice a 0 cap)/\w=w':=by
 go_enter Tryz.func281,Tryz.ntmps281;go_wp2;refine wp_loop_rounds 1 ?_;rw[rounds_succ];go_wp2;go_ret;exact⟨rfl,rfl⟩
def gg (F:Nat->Nat)(o k:Nat)(G:Nat->Nat)(j:Nat):Nat:=if o<=j/\j<o+k then G (j-o)else F j
def UN (F:Nat->Nat)(o:Nat)(G:Nat->Nat):gg F o 0 G=F:=by funext j;unfold gg;rw[if_neg zo]
def UL (F:Nat->Nat)(o k:Nat)(G:Nat->Nat)(j:Nat)(h:k<=j):gg F o k G (o+j)=F (o+j):=by unfold gg;rw[if_neg zo]
def Jj (F:Nat->Nat)(o k:Nat)(G:Nat->Nat)(j:Nat)(h:j<k):gg F o k G (o+j)=G j:=by unfold gg;rw[if_pos zo];congr 1;omega
def UM (N:Nat)(F:Nat->Nat)(o i:Nat)(G:Nat->Nat)(x:Nat)(hx:x=G i):
 (bz N (gg F o i G)).set (o+i) (.int .u64 (x:Int))=bz N (gg F o (i+1) G):=by
 rw[Eu];refine kH λj _=>?_;unfold gg;by_cases h:j=o+i
 . subst h;rw[if_pos rfl,if_pos zo,hx];congr 1;omega
 . rw[if_neg h];by_cases h2:o<=j/\j<o+i
   . rw[if_pos h2,if_pos zo]
   . rw[if_neg h2,if_neg zo]
def aqW (b N o n iq:Nat)(F:Nat->Nat)(v:Nat)(b2 o2 m cap2 u:Nat)(w:World)(hm:n<=1099511627776)(YF:m<=1099511627776)
 (hB:ar w b 222 (bz N F)) (hN:o+n<=N) (hF:∀j,j<n->F (o+j)=dg v j)
 (hy:dL w b2 o2 m u) (hu:u<WW^m) (hne:b2≠b):
 Cl 299 #[.slice (some ⟨b,o,none⟩) n iq,.slice (some ⟨b2,o2,none⟩) m cap2] w λe w'=>e=.returned (.tuple #[])/\
  ar w' b 222 (bz N (gg F o n (dg (v+u))))/\w.grownBy w' (some b):=by
 have HB:=aj hB;clear hB;have HF:=aj hF;clear hF;have Hy:=aj hy;clear hy;have Hu:=aj hu;clear hu;go_enter Tryz.func299,Tryz.ntmps299;go_wp2;go_loopw[4,5,6,9] (λc _ _ i wr=>∃k:Nat,k<=n/\i=af k/\c=.int .u64 (cy v u 1 k:Int)/\ar wr b 222 (bz N (gg F o k (dg (v+u))))/\w.grownBy wr (some b)) (λ_ _ _ i _=>n-(intOf i).toNat);case atStart=>exact⟨0,Nat.zero_le _,rfl,by rw[Zv];rfl,by rw[UN];exact HB.out,grownBy_refl _ _⟩
 case round=>
  obtain⟨k,hk,rfl,rfl,jN,hg⟩:=hrel;by_cases hlt:k<n
  . have hcell:wr.cell? ⟨b,o+k,none⟩=some (.int .u64 (dg v k:Int)):=by rw[jN.cell,gD _ _ _ zo,UL _ _ _ _ _ (Nat.le_refl _),HF.out k hlt]
    have hfree:wr.frozen? ⟨b,o+k,none⟩=false:=jN.free _;have hstep:=Zu v u 1 k;have yu:cy v u 1 k<=1:=by
     unfold cy;have h1:=Nat.mod_lt v (dX k);have h2:=Nat.mod_lt u (dX k);have:(v%WW^k+u%WW^k*1)/WW^k<2:=by rw[Nat.div_lt_iff_lt_mul (dX k)];omega
     omega
    have hrun:=λW=>Qx (dg v k) (dg u k) (cy v u 1 k) (jK _ _) (jK _ _) yu W;have e1:(dg v k+dg u k+cy v u 1 k)%WW=dg (v+u) k:=by have:=hstep.1;simp only[Nat.mul_one]at this;exact this
    have e2:(dg v k+dg u k+cy v u 1 k)/WW=cy v u 1 (k+1):=by have:=hstep.2;simp only[Nat.mul_one]at this;exact this
    rw[e1,e2]at hrun;clear hstep e1 e2;have eH:Hid (ar (wr.setCell ⟨b,o+k,none⟩ (.int .u64 (dg (v+u) k:Int))) b 222 (bz N (gg F o (k+1) (dg (v+u))))):=by rw[<-UM N F o k (dg (v+u)) _ rfl];exact jN.set _ _
    have Hg:Hid (w.grownBy (wr.setCell ⟨b,o+k,none⟩ (.int .u64 (dg (v+u) k:Int))) (some b)):=grownBy_trans hg (grownBy_set b rfl _);clear jN;by_cases oY:k<m
    . have Mg:wr.cell? ⟨b2,o2+k,none⟩=some (.int .u64 (dg u k:Int)):=cW hg (Hy.out k oY) zi;clear hg;go_wp2;go_roundw;case rel=>exact⟨k+1,by omega,by go_num,rfl,eH.out,Hg.out⟩
      case measure=>exact bi
    . have hz:dg u k=0:=uM Hu.out zo;simp only[hz,show((0:Nat):Int)=0 from rfl]at hrun;clear hg hz;go_wp2;go_roundw;case rel=>exact⟨k+1,by omega,by go_num,rfl,eH.out,Hg.out⟩
      case measure=>exact bi
  . obtain rfl:k=n:=by omega
    have eH:=aj jN;clear jN;have Hg:=aj hg;clear hg;go_wp2;go_end0
    exact⟨rfl,eH.out,Hg.out⟩
def Jd (b N o n iq:Nat)(F:Nat->Nat)(v:Nat)(b2 o2 m cap2 u:Nat)(w:World)(hm:n<=1099511627776)(YF:m<=1099511627776)
 (hB:ar w b 222 (bz N F)) (hN:o+n<=N) (hF:∀j,j<n->F (o+j)=dg v j)
 (hy:dL w b2 o2 m u) (hu:u<WW^m) (hne:b2≠b) (wV:u<=v) (hv:v<WW^n):
 Cl 302 #[.slice (some ⟨b,o,none⟩) n iq,.slice (some ⟨b2,o2,none⟩) m cap2] w λe w'=>e=.returned (ag true)/\
  ar w' b 222 (bz N (gg F o n (dg (v-u))))/\w.grownBy w' (some b):=by
 have HB:=aj hB;clear hB;have HF:=aj hF;clear hF;have Hy:=aj hy;clear hy;have Hu:=aj hu;clear hu;have Hv:=aj hv;clear hv;have Fz:=aj wV;clear wV;go_enter Tryz.func302,Tryz.ntmps302;go_wp2;go_loopw[5,6,7,10] (λc _ _ i wr=>∃k:Nat,k<=n/\i=af k/\c=.int .u64 (bw v u k:Int)/\ar wr b 222 (bz N (gg F o k (dg (v-u))))/\w.grownBy wr (some b)) (λ_ _ _ i _=>n-(intOf i).toNat);case atStart=>exact⟨0,Nat.zero_le _,rfl,by rw[alu];rfl,by rw[UN];exact HB.out,grownBy_refl _ _⟩
 case round=>
  obtain⟨k,hk,rfl,rfl,jN,hg⟩:=hrel;by_cases hlt:k<n
  . have hcell:wr.cell? ⟨b,o+k,none⟩=some (.int .u64 (dg v k:Int)):=by rw[jN.cell,gD _ _ _ zo,UL _ _ _ _ _ (Nat.le_refl _),HF.out k hlt]
    have hfree:wr.frozen? ⟨b,o+k,none⟩=false:=jN.free _;have hrun:=λW=>avk (dg v k) (dg u k) (bw v u k) (YT _ _ _) W;rw[alr v u k Fz.out,<-als v u k]at hrun;have eH:Hid (ar (wr.setCell ⟨b,o+k,none⟩ (.int .u64 (dg (v-u) k:Int))) b 222 (bz N (gg F o (k+1) (dg (v-u))))):=by rw[<-UM N F o k (dg (v-u)) _ rfl];exact jN.set _ _
    have Hg:Hid (w.grownBy (wr.setCell ⟨b,o+k,none⟩ (.int .u64 (dg (v-u) k:Int))) (some b)):=grownBy_trans hg (grownBy_set b rfl _);clear jN;by_cases oY:k<m
    . have Mg:wr.cell? ⟨b2,o2+k,none⟩=some (.int .u64 (dg u k:Int)):=cW hg (Hy.out k oY) zi;clear hg;go_wp2;go_roundw;case rel=>exact⟨k+1,by omega,by go_num,rfl,eH.out,Hg.out⟩
      case measure=>exact bi
    . have hz:dg u k=0:=uM Hu.out zo;simp only[hz,show((0:Nat):Int)=0 from rfl]at hrun;clear hg hz;go_wp2;go_roundw;case rel=>exact⟨k+1,by omega,by go_num,rfl,eH.out,Hg.out⟩
      case measure=>exact bi
  . obtain rfl:k=n:=by omega
    have eH:=aj jN;clear jN;have Hg:=aj hg;clear hg;have hb0:bw v u k=0:=by unfold bw;rw[Nat.mod_eq_of_lt Hv.out,Nat.mod_eq_of_lt (Nat.lt_of_le_of_lt Fz.out Hv.out),if_neg (by have:=Fz.out;omega)]
    rw[hb0];have hb1:(((0:Nat):Int)==0)=true:=rfl;clear hb0;go_wp2;go_ret;exact⟨rfl,eH.out,Hg.out⟩
def atB (x p c0:Nat):(x+(p%WW+c0+0)%WW+0)%WW=(x+p+c0)%WW/\p/WW+(p%WW+c0+0)/WW+(x+(p%WW+c0+0)%WW+0)/WW=(x+p+c0)/WW:=by rw[jr];omega
def atz (x d m c:Nat)(hx:x<WW)(hd:d<WW)(hm:m<WW)(hc:c<WW):(x+d*m+c)/WW<WW:=by
 rw[Nat.div_lt_iff_lt_mul jH];have h1:d*m<=(WW-1) * (WW-1):=Nat.mul_le_mul zo zo;have:(WW-1) * (WW-1)+(WW-1)+(WW-1)<WW*WW:=by decide
 omega
def af2 (a b:Nat)(h:a+b<WW):IntKind.u64.wrap ((a:Int)+(b:Int))=((a+b:Nat):Int):=by rw[jr]at h;rw[IntKind.wrap_u64];omega
def MZ (b N o n iq:Nat)(F:Nat->Nat)(v:Nat)(b2 o2 m cap2 u q:Nat)(w:World)(hm:n<=1099511627776)(YF:m<=1099511627776)
 (hB:ar w b 222 (bz N F)) (hN:o+n<=N) (hF:∀j,j<n->F (o+j)=dg v j)
 (hy:dL w b2 o2 m u) (hu:u<WW^m) (hne:b2≠b) (hq:q<WW):
 Cl 286 #[.slice (some ⟨b,o,none⟩) n iq,.slice (some ⟨b2,o2,none⟩) m cap2,.int .u64 (q:Int)] w λe w'=>e=.returned (.tuple #[])/\
  ar w' b 222 (bz N (gg F o n (dg (v+u*q))))/\w.grownBy w' (some b):=by
 have HB:=aj hB;clear hB;have HF:=aj hF;clear hF;have Hy:=aj hy;clear hy;have Hu:=aj hu;clear hu;have Hq:=aj hq;clear hq;go_enter Tryz.func286,Tryz.ntmps286;go_wp2;go_loopw[6,7,8,9,10,11,14] (λc _ _ _ _ _ i wr=>∃k:Nat,k<=n/\i=af k/\c=.int .u64 (cy v u q k:Int)/\ar wr b 222 (bz N (gg F o k (dg (v+u*q))))/\w.grownBy wr (some b)) (λ_ _ _ _ _ _ i _=>n-(intOf i).toNat);case atStart=>exact⟨0,Nat.zero_le _,rfl,by rw[Zv];rfl,by rw[UN];exact HB.out,grownBy_refl _ _⟩
 case round=>
  obtain⟨k,hk,rfl,rfl,jN,hg⟩:=hrel;by_cases hlt:k<n
  . have hcell:wr.cell? ⟨b,o+k,none⟩=some (.int .u64 (dg v k:Int)):=by rw[jN.cell,gD _ _ _ zo,UL _ _ _ _ _ (Nat.le_refl _),HF.out k hlt]
    have hfree:wr.frozen? ⟨b,o+k,none⟩=false:=jN.free _;have hcl:=amw v u q k Hq.out;have hs:=atB (dg v k) (dg u k*q) (cy v u q k);have hl:=atz (dg v k) (dg u k) q (cy v u q k) (jK _ _) (jK _ _) Hq.out hcl;have hstep:=Zu v u q k;rw[hstep.1,hstep.2]at hs;rw[hstep.2,<-hs.2]at hl;have uZ:=λW=>ar7 (dg u k) q (jK _ _) Hq.out W;have r1:=λW=>Qx (dg u k*q%WW) (cy v u q k) 0 (Nat.mod_lt _ jH) hcl zo W;have r2:=λW=>Qx (dg v k) ((dg u k*q%WW+cy v u q k+0)%WW) 0 (jK _ _) (Nat.mod_lt _ jH) zo W;rw[hs.1]at r2;have sJ:=aj hs.2;clear hs hstep hcl;generalize (dg u k*q%WW+cy v u q k+0)%WW=xb at*;generalize (dg u k*q%WW+cy v u q k+0)/WW=c1 at*;generalize (dg v k+xb+0)/WW=c2 at*;generalize dg u k*q/WW=hi at*;generalize dg u k*q%WW=lo at*;have s1:=af2 hi c1 zo;have s2:=af2 (hi+c1) c2 hl;have Pj:=aj uZ;clear hl uZ;simp only[show((0:Nat):Int)=0 from rfl]at r1 r2;have eH:Hid (ar (wr.setCell ⟨b,o+k,none⟩ (.int .u64 (dg (v+u*q) k:Int))) b 222 (bz N (gg F o (k+1) (dg (v+u*q))))):=by rw[<-UM N F o k (dg (v+u*q)) _ rfl];exact jN.set _ _
    have Hg:Hid (w.grownBy (wr.setCell ⟨b,o+k,none⟩ (.int .u64 (dg (v+u*q) k:Int))) (some b)):=grownBy_trans hg (grownBy_set b rfl _);clear jN;by_cases oY:k<m
    . have Mg:wr.cell? ⟨b2,o2+k,none⟩=some (.int .u64 (dg u k:Int)):=cW hg (Hy.out k oY) zi;clear hg;go_wp2_with (go_at_call 309;refine(Pj.out _).mono ?_;rintro e w' ⟨rfl,rfl⟩);go_roundw;case rel=>exact⟨k+1,by omega,by go_num,by rw[<-sJ.out,<-s2,Int.natCast_add],eH.out,Hg.out⟩
      case measure=>exact bi
    . have hz:dg u k=0:=uM Hu.out zo;have aiR:Hid (∀W,Cl 309 #[.int .u64 0,.int .u64 (q:Int)] W λe w'=>e=.returned (.tuple #[.int .u64 (hi:Int),.int .u64 (lo:Int)])/\W=w'):=by have:=Pj.out;simp only[hz,show((0:Nat):Int)=0 from rfl]at this;exact this
      clear hg hz Pj;go_wp2_with (go_at_call 309;refine(aiR.out _).mono ?_;rintro e w' ⟨rfl,rfl⟩);go_roundw;case rel=>exact⟨k+1,by omega,by go_num,by rw[<-sJ.out,<-s2,Int.natCast_add],eH.out,Hg.out⟩
      case measure=>exact bi
  . obtain rfl:k=n:=by omega
    have eH:=aj jN;clear jN;have Hg:=aj hg;clear hg;go_wp2;go_end0
    exact⟨rfl,eH.out,Hg.out⟩
end Go.Proofs.YtpfgffadgkkedaaGreatDoor
