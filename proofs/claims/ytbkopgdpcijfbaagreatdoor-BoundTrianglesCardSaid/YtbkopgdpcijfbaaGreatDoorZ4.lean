/- math/bits: what the calls answer (the walks are the guide's own,turned to this program). -/
import Derived.Test.YtbkopgdpcijfbaaGreatDoorZ2
import Derived.Test.YtbkopgdpcijfbaaGreatDoorZ3
import Derived.Lib.BitFns
import Derived.Lib.ItoaNum
import Derived.Lib.TrailingZeros
import Derived.Lib.Mul64
import Derived.Laws.Bits64b
set_option linter.all false
set_option maxRecDepth 100000
set_option maxHeartbeats 16000000
namespace Go.Proofs.YtbkopgdpcijfbaaGreatDoor
open Go.RowKit
def SF (x y c:Nat)(hx:x<WW)(hy:y<WW)(hc:c<=1)(w:World):
 (callFunc 319 #[.int .u64 x,.int .u64 y,.int .u64 c]).run Tryz.prog w=
  .ok (.value (.tuple #[.int .u64 (((x+y+c)%WW:Nat):Int),.int .u64 (((x+y+c)/WW:Nat):Int)])) w:=by
 rw[ke]at*;rw[run_callFunc_extern Tryz.func319 zk zk zk (e:=add64Entry) zk,run_add64 x y c zo zo zo zo];simp only[Result.andThen];congr 5<;>omega
def ajh :Array Value->Sem Value:=λargs=>do
 let (x,y,b)<-Extern.MathBitsCarry.three "Sub64" args
 pure (Extern.MathBitsCarry.pair ((x+Extern.MathBitsCarry.m64-y-b)%Extern.MathBitsCarry.m64) (if x<y+b then 1 else 0))
def ay7 (x y b:Nat)(hb:b<=1)(w:World):
 (ajh #[.int .u64 x,.int .u64 y,.int .u64 b]).run Tryz.prog w=
  .ok (.tuple #[.int .u64 (((x+18446744073709551616-y-b)%18446744073709551616:Nat):Int),.int .u64 ((if x<y+b then 1 else 0:Nat):Int)]) w:=by
 have:b=0\/b=1:=by omega
 rcases this with rfl|rfl<;>rfl
def az1 (x y b:Nat)(hb:b<=1)(w:World):
 (callFunc 322 #[.int .u64 x,.int .u64 y,.int .u64 b]).run Tryz.prog w=
  .ok (.value (.tuple #[.int .u64 (((x+WW-y-b)%WW:Nat):Int),.int .u64 ((if x<y+b then 1 else 0:Nat):Int)])) w:=by
 rw[run_callFunc_extern Tryz.func322 zk zk zk (e:=ajh) zk,ay7 x y b hb];rfl
namespace MulX
def maskN (a:Nat)(ha:a<18446744073709551616):bits .and .u64 (a:Int) 4294967295=((a%4294967296:Nat):Int):=by have h:=bits_and_u64_nat a 4294967295 ha zo;have e:a&&&4294967295=a%4294967296:=Nat.and_two_pow_sub_one_eq_mod a 32;rw[e]at h;exact h
def divN (a:Nat):(a:Int)/4294967296=((a/4294967296:Nat):Int):=by omega
def mulN (a b:Nat):(a:Int) * (b:Int)=((a*b:Nat):Int):=(Int.natCast_mul a b).symm
def addN (a b:Nat):(a:Int)+(b:Int)=((a+b:Nat):Int):=(Int.natCast_add a b).symm
def wrapN (a:Nat)(ha:a<18446744073709551616):IntKind.u64.wrap (a:Int)=(a:Int):=by rw[IntKind.wrap_u64];omega
def wrapM (a:Nat):IntKind.u64.wrap (a:Int)=((a%18446744073709551616:Nat):Int):=by rw[IntKind.wrap_u64];omega
end MulX
def aws (x y:Nat)(hx:x<WW)(hy:y<WW)(w:World):
 Cl 318 #[.int .u64 x,.int .u64 y] w λe w'=>e=.returned (.tuple #[.int .u64 ((x*y/WW:Nat):Int),.int .u64 ((x*y%WW:Nat):Int)])/\w=w':=by
 rw[ke]at*;obtain⟨bd,bt,bw,hhi⟩:=Lib.mul64_hi x y hx hy;have ba:=Lib.half_mul_le (a:=x/4294967296) (b:=y/4294967296) zo zo;have bb:=Lib.half_mul_le (a:=x/4294967296) (b:=y%4294967296) zo zo;have bc:=Lib.half_mul_le (a:=x%4294967296) (b:=y/4294967296) zo zo;have ba':x/4294967296* (y/4294967296)<18446744073709551616:=by omega
 have bb':x/4294967296* (y%4294967296)<18446744073709551616:=by omega
 have bc':x%4294967296* (y/4294967296)<18446744073709551616:=by omega
 have bh1:x/4294967296* (y/4294967296)+(x/4294967296* (y%4294967296)+x%4294967296* (y%4294967296)/4294967296)/4294967296<18446744073709551616:=by omega
 have bh:x/4294967296* (y/4294967296)+(x/4294967296* (y%4294967296)+x%4294967296* (y%4294967296)/4294967296)/4294967296+((x/4294967296* (y%4294967296)+x%4294967296* (y%4294967296)/4294967296)%4294967296+x%4294967296* (y/4294967296))/4294967296<18446744073709551616:=by omega
 go_enter Tryz.func318,Tryz.ntmps318;go_wp2;simp only[MulX.maskN x hx,MulX.maskN y hy,MulX.divN,MulX.mulN,MulX.addN,MulX.wrapN _ bd,MulX.wrapN _ bb',MulX.wrapN _ bt,MulX.maskN _ bt,MulX.wrapN _ bc',MulX.wrapN _ bw,MulX.wrapN _ ba',MulX.wrapN _ bh1,MulX.wrapN _ bh,MulX.wrapM (x*y)];rw[hhi];go_ret2
 exact⟨rfl,rfl⟩
def bQ (v:Nat):Nat:=if v=0 then 0 else Nat.log2 v+1
def uL (v:Nat):v<2^bQ v:=by
 unfold bQ;split
 . subst v;simp
 . exact Nat.lt_log2_self
def kK {v k:Nat}(h:v<2^k):bQ v<=k:=by
 unfold bQ;split
 . omega
 . rename_i h0;have:=(Nat.log2_lt h0).2 h;omega
def My {v:Nat}(h:0<v):0<bQ v:=by unfold bQ;split<;>omega
def Mx {v k:Nat}(h:2^k<=v):k<bQ v:=by
 rcases Nat.lt_or_ge k (bQ v)with h1|h1
 . exact h1
 . have:=uL v;have:=Nat.pow_le_pow_right (show 0<2 by decide) h1;omega
def apg (x:Nat)(h:x<18446744073709551616):Lib.bitLen x=bQ x:=by
 by_cases h0:x=0
 . subst h0;rfl
 . obtain⟨h1,h2,h3⟩:=Lib.bitLenAux_bounds 64 x h h0;have e:Lib.bitLen x=Lib.bitLenAux 64 x:=rfl;rw[e];have a:=kK h3;have b:=Mx h2;omega
def avg (x:Nat)(w:World)(h:x<WW):
 Cl 317 #[.int .u64 x] w λe w'=>e=.returned (af (bQ x))/\w=w':=by
 rw[ke]at h;refine(avh x w zo zo).mono ?_;rintro e w' ⟨rfl,rfl⟩;rw[Int.toNat_natCast,apg x h];exact⟨rfl,rfl⟩
def WE (x:Nat)(w:World)(h:x<WW):
 Cl 299 #[.int .u64 x] w λe w'=>e=.returned (af (64-bQ x:Int))/\w=w':=by
 have hb:bQ x<=64:=kK (by rw[mI]at h;exact h);have Hx:=aj h;clear h;go_enter Tryz.func299,Tryz.ntmps299;go_wp2_with (go_at_call 317;refine(avg _ _ Hx.out).mono ?_;rintro e w' ⟨rfl,rfl⟩);go_ret;exact⟨rfl,rfl⟩
def aC (w:World):Prop:=∀j,j<Lib.deBruijn64tab.length->w.cell? ⟨0,j,none⟩=some (.int .u8 (Lib.deBruijn64tab.getD j 0))
def aC.below {w w':World}(h:aC w)(hb:Bw w w'):aC w':=λj hj=>cell_later hb (h j hj)
def kT {w w':World}(h:Hid (aC w))(k:Bw w w'):Hid (aC w'):=h.out.below k
def tz64_core (x k idx:Nat)(w:World)(hx0:((x:Int)==0)=false)
 (key:IntKind.u64.wrap (bits BinOp.and IntKind.u64 (x:Int) (IntKind.u64.wrap (-(x:Int))) *285870213051353865)/288230376151711744=(idx:Int))
 (hi:idx<64) (hk:k<64) (hcell:w.cell? ⟨0,idx,none⟩=some (.int .u8 k)):
 Cl 266 #[.int .u64 x] w λe w'=>e=.returned (af k)/\w=w':=by
 go_enter Tryz.func266,Tryz.ntmps266;go_wp2_with (simp only[key]);go_ret;exact⟨rfl,rfl⟩
def tz64_key (x a:Nat)(hx:x<18446744073709551616)(lU:x&&&(18446744073709551616-x)=a)(hx0:x≠0):
 IntKind.u64.wrap (bits BinOp.and IntKind.u64 (x:Int) (IntKind.u64.wrap (-(x:Int))) *285870213051353865)/288230376151711744=((a*285870213051353865%18446744073709551616/288230376151711744:Nat):Int):=by
 have e1:IntKind.u64.wrap (-(x:Int))=((18446744073709551616-x:Nat):Int):=by rw[IntKind.wrap_u64];omega
 rw[e1,bits_and_u64_nat x _ hx zo,lU,IntKind.wrap_u64];omega
def aAM (x:Nat)(hx:x<WW)(hx0:x≠0)(w:World)(hT:aC w):
 Cl 266 #[.int .u64 x] w λe w'=>e=.returned (af (Lib.ctz 64 x))/\w=w':=by
 rw[ke]at hx;obtain⟨lU,hk⟩:=Lib.lowest_bit 64 x hx0 hx;obtain⟨hi,Ar⟩:=Lib.deBruijn64_at _ hk;have hcell:=hT _ hi;rw[Ar]at hcell;exact tz64_core x _ _ w zi (tz64_key x _ hx lU hx0) hi hk hcell
def ab7 (x:Nat)(hx:x<WW)(hx0:x≠0):∃m,x=2^Lib.ctz 64 x* (2*m+1)/\Lib.ctz 64 x<64:=by have:=Lib.ctzFrom_spec 64 x zo (by rw[mI]at hx;exact hx);unfold Lib.ctz;rw[if_neg hx0];exact this
def mN (b o n cap v:Nat)(w:World)(hm:n<=1099511627776)(hcap:n<=cap)(hc:dO w b o n v)(hv:v<WW^n):
 Cl 296 #[.slice (some ⟨b,o,none⟩) n cap] w λe w'=>e=.returned (.slice (some ⟨b,o,none⟩) (ln v) cap)/\w=w':=by
 have Hc:=aj hc;clear hc;have Hv:=aj hv;clear hv;go_enter Tryz.func296,Tryz.ntmps296;go_wp2;go_loop [0] (λx=>∃k:Nat,k<=n/\v<WW^k/\x=.slice (some ⟨b,o,none⟩) k cap) (λx=>match x with| .slice _ k _=>k|_=>0)
 case atStart=>exact⟨n,Nat.le_refl _,Hv.out,rfl⟩
 case round=>
  obtain⟨k,hk,hvk,rfl⟩:=hrel;have qT:=aj hvk;clear hvk;by_cases h0:0<k
  . have hcell:w.cell? ⟨b,o+(k-1),none⟩=some (.int .u64 (dg v (k-1):Int)):=Hc.out _ zo;by_cases hd:dg v (k-1)=0
    . have hd':((dg v (k-1):Int)==0)=true:=by simp[hd]
      have Hd:=aj hd;clear hd;go_wp2;refine⟨⟨k-1,by omega,?_,rfl⟩,by simp;omega⟩;refine aAG ?_ Hd.out;rw[show k-1+1=k by omega];exact qT.out
    . have hd':((dg v (k-1):Int)==0)=false:=by simp[hd]
      have Hd:=aj hd;clear hd;go_wp2;go_ret;have e:ln v=k:=by have:=ahm (v:=v) (n:=k-1) (by rw[show k-1+1=k by omega];exact qT.out) (ajv Hd.out);omega
      rw[e];exact⟨rfl,rfl⟩
  . obtain rfl:k=0:=by omega
    go_wp2;go_ret;have e:ln v=0:=by have:=qT.out;simp at this;subst this;rfl
    rw[e];exact⟨rfl,rfl⟩
def ab8 (cap:Nat)(a:Option Addr)(w:World):
 Cl 296 #[.slice a 0 cap] w λe w'=>e=.returned (.slice a 0 cap)/\w=w':=by
 go_enter Tryz.func296,Tryz.ntmps296;go_wp2;refine wp_loop_rounds 1 ?_;rw[rounds_succ];go_wp2;go_ret;exact⟨rfl,rfl⟩
def gV (F:Nat->Nat)(o k:Nat)(G:Nat->Nat)(j:Nat):Nat:=if o<=j/\j<o+k then G (j-o)else F j
def Xd (F:Nat->Nat)(o:Nat)(G:Nat->Nat):gV F o 0 G=F:=by funext j;unfold gV;rw[if_neg zo]
def Xb (F:Nat->Nat)(o k:Nat)(G:Nat->Nat)(j:Nat)(h:k<=j):gV F o k G (o+j)=F (o+j):=by unfold gV;rw[if_neg zo]
def Ky (F:Nat->Nat)(o k:Nat)(G:Nat->Nat)(j:Nat)(h:j<k):gV F o k G (o+j)=G j:=by unfold gV;rw[if_pos zo];congr 1;omega
def Xc (N:Nat)(F:Nat->Nat)(o i:Nat)(G:Nat->Nat)(x:Nat)(hx:x=G i):
 (bI N (gV F o i G)).set (o+i) (.int .u64 (x:Int))=bI N (gV F o (i+1) G):=by
 rw[FD];refine lD λj _=>?_;unfold gV;by_cases h:j=o+i
 . subst h;rw[if_pos rfl,if_pos zo,hx];congr 1;omega
 . rw[if_neg h];by_cases h2:o<=j/\j<o+i
   . rw[if_pos h2,if_pos zo]
   . rw[if_neg h2,if_neg zo]
def avd (b N o n iP:Nat)(F:Nat->Nat)(v:Nat)(b2 o2 m cap2 u:Nat)(w:World)(hm:n<=1099511627776)(abb:m<=1099511627776)
 (hB:ar w b 185 (bI N F)) (hN:o+n<=N) (hF:∀j,j<n->F (o+j)=dg v j)
 (hy:dO w b2 o2 m u) (hu:u<WW^m) (hne:b2≠b):
 Cl 305 #[.slice (some ⟨b,o,none⟩) n iP,.slice (some ⟨b2,o2,none⟩) m cap2] w λe w'=>e=.returned (.tuple #[])/\
  ar w' b 185 (bI N (gV F o n (dg (v+u))))/\w.grownBy w' (some b):=by
 have HB:=aj hB;clear hB;have HF:=aj hF;clear hF;have Hy:=aj hy;clear hy;have Hu:=aj hu;clear hu;go_enter Tryz.func305,Tryz.ntmps305;go_wp2;go_loopw[4,5,6,9] (λc _ _ i wr=>∃k:Nat,k<=n/\i=af k/\c=.int .u64 (cy v u 1 k:Int)/\ar wr b 185 (bI N (gV F o k (dg (v+u))))/\w.grownBy wr (some b)) (λ_ _ _ i _=>n-(intOf i).toNat);case atStart=>exact⟨0,Nat.zero_le _,rfl,by rw[aca];rfl,by rw[Xd];exact HB.out,grownBy_refl _ _⟩
 case round=>
  obtain⟨k,hk,rfl,rfl,ko,hg⟩:=hrel;by_cases hlt:k<n
  . have hcell:wr.cell? ⟨b,o+k,none⟩=some (.int .u64 (dg v k:Int)):=by rw[ko.cell,iq _ _ _ zo,Xb _ _ _ _ _ (Nat.le_refl _),HF.out k hlt]
    have hfree:wr.frozen? ⟨b,o+k,none⟩=false:=ko.free _;have hstep:=ab9 v u 1 k;have Ae:cy v u 1 k<=1:=by
     unfold cy;have h1:=Nat.mod_lt v (dU k);have h2:=Nat.mod_lt u (dU k);have:(v%WW^k+u%WW^k*1)/WW^k<2:=by rw[Nat.div_lt_iff_lt_mul (dU k)];omega
     omega
    have hrun:=λW=>SF (dg v k) (dg u k) (cy v u 1 k) (kj _ _) (kj _ _) Ae W;have e1:(dg v k+dg u k+cy v u 1 k)%WW=dg (v+u) k:=by have:=hstep.1;simp only[Nat.mul_one]at this;exact this
    have e2:(dg v k+dg u k+cy v u 1 k)/WW=cy v u 1 (k+1):=by have:=hstep.2;simp only[Nat.mul_one]at this;exact this
    rw[e1,e2]at hrun;clear hstep e1 e2;have fx:Hid (ar (wr.setCell ⟨b,o+k,none⟩ (.int .u64 (dg (v+u) k:Int))) b 185 (bI N (gV F o (k+1) (dg (v+u))))):=by rw[<-Xc N F o k (dg (v+u)) _ rfl];exact ko.set _ _
    have Hg:Hid (w.grownBy (wr.setCell ⟨b,o+k,none⟩ (.int .u64 (dg (v+u) k:Int))) (some b)):=grownBy_trans hg (grownBy_set b rfl _);clear ko;by_cases vp:k<m
    . have NT:wr.cell? ⟨b2,o2+k,none⟩=some (.int .u64 (dg u k:Int)):=eF hg (Hy.out k vp) zi;clear hg;go_wp2;go_roundw;case rel=>exact⟨k+1,by omega,by go_num,rfl,fx.out,Hg.out⟩
      case measure=>exact bC
    . have hz:dg u k=0:=ww Hu.out zo;simp only[hz,show((0:Nat):Int)=0 from rfl]at hrun;clear hg hz;go_wp2;go_roundw;case rel=>exact⟨k+1,by omega,by go_num,rfl,fx.out,Hg.out⟩
      case measure=>exact bC
  . obtain rfl:k=n:=by omega
    have fx:=aj ko;clear ko;have Hg:=aj hg;clear hg;go_wp2;go_end0
    exact⟨rfl,fx.out,Hg.out⟩
def Ko (b N o n iP:Nat)(F:Nat->Nat)(v:Nat)(b2 o2 m cap2 u:Nat)(w:World)(hm:n<=1099511627776)(abb:m<=1099511627776)
 (hB:ar w b 185 (bI N F)) (hN:o+n<=N) (hF:∀j,j<n->F (o+j)=dg v j)
 (hy:dO w b2 o2 m u) (hu:u<WW^m) (hne:b2≠b) (yu:u<=v) (hv:v<WW^n):
 Cl 307 #[.slice (some ⟨b,o,none⟩) n iP,.slice (some ⟨b2,o2,none⟩) m cap2] w λe w'=>e=.returned (ag true)/\
  ar w' b 185 (bI N (gV F o n (dg (v-u))))/\w.grownBy w' (some b):=by
 have HB:=aj hB;clear hB;have HF:=aj hF;clear hF;have Hy:=aj hy;clear hy;have Hu:=aj hu;clear hu;have Hv:=aj hv;clear hv;have Ie:=aj yu;clear yu;go_enter Tryz.func307,Tryz.ntmps307;go_wp2;go_loopw[5,6,7,10] (λc _ _ i wr=>∃k:Nat,k<=n/\i=af k/\c=.int .u64 (bw v u k:Int)/\ar wr b 185 (bI N (gV F o k (dg (v-u))))/\w.grownBy wr (some b)) (λ_ _ _ i _=>n-(intOf i).toNat);case atStart=>exact⟨0,Nat.zero_le _,rfl,by rw[apJ];rfl,by rw[Xd];exact HB.out,grownBy_refl _ _⟩
 case round=>
  obtain⟨k,hk,rfl,rfl,ko,hg⟩:=hrel;by_cases hlt:k<n
  . have hcell:wr.cell? ⟨b,o+k,none⟩=some (.int .u64 (dg v k:Int)):=by rw[ko.cell,iq _ _ _ zo,Xb _ _ _ _ _ (Nat.le_refl _),HF.out k hlt]
    have hfree:wr.frozen? ⟨b,o+k,none⟩=false:=ko.free _;have hrun:=λW=>az1 (dg v k) (dg u k) (bw v u k) (abE _ _ _) W;rw[apH v u k Ie.out,<-apI v u k]at hrun;have fx:Hid (ar (wr.setCell ⟨b,o+k,none⟩ (.int .u64 (dg (v-u) k:Int))) b 185 (bI N (gV F o (k+1) (dg (v-u))))):=by rw[<-Xc N F o k (dg (v-u)) _ rfl];exact ko.set _ _
    have Hg:Hid (w.grownBy (wr.setCell ⟨b,o+k,none⟩ (.int .u64 (dg (v-u) k:Int))) (some b)):=grownBy_trans hg (grownBy_set b rfl _);clear ko;by_cases vp:k<m
    . have NT:wr.cell? ⟨b2,o2+k,none⟩=some (.int .u64 (dg u k:Int)):=eF hg (Hy.out k vp) zi;clear hg;go_wp2;go_roundw;case rel=>exact⟨k+1,by omega,by go_num,rfl,fx.out,Hg.out⟩
      case measure=>exact bC
    . have hz:dg u k=0:=ww Hu.out zo;simp only[hz,show((0:Nat):Int)=0 from rfl]at hrun;clear hg hz;go_wp2;go_roundw;case rel=>exact⟨k+1,by omega,by go_num,rfl,fx.out,Hg.out⟩
      case measure=>exact bC
  . obtain rfl:k=n:=by omega
    have fx:=aj ko;clear ko;have Hg:=aj hg;clear hg;have hb0:bw v u k=0:=by unfold bw;rw[Nat.mod_eq_of_lt Hv.out,Nat.mod_eq_of_lt (Nat.lt_of_le_of_lt Ie.out Hv.out),if_neg (by have:=Ie.out;omega)]
    rw[hb0];have hb1:(((0:Nat):Int)==0)=true:=rfl;clear hb0;go_wp2;go_ret;exact⟨rfl,fx.out,Hg.out⟩
def ax1 (x p c0:Nat):(x+(p%WW+c0+0)%WW+0)%WW=(x+p+c0)%WW/\p/WW+(p%WW+c0+0)/WW+(x+(p%WW+c0+0)%WW+0)/WW=(x+p+c0)/WW:=by rw[ke];omega
def axZ (x d m c:Nat)(hx:x<WW)(hd:d<WW)(hm:m<WW)(hc:c<WW):(x+d*m+c)/WW<WW:=by
 rw[Nat.div_lt_iff_lt_mul kg];have h1:d*m<=(WW-1) * (WW-1):=Nat.mul_le_mul zo zo;have:(WW-1) * (WW-1)+(WW-1)+(WW-1)<WW*WW:=by decide
 omega
def ajH (a b:Nat)(h:a+b<WW):IntKind.u64.wrap ((a:Int)+(b:Int))=((a+b:Nat):Int):=by rw[ke]at h;rw[IntKind.wrap_u64];omega
def OS (b N o n iP:Nat)(F:Nat->Nat)(v:Nat)(b2 o2 m cap2 u q:Nat)(w:World)(hm:n<=1099511627776)(abb:m<=1099511627776)
 (hB:ar w b 185 (bI N F)) (hN:o+n<=N) (hF:∀j,j<n->F (o+j)=dg v j)
 (hy:dO w b2 o2 m u) (hu:u<WW^m) (hne:b2≠b) (hq:q<WW):
 Cl 302 #[.slice (some ⟨b,o,none⟩) n iP,.slice (some ⟨b2,o2,none⟩) m cap2,.int .u64 (q:Int)] w λe w'=>e=.returned (.tuple #[])/\
  ar w' b 185 (bI N (gV F o n (dg (v+u*q))))/\w.grownBy w' (some b):=by
 have HB:=aj hB;clear hB;have HF:=aj hF;clear hF;have Hy:=aj hy;clear hy;have Hu:=aj hu;clear hu;have Hq:=aj hq;clear hq;go_enter Tryz.func302,Tryz.ntmps302;go_wp2;go_loopw[6,7,8,9,10,11,14] (λc _ _ _ _ _ i wr=>∃k:Nat,k<=n/\i=af k/\c=.int .u64 (cy v u q k:Int)/\ar wr b 185 (bI N (gV F o k (dg (v+u*q))))/\w.grownBy wr (some b)) (λ_ _ _ _ _ _ i _=>n-(intOf i).toNat);case atStart=>exact⟨0,Nat.zero_le _,rfl,by rw[aca];rfl,by rw[Xd];exact HB.out,grownBy_refl _ _⟩
 case round=>
  obtain⟨k,hk,rfl,rfl,ko,hg⟩:=hrel;by_cases hlt:k<n
  . have hcell:wr.cell? ⟨b,o+k,none⟩=some (.int .u64 (dg v k:Int)):=by rw[ko.cell,iq _ _ _ zo,Xb _ _ _ _ _ (Nat.le_refl _),HF.out k hlt]
    have hfree:wr.frozen? ⟨b,o+k,none⟩=false:=ko.free _;have hcl:=aqE v u q k Hq.out;have hs:=ax1 (dg v k) (dg u k*q) (cy v u q k);have hl:=axZ (dg v k) (dg u k) q (cy v u q k) (kj _ _) (kj _ _) Hq.out hcl;have hstep:=ab9 v u q k;rw[hstep.1,hstep.2]at hs;rw[hstep.2,<-hs.2]at hl;have Ow:=λW=>aws (dg u k) q (kj _ _) Hq.out W;have r1:=λW=>SF (dg u k*q%WW) (cy v u q k) 0 (Nat.mod_lt _ kg) hcl zo W;have r2:=λW=>SF (dg v k) ((dg u k*q%WW+cy v u q k+0)%WW) 0 (kj _ _) (Nat.mod_lt _ kg) zo W;rw[hs.1]at r2;have vW:=aj hs.2;clear hs hstep hcl;generalize (dg u k*q%WW+cy v u q k+0)%WW=lo2 at*;generalize (dg u k*q%WW+cy v u q k+0)/WW=c1 at*;generalize (dg v k+lo2+0)/WW=c2 at*;generalize dg u k*q/WW=hi at*;generalize dg u k*q%WW=lo at*;have s1:=ajH hi c1 zo;have s2:=ajH (hi+c1) c2 hl;have Rs:=aj Ow;clear hl Ow;simp only[show((0:Nat):Int)=0 from rfl]at r1 r2;have fx:Hid (ar (wr.setCell ⟨b,o+k,none⟩ (.int .u64 (dg (v+u*q) k:Int))) b 185 (bI N (gV F o (k+1) (dg (v+u*q))))):=by rw[<-Xc N F o k (dg (v+u*q)) _ rfl];exact ko.set _ _
    have Hg:Hid (w.grownBy (wr.setCell ⟨b,o+k,none⟩ (.int .u64 (dg (v+u*q) k:Int))) (some b)):=grownBy_trans hg (grownBy_set b rfl _);clear ko;by_cases vp:k<m
    . have NT:wr.cell? ⟨b2,o2+k,none⟩=some (.int .u64 (dg u k:Int)):=eF hg (Hy.out k vp) zi;clear hg;go_wp2_with (go_at_call 318;refine(Rs.out _).mono ?_;rintro e w' ⟨rfl,rfl⟩);go_roundw;case rel=>exact⟨k+1,by omega,by go_num,by rw[<-vW.out,<-s2,Int.natCast_add],fx.out,Hg.out⟩
      case measure=>exact bC
    . have hz:dg u k=0:=ww Hu.out zo;have amw:Hid (∀W,Cl 318 #[.int .u64 0,.int .u64 (q:Int)] W λe w'=>e=.returned (.tuple #[.int .u64 (hi:Int),.int .u64 (lo:Int)])/\W=w'):=by have:=Rs.out;simp only[hz,show((0:Nat):Int)=0 from rfl]at this;exact this
      clear hg hz Rs;go_wp2_with (go_at_call 318;refine(amw.out _).mono ?_;rintro e w' ⟨rfl,rfl⟩);go_roundw;case rel=>exact⟨k+1,by omega,by go_num,by rw[<-vW.out,<-s2,Int.natCast_add],fx.out,Hg.out⟩
      case measure=>exact bC
  . obtain rfl:k=n:=by omega
    have fx:=aj ko;clear ko;have Hg:=aj hg;clear hg;go_wp2;go_end0
    exact⟨rfl,fx.out,Hg.out⟩
end Go.Proofs.YtbkopgdpcijfbaaGreatDoor
