/- Package mono: Exps. -/
import Derived.Test.YtpfgffadgkkedaaGreatDoorZ7
import Derived.Test.YtpfgffadgkkedaaGreatDoorZ9
import Derived.Test.YtpfgffadgkkedaaGreatDoorZ11
import Derived.Lib.OthersKept
set_option linter.all false
set_option maxRecDepth 100000
set_option maxHeartbeats 16000000
namespace Go.Proofs.YtpfgffadgkkedaaGreatDoor
open Go.RowKit
attribute [local go_sem ↓] Go.wp_at_zero Go.wp_at_succ
def Tryz.aAk :(Tryz.prog.info? 3).map (λi=>(i.zero,i.size,i.bytes))=some (some (af 0),1,8):=by kernel_rfl
def aor (w:World)(k:Nat)(s:ByteArray)(pos:Nat):w.grownBy (w.iterAt k s pos) (some k):=
 ⟨rfl,rfl,rfl,by rw[Lib.iterAt_size];exact Nat.le_refl _,λi _ hne=>Lib.iterAt_other w k i s pos (λh=>hne (by rw[h]))⟩
def row_ne_iter {w:World}{B e size n:Nat}{v:Value}{xs:List Value}{k:Nat}{s:ByteArray}{pos:Nat}(h:w.ownsRow B e size v n xs)(hk:w.heap[k]?=some (.stringIter s pos)):v.ownBlock=none\/v.ownBlock≠some k:=by
 rcases h.2 with⟨rfl,_⟩ |⟨g,cap,cur,rfl,_,hg,_⟩
 . exact .inl rfl
 . refine .inr λe=>?_;simp only[Value.ownBlock,Option.some.injEq]at e;subst e;rw[hg]at hk;simp at hk
def ju (l:List UInt8):List Value:=l.map λc=>af (c.toNat:Int)
def anQ (a b:List UInt8):ju (a++b)=ju a++ju b:=by simp[ju]
def Rk (l:List UInt8)(w:World)(hl:l.length<=1048576)(hall:∀c∈l,c.toNat<=127):
 Cl 146 #[.string (bs l)] w λe w'=>∃v,e=.returned v/\w'.ownsRow w.heap.size 3 1 v l.length (ju l)/\Bw w w':=by
 obtain⟨i0,hi,hz0,hz1,hz2⟩:=info_parts Tryz.aAk;obtain⟨n,hn⟩:=au l.length;have hsz:(bs l).size=n:=by rw[mR,hn]
 have tQ:=λW=>Ee l (n:Int) W zo;have hm:df l (n:Int)=true:=by unfold df;rw[hn];simp only[Bool.and_eq_true,List.all_eq_true,decide_eq_true_eq,and_true];exact hall
 rw[hm]at tQ;have hget:∀k (h:k<(bs l).size) (h2:k<l.length),((bs l)[k]'h).toNat=l[k].toNat:=λk h h2=>by simp[bs,ByteArray.getElem_eq_getElem_data]
 rw[hn]at hl⊢;obtain⟨Hi,cu,bV,bX,Hn,vR,fP,Cm,sL⟩:=Uf hi hz0 hz1 hz2 hn tQ hall hget hsz;clear hi hz0 hz1 hz2 hn tQ hm hall hget;go_enter Tryz.func146,Tryz.ntmps146;have Hb:=hbz w;go_wp2_with fail;refine aK (Hb.an trivial) (vR.out _) λw1 ae ai=>?_;have BV:=ae.1.out.size;have bI:Hid (Bw w (w1.iter (bs l) 0)):=ae.1.out.alloc zo _;have zO:Hid ((w1.iter (bs l) 0).heap[w1.heap.size]?=some (.stringIter (bs l) 0)):=World.iter_heap w1 (bs l) 0;skip
 go_wp2_with fail;go_loopw[3] (λs3 wr=>∃(k:Nat) (v:Value),k<=n/\v=s3/\wr.heap[w1.heap.size]?=some (.stringIter (bs l) k)/\wr.ownsRow w.heap.size 3 1 v k (ju (l.take k))/\Bw w wr) (λ_ wr=>n-wr.iterPos w1.heap.size);case atStart=>exact⟨0,_,Nat.zero_le _,rfl,zO.out,World.ownsRow_nil _ _ _ _,bI.out⟩
 case round=>
  clear bI zO;obtain⟨k,v,hk,rfl,hit,ho,hb⟩:=hrel;by_cases hlt:k<n
  . have hp:k<(bs l).size:=by rw[sL.out];exact hlt
    have h1:k<l.length:=by rw[Hn.out];exact hlt
    have hc:=fP.out _ (List.getElem_mem h1);have hg:=Cm.out k hp h1;obtain⟨c,hcc⟩:∃c:Nat,l[k].toNat=c:=⟨_,rfl⟩;rw[hcc]at hc hg;have AY:∀ty,(Instr.next (.pointer (some ⟨w1.heap.size,0,none⟩)) true ty).run Tryz.prog wr=_:=λty=>Lib.run_next_ascii_at wr w1.heap.size (bs l) k ty hit hp (by rw[hg];omega);rw[hg]at AY;have uW:IntKind.i64.wrap (c:Int)=(c:Int):=by rw[IntKind.wrap_i64];omega
    have bN:Hid (ju (l.take (k+1))=ju (l.take k)++[af (c:Int)]):=by
     show _=_
     rw[List.take_succ_eq_append_getElem h1,anQ,<-hcc];rfl
    have hgr:=aor wr w1.heap.size (bs l) (k+1);obtain⟨Ff,bI,qY⟩:=bM (Lib.iterAt_heap wr w1.heap.size (bs l) k (k+1) hit) (Lib.below_iterAt hb BV (bs l) (k+1)) (ho.kept hgr (row_ne_iter ho hit));have Il:wr.iterPos w1.heap.size=k:=by simp[World.iterPos,hit]
    have Pi:=aj Il;clear hgr Il hit ho hb hc hg hcc;generalize wr.iterAt w1.heap.size (bs l) (k+1)=W1 at AY Ff bI qY;have Hb:=hbz W1;obtain⟨cc,hcc⟩:∃cc:Int,(c:Int)=cc:=⟨_,rfl⟩;rw[hcc]at uW;simp only[hcc]at AY;rw[hcc]at bN;clear hcc;obtain⟨W2,ke,aG,ae,ai⟩:=bO W1 (Hb.an trivial) 3 [af cc];have hv:=ownsRow_below qY.out ae.2.1.out;have hs2:=ae.2.1.out.size;have hs1:=bI.out.size;have hnews:=fM ae.1.out;skip
    go_wp2_with (at_builtin;refine wpList_append_own_at _ rfl _ _ 28 rfl w.heap.size 3 i0 _ 1 8 Tryz.underlying28 Hi.out cu.out bV.out bX.out rfl zd v k (ju (l.take k)) rfl hv ⟨W1.heap.size,0,none⟩ 1 1 [af cc] rfl rfl hnews zy zx zo zo ?_;intro v' w3 AZ hg3 _ _;obtain⟨g',cq,rfl⟩:=ownsRow_succ AZ);have hlK:w1.heap.size<W1.heap.size:=(Array.getElem?_eq_some_iff.1 Ff.out).1;have hk2:W2.heap[w1.heap.size]?=some (.stringIter (bs l) (k+1)):=(ae.2.1.out.block _ hlK).trans Ff.out;have hk3:w3.heap[w1.heap.size]?=some (.stringIter (bs l) (k+1)):=by
     rw[hg3.block _ zo (by
      rcases row_ne_iter hv hk2 with h|h
      . rw[h];simp
      . exact λe=>h e.symm)]
     exact hk2
    have XG:=aj hk3;clear hk2 hk3;go_roundw;case rel=>
     refine⟨k+1,_,by omega,rfl,XG.out,?_,?_⟩
     . rw[bN.out];exact AZ
     . exact(bI.out.trans (ae.2.1.out.mono hs1)).grown hg3 zo (λj e=>cE hv j e)
    case measure=>
     have apW:w3.iterPos w1.heap.size=k+1:=by simp[World.iterPos,XG.out]
     rw[Pi.out,apW];omega
  . obtain rfl:k=n:=by omega
    have AY:∀ty,(Instr.next (.pointer (some ⟨w1.heap.size,0,none⟩)) true ty).run Tryz.prog wr=_:=λty=>Lib.run_next_end_at wr w1.heap.size (bs l) k ty hit (by rw[sL.out];omega);have ht:l.take k=l:=List.take_of_length_le (by rw[Hn.out];exact Nat.le_refl _);rw[ht]at ho;obtain⟨Ho,Hb⟩:=aH ho hb;clear ho hb ht hit;go_wp2;refine bodyPost_ret (results_tmp rfl _ _ _) rfl ⟨v,rfl,Ho.out,Hb.out⟩
def Rj (l:List UInt8):(l.flatMap λc=>[Value.int .i64 (c.toNat:Int)])=ju l:=by
 induction l with
 |nil=>rfl
 |cons c cs ih=>rw[List.flatMap_cons,ih];rfl
def degN (l:List UInt8):Nat:=(l.map λc=>c.toNat).sum
def ZC (l:List UInt8)(k:Nat)(h:k<l.length):degN (l.take (k+1))=degN (l.take k)+l[k].toNat:=by unfold degN;rw[List.take_succ_eq_append_getElem h,List.map_append,List.sum_append];simp
def ZB (l:List UInt8):degN l<=255*l.length:=by
 induction l with
 |nil=>simp[degN]
 | cons c cs ih=>
   have h:degN (c::cs)=c.toNat+degN cs:=by simp[degN]
   have h2:c.toNat<=255:=by have:=c.toNat_lt;omega
   rw[h,List.length_cons];omega
def ZE (l:List UInt8)(w:World)(hl:l.length<=1048576)(hall:∀c∈l,c.toNat<=127):
 Cv 75 #[ah l] w (af (degN l:Int)):=by
 have AP:=λW=>Rk l W hl hall;obtain⟨n,hn⟩:=au l.length;obtain⟨D,hD⟩:=au (degN l);rw[hD];have hle:∀k,degN (l.take k)<=267386880:=by
  intro k;have h1:=ZB (l.take k);have h2:(l.take k).length<=l.length:=by rw[List.length_take];exact Nat.min_le_right _ _
  omega
 rw[hn]at hl;simp only[hn]at AP;obtain⟨OJ,Hn,HD,sF⟩:=cG AP hn hD hle;clear AP hn hD hall hle;go_enter Tryz.func75,Tryz.ntmps75;have Hb:=hbz w;go_wp2_with fail;refine(OJ.out _).mono ?_;rintro e w1 ⟨v,rfl,ho,ak⟩;obtain⟨a,cap,rfl,hat,_⟩:=cw ho;have rG:At w1 a (l.flatMap λc=>[Value.int .i64 (c.toNat:Int)]):=by rw[Rj];exact hat
 have dV:=aj rG;replace Hb:=aj (aF Hb.out ak);clear ho hat rG ak;go_wp2_with fail;go_loopw[3,9] (λs3 x wr=>∃k:Nat,k<=n/\x=af (k:Int)/\s3=af (degN (l.take k):Int)/\wr=w1) (λ_ x _=>n-(intOf x).toNat);case atStart=>exact⟨0,Nat.zero_le _,rfl,rfl,rfl⟩
 case round=>
  obtain⟨k,hk,rfl,rfl,hw⟩:=hrel;subst hw;by_cases hlt:k<n
  . have h1:k<l.length:=by rw[Hn.out];exact hlt
    obtain⟨b,o,hab,hc⟩:=dV.out.elem (f:=λc:UInt8=>[Value.int .i64 (c.toNat:Int)]) (sz:=1) (λ_=>rfl) zd k h1;have p0:wr.cell? ⟨b,o+k,none⟩=some (af (l[k].toNat:Int)):=by simpa using hc 0 zd
    have aX:=IX n cap k (k:Int) hab hlt rfl;rw[Nat.mul_one]at aX;have hs:=ZC l k h1;have hb1:=sF.out k;have hb2:=sF.out (k+1);obtain⟨x,hx⟩:∃x:Int,(l[k].toNat:Int)=x:=⟨_,rfl⟩;obtain⟨y,hy⟩:∃y:Int,(degN (l.take k):Int)=y:=⟨_,rfl⟩;obtain⟨z,hz⟩:∃z:Int,(degN (l.take (k+1)):Int)=z:=⟨_,rfl⟩;have hadd:IntKind.i64.wrap (y+x)=z:=by rw[IntKind.wrap_i64];omega
    rw[hx]at p0;rw[hy];have Hz:=aj hz;clear hx hy hz hs hb1 hb2 hc hab;go_wp2;go_roundw;case rel=>exact⟨k+1,by omega,by go_num,by rw[Hz.out],trivial⟩
    case measure=>exact bi
  . obtain rfl:k=n:=by omega
    have ht:l.take k=l:=List.take_of_length_le (by rw[Hn.out];exact Nat.le_refl _);rw[ht,HD.out];clear ht;go_wp2;refine bodyPost_ret (results_tmp rfl _ _ _) rfl ⟨rfl,Hb.out⟩
end Go.Proofs.YtpfgffadgkkedaaGreatDoor
