/- Package mono: Exps. -/
import Derived.Test.YtoopepmmepmfnaaGreatDoorZ9
import Derived.Test.YtoopepmmepmfnaaGreatDoorZ11
import Derived.Lib.OthersKept
set_option linter.unusedVariables false
set_option linter.unusedSimpArgs false
set_option maxRecDepth 100000
set_option maxHeartbeats 16000000
namespace Go.Proofs.YtoopepmmepmfnaaGreatDoor
open Go.RowKit
attribute [local go_sem ↓] Go.wp_at_zero Go.wp_at_succ
theorem Tryz.aqV :(Tryz.prog.info? 3).map (λi=>(i.zero,i.size,i.bytes))=some (some (.int .i64 0),1,8):=by kernel_rfl
theorem afG (w:World)(k:Nat)(s:ByteArray)(pos:Nat):w.grownBy (w.iterAt k s pos) (some k):=
 ⟨rfl,rfl,rfl,by rw[Lib.iterAt_size];exact Nat.le_refl _,λi _ hne=>Lib.iterAt_other w k i s pos (λh=>hne (by rw[h]))⟩
theorem row_ne_iter {w:World}{B e size n:Nat}{v:Value}{xs:List Value}{k:Nat}{s:ByteArray}{pos:Nat}(h:w.ownsRow B e size v n xs)(hk:w.heap[k]?=some (.stringIter s pos)):v.ownBlock=none\/v.ownBlock≠some k:=by
 rcases h.2 with⟨rfl,_⟩ |⟨g,cap,cur,rfl,_,hg,_⟩
 . exact .inl rfl
 . refine .inr λe=>?_;simp only[Value.ownBlock,Option.some.injEq]at e;subst e;rw[hg]at hk;simp at hk
def pR (l:List UInt8):List Value:=l.map λc=>.int .i64 (c.toNat:Int)
theorem afa (a b:List UInt8):pR (a++b)=pR a++pR b:=by simp[pR]
theorem afc (l:List UInt8)(w:World)(hl:l.length<=1048576)(hall:∀c∈l,c.toNat<=127):
 Calls Tryz.prog 158 #[.string (bs l)] w λe w'=>∃v,e=.returned v/\w'.ownsRow w.heap.size 3 1 v l.length (pR l)/\Bw w w':=by
 obtain⟨i0,hi,hz0,hz1,hz2⟩:=info_parts Tryz.aqV;obtain⟨n,hn⟩:=az l.length;have hsz:(bs l).size=n:=by rw[lV,hn]
 have je:=λW=>Fx l (n:Int) W zo;have hm:fP l (n:Int)=true:=by unfold fP;rw[hn];simp only[Bool.and_eq_true,List.all_eq_true,decide_eq_true_eq,and_true];exact hall
 rw[hm]at je;have hget:∀k (h:k<(bs l).size) (h2:k<l.length),((bs l)[k]'h).toNat=l[k].toNat:=λk h h2=>by simp[bs,ByteArray.getElem_eq_getElem_data]
 rw[hn]at hl⊢;obtain⟨Hi,fC,fJ,eF,Hn,rA,sS,Iq,kY⟩:=Fa hi hz0 hz1 hz2 hn je hall hget hsz;clear hi hz0 hz1 hz2 hn je hm hall hget;go_enter Tryz.func158,Tryz.ntmps158;have Hb:Hid (Bw w w):=Below.refl _ _;go_wp2_with fail;refine(rA.out _).mono ?_;rintro e w1 ⟨rfl,ae⟩;replace Hb:=ak Hb ae;clear ae;have sN:=Hb.out.size;have bZ:Hid (Bw w (w1.iter (bs l) 0)):=Hb.out.alloc zo _;have uT:Hid ((w1.iter (bs l) 0).heap[w1.heap.size]?=some (.stringIter (bs l) 0)):=World.iter_heap w1 (bs l) 0;clear Hb;go_wp2_with fail;go_loopw[3] (λs3 wr=>∃(k:Nat) (v:Value),k<=n/\v=s3/\wr.heap[w1.heap.size]?=some (.stringIter (bs l) k)/\wr.ownsRow w.heap.size 3 1 v k (pR (l.take k))/\Bw w wr) (λ_ wr=>n-wr.iterPos w1.heap.size);case atStart=>exact⟨0,_,Nat.zero_le _,rfl,uT.out,World.ownsRow_nil _ _ _ _,bZ.out⟩
 case round=>
  clear bZ uT;obtain⟨k,v,hk,rfl,hit,ho,hb⟩:=hrel;by_cases hlt:k<n
  . have hp:k<(bs l).size:=by rw[kY.out];exact hlt
    have h1:k<l.length:=by rw[Hn.out];exact hlt
    have hc:=sS.out _ (List.getElem_mem h1);have hg:=Iq.out k hp h1;obtain⟨c,hcc⟩:∃c:Nat,l[k].toNat=c:=⟨_,rfl⟩;rw[hcc]at hc hg;have vT:∀ty,(Instr.next (.pointer (some ⟨w1.heap.size,0,none⟩)) true ty).run Tryz.prog wr=_:=λty=>Lib.run_next_ascii_at wr w1.heap.size (bs l) k ty hit hp (by rw[hg];omega);rw[hg]at vT;have rR:IntKind.i64.wrap (c:Int)=(c:Int):=by rw[IntKind.wrap_i64];omega
    have bR:Hid (pR (l.take (k+1))=pR (l.take k)++[.int .i64 (c:Int)]):=by
     show _=_
     rw[List.take_succ_eq_append_getElem h1,afa,<-hcc];rfl
    have hgr:=afG wr w1.heap.size (bs l) (k+1);obtain⟨Iy,bZ,zN⟩:=cP (Lib.iterAt_heap wr w1.heap.size (bs l) k (k+1) hit) (Lib.below_iterAt hb sN (bs l) (k+1)) (ho.kept hgr (row_ne_iter ho hit));have Ux:wr.iterPos w1.heap.size=k:=by simp[World.iterPos,hit]
    have Hmu:=af Ux;clear hgr Ux hit ho hb hc hg hcc;generalize wr.iterAt w1.heap.size (bs l) (k+1)=W1 at vT Iy bZ zN;have Hb:Hid (Bw W1 W1):=Below.refl _ _;obtain⟨cc,hcc⟩:∃cc:Int,(c:Int)=cc:=⟨_,rfl⟩;rw[hcc]at rR;simp only[hcc]at vT;rw[hcc]at bR;clear hcc;obtain⟨W2,kz,ae,Hd⟩:=bH W1 3 [.int .i64 cc];have d0:=Hd.out.c1;replace Hb:=ak Hb ae;clear ae;have hv:=ownsRow_below zN.out Hb.out;have hs2:=Hb.out.size;have hs1:=bZ.out.size;have hnews:=jL Hd.out;clear d0;go_wp2_with (at_builtin;refine wpList_append_own_at _ rfl _ _ 26 rfl w.heap.size 3 i0 _ 1 8 Tryz.underlying26 Hi.out fC.out fJ.out eF.out rfl zd v k (pR (l.take k)) rfl hv ⟨W1.heap.size,0,none⟩ 1 1 [.int .i64 cc] rfl rfl hnews zy zx zo zo ?_;intro v' w3 UG hg3 _ _;obtain⟨g',cq,rfl⟩:=ownsRow_succ UG);have hlK:w1.heap.size<W1.heap.size:=(Array.getElem?_eq_some_iff.1 Iy.out).1;have hk2:W2.heap[w1.heap.size]?=some (.stringIter (bs l) (k+1)):=(Hb.out.block _ hlK).trans Iy.out;have hk3:w3.heap[w1.heap.size]?=some (.stringIter (bs l) (k+1)):=by
     rw[hg3.block _ zo (by
      rcases row_ne_iter hv hk2 with h|h
      . rw[h];simp
      . exact λe=>h e.symm)]
     exact hk2
    have PD:=af hk3;clear hk2 hk3;go_roundw;case rel=>
     refine⟨k+1,_,by omega,rfl,PD.out,?_,?_⟩
     . rw[bR.out];exact UG
     . exact(bZ.out.trans (Hb.out.mono hs1)).grown hg3 zo (λj e=>eJ hv j e)
    case measure=>
     have agI:w3.iterPos w1.heap.size=k+1:=by simp[World.iterPos,PD.out]
     rw[Hmu.out,agI];omega
  . obtain rfl:k=n:=by omega
    have vT:∀ty,(Instr.next (.pointer (some ⟨w1.heap.size,0,none⟩)) true ty).run Tryz.prog wr=_:=λty=>Lib.run_next_end_at wr w1.heap.size (bs l) k ty hit (by rw[kY.out];omega);have ht:l.take k=l:=List.take_of_length_le (by rw[Hn.out];exact Nat.le_refl _);rw[ht]at ho;obtain⟨Ho,Hb⟩:=aJ ho hb;clear ho hb ht hit;go_wp2;refine bodyPost_ret (results_tmp rfl _ _ _) rfl ⟨v,rfl,Ho.out,Hb.out⟩
theorem afb (l:List UInt8):(l.flatMap λc=>[Value.int .i64 (c.toNat:Int)])=pR l:=by
 induction l with
 |nil=>rfl
 |cons c cs ih=>rw[List.flatMap_cons,ih];rfl
def gU (l:List UInt8):Nat:=(l.map λc=>c.toNat).sum
theorem aeu (l:List UInt8)(k:Nat)(h:k<l.length):gU (l.take (k+1))=gU (l.take k)+l[k].toNat:=by unfold gU;rw[List.take_succ_eq_append_getElem h,List.map_append,List.sum_append];simp
theorem aet (l:List UInt8):gU l<=255*l.length:=by
 induction l with
 |nil=>simp[gU]
 | cons c cs ih=>
   have h:gU (c::cs)=c.toNat+gU cs:=by simp[gU]
   have h2:c.toNat<=255:=by have:=c.toNat_lt;omega
   rw[h,List.length_cons];omega
theorem aev (l:List UInt8)(w:World)(hl:l.length<=1048576)(hall:∀c∈l,c.toNat<=127):
 Calls Tryz.prog 103 #[.string (bs l)] w λe w'=>e=.returned (.int .i64 (gU l:Int))/\Bw w w':=by
 have Ll:=λW=>afc l W hl hall;obtain⟨n,hn⟩:=az l.length;obtain⟨D,hD⟩:=az (gU l);rw[hD];have hle:∀k,gU (l.take k)<=267386880:=by
  intro k;have h1:=aet (l.take k);have h2:(l.take k).length<=l.length:=by rw[List.length_take];exact Nat.min_le_right _ _
  omega
 rw[hn]at hl;simp only[hn]at Ll;obtain⟨aag,Hn,HD,xh⟩:=dt Ll hn hD hle;clear Ll hn hD hall hle;go_enter Tryz.func103,Tryz.ntmps103;have Hb:Hid (Bw w w):=Below.refl _ _;go_wp2_with fail;refine(aag.out _).mono ?_;rintro e w1 ⟨v,rfl,ho,ae⟩;obtain⟨a,cap,rfl,hat,_⟩:=eI ho;have oQ:At w1 a (l.flatMap λc=>[Value.int .i64 (c.toNat:Int)]):=by rw[afb];exact hat
 have ej:=af oQ;replace Hb:=af (aG Hb.out ae);clear ho hat oQ ae;go_wp2_with fail;go_loopw[3,9] (λs3 x wr=>∃k:Nat,k<=n/\x=.int .i64 (k:Int)/\s3=.int .i64 (gU (l.take k):Int)/\wr=w1) (λ_ x _=>n-(intOf x).toNat);case atStart=>exact⟨0,Nat.zero_le _,rfl,rfl,rfl⟩
 case round=>
  obtain⟨k,hk,rfl,rfl,hw⟩:=hrel;subst hw;by_cases hlt:k<n
  . have h1:k<l.length:=by rw[Hn.out];exact hlt
    obtain⟨b,o,hab,hc⟩:=ej.out.elem (f:=λc:UInt8=>[Value.int .i64 (c.toNat:Int)]) (sz:=1) (λ_=>rfl) zd k h1;have p0:wr.cell? ⟨b,o+k,none⟩=some (.int .i64 (l[k].toNat:Int)):=by simpa using hc 0 zd
    have aX:=sf n cap k (k:Int) hab hlt rfl;rw[Nat.mul_one]at aX;have hs:=aeu l k h1;have hb1:=xh.out k;have hb2:=xh.out (k+1);obtain⟨x,hx⟩:∃x:Int,(l[k].toNat:Int)=x:=⟨_,rfl⟩;obtain⟨y,hy⟩:∃y:Int,(gU (l.take k):Int)=y:=⟨_,rfl⟩;obtain⟨z,hz⟩:∃z:Int,(gU (l.take (k+1)):Int)=z:=⟨_,rfl⟩;have hadd:IntKind.i64.wrap (y+x)=z:=by rw[IntKind.wrap_i64];omega
    rw[hx]at p0;rw[hy];have Hz:=af hz;clear hx hy hz hs hb1 hb2 hc hab;go_wp2;go_roundw;case rel=>exact⟨k+1,by omega,by go_num,by rw[Hz.out],trivial⟩
    case measure=>simp[intOf];omega
  . obtain rfl:k=n:=by omega
    have ht:l.take k=l:=List.take_of_length_le (by rw[Hn.out];exact Nat.le_refl _);rw[ht,HD.out];clear ht;go_wp2;refine bodyPost_ret (results_tmp rfl _ _ _) rfl ⟨rfl,Hb.out⟩
end Go.Proofs.YtoopepmmepmfnaaGreatDoor
