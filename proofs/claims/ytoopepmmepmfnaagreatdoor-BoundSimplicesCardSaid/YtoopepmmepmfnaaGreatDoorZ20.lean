/- Package mono: Exps. -/
import Derived.Test.YtoopepmmepmfnaaGreatDoorZ9
import Derived.Test.YtoopepmmepmfnaaGreatDoorZ11
import Derived.Lib.OthersKept
set_option linter.unusedVariables false
set_option linter.unusedSimpArgs false
set_option maxRecDepth 100000
set_option maxHeartbeats 16000000
namespace Go.Proofs.YtoopepmmepmfnaaGreatDoor
open Go.RowKit
attribute [local go_sem ↓] Go.wp_at_zero Go.wp_at_succ
theorem Tryz.axn :(Tryz.prog.info? 3).map (λi=>(i.zero,i.size,i.bytes))=some (some (af 0),1,8):=by kernel_rfl
theorem akM (w:World)(k:Nat)(s:ByteArray)(pos:Nat):w.grownBy (w.iterAt k s pos) (some k):=
 ⟨rfl,rfl,rfl,by rw[Lib.iterAt_size];exact Nat.le_refl _,λi _ hne=>Lib.iterAt_other w k i s pos (λh=>hne (by rw[h]))⟩
theorem row_ne_iter {w:World}{B e size n:Nat}{v:Value}{xs:List Value}{k:Nat}{s:ByteArray}{pos:Nat}(h:w.ownsRow B e size v n xs)(hk:w.heap[k]?=some (.stringIter s pos)):v.ownBlock=none\/v.ownBlock≠some k:=by
 rcases h.2 with⟨rfl,_⟩ |⟨g,cap,cur,rfl,_,hg,_⟩
 . exact .inl rfl
 . refine .inr λe=>?_;simp only[Value.ownBlock,Option.some.injEq]at e;subst e;rw[hg]at hk;simp at hk
def uq (l:List UInt8):List Value:=l.map λc=>af (c.toNat:Int)
theorem ake (a b:List UInt8):uq (a++b)=uq a++uq b:=by simp[uq]
theorem akg (l:List UInt8)(w:World)(hl:l.length<=1048576)(hall:∀c∈l,c.toNat<=127):
 Calls Tryz.prog 158 #[.string (bs l)] w λe w'=>∃v,e=.returned v/\w'.ownsRow w.heap.size 3 1 v l.length (uq l)/\Bw w w':=by
 obtain⟨i0,hi,hz0,hz1,hz2⟩:=info_parts Tryz.axn;obtain⟨n,hn⟩:=aG l.length;have hsz:(bs l).size=n:=by rw[oP,hn]
 have jF:=λW=>LR l (n:Int) W zo;have hm:gp l (n:Int)=true:=by unfold gp;rw[hn];simp only[Bool.and_eq_true,List.all_eq_true,decide_eq_true_eq,and_true];exact hall
 rw[hm]at jF;have hget:∀k (h:k<(bs l).size) (h2:k<l.length),((bs l)[k]'h).toNat=l[k].toNat:=λk h h2=>by simp[bs,ByteArray.getElem_eq_getElem_data]
 rw[hn]at hl⊢;obtain⟨Hi,dF,dG,dm,Hn,sH,sA,Nl,jN⟩:=GV hi hz0 hz1 hz2 hn jF hall hget hsz;clear hi hz0 hz1 hz2 hn jF hm hall hget;go_enter Tryz.func158,Tryz.ntmps158;have Hb:Hid (Bw w w):=Below.refl _ _;go_wp2_with fail;refine(sH.out _).mono ?_;rintro e w1 ⟨rfl,ae⟩;replace Hb:=aB Hb ae;clear ae;have tW:=Hb.out.size;have bW:Hid (Bw w (w1.iter (bs l) 0)):=Hb.out.alloc zo _;have yP:Hid ((w1.iter (bs l) 0).heap[w1.heap.size]?=some (.stringIter (bs l) 0)):=World.iter_heap w1 (bs l) 0;clear Hb;go_wp2_with fail;go_loopw[3] (λs3 wr=>∃(k:Nat) (v:Value),k<=n/\v=s3/\wr.heap[w1.heap.size]?=some (.stringIter (bs l) k)/\wr.ownsRow w.heap.size 3 1 v k (uq (l.take k))/\Bw w wr) (λ_ wr=>n-wr.iterPos w1.heap.size);case atStart=>exact⟨0,_,Nat.zero_le _,rfl,yP.out,World.ownsRow_nil _ _ _ _,bW.out⟩
 case round=>
  clear bW yP;obtain⟨k,v,hk,rfl,hit,ho,hb⟩:=hrel;by_cases hlt:k<n
  . have hp:k<(bs l).size:=by rw[jN.out];exact hlt
    have h1:k<l.length:=by rw[Hn.out];exact hlt
    have hc:=sA.out _ (List.getElem_mem h1);have hg:=Nl.out k hp h1;obtain⟨c,hcc⟩:∃c:Nat,l[k].toNat=c:=⟨_,rfl⟩;rw[hcc]at hc hg;have Ai:∀ty,(Instr.next (.pointer (some ⟨w1.heap.size,0,none⟩)) true ty).run Tryz.prog wr=_:=λty=>Lib.run_next_ascii_at wr w1.heap.size (bs l) k ty hit hp (by rw[hg];omega);rw[hg]at Ai;have vM:IntKind.i64.wrap (c:Int)=(c:Int):=by rw[IntKind.wrap_i64];omega
    have bX:Hid (uq (l.take (k+1))=uq (l.take k)++[af (c:Int)]):=by
     show _=_
     rw[List.take_succ_eq_append_getElem h1,ake,<-hcc];rfl
    have hgr:=akM wr w1.heap.size (bs l) (k+1);obtain⟨Nr,bW,nH⟩:=cL (Lib.iterAt_heap wr w1.heap.size (bs l) k (k+1) hit) (Lib.below_iterAt hb tW (bs l) (k+1)) (ho.kept hgr (row_ne_iter ho hit));have xK:wr.iterPos w1.heap.size=k:=by simp[World.iterPos,hit]
    have NA:=ai xK;clear hgr xK hit ho hb hc hg hcc;generalize wr.iterAt w1.heap.size (bs l) (k+1)=W1 at Ai Nr bW nH;have Hb:Hid (Bw W1 W1):=Below.refl _ _;obtain⟨cc,hcc⟩:∃cc:Int,(c:Int)=cc:=⟨_,rfl⟩;rw[hcc]at vM;simp only[hcc]at Ai;rw[hcc]at bX;clear hcc;obtain⟨W2,mM,ae,Hd⟩:=cd W1 3 [af cc];have d0:=Hd.out.c1;replace Hb:=aB Hb ae;clear ae;have hv:=ownsRow_below nH.out Hb.out;have hs2:=Hb.out.size;have hs1:=bW.out.size;have hnews:=ic Hd.out;clear d0;go_wp2_with (at_builtin;refine wpList_append_own_at _ rfl _ _ 26 rfl w.heap.size 3 i0 _ 1 8 Tryz.underlying26 Hi.out dF.out dG.out dm.out rfl zd v k (uq (l.take k)) rfl hv ⟨W1.heap.size,0,none⟩ 1 1 [af cc] rfl rfl hnews zy zx zo zo ?_;intro v' w3 CN hg3 _ _;obtain⟨g',cq,rfl⟩:=ownsRow_succ CN);have hlK:w1.heap.size<W1.heap.size:=(Array.getElem?_eq_some_iff.1 Nr.out).1;have hk2:W2.heap[w1.heap.size]?=some (.stringIter (bs l) (k+1)):=(Hb.out.block _ hlK).trans Nr.out;have hk3:w3.heap[w1.heap.size]?=some (.stringIter (bs l) (k+1)):=by
     rw[hg3.block _ zo (by
      rcases row_ne_iter hv hk2 with h|h
      . rw[h];simp
      . exact λe=>h e.symm)]
     exact hk2
    have UV:=ai hk3;clear hk2 hk3;go_roundw;case rel=>
     refine⟨k+1,_,by omega,rfl,UV.out,?_,?_⟩
     . rw[bX.out];exact CN
     . exact(bW.out.trans (Hb.out.mono hs1)).grown hg3 zo (λj e=>dz hv j e)
    case measure=>
     have alU:w3.iterPos w1.heap.size=k+1:=by simp[World.iterPos,UV.out]
     rw[NA.out,alU];omega
  . obtain rfl:k=n:=by omega
    have Ai:∀ty,(Instr.next (.pointer (some ⟨w1.heap.size,0,none⟩)) true ty).run Tryz.prog wr=_:=λty=>Lib.run_next_end_at wr w1.heap.size (bs l) k ty hit (by rw[jN.out];omega);have ht:l.take k=l:=List.take_of_length_le (by rw[Hn.out];exact Nat.le_refl _);rw[ht]at ho;obtain⟨Ho,Hb⟩:=aO ho hb;clear ho hb ht hit;go_wp2;refine bodyPost_ret (results_tmp rfl _ _ _) rfl ⟨v,rfl,Ho.out,Hb.out⟩
theorem akf (l:List UInt8):(l.flatMap λc=>[Value.int .i64 (c.toNat:Int)])=uq l:=by
 induction l with
 |nil=>rfl
 |cons c cs ih=>rw[List.flatMap_cons,ih];rfl
def jP (l:List UInt8):Nat:=(l.map λc=>c.toNat).sum
theorem ajw (l:List UInt8)(k:Nat)(h:k<l.length):jP (l.take (k+1))=jP (l.take k)+l[k].toNat:=by unfold jP;rw[List.take_succ_eq_append_getElem h,List.map_append,List.sum_append];simp
theorem ajv (l:List UInt8):jP l<=255*l.length:=by
 induction l with
 |nil=>simp[jP]
 | cons c cs ih=>
   have h:jP (c::cs)=c.toNat+jP cs:=by simp[jP]
   have h2:c.toNat<=255:=by have:=c.toNat_lt;omega
   rw[h,List.length_cons];omega
theorem ajx (l:List UInt8)(w:World)(hl:l.length<=1048576)(hall:∀c∈l,c.toNat<=127):
 Calls Tryz.prog 103 #[ah l] w λe w'=>e=.returned (af (jP l:Int))/\Bw w w':=by
 have QE:=λW=>akg l W hl hall;obtain⟨n,hn⟩:=aG l.length;obtain⟨D,hD⟩:=aG (jP l);rw[hD];have hle:∀k,jP (l.take k)<=267386880:=by
  intro k;have h1:=ajv (l.take k);have h2:(l.take k).length<=l.length:=by rw[List.length_take];exact Nat.min_le_right _ _
  omega
 rw[hn]at hl;simp only[hn]at QE;obtain⟨afj,Hn,HD,BJ⟩:=dx QE hn hD hle;clear QE hn hD hall hle;go_enter Tryz.func103,Tryz.ntmps103;have Hb:Hid (Bw w w):=Below.refl _ _;go_wp2_with fail;refine(afj.out _).mono ?_;rintro e w1 ⟨v,rfl,ho,ae⟩;obtain⟨a,cap,rfl,hat,_⟩:=eo ho;have jm:At w1 a (l.flatMap λc=>[Value.int .i64 (c.toNat:Int)]):=by rw[akf];exact hat
 have eH:=ai jm;replace Hb:=ai (aJ Hb.out ae);clear ho hat jm ae;go_wp2_with fail;go_loopw[3,9] (λs3 x wr=>∃k:Nat,k<=n/\x=af (k:Int)/\s3=af (jP (l.take k):Int)/\wr=w1) (λ_ x _=>n-(intOf x).toNat);case atStart=>exact⟨0,Nat.zero_le _,rfl,rfl,rfl⟩
 case round=>
  obtain⟨k,hk,rfl,rfl,hw⟩:=hrel;subst hw;by_cases hlt:k<n
  . have h1:k<l.length:=by rw[Hn.out];exact hlt
    obtain⟨b,o,hab,hc⟩:=eH.out.elem (f:=λc:UInt8=>[Value.int .i64 (c.toNat:Int)]) (sz:=1) (λ_=>rfl) zd k h1;have p0:wr.cell? ⟨b,o+k,none⟩=some (af (l[k].toNat:Int)):=by simpa using hc 0 zd
    have bK:=xU n cap k (k:Int) hab hlt rfl;rw[Nat.mul_one]at bK;have hs:=ajw l k h1;have hb1:=BJ.out k;have hb2:=BJ.out (k+1);obtain⟨x,hx⟩:∃x:Int,(l[k].toNat:Int)=x:=⟨_,rfl⟩;obtain⟨y,hy⟩:∃y:Int,(jP (l.take k):Int)=y:=⟨_,rfl⟩;obtain⟨z,hz⟩:∃z:Int,(jP (l.take (k+1)):Int)=z:=⟨_,rfl⟩;have hadd:IntKind.i64.wrap (y+x)=z:=by rw[IntKind.wrap_i64];omega
    rw[hx]at p0;rw[hy];have Hz:=ai hz;clear hx hy hz hs hb1 hb2 hc hab;go_wp2;go_roundw;case rel=>exact⟨k+1,by omega,by go_num,by rw[Hz.out],trivial⟩
    case measure=>simp[intOf];omega
  . obtain rfl:k=n:=by omega
    have ht:l.take k=l:=List.take_of_length_le (by rw[Hn.out];exact Nat.le_refl _);rw[ht,HD.out];clear ht;go_wp2;refine bodyPost_ret (results_tmp rfl _ _ _) rfl ⟨rfl,Hb.out⟩
end Go.Proofs.YtoopepmmepmfnaaGreatDoor
