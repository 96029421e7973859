/- Package mono: Exps. -/
import Derived.Test.YtidjljldhdckiaaGreatDoorZ9
import Derived.Test.YtidjljldhdckiaaGreatDoorZ11
import Derived.Lib.OthersKept
set_option maxRecDepth 100000
set_option maxHeartbeats 16000000
namespace Go.Proofs.YtidjljldhdckiaaGreatDoor
open Go.RowKit
attribute [local go_sem ↓] Go.wp_at_zero Go.wp_at_succ
theorem Tryz.infoInt : (Tryz.prog.info? 3).map (fun i=>(i.zero,i.size,i.bytes)) = some (some (.int .i64 0),1,8):=by kernel_rfl
theorem grownBy_iterAt (w : World) (k : Nat) (s : ByteArray) (pos : Nat) : w.grownBy (w.iterAt k s pos) (some k):=
 ⟨rfl,rfl,rfl,by rw [Lib.iterAt_size];exact Nat.le_refl _,fun i _ hne=>Lib.iterAt_other w k i s pos (fun h=>hne (by rw [h]))⟩
theorem row_ne_iter {w : World} {B e size n : Nat} {v : Value} {xs : List Value} {k : Nat} {s : ByteArray} {pos : Nat} (h : w.ownsRow B e size v n xs) (hk : w.heap[k]? = some (.stringIter s pos)) : v.ownBlock = none \/ v.ownBlock ≠ some k:=by
 rcases h.2 with ⟨rfl,_⟩ | ⟨g,cap,cur,rfl,_,hg,_⟩
 . exact .inl rfl
 . refine .inr fun e=>?_
   simp only [Value.ownBlock,Option.some.injEq] at e
   subst e
   rw [hg] at hk;simp at hk
def expC (l : List UInt8) : List Value:=l.map fun c=>.int .i64 (c.toNat : Int)
theorem expC_append (a b : List UInt8) : expC (a ++ b) = expC a ++ expC b:=by simp [expC]
theorem exps_any (l : List UInt8) (w : World) (hl : l.length <= 1048576) (hall : ∀ c ∈ l,c.toNat <= 127) :
 Calls Tryz.prog 76 #[.string (bs l)] w fun e w'=>∃ v,e = .returned v /\ w'.ownsRow w.heap.size 3 1 v l.length (expC l) /\ Below w.heap.size w w':=by
 obtain ⟨i0,hi,hz0,hz1,hz2⟩:=info_parts Tryz.infoInt
 obtain ⟨n,hn⟩ : ∃ n,l.length = n:=⟨_,rfl⟩
 have hsz : (bs l).size = n:=by rw [bs_size,hn]
 have hmay:=fun W=>mmay_any l (n : Int) W (by omega)
 have hm : mayM l (n : Int) = true:=by
  unfold mayM
  rw [hn]
  simp only [Bool.and_eq_true,List.all_eq_true,decide_eq_true_eq,and_true]
  exact hall
 rw [hm] at hmay
 have hget : ∀ k (h : k < (bs l).size) (h2 : k < l.length),((bs l)[k]'h).toNat = l[k].toNat:=fun k h h2=>by simp [bs,ByteArray.getElem_eq_getElem_data]
 rw [hn] at hl ⊢
 have Hi:=lid hi;have Hz0:=lid hz0;have Hz1:=lid hz1;have Hz2:=lid hz2
 have Hn:=lid hn;have Hmay:=lid hmay;have Hall:=lid hall;have Hget:=lid hget;have Hsz:=lid hsz
 clear hi hz0 hz1 hz2 hn hmay hm hall hget
 go_enter Tryz.func76,Tryz.ntmps76
 have Hb : Hid (Below w.heap.size w w):=Below.refl _ _
 go_wp2_with fail
 refine (Hmay.out _).mono ?_
 rintro e w1 ⟨rfl,hbn⟩
 replace Hb:=bnx Hb hbn;clear hbn
 have sz1:=Hb.out.size
 have Hb1 : Hid (Below w.heap.size w (w1.iter (bs l) 0)):=Hb.out.alloc (by omega) _
 have Hk0 : Hid ((w1.iter (bs l) 0).heap[w1.heap.size]? = some (.stringIter (bs l) 0)):=World.iter_heap w1 (bs l) 0
 clear Hb
 go_wp2_with fail
 go_loopw [3] (fun s3 wr=>∃ (k : Nat) (v : Value),k <= n /\ v = s3 /\ wr.heap[w1.heap.size]? = some (.stringIter (bs l) k) /\ wr.ownsRow w.heap.size 3 1 v k (expC (l.take k)) /\ Below w.heap.size w wr) (fun _ wr=>n - wr.iterPos w1.heap.size)
 case atStart=>exact ⟨0,_,Nat.zero_le _,rfl,Hk0.out,World.ownsRow_nil _ _ _ _,Hb1.out⟩
 case round=>
  clear Hb1 Hk0
  obtain ⟨k,v,hk,rfl,hit,ho,hb⟩:=hrel
  by_cases hlt : k < n
  . have hp : k < (bs l).size:=by rw [Hsz.out];exact hlt
    have h1 : k < l.length:=by rw [Hn.out];exact hlt
    have hc:=Hall.out _ (List.getElem_mem h1)
    have hg:=Hget.out k hp h1
    obtain ⟨c,hcc⟩ : ∃ c : Nat,l[k].toNat = c:=⟨_,rfl⟩
    rw [hcc] at hc hg
    have hnext : ∀ ty,(Instr.next (.pointer (some ⟨w1.heap.size,0,none⟩)) true ty).run Tryz.prog wr = _:=fun ty=>Lib.run_next_ascii_at wr w1.heap.size (bs l) k ty hit hp (by rw [hg];omega)
    rw [hg] at hnext
    have hconv : IntKind.i64.wrap (c : Int) = (c : Int):=by rw [IntKind.wrap_i64];omega
    have Hst : Hid (expC (l.take (k + 1)) = expC (l.take k) ++ [.int .i64 (c : Int)]):=by
     show _ = _
     rw [List.take_succ_eq_append_getElem h1,expC_append,<- hcc];rfl
    have hgr:=grownBy_iterAt wr w1.heap.size (bs l) (k + 1)
    have Hk1:=lid (Lib.iterAt_heap wr w1.heap.size (bs l) k (k + 1) hit)
    have Hb1:=lid (Lib.below_iterAt hb sz1 (bs l) (k + 1))
    have Ho1:=lid (ho.kept hgr (row_ne_iter ho hit))
    have hmu : wr.iterPos w1.heap.size = k:=by simp [World.iterPos,hit]
    have Hmu:=lid hmu
    clear hgr hmu hit ho hb hc hg hcc
    generalize wr.iterAt w1.heap.size (bs l) (k + 1) = W1 at hnext Hk1 Hb1 Ho1
    have Hb : Hid (Below W1.heap.size W1 W1):=Below.refl _ _
    obtain ⟨cc,hcc⟩ : ∃ cc : Int,(c : Int) = cc:=⟨_,rfl⟩
    rw [hcc] at hconv
    simp only [hcc] at hnext
    rw [hcc] at Hst
    clear hcc
    obtain ⟨W2,hW_W2⟩ : ∃ W2,(W1.alloc (.cells #[.int .i64 cc] 3)) = W2:=⟨_,rfl⟩
    have hbn : Below W1.heap.size W1 W2:=by rw [<- hW_W2];exact ((Below.refl _ _).alloc (Nat.le_refl _) _)
    have Hd : Hid (Blk W2 (W1.heap.size) 3 [.int .i64 cc]):=by rw [<- hW_W2];exact Blk.newAt _ _ _ (by simp)
    have d0:=Hd.out.c1
    replace Hb:=bnx Hb hbn;clear hbn
    have hv:=ownsRow_below Ho1.out Hb.out
    have hs2:=Hb.out.size
    have hs1:=Hb1.out.size
    have hnews:=blk_news Hd.out
    clear d0
    go_wp2_with (at_builtin;refine wpList_append_own_at _ rfl _ _ 133 rfl w.heap.size 3 i0 _ 1 8 Tryz.underlying133 Hi.out Hz0.out Hz1.out Hz2.out rfl (by decide) v k (expC (l.take k)) rfl hv ⟨W1.heap.size,0,none⟩ 1 1 [.int .i64 cc] rfl rfl hnews (by simp [Value.oneCell']) (by simp [maxLen];omega) (by omega) (by omega) ?_;intro v' w3 ho3 hg3 _ _;obtain ⟨g',cq,rfl⟩:=ownsRow_succ ho3)
    have hlK : w1.heap.size < W1.heap.size:=(Array.getElem?_eq_some_iff.1 Hk1.out).1
    have hk2 : W2.heap[w1.heap.size]? = some (.stringIter (bs l) (k + 1)):=(Hb.out.block _ hlK).trans Hk1.out
    have hk3 : w3.heap[w1.heap.size]? = some (.stringIter (bs l) (k + 1)):=by
     rw [hg3.block _ (by omega) (by
      rcases row_ne_iter hv hk2 with h | h
      . rw [h];simp
      . exact fun e=>h e.symm)]
     exact hk2
    have Hk3:=lid hk3
    clear hk2 hk3
    go_roundw
    case rel=>
     refine ⟨k + 1,_,by omega,rfl,Hk3.out,?_,?_⟩
     . rw [Hst.out];exact ho3
     . exact (Hb1.out.trans (Hb.out.mono hs1)).grown hg3 (by omega) (fun j e=>ownsRow_base hv j e)
    case measure=>
     have hmu2 : w3.iterPos w1.heap.size = k + 1:=by simp [World.iterPos,Hk3.out]
     rw [Hmu.out,hmu2];omega
  . obtain rfl : k = n:=by omega
    have hnext : ∀ ty,(Instr.next (.pointer (some ⟨w1.heap.size,0,none⟩)) true ty).run Tryz.prog wr = _:=fun ty=>Lib.run_next_end_at wr w1.heap.size (bs l) k ty hit (by rw [Hsz.out];omega)
    have ht : l.take k = l:=List.take_of_length_le (by rw [Hn.out];exact Nat.le_refl _)
    rw [ht] at ho
    have Ho:=lid ho;have Hb:=lid hb
    clear ho hb ht hit
    go_wp2
    refine bodyPost_ret (results_tmp rfl _ _ _) rfl ⟨v,rfl,Ho.out,Hb.out⟩
theorem expC_flat (l : List UInt8) : (l.flatMap fun c=>[Value.int .i64 (c.toNat : Int)]) = expC l:=by
 induction l with
 | nil=>rfl
 | cons c cs ih=>rw [List.flatMap_cons,ih];rfl
def degN (l : List UInt8) : Nat:=(l.map fun c=>c.toNat).sum
theorem degN_take (l : List UInt8) (k : Nat) (h : k < l.length) : degN (l.take (k + 1)) = degN (l.take k) + l[k].toNat:=by
 unfold degN
 rw [List.take_succ_eq_append_getElem h,List.map_append,List.sum_append];simp
theorem degN_le (l : List UInt8) : degN l <= 255 * l.length:=by
 induction l with
 | nil=>simp [degN]
 | cons c cs ih =>
   have h : degN (c :: cs) = c.toNat + degN cs:=by simp [degN]
   have h2 : c.toNat <= 255:=by have:=c.toNat_lt;omega
   rw [h,List.length_cons];omega
theorem degree_any (l : List UInt8) (w : World) (hl : l.length <= 1048576) (hall : ∀ c ∈ l,c.toNat <= 127) :
 Calls Tryz.prog 55 #[.string (bs l)] w fun e w'=>e = .returned (.int .i64 (degN l : Int)) /\ Below w.heap.size w w':=by
 have hexp:=fun W=>exps_any l W hl hall
 obtain ⟨n,hn⟩ : ∃ n,l.length = n:=⟨_,rfl⟩
 obtain ⟨D,hD⟩ : ∃ D,degN l = D:=⟨_,rfl⟩
 rw [hD]
 have hle : ∀ k,degN (l.take k) <= 267386880:=by
  intro k
  have h1:=degN_le (l.take k)
  have h2 : (l.take k).length <= l.length:=by rw [List.length_take];exact Nat.min_le_right _ _
  omega
 rw [hn] at hl
 simp only [hn] at hexp
 have Hexp:=lid hexp;have Hn:=lid hn;have HD:=lid hD;have Hle:=lid hle
 clear hexp hn hD hall hle
 go_enter Tryz.func55,Tryz.ntmps55
 have Hb : Hid (Below w.heap.size w w):=Below.refl _ _
 go_wp2_with fail
 refine (Hexp.out _).mono ?_
 rintro e w1 ⟨v,rfl,ho,hbn⟩
 obtain ⟨a,cap,rfl,hat,_⟩:=ownsRow_at ho
 have hat2 : At w1 a (l.flatMap fun c=>[Value.int .i64 (c.toNat : Int)]):=by
  rw [expC_flat];exact hat
 have Hat:=lid hat2
 replace Hb:=lid (bnext Hb.out hbn)
 clear ho hat hat2 hbn
 go_wp2_with fail
 go_loopw [3,9] (fun s3 x wr=>∃ k : Nat,k <= n /\ x = .int .i64 (k : Int) /\ s3 = .int .i64 (degN (l.take k) : Int) /\ wr = w1) (fun _ x _=>n - (intOf x).toNat)
 case atStart=>exact ⟨0,Nat.zero_le _,rfl,rfl,rfl⟩
 case round=>
  obtain ⟨k,hk,rfl,rfl,hw⟩:=hrel
  subst hw
  by_cases hlt : k < n
  . have h1 : k < l.length:=by rw [Hn.out];exact hlt
    obtain ⟨b,o,hab,hc⟩:=Hat.out.elem (f:=fun c : UInt8=>[Value.int .i64 (c.toNat : Int)]) (sz:=1) (fun _=>rfl) (by decide) k h1
    have p0 : wr.cell? ⟨b,o + k,none⟩ = some (.int .i64 (l[k].toNat : Int)):=by simpa using hc 0 (by decide)
    have hix:=i133x3 n cap k (k : Int) hab hlt rfl
    rw [Nat.mul_one] at hix
    have hs:=degN_take l k h1
    have hb1:=Hle.out k
    have hb2:=Hle.out (k + 1)
    obtain ⟨x,hx⟩ : ∃ x : Int,(l[k].toNat : Int) = x:=⟨_,rfl⟩
    obtain ⟨y,hy⟩ : ∃ y : Int,(degN (l.take k) : Int) = y:=⟨_,rfl⟩
    obtain ⟨z,hz⟩ : ∃ z : Int,(degN (l.take (k + 1)) : Int) = z:=⟨_,rfl⟩
    have hadd : IntKind.i64.wrap (y + x) = z:=by rw [IntKind.wrap_i64];omega
    rw [hx] at p0
    rw [hy]
    have Hz:=lid hz
    clear hx hy hz hs hb1 hb2 hc hab
    go_wp2
    go_roundw
    case rel=>exact ⟨k + 1,by omega,by go_num,by rw [Hz.out],trivial⟩
    case measure=>simp [intOf];omega
  . obtain rfl : k = n:=by omega
    have ht : l.take k = l:=List.take_of_length_le (by rw [Hn.out];exact Nat.le_refl _)
    rw [ht,HD.out]
    clear ht
    go_wp2
    refine bodyPost_ret (results_tmp rfl _ _ _) rfl ⟨rfl,Hb.out⟩
def totN (ts : List Trm) : Nat:=ts.foldl (fun n t=>max n (degN t.1)) 0
theorem totN_take (ts : List Trm) (k : Nat) (hk : k < ts.length) : totN (ts.take (k + 1)) = max (totN (ts.take k)) (degN ts[k].1):=by
 unfold totN
 rw [List.take_succ_eq_append_getElem hk,List.foldl_append];rfl
theorem total_any (V : Int) (a : Option Addr) (cap N : Nat) (ts : List Trm) (w : World) (hN : ts.length = N) (hn : N <= 1048576) (ha : At w a (ts.flatMap termC)) (hl : ∀ t ∈ ts,t.1.length <= 12 /\ ∀ c ∈ t.1,c.toNat <= 127) :
 Calls Tryz.prog 31 #[.agg #[.int .i64 V,.slice a N cap]] w fun e w'=>e = .returned (.int .i64 (totN ts : Int)) /\ Below w.heap.size w w':=by
 have Ha:=lid ha;have Hl:=lid hl;have HN:=lid hN
 clear ha hl hN
 obtain ⟨W,hW_W⟩ : ∃ W,(w.alloc (.cells #[.int .i64 V,.slice a N cap] 43)) = W:=⟨_,rfl⟩
 have Hb : Hid (Below w.heap.size w W):=by rw [<- hW_W];exact ((Below.refl _ _).alloc (Nat.le_refl _) _)
 have Hp : Hid (Blk W (w.heap.size) 43 [.int .i64 V,.slice a N cap]):=by rw [<- hW_W];exact Blk.newAt _ _ _ (by simp)
 obtain ⟨p0,p1⟩:=Hp.out.c2
 go_enter Tryz.func31,Tryz.ntmps31
 go_wp2_with fail
 go_loopw [3,9] (fun s3 x wr=>∃ k : Nat,k <= N /\ x = .int .i64 (k : Int) /\ s3 = .int .i64 (totN (ts.take k) : Int) /\ Below w.heap.size w wr) (fun _ x _=>N - (intOf x).toNat)
 case atStart=>exact ⟨0,Nat.zero_le _,rfl,rfl,Hb.out⟩
 case round=>
  clear Hb Hp p0 p1
  obtain ⟨k,hk,rfl,rfl,pb⟩:=hrel
  by_cases hlt : k < N
  . have hk2 : k < ts.length:=by rw [HN.out];exact hlt
    obtain ⟨l,s,m,e,hx⟩ : ∃ l s m e,ts[k] = (l,s,m,e):=⟨_,_,_,_,rfl⟩
    obtain ⟨b,o,hab,hwin⟩:=(Ha.out.below pb).term k hk2 hx
    have hl2:=Hl.out _ (List.getElem_mem hk2)
    have hst:=totN_take ts k hk2
    rw [hx] at hl2 hst
    have hix:=i41x49 N cap k (k : Int) hab hlt rfl
    obtain ⟨u,hu⟩ : ∃ u,totN (ts.take k) = u:=⟨_,rfl⟩
    rw [hu] at hst ⊢
    have Hp:=lid hwin;have Hst:=lid hst;have Hl2:=lid hl2;have Hpb:=lid pb
    clear hwin hst hl2 pb hx hab hu
    have Hb : Hid (Below wr.heap.size wr wr):=Below.refl _ _
    obtain ⟨p0,p1,p2,p3⟩:=Hp.out.w4
    have P0:=p0;have P1:=p1;have P2:=p2;have P3:=p3
    obtain ⟨W4,hW_W4⟩ : ∃ W4,(wr.alloc (.cells #[.string (bs l),.bool s,.string (bs m),.int .i64 e] 49)) = W4:=⟨_,rfl⟩
    have hbn : Below wr.heap.size wr W4:=by rw [<- hW_W4];exact ((Below.refl _ _).alloc (Nat.le_refl _) _)
    clear p0 p1 p2 p3
    replace Hp:=kW Hp hbn
    have Ht : Hid (Blk W4 (wr.heap.size) 49 [.string (bs l),.bool s,.string (bs m),.int .i64 e]):=by rw [<- hW_W4];exact Blk.newAt _ _ _ (by simp)
    obtain ⟨p0,p1,p2,p3⟩:=Hp.out.w4
    obtain ⟨t0,t1,t2,t3⟩:=Ht.out.c4
    replace Hb:=bnx Hb hbn;clear hbn
    go_wp2_with fail
    refine (degree_any l _ (by have:=Hl2.out.1;omega) Hl2.out.2).mono ?_
    rintro e w5 ⟨rfl,hbn⟩
    clear p0 p1 p2 p3
    clear t0 t1 t2 t3
    replace Hp:=kW Hp hbn
    replace Ht:=kB Ht hbn
    obtain ⟨p0,p1,p2,p3⟩:=Hp.out.w4
    obtain ⟨t0,t1,t2,t3⟩:=Ht.out.c4
    replace Hb:=bnx Hb hbn;clear hbn
    go_wp2
    go_roundw
    case rel=>exact ⟨k + 1,by omega,by go_num,by rw [Hst.out];simp;omega,bnext Hpb.out Hb.out⟩
    case measure=>simp [intOf];omega
  . obtain rfl : k = N:=by omega
    have hpt : ts.take k = ts:=List.take_of_length_le (by rw [HN.out];exact Nat.le_refl _)
    rw [hpt]
    go_wp2
    refine bodyPost_ret (results_tmp rfl _ _ _) rfl ⟨rfl,pb⟩
end Go.Proofs.YtidjljldhdckiaaGreatDoor
