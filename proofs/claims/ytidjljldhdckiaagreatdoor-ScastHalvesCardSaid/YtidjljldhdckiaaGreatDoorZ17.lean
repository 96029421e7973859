/- Package ogeeref01: Div. -/
import Derived.Test.YtidjljldhdckiaaGreatDoorZ11
import Derived.Laws.AppendOwnNone
set_option maxRecDepth 100000
set_option maxHeartbeats 16000000
namespace Go.Proofs.YtidjljldhdckiaaGreatDoor
open Go.RowKit
attribute [local go_sem ↓] Go.wp_at_zero Go.wp_at_succ
theorem bd_two (r c : Nat) (hc : c <= 1) : bd (2 * r + c) 0 = c /\ ∀ j,bd (2 * r + c) (j + 1) = bd r j:=by
 unfold bd
 refine ⟨by simp;omega,fun j=>?_⟩
 rw [Nat.pow_succ',<- Nat.div_div_eq_div_mul,show (2 * r + c) / 2 = r by omega]
theorem ubs_two (n r c : Nat) (hc : c <= 1) : [.int .u8 (c : Int)] ++ ubs n (bd r) = ubs (1 + n) (bd (2 * r + c)):=by
 obtain ⟨h0,h1⟩:=bd_two r c hc
 apply List.ext_getElem?
 intro j
 cases j with
 | zero=>rw [ubs_get _ _ _ (by omega),h0];rfl
 | succ j =>
   rw [List.getElem?_append_right (by simp)]
   simp only [List.length_singleton,Nat.add_sub_cancel]
   by_cases hj : j < n
   . rw [ubs_get _ _ _ hj,ubs_get _ _ _ (by omega),h1]
   . rw [List.getElem?_eq_none (by rw [ubs_length];omega),List.getElem?_eq_none (by rw [ubs_length];omega)]
theorem ownsRow_one (W : World) (base : Nat) (e : TypeId) (x : Value) (hb : base <= W.heap.size) : (W.alloc (.cells #[x] e)).ownsRow base e 1 (.slice (some ⟨W.heap.size,0,none⟩) 1 1) 1 [x]:=
 ⟨rfl,.inr ⟨W.heap.size,1,#[x],rfl,hb,heap_alloc_new W _,Nat.le_refl _,by simp [maxLen],rfl,rfl⟩⟩
theorem cmp_ge (S u : Nat) : (0 <= cmpI S u) ↔ u <= S:=by
 unfold cmpI
 by_cases h1 : S < u
 . rw [if_pos h1];omega
 . rw [if_neg h1]
   by_cases h2 : u < S
   . rw [if_pos h2];omega
   . rw [if_neg h2];omega
theorem Bv.cells {w : World} {x : Value} {n v : Nat} (h : Bv w x n v) (hn : 0 < n) : ∃ b o cap,x = .slice (some ⟨b,o,none⟩) n cap /\ ∀ j,j < n -> w.cell? ⟨b,o + j,none⟩ = some (.int .u8 (bd v j : Int)):=by
 rcases h.2 with ⟨_,h2⟩ | ⟨b,o,cap,h1,_,h3⟩
 . omega
 . exact ⟨b,o,cap,h1,h3⟩
theorem Bv.set_other {w : World} {x : Value} {n v : Nat} (h : Bv w x n v) {a : Addr} (hne : ∀ b o n c,x = .slice (some ⟨b,o,none⟩) n c -> b ≠ a.block) (y : Value) : Bv (w.setCell a y) x n v:=by
 refine ⟨h.1,?_⟩
 rcases h.2 with h | ⟨b,o,cap,e,h1,hc⟩
 . exact .inl h
 . exact .inr ⟨b,o,cap,e,h1,fun j hj=>cell_set_ne (hne b o n cap e) (hc j hj)⟩
theorem wpList_cat {ops : Array Oper} {rest : List Oper} {o : Oper} {a : Act} {Q : Exit -> Act -> World -> Prop} (hgd : o.guard = none) (s x : Operand)
 (ho : o.op = .call { callee:=.builtin .append,args:=#[s,x],argTypes:=#[67,67] }) (W : World) (z : Value) (n r c : Nat) (hc : c <= 1) (hn : n <= 1099511627776) (hz : Bv W z n r)
 (hs : a.eval s = .slice (some ⟨W.heap.size,0,none⟩) 1 1) (hx : a.eval x = z)
 (h : ∀ v' w',Bv w' v' (1 + n) (2 * r + c) -> LiesV v' W.heap.size -> Below W.heap.size W w' -> wpList Tryz.prog ops Q rest (a.put o.dst v') w') : wpList Tryz.prog ops Q (o :: rest) a (W.alloc (.cells #[.int .u8 (c : Int)] 5)):=by
 obtain ⟨i0,hi,hz0,hz1,hz2⟩:=info_parts Tryz.infoB
 have hlt : 2 * r + c < 2 ^ (1 + n):=by
  have:=hz.1
  rw [Nat.add_comm 1 n,Nat.pow_succ];omega
 have hone:=ownsRow_one W W.heap.size 5 (.int .u8 (c : Int)) (Nat.le_refl _)
 have hb0 : Below W.heap.size W (W.alloc (.cells #[.int .u8 (c : Int)] 5)):=(Below.refl _ _).alloc (Nat.le_refl _) _
 rcases hz.2 with ⟨rfl,rfl⟩ | ⟨b,oo,cap,rfl,h1,hcs⟩
 . refine wpList_append_own_none hgd s x 67 ho W.heap.size 5 i0 1 Tryz.underlying67 hi _ 1 _ hs hone hx ?_
   refine h _ _ (Bv.of_own (base:=W.heap.size) (e:=5) ?_ hlt) (fun b o n c e=>by cases e;exact Nat.le_refl _) hb0
   rw [<- ubs_two 0 r c hc]
   exact hone
 . refine wpList_append_own _ hgd s x 67 ho W.heap.size 5 i0 (.int .u8 0) 1 1 Tryz.underlying67 hi hz0 hz1 hz2 rfl (by decide) _ 1 _ hs hone ⟨b,oo,none⟩ n cap (ubs n (bd r)) hx (by rw [ubs_length,Nat.mul_one]) ?_ ?_ (by simp [maxLen];omega) (by omega) (by simp) ?_
   . intro j u hj
     have hj2 : j < n:=by
      rcases Nat.lt_or_ge j n with h | h
      . exact h
      . rw [List.getElem?_eq_none (by rw [ubs_length];exact h)] at hj;cases hj
     rw [ubs_get _ _ _ hj2] at hj
     cases hj
     have e2 : ((⟨b,oo,none⟩ : Addr).add j) = ⟨b,oo + j,none⟩:=by simp [Addr.add]
     rw [e2];exact cell_new (hcs j hj2)
   . intro u hu
     unfold ubs at hu
     rw [List.mem_map] at hu
     obtain ⟨j,_,rfl⟩:=hu
     rfl
   . intro v' w' ho' hg' _
     refine h _ _ (Bv.of_own (base:=W.heap.size) (e:=5) ?_ hlt) (fun b o n c e=>ownsRow_base ho' b (by rw [e];rfl)) (hb0.grown hg' (by simp) (fun j e=>ownsRow_base hone j e))
     rw [<- ubs_two n r c hc]
     exact ho'
theorem rdiv_any (l m : List UInt8) (w : World) (hl : l.length <= 68719476736) (hm : m.length <= 68719476736) (h0 : 0 < nv m) :
 Calls Tryz.prog 83 #[.string (bs l),.string (bs m)] w fun e w'=>e = .returned (.tuple #[.string (bs (nt (nv l / nv m))),.string (bs (nt (nv l % nv m))),.bool true]) /\ Below w.heap.size w w':=by
 obtain ⟨i0,hi,hz0,hz1,hz2⟩:=info_parts Tryz.infoB
 have hL:=Nat.le_trans (blen_le (nv_bits l)) (show 8 * l.length <= 549755813888 by omega)
 have hU:=Nat.le_trans (blen_le (nv_bits m)) (show 8 * m.length <= 549755813888 by omega)
 have hb1:=rbits_any l w hl
 have hb2:=fun W=>rbits_any m W hm
 generalize nv l = v at *
 generalize nv m = u at *
 have hUp:=blen_pos h0
 have hLt:=blen_lt v
 generalize hLe : blen v = L at *
 generalize hUe : blen u = U at *
 have H1:=lid hb1;have H2:=lid hb2;have Hlt:=lid hLt;have HUe:=lid hUe
 clear hb1 hb2 hLt hLe hUe
 have hmk:=mk_bytes (L : Int) L rfl (by omega)
 have hU0 : ((U : Int) == 0) = false:=by simp;omega
 go_enter Tryz.func83,Tryz.ntmps83
 go_wp2_with fail
 refine H1.out.mono ?_
 rintro e w1 ⟨⟨X,rfl,hX⟩,hbw1⟩
 go_wp2_with fail
 refine (H2.out w1).mono ?_
 rintro e w2 ⟨⟨Y,rfl,hY⟩,hbw2⟩
 have HX:=lid (hX.below hbw2);have HY:=lid hY;have Hw:=lid (bnext hbw1 hbw2)
 clear hX hY hbw1 hbw2
 obtain ⟨ax,cx,rfl⟩:=HX.out.len
 obtain ⟨ay,cy,rfl⟩:=HY.out.len
 go_wp2_with fail
 go_loopw [10,11] (fun z i wr=>∃ k : Nat,k <= L /\ i = .int .i64 ((k : Int) - 1) /\ Bv wr z (blen (v / 2 ^ k % u)) (v / 2 ^ k % u) /\ LiesV z (w2.heap.size + 1) /\ Blk wr w2.heap.size 5 (ubs L (fun j=>if k <= j then bd (v / u) j else 0)) /\ Below w2.heap.size w2 wr) (fun _ i _=>(intOf i + 1).toNat)
 case atStart=>
  refine ⟨L,Nat.le_refl _,by go_num,?_,(fun b o n c e=>by cases e),?_,(Below.refl _ _).alloc (Nat.le_refl _) _⟩
  . rw [Nat.div_eq_of_lt Hlt.out,Nat.zero_mod]
    exact ⟨by simp [blen],.inl ⟨rfl,rfl⟩⟩
  . have e : ubs L (fun j=>if L <= j then bd (v / u) j else 0) = ubs L fun _=>0:=ubs_congr fun j hj=>by rw [if_neg (by omega)]
    rw [e];exact Blk.new _ _ _
 case round=>
  obtain ⟨k,hk,rfl,hz,hzl,hB,hb⟩:=hrel
  by_cases hk0 : 0 < k
  . obtain ⟨j,rfl⟩ : ∃ j,k = j + 1:=⟨k - 1,by omega⟩
    obtain ⟨r,c,q,e1,e2,e3,e4,e5⟩:=long_step v u j h0
    have e6:=long_bit v u j
    have hr : r < u:=by rw [<- e1];exact Nat.mod_lt _ h0
    have hc1 : c <= 1:=by rw [<- e2];exact bd_le v j
    rw [e1] at hz
    rw [e5] at e6
    obtain ⟨S,hS⟩ : ∃ S,2 * r + c = S:=⟨_,rfl⟩
    rw [hS] at e4 e6
    have hrb : blen r <= 549755813888:=Nat.le_trans (blen_mono (Nat.le_of_lt hr)) (by rw [HUe.out];omega)
    have hSb : blen S <= 549755813889:=by rw [<- hS];exact Nat.le_trans (blen_two r c hc1) (by omega)
    obtain ⟨bx,ox,cx',hxe,hcx⟩:=HX.out.cells (by omega)
    obtain ⟨rfl,rfl⟩ : ax = some ⟨bx,ox,none⟩ /\ cx = cx':=by
     simp only [Value.slice.injEq] at hxe
     exact ⟨hxe.1,hxe.2.2⟩
    have hcell : wr.cell? ⟨bx,ox + j,none⟩ = some (.int .u8 (c : Int)):=by rw [<- e2];exact cell_later hb (hcx j (by omega))
    have hix:=i67x5 L cx j (j : Int) (rfl : (some ⟨bx,ox,none⟩ : Option Addr) = _) (by omega) rfl
    rw [Nat.mul_one] at hix
    have Hz:=lid hz;have HB:=lid hB;have Hb:=lid hb;have He4:=lid e4;have He6:=lid e6;have HS:=lid hS
    have hs0:=hb.size;have hqb:=hB.lt
    have hj : ((j + 1 : Nat) : Int) - 1 = (j : Int):=by omega
    rw [hj]
    clear hz hB hb e1 e2 e3 e4 e5 e6 hS hxe hcx hj hk0
    go_wp2_with (first | (at_builtin;refine wpList_cat rfl _ _ rfl _ u10 (blen r) r c hc1 (by omega) Hz.out rfl rfl ?_;intro v' w3 hv' hl3 hb3))
    rw [HS.out] at hv'
    have Hv':=lid hv';have Hl3:=lid hl3;have Hb3:=lid hb3
    have hs3:=hb3.size
    clear hv' hl3 hb3 hzl hcell hix
    refine (rcut_any v' (1 + blen r) S w3 (by omega) Hv'.out).mono ?_
    rintro e w' ⟨⟨z,rfl,hz,hzl⟩,rfl⟩
    have Hz2:=lid hz;have Hzl:=lid (hzl _ Hl3.out);clear hz hzl
    have HY3:=lid (HY.out.below (bnext Hb.out Hb3.out))
    have HB3:=lid (HB.out.below Hb3.out)
    go_wp2_with fail
    refine (rcmp_any z _ (blen S) U S u w3 Hz2.out HY3.out (by omega) (by omega)).mono ?_
    rintro e w' ⟨rfl,rfl⟩
    by_cases hge : u <= S
    . have hc0 : 0 <= cmpI S u:=(cmp_ge S u).2 hge
      generalize cmpI S u = ci at *
      rw [if_pos hge] at He4 He6
      go_wp2_with fail
      refine (rminus_any z _ (blen S) U S u w3 Hz2.out HY3.out (by omega) (by omega) hge).mono ?_
      rintro e w4 ⟨⟨t,rfl,ht,htl⟩,hb4⟩
      have Ht:=lid ht;have Htl:=lid htl;have Hb4:=lid hb4;clear ht htl hb4
      go_wp2_with fail
      refine (rcut_any t (blen S) (S - u) w4 (by omega) Ht.out).mono ?_
      rintro e w' ⟨⟨t2,rfl,ht2,htl2⟩,rfl⟩
      have Ht2:=lid ht2;have Htl2:=lid (htl2 _ Htl.out);clear ht2 htl2
      have hB4:=HB3.out.below Hb4.out
      have q0 : w4.cell? ⟨w2.heap.size,j,none⟩ = some (.int .u8 0):=by rw [hB4.cell,ubs_get _ _ _ (by omega),if_neg (by omega)];rfl
      have qf : w4.frozen? ⟨w2.heap.size,j,none⟩ = false:=hB4.free _
      have hix2:=i67x5 L L j (j : Int) (rfl : (some ⟨w2.heap.size,0,none⟩ : Option Addr) = _) (by omega) rfl
      rw [Nat.mul_one,Nat.zero_add] at hix2
      have hB5:=hB4.set j (.int .u8 ((1 : Nat) : Int))
      rw [ubs_set,ubs_congr (g:=fun i=>if j <= i then bd (v / u) i else 0) fun i hi=>by
       by_cases e : i = j
       . subst e;rw [if_pos rfl,if_pos (Nat.le_refl _),He6.out];omega
       . rw [if_neg e]
         by_cases e2 : j + 1 <= i
         . rw [if_pos e2,if_pos (by omega)]
         . rw [if_neg e2,if_neg (by omega)]] at hB5
      have HB5:=lid hB5
      clear hB4 hB5
      go_wp2
      go_roundw
      case rel=>
       refine ⟨j,by omega,by go_num,?_,?_,HB5.out,?_⟩
       . rw [He4.out]
         exact Ht2.out.set_other (fun b o n c e=>by have:=Htl2.out b o n c e;dsimp only;omega) _
       . exact fun b o n c e=>by have:=Htl2.out b o n c e;omega
       . exact (bnext (bnext Hb.out Hb3.out) Hb4.out).setCell (Nat.le_refl _) _
      case measure=>simp [intOf]
    . have hc0 : ¬ 0 <= cmpI S u:=fun h=>hge ((cmp_ge S u).1 h)
      generalize cmpI S u = ci at *
      rw [if_neg hge] at He4 He6
      have HB5 : Hid (Blk w3 w2.heap.size 5 (ubs L (fun i=>if j <= i then bd (v / u) i else 0))):=by
       show Blk _ _ _ _
       rw [ubs_congr (g:=fun i=>if j + 1 <= i then bd (v / u) i else 0) fun i hi=>by
        by_cases e : i = j
        . subst e;rw [if_pos (Nat.le_refl _),if_neg (by omega),He6.out];omega
        . by_cases e2 : j + 1 <= i
          . rw [if_pos e2,if_pos (by omega)]
          . rw [if_neg e2,if_neg (by omega)]]
       exact HB3.out
      go_wp2
      go_roundw
      case rel=>exact ⟨j,by omega,by go_num,by rw [He4.out];exact Hz2.out,(fun b o n c e=>by have:=Hzl.out b o n c e;omega),HB5.out,bnext Hb.out Hb3.out⟩
      case measure=>simp [intOf]
  . obtain rfl : k = 0:=by omega
    have hq : v / u < 2 ^ L:=Nat.lt_of_le_of_lt (Nat.div_le_self v u) Hlt.out
    rw [ubs_congr (g:=bd (v / u)) fun j hj=>by rw [if_pos (Nat.zero_le _)]] at hB
    have Hq:=lid (Bv.of_blk hB hq)
    have e0 : v / 2 ^ 0 % u = v % u:=by simp
    rw [e0] at hz
    have hrb : blen (v % u) <= 549755813888:=Nat.le_trans (blen_mono (Nat.le_of_lt (Nat.mod_lt v h0))) (by rw [HUe.out];omega)
    have Hz:=lid hz;have Hb:=lid hb
    clear hB hq hz hb e0 hzl
    go_wp2_with fail
    refine (rtext_any _ L (v / u) wr (by omega) Hq.out).mono ?_
    rintro e w3 ⟨rfl,hb3⟩
    go_wp2_with fail
    refine (rtext_any u10 (blen (v % u)) (v % u) w3 (by omega) (Hz.out.below hb3)).mono ?_
    rintro e w4 ⟨rfl,hb4⟩
    have Hbz:=lid (bnext Hw.out (bnext Hb.out (bnext hb3 hb4)))
    clear hb3 hb4
    go_wp2
    go_ret3
    exact ⟨rfl,Hbz.out⟩
theorem rform_false (l : List UInt8) (w : World) (hl : l.length <= 68719476736) :
 Calls Tryz.prog 61 #[.agg #[.bool false,.string (bs l)]] w fun e w'=>e = .returned (.agg #[.bool (false),.string (bs (nt (nv l)))]) /\ Below w.heap.size w w':=by
 have hb:=Nat.le_trans (blen_le (nv_bits l)) (show 8 * l.length <= 1099511627776 by omega)
 have h1:=rbits_any l
 obtain ⟨v,hv⟩ : ∃ v,nv l = v:=⟨_,rfl⟩
 rw [hv] at hb ⊢
 simp only [hv] at h1
 obtain ⟨m,hm⟩ : ∃ m,nt v = m:=⟨_,rfl⟩
 have he:=bs_empty m
 obtain ⟨t,ht⟩ : ∃ t,m.isEmpty = t:=⟨_,rfl⟩
 have H1:=lid h1;have Hm:=lid hm
 clear h1 hv
 rw [hm]
 rw [ht] at he
 clear hm ht
 obtain ⟨W,hW_W⟩ : ∃ W,((w.alloc (.cells #[.bool false,.string (bs l)] 34)).alloc (.cells #[.bool false,.string ⟨#[]⟩] 34)) = W:=⟨_,rfl⟩
 have Hb : Hid (Below w.heap.size w W):=by rw [<- hW_W];exact (((Below.refl _ _).alloc (Nat.le_refl _) _).alloc (by simp<;>omega) _)
 have Hx : Hid (Blk W (w.heap.size) 34 [.bool false,.string (bs l)]):=by rw [<- hW_W];exact (Blk.newAt _ _ _ (by simp)).alloc _
 have Hr : Hid (Blk W (w.heap.size + 1) 34 [.bool false,.string ⟨#[]⟩]):=by rw [<- hW_W];exact Blk.newAt _ _ _ (by simp)
 obtain ⟨x0,x1⟩:=Hx.out.c2
 obtain ⟨r0,fr0,r1,fr1⟩:=Hr.out.g2
 go_enter Tryz.func61,Tryz.ntmps61
 go_wp2_with fail
 refine (H1.out _ (by omega)).mono ?_
 rintro e w1 ⟨⟨y,rfl,hy⟩,hbn⟩
 clear x0 x1
 clear r0 fr0 r1 fr1
 replace Hx:=kB Hx hbn
 replace Hr:=kB Hr hbn
 obtain ⟨x0,x1⟩:=Hx.out.c2
 obtain ⟨r0,fr0,r1,fr1⟩:=Hr.out.g2
 replace Hb:=bnx Hb hbn;clear hbn
 have Hy:=lid hy;clear hy
 go_wp2_with fail
 refine (rtext_any y _ _ _ hb Hy.out).mono ?_
 rintro e w2 ⟨rfl,hbn⟩
 clear x0 x1
 clear r0 fr0 r1 fr1
 replace Hx:=kB Hx hbn
 replace Hr:=kB Hr hbn
 obtain ⟨x0,x1⟩:=Hx.out.c2
 obtain ⟨r0,fr0,r1,fr1⟩:=Hr.out.g2
 replace Hb:=bnx Hb hbn;clear hbn
 rw [Hm.out]
 go_wp2
 clear x0 x1
 clear r0 fr0 r1 fr1
 refine body_world (fun w9=>Blk w9 (w.heap.size) 34 [.bool false,.string (bs l)] /\ Blk w9 (w.heap.size + 1) 34 [.bool (false),.string (bs m)] /\ Below w.heap.size w w9) ⟨((Hx.out.so (w.heap.size + 1) 0 (by omega) _).so (w.heap.size + 1) 1 (by omega) _),((Hr.out.set 0 _).set 1 _),((Hb.out.sc (w.heap.size + 1) 0 (by have:=Hb.out.size;omega) _).sc (w.heap.size + 1) 1 (by have:=Hb.out.size;omega) _)⟩ ?_
 rintro w9 ⟨qx,qr,hbn⟩
 replace Hx:=lid qx;clear qx
 replace Hr:=lid qr;clear qr
 obtain ⟨x0,x1⟩:=Hx.out.c2
 obtain ⟨r0,fr0,r1,fr1⟩:=Hr.out.g2
 replace Hb:=lid hbn;clear hbn
 refine bodyPost_ret (v:=.agg #[.bool (false),.string (bs m)]) (by simp [results,Tryz.results61,go_sem,r0,r1]) rfl ⟨rfl,Hb.out⟩
theorem rform_true (l : List UInt8) (w : World) (hl : l.length <= 68719476736) :
 Calls Tryz.prog 61 #[.agg #[.bool true,.string (bs l)]] w fun e w'=>e = .returned (.agg #[.bool (!(nt (nv l)).isEmpty),.string (bs (nt (nv l)))]) /\ Below w.heap.size w w':=by
 have hb:=Nat.le_trans (blen_le (nv_bits l)) (show 8 * l.length <= 1099511627776 by omega)
 have h1:=rbits_any l
 obtain ⟨v,hv⟩ : ∃ v,nv l = v:=⟨_,rfl⟩
 rw [hv] at hb ⊢
 simp only [hv] at h1
 obtain ⟨m,hm⟩ : ∃ m,nt v = m:=⟨_,rfl⟩
 have he:=bs_empty m
 obtain ⟨t,ht⟩ : ∃ t,m.isEmpty = t:=⟨_,rfl⟩
 have H1:=lid h1;have Hm:=lid hm
 clear h1 hv
 rw [hm,ht]
 rw [ht] at he
 clear hm ht
 obtain ⟨W,hW_W⟩ : ∃ W,((w.alloc (.cells #[.bool true,.string (bs l)] 34)).alloc (.cells #[.bool false,.string ⟨#[]⟩] 34)) = W:=⟨_,rfl⟩
 have Hb : Hid (Below w.heap.size w W):=by rw [<- hW_W];exact (((Below.refl _ _).alloc (Nat.le_refl _) _).alloc (by simp<;>omega) _)
 have Hx : Hid (Blk W (w.heap.size) 34 [.bool true,.string (bs l)]):=by rw [<- hW_W];exact (Blk.newAt _ _ _ (by simp)).alloc _
 have Hr : Hid (Blk W (w.heap.size + 1) 34 [.bool false,.string ⟨#[]⟩]):=by rw [<- hW_W];exact Blk.newAt _ _ _ (by simp)
 obtain ⟨x0,x1⟩:=Hx.out.c2
 obtain ⟨r0,fr0,r1,fr1⟩:=Hr.out.g2
 go_enter Tryz.func61,Tryz.ntmps61
 go_wp2_with fail
 refine (H1.out _ (by omega)).mono ?_
 rintro e w1 ⟨⟨y,rfl,hy⟩,hbn⟩
 clear x0 x1
 clear r0 fr0 r1 fr1
 replace Hx:=kB Hx hbn
 replace Hr:=kB Hr hbn
 obtain ⟨x0,x1⟩:=Hx.out.c2
 obtain ⟨r0,fr0,r1,fr1⟩:=Hr.out.g2
 replace Hb:=bnx Hb hbn;clear hbn
 have Hy:=lid hy;clear hy
 go_wp2_with fail
 refine (rtext_any y _ _ _ hb Hy.out).mono ?_
 rintro e w2 ⟨rfl,hbn⟩
 clear x0 x1
 clear r0 fr0 r1 fr1
 replace Hx:=kB Hx hbn
 replace Hr:=kB Hr hbn
 obtain ⟨x0,x1⟩:=Hx.out.c2
 obtain ⟨r0,fr0,r1,fr1⟩:=Hr.out.g2
 replace Hb:=bnx Hb hbn;clear hbn
 rw [Hm.out]
 go_wp2
 clear x0 x1
 clear r0 fr0 r1 fr1
 refine body_world (fun w9=>Blk w9 (w.heap.size) 34 [.bool true,.string (bs l)] /\ Blk w9 (w.heap.size + 1) 34 [.bool (!t),.string (bs m)] /\ Below w.heap.size w w9) ⟨((Hx.out.so (w.heap.size + 1) 0 (by omega) _).so (w.heap.size + 1) 1 (by omega) _),((Hr.out.set 0 _).set 1 _),((Hb.out.sc (w.heap.size + 1) 0 (by have:=Hb.out.size;omega) _).sc (w.heap.size + 1) 1 (by have:=Hb.out.size;omega) _)⟩ ?_
 rintro w9 ⟨qx,qr,hbn⟩
 replace Hx:=lid qx;clear qx
 replace Hr:=lid qr;clear qr
 obtain ⟨x0,x1⟩:=Hx.out.c2
 obtain ⟨r0,fr0,r1,fr1⟩:=Hr.out.g2
 replace Hb:=lid hbn;clear hbn
 refine bodyPost_ret (v:=.agg #[.bool (!t),.string (bs m)]) (by simp [results,Tryz.results61,go_sem,r0,r1]) rfl ⟨rfl,Hb.out⟩
theorem rform_any (s : Bool) (l : List UInt8) (w : World) (hl : l.length <= 68719476736) :
 Calls Tryz.prog 61 #[.agg #[.bool s,.string (bs l)]] w fun e w'=>e = .returned (.agg #[.bool (s && !(nt (nv l)).isEmpty),.string (bs (nt (nv l)))]) /\ Below w.heap.size w w':=by
 cases s
 . exact rform_false l w hl
 . exact rform_true l w hl
theorem rof2_nat (n : Nat) (w : World) (hn : n <= 9223372036854775807) :
 Calls Tryz.prog 41 #[.int .i64 (n : Int)] w fun e w'=>e = .returned (.agg #[.bool false,.string (bs (nt n))]) /\ Below w.heap.size w w':=by
 have h1:=fun W=>rof_any n W (by rw [WW_def];omega)
 have H1:=lid h1;clear h1
 have hw : IntKind.u64.wrap (n : Int) = (n : Int):=by rw [IntKind.wrap_u64];omega
 obtain ⟨m,hm⟩ : ∃ m,nt n = m:=⟨_,rfl⟩
 rw [hm]
 have Hm:=lid hm;clear hm
 obtain ⟨W,hW_W⟩ : ∃ W,(w.alloc (.cells #[.bool false,.string ⟨#[]⟩] 34)) = W:=⟨_,rfl⟩
 have Hb : Hid (Below w.heap.size w W):=by rw [<- hW_W];exact ((Below.refl _ _).alloc (Nat.le_refl _) _)
 have Hr : Hid (Blk W (w.heap.size) 34 [.bool false,.string ⟨#[]⟩]):=by rw [<- hW_W];exact Blk.newAt _ _ _ (by simp)
 obtain ⟨r0,fr0,r1,fr1⟩:=Hr.out.g2
 go_enter Tryz.func41,Tryz.ntmps41
 go_wp2_with fail
 refine (H1.out _).mono ?_
 rintro e w1 ⟨rfl,hbn⟩
 clear r0 fr0 r1 fr1
 replace Hr:=kB Hr hbn
 obtain ⟨r0,fr0,r1,fr1⟩:=Hr.out.g2
 replace Hb:=bnx Hb hbn;clear hbn
 rw [Hm.out]
 go_wp2
 clear r0 fr0 r1 fr1
 refine body_world (fun w9=>Blk w9 (w.heap.size) 34 [.bool false,.string (bs m)] /\ Below w.heap.size w w9) ⟨((Hr.out.set 0 _).set 1 _),((Hb.out.sc (w.heap.size) 0 (by have:=Hb.out.size;omega) _).sc (w.heap.size) 1 (by have:=Hb.out.size;omega) _)⟩ ?_
 rintro w9 ⟨qr,hbn⟩
 replace Hr:=lid qr;clear qr
 obtain ⟨r0,fr0,r1,fr1⟩:=Hr.out.g2
 replace Hb:=lid hbn;clear hbn
 refine bodyPost_ret (v:=.agg #[.bool false,.string (bs m)]) (by simp [results,Tryz.results41,go_sem,r0,r1]) rfl ⟨rfl,Hb.out⟩
theorem rlen_any (l : List UInt8) (w : World) (hl : l.length <= 68719476736) :
 Calls Tryz.prog 106 #[.string (bs l)] w fun e w'=>e = .returned (.int .i64 (blen (nv l) : Int)) /\ Below w.heap.size w w':=by
 go_enter Tryz.func106,Tryz.ntmps106
 go_wp2_with fail
 refine (rbits_any l w hl).mono ?_
 rintro e w1 ⟨⟨y,rfl,hy⟩,hbn⟩
 obtain ⟨a,cap,rfl⟩:=hy.len
 have Hb:=lid hbn;clear hy hbn
 go_wp2
 go_ret
 exact ⟨rfl,Hb.out⟩
theorem rsign_zero (s : Bool) (l : List UInt8) (w : World) (hl : l.length <= 68719476736) (h0 : nv l = 0) :
 Calls Tryz.prog 84 #[.agg #[.bool s,.string (bs l)]] w fun e w'=>e = .returned (.int .i64 0) /\ Below w.heap.size w w':=by
 have h1:=rlen_any l
 rw [h0] at h1
 have H1:=lid h1;clear h1 h0
 obtain ⟨W,hW_W⟩ : ∃ W,(w.alloc (.cells #[.bool s,.string (bs l)] 34)) = W:=⟨_,rfl⟩
 have Hb : Hid (Below w.heap.size w W):=by rw [<- hW_W];exact ((Below.refl _ _).alloc (Nat.le_refl _) _)
 have Hx : Hid (Blk W (w.heap.size) 34 [.bool s,.string (bs l)]):=by rw [<- hW_W];exact Blk.newAt _ _ _ (by simp)
 obtain ⟨x0,x1⟩:=Hx.out.c2
 go_enter Tryz.func84,Tryz.ntmps84
 go_wp2_with fail
 refine (H1.out _ hl).mono ?_
 rintro e w1 ⟨rfl,hbn⟩
 clear x0 x1
 replace Hx:=kB Hx hbn
 obtain ⟨x0,x1⟩:=Hx.out.c2
 replace Hb:=bnx Hb hbn;clear hbn
 rw [blen_zero]
 go_wp2
 go_ret
 exact ⟨rfl,Hb.out⟩
theorem rhalf_any (s : Bool) (n : Nat) (w : World) (h0 : 0 < n) (hl : (nt (2 * n)).length <= 68719476736) :
 Calls Tryz.prog 62 #[.agg #[.bool s,.string (bs (nt (2 * n)))],.agg #[.bool false,.string (bs (nt 2))]] w fun e w'=>e = .returned (.tuple #[.agg #[.bool s,.string (bs (nt n))],.agg #[.bool false,.string (bs [])],.bool true]) /\ Below w.heap.size w w':=by
 have hd:=fun W=>rdiv_any (nt (2 * n)) (nt 2) W hl (by decide) (by rw [nv_nt];decide)
 simp only [nv_nt] at hd
 have e1 : 2 * n / 2 = n:=by omega
 have e2 : 2 * n % 2 = 0:=by omega
 rw [e1,e2,nt_zero] at hd
 have hln : (nt n).length <= 68719476736:=Nat.le_trans (nt_length_le (Nat.lt_of_le_of_lt (show n <= 2 * n by omega) (lt_nt_length (2 * n)))) hl
 have hf:=fun W=>rform_any s (nt n) W hln
 have hg:=fun W=>rform_any s [] W (by decide)
 have hs:=fun W=>rsign_zero false [] W (by decide) rfl
 simp only [nv_nt,nv_nil,nt_zero,List.isEmpty_nil,Bool.not_true,Bool.and_false] at hf hg
 have e3 : (nt n).isEmpty = false:=by
  have:=nt_ne_nil h0
  cases h : nt n with
  | nil=>exact absurd h this
  | cons a b=>rfl
 rw [e3] at hf
 simp only [Bool.not_false,Bool.and_true] at hf
 generalize nt (2 * n) = L at *
 generalize nt n = M at *
 generalize nt 2 = T at *
 have Hd:=lid hd;have Hf:=lid hf;have Hg:=lid hg;have Hs:=lid hs
 clear hd hf hg hs e1 e2 e3 hl hln
 have hne : (s != false) = s:=by cases s<;>rfl
 obtain ⟨W,hW_W⟩ : ∃ W,((((w.alloc (.cells #[.bool s,.string (bs L)] 34)).alloc (.cells #[.bool false,.string (bs T)] 34)).alloc (.cells #[.bool false,.string ⟨#[]⟩] 34)).alloc (.cells #[.bool false,.string ⟨#[]⟩] 34)) = W:=⟨_,rfl⟩
 have Hb : Hid (Below w.heap.size w W):=by rw [<- hW_W];exact (((((Below.refl _ _).alloc (Nat.le_refl _) _).alloc (by simp<;>omega) _).alloc (by simp<;>omega) _).alloc (by simp<;>omega) _)
 have Hx : Hid (Blk W (w.heap.size) 34 [.bool s,.string (bs L)]):=by rw [<- hW_W];exact (((Blk.newAt _ _ _ (by simp)).alloc _).alloc _).alloc _
 have Hy : Hid (Blk W (w.heap.size + 1) 34 [.bool false,.string (bs T)]):=by rw [<- hW_W];exact ((Blk.newAt _ _ _ (by simp)).alloc _).alloc _
 have Hp : Hid (Blk W (w.heap.size + 1 + 1) 34 [.bool false,.string ⟨#[]⟩]):=by rw [<- hW_W];exact (Blk.newAt _ _ _ (by simp)).alloc _
 have Hq : Hid (Blk W (w.heap.size + 1 + 1 + 1) 34 [.bool false,.string ⟨#[]⟩]):=by rw [<- hW_W];exact Blk.newAt _ _ _ (by simp)
 obtain ⟨x0,x1⟩:=Hx.out.c2
 obtain ⟨y0,y1⟩:=Hy.out.c2
 obtain ⟨p0,fp0,p1,fp1⟩:=Hp.out.g2
 obtain ⟨q0,fq0,q1,fq1⟩:=Hq.out.g2
 go_enter Tryz.func62,Tryz.ntmps62
 go_wp2_with fail
 refine (Hd.out _).mono ?_
 rintro e w1 ⟨rfl,hbn⟩
 clear x0 x1
 clear y0 y1
 clear p0 fp0 p1 fp1
 clear q0 fq0 q1 fq1
 replace Hx:=kB Hx hbn
 replace Hy:=kB Hy hbn
 replace Hp:=kB Hp hbn
 replace Hq:=kB Hq hbn
 obtain ⟨x0,x1⟩:=Hx.out.c2
 obtain ⟨y0,y1⟩:=Hy.out.c2
 obtain ⟨p0,fp0,p1,fp1⟩:=Hp.out.g2
 obtain ⟨q0,fq0,q1,fq1⟩:=Hq.out.g2
 replace Hb:=bnx Hb hbn;clear hbn
 go_wp2_with fail
 refine (Hf.out _).mono ?_
 rintro e w2 ⟨rfl,hbn⟩
 clear x0 x1
 clear y0 y1
 clear p0 fp0 p1 fp1
 clear q0 fq0 q1 fq1
 replace Hx:=kB Hx hbn
 replace Hy:=kB Hy hbn
 replace Hp:=kB Hp hbn
 replace Hq:=kB Hq hbn
 obtain ⟨x0,x1⟩:=Hx.out.c2
 obtain ⟨y0,y1⟩:=Hy.out.c2
 obtain ⟨p0,fp0,p1,fp1⟩:=Hp.out.g2
 obtain ⟨q0,fq0,q1,fq1⟩:=Hq.out.g2
 replace Hb:=bnx Hb hbn;clear hbn
 have lz_x_W2:=Hx.out.lt
 have lz_y_W2:=Hy.out.lt
 have lz_p_W2:=Hp.out.lt
 have lz_q_W2:=Hq.out.lt
 obtain ⟨W2,hW_W2⟩ : ∃ W2,(w2.alloc (.cells #[.bool s,.string (bs M)] 34)) = W2:=⟨_,rfl⟩
 have hbn : Below w2.heap.size w2 W2:=by rw [<- hW_W2];exact ((Below.refl _ _).alloc (Nat.le_refl _) _)
 clear x0 x1
 replace Hx:=kB Hx hbn
 clear y0 y1
 replace Hy:=kB Hy hbn
 clear p0 fp0 p1 fp1
 replace Hp:=kB Hp hbn
 clear q0 fq0 q1 fq1
 replace Hq:=kB Hq hbn
 have Hu : Hid (Blk W2 (w2.heap.size) 34 [.bool s,.string (bs M)]):=by rw [<- hW_W2];exact Blk.newAt _ _ _ (by simp)
 obtain ⟨x0,x1⟩:=Hx.out.c2
 obtain ⟨y0,y1⟩:=Hy.out.c2
 obtain ⟨p0,fp0,p1,fp1⟩:=Hp.out.g2
 obtain ⟨q0,fq0,q1,fq1⟩:=Hq.out.g2
 obtain ⟨u0,u1⟩:=Hu.out.c2
 replace Hb:=bnx Hb hbn;clear hbn
 go_wp2_with fail
 refine (Hg.out _).mono ?_
 rintro e w3 ⟨rfl,hbn⟩
 clear x0 x1
 clear y0 y1
 clear p0 fp0 p1 fp1
 clear q0 fq0 q1 fq1
 clear u0 u1
 replace Hx:=kB Hx hbn
 replace Hy:=kB Hy hbn
 replace Hp:=kB Hp hbn
 replace Hq:=kB Hq hbn
 replace Hu:=kB Hu hbn
 obtain ⟨x0,x1⟩:=Hx.out.c2
 obtain ⟨y0,y1⟩:=Hy.out.c2
 obtain ⟨p0,fp0,p1,fp1⟩:=Hp.out.g2
 obtain ⟨q0,fq0,q1,fq1⟩:=Hq.out.g2
 obtain ⟨u0,u1⟩:=Hu.out.c2
 replace Hb:=bnx Hb hbn;clear hbn
 have lz_x_W3:=Hx.out.lt
 have lz_y_W3:=Hy.out.lt
 have lz_p_W3:=Hp.out.lt
 have lz_q_W3:=Hq.out.lt
 have lz_u_W3:=Hu.out.lt
 obtain ⟨W3,hW_W3⟩ : ∃ W3,(w3.alloc (.cells #[.bool false,.string (bs [])] 34)) = W3:=⟨_,rfl⟩
 have hbn : Below w3.heap.size w3 W3:=by rw [<- hW_W3];exact ((Below.refl _ _).alloc (Nat.le_refl _) _)
 clear x0 x1
 replace Hx:=kB Hx hbn
 clear y0 y1
 replace Hy:=kB Hy hbn
 clear p0 fp0 p1 fp1
 replace Hp:=kB Hp hbn
 clear q0 fq0 q1 fq1
 replace Hq:=kB Hq hbn
 clear u0 u1
 replace Hu:=kB Hu hbn
 have Hv : Hid (Blk W3 (w3.heap.size) 34 [.bool false,.string (bs [])]):=by rw [<- hW_W3];exact Blk.newAt _ _ _ (by simp)
 obtain ⟨x0,x1⟩:=Hx.out.c2
 obtain ⟨y0,y1⟩:=Hy.out.c2
 obtain ⟨p0,fp0,p1,fp1⟩:=Hp.out.g2
 obtain ⟨q0,fq0,q1,fq1⟩:=Hq.out.g2
 obtain ⟨u0,u1⟩:=Hu.out.c2
 obtain ⟨v0,v1⟩:=Hv.out.c2
 replace Hb:=bnx Hb hbn;clear hbn
 go_wp2_with fail
 refine (Hs.out _).mono ?_
 rintro e w4 ⟨rfl,hbn⟩
 clear x0 x1
 clear y0 y1
 clear p0 fp0 p1 fp1
 clear q0 fq0 q1 fq1
 clear u0 u1
 clear v0 v1
 replace Hx:=kB Hx hbn
 replace Hy:=kB Hy hbn
 replace Hp:=kB Hp hbn
 replace Hq:=kB Hq hbn
 replace Hu:=kB Hu hbn
 replace Hv:=kB Hv hbn
 obtain ⟨x0,x1⟩:=Hx.out.c2
 obtain ⟨y0,y1⟩:=Hy.out.c2
 obtain ⟨p0,fp0,p1,fp1⟩:=Hp.out.g2
 obtain ⟨q0,fq0,q1,fq1⟩:=Hq.out.g2
 obtain ⟨u0,u1⟩:=Hu.out.c2
 obtain ⟨v0,v1⟩:=Hv.out.c2
 replace Hb:=bnx Hb hbn;clear hbn
 go_wp2_with fail
 have lp:=Hp.out.lt;have lq:=Hq.out.lt
 refine wp_region_plan (fun w'=>w'.cell? ⟨w2.heap.size,0,none⟩ = some (.bool s) /\ w'.cell? ⟨w2.heap.size,1,none⟩ = some (.string (bs M)) /\ w'.cell? ⟨w3.heap.size,0,none⟩ = some (.bool false) /\ w'.cell? ⟨w3.heap.size,1,none⟩ = some (.string (bs []))) (fun i=>Nat.blt i 3) [(0,true),(1,true),(2,false),(3,false),(4,false)] (by kernel_rfl) (by kernel_rfl) rfl (by kernel_rfl) (fun o c a v w=>by cases o.dst<;>exact id) ⟨u0,u1,v0,v1⟩ ?_
 iterate 2 (refine planT rfl rfl (v:=?_) (fun w' hw'=>?_) ?_;rotate_left;(focus obtain ⟨q0,q1,q2,q3⟩:=hw';go_simp;try with_reducible rfl);try simp only [Act.put,U1,U2,U3])
 refine planF rfl rfl (fun K hK=>?_)
 go_simp
 refine hK _ _ (fun _=>⟨(cell_set_at (by first | (dsimp only;omega) | (simp<;>omega)) (cell_set_at (by first | (dsimp only;omega) | (simp<;>omega)) u0)),(cell_set_at (by first | (dsimp only;omega) | (simp<;>omega)) (cell_set_at (by first | (dsimp only;omega) | (simp<;>omega)) u1)),(cell_set_at (by first | (dsimp only;omega) | (simp<;>omega)) (cell_set_at (by first | (dsimp only;omega) | (simp<;>omega)) v0)),(cell_set_at (by first | (dsimp only;omega) | (simp<;>omega)) (cell_set_at (by first | (dsimp only;omega) | (simp<;>omega)) v1))⟩) ?_;clear hK K
 try simp only [Act.put,U1,U2,U3]
 clear x0 x1
 clear y0 y1
 clear p0 fp0 p1 fp1
 clear q0 fq0 q1 fq1
 clear u0 u1
 clear v0 v1
 refine plan_world (fun w5=>Blk w5 (w.heap.size) 34 [.bool s,.string (bs L)] /\ Blk w5 (w.heap.size + 1) 34 [.bool false,.string (bs T)] /\ Blk w5 (w.heap.size + 1 + 1) 34 [.bool s,.string (bs M)] /\ Blk w5 (w.heap.size + 1 + 1 + 1) 34 [.bool false,.string ⟨#[]⟩] /\ Blk w5 (w2.heap.size) 34 [.bool s,.string (bs M)] /\ Blk w5 (w3.heap.size) 34 [.bool false,.string (bs [])] /\ Below w.heap.size w w5) ⟨((Hx.out.so (w.heap.size + 1 + 1) 0 (by omega) _).so (w.heap.size + 1 + 1) 1 (by omega) _),((Hy.out.so (w.heap.size + 1 + 1) 0 (by omega) _).so (w.heap.size + 1 + 1) 1 (by omega) _),((Hp.out.set 0 _).set 1 _),((Hq.out.so (w.heap.size + 1 + 1) 0 (by omega) _).so (w.heap.size + 1 + 1) 1 (by omega) _),((Hu.out.so (w.heap.size + 1 + 1) 0 (by omega) _).so (w.heap.size + 1 + 1) 1 (by omega) _),((Hv.out.so (w.heap.size + 1 + 1) 0 (by omega) _).so (w.heap.size + 1 + 1) 1 (by omega) _),by first | exact ((Hb.out.sc (w.heap.size + 1 + 1) 0 (by have:=Hb.out.size;omega) _).sc (w.heap.size + 1 + 1) 1 (by have:=Hb.out.size;omega) _) | exact Below.drew ((Hb.out.sc (w.heap.size + 1 + 1) 0 (by have:=Hb.out.size;omega) _).sc (w.heap.size + 1 + 1) 1 (by have:=Hb.out.size;omega) _)⟩ ?_
 rintro w5 ⟨qx,qy,qp,qq,qu,qv,hbn⟩
 replace Hx:=lid qx;clear qx
 replace Hy:=lid qy;clear qy
 replace Hp:=lid qp;clear qp
 replace Hq:=lid qq;clear qq
 replace Hu:=lid qu;clear qu
 replace Hv:=lid qv;clear qv
 obtain ⟨x0,x1⟩:=Hx.out.c2
 obtain ⟨y0,y1⟩:=Hy.out.c2
 obtain ⟨p0,fp0,p1,fp1⟩:=Hp.out.g2
 obtain ⟨q0,fq0,q1,fq1⟩:=Hq.out.g2
 obtain ⟨u0,u1⟩:=Hu.out.c2
 obtain ⟨v0,v1⟩:=Hv.out.c2
 replace Hb:=lid hbn;clear hbn
 refine planF rfl rfl (fun K hK=>?_)
 go_simp
 refine hK _ _ (fun h=>absurd h (by decide)) ?_;clear hK K
 try simp only [Act.put,U1,U2,U3]
 clear x0 x1
 clear y0 y1
 clear p0 fp0 p1 fp1
 clear q0 fq0 q1 fq1
 clear u0 u1
 clear v0 v1
 refine plan_world (fun w6=>Blk w6 (w.heap.size) 34 [.bool s,.string (bs L)] /\ Blk w6 (w.heap.size + 1) 34 [.bool false,.string (bs T)] /\ Blk w6 (w.heap.size + 1 + 1) 34 [.bool s,.string (bs M)] /\ Blk w6 (w.heap.size + 1 + 1 + 1) 34 [.bool false,.string (bs [])] /\ Blk w6 (w2.heap.size) 34 [.bool s,.string (bs M)] /\ Blk w6 (w3.heap.size) 34 [.bool false,.string (bs [])] /\ Below w.heap.size w w6) ⟨((Hx.out.so (w.heap.size + 1 + 1 + 1) 0 (by omega) _).so (w.heap.size + 1 + 1 + 1) 1 (by omega) _),((Hy.out.so (w.heap.size + 1 + 1 + 1) 0 (by omega) _).so (w.heap.size + 1 + 1 + 1) 1 (by omega) _),((Hp.out.so (w.heap.size + 1 + 1 + 1) 0 (by omega) _).so (w.heap.size + 1 + 1 + 1) 1 (by omega) _),((Hq.out.set 0 _).set 1 _),((Hu.out.so (w.heap.size + 1 + 1 + 1) 0 (by omega) _).so (w.heap.size + 1 + 1 + 1) 1 (by omega) _),((Hv.out.so (w.heap.size + 1 + 1 + 1) 0 (by omega) _).so (w.heap.size + 1 + 1 + 1) 1 (by omega) _),by first | exact ((Hb.out.sc (w.heap.size + 1 + 1 + 1) 0 (by have:=Hb.out.size;omega) _).sc (w.heap.size + 1 + 1 + 1) 1 (by have:=Hb.out.size;omega) _) | exact Below.drew ((Hb.out.sc (w.heap.size + 1 + 1 + 1) 0 (by have:=Hb.out.size;omega) _).sc (w.heap.size + 1 + 1 + 1) 1 (by have:=Hb.out.size;omega) _)⟩ ?_
 rintro w6 ⟨qx,qy,qp,qq,qu,qv,hbn⟩
 replace Hx:=lid qx;clear qx
 replace Hy:=lid qy;clear qy
 replace Hp:=lid qp;clear qp
 replace Hq:=lid qq;clear qq
 replace Hu:=lid qu;clear qu
 replace Hv:=lid qv;clear qv
 obtain ⟨x0,x1⟩:=Hx.out.c2
 obtain ⟨y0,y1⟩:=Hy.out.c2
 obtain ⟨p0,fp0,p1,fp1⟩:=Hp.out.g2
 obtain ⟨q0,fq0,q1,fq1⟩:=Hq.out.g2
 obtain ⟨u0,u1⟩:=Hu.out.c2
 obtain ⟨v0,v1⟩:=Hv.out.c2
 replace Hb:=lid hbn;clear hbn
 refine planF rfl rfl (fun K hK=>?_)
 go_simp
 refine hK _ _ (fun h=>absurd h (by decide)) ?_;clear hK K
 try simp only [Act.put,U1,U2,U3]
 simp only [wpPlan]
 go_wp2
 refine bodyPost_ret (v:=.tuple #[.agg #[.bool s,.string (bs M)],.agg #[.bool false,.string (bs [])],.bool true]) (by simp [results,Tryz.results62,go_sem,p0,p1,q0,q1]) rfl ⟨rfl,Hb.out⟩
end Go.Proofs.YtidjljldhdckiaaGreatDoor
