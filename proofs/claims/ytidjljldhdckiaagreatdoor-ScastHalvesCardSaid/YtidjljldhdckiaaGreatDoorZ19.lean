/- Package simp: a form times a sum of shares. -/
import Derived.Test.YtidjljldhdckiaaGreatDoorZ14
import Derived.Test.YtidjljldhdckiaaGreatDoorZ18
import Derived.Test.YtidjljldhdckiaaGreatDoorZ7
import Derived.Laws.IdiomStrings
import Derived.Test.YtidjljldhdckiaaGreatDoorZ11
set_option maxRecDepth 100000
set_option maxHeartbeats 16000000
namespace Go.Proofs.YtidjljldhdckiaaGreatDoor
open Go.RowKit
attribute [local go_sem ↓] Go.wp_at_zero Go.wp_at_succ
def Bts (w : World) (b : Nat) (l : List UInt8) : Prop:=∀ j (hj : j < l.length),w.cell? ⟨b,j,none⟩ = some (.int .u8 (l[j].toNat : Int)) /\ w.frozen? ⟨b,j,none⟩ = false
theorem Bts.below {w w' : World} {b : Nat} {l : List UInt8} (h : Bts w b l) (hb : Below w.heap.size w w') : Bts w' b l:=fun j hj=>⟨cell_later hb (h j hj).1,by
 have h1:=World.block_lt_of_cell? w _ (h j hj).1
 rw [World.frozen?_of_block (a:=⟨b,j,none⟩) (w:=w) (hb.block b h1)]
 exact (h j hj).2⟩
theorem str_bytes (l : List UInt8) (w : World) : ∃ c W',(convert 9 67 (.string (bs l))).run Tryz.prog w = .ok (.slice (some ⟨w.heap.size,0,none⟩) l.length c) W' /\ Below w.heap.size w W' /\ w.heap.size < W'.heap.size /\ Bts W' w.heap.size l:=by
 have h:=run_bytes_of_string (P:=Tryz.prog) w 9 67 5 (bs l) Tryz.underlying9 Tryz.underlying67 Tryz.underlying5
 refine ⟨_,_,by rw [h,bs_size],((Below.refl _ _).drew).alloc (Nat.le_refl _) _,by simp,fun j hj=>?_⟩
 have hs : j < (bs l).data.size:=by simpa [bs] using hj
 have hb:=bytesRow_at (bs l) (grownCap w (bs l).size 0 5) j hs
 refine ⟨?_,?_⟩
 . have:=World.cell?_alloc_mark w.drew (bytesRow (bs l) (grownCap w (bs l).size 0 5)) 5 ((bytesRow (bs l) (grownCap w (bs l).size 0 5)).size,(bytesRow (bs l) (grownCap w (bs l).size 0 5)).size + 1) j
   refine this.trans (hb.trans ?_)
   simp [bs]
 . have:=World.frozen?_alloc_mark w.drew (bytesRow (bs l) (grownCap w (bs l).size 0 5)) 5 (bytesRow (bs l) (grownCap w (bs l).size 0 5)).size ((bytesRow (bs l) (grownCap w (bs l).size 0 5)).size + 1) j
   refine this.trans ?_
   have hlt:=(Array.getElem?_eq_some_iff.1 hb).1
   simp;omega
theorem Bts.back {w : World} {b : Nat} {l : List UInt8} (h : Bts w b l) (cap : Nat) : (convert 67 9 (.slice (some ⟨b,0,none⟩) l.length cap)).run Tryz.prog w = .ok (.string (bs l)) w:=
 run_convert_bytes_back (P:=Tryz.prog) w 67 9 5 ⟨b,0,none⟩ cap l Tryz.underlying67 Tryz.underlying5 Tryz.underlying9 (fun j hj=>by
  have:=(h j hj).1
  rw [show (⟨b,0,none⟩ : Addr).add j = ⟨b,j,none⟩ by simp [Addr.add];intro h;exact h.symm]
  exact this)
theorem Bts.set {w : World} {b : Nat} {l : List UInt8} (h : Bts w b l) (j : Nat) (hj : j < l.length) (u : UInt8) : Bts (w.setCell ⟨b,j,none⟩ (.int .u8 (u.toNat : Int))) b (l.set j u):=by
 intro i hi
 have hi2 : i < l.length:=by simpa using hi
 by_cases e : j = i
 . subst e
   refine ⟨?_,?_⟩
   . rw [World.cell?_setCell_same _ _ _ (h j hj).1]
     simp
   . rw [World.frozen?_setCell];exact (h j hj).2
 . refine ⟨?_,?_⟩
   . rw [World.cell?_setCell_other _ _ _ _ (show (⟨b,j,none⟩ : Addr) ≠ ⟨b,i,none⟩ from fun h=>e (Addr.mk.inj h).2.1),(h i hi2).1]
     simp [e]
   . rw [World.frozen?_setCell];exact (h i hi2).2
theorem mk_numsN (c : Int) (n : Nat) (hc : c = n) (h : n <= 1048576) (w : World) :
 (Instr.makeSlice 78 (.int .i64 c) (.int .i64 c)).run Tryz.prog w = .ok (.slice (some ⟨w.heap.size,0,none⟩) n n) (w.alloc (.cells (dC (List.replicate n 0)).toArray 36)):=by
 subst hc
 obtain ⟨i0,hi,hz0,hz1,hz2⟩:=info_parts Tryz.infoN
 rw [run_make (P:=Tryz.prog) w 78 36 i0 _ Tryz.underlying78 hi hz0 .i64 .i64 n n (by omega) (by omega) (by rw [hz2];omega) (by omega)]
 simp only [Int.toNat_natCast,hz1]
 rw [made_nums]
theorem prodsL_eq (V D : Nat) (hV : 1 <= V) (hV2 : V <= 8) (hD : D <= 20) (hc : cnt V D <= 512) : prodsL (V : Int) (D : Int) = rowsL (V + 1) D:=by
 unfold prodsL
 rw [if_pos ⟨by omega,by omega,by omega,by omega,by simpa using hc⟩]
 simp only [Int.toNat_natCast]
theorem timesDS (V D N M A B : Nat) (cs L : List Dyadic) (hV : 1 <= V) (hV2 : V <= 8) (hD : D < 20) (hN : cnt V D = N) (hM : cnt V (D + 1) = M) (hN5 : N <= 512) (hcm : ∀ c ∈ cs,Sm A c) (hlf : ∀ x ∈ L,Sm B x) :
 ∃ DS : Nat -> Nat -> List Dyadic,DS 0 0 = List.replicate M 0 /\ (∀ k,k < N -> DS k (V + 1) = DS (k + 1) 0) /\ DS N 0 = timesL V D cs L /\
  ∀ k j,k < N -> j < V + 1 -> (DS k j).length = M /\ (∀ d ∈ DS k j,Sm (A + B + 4608) d) /\
   ∃ q,place ((rowsL (V + 1) (D + 1)).map fun x=>x.map UInt8.ofNat) M ((inc ((rowsL (V + 1) D).getD k []) j).map UInt8.ofNat) = q /\ q < M /\ DS k (j + 1) = (DS k j).set q ((DS k j).getD q 0 + cs.getD k 0 * L.getD j 0):=by
 obtain ⟨R,hR⟩ : ∃ R,rowsL (V + 1) D = R:=⟨_,rfl⟩
 obtain ⟨R',hR'⟩ : ∃ R',rowsL (V + 1) (D + 1) = R':=⟨_,rfl⟩
 have hRl : R.length = N:=by rw [<- hR,rowsL_count];exact hN
 have hRl' : R'.length = M:=by rw [<- hR',rowsL_count];exact hM
 have hmem : ∀ x ∈ R,x.length = V + 1 /\ x.sum = D:=fun x hx=>(mem_rowsL V D x).1 (by rw [hR];exact hx)
 have hinc : ∀ x ∈ R,∀ t,t < V + 1 -> inc x t ∈ R':=fun x hx t ht=>by
  obtain ⟨h1,h2⟩:=hmem x hx
  rw [<- hR']
  exact (mem_rowsL V (D + 1) _).2 ⟨by rw [inc_length];exact h1,by rw [inc_sum _ _ (by omega)];omega⟩
 obtain ⟨f,hf⟩ : ∃ f,place (R'.map fun x=>x.map UInt8.ofNat) M = f:=⟨_,rfl⟩
 have hplace : ∀ x ∈ R',∃ q,∃ h : q < R'.length,R'[q] = x /\ f (x.map UInt8.ofNat) = q:=fun x hx=>by
  have:=place_row (n:=V) (s:=D + 1) (by omega) (x:=x) (by rw [hR'];exact hx)
  rw [hR'] at this
  rw [<- hf,<- hRl']
  exact this
 have hnd : R'.Nodup:=by rw [<- hR'];exact rowsL_nodup V (D + 1)
 obtain ⟨P,hP⟩ : ∃ P : Nat -> Puts,P = fun k=>timesR (R.getD k []) (cs.getD k 0) fun t=>L.getD t 0:=⟨_,rfl⟩
 have hrow : ∀ k,k < N -> R.getD k [] ∈ R:=fun k hk=>by
  have : R.getD k [] = R[k]'(by omega):=by simp [show k < R.length by omega]
  rw [this];exact List.getElem_mem _
 have hPk : ∀ k,k < N -> P k = (List.range (V + 1)).map fun t=>(inc (R.getD k []) t,cs.getD k 0 * L.getD t 0):=fun k hk=>by
  rw [hP]
  show timesR _ _ _ = _
  unfold timesR
  rw [(hmem _ (hrow k hk)).1]
 have hsm : ∀ k t,Sm (A + B) (cs.getD k 0 * L.getD t 0):=fun k t=>Sm.mul (getD_sm hcm k) (getD_sm hlf t)
 rw [hR,hR',hf]
 refine ⟨fun k j=>putAll f (List.replicate M 0) (putsTo P k ++ (List.range j).map fun t=>(inc (R.getD k []) t,cs.getD k 0 * L.getD t 0)),rfl,fun k hk=>?_,?_,fun k j hk hj=>⟨?_,?_,?_⟩⟩
 . show putAll _ _ _ = putAll _ _ _
   rw [putsTo_succ,hPk k hk];simp
 . show putAll _ _ _ = _
   have e : putsTo P N = timesP R cs fun t=>L.getD t 0:=by rw [hP,<- hRl];rfl
   rw [List.range_zero,List.map_nil,List.append_nil,e,<- hRl',putAll_zero R' hnd f hplace _ (timesP_mem (fun x hx=>(hmem x hx).1) hinc)]
   unfold timesL
   rw [hR,hR']
 . show (putAll _ _ _).length = M
   rw [putAll_length];simp
 . intro d hd
   have hlen : (putsTo P k ++ (List.range j).map fun t=>(inc (R.getD k []) t,cs.getD k 0 * L.getD t 0)).length <= 4608:=by
    have h1:=putsTo_len P 9 N k (by omega) (fun k hk=>by rw [hPk k hk];simp;omega)
    rw [List.length_append,List.length_map,List.length_range]
    have:=Nat.mul_le_mul_right 9 (show k + 1 <= 512 by omega)
    omega
   refine (putAll_sm (B:=A + B) f (List.replicate M 0) _ (fun d hd=>by rw [List.eq_of_mem_replicate hd];exact Sm.zero _) (fun p hp=>?_) d hd).mono (by omega)
   rw [List.mem_append] at hp
   rcases hp with hp | hp
   . refine putsTo_all P N k (by omega) (Q:=fun p=>Sm (A + B) p.2) (fun k hk p hp=>?_) p hp
     rw [hPk k hk,List.mem_map] at hp
     obtain ⟨t,_,rfl⟩:=hp
     exact hsm k t
   . rw [List.mem_map] at hp
     obtain ⟨t,_,rfl⟩:=hp
     exact hsm k t
 . obtain ⟨q,hq,hq2,hq3⟩:=hplace _ (hinc _ (hrow k hk) j hj)
   refine ⟨q,hq3,by omega,?_⟩
   show putAll _ _ _ = _
   rw [List.range_succ,List.map_append,<- List.append_assoc,putAll_append]
   simp only [List.map_cons,List.map_nil]
   show addAt _ _ _ = _
   unfold addAt
   simp only [hq3]
theorem products_keys (V D N : Nat) (hV : 1 <= V) (hV2 : V <= 8) (hD : D <= 20) (hN : cnt V D = N) (hN5 : N <= 512) (w : World) :
 Calls Tryz.prog 26 #[.int .i64 (V : Int),.int .i64 (D : Int)] w fun e w'=>∃ a cap,e = .returned (.slice a N cap) /\ At w' a ((rowsL (V + 1) D).map fun x=>Value.string (bs (x.map UInt8.ofNat))) /\ (∀ b o,a = some ⟨b,o,none⟩ -> w.heap.size <= b) /\ Below w.heap.size w w':=by
 have h:=products_any (V : Int) (D : Int) w
 rw [prodsL_eq V D hV hV2 hD (by omega),rowsL_count,hN] at h
 exact h
theorem times_any (V D N M A B : Nat) (aN : Option Addr) (capN : Nat) (cs : List Dyadic) (aL : Option Addr) (capL : Nat) (ls : List Raw) (L : List Dyadic) (v1 : Nat) (hv1 : V + 1 = v1) (d1 : Nat) (hd1 : D + 1 = d1) (w : World)
 (hV : 1 <= V) (hV2 : V <= 8) (hD : D < 20) (hN : cnt V D = N) (hM : cnt V (D + 1) = M) (hN5 : N <= 512) (hM5 : M <= 512) (hcs : cs.length = N) (hls : ls.length = v1) (hL : ls.map dval = L)
 (haN : At w aN (dC cs)) (haL : At w aL (ls.flatMap numC)) (hcm : ∀ c ∈ cs,Sm A c) (hlf : ∀ x ∈ ls,Fit B x) (hAB : A + B <= 100000000) (hT : Tab w) :
 Calls Tryz.prog 56 #[.agg #[.slice aN N capN,.int .i64 (V : Int),.int .i64 (D : Int)],.slice aL v1 capL] w fun e w'=>∃ bO,e = .returned (.agg #[.slice (some ⟨bO,0,none⟩) M M,.int .i64 (V : Int),.int .i64 (d1 : Int)]) /\
  w.heap.size <= bO /\ At w' (some ⟨bO,0,none⟩) (dC (timesL V D cs L)) /\ Below w.heap.size w w':=by
 have hLs : ∀ x ∈ L,Sm B x:=by
  intro x hx
  rw [<- hL] at hx
  obtain ⟨r,hr,rfl⟩:=List.mem_map.1 hx
  exact (hlf r hr).2
 obtain ⟨DS,hd0,hdn,hdf,hds⟩:=timesDS V D N M A B cs L hV hV2 hD hN hM hN5 hcm hLs
 have hp1:=fun W=>products_keys V (D + 1) M hV hV2 (by omega) hM hM5 W
 have hp0:=fun W=>products_keys V D N hV hV2 (by omega) hN hN5 W
 obtain ⟨R,hR⟩ : ∃ R,rowsL (V + 1) D = R:=⟨_,rfl⟩
 obtain ⟨R',hR'⟩ : ∃ R',rowsL (V + 1) (D + 1) = R':=⟨_,rfl⟩
 have hRl : R.length = N:=by rw [<- hR,rowsL_count];exact hN
 have hRl' : R'.length = M:=by rw [<- hR',rowsL_count];exact hM
 have hmem : ∀ x ∈ R,x.length = v1 /\ ∀ a ∈ x,a <= 20:=fun x hx=>by
  have h:=(mem_rowsL V D x).1 (by rw [hR];exact hx)
  exact ⟨by omega,fun a ha=>by have:=mem_le_sum ha;omega⟩
 have hmem' : ∀ x ∈ R',x.length = v1:=fun x hx=>by
  have h:=(mem_rowsL V (D + 1) x).1 (by rw [hR'];exact hx)
  omega
 rw [hR] at hp0 hds
 rw [hR',hd1] at hp1
 rw [hR'] at hds
 obtain ⟨f,hf⟩ : ∃ f,place (R'.map fun x=>x.map UInt8.ofNat) M = f:=⟨_,rfl⟩
 rw [hf] at hds
 have hpl:=fun a cap W=>fun (h : At W a (R'.map fun x=>Value.string (bs (x.map UInt8.ofNat))))=>places_any a cap M (R'.map fun x=>x.map UInt8.ofNat) (by simpa using hRl') hM5 (by
  intro l hl
  obtain ⟨x,hx,rfl⟩:=List.mem_map.1 hl
  rw [List.length_map,hmem' x hx];omega) W (by rw [List.map_map];exact h)
 rw [hf] at hpl
 have hwD : IntKind.i64.wrap ((D : Int) + 1) = (d1 : Int):=by rw [IntKind.wrap_i64];omega
 have hmk:=mk_numsN (M : Int) M rfl (by omega)
 have Hd0:=lid hd0;have Hdn:=lid hdn;have Hdf:=lid hdf;have Hds:=lid hds;have Hp1:=lid hp1;have Hp0:=lid hp0;have Hpl:=lid hpl;have Hmem:=lid hmem
 have HRl:=lid hRl;have HL:=lid hL;have Hls:=lid hls;have Hcs:=lid hcs;have Hcm:=lid hcm;have Hlf:=lid hlf;have HaN:=lid haN;have HaL:=lid haL;have HT:=lid hT;have Hv1:=lid hv1;have Hd1:=lid hd1;have Hmk:=lid hmk
 clear hd0 hdn hdf hds hp1 hp0 hpl hmem hmem' hRl hRl' hR hR' hf hL hls hcs hcm hlf haN haL hT hLs hN hM hv1 hd1 hmk
 obtain ⟨W,hW_W⟩ : ∃ W,((w.alloc (.cells #[.slice aN N capN,.int .i64 (V : Int),.int .i64 (D : Int)] 108)).alloc (.cells #[.slice none 0 0,.int .i64 0,.int .i64 0] 108)) = W:=⟨_,rfl⟩
 have Hb : Hid (Below w.heap.size w W):=by rw [<- hW_W];exact (((Below.refl _ _).alloc (Nat.le_refl _) _).alloc (by simp<;>omega) _)
 have Hg : Hid (Blk W (w.heap.size) 108 [.slice aN N capN,.int .i64 (V : Int),.int .i64 (D : Int)]):=by rw [<- hW_W];exact (Blk.newAt _ _ _ (by simp)).alloc _
 have Hr : Hid (Blk W (w.heap.size + 1) 108 [.slice none 0 0,.int .i64 0,.int .i64 0]):=by rw [<- hW_W];exact Blk.newAt _ _ _ (by simp)
 obtain ⟨g0,g1,g2⟩:=Hg.out.c3
 obtain ⟨r0,fr0,r1,fr1,r2,fr2⟩:=Hr.out.g3
 have HFN : Hid (At W aN (dC cs)):=HaN.out.below Hb.out
 have HFL : Hid (At W aL (ls.flatMap numC)):=HaL.out.below Hb.out
 have HU : Hid (Tab W):=HT.out.below Hb.out
 go_enter Tryz.func56,Tryz.ntmps56
 go_wp2_with fail
 refine (Hp1.out _).mono ?_
 rintro e w1 ⟨a1,cap1,rfl,hat1,hba1,hbn⟩
 clear g0 g1 g2
 clear r0 fr0 r1 fr1 r2 fr2
 replace Hg:=kB Hg hbn
 replace Hr:=kB Hr hbn
 replace HFN:=kA HFN hbn
 replace HFL:=kA HFL hbn
 replace HU:=kT HU hbn
 obtain ⟨g0,g1,g2⟩:=Hg.out.c3
 obtain ⟨r0,fr0,r1,fr1,r2,fr2⟩:=Hr.out.g3
 replace Hb:=bnx Hb hbn;clear hbn
 have Hat1:=lid hat1
 clear hat1 hba1
 go_wp2_with fail
 refine (Hpl.out a1 cap1 _ Hat1.out).mono ?_
 rintro e w2 ⟨bm,rfl,⟨hmp,hbm⟩,hbn⟩
 clear g0 g1 g2
 clear r0 fr0 r1 fr1 r2 fr2
 replace Hg:=kB Hg hbn
 replace Hr:=kB Hr hbn
 replace HFN:=kA HFN hbn
 replace HFL:=kA HFL hbn
 replace HU:=kT HU hbn
 obtain ⟨g0,g1,g2⟩:=Hg.out.c3
 obtain ⟨r0,fr0,r1,fr1,r2,fr2⟩:=Hr.out.g3
 replace Hb:=bnx Hb hbn;clear hbn
 have HFM : Hid (Mp w2 bm M f):=hmp
 clear hmp Hat1
 have HbmL : Hid (bm < w2.heap.size):=HFM.out.lt
 have szw:=Hb.out.size
 have lg:=Hg.out.lt;have lr:=Hr.out.lt
 go_upto_region 3 with fail
 go_cut [7] (fun s7 wx=>∃ bO bB : Nat,s7 = .pointer (some ⟨bO,0,none⟩) /\ w2.heap.size <= bO /\ w2.heap.size <= bB /\ bO ≠ bB /\ Blk wx bO 108 [.slice (some ⟨bB,0,none⟩) M M,.int .i64 (V : Int),.int .i64 (d1 : Int)] /\ Blk wx bB 36 (dC (List.replicate M 0)) /\ Below w2.heap.size w2 wx)
 case first=>
  have hmk:=Hmk.out
  clear r0 r1 r2 fr0 fr1 fr2 Hr HFN HFL HU HFM Hd0 Hdn Hdf Hds Hp1 Hp0 Hpl Hmem HRl HL Hls Hcs Hcm Hlf HaN HaL HT Hmk
  obtain ⟨w0,hw0⟩ : ∃ w0,w0 = w:=⟨_,rfl⟩
  subst hw0
  obtain ⟨w,hww⟩ : ∃ w,w = w2:=⟨_,rfl⟩
  subst hww
  clear Hb
  have Hb : Hid (Below w.heap.size w w):=Below.refl _ _
  obtain ⟨g0,g1,g2⟩:=Hg.out.c3
  have HRd : ∀ w',Lat w w' -> w'.cell? ⟨w0.heap.size,1,none⟩ = some (.int .i64 (V : Int)) /\ w'.cell? ⟨w0.heap.size,2,none⟩ = some (.int .i64 (D : Int)):=fun w' h=>⟨cell_later h g1,cell_later h g2⟩
  have HKS : Hid (Lat w w):=Below.refl _ _
  refine wp_region_planT (fun w'=>Lat w w') (fun i=>Nat.blt i 10) (.rd 0 (.rd 1 (.rd 3 (.rd 4 (.rd 5 (.rd 6 (.rd 7 (.br 2 9 (.lin [(8,true),(9,false),(10,false)]) (.lin [(2,false),(8,true),(10,false)]))))))))) (by kernel_rfl) (by kernel_rfl) rfl (by kernel_rfl) (fun o c a v w=>by cases o.dst<;>exact id) HKS.out.drew ?_
  iterate 7 (refine planTT rfl rfl (v:=?_) (fun w' hw'=>?_) ?_;rotate_left;(focus have hw':=HRd w' hw';obtain ⟨q0,q1⟩:=hw';go_simp;try with_reducible rfl);try simp only [Act.put,U1,U2,U3])
  clear g0 g1 g2
  clear  HRd
  refine planTBr rfl rfl rfl rfl rfl rfl  (fun K hK=>?_) (fun K hK=>?_) 
  . go_simp
    refine hK _ _ (fun _=>by first | exact HKS.out.alloc _ | exact (HKS.out.alloc _).drew | exact (HKS.out.drew).alloc _) ?_;clear hK K
    try simp only [Act.put,U1,U2,U3]
    refine planT_world (fun Wn=>Blk Wn (w.heap.size) 36 (dC (List.replicate M 0)) /\ Below w.heap.size w Wn) (by first | exact nw1 | exact nw2) ?_
    rintro Wn ⟨qnn,hbn⟩
    clear g0 g1 g2
    have lz_g_Wn:=Hg.out.lt
    replace HKS:=lid (HKS.out.below hbn)
    replace Hg:=kB Hg hbn
    have Hnn:=lid qnn;clear qnn
    obtain ⟨g0,g1,g2⟩:=Hg.out.c3
    replace Hb:=bnx Hb hbn;clear hbn
    refine planTL ?_
    refine planT rfl rfl (v:=?_) (fun w' hw'=>?_) ?_;rotate_left;(focus go_simp;try with_reducible rfl);try simp only [Act.put,U1,U2,U3]
    refine planF rfl rfl (fun K hK=>?_)
    go_simp
    refine hK _ _ (fun _=>by first | exact HKS.out.alloc _ | exact (HKS.out.alloc _).drew | exact (HKS.out.drew).alloc _) ?_;clear hK K
    try simp only [Act.put,U1,U2,U3]
    refine plan_world (fun Wo=>Blk Wo (Wn.heap.size) 108 [.slice none 0 0,.int .i64 0,.int .i64 0] /\ Below Wn.heap.size Wn Wo) (by first | exact nw1 | exact nw2) ?_
    rintro Wo ⟨qoo,hbn⟩
    clear g0 g1 g2
    have lz_g_Wo:=Hg.out.lt
    have lz_nn_Wo:=Hnn.out.lt
    replace HKS:=lid (HKS.out.below hbn)
    replace Hg:=kB Hg hbn
    replace Hnn:=kB Hnn hbn
    have Hoo:=lid qoo;clear qoo
    obtain ⟨g0,g1,g2⟩:=Hg.out.c3
    obtain ⟨oo0,foo0,oo1,foo1,oo2,foo2⟩:=Hoo.out.g3
    replace Hb:=bnx Hb hbn;clear hbn
    refine planF rfl rfl (fun K hK=>?_)
    go_simp
    refine hK _ _ (fun h=>absurd h (by decide)) ?_;clear hK K
    try simp only [Act.put,U1,U2,U3]
    clear g0 g1 g2
    clear oo0 foo0 oo1 foo1 oo2 foo2
    refine plan_world (fun Ws=>Blk Ws (w0.heap.size) 108 [.slice aN N capN,.int .i64 (V : Int),.int .i64 (D : Int)] /\ Blk Ws (w.heap.size) 36 (dC (List.replicate M 0)) /\ Blk Ws (Wn.heap.size) 108 [.slice (some ⟨w.heap.size,0,none⟩) M M,.int .i64 (V : Int),.int .i64 (d1 : Int)] /\ Below w.heap.size w Ws) ⟨(((Hg.out.so (Wn.heap.size) 0 (by omega) _).so (Wn.heap.size) 1 (by omega) _).so (Wn.heap.size) 2 (by omega) _),(((Hnn.out.so (Wn.heap.size) 0 (by omega) _).so (Wn.heap.size) 1 (by omega) _).so (Wn.heap.size) 2 (by omega) _),(((Hoo.out.set 0 _).set 1 _).set 2 _),by first | exact (((Hb.out.sc (Wn.heap.size) 0 (by have:=Hb.out.size;omega) _).sc (Wn.heap.size) 1 (by have:=Hb.out.size;omega) _).sc (Wn.heap.size) 2 (by have:=Hb.out.size;omega) _) | exact Below.drew (((Hb.out.sc (Wn.heap.size) 0 (by have:=Hb.out.size;omega) _).sc (Wn.heap.size) 1 (by have:=Hb.out.size;omega) _).sc (Wn.heap.size) 2 (by have:=Hb.out.size;omega) _)⟩ ?_
    rintro Ws ⟨qg,qnn,qoo,hbn⟩
    replace Hg:=lid qg;clear qg
    replace Hnn:=lid qnn;clear qnn
    replace Hoo:=lid qoo;clear qoo
    obtain ⟨g0,g1,g2⟩:=Hg.out.c3
    obtain ⟨oo0,foo0,oo1,foo1,oo2,foo2⟩:=Hoo.out.g3
    replace Hb:=lid hbn;clear hbn
    simp only [wpPlan]
    go_wp2_with fail
    go_meet
    exact ⟨_,_,rfl,by omega,by omega,by omega,Hoo.out,Hnn.out,Hb.out⟩
  . go_simp
    refine hK _ _ (fun _=>by first | exact HKS.out.alloc _ | exact (HKS.out.alloc _).drew | exact (HKS.out.drew).alloc _) ?_;clear hK K
    try simp only [Act.put,U1,U2,U3]
    refine planT_world (fun Wo=>Blk Wo (w.heap.size) 108 [.slice none 0 0,.int .i64 0,.int .i64 0] /\ Below w.heap.size w Wo) (by first | exact nw1 | exact nw2) ?_
    rintro Wo ⟨qoo,hbn⟩
    clear g0 g1 g2
    have lz_g_Wo:=Hg.out.lt
    replace HKS:=lid (HKS.out.below hbn)
    replace Hg:=kB Hg hbn
    have Hoo:=lid qoo;clear qoo
    obtain ⟨g0,g1,g2⟩:=Hg.out.c3
    obtain ⟨oo0,foo0,oo1,foo1,oo2,foo2⟩:=Hoo.out.g3
    replace Hb:=bnx Hb hbn;clear hbn
    refine planTL ?_
    refine planF rfl rfl (fun K hK=>?_)
    go_simp
    refine hK _ _ (fun _=>by first | exact HKS.out.alloc _ | exact (HKS.out.alloc _).drew | exact (HKS.out.drew).alloc _) ?_;clear hK K
    try simp only [Act.put,U1,U2,U3]
    refine plan_world (fun Wn=>Blk Wn (Wo.heap.size) 36 (dC (List.replicate M 0)) /\ Below Wo.heap.size Wo Wn) (by first | exact nw1 | exact nw2) ?_
    rintro Wn ⟨qnn,hbn⟩
    clear g0 g1 g2
    clear oo0 foo0 oo1 foo1 oo2 foo2
    have lz_g_Wn:=Hg.out.lt
    have lz_oo_Wn:=Hoo.out.lt
    replace HKS:=lid (HKS.out.below hbn)
    replace Hg:=kB Hg hbn
    replace Hoo:=kB Hoo hbn
    have Hnn:=lid qnn;clear qnn
    obtain ⟨g0,g1,g2⟩:=Hg.out.c3
    obtain ⟨oo0,foo0,oo1,foo1,oo2,foo2⟩:=Hoo.out.g3
    replace Hb:=bnx Hb hbn;clear hbn
    refine planT rfl rfl (v:=?_) (fun w' hw'=>?_) ?_;rotate_left;(focus go_simp;try with_reducible rfl);try simp only [Act.put,U1,U2,U3]
    refine planF rfl rfl (fun K hK=>?_)
    go_simp
    refine hK _ _ (fun h=>absurd h (by decide)) ?_;clear hK K
    try simp only [Act.put,U1,U2,U3]
    clear g0 g1 g2
    clear oo0 foo0 oo1 foo1 oo2 foo2
    refine plan_world (fun Ws=>Blk Ws (w0.heap.size) 108 [.slice aN N capN,.int .i64 (V : Int),.int .i64 (D : Int)] /\ Blk Ws (w.heap.size) 108 [.slice (some ⟨Wo.heap.size,0,none⟩) M M,.int .i64 (V : Int),.int .i64 (d1 : Int)] /\ Blk Ws (Wo.heap.size) 36 (dC (List.replicate M 0)) /\ Below w.heap.size w Ws) ⟨(((Hg.out.so (w.heap.size) 0 (by omega) _).so (w.heap.size) 1 (by omega) _).so (w.heap.size) 2 (by omega) _),(((Hoo.out.set 0 _).set 1 _).set 2 _),(((Hnn.out.so (w.heap.size) 0 (by omega) _).so (w.heap.size) 1 (by omega) _).so (w.heap.size) 2 (by omega) _),by first | exact (((Hb.out.sc (w.heap.size) 0 (by have:=Hb.out.size;omega) _).sc (w.heap.size) 1 (by have:=Hb.out.size;omega) _).sc (w.heap.size) 2 (by have:=Hb.out.size;omega) _) | exact Below.drew (((Hb.out.sc (w.heap.size) 0 (by have:=Hb.out.size;omega) _).sc (w.heap.size) 1 (by have:=Hb.out.size;omega) _).sc (w.heap.size) 2 (by have:=Hb.out.size;omega) _)⟩ ?_
    rintro Ws ⟨qg,qoo,qnn,hbn⟩
    replace Hg:=lid qg;clear qg
    replace Hoo:=lid qoo;clear qoo
    replace Hnn:=lid qnn;clear qnn
    obtain ⟨g0,g1,g2⟩:=Hg.out.c3
    obtain ⟨oo0,foo0,oo1,foo1,oo2,foo2⟩:=Hoo.out.g3
    replace Hb:=lid hbn;clear hbn
    simp only [wpPlan]
    go_wp2_with fail
    go_meet
    exact ⟨_,_,rfl,by omega,by omega,by omega,Hoo.out,Hnn.out,Hb.out⟩
 case rest=>
  obtain ⟨bO,bB,rfl,h1,h2,h3,qO,qB,qb⟩:=hcut
  clear g0 g1 g2
  clear r0 fr0 r1 fr1 r2 fr2
  replace Hg:=kB Hg qb
  replace Hr:=kB Hr qb
  replace HFN:=kA HFN qb
  replace HFL:=kA HFL qb
  replace HU:=kT HU qb
  replace HFM:=kM HFM qb
  obtain ⟨g0,g1,g2⟩:=Hg.out.c3
  obtain ⟨r0,fr0,r1,fr1,r2,fr2⟩:=Hr.out.g3
  replace Hb:=lid (bnext Hb.out qb)
  clear qb
  have HO : Hid (Blk wc bO 108 [.slice (some ⟨bB,0,none⟩) M M,.int .i64 (V : Int),.int .i64 (d1 : Int)]):=qO
  have HB : Hid (Blk wc bB 36 (dC (List.replicate M 0))):=qB
  clear qO qB
  have lO:=HO.out.lt;have lB:=HB.out.lt
  go_wp2_with fail
  refine (Hp0.out _).mono ?_
  rintro e w3 ⟨a0,cap0,rfl,hat0,hba0,hbn⟩
  clear g0 g1 g2
  clear r0 fr0 r1 fr1 r2 fr2
  replace Hg:=kB Hg hbn
  replace Hr:=kB Hr hbn
  replace HFN:=kA HFN hbn
  replace HFL:=kA HFL hbn
  replace HU:=kT HU hbn
  replace HFM:=kM HFM hbn
  replace HO:=kB HO hbn
  replace HB:=kB HB hbn
  obtain ⟨g0,g1,g2⟩:=Hg.out.c3
  obtain ⟨r0,fr0,r1,fr1,r2,fr2⟩:=Hr.out.g3
  replace Hb:=bnx Hb hbn;clear hbn
  have Hat0:=lid hat0
  have neB : ∀ b,b ≠ bB -> ¬ (fun b=>b = bB) b:=fun b h=>h
  have nN : ∀ b o,aN = some ⟨b,o,none⟩ -> cs ≠ [] -> b ≠ bB:=by
   intro b o e h0
   subst e
   have:=HaN.out.lt (by intro h;have:=congrArg List.length h;rw [dC_length] at this;simp at this;exact h0 (List.length_eq_zero_iff.1 (by omega)))
   omega
  have nL : ∀ b o,aL = some ⟨b,o,none⟩ -> ls ≠ [] -> b ≠ bB:=by
   intro b o e h0
   subst e
   have:=HaL.out.lt (by intro h;have:=congrArg List.length h;rw [flat_length numC 3 (fun _=>rfl)] at this;simp at this;exact h0 (List.length_eq_zero_iff.1 (by omega)))
   omega
  have n0 : ∀ b o,a0 = some ⟨b,o,none⟩ -> b ≠ bB:=fun b o e=>by have:=hba0 b o e;omega
  have nM : bm ≠ bB:=by
   rintro rfl
   have h4 : bm < w2.heap.size:=HbmL.out
   omega
  have nT : ¬ (0 = bB):=by have:=HT.out.lt;omega
  have HnN:=lid nN;have HnL:=lid nL;have Hn0:=lid n0
  have szW:=Hb.out.size
  clear hat0 hba0 nN nL n0
  have hB0 : Blk w3 bB 36 (dC (DS 0 0)):=by rw [Hd0.out];exact HB.out
  have HB0:=lid hB0
  clear hB0
  have E0:=lid Hg.out;have E1:=lid Hr.out;have E2:=lid HFN.out;have E3:=lid HFL.out;have E4:=lid HFM.out;have E5:=lid HO.out;have E6:=lid HU.out;have E7:=lid Hb.out
  clear Hg Hr HFN HFL HFM HO HU Hb HB g0 g1 g2 r0 r1 r2 fr0 fr1 fr2 HaN HaL
  go_wp2_with fail
  go_loopw [36] (fun x wr=>∃ k : Nat,k <= N /\ x = .int .i64 (k : Int) /\ Blk wr bB 36 (dC (DS k 0)) /\ Chg (fun b=>b = bB) w3 wr) (fun x _=>N - (intOf x).toNat)
  case atStart=>exact ⟨0,Nat.zero_le _,rfl,HB0.out,Chg.refl _ _⟩
  case round=>
   clear HB0
   obtain ⟨k,hk,rfl,pB,pg⟩:=hrel
   by_cases hlt : k < N
   . have hk2 : k < R.length:=by rw [HRl.out];exact hlt
     obtain ⟨xk,hxk⟩ : ∃ x,R[k] = x:=⟨_,rfl⟩
     obtain ⟨hxl,hx20⟩:=Hmem.out _ (List.getElem_mem hk2)
     have hxd : R.getD k [] = xk:=by simp [hk2,hxk]
     rw [hxk] at hxl hx20
     have hat:=Hat0.out.chg pg (fun b o e=>Hn0.out b o e)
     have hat3 : At wr a0 (R.flatMap fun x=>[Value.string (bs (x.map UInt8.ofNat))]):=by rw [flat_one];exact hat
     obtain ⟨b0,o0,hab,hcs0⟩:=hat3.elem (f:=fun x=>[Value.string (bs (x.map UInt8.ofNat))]) (sz:=1) (fun _=>rfl) (by decide) k hk2
     obtain ⟨l8,hl8⟩ : ∃ l,xk.map UInt8.ofNat = l:=⟨_,rfl⟩
     have hc0 : wr.cell? ⟨b0,o0 + k,none⟩ = some (.string (bs l8)):=by have:=hcs0 0 (by decide);rw [hxk,hl8] at this;simpa using this
     have hix:=i69x9 N cap0 k (k : Int) hab hlt rfl
     rw [Nat.mul_one] at hix
     have hl8l : l8.length = v1:=by rw [<- hl8,List.length_map];exact hxl
     have Hpg:=lid pg;have HpB:=lid pB;have Hl8:=lid hl8;have Hx20:=lid hx20;have Hxl:=lid hxl;have Hxd:=lid hxd;have Hl8l:=lid hl8l
     clear pg pB hl8 hx20 hxl hxd hat hat3 hcs0 hab hxk hl8l
     obtain ⟨wk,hwk⟩ : ∃ wk,wk = wr:=⟨_,rfl⟩
     subst hwk
     go_wp2_with fail
     go_loopw [43] (fun x wr=>∃ j : Nat,j <= v1 /\ x = .int .i64 (j : Int) /\ Blk wr bB 36 (dC (DS k j)) /\ Chg (fun b=>b = bB) w3 wr) (fun x _=>v1 - (intOf x).toNat)
     case atStart=>exact ⟨0,Nat.zero_le _,rfl,HpB.out,Hpg.out⟩
     case round=>
      clear hc0 hix HpB Hpg
      obtain ⟨j,hj,rfl,pB,pg⟩:=hrel
      by_cases hlt2 : j < v1
      . have jls : j < ls.length:=by rw [Hls.out];exact hlt2
        have kcs : k < (cs.map canon).length:=by rw [List.length_map,Hcs.out];exact hlt
        have jV : j < V + 1:=by rw [Hv1.out];exact hlt2
        obtain ⟨hlen,hdsm,qv,hq1,hq2,hq3⟩:=Hds.out k j hlt jV
        obtain ⟨s,m,e,hx⟩ : ∃ s m e,ls[j] = (s,m,e):=⟨_,_,_,rfl⟩
        obtain ⟨c,hc⟩ : ∃ c,cs.getD k 0 = c:=⟨_,rfl⟩
        obtain ⟨X,hX⟩ : ∃ X,dval (s,m,e) = X:=⟨_,rfl⟩
        have hfx:=Hlf.out _ (List.getElem_mem jls)
        rw [hx] at hfx
        have hLj : L.getD j 0 = X:=by rw [<- HL.out,<- hX,<- hx];simp [List.getD_eq_getElem?_getD,jls]
        have hcc : (cs.map canon)[k] = (sgnB (dN c),nt (dN c).natAbs,dE c):=by
         have : cs.getD k 0 = cs[k]'(by simpa using kcs):=by simp [List.getD_eq_getElem?_getD,show k < cs.length by simpa using kcs]
         rw [List.getElem_map,<- this,hc];rfl
        have hcsm : Sm A c:=by rw [<- hc];exact getD_sm Hcm.out k
        rw [hc,hLj] at hq3
        rw [Hxd.out] at hq1
        obtain ⟨E,hE⟩ : ∃ E,c * X = E:=⟨_,rfl⟩
        rw [hE] at hq3
        obtain ⟨ds,hdsd⟩ : ∃ ds,DS k j = ds:=⟨_,rfl⟩
        obtain ⟨ds',hdsd'⟩ : ∃ ds,DS k (j + 1) = ds:=⟨_,rfl⟩
        rw [hdsd] at hlen hdsm hq3 pB
        rw [hdsd'] at hq3
        have hqd : qv < ds.length:=by omega
        have hgd : ds.getD qv 0 = ds[qv]:=by simp [List.getD_eq_getElem?_getD,hqd]
        obtain ⟨D9,hD9⟩ : ∃ D9,ds[qv] + E = D9:=⟨_,rfl⟩
        rw [hgd,hD9] at hq3
        have Hfx:=lid (hfx.mono (show B <= A + B by omega))
        have Hfc : Hid (Fit (A + B) (sgnB (dN c),nt (dN c).natAbs,dE c)):=(hcsm.mono (show A <= A + B by omega)).fit (by omega)
        have HmE : Hid (dval (sgnB (dN c),nt (dN c).natAbs,dE c) * dval (s,m,e) = E):=by show dval (canon c) * _ = E;rw [dval_canon,hX];exact hE
        have hEsm : Sm (A + B) E:=by rw [<- hE,<- hX];exact Sm.mul hcsm hfx.2
        have HfE : Hid (Fit (A + B + 4608) (sgnB (dN E),nt (dN E).natAbs,dE E)):=(hEsm.mono (by omega)).fit (by omega)
        have HdE : Hid (ds[qv] + dval (sgnB (dN E),nt (dN E).natAbs,dE E) = D9):=by show ds[qv] + dval (canon E) = D9;rw [dval_canon];exact hD9
        have Hdq : Hid (Sm (A + B + 4608) ds[qv]):=hdsm _ (List.getElem_mem hqd)
        have Hlen:=lid hlen;have Hq3:=lid hq3;have Hds':=lid hdsd'
        obtain ⟨bN,oN,habN,n0,n1,n2⟩:=(show At wr aN ((cs.map canon).flatMap numC) by rw [<- dC_raws];exact E2.out.chg pg (fun b o e=>HnN.out b o e (by intro h0;rw [h0] at kcs;simp at kcs))).num k kcs hcc
        obtain ⟨bL,oL,habL,u0,u1,u2⟩:=(E3.out.chg pg (fun b o e=>HnL.out b o e (by intro h0;rw [h0] at jls;simp at jls))).num j jls hx
        have ixN:=i78x36 N capN k (k : Int) habN hlt rfl
        have ixL:=i22x36 v1 capL j (j : Int) habL hlt2 rfl
        have jl8 : j < l8.length:=by rw [Hl8l.out];exact hlt2
        have hux : l8[j].toNat <= 20:=by
         have jxk : j < xk.length:=by rw [Hxl.out];exact hlt2
         have e8 : l8[j] = UInt8.ofNat xk[j]:=by
          have : l8[j]? = (xk.map UInt8.ofNat)[j]?:=by rw [Hl8.out]
          rw [List.getElem?_eq_getElem jl8,List.getElem?_eq_getElem (by simpa using jxk)] at this
          simpa using this
         have h20:=Hx20.out _ (List.getElem_mem jxk)
         rw [e8]
         simp;omega
        have hu1 : (l8[j] + 1).toNat = l8[j].toNat + 1:=by rw [UInt8.toNat_add];simp;omega
        obtain ⟨l9,hl9⟩ : ∃ l,l8.set j (l8[j] + 1) = l:=⟨_,rfl⟩
        have hl9l : l9.length = v1:=by rw [<- hl9,List.length_set];exact Hl8l.out
        have hkey : f l9 = qv:=by
         rw [<- hq1,<- inc_bytes xk j (by rw [Hxl.out];exact hlt2),Hl8.out,<- hl9]
         congr 2
         simp [List.getD_eq_getElem?_getD,jl8]
        obtain ⟨p8,hp8⟩ : ∃ p : Int,(l8[j].toNat : Int) = p:=⟨_,rfl⟩
        obtain ⟨q8,hq8⟩ : ∃ q : Int,((l8[j] + 1).toNat : Int) = q:=⟨_,rfl⟩
        have hw8 : IntKind.u8.wrap (p8 + 1) = q8:=by rw [IntKind.wrap_u8];omega
        have hM1 : M < 9223372036854775808:=by omega
        have Hg : Hid (Blk wr w.heap.size 108 [.slice aN N capN,.int .i64 (V : Int),.int .i64 (D : Int)]):=pg.blk E0.out (by omega)
        have Ho : Hid (Blk wr bO 108 [.slice (some ⟨bB,0,none⟩) M M,.int .i64 (V : Int),.int .i64 (d1 : Int)]):=pg.blk E5.out (by omega)
        have Hnn : Hid (Win wr bN (oN + k * 3) [.bool (sgnB (dN c)),.string (bs (nt (dN c).natAbs)),.int .i64 (dE c)]):=win3 n0 n1 n2
        have Hu : Hid (Win wr bL (oL + j * 3) [.bool s,.string (bs m),.int .i64 e]):=win3 u0 u1 u2
        have hMp : Mp wr bm M f:=pg.mp E4.out (by omega)
        have hTb : Tab wr:=pg.tab E6.out nT
        have Hpg:=lid pg;have HpB:=lid pB;have Hkey:=lid hkey;have Hl9:=lid hl9;have Hl9l:=lid hl9l;have Hp8:=lid hp8;have Hq8:=lid hq8
        have lbB:=pB.lt
        clear pg pB hkey hl9 hl9l hq1 hq3 hdsd' hlen hdsm hgd hD9 hE hX hLj hcc hc hx hfx hcsm hEsm n0 n1 n2 u0 u1 u2 habN habL hp8 hq8 hu1 hux hdsd
        have Hb : Hid (Below wr.heap.size wr wr):=Below.refl _ _
        obtain ⟨g0,g1,g2⟩:=Hg.out.c3
        obtain ⟨o0,o1,o2⟩:=Ho.out.c3
        obtain ⟨nn0,nn1,nn2⟩:=Hnn.out.w3
        obtain ⟨u0,u1,u2⟩:=Hu.out.w3
        have HFM : Hid (Mp wr bm M f):=hMp
        have HFU : Hid (Tab wr):=hTb
        have HFB : Hid (Blk wr bB 36 (dC ds)):=HpB.out
        clear hMp hTb HpB
        have P0:=u0;have P1:=u1;have P2:=u2
        have lz_g_W4:=Hg.out.lt
        have lz_o_W4:=Ho.out.lt
        obtain ⟨W4,hW_W4⟩ : ∃ W4,(wr.alloc (.cells #[.bool s,.string (bs m),.int .i64 e] 36)) = W4:=⟨_,rfl⟩
        have hbn : Below wr.heap.size wr W4:=by rw [<- hW_W4];exact ((Below.refl _ _).alloc (Nat.le_refl _) _)
        clear g0 g1 g2
        replace Hg:=kB Hg hbn
        clear o0 o1 o2
        replace Ho:=kB Ho hbn
        clear nn0 nn1 nn2
        replace Hnn:=kW Hnn hbn
        clear u0 u1 u2
        replace Hu:=kW Hu hbn
        replace HFM:=kM HFM hbn
        replace HFU:=kT HFU hbn
        replace HFB:=kB HFB hbn
        have Hy : Hid (Blk W4 (wr.heap.size) 36 [.bool s,.string (bs m),.int .i64 e]):=by rw [<- hW_W4];exact Blk.newAt _ _ _ (by simp)
        obtain ⟨g0,g1,g2⟩:=Hg.out.c3
        obtain ⟨o0,o1,o2⟩:=Ho.out.c3
        obtain ⟨nn0,nn1,nn2⟩:=Hnn.out.w3
        obtain ⟨u0,u1,u2⟩:=Hu.out.w3
        obtain ⟨y0,y1,y2⟩:=Hy.out.c3
        replace Hb:=bnx Hb hbn;clear hbn
        obtain ⟨cb,W5,hcv,hb5,hs5,hbt⟩:=str_bytes l8 W4
        rw [Hl8l.out] at hcv
        have ixB:=i67x5 v1 cb j (j : Int) (rfl : (some ⟨W4.heap.size,0,none⟩ : Option Addr) = _) hlt2 rfl
        rw [Nat.zero_add,Nat.mul_one] at ixB
        have m0 : W5.cell? ⟨W4.heap.size,j,none⟩ = some (.int .u8 p8):=by rw [(hbt j jl8).1,Hp8.out]
        have mf : W5.frozen? ⟨W4.heap.size,j,none⟩ = false:=(hbt j jl8).2
        have hbt2:=hbt.set j jl8 (l8[j] + 1)
        rw [Hl9.out,Hq8.out] at hbt2
        have Hbt2:=lid hbt2;have Hb5:=lid hb5
        clear hbt hbt2 hb5
        go_wp2_with fail
        refine wp_world (fun W6=>Bts W6 W4.heap.size l9 /\ Below W4.heap.size W4 W6) ⟨Hbt2.out,Hb5.out.setCell (Nat.le_refl _) _⟩ ?_
        rintro W6 ⟨qM,hb6⟩
        have HqM:=lid qM
        clear g0 g1 g2
        clear o0 o1 o2
        clear nn0 nn1 nn2
        clear u0 u1 u2
        clear y0 y1 y2
        replace Hg:=kB Hg hb6
        replace Ho:=kB Ho hb6
        replace Hnn:=kW Hnn hb6
        replace Hu:=kW Hu hb6
        replace HFM:=kM HFM hb6
        replace HFU:=kT HFU hb6
        replace HFB:=kB HFB hb6
        replace Hy:=kB Hy hb6
        obtain ⟨g0,g1,g2⟩:=Hg.out.c3
        obtain ⟨o0,o1,o2⟩:=Ho.out.c3
        obtain ⟨nn0,nn1,nn2⟩:=Hnn.out.w3
        obtain ⟨u0,u1,u2⟩:=Hu.out.w3
        obtain ⟨y0,y1,y2⟩:=Hy.out.c3
        replace Hb:=lid (bnext Hb.out hb6)
        clear qM hb6 m0 mf hcv Hbt2 Hb5 P0 P1 P2 hs5
        have hback : ∀ w',Lat W6 w' -> (convert 67 9 (.slice (some ⟨W4.heap.size,0,none⟩) v1 cb)).run Tryz.prog w' = .ok (.string (bs l9)) w':=fun w' h=>by
         have:=(HqM.out.below h).back cb
         rw [Hl9l.out] at this
         exact this
        have hlook : ∀ w',Lat W6 w' -> (Instr.lookup 62 (.map (some bm)) (.string (bs l9)) false).run Tryz.prog w' = .ok (.int .i64 (qv : Int)) w':=fun w' h=>by
         have:=(HFM.out.below h).look l9 (by simp [maxLen];have:=Hl9l.out;have:=Hv1.out;omega)
         rw [Hkey.out] at this
         exact this
        have HRd : ∀ w',Lat W6 w' -> w'.cell? ⟨bO,0,none⟩ = some (.slice (some ⟨bB,0,none⟩) M M) /\ w'.cell? ⟨w.heap.size,0,none⟩ = some (.slice aN N capN) /\ w'.cell? ⟨bN,oN + k * 3,none⟩ = some (.bool (sgnB (dN c))) /\ w'.cell? ⟨bN,oN + k * 3 + 1,none⟩ = some (.string (bs (nt (dN c).natAbs))) /\ w'.cell? ⟨bN,oN + k * 3 + 2,none⟩ = some (.int .i64 (dE c)) /\ w'.cell? ⟨wr.heap.size,0,none⟩ = some (.bool s) /\ w'.cell? ⟨wr.heap.size,1,none⟩ = some (.string (bs m)) /\ w'.cell? ⟨wr.heap.size,2,none⟩ = some (.int .i64 e) /\ (convert 67 9 (.slice (some ⟨W4.heap.size,0,none⟩) v1 cb)).run Tryz.prog w' = .ok (.string (bs l9)) w' /\ (Instr.lookup 62 (.map (some bm)) (.string (bs l9)) false).run Tryz.prog w' = .ok (.int .i64 (qv : Int)) w':=fun w' h=>⟨cell_later h o0,cell_later h g0,cell_later h nn0,cell_later h nn1,cell_later h nn2,cell_later h y0,cell_later h y1,cell_later h y2,hback w' h,hlook w' h⟩
        have HKS : Hid (Lat W6 W6):=Below.refl _ _
        refine wp_region_plan (fun w'=>Lat W6 w') (fun i=>Nat.blt i 14) [(0,true),(1,true),(2,true),(3,true),(4,true),(5,true),(6,true),(7,true),(8,true),(9,true),(10,true),(11,true),(12,false),(13,false),(14,false)] (by kernel_rfl) (by kernel_rfl) rfl (by kernel_rfl) (fun o c a v w=>by cases o.dst<;>exact id) HKS.out.drew ?_
        iterate 12 (refine planT rfl rfl (v:=?_) (fun w' hw'=>?_) ?_;rotate_left;(focus have hw':=HRd w' hw';obtain ⟨q0,q1,q2,q3,q4,q5,q6,q7,q8,q9⟩:=hw';go_simp;try with_reducible rfl);try simp only [Act.put,U1,U2,U3])
        refine planF rfl rfl (fun K hK=>?_)
        go_simp
        refine hK _ _ (fun _=>by first | exact HKS.out.alloc _ | exact (HKS.out.alloc _).drew | exact (HKS.out.drew).alloc _) ?_;clear hK K
        try simp only [Act.put,U1,U2,U3]
        refine plan_world (fun W7=>Blk W7 (W6.heap.size) 36 [.bool (sgnB (dN c)),.string (bs (nt (dN c).natAbs)),.int .i64 (dE c),.bool s,.string (bs m),.int .i64 e] /\ Below W6.heap.size W6 W7) (by first | exact nw1 | exact nw2) ?_
        rintro W7 ⟨qm1,hbn⟩
        clear g0 g1 g2
        clear o0 o1 o2
        clear nn0 nn1 nn2
        clear u0 u1 u2
        clear y0 y1 y2
        have lz_g_W7:=Hg.out.lt
        have lz_o_W7:=Ho.out.lt
        have lz_y_W7:=Hy.out.lt
        replace HKS:=lid (HKS.out.below hbn)
        replace Hg:=kB Hg hbn
        replace Ho:=kB Ho hbn
        replace Hnn:=kW Hnn hbn
        replace Hu:=kW Hu hbn
        replace HFM:=kM HFM hbn
        replace HFU:=kT HFU hbn
        replace HFB:=kB HFB hbn
        replace Hy:=kB Hy hbn
        have Hm1:=lid qm1;clear qm1
        obtain ⟨g0,g1,g2⟩:=Hg.out.c3
        obtain ⟨o0,o1,o2⟩:=Ho.out.c3
        obtain ⟨nn0,nn1,nn2⟩:=Hnn.out.w3
        obtain ⟨u0,u1,u2⟩:=Hu.out.w3
        obtain ⟨y0,y1,y2⟩:=Hy.out.c3
        obtain ⟨m10,m11,m12,m13,m14,m15⟩:=Hm1.out.c6
        replace Hb:=bnx Hb hbn;clear hbn
        refine planF rfl rfl (fun K hK=>?_)
        go_simp
        with_reducible refine (dMul_two _ _ _ _ _ _ E (A + B) HmE.out _ 2 _ _ Hfc.out Hfx.out (by omega) Hm1.out (by first | exact HFU.out | exact Tab.drew HFU.out | exact Tab.alloc HFU.out _ | exact Tab.drew (Tab.alloc HFU.out _) | exact Tab.alloc (Tab.drew HFU.out) _)).mono ?_
        rintro e w8 ⟨rfl,hq⟩
        have hbn : Below W7.heap.size W7 w8:=by first | exact hq | exact bundrew hq
        clear g0 g1 g2
        clear o0 o1 o2
        clear nn0 nn1 nn2
        clear u0 u1 u2
        clear y0 y1 y2
        clear m10 m11 m12 m13 m14 m15
        replace HKS:=lid (HKS.out.below hbn)
        replace Hg:=kB Hg hbn
        replace Ho:=kB Ho hbn
        replace Hnn:=kW Hnn hbn
        replace Hu:=kW Hu hbn
        replace HFM:=kM HFM hbn
        replace HFU:=kT HFU hbn
        replace HFB:=kB HFB hbn
        replace Hy:=kB Hy hbn
        replace Hm1:=kB Hm1 hbn
        obtain ⟨g0,g1,g2⟩:=Hg.out.c3
        obtain ⟨o0,o1,o2⟩:=Ho.out.c3
        obtain ⟨nn0,nn1,nn2⟩:=Hnn.out.w3
        obtain ⟨u0,u1,u2⟩:=Hu.out.w3
        obtain ⟨y0,y1,y2⟩:=Hy.out.c3
        obtain ⟨m10,m11,m12,m13,m14,m15⟩:=Hm1.out.c6
        replace Hb:=bnx Hb hbn;clear hbn
        refine hK _ _ (fun _=>HKS.out) ?_;clear hK K
        try simp only [Act.put,U1,U2,U3]
        refine planF rfl rfl (fun K hK=>?_)
        go_simp
        with_reducible refine (splus_any bB M qv (A + B + 4608) ds (sgnB (dN E)) (nt (dN E).natAbs) (dE E) D9 _ Hlen.out HFB.out hqd HfE.out Hdq.out (by omega) HdE.out (by first | exact HFU.out | exact Tab.drew HFU.out | exact Tab.alloc HFU.out _ | exact Tab.drew (Tab.alloc HFU.out _) | exact Tab.alloc (Tab.drew HFU.out) _)).mono ?_
        rintro e' w9 ⟨⟨rv,rfl⟩,qB,qg⟩
        refine hK _ _ (fun h=>absurd h (by decide)) ?_;clear hK K
        simp only [wpPlan]
        have HqB:=lid qB
        have Hqg : Hid (Chg (fun b=>b = bB) w3 w9):=(Hpg.out.below' Hb.out).trans (Chg.of_grown qg (fun b e=>by cases e;rfl)) (fun b h=>.inl h)
        clear qB qg hback hlook HRd
        go_wp2
        go_roundw
        case rel=>exact ⟨j + 1,by omega,by go_num,by rw [Hds'.out,Hq3.out];exact HqB.out,Hqg.out⟩
        case measure=>simp [intOf];omega
      . obtain rfl : j = v1:=by omega
        have hn:=Hdn.out k hlt
        rw [Hv1.out] at hn
        rw [hn] at pB
        have HpB:=lid pB
        clear pB hn
        go_wp2
        go_roundw
        case rel=>exact ⟨k + 1,by omega,by go_num,HpB.out,pg⟩
        case measure=>simp [intOf];omega
   . obtain rfl : k = N:=by omega
     have hg9:=pg.blk E0.out (by omega)
     have hr9:=pg.blk E1.out (by omega)
     have ho9:=pg.blk E5.out (by omega)
     rw [Hdf.out] at pB
     obtain ⟨r0,fr0,r1,fr1,r2,fr2⟩:=hr9.g3
     obtain ⟨o0,o1,o2⟩:=ho9.c3
     have Hbz:=lid (E7.out.trans (pg.below (n:=w.heap.size) (by omega) (fun b e=>by omega)))
     have HpB:=lid pB
     clear pB hg9 hr9 ho9
     go_wp2
     refine bodyPost_ret (v:=.agg #[.slice (some ⟨bB,0,none⟩) M M,.int .i64 (V : Int),.int .i64 (d1 : Int)]) (by simp [results,Tryz.results56,go_sem,r0,r1,r2]) rfl ⟨bB,rfl,by omega,At.of_blk (t:=36) ?_,?_⟩
     . exact ((HpB.out.so _ _ (by omega) _).so _ _ (by omega) _).so _ _ (by omega) _
     . exact ((Hbz.out.setCell (by dsimp only;omega) _).setCell (by dsimp only;omega) _).setCell (by dsimp only;omega) _
def Gr (w : World) (base g8 V m : Nat) (cs : List Dyadic) : Prop:=
 ∃ aG capG,Blk w g8 108 [.slice aG (cnt V m) capG,.int .i64 (V : Int),.int .i64 (m : Int)] /\ At w aG (dC cs) /\ ∀ b o,aG = some ⟨b,o,none⟩ -> base <= b
theorem Gr.below {w w' : World} {base g8 V m : Nat} {cs : List Dyadic} (h : Gr w base g8 V m cs) (hb : Below w.heap.size w w') : Gr w' base g8 V m cs:=by
 obtain ⟨a,c,h1,h2,h3⟩:=h
 exact ⟨a,c,h1.below hb,h2.below hb,h3⟩
def colR (rows : List (List Raw)) (k : Nat) : List Raw:=rows.map fun r=>r.getD k (false,[],0)
theorem colR_val (rows : List (List Raw)) (k V : Nat) (hrow : ∀ r ∈ rows,r.length = V) (hk : k < V) : (colR rows k).map dval = colS (rows.map fun r=>r.map dval) k:=by
 unfold colR colS
 rw [List.map_map,List.map_map]
 refine List.map_congr_left (fun r hr=>?_)
 have h:=hrow r hr
 show dval (r.getD k _) = (r.map dval).getD k 0
 simp [List.getD_eq_getElem?_getD,show k < r.length by omega]
theorem colR_fit {B V k : Nat} {rows : List (List Raw)} (hrow : ∀ r ∈ rows,r.length = V) (hk : k < V) (hfit : ∀ r ∈ rows,∀ c ∈ r,Fit B c) : ∀ x ∈ colR rows k,Fit B x:=by
 intro x hx
 unfold colR at hx
 obtain ⟨r,hr,rfl⟩:=List.mem_map.1 hx
 have h:=hrow r hr
 have e : r.getD k (false,[],0) = r[k]'(by omega):=by simp [List.getD_eq_getElem?_getD,show k < r.length by omega]
 rw [e]
 exact hfit r hr _ (List.getElem_mem _)
theorem flat_take {α β : Type} (f : α -> List β) (xs : List α) (k : Nat) (h : k < xs.length) : (xs.take (k + 1)).flatMap f = (xs.take k).flatMap f ++ f xs[k]:=by
 rw [List.take_succ_eq_append_getElem h,List.flatMap_append];simp
theorem take_sum_le (es : List Nat) (k : Nat) : (es.take k).sum <= es.sum:=by
 induction es generalizing k with
 | nil=>simp
 | cons x es ih =>
   cases k with
   | zero=>simp
   | succ k=>have:=ih k;simp at this ⊢;omega
def degAt (w : World) (g8 : Nat) : Nat:=match w.cell? ⟨g8,2,none⟩ with | some v=>(intOf v).toNat | none=>0
theorem degAt_blk {w : World} {g8 m : Nat} {t : TypeId} {x y : Value} (h : Blk w g8 t [x,y,.int .i64 (m : Int)]) : degAt w g8 = m:=by
 unfold degAt
 rw [h.cell]
 simp [intOf]
theorem term_any (V D L : Nat) (l : List UInt8) (s : Bool) (mm : List UInt8) (e : Int) (a : Option Addr) (cap : Nat) (rows : List (List Raw)) (B : Nat) (c : Dyadic) (w : World) (hV : 1 <= V) (hV2 : V <= 8) (hL : rows.length = L) (hL1 : L = V + 1) (hrow : ∀ r ∈ rows,r.length = V)
 (hll : l.length = V) (hsum : (l.map UInt8.toNat).sum <= D) (hD : D <= 20) (hcnt : ∀ d,d <= D -> cnt V d <= 512) (ha : Tbl w a rows) (hfit : ∀ r ∈ rows,∀ c ∈ r,Fit B c) (hx : Ok (s,mm,e)) (hc : dval (s,mm,e) = c) (hcs : Sm B c) (hB1 : 1 <= B) (hB : B <= 100000) (hT : Tab w) :
 Calls Tryz.prog 33 #[.agg #[.string (bs l),.bool s,.string (bs mm),.int .i64 e],.slice a L cap,.int .i64 (D : Int)] w fun e w'=>∃ a' c',e = .returned (.slice a' (cnt V D) c') /\
  At w' a' (dC (formT V D (rows.map fun r=>r.map dval) c (l.map UInt8.toNat))) /\ (∀ b o,a' = some ⟨b,o,none⟩ -> w.heap.size <= b) /\ Below w.heap.size w w':=by
 obtain ⟨i0,hi,hz0,hz1,hz2⟩:=info_parts Tryz.infoN
 obtain ⟨S,hS⟩ : ∃ S,(rows.map fun r=>r.map dval) = S:=⟨_,rfl⟩
 obtain ⟨es,hes⟩ : ∃ es,l.map UInt8.toNat = es:=⟨_,rfl⟩
 have hesl : es.length = V:=by rw [<- hes];simpa using hll
 have hSs : ∀ r ∈ S,∀ d ∈ r,Sm B d:=by
  intro r hr d hd
  rw [<- hS] at hr
  obtain ⟨x,hx,rfl⟩:=List.mem_map.1 hr
  obtain ⟨y,hy,rfl⟩:=List.mem_map.1 hd
  exact (hfit x hx y hy).2
 have hcolm : ∀ k,∀ d ∈ colS S k,Sm B d:=by
  intro k d hd
  unfold colS at hd
  obtain ⟨r,hr,rfl⟩:=List.mem_map.1 hd
  exact getD_sm (hSs r hr) k
 have hone : ∀ d ∈ onesL V,Sm B d:=by
  intro d hd
  rw [(List.mem_replicate.1 hd).2]
  exact Sm.mono (A:=1) ⟨2,by decide,by decide⟩ hB1
 rw [hS,hes]
 rw [hes] at hsum
 have hgsm : ∀ ls : List (List Dyadic),ls.length <= D -> (∀ l ∈ ls,∀ d ∈ l,Sm B d) -> ∀ d ∈ growL V 0 [c] ls,Sm (B + 20 * (B + 4608)) d:=by
  intro ls h1 h2 d hd
  refine (growL_sm (A:=B) (B:=B) (V:=V) (D:=0) (cs:=[c]) ls (by simpa using hcs) h2 hV2 (fun d hd=>hcnt d (by omega)) d hd).mono ?_
  have:=Nat.mul_le_mul_right (B + 4608) (show ls.length <= 20 by omega)
  omega
 have hglen : ∀ ls : List (List Dyadic),(growL V 0 [c] ls).length = cnt V ls.length:=fun ls=>by
  have:=growL_len V 0 [c] ls (by rw [cnt_nought];rfl)
  rw [Nat.zero_add] at this;exact this
 have hshl : ∀ k,k <= V -> (sharesN S es k).length <= es.sum:=fun k hk=>by rw [sharesN_len S es k (by omega)];exact take_sum_le es k
 have hshm : ∀ k,∀ l ∈ sharesN S es k,∀ d ∈ l,Sm B d:=by
  intro k l hl
  unfold sharesN at hl
  rw [List.mem_flatMap] at hl
  obtain ⟨t,_,hl⟩:=hl
  rw [(List.mem_replicate.1 hl).2]
  exact hcolm t
 have hform:=fun W=>fun (hT : Tab W)=>form_any s mm e c hc W hx hT
 obtain ⟨one,hone1⟩ : ∃ one : Dyadic,(1 : Dyadic) = one:=⟨_,rfl⟩
 have hof:=fun W=>fun (hT : Tab W)=>dOf_any 1 one hone1 W (by decide) hT
 have hof1 : Fit B (canon one):=by rw [<- hone1];exact (Sm.mono (A:=1) ⟨2,by decide,by decide⟩ hB1 : Sm B 1).fit (by omega)
 have Hof1:=lid hof1;have Hone1:=lid hone1
 clear hof1 hone1
 have hfc : Fit B (canon c):=hcs.fit (by omega)
 have Hform:=lid hform;have Hof:=lid hof
 have Hi:=lid hi;have Hz0:=lid hz0;have Hz1:=lid hz1;have Hz2:=lid hz2
 have HS:=lid hS;have Hes:=lid hes;have Hesl:=lid hesl;have Hcolm:=lid hcolm;have Hone:=lid hone;have Hsum:=lid hsum;have Hgsm:=lid hgsm;have Hglen:=lid hglen;have Hshl:=lid hshl;have Hshm:=lid hshm
 have HL1:=lid hL1;have HL:=lid hL;have Hrow:=lid hrow;have Hll:=lid hll;have Hcnt:=lid hcnt;have Ha:=lid ha;have Hfit:=lid hfit;have HT0:=lid hT
 have hwV : IntKind.i64.wrap ((L : Int) - 1) = (V : Int):=by rw [IntKind.wrap_i64];omega
 clear hL1
 clear hform hof hi hz0 hz1 hz2 hS hes hesl hSs hcolm hone hsum hgsm hglen hshl hshm hL hrow hll hcnt ha hfit hx hc hcs hT hfc
 obtain ⟨W,hW_W⟩ : ∃ W,(w.alloc (.cells #[.string (bs l),.bool s,.string (bs mm),.int .i64 e] 49)) = W:=⟨_,rfl⟩
 have Hb : Hid (Below w.heap.size w W):=by rw [<- hW_W];exact ((Below.refl _ _).alloc (Nat.le_refl _) _)
 have Ht : Hid (Blk W (w.heap.size) 49 [.string (bs l),.bool s,.string (bs mm),.int .i64 e]):=by rw [<- hW_W];exact Blk.newAt _ _ _ (by simp)
 obtain ⟨t0,t1,t2,t3⟩:=Ht.out.c4
 have HFU : Hid (Tab W):=HT0.out.below Hb.out
 go_enter Tryz.func33,Tryz.ntmps33
 go_wp2_with fail
 refine (Hform.out _ HFU.out).mono ?_
 rintro e w1 ⟨rfl,hbn⟩
 clear t0 t1 t2 t3
 replace Ht:=kB Ht hbn
 replace HFU:=kT HFU hbn
 obtain ⟨t0,t1,t2,t3⟩:=Ht.out.c4
 replace Hb:=bnx Hb hbn;clear hbn
 have P0:=t0
 have lz_t_W2:=Ht.out.lt
 obtain ⟨W2,hW_W2⟩ : ∃ W2,((w1.alloc (.cells #[.bool (sgnB (dN c)),.string (bs (nt (dN c).natAbs)),.int .i64 (dE c)] 36)).alloc (.cells #[.slice (some ⟨w1.heap.size,0,none⟩) 1 1,.int .i64 (V : Int),.int .i64 0] 108)) = W2:=⟨_,rfl⟩
 have hbn : Below w1.heap.size w1 W2:=by rw [<- hW_W2];exact (((Below.refl _ _).alloc (Nat.le_refl _) _).alloc (by simp<;>omega) _)
 clear t0 t1 t2 t3
 replace Ht:=kB Ht hbn
 replace HFU:=kT HFU hbn
 have Hna : Hid (Blk W2 (w1.heap.size) 36 [.bool (sgnB (dN c)),.string (bs (nt (dN c).natAbs)),.int .i64 (dE c)]):=by rw [<- hW_W2];exact (Blk.newAt _ _ _ (by simp)).alloc _
 have Hg : Hid (Blk W2 (w1.heap.size + 1) 108 [.slice (some ⟨w1.heap.size,0,none⟩) 1 1,.int .i64 (V : Int),.int .i64 0]):=by rw [<- hW_W2];exact Blk.newAt _ _ _ (by simp)
 obtain ⟨t0,t1,t2,t3⟩:=Ht.out.c4
 obtain ⟨na0,na1,na2⟩:=Hna.out.c3
 obtain ⟨g0,fg0,g1,fg1,g2,fg2⟩:=Hg.out.g3
 replace Hb:=bnx Hb hbn;clear hbn
 clear P0
 have szw:=Hb.out.size
 have lz1 : w.heap.size < w1.heap.size:=lz_t_W2
 go_upto_region 3 with fail
 refine wp_world (fun W9=>Blk W9 w.heap.size 49 [.string (bs l),.bool s,.string (bs mm),.int .i64 e] /\ Blk W9 w1.heap.size 36 [.bool (sgnB (dN c)),.string (bs (nt (dN c).natAbs)),.int .i64 (dE c)] /\ Blk W9 (w1.heap.size + 1) 108 [.slice (some ⟨w1.heap.size,0,none⟩) 1 1,.int .i64 (V : Int),.int .i64 0] /\ Below w.heap.size w W9)
  ⟨Ht.out.so _ _ (by omega) _,Hna.out.so _ _ (by omega) _,Hg.out.set 2 _,Hb.out.sc _ _ (by omega) _⟩ ?_
 rintro W9 ⟨qt,qn,qg,hb9⟩
 have t0 : W9.cell? ⟨w.heap.size,0,none⟩ = some (.string (bs l)):=qt.cell 0
 obtain ⟨cb,W3,hcv,hb3,hs3,hbt⟩:=str_bytes l W9
 rw [Hll.out] at hcv
 have lg:=qg.lt
 have hGr : Gr W3 w.heap.size (w1.heap.size + 1) V 0 [c]:=by
  refine ⟨some ⟨w1.heap.size,0,none⟩,1,?_,?_,fun b o e=>by cases e;omega⟩
  . rw [cnt_nought];exact qg.below hb3
  . exact At.of_blk (qn.below hb3)
 have hbw3:=bnext hb9 hb3
 have hTb3:=HT0.out.below hbw3
 have HGr0 : Hid (w1.heap.size + 1 < W9.heap.size /\ W9.heap.size <= W3.heap.size):=⟨lg,hb3.size⟩
 have HGr:=lid hGr;have Hbw3:=lid hbw3;have HTb3:=lid hTb3;have Hbt:=lid hbt
 clear hGr hbw3 hTb3 hbt HFU Hna Hg Hb hb3 hb9 qt qn qg Ht na0 na1 na2 g0 g1 g2 fg0 fg1 fg2
 go_wp2_with fail
 clear t0 hcv
 go_loopw [27] (fun x wr=>∃ k : Nat,k <= V /\ x = .int .i64 (k : Int) /\ Gr wr w.heap.size (w1.heap.size + 1) V (sharesN S es k).length (growL V 0 [c] (sharesN S es k)) /\ Chg (fun b=>b = w1.heap.size + 1) W3 wr) (fun x _=>V - (intOf x).toNat)
 case atStart=>exact ⟨0,Nat.zero_le _,rfl,HGr.out,Chg.refl _ _⟩
 case round=>
  clear HGr
  obtain ⟨k,hk,rfl,pG,pg⟩:=hrel
  by_cases hlt : k < V
  . have jl : k < l.length:=by rw [Hll.out];exact hlt
    have hL1:=HL1.out
    have hL9 : L <= 9:=by omega
    have gsz : w1.heap.size + 1 < W3.heap.size:=by have:=HGr0.out;omega
    have m0 : wr.cell? ⟨W9.heap.size,k,none⟩ = some (.int .u8 (l[k].toNat : Int)):=pg.cell (Hbt.out k jl).1 (by dsimp only;omega)
    have ixB:=i67x5 V cb k (k : Int) (rfl : (some ⟨W9.heap.size,0,none⟩ : Option Addr) = _) hlt rfl
    rw [Nat.zero_add,Nat.mul_one] at ixB
    obtain ⟨ek,hek⟩ : ∃ ek,l[k].toNat = ek:=⟨_,rfl⟩
    have hek255 : ek <= 255:=by rw [<- hek];have:=l[k].toNat_lt;omega
    have hesk : es.getD k 0 = ek:=by rw [<- hek,<- Hes.out];simp [List.getD_eq_getElem?_getD,jl]
    rw [hek] at m0
    obtain ⟨sh,hsh⟩ : ∃ sh,sharesN S es k = sh:=⟨_,rfl⟩
    obtain ⟨col,hcol⟩ : ∃ col,colR rows k = col:=⟨_,rfl⟩
    have hcl : col.length = L:=by rw [<- hcol];simp [colR,HL.out]
    have hcv : col.map dval = colS S k:=by rw [<- hcol,<- HS.out];exact colR_val rows k V Hrow.out hlt
    have hcf : ∀ x ∈ col,Fit B x:=by rw [<- hcol];exact colR_fit Hrow.out hlt Hfit.out
    have hbnd : sh.length + ek <= D:=by
     have h1:=Hshl.out (k + 1) hlt
     have h2:=congrArg List.length (sharesN_succ S es k)
     rw [List.length_append,List.length_replicate,hesk,hsh] at h2
     have h3:=Hsum.out
     omega
    have hnxt : sharesN S es (k + 1) = sh ++ List.replicate ek (colS S k):=by rw [sharesN_succ,hesk,hsh]
    rw [hsh] at pG
    have hbw:=Hbw3.out.trans (pg.below (n:=w.heap.size) (by have:=Hbw3.out.size;omega) (fun b e=>by omega))
    have HpG:=lid pG;have Hpg:=lid pg;have Hcl:=lid hcl;have Hcvl:=lid hcv;have Hcf:=lid hcf;have Hnxt:=lid hnxt;have Hbw:=lid hbw;have Hcol:=lid hcol;have Hsh:=lid hsh
    clear pG pg hcl hcv hcf hnxt hbw hcol hesk hek hsh hL1
    obtain ⟨wk,hwk⟩ : ∃ wk,wk = wr:=⟨_,rfl⟩
    subst hwk
    have szk:=Hpg.out.size
    go_wp2_with fail
    go_loopw [11,34] (fun s11 x wr=>∃ (j : Nat) (v2 : Value),j <= L /\ x = .int .i64 (j : Int) /\ v2 = s11 /\ wr.ownsRow wk.heap.size 36 3 v2 j ((col.take j).flatMap numC) /\ Below wk.heap.size wk wr) (fun _ x _=>L - (intOf x).toNat)
    case atStart=>exact ⟨0,_,Nat.zero_le _,rfl,rfl,World.ownsRow_nil _ _ _ _,Below.refl _ _⟩
    case round=>
     clear m0 ixB
     obtain ⟨j,v2,hj,rfl,rfl,ho,hb2⟩:=hrel
     by_cases hlt2 : j < L
     . have jr : j < rows.length:=by rw [HL.out];exact hlt2
       obtain ⟨b1,o1,a1,c1,hab,hc1,hat⟩:=(Ha.out.below (Hbw.out.trans (hb2.mono (by have:=Hbw.out.size;omega)))).row j jr
       have hrl:=Hrow.out _ (List.getElem_mem jr)
       have kr : k < rows[j].length:=by rw [hrl];exact hlt
       obtain ⟨s1,m1,e1,hx1⟩ : ∃ s m e,rows[j][k] = (s,m,e):=⟨_,_,_,rfl⟩
       obtain ⟨b2,o2,hab2,p0,p1,p2⟩:=hat.num k kr hx1
       rw [hrl] at hc1
       have jc : j < col.length:=by rw [Hcl.out];exact hlt2
       have hst : (col.take (j + 1)).flatMap numC = (col.take j).flatMap numC ++ [.bool s1,.string (bs m1),.int .i64 e1]:=by
        rw [flat_take numC col j jc]
        congr 1
        have : col[j] = (s1,m1,e1):=by
         have h9 : col[j]? = (colR rows k)[j]?:=by rw [Hcol.out]
         rw [List.getElem?_eq_getElem jc] at h9
         unfold colR at h9
         rw [List.getElem?_map,List.getElem?_eq_getElem jr] at h9
         simp only [Option.map_some,Option.some.injEq] at h9
         rw [h9]
         simp [List.getD_eq_getElem?_getD,kr,hx1]
        rw [this];rfl
       have ix1:=i45x46 L cap j (j : Int) hab hlt2 rfl
       rw [Nat.mul_one] at ix1
       have ix2:=i46x36 V c1 k (k : Int) hab2 hlt rfl
       have Hst:=lid hst;have Ho:=lid ho;have Hb2:=lid hb2
       have Hp : Hid (Win wr b2 (o2 + k * 3) [.bool s1,.string (bs m1),.int .i64 e1]):=win3 p0 p1 p2
       have sz2:=hb2.size
       clear hst ho hb2 hab hab2 hat hrl kr hx1 p0 p1 p2
       have Hb : Hid (Below wr.heap.size wr wr):=Below.refl _ _
       obtain ⟨p0,p1,p2⟩:=Hp.out.w3
       have P0:=p0;have P1:=p1;have P2:=p2
       obtain ⟨W6,hW_W6⟩ : ∃ W6,(wr.alloc (.cells #[.bool s1,.string (bs m1),.int .i64 e1] 36)) = W6:=⟨_,rfl⟩
       have hbn : Below wr.heap.size wr W6:=by rw [<- hW_W6];exact ((Below.refl _ _).alloc (Nat.le_refl _) _)
       clear p0 p1 p2
       replace Hp:=kW Hp hbn
       have Hd : Hid (Blk W6 (wr.heap.size) 36 [.bool s1,.string (bs m1),.int .i64 e1]):=by rw [<- hW_W6];exact Blk.newAt _ _ _ (by simp)
       obtain ⟨p0,p1,p2⟩:=Hp.out.w3
       obtain ⟨d0,d1,d2⟩:=Hd.out.c3
       replace Hb:=bnx Hb hbn;clear hbn
       have hv6:=ownsRow_below Ho.out Hb.out
       have hs6:=Hb.out.size
       have hnews:=blk_news Hd.out
       clear d0 d1 d2
       go_wp2_with (at_builtin;refine wpList_append_own_at _ rfl _ _ 22 rfl wk.heap.size 36 i0 _ 3 32 Tryz.underlying22 Hi.out Hz0.out Hz1.out Hz2.out rfl (by decide) v2 j ((col.take j).flatMap numC) rfl hv6 ⟨wr.heap.size,0,none⟩ 1 1 [.bool s1,.string (bs m1),.int .i64 e1] rfl rfl hnews (by simp [Value.oneCell']) (by simp [maxLen];omega) (by omega) (by omega) ?_;intro v' w7 ho7 hg7 _ _;obtain ⟨g',cq2,rfl⟩:=ownsRow_succ ho7)
       go_roundw
       case rel=>
        refine ⟨j + 1,_,by omega,by go_num,rfl,?_,?_⟩
        . rw [Hst.out];exact ho7
        . exact (bnext Hb2.out Hb.out).grown hg7 (by omega) (fun j e=>ownsRow_base hv6 j e)
       case measure=>simp [intOf];omega
     . obtain rfl : j = L:=by omega
       have hct : col.take j = col:=List.take_of_length_le (by rw [Hcl.out];exact Nat.le_refl _)
       rw [hct] at ho
       obtain ⟨a2,cap2,rfl,hat2,hab2⟩:=ownsRow_at ho
       have HpG2:=lid (HpG.out.below hb2);have Hpg2:=lid (Hpg.out.below' hb2);have Hat2:=lid hat2;have Hab2:=lid hab2
       have HTw:=lid ((HT0.out.below Hbw.out).below hb2)
       have sz2:=hb2.size
       clear ho hb2 hct hat2 hab2
       obtain ⟨wj,hwj⟩ : ∃ wj,wj = wr:=⟨_,rfl⟩
       subst hwj
       go_wp2_with fail
       go_loopw [49] (fun x wr=>∃ i : Nat,i <= ek /\ x = .int .u8 (i : Int) /\ Gr wr w.heap.size (w1.heap.size + 1) V (sh.length + i) (growL V 0 [c] (sh ++ List.replicate i (colS S k))) /\ Chg (fun b=>b = w1.heap.size + 1) wj wr) (fun x _=>ek - (intOf x).toNat)
       case atStart=>exact ⟨0,Nat.zero_le _,rfl,by simpa using HpG2.out,Chg.refl _ _⟩
       case round=>
        clear HpG2
        obtain ⟨i,hie,rfl,pG,pg⟩:=hrel
        by_cases hlt3 : i < ek
        . have hw8 : IntKind.u8.wrap ((i : Int) + 1) = ((i + 1 : Nat) : Int):=by rw [IntKind.wrap_u8];omega
          obtain ⟨aG,capG,hbk,hatG,hbase⟩:=pG
          obtain ⟨lsi,hlsi⟩ : ∃ ls,sh ++ List.replicate i (colS S k) = ls:=⟨_,rfl⟩
          obtain ⟨m,hm⟩ : ∃ m,sh.length + i = m:=⟨_,rfl⟩
          have hlm : lsi.length = m:=by rw [<- hlsi,<- hm,List.length_append,List.length_replicate]
          have hmD : m < D:=by omega
          have hsnoc : growL V 0 [c] (sh ++ List.replicate (i + 1) (colS S k)) = timesL V m (growL V 0 [c] lsi) (colS S k):=by
           rw [List.replicate_succ',<- List.append_assoc,hlsi,growL_snoc,Nat.zero_add,hlm]
          have hlsm : ∀ l ∈ lsi,∀ d ∈ l,Sm B d:=by
           intro l hl
           rw [<- hlsi,List.mem_append] at hl
           rcases hl with hl | hl
           . exact Hshm.out k l (by rw [Hsh.out];exact hl)
           . rw [(List.mem_replicate.1 hl).2];exact Hcolm.out k
          rw [hlsi] at hatG
          rw [hm] at hbk
          obtain ⟨N,hN⟩ : ∃ N,cnt V m = N:=⟨_,rfl⟩
          obtain ⟨M,hM⟩ : ∃ M,cnt V (m + 1) = M:=⟨_,rfl⟩
          rw [hN] at hbk
          have hnT : ¬ (0 = w1.heap.size + 1):=by have:=HT0.out.lt;omega
          have htm:=times_any V m N M (B + 20 * (B + 4608)) B aG capG (growL V 0 [c] lsi) a2 cap2 col (colS S k) j HL1.out.symm (m + 1) rfl wr hV hV2 (by omega) hN hM (by rw [<- hN];exact Hcnt.out m (by omega)) (by rw [<- hM];exact Hcnt.out (m + 1) (by omega)) (by rw [Hglen.out,hlm,hN]) Hcl.out Hcvl.out hatG (Hat2.out.chg pg (fun b o e=>by have:=Hab2.out b o e;omega)) (Hgsm.out lsi (by omega) hlsm) Hcf.out (by omega) (pg.tab HTw.out hnT)
          have Htm:=lid htm;have Hg:=lid hbk;have Hpg3:=lid pg;have Hsn:=lid hsnoc;have Hm:=lid hm;have HM:=lid hM
          clear htm hbk pg hsnoc hm hM hN hlm hatG hlsm hlsi
          have Hb : Hid (Below wr.heap.size wr wr):=Below.refl _ _
          have lg8:=Hg.out.lt
          obtain ⟨g0,fg0,g1,fg1,g2,fg2⟩:=Hg.out.g3
          go_wp2_with fail
          refine (Htm.out).mono ?_
          rintro e w2 ⟨bO,rfl,hbO,hatO,hbn⟩
          clear g0 fg0 g1 fg1 g2 fg2
          replace Hg:=kB Hg hbn
          obtain ⟨g0,fg0,g1,fg1,g2,fg2⟩:=Hg.out.g3
          replace Hb:=bnx Hb hbn;clear hbn
          have HatO:=lid hatO
          have Hch : Hid (Chg (fun b=>b = w1.heap.size + 1) wj w2):=Hpg3.out.below' Hb.out
          clear hatO
          go_wp2
          go_roundw
          case rel=>
           have hblk:=((Hg.out.set 0 (.slice (some ⟨bO,0,none⟩) M M)).set 1 (.int .i64 (V : Int))).set 2 (.int .i64 ((m : Int) + 1))
           have hchg:=((Hch.out.set (a:=⟨w1.heap.size + 1,0,none⟩) rfl (.slice (some ⟨bO,0,none⟩) M M)).set (a:=⟨w1.heap.size + 1,1,none⟩) rfl (.int .i64 (V : Int))).set (a:=⟨w1.heap.size + 1,2,none⟩) rfl (.int .i64 ((m : Int) + 1))
           have hat9:=HatO.out.chg ((((Chg.refl (fun b=>b = w1.heap.size + 1) w2).set (a:=⟨w1.heap.size + 1,0,none⟩) rfl (.slice (some ⟨bO,0,none⟩) M M)).set (a:=⟨w1.heap.size + 1,1,none⟩) rfl (.int .i64 (V : Int))).set (a:=⟨w1.heap.size + 1,2,none⟩) rfl (.int .i64 ((m : Int) + 1))) (fun b o e=>by cases e;omega)
           refine ⟨i + 1,by omega,by go_num,⟨some ⟨bO,0,none⟩,M,?_,?_,fun b o e=>by cases e;omega⟩,hchg⟩
           . have e9 : sh.length + (i + 1) = m + 1:=by rw [<- Hm.out];omega
             have e10 : ((sh.length + (i + 1) : Nat) : Int) = (m : Int) + 1:=by omega
             rw [e10,e9,HM.out]
             exact hblk
           . rw [Hsn.out];exact hat9
          case measure=>simp [intOf];omega
        . obtain rfl : i = ek:=by omega
          have HpG3:=lid pG;have Hpg3:=lid (Hpg2.out.trans pg (fun b e=>.inl e))
          clear pG pg
          go_wp2
          go_roundw
          case rel=>
           refine ⟨k + 1,by omega,by go_num,?_,Hpg3.out⟩
           rw [Hnxt.out,List.length_append,List.length_replicate]
           exact HpG3.out
          case measure=>simp [intOf];omega
  . obtain rfl : V = k:=by omega
    obtain ⟨sh,hsh⟩ : ∃ sh,sharesN S es V = sh:=⟨_,rfl⟩
    rw [hsh] at pG
    have hshS : sh.length = es.sum:=by rw [<- hsh,sharesN_len S es V (by rw [Hesl.out];exact Nat.le_refl _),List.take_of_length_le (by rw [Hesl.out];exact Nat.le_refl _)]
    have gsz : w1.heap.size + 1 < W3.heap.size:=by have:=HGr0.out;omega
    have hbw:=Hbw3.out.trans (pg.below (n:=w.heap.size) (by have:=Hbw3.out.size;omega) (fun b e=>by omega))
    have HpG:=lid pG;have Hpg:=lid pg;have Hbw:=lid hbw;have Hsh:=lid hsh;have HshS:=lid hshS
    clear pG pg hbw hsh hshS
    obtain ⟨wk,hwk⟩ : ∃ wk,wk = wr:=⟨_,rfl⟩
    subst hwk
    have szk:=Hpg.out.size
    have hL9 : L <= 9:=by have:=HL1.out;omega
    go_wp2_with fail
    go_loopw [13,58] (fun s13 x wr=>∃ (j : Nat) (v2 : Value),j <= L /\ x = .int .i64 (j : Int) /\ v2 = s13 /\ wr.ownsRow wk.heap.size 36 3 v2 j ((List.replicate j (canon one)).flatMap numC) /\ Below wk.heap.size wk wr) (fun _ x _=>L - (intOf x).toNat)
    case atStart=>exact ⟨0,_,Nat.zero_le _,rfl,rfl,World.ownsRow_nil _ _ _ _,Below.refl _ _⟩
    case round=>
     obtain ⟨j,v2,hj,rfl,rfl,ho,hb2⟩:=hrel
     by_cases hlt2 : j < L
     . have Hst : Hid ((List.replicate (j + 1) (canon one)).flatMap numC = (List.replicate j (canon one)).flatMap numC ++ [.bool (sgnB (dN one)),.string (bs (nt (dN one).natAbs)),.int .i64 (dE one)]):=by
        show _ = _
        rw [List.replicate_succ',List.flatMap_append]
        simp only [List.flatMap_cons,List.flatMap_nil,List.append_nil]
        rfl
       have Ho:=lid ho;have Hb2:=lid hb2
       have HTw:=lid ((HT0.out.below Hbw.out).below hb2)
       have sz2:=hb2.size
       clear ho hb2
       have Hb : Hid (Below wr.heap.size wr wr):=Below.refl _ _
       go_wp2_with fail
       refine (Hof.out _ HTw.out).mono ?_
       rintro e w5 ⟨rfl,hbn⟩
       replace Hb:=bnx Hb hbn;clear hbn
       obtain ⟨W6,hW_W6⟩ : ∃ W6,(w5.alloc (.cells #[.bool (sgnB (dN one)),.string (bs (nt (dN one).natAbs)),.int .i64 (dE one)] 36)) = W6:=⟨_,rfl⟩
       have hbn : Below w5.heap.size w5 W6:=by rw [<- hW_W6];exact ((Below.refl _ _).alloc (Nat.le_refl _) _)
       have Hd : Hid (Blk W6 (w5.heap.size) 36 [.bool (sgnB (dN one)),.string (bs (nt (dN one).natAbs)),.int .i64 (dE one)]):=by rw [<- hW_W6];exact Blk.newAt _ _ _ (by simp)
       obtain ⟨d0,d1,d2⟩:=Hd.out.c3
       replace Hb:=bnx Hb hbn;clear hbn
       have hv6:=ownsRow_below Ho.out Hb.out
       have hs6:=Hb.out.size
       have hnews:=blk_news Hd.out
       clear d0 d1 d2
       go_wp2_with (at_builtin;refine wpList_append_own_at _ rfl _ _ 22 rfl wk.heap.size 36 i0 _ 3 32 Tryz.underlying22 Hi.out Hz0.out Hz1.out Hz2.out rfl (by decide) v2 j ((List.replicate j (canon one)).flatMap numC) rfl hv6 ⟨w5.heap.size,0,none⟩ 1 1 [.bool (sgnB (dN one)),.string (bs (nt (dN one).natAbs)),.int .i64 (dE one)] rfl rfl hnews (by simp [Value.oneCell']) (by simp [maxLen];omega) (by omega) (by omega) ?_;intro v' w7 ho7 hg7 _ _;obtain ⟨g',cq2,rfl⟩:=ownsRow_succ ho7)
       go_roundw
       case rel=>
        refine ⟨j + 1,_,by omega,by go_num,rfl,?_,?_⟩
        . rw [Hst.out];exact ho7
        . exact (bnext Hb2.out Hb.out).grown hg7 (by omega) (fun j e=>ownsRow_base hv6 j e)
       case measure=>simp [intOf];omega
     . obtain rfl : L = j:=by omega
       obtain rfl : L = V + 1:=HL1.out
       obtain ⟨a2,cap2,rfl,hat2,hab2⟩:=ownsRow_at ho
       have HpG2:=lid (HpG.out.below hb2);have Hpg2:=lid (Hpg.out.below' hb2);have Hat2:=lid hat2;have Hab2:=lid hab2
       have HTw:=lid ((HT0.out.below Hbw.out).below hb2)
       have hbz:=Hbw.out.trans (hb2.mono (by have:=Hbw.out.size;omega))
       have Hbz:=lid hbz
       have sz2:=hb2.size
       clear ho hb2 hat2 hab2 hbz
       obtain ⟨wj,hwj⟩ : ∃ wj,wj = wr:=⟨_,rfl⟩
       subst hwj
       have hsD : sh.length <= D:=by have:=Hsum.out;have:=HshS.out;omega
       go_wp2_with fail
       go_loopw [] (fun wr=>∃ i : Nat,sh.length + i <= D /\ Gr wr w.heap.size (w1.heap.size + 1) V (sh.length + i) (growL V 0 [c] (sh ++ List.replicate i (onesL V))) /\ Chg (fun b=>b = w1.heap.size + 1) wj wr) (fun wr=>D - degAt wr (w1.heap.size + 1))
       case atStart=>exact ⟨0,by omega,by simpa using HpG2.out,Chg.refl _ _⟩
       case round=>
        clear HpG2
        obtain ⟨i,hie,pG,pg⟩:=hrel
        by_cases hlt3 : sh.length + i < D
        . obtain ⟨aG,capG,hbk,hatG,hbase⟩:=pG
          obtain ⟨lsi,hlsi⟩ : ∃ ls,sh ++ List.replicate i (onesL V) = ls:=⟨_,rfl⟩
          obtain ⟨m,hm⟩ : ∃ m,sh.length + i = m:=⟨_,rfl⟩
          have hlm : lsi.length = m:=by rw [<- hlsi,<- hm,List.length_append,List.length_replicate]
          have hmD : m < D:=by omega
          have hsnoc : growL V 0 [c] (sh ++ List.replicate (i + 1) (onesL V)) = timesL V m (growL V 0 [c] lsi) (onesL V):=by
           rw [List.replicate_succ',<- List.append_assoc,hlsi,growL_snoc,Nat.zero_add,hlm]
          have hlsm : ∀ l ∈ lsi,∀ d ∈ l,Sm B d:=by
           intro l hl
           rw [<- hlsi,List.mem_append] at hl
           rcases hl with hl | hl
           . exact Hshm.out V l (by rw [Hsh.out];exact hl)
           . rw [(List.mem_replicate.1 hl).2];exact Hone.out
          rw [hlsi] at hatG
          rw [hm] at hbk
          obtain ⟨N,hN⟩ : ∃ N,cnt V m = N:=⟨_,rfl⟩
          obtain ⟨M,hM⟩ : ∃ M,cnt V (m + 1) = M:=⟨_,rfl⟩
          rw [hN] at hbk
          have hnT : ¬ (0 = w1.heap.size + 1):=by have:=HT0.out.lt;omega
          have htm:=times_any V m N M (B + 20 * (B + 4608)) B aG capG (growL V 0 [c] lsi) a2 cap2 (List.replicate (V + 1) (canon one)) (onesL V) (V + 1) rfl (m + 1) rfl wr hV hV2 (by omega) hN hM (by rw [<- hN];exact Hcnt.out m (by omega)) (by rw [<- hM];exact Hcnt.out (m + 1) (by omega)) (by rw [Hglen.out,hlm,hN]) (by simp) (by rw [List.map_replicate,dval_canon,<- Hone1.out];rfl) hatG (Hat2.out.chg pg (fun b o e=>by have:=Hab2.out b o e;omega)) (Hgsm.out lsi (by omega) hlsm) (fun x hx=>by rw [(List.mem_replicate.1 hx).2];exact Hof1.out) (by omega) (pg.tab HTw.out hnT)
          have Htm:=lid htm;have Hg:=lid hbk;have Hpg3:=lid pg;have Hsn:=lid hsnoc;have Hm:=lid hm;have HM:=lid hM
          clear htm hbk pg hsnoc hm hM hN hlm hatG hlsm hlsi
          have Hb : Hid (Below wr.heap.size wr wr):=Below.refl _ _
          have lg8:=Hg.out.lt
          have Hg0:=Hg
          obtain ⟨g0,fg0,g1,fg1,g2,fg2⟩:=Hg.out.g3
          go_wp2_with fail
          refine (Htm.out).mono ?_
          rintro e w2 ⟨bO,rfl,hbO,hatO,hbn⟩
          clear g0 fg0 g1 fg1 g2 fg2
          replace Hg:=kB Hg hbn
          obtain ⟨g0,fg0,g1,fg1,g2,fg2⟩:=Hg.out.g3
          replace Hb:=bnx Hb hbn;clear hbn
          have HatO:=lid hatO
          have Hch : Hid (Chg (fun b=>b = w1.heap.size + 1) wj w2):=Hpg3.out.below' Hb.out
          clear hatO
          go_wp2
          go_roundw
          case rel=>
           have hblk:=((Hg.out.set 0 (.slice (some ⟨bO,0,none⟩) M M)).set 1 (.int .i64 (V : Int))).set 2 (.int .i64 ((m : Int) + 1))
           have hchg:=((Hch.out.set (a:=⟨w1.heap.size + 1,0,none⟩) rfl (.slice (some ⟨bO,0,none⟩) M M)).set (a:=⟨w1.heap.size + 1,1,none⟩) rfl (.int .i64 (V : Int))).set (a:=⟨w1.heap.size + 1,2,none⟩) rfl (.int .i64 ((m : Int) + 1))
           have hat9:=HatO.out.chg ((((Chg.refl (fun b=>b = w1.heap.size + 1) w2).set (a:=⟨w1.heap.size + 1,0,none⟩) rfl (.slice (some ⟨bO,0,none⟩) M M)).set (a:=⟨w1.heap.size + 1,1,none⟩) rfl (.int .i64 (V : Int))).set (a:=⟨w1.heap.size + 1,2,none⟩) rfl (.int .i64 ((m : Int) + 1))) (fun b o e=>by cases e;omega)
           refine ⟨i + 1,by omega,⟨some ⟨bO,0,none⟩,M,?_,?_,fun b o e=>by cases e;omega⟩,hchg⟩
           . have e9 : sh.length + (i + 1) = m + 1:=by rw [<- Hm.out];omega
             have e10 : ((sh.length + (i + 1) : Nat) : Int) = (m : Int) + 1:=by omega
             rw [e10,e9,HM.out]
             exact hblk
           . rw [Hsn.out];exact hat9
          case measure=>
           have hblk:=((Hg.out.set 0 (.slice (some ⟨bO,0,none⟩) M M)).set 1 (.int .i64 (V : Int))).set 2 (.int .i64 ((m : Int) + 1))
           have e1:=degAt_blk Hg0.out
           have e2:=degAt_blk (m:=m + 1) (show Blk _ _ _ [.slice (some ⟨bO,0,none⟩) M M,.int .i64 (V : Int),.int .i64 ((m + 1 : Nat) : Int)] from by rw [show ((m + 1 : Nat) : Int) = (m : Int) + 1 by omega];exact hblk)
           rw [e1,e2];omega
        . have hiD : sh.length + i = D:=by omega
          obtain ⟨aG,capG,hbk,hatG,hbase⟩:=pG
          rw [hiD] at hbk
          have hfe : growL V 0 [c] (sh ++ List.replicate i (onesL V)) = formT V D S c es:=by
           unfold formT
           rw [Hesl.out,Hsh.out,<- HshS.out,show D - sh.length = i by omega]
          rw [hfe] at hatG
          obtain ⟨g0,g1,g2⟩:=hbk.c3
          have hlt4 : ¬ (D : Int) < (D : Int):=by omega
          have HatG:=lid hatG;have Hbase:=lid hbase
          have Hbq:=lid (Hbz.out.trans (pg.below (n:=w.heap.size) (by have:=Hbz.out.size;omega) (fun b e=>by omega)))
          clear hatG hbase hfe pg hbk
          go_wp2
          exact bodyPost_ret (v:=.slice aG (cnt V D) capG) (by simp [results,Tryz.results33,go_sem]) rfl ⟨aG,⟨capG,rfl⟩,HatG.out,Hbase.out,Hbq.out⟩
end Go.Proofs.YtidjljldhdckiaaGreatDoor
