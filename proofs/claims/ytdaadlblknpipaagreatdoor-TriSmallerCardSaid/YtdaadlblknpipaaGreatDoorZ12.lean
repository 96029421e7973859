/- Small facts that many walks share: numbers in memory,windows,own rows. -/
import Derived.Test.YtdaadlblknpipaaGreatDoorZ9
import Derived.Test.YtdaadlblknpipaaGreatDoorZ11
import Derived.Test.YtdaadlblknpipaaGreatDoorZ7
import Derived.Carry
import Derived.Maps.AppendAt
import Derived.Maps.OwnIn
import Derived.Maps.Own
import Derived.Maps.Views
import Derived.Maps.Keyed
import Derived.Maps.OwnSet
import Derived.Shelf.Abstract
import Derived.Shelf.RegionOpen
import Derived.OwnWalkIn
import Derived.TacticsInMore
import Derived.LoopNIn
import Derived.LoopIn
import Derived.Lib.BufferWrite
import Derived.Deep.WholeRow
import Derived.Test.YtdaadlblknpipaaGreatDoorZ5
set_option linter.unusedVariables false
set_option linter.unusedSimpArgs false
set_option maxRecDepth 100000
set_option maxHeartbeats 16000000
namespace Go.Proofs.YtdaadlblknpipaaGreatDoor
open Go.RowKit
attribute [local go_sem ↓] Go.wp_at_zero Go.wp_at_succ
def hp (k : Nat) : Dyadic:=Dyadic.ofIntWithPrec 1 k
theorem ae9 (k : Nat) : hp (k + 1) + hp (k + 1) = hp k:=by unfold hp;rw [oL];exact nz 1 1 k
theorem afb : hp 0 = 1:=rfl
theorem afa : hp 1 + hp 1 = 1:=by rw [ae9 0,afb]
theorem ajj (D : Dyadic) (k : Nat) : aC (au (dN D),nt (dN D).natAbs,dE D + -(k : Int)) = D * hp k:=by
 have h:=bP D;unfold aC canon at h;unfold aC hp;simp only [eK] at h ⊢;conv=>rhs;rw [<- h]
 rw [ue,Int.mul_one];congr 1;omega
theorem ae8 (k : Nat) : Sm (k + 1) (hp k):=by
 refine ⟨2,?_,?_⟩
 . unfold hp;rw [<- nz 1 1 k];rfl
 . have : 2 ^ 2 <= 2 ^ (2 * (k + 1)):=Nat.pow_le_pow_right zd zo;omega
theorem Tryz.anW : (Tryz.prog.info? 30).map (fun i=>(i.zero,i.size,i.bytes)) = some (some (.agg #[.bool false,.string (bs []),.int .i64 0]),3,32):=by kernel_rfl
def dC (ds : List Dyadic) : List Value:=ds.flatMap fun d=>bD (canon d)
theorem acO (ds : List Dyadic) : (dC ds).length = ds.length * 3:=jr _ 3 (fun _=>rfl) ds
theorem xm (a b : List Dyadic) : dC (a ++ b) = dC a ++ dC b:=by unfold dC;rw [List.flatMap_append]
theorem ahN {Y : Nat -> Prop} {W W' : World} {base : Nat} {e : TypeId} {size : Nat} {v : Value} {n : Nat} {xs : List Value} (h : W.ownsRow base e size v n xs) (hc : Chg Y W W') (hy : ∀ b,v.ownBlock = some b -> ¬ Y b) : W'.ownsRow base e size v n xs:=by
 refine ⟨h.1,?_⟩;rcases h.2 with h1 | ⟨g,cap,cur,rfl,hb,hg,h2,h3,h4,h5⟩
 . exact .inl h1
 . exact .inr ⟨g,cap,cur,rfl,hb,(hc.block g (Array.getElem?_eq_some_iff.1 hg).1 (hy g rfl)).trans hg,h2,h3,h4,h5⟩
theorem dA {W : World} {base : Nat} {e : TypeId} {size : Nat} {v : Value} {n : Nat} {xs : List Value} (h : W.ownsRow base e size v n xs) : ∃ a cap,v = .slice a n cap /\ At W a xs /\ ∀ b o,a = some ⟨b,o,none⟩ -> base <= b:=by
 rcases h.2 with ⟨rfl,rfl⟩ | ⟨g,cap,cur,rfl,hb,hg,h2,h3,h4,h5⟩
 . refine ⟨none,0,rfl,.inl ?_,fun b o e=>by cases e⟩;have:=h.1;simpa using this
 . refine ⟨_,cap,rfl,.inr ⟨g,0,rfl,fun j hj=>?_⟩,fun b o e=>by cases e;exact hb⟩;have:=h.cells (g:=g) rfl j (xs[j]) (by simp [hj]);rw [Nat.zero_add];have e2 : ((⟨g,0,none⟩ : Addr).add j) = ⟨g,j,none⟩:=by simp [Addr.add];omega
   rw [e2] at this;rw [this];simp [hj]
def bj (w : World) (b o : Nat) (cs : List Value) : Prop:=∀ j (h : j < cs.length),w.cell? ⟨b,o + j,none⟩ = some cs[j]
theorem bj.cell {w : World} {b o : Nat} {cs : List Value} (h : bj w b o cs) (j : Nat) (hj : j < cs.length) : w.cell? ⟨b,o + j,none⟩ = some cs[j]:=h j hj
theorem bj.w1 {w : World} {b o : Nat} {x0 : Value} (h : bj w b o [x0]) : w.cell? ⟨b,o,none⟩ = some x0:=h 0 zm
theorem bj.w2 {w : World} {b o : Nat} {x0 x1 : Value} (h : bj w b o [x0,x1]) : w.cell? ⟨b,o,none⟩ = some x0 /\ w.cell? ⟨b,o + 1,none⟩ = some x1:=⟨h 0 zm,h 1 zm⟩
theorem bj.w3 {w : World} {b o : Nat} {x0 x1 x2 : Value} (h : bj w b o [x0,x1,x2]) : w.cell? ⟨b,o,none⟩ = some x0 /\ w.cell? ⟨b,o + 1,none⟩ = some x1 /\ w.cell? ⟨b,o + 2,none⟩ = some x2:=⟨h 0 zm,h 1 zm,h 2 zm⟩
theorem bj.w4 {w : World} {b o : Nat} {x0 x1 x2 x3 : Value} (h : bj w b o [x0,x1,x2,x3]) : w.cell? ⟨b,o,none⟩ = some x0 /\ w.cell? ⟨b,o + 1,none⟩ = some x1 /\ w.cell? ⟨b,o + 2,none⟩ = some x2 /\ w.cell? ⟨b,o + 3,none⟩ = some x3:=⟨h 0 zm,h 1 zm,h 2 zm,h 3 zm⟩
theorem bj.below {w w' : World} {b o : Nat} {cs : List Value} (h : bj w b o cs) (hb : Bw w w') : bj w' b o cs:=fun j hj=>cell_later hb (h j hj)
theorem kW {w w' : World} {b o : Nat} {cs : List Value} (h : Hid (bj w b o cs)) (k : Bw w w') : Hid (bj w' b o cs):=h.out.below k
theorem PY (ds : List Dyadic) (i : Nat) (D : Dyadic) : (((dC ds).set (i * 3) (.bool (au (dN D)))).set (i * 3 + 1) (.string (bs (nt (dN D).natAbs)))).set (i * 3 + 2) (.int .i64 (dE D)) = dC (ds.set i D):=by
 induction ds generalizing i with
 | nil=>simp [dC]
 | cons x ds ih =>
   have e : ∀ y : Dyadic,∀ zs,dC (y :: zs) = .bool (au (dN y)) :: .string (bs (nt (dN y).natAbs)) :: .int .i64 (dE y) :: dC zs:=fun y zs=>rfl;cases i with
   | zero=>rw [e];rfl
   | succ i =>rw [List.set_cons_succ,e,e,<- ih i,show (i + 1) * 3 = i * 3 + 1 + 1 + 1 by omega];rfl
theorem sN (ds : List Dyadic) : dC ds = (ds.map canon).flatMap bD:=by unfold dC;rw [List.flatMap_map]
theorem gq {P : Program} {fn : Func} {R : Ending -> World -> Prop} {e : Exit} {a : Act} {W : World} (S : World -> Prop) (hS : S W) (h : ∀ W',S W' -> bodyPost P fn R e a W') : bodyPost P fn R e a W:=h W hS
theorem ai.not_row {W : World} {B : Nat} {t e : TypeId} {cs : List Value} (h : ai W B t cs) (hte : t ≠ e) {base size k : Nat} {v : Value} {xs : List Value} (hr : W.ownsRow base e size v k xs) : some B ≠ v.ownBlock:=by
 rcases hr.2 with ⟨rfl,_⟩ | ⟨g,cap,cur,rfl,_,hgb,_⟩
 . simp [Value.ownBlock]
 . intro e';simp only [Value.ownBlock,Option.some.injEq] at e';subst e';have:=h.symm.trans hgb;simp at this;exact hte this.2
theorem ai.row {W W' : World} {B : Nat} {t e : TypeId} {cs : List Value} (h : ai W B t cs) (hte : t ≠ e) {base size k : Nat} {v : Value} {xs : List Value} (hr : W.ownsRow base e size v k xs) (hg : W.grownBy W' v.ownBlock) : ai W' B t cs:=
 h.grown hg (h.not_row hte hr)
theorem ownsRow_below {W W' : World} {base : Nat} {e : TypeId} {size : Nat} {v : Value} {n : Nat} {xs : List Value} (h : W.ownsRow base e size v n xs) (hb : Bw W W') : W'.ownsRow base e size v n xs:=by refine ahN (Y:=fun _=>False) h (Chg.of_below hb) (fun _ _ h=>h)
theorem cL {W : World} {base : Nat} {e : TypeId} {size : Nat} {v : Value} {n : Nat} {xs : List Value} (h : W.ownsRow base e size v n xs) : ∀ k,v.ownBlock = some k -> base <= k:=fun k hk=>(h.lt k hk).1
theorem iM {w : World} {b o : Nat} {x y z : Value} (h0 : w.cell? ⟨b,o,none⟩ = some x) (h1 : w.cell? ⟨b,o + 1,none⟩ = some y) (h2 : w.cell? ⟨b,o + 2,none⟩ = some z) : bj w b o [x,y,z]:=by
 intro j hj;rcases j with _ | _ | _ | j
 . exact h0
 . exact h1
 . exact h2
 . simp at hj;omega
theorem gb {W : World} {b : Nat} {t : TypeId} {cs : List Value} (h : ai W b t cs) : ∀ j u,cs[j]? = some u -> W.cell? ((⟨b,0,none⟩ : Addr).add j) = some u:=by
 intro j u hj;have e2 : ((⟨b,0,none⟩ : Addr).add j) = ⟨b,j,none⟩:=by simp [Addr.add];omega
 rw [e2,h.cell];exact hj
theorem At.num {W : World} {a : Option Addr} {cM : List Raw} (h : At W a (cM.flatMap bD)) (k : Nat) (hk : k < cM.length) {s : Bool} {m : List UInt8} {e : Int} (hx : cM[k] = (s,m,e)) :
 ∃ b o,a = some ⟨b,o,none⟩ /\ W.cell? ⟨b,o + k * 3,none⟩ = some (.bool s) /\ W.cell? ⟨b,o + k * 3 + 1,none⟩ = some (.string (bs m)) /\ W.cell? ⟨b,o + k * 3 + 2,none⟩ = some (.int .i64 e):=by
 obtain ⟨b,o,ha,hc⟩:=h.elem (f:=bD) (sz:=3) (fun _=>rfl) zd k hk;rw [hx] at hc;exact ⟨b,o,ha,by simpa [bD] using hc 0 zd,by simpa [bD] using hc 1 zd,by simpa [bD] using hc 2 zd⟩
theorem QA {B : Nat} {cs : List Dyadic} (h : ∀ c ∈ cs,Sm B c) (k : Nat) : Sm B (cs.getD k 0):=by
 by_cases hk : k < cs.length
 . have : cs.getD k 0 = cs[k]:=by simp [hk]
   rw [this];exact h _ (List.getElem_mem hk)
 . have : cs.getD k 0 = 0:=by simp [List.getD_eq_getElem?_getD,List.getElem?_eq_none (by omega : cs.length <= k)]
   rw [this];exact Sm.zero B
def idxFrom (p : Value -> Bool) : List Value -> Nat -> Int
 | [],_=>-1
 | v :: l,k=>if p v then (k : Int) else idxFrom p l (k + 1)
theorem Le (p : Value -> Bool) (l : List Value) (k n : Nat) (h : n < l.length) : idxFrom p (l.drop n) k = if p l[n] then (k : Int) else idxFrom p (l.drop (n + 1)) (k + 1):=by rw [List.drop_eq_getElem_cons h];rfl
theorem Um (p : Value -> Bool) (l : List Value) (k : Nat) : decide (0 <= idxFrom p l k) = l.any p:=by
 induction l generalizing k with
 | nil=>rfl
 | cons v l ih =>
   unfold idxFrom;rw [List.any_cons];by_cases h : p v = true
   . rw [if_pos h,h,Bool.true_or];simp
   . rw [if_neg h,ih];simp [h]
theorem afy (a : Option Addr) (n cap : Nat) (vals : List Value) (gf : Nat) (lb : Array Value) (p : Value -> Bool) (w : World) (hn : vals.length = n) (hl : n <= 1099511627776) (ha : At w a vals)
 (eg : ∀ args w,(callFunc gf args).run Tryz.prog w = .ok (.enter gf args) w)
 (hcl : ∀ v ∈ vals,∀ W,Bw w W -> Calls Tryz.prog gf (#[v] ++ lb) W fun e w'=>e = .returned (.bool (p v)) /\ Bw W w') :
 Calls Tryz.prog 123 #[.slice a n cap,.func (.func gf) #[] lb] w fun e w'=>e = .returned (.int .i64 (idxFrom p vals 0)) /\ Bw w w':=by
 have Hn:=ah hn;have Ha:=ah ha;have gm:=ah hcl;have nH:=ah eg;clear hn ha hcl eg;have Hb : Hid (Bw w w):=Below.refl _ _;go_enter Tryz.func123,Tryz.ntmps123;go_wp2_with fail;go_loopw [5,8] (fun _ i wr=>∃ k : Nat,k <= n /\ i = .int .i64 (k : Int) /\ idxFrom p vals 0 = idxFrom p (vals.drop k) k /\ Bw w wr) (fun _ i _=>n - (intOf i).toNat);case atStart=>exact ⟨0,Nat.zero_le _,rfl,rfl,Hb.out⟩
 case round=>
  clear Hb;obtain ⟨k,hk,rfl,fN,pb⟩:=hrel;have kY:=ah fN;have Hb:=ah pb;clear fN pb;by_cases hlt : k < n
  . have bi : k < vals.length:=by rw [Hn.out];exact hlt
    obtain ⟨b,o,hab,hcs⟩:=(Ha.out.below Hb.out).get (by intro h;rw [h] at bi;simp at bi);obtain ⟨v,hv⟩ : ∃ v,vals[k] = v:=⟨_,rfl⟩;have hc0 : wr.cell? ⟨b,o + k,none⟩ = some v:=by rw [hcs k bi,List.getElem?_eq_getElem bi,hv]
    have bz:=kJ n cap k (k : Int) hab hlt rfl;rw [Nat.mul_one] at bz;have hcall:=gm.out v (by rw [<- hv];exact List.getElem_mem bi) wr Hb.out;have hstep:=Le p vals k k bi;rw [hv,<- kY.out] at hstep;have fY:=ah hstep;have jG:=ah hcall;have qK:=nH.out;clear hcs hab hv hstep hcall;go_wp2_with fail;refine jG.out.mono ?_;rintro e w1 ⟨rfl,hb1⟩;replace Hb:=ah (aJ Hb.out hb1);clear hb1 hc0 bz qK;obtain ⟨t,ht⟩ : ∃ t,p v = t:=⟨_,rfl⟩;rw [ht] at fY ⊢;clear ht;cases t with
    | true =>go_wp2;refine bodyPost_ret (results_tmp rfl _ _ _) rfl ⟨?_,Hb.out⟩;have h:=fY.out;rw [if_pos (by trivial)] at h;rw [h];rfl
    | false =>
      go_wp2;go_roundw;case rel=>exact ⟨k + 1,by omega,by go_num,by have h:=fY.out;rw [if_neg zd] at h;exact h,Hb.out⟩
      case measure=>simp [intOf];omega
  . obtain rfl : k = n:=by omega
    go_wp2;refine bodyPost_ret (results_tmp rfl _ _ _) rfl ⟨?_,Hb.out⟩;have h:=kY.out;rw [List.drop_of_length_le (by rw [Hn.out];exact Nat.le_refl _)] at h;rw [h];rfl
theorem acD (a : Option Addr) (n cap : Nat) (vals : List Value) (gf : Nat) (lb : Array Value) (p : Value -> Bool) (w : World) (hn : vals.length = n) (hl : n <= 1099511627776) (ha : At w a vals)
 (eg : ∀ args w,(callFunc gf args).run Tryz.prog w = .ok (.enter gf args) w)
 (hcl : ∀ v ∈ vals,∀ W,Bw w W -> Calls Tryz.prog gf (#[v] ++ lb) W fun e w'=>e = .returned (.bool (p v)) /\ Bw W w') :
 Calls Tryz.prog 85 #[.slice a n cap,.func (.func gf) #[] lb] w fun e w'=>e = .returned (.bool (vals.any p)) /\ Bw w w':=by
 have h1:=afy a n cap vals gf lb p w hn hl ha eg hcl;rw [<- Um p vals 0];generalize idxFrom p vals 0 = i at *;have H1:=ah h1;clear h1 hcl eg ha hn;have Hb : Hid (Bw w w):=Below.refl _ _;go_enter Tryz.func85,Tryz.ntmps85;go_wp2_with fail;refine (H1.out).mono ?_;rintro e w1 ⟨rfl,ae⟩;replace Hb:=az Hb ae;clear ae;go_wp2;refine bodyPost_ret (v:=.bool (decide (0 <= i))) (by simp [results,Tryz.results85,go_sem]) rfl ⟨rfl,?_⟩;(repeat first | exact Hb.out | (refine Below.setCell ?_ (by have:=Hb.out.size;first | (dsimp only;omega) | (show _ <= _;omega) | (simp<;>omega)) _) | (refine Below.alloc ?_ zt _) | refine Below.drew ?_)
theorem afx (a : Option Addr) (n cap : Nat) (vals : List Value) (gf : Nat) (lb : Array Value) (p : Value -> Bool) (w : World) (hn : vals.length = n) (hl : n <= 1099511627776) (ha : At w a vals)
 (eg : ∀ args w,(callFunc gf args).run Tryz.prog w = .ok (.enter gf args) w)
 (hcl : ∀ v ∈ vals,∀ W,Bw w W -> Calls Tryz.prog gf (#[v] ++ lb) W fun e w'=>e = .returned (.bool (p v)) /\ Bw W w') :
 Calls Tryz.prog 155 #[.slice a n cap,.func (.func gf) #[] lb] w fun e w'=>e = .returned (.int .i64 (idxFrom p vals 0)) /\ Bw w w':=by
 have Hn:=ah hn;have Ha:=ah ha;have gm:=ah hcl;have nH:=ah eg;clear hn ha hcl eg;have Hb : Hid (Bw w w):=Below.refl _ _;go_enter Tryz.func155,Tryz.ntmps155;go_wp2_with fail;go_loopw [5,8] (fun _ i wr=>∃ k : Nat,k <= n /\ i = .int .i64 (k : Int) /\ idxFrom p vals 0 = idxFrom p (vals.drop k) k /\ Bw w wr) (fun _ i _=>n - (intOf i).toNat);case atStart=>exact ⟨0,Nat.zero_le _,rfl,rfl,Hb.out⟩
 case round=>
  clear Hb;obtain ⟨k,hk,rfl,fN,pb⟩:=hrel;have kY:=ah fN;have Hb:=ah pb;clear fN pb;by_cases hlt : k < n
  . have bi : k < vals.length:=by rw [Hn.out];exact hlt
    obtain ⟨b,o,hab,hcs⟩:=(Ha.out.below Hb.out).get (by intro h;rw [h] at bi;simp at bi);obtain ⟨v,hv⟩ : ∃ v,vals[k] = v:=⟨_,rfl⟩;have hc0 : wr.cell? ⟨b,o + k,none⟩ = some v:=by rw [hcs k bi,List.getElem?_eq_getElem bi,hv]
    have bz:=vO n cap k (k : Int) hab hlt rfl;rw [Nat.mul_one] at bz;have hcall:=gm.out v (by rw [<- hv];exact List.getElem_mem bi) wr Hb.out;have hstep:=Le p vals k k bi;rw [hv,<- kY.out] at hstep;have fY:=ah hstep;have jG:=ah hcall;have qK:=nH.out;clear hcs hab hv hstep hcall;go_wp2_with fail;refine jG.out.mono ?_;rintro e w1 ⟨rfl,hb1⟩;replace Hb:=ah (aJ Hb.out hb1);clear hb1 hc0 bz qK;obtain ⟨t,ht⟩ : ∃ t,p v = t:=⟨_,rfl⟩;rw [ht] at fY ⊢;clear ht;cases t with
    | true =>go_wp2;refine bodyPost_ret (results_tmp rfl _ _ _) rfl ⟨?_,Hb.out⟩;have h:=fY.out;rw [if_pos (by trivial)] at h;rw [h];rfl
    | false =>
      go_wp2;go_roundw;case rel=>exact ⟨k + 1,by omega,by go_num,by have h:=fY.out;rw [if_neg zd] at h;exact h,Hb.out⟩
      case measure=>simp [intOf];omega
  . obtain rfl : k = n:=by omega
    go_wp2;refine bodyPost_ret (results_tmp rfl _ _ _) rfl ⟨?_,Hb.out⟩;have h:=kY.out;rw [List.drop_of_length_le (by rw [Hn.out];exact Nat.le_refl _)] at h;rw [h];rfl
theorem acC (a : Option Addr) (n cap : Nat) (vals : List Value) (gf : Nat) (lb : Array Value) (p : Value -> Bool) (w : World) (hn : vals.length = n) (hl : n <= 1099511627776) (ha : At w a vals)
 (eg : ∀ args w,(callFunc gf args).run Tryz.prog w = .ok (.enter gf args) w)
 (hcl : ∀ v ∈ vals,∀ W,Bw w W -> Calls Tryz.prog gf (#[v] ++ lb) W fun e w'=>e = .returned (.bool (p v)) /\ Bw W w') :
 Calls Tryz.prog 124 #[.slice a n cap,.func (.func gf) #[] lb] w fun e w'=>e = .returned (.bool (vals.any p)) /\ Bw w w':=by
 have h1:=afx a n cap vals gf lb p w hn hl ha eg hcl;rw [<- Um p vals 0];generalize idxFrom p vals 0 = i at *;have H1:=ah h1;clear h1 hcl eg ha hn;have Hb : Hid (Bw w w):=Below.refl _ _;go_enter Tryz.func124,Tryz.ntmps124;go_wp2_with fail;refine (H1.out).mono ?_;rintro e w1 ⟨rfl,ae⟩;replace Hb:=az Hb ae;clear ae;go_wp2;refine bodyPost_ret (v:=.bool (decide (0 <= i))) (by simp [results,Tryz.results124,go_sem]) rfl ⟨rfl,?_⟩;(repeat first | exact Hb.out | (refine Below.setCell ?_ (by have:=Hb.out.size;first | (dsimp only;omega) | (show _ <= _;omega) | (simp<;>omega)) _) | (refine Below.alloc ?_ zt _) | refine Below.drew ?_)
theorem afw (a : Option Addr) (n cap : Nat) (vals : List Value) (gf : Nat) (lb : Array Value) (p : Value -> Bool) (w : World) (hn : vals.length = n) (hl : n <= 1099511627776) (ha : At w a vals)
 (eg : ∀ args w,(callFunc gf args).run Tryz.prog w = .ok (.enter gf args) w)
 (hcl : ∀ v ∈ vals,∀ W,Bw w W -> Calls Tryz.prog gf (#[v] ++ lb) W fun e w'=>e = .returned (.bool (p v)) /\ Bw W w') :
 Calls Tryz.prog 126 #[.slice a n cap,.func (.func gf) #[] lb] w fun e w'=>e = .returned (.int .i64 (idxFrom p vals 0)) /\ Bw w w':=by
 have Hn:=ah hn;have Ha:=ah ha;have gm:=ah hcl;have nH:=ah eg;clear hn ha hcl eg;have Hb : Hid (Bw w w):=Below.refl _ _;go_enter Tryz.func126,Tryz.ntmps126;go_wp2_with fail;go_loopw [5,8] (fun _ i wr=>∃ k : Nat,k <= n /\ i = .int .i64 (k : Int) /\ idxFrom p vals 0 = idxFrom p (vals.drop k) k /\ Bw w wr) (fun _ i _=>n - (intOf i).toNat);case atStart=>exact ⟨0,Nat.zero_le _,rfl,rfl,Hb.out⟩
 case round=>
  clear Hb;obtain ⟨k,hk,rfl,fN,pb⟩:=hrel;have kY:=ah fN;have Hb:=ah pb;clear fN pb;by_cases hlt : k < n
  . have bi : k < vals.length:=by rw [Hn.out];exact hlt
    obtain ⟨b,o,hab,hcs⟩:=(Ha.out.below Hb.out).get (by intro h;rw [h] at bi;simp at bi);obtain ⟨v,hv⟩ : ∃ v,vals[k] = v:=⟨_,rfl⟩;have hc0 : wr.cell? ⟨b,o + k,none⟩ = some v:=by rw [hcs k bi,List.getElem?_eq_getElem bi,hv]
    have bz:=xS n cap k (k : Int) hab hlt rfl;rw [Nat.mul_one] at bz;have hcall:=gm.out v (by rw [<- hv];exact List.getElem_mem bi) wr Hb.out;have hstep:=Le p vals k k bi;rw [hv,<- kY.out] at hstep;have fY:=ah hstep;have jG:=ah hcall;have qK:=nH.out;clear hcs hab hv hstep hcall;go_wp2_with fail;refine jG.out.mono ?_;rintro e w1 ⟨rfl,hb1⟩;replace Hb:=ah (aJ Hb.out hb1);clear hb1 hc0 bz qK;obtain ⟨t,ht⟩ : ∃ t,p v = t:=⟨_,rfl⟩;rw [ht] at fY ⊢;clear ht;cases t with
    | true =>go_wp2;refine bodyPost_ret (results_tmp rfl _ _ _) rfl ⟨?_,Hb.out⟩;have h:=fY.out;rw [if_pos (by trivial)] at h;rw [h];rfl
    | false =>
      go_wp2;go_roundw;case rel=>exact ⟨k + 1,by omega,by go_num,by have h:=fY.out;rw [if_neg zd] at h;exact h,Hb.out⟩
      case measure=>simp [intOf];omega
  . obtain rfl : k = n:=by omega
    go_wp2;refine bodyPost_ret (results_tmp rfl _ _ _) rfl ⟨?_,Hb.out⟩;have h:=kY.out;rw [List.drop_of_length_le (by rw [Hn.out];exact Nat.le_refl _)] at h;rw [h];rfl
def Pt (w : World) (v : Value) (cM : List Raw) : Prop:=∃ a cap,v = .slice a cM.length cap /\ At w a (cM.flatMap bD)
theorem Pt.below {w w' : World} {v : Value} {cM : List Raw} (h : Pt w v cM) (hb : Bw w w') : Pt w' v cM:=
 let ⟨a,cap,hv,ha⟩:=h;⟨a,cap,hv,ha.below hb⟩
def aY (w : World) (a : Option Addr) (rows : List (List Raw)) : Prop:=∃ vals : List Value,vals.length = rows.length /\ At w a vals /\ ∀ i (h : i < rows.length) (h' : i < vals.length),Pt w vals[i] rows[i]
theorem aY.below {w w' : World} {a : Option Addr} {rows : List (List Raw)} (h : aY w a rows) (hb : Bw w w') : aY w' a rows:=
 let ⟨vals,hl,ha,hp⟩:=h;⟨vals,hl,ha.below hb,fun i h1 h2=>(hp i h1 h2).below hb⟩
theorem kL {w w' : World} {a : Option Addr} {rows : List (List Raw)} (h : Hid (aY w a rows)) (k : Bw w w') : Hid (aY w' a rows):=h.out.below k
theorem aY.row {w : World} {a : Option Addr} {rows : List (List Raw)} (h : aY w a rows) (k : Nat) (hk : k < rows.length) :
 ∃ b o a' cap',a = some ⟨b,o,none⟩ /\ w.cell? ⟨b,o + k,none⟩ = some (.slice a' rows[k].length cap') /\ At w a' (rows[k].flatMap bD):=by
 obtain ⟨vals,hl,ha,hp⟩:=h;have hk2 : k < vals.length:=by rw [hl];exact hk
 obtain ⟨b,o,hab,hcs⟩:=ha.get (by intro h0;rw [h0] at hk2;simp at hk2);obtain ⟨a',cap',hv,hat⟩:=hp k hk hk2;exact ⟨b,o,a',cap',hab,by rw [hcs k hk2,List.getElem?_eq_getElem hk2,hv],hat⟩
def tN : Value -> Int
 | .slice _ n _=>n
 | _=>0
def wn (N : Int) (v : Value) : Bool:=decide (tN v ≠ N)
theorem Pn {w : World} {vals : List Value} {rows : List (List Raw)} (N : Int) (hl : vals.length = rows.length) (hp : ∀ i (h : i < rows.length) (h' : i < vals.length),Pt w vals[i] rows[i]) :
 vals.any (wn N) = rows.any fun r=>decide ((r.length : Int) ≠ N):=by
 induction vals generalizing rows with
 | nil =>have : rows = []:=List.length_eq_zero_iff.1 hl.symm;subst this;rfl
 | cons v vs ih =>
   match rows,hl with
   | r :: rs,hl =>have h0:=hp 0 zm zm;obtain ⟨a,cap,hv,_⟩:=h0;have hv' : v = .slice a r.length cap:=hv;have:=ih (rows:=rs) (by simpa using hl) (fun i h h'=>hp (i + 1) zi zi);rw [List.any_cons,List.any_cons,this];subst hv';rfl
theorem akb (bn : Nat) (N : Int) (a : Option Addr) (n cap : Nat) (w : World) (hN : w.cell? ⟨bn,0,none⟩ = some (.int .i64 N)) :
 Calls Tryz.prog 84 #[.slice a n cap,.pointer (some ⟨bn,0,none⟩)] w fun e w'=>e = .returned (.bool (wn N (.slice a n cap))) /\ Bw w w':=by
 have Hb : Hid (Bw w w):=Below.refl _ _;go_enter Tryz.func84,Tryz.ntmps84;go_wp2;refine bodyPost_ret (results_tmp rfl _ _ _) rfl ⟨?_,Hb.out⟩;simp only [wn,tN];by_cases h : (n : Int) = N<;>simp [h]
def gD (rows : List (List Raw)) : Int:=
 let n : Int:=rows.length - 1
 if n < 1 \/ 8 < n \/ (rows.any fun r=>decide ((r.length : Int) ≠ n)) then 0 else n
theorem yG (a : Option Addr) (L cap : Nat) (rows : List (List Raw)) (w : World) (hL : rows.length = L) (hl : L <= 1099511627776) (ha : aY w a rows) :
 Calls Tryz.prog 44 #[.slice a L cap] w fun e w'=>e = .returned (.int .i64 (gD rows)) /\ Bw w w':=by
 obtain ⟨vals,hvl,hat,hp⟩:=ha;have rB:=fun N=>Pn (w:=w) N hvl hp;have hcl : ∀ (bn : Nat) (W : World),W.cell? ⟨bn,0,none⟩ = some (.int .i64 ((L : Int) - 1)) -> At W a vals -> Calls Tryz.prog 85 #[.slice a L cap,.func (.func 84) #[] #[.pointer (some ⟨bn,0,none⟩)]] W fun e w'=>e = .returned (.bool (rows.any fun r=>decide ((r.length : Int) ≠ (L : Int) - 1))) /\ Bw W w':=by intro bn W hc hA;rw [<- rB];refine acD a L cap vals 84 #[.pointer (some ⟨bn,0,none⟩)] (wn ((L : Int) - 1)) W (by rw [hvl,hL]) hl hA (enters_of Tryz.func84 zk rfl) (fun v hv W' hb=>?_);obtain ⟨i,hi,rfl⟩:=List.mem_iff_getElem.1 hv;obtain ⟨a',cap',e,_⟩:=hp i (by rw [<- hvl];exact hi) hi;rw [e];exact akb bn _ a' _ cap' W' (cell_later hb hc)
 have hv : gD rows = if (L : Int) - 1 < 1 \/ 8 < (L : Int) - 1 \/ (rows.any fun r=>decide ((r.length : Int) ≠ (L : Int) - 1)) = true then 0 else (L : Int) - 1:=by unfold gD;rw [hL]
 obtain ⟨T,hT⟩ : ∃ T,(rows.any fun r=>decide ((r.length : Int) ≠ (L : Int) - 1)) = T:=⟨_,rfl⟩;rw [hT] at hv;simp only [hT] at hcl;have gm:=ah hcl;have fu:=ah hat;have Hv:=ah hv;obtain ⟨V,hV⟩ : ∃ V,gD rows = V:=⟨_,rfl⟩;rw [hV] at Hv ⊢;clear hcl hat hv rB hvl hp hL hT hV;obtain ⟨W,aL⟩ : ∃ W,(w.alloc (.cells #[.int .i64 ((L : Int) - 1)] 3)) = W:=⟨_,rfl⟩;have Hb : Hid (Bw w W):=by rw [<- aL];exact zl
 have Hn : Hid (ai W (w.heap.size) 3 [.int .i64 ((L : Int) - 1)]):=by rw [<- aL];exact ai.newAt _ _ _ zm
 have n0:=Hn.out.c1;go_enter Tryz.func44,Tryz.ntmps44;by_cases h1 : (L : Int) - 1 < 1
 . have hv:=Hv.out;rw [if_pos (.inl h1)] at hv;subst hv;go_wp2;refine bodyPost_ret (v:=.int .i64 0) (by simp [results,Tryz.results44,go_sem]) rfl ⟨rfl,?_⟩;(repeat first | exact Hb.out | (refine Below.setCell ?_ (by have:=Hb.out.size;first | (dsimp only;omega) | (show _ <= _;omega) | (simp<;>omega)) _) | (refine Below.alloc ?_ zt _) | refine Below.drew ?_)
 . by_cases h2 : 8 < (L : Int) - 1
   . have hv:=Hv.out;rw [if_pos (.inr (.inl h2))] at hv;subst hv;go_wp2;refine bodyPost_ret (v:=.int .i64 0) (by simp [results,Tryz.results44,go_sem]) rfl ⟨rfl,?_⟩;(repeat first | exact Hb.out | (refine Below.setCell ?_ (by have:=Hb.out.size;first | (dsimp only;omega) | (show _ <= _;omega) | (simp<;>omega)) _) | (refine Below.alloc ?_ zt _) | refine Below.drew ?_)
   . have jG:=ah (gm.out w.heap.size W n0 (fu.out.below Hb.out));go_wp2_with fail;refine (jG.out).mono ?_;rintro e w1 ⟨rfl,ae⟩;clear n0;replace Hn:=kB Hn ae;have n0:=Hn.out.c1;replace Hb:=az Hb ae;clear ae;cases T with
     | true =>have hv:=Hv.out;rw [if_pos (.inr (.inr rfl))] at hv;subst hv;go_wp2;refine bodyPost_ret (v:=.int .i64 0) (by simp [results,Tryz.results44,go_sem]) rfl ⟨rfl,?_⟩;(repeat first | exact Hb.out | (refine Below.setCell ?_ (by have:=Hb.out.size;first | (dsimp only;omega) | (show _ <= _;omega) | (simp<;>omega)) _) | (refine Below.alloc ?_ zt _) | refine Below.drew ?_)
     | false =>have hv:=Hv.out;rw [if_neg (by rintro (h | h | h);omega;omega;cases h)] at hv;subst hv;go_wp2;refine bodyPost_ret (v:=.int .i64 ((L : Int) - 1)) (by simp [results,Tryz.results44,go_sem]) rfl ⟨rfl,?_⟩;(repeat first | exact Hb.out | (refine Below.setCell ?_ (by have:=Hb.out.size;first | (dsimp only;omega) | (show _ <= _;omega) | (simp<;>omega)) _) | (refine Below.alloc ?_ zt _) | refine Below.drew ?_)
theorem agR (bn : Nat) (a0 : Option Addr) (N c0 : Nat) (a : Option Addr) (n cap : Nat) (w : World) (hN : w.cell? ⟨bn,0,none⟩ = some (.slice a0 N c0)) :
 Calls Tryz.prog 125 #[.slice a n cap,.pointer (some ⟨bn,0,none⟩)] w fun e w'=>e = .returned (.bool (wn (N : Int) (.slice a n cap))) /\ Bw w w':=by
 have Hb : Hid (Bw w w):=Below.refl _ _;go_enter Tryz.func125,Tryz.ntmps125;go_wp2;refine bodyPost_ret (results_tmp rfl _ _ _) rfl ⟨?_,Hb.out⟩;simp only [wn,tN];by_cases h : (n : Int) = (N : Int)<;>simp [h]
def rP (rows : List (List Raw)) : Int:=if 8 < rows.length \/ (rows.any fun r=>decide ((r.length : Int) ≠ (rows.length : Int))) then 1 else 0
theorem Lv (a : Option Addr) (L cap : Nat) (rows : List (List Raw)) (w : World) (hL : rows.length = L) (hl : L <= 1099511627776) (ha : aY w a rows) :
 Calls Tryz.prog 86 #[.slice a L cap] w fun e w'=>e = .returned (.int .i64 (rP rows)) /\ Bw w w':=by
 obtain ⟨vals,hvl,hat,hp⟩:=ha;have rB:=fun N=>Pn (w:=w) N hvl hp;have hcl : ∀ (bn : Nat) (W : World),W.cell? ⟨bn,0,none⟩ = some (.slice a L cap) -> At W a vals -> Calls Tryz.prog 124 #[.slice a L cap,.func (.func 125) #[] #[.pointer (some ⟨bn,0,none⟩)]] W fun e w'=>e = .returned (.bool (rows.any fun r=>decide ((r.length : Int) ≠ (L : Int)))) /\ Bw W w':=by intro bn W hc hA;rw [<- rB];refine acC a L cap vals 125 #[.pointer (some ⟨bn,0,none⟩)] (wn (L : Int)) W (by rw [hvl,hL]) hl hA (enters_of Tryz.func125 zk rfl) (fun v hv W' hb=>?_);obtain ⟨i,hi,rfl⟩:=List.mem_iff_getElem.1 hv;obtain ⟨a',cap',e,_⟩:=hp i (by rw [<- hvl];exact hi) hi;rw [e];exact agR bn a L cap a' _ cap' W' (cell_later hb hc)
 have hv : rP rows = if 8 < L \/ (rows.any fun r=>decide ((r.length : Int) ≠ (L : Int))) = true then 1 else 0:=by unfold rP;rw [hL]
 obtain ⟨T,hT⟩ : ∃ T,(rows.any fun r=>decide ((r.length : Int) ≠ (L : Int))) = T:=⟨_,rfl⟩;rw [hT] at hv;simp only [hT] at hcl;have gm:=ah hcl;have fu:=ah hat;have Hv:=ah hv;obtain ⟨V,hV⟩ : ∃ V,rP rows = V:=⟨_,rfl⟩;rw [hV] at Hv ⊢;clear hcl hat hv rB hvl hp hL hT hV;obtain ⟨W,aL⟩ : ∃ W,(w.alloc (.cells #[.slice a L cap] 78)) = W:=⟨_,rfl⟩;have Hb : Hid (Bw w W):=by rw [<- aL];exact zl
 have Hn : Hid (ai W (w.heap.size) 78 [.slice a L cap]):=by rw [<- aL];exact ai.newAt _ _ _ zm
 have n0:=Hn.out.c1;go_enter Tryz.func86,Tryz.ntmps86;by_cases h1 : 8 < L
 . have hv:=Hv.out;rw [if_pos (.inl h1)] at hv;subst hv;have h2 : (8 : Int) < (L : Int):=by omega
   go_wp2;refine bodyPost_ret (v:=.int .i64 1) (by simp [results,Tryz.results86,go_sem]) rfl ⟨rfl,?_⟩;(repeat first | exact Hb.out | (refine Below.setCell ?_ (by have:=Hb.out.size;first | (dsimp only;omega) | (show _ <= _;omega) | (simp<;>omega)) _) | (refine Below.alloc ?_ zt _) | refine Below.drew ?_)
 . have h2 : ¬ (8 : Int) < (L : Int):=by omega
   have jG:=ah (gm.out w.heap.size W n0 (fu.out.below Hb.out));go_wp2_with fail;refine (jG.out).mono ?_;rintro e w1 ⟨rfl,ae⟩;clear n0;replace Hn:=kB Hn ae;have n0:=Hn.out.c1;replace Hb:=az Hb ae;clear ae;cases T with
   | true =>have hv:=Hv.out;rw [if_pos (.inr rfl)] at hv;subst hv;go_wp2;refine bodyPost_ret (v:=.int .i64 1) (by simp [results,Tryz.results86,go_sem]) rfl ⟨rfl,?_⟩;(repeat first | exact Hb.out | (refine Below.setCell ?_ (by have:=Hb.out.size;first | (dsimp only;omega) | (show _ <= _;omega) | (simp<;>omega)) _) | (refine Below.alloc ?_ zt _) | refine Below.drew ?_)
   | false =>have hv:=Hv.out;rw [if_neg (by rintro (h | h);omega;cases h)] at hv;subst hv;go_wp2;refine bodyPost_ret (v:=.int .i64 0) (by simp [results,Tryz.results86,go_sem]) rfl ⟨rfl,?_⟩;(repeat first | exact Hb.out | (refine Below.setCell ?_ (by have:=Hb.out.size;first | (dsimp only;omega) | (show _ <= _;omega) | (simp<;>omega)) _) | (refine Below.alloc ?_ zt _) | refine Below.drew ?_)
theorem Cf {rows : List (List Raw)} {n : Int} (h : gD rows = n) (h0 : n ≠ 0) : 1 <= n /\ n <= 8 /\ (rows.length : Int) = n + 1 /\ ∀ r ∈ rows,(r.length : Int) = n:=by
 unfold gD at h;dsimp only at h;split at h
 . exact absurd h.symm h0
 . rename_i hc
   simp only [not_or,Bool.not_eq_true,List.any_eq_false,decide_eq_true_eq,Decidable.not_not] at hc;obtain ⟨h1,h2,h3⟩:=hc;refine ⟨by omega,by omega,by omega,fun r hr=>?_⟩;have:=h3 r hr;omega
theorem Ce {rows : List (List Raw)} {n : Nat} (h1 : rows.length = n + 1) (h2 : ∀ r ∈ rows,r.length = n) (h3 : 1 <= n) (h8 : n <= 8) : gD rows = n:=by
 unfold gD;dsimp only;rw [if_neg]
 . omega
 . rintro (h | h | h)
   . omega
   . omega
   . rw [List.any_eq_true] at h;obtain ⟨r,hr,h⟩:=h;have:=h2 r hr;simp [h1,this] at h
def Bv (w : World) (x : Value) (n v : Nat) : Prop:=v < 2 ^ n /\ ((x = .slice none 0 0 /\ n = 0) \/ ∃ b o cap,x = .slice (some ⟨b,o,none⟩) n cap /\ n <= cap /\ ∀ j,j < n -> w.cell? ⟨b,o + j,none⟩ = some (.int .u8 (bd v j : Int)))
theorem Bv.below {w w' : World} {x : Value} {n v : Nat} (h : Bv w x n v) (hb : Bw w w') : Bv w' x n v:=by
 refine ⟨h.1,?_⟩;rcases h.2 with h | ⟨b,o,cap,e,h1,hc⟩
 . exact .inl h
 . exact .inr ⟨b,o,cap,e,h1,fun j hj=>cell_later hb (hc j hj)⟩
theorem Bv.an2 {w : World} {base : Nat} {e : TypeId} {x : Value} {n v : Nat} (h : w.ownsRow base e 1 x n (bZ n (bd v))) (hx : v < 2 ^ n) : Bv w x n v:=by
 refine ⟨hx,?_⟩;rcases h.2 with ⟨rfl,rfl⟩ | ⟨g,cap,cur,rfl,hb,hg,h2,h3,h4,h5⟩
 . exact .inl ⟨rfl,rfl⟩
 . refine .inr ⟨g,0,cap,rfl,h2,fun j hj=>?_⟩;have:=h.cells (g:=g) rfl j _ (jD n (bd v) j hj);have e2 : ((⟨g,0,none⟩ : Addr).add j) = ⟨g,j,none⟩:=by simp [Addr.add];omega
   rw [Nat.zero_add,<- e2];exact this
theorem Bv.anV {w : World} {b : Nat} {t : TypeId} {n v : Nat} (h : ai w b t (bZ n (bd v))) (hv : v < 2 ^ n) : Bv w (.slice (some ⟨b,0,none⟩) n n) n v:=
 ⟨hv,.inr ⟨b,0,n,rfl,Nat.le_refl _,fun j hj=>by rw [Nat.zero_add,h.cell,jD _ _ _ hj]⟩⟩
theorem VW (b o n cap v : Nat) (w : World) (hm : n <= 1099511627776) (hcap : n <= cap) (hc : ∀ j,j < n -> w.cell? ⟨b,o + j,none⟩ = some (.int .u8 (bd v j : Int))) (hv : v < 2 ^ n) :
 Calls Tryz.prog 160 #[.slice (some ⟨b,o,none⟩) n cap] w fun e w'=>e = .returned (.slice (some ⟨b,o,none⟩) (bo v) cap) /\ w = w':=by
 have Hc:=ah hc;clear hc;have Hv:=ah hv;clear hv;go_enter Tryz.func160,Tryz.ntmps160;go_wp2_with fail;go_loop [3] (fun x=>∃ k : Nat,k <= n /\ v < 2 ^ k /\ x = .int .i64 (k : Int)) (fun x=>(intOf x).toNat)
 case atStart=>exact ⟨n,Nat.le_refl _,Hv.out,rfl⟩
 case round=>
  obtain ⟨k,hk,hvk,rfl⟩:=hrel;have lh:=ah hvk;clear hvk;by_cases h0 : 0 < k
  . have hcell : w.cell? ⟨b,o + (k - 1),none⟩ = some (.int .u8 (bd v (k - 1) : Int)):=Hc.out _ zo;have bz:=tM n cap (k - 1) ((k : Int) - 1) (rfl : (some ⟨b,o,none⟩ : Option Addr) = _) zo zo;rw [Nat.mul_one] at bz;by_cases hd : bd v (k - 1) = 0
    . have hd' : ((bd v (k - 1) : Int) == 0) = true:=by simp [hd]
      have Hd:=ah hd;clear hd;go_wp2;refine ⟨⟨k - 1,by omega,?_,by go_num⟩,by simp [intOf];omega⟩;refine abV ?_ Hd.out;rw [show k - 1 + 1 = k by omega];exact lh.out
    . have hd' : ((bd v (k - 1) : Int) == 0) = false:=by simp [hd]
      have Hd:=ah hd;clear hd;go_wp2;go_ret;have e : bo v = k:=by have:=abM (v:=v) (k:=k - 1) (by rw [show k - 1 + 1 = k by omega];exact lh.out) (abU Hd.out);omega
      rw [e];exact ⟨rfl,rfl⟩
  . obtain rfl : k = 0:=by omega
    go_wp2;go_ret;have e : bo v = 0:=by have:=lh.out;simp at this;subst this;rfl
    rw [e];exact ⟨rfl,rfl⟩
theorem VX (w : World) :
 Calls Tryz.prog 160 #[.slice none 0 0] w fun e w'=>e = .returned (.slice none 0 0) /\ w = w':=by
 go_enter Tryz.func160,Tryz.ntmps160;go_wp2_with fail;refine wp_loop_rounds 1 ?_;rw [rounds_succ];go_wp2;go_ret;exact ⟨rfl,rfl⟩
def zR (x : Value) (lo : Nat) : Prop:=∀ b o n c,x = .slice (some ⟨b,o,none⟩) n c -> lo <= b
theorem Me (x : Value) (n v : Nat) (w : World) (hm : n <= 1099511627776) (hx : Bv w x n v) :
 Calls Tryz.prog 160 #[x] w fun e w'=>(∃ y,e = .returned y /\ Bv w y (bo v) v /\ ∀ lo,zR x lo -> zR y lo) /\ w = w':=by
 have hl:=fE hx.1;rcases hx.2 with ⟨rfl,rfl⟩ | ⟨b,o,cap,rfl,h1,hc⟩
 . refine (VX w).mono ?_;rintro e w' ⟨rfl,rfl⟩;exact ⟨⟨_,rfl,⟨mK v,.inl ⟨rfl,by omega⟩⟩,fun _ h=>h⟩,rfl⟩
 . refine (VW b o n cap v w hm h1 hc hx.1).mono ?_;rintro e w' ⟨rfl,rfl⟩;exact ⟨⟨_,rfl,⟨mK v,.inr ⟨b,o,cap,rfl,by omega,fun j hj=>hc j zo⟩⟩,fun lo h b' o' n' c' e=>by cases e;exact h _ _ _ _ rfl⟩,rfl⟩
theorem ai3 (b o n cap v : Nat) (w : World) (hm : n <= 1099511627776) (hcap : n <= cap) (hc : ∀ j,j < n -> w.cell? ⟨b,o + j,none⟩ = some (.int .u8 (bd v j : Int))) (hv : v < 2 ^ n) :
 Calls Tryz.prog 152 #[.slice (some ⟨b,o,none⟩) n cap] w fun e w'=>e = .returned (.string (bs (nt v))) /\ Bw w w':=by
 have hle:=fE hv;have hcut:=VW b o n cap v w hm hcap hc hv;have hvl:=mK v;have qN : Hid ((List.range ((bo v + 7) / 8)).map (fun j=>UInt8.ofNat (v / 256 ^ ((bo v + 7) / 8 - 1 - j) % 256)) = nt v):=LG _ _ (zY v).1 (zY v).2;generalize hL : bo v = L at *;obtain ⟨nb,hnb⟩ : ∃ nb,(L + 7) / 8 = nb:=⟨_,rfl⟩;have hmk:=pV (((L : Int) + 7) / 8) nb zo zo;have KB : ((L : Int) + 7) / 8 = (nb : Int):=by omega
 rw [KB] at hmk;rw [hnb] at qN;have Yh:=ah hcut;have Hc:=ah hc;have Hv:=ah hv;have lO:=ah hvl;have HL:=ah hL;clear hcut hc hv hvl hL;go_enter Tryz.func152,Tryz.ntmps152;go_wp2_with fail;refine Yh.out.mono ?_;rintro e w' ⟨rfl,rfl⟩;go_wp2_with fail;go_loopw [4] (fun i wr=>∃ k : Nat,k <= L /\ i = .int .i64 (k : Int) /\ ai wr w.heap.size 5 (bZ nb (fun j=>v % 2 ^ k / 256 ^ (nb - 1 - j) % 256)) /\ Bw w wr) (fun i _=>L - (intOf i).toNat);case atStart=>
  refine ⟨0,Nat.zero_le _,rfl,?_,zl⟩;have e : bZ nb (fun j=>v % 2 ^ 0 / 256 ^ (nb - 1 - j) % 256) = bZ nb fun _=>0:=kR fun j hj=>by simp [Nat.mod_one]
  rw [e];exact ai.new _ _ _
 case round=>
  obtain ⟨k,hk,rfl,hB,hb⟩:=hrel;by_cases hlt : k < L
  . have hq : k / 8 < nb:=by omega
    obtain ⟨Z,hZ⟩ : ∃ Z,bd v k = Z:=⟨_,rfl⟩;have hZ1 : Z <= 1:=by rw [<- hZ];exact pu v k
    have iU : wr.cell? ⟨b,o + k,none⟩ = some (.int .u8 (Z : Int)):=by rw [<- hZ];exact cell_later hb (Hc.out _ zo)
    obtain ⟨A,hA⟩ : ∃ A,v % 2 ^ k / 256 ^ (k / 8) % 256 = A:=⟨_,rfl⟩;have hcell : wr.cell? ⟨w.heap.size,nb - 1 - k / 8,none⟩ = some (.int .u8 (A : Int)):=by rw [hB.cell,jD _ _ _ zo,show nb - 1 - (nb - 1 - k / 8) = k / 8 by omega,hA]
    have hfree : wr.frozen? ⟨w.heap.size,nb - 1 - k / 8,none⟩ = false:=hB.free _;obtain ⟨hb1,hb2⟩:=abZ v k;rw [hA,hZ] at hb1 hb2;have bH:=hB.set (nb - 1 - k / 8) (.int .u8 ((A + Z * 2 ^ (k % 8) : Nat) : Int));have hb3:=hb.setCell (p:=⟨w.heap.size,nb - 1 - k / 8,none⟩) (Nat.le_refl _) (.int .u8 ((A + Z * 2 ^ (k % 8) : Nat) : Int))
    rw [wD,kR (g:=fun j=>v % 2 ^ (k + 1) / 256 ^ (nb - 1 - j) % 256) fun j hj=>by
     by_cases lC : j = nb - 1 - k / 8
     . subst lC;rw [if_pos rfl,show nb - 1 - (nb - 1 - k / 8) = k / 8 by omega,hb1]
     . rw [if_neg lC,ab2 v k _ zo]] at bH
    have dK:=ah bH;have Hb:=ah hb3;clear hB hb bH hb3 hb1 hA hZ;have He : Hid ((((A : Int) + (Z : Int) * 2 ^ (k % 8)) % 256) = ((A + Z * 2 ^ (k % 8) : Nat) : Int)):=by
     show _ = _
     have : ((Z : Int) * 2 ^ (k % 8)) = ((Z * 2 ^ (k % 8) : Nat) : Int):=by simp
     rw [this];omega
    clear hb2;go_wp2;go_region
    go_wp2;go_roundw;case rel=>rw [He.out];exact ⟨k + 1,by omega,by go_num,dK.out,Hb.out.drew⟩
    case measure=>simp [intOf];omega
  . obtain rfl : k = L:=by omega
    rw [Nat.mod_eq_of_lt lO.out] at hB;have vq:=wB hB nb;rw [qN.out] at vq;have Hb:=ah hb;clear hb hB;go_wp2;go_ret;exact ⟨rfl,Hb.out⟩
theorem ai4 (w : World) :
 Calls Tryz.prog 152 #[.slice none 0 0] w fun e w'=>e = .returned (.string (bs [])) /\ Bw w w':=by
 have hmk:=pV 0 0 rfl zo;have vq:=wB (ai.new w 5 (bZ 0 fun _=>0)) 0;go_enter Tryz.func152,Tryz.ntmps152;go_wp2_with fail;refine (VX w).mono ?_;rintro e w' ⟨rfl,rfl⟩;go_wp2_with fail;refine wp_loop_rounds 1 ?_;rw [rounds_succ];go_wp2;go_ret;exact ⟨rfl,zl⟩
theorem rS (x : Value) (n v : Nat) (w : World) (hm : n <= 1099511627776) (hx : Bv w x n v) :
 Calls Tryz.prog 152 #[x] w fun e w'=>e = .returned (.string (bs (nt v))) /\ Bw w w':=by
 rcases hx.2 with ⟨rfl,rfl⟩ | ⟨b,o,cap,rfl,h1,hc⟩
 . have h0:=hx.1;obtain rfl : v = 0:=by simpa using h0
   exact ai4 w
 . exact ai3 b o n cap v w hm h1 hc hx.1
theorem WM (n : Nat) (f : Nat -> Nat) : bZ (n + 1) f = bZ n f ++ [.int .u8 (f n : Int)]:=by unfold bZ;rw [List.range_succ,List.map_append];rfl
theorem aiO (N : Nat) (w : World) (hN : N < WW) :
 Calls Tryz.prog 119 #[.int .u64 (N : Int)] w fun e w'=>e = .returned (.string (bs (nt N))) /\ Bw w w':=by
 obtain ⟨i0,hi,hz0,hz1,hz2⟩:=info_parts Tryz.anZ;have hNb : bo N <= 64:=fE (by rw [jl] at hN;exact hN);have hW:=ig;go_enter Tryz.func119,Tryz.ntmps119;go_wp2_with fail;go_loopw [0,3] (fun u v wr=>∃ k : Nat,k <= bo N /\ u = .int .u64 ((N / 2 ^ k : Nat) : Int) /\ wr.ownsRow w.heap.size 5 1 v k (bZ k (bd N)) /\ Bw w wr) (fun u _ _=>(intOf u).toNat);case atStart=>exact ⟨0,Nat.zero_le _,by simp,World.ownsRow_nil _ _ _ _,Below.refl _ _⟩
 case round=>
  obtain ⟨k,hk,rfl,hown,hb⟩:=hrel;obtain ⟨M,hM⟩ : ∃ M,N / 2 ^ k = M:=⟨_,rfl⟩;have Ao : M < 18446744073709551616:=by have:=Nat.div_le_self N (2 ^ k);omega
  have HM:=ah hM;rw [hM];have xy : N / 2 ^ (k + 1) = M / 2:=by rw [Nat.pow_succ,<- Nat.div_div_eq_div_mul,hM]
  have js : bd N k = M % 2:=by unfold bd;rw [hM]
  have uq:=ah xy;have iQ:=ah js;clear hM xy js hW hN;by_cases h0 : 0 < M
  . have h01 : (0 : Int) < (M : Int):=by omega
    have hkl : k < bo N:=by
     rcases Nat.lt_or_ge k (bo N) with h | h
     . exact h
     . have h1 : N < 2 ^ k:=Nat.lt_of_lt_of_le (mK N) (Nat.pow_le_pow_right zd h);have:=HM.out;rw [Nat.div_eq_of_lt h1] at this;omega
    have hs0:=hb.size;have lN:=ah hown;clear hown;go_wp2_with (first | (at_builtin;refine wpList_append_own _ rfl _ _ 111 rfl w.heap.size 5 i0 (.int .u8 0) 1 1 Tryz.underlying111 hi hz0 hz1 hz2 rfl zd _ _ _ rfl (lN.out.alloc _) ⟨wr.heap.size,0,none⟩ 1 1 [.int .u8 ((M : Int) % 2)] rfl rfl (cell_one_new _ _ _) zy zx zo zi ?_;intro v' w1 ho hg _;have Ho:=ah ho;have Hg:=ah hg;clear ho hg));go_roundw;case rel=>
     refine ⟨k + 1,by omega,?_,?_,?_⟩
     . rw [uq.out];go_num
     . rw [WM,iQ.out];have e : ((M % 2 : Nat) : Int) = (M : Int) % 2:=by omega
       rw [e];exact Ho.out
     . exact (hb.alloc hs0 _).grown Hg.out zi (fun j e=>cL lN.out j e)
    case measure=>simp [intOf];omega
  . obtain rfl : M = 0:=by omega
    have SR : N < 2 ^ k:=by have:=HM.out;exact (Nat.div_eq_zero_iff_lt (Nat.pow_pos zd)).1 this
    have Gj:=ah (Bv.an2 hown SR);have Hb:=ah hb;clear hown SR hb;go_wp2_with fail;refine (rS u3 k N wr zo Gj.out).mono ?_;rintro e w2 ⟨rfl,hb2⟩;have bS:=ah hb2;clear hb2;go_wp2;go_ret;exact ⟨rfl,aJ Hb.out bS.out⟩
theorem IE (a : Nat) (ha : a < 256) : bits .and .u8 (a : Int) 1 = ((a % 2 : Nat) : Int):=by
 have h1 : (BitVec.ofInt 8 (a : Int)).toNat = a:=by rw [BitVec.ofInt_natCast,BitVec.toNat_ofNat];exact Nat.mod_eq_of_lt zo
 show IntKind.u8.wrap ((BitVec.ofInt 8 (a : Int) &&& BitVec.ofInt 8 1).toNat : Int) = _
 rw [BitVec.toNat_and,h1,show (BitVec.ofInt 8 1).toNat = 1 from rfl,Nat.and_one_is_mod,IntKind.wrap_u8];omega
theorem mA (l : List UInt8) (w : World) (hl : l.length <= 68719476736) :
 Calls Tryz.prog 132 #[.string (bs l)] w fun e w'=>(∃ y,e = .returned y /\ Bv w' y (bo (nv l)) (nv l)) /\ Bw w w':=by
 obtain ⟨i0,hi,hz0,hz1,hz2⟩:=info_parts Tryz.anZ;have hsz : (bs l).size = l.length:=lS l;go_enter Tryz.func132,Tryz.ntmps132;go_wp2_with fail;go_loopw [3,4,5] (fun v i _ wr=>∃ m : Nat,m <= l.length /\ i = .int .i64 ((l.length : Int) - 1 - (m : Int)) /\ wr.ownsRow w.heap.size 5 1 v (8 * m) (bZ (8 * m) (bd (nv l))) /\ Bw w wr) (fun _ i _ _=>(intOf i + 1).toNat);case atStart=>exact ⟨0,Nat.zero_le _,by go_num,World.ownsRow_nil _ _ _ _,Below.refl _ _⟩
 case round=>
  obtain ⟨m,hm,rfl,hown,hb⟩:=hrel;have lN:=ah hown;have Hb:=ah hb;clear hown hb;by_cases hlt : m < l.length
  . have hge : (m : Int) <= (l.length : Int) - 1:=by omega
    have fN:=vP l ((l.length : Int) - 1 - (m : Int)) (l.length - 1 - m) zo zo;have Yd : Hid (∀ k,k < 8 -> l[l.length - 1 - m].toNat / 2 ^ k % 2 = bd (nv l) (8 * m + k)):=fun k hk=>ahw l m k hlt hk;have hC:=(l[l.length - 1 - m]'zo).toNat_lt;generalize hCe : l[l.length - 1 - m].toNat = C at *;clear hCe;go_wp2_with fail;go_loopw [3,5] (fun v j wr=>∃ k : Nat,k <= 8 /\ j = .int .i64 (k : Int) /\ wr.ownsRow w.heap.size 5 1 v (8 * m + k) (bZ (8 * m + k) (bd (nv l))) /\ Bw w wr) (fun _ j _=>8 - (intOf j).toNat);case atStart=>exact ⟨0,Nat.zero_le _,rfl,lN.out,Hb.out⟩
    case round=>
     clear lN Hb;obtain ⟨k,hk,rfl,hown,hb⟩:=hrel;have lN:=ah hown;have Hb:=ah hb;have hs0:=hb.size;clear hown hb;by_cases hk8 : k < 8
     . obtain ⟨Z,hZ⟩ : ∃ Z,C / 2 ^ k % 2 = Z:=⟨_,rfl⟩;have hbk:=Yd.out k hk8;rw [hZ] at hbk;have yU:=ah hbk;clear hbk;have hand : bits .and .u8 ((C : Int) / 2 ^ k) 1 = (Z : Int):=by
        have e : (C : Int) / 2 ^ k = ((C / 2 ^ k : Nat) : Int):=by simp
        have:=Nat.div_le_self C (2 ^ k);rw [e,IE _ zo,hZ]
       clear hZ;go_wp2_with (first | (at_builtin;refine wpList_append_own _ rfl _ _ 111 rfl w.heap.size 5 i0 (.int .u8 0) 1 1 Tryz.underlying111 hi hz0 hz1 hz2 rfl zd _ _ _ rfl (lN.out.alloc _) ⟨wr.heap.size,0,none⟩ 1 1 [.int .u8 (Z : Int)] rfl rfl (cell_one_new _ _ _) zy zx zo zi ?_;intro v' w1 ho hg _;have Ho:=ah ho;have Hg:=ah hg;clear ho hg));go_roundw;case rel=>
        refine ⟨k + 1,by omega,?_,?_,?_⟩
        . go_num
        . rw [<- Nat.add_assoc,WM,<- yU.out];exact Ho.out
        . exact (Hb.out.alloc hs0 _).grown Hg.out zi (fun j e=>cL lN.out j e)
       case measure=>simp [intOf];omega
     . obtain rfl : k = 8:=by omega
       go_wp2;go_roundw;case rel=>exact ⟨m + 1,by omega,by go_num,lN.out,Hb.out⟩
       case measure=>simp [intOf];omega
  . obtain rfl : m = l.length:=by omega
    have Gj:=ah (Bv.an2 lN.out (lG l));clear hlt;go_wp2_with fail;refine (Me u3 (8 * l.length) (nv l) wr zo Gj.out).mono ?_;rintro e w2 ⟨⟨y,rfl,hy,_⟩,rfl⟩;have Hy:=ah hy;clear hy;go_wp2;go_ret;exact ⟨⟨_,rfl,Hy.out⟩,Hb.out⟩
theorem yw (x : Value) (n v i : Nat) (w : World) (hx : Bv w x n v) (hi : i <= 1099511627776) (hn : n <= 1099511627776) :
 Calls Tryz.prog 179 #[x,.int .i64 (i : Int)] w fun e w'=>e = .returned (.int .u8 (bd v i : Int)) /\ w = w':=by
 obtain ⟨hv,h⟩:=hx;by_cases hlt : i < n
 . rcases h with ⟨rfl,h0⟩ | ⟨b,o,cap,rfl,h1,hc⟩
   . omega
   . have hcell:=hc i hlt;have bz:=tM n cap i (i : Int) (rfl : (some ⟨b,o,none⟩ : Option Addr) = _) hlt rfl;rw [Nat.mul_one] at bz;clear hc hv;go_enter Tryz.func179,Tryz.ntmps179;go_wp2;go_ret;exact ⟨rfl,rfl⟩
 . have h0 : bd v i = 0:=abF hv zo;have H0:=ah h0;clear h0 hv;rcases h with ⟨rfl,h0⟩ | ⟨b,o,cap,rfl,h1,hc⟩
   . subst h0;go_enter Tryz.func179,Tryz.ntmps179;go_wp2;go_ret;exact ⟨by rw [H0.out];rfl,rfl⟩
   . clear hc;go_enter Tryz.func179,Tryz.ntmps179;go_wp2;go_ret;exact ⟨by rw [H0.out];rfl,rfl⟩
theorem Bv.len {w : World} {x : Value} {n v : Nat} (h : Bv w x n v) : ∃ a cap,x = .slice a n cap:=by
 rcases h.2 with ⟨rfl,rfl⟩ | ⟨b,o,cap,rfl,_⟩
 . exact ⟨_,_,rfl⟩
 . exact ⟨_,_,rfl⟩
theorem VV (x y : Value) (n m v u : Nat) (w : World) (hx : Bv w x n v) (hy : Bv w y m u) (hn : n <= 1099511627776) (hm : m <= 1099511627776) :
 Calls Tryz.prog 176 #[x,y] w fun e w'=>e = .returned (.int .i64 (cC v u)) /\ w = w':=by
 obtain ⟨a,cap,iG⟩:=hx.len;obtain ⟨a',cap',Bj⟩:=hy.len;have ma:=fun i (hi : i <= 1099511627776)=>yw x n v i w hx hi hn;have hby:=fun i (hi : i <= 1099511627776)=>yw y m u i w hy hi hm;have hv:=hx.1;have hu:=hy.1;subst iG;subst Bj;have yV:=ah ma;have yX:=ah hby;have Hv:=ah hv;have Hu:=ah hu;clear ma hby hv hu hx hy;obtain ⟨M,hM⟩ : ∃ M,max n m = M:=⟨_,rfl⟩;have hMI : max (n : Int) (m : Int) = (M : Int):=by omega
 have bX : Hid (v / 2 ^ M = u / 2 ^ M):=by
  show _ = _
  rw [Nat.div_eq_of_lt (Nat.lt_of_lt_of_le Hv.out (Nat.pow_le_pow_right zd zo)),Nat.div_eq_of_lt (Nat.lt_of_lt_of_le Hu.out (Nat.pow_le_pow_right zd zo))]
 have Ao : M <= 1099511627776:=by omega
 clear hM;go_enter Tryz.func176,Tryz.ntmps176;go_wp2_with fail;go_loop [5] (fun i=>∃ k : Nat,k <= M /\ v / 2 ^ k = u / 2 ^ k /\ i = .int .i64 ((k : Int) - 1)) (fun i=>(intOf i + 1).toNat)
 case atStart=>exact ⟨M,Nat.le_refl _,bX.out,rfl⟩
 case round=>
  obtain ⟨k,hk,hvk,rfl⟩:=hrel;have lh:=ah hvk;clear hvk;by_cases h0 : 0 < k
  . obtain ⟨j,rfl⟩ : ∃ j,k = j + 1:=⟨k - 1,by omega⟩;have ma:=yV.out j zo;have hby:=yX.out j zo;have wP:=ah (fun h=>Py (v:=v) (u:=u) lh.out h);have YG:=ah (fun h=>Py (v:=u) (u:=v) lh.out.symm h);have CG:=ah (fun h=>abE (v:=v) (u:=u) lh.out h);have hp1:=pu v j;have hq1:=pu u j;generalize bd v j = p at *;generalize bd u j = q at *;have H1:=ah ma;have H2:=ah hby;clear ma hby;have hj : ((j + 1 : Nat) : Int) - 1 = (j : Int):=by omega
    rw [hj];clear hj h0;go_wp2_with fail;refine H1.out.mono ?_;rintro e w' ⟨rfl,rfl⟩;go_wp2_with fail;refine H2.out.mono ?_;rintro e w' ⟨rfl,rfl⟩;by_cases hpq : p < q
    . have afe : (p : Int) < (q : Int):=by omega
      go_wp2;go_ret;have:=wP.out hpq;exact ⟨by unfold cC;rw [if_pos this];rfl,rfl⟩
    . have afe : ¬ (p : Int) < (q : Int):=by omega
      go_wp2_with fail;refine H1.out.mono ?_;rintro e w' ⟨rfl,rfl⟩;go_wp2_with fail;refine H2.out.mono ?_;rintro e w' ⟨rfl,rfl⟩;by_cases hqp : q < p
      . have afi : (q : Int) < (p : Int):=by omega
        go_wp2;go_ret;have:=YG.out hqp;exact ⟨by unfold cC;rw [if_neg zo,if_pos this];rfl,rfl⟩
      . have afi : ¬ (q : Int) < (p : Int):=by omega
        go_wp2;refine ⟨⟨j,by omega,CG.out zo,by go_num⟩,by simp [intOf]⟩
  . obtain rfl : k = 0:=by omega
    have he : v = u:=by simpa using lh.out
    go_wp2;go_ret;exact ⟨by unfold cC;rw [if_neg zo,if_neg zo];rfl,rfl⟩
theorem Wa (x y : Value) (n m v u : Nat) (w : World) (hx : Bv w x n v) (hy : Bv w y m u) (hn : n <= 1099511627776) (hm : m <= 1099511627776) (rM : u <= v) :
 Calls Tryz.prog 159 #[x,y] w fun e w'=>(∃ z,e = .returned z /\ Bv w' z n (v - u) /\ zR z w.heap.size) /\ Bw w w':=by
 obtain ⟨a,cap,iG⟩:=hx.len;obtain ⟨a',cap',Bj⟩:=hy.len;have ma:=fun W (hW : Bw w W) i (hi : i <= 1099511627776)=>yw x n v i W (hx.below hW) hi hn;have hby:=fun W (hW : Bw w W) i (hi : i <= 1099511627776)=>yw y m u i W (hy.below hW) hi hm;have qX : Hid (v - u < 2 ^ n):=by show _ < _;have:=hx.1;omega
 subst iG;subst Bj;have yV:=ah ma;have yX:=ah hby;have zO:=ah rM;clear ma hby hx hy rM;have hmk:=pV (n : Int) n rfl zo;go_enter Tryz.func159,Tryz.ntmps159;go_wp2_with fail;go_loopw [6,7,8] (fun b i _ wr=>∃ k : Nat,k <= n /\ i = .int .i64 (k : Int) /\ b = .int .u8 (bb v u k : Int) /\ ai wr w.heap.size 5 (bZ n (fun j=>if j < k then bd (v - u) j else 0)) /\ Bw w wr) (fun _ i _ _=>n - (intOf i).toNat);case atStart=>
  refine ⟨0,Nat.zero_le _,rfl,by rw [abC];rfl,?_,zl⟩;have e : bZ n (fun j=>if j < 0 then bd (v - u) j else 0) = bZ n fun _=>0:=kR fun j hj=>by rw [if_neg zo]
  rw [e];exact ai.new _ _ _
 case round=>
  obtain ⟨k,hk,rfl,rfl,hB,hb⟩:=hrel;by_cases hlt : k < n
  . have H1:=ah (yV.out wr hb k zo);have H2:=ah (yX.out wr hb k zo);have hs:=abB v u k;have hd:=abA v u k zO.out;have hp:=pu v k;have hq:=pu u k;have hr:=Pw v u k;have hcell : wr.cell? ⟨w.heap.size,k,none⟩ = some (.int .u8 0):=by rw [hB.cell,jD _ _ _ hlt,if_neg zo];rfl
    have hfree : wr.frozen? ⟨w.heap.size,k,none⟩ = false:=hB.free _;have bH:=hB.set k (.int .u8 ((bd (v - u) k : Nat) : Int))
    rw [wD,kR (g:=fun j=>if j < k + 1 then bd (v - u) j else 0) fun j hj=>by
     by_cases e : j = k
     . subst e;rw [if_pos rfl,if_pos zo]
     . rw [if_neg e];by_cases e2 : j < k
       . rw [if_pos e2,if_pos zo]
       . rw [if_neg e2,if_neg zo]] at bH
    have dK:=ah bH;have Hb:=ah (hb.setCell (p:=⟨w.heap.size,k,none⟩) (Nat.le_refl _) (.int .u8 ((bd (v - u) k : Nat) : Int)));clear hB bH hb;generalize bd v k = p at *;generalize bd u k = q at *;generalize bb v u k = r at *;generalize bd (v - u) k = z at *;have Hs:=ah hs;clear hs;obtain ⟨S,hS⟩ : ∃ S,2 + p - q - r = S:=⟨_,rfl⟩;have hS3 : S <= 3:=by omega
    have hw1 : IntKind.u8.wrap (2 + (p : Int)) = 2 + (p : Int):=by rw [IntKind.wrap_u8];omega
    have hw2 : IntKind.u8.wrap (2 + (p : Int) - (q : Int)) = 2 + (p : Int) - (q : Int):=by rw [IntKind.wrap_u8];omega
    have hw3 : IntKind.u8.wrap (2 + (p : Int) - (q : Int) - (r : Int)) = (S : Int):=by rw [IntKind.wrap_u8];omega
    have hand : bits .and .u8 (S : Int) 1 = (z : Int):=by rw [IE S zo,<- hd];omega
    have HS:=ah hS;have Hd:=ah hd;clear hS hd;go_wp2_with fail;refine H1.out.mono ?_;rintro e w' ⟨rfl,rfl⟩;go_wp2_with fail;refine H2.out.mono ?_;rintro e w' ⟨rfl,rfl⟩;go_wp2;go_roundw;case rel=>refine ⟨k + 1,by omega,by go_num,?_,dK.out,Hb.out⟩;rw [Hs.out];have:=HS.out;congr 1;split<;>omega
    case measure=>simp [intOf];omega
  . obtain rfl : k = n:=by omega
    rw [kR (g:=bd (v - u)) fun j hj=>by rw [if_pos hj]] at hB;have Hz:=ah (Bv.anV hB qX.out);have Hb:=ah hb;clear hB hb;go_wp2;go_ret;exact ⟨⟨_,rfl,Hz.out,fun b o n' c e=>by cases e;exact Nat.le_refl _⟩,Hb.out⟩
end Go.Proofs.YtdaadlblknpipaaGreatDoor
namespace Go.Proofs.YtdaadlblknpipaaGreatDoor
open Go.RowKit
abbrev aK:=List UInt8 × Raw
def aM (t : aK) : List Value:=[.string (bs t.1),.bool t.2.1,.string (bs t.2.2.1),.int .i64 t.2.2.2]
theorem At.term {w : World} {a : Option Addr} {ts : List aK} (h : At w a (ts.flatMap aM)) (k : Nat) (hk : k < ts.length) {l : List UInt8} {s : Bool} {m : List UInt8} {e : Int} (hx : ts[k] = (l,s,m,e)) :
 ∃ b o,a = some ⟨b,o,none⟩ /\ bj w b (o + k * 4) [.string (bs l),.bool s,.string (bs m),.int .i64 e]:=by
 obtain ⟨b,o,hab,hcs⟩:=h.elem (f:=aM) (sz:=4) (fun _=>rfl) zd k hk;refine ⟨b,o,hab,fun j hj=>?_⟩;have:=hcs j hj;rw [hx] at this;rw [this];unfold aM;rw [List.getElem?_eq_getElem (by simpa using hj)]
def Ah (V : Int) (l : List UInt8) (x : Raw) : Bool:=fA l V && !(bM (aC x) == 0) && (canon (aC x) == x)
def nY (V : Int) (ts : List aK) (k : Nat) : Bool:=Ah V (ts.getD k default).1 (ts.getD k default).2 && (k == 0 || Op.bytesLess (bs (ts.getD (k - 1) default).1).toList (bs (ts.getD k default).1).toList)
def ww (V : Int) (ts : List aK) : Int:=if ¬ (0 <= V /\ V <= 12) then 1 else if 4096 < ts.length then 3 else if (List.range ts.length).all (nY V ts) then 0 else 1
end Go.Proofs.YtdaadlblknpipaaGreatDoor
namespace Go.Proofs.YtdaadlblknpipaaGreatDoor
theorem xb (a : List UInt8) : Op.bytesLess a a = false:=by
 induction a with
 | nil=>rfl
 | cons x a ih=>simp [Op.bytesLess,ih]
theorem zW {a b c : List UInt8} (h : Op.bytesLess a b = true) (k : Op.bytesLess b c = true) : Op.bytesLess a c = true:=by
 induction a generalizing b c with
 | nil =>
   cases c with
   | nil=>cases b<;>simp [Op.bytesLess] at k
   | cons z c=>simp [Op.bytesLess]
 | cons x a ih =>
   cases b with
   | nil=>simp [Op.bytesLess] at h
   | cons y b =>
     cases c with
     | nil=>simp [Op.bytesLess] at k
     | cons z c =>
       simp only [Op.bytesLess,Bool.or_eq_true,Bool.and_eq_true,decide_eq_true_eq,beq_iff_eq] at h k ⊢;rcases h with h | ⟨rfl,h⟩
       . rcases k with k | ⟨rfl,k⟩
         . exact .inl (UInt8.lt_trans h k)
         . exact .inl h
       . rcases k with k | ⟨rfl,k⟩
         . exact .inl k
         . exact .inr ⟨rfl,ih h k⟩
theorem zX {a b : List UInt8} (h : Op.bytesLess a b = false) (k : Op.bytesLess b a = false) : a = b:=by
 induction a generalizing b with
 | nil=>cases b with
   | nil=>rfl
   | cons y b=>simp [Op.bytesLess] at h
 | cons x a ih=>cases b with
   | nil=>simp [Op.bytesLess] at k
   | cons y b =>
     simp only [Op.bytesLess,Bool.or_eq_false_iff,Bool.and_eq_false_iff,decide_eq_false_iff_not,beq_eq_false_iff_ne] at h k;have e : x = y:=by have h1:=UInt8.not_lt.1 h.1;have h2:=UInt8.not_lt.1 k.1;exact UInt8.le_antisymm h2 h1
     subst e;rw [ih (by rcases h.2 with h | h;exact absurd rfl h;exact h) (by rcases k.2 with h | h;exact absurd rfl h;exact h)]
def Mz (x y : aK) : aK:=(x.1,canon (aC x.2 + aC y.2))
def tX : Nat -> List aK -> List aK -> List aK
 | 0,a,b=>a ++ b
 | _ + 1,[],b=>b
 | _ + 1,x :: a,[]=>x :: a
 | k + 1,x :: a,y :: b=>if Op.bytesLess x.1 y.1 then x :: tX k a (y :: b) else if Op.bytesLess y.1 x.1 then y :: tX k (x :: a) b else Mz x y :: tX k a b
theorem Lz (a b : List aK) (j k : Nat) (hj : a.length + b.length <= j) (hk : a.length + b.length <= k) : tX j a b = tX k a b:=by
 induction j generalizing k a b with
 | zero =>have ha : a = []:=List.length_eq_zero_iff.1 zo;have hb : b = []:=List.length_eq_zero_iff.1 zo;subst ha;subst hb;cases k<;>rfl
 | succ j ih =>
   cases k with
   | zero =>have ha : a = []:=List.length_eq_zero_iff.1 zo;have hb : b = []:=List.length_eq_zero_iff.1 zo;subst ha;subst hb;rfl
   | succ k =>
     cases a with
     | nil=>rfl
     | cons x a=>cases b with
       | nil=>rfl
       | cons y b =>simp only [List.length_cons] at hj hk;simp only [tX];rw [ih a (y :: b) k zi zi,ih (x :: a) b k zi zi,ih a b k zo zo]
def fI (a b : List aK) : List aK:=tX (a.length + b.length) a b
theorem ye (b : List aK) : fI [] b = b:=by
 unfold fI;cases b with
 | nil=>rfl
 | cons y b=>rfl
theorem yf (a : List aK) : fI a [] = a:=by
 unfold fI;cases a with
 | nil=>rfl
 | cons y b=>rfl
theorem tY (x y : aK) (a b : List aK) : fI (x :: a) (y :: b) = if Op.bytesLess x.1 y.1 then x :: fI a (y :: b) else if Op.bytesLess y.1 x.1 then y :: fI (x :: a) b else Mz x y :: fI a b:=by
 unfold fI;rw [show (x :: a).length + (y :: b).length = (a.length + b.length + 1) + 1 by simp;omega];simp only [tX]
 rw [Lz a (y :: b) (a.length + b.length + 1) (a.length + (y :: b).length) zi zm,Lz (x :: a) b (a.length + b.length + 1) ((x :: a).length + b.length) zi zm,
  Lz a b (a.length + b.length + 1) (a.length + b.length) zo zo]
theorem Vl (a b : List aK) : (fI a b).length <= a.length + b.length:=by
 obtain ⟨n,hn⟩ : ∃ n,a.length + b.length = n:=⟨_,rfl⟩;induction n using Nat.strongRecOn generalizing a b with
 | _ n ih =>
   cases a with
   | nil=>rw [ye];simp
   | cons x a=>cases b with
     | nil=>rw [yf];simp
     | cons y b =>
       rw [tY];simp only [List.length_cons] at hn ⊢;split
       . have:=ih _ (by simp only [List.length_cons];omega) a (y :: b) rfl;simp only [List.length_cons] at this ⊢;omega
       . split
         . have:=ih _ (by simp only [List.length_cons];omega) (x :: a) b rfl;simp only [List.length_cons] at this ⊢;omega
         . have:=ih _ zo a b rfl;simp only [List.length_cons] at this ⊢;omega
def bL : List aK -> List UInt8 -> Dyadic
 | [],_=>0
 | x :: l,m=>(if x.1 = m then aC x.2 else 0) + bL l m
theorem uT (a b : List aK) (m : List UInt8) : bL (a ++ b) m = bL a m + bL b m:=by
 induction a with
 | nil=>simp [bL]
 | cons x a ih=>simp only [List.cons_append,bL,ih];grind
theorem PO (a b : List aK) (m : List UInt8) : bL (fI a b) m = bL a m + bL b m:=by
 obtain ⟨n,hn⟩ : ∃ n,a.length + b.length = n:=⟨_,rfl⟩;induction n using Nat.strongRecOn generalizing a b with
 | _ n ih =>
   cases a with
   | nil=>rw [ye];simp [bL]
   | cons x a=>cases b with
     | nil=>rw [yf];simp [bL]
     | cons y b =>
       rw [tY];simp only [List.length_cons] at hn;split
       . have:=ih _ (by simp only [List.length_cons];omega) a (y :: b) rfl;simp only [bL] at this ⊢;rw [this];grind
       . split
         . have:=ih _ (by simp only [List.length_cons];omega) (x :: a) b rfl;simp only [bL] at this ⊢;rw [this];grind
         . rename_i h1 h2
           have:=ih _ zo a b rfl;have e : x.1 = y.1:=zX (by simpa using h1) (by simpa using h2);simp only [bL,Mz,bP] at this ⊢;rw [this,e];split<;>grind
def Up (l : List aK) : Prop:=l.Pairwise fun x y=>Op.bytesLess x.1 y.1 = true
theorem Ff (a b : List aK) : ∀ x ∈ fI a b,∃ y ∈ a ++ b,y.1 = x.1:=by
 obtain ⟨n,hn⟩ : ∃ n,a.length + b.length = n:=⟨_,rfl⟩;induction n using Nat.strongRecOn generalizing a b with
 | _ n ih =>
   intro z hz;cases a with
   | nil=>rw [ye] at hz;exact ⟨z,by simp [hz],rfl⟩
   | cons x a=>cases b with
     | nil=>rw [yf] at hz;exact ⟨z,by simpa using hz,rfl⟩
     | cons y b =>
       rw [tY] at hz;simp only [List.length_cons] at hn;split at hz
       . rcases List.mem_cons.1 hz with rfl | hz
         . exact ⟨z,by simp,rfl⟩
         . obtain ⟨u,hu,e⟩:=ih _ (by simp only [List.length_cons];omega) a (y :: b) rfl z hz;exact ⟨u,by simp at hu ⊢;rcases hu with h | h | h<;>simp [h],e⟩
       . split at hz
         . rcases List.mem_cons.1 hz with rfl | hz
           . exact ⟨z,by simp,rfl⟩
           . obtain ⟨u,hu,e⟩:=ih _ (by simp only [List.length_cons];omega) (x :: a) b rfl z hz;exact ⟨u,by simp at hu ⊢;rcases hu with h | h | h<;>simp [h],e⟩
         . rcases List.mem_cons.1 hz with rfl | hz
           . exact ⟨x,by simp,rfl⟩
           . obtain ⟨u,hu,e⟩:=ih _ zo a b rfl z hz;exact ⟨u,by simp at hu ⊢;rcases hu with h | h<;>simp [h],e⟩
theorem agZ (a b : List aK) (ha : Up a) (hb : Up b) : Up (fI a b):=by
 obtain ⟨n,hn⟩ : ∃ n,a.length + b.length = n:=⟨_,rfl⟩;induction n using Nat.strongRecOn generalizing a b with
 | _ n ih =>
   cases a with
   | nil=>rw [ye];exact hb
   | cons x a=>cases b with
     | nil=>rw [yf];exact ha
     | cons y b =>
       rw [tY];simp only [List.length_cons] at hn;obtain ⟨ha1,ha2⟩:=List.pairwise_cons.1 ha;obtain ⟨hb1,hb2⟩:=List.pairwise_cons.1 hb;split
       . rename_i h
         refine List.pairwise_cons.2 ⟨fun z hz=>?_,ih _ (by simp only [List.length_cons];omega) a (y :: b) ha2 hb rfl⟩;obtain ⟨u,hu,e⟩:=Ff _ _ z hz;rw [<- e];rcases List.mem_append.1 hu with h2 | h2
         . exact ha1 u h2
         . rcases List.mem_cons.1 h2 with rfl | h2
           . exact h
           . exact zW h (hb1 u h2)
       . split
         . rename_i h0 h
           refine List.pairwise_cons.2 ⟨fun z hz=>?_,ih _ (by simp only [List.length_cons];omega) (x :: a) b ha hb2 rfl⟩;obtain ⟨u,hu,e⟩:=Ff _ _ z hz;rw [<- e];rcases List.mem_append.1 hu with h2 | h2
           . rcases List.mem_cons.1 h2 with rfl | h2
             . exact h
             . exact zW h (ha1 u h2)
           . exact hb1 u h2
         . rename_i h1 h2
           have e : x.1 = y.1:=zX (by simpa using h1) (by simpa using h2);refine List.pairwise_cons.2 ⟨fun z hz=>?_,ih _ zo a b ha2 hb2 rfl⟩;obtain ⟨u,hu,e2⟩:=Ff _ _ z hz;rw [<- e2];show Op.bytesLess x.1 u.1 = true
           rcases List.mem_append.1 hu with h3 | h3
           . exact ha1 u h3
           . rw [e];exact hb1 u h3
def qw : Nat -> List aK -> List aK
 | 0,l=>l
 | k + 1,l=>if l.length < 2 then l else fI (qw k (l.take (l.length / 2))) (qw k (l.drop (l.length / 2)))
theorem Wx (l : List aK) (j k : Nat) (hj : l.length <= j) (hk : l.length <= k) : qw j l = qw k l:=by
 induction j generalizing k l with
 | zero =>have h : l = []:=List.length_eq_zero_iff.1 zo;subst h;cases k<;>simp [qw]
 | succ j ih =>
   cases k with
   | zero =>have h : l = []:=List.length_eq_zero_iff.1 zo;subst h;simp [qw]
   | succ k =>
     simp only [qw];split
     . rfl
     . rw [ih (l.take (l.length / 2)) k zi zi,ih (l.drop (l.length / 2)) k zi zi]
def fL (l : List aK) : List aK:=qw l.length l
theorem Fy (l : List aK) (h : l.length < 2) : fL l = l:=by
 unfold fL;cases l with
 | nil=>rfl
 | cons x l=>simp only [List.length_cons,qw];rw [if_pos (by simpa using h)]
theorem My (l : List aK) (h : 2 <= l.length) : fL l = fI (fL (l.take (l.length / 2))) (fL (l.drop (l.length / 2))):=by obtain ⟨k,hk⟩ : ∃ k,l.length = k + 1:=⟨l.length - 1,by omega⟩;unfold fL;rw [hk];simp only [qw];rw [if_neg zo,hk,Wx (l.take ((k + 1) / 2)) k ((l.take ((k + 1) / 2)).length) zi (Nat.le_refl _),Wx (l.drop ((k + 1) / 2)) k ((l.drop ((k + 1) / 2)).length) zi (Nat.le_refl _)]
theorem Fw {Q : List aK -> List aK -> Prop} (h0 : ∀ l,l.length < 2 -> Q l l) (h1 : ∀ a b c d,Q a c -> Q b d -> Q (a ++ b) (fI c d)) (l : List aK) : Q l (fL l):=by
 obtain ⟨n,hn⟩ : ∃ n,l.length = n:=⟨_,rfl⟩;induction n using Nat.strongRecOn generalizing l with
 | _ n ih =>
   by_cases h : l.length < 2
   . rw [Fy l h];exact h0 l h
   . rw [My l zo];have:=h1 _ _ _ _ (ih (l.take (l.length / 2)).length zi (l.take (l.length / 2)) rfl) (ih (l.drop (l.length / 2)).length zi (l.drop (l.length / 2)) rfl);rwa [List.take_append_drop] at this
theorem acy (l : List aK) (m : List UInt8) : bL (fL l) m = bL l m:=
 Fw (Q:=fun l r=>bL r m = bL l m) (fun _ _=>rfl) (fun a b c d h1 h2=>by rw [PO,uT,h1,h2]) l
theorem ajD (l : List aK) : Up (fL l):=
 Fw (Q:=fun _ r=>Up r) (fun l h=>by
  cases l with
  | nil=>exact List.Pairwise.nil
  | cons x l=>cases l with
    | nil=>exact List.pairwise_singleton _ _
    | cons y l=>simp at h;omega) (fun a b c d h1 h2=>agZ c d h1 h2) l
theorem Fx (l : List aK) : (fL l).length <= l.length:=
 Fw (Q:=fun l r=>r.length <= l.length) (fun _ _=>Nat.le_refl _) (fun a b c d h1 h2=>by have:=Vl c d;simp;omega) l
theorem ajC (l : List aK) : ∀ x ∈ fL l,∃ y ∈ l,y.1 = x.1:=
 Fw (Q:=fun l r=>∀ x ∈ r,∃ y ∈ l,y.1 = x.1) (fun l _ x hx=>⟨x,hx,rfl⟩) (fun a b c d h1 h2 x hx=>by
  obtain ⟨y,hy,e⟩:=Ff c d x hx;rcases List.mem_append.1 hy with h | h
  . obtain ⟨z,hz,e2⟩:=h1 y h;exact ⟨z,by simp [hz],e2.trans e⟩
  . obtain ⟨z,hz,e2⟩:=h2 y h;exact ⟨z,by simp [hz],e2.trans e⟩) l
def fQ (x : aK) : Bool:=!(bM (aC x.2) == 0)
def bC (l : List aK) : List aK:=((fL l).filter fQ).map fun x=>(x.1,canon (aC x.2))
def Good (l : List aK) : Prop:=Up l /\ ∀ x ∈ l,aC x.2 ≠ 0 /\ x.2 = canon (aC x.2)
theorem uW (X : Dyadic) : (bM X == 0) = false ↔ X ≠ 0:=by
 have h : bM X = 0 ↔ X = 0:=by
  constructor
  . intro h;have h1 : dN X = 0:=by
     unfold bM dw at h;by_cases h1 : dN X < 0
     . rw [if_pos h1] at h;cases h
     . rw [if_neg h1] at h;by_cases h2 : dN X = 0
       . exact h2
       . rw [if_neg h2] at h;cases h
    have h2:=qh X;rw [h1,uf] at h2;exact h2
  . rintro rfl;rfl
 rw [beq_eq_false_iff_ne];exact not_congr h
theorem PN (l : List aK) (m : List UInt8) : bL (l.filter fQ) m = bL l m:=by
 induction l with
 | nil=>rfl
 | cons x l ih =>
   rw [List.filter_cons];split
   . simp only [bL,ih]
   . rename_i h
     have h0 : aC x.2 = 0:=Classical.byContradiction fun hc=>h (by unfold fQ;rw [(uW _).2 hc];rfl);simp only [bL,ih,h0];split<;>grind
theorem acs (l : List aK) (m : List UInt8) : bL (l.map fun x=>(x.1,canon (aC x.2))) m = bL l m:=by
 induction l with
 | nil=>rfl
 | cons x l ih=>simp only [List.map_cons,bL,ih,bP]
theorem pz (l : List aK) (m : List UInt8) : bL (bC l) m = bL l m:=by unfold bC;rw [acs,PN,acy]
theorem aj9 {l : List aK} (h : Up l) : Up (l.map fun x=>(x.1,canon (aC x.2))):=List.Pairwise.map _ (fun _ _ h=>h) h
theorem ad2 (l : List aK) (h : Up l) : Good ((l.filter fQ).map fun x=>(x.1,canon (aC x.2))):=by
 refine ⟨aj9 (List.Pairwise.filter _ h),fun x hx=>?_⟩;obtain ⟨y,hy,rfl⟩:=List.mem_map.1 hx;have h2:=(List.mem_filter.1 hy).2;unfold fQ at h2;refine ⟨?_,?_⟩
 . show aC (canon (aC y.2)) ≠ 0
   rw [bP];exact (uW _).1 (by simpa using h2)
 . show canon (aC y.2) = canon (aC (canon (aC y.2)))
   rw [bP]
theorem xh (l : List aK) : Good (bC l):=ad2 _ (ajD l)
theorem xj (l : List aK) : (bC l).length <= l.length:=by unfold bC;rw [List.length_map];exact Nat.le_trans (List.length_filter_le _ _) (Fx l)
theorem PP (l : List aK) (m : List UInt8) (h : ∀ x ∈ l,x.1 ≠ m) : bL l m = 0:=by
 induction l with
 | nil=>rfl
 | cons x l ih =>simp only [bL];rw [if_neg (h x zm),ih (fun y hy=>h y (by simp [hy]))];grind
theorem Good.tail {x : aK} {l : List aK} (h : Good (x :: l)) : Good l:=⟨(List.pairwise_cons.1 h.1).2,fun y hy=>h.2 y (by simp [hy])⟩
theorem Good.off {x : aK} {l : List aK} (h : Good (x :: l)) : bL l x.1 = 0:=by refine PP _ _ (fun y hy e=>?_);have:=(List.pairwise_cons.1 h.1).1 y hy;rw [e,xb] at this;cases this
theorem Good.head {x : aK} {l : List aK} (h : Good (x :: l)) : bL (x :: l) x.1 = aC x.2:=by simp only [bL,if_pos,h.off];grind
theorem Good.before {x y : aK} {l : List aK} (h : Good (y :: l)) (hx : Op.bytesLess x.1 y.1 = true) : bL (y :: l) x.1 = 0:=by
 refine PP _ _ (fun z hz e=>?_);rcases List.mem_cons.1 hz with rfl | hz
 . rw [e,xb] at hx;cases hx
 . have:=zW hx ((List.pairwise_cons.1 h.1).1 z hz);rw [e,xb] at this;cases this
theorem QB {a b : List aK} (ha : Good a) (hb : Good b) (h : ∀ m,bL a m = bL b m) : a = b:=by
 induction a generalizing b with
 | nil =>
   cases b with
   | nil=>rfl
   | cons y b =>have:=h y.1;rw [hb.head] at this;exact absurd this.symm (hb.2 y zm).1
 | cons x a ih =>
   cases b with
   | nil =>have:=h x.1;rw [ha.head] at this;exact absurd this (ha.2 x zm).1
   | cons y b =>
     have h1 : Op.bytesLess x.1 y.1 = false:=by
      cases hc : Op.bytesLess x.1 y.1 with
      | false=>rfl
      | true =>have:=h x.1;rw [ha.head,hb.before hc] at this;exact absurd this (ha.2 x zm).1
     have h2 : Op.bytesLess y.1 x.1 = false:=by
      cases hc : Op.bytesLess y.1 x.1 with
      | false=>rfl
      | true =>have:=h y.1;rw [hb.head,ha.before hc] at this;exact absurd this.symm (hb.2 y zm).1
     have e1 : x.1 = y.1:=zX h1 h2;have e2 : aC x.2 = aC y.2:=by have:=h x.1;rw [ha.head] at this;rw [this,e1,hb.head]
     have e3 : x = y:=by refine Prod.ext e1 ?_;rw [(ha.2 x zm).2,(hb.2 y zm).2,e2]
     subst e3
     rw [ih ha.tail hb.tail (fun m=>by
      have:=h m;simp only [bL] at this;generalize (if x.1 = m then aC x.2 else 0) = u at this
      grind)]
def zS (V : Nat) (ts : List aK) : Prop:=Good ts /\ (∀ t ∈ ts,fA t.1 V = true) /\ ts.length <= 4096 /\ V <= 12
theorem VI {V : Nat} {ts : List aK} (h : zS V ts) : ww V ts = 0:=by
 obtain ⟨⟨h1,h2⟩,h3,h4,h5⟩:=h;unfold ww;rw [if_neg zo,if_neg zo,if_pos];rw [List.all_eq_true];intro k hk;have hk : k < ts.length:=by simpa using hk
 have e : ts.getD k default = ts[k]:=by simp [hk]
 have hm:=List.getElem_mem hk;unfold nY Ah;rw [e,h3 _ hm,(uW _).2 (h2 _ hm).1];have e2 : (canon (aC ts[k].2) == ts[k].2) = true:=by rw [beq_iff_eq];exact (h2 _ hm).2.symm
 rw [e2];by_cases h0 : k = 0
 . simp [h0]
 . have hk1 : k - 1 < ts.length:=by omega
   have e3 : ts.getD (k - 1) default = ts[k - 1]:=by simp [hk1]
   have:=List.pairwise_iff_getElem.1 h1 (k - 1) k hk1 hk zo;rw [e3,fx,fx,this];simp
theorem Good.aoa {l : List aK} (h : Good l) : ∀ t ∈ l,aC t.2 = bL l t.1:=by
 induction l with
 | nil=>intro t ht;cases ht
 | cons x l ih =>
   intro t ht;rcases List.mem_cons.1 ht with rfl | ht
   . exact h.head.symm
   . have hne : ¬ x.1 = t.1:=fun e=>by have:=(List.pairwise_cons.1 h.1).1 t ht;rw [e,xb] at this;cases this
     simp only [bL,if_neg hne,ih h.tail t ht];grind
theorem acx {B : Nat} {l : List aK} (h : ∀ x ∈ l,Sm B (aC x.2)) (m : List UInt8) : Sm (B + l.length) (bL l m):=by
 induction l with
 | nil=>exact Sm.zero _
 | cons x l ih =>
   have h1:=ih (fun y hy=>h y (by simp [hy]));have h2 : Sm B (if x.1 = m then aC x.2 else 0):=by
    split
    . exact h x zm
    . exact Sm.zero _
   exact ((h2.mono (show B <= B + l.length by omega)).add h1).mono zi
theorem acn {B : Nat} {l : List aK} (h : ∀ x ∈ l,Sm B (aC x.2)) : ∀ t ∈ bC l,Sm (B + l.length) (aC t.2):=by intro t ht;rw [(xh l).aoa t ht,pz];exact acx h _
theorem acl (l : List aK) : ∀ x ∈ bC l,∃ y ∈ l,y.1 = x.1:=by intro x hx;unfold bC at hx;obtain ⟨y,hy,rfl⟩:=List.mem_map.1 hx;exact ajC l y (List.mem_filter.1 hy).1
theorem acm {V : Nat} {l : List aK} (hV : V <= 12) (hm : ∀ t ∈ l,fA t.1 V = true) (hl : l.length <= 4096) : zS V (bC l):=
 ⟨xh l,fun t ht=>by obtain ⟨y,hy,e⟩:=acl l t ht;rw [<- e];exact hm y hy,Nat.le_trans (xj l) hl,hV⟩
theorem xg {a b : List aK} (h : ∀ m,bL a m = bL b m) : bC a = bC b:=QB (xh a) (xh b) (fun m=>by rw [pz,pz,h m])
theorem ack (a b : List aK) : bC (bC a ++ bC b) = bC (a ++ b):=xg (fun m=>by rw [uT,uT,pz,pz])
def dt (c : Dyadic) (l : List aK) : List aK:=l.map fun x=>(x.1,canon (aC x.2 * c))
theorem PQ (c : Dyadic) (l : List aK) (m : List UInt8) : bL (dt c l) m = bL l m * c:=by
 induction l with
 | nil=>simp [dt,bL]
 | cons x l ih =>simp only [dt,List.map_cons,bL] at ih ⊢;rw [ih,bP];split<;>grind
def oW (n : Nat) : List UInt8:=List.replicate n 0
def cN (n k : Nat) : List UInt8:=(List.replicate n 0).set k 1
theorem Xd (n : Nat) : fA (oW n) n = true:=by unfold fA oW;rw [Bool.and_eq_true];refine ⟨?_,by simp⟩;rw [List.all_eq_true];intro c hc;rw [(List.mem_replicate.1 hc).2];rfl
theorem MG (n k : Nat) : fA (cN n k) n = true:=by
 unfold fA cN;rw [Bool.and_eq_true];refine ⟨?_,by simp⟩;rw [List.all_eq_true];intro c hc;rcases List.mem_or_eq_of_mem_set hc with h | h
 . rw [(List.mem_replicate.1 h).2];rfl
 . rw [h];rfl
def gh (n : Nat) (c : Dyadic) (l : Nat -> Dyadic) (k : Nat) : List aK:=(oW n,canon c) :: (List.range k).map fun j=>(cN n j,canon (l j))
def eO (n : Nat) (c : Dyadic) (l : Nat -> Dyadic) (k : Nat) : List aK:=bC (gh n c l k)
theorem Bp (n : Nat) (c : Dyadic) (l : Nat -> Dyadic) (k : Nat) : (gh n c l k).length = k + 1:=by simp [gh]
theorem af6 (n : Nat) (c : Dyadic) (l : Nat -> Dyadic) (k : Nat) : ∀ t ∈ gh n c l k,fA t.1 n = true:=by
 intro t ht;unfold gh at ht;rcases List.mem_cons.1 ht with rfl | ht
 . exact Xd n
 . obtain ⟨j,_,rfl⟩:=List.mem_map.1 ht;exact MG n j
theorem af7 {B : Nat} (n : Nat) (c : Dyadic) (l : Nat -> Dyadic) (k : Nat) (hc : Sm B c) (hl : ∀ j,j < k -> Sm B (l j)) : ∀ t ∈ gh n c l k,Sm B (aC t.2):=by
 intro t ht;unfold gh at ht;rcases List.mem_cons.1 ht with rfl | ht
 . show Sm B (aC (canon c));rw [bP];exact hc
 . obtain ⟨j,hj,rfl⟩:=List.mem_map.1 ht;show Sm B (aC (canon (l j)));rw [bP];exact hl j (by simpa using hj)
theorem UC (n : Nat) (c : Dyadic) (l : Nat -> Dyadic) (k : Nat) : gh n c l (k + 1) = gh n c l k ++ [(cN n k,canon (l k))]:=by unfold gh;rw [List.range_succ,List.map_append];rfl
theorem Dp (n : Nat) (c : Dyadic) (l : Nat -> Dyadic) (k : Nat) (m : List UInt8) : bL (gh n c l (k + 1)) m = bL (gh n c l k) m + if cN n k = m then l k else 0:=by rw [UC,uT];simp only [bL,bP];grind
theorem af8 (n : Nat) (c : Dyadic) (l : Nat -> Dyadic) (k : Nat) : bC (eO n c l k ++ bC [(cN n k,canon (l k))]) = eO n c l (k + 1):=by unfold eO;rw [ack,UC]
theorem acr (n : Nat) (c d : Dyadic) (l r : Nat -> Dyadic) (u v : Dyadic) (k : Nat) (m : List UInt8) : bL (gh n (c * u + d * v) (fun j=>l j * u + r j * v) k) m = bL (gh n c l k) m * u + bL (gh n d r k) m * v:=by
 induction k with
 | zero=>simp [gh,bL,bP];split<;>grind
 | succ k ih=>rw [Dp,ih,Dp,Dp];split<;>grind
theorem af5 {n : Nat} {c d : Dyadic} {l r : Nat -> Dyadic} (k : Nat) (hc : c = d) (h : ∀ j,j < k -> l j = r j) : gh n c l k = gh n d r k:=by unfold gh;rw [hc];congr 1;refine List.map_congr_left fun j hj=>?_;rw [h j (by simpa using hj)]
theorem af9 (n : Nat) (c d : Dyadic) (l r : Nat -> Dyadic) (k : Nat) : bC (eO n c l k ++ bC (dt (-1) (eO n d r k))) = eO n (c - d) (fun j=>l j - r j) k:=by unfold eO;refine xg (fun m=>?_);rw [uT,pz,pz,PQ,pz];have h:=acr n c d l r 1 (-1) k m;rw [af5 (d:=c - d) (r:=fun j=>l j - r j) k (by grind) (fun j _=>by grind)] at h;rw [h];grind
def fZ (m : List UInt8) : List aK -> Nat
 | []=>0
 | x :: l=>if Op.bytesLess x.1 m then fZ m l + 1 else 0
theorem aaS (m : List UInt8) (l : List aK) : fZ m l <= l.length:=by
 induction l with
 | nil=>exact Nat.le_refl _
 | cons x l ih=>unfold fZ;split<;>simp<;>omega
def fK (l : List aK) (x : aK) : List aK:=match l with
 | []=>[(x.1,canon (aC x.2))]
 | y :: l=>if Op.bytesLess y.1 x.1 then y :: fK l x else if y.1 = x.1 then (x.1,canon (aC y.2 + aC x.2)) :: l else (x.1,canon (aC x.2)) :: y :: l
theorem VN (l : List aK) (x : aK) : fK l x = l.take (fZ x.1 l) ++ (if (l.drop (fZ x.1 l)).head?.map (·.1) = some x.1 then (x.1,canon (aC ((l.drop (fZ x.1 l)).headD default).2 + aC x.2)) :: l.drop (fZ x.1 l + 1) else (x.1,canon (aC x.2)) :: l.drop (fZ x.1 l)):=by
 induction l with
 | nil=>simp [fK,fZ]
 | cons y l ih =>
   unfold fK fZ;by_cases h : Op.bytesLess y.1 x.1 = true
   . rw [if_pos h,if_pos h,ih,show List.drop (fZ x.1 l + 1) (y :: l) = List.drop (fZ x.1 l) l from rfl,show List.drop (fZ x.1 l + 1 + 1) (y :: l) = List.drop (fZ x.1 l + 1) l from rfl,List.take_succ_cons,List.cons_append]
   . rw [if_neg h,if_neg h];by_cases e : y.1 = x.1
     . rw [if_pos e];simp [e]
     . rw [if_neg e];simp [e]
theorem acv (l : List aK) (x : aK) (m : List UInt8) : bL (fK l x) m = bL l m + if x.1 = m then aC x.2 else 0:=by
 induction l with
 | nil=>simp only [fK,bL,bP];grind
 | cons y l ih =>
   unfold fK;split
   . simp only [bL,ih];grind
   . split
     . rename_i h e
       simp only [bL,bP,e];split<;>grind
     . simp only [bL,bP];grind
theorem aim (l : List aK) (x : aK) : ∀ y ∈ fK l x,y.1 = x.1 \/ ∃ z ∈ l,z.1 = y.1:=by
 induction l with
 | nil=>intro y hy;simp only [fK,List.mem_singleton] at hy;rw [hy];exact .inl rfl
 | cons z l ih =>
   intro y hy;unfold fK at hy;split at hy
   . rcases List.mem_cons.1 hy with rfl | hy
     . exact .inr ⟨y,by simp,rfl⟩
     . rcases ih y hy with h | ⟨u,hu,e⟩
       . exact .inl h
       . exact .inr ⟨u,by simp [hu],e⟩
   . split at hy
     . rcases List.mem_cons.1 hy with rfl | hy
       . exact .inl rfl
       . exact .inr ⟨y,by simp [hy],rfl⟩
     . rcases List.mem_cons.1 hy with rfl | hy
       . exact .inl rfl
       . exact .inr ⟨y,hy,rfl⟩
theorem aip (l : List aK) (x : aK) (h : Up l) : Up (fK l x):=by
 induction l with
 | nil=>exact List.pairwise_singleton _ _
 | cons y l ih =>
   obtain ⟨h1,h2⟩:=List.pairwise_cons.1 h;unfold fK;split
   . rename_i hy
     refine List.pairwise_cons.2 ⟨fun z hz=>?_,ih h2⟩;rcases aim l x z hz with e | ⟨u,hu,e⟩
     . rw [e];exact hy
     . rw [<- e];exact h1 u hu
   . rename_i hy
     split
     . rename_i e
       refine List.pairwise_cons.2 ⟨fun z hz=>?_,h2⟩;show Op.bytesLess x.1 z.1 = true
       rw [<- e];exact h1 z hz
     . rename_i e
       have hlt : Op.bytesLess x.1 y.1 = true:=by
        cases hc : Op.bytesLess x.1 y.1 with
        | true=>rfl
        | false=>exact absurd (zX (by simpa using hy) hc) e
       refine List.pairwise_cons.2 ⟨fun z hz=>?_,h⟩;show Op.bytesLess x.1 z.1 = true
       rcases List.mem_cons.1 hz with rfl | hz
       . exact hlt
       . exact zW hlt (h1 z hz)
theorem ail (l : List aK) (x : aK) : (fK l x).length <= l.length + 1:=by
 induction l with
 | nil=>exact Nat.le_refl _
 | cons y l ih =>
   unfold fK;split
   . simp only [List.length_cons];omega
   . split<;>simp
def fW (l : List aK) : List aK:=l.foldl fK []
theorem yq (l : List aK) (x : aK) : fW (l ++ [x]) = fK (fW l) x:=by unfold fW;rw [List.foldl_append];rfl
theorem Ca {Q : List aK -> Prop} (h0 : Q []) (h1 : ∀ l x,Q l -> Q (l ++ [x])) (l : List aK) : Q l:=by
 have h : ∀ r : List aK,Q r.reverse:=by
  intro r;induction r with
  | nil=>exact h0
  | cons x r ih=>rw [List.reverse_cons];exact h1 _ _ ih
 have:=h l.reverse;rwa [List.reverse_reverse] at this
theorem ait (l : List aK) : Up (fW l):=Ca (Q:=fun l=>Up (fW l)) List.Pairwise.nil (fun l x ih=>by rw [yq];exact aip _ _ ih) l
theorem acw (l : List aK) (m : List UInt8) : bL (fW l) m = bL l m:=Ca (Q:=fun l=>bL (fW l) m = bL l m) rfl (fun l x ih=>by rw [yq,acv,ih,uT];simp only [bL];grind) l
theorem air (l : List aK) : (fW l).length <= l.length:=Ca (Q:=fun l=>(fW l).length <= l.length) (Nat.le_refl _) (fun l x ih=>by rw [yq];have:=ail (fW l) x;simp;omega) l
theorem aik (l : List aK) (x : aK) (h : ∀ t ∈ l,t.2 = canon (aC t.2)) : ∀ t ∈ fK l x,t.2 = canon (aC t.2):=by
 have hc : ∀ X : Dyadic,canon X = canon (aC (canon X)):=fun X=>by rw [bP]
 induction l with
 | nil=>intro t ht;simp only [fK,List.mem_singleton] at ht;rw [ht];exact hc _
 | cons y l ih =>
   intro t ht;unfold fK at ht;split at ht
   . rcases List.mem_cons.1 ht with rfl | ht
     . exact h _ zm
     . exact ih (fun t ht=>h t (by simp [ht])) t ht
   . split at ht
     . rcases List.mem_cons.1 ht with rfl | ht
       . exact hc _
       . exact h t (by simp [ht])
     . rcases List.mem_cons.1 ht with rfl | ht
       . exact hc _
       . exact h t ht
theorem VO (l : List aK) : ∀ t ∈ fW l,t.2 = canon (aC t.2):=Ca (Q:=fun l=>∀ t ∈ fW l,t.2 = canon (aC t.2)) (fun t ht=>by cases ht) (fun l x ih=>by rw [yq];exact aik _ _ ih) l
theorem adY (l : List aK) : (fW l).filter fQ = bC l:=by refine QB ⟨List.Pairwise.filter _ (ait l),fun x hx=>?_⟩ (xh l) (fun m=>by rw [PN,acw,pz]);obtain ⟨h1,h2⟩:=List.mem_filter.1 hx;refine ⟨(uW _).1 ?_,VO l x h1⟩;unfold fQ at h2;simpa using h2
end Go.Proofs.YtdaadlblknpipaaGreatDoor
namespace Go.Proofs.YtdaadlblknpipaaGreatDoor
open Go.RowKit
attribute [local go_sem ↓] Go.wp_at_zero Go.wp_at_succ
def rT (a b : List UInt8) : Int:=if Op.bytesLess a b then -1 else if Op.bytesLess b a then 1 else 0
theorem ajn (l : List UInt8) (s : Bool) (m : List UInt8) (e : Int) (l' : List UInt8) (s' : Bool) (m' : List UInt8) (e' : Int) (w : World) :
 Calls Tryz.prog 100 #[.agg #[.string (bs l),.bool s,.string (bs m),.int .i64 e],.agg #[.string (bs l'),.bool s',.string (bs m'),.int .i64 e']] w fun ex w'=>ex = .returned (.int .i64 (rT l l')) /\ Bw w w':=by
 obtain ⟨R,hR⟩ : ∃ R,rT l l' = R:=⟨_,rfl⟩;unfold rT at hR;rw [show rT l l' = R from hR];obtain ⟨W,aL⟩ : ∃ W,((w.alloc (.cells #[.string (bs l),.bool s,.string (bs m),.int .i64 e] 107)).alloc (.cells #[.string (bs l'),.bool s',.string (bs m'),.int .i64 e'] 107)) = W:=⟨_,rfl⟩;have Hb : Hid (Bw w W):=by rw [<- aL];exact (zl.alloc zj _)
 have Hx : Hid (ai W (w.heap.size) 107 [.string (bs l),.bool s,.string (bs m),.int .i64 e]):=by rw [<- aL];exact (ai.newAt _ _ _ zm).alloc _
 have Hy : Hid (ai W (w.heap.size + 1) 107 [.string (bs l'),.bool s',.string (bs m'),.int .i64 e']):=by rw [<- aL];exact ai.newAt _ _ _ zm
 obtain ⟨x0,x1,x2,x3⟩:=Hx.out.c4;obtain ⟨y0,y1,y2,y3⟩:=Hy.out.c4;cases h1 : Op.bytesLess l l' with
 | true =>
   rw [h1] at hR;simp only [if_true] at hR;subst hR;have h2 : Op.bytesLess (bs l).toList (bs l').toList = true:=by rw [fx,fx];exact h1
   clear h1;go_enter Tryz.func100,Tryz.ntmps100;go_wp2;go_ret;exact ⟨rfl,Hb.out⟩
 | false =>
   rw [h1] at hR;simp only [Bool.false_eq_true,if_false] at hR;have h2 : Op.bytesLess (bs l).toList (bs l').toList = false:=by rw [fx,fx];exact h1
   cases h3 : Op.bytesLess l' l with
   | true =>
     rw [h3] at hR;simp only [if_true] at hR;subst hR;have hne : ¬ l = l':=by rintro rfl;rw [xb] at h3;cases h3
     have h4 : ((bs l).toList == (bs l').toList) = false:=by rw [fx,fx];simpa using hne
     have h5 : ¬ (bs l).toList = (bs l').toList:=by rw [fx,fx];exact hne
     clear h1 h3 hne;go_enter Tryz.func100,Tryz.ntmps100;go_wp2;go_ret;exact ⟨rfl,Hb.out⟩
   | false =>rw [h3] at hR;simp only [Bool.false_eq_true,if_false] at hR;subst hR;obtain rfl:=zX h1 h3;clear h1 h3;go_enter Tryz.func100,Tryz.ntmps100;go_wp2;go_ret;exact ⟨rfl,Hb.out⟩
theorem ajG (l : List UInt8) (s : Bool) (m : List UInt8) (e : Int) (l' : List UInt8) (s' : Bool) (m' : List UInt8) (e' : Int) (S : Dyadic) (B : Nat) (hS : aC (s,m,e) + aC (s',m',e') = S) (w : World) (hx : Fit B (s,m,e)) (hy : Fit B (s',m',e')) (hB : B + 2 <= 268435456) (hT : aB w) :
 Calls Tryz.prog 101 #[.agg #[.string (bs l),.bool s,.string (bs m),.int .i64 e],.agg #[.string (bs l'),.bool s',.string (bs m'),.int .i64 e']] w fun ex w'=>ex = .returned (.agg #[.string (bs l),.bool (au (dN S)),.string (bs (nt (dN S).natAbs)),.int .i64 (dE S)]) /\ Bw w w':=by
 have gG:=ah hx;have kr:=ah hy;have HS:=ah hS;have HT:=ah hT;clear hx hy hS hT;obtain ⟨W,aL⟩ : ∃ W,(((w.alloc (.cells #[.string (bs l),.bool s,.string (bs m),.int .i64 e] 107)).alloc (.cells #[.string (bs l'),.bool s',.string (bs m'),.int .i64 e'] 107)).alloc (.cells #[.string ⟨#[]⟩,.bool false,.string ⟨#[]⟩,.int .i64 0] 107)) = W:=⟨_,rfl⟩;have Hb : Hid (Bw w W):=by rw [<- aL];exact ((zl.alloc zj _).alloc zj _)
 have Hx : Hid (ai W (w.heap.size) 107 [.string (bs l),.bool s,.string (bs m),.int .i64 e]):=by rw [<- aL];exact ((ai.newAt _ _ _ zm).alloc _).alloc _
 have Hy : Hid (ai W (w.heap.size + 1) 107 [.string (bs l'),.bool s',.string (bs m'),.int .i64 e']):=by rw [<- aL];exact (ai.newAt _ _ _ zm).alloc _
 have Hr : Hid (ai W (w.heap.size + 1 + 1) 107 [.string ⟨#[]⟩,.bool false,.string ⟨#[]⟩,.int .i64 0]):=by rw [<- aL];exact ai.newAt _ _ _ zm
 obtain ⟨x0,x1,x2,x3⟩:=Hx.out.c4;obtain ⟨y0,y1,y2,y3⟩:=Hy.out.c4;obtain ⟨r0,aj,r1,ar,r2,aF,r3,cz⟩:=Hr.out.g4;go_enter Tryz.func101,Tryz.ntmps101;go_wp2_with fail;refine bE (fun w'=>w'.cell? ⟨w.heap.size,0,none⟩ = some (.string (bs l)) /\ w'.cell? ⟨w.heap.size,1,none⟩ = some (.bool s) /\ w'.cell? ⟨w.heap.size,2,none⟩ = some (.string (bs m)) /\ w'.cell? ⟨w.heap.size,3,none⟩ = some (.int .i64 e) /\ w'.cell? ⟨w.heap.size + 1,0,none⟩ = some (.string (bs l')) /\ w'.cell? ⟨w.heap.size + 1,1,none⟩ = some (.bool s') /\ w'.cell? ⟨w.heap.size + 1,2,none⟩ = some (.string (bs m')) /\ w'.cell? ⟨w.heap.size + 1,3,none⟩ = some (.int .i64 e')) (fun i=>Nat.blt i 9) [(0,true),(1,true),(2,true),(3,true),(4,true),(5,true),(6,false),(7,false),(8,true),(9,false)] zk zk rfl zk zc ⟨x0,x1,x2,x3,y0,y1,y2,y3⟩ ?_;iterate 6 (refine pT rfl rfl ?_ (by intro w' ⟨q0,q1,q2,q3,q4,q5,q6,q7⟩;go_simp;try with_reducible rfl);try simp only [UU])
 refine aI rfl rfl (fun K hK=>?_);go_simp;refine hK _ _ (fun _=>⟨aH x0,aH x1,aH x2,aH x3,aH y0,aH y1,aH y2,aH y3⟩) ?_;clear hK K;try simp only [UU]
 refine bG (fun W3=>ai W3 (W.heap.size) 30 [.bool s,.string (bs m),.int .i64 e,.bool s',.string (bs m'),.int .i64 e'] /\ Bw W W3) (by first | exact dP | exact dQ) ?_;rintro W3 ⟨qv,ae⟩;clear x0 x1 x2 x3 y0 y1 y2 y3 r0 aj r1 ar r2 aF r3 cz;have agH:=Hx.out.lt;have agJ:=Hy.out.lt;have EU:=Hr.out.lt;replace Hx:=kB Hx ae;replace Hy:=kB Hy ae;replace Hr:=kB Hr ae;have Hv:=ah qv;clear qv;obtain ⟨x0,x1,x2,x3⟩:=Hx.out.c4;obtain ⟨y0,y1,y2,y3⟩:=Hy.out.c4;obtain ⟨r0,aj,r1,ar,r2,aF,r3,cz⟩:=Hr.out.g4;obtain ⟨v0,v1,v2,v3,v4,v5⟩:=Hv.out.c6;replace Hb:=az Hb ae;clear ae;refine aI rfl rfl (fun K hK=>?_);go_simp;with_reducible refine (Ab s m e s' m' e' S B HS.out W.heap.size _ 30 _ gG.out kr.out hB Hv.out ((HT.out.below Hb.out))).mono ?_
 rintro e w4 ⟨rfl,hq⟩;have ae : Bw W3 w4:=by first | exact hq | exact aN hq
 clear x0 x1 x2 x3 y0 y1 y2 y3 r0 aj r1 ar r2 aF r3 cz v0 v1 v2 v3 v4 v5;replace Hx:=kB Hx ae;replace Hy:=kB Hy ae;replace Hr:=kB Hr ae;replace Hv:=kB Hv ae;obtain ⟨x0,x1,x2,x3⟩:=Hx.out.c4;obtain ⟨y0,y1,y2,y3⟩:=Hy.out.c4;obtain ⟨r0,aj,r1,ar,r2,aF,r3,cz⟩:=Hr.out.g4;obtain ⟨v0,v1,v2,v3,v4,v5⟩:=Hv.out.c6;replace Hb:=az Hb ae;clear ae;refine hK _ _ (fun _=>⟨x0,x1,x2,x3,y0,y1,y2,y3⟩) ?_;clear hK K;try simp only [UU]
 refine pT rfl rfl ?_;try simp only [UU]
 refine aI rfl rfl (fun K hK=>?_);go_simp;refine hK _ _ (fun h=>absurd h zd) ?_;clear hK K;try simp only [UU]
 clear x0 x1 x2 x3 y0 y1 y2 y3 r0 aj r1 ar r2 aF r3 cz v0 v1 v2 v3 v4 v5;refine bG (fun w5=>ai w5 (w.heap.size) 107 [.string (bs l),.bool s,.string (bs m),.int .i64 e] /\ ai w5 (w.heap.size + 1) 107 [.string (bs l'),.bool s',.string (bs m'),.int .i64 e'] /\ ai w5 (w.heap.size + 1 + 1) 107 [.string (bs l),.bool (au (dN S)),.string (bs (nt (dN S).natAbs)),.int .i64 (dE S)] /\ ai w5 (W.heap.size) 30 [.bool s,.string (bs m),.int .i64 e,.bool s',.string (bs m'),.int .i64 e'] /\ Bw w w5) ⟨((((Hx.out.so (w.heap.size + 1 + 1) 0 zo _).so (w.heap.size + 1 + 1) 1 zo _).so (w.heap.size + 1 + 1) 2 zo _).so (w.heap.size + 1 + 1) 3 zo _),((((Hy.out.so (w.heap.size + 1 + 1) 0 zo _).so (w.heap.size + 1 + 1) 1 zo _).so (w.heap.size + 1 + 1) 2 zo _).so (w.heap.size + 1 + 1) 3 zo _),((((Hr.out.set 0 _).set 1 _).set 2 _).set 3 _),((((Hv.out.so (w.heap.size + 1 + 1) 0 zo _).so (w.heap.size + 1 + 1) 1 zo _).so (w.heap.size + 1 + 1) 2 zo _).so (w.heap.size + 1 + 1) 3 zo _),by first | exact ((((Hb.out.sc (w.heap.size + 1 + 1) 0 ZS _).sc (w.heap.size + 1 + 1) 1 ZS _).sc (w.heap.size + 1 + 1) 2 ZS _).sc (w.heap.size + 1 + 1) 3 ZS _) | exact Below.drew ((((Hb.out.sc (w.heap.size + 1 + 1) 0 ZS _).sc (w.heap.size + 1 + 1) 1 ZS _).sc (w.heap.size + 1 + 1) 2 ZS _).sc (w.heap.size + 1 + 1) 3 ZS _)⟩ ?_;rintro w5 ⟨qx,qy,qr,qv,ae⟩;replace Hx:=ah qx;clear qx;replace Hy:=ah qy;clear qy;replace Hr:=ah qr;clear qr;replace Hv:=ah qv;clear qv;obtain ⟨x0,x1,x2,x3⟩:=Hx.out.c4;obtain ⟨y0,y1,y2,y3⟩:=Hy.out.c4;obtain ⟨r0,aj,r1,ar,r2,aF,r3,cz⟩:=Hr.out.g4;obtain ⟨v0,v1,v2,v3,v4,v5⟩:=Hv.out.c6;replace Hb:=ah ae;clear ae;simp only [aV];go_wp2;refine bodyPost_ret (v:=.agg #[.string (bs l),.bool (au (dN S)),.string (bs (nt (dN S).natAbs)),.int .i64 (dE S)]) (by simp [results,Tryz.results101,go_sem,r0,r1,r2,r3]) rfl ⟨rfl,?_⟩;(repeat first | exact Hb.out | (refine Below.setCell ?_ (by have:=Hb.out.size;first | (dsimp only;omega) | (show _ <= _;omega) | (simp<;>omega)) _) | (refine Below.alloc ?_ zt _) | refine Below.drew ?_)
theorem aci (l : List UInt8) (s : Bool) (m : List UInt8) (e : Int) (w : World) (hx : Ok (s,m,e)) :
 Calls Tryz.prog 138 #[.agg #[.string (bs l),.bool s,.string (bs m),.int .i64 e]] w fun ex w'=>ex = .returned (.bool (!fQ (l,s,m,e))) /\ Bw w w':=by
 obtain ⟨g,hg⟩ : ∃ g,bM (aC (s,m,e)) = g:=⟨_,rfl⟩;have hs:=fun W=>lT s m e g hg W hx;have hz : (!fQ (l,s,m,e)) = decide (g = 0):=by unfold fQ;rw [hg];by_cases h : g = 0<;>simp [h]
 rw [hz];have Hs:=ah hs;clear hs hz hg hx;obtain ⟨W,aL⟩ : ∃ W,(w.alloc (.cells #[.string (bs l),.bool s,.string (bs m),.int .i64 e] 107)) = W:=⟨_,rfl⟩;have Hb : Hid (Bw w W):=by rw [<- aL];exact zl
 have Hx : Hid (ai W (w.heap.size) 107 [.string (bs l),.bool s,.string (bs m),.int .i64 e]):=by rw [<- aL];exact ai.newAt _ _ _ zm
 obtain ⟨x0,x1,x2,x3⟩:=Hx.out.c4;go_enter Tryz.func138,Tryz.ntmps138;go_wp2_with fail;refine (Hs.out _).mono ?_;rintro e w1 ⟨rfl,ae⟩;clear x0 x1 x2 x3;replace Hx:=kB Hx ae;obtain ⟨x0,x1,x2,x3⟩:=Hx.out.c4;replace Hb:=az Hb ae;clear ae;go_wp2;refine bodyPost_ret (results_tmp rfl _ _ _) rfl ⟨?_,Hb.out⟩;by_cases h : g = 0<;>simp [h]
theorem agO (l : List UInt8) (s : Bool) (m : List UInt8) (e : Int) (V : Int) (bv : Nat) (w : World) (hv : w.cell? ⟨bv,0,none⟩ = some (.int .i64 V)) (hl : l.length <= 9223372036854775807) :
 Calls Tryz.prog 135 #[.agg #[.string (bs l),.bool s,.string (bs m),.int .i64 e],.pointer (some ⟨bv,0,none⟩)] w fun ex w'=>ex = .returned (.bool (!fA l V)) /\ Bw w w':=by
 have hm:=fun W=>Lx l V W hl;obtain ⟨t,ht⟩ : ∃ t,fA l V = t:=⟨_,rfl⟩;rw [ht] at hm ⊢;have Hm:=ah hm;have Hv:=ah hv;clear hm ht hv;obtain ⟨W,aL⟩ : ∃ W,(w.alloc (.cells #[.string (bs l),.bool s,.string (bs m),.int .i64 e] 107)) = W:=⟨_,rfl⟩;have Hb : Hid (Bw w W):=by rw [<- aL];exact zl
 have Hx : Hid (ai W (w.heap.size) 107 [.string (bs l),.bool s,.string (bs m),.int .i64 e]):=by rw [<- aL];exact ai.newAt _ _ _ zm
 obtain ⟨x0,x1,x2,x3⟩:=Hx.out.c4;have hv2:=cell_later Hb.out Hv.out;go_enter Tryz.func135,Tryz.ntmps135;go_wp2_with fail;refine (Hm.out _).mono ?_;rintro e w1 ⟨rfl,ae⟩;clear x0 x1 x2 x3;replace Hx:=kB Hx ae;obtain ⟨x0,x1,x2,x3⟩:=Hx.out.c4;replace Hb:=az Hb ae;clear ae hv2;go_wp2;refine bodyPost_ret (results_tmp rfl _ _ _) rfl ⟨rfl,Hb.out⟩
def jU {α : Type} (p : α -> Bool) : List α -> Nat -> Int
 | [],_=>-1
 | v :: l,k=>if p v then (k : Int) else jU p l (k + 1)
theorem Uo {α : Type} (p : α -> Bool) (l : List α) (k n : Nat) (h : n < l.length) : jU p (l.drop n) k = if p l[n] then (k : Int) else jU p (l.drop (n + 1)) (k + 1):=by rw [List.drop_eq_getElem_cons h];rfl
theorem Un {α : Type} (p : α -> Bool) (l : List α) (k : Nat) : decide (0 <= jU p l k) = l.any p:=by
 induction l generalizing k with
 | nil=>rfl
 | cons v l ih =>
   unfold jU;rw [List.any_cons];by_cases h : p v = true
   . rw [if_pos h,h,Bool.true_or];simp
   . rw [if_neg h,ih];simp [h]
theorem Uq {α : Type} (p : α -> Bool) (l : List α) (k : Nat) : (jU p l k = -1 /\ ∀ x ∈ l,p x = false) \/ ∃ i,∃ h : i < l.length,jU p l k = ((k + i : Nat) : Int) /\ p l[i] = true /\ ∀ j (hj : j < i),p (l[j]'zo) = false:=by
 induction l generalizing k with
 | nil=>exact .inl ⟨rfl,fun x hx=>by cases hx⟩
 | cons v l ih =>
   unfold jU;by_cases h : p v = true
   . rw [if_pos h];exact .inr ⟨0,by simp,rfl,h,fun j hj=>by omega⟩
   . rw [if_neg h];rcases ih (k + 1) with ⟨h1,h2⟩ | ⟨i,h1,h2,h3,h4⟩
     . exact .inl ⟨h1,fun x hx=>by rcases List.mem_cons.1 hx with rfl | hx;simpa using h;exact h2 x hx⟩
     . refine .inr ⟨i + 1,by simpa using h1,by rw [h2];congr 1;omega,by simpa using h3,fun j hj=>?_⟩;cases j with
       | zero=>simpa using h
       | succ j=>simpa using h4 j zo
structure Pv where
 V : Int
 a : Option Addr
 n : Nat
 c : Nat
def ke (p : Pv) : List Value:=[.int .i64 p.V,.slice p.a p.n p.c]
theorem At.anX {w : World} {a : Option Addr} {ps : List Pv} (h : At w a (ps.flatMap ke)) (k : Nat) (hk : k < ps.length) {V : Int} {a' : Option Addr} {n c : Nat} (hx : ps[k] = ⟨V,a',n,c⟩) :
 ∃ b o,a = some ⟨b,o,none⟩ /\ bj w b (o + k * 2) [.int .i64 V,.slice a' n c]:=by
 obtain ⟨b,o,hab,hcs⟩:=h.elem (f:=ke) (sz:=2) (fun _=>rfl) zd k hk;refine ⟨b,o,hab,fun j hj=>?_⟩;have:=hcs j hj;rw [hx] at this;rw [this];unfold ke;rw [List.getElem?_eq_getElem (by simpa using hj)]
theorem Lf (a : Option Addr) (n cap : Nat) (vals : List aK) (gf : Nat) (lb : Array Value) (p : aK -> Bool) (w : World) (hn : vals.length = n) (hl : n <= 1099511627776) (ha : At w a (vals.flatMap aM))
 (eg : ∀ args w,(callFunc gf args).run Tryz.prog w = .ok (.enter gf args) w)
 (hcl : ∀ x ∈ vals,∀ W,Bw w W -> Calls Tryz.prog gf (#[.agg #[.string (bs x.1),.bool x.2.1,.string (bs x.2.2.1),.int .i64 x.2.2.2]] ++ lb) W fun e w'=>e = .returned (.bool (p x)) /\ Bw W w') :
 Calls Tryz.prog 163 #[.slice a n cap,.func (.func gf) #[] lb] w fun e w'=>e = .returned (.int .i64 (jU p vals 0)) /\ Bw w w':=by
 have Hn:=ah hn;have Ha:=ah ha;have gm:=ah hcl;have nH:=ah eg;clear hn ha hcl eg;have Hb : Hid (Bw w w):=Below.refl _ _;go_enter Tryz.func163,Tryz.ntmps163;go_wp2_with fail;go_loopw [5,8] (fun _ i wr=>∃ k : Nat,k <= n /\ i = .int .i64 (k : Int) /\ jU p vals 0 = jU p (vals.drop k) k /\ Bw w wr) (fun _ i _=>n - (intOf i).toNat);case atStart=>exact ⟨0,Nat.zero_le _,rfl,rfl,Hb.out⟩
 case round=>
  clear Hb;obtain ⟨k,hk,rfl,fN,pb⟩:=hrel;have kY:=ah fN;have Hb:=ah pb;clear fN pb;by_cases hlt : k < n
  . have bi : k < vals.length:=by rw [Hn.out];exact hlt
    obtain ⟨l,s,m,e,hx⟩ : ∃ l s m e,vals[k] = (l,s,m,e):=⟨_,_,_,_,rfl⟩;obtain ⟨b,o,hab,cj⟩:=(Ha.out.below Hb.out).term k bi hx;obtain ⟨q0,q1,q2,q3⟩:=cj.w4;have bz:=iH n cap k (k : Int) hab hlt rfl;have hcall:=gm.out _ (List.getElem_mem bi) wr Hb.out;have hstep:=Uo p vals k k bi;rw [<- kY.out] at hstep;rw [hx] at hcall hstep;have fY:=ah hstep;have jG:=ah hcall;have qK:=nH.out;clear cj hab hx hstep hcall;go_wp2_with fail;refine jG.out.mono ?_;rintro e9 w1 ⟨rfl,hb1⟩;replace Hb:=ah (aJ Hb.out hb1);clear hb1 q0 q1 q2 q3 bz qK;obtain ⟨t,ht⟩ : ∃ t,p (l,s,m,e) = t:=⟨_,rfl⟩;rw [ht] at fY ⊢;clear ht;cases t with
    | true =>go_wp2;refine bodyPost_ret (results_tmp rfl _ _ _) rfl ⟨?_,Hb.out⟩;have h:=fY.out;rw [if_pos (by trivial)] at h;rw [h];rfl
    | false =>
      go_wp2;go_roundw;case rel=>exact ⟨k + 1,by omega,by go_num,by have h:=fY.out;rw [if_neg zd] at h;exact h,Hb.out⟩
      case measure=>simp [intOf];omega
  . obtain rfl : k = n:=by omega
    go_wp2;refine bodyPost_ret (results_tmp rfl _ _ _) rfl ⟨?_,Hb.out⟩;have h:=kY.out;rw [List.drop_of_length_le (by rw [Hn.out];exact Nat.le_refl _)] at h;rw [h];rfl
theorem acE (a : Option Addr) (n cap : Nat) (vals : List aK) (gf : Nat) (lb : Array Value) (p : aK -> Bool) (w : World) (hn : vals.length = n) (hl : n <= 1099511627776) (ha : At w a (vals.flatMap aM))
 (eg : ∀ args w,(callFunc gf args).run Tryz.prog w = .ok (.enter gf args) w)
 (hcl : ∀ x ∈ vals,∀ W,Bw w W -> Calls Tryz.prog gf (#[.agg #[.string (bs x.1),.bool x.2.1,.string (bs x.2.2.1),.int .i64 x.2.2.2]] ++ lb) W fun e w'=>e = .returned (.bool (p x)) /\ Bw W w') :
 Calls Tryz.prog 134 #[.slice a n cap,.func (.func gf) #[] lb] w fun e w'=>e = .returned (.bool (vals.any p)) /\ Bw w w':=by
 have h1:=Lf a n cap vals gf lb p w hn hl ha eg hcl;rw [<- Un p vals 0];generalize jU p vals 0 = i at *;have H1:=ah h1;clear h1 hcl eg ha hn;have Hb : Hid (Bw w w):=Below.refl _ _;go_enter Tryz.func134,Tryz.ntmps134;go_wp2_with fail;refine (H1.out).mono ?_;rintro e w1 ⟨rfl,ae⟩;replace Hb:=az Hb ae;clear ae;go_wp2;refine bodyPost_ret (v:=.bool (decide (0 <= i))) (by simp [results,Tryz.results134,go_sem]) rfl ⟨rfl,?_⟩;(repeat first | exact Hb.out | (refine Below.setCell ?_ (by have:=Hb.out.size;first | (dsimp only;omega) | (show _ <= _;omega) | (simp<;>omega)) _) | (refine Below.alloc ?_ zt _) | refine Below.drew ?_)
theorem afz (a : Option Addr) (n cap : Nat) (vals : List Pv) (gf : Nat) (lb : Array Value) (p : Pv -> Bool) (w : World) (hn : vals.length = n) (hl : n <= 1099511627776) (ha : At w a (vals.flatMap ke))
 (eg : ∀ args w,(callFunc gf args).run Tryz.prog w = .ok (.enter gf args) w)
 (hcl : ∀ x ∈ vals,∀ W,Bw w W -> Calls Tryz.prog gf (#[.agg #[.int .i64 x.V,.slice x.a x.n x.c]] ++ lb) W fun e w'=>e = .returned (.bool (p x)) /\ Bw W w') :
 Calls Tryz.prog 164 #[.slice a n cap,.func (.func gf) #[] lb] w fun e w'=>e = .returned (.int .i64 (jU p vals 0)) /\ Bw w w':=by
 have Hn:=ah hn;have Ha:=ah ha;have gm:=ah hcl;have nH:=ah eg;clear hn ha hcl eg;have Hb : Hid (Bw w w):=Below.refl _ _;go_enter Tryz.func164,Tryz.ntmps164;go_wp2_with fail;go_loopw [5,8] (fun _ i wr=>∃ k : Nat,k <= n /\ i = .int .i64 (k : Int) /\ jU p vals 0 = jU p (vals.drop k) k /\ Bw w wr) (fun _ i _=>n - (intOf i).toNat);case atStart=>exact ⟨0,Nat.zero_le _,rfl,rfl,Hb.out⟩
 case round=>
  clear Hb;obtain ⟨k,hk,rfl,fN,pb⟩:=hrel;have kY:=ah fN;have Hb:=ah pb;clear fN pb;by_cases hlt : k < n
  . have bi : k < vals.length:=by rw [Hn.out];exact hlt
    obtain ⟨V,a1,n1,c1,hx⟩ : ∃ V a1 n1 c1,vals[k] = ⟨V,a1,n1,c1⟩:=⟨_,_,_,_,rfl⟩;obtain ⟨b,o,hab,cj⟩:=(Ha.out.below Hb.out).anX k bi hx;obtain ⟨q0,q1⟩:=cj.w2;have bz:=vN n cap k (k : Int) hab hlt rfl;have hcall:=gm.out _ (List.getElem_mem bi) wr Hb.out;have hstep:=Uo p vals k k bi;rw [<- kY.out] at hstep;rw [hx] at hcall hstep;have fY:=ah hstep;have jG:=ah hcall;have qK:=nH.out;clear cj hab hx hstep hcall;go_wp2_with fail;refine jG.out.mono ?_;rintro e9 w1 ⟨rfl,hb1⟩;replace Hb:=ah (aJ Hb.out hb1);clear hb1 q0 q1 bz qK;obtain ⟨t,ht⟩ : ∃ t,p ⟨V,a1,n1,c1⟩ = t:=⟨_,rfl⟩;rw [ht] at fY ⊢;clear ht;cases t with
    | true =>go_wp2;refine bodyPost_ret (results_tmp rfl _ _ _) rfl ⟨?_,Hb.out⟩;have h:=fY.out;rw [if_pos (by trivial)] at h;rw [h];rfl
    | false =>
      go_wp2;go_roundw;case rel=>exact ⟨k + 1,by omega,by go_num,by have h:=fY.out;rw [if_neg zd] at h;exact h,Hb.out⟩
      case measure=>simp [intOf];omega
  . obtain rfl : k = n:=by omega
    go_wp2;refine bodyPost_ret (results_tmp rfl _ _ _) rfl ⟨?_,Hb.out⟩;have h:=kY.out;rw [List.drop_of_length_le (by rw [Hn.out];exact Nat.le_refl _)] at h;rw [h];rfl
theorem acF (a : Option Addr) (n cap : Nat) (vals : List Pv) (gf : Nat) (lb : Array Value) (p : Pv -> Bool) (w : World) (hn : vals.length = n) (hl : n <= 1099511627776) (ha : At w a (vals.flatMap ke))
 (eg : ∀ args w,(callFunc gf args).run Tryz.prog w = .ok (.enter gf args) w)
 (hcl : ∀ x ∈ vals,∀ W,Bw w W -> Calls Tryz.prog gf (#[.agg #[.int .i64 x.V,.slice x.a x.n x.c]] ++ lb) W fun e w'=>e = .returned (.bool (p x)) /\ Bw W w') :
 Calls Tryz.prog 139 #[.slice a n cap,.func (.func gf) #[] lb] w fun e w'=>e = .returned (.bool (vals.any p)) /\ Bw w w':=by
 have h1:=afz a n cap vals gf lb p w hn hl ha eg hcl;rw [<- Un p vals 0];generalize jU p vals 0 = i at *;have H1:=ah h1;clear h1 hcl eg ha hn;have Hb : Hid (Bw w w):=Below.refl _ _;go_enter Tryz.func139,Tryz.ntmps139;go_wp2_with fail;refine (H1.out).mono ?_;rintro e w1 ⟨rfl,ae⟩;replace Hb:=az Hb ae;clear ae;go_wp2;refine bodyPost_ret (v:=.bool (decide (0 <= i))) (by simp [results,Tryz.results139,go_sem]) rfl ⟨rfl,?_⟩;(repeat first | exact Hb.out | (refine Below.setCell ?_ (by have:=Hb.out.size;first | (dsimp only;omega) | (show _ <= _;omega) | (simp<;>omega)) _) | (refine Below.alloc ?_ zt _) | refine Below.drew ?_)
end Go.Proofs.YtdaadlblknpipaaGreatDoor
