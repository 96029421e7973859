/- Small facts that many walks share: numbers in memory,windows,own rows. -/
import Derived.Test.YtdaadlblknpipaaGreatDoorZ9
import Derived.Test.YtdaadlblknpipaaGreatDoorZ11
import Derived.Test.YtdaadlblknpipaaGreatDoorZ7
import Derived.Carry
import Derived.Maps.AppendAt
import Derived.Maps.OwnIn
import Derived.Maps.Own
import Derived.Maps.Views
import Derived.Maps.Keyed
import Derived.Maps.OwnSet
import Derived.Shelf.Abstract
import Derived.Shelf.RegionOpen
import Derived.OwnWalkIn
import Derived.TacticsInMore
import Derived.LoopNIn
import Derived.LoopIn
import Derived.Lib.BufferWrite
import Derived.Deep.WholeRow
import Derived.Test.YtdaadlblknpipaaGreatDoorZ5
set_option linter.unusedVariables false
set_option linter.unusedSimpArgs false
set_option maxRecDepth 100000
set_option maxHeartbeats 16000000
namespace Go.Proofs.YtdaadlblknpipaaGreatDoor
open Go.RowKit
attribute [local go_sem ↓] Go.wp_at_zero Go.wp_at_succ
def hp (k : Nat) : Dyadic:=Dyadic.ofIntWithPrec 1 k
theorem ae2 (k : Nat) : hp (k + 1) + hp (k + 1) = hp k:=by unfold hp;rw [tV];exact pR 1 1 k
theorem ae3 : hp 0 = 1:=rfl
theorem EG : hp 1 + hp 1 = 1:=by rw [ae2 0,ae3]
theorem Wh (D : Dyadic) (k : Nat) : aB (ar (dN D),nt (dN D).natAbs,dE D + -(k : Int)) = D * hp k:=by
 have h:=bU D;unfold aB canon at h;unfold aB hp;simp only [eI] at h ⊢;conv=>rhs;rw [<- h]
 rw [tW,Int.mul_one];congr 1;omega
theorem ae1 (k : Nat) : Sm (k + 1) (hp k):=by
 refine ⟨2,?_,?_⟩
 . unfold hp;rw [<- pR 1 1 k];rfl
 . have : 2 ^ 2 <= 2 ^ (2 * (k + 1)):=Nat.pow_le_pow_right zd zo;omega
theorem Tryz.anG : (Tryz.prog.info? 30).map (fun i=>(i.zero,i.size,i.bytes)) = some (some (.agg #[.bool false,.string (bs []),.int .i64 0]),3,32):=by kernel_rfl
def dC (ds : List Dyadic) : List Value:=ds.flatMap fun d=>bF (canon d)
theorem acw (ds : List Dyadic) : (dC ds).length = ds.length * 3:=jq _ 3 (fun _=>rfl) ds
theorem xb (a b : List Dyadic) : dC (a ++ b) = dC a ++ dC b:=by unfold dC;rw [List.flatMap_append]
theorem ahC {Y : Nat -> Prop} {W W' : World} {base : Nat} {e : TypeId} {size : Nat} {v : Value} {n : Nat} {xs : List Value} (h : W.ownsRow base e size v n xs) (hc : Chg Y W W') (hy : ∀ b,v.ownBlock = some b -> ¬ Y b) : W'.ownsRow base e size v n xs:=by
 refine ⟨h.1,?_⟩;rcases h.2 with h1 | ⟨g,cap,cur,rfl,hb,hg,h2,h3,h4,h5⟩
 . exact .inl h1
 . exact .inr ⟨g,cap,cur,rfl,hb,(hc.block g (Array.getElem?_eq_some_iff.1 hg).1 (hy g rfl)).trans hg,h2,h3,h4,h5⟩
theorem dG {W : World} {base : Nat} {e : TypeId} {size : Nat} {v : Value} {n : Nat} {xs : List Value} (h : W.ownsRow base e size v n xs) : ∃ a cap,v = .slice a n cap /\ At W a xs /\ ∀ b o,a = some ⟨b,o,none⟩ -> base <= b:=by
 rcases h.2 with ⟨rfl,rfl⟩ | ⟨g,cap,cur,rfl,hb,hg,h2,h3,h4,h5⟩
 . refine ⟨none,0,rfl,.inl ?_,fun b o e=>by cases e⟩;have:=h.1;simpa using this
 . refine ⟨_,cap,rfl,.inr ⟨g,0,rfl,fun j hj=>?_⟩,fun b o e=>by cases e;exact hb⟩;have:=h.cells (g:=g) rfl j (xs[j]) (by simp [hj]);rw [Nat.zero_add];have e2 : ((⟨g,0,none⟩ : Addr).add j) = ⟨g,j,none⟩:=by simp [Addr.add];omega
   rw [e2] at this;rw [this];simp [hj]
def bo (w : World) (b o : Nat) (cs : List Value) : Prop:=∀ j (h : j < cs.length),w.cell? ⟨b,o + j,none⟩ = some cs[j]
theorem bo.cell {w : World} {b o : Nat} {cs : List Value} (h : bo w b o cs) (j : Nat) (hj : j < cs.length) : w.cell? ⟨b,o + j,none⟩ = some cs[j]:=h j hj
theorem bo.w1 {w : World} {b o : Nat} {x0 : Value} (h : bo w b o [x0]) : w.cell? ⟨b,o,none⟩ = some x0:=h 0 zm
theorem bo.w2 {w : World} {b o : Nat} {x0 x1 : Value} (h : bo w b o [x0,x1]) : w.cell? ⟨b,o,none⟩ = some x0 /\ w.cell? ⟨b,o + 1,none⟩ = some x1:=⟨h 0 zm,h 1 zm⟩
theorem bo.w3 {w : World} {b o : Nat} {x0 x1 x2 : Value} (h : bo w b o [x0,x1,x2]) : w.cell? ⟨b,o,none⟩ = some x0 /\ w.cell? ⟨b,o + 1,none⟩ = some x1 /\ w.cell? ⟨b,o + 2,none⟩ = some x2:=⟨h 0 zm,h 1 zm,h 2 zm⟩
theorem bo.w4 {w : World} {b o : Nat} {x0 x1 x2 x3 : Value} (h : bo w b o [x0,x1,x2,x3]) : w.cell? ⟨b,o,none⟩ = some x0 /\ w.cell? ⟨b,o + 1,none⟩ = some x1 /\ w.cell? ⟨b,o + 2,none⟩ = some x2 /\ w.cell? ⟨b,o + 3,none⟩ = some x3:=⟨h 0 zm,h 1 zm,h 2 zm,h 3 zm⟩
theorem bo.below {w w' : World} {b o : Nat} {cs : List Value} (h : bo w b o cs) (hb : Bw w w') : bo w' b o cs:=fun j hj=>cell_later hb (h j hj)
theorem kW {w w' : World} {b o : Nat} {cs : List Value} (h : Hid (bo w b o cs)) (k : Bw w w') : Hid (bo w' b o cs):=h.out.below k
theorem Qa (ds : List Dyadic) (i : Nat) (D : Dyadic) : (((dC ds).set (i * 3) (.bool (ar (dN D)))).set (i * 3 + 1) (.string (bs (nt (dN D).natAbs)))).set (i * 3 + 2) (.int .i64 (dE D)) = dC (ds.set i D):=by
 induction ds generalizing i with
 | nil=>simp [dC]
 | cons x ds ih =>
   have e : ∀ y : Dyadic,∀ zs,dC (y :: zs) = .bool (ar (dN y)) :: .string (bs (nt (dN y).natAbs)) :: .int .i64 (dE y) :: dC zs:=fun y zs=>rfl;cases i with
   | zero=>rw [e];rfl
   | succ i =>rw [List.set_cons_succ,e,e,<- ih i,show (i + 1) * 3 = i * 3 + 1 + 1 + 1 by omega];rfl
theorem sB (ds : List Dyadic) : dC ds = (ds.map canon).flatMap bF:=by unfold dC;rw [List.flatMap_map]
theorem fO {P : Program} {fn : Func} {R : Ending -> World -> Prop} {e : Exit} {a : Act} {W : World} (S : World -> Prop) (hS : S W) (h : ∀ W',S W' -> bodyPost P fn R e a W') : bodyPost P fn R e a W:=h W hS
theorem ai.not_row {W : World} {B : Nat} {t e : TypeId} {cs : List Value} (h : ai W B t cs) (hte : t ≠ e) {base size k : Nat} {v : Value} {xs : List Value} (hr : W.ownsRow base e size v k xs) : some B ≠ v.ownBlock:=by
 rcases hr.2 with ⟨rfl,_⟩ | ⟨g,cap,cur,rfl,_,hgb,_⟩
 . simp [Value.ownBlock]
 . intro e';simp only [Value.ownBlock,Option.some.injEq] at e';subst e';have:=h.symm.trans hgb;simp at this;exact hte this.2
theorem ai.row {W W' : World} {B : Nat} {t e : TypeId} {cs : List Value} (h : ai W B t cs) (hte : t ≠ e) {base size k : Nat} {v : Value} {xs : List Value} (hr : W.ownsRow base e size v k xs) (hg : W.grownBy W' v.ownBlock) : ai W' B t cs:=
 h.grown hg (h.not_row hte hr)
theorem ownsRow_below {W W' : World} {base : Nat} {e : TypeId} {size : Nat} {v : Value} {n : Nat} {xs : List Value} (h : W.ownsRow base e size v n xs) (hb : Bw W W') : W'.ownsRow base e size v n xs:=by refine ahC (Y:=fun _=>False) h (Chg.of_below hb) (fun _ _ h=>h)
theorem cP {W : World} {base : Nat} {e : TypeId} {size : Nat} {v : Value} {n : Nat} {xs : List Value} (h : W.ownsRow base e size v n xs) : ∀ k,v.ownBlock = some k -> base <= k:=fun k hk=>(h.lt k hk).1
theorem iK {w : World} {b o : Nat} {x y z : Value} (h0 : w.cell? ⟨b,o,none⟩ = some x) (h1 : w.cell? ⟨b,o + 1,none⟩ = some y) (h2 : w.cell? ⟨b,o + 2,none⟩ = some z) : bo w b o [x,y,z]:=by
 intro j hj;rcases j with _ | _ | _ | j
 . exact h0
 . exact h1
 . exact h2
 . simp at hj;omega
theorem gv {W : World} {b : Nat} {t : TypeId} {cs : List Value} (h : ai W b t cs) : ∀ j u,cs[j]? = some u -> W.cell? ((⟨b,0,none⟩ : Addr).add j) = some u:=by
 intro j u hj;have e2 : ((⟨b,0,none⟩ : Addr).add j) = ⟨b,j,none⟩:=by simp [Addr.add];omega
 rw [e2,h.cell];exact hj
theorem At.num {W : World} {a : Option Addr} {cJ : List Raw} (h : At W a (cJ.flatMap bF)) (k : Nat) (hk : k < cJ.length) {s : Bool} {m : List UInt8} {e : Int} (hx : cJ[k] = (s,m,e)) :
 ∃ b o,a = some ⟨b,o,none⟩ /\ W.cell? ⟨b,o + k * 3,none⟩ = some (.bool s) /\ W.cell? ⟨b,o + k * 3 + 1,none⟩ = some (.string (bs m)) /\ W.cell? ⟨b,o + k * 3 + 2,none⟩ = some (.int .i64 e):=by
 obtain ⟨b,o,ha,hc⟩:=h.elem (f:=bF) (sz:=3) (fun _=>rfl) zd k hk;rw [hx] at hc;exact ⟨b,o,ha,by simpa [bF] using hc 0 zd,by simpa [bF] using hc 1 zd,by simpa [bF] using hc 2 zd⟩
theorem QA {B : Nat} {cs : List Dyadic} (h : ∀ c ∈ cs,Sm B c) (k : Nat) : Sm B (cs.getD k 0):=by
 by_cases hk : k < cs.length
 . have : cs.getD k 0 = cs[k]:=by simp [hk]
   rw [this];exact h _ (List.getElem_mem hk)
 . have : cs.getD k 0 = 0:=by simp [List.getD_eq_getElem?_getD,List.getElem?_eq_none (by omega : cs.length <= k)]
   rw [this];exact Sm.zero B
def idxFrom (p : Value -> Bool) : List Value -> Nat -> Int
 | [],_=>-1
 | v :: l,k=>if p v then (k : Int) else idxFrom p l (k + 1)
theorem Lf (p : Value -> Bool) (l : List Value) (k n : Nat) (h : n < l.length) : idxFrom p (l.drop n) k = if p l[n] then (k : Int) else idxFrom p (l.drop (n + 1)) (k + 1):=by rw [List.drop_eq_getElem_cons h];rfl
theorem Uj (p : Value -> Bool) (l : List Value) (k : Nat) : decide (0 <= idxFrom p l k) = l.any p:=by
 induction l generalizing k with
 | nil=>rfl
 | cons v l ih =>
   unfold idxFrom;rw [List.any_cons];by_cases h : p v = true
   . rw [if_pos h,h,Bool.true_or];simp
   . rw [if_neg h,ih];simp [h]
theorem afr (a : Option Addr) (n cap : Nat) (vals : List Value) (gf : Nat) (lb : Array Value) (p : Value -> Bool) (w : World) (hn : vals.length = n) (hl : n <= 1099511627776) (ha : At w a vals)
 (eg : ∀ args w,(callFunc gf args).run Tryz.prog w = .ok (.enter gf args) w)
 (hcl : ∀ v ∈ vals,∀ W,Bw w W -> Calls Tryz.prog gf (#[v] ++ lb) W fun e w'=>e = .returned (.bool (p v)) /\ Bw W w') :
 Calls Tryz.prog 123 #[.slice a n cap,.func (.func gf) #[] lb] w fun e w'=>e = .returned (.int .i64 (idxFrom p vals 0)) /\ Bw w w':=by
 have Hn:=ah hn;have Ha:=ah ha;have gq:=ah hcl;have nD:=ah eg;clear hn ha hcl eg;have Hb : Hid (Bw w w):=Below.refl _ _;go_enter Tryz.func123,Tryz.ntmps123;go_wp2_with fail;go_loopw [5,8] (fun _ i wr=>∃ k : Nat,k <= n /\ i = .int .i64 (k : Int) /\ idxFrom p vals 0 = idxFrom p (vals.drop k) k /\ Bw w wr) (fun _ i _=>n - (intOf i).toNat);case atStart=>exact ⟨0,Nat.zero_le _,rfl,rfl,Hb.out⟩
 case round=>
  clear Hb;obtain ⟨k,hk,rfl,fQ,pb⟩:=hrel;have kV:=ah fQ;have Hb:=ah pb;clear fQ pb;by_cases hlt : k < n
  . have bi : k < vals.length:=by rw [Hn.out];exact hlt
    obtain ⟨b,o,hab,hcs⟩:=(Ha.out.below Hb.out).get (by intro h;rw [h] at bi;simp at bi);obtain ⟨v,hv⟩ : ∃ v,vals[k] = v:=⟨_,rfl⟩;have hc0 : wr.cell? ⟨b,o + k,none⟩ = some v:=by rw [hcs k bi,List.getElem?_eq_getElem bi,hv]
    have bD:=kI n cap k (k : Int) hab hlt rfl;rw [Nat.mul_one] at bD;have hcall:=gq.out v (by rw [<- hv];exact List.getElem_mem bi) wr Hb.out;have hstep:=Lf p vals k k bi;rw [hv,<- kV.out] at hstep;have gg:=ah hstep;have jI:=ah hcall;have qC:=nD.out;clear hcs hab hv hstep hcall;go_wp2_with fail;refine jI.out.mono ?_;rintro e w1 ⟨rfl,hb1⟩;replace Hb:=ah (aI Hb.out hb1);clear hb1 hc0 bD qC;obtain ⟨t,ht⟩ : ∃ t,p v = t:=⟨_,rfl⟩;rw [ht] at gg ⊢;clear ht;cases t with
    | true =>go_wp2;refine bodyPost_ret (results_tmp rfl _ _ _) rfl ⟨?_,Hb.out⟩;have h:=gg.out;rw [if_pos (by trivial)] at h;rw [h];rfl
    | false =>
      go_wp2;go_roundw;case rel=>exact ⟨k + 1,by omega,by go_num,by have h:=gg.out;rw [if_neg zd] at h;exact h,Hb.out⟩
      case measure=>simp [intOf];omega
  . obtain rfl : k = n:=by omega
    go_wp2;refine bodyPost_ret (results_tmp rfl _ _ _) rfl ⟨?_,Hb.out⟩;have h:=kV.out;rw [List.drop_of_length_le (by rw [Hn.out];exact Nat.le_refl _)] at h;rw [h];rfl
theorem ack (a : Option Addr) (n cap : Nat) (vals : List Value) (gf : Nat) (lb : Array Value) (p : Value -> Bool) (w : World) (hn : vals.length = n) (hl : n <= 1099511627776) (ha : At w a vals)
 (eg : ∀ args w,(callFunc gf args).run Tryz.prog w = .ok (.enter gf args) w)
 (hcl : ∀ v ∈ vals,∀ W,Bw w W -> Calls Tryz.prog gf (#[v] ++ lb) W fun e w'=>e = .returned (.bool (p v)) /\ Bw W w') :
 Calls Tryz.prog 85 #[.slice a n cap,.func (.func gf) #[] lb] w fun e w'=>e = .returned (.bool (vals.any p)) /\ Bw w w':=by
 have h1:=afr a n cap vals gf lb p w hn hl ha eg hcl;rw [<- Uj p vals 0];generalize idxFrom p vals 0 = i at *;have H1:=ah h1;clear h1 hcl eg ha hn;have Hb : Hid (Bw w w):=Below.refl _ _;go_enter Tryz.func85,Tryz.ntmps85;go_wp2_with fail;refine (H1.out).mono ?_;rintro e w1 ⟨rfl,ae⟩;replace Hb:=au Hb ae;clear ae;go_wp2;refine bodyPost_ret (v:=.bool (decide (0 <= i))) (by simp [results,Tryz.results85,go_sem]) rfl ⟨rfl,?_⟩;(repeat first | exact Hb.out | (refine Below.setCell ?_ (by have:=Hb.out.size;first | (dsimp only;omega) | (show _ <= _;omega) | (simp<;>omega)) _) | (refine Below.alloc ?_ zt _) | refine Below.drew ?_)
theorem afq (a : Option Addr) (n cap : Nat) (vals : List Value) (gf : Nat) (lb : Array Value) (p : Value -> Bool) (w : World) (hn : vals.length = n) (hl : n <= 1099511627776) (ha : At w a vals)
 (eg : ∀ args w,(callFunc gf args).run Tryz.prog w = .ok (.enter gf args) w)
 (hcl : ∀ v ∈ vals,∀ W,Bw w W -> Calls Tryz.prog gf (#[v] ++ lb) W fun e w'=>e = .returned (.bool (p v)) /\ Bw W w') :
 Calls Tryz.prog 155 #[.slice a n cap,.func (.func gf) #[] lb] w fun e w'=>e = .returned (.int .i64 (idxFrom p vals 0)) /\ Bw w w':=by
 have Hn:=ah hn;have Ha:=ah ha;have gq:=ah hcl;have nD:=ah eg;clear hn ha hcl eg;have Hb : Hid (Bw w w):=Below.refl _ _;go_enter Tryz.func155,Tryz.ntmps155;go_wp2_with fail;go_loopw [5,8] (fun _ i wr=>∃ k : Nat,k <= n /\ i = .int .i64 (k : Int) /\ idxFrom p vals 0 = idxFrom p (vals.drop k) k /\ Bw w wr) (fun _ i _=>n - (intOf i).toNat);case atStart=>exact ⟨0,Nat.zero_le _,rfl,rfl,Hb.out⟩
 case round=>
  clear Hb;obtain ⟨k,hk,rfl,fQ,pb⟩:=hrel;have kV:=ah fQ;have Hb:=ah pb;clear fQ pb;by_cases hlt : k < n
  . have bi : k < vals.length:=by rw [Hn.out];exact hlt
    obtain ⟨b,o,hab,hcs⟩:=(Ha.out.below Hb.out).get (by intro h;rw [h] at bi;simp at bi);obtain ⟨v,hv⟩ : ∃ v,vals[k] = v:=⟨_,rfl⟩;have hc0 : wr.cell? ⟨b,o + k,none⟩ = some v:=by rw [hcs k bi,List.getElem?_eq_getElem bi,hv]
    have bD:=vD n cap k (k : Int) hab hlt rfl;rw [Nat.mul_one] at bD;have hcall:=gq.out v (by rw [<- hv];exact List.getElem_mem bi) wr Hb.out;have hstep:=Lf p vals k k bi;rw [hv,<- kV.out] at hstep;have gg:=ah hstep;have jI:=ah hcall;have qC:=nD.out;clear hcs hab hv hstep hcall;go_wp2_with fail;refine jI.out.mono ?_;rintro e w1 ⟨rfl,hb1⟩;replace Hb:=ah (aI Hb.out hb1);clear hb1 hc0 bD qC;obtain ⟨t,ht⟩ : ∃ t,p v = t:=⟨_,rfl⟩;rw [ht] at gg ⊢;clear ht;cases t with
    | true =>go_wp2;refine bodyPost_ret (results_tmp rfl _ _ _) rfl ⟨?_,Hb.out⟩;have h:=gg.out;rw [if_pos (by trivial)] at h;rw [h];rfl
    | false =>
      go_wp2;go_roundw;case rel=>exact ⟨k + 1,by omega,by go_num,by have h:=gg.out;rw [if_neg zd] at h;exact h,Hb.out⟩
      case measure=>simp [intOf];omega
  . obtain rfl : k = n:=by omega
    go_wp2;refine bodyPost_ret (results_tmp rfl _ _ _) rfl ⟨?_,Hb.out⟩;have h:=kV.out;rw [List.drop_of_length_le (by rw [Hn.out];exact Nat.le_refl _)] at h;rw [h];rfl
theorem acj (a : Option Addr) (n cap : Nat) (vals : List Value) (gf : Nat) (lb : Array Value) (p : Value -> Bool) (w : World) (hn : vals.length = n) (hl : n <= 1099511627776) (ha : At w a vals)
 (eg : ∀ args w,(callFunc gf args).run Tryz.prog w = .ok (.enter gf args) w)
 (hcl : ∀ v ∈ vals,∀ W,Bw w W -> Calls Tryz.prog gf (#[v] ++ lb) W fun e w'=>e = .returned (.bool (p v)) /\ Bw W w') :
 Calls Tryz.prog 124 #[.slice a n cap,.func (.func gf) #[] lb] w fun e w'=>e = .returned (.bool (vals.any p)) /\ Bw w w':=by
 have h1:=afq a n cap vals gf lb p w hn hl ha eg hcl;rw [<- Uj p vals 0];generalize idxFrom p vals 0 = i at *;have H1:=ah h1;clear h1 hcl eg ha hn;have Hb : Hid (Bw w w):=Below.refl _ _;go_enter Tryz.func124,Tryz.ntmps124;go_wp2_with fail;refine (H1.out).mono ?_;rintro e w1 ⟨rfl,ae⟩;replace Hb:=au Hb ae;clear ae;go_wp2;refine bodyPost_ret (v:=.bool (decide (0 <= i))) (by simp [results,Tryz.results124,go_sem]) rfl ⟨rfl,?_⟩;(repeat first | exact Hb.out | (refine Below.setCell ?_ (by have:=Hb.out.size;first | (dsimp only;omega) | (show _ <= _;omega) | (simp<;>omega)) _) | (refine Below.alloc ?_ zt _) | refine Below.drew ?_)
theorem afp (a : Option Addr) (n cap : Nat) (vals : List Value) (gf : Nat) (lb : Array Value) (p : Value -> Bool) (w : World) (hn : vals.length = n) (hl : n <= 1099511627776) (ha : At w a vals)
 (eg : ∀ args w,(callFunc gf args).run Tryz.prog w = .ok (.enter gf args) w)
 (hcl : ∀ v ∈ vals,∀ W,Bw w W -> Calls Tryz.prog gf (#[v] ++ lb) W fun e w'=>e = .returned (.bool (p v)) /\ Bw W w') :
 Calls Tryz.prog 126 #[.slice a n cap,.func (.func gf) #[] lb] w fun e w'=>e = .returned (.int .i64 (idxFrom p vals 0)) /\ Bw w w':=by
 have Hn:=ah hn;have Ha:=ah ha;have gq:=ah hcl;have nD:=ah eg;clear hn ha hcl eg;have Hb : Hid (Bw w w):=Below.refl _ _;go_enter Tryz.func126,Tryz.ntmps126;go_wp2_with fail;go_loopw [5,8] (fun _ i wr=>∃ k : Nat,k <= n /\ i = .int .i64 (k : Int) /\ idxFrom p vals 0 = idxFrom p (vals.drop k) k /\ Bw w wr) (fun _ i _=>n - (intOf i).toNat);case atStart=>exact ⟨0,Nat.zero_le _,rfl,rfl,Hb.out⟩
 case round=>
  clear Hb;obtain ⟨k,hk,rfl,fQ,pb⟩:=hrel;have kV:=ah fQ;have Hb:=ah pb;clear fQ pb;by_cases hlt : k < n
  . have bi : k < vals.length:=by rw [Hn.out];exact hlt
    obtain ⟨b,o,hab,hcs⟩:=(Ha.out.below Hb.out).get (by intro h;rw [h] at bi;simp at bi);obtain ⟨v,hv⟩ : ∃ v,vals[k] = v:=⟨_,rfl⟩;have hc0 : wr.cell? ⟨b,o + k,none⟩ = some v:=by rw [hcs k bi,List.getElem?_eq_getElem bi,hv]
    have bD:=xI n cap k (k : Int) hab hlt rfl;rw [Nat.mul_one] at bD;have hcall:=gq.out v (by rw [<- hv];exact List.getElem_mem bi) wr Hb.out;have hstep:=Lf p vals k k bi;rw [hv,<- kV.out] at hstep;have gg:=ah hstep;have jI:=ah hcall;have qC:=nD.out;clear hcs hab hv hstep hcall;go_wp2_with fail;refine jI.out.mono ?_;rintro e w1 ⟨rfl,hb1⟩;replace Hb:=ah (aI Hb.out hb1);clear hb1 hc0 bD qC;obtain ⟨t,ht⟩ : ∃ t,p v = t:=⟨_,rfl⟩;rw [ht] at gg ⊢;clear ht;cases t with
    | true =>go_wp2;refine bodyPost_ret (results_tmp rfl _ _ _) rfl ⟨?_,Hb.out⟩;have h:=gg.out;rw [if_pos (by trivial)] at h;rw [h];rfl
    | false =>
      go_wp2;go_roundw;case rel=>exact ⟨k + 1,by omega,by go_num,by have h:=gg.out;rw [if_neg zd] at h;exact h,Hb.out⟩
      case measure=>simp [intOf];omega
  . obtain rfl : k = n:=by omega
    go_wp2;refine bodyPost_ret (results_tmp rfl _ _ _) rfl ⟨?_,Hb.out⟩;have h:=kV.out;rw [List.drop_of_length_le (by rw [Hn.out];exact Nat.le_refl _)] at h;rw [h];rfl
def Pt (w : World) (v : Value) (cJ : List Raw) : Prop:=∃ a cap,v = .slice a cJ.length cap /\ At w a (cJ.flatMap bF)
theorem Pt.below {w w' : World} {v : Value} {cJ : List Raw} (h : Pt w v cJ) (hb : Bw w w') : Pt w' v cJ:=
 let ⟨a,cap,hv,ha⟩:=h;⟨a,cap,hv,ha.below hb⟩
def aW (w : World) (a : Option Addr) (rows : List (List Raw)) : Prop:=∃ vals : List Value,vals.length = rows.length /\ At w a vals /\ ∀ i (h : i < rows.length) (h' : i < vals.length),Pt w vals[i] rows[i]
theorem aW.below {w w' : World} {a : Option Addr} {rows : List (List Raw)} (h : aW w a rows) (hb : Bw w w') : aW w' a rows:=
 let ⟨vals,hl,ha,hp⟩:=h;⟨vals,hl,ha.below hb,fun i h1 h2=>(hp i h1 h2).below hb⟩
theorem kL {w w' : World} {a : Option Addr} {rows : List (List Raw)} (h : Hid (aW w a rows)) (k : Bw w w') : Hid (aW w' a rows):=h.out.below k
theorem aW.row {w : World} {a : Option Addr} {rows : List (List Raw)} (h : aW w a rows) (k : Nat) (hk : k < rows.length) :
 ∃ b o a' cap',a = some ⟨b,o,none⟩ /\ w.cell? ⟨b,o + k,none⟩ = some (.slice a' rows[k].length cap') /\ At w a' (rows[k].flatMap bF):=by
 obtain ⟨vals,hl,ha,hp⟩:=h;have hk2 : k < vals.length:=by rw [hl];exact hk
 obtain ⟨b,o,hab,hcs⟩:=ha.get (by intro h0;rw [h0] at hk2;simp at hk2);obtain ⟨a',cap',hv,hat⟩:=hp k hk hk2;exact ⟨b,o,a',cap',hab,by rw [hcs k hk2,List.getElem?_eq_getElem hk2,hv],hat⟩
def tC : Value -> Int
 | .slice _ n _=>n
 | _=>0
def vS (N : Int) (v : Value) : Bool:=decide (tC v ≠ N)
theorem Pr {w : World} {vals : List Value} {rows : List (List Raw)} (N : Int) (hl : vals.length = rows.length) (hp : ∀ i (h : i < rows.length) (h' : i < vals.length),Pt w vals[i] rows[i]) :
 vals.any (vS N) = rows.any fun r=>decide ((r.length : Int) ≠ N):=by
 induction vals generalizing rows with
 | nil =>have : rows = []:=List.length_eq_zero_iff.1 hl.symm;subst this;rfl
 | cons v vs ih =>
   match rows,hl with
   | r :: rs,hl =>have h0:=hp 0 zm zm;obtain ⟨a,cap,hv,_⟩:=h0;have hv' : v = .slice a r.length cap:=hv;have:=ih (rows:=rs) (by simpa using hl) (fun i h h'=>hp (i + 1) zi zi);rw [List.any_cons,List.any_cons,this];subst hv';rfl
theorem ajR (bn : Nat) (N : Int) (a : Option Addr) (n cap : Nat) (w : World) (hN : w.cell? ⟨bn,0,none⟩ = some (.int .i64 N)) :
 Calls Tryz.prog 84 #[.slice a n cap,.pointer (some ⟨bn,0,none⟩)] w fun e w'=>e = .returned (.bool (vS N (.slice a n cap))) /\ Bw w w':=by
 have Hb : Hid (Bw w w):=Below.refl _ _;go_enter Tryz.func84,Tryz.ntmps84;go_wp2;refine bodyPost_ret (results_tmp rfl _ _ _) rfl ⟨?_,Hb.out⟩;simp only [vS,tC];by_cases h : (n : Int) = N<;>simp [h]
def eV (rows : List (List Raw)) : Int:=
 let n : Int:=rows.length - 1
 if n < 1 \/ 8 < n \/ (rows.any fun r=>decide ((r.length : Int) ≠ n)) then 0 else n
theorem yq (a : Option Addr) (L cap : Nat) (rows : List (List Raw)) (w : World) (hL : rows.length = L) (hl : L <= 1099511627776) (ha : aW w a rows) :
 Calls Tryz.prog 44 #[.slice a L cap] w fun e w'=>e = .returned (.int .i64 (eV rows)) /\ Bw w w':=by
 obtain ⟨vals,hvl,hat,hp⟩:=ha;have qZ:=fun N=>Pr (w:=w) N hvl hp;have hcl : ∀ (bn : Nat) (W : World),W.cell? ⟨bn,0,none⟩ = some (.int .i64 ((L : Int) - 1)) -> At W a vals -> Calls Tryz.prog 85 #[.slice a L cap,.func (.func 84) #[] #[.pointer (some ⟨bn,0,none⟩)]] W fun e w'=>e = .returned (.bool (rows.any fun r=>decide ((r.length : Int) ≠ (L : Int) - 1))) /\ Bw W w':=by intro bn W hc hA;rw [<- qZ];refine ack a L cap vals 84 #[.pointer (some ⟨bn,0,none⟩)] (vS ((L : Int) - 1)) W (by rw [hvl,hL]) hl hA (enters_of Tryz.func84 zk rfl) (fun v hv W' hb=>?_);obtain ⟨i,hi,rfl⟩:=List.mem_iff_getElem.1 hv;obtain ⟨a',cap',e,_⟩:=hp i (by rw [<- hvl];exact hi) hi;rw [e];exact ajR bn _ a' _ cap' W' (cell_later hb hc)
 have hv : eV rows = if (L : Int) - 1 < 1 \/ 8 < (L : Int) - 1 \/ (rows.any fun r=>decide ((r.length : Int) ≠ (L : Int) - 1)) = true then 0 else (L : Int) - 1:=by unfold eV;rw [hL]
 obtain ⟨T,hT⟩ : ∃ T,(rows.any fun r=>decide ((r.length : Int) ≠ (L : Int) - 1)) = T:=⟨_,rfl⟩;rw [hT] at hv;simp only [hT] at hcl;have gq:=ah hcl;have fN:=ah hat;have Hv:=ah hv;obtain ⟨V,hV⟩ : ∃ V,eV rows = V:=⟨_,rfl⟩;rw [hV] at Hv ⊢;clear hcl hat hv qZ hvl hp hL hT hV;obtain ⟨W,aK⟩ : ∃ W,(w.alloc (.cells #[.int .i64 ((L : Int) - 1)] 3)) = W:=⟨_,rfl⟩;have Hb : Hid (Bw w W):=by rw [<- aK];exact zl
 have Hn : Hid (ai W (w.heap.size) 3 [.int .i64 ((L : Int) - 1)]):=by rw [<- aK];exact ai.newAt _ _ _ zm
 have n0:=Hn.out.c1;go_enter Tryz.func44,Tryz.ntmps44;by_cases h1 : (L : Int) - 1 < 1
 . have hv:=Hv.out;rw [if_pos (.inl h1)] at hv;subst hv;go_wp2;refine bodyPost_ret (v:=.int .i64 0) (by simp [results,Tryz.results44,go_sem]) rfl ⟨rfl,?_⟩;(repeat first | exact Hb.out | (refine Below.setCell ?_ (by have:=Hb.out.size;first | (dsimp only;omega) | (show _ <= _;omega) | (simp<;>omega)) _) | (refine Below.alloc ?_ zt _) | refine Below.drew ?_)
 . by_cases h2 : 8 < (L : Int) - 1
   . have hv:=Hv.out;rw [if_pos (.inr (.inl h2))] at hv;subst hv;go_wp2;refine bodyPost_ret (v:=.int .i64 0) (by simp [results,Tryz.results44,go_sem]) rfl ⟨rfl,?_⟩;(repeat first | exact Hb.out | (refine Below.setCell ?_ (by have:=Hb.out.size;first | (dsimp only;omega) | (show _ <= _;omega) | (simp<;>omega)) _) | (refine Below.alloc ?_ zt _) | refine Below.drew ?_)
   . have jI:=ah (gq.out w.heap.size W n0 (fN.out.below Hb.out));go_wp2_with fail;refine (jI.out).mono ?_;rintro e w1 ⟨rfl,ae⟩;clear n0;replace Hn:=kB Hn ae;have n0:=Hn.out.c1;replace Hb:=au Hb ae;clear ae;cases T with
     | true =>have hv:=Hv.out;rw [if_pos (.inr (.inr rfl))] at hv;subst hv;go_wp2;refine bodyPost_ret (v:=.int .i64 0) (by simp [results,Tryz.results44,go_sem]) rfl ⟨rfl,?_⟩;(repeat first | exact Hb.out | (refine Below.setCell ?_ (by have:=Hb.out.size;first | (dsimp only;omega) | (show _ <= _;omega) | (simp<;>omega)) _) | (refine Below.alloc ?_ zt _) | refine Below.drew ?_)
     | false =>have hv:=Hv.out;rw [if_neg (by rintro (h | h | h);omega;omega;cases h)] at hv;subst hv;go_wp2;refine bodyPost_ret (v:=.int .i64 ((L : Int) - 1)) (by simp [results,Tryz.results44,go_sem]) rfl ⟨rfl,?_⟩;(repeat first | exact Hb.out | (refine Below.setCell ?_ (by have:=Hb.out.size;first | (dsimp only;omega) | (show _ <= _;omega) | (simp<;>omega)) _) | (refine Below.alloc ?_ zt _) | refine Below.drew ?_)
theorem agH (bn : Nat) (a0 : Option Addr) (N c0 : Nat) (a : Option Addr) (n cap : Nat) (w : World) (hN : w.cell? ⟨bn,0,none⟩ = some (.slice a0 N c0)) :
 Calls Tryz.prog 125 #[.slice a n cap,.pointer (some ⟨bn,0,none⟩)] w fun e w'=>e = .returned (.bool (vS (N : Int) (.slice a n cap))) /\ Bw w w':=by
 have Hb : Hid (Bw w w):=Below.refl _ _;go_enter Tryz.func125,Tryz.ntmps125;go_wp2;refine bodyPost_ret (results_tmp rfl _ _ _) rfl ⟨?_,Hb.out⟩;simp only [vS,tC];by_cases h : (n : Int) = (N : Int)<;>simp [h]
def rF (rows : List (List Raw)) : Int:=if 8 < rows.length \/ (rows.any fun r=>decide ((r.length : Int) ≠ (rows.length : Int))) then 1 else 0
theorem Lz (a : Option Addr) (L cap : Nat) (rows : List (List Raw)) (w : World) (hL : rows.length = L) (hl : L <= 1099511627776) (ha : aW w a rows) :
 Calls Tryz.prog 86 #[.slice a L cap] w fun e w'=>e = .returned (.int .i64 (rF rows)) /\ Bw w w':=by
 obtain ⟨vals,hvl,hat,hp⟩:=ha;have qZ:=fun N=>Pr (w:=w) N hvl hp;have hcl : ∀ (bn : Nat) (W : World),W.cell? ⟨bn,0,none⟩ = some (.slice a L cap) -> At W a vals -> Calls Tryz.prog 124 #[.slice a L cap,.func (.func 125) #[] #[.pointer (some ⟨bn,0,none⟩)]] W fun e w'=>e = .returned (.bool (rows.any fun r=>decide ((r.length : Int) ≠ (L : Int)))) /\ Bw W w':=by intro bn W hc hA;rw [<- qZ];refine acj a L cap vals 125 #[.pointer (some ⟨bn,0,none⟩)] (vS (L : Int)) W (by rw [hvl,hL]) hl hA (enters_of Tryz.func125 zk rfl) (fun v hv W' hb=>?_);obtain ⟨i,hi,rfl⟩:=List.mem_iff_getElem.1 hv;obtain ⟨a',cap',e,_⟩:=hp i (by rw [<- hvl];exact hi) hi;rw [e];exact agH bn a L cap a' _ cap' W' (cell_later hb hc)
 have hv : rF rows = if 8 < L \/ (rows.any fun r=>decide ((r.length : Int) ≠ (L : Int))) = true then 1 else 0:=by unfold rF;rw [hL]
 obtain ⟨T,hT⟩ : ∃ T,(rows.any fun r=>decide ((r.length : Int) ≠ (L : Int))) = T:=⟨_,rfl⟩;rw [hT] at hv;simp only [hT] at hcl;have gq:=ah hcl;have fN:=ah hat;have Hv:=ah hv;obtain ⟨V,hV⟩ : ∃ V,rF rows = V:=⟨_,rfl⟩;rw [hV] at Hv ⊢;clear hcl hat hv qZ hvl hp hL hT hV;obtain ⟨W,aK⟩ : ∃ W,(w.alloc (.cells #[.slice a L cap] 78)) = W:=⟨_,rfl⟩;have Hb : Hid (Bw w W):=by rw [<- aK];exact zl
 have Hn : Hid (ai W (w.heap.size) 78 [.slice a L cap]):=by rw [<- aK];exact ai.newAt _ _ _ zm
 have n0:=Hn.out.c1;go_enter Tryz.func86,Tryz.ntmps86;by_cases h1 : 8 < L
 . have hv:=Hv.out;rw [if_pos (.inl h1)] at hv;subst hv;have h2 : (8 : Int) < (L : Int):=by omega
   go_wp2;refine bodyPost_ret (v:=.int .i64 1) (by simp [results,Tryz.results86,go_sem]) rfl ⟨rfl,?_⟩;(repeat first | exact Hb.out | (refine Below.setCell ?_ (by have:=Hb.out.size;first | (dsimp only;omega) | (show _ <= _;omega) | (simp<;>omega)) _) | (refine Below.alloc ?_ zt _) | refine Below.drew ?_)
 . have h2 : ¬ (8 : Int) < (L : Int):=by omega
   have jI:=ah (gq.out w.heap.size W n0 (fN.out.below Hb.out));go_wp2_with fail;refine (jI.out).mono ?_;rintro e w1 ⟨rfl,ae⟩;clear n0;replace Hn:=kB Hn ae;have n0:=Hn.out.c1;replace Hb:=au Hb ae;clear ae;cases T with
   | true =>have hv:=Hv.out;rw [if_pos (.inr rfl)] at hv;subst hv;go_wp2;refine bodyPost_ret (v:=.int .i64 1) (by simp [results,Tryz.results86,go_sem]) rfl ⟨rfl,?_⟩;(repeat first | exact Hb.out | (refine Below.setCell ?_ (by have:=Hb.out.size;first | (dsimp only;omega) | (show _ <= _;omega) | (simp<;>omega)) _) | (refine Below.alloc ?_ zt _) | refine Below.drew ?_)
   | false =>have hv:=Hv.out;rw [if_neg (by rintro (h | h);omega;cases h)] at hv;subst hv;go_wp2;refine bodyPost_ret (v:=.int .i64 0) (by simp [results,Tryz.results86,go_sem]) rfl ⟨rfl,?_⟩;(repeat first | exact Hb.out | (refine Below.setCell ?_ (by have:=Hb.out.size;first | (dsimp only;omega) | (show _ <= _;omega) | (simp<;>omega)) _) | (refine Below.alloc ?_ zt _) | refine Below.drew ?_)
theorem wm {rows : List (List Raw)} {n : Int} (h : eV rows = n) (h0 : n ≠ 0) : 1 <= n /\ n <= 8 /\ (rows.length : Int) = n + 1 /\ ∀ r ∈ rows,(r.length : Int) = n:=by
 unfold eV at h;dsimp only at h;split at h
 . exact absurd h.symm h0
 . rename_i hc
   simp only [not_or,Bool.not_eq_true,List.any_eq_false,decide_eq_true_eq,Decidable.not_not] at hc;obtain ⟨h1,h2,h3⟩:=hc;refine ⟨by omega,by omega,by omega,fun r hr=>?_⟩;have:=h3 r hr;omega
theorem wj {rows : List (List Raw)} {n : Nat} (h1 : rows.length = n + 1) (h2 : ∀ r ∈ rows,r.length = n) (h3 : 1 <= n) (h8 : n <= 8) : eV rows = n:=by
 unfold eV;dsimp only;rw [if_neg]
 . omega
 . rintro (h | h | h)
   . omega
   . omega
   . rw [List.any_eq_true] at h;obtain ⟨r,hr,h⟩:=h;have:=h2 r hr;simp [h1,this] at h
def Bv (w : World) (x : Value) (n v : Nat) : Prop:=v < 2 ^ n /\ ((x = .slice none 0 0 /\ n = 0) \/ ∃ b o cap,x = .slice (some ⟨b,o,none⟩) n cap /\ n <= cap /\ ∀ j,j < n -> w.cell? ⟨b,o + j,none⟩ = some (.int .u8 (bd v j : Int)))
theorem Bv.below {w w' : World} {x : Value} {n v : Nat} (h : Bv w x n v) (hb : Bw w w') : Bv w' x n v:=by
 refine ⟨h.1,?_⟩;rcases h.2 with h | ⟨b,o,cap,e,h1,hc⟩
 . exact .inl h
 . exact .inr ⟨b,o,cap,e,h1,fun j hj=>cell_later hb (hc j hj)⟩
theorem Bv.anM {w : World} {base : Nat} {e : TypeId} {x : Value} {n v : Nat} (h : w.ownsRow base e 1 x n (cj n (bd v))) (hx : v < 2 ^ n) : Bv w x n v:=by
 refine ⟨hx,?_⟩;rcases h.2 with ⟨rfl,rfl⟩ | ⟨g,cap,cur,rfl,hb,hg,h2,h3,h4,h5⟩
 . exact .inl ⟨rfl,rfl⟩
 . refine .inr ⟨g,0,cap,rfl,h2,fun j hj=>?_⟩;have:=h.cells (g:=g) rfl j _ (jE n (bd v) j hj);have e2 : ((⟨g,0,none⟩ : Addr).add j) = ⟨g,j,none⟩:=by simp [Addr.add];omega
   rw [Nat.zero_add,<- e2];exact this
theorem Bv.anF {w : World} {b : Nat} {t : TypeId} {n v : Nat} (h : ai w b t (cj n (bd v))) (hv : v < 2 ^ n) : Bv w (.slice (some ⟨b,0,none⟩) n n) n v:=
 ⟨hv,.inr ⟨b,0,n,rfl,Nat.le_refl _,fun j hj=>by rw [Nat.zero_add,h.cell,jE _ _ _ hj]⟩⟩
theorem VQ (b o n cap v : Nat) (w : World) (hm : n <= 1099511627776) (hcap : n <= cap) (hc : ∀ j,j < n -> w.cell? ⟨b,o + j,none⟩ = some (.int .u8 (bd v j : Int))) (hv : v < 2 ^ n) :
 Calls Tryz.prog 160 #[.slice (some ⟨b,o,none⟩) n cap] w fun e w'=>e = .returned (.slice (some ⟨b,o,none⟩) (bu v) cap) /\ w = w':=by
 have Hc:=ah hc;clear hc;have Hv:=ah hv;clear hv;go_enter Tryz.func160,Tryz.ntmps160;go_wp2_with fail;go_loop [3] (fun x=>∃ k : Nat,k <= n /\ v < 2 ^ k /\ x = .int .i64 (k : Int)) (fun x=>(intOf x).toNat)
 case atStart=>exact ⟨n,Nat.le_refl _,Hv.out,rfl⟩
 case round=>
  obtain ⟨k,hk,hvk,rfl⟩:=hrel;have kZ:=ah hvk;clear hvk;by_cases h0 : 0 < k
  . have hcell : w.cell? ⟨b,o + (k - 1),none⟩ = some (.int .u8 (bd v (k - 1) : Int)):=Hc.out _ zo;have bD:=tB n cap (k - 1) ((k : Int) - 1) (rfl : (some ⟨b,o,none⟩ : Option Addr) = _) zo zo;rw [Nat.mul_one] at bD;by_cases hd : bd v (k - 1) = 0
    . have hd' : ((bd v (k - 1) : Int) == 0) = true:=by simp [hd]
      have Hd:=ah hd;clear hd;go_wp2;refine ⟨⟨k - 1,by omega,?_,by go_num⟩,by simp [intOf];omega⟩;refine abF ?_ Hd.out;rw [show k - 1 + 1 = k by omega];exact kZ.out
    . have hd' : ((bd v (k - 1) : Int) == 0) = false:=by simp [hd]
      have Hd:=ah hd;clear hd;go_wp2;go_ret;have e : bu v = k:=by have:=abw (v:=v) (k:=k - 1) (by rw [show k - 1 + 1 = k by omega];exact kZ.out) (abE Hd.out);omega
      rw [e];exact ⟨rfl,rfl⟩
  . obtain rfl : k = 0:=by omega
    go_wp2;go_ret;have e : bu v = 0:=by have:=kZ.out;simp at this;subst this;rfl
    rw [e];exact ⟨rfl,rfl⟩
theorem VR (w : World) :
 Calls Tryz.prog 160 #[.slice none 0 0] w fun e w'=>e = .returned (.slice none 0 0) /\ w = w':=by
 go_enter Tryz.func160,Tryz.ntmps160;go_wp2_with fail;refine wp_loop_rounds 1 ?_;rw [rounds_succ];go_wp2;go_ret;exact ⟨rfl,rfl⟩
def zI (x : Value) (lo : Nat) : Prop:=∀ b o n c,x = .slice (some ⟨b,o,none⟩) n c -> lo <= b
theorem Mi (x : Value) (n v : Nat) (w : World) (hm : n <= 1099511627776) (hx : Bv w x n v) :
 Calls Tryz.prog 160 #[x] w fun e w'=>(∃ y,e = .returned y /\ Bv w y (bu v) v /\ ∀ lo,zI x lo -> zI y lo) /\ w = w':=by
 have hl:=fE hx.1;rcases hx.2 with ⟨rfl,rfl⟩ | ⟨b,o,cap,rfl,h1,hc⟩
 . refine (VR w).mono ?_;rintro e w' ⟨rfl,rfl⟩;exact ⟨⟨_,rfl,⟨mJ v,.inl ⟨rfl,by omega⟩⟩,fun _ h=>h⟩,rfl⟩
 . refine (VQ b o n cap v w hm h1 hc hx.1).mono ?_;rintro e w' ⟨rfl,rfl⟩;exact ⟨⟨_,rfl,⟨mJ v,.inr ⟨b,o,cap,rfl,by omega,fun j hj=>hc j zo⟩⟩,fun lo h b' o' n' c' e=>by cases e;exact h _ _ _ _ rfl⟩,rfl⟩
theorem aiO (b o n cap v : Nat) (w : World) (hm : n <= 1099511627776) (hcap : n <= cap) (hc : ∀ j,j < n -> w.cell? ⟨b,o + j,none⟩ = some (.int .u8 (bd v j : Int))) (hv : v < 2 ^ n) :
 Calls Tryz.prog 152 #[.slice (some ⟨b,o,none⟩) n cap] w fun e w'=>e = .returned (.string (bs (nt v))) /\ Bw w w':=by
 have hle:=fE hv;have hcut:=VQ b o n cap v w hm hcap hc hv;have hvl:=mJ v;have qD : Hid ((List.range ((bu v + 7) / 8)).map (fun j=>UInt8.ofNat (v / 256 ^ ((bu v + 7) / 8 - 1 - j) % 256)) = nt v):=LK _ _ (zP v).1 (zP v).2;generalize hL : bu v = L at *;obtain ⟨nb,hnb⟩ : ∃ nb,(L + 7) / 8 = nb:=⟨_,rfl⟩;have hmk:=pM (((L : Int) + 7) / 8) nb zo zo;have KC : ((L : Int) + 7) / 8 = (nb : Int):=by omega
 rw [KC] at hmk;rw [hnb] at qD;have XW:=ah hcut;have Hc:=ah hc;have Hv:=ah hv;have lM:=ah hvl;have HL:=ah hL;clear hcut hc hv hvl hL;go_enter Tryz.func152,Tryz.ntmps152;go_wp2_with fail;refine XW.out.mono ?_;rintro e w' ⟨rfl,rfl⟩;go_wp2_with fail;go_loopw [4] (fun i wr=>∃ k : Nat,k <= L /\ i = .int .i64 (k : Int) /\ ai wr w.heap.size 5 (cj nb (fun j=>v % 2 ^ k / 256 ^ (nb - 1 - j) % 256)) /\ Bw w wr) (fun i _=>L - (intOf i).toNat);case atStart=>
  refine ⟨0,Nat.zero_le _,rfl,?_,zl⟩;have e : cj nb (fun j=>v % 2 ^ 0 / 256 ^ (nb - 1 - j) % 256) = cj nb fun _=>0:=kO fun j hj=>by simp [Nat.mod_one]
  rw [e];exact ai.new _ _ _
 case round=>
  obtain ⟨k,hk,rfl,hB,hb⟩:=hrel;by_cases hlt : k < L
  . have hq : k / 8 < nb:=by omega
    obtain ⟨Z,hZ⟩ : ∃ Z,bd v k = Z:=⟨_,rfl⟩;have hZ1 : Z <= 1:=by rw [<- hZ];exact oY v k
    have iT : wr.cell? ⟨b,o + k,none⟩ = some (.int .u8 (Z : Int)):=by rw [<- hZ];exact cell_later hb (Hc.out _ zo)
    obtain ⟨A,hA⟩ : ∃ A,v % 2 ^ k / 256 ^ (k / 8) % 256 = A:=⟨_,rfl⟩;have hcell : wr.cell? ⟨w.heap.size,nb - 1 - k / 8,none⟩ = some (.int .u8 (A : Int)):=by rw [hB.cell,jE _ _ _ zo,show nb - 1 - (nb - 1 - k / 8) = k / 8 by omega,hA]
    have hfree : wr.frozen? ⟨w.heap.size,nb - 1 - k / 8,none⟩ = false:=hB.free _;obtain ⟨hb1,hb2⟩:=abJ v k;rw [hA,hZ] at hb1 hb2;have bK:=hB.set (nb - 1 - k / 8) (.int .u8 ((A + Z * 2 ^ (k % 8) : Nat) : Int));have hb3:=hb.setCell (p:=⟨w.heap.size,nb - 1 - k / 8,none⟩) (Nat.le_refl _) (.int .u8 ((A + Z * 2 ^ (k % 8) : Nat) : Int))
    rw [vZ,kO (g:=fun j=>v % 2 ^ (k + 1) / 256 ^ (nb - 1 - j) % 256) fun j hj=>by
     by_cases mg : j = nb - 1 - k / 8
     . subst mg;rw [if_pos rfl,show nb - 1 - (nb - 1 - k / 8) = k / 8 by omega,hb1]
     . rw [if_neg mg,abK v k _ zo]] at bK
    have dI:=ah bK;have Hb:=ah hb3;clear hB hb bK hb3 hb1 hA hZ;have He : Hid ((((A : Int) + (Z : Int) * 2 ^ (k % 8)) % 256) = ((A + Z * 2 ^ (k % 8) : Nat) : Int)):=by
     show _ = _
     have : ((Z : Int) * 2 ^ (k % 8)) = ((Z * 2 ^ (k % 8) : Nat) : Int):=by simp
     rw [this];omega
    clear hb2;go_wp2;go_region
    go_wp2;go_roundw;case rel=>rw [He.out];exact ⟨k + 1,by omega,by go_num,dI.out,Hb.out.drew⟩
    case measure=>simp [intOf];omega
  . obtain rfl : k = L:=by omega
    rw [Nat.mod_eq_of_lt lM.out] at hB;have uW:=vY hB nb;rw [qD.out] at uW;have Hb:=ah hb;clear hb hB;go_wp2;go_ret;exact ⟨rfl,Hb.out⟩
theorem aiP (w : World) :
 Calls Tryz.prog 152 #[.slice none 0 0] w fun e w'=>e = .returned (.string (bs [])) /\ Bw w w':=by
 have hmk:=pM 0 0 rfl zo;have uW:=vY (ai.new w 5 (cj 0 fun _=>0)) 0;go_enter Tryz.func152,Tryz.ntmps152;go_wp2_with fail;refine (VR w).mono ?_;rintro e w' ⟨rfl,rfl⟩;go_wp2_with fail;refine wp_loop_rounds 1 ?_;rw [rounds_succ];go_wp2;go_ret;exact ⟨rfl,zl⟩
theorem rI (x : Value) (n v : Nat) (w : World) (hm : n <= 1099511627776) (hx : Bv w x n v) :
 Calls Tryz.prog 152 #[x] w fun e w'=>e = .returned (.string (bs (nt v))) /\ Bw w w':=by
 rcases hx.2 with ⟨rfl,rfl⟩ | ⟨b,o,cap,rfl,h1,hc⟩
 . have h0:=hx.1;obtain rfl : v = 0:=by simpa using h0
   exact aiP w
 . exact aiO b o n cap v w hm h1 hc hx.1
theorem WC (n : Nat) (f : Nat -> Nat) : cj (n + 1) f = cj n f ++ [.int .u8 (f n : Int)]:=by unfold cj;rw [List.range_succ,List.map_append];rfl
theorem aiz (N : Nat) (w : World) (hN : N < WW) :
 Calls Tryz.prog 119 #[.int .u64 (N : Int)] w fun e w'=>e = .returned (.string (bs (nt N))) /\ Bw w w':=by
 obtain ⟨i0,hi,hz0,hz1,hz2⟩:=info_parts Tryz.anJ;have hNb : bu N <= 64:=fE (by rw [jk] at hN;exact hN);have hW:=ig;go_enter Tryz.func119,Tryz.ntmps119;go_wp2_with fail;go_loopw [0,3] (fun u v wr=>∃ k : Nat,k <= bu N /\ u = .int .u64 ((N / 2 ^ k : Nat) : Int) /\ wr.ownsRow w.heap.size 5 1 v k (cj k (bd N)) /\ Bw w wr) (fun u _ _=>(intOf u).toNat);case atStart=>exact ⟨0,Nat.zero_le _,by simp,World.ownsRow_nil _ _ _ _,Below.refl _ _⟩
 case round=>
  obtain ⟨k,hk,rfl,hown,hb⟩:=hrel;obtain ⟨M,hM⟩ : ∃ M,N / 2 ^ k = M:=⟨_,rfl⟩;have Ai : M < 18446744073709551616:=by have:=Nat.div_le_self N (2 ^ k);omega
  have HM:=ah hM;rw [hM];have xo : N / 2 ^ (k + 1) = M / 2:=by rw [Nat.pow_succ,<- Nat.div_div_eq_div_mul,hM]
  have jr : bd N k = M % 2:=by unfold bd;rw [hM]
  have ui:=ah xo;have iO:=ah jr;clear hM xo jr hW hN;by_cases h0 : 0 < M
  . have h01 : (0 : Int) < (M : Int):=by omega
    have hkl : k < bu N:=by
     rcases Nat.lt_or_ge k (bu N) with h | h
     . exact h
     . have h1 : N < 2 ^ k:=Nat.lt_of_lt_of_le (mJ N) (Nat.pow_le_pow_right zd h);have:=HM.out;rw [Nat.div_eq_of_lt h1] at this;omega
    have hs0:=hb.size;have lL:=ah hown;clear hown;go_wp2_with (first | (at_builtin;refine wpList_append_own _ rfl _ _ 111 rfl w.heap.size 5 i0 (.int .u8 0) 1 1 Tryz.underlying111 hi hz0 hz1 hz2 rfl zd _ _ _ rfl (lL.out.alloc _) ⟨wr.heap.size,0,none⟩ 1 1 [.int .u8 ((M : Int) % 2)] rfl rfl (cell_one_new _ _ _) zy zx zo zi ?_;intro v' w1 ho hg _;have Ho:=ah ho;have Hg:=ah hg;clear ho hg));go_roundw;case rel=>
     refine ⟨k + 1,by omega,?_,?_,?_⟩
     . rw [ui.out];go_num
     . rw [WC,iO.out];have e : ((M % 2 : Nat) : Int) = (M : Int) % 2:=by omega
       rw [e];exact Ho.out
     . exact (hb.alloc hs0 _).grown Hg.out zi (fun j e=>cP lL.out j e)
    case measure=>simp [intOf];omega
  . obtain rfl : M = 0:=by omega
    have SN : N < 2 ^ k:=by have:=HM.out;exact (Nat.div_eq_zero_iff_lt (Nat.pow_pos zd)).1 this
    have Gh:=ah (Bv.anM hown SN);have Hb:=ah hb;clear hown SN hb;go_wp2_with fail;refine (rI u3 k N wr zo Gh.out).mono ?_;rintro e w2 ⟨rfl,hb2⟩;have bV:=ah hb2;clear hb2;go_wp2;go_ret;exact ⟨rfl,aI Hb.out bV.out⟩
theorem IB (a : Nat) (ha : a < 256) : bits .and .u8 (a : Int) 1 = ((a % 2 : Nat) : Int):=by
 have h1 : (BitVec.ofInt 8 (a : Int)).toNat = a:=by rw [BitVec.ofInt_natCast,BitVec.toNat_ofNat];exact Nat.mod_eq_of_lt zo
 show IntKind.u8.wrap ((BitVec.ofInt 8 (a : Int) &&& BitVec.ofInt 8 1).toNat : Int) = _
 rw [BitVec.toNat_and,h1,show (BitVec.ofInt 8 1).toNat = 1 from rfl,Nat.and_one_is_mod,IntKind.wrap_u8];omega
theorem mz (l : List UInt8) (w : World) (hl : l.length <= 68719476736) :
 Calls Tryz.prog 132 #[.string (bs l)] w fun e w'=>(∃ y,e = .returned y /\ Bv w' y (bu (nv l)) (nv l)) /\ Bw w w':=by
 obtain ⟨i0,hi,hz0,hz1,hz2⟩:=info_parts Tryz.anJ;have hsz : (bs l).size = l.length:=lQ l;go_enter Tryz.func132,Tryz.ntmps132;go_wp2_with fail;go_loopw [3,4,5] (fun v i _ wr=>∃ m : Nat,m <= l.length /\ i = .int .i64 ((l.length : Int) - 1 - (m : Int)) /\ wr.ownsRow w.heap.size 5 1 v (8 * m) (cj (8 * m) (bd (nv l))) /\ Bw w wr) (fun _ i _ _=>(intOf i + 1).toNat);case atStart=>exact ⟨0,Nat.zero_le _,by go_num,World.ownsRow_nil _ _ _ _,Below.refl _ _⟩
 case round=>
  obtain ⟨m,hm,rfl,hown,hb⟩:=hrel;have lL:=ah hown;have Hb:=ah hb;clear hown hb;by_cases hlt : m < l.length
  . have hge : (m : Int) <= (l.length : Int) - 1:=by omega
    have fQ:=vE l ((l.length : Int) - 1 - (m : Int)) (l.length - 1 - m) zo zo;have XS : Hid (∀ k,k < 8 -> l[l.length - 1 - m].toNat / 2 ^ k % 2 = bd (nv l) (8 * m + k)):=fun k hk=>ahl l m k hlt hk;have hC:=(l[l.length - 1 - m]'zo).toNat_lt;generalize hCe : l[l.length - 1 - m].toNat = C at *;clear hCe;go_wp2_with fail;go_loopw [3,5] (fun v j wr=>∃ k : Nat,k <= 8 /\ j = .int .i64 (k : Int) /\ wr.ownsRow w.heap.size 5 1 v (8 * m + k) (cj (8 * m + k) (bd (nv l))) /\ Bw w wr) (fun _ j _=>8 - (intOf j).toNat);case atStart=>exact ⟨0,Nat.zero_le _,rfl,lL.out,Hb.out⟩
    case round=>
     clear lL Hb;obtain ⟨k,hk,rfl,hown,hb⟩:=hrel;have lL:=ah hown;have Hb:=ah hb;have hs0:=hb.size;clear hown hb;by_cases hk8 : k < 8
     . obtain ⟨Z,hZ⟩ : ∃ Z,C / 2 ^ k % 2 = Z:=⟨_,rfl⟩;have hbk:=XS.out k hk8;rw [hZ] at hbk;have yJ:=ah hbk;clear hbk;have hand : bits .and .u8 ((C : Int) / 2 ^ k) 1 = (Z : Int):=by
        have e : (C : Int) / 2 ^ k = ((C / 2 ^ k : Nat) : Int):=by simp
        have:=Nat.div_le_self C (2 ^ k);rw [e,IB _ zo,hZ]
       clear hZ;go_wp2_with (first | (at_builtin;refine wpList_append_own _ rfl _ _ 111 rfl w.heap.size 5 i0 (.int .u8 0) 1 1 Tryz.underlying111 hi hz0 hz1 hz2 rfl zd _ _ _ rfl (lL.out.alloc _) ⟨wr.heap.size,0,none⟩ 1 1 [.int .u8 (Z : Int)] rfl rfl (cell_one_new _ _ _) zy zx zo zi ?_;intro v' w1 ho hg _;have Ho:=ah ho;have Hg:=ah hg;clear ho hg));go_roundw;case rel=>
        refine ⟨k + 1,by omega,?_,?_,?_⟩
        . go_num
        . rw [<- Nat.add_assoc,WC,<- yJ.out];exact Ho.out
        . exact (Hb.out.alloc hs0 _).grown Hg.out zi (fun j e=>cP lL.out j e)
       case measure=>simp [intOf];omega
     . obtain rfl : k = 8:=by omega
       go_wp2;go_roundw;case rel=>exact ⟨m + 1,by omega,by go_num,lL.out,Hb.out⟩
       case measure=>simp [intOf];omega
  . obtain rfl : m = l.length:=by omega
    have Gh:=ah (Bv.anM lL.out (lF l));clear hlt;go_wp2_with fail;refine (Mi u3 (8 * l.length) (nv l) wr zo Gh.out).mono ?_;rintro e w2 ⟨⟨y,rfl,hy,_⟩,rfl⟩;have Hy:=ah hy;clear hy;go_wp2;go_ret;exact ⟨⟨_,rfl,Hy.out⟩,Hb.out⟩
theorem yi (x : Value) (n v i : Nat) (w : World) (hx : Bv w x n v) (hi : i <= 1099511627776) (hn : n <= 1099511627776) :
 Calls Tryz.prog 179 #[x,.int .i64 (i : Int)] w fun e w'=>e = .returned (.int .u8 (bd v i : Int)) /\ w = w':=by
 obtain ⟨hv,h⟩:=hx;by_cases hlt : i < n
 . rcases h with ⟨rfl,h0⟩ | ⟨b,o,cap,rfl,h1,hc⟩
   . omega
   . have hcell:=hc i hlt;have bD:=tB n cap i (i : Int) (rfl : (some ⟨b,o,none⟩ : Option Addr) = _) hlt rfl;rw [Nat.mul_one] at bD;clear hc hv;go_enter Tryz.func179,Tryz.ntmps179;go_wp2;go_ret;exact ⟨rfl,rfl⟩
 . have h0 : bd v i = 0:=abo hv zo;have H0:=ah h0;clear h0 hv;rcases h with ⟨rfl,h0⟩ | ⟨b,o,cap,rfl,h1,hc⟩
   . subst h0;go_enter Tryz.func179,Tryz.ntmps179;go_wp2;go_ret;exact ⟨by rw [H0.out];rfl,rfl⟩
   . clear hc;go_enter Tryz.func179,Tryz.ntmps179;go_wp2;go_ret;exact ⟨by rw [H0.out];rfl,rfl⟩
theorem Bv.len {w : World} {x : Value} {n v : Nat} (h : Bv w x n v) : ∃ a cap,x = .slice a n cap:=by
 rcases h.2 with ⟨rfl,rfl⟩ | ⟨b,o,cap,rfl,_⟩
 . exact ⟨_,_,rfl⟩
 . exact ⟨_,_,rfl⟩
theorem VP (x y : Value) (n m v u : Nat) (w : World) (hx : Bv w x n v) (hy : Bv w y m u) (hn : n <= 1099511627776) (hm : m <= 1099511627776) :
 Calls Tryz.prog 176 #[x,y] w fun e w'=>e = .returned (.int .i64 (cG v u)) /\ w = w':=by
 obtain ⟨a,cap,iF⟩:=hx.len;obtain ⟨a',cap',Be⟩:=hy.len;have lW:=fun i (hi : i <= 1099511627776)=>yi x n v i w hx hi hn;have hby:=fun i (hi : i <= 1099511627776)=>yi y m u i w hy hi hm;have hv:=hx.1;have hu:=hy.1;subst iF;subst Be;have yK:=ah lW;have yL:=ah hby;have Hv:=ah hv;have Hu:=ah hu;clear lW hby hv hu hx hy;obtain ⟨M,hM⟩ : ∃ M,max n m = M:=⟨_,rfl⟩;have hMI : max (n : Int) (m : Int) = (M : Int):=by omega
 have cd : Hid (v / 2 ^ M = u / 2 ^ M):=by
  show _ = _
  rw [Nat.div_eq_of_lt (Nat.lt_of_lt_of_le Hv.out (Nat.pow_le_pow_right zd zo)),Nat.div_eq_of_lt (Nat.lt_of_lt_of_le Hu.out (Nat.pow_le_pow_right zd zo))]
 have Ai : M <= 1099511627776:=by omega
 clear hM;go_enter Tryz.func176,Tryz.ntmps176;go_wp2_with fail;go_loop [5] (fun i=>∃ k : Nat,k <= M /\ v / 2 ^ k = u / 2 ^ k /\ i = .int .i64 ((k : Int) - 1)) (fun i=>(intOf i + 1).toNat)
 case atStart=>exact ⟨M,Nat.le_refl _,cd.out,rfl⟩
 case round=>
  obtain ⟨k,hk,hvk,rfl⟩:=hrel;have kZ:=ah hvk;clear hvk;by_cases h0 : 0 < k
  . obtain ⟨j,rfl⟩ : ∃ j,k = j + 1:=⟨k - 1,by omega⟩;have lW:=yK.out j zo;have hby:=yL.out j zo;have wK:=ah (fun h=>PD (v:=v) (u:=u) kZ.out h);have Yv:=ah (fun h=>PD (v:=u) (u:=v) kZ.out.symm h);have CC:=ah (fun h=>abn (v:=v) (u:=u) kZ.out h);have hp1:=oY v j;have hq1:=oY u j;generalize bd v j = p at *;generalize bd u j = q at *;have H1:=ah lW;have H2:=ah hby;clear lW hby;have hj : ((j + 1 : Nat) : Int) - 1 = (j : Int):=by omega
    rw [hj];clear hj h0;go_wp2_with fail;refine H1.out.mono ?_;rintro e w' ⟨rfl,rfl⟩;go_wp2_with fail;refine H2.out.mono ?_;rintro e w' ⟨rfl,rfl⟩;by_cases hpq : p < q
    . have ae6 : (p : Int) < (q : Int):=by omega
      go_wp2;go_ret;have:=wK.out hpq;exact ⟨by unfold cG;rw [if_pos this];rfl,rfl⟩
    . have ae6 : ¬ (p : Int) < (q : Int):=by omega
      go_wp2_with fail;refine H1.out.mono ?_;rintro e w' ⟨rfl,rfl⟩;go_wp2_with fail;refine H2.out.mono ?_;rintro e w' ⟨rfl,rfl⟩;by_cases hqp : q < p
      . have afa : (q : Int) < (p : Int):=by omega
        go_wp2;go_ret;have:=Yv.out hqp;exact ⟨by unfold cG;rw [if_neg zo,if_pos this];rfl,rfl⟩
      . have afa : ¬ (q : Int) < (p : Int):=by omega
        go_wp2;refine ⟨⟨j,by omega,CC.out zo,by go_num⟩,by simp [intOf]⟩
  . obtain rfl : k = 0:=by omega
    have he : v = u:=by simpa using kZ.out
    go_wp2;go_ret;exact ⟨by unfold cG;rw [if_neg zo,if_neg zo];rfl,rfl⟩
theorem VU (x y : Value) (n m v u : Nat) (w : World) (hx : Bv w x n v) (hy : Bv w y m u) (hn : n <= 1099511627776) (hm : m <= 1099511627776) (rC : u <= v) :
 Calls Tryz.prog 159 #[x,y] w fun e w'=>(∃ z,e = .returned z /\ Bv w' z n (v - u) /\ zI z w.heap.size) /\ Bw w w':=by
 obtain ⟨a,cap,iF⟩:=hx.len;obtain ⟨a',cap',Be⟩:=hy.len;have lW:=fun W (hW : Bw w W) i (hi : i <= 1099511627776)=>yi x n v i W (hx.below hW) hi hn;have hby:=fun W (hW : Bw w W) i (hi : i <= 1099511627776)=>yi y m u i W (hy.below hW) hi hm;have qP : Hid (v - u < 2 ^ n):=by show _ < _;have:=hx.1;omega
 subst iF;subst Be;have yK:=ah lW;have yL:=ah hby;have zE:=ah rC;clear lW hby hx hy rC;have hmk:=pM (n : Int) n rfl zo;go_enter Tryz.func159,Tryz.ntmps159;go_wp2_with fail;go_loopw [6,7,8] (fun b i _ wr=>∃ k : Nat,k <= n /\ i = .int .i64 (k : Int) /\ b = .int .u8 (bb v u k : Int) /\ ai wr w.heap.size 5 (cj n (fun j=>if j < k then bd (v - u) j else 0)) /\ Bw w wr) (fun _ i _ _=>n - (intOf i).toNat);case atStart=>
  refine ⟨0,Nat.zero_le _,rfl,by rw [abl];rfl,?_,zl⟩;have e : cj n (fun j=>if j < 0 then bd (v - u) j else 0) = cj n fun _=>0:=kO fun j hj=>by rw [if_neg zo]
  rw [e];exact ai.new _ _ _
 case round=>
  obtain ⟨k,hk,rfl,rfl,hB,hb⟩:=hrel;by_cases hlt : k < n
  . have H1:=ah (yK.out wr hb k zo);have H2:=ah (yL.out wr hb k zo);have hs:=abk v u k;have hd:=abj v u k zE.out;have hp:=oY v k;have hq:=oY u k;have hr:=Pz v u k;have hcell : wr.cell? ⟨w.heap.size,k,none⟩ = some (.int .u8 0):=by rw [hB.cell,jE _ _ _ hlt,if_neg zo];rfl
    have hfree : wr.frozen? ⟨w.heap.size,k,none⟩ = false:=hB.free _;have bK:=hB.set k (.int .u8 ((bd (v - u) k : Nat) : Int))
    rw [vZ,kO (g:=fun j=>if j < k + 1 then bd (v - u) j else 0) fun j hj=>by
     by_cases e : j = k
     . subst e;rw [if_pos rfl,if_pos zo]
     . rw [if_neg e];by_cases e2 : j < k
       . rw [if_pos e2,if_pos zo]
       . rw [if_neg e2,if_neg zo]] at bK
    have dI:=ah bK;have Hb:=ah (hb.setCell (p:=⟨w.heap.size,k,none⟩) (Nat.le_refl _) (.int .u8 ((bd (v - u) k : Nat) : Int)));clear hB bK hb;generalize bd v k = p at *;generalize bd u k = q at *;generalize bb v u k = r at *;generalize bd (v - u) k = z at *;have Hs:=ah hs;clear hs;obtain ⟨S,hS⟩ : ∃ S,2 + p - q - r = S:=⟨_,rfl⟩;have hS3 : S <= 3:=by omega
    have hw1 : IntKind.u8.wrap (2 + (p : Int)) = 2 + (p : Int):=by rw [IntKind.wrap_u8];omega
    have hw2 : IntKind.u8.wrap (2 + (p : Int) - (q : Int)) = 2 + (p : Int) - (q : Int):=by rw [IntKind.wrap_u8];omega
    have hw3 : IntKind.u8.wrap (2 + (p : Int) - (q : Int) - (r : Int)) = (S : Int):=by rw [IntKind.wrap_u8];omega
    have hand : bits .and .u8 (S : Int) 1 = (z : Int):=by rw [IB S zo,<- hd];omega
    have HS:=ah hS;have Hd:=ah hd;clear hS hd;go_wp2_with fail;refine H1.out.mono ?_;rintro e w' ⟨rfl,rfl⟩;go_wp2_with fail;refine H2.out.mono ?_;rintro e w' ⟨rfl,rfl⟩;go_wp2;go_roundw;case rel=>refine ⟨k + 1,by omega,by go_num,?_,dI.out,Hb.out⟩;rw [Hs.out];have:=HS.out;congr 1;split<;>omega
    case measure=>simp [intOf];omega
  . obtain rfl : k = n:=by omega
    rw [kO (g:=bd (v - u)) fun j hj=>by rw [if_pos hj]] at hB;have Hz:=ah (Bv.anF hB qP.out);have Hb:=ah hb;clear hB hb;go_wp2;go_ret;exact ⟨⟨_,rfl,Hz.out,fun b o n' c e=>by cases e;exact Nat.le_refl _⟩,Hb.out⟩
end Go.Proofs.YtdaadlblknpipaaGreatDoor
namespace Go.Proofs.YtdaadlblknpipaaGreatDoor
open Go.RowKit
abbrev aJ:=List UInt8 × Raw
def aL (t : aJ) : List Value:=[.string (bs t.1),.bool t.2.1,.string (bs t.2.2.1),.int .i64 t.2.2.2]
theorem At.term {w : World} {a : Option Addr} {ts : List aJ} (h : At w a (ts.flatMap aL)) (k : Nat) (hk : k < ts.length) {l : List UInt8} {s : Bool} {m : List UInt8} {e : Int} (hx : ts[k] = (l,s,m,e)) :
 ∃ b o,a = some ⟨b,o,none⟩ /\ bo w b (o + k * 4) [.string (bs l),.bool s,.string (bs m),.int .i64 e]:=by
 obtain ⟨b,o,hab,hcs⟩:=h.elem (f:=aL) (sz:=4) (fun _=>rfl) zd k hk;refine ⟨b,o,hab,fun j hj=>?_⟩;have:=hcs j hj;rw [hx] at this;rw [this];unfold aL;rw [List.getElem?_eq_getElem (by simpa using hj)]
def Aa (V : Int) (l : List UInt8) (x : Raw) : Bool:=fy l V && !(bR (aB x) == 0) && (canon (aB x) == x)
def nW (V : Int) (ts : List aJ) (k : Nat) : Bool:=Aa V (ts.getD k default).1 (ts.getD k default).2 && (k == 0 || Op.bytesLess (bs (ts.getD (k - 1) default).1).toList (bs (ts.getD k default).1).toList)
def vU (V : Int) (ts : List aJ) : Int:=if ¬ (0 <= V /\ V <= 12) then 1 else if 4096 < ts.length then 3 else if (List.range ts.length).all (nW V ts) then 0 else 1
end Go.Proofs.YtdaadlblknpipaaGreatDoor
namespace Go.Proofs.YtdaadlblknpipaaGreatDoor
theorem wR (a : List UInt8) : Op.bytesLess a a = false:=by
 induction a with
 | nil=>rfl
 | cons x a ih=>simp [Op.bytesLess,ih]
theorem zN {a b c : List UInt8} (h : Op.bytesLess a b = true) (k : Op.bytesLess b c = true) : Op.bytesLess a c = true:=by
 induction a generalizing b c with
 | nil =>
   cases c with
   | nil=>cases b<;>simp [Op.bytesLess] at k
   | cons z c=>simp [Op.bytesLess]
 | cons x a ih =>
   cases b with
   | nil=>simp [Op.bytesLess] at h
   | cons y b =>
     cases c with
     | nil=>simp [Op.bytesLess] at k
     | cons z c =>
       simp only [Op.bytesLess,Bool.or_eq_true,Bool.and_eq_true,decide_eq_true_eq,beq_iff_eq] at h k ⊢;rcases h with h | ⟨rfl,h⟩
       . rcases k with k | ⟨rfl,k⟩
         . exact .inl (UInt8.lt_trans h k)
         . exact .inl h
       . rcases k with k | ⟨rfl,k⟩
         . exact .inl k
         . exact .inr ⟨rfl,ih h k⟩
theorem zO {a b : List UInt8} (h : Op.bytesLess a b = false) (k : Op.bytesLess b a = false) : a = b:=by
 induction a generalizing b with
 | nil=>cases b with
   | nil=>rfl
   | cons y b=>simp [Op.bytesLess] at h
 | cons x a ih=>cases b with
   | nil=>simp [Op.bytesLess] at k
   | cons y b =>
     simp only [Op.bytesLess,Bool.or_eq_false_iff,Bool.and_eq_false_iff,decide_eq_false_iff_not,beq_eq_false_iff_ne] at h k;have e : x = y:=by have h1:=UInt8.not_lt.1 h.1;have h2:=UInt8.not_lt.1 k.1;exact UInt8.le_antisymm h2 h1
     subst e;rw [ih (by rcases h.2 with h | h;exact absurd rfl h;exact h) (by rcases k.2 with h | h;exact absurd rfl h;exact h)]
def MA (x y : aJ) : aJ:=(x.1,canon (aB x.2 + aB y.2))
def tM : Nat -> List aJ -> List aJ -> List aJ
 | 0,a,b=>a ++ b
 | _ + 1,[],b=>b
 | _ + 1,x :: a,[]=>x :: a
 | k + 1,x :: a,y :: b=>if Op.bytesLess x.1 y.1 then x :: tM k a (y :: b) else if Op.bytesLess y.1 x.1 then y :: tM k (x :: a) b else MA x y :: tM k a b
theorem LC (a b : List aJ) (j k : Nat) (hj : a.length + b.length <= j) (hk : a.length + b.length <= k) : tM j a b = tM k a b:=by
 induction j generalizing k a b with
 | zero =>have ha : a = []:=List.length_eq_zero_iff.1 zo;have hb : b = []:=List.length_eq_zero_iff.1 zo;subst ha;subst hb;cases k<;>rfl
 | succ j ih =>
   cases k with
   | zero =>have ha : a = []:=List.length_eq_zero_iff.1 zo;have hb : b = []:=List.length_eq_zero_iff.1 zo;subst ha;subst hb;rfl
   | succ k =>
     cases a with
     | nil=>rfl
     | cons x a=>cases b with
       | nil=>rfl
       | cons y b =>simp only [List.length_cons] at hj hk;simp only [tM];rw [ih a (y :: b) k zi zi,ih (x :: a) b k zi zi,ih a b k zo zo]
def fJ (a b : List aJ) : List aJ:=tM (a.length + b.length) a b
theorem xS (b : List aJ) : fJ [] b = b:=by
 unfold fJ;cases b with
 | nil=>rfl
 | cons y b=>rfl
theorem xU (a : List aJ) : fJ a [] = a:=by
 unfold fJ;cases a with
 | nil=>rfl
 | cons y b=>rfl
theorem tN (x y : aJ) (a b : List aJ) : fJ (x :: a) (y :: b) = if Op.bytesLess x.1 y.1 then x :: fJ a (y :: b) else if Op.bytesLess y.1 x.1 then y :: fJ (x :: a) b else MA x y :: fJ a b:=by
 unfold fJ;rw [show (x :: a).length + (y :: b).length = (a.length + b.length + 1) + 1 by simp;omega];simp only [tM]
 rw [LC a (y :: b) (a.length + b.length + 1) (a.length + (y :: b).length) zi zm,LC (x :: a) b (a.length + b.length + 1) ((x :: a).length + b.length) zi zm,
  LC a b (a.length + b.length + 1) (a.length + b.length) zo zo]
theorem Vg (a b : List aJ) : (fJ a b).length <= a.length + b.length:=by
 obtain ⟨n,hn⟩ : ∃ n,a.length + b.length = n:=⟨_,rfl⟩;induction n using Nat.strongRecOn generalizing a b with
 | _ n ih =>
   cases a with
   | nil=>rw [xS];simp
   | cons x a=>cases b with
     | nil=>rw [xU];simp
     | cons y b =>
       rw [tN];simp only [List.length_cons] at hn ⊢;split
       . have:=ih _ (by simp only [List.length_cons];omega) a (y :: b) rfl;simp only [List.length_cons] at this ⊢;omega
       . split
         . have:=ih _ (by simp only [List.length_cons];omega) (x :: a) b rfl;simp only [List.length_cons] at this ⊢;omega
         . have:=ih _ zo a b rfl;simp only [List.length_cons] at this ⊢;omega
def bO : List aJ -> List UInt8 -> Dyadic
 | [],_=>0
 | x :: l,m=>(if x.1 = m then aB x.2 else 0) + bO l m
theorem uJ (a b : List aJ) (m : List UInt8) : bO (a ++ b) m = bO a m + bO b m:=by
 induction a with
 | nil=>simp [bO]
 | cons x a ih=>simp only [List.cons_append,bO,ih];grind
theorem PQ (a b : List aJ) (m : List UInt8) : bO (fJ a b) m = bO a m + bO b m:=by
 obtain ⟨n,hn⟩ : ∃ n,a.length + b.length = n:=⟨_,rfl⟩;induction n using Nat.strongRecOn generalizing a b with
 | _ n ih =>
   cases a with
   | nil=>rw [xS];simp [bO]
   | cons x a=>cases b with
     | nil=>rw [xU];simp [bO]
     | cons y b =>
       rw [tN];simp only [List.length_cons] at hn;split
       . have:=ih _ (by simp only [List.length_cons];omega) a (y :: b) rfl;simp only [bO] at this ⊢;rw [this];grind
       . split
         . have:=ih _ (by simp only [List.length_cons];omega) (x :: a) b rfl;simp only [bO] at this ⊢;rw [this];grind
         . rename_i h1 h2
           have:=ih _ zo a b rfl;have e : x.1 = y.1:=zO (by simpa using h1) (by simpa using h2);simp only [bO,MA,bU] at this ⊢;rw [this,e];split<;>grind
def Up (l : List aJ) : Prop:=l.Pairwise fun x y=>Op.bytesLess x.1 y.1 = true
theorem Fb (a b : List aJ) : ∀ x ∈ fJ a b,∃ y ∈ a ++ b,y.1 = x.1:=by
 obtain ⟨n,hn⟩ : ∃ n,a.length + b.length = n:=⟨_,rfl⟩;induction n using Nat.strongRecOn generalizing a b with
 | _ n ih =>
   intro z hz;cases a with
   | nil=>rw [xS] at hz;exact ⟨z,by simp [hz],rfl⟩
   | cons x a=>cases b with
     | nil=>rw [xU] at hz;exact ⟨z,by simpa using hz,rfl⟩
     | cons y b =>
       rw [tN] at hz;simp only [List.length_cons] at hn;split at hz
       . rcases List.mem_cons.1 hz with rfl | hz
         . exact ⟨z,by simp,rfl⟩
         . obtain ⟨u,hu,e⟩:=ih _ (by simp only [List.length_cons];omega) a (y :: b) rfl z hz;exact ⟨u,by simp at hu ⊢;rcases hu with h | h | h<;>simp [h],e⟩
       . split at hz
         . rcases List.mem_cons.1 hz with rfl | hz
           . exact ⟨z,by simp,rfl⟩
           . obtain ⟨u,hu,e⟩:=ih _ (by simp only [List.length_cons];omega) (x :: a) b rfl z hz;exact ⟨u,by simp at hu ⊢;rcases hu with h | h | h<;>simp [h],e⟩
         . rcases List.mem_cons.1 hz with rfl | hz
           . exact ⟨x,by simp,rfl⟩
           . obtain ⟨u,hu,e⟩:=ih _ zo a b rfl z hz;exact ⟨u,by simp at hu ⊢;rcases hu with h | h<;>simp [h],e⟩
theorem agO (a b : List aJ) (ha : Up a) (hb : Up b) : Up (fJ a b):=by
 obtain ⟨n,hn⟩ : ∃ n,a.length + b.length = n:=⟨_,rfl⟩;induction n using Nat.strongRecOn generalizing a b with
 | _ n ih =>
   cases a with
   | nil=>rw [xS];exact hb
   | cons x a=>cases b with
     | nil=>rw [xU];exact ha
     | cons y b =>
       rw [tN];simp only [List.length_cons] at hn;obtain ⟨ha1,ha2⟩:=List.pairwise_cons.1 ha;obtain ⟨hb1,hb2⟩:=List.pairwise_cons.1 hb;split
       . rename_i h
         refine List.pairwise_cons.2 ⟨fun z hz=>?_,ih _ (by simp only [List.length_cons];omega) a (y :: b) ha2 hb rfl⟩;obtain ⟨u,hu,e⟩:=Fb _ _ z hz;rw [<- e];rcases List.mem_append.1 hu with h2 | h2
         . exact ha1 u h2
         . rcases List.mem_cons.1 h2 with rfl | h2
           . exact h
           . exact zN h (hb1 u h2)
       . split
         . rename_i h0 h
           refine List.pairwise_cons.2 ⟨fun z hz=>?_,ih _ (by simp only [List.length_cons];omega) (x :: a) b ha hb2 rfl⟩;obtain ⟨u,hu,e⟩:=Fb _ _ z hz;rw [<- e];rcases List.mem_append.1 hu with h2 | h2
           . rcases List.mem_cons.1 h2 with rfl | h2
             . exact h
             . exact zN h (ha1 u h2)
           . exact hb1 u h2
         . rename_i h1 h2
           have e : x.1 = y.1:=zO (by simpa using h1) (by simpa using h2);refine List.pairwise_cons.2 ⟨fun z hz=>?_,ih _ zo a b ha2 hb2 rfl⟩;obtain ⟨u,hu,e2⟩:=Fb _ _ z hz;rw [<- e2];show Op.bytesLess x.1 u.1 = true
           rcases List.mem_append.1 hu with h3 | h3
           . exact ha1 u h3
           . rw [e];exact hb1 u h3
def pW : Nat -> List aJ -> List aJ
 | 0,l=>l
 | k + 1,l=>if l.length < 2 then l else fJ (pW k (l.take (l.length / 2))) (pW k (l.drop (l.length / 2)))
theorem Wm (l : List aJ) (j k : Nat) (hj : l.length <= j) (hk : l.length <= k) : pW j l = pW k l:=by
 induction j generalizing k l with
 | zero =>have h : l = []:=List.length_eq_zero_iff.1 zo;subst h;cases k<;>simp [pW]
 | succ j ih =>
   cases k with
   | zero =>have h : l = []:=List.length_eq_zero_iff.1 zo;subst h;simp [pW]
   | succ k =>
     simp only [pW];split
     . rfl
     . rw [ih (l.take (l.length / 2)) k zi zi,ih (l.drop (l.length / 2)) k zi zi]
def fM (l : List aJ) : List aJ:=pW l.length l
theorem Fx (l : List aJ) (h : l.length < 2) : fM l = l:=by
 unfold fM;cases l with
 | nil=>rfl
 | cons x l=>simp only [List.length_cons,pW];rw [if_pos (by simpa using h)]
theorem Mz (l : List aJ) (h : 2 <= l.length) : fM l = fJ (fM (l.take (l.length / 2))) (fM (l.drop (l.length / 2))):=by obtain ⟨k,hk⟩ : ∃ k,l.length = k + 1:=⟨l.length - 1,by omega⟩;unfold fM;rw [hk];simp only [pW];rw [if_neg zo,hk,Wm (l.take ((k + 1) / 2)) k ((l.take ((k + 1) / 2)).length) zi (Nat.le_refl _),Wm (l.drop ((k + 1) / 2)) k ((l.drop ((k + 1) / 2)).length) zi (Nat.le_refl _)]
theorem Fv {Q : List aJ -> List aJ -> Prop} (h0 : ∀ l,l.length < 2 -> Q l l) (h1 : ∀ a b c d,Q a c -> Q b d -> Q (a ++ b) (fJ c d)) (l : List aJ) : Q l (fM l):=by
 obtain ⟨n,hn⟩ : ∃ n,l.length = n:=⟨_,rfl⟩;induction n using Nat.strongRecOn generalizing l with
 | _ n ih =>
   by_cases h : l.length < 2
   . rw [Fx l h];exact h0 l h
   . rw [Mz l zo];have:=h1 _ _ _ _ (ih (l.take (l.length / 2)).length zi (l.take (l.length / 2)) rfl) (ih (l.drop (l.length / 2)).length zi (l.drop (l.length / 2)) rfl);rwa [List.take_append_drop] at this
theorem acf (l : List aJ) (m : List UInt8) : bO (fM l) m = bO l m:=
 Fv (Q:=fun l r=>bO r m = bO l m) (fun _ _=>rfl) (fun a b c d h1 h2=>by rw [PQ,uJ,h1,h2]) l
theorem ajg (l : List aJ) : Up (fM l):=
 Fv (Q:=fun _ r=>Up r) (fun l h=>by
  cases l with
  | nil=>exact List.Pairwise.nil
  | cons x l=>cases l with
    | nil=>exact List.pairwise_singleton _ _
    | cons y l=>simp at h;omega) (fun a b c d h1 h2=>agO c d h1 h2) l
theorem Fw (l : List aJ) : (fM l).length <= l.length:=
 Fv (Q:=fun l r=>r.length <= l.length) (fun _ _=>Nat.le_refl _) (fun a b c d h1 h2=>by have:=Vg c d;simp;omega) l
theorem ajf (l : List aJ) : ∀ x ∈ fM l,∃ y ∈ l,y.1 = x.1:=
 Fv (Q:=fun l r=>∀ x ∈ r,∃ y ∈ l,y.1 = x.1) (fun l _ x hx=>⟨x,hx,rfl⟩) (fun a b c d h1 h2 x hx=>by
  obtain ⟨y,hy,e⟩:=Fb c d x hx;rcases List.mem_append.1 hy with h | h
  . obtain ⟨z,hz,e2⟩:=h1 y h;exact ⟨z,by simp [hz],e2.trans e⟩
  . obtain ⟨z,hz,e2⟩:=h2 y h;exact ⟨z,by simp [hz],e2.trans e⟩) l
def fT (x : aJ) : Bool:=!(bR (aB x.2) == 0)
def bH (l : List aJ) : List aJ:=((fM l).filter fT).map fun x=>(x.1,canon (aB x.2))
def Good (l : List aJ) : Prop:=Up l /\ ∀ x ∈ l,aB x.2 ≠ 0 /\ x.2 = canon (aB x.2)
theorem uN (X : Dyadic) : (bR X == 0) = false ↔ X ≠ 0:=by
 have h : bR X = 0 ↔ X = 0:=by
  constructor
  . intro h;have h1 : dN X = 0:=by
     unfold bR dz at h;by_cases h1 : dN X < 0
     . rw [if_pos h1] at h;cases h
     . rw [if_neg h1] at h;by_cases h2 : dN X = 0
       . exact h2
       . rw [if_neg h2] at h;cases h
    have h2:=pQ X;rw [h1,tX] at h2;exact h2
  . rintro rfl;rfl
 rw [beq_eq_false_iff_ne];exact not_congr h
theorem PP (l : List aJ) (m : List UInt8) : bO (l.filter fT) m = bO l m:=by
 induction l with
 | nil=>rfl
 | cons x l ih =>
   rw [List.filter_cons];split
   . simp only [bO,ih]
   . rename_i h
     have h0 : aB x.2 = 0:=Classical.byContradiction fun hc=>h (by unfold fT;rw [(uN _).2 hc];rfl);simp only [bO,ih,h0];split<;>grind
theorem ab9 (l : List aJ) (m : List UInt8) : bO (l.map fun x=>(x.1,canon (aB x.2))) m = bO l m:=by
 induction l with
 | nil=>rfl
 | cons x l ih=>simp only [List.map_cons,bO,ih,bU]
theorem oZ (l : List aJ) (m : List UInt8) : bO (bH l) m = bO l m:=by unfold bH;rw [ab9,PP,acf]
theorem ajP {l : List aJ} (h : Up l) : Up (l.map fun x=>(x.1,canon (aB x.2))):=List.Pairwise.map _ (fun _ _ h=>h) h
theorem adT (l : List aJ) (h : Up l) : Good ((l.filter fT).map fun x=>(x.1,canon (aB x.2))):=by
 refine ⟨ajP (List.Pairwise.filter _ h),fun x hx=>?_⟩;obtain ⟨y,hy,rfl⟩:=List.mem_map.1 hx;have h2:=(List.mem_filter.1 hy).2;unfold fT at h2;refine ⟨?_,?_⟩
 . show aB (canon (aB y.2)) ≠ 0
   rw [bU];exact (uN _).1 (by simpa using h2)
 . show canon (aB y.2) = canon (aB (canon (aB y.2)))
   rw [bU]
theorem wW (l : List aJ) : Good (bH l):=adT _ (ajg l)
theorem wX (l : List aJ) : (bH l).length <= l.length:=by unfold bH;rw [List.length_map];exact Nat.le_trans (List.length_filter_le _ _) (Fw l)
theorem PR (l : List aJ) (m : List UInt8) (h : ∀ x ∈ l,x.1 ≠ m) : bO l m = 0:=by
 induction l with
 | nil=>rfl
 | cons x l ih =>simp only [bO];rw [if_neg (h x zm),ih (fun y hy=>h y (by simp [hy]))];grind
theorem Good.tail {x : aJ} {l : List aJ} (h : Good (x :: l)) : Good l:=⟨(List.pairwise_cons.1 h.1).2,fun y hy=>h.2 y (by simp [hy])⟩
theorem Good.off {x : aJ} {l : List aJ} (h : Good (x :: l)) : bO l x.1 = 0:=by refine PR _ _ (fun y hy e=>?_);have:=(List.pairwise_cons.1 h.1).1 y hy;rw [e,wR] at this;cases this
theorem Good.head {x : aJ} {l : List aJ} (h : Good (x :: l)) : bO (x :: l) x.1 = aB x.2:=by simp only [bO,if_pos,h.off];grind
theorem Good.before {x y : aJ} {l : List aJ} (h : Good (y :: l)) (hx : Op.bytesLess x.1 y.1 = true) : bO (y :: l) x.1 = 0:=by
 refine PR _ _ (fun z hz e=>?_);rcases List.mem_cons.1 hz with rfl | hz
 . rw [e,wR] at hx;cases hx
 . have:=zN hx ((List.pairwise_cons.1 h.1).1 z hz);rw [e,wR] at this;cases this
theorem QB {a b : List aJ} (ha : Good a) (hb : Good b) (h : ∀ m,bO a m = bO b m) : a = b:=by
 induction a generalizing b with
 | nil =>
   cases b with
   | nil=>rfl
   | cons y b =>have:=h y.1;rw [hb.head] at this;exact absurd this.symm (hb.2 y zm).1
 | cons x a ih =>
   cases b with
   | nil =>have:=h x.1;rw [ha.head] at this;exact absurd this (ha.2 x zm).1
   | cons y b =>
     have h1 : Op.bytesLess x.1 y.1 = false:=by
      cases hc : Op.bytesLess x.1 y.1 with
      | false=>rfl
      | true =>have:=h x.1;rw [ha.head,hb.before hc] at this;exact absurd this (ha.2 x zm).1
     have h2 : Op.bytesLess y.1 x.1 = false:=by
      cases hc : Op.bytesLess y.1 x.1 with
      | false=>rfl
      | true =>have:=h y.1;rw [hb.head,ha.before hc] at this;exact absurd this.symm (hb.2 y zm).1
     have e1 : x.1 = y.1:=zO h1 h2;have e2 : aB x.2 = aB y.2:=by have:=h x.1;rw [ha.head] at this;rw [this,e1,hb.head]
     have e3 : x = y:=by refine Prod.ext e1 ?_;rw [(ha.2 x zm).2,(hb.2 y zm).2,e2]
     subst e3
     rw [ih ha.tail hb.tail (fun m=>by
      have:=h m;simp only [bO] at this;generalize (if x.1 = m then aB x.2 else 0) = u at this
      grind)]
def zJ (V : Nat) (ts : List aJ) : Prop:=Good ts /\ (∀ t ∈ ts,fy t.1 V = true) /\ ts.length <= 4096 /\ V <= 12
theorem VD {V : Nat} {ts : List aJ} (h : zJ V ts) : vU V ts = 0:=by
 obtain ⟨⟨h1,h2⟩,h3,h4,h5⟩:=h;unfold vU;rw [if_neg zo,if_neg zo,if_pos];rw [List.all_eq_true];intro k hk;have hk : k < ts.length:=by simpa using hk
 have e : ts.getD k default = ts[k]:=by simp [hk]
 have hm:=List.getElem_mem hk;unfold nW Aa;rw [e,h3 _ hm,(uN _).2 (h2 _ hm).1];have e2 : (canon (aB ts[k].2) == ts[k].2) = true:=by rw [beq_iff_eq];exact (h2 _ hm).2.symm
 rw [e2];by_cases h0 : k = 0
 . simp [h0]
 . have hk1 : k - 1 < ts.length:=by omega
   have e3 : ts.getD (k - 1) default = ts[k - 1]:=by simp [hk1]
   have:=List.pairwise_iff_getElem.1 h1 (k - 1) k hk1 hk zo;rw [e3,fw,fw,this];simp
theorem Good.anU {l : List aJ} (h : Good l) : ∀ t ∈ l,aB t.2 = bO l t.1:=by
 induction l with
 | nil=>intro t ht;cases ht
 | cons x l ih =>
   intro t ht;rcases List.mem_cons.1 ht with rfl | ht
   . exact h.head.symm
   . have hne : ¬ x.1 = t.1:=fun e=>by have:=(List.pairwise_cons.1 h.1).1 t ht;rw [e,wR] at this;cases this
     simp only [bO,if_neg hne,ih h.tail t ht];grind
theorem ace {B : Nat} {l : List aJ} (h : ∀ x ∈ l,Sm B (aB x.2)) (m : List UInt8) : Sm (B + l.length) (bO l m):=by
 induction l with
 | nil=>exact Sm.zero _
 | cons x l ih =>
   have h1:=ih (fun y hy=>h y (by simp [hy]));have h2 : Sm B (if x.1 = m then aB x.2 else 0):=by
    split
    . exact h x zm
    . exact Sm.zero _
   exact ((h2.mono (show B <= B + l.length by omega)).add h1).mono zi
theorem ab6 {B : Nat} {l : List aJ} (h : ∀ x ∈ l,Sm B (aB x.2)) : ∀ t ∈ bH l,Sm (B + l.length) (aB t.2):=by intro t ht;rw [(wW l).anU t ht,oZ];exact ace h _
theorem ab4 (l : List aJ) : ∀ x ∈ bH l,∃ y ∈ l,y.1 = x.1:=by intro x hx;unfold bH at hx;obtain ⟨y,hy,rfl⟩:=List.mem_map.1 hx;exact ajf l y (List.mem_filter.1 hy).1
theorem ab5 {V : Nat} {l : List aJ} (hV : V <= 12) (hm : ∀ t ∈ l,fy t.1 V = true) (hl : l.length <= 4096) : zJ V (bH l):=
 ⟨wW l,fun t ht=>by obtain ⟨y,hy,e⟩:=ab4 l t ht;rw [<- e];exact hm y hy,Nat.le_trans (wX l) hl,hV⟩
theorem wV {a b : List aJ} (h : ∀ m,bO a m = bO b m) : bH a = bH b:=QB (wW a) (wW b) (fun m=>by rw [oZ,oZ,h m])
theorem ab3 (a b : List aJ) : bH (bH a ++ bH b) = bH (a ++ b):=wV (fun m=>by rw [uJ,uJ,oZ,oZ])
def dv (c : Dyadic) (l : List aJ) : List aJ:=l.map fun x=>(x.1,canon (aB x.2 * c))
theorem PS (c : Dyadic) (l : List aJ) (m : List UInt8) : bO (dv c l) m = bO l m * c:=by
 induction l with
 | nil=>simp [dv,bO]
 | cons x l ih =>simp only [dv,List.map_cons,bO] at ih ⊢;rw [ih,bU];split<;>grind
def oO (n : Nat) : List UInt8:=List.replicate n 0
def cL (n k : Nat) : List UInt8:=(List.replicate n 0).set k 1
theorem WU (n : Nat) : fy (oO n) n = true:=by unfold fy oO;rw [Bool.and_eq_true];refine ⟨?_,by simp⟩;rw [List.all_eq_true];intro c hc;rw [(List.mem_replicate.1 hc).2];rfl
theorem MH (n k : Nat) : fy (cL n k) n = true:=by
 unfold fy cL;rw [Bool.and_eq_true];refine ⟨?_,by simp⟩;rw [List.all_eq_true];intro c hc;rcases List.mem_or_eq_of_mem_set hc with h | h
 . rw [(List.mem_replicate.1 h).2];rfl
 . rw [h];rfl
def gm (n : Nat) (c : Dyadic) (l : Nat -> Dyadic) (k : Nat) : List aJ:=(oO n,canon c) :: (List.range k).map fun j=>(cL n j,canon (l j))
def eN (n : Nat) (c : Dyadic) (l : Nat -> Dyadic) (k : Nat) : List aJ:=bH (gm n c l k)
theorem Bh (n : Nat) (c : Dyadic) (l : Nat -> Dyadic) (k : Nat) : (gm n c l k).length = k + 1:=by simp [gm]
theorem af1 (n : Nat) (c : Dyadic) (l : Nat -> Dyadic) (k : Nat) : ∀ t ∈ gm n c l k,fy t.1 n = true:=by
 intro t ht;unfold gm at ht;rcases List.mem_cons.1 ht with rfl | ht
 . exact WU n
 . obtain ⟨j,_,rfl⟩:=List.mem_map.1 ht;exact MH n j
theorem af2 {B : Nat} (n : Nat) (c : Dyadic) (l : Nat -> Dyadic) (k : Nat) (hc : Sm B c) (hl : ∀ j,j < k -> Sm B (l j)) : ∀ t ∈ gm n c l k,Sm B (aB t.2):=by
 intro t ht;unfold gm at ht;rcases List.mem_cons.1 ht with rfl | ht
 . show Sm B (aB (canon c));rw [bU];exact hc
 . obtain ⟨j,hj,rfl⟩:=List.mem_map.1 ht;show Sm B (aB (canon (l j)));rw [bU];exact hl j (by simpa using hj)
theorem UA (n : Nat) (c : Dyadic) (l : Nat -> Dyadic) (k : Nat) : gm n c l (k + 1) = gm n c l k ++ [(cL n k,canon (l k))]:=by unfold gm;rw [List.range_succ,List.map_append];rfl
theorem Dn (n : Nat) (c : Dyadic) (l : Nat -> Dyadic) (k : Nat) (m : List UInt8) : bO (gm n c l (k + 1)) m = bO (gm n c l k) m + if cL n k = m then l k else 0:=by rw [UA,uJ];simp only [bO,bU];grind
theorem af3 (n : Nat) (c : Dyadic) (l : Nat -> Dyadic) (k : Nat) : bH (eN n c l k ++ bH [(cL n k,canon (l k))]) = eN n c l (k + 1):=by unfold eN;rw [ab3,UA]
theorem ab8 (n : Nat) (c d : Dyadic) (l r : Nat -> Dyadic) (u v : Dyadic) (k : Nat) (m : List UInt8) : bO (gm n (c * u + d * v) (fun j=>l j * u + r j * v) k) m = bO (gm n c l k) m * u + bO (gm n d r k) m * v:=by
 induction k with
 | zero=>simp [gm,bO,bU];split<;>grind
 | succ k ih=>rw [Dn,ih,Dn,Dn];split<;>grind
theorem af0 {n : Nat} {c d : Dyadic} {l r : Nat -> Dyadic} (k : Nat) (hc : c = d) (h : ∀ j,j < k -> l j = r j) : gm n c l k = gm n d r k:=by unfold gm;rw [hc];congr 1;refine List.map_congr_left fun j hj=>?_;rw [h j (by simpa using hj)]
theorem af4 (n : Nat) (c d : Dyadic) (l r : Nat -> Dyadic) (k : Nat) : bH (eN n c l k ++ bH (dv (-1) (eN n d r k))) = eN n (c - d) (fun j=>l j - r j) k:=by unfold eN;refine wV (fun m=>?_);rw [uJ,oZ,oZ,PS,oZ];have h:=ab8 n c d l r 1 (-1) k m;rw [af0 (d:=c - d) (r:=fun j=>l j - r j) k (by grind) (fun j _=>by grind)] at h;rw [h];grind
def gh (m : List UInt8) : List aJ -> Nat
 | []=>0
 | x :: l=>if Op.bytesLess x.1 m then gh m l + 1 else 0
theorem aaC (m : List UInt8) (l : List aJ) : gh m l <= l.length:=by
 induction l with
 | nil=>exact Nat.le_refl _
 | cons x l ih=>unfold gh;split<;>simp<;>omega
def fL (l : List aJ) (x : aJ) : List aJ:=match l with
 | []=>[(x.1,canon (aB x.2))]
 | y :: l=>if Op.bytesLess y.1 x.1 then y :: fL l x else if y.1 = x.1 then (x.1,canon (aB y.2 + aB x.2)) :: l else (x.1,canon (aB x.2)) :: y :: l
theorem VH (l : List aJ) (x : aJ) : fL l x = l.take (gh x.1 l) ++ (if (l.drop (gh x.1 l)).head?.map (·.1) = some x.1 then (x.1,canon (aB ((l.drop (gh x.1 l)).headD default).2 + aB x.2)) :: l.drop (gh x.1 l + 1) else (x.1,canon (aB x.2)) :: l.drop (gh x.1 l)):=by
 induction l with
 | nil=>simp [fL,gh]
 | cons y l ih =>
   unfold fL gh;by_cases h : Op.bytesLess y.1 x.1 = true
   . rw [if_pos h,if_pos h,ih,show List.drop (gh x.1 l + 1) (y :: l) = List.drop (gh x.1 l) l from rfl,show List.drop (gh x.1 l + 1 + 1) (y :: l) = List.drop (gh x.1 l + 1) l from rfl,List.take_succ_cons,List.cons_append]
   . rw [if_neg h,if_neg h];by_cases e : y.1 = x.1
     . rw [if_pos e];simp [e]
     . rw [if_neg e];simp [e]
theorem acb (l : List aJ) (x : aJ) (m : List UInt8) : bO (fL l x) m = bO l m + if x.1 = m then aB x.2 else 0:=by
 induction l with
 | nil=>simp only [fL,bO,bU];grind
 | cons y l ih =>
   unfold fL;split
   . simp only [bO,ih];grind
   . split
     . rename_i h e
       simp only [bO,bU,e];split<;>grind
     . simp only [bO,bU];grind
theorem ah7 (l : List aJ) (x : aJ) : ∀ y ∈ fL l x,y.1 = x.1 \/ ∃ z ∈ l,z.1 = y.1:=by
 induction l with
 | nil=>intro y hy;simp only [fL,List.mem_singleton] at hy;rw [hy];exact .inl rfl
 | cons z l ih =>
   intro y hy;unfold fL at hy;split at hy
   . rcases List.mem_cons.1 hy with rfl | hy
     . exact .inr ⟨y,by simp,rfl⟩
     . rcases ih y hy with h | ⟨u,hu,e⟩
       . exact .inl h
       . exact .inr ⟨u,by simp [hu],e⟩
   . split at hy
     . rcases List.mem_cons.1 hy with rfl | hy
       . exact .inl rfl
       . exact .inr ⟨y,by simp [hy],rfl⟩
     . rcases List.mem_cons.1 hy with rfl | hy
       . exact .inl rfl
       . exact .inr ⟨y,hy,rfl⟩
theorem aia (l : List aJ) (x : aJ) (h : Up l) : Up (fL l x):=by
 induction l with
 | nil=>exact List.pairwise_singleton _ _
 | cons y l ih =>
   obtain ⟨h1,h2⟩:=List.pairwise_cons.1 h;unfold fL;split
   . rename_i hy
     refine List.pairwise_cons.2 ⟨fun z hz=>?_,ih h2⟩;rcases ah7 l x z hz with e | ⟨u,hu,e⟩
     . rw [e];exact hy
     . rw [<- e];exact h1 u hu
   . rename_i hy
     split
     . rename_i e
       refine List.pairwise_cons.2 ⟨fun z hz=>?_,h2⟩;show Op.bytesLess x.1 z.1 = true
       rw [<- e];exact h1 z hz
     . rename_i e
       have hlt : Op.bytesLess x.1 y.1 = true:=by
        cases hc : Op.bytesLess x.1 y.1 with
        | true=>rfl
        | false=>exact absurd (zO (by simpa using hy) hc) e
       refine List.pairwise_cons.2 ⟨fun z hz=>?_,h⟩;show Op.bytesLess x.1 z.1 = true
       rcases List.mem_cons.1 hz with rfl | hz
       . exact hlt
       . exact zN hlt (h1 z hz)
theorem ah6 (l : List aJ) (x : aJ) : (fL l x).length <= l.length + 1:=by
 induction l with
 | nil=>exact Nat.le_refl _
 | cons y l ih =>
   unfold fL;split
   . simp only [List.length_cons];omega
   . split<;>simp
def fZ (l : List aJ) : List aJ:=l.foldl fL []
theorem ye (l : List aJ) (x : aJ) : fZ (l ++ [x]) = fL (fZ l) x:=by unfold fZ;rw [List.foldl_append];rfl
theorem BX {Q : List aJ -> Prop} (h0 : Q []) (h1 : ∀ l x,Q l -> Q (l ++ [x])) (l : List aJ) : Q l:=by
 have h : ∀ r : List aJ,Q r.reverse:=by
  intro r;induction r with
  | nil=>exact h0
  | cons x r ih=>rw [List.reverse_cons];exact h1 _ _ ih
 have:=h l.reverse;rwa [List.reverse_reverse] at this
theorem aie (l : List aJ) : Up (fZ l):=BX (Q:=fun l=>Up (fZ l)) List.Pairwise.nil (fun l x ih=>by rw [ye];exact aia _ _ ih) l
theorem acd (l : List aJ) (m : List UInt8) : bO (fZ l) m = bO l m:=BX (Q:=fun l=>bO (fZ l) m = bO l m) rfl (fun l x ih=>by rw [ye,acb,ih,uJ];simp only [bO];grind) l
theorem aic (l : List aJ) : (fZ l).length <= l.length:=BX (Q:=fun l=>(fZ l).length <= l.length) (Nat.le_refl _) (fun l x ih=>by rw [ye];have:=ah6 (fZ l) x;simp;omega) l
theorem ah5 (l : List aJ) (x : aJ) (h : ∀ t ∈ l,t.2 = canon (aB t.2)) : ∀ t ∈ fL l x,t.2 = canon (aB t.2):=by
 have hc : ∀ X : Dyadic,canon X = canon (aB (canon X)):=fun X=>by rw [bU]
 induction l with
 | nil=>intro t ht;simp only [fL,List.mem_singleton] at ht;rw [ht];exact hc _
 | cons y l ih =>
   intro t ht;unfold fL at ht;split at ht
   . rcases List.mem_cons.1 ht with rfl | ht
     . exact h _ zm
     . exact ih (fun t ht=>h t (by simp [ht])) t ht
   . split at ht
     . rcases List.mem_cons.1 ht with rfl | ht
       . exact hc _
       . exact h t (by simp [ht])
     . rcases List.mem_cons.1 ht with rfl | ht
       . exact hc _
       . exact h t ht
theorem VI (l : List aJ) : ∀ t ∈ fZ l,t.2 = canon (aB t.2):=BX (Q:=fun l=>∀ t ∈ fZ l,t.2 = canon (aB t.2)) (fun t ht=>by cases ht) (fun l x ih=>by rw [ye];exact ah5 _ _ ih) l
theorem adR (l : List aJ) : (fZ l).filter fT = bH l:=by refine QB ⟨List.Pairwise.filter _ (aie l),fun x hx=>?_⟩ (wW l) (fun m=>by rw [PP,acd,oZ]);obtain ⟨h1,h2⟩:=List.mem_filter.1 hx;refine ⟨(uN _).1 ?_,VI l x h1⟩;unfold fT at h2;simpa using h2
end Go.Proofs.YtdaadlblknpipaaGreatDoor
namespace Go.Proofs.YtdaadlblknpipaaGreatDoor
open Go.RowKit
attribute [local go_sem ↓] Go.wp_at_zero Go.wp_at_succ
def rJ (a b : List UInt8) : Int:=if Op.bytesLess a b then -1 else if Op.bytesLess b a then 1 else 0
theorem ai7 (l : List UInt8) (s : Bool) (m : List UInt8) (e : Int) (l' : List UInt8) (s' : Bool) (m' : List UInt8) (e' : Int) (w : World) :
 Calls Tryz.prog 100 #[.agg #[.string (bs l),.bool s,.string (bs m),.int .i64 e],.agg #[.string (bs l'),.bool s',.string (bs m'),.int .i64 e']] w fun ex w'=>ex = .returned (.int .i64 (rJ l l')) /\ Bw w w':=by
 obtain ⟨R,hR⟩ : ∃ R,rJ l l' = R:=⟨_,rfl⟩;unfold rJ at hR;rw [show rJ l l' = R from hR];obtain ⟨W,aK⟩ : ∃ W,((w.alloc (.cells #[.string (bs l),.bool s,.string (bs m),.int .i64 e] 107)).alloc (.cells #[.string (bs l'),.bool s',.string (bs m'),.int .i64 e'] 107)) = W:=⟨_,rfl⟩;have Hb : Hid (Bw w W):=by rw [<- aK];exact (zl.alloc zj _)
 have Hx : Hid (ai W (w.heap.size) 107 [.string (bs l),.bool s,.string (bs m),.int .i64 e]):=by rw [<- aK];exact (ai.newAt _ _ _ zm).alloc _
 have Hy : Hid (ai W (w.heap.size + 1) 107 [.string (bs l'),.bool s',.string (bs m'),.int .i64 e']):=by rw [<- aK];exact ai.newAt _ _ _ zm
 obtain ⟨x0,x1,x2,x3⟩:=Hx.out.c4;obtain ⟨y0,y1,y2,y3⟩:=Hy.out.c4;cases h1 : Op.bytesLess l l' with
 | true =>
   rw [h1] at hR;simp only [if_true] at hR;subst hR;have h2 : Op.bytesLess (bs l).toList (bs l').toList = true:=by rw [fw,fw];exact h1
   clear h1;go_enter Tryz.func100,Tryz.ntmps100;go_wp2;go_ret;exact ⟨rfl,Hb.out⟩
 | false =>
   rw [h1] at hR;simp only [Bool.false_eq_true,if_false] at hR;have h2 : Op.bytesLess (bs l).toList (bs l').toList = false:=by rw [fw,fw];exact h1
   cases h3 : Op.bytesLess l' l with
   | true =>
     rw [h3] at hR;simp only [if_true] at hR;subst hR;have hne : ¬ l = l':=by rintro rfl;rw [wR] at h3;cases h3
     have h4 : ((bs l).toList == (bs l').toList) = false:=by rw [fw,fw];simpa using hne
     have h5 : ¬ (bs l).toList = (bs l').toList:=by rw [fw,fw];exact hne
     clear h1 h3 hne;go_enter Tryz.func100,Tryz.ntmps100;go_wp2;go_ret;exact ⟨rfl,Hb.out⟩
   | false =>rw [h3] at hR;simp only [Bool.false_eq_true,if_false] at hR;subst hR;obtain rfl:=zO h1 h3;clear h1 h3;go_enter Tryz.func100,Tryz.ntmps100;go_wp2;go_ret;exact ⟨rfl,Hb.out⟩
theorem ajj (l : List UInt8) (s : Bool) (m : List UInt8) (e : Int) (l' : List UInt8) (s' : Bool) (m' : List UInt8) (e' : Int) (S : Dyadic) (B : Nat) (hS : aB (s,m,e) + aB (s',m',e') = S) (w : World) (hx : Fit B (s,m,e)) (hy : Fit B (s',m',e')) (hB : B + 2 <= 268435456) (hT : az w) :
 Calls Tryz.prog 101 #[.agg #[.string (bs l),.bool s,.string (bs m),.int .i64 e],.agg #[.string (bs l'),.bool s',.string (bs m'),.int .i64 e']] w fun ex w'=>ex = .returned (.agg #[.string (bs l),.bool (ar (dN S)),.string (bs (nt (dN S).natAbs)),.int .i64 (dE S)]) /\ Bw w w':=by
 have gb:=ah hx;have kr:=ah hy;have HS:=ah hS;have HT:=ah hT;clear hx hy hS hT;obtain ⟨W,aK⟩ : ∃ W,(((w.alloc (.cells #[.string (bs l),.bool s,.string (bs m),.int .i64 e] 107)).alloc (.cells #[.string (bs l'),.bool s',.string (bs m'),.int .i64 e'] 107)).alloc (.cells #[.string ⟨#[]⟩,.bool false,.string ⟨#[]⟩,.int .i64 0] 107)) = W:=⟨_,rfl⟩;have Hb : Hid (Bw w W):=by rw [<- aK];exact ((zl.alloc zj _).alloc zj _)
 have Hx : Hid (ai W (w.heap.size) 107 [.string (bs l),.bool s,.string (bs m),.int .i64 e]):=by rw [<- aK];exact ((ai.newAt _ _ _ zm).alloc _).alloc _
 have Hy : Hid (ai W (w.heap.size + 1) 107 [.string (bs l'),.bool s',.string (bs m'),.int .i64 e']):=by rw [<- aK];exact (ai.newAt _ _ _ zm).alloc _
 have Hr : Hid (ai W (w.heap.size + 1 + 1) 107 [.string ⟨#[]⟩,.bool false,.string ⟨#[]⟩,.int .i64 0]):=by rw [<- aK];exact ai.newAt _ _ _ zm
 obtain ⟨x0,x1,x2,x3⟩:=Hx.out.c4;obtain ⟨y0,y1,y2,y3⟩:=Hy.out.c4;obtain ⟨r0,aj,r1,ak,r2,aC,r3,cC⟩:=Hr.out.g4;go_enter Tryz.func101,Tryz.ntmps101;go_wp2_with fail;refine bG (fun w'=>w'.cell? ⟨w.heap.size,0,none⟩ = some (.string (bs l)) /\ w'.cell? ⟨w.heap.size,1,none⟩ = some (.bool s) /\ w'.cell? ⟨w.heap.size,2,none⟩ = some (.string (bs m)) /\ w'.cell? ⟨w.heap.size,3,none⟩ = some (.int .i64 e) /\ w'.cell? ⟨w.heap.size + 1,0,none⟩ = some (.string (bs l')) /\ w'.cell? ⟨w.heap.size + 1,1,none⟩ = some (.bool s') /\ w'.cell? ⟨w.heap.size + 1,2,none⟩ = some (.string (bs m')) /\ w'.cell? ⟨w.heap.size + 1,3,none⟩ = some (.int .i64 e')) (fun i=>Nat.blt i 9) [(0,true),(1,true),(2,true),(3,true),(4,true),(5,true),(6,false),(7,false),(8,true),(9,false)] zk zk rfl zk zc ⟨x0,x1,x2,x3,y0,y1,y2,y3⟩ ?_;iterate 6 (refine pT rfl rfl ?_ (by intro w' ⟨q0,q1,q2,q3,q4,q5,q6,q7⟩;go_simp;try with_reducible rfl);try simp only [UU])
 refine aH rfl rfl (fun K hK=>?_);go_simp;refine hK _ _ (fun _=>⟨aG x0,aG x1,aG x2,aG x3,aG y0,aG y1,aG y2,aG y3⟩) ?_;clear hK K;try simp only [UU]
 refine bJ (fun W3=>ai W3 (W.heap.size) 30 [.bool s,.string (bs m),.int .i64 e,.bool s',.string (bs m'),.int .i64 e'] /\ Bw W W3) (by first | exact dQ | exact dR) ?_;rintro W3 ⟨qv,ae⟩;clear x0 x1 x2 x3 y0 y1 y2 y3 r0 aj r1 ak r2 aC r3 cC;have agy:=Hx.out.lt;have agA:=Hy.out.lt;have ES:=Hr.out.lt;replace Hx:=kB Hx ae;replace Hy:=kB Hy ae;replace Hr:=kB Hr ae;have Hv:=ah qv;clear qv;obtain ⟨x0,x1,x2,x3⟩:=Hx.out.c4;obtain ⟨y0,y1,y2,y3⟩:=Hy.out.c4;obtain ⟨r0,aj,r1,ak,r2,aC,r3,cC⟩:=Hr.out.g4;obtain ⟨v0,v1,v2,v3,v4,v5⟩:=Hv.out.c6;replace Hb:=au Hb ae;clear ae;refine aH rfl rfl (fun K hK=>?_);go_simp;with_reducible refine (zS s m e s' m' e' S B HS.out W.heap.size _ 30 _ gb.out kr.out hB Hv.out ((HT.out.below Hb.out))).mono ?_
 rintro e w4 ⟨rfl,hq⟩;have ae : Bw W3 w4:=by first | exact hq | exact aM hq
 clear x0 x1 x2 x3 y0 y1 y2 y3 r0 aj r1 ak r2 aC r3 cC v0 v1 v2 v3 v4 v5;replace Hx:=kB Hx ae;replace Hy:=kB Hy ae;replace Hr:=kB Hr ae;replace Hv:=kB Hv ae;obtain ⟨x0,x1,x2,x3⟩:=Hx.out.c4;obtain ⟨y0,y1,y2,y3⟩:=Hy.out.c4;obtain ⟨r0,aj,r1,ak,r2,aC,r3,cC⟩:=Hr.out.g4;obtain ⟨v0,v1,v2,v3,v4,v5⟩:=Hv.out.c6;replace Hb:=au Hb ae;clear ae;refine hK _ _ (fun _=>⟨x0,x1,x2,x3,y0,y1,y2,y3⟩) ?_;clear hK K;try simp only [UU]
 refine pT rfl rfl ?_;try simp only [UU]
 refine aH rfl rfl (fun K hK=>?_);go_simp;refine hK _ _ (fun h=>absurd h zd) ?_;clear hK K;try simp only [UU]
 clear x0 x1 x2 x3 y0 y1 y2 y3 r0 aj r1 ak r2 aC r3 cC v0 v1 v2 v3 v4 v5;refine bJ (fun w5=>ai w5 (w.heap.size) 107 [.string (bs l),.bool s,.string (bs m),.int .i64 e] /\ ai w5 (w.heap.size + 1) 107 [.string (bs l'),.bool s',.string (bs m'),.int .i64 e'] /\ ai w5 (w.heap.size + 1 + 1) 107 [.string (bs l),.bool (ar (dN S)),.string (bs (nt (dN S).natAbs)),.int .i64 (dE S)] /\ ai w5 (W.heap.size) 30 [.bool s,.string (bs m),.int .i64 e,.bool s',.string (bs m'),.int .i64 e'] /\ Bw w w5) ⟨((((Hx.out.so (w.heap.size + 1 + 1) 0 zo _).so (w.heap.size + 1 + 1) 1 zo _).so (w.heap.size + 1 + 1) 2 zo _).so (w.heap.size + 1 + 1) 3 zo _),((((Hy.out.so (w.heap.size + 1 + 1) 0 zo _).so (w.heap.size + 1 + 1) 1 zo _).so (w.heap.size + 1 + 1) 2 zo _).so (w.heap.size + 1 + 1) 3 zo _),((((Hr.out.set 0 _).set 1 _).set 2 _).set 3 _),((((Hv.out.so (w.heap.size + 1 + 1) 0 zo _).so (w.heap.size + 1 + 1) 1 zo _).so (w.heap.size + 1 + 1) 2 zo _).so (w.heap.size + 1 + 1) 3 zo _),by first | exact ((((Hb.out.sc (w.heap.size + 1 + 1) 0 ZS _).sc (w.heap.size + 1 + 1) 1 ZS _).sc (w.heap.size + 1 + 1) 2 ZS _).sc (w.heap.size + 1 + 1) 3 ZS _) | exact Below.drew ((((Hb.out.sc (w.heap.size + 1 + 1) 0 ZS _).sc (w.heap.size + 1 + 1) 1 ZS _).sc (w.heap.size + 1 + 1) 2 ZS _).sc (w.heap.size + 1 + 1) 3 ZS _)⟩ ?_;rintro w5 ⟨qx,qy,qr,qv,ae⟩;replace Hx:=ah qx;clear qx;replace Hy:=ah qy;clear qy;replace Hr:=ah qr;clear qr;replace Hv:=ah qv;clear qv;obtain ⟨x0,x1,x2,x3⟩:=Hx.out.c4;obtain ⟨y0,y1,y2,y3⟩:=Hy.out.c4;obtain ⟨r0,aj,r1,ak,r2,aC,r3,cC⟩:=Hr.out.g4;obtain ⟨v0,v1,v2,v3,v4,v5⟩:=Hv.out.c6;replace Hb:=ah ae;clear ae;simp only [aU];go_wp2;refine bodyPost_ret (v:=.agg #[.string (bs l),.bool (ar (dN S)),.string (bs (nt (dN S).natAbs)),.int .i64 (dE S)]) (by simp [results,Tryz.results101,go_sem,r0,r1,r2,r3]) rfl ⟨rfl,?_⟩;(repeat first | exact Hb.out | (refine Below.setCell ?_ (by have:=Hb.out.size;first | (dsimp only;omega) | (show _ <= _;omega) | (simp<;>omega)) _) | (refine Below.alloc ?_ zt _) | refine Below.drew ?_)
theorem abZ (l : List UInt8) (s : Bool) (m : List UInt8) (e : Int) (w : World) (hx : Ok (s,m,e)) :
 Calls Tryz.prog 138 #[.agg #[.string (bs l),.bool s,.string (bs m),.int .i64 e]] w fun ex w'=>ex = .returned (.bool (!fT (l,s,m,e))) /\ Bw w w':=by
 obtain ⟨g,hg⟩ : ∃ g,bR (aB (s,m,e)) = g:=⟨_,rfl⟩;have hs:=fun W=>lR s m e g hg W hx;have hz : (!fT (l,s,m,e)) = decide (g = 0):=by unfold fT;rw [hg];by_cases h : g = 0<;>simp [h]
 rw [hz];have Hs:=ah hs;clear hs hz hg hx;obtain ⟨W,aK⟩ : ∃ W,(w.alloc (.cells #[.string (bs l),.bool s,.string (bs m),.int .i64 e] 107)) = W:=⟨_,rfl⟩;have Hb : Hid (Bw w W):=by rw [<- aK];exact zl
 have Hx : Hid (ai W (w.heap.size) 107 [.string (bs l),.bool s,.string (bs m),.int .i64 e]):=by rw [<- aK];exact ai.newAt _ _ _ zm
 obtain ⟨x0,x1,x2,x3⟩:=Hx.out.c4;go_enter Tryz.func138,Tryz.ntmps138;go_wp2_with fail;refine (Hs.out _).mono ?_;rintro e w1 ⟨rfl,ae⟩;clear x0 x1 x2 x3;replace Hx:=kB Hx ae;obtain ⟨x0,x1,x2,x3⟩:=Hx.out.c4;replace Hb:=au Hb ae;clear ae;go_wp2;refine bodyPost_ret (results_tmp rfl _ _ _) rfl ⟨?_,Hb.out⟩;by_cases h : g = 0<;>simp [h]
theorem agF (l : List UInt8) (s : Bool) (m : List UInt8) (e : Int) (V : Int) (bv : Nat) (w : World) (hv : w.cell? ⟨bv,0,none⟩ = some (.int .i64 V)) (hl : l.length <= 9223372036854775807) :
 Calls Tryz.prog 135 #[.agg #[.string (bs l),.bool s,.string (bs m),.int .i64 e],.pointer (some ⟨bv,0,none⟩)] w fun ex w'=>ex = .returned (.bool (!fy l V)) /\ Bw w w':=by
 have hm:=fun W=>LB l V W hl;obtain ⟨t,ht⟩ : ∃ t,fy l V = t:=⟨_,rfl⟩;rw [ht] at hm ⊢;have Hm:=ah hm;have Hv:=ah hv;clear hm ht hv;obtain ⟨W,aK⟩ : ∃ W,(w.alloc (.cells #[.string (bs l),.bool s,.string (bs m),.int .i64 e] 107)) = W:=⟨_,rfl⟩;have Hb : Hid (Bw w W):=by rw [<- aK];exact zl
 have Hx : Hid (ai W (w.heap.size) 107 [.string (bs l),.bool s,.string (bs m),.int .i64 e]):=by rw [<- aK];exact ai.newAt _ _ _ zm
 obtain ⟨x0,x1,x2,x3⟩:=Hx.out.c4;have hv2:=cell_later Hb.out Hv.out;go_enter Tryz.func135,Tryz.ntmps135;go_wp2_with fail;refine (Hm.out _).mono ?_;rintro e w1 ⟨rfl,ae⟩;clear x0 x1 x2 x3;replace Hx:=kB Hx ae;obtain ⟨x0,x1,x2,x3⟩:=Hx.out.c4;replace Hb:=au Hb ae;clear ae hv2;go_wp2;refine bodyPost_ret (results_tmp rfl _ _ _) rfl ⟨rfl,Hb.out⟩
def jU {α : Type} (p : α -> Bool) : List α -> Nat -> Int
 | [],_=>-1
 | v :: l,k=>if p v then (k : Int) else jU p l (k + 1)
theorem Ul {α : Type} (p : α -> Bool) (l : List α) (k n : Nat) (h : n < l.length) : jU p (l.drop n) k = if p l[n] then (k : Int) else jU p (l.drop (n + 1)) (k + 1):=by rw [List.drop_eq_getElem_cons h];rfl
theorem Uk {α : Type} (p : α -> Bool) (l : List α) (k : Nat) : decide (0 <= jU p l k) = l.any p:=by
 induction l generalizing k with
 | nil=>rfl
 | cons v l ih =>
   unfold jU;rw [List.any_cons];by_cases h : p v = true
   . rw [if_pos h,h,Bool.true_or];simp
   . rw [if_neg h,ih];simp [h]
theorem Um {α : Type} (p : α -> Bool) (l : List α) (k : Nat) : (jU p l k = -1 /\ ∀ x ∈ l,p x = false) \/ ∃ i,∃ h : i < l.length,jU p l k = ((k + i : Nat) : Int) /\ p l[i] = true /\ ∀ j (hj : j < i),p (l[j]'zo) = false:=by
 induction l generalizing k with
 | nil=>exact .inl ⟨rfl,fun x hx=>by cases hx⟩
 | cons v l ih =>
   unfold jU;by_cases h : p v = true
   . rw [if_pos h];exact .inr ⟨0,by simp,rfl,h,fun j hj=>by omega⟩
   . rw [if_neg h];rcases ih (k + 1) with ⟨h1,h2⟩ | ⟨i,h1,h2,h3,h4⟩
     . exact .inl ⟨h1,fun x hx=>by rcases List.mem_cons.1 hx with rfl | hx;simpa using h;exact h2 x hx⟩
     . refine .inr ⟨i + 1,by simpa using h1,by rw [h2];congr 1;omega,by simpa using h3,fun j hj=>?_⟩;cases j with
       | zero=>simpa using h
       | succ j=>simpa using h4 j zo
structure Pv where
 V : Int
 a : Option Addr
 n : Nat
 c : Nat
def ke (p : Pv) : List Value:=[.int .i64 p.V,.slice p.a p.n p.c]
theorem At.anH {w : World} {a : Option Addr} {ps : List Pv} (h : At w a (ps.flatMap ke)) (k : Nat) (hk : k < ps.length) {V : Int} {a' : Option Addr} {n c : Nat} (hx : ps[k] = ⟨V,a',n,c⟩) :
 ∃ b o,a = some ⟨b,o,none⟩ /\ bo w b (o + k * 2) [.int .i64 V,.slice a' n c]:=by
 obtain ⟨b,o,hab,hcs⟩:=h.elem (f:=ke) (sz:=2) (fun _=>rfl) zd k hk;refine ⟨b,o,hab,fun j hj=>?_⟩;have:=hcs j hj;rw [hx] at this;rw [this];unfold ke;rw [List.getElem?_eq_getElem (by simpa using hj)]
theorem Lg (a : Option Addr) (n cap : Nat) (vals : List aJ) (gf : Nat) (lb : Array Value) (p : aJ -> Bool) (w : World) (hn : vals.length = n) (hl : n <= 1099511627776) (ha : At w a (vals.flatMap aL))
 (eg : ∀ args w,(callFunc gf args).run Tryz.prog w = .ok (.enter gf args) w)
 (hcl : ∀ x ∈ vals,∀ W,Bw w W -> Calls Tryz.prog gf (#[.agg #[.string (bs x.1),.bool x.2.1,.string (bs x.2.2.1),.int .i64 x.2.2.2]] ++ lb) W fun e w'=>e = .returned (.bool (p x)) /\ Bw W w') :
 Calls Tryz.prog 163 #[.slice a n cap,.func (.func gf) #[] lb] w fun e w'=>e = .returned (.int .i64 (jU p vals 0)) /\ Bw w w':=by
 have Hn:=ah hn;have Ha:=ah ha;have gq:=ah hcl;have nD:=ah eg;clear hn ha hcl eg;have Hb : Hid (Bw w w):=Below.refl _ _;go_enter Tryz.func163,Tryz.ntmps163;go_wp2_with fail;go_loopw [5,8] (fun _ i wr=>∃ k : Nat,k <= n /\ i = .int .i64 (k : Int) /\ jU p vals 0 = jU p (vals.drop k) k /\ Bw w wr) (fun _ i _=>n - (intOf i).toNat);case atStart=>exact ⟨0,Nat.zero_le _,rfl,rfl,Hb.out⟩
 case round=>
  clear Hb;obtain ⟨k,hk,rfl,fQ,pb⟩:=hrel;have kV:=ah fQ;have Hb:=ah pb;clear fQ pb;by_cases hlt : k < n
  . have bi : k < vals.length:=by rw [Hn.out];exact hlt
    obtain ⟨l,s,m,e,hx⟩ : ∃ l s m e,vals[k] = (l,s,m,e):=⟨_,_,_,_,rfl⟩;obtain ⟨b,o,hab,cn⟩:=(Ha.out.below Hb.out).term k bi hx;obtain ⟨q0,q1,q2,q3⟩:=cn.w4;have bD:=iG n cap k (k : Int) hab hlt rfl;have hcall:=gq.out _ (List.getElem_mem bi) wr Hb.out;have hstep:=Ul p vals k k bi;rw [<- kV.out] at hstep;rw [hx] at hcall hstep;have gg:=ah hstep;have jI:=ah hcall;have qC:=nD.out;clear cn hab hx hstep hcall;go_wp2_with fail;refine jI.out.mono ?_;rintro e9 w1 ⟨rfl,hb1⟩;replace Hb:=ah (aI Hb.out hb1);clear hb1 q0 q1 q2 q3 bD qC;obtain ⟨t,ht⟩ : ∃ t,p (l,s,m,e) = t:=⟨_,rfl⟩;rw [ht] at gg ⊢;clear ht;cases t with
    | true =>go_wp2;refine bodyPost_ret (results_tmp rfl _ _ _) rfl ⟨?_,Hb.out⟩;have h:=gg.out;rw [if_pos (by trivial)] at h;rw [h];rfl
    | false =>
      go_wp2;go_roundw;case rel=>exact ⟨k + 1,by omega,by go_num,by have h:=gg.out;rw [if_neg zd] at h;exact h,Hb.out⟩
      case measure=>simp [intOf];omega
  . obtain rfl : k = n:=by omega
    go_wp2;refine bodyPost_ret (results_tmp rfl _ _ _) rfl ⟨?_,Hb.out⟩;have h:=kV.out;rw [List.drop_of_length_le (by rw [Hn.out];exact Nat.le_refl _)] at h;rw [h];rfl
theorem acl (a : Option Addr) (n cap : Nat) (vals : List aJ) (gf : Nat) (lb : Array Value) (p : aJ -> Bool) (w : World) (hn : vals.length = n) (hl : n <= 1099511627776) (ha : At w a (vals.flatMap aL))
 (eg : ∀ args w,(callFunc gf args).run Tryz.prog w = .ok (.enter gf args) w)
 (hcl : ∀ x ∈ vals,∀ W,Bw w W -> Calls Tryz.prog gf (#[.agg #[.string (bs x.1),.bool x.2.1,.string (bs x.2.2.1),.int .i64 x.2.2.2]] ++ lb) W fun e w'=>e = .returned (.bool (p x)) /\ Bw W w') :
 Calls Tryz.prog 134 #[.slice a n cap,.func (.func gf) #[] lb] w fun e w'=>e = .returned (.bool (vals.any p)) /\ Bw w w':=by
 have h1:=Lg a n cap vals gf lb p w hn hl ha eg hcl;rw [<- Uk p vals 0];generalize jU p vals 0 = i at *;have H1:=ah h1;clear h1 hcl eg ha hn;have Hb : Hid (Bw w w):=Below.refl _ _;go_enter Tryz.func134,Tryz.ntmps134;go_wp2_with fail;refine (H1.out).mono ?_;rintro e w1 ⟨rfl,ae⟩;replace Hb:=au Hb ae;clear ae;go_wp2;refine bodyPost_ret (v:=.bool (decide (0 <= i))) (by simp [results,Tryz.results134,go_sem]) rfl ⟨rfl,?_⟩;(repeat first | exact Hb.out | (refine Below.setCell ?_ (by have:=Hb.out.size;first | (dsimp only;omega) | (show _ <= _;omega) | (simp<;>omega)) _) | (refine Below.alloc ?_ zt _) | refine Below.drew ?_)
theorem afs (a : Option Addr) (n cap : Nat) (vals : List Pv) (gf : Nat) (lb : Array Value) (p : Pv -> Bool) (w : World) (hn : vals.length = n) (hl : n <= 1099511627776) (ha : At w a (vals.flatMap ke))
 (eg : ∀ args w,(callFunc gf args).run Tryz.prog w = .ok (.enter gf args) w)
 (hcl : ∀ x ∈ vals,∀ W,Bw w W -> Calls Tryz.prog gf (#[.agg #[.int .i64 x.V,.slice x.a x.n x.c]] ++ lb) W fun e w'=>e = .returned (.bool (p x)) /\ Bw W w') :
 Calls Tryz.prog 164 #[.slice a n cap,.func (.func gf) #[] lb] w fun e w'=>e = .returned (.int .i64 (jU p vals 0)) /\ Bw w w':=by
 have Hn:=ah hn;have Ha:=ah ha;have gq:=ah hcl;have nD:=ah eg;clear hn ha hcl eg;have Hb : Hid (Bw w w):=Below.refl _ _;go_enter Tryz.func164,Tryz.ntmps164;go_wp2_with fail;go_loopw [5,8] (fun _ i wr=>∃ k : Nat,k <= n /\ i = .int .i64 (k : Int) /\ jU p vals 0 = jU p (vals.drop k) k /\ Bw w wr) (fun _ i _=>n - (intOf i).toNat);case atStart=>exact ⟨0,Nat.zero_le _,rfl,rfl,Hb.out⟩
 case round=>
  clear Hb;obtain ⟨k,hk,rfl,fQ,pb⟩:=hrel;have kV:=ah fQ;have Hb:=ah pb;clear fQ pb;by_cases hlt : k < n
  . have bi : k < vals.length:=by rw [Hn.out];exact hlt
    obtain ⟨V,a1,n1,c1,hx⟩ : ∃ V a1 n1 c1,vals[k] = ⟨V,a1,n1,c1⟩:=⟨_,_,_,_,rfl⟩;obtain ⟨b,o,hab,cn⟩:=(Ha.out.below Hb.out).anH k bi hx;obtain ⟨q0,q1⟩:=cn.w2;have bD:=vC n cap k (k : Int) hab hlt rfl;have hcall:=gq.out _ (List.getElem_mem bi) wr Hb.out;have hstep:=Ul p vals k k bi;rw [<- kV.out] at hstep;rw [hx] at hcall hstep;have gg:=ah hstep;have jI:=ah hcall;have qC:=nD.out;clear cn hab hx hstep hcall;go_wp2_with fail;refine jI.out.mono ?_;rintro e9 w1 ⟨rfl,hb1⟩;replace Hb:=ah (aI Hb.out hb1);clear hb1 q0 q1 bD qC;obtain ⟨t,ht⟩ : ∃ t,p ⟨V,a1,n1,c1⟩ = t:=⟨_,rfl⟩;rw [ht] at gg ⊢;clear ht;cases t with
    | true =>go_wp2;refine bodyPost_ret (results_tmp rfl _ _ _) rfl ⟨?_,Hb.out⟩;have h:=gg.out;rw [if_pos (by trivial)] at h;rw [h];rfl
    | false =>
      go_wp2;go_roundw;case rel=>exact ⟨k + 1,by omega,by go_num,by have h:=gg.out;rw [if_neg zd] at h;exact h,Hb.out⟩
      case measure=>simp [intOf];omega
  . obtain rfl : k = n:=by omega
    go_wp2;refine bodyPost_ret (results_tmp rfl _ _ _) rfl ⟨?_,Hb.out⟩;have h:=kV.out;rw [List.drop_of_length_le (by rw [Hn.out];exact Nat.le_refl _)] at h;rw [h];rfl
theorem acm (a : Option Addr) (n cap : Nat) (vals : List Pv) (gf : Nat) (lb : Array Value) (p : Pv -> Bool) (w : World) (hn : vals.length = n) (hl : n <= 1099511627776) (ha : At w a (vals.flatMap ke))
 (eg : ∀ args w,(callFunc gf args).run Tryz.prog w = .ok (.enter gf args) w)
 (hcl : ∀ x ∈ vals,∀ W,Bw w W -> Calls Tryz.prog gf (#[.agg #[.int .i64 x.V,.slice x.a x.n x.c]] ++ lb) W fun e w'=>e = .returned (.bool (p x)) /\ Bw W w') :
 Calls Tryz.prog 139 #[.slice a n cap,.func (.func gf) #[] lb] w fun e w'=>e = .returned (.bool (vals.any p)) /\ Bw w w':=by
 have h1:=afs a n cap vals gf lb p w hn hl ha eg hcl;rw [<- Uk p vals 0];generalize jU p vals 0 = i at *;have H1:=ah h1;clear h1 hcl eg ha hn;have Hb : Hid (Bw w w):=Below.refl _ _;go_enter Tryz.func139,Tryz.ntmps139;go_wp2_with fail;refine (H1.out).mono ?_;rintro e w1 ⟨rfl,ae⟩;replace Hb:=au Hb ae;clear ae;go_wp2;refine bodyPost_ret (v:=.bool (decide (0 <= i))) (by simp [results,Tryz.results139,go_sem]) rfl ⟨rfl,?_⟩;(repeat first | exact Hb.out | (refine Below.setCell ?_ (by have:=Hb.out.size;first | (dsimp only;omega) | (show _ <= _;omega) | (simp<;>omega)) _) | (refine Below.alloc ?_ zt _) | refine Below.drew ?_)
end Go.Proofs.YtdaadlblknpipaaGreatDoor
