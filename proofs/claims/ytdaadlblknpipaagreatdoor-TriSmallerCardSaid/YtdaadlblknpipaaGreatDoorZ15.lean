/- An own row cut short,cleared behind;an own row as a whole block. -/
import Derived.Test.YtdaadlblknpipaaGreatDoorZ12
import Derived.Laws.CopyRow
import Derived.Laws.AppendOwnNone
import Derived.Deep.DeepAppendRoom
import Derived.Test.YtdaadlblknpipaaGreatDoorZ14
set_option linter.unusedVariables false
set_option linter.unusedSimpArgs false
set_option maxRecDepth 100000
set_option maxHeartbeats 16000000
namespace Go.Proofs.YtdaadlblknpipaaGreatDoor
open Go.RowKit
theorem VD {w : World} {base : Nat} {e : TypeId} {size n cap g : Nat} {xs : List Value} (h : w.ownsRow base e size (.slice (some ⟨g,0,none⟩) n cap) n xs) (i : Nat) (hi : i <= n) :
 w.ownsRow base e size (.slice (some ⟨g,0,none⟩) i cap) i (xs.take (i * size)):=by
 have ED : i * size <= n * size:=Nat.mul_le_mul_right _ hi;refine ⟨by rw [List.length_take,h.1];omega,?_⟩;rcases h.2 with ⟨h1,_⟩ | ⟨g',cap',cur,h1,hb,hg,h4,h5,h6,hx⟩
 . simp at h1
 . simp only [Value.slice.injEq,Option.some.injEq,Addr.mk.injEq,and_true,true_and] at h1;obtain ⟨rfl,rfl⟩:=h1;refine .inr ⟨g,cap,cur,rfl,hb,hg,by omega,h5,h6,?_⟩;rw [<- hx,List.take_take,Nat.min_eq_left ED]
theorem ym {w : World} {base : Nat} {e : TypeId} {size n : Nat} {v : Value} {xs : List Value} (h : w.ownsRow base e size v n xs) (hn : 0 < n) : ∃ g cap,v = .slice (some ⟨g,0,none⟩) n cap /\ base <= g /\ g < w.heap.size /\ n <= cap:=by
 rcases h.2 with ⟨_,h1⟩ | ⟨g,cap,cur,h1,hb,hg,h4,_⟩
 . omega
 . exact ⟨g,cap,h1,hb,(Array.getElem?_eq_some_iff.1 hg).1,h4⟩
theorem ahK {w : World} {base : Nat} {e : TypeId} {size n cap g : Nat} {xs : List Value} (h : w.ownsRow base e size (.slice (some ⟨g,0,none⟩) n cap) n xs) (o : Nat) (vs : List Value) (ho : n * size <= o) (cur : Array Value) (AG : w.heap[g]? = some (.cells cur e (0,0))) (hl : o + vs.length <= cur.size) :
 (w.setRow g (cur.toList.take o ++ vs ++ cur.toList.drop (o + vs.length)).toArray).ownsRow base e size (.slice (some ⟨g,0,none⟩) n cap) n xs /\ w.grownBy (w.setRow g (cur.toList.take o ++ vs ++ cur.toList.drop (o + vs.length)).toArray) (some g):=by
 have hh:=setRow_heap w g cur (cur.toList.take o ++ vs ++ cur.toList.drop (o + vs.length)).toArray e (0,0) AG;constructor
 . refine ⟨h.1,?_⟩;rcases h.2 with ⟨h1,_⟩ | ⟨g',cap',cur',h1,hb,hg,h4,h5,h6,hx⟩
   . simp at h1
   . simp only [Value.slice.injEq,Option.some.injEq,Addr.mk.injEq,and_true,true_and] at h1;obtain ⟨rfl,rfl⟩:=h1;rw [AG] at hg;simp only [Option.some.injEq,Obj.cells.injEq,and_true] at hg;subst hg;refine .inr ⟨g,cap,_,rfl,hb,hh,h4,h5,?_,?_⟩
     . rw [<- h6];have hcl : cur.toList.length = cur.size:=Array.length_toList;simp only [List.size_toArray,List.length_append,List.length_take,List.length_drop,hcl];omega
     . rw [<- hx];have hcl : cur.toList.length = cur.size:=Array.length_toList;simp only [List.append_assoc];rw [List.take_append_of_le_length (by rw [List.length_take,hcl];omega),List.take_take,Nat.min_eq_left ho]
 . refine ⟨rfl,rfl,rfl,by simp [World.setRow],fun k hk hne=>?_⟩;unfold World.setRow;simp only [Array.getElem?_modify];rw [if_neg (fun e=>hne (by rw [e]))]
theorem We {P : Program} (w : World) (t e : TypeId) (z : Value) (size : Nat) (ht : P.underlying t = some (.slice e)) (hv : ∀ w,(zeroValue e).run P w = .ok z w) (hz : z.cells.size = size) (h1 : ∀ v ∈ z.cells.toList,v.oneCell' = true) (g n m cap c : Nat) (base : Nat) (xs : List Value)
 (h : w.ownsRow base e size (.slice (some ⟨g,0,none⟩) n cap) n xs) (hm : n + m <= cap) :
 ∃ w',(∀ ty,(Builtin.clear_ #[t] ty #[.slice (some ⟨g,n * size,none⟩) m c]).run P w = .ok (.tuple #[]) w') /\ w'.ownsRow base e size (.slice (some ⟨g,0,none⟩) n cap) n xs /\ w.grownBy w' (some g):=by
 rcases h.2 with ⟨h2,_⟩ | ⟨g',cap',cur,h2,hb,hg,h4,h5,h6,hx⟩
 . simp at h2
 simp only [Value.slice.injEq,Option.some.injEq,Addr.mk.injEq,and_true,true_and] at h2;obtain ⟨rfl,rfl⟩:=h2;by_cases hm0 : m = 0
 . subst hm0;refine ⟨w,fun ty=>?_,h,World.grownBy.refl _ _⟩;simp [Builtin.clear_,run_underlying ht]
 . obtain ⟨vs,hvs⟩ : ∃ vs,(Builtin.zeroCells z.cells m).toList = vs:=⟨_,rfl⟩;have hvl : vs.length = m * size:=by rw [<- hvs,Array.length_toList,size_zeroCells,hz]
   have KV : ∀ v ∈ vs,v.oneCell' = true:=by
    intro v hv2;rw [<- hvs] at hv2;unfold Builtin.zeroCells at hv2;simp only [Array.toList_map,Array.toList_range,List.mem_map,List.mem_range] at hv2;obtain ⟨i,hi,rfl⟩:=hv2;have hs : 0 < z.cells.size:=by
     rcases Nat.eq_zero_or_pos z.cells.size with h0 | h0
     . rw [h0] at hi;simp at hi
     . exact h0
    have:=Nat.mod_lt i hs;rw [getElem!_pos z.cells (i % z.cells.size) this];exact h1 _ zm
   have hle : n * size + 0 + vs.length <= cur.size:=by rw [hvl,h6];have:=Nat.mul_le_mul_right size hm;rw [Nat.add_mul] at this;omega
   have hst:=run_storeCells_at (P:=P) g (n * size) e vs 0 cur w hg hle KV;obtain ⟨k1,k2⟩:=ahK h (n * size) vs (Nat.le_refl _) cur hg zo;refine ⟨_,fun ty=>?_,k1,k2⟩;obtain ⟨m',rfl⟩ : ∃ m',m = m' + 1:=⟨m - 1,by omega⟩;simp [Builtin.clear_,run_underlying ht,hv,hvs,hst]
def Sl (a : Option Addr) (n cap : Nat) : Prop:=n <= cap /\ (a = none -> cap = 0)
theorem Sl.nil : Sl none 0 0:=⟨Nat.le_refl _,fun _=>rfl⟩
theorem Sl.some (x : Addr) (n cap : Nat) (h : n <= cap) : Sl (some x) n cap:=⟨h,fun e=>by cases e⟩
theorem ud {w : World} {base : Nat} {e : TypeId} {size n k cap : Nat} {a : Option Addr} {xs : List Value} (h : w.ownsRow base e size (.slice a k cap) n xs) : Sl a k cap:=by
 rcases h.2 with ⟨h1,_⟩ | ⟨g,cap',cur,h1,hb,hg,h4,_⟩
 . simp only [Value.slice.injEq] at h1;obtain ⟨rfl,rfl,rfl⟩:=h1;exact Sl.nil
 . simp only [Value.slice.injEq] at h1;obtain ⟨rfl,rfl,rfl⟩:=h1;exact Sl.some _ _ _ h4
theorem Xb {P : Program} {w : World} {ops : Array Oper} {rest : List Oper} {o : Oper} {a : Act} {Q : Exit -> Act -> World -> Prop} (hgd : o.guard = none) (s x : Operand) (t : TypeId)
 (ho : o.op = .call { callee:=.builtin .append,args:=#[s,x],argTypes:=#[t,t] })
 (base : Nat) (e : TypeId) (i : TypeInfo) (z : Value) (size bytes : Nat) (ht : P.underlying t = Option.some (.slice e)) (hi : P.info? e = Option.some i) (hz : i.zero = Option.some z)
 (hsize : i.size = size) (hby : i.bytes = bytes) (hzs : z.cells.size = size) (hsz : 0 < size)
 (v : Value) (n : Nat) (xs : List Value) (hs : a.eval s = v) (hown : w.ownsRow base e size v n xs)
 (aa : Option Addr) (m c : Nat) (news : List Value) (hx : a.eval x = .slice aa m c) (hsl : aa = none -> m = 0 /\ c = 0) (hl : news.length = m * size) (hat : At w aa news) (h1 : ∀ u ∈ news,u.oneCell' = true)
 (h63 : n + m <= maxLen) (hbytes : (n + m) * bytes <= 140737488355328) (hbase : base <= w.heap.size)
 (h : ∀ v' w',w'.ownsRow base e size v' (n + m) (xs ++ news) -> w.grownBy w' v.ownBlock -> (v'.ownBlock = v.ownBlock \/ v'.ownBlock = Option.some w.heap.size) -> wpList P ops Q rest (a.put o.dst v') w') :
 wpList P ops Q (o :: rest) a w:=by
 cases aa with
 | none =>obtain ⟨hm,hc⟩:=hsl rfl;subst hc;subst hm;have hn : news = []:=List.eq_nil_of_length_eq_zero (by simpa using hl);subst hn;refine wpList_append_own_none hgd s x t ho base e i size ht hi v n xs hs hown hx ?_;exact h v w (by simpa using hown) (World.grownBy.refl _ _) (.inl rfl)
 | some ad =>
   refine wpList_append_own_at w hgd s x t ho base e i z size bytes ht hi hz hsize hby hzs hsz v n xs hs hown ad m c news hx hl ?_ h1 h63 hbytes hbase (fun v' w' h2 h3 _ h5=>h v' w' h2 h3 h5);intro j u hj;rcases hat with h0 | ⟨b,o',e',hc⟩
   . subst h0;simp at hj
   . simp only [Option.some.injEq] at e';subst e';have hjl:=(List.getElem?_eq_some_iff.1 hj).1;have e2 : ((⟨b,o',none⟩ : Addr).add j) = ⟨b,o' + j,none⟩:=by unfold Addr.add;cases j<;>simp
     rw [e2,hc j hjl];exact hj
theorem qE {P : Program} {w : World} {ops : Array Oper} {rest : List Oper} {o : Oper} {a : Act} {Q : Exit -> Act -> World -> Prop} (hgd : o.guard = none) (s x : Operand) (t : TypeId)
 (ho : o.op = .call { callee:=.builtin .append,args:=#[s,x],argTypes:=#[t,t] })
 (base : Nat) (e : TypeId) (i : TypeInfo) (z : Value) (size bytes : Nat) (ht : P.underlying t = Option.some (.slice e)) (hi : P.info? e = Option.some i) (hz : i.zero = Option.some z)
 (hsize : i.size = size) (hby : i.bytes = bytes) (hzs : z.cells.size = size) (hsz : 0 < size)
 (v : Value) (n : Nat) (xs : List Value) (hs : a.eval s = v) (hown : w.ownsRow base e size v n xs)
 (aa : Option Addr) (m c : Nat) (news : List Value) (hx : a.eval x = .slice aa m c) (hsl : Sl aa m c) (hl : news.length = m * size) (hat : At w aa news) (h1 : ∀ u ∈ news,u.oneCell' = true)
 (h63 : n + m <= maxLen) (hbytes : (n + m) * bytes <= 140737488355328) (hbase : base <= w.heap.size)
 (h : ∀ v' w',w'.ownsRow base e size v' (n + m) (xs ++ news) -> w.grownBy w' v.ownBlock -> (v'.ownBlock = v.ownBlock \/ v'.ownBlock = Option.some w.heap.size) -> wpList P ops Q rest (a.put o.dst v') w') :
 wpList P ops Q (o :: rest) a w:=
 Xb hgd s x t ho base e i z size bytes ht hi hz hsize hby hzs hsz v n xs hs hown aa m c news hx (fun e=>⟨by have h1:=hsl.1;have h2:=hsl.2 e;omega,hsl.2 e⟩) hl hat h1 h63 hbytes hbase h
theorem At.cut {w : World} {a : Option Addr} {xs : List Value} {k cap size n : Nat} (h : At w a xs) (hl : xs.length = n * size) (hk : k <= n) (hc : n <= cap) : At w (if cap = k then a else a.map (·.add (k * size))) (xs.drop (k * size)):=by
 rcases h with h0 | ⟨b,o,rfl,hcs⟩
 . subst h0;simp;exact .inl rfl
 . by_cases e : cap = k
   . have : xs.drop (k * size) = []:=List.drop_of_length_le (by rw [hl];exact Nat.mul_le_mul_right _ zo);rw [this];exact .inl rfl
   . rw [if_neg e];have e2 : ((⟨b,o,none⟩ : Addr).add (k * size)) = ⟨b,o + k * size,none⟩:=by unfold Addr.add;split<;>simp_all
     refine .inr ⟨b,o + k * size,by rw [Option.map_some,e2],fun j hj=>?_⟩;rw [List.length_drop] at hj;rw [Nat.add_assoc,hcs _ zo,List.getElem?_drop]
theorem Sl.cut {a : Option Addr} {k cap size n : Nat} (h : Sl a n cap) (hk : k <= n) : Sl (if cap = k then a else a.map (·.add (k * size))) (n - k) (cap - k):=by
 refine ⟨by have:=h.1;omega,fun e=>?_⟩;by_cases e1 : cap = k
 . omega
 . rw [if_neg e1] at e
   have:=h.2 (by cases a with
    | none=>rfl
    | some x=>simp at e)
   omega
def Pc (w : World) (v : Value) (cM : List Raw) : Prop:=∃ a cap,v = .slice a cM.length cap /\ At w a (cM.flatMap bD) /\ Sl a cM.length cap
theorem Pc.below {w w' : World} {v : Value} {cM : List Raw} (h : Pc w v cM) (hb : Bw w w') : Pc w' v cM:=by obtain ⟨a,cap,hv,ha,hs⟩:=h;exact ⟨a,cap,hv,ha.below hb,hs⟩
def pq (w : World) (a : Option Addr) (rows : List (List Raw)) : Prop:=∃ vals : List Value,vals.length = rows.length /\ At w a vals /\ ∀ i (h : i < rows.length) (h' : i < vals.length),Pc w vals[i] rows[i]
theorem pq.below {w w' : World} {a : Option Addr} {rows : List (List Raw)} (h : pq w a rows) (hb : Bw w w') : pq w' a rows:=by obtain ⟨vals,hl,ha,hp⟩:=h;exact ⟨vals,hl,ha.below hb,fun i h1 h2=>(hp i h1 h2).below hb⟩
theorem pq.tbl {w : World} {a : Option Addr} {rows : List (List Raw)} (h : pq w a rows) : aY w a rows:=by obtain ⟨vals,hl,ha,hp⟩:=h;refine ⟨vals,hl,ha,fun i h1 h2=>?_⟩;obtain ⟨a',c',e1,e2,_⟩:=hp i h1 h2;exact ⟨a',c',e1,e2⟩
theorem pq.row {w : World} {a : Option Addr} {rows : List (List Raw)} (h : pq w a rows) (k : Nat) (hk : k < rows.length) :
 ∃ b o a' cap',a = some ⟨b,o,none⟩ /\ w.cell? ⟨b,o + k,none⟩ = some (.slice a' rows[k].length cap') /\ At w a' (rows[k].flatMap bD) /\ Sl a' rows[k].length cap':=by
 obtain ⟨vals,hl,ha,hp⟩:=h;have hk2 : k < vals.length:=by rw [hl];exact hk
 obtain ⟨b,o,hab,hcs⟩:=ha.get (by intro h0;rw [h0] at hk2;simp at hk2);obtain ⟨a',cap',hv,hat,hs⟩:=hp k hk hk2;exact ⟨b,o,a',cap',hab,by rw [hcs k hk2,List.getElem?_eq_getElem hk2,hv],hat,hs⟩
theorem Fh (cM : List Raw) : ∀ u ∈ cM.flatMap bD,u.oneCell' = true:=by intro u hu;obtain ⟨r,_,hr⟩:=List.mem_flatMap.1 hu;simp only [bD,List.mem_cons,List.not_mem_nil,or_false] at hr;rcases hr with rfl | rfl | rfl<;>rfl
theorem aaW {P : Program} (t tx ty : TypeId) (e e' : TypeId) (ht : P.underlying t = some (.slice e)) (hx : P.underlying tx = some (.slice e')) (u v : Value) (w : World) : (Builtin.append_ #[t,tx] ty #[u,v]).run P w = (Builtin.append_ #[t,t] ty #[u,v]).run P w:=by unfold Builtin.append_;cases u<;>simp [Sem.run_bind,run_underlying ht,run_underlying hx]
theorem akz {P : Program} {w : World} {o : Oper} {a : Act} {K : Act -> World -> Prop} {Q : Exit -> Act -> World -> Prop} (s x : Operand) (t tx : TypeId) (e' : TypeId) (htx : P.underlying tx = some (.slice e'))
 (ho : o.op = .call { callee:=.builtin .append,args:=#[s,x],argTypes:=#[t,tx] })
 (base : Nat) (e : TypeId) (i : TypeInfo) (z : Value) (size bytes : Nat) (ht : P.underlying t = Option.some (.slice e)) (hi : P.info? e = Option.some i) (hz : i.zero = Option.some z)
 (hsize : i.size = size) (hby : i.bytes = bytes) (hzs : z.cells.size = size) (hsz : 0 < size)
 (v : Value) (n : Nat) (xs : List Value) (hs : a.eval s = v) (hown : w.ownsRow base e size v n xs)
 (aa : Option Addr) (m c : Nat) (news : List Value) (hx : a.eval x = .slice aa m c) (hsl : Sl aa m c) (hl : news.length = m * size) (hat : At w aa news) (h1 : ∀ u ∈ news,u.oneCell' = true)
 (h63 : n + m <= maxLen) (hbytes : (n + m) * bytes <= 140737488355328) (hbase : base <= w.heap.size)
 (h : ∀ v' w',w'.ownsRow base e size v' (n + m) (xs ++ news) -> w.grownBy w' v.ownBlock -> (v'.ownBlock = v.ownBlock \/ v'.ownBlock = Option.some w.heap.size) -> K (a.put o.dst v') w') : o.wp P a w K Q:=by
 have key : ∃ v' w',(Builtin.append_ #[t,tx] o.type #[v,.slice aa m c]).run P w = .ok v' w' /\ w'.ownsRow base e size v' (n + m) (xs ++ news) /\ w.grownBy w' v.ownBlock /\ (v'.ownBlock = v.ownBlock \/ v'.ownBlock = Option.some w.heap.size):=by
  rw [aaW t tx o.type e e' ht htx];cases aa with
  | none =>
    have hc:=hsl.2 rfl;have hm : m = 0:=by have:=hsl.1;omega
    subst hc;subst hm;have hn : news = []:=List.eq_nil_of_length_eq_zero (by simpa using hl);subst hn;exact ⟨v,w,run_append_owned_none (P:=P) (w:=w) base t o.type e i size ht hi v n xs hown,by simpa using hown,World.grownBy.refl _ _,.inl rfl⟩
  | some ad =>
    obtain ⟨v',w',hr,h2,h3,_,h5⟩:=run_append_own_at (P:=P) w base t o.type e i z size bytes ht hi hz hsize hby hzs hsz v n xs hown ad m c news hl (by
     intro j u hj;rcases hat with h0 | ⟨b,o',Qn,hc⟩
     . subst h0;simp at hj
     . simp only [Option.some.injEq] at Qn;subst Qn;have hjl:=(List.getElem?_eq_some_iff.1 hj).1;have e2 : ((⟨b,o',none⟩ : Addr).add j) = ⟨b,o' + j,none⟩:=by unfold Addr.add;cases j<;>simp
       rw [e2,hc j hjl];exact hj) h1 h63 hbytes hbase
    exact ⟨v',w',hr,h2,h3,h5⟩
 obtain ⟨v',w',hr,h2,h3,h5⟩:=key;unfold Oper.wp execOp;simp only [ho,resolve,invoke,builtin,Sem.run_bind,Sem.run_pure,Result.andThen_ok,List.map_toArray,List.map_cons,List.map_nil,hs,hx,hr];exact h v' w' h2 h3 h5
theorem Xa {P : Program} {w : World} {ops : Array Oper} {rest : List Oper} {o : Oper} {a : Act} {Q : Exit -> Act -> World -> Prop} (hgd : o.guard = none) (s x : Operand) (t tx : TypeId) (e' : TypeId) (htx : P.underlying tx = some (.slice e'))
 (ho : o.op = .call { callee:=.builtin .append,args:=#[s,x],argTypes:=#[t,tx] })
 (base : Nat) (e : TypeId) (i : TypeInfo) (z : Value) (size bytes : Nat) (ht : P.underlying t = Option.some (.slice e)) (hi : P.info? e = Option.some i) (hz : i.zero = Option.some z)
 (hsize : i.size = size) (hby : i.bytes = bytes) (hzs : z.cells.size = size) (hsz : 0 < size)
 (v : Value) (n : Nat) (xs : List Value) (hs : a.eval s = v) (hown : w.ownsRow base e size v n xs)
 (aa : Option Addr) (m c : Nat) (news : List Value) (hx : a.eval x = .slice aa m c) (hsl : Sl aa m c) (hl : news.length = m * size) (hat : At w aa news) (h1 : ∀ u ∈ news,u.oneCell' = true)
 (h63 : n + m <= maxLen) (hbytes : (n + m) * bytes <= 140737488355328) (hbase : base <= w.heap.size)
 (h : ∀ v' w',w'.ownsRow base e size v' (n + m) (xs ++ news) -> w.grownBy w' v.ownBlock -> (v'.ownBlock = v.ownBlock \/ v'.ownBlock = Option.some w.heap.size) -> wpList P ops Q rest (a.put o.dst v') w') : wpList P ops Q (o :: rest) a w:=
 wpList_plain hgd fun _ hK=>akz s x t tx e' htx ho base e i z size bytes ht hi hz hsize hby hzs hsz v n xs hs hown aa m c news hx hsl hl hat h1 h63 hbytes hbase fun v' w' h2 h3 h5=>hK _ _ (h v' w' h2 h3 h5)
end Go.Proofs.YtdaadlblknpipaaGreatDoor
namespace Go.Proofs.YtdaadlblknpipaaGreatDoor
open Go.RowKit
attribute [local go_sem ↓] Go.wp_at_zero Go.wp_at_succ
theorem Tryz.an0 : (Tryz.prog.info? 107).map (fun i=>(i.zero,i.size,i.bytes)) = some (some (.agg #[.string (bs []),.bool false,.string (bs []),.int .i64 0]),4,48):=by kernel_rfl
theorem kg (ts : List aK) : (ts.flatMap aM).length = ts.length * 4:=jr aM 4 (fun _=>rfl) ts
theorem qC (ts : List aK) : ∀ u ∈ ts.flatMap aM,u.oneCell' = true:=by intro u hu;obtain ⟨r,_,hr⟩:=List.mem_flatMap.1 hu;simp only [aM,List.mem_cons,List.not_mem_nil,or_false] at hr;rcases hr with rfl | rfl | rfl | rfl<;>rfl
theorem ME (t : aK) (ts : List aK) : (t :: ts).flatMap aM = aM t ++ ts.flatMap aM:=List.flatMap_cons
theorem At.tail {w : World} {b o c : Nat} {x : aK} {ts : List aK} (h : At w (some ⟨b,o,none⟩) ((x :: ts).flatMap aM)) (hc : ts.length + 1 <= c) : At w (if c = 1 then some ⟨b,o,none⟩ else some ⟨b,o + 4,none⟩) (ts.flatMap aM):=by
 have hk:=At.cut (k:=1) (size:=4) (n:=ts.length + 1) (cap:=c) h (by rw [kg];rfl) zo hc;have e : ((x :: ts).flatMap aM).drop (1 * 4) = ts.flatMap aM:=by rw [ME];rfl
 rw [e] at hk;exact hk
theorem Sl.tail {b o c n : Nat} (h : Sl (Option.some ⟨b,o,none⟩) (n + 1) c) : Sl (if c = 1 then Option.some (⟨b,o,none⟩ : Addr) else Option.some ⟨b,o + 4,none⟩) n (c - 1):=by refine ⟨by have:=h.1;omega,fun e=>?_⟩;split at e<;>cases e
theorem ajm (l l' : List UInt8) : (rT l l' = -1 /\ Op.bytesLess l l' = true) \/ (rT l l' = 1 /\ Op.bytesLess l l' = false /\ Op.bytesLess l' l = true) \/ (rT l l' = 0 /\ Op.bytesLess l l' = false /\ Op.bytesLess l' l = false):=by
 unfold rT;cases h1 : Op.bytesLess l l' with
 | true=>exact .inl ⟨by simp,rfl⟩
 | false =>
   cases h2 : Op.bytesLess l' l with
   | true=>exact .inr (.inl ⟨by simp,rfl,rfl⟩)
   | false=>exact .inr (.inr ⟨by simp,rfl,rfl⟩)
theorem Vb (a : Option Addr) (n cap : Nat) (ta : List aK) (a' : Option Addr) (n' cap' : Nat) (tb : List aK) (B : Nat) (w : World) (hn : ta.length = n) (hn' : tb.length = n') (hs : Sl a n cap) (hs' : Sl a' n' cap') (hl : n <= 65536) (hl' : n' <= 65536) (ha : At w a (ta.flatMap aM)) (ha' : At w a' (tb.flatMap aM))
 (sZ : ∀ t ∈ ta,Fit B t.2) (td : ∀ t ∈ tb,Fit B t.2) (hB : B + 2 <= 268435456) (hT : aB w) :
 Calls Tryz.prog 99 #[.slice a n cap,.slice a' n' cap',.func (.func 100) #[] #[],.func (.func 101) #[] #[]] w fun e w'=>∃ v',e = .returned v' /\ w'.ownsRow w.heap.size 107 4 v' (fI ta tb).length ((fI ta tb).flatMap aM) /\ Bw w w':=by
 obtain ⟨i0,hi,hz0,hz1,hz2⟩:=info_parts Tryz.an0;obtain ⟨M,hM⟩ : ∃ M,fI ta tb = M:=⟨_,rfl⟩;have Ag:=enters_of Tryz.func100 zk rfl;have Af:=enters_of Tryz.func101 zk rfl;rw [hM];have Hi:=ah hi;have cO:=ah hz0;have cP:=ah hz1;have cE:=ah hz2;have HM:=ah hM;have Gu:=ah Ag;have Gt:=ah Af;have Hs:=ah hs;have OG:=ah hs';have Ha:=ah ha;have oZ:=ah ha';have zn:=ah sZ;have zq:=ah td;have HT:=ah hT;have Hn:=ah hn;have Ou:=ah hn';obtain ⟨N,hN⟩ : ∃ N,n + n' = N:=⟨_,rfl⟩;have QY : (n : Int) + (n' : Int) = (N : Int):=by omega
 have HN:=ah hN;clear hi hz0 hz1 hz2 hM Ag Af hs hs' ha ha' sZ td hT hn hn' hN;have hN1 : N <= 131072:=by have:=HN.out;omega
 go_enter Tryz.func99,Tryz.ntmps99;go_wp2_with (at_make;refine wpList_make_own _ rfl _ _ 55 rfl w.heap.size 107 i0 _ 4 Tryz.underlying55 Hi.out cO.out cP.out _ _ _ N rfl rfl (by first | exact QY | rfl) (by rw [cE.out];omega) zx (Nat.le_refl _) ?_;intro w1 hown hgrow);have hb1:=ah ((Below.refl w.heap.size w).grown hgrow (Nat.le_refl _) (by intro k hk;cases hk));have lN:=ah hown;clear hown hgrow QY
 go_loopw [0,1,9] (fun va vb vo wr=>∃ (ra rb acc : List aK) (p q ca cb : Nat) (aa ab : Option Addr) (v : Value),v = vo /\ va = .slice aa p ca /\ vb = .slice ab q cb /\ ra.length = p /\ rb.length = q /\ Sl aa p ca /\ Sl ab q cb /\ At w aa (ra.flatMap aM) /\ At w ab (rb.flatMap aM) /\
  (∀ t ∈ ra,Fit B t.2) /\ (∀ t ∈ rb,Fit B t.2) /\ wr.ownsRow w.heap.size 107 4 v acc.length (acc.flatMap aM) /\ acc.length + p + q <= N /\ acc ++ fI ra rb = M /\ Bw w wr) (fun va vb _ _=>(tN va + tN vb).toNat)
 case atStart=>exact ⟨ta,tb,[],n,n',cap,cap',a,a',_,rfl,rfl,rfl,Hn.out,Ou.out,Hs.out,OG.out,Ha.out,oZ.out,zn.out,zq.out,lN.out,by rw [<- HN.out];simp,by simpa using HM.out,hb1.out⟩
 case round=>
  clear hb1 lN Ha oZ Hs OG zn zq Hn Ou HM;obtain ⟨ra,rb,acc,p,q,ca,cb,aa,ab,v,rfl,rfl,rfl,rK,oJ,hsa,vJ,hat,hat',sZ,td,hov,hlen,hM,pb⟩:=hrel;by_cases hpq : 0 < p /\ 0 < q
  . obtain ⟨hp,hq⟩:=hpq;obtain ⟨x,ra,rfl⟩ : ∃ x l,ra = x :: l:=by cases ra with
     | nil=>simp at rK;omega
     | cons x l=>exact ⟨x,l,rfl⟩
    obtain ⟨y,rb,rfl⟩ : ∃ x l,rb = x :: l:=by cases rb with
     | nil=>simp at oJ;omega
     | cons x l=>exact ⟨x,l,rfl⟩
    obtain ⟨l,s,m,e⟩:=x;obtain ⟨l',s',m',e'⟩:=y;obtain ⟨p,rfl⟩ : ∃ p',p = p' + 1:=⟨p - 1,by omega⟩;obtain ⟨q,rfl⟩ : ∃ q',q = q' + 1:=⟨q - 1,by omega⟩;have dO:=sZ (l,s,m,e) zm;have iV:=td (l',s',m',e') zm;have Sq : ∀ t ∈ ra,Fit B t.2:=fun t ht=>sZ t (by simp [ht]);have Sr : ∀ t ∈ rb,Fit B t.2:=fun t ht=>td t (by simp [ht]);obtain ⟨b1,o1,rfl,hw1⟩:=(hat.below pb).term 0 zm rfl;obtain ⟨b2,o2,rfl,hw2⟩:=(hat'.below pb).term 0 zm rfl;simp only [Nat.zero_mul,Nat.add_zero] at hw1 hw2;have jV : b1 < w.heap.size:=hat.lt (by rw [ME];simp [aM]);have iI : b2 < w.heap.size:=hat'.lt (by rw [ME];simp [aM]);have TV:=hat.tail (c:=ca) (by have:=hsa.1;simp at rK;omega);have jx:=hat'.tail (c:=cb) (by have:=vJ.1;simp at oJ;omega);have TQ:=hsa.tail;have TR:=vJ.tail;have vQ:=iH (p + 1) ca 0 0 (rfl : (some ⟨b1,o1,none⟩ : Option Addr) = _) zo rfl;have EQ:=iH (q + 1) cb 0 0 (rfl : (some ⟨b2,o2,none⟩ : Option Addr) = _) zo rfl;rw [Nat.zero_mul,Nat.add_zero] at vQ EQ;have hca : p + 1 <= ca:=hsa.1;have hcb : q + 1 <= cb:=vJ.1;have GZ : Hid (ra.length = p):=by show _ = _;simpa using rK
    have HJ : Hid (rb.length = q):=by show _ = _;simpa using oJ
    have Ia:=ah hsa;have Ib:=ah vJ;have OM:=ah TQ;have OO:=ah TR;have OP:=ah TV;have pk:=ah jx;have fu:=ah hat;have Ge:=ah hat';have gG:=ah dO;have kr:=ah iV;have zn:=ah Sq;have zq:=ah Sr;have Yu:=ah sZ;have Yv:=ah td;have cw:=ah hov;have HM:=ah hM;have aR:=ah pb;have ut:=ah (HT.out.below pb);have Hx : Hid (bj wr b1 o1 [.string (bs l),.bool s,.string (bs m),.int .i64 e]):=hw1;have Hy : Hid (bj wr b2 o2 [.string (bs l'),.bool s',.string (bs m'),.int .i64 e']):=hw2;have TE:=rK;have TF:=oJ;simp only [List.length_cons] at TE TF;clear rK oJ hsa vJ hat hat' sZ td hov hM pb dO iV Sq Sr hw1 hw2 TV jx TQ TR TE TF;have Hb : Hid (Bw wr wr):=Below.refl _ _;have Jf:=Gu.out;have gN:=aR.out.size;obtain ⟨gs,AK⟩ : ∃ g,rT l l' = g:=⟨_,rfl⟩;have KQ:=fun W=>ajn l s m e l' s' m' e' W;have hcs:=ajm l l';rw [AK] at KQ hcs;have OI:=ah KQ;have NS:=ah hcs;clear KQ hcs AK;go_wp2_with fail;obtain ⟨x0,x1,x2,x3⟩:=Hx.out.w4;obtain ⟨y0,y1,y2,y3⟩:=Hy.out.w4;have HU : Hid (aB wr):=ut.out;refine bE (fun w'=>w'.cell? ⟨b1,o1,none⟩ = some (.string (bs l)) /\ w'.cell? ⟨b1,o1 + 1,none⟩ = some (.bool s) /\ w'.cell? ⟨b1,o1 + 2,none⟩ = some (.string (bs m)) /\ w'.cell? ⟨b1,o1 + 3,none⟩ = some (.int .i64 e) /\ w'.cell? ⟨b2,o2,none⟩ = some (.string (bs l')) /\ w'.cell? ⟨b2,o2 + 1,none⟩ = some (.bool s') /\ w'.cell? ⟨b2,o2 + 2,none⟩ = some (.string (bs m')) /\ w'.cell? ⟨b2,o2 + 3,none⟩ = some (.int .i64 e')) (fun i=>Nat.blt i 100000) [(0,true),(1,true),(2,true),(3,true),(4,true),(5,true),(6,true),(7,false),(8,true)] zk zk rfl zk zc ⟨x0,x1,x2,x3,y0,y1,y2,y3⟩ ?_;iterate 7 (refine pT rfl rfl ?_ (by intro w' ⟨q0,q1,q2,q3,q4,q5,q6,q7⟩;go_simp;try with_reducible rfl);try simp only [UU])
    refine aI rfl rfl (fun K hK=>?_);go_simp;with_reducible refine (OI.out _).mono ?_
    rintro e w2 ⟨rfl,hq⟩;have ae : Bw wr w2:=by first | exact hq | exact aN hq
    clear x0 x1 x2 x3 y0 y1 y2 y3;replace Hx:=kW Hx ae;replace Hy:=kW Hy ae;replace HU:=kT HU ae;obtain ⟨x0,x1,x2,x3⟩:=Hx.out.w4;obtain ⟨y0,y1,y2,y3⟩:=Hy.out.w4;replace Hb:=az Hb ae;clear ae;refine hK _ _ (fun _=>⟨x0,x1,x2,x3,y0,y1,y2,y3⟩) ?_;clear hK K;try simp only [UU]
    refine pT rfl rfl ?_;try simp only [UU]
    simp only [aV];have hcs:=NS.out;have hp1 : (1 : Int) <= (p : Int) + 1:=by omega
    have hq1 : (1 : Int) <= (q : Int) + 1:=by omega
    clear NS OI Jf;rcases hcs with ⟨rfl,h1⟩ | ⟨rfl,h1,h2⟩ | ⟨rfl,h1,h2⟩
    . have uq : Hid ((acc ++ [(l,s,m,e)]) ++ fI ra ((l',s',m',e') :: rb) = M):=by
       show _ = _
       rw [<- HM.out,tY,if_pos h1];simp
      have un : Hid ((acc ++ [(l,s,m,e)]).flatMap aM = acc.flatMap aM ++ [.string (bs l),.bool s,.string (bs m),.int .i64 e]):=by
       show _ = _
       rw [List.flatMap_append];rfl
      clear h1;go_wp2_with fail;refine bE (fun w'=>w'.cell? ⟨b1,o1,none⟩ = some (.string (bs l)) /\ w'.cell? ⟨b1,o1 + 1,none⟩ = some (.bool s) /\ w'.cell? ⟨b1,o1 + 2,none⟩ = some (.string (bs m)) /\ w'.cell? ⟨b1,o1 + 3,none⟩ = some (.int .i64 e)) (fun i=>Nat.blt i 100000) [(0,true),(1,true),(2,true),(3,true),(6,true),(7,true),(4,false),(5,false),(8,true),(9,true)] zk zk rfl zk zc ⟨x0,x1,x2,x3⟩ ?_;iterate 6 (refine pT rfl rfl ?_ (by intro w' ⟨q0,q1,q2,q3⟩;go_simp;try with_reducible rfl);try simp only [UU])
      refine aI rfl rfl (fun K hK=>?_);go_simp;refine hK _ _ (fun _=>⟨aH x0,aH x1,aH x2,aH x3⟩) ?_;clear hK K;try simp only [UU]
      refine bG (fun W3=>ai W3 (w2.heap.size) 107 [.string (bs l),.bool s,.string (bs m),.int .i64 e] /\ Bw w2 W3) (by first | exact dP | exact dQ) ?_;rintro W3 ⟨qc,ae⟩;clear x0 x1 x2 x3 y0 y1 y2 y3;replace Hx:=kW Hx ae;replace Hy:=kW Hy ae;replace HU:=kT HU ae;have Hc:=ah qc;clear qc;obtain ⟨x0,x1,x2,x3⟩:=Hx.out.w4;obtain ⟨y0,y1,y2,y3⟩:=Hy.out.w4;obtain ⟨c0,c1,c2,c3⟩:=Hc.out.c4;replace Hb:=az Hb ae;clear ae;refine aI rfl rfl (fun K hK=>?_);have dH:=ownsRow_below cw.out Hb.out;have hs3:=Hb.out.size;refine wp_append_own _ _ _ 55 rfl w.heap.size 107 i0 _ 4 48 Tryz.underlying55 Hi.out cO.out cP.out cE.out rfl zd v acc.length (acc.flatMap aM) rfl dH ⟨w2.heap.size,0,none⟩ 1 1 [.string (bs l),.bool s,.string (bs m),.int .i64 e] rfl rfl (gb Hc.out) zy zx zo zo ?_;intro v' w8 dG aZ _;have nb : ∀ b,b < w.heap.size -> some b ≠ v.ownBlock:=fun b hb e=>by have:=cL dH b e.symm;omega
      refine hK _ _ (fun _=>⟨bR aZ x0 (nb _ jV),bR aZ x1 (nb _ jV),bR aZ x2 (nb _ jV),bR aZ x3 (nb _ jV)⟩) ?_;clear hK K;try simp only [UU]
      iterate 2 (refine pT rfl rfl ?_;try simp only [UU])
      simp only [aV];have uy:=ah ((aJ aR.out Hb.out).grown aZ zo (fun j e=>cL dH j e));have gp : Hid (w8.ownsRow w.heap.size 107 4 v' (acc ++ [(l,s,m,e)]).length ((acc ++ [(l,s,m,e)]).flatMap aM)):=by
       show w8.ownsRow _ _ _ _ _ _
       rw [un.out,List.length_append];exact dG
      clear nb dH dG aZ x0 x1 x2 x3 y0 y1 y2 y3 c0 c1 c2 c3 vQ EQ;go_wp2;go_roundw;case rel=>exact ⟨ra,((l',s',m',e') :: rb),acc ++ [(l,s,m,e)],p,(q + 1),_,_,_,_,v',rfl,rfl,rfl,GZ.out,(by have:=HJ.out;simp;exact this),OM.out,Ib.out,OP.out,Ge.out,zn.out,Yv.out,gp.out,by simp;omega,uq.out,uy.out⟩
      case measure=>simp [tN];omega
    ·
     have uq : Hid ((acc ++ [(l',s',m',e')]) ++ fI ((l,s,m,e) :: ra) rb = M):=by
      show _ = _
      rw [<- HM.out,tY,if_neg (by rw [h1];decide),if_pos h2];simp
     have un : Hid ((acc ++ [(l',s',m',e')]).flatMap aM = acc.flatMap aM ++ [.string (bs l'),.bool s',.string (bs m'),.int .i64 e']):=by
      show _ = _
      rw [List.flatMap_append];rfl
     clear h1 h2
     go_wp2_with fail
     refine bE (fun w'=>w'.cell? ⟨b2,o2,none⟩ = some (.string (bs l')) /\ w'.cell? ⟨b2,o2 + 1,none⟩ = some (.bool s') /\ w'.cell? ⟨b2,o2 + 2,none⟩ = some (.string (bs m')) /\ w'.cell? ⟨b2,o2 + 3,none⟩ = some (.int .i64 e')) (fun i=>Nat.blt i 100000) [(0,true),(1,true),(2,true),(3,true),(6,true),(7,true),(4,false),(5,false),(8,true),(9,true)] zk zk rfl zk zc ⟨y0,y1,y2,y3⟩ ?_
     iterate 6 (refine pT rfl rfl ?_ (by intro w' ⟨q0,q1,q2,q3⟩;go_simp;try with_reducible rfl);try simp only [UU])
     refine aI rfl rfl (fun K hK=>?_)
     go_simp
     refine hK _ _ (fun _=>⟨aH y0,aH y1,aH y2,aH y3⟩) ?_;clear hK K
     try simp only [UU]
     refine bG (fun W3=>ai W3 (w2.heap.size) 107 [.string (bs l'),.bool s',.string (bs m'),.int .i64 e'] /\ Bw w2 W3) (by first | exact dP | exact dQ) ?_
     rintro W3 ⟨qc,ae⟩
     clear x0 x1 x2 x3
     clear y0 y1 y2 y3
     replace Hx:=kW Hx ae
     replace Hy:=kW Hy ae
     replace HU:=kT HU ae
     have Hc:=ah qc;clear qc
     obtain ⟨x0,x1,x2,x3⟩:=Hx.out.w4
     obtain ⟨y0,y1,y2,y3⟩:=Hy.out.w4
     obtain ⟨c0,c1,c2,c3⟩:=Hc.out.c4
     replace Hb:=az Hb ae;clear ae
     refine aI rfl rfl (fun K hK=>?_)
     have dH:=ownsRow_below cw.out Hb.out
     have hs3:=Hb.out.size
     refine wp_append_own _ _ _ 55 rfl w.heap.size 107 i0 _ 4 48 Tryz.underlying55 Hi.out cO.out cP.out cE.out rfl zd v acc.length (acc.flatMap aM) rfl dH ⟨w2.heap.size,0,none⟩ 1 1 [.string (bs l'),.bool s',.string (bs m'),.int .i64 e'] rfl rfl (gb Hc.out) zy zx zo zo ?_
     intro v' w8 dG aZ _
     have nb : ∀ b,b < w.heap.size -> some b ≠ v.ownBlock:=fun b hb e=>by have:=cL dH b e.symm;omega
     refine hK _ _ (fun _=>⟨bR aZ y0 (nb _ iI),bR aZ y1 (nb _ iI),bR aZ y2 (nb _ iI),bR aZ y3 (nb _ iI)⟩) ?_;clear hK K
     try simp only [UU]
     iterate 2 (refine pT rfl rfl ?_;try simp only [UU])
     simp only [aV]
     have uy:=ah ((aJ aR.out Hb.out).grown aZ zo (fun j e=>cL dH j e))
     have gp : Hid (w8.ownsRow w.heap.size 107 4 v' (acc ++ [(l',s',m',e')]).length ((acc ++ [(l',s',m',e')]).flatMap aM)):=by
      show w8.ownsRow _ _ _ _ _ _
      rw [un.out,List.length_append];exact dG
     clear nb dH dG aZ x0 x1 x2 x3 y0 y1 y2 y3 c0 c1 c2 c3 vQ EQ
     go_wp2
     go_roundw
     case rel=>exact ⟨((l,s,m,e) :: ra),rb,acc ++ [(l',s',m',e')],(p + 1),q,_,_,_,_,v',rfl,rfl,rfl,(by have:=GZ.out;simp;exact this),HJ.out,Ia.out,OO.out,fu.out,pk.out,Yu.out,zq.out,gp.out,by simp;omega,uq.out,uy.out⟩
     case measure=>simp [tN];omega
    ·
     obtain ⟨S,hS⟩ : ∃ S,aC (s,m,e) + aC (s',m',e') = S:=⟨_,rfl⟩
     have HS:=ah hS
     have uq : Hid ((acc ++ [(l,canon S)]) ++ fI ra rb = M):=by
      show _ = _
      rw [<- HM.out,tY,if_neg (by rw [h1];decide),if_neg (by rw [h2];decide)];simp;rw [<- hS];rfl
     have un : Hid ((acc ++ [(l,canon S)]).flatMap aM = acc.flatMap aM ++ [.string (bs l),.bool (au (dN S)),.string (bs (nt (dN S).natAbs)),.int .i64 (dE S)]):=by
      show _ = _
      rw [List.flatMap_append];rfl
     clear h1 h2 hS
     have DF:=Gt.out
     go_wp2_with fail
     refine bE (fun w'=>w'.cell? ⟨b1,o1,none⟩ = some (.string (bs l)) /\ w'.cell? ⟨b1,o1 + 1,none⟩ = some (.bool s) /\ w'.cell? ⟨b1,o1 + 2,none⟩ = some (.string (bs m)) /\ w'.cell? ⟨b1,o1 + 3,none⟩ = some (.int .i64 e) /\ w'.cell? ⟨b2,o2,none⟩ = some (.string (bs l')) /\ w'.cell? ⟨b2,o2 + 1,none⟩ = some (.bool s') /\ w'.cell? ⟨b2,o2 + 2,none⟩ = some (.string (bs m')) /\ w'.cell? ⟨b2,o2 + 3,none⟩ = some (.int .i64 e')) (fun i=>Nat.blt i 100000) [(0,true),(1,true),(2,true),(3,true),(4,true),(5,true),(6,true),(7,true),(11,true),(12,true),(13,true),(14,true),(8,false),(9,false),(10,false),(15,true),(16,true),(17,true)] zk zk rfl zk zc ⟨x0,x1,x2,x3,y0,y1,y2,y3⟩ ?_
     iterate 12 (refine pT rfl rfl ?_ (by intro w' ⟨q0,q1,q2,q3,q4,q5,q6,q7⟩;go_simp;try with_reducible rfl);try simp only [UU])
     refine aI rfl rfl (fun K hK=>?_)
     go_simp
     with_reducible refine (ajG l s m e l' s' m' e' S B HS.out _ gG.out kr.out hB (by first | exact HU.out | exact aB.drew HU.out | exact aB.alloc HU.out _ | exact aB.drew (aB.alloc HU.out _) | exact aB.alloc (aB.drew HU.out) _)).mono ?_
     rintro e w4 ⟨rfl,hq⟩
     have ae : Bw w2 w4:=by first | exact hq | exact aN hq
     clear x0 x1 x2 x3
     clear y0 y1 y2 y3
     replace Hx:=kW Hx ae
     replace Hy:=kW Hy ae
     replace HU:=kT HU ae
     obtain ⟨x0,x1,x2,x3⟩:=Hx.out.w4
     obtain ⟨y0,y1,y2,y3⟩:=Hy.out.w4
     replace Hb:=az Hb ae;clear ae
     refine hK _ _ (fun _=>⟨x0,x1,x2,x3,y0,y1,y2,y3⟩) ?_;clear hK K
     try simp only [UU]
     refine aI rfl rfl (fun K hK=>?_)
     go_simp
     refine hK _ _ (fun _=>⟨aH x0,aH x1,aH x2,aH x3,aH y0,aH y1,aH y2,aH y3⟩) ?_;clear hK K
     try simp only [UU]
     refine bG (fun W5=>ai W5 (w4.heap.size) 107 [.string (bs l),.bool (au (dN S)),.string (bs (nt (dN S).natAbs)),.int .i64 (dE S)] /\ Bw w4 W5) (by first | exact dP | exact dQ) ?_
     rintro W5 ⟨qc,ae⟩
     clear x0 x1 x2 x3
     clear y0 y1 y2 y3
     replace Hx:=kW Hx ae
     replace Hy:=kW Hy ae
     replace HU:=kT HU ae
     have Hc:=ah qc;clear qc
     obtain ⟨x0,x1,x2,x3⟩:=Hx.out.w4
     obtain ⟨y0,y1,y2,y3⟩:=Hy.out.w4
     obtain ⟨c0,c1,c2,c3⟩:=Hc.out.c4
     replace Hb:=az Hb ae;clear ae
     refine aI rfl rfl (fun K hK=>?_)
     have dH:=ownsRow_below cw.out Hb.out
     have hs3:=Hb.out.size
     refine wp_append_own _ _ _ 55 rfl w.heap.size 107 i0 _ 4 48 Tryz.underlying55 Hi.out cO.out cP.out cE.out rfl zd v acc.length (acc.flatMap aM) rfl dH ⟨w4.heap.size,0,none⟩ 1 1 [.string (bs l),.bool (au (dN S)),.string (bs (nt (dN S).natAbs)),.int .i64 (dE S)] rfl rfl (gb Hc.out) zy zx zo zo ?_
     intro v' w8 dG aZ _
     have nb : ∀ b,b < w.heap.size -> some b ≠ v.ownBlock:=fun b hb e=>by have:=cL dH b e.symm;omega
     refine hK _ _ (fun _=>⟨bR aZ x0 (nb _ jV),bR aZ x1 (nb _ jV),bR aZ x2 (nb _ jV),bR aZ x3 (nb _ jV),bR aZ y0 (nb _ iI),bR aZ y1 (nb _ iI),bR aZ y2 (nb _ iI),bR aZ y3 (nb _ iI)⟩) ?_;clear hK K
     try simp only [UU]
     iterate 3 (refine pT rfl rfl ?_;try simp only [UU])
     simp only [aV]
     have uy:=ah ((aJ aR.out Hb.out).grown aZ zo (fun j e=>cL dH j e))
     have gp : Hid (w8.ownsRow w.heap.size 107 4 v' (acc ++ [(l,canon S)]).length ((acc ++ [(l,canon S)]).flatMap aM)):=by
      show w8.ownsRow _ _ _ _ _ _
      rw [un.out,List.length_append];exact dG
     clear nb dH dG aZ x0 x1 x2 x3 y0 y1 y2 y3 c0 c1 c2 c3 vQ EQ
     go_wp2
     go_roundw
     case rel=>exact ⟨ra,rb,acc ++ [(l,canon S)],p,q,_,_,_,_,v',rfl,rfl,rfl,GZ.out,HJ.out,OM.out,OO.out,OP.out,pk.out,zn.out,zq.out,gp.out,by simp;omega,uq.out,uy.out⟩
     case measure=>simp [tN];omega
  . have hmr : fI ra rb = ra ++ rb:=by
     have : p = 0 \/ q = 0:=by omega
     rcases this with rfl | rfl
     . rw [List.eq_nil_of_length_eq_zero rK,ye];rfl
     . rw [List.eq_nil_of_length_eq_zero oJ,yf];simp
    have QW : M.length = acc.length + p + q:=by rw [<- hM,hmr];simp [rK,oJ];omega
    have un : Hid (M.flatMap aM = (acc.flatMap aM ++ ra.flatMap aM) ++ rb.flatMap aM):=by
     show _ = _
     rw [<- hM,hmr,<- List.append_assoc,List.flatMap_append,List.flatMap_append]
    have hlr : (ra.flatMap aM).length = p * 4:=by rw [kg,rK]
    have Tb : (rb.flatMap aM).length = q * 4:=by rw [kg,oJ]
    have jP:=hat.below pb;have alX:=hlen;have CK:=ah hlr;have YY:=ah Tb;have kU:=ah jP;have fu:=ah hat';have cw:=ah hov;have aR:=ah pb;have Ia:=ah hsa;have Ib:=ah vJ;have Xy:=ah QW;clear rK oJ hmr hlr Tb hat hat' jP hov pb hsa vJ hM sZ td QW;have hsz:=aR.out.size;by_cases h0 : 0 < p
    all_goals
     go_wp2_with (first | (at_builtin;refine qE rfl (.tmp 70) (.tmp 71) 55 rfl w.heap.size 107 i0 _ 4 48 Tryz.underlying55 Hi.out cO.out cP.out cE.out rfl zd v acc.length (acc.flatMap aM) rfl cw.out aa p ca (ra.flatMap aM) rfl Ia.out CK.out kU.out (qC ra) zx zo hsz ?_;intro v1 w2 cJ hg1 hb1) | (at_builtin;refine qE rfl (.tmp 72) (.tmp 73) 55 rfl w.heap.size 107 i0 _ 4 48 Tryz.underlying55 Hi.out cO.out cP.out cE.out rfl zd v1 (acc.length + p) (acc.flatMap aM ++ ra.flatMap aM) rfl cJ ab q cb (rb.flatMap aM) rfl Ib.out YY.out (fu.out.below (aR.out.grown hg1 hsz (fun j e=>cL cw.out j e))) (qC rb) zx zo (Nat.le_trans hsz hg1.size) ?_;intro v2 w3 dU hg2 hb2))
     go_ret
     refine ⟨v2,rfl,?_,(aR.out.grown hg1 hsz (fun j e=>cL cw.out j e)).grown hg2 (Nat.le_trans hsz hg1.size) (fun j e=>cL cJ j e)⟩
     rw [Xy.out,un.out];exact dU
end Go.Proofs.YtdaadlblknpipaaGreatDoor
namespace Go.Proofs.YtdaadlblknpipaaGreatDoor
open Go.RowKit
theorem ajV (ts : List aK) (i : Nat) (hi : i < ts.length) (t : aK) : (((((ts.flatMap aM).set (i * 4) (.string (bs t.1))).set (i * 4 + 1) (.bool t.2.1)).set (i * 4 + 2) (.string (bs t.2.2.1))).set (i * 4 + 3) (.int .i64 t.2.2.2)) = (ts.set i t).flatMap aM:=by
 induction ts generalizing i with
 | nil=>simp at hi
 | cons x ts ih =>
   have e : ∀ (y : aK) zs,(y :: zs).flatMap aM = .string (bs y.1) :: .bool y.2.1 :: .string (bs y.2.2.1) :: .int .i64 y.2.2.2 :: zs.flatMap aM:=fun y zs=>rfl;cases i with
   | zero=>rw [e];rfl
   | succ i =>rw [List.set_cons_succ,e,e,<- ih i (by simpa using hi),show (i + 1) * 4 = i * 4 + 1 + 1 + 1 + 1 by omega];rfl
theorem ajU (ts : List aK) (i : Nat) (hi : i < ts.length) (r : Raw) : ((((ts.flatMap aM).set (i * 4 + 1) (.bool r.1)).set (i * 4 + 2) (.string (bs r.2.1))).set (i * 4 + 3) (.int .i64 r.2.2)) = (ts.set i (ts[i].1,r)).flatMap aM:=by
 induction ts generalizing i with
 | nil=>simp at hi
 | cons x ts ih =>
   have e : ∀ (y : aK) zs,(y :: zs).flatMap aM = .string (bs y.1) :: .bool y.2.1 :: .string (bs y.2.2.1) :: .int .i64 y.2.2.2 :: zs.flatMap aM:=fun y zs=>rfl;cases i with
   | zero=>rw [e];rfl
   | succ i =>rw [List.set_cons_succ,e,e,List.getElem_cons_succ,<- ih i (by simpa using hi),show (i + 1) * 4 = i * 4 + 1 + 1 + 1 + 1 by omega];rfl
theorem kM {w : World} {base : Nat} {e : TypeId} {size n cap g : Nat} {xs : List Value} (h : w.ownsRow base e size (.slice (some ⟨g,0,none⟩) n cap) n xs) (o : Nat) : w.frozen? ⟨g,o,none⟩ = false:=by
 rcases h.2 with ⟨h1,_⟩ | ⟨g',cap',cur,h1,hb,hg,_⟩
 . simp at h1
 . simp only [Value.slice.injEq,Option.some.injEq,Addr.mk.injEq,and_true,true_and] at h1;obtain ⟨rfl,rfl⟩:=h1;have h4 : ai w g e cur.toList:=by unfold ai;simpa using hg
   exact h4.free o
theorem wu {w : World} {base : Nat} {e : TypeId} {size n cap g : Nat} {xs : List Value} (h : w.ownsRow base e size (.slice (some ⟨g,0,none⟩) n cap) n xs) : base <= g /\ g < w.heap.size:=by
 rcases h.2 with ⟨h1,_⟩ | ⟨g',cap',cur,h1,hb,hg,_⟩
 . simp at h1
 . simp only [Value.slice.injEq,Option.some.injEq,Addr.mk.injEq,and_true,true_and] at h1;obtain ⟨rfl,rfl⟩:=h1;exact ⟨hb,(Array.getElem?_eq_some_iff.1 hg).1⟩
theorem Fj {w : World} {base n cap g : Nat} {e : TypeId} {ts : List aK} (h : w.ownsRow base e 4 (.slice (some ⟨g,0,none⟩) n cap) n (ts.flatMap aM)) (k : Nat) (hk : k < ts.length) {l : List UInt8} {s : Bool} {m : List UInt8} {ex : Int} (hx : ts[k] = (l,s,m,ex)) :
 bj w g (k * 4) [.string (bs l),.bool s,.string (bs m),.int .i64 ex]:=by
 obtain ⟨a,c,hv,hat,_⟩:=dA h;simp only [Value.slice.injEq,true_and] at hv;obtain ⟨rfl,rfl⟩:=hv;obtain ⟨b,o,hab,hw⟩:=hat.term k hk hx;simp only [Option.some.injEq,Addr.mk.injEq,and_true] at hab;obtain ⟨rfl,rfl⟩:=hab;rwa [Nat.zero_add] at hw
theorem ahL {w : World} {base n cap g : Nat} {e : TypeId} {ts : List aK} (h : w.ownsRow base e 4 (.slice (some ⟨g,0,none⟩) n cap) n (ts.flatMap aM)) (i : Nat) (hi : i < ts.length) (l : List UInt8) (s : Bool) (m : List UInt8) (ex : Int) :
 ((((w.setCell ⟨g,i * 4,none⟩ (.string (bs l))).setCell ⟨g,i * 4 + 1,none⟩ (.bool s)).setCell ⟨g,i * 4 + 2,none⟩ (.string (bs m))).setCell ⟨g,i * 4 + 3,none⟩ (.int .i64 ex)).ownsRow base e 4 (.slice (some ⟨g,0,none⟩) n cap) n ((ts.set i (l,s,m,ex)).flatMap aM):=by
 rw [<- ajV ts i hi (l,s,m,ex)];exact iJ (iJ (iJ (iJ h _ _) _ _) _ _) _ _
theorem VC {w : World} {base n cap g : Nat} {e : TypeId} {ts : List aK} (h : w.ownsRow base e 4 (.slice (some ⟨g,0,none⟩) n cap) n (ts.flatMap aM)) (i : Nat) (hi : i < ts.length) (s : Bool) (m : List UInt8) (ex : Int) :
 (((w.setCell ⟨g,i * 4 + 1,none⟩ (.bool s)).setCell ⟨g,i * 4 + 2,none⟩ (.string (bs m))).setCell ⟨g,i * 4 + 3,none⟩ (.int .i64 ex)).ownsRow base e 4 (.slice (some ⟨g,0,none⟩) n cap) n ((ts.set i (ts[i].1,s,m,ex)).flatMap aM):=by
 rw [<- ajU ts i hi (s,m,ex)];exact iJ (iJ (iJ h _ _) _ _) _ _
theorem DN {w w' : World} (r : Option Nat) (h : Bw w w') : w.grownBy w' r:=⟨h.os,h.tape,h.output,h.size,fun k hk _=>h.block k hk⟩
theorem DR {w w' : World} {g : Nat} (h : w.grownBy w' (some g)) (a : Nat) (v : Value) : w.grownBy (w'.setCell ⟨g,a,none⟩ v) (some g):=grownBy_trans h (grownBy_set g rfl v)
theorem abI {n : Nat} {w w' : World} {r : Option Nat} (h : w.grownBy w' r) (hn : n <= w.heap.size) (hr : ∀ g,r = some g -> n <= g) : Below n w w':=((Below.refl _ _).mono hn).grown h hn hr
theorem Vk {B : Nat} (a b : List aK) (ha : ∀ t ∈ a,Fit B t.2) (hb : ∀ t ∈ b,Fit B t.2) (hB : B + 1 <= 268435456) : ∀ t ∈ fI a b,Fit (B + 1) t.2:=by
 obtain ⟨n,hn⟩ : ∃ n,a.length + b.length = n:=⟨_,rfl⟩;induction n using Nat.strongRecOn generalizing a b with
 | _ n ih =>
   cases a with
   | nil=>rw [ye];exact fun t ht=>(hb t ht).mono zo
   | cons x a=>cases b with
     | nil=>rw [yf];exact fun t ht=>(ha t ht).mono zo
     | cons y b =>
       rw [tY];simp only [List.length_cons] at hn;have ha2 : ∀ t ∈ a,Fit B t.2:=fun t ht=>ha t (by simp [ht]);have hb2 : ∀ t ∈ b,Fit B t.2:=fun t ht=>hb t (by simp [ht]);split
       . intro t ht;rcases List.mem_cons.1 ht with rfl | ht
         . exact (ha _ zm).mono zo
         . exact ih _ (by simp only [List.length_cons];omega) a (y :: b) ha2 hb rfl t ht
       . split
         . intro t ht;rcases List.mem_cons.1 ht with rfl | ht
           . exact (hb _ zm).mono zo
           . exact ih _ (by simp only [List.length_cons];omega) (x :: a) b ha hb2 rfl t ht
         . intro t ht;rcases List.mem_cons.1 ht with rfl | ht
           . exact ((ha x zm).2.add (hb y zm).2).fit hB
           . exact ih _ zo a b ha2 hb2 rfl t ht
theorem Mx {B : Nat} (l : List aK) (h : ∀ t ∈ l,Fit B t.2) (hB : B + l.length <= 268435456) : ∀ t ∈ fL l,Fit (B + l.length) t.2:=by
 obtain ⟨n,hn⟩ : ∃ n,l.length = n:=⟨_,rfl⟩;induction n using Nat.strongRecOn generalizing l with
 | _ n ih =>
   by_cases h2 : l.length < 2
   . rw [Fy l h2];exact fun t ht=>(h t ht).mono zo
   . rw [My l zo];have l1 : (l.take (l.length / 2)).length = l.length / 2:=by rw [List.length_take];omega
     have l2 : (l.drop (l.length / 2)).length = l.length - l.length / 2:=List.length_drop;have h3:=ih _ (by rw [<- hn,l1];omega) (l.take (l.length / 2)) (fun t ht=>h t (List.mem_of_mem_take ht)) (by rw [l1];omega) rfl;have h4:=ih _ (by rw [<- hn,l2];omega) (l.drop (l.length / 2)) (fun t ht=>h t (List.mem_of_mem_drop ht)) (by rw [l2];omega) rfl;have:=Vk (B:=B + (l.length - 1)) _ _ (fun t ht=>(h3 t ht).mono (by rw [l1];omega)) (fun t ht=>(h4 t ht).mono (by rw [l2];omega)) zo;rwa [show B + (l.length - 1) + 1 = B + l.length by omega] at this
end Go.Proofs.YtdaadlblknpipaaGreatDoor
namespace Go.Proofs.YtdaadlblknpipaaGreatDoor
open Go.RowKit
attribute [local go_sem ↓] Go.wp_at_zero Go.wp_at_succ
theorem adF {α : Type} (p : α -> Bool) (l : List α) (i : Nat) (hi : i <= l.length) (h : ∀ j (hj : j < i),p (l[j]'zo) = false) : (l.take i).filter (fun x=>!p x) = l.take i:=by
 rw [List.filter_eq_self];intro x hx;obtain ⟨j,hj,rfl⟩:=List.mem_iff_getElem.1 hx;rw [List.getElem_take];have ju : j < i:=by rw [List.length_take] at hj;omega
 simp [h j ju]
theorem take_set {α : Type} (l : List α) (a : Nat) (x : α) (h : a < l.length) : (l.set a x).take (a + 1) = l.take a ++ [x]:=by rw [List.take_succ_eq_append_getElem (by simpa using h),List.getElem_set_self,List.take_set_of_le (Nat.le_refl _)]
theorem Ja {α : Type} (l : List α) (a b : Nat) (x : α) (h : a < b) : (l.set a x).drop b = l.drop b:=by rw [List.drop_set];rw [if_pos h]
theorem Tryz.aoh (w : World) : (zeroValue 107).run Tryz.prog w = .ok (.agg #[.string ⟨#[]⟩,.bool false,.string ⟨#[]⟩,.int .i64 0]) w:=by kernel_rfl
theorem Qw (ts : List aK) (k : Nat) (hk : k <= ts.length) : (ts.flatMap aM).take (k * 4) = (ts.take k).flatMap aM:=by
 have e : ts = ts.take k ++ ts.drop k:=(List.take_append_drop _ _).symm;conv=>lhs;rw [e]
 rw [List.flatMap_append,List.take_left' (by rw [kg,List.length_take,Nat.min_eq_left hk])]
theorem acU (a : Option Addr) (n cap : Nat) (ts : List aK) (gf : Nat) (p : aK -> Bool) (w : World) (hn : ts.length = n) (hl : n <= 65536) (ha : At w a (ts.flatMap aM))
 (eg : ∀ args w,(callFunc gf args).run Tryz.prog w = .ok (.enter gf args) w) (h2 : ∀ x ∈ ts,p x = false)
 (hcl : ∀ x ∈ ts,∀ W,Calls Tryz.prog gf #[.agg #[.string (bs x.1),.bool x.2.1,.string (bs x.2.2.1),.int .i64 x.2.2.2]] W fun e w'=>e = .returned (.bool (p x)) /\ Bw W w') :
 Calls Tryz.prog 136 #[.slice a n cap,.func (.func gf) #[] #[]] w fun e w'=>e = .returned (.slice a n cap) /\ Bw w w':=by
 have bz:=Lf a n cap ts gf #[] p w hn zo ha eg (fun x hx W _=>by simpa using hcl x hx W);rcases Uq p ts 0 with ⟨h1,_⟩ | ⟨i,hi,_,h3,_⟩
 . rw [h1] at bz;have zz:=ah bz;clear bz h1 h2 hn hcl eg ha;have Hb : Hid (Bw w w):=Below.refl _ _;go_enter Tryz.func136,Tryz.ntmps136;go_wp2_with fail;refine (zz.out).mono ?_;rintro e w1 ⟨rfl,ae⟩;replace Hb:=az Hb ae;clear ae;go_wp2;go_ret;exact ⟨rfl,Hb.out⟩
 . rw [h2 _ (List.getElem_mem hi)] at h3;cases h3
theorem acT (g n cap base : Nat) (ts : List aK) (gf : Nat) (p : aK -> Bool) (w : World) (hn : ts.length = n) (hl : n <= 65536) (hn0 : 0 < n) (ho : w.ownsRow base 107 4 (.slice (some ⟨g,0,none⟩) n cap) n (ts.flatMap aM))
 (eg : ∀ args w,(callFunc gf args).run Tryz.prog w = .ok (.enter gf args) w)
 (hcl : ∀ x ∈ ts,∀ W,Calls Tryz.prog gf #[.agg #[.string (bs x.1),.bool x.2.1,.string (bs x.2.2.1),.int .i64 x.2.2.2]] W fun e w'=>e = .returned (.bool (p x)) /\ Bw W w') :
 Calls Tryz.prog 136 #[.slice (some ⟨g,0,none⟩) n cap,.func (.func gf) #[] #[]] w fun e w'=>∃ k,k = (ts.filter fun x=>!p x).length /\ e = .returned (.slice (some ⟨g,0,none⟩) k cap) /\
  w'.ownsRow base 107 4 (.slice (some ⟨g,0,none⟩) k cap) k ((ts.filter fun x=>!p x).flatMap aM) /\ w.grownBy w' (some g):=by
 have hat : At w (some ⟨g,0,none⟩) (ts.flatMap aM):=by obtain ⟨a,c,hv,hat,_⟩:=dA ho;simp only [Value.slice.injEq,true_and] at hv;rw [hv.1];exact hat
 have hcap:=(ud ho).1;have bz:=Lf (some ⟨g,0,none⟩) n cap ts gf #[] p w hn zo hat eg (fun x hx W _=>by simpa using hcl x hx W);have hcm : cap <= 9223372036854775807:=by
  rcases ho.2 with ⟨h1,_⟩ | ⟨g',cap',cur,h1,hb,hg,h4,h5,_⟩
  . simp at h1
  . simp only [Value.slice.injEq] at h1;obtain ⟨_,_,rfl⟩:=h1;unfold maxLen at h5;omega
 have Ho:=ah ho;have gm:=ah hcl;have Hn:=ah hn;have nH:=ah eg;have fu:=ah hat;clear ho hcl hn eg hat;rcases Uq p ts 0 with ⟨h1,h2⟩ | ⟨i,hi,h1,h2,h3⟩
 . rw [h1] at bz;have hK : (ts.filter fun x=>!p x) = ts:=List.filter_eq_self.2 (fun x hx=>by simp [h2 x hx]);rw [hK,Hn.out];have zz:=ah bz;clear bz h1 h2 hK;have Hb : Hid (Bw w w):=Below.refl _ _;go_enter Tryz.func136,Tryz.ntmps136;go_wp2_with fail;refine (zz.out).mono ?_;rintro e w1 ⟨rfl,ae⟩;replace Hb:=az Hb ae;clear ae;go_wp2;go_ret;exact ⟨n,rfl,rfl,ownsRow_below Ho.out Hb.out,DN _ Hb.out⟩
 . rw [h1,Nat.zero_add] at bz;have hin : i < n:=by rw [<- Hn.out];exact hi
   obtain ⟨K,hK⟩ : ∃ K,(ts.filter fun x=>!p x) = K:=⟨_,rfl⟩;rw [hK];have hst : (ts.take (i + 1)).filter (fun x=>!p x) = ts.take i:=by rw [List.take_succ_eq_append_getElem hi,List.filter_append,adF p ts i zo h3];simp [h2]
   have oF : ((i : Int) == -1) = false:=by simp
   have zz:=ah bz;have HK:=ah hK;have bX:=ah hst;clear bz h1 h2 h3 hK hst;have Hb : Hid (Bw w w):=Below.refl _ _;go_enter Tryz.func136,Tryz.ntmps136;go_wp2_with fail;refine (zz.out).mono ?_;rintro e w1 ⟨rfl,ae⟩;replace Hb:=az Hb ae;clear ae;go_wp2_with fail;go_loopw [5,6] (fun s5 s6 wr=>∃ (x y : Nat) (C : List aK),s5 = .int .i64 (x : Int) /\ s6 = .int .i64 (y : Int) /\ x < y /\ y <= n /\ C.length = n /\ C.take x = (ts.take y).filter (fun x=>!p x) /\ C.drop y = ts.drop y /\ wr.ownsRow base 107 4 (.slice (some ⟨g,0,none⟩) n cap) n (C.flatMap aM) /\ w.grownBy wr (some g)) (fun _ s6 _=>n - (intOf s6).toNat);case atStart=>exact ⟨i,i + 1,ts,rfl,by go_num,by omega,by omega,Hn.out,bX.out.symm,rfl,ownsRow_below Ho.out Hb.out,DN _ Hb.out⟩
   case round=>
    clear Hb oF;obtain ⟨x,y,C,rfl,rfl,hxy,Bl,hC,htk,hdr,hov,hg⟩:=hrel;by_cases hlt : y < n
    . have Ld : y < ts.length:=by rw [Hn.out];exact hlt
      have Ui : y < C.length:=by omega
      have hel : C[y] = ts[y]:=by
       have e1 : C[y]? = ts[y]?:=by rw [<- Nat.add_zero y,<- List.getElem?_drop,<- List.getElem?_drop,hdr]
       rw [List.getElem?_eq_getElem Ui,List.getElem?_eq_getElem Ld] at e1;exact Option.some.inj e1
      obtain ⟨l,s,m,e,hx⟩ : ∃ l s m e,ts[y] = (l,s,m,e):=⟨_,_,_,_,rfl⟩;have hw:=Fj hov y Ui (hel.trans hx);have hcl:=gm.out _ (List.getElem_mem Ld);rw [hx] at hcl;have hnx : (ts.take (y + 1)).filter (fun x=>!p x) = (ts.take y).filter (fun x=>!p x) ++ if p (l,s,m,e) then [] else [(l,s,m,e)]:=by rw [List.take_succ_eq_append_getElem Ld,List.filter_append,hx];by_cases hp : p (l,s,m,e) = true<;>simp [hp]
      have hd2 : C.drop (y + 1) = ts.drop (y + 1):=by rw [<- List.drop_drop,<- List.drop_drop,hdr]
      have bz:=iH n cap y (y : Int) (rfl : (some ⟨g,0,none⟩ : Option Addr) = _) hlt rfl;rw [Nat.zero_add] at bz;obtain ⟨hgb,AK⟩:=wu hov;have cw:=ah hov;have Hg:=ah hg;have OQ:=ah htk;have wL:=ah hd2;have qT:=ah hnx;have HC:=ah hC;have NR:=ah hcl;have Hz : Hid (bj wr g (y * 4) [.string (bs l),.bool s,.string (bs m),.int .i64 e]):=hw;clear hov hg htk hd2 hnx hC hcl hw hdr hel hx;have Hb : Hid (Bw wr wr):=Below.refl _ _;obtain ⟨z0,z1,z2,z3⟩:=Hz.out.w4;have P0:=z0;have P1:=z1;have P2:=z2;have P3:=z3;have DF:=nH.out;obtain ⟨W4,eP⟩ : ∃ W4,(wr.alloc (.cells #[.string (bs l),.bool s,.string (bs m),.int .i64 e] 107)) = W4:=⟨_,rfl⟩;have ae : Bw wr W4:=by rw [<- eP];exact zl
      clear z0 z1 z2 z3;replace Hz:=kW Hz ae;have Hv : Hid (ai W4 (wr.heap.size) 107 [.string (bs l),.bool s,.string (bs m),.int .i64 e]):=by rw [<- eP];exact ai.newAt _ _ _ zm
      obtain ⟨z0,z1,z2,z3⟩:=Hz.out.w4;obtain ⟨v0,v1,v2,v3⟩:=Hv.out.c4;replace Hb:=az Hb ae;clear ae;obtain ⟨t,ht⟩ : ∃ t,p (l,s,m,e) = t:=⟨_,rfl⟩;rw [ht] at NR qT;clear ht;go_wp2_with fail;refine (NR.out _).mono ?_;rintro e w5 ⟨rfl,ae⟩;clear z0 z1 z2 z3 v0 v1 v2 v3;replace Hz:=kW Hz ae;replace Hv:=kB Hv ae;obtain ⟨z0,z1,z2,z3⟩:=Hz.out.w4;obtain ⟨v0,v1,v2,v3⟩:=Hv.out.c4;replace Hb:=az Hb ae;clear ae;have gz:=ownsRow_below cw.out Hb.out;have Eu:=grownBy_trans Hg.out (DN _ Hb.out);clear DF;cases t with
      | true =>
        have uG:=ah gz;have Gy:=ah Eu;clear gz Eu;go_wp2;go_roundw;case rel=>exact ⟨x,y + 1,C,rfl,by go_num,by omega,by omega,HC.out,by rw [qT.out,OQ.out];simp,wL.out,uG.out,Gy.out⟩
        case measure=>simp [intOf];omega
      | false =>
        have KZ : x < C.length:=by have:=HC.out;omega
        obtain ⟨lx,sx,mx,ex,Ue⟩ : ∃ l s m e,C[x] = (l,s,m,e):=⟨_,_,_,_,rfl⟩;obtain ⟨u0,u1,u2,u3⟩:=(Fj gz x KZ Ue).w4;have mO:=kM gz (x * 4);have lv:=kM gz (x * 4 + 1);have DL:=kM gz (x * 4 + 2);have Qz:=kM gz (x * 4 + 3);have oD:=iH n cap x (x : Int) (rfl : (some ⟨g,0,none⟩ : Option Addr) = _) zo rfl;rw [Nat.zero_add] at oD;have uG:=ah gz;have Gy:=ah Eu;have OY:=ah KZ;clear gz Eu Ue KZ;go_wp2;refine ⟨⟨x + 1,y + 1,C.set x (l,s,m,e),by go_num,by go_num,by omega,by omega,by rw [List.length_set];exact HC.out,?_,?_,ahL uG.out x OY.out l s m e,?_⟩,by simp [intOf];omega⟩
        . rw [take_set _ _ _ OY.out,OQ.out,qT.out];simp
        . rw [Ja _ _ _ _ zo];exact wL.out
        . exact DR (DR (DR (DR Gy.out _ _) _ _) _ _) _ _
    . obtain rfl : y = n:=by omega
      have hK : C.take x = K:=by rw [htk,<- HK.out,List.take_of_length_le (by rw [Hn.out];exact Nat.le_refl _)]
      have DZ : K.length = x:=by rw [<- hK,List.length_take,hC];omega
      have xM:=VD hov x zo;rw [Qw C x zo,hK] at xM;obtain ⟨w6,alQ,AX,Sw⟩:=We wr 55 107 _ 4 Tryz.underlying55 Tryz.aoh rfl (by intro v hv;simp [Value.cells] at hv;rcases hv with rfl | rfl | rfl | rfl<;>rfl) g x (y - x) cap (cap - x) base (K.flatMap aM) xM zo;have iU : ¬ cap = x:=by omega
      have Zn:=ah AX;have qP:=ah (grownBy_trans hg Sw);have Xw:=ah DZ;clear htk hdr hC hK DZ xM hov hg AX Sw;go_wp2;go_ret;exact ⟨x,Xw.out.symm,rfl,Zn.out,qP.out⟩
theorem At.first {w : World} {a : Option Addr} {xs : List Value} (h : At w a xs) (k : Nat) : At w a (xs.take k):=by
 rcases h with rfl | ⟨b,o,rfl,hc⟩
 . exact .inl zm
 . refine .inr ⟨b,o,rfl,fun j hj=>?_⟩;rw [List.length_take] at hj;rw [hc j zo,List.getElem?_take_of_lt zo]
def Ix (w : World) (a : Option Addr) (n cap : Nat) (ts : List aK) (e : Ending) (w' : World) : Prop:=
 ∃ v',e = .returned v' /\ ((n < 2 /\ v' = .slice a n cap) \/ (2 <= n /\ w'.ownsRow w.heap.size 107 4 v' (fL ts).length ((fL ts).flatMap aM))) /\ Bw w w'
theorem Ix.at {w : World} {a : Option Addr} {n cap : Nat} {ts : List aK} {e : Ending} {w' : World} (h : Ix w a n cap ts e w') (hn : ts.length = n) (hs : Sl a n cap) (ha : At w a (ts.flatMap aM)) :
 ∃ a' c',e = .returned (.slice a' (fL ts).length c') /\ At w' a' ((fL ts).flatMap aM) /\ Sl a' (fL ts).length c' /\ Bw w w':=by
 obtain ⟨v',rfl,h1,hb⟩:=h;rcases h1 with ⟨h2,rfl⟩ | ⟨h2,ho⟩
 . rw [Fy ts zo,hn];exact ⟨a,cap,rfl,ha.below hb,hs,hb⟩
 . obtain ⟨a',c',rfl,hat,_⟩:=dA ho;exact ⟨a',c',rfl,hat,ud ho,hb⟩
theorem aju (n : Nat) : ∀ (a : Option Addr) (cap : Nat) (ts : List aK) (B : Nat) (w : World),ts.length = n -> Sl a n cap -> n <= 65536 -> At w a (ts.flatMap aM) -> (∀ t ∈ ts,Fit B t.2) -> B + n + 2 <= 268435456 -> aB w ->
 Calls Tryz.prog 137 #[.slice a n cap,.func (.func 100) #[] #[],.func (.func 101) #[] #[]] w (Ix w a n cap ts):=by
 induction n using Nat.strongRecOn with
 | _ n ih =>
   intro a cap ts B w hn hs hl ha hf hB hT;by_cases h2 : n < 2
   . have h2i : (n : Int) < 2:=by omega
     clear ih hn hs ha hf hT;have Hb : Hid (Bw w w):=Below.refl _ _;go_enter Tryz.func137,Tryz.ntmps137;go_wp2;go_ret;exact ⟨_,rfl,.inl ⟨h2,rfl⟩,Hb.out⟩
   . obtain ⟨k,hk⟩ : ∃ k,n / 2 = k:=⟨_,rfl⟩;have hk1 : 1 <= k:=by omega
     have hk2 : k < n:=by omega
     have AO : (n : Int) / 2 = (k : Int):=by omega
     have l1 : (ts.take k).length = k:=by rw [List.length_take];omega
     have l2 : (ts.drop k).length = n - k:=by rw [List.length_drop];omega
     have hcn:=hs.1;have s1 : Sl a k cap:=⟨by omega,hs.2⟩;have s2 : Sl (if cap = k then a else a.map (·.add (k * 4))) (n - k) (cap - k):=hs.cut zo;have a1:=ha.first (k * 4);rw [Qw ts k zo] at a1;have a2:=ha.cut (k:=k) (size:=4) (by rw [kg,hn]) zo hcn;have ed : (ts.flatMap aM).drop (k * 4) = (ts.drop k).flatMap aM:=by
      have e : ts = ts.take k ++ ts.drop k:=(List.take_append_drop _ _).symm;conv=>lhs;rw [e]
      rw [List.flatMap_append,List.drop_left' (by rw [kg,l1])]
     rw [ed] at a2;obtain ⟨a',ha'⟩ : ∃ a',(if cap = k then a else a.map (·.add (k * 4))) = a':=⟨_,rfl⟩;rw [ha'] at s2 a2;have f1 : ∀ t ∈ ts.take k,Fit B t.2:=fun t ht=>hf t (List.mem_of_mem_take ht);have f2 : ∀ t ∈ ts.drop k,Fit B t.2:=fun t ht=>hf t (List.mem_of_mem_drop ht);have c1:=fun W (hW : Bw w W) (Av : aB W)=>(ih k hk2 a cap (ts.take k) B W l1 s1 zo (a1.below hW) f1 zo Av).mono (fun e w' h=>h.at l1 s1 (a1.below hW));have c2:=fun W (hW : Bw w W) (Av : aB W)=>(ih (n - k) zo a' (cap - k) (ts.drop k) B W l2 s2 zo (a2.below hW) f2 zo Av).mono (fun e w' h=>by obtain ⟨x1,x2,x3,x4,x5,x6⟩:=h.at l2 s2 (a2.below hW);exact (⟨x1,x2,x3,x4,x5,Nat.le_trans hW.size x6.size,x6,x6⟩ : ∃ a1 c1,e = .returned (.slice a1 (fL (ts.drop k)).length c1) /\ At w' a1 ((fL (ts.drop k)).flatMap aM) /\ Sl a1 (fL (ts.drop k)).length c1 /\ w.heap.size <= w'.heap.size /\ Bw W w' /\ Bw W w'));have g1:=Mx (B:=B) (ts.take k) f1 zo;have g2:=Mx (B:=B) (ts.drop k) f2 zo;have e1:=Fx (ts.take k);have e2:=Fx (ts.drop k);have hst : fL ts = fI (fL (ts.take k)) (fL (ts.drop k)):=by rw [My ts zo,hn,hk]
     obtain ⟨L,hL⟩ : ∃ L,fL (ts.take k) = L:=⟨_,rfl⟩;obtain ⟨R,hR⟩ : ∃ R,fL (ts.drop k) = R:=⟨_,rfl⟩;rw [hL] at c1 g1 e1 hst;rw [hR] at c2 g2 e2 hst;have h2i : ¬ (n : Int) < 2:=by omega
     have h2n : 2 <= n:=by omega
     have C1:=ah c1;have C2:=ah c2;have G1:=ah (fun t ht=>(g1 t ht).mono (show B + (ts.take k).length <= B + n by omega));have G2:=ah (fun t ht=>(g2 t ht).mono (show B + (ts.drop k).length <= B + n by omega));have bX:=ah hst;have HT:=ah hT;have CK : Hid (L.length <= 65536 /\ R.length <= 65536):=⟨by omega,by omega⟩;have uK:=ha';clear ih hn hs ha hf hT a1 a2 s1 s2 f1 f2 c1 c2 g1 g2 e1 e2 hst ed l1 l2 hL hR hk ha';have Hb : Hid (Bw w w):=Below.refl _ _;go_enter Tryz.func137,Tryz.ntmps137;go_wp2_with fail;have hkn : k <= n:=by omega
     have hkc : k <= cap:=by omega
     refine bE (fun w'=>True) (fun i=>Nat.blt i 100000) [(0,true),(1,true),(2,true),(3,true),(4,true),(6,true),(7,true),(8,true),(9,true),(10,true),(12,true),(13,true),(5,false),(11,false),(14,false),(15,true)] zk zk rfl zk zc True.intro ?_;iterate 12 (refine pT rfl rfl ?_;try simp only [UU])
     refine aI rfl rfl (fun K hK=>?_);go_simp;with_reducible refine (C1.out _ (by first | exact Hb.out | exact Hb.out.drew) (by first | exact (HT.out.below Hb.out) | exact aB.drew (HT.out.below Hb.out) | exact aB.alloc (HT.out.below Hb.out) _ | exact aB.drew (aB.alloc (HT.out.below Hb.out) _) | exact aB.alloc (aB.drew (HT.out.below Hb.out)) _)).mono ?_
     rintro e w1 ⟨b1,d1,rfl,jP,hs1,hq⟩;have ae : Bw w w1:=by first | exact hq | exact aN hq
     replace Hb:=az Hb ae;clear ae;refine hK _ _ (fun _=>True.intro) ?_;clear hK K;try simp only [UU]
     refine aI rfl rfl (fun K hK=>?_);go_simp;with_reducible refine (C2.out _ (by first | exact Hb.out | exact Hb.out.drew) (by first | exact (HT.out.below Hb.out) | exact aB.drew (HT.out.below Hb.out) | exact aB.alloc (HT.out.below Hb.out) _ | exact aB.drew (aB.alloc (HT.out.below Hb.out) _) | exact aB.alloc (aB.drew (HT.out.below Hb.out)) _)).mono ?_
     rintro e w2 ⟨b2,d2,rfl,ov,hs2,afo,sW,hq⟩;have ae : Bw w1 w2:=by first | exact hq | exact aN hq
     replace Hb:=az Hb ae;clear ae;refine hK _ _ (fun _=>True.intro) ?_;clear hK K;try simp only [UU]
     refine aI rfl rfl (fun K hK=>?_);go_simp;with_reducible refine (Vb b1 L.length d1 L b2 R.length d2 R (B + n) _ rfl rfl hs1 hs2 CK.out.1 CK.out.2 (by first | exact jP.below sW | exact (jP.below sW).drew) (by first | exact ov | exact ov.drew) G1.out G2.out zo (by first | exact (HT.out.below Hb.out) | exact aB.drew (HT.out.below Hb.out) | exact aB.alloc (HT.out.below Hb.out) _ | exact aB.drew (aB.alloc (HT.out.below Hb.out) _) | exact aB.alloc (aB.drew (HT.out.below Hb.out)) _)).mono ?_
     rintro e w3 ⟨v',rfl,ho,hq⟩;have ae : Bw w2 w3:=by first | exact hq | exact aN hq
     replace Hb:=az Hb ae;clear ae;refine hK _ _ (fun _=>True.intro) ?_;clear hK K;try simp only [UU]
     refine pT rfl rfl ?_;try simp only [UU]
     simp only [aV];go_wp2;go_ret;exact ⟨v',rfl,.inr ⟨h2n,by rw [bX.out];exact ny ho afo⟩,Hb.out⟩
def xe (x : aK) : aK:=(x.1,canon (aC x.2))
theorem UZ (f : aK -> aK) (K C : List aK) (k : Nat) (hk : k < C.length) (hl : C.length = K.length) (ht : C.take k = (K.map f).take k) (hx : C[k] = K[k]'zo) : (C.set k (f C[k])).take (k + 1) = (K.map f).take (k + 1):=by rw [take_set _ _ _ hk,ht,List.take_succ_eq_append_getElem zi,List.getElem_map,hx]
theorem Qj {K C : List aK} {k : Nat} (hd : C.drop k = K.drop k) (h1 : k < C.length) (h2 : k < K.length) : C[k] = K[k]:=by
 have e1 : C[k]? = K[k]?:=by rw [<- Nat.add_zero k,<- List.getElem?_drop,<- List.getElem?_drop,hd]
 rw [List.getElem?_eq_getElem h1,List.getElem?_eq_getElem h2] at e1;exact Option.some.inj e1
theorem acj (V : Int) (v : Value) (n : Nat) (ts : List aK) (B : Nat) (w0 w : World) (hb0 : Bw w0 w) (hn : ts.length = n) (hl : n <= 4096) (ho : w.ownsRow w0.heap.size 107 4 v n (ts.flatMap aM)) (hf : ∀ t ∈ ts,Fit B t.2) (hB : B + n + 2 <= 268435456) (hT : aB w0) :
 Calls Tryz.prog 97 #[.int .i64 V,v] w fun e w'=>∃ v',e = .returned (.tuple #[.agg #[.int .i64 V,v'],.int .i64 0]) /\ w'.ownsRow w0.heap.size 107 4 v' (bC ts).length ((bC ts).flatMap aM) /\ Bw w0 w':=by
 obtain ⟨a,cap,rfl,hat,_⟩:=dA ho;have hs:=ud ho;have Ev:=Mx ts hf zo;have hsl:=Fx ts;have eg : ∀ args w,(callFunc 138 args).run Tryz.prog w = .ok (.enter 138 args) w:=enters_of Tryz.func138 zk rfl;obtain ⟨S,hS⟩ : ∃ S,fL ts = S:=⟨_,rfl⟩;have c1 : ∀ W,Bw w W -> Calls Tryz.prog 137 #[.slice a n cap,.func (.func 100) #[] #[],.func (.func 101) #[] #[]] W fun e w'=>∃ v1,e = .returned v1 /\ w'.ownsRow w0.heap.size 107 4 v1 S.length (S.flatMap aM) /\ Bw W w':=by
  intro W hW;refine (aju n a cap ts B W hn hs zo (hat.below hW) hf hB (hT.below (aJ hb0 hW))).mono ?_;rintro e w' ⟨v1,rfl,h1,hb⟩;refine ⟨v1,rfl,?_,hb⟩;rcases h1 with ⟨h2,rfl⟩ | ⟨h2,cJ⟩
  . rw [<- hS,Fy ts zo,hn];exact ownsRow_below ho (aJ hW hb)
  . rw [<- hS];exact ny cJ (by have:=hW.size;have:=hb0.size;omega)
 obtain ⟨K,hK⟩ : ∃ K,S.filter fQ = K:=⟨_,rfl⟩;have DZ : K.length <= 4096:=by have:=List.length_filter_le fQ S;rw [hK] at this;rw [hS] at hsl;omega
 rw [hS] at Ev hsl;have c2 : ∀ W v1,Bw w0 W -> W.ownsRow w0.heap.size 107 4 v1 S.length (S.flatMap aM) -> Calls Tryz.prog 136 #[v1,.func (.func 138) #[] #[]] W fun e w'=>∃ v2,e = .returned v2 /\ w'.ownsRow w0.heap.size 107 4 v2 K.length (K.flatMap aM) /\ W.grownBy w' v1.ownBlock:=by
  intro W v1 hW cJ;have hcl : ∀ x ∈ S,∀ W,Calls Tryz.prog 138 #[.agg #[.string (bs x.1),.bool x.2.1,.string (bs x.2.2.1),.int .i64 x.2.2.2]] W fun e w'=>e = .returned (.bool (!fQ x)) /\ Bw W w':=fun x hx W=>aci x.1 x.2.1 x.2.2.1 x.2.2.2 W (Ev x hx).1;by_cases h0 : 0 < S.length
  . obtain ⟨g,c,rfl,_,_,_⟩:=ym cJ h0;refine (acT g S.length c w0.heap.size S _ (fun x=>!fQ x) W rfl zo h0 cJ eg hcl).mono ?_;rintro e w' ⟨k,hk,rfl,dU,hg2⟩;simp only [Bool.not_not] at hk dU;rw [hK] at hk dU;subst hk;exact ⟨_,rfl,dU,hg2⟩
  . have lV : S = []:=List.eq_nil_of_length_eq_zero zo;obtain ⟨a1,c,rfl,jP,_⟩:=dA cJ;refine (acU a1 S.length c S _ (fun x=>!fQ x) W rfl zo jP eg (fun x hx=>by rw [lV] at hx;cases hx) hcl).mono ?_;rintro e w' ⟨rfl,hb⟩;have rh : K = S:=by rw [<- hK,lV];rfl
    rw [rh];exact ⟨_,rfl,ownsRow_below cJ hb,DN _ hb⟩
 have QT : ∀ t ∈ K,Fit (B + ts.length) t.2:=fun t ht=>by rw [<- hK] at ht;exact Ev t (List.mem_filter.1 ht).1
 have hcl : bC ts = K.map xe:=by unfold bC;rw [hS,hK];rfl
 rw [hcl,List.length_map];have hz:=hb0.size;obtain ⟨m,hm⟩ : ∃ m,K.length = m:=⟨_,rfl⟩;rw [hm] at DZ c2 ⊢;have Hm:=ah hm;have C1:=ah c1;have C2:=ah c2;have Xv:=ah QT;have Hw0:=ah hb0;have HT:=ah hT;clear c1 c2 hm QT hcl hb0 hT Ev hS hK ho hat hs hf eg hsl;have Hb : Hid (Bw w w):=Below.refl _ _;go_enter Tryz.func97,Tryz.ntmps97;go_wp2_with fail;obtain ⟨R,hR⟩ : ∃ R : World -> Prop,(fun W=>ai W (w.heap.size) 57 [.int .i64 0,.slice none 0 0] /\ Bw w W) = R:=⟨_,rfl⟩;first | refine bB R ?hR ?_ | refine bA R ?hR ?_
 case hR=>subst hR;exact ⟨(ai.newAt w _ _ (b:=w.heap.size) rfl),zl⟩
 subst hR;rintro W ⟨qr,ae⟩;have Hr:=ah qr;clear qr;obtain ⟨r0,aj,r1,ar⟩:=Hr.out.g2;replace Hb:=az Hb ae;clear ae;go_wp2_with fail;refine (C1.out _ Hb.out).mono ?_;rintro e w1 ⟨v1,rfl,cJ,ae⟩;clear r0 aj r1 ar;replace Hr:=kB Hr ae;obtain ⟨r0,aj,r1,ar⟩:=Hr.out.g2;replace Hb:=az Hb ae;clear ae;have hw1:=aJ Hw0.out Hb.out;go_wp2_with fail;refine (C2.out _ v1 hw1 cJ).mono ?_;rintro e w2 ⟨v2,rfl,dU,hg2⟩;have hr2:=Hr.out.row zd cJ hg2;have hw2:=abI (hg2) (Nat.le_trans hz Hb.out.size) (fun g e=>cL cJ g e);have OV:=ah (hw1.trans hw2);have qU:=ah dU;replace Hr:=ah hr2;clear C1 C2 cJ hg2 hw1 hw2 hr2 dU r0 aj r1 ar Hb;have hKi : ¬ (4096 : Int) < (m : Int):=by omega
 obtain ⟨a2,cap2,rfl,_,_⟩:=dA qU.out;go_wp2_with fail;go_loopw [16] (fun x wr=>∃ (k : Nat) (C : List aK),k <= m /\ x = .int .i64 (k : Int) /\ C.length = m /\ C.take k = (K.map xe).take k /\ C.drop k = K.drop k /\ wr.ownsRow w0.heap.size 107 4 (.slice a2 m cap2) m (C.flatMap aM) /\ ai wr w.heap.size 57 [.int .i64 0,.slice none 0 0] /\ Bw w0 wr) (fun x _=>m - (intOf x).toNat);case atStart=>exact ⟨0,K,Nat.zero_le _,rfl,Hm.out,rfl,rfl,qU.out,Hr.out,OV.out⟩
 case round=>
  clear Hr qU OV;obtain ⟨k,C,hk,rfl,hC,htk,hdr,hov,hr,pb⟩:=hrel;by_cases hlt : k < m
  . obtain ⟨g,cc,he,hg1,hg2,hg3⟩:=ym hov zo;simp only [Value.slice.injEq,true_and] at he;obtain ⟨rfl,rfl⟩:=he;have rE : k < C.length:=by omega
    have vr : k < K.length:=by have:=Hm.out;omega
    have hel:=Qj hdr rE vr;obtain ⟨l,s,q,e,hx⟩ : ∃ l s m e,C[k] = (l,s,m,e):=⟨_,_,_,_,rfl⟩;have dO:=Xv.out _ (List.getElem_mem vr);rw [<- hel,hx] at dO;obtain ⟨D,hD⟩ : ∃ D,aC (s,q,e) = D:=⟨_,rfl⟩;have jw:=UZ xe K C k rE (by rw [hC,Hm.out]) htk hel;have AC : xe C[k] = (l,canon D):=by rw [hx,<- hD];rfl
    rw [AC] at jw;have iU : C[k].1 = l:=by rw [hx]
    have hw:=Fj hov k rE hx;have hd2 : C.drop (k + 1) = K.drop (k + 1):=by rw [<- List.drop_drop,<- List.drop_drop,hdr]
    have bz:=iH m cap2 k (k : Int) (rfl : (some ⟨g,0,none⟩ : Option Addr) = _) hlt rfl;rw [Nat.zero_add] at bz;have Yy : Hid (∀ W,aB W -> Calls Tryz.prog 69 #[.agg #[.bool s,.string (bs q),.int .i64 e]] W fun ex w'=>ex = .returned (bJ D) /\ Bw W w'):=fun W Av=>nX s q e D hD W dO.1 Av;have cw:=ah hov;have aR:=ah pb;have Ie:=ah jw;have wL:=ah hd2;have HC:=ah hC;have Gn:=ah iU;have ut:=ah (HT.out.below pb);have Hr : Hid (ai wr w.heap.size 57 [.int .i64 0,.slice none 0 0]):=hr;have Hz : Hid (bj wr g (k * 4) [.string (bs l),.bool s,.string (bs q),.int .i64 e]):=hw;clear hov pb jw hd2 hC hr hw htk hdr hel hx dO hD AC iU vr;have Hb : Hid (Bw wr wr):=Below.refl _ _;obtain ⟨z0,z1,z2,z3⟩:=Hz.out.w4;have y2 : wr.cell? ⟨g,k * 4 + 1 + 1,none⟩ = some (.string (bs q)):=z2;have y3 : wr.cell? ⟨g,k * 4 + 1 + 2,none⟩ = some (.int .i64 e):=z3;go_wp2_with fail;refine (Yy.out _ ut.out).mono ?_;rintro e w5 ⟨rfl,ae⟩;clear z0 z1 z2 z3;replace Hz:=kW Hz ae;obtain ⟨z0,z1,z2,z3⟩:=Hz.out.w4;replace Hb:=az Hb ae;clear ae;have gz:=ownsRow_below cw.out Hb.out;clear y2 y3;have y2 : w5.cell? ⟨g,k * 4 + 1 + 1,none⟩ = some (.string (bs q)):=z2;have y3 : w5.cell? ⟨g,k * 4 + 1 + 2,none⟩ = some (.int .i64 e):=z3;have lv:=kM gz (k * 4 + 1);have DL:=kM gz (k * 4 + 1 + 1);have Qz:=kM gz (k * 4 + 1 + 2);have hgb:=(wu gz).2;have rJ:=Hr.out.below Hb.out;have dc:=aJ aR.out Hb.out;have Kk : g ≠ w.heap.size:=fun e=>rJ.not_row zd gz (by rw [e];rfl);have uG:=ah gz;have GX:=ah rJ;have eX:=ah dc;clear gz rJ dc;go_wp2;refine ⟨⟨k + 1,C.set k (l,canon D),by omega,by go_num,by rw [List.length_set];exact HC.out,Ie.out,by rw [Ja _ _ _ _ zo];exact wL.out,?_,?_,?_⟩,by simp [intOf];omega⟩
    . have h:=VC uG.out k rE (au (dN D)) (nt (dN D).natAbs) (dE D);rw [Gn.out] at h;exact h
    . exact ((GX.out.anU _ Kk _).anU _ Kk _).anU _ Kk _
    . exact ((eX.out.setCell zp _).setCell zp _).setCell zp _
  . obtain rfl : k = m:=by omega
    have Aj : C = K.map xe:=by rw [List.take_of_length_le zo,List.take_of_length_le (by rw [List.length_map];have:=Hm.out;omega)] at htk;exact htk
    rw [Aj] at hov;have cw:=ah hov;have aR:=ah pb;have Hr : Hid (ai wr w.heap.size 57 [.int .i64 0,.slice none 0 0]):=hr;clear hov pb hr htk hdr hC Aj;obtain ⟨r0,aj,r1,ar⟩:=Hr.out.g2;go_wp2;have hne:=(Hr.out.not_row zd cw.out).symm;have hrs:=Hr.out.lt;refine gq (fun w9=>ai w9 w.heap.size 57 [.int .i64 V,.slice a2 k cap2] /\ w9.ownsRow w0.heap.size 107 4 (.slice a2 k cap2) k ((K.map xe).flatMap aM) /\ Bw w0 w9) ⟨(Hr.out.set 0 _).set 1 _,ownsRow_setCell_other (ownsRow_setCell_other cw.out hne _) hne _,(aR.out.setCell hz _).setCell hz _⟩ ?_;rintro w9 ⟨iF,gg,jQ⟩;obtain ⟨q0,q1⟩:=iF.c2;exact bodyPost_ret (v:=.tuple #[.agg #[.int .i64 V,.slice a2 k cap2],.int .i64 0]) (by simp [results,Tryz.results97,go_sem,q0,q1]) rfl ⟨_,rfl,gg,jQ⟩
theorem IM (V : Int) (v : Value) (n : Nat) (ts C : List aK) (B : Nat) (w0 w : World) (hb0 : Bw w0 w) (hn : ts.length = n) (hl : n <= 4096) (ho : w.ownsRow w0.heap.size 107 4 v n (ts.flatMap aM)) (hf : ∀ t ∈ ts,Fit B t.2) (hB : B + n + 2 <= 268435456) (hT : aB w0) (hC : bC ts = C) :
 Calls Tryz.prog 97 #[.int .i64 V,v] w fun e w'=>∃ a c,e = .returned (.tuple #[.agg #[.int .i64 V,.slice a C.length c],.int .i64 0]) /\ w'.ownsRow w0.heap.size 107 4 (.slice a C.length c) C.length (C.flatMap aM) /\ Bw w0 w':=by
 subst hC;refine (acj V v n ts B w0 w hb0 hn hl ho hf hB hT).mono ?_;rintro e w' ⟨v',rfl,h1,h2⟩;obtain ⟨a,c,rfl,_,_⟩:=dA h1;exact ⟨a,c,rfl,h1,h2⟩
theorem ahJ {w W : World} {b base k : Nat} {v x0 x1 : Value} {xs : List Value} (hr : ai W b 57 [x0,x1]) (ho : W.ownsRow base 107 4 v k xs) (hb : Bw w W) (hbs : w.heap.size <= b) (y0 y1 : Value) :
 ai ((W.setCell ⟨b,0,none⟩ y0).setCell ⟨b,1,none⟩ y1) b 57 [y0,y1] /\ ((W.setCell ⟨b,0,none⟩ y0).setCell ⟨b,1,none⟩ y1).ownsRow base 107 4 v k xs /\ Bw w ((W.setCell ⟨b,0,none⟩ y0).setCell ⟨b,1,none⟩ y1):=by
 have hne:=(hr.not_row zd ho).symm;exact ⟨(hr.set 0 _).set 1 _,ownsRow_setCell_other (ownsRow_setCell_other ho hne _) hne _,(hb.setCell hbs _).setCell hbs _⟩
theorem xd {P : Program} {fn : Func} {R : Ending -> World -> Prop} {e : Exit} {a : Act} {w W : World} {b base k : Nat} {v x0 x1 y0 y1 : Value} {xs : List Value} (hr : ai W b 57 [x0,x1]) (ho : W.ownsRow base 107 4 v k xs) (hb : Bw w W) (hbs : w.heap.size <= b)
 (h : ∀ W',ai W' b 57 [y0,y1] -> W'.ownsRow base 107 4 v k xs -> Bw w W' -> bodyPost P fn R e a W') : bodyPost P fn R e a ((W.setCell ⟨b,0,none⟩ y0).setCell ⟨b,1,none⟩ y1):=by
 obtain ⟨h1,h2,h3⟩:=ahJ hr ho hb hbs y0 y1;exact h _ h1 h2 h3
theorem PK (a : Option Addr) (n cap : Nat) (ts : List aK) (w : World) (hn : ts.length = n) (hl : n <= 1048576) (hs : Sl a n cap) (ha : At w a (ts.flatMap aM)) :
 Calls Tryz.prog 96 #[.slice a n cap] w fun e w'=>∃ v',e = .returned v' /\ w'.ownsRow w.heap.size 107 4 v' n (ts.flatMap aM) /\ Bw w w':=by
 obtain ⟨i0,hi,hz0,hz1,hz2⟩:=info_parts Tryz.an0;have q:=fun (w : World) (a : Option Addr) (n c n' c' : Nat)=>Lib.run_eql_slice_nil (P:=Tryz.prog) w 55 107 a n c n' c' Tryz.underlying55;have hlen : (ts.flatMap aM).length = n * 4:=by rw [jr aM 4 (fun _=>rfl),hn]
 obtain ⟨cs,hcs⟩ : ∃ cs,ts.flatMap aM = cs:=⟨_,rfl⟩;have h1:=qC ts;rw [hcs] at hlen ha h1 ⊢;have lM:=ah hlen;have Ha:=ah ha;have H1:=ah h1;have Hs:=ah hs;have Hi:=ah hi;have cO:=ah hz0;have cP:=ah hz1;have cE:=ah hz2;clear hlen ha h1 hs hi hz0 hz1 hz2 hn hcs;cases a with
 | none =>
   have hc:=Hs.out.2 rfl;have hn0 : n = 0:=by have:=Hs.out.1;omega
   subst hc;subst hn0;go_enter Tryz.func96,Tryz.ntmps96;go_wp2;go_ret;refine ⟨_,rfl,?_,Below.refl _ _⟩;have e : cs = []:=List.eq_nil_of_length_eq_zero (by have:=lM.out;omega);rw [e];exact World.ownsRow_nil _ _ _ _
 | some ad =>go_enter Tryz.func96,Tryz.ntmps96;go_wp2_with (at_builtin;refine qE rfl _ _ 55 rfl w.heap.size 107 i0 _ 4 48 Tryz.underlying55 Hi.out cO.out cP.out cE.out rfl zd _ 0 [] rfl (World.ownsRow_made w #[] 0 (Nat.le_refl _) (Nat.zero_le _) zm) (some ad) n cap cs rfl Hs.out lM.out (Ha.out.below ((Below.refl _ w).alloc (Nat.le_refl _) _)) H1.out zx zo zm ?_;intro v' w1 hown hgrow fO);go_ret;refine ⟨v',rfl,by simpa using hown,?_⟩;exact ((Below.refl _ w).alloc (Nat.le_refl _) _).grown hgrow zm (fun k hk=>by have h9 : w.heap.size = k:=Option.some.inj hk;omega)
theorem agQ (V : Int) (ts : List aK) (h : ∀ t ∈ ts,fA t.1 V = true) : (ts.any fun t=>!fA t.1 V) = false:=by rw [List.any_eq_false];intro t ht;rw [h t ht];simp
theorem UY (V : Nat) (a : Option Addr) (n cap : Nat) (ts : List aK) (B : Nat) (w : World) (hV : V <= 12) (hn : ts.length = n) (hl : n <= 4096) (hs : Sl a n cap) (ha : At w a (ts.flatMap aM)) (hm : ∀ t ∈ ts,fA t.1 V = true) (hl2 : ∀ t ∈ ts,t.1.length <= 9223372036854775807)
 (hf : ∀ t ∈ ts,Fit B t.2) (hB : B + n + 2 <= 268435456) (hT : aB w) :
 Calls Tryz.prog 94 #[.int .i64 (V : Int),.slice a n cap] w fun e w'=>∃ a' c',e = .returned (.tuple #[.agg #[.int .i64 (V : Int),.slice a' (bC ts).length c'],.int .i64 0]) /\ w'.ownsRow w.heap.size 107 4 (.slice a' (bC ts).length c') (bC ts).length ((bC ts).flatMap aM) /\ Bw w w':=by
 have eg : ∀ args w,(callFunc 135 args).run Tryz.prog w = .ok (.enter 135 args) w:=enters_of Tryz.func135 zk rfl;have hct : ∀ W bv,Bw w W -> W.cell? ⟨bv,0,none⟩ = some (.int .i64 (V : Int)) -> Calls Tryz.prog 134 #[.slice a n cap,.func (.func 135) #[] #[.pointer (some ⟨bv,0,none⟩)]] W fun e w'=>e = .returned (.bool false) /\ Bw W w':=by intro W bv hW hc;have h:=acE a n cap ts 135 #[.pointer (some ⟨bv,0,none⟩)] (fun t=>!fA t.1 V) W hn zo (ha.below hW) eg (fun x hx W2 hW2=>by simpa using agO x.1 x.2.1 x.2.2.1 x.2.2.2 V bv W2 (cell_later hW2 hc) (hl2 x hx));rwa [agQ V ts hm] at h
 obtain ⟨C,hC⟩ : ∃ C,bC ts = C:=⟨_,rfl⟩;have hcn:=fun W (hW : Bw w W)=>(PK a n cap ts W hn zo hs (ha.below hW)).mono (fun e w' h=>(match h with | ⟨v,h1,h2,h3⟩=>⟨v,h1,h2,h3,h3⟩ : ∃ v',e = .returned v' /\ w'.ownsRow W.heap.size 107 4 v' n (ts.flatMap aM) /\ Bw W w' /\ Bw W w'));have hcl:=fun w0 W v (hw0 : Bw w w0) (hb0 : Bw w0 W) (ho : W.ownsRow w0.heap.size 107 4 v n (ts.flatMap aM))=>IM (V : Int) v n ts C B w0 W hb0 hn hl ho hf hB (hT.below hw0) hC;rw [hC];have Gl:=ah hct;have qI:=ah hcn;have gm:=ah hcl;clear hct hcn hcl hC ha hT hf hm hl2 hs hn eg;have oC:=fun W=>DJ (V : Int) W;have hd : decide (0 <= (V : Int) /\ (V : Int) <= 12) = true:=by simp;omega
 rw [hd] at oC;have zr:=ah oC;clear oC hd;have hni : ¬ (65536 : Int) < (n : Int):=by omega
 have Hb : Hid (Bw w w):=Below.refl _ _;go_enter Tryz.func94,Tryz.ntmps94;go_wp2_with fail;obtain ⟨R,hR⟩ : ∃ R : World -> Prop,(fun W=>ai W (w.heap.size) 3 [.int .i64 (V : Int)] /\ ai W (w.heap.size + 1) 57 [.int .i64 0,.slice none 0 0] /\ Bw w W) = R:=⟨_,rfl⟩;first | refine bB R ?hR ?_ | refine bA R ?hR ?_
 case hR=>subst hR;exact ⟨((ai.newAt w _ _ (b:=w.heap.size) rfl).alloc _),(ai.newAt (w.alloc _) _ _ (b:=w.heap.size + 1) zm),(zl.alloc zj _)⟩
 subst hR;rintro W ⟨qv,qr,ae⟩;have Hv:=ah qv;clear qv;have Hr:=ah qr;clear qr;have v0:=Hv.out.c1;obtain ⟨r0,aj,r1,ar⟩:=Hr.out.g2;replace Hb:=az Hb ae;clear ae;go_wp2_with fail;refine (zr.out _).mono ?_;rintro e w1 ⟨rfl,ae⟩;clear v0 r0 aj r1 ar;replace Hv:=kB Hv ae;replace Hr:=kB Hr ae;have v0:=Hv.out.c1;obtain ⟨r0,aj,r1,ar⟩:=Hr.out.g2;replace Hb:=az Hb ae;clear ae;go_wp2_with fail;refine (Gl.out _ _ Hb.out v0).mono ?_;rintro e w2 ⟨rfl,ae⟩;clear v0 r0 aj r1 ar;replace Hv:=kB Hv ae;replace Hr:=kB Hr ae;have v0:=Hv.out.c1;obtain ⟨r0,aj,r1,ar⟩:=Hr.out.g2;replace Hb:=az Hb ae;clear ae;go_wp2_with fail;refine bE (fun w'=>w'.cell? ⟨w.heap.size,0,none⟩ = some (.int .i64 (V : Int))) (fun i=>Nat.blt i 6) [(0,true),(1,true),(2,false),(3,false),(4,true),(5,true),(6,false),(7,false)] zk zk rfl zk zc v0 ?_;iterate 2 (refine pT rfl rfl ?_;try simp only [UU])
 have aaf:=Hv;have ji:=Hr;have df:=Hb;refine aI rfl rfl (fun K hK=>?_);go_simp;with_reducible refine (qI.out _ (by first | exact Hb.out | exact Hb.out.drew)).mono ?_
 rintro e w3 ⟨v1,rfl,cJ,aeB,hq⟩;have ae : Bw w2 w3:=by first | exact hq | exact aN hq
 clear v0 r0 aj r1 ar;replace Hv:=kB Hv ae;replace Hr:=kB Hr ae;have v0:=Hv.out.c1;obtain ⟨r0,aj,r1,ar⟩:=Hr.out.g2;replace Hb:=az Hb ae;clear ae;refine hK _ _ (fun _=>v0) ?_;clear hK K;try simp only [UU]
 refine aI rfl rfl (fun K hK=>?_);go_simp;with_reducible refine (gm.out _ _ v1 (by first | exact df.out | exact df.out.drew) aeB cJ).mono ?_
 rintro e w4 ⟨a2,c2,rfl,dU,hq⟩;have ae : Bw w2 w4:=by first | exact hq | exact aN hq
 clear v0 r0 aj r1 ar;replace Hv:=ah (aaf.out.below ae);replace Hr:=ah (ji.out.below ae);have v0:=Hv.out.c1;obtain ⟨r0,aj,r1,ar⟩:=Hr.out.g2;replace Hb:=ah (aJ df.out ae);clear ae;refine hK _ _ (fun _=>v0) ?_;clear hK K;try simp only [UU]
 iterate 2 (refine pT rfl rfl ?_;try simp only [UU])
 refine aI rfl rfl (fun K hK=>?_);go_simp;refine hK _ _ (by first | exact fun h=>absurd h zd | exact fun _=>v0 | exact fun _=>eV zg v0) ?_;clear hK K;try simp only [UU]
 refine aI rfl rfl (fun K hK=>?_);go_simp;refine hK _ _ (fun h=>absurd h zd) ?_;clear hK K;try simp only [UU]
 simp only [aV];go_wp2;refine xd (Hr.out) dU Hb.out zo ?_;intro w9 iF gg jQ;obtain ⟨p0,p1⟩:=iF.c2;exact bodyPost_ret (v:=.tuple #[.agg #[.int .i64 (V : Int),.slice a2 C.length c2],.int .i64 0]) (by simp [results,Tryz.results94,go_sem,p0,p1]) rfl ⟨_,_,rfl,ny gg (by have:=df.out.size;exact this),jQ⟩
def uQ (w : World) (a : Option Addr) (C : List aK) : Prop:=C = [] \/ ∃ b o cur,a = some ⟨b,o,none⟩ /\ w.heap[b]? = some (.cells cur 107)
theorem uQ.below {w w' : World} {a : Option Addr} {C : List aK} (h : uQ w a C) (hb : Bw w w') : uQ w' a C:=by
 rcases h with h | ⟨b,o,cur,h1,h2⟩
 . exact .inl h
 . exact .inr ⟨b,o,cur,h1,by rw [hb.block b (Array.getElem?_eq_some_iff.1 h2).1];exact h2⟩
theorem uQ.off {w : World} {a : Option Addr} {C : List aK} {g : Nat} {cur : Array Value} {t : TypeId} (h : uQ w a C) (hg : w.heap[g]? = some (.cells cur t)) (ht : t ≠ 107) (i : Nat) (u : Value) : uQ (w.setCell ⟨g,i,none⟩ u) a C:=by
 rcases h with h | ⟨b,o,cur',h1,h2⟩
 . exact .inl h
 . refine .inr ⟨b,o,cur',h1,?_⟩;have hne : b ≠ g:=fun e=>by subst e;rw [hg] at h2;simp at h2;exact ht h2.2
   rw [Below.heap_setCell _ _ _ _ hne];exact h2
def cd (w : World) (a : Option Addr) (c : Nat) (C : List aK) : Prop:=At w a (C.flatMap aM) /\ Sl a C.length c /\ uQ w a C
theorem cd.below {w w' : World} {a : Option Addr} {c : Nat} {C : List aK} (h : cd w a c C) (hb : Bw w w') : cd w' a c C:=⟨h.1.below hb,h.2.1,h.2.2.below hb⟩
theorem cd.off {w : World} {a : Option Addr} {c : Nat} {C : List aK} {g : Nat} {cur : Array Value} {t : TypeId} (h : cd w a c C) (hg : w.heap[g]? = some (.cells cur t)) (ht : t ≠ 107) (i : Nat) (u : Value) : cd (w.setCell ⟨g,i,none⟩ u) a c C:=by
 refine ⟨?_,h.2.1,h.2.2.off hg ht i u⟩;rcases h.2.2 with h' | ⟨b,o,cur',rfl,h2⟩
 . subst h';exact .inl rfl
 . have hne : b ≠ g:=fun e=>by subst e;rw [hg] at h2;simp at h2;exact ht h2.2
   rcases h.1 with h1 | ⟨b1,o1,e1,hc⟩
   . exact .inl h1
   . simp only [Option.some.injEq,Addr.mk.injEq,and_true] at e1;obtain ⟨rfl,rfl⟩:=e1;refine .inr ⟨b,o,rfl,fun j hj=>?_⟩;have h9:=hc j hj;rw [List.getElem?_eq_getElem hj] at h9 ⊢;exact aG (.inl hne) h9
theorem cd.store {w : World} {a : Option Addr} {c b : Nat} {t : TypeId} {C : List aK} {cs : List Value} (h : cd w a c C) (hb : ai w b t cs) (ht : t ≠ 107) (u v : Value) : cd ((w.setCell ⟨b,0,none⟩ u).setCell ⟨b,1,none⟩ v) a c C:=
 (h.off hb ht 0 u).off (hb.set 0 u) ht 1 v
theorem BA {w : World} {base c : Nat} {a : Option Addr} {C : List aK} (h : w.ownsRow base 107 4 (.slice a C.length c) C.length (C.flatMap aM)) : cd w a c C:=by
 obtain ⟨a',c',hv,hat,_⟩:=dA h;have hs:=ud h;simp only [Value.slice.injEq,true_and] at hv;obtain ⟨rfl,rfl⟩:=hv;refine ⟨hat,hs,?_⟩;rcases h.2 with ⟨_,h2⟩ | ⟨g,cap,cur,hv,hb,hg,_⟩
 . exact .inl (List.length_eq_zero_iff.1 h2)
 . simp only [Value.slice.injEq,true_and] at hv;exact .inr ⟨g,0,cur,hv.1,hg⟩
theorem akL (V : Nat) : ((List.range V).map fun _=>UInt8.ofNat 0) = oW V:=by
 unfold oW;apply List.ext_getElem
 . simp
 . intro i h1 h2;simp
theorem aga (V : Nat) (D : Dyadic) (x : Raw) (l : Nat -> Dyadic) (h : aC x = D) : bC [(oW V,x)] = eO V D l 0:=by unfold eO;refine xg (fun m=>?_);simp only [gh,List.range_zero,List.map_nil,bL,bP,h]
theorem PR (V : Nat) (s : Bool) (m : List UInt8) (e : Int) (D : Dyadic) (B : Nat) (l : Nat -> Dyadic) (w : World) (hV : V <= 12) (hf : Fit B (s,m,e)) (hB : B + 3 <= 268435456) (hT : aB w) (hD : aC (s,m,e) = D) :
 Calls Tryz.prog 57 #[.int .i64 (V : Int),.agg #[.bool s,.string (bs m),.int .i64 e]] w fun ex w'=>∃ a' c',ex = .returned (.tuple #[.agg #[.int .i64 (V : Int),.slice a' (eO V D l 0).length c'],.int .i64 0]) /\ cd w' a' c' (eO V D l 0) /\ Bw w w':=by
 have hC:=aga V D (s,m,e) l hD;obtain ⟨C,Ju⟩ : ∃ C,eO V D l 0 = C:=⟨_,rfl⟩;rw [Ju] at hC ⊢;have hmk:=fun W (hW : Bw w W) b (hb : ai W b 107 [.string (bs (oW V)),.bool s,.string (bs m),.int .i64 e])=>UY V (some ⟨b,0,none⟩) 1 1 [(oW V,(s,m,e))] B W hV rfl zo (Sl.some _ _ _ (Nat.le_refl _)) (At.anV hb) (by intro t ht;simp at ht;subst ht;exact Xd V) (by intro t ht;simp at ht;subst ht;simp [oW];omega) (by intro t ht;simp at ht;subst ht;exact hf) zo (hT.below hW);rw [hC] at hmk;have oC:=fun W=>DJ (V : Int) W;have hd : decide (0 <= (V : Int) /\ (V : Int) <= 12) = true:=by simp;omega
 rw [hd] at oC;have hmb:=fun W=>pV (V : Int) V rfl zo W;have hcv : ∀ W b,Hid (ai W b 5 (bZ V fun _=>0)) -> (convert 111 9 (.slice (some ⟨b,0,none⟩) V V)).run Tryz.prog W = .ok (.string (bs (oW V))) W:=fun W b h=>by rw [<- akL];exact wB h.out V
 have qR:=ah hmk;have zr:=ah oC;clear hmk oC hd hC Ju hT hf hD;have Hb : Hid (Bw w w):=Below.refl _ _;go_enter Tryz.func57,Tryz.ntmps57;go_wp2_with fail;obtain ⟨R,hR⟩ : ∃ R : World -> Prop,(fun W=>ai W (w.heap.size) 30 [.bool s,.string (bs m),.int .i64 e] /\ ai W (w.heap.size + 1) 57 [.int .i64 0,.slice none 0 0] /\ Bw w W) = R:=⟨_,rfl⟩;first | refine bB R ?hR ?_ | refine bA R ?hR ?_
 case hR=>subst hR;exact ⟨((ai.newAt w _ _ (b:=w.heap.size) rfl).alloc _),(ai.newAt (w.alloc _) _ _ (b:=w.heap.size + 1) zm),(zl.alloc zj _)⟩
 subst hR;rintro W ⟨qc,qr,ae⟩;have Hc:=ah qc;clear qc;have Hr:=ah qr;clear qr;obtain ⟨c0,c1,c2⟩:=Hc.out.c3;obtain ⟨r0,aj,r1,ar⟩:=Hr.out.g2;replace Hb:=az Hb ae;clear ae;go_wp2_with fail;refine (zr.out _).mono ?_;rintro e w1 ⟨rfl,ae⟩;clear c0 c1 c2 r0 aj r1 ar;replace Hc:=kB Hc ae;replace Hr:=kB Hr ae;obtain ⟨c0,c1,c2⟩:=Hc.out.c3;obtain ⟨r0,aj,r1,ar⟩:=Hr.out.g2;replace Hb:=az Hb ae;clear ae;go_wp2_with fail;refine bE (fun w'=>w'.cell? ⟨w.heap.size,0,none⟩ = some (.bool s) /\ w'.cell? ⟨w.heap.size,1,none⟩ = some (.string (bs m)) /\ w'.cell? ⟨w.heap.size,2,none⟩ = some (.int .i64 e)) (fun i=>Nat.blt i 10) [(0,true),(1,true),(4,true),(2,false),(3,false),(5,true),(6,false),(7,false),(8,true),(9,true),(10,false),(11,false)] zk zk rfl zk zc ⟨c0,c1,c2⟩ ?_;iterate 3 (refine pT rfl rfl ?_ (by intro w' ⟨q0,q1,q2⟩;go_simp;try with_reducible rfl);try simp only [UU])
 refine aI rfl rfl (fun K hK=>?_);go_simp;refine hK _ _ (fun _=>⟨aH c0,aH c1,aH c2⟩) ?_;clear hK K;try simp only [UU]
 refine bG (fun W3=>ai W3 (w1.heap.size) 5 (bZ V (fun _=>0)) /\ Bw w1 W3) (by first | exact dP | exact dQ) ?_;rintro W3 ⟨qq,ae⟩;clear c0 c1 c2 r0 aj r1 ar;have UQ:=Hc.out.lt;have EU:=Hr.out.lt;replace Hc:=kB Hc ae;replace Hr:=kB Hr ae;have Hq:=ah qq;clear qq;obtain ⟨c0,c1,c2⟩:=Hc.out.c3;obtain ⟨r0,aj,r1,ar⟩:=Hr.out.g2;replace Hb:=az Hb ae;clear ae;refine aI rfl rfl (fun K hK=>?_);go_simp;refine hK _ _ (fun _=>⟨c0,c1,c2⟩) ?_;clear hK K;try simp only [UU]
 refine pT rfl rfl ?_;try simp only [UU]
 refine aI rfl rfl (fun K hK=>?_);go_simp;refine hK _ _ (fun _=>⟨aH c0,aH c1,aH c2⟩) ?_;clear hK K;try simp only [UU]
 refine bG (fun W4=>ai W4 (W3.heap.size) 107 [.string (bs (oW V)),.bool s,.string (bs m),.int .i64 e] /\ Bw W3 W4) (by first | exact dP | exact dQ) ?_;rintro W4 ⟨qz,ae⟩;clear c0 c1 c2 r0 aj r1 ar;have agy:=Hc.out.lt;have agE:=Hr.out.lt;have amU:=Hq.out.lt;replace Hc:=kB Hc ae;replace Hr:=kB Hr ae;replace Hq:=kB Hq ae;have Hz:=ah qz;clear qz;obtain ⟨c0,c1,c2⟩:=Hc.out.c3;obtain ⟨r0,aj,r1,ar⟩:=Hr.out.g2;obtain ⟨z0,z1,z2,z3⟩:=Hz.out.c4;replace Hb:=az Hb ae;clear ae;refine aI rfl rfl (fun K hK=>?_);go_simp;with_reducible refine (qR.out _ Hb.out _ Hz.out).mono ?_
 rintro e w5 ⟨a2,d2,rfl,dU,hq⟩;have ae : Bw W4 w5:=by first | exact hq | exact aN hq
 clear c0 c1 c2 r0 aj r1 ar z0 z1 z2 z3;replace Hc:=kB Hc ae;replace Hr:=kB Hr ae;replace Hq:=kB Hq ae;replace Hz:=kB Hz ae;obtain ⟨c0,c1,c2⟩:=Hc.out.c3;obtain ⟨r0,aj,r1,ar⟩:=Hr.out.g2;obtain ⟨z0,z1,z2,z3⟩:=Hz.out.c4;replace Hb:=az Hb ae;clear ae;refine hK _ _ (fun _=>⟨c0,c1,c2⟩) ?_;clear hK K;try simp only [UU]
 iterate 2 (refine pT rfl rfl ?_;try simp only [UU])
 refine aI rfl rfl (fun K hK=>?_);go_simp;refine hK _ _ (by first | exact fun h=>absurd h zd | exact fun _=>⟨c0,c1,c2⟩ | exact fun _=>⟨(by first | exact c0 | exact aG zf c0 | exact aG zf (aG zf c0) | exact aG zf (aG zf (aG zf c0))),(by first | exact c1 | exact aG zf c1 | exact aG zf (aG zf c1) | exact aG zf (aG zf (aG zf c1))),(by first | exact c2 | exact aG zf c2 | exact aG zf (aG zf c2) | exact aG zf (aG zf (aG zf c2)))⟩) ?_;clear hK K;try simp only [UU]
 refine aI rfl rfl (fun K hK=>?_);go_simp;refine hK _ _ (fun h=>absurd h zd) ?_;clear hK K;try simp only [UU]
 simp only [aV];go_wp2;refine xd (Hr.out) dU Hb.out zo ?_;intro w9 iF gg jQ;obtain ⟨p0,p1⟩:=iF.c2;exact bodyPost_ret (v:=.tuple #[.agg #[.int .i64 (V : Int),.slice a2 C.length d2],.int .i64 0]) (by simp [results,Tryz.results57,go_sem,p0,p1]) rfl ⟨_,_,rfl,BA gg,jQ⟩
theorem WO (V k : Nat) : ((List.range V).map fun j=>UInt8.ofNat (if j = k then 1 else 0)) = cN V k:=by
 unfold cN;apply List.ext_getElem
 . simp
 . intro i h1 h2;rw [List.getElem_map,List.getElem_range,List.getElem_set];by_cases h : k = i
   . subst h;simp
   . rw [if_neg (fun e=>h e.symm),if_neg h];simp
theorem aj7 : Fit 1 (canon (1 : Dyadic)):=Sm.one.fit zd
theorem aka (V k : Nat) (w : World) (hV : V <= 12) (hk : k < V) (hT : aB w) :
 Calls Tryz.prog 95 #[.int .i64 (V : Int),.int .i64 (k : Int)] w fun ex w'=>∃ a' c',ex = .returned (.tuple #[.agg #[.int .i64 (V : Int),.slice a' (bC [(cN V k,canon 1)]).length c'],.int .i64 0]) /\ cd w' a' c' (bC [(cN V k,canon 1)]) /\ Bw w w':=by
 obtain ⟨C,hC⟩ : ∃ C,bC [(cN V k,canon 1)] = C:=⟨_,rfl⟩;rw [hC];obtain ⟨O,hO⟩ : ∃ O : Dyadic,(1 : Dyadic) = O:=⟨_,rfl⟩;have hmk:=fun W (hW : Bw w W) b (hb : ai W b 107 [.string (bs (cN V k)),.bool (au (dN O)),.string (bs (nt (dN O).natAbs)),.int .i64 (dE O)])=>UY V (some ⟨b,0,none⟩) 1 1 [(cN V k,canon 1)] 1 W hV rfl zo (Sl.some _ _ _ (Nat.le_refl _)) (by rw [hO];exact At.anV hb) (by intro t ht;simp at ht;subst ht;exact MG V k) (by intro t ht;simp at ht;subst ht;simp [cN];omega) (by intro t ht;simp at ht;subst ht;exact aj7) zo (hT.below hW);rw [hC] at hmk;have hof:=fun W (hW : Bw w W)=>Ac 1 O hO W zd (hT.below hW);have oC:=fun W=>DJ (V : Int) W;have hd : decide (0 <= (V : Int) /\ (V : Int) <= 12) = true:=by simp;omega
 rw [hd] at oC;have hmb:=fun W=>pV (V : Int) V rfl zo W;have hcv : ∀ W b,Hid (ai W b 5 (bZ V fun j=>if j = k then 1 else 0)) -> (convert 111 9 (.slice (some ⟨b,0,none⟩) V V)).run Tryz.prog W = .ok (.string (bs (cN V k))) W:=fun W b h=>by rw [<- WO V k];exact wB h.out V
 have bz:=fun b=>tM V V k (k : Int) (rfl : (some ⟨b,0,none⟩ : Option Addr) = _) hk rfl;simp only [Nat.zero_add,Nat.mul_one] at bz;have hget : (bZ V fun _=>0)[k]? = some (.int .u8 0):=jD _ _ _ hk;have jw : (bZ V fun _=>0).set k (.int .u8 1) = bZ V fun j=>if j = k then 1 else 0:=wD V _ k 1
 have qR:=ah hmk;have pg:=ah hof;have zr:=ah oC;clear hmk hof oC hd hC hT hO;have AO : ¬ (k : Int) < 0:=by omega
 have Hb : Hid (Bw w w):=Below.refl _ _;go_enter Tryz.func95,Tryz.ntmps95;go_wp2_with fail;obtain ⟨R,hR⟩ : ∃ R : World -> Prop,(fun W=>ai W (w.heap.size) 57 [.int .i64 0,.slice none 0 0] /\ Bw w W) = R:=⟨_,rfl⟩;first | refine bB R ?hR ?_ | refine bA R ?hR ?_
 case hR=>subst hR;exact ⟨(ai.newAt w _ _ (b:=w.heap.size) rfl),zl⟩
 subst hR;rintro W ⟨qr,ae⟩;have Hr:=ah qr;clear qr;obtain ⟨r0,aj,r1,ar⟩:=Hr.out.g2;replace Hb:=az Hb ae;clear ae;go_wp2_with fail;refine (zr.out _).mono ?_;rintro e w1 ⟨rfl,ae⟩;clear r0 aj r1 ar;replace Hr:=kB Hr ae;obtain ⟨r0,aj,r1,ar⟩:=Hr.out.g2;replace Hb:=az Hb ae;clear ae;go_wp2_with fail;obtain ⟨R,hR⟩ : ∃ R : World -> Prop,(fun W3=>ai W3 w1.heap.size 5 (bZ V fun j=>if j = k then 1 else 0) /\ Bw w1 W3) = R:=⟨_,rfl⟩;first | refine bB R ?hR ?_ | refine bA R ?hR ?_
 case hR=>subst hR;exact ⟨ai.newAt w1 _ _ (b:=w1.heap.size) rfl,zl⟩
 subst hR;intro W3 ⟨qm,ae⟩;clear r0 aj r1 ar;replace Hr:=kB Hr ae;obtain ⟨r0,aj,r1,ar⟩:=Hr.out.g2;replace Hb:=ah (aJ Hb.out ae);have Hm:=ah qm;clear qm ae hget jw bz hmb;have qH : ∀ w',ic W3 w' -> (convert 111 9 (.slice (some ⟨w1.heap.size,0,none⟩) V V)).run Tryz.prog w' = .ok (.string (bs (cN V k))) w':=fun w' h=>hcv w' _ (ah (Hm.out.below h));have bF : Hid (ic W3 W3):=Below.refl _ _;refine bE (fun w'=>ic W3 w') (fun i=>Nat.blt i 9) [(0,true),(1,true),(2,true),(3,false),(4,true),(5,false),(6,false),(7,true),(8,true),(9,false),(10,false)] zk zk rfl zk zc bF.out.drew ?_;iterate 3 (refine LS rfl rfl (v:=?_) (fun w' hw'=>?_) ?_;rotate_left;(focus have hw':=qH w' hw';go_simp;try with_reducible rfl);try simp only [UU])
 refine aI rfl rfl (fun K hK=>?_);go_simp;with_reducible refine (pg.out _ (by first | exact Hb.out | exact Hb.out.drew)).mono ?_
 rintro e w4 ⟨rfl,hq⟩;have ae : Bw W3 w4:=by first | exact hq | exact aN hq
 clear r0 aj r1 ar;replace bF:=ah (bF.out.below ae);replace Hr:=kB Hr ae;obtain ⟨r0,aj,r1,ar⟩:=Hr.out.g2;replace Hb:=az Hb ae;clear ae;refine hK _ _ (fun _=>bF.out) ?_;clear hK K;try simp only [UU]
 refine pT rfl rfl ?_;try simp only [UU]
 refine aI rfl rfl (fun K hK=>?_);go_simp;refine hK _ _ (fun _=>by first | exact bF.out.alloc _ | exact (bF.out.alloc _).drew | exact (bF.out.drew).alloc _) ?_;clear hK K;try simp only [UU]
 refine bG (fun W5=>ai W5 (w4.heap.size) 107 [.string (bs (cN V k)),.bool (au (dN O)),.string (bs (nt (dN O).natAbs)),.int .i64 (dE O)] /\ Bw w4 W5) (by first | exact dP | exact dQ) ?_;rintro W5 ⟨qz,ae⟩;clear r0 aj r1 ar;have EW:=Hr.out.lt;replace bF:=ah (bF.out.below ae);replace Hr:=kB Hr ae;have Hz:=ah qz;clear qz;obtain ⟨r0,aj,r1,ar⟩:=Hr.out.g2;obtain ⟨z0,z1,z2,z3⟩:=Hz.out.c4;replace Hb:=az Hb ae;clear ae;refine aI rfl rfl (fun K hK=>?_);go_simp;with_reducible refine (qR.out _ Hb.out _ Hz.out).mono ?_
 rintro e w6 ⟨a2,d2,rfl,dU,hq⟩;have ae : Bw W5 w6:=by first | exact hq | exact aN hq
 clear r0 aj r1 ar z0 z1 z2 z3;replace bF:=ah (bF.out.below ae);replace Hr:=kB Hr ae;replace Hz:=kB Hz ae;obtain ⟨r0,aj,r1,ar⟩:=Hr.out.g2;obtain ⟨z0,z1,z2,z3⟩:=Hz.out.c4;replace Hb:=az Hb ae;clear ae;refine hK _ _ (fun _=>bF.out) ?_;clear hK K;try simp only [UU]
 iterate 2 (refine pT rfl rfl ?_;try simp only [UU])
 refine aI rfl rfl (fun K hK=>?_);go_simp;refine hK _ _ (by first | exact fun h=>absurd h zd | exact fun _=>bF.out | exact fun _=>eV zg bF.out) ?_;clear hK K;try simp only [UU]
 refine aI rfl rfl (fun K hK=>?_);go_simp;refine hK _ _ (fun h=>absurd h zd) ?_;clear hK K;try simp only [UU]
 simp only [aV];go_wp2;refine xd (Hr.out) dU Hb.out zo ?_;intro w9 iF gg jQ;obtain ⟨p0,p1⟩:=iF.c2;exact bodyPost_ret (v:=.tuple #[.agg #[.int .i64 (V : Int),.slice a2 C.length d2],.int .i64 0]) (by simp [results,Tryz.results95,go_sem,p0,p1]) rfl ⟨_,_,rfl,BA gg,jQ⟩
theorem Va {l : List UInt8} {V : Nat} (h : fA l (V : Int) = true) : l.length = V:=by unfold fA at h;rw [Bool.and_eq_true] at h;have:=h.2;simp at this;omega
def iN (V B : Nat) (ts : List aK) : Prop:=zS V ts /\ ∀ t ∈ ts,Fit B t.2
theorem iN.chk {V B : Nat} {ts : List aK} (h : iN V B ts) : ∀ t ∈ ts,t.1.length <= 9223372036854775807 /\ Ok t.2:=fun t ht=>⟨by have:=Va (h.1.2.1 t ht);have:=h.1.2.2.2;omega,(h.2 t ht).1⟩
theorem Wj (V : Nat) (a : Option Addr) (cap : Nat) (ts : List aK) (s : Bool) (m : List UInt8) (e : Int) (D : Dyadic) (B : Nat) (w : World) (hp : iN V B ts) (ha : cd w a cap ts) (hf : Fit B (s,m,e)) (hB : 2 * B + 8192 <= 268435456) (hT : aB w) (hD : aC (s,m,e) = D) :
 Calls Tryz.prog 59 #[.agg #[.int .i64 (V : Int),.slice a ts.length cap],.agg #[.bool s,.string (bs m),.int .i64 e]] w fun ex w'=>∃ a' c',ex = .returned (.tuple #[.agg #[.int .i64 (V : Int),.slice a' (bC (dt D ts)).length c'],.int .i64 0]) /\ cd w' a' c' (bC (dt D ts)) /\ Bw w w':=by
 obtain ⟨n,hn⟩ : ∃ n,ts.length = n:=⟨_,rfl⟩;have hnl : n <= 4096:=by have:=hp.1.2.2.1;omega
 have hV : V <= 12:=hp.1.2.2.2;obtain ⟨C,hC⟩ : ∃ C,bC (dt D ts) = C:=⟨_,rfl⟩;have gS : (dt D ts).length = n:=by unfold dt;rw [List.length_map,hn]
 have Au : ∀ t ∈ dt D ts,Fit (2 * B) t.2:=by intro t ht;unfold dt at ht;obtain ⟨x,hx,rfl⟩:=List.mem_map.1 ht;refine Sm.fit ?_ zo;have:=Sm.mul (hp.2 x hx).2 hf.2;rw [hD] at this;exact this.mono zo
 have fc:=fun W (hW : Bw w W)=>VH (V : Int) a cap n ts W hn zo (ha.1.below hW) hp.chk (hT.below hW);rw [VI hp.1] at fc;have hs:=ha.2.1;rw [hn] at hs;have hcn:=fun W (hW : Bw w W)=>(PK a n cap ts W hn zo hs (ha.1.below hW)).mono (fun e w' h=>(match h with | ⟨v,h1,h2,h3⟩=>⟨v,h1,h2,h3,h3⟩ : ∃ v',e = .returned v' /\ w'.ownsRow W.heap.size 107 4 v' n (ts.flatMap aM) /\ Bw W w' /\ Bw W w'));have hcl:=fun w0 W v (hw0 : Bw w w0) (hb0 : Bw w0 W) (ho : W.ownsRow w0.heap.size 107 4 v n ((dt D ts).flatMap aM))=>IM (V : Int) v n (dt D ts) C (2 * B) w0 W hb0 gS hnl ho Au zo (hT.below hw0) hC;have eJ:=hp.2;rw [hn,hC];have mC:=ah fc;have qI:=ah hcn;have gm:=ah hcl;have kX:=ah eJ;have HT:=ah hT;have Hn:=ah hn;have Yw:=ah hf;have HD:=ah hD;clear fc hcn hcl eJ hT hn hf hD hC gS Au hs ha hp;have Hb : Hid (Bw w w):=Below.refl _ _;go_enter Tryz.func59,Tryz.ntmps59;go_wp2_with fail;obtain ⟨R,hR⟩ : ∃ R : World -> Prop,(fun W=>ai W (w.heap.size) 57 [.int .i64 (V : Int),.slice a n cap] /\ ai W (w.heap.size + 1) 30 [.bool s,.string (bs m),.int .i64 e] /\ ai W (w.heap.size + 1 + 1) 57 [.int .i64 0,.slice none 0 0] /\ Bw w W) = R:=⟨_,rfl⟩;first | refine bB R ?hR ?_ | refine bA R ?hR ?_
 case hR=>subst hR;exact ⟨(((ai.newAt w _ _ (b:=w.heap.size) rfl).alloc _).alloc _),((ai.newAt (w.alloc _) _ _ (b:=w.heap.size + 1) zm).alloc _),(ai.newAt ((w.alloc _).alloc _) _ _ (b:=w.heap.size + 1 + 1) zm),((zl.alloc zj _).alloc zj _)⟩
 subst hR;rintro W ⟨qp,qc,qr,ae⟩;have Hp:=ah qp;clear qp;have Hc:=ah qc;clear qc;have Hr:=ah qr;clear qr;obtain ⟨p0,p1⟩:=Hp.out.c2;obtain ⟨c0,c1,c2⟩:=Hc.out.c3;obtain ⟨r0,aj,r1,ar⟩:=Hr.out.g2;replace Hb:=az Hb ae;clear ae;go_wp2_with fail;refine (mC.out _ Hb.out).mono ?_;rintro e w1 ⟨rfl,ae⟩;clear p0 p1 c0 c1 c2 r0 aj r1 ar;replace Hp:=kB Hp ae;replace Hc:=kB Hc ae;replace Hr:=kB Hr ae;obtain ⟨p0,p1⟩:=Hp.out.c2;obtain ⟨c0,c1,c2⟩:=Hc.out.c3;obtain ⟨r0,aj,r1,ar⟩:=Hr.out.g2;replace Hb:=az Hb ae;clear ae;have zH:=Hp;have wK:=Hc;have ji:=Hr;have df:=Hb;go_wp2_with fail;refine (qI.out _ Hb.out).mono ?_;rintro e w2 ⟨v1,rfl,cJ,sW,ae⟩;clear p0 p1 c0 c1 c2 r0 aj r1 ar;replace Hp:=kB Hp ae;replace Hc:=kB Hc ae;replace Hr:=kB Hr ae;obtain ⟨p0,p1⟩:=Hp.out.c2;obtain ⟨c0,c1,c2⟩:=Hc.out.c3;obtain ⟨r0,aj,r1,ar⟩:=Hr.out.g2;replace Hb:=az Hb ae;clear ae;obtain ⟨a1,d1,rfl,_,_⟩:=dA cJ;have mE:=ah cJ;have NJ:=ah sW;clear cJ sW;go_wp2_with fail;go_loopw [20] (fun x wr=>∃ (k : Nat) (C : List aK),k <= n /\ x = .int .i64 (k : Int) /\ C.length = n /\ C.take k = (dt D ts).take k /\ C.drop k = ts.drop k /\ wr.ownsRow w1.heap.size 107 4 (.slice a1 n d1) n (C.flatMap aM) /\ Bw w1 wr) (fun x _=>n - (intOf x).toNat);case atStart=>exact ⟨0,ts,Nat.zero_le _,rfl,Hn.out,rfl,rfl,mE.out,NJ.out⟩
 case round=>
  clear p0 p1 c0 c1 c2 r0 aj r1 ar mE NJ Hp Hc Hr Hb;obtain ⟨k,C',hk,rfl,hC,htk,hdr,hov,pb⟩:=hrel;have Hp:=ah (zH.out.below pb);have Hc:=ah (wK.out.below pb);have Hr:=ah (ji.out.below pb);have dM:=aJ df.out pb;have yz:=df.out.size;by_cases hlt : k < n
  . obtain ⟨g,cc,he,hg1,hg2,hg3⟩:=ym hov zo;simp only [Value.slice.injEq,true_and] at he;obtain ⟨rfl,rfl⟩:=he;have rE : k < C'.length:=by omega
    have vr : k < ts.length:=by have:=Hn.out;omega
    have hel:=Qj hdr rE vr;obtain ⟨l,s1,q1,e1,hx⟩ : ∃ l s m e,C'[k] = (l,s,m,e):=⟨_,_,_,_,rfl⟩;have dO:=kX.out _ (List.getElem_mem vr);rw [<- hel,hx] at dO;obtain ⟨X,hX⟩ : ∃ X,aC (s1,q1,e1) * D = X:=⟨_,rfl⟩;have jw:=UZ (fun x=>(x.1,canon (aC x.2 * D))) ts C' k rE (by rw [hC,Hn.out]) htk hel;have AC : (C'[k].1,canon (aC C'[k].2 * D)) = (l,canon X):=by rw [hx,<- hX]
    have TL : (C'.set k (l,canon X)).take (k + 1) = (dt D ts).take (k + 1):=by rw [<- AC];exact jw
    have iU : C'[k].1 = l:=by rw [hx]
    obtain ⟨_,y1,y2,y3⟩:=(Fj hov k rE hx).w4;have hd2 : C'.drop (k + 1) = ts.drop (k + 1):=by rw [<- List.drop_drop,<- List.drop_drop,hdr]
    have bz:=iH n d1 k (k : Int) (rfl : (some ⟨g,0,none⟩ : Option Addr) = _) hlt rfl;rw [Nat.zero_add] at bz;have Hz : Hid (bj wr g (k * 4 + 1) [.bool s1,.string (bs q1),.int .i64 e1]):=iM y1 y2 y3;have HX : Hid (aC (s1,q1,e1) * aC (s,m,e) = X):=by show _ = _;rw [HD.out];exact hX
    have cw:=ah hov;have aR:=ah pb;have Ie:=ah TL;have wL:=ah hd2;have HC:=ah hC;have Gn:=ah iU;have gG:=ah dO;have ut:=ah (HT.out.below dM);have gN:=pb.size;clear hov pb jw TL hd2 hC htk hdr hel hx hX AC iU dO vr y1 y2 y3 dM zH wK ji Hp Hr;have Hb : Hid (Bw wr wr):=Below.refl _ _;go_wp2_with fail;obtain ⟨c0,c1,c2⟩:=Hc.out.c3;obtain ⟨z0,z1,z2⟩:=Hz.out.w3;have HU : Hid (aB wr):=ut.out;refine bE (fun w'=>w'.cell? ⟨w.heap.size + 1,0,none⟩ = some (.bool s) /\ w'.cell? ⟨w.heap.size + 1,1,none⟩ = some (.string (bs m)) /\ w'.cell? ⟨w.heap.size + 1,2,none⟩ = some (.int .i64 e) /\ w'.cell? ⟨g,k * 4 + 1,none⟩ = some (.bool s1) /\ w'.cell? ⟨g,k * 4 + 1 + 1,none⟩ = some (.string (bs q1)) /\ w'.cell? ⟨g,k * 4 + 1 + 2,none⟩ = some (.int .i64 e1)) (fun i=>Nat.blt i 12) [(0,true),(1,true),(2,true),(3,true),(4,true),(5,true),(6,true),(7,true),(8,false),(9,false),(10,true),(11,true),(12,false)] zk zk rfl zk zc ⟨c0,c1,c2,z0,z1,z2⟩ ?_;iterate 8 (refine pT rfl rfl ?_ (by intro w' ⟨q0,q1,q2,q3,q4,q5⟩;go_simp;try with_reducible rfl);try simp only [UU])
    refine aI rfl rfl (fun K hK=>?_);go_simp;refine hK _ _ (fun _=>⟨aH c0,aH c1,aH c2,aH z0,aH z1,aH z2⟩) ?_;clear hK K;try simp only [UU]
    refine bG (fun W4=>ai W4 (wr.heap.size) 30 [.bool s1,.string (bs q1),.int .i64 e1,.bool s,.string (bs m),.int .i64 e] /\ Bw wr W4) (by first | exact dP | exact dQ) ?_;rintro W4 ⟨qv,ae⟩;clear c0 c1 c2 z0 z1 z2;have agy:=Hc.out.lt;replace Hc:=kB Hc ae;replace Hz:=kW Hz ae;replace HU:=kT HU ae;have Hv:=ah qv;clear qv;obtain ⟨c0,c1,c2⟩:=Hc.out.c3;obtain ⟨z0,z1,z2⟩:=Hz.out.w3;obtain ⟨v0,v1,v2,v3,v4,v5⟩:=Hv.out.c6;replace Hb:=az Hb ae;clear ae;refine aI rfl rfl (fun K hK=>?_);go_simp;with_reducible refine (xp s1 q1 e1 s m e X B HX.out wr.heap.size _ 30 _ gG.out Yw.out zo Hv.out (by first | exact HU.out | exact aB.drew HU.out | exact aB.alloc HU.out _ | exact aB.drew (aB.alloc HU.out _) | exact aB.alloc (aB.drew HU.out) _)).mono ?_
    rintro e w5 ⟨rfl,hq⟩;have ae : Bw W4 w5:=by first | exact hq | exact aN hq
    clear c0 c1 c2 z0 z1 z2 v0 v1 v2 v3 v4 v5;replace Hc:=kB Hc ae;replace Hz:=kW Hz ae;replace HU:=kT HU ae;replace Hv:=kB Hv ae;obtain ⟨c0,c1,c2⟩:=Hc.out.c3;obtain ⟨z0,z1,z2⟩:=Hz.out.w3;obtain ⟨v0,v1,v2,v3,v4,v5⟩:=Hv.out.c6;replace Hb:=az Hb ae;clear ae;refine hK _ _ (fun _=>⟨c0,c1,c2,z0,z1,z2⟩) ?_;clear hK K;try simp only [UU]
    iterate 2 (refine pT rfl rfl ?_;try simp only [UU])
    refine aI rfl rfl (fun K hK=>?_);have gz:=ownsRow_below cw.out Hb.out;have lv:=kM gz (k * 4 + 1);have DL:=kM gz (k * 4 + 1 + 1);have Qz:=kM gz (k * 4 + 1 + 2);have dc:=aJ aR.out Hb.out;have uG:=ah gz;have eX:=ah dc;clear gz dc;go_simp;refine hK _ _ (fun h=>absurd h zd) ?_;clear hK K;try simp only [UU]
    simp only [aV];go_wp2;refine ⟨⟨k + 1,C'.set k (l,canon X),by omega,by go_num,by rw [List.length_set];exact HC.out,Ie.out,by rw [Ja _ _ _ _ zo];exact wL.out,?_,?_⟩,by simp [intOf];omega⟩
    . have h:=VC uG.out k rE (au (dN X)) (nt (dN X).natAbs) (dE X);rw [Gn.out] at h;exact h
    . exact ((eX.out.setCell hg1 _).setCell hg1 _).setCell hg1 _
  . obtain rfl : k = n:=by omega
    have Aj : C' = dt D ts:=by rw [List.take_of_length_le zo,List.take_of_length_le (by unfold dt;rw [List.length_map];have:=Hn.out;omega)] at htk;exact htk
    rw [Aj] at hov;have cw:=ah hov;have aR:=ah pb;have Hb : Hid (Bw w wr):=dM;clear hov pb htk hdr hC Aj dM;obtain ⟨p0,p1⟩:=Hp.out.c2;obtain ⟨r0,aj,r1,ar⟩:=Hr.out.g2;go_wp2_with fail;refine (gm.out w1 _ _ df.out aR.out cw.out).mono ?_;rintro e w6 ⟨a2,d2,rfl,dU,ae⟩;clear p0 p1 r0 aj r1 ar;replace Hp:=ah (zH.out.below ae);replace Hr:=ah (ji.out.below ae);obtain ⟨p0,p1⟩:=Hp.out.c2;obtain ⟨r0,aj,r1,ar⟩:=Hr.out.g2;replace Hb:=ah (aJ df.out ae);clear ae;go_wp2;refine xd (Hr.out) dU Hb.out zo ?_;intro w9 iF gg jQ;obtain ⟨q0,q1⟩:=iF.c2;exact bodyPost_ret (v:=.tuple #[.agg #[.int .i64 (V : Int),.slice a2 C.length d2],.int .i64 0]) (by simp [results,Tryz.results59,go_sem,q0,q1]) rfl ⟨_,_,rfl,BA gg,jQ⟩
end Go.Proofs.YtdaadlblknpipaaGreatDoor
