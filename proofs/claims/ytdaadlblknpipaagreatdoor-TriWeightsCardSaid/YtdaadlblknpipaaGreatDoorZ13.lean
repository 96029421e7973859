/- An own row cut short,cleared behind;an own row as a whole block. -/
import Derived.Test.YtdaadlblknpipaaGreatDoorZ11
import Derived.Laws.CopyRow
import Derived.Laws.AppendOwnNone
import Derived.Deep.DeepAppendRoom
import Derived.Test.YtdaadlblknpipaaGreatDoorZ12
import Derived.Test.YtdaadlblknpipaaGreatDoorZ9
import Derived.Test.YtdaadlblknpipaaGreatDoorZ10
import Derived.Test.YtdaadlblknpipaaGreatDoorZ7
import Derived.Maps.AppendAt
set_option linter.unusedVariables false
set_option linter.unusedSimpArgs false
set_option maxRecDepth 100000
set_option maxHeartbeats 16000000
namespace Go.Proofs.YtdaadlblknpipaaGreatDoor
open Go.RowKit
theorem Yr {w:World}{base:Nat}{e:TypeId}{size n cap g:Nat}{xs:List Value}(h:w.ownsRow base e size (.slice (some ⟨g,0,none⟩) n cap) n xs)(i:Nat)(hi:i<=n):
 w.ownsRow base e size (.slice (some ⟨g,0,none⟩) i cap) i (xs.take (i*size)):=by
 have Ie:i*size<=n*size:=Nat.mul_le_mul_right _ hi;refine⟨by rw[List.length_take,h.1];omega,?_⟩;rcases h.2 with⟨h1,_⟩ |⟨g',cap',cur,h1,hb,hg,h4,h5,h6,hx⟩
 . simp at h1
 . simp only[Value.slice.injEq,Option.some.injEq,Addr.mk.injEq,and_true,true_and]at h1;obtain⟨rfl,rfl⟩:=h1;refine .inr ⟨g,cap,cur,rfl,hb,hg,by omega,h5,h6,?_⟩;rw[<-hx,List.take_take,Nat.min_eq_left Ie]
theorem AJ {w:World}{base:Nat}{e:TypeId}{size n:Nat}{v:Value}{xs:List Value}(h:w.ownsRow base e size v n xs)(hn:0<n):∃g cap,v=.slice (some ⟨g,0,none⟩) n cap/\base<=g/\g<w.heap.size/\n<=cap:=by
 rcases h.2 with⟨_,h1⟩ |⟨g,cap,cur,h1,hb,hg,h4,_⟩
 . omega
 . exact⟨g,cap,h1,hb,(Array.getElem?_eq_some_iff.1 hg).1,h4⟩
theorem akq {w:World}{base:Nat}{e:TypeId}{size n cap g:Nat}{xs:List Value}(h:w.ownsRow base e size (.slice (some ⟨g,0,none⟩) n cap) n xs)(o:Nat)(vs:List Value)(ho:n*size<=o)(cur:Array Value)(Di:w.heap[g]?=some (.cells cur e (0,0)))(hl:o+vs.length<=cur.size):
 (w.setRow g (cur.toList.take o++vs++cur.toList.drop (o+vs.length)).toArray).ownsRow base e size (.slice (some ⟨g,0,none⟩) n cap) n xs/\w.grownBy (w.setRow g (cur.toList.take o++vs++cur.toList.drop (o+vs.length)).toArray) (some g):=by
 have hh:=setRow_heap w g cur (cur.toList.take o++vs++cur.toList.drop (o+vs.length)).toArray e (0,0) Di;constructor
 . refine⟨h.1,?_⟩;rcases h.2 with⟨h1,_⟩ |⟨g',cap',cur',h1,hb,hg,h4,h5,h6,hx⟩
   . simp at h1
   . simp only[Value.slice.injEq,Option.some.injEq,Addr.mk.injEq,and_true,true_and]at h1;obtain⟨rfl,rfl⟩:=h1;rw[Di]at hg;simp only[Option.some.injEq,Obj.cells.injEq,and_true]at hg;subst hg;refine .inr ⟨g,cap,_,rfl,hb,hh,h4,h5,?_,?_⟩
     . rw[<-h6];have hcl:cur.toList.length=cur.size:=Array.length_toList;simp only[List.size_toArray,List.length_append,List.length_take,List.length_drop,hcl];omega
     . rw[<-hx];have hcl:cur.toList.length=cur.size:=Array.length_toList;simp only[List.append_assoc];rw[List.take_append_of_le_length (by rw[List.length_take,hcl];omega),List.take_take,Nat.min_eq_left ho]
 . refine⟨rfl,rfl,rfl,by simp[World.setRow],λk hk hne=>?_⟩;unfold World.setRow;simp only[Array.getElem?_modify];rw[if_neg (λe=>hne (by rw[e]))]
theorem YY {P:Program}(w:World)(t e:TypeId)(z:Value)(size:Nat)(ht:P.underlying t=some (.slice e))(hv:∀w,(zeroValue e).run P w=.ok z w)(hz:z.cells.size=size)(h1:∀v∈z.cells.toList,v.oneCell'=true)(g n m cap c:Nat)(base:Nat)(xs:List Value)
 (h:w.ownsRow base e size (.slice (some ⟨g,0,none⟩) n cap) n xs) (hm:n+m<=cap):
 ∃w',(∀ty,(Builtin.clear_ #[t] ty #[.slice (some ⟨g,n*size,none⟩) m c]).run P w=.ok (.tuple #[]) w')/\w'.ownsRow base e size (.slice (some ⟨g,0,none⟩) n cap) n xs/\w.grownBy w' (some g):=by
 rcases h.2 with⟨h2,_⟩ |⟨g',cap',cur,h2,hb,hg,h4,h5,h6,hx⟩
 . simp at h2
 simp only[Value.slice.injEq,Option.some.injEq,Addr.mk.injEq,and_true,true_and]at h2;obtain⟨rfl,rfl⟩:=h2;by_cases hm0:m=0
 . subst hm0;refine⟨w,λty=>?_,h,World.grownBy.refl _ _⟩;simp[Builtin.clear_,run_underlying ht]
 . obtain⟨vs,hvs⟩:=aB ((Builtin.zeroCells z.cells m).toList);have hvl:vs.length=m*size:=by rw[<-hvs,Array.length_toList,size_zeroCells,hz]
   have hvo:∀v∈vs,v.oneCell'=true:=by
    intro v hv2;rw[<-hvs]at hv2;unfold Builtin.zeroCells at hv2;simp only[Array.toList_map,Array.toList_range,List.mem_map,List.mem_range]at hv2;obtain⟨i,hi,rfl⟩:=hv2;have hs:0<z.cells.size:=by
     rcases Nat.eq_zero_or_pos z.cells.size with h0|h0
     . rw[h0]at hi;simp at hi
     . exact h0
    have:=Nat.mod_lt i hs;rw[getElem!_pos z.cells (i%z.cells.size) this];exact h1 _ zm
   have hle:n*size+0+vs.length<=cur.size:=by rw[hvl,h6];have:=Nat.mul_le_mul_right size hm;rw[Nat.add_mul]at this;omega
   have hst:=run_storeCells_at (P:=P) g (n*size) e vs 0 cur w hg hle hvo;obtain⟨k1,k2⟩:=akq h (n*size) vs (Nat.le_refl _) cur hg zo;refine⟨_,λty=>?_,k1,k2⟩;obtain⟨m',rfl⟩:∃m',m=m'+1:=⟨m-1,by omega⟩;simp[Builtin.clear_,run_underlying ht,hv,hvs,hst]
def Sl (a:Option Addr)(n cap:Nat):Prop:=n<=cap/\(a=none->cap=0)
theorem Sl.nil :Sl none 0 0:=⟨Nat.le_refl _,λ_=>rfl⟩
theorem Sl.some (x:Addr)(n cap:Nat)(h:n<=cap):Sl (some x) n cap:=⟨h,λe=>by cases e⟩
theorem sD {w:World}{base:Nat}{e:TypeId}{size n k cap:Nat}{a:Option Addr}{xs:List Value}(h:w.ownsRow base e size (.slice a k cap) n xs):Sl a k cap:=by
 rcases h.2 with⟨h1,_⟩ |⟨g,cap',cur,h1,hb,hg,h4,_⟩
 . simp only[Value.slice.injEq]at h1;obtain⟨rfl,rfl,rfl⟩:=h1;exact Sl.nil
 . simp only[Value.slice.injEq]at h1;obtain⟨rfl,rfl,rfl⟩:=h1;exact Sl.some _ _ _ h4
theorem aaa {P:Program}{w:World}{ops:Array Oper}{rest:List Oper}{o:Oper}{a:Act}{Q:Exit->Act->World->Prop}(hgd:o.guard=none)(s x:Operand)(t:TypeId)
 (ho:o.op=.call {callee:=.builtin .append,args:=#[s,x],argTypes:=#[t,t]})
 (base:Nat) (e:TypeId) (i:TypeInfo) (z:Value) (size bytes:Nat) (ht:P.underlying t=Option.some (.slice e)) (hi:P.info? e=Option.some i) (hz:i.zero=Option.some z)
 (hsize:i.size=size) (hby:i.bytes=bytes) (hzs:z.cells.size=size) (hsz:0<size)
 (v:Value) (n:Nat) (xs:List Value) (hs:a.eval s=v) (hown:w.ownsRow base e size v n xs)
 (aa:Option Addr) (m c:Nat) (news:List Value) (hx:a.eval x=.slice aa m c) (hsl:aa=none->m=0/\c=0) (hl:news.length=m*size) (hat:At w aa news) (h1:∀u∈news,u.oneCell'=true)
 (h63:n+m<=maxLen) (hbytes:(n+m) *bytes<=140737488355328) (hbase:base<=w.heap.size)
 (h:∀v' w',w'.ownsRow base e size v' (n+m) (xs++news)->w.grownBy w' v.ownBlock->(v'.ownBlock=v.ownBlock\/v'.ownBlock=Option.some w.heap.size)->wpList P ops Q rest (a.put o.dst v') w'):
 wpList P ops Q (o::rest) a w:=by
 cases aa with
 |none=>obtain⟨hm,hc⟩:=hsl rfl;subst hc;subst hm;have hn:news=[]:=List.eq_nil_of_length_eq_zero (by simpa using hl);subst hn;refine wpList_append_own_none hgd s x t ho base e i size ht hi v n xs hs hown hx ?_;exact h v w (by simpa using hown) (World.grownBy.refl _ _) (.inl rfl)
 | some ad=>
   refine wpList_append_own_at w hgd s x t ho base e i z size bytes ht hi hz hsize hby hzs hsz v n xs hs hown ad m c news hx hl ?_ h1 h63 hbytes hbase (λv' w' h2 h3 _ h5=>h v' w' h2 h3 h5);intro j u hj;rcases hat with h0|⟨b,o',e',hc⟩
   . subst h0;simp at hj
   . simp only[Option.some.injEq]at e';subst e';have hjl:=(List.getElem?_eq_some_iff.1 hj).1;have e2:((⟨b,o',none⟩:Addr).add j)=⟨b,o'+j,none⟩:=by unfold Addr.add;cases j<;>simp
     rw[e2,hc j hjl];exact hj
theorem oN {P:Program}{w:World}{ops:Array Oper}{rest:List Oper}{o:Oper}{a:Act}{Q:Exit->Act->World->Prop}(hgd:o.guard=none)(s x:Operand)(t:TypeId)
 (ho:o.op=.call {callee:=.builtin .append,args:=#[s,x],argTypes:=#[t,t]})
 (base:Nat) (e:TypeId) (i:TypeInfo) (z:Value) (size bytes:Nat) (ht:P.underlying t=Option.some (.slice e)) (hi:P.info? e=Option.some i) (hz:i.zero=Option.some z)
 (hsize:i.size=size) (hby:i.bytes=bytes) (hzs:z.cells.size=size) (hsz:0<size)
 (v:Value) (n:Nat) (xs:List Value) (hs:a.eval s=v) (hown:w.ownsRow base e size v n xs)
 (aa:Option Addr) (m c:Nat) (news:List Value) (hx:a.eval x=.slice aa m c) (hsl:Sl aa m c) (hl:news.length=m*size) (hat:At w aa news) (h1:∀u∈news,u.oneCell'=true)
 (h63:n+m<=maxLen) (hbytes:(n+m) *bytes<=140737488355328) (hbase:base<=w.heap.size)
 (h:∀v' w',w'.ownsRow base e size v' (n+m) (xs++news)->w.grownBy w' v.ownBlock->(v'.ownBlock=v.ownBlock\/v'.ownBlock=Option.some w.heap.size)->wpList P ops Q rest (a.put o.dst v') w'):
 wpList P ops Q (o::rest) a w:=
 aaa hgd s x t ho base e i z size bytes ht hi hz hsize hby hzs hsz v n xs hs hown aa m c news hx (λe=>⟨by have h1:=hsl.1;have h2:=hsl.2 e;omega,hsl.2 e⟩) hl hat h1 h63 hbytes hbase h
theorem At.cut {w:World}{a:Option Addr}{xs:List Value}{k cap size n:Nat}(h:At w a xs)(hl:xs.length=n*size)(hk:k<=n)(hc:n<=cap):At w (if cap=k then a else a.map (·.add (k*size))) (xs.drop (k*size)):=by
 rcases h with h0|⟨b,o,rfl,hcs⟩
 . subst h0;simp;exact .inl rfl
 . by_cases e:cap=k
   . have:xs.drop (k*size)=[]:=List.drop_of_length_le (by rw[hl];exact Nat.mul_le_mul_right _ zo);rw[this];exact .inl rfl
   . rw[if_neg e];have e2:((⟨b,o,none⟩:Addr).add (k*size))=⟨b,o+k*size,none⟩:=by unfold Addr.add;split<;>simp_all
     refine .inr ⟨b,o+k*size,by rw[Option.map_some,e2],λj hj=>?_⟩;rw[List.length_drop]at hj;rw[Nat.add_assoc,hcs _ zo,List.getElem?_drop]
theorem Sl.cut {a:Option Addr}{k cap size n:Nat}(h:Sl a n cap)(hk:k<=n):Sl (if cap=k then a else a.map (·.add (k*size))) (n-k) (cap-k):=by
 refine⟨by have:=h.1;omega,λe=>?_⟩;by_cases e1:cap=k
 . omega
 . rw[if_neg e1]at e
   have:=h.2 (by cases a with
    |none=>rfl
    |some x=>simp at e)
   omega
def Pc (w:World)(v:Value)(cz:List Raw):Prop:=∃a cap,v=.slice a cz.length cap/\At w a (cz.flatMap bA)/\Sl a cz.length cap
theorem Pc.below {w w':World}{v:Value}{cz:List Raw}(h:Pc w v cz)(hb:Bw w w'):Pc w' v cz:=by obtain⟨a,cap,hv,ha,hs⟩:=h;exact⟨a,cap,hv,ha.below hb,hs⟩
def kC (w:World)(a:Option Addr)(rows:List (List Raw)):Prop:=∃vals:List Value,vals.length=rows.length/\At w a vals/\∀i (h:i<rows.length) (h':i<vals.length),Pc w vals[i] rows[i]
theorem kC.below {w w':World}{a:Option Addr}{rows:List (List Raw)}(h:kC w a rows)(hb:Bw w w'):kC w' a rows:=by obtain⟨vals,hl,ha,hp⟩:=h;exact⟨vals,hl,ha.below hb,λi h1 h2=>(hp i h1 h2).below hb⟩
theorem kC.tbl {w:World}{a:Option Addr}{rows:List (List Raw)}(h:kC w a rows):bo w a rows:=by obtain⟨vals,hl,ha,hp⟩:=h;refine⟨vals,hl,ha,λi h1 h2=>?_⟩;obtain⟨a',c',e1,e2,_⟩:=hp i h1 h2;exact⟨a',c',e1,e2⟩
theorem kC.row {w:World}{a:Option Addr}{rows:List (List Raw)}(h:kC w a rows)(k:Nat)(hk:k<rows.length):
 ∃b o a' cap',a=some ⟨b,o,none⟩/\w.cell? ⟨b,o+k,none⟩=some (.slice a' rows[k].length cap')/\At w a' (rows[k].flatMap bA)/\Sl a' rows[k].length cap':=by
 obtain⟨vals,hl,ha,hp⟩:=h;have hk2:k<vals.length:=by rw[hl];exact hk
 obtain⟨b,o,hab,hcs⟩:=ha.get (by intro h0;rw[h0]at hk2;simp at hk2);obtain⟨a',cap',hv,hat,hs⟩:=hp k hk hk2;exact⟨b,o,a',cap',hab,by rw[hcs k hk2,List.getElem?_eq_getElem hk2,hv],hat,hs⟩
theorem Az (cz:List Raw):∀u∈cz.flatMap bA,u.oneCell'=true:=by intro u hu;obtain⟨r,_,hr⟩:=List.mem_flatMap.1 hu;simp only[bA,List.mem_cons,List.not_mem_nil,or_false]at hr;rcases hr with rfl|rfl|rfl<;>rfl
theorem adH {P:Program}(t tx ty:TypeId)(e e':TypeId)(ht:P.underlying t=some (.slice e))(hx:P.underlying tx=some (.slice e'))(u v:Value)(w:World):(Builtin.append_ #[t,tx] ty #[u,v]).run P w=(Builtin.append_ #[t,t] ty #[u,v]).run P w:=by unfold Builtin.append_;cases u<;>simp[Sem.run_bind,run_underlying ht,run_underlying hx]
theorem ans {P:Program}{w:World}{o:Oper}{a:Act}{K:Act->World->Prop}{Q:Exit->Act->World->Prop}(s x:Operand)(t tx:TypeId)(e':TypeId)(htx:P.underlying tx=some (.slice e'))
 (ho:o.op=.call {callee:=.builtin .append,args:=#[s,x],argTypes:=#[t,tx]})
 (base:Nat) (e:TypeId) (i:TypeInfo) (z:Value) (size bytes:Nat) (ht:P.underlying t=Option.some (.slice e)) (hi:P.info? e=Option.some i) (hz:i.zero=Option.some z)
 (hsize:i.size=size) (hby:i.bytes=bytes) (hzs:z.cells.size=size) (hsz:0<size)
 (v:Value) (n:Nat) (xs:List Value) (hs:a.eval s=v) (hown:w.ownsRow base e size v n xs)
 (aa:Option Addr) (m c:Nat) (news:List Value) (hx:a.eval x=.slice aa m c) (hsl:Sl aa m c) (hl:news.length=m*size) (hat:At w aa news) (h1:∀u∈news,u.oneCell'=true)
 (h63:n+m<=maxLen) (hbytes:(n+m) *bytes<=140737488355328) (hbase:base<=w.heap.size)
 (h:∀v' w',w'.ownsRow base e size v' (n+m) (xs++news)->w.grownBy w' v.ownBlock->(v'.ownBlock=v.ownBlock\/v'.ownBlock=Option.some w.heap.size)->K (a.put o.dst v') w'):o.wp P a w K Q:=by
 have key:∃v' w',(Builtin.append_ #[t,tx] o.type #[v,.slice aa m c]).run P w=.ok v' w'/\w'.ownsRow base e size v' (n+m) (xs++news)/\w.grownBy w' v.ownBlock/\(v'.ownBlock=v.ownBlock\/v'.ownBlock=Option.some w.heap.size):=by
  rw[adH t tx o.type e e' ht htx];cases aa with
  | none=>
    have hc:=hsl.2 rfl;have hm:m=0:=by have:=hsl.1;omega
    subst hc;subst hm;have hn:news=[]:=List.eq_nil_of_length_eq_zero (by simpa using hl);subst hn;exact⟨v,w,run_append_owned_none (P:=P) (w:=w) base t o.type e i size ht hi v n xs hown,by simpa using hown,World.grownBy.refl _ _,.inl rfl⟩
  | some ad=>
    obtain⟨v',w',hr,h2,h3,_,h5⟩:=run_append_own_at (P:=P) w base t o.type e i z size bytes ht hi hz hsize hby hzs hsz v n xs hown ad m c news hl (by
     intro j u hj;rcases hat with h0|⟨b,o',Tx,hc⟩
     . subst h0;simp at hj
     . simp only[Option.some.injEq]at Tx;subst Tx;have hjl:=(List.getElem?_eq_some_iff.1 hj).1;have e2:((⟨b,o',none⟩:Addr).add j)=⟨b,o'+j,none⟩:=by unfold Addr.add;cases j<;>simp
       rw[e2,hc j hjl];exact hj) h1 h63 hbytes hbase
    exact⟨v',w',hr,h2,h3,h5⟩
 obtain⟨v',w',hr,h2,h3,h5⟩:=key;unfold Oper.wp execOp;simp only[ho,resolve,invoke,builtin,Sem.run_bind,Sem.run_pure,Result.andThen_ok,List.map_toArray,List.map_cons,List.map_nil,hs,hx,hr];exact h v' w' h2 h3 h5
theorem ZZ {P:Program}{w:World}{ops:Array Oper}{rest:List Oper}{o:Oper}{a:Act}{Q:Exit->Act->World->Prop}(hgd:o.guard=none)(s x:Operand)(t tx:TypeId)(e':TypeId)(htx:P.underlying tx=some (.slice e'))
 (ho:o.op=.call {callee:=.builtin .append,args:=#[s,x],argTypes:=#[t,tx]})
 (base:Nat) (e:TypeId) (i:TypeInfo) (z:Value) (size bytes:Nat) (ht:P.underlying t=Option.some (.slice e)) (hi:P.info? e=Option.some i) (hz:i.zero=Option.some z)
 (hsize:i.size=size) (hby:i.bytes=bytes) (hzs:z.cells.size=size) (hsz:0<size)
 (v:Value) (n:Nat) (xs:List Value) (hs:a.eval s=v) (hown:w.ownsRow base e size v n xs)
 (aa:Option Addr) (m c:Nat) (news:List Value) (hx:a.eval x=.slice aa m c) (hsl:Sl aa m c) (hl:news.length=m*size) (hat:At w aa news) (h1:∀u∈news,u.oneCell'=true)
 (h63:n+m<=maxLen) (hbytes:(n+m) *bytes<=140737488355328) (hbase:base<=w.heap.size)
 (h:∀v' w',w'.ownsRow base e size v' (n+m) (xs++news)->w.grownBy w' v.ownBlock->(v'.ownBlock=v.ownBlock\/v'.ownBlock=Option.some w.heap.size)->wpList P ops Q rest (a.put o.dst v') w'):wpList P ops Q (o::rest) a w:=
 wpList_plain hgd λ_ hK=>ans s x t tx e' htx ho base e i z size bytes ht hi hz hsize hby hzs hsz v n xs hs hown aa m c news hx hsl hl hat h1 h63 hbytes hbase λv' w' h2 h3 h5=>hK _ _ (h v' w' h2 h3 h5)
end Go.Proofs.YtdaadlblknpipaaGreatDoor
namespace Go.Proofs.YtdaadlblknpipaaGreatDoor
open Go.RowKit
attribute [local go_sem ↓] Go.wp_at_zero Go.wp_at_succ
theorem Tryz.aqW :(Tryz.prog.info? 107).map (λi=>(i.zero,i.size,i.bytes))=some (some (.agg #[.string (bs []),.bool false,.string (bs []),.int .i64 0]),4,48):=by kernel_rfl
theorem kX (ts:List aL):(ts.flatMap aO).length=ts.length*4:=jW aO 4 (λ_=>rfl) ts
theorem rF (ts:List aL):∀u∈ts.flatMap aO,u.oneCell'=true:=by intro u hu;obtain⟨r,_,hr⟩:=List.mem_flatMap.1 hu;simp only[aO,List.mem_cons,List.not_mem_nil,or_false]at hr;rcases hr with rfl|rfl|rfl|rfl<;>rfl
theorem PR (t:aL)(ts:List aL):(t::ts).flatMap aO=aO t++ts.flatMap aO:=List.flatMap_cons
theorem At.tail {w:World}{b o c:Nat}{x:aL}{ts:List aL}(h:At w (some ⟨b,o,none⟩) ((x::ts).flatMap aO))(hc:ts.length+1<=c):At w (if c=1 then some ⟨b,o,none⟩else some ⟨b,o+4,none⟩) (ts.flatMap aO):=by
 have hk:=At.cut (k:=1) (size:=4) (n:=ts.length+1) (cap:=c) h (by rw[kX];rfl) zo hc;have e:((x::ts).flatMap aO).drop (1*4)=ts.flatMap aO:=by rw[PR];rfl
 rw[e]at hk;exact hk
theorem Sl.tail {b o c n:Nat}(h:Sl (Option.some ⟨b,o,none⟩) (n+1) c):Sl (if c=1 then Option.some (⟨b,o,none⟩:Addr)else Option.some ⟨b,o+4,none⟩) n (c-1):=by refine⟨by have:=h.1;omega,λe=>?_⟩;split at e<;>cases e
theorem al4 (l l':List UInt8):(uk l l'= -1/\Op.bytesLess l l'=true)\/(uk l l'=1/\Op.bytesLess l l'=false/\Op.bytesLess l' l=true)\/(uk l l'=0/\Op.bytesLess l l'=false/\Op.bytesLess l' l=false):=by
 unfold uk;cases h1:Op.bytesLess l l' with
 |true=>exact .inl ⟨by simp,rfl⟩
 | false=>
   cases h2:Op.bytesLess l' l with
   |true=>exact .inr (.inl ⟨by simp,rfl,rfl⟩)
   |false=>exact .inr (.inr ⟨by simp,rfl,rfl⟩)
theorem XT (a:Option Addr)(n cap:Nat)(ta:List aL)(a':Option Addr)(n' cap':Nat)(tb:List aL)(B:Nat)(w:World)(hn:ta.length=n)(hn':tb.length=n')(hs:Sl a n cap)(hs':Sl a' n' cap')(hl:n<=65536)(hl':n'<=65536)(ha:At w a (ta.flatMap aO))(ha':At w a' (tb.flatMap aO))
 (vh:∀t∈ta,Fit B t.2) (vk:∀t∈tb,Fit B t.2) (hB:B+2<=268435456) (hT:aF w):
 Calls Tryz.prog 99 #[.slice a n cap,.slice a' n' cap',.func (.func 100) #[] #[],.func (.func 101) #[] #[]] w λe w'=>∃v',e=.returned v'/\w'.ownsRow w.heap.size 107 4 v' (gG ta tb).length ((gG ta tb).flatMap aO)/\Bw w w':=by
 obtain⟨i0,hi,hz0,hz1,hz2⟩:=info_parts Tryz.aqW;obtain⟨M,hM⟩:=aB (gG ta tb);have CF:=enters_of Tryz.func100 zk rfl;have CE:=enters_of Tryz.func101 zk rfl;rw[hM];obtain⟨Hi,cN,cO,cH,HM,JV,JU,Hs,RP,Ha,oO,BI⟩:=gh hi hz0 hz1 hz2 hM CF CE hs hs' ha ha' vh;obtain⟨BJ,HT,Hn,RA⟩:=dS vk hT hn hn';obtain⟨N,hN⟩:=aB (n+n');have Uo:(n:Int)+(n':Int)=(N:Int):=by omega
 have HN:=ah hN;clear hi hz0 hz1 hz2 hM CF CE hs hs' ha ha' vh vk hT hn hn' hN;have hN1:N<=131072:=by have:=HN.out;omega
 go_enter Tryz.func99,Tryz.ntmps99;go_wp2_with (at_make;refine wpList_make_own _ rfl _ _ 55 rfl w.heap.size 107 i0 _ 4 Tryz.underlying55 Hi.out cN.out cO.out _ _ _ N rfl rfl (by first|exact Uo|rfl) (by rw[cH.out];omega) zx (Nat.le_refl _) ?_;intro w1 hown hgrow);obtain⟨hb1,nR⟩:=aM ((Below.refl w.heap.size w).grown hgrow (Nat.le_refl _) (by intro k hk;cases hk)) hown;clear hown hgrow Uo
 go_loopw[0,1,9] (λva vb vo wr=>∃(ra rb acc:List aL) (p q ca cb:Nat) (aa ab:Option Addr) (v:Value),v=vo/\va=.slice aa p ca/\vb=.slice ab q cb/\ra.length=p/\rb.length=q/\Sl aa p ca/\Sl ab q cb/\At w aa (ra.flatMap aO)/\At w ab (rb.flatMap aO)/\
  (∀t∈ra,Fit B t.2)/\(∀t∈rb,Fit B t.2)/\wr.ownsRow w.heap.size 107 4 v acc.length (acc.flatMap aO)/\acc.length+p+q<=N/\acc++gG ra rb=M/\Bw w wr) (λva vb _ _=>(vK va+vK vb).toNat)
 case atStart=>exact⟨ta,tb,[],n,n',cap,cap',a,a',_,rfl,rfl,rfl,Hn.out,RA.out,Hs.out,RP.out,Ha.out,oO.out,BI.out,BJ.out,nR.out,by rw[<-HN.out];simp,by simpa using HM.out,hb1.out⟩
 case round=>
  clear hb1 nR Ha oO Hs RP BI BJ Hn RA HM;obtain⟨ra,rb,acc,p,q,ca,cb,aa,ab,v,rfl,rfl,rfl,tQ,rp,hsa,ya,hat,hat',vh,vk,hov,hlen,hM,pb⟩:=hrel;by_cases hpq:0<p/\0<q
  . obtain ⟨hp,hq⟩:=hpq;obtain⟨x,ra,rfl⟩:∃x l,ra=x::l:=by cases ra with
     |nil=>simp at tQ;omega
     |cons x l=>exact⟨x,l,rfl⟩
    obtain⟨y,rb,rfl⟩:∃x l,rb=x::l:=by cases rb with
     |nil=>simp at rp;omega
     |cons x l=>exact⟨x,l,rfl⟩
    obtain⟨l,s,m,e⟩:=x;obtain⟨l',s',m',e'⟩:=y;obtain⟨p,rfl⟩:∃p',p=p'+1:=⟨p-1,by omega⟩;obtain⟨q,rfl⟩:∃q',q=q'+1:=⟨q-1,by omega⟩;have dL:=vh (l,s,m,e) zm;have jZ:=vk (l',s',m',e') zm;have Vs:∀t∈ra,Fit B t.2:=λt ht=>vh t (by simp[ht]);have Vt:∀t∈rb,Fit B t.2:=λt ht=>vk t (by simp[ht]);obtain⟨b1,o1,rfl,hw1⟩:=(hat.below pb).term 0 zm rfl;obtain⟨b2,o2,rfl,hw2⟩:=(hat'.below pb).term 0 zm rfl;simp only[Nat.zero_mul,Nat.add_zero]at hw1 hw2;have jD:b1<w.heap.size:=hat.lt (by rw[PR];simp[aO]);have iO:b2<w.heap.size:=hat'.lt (by rw[PR];simp[aO]);have WP:=hat.tail (c:=ca) (by have:=hsa.1;simp at tQ;omega);have jA:=hat'.tail (c:=cb) (by have:=ya.1;simp at rp;omega);have WK:=hsa.tail;have WL:=ya.tail;have ub:=jO (p+1) ca 0 0 (rfl:(some ⟨b1,o1,none⟩:Option Addr)=_) zo rfl;have IA:=jO (q+1) cb 0 0 (rfl:(some ⟨b2,o2,none⟩:Option Addr)=_) zo rfl;rw[Nat.zero_mul,Nat.add_zero]at ub IA;have hca:p+1<=ca:=hsa.1;have hcb:q+1<=cb:=ya.1;have KD:Hid (ra.length=p):=by show _=_;simpa using tQ
    have KE:Hid (rb.length=q):=by show _=_;simpa using rp
    obtain⟨KF,KG,RS,RU,RV,oZ,fx,JE,iT,mn,BI,BJ⟩:=gh hsa ya WK WL WP jA hat hat' dL jZ Vs Vt;obtain⟨abt,abu,cM,HM,aQ,wF⟩:=gF vh vk hov hM pb (HT.out.below pb);have Hx:Hid (bB wr b1 o1 [.string (bs l),.bool s,.string (bs m),.int .i64 e]):=hw1;have Hy:Hid (bB wr b2 o2 [.string (bs l'),.bool s',.string (bs m'),.int .i64 e']):=hw2;have WA:=tQ;have WB:=rp;simp only[List.length_cons]at WA WB;clear tQ rp hsa ya hat hat' vh vk hov hM pb dL jZ Vs Vt hw1 hw2 WP jA WK WL WA WB;have Hb:Hid (Bw wr wr):=Below.refl _ _;have LJ:=JV.out;have gm:=aQ.out.size;obtain⟨gs,Dk⟩:∃g,uk l l'=g:=⟨_,rfl⟩;have NB:=λW=>al5 l s m e l' s' m' e' W;have hcs:=al4 l l';rw[Dk]at NB hcs;obtain⟨RR,QY⟩:=aM NB hcs;clear NB hcs Dk;go_wp2_with fail;obtain⟨x0,x1,x2,x3⟩:=Hx.out.w4;obtain⟨y0,y1,y2,y3⟩:=Hy.out.w4;have HU:Hid (aF wr):=wF.out;refine bM (λw'=>w'.cell? ⟨b1,o1,none⟩=some (.string (bs l))/\w'.cell? ⟨b1,o1+1,none⟩=some (.bool s)/\w'.cell? ⟨b1,o1+2,none⟩=some (.string (bs m))/\w'.cell? ⟨b1,o1+3,none⟩=some (.int .i64 e)/\w'.cell? ⟨b2,o2,none⟩=some (.string (bs l'))/\w'.cell? ⟨b2,o2+1,none⟩=some (.bool s')/\w'.cell? ⟨b2,o2+2,none⟩=some (.string (bs m'))/\w'.cell? ⟨b2,o2+3,none⟩=some (.int .i64 e')) (λi=>Nat.blt i 100000) [(0,true),(1,true),(2,true),(3,true),(4,true),(5,true),(6,true),(7,false),(8,true)] zk zk rfl zk zc ⟨x0,x1,x2,x3,y0,y1,y2,y3⟩ ?_;iterate 7 (refine pT rfl rfl ?_ (by intro w' ⟨q0,q1,q2,q3,q4,q5,q6,q7⟩;go_simp;try with_reducible rfl);try simp only[UU])
    refine aI rfl rfl (λK hK=>?_);go_simp;with_reducible refine(RR.out _).mono ?_
    rintro e w2 ⟨rfl,hq⟩;have ae:Bw wr w2:=by first|exact hq|exact aV hq
    clear x0 x1 x2 x3 y0 y1 y2 y3;replace Hx:=kW Hx ae;replace Hy:=kW Hy ae;replace HU:=kT HU ae;obtain⟨x0,x1,x2,x3⟩:=Hx.out.w4;obtain⟨y0,y1,y2,y3⟩:=Hy.out.w4;replace Hb:=az Hb ae;clear ae;refine hK _ _ (λ_=>⟨x0,x1,x2,x3,y0,y1,y2,y3⟩) ?_;clear hK K;try simp only[UU]
    refine pT rfl rfl ?_;try simp only[UU]
    simp only[aZ];have hcs:=QY.out;have hp1:(1:Int)<=(p:Int)+1:=by omega
    have hq1:(1:Int)<=(q:Int)+1:=by omega
    clear QY RR LJ;rcases hcs with⟨rfl,h1⟩ |⟨rfl,h1,h2⟩ |⟨rfl,h1,h2⟩
    . have wE:Hid ((acc++[(l,s,m,e)])++gG ra ((l',s',m',e')::rb)=M):=by
       show _=_
       rw[<-HM.out,vS,if_pos h1];simp
      have wA:Hid ((acc++[(l,s,m,e)]).flatMap aO=acc.flatMap aO++[.string (bs l),.bool s,.string (bs m),.int .i64 e]):=by
       show _=_
       rw[List.flatMap_append];rfl
      clear h1;go_wp2_with fail;refine bM (λw'=>w'.cell? ⟨b1,o1,none⟩=some (.string (bs l))/\w'.cell? ⟨b1,o1+1,none⟩=some (.bool s)/\w'.cell? ⟨b1,o1+2,none⟩=some (.string (bs m))/\w'.cell? ⟨b1,o1+3,none⟩=some (.int .i64 e)) (λi=>Nat.blt i 100000) [(0,true),(1,true),(2,true),(3,true),(6,true),(7,true),(4,false),(5,false),(8,true),(9,true)] zk zk rfl zk zc ⟨x0,x1,x2,x3⟩ ?_;iterate 6 (refine pT rfl rfl ?_ (by intro w' ⟨q0,q1,q2,q3⟩;go_simp;try with_reducible rfl);try simp only[UU])
      refine aI rfl rfl (λK hK=>?_);go_simp;refine hK _ _ (λ_=>⟨aJ x0,aJ x1,aJ x2,aJ x3⟩) ?_;clear hK K;try simp only[UU]
      refine bO (λW3=>ak W3 (w2.heap.size) 107 [.string (bs l),.bool s,.string (bs m),.int .i64 e]/\Bw w2 W3) (by first|exact dU|exact dV) ?_;rintro W3 ⟨qc,ae⟩;clear x0 x1 x2 x3 y0 y1 y2 y3;replace Hx:=kW Hx ae;replace Hy:=kW Hy ae;replace HU:=kT HU ae;have Hc:=ah qc;clear qc;obtain⟨x0,x1,x2,x3⟩:=Hx.out.w4;obtain⟨y0,y1,y2,y3⟩:=Hy.out.w4;obtain⟨c0,c1,c2,c3⟩:=Hc.out.c4;replace Hb:=az Hb ae;clear ae;refine aI rfl rfl (λK hK=>?_);have eD:=ownsRow_below cM.out Hb.out;have hs3:=Hb.out.size;refine wp_append_own _ _ _ 55 rfl w.heap.size 107 i0 _ 4 48 Tryz.underlying55 Hi.out cN.out cO.out cH.out rfl zd v acc.length (acc.flatMap aO) rfl eD ⟨w2.heap.size,0,none⟩ 1 1 [.string (bs l),.bool s,.string (bs m),.int .i64 e] rfl rfl (fX Hc.out) zy zx zo zo ?_;intro v' w8 dW bz _;have nb:∀b,b<w.heap.size->some b≠v.ownBlock:=λb hb e=>by have:=cZ eD b e.symm;omega
      refine hK _ _ (λ_=>⟨bY bz x0 (nb _ jD),bY bz x1 (nb _ jD),bY bz x2 (nb _ jD),bY bz x3 (nb _ jD)⟩) ?_;clear hK K;try simp only[UU]
      iterate 2 (refine pT rfl rfl ?_;try simp only[UU])
      simp only[aZ];have wJ:=ah ((aK aQ.out Hb.out).grown bz zo (λj e=>cZ eD j e));have iE:Hid (w8.ownsRow w.heap.size 107 4 v' (acc++[(l,s,m,e)]).length ((acc++[(l,s,m,e)]).flatMap aO)):=by
       show w8.ownsRow _ _ _ _ _ _
       rw[wA.out,List.length_append];exact dW
      clear nb eD dW bz x0 x1 x2 x3 y0 y1 y2 y3 c0 c1 c2 c3 ub IA;go_wp2;go_roundw;case rel=>exact⟨ra,((l',s',m',e')::rb),acc++[(l,s,m,e)],p,(q+1),_,_,_,_,v',rfl,rfl,rfl,KD.out,(by have:=KE.out;simp;exact this),RS.out,KG.out,RV.out,JE.out,BI.out,abu.out,iE.out,by simp;omega,wE.out,wJ.out⟩
      case measure=>simp[vK];omega
    ·
     have wE:Hid ((acc++[(l',s',m',e')])++gG ((l,s,m,e)::ra) rb=M):=by
      show _=_
      rw[<-HM.out,vS,if_neg (by rw[h1];decide),if_pos h2];simp
     have wA:Hid ((acc++[(l',s',m',e')]).flatMap aO=acc.flatMap aO++[.string (bs l'),.bool s',.string (bs m'),.int .i64 e']):=by
      show _=_
      rw[List.flatMap_append];rfl
     clear h1 h2
     go_wp2_with fail
     refine bM (λw'=>w'.cell? ⟨b2,o2,none⟩=some (.string (bs l'))/\w'.cell? ⟨b2,o2+1,none⟩=some (.bool s')/\w'.cell? ⟨b2,o2+2,none⟩=some (.string (bs m'))/\w'.cell? ⟨b2,o2+3,none⟩=some (.int .i64 e')) (λi=>Nat.blt i 100000) [(0,true),(1,true),(2,true),(3,true),(6,true),(7,true),(4,false),(5,false),(8,true),(9,true)] zk zk rfl zk zc ⟨y0,y1,y2,y3⟩ ?_
     iterate 6 (refine pT rfl rfl ?_ (by intro w' ⟨q0,q1,q2,q3⟩;go_simp;try with_reducible rfl);try simp only[UU])
     refine aI rfl rfl (λK hK=>?_)
     go_simp
     refine hK _ _ (λ_=>⟨aJ y0,aJ y1,aJ y2,aJ y3⟩) ?_;clear hK K
     try simp only[UU]
     refine bO (λW3=>ak W3 (w2.heap.size) 107 [.string (bs l'),.bool s',.string (bs m'),.int .i64 e']/\Bw w2 W3) (by first|exact dU|exact dV) ?_
     rintro W3 ⟨qc,ae⟩
     clear x0 x1 x2 x3
     clear y0 y1 y2 y3
     replace Hx:=kW Hx ae
     replace Hy:=kW Hy ae
     replace HU:=kT HU ae
     have Hc:=ah qc;clear qc
     obtain⟨x0,x1,x2,x3⟩:=Hx.out.w4
     obtain⟨y0,y1,y2,y3⟩:=Hy.out.w4
     obtain⟨c0,c1,c2,c3⟩:=Hc.out.c4
     replace Hb:=az Hb ae;clear ae
     refine aI rfl rfl (λK hK=>?_)
     have eD:=ownsRow_below cM.out Hb.out
     have hs3:=Hb.out.size
     refine wp_append_own _ _ _ 55 rfl w.heap.size 107 i0 _ 4 48 Tryz.underlying55 Hi.out cN.out cO.out cH.out rfl zd v acc.length (acc.flatMap aO) rfl eD ⟨w2.heap.size,0,none⟩ 1 1 [.string (bs l'),.bool s',.string (bs m'),.int .i64 e'] rfl rfl (fX Hc.out) zy zx zo zo ?_
     intro v' w8 dW bz _
     have nb:∀b,b<w.heap.size->some b≠v.ownBlock:=λb hb e=>by have:=cZ eD b e.symm;omega
     refine hK _ _ (λ_=>⟨bY bz y0 (nb _ iO),bY bz y1 (nb _ iO),bY bz y2 (nb _ iO),bY bz y3 (nb _ iO)⟩) ?_;clear hK K
     try simp only[UU]
     iterate 2 (refine pT rfl rfl ?_;try simp only[UU])
     simp only[aZ]
     have wJ:=ah ((aK aQ.out Hb.out).grown bz zo (λj e=>cZ eD j e))
     have iE:Hid (w8.ownsRow w.heap.size 107 4 v' (acc++[(l',s',m',e')]).length ((acc++[(l',s',m',e')]).flatMap aO)):=by
      show w8.ownsRow _ _ _ _ _ _
      rw[wA.out,List.length_append];exact dW
     clear nb eD dW bz x0 x1 x2 x3 y0 y1 y2 y3 c0 c1 c2 c3 ub IA
     go_wp2
     go_roundw
     case rel=>exact⟨((l,s,m,e)::ra),rb,acc++[(l',s',m',e')],(p+1),q,_,_,_,_,v',rfl,rfl,rfl,(by have:=KD.out;simp;exact this),KE.out,KF.out,RU.out,fx.out,oZ.out,abt.out,BJ.out,iE.out,by simp;omega,wE.out,wJ.out⟩
     case measure=>simp[vK];omega
    ·
     obtain⟨S,hS⟩:=aB (aC (s,m,e)+aC (s',m',e'))
     have HS:=ah hS
     have wE:Hid ((acc++[(l,canon S)])++gG ra rb=M):=by
      show _=_
      rw[<-HM.out,vS,if_neg (by rw[h1];decide),if_neg (by rw[h2];decide)];simp;rw[<-hS];rfl
     have wA:Hid ((acc++[(l,canon S)]).flatMap aO=acc.flatMap aO++[.string (bs l),.bool (ar (dN S)),.string (bs (nt (dN S).natAbs)),.int .i64 (dE S)]):=by
      show _=_
      rw[List.flatMap_append];rfl
     clear h1 h2 hS
     have Gj:=JU.out
     go_wp2_with fail
     refine bM (λw'=>w'.cell? ⟨b1,o1,none⟩=some (.string (bs l))/\w'.cell? ⟨b1,o1+1,none⟩=some (.bool s)/\w'.cell? ⟨b1,o1+2,none⟩=some (.string (bs m))/\w'.cell? ⟨b1,o1+3,none⟩=some (.int .i64 e)/\w'.cell? ⟨b2,o2,none⟩=some (.string (bs l'))/\w'.cell? ⟨b2,o2+1,none⟩=some (.bool s')/\w'.cell? ⟨b2,o2+2,none⟩=some (.string (bs m'))/\w'.cell? ⟨b2,o2+3,none⟩=some (.int .i64 e')) (λi=>Nat.blt i 100000) [(0,true),(1,true),(2,true),(3,true),(4,true),(5,true),(6,true),(7,true),(11,true),(12,true),(13,true),(14,true),(8,false),(9,false),(10,false),(15,true),(16,true),(17,true)] zk zk rfl zk zc ⟨x0,x1,x2,x3,y0,y1,y2,y3⟩ ?_
     iterate 12 (refine pT rfl rfl ?_ (by intro w' ⟨q0,q1,q2,q3,q4,q5,q6,q7⟩;go_simp;try with_reducible rfl);try simp only[UU])
     refine aI rfl rfl (λK hK=>?_)
     go_simp
     with_reducible refine(amk l s m e l' s' m' e' S B HS.out _ iT.out mn.out hB (by first|exact HU.out|exact aF.drew HU.out|exact aF.alloc HU.out _|exact aF.drew (aF.alloc HU.out _) |exact aF.alloc (aF.drew HU.out) _)).mono ?_
     rintro e w4 ⟨rfl,hq⟩
     have ae:Bw w2 w4:=by first|exact hq|exact aV hq
     clear x0 x1 x2 x3
     clear y0 y1 y2 y3
     replace Hx:=kW Hx ae
     replace Hy:=kW Hy ae
     replace HU:=kT HU ae
     obtain⟨x0,x1,x2,x3⟩:=Hx.out.w4
     obtain⟨y0,y1,y2,y3⟩:=Hy.out.w4
     replace Hb:=az Hb ae;clear ae
     refine hK _ _ (λ_=>⟨x0,x1,x2,x3,y0,y1,y2,y3⟩) ?_;clear hK K
     try simp only[UU]
     refine aI rfl rfl (λK hK=>?_)
     go_simp
     refine hK _ _ (λ_=>⟨aJ x0,aJ x1,aJ x2,aJ x3,aJ y0,aJ y1,aJ y2,aJ y3⟩) ?_;clear hK K
     try simp only[UU]
     refine bO (λW5=>ak W5 (w4.heap.size) 107 [.string (bs l),.bool (ar (dN S)),.string (bs (nt (dN S).natAbs)),.int .i64 (dE S)]/\Bw w4 W5) (by first|exact dU|exact dV) ?_
     rintro W5 ⟨qc,ae⟩
     clear x0 x1 x2 x3
     clear y0 y1 y2 y3
     replace Hx:=kW Hx ae
     replace Hy:=kW Hy ae
     replace HU:=kT HU ae
     have Hc:=ah qc;clear qc
     obtain⟨x0,x1,x2,x3⟩:=Hx.out.w4
     obtain⟨y0,y1,y2,y3⟩:=Hy.out.w4
     obtain⟨c0,c1,c2,c3⟩:=Hc.out.c4
     replace Hb:=az Hb ae;clear ae
     refine aI rfl rfl (λK hK=>?_)
     have eD:=ownsRow_below cM.out Hb.out
     have hs3:=Hb.out.size
     refine wp_append_own _ _ _ 55 rfl w.heap.size 107 i0 _ 4 48 Tryz.underlying55 Hi.out cN.out cO.out cH.out rfl zd v acc.length (acc.flatMap aO) rfl eD ⟨w4.heap.size,0,none⟩ 1 1 [.string (bs l),.bool (ar (dN S)),.string (bs (nt (dN S).natAbs)),.int .i64 (dE S)] rfl rfl (fX Hc.out) zy zx zo zo ?_
     intro v' w8 dW bz _
     have nb:∀b,b<w.heap.size->some b≠v.ownBlock:=λb hb e=>by have:=cZ eD b e.symm;omega
     refine hK _ _ (λ_=>⟨bY bz x0 (nb _ jD),bY bz x1 (nb _ jD),bY bz x2 (nb _ jD),bY bz x3 (nb _ jD),bY bz y0 (nb _ iO),bY bz y1 (nb _ iO),bY bz y2 (nb _ iO),bY bz y3 (nb _ iO)⟩) ?_;clear hK K
     try simp only[UU]
     iterate 3 (refine pT rfl rfl ?_;try simp only[UU])
     simp only[aZ]
     have wJ:=ah ((aK aQ.out Hb.out).grown bz zo (λj e=>cZ eD j e))
     have iE:Hid (w8.ownsRow w.heap.size 107 4 v' (acc++[(l,canon S)]).length ((acc++[(l,canon S)]).flatMap aO)):=by
      show w8.ownsRow _ _ _ _ _ _
      rw[wA.out,List.length_append];exact dW
     clear nb eD dW bz x0 x1 x2 x3 y0 y1 y2 y3 c0 c1 c2 c3 ub IA
     go_wp2
     go_roundw
     case rel=>exact⟨ra,rb,acc++[(l,canon S)],p,q,_,_,_,_,v',rfl,rfl,rfl,KD.out,KE.out,RS.out,RU.out,RV.out,oZ.out,BI.out,BJ.out,iE.out,by simp;omega,wE.out,wJ.out⟩
     case measure=>simp[vK];omega
  . have hmr:gG ra rb=ra++rb:=by
     have:p=0\/q=0:=by omega
     rcases this with rfl|rfl
     . rw[List.eq_nil_of_length_eq_zero tQ,Ax];rfl
     . rw[List.eq_nil_of_length_eq_zero rp,Ay];simp
    have Um:M.length=acc.length+p+q:=by rw[<-hM,hmr];simp[tQ,rp];omega
    have wA:Hid (M.flatMap aO=(acc.flatMap aO++ra.flatMap aO)++rb.flatMap aO):=by
     show _=_
     rw[<-hM,hmr,<-List.append_assoc,List.flatMap_append,List.flatMap_append]
    have hlr:(ra.flatMap aO).length=p*4:=by rw[kX,tQ]
    have VV:(rb.flatMap aO).length=q*4:=by rw[kX,rp]
    have jJ:=hat.below pb;have aoO:=hlen;obtain⟨Fw,abT,kZ,fx,cM,aQ,KF,KG,HML⟩:=Xu hlr VV jJ hat' hov pb hsa ya Um;clear tQ rp hmr hlr VV hat hat' jJ hov pb hsa ya hM vh vk Um;have hsz:=aQ.out.size;by_cases h0:0<p
    all_goals
     go_wp2_with (first| (at_builtin;refine oN rfl (.tmp 70) (.tmp 71) 55 rfl w.heap.size 107 i0 _ 4 48 Tryz.underlying55 Hi.out cN.out cO.out cH.out rfl zd v acc.length (acc.flatMap aO) rfl cM.out aa p ca (ra.flatMap aO) rfl KF.out Fw.out kZ.out (rF ra) zx zo hsz ?_;intro v1 w2 dv hg1 hb1) | (at_builtin;refine oN rfl (.tmp 72) (.tmp 73) 55 rfl w.heap.size 107 i0 _ 4 48 Tryz.underlying55 Hi.out cN.out cO.out cH.out rfl zd v1 (acc.length+p) (acc.flatMap aO++ra.flatMap aO) rfl dv ab q cb (rb.flatMap aO) rfl KG.out abT.out (fx.out.below (aQ.out.grown hg1 hsz (λj e=>cZ cM.out j e))) (rF rb) zx zo (Nat.le_trans hsz hg1.size) ?_;intro v2 w3 dP hg2 hb2))
     go_ret
     refine⟨v2,rfl,?_,(aQ.out.grown hg1 hsz (λj e=>cZ cM.out j e)).grown hg2 (Nat.le_trans hsz hg1.size) (λj e=>cZ dv j e)⟩
     rw[HML.out,wA.out];exact dP
end Go.Proofs.YtdaadlblknpipaaGreatDoor
namespace Go.Proofs.YtdaadlblknpipaaGreatDoor
open Go.RowKit
theorem amC (ts:List aL)(i:Nat)(hi:i<ts.length)(t:aL):(((((ts.flatMap aO).set (i*4) (.string (bs t.1))).set (i*4+1) (.bool t.2.1)).set (i*4+2) (.string (bs t.2.2.1))).set (i*4+3) (.int .i64 t.2.2.2))=(ts.set i t).flatMap aO:=by
 induction ts generalizing i with
 |nil=>simp at hi
 | cons x ts ih=>
   have e:∀(y:aL) zs,(y::zs).flatMap aO=.string (bs y.1)::.bool y.2.1::.string (bs y.2.2.1)::.int .i64 y.2.2.2::zs.flatMap aO:=λy zs=>rfl;cases i with
   |zero=>rw[e];rfl
   |succ i=>rw[List.set_cons_succ,e,e,<-ih i (by simpa using hi),show(i+1) *4=i*4+1+1+1+1 by omega];rfl
theorem amB (ts:List aL)(i:Nat)(hi:i<ts.length)(r:Raw):((((ts.flatMap aO).set (i*4+1) (.bool r.1)).set (i*4+2) (.string (bs r.2.1))).set (i*4+3) (.int .i64 r.2.2))=(ts.set i (ts[i].1,r)).flatMap aO:=by
 induction ts generalizing i with
 |nil=>simp at hi
 | cons x ts ih=>
   have e:∀(y:aL) zs,(y::zs).flatMap aO=.string (bs y.1)::.bool y.2.1::.string (bs y.2.2.1)::.int .i64 y.2.2.2::zs.flatMap aO:=λy zs=>rfl;cases i with
   |zero=>rw[e];rfl
   |succ i=>rw[List.set_cons_succ,e,e,List.getElem_cons_succ,<-ih i (by simpa using hi),show(i+1) *4=i*4+1+1+1+1 by omega];rfl
theorem mM {w:World}{base:Nat}{e:TypeId}{size n cap g:Nat}{xs:List Value}(h:w.ownsRow base e size (.slice (some ⟨g,0,none⟩) n cap) n xs)(o:Nat):w.frozen? ⟨g,o,none⟩=false:=by
 rcases h.2 with⟨h1,_⟩ |⟨g',cap',cur,h1,hb,hg,_⟩
 . simp at h1
 . simp only[Value.slice.injEq,Option.some.injEq,Addr.mk.injEq,and_true,true_and]at h1;obtain⟨rfl,rfl⟩:=h1;have h4:ak w g e cur.toList:=by unfold ak;simpa using hg
   exact h4.free o
theorem yA {w:World}{base:Nat}{e:TypeId}{size n cap g:Nat}{xs:List Value}(h:w.ownsRow base e size (.slice (some ⟨g,0,none⟩) n cap) n xs):base<=g/\g<w.heap.size:=by
 rcases h.2 with⟨h1,_⟩ |⟨g',cap',cur,h1,hb,hg,_⟩
 . simp at h1
 . simp only[Value.slice.injEq,Option.some.injEq,Addr.mk.injEq,and_true,true_and]at h1;obtain⟨rfl,rfl⟩:=h1;exact⟨hb,(Array.getElem?_eq_some_iff.1 hg).1⟩
theorem IR {w:World}{base n cap g:Nat}{e:TypeId}{ts:List aL}(h:w.ownsRow base e 4 (.slice (some ⟨g,0,none⟩) n cap) n (ts.flatMap aO))(k:Nat)(hk:k<ts.length){l:List UInt8}{s:Bool}{m:List UInt8}{ex:Int}(hx:ts[k]=(l,s,m,ex)):
 bB w g (k*4) [.string (bs l),.bool s,.string (bs m),.int .i64 ex]:=by
 obtain⟨a,c,hv,hat,_⟩:=dG h;simp only[Value.slice.injEq,true_and]at hv;obtain⟨rfl,rfl⟩:=hv;obtain⟨b,o,hab,hw⟩:=hat.term k hk hx;simp only[Option.some.injEq,Addr.mk.injEq,and_true]at hab;obtain⟨rfl,rfl⟩:=hab;rwa [Nat.zero_add]at hw
theorem akr {w:World}{base n cap g:Nat}{e:TypeId}{ts:List aL}(h:w.ownsRow base e 4 (.slice (some ⟨g,0,none⟩) n cap) n (ts.flatMap aO))(i:Nat)(hi:i<ts.length)(l:List UInt8)(s:Bool)(m:List UInt8)(ex:Int):
 ((((w.setCell ⟨g,i*4,none⟩ (.string (bs l))).setCell ⟨g,i*4+1,none⟩ (.bool s)).setCell ⟨g,i*4+2,none⟩ (.string (bs m))).setCell ⟨g,i*4+3,none⟩ (.int .i64 ex)).ownsRow base e 4 (.slice (some ⟨g,0,none⟩) n cap) n ((ts.set i (l,s,m,ex)).flatMap aO):=by
 rw[<-amC ts i hi (l,s,m,ex)];exact jP (jP (jP (jP h _ _) _ _) _ _) _ _
theorem Yq {w:World}{base n cap g:Nat}{e:TypeId}{ts:List aL}(h:w.ownsRow base e 4 (.slice (some ⟨g,0,none⟩) n cap) n (ts.flatMap aO))(i:Nat)(hi:i<ts.length)(s:Bool)(m:List UInt8)(ex:Int):
 (((w.setCell ⟨g,i*4+1,none⟩ (.bool s)).setCell ⟨g,i*4+2,none⟩ (.string (bs m))).setCell ⟨g,i*4+3,none⟩ (.int .i64 ex)).ownsRow base e 4 (.slice (some ⟨g,0,none⟩) n cap) n ((ts.set i (ts[i].1,s,m,ex)).flatMap aO):=by
 rw[<-amB ts i hi (s,m,ex)];exact jP (jP (jP h _ _) _ _) _ _
theorem Gp {w w':World}(r:Option Nat)(h:Bw w w'):w.grownBy w' r:=⟨h.os,h.tape,h.output,h.size,λk hk _=>h.block k hk⟩
theorem Gq {w w':World}{g:Nat}(h:w.grownBy w' (some g))(a:Nat)(v:Value):w.grownBy (w'.setCell ⟨g,a,none⟩ v) (some g):=grownBy_trans h (grownBy_set g rfl v)
theorem aer {n:Nat}{w w':World}{r:Option Nat}(h:w.grownBy w' r)(hn:n<=w.heap.size)(hr:∀g,r=some g->n<=g):Below n w w':=((Below.refl _ _).mono hn).grown h hn hr
theorem XX {B:Nat}(a b:List aL)(ha:∀t∈a,Fit B t.2)(hb:∀t∈b,Fit B t.2)(hB:B+1<=268435456):∀t∈gG a b,Fit (B+1) t.2:=by
 obtain⟨n,hn⟩:=aB (a.length+b.length);induction n using Nat.strongRecOn generalizing a b with
 | _ n ih=>
   cases a with
   |nil=>rw[Ax];exact λt ht=>(hb t ht).mono zo
   | cons x a=>cases b with
     |nil=>rw[Ay];exact λt ht=>(ha t ht).mono zo
     | cons y b=>
       rw[vS];simp only[List.length_cons]at hn;have ha2:∀t∈a,Fit B t.2:=λt ht=>ha t (by simp[ht]);have hb2:∀t∈b,Fit B t.2:=λt ht=>hb t (by simp[ht]);split
       . intro t ht;rcases List.mem_cons.1 ht with rfl|ht
         . exact(ha _ zm).mono zo
         . exact ih _ (by simp only[List.length_cons];omega) a (y::b) ha2 hb rfl t ht
       . split
         . intro t ht;rcases List.mem_cons.1 ht with rfl|ht
           . exact(hb _ zm).mono zo
           . exact ih _ (by simp only[List.length_cons];omega) (x::a) b ha hb2 rfl t ht
         . intro t ht;rcases List.mem_cons.1 ht with rfl|ht
           . exact((ha x zm).2.add (hb y zm).2).fit hB
           . exact ih _ zo a b ha2 hb2 rfl t ht
theorem PI {B:Nat}(l:List aL)(h:∀t∈l,Fit B t.2)(hB:B+l.length<=268435456):∀t∈gK l,Fit (B+l.length) t.2:=by
 obtain⟨n,hn⟩:=aB l.length;induction n using Nat.strongRecOn generalizing l with
 | _ n ih=>
   by_cases h2:l.length<2
   . rw[IZ l h2];exact λt ht=>(h t ht).mono zo
   . rw[PK l zo];have l1:(l.take (l.length/2)).length=l.length/2:=by rw[List.length_take];omega
     have l2:(l.drop (l.length/2)).length=l.length-l.length/2:=List.length_drop;have h3:=ih _ (by rw[<-hn,l1];omega) (l.take (l.length/2)) (λt ht=>h t (List.mem_of_mem_take ht)) (by rw[l1];omega) rfl;have h4:=ih _ (by rw[<-hn,l2];omega) (l.drop (l.length/2)) (λt ht=>h t (List.mem_of_mem_drop ht)) (by rw[l2];omega) rfl;have:=XX (B:=B+(l.length-1)) _ _ (λt ht=>(h3 t ht).mono (by rw[l1];omega)) (λt ht=>(h4 t ht).mono (by rw[l2];omega)) zo;rwa [show B+(l.length-1)+1=B+l.length by omega]at this
end Go.Proofs.YtdaadlblknpipaaGreatDoor
namespace Go.Proofs.YtdaadlblknpipaaGreatDoor
open Go.RowKit
attribute [local go_sem ↓] Go.wp_at_zero Go.wp_at_succ
end Go.Proofs.YtdaadlblknpipaaGreatDoor
namespace Go.Proofs.YtdaadlblknpipaaGreatDoor
open Go.RowKit
def Pd (w:World)(ob:Option Nat)(v:Value)(cz:List Raw):Prop:=∃a cap,v=.slice a cz.length cap/\At w a (cz.flatMap bA)/\Sl a cz.length cap/\∀b o,a=some ⟨b,o,none⟩->some b≠ob/\b<w.heap.size
theorem Pd.pc {w:World}{ob:Option Nat}{v:Value}{cz:List Raw}(h:Pd w ob v cz):Pc w v cz:=by obtain⟨a,c,h1,h2,h3,_⟩:=h;exact⟨a,c,h1,h2,h3⟩
theorem Pd.below {w w':World}{ob:Option Nat}{v:Value}{cz:List Raw}(h:Pd w ob v cz)(hb:Bw w w'):Pd w' ob v cz:=by obtain⟨a,c,h1,h2,h3,h4⟩:=h;exact⟨a,c,h1,h2.below hb,h3,λb o e=>⟨(h4 b o e).1,Nat.lt_of_lt_of_le (h4 b o e).2 hb.size⟩⟩
theorem Pd.grown {w w':World}{ob OA:Option Nat}{v:Value}{cz:List Raw}(h:Pd w ob v cz)(hg:w.grownBy w' ob)(fq:OA=ob\/OA=some w.heap.size):Pd w' OA v cz:=by
 obtain⟨a,c,h1,h2,h3,h4⟩:=h;refine⟨a,c,h1,h2.grown hg (λb o e=>(h4 b o e).1),h3,λb o e=>⟨?_,Nat.lt_of_lt_of_le (h4 b o e).2 hg.size⟩⟩;rcases fq with h|h
 . rw[h];exact(h4 b o e).1
 . rw[h];intro h5;have:=(h4 b o e).2;simp at h5;omega
theorem Pd.own {w:World}{base:Nat}{e:TypeId}{ob:Option Nat}{x:Value}{cz:List Raw}{n:Nat}(h:w.ownsRow base e 3 x n (cz.flatMap bA))(hn:cz.length=n)(fq:∀g,ob=some g->g<base):Pd w ob x cz:=by subst hn;have hl:=h.lt;obtain⟨a,c,hv,hat,hb⟩:=dG h;subst hv;refine⟨a,c,rfl,hat,sD h,λb o e=>?_⟩;subst e;have h1:=hl b rfl;refine⟨λh2=>?_,h1.2⟩;have:=fq b h2.symm;omega
def mD (e:TypeId)(w:World)(base:Nat)(S:List (List Raw))(k:Nat)(v:Value):Prop:=
 ∃vals:List Value,vals.length=k/\w.ownsRow base e 1 v k vals/\∀i (h:i<vals.length),Pd w v.ownBlock vals[i] (S.getD i [])
theorem mD.nil (e:TypeId)(w:World)(base:Nat)(S:List (List Raw)):mD e w base S 0 (.slice none 0 0):=
 ⟨[],rfl,World.ownsRow_nil _ _ _ _,λ_ h=>absurd h (Nat.not_lt_zero _)⟩
theorem mD.below {e:TypeId}{w w':World}{base k:Nat}{S:List (List Raw)}{v:Value}(h:mD e w base S k v)(hb:Bw w w'):mD e w' base S k v:=by obtain⟨vals,hl,ho,hi⟩:=h;exact⟨vals,hl,ownsRow_below ho hb,λi h=>(hi i h).below hb⟩
theorem mD.lt {e:TypeId}{w:World}{base k:Nat}{S:List (List Raw)}{v:Value}(h:mD e w base S k v):∀g,v.ownBlock=some g->base<=g/\g<w.heap.size:=by obtain⟨vals,hl,ho,hi⟩:=h;exact ho.lt
theorem mD.tbl {e:TypeId}{w:World}{base k:Nat}{S:List (List Raw)}{v:Value}(h:mD e w base S k v)(hk:S.length=k):∃a c,v=.slice a k c/\Sl a k c/\kC w a S:=by obtain⟨vals,hl,ho,hi⟩:=h;obtain⟨a,c,hv,hat,_⟩:=dG ho;subst hv;refine⟨a,c,rfl,sD ho,vals,by simp[hl,hk],hat,λi h1 h2=>?_⟩;have:=(hi i h2).pc;rwa [show S.getD i []=S[i]by simp[h1]]at this
theorem ZY {P:Program}{w:World}{ops:Array Oper}{rest:List Oper}{o:Oper}{a:Act}{Q:Exit->Act->World->Prop}(hgd:o.guard=none)(s x:Operand)(t:TypeId)
 (ho:o.op=.call {callee:=.builtin .append,args:=#[s,x],argTypes:=#[t,t]})
 (base:Nat) (e:TypeId) (i:TypeInfo) (z:Value) (ht:P.underlying t=Option.some (.slice e)) (hi:P.info? e=Option.some i) (hz:i.zero=Option.some z)
 (hsize:i.size=1) (hby:i.bytes=24) (hzs:z.cells.size=1)
 (v:Value) (k:Nat) (S:List (List Raw)) (hs:a.eval s=v) (hown:mD e w base S k v)
 (g:Nat) (c:Nat) (row:Value) (hx:a.eval x=.slice (some ⟨g,0,none⟩) 1 c) (hc:w.cell? ⟨g,0,none⟩=some row) (hp:Pd w v.ownBlock row (S.getD k []))
 (hk:k<=1000) (hbase:base<=w.heap.size)
 (h:∀v' w',mD e w' base S (k+1) v'->w.grownBy w' v.ownBlock->(∀j,v.ownBlock=some j->base<=j)->wpList P ops Q rest (a.put o.dst v') w'):
 wpList P ops Q (o::rest) a w:=by
 obtain⟨vals,hl,how,hi2⟩:=hown;have h1:row.oneCell'=true:=by obtain⟨a,cp,rfl,_⟩:=hp;rfl
 refine wpList_append_own_at w hgd s x t ho base e i z 1 24 ht hi hz hsize hby hzs zd v k vals hs how ⟨g,0,none⟩ 1 c [row] hx rfl (λj u hj=>?_) (λu hu=>?_) (by unfold maxLen;omega) zo hbase (λv' w' h2 h3 _ h5=>?_)
 . have hj0:j=0:=by have:=(List.getElem?_eq_some_iff.1 hj).1;simp at this;omega
   subst hj0;simp at hj;subst hj;exact hc
 . simp only[List.mem_singleton]at hu;subst hu;exact h1
 . refine h v' w' ⟨_,by simp[hl],h2,λi hi3=>?_⟩ h3 (λj hj=>(how.lt j hj).1);by_cases hk2:i<vals.length
   . rw[List.getElem_append_left hk2];exact(hi2 i hk2).grown h3 h5
   . have hik:i=k:=by simp at hi3;omega
     subst hik;rw[List.getElem_append_right zo];simp only[hl,Nat.sub_self,List.getElem_cons_zero];exact hp.grown h3 h5
end Go.Proofs.YtdaadlblknpipaaGreatDoor
