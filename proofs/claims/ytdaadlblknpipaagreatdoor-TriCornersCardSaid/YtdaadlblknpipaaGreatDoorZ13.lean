/- An own row cut short,cleared behind;an own row as a whole block. -/
import Derived.Test.YtdaadlblknpipaaGreatDoorZ11
import Derived.Laws.CopyRow
import Derived.Laws.AppendOwnNone
import Derived.Deep.DeepAppendRoom
import Derived.Test.YtdaadlblknpipaaGreatDoorZ12
import Derived.Test.YtdaadlblknpipaaGreatDoorZ9
import Derived.Test.YtdaadlblknpipaaGreatDoorZ10
import Derived.Test.YtdaadlblknpipaaGreatDoorZ7
import Derived.Maps.AppendAt
set_option linter.unusedVariables false
set_option linter.unusedSimpArgs false
set_option maxRecDepth 100000
set_option maxHeartbeats 16000000
namespace Go.Proofs.YtdaadlblknpipaaGreatDoor
open Go.RowKit
theorem YA {w:World}{base:Nat}{e:TypeId}{size n cap g:Nat}{xs:List Value}(h:w.ownsRow base e size (.slice (some ⟨g,0,none⟩) n cap) n xs)(i:Nat)(hi:i<=n):
 w.ownsRow base e size (.slice (some ⟨g,0,none⟩) i cap) i (xs.take (i*size)):=by
 have xd:i*size<=n*size:=Nat.mul_le_mul_right _ hi;refine⟨by rw[List.length_take,h.1];omega,?_⟩;rcases h.2 with⟨h1,_⟩ |⟨g',cap',cur,h1,hb,hg,h4,h5,h6,hx⟩
 . simp at h1
 . simp only[Value.slice.injEq,Option.some.injEq,Addr.mk.injEq,and_true,true_and]at h1;obtain⟨rfl,rfl⟩:=h1;refine .inr ⟨g,cap,cur,rfl,hb,hg,by omega,h5,h6,?_⟩;rw[<-hx,List.take_take,Nat.min_eq_left xd]
theorem xR {w:World}{base:Nat}{e:TypeId}{size n:Nat}{v:Value}{xs:List Value}(h:w.ownsRow base e size v n xs)(hn:0<n):∃g cap,v=.slice (some ⟨g,0,none⟩) n cap/\base<=g/\g<w.heap.size/\n<=cap:=by
 rcases h.2 with⟨_,h1⟩ |⟨g,cap,cur,h1,hb,hg,h4,_⟩
 . omega
 . exact⟨g,cap,h1,hb,(Array.getElem?_eq_some_iff.1 hg).1,h4⟩
theorem ak6 {w:World}{base:Nat}{e:TypeId}{size n cap g:Nat}{xs:List Value}(h:w.ownsRow base e size (.slice (some ⟨g,0,none⟩) n cap) n xs)(o:Nat)(vs:List Value)(ho:n*size<=o)(cur:Array Value)(Cz:w.heap[g]?=some (.cells cur e (0,0)))(hl:o+vs.length<=cur.size):
 (w.setRow g (cur.toList.take o++vs++cur.toList.drop (o+vs.length)).toArray).ownsRow base e size (.slice (some ⟨g,0,none⟩) n cap) n xs/\w.grownBy (w.setRow g (cur.toList.take o++vs++cur.toList.drop (o+vs.length)).toArray) (some g):=by
 have hh:=setRow_heap w g cur (cur.toList.take o++vs++cur.toList.drop (o+vs.length)).toArray e (0,0) Cz;constructor
 . refine⟨h.1,?_⟩;rcases h.2 with⟨h1,_⟩ |⟨g',cap',cur',h1,hb,hg,h4,h5,h6,hx⟩
   . simp at h1
   . simp only[Value.slice.injEq,Option.some.injEq,Addr.mk.injEq,and_true,true_and]at h1;obtain⟨rfl,rfl⟩:=h1;rw[Cz]at hg;simp only[Option.some.injEq,Obj.cells.injEq,and_true]at hg;subst hg;refine .inr ⟨g,cap,_,rfl,hb,hh,h4,h5,?_,?_⟩
     . rw[<-h6];have hcl:cur.toList.length=cur.size:=Array.length_toList;simp only[List.size_toArray,List.length_append,List.length_take,List.length_drop,hcl];omega
     . rw[<-hx];have hcl:cur.toList.length=cur.size:=Array.length_toList;simp only[List.append_assoc];rw[List.take_append_of_le_length (by rw[List.length_take,hcl];omega),List.take_take,Nat.min_eq_left ho]
 . refine⟨rfl,rfl,rfl,by simp[World.setRow],λk hk hne=>?_⟩;unfold World.setRow;simp only[Array.getElem?_modify];rw[if_neg (λe=>hne (by rw[e]))]
theorem YZ {P:Program}(w:World)(t e:TypeId)(z:Value)(size:Nat)(ht:P.underlying t=some (.slice e))(hv:∀w,(zeroValue e).run P w=.ok z w)(hz:z.cells.size=size)(h1:∀v∈z.cells.toList,v.oneCell'=true)(g n m cap c:Nat)(base:Nat)(xs:List Value)
 (h:w.ownsRow base e size (.slice (some ⟨g,0,none⟩) n cap) n xs) (hm:n+m<=cap):
 ∃w',(∀ty,(Builtin.clear_ #[t] ty #[.slice (some ⟨g,n*size,none⟩) m c]).run P w=.ok (.tuple #[]) w')/\w'.ownsRow base e size (.slice (some ⟨g,0,none⟩) n cap) n xs/\w.grownBy w' (some g):=by
 rcases h.2 with⟨h2,_⟩ |⟨g',cap',cur,h2,hb,hg,h4,h5,h6,hx⟩
 . simp at h2
 simp only[Value.slice.injEq,Option.some.injEq,Addr.mk.injEq,and_true,true_and]at h2;obtain⟨rfl,rfl⟩:=h2;by_cases hm0:m=0
 . subst hm0;refine⟨w,λty=>?_,h,World.grownBy.refl _ _⟩;simp[Builtin.clear_,run_underlying ht]
 . obtain⟨vs,hvs⟩:=aB ((Builtin.zeroCells z.cells m).toList);have hvl:vs.length=m*size:=by rw[<-hvs,Array.length_toList,size_zeroCells,hz]
   have uZ:∀v∈vs,v.oneCell'=true:=by
    intro v hv2;rw[<-hvs]at hv2;unfold Builtin.zeroCells at hv2;simp only[Array.toList_map,Array.toList_range,List.mem_map,List.mem_range]at hv2;obtain⟨i,hi,rfl⟩:=hv2;have hs:0<z.cells.size:=by
     rcases Nat.eq_zero_or_pos z.cells.size with h0|h0
     . rw[h0]at hi;simp at hi
     . exact h0
    have:=Nat.mod_lt i hs;rw[getElem!_pos z.cells (i%z.cells.size) this];exact h1 _ zm
   have hle:n*size+0+vs.length<=cur.size:=by rw[hvl,h6];have:=Nat.mul_le_mul_right size hm;rw[Nat.add_mul]at this;omega
   have hst:=run_storeCells_at (P:=P) g (n*size) e vs 0 cur w hg hle uZ;obtain⟨k1,k2⟩:=ak6 h (n*size) vs (Nat.le_refl _) cur hg zo;refine⟨_,λty=>?_,k1,k2⟩;obtain⟨m',rfl⟩:∃m',m=m'+1:=⟨m-1,by omega⟩;simp[Builtin.clear_,run_underlying ht,hv,hvs,hst]
def Sl (a:Option Addr)(n cap:Nat):Prop:=n<=cap/\(a=none->cap=0)
theorem Sl.nil :Sl none 0 0:=⟨Nat.le_refl _,λ_=>rfl⟩
theorem Sl.some (x:Addr)(n cap:Nat)(h:n<=cap):Sl (some x) n cap:=⟨h,λe=>by cases e⟩
theorem vC {w:World}{base:Nat}{e:TypeId}{size n k cap:Nat}{a:Option Addr}{xs:List Value}(h:w.ownsRow base e size (.slice a k cap) n xs):Sl a k cap:=by
 rcases h.2 with⟨h1,_⟩ |⟨g,cap',cur,h1,hb,hg,h4,_⟩
 . simp only[Value.slice.injEq]at h1;obtain⟨rfl,rfl,rfl⟩:=h1;exact Sl.nil
 . simp only[Value.slice.injEq]at h1;obtain⟨rfl,rfl,rfl⟩:=h1;exact Sl.some _ _ _ h4
theorem ZW {P:Program}{w:World}{ops:Array Oper}{rest:List Oper}{o:Oper}{a:Act}{Q:Exit->Act->World->Prop}(hgd:o.guard=none)(s x:Operand)(t:TypeId)
 (ho:o.op=.call {callee:=.builtin .append,args:=#[s,x],argTypes:=#[t,t]})
 (base:Nat) (e:TypeId) (i:TypeInfo) (z:Value) (size bytes:Nat) (ht:P.underlying t=Option.some (.slice e)) (hi:P.info? e=Option.some i) (hz:i.zero=Option.some z)
 (hsize:i.size=size) (hby:i.bytes=bytes) (hzs:z.cells.size=size) (hsz:0<size)
 (v:Value) (n:Nat) (xs:List Value) (hs:a.eval s=v) (hown:w.ownsRow base e size v n xs)
 (aa:Option Addr) (m c:Nat) (news:List Value) (hx:a.eval x=.slice aa m c) (hsl:aa=none->m=0/\c=0) (hl:news.length=m*size) (hat:At w aa news) (h1:∀u∈news,u.oneCell'=true)
 (h63:n+m<=maxLen) (hbytes:(n+m) *bytes<=140737488355328) (hbase:base<=w.heap.size)
 (h:∀v' w',w'.ownsRow base e size v' (n+m) (xs++news)->w.grownBy w' v.ownBlock->(v'.ownBlock=v.ownBlock\/v'.ownBlock=Option.some w.heap.size)->wpList P ops Q rest (a.put o.dst v') w'):
 wpList P ops Q (o::rest) a w:=by
 cases aa with
 |none=>obtain⟨hm,hc⟩:=hsl rfl;subst hc;subst hm;have hn:news=[]:=List.eq_nil_of_length_eq_zero (by simpa using hl);subst hn;refine wpList_append_own_none hgd s x t ho base e i size ht hi v n xs hs hown hx ?_;exact h v w (by simpa using hown) (World.grownBy.refl _ _) (.inl rfl)
 | some ad=>
   refine wpList_append_own_at w hgd s x t ho base e i z size bytes ht hi hz hsize hby hzs hsz v n xs hs hown ad m c news hx hl ?_ h1 h63 hbytes hbase (λv' w' h2 h3 _ h5=>h v' w' h2 h3 h5);intro j u hj;rcases hat with h0|⟨b,o',e',hc⟩
   . subst h0;simp at hj
   . simp only[Option.some.injEq]at e';subst e';have hjl:=(List.getElem?_eq_some_iff.1 hj).1;have e2:((⟨b,o',none⟩:Addr).add j)=⟨b,o'+j,none⟩:=by unfold Addr.add;cases j<;>simp
     rw[e2,hc j hjl];exact hj
theorem rO {P:Program}{w:World}{ops:Array Oper}{rest:List Oper}{o:Oper}{a:Act}{Q:Exit->Act->World->Prop}(hgd:o.guard=none)(s x:Operand)(t:TypeId)
 (ho:o.op=.call {callee:=.builtin .append,args:=#[s,x],argTypes:=#[t,t]})
 (base:Nat) (e:TypeId) (i:TypeInfo) (z:Value) (size bytes:Nat) (ht:P.underlying t=Option.some (.slice e)) (hi:P.info? e=Option.some i) (hz:i.zero=Option.some z)
 (hsize:i.size=size) (hby:i.bytes=bytes) (hzs:z.cells.size=size) (hsz:0<size)
 (v:Value) (n:Nat) (xs:List Value) (hs:a.eval s=v) (hown:w.ownsRow base e size v n xs)
 (aa:Option Addr) (m c:Nat) (news:List Value) (hx:a.eval x=.slice aa m c) (hsl:Sl aa m c) (hl:news.length=m*size) (hat:At w aa news) (h1:∀u∈news,u.oneCell'=true)
 (h63:n+m<=maxLen) (hbytes:(n+m) *bytes<=140737488355328) (hbase:base<=w.heap.size)
 (h:∀v' w',w'.ownsRow base e size v' (n+m) (xs++news)->w.grownBy w' v.ownBlock->(v'.ownBlock=v.ownBlock\/v'.ownBlock=Option.some w.heap.size)->wpList P ops Q rest (a.put o.dst v') w'):
 wpList P ops Q (o::rest) a w:=
 ZW hgd s x t ho base e i z size bytes ht hi hz hsize hby hzs hsz v n xs hs hown aa m c news hx (λe=>⟨by have h1:=hsl.1;have h2:=hsl.2 e;omega,hsl.2 e⟩) hl hat h1 h63 hbytes hbase h
theorem At.cut {w:World}{a:Option Addr}{xs:List Value}{k cap size n:Nat}(h:At w a xs)(hl:xs.length=n*size)(hk:k<=n)(hc:n<=cap):At w (if cap=k then a else a.map (·.add (k*size))) (xs.drop (k*size)):=by
 rcases h with h0|⟨b,o,rfl,hcs⟩
 . subst h0;simp;exact .inl rfl
 . by_cases e:cap=k
   . have:xs.drop (k*size)=[]:=List.drop_of_length_le (by rw[hl];exact Nat.mul_le_mul_right _ zo);rw[this];exact .inl rfl
   . rw[if_neg e];have e2:((⟨b,o,none⟩:Addr).add (k*size))=⟨b,o+k*size,none⟩:=by unfold Addr.add;split<;>simp_all
     refine .inr ⟨b,o+k*size,by rw[Option.map_some,e2],λj hj=>?_⟩;rw[List.length_drop]at hj;rw[Nat.add_assoc,hcs _ zo,List.getElem?_drop]
theorem Sl.cut {a:Option Addr}{k cap size n:Nat}(h:Sl a n cap)(hk:k<=n):Sl (if cap=k then a else a.map (·.add (k*size))) (n-k) (cap-k):=by
 refine⟨by have:=h.1;omega,λe=>?_⟩;by_cases e1:cap=k
 . omega
 . rw[if_neg e1]at e
   have:=h.2 (by cases a with
    |none=>rfl
    |some x=>simp at e)
   omega
def Pc (w:World)(v:Value)(cZ:List Raw):Prop:=∃a cap,v=.slice a cZ.length cap/\At w a (cZ.flatMap bA)/\Sl a cZ.length cap
theorem Pc.below {w w':World}{v:Value}{cZ:List Raw}(h:Pc w v cZ)(hb:Bw w w'):Pc w' v cZ:=by obtain⟨a,cap,hv,ha,hs⟩:=h;exact⟨a,cap,hv,ha.below hb,hs⟩
def qN (w:World)(a:Option Addr)(rows:List (List Raw)):Prop:=∃vals:List Value,vals.length=rows.length/\At w a vals/\∀i (h:i<rows.length) (h':i<vals.length),Pc w vals[i] rows[i]
theorem qN.below {w w':World}{a:Option Addr}{rows:List (List Raw)}(h:qN w a rows)(hb:Bw w w'):qN w' a rows:=by obtain⟨vals,hl,ha,hp⟩:=h;exact⟨vals,hl,ha.below hb,λi h1 h2=>(hp i h1 h2).below hb⟩
theorem qN.tbl {w:World}{a:Option Addr}{rows:List (List Raw)}(h:qN w a rows):bj w a rows:=by obtain⟨vals,hl,ha,hp⟩:=h;refine⟨vals,hl,ha,λi h1 h2=>?_⟩;obtain⟨a',c',e1,e2,_⟩:=hp i h1 h2;exact⟨a',c',e1,e2⟩
theorem qN.row {w:World}{a:Option Addr}{rows:List (List Raw)}(h:qN w a rows)(k:Nat)(hk:k<rows.length):
 ∃b o a' cap',a=some ⟨b,o,none⟩/\w.cell? ⟨b,o+k,none⟩=some (.slice a' rows[k].length cap')/\At w a' (rows[k].flatMap bA)/\Sl a' rows[k].length cap':=by
 obtain⟨vals,hl,ha,hp⟩:=h;have hk2:k<vals.length:=by rw[hl];exact hk
 obtain⟨b,o,hab,hcs⟩:=ha.get (by intro h0;rw[h0]at hk2;simp at hk2);obtain⟨a',cap',hv,hat,hs⟩:=hp k hk hk2;exact⟨b,o,a',cap',hab,by rw[hcs k hk2,List.getElem?_eq_getElem hk2,hv],hat,hs⟩
theorem Ih (cZ:List Raw):∀u∈cZ.flatMap bA,u.oneCell'=true:=by intro u hu;obtain⟨r,_,hr⟩:=List.mem_flatMap.1 hu;simp only[bA,List.mem_cons,List.not_mem_nil,or_false]at hr;rcases hr with rfl|rfl|rfl<;>rfl
theorem adY {P:Program}(t tx ty:TypeId)(e e':TypeId)(ht:P.underlying t=some (.slice e))(hx:P.underlying tx=some (.slice e'))(u v:Value)(w:World):(Builtin.append_ #[t,tx] ty #[u,v]).run P w=(Builtin.append_ #[t,t] ty #[u,v]).run P w:=by unfold Builtin.append_;cases u<;>simp[Sem.run_bind,run_underlying ht,run_underlying hx]
theorem ZX {P:Program}{w:World}{o:Oper}{a:Act}{K:Act->World->Prop}{Q:Exit->Act->World->Prop}(s x:Operand)(t tx:TypeId)(e':TypeId)(htx:P.underlying tx=some (.slice e'))
 (ho:o.op=.call {callee:=.builtin .append,args:=#[s,x],argTypes:=#[t,tx]})
 (base:Nat) (e:TypeId) (i:TypeInfo) (z:Value) (size bytes:Nat) (ht:P.underlying t=Option.some (.slice e)) (hi:P.info? e=Option.some i) (hz:i.zero=Option.some z)
 (hsize:i.size=size) (hby:i.bytes=bytes) (hzs:z.cells.size=size) (hsz:0<size)
 (v:Value) (n:Nat) (xs:List Value) (hs:a.eval s=v) (hown:w.ownsRow base e size v n xs)
 (aa:Option Addr) (m c:Nat) (news:List Value) (hx:a.eval x=.slice aa m c) (hsl:Sl aa m c) (hl:news.length=m*size) (hat:At w aa news) (h1:∀u∈news,u.oneCell'=true)
 (h63:n+m<=maxLen) (hbytes:(n+m) *bytes<=140737488355328) (hbase:base<=w.heap.size)
 (h:∀v' w',w'.ownsRow base e size v' (n+m) (xs++news)->w.grownBy w' v.ownBlock->(v'.ownBlock=v.ownBlock\/v'.ownBlock=Option.some w.heap.size)->K (a.put o.dst v') w'):o.wp P a w K Q:=by
 have key:∃v' w',(Builtin.append_ #[t,tx] o.type #[v,.slice aa m c]).run P w=.ok v' w'/\w'.ownsRow base e size v' (n+m) (xs++news)/\w.grownBy w' v.ownBlock/\(v'.ownBlock=v.ownBlock\/v'.ownBlock=Option.some w.heap.size):=by
  rw[adY t tx o.type e e' ht htx];cases aa with
  | none=>
    have hc:=hsl.2 rfl;have hm:m=0:=by have:=hsl.1;omega
    subst hc;subst hm;have hn:news=[]:=List.eq_nil_of_length_eq_zero (by simpa using hl);subst hn;exact⟨v,w,run_append_owned_none (P:=P) (w:=w) base t o.type e i size ht hi v n xs hown,by simpa using hown,World.grownBy.refl _ _,.inl rfl⟩
  | some ad=>
    obtain⟨v',w',hr,h2,h3,_,h5⟩:=run_append_own_at (P:=P) w base t o.type e i z size bytes ht hi hz hsize hby hzs hsz v n xs hown ad m c news hl (by
     intro j u hj;rcases hat with h0|⟨b,o',Tk,hc⟩
     . subst h0;simp at hj
     . simp only[Option.some.injEq]at Tk;subst Tk;have hjl:=(List.getElem?_eq_some_iff.1 hj).1;have e2:((⟨b,o',none⟩:Addr).add j)=⟨b,o'+j,none⟩:=by unfold Addr.add;cases j<;>simp
       rw[e2,hc j hjl];exact hj) h1 h63 hbytes hbase
    exact⟨v',w',hr,h2,h3,h5⟩
 obtain⟨v',w',hr,h2,h3,h5⟩:=key;unfold Oper.wp execOp;simp only[ho,resolve,invoke,builtin,Sem.run_bind,Sem.run_pure,Result.andThen_ok,List.map_toArray,List.map_cons,List.map_nil,hs,hx,hr];exact h v' w' h2 h3 h5
theorem ZV {P:Program}{w:World}{ops:Array Oper}{rest:List Oper}{o:Oper}{a:Act}{Q:Exit->Act->World->Prop}(hgd:o.guard=none)(s x:Operand)(t tx:TypeId)(e':TypeId)(htx:P.underlying tx=some (.slice e'))
 (ho:o.op=.call {callee:=.builtin .append,args:=#[s,x],argTypes:=#[t,tx]})
 (base:Nat) (e:TypeId) (i:TypeInfo) (z:Value) (size bytes:Nat) (ht:P.underlying t=Option.some (.slice e)) (hi:P.info? e=Option.some i) (hz:i.zero=Option.some z)
 (hsize:i.size=size) (hby:i.bytes=bytes) (hzs:z.cells.size=size) (hsz:0<size)
 (v:Value) (n:Nat) (xs:List Value) (hs:a.eval s=v) (hown:w.ownsRow base e size v n xs)
 (aa:Option Addr) (m c:Nat) (news:List Value) (hx:a.eval x=.slice aa m c) (hsl:Sl aa m c) (hl:news.length=m*size) (hat:At w aa news) (h1:∀u∈news,u.oneCell'=true)
 (h63:n+m<=maxLen) (hbytes:(n+m) *bytes<=140737488355328) (hbase:base<=w.heap.size)
 (h:∀v' w',w'.ownsRow base e size v' (n+m) (xs++news)->w.grownBy w' v.ownBlock->(v'.ownBlock=v.ownBlock\/v'.ownBlock=Option.some w.heap.size)->wpList P ops Q rest (a.put o.dst v') w'):wpList P ops Q (o::rest) a w:=
 wpList_plain hgd λ_ hK=>ZX s x t tx e' htx ho base e i z size bytes ht hi hz hsize hby hzs hsz v n xs hs hown aa m c news hx hsl hl hat h1 h63 hbytes hbase λv' w' h2 h3 h5=>hK _ _ (h v' w' h2 h3 h5)
end Go.Proofs.YtdaadlblknpipaaGreatDoor
namespace Go.Proofs.YtdaadlblknpipaaGreatDoor
open Go.RowKit
attribute [local go_sem ↓] Go.wp_at_zero Go.wp_at_succ
theorem Tryz.arL :(Tryz.prog.info? 107).map (λi=>(i.zero,i.size,i.bytes))=some (some (.agg #[.string (bs []),.bool false,.string (bs []),.int .i64 0]),4,48):=by kernel_rfl
theorem ll (ts:List aK):(ts.flatMap aM).length=ts.length*4:=iI aM 4 (λ_=>rfl) ts
theorem rL (ts:List aK):∀u∈ts.flatMap aM,u.oneCell'=true:=by intro u hu;obtain⟨r,_,hr⟩:=List.mem_flatMap.1 hu;simp only[aM,List.mem_cons,List.not_mem_nil,or_false]at hr;rcases hr with rfl|rfl|rfl|rfl<;>rfl
theorem OZ (t:aK)(ts:List aK):(t::ts).flatMap aM=aM t++ts.flatMap aM:=List.flatMap_cons
theorem At.tail {w:World}{b o c:Nat}{x:aK}{ts:List aK}(h:At w (some ⟨b,o,none⟩) ((x::ts).flatMap aM))(hc:ts.length+1<=c):At w (if c=1 then some ⟨b,o,none⟩else some ⟨b,o+4,none⟩) (ts.flatMap aM):=by
 have hk:=At.cut (k:=1) (size:=4) (n:=ts.length+1) (cap:=c) h (by rw[ll];rfl) zo hc;have e:((x::ts).flatMap aM).drop (1*4)=ts.flatMap aM:=by rw[OZ];rfl
 rw[e]at hk;exact hk
theorem Sl.tail {b o c n:Nat}(h:Sl (Option.some ⟨b,o,none⟩) (n+1) c):Sl (if c=1 then Option.some (⟨b,o,none⟩:Addr)else Option.some ⟨b,o+4,none⟩) n (c-1):=by refine⟨by have:=h.1;omega,λe=>?_⟩;split at e<;>cases e
theorem amI (l l':List UInt8):(tP l l'= -1/\Op.bytesLess l l'=true)\/(tP l l'=1/\Op.bytesLess l l'=false/\Op.bytesLess l' l=true)\/(tP l l'=0/\Op.bytesLess l l'=false/\Op.bytesLess l' l=false):=by
 unfold tP;cases h1:Op.bytesLess l l' with
 |true=>exact .inl ⟨by simp,rfl⟩
 | false=>
   cases h2:Op.bytesLess l' l with
   |true=>exact .inr (.inl ⟨by simp,rfl,rfl⟩)
   |false=>exact .inr (.inr ⟨by simp,rfl,rfl⟩)
theorem Ya (a:Option Addr)(n cap:Nat)(ta:List aK)(a':Option Addr)(n' cap':Nat)(tb:List aK)(B:Nat)(w:World)(hn:ta.length=n)(hn':tb.length=n')(hs:Sl a n cap)(hs':Sl a' n' cap')(hl:n<=65536)(hl':n'<=65536)(ha:At w a (ta.flatMap aM))(ha':At w a' (tb.flatMap aM))
 (uJ:∀t∈ta,Fit B t.2) (uK:∀t∈tb,Fit B t.2) (hB:B+2<=268435456) (hT:az w):
 Calls Tryz.prog 99 #[.slice a n cap,.slice a' n' cap',.func (.func 100) #[] #[],.func (.func 101) #[] #[]] w λe w'=>∃v',e=.returned v'/\w'.ownsRow w.heap.size 107 4 v' (fV ta tb).length ((fV ta tb).flatMap aM)/\Bw w w':=by
 obtain⟨i0,hi,hz0,hz1,hz2⟩:=info_parts Tryz.arL;obtain⟨M,hM⟩:=aB (fV ta tb);have BV:=enters_of Tryz.func100 zk rfl;have BU:=enters_of Tryz.func101 zk rfl;rw[hM];obtain⟨Hi,cX,cN,cO,HM,Jx,Jw,Hs,Rq,Ha,qF,AY⟩:=gY hi hz0 hz1 hz2 hM BV BU hs hs' ha ha' uJ;obtain⟨AZ,HT,Hn,QX⟩:=dH uK hT hn hn';obtain⟨N,hN⟩:=aB (n+n');have Uc:(n:Int)+(n':Int)=(N:Int):=by omega
 have HN:=ah hN;clear hi hz0 hz1 hz2 hM BV BU hs hs' ha ha' uJ uK hT hn hn' hN;have hN1:N<=131072:=by have:=HN.out;omega
 go_enter Tryz.func99,Tryz.ntmps99;go_wp2_with (at_make;refine wpList_make_own _ rfl _ _ 55 rfl w.heap.size 107 i0 _ 4 Tryz.underlying55 Hi.out cX.out cN.out _ _ _ N rfl rfl (by first|exact Uc|rfl) (by rw[cO.out];omega) zx (Nat.le_refl _) ?_;intro w1 hown hgrow);obtain⟨hb1,mY⟩:=aL ((Below.refl w.heap.size w).grown hgrow (Nat.le_refl _) (by intro k hk;cases hk)) hown;clear hown hgrow Uc
 go_loopw[0,1,9] (λva vb vo wr=>∃(ra rb acc:List aK) (p q ca cb:Nat) (aa ab:Option Addr) (v:Value),v=vo/\va=.slice aa p ca/\vb=.slice ab q cb/\ra.length=p/\rb.length=q/\Sl aa p ca/\Sl ab q cb/\At w aa (ra.flatMap aM)/\At w ab (rb.flatMap aM)/\
  (∀t∈ra,Fit B t.2)/\(∀t∈rb,Fit B t.2)/\wr.ownsRow w.heap.size 107 4 v acc.length (acc.flatMap aM)/\acc.length+p+q<=N/\acc++fV ra rb=M/\Bw w wr) (λva vb _ _=>(vp va+vp vb).toNat)
 case atStart=>exact⟨ta,tb,[],n,n',cap,cap',a,a',_,rfl,rfl,rfl,Hn.out,QX.out,Hs.out,Rq.out,Ha.out,qF.out,AY.out,AZ.out,mY.out,by rw[<-HN.out];simp,by simpa using HM.out,hb1.out⟩
 case round=>
  clear hb1 mY Ha qF Hs Rq AY AZ Hn QX HM;obtain⟨ra,rb,acc,p,q,ca,cb,aa,ab,v,rfl,rfl,rfl,sZ,qo,hsa,xt,hat,hat',uJ,uK,hov,hlen,hM,pb⟩:=hrel;by_cases hpq:0<p/\0<q
  . obtain ⟨hp,hq⟩:=hpq;obtain⟨x,ra,rfl⟩:∃x l,ra=x::l:=by cases ra with
     |nil=>simp at sZ;omega
     |cons x l=>exact⟨x,l,rfl⟩
    obtain⟨y,rb,rfl⟩:∃x l,rb=x::l:=by cases rb with
     |nil=>simp at qo;omega
     |cons x l=>exact⟨x,l,rfl⟩
    obtain⟨l,s,m,e⟩:=x;obtain⟨l',s',m',e'⟩:=y;obtain⟨p,rfl⟩:∃p',p=p'+1:=⟨p-1,by omega⟩;obtain⟨q,rfl⟩:∃q',q=q'+1:=⟨q-1,by omega⟩;have dc:=uJ (l,s,m,e) zm;have jI:=uK (l',s',m',e') zm;have Vm:∀t∈ra,Fit B t.2:=λt ht=>uJ t (by simp[ht]);have Vn:∀t∈rb,Fit B t.2:=λt ht=>uK t (by simp[ht]);obtain⟨b1,o1,rfl,hw1⟩:=(hat.below pb).term 0 zm rfl;obtain⟨b2,o2,rfl,hw2⟩:=(hat'.below pb).term 0 zm rfl;simp only[Nat.zero_mul,Nat.add_zero]at hw1 hw2;have kY:b1<w.heap.size:=hat.lt (by rw[OZ];simp[aM]);have iO:b2<w.heap.size:=hat'.lt (by rw[OZ];simp[aM]);have WP:=hat.tail (c:=ca) (by have:=hsa.1;simp at sZ;omega);have ku:=hat'.tail (c:=cb) (by have:=xt.1;simp at qo;omega);have WK:=hsa.tail;have WL:=xt.tail;have xz:=jg (p+1) ca 0 0 (rfl:(some ⟨b1,o1,none⟩:Option Addr)=_) zo rfl;have GX:=jg (q+1) cb 0 0 (rfl:(some ⟨b2,o2,none⟩:Option Addr)=_) zo rfl;rw[Nat.zero_mul,Nat.add_zero]at xz GX;have hca:p+1<=ca:=hsa.1;have hcb:q+1<=cb:=xt.1;have Kb:Hid (ra.length=p):=by show _=_;simpa using sZ
    have Kc:Hid (rb.length=q):=by show _=_;simpa using qo
    obtain⟨Ke,Kf,Rx,Ry,Rz,qJ,fD,Jh,fI,lD,AY,AZ⟩:=gY hsa xt WK WL WP ku hat hat' dc jI Vm Vn;obtain⟨abE,abF,cH,HM,aQ,lA⟩:=iz uJ uK hov hM pb (HT.out.below pb);have Hx:Hid (aY wr b1 o1 [.string (bs l),.bool s,.string (bs m),.int .i64 e]):=hw1;have Hy:Hid (aY wr b2 o2 [.string (bs l'),.bool s',.string (bs m'),.int .i64 e']):=hw2;have Wx:=sZ;have Wy:=qo;simp only[List.length_cons]at Wx Wy;clear sZ qo hsa xt hat hat' uJ uK hov hM pb dc jI Vm Vn hw1 hw2 WP ku WK WL Wx Wy;have Hb:Hid (Bw wr wr):=Below.refl _ _;have Lg:=Jx.out;have iG:=aQ.out.size;obtain⟨gs,CE⟩:∃g,tP l l'=g:=⟨_,rfl⟩;have Na:=λW=>amJ l s m e l' s' m' e' W;have hcs:=amI l l';rw[CE]at Na hcs;obtain⟨Rt,Qw⟩:=aL Na hcs;clear Na hcs CE;go_wp2_with fail;obtain⟨x0,x1,x2,x3⟩:=Hx.out.w4;obtain⟨y0,y1,y2,y3⟩:=Hy.out.w4;have HU:Hid (az wr):=lA.out;refine bC (λw'=>w'.cell? ⟨b1,o1,none⟩=some (.string (bs l))/\w'.cell? ⟨b1,o1+1,none⟩=some (.bool s)/\w'.cell? ⟨b1,o1+2,none⟩=some (.string (bs m))/\w'.cell? ⟨b1,o1+3,none⟩=some (.int .i64 e)/\w'.cell? ⟨b2,o2,none⟩=some (.string (bs l'))/\w'.cell? ⟨b2,o2+1,none⟩=some (.bool s')/\w'.cell? ⟨b2,o2+2,none⟩=some (.string (bs m'))/\w'.cell? ⟨b2,o2+3,none⟩=some (.int .i64 e')) (λi=>Nat.blt i 100000) [(0,true),(1,true),(2,true),(3,true),(4,true),(5,true),(6,true),(7,false),(8,true)] zk zk rfl zk zc ⟨x0,x1,x2,x3,y0,y1,y2,y3⟩ ?_;iterate 7 (refine pT rfl rfl ?_ (by intro w' ⟨q0,q1,q2,q3,q4,q5,q6,q7⟩;go_simp;try with_reducible rfl);try simp only[UU])
    refine aI rfl rfl (λK hK=>?_);go_simp;with_reducible refine(Rt.out _).mono ?_
    rintro e w2 ⟨rfl,hq⟩;have ae:Bw wr w2:=by first|exact hq|exact aN hq
    clear x0 x1 x2 x3 y0 y1 y2 y3;replace Hx:=kW Hx ae;replace Hy:=kW Hy ae;replace HU:=kT HU ae;obtain⟨x0,x1,x2,x3⟩:=Hx.out.w4;obtain⟨y0,y1,y2,y3⟩:=Hy.out.w4;replace Hb:=au Hb ae;clear ae;refine hK _ _ (λ_=>⟨x0,x1,x2,x3,y0,y1,y2,y3⟩) ?_;clear hK K;try simp only[UU]
    refine pT rfl rfl ?_;try simp only[UU]
    simp only[aS];have hcs:=Qw.out;have hp1:(1:Int)<=(p:Int)+1:=by omega
    have hq1:(1:Int)<=(q:Int)+1:=by omega
    clear Qw Rt Lg;rcases hcs with⟨rfl,h1⟩ |⟨rfl,h1,h2⟩ |⟨rfl,h1,h2⟩
    . have vO:Hid ((acc++[(l,s,m,e)])++fV ra ((l',s',m',e')::rb)=M):=by
       show _=_
       rw[<-HM.out,tL,if_pos h1];simp
      have vM:Hid ((acc++[(l,s,m,e)]).flatMap aM=acc.flatMap aM++[.string (bs l),.bool s,.string (bs m),.int .i64 e]):=by
       show _=_
       rw[List.flatMap_append];rfl
      clear h1;go_wp2_with fail;refine bC (λw'=>w'.cell? ⟨b1,o1,none⟩=some (.string (bs l))/\w'.cell? ⟨b1,o1+1,none⟩=some (.bool s)/\w'.cell? ⟨b1,o1+2,none⟩=some (.string (bs m))/\w'.cell? ⟨b1,o1+3,none⟩=some (.int .i64 e)) (λi=>Nat.blt i 100000) [(0,true),(1,true),(2,true),(3,true),(6,true),(7,true),(4,false),(5,false),(8,true),(9,true)] zk zk rfl zk zc ⟨x0,x1,x2,x3⟩ ?_;iterate 6 (refine pT rfl rfl ?_ (by intro w' ⟨q0,q1,q2,q3⟩;go_simp;try with_reducible rfl);try simp only[UU])
      refine aI rfl rfl (λK hK=>?_);go_simp;refine hK _ _ (λ_=>⟨aG x0,aG x1,aG x2,aG x3⟩) ?_;clear hK K;try simp only[UU]
      refine bF (λW3=>ai W3 (w2.heap.size) 107 [.string (bs l),.bool s,.string (bs m),.int .i64 e]/\Bw w2 W3) (by first|exact dL|exact dM) ?_;rintro W3 ⟨qc,ae⟩;clear x0 x1 x2 x3 y0 y1 y2 y3;replace Hx:=kW Hx ae;replace Hy:=kW Hy ae;replace HU:=kT HU ae;have Hc:=ah qc;clear qc;obtain⟨x0,x1,x2,x3⟩:=Hx.out.w4;obtain⟨y0,y1,y2,y3⟩:=Hy.out.w4;obtain⟨c0,c1,c2,c3⟩:=Hc.out.c4;replace Hb:=au Hb ae;clear ae;refine aI rfl rfl (λK hK=>?_);have dZ:=ownsRow_below cH.out Hb.out;have hs3:=Hb.out.size;refine wp_append_own _ _ _ 55 rfl w.heap.size 107 i0 _ 4 48 Tryz.underlying55 Hi.out cX.out cN.out cO.out rfl zd v acc.length (acc.flatMap aM) rfl dZ ⟨w2.heap.size,0,none⟩ 1 1 [.string (bs l),.bool s,.string (bs m),.int .i64 e] rfl rfl (gW Hc.out) zy zx zo zo ?_;intro v' w8 dP bi _;have nb:∀b,b<w.heap.size->some b≠v.ownBlock:=λb hb e=>by have:=dt dZ b e.symm;omega
      refine hK _ _ (λ_=>⟨bU bi x0 (nb _ kY),bU bi x1 (nb _ kY),bU bi x2 (nb _ kY),bU bi x3 (nb _ kY)⟩) ?_;clear hK K;try simp only[UU]
      iterate 2 (refine pT rfl rfl ?_;try simp only[UU])
      simp only[aS];have vT:=ah ((aJ aQ.out Hb.out).grown bi zo (λj e=>dt dZ j e));have ig:Hid (w8.ownsRow w.heap.size 107 4 v' (acc++[(l,s,m,e)]).length ((acc++[(l,s,m,e)]).flatMap aM)):=by
       show w8.ownsRow _ _ _ _ _ _
       rw[vM.out,List.length_append];exact dP
      clear nb dZ dP bi x0 x1 x2 x3 y0 y1 y2 y3 c0 c1 c2 c3 xz GX;go_wp2;go_roundw;case rel=>exact⟨ra,((l',s',m',e')::rb),acc++[(l,s,m,e)],p,(q+1),_,_,_,_,v',rfl,rfl,rfl,Kb.out,(by have:=Kc.out;simp;exact this),Rx.out,Kf.out,Rz.out,Jh.out,AY.out,abF.out,ig.out,by simp;omega,vO.out,vT.out⟩
      case measure=>simp[vp];omega
    ·
     have vO:Hid ((acc++[(l',s',m',e')])++fV ((l,s,m,e)::ra) rb=M):=by
      show _=_
      rw[<-HM.out,tL,if_neg (by rw[h1];decide),if_pos h2];simp
     have vM:Hid ((acc++[(l',s',m',e')]).flatMap aM=acc.flatMap aM++[.string (bs l'),.bool s',.string (bs m'),.int .i64 e']):=by
      show _=_
      rw[List.flatMap_append];rfl
     clear h1 h2
     go_wp2_with fail
     refine bC (λw'=>w'.cell? ⟨b2,o2,none⟩=some (.string (bs l'))/\w'.cell? ⟨b2,o2+1,none⟩=some (.bool s')/\w'.cell? ⟨b2,o2+2,none⟩=some (.string (bs m'))/\w'.cell? ⟨b2,o2+3,none⟩=some (.int .i64 e')) (λi=>Nat.blt i 100000) [(0,true),(1,true),(2,true),(3,true),(6,true),(7,true),(4,false),(5,false),(8,true),(9,true)] zk zk rfl zk zc ⟨y0,y1,y2,y3⟩ ?_
     iterate 6 (refine pT rfl rfl ?_ (by intro w' ⟨q0,q1,q2,q3⟩;go_simp;try with_reducible rfl);try simp only[UU])
     refine aI rfl rfl (λK hK=>?_)
     go_simp
     refine hK _ _ (λ_=>⟨aG y0,aG y1,aG y2,aG y3⟩) ?_;clear hK K
     try simp only[UU]
     refine bF (λW3=>ai W3 (w2.heap.size) 107 [.string (bs l'),.bool s',.string (bs m'),.int .i64 e']/\Bw w2 W3) (by first|exact dL|exact dM) ?_
     rintro W3 ⟨qc,ae⟩
     clear x0 x1 x2 x3
     clear y0 y1 y2 y3
     replace Hx:=kW Hx ae
     replace Hy:=kW Hy ae
     replace HU:=kT HU ae
     have Hc:=ah qc;clear qc
     obtain⟨x0,x1,x2,x3⟩:=Hx.out.w4
     obtain⟨y0,y1,y2,y3⟩:=Hy.out.w4
     obtain⟨c0,c1,c2,c3⟩:=Hc.out.c4
     replace Hb:=au Hb ae;clear ae
     refine aI rfl rfl (λK hK=>?_)
     have dZ:=ownsRow_below cH.out Hb.out
     have hs3:=Hb.out.size
     refine wp_append_own _ _ _ 55 rfl w.heap.size 107 i0 _ 4 48 Tryz.underlying55 Hi.out cX.out cN.out cO.out rfl zd v acc.length (acc.flatMap aM) rfl dZ ⟨w2.heap.size,0,none⟩ 1 1 [.string (bs l'),.bool s',.string (bs m'),.int .i64 e'] rfl rfl (gW Hc.out) zy zx zo zo ?_
     intro v' w8 dP bi _
     have nb:∀b,b<w.heap.size->some b≠v.ownBlock:=λb hb e=>by have:=dt dZ b e.symm;omega
     refine hK _ _ (λ_=>⟨bU bi y0 (nb _ iO),bU bi y1 (nb _ iO),bU bi y2 (nb _ iO),bU bi y3 (nb _ iO)⟩) ?_;clear hK K
     try simp only[UU]
     iterate 2 (refine pT rfl rfl ?_;try simp only[UU])
     simp only[aS]
     have vT:=ah ((aJ aQ.out Hb.out).grown bi zo (λj e=>dt dZ j e))
     have ig:Hid (w8.ownsRow w.heap.size 107 4 v' (acc++[(l',s',m',e')]).length ((acc++[(l',s',m',e')]).flatMap aM)):=by
      show w8.ownsRow _ _ _ _ _ _
      rw[vM.out,List.length_append];exact dP
     clear nb dZ dP bi x0 x1 x2 x3 y0 y1 y2 y3 c0 c1 c2 c3 xz GX
     go_wp2
     go_roundw
     case rel=>exact⟨((l,s,m,e)::ra),rb,acc++[(l',s',m',e')],(p+1),q,_,_,_,_,v',rfl,rfl,rfl,(by have:=Kb.out;simp;exact this),Kc.out,Ke.out,Ry.out,fD.out,qJ.out,abE.out,AZ.out,ig.out,by simp;omega,vO.out,vT.out⟩
     case measure=>simp[vp];omega
    ·
     obtain⟨S,hS⟩:=aB (aC (s,m,e)+aC (s',m',e'))
     have HS:=ah hS
     have vO:Hid ((acc++[(l,canon S)])++fV ra rb=M):=by
      show _=_
      rw[<-HM.out,tL,if_neg (by rw[h1];decide),if_neg (by rw[h2];decide)];simp;rw[<-hS];rfl
     have vM:Hid ((acc++[(l,canon S)]).flatMap aM=acc.flatMap aM++[.string (bs l),.bool (ar (dN S)),.string (bs (nt (dN S).natAbs)),.int .i64 (dE S)]):=by
      show _=_
      rw[List.flatMap_append];rfl
     clear h1 h2 hS
     have FL:=Jw.out
     go_wp2_with fail
     refine bC (λw'=>w'.cell? ⟨b1,o1,none⟩=some (.string (bs l))/\w'.cell? ⟨b1,o1+1,none⟩=some (.bool s)/\w'.cell? ⟨b1,o1+2,none⟩=some (.string (bs m))/\w'.cell? ⟨b1,o1+3,none⟩=some (.int .i64 e)/\w'.cell? ⟨b2,o2,none⟩=some (.string (bs l'))/\w'.cell? ⟨b2,o2+1,none⟩=some (.bool s')/\w'.cell? ⟨b2,o2+2,none⟩=some (.string (bs m'))/\w'.cell? ⟨b2,o2+3,none⟩=some (.int .i64 e')) (λi=>Nat.blt i 100000) [(0,true),(1,true),(2,true),(3,true),(4,true),(5,true),(6,true),(7,true),(11,true),(12,true),(13,true),(14,true),(8,false),(9,false),(10,false),(15,true),(16,true),(17,true)] zk zk rfl zk zc ⟨x0,x1,x2,x3,y0,y1,y2,y3⟩ ?_
     iterate 12 (refine pT rfl rfl ?_ (by intro w' ⟨q0,q1,q2,q3,q4,q5,q6,q7⟩;go_simp;try with_reducible rfl);try simp only[UU])
     refine aI rfl rfl (λK hK=>?_)
     go_simp
     with_reducible refine(amZ l s m e l' s' m' e' S B HS.out _ fI.out lD.out hB (by first|exact HU.out|exact az.drew HU.out|exact az.alloc HU.out _|exact az.drew (az.alloc HU.out _) |exact az.alloc (az.drew HU.out) _)).mono ?_
     rintro e w4 ⟨rfl,hq⟩
     have ae:Bw w2 w4:=by first|exact hq|exact aN hq
     clear x0 x1 x2 x3
     clear y0 y1 y2 y3
     replace Hx:=kW Hx ae
     replace Hy:=kW Hy ae
     replace HU:=kT HU ae
     obtain⟨x0,x1,x2,x3⟩:=Hx.out.w4
     obtain⟨y0,y1,y2,y3⟩:=Hy.out.w4
     replace Hb:=au Hb ae;clear ae
     refine hK _ _ (λ_=>⟨x0,x1,x2,x3,y0,y1,y2,y3⟩) ?_;clear hK K
     try simp only[UU]
     refine aI rfl rfl (λK hK=>?_)
     go_simp
     refine hK _ _ (λ_=>⟨aG x0,aG x1,aG x2,aG x3,aG y0,aG y1,aG y2,aG y3⟩) ?_;clear hK K
     try simp only[UU]
     refine bF (λW5=>ai W5 (w4.heap.size) 107 [.string (bs l),.bool (ar (dN S)),.string (bs (nt (dN S).natAbs)),.int .i64 (dE S)]/\Bw w4 W5) (by first|exact dL|exact dM) ?_
     rintro W5 ⟨qc,ae⟩
     clear x0 x1 x2 x3
     clear y0 y1 y2 y3
     replace Hx:=kW Hx ae
     replace Hy:=kW Hy ae
     replace HU:=kT HU ae
     have Hc:=ah qc;clear qc
     obtain⟨x0,x1,x2,x3⟩:=Hx.out.w4
     obtain⟨y0,y1,y2,y3⟩:=Hy.out.w4
     obtain⟨c0,c1,c2,c3⟩:=Hc.out.c4
     replace Hb:=au Hb ae;clear ae
     refine aI rfl rfl (λK hK=>?_)
     have dZ:=ownsRow_below cH.out Hb.out
     have hs3:=Hb.out.size
     refine wp_append_own _ _ _ 55 rfl w.heap.size 107 i0 _ 4 48 Tryz.underlying55 Hi.out cX.out cN.out cO.out rfl zd v acc.length (acc.flatMap aM) rfl dZ ⟨w4.heap.size,0,none⟩ 1 1 [.string (bs l),.bool (ar (dN S)),.string (bs (nt (dN S).natAbs)),.int .i64 (dE S)] rfl rfl (gW Hc.out) zy zx zo zo ?_
     intro v' w8 dP bi _
     have nb:∀b,b<w.heap.size->some b≠v.ownBlock:=λb hb e=>by have:=dt dZ b e.symm;omega
     refine hK _ _ (λ_=>⟨bU bi x0 (nb _ kY),bU bi x1 (nb _ kY),bU bi x2 (nb _ kY),bU bi x3 (nb _ kY),bU bi y0 (nb _ iO),bU bi y1 (nb _ iO),bU bi y2 (nb _ iO),bU bi y3 (nb _ iO)⟩) ?_;clear hK K
     try simp only[UU]
     iterate 3 (refine pT rfl rfl ?_;try simp only[UU])
     simp only[aS]
     have vT:=ah ((aJ aQ.out Hb.out).grown bi zo (λj e=>dt dZ j e))
     have ig:Hid (w8.ownsRow w.heap.size 107 4 v' (acc++[(l,canon S)]).length ((acc++[(l,canon S)]).flatMap aM)):=by
      show w8.ownsRow _ _ _ _ _ _
      rw[vM.out,List.length_append];exact dP
     clear nb dZ dP bi x0 x1 x2 x3 y0 y1 y2 y3 c0 c1 c2 c3 xz GX
     go_wp2
     go_roundw
     case rel=>exact⟨ra,rb,acc++[(l,canon S)],p,q,_,_,_,_,v',rfl,rfl,rfl,Kb.out,Kc.out,Rx.out,Ry.out,Rz.out,qJ.out,AY.out,AZ.out,ig.out,by simp;omega,vO.out,vT.out⟩
     case measure=>simp[vp];omega
  . have hmr:fV ra rb=ra++rb:=by
     have:p=0\/q=0:=by omega
     rcases this with rfl|rfl
     . rw[List.eq_nil_of_length_eq_zero sZ,xI];rfl
     . rw[List.eq_nil_of_length_eq_zero qo,xJ];simp
    have TZ:M.length=acc.length+p+q:=by rw[<-hM,hmr];simp[sZ,qo];omega
    have vM:Hid (M.flatMap aM=(acc.flatMap aM++ra.flatMap aM)++rb.flatMap aM):=by
     show _=_
     rw[<-hM,hmr,<-List.append_assoc,List.flatMap_append,List.flatMap_append]
    have hlr:(ra.flatMap aM).length=p*4:=by rw[ll,sZ]
    have VU:(rb.flatMap aM).length=q*4:=by rw[ll,qo]
    have kO:=hat.below pb;have apy:=hlen;obtain⟨EH,ab9,jU,fD,cH,aQ,Ke,Kf,HML⟩:=XC hlr VU kO hat' hov pb hsa xt TZ;clear sZ qo hmr hlr VU hat hat' kO hov pb hsa xt hM uJ uK TZ;have hsz:=aQ.out.size;by_cases h0:0<p
    all_goals
     go_wp2_with (first| (at_builtin;refine rO rfl (.tmp 70) (.tmp 71) 55 rfl w.heap.size 107 i0 _ 4 48 Tryz.underlying55 Hi.out cX.out cN.out cO.out rfl zd v acc.length (acc.flatMap aM) rfl cH.out aa p ca (ra.flatMap aM) rfl Ke.out EH.out jU.out (rL ra) zx zo hsz ?_;intro v1 w2 df hg1 hb1) | (at_builtin;refine rO rfl (.tmp 72) (.tmp 73) 55 rfl w.heap.size 107 i0 _ 4 48 Tryz.underlying55 Hi.out cX.out cN.out cO.out rfl zd v1 (acc.length+p) (acc.flatMap aM++ra.flatMap aM) rfl df ab q cb (rb.flatMap aM) rfl Kf.out ab9.out (fD.out.below (aQ.out.grown hg1 hsz (λj e=>dt cH.out j e))) (rL rb) zx zo (Nat.le_trans hsz hg1.size) ?_;intro v2 w3 eF hg2 hb2))
     go_ret
     refine⟨v2,rfl,?_,(aQ.out.grown hg1 hsz (λj e=>dt cH.out j e)).grown hg2 (Nat.le_trans hsz hg1.size) (λj e=>dt df j e)⟩
     rw[HML.out,vM.out];exact eF
end Go.Proofs.YtdaadlblknpipaaGreatDoor
namespace Go.Proofs.YtdaadlblknpipaaGreatDoor
open Go.RowKit
theorem ani (ts:List aK)(i:Nat)(hi:i<ts.length)(t:aK):(((((ts.flatMap aM).set (i*4) (.string (bs t.1))).set (i*4+1) (.bool t.2.1)).set (i*4+2) (.string (bs t.2.2.1))).set (i*4+3) (.int .i64 t.2.2.2))=(ts.set i t).flatMap aM:=by
 induction ts generalizing i with
 |nil=>simp at hi
 | cons x ts ih=>
   have e:∀(y:aK) zs,(y::zs).flatMap aM=.string (bs y.1)::.bool y.2.1::.string (bs y.2.2.1)::.int .i64 y.2.2.2::zs.flatMap aM:=λy zs=>rfl;cases i with
   |zero=>rw[e];rfl
   |succ i=>rw[List.set_cons_succ,e,e,<-ih i (by simpa using hi),show(i+1) *4=i*4+1+1+1+1 by omega];rfl
theorem anh (ts:List aK)(i:Nat)(hi:i<ts.length)(r:Raw):((((ts.flatMap aM).set (i*4+1) (.bool r.1)).set (i*4+2) (.string (bs r.2.1))).set (i*4+3) (.int .i64 r.2.2))=(ts.set i (ts[i].1,r)).flatMap aM:=by
 induction ts generalizing i with
 |nil=>simp at hi
 | cons x ts ih=>
   have e:∀(y:aK) zs,(y::zs).flatMap aM=.string (bs y.1)::.bool y.2.1::.string (bs y.2.2.1)::.int .i64 y.2.2.2::zs.flatMap aM:=λy zs=>rfl;cases i with
   |zero=>rw[e];rfl
   |succ i=>rw[List.set_cons_succ,e,e,List.getElem_cons_succ,<-ih i (by simpa using hi),show(i+1) *4=i*4+1+1+1+1 by omega];rfl
theorem lW {w:World}{base:Nat}{e:TypeId}{size n cap g:Nat}{xs:List Value}(h:w.ownsRow base e size (.slice (some ⟨g,0,none⟩) n cap) n xs)(o:Nat):w.frozen? ⟨g,o,none⟩=false:=by
 rcases h.2 with⟨h1,_⟩ |⟨g',cap',cur,h1,hb,hg,_⟩
 . simp at h1
 . simp only[Value.slice.injEq,Option.some.injEq,Addr.mk.injEq,and_true,true_and]at h1;obtain⟨rfl,rfl⟩:=h1;have h4:ai w g e cur.toList:=by unfold ai;simpa using hg
   exact h4.free o
theorem xQ {w:World}{base:Nat}{e:TypeId}{size n cap g:Nat}{xs:List Value}(h:w.ownsRow base e size (.slice (some ⟨g,0,none⟩) n cap) n xs):base<=g/\g<w.heap.size:=by
 rcases h.2 with⟨h1,_⟩ |⟨g',cap',cur,h1,hb,hg,_⟩
 . simp at h1
 . simp only[Value.slice.injEq,Option.some.injEq,Addr.mk.injEq,and_true,true_and]at h1;obtain⟨rfl,rfl⟩:=h1;exact⟨hb,(Array.getElem?_eq_some_iff.1 hg).1⟩
theorem Ij {w:World}{base n cap g:Nat}{e:TypeId}{ts:List aK}(h:w.ownsRow base e 4 (.slice (some ⟨g,0,none⟩) n cap) n (ts.flatMap aM))(k:Nat)(hk:k<ts.length){l:List UInt8}{s:Bool}{m:List UInt8}{ex:Int}(hx:ts[k]=(l,s,m,ex)):
 aY w g (k*4) [.string (bs l),.bool s,.string (bs m),.int .i64 ex]:=by
 obtain⟨a,c,hv,hat,_⟩:=dS h;simp only[Value.slice.injEq,true_and]at hv;obtain⟨rfl,rfl⟩:=hv;obtain⟨b,o,hab,hw⟩:=hat.term k hk hx;simp only[Option.some.injEq,Addr.mk.injEq,and_true]at hab;obtain⟨rfl,rfl⟩:=hab;rwa [Nat.zero_add]at hw
theorem ak7 {w:World}{base n cap g:Nat}{e:TypeId}{ts:List aK}(h:w.ownsRow base e 4 (.slice (some ⟨g,0,none⟩) n cap) n (ts.flatMap aM))(i:Nat)(hi:i<ts.length)(l:List UInt8)(s:Bool)(m:List UInt8)(ex:Int):
 ((((w.setCell ⟨g,i*4,none⟩ (.string (bs l))).setCell ⟨g,i*4+1,none⟩ (.bool s)).setCell ⟨g,i*4+2,none⟩ (.string (bs m))).setCell ⟨g,i*4+3,none⟩ (.int .i64 ex)).ownsRow base e 4 (.slice (some ⟨g,0,none⟩) n cap) n ((ts.set i (l,s,m,ex)).flatMap aM):=by
 rw[<-ani ts i hi (l,s,m,ex)];exact jz (jz (jz (jz h _ _) _ _) _ _) _ _
theorem Yz {w:World}{base n cap g:Nat}{e:TypeId}{ts:List aK}(h:w.ownsRow base e 4 (.slice (some ⟨g,0,none⟩) n cap) n (ts.flatMap aM))(i:Nat)(hi:i<ts.length)(s:Bool)(m:List UInt8)(ex:Int):
 (((w.setCell ⟨g,i*4+1,none⟩ (.bool s)).setCell ⟨g,i*4+2,none⟩ (.string (bs m))).setCell ⟨g,i*4+3,none⟩ (.int .i64 ex)).ownsRow base e 4 (.slice (some ⟨g,0,none⟩) n cap) n ((ts.set i (ts[i].1,s,m,ex)).flatMap aM):=by
 rw[<-anh ts i hi (s,m,ex)];exact jz (jz (jz h _ _) _ _) _ _
theorem FR {w w':World}(r:Option Nat)(h:Bw w w'):w.grownBy w' r:=⟨h.os,h.tape,h.output,h.size,λk hk _=>h.block k hk⟩
theorem FT {w w':World}{g:Nat}(h:w.grownBy w' (some g))(a:Nat)(v:Value):w.grownBy (w'.setCell ⟨g,a,none⟩ v) (some g):=grownBy_trans h (grownBy_set g rfl v)
theorem aeI {n:Nat}{w w':World}{r:Option Nat}(h:w.grownBy w' r)(hn:n<=w.heap.size)(hr:∀g,r=some g->n<=g):Below n w w':=((Below.refl _ _).mono hn).grown h hn hr
theorem Yf {B:Nat}(a b:List aK)(ha:∀t∈a,Fit B t.2)(hb:∀t∈b,Fit B t.2)(hB:B+1<=268435456):∀t∈fV a b,Fit (B+1) t.2:=by
 obtain⟨n,hn⟩:=aB (a.length+b.length);induction n using Nat.strongRecOn generalizing a b with
 | _ n ih=>
   cases a with
   |nil=>rw[xI];exact λt ht=>(hb t ht).mono zo
   | cons x a=>cases b with
     |nil=>rw[xJ];exact λt ht=>(ha t ht).mono zo
     | cons y b=>
       rw[tL];simp only[List.length_cons]at hn;have ha2:∀t∈a,Fit B t.2:=λt ht=>ha t (by simp[ht]);have hb2:∀t∈b,Fit B t.2:=λt ht=>hb t (by simp[ht]);split
       . intro t ht;rcases List.mem_cons.1 ht with rfl|ht
         . exact(ha _ zm).mono zo
         . exact ih _ (by simp only[List.length_cons];omega) a (y::b) ha2 hb rfl t ht
       . split
         . intro t ht;rcases List.mem_cons.1 ht with rfl|ht
           . exact(hb _ zm).mono zo
           . exact ih _ (by simp only[List.length_cons];omega) (x::a) b ha hb2 rfl t ht
         . intro t ht;rcases List.mem_cons.1 ht with rfl|ht
           . exact((ha x zm).2.add (hb y zm).2).fit hB
           . exact ih _ zo a b ha2 hb2 rfl t ht
theorem OQ {B:Nat}(l:List aK)(h:∀t∈l,Fit B t.2)(hB:B+l.length<=268435456):∀t∈fY l,Fit (B+l.length) t.2:=by
 obtain⟨n,hn⟩:=aB l.length;induction n using Nat.strongRecOn generalizing l with
 | _ n ih=>
   by_cases h2:l.length<2
   . rw[Iu l h2];exact λt ht=>(h t ht).mono zo
   . rw[OS l zo];have l1:(l.take (l.length/2)).length=l.length/2:=by rw[List.length_take];omega
     have l2:(l.drop (l.length/2)).length=l.length-l.length/2:=List.length_drop;have h3:=ih _ (by rw[<-hn,l1];omega) (l.take (l.length/2)) (λt ht=>h t (List.mem_of_mem_take ht)) (by rw[l1];omega) rfl;have h4:=ih _ (by rw[<-hn,l2];omega) (l.drop (l.length/2)) (λt ht=>h t (List.mem_of_mem_drop ht)) (by rw[l2];omega) rfl;have:=Yf (B:=B+(l.length-1)) _ _ (λt ht=>(h3 t ht).mono (by rw[l1];omega)) (λt ht=>(h4 t ht).mono (by rw[l2];omega)) zo;rwa [show B+(l.length-1)+1=B+l.length by omega]at this
end Go.Proofs.YtdaadlblknpipaaGreatDoor
namespace Go.Proofs.YtdaadlblknpipaaGreatDoor
open Go.RowKit
attribute [local go_sem ↓] Go.wp_at_zero Go.wp_at_succ
def ia (x:Dyadic):Nat->Dyadic
 |0=>1
 |n+1=>ia x n*x
def jA (x:Dyadic)(m:Nat):List Dyadic:=(List.range m).map (ia x)
theorem YI (x:Dyadic)(m:Nat):(jA x m).length=m:=by simp[jA]
theorem alP (x:Dyadic)(m k:Nat)(h:k<(jA x m).length):(jA x m)[k]=ia x k:=by simp[jA]
theorem YJ (x:Dyadic)(m:Nat):dC (jA x (m+1))=dC (jA x m)++dC [ia x m]:=by unfold jA;rw[List.range_succ,List.map_append,wI];rfl
theorem amM :Sm 1 (1:Dyadic):=by
 have e:(1:Dyadic)=Dyadic.ofIntWithPrec 1 0:=by decide+kernel
 rw[e];exact⟨1*2^1,(rG 1 1 0).symm,by decide⟩
theorem Oo {B:Nat}{x:Dyadic}(h:Sm B x)(n:Nat):Sm (B*n+1) (ia x n):=by
 induction n with
 |zero=>exact amM
 |succ n ih=>exact(Sm.mul ih h).mono (by rw[Nat.mul_succ];omega)
def gy (W:World)(kb n:Nat)(X:Nat->Dyadic)(Z:Nat->Prop):Prop:=
 ∃vs:List Value,∃ms:Nat->Nat,vs.length=n/\ai W kb 109 vs/\(∀i (h:i<vs.length),ms i<=256/\W.ownsRow (kb+1) 30 3 vs[i] (ms i) (dC (jA (X i) (ms i))))/\
  (∀i j (hi:i<vs.length) (hj:j<vs.length) g,vs[i].ownBlock=some g->vs[j].ownBlock=some g->i=j)/\(∀i (h:i<vs.length) g,vs[i].ownBlock=some g->¬Z g)
theorem gy.re {W:World}{kb n:Nat}{X:Nat->Dyadic}{Z Z':Nat->Prop}(h:gy W kb n X Z)(hz:∀b,Z' b->Z b\/W.heap.size<=b):gy W kb n X Z':=by
 obtain⟨vs,ms,h1,h2,h3,h4,h5⟩:=h;refine⟨vs,ms,h1,h2,h3,h4,λi hi g hg hz'=>?_⟩;rcases hz g hz' with h|h
 . exact h5 i hi g hg h
 . have:=((h3 i hi).2.lt g hg).2;omega
theorem gy.chg {W W':World}{kb n:Nat}{X:Nat->Dyadic}{Z Y:Nat->Prop}(h:gy W kb n X Z)(hc:Chg Y W W')(hk:¬Y kb)(hy:∀b,Y b->b<W.heap.size->Z b):gy W' kb n X Z:=by obtain⟨vs,ms,h1,h2,h3,h4,h5⟩:=h;refine⟨vs,ms,h1,hc.blk h2 hk,λi hi=>⟨(h3 i hi).1,Dn (h3 i hi).2 hc (λg hg hy'=>h5 i hi g hg (hy g hy' ((h3 i hi).2.lt g hg).2))⟩,h4,h5⟩
theorem Fz {W W':World}(h:Bw W W'):Chg (λ_=>False) W W':=⟨h.os,h.tape,h.output,h.size,λk hk _=>h.block k hk⟩
theorem gy.below {W W':World}{kb n:Nat}{X:Nat->Dyadic}{Z:Nat->Prop}(h:gy W kb n X Z)(hb:Bw W W'):gy W' kb n X Z:=h.chg (Fz hb) id (λ_ h=>h.elim)
theorem gy.lt {W:World}{kb n:Nat}{X:Nat->Dyadic}{Z:Nat->Prop}(h:gy W kb n X Z):kb<W.heap.size:=by obtain⟨vs,ms,h1,h2,_⟩:=h;exact h2.lt
theorem gy.set {w W:World}{kb n i m:Nat}{X:Nat->Dyadic}{Z:Nat->Prop}{vs:List Value}{ms:Nat->Nat}{v:Value}(h1:vs.length=n)(hi:i<vs.length)
 (h3:∀i (h:i<vs.length),ms i<=256/\w.ownsRow (kb+1) 30 3 vs[i] (ms i) (dC (jA (X i) (ms i)))) (h4:∀i j (hi:i<vs.length) (hj:j<vs.length) g,vs[i].ownBlock=some g->vs[j].ownBlock=some g->i=j) (h5:∀i (h:i<vs.length) g,vs[i].ownBlock=some g->¬Z g)
 (hc:Chg (λb=>b=kb\/some b=(vs[i]).ownBlock) w W) (hk:ai W kb 109 (vs.set i v)) (hm:m<=256) (ho:W.ownsRow (kb+1) 30 3 v m (dC (jA (X i) m))) (hv:v.ownBlock=(vs[i]).ownBlock\/∃g,v.ownBlock=some g/\w.heap.size<=g) (hz:∀b,Z b->b<w.heap.size):gy W kb n X Z:=by
 have hold:∀j (h:j<vs.length) g,vs[j].ownBlock=some g->g<w.heap.size:=λj h g hg=>((h3 j h).2.lt g hg).2;have uZ:∀g,v.ownBlock=some g->(vs[i]).ownBlock=some g\/w.heap.size<=g:=λg hg=>by
  rcases hv with h|⟨g',h,h'⟩
  . left;rw[<-h];exact hg
  . right;rw[h]at hg;simp at hg;omega
 refine⟨vs.set i v,λj=>if j=i then m else ms j,by simpa using h1,hk,λj hj=>?_,λj l hj hl g e1 e2=>?_,λj hj g e1=>?_⟩
 . have hj':j<vs.length:=by simpa using hj
   by_cases hji:j=i
   . subst hji;dsimp only;rw[List.getElem_set_self,if_pos rfl];exact⟨hm,ho⟩
   . dsimp only;rw[List.getElem_set_ne (λh=>hji h.symm),if_neg hji];refine⟨(h3 j hj').1,Dn (h3 j hj').2 hc (λg hg hy=>?_)⟩;rcases hy with hy|hy
     . have:=((h3 j hj').2.lt g hg).1;omega
     . exact hji (h4 j i hj' hi g hg hy.symm)
 . have hj':j<vs.length:=by simpa using hj
   have hl':l<vs.length:=by simpa using hl
   by_cases hji:j=i
   . by_cases mN:l=i
     . rw[hji,mN]
     . subst hji;rw[List.getElem_set_self]at e1;rw[List.getElem_set_ne (λh=>mN h.symm)]at e2;rcases uZ g e1 with h|h
       . exact h4 j l hi hl' g h e2
       . have:=hold l hl' g e2;omega
   . rw[List.getElem_set_ne (λh=>hji h.symm)]at e1;by_cases mN:l=i
     . subst mN;rw[List.getElem_set_self]at e2;rcases uZ g e2 with h|h
       . exact h4 j l hj' hi g e1 h
       . have:=hold j hj' g e1;omega
     . rw[List.getElem_set_ne (λh=>mN h.symm)]at e2;exact h4 j l hj' hl' g e1 e2
 . have hj':j<vs.length:=by simpa using hj
   by_cases hji:j=i
   . subst hji;rw[List.getElem_set_self]at e1;rcases uZ g e1 with h|h
     . exact h5 j hi g h
     . intro hzg;have:=hz g hzg;omega
   . rw[List.getElem_set_ne (λh=>hji h.symm)]at e1;exact h5 j hj' g e1
theorem adX {P:Program}(w:World)(base:Nat)(t ty e:TypeId)(i:TypeInfo)(z:Value)(size bytes:Nat)(ht:P.underlying t=some (.slice e))(hi:P.info? e=some i)(hz:i.zero=some z)
 (hsize:i.size=size) (hby:i.bytes=bytes) (hzs:z.cells.size=size) (hsz:0<size) (g n cap:Nat) (xs:List Value) (hown:w.ownsRow base e size (.slice (some ⟨g,0,none⟩) n cap) n xs)
 (a:Addr) (m c:Nat) (news:List Value) (hl:news.length=m*size) (hnews:∀j u,news[j]?=some u->w.cell? (a.add j)=some u) (h1:∀u∈news,u.oneCell'=true)
 (h63:n+m<=maxLen) (hbytes:(n+m) *bytes<=140737488355328) (hbase:base<=w.heap.size):
 ∃v' w',(Builtin.append_ #[t,t] ty #[.slice (some ⟨g,0,none⟩) n cap,.slice (some a) m c]).run P w=.ok v' w'/\w'.ownsRow base e size v' (n+m) (xs++news)/\w.grownBy w' (some g)/\
  (v'.ownBlock=some g\/v'.ownBlock=some w.heap.size)/\∀j u,j<n*size->w.cell? ⟨g,j,none⟩=some u->w'.cell? ⟨g,j,none⟩=some u:=by
 obtain⟨v',w',hr,h2,h3,_,h5⟩:=run_append_own_at (P:=P) w base t ty e i z size bytes ht hi hz hsize hby hzs hsz _ n xs hown a m c news hl hnews h1 h63 hbytes hbase;refine⟨v',w',hr,h2,h3,h5,λj u hj hu=>?_⟩;have hcell:w.cell? ⟨g,j,none⟩=xs[j]?:=by
  have uO:j<xs.length:=by rw[hown.1];exact hj
  have h:=hown.cells (g:=g) rfl j xs[j] (List.getElem?_eq_getElem uO);rw[show((⟨g,0,none⟩:Addr).add j)=⟨g,j,none⟩by unfold Addr.add;cases j<;>simp]at h;rw[h,List.getElem?_eq_getElem uO]
 by_cases hroom:n+m<=cap
 . obtain⟨w2,hr2,h4,_⟩:=run_append_own_spare (P:=P) w base t ty e i size ht hi hsize g n cap xs hown a m c news hl hnews h1 hroom;rw[hr]at hr2;simp only[Result.ok.injEq]at hr2;obtain⟨rfl,rfl⟩:=hr2;have uO:j<xs.length:=by rw[hown.1];exact hj
   have h:=h4.cells (g:=g) rfl j xs[j] (by rw[List.getElem?_append_left uO];exact List.getElem?_eq_getElem uO);rw[show((⟨g,0,none⟩:Addr).add j)=⟨g,j,none⟩by unfold Addr.add;cases j<;>simp]at h;rw[h,<-hu,hcell,List.getElem?_eq_getElem uO]
 . have hsmall:n+m<=9223372036854775807:=by simp only[maxLen]at h63;omega
   subst hsize hby;have hr2:=run_append_grow (P:=P) w t ty e i z ht hi hz ⟨g,0,none⟩ n cap xs hown.1 (hown.cells (g:=g) rfl) a m c news hl hnews zo zo (growslice_fits zo hbytes);rw[hr]at hr2;simp only[Result.ok.injEq]at hr2;obtain⟨_,rfl⟩:=hr2;exact aG (w:=w.drew) hu
theorem an2 {P:Program}{w:World}{o:Oper}{a:Act}{K:Act->World->Prop}{Q:Exit->Act->World->Prop}(s x:Operand)(t:TypeId)
 (ho:o.op=.call {callee:=.builtin .append,args:=#[s,x],argTypes:=#[t,t]})
 (base:Nat) (e:TypeId) (i:TypeInfo) (z:Value) (size bytes:Nat) (ht:P.underlying t=Option.some (.slice e)) (hi:P.info? e=Option.some i) (hz:i.zero=Option.some z)
 (hsize:i.size=size) (hby:i.bytes=bytes) (hzs:z.cells.size=size) (hsz:0<size)
 (g n cap:Nat) (xs:List Value) (hs:a.eval s=.slice (some ⟨g,0,none⟩) n cap) (hown:w.ownsRow base e size (.slice (some ⟨g,0,none⟩) n cap) n xs)
 (ad:Addr) (m c:Nat) (news:List Value) (hx:a.eval x=.slice (some ad) m c) (hl:news.length=m*size) (hnews:∀j u,news[j]?=some u->w.cell? (ad.add j)=some u) (h1:∀u∈news,u.oneCell'=true)
 (h63:n+m<=maxLen) (hbytes:(n+m) *bytes<=140737488355328) (hbase:base<=w.heap.size)
 (h:∀v' w',w'.ownsRow base e size v' (n+m) (xs++news)->w.grownBy w' (some g)->(v'.ownBlock=some g\/v'.ownBlock=some w.heap.size)->(∀j u,j<n*size->w.cell? ⟨g,j,none⟩=some u->w'.cell? ⟨g,j,none⟩=some u)->K (a.put o.dst v') w'):o.wp P a w K Q:=by
 obtain⟨v',w',hr,h2,h3,h5,h6⟩:=adX (P:=P) w base t o.type e i z size bytes ht hi hz hsize hby hzs hsz g n cap xs hown ad m c news hl hnews h1 h63 hbytes hbase;unfold Oper.wp execOp;simp only[ho,resolve,invoke,builtin,Sem.run_bind,Sem.run_pure,Result.andThen_ok,List.map_toArray,List.map_cons,List.map_nil,hs,hx,hr];exact h v' w' h2 h3 h5 h6
theorem pG {Y:Nat->Prop}{w W:World}(h:Chg Y w W)(b i:Nat)(v:Value)(hy:Y b):Chg Y w (W.setCell ⟨b,i,none⟩ v):=
 ⟨h.os,h.tape,h.output,by have:=h.size;simp[World.setCell];exact this,λk hk VO=>by rw[Below.heap_setCell _ _ _ _ (λe=>VO (by rw[e];exact hy))];exact h.block k hk VO⟩
def sA (w W wx:World)(kb i:Nat)(vs:List Value)(v0:Value)(x:Dyadic)(xc:List Value)(v:Value)(m:Nat):Prop:=
 1<=m/\m<=256/\ai wx kb 109 (vs.set i v)/\wx.ownsRow (kb+1) 30 3 v m (dC (jA x m))/\(v.ownBlock=v0.ownBlock\/∃g,v.ownBlock=some g/\W.heap.size<=g)/\
  Chg (λb=>b=kb\/some b=v0.ownBlock) w wx/\ai wx w.heap.size 30 xc/\ai wx (w.heap.size+1) 30 [.bool false,.string ⟨#[]⟩,.int .i64 0]/\W.heap.size<=wx.heap.size
theorem sA.push {w W w1 w2:World}{kb i:Nat}{vs:List Value}{v0:Value}{x:Dyadic}{xc:List Value}{v v':Value}{m:Nat}(hk:ai w1 kb 109 (vs.set i v))(hm:m+1<=256)
 (hv:v.ownBlock=v0.ownBlock\/∃g,v.ownBlock=some g/\W.heap.size<=g) (hc:Chg (λb=>b=kb\/some b=v0.ownBlock) w w1) (hx:ai w1 w.heap.size 30 xc) (hr:ai w1 (w.heap.size+1) 30 [.bool false,.string ⟨#[]⟩,.int .i64 0]) (hsz:W.heap.size<=w1.heap.size)
 (hW:W.heap.size=w.heap.size+2) (qY:kb<w.heap.size) (hv0:∀g,v0.ownBlock=some g->kb<g/\g<w.heap.size) (hvk:∀g,v.ownBlock=some g->kb<g)
 (ho:w2.ownsRow (kb+1) 30 3 v' (m+1) (dC (jA x (m+1)))) (hg:w1.grownBy w2 v.ownBlock) (fU:v'.ownBlock=v.ownBlock\/v'.ownBlock=some w1.heap.size):sA w W (w2.setCell ⟨kb,i,none⟩ v') kb i vs v0 x xc v' (m+1):=by
 have WU:∀g,v.ownBlock=some g->g≠w.heap.size/\g≠w.heap.size+1:=λg e=>by
  rcases hv with h|⟨g',h,h'⟩
  . have:=(hv0 g (by rw[<-h];exact e)).2;omega
  . rw[h]at e;simp at e;omega
 have hv':v'.ownBlock=v0.ownBlock\/∃g,v'.ownBlock=some g/\W.heap.size<=g:=by
  rcases fU with h|h
  . rw[h];exact hv
  . exact .inr ⟨_,h,hsz⟩
 have hk2:ai w2 kb 109 (vs.set i v):=hk.grown hg (λe=>by have:=hvk kb e.symm;omega);have hx2:=hx.grown hg (λe=>(WU _ e.symm).1 rfl);have hr2:=hr.grown hg (λe=>(WU _ e.symm).2 rfl)
 have hc2:Chg (λb=>b=kb\/some b=v0.ownBlock) w w2:=hc.trans (Chg.arV (Y:=λb=>some b=v.ownBlock) hg (λb e=>e.symm)) (λb e=>by
  rcases hv with h|⟨g,h,h'⟩
  . left;right;rw[<-h];exact e
  . right;rw[h]at e;simp at e;omega)
 have hks:=hk2.set i v';rw[List.set_set]at hks;refine⟨by omega,hm,hks,?_,hv',pG hc2 kb i v' (.inl rfl),hx2.so kb i zo v',hr2.so kb i zo v',by have:=hg.size;simp[World.setCell];omega⟩;refine Dn ho (Y:=λb=>b=kb) (pG (Chg.refl _ _) kb i v' rfl) (λb e=>?_);have:=ho.lt b e;omega
theorem sA.fin {w W wx:World}{kb i m:Nat}{vs:List Value}{v0 v:Value}{x:Dyadic}{xc:List Value}(h:sA w W wx kb i vs v0 x xc v m)(hW:W.heap.size=w.heap.size+2)(qY:kb<w.heap.size)(hv0:∀g,v0.ownBlock=some g->kb<g/\g<w.heap.size)(u1 u2 u3:Value):
 ai (((wx.setCell ⟨w.heap.size+1,0,none⟩ u1).setCell ⟨w.heap.size+1,1,none⟩ u2).setCell ⟨w.heap.size+1,2,none⟩ u3) (w.heap.size+1) 30 [u1,u2,u3]/\
  Chg (λb=>b=kb\/some b=v0.ownBlock) w (((wx.setCell ⟨w.heap.size+1,0,none⟩ u1).setCell ⟨w.heap.size+1,1,none⟩ u2).setCell ⟨w.heap.size+1,2,none⟩ u3)/\
  ai (((wx.setCell ⟨w.heap.size+1,0,none⟩ u1).setCell ⟨w.heap.size+1,1,none⟩ u2).setCell ⟨w.heap.size+1,2,none⟩ u3) kb 109 (vs.set i v)/\
  (((wx.setCell ⟨w.heap.size+1,0,none⟩ u1).setCell ⟨w.heap.size+1,1,none⟩ u2).setCell ⟨w.heap.size+1,2,none⟩ u3).ownsRow (kb+1) 30 3 v m (dC (jA x m)):=by
 obtain⟨_,_,hk,ho,hv,hc,_,hr,_⟩:=h;have hcc:Chg (λb=>b=w.heap.size+1) wx (((wx.setCell ⟨w.heap.size+1,0,none⟩ u1).setCell ⟨w.heap.size+1,1,none⟩ u2).setCell ⟨w.heap.size+1,2,none⟩ u3):=pG (Y:=λb=>b=w.heap.size+1) (pG (Y:=λb=>b=w.heap.size+1) (pG (Y:=λb=>b=w.heap.size+1) (Chg.refl _ _) _ _ _ rfl) _ _ _ rfl) _ _ _ rfl;refine⟨((hr.set 0 u1).set 1 u2).set 2 u3,hc.trans hcc (λb e=>.inr zo),hcc.blk hk zo,Dn ho hcc (λb e e2=>?_)⟩;rcases hv with h|⟨g,h,h'⟩
 . have:=(hv0 b (by rw[<-h];exact e)).2;omega
 . rw[h]at e;simp at e;omega
def Dd (kb i:Nat)(W:World):Nat:=match W.cell? ⟨kb,i,none⟩with
 |some (.slice _ n _)=>n
 |_=>0
theorem alA (kb i n k B:Nat)(X:Nat->Dyadic)(Z:Nat->Prop)(s:Bool)(l:List UInt8)(e:Int)(w:World)(hi:i<n)(hk:k<=255)(hx:aC (s,l,e)=X i)(hf:Fit B (s,l,e))(hB:B<=500000)(hp:gy w kb n X Z)(hz:∀b,Z b->b<w.heap.size/\b≠kb)(hT:∀W,Below kb w W->az W):
 Calls Tryz.prog 78 #[.pointer (some ⟨kb,i,none⟩),.agg #[.bool s,.string (bs l),.int .i64 e],.int .i64 (k:Int)] w λex w'=>ex=.returned (bL (ia (X i) k))/\gy w' kb n X Z/\Chg (λb=>kb<=b/\¬Z b) w w':=by
 obtain⟨i0,hi0,hz0,hz1,hz2⟩:=info_parts Tryz.arH;have qY:=hp.lt;obtain⟨vs,ms,h1,h2,h3,h4,h5⟩:=hp;have fy:i<vs.length:=by omega
 obtain⟨x,iM⟩:=aB (X i);obtain⟨v0,hv0⟩:=aB (vs[i]);obtain⟨m0,hm0⟩:=aB (ms i);have ho0:=(h3 i fy).2;have hl0:=(h3 i fy).1;rw[hv0,hm0,iM]at ho0;rw[hm0]at hl0;have hend:∀W v m,Chg (λb=>b=kb\/some b=v0.ownBlock) w W->ai W kb 109 (vs.set i v)->m<=256->W.ownsRow (kb+1) 30 3 v m (dC (jA x m))->(v.ownBlock=v0.ownBlock\/∃g,v.ownBlock=some g/\w.heap.size<=g)->gy W kb n X Z/\Chg (λb=>kb<=b/\¬Z b) w W:=λW v m a1 a2 a3 a4 a5=>
  ⟨gy.set h1 fy h3 h4 h5 (by rw[hv0];exact a1) a2 a3 (by rw[iM];exact a4) (by rw[hv0];exact a5) (λb hb=>(hz b hb).1),a1.mono (λb _ hb=>by
   rcases hb with rfl|hb
   . exact⟨Nat.le_refl _,λh=>(hz _ h).2 rfl⟩
   . have h6:=h5 i fy b (by rw[hv0];exact hb.symm);have h7:=(ho0.lt b hb.symm).1
     exact⟨by omega,h6⟩)⟩
 have hown0:∀g,v0.ownBlock=some g->kb<g/\g<w.heap.size:=λg e=>by have:=ho0.lt g e;omega
 have WT:vs.set i v0=vs:=by rw[<-hv0];exact List.set_getElem_self fy
 obtain⟨a0,FB,GR,_,_⟩:=dS ho0;have fT:Sm B x:=by rw[<-iM,<-hx];exact hf.2
 have hpw:=λj=>Oo fT j;have hxv:aC (s,l,e)=x:=hx.trans iM;obtain⟨Hi,cX,cN,cO,dU,uj,Kp,Hpw,Kt,Hf,HT,H2⟩:=gY hi0 hz0 hz1 hz2 hend hown0 WT hpw hxv hf hT h2;obtain⟨Rb,gw,ac6⟩:=cK ho0 fy GR;rw[iM];clear hi0 hz0 hz1 hz2 hend hown0 WT hpw hxv hf hT h2 ho0 h3 h4 h5 h1 fy hv0 hm0 iM hx hz fT GR;obtain⟨W,dF,Hb,Hx,Hr⟩:=rD w 30 [.bool s,.string (bs l),.int .i64 e] 30 [.bool false,.string ⟨#[]⟩,.int .i64 0];obtain⟨x0,x1,x2⟩:=Hx.out.c3;obtain⟨r0,aj,r1,ak,r2,aF⟩:=Hr.out.g3;have UD:W.heap.size=w.heap.size+2:=by rw[<-dF];simp
 have Et:=ah UD;clear UD;have Rv:Hid (1<=m0->sA w W W kb i vs v0 x [.bool s,.string (bs l),.int .i64 e] v0 m0):=λh=>⟨h,hl0,by rw[Kp.out];exact H2.out.below Hb.out,ownsRow_below Rb.out Hb.out,.inl rfl,(Fz Hb.out).mono (λ_ _ h=>h.elim),Hx.out,Hr.out,Nat.le_refl _⟩;have hcell:W.cell? ⟨kb,i,none⟩=some v0:=by rw[(H2.out.below Hb.out).cell i,<-Kp.out,List.getElem?_set_self gw.out]
 have Hk:Hid (aY W kb i [v0]):=λj hj=>by
  obtain rfl:j=0:=by simp at hj;omega
  exact hcell
 have lG:=ah (ownsRow_below Rb.out Hb.out);have qG:Hid (ai W kb 109 (vs.set i v0)):=by show ai _ _ _ _;rw[Kp.out];exact H2.out.below Hb.out
 have AE:Hid (az W):=HT.out W (Hb.out.mono zo);have hbs:=Hb.out.size;have jV:=Hb;have GR:=ac6.out;subst GR;clear Hb;have Hb:Hid (Bw W W):=Below.refl _ _;go_enter Tryz.func78,Tryz.ntmps78;go_upto_if 12 with fail
 go_cut[] (λwx=>∃v m,sA w W wx kb i vs (.slice a0 m0 FB) x [.bool s,.string (bs l),.int .i64 e] v m);case first=>
  by_cases hm:m0=0
  . subst hm;obtain⟨x0,x1,x2⟩:=Hx.out.c3;obtain⟨r0,r1,r2⟩:=Hr.out.c3;have k0:=Hk.out.w1;clear hcell;go_wp2_with fail;refine bC (λw'=>w'.cell? ⟨kb,i,none⟩=some (.slice a0 0 FB)) (λi=>Nat.blt i 10) [(0,true),(1,true),(2,true),(3,true),(4,true),(5,false),(6,false),(7,false),(8,true),(9,true),(10,false)] zk zk rfl zk zc k0 ?_;iterate 5 (refine pT rfl rfl ?_;try simp only[UU])
    refine aI rfl rfl (λK hK=>?_);go_simp;with_reducible refine(BN 1 1 (by decide+kernel) _ zd (by first|exact AE.out|exact az.drew AE.out|exact az.alloc AE.out _|exact az.drew (az.alloc AE.out _) |exact az.alloc (az.drew AE.out) _)).mono ?_
    rintro e w5 ⟨rfl,hq⟩;have ae:Bw W w5:=by first|exact hq|exact aN hq
    clear x0 x1 x2 r0 r1 r2 k0;replace Hx:=kB Hx ae;replace Hr:=kB Hr ae;replace Hk:=kW Hk ae;obtain⟨x0,x1,x2⟩:=Hx.out.c3;obtain⟨r0,r1,r2⟩:=Hr.out.c3;have k0:=Hk.out.w1;replace Hb:=au Hb ae;clear ae;refine hK _ _ (λ_=>k0) ?_;clear hK K;try simp only[UU]
    refine aI rfl rfl (λK hK=>?_);go_simp;refine hK _ _ (λ_=>aG k0) ?_;clear hK K;try simp only[UU]
    refine bF (λw6=>ai w6 (w5.heap.size) 30 [.bool (ar (dN 1)),.string (bs (nt (dN 1).natAbs)),.int .i64 (dE 1)]/\Bw w5 w6) (by first|exact dL|exact dM) ?_;rintro w6 ⟨qc,ae⟩;clear x0 x1 x2 r0 r1 r2 k0;have ajX:=Hx.out.lt;have XR:=Hr.out.lt;replace Hx:=kB Hx ae;replace Hr:=kB Hr ae;replace Hk:=kW Hk ae;have Hc:=ah qc;clear qc;obtain⟨x0,x1,x2⟩:=Hx.out.c3;obtain⟨r0,r1,r2⟩:=Hr.out.c3;have k0:=Hk.out.w1;obtain⟨c0,c1,c2⟩:=Hc.out.c3;replace Hb:=au Hb ae;clear ae;refine aI rfl rfl (λK hK=>?_);have dh:=ownsRow_below lG.out Hb.out;have jf:=Hb.out.size;have hkl:kb+1<=W.heap.size:=by omega
    refine ZX _ _ 45 45 30 Tryz.underlying45 rfl (kb+1) 30 i0 _ 3 32 Tryz.underlying45 Hi.out cX.out cN.out cO.out rfl zd (.slice a0 0 FB) 0 (dC (jA x 0)) rfl dh (some ⟨w5.heap.size,0,none⟩) 1 1 [.bool (ar (dN 1)),.string (bs (nt (dN 1).natAbs)),.int .i64 (dE 1)] rfl (Sl.some _ _ _ (Nat.le_refl _)) rfl (.inr ⟨_,0,rfl,λj hj=>by rw[Nat.zero_add];exact Hc.out.cell j⟩) zy (by simp[maxLen]) zo zo ?_;intro v' w8 dP bi aik;obtain⟨g',cq,rfl⟩:=ownsRow_succ dP;have wU:=(qG.out.below Hb.out).grown bi (λe=>by have:=(uj.out kb e.symm).1;omega);have GK:=sA.push (xc:=[.bool s,.string (bs l),.int .i64 e]) (m:=0) (v':=.slice (some ⟨g',0,none⟩) 1 cq) (qG.out.below Hb.out) zd (.inl rfl) ((Fz (aJ jV.out Hb.out)).mono (λ_ _ h=>h.elim)) (Hx.out) (Hr.out) jf Et.out qY uj.out (λg e=>(uj.out g e).1) (by rw[YJ];exact dP) bi aik;have JW:=ah GK;have f8:=wU.free i;have k8:=wU.cell i;rw[List.getElem?_set_self gw.out]at k8;refine hK _ _ (λ_=>bU bi k0 (λe=>by have:=uj.out kb e.symm;omega)) ?_;clear hK K;try simp only[UU]
    iterate 2 (refine pT rfl rfl ?_;try simp only[UU])
    refine aI rfl rfl (λK hK=>?_);go_simp;refine hK _ _ (λh=>absurd h zd) ?_;clear hK K;try simp only[UU]
    simp only[aS];go_wp2_with fail;go_meet;exact⟨_,1,JW.out⟩
  . have h0:((m0:Int)==0)=false:=by simp;omega
    have h0':¬(m0:Int)=0:=by omega
    go_wp2_with fail;go_meet;exact⟨_,m0,Rv.out zo⟩
 case rest=>
  obtain⟨v1,m1,hst⟩:=hcut;have bX:=ah hst;clear hst hcell Hk Rv qG lG Hx Hr Hb x0 x1 x2 r0 r1 r2 aj ak aF;go_wp2_with fail;go_loopw[] (λwr=>∃v m,sA w W wr kb i vs (.slice a0 m0 FB) x [.bool s,.string (bs l),.int .i64 e] v m) (λwr=>k+1-Dd kb i wr);case atStart=>exact⟨v1,m1,bX.out⟩
  case round=>
   clear bX;obtain⟨v,m,hst⟩:=hrel;have bX:=ah hst;obtain⟨sV,hm2,hk1,ho,uZ,hc,hx,hr,hsz⟩:=hst;obtain⟨g,cap,rfl,hg1,hg2,hmc⟩:=xR ho zo;have hcell:=hk1.cell i;rw[List.getElem?_set_self gw.out]at hcell;have hfree:=hk1.free i;have hlen:Dd kb i wr=m:=by unfold Dd;rw[hcell]
   have Wd:=λj (hj:j<m)=>(show At wr (some ⟨g,0,none⟩) (((jA x m).map canon).flatMap bA)by
    obtain⟨a9,c9,e9,h9,_⟩:=dS ho;simp only[Value.slice.injEq,true_and]at e9;rw[<-e9.1]at h9
    rw[<-ol];exact h9).num j (by rw[List.length_map,YI];exact hj) (show((jA x m).map canon)[j]'(by rw[List.length_map,YI];exact hj)=(ar (dN (ia x j)),nt (dN (ia x j)).natAbs,dE (ia x j))by rw[List.getElem_map,alP];rfl)
   obtain⟨lF,Ra,qG,Ho,Ko,Qu,Hx,Hr⟩:=lV hlen Wd hk1 ho uZ hc hx hr;have nI:g≠kb:=by omega
   have apU:kb<w.heap.size:=qY;have Gv:g<wr.heap.size:=hg2;clear hlen Wd hk1 ho uZ hc hx hr;have Hb:Hid (Bw wr wr):=Below.refl _ _
   have lA:Hid (az wr):=HT.out wr (Qu.out.below zo (λb e=>by
    rcases e with e|e
    . omega
    . have:=(uj.out b e.symm).1;omega))
   by_cases hlt:m<=k
   . obtain⟨j,hj⟩:∃j,m=j+1:=⟨m-1,by omega⟩;have hjm:j<m:=by omega
     have tv:IntKind.i64.wrap (j:Int)=(j:Int):=by rw[IntKind.wrap_i64];omega
     have apT:(m:Int)-1=(j:Int):=by omega
     have aW:(m:Int)<=(k:Int):=by omega
     obtain⟨b9,o9,e9,p0,p1,p2⟩:=Ra.out j hjm;simp only[Option.some.injEq,Addr.mk.injEq,and_true]at e9;obtain⟨rfl,rfl⟩:=e9;rw[Nat.zero_add]at p0 p1 p2;have bB:=iN m cap j (j:Int) (rfl:(some ⟨g,0,none⟩:Option Addr)=_) hjm rfl;rw[Nat.zero_add]at bB;have Hp:Hid (aY wr g (j*3) [.bool (ar (dN (ia x j))),.string (bs (nt (dN (ia x j)).natAbs)),.int .i64 (dE (ia x j))]):=ib p0 p1 p2;obtain⟨P,hP⟩:=aB (ia x j);obtain⟨Q,hQ⟩:=aB (ia x m);have Ui:P*x=Q:=by rw[<-hQ,<-hP,hj];rfl
     have Ch:Fit (256*B+1) (ar (dN P),nt (dN P).natAbs,dE P):=by have h:=Hpw.out j;rw[hP]at h;have h9:B*j<=B*255:=Nat.mul_le_mul_left _ zo;exact(h.mono zo).fit zo
     have hxs:Fit (256*B+1) (s,l,e):=Hf.out.mono zo;have mO:=λb W9 (hbl:ai W9 b 30 [.bool (ar (dN P)),.string (bs (nt (dN P).natAbs)),.int .i64 (dE P),.bool s,.string (bs l),.int .i64 e]) (pU:az W9)=>sF (ar (dN P)) (nt (dN P).natAbs) (dE P) s l e Q (256*B+1) (by show aC (canon P) *_=Q;rw[bK,Kt.out];exact Ui) b 2 30 W9 Ch hxs zo hbl pU;rw[hP]at Hp;have hk':Hid (aY wr kb i [.slice (some ⟨g,0,none⟩) m cap]):=λj hj=>by
      obtain rfl:j=0:=by simp at hj;omega
      exact hcell
     have Hk:=hk';obtain⟨vZ,HQ,Jp,Hj⟩:=dH mO hQ hcell hj;clear hj mO hQ hP Ui Ch hxs p0 p1 p2 hk';go_wp2_with fail;clear hcell hfree;have k0:=Hk.out.w1;obtain⟨p0,p1,p2⟩:=Hp.out.w3;obtain⟨x0,x1,x2⟩:=Hx.out.c3;obtain⟨r0,r1,r2⟩:=Hr.out.c3;have HT:Hid (az wr):=lA.out;refine bC (λw'=>w'.cell? ⟨kb,i,none⟩=some (.slice (some ⟨g,0,none⟩) m cap)/\w'.cell? ⟨g,j*3,none⟩=some (.bool (ar (dN P)))/\w'.cell? ⟨g,j*3+1,none⟩=some (.string (bs (nt (dN P).natAbs)))/\w'.cell? ⟨g,j*3+2,none⟩=some (.int .i64 (dE P))/\w'.cell? ⟨w.heap.size,0,none⟩=some (.bool s)/\w'.cell? ⟨w.heap.size,1,none⟩=some (.string (bs l))/\w'.cell? ⟨w.heap.size,2,none⟩=some (.int .i64 e)) (λi=>Nat.blt i 24) [(0,true),(1,true),(2,true),(3,true),(4,true),(5,true),(6,true),(7,true),(8,true),(9,true),(10,true),(11,true),(12,true),(13,true),(14,true),(15,true),(16,true),(17,true),(18,false),(19,false),(20,false),(21,false),(22,true),(23,true),(24,false)] zk zk rfl zk zc ⟨k0,p0,p1,p2,x0,x1,x2⟩ ?_;iterate 18 (refine pT rfl rfl ?_ (by intro w' ⟨q0,q1,q2,q3,q4,q5,q6⟩;go_simp;try with_reducible rfl);try simp only[UU])
     refine aI rfl rfl (λK hK=>?_);go_simp;refine hK _ _ (λ_=>⟨aG k0,aG p0,aG p1,aG p2,aG x0,aG x1,aG x2⟩) ?_;clear hK K;try simp only[UU]
     refine bF (λw6=>ai w6 (wr.heap.size) 30 [.bool (ar (dN P)),.string (bs (nt (dN P).natAbs)),.int .i64 (dE P),.bool s,.string (bs l),.int .i64 e]/\Bw wr w6) (by first|exact dL|exact dM) ?_;rintro w6 ⟨qc,ae⟩;clear k0 p0 p1 p2 x0 x1 x2 r0 r1 r2;have ajX:=Hx.out.lt;have XR:=Hr.out.lt;replace Hk:=kW Hk ae;replace Hp:=kW Hp ae;replace Hx:=kB Hx ae;replace Hr:=kB Hr ae;replace HT:=kT HT ae;have Hc:=ah qc;clear qc;have k0:=Hk.out.w1;obtain⟨p0,p1,p2⟩:=Hp.out.w3;obtain⟨x0,x1,x2⟩:=Hx.out.c3;obtain⟨r0,r1,r2⟩:=Hr.out.c3;obtain⟨c0,c1,c2,c3,c4,c5⟩:=Hc.out.c6;replace Hb:=au Hb ae;clear ae;refine aI rfl rfl (λK hK=>?_);go_simp;with_reducible refine(vZ.out _ _ Hc.out (by first|exact HT.out|exact az.drew HT.out|exact az.alloc HT.out _|exact az.drew (az.alloc HT.out _) |exact az.alloc (az.drew HT.out) _)).mono ?_
     rintro e w7 ⟨rfl,hq⟩;have ae:Bw w6 w7:=by first|exact hq|exact aN hq
     clear k0 p0 p1 p2 x0 x1 x2 r0 r1 r2 c0 c1 c2 c3 c4 c5;replace Hk:=kW Hk ae;replace Hp:=kW Hp ae;replace Hx:=kB Hx ae;replace Hr:=kB Hr ae;replace HT:=kT HT ae;replace Hc:=kB Hc ae;have k0:=Hk.out.w1;obtain⟨p0,p1,p2⟩:=Hp.out.w3;obtain⟨x0,x1,x2⟩:=Hx.out.c3;obtain⟨r0,r1,r2⟩:=Hr.out.c3;obtain⟨c0,c1,c2,c3,c4,c5⟩:=Hc.out.c6;replace Hb:=au Hb ae;clear ae;refine hK _ _ (λ_=>⟨k0,p0,p1,p2,x0,x1,x2⟩) ?_;clear hK K;try simp only[UU]
     refine aI rfl rfl (λK hK=>?_);go_simp;refine hK _ _ (λ_=>⟨aG k0,aG p0,aG p1,aG p2,aG x0,aG x1,aG x2⟩) ?_;clear hK K;try simp only[UU]
     refine bF (λw8=>ai w8 (w7.heap.size) 30 [.bool (ar (dN Q)),.string (bs (nt (dN Q).natAbs)),.int .i64 (dE Q)]/\Bw w7 w8) (by first|exact dL|exact dM) ?_;rintro w8 ⟨qd,ae⟩;clear k0 p0 p1 p2 x0 x1 x2 r0 r1 r2 c0 c1 c2 c3 c4 c5;have aqV:=Hx.out.lt;have ajT:=Hr.out.lt;have aqf:=Hc.out.lt;replace Hk:=kW Hk ae;replace Hp:=kW Hp ae;replace Hx:=kB Hx ae;replace Hr:=kB Hr ae;replace HT:=kT HT ae;replace Hc:=kB Hc ae;have Hd:=ah qd;clear qd;have k0:=Hk.out.w1;obtain⟨p0,p1,p2⟩:=Hp.out.w3;obtain⟨x0,x1,x2⟩:=Hx.out.c3;obtain⟨r0,r1,r2⟩:=Hr.out.c3;obtain⟨c0,c1,c2,c3,c4,c5⟩:=Hc.out.c6;obtain⟨d0,d1,d2⟩:=Hd.out.c3;replace Hb:=au Hb ae;clear ae;refine aI rfl rfl (λK hK=>?_);have dh:=ownsRow_below Ho.out Hb.out;have jf:=Hb.out.size;have hkl:kb+1<=wr.heap.size:=by omega
     refine an2 _ _ 45 rfl (kb+1) 30 i0 _ 3 32 Tryz.underlying45 Hi.out cX.out cN.out cO.out rfl zd g m cap (dC (jA x m)) rfl dh ⟨w7.heap.size,0,none⟩ 1 1 [.bool (ar (dN Q)),.string (bs (nt (dN Q).natAbs)),.int .i64 (dE Q)] rfl rfl (gW Hd.out) zy zx zo zo ?_;intro v' w9 gq kQ CO MC;obtain⟨g',cq,rfl⟩:=ownsRow_succ gq;have Gx:=(qG.out.below Hb.out).grown kQ (λe=>by have h9:kb=g:=Option.some.inj e;omega);have uU:=sA.push (xc:=[.bool s,.string (bs l),.int .i64 e]) (m:=m) (v':=.slice (some ⟨g',0,none⟩) (m+1) cq) (qG.out.below Hb.out) zo Ko.out (Qu.out.trans (Fz Hb.out) (λ_ h=>h.elim)) Hx.out Hr.out zo Et.out qY uj.out (λg9 e=>by have h9:g=g9:=Option.some.inj e;omega) (by rw[YJ,HQ.out];exact gq) kQ CO;have hgx:g≠w.heap.size:=by
      have h:=Ko.out;rcases h with h|⟨g9,h,h'⟩
      . have:=(uj.out g h.symm).2;omega
      . have h9:g=g9:=Option.some.inj h;have h8:=Et.out;omega
     have P0:=MC _ _ zo p0;have P1:=MC _ _ zo p1;have P2:=MC _ _ zo p2;have X0:=bU kQ x0 (λe=>hgx (Option.some.inj e).symm);have X1:=bU kQ x1 (λe=>hgx (Option.some.inj e).symm);have X2:=bU kQ x2 (λe=>hgx (Option.some.inj e).symm);have yz:=ah uU;have f9:=Gx.free i;have k9:=Gx.cell i;rw[List.getElem?_set_self gw.out]at k9;have VY:Dd kb i (w9.setCell ⟨kb,i,none⟩ (.slice (some ⟨g',0,none⟩) (m+1) cq))=m+1:=by have h:=(Gx.set i (.slice (some ⟨g',0,none⟩) (m+1) cq)).cell i;rw[List.set_set,List.getElem?_set_self gw.out]at h;unfold Dd;rw[h]
     have ace:=ah VY;clear uU Gx VY;refine hK _ _ (λ_=>⟨k9,P0,P1,P2,X0,X1,X2⟩) ?_;clear hK K;try simp only[UU]
     iterate 2 (refine pT rfl rfl ?_;try simp only[UU])
     refine aI rfl rfl (λK hK=>?_);go_simp;refine hK _ _ (λh=>absurd h zd) ?_;clear hK K;try simp only[UU]
     simp only[aS];go_wp2_with fail;go_roundw;case rel=>exact⟨_,m+1,yz.out⟩
     case measure=>rw[ace.out,lF.out];omega
   . have aW:¬(m:Int)<=(k:Int):=by omega
     have oD:k<m:=by omega
     obtain⟨b9,o9,e9,p0,p1,p2⟩:=Ra.out k oD;simp only[Option.some.injEq,Addr.mk.injEq,and_true]at e9;obtain⟨rfl,rfl⟩:=e9;rw[Nat.zero_add]at p0 p1 p2;have bB:=iN m cap k (k:Int) (rfl:(some ⟨g,0,none⟩:Option Addr)=_) oD rfl;rw[Nat.zero_add]at bB;obtain⟨r0,aj,r1,ak,r2,aF⟩:=Hr.out.g3;go_wp2_with fail;have hfin:=bX.out.fin Et.out qY uj.out (.bool (ar (dN (ia x k)))) (.string (bs (nt (dN (ia x k)).natAbs))) (.int .i64 (dE (ia x k)));have hsW:w.heap.size<=W.heap.size:=by omega
     refine fR (λw9=>ai w9 (w.heap.size+1) 30 [.bool (ar (dN (ia x k))),.string (bs (nt (dN (ia x k)).natAbs)),.int .i64 (dE (ia x k))]/\(gy w9 kb n X Z/\Chg (λb=>kb<=b/\¬Z b) w w9)) ⟨hfin.1,dU.out _ _ m hfin.2.1 hfin.2.2.1 hm2 hfin.2.2.2 (by
      rcases Ko.out with h|⟨g9,h,h'⟩
      . exact .inl h
      . exact .inr ⟨g9,h,by omega⟩)⟩ ?_
     rintro w9 ⟨lS,h9⟩;clear r0 aj r1 ak r2 aF;obtain⟨q0,q1,q2⟩:=lS.c3;refine bodyPost_ret (v:=bL (ia x k)) (by simp[results,Tryz.results78,go_sem,q0,q1,q2]) rfl ⟨rfl,h9⟩
end Go.Proofs.YtdaadlblknpipaaGreatDoor
