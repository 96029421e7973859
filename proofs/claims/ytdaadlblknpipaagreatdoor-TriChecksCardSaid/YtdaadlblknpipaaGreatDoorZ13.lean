/- An own row cut short,cleared behind;an own row as a whole block. -/
import Derived.Test.YtdaadlblknpipaaGreatDoorZ11
import Derived.Laws.CopyRow
import Derived.Laws.AppendOwnNone
import Derived.Deep.DeepAppendRoom
import Derived.Test.YtdaadlblknpipaaGreatDoorZ12
set_option linter.unusedVariables false
set_option linter.unusedSimpArgs false
set_option maxRecDepth 100000
set_option maxHeartbeats 16000000
namespace Go.Proofs.YtdaadlblknpipaaGreatDoor
open Go.RowKit
theorem Ou {w:World}{base:Nat}{e:TypeId}{size n cap g:Nat}{xs:List Value}(h:w.ownsRow base e size (.slice (some ⟨g,0,none⟩) n cap) n xs)(i:Nat)(hi:i<=n):
 w.ownsRow base e size (.slice (some ⟨g,0,none⟩) i cap) i (xs.take (i*size)):=by
 have GQ:i*size<=n*size:=Nat.mul_le_mul_right _ hi;refine⟨by rw[List.length_take,h.1];omega,?_⟩;rcases h.2 with⟨h1,_⟩ |⟨g',cap',cur,h1,hb,hg,h4,h5,h6,hx⟩
 . simp at h1
 . simp only[Value.slice.injEq,Option.some.injEq,Addr.mk.injEq,and_true,true_and]at h1;obtain⟨rfl,rfl⟩:=h1;refine .inr ⟨g,cap,cur,rfl,hb,hg,by omega,h5,h6,?_⟩;rw[<-hx,List.take_take,Nat.min_eq_left GQ]
theorem vV {w:World}{base:Nat}{e:TypeId}{size n:Nat}{v:Value}{xs:List Value}(h:w.ownsRow base e size v n xs)(hn:0<n):∃g cap,v=.slice (some ⟨g,0,none⟩) n cap/\base<=g/\g<w.heap.size/\n<=cap:=by
 rcases h.2 with⟨_,h1⟩ |⟨g,cap,cur,h1,hb,hg,h4,_⟩
 . omega
 . exact⟨g,cap,h1,hb,(Array.getElem?_eq_some_iff.1 hg).1,h4⟩
theorem ai6 {w:World}{base:Nat}{e:TypeId}{size n cap g:Nat}{xs:List Value}(h:w.ownsRow base e size (.slice (some ⟨g,0,none⟩) n cap) n xs)(o:Nat)(vs:List Value)(ho:n*size<=o)(cur:Array Value)(Dg:w.heap[g]?=some (.cells cur e (0,0)))(hl:o+vs.length<=cur.size):
 (w.setRow g (cur.toList.take o++vs++cur.toList.drop (o+vs.length)).toArray).ownsRow base e size (.slice (some ⟨g,0,none⟩) n cap) n xs/\w.grownBy (w.setRow g (cur.toList.take o++vs++cur.toList.drop (o+vs.length)).toArray) (some g):=by
 have hh:=setRow_heap w g cur (cur.toList.take o++vs++cur.toList.drop (o+vs.length)).toArray e (0,0) Dg;constructor
 . refine⟨h.1,?_⟩;rcases h.2 with⟨h1,_⟩ |⟨g',cap',cur',h1,hb,hg,h4,h5,h6,hx⟩
   . simp at h1
   . simp only[Value.slice.injEq,Option.some.injEq,Addr.mk.injEq,and_true,true_and]at h1;obtain⟨rfl,rfl⟩:=h1;rw[Dg]at hg;simp only[Option.some.injEq,Obj.cells.injEq,and_true]at hg;subst hg;refine .inr ⟨g,cap,_,rfl,hb,hh,h4,h5,?_,?_⟩
     . rw[<-h6];have hcl:cur.toList.length=cur.size:=Array.length_toList;simp only[List.size_toArray,List.length_append,List.length_take,List.length_drop,hcl];omega
     . rw[<-hx];have hcl:cur.toList.length=cur.size:=Array.length_toList;simp only[List.append_assoc];rw[List.take_append_of_le_length (by rw[List.length_take,hcl];omega),List.take_take,Nat.min_eq_left ho]
 . refine⟨rfl,rfl,rfl,by simp[World.setRow],λk hk hne=>?_⟩;unfold World.setRow;simp only[Array.getElem?_modify];rw[if_neg (λe=>hne (by rw[e]))]
theorem OS {P:Program}(w:World)(t e:TypeId)(z:Value)(size:Nat)(ht:P.underlying t=some (.slice e))(hv:∀w,(zeroValue e).run P w=.ok z w)(hz:z.cells.size=size)(h1:∀v∈z.cells.toList,v.oneCell'=true)(g n m cap c:Nat)(base:Nat)(xs:List Value)
 (h:w.ownsRow base e size (.slice (some ⟨g,0,none⟩) n cap) n xs) (hm:n+m<=cap):
 ∃w',(∀ty,(Builtin.clear_ #[t] ty #[.slice (some ⟨g,n*size,none⟩) m c]).run P w=.ok (.tuple #[]) w')/\w'.ownsRow base e size (.slice (some ⟨g,0,none⟩) n cap) n xs/\w.grownBy w' (some g):=by
 rcases h.2 with⟨h2,_⟩ |⟨g',cap',cur,h2,hb,hg,h4,h5,h6,hx⟩
 . simp at h2
 simp only[Value.slice.injEq,Option.some.injEq,Addr.mk.injEq,and_true,true_and]at h2;obtain⟨rfl,rfl⟩:=h2;by_cases hm0:m=0
 . subst hm0;refine⟨w,λty=>?_,h,World.grownBy.refl _ _⟩;simp[Builtin.clear_,run_underlying ht]
 . obtain⟨vs,hvs⟩:=aB ((Builtin.zeroCells z.cells m).toList);have hvl:vs.length=m*size:=by rw[<-hvs,Array.length_toList,size_zeroCells,hz]
   have hvo:∀v∈vs,v.oneCell'=true:=by
    intro v hv2;rw[<-hvs]at hv2;unfold Builtin.zeroCells at hv2;simp only[Array.toList_map,Array.toList_range,List.mem_map,List.mem_range]at hv2;obtain⟨i,hi,rfl⟩:=hv2;have hs:0<z.cells.size:=by
     rcases Nat.eq_zero_or_pos z.cells.size with h0|h0
     . rw[h0]at hi;simp at hi
     . exact h0
    have:=Nat.mod_lt i hs;rw[getElem!_pos z.cells (i%z.cells.size) this];exact h1 _ zm
   have hle:n*size+0+vs.length<=cur.size:=by rw[hvl,h6];have:=Nat.mul_le_mul_right size hm;rw[Nat.add_mul]at this;omega
   have hst:=run_storeCells_at (P:=P) g (n*size) e vs 0 cur w hg hle hvo;obtain⟨k1,k2⟩:=ai6 h (n*size) vs (Nat.le_refl _) cur hg zo;refine⟨_,λty=>?_,k1,k2⟩;obtain⟨m',rfl⟩:∃m',m=m'+1:=⟨m-1,by omega⟩;simp[Builtin.clear_,run_underlying ht,hv,hvs,hst]
def Sl (a:Option Addr)(n cap:Nat):Prop:=n<=cap/\(a=none->cap=0)
theorem Sl.nil :Sl none 0 0:=⟨Nat.le_refl _,λ_=>rfl⟩
theorem Sl.some (x:Addr)(n cap:Nat)(h:n<=cap):Sl (some x) n cap:=⟨h,λe=>by cases e⟩
theorem sJ {w:World}{base:Nat}{e:TypeId}{size n k cap:Nat}{a:Option Addr}{xs:List Value}(h:w.ownsRow base e size (.slice a k cap) n xs):Sl a k cap:=by
 rcases h.2 with⟨h1,_⟩ |⟨g,cap',cur,h1,hb,hg,h4,_⟩
 . simp only[Value.slice.injEq]at h1;obtain⟨rfl,rfl,rfl⟩:=h1;exact Sl.nil
 . simp only[Value.slice.injEq]at h1;obtain⟨rfl,rfl,rfl⟩:=h1;exact Sl.some _ _ _ h4
theorem Zd {P:Program}{w:World}{ops:Array Oper}{rest:List Oper}{o:Oper}{a:Act}{Q:Exit->Act->World->Prop}(hgd:o.guard=none)(s x:Operand)(t:TypeId)
 (ho:o.op=.call {callee:=.builtin .append,args:=#[s,x],argTypes:=#[t,t]})
 (base:Nat) (e:TypeId) (i:TypeInfo) (z:Value) (size bytes:Nat) (ht:P.underlying t=Option.some (.slice e)) (hi:P.info? e=Option.some i) (hz:i.zero=Option.some z)
 (hsize:i.size=size) (hby:i.bytes=bytes) (hzs:z.cells.size=size) (hsz:0<size)
 (v:Value) (n:Nat) (xs:List Value) (hs:a.eval s=v) (hown:w.ownsRow base e size v n xs)
 (aa:Option Addr) (m c:Nat) (news:List Value) (hx:a.eval x=.slice aa m c) (hsl:aa=none->m=0/\c=0) (hl:news.length=m*size) (hat:At w aa news) (h1:∀u∈news,u.oneCell'=true)
 (h63:n+m<=maxLen) (hbytes:(n+m) *bytes<=140737488355328) (hbase:base<=w.heap.size)
 (h:∀v' w',w'.ownsRow base e size v' (n+m) (xs++news)->w.grownBy w' v.ownBlock->(v'.ownBlock=v.ownBlock\/v'.ownBlock=Option.some w.heap.size)->wpList P ops Q rest (a.put o.dst v') w'):
 wpList P ops Q (o::rest) a w:=by
 cases aa with
 |none=>obtain⟨hm,hc⟩:=hsl rfl;subst hc;subst hm;have hn:news=[]:=List.eq_nil_of_length_eq_zero (by simpa using hl);subst hn;refine wpList_append_own_none hgd s x t ho base e i size ht hi v n xs hs hown hx ?_;exact h v w (by simpa using hown) (World.grownBy.refl _ _) (.inl rfl)
 | some ad=>
   refine wpList_append_own_at w hgd s x t ho base e i z size bytes ht hi hz hsize hby hzs hsz v n xs hs hown ad m c news hx hl ?_ h1 h63 hbytes hbase (λv' w' h2 h3 _ h5=>h v' w' h2 h3 h5);intro j u hj;rcases hat with h0|⟨b,o',e',hc⟩
   . subst h0;simp at hj
   . simp only[Option.some.injEq]at e';subst e';have hjl:=(List.getElem?_eq_some_iff.1 hj).1;have e2:((⟨b,o',none⟩:Addr).add j)=⟨b,o'+j,none⟩:=by unfold Addr.add;cases j<;>simp
     rw[e2,hc j hjl];exact hj
theorem oO {P:Program}{w:World}{ops:Array Oper}{rest:List Oper}{o:Oper}{a:Act}{Q:Exit->Act->World->Prop}(hgd:o.guard=none)(s x:Operand)(t:TypeId)
 (ho:o.op=.call {callee:=.builtin .append,args:=#[s,x],argTypes:=#[t,t]})
 (base:Nat) (e:TypeId) (i:TypeInfo) (z:Value) (size bytes:Nat) (ht:P.underlying t=Option.some (.slice e)) (hi:P.info? e=Option.some i) (hz:i.zero=Option.some z)
 (hsize:i.size=size) (hby:i.bytes=bytes) (hzs:z.cells.size=size) (hsz:0<size)
 (v:Value) (n:Nat) (xs:List Value) (hs:a.eval s=v) (hown:w.ownsRow base e size v n xs)
 (aa:Option Addr) (m c:Nat) (news:List Value) (hx:a.eval x=.slice aa m c) (hsl:Sl aa m c) (hl:news.length=m*size) (hat:At w aa news) (h1:∀u∈news,u.oneCell'=true)
 (h63:n+m<=maxLen) (hbytes:(n+m) *bytes<=140737488355328) (hbase:base<=w.heap.size)
 (h:∀v' w',w'.ownsRow base e size v' (n+m) (xs++news)->w.grownBy w' v.ownBlock->(v'.ownBlock=v.ownBlock\/v'.ownBlock=Option.some w.heap.size)->wpList P ops Q rest (a.put o.dst v') w'):
 wpList P ops Q (o::rest) a w:=
 Zd hgd s x t ho base e i z size bytes ht hi hz hsize hby hzs hsz v n xs hs hown aa m c news hx (λe=>⟨by have h1:=hsl.1;have h2:=hsl.2 e;omega,hsl.2 e⟩) hl hat h1 h63 hbytes hbase h
theorem At.cut {w:World}{a:Option Addr}{xs:List Value}{k cap size n:Nat}(h:At w a xs)(hl:xs.length=n*size)(hk:k<=n)(hc:n<=cap):At w (if cap=k then a else a.map (·.add (k*size))) (xs.drop (k*size)):=by
 rcases h with h0|⟨b,o,rfl,hcs⟩
 . subst h0;simp;exact .inl rfl
 . by_cases e:cap=k
   . have:xs.drop (k*size)=[]:=List.drop_of_length_le (by rw[hl];exact Nat.mul_le_mul_right _ zo);rw[this];exact .inl rfl
   . rw[if_neg e];have e2:((⟨b,o,none⟩:Addr).add (k*size))=⟨b,o+k*size,none⟩:=by unfold Addr.add;split<;>simp_all
     refine .inr ⟨b,o+k*size,by rw[Option.map_some,e2],λj hj=>?_⟩;rw[List.length_drop]at hj;rw[Nat.add_assoc,hcs _ zo,List.getElem?_drop]
theorem Sl.cut {a:Option Addr}{k cap size n:Nat}(h:Sl a n cap)(hk:k<=n):Sl (if cap=k then a else a.map (·.add (k*size))) (n-k) (cap-k):=by
 refine⟨by have:=h.1;omega,λe=>?_⟩;by_cases e1:cap=k
 . omega
 . rw[if_neg e1]at e
   have:=h.2 (by cases a with
    |none=>rfl
    |some x=>simp at e)
   omega
def Pc (w:World)(v:Value)(cC:List Raw):Prop:=∃a cap,v=.slice a cC.length cap/\At w a (cC.flatMap bo)/\Sl a cC.length cap
theorem Pc.below {w w':World}{v:Value}{cC:List Raw}(h:Pc w v cC)(hb:Bw w w'):Pc w' v cC:=by obtain⟨a,cap,hv,ha,hs⟩:=h;exact⟨a,cap,hv,ha.below hb,hs⟩
def jW (w:World)(a:Option Addr)(rows:List (List Raw)):Prop:=∃vals:List Value,vals.length=rows.length/\At w a vals/\∀i (h:i<rows.length) (h':i<vals.length),Pc w vals[i] rows[i]
theorem jW.below {w w':World}{a:Option Addr}{rows:List (List Raw)}(h:jW w a rows)(hb:Bw w w'):jW w' a rows:=by obtain⟨vals,hl,ha,hp⟩:=h;exact⟨vals,hl,ha.below hb,λi h1 h2=>(hp i h1 h2).below hb⟩
theorem jW.tbl {w:World}{a:Option Addr}{rows:List (List Raw)}(h:jW w a rows):aR w a rows:=by obtain⟨vals,hl,ha,hp⟩:=h;refine⟨vals,hl,ha,λi h1 h2=>?_⟩;obtain⟨a',c',e1,e2,_⟩:=hp i h1 h2;exact⟨a',c',e1,e2⟩
theorem jW.row {w:World}{a:Option Addr}{rows:List (List Raw)}(h:jW w a rows)(k:Nat)(hk:k<rows.length):
 ∃b o a' cap',a=some ⟨b,o,none⟩/\w.cell? ⟨b,o+k,none⟩=some (.slice a' rows[k].length cap')/\At w a' (rows[k].flatMap bo)/\Sl a' rows[k].length cap':=by
 obtain⟨vals,hl,ha,hp⟩:=h;have hk2:k<vals.length:=by rw[hl];exact hk
 obtain⟨b,o,hab,hcs⟩:=ha.get (by intro h0;rw[h0]at hk2;simp at hk2);obtain⟨a',cap',hv,hat,hs⟩:=hp k hk hk2;exact⟨b,o,a',cap',hab,by rw[hcs k hk2,List.getElem?_eq_getElem hk2,hv],hat,hs⟩
theorem yi (cC:List Raw):∀u∈cC.flatMap bo,u.oneCell'=true:=by intro u hu;obtain⟨r,_,hr⟩:=List.mem_flatMap.1 hu;simp only[bo,List.mem_cons,List.not_mem_nil,or_false]at hr;rcases hr with rfl|rfl|rfl<;>rfl
theorem aco {P:Program}(t tx ty:TypeId)(e e':TypeId)(ht:P.underlying t=some (.slice e))(hx:P.underlying tx=some (.slice e'))(u v:Value)(w:World):(Builtin.append_ #[t,tx] ty #[u,v]).run P w=(Builtin.append_ #[t,t] ty #[u,v]).run P w:=by unfold Builtin.append_;cases u<;>simp[Sem.run_bind,run_underlying ht,run_underlying hx]
theorem al3 {P:Program}{w:World}{o:Oper}{a:Act}{K:Act->World->Prop}{Q:Exit->Act->World->Prop}(s x:Operand)(t tx:TypeId)(e':TypeId)(htx:P.underlying tx=some (.slice e'))
 (ho:o.op=.call {callee:=.builtin .append,args:=#[s,x],argTypes:=#[t,tx]})
 (base:Nat) (e:TypeId) (i:TypeInfo) (z:Value) (size bytes:Nat) (ht:P.underlying t=Option.some (.slice e)) (hi:P.info? e=Option.some i) (hz:i.zero=Option.some z)
 (hsize:i.size=size) (hby:i.bytes=bytes) (hzs:z.cells.size=size) (hsz:0<size)
 (v:Value) (n:Nat) (xs:List Value) (hs:a.eval s=v) (hown:w.ownsRow base e size v n xs)
 (aa:Option Addr) (m c:Nat) (news:List Value) (hx:a.eval x=.slice aa m c) (hsl:Sl aa m c) (hl:news.length=m*size) (hat:At w aa news) (h1:∀u∈news,u.oneCell'=true)
 (h63:n+m<=maxLen) (hbytes:(n+m) *bytes<=140737488355328) (hbase:base<=w.heap.size)
 (h:∀v' w',w'.ownsRow base e size v' (n+m) (xs++news)->w.grownBy w' v.ownBlock->(v'.ownBlock=v.ownBlock\/v'.ownBlock=Option.some w.heap.size)->K (a.put o.dst v') w'):o.wp P a w K Q:=by
 have key:∃v' w',(Builtin.append_ #[t,tx] o.type #[v,.slice aa m c]).run P w=.ok v' w'/\w'.ownsRow base e size v' (n+m) (xs++news)/\w.grownBy w' v.ownBlock/\(v'.ownBlock=v.ownBlock\/v'.ownBlock=Option.some w.heap.size):=by
  rw[aco t tx o.type e e' ht htx];cases aa with
  | none=>
    have hc:=hsl.2 rfl;have hm:m=0:=by have:=hsl.1;omega
    subst hc;subst hm;have hn:news=[]:=List.eq_nil_of_length_eq_zero (by simpa using hl);subst hn;exact⟨v,w,run_append_owned_none (P:=P) (w:=w) base t o.type e i size ht hi v n xs hown,by simpa using hown,World.grownBy.refl _ _,.inl rfl⟩
  | some ad=>
    obtain⟨v',w',hr,h2,h3,_,h5⟩:=run_append_own_at (P:=P) w base t o.type e i z size bytes ht hi hz hsize hby hzs hsz v n xs hown ad m c news hl (by
     intro j u hj;rcases hat with h0|⟨b,o',Ta,hc⟩
     . subst h0;simp at hj
     . simp only[Option.some.injEq]at Ta;subst Ta;have hjl:=(List.getElem?_eq_some_iff.1 hj).1;have e2:((⟨b,o',none⟩:Addr).add j)=⟨b,o'+j,none⟩:=by unfold Addr.add;cases j<;>simp
       rw[e2,hc j hjl];exact hj) h1 h63 hbytes hbase
    exact⟨v',w',hr,h2,h3,h5⟩
 obtain⟨v',w',hr,h2,h3,h5⟩:=key;unfold Oper.wp execOp;simp only[ho,resolve,invoke,builtin,Sem.run_bind,Sem.run_pure,Result.andThen_ok,List.map_toArray,List.map_cons,List.map_nil,hs,hx,hr];exact h v' w' h2 h3 h5
theorem Zc {P:Program}{w:World}{ops:Array Oper}{rest:List Oper}{o:Oper}{a:Act}{Q:Exit->Act->World->Prop}(hgd:o.guard=none)(s x:Operand)(t tx:TypeId)(e':TypeId)(htx:P.underlying tx=some (.slice e'))
 (ho:o.op=.call {callee:=.builtin .append,args:=#[s,x],argTypes:=#[t,tx]})
 (base:Nat) (e:TypeId) (i:TypeInfo) (z:Value) (size bytes:Nat) (ht:P.underlying t=Option.some (.slice e)) (hi:P.info? e=Option.some i) (hz:i.zero=Option.some z)
 (hsize:i.size=size) (hby:i.bytes=bytes) (hzs:z.cells.size=size) (hsz:0<size)
 (v:Value) (n:Nat) (xs:List Value) (hs:a.eval s=v) (hown:w.ownsRow base e size v n xs)
 (aa:Option Addr) (m c:Nat) (news:List Value) (hx:a.eval x=.slice aa m c) (hsl:Sl aa m c) (hl:news.length=m*size) (hat:At w aa news) (h1:∀u∈news,u.oneCell'=true)
 (h63:n+m<=maxLen) (hbytes:(n+m) *bytes<=140737488355328) (hbase:base<=w.heap.size)
 (h:∀v' w',w'.ownsRow base e size v' (n+m) (xs++news)->w.grownBy w' v.ownBlock->(v'.ownBlock=v.ownBlock\/v'.ownBlock=Option.some w.heap.size)->wpList P ops Q rest (a.put o.dst v') w'):wpList P ops Q (o::rest) a w:=
 wpList_plain hgd λ_ hK=>al3 s x t tx e' htx ho base e i z size bytes ht hi hz hsize hby hzs hsz v n xs hs hown aa m c news hx hsl hl hat h1 h63 hbytes hbase λv' w' h2 h3 h5=>hK _ _ (h v' w' h2 h3 h5)
end Go.Proofs.YtdaadlblknpipaaGreatDoor
namespace Go.Proofs.YtdaadlblknpipaaGreatDoor
open Go.RowKit
attribute [local go_sem ↓] Go.wp_at_zero Go.wp_at_succ
theorem Tryz.apr :(Tryz.prog.info? 107).map (λi=>(i.zero,i.size,i.bytes))=some (some (.agg #[.string (bs []),.bool false,.string (bs []),.int .i64 0]),4,48):=by kernel_rfl
theorem lW (ts:List aK):(ts.flatMap aN).length=ts.length*4:=iY aN 4 (λ_=>rfl) ts
theorem sS (ts:List aK):∀u∈ts.flatMap aN,u.oneCell'=true:=by intro u hu;obtain⟨r,_,hr⟩:=List.mem_flatMap.1 hu;simp only[aN,List.mem_cons,List.not_mem_nil,or_false]at hr;rcases hr with rfl|rfl|rfl|rfl<;>rfl
theorem Pz (t:aK)(ts:List aK):(t::ts).flatMap aN=aN t++ts.flatMap aN:=List.flatMap_cons
theorem At.tail {w:World}{b o c:Nat}{x:aK}{ts:List aK}(h:At w (some ⟨b,o,none⟩) ((x::ts).flatMap aN))(hc:ts.length+1<=c):At w (if c=1 then some ⟨b,o,none⟩else some ⟨b,o+4,none⟩) (ts.flatMap aN):=by
 have hk:=At.cut (k:=1) (size:=4) (n:=ts.length+1) (cap:=c) h (by rw[lW];rfl) zo hc;have e:((x::ts).flatMap aN).drop (1*4)=ts.flatMap aN:=by rw[Pz];rfl
 rw[e]at hk;exact hk
theorem Sl.tail {b o c n:Nat}(h:Sl (Option.some ⟨b,o,none⟩) (n+1) c):Sl (if c=1 then Option.some (⟨b,o,none⟩:Addr)else Option.some ⟨b,o+4,none⟩) n (c-1):=by refine⟨by have:=h.1;omega,λe=>?_⟩;split at e<;>cases e
theorem akK (l l':List UInt8):(uo l l'= -1/\Op.bytesLess l l'=true)\/(uo l l'=1/\Op.bytesLess l l'=false/\Op.bytesLess l' l=true)\/(uo l l'=0/\Op.bytesLess l l'=false/\Op.bytesLess l' l=false):=by
 unfold uo;cases h1:Op.bytesLess l l' with
 |true=>exact .inl ⟨by simp,rfl⟩
 | false=>
   cases h2:Op.bytesLess l' l with
   |true=>exact .inr (.inl ⟨by simp,rfl,rfl⟩)
   |false=>exact .inr (.inr ⟨by simp,rfl,rfl⟩)
theorem Xk (a:Option Addr)(n cap:Nat)(ta:List aK)(a':Option Addr)(n' cap':Nat)(tb:List aK)(B:Nat)(w:World)(hn:ta.length=n)(hn':tb.length=n')(hs:Sl a n cap)(hs':Sl a' n' cap')(hl:n<=65536)(hl':n'<=65536)(ha:At w a (ta.flatMap aN))(ha':At w a' (tb.flatMap aN))
 (vp:∀t∈ta,Fit B t.2) (vq:∀t∈tb,Fit B t.2) (hB:B+2<=268435456) (hT:aF w):
 Calls Tryz.prog 99 #[.slice a n cap,.slice a' n' cap',.func (.func 100) #[] #[],.func (.func 101) #[] #[]] w λe w'=>∃v',e=.returned v'/\w'.ownsRow w.heap.size 107 4 v' (gQ ta tb).length ((gQ ta tb).flatMap aN)/\Bw w w':=by
 obtain⟨i0,hi,hz0,hz1,hz2⟩:=info_parts Tryz.apr;obtain⟨M,hM⟩:=aB (gQ ta tb);have CG:=enters_of Tryz.func100 zk rfl;have CF:=enters_of Tryz.func101 zk rfl;rw[hM];obtain⟨Hi,cG,cH,cE,HM,JK,JJ,Hs,Rt,Ha,oQ,BD⟩:=fR hi hz0 hz1 hz2 hM CG CF hs hs' ha ha' vp;obtain⟨BF,HT,Hn,Rc⟩:=dW vq hT hn hn';obtain⟨N,hN⟩:=aB (n+n');have TR:(n:Int)+(n':Int)=(N:Int):=by omega
 have HN:=ah hN;clear hi hz0 hz1 hz2 hM CG CF hs hs' ha ha' vp vq hT hn hn' hN;have hN1:N<=131072:=by have:=HN.out;omega
 go_enter Tryz.func99,Tryz.ntmps99;go_wp2_with (at_make;refine wpList_make_own _ rfl _ _ 55 rfl w.heap.size 107 i0 _ 4 Tryz.underlying55 Hi.out cG.out cH.out _ _ _ N rfl rfl (by first|exact TR|rfl) (by rw[cE.out];omega) zx (Nat.le_refl _) ?_;intro w1 hown hgrow);obtain⟨hb1,kC⟩:=aL ((Below.refl w.heap.size w).grown hgrow (Nat.le_refl _) (by intro k hk;cases hk)) hown;clear hown hgrow TR
 go_loopw[0,1,9] (λva vb vo wr=>∃(ra rb acc:List aK) (p q ca cb:Nat) (aa ab:Option Addr) (v:Value),v=vo/\va=.slice aa p ca/\vb=.slice ab q cb/\ra.length=p/\rb.length=q/\Sl aa p ca/\Sl ab q cb/\At w aa (ra.flatMap aN)/\At w ab (rb.flatMap aN)/\
  (∀t∈ra,Fit B t.2)/\(∀t∈rb,Fit B t.2)/\wr.ownsRow w.heap.size 107 4 v acc.length (acc.flatMap aN)/\acc.length+p+q<=N/\acc++gQ ra rb=M/\Bw w wr) (λva vb _ _=>(vH va+vH vb).toNat)
 case atStart=>exact⟨ta,tb,[],n,n',cap,cap',a,a',_,rfl,rfl,rfl,Hn.out,Rc.out,Hs.out,Rt.out,Ha.out,oQ.out,BD.out,BF.out,kC.out,by rw[<-HN.out];simp,by simpa using HM.out,hb1.out⟩
 case round=>
  clear hb1 kC Ha oQ Hs Rt BD BF Hn Rc HM;obtain⟨ra,rb,acc,p,q,ca,cb,aa,ab,v,rfl,rfl,rfl,ub,rh,hsa,xO,hat,hat',vp,vq,hov,hlen,hM,pb⟩:=hrel;by_cases hpq:0<p/\0<q
  . obtain ⟨hp,hq⟩:=hpq;obtain⟨x,ra,rfl⟩:∃x l,ra=x::l:=by cases ra with
     |nil=>simp at ub;omega
     |cons x l=>exact⟨x,l,rfl⟩
    obtain⟨y,rb,rfl⟩:∃x l,rb=x::l:=by cases rb with
     |nil=>simp at rh;omega
     |cons x l=>exact⟨x,l,rfl⟩
    obtain⟨l,s,m,e⟩:=x;obtain⟨l',s',m',e'⟩:=y;obtain⟨p,rfl⟩:∃p',p=p'+1:=⟨p-1,by omega⟩;obtain⟨q,rfl⟩:∃q',q=q'+1:=⟨q-1,by omega⟩;have eP:=vp (l,s,m,e) zm;have ke:=vq (l',s',m',e') zm;have UL:∀t∈ra,Fit B t.2:=λt ht=>vp t (by simp[ht]);have UM:∀t∈rb,Fit B t.2:=λt ht=>vq t (by simp[ht]);obtain⟨b1,o1,rfl,hw1⟩:=(hat.below pb).term 0 zm rfl;obtain⟨b2,o2,rfl,hw2⟩:=(hat'.below pb).term 0 zm rfl;simp only[Nat.zero_mul,Nat.add_zero]at hw1 hw2;have gz:b1<w.heap.size:=hat.lt (by rw[Pz];simp[aN]);have fK:b2<w.heap.size:=hat'.lt (by rw[Pz];simp[aN]);have Wc:=hat.tail (c:=ca) (by have:=hsa.1;simp at ub;omega);have iR:=hat'.tail (c:=cb) (by have:=xO.1;simp at rh;omega);have VY:=hsa.tail;have VZ:=xO.tail;have nI:=jJ (p+1) ca 0 0 (rfl:(some ⟨b1,o1,none⟩:Option Addr)=_) zo rfl;have Ie:=jJ (q+1) cb 0 0 (rfl:(some ⟨b2,o2,none⟩:Option Addr)=_) zo rfl;rw[Nat.zero_mul,Nat.add_zero]at nI Ie;have hca:p+1<=ca:=hsa.1;have hcb:q+1<=cb:=xO.1;have Km:Hid (ra.length=p):=by show _=_;simpa using ub
    have Kn:Hid (rb.length=q):=by show _=_;simpa using rh
    obtain⟨Kp,Kq,Ry,Rz,RA,mY,fc,Jv,iW,mn,BD,BF⟩:=fR hsa xO VY VZ Wc iR hat hat' eP ke UL UM;obtain⟨aar,aas,cM,HM,aO,wD⟩:=gN vp vq hov hM pb (HT.out.below pb);have Hx:Hid (aV wr b1 o1 [.string (bs l),.bool s,.string (bs m),.int .i64 e]):=hw1;have Hy:Hid (aV wr b2 o2 [.string (bs l'),.bool s',.string (bs m'),.int .i64 e']):=hw2;have VP:=ub;have VQ:=rh;simp only[List.length_cons]at VP VQ;clear ub rh hsa xO hat hat' vp vq hov hM pb eP ke UL UM hw1 hw2 Wc iR VY VZ VP VQ;have Hb:Hid (Bw wr wr):=Below.refl _ _;have LA:=JK.out;have gB:=aO.out.size;obtain⟨gs,zR⟩:∃g,uo l l'=g:=⟨_,rfl⟩;have Nl:=λW=>akL l s m e l' s' m' e' W;have hcs:=akK l l';rw[zR]at Nl hcs;obtain⟨Rx,QF⟩:=aL Nl hcs;clear Nl hcs zR;go_wp2_with fail;obtain⟨x0,x1,x2,x3⟩:=Hx.out.w4;obtain⟨y0,y1,y2,y3⟩:=Hy.out.w4;have HU:Hid (aF wr):=wD.out;refine bJ (λw'=>w'.cell? ⟨b1,o1,none⟩=some (.string (bs l))/\w'.cell? ⟨b1,o1+1,none⟩=some (.bool s)/\w'.cell? ⟨b1,o1+2,none⟩=some (.string (bs m))/\w'.cell? ⟨b1,o1+3,none⟩=some (.int .i64 e)/\w'.cell? ⟨b2,o2,none⟩=some (.string (bs l'))/\w'.cell? ⟨b2,o2+1,none⟩=some (.bool s')/\w'.cell? ⟨b2,o2+2,none⟩=some (.string (bs m'))/\w'.cell? ⟨b2,o2+3,none⟩=some (.int .i64 e')) (λi=>Nat.blt i 100000) [(0,true),(1,true),(2,true),(3,true),(4,true),(5,true),(6,true),(7,false),(8,true)] zk zk rfl zk zc ⟨x0,x1,x2,x3,y0,y1,y2,y3⟩ ?_;iterate 7 (refine pT rfl rfl ?_ (by intro w' ⟨q0,q1,q2,q3,q4,q5,q6,q7⟩;go_simp;try with_reducible rfl);try simp only[UU])
    refine aI rfl rfl (λK hK=>?_);go_simp;with_reducible refine(Rx.out _).mono ?_
    rintro e w2 ⟨rfl,hq⟩;have ae:Bw wr w2:=by first|exact hq|exact aM hq
    clear x0 x1 x2 x3 y0 y1 y2 y3;replace Hx:=kW Hx ae;replace Hy:=kW Hy ae;replace HU:=kT HU ae;obtain⟨x0,x1,x2,x3⟩:=Hx.out.w4;obtain⟨y0,y1,y2,y3⟩:=Hy.out.w4;replace Hb:=au Hb ae;clear ae;refine hK _ _ (λ_=>⟨x0,x1,x2,x3,y0,y1,y2,y3⟩) ?_;clear hK K;try simp only[UU]
    refine pT rfl rfl ?_;try simp only[UU]
    simp only[aU];have hcs:=QF.out;have hp1:(1:Int)<=(p:Int)+1:=by omega
    have hq1:(1:Int)<=(q:Int)+1:=by omega
    clear QF Rx LA;rcases hcs with⟨rfl,h1⟩ |⟨rfl,h1,h2⟩ |⟨rfl,h1,h2⟩
    . have wz:Hid ((acc++[(l,s,m,e)])++gQ ra ((l',s',m',e')::rb)=M):=by
       show _=_
       rw[<-HM.out,vQ,if_pos h1];simp
      have ww:Hid ((acc++[(l,s,m,e)]).flatMap aN=acc.flatMap aN++[.string (bs l),.bool s,.string (bs m),.int .i64 e]):=by
       show _=_
       rw[List.flatMap_append];rfl
      clear h1;go_wp2_with fail;refine bJ (λw'=>w'.cell? ⟨b1,o1,none⟩=some (.string (bs l))/\w'.cell? ⟨b1,o1+1,none⟩=some (.bool s)/\w'.cell? ⟨b1,o1+2,none⟩=some (.string (bs m))/\w'.cell? ⟨b1,o1+3,none⟩=some (.int .i64 e)) (λi=>Nat.blt i 100000) [(0,true),(1,true),(2,true),(3,true),(6,true),(7,true),(4,false),(5,false),(8,true),(9,true)] zk zk rfl zk zc ⟨x0,x1,x2,x3⟩ ?_;iterate 6 (refine pT rfl rfl ?_ (by intro w' ⟨q0,q1,q2,q3⟩;go_simp;try with_reducible rfl);try simp only[UU])
      refine aI rfl rfl (λK hK=>?_);go_simp;refine hK _ _ (λ_=>⟨aG x0,aG x1,aG x2,aG x3⟩) ?_;clear hK K;try simp only[UU]
      refine bN (λW3=>ak W3 (w2.heap.size) 107 [.string (bs l),.bool s,.string (bs m),.int .i64 e]/\Bw w2 W3) (by first|exact dP|exact dQ) ?_;rintro W3 ⟨qc,ae⟩;clear x0 x1 x2 x3 y0 y1 y2 y3;replace Hx:=kW Hx ae;replace Hy:=kW Hy ae;replace HU:=kT HU ae;have Hc:=ah qc;clear qc;obtain⟨x0,x1,x2,x3⟩:=Hx.out.w4;obtain⟨y0,y1,y2,y3⟩:=Hy.out.w4;obtain⟨c0,c1,c2,c3⟩:=Hc.out.c4;replace Hb:=au Hb ae;clear ae;refine aI rfl rfl (λK hK=>?_);have eF:=ownsRow_below cM.out Hb.out;have hs3:=Hb.out.size;refine wp_append_own _ _ _ 55 rfl w.heap.size 107 i0 _ 4 48 Tryz.underlying55 Hi.out cG.out cH.out cE.out rfl zd v acc.length (acc.flatMap aN) rfl eF ⟨w2.heap.size,0,none⟩ 1 1 [.string (bs l),.bool s,.string (bs m),.int .i64 e] rfl rfl (fM Hc.out) zy zx zo zo ?_;intro v' w8 dv aY _;have nb:∀b,b<w.heap.size->some b≠v.ownBlock:=λb hb e=>by have:=cJ eF b e.symm;omega
      refine hK _ _ (λ_=>⟨bE aY x0 (nb _ gz),bE aY x1 (nb _ gz),bE aY x2 (nb _ gz),bE aY x3 (nb _ gz)⟩) ?_;clear hK K;try simp only[UU]
      iterate 2 (refine pT rfl rfl ?_;try simp only[UU])
      simp only[aU];have wH:=ah ((aJ aO.out Hb.out).grown aY zo (λj e=>cJ eF j e));have iI:Hid (w8.ownsRow w.heap.size 107 4 v' (acc++[(l,s,m,e)]).length ((acc++[(l,s,m,e)]).flatMap aN)):=by
       show w8.ownsRow _ _ _ _ _ _
       rw[ww.out,List.length_append];exact dv
      clear nb eF dv aY x0 x1 x2 x3 y0 y1 y2 y3 c0 c1 c2 c3 nI Ie;go_wp2;go_roundw;case rel=>exact⟨ra,((l',s',m',e')::rb),acc++[(l,s,m,e)],p,(q+1),_,_,_,_,v',rfl,rfl,rfl,Km.out,(by have:=Kn.out;simp;exact this),Ry.out,Kq.out,RA.out,Jv.out,BD.out,aas.out,iI.out,by simp;omega,wz.out,wH.out⟩
      case measure=>simp[vH];omega
    ·
     have wz:Hid ((acc++[(l',s',m',e')])++gQ ((l,s,m,e)::ra) rb=M):=by
      show _=_
      rw[<-HM.out,vQ,if_neg (by rw[h1];decide),if_pos h2];simp
     have ww:Hid ((acc++[(l',s',m',e')]).flatMap aN=acc.flatMap aN++[.string (bs l'),.bool s',.string (bs m'),.int .i64 e']):=by
      show _=_
      rw[List.flatMap_append];rfl
     clear h1 h2
     go_wp2_with fail
     refine bJ (λw'=>w'.cell? ⟨b2,o2,none⟩=some (.string (bs l'))/\w'.cell? ⟨b2,o2+1,none⟩=some (.bool s')/\w'.cell? ⟨b2,o2+2,none⟩=some (.string (bs m'))/\w'.cell? ⟨b2,o2+3,none⟩=some (.int .i64 e')) (λi=>Nat.blt i 100000) [(0,true),(1,true),(2,true),(3,true),(6,true),(7,true),(4,false),(5,false),(8,true),(9,true)] zk zk rfl zk zc ⟨y0,y1,y2,y3⟩ ?_
     iterate 6 (refine pT rfl rfl ?_ (by intro w' ⟨q0,q1,q2,q3⟩;go_simp;try with_reducible rfl);try simp only[UU])
     refine aI rfl rfl (λK hK=>?_)
     go_simp
     refine hK _ _ (λ_=>⟨aG y0,aG y1,aG y2,aG y3⟩) ?_;clear hK K
     try simp only[UU]
     refine bN (λW3=>ak W3 (w2.heap.size) 107 [.string (bs l'),.bool s',.string (bs m'),.int .i64 e']/\Bw w2 W3) (by first|exact dP|exact dQ) ?_
     rintro W3 ⟨qc,ae⟩
     clear x0 x1 x2 x3
     clear y0 y1 y2 y3
     replace Hx:=kW Hx ae
     replace Hy:=kW Hy ae
     replace HU:=kT HU ae
     have Hc:=ah qc;clear qc
     obtain⟨x0,x1,x2,x3⟩:=Hx.out.w4
     obtain⟨y0,y1,y2,y3⟩:=Hy.out.w4
     obtain⟨c0,c1,c2,c3⟩:=Hc.out.c4
     replace Hb:=au Hb ae;clear ae
     refine aI rfl rfl (λK hK=>?_)
     have eF:=ownsRow_below cM.out Hb.out
     have hs3:=Hb.out.size
     refine wp_append_own _ _ _ 55 rfl w.heap.size 107 i0 _ 4 48 Tryz.underlying55 Hi.out cG.out cH.out cE.out rfl zd v acc.length (acc.flatMap aN) rfl eF ⟨w2.heap.size,0,none⟩ 1 1 [.string (bs l'),.bool s',.string (bs m'),.int .i64 e'] rfl rfl (fM Hc.out) zy zx zo zo ?_
     intro v' w8 dv aY _
     have nb:∀b,b<w.heap.size->some b≠v.ownBlock:=λb hb e=>by have:=cJ eF b e.symm;omega
     refine hK _ _ (λ_=>⟨bE aY y0 (nb _ fK),bE aY y1 (nb _ fK),bE aY y2 (nb _ fK),bE aY y3 (nb _ fK)⟩) ?_;clear hK K
     try simp only[UU]
     iterate 2 (refine pT rfl rfl ?_;try simp only[UU])
     simp only[aU]
     have wH:=ah ((aJ aO.out Hb.out).grown aY zo (λj e=>cJ eF j e))
     have iI:Hid (w8.ownsRow w.heap.size 107 4 v' (acc++[(l',s',m',e')]).length ((acc++[(l',s',m',e')]).flatMap aN)):=by
      show w8.ownsRow _ _ _ _ _ _
      rw[ww.out,List.length_append];exact dv
     clear nb eF dv aY x0 x1 x2 x3 y0 y1 y2 y3 c0 c1 c2 c3 nI Ie
     go_wp2
     go_roundw
     case rel=>exact⟨((l,s,m,e)::ra),rb,acc++[(l',s',m',e')],(p+1),q,_,_,_,_,v',rfl,rfl,rfl,(by have:=Km.out;simp;exact this),Kn.out,Kp.out,Rz.out,fc.out,mY.out,aar.out,BF.out,iI.out,by simp;omega,wz.out,wH.out⟩
     case measure=>simp[vH];omega
    ·
     obtain⟨S,hS⟩:=aB (az (s,m,e)+az (s',m',e'))
     have HS:=ah hS
     have wz:Hid ((acc++[(l,canon S)])++gQ ra rb=M):=by
      show _=_
      rw[<-HM.out,vQ,if_neg (by rw[h1];decide),if_neg (by rw[h2];decide)];simp;rw[<-hS];rfl
     have ww:Hid ((acc++[(l,canon S)]).flatMap aN=acc.flatMap aN++[.string (bs l),.bool (ar (dN S)),.string (bs (nt (dN S).natAbs)),.int .i64 (dE S)]):=by
      show _=_
      rw[List.flatMap_append];rfl
     clear h1 h2 hS
     have FW:=JJ.out
     go_wp2_with fail
     refine bJ (λw'=>w'.cell? ⟨b1,o1,none⟩=some (.string (bs l))/\w'.cell? ⟨b1,o1+1,none⟩=some (.bool s)/\w'.cell? ⟨b1,o1+2,none⟩=some (.string (bs m))/\w'.cell? ⟨b1,o1+3,none⟩=some (.int .i64 e)/\w'.cell? ⟨b2,o2,none⟩=some (.string (bs l'))/\w'.cell? ⟨b2,o2+1,none⟩=some (.bool s')/\w'.cell? ⟨b2,o2+2,none⟩=some (.string (bs m'))/\w'.cell? ⟨b2,o2+3,none⟩=some (.int .i64 e')) (λi=>Nat.blt i 100000) [(0,true),(1,true),(2,true),(3,true),(4,true),(5,true),(6,true),(7,true),(11,true),(12,true),(13,true),(14,true),(8,false),(9,false),(10,false),(15,true),(16,true),(17,true)] zk zk rfl zk zc ⟨x0,x1,x2,x3,y0,y1,y2,y3⟩ ?_
     iterate 12 (refine pT rfl rfl ?_ (by intro w' ⟨q0,q1,q2,q3,q4,q5,q6,q7⟩;go_simp;try with_reducible rfl);try simp only[UU])
     refine aI rfl rfl (λK hK=>?_)
     go_simp
     with_reducible refine(ak1 l s m e l' s' m' e' S B HS.out _ iW.out mn.out hB (by first|exact HU.out|exact aF.drew HU.out|exact aF.alloc HU.out _|exact aF.drew (aF.alloc HU.out _) |exact aF.alloc (aF.drew HU.out) _)).mono ?_
     rintro e w4 ⟨rfl,hq⟩
     have ae:Bw w2 w4:=by first|exact hq|exact aM hq
     clear x0 x1 x2 x3
     clear y0 y1 y2 y3
     replace Hx:=kW Hx ae
     replace Hy:=kW Hy ae
     replace HU:=kT HU ae
     obtain⟨x0,x1,x2,x3⟩:=Hx.out.w4
     obtain⟨y0,y1,y2,y3⟩:=Hy.out.w4
     replace Hb:=au Hb ae;clear ae
     refine hK _ _ (λ_=>⟨x0,x1,x2,x3,y0,y1,y2,y3⟩) ?_;clear hK K
     try simp only[UU]
     refine aI rfl rfl (λK hK=>?_)
     go_simp
     refine hK _ _ (λ_=>⟨aG x0,aG x1,aG x2,aG x3,aG y0,aG y1,aG y2,aG y3⟩) ?_;clear hK K
     try simp only[UU]
     refine bN (λW5=>ak W5 (w4.heap.size) 107 [.string (bs l),.bool (ar (dN S)),.string (bs (nt (dN S).natAbs)),.int .i64 (dE S)]/\Bw w4 W5) (by first|exact dP|exact dQ) ?_
     rintro W5 ⟨qc,ae⟩
     clear x0 x1 x2 x3
     clear y0 y1 y2 y3
     replace Hx:=kW Hx ae
     replace Hy:=kW Hy ae
     replace HU:=kT HU ae
     have Hc:=ah qc;clear qc
     obtain⟨x0,x1,x2,x3⟩:=Hx.out.w4
     obtain⟨y0,y1,y2,y3⟩:=Hy.out.w4
     obtain⟨c0,c1,c2,c3⟩:=Hc.out.c4
     replace Hb:=au Hb ae;clear ae
     refine aI rfl rfl (λK hK=>?_)
     have eF:=ownsRow_below cM.out Hb.out
     have hs3:=Hb.out.size
     refine wp_append_own _ _ _ 55 rfl w.heap.size 107 i0 _ 4 48 Tryz.underlying55 Hi.out cG.out cH.out cE.out rfl zd v acc.length (acc.flatMap aN) rfl eF ⟨w4.heap.size,0,none⟩ 1 1 [.string (bs l),.bool (ar (dN S)),.string (bs (nt (dN S).natAbs)),.int .i64 (dE S)] rfl rfl (fM Hc.out) zy zx zo zo ?_
     intro v' w8 dv aY _
     have nb:∀b,b<w.heap.size->some b≠v.ownBlock:=λb hb e=>by have:=cJ eF b e.symm;omega
     refine hK _ _ (λ_=>⟨bE aY x0 (nb _ gz),bE aY x1 (nb _ gz),bE aY x2 (nb _ gz),bE aY x3 (nb _ gz),bE aY y0 (nb _ fK),bE aY y1 (nb _ fK),bE aY y2 (nb _ fK),bE aY y3 (nb _ fK)⟩) ?_;clear hK K
     try simp only[UU]
     iterate 3 (refine pT rfl rfl ?_;try simp only[UU])
     simp only[aU]
     have wH:=ah ((aJ aO.out Hb.out).grown aY zo (λj e=>cJ eF j e))
     have iI:Hid (w8.ownsRow w.heap.size 107 4 v' (acc++[(l,canon S)]).length ((acc++[(l,canon S)]).flatMap aN)):=by
      show w8.ownsRow _ _ _ _ _ _
      rw[ww.out,List.length_append];exact dv
     clear nb eF dv aY x0 x1 x2 x3 y0 y1 y2 y3 c0 c1 c2 c3 nI Ie
     go_wp2
     go_roundw
     case rel=>exact⟨ra,rb,acc++[(l,canon S)],p,q,_,_,_,_,v',rfl,rfl,rfl,Km.out,Kn.out,Ry.out,Rz.out,RA.out,mY.out,BD.out,BF.out,iI.out,by simp;omega,wz.out,wH.out⟩
     case measure=>simp[vH];omega
  . have hmr:gQ ra rb=ra++rb:=by
     have:p=0\/q=0:=by omega
     rcases this with rfl|rfl
     . rw[List.eq_nil_of_length_eq_zero ub,Ai];rfl
     . rw[List.eq_nil_of_length_eq_zero rh,Aj];simp
    have TP:M.length=acc.length+p+q:=by rw[<-hM,hmr];simp[ub,rh];omega
    have ww:Hid (M.flatMap aN=(acc.flatMap aN++ra.flatMap aN)++rb.flatMap aN):=by
     show _=_
     rw[<-hM,hmr,<-List.append_assoc,List.flatMap_append,List.flatMap_append]
    have hlr:(ra.flatMap aN).length=p*4:=by rw[lW,ub]
    have Vq:(rb.flatMap aN).length=q*4:=by rw[lW,rh]
    have gL:=hat.below pb;have anq:=hlen;obtain⟨Fa,aaS,iU,fc,cM,aO,Kp,Kq,Zz⟩:=Ig hlr Vq gL hat' hov pb hsa xO TP;clear ub rh hmr hlr Vq hat hat' gL hov pb hsa xO hM vp vq TP;have hsz:=aO.out.size;by_cases h0:0<p
    all_goals
     go_wp2_with (first| (at_builtin;refine oO rfl (.tmp 70) (.tmp 71) 55 rfl w.heap.size 107 i0 _ 4 48 Tryz.underlying55 Hi.out cG.out cH.out cE.out rfl zd v acc.length (acc.flatMap aN) rfl cM.out aa p ca (ra.flatMap aN) rfl Kp.out Fa.out iU.out (sS ra) zx zo hsz ?_;intro v1 w2 cP hg1 hb1) | (at_builtin;refine oO rfl (.tmp 72) (.tmp 73) 55 rfl w.heap.size 107 i0 _ 4 48 Tryz.underlying55 Hi.out cG.out cH.out cE.out rfl zd v1 (acc.length+p) (acc.flatMap aN++ra.flatMap aN) rfl cP ab q cb (rb.flatMap aN) rfl Kq.out aaS.out (fc.out.below (aO.out.grown hg1 hsz (λj e=>cJ cM.out j e))) (sS rb) zx zo (Nat.le_trans hsz hg1.size) ?_;intro v2 w3 dO hg2 hb2))
     go_ret
     refine⟨v2,rfl,?_,(aO.out.grown hg1 hsz (λj e=>cJ cM.out j e)).grown hg2 (Nat.le_trans hsz hg1.size) (λj e=>cJ cP j e)⟩
     rw[Zz.out,ww.out];exact dO
end Go.Proofs.YtdaadlblknpipaaGreatDoor
namespace Go.Proofs.YtdaadlblknpipaaGreatDoor
open Go.RowKit
theorem alg (ts:List aK)(i:Nat)(hi:i<ts.length)(t:aK):(((((ts.flatMap aN).set (i*4) (.string (bs t.1))).set (i*4+1) (.bool t.2.1)).set (i*4+2) (.string (bs t.2.2.1))).set (i*4+3) (.int .i64 t.2.2.2))=(ts.set i t).flatMap aN:=by
 induction ts generalizing i with
 |nil=>simp at hi
 | cons x ts ih=>
   have e:∀(y:aK) zs,(y::zs).flatMap aN=.string (bs y.1)::.bool y.2.1::.string (bs y.2.2.1)::.int .i64 y.2.2.2::zs.flatMap aN:=λy zs=>rfl;cases i with
   |zero=>rw[e];rfl
   |succ i=>rw[List.set_cons_succ,e,e,<-ih i (by simpa using hi),show(i+1) *4=i*4+1+1+1+1 by omega];rfl
theorem alf (ts:List aK)(i:Nat)(hi:i<ts.length)(r:Raw):((((ts.flatMap aN).set (i*4+1) (.bool r.1)).set (i*4+2) (.string (bs r.2.1))).set (i*4+3) (.int .i64 r.2.2))=(ts.set i (ts[i].1,r)).flatMap aN:=by
 induction ts generalizing i with
 |nil=>simp at hi
 | cons x ts ih=>
   have e:∀(y:aK) zs,(y::zs).flatMap aN=.string (bs y.1)::.bool y.2.1::.string (bs y.2.2.1)::.int .i64 y.2.2.2::zs.flatMap aN:=λy zs=>rfl;cases i with
   |zero=>rw[e];rfl
   |succ i=>rw[List.set_cons_succ,e,e,List.getElem_cons_succ,<-ih i (by simpa using hi),show(i+1) *4=i*4+1+1+1+1 by omega];rfl
theorem mM {w:World}{base:Nat}{e:TypeId}{size n cap g:Nat}{xs:List Value}(h:w.ownsRow base e size (.slice (some ⟨g,0,none⟩) n cap) n xs)(o:Nat):w.frozen? ⟨g,o,none⟩=false:=by
 rcases h.2 with⟨h1,_⟩ |⟨g',cap',cur,h1,hb,hg,_⟩
 . simp at h1
 . simp only[Value.slice.injEq,Option.some.injEq,Addr.mk.injEq,and_true,true_and]at h1;obtain⟨rfl,rfl⟩:=h1;have h4:ak w g e cur.toList:=by unfold ak;simpa using hg
   exact h4.free o
theorem yl {w:World}{base:Nat}{e:TypeId}{size n cap g:Nat}{xs:List Value}(h:w.ownsRow base e size (.slice (some ⟨g,0,none⟩) n cap) n xs):base<=g/\g<w.heap.size:=by
 rcases h.2 with⟨h1,_⟩ |⟨g',cap',cur,h1,hb,hg,_⟩
 . simp at h1
 . simp only[Value.slice.injEq,Option.some.injEq,Addr.mk.injEq,and_true,true_and]at h1;obtain⟨rfl,rfl⟩:=h1;exact⟨hb,(Array.getElem?_eq_some_iff.1 hg).1⟩
theorem IC {w:World}{base n cap g:Nat}{e:TypeId}{ts:List aK}(h:w.ownsRow base e 4 (.slice (some ⟨g,0,none⟩) n cap) n (ts.flatMap aN))(k:Nat)(hk:k<ts.length){l:List UInt8}{s:Bool}{m:List UInt8}{ex:Int}(hx:ts[k]=(l,s,m,ex)):
 aV w g (k*4) [.string (bs l),.bool s,.string (bs m),.int .i64 ex]:=by
 obtain⟨a,c,hv,hat,_⟩:=di h;simp only[Value.slice.injEq,true_and]at hv;obtain⟨rfl,rfl⟩:=hv;obtain⟨b,o,hab,hw⟩:=hat.term k hk hx;simp only[Option.some.injEq,Addr.mk.injEq,and_true]at hab;obtain⟨rfl,rfl⟩:=hab;rwa [Nat.zero_add]at hw
theorem ai7 {w:World}{base n cap g:Nat}{e:TypeId}{ts:List aK}(h:w.ownsRow base e 4 (.slice (some ⟨g,0,none⟩) n cap) n (ts.flatMap aN))(i:Nat)(hi:i<ts.length)(l:List UInt8)(s:Bool)(m:List UInt8)(ex:Int):
 ((((w.setCell ⟨g,i*4,none⟩ (.string (bs l))).setCell ⟨g,i*4+1,none⟩ (.bool s)).setCell ⟨g,i*4+2,none⟩ (.string (bs m))).setCell ⟨g,i*4+3,none⟩ (.int .i64 ex)).ownsRow base e 4 (.slice (some ⟨g,0,none⟩) n cap) n ((ts.set i (l,s,m,ex)).flatMap aN):=by
 rw[<-alg ts i hi (l,s,m,ex)];exact jL (jL (jL (jL h _ _) _ _) _ _) _ _
theorem XF {w:World}{base n cap g:Nat}{e:TypeId}{ts:List aK}(h:w.ownsRow base e 4 (.slice (some ⟨g,0,none⟩) n cap) n (ts.flatMap aN))(i:Nat)(hi:i<ts.length)(s:Bool)(m:List UInt8)(ex:Int):
 (((w.setCell ⟨g,i*4+1,none⟩ (.bool s)).setCell ⟨g,i*4+2,none⟩ (.string (bs m))).setCell ⟨g,i*4+3,none⟩ (.int .i64 ex)).ownsRow base e 4 (.slice (some ⟨g,0,none⟩) n cap) n ((ts.set i (ts[i].1,s,m,ex)).flatMap aN):=by
 rw[<-alf ts i hi (s,m,ex)];exact jL (jL (jL h _ _) _ _) _ _
theorem Gc {w w':World}(r:Option Nat)(h:Bw w w'):w.grownBy w' r:=⟨h.os,h.tape,h.output,h.size,λk hk _=>h.block k hk⟩
theorem Gd {w w':World}{g:Nat}(h:w.grownBy w' (some g))(a:Nat)(v:Value):w.grownBy (w'.setCell ⟨g,a,none⟩ v) (some g):=grownBy_trans h (grownBy_set g rfl v)
theorem ada {n:Nat}{w w':World}{r:Option Nat}(h:w.grownBy w' r)(hn:n<=w.heap.size)(hr:∀g,r=some g->n<=g):Below n w w':=((Below.refl _ _).mono hn).grown h hn hr
theorem Xn {B:Nat}(a b:List aK)(ha:∀t∈a,Fit B t.2)(hb:∀t∈b,Fit B t.2)(hB:B+1<=268435456):∀t∈gQ a b,Fit (B+1) t.2:=by
 obtain⟨n,hn⟩:=aB (a.length+b.length);induction n using Nat.strongRecOn generalizing a b with
 | _ n ih=>
   cases a with
   |nil=>rw[Ai];exact λt ht=>(hb t ht).mono zo
   | cons x a=>cases b with
     |nil=>rw[Aj];exact λt ht=>(ha t ht).mono zo
     | cons y b=>
       rw[vQ];simp only[List.length_cons]at hn;have ha2:∀t∈a,Fit B t.2:=λt ht=>ha t (by simp[ht]);have hb2:∀t∈b,Fit B t.2:=λt ht=>hb t (by simp[ht]);split
       . intro t ht;rcases List.mem_cons.1 ht with rfl|ht
         . exact(ha _ zm).mono zo
         . exact ih _ (by simp only[List.length_cons];omega) a (y::b) ha2 hb rfl t ht
       . split
         . intro t ht;rcases List.mem_cons.1 ht with rfl|ht
           . exact(hb _ zm).mono zo
           . exact ih _ (by simp only[List.length_cons];omega) (x::a) b ha hb2 rfl t ht
         . intro t ht;rcases List.mem_cons.1 ht with rfl|ht
           . exact((ha x zm).2.add (hb y zm).2).fit hB
           . exact ih _ zo a b ha2 hb2 rfl t ht
theorem Pn {B:Nat}(l:List aK)(h:∀t∈l,Fit B t.2)(hB:B+l.length<=268435456):∀t∈gU l,Fit (B+l.length) t.2:=by
 obtain⟨n,hn⟩:=aB l.length;induction n using Nat.strongRecOn generalizing l with
 | _ n ih=>
   by_cases h2:l.length<2
   . rw[IP l h2];exact λt ht=>(h t ht).mono zo
   . rw[Po l zo];have l1:(l.take (l.length/2)).length=l.length/2:=by rw[List.length_take];omega
     have l2:(l.drop (l.length/2)).length=l.length-l.length/2:=List.length_drop;have h3:=ih _ (by rw[<-hn,l1];omega) (l.take (l.length/2)) (λt ht=>h t (List.mem_of_mem_take ht)) (by rw[l1];omega) rfl;have h4:=ih _ (by rw[<-hn,l2];omega) (l.drop (l.length/2)) (λt ht=>h t (List.mem_of_mem_drop ht)) (by rw[l2];omega) rfl;have:=Xn (B:=B+(l.length-1)) _ _ (λt ht=>(h3 t ht).mono (by rw[l1];omega)) (λt ht=>(h4 t ht).mono (by rw[l2];omega)) zo;rwa [show B+(l.length-1)+1=B+l.length by omega]at this
def Pd (w:World)(ob:Option Nat)(v:Value)(cC:List Raw):Prop:=∃a cap,v=.slice a cC.length cap/\At w a (cC.flatMap bo)/\Sl a cC.length cap/\∀b o,a=some ⟨b,o,none⟩->some b≠ob/\b<w.heap.size
theorem Pd.pc {w:World}{ob:Option Nat}{v:Value}{cC:List Raw}(h:Pd w ob v cC):Pc w v cC:=by obtain⟨a,c,h1,h2,h3,_⟩:=h;exact⟨a,c,h1,h2,h3⟩
theorem Pd.below {w w':World}{ob:Option Nat}{v:Value}{cC:List Raw}(h:Pd w ob v cC)(hb:Bw w w'):Pd w' ob v cC:=by obtain⟨a,c,h1,h2,h3,h4⟩:=h;exact⟨a,c,h1,h2.below hb,h3,λb o e=>⟨(h4 b o e).1,Nat.lt_of_lt_of_le (h4 b o e).2 hb.size⟩⟩
theorem Pd.grown {w w':World}{ob Oj:Option Nat}{v:Value}{cC:List Raw}(h:Pd w ob v cC)(hg:w.grownBy w' ob)(fy:Oj=ob\/Oj=some w.heap.size):Pd w' Oj v cC:=by
 obtain⟨a,c,h1,h2,h3,h4⟩:=h;refine⟨a,c,h1,h2.grown hg (λb o e=>(h4 b o e).1),h3,λb o e=>⟨?_,Nat.lt_of_lt_of_le (h4 b o e).2 hg.size⟩⟩;rcases fy with h|h
 . rw[h];exact(h4 b o e).1
 . rw[h];intro h5;have:=(h4 b o e).2;simp at h5;omega
theorem Pd.own {w:World}{base:Nat}{e:TypeId}{ob:Option Nat}{x:Value}{cC:List Raw}{n:Nat}(h:w.ownsRow base e 3 x n (cC.flatMap bo))(hn:cC.length=n)(fy:∀g,ob=some g->g<base):Pd w ob x cC:=by subst hn;have hl:=h.lt;obtain⟨a,c,hv,hat,hb⟩:=di h;subst hv;refine⟨a,c,rfl,hat,sJ h,λb o e=>?_⟩;subst e;have h1:=hl b rfl;refine⟨λh2=>?_,h1.2⟩;have:=fy b h2.symm;omega
def jV (e:TypeId)(w:World)(base:Nat)(S:List (List Raw))(k:Nat)(v:Value):Prop:=
 ∃vals:List Value,vals.length=k/\w.ownsRow base e 1 v k vals/\∀i (h:i<vals.length),Pd w v.ownBlock vals[i] (S.getD i [])
theorem jV.nil (e:TypeId)(w:World)(base:Nat)(S:List (List Raw)):jV e w base S 0 (.slice none 0 0):=
 ⟨[],rfl,World.ownsRow_nil _ _ _ _,λ_ h=>absurd h (Nat.not_lt_zero _)⟩
theorem jV.below {e:TypeId}{w w':World}{base k:Nat}{S:List (List Raw)}{v:Value}(h:jV e w base S k v)(hb:Bw w w'):jV e w' base S k v:=by obtain⟨vals,hl,ho,hi⟩:=h;exact⟨vals,hl,ownsRow_below ho hb,λi h=>(hi i h).below hb⟩
theorem jV.lt {e:TypeId}{w:World}{base k:Nat}{S:List (List Raw)}{v:Value}(h:jV e w base S k v):∀g,v.ownBlock=some g->base<=g/\g<w.heap.size:=by obtain⟨vals,hl,ho,hi⟩:=h;exact ho.lt
theorem jV.tbl {e:TypeId}{w:World}{base k:Nat}{S:List (List Raw)}{v:Value}(h:jV e w base S k v)(hk:S.length=k):∃a c,v=.slice a k c/\Sl a k c/\jW w a S:=by obtain⟨vals,hl,ho,hi⟩:=h;obtain⟨a,c,hv,hat,_⟩:=di ho;subst hv;refine⟨a,c,rfl,sJ ho,vals,by simp[hl,hk],hat,λi h1 h2=>?_⟩;have:=(hi i h2).pc;rwa [show S.getD i []=S[i]by simp[h1]]at this
theorem PP {P:Program}{w:World}{ops:Array Oper}{rest:List Oper}{o:Oper}{a:Act}{Q:Exit->Act->World->Prop}(hgd:o.guard=none)(s x:Operand)(t:TypeId)
 (ho:o.op=.call {callee:=.builtin .append,args:=#[s,x],argTypes:=#[t,t]})
 (base:Nat) (e:TypeId) (i:TypeInfo) (z:Value) (ht:P.underlying t=Option.some (.slice e)) (hi:P.info? e=Option.some i) (hz:i.zero=Option.some z)
 (hsize:i.size=1) (hby:i.bytes=24) (hzs:z.cells.size=1)
 (v:Value) (k:Nat) (S:List (List Raw)) (hs:a.eval s=v) (hown:jV e w base S k v)
 (g:Nat) (c:Nat) (row:Value) (hx:a.eval x=.slice (some ⟨g,0,none⟩) 1 c) (hc:w.cell? ⟨g,0,none⟩=some row) (hp:Pd w v.ownBlock row (S.getD k []))
 (hk:k<=1000) (hbase:base<=w.heap.size)
 (h:∀v' w',jV e w' base S (k+1) v'->w.grownBy w' v.ownBlock->(∀j,v.ownBlock=some j->base<=j)->wpList P ops Q rest (a.put o.dst v') w'):
 wpList P ops Q (o::rest) a w:=by
 obtain⟨vals,hl,how,hi2⟩:=hown;have h1:row.oneCell'=true:=by obtain⟨a,cp,rfl,_⟩:=hp;rfl
 refine wpList_append_own_at w hgd s x t ho base e i z 1 24 ht hi hz hsize hby hzs zd v k vals hs how ⟨g,0,none⟩ 1 c [row] hx rfl (λj u hj=>?_) (λu hu=>?_) (by unfold maxLen;omega) zo hbase (λv' w' h2 h3 _ h5=>?_)
 . have hj0:j=0:=by have:=(List.getElem?_eq_some_iff.1 hj).1;simp at this;omega
   subst hj0;simp at hj;subst hj;exact hc
 . simp only[List.mem_singleton]at hu;subst hu;exact h1
 . refine h v' w' ⟨_,by simp[hl],h2,λi hi3=>?_⟩ h3 (λj hj=>(how.lt j hj).1);by_cases hk2:i<vals.length
   . rw[List.getElem_append_left hk2];exact(hi2 i hk2).grown h3 h5
   . have hik:i=k:=by simp at hi3;omega
     subst hik;rw[List.getElem_append_right zo];simp only[hl,Nat.sub_self,List.getElem_cons_zero];exact hp.grown h3 h5
end Go.Proofs.YtdaadlblknpipaaGreatDoor
namespace Go.Proofs.YtdaadlblknpipaaGreatDoor
open Go.RowKit
attribute [local go_sem ↓] Go.wp_at_zero Go.wp_at_succ
theorem Oq {w:World}{base base':Nat}{e:TypeId}{size n:Nat}{v:Value}{xs:List Value}(h:w.ownsRow base e size v n xs)(hb:base'<=base):w.ownsRow base' e size v n xs:=by
 refine⟨h.1,?_⟩;rcases h.2 with h1|⟨g,cap,cur,h1,h2,h3⟩
 . exact .inl h1
 . exact .inr ⟨g,cap,cur,h1,by omega,h3⟩
def gp (e:TypeId)(w:World)(base:Nat)(R:List (List Dyadic))(k:Nat)(v:Value):Prop:=
 ∃vals:List Value,vals.length=k/\w.ownsRow base e 1 v k vals/\∀i (h:i<vals.length),w.ownsRow base 30 3 vals[i] (R.getD i []).length (dC (R.getD i []))
theorem gp.nil (e:TypeId)(w:World)(base:Nat)(R:List (List Dyadic)):gp e w base R 0 (.slice none 0 0):=
 ⟨[],rfl,World.ownsRow_nil _ _ _ _,λ_ h=>absurd h (Nat.not_lt_zero _)⟩
theorem gp.below {e:TypeId}{w w':World}{base k:Nat}{R:List (List Dyadic)}{v:Value}(h:gp e w base R k v)(hb:Bw w w'):gp e w' base R k v:=by obtain⟨vals,hl,ho,hi⟩:=h;exact⟨vals,hl,ownsRow_below ho hb,λi h=>ownsRow_below (hi i h) hb⟩
theorem gp.base {e:TypeId}{w:World}{base base' k:Nat}{R:List (List Dyadic)}{v:Value}(h:gp e w base R k v)(hb:base'<=base):gp e w base' R k v:=by obtain⟨vals,hl,ho,hi⟩:=h;exact⟨vals,hl,Oq ho hb,λi h=>Oq (hi i h) hb⟩
theorem gp.push {e:TypeId}{w w':World}{base k n:Nat}{R:List (List Dyadic)}{v v' x:Value}{vals:List Value}(he:30≠e)(hl:vals.length=k)(hov:w.ownsRow base e 1 v k vals)(hi:∀i (h:i<vals.length),w.ownsRow base 30 3 vals[i] (R.getD i []).length (dC (R.getD i [])))
 (hn:(R.getD k []).length=n) (hx:w.ownsRow base 30 3 x n (dC (R.getD k []))) (ho:w'.ownsRow base e 1 v' (k+1) (vals++[x])) (hg:w.grownBy w' v.ownBlock):gp e w' base R (k+1) v':=by
 refine⟨_,by simp[hl],ho,λi h=>?_⟩;by_cases hk:i<vals.length
 . rw[List.getElem_append_left hk];exact(hi i hk).kept hg (wh (hi i hk) hov he)
 . have hik:i=k:=by simp at h;omega
   subst hik;rw[List.getElem_append_right zo];simp only[hl,Nat.sub_self,List.getElem_cons_zero,hn];exact hx.kept hg (wh hx hov he)
theorem gp.tbl {e:TypeId}{w:World}{base k:Nat}{R:List (List Raw)}{v:Value}(h:gp e w base (R.map λr=>r.map az) k v)(hk:R.length=k):∃a c,v=.slice a k c/\k<=c/\aR w a (R.map gX):=by
 obtain⟨vals,hl,ho,hi⟩:=h;obtain⟨a,c,hv,hat,_⟩:=di ho;subst hv;refine⟨a,c,rfl,Ar ho,vals,by simp[hl,hk],hat,λi h1 h2=>?_⟩;obtain⟨a1,c1,e1,e2,_⟩:=di (hi i h2);have hi1:i<R.length:=by simpa using h1
 have eg:(R.map λr=>r.map az).getD i []=R[i].map az:=by simp[hi1]
 rw[eg]at e1 e2;refine⟨a1,c1,?_,?_⟩
 . rw[e1];simp[Ga]
 . rw[List.getElem_map,Tp];exact e2
theorem gp.len {e:TypeId}{w:World}{base k:Nat}{R:List (List Dyadic)}{v:Value}(h:gp e w base R k v):∃a c,v=.slice a k c/\k<=c:=by obtain⟨vals,hl,ho,hi⟩:=h;obtain⟨a,c,hv,_,_⟩:=di ho;subst hv;exact⟨a,c,rfl,Ar ho⟩
theorem alU (a:Option Addr)(L cap:Nat)(rows:List (List Raw))(k0:Nat)(pa:Option Addr)(pn ji:Nat)(Pp:List Raw)(w:World)(hL:rows.length=L)(uS:L<=9)(hP:Pp.length=pn)(zK:pn<=8)(hrow:∀r∈rows,r.length<=8)(ha:aR w a rows)(hp:At w pa (Pp.flatMap bo))
 (hok:∀r∈rows,∀x∈r,Ok x) (pF:∀x∈Pp,Ok x) (hT:aF w) (at9:Int) (nk:∀k:Nat,k<L->((k:Int)=at9↔k=k0)):
 Calls Tryz.prog 48 #[.slice a L cap,.int .i64 at9,.slice pa pn ji] w λe w'=>∃v,e=.returned v/\gp 46 w' w.heap.size ((rows.set k0 Pp).map λr=>r.map az) L v/\Bw w w':=by
 obtain⟨i0,hi,hz0,hz1,hz2⟩:=info_parts Tryz.apl;obtain⟨j0,hj,hy0,hy1,hy2⟩:=info_parts Tryz.apo;obtain⟨R,hR⟩:=aB (rows.set k0 Pp);obtain⟨S,hS⟩:=aB (R.map λr=>r.map az);have uU:R.length=L:=by rw[<-hR];simp[hL]
 have uT:∀r∈R,r.length<=8:=by
  intro r hr;rw[<-hR]at hr;rcases List.mem_or_eq_of_mem_set hr with h|h
  . exact hrow r h
  . rw[h];omega
 have uV:∀r∈R,∀x∈r,Ok x:=by
  intro r hr;rw[<-hR]at hr;rcases List.mem_or_eq_of_mem_set hr with h|h
  . exact hok r h
  . rw[h];exact pF
 have kj:∀(W:World) (k:Nat) (hk:k<L),Bw w W->∃b o a1 c1 n1 aq cq,∃(hk2:k<R.length),a=some ⟨b,o,none⟩/\W.cell? ⟨b,o+k,none⟩=some (.slice a1 n1 c1)/\At W aq (R[k].flatMap bo)/\((k=k0/\aq=pa/\R[k].length=pn/\cq=ji)\/(k≠k0/\aq=a1/\R[k].length=n1/\cq=c1)):=by
  intro W k hk hb;obtain⟨b,o,a1,c1,h1,h2,h3⟩:=(ha.below hb).row k zo;by_cases hkk:k=k0
  . refine⟨b,o,a1,c1,_,pa,ji,by omega,h1,h2,?_,.inl ⟨hkk,rfl,?_,rfl⟩⟩
    . have:R[k]'zo=Pp:=by simp only[<-hR,hkk,List.getElem_set_self]
      rw[this];exact hp.below hb
    . have:R[k]'zo=Pp:=by simp only[<-hR,hkk,List.getElem_set_self]
      rw[this];exact hP
  . have:R[k]'zo=rows[k]'zo:=by simp only[<-hR];exact List.getElem_set_ne (λh=>hkk h.symm) _
    refine⟨b,o,a1,c1,_,a1,c1,by omega,h1,h2,?_,.inr ⟨hkk,rfl,by rw[this],rfl⟩⟩;rw[this];exact h3
 rw[hR,hS];obtain⟨Hi,cG,cH,cE,Hj,gV,iL,iM,HS,EO,Be,Bf⟩:=fR hi hz0 hz1 hz2 hj hy0 hy1 hy2 hS uU uT uV;obtain⟨rG,HT,uC⟩:=cL kj hT nk;clear hi hz0 hz1 hz2 hj hy0 hy1 hy2 hR hS uU uT uV kj ha hp hT hL hP hrow hok pF nk;go_enter Tryz.func48,Tryz.ntmps48;have Hb:Hid (Bw w w):=Below.refl _ _;go_wp2_with fail;go_loopw[7,15] (λs7 x wr=>∃(k:Nat) (v:Value),k<=L/\x=.int .i64 (k:Int)/\v=s7/\gp 46 wr w.heap.size S k v/\Bw w wr) (λ_ x _=>L-(intOf x).toNat);case atStart=>exact⟨0,_,Nat.zero_le _,rfl,rfl,gp.nil _ _ _ _,Hb.out⟩
 case round=>
  clear Hb;obtain⟨k,v,hk,rfl,rfl,pv,pb⟩:=hrel;by_cases hlt:k<L
  . obtain⟨b1,o1,a1,c1,n1,aq,cq,hk2,hab,hc1,hat,kg⟩:=rG.out wr k hlt pb;have iB:=fE L cap k (k:Int) hab hlt rfl;rw[Nat.mul_one]at iB;obtain⟨Q,hQ⟩:=aB (R[k]);rw[hQ]at hat kg;have qK:=Be.out _ (List.getElem_mem hk2);have qN:=Bf.out _ (List.getElem_mem hk2);rw[hQ]at qK qN;obtain⟨Z,hZ⟩:=aB (Q.map az);have ij:S.getD k []=Z:=by rw[<-HS.out,<-hZ,<-hQ];simp[hk2]
    have CR:Q.length<=8:=qK;obtain⟨n,hn⟩:=aB Q.length;rw[hn]at CR kg;obtain⟨fc,Bd,HZ,jR,wQ,Hn,aO,cK⟩:=nJ hat qN hZ ij kg hn pb pv;clear hat qN hZ ij kg hn pb pv hQ hab qK;have gB:=aO.out.size;go_upto_if 22 with fail
    go_cut[9] (λs9 wx=>s9=.slice aq n cq/\wx=wr);case first=>
     rcases wQ.out with⟨rfl,rfl,rfl,rfl⟩ |⟨h1,rfl,rfl,rfl⟩
     . obtain rfl:=(uC.out k hlt).2 rfl;go_wp2_with fail;go_meet;exact⟨rfl,rfl⟩
     . have h3:¬(k:Int)=at9:=λh=>h1 ((uC.out k hlt).1 h);have h2:((k:Int)==at9)=false:=by simpa using h3
       go_wp2_with fail;go_meet;exact⟨rfl,rfl⟩
    case rest=>
     obtain⟨rfl,rfl⟩:=hcut;clear iB hc1;go_wp2_with fail;go_loopw[10,26] (λum x wr=>∃(j:Nat) (v2:Value),j<=n/\x=.int .i64 (j:Int)/\v2=um/\wr.ownsRow wc.heap.size 30 3 v2 j (dC (Z.take j))/\Bw wc wr) (λ_ x _=>n-(intOf x).toNat);case atStart=>exact⟨0,_,Nat.zero_le _,rfl,rfl,World.ownsRow_nil _ _ _ _,Below.refl _ _⟩
     case round=>
      obtain⟨j,v2,hj,rfl,rfl,ho,hb2⟩:=hrel;by_cases bj:j<n
      . have h1:j<Q.length:=by rw[Hn.out];exact bj
        obtain⟨s,m,e,hx⟩:=iA (Q[j]);have hok:=Bd.out _ (List.getElem_mem h1);rw[hx]at hok;obtain⟨X,hX⟩:=aB (az (s,m,e));have cd:Hid (dC (Z.take (j+1))=dC (Z.take j)++[.bool (ar (dN X)),.string (bs (nt (dN X).natAbs)),.int .i64 (dE X)]):=by
         show _=_
         rw[<-HZ.out,List.take_succ_eq_append_getElem (by simpa using h1),qA];congr 1;simp only[List.getElem_map,hx,hX];rfl
        obtain⟨b2,o2,dm,p0,p1,p2⟩:=(fc.out.below hb2).num j h1 hx;have kN:=iZ n cq j (j:Int) dm bj rfl;obtain⟨HX,wA,Ho,bP,wB⟩:=fg hX hok ho hb2 ((HT.out.below aO.out).below hb2);have oM:=hb2.size;have Hp:Hid (aV wr b2 (o2+j*3) [.bool s,.string (bs m),.int .i64 e]):=fS p0 p1 p2;clear hX hok ho hb2 hx dm p0 p1 p2;have Hb:Hid (Bw wr wr):=Below.refl _ _;obtain⟨p0,p1,p2⟩:=Hp.out.w3;have P0:=p0;have P1:=p1;have P2:=p2;obtain⟨W4,mF,ae,Hc⟩:=cN wr 30 [.bool s,.string (bs m),.int .i64 e];clear p0 p1 p2;replace Hp:=kW Hp ae;obtain⟨p0,p1,p2⟩:=Hp.out.w3;obtain⟨c0,c1,c2⟩:=Hc.out.c3;replace Hb:=au Hb ae;clear ae;have HT:Hid (aF W4):=wB.out.below Hb.out;go_wp2_with fail;refine(pp s m e X HX.out _ wA.out HT.out).mono ?_;rintro e w5 ⟨rfl,ae⟩;clear p0 p1 p2 c0 c1 c2;replace Hp:=kW Hp ae;replace Hc:=kB Hc ae;replace HT:=kT HT ae;obtain⟨p0,p1,p2⟩:=Hp.out.w3;obtain⟨c0,c1,c2⟩:=Hc.out.c3;replace Hb:=au Hb ae;clear ae;have Xd:=Hc.out.lt;obtain⟨W6,ot,ae,Hd⟩:=cN w5 30 [.bool (ar (dN X)),.string (bs (nt (dN X).natAbs)),.int .i64 (dE X)];clear p0 p1 p2;replace Hp:=kW Hp ae;clear c0 c1 c2;replace Hc:=kB Hc ae;replace HT:=kT HT ae;obtain⟨p0,p1,p2⟩:=Hp.out.w3;obtain⟨c0,c1,c2⟩:=Hc.out.c3;obtain⟨d0,d1,d2⟩:=Hd.out.c3;replace Hb:=au Hb ae;clear ae;have cm:=ownsRow_below Ho.out Hb.out;have ia:=Hb.out.size;have hnews:=fM Hd.out;clear d0 d1 d2;go_wp2_with (at_builtin;refine wpList_append_own_at _ rfl _ _ 46 rfl wc.heap.size 30 i0 _ 3 32 Tryz.underlying46 Hi.out cG.out cH.out cE.out rfl zd v2 j (dC (Z.take j)) rfl cm ⟨w5.heap.size,0,none⟩ 1 1 [.bool (ar (dN X)),.string (bs (nt (dN X).natAbs)),.int .i64 (dE X)] rfl rfl hnews zy zx zo zo ?_;intro v' w7 dt eD _ _;obtain⟨g',lF,rfl⟩:=ownsRow_succ dt);go_roundw;case rel=>
         refine⟨j+1,_,by omega,by go_num,rfl,?_,?_⟩
         . rw[cd.out];exact dt
         . exact(aJ bP.out Hb.out).grown eD zo (λj e=>cJ cm j e)
        case measure=>simp[intOf];omega
      . obtain rfl:j=n:=by omega
        have fW:Z.take j=Z:=List.take_of_length_le (by rw[<-HZ.out];simp[Hn.out]);rw[fW]at ho;obtain⟨vals,hvl,hov,iD⟩:=cK.out.below hb2;have Hb:Hid (Bw wr wr):=Below.refl _ _;obtain⟨a2,cap2,rfl,_,_⟩:=di ho;obtain⟨Hx,iK,nX,cM,bP⟩:=fg (Oq ho gB) hvl iD hov hb2;have oM:=hb2.size;clear hvl iD hov hb2 fW ho bj hj;obtain⟨W6,ot,ae,Hd⟩:=cN wr 46 [.slice a2 j cap2];have d0:=Hd.out.c1;replace Hb:=au Hb ae;clear ae;have cm:=ownsRow_below cM.out Hb.out;have ia:=Hb.out.size;have hnews:∀i u,([.slice a2 j cap2]:List Value)[i]?=some u->W6.cell? ((⟨wr.heap.size,0,none⟩:Addr).add i)=some u:=fM Hd.out;clear d0;go_wp2_with (at_builtin;refine wpList_append_own_at _ rfl _ _ 23 rfl w.heap.size 46 j0 _ 1 24 Tryz.underlying23 Hj.out gV.out iL.out iM.out rfl zd v k vals rfl cm ⟨wr.heap.size,0,none⟩ 1 1 [.slice a2 j cap2] rfl rfl hnews zy zx zo zo ?_;intro v' w7 dt eD _ fy;obtain⟨g',lF,rfl⟩:=ownsRow_succ dt);go_roundw;case rel=>
         refine⟨k+1,_,by omega,by go_num,rfl,?_,?_⟩
         . exact gp.push zd iK.out cm (λi h=>ownsRow_below (nX.out i h) Hb.out) (n:=j) (by rw[jR.out,<-HZ.out,List.length_map,Hn.out]) (by rw[jR.out];exact ownsRow_below Hx.out Hb.out) dt eD
         . exact(aJ (aJ aO.out bP.out) Hb.out).grown eD zo (λj e=>cJ cm j e)
        case measure=>simp[intOf];omega
  . obtain rfl:k=L:=by omega
    obtain⟨aO,cK⟩:=aL pb pv;clear pv pb;go_wp2;refine bodyPost_ret (v:=v) (by simp[results,Tryz.results48,go_sem]) rfl ⟨v,rfl,cK.out,aO.out⟩
def rJ (e:TypeId)(w:World)(base top:Nat)(R:List (List Dyadic))(k:Nat)(v:Value):Prop:=
 ∃vals:List Value,vals.length=k/\w.ownsRow base e 1 v k vals/\∀i (h:i<vals.length),w.ownsRow base 30 3 vals[i] (R.getD i []).length (dC (R.getD i []))/\∀g,vals[i].ownBlock=some g->g<top
theorem gp.top {e:TypeId}{w:World}{base k:Nat}{R:List (List Dyadic)}{v:Value}(h:gp e w base R k v):rJ e w base w.heap.size R k v:=by obtain⟨vals,hl,ho,hi⟩:=h;exact⟨vals,hl,ho,λi h=>⟨hi i h,λg hg=>((hi i h).lt g hg).2⟩⟩
theorem rJ.below {e:TypeId}{w w':World}{base top k:Nat}{R:List (List Dyadic)}{v:Value}(h:rJ e w base top R k v)(hb:Bw w w'):rJ e w' base top R k v:=by obtain⟨vals,hl,ho,hi⟩:=h;exact⟨vals,hl,ownsRow_below ho hb,λi h=>⟨ownsRow_below (hi i h).1 hb,(hi i h).2⟩⟩
theorem rJ.apG {e:TypeId}{w:World}{base top k:Nat}{R:List (List Dyadic)}{v:Value}(h:rJ e w base top R k v):gp e w base R k v:=by obtain⟨vals,hl,ho,hi⟩:=h;exact⟨vals,hl,ho,λi h=>(hi i h).1⟩
theorem ai5 {w:World}{b1 b2:Nat}{e1 e2:TypeId}{size n1 n2 c1 c2 g:Nat}{x1 x2:List Value}(hs:0<size)(h1:w.ownsRow b1 e1 size (.slice (some ⟨g,0,none⟩) n1 c1) n1 x1)(h2:w.ownsRow b2 e2 size (.slice (some ⟨g,0,none⟩) n2 c2) n2 x2):c1=c2:=by
 rcases h1.2 with⟨h,_⟩ |⟨g1,d1,u1,e1,_,k1,_,_,l1,_⟩
 . simp at h
 rcases h2.2 with⟨h,_⟩ |⟨g2,d2,u2,e2,_,k2,_,_,l2,_⟩
 . simp at h
 simp only[Value.slice.injEq,Option.some.injEq,Addr.mk.injEq,and_true,true_and]at e1 e2;obtain⟨rfl,rfl⟩:=e1;obtain⟨rfl,rfl⟩:=e2;rw[k1]at k2;simp only[Option.some.injEq,Obj.cells.injEq]at k2;obtain⟨rfl,_⟩:=k2;rw[l1]at l2;exact Nat.eq_of_mul_eq_mul_right hs l2
def AR (e:TypeId)(w:World)(base top n:Nat)(vals:List Value)(k:Nat)(v:Value):Prop:=
 w.ownsRow base e 1 v k vals/\∀i (h:i<vals.length),∃g c,vals[i]=.slice (some ⟨g,0,none⟩) n c/\g<top/\base<=g/\n<=c/\w.ownsRow base 30 3 (.slice (some ⟨g,0,none⟩) 0 c) 0 []
theorem rJ.clr {e:TypeId}{w:World}{base top n k:Nat}{R:List (List Dyadic)}{v:Value}(h:rJ e w base top R k v)(hn:1<=n)(hR:R.length=k)(hr:∀r∈R,r.length=n):∃vals,vals.length=k/\AR e w base top n vals k v:=by
 obtain⟨vals,hl,ho,hi⟩:=h;refine⟨vals,hl,ho,λi h=>?_⟩;obtain⟨h1,h2⟩:=hi i h;have hi1:i<R.length:=by omega
 have eg:R.getD i []=R[i]:=by simp[hi1]
 rw[eg,hr _ (List.getElem_mem hi1)]at h1;obtain⟨g,c,hv,hb,_,hc⟩:=vV h1 zo;rw[hv]at h1 h2;refine⟨g,c,hv,h2 g rfl,hb,hc,?_⟩;have:=Ou h1 0 zo;simpa using this
theorem AR.step {e:TypeId}{w w':World}{base top n k g c:Nat}{vals:List Value}{v:Value}(he:30≠e)(h:AR e w base top n vals k v)(hc:w.ownsRow base 30 3 (.slice (some ⟨g,0,none⟩) 0 c) 0 [])(hw:w'.ownsRow base 30 3 (.slice (some ⟨g,0,none⟩) 0 c) 0 [])(hg:w.grownBy w' (some g)):AR e w' base top n vals k v:=by
 obtain⟨ho,hi⟩:=h;refine⟨ho.kept hg (wh ho hc (λh=>he h.symm)),λi h=>?_⟩;obtain⟨g2,c2,h1,h2,h3,h4,h5⟩:=hi i h;refine⟨g2,c2,h1,h2,h3,h4,?_⟩;by_cases e2:g2=g
 . subst e2;obtain rfl:=ai5 zd hc h5;exact hw
 . exact h5.kept hg (.inr (λh=>e2 (by simpa[Value.ownBlock]using h)))
theorem gp.kept {e:TypeId}{w w':World}{base k:Nat}{R:List (List Dyadic)}{v:Value}{g:Nat}(h:gp e w base R k v)(hg:w.grownBy w' (some g))(hb:g<base):gp e w' base R k v:=by obtain⟨vals,hl,ho,hi⟩:=h;exact⟨vals,hl,ho.kept hg (.inr (λh=>by have:=cJ ho g h;omega)),λi h=>(hi i h).kept hg (.inr (λh2=>by have:=cJ (hi i h) g h2;omega))⟩
theorem afX (a:Option Addr)(L cap n:Nat)(rows:List (List Raw))(B:Nat)(i j:Nat)(Y:Dyadic)(w:World)(hL:rows.length=L)(hv:fB rows=n)(hn:1<=n)(ha:aR w a rows)
 (hfit:∀r∈rows,∀c∈r,Fit B c) (hB:B<=10000000) (hT:aF w) (hF:gP (eX rows n) L=(i,j,Y)):
 Calls Tryz.prog 14 #[.slice a L cap] w λe w'=>∃a1 c1 a2 c2 mid,e=.returned (.tuple #[.slice a1 L c1,.slice a2 L c2,.int .i64 0])/\
  rJ 46 w' w.heap.size mid ((rows.set j (fY (rows.getD i []) (rows.getD j []))).map λr=>r.map az) L (.slice a1 L c1)/\gp 46 w' mid ((rows.set i (fY (rows.getD i []) (rows.getD j []))).map λr=>r.map az) L (.slice a2 L c2)/\Bw w w':=by
 obtain⟨i0,hi,hz0,hz1,hz2⟩:=info_parts Tryz.apl;obtain⟨c1,c2,c3,c4⟩:=yz hv zo;have kQ:=λW=>λ(h:aR W a rows) (hT:aF W)=>Ij a L cap n rows B W hL hv hn h hfit hB hT;have hinv:=Ii (eX rows n) L zo;rw[hF]at hinv;simp only[hF]at kQ;obtain⟨hij,qW,hY⟩:=hinv;dsimp only at hij qW hY;have vt:i<L:=by omega
 obtain⟨p,hp'⟩:=aB (rows.getD i []);obtain⟨q,hq'⟩:=aB (rows.getD j []);have ep:rows[i]'zo=p:=by rw[<-hp'];simp[hL,vt]
 have eq:rows[j]'zo=q:=by rw[<-hq'];simp[hL,qW]
 have hpl:p.length=n:=by have:=c4 p (by rw[<-ep];exact List.getElem_mem _);omega
 have rf:q.length=n:=by have:=c4 q (by rw[<-eq];exact List.getElem_mem _);omega
 have fJ:∀x∈p,Fit B x:=by rw[<-ep];exact hfit _ (List.getElem_mem _)
 have rc:∀x∈q,Fit B x:=by rw[<-eq];exact hfit _ (List.getElem_mem _)
 rw[hp',hq'];have xR:=λ(k:Nat) (pa:Option Addr) (pc:Nat) (W:World) (h1:aR W a rows) (h2:At W pa (dC (midD p q))) (h3:aF W)=>alU a L cap rows k pa n pc (fY p q) W hL zo (by rw[Iy zo];exact hpl) zo (λr hr=>by have:=c4 r hr;omega) h1 (by unfold fY;rw[<-qC];exact h2) (λr hr x hx=>(hfit r hr x hx).1) (λx hx=>(NV fJ rc hB x hx).1) h3 (k:Int) (λk _=>by omega);obtain⟨A1,zD⟩:=aB ((rows.set j (fY p q)).map (λr=>r.map az));obtain⟨A2,uQ⟩:=aB ((rows.set i (fY p q)).map (λr=>r.map az));have oH:=xR j;have im:=xR i;rw[zD]at oH⊢;rw[uQ]at im⊢;have hrow:=λ(W:World) (h:aR W a rows)=>h.row i zo;have hrow2:=λ(W:World) (h:aR W a rows)=>h.row j zo;simp only[ep,hpl]at hrow;simp only[eq,rf]at hrow2;obtain⟨Z,hZ⟩:=aB (midD p q);have hst:∀k (h:k<p.length) (h':k<q.length),Z.take (k+1)=Z.take k++[(az p[k]+az q[k]) *hp 1]:=by rw[<-hZ];exact NU p q
 have nj:Z.length=n:=by rw[<-hZ,Ix zo,hpl]
 rw[hZ]at im oH;obtain⟨Hi,cG,cH,cE,tA,Ha,HT,Cj,KI,nU,Ca,cd⟩:=fR hi hz0 hz1 hz2 kQ ha hT im oH hrow hrow2 hst;obtain⟨mh,lw,BW,lv,BV⟩:=fg nj hpl rf fJ rc;have tZ:n<=8:=by omega
 clear hi hz0 hz1 hz2 kQ ha hT im oH xR hrow hrow2 hst nj hpl rf fJ rc ep eq hp' hq' hY hF hfit hv c1 c2 c3 c4 hL hZ zD uQ;have Hb:Hid (Bw w w):=Below.refl _ _;go_enter Tryz.func14,Tryz.ntmps14;go_wp2_with fail;refine(tA.out _ (Ha.out.below Hb.out) (HT.out.below Hb.out)).mono ?_;rintro e w1 ⟨rfl,ae⟩;replace Hb:=au Hb ae;clear ae;obtain⟨w2,Mh,ae,Hx⟩:=cN w1 30 [.bool (ar (dN Y)),.string (bs (nt (dN Y).natAbs)),.int .i64 (dE Y)];obtain⟨x0,x1,x2⟩:=Hx.out.c3;replace Hb:=au Hb ae;clear ae;obtain⟨b0,o0,a1,c1,dA,hc0,fH⟩:=nU.out w2 (Ha.out.below Hb.out);obtain⟨dx,dU,a2,c2,bW,hc1,gL⟩:=Ca.out w2 (Ha.out.below Hb.out);obtain⟨rfl,rfl⟩:dx=b0/\dU=o0:=by rw[dA]at bW;simp at bW;exact⟨bW.1.symm,bW.2.symm⟩
 clear bW;have nH:=fE L cap i (i:Int) dA vt rfl;have nI:=fE L cap j (j:Int) dA qW rfl;rw[Nat.mul_one]at nH nI;obtain⟨jD,nR,gh,iU,jB⟩:=fg hc0 hc1 fH gL dA;clear hc1 fH gL dA;have oM:=Hb.out.size;go_wp2_with fail;go_loopw[8,25] (λs8 x wr=>∃(k:Nat) (v:Value),k<=n/\x=.int .i64 (k:Int)/\v=s8/\wr.ownsRow w2.heap.size 30 3 v k (dC (Z.take k))/\Bw w2 wr) (λ_ x _=>n-(intOf x).toNat);case atStart=>exact⟨0,_,Nat.zero_le _,rfl,rfl,World.ownsRow_nil _ _ _ _,Below.refl _ _⟩
 case round=>
  clear hc0 x0 x1 x2;obtain⟨k,v,hk,rfl,rfl,pv,pb⟩:=hrel;by_cases hlt:k<n
  . have k1:k<p.length:=by rw[lw.out];exact hlt
    have k2:k<q.length:=by rw[BW.out];exact hlt
    obtain⟨sp,mp,ep,dZ⟩:=iA (p[k]);obtain⟨sq,mq,eq,fX⟩:=iA (q[k]);have df:=lv.out _ (List.getElem_mem k1);have ez:=BV.out _ (List.getElem_mem k2);have hst:=cd.out k k1 k2;rw[dZ]at df hst;rw[fX]at ez hst;obtain⟨D,hD⟩:=aB (az (sp,mp,ep)+az (sq,mq,eq));obtain⟨X,hX⟩:=aB (D*hp 1);rw[hD,hX]at hst;have fG:Sm (B+1) D:=by rw[<-hD];exact Sm.add df.2 ez.2
    have AW:Hid (Ok (ar (dN D),nt (dN D).natAbs,dE D)):=(fG.fit zo).1;have HX:Hid (az (ar (dN D),nt (dN D).natAbs,dE D+ -1)=X):=by show _=_;rw[<-hX];exact Pi D 1
    have iX:Hid (dC (Z.take (k+1))=dC (Z.take k)++[.bool (ar (dN X)),.string (bs (nt (dN X).natAbs)),.int .i64 (dE X)]):=by
     show _=_
     rw[hst,qA];rfl
    obtain⟨b1,o1,bW,p0,p1,p2⟩:=(gh.out.below pb).num k k1 dZ;obtain⟨b2,o2,dm,q0,q1,q2⟩:=(iU.out.below pb).num k k2 fX;have iB:=iZ n c1 k (k:Int) bW hlt rfl;have kN:=iZ n c2 k (k:Int) dm hlt rfl;have gz:b1<w2.heap.size:=(by subst bW;exact gh.out.lt (by intro h0;have:=congrArg List.length h0;rw[iY bo 3 (λ_=>rfl)]at this;simp at this;omega));have fK:b2<w2.heap.size:=(by subst dm;exact iU.out.lt (by intro h0;have:=congrArg List.length h0;rw[iY bo 3 (λ_=>rfl)]at this;simp at this;omega));have lQ:dx<w2.heap.size:=World.block_lt_of_cell? w2 _ jD.out;have Hu:Hid (aV wr dx (dU+i) [.slice a1 n c1]):=λj hj=>by
     obtain rfl:j=0:=by simp at hj;omega
     exact cell_later pb jD.out
    have Hv:Hid (aV wr dx (dU+j) [.slice a2 n c2]):=λj hj=>by
     obtain rfl:j=0:=by simp at hj;omega
     exact cell_later pb nR.out
    have Hp:Hid (aV wr b1 (o1+k*3) [.bool sp,.string (bs mp),.int .i64 ep]):=fS p0 p1 p2;have Hq:Hid (aV wr b2 (o2+k*3) [.bool sq,.string (bs mq),.int .i64 eq]):=fS q0 q1 q2;obtain⟨iH,jT,HD,cK,lh,cz⟩:=gN df ez hD pv pb ((HT.out.below Hb.out).below pb);have fT:=Hb;have sQ:=pb.size;clear Hb pv pb df ez hD hX hst fG dZ fX bW dm p0 p1 p2 q0 q1 q2;have Hb:Hid (Bw wr wr):=Below.refl _ _;go_wp2_with fail;have u0:=Hu.out.w1;have v0:=Hv.out.w1;obtain⟨p0,p1,p2⟩:=Hp.out.w3;obtain⟨q0,q1,q2⟩:=Hq.out.w3;refine bJ (λw'=>w'.cell? ⟨dx,dU+i,none⟩=some (.slice a1 n c1)/\w'.cell? ⟨dx,dU+j,none⟩=some (.slice a2 n c2)/\w'.cell? ⟨b1,o1+k*3,none⟩=some (.bool sp)/\w'.cell? ⟨b1,o1+k*3+1,none⟩=some (.string (bs mp))/\w'.cell? ⟨b1,o1+k*3+2,none⟩=some (.int .i64 ep)/\w'.cell? ⟨b2,o2+k*3,none⟩=some (.bool sq)/\w'.cell? ⟨b2,o2+k*3+1,none⟩=some (.string (bs mq))/\w'.cell? ⟨b2,o2+k*3+2,none⟩=some (.int .i64 eq)) (λi=>Nat.blt i 100000) [(0,true),(1,true),(2,true),(3,true),(4,true),(5,true),(6,true),(7,true),(8,true),(9,true),(10,true),(11,true),(12,true),(13,true),(14,true),(15,false),(16,false),(17,false),(18,false),(19,false),(20,true)] zk zk rfl zk zc ⟨u0,v0,p0,p1,p2,q0,q1,q2⟩ ?_;iterate 15 (refine pT rfl rfl ?_ (by intro w' ⟨q0,q1,q2,q3,q4,q5,q6,q7⟩;go_simp;try with_reducible rfl);try simp only[UU])
    refine aI rfl rfl (λK hK=>?_);go_simp;refine hK _ _ (λ_=>⟨aG u0,aG v0,aG p0,aG p1,aG p2,aG q0,aG q1,aG q2⟩) ?_;clear hK K;try simp only[UU]
    refine bN (λw4=>ak w4 (wr.heap.size) 30 [.bool sp,.string (bs mp),.int .i64 ep,.bool sq,.string (bs mq),.int .i64 eq]/\Bw wr w4) (by first|exact dP|exact dQ) ?_;rintro w4 ⟨qe,ae⟩;clear u0 v0 p0 p1 p2 q0 q1 q2;replace Hu:=kW Hu ae;replace Hv:=kW Hv ae;replace Hp:=kW Hp ae;replace Hq:=kW Hq ae;have He:=ah qe;clear qe;have u0:=Hu.out.w1;have v0:=Hv.out.w1;obtain⟨p0,p1,p2⟩:=Hp.out.w3;obtain⟨q0,q1,q2⟩:=Hq.out.w3;obtain⟨e0,e1,e2,e3,e4,e5⟩:=He.out.c6;replace Hb:=au Hb ae;clear ae;refine aI rfl rfl (λK hK=>?_);go_simp;with_reducible refine(zh sp mp ep sq mq eq D B HD.out wr.heap.size 2 30 _ iH.out jT.out zo He.out (by first|exact(cz.out.below Hb.out) |exact aF.drew (cz.out.below Hb.out) |exact aF.alloc (cz.out.below Hb.out) _|exact aF.drew (aF.alloc (cz.out.below Hb.out) _) |exact aF.alloc (aF.drew (cz.out.below Hb.out)) _)).mono ?_
    rintro e w5 ⟨rfl,hq⟩;have ae:Bw w4 w5:=by first|exact hq|exact aM hq
    clear u0 v0 p0 p1 p2 q0 q1 q2 e0 e1 e2 e3 e4 e5;replace Hu:=kW Hu ae;replace Hv:=kW Hv ae;replace Hp:=kW Hp ae;replace Hq:=kW Hq ae;replace He:=kB He ae;have u0:=Hu.out.w1;have v0:=Hv.out.w1;obtain⟨p0,p1,p2⟩:=Hp.out.w3;obtain⟨q0,q1,q2⟩:=Hq.out.w3;obtain⟨e0,e1,e2,e3,e4,e5⟩:=He.out.c6;replace Hb:=au Hb ae;clear ae;refine hK _ _ (λ_=>⟨u0,v0,p0,p1,p2,q0,q1,q2⟩) ?_;clear hK K;try simp only[UU]
    refine aI rfl rfl (λK hK=>?_);go_simp;with_reducible refine(Yu (ar (dN D)) (nt (dN D).natAbs) (dE D) (-1) X HX.out _ AW.out zd (by first|exact(cz.out.below Hb.out) |exact aF.drew (cz.out.below Hb.out) |exact aF.alloc (cz.out.below Hb.out) _|exact aF.drew (aF.alloc (cz.out.below Hb.out) _) |exact aF.alloc (aF.drew (cz.out.below Hb.out)) _)).mono ?_
    rintro e w6 ⟨rfl,hq⟩;have ae:Bw w5 w6:=by first|exact hq|exact aM hq
    clear u0 v0 p0 p1 p2 q0 q1 q2 e0 e1 e2 e3 e4 e5;replace Hu:=kW Hu ae;replace Hv:=kW Hv ae;replace Hp:=kW Hp ae;replace Hq:=kW Hq ae;replace He:=kB He ae;have u0:=Hu.out.w1;have v0:=Hv.out.w1;obtain⟨p0,p1,p2⟩:=Hp.out.w3;obtain⟨q0,q1,q2⟩:=Hq.out.w3;obtain⟨e0,e1,e2,e3,e4,e5⟩:=He.out.c6;replace Hb:=au Hb ae;clear ae;refine hK _ _ (λ_=>⟨u0,v0,p0,p1,p2,q0,q1,q2⟩) ?_;clear hK K;try simp only[UU]
    refine aI rfl rfl (λK hK=>?_);go_simp;refine hK _ _ (λ_=>⟨aG u0,aG v0,aG p0,aG p1,aG p2,aG q0,aG q1,aG q2⟩) ?_;clear hK K;try simp only[UU]
    refine bN (λw7=>ak w7 (w6.heap.size) 30 [.bool (ar (dN X)),.string (bs (nt (dN X).natAbs)),.int .i64 (dE X)]/\Bw w6 w7) (by first|exact dP|exact dQ) ?_;rintro w7 ⟨qc,ae⟩;clear u0 v0 p0 p1 p2 q0 q1 q2 e0 e1 e2 e3 e4 e5;have ahV:=He.out.lt;replace Hu:=kW Hu ae;replace Hv:=kW Hv ae;replace Hp:=kW Hp ae;replace Hq:=kW Hq ae;replace He:=kB He ae;have Hc:=ah qc;clear qc;have u0:=Hu.out.w1;have v0:=Hv.out.w1;obtain⟨p0,p1,p2⟩:=Hp.out.w3;obtain⟨q0,q1,q2⟩:=Hq.out.w3;obtain⟨e0,e1,e2,e3,e4,e5⟩:=He.out.c6;obtain⟨c0,c1,c2⟩:=Hc.out.c3;replace Hb:=au Hb ae;clear ae;refine aI rfl rfl (λK hK=>?_);have cm:=ownsRow_below cK.out Hb.out;have ia:=Hb.out.size;refine wp_append_own _ _ _ 46 rfl w2.heap.size 30 i0 _ 3 32 Tryz.underlying46 Hi.out cG.out cH.out cE.out rfl zd v k (dC (Z.take k)) rfl cm ⟨w6.heap.size,0,none⟩ 1 1 [.bool (ar (dN X)),.string (bs (nt (dN X).natAbs)),.int .i64 (dE X)] rfl rfl (fM Hc.out) zy zx zo zo ?_;intro v' w8 dv aY _;obtain⟨g',cq,rfl⟩:=ownsRow_succ dv;have nb:∀b,b<w2.heap.size->some b≠v.ownBlock:=λb hb e=>by have:=cJ cm b e.symm;omega
    refine hK _ _ (λ_=>⟨bE aY u0 (nb _ lQ),bE aY v0 (nb _ lQ),bE aY p0 (nb _ gz),bE aY p1 (nb _ gz),bE aY p2 (nb _ gz),bE aY q0 (nb _ fK),bE aY q1 (nb _ fK),bE aY q2 (nb _ fK)⟩) ?_;clear hK K;try simp only[UU]
    refine pT rfl rfl ?_;try simp only[UU]
    simp only[aU];clear u0 v0 p0 p1 p2 q0 q1 q2 c0 c1 c2;go_wp2;go_roundw;case rel=>
     refine⟨k+1,_,by omega,by go_num,rfl,?_,?_⟩
     . rw[iX.out];exact dv
     . exact(aJ lh.out Hb.out).grown aY zo (λj e=>cJ cm j e)
    case measure=>simp[intOf];omega
  . obtain rfl:k=n:=by omega
    have fW:Z.take k=Z:=List.take_of_length_le (by rw[mh.out];exact Nat.le_refl _);rw[fW]at pv;obtain⟨a3,xh,rfl,uX,_⟩:=di pv;obtain⟨pZ,sX,pY,fT⟩:=dW uX ((HT.out.below Hb.out).below pb) ((Ha.out.below Hb.out).below pb) (aJ Hb.out pb);clear Hb uX pv pb fW nH nI;have Hb:Hid (Bw w wr):=fT;go_wp2_with fail;refine(KI.out a3 xh _ pY.out pZ.out sX.out).mono ?_;rintro e w4 ⟨v4,rfl,ko,ae⟩;have nW:=ah (gp.top (ko.base Hb.out.size));replace Hb:=ah (aJ Hb.out ae);replace pZ:=ah (pZ.out.below ae);replace sX:=ah (sX.out.below ae);replace pY:=ah (pY.out.below ae);obtain⟨a4,c4,rfl,_⟩:=ko.len;clear ko ae;go_wp2_with fail;refine(Cj.out a3 xh _ pY.out pZ.out sX.out).mono ?_;rintro e w5 ⟨v5,rfl,pG,ae⟩;have Ky:=ah pG;replace Hb:=ah (aJ Hb.out ae);replace nW:=ah (nW.out.below ae);obtain⟨a5,c5,rfl,_⟩:=pG.len;clear pG ae;go_wp2;refine bodyPost_ret (v:=.tuple #[.slice a4 L c4,.slice a5 L c5,.int .i64 0]) (by simp[results,Tryz.results14,go_sem]) rfl ⟨a4,c4,a5,c5,w4.heap.size,rfl,nW.out,Ky.out,Hb.out⟩
end Go.Proofs.YtdaadlblknpipaaGreatDoor
