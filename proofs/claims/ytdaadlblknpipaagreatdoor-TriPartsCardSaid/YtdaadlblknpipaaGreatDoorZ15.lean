/- An own row cut short,cleared behind;an own row as a whole block. -/
import Derived.Test.YtdaadlblknpipaaGreatDoorZ12
import Derived.Laws.CopyRow
import Derived.Laws.AppendOwnNone
import Derived.Deep.DeepAppendRoom
import Derived.Test.YtdaadlblknpipaaGreatDoorZ14
set_option linter.unusedVariables false
set_option linter.unusedSimpArgs false
set_option maxRecDepth 100000
set_option maxHeartbeats 16000000
namespace Go.Proofs.YtdaadlblknpipaaGreatDoor
open Go.RowKit
theorem Wp {w:World}{base:Nat}{e:TypeId}{size n cap g:Nat}{xs:List Value}(h:w.ownsRow base e size (.slice (some ⟨g,0,none⟩) n cap) n xs)(i:Nat)(hi:i<=n):
 w.ownsRow base e size (.slice (some ⟨g,0,none⟩) i cap) i (xs.take (i*size)):=by
 have FO:i*size<=n*size:=Nat.mul_le_mul_right _ hi;refine⟨by rw[List.length_take,h.1];omega,?_⟩;rcases h.2 with⟨h1,_⟩ |⟨g',cap',cur,h1,hb,hg,h4,h5,h6,hx⟩
 . simp at h1
 . simp only[Value.slice.injEq,Option.some.injEq,Addr.mk.injEq,and_true,true_and]at h1;obtain⟨rfl,rfl⟩:=h1;refine .inr ⟨g,cap,cur,rfl,hb,hg,by omega,h5,h6,?_⟩;rw[<-hx,List.take_take,Nat.min_eq_left FO]
theorem ze {w:World}{base:Nat}{e:TypeId}{size n:Nat}{v:Value}{xs:List Value}(h:w.ownsRow base e size v n xs)(hn:0<n):∃g cap,v=.slice (some ⟨g,0,none⟩) n cap/\base<=g/\g<w.heap.size/\n<=cap:=by
 rcases h.2 with⟨_,h1⟩ |⟨g,cap,cur,h1,hb,hg,h4,_⟩
 . omega
 . exact⟨g,cap,h1,hb,(Array.getElem?_eq_some_iff.1 hg).1,h4⟩
theorem ahR {w:World}{base:Nat}{e:TypeId}{size n cap g:Nat}{xs:List Value}(h:w.ownsRow base e size (.slice (some ⟨g,0,none⟩) n cap) n xs)(o:Nat)(vs:List Value)(ho:n*size<=o)(cur:Array Value)(Ca:w.heap[g]?=some (.cells cur e (0,0)))(hl:o+vs.length<=cur.size):
 (w.setRow g (cur.toList.take o++vs++cur.toList.drop (o+vs.length)).toArray).ownsRow base e size (.slice (some ⟨g,0,none⟩) n cap) n xs/\w.grownBy (w.setRow g (cur.toList.take o++vs++cur.toList.drop (o+vs.length)).toArray) (some g):=by
 have hh:=setRow_heap w g cur (cur.toList.take o++vs++cur.toList.drop (o+vs.length)).toArray e (0,0) Ca;constructor
 . refine⟨h.1,?_⟩;rcases h.2 with⟨h1,_⟩ |⟨g',cap',cur',h1,hb,hg,h4,h5,h6,hx⟩
   . simp at h1
   . simp only[Value.slice.injEq,Option.some.injEq,Addr.mk.injEq,and_true,true_and]at h1;obtain⟨rfl,rfl⟩:=h1;rw[Ca]at hg;simp only[Option.some.injEq,Obj.cells.injEq,and_true]at hg;subst hg;refine .inr ⟨g,cap,_,rfl,hb,hh,h4,h5,?_,?_⟩
     . rw[<-h6];have hcl:cur.toList.length=cur.size:=Array.length_toList;simp only[List.size_toArray,List.length_append,List.length_take,List.length_drop,hcl];omega
     . rw[<-hx];have hcl:cur.toList.length=cur.size:=Array.length_toList;simp only[List.append_assoc];rw[List.take_append_of_le_length (by rw[List.length_take,hcl];omega),List.take_take,Nat.min_eq_left ho]
 . refine⟨rfl,rfl,rfl,by simp[World.setRow],λk hk hne=>?_⟩;unfold World.setRow;simp only[Array.getElem?_modify];rw[if_neg (λe=>hne (by rw[e]))]
theorem WT {P:Program}(w:World)(t e:TypeId)(z:Value)(size:Nat)(ht:P.underlying t=some (.slice e))(hv:∀w,(zeroValue e).run P w=.ok z w)(hz:z.cells.size=size)(h1:∀v∈z.cells.toList,v.oneCell'=true)(g n m cap c:Nat)(base:Nat)(xs:List Value)
 (h:w.ownsRow base e size (.slice (some ⟨g,0,none⟩) n cap) n xs) (hm:n+m<=cap):
 ∃w',(∀ty,(Builtin.clear_ #[t] ty #[.slice (some ⟨g,n*size,none⟩) m c]).run P w=.ok (.tuple #[]) w')/\w'.ownsRow base e size (.slice (some ⟨g,0,none⟩) n cap) n xs/\w.grownBy w' (some g):=by
 rcases h.2 with⟨h2,_⟩ |⟨g',cap',cur,h2,hb,hg,h4,h5,h6,hx⟩
 . simp at h2
 simp only[Value.slice.injEq,Option.some.injEq,Addr.mk.injEq,and_true,true_and]at h2;obtain⟨rfl,rfl⟩:=h2;by_cases hm0:m=0
 . subst hm0;refine⟨w,λty=>?_,h,World.grownBy.refl _ _⟩;simp[Builtin.clear_,run_underlying ht]
 . obtain⟨vs,hvs⟩:=aC ((Builtin.zeroCells z.cells m).toList);have hvl:vs.length=m*size:=by rw[<-hvs,Array.length_toList,size_zeroCells,hz]
   have hvo:∀v∈vs,v.oneCell'=true:=by
    intro v hv2;rw[<-hvs]at hv2;unfold Builtin.zeroCells at hv2;simp only[Array.toList_map,Array.toList_range,List.mem_map,List.mem_range]at hv2;obtain⟨i,hi,rfl⟩:=hv2;have hs:0<z.cells.size:=by
     rcases Nat.eq_zero_or_pos z.cells.size with h0|h0
     . rw[h0]at hi;simp at hi
     . exact h0
    have:=Nat.mod_lt i hs;rw[getElem!_pos z.cells (i%z.cells.size) this];exact h1 _ zm
   have hle:n*size+0+vs.length<=cur.size:=by rw[hvl,h6];have:=Nat.mul_le_mul_right size hm;rw[Nat.add_mul]at this;omega
   have hst:=run_storeCells_at (P:=P) g (n*size) e vs 0 cur w hg hle hvo;obtain⟨k1,k2⟩:=ahR h (n*size) vs (Nat.le_refl _) cur hg zo;refine⟨_,λty=>?_,k1,k2⟩;obtain⟨m',rfl⟩:∃m',m=m'+1:=⟨m-1,by omega⟩;simp[Builtin.clear_,run_underlying ht,hv,hvs,hst]
def Sl (a:Option Addr)(n cap:Nat):Prop:=n<=cap/\(a=none->cap=0)
theorem Sl.nil :Sl none 0 0:=⟨Nat.le_refl _,λ_=>rfl⟩
theorem Sl.some (x:Addr)(n cap:Nat)(h:n<=cap):Sl (some x) n cap:=⟨h,λe=>by cases e⟩
theorem uI {w:World}{base:Nat}{e:TypeId}{size n k cap:Nat}{a:Option Addr}{xs:List Value}(h:w.ownsRow base e size (.slice a k cap) n xs):Sl a k cap:=by
 rcases h.2 with⟨h1,_⟩ |⟨g,cap',cur,h1,hb,hg,h4,_⟩
 . simp only[Value.slice.injEq]at h1;obtain⟨rfl,rfl,rfl⟩:=h1;exact Sl.nil
 . simp only[Value.slice.injEq]at h1;obtain⟨rfl,rfl,rfl⟩:=h1;exact Sl.some _ _ _ h4
theorem XO {P:Program}{w:World}{ops:Array Oper}{rest:List Oper}{o:Oper}{a:Act}{Q:Exit->Act->World->Prop}(hgd:o.guard=none)(s x:Operand)(t:TypeId)
 (ho:o.op=.call {callee:=.builtin .append,args:=#[s,x],argTypes:=#[t,t]})
 (base:Nat) (e:TypeId) (i:TypeInfo) (z:Value) (size bytes:Nat) (ht:P.underlying t=Option.some (.slice e)) (hi:P.info? e=Option.some i) (hz:i.zero=Option.some z)
 (hsize:i.size=size) (hby:i.bytes=bytes) (hzs:z.cells.size=size) (hsz:0<size)
 (v:Value) (n:Nat) (xs:List Value) (hs:a.eval s=v) (hown:w.ownsRow base e size v n xs)
 (aa:Option Addr) (m c:Nat) (news:List Value) (hx:a.eval x=.slice aa m c) (hsl:aa=none->m=0/\c=0) (hl:news.length=m*size) (hat:At w aa news) (h1:∀u∈news,u.oneCell'=true)
 (h63:n+m<=maxLen) (hbytes:(n+m) *bytes<=140737488355328) (hbase:base<=w.heap.size)
 (h:∀v' w',w'.ownsRow base e size v' (n+m) (xs++news)->w.grownBy w' v.ownBlock->(v'.ownBlock=v.ownBlock\/v'.ownBlock=Option.some w.heap.size)->wpList P ops Q rest (a.put o.dst v') w'):
 wpList P ops Q (o::rest) a w:=by
 cases aa with
 |none=>obtain⟨hm,hc⟩:=hsl rfl;subst hc;subst hm;have hn:news=[]:=List.eq_nil_of_length_eq_zero (by simpa using hl);subst hn;refine wpList_append_own_none hgd s x t ho base e i size ht hi v n xs hs hown hx ?_;exact h v w (by simpa using hown) (World.grownBy.refl _ _) (.inl rfl)
 | some ad=>
   refine wpList_append_own_at w hgd s x t ho base e i z size bytes ht hi hz hsize hby hzs hsz v n xs hs hown ad m c news hx hl ?_ h1 h63 hbytes hbase (λv' w' h2 h3 _ h5=>h v' w' h2 h3 h5);intro j u hj;rcases hat with h0|⟨b,o',e',hc⟩
   . subst h0;simp at hj
   . simp only[Option.some.injEq]at e';subst e';have hjl:=(List.getElem?_eq_some_iff.1 hj).1;have e2:((⟨b,o',none⟩:Addr).add j)=⟨b,o'+j,none⟩:=by unfold Addr.add;cases j<;>simp
     rw[e2,hc j hjl];exact hj
theorem ry {P:Program}{w:World}{ops:Array Oper}{rest:List Oper}{o:Oper}{a:Act}{Q:Exit->Act->World->Prop}(hgd:o.guard=none)(s x:Operand)(t:TypeId)
 (ho:o.op=.call {callee:=.builtin .append,args:=#[s,x],argTypes:=#[t,t]})
 (base:Nat) (e:TypeId) (i:TypeInfo) (z:Value) (size bytes:Nat) (ht:P.underlying t=Option.some (.slice e)) (hi:P.info? e=Option.some i) (hz:i.zero=Option.some z)
 (hsize:i.size=size) (hby:i.bytes=bytes) (hzs:z.cells.size=size) (hsz:0<size)
 (v:Value) (n:Nat) (xs:List Value) (hs:a.eval s=v) (hown:w.ownsRow base e size v n xs)
 (aa:Option Addr) (m c:Nat) (news:List Value) (hx:a.eval x=.slice aa m c) (hsl:Sl aa m c) (hl:news.length=m*size) (hat:At w aa news) (h1:∀u∈news,u.oneCell'=true)
 (h63:n+m<=maxLen) (hbytes:(n+m) *bytes<=140737488355328) (hbase:base<=w.heap.size)
 (h:∀v' w',w'.ownsRow base e size v' (n+m) (xs++news)->w.grownBy w' v.ownBlock->(v'.ownBlock=v.ownBlock\/v'.ownBlock=Option.some w.heap.size)->wpList P ops Q rest (a.put o.dst v') w'):
 wpList P ops Q (o::rest) a w:=
 XO hgd s x t ho base e i z size bytes ht hi hz hsize hby hzs hsz v n xs hs hown aa m c news hx (λe=>⟨by have h1:=hsl.1;have h2:=hsl.2 e;omega,hsl.2 e⟩) hl hat h1 h63 hbytes hbase h
theorem At.cut {w:World}{a:Option Addr}{xs:List Value}{k cap size n:Nat}(h:At w a xs)(hl:xs.length=n*size)(hk:k<=n)(hc:n<=cap):At w (if cap=k then a else a.map (·.add (k*size))) (xs.drop (k*size)):=by
 rcases h with h0|⟨b,o,rfl,hcs⟩
 . subst h0;simp;exact .inl rfl
 . by_cases e:cap=k
   . have:xs.drop (k*size)=[]:=List.drop_of_length_le (by rw[hl];exact Nat.mul_le_mul_right _ zo);rw[this];exact .inl rfl
   . rw[if_neg e];have e2:((⟨b,o,none⟩:Addr).add (k*size))=⟨b,o+k*size,none⟩:=by unfold Addr.add;split<;>simp_all
     refine .inr ⟨b,o+k*size,by rw[Option.map_some,e2],λj hj=>?_⟩;rw[List.length_drop]at hj;rw[Nat.add_assoc,hcs _ zo,List.getElem?_drop]
theorem Sl.cut {a:Option Addr}{k cap size n:Nat}(h:Sl a n cap)(hk:k<=n):Sl (if cap=k then a else a.map (·.add (k*size))) (n-k) (cap-k):=by
 refine⟨by have:=h.1;omega,λe=>?_⟩;by_cases e1:cap=k
 . omega
 . rw[if_neg e1]at e
   have:=h.2 (by cases a with
    |none=>rfl
    |some x=>simp at e)
   omega
def Pc (w:World)(v:Value)(cS:List Raw):Prop:=∃a cap,v=.slice a cS.length cap/\At w a (cS.flatMap bB)/\Sl a cS.length cap
theorem Pc.below {w w':World}{v:Value}{cS:List Raw}(h:Pc w v cS)(hb:Bw w w'):Pc w' v cS:=by obtain⟨a,cap,hv,ha,hs⟩:=h;exact⟨a,cap,hv,ha.below hb,hs⟩
def pX (w:World)(a:Option Addr)(rows:List (List Raw)):Prop:=∃vals:List Value,vals.length=rows.length/\At w a vals/\∀i (h:i<rows.length) (h':i<vals.length),Pc w vals[i] rows[i]
theorem pX.below {w w':World}{a:Option Addr}{rows:List (List Raw)}(h:pX w a rows)(hb:Bw w w'):pX w' a rows:=by obtain⟨vals,hl,ha,hp⟩:=h;exact⟨vals,hl,ha.below hb,λi h1 h2=>(hp i h1 h2).below hb⟩
theorem pX.tbl {w:World}{a:Option Addr}{rows:List (List Raw)}(h:pX w a rows):aX w a rows:=by obtain⟨vals,hl,ha,hp⟩:=h;refine⟨vals,hl,ha,λi h1 h2=>?_⟩;obtain⟨a',c',e1,e2,_⟩:=hp i h1 h2;exact⟨a',c',e1,e2⟩
theorem pX.row {w:World}{a:Option Addr}{rows:List (List Raw)}(h:pX w a rows)(k:Nat)(hk:k<rows.length):
 ∃b o a' cap',a=some ⟨b,o,none⟩/\w.cell? ⟨b,o+k,none⟩=some (.slice a' rows[k].length cap')/\At w a' (rows[k].flatMap bB)/\Sl a' rows[k].length cap':=by
 obtain⟨vals,hl,ha,hp⟩:=h;have hk2:k<vals.length:=by rw[hl];exact hk
 obtain⟨b,o,hab,hcs⟩:=ha.get (by intro h0;rw[h0]at hk2;simp at hk2);obtain⟨a',cap',hv,hat,hs⟩:=hp k hk hk2;exact⟨b,o,a',cap',hab,by rw[hcs k hk2,List.getElem?_eq_getElem hk2,hv],hat,hs⟩
theorem Gn (cS:List Raw):∀u∈cS.flatMap bB,u.oneCell'=true:=by intro u hu;obtain⟨r,_,hr⟩:=List.mem_flatMap.1 hu;simp only[bB,List.mem_cons,List.not_mem_nil,or_false]at hr;rcases hr with rfl|rfl|rfl<;>rfl
theorem abf {P:Program}(t tx ty:TypeId)(e e':TypeId)(ht:P.underlying t=some (.slice e))(hx:P.underlying tx=some (.slice e'))(u v:Value)(w:World):(Builtin.append_ #[t,tx] ty #[u,v]).run P w=(Builtin.append_ #[t,t] ty #[u,v]).run P w:=by unfold Builtin.append_;cases u<;>simp[Sem.run_bind,run_underlying ht,run_underlying hx]
theorem akL {P:Program}{w:World}{o:Oper}{a:Act}{K:Act->World->Prop}{Q:Exit->Act->World->Prop}(s x:Operand)(t tx:TypeId)(e':TypeId)(htx:P.underlying tx=some (.slice e'))
 (ho:o.op=.call {callee:=.builtin .append,args:=#[s,x],argTypes:=#[t,tx]})
 (base:Nat) (e:TypeId) (i:TypeInfo) (z:Value) (size bytes:Nat) (ht:P.underlying t=Option.some (.slice e)) (hi:P.info? e=Option.some i) (hz:i.zero=Option.some z)
 (hsize:i.size=size) (hby:i.bytes=bytes) (hzs:z.cells.size=size) (hsz:0<size)
 (v:Value) (n:Nat) (xs:List Value) (hs:a.eval s=v) (hown:w.ownsRow base e size v n xs)
 (aa:Option Addr) (m c:Nat) (news:List Value) (hx:a.eval x=.slice aa m c) (hsl:Sl aa m c) (hl:news.length=m*size) (hat:At w aa news) (h1:∀u∈news,u.oneCell'=true)
 (h63:n+m<=maxLen) (hbytes:(n+m) *bytes<=140737488355328) (hbase:base<=w.heap.size)
 (h:∀v' w',w'.ownsRow base e size v' (n+m) (xs++news)->w.grownBy w' v.ownBlock->(v'.ownBlock=v.ownBlock\/v'.ownBlock=Option.some w.heap.size)->K (a.put o.dst v') w'):o.wp P a w K Q:=by
 have key:∃v' w',(Builtin.append_ #[t,tx] o.type #[v,.slice aa m c]).run P w=.ok v' w'/\w'.ownsRow base e size v' (n+m) (xs++news)/\w.grownBy w' v.ownBlock/\(v'.ownBlock=v.ownBlock\/v'.ownBlock=Option.some w.heap.size):=by
  rw[abf t tx o.type e e' ht htx];cases aa with
  | none=>
    have hc:=hsl.2 rfl;have hm:m=0:=by have:=hsl.1;omega
    subst hc;subst hm;have hn:news=[]:=List.eq_nil_of_length_eq_zero (by simpa using hl);subst hn;exact⟨v,w,run_append_owned_none (P:=P) (w:=w) base t o.type e i size ht hi v n xs hown,by simpa using hown,World.grownBy.refl _ _,.inl rfl⟩
  | some ad=>
    obtain⟨v',w',hr,h2,h3,_,h5⟩:=run_append_own_at (P:=P) w base t o.type e i z size bytes ht hi hz hsize hby hzs hsz v n xs hown ad m c news hl (by
     intro j u hj;rcases hat with h0|⟨b,o',Rs,hc⟩
     . subst h0;simp at hj
     . simp only[Option.some.injEq]at Rs;subst Rs;have hjl:=(List.getElem?_eq_some_iff.1 hj).1;have e2:((⟨b,o',none⟩:Addr).add j)=⟨b,o'+j,none⟩:=by unfold Addr.add;cases j<;>simp
       rw[e2,hc j hjl];exact hj) h1 h63 hbytes hbase
    exact⟨v',w',hr,h2,h3,h5⟩
 obtain⟨v',w',hr,h2,h3,h5⟩:=key;unfold Oper.wp execOp;simp only[ho,resolve,invoke,builtin,Sem.run_bind,Sem.run_pure,Result.andThen_ok,List.map_toArray,List.map_cons,List.map_nil,hs,hx,hr];exact h v' w' h2 h3 h5
theorem XN {P:Program}{w:World}{ops:Array Oper}{rest:List Oper}{o:Oper}{a:Act}{Q:Exit->Act->World->Prop}(hgd:o.guard=none)(s x:Operand)(t tx:TypeId)(e':TypeId)(htx:P.underlying tx=some (.slice e'))
 (ho:o.op=.call {callee:=.builtin .append,args:=#[s,x],argTypes:=#[t,tx]})
 (base:Nat) (e:TypeId) (i:TypeInfo) (z:Value) (size bytes:Nat) (ht:P.underlying t=Option.some (.slice e)) (hi:P.info? e=Option.some i) (hz:i.zero=Option.some z)
 (hsize:i.size=size) (hby:i.bytes=bytes) (hzs:z.cells.size=size) (hsz:0<size)
 (v:Value) (n:Nat) (xs:List Value) (hs:a.eval s=v) (hown:w.ownsRow base e size v n xs)
 (aa:Option Addr) (m c:Nat) (news:List Value) (hx:a.eval x=.slice aa m c) (hsl:Sl aa m c) (hl:news.length=m*size) (hat:At w aa news) (h1:∀u∈news,u.oneCell'=true)
 (h63:n+m<=maxLen) (hbytes:(n+m) *bytes<=140737488355328) (hbase:base<=w.heap.size)
 (h:∀v' w',w'.ownsRow base e size v' (n+m) (xs++news)->w.grownBy w' v.ownBlock->(v'.ownBlock=v.ownBlock\/v'.ownBlock=Option.some w.heap.size)->wpList P ops Q rest (a.put o.dst v') w'):wpList P ops Q (o::rest) a w:=
 wpList_plain hgd λ_ hK=>akL s x t tx e' htx ho base e i z size bytes ht hi hz hsize hby hzs hsz v n xs hs hown aa m c news hx hsl hl hat h1 h63 hbytes hbase λv' w' h2 h3 h5=>hK _ _ (h v' w' h2 h3 h5)
end Go.Proofs.YtdaadlblknpipaaGreatDoor
namespace Go.Proofs.YtdaadlblknpipaaGreatDoor
open Go.RowKit
attribute [local go_sem ↓] Go.wp_at_zero Go.wp_at_succ
theorem Tryz.aob :(Tryz.prog.info? 107).map (λi=>(i.zero,i.size,i.bytes))=some (some (.agg #[.string (bs []),.bool false,.string (bs []),.int .i64 0]),4,48):=by kernel_rfl
theorem kM (ts:List aL):(ts.flatMap aN).length=ts.length*4:=jg aN 4 (λ_=>rfl) ts
theorem rp (ts:List aL):∀u∈ts.flatMap aN,u.oneCell'=true:=by intro u hu;obtain⟨r,_,hr⟩:=List.mem_flatMap.1 hu;simp only[aN,List.mem_cons,List.not_mem_nil,or_false]at hr;rcases hr with rfl|rfl|rfl|rfl<;>rfl
theorem NY (t:aL)(ts:List aL):(t::ts).flatMap aN=aN t++ts.flatMap aN:=List.flatMap_cons
theorem At.tail {w:World}{b o c:Nat}{x:aL}{ts:List aL}(h:At w (some ⟨b,o,none⟩) ((x::ts).flatMap aN))(hc:ts.length+1<=c):At w (if c=1 then some ⟨b,o,none⟩else some ⟨b,o+4,none⟩) (ts.flatMap aN):=by
 have hk:=At.cut (k:=1) (size:=4) (n:=ts.length+1) (cap:=c) h (by rw[kM];rfl) zo hc;have e:((x::ts).flatMap aN).drop (1*4)=ts.flatMap aN:=by rw[NY];rfl
 rw[e]at hk;exact hk
theorem Sl.tail {b o c n:Nat}(h:Sl (Option.some ⟨b,o,none⟩) (n+1) c):Sl (if c=1 then Option.some (⟨b,o,none⟩:Addr)else Option.some ⟨b,o+4,none⟩) n (c-1):=by refine⟨by have:=h.1;omega,λe=>?_⟩;split at e<;>cases e
theorem ajD (l l':List UInt8):(sV l l'= -1/\Op.bytesLess l l'=true)\/(sV l l'=1/\Op.bytesLess l l'=false/\Op.bytesLess l' l=true)\/(sV l l'=0/\Op.bytesLess l l'=false/\Op.bytesLess l' l=false):=by
 unfold sV;cases h1:Op.bytesLess l l' with
 |true=>exact .inl ⟨by simp,rfl⟩
 | false=>
   cases h2:Op.bytesLess l' l with
   |true=>exact .inr (.inl ⟨by simp,rfl,rfl⟩)
   |false=>exact .inr (.inr ⟨by simp,rfl,rfl⟩)
theorem VO (a:Option Addr)(n cap:Nat)(ta:List aL)(a':Option Addr)(n' cap':Nat)(tb:List aL)(B:Nat)(w:World)(hn:ta.length=n)(hn':tb.length=n')(hs:Sl a n cap)(hs':Sl a' n' cap')(hl:n<=65536)(hl':n'<=65536)(ha:At w a (ta.flatMap aN))(ha':At w a' (tb.flatMap aN))
 (ub:∀t∈ta,Fit B t.2) (ud:∀t∈tb,Fit B t.2) (hB:B+2<=268435456) (hT:aF w):
 Calls Tryz.prog 99 #[.slice a n cap,.slice a' n' cap',.func (.func 100) #[] #[],.func (.func 101) #[] #[]] w λe w'=>∃v',e=.returned v'/\w'.ownsRow w.heap.size 107 4 v' (fT ta tb).length ((fT ta tb).flatMap aN)/\Bw w w':=by
 obtain⟨i0,hi,hz0,hz1,hz2⟩:=info_parts Tryz.aob;obtain⟨M,hM⟩:=aC (fT ta tb);have Bp:=enters_of Tryz.func100 zk rfl;have Bo:=enters_of Tryz.func101 zk rfl;rw[hM];obtain⟨Hi,cM,cN,cJ,HM,IP,IM,Hs,Qc,Ha,nz,Ak⟩:=gW hi hz0 hz1 hz2 hM Bp Bo hs hs' ha ha' ub;obtain⟨Al,HT,Hn,PQ⟩:=dO ud hT hn hn';obtain⟨N,hN⟩:=aC (n+n');have Sj:(n:Int)+(n':Int)=(N:Int):=by omega
 have HN:=ah hN;clear hi hz0 hz1 hz2 hM Bp Bo hs hs' ha ha' ub ud hT hn hn' hN;have hN1:N<=131072:=by have:=HN.out;omega
 go_enter Tryz.func99,Tryz.ntmps99;go_wp2_with (at_make;refine wpList_make_own _ rfl _ _ 55 rfl w.heap.size 107 i0 _ 4 Tryz.underlying55 Hi.out cM.out cN.out _ _ _ N rfl rfl (by first|exact Sj|rfl) (by rw[cJ.out];omega) zx (Nat.le_refl _) ?_;intro w1 hown hgrow);obtain⟨hb1,mH⟩:=aM ((Below.refl w.heap.size w).grown hgrow (Nat.le_refl _) (by intro k hk;cases hk)) hown;clear hown hgrow Sj
 go_loopw[0,1,9] (λva vb vo wr=>∃(ra rb acc:List aL) (p q ca cb:Nat) (aa ab:Option Addr) (v:Value),v=vo/\va=.slice aa p ca/\vb=.slice ab q cb/\ra.length=p/\rb.length=q/\Sl aa p ca/\Sl ab q cb/\At w aa (ra.flatMap aN)/\At w ab (rb.flatMap aN)/\
  (∀t∈ra,Fit B t.2)/\(∀t∈rb,Fit B t.2)/\wr.ownsRow w.heap.size 107 4 v acc.length (acc.flatMap aN)/\acc.length+p+q<=N/\acc++fT ra rb=M/\Bw w wr) (λva vb _ _=>(uv va+uv vb).toNat)
 case atStart=>exact⟨ta,tb,[],n,n',cap,cap',a,a',_,rfl,rfl,rfl,Hn.out,PQ.out,Hs.out,Qc.out,Ha.out,nz.out,Ak.out,Al.out,mH.out,by rw[<-HN.out];simp,by simpa using HM.out,hb1.out⟩
 case round=>
  clear hb1 mH Ha nz Hs Qc Ak Al Hn PQ HM;obtain⟨ra,rb,acc,p,q,ca,cb,aa,ab,v,rfl,rfl,rfl,sI,pJ,hsa,wJ,hat,hat',ub,ud,hov,hlen,hM,pb⟩:=hrel;by_cases hpq:0<p/\0<q
  . obtain ⟨hp,hq⟩:=hpq;obtain⟨x,ra,rfl⟩:∃x l,ra=x::l:=by cases ra with
     |nil=>simp at sI;omega
     |cons x l=>exact⟨x,l,rfl⟩
    obtain⟨y,rb,rfl⟩:∃x l,rb=x::l:=by cases rb with
     |nil=>simp at pJ;omega
     |cons x l=>exact⟨x,l,rfl⟩
    obtain⟨l,s,m,e⟩:=x;obtain⟨l',s',m',e'⟩:=y;obtain⟨p,rfl⟩:∃p',p=p'+1:=⟨p-1,by omega⟩;obtain⟨q,rfl⟩:∃q',q=q'+1:=⟨q-1,by omega⟩;have eF:=ub (l,s,m,e) zm;have jz:=ud (l',s',m',e') zm;have Tm:∀t∈ra,Fit B t.2:=λt ht=>ub t (by simp[ht]);have Tn:∀t∈rb,Fit B t.2:=λt ht=>ud t (by simp[ht]);obtain⟨b1,o1,rfl,hw1⟩:=(hat.below pb).term 0 zm rfl;obtain⟨b2,o2,rfl,hw2⟩:=(hat'.below pb).term 0 zm rfl;simp only[Nat.zero_mul,Nat.add_zero]at hw1 hw2;have iZ:b1<w.heap.size:=hat.lt (by rw[NY];simp[aN]);have gV:b2<w.heap.size:=hat'.lt (by rw[NY];simp[aN]);have UJ:=hat.tail (c:=ca) (by have:=hsa.1;simp at sI;omega);have iW:=hat'.tail (c:=cb) (by have:=wJ.1;simp at pJ;omega);have UE:=hsa.tail;have UF:=wJ.tail;have sM:=jl (p+1) ca 0 0 (rfl:(some ⟨b1,o1,none⟩:Option Addr)=_) zo rfl;have Ga:=jl (q+1) cb 0 0 (rfl:(some ⟨b2,o2,none⟩:Option Addr)=_) zo rfl;rw[Nat.zero_mul,Nat.add_zero]at sM Ga;have hca:p+1<=ca:=hsa.1;have hcb:q+1<=cb:=wJ.1;have Jt:Hid (ra.length=p):=by show _=_;simpa using sI
    have Ju:Hid (rb.length=q):=by show _=_;simpa using pJ
    obtain⟨Jw,Jx,Qf,Qg,Qi,nM,fF,Iu,gZ,kR,Ak,Al⟩:=gW hsa wJ UE UF UJ iW hat hat' eF jz Tm Tn;obtain⟨YT,YU,cp,HM,aR,uW⟩:=gJ ub ud hov hM pb (HT.out.below pb);have Hx:Hid (aZ wr b1 o1 [.string (bs l),.bool s,.string (bs m),.int .i64 e]):=hw1;have Hy:Hid (aZ wr b2 o2 [.string (bs l'),.bool s',.string (bs m'),.int .i64 e']):=hw2;have Uw:=sI;have Ux:=pJ;simp only[List.length_cons]at Uw Ux;clear sI pJ hsa wJ hat hat' ub ud hov hM pb eF jz Tm Tn hw1 hw2 UJ iW UE UF Uw Ux;have Hb:Hid (Bw wr wr):=Below.refl _ _;have Ky:=IP.out;have iu:=aR.out.size;obtain⟨gs,Ce⟩:∃g,sV l l'=g:=⟨_,rfl⟩;have Mk:=λW=>ajE l s m e l' s' m' e' W;have hcs:=ajD l l';rw[Ce]at Mk hcs;obtain⟨Qe,Pm⟩:=aM Mk hcs;clear Mk hcs Ce;go_wp2_with fail;obtain⟨x0,x1,x2,x3⟩:=Hx.out.w4;obtain⟨y0,y1,y2,y3⟩:=Hy.out.w4;have HU:Hid (aF wr):=uW.out;refine bD (λw'=>w'.cell? ⟨b1,o1,none⟩=some (.string (bs l))/\w'.cell? ⟨b1,o1+1,none⟩=some (.bool s)/\w'.cell? ⟨b1,o1+2,none⟩=some (.string (bs m))/\w'.cell? ⟨b1,o1+3,none⟩=some (.int .i64 e)/\w'.cell? ⟨b2,o2,none⟩=some (.string (bs l'))/\w'.cell? ⟨b2,o2+1,none⟩=some (.bool s')/\w'.cell? ⟨b2,o2+2,none⟩=some (.string (bs m'))/\w'.cell? ⟨b2,o2+3,none⟩=some (.int .i64 e')) (λi=>Nat.blt i 100000) [(0,true),(1,true),(2,true),(3,true),(4,true),(5,true),(6,true),(7,false),(8,true)] zk zk rfl zk zc ⟨x0,x1,x2,x3,y0,y1,y2,y3⟩ ?_;iterate 7 (refine pT rfl rfl ?_ (by intro w' ⟨q0,q1,q2,q3,q4,q5,q6,q7⟩;go_simp;try with_reducible rfl);try simp only[UU])
    refine aJ rfl rfl (λK hK=>?_);go_simp;with_reducible refine(Qe.out _).mono ?_
    rintro e w2 ⟨rfl,hq⟩;have ae:Bw wr w2:=by first|exact hq|exact aO hq
    clear x0 x1 x2 x3 y0 y1 y2 y3;replace Hx:=kW Hx ae;replace Hy:=kW Hy ae;replace HU:=kT HU ae;obtain⟨x0,x1,x2,x3⟩:=Hx.out.w4;obtain⟨y0,y1,y2,y3⟩:=Hy.out.w4;replace Hb:=az Hb ae;clear ae;refine hK _ _ (λ_=>⟨x0,x1,x2,x3,y0,y1,y2,y3⟩) ?_;clear hK K;try simp only[UU]
    refine pT rfl rfl ?_;try simp only[UU]
    simp only[aU];have hcs:=Pm.out;have hp1:(1:Int)<=(p:Int)+1:=by omega
    have hq1:(1:Int)<=(q:Int)+1:=by omega
    clear Pm Qe Ky;rcases hcs with⟨rfl,h1⟩ |⟨rfl,h1,h2⟩ |⟨rfl,h1,h2⟩
    . have uV:Hid ((acc++[(l,s,m,e)])++fT ra ((l',s',m',e')::rb)=M):=by
       show _=_
       rw[<-HM.out,uE,if_pos h1];simp
      have uT:Hid ((acc++[(l,s,m,e)]).flatMap aN=acc.flatMap aN++[.string (bs l),.bool s,.string (bs m),.int .i64 e]):=by
       show _=_
       rw[List.flatMap_append];rfl
      clear h1;go_wp2_with fail;refine bD (λw'=>w'.cell? ⟨b1,o1,none⟩=some (.string (bs l))/\w'.cell? ⟨b1,o1+1,none⟩=some (.bool s)/\w'.cell? ⟨b1,o1+2,none⟩=some (.string (bs m))/\w'.cell? ⟨b1,o1+3,none⟩=some (.int .i64 e)) (λi=>Nat.blt i 100000) [(0,true),(1,true),(2,true),(3,true),(6,true),(7,true),(4,false),(5,false),(8,true),(9,true)] zk zk rfl zk zc ⟨x0,x1,x2,x3⟩ ?_;iterate 6 (refine pT rfl rfl ?_ (by intro w' ⟨q0,q1,q2,q3⟩;go_simp;try with_reducible rfl);try simp only[UU])
      refine aJ rfl rfl (λK hK=>?_);go_simp;refine hK _ _ (λ_=>⟨aI x0,aI x1,aI x2,aI x3⟩) ?_;clear hK K;try simp only[UU]
      refine bE (λW3=>ai W3 (w2.heap.size) 107 [.string (bs l),.bool s,.string (bs m),.int .i64 e]/\Bw w2 W3) (by first|exact dW|exact dX) ?_;rintro W3 ⟨qc,ae⟩;clear x0 x1 x2 x3 y0 y1 y2 y3;replace Hx:=kW Hx ae;replace Hy:=kW Hy ae;replace HU:=kT HU ae;have Hc:=ah qc;clear qc;obtain⟨x0,x1,x2,x3⟩:=Hx.out.w4;obtain⟨y0,y1,y2,y3⟩:=Hy.out.w4;obtain⟨c0,c1,c2,c3⟩:=Hc.out.c4;replace Hb:=az Hb ae;clear ae;refine aJ rfl rfl (λK hK=>?_);have dR:=ownsRow_below cp.out Hb.out;have hs3:=Hb.out.size;refine wp_append_own _ _ _ 55 rfl w.heap.size 107 i0 _ 4 48 Tryz.underlying55 Hi.out cM.out cN.out cJ.out rfl zd v acc.length (acc.flatMap aN) rfl dR ⟨w2.heap.size,0,none⟩ 1 1 [.string (bs l),.bool s,.string (bs m),.int .i64 e] rfl rfl (fZ Hc.out) zy zx zo zo ?_;intro v' w8 dF bj _;have nb:∀b,b<w.heap.size->some b≠v.ownBlock:=λb hb e=>by have:=cL dR b e.symm;omega
      refine hK _ _ (λ_=>⟨bO bj x0 (nb _ iZ),bO bj x1 (nb _ iZ),bO bj x2 (nb _ iZ),bO bj x3 (nb _ iZ)⟩) ?_;clear hK K;try simp only[UU]
      iterate 2 (refine pT rfl rfl ?_;try simp only[UU])
      simp only[aU];have ve:=ah ((aK aR.out Hb.out).grown bj zo (λj e=>cL dR j e));have gP:Hid (w8.ownsRow w.heap.size 107 4 v' (acc++[(l,s,m,e)]).length ((acc++[(l,s,m,e)]).flatMap aN)):=by
       show w8.ownsRow _ _ _ _ _ _
       rw[uT.out,List.length_append];exact dF
      clear nb dR dF bj x0 x1 x2 x3 y0 y1 y2 y3 c0 c1 c2 c3 sM Ga;go_wp2;go_roundw;case rel=>exact⟨ra,((l',s',m',e')::rb),acc++[(l,s,m,e)],p,(q+1),_,_,_,_,v',rfl,rfl,rfl,Jt.out,(by have:=Ju.out;simp;exact this),Qf.out,Jx.out,Qi.out,Iu.out,Ak.out,YU.out,gP.out,by simp;omega,uV.out,ve.out⟩
      case measure=>simp[uv];omega
    ·
     have uV:Hid ((acc++[(l',s',m',e')])++fT ((l,s,m,e)::ra) rb=M):=by
      show _=_
      rw[<-HM.out,uE,if_neg (by rw[h1];decide),if_pos h2];simp
     have uT:Hid ((acc++[(l',s',m',e')]).flatMap aN=acc.flatMap aN++[.string (bs l'),.bool s',.string (bs m'),.int .i64 e']):=by
      show _=_
      rw[List.flatMap_append];rfl
     clear h1 h2
     go_wp2_with fail
     refine bD (λw'=>w'.cell? ⟨b2,o2,none⟩=some (.string (bs l'))/\w'.cell? ⟨b2,o2+1,none⟩=some (.bool s')/\w'.cell? ⟨b2,o2+2,none⟩=some (.string (bs m'))/\w'.cell? ⟨b2,o2+3,none⟩=some (.int .i64 e')) (λi=>Nat.blt i 100000) [(0,true),(1,true),(2,true),(3,true),(6,true),(7,true),(4,false),(5,false),(8,true),(9,true)] zk zk rfl zk zc ⟨y0,y1,y2,y3⟩ ?_
     iterate 6 (refine pT rfl rfl ?_ (by intro w' ⟨q0,q1,q2,q3⟩;go_simp;try with_reducible rfl);try simp only[UU])
     refine aJ rfl rfl (λK hK=>?_)
     go_simp
     refine hK _ _ (λ_=>⟨aI y0,aI y1,aI y2,aI y3⟩) ?_;clear hK K
     try simp only[UU]
     refine bE (λW3=>ai W3 (w2.heap.size) 107 [.string (bs l'),.bool s',.string (bs m'),.int .i64 e']/\Bw w2 W3) (by first|exact dW|exact dX) ?_
     rintro W3 ⟨qc,ae⟩
     clear x0 x1 x2 x3
     clear y0 y1 y2 y3
     replace Hx:=kW Hx ae
     replace Hy:=kW Hy ae
     replace HU:=kT HU ae
     have Hc:=ah qc;clear qc
     obtain⟨x0,x1,x2,x3⟩:=Hx.out.w4
     obtain⟨y0,y1,y2,y3⟩:=Hy.out.w4
     obtain⟨c0,c1,c2,c3⟩:=Hc.out.c4
     replace Hb:=az Hb ae;clear ae
     refine aJ rfl rfl (λK hK=>?_)
     have dR:=ownsRow_below cp.out Hb.out
     have hs3:=Hb.out.size
     refine wp_append_own _ _ _ 55 rfl w.heap.size 107 i0 _ 4 48 Tryz.underlying55 Hi.out cM.out cN.out cJ.out rfl zd v acc.length (acc.flatMap aN) rfl dR ⟨w2.heap.size,0,none⟩ 1 1 [.string (bs l'),.bool s',.string (bs m'),.int .i64 e'] rfl rfl (fZ Hc.out) zy zx zo zo ?_
     intro v' w8 dF bj _
     have nb:∀b,b<w.heap.size->some b≠v.ownBlock:=λb hb e=>by have:=cL dR b e.symm;omega
     refine hK _ _ (λ_=>⟨bO bj y0 (nb _ gV),bO bj y1 (nb _ gV),bO bj y2 (nb _ gV),bO bj y3 (nb _ gV)⟩) ?_;clear hK K
     try simp only[UU]
     iterate 2 (refine pT rfl rfl ?_;try simp only[UU])
     simp only[aU]
     have ve:=ah ((aK aR.out Hb.out).grown bj zo (λj e=>cL dR j e))
     have gP:Hid (w8.ownsRow w.heap.size 107 4 v' (acc++[(l',s',m',e')]).length ((acc++[(l',s',m',e')]).flatMap aN)):=by
      show w8.ownsRow _ _ _ _ _ _
      rw[uT.out,List.length_append];exact dF
     clear nb dR dF bj x0 x1 x2 x3 y0 y1 y2 y3 c0 c1 c2 c3 sM Ga
     go_wp2
     go_roundw
     case rel=>exact⟨((l,s,m,e)::ra),rb,acc++[(l',s',m',e')],(p+1),q,_,_,_,_,v',rfl,rfl,rfl,(by have:=Jt.out;simp;exact this),Ju.out,Jw.out,Qg.out,fF.out,nM.out,YT.out,Al.out,gP.out,by simp;omega,uV.out,ve.out⟩
     case measure=>simp[uv];omega
    ·
     obtain⟨S,hS⟩:=aC (aB (s,m,e)+aB (s',m',e'))
     have HS:=ah hS
     have uV:Hid ((acc++[(l,canon S)])++fT ra rb=M):=by
      show _=_
      rw[<-HM.out,uE,if_neg (by rw[h1];decide),if_neg (by rw[h2];decide)];simp;rw[<-hS];rfl
     have uT:Hid ((acc++[(l,canon S)]).flatMap aN=acc.flatMap aN++[.string (bs l),.bool (au (dN S)),.string (bs (nt (dN S).natAbs)),.int .i64 (dE S)]):=by
      show _=_
      rw[List.flatMap_append];rfl
     clear h1 h2 hS
     have EN:=IM.out
     go_wp2_with fail
     refine bD (λw'=>w'.cell? ⟨b1,o1,none⟩=some (.string (bs l))/\w'.cell? ⟨b1,o1+1,none⟩=some (.bool s)/\w'.cell? ⟨b1,o1+2,none⟩=some (.string (bs m))/\w'.cell? ⟨b1,o1+3,none⟩=some (.int .i64 e)/\w'.cell? ⟨b2,o2,none⟩=some (.string (bs l'))/\w'.cell? ⟨b2,o2+1,none⟩=some (.bool s')/\w'.cell? ⟨b2,o2+2,none⟩=some (.string (bs m'))/\w'.cell? ⟨b2,o2+3,none⟩=some (.int .i64 e')) (λi=>Nat.blt i 100000) [(0,true),(1,true),(2,true),(3,true),(4,true),(5,true),(6,true),(7,true),(11,true),(12,true),(13,true),(14,true),(8,false),(9,false),(10,false),(15,true),(16,true),(17,true)] zk zk rfl zk zc ⟨x0,x1,x2,x3,y0,y1,y2,y3⟩ ?_
     iterate 12 (refine pT rfl rfl ?_ (by intro w' ⟨q0,q1,q2,q3,q4,q5,q6,q7⟩;go_simp;try with_reducible rfl);try simp only[UU])
     refine aJ rfl rfl (λK hK=>?_)
     go_simp
     with_reducible refine(ajR l s m e l' s' m' e' S B HS.out _ gZ.out kR.out hB (by first|exact HU.out|exact aF.drew HU.out|exact aF.alloc HU.out _|exact aF.drew (aF.alloc HU.out _) |exact aF.alloc (aF.drew HU.out) _)).mono ?_
     rintro e w4 ⟨rfl,hq⟩
     have ae:Bw w2 w4:=by first|exact hq|exact aO hq
     clear x0 x1 x2 x3
     clear y0 y1 y2 y3
     replace Hx:=kW Hx ae
     replace Hy:=kW Hy ae
     replace HU:=kT HU ae
     obtain⟨x0,x1,x2,x3⟩:=Hx.out.w4
     obtain⟨y0,y1,y2,y3⟩:=Hy.out.w4
     replace Hb:=az Hb ae;clear ae
     refine hK _ _ (λ_=>⟨x0,x1,x2,x3,y0,y1,y2,y3⟩) ?_;clear hK K
     try simp only[UU]
     refine aJ rfl rfl (λK hK=>?_)
     go_simp
     refine hK _ _ (λ_=>⟨aI x0,aI x1,aI x2,aI x3,aI y0,aI y1,aI y2,aI y3⟩) ?_;clear hK K
     try simp only[UU]
     refine bE (λW5=>ai W5 (w4.heap.size) 107 [.string (bs l),.bool (au (dN S)),.string (bs (nt (dN S).natAbs)),.int .i64 (dE S)]/\Bw w4 W5) (by first|exact dW|exact dX) ?_
     rintro W5 ⟨qc,ae⟩
     clear x0 x1 x2 x3
     clear y0 y1 y2 y3
     replace Hx:=kW Hx ae
     replace Hy:=kW Hy ae
     replace HU:=kT HU ae
     have Hc:=ah qc;clear qc
     obtain⟨x0,x1,x2,x3⟩:=Hx.out.w4
     obtain⟨y0,y1,y2,y3⟩:=Hy.out.w4
     obtain⟨c0,c1,c2,c3⟩:=Hc.out.c4
     replace Hb:=az Hb ae;clear ae
     refine aJ rfl rfl (λK hK=>?_)
     have dR:=ownsRow_below cp.out Hb.out
     have hs3:=Hb.out.size
     refine wp_append_own _ _ _ 55 rfl w.heap.size 107 i0 _ 4 48 Tryz.underlying55 Hi.out cM.out cN.out cJ.out rfl zd v acc.length (acc.flatMap aN) rfl dR ⟨w4.heap.size,0,none⟩ 1 1 [.string (bs l),.bool (au (dN S)),.string (bs (nt (dN S).natAbs)),.int .i64 (dE S)] rfl rfl (fZ Hc.out) zy zx zo zo ?_
     intro v' w8 dF bj _
     have nb:∀b,b<w.heap.size->some b≠v.ownBlock:=λb hb e=>by have:=cL dR b e.symm;omega
     refine hK _ _ (λ_=>⟨bO bj x0 (nb _ iZ),bO bj x1 (nb _ iZ),bO bj x2 (nb _ iZ),bO bj x3 (nb _ iZ),bO bj y0 (nb _ gV),bO bj y1 (nb _ gV),bO bj y2 (nb _ gV),bO bj y3 (nb _ gV)⟩) ?_;clear hK K
     try simp only[UU]
     iterate 3 (refine pT rfl rfl ?_;try simp only[UU])
     simp only[aU]
     have ve:=ah ((aK aR.out Hb.out).grown bj zo (λj e=>cL dR j e))
     have gP:Hid (w8.ownsRow w.heap.size 107 4 v' (acc++[(l,canon S)]).length ((acc++[(l,canon S)]).flatMap aN)):=by
      show w8.ownsRow _ _ _ _ _ _
      rw[uT.out,List.length_append];exact dF
     clear nb dR dF bj x0 x1 x2 x3 y0 y1 y2 y3 c0 c1 c2 c3 sM Ga
     go_wp2
     go_roundw
     case rel=>exact⟨ra,rb,acc++[(l,canon S)],p,q,_,_,_,_,v',rfl,rfl,rfl,Jt.out,Ju.out,Qf.out,Qg.out,Qi.out,nM.out,Ak.out,Al.out,gP.out,by simp;omega,uV.out,ve.out⟩
     case measure=>simp[uv];omega
  . have hmr:fT ra rb=ra++rb:=by
     have:p=0\/q=0:=by omega
     rcases this with rfl|rfl
     . rw[List.eq_nil_of_length_eq_zero sI,yS];rfl
     . rw[List.eq_nil_of_length_eq_zero pJ,yT];simp
    have Sg:M.length=acc.length+p+q:=by rw[<-hM,hmr];simp[sI,pJ];omega
    have uT:Hid (M.flatMap aN=(acc.flatMap aN++ra.flatMap aN)++rb.flatMap aN):=by
     show _=_
     rw[<-hM,hmr,<-List.append_assoc,List.flatMap_append,List.flatMap_append]
    have hlr:(ra.flatMap aN).length=p*4:=by rw[kM,sI]
    have TU:(rb.flatMap aN).length=q*4:=by rw[kM,pJ]
    have iD:=hat.below pb;have al9:=hlen;obtain⟨DX,Zy,jJ,fF,cp,aR,Jw,Jx,Yg⟩:=MC hlr TU iD hat' hov pb hsa wJ Sg;clear sI pJ hmr hlr TU hat hat' iD hov pb hsa wJ hM ub ud Sg;have hsz:=aR.out.size;by_cases h0:0<p
    all_goals
     go_wp2_with (first| (at_builtin;refine ry rfl (.tmp 70) (.tmp 71) 55 rfl w.heap.size 107 i0 _ 4 48 Tryz.underlying55 Hi.out cM.out cN.out cJ.out rfl zd v acc.length (acc.flatMap aN) rfl cp.out aa p ca (ra.flatMap aN) rfl Jw.out DX.out jJ.out (rp ra) zx zo hsz ?_;intro v1 w2 cP hg1 hb1) | (at_builtin;refine ry rfl (.tmp 72) (.tmp 73) 55 rfl w.heap.size 107 i0 _ 4 48 Tryz.underlying55 Hi.out cM.out cN.out cJ.out rfl zd v1 (acc.length+p) (acc.flatMap aN++ra.flatMap aN) rfl cP ab q cb (rb.flatMap aN) rfl Jx.out Zy.out (fF.out.below (aR.out.grown hg1 hsz (λj e=>cL cp.out j e))) (rp rb) zx zo (Nat.le_trans hsz hg1.size) ?_;intro v2 w3 eo hg2 hb2))
     go_ret
     refine⟨v2,rfl,?_,(aR.out.grown hg1 hsz (λj e=>cL cp.out j e)).grown hg2 (Nat.le_trans hsz hg1.size) (λj e=>cL cP j e)⟩
     rw[Yg.out,uT.out];exact eo
end Go.Proofs.YtdaadlblknpipaaGreatDoor
namespace Go.Proofs.YtdaadlblknpipaaGreatDoor
open Go.RowKit
theorem aj5 (ts:List aL)(i:Nat)(hi:i<ts.length)(t:aL):(((((ts.flatMap aN).set (i*4) (.string (bs t.1))).set (i*4+1) (.bool t.2.1)).set (i*4+2) (.string (bs t.2.2.1))).set (i*4+3) (.int .i64 t.2.2.2))=(ts.set i t).flatMap aN:=by
 induction ts generalizing i with
 |nil=>simp at hi
 | cons x ts ih=>
   have e:∀(y:aL) zs,(y::zs).flatMap aN=.string (bs y.1)::.bool y.2.1::.string (bs y.2.2.1)::.int .i64 y.2.2.2::zs.flatMap aN:=λy zs=>rfl;cases i with
   |zero=>rw[e];rfl
   |succ i=>rw[List.set_cons_succ,e,e,<-ih i (by simpa using hi),show(i+1) *4=i*4+1+1+1+1 by omega];rfl
theorem aj4 (ts:List aL)(i:Nat)(hi:i<ts.length)(r:Raw):((((ts.flatMap aN).set (i*4+1) (.bool r.1)).set (i*4+2) (.string (bs r.2.1))).set (i*4+3) (.int .i64 r.2.2))=(ts.set i (ts[i].1,r)).flatMap aN:=by
 induction ts generalizing i with
 |nil=>simp at hi
 | cons x ts ih=>
   have e:∀(y:aL) zs,(y::zs).flatMap aN=.string (bs y.1)::.bool y.2.1::.string (bs y.2.2.1)::.int .i64 y.2.2.2::zs.flatMap aN:=λy zs=>rfl;cases i with
   |zero=>rw[e];rfl
   |succ i=>rw[List.set_cons_succ,e,e,List.getElem_cons_succ,<-ih i (by simpa using hi),show(i+1) *4=i*4+1+1+1+1 by omega];rfl
theorem lG {w:World}{base:Nat}{e:TypeId}{size n cap g:Nat}{xs:List Value}(h:w.ownsRow base e size (.slice (some ⟨g,0,none⟩) n cap) n xs)(o:Nat):w.frozen? ⟨g,o,none⟩=false:=by
 rcases h.2 with⟨h1,_⟩ |⟨g',cap',cur,h1,hb,hg,_⟩
 . simp at h1
 . simp only[Value.slice.injEq,Option.some.injEq,Addr.mk.injEq,and_true,true_and]at h1;obtain⟨rfl,rfl⟩:=h1;have h4:ai w g e cur.toList:=by unfold ai;simpa using hg
   exact h4.free o
theorem xh {w:World}{base:Nat}{e:TypeId}{size n cap g:Nat}{xs:List Value}(h:w.ownsRow base e size (.slice (some ⟨g,0,none⟩) n cap) n xs):base<=g/\g<w.heap.size:=by
 rcases h.2 with⟨h1,_⟩ |⟨g',cap',cur,h1,hb,hg,_⟩
 . simp at h1
 . simp only[Value.slice.injEq,Option.some.injEq,Addr.mk.injEq,and_true,true_and]at h1;obtain⟨rfl,rfl⟩:=h1;exact⟨hb,(Array.getElem?_eq_some_iff.1 hg).1⟩
theorem Gq {w:World}{base n cap g:Nat}{e:TypeId}{ts:List aL}(h:w.ownsRow base e 4 (.slice (some ⟨g,0,none⟩) n cap) n (ts.flatMap aN))(k:Nat)(hk:k<ts.length){l:List UInt8}{s:Bool}{m:List UInt8}{ex:Int}(hx:ts[k]=(l,s,m,ex)):
 aZ w g (k*4) [.string (bs l),.bool s,.string (bs m),.int .i64 ex]:=by
 obtain⟨a,c,hv,hat,_⟩:=dK h;simp only[Value.slice.injEq,true_and]at hv;obtain⟨rfl,rfl⟩:=hv;obtain⟨b,o,hab,hw⟩:=hat.term k hk hx;simp only[Option.some.injEq,Addr.mk.injEq,and_true]at hab;obtain⟨rfl,rfl⟩:=hab;rwa [Nat.zero_add]at hw
theorem ahS {w:World}{base n cap g:Nat}{e:TypeId}{ts:List aL}(h:w.ownsRow base e 4 (.slice (some ⟨g,0,none⟩) n cap) n (ts.flatMap aN))(i:Nat)(hi:i<ts.length)(l:List UInt8)(s:Bool)(m:List UInt8)(ex:Int):
 ((((w.setCell ⟨g,i*4,none⟩ (.string (bs l))).setCell ⟨g,i*4+1,none⟩ (.bool s)).setCell ⟨g,i*4+2,none⟩ (.string (bs m))).setCell ⟨g,i*4+3,none⟩ (.int .i64 ex)).ownsRow base e 4 (.slice (some ⟨g,0,none⟩) n cap) n ((ts.set i (l,s,m,ex)).flatMap aN):=by
 rw[<-aj5 ts i hi (l,s,m,ex)];exact jo (jo (jo (jo h _ _) _ _) _ _) _ _
theorem Wo {w:World}{base n cap g:Nat}{e:TypeId}{ts:List aL}(h:w.ownsRow base e 4 (.slice (some ⟨g,0,none⟩) n cap) n (ts.flatMap aN))(i:Nat)(hi:i<ts.length)(s:Bool)(m:List UInt8)(ex:Int):
 (((w.setCell ⟨g,i*4+1,none⟩ (.bool s)).setCell ⟨g,i*4+2,none⟩ (.string (bs m))).setCell ⟨g,i*4+3,none⟩ (.int .i64 ex)).ownsRow base e 4 (.slice (some ⟨g,0,none⟩) n cap) n ((ts.set i (ts[i].1,s,m,ex)).flatMap aN):=by
 rw[<-aj4 ts i hi (s,m,ex)];exact jo (jo (jo h _ _) _ _) _ _
theorem ET {w w':World}(r:Option Nat)(h:Bw w w'):w.grownBy w' r:=⟨h.os,h.tape,h.output,h.size,λk hk _=>h.block k hk⟩
theorem EU {w w':World}{g:Nat}(h:w.grownBy w' (some g))(a:Nat)(v:Value):w.grownBy (w'.setCell ⟨g,a,none⟩ v) (some g):=grownBy_trans h (grownBy_set g rfl v)
theorem abZ {n:Nat}{w w':World}{r:Option Nat}(h:w.grownBy w' r)(hn:n<=w.heap.size)(hr:∀g,r=some g->n<=g):Below n w w':=((Below.refl _ _).mono hn).grown h hn hr
theorem VU {B:Nat}(a b:List aL)(ha:∀t∈a,Fit B t.2)(hb:∀t∈b,Fit B t.2)(hB:B+1<=268435456):∀t∈fT a b,Fit (B+1) t.2:=by
 obtain⟨n,hn⟩:=aC (a.length+b.length);induction n using Nat.strongRecOn generalizing a b with
 | _ n ih=>
   cases a with
   |nil=>rw[yS];exact λt ht=>(hb t ht).mono zo
   | cons x a=>cases b with
     |nil=>rw[yT];exact λt ht=>(ha t ht).mono zo
     | cons y b=>
       rw[uE];simp only[List.length_cons]at hn;have ha2:∀t∈a,Fit B t.2:=λt ht=>ha t (by simp[ht]);have hb2:∀t∈b,Fit B t.2:=λt ht=>hb t (by simp[ht]);split
       . intro t ht;rcases List.mem_cons.1 ht with rfl|ht
         . exact(ha _ zm).mono zo
         . exact ih _ (by simp only[List.length_cons];omega) a (y::b) ha2 hb rfl t ht
       . split
         . intro t ht;rcases List.mem_cons.1 ht with rfl|ht
           . exact(hb _ zm).mono zo
           . exact ih _ (by simp only[List.length_cons];omega) (x::a) b ha hb2 rfl t ht
         . intro t ht;rcases List.mem_cons.1 ht with rfl|ht
           . exact((ha x zm).2.add (hb y zm).2).fit hB
           . exact ih _ zo a b ha2 hb2 rfl t ht
theorem NQ {B:Nat}(l:List aL)(h:∀t∈l,Fit B t.2)(hB:B+l.length<=268435456):∀t∈fW l,Fit (B+l.length) t.2:=by
 obtain⟨n,hn⟩:=aC l.length;induction n using Nat.strongRecOn generalizing l with
 | _ n ih=>
   by_cases h2:l.length<2
   . rw[GC l h2];exact λt ht=>(h t ht).mono zo
   . rw[NR l zo];have l1:(l.take (l.length/2)).length=l.length/2:=by rw[List.length_take];omega
     have l2:(l.drop (l.length/2)).length=l.length-l.length/2:=List.length_drop;have h3:=ih _ (by rw[<-hn,l1];omega) (l.take (l.length/2)) (λt ht=>h t (List.mem_of_mem_take ht)) (by rw[l1];omega) rfl;have h4:=ih _ (by rw[<-hn,l2];omega) (l.drop (l.length/2)) (λt ht=>h t (List.mem_of_mem_drop ht)) (by rw[l2];omega) rfl;have:=VU (B:=B+(l.length-1)) _ _ (λt ht=>(h3 t ht).mono (by rw[l1];omega)) (λt ht=>(h4 t ht).mono (by rw[l2];omega)) zo;rwa [show B+(l.length-1)+1=B+l.length by omega]at this
end Go.Proofs.YtdaadlblknpipaaGreatDoor
namespace Go.Proofs.YtdaadlblknpipaaGreatDoor
open Go.RowKit
attribute [local go_sem ↓] Go.wp_at_zero Go.wp_at_succ
theorem adV {α:Type}(p:α->Bool)(l:List α)(i:Nat)(hi:i<=l.length)(h:∀j (hj:j<i),p (l[j]'zo)=false):(l.take i).filter (λx=>!p x)=l.take i:=by
 rw[List.filter_eq_self];intro x hx;obtain⟨j,hj,rfl⟩:=List.mem_iff_getElem.1 hx;rw[List.getElem_take];have jT:j<i:=by rw[List.length_take]at hj;omega
 simp[h j jT]
theorem take_set {α:Type}(l:List α)(a:Nat)(x:α)(h:a<l.length):(l.set a x).take (a+1)=l.take a++[x]:=by rw[List.take_succ_eq_append_getElem (by simpa using h),List.getElem_set_self,List.take_set_of_le (Nat.le_refl _)]
theorem Kq {α:Type}(l:List α)(a b:Nat)(x:α)(h:a<b):(l.set a x).drop b=l.drop b:=by rw[List.drop_set];rw[if_pos h]
theorem Tryz.aor (w:World):(zeroValue 107).run Tryz.prog w=.ok (.agg #[.string ⟨#[]⟩,.bool false,.string ⟨#[]⟩,.int .i64 0]) w:=by kernel_rfl
theorem RD (ts:List aL)(k:Nat)(hk:k<=ts.length):(ts.flatMap aN).take (k*4)=(ts.take k).flatMap aN:=by
 have e:ts=ts.take k++ts.drop k:=(List.take_append_drop _ _).symm;conv=>lhs;rw[e]
 rw[List.flatMap_append,List.take_left' (by rw[kM,List.length_take,Nat.min_eq_left hk])]
theorem adc (a:Option Addr)(n cap:Nat)(ts:List aL)(gf:Nat)(p:aL->Bool)(w:World)(hn:ts.length=n)(hl:n<=65536)(ha:At w a (ts.flatMap aN))
 (eg:∀args w,(callFunc gf args).run Tryz.prog w=.ok (.enter gf args) w) (h2:∀x∈ts,p x=false)
 (hcl:∀x∈ts,∀W,Calls Tryz.prog gf #[.agg #[.string (bs x.1),.bool x.2.1,.string (bs x.2.2.1),.int .i64 x.2.2.2]] W λe w'=>e=.returned (.bool (p x))/\Bw W w'):
 Calls Tryz.prog 136 #[.slice a n cap,.func (.func gf) #[] #[]] w λe w'=>e=.returned (.slice a n cap)/\Bw w w':=by
 have bA:=Mx a n cap ts gf #[] p w hn zo ha eg (λx hx W _=>by simpa using hcl x hx W);rcases Vi p ts 0 with⟨h1,_⟩ |⟨i,hi,_,h3,_⟩
 . rw[h1]at bA;have Ar:=ah bA;clear bA h1 h2 hn hcl eg ha;have Hb:Hid (Bw w w):=Below.refl _ _;go_enter Tryz.func136,Tryz.ntmps136;go_wp2_with fail;refine(Ar.out).mono ?_;rintro e w1 ⟨rfl,ae⟩;replace Hb:=az Hb ae;clear ae;go_wp2;go_ret;exact⟨rfl,Hb.out⟩
 . rw[h2 _ (List.getElem_mem hi)]at h3;cases h3
theorem adb (g n cap base:Nat)(ts:List aL)(gf:Nat)(p:aL->Bool)(w:World)(hn:ts.length=n)(hl:n<=65536)(hn0:0<n)(ho:w.ownsRow base 107 4 (.slice (some ⟨g,0,none⟩) n cap) n (ts.flatMap aN))
 (eg:∀args w,(callFunc gf args).run Tryz.prog w=.ok (.enter gf args) w)
 (hcl:∀x∈ts,∀W,Calls Tryz.prog gf #[.agg #[.string (bs x.1),.bool x.2.1,.string (bs x.2.2.1),.int .i64 x.2.2.2]] W λe w'=>e=.returned (.bool (p x))/\Bw W w'):
 Calls Tryz.prog 136 #[.slice (some ⟨g,0,none⟩) n cap,.func (.func gf) #[] #[]] w λe w'=>∃k,k=(ts.filter λx=>!p x).length/\e=.returned (.slice (some ⟨g,0,none⟩) k cap)/\
  w'.ownsRow base 107 4 (.slice (some ⟨g,0,none⟩) k cap) k ((ts.filter λx=>!p x).flatMap aN)/\w.grownBy w' (some g):=by
 have hat:At w (some ⟨g,0,none⟩) (ts.flatMap aN):=by obtain⟨a,c,hv,hat,_⟩:=dK ho;simp only[Value.slice.injEq,true_and]at hv;rw[hv.1];exact hat
 have hcap:=(uI ho).1;have bA:=Mx (some ⟨g,0,none⟩) n cap ts gf #[] p w hn zo hat eg (λx hx W _=>by simpa using hcl x hx W);have hcm:cap<=9223372036854775807:=by
  rcases ho.2 with⟨h1,_⟩ |⟨g',cap',cur,h1,hb,hg,h4,h5,_⟩
  . simp at h1
  . simp only[Value.slice.injEq]at h1;obtain⟨_,_,rfl⟩:=h1;unfold maxLen at h5;omega
 obtain⟨Ho,gN,Hn,oK,fF⟩:=fp ho hcl hn eg hat;clear ho hcl hn eg hat;rcases Vi p ts 0 with⟨h1,h2⟩ |⟨i,hi,h1,h2,h3⟩
 . rw[h1]at bA;have hK:(ts.filter λx=>!p x)=ts:=List.filter_eq_self.2 (λx hx=>by simp[h2 x hx]);rw[hK,Hn.out];have Ar:=ah bA;clear bA h1 h2 hK;have Hb:Hid (Bw w w):=Below.refl _ _;go_enter Tryz.func136,Tryz.ntmps136;go_wp2_with fail;refine(Ar.out).mono ?_;rintro e w1 ⟨rfl,ae⟩;replace Hb:=az Hb ae;clear ae;go_wp2;go_ret;exact⟨n,rfl,rfl,ownsRow_below Ho.out Hb.out,ET _ Hb.out⟩
 . rw[h1,Nat.zero_add]at bA;have hin:i<n:=by rw[<-Hn.out];exact hi
   obtain⟨K,hK⟩:=aC (ts.filter λx=>!p x);rw[hK];have hst:(ts.take (i+1)).filter (λx=>!p x)=ts.take i:=by rw[List.take_succ_eq_append_getElem hi,List.filter_append,adV p ts i zo h3];simp[h2]
   have sB:((i:Int)== -1)=false:=by simp
   obtain⟨Ar,HK,bS⟩:=cH bA hK hst;clear bA h1 h2 h3 hK hst;have Hb:Hid (Bw w w):=Below.refl _ _;go_enter Tryz.func136,Tryz.ntmps136;go_wp2_with fail;refine(Ar.out).mono ?_;rintro e w1 ⟨rfl,ae⟩;replace Hb:=az Hb ae;clear ae;go_wp2_with fail;go_loopw[5,6] (λs5 s6 wr=>∃(x y:Nat) (C:List aL),s5=.int .i64 (x:Int)/\s6=.int .i64 (y:Int)/\x<y/\y<=n/\C.length=n/\C.take x=(ts.take y).filter (λx=>!p x)/\C.drop y=ts.drop y/\wr.ownsRow base 107 4 (.slice (some ⟨g,0,none⟩) n cap) n (C.flatMap aN)/\w.grownBy wr (some g)) (λ_ s6 _=>n-(intOf s6).toNat);case atStart=>exact⟨i,i+1,ts,rfl,by go_num,by omega,by omega,Hn.out,bS.out.symm,rfl,ownsRow_below Ho.out Hb.out,ET _ Hb.out⟩
   case round=>
    clear Hb sB;obtain⟨x,y,C,rfl,rfl,hxy,ol,hC,htk,hdr,hov,hg⟩:=hrel;by_cases hlt:y<n
    . have Mv:y<ts.length:=by rw[Hn.out];exact hlt
      have UZ:y<C.length:=by omega
      have hel:C[y]=ts[y]:=by
       have e1:C[y]?=ts[y]?:=by rw[<-Nat.add_zero y,<-List.getElem?_drop,<-List.getElem?_drop,hdr]
       rw[List.getElem?_eq_getElem UZ,List.getElem?_eq_getElem Mv]at e1;exact Option.some.inj e1
      obtain⟨l,s,m,e,hx⟩:∃l s m e,ts[y]=(l,s,m,e):=⟨_,_,_,_,rfl⟩;have hw:=Gq hov y UZ (hel.trans hx);have hcl:=gN.out _ (List.getElem_mem Mv);rw[hx]at hcl;have hnx:(ts.take (y+1)).filter (λx=>!p x)=(ts.take y).filter (λx=>!p x)++if p (l,s,m,e)then[]else[(l,s,m,e)]:=by rw[List.take_succ_eq_append_getElem Mv,List.filter_append,hx];by_cases hp:p (l,s,m,e)=true<;>simp[hp]
      have hd2:C.drop (y+1)=ts.drop (y+1):=by rw[<-List.drop_drop,<-List.drop_drop,hdr]
      have bA:=jl n cap y (y:Int) (rfl:(some ⟨g,0,none⟩:Option Addr)=_) hlt rfl;rw[Nat.zero_add]at bA;obtain⟨hgb,Ce⟩:=xh hov;obtain⟨cp,Hg,Qj,xL,rL,HC,Pk⟩:=na hov hg htk hd2 hnx hC hcl;have Hz:Hid (aZ wr g (y*4) [.string (bs l),.bool s,.string (bs m),.int .i64 e]):=hw;clear hov hg htk hd2 hnx hC hcl hw hdr hel hx;have Hb:Hid (Bw wr wr):=Below.refl _ _;obtain⟨z0,z1,z2,z3⟩:=Hz.out.w4;have P0:=z0;have P1:=z1;have P2:=z2;have P3:=z3;have EN:=oK.out;obtain⟨W4,nY,ae,Hv⟩:=cQ wr 107 [.string (bs l),.bool s,.string (bs m),.int .i64 e];clear z0 z1 z2 z3;replace Hz:=kW Hz ae;obtain⟨z0,z1,z2,z3⟩:=Hz.out.w4;obtain⟨v0,v1,v2,v3⟩:=Hv.out.c4;replace Hb:=az Hb ae;clear ae;obtain⟨t,ht⟩:=aC (p (l,s,m,e));rw[ht]at Pk rL;clear ht;go_wp2_with fail;refine(Pk.out _).mono ?_;rintro e w5 ⟨rfl,ae⟩;clear z0 z1 z2 z3 v0 v1 v2 v3;replace Hz:=kW Hz ae;replace Hv:=kB Hv ae;obtain⟨z0,z1,z2,z3⟩:=Hz.out.w4;obtain⟨v0,v1,v2,v3⟩:=Hv.out.c4;replace Hb:=az Hb ae;clear ae;have gU:=ownsRow_below cp.out Hb.out;have FC:=grownBy_trans Hg.out (ET _ Hb.out);clear EN;cases t with
      | true=>
        obtain⟨vw,IW⟩:=aM gU FC;clear gU FC;go_wp2;go_roundw;case rel=>exact⟨x,y+1,C,rfl,by go_num,by omega,by omega,HC.out,by rw[rL.out,Qj.out];simp,xL.out,vw.out,IW.out⟩
        case measure=>simp[intOf];omega
      | false=>
        have Mt:x<C.length:=by have:=HC.out;omega
        obtain⟨lx,sx,mx,ex,UV⟩:∃l s m e,C[x]=(l,s,m,e):=⟨_,_,_,_,rfl⟩;obtain⟨u0,u1,u2,u3⟩:=(Gq gU x Mt UV).w4;have nW:=lG gU (x*4);have lV:=lG gU (x*4+1);have ES:=lG gU (x*4+2);have RH:=lG gU (x*4+3);have mg:=jl n cap x (x:Int) (rfl:(some ⟨g,0,none⟩:Option Addr)=_) zo rfl;rw[Nat.zero_add]at mg;obtain⟨vw,IW,Qp⟩:=cH gU FC Mt;clear gU FC UV Mt;go_wp2;refine⟨⟨x+1,y+1,C.set x (l,s,m,e),by go_num,by go_num,by omega,by omega,by rw[List.length_set];exact HC.out,?_,?_,ahS vw.out x Qp.out l s m e,?_⟩,by simp[intOf];omega⟩
        . rw[take_set _ _ _ Qp.out,Qj.out,rL.out];simp
        . rw[Kq _ _ _ _ zo];exact xL.out
        . exact EU (EU (EU (EU IW.out _ _) _ _) _ _) _ _
    . obtain rfl:y=n:=by omega
      have hK:C.take x=K:=by rw[htk,<-HK.out,List.take_of_length_le (by rw[Hn.out];exact Nat.le_refl _)]
      have Fe:K.length=x:=by rw[<-hK,List.length_take,hC];omega
      have yG:=Wp hov x zo;rw[RD C x zo,hK]at yG;obtain⟨w6,al3,Cq,Tu⟩:=WT wr 55 107 _ 4 Tryz.underlying55 Tryz.aor rfl (by intro v hv;simp[Value.cells]at hv;rcases hv with rfl|rfl|rfl|rfl<;>rfl) g x (y-x) cap (cap-x) base (K.flatMap aN) yG zo;have jy:¬cap=x:=by omega
      obtain⟨ZO,rI,Yf⟩:=cH Cq (grownBy_trans hg Tu) Fe;clear htk hdr hC hK Fe yG hov hg Cq Tu;go_wp2;go_ret;exact⟨x,Yf.out.symm,rfl,ZO.out,rI.out⟩
theorem At.first {w:World}{a:Option Addr}{xs:List Value}(h:At w a xs)(k:Nat):At w a (xs.take k):=by
 rcases h with rfl|⟨b,o,rfl,hc⟩
 . exact .inl zm
 . refine .inr ⟨b,o,rfl,λj hj=>?_⟩;rw[List.length_take]at hj;rw[hc j zo,List.getElem?_take_of_lt zo]
def JQ (w:World)(a:Option Addr)(n cap:Nat)(ts:List aL)(e:Ending)(w':World):Prop:=
 ∃v',e=.returned v'/\((n<2/\v'=.slice a n cap)\/(2<=n/\w'.ownsRow w.heap.size 107 4 v' (fW ts).length ((fW ts).flatMap aN)))/\Bw w w'
theorem JQ.at {w:World}{a:Option Addr}{n cap:Nat}{ts:List aL}{e:Ending}{w':World}(h:JQ w a n cap ts e w')(hn:ts.length=n)(hs:Sl a n cap)(ha:At w a (ts.flatMap aN)):
 ∃a' c',e=.returned (.slice a' (fW ts).length c')/\At w' a' ((fW ts).flatMap aN)/\Sl a' (fW ts).length c'/\Bw w w':=by
 obtain⟨v',rfl,h1,hb⟩:=h;rcases h1 with⟨h2,rfl⟩ |⟨h2,ho⟩
 . rw[GC ts zo,hn];exact⟨a,cap,rfl,ha.below hb,hs,hb⟩
 . obtain⟨a',c',rfl,hat,_⟩:=dK ho;exact⟨a',c',rfl,hat,uI ho,hb⟩
theorem ajH (n:Nat):∀(a:Option Addr) (cap:Nat) (ts:List aL) (B:Nat) (w:World),ts.length=n->Sl a n cap->n<=65536->At w a (ts.flatMap aN)->(∀t∈ts,Fit B t.2)->B+n+2<=268435456->aF w->
 Calls Tryz.prog 137 #[.slice a n cap,.func (.func 100) #[] #[],.func (.func 101) #[] #[]] w (JQ w a n cap ts):=by
 induction n using Nat.strongRecOn with
 | _ n ih=>
   intro a cap ts B w hn hs hl ha hf hB hT;by_cases h2:n<2
   . have h2i:(n:Int)<2:=by omega
     clear ih hn hs ha hf hT;have Hb:Hid (Bw w w):=Below.refl _ _;go_enter Tryz.func137,Tryz.ntmps137;go_wp2;go_ret;exact⟨_,rfl,.inl ⟨h2,rfl⟩,Hb.out⟩
   . obtain⟨k,hk⟩:=aC (n/2);have hk1:1<=k:=by omega
     have hk2:k<n:=by omega
     have Ci:(n:Int)/2=(k:Int):=by omega
     have l1:(ts.take k).length=k:=by rw[List.length_take];omega
     have l2:(ts.drop k).length=n-k:=by rw[List.length_drop];omega
     have hcn:=hs.1;have s1:Sl a k cap:=⟨by omega,hs.2⟩;have s2:Sl (if cap=k then a else a.map (·.add (k*4))) (n-k) (cap-k):=hs.cut zo;have a1:=ha.first (k*4);rw[RD ts k zo]at a1;have a2:=ha.cut (k:=k) (size:=4) (by rw[kM,hn]) zo hcn;have ed:(ts.flatMap aN).drop (k*4)=(ts.drop k).flatMap aN:=by
      have e:ts=ts.take k++ts.drop k:=(List.take_append_drop _ _).symm;conv=>lhs;rw[e]
      rw[List.flatMap_append,List.drop_left' (by rw[kM,l1])]
     rw[ed]at a2;obtain⟨a',ha'⟩:=aC (if cap=k then a else a.map (·.add (k*4)));rw[ha']at s2 a2;have f1:∀t∈ts.take k,Fit B t.2:=λt ht=>hf t (List.mem_of_mem_take ht);have f2:∀t∈ts.drop k,Fit B t.2:=λt ht=>hf t (List.mem_of_mem_drop ht);have c1:=λW (hW:Bw w W) (BN:aF W)=>(ih k hk2 a cap (ts.take k) B W l1 s1 zo (a1.below hW) f1 zo BN).mono (λe w' h=>h.at l1 s1 (a1.below hW));have c2:=λW (hW:Bw w W) (BN:aF W)=>(ih (n-k) zo a' (cap-k) (ts.drop k) B W l2 s2 zo (a2.below hW) f2 zo BN).mono (λe w' h=>by obtain⟨x1,x2,x3,x4,x5,x6⟩:=h.at l2 s2 (a2.below hW);exact(⟨x1,x2,x3,x4,x5,Nat.le_trans hW.size x6.size,x6,x6⟩:∃a1 c1,e=.returned (.slice a1 (fW (ts.drop k)).length c1)/\At w' a1 ((fW (ts.drop k)).flatMap aN)/\Sl a1 (fW (ts.drop k)).length c1/\w.heap.size<=w'.heap.size/\Bw W w'/\Bw W w'));have g1:=NQ (B:=B) (ts.take k) f1 zo;have g2:=NQ (B:=B) (ts.drop k) f2 zo;have e1:=GA (ts.take k);have e2:=GA (ts.drop k);have hst:fW ts=fT (fW (ts.take k)) (fW (ts.drop k)):=by rw[NR ts zo,hn,hk]
     obtain⟨L,hL⟩:=aC (fW (ts.take k));obtain⟨R,hR⟩:=aC (fW (ts.drop k));rw[hL]at c1 g1 e1 hst;rw[hR]at c2 g2 e2 hst;have h2i:¬(n:Int)<2:=by omega
     have h2n:2<=n:=by omega
     obtain⟨C1,C2,G1,G2,bS,HT⟩:=gJ c1 c2 (λt ht=>(g1 t ht).mono (show B+(ts.take k).length<=B+n by omega)) (λt ht=>(g2 t ht).mono (show B+(ts.drop k).length<=B+n by omega)) hst hT;have DX:Hid (L.length<=65536/\R.length<=65536):=⟨by omega,by omega⟩;have xV:=ha';clear ih hn hs ha hf hT a1 a2 s1 s2 f1 f2 c1 c2 g1 g2 e1 e2 hst ed l1 l2 hL hR hk ha';have Hb:Hid (Bw w w):=Below.refl _ _;go_enter Tryz.func137,Tryz.ntmps137;go_wp2_with fail;have hkn:k<=n:=by omega
     have hkc:k<=cap:=by omega
     refine bD (λw'=>True) (λi=>Nat.blt i 100000) [(0,true),(1,true),(2,true),(3,true),(4,true),(6,true),(7,true),(8,true),(9,true),(10,true),(12,true),(13,true),(5,false),(11,false),(14,false),(15,true)] zk zk rfl zk zc True.intro ?_;iterate 12 (refine pT rfl rfl ?_;try simp only[UU])
     refine aJ rfl rfl (λK hK=>?_);go_simp;with_reducible refine(C1.out _ (by first|exact Hb.out|exact Hb.out.drew) (by first|exact(HT.out.below Hb.out) |exact aF.drew (HT.out.below Hb.out) |exact aF.alloc (HT.out.below Hb.out) _|exact aF.drew (aF.alloc (HT.out.below Hb.out) _) |exact aF.alloc (aF.drew (HT.out.below Hb.out)) _)).mono ?_
     rintro e w1 ⟨b1,d1,rfl,iD,hs1,hq⟩;have ae:Bw w w1:=by first|exact hq|exact aO hq
     replace Hb:=az Hb ae;clear ae;refine hK _ _ (λ_=>True.intro) ?_;clear hK K;try simp only[UU]
     refine aJ rfl rfl (λK hK=>?_);go_simp;with_reducible refine(C2.out _ (by first|exact Hb.out|exact Hb.out.drew) (by first|exact(HT.out.below Hb.out) |exact aF.drew (HT.out.below Hb.out) |exact aF.alloc (HT.out.below Hb.out) _|exact aF.drew (aF.alloc (HT.out.below Hb.out) _) |exact aF.alloc (aF.drew (HT.out.below Hb.out)) _)).mono ?_
     rintro e w2 ⟨b2,d2,rfl,ma,hs2,afC,tY,hq⟩;have ae:Bw w1 w2:=by first|exact hq|exact aO hq
     replace Hb:=az Hb ae;clear ae;refine hK _ _ (λ_=>True.intro) ?_;clear hK K;try simp only[UU]
     refine aJ rfl rfl (λK hK=>?_);go_simp;with_reducible refine(VO b1 L.length d1 L b2 R.length d2 R (B+n) _ rfl rfl hs1 hs2 DX.out.1 DX.out.2 (by first|exact iD.below tY|exact(iD.below tY).drew) (by first|exact ma|exact ma.drew) G1.out G2.out zo (by first|exact(HT.out.below Hb.out) |exact aF.drew (HT.out.below Hb.out) |exact aF.alloc (HT.out.below Hb.out) _|exact aF.drew (aF.alloc (HT.out.below Hb.out) _) |exact aF.alloc (aF.drew (HT.out.below Hb.out)) _)).mono ?_
     rintro e w3 ⟨v',rfl,ho,hq⟩;have ae:Bw w2 w3:=by first|exact hq|exact aO hq
     replace Hb:=az Hb ae;clear ae;refine hK _ _ (λ_=>True.intro) ?_;clear hK K;try simp only[UU]
     refine pT rfl rfl ?_;try simp only[UU]
     simp only[aU];go_wp2;go_ret;exact⟨v',rfl,.inr ⟨h2n,by rw[bS.out];exact oF ho afC⟩,Hb.out⟩
def yc (x:aL):aL:=(x.1,canon (aB x.2))
theorem VM (f:aL->aL)(K C:List aL)(k:Nat)(hk:k<C.length)(hl:C.length=K.length)(ht:C.take k=(K.map f).take k)(hx:C[k]=K[k]'zo):(C.set k (f C[k])).take (k+1)=(K.map f).take (k+1):=by rw[take_set _ _ _ hk,ht,List.take_succ_eq_append_getElem zi,List.getElem_map,hx]
theorem Rp {K C:List aL}{k:Nat}(hd:C.drop k=K.drop k)(h1:k<C.length)(h2:k<K.length):C[k]=K[k]:=by
 have e1:C[k]?=K[k]?:=by rw[<-Nat.add_zero k,<-List.getElem?_drop,<-List.getElem?_drop,hd]
 rw[List.getElem?_eq_getElem h1,List.getElem?_eq_getElem h2]at e1;exact Option.some.inj e1
theorem acB (V:Int)(v:Value)(n:Nat)(ts:List aL)(B:Nat)(w0 w:World)(hb0:Bw w0 w)(hn:ts.length=n)(hl:n<=4096)(ho:w.ownsRow w0.heap.size 107 4 v n (ts.flatMap aN))(hf:∀t∈ts,Fit B t.2)(hB:B+n+2<=268435456)(hT:aF w0):
 Calls Tryz.prog 97 #[.int .i64 V,v] w λe w'=>∃v',e=.returned (.tuple #[.agg #[.int .i64 V,v'],.int .i64 0])/\w'.ownsRow w0.heap.size 107 4 v' (bH ts).length ((bH ts).flatMap aN)/\Bw w0 w':=by
 obtain⟨a,cap,rfl,hat,_⟩:=dK ho;have hs:=uI ho;have FD:=NQ ts hf zo;have hsl:=GA ts;have eg:∀args w,(callFunc 138 args).run Tryz.prog w=.ok (.enter 138 args) w:=enters_of Tryz.func138 zk rfl;obtain⟨S,hS⟩:=aC (fW ts);have c1:∀W,Bw w W->Calls Tryz.prog 137 #[.slice a n cap,.func (.func 100) #[] #[],.func (.func 101) #[] #[]] W λe w'=>∃v1,e=.returned v1/\w'.ownsRow w0.heap.size 107 4 v1 S.length (S.flatMap aN)/\Bw W w':=by
  intro W hW;refine(ajH n a cap ts B W hn hs zo (hat.below hW) hf hB (hT.below (aK hb0 hW))).mono ?_;rintro e w' ⟨v1,rfl,h1,hb⟩;refine⟨v1,rfl,?_,hb⟩;rcases h1 with⟨h2,rfl⟩ |⟨h2,cP⟩
  . rw[<-hS,GC ts zo,hn];exact ownsRow_below ho (aK hW hb)
  . rw[<-hS];exact oF cP (by have:=hW.size;have:=hb0.size;omega)
 obtain⟨K,hK⟩:=aC (S.filter gp);have Fe:K.length<=4096:=by have:=List.length_filter_le gp S;rw[hK]at this;rw[hS]at hsl;omega
 rw[hS]at FD hsl;have c2:∀W v1,Bw w0 W->W.ownsRow w0.heap.size 107 4 v1 S.length (S.flatMap aN)->Calls Tryz.prog 136 #[v1,.func (.func 138) #[] #[]] W λe w'=>∃v2,e=.returned v2/\w'.ownsRow w0.heap.size 107 4 v2 K.length (K.flatMap aN)/\W.grownBy w' v1.ownBlock:=by
  intro W v1 hW cP;have hcl:∀x∈S,∀W,Calls Tryz.prog 138 #[.agg #[.string (bs x.1),.bool x.2.1,.string (bs x.2.2.1),.int .i64 x.2.2.2]] W λe w'=>e=.returned (.bool (!gp x))/\Bw W w':=λx hx W=>acA x.1 x.2.1 x.2.2.1 x.2.2.2 W (FD x hx).1;by_cases h0:0<S.length
  . obtain⟨g,c,rfl,_,_,_⟩:=ze cP h0;refine(adb g S.length c w0.heap.size S _ (λx=>!gp x) W rfl zo h0 cP eg hcl).mono ?_;rintro e w' ⟨k,hk,rfl,eo,hg2⟩;simp only[Bool.not_not]at hk eo;rw[hK]at hk eo;subst hk;exact⟨_,rfl,eo,hg2⟩
  . have mN:S=[]:=List.eq_nil_of_length_eq_zero zo;obtain⟨a1,c,rfl,iD,_⟩:=dK cP;refine(adc a1 S.length c S _ (λx=>!gp x) W rfl zo iD eg (λx hx=>by rw[mN]at hx;cases hx) hcl).mono ?_;rintro e w' ⟨rfl,hb⟩;have rV:K=S:=by rw[<-hK,mN];rfl
    rw[rV];exact⟨_,rfl,ownsRow_below cP hb,ET _ hb⟩
 have Sc:∀t∈K,Fit (B+ts.length) t.2:=λt ht=>by rw[<-hK]at ht;exact FD t (List.mem_filter.1 ht).1
 have hcl:bH ts=K.map yc:=by unfold bH;rw[hS,hK];rfl
 rw[hcl,List.length_map];have hz:=hb0.size;obtain⟨m,hm⟩:=aC K.length;rw[hm]at Fe c2⊢;obtain⟨Hm,C1,C2,Ye,Hw0,HT⟩:=gJ hm c1 c2 Sc hb0 hT;clear c1 c2 hm Sc hcl hb0 hT FD hS hK ho hat hs hf eg hsl;have Hb:Hid (Bw w w):=Below.refl _ _;go_enter Tryz.func97,Tryz.ntmps97;go_wp2_with fail;obtain⟨R,hR⟩:∃R:World->Prop,(λW=>ai W (w.heap.size) 57 [.int .i64 0,.slice none 0 0]/\Bw w W)=R:=⟨_,rfl⟩;first|refine bG R ?hR ?_|refine bF R ?hR ?_
 case hR=>subst hR;exact⟨(ai.newAt w _ _ (b:=w.heap.size) rfl),zl⟩
 subst hR;rintro W ⟨qr,ae⟩;have Hr:=ah qr;clear qr;obtain⟨r0,aj,r1,ar⟩:=Hr.out.g2;replace Hb:=az Hb ae;clear ae;go_wp2_with fail;refine(C1.out _ Hb.out).mono ?_;rintro e w1 ⟨v1,rfl,cP,ae⟩;clear r0 aj r1 ar;replace Hr:=kB Hr ae;obtain⟨r0,aj,r1,ar⟩:=Hr.out.g2;replace Hb:=az Hb ae;clear ae;have hw1:=aK Hw0.out Hb.out;go_wp2_with fail;refine(C2.out _ v1 hw1 cP).mono ?_;rintro e w2 ⟨v2,rfl,eo,hg2⟩;have hr2:=Hr.out.row zd cP hg2;have hw2:=abZ (hg2) (Nat.le_trans hz Hb.out.size) (λg e=>cL cP g e);obtain⟨Qn,rM⟩:=aM (hw1.trans hw2) eo;replace Hr:=ah hr2;clear C1 C2 cP hg2 hw1 hw2 hr2 eo r0 aj r1 ar Hb;have hKi:¬(4096:Int)<(m:Int):=by omega
 obtain⟨a2,cap2,rfl,_,_⟩:=dK rM.out;go_wp2_with fail;go_loopw[16] (λx wr=>∃(k:Nat) (C:List aL),k<=m/\x=.int .i64 (k:Int)/\C.length=m/\C.take k=(K.map yc).take k/\C.drop k=K.drop k/\wr.ownsRow w0.heap.size 107 4 (.slice a2 m cap2) m (C.flatMap aN)/\ai wr w.heap.size 57 [.int .i64 0,.slice none 0 0]/\Bw w0 wr) (λx _=>m-(intOf x).toNat);case atStart=>exact⟨0,K,Nat.zero_le _,rfl,Hm.out,rfl,rfl,rM.out,Hr.out,Qn.out⟩
 case round=>
  clear Hr rM Qn;obtain⟨k,C,hk,rfl,hC,htk,hdr,hov,hr,pb⟩:=hrel;by_cases hlt:k<m
  . obtain⟨g,cc,he,hg1,hg2,hg3⟩:=ze hov zo;simp only[Value.slice.injEq,true_and]at he;obtain⟨rfl,rfl⟩:=he;have sw:k<C.length:=by omega
    have wj:k<K.length:=by have:=Hm.out;omega
    have hel:=Rp hdr sw wj;obtain⟨l,s,q,e,hx⟩:∃l s m e,C[k]=(l,s,m,e):=⟨_,_,_,_,rfl⟩;have eF:=Ye.out _ (List.getElem_mem wj);rw[<-hel,hx]at eF;obtain⟨D,hD⟩:=aC (aB (s,q,e));have jV:=VM yc K C k sw (by rw[hC,Hm.out]) htk hel;have BX:yc C[k]=(l,canon D):=by rw[hx,<-hD];rfl
    rw[BX]at jV;have jy:C[k].1=l:=by rw[hx]
    have hw:=Gq hov k sw hx;have hd2:C.drop (k+1)=K.drop (k+1):=by rw[<-List.drop_drop,<-List.drop_drop,hdr]
    have bA:=jl m cap2 k (k:Int) (rfl:(some ⟨g,0,none⟩:Option Addr)=_) hlt rfl;rw[Nat.zero_add]at bA;have YX:Hid (∀W,aF W->Calls Tryz.prog 69 #[.agg #[.bool s,.string (bs q),.int .i64 e]] W λex w'=>ex=.returned (bC D)/\Bw W w'):=λW BN=>oY s q e D hD W eF.1 BN;obtain⟨cp,aR,Jy,xL,HC,IH,uW⟩:=na hov pb jV hd2 hC jy (HT.out.below pb);have Hr:Hid (ai wr w.heap.size 57 [.int .i64 0,.slice none 0 0]):=hr;have Hz:Hid (aZ wr g (k*4) [.string (bs l),.bool s,.string (bs q),.int .i64 e]):=hw;clear hov pb jV hd2 hC hr hw htk hdr hel hx eF hD BX jy wj;have Hb:Hid (Bw wr wr):=Below.refl _ _;obtain⟨z0,z1,z2,z3⟩:=Hz.out.w4;have y2:wr.cell? ⟨g,k*4+1+1,none⟩=some (.string (bs q)):=z2;have y3:wr.cell? ⟨g,k*4+1+2,none⟩=some (.int .i64 e):=z3;go_wp2_with fail;refine(YX.out _ uW.out).mono ?_;rintro e w5 ⟨rfl,ae⟩;clear z0 z1 z2 z3;replace Hz:=kW Hz ae;obtain⟨z0,z1,z2,z3⟩:=Hz.out.w4;replace Hb:=az Hb ae;clear ae;have gU:=ownsRow_below cp.out Hb.out;clear y2 y3;have y2:w5.cell? ⟨g,k*4+1+1,none⟩=some (.string (bs q)):=z2;have y3:w5.cell? ⟨g,k*4+1+2,none⟩=some (.int .i64 e):=z3;have lV:=lG gU (k*4+1);have ES:=lG gU (k*4+1+1);have RH:=lG gU (k*4+1+2);have hgb:=(xh gU).2;have sH:=Hr.out.below Hb.out;have dm:=aK aR.out Hb.out;have LG:g≠w.heap.size:=λe=>sH.not_row zd gU (by rw[e];rfl);obtain⟨vw,Jr,fq⟩:=cH gU sH dm;clear gU sH dm;go_wp2;refine⟨⟨k+1,C.set k (l,canon D),by omega,by go_num,by rw[List.length_set];exact HC.out,Jy.out,by rw[Kq _ _ _ _ zo];exact xL.out,?_,?_,?_⟩,by simp[intOf];omega⟩
    . have h:=Wo vw.out k sw (au (dN D)) (nt (dN D).natAbs) (dE D);rw[IH.out]at h;exact h
    . exact((Jr.out.an5 _ LG _).an5 _ LG _).an5 _ LG _
    . exact((fq.out.setCell zp _).setCell zp _).setCell zp _
  . obtain rfl:k=m:=by omega
    have Bu:C=K.map yc:=by rw[List.take_of_length_le zo,List.take_of_length_le (by rw[List.length_map];have:=Hm.out;omega)]at htk;exact htk
    rw[Bu]at hov;obtain⟨cp,aR⟩:=aM hov pb;have Hr:Hid (ai wr w.heap.size 57 [.int .i64 0,.slice none 0 0]):=hr;clear hov pb hr htk hdr hC Bu;obtain⟨r0,aj,r1,ar⟩:=Hr.out.g2;go_wp2;have hne:=(Hr.out.not_row zd cp.out).symm;have hrs:=Hr.out.lt;refine gu (λw9=>ai w9 w.heap.size 57 [.int .i64 V,.slice a2 k cap2]/\w9.ownsRow w0.heap.size 107 4 (.slice a2 k cap2) k ((K.map yc).flatMap aN)/\Bw w0 w9) ⟨(Hr.out.set 0 _).set 1 _,ownsRow_setCell_other (ownsRow_setCell_other cp.out hne _) hne _,(aR.out.setCell hz _).setCell hz _⟩ ?_;rintro w9 ⟨mV,gF,ky⟩;obtain⟨q0,q1⟩:=mV.c2;exact bodyPost_ret (v:=.tuple #[.agg #[.int .i64 V,.slice a2 k cap2],.int .i64 0]) (by simp[results,Tryz.results97,go_sem,q0,q1]) rfl ⟨_,rfl,gF,ky⟩
theorem Kg (V:Int)(v:Value)(n:Nat)(ts C:List aL)(B:Nat)(w0 w:World)(hb0:Bw w0 w)(hn:ts.length=n)(hl:n<=4096)(ho:w.ownsRow w0.heap.size 107 4 v n (ts.flatMap aN))(hf:∀t∈ts,Fit B t.2)(hB:B+n+2<=268435456)(hT:aF w0)(hC:bH ts=C):
 Calls Tryz.prog 97 #[.int .i64 V,v] w λe w'=>∃a c,e=.returned (.tuple #[.agg #[.int .i64 V,.slice a C.length c],.int .i64 0])/\w'.ownsRow w0.heap.size 107 4 (.slice a C.length c) C.length (C.flatMap aN)/\Bw w0 w':=by
 subst hC;refine(acB V v n ts B w0 w hb0 hn hl ho hf hB hT).mono ?_;rintro e w' ⟨v',rfl,h1,h2⟩;obtain⟨a,c,rfl,_,_⟩:=dK h1;exact⟨a,c,rfl,h1,h2⟩
theorem ahQ {w W:World}{b base k:Nat}{v x0 x1:Value}{xs:List Value}(hr:ai W b 57 [x0,x1])(ho:W.ownsRow base 107 4 v k xs)(hb:Bw w W)(hbs:w.heap.size<=b)(y0 y1:Value):
 ai ((W.setCell ⟨b,0,none⟩ y0).setCell ⟨b,1,none⟩ y1) b 57 [y0,y1]/\((W.setCell ⟨b,0,none⟩ y0).setCell ⟨b,1,none⟩ y1).ownsRow base 107 4 v k xs/\Bw w ((W.setCell ⟨b,0,none⟩ y0).setCell ⟨b,1,none⟩ y1):=by
 have hne:=(hr.not_row zd ho).symm;exact⟨(hr.set 0 _).set 1 _,ownsRow_setCell_other (ownsRow_setCell_other ho hne _) hne _,(hb.setCell hbs _).setCell hbs _⟩
theorem yb {P:Program}{fn:Func}{R:Ending->World->Prop}{e:Exit}{a:Act}{w W:World}{b base k:Nat}{v x0 x1 y0 y1:Value}{xs:List Value}(hr:ai W b 57 [x0,x1])(ho:W.ownsRow base 107 4 v k xs)(hb:Bw w W)(hbs:w.heap.size<=b)
 (h:∀W',ai W' b 57 [y0,y1]->W'.ownsRow base 107 4 v k xs->Bw w W'->bodyPost P fn R e a W'):bodyPost P fn R e a ((W.setCell ⟨b,0,none⟩ y0).setCell ⟨b,1,none⟩ y1):=by
 obtain⟨h1,h2,h3⟩:=ahQ hr ho hb hbs y0 y1;exact h _ h1 h2 h3
theorem QQ (a:Option Addr)(n cap:Nat)(ts:List aL)(w:World)(hn:ts.length=n)(hl:n<=1048576)(hs:Sl a n cap)(ha:At w a (ts.flatMap aN)):
 Calls Tryz.prog 96 #[.slice a n cap] w λe w'=>∃v',e=.returned v'/\w'.ownsRow w.heap.size 107 4 v' n (ts.flatMap aN)/\Bw w w':=by
 obtain⟨i0,hi,hz0,hz1,hz2⟩:=info_parts Tryz.aob;have q:=λ(w:World) (a:Option Addr) (n c n' c':Nat)=>Lib.run_eql_slice_nil (P:=Tryz.prog) w 55 107 a n c n' c' Tryz.underlying55;have hlen:(ts.flatMap aN).length=n*4:=by rw[jg aN 4 (λ_=>rfl),hn]
 obtain⟨cs,hcs⟩:=aC (ts.flatMap aN);have h1:=rp ts;rw[hcs]at hlen ha h1⊢;obtain⟨mG,Ha,H1,Hs,Hi,cM,cN,cJ⟩:=ng hlen ha h1 hs hi hz0 hz1 hz2;clear hlen ha h1 hs hi hz0 hz1 hz2 hn hcs;cases a with
 | none=>
   have hc:=Hs.out.2 rfl;have hn0:n=0:=by have:=Hs.out.1;omega
   subst hc;subst hn0;go_enter Tryz.func96,Tryz.ntmps96;go_wp2;go_ret;refine⟨_,rfl,?_,Below.refl _ _⟩;have e:cs=[]:=List.eq_nil_of_length_eq_zero (by have:=mG.out;omega);rw[e];exact World.ownsRow_nil _ _ _ _
 |some ad=>go_enter Tryz.func96,Tryz.ntmps96;go_wp2_with (at_builtin;refine ry rfl _ _ 55 rfl w.heap.size 107 i0 _ 4 48 Tryz.underlying55 Hi.out cM.out cN.out cJ.out rfl zd _ 0 [] rfl (World.ownsRow_made w #[] 0 (Nat.le_refl _) (Nat.zero_le _) zm) (some ad) n cap cs rfl Hs.out mG.out (Ha.out.below ((Below.refl _ w).alloc (Nat.le_refl _) _)) H1.out zx zo zm ?_;intro v' w1 hown hgrow fJ);go_ret;refine⟨v',rfl,by simpa using hown,?_⟩;exact((Below.refl _ w).alloc (Nat.le_refl _) _).grown hgrow zm (λk hk=>by have h9:w.heap.size=k:=Option.some.inj hk;omega)
theorem agX (V:Int)(ts:List aL)(h:∀t∈ts,fK t.1 V=true):(ts.any λt=>!fK t.1 V)=false:=by rw[List.any_eq_false];intro t ht;rw[h t ht];simp
theorem VL (V:Nat)(a:Option Addr)(n cap:Nat)(ts:List aL)(B:Nat)(w:World)(hV:V<=12)(hn:ts.length=n)(hl:n<=4096)(hs:Sl a n cap)(ha:At w a (ts.flatMap aN))(hm:∀t∈ts,fK t.1 V=true)(hl2:∀t∈ts,t.1.length<=9223372036854775807)
 (hf:∀t∈ts,Fit B t.2) (hB:B+n+2<=268435456) (hT:aF w):
 Calls Tryz.prog 94 #[.int .i64 (V:Int),.slice a n cap] w λe w'=>∃a' c',e=.returned (.tuple #[.agg #[.int .i64 (V:Int),.slice a' (bH ts).length c'],.int .i64 0])/\w'.ownsRow w.heap.size 107 4 (.slice a' (bH ts).length c') (bH ts).length ((bH ts).flatMap aN)/\Bw w w':=by
 have eg:∀args w,(callFunc 135 args).run Tryz.prog w=.ok (.enter 135 args) w:=enters_of Tryz.func135 zk rfl;have hct:∀W bv,Bw w W->W.cell? ⟨bv,0,none⟩=some (.int .i64 (V:Int))->Calls Tryz.prog 134 #[.slice a n cap,.func (.func 135) #[] #[.pointer (some ⟨bv,0,none⟩)]] W λe w'=>e=.returned (.bool false)/\Bw W w':=by intro W bv hW hc;have h:=acT a n cap ts 135 #[.pointer (some ⟨bv,0,none⟩)] (λt=>!fK t.1 V) W hn zo (ha.below hW) eg (λx hx W2 hW2=>by simpa using agW x.1 x.2.1 x.2.2.1 x.2.2.2 V bv W2 (cell_later hW2 hc) (hl2 x hx));rwa [agX V ts hm]at h
 obtain⟨C,hC⟩:=aC (bH ts);have hcn:=λW (hW:Bw w W)=>(QQ a n cap ts W hn zo hs (ha.below hW)).mono (λe w' h=>(match h with|⟨v,h1,h2,h3⟩=>⟨v,h1,h2,h3,h3⟩:∃v',e=.returned v'/\w'.ownsRow W.heap.size 107 4 v' n (ts.flatMap aN)/\Bw W w'/\Bw W w'));have hcl:=λw0 W v (hw0:Bw w w0) (hb0:Bw w0 W) (ho:W.ownsRow w0.heap.size 107 4 v n (ts.flatMap aN))=>Kg (V:Int) v n ts C B w0 W hb0 hn hl ho hf hB (hT.below hw0) hC;rw[hC];obtain⟨IE,rD,gN⟩:=cH hct hcn hcl;clear hct hcn hcl hC ha hT hf hm hl2 hs hn eg;have pG:=λW=>EQ (V:Int) W;have hd:decide (0<=(V:Int)/\(V:Int)<=12)=true:=by simp;omega
 rw[hd]at pG;have Am:=ah pG;clear pG hd;have hni:¬(65536:Int)<(n:Int):=by omega
 have Hb:Hid (Bw w w):=Below.refl _ _;go_enter Tryz.func94,Tryz.ntmps94;go_wp2_with fail;obtain⟨R,hR⟩:∃R:World->Prop,(λW=>ai W (w.heap.size) 3 [.int .i64 (V:Int)]/\ai W (w.heap.size+1) 57 [.int .i64 0,.slice none 0 0]/\Bw w W)=R:=⟨_,rfl⟩;first|refine bG R ?hR ?_|refine bF R ?hR ?_
 case hR=>subst hR;exact⟨((ai.newAt w _ _ (b:=w.heap.size) rfl).alloc _),(ai.newAt (w.alloc _) _ _ (b:=w.heap.size+1) zm),(zl.alloc zj _)⟩
 subst hR;rintro W ⟨qv,qr,ae⟩;have Hv:=ah qv;clear qv;have Hr:=ah qr;clear qr;have v0:=Hv.out.c1;obtain⟨r0,aj,r1,ar⟩:=Hr.out.g2;replace Hb:=az Hb ae;clear ae;go_wp2_with fail;refine(Am.out _).mono ?_;rintro e w1 ⟨rfl,ae⟩;clear v0 r0 aj r1 ar;replace Hv:=kB Hv ae;replace Hr:=kB Hr ae;have v0:=Hv.out.c1;obtain⟨r0,aj,r1,ar⟩:=Hr.out.g2;replace Hb:=az Hb ae;clear ae;go_wp2_with fail;refine(IE.out _ _ Hb.out v0).mono ?_;rintro e w2 ⟨rfl,ae⟩;clear v0 r0 aj r1 ar;replace Hv:=kB Hv ae;replace Hr:=kB Hr ae;have v0:=Hv.out.c1;obtain⟨r0,aj,r1,ar⟩:=Hr.out.g2;replace Hb:=az Hb ae;clear ae;go_wp2_with fail;refine bD (λw'=>w'.cell? ⟨w.heap.size,0,none⟩=some (.int .i64 (V:Int))) (λi=>Nat.blt i 6) [(0,true),(1,true),(2,false),(3,false),(4,true),(5,true),(6,false),(7,false)] zk zk rfl zk zc v0 ?_;iterate 2 (refine pT rfl rfl ?_;try simp only[UU])
 have aay:=Hv;have jL:=Hr;have dt:=Hb;refine aJ rfl rfl (λK hK=>?_);go_simp;with_reducible refine(rD.out _ (by first|exact Hb.out|exact Hb.out.drew)).mono ?_
 rintro e w3 ⟨v1,rfl,cP,aeU,hq⟩;have ae:Bw w2 w3:=by first|exact hq|exact aO hq
 clear v0 r0 aj r1 ar;replace Hv:=kB Hv ae;replace Hr:=kB Hr ae;have v0:=Hv.out.c1;obtain⟨r0,aj,r1,ar⟩:=Hr.out.g2;replace Hb:=az Hb ae;clear ae;refine hK _ _ (λ_=>v0) ?_;clear hK K;try simp only[UU]
 refine aJ rfl rfl (λK hK=>?_);go_simp;with_reducible refine(gN.out _ _ v1 (by first|exact dt.out|exact dt.out.drew) aeU cP).mono ?_
 rintro e w4 ⟨a2,c2,rfl,eo,hq⟩;have ae:Bw w2 w4:=by first|exact hq|exact aO hq
 clear v0 r0 aj r1 ar;replace Hv:=ah (aay.out.below ae);replace Hr:=ah (jL.out.below ae);have v0:=Hv.out.c1;obtain⟨r0,aj,r1,ar⟩:=Hr.out.g2;replace Hb:=ah (aK dt.out ae);clear ae;refine hK _ _ (λ_=>v0) ?_;clear hK K;try simp only[UU]
 iterate 2 (refine pT rfl rfl ?_;try simp only[UU])
 refine aJ rfl rfl (λK hK=>?_);go_simp;refine hK _ _ (by first|exact λh=>absurd h zd|exact λ_=>v0|exact λ_=>fc zg v0) ?_;clear hK K;try simp only[UU]
 refine aJ rfl rfl (λK hK=>?_);go_simp;refine hK _ _ (λh=>absurd h zd) ?_;clear hK K;try simp only[UU]
 simp only[aU];go_wp2;refine yb (Hr.out) eo Hb.out zo ?_;intro w9 mV gF ky;obtain⟨p0,p1⟩:=mV.c2;exact bodyPost_ret (v:=.tuple #[.agg #[.int .i64 (V:Int),.slice a2 C.length c2],.int .i64 0]) (by simp[results,Tryz.results94,go_sem,p0,p1]) rfl ⟨_,_,rfl,oF gF (by have:=dt.out.size;exact this),ky⟩
def vG (w:World)(a:Option Addr)(C:List aL):Prop:=C=[]\/∃b o cur,a=some ⟨b,o,none⟩/\w.heap[b]?=some (.cells cur 107)
theorem vG.below {w w':World}{a:Option Addr}{C:List aL}(h:vG w a C)(hb:Bw w w'):vG w' a C:=by
 rcases h with h|⟨b,o,cur,h1,h2⟩
 . exact .inl h
 . exact .inr ⟨b,o,cur,h1,by rw[hb.block b (Array.getElem?_eq_some_iff.1 h2).1];exact h2⟩
theorem vG.off {w:World}{a:Option Addr}{C:List aL}{g:Nat}{cur:Array Value}{t:TypeId}(h:vG w a C)(hg:w.heap[g]?=some (.cells cur t))(ht:t≠107)(i:Nat)(u:Value):vG (w.setCell ⟨g,i,none⟩ u) a C:=by
 rcases h with h|⟨b,o,cur',h1,h2⟩
 . exact .inl h
 . refine .inr ⟨b,o,cur',h1,?_⟩;have hne:b≠g:=λe=>by subst e;rw[hg]at h2;simp at h2;exact ht h2.2
   rw[Below.heap_setCell _ _ _ _ hne];exact h2
def cu (w:World)(a:Option Addr)(c:Nat)(C:List aL):Prop:=At w a (C.flatMap aN)/\Sl a C.length c/\vG w a C
theorem cu.below {w w':World}{a:Option Addr}{c:Nat}{C:List aL}(h:cu w a c C)(hb:Bw w w'):cu w' a c C:=⟨h.1.below hb,h.2.1,h.2.2.below hb⟩
theorem cu.off {w:World}{a:Option Addr}{c:Nat}{C:List aL}{g:Nat}{cur:Array Value}{t:TypeId}(h:cu w a c C)(hg:w.heap[g]?=some (.cells cur t))(ht:t≠107)(i:Nat)(u:Value):cu (w.setCell ⟨g,i,none⟩ u) a c C:=by
 refine⟨?_,h.2.1,h.2.2.off hg ht i u⟩;rcases h.2.2 with h'|⟨b,o,cur',rfl,h2⟩
 . subst h';exact .inl rfl
 . have hne:b≠g:=λe=>by subst e;rw[hg]at h2;simp at h2;exact ht h2.2
   rcases h.1 with h1|⟨b1,o1,e1,hc⟩
   . exact .inl h1
   . simp only[Option.some.injEq,Addr.mk.injEq,and_true]at e1;obtain⟨rfl,rfl⟩:=e1;refine .inr ⟨b,o,rfl,λj hj=>?_⟩;have h9:=hc j hj;rw[List.getElem?_eq_getElem hj]at h9⊢;exact aH (.inl hne) h9
theorem cu.store {w:World}{a:Option Addr}{c b:Nat}{t:TypeId}{C:List aL}{cs:List Value}(h:cu w a c C)(hb:ai w b t cs)(ht:t≠107)(u v:Value):cu ((w.setCell ⟨b,0,none⟩ u).setCell ⟨b,1,none⟩ v) a c C:=
 (h.off hb ht 0 u).off (hb.set 0 u) ht 1 v
theorem CQ {w:World}{base c:Nat}{a:Option Addr}{C:List aL}(h:w.ownsRow base 107 4 (.slice a C.length c) C.length (C.flatMap aN)):cu w a c C:=by
 obtain⟨a',c',hv,hat,_⟩:=dK h;have hs:=uI h;simp only[Value.slice.injEq,true_and]at hv;obtain⟨rfl,rfl⟩:=hv;refine⟨hat,hs,?_⟩;rcases h.2 with⟨_,h2⟩ |⟨g,cap,cur,hv,hb,hg,_⟩
 . exact .inl (List.length_eq_zero_iff.1 h2)
 . simp only[Value.slice.injEq,true_and]at hv;exact .inr ⟨g,0,cur,hv.1,hg⟩
theorem akX (V:Nat):((List.range V).map λ_=>UInt8.ofNat 0)=pS V:=by
 unfold pS;apply List.ext_getElem
 . simp
 . intro i h1 h2;simp
theorem ago (V:Nat)(D:Dyadic)(x:Raw)(l:Nat->Dyadic)(h:aB x=D):bH [(pS V,x)]=eZ V D l 0:=by unfold eZ;refine ye (λm=>?_);simp only[gK,List.range_zero,List.map_nil,bR,bP,h]
theorem QX (V:Nat)(s:Bool)(m:List UInt8)(e:Int)(D:Dyadic)(B:Nat)(l:Nat->Dyadic)(w:World)(hV:V<=12)(hf:Fit B (s,m,e))(hB:B+3<=268435456)(hT:aF w)(hD:aB (s,m,e)=D):
 Calls Tryz.prog 57 #[.int .i64 (V:Int),.agg #[.bool s,.string (bs m),.int .i64 e]] w λex w'=>∃a' c',ex=.returned (.tuple #[.agg #[.int .i64 (V:Int),.slice a' (eZ V D l 0).length c'],.int .i64 0])/\cu w' a' c' (eZ V D l 0)/\Bw w w':=by
 have hC:=ago V D (s,m,e) l hD;obtain⟨C,KN⟩:=aC (eZ V D l 0);rw[KN]at hC⊢;have hmk:=λW (hW:Bw w W) b (hb:ai W b 107 [.string (bs (pS V)),.bool s,.string (bs m),.int .i64 e])=>VL V (some ⟨b,0,none⟩) 1 1 [(pS V,(s,m,e))] B W hV rfl zo (Sl.some _ _ _ (Nat.le_refl _)) (At.an6 hb) (by intro t ht;simp at ht;subst ht;exact XQ V) (by intro t ht;simp at ht;subst ht;simp[pS];omega) (by intro t ht;simp at ht;subst ht;exact hf) zo (hT.below hW);rw[hC]at hmk;have pG:=λW=>EQ (V:Int) W;have hd:decide (0<=(V:Int)/\(V:Int)<=12)=true:=by simp;omega
 rw[hd]at pG;have hmb:=λW=>qR (V:Int) V rfl zo W;have hcv:∀W b,Hid (ai W b 5 (cn V λ_=>0))->(convert 111 9 (.slice (some ⟨b,0,none⟩) V V)).run Tryz.prog W=.ok (.string (bs (pS V))) W:=λW b h=>by rw[<-akX];exact xx h.out V
 obtain⟨rK,Am⟩:=aM hmk pG;clear hmk pG hd hC KN hT hf hD;have Hb:Hid (Bw w w):=Below.refl _ _;go_enter Tryz.func57,Tryz.ntmps57;go_wp2_with fail;obtain⟨R,hR⟩:∃R:World->Prop,(λW=>ai W (w.heap.size) 30 [.bool s,.string (bs m),.int .i64 e]/\ai W (w.heap.size+1) 57 [.int .i64 0,.slice none 0 0]/\Bw w W)=R:=⟨_,rfl⟩;first|refine bG R ?hR ?_|refine bF R ?hR ?_
 case hR=>subst hR;exact⟨((ai.newAt w _ _ (b:=w.heap.size) rfl).alloc _),(ai.newAt (w.alloc _) _ _ (b:=w.heap.size+1) zm),(zl.alloc zj _)⟩
 subst hR;rintro W ⟨qc,qr,ae⟩;have Hc:=ah qc;clear qc;have Hr:=ah qr;clear qr;obtain⟨c0,c1,c2⟩:=Hc.out.c3;obtain⟨r0,aj,r1,ar⟩:=Hr.out.g2;replace Hb:=az Hb ae;clear ae;go_wp2_with fail;refine(Am.out _).mono ?_;rintro e w1 ⟨rfl,ae⟩;clear c0 c1 c2 r0 aj r1 ar;replace Hc:=kB Hc ae;replace Hr:=kB Hr ae;obtain⟨c0,c1,c2⟩:=Hc.out.c3;obtain⟨r0,aj,r1,ar⟩:=Hr.out.g2;replace Hb:=az Hb ae;clear ae;go_wp2_with fail;refine bD (λw'=>w'.cell? ⟨w.heap.size,0,none⟩=some (.bool s)/\w'.cell? ⟨w.heap.size,1,none⟩=some (.string (bs m))/\w'.cell? ⟨w.heap.size,2,none⟩=some (.int .i64 e)) (λi=>Nat.blt i 10) [(0,true),(1,true),(4,true),(2,false),(3,false),(5,true),(6,false),(7,false),(8,true),(9,true),(10,false),(11,false)] zk zk rfl zk zc ⟨c0,c1,c2⟩ ?_;iterate 3 (refine pT rfl rfl ?_ (by intro w' ⟨q0,q1,q2⟩;go_simp;try with_reducible rfl);try simp only[UU])
 refine aJ rfl rfl (λK hK=>?_);go_simp;refine hK _ _ (λ_=>⟨aI c0,aI c1,aI c2⟩) ?_;clear hK K;try simp only[UU]
 refine bE (λW3=>ai W3 (w1.heap.size) 5 (cn V (λ_=>0))/\Bw w1 W3) (by first|exact dW|exact dX) ?_;rintro W3 ⟨qq,ae⟩;clear c0 c1 c2 r0 aj r1 ar;have VG:=Hc.out.lt;have Gd:=Hr.out.lt;replace Hc:=kB Hc ae;replace Hr:=kB Hr ae;have Hq:=ah qq;clear qq;obtain⟨c0,c1,c2⟩:=Hc.out.c3;obtain⟨r0,aj,r1,ar⟩:=Hr.out.g2;replace Hb:=az Hb ae;clear ae;refine aJ rfl rfl (λK hK=>?_);go_simp;refine hK _ _ (λ_=>⟨c0,c1,c2⟩) ?_;clear hK K;try simp only[UU]
 refine pT rfl rfl ?_;try simp only[UU]
 refine aJ rfl rfl (λK hK=>?_);go_simp;refine hK _ _ (λ_=>⟨aI c0,aI c1,aI c2⟩) ?_;clear hK K;try simp only[UU]
 refine bE (λW4=>ai W4 (W3.heap.size) 107 [.string (bs (pS V)),.bool s,.string (bs m),.int .i64 e]/\Bw W3 W4) (by first|exact dW|exact dX) ?_;rintro W4 ⟨qz,ae⟩;clear c0 c1 c2 r0 aj r1 ar;have agG:=Hc.out.lt;have agM:=Hr.out.lt;have am5:=Hq.out.lt;replace Hc:=kB Hc ae;replace Hr:=kB Hr ae;replace Hq:=kB Hq ae;have Hz:=ah qz;clear qz;obtain⟨c0,c1,c2⟩:=Hc.out.c3;obtain⟨r0,aj,r1,ar⟩:=Hr.out.g2;obtain⟨z0,z1,z2,z3⟩:=Hz.out.c4;replace Hb:=az Hb ae;clear ae;refine aJ rfl rfl (λK hK=>?_);go_simp;with_reducible refine(rK.out _ Hb.out _ Hz.out).mono ?_
 rintro e w5 ⟨a2,d2,rfl,eo,hq⟩;have ae:Bw W4 w5:=by first|exact hq|exact aO hq
 clear c0 c1 c2 r0 aj r1 ar z0 z1 z2 z3;replace Hc:=kB Hc ae;replace Hr:=kB Hr ae;replace Hq:=kB Hq ae;replace Hz:=kB Hz ae;obtain⟨c0,c1,c2⟩:=Hc.out.c3;obtain⟨r0,aj,r1,ar⟩:=Hr.out.g2;obtain⟨z0,z1,z2,z3⟩:=Hz.out.c4;replace Hb:=az Hb ae;clear ae;refine hK _ _ (λ_=>⟨c0,c1,c2⟩) ?_;clear hK K;try simp only[UU]
 iterate 2 (refine pT rfl rfl ?_;try simp only[UU])
 refine aJ rfl rfl (λK hK=>?_);go_simp;refine hK _ _ (by first|exact λh=>absurd h zd|exact λ_=>⟨c0,c1,c2⟩ |exact λ_=>⟨(by first|exact c0|exact aH zf c0|exact aH zf (aH zf c0) |exact aH zf (aH zf (aH zf c0))),(by first|exact c1|exact aH zf c1|exact aH zf (aH zf c1) |exact aH zf (aH zf (aH zf c1))),(by first|exact c2|exact aH zf c2|exact aH zf (aH zf c2) |exact aH zf (aH zf (aH zf c2)))⟩) ?_;clear hK K;try simp only[UU]
 refine aJ rfl rfl (λK hK=>?_);go_simp;refine hK _ _ (λh=>absurd h zd) ?_;clear hK K;try simp only[UU]
 simp only[aU];go_wp2;refine yb (Hr.out) eo Hb.out zo ?_;intro w9 mV gF ky;obtain⟨p0,p1⟩:=mV.c2;exact bodyPost_ret (v:=.tuple #[.agg #[.int .i64 (V:Int),.slice a2 C.length d2],.int .i64 0]) (by simp[results,Tryz.results57,go_sem,p0,p1]) rfl ⟨_,_,rfl,CQ gF,ky⟩
theorem XB (V k:Nat):((List.range V).map λj=>UInt8.ofNat (if j=k then 1 else 0))=cV V k:=by
 unfold cV;apply List.ext_getElem
 . simp
 . intro i h1 h2;rw[List.getElem_map,List.getElem_range,List.getElem_set];by_cases h:k=i
   . subst h;simp
   . rw[if_neg (λe=>h e.symm),if_neg h];simp
theorem aki :Fit 1 (canon (1:Dyadic)):=Sm.one.fit zd
theorem akl (V k:Nat)(w:World)(hV:V<=12)(hk:k<V)(hT:aF w):
 Calls Tryz.prog 95 #[.int .i64 (V:Int),.int .i64 (k:Int)] w λex w'=>∃a' c',ex=.returned (.tuple #[.agg #[.int .i64 (V:Int),.slice a' (bH [(cV V k,canon 1)]).length c'],.int .i64 0])/\cu w' a' c' (bH [(cV V k,canon 1)])/\Bw w w':=by
 obtain⟨C,hC⟩:=aC (bH [(cV V k,canon 1)]);rw[hC];obtain⟨O,hO⟩:∃O:Dyadic,(1:Dyadic)=O:=⟨_,rfl⟩;have hmk:=λW (hW:Bw w W) b (hb:ai W b 107 [.string (bs (cV V k)),.bool (au (dN O)),.string (bs (nt (dN O).natAbs)),.int .i64 (dE O)])=>VL V (some ⟨b,0,none⟩) 1 1 [(cV V k,canon 1)] 1 W hV rfl zo (Sl.some _ _ _ (Nat.le_refl _)) (by rw[hO];exact At.an6 hb) (by intro t ht;simp at ht;subst ht;exact Oa V k) (by intro t ht;simp at ht;subst ht;simp[cV];omega) (by intro t ht;simp at ht;subst ht;exact aki) zo (hT.below hW);rw[hC]at hmk;have hof:=λW (hW:Bw w W)=>ED 1 O hO W zd (hT.below hW);have pG:=λW=>EQ (V:Int) W;have hd:decide (0<=(V:Int)/\(V:Int)<=12)=true:=by simp;omega
 rw[hd]at pG;have hmb:=λW=>qR (V:Int) V rfl zo W;have hcv:∀W b,Hid (ai W b 5 (cn V λj=>if j=k then 1 else 0))->(convert 111 9 (.slice (some ⟨b,0,none⟩) V V)).run Tryz.prog W=.ok (.string (bs (cV V k))) W:=λW b h=>by rw[<-XB V k];exact xx h.out V
 have bA:=λb=>ut V V k (k:Int) (rfl:(some ⟨b,0,none⟩:Option Addr)=_) hk rfl;simp only[Nat.zero_add,Nat.mul_one]at bA;have hget:(cn V λ_=>0)[k]?=some (.int .u8 0):=kg _ _ _ hk;have jV:(cn V λ_=>0).set k (.int .u8 1)=cn V λj=>if j=k then 1 else 0:=xy V _ k 1
 obtain⟨rK,tB,Am⟩:=cH hmk hof pG;clear hmk hof pG hd hC hT hO;have Ci:¬(k:Int)<0:=by omega
 have Hb:Hid (Bw w w):=Below.refl _ _;go_enter Tryz.func95,Tryz.ntmps95;go_wp2_with fail;obtain⟨R,hR⟩:∃R:World->Prop,(λW=>ai W (w.heap.size) 57 [.int .i64 0,.slice none 0 0]/\Bw w W)=R:=⟨_,rfl⟩;first|refine bG R ?hR ?_|refine bF R ?hR ?_
 case hR=>subst hR;exact⟨(ai.newAt w _ _ (b:=w.heap.size) rfl),zl⟩
 subst hR;rintro W ⟨qr,ae⟩;have Hr:=ah qr;clear qr;obtain⟨r0,aj,r1,ar⟩:=Hr.out.g2;replace Hb:=az Hb ae;clear ae;go_wp2_with fail;refine(Am.out _).mono ?_;rintro e w1 ⟨rfl,ae⟩;clear r0 aj r1 ar;replace Hr:=kB Hr ae;obtain⟨r0,aj,r1,ar⟩:=Hr.out.g2;replace Hb:=az Hb ae;clear ae;go_wp2_with fail;obtain⟨R,hR⟩:∃R:World->Prop,(λW3=>ai W3 w1.heap.size 5 (cn V λj=>if j=k then 1 else 0)/\Bw w1 W3)=R:=⟨_,rfl⟩;first|refine bG R ?hR ?_|refine bF R ?hR ?_
 case hR=>subst hR;exact⟨ai.newAt w1 _ _ (b:=w1.heap.size) rfl,zl⟩
 subst hR;intro W3 ⟨qm,ae⟩;clear r0 aj r1 ar;replace Hr:=kB Hr ae;obtain⟨r0,aj,r1,ar⟩:=Hr.out.g2;replace Hb:=ah (aK Hb.out ae);have Hm:=ah qm;clear qm ae hget jV bA hmb;have rB:∀w',iy W3 w'->(convert 111 9 (.slice (some ⟨w1.heap.size,0,none⟩) V V)).run Tryz.prog w'=.ok (.string (bs (cV V k))) w':=λw' h=>hcv w' _ (ah (Hm.out.below h));have bJ:Hid (iy W3 W3):=Below.refl _ _;refine bD (λw'=>iy W3 w') (λi=>Nat.blt i 9) [(0,true),(1,true),(2,true),(3,false),(4,true),(5,false),(6,false),(7,true),(8,true),(9,false),(10,false)] zk zk rfl zk zc bJ.out.drew ?_;iterate 3 (refine Nn rfl rfl (v:=?_) (λw' hw'=>?_) ?_;rotate_left;(focus have hw':=rB w' hw';go_simp;try with_reducible rfl);try simp only[UU])
 refine aJ rfl rfl (λK hK=>?_);go_simp;with_reducible refine(tB.out _ (by first|exact Hb.out|exact Hb.out.drew)).mono ?_
 rintro e w4 ⟨rfl,hq⟩;have ae:Bw W3 w4:=by first|exact hq|exact aO hq
 clear r0 aj r1 ar;replace bJ:=ah (bJ.out.below ae);replace Hr:=kB Hr ae;obtain⟨r0,aj,r1,ar⟩:=Hr.out.g2;replace Hb:=az Hb ae;clear ae;refine hK _ _ (λ_=>bJ.out) ?_;clear hK K;try simp only[UU]
 refine pT rfl rfl ?_;try simp only[UU]
 refine aJ rfl rfl (λK hK=>?_);go_simp;refine hK _ _ (λ_=>by first|exact bJ.out.alloc _|exact(bJ.out.alloc _).drew|exact(bJ.out.drew).alloc _) ?_;clear hK K;try simp only[UU]
 refine bE (λW5=>ai W5 (w4.heap.size) 107 [.string (bs (cV V k)),.bool (au (dN O)),.string (bs (nt (dN O).natAbs)),.int .i64 (dE O)]/\Bw w4 W5) (by first|exact dW|exact dX) ?_;rintro W5 ⟨qz,ae⟩;clear r0 aj r1 ar;have Ge:=Hr.out.lt;replace bJ:=ah (bJ.out.below ae);replace Hr:=kB Hr ae;have Hz:=ah qz;clear qz;obtain⟨r0,aj,r1,ar⟩:=Hr.out.g2;obtain⟨z0,z1,z2,z3⟩:=Hz.out.c4;replace Hb:=az Hb ae;clear ae;refine aJ rfl rfl (λK hK=>?_);go_simp;with_reducible refine(rK.out _ Hb.out _ Hz.out).mono ?_
 rintro e w6 ⟨a2,d2,rfl,eo,hq⟩;have ae:Bw W5 w6:=by first|exact hq|exact aO hq
 clear r0 aj r1 ar z0 z1 z2 z3;replace bJ:=ah (bJ.out.below ae);replace Hr:=kB Hr ae;replace Hz:=kB Hz ae;obtain⟨r0,aj,r1,ar⟩:=Hr.out.g2;obtain⟨z0,z1,z2,z3⟩:=Hz.out.c4;replace Hb:=az Hb ae;clear ae;refine hK _ _ (λ_=>bJ.out) ?_;clear hK K;try simp only[UU]
 iterate 2 (refine pT rfl rfl ?_;try simp only[UU])
 refine aJ rfl rfl (λK hK=>?_);go_simp;refine hK _ _ (by first|exact λh=>absurd h zd|exact λ_=>bJ.out|exact λ_=>fc zg bJ.out) ?_;clear hK K;try simp only[UU]
 refine aJ rfl rfl (λK hK=>?_);go_simp;refine hK _ _ (λh=>absurd h zd) ?_;clear hK K;try simp only[UU]
 simp only[aU];go_wp2;refine yb (Hr.out) eo Hb.out zo ?_;intro w9 mV gF ky;obtain⟨p0,p1⟩:=mV.c2;exact bodyPost_ret (v:=.tuple #[.agg #[.int .i64 (V:Int),.slice a2 C.length d2],.int .i64 0]) (by simp[results,Tryz.results95,go_sem,p0,p1]) rfl ⟨_,_,rfl,CQ gF,ky⟩
theorem VN {l:List UInt8}{V:Nat}(h:fK l (V:Int)=true):l.length=V:=by unfold fK at h;rw[Bool.and_eq_true]at h;have:=h.2;simp at this;omega
def jq (V B:Nat)(ts:List aL):Prop:=AX V ts/\∀t∈ts,Fit B t.2
theorem jq.chk {V B:Nat}{ts:List aL}(h:jq V B ts):∀t∈ts,t.1.length<=9223372036854775807/\Ok t.2:=λt ht=>⟨by have:=VN (h.1.2.1 t ht);have:=h.1.2.2.2;omega,(h.2 t ht).1⟩
theorem Xa (V:Nat)(a:Option Addr)(cap:Nat)(ts:List aL)(s:Bool)(m:List UInt8)(e:Int)(D:Dyadic)(B:Nat)(w:World)(hp:jq V B ts)(ha:cu w a cap ts)(hf:Fit B (s,m,e))(hB:2*B+8192<=268435456)(hT:aF w)(hD:aB (s,m,e)=D):
 Calls Tryz.prog 59 #[.agg #[.int .i64 (V:Int),.slice a ts.length cap],.agg #[.bool s,.string (bs m),.int .i64 e]] w λex w'=>∃a' c',ex=.returned (.tuple #[.agg #[.int .i64 (V:Int),.slice a' (bH (dG D ts)).length c'],.int .i64 0])/\cu w' a' c' (bH (dG D ts))/\Bw w w':=by
 obtain⟨n,hn⟩:=aC ts.length;have hnl:n<=4096:=by have:=hp.1.2.2.1;omega
 have hV:V<=12:=hp.1.2.2.2;obtain⟨C,hC⟩:=aC (bH (dG D ts));have iB:(dG D ts).length=n:=by unfold dG;rw[List.length_map,hn]
 have BM:∀t∈dG D ts,Fit (2*B) t.2:=by intro t ht;unfold dG at ht;obtain⟨x,hx,rfl⟩:=List.mem_map.1 ht;refine Sm.fit ?_ zo;have:=Sm.mul (hp.2 x hx).2 hf.2;rw[hD]at this;exact this.mono zo
 have fy:=λW (hW:Bw w W)=>Wu (V:Int) a cap n ts W hn zo (ha.1.below hW) hp.chk (hT.below hW);rw[Wv hp.1]at fy;have hs:=ha.2.1;rw[hn]at hs;have hcn:=λW (hW:Bw w W)=>(QQ a n cap ts W hn zo hs (ha.1.below hW)).mono (λe w' h=>(match h with|⟨v,h1,h2,h3⟩=>⟨v,h1,h2,h3,h3⟩:∃v',e=.returned v'/\w'.ownsRow W.heap.size 107 4 v' n (ts.flatMap aN)/\Bw W w'/\Bw W w'));have hcl:=λw0 W v (hw0:Bw w w0) (hb0:Bw w0 W) (ho:W.ownsRow w0.heap.size 107 4 v n ((dG D ts).flatMap aN))=>Kg (V:Int) v n (dG D ts) C (2*B) w0 W hb0 iB hnl ho BM zo (hT.below hw0) hC;have dv:=hp.2;rw[hn,hC];obtain⟨nD,rD,gN,jb,HT,Hn,YV,HD⟩:=ng fy hcn hcl dv hT hn hf hD;clear fy hcn hcl dv hT hn hf hD hC iB BM hs ha hp;have Hb:Hid (Bw w w):=Below.refl _ _;go_enter Tryz.func59,Tryz.ntmps59;go_wp2_with fail;obtain⟨R,hR⟩:∃R:World->Prop,(λW=>ai W (w.heap.size) 57 [.int .i64 (V:Int),.slice a n cap]/\ai W (w.heap.size+1) 30 [.bool s,.string (bs m),.int .i64 e]/\ai W (w.heap.size+1+1) 57 [.int .i64 0,.slice none 0 0]/\Bw w W)=R:=⟨_,rfl⟩;first|refine bG R ?hR ?_|refine bF R ?hR ?_
 case hR=>subst hR;exact⟨(((ai.newAt w _ _ (b:=w.heap.size) rfl).alloc _).alloc _),((ai.newAt (w.alloc _) _ _ (b:=w.heap.size+1) zm).alloc _),(ai.newAt ((w.alloc _).alloc _) _ _ (b:=w.heap.size+1+1) zm),((zl.alloc zj _).alloc zj _)⟩
 subst hR;rintro W ⟨qp,qc,qr,ae⟩;have Hp:=ah qp;clear qp;have Hc:=ah qc;clear qc;have Hr:=ah qr;clear qr;obtain⟨p0,p1⟩:=Hp.out.c2;obtain⟨c0,c1,c2⟩:=Hc.out.c3;obtain⟨r0,aj,r1,ar⟩:=Hr.out.g2;replace Hb:=az Hb ae;clear ae;go_wp2_with fail;refine(nD.out _ Hb.out).mono ?_;rintro e w1 ⟨rfl,ae⟩;clear p0 p1 c0 c1 c2 r0 aj r1 ar;replace Hp:=kB Hp ae;replace Hc:=kB Hc ae;replace Hr:=kB Hr ae;obtain⟨p0,p1⟩:=Hp.out.c2;obtain⟨c0,c1,c2⟩:=Hc.out.c3;obtain⟨r0,aj,r1,ar⟩:=Hr.out.g2;replace Hb:=az Hb ae;clear ae;have AB:=Hp;have xK:=Hc;have jL:=Hr;have dt:=Hb;go_wp2_with fail;refine(rD.out _ Hb.out).mono ?_;rintro e w2 ⟨v1,rfl,cP,tY,ae⟩;clear p0 p1 c0 c1 c2 r0 aj r1 ar;replace Hp:=kB Hp ae;replace Hc:=kB Hc ae;replace Hr:=kB Hr ae;obtain⟨p0,p1⟩:=Hp.out.c2;obtain⟨c0,c1,c2⟩:=Hc.out.c3;obtain⟨r0,aj,r1,ar⟩:=Hr.out.g2;replace Hb:=az Hb ae;clear ae;obtain⟨a1,d1,rfl,_,_⟩:=dK cP;obtain⟨nH,Pd⟩:=aM cP tY;clear cP tY;go_wp2_with fail;go_loopw[20] (λx wr=>∃(k:Nat) (C:List aL),k<=n/\x=.int .i64 (k:Int)/\C.length=n/\C.take k=(dG D ts).take k/\C.drop k=ts.drop k/\wr.ownsRow w1.heap.size 107 4 (.slice a1 n d1) n (C.flatMap aN)/\Bw w1 wr) (λx _=>n-(intOf x).toNat);case atStart=>exact⟨0,ts,Nat.zero_le _,rfl,Hn.out,rfl,rfl,nH.out,Pd.out⟩
 case round=>
  clear p0 p1 c0 c1 c2 r0 aj r1 ar nH Pd Hp Hc Hr Hb;obtain⟨k,C',hk,rfl,hC,htk,hdr,hov,pb⟩:=hrel;obtain⟨Hp,Hc,Hr⟩:=cH (AB.out.below pb) (xK.out.below pb) (jL.out.below pb);have dV:=aK dt.out pb;have zE:=dt.out.size;by_cases hlt:k<n
  . obtain⟨g,cc,he,hg1,hg2,hg3⟩:=ze hov zo;simp only[Value.slice.injEq,true_and]at he;obtain⟨rfl,rfl⟩:=he;have sw:k<C'.length:=by omega
    have wj:k<ts.length:=by have:=Hn.out;omega
    have hel:=Rp hdr sw wj;obtain⟨l,s1,q1,e1,hx⟩:∃l s m e,C'[k]=(l,s,m,e):=⟨_,_,_,_,rfl⟩;have eF:=jb.out _ (List.getElem_mem wj);rw[<-hel,hx]at eF;obtain⟨X,hX⟩:=aC (aB (s1,q1,e1) *D);have jV:=VM (λx=>(x.1,canon (aB x.2*D))) ts C' k sw (by rw[hC,Hn.out]) htk hel;have BX:(C'[k].1,canon (aB C'[k].2*D))=(l,canon X):=by rw[hx,<-hX]
    have UA:(C'.set k (l,canon X)).take (k+1)=(dG D ts).take (k+1):=by rw[<-BX];exact jV
    have jy:C'[k].1=l:=by rw[hx]
    obtain⟨_,y1,y2,y3⟩:=(Gq hov k sw hx).w4;have hd2:C'.drop (k+1)=ts.drop (k+1):=by rw[<-List.drop_drop,<-List.drop_drop,hdr]
    have bA:=jl n d1 k (k:Int) (rfl:(some ⟨g,0,none⟩:Option Addr)=_) hlt rfl;rw[Nat.zero_add]at bA;have Hz:Hid (aZ wr g (k*4+1) [.bool s1,.string (bs q1),.int .i64 e1]):=gM y1 y2 y3;have HX:Hid (aB (s1,q1,e1) *aB (s,m,e)=X):=by show _=_;rw[HD.out];exact hX
    obtain⟨cp,aR,Jy,xL,HC,IH,gZ,uW⟩:=ng hov pb UA hd2 hC jy eF (HT.out.below dV);have iu:=pb.size;clear hov pb jV UA hd2 hC htk hdr hel hx hX BX jy eF wj y1 y2 y3 dV AB xK jL Hp Hr;have Hb:Hid (Bw wr wr):=Below.refl _ _;go_wp2_with fail;obtain⟨c0,c1,c2⟩:=Hc.out.c3;obtain⟨z0,z1,z2⟩:=Hz.out.w3;have HU:Hid (aF wr):=uW.out;refine bD (λw'=>w'.cell? ⟨w.heap.size+1,0,none⟩=some (.bool s)/\w'.cell? ⟨w.heap.size+1,1,none⟩=some (.string (bs m))/\w'.cell? ⟨w.heap.size+1,2,none⟩=some (.int .i64 e)/\w'.cell? ⟨g,k*4+1,none⟩=some (.bool s1)/\w'.cell? ⟨g,k*4+1+1,none⟩=some (.string (bs q1))/\w'.cell? ⟨g,k*4+1+2,none⟩=some (.int .i64 e1)) (λi=>Nat.blt i 12) [(0,true),(1,true),(2,true),(3,true),(4,true),(5,true),(6,true),(7,true),(8,false),(9,false),(10,true),(11,true),(12,false)] zk zk rfl zk zc ⟨c0,c1,c2,z0,z1,z2⟩ ?_;iterate 8 (refine pT rfl rfl ?_ (by intro w' ⟨q0,q1,q2,q3,q4,q5⟩;go_simp;try with_reducible rfl);try simp only[UU])
    refine aJ rfl rfl (λK hK=>?_);go_simp;refine hK _ _ (λ_=>⟨aI c0,aI c1,aI c2,aI z0,aI z1,aI z2⟩) ?_;clear hK K;try simp only[UU]
    refine bE (λW4=>ai W4 (wr.heap.size) 30 [.bool s1,.string (bs q1),.int .i64 e1,.bool s,.string (bs m),.int .i64 e]/\Bw wr W4) (by first|exact dW|exact dX) ?_;rintro W4 ⟨qv,ae⟩;clear c0 c1 c2 z0 z1 z2;have agG:=Hc.out.lt;replace Hc:=kB Hc ae;replace Hz:=kW Hz ae;replace HU:=kT HU ae;have Hv:=ah qv;clear qv;obtain⟨c0,c1,c2⟩:=Hc.out.c3;obtain⟨z0,z1,z2⟩:=Hz.out.w3;obtain⟨v0,v1,v2,v3,v4,v5⟩:=Hv.out.c6;replace Hb:=az Hb ae;clear ae;refine aJ rfl rfl (λK hK=>?_);go_simp;with_reducible refine(Bi s1 q1 e1 s m e X B HX.out wr.heap.size _ 30 _ gZ.out YV.out zo Hv.out (by first|exact HU.out|exact aF.drew HU.out|exact aF.alloc HU.out _|exact aF.drew (aF.alloc HU.out _) |exact aF.alloc (aF.drew HU.out) _)).mono ?_
    rintro e w5 ⟨rfl,hq⟩;have ae:Bw W4 w5:=by first|exact hq|exact aO hq
    clear c0 c1 c2 z0 z1 z2 v0 v1 v2 v3 v4 v5;replace Hc:=kB Hc ae;replace Hz:=kW Hz ae;replace HU:=kT HU ae;replace Hv:=kB Hv ae;obtain⟨c0,c1,c2⟩:=Hc.out.c3;obtain⟨z0,z1,z2⟩:=Hz.out.w3;obtain⟨v0,v1,v2,v3,v4,v5⟩:=Hv.out.c6;replace Hb:=az Hb ae;clear ae;refine hK _ _ (λ_=>⟨c0,c1,c2,z0,z1,z2⟩) ?_;clear hK K;try simp only[UU]
    iterate 2 (refine pT rfl rfl ?_;try simp only[UU])
    refine aJ rfl rfl (λK hK=>?_);have gU:=ownsRow_below cp.out Hb.out;have lV:=lG gU (k*4+1);have ES:=lG gU (k*4+1+1);have RH:=lG gU (k*4+1+2);have dm:=aK aR.out Hb.out;obtain⟨vw,fq⟩:=aM gU dm;clear gU dm;go_simp;refine hK _ _ (λh=>absurd h zd) ?_;clear hK K;try simp only[UU]
    simp only[aU];go_wp2;refine⟨⟨k+1,C'.set k (l,canon X),by omega,by go_num,by rw[List.length_set];exact HC.out,Jy.out,by rw[Kq _ _ _ _ zo];exact xL.out,?_,?_⟩,by simp[intOf];omega⟩
    . have h:=Wo vw.out k sw (au (dN X)) (nt (dN X).natAbs) (dE X);rw[IH.out]at h;exact h
    . exact((fq.out.setCell hg1 _).setCell hg1 _).setCell hg1 _
  . obtain rfl:k=n:=by omega
    have Bu:C'=dG D ts:=by rw[List.take_of_length_le zo,List.take_of_length_le (by unfold dG;rw[List.length_map];have:=Hn.out;omega)]at htk;exact htk
    rw[Bu]at hov;obtain⟨cp,aR⟩:=aM hov pb;have Hb:Hid (Bw w wr):=dV;clear hov pb htk hdr hC Bu dV;obtain⟨p0,p1⟩:=Hp.out.c2;obtain⟨r0,aj,r1,ar⟩:=Hr.out.g2;go_wp2_with fail;refine(gN.out w1 _ _ dt.out aR.out cp.out).mono ?_;rintro e w6 ⟨a2,d2,rfl,eo,ae⟩;clear p0 p1 r0 aj r1 ar;replace Hp:=ah (AB.out.below ae);replace Hr:=ah (jL.out.below ae);obtain⟨p0,p1⟩:=Hp.out.c2;obtain⟨r0,aj,r1,ar⟩:=Hr.out.g2;replace Hb:=ah (aK dt.out ae);clear ae;go_wp2;refine yb (Hr.out) eo Hb.out zo ?_;intro w9 mV gF ky;obtain⟨q0,q1⟩:=mV.c2;exact bodyPost_ret (v:=.tuple #[.agg #[.int .i64 (V:Int),.slice a2 C.length d2],.int .i64 0]) (by simp[results,Tryz.results59,go_sem,q0,q1]) rfl ⟨_,_,rfl,CQ gF,ky⟩
end Go.Proofs.YtdaadlblknpipaaGreatDoor
