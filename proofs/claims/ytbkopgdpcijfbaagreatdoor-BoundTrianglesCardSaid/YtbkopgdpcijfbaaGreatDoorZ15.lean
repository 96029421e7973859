/- An own row cut short,cleared behind;an own row as a whole block. -/
import Derived.Test.YtbkopgdpcijfbaaGreatDoorZ12
import Derived.Laws.CopyRow
import Derived.Laws.AppendOwnNone
import Derived.Deep.DeepAppendRoom
import Derived.Test.YtbkopgdpcijfbaaGreatDoorZ7
import Derived.Test.YtbkopgdpcijfbaaGreatDoorZ9
import Derived.Test.YtbkopgdpcijfbaaGreatDoorZ13
import Derived.Test.YtbkopgdpcijfbaaGreatDoorZ10
import Derived.Test.YtbkopgdpcijfbaaGreatDoorZ11
import Derived.Maps.AppendAt
set_option linter.all false
set_option maxRecDepth 100000
set_option maxHeartbeats 16000000
namespace Go.Proofs.YtbkopgdpcijfbaaGreatDoor
open Go.RowKit
def aif {w:World}{base:Nat}{e:TypeId}{size n cap g:Nat}{xs:List Value}(h:w.ownsRow base e size (.slice (some ⟨g,0,none⟩) n cap) n xs)(i:Nat)(hi:i<=n):
 w.ownsRow base e size (.slice (some ⟨g,0,none⟩) i cap) i (xs.take (i*size)):=by
 have Ow:i*size<=n*size:=Nat.mul_le_mul_right _ hi;refine⟨by rw[List.length_take,h.1];omega,?_⟩;rcases h.2 with⟨h1,_⟩ |⟨g',cap',cur,h1,hb,hg,h4,h5,h6,hx⟩
 . simp at h1
 . simp only[Value.slice.injEq,Option.some.injEq,Addr.mk.injEq,and_true,true_and]at h1;obtain⟨rfl,rfl⟩:=h1;refine .inr ⟨g,cap,cur,rfl,hb,hg,by omega,h5,h6,?_⟩;rw[<-hx,List.take_take,Nat.min_eq_left Ow]
def Fw {w:World}{base:Nat}{e:TypeId}{size n:Nat}{v:Value}{xs:List Value}(h:w.ownsRow base e size v n xs)(hn:0<n):∃g cap,v=.slice (some ⟨g,0,none⟩) n cap/\base<=g/\g<w.heap.size/\n<=cap:=by
 rcases h.2 with⟨_,h1⟩ |⟨g,cap,cur,h1,hb,hg,h4,_⟩
 . omega
 . exact⟨g,cap,h1,hb,(Array.getElem?_eq_some_iff.1 hg).1,h4⟩
def axx {w:World}{base:Nat}{e:TypeId}{size n cap g:Nat}{xs:List Value}(h:w.ownsRow base e size (.slice (some ⟨g,0,none⟩) n cap) n xs)(o:Nat)(vs:List Value)(ho:n*size<=o)(cur:Array Value)(Ez:w.heap[g]?=some (.cells cur e (0,0)))(hl:o+vs.length<=cur.size):
 (w.setRow g (cur.toList.take o++vs++cur.toList.drop (o+vs.length)).toArray).ownsRow base e size (.slice (some ⟨g,0,none⟩) n cap) n xs/\w.grownBy (w.setRow g (cur.toList.take o++vs++cur.toList.drop (o+vs.length)).toArray) (some g):=by
 have hh:=setRow_heap w g cur (cur.toList.take o++vs++cur.toList.drop (o+vs.length)).toArray e (0,0) Ez;constructor
 . refine⟨h.1,?_⟩;rcases h.2 with⟨h1,_⟩ |⟨g',cap',cur',h1,hb,hg,h4,h5,h6,hx⟩
   . simp at h1
   . simp only[Value.slice.injEq,Option.some.injEq,Addr.mk.injEq,and_true,true_and]at h1;obtain⟨rfl,rfl⟩:=h1;rw[Ez]at hg;simp only[Option.some.injEq,Obj.cells.injEq,and_true]at hg;subst hg;refine .inr ⟨g,cap,_,rfl,hb,hh,h4,h5,?_,?_⟩
     . rw[<-h6];have hcl:cur.toList.length=cur.size:=Array.length_toList;simp only[List.size_toArray,List.length_append,List.length_take,List.length_drop,hcl];omega
     . rw[<-hx];have hcl:cur.toList.length=cur.size:=Array.length_toList;simp only[List.append_assoc];rw[List.take_append_of_le_length (by rw[List.length_take,hcl];omega),List.take_take,Nat.min_eq_left ho]
 . refine⟨rfl,rfl,rfl,by simp[World.setRow],λk hk hne=>?_⟩;unfold World.setRow;simp only[Array.getElem?_modify];rw[if_neg (λe=>hne (by rw[e]))]
def aiK {P:Program}(w:World)(t e:TypeId)(z:Value)(size:Nat)(ht:P.underlying t=some (.slice e))(hv:∀w,(zeroValue e).run P w=.ok z w)(hz:z.cells.size=size)(h1:∀v∈z.cells.toList,v.oneCell'=true)(g n m cap c:Nat)(base:Nat)(xs:List Value)
 (h:w.ownsRow base e size (.slice (some ⟨g,0,none⟩) n cap) n xs) (hm:n+m<=cap):
 ∃w',(∀ty,(Builtin.clear_ #[t] ty #[.slice (some ⟨g,n*size,none⟩) m c]).run P w=.ok (.tuple #[]) w')/\w'.ownsRow base e size (.slice (some ⟨g,0,none⟩) n cap) n xs/\w.grownBy w' (some g):=by
 rcases h.2 with⟨h2,_⟩ |⟨g',cap',cur,h2,hb,hg,h4,h5,h6,hx⟩
 . simp at h2
 simp only[Value.slice.injEq,Option.some.injEq,Addr.mk.injEq,and_true,true_and]at h2;obtain⟨rfl,rfl⟩:=h2;by_cases hm0:m=0
 . subst hm0;refine⟨w,λty=>?_,h,World.grownBy.refl _ _⟩;simp[Builtin.clear_,run_underlying ht]
 . obtain⟨vs,hvs⟩:=aB ((Builtin.zeroCells z.cells m).toList);have hvl:vs.length=m*size:=by rw[<-hvs,Array.length_toList,size_zeroCells,hz]
   have VT:∀v∈vs,v.oneCell'=true:=by
    intro v hv2;rw[<-hvs]at hv2;unfold Builtin.zeroCells at hv2;simp only[Array.toList_map,Array.toList_range,List.mem_map,List.mem_range]at hv2;obtain⟨i,hi,rfl⟩:=hv2;have hs:0<z.cells.size:=by
     rcases Nat.eq_zero_or_pos z.cells.size with h0|h0
     . rw[h0]at hi;simp at hi
     . exact h0
    have:=Nat.mod_lt i hs;rw[getElem!_pos z.cells (i%z.cells.size) this];exact h1 _ zm
   have hle:n*size+0+vs.length<=cur.size:=by rw[hvl,h6];have:=Nat.mul_le_mul_right size hm;rw[Nat.add_mul]at this;omega
   have hst:=run_storeCells_at (P:=P) g (n*size) e vs 0 cur w hg hle VT;obtain⟨k1,k2⟩:=axx h (n*size) vs (Nat.le_refl _) cur hg zo;refine⟨_,λty=>?_,k1,k2⟩;obtain⟨m',rfl⟩:∃m',m=m'+1:=⟨m-1,by omega⟩;simp[Builtin.clear_,run_underlying ht,hv,hvs,hst]
def Sl (a:Option Addr)(n cap:Nat):Prop:=n<=cap/\(a=none->cap=0)
def Sl.nil :Sl none 0 0:=⟨Nat.le_refl _,λ_=>rfl⟩
def Sl.some (x:Addr)(n cap:Nat)(h:n<=cap):Sl (some x) n cap:=⟨h,λe=>by cases e⟩
def CV {w:World}{base:Nat}{e:TypeId}{size n k cap:Nat}{a:Option Addr}{xs:List Value}(h:w.ownsRow base e size (.slice a k cap) n xs):Sl a k cap:=by
 rcases h.2 with⟨h1,_⟩ |⟨g,cap',cur,h1,hb,hg,h4,_⟩
 . simp only[Value.slice.injEq]at h1;obtain⟨rfl,rfl,rfl⟩:=h1;exact Sl.nil
 . simp only[Value.slice.injEq]at h1;obtain⟨rfl,rfl,rfl⟩:=h1;exact Sl.some _ _ _ h4
def aj0 {P:Program}{w:World}{ops:Array Oper}{rest:List Oper}{o:Oper}{a:Act}{Q:Exit->Act->World->Prop}(hgd:o.guard=none)(s x:Operand)(t:TypeId)
 (ho:o.op=.call {callee:=.builtin .append,args:=#[s,x],argTypes:=#[t,t]})
 (base:Nat) (e:TypeId) (i:TypeInfo) (z:Value) (size bytes:Nat) (ht:P.underlying t=Option.some (.slice e)) (hi:P.info? e=Option.some i) (hz:i.zero=Option.some z)
 (hsize:i.size=size) (hby:i.bytes=bytes) (hzs:z.cells.size=size) (hsz:0<size)
 (v:Value) (n:Nat) (xs:List Value) (hs:a.eval s=v) (hown:w.ownsRow base e size v n xs)
 (aa:Option Addr) (m c:Nat) (news:List Value) (hx:a.eval x=.slice aa m c) (hsl:aa=none->m=0/\c=0) (hl:news.length=m*size) (hat:At w aa news) (h1:∀u∈news,u.oneCell'=true)
 (h63:n+m<=maxLen) (hbytes:(n+m) *bytes<=140737488355328) (hbase:base<=w.heap.size)
 (h:∀v' w',w'.ownsRow base e size v' (n+m) (xs++news)->w.grownBy w' v.ownBlock->(v'.ownBlock=v.ownBlock\/v'.ownBlock=Option.some w.heap.size)->wpList P ops Q rest (a.put o.dst v') w'):
 wpList P ops Q (o::rest) a w:=by
 cases aa with
 |none=>obtain⟨hm,hc⟩:=hsl rfl;subst hc;subst hm;have hn:news=[]:=List.eq_nil_of_length_eq_zero (by simpa using hl);subst hn;refine wpList_append_own_none hgd s x t ho base e i size ht hi v n xs hs hown hx ?_;exact h v w (by simpa using hown) (World.grownBy.refl _ _) (.inl rfl)
 | some ad=>
   refine wpList_append_own_at w hgd s x t ho base e i z size bytes ht hi hz hsize hby hzs hsz v n xs hs hown ad m c news hx hl ?_ h1 h63 hbytes hbase (λv' w' h2 h3 _ h5=>h v' w' h2 h3 h5);intro j u hj;rcases hat with h0|⟨b,o',e',hc⟩
   . subst h0;simp at hj
   . simp only[Option.some.injEq]at e';subst e';have hjl:=(List.getElem?_eq_some_iff.1 hj).1;have e2:((⟨b,o',none⟩:Addr).add j)=⟨b,o'+j,none⟩:=by unfold Addr.add;cases j<;>simp
     rw[e2,hc j hjl];exact hj
def YA {P:Program}{w:World}{ops:Array Oper}{rest:List Oper}{o:Oper}{a:Act}{Q:Exit->Act->World->Prop}(hgd:o.guard=none)(s x:Operand)(t:TypeId)
 (ho:o.op=.call {callee:=.builtin .append,args:=#[s,x],argTypes:=#[t,t]})
 (base:Nat) (e:TypeId) (i:TypeInfo) (z:Value) (size bytes:Nat) (ht:P.underlying t=Option.some (.slice e)) (hi:P.info? e=Option.some i) (hz:i.zero=Option.some z)
 (hsize:i.size=size) (hby:i.bytes=bytes) (hzs:z.cells.size=size) (hsz:0<size)
 (v:Value) (n:Nat) (xs:List Value) (hs:a.eval s=v) (hown:w.ownsRow base e size v n xs)
 (aa:Option Addr) (m c:Nat) (news:List Value) (hx:a.eval x=.slice aa m c) (hsl:Sl aa m c) (hl:news.length=m*size) (hat:At w aa news) (h1:∀u∈news,u.oneCell'=true)
 (h63:n+m<=maxLen) (hbytes:(n+m) *bytes<=140737488355328) (hbase:base<=w.heap.size)
 (h:∀v' w',w'.ownsRow base e size v' (n+m) (xs++news)->w.grownBy w' v.ownBlock->(v'.ownBlock=v.ownBlock\/v'.ownBlock=Option.some w.heap.size)->wpList P ops Q rest (a.put o.dst v') w'):
 wpList P ops Q (o::rest) a w:=
 aj0 hgd s x t ho base e i z size bytes ht hi hz hsize hby hzs hsz v n xs hs hown aa m c news hx (λe=>⟨by have h1:=hsl.1;have h2:=hsl.2 e;omega,hsl.2 e⟩) hl hat h1 h63 hbytes hbase h
def At.cut {w:World}{a:Option Addr}{xs:List Value}{k cap size n:Nat}(h:At w a xs)(hl:xs.length=n*size)(hk:k<=n)(hc:n<=cap):At w (if cap=k then a else a.map (·.add (k*size))) (xs.drop (k*size)):=by
 rcases h with h0|⟨b,o,rfl,hcs⟩
 . subst h0;simp;exact .inl rfl
 . by_cases e:cap=k
   . have:xs.drop (k*size)=[]:=List.drop_of_length_le (by rw[hl];exact Nat.mul_le_mul_right _ zo);rw[this];exact .inl rfl
   . rw[if_neg e];have e2:((⟨b,o,none⟩:Addr).add (k*size))=⟨b,o+k*size,none⟩:=by unfold Addr.add;split<;>simp_all
     refine .inr ⟨b,o+k*size,by rw[Option.map_some,e2],λj hj=>?_⟩;rw[List.length_drop]at hj;rw[Nat.add_assoc,hcs _ zo,List.getElem?_drop]
def Sl.cut {a:Option Addr}{k cap size n:Nat}(h:Sl a n cap)(hk:k<=n):Sl (if cap=k then a else a.map (·.add (k*size))) (n-k) (cap-k):=by
 refine⟨by have:=h.1;omega,λe=>?_⟩;by_cases e1:cap=k
 . omega
 . rw[if_neg e1]at e
   have:=h.2 (by cases a with
    |none=>rfl
    |some x=>simp at e)
   omega
def Pc (w:World)(v:Value)(aS:List Raw):Prop:=∃a cap,v=.slice a aS.length cap/\At w a (aS.flatMap bu)/\Sl a aS.length cap
def Pc.below {w w':World}{v:Value}{aS:List Raw}(h:Pc w v aS)(hb:Bw w w'):Pc w' v aS:=by obtain⟨a,cap,hv,ha,hs⟩:=h;exact⟨a,cap,hv,ha.below hb,hs⟩
def xO (w:World)(a:Option Addr)(rows:List (List Raw)):Prop:=∃vals:List Value,vals.length=rows.length/\At w a vals/\∀i (h:i<rows.length) (h':i<vals.length),Pc w vals[i] rows[i]
def xO.below {w w':World}{a:Option Addr}{rows:List (List Raw)}(h:xO w a rows)(hb:Bw w w'):xO w' a rows:=by obtain⟨vals,hl,ha,hp⟩:=h;exact⟨vals,hl,ha.below hb,λi h1 h2=>(hp i h1 h2).below hb⟩
def xO.tbl {w:World}{a:Option Addr}{rows:List (List Raw)}(h:xO w a rows):bJ w a rows:=by obtain⟨vals,hl,ha,hp⟩:=h;refine⟨vals,hl,ha,λi h1 h2=>?_⟩;obtain⟨a',c',e1,e2,_⟩:=hp i h1 h2;exact⟨a',c',e1,e2⟩
def xO.row {w:World}{a:Option Addr}{rows:List (List Raw)}(h:xO w a rows)(k:Nat)(hk:k<rows.length):
 ∃b o a' cap',a=some ⟨b,o,none⟩/\w.cell? ⟨b,o+k,none⟩=some (.slice a' rows[k].length cap')/\At w a' (rows[k].flatMap bu)/\Sl a' rows[k].length cap':=by
 obtain⟨vals,hl,ha,hp⟩:=h;have hk2:k<vals.length:=by rw[hl];exact hk
 obtain⟨b,o,hab,hcs⟩:=ha.get (by intro h0;rw[h0]at hk2;simp at hk2);obtain⟨a',cap',hv,hat,hs⟩:=hp k hk hk2;exact⟨b,o,a',cap',hab,by rw[hcs k hk2,List.getElem?_eq_getElem hk2,hv],hat,hs⟩
def Pd (aS:List Raw):∀u∈aS.flatMap bu,u.oneCell'=true:=by intro u hu;obtain⟨r,_,hr⟩:=List.mem_flatMap.1 hu;simp only[bu,List.mem_cons,List.not_mem_nil,or_false]at hr;rcases hr with rfl|rfl|rfl<;>rfl
def cK (s:Raw×Raw):List Value:=bu s.1++bu s.2
def At.spn {W:World}{a:Option Addr}{bx:List (Raw×Raw)}(h:At W a (bx.flatMap cK))(k:Nat)(hk:k<bx.length){s t:Bool}{m n:List UInt8}{e f:Int}(hx:bx[k]=((s,m,e),(t,n,f))):
 ∃b o,a=some ⟨b,o,none⟩/\aZ W b (o+k*6) [ag s,ah m,af e,ag t,ah n,af f]:=by
 obtain⟨b,o,ha,hc⟩:=h.elem (f:=cK) (sz:=6) (λ_=>rfl) zd k hk;rw[hx]at hc;refine⟨b,o,ha,λj hj=>?_⟩;have hj6:j<6:=hj;rw[hc j hj6];exact List.getElem?_eq_getElem hj
abbrev pV (p:Pr):Value:=.agg #[ag (az (dN p.1)),ah (nt (dN p.1).natAbs),af (dE p.1),ag (az (dN p.2)),ah (nt (dN p.2).natAbs),af (dE p.2)]
def XI (bx:List (Raw×Raw)):(bx.flatMap cK).length=bx.length*6:=kQ cK 6 (λ_=>rfl) bx
def azx (bx:List (Raw×Raw)):∀u∈bx.flatMap cK,u.oneCell'=true:=by
 intro u hu;obtain⟨s,_,hs⟩:=List.mem_flatMap.1 hu;rcases List.mem_append.1 hs with h|h
 . exact Pd [s.1] u (by simpa using h)
 . exact Pd [s.2] u (by simpa using h)
def dR (A:Dyadic->Dyadic->Bool)(xs:List Raw):Nat->Raw
 |0=>(false,[],0)
 |k+1=>if k=0\/A (au (xs.getD k (false,[],0))) (au (dR A xs k))=true then xs.getD k (false,[],0)else dR A xs k
def TE (A:Dyadic->Dyadic->Bool)(xs:List Raw)(Q:Raw->Prop)(h0:Q (false,[],0))(h:∀x∈xs,Q x)(k:Nat):Q (dR A xs k):=by
 have hg:∀k,Q (xs.getD k (false,[],0)):=λk=>by
  by_cases hk:k<xs.length
  . have e:xs.getD k (false,[],0)=xs[k]:=by simp[hk]
    rw[e];exact h _ (List.getElem_mem hk)
  . have e:xs.getD k (false,[],0)=(false,[],0):=by simp[List.getD_eq_getElem?_getD,List.getElem?_eq_none (by omega:xs.length<=k)]
    rw[e];exact h0
 induction k with
 |zero=>exact h0
 | succ k ih=>
   unfold dR;split
   . exact hg k
   . exact ih
def Ok.zero :Ok (false,[],0):=⟨by decide,by decide,by decide⟩
end Go.Proofs.YtbkopgdpcijfbaaGreatDoor
namespace Go.Proofs.YtbkopgdpcijfbaaGreatDoor
open Go.RowKit
attribute [local go_sem ↓] Go.wp_at_zero Go.wp_at_succ
def acN (gf:Nat)(A:Dyadic->Dyadic->Bool)(xs:List Raw)(a:Option Addr)(n cap:Nat)(w:World)(hn:xs.length=n)(hl:n<=1048576)(h:∀x∈xs,Ok x)(ha:At w a (xs.flatMap bu))(hT:aC w)
 (eg:∀args w,(callFunc gf args).run Tryz.prog w=.ok (.enter gf args) w)
 (hcl:∀(s:Bool) (l:List UInt8) (e:Int) (t:Bool) (m:List UInt8) (f:Int),Ok (s,l,e)->Ok (t,m,f)->∀W,aC W->Cl gf #[.agg #[ag s,ah l,af e],.agg #[ag t,ah m,af f]] W λe' w'=>e'=.returned (ag (A (au (s,l,e)) (au (t,m,f))))/\Bw W w'):
 Cv 279 #[.slice a n cap,.func (.func gf) #[] #[]] w (bT (au (dR A xs n))):=by
 obtain⟨X,hX⟩:=aB (au (dR A xs n));rw[hX];have hok:=TE A xs Ok Ok.zero h;have hget:∀k,k<xs.length->∃s m e,xs[k]?=some (s,m,e)/\xs.getD k (false,[],0)=(s,m,e)/\Ok (s,m,e):=λk hk=>⟨xs[k].1,xs[k].2.1,xs[k].2.2,by simp[hk],by simp[hk],h _ (List.getElem_mem hk)⟩;obtain⟨xH,GJ,Ha,HT,mF,fJ,Hn,HXn⟩:=jZ hok hget ha hT eg hcl hn hX;clear hok hget ha hT eg hcl hn h hX;obtain⟨W,cE,ae,ak⟩:=lA w 30 [ag false,.string ⟨#[]⟩,af 0] 30 [ag false,.string ⟨#[]⟩,af 0];go_enter Tryz.func279,Tryz.ntmps279;have za:=ae.2.1;have Ho0:=ae.2.2.1;have lr:=ae.2.1.out.lt;have lo:=ae.2.2.1.out.lt;go_wp2_with fail;skip
 go_loopw[10] (λx wr=>∃k:Nat,k<=n/\x=af (k:Int)/\ar wr w.heap.size 30 [ag false,.string ⟨#[]⟩,af 0]/\ar wr (w.heap.size+1) 30 (bu (dR A xs k))/\Bw w wr) (λx _=>n-(intOf x).toNat);case atStart=>exact⟨0,Nat.zero_le _,rfl,ae.2.1.out,ae.2.2.1.out,ae.1.out⟩
 case round=>
  clear za Ho0;obtain⟨k,hk,rfl,pr,po,pb⟩:=hrel;obtain⟨⟨t,m',f⟩,hF⟩:∃F,dR A xs k=F:=⟨_,rfl⟩;have JL:=xH.out k;rw[hF]at po JL;by_cases hlt:k<n
  . have ic:k<xs.length:=by rw[Hn.out];exact hlt
    obtain⟨s,m,e,hx1,hx2,hox⟩:=GJ.out k ic;obtain⟨b,o,hab,q0,q1,q2⟩:=(Ha.out.below pb).num k ic (List.getElem?_eq_some_iff.1 hx1).2;have bD:=mg n cap k (k:Int) hab hlt rfl;have hst:dR A xs (k+1)=if k=0\/A (au (s,m,e)) (au (t,m',f))=true then(s,m,e)else(t,m',f):=by
     show(if k=0\/A (au (xs.getD k (false,[],0))) (au (dR A xs k))=true then xs.getD k (false,[],0)else dR A xs k)=_
     rw[hx2,hF]
    obtain⟨c,hc⟩:=aB (A (au (s,m,e)) (au (t,m',f)));have hcall:=fJ.out s m e t m' f hox JL;rw[hc]at hcall hst;obtain⟨lK,bR⟩:=aK hcall hst;have lb:b<w.heap.size:=by subst hab;exact Ha.out.lt (by intro h0;have h9:=congrArg List.length h0;rw[kQ bu 3 (λ_=>rfl),List.length_nil]at h9;omega)
    have Hp:Hid (aZ wr b (o+k*3) [ag s,ah m,af e]):=kE q0 q1 q2;have Hr:=aj pr;have Ho:Hid (ar wr (w.heap.size+1) 30 [ag t,ah m',af f]):=po;have Hb:=aj pb;have oP:=mF.out;clear pr po pb q0 q1 q2 hcall hst hc hx1 hx2 hox hF hab JL;obtain⟨ae,ak⟩:=qZ (Hr.an<|Ho.an<|Hp.an trivial);have lr2:=ae.1.out.lt;have lo2:=ae.2.1.out.lt;have p1:wr.cell? ⟨b,o+k*3+1,none⟩=some (ah m):=ae.2.2.1.out.cell 1 zm;have p0:wr.cell? ⟨b,o+k*3,none⟩=some (ag s):=ae.2.2.1.out.cell 0 zm;have p2:wr.cell? ⟨b,o+k*3+2,none⟩=some (af e):=ae.2.2.1.out.cell 2 zm;have P0:=p0;have P1:=p1;have P2:=p2;obtain⟨W4,kV,aR,ae,ak⟩:=bX wr (Hb.an ae) 30 [ag s,ah m,af e];by_cases fN:k=0
    . have hk1:((k:Int)==0)=true:=by subst fN;rfl
      have Br:=aj fN;clear fN;skip
      have zh:Hid (dR A xs (k+1)=(s,m,e)):=by show _=_;rw[bR.out,if_pos (.inl Br.out)]
      go_wp2;go_roundw;case rel=>exact⟨k+1,by omega,by go_num,(((ae.2.2.1.out.so (w.heap.size+1) 0 zo _).so (w.heap.size+1) 1 zo _).so (w.heap.size+1) 2 zo _),by rw[zh.out];exact((ae.2.2.2.1.out.set 0 _).set 1 _).set 2 _,(((ae.2.1.out.sc (w.heap.size+1) 0 zo _).sc (w.heap.size+1) 1 zo _).sc (w.heap.size+1) 2 zo _)⟩
      case measure=>exact bC
    . have hk1:((k:Int)==0)=false:=by simpa using fN
      have Br:Hid (¬k=0):=fN;clear fN;go_wp2_with fail;refine aJ ae (lK.out _ (HT.out.below ae.2.1.out)) λw5 ae ak=>?_;cases c with
      | true=>
        skip
        have zh:Hid (dR A xs (k+1)=(s,m,e)):=by show _=_;rw[bR.out,if_pos (.inr rfl)]
        go_wp2;go_roundw;case rel=>exact⟨k+1,by omega,by go_num,(((ae.2.2.1.out.so (w.heap.size+1) 0 zo _).so (w.heap.size+1) 1 zo _).so (w.heap.size+1) 2 zo _),by rw[zh.out];exact((ae.2.2.2.1.out.set 0 _).set 1 _).set 2 _,(((ae.2.1.out.sc (w.heap.size+1) 0 zo _).sc (w.heap.size+1) 1 zo _).sc (w.heap.size+1) 2 zo _)⟩
        case measure=>exact bC
      | false=>
        have zh:Hid (dR A xs (k+1)=(t,m',f)):=by
         show _=_
         rw[bR.out,if_neg];intro h;rcases h with h|h
         . exact Br.out h
         . cases h
        skip
        go_wp2;go_roundw;case rel=>exact⟨k+1,by omega,by go_num,ae.2.2.1.out,by rw[zh.out];exact ae.2.2.2.1.out,ae.2.1.out⟩
        case measure=>exact bC
  . obtain rfl:k=n:=by omega
    have hX:=HXn.out;rw[hF]at hX;have Hr:=aj pr;have Ho:Hid (ar wr (w.heap.size+1) 30 [ag t,ah m',af f]):=po;obtain⟨Hb,HX,HoF⟩:=cw pb hX JL;clear pr po pb hF hX JL;obtain⟨ae,ak⟩:=qZ (Hr.an<|Ho.an trivial);go_wp2_with fail;refine aJ (Hb.an ae) (pq t m' f X HX.out _ HoF.out (HT.out.below Hb.out)) λw5 ae ak=>?_;go_wp2;refine dX (aV w5 (w.heap.size) 0 (bG X)) aX ?_;intro w9 hs0;have ae:=bU hs0 ae;simp only[bV,List.set]at ae;have ak:=qC ae;refine bodyPost_ret (v:=bT X) (by simp[results,Tryz.results279,go_sem,ak]) rfl ⟨rfl,ae.1.out⟩
def ju (a b:Dyadic):Bool:=decide (bg (a-b)<0)
def jw (a b:Dyadic):Bool:=decide (0<bg (a-b))
def Tp (a b:Dyadic):bg (a-b)<0↔0<bg (b-a):=by rw[uQ,BQ];grind
def avi (x y:Raw):au (dR ju [x,y] 2)=(iZ (au x,au y)).1:=by
 have e:dR ju [x,y] 2=if ju (au y) (au x)=true then y else x:=by
  show(if(1:Nat)=0\/ju (au y) (au x)=true then y else x)=_
  simp
 rw[e];unfold ju iZ;by_cases h:bg (au y-au x)<0
 . rw[if_pos (by simpa using h),if_pos ((Tp _ _).1 h)]
 . rw[if_neg (by simpa using h),if_neg (λh2=>h ((Tp _ _).2 h2))]
def awp (x y:Raw):au (dR jw [x,y] 2)=(iZ (au x,au y)).2:=by
 have e:dR jw [x,y] 2=if jw (au y) (au x)=true then y else x:=by
  show(if(1:Nat)=0\/jw (au y) (au x)=true then y else x)=_
  simp
 rw[e];unfold jw iZ;by_cases h:0<bg (au y-au x)
 . rw[if_pos (by simpa using h),if_neg (λh2=>by have:=(Tp (au y) (au x)).2 h2;omega)]
 . rw[if_neg (by simpa using h)];by_cases h2:0<bg (au x-au y)
   . rw[if_pos h2]
   . rw[if_neg h2];rw[BQ]at h h2;show au x=au y
     grind
def awe (s:Bool)(l:List UInt8)(e:Int)(t:Bool)(m:List UInt8)(f:Int)(w:World)(hx:Ok (s,l,e))(hy:Ok (t,m,f))(hT:aC w):
 Cl 280 #[.agg #[ag s,ah l,af e],.agg #[ag t,ah m,af f]] w λe' w'=>e'=.returned (ag (ju (au (s,l,e)) (au (t,m,f))))/\Bw w w':=by
 obtain⟨c,hc⟩:=aB (bg (au (s,l,e)-au (t,m,f)));obtain⟨Gx,Gy,Hc,HT⟩:=dv hx hy hc hT;unfold ju;rw[hc];clear hx hy hc hT;obtain⟨W,cE,ae,ak⟩:=lA w 30 [ag s,ah l,af e] 30 [ag t,ah m,af f];go_enter Tryz.func280,Tryz.ntmps280;go_wp2_with fail;refine aJ ae (wu s l e t m f c Hc.out _ Gx.out Gy.out (HT.out.below ae.1.out)) λw1 ae ak=>?_;go_wp2;refine bodyPost_ret (results_tmp rfl _ _ _) rfl ⟨rfl,ae.1.out⟩
def av7 (s:Bool)(l:List UInt8)(e:Int)(t:Bool)(m:List UInt8)(f:Int)(w:World)(hx:Ok (s,l,e))(hy:Ok (t,m,f))(hT:aC w):
 Cl 281 #[.agg #[ag s,ah l,af e],.agg #[ag t,ah m,af f]] w λe' w'=>e'=.returned (ag (jw (au (s,l,e)) (au (t,m,f))))/\Bw w w':=by
 obtain⟨c,hc⟩:=aB (bg (au (s,l,e)-au (t,m,f)));obtain⟨Gx,Gy,Hc,HT⟩:=dv hx hy hc hT;unfold jw;rw[hc];clear hx hy hc hT;obtain⟨W,cE,ae,ak⟩:=lA w 30 [ag s,ah l,af e] 30 [ag t,ah m,af f];go_enter Tryz.func281,Tryz.ntmps281;go_wp2_with fail;refine aJ ae (wu s l e t m f c Hc.out _ Gx.out Gy.out (HT.out.below ae.1.out)) λw1 ae ak=>?_;go_wp2;refine bodyPost_ret (results_tmp rfl _ _ _) rfl ⟨rfl,ae.1.out⟩
def ace (xs:List Raw)(X:Dyadic)(a:Option Addr)(n cap:Nat)(w:World)(hn:xs.length=n)(hl:n<=1048576)(h:∀x∈xs,Ok x)(ha:At w a (xs.flatMap bu))(hT:aC w)(hX:au (dR ju xs n)=X):
 Cv 229 #[.slice a n cap] w (bT X):=by
 have hf:=λW (hW:Bw w W)=>acN 280 ju xs a n cap W hn hl h (ha.below hW) (hT.below hW) (enters_of Tryz.func280 zk rfl) (λs l e t m f h1 h2 W hW=>awe s l e t m f W h1 h2 hW);rw[hX]at hf;have Hf:=aj hf;clear hf ha h hT hn hX;obtain⟨W,cE,ae,ak⟩:=il w 30 [ag false,.string ⟨#[]⟩,af 0];go_enter Tryz.func229,Tryz.ntmps229;go_wp2_with fail;refine aJ ae (Hf.out _ ae.1.out) λw1 ae ak=>?_;go_wp2;refine dX (aV w1 (w.heap.size) 0 (bG X)) aX ?_;intro w9 hs0;have ae:=bU hs0 ae;simp only[bV,List.set]at ae;have ak:=qC ae;refine bodyPost_ret (v:=bT X) (by simp[results,Tryz.results229,go_sem,ak]) rfl ⟨rfl,ae.1.out⟩
def acd (xs:List Raw)(X:Dyadic)(a:Option Addr)(n cap:Nat)(w:World)(hn:xs.length=n)(hl:n<=1048576)(h:∀x∈xs,Ok x)(ha:At w a (xs.flatMap bu))(hT:aC w)(hX:au (dR jw xs n)=X):
 Cv 230 #[.slice a n cap] w (bT X):=by
 have hf:=λW (hW:Bw w W)=>acN 281 jw xs a n cap W hn hl h (ha.below hW) (hT.below hW) (enters_of Tryz.func281 zk rfl) (λs l e t m f h1 h2 W hW=>av7 s l e t m f W h1 h2 hW);rw[hX]at hf;have Hf:=aj hf;clear hf ha h hT hn hX;obtain⟨W,cE,ae,ak⟩:=il w 30 [ag false,.string ⟨#[]⟩,af 0];go_enter Tryz.func230,Tryz.ntmps230;go_wp2_with fail;refine aJ ae (Hf.out _ ae.1.out) λw1 ae ak=>?_;go_wp2;refine dX (aV w1 (w.heap.size) 0 (bG X)) aX ?_;intro w9 hs0;have ae:=bU hs0 ae;simp only[bV,List.set]at ae;have ak:=qC ae;refine bodyPost_ret (v:=bT X) (by simp[results,Tryz.results230,go_sem,ak]) rfl ⟨rfl,ae.1.out⟩
def azD (s:Bool)(l:List UInt8)(e:Int)(t:Bool)(m:List UInt8)(f:Int)(p:Pr)(hp:iZ (au (s,l,e),au (t,m,f))=p)(b cap:Nat)(ty:TypeId)(w:World)(hx:Ok (s,l,e))(hy:Ok (t,m,f))
 (ha:ar w b ty [ag s,ah l,af e,ag t,ah m,af f]) (hT:aC w):
 Cv 157 #[.slice (some ⟨b,0,none⟩) 2 cap] w (pV p):=by
 obtain⟨p1,p2⟩:=p;have hok:∀x∈[(s,l,e),(t,m,f)],Ok x:=by intro x h;simp at h;rcases h with rfl|rfl;exact hx;exact hy
 have hat:At w (some ⟨b,0,none⟩) ([(s,l,e),(t,m,f)].flatMap bu):=At.aGr ha;have h1:=λW (hW:Bw w W)=>ace [(s,l,e),(t,m,f)] p1 (some ⟨b,0,none⟩) 2 cap W rfl zo hok (hat.below hW) (hT.below hW) (by rw[avi,hp]);have h2:=λW (hW:Bw w W)=>acd [(s,l,e),(t,m,f)] p2 (some ⟨b,0,none⟩) 2 cap W rfl zo hok (hat.below hW) (hT.below hW) (by rw[awp,hp]);obtain⟨H1,H2⟩:=aK h1 h2;clear h1 h2 hok hat ha hT hx hy hp;obtain⟨W,cE,ae,ak⟩:=il w 119 [ag false,.string ⟨#[]⟩,af 0,ag false,.string ⟨#[]⟩,af 0];go_enter Tryz.func157,Tryz.ntmps157;go_wp2_with fail;refine aJ ae (H1.out _ ae.1.out) λw1 ae ak=>?_;go_wp2_with fail;refine aJ ae (H2.out _ ae.1.out) λw2 ae ak=>?_;go_wp2;refine dX (aV w2 (w.heap.size) 0 [ag (az (dN p1)),ah (nt (dN p1).natAbs),af (dE p1),ag (az (dN p2)),ah (nt (dN p2).natAbs),af (dE p2)]) aX ?_;intro w9 hs0;have ae:=bU hs0 ae;simp only[bV,List.set]at ae;have ak:=qC ae;refine bodyPost_ret (v:=pV (p1,p2)) (by simp[results,Tryz.results157,go_sem,ak]) rfl ⟨rfl,ae.1.out⟩
def ai3 (s:Bool)(l:List UInt8)(e:Int)(t:Bool)(m:List UInt8)(f:Int)(p:Pr)(hp:iZ (au (s,l,e),au (t,m,f))=p)(w:World)(hx:Ok (s,l,e))(hy:Ok (t,m,f))(hT:aC w):
 Cv 156 #[.agg #[ag s,ah l,af e,ag t,ah m,af f]] w (pV p):=by
 obtain⟨Hp,Gx,Gy,HT⟩:=dv hp hx hy hT;clear hp hx hy hT;obtain⟨p1,p2⟩:=p;obtain⟨W,cE,ae,ak⟩:=lA w 119 [ag s,ah l,af e,ag t,ah m,af f] 209 [ag false,.string ⟨#[]⟩,af 0,ag false,.string ⟨#[]⟩,af 0];go_enter Tryz.func156,Tryz.ntmps156;have x0:W.cell? ⟨w.heap.size,0,none⟩=some (ag s):=ae.2.1.out.cell 0;have x2:W.cell? ⟨w.heap.size,2,none⟩=some (af e):=ae.2.1.out.cell 2;have x3:W.cell? ⟨w.heap.size,3,none⟩=some (ag t):=ae.2.1.out.cell 3;have x5:W.cell? ⟨w.heap.size,5,none⟩=some (af f):=ae.2.1.out.cell 5;have x4:W.cell? ⟨w.heap.size,4,none⟩=some (ah m):=ae.2.1.out.cell 4;have x1:W.cell? ⟨w.heap.size,1,none⟩=some (ah l):=ae.2.1.out.cell 1;have K0:=x0;have K1:=x1;have K2:=x2;have K3:=x3;have K4:=x4;have K5:=x5;obtain⟨W2,nV,aR,ae,ak⟩:=bX W ae 30 [ag s,ah l,af e,ag t,ah m,af f];go_wp2_with fail;refine aJ ae (azD s l e t m f (p1,p2) Hp.out W.heap.size 2 30 _ Gx.out Gy.out ae.1.out (HT.out.below ae.2.1.out)) λw3 ae ak=>?_;go_wp2;refine dX (aV w3 (w.heap.size+1) 0 [ag (az (dN p1)),ah (nt (dN p1).natAbs),af (dE p1),ag (az (dN p2)),ah (nt (dN p2).natAbs),af (dE p2)]) aX ?_;intro w9 hs0;have ae:=bU hs0 ae;simp only[bV,List.set]at ae;have ak:=qC ae;refine bodyPost_ret (v:=pV (p1,p2)) (by simp[results,Tryz.results156,go_sem,ak]) rfl ⟨rfl,ae.2.1.out⟩
def azA (s:Bool)(l:List UInt8)(e:Int)(t:Bool)(m:List UInt8)(f:Int)(p:Pr)(hp:iZ (au (s,l,e),au (t,m,f))=p)(w:World)(hx:Ok (s,l,e))(hy:Ok (t,m,f))(hT:aC w):
 Cv 233 #[.agg #[ag s,ah l,af e,ag t,ah m,af f]] w (pV p):=by
 obtain⟨Hp,Gx,Gy,HT⟩:=dv hp hx hy hT;clear hp hx hy hT;obtain⟨p1,p2⟩:=p;obtain⟨W,cE,ae,ak⟩:=lA w 119 [ag s,ah l,af e,ag t,ah m,af f] 119 [ag false,.string ⟨#[]⟩,af 0,ag false,.string ⟨#[]⟩,af 0];go_enter Tryz.func233,Tryz.ntmps233;have hfd:∀W,(Instr.field 209 (pV (p1,p2)) 0).run Tryz.prog W=.ok (pV (p1,p2)) W:=λW=>by kernel_rfl
 go_wp2_with fail;refine aJ ae (ai3 s l e t m f (p1,p2) Hp.out _ Gx.out Gy.out (HT.out.below ae.1.out)) λw3 ae ak=>?_;go_wp2;refine dX (aV w3 (w.heap.size+1) 0 [ag (az (dN p1)),ah (nt (dN p1).natAbs),af (dE p1),ag (az (dN p2)),ah (nt (dN p2).natAbs),af (dE p2)]) aX ?_;intro w9 hs0;have ae:=bU hs0 ae;simp only[bV,List.set]at ae;have ak:=qC ae;refine bodyPost_ret (v:=pV (p1,p2)) (by simp[results,Tryz.results233,go_sem,ak]) rfl ⟨rfl,ae.1.out⟩
def XK (s:Bool)(l:List UInt8)(e:Int)(t:Bool)(m:List UInt8)(f:Int)(B:Nat)(D:Dyadic)(hD:xn (au (s,l,e),au (t,m,f))=D)(w:World)(hx:Fit B (s,l,e))(hy:Fit B (t,m,f))(hB:B<=100000000)(hT:aC w):
 Cv 68 #[.agg #[ag s,ah l,af e,ag t,ah m,af f]] w (bT D):=by
 obtain⟨⟨p1,p2⟩,hp⟩:∃p,iZ (au (s,l,e),au (t,m,f))=p:=⟨_,rfl⟩;have hs:=AU (p:=(au (s,l,e),au (t,m,f))) ⟨hx.2,hy.2⟩;unfold xn at hD;rw[hp]at hD hs;have od:Fit B (bE p1):=hs.1.fit zo;have hf2:Fit B (bE p2):=hs.2.fit zo;have hS:au (bE p2)-au (bE p1)=D:=by
  show au (canon p2)-au (canon p1)=D
  rw[bF,bF];exact hD
 obtain⟨Hp,Gx,Gy,HT,H1,H2,HS⟩:=jL hp hx.1 hy.1 hT od hf2 hS;clear hp hx hy hT hs hD od hf2 hS;obtain⟨W,cE,ae,ak⟩:=lA w 119 [ag s,ah l,af e,ag t,ah m,af f] 30 [ag false,.string ⟨#[]⟩,af 0];go_enter Tryz.func68,Tryz.ntmps68;go_wp2_with fail;refine aJ ae (ai3 s l e t m f (p1,p2) Hp.out _ Gx.out Gy.out (HT.out.below ae.1.out)) λw3 ae ak=>?_;obtain⟨W4,kV,aR,ae,ak⟩:=bX w3 ae 209 [ag (az (dN p1)),ah (nt (dN p1).natAbs),af (dE p1),ag (az (dN p2)),ah (nt (dN p2).natAbs),af (dE p2)];go_wp2_with fail;refine aJ ae (Ej _ _ _ _ _ _ D B HS.out _ H2.out H1.out zo (HT.out.below ae.2.1.out)) λw5 ae ak=>?_;go_wp2;refine dX (aV w5 (w.heap.size+1) 0 (bG D)) aX ?_;intro w9 hs0;have ae:=bU hs0 ae;simp only[bV,List.set]at ae;have ak:=qC ae;refine bodyPost_ret (v:=bT D) (by simp[results,Tryz.results68,go_sem,ak]) rfl ⟨rfl,ae.2.1.out⟩
def azB (s:Bool)(l:List UInt8)(e:Int)(t:Bool)(m:List UInt8)(f:Int)(B:Nat)(X:Dyadic)(hX:sM (au (s,l,e),au (t,m,f))=X)(w:World)(hx:Fit B (s,l,e))(hy:Fit B (t,m,f))(hB:B<=100000000)(hT:aC w):
 Cv 234 #[.agg #[ag s,ah l,af e,ag t,ah m,af f]] w (bT X):=by
 obtain⟨D,hD⟩:=aB (au (s,l,e)+au (t,m,f));have hDo:Ok (bE D):=by rw[<-hD];exact((Sm.add hx.2 hy.2).fit zo).1
 have tJ:au (az (dN D),nt (dN D).natAbs,dE D+ -1)=X:=by rw[<-hX];unfold sM;rw[hD];exact PF D 1
 obtain⟨HD,HX,Gx,Gy,HT,PY⟩:=gU hD tJ hx hy hT hDo;clear hD hX tJ hx hy hT hDo;obtain⟨W,cE,ae,ak⟩:=lA w 119 [ag s,ah l,af e,ag t,ah m,af f] 30 [ag false,.string ⟨#[]⟩,af 0];go_enter Tryz.func234,Tryz.ntmps234;have x0:W.cell? ⟨w.heap.size,0,none⟩=some (ag s):=ae.2.1.out.cell 0;have x2:W.cell? ⟨w.heap.size,2,none⟩=some (af e):=ae.2.1.out.cell 2;have x3:W.cell? ⟨w.heap.size,3,none⟩=some (ag t):=ae.2.1.out.cell 3;have x5:W.cell? ⟨w.heap.size,5,none⟩=some (af f):=ae.2.1.out.cell 5;have x4:W.cell? ⟨w.heap.size,4,none⟩=some (ah m):=ae.2.1.out.cell 4;have x1:W.cell? ⟨w.heap.size,1,none⟩=some (ah l):=ae.2.1.out.cell 1;have K0:=x0;have K1:=x1;have K2:=x2;have K3:=x3;have K4:=x4;have K5:=x5;obtain⟨W2,nV,aR,ae,ak⟩:=bX W ae 30 [ag s,ah l,af e,ag t,ah m,af f];go_wp2_with fail;refine aJ ae (xU s l e t m f D B HD.out W.heap.size 2 30 _ Gx.out Gy.out zo ae.1.out (HT.out.below ae.2.1.out)) λw3 ae ak=>?_;go_wp2_with fail;refine aJ ae (Fx _ _ _ (-1) X HX.out _ PY.out zd (HT.out.below ae.2.1.out)) λw4 ae ak=>?_;go_wp2;refine dX (aV w4 (w.heap.size+1) 0 (bG X)) aX ?_;intro w9 hs0;have ae:=bU hs0 ae;simp only[bV,List.set]at ae;have ak:=qC ae;refine bodyPost_ret (v:=bT X) (by simp[results,Tryz.results234,go_sem,ak]) rfl ⟨rfl,ae.2.1.out⟩
def yJ (a b k:Int):Dyadic.ofIntWithPrec a k<=Dyadic.ofIntWithPrec b k↔a<=b:=by
 have h1:=Kw (b-a) k;have h2:Dyadic.ofIntWithPrec (b-a) k=Dyadic.ofIntWithPrec b k-Dyadic.ofIntWithPrec a k:=by have e2:=uh b (-a) k;have e3:=wX a k;rw[Int.sub_eq_add_neg,<-e2,<-e3];grind
 rw[h2]at h1;constructor
 . intro h;have:¬b-a<0:=λh3=>by have:=h1.2 h3;grind
   omega
 . intro h;have:¬(Dyadic.ofIntWithPrec b k-Dyadic.ofIntWithPrec a k<0):=λh3=>by have:=h1.1 h3;omega
   grind
def iE (A W:Dyadic):Int:=if 0<=dE A-dE W+20 then dN A*2^(dE A-dE W+20).toNat/dN W else dN A/(dN W*2^(-(dE A-dE W+20)).toNat)
def fy (A W:Dyadic):Dyadic:=Dyadic.ofIntWithPrec (iE A W) 20
def acg {W:Dyadic}(h:0<W):0<dN W:=by have e:=vD W;have h1:=Kw (-dN W) (-(dE W));rw[<-wX,<-e]at h1;have:=h1.1 (by grind);omega
def SP (A W:Dyadic)(hW:0<W):fy A W*W<=A/\A<(fy A W+hp 20) *W:=by
 have hw:=acg hW;have eA:=vD A;have eW:=vD W;have key:∀q:Int,∃(X Y Z:Int) (k:Int),Dyadic.ofIntWithPrec q 20*W=Dyadic.ofIntWithPrec (q*X) k/\A=Dyadic.ofIntWithPrec Y k/\0<X/\iE A W=Y/X/\Z=0:=λq=>by
  unfold iE;by_cases h:0<=dE A-dE W+20
  . rw[if_pos h];refine⟨dN W,dN A*2^(dE A-dE W+20).toNat,0,20+ -(dE W),?_,?_,hw,rfl,rfl⟩
    . conv=>lhs;rw[eW]
      rw[ui]
    . have:=mz (dN A) (dE A-dE W+20).toNat (-(dE A));rw[show-(dE A)+((dE A-dE W+20).toNat:Int)=20+ -(dE W)by omega]at this;rw[this];exact eA
  . rw[if_neg h];refine⟨dN W*2^(-(dE A-dE W+20)).toNat,dN A,0,-(dE A),?_,eA,Int.mul_pos hw (Int.pow_pos zd),rfl,rfl⟩;conv=>lhs;rw[eW]
    rw[ui];have:=mz (q*dN W) (-(dE A-dE W+20)).toNat (20+ -(dE W));rw[show 20+ -(dE W)+((-(dE A-dE W+20)).toNat:Int)= -(dE A)by omega]at this;rw[<-this,Int.mul_assoc]
 constructor
 . obtain⟨X,Y,_,k,h1,h2,h3,h4,_⟩:=key (iE A W);show Dyadic.ofIntWithPrec (iE A W) 20*W<=A
   have h5:iE A W*X<=Y:=by rw[h4];exact Int.ediv_mul_le Y zo
   rw[h1];conv=>rhs;rw[h2]
   exact(yJ _ _ _).2 h5
 . obtain⟨X,Y,_,k,h1,h2,h3,h4,_⟩:=key (iE A W+1);have e:fy A W+hp 20=Dyadic.ofIntWithPrec (iE A W+1) 20:=uh (iE A W) 1 20;rw[e,h1];have h5:Y+1<=(iE A W+1) *X:=by rw[h4];have:=Int.lt_ediv_add_one_mul_self Y h3;omega
   have h6:=(yJ (Y+1) ((iE A W+1) *X) k).2 h5;have h7:=Kw (-1) k;have h8:Dyadic.ofIntWithPrec (Y+1) k=A-Dyadic.ofIntWithPrec (-1) k:=by have e2:=uh Y 1 k;have e3:=wX 1 k;rw[<-e2,<-h2,<-e3];grind
   have:=h7.2 zd;grind
def Iq {A W:Dyadic}{B:Nat}(hA:Sm B A)(hW:1<=W):Sm (B+21) (fy A W):=by
 have h01:(0:Dyadic)<1:=by decide+kernel
 obtain⟨h1,h2⟩:=SP A W (by grind)
 obtain⟨a,ha,hb⟩:=hA;have hP: -Dyadic.ofIntWithPrec (2^(2*B)) B<=A/\A<=Dyadic.ofIntWithPrec (2^(2*B)) B:=by
  have hb2:(a.natAbs:Int)<2^(2*B):=by exact_mod_cast hb
  rw[ha,wX];exact⟨(yJ _ _ _).2 zo,(yJ _ _ _).2 zo⟩
 have e20:Dyadic.ofIntWithPrec (2^(2*B)) B=Dyadic.ofIntWithPrec (2^(B+20)) 20:=by have e1:=mz (2^B) B 0;have e2:=mz (2^B) 20 0;rw[show(2:Int)^B*2^B=2^(2*B)by rw[<-Int.pow_add];congr 1;omega,Int.zero_add]at e1;rw[<-Int.pow_add,show(0:Int)+((20:Nat):Int)=20 by rfl]at e2;rw[e1,e2]
 rw[e20]at hP;have hlo: -(2^(B+20))-1<=iE A W:=by
  have h3: -Dyadic.ofIntWithPrec (2^(B+20)) 20<=fy A W+hp 20:=by
   by_cases h:0<=fy A W+hp 20
   . have h9:(0:Dyadic)<=Dyadic.ofIntWithPrec (2^(B+20)) 20:=by have:=(yJ 0 (2^(B+20)) 20).2 (Int.le_of_lt (Int.pow_pos zd));rwa [vE]at this
     grind
   . have h4:=gP (x:=-(fy A W+hp 20)) (y:=W-1) (by grind) (by grind);grind
  have e:fy A W+hp 20=Dyadic.ofIntWithPrec (iE A W+1) 20:=uh (iE A W) 1 20;rw[e,wX,yJ]at h3;omega
 have hhi:iE A W<=2^(B+20):=by
  have h3:fy A W<=Dyadic.ofIntWithPrec (2^(B+20)) 20:=by
   by_cases h:0<=fy A W
   . have h4:=gP (x:=fy A W) (y:=W-1) h (by grind);grind
   . have h9:(0:Dyadic)<=Dyadic.ofIntWithPrec (2^(B+20)) 20:=by have:=(yJ 0 (2^(B+20)) 20).2 (Int.le_of_lt (Int.pow_pos zd));rwa [vE]at this
     grind
  unfold fy at h3;rwa [yJ]at h3
 refine⟨iE A W*2^(B+1),?_,?_⟩
 . unfold fy;have:=mz (iE A W) (B+1) 20;rw[<-this];congr 1;omega
 . rw[Int.natAbs_mul,Int.natAbs_pow];have h3:(iE A W).natAbs<=2^(B+20)+1:=by have e:((2^(B+20):Nat):Int)=(2:Int)^(B+20):=Int.natCast_pow 2 (B+20);rw[<-e]at hlo hhi;generalize 2^(B+20)=P at*;omega
   have h4:(2:Nat)^(B+20)+1<2^(B+21):=by have e9:(2:Nat)^(B+21)=2^(B+20) *2:=Nat.pow_succ _ _;have e8:(2:Nat)^(B+20)=2^(B+19) *2:=Nat.pow_succ _ _;have:=Nat.pow_pos (n:=B+19) (show 0<2 by decide);omega
   show(iE A W).natAbs*2^(B+1)<_
   calc (iE A W).natAbs*2^(B+1)<2^(B+21) *2^(B+1):=Nat.mul_lt_mul_of_pos_right zo (Nat.pow_pos zd)
    _=2^(B+21+(B+1)):=by rw[<-Nat.pow_add]
    _<=2^(2* (B+21)):=Nat.pow_le_pow_right zd zo
def abu (A W Q:Dyadic)(B:Nat)(w:World)(hA:Sm B A)(hB:B<=1000000)(hW:0<W)(Ab:Sm 40 W)(hQ:fy A W=Q)(hT:aC w):
 Cv 154 #[.agg #[ag (az (dN A)),ah (nt (dN A).natAbs),af (dE A)],.agg #[ag (az (dN W)),ah (nt (dN W).natAbs),af (dE W)],af 20] w (bT Q):=by
 obtain⟨a1,a2,a3⟩:=hA.parts;obtain⟨b1,b2,b3⟩:=Ab.parts;have hw:=acg hW;obtain⟨n,hn⟩:=aB (dE A-dE W+20);obtain⟨M,hM⟩:=aB (if 0<=n then dN A*2^n.toNat else dN A);obtain⟨D,hD⟩:=aB (if 0<=n then dN W else dN W*2^(-n).toNat);have hD0:0<D:=by
  rw[<-hD];split
  . exact hw
  . exact Int.mul_pos hw (Int.pow_pos zd)
 have hq:iE A W=M/D:=by unfold iE;rw[hn,<-hM,<-hD];split<;>rfl
 have wD:(nt M.natAbs).length<=1000000:=by
  refine jK (k:=3*B+100) ?_ zo;rw[<-hM];split
  . rw[Int.natAbs_mul,Int.natAbs_pow];show(dN A).natAbs*2^n.toNat<_
    calc (dN A).natAbs*2^n.toNat<2^(2*B) *2^n.toNat:=Nat.mul_lt_mul_of_pos_right a1 (Nat.pow_pos zd)
     _=2^(2*B+n.toNat):=by rw[<-Nat.pow_add]
     _<=2^(3*B+100):=Nat.pow_le_pow_right zd zo
  . exact Nat.lt_of_lt_of_le a1 (Nat.pow_le_pow_right zd zo)
 have hDl:(nt D.natAbs).length<=1000000:=by
  refine jK (k:=B+300) ?_ zo;rw[<-hD];split
  . exact Nat.lt_of_lt_of_le b1 (Nat.pow_le_pow_right zd zo)
  . rw[Int.natAbs_mul,Int.natAbs_pow];show(dN W).natAbs*2^(-n).toNat<_
    calc (dN W).natAbs*2^(-n).toNat<2^(2*40) *2^(-n).toNat:=Nat.mul_lt_mul_of_pos_right b1 (Nat.pow_pos zd)
     _=2^(2*40+(-n).toNat):=by rw[<-Nat.pow_add]
     _<=2^(B+300):=Nat.pow_le_pow_right zd zo
 have BW:(nt (dN A).natAbs).length<=1000000:=jK a1 zo;have NG:(nt (dN W).natAbs).length<=1000000:=jK b1 zo;have OC:az D=false:=by unfold az;simp;omega
 have kZ:=λW2=>aA6 (az M) (nt M.natAbs) (nt D.natAbs) W2 wD hDl (by rw[jP];omega);have e1:iv false (nt D.natAbs)=D:=by rw[<-OC];exact dH D
 rw[dH,e1,<-hq]at kZ;have lh:=λW2=>FM false (nt D.natAbs) W2 (Nat.le_trans hDl zd);rw[e1,show eI D=1 by unfold eI;rw[if_neg zo,if_neg zo]]at lh;have EJ:(nt (iE A W).natAbs).length<=34359738368:=by
  refine Nat.le_trans (jK (k:=3*B+101) (N:=1000000) ?_ zo) zd;have h2:(nt M.natAbs).length<=1000000:=wD;rw[hq];have h3:=Int.natAbs_ediv_le_natAbs M D;have h4:M.natAbs<2^(3*B+100):=by
   rw[<-hM];split
   . rw[Int.natAbs_mul,Int.natAbs_pow];show(dN A).natAbs*2^n.toNat<_
     calc (dN A).natAbs*2^n.toNat<2^(2*B) *2^n.toNat:=Nat.mul_lt_mul_of_pos_right a1 (Nat.pow_pos zd)
      _=2^(2*B+n.toNat):=by rw[<-Nat.pow_add]
      _<=2^(3*B+100):=Nat.pow_le_pow_right zd zo
   . exact Nat.lt_of_lt_of_le a1 (Nat.pow_le_pow_right zd zo)
  exact Nat.lt_trans (Nat.lt_of_le_of_lt h3 h4) (Nat.pow_lt_pow_right zd zo)
 have hmk:=λW2 (eO:aC W2)=>yF (az (iE A W)) (nt (iE A W).natAbs) (-20) Q (by rw[<-hQ];unfold au fy;simp only[dH];rfl) W2 EJ zd eO;generalize iE A W=q at*;have hw1:IntKind.i64.wrap (dE A-dE W)=dE A-dE W:=by rw[IntKind.wrap_i64];omega
 have hw2:IntKind.i64.wrap (dE A-dE W+20)=n:=by rw[IntKind.wrap_i64,<-hn];omega
 have hnb: -2000000<=n/\n<=2000000:=by omega
 have agk:0<=n->∀W2,Cv 135 #[.agg #[ag (az (dN A)),ah (nt (dN A).natAbs)],af n] W2 (cd M):=λh W2=>by have h2:=FK (az (dN A)) (nt (dN A).natAbs) n.toNat W2 (Nat.le_trans BW zd) zo;rw[dH,show((n.toNat:Nat):Int)=n by omega]at h2;rw[if_pos h]at hM;rw[hM]at h2;exact h2
 have agl:¬0<=n->∀W2,Cv 135 #[.agg #[ag (az (dN W)),ah (nt (dN W).natAbs)],af (-n)] W2 (cd D):=λh W2=>by have h2:=FK (az (dN W)) (nt (dN W).natAbs) (-n).toNat W2 (Nat.le_trans NG zd) zo;rw[dH,show(((-n).toNat:Nat):Int)= -n by omega]at h2;rw[if_neg h]at hD;rw[hD]at h2;exact h2
 have Cb:¬0<=n->dN A=M:=λh=>by rw[if_neg h]at hM;exact hM
 have Eo:0<=n->dN W=D:=λh=>by rw[if_pos h]at hD;exact hD
 generalize dN A=NA at*;generalize dN W=NW at*;generalize dE A=EA at*;generalize dE W=EW at*;obtain⟨QM,oV,mG,RQ,vW,Lp,Li,HT,HsD⟩:=CG kZ lh hmk agk agl Cb Eo hT OC;clear kZ lh hmk agk agl Cb Eo hT hM hD hD0 hq wD hDl BW NG EJ hn hA hB hW Ab hQ a1 a2 a3 b1 b2 b3 hw e1 OC;have Hb:=hbz w;go_enter Tryz.func154,Tryz.ntmps154;go_wp2_with fail;refine Py w (Hb.an trivial) 30 [ag (az NA),ah (nt NA.natAbs),af EA] 30 [ag (az NW),ah (nt NW.natAbs),af EW] 30 [ag false,.string ⟨#[]⟩,af 0] λW1 aR ae ak=>?_;go_upto_region 2 with fail
 obtain⟨dK,Me⟩:=aK ae.2.2.2.1.out ae.2.2.1.out;have gB:=ae.2.2.1.out.lt;have Hb:=hbz W1;go_cut[8,9] (λs8 s9 wx=>∃g h,s8=.pointer (some ⟨g,0,none⟩)/\s9=.pointer (some ⟨h,0,none⟩)/\g≠h/\W1.heap.size<=g/\W1.heap.size<=h/\ar wx g 28 [ag (az NA),ah (nt NA.natAbs)]/\ar wx h 28 [ag (az NW),ah (nt NW.natAbs)]/\Bw W1 wx);case first=>
  obtain⟨Hx,Hy,Hr,_,_⟩:=ae;obtain⟨x0,x1,x2⟩:=Hx.out.c3;obtain⟨y0,y1,y2⟩:=Hy.out.c3;obtain⟨r0,aO,r1,aQ,r2,dQ⟩:=Hr.out.g3;have gJ:∀w',ez W1 w'->aH w' (w.heap.size) 0 (ag (az NA))/\aH w' (w.heap.size) 1 (ah (nt NA.natAbs))/\aH w' (w.heap.size) 2 (af EA)/\aH w' (w.heap.size+1) 0 (ag (az NW))/\aH w' (w.heap.size+1) 1 (ah (nt NW.natAbs))/\aH w' (w.heap.size+1) 2 (af EW):=λw' h=>⟨cell_later h x0,cell_later h x1,cell_later h x2,cell_later h y0,cell_later h y1,cell_later h y2⟩;have cf:Hid (ez W1 W1):=Below.refl _ _;refine aj2 (λw'=>ez W1 w') (λi=>Nat.blt i 7) (.rd 0 (.rd 1 (.rd 2 (.rd 3 (.br 4 5 (.lin [(5,false),(6,false),(7,false)]) (.lin [(4,false),(6,false),(7,false)])))))) zk zk rfl zk zc cf.out.drew ?_;iterate 4 (refine air rfl rfl (v:=?_) (λw' hw'=>?_) ?_;rotate_left;(focus have hw':=gJ w' hw';obtain⟨q0,q1,q2,q3,q4,q5⟩:=hw';go_simp;try with_reducible rfl);try simp only[UU])
  clear  gJ;refine aiq rfl rfl rfl rfl rfl rfl  (λK hK=>?_) (λK hK=>?_) 
  . go_simp;have avU:=Hb.out.size;refine hK _ _ (λ_=>by first|exact cf.out.alloc _|exact(cf.out.alloc _).drew|exact(cf.out.drew).alloc _) ?_;try simp only[UU]
    refine ais (λW2=>ar W2 (W1.heap.size) 28 [ag false,.string ⟨#[]⟩]/\Bw W1 W2) (by first|exact iX|exact iY) ?_;rintro W2 ⟨qm,ai⟩;have av0:=Hx.out.lt;have av1:=Hy.out.lt;have WF:=Hr.out.lt;replace cf:=aj (cf.out.below ai);replace Hx:=kB Hx ai;replace Hy:=kB Hy ai;replace Hr:=kB Hr ai;have Hm:=aj qm;clear qm;obtain⟨x0,x1,x2⟩:=Hx.out.c3;obtain⟨y0,y1,y2⟩:=Hy.out.c3;obtain⟨r0,aO,r1,aQ,r2,dQ⟩:=Hr.out.g3;obtain⟨m0,fm0,m1,Nc⟩:=Hm.out.g2;replace Hb:=aW Hb ai;refine Pw ?_;refine aM rfl rfl (λK hK=>?_);go_simp;have avT:=Hb.out.size;refine hK _ _ (λ_=>by first|exact cf.out.alloc _|exact(cf.out.alloc _).drew|exact(cf.out.drew).alloc _) ?_;try simp only[UU]
    refine cB (λW3=>ar W3 (W2.heap.size) 28 [ag false,.string ⟨#[]⟩]/\Bw W2 W3) (by first|exact iX|exact iY) ?_;rintro W3 ⟨qd,ai⟩;have ahx:=Hx.out.lt;have av2:=Hy.out.lt;have ahw:=Hr.out.lt;have aFa:=Hm.out.lt;replace cf:=aj (cf.out.below ai);replace Hx:=kB Hx ai;replace Hy:=kB Hy ai;replace Hr:=kB Hr ai;replace Hm:=kB Hm ai;have Hd:=aj qd;clear qd;obtain⟨x0,x1,x2⟩:=Hx.out.c3;obtain⟨y0,y1,y2⟩:=Hy.out.c3;obtain⟨r0,aO,r1,aQ,r2,dQ⟩:=Hr.out.g3;obtain⟨m0,fm0,m1,Nc⟩:=Hm.out.g2;obtain⟨d0,fd0,d1,fd1⟩:=Hd.out.g2;replace Hb:=aW Hb ai;refine aM rfl rfl (λK hK=>?_);go_simp;refine hK _ _ (by first|exact λh=>absurd h zd|exact λ_=>cf.out|exact λ_=>(by first|exact cf.out.setCell zp _|exact(cf.out.setCell zp _).setCell zp _|exact((cf.out.setCell zp _).setCell zp _).setCell zp _)) ?_;try simp only[UU]
    refine aM rfl rfl (λK hK=>?_);go_simp;refine hK _ _ (by first|exact λh=>absurd h zd|exact λ_=>cf.out|exact λ_=>(by first|exact cf.out.setCell zp _|exact(cf.out.setCell zp _).setCell zp _|exact((cf.out.setCell zp _).setCell zp _).setCell zp _)) ?_;try simp only[UU]
    simp only[bH];go_wp2_with fail;go_meet;exact⟨_,_,rfl,rfl,by omega,by omega,by omega,(((Hm.out.set 0 _).set 1 _).so _ _ zo _).so _ _ zo _,(((Hd.out.so _ _ zo _).so _ _ zo _).set 0 _).set 1 _,(((Hb.out.setCell zp _).setCell zp _).setCell zp _).setCell zp _⟩
  . go_simp;have avT:=Hb.out.size;refine hK _ _ (λ_=>by first|exact cf.out.alloc _|exact(cf.out.alloc _).drew|exact(cf.out.drew).alloc _) ?_;try simp only[UU]
    refine ais (λW3=>ar W3 (W1.heap.size) 28 [ag false,.string ⟨#[]⟩]/\Bw W1 W3) (by first|exact iX|exact iY) ?_;rintro W3 ⟨qd,ai⟩;have ahx:=Hx.out.lt;have av2:=Hy.out.lt;have ahw:=Hr.out.lt;replace cf:=aj (cf.out.below ai);replace Hx:=kB Hx ai;replace Hy:=kB Hy ai;replace Hr:=kB Hr ai;have Hd:=aj qd;clear qd;obtain⟨x0,x1,x2⟩:=Hx.out.c3;obtain⟨y0,y1,y2⟩:=Hy.out.c3;obtain⟨r0,aO,r1,aQ,r2,dQ⟩:=Hr.out.g3;obtain⟨d0,fd0,d1,fd1⟩:=Hd.out.g2;replace Hb:=aW Hb ai;refine Pw ?_;refine aM rfl rfl (λK hK=>?_);go_simp;have avU:=Hb.out.size;refine hK _ _ (λ_=>by first|exact cf.out.alloc _|exact(cf.out.alloc _).drew|exact(cf.out.drew).alloc _) ?_;try simp only[UU]
    refine cB (λW2=>ar W2 (W3.heap.size) 28 [ag false,.string ⟨#[]⟩]/\Bw W3 W2) (by first|exact iX|exact iY) ?_;rintro W2 ⟨qm,ai⟩;have av0:=Hx.out.lt;have av1:=Hy.out.lt;have WF:=Hr.out.lt;have aE0:=Hd.out.lt;replace cf:=aj (cf.out.below ai);replace Hx:=kB Hx ai;replace Hy:=kB Hy ai;replace Hr:=kB Hr ai;replace Hd:=kB Hd ai;have Hm:=aj qm;clear qm;obtain⟨x0,x1,x2⟩:=Hx.out.c3;obtain⟨y0,y1,y2⟩:=Hy.out.c3;obtain⟨r0,aO,r1,aQ,r2,dQ⟩:=Hr.out.g3;obtain⟨d0,fd0,d1,fd1⟩:=Hd.out.g2;obtain⟨m0,fm0,m1,Nc⟩:=Hm.out.g2;replace Hb:=aW Hb ai;refine aM rfl rfl (λK hK=>?_);go_simp;refine hK _ _ (by first|exact λh=>absurd h zd|exact λ_=>cf.out|exact λ_=>(by first|exact cf.out.setCell zp _|exact(cf.out.setCell zp _).setCell zp _|exact((cf.out.setCell zp _).setCell zp _).setCell zp _)) ?_;try simp only[UU]
    refine aM rfl rfl (λK hK=>?_);go_simp;refine hK _ _ (by first|exact λh=>absurd h zd|exact λ_=>cf.out|exact λ_=>(by first|exact cf.out.setCell zp _|exact(cf.out.setCell zp _).setCell zp _|exact((cf.out.setCell zp _).setCell zp _).setCell zp _)) ?_;try simp only[UU]
    simp only[bH];go_wp2_with fail;go_meet;exact⟨_,_,rfl,rfl,by omega,by omega,by omega,(((Hm.out.set 0 _).set 1 _).so _ _ zo _).so _ _ zo _,(((Hd.out.so _ _ zo _).so _ _ zo _).set 0 _).set 1 _,(((Hb.out.setCell zp _).setCell zp _).setCell zp _).setCell zp _⟩
 case rest=>
  obtain⟨g,h,rfl,rfl,hgh,hg1,Vg,hm,hd,rb⟩:=hcut;obtain⟨w4,hw4⟩:∃u,u=wc:=⟨_,rfl⟩;subst hw4;obtain⟨Ro,Gw,yQ,DL⟩:=dv hm hd rb (Me.out.below rb);clear hm hd rb;go_upto_if 25 with fail
  go_cut[8] (λs8 wx=>s8=.pointer (some ⟨g,0,none⟩)/\ar wx g 28 [ag (az M),ah (nt M.natAbs)]/\ar wx h 28 [ag (az D),ah (nt D.natAbs)]/\Bw W1 wx);case first=>
   by_cases hn0:0<=n
   . have e1:=Li.out hn0;have tu:=aj (RQ.out hn0);have Hm:=Ro;have Hd:=Gw;have Hb:=yQ;rw[e1]at Hd;clear e1;obtain⟨ae,ak⟩:=qZ (Hm.an<|Hd.an trivial);go_wp2_with fail;refine aJ (Hb.an ae) (tu.out _) λw5 ae ak=>?_;go_wp2_with fail;go_meet;exact⟨rfl,(ae.2.1.out.set 0 _).set 1 _,(ae.2.2.1.out.so _ _ zo _).so _ _ zo _,(ae.1.out.setCell zp _).setCell zp _⟩
   . have e1:=Lp.out zo;have tu:=aj (vW.out zo);have Hm:=Ro;have Hd:=Gw;have Hb:=yQ;rw[e1]at Hm;clear e1;obtain⟨ae,ak⟩:=qZ (Hm.an<|Hd.an trivial);go_wp2_with fail;refine aJ (Hb.an ae) (tu.out _) λw5 ae ak=>?_;go_wp2_with fail;go_meet;exact⟨rfl,(ae.2.1.out.so _ _ zo _).so _ _ zo _,(ae.2.2.1.out.set 0 _).set 1 _,(ae.1.out.setCell zp _).setCell zp _⟩
  case rest=>obtain⟨rfl,hm,hd,rb⟩:=hcut;obtain⟨w6,Cz⟩:∃u,u=wc:=⟨_,rfl⟩;subst Cz;rw[HsD.out]at hd;obtain⟨Hm,Hd,Hr,Hb⟩:=dv hm hd (Me.out.below rb) (aI dK.out rb);clear hm hd rb;obtain⟨ae,ak⟩:=qZ (Hm.an<|Hd.an<|Hr.an trivial);go_wp2_with fail;refine aJ (Hb.an ae) (oV.out _) λw7 ae ak=>?_;go_wp2_with fail;refine(QM.out _).mono ?_;rintro e w8 ⟨rb,rl,rfl,ai⟩;obtain⟨ae,ak⟩:=qX ai ae;obtain⟨W9,NE,aR,ae,ak⟩:=KH w8 ae 28 [ag (az q),ah (nt q.natAbs)] 28 [ag rb,ah rl];go_wp2_with fail;refine aJ ae (mG.out _ (HT.out.below ae.2.2.1.out)) λdw ae ak=>?_;go_wp2;refine dX (aV dw (w.heap.size+2) 0 (bG Q)) aX ?_;intro ir hs0;have ae:=bU hs0 ae;simp only[bV,List.set]at ae;have ak:=qC ae;refine bodyPost_ret (v:=bT Q) (by simp[results,Tryz.results154,go_sem,ak]) rfl ⟨rfl,ae.2.2.1.out⟩
def ayw (A W:Dyadic)(p:Pr)(B:Nat)(w:World)(hA:Sm B A)(hB:B<=1000000)(hW:0<W)(hW1:1<=W)(Ab:Sm 40 W)(hp:(fy A W,-fy (-A) W)=p)(hT:aC w):
 Cv 67 #[.agg #[ag (az (dN A)),ah (nt (dN A).natAbs),af (dE A)],.agg #[ag (az (dN W)),ah (nt (dN W).natAbs),af (dE W)],af 20] w (.tuple #[pV p,af 0]):=by
 obtain⟨Q1,ya⟩:∃Q,fy A W=Q:=⟨_,rfl⟩;obtain⟨A2,tE⟩:∃X,-A=X:=⟨_,rfl⟩;obtain⟨Q2,zX⟩:∃Q,fy A2 W=Q:=⟨_,rfl⟩;obtain⟨Q3,Ug⟩:∃Q,-Q2=Q:=⟨_,rfl⟩;have TJ:Sm B A2:=by rw[<-tE];exact Sm.neg hA
 have adQ:Sm (B+21) Q2:=by rw[<-zX];exact Iq TJ hW1
 have h1:=λW2 (eO:aC W2)=>pq (az (dN A)) (nt (dN A).natAbs) (dE A) A (bF A) W2 (hA.ok zo) eO;have h2:=λW2 (eO:aC W2)=>pq (az (dN W)) (nt (dN W).natAbs) (dE W) W (bF W) W2 (Ab.ok zd) eO;have h3:=λW2 (eO:aC W2)=>abu A W Q1 B W2 hA hB hW Ab ya eO;have h4:=λW2 (eO:aC W2)=>Iw (az (dN A)) (nt (dN A).natAbs) (dE A) A2 (by show-au (canon A)=A2;rw[bF];exact tE) W2 (hA.ok zo) eO;have h5:=λW2 (eO:aC W2)=>abu A2 W Q2 B W2 TJ hB hW Ab zX eO;have h6:=λW2 (eO:aC W2)=>Iw (az (dN Q2)) (nt (dN Q2).natAbs) (dE Q2) Q3 (by show-au (canon Q2)=Q3;rw[bF];exact Ug) W2 (adQ.ok zo) eO;obtain⟨g,hg⟩:=aB (bg W);have hg0:(g==0)=false:=by
  have:¬g=0:=λh=>by rw[h]at hg;have:=(MQ W).1 hg;rw[this]at hW;grind
  simpa using this
 have h7:=λW2=>nR (az (dN W)) (nt (dN W).natAbs) (dE W) g (by show bg (au (canon W))=g;rw[bF];exact hg) W2 (Ab.ok zd);rw[ya,tE,zX,Ug]at hp;subst hp;obtain⟨H1,H2,H3,H4,H5,H6,H7,HT⟩:=jZ h1 h2 h3 h4 h5 h6 h7 hT;clear h1 h2 h3 h4 h5 h6 h7 hT ya tE zX Ug TJ adQ hA hB hW hW1 Ab hg;have Hb:=hbz w;go_enter Tryz.func67,Tryz.ntmps67;go_wp2_with fail;obtain⟨R,hR⟩:∃R:World->Prop,(λW1=>ar W1 (w.heap.size) 30 (bG A)/\ar W1 (w.heap.size+1) 30 (bG W)/\ar W1 (w.heap.size+1+1) 119 [ag false,.string ⟨#[]⟩,af 0,ag false,.string ⟨#[]⟩,af 0]/\Bw w W1)=R:=⟨_,rfl⟩;first|refine dA R ?hR ?_|refine dV R ?hR ?_
 case hR=>subst hR;exact⟨(((ar.newAt w _ _ (b:=w.heap.size) rfl).alloc _).alloc _),((ar.newAt (w.alloc _) _ _ (b:=w.heap.size+1) zm).alloc _),(ar.newAt ((w.alloc _).alloc _) _ _ (b:=w.heap.size+1+1) zm),((zl.alloc zj _).alloc zj _)⟩
 subst hR;rintro W1 ⟨qx,qy,qr,ai⟩;have Hx:=aj qx;clear qx;have Hy:=aj qy;clear qy;have Hr:=aj qr;clear qr;obtain⟨x0,gu,x1,gv,x2,iH⟩:=Hx.out.g3;obtain⟨y0,fA,y1,fB,y2,gQ⟩:=Hy.out.g3;obtain⟨r0,aO,r1,aQ,r2,dQ,r3,iG,r4,iR,r5,wB⟩:=Hr.out.g6;replace Hb:=aW Hb ai;go_upto_region 1 with fail
 refine fh (λw'=>aH w' (w.heap.size+1) 0 (ag (az (dN W)))/\aH w' (w.heap.size+1) 1 (ah (nt (dN W).natAbs))/\aH w' (w.heap.size+1) 2 (af (dE W))) (λi=>Nat.blt i 4) [(2,true),(0,false),(1,false),(3,false),(4,false),(5,false)] zk zk rfl zk zc ⟨y0,y1,y2⟩ ?_;refine pT rfl rfl ?_ (by intro w' ⟨q0,q1,q2⟩;go_simp;try with_reducible rfl);try simp only[UU]
 refine aM rfl rfl (λK hK=>?_);go_simp;refine hK _ _ (λ_=>⟨y0,y1,y2⟩) ?_;try simp only[UU]
 refine aM rfl rfl (λK hK=>?_);go_simp;with_reducible refine(H1.out _ (by first|exact(HT.out.below Hb.out) |exact aC.drew (HT.out.below Hb.out) |exact aC.alloc (HT.out.below Hb.out) _|exact aC.drew (aC.alloc (HT.out.below Hb.out) _) |exact aC.alloc (aC.drew (HT.out.below Hb.out)) _)).mono ?_
 rintro e w2 ⟨rfl,hq⟩;have ai:Bw W1 w2:=by first|exact hq|exact cu hq
 obtain⟨Hx,x0,gu,x1,gv,x2,iH⟩:=fP Hx ai;obtain⟨Hy,y0,fA,y1,fB,y2,gQ⟩:=fP Hy ai;replace Hr:=kB Hr ai;obtain⟨r0,aO,r1,aQ,r2,dQ,r3,iG,r4,iR,r5,wB⟩:=Hr.out.g6;replace Hb:=aW Hb ai;refine hK _ _ (λ_=>⟨y0,y1,y2⟩) ?_;try simp only[UU]
 refine aM rfl rfl (λK hK=>?_);go_simp;with_reducible refine(H2.out _ (by first|exact(HT.out.below Hb.out) |exact aC.drew (HT.out.below Hb.out) |exact aC.alloc (HT.out.below Hb.out) _|exact aC.drew (aC.alloc (HT.out.below Hb.out) _) |exact aC.alloc (aC.drew (HT.out.below Hb.out)) _)).mono ?_
 rintro e w3 ⟨rfl,hq⟩;have ai:Bw w2 w3:=by first|exact hq|exact cu hq
 obtain⟨Hx,x0,gu,x1,gv,x2,iH⟩:=fP Hx ai;obtain⟨Hy,y0,fA,y1,fB,y2,gQ⟩:=fP Hy ai;replace Hr:=kB Hr ai;obtain⟨r0,aO,r1,aQ,r2,dQ,r3,iG,r4,iR,r5,wB⟩:=Hr.out.g6;replace Hb:=aW Hb ai;refine hK _ _ (λ_=>⟨y0,y1,y2⟩) ?_;try simp only[UU]
 refine aM rfl rfl (λK hK=>?_);go_simp;refine hK _ _ (λh=>absurd h zd) ?_;try simp only[UU]
 refine cB (aV w3 (w.heap.size) 0 (bG A)) aX ?_;intro w4 hs;replace Hx:=jJ Hx hs;replace Hy:=kS Hy hs zo;replace Hr:=kS Hr hs zo;obtain⟨x0,gu,x1,gv,x2,iH⟩:=Hx.out.g3;obtain⟨y0,fA,y1,fB,y2,gQ⟩:=Hy.out.g3;obtain⟨r0,aO,r1,aQ,r2,dQ,r3,iG,r4,iR,r5,wB⟩:=Hr.out.g6;replace Hb:=bS Hb hs ZS;clear hs;refine aM rfl rfl (λK hK=>?_);go_simp;refine hK _ _ (λh=>absurd h zd) ?_;try simp only[UU]
 refine cB (aV w4 (w.heap.size+1) 0 (bG W)) aX ?_;intro w5 hs;replace Hx:=kS Hx hs zo;replace Hy:=jJ Hy hs;replace Hr:=kS Hr hs zo;obtain⟨x0,gu,x1,gv,x2,iH⟩:=Hx.out.g3;obtain⟨y0,fA,y1,fB,y2,gQ⟩:=Hy.out.g3;obtain⟨r0,aO,r1,aQ,r2,dQ,r3,iG,r4,iR,r5,wB⟩:=Hr.out.g6;replace Hb:=bS Hb hs ZS;clear hs;simp only[bH];go_wp2_with fail;refine(H7.out _).mono ?_;rintro e w6 ⟨rfl,ai⟩;obtain⟨Hx,x0,gu,x1,gv,x2,iH⟩:=fP Hx ai;obtain⟨Hy,y0,fA,y1,fB,y2,gQ⟩:=fP Hy ai;replace Hr:=kB Hr ai;obtain⟨r0,aO,r1,aQ,r2,dQ,r3,iG,r4,iR,r5,wB⟩:=Hr.out.g6;replace Hb:=aW Hb ai;go_upto_region 4 with fail
 refine fh (λw'=>aH w' (w.heap.size) 0 (ag (az (dN A)))/\aH w' (w.heap.size) 1 (ah (nt (dN A).natAbs))/\aH w' (w.heap.size) 2 (af (dE A))/\aH w' (w.heap.size+1) 0 (ag (az (dN W)))/\aH w' (w.heap.size+1) 1 (ah (nt (dN W).natAbs))/\aH w' (w.heap.size+1) 2 (af (dE W))) (λi=>Nat.blt i 11) [(0,true),(1,true),(2,true),(4,true),(6,true),(7,true),(3,false),(5,false),(8,false),(9,false),(10,true),(11,false),(12,false)] zk zk rfl zk zc ⟨x0,x1,x2,y0,y1,y2⟩ ?_;iterate 6 (refine pT rfl rfl ?_ (by intro w' ⟨q0,q1,q2,q3,q4,q5⟩;go_simp;try with_reducible rfl);try simp only[UU])
 refine aM rfl rfl (λK hK=>?_);go_simp;with_reducible refine(H3.out _ (by first|exact(HT.out.below Hb.out) |exact aC.drew (HT.out.below Hb.out) |exact aC.alloc (HT.out.below Hb.out) _|exact aC.drew (aC.alloc (HT.out.below Hb.out) _) |exact aC.alloc (aC.drew (HT.out.below Hb.out)) _)).mono ?_
 rintro e w7 ⟨rfl,hq⟩;have ai:Bw w6 w7:=by first|exact hq|exact cu hq
 obtain⟨Hx,x0,gu,x1,gv,x2,iH⟩:=fP Hx ai;obtain⟨Hy,y0,fA,y1,fB,y2,gQ⟩:=fP Hy ai;replace Hr:=kB Hr ai;obtain⟨r0,aO,r1,aQ,r2,dQ,r3,iG,r4,iR,r5,wB⟩:=Hr.out.g6;replace Hb:=aW Hb ai;refine hK _ _ (λ_=>⟨x0,x1,x2,y0,y1,y2⟩) ?_;try simp only[UU]
 refine aM rfl rfl (λK hK=>?_);go_simp;with_reducible refine(H4.out _ (by first|exact(HT.out.below Hb.out) |exact aC.drew (HT.out.below Hb.out) |exact aC.alloc (HT.out.below Hb.out) _|exact aC.drew (aC.alloc (HT.out.below Hb.out) _) |exact aC.alloc (aC.drew (HT.out.below Hb.out)) _)).mono ?_
 rintro e w8 ⟨rfl,hq⟩;have ai:Bw w7 w8:=by first|exact hq|exact cu hq
 obtain⟨Hx,x0,gu,x1,gv,x2,iH⟩:=fP Hx ai;obtain⟨Hy,y0,fA,y1,fB,y2,gQ⟩:=fP Hy ai;replace Hr:=kB Hr ai;obtain⟨r0,aO,r1,aQ,r2,dQ,r3,iG,r4,iR,r5,wB⟩:=Hr.out.g6;replace Hb:=aW Hb ai;refine hK _ _ (λ_=>⟨x0,x1,x2,y0,y1,y2⟩) ?_;try simp only[UU]
 refine aM rfl rfl (λK hK=>?_);go_simp;with_reducible refine(H5.out _ (by first|exact(HT.out.below Hb.out) |exact aC.drew (HT.out.below Hb.out) |exact aC.alloc (HT.out.below Hb.out) _|exact aC.drew (aC.alloc (HT.out.below Hb.out) _) |exact aC.alloc (aC.drew (HT.out.below Hb.out)) _)).mono ?_
 rintro e w9 ⟨rfl,hq⟩;have ai:Bw w8 w9:=by first|exact hq|exact cu hq
 obtain⟨Hx,x0,gu,x1,gv,x2,iH⟩:=fP Hx ai;obtain⟨Hy,y0,fA,y1,fB,y2,gQ⟩:=fP Hy ai;replace Hr:=kB Hr ai;obtain⟨r0,aO,r1,aQ,r2,dQ,r3,iG,r4,iR,r5,wB⟩:=Hr.out.g6;replace Hb:=aW Hb ai;refine hK _ _ (λ_=>⟨x0,x1,x2,y0,y1,y2⟩) ?_;try simp only[UU]
 refine aM rfl rfl (λK hK=>?_);go_simp;with_reducible refine(H6.out _ (by first|exact(HT.out.below Hb.out) |exact aC.drew (HT.out.below Hb.out) |exact aC.alloc (HT.out.below Hb.out) _|exact aC.drew (aC.alloc (HT.out.below Hb.out) _) |exact aC.alloc (aC.drew (HT.out.below Hb.out)) _)).mono ?_
 rintro e dw ⟨rfl,hq⟩;have ai:Bw w9 dw:=by first|exact hq|exact cu hq
 obtain⟨Hx,x0,gu,x1,gv,x2,iH⟩:=fP Hx ai;obtain⟨Hy,y0,fA,y1,fB,y2,gQ⟩:=fP Hy ai;replace Hr:=kB Hr ai;obtain⟨r0,aO,r1,aQ,r2,dQ,r3,iG,r4,iR,r5,wB⟩:=Hr.out.g6;replace Hb:=aW Hb ai;refine hK _ _ (λ_=>⟨x0,x1,x2,y0,y1,y2⟩) ?_;try simp only[UU]
 refine pT rfl rfl ?_;try simp only[UU]
 refine aM rfl rfl (λK hK=>?_);go_simp;refine hK _ _ (λh=>absurd h zd) ?_;try simp only[UU]
 refine cB (aV dw (w.heap.size+1+1) 0 [ag (az (dN Q1)),ah (nt (dN Q1).natAbs),af (dE Q1),ag (az (dN Q3)),ah (nt (dN Q3).natAbs),af (dE Q3)]) aX ?_;intro ir hs;replace Hx:=kS Hx hs zo;replace Hy:=kS Hy hs zo;replace Hr:=jJ Hr hs;obtain⟨x0,gu,x1,gv,x2,iH⟩:=Hx.out.g3;obtain⟨y0,fA,y1,fB,y2,gQ⟩:=Hy.out.g3;obtain⟨r0,aO,r1,aQ,r2,dQ,r3,iG,r4,iR,r5,wB⟩:=Hr.out.g6;replace Hb:=bS Hb hs ZS;clear hs;refine aM rfl rfl (λK hK=>?_);go_simp;refine hK _ _ (λh=>absurd h zd) ?_;try simp only[UU]
 simp only[bH];go_wp2;exact bodyPost_ret (v:=.tuple #[pV (Q1,Q3),af 0]) (by simp[results,Tryz.results67,go_sem,r0,r1,r2,r3,r4,r5,pV]) rfl ⟨rfl,Hb.out⟩
def ap3 {bx:List Pr}{k:Nat}(hk:k<bx.length)(h:0<=bg ((bx.getD k (0,0)).1-(bx.getD k (0,0)).2)):mM bx=5:=by
 unfold mM;have hn:bx≠[]:=by intro e;rw[e]at hk;simp at hk
 rw[if_neg hn,if_pos];rw[List.any_eq_true];exact⟨bx[k],List.getElem_mem hk,by simp[hk]at h;simpa using h⟩
def ap4 {bx:List Pr}(h:∀k,k<bx.length->¬0<=bg ((bx.getD k (0,0)).1-(bx.getD k (0,0)).2)):mM bx=if bx.length=0 then 1 else 0:=by
 unfold mM;by_cases hn:bx=[]
 . rw[if_pos hn,if_pos (by rw[hn];rfl)]
 . rw[if_neg hn,if_neg (λe=>hn (List.length_eq_zero_iff.1 e)),if_neg];rw[List.any_eq_true];rintro⟨p,hp,h2⟩;obtain⟨k,hk,rfl⟩:=List.mem_iff_getElem.1 hp;have:=h k hk;simp[hk]at this;simp at h2;omega
def abR {bx:List Pr}(h:mM bx=0):bx≠[]/\∀p∈bx,bg (p.1-p.2)<0:=by
 unfold mM at h;by_cases hn:bx=[]
 . rw[if_pos hn]at h;cases h
 . refine⟨hn,λp hp=>?_⟩;rw[if_neg hn]at h;split at h
   . cases h
   . rename_i h2
     have:=List.any_eq_false.1 (Bool.not_eq_true _▸h2) p hp;simp at this;omega
def jR (B:Nat)(bx:List (Raw×Raw)):Prop:=∀s∈bx,Fit B s.1/\Fit B s.2
def XJ {bx:List (Raw×Raw)}{k:Nat}(hk:k<bx.length):(bx.map cn).getD k (0,0)=(au bx[k].1,au bx[k].2):=by simp[hk,cn]
def SN (a:Option Addr)(L cap B:Nat)(bx:List (Raw×Raw))(w:World)(hL:bx.length=L)(hl:L<=1048576)(hf:jR B bx)(ha:At w a (bx.flatMap cK))(hT:aC w):
 Cv 25 #[.slice a L cap] w (af (mM (bx.map cn))):=by
 obtain⟨R,hR⟩:=aB (mM (bx.map cn));have hno:∀k (h:k<bx.length),0<=bg (au bx[k].1-au bx[k].2)->R=5:=λk hk h=>by rw[<-hR];exact ap3 (k:=k) (by simpa using hk) (by rw[XJ hk];exact h)
 have agQ:(∀k (h:k<bx.length),bg (au bx[k].1-au bx[k].2)<0)->R=if L=0 then 1 else 0:=λh=>by rw[<-hR,ap4 (λk hk=>by rw[XJ (by simpa using hk)];have:=h k (by simpa using hk);dsimp only;omega),List.length_map,hL]
 rw[hR];obtain⟨Hno,anX,Ha,HT,HL,Hf⟩:=gU hno agQ ha hT hL hf;clear hno agQ ha hT hL hf hR;have Hb:=hbz w;go_enter Tryz.func25,Tryz.ntmps25;go_wp2_with fail;go_loopw[7] (λx wr=>∃k:Nat,k<=L/\x=af (k:Int)/\(∀j (h:j<bx.length),j<k->bg (au bx[j].1-au bx[j].2)<0)/\Bw w wr) (λx _=>L-(intOf x).toNat);case atStart=>exact⟨0,Nat.zero_le _,rfl,λj _ h=>absurd h (Nat.not_lt_zero _),Hb.out⟩
 case round=>
  clear Hb;obtain⟨k,hk,rfl,hall,pb⟩:=hrel;by_cases hlt:k<L
  . have ic:k<bx.length:=by rw[HL.out];exact hlt
    obtain⟨s,m,e,t,n,f,hx⟩:∃s m e t n f,bx[k]=((s,m,e),(t,n,f)):=⟨_,_,_,_,_,_,rfl⟩;obtain⟨b,o,hab,hp⟩:=(Ha.out.below pb).spn k ic hx;have bD:=EU L cap k (k:Int) hab hlt rfl;have mX:=Hf.out _ (List.getElem_mem ic);rw[hx]at mX;obtain⟨c,hc⟩:=aB (bg (au (s,m,e)-au (t,n,f)));have dm:bg (au bx[k].1-au bx[k].2)=c:=by rw[hx];exact hc
    obtain⟨Hp,Hc,kH,H1,H2,sX,Hb⟩:=jL hp hc dm mX.1.1 mX.2.1 hall pb;clear hp hc dm mX hall pb hab hx;obtain⟨ae,ak⟩:=qZ (Hp.an trivial);obtain⟨W4,kV,aR,ae,ak⟩:=bX wr (Hb.an ae) 119 [ag s,ah m,af e,ag t,ah n,af f];go_wp2_with fail;refine aJ ae (wu s m e t n f c Hc.out _ H1.out H2.out (HT.out.below ae.2.1.out)) λw5 ae ak=>?_;skip
    by_cases hc0:0<=c
    . obtain rfl:=Hno.out k ic (by rw[kH.out];exact hc0);go_wp2;refine bodyPost_ret (results_tmp rfl _ _ _) rfl ⟨rfl,ae.2.1.out⟩
    . go_wp2;go_roundw;case rel=>
       refine⟨k+1,by omega,by go_num,λj h hj=>?_,ae.2.1.out⟩;by_cases hjk:j=k
       . subst hjk;rw[kH.out];omega
       . exact sX.out j h zo
      case measure=>exact bC
  . obtain rfl:k=L:=by omega
    have hR:=anX.out (λj h=>hall j h (by rw[<-HL.out];exact h));have Hb:=aj pb;clear pb hall;by_cases h0:k=0
    . subst h0;rw[if_pos rfl]at hR;subst hR;go_wp2;refine bodyPost_ret (results_tmp rfl _ _ _) rfl ⟨rfl,Hb.out⟩
    . rw[if_neg h0]at hR;subst hR;have h1:((k:Int)==0)=false:=by simpa using h0
      go_wp2;refine bodyPost_ret (results_tmp rfl _ _ _) rfl ⟨rfl,Hb.out⟩
def Tryz.aGx :(Tryz.prog.info? 119).map (λi=>(i.zero,i.size,i.bytes))=some (some (.agg #[ag false,.string (bs []),af 0,ag false,.string (bs []),af 0]),6,64):=by kernel_rfl
def pU (s:Raw×Raw):Raw×Raw:=fg (iZ (cn s))
def azz (bx:List (Raw×Raw))(k:Nat)(hk:k<bx.length):((bx.map pU).take (k+1)).flatMap cK=((bx.map pU).take k).flatMap cK++cK (pU bx[k]):=by rw[List.take_succ_eq_append_getElem (by simpa using hk),List.flatMap_append];simp
def apq (a:Option Addr)(L cap B:Nat)(bx:List (Raw×Raw))(w:World)(hL:bx.length=L)(hl:L<=1000)(hf:jR B bx)(ha:At w a (bx.flatMap cK))(hT:aC w):
 Cl 167 #[.slice a L cap] w λe w'=>∃a' c',e=.returned (.slice a' L c')/\At w' a' ((bx.map pU).flatMap cK)/\Bw w w':=by
 obtain⟨i0,hi,hz0,hz1,hz2⟩:=info_parts Tryz.aGx;obtain⟨Hi,eu,ey,dM,Ha,HT,HL,Hf⟩:=jZ hi hz0 hz1 hz2 ha hT hL hf;clear hi hz0 hz1 hz2 ha hT hL hf;have Hb:=hbz w;go_enter Tryz.func167,Tryz.ntmps167;go_wp2_with fail;go_loopw[3,8] (λs3 x wr=>∃(k:Nat) (v:Value),k<=L/\x=af (k:Int)/\v=s3/\wr.ownsRow w.heap.size 119 6 v k (((bx.map pU).take k).flatMap cK)/\Bw w wr) (λ_ x _=>L-(intOf x).toNat);case atStart=>exact⟨0,_,Nat.zero_le _,rfl,rfl,World.ownsRow_nil _ _ _ _,Hb.out⟩
 case round=>
  clear Hb;obtain⟨k,v,hk,rfl,rfl,pv,pb⟩:=hrel;by_cases hlt:k<L
  . have ic:k<bx.length:=by rw[HL.out];exact hlt
    obtain⟨s,m,e,t,n,f,hx⟩:∃s m e t n f,bx[k]=((s,m,e),(t,n,f)):=⟨_,_,_,_,_,_,rfl⟩;obtain⟨b,o,hab,hp⟩:=(Ha.out.below pb).spn k ic hx;have bD:=EU L cap k (k:Int) hab hlt rfl;have mX:=Hf.out _ (List.getElem_mem ic);rw[hx]at mX;obtain⟨⟨y1,y2⟩,hq⟩:∃p,iZ (au (s,m,e),au (t,n,f))=p:=⟨_,rfl⟩;have hst:=azz bx k ic;rw[hx,show pU ((s,m,e),(t,n,f))=(canon y1,canon y2)from by unfold pU cn;rw[hq];rfl]at hst;have JV:((bx.map pU).take (k+1)).flatMap cK=((bx.map pU).take k).flatMap cK++[ag (az (dN y1)),ah (nt (dN y1).natAbs),af (dE y1),ag (az (dN y2)),ah (nt (dN y2).natAbs),af (dE y2)]:=hst;obtain⟨Hp,Hq,H1,H2,ft,gX,bR⟩:=jL hp hq mX.1.1 mX.2.1 pb pv JV;have sz0:=pb.size;clear hp hq mX pb hab hx hst JV pv;have Hb:=hbz wr;obtain⟨ae,ak⟩:=qZ (Hp.an trivial);obtain⟨W4,kV,aR,ae,ak⟩:=bX wr (Hb.an ae) 119 [ag s,ah m,af e,ag t,ah n,af f];go_wp2_with fail;refine aJ ae (azA s m e t n f (y1,y2) Hq.out _ H1.out H2.out (HT.out.below (aI ft.out ae.2.1.out))) λw5 ae ak=>?_;obtain⟨W6,pu,aR,ae,ak⟩:=bX w5 ae 119 [ag (az (dN y1)),ah (nt (dN y1).natAbs),af (dE y1),ag (az (dN y2)),ah (nt (dN y2).natAbs),af (dE y2)];have bW:=ownsRow_below gX.out ae.2.2.1.out;have jq:=ae.2.2.1.out.size;have hnews:=ji ae.1.out;skip
    go_wp2_with (at_builtin;refine wpList_append_own_at _ rfl _ _ 58 rfl w.heap.size 119 i0 _ 6 64 Tryz.underlying58 Hi.out eu.out ey.out dM.out rfl zd v k (((bx.map pU).take k).flatMap cK) rfl bW ⟨w5.heap.size,0,none⟩ 1 1 [ag (az (dN y1)),ah (nt (dN y1).natAbs),af (dE y1),ag (az (dN y2)),ah (nt (dN y2).natAbs),af (dE y2)] rfl rfl hnews zy zx zo zo ?_;intro v' w7 eQ fL _ _;obtain⟨g',rp,rfl⟩:=ownsRow_succ eQ);go_roundw;case rel=>
     refine⟨k+1,_,by omega,by go_num,rfl,?_,?_⟩
     . rw[bR.out];exact eQ
     . exact(aI ft.out ae.2.2.1.out).grown fL zo (λj e=>eo bW j e)
    case measure=>exact bC
  . obtain rfl:k=L:=by omega
    rw[List.take_of_length_le (by rw[List.length_map,HL.out];exact Nat.le_refl _)]at pv;obtain⟨a2,c2,rfl,hat,_⟩:=dZ pv;obtain⟨Hb,dL⟩:=aK pb hat;clear pb pv hat;go_wp2;refine bodyPost_ret (results_tmp rfl _ _ _) rfl ⟨a2,c2,rfl,dL.out,Hb.out⟩
def awn (c:Int)(n:Nat)(hc:c=n)(h:n<=1048576)(w:World):
 (Instr.makeSlice 58 (af c) (af c)).run Tryz.prog w=.ok (.slice (some ⟨w.heap.size,0,none⟩) n n) (w.alloc (.cells (madeCells (Value.agg #[ag false,.string (bs []),af 0,ag false,.string (bs []),af 0]).cells (n*6)) 119)):=by
 subst hc;obtain⟨i0,hi,hz0,hz1,hz2⟩:=info_parts Tryz.aGx;rw[run_make (P:=Tryz.prog) w 58 119 i0 _ Tryz.underlying58 hi hz0 .i64 .i64 n n zo zo (by rw[hz2];omega) zo];simp only[Int.toNat_natCast,hz1]
def aqz (w:World)(L:Nat)(ad:Addr)(cap:Nat)(bx:List (Raw×Raw))(cur:Array Value)(Ez:cur.size=L*6)(hL:bx.length=L)(hat:At w (some ad) (bx.flatMap cK))(ty:TypeId):
 (Builtin.copy_ #[58,58] ty #[.slice (some ⟨w.heap.size,0,none⟩) L L,.slice (some ad) L cap]).run Tryz.prog (w.alloc (.cells cur 119))=
  .ok (af (L:Int)) (w.alloc (.cells (bx.flatMap cK).toArray 119)):=by
 obtain⟨i0,hi,hz0,hz1,hz2⟩:=info_parts Tryz.aGx;obtain⟨cs,hcs⟩:=aB (bx.flatMap cK);have hlen:cs.length=L*6:=by rw[<-hcs,XI,hL]
 rw[hcs]at hat⊢;have hsrc:∀j v,cs[j]?=some v->(w.alloc (.cells cur 119)).cell? (ad.add j)=some v:=λj v hj=>by
  rcases hat with h0|⟨b,o,e',hc⟩
  . subst h0;simp at hj
  . simp only[Option.some.injEq]at e';subst e';have hjl:=(List.getElem?_eq_some_iff.1 hj).1;have e2:((⟨b,o,none⟩:Addr).add j)=⟨b,o+j,none⟩:=by unfold Addr.add;cases j<;>simp
    rw[e2];exact aU (by rw[hc j hjl];exact hj)
 have hl:=run_loadCells_list (P:=Tryz.prog) (w.alloc (.cells cur 119)) ad cs hsrc;have hst:=run_storeCells_at (P:=Tryz.prog) w.heap.size 0 119 cs 0 cur _ (heap_alloc_new w _) zo (by rw[<-hcs];exact azx bx);have e:(List.take (0+0) cur.toList++cs++List.drop (0+0+cs.length) cur.toList)=cs:=by rw[List.drop_eq_nil_of_le zi];simp
 rw[e,World.setRow_alloc_new]at hst;rw[hlen]at hl;have hmin:Nat.min L L=L:=Nat.min_self L;simp[Builtin.copy_,run_underlying Tryz.underlying58,Builtin.lenOf,Builtin.firstCells,sizeOf,typeInfo,hi,hz1,hmin,hl,hst,goInt]
def azy (bx:List (Raw×Raw))(i:Nat)(s t:Bool)(m n:List UInt8)(e f:Int):((((((bx.flatMap cK).set (i*6) (ag s)).set (i*6+1) (ah m)).set (i*6+2) (af e)).set (i*6+3) (ag t)).set (i*6+4) (ah n)).set (i*6+5) (af f)=(bx.set i ((s,m,e),(t,n,f))).flatMap cK:=by
 induction bx generalizing i with
 |nil=>simp
 | cons x bx ih=>
   obtain⟨⟨s',m',e'⟩,t',n',f'⟩:=x;have h:∀(y:Raw×Raw) zs,(y::zs).flatMap cK=ag y.1.1::ah y.1.2.1::af y.1.2.2::ag y.2.1::ah y.2.2.1::af y.2.2.2::zs.flatMap cK:=λy zs=>rfl;cases i with
   |zero=>rw[h];rfl
   |succ i=>rw[List.set_cons_succ,h,h,<-ih i,show(i+1) *6=i*6+1+1+1+1+1+1 by omega];rfl
def BM {w:World}{b:Nat}{t:TypeId}{cs:List Value}(h:ar w b t cs)(j:Nat)(hj:j<cs.length):w.cell? ⟨b,j,none⟩=some cs[j]/\w.frozen? ⟨b,j,none⟩=false:=⟨by rw[h.cell];exact List.getElem?_eq_getElem hj,h.free j⟩
def abA (ad:Addr)(L cap:Nat)(bx:List (Raw×Raw))(i:Nat)(s:Bool)(l:List UInt8)(e:Int)(t:Bool)(m:List UInt8)(f:Int)(w:World)(hL:bx.length=L)(hl:L<=1000)(hi:i<L)(ha:At w (some ad) (bx.flatMap cK))(base:Nat)(hbase:base<=w.heap.size):
 Cl 235 #[.slice (some ad) L cap,af (i:Int),.agg #[ag s,ah l,af e,ag t,ah m,af f]] w λe' w'=>∃g,e'=.returned (.slice (some ⟨g,0,none⟩) L L)/\base<=g/\ar w' g 119 ((bx.set i ((s,l,e),(t,m,f))).flatMap cK)/\Bw w w':=by
 have hmk:=awn (L:Int) L rfl zo;have vd:∀(W:World) (hW:Bw w W) (ty:TypeId),(Builtin.copy_ #[58,58] ty #[.slice (some ⟨W.heap.size,0,none⟩) L L,.slice (some ad) L cap]).run Tryz.prog (W.alloc (.cells (madeCells #[ag false,.string (bs []),af 0,ag false,.string (bs []),af 0] (L*6)) 119))=.ok (af (L:Int)) (W.alloc (.cells (bx.flatMap cK).toArray 119)):=
  λW hW ty=>aqz W L ad cap bx _ (size_madeCells _ _) hL (ha.below hW) ty
 have lW:=azy bx i s t l m e f;have hlen:=XI bx;rw[hL]at hlen;obtain⟨cs,hcs⟩:=aB (bx.flatMap cK);rw[hcs]at lW hlen;simp only[hcs]at vd;obtain⟨QD,GZ⟩:=aK vd lW;clear vd lW hcs ha hL;obtain⟨W,cE,ae,ak⟩:=il w 119 [ag s,ah l,af e,ag t,ah m,af f];go_enter Tryz.func235,Tryz.ntmps235;have hcw:=QD.out W ae.1.out;have dY:=ae.1.out;have bD:=EU L L i (i:Int) (rfl:(some ⟨W.heap.size,0,none⟩:Option Addr)=_) hi rfl;rw[Nat.zero_add]at bD;go_upto_region 2 with fail
 go_cut[7] (λs7 wx=>s7=.slice (some ⟨W.heap.size,0,none⟩) L L/\ar wx W.heap.size 119 cs/\ar wx w.heap.size 119 [ag s,ah l,af e,ag t,ah m,af f]/\Bw w wx);case first=>go_wp2_with fail;go_meet;exact⟨rfl,ar.new W _ cs,ae.2.1.out.alloc _,ae.1.out.alloc (by have:=ae.1.out.size;omega) _⟩
 case rest=>
  obtain⟨rfl,hv,hx,hb⟩:=hcut;have hsz:=ae.2.1.out.lt;obtain⟨Hv,Hx,Hb⟩:=cw hv hx hb;obtain⟨v,hvv⟩:=aB W.heap.size;have Kc:=hb.size;have EQ:w.heap.size<=v:=by have:=dY.size;omega
  rw[hvv]at Hv bD⊢;clear hv hx hb hmk hcw;have l0:i*6+5<cs.length:=by omega
  obtain⟨ae,ak⟩:=qZ (Hx.an trivial);obtain⟨v0,k0⟩:=BM Hv.out (i*6) zo;obtain⟨v1,k1⟩:=BM Hv.out (i*6+1) zo;obtain⟨v2,k2⟩:=BM Hv.out (i*6+2) zo;obtain⟨v3,k3⟩:=BM Hv.out (i*6+3) zo;obtain⟨v4,k4⟩:=BM Hv.out (i*6+4) zo;obtain⟨v5,k5⟩:=BM Hv.out (i*6+5) zo;go_wp2;refine dX (λw9=>ar w9 v 119 ((((((cs.set (i*6) (ag s)).set (i*6+1) (ah l)).set (i*6+2) (af e)).set (i*6+3) (ag t)).set (i*6+4) (ah m)).set (i*6+5) (af f))/\Bw w w9) ⟨((((((Hv.out.set (i*6) _).set (i*6+1) _).set (i*6+2) _).set (i*6+3) _).set (i*6+4) _).set (i*6+5) _),((((((Hb.out.sc v (i*6) EQ _).sc v (i*6+1) EQ _).sc v (i*6+2) EQ _).sc v (i*6+3) EQ _).sc v (i*6+4) EQ _).sc v (i*6+5) EQ _)⟩ ?_;rintro w9 ⟨sH,ku⟩;rw[GZ.out]at sH;refine bodyPost_ret (results_tmp rfl _ _ _) rfl ⟨v,rfl,by omega,sH,ku⟩
def jR.smP {B:Nat}{bx:List (Raw×Raw)}(h:jR B bx):uF B (bx.map cn):=λp hp=>by obtain⟨s,hs,rfl⟩:=List.mem_map.1 hp;exact⟨(h s hs).1.2,(h s hs).2.2⟩
def jR.of {B:Nat}{bx:List Pr}(h:uF B bx)(hB:B<=268435456):jR B (bx.map fg):=λs hs=>by obtain⟨p,hp,rfl⟩:=List.mem_map.1 hs;exact⟨(h p hp).1.fit hB,(h p hp).2.fit hB⟩
def apv (a:Option Addr)(L cap B:Nat)(bx:List (Raw×Raw))(w:World)(hL:bx.length=L)(h1:1<=L)(hl:L<=1000)(hf:jR B bx)(hB:B<=1000000)(ha:At w a (bx.flatMap cK))(hT:aC w):
 Cv 169 #[.slice a L cap] w (af (xo (bx.map cn):Int)):=by
 obtain⟨F,hF⟩:∃F:Nat->Dyadic,(λi=>xn ((bx.map cn).getD i (0,0)))=F:=⟨_,rfl⟩;have hFk:∀k (h:k<bx.length),F k=xn (au bx[k].1,au bx[k].2):=λk hk=>by rw[<-hF];simp only[XJ hk]
 have Ca:∀k,Sm (B+1) (F k):=λk=>by rw[<-hF];exact aBm (hf.smP.get k)
 have hW:xo (bx.map cn)=jh F L:=by unfold xo;rw[hF,List.length_map,hL]
 have hlt:∀k,1<=k->jh F k<k:=λk hk=>(abv F k hk).1;have hst:∀k,jh F (k+1)=if 0<bg (F k-F (jh F k))then k else jh F k:=λk=>rfl
 rw[hW];obtain⟨Ha,HT,HL,Hf,Gb,Ll,tj,bR⟩:=jZ ha hT hL hf hFk Ca hlt hst;clear ha hT hL hf hFk Ca hlt hst hW hF;obtain⟨MA,aey⟩:∃f:Nat->Nat,jh F=f:=⟨_,rfl⟩;rw[aey]at tj bR⊢;clear aey;have Hb:=hbz w;go_enter Tryz.func169,Tryz.ntmps169;go_wp2_with fail;go_loopw[3,8] (λs3 x wr=>∃k:Nat,k<=L/\x=af (k:Int)/\s3=af (if k=0 then-1 else(MA k:Int))/\Bw w wr) (λ_ x _=>L-(intOf x).toNat);case atStart=>exact⟨0,Nat.zero_le _,rfl,rfl,Hb.out⟩
 case round=>
  clear Hb;obtain⟨k,hk,rfl,rfl,pb⟩:=hrel;by_cases hlt:k<L
  . have ic:k<bx.length:=by rw[HL.out];exact hlt
    obtain⟨s,m,e,t,n,f,hx⟩:∃s m e t n f,bx[k]=((s,m,e),(t,n,f)):=⟨_,_,_,_,_,_,rfl⟩;obtain⟨b,o,hab,hp⟩:=(Ha.out.below pb).spn k ic hx;have bD:=EU L cap k (k:Int) hab hlt rfl;have mX:=Hf.out _ (List.getElem_mem ic);have hwk:=Gb.out k ic;rw[hx]at mX hwk;by_cases fN:k=0
    . have e1:MA (k+1)=k:=by rw[fN];have:=tj.out 1 zo;show MA 1=0;omega
      rw[if_pos fN];obtain⟨Hp,Hb,QN⟩:=cw hp pb e1;clear hp pb hab hx mX hwk e1 fN;obtain⟨ae,ak⟩:=qZ (Hp.an trivial);obtain⟨W4,kV,aR,ae,ak⟩:=bX wr (Hb.an ae) 119 [ag s,ah m,af e,ag t,ah n,af f];go_wp2_with fail;refine fT 999 ae (fH 13 0x1917141208110f0d0b07050301) ?_;refine cG ?_;refine fR ae λak=>?_;go_wp2;go_roundw;case rel=>exact⟨k+1,by omega,by go_num,by simp[QN.out],ae.2.1.out.drew⟩
      case measure=>exact bC
    . obtain⟨j,hj⟩:=aB (MA k);have hjk:j<k:=by rw[<-hj];exact tj.out k zo
      have tT:j<bx.length:=by omega
      have Jr:j<L:=by omega
      obtain⟨s',m',e',t',n',f',hx'⟩:∃s m e t n f,bx[j]=((s,m,e),(t,n,f)):=⟨_,_,_,_,_,_,rfl⟩;obtain⟨b',o',nY,hp'⟩:=(Ha.out.below pb).spn j tT hx';obtain⟨rfl,rfl⟩:b'=b/\o'=o:=by rw[hab]at nY;simp at nY;exact⟨nY.1.symm,nY.2.symm⟩
      have aDW:=EU L cap j (j:Int) hab Jr rfl;have Ve:=Hf.out _ (List.getElem_mem tT);have ng:=Gb.out j tT;rw[hx']at Ve ng;have hsk:=bR.out k;rw[hj]at hsk;obtain⟨X,hX⟩:=aB (F k);obtain⟨Y,hY⟩:=aB (F j);have fK:=Ll.out k;have lS:=Ll.out j;rw[hX]at hwk hsk fK;rw[hY]at ng hsk lS;obtain⟨c,hc⟩:=aB (bg (X-Y));rw[hc]at hsk;have Jl:bg (au (bE X)-au (bE Y))=c:=by
       show bg (au (canon X)-au (canon Y))=c
       rw[bF,bF];exact hc
      have hif:(if k=0 then(-1:Int)else(j:Int))=(j:Int):=if_neg fN;have Vh:¬(j:Int)<0:=by omega
      have og:decide ((j:Int)<0)=false:=by simp
      obtain⟨Hp,Hq,Hb,ZR,ZQ,DW,Sk,ze,LK⟩:=CG hp hp' pb mX Ve hwk.symm ng.symm hsk Jl;have Lv:Hid (Ok (bE X)):=(fK.fit zo).1;have HY1:Hid (Ok (bE Y)):=(lS.fit zo).1;have Br:=aj fN;rw[hj,hif];clear hp hp' pb hab nY hx hx' mX Ve hwk ng hsk Jl fK lS hc hX hY hj hif fN;obtain⟨ae,ak⟩:=qZ (Hp.an<|Hq.an trivial);obtain⟨W4,kV,aR,ae,ak⟩:=bX wr (Hb.an ae) 119 [ag s,ah m,af e,ag t,ah n,af f];go_wp2_with fail;refine fT 999 ae (fH 13 0x1917141208110f0d0b07050301) ?_;refine cG ?_;refine cV ae (XK s m e t n f B X DW.out _ ZR.out.1 ZR.out.2 zo (qU (HT.out.below ae.2.1.out))) λw5 ae=>?_;refine cV ae (XK s' m' e' t' n' f' B Y Sk.out _ ZQ.out.1 ZQ.out.2 zo (qU (HT.out.below ae.2.1.out))) λw6 ae=>?_;refine cV ae (wu _ _ _ _ _ _ c LK.out _ Lv.out HY1.out (qU (HT.out.below ae.2.1.out))) λw7 ae=>?_;refine cG ?_;refine fR ae λak=>?_;skip
      by_cases hc0:0<c
      . go_wp2;go_roundw;case rel=>exact⟨k+1,by omega,by go_num,by rw[if_neg zo,ze.out,if_pos hc0],ae.2.1.out⟩
        case measure=>exact bC
      . go_wp2;go_roundw;case rel=>exact⟨k+1,by omega,by go_num,by rw[if_neg zo,ze.out,if_neg hc0],ae.2.1.out⟩
        case measure=>exact bC
  . obtain rfl:k=L:=by omega
    have Hb:=aj pb;rw[if_neg zo];clear pb;go_wp2;refine bodyPost_ret (results_tmp rfl _ _ _) rfl ⟨rfl,Hb.out⟩
def aby (s:Bool)(l:List UInt8)(e:Int)(t:Bool)(m:List UInt8)(f:Int)(u:Bool)(o:List UInt8)(g:Int)(up:Bool)(w:World):
 Cl 236 #[.agg #[ag s,ah l,af e,ag t,ah m,af f,ag u,ah o,af g],ag up] w λe' w'=>e'=.returned (.agg (if up then #[ag u,ah o,af g,ag t,ah m,af f]else #[ag s,ah l,af e,ag u,ah o,af g]))/\Bw w w':=by
 obtain⟨W,cE,ae,ak⟩:=lA w 266 [ag s,ah l,af e,ag t,ah m,af f,ag u,ah o,af g] 119 [ag false,.string ⟨#[]⟩,af 0,ag false,.string ⟨#[]⟩,af 0];go_enter Tryz.func236,Tryz.ntmps236;cases up with
 |true=>go_wp2;refine dX (aV W (w.heap.size+1) 0 [ag u,ah o,af g,ag t,ah m,af f]) aX ?_;intro w9 hs0;have ae:=bU hs0 ae;simp only[bV,List.set]at ae;have ak:=qC ae;refine bodyPost_ret (v:=.agg #[ag u,ah o,af g,ag t,ah m,af f]) (by simp[results,Tryz.results236,go_sem,ak]) rfl ⟨rfl,ae.1.out⟩
 |false=>go_wp2;refine dX (aV W (w.heap.size+1) 0 [ag s,ah l,af e,ag u,ah o,af g]) aX ?_;intro w9 hs0;have ae:=bU hs0 ae;simp only[bV,List.set]at ae;have ak:=qC ae;refine bodyPost_ret (v:=.agg #[ag s,ah l,af e,ag u,ah o,af g]) (by simp[results,Tryz.results236,go_sem,ak]) rfl ⟨rfl,ae.1.out⟩
def aps (s:Bool)(l:List UInt8)(e:Int)(t:Bool)(m:List UInt8)(f:Int)(u:Bool)(o:List UInt8)(g:Int)(w:World):
 Cl 236 #[.agg #[ag s,ah l,af e,ag t,ah m,af f,ag u,ah o,af g],ag false] w λe' w'=>e'=.returned (.agg #[ag s,ah l,af e,ag u,ah o,af g])/\Bw w w':=by
 have h:=aby s l e t m f u o g false w;rwa [if_neg zd]at h
def apr (s:Bool)(l:List UInt8)(e:Int)(t:Bool)(m:List UInt8)(f:Int)(u:Bool)(o:List UInt8)(g:Int)(w:World):
 Cl 236 #[.agg #[ag s,ah l,af e,ag t,ah m,af f,ag u,ah o,af g],ag true] w λe' w'=>e'=.returned (.agg #[ag u,ah o,af g,ag t,ah m,af f])/\Bw w w':=by
 have h:=aby s l e t m f u o g true w;rwa [if_pos rfl]at h
def atj (bx:List (Raw×Raw))(i:Nat)(hi:i<bx.length)(y1 y2 X:Dyadic)(hy:iZ (cn bx[i])=(y1,y2))(hX:sM (y1,y2)=X):
 (tK (bx.map cn) i false).map fg=(bx.map pU).set i (canon y1,canon X)/\(tK (bx.map cn) i true).map fg=(bx.map pU).set i (canon X,canon y2):=by
 have hg:(bx.map cn).getD i (0,0)=cn bx[i]:=by simp[hi]
 have hm:sM (cn bx[i])=X:=by rw[<-awb,hy,hX]
 have e0:((bx.map cn).map iZ).map fg=bx.map pU:=by rw[List.map_map,List.map_map];rfl
 unfold tK;rw[hg,hy,hm];constructor
 . rw[if_neg zd,List.map_set,e0];rfl
 . rw[if_pos rfl,List.map_set,e0];rfl
def apt (a:Option Addr)(L cap B:Nat)(bx:List (Raw×Raw))(i:Nat)(w:World)(hL:bx.length=L)(hi:i<L)(hl:L<=1000)(hf:jR B bx)(hB:B<=1000000)(ha:At w a (bx.flatMap cK))(hT:aC w):
 Cl 170 #[.slice a L cap,af (i:Int)] w λe w'=>∃g1 g2,e=.returned (.tuple #[.slice (some ⟨g1,0,none⟩) L L,.slice (some ⟨g2,0,none⟩) L L,af 0])/\w.heap.size<=g1/\w.heap.size<=g2/\ar w' g1 119 (((tK (bx.map cn) i false).map fg).flatMap cK)/\ar w' g2 119 (((tK (bx.map cn) i true).map fg).flatMap cK)/\Bw w w':=by
 have tQ:i<bx.length:=by omega
 obtain⟨⟨y1,y2⟩,hy⟩:∃p,iZ (cn bx[i])=p:=⟨_,rfl⟩;obtain⟨X,hX⟩:=aB (sM (y1,y2));obtain⟨jX,hm2⟩:=atj bx i tQ y1 y2 X hy hX;have VM:Sm B y1/\Sm B y2:=by have:=AU (p:=cn bx[i]) ⟨(hf _ (List.getElem_mem tQ)).1.2,(hf _ (List.getElem_mem tQ)).2.2⟩;rwa [hy]at this
 have hmid:sM (au (bE y1),au (bE y2))=X:=by
  show sM (au (canon y1),au (canon y2))=X
  rw[bF,bF];exact hX
 have hF1:Fit B (bE y1):=VM.1.fit zo;have hF2:Fit B (bE y2):=VM.2.fit zo;have hfo:=λW (hW:Bw w W)=>apq a L cap B bx W hL hl hf (ha.below hW) (hT.below hW);obtain⟨G,hG⟩:=aB (bx.map pU);have hGL:G.length=L:=by rw[<-hG,List.length_map,hL]
 have IR:∃h:i<G.length,G[i]=((bE y1),(bE y2)):=by subst hG;refine⟨by simpa using tQ,?_⟩;rw[List.getElem_map];unfold pU;rw[hy];rfl
 rw[hG]at jX hm2;simp only[hG]at hfo;rw[jX,hm2];obtain⟨QY,HT,YV,HGi,amu,Qc,Lj⟩:=jL hfo hT hGL IR hmid hF1 hF2;clear hfo hT hGL IR hmid hF1 hF2 jX hm2 hy hX VM hf ha hL hG tQ;have hi0:¬((L:Int)<=(i:Int)):=by omega
 have Hb:=hbz w;go_enter Tryz.func170,Tryz.ntmps170;go_wp2_with fail;refine(QY.out _ Hb.out).mono ?_;rintro e w1 ⟨a',c',rfl,hat,ai⟩;replace Hb:=aj (aI Hb.out ai);obtain⟨hiG,IR⟩:=HGi.out;obtain⟨b,o,rfl,hp⟩:=hat.spn i hiG IR;have bD:=EU L c' i (i:Int) (rfl:(some ⟨b,o,none⟩:Option Addr)=_) hi rfl;obtain⟨Hp,dL⟩:=aK hp hat;clear hp hat ai IR;have cj:=Hb;clear Hb;have Hb:=hbz w1;have dD:=aj (HT.out.below cj.out);go_upto_region 4 with fail
 go_cut[7] (λs7 wx=>∃g:Nat,s7=.pointer (some ⟨g,0,none⟩)/\w1.heap.size<=g/\ar wx g 266 [ag (az (dN y1)),ah (nt (dN y1).natAbs),af (dE y1),ag (az (dN y2)),ah (nt (dN y2).natAbs),af (dE y2),ag (az (dN X)),ah (nt (dN X).natAbs),af (dE X)]/\Bw w1 wx);case first=>
  obtain⟨ae,ak⟩:=qZ (Hp.an trivial);obtain⟨Hp,_⟩:=ae;have p0:w1.cell? ⟨b,o+i*6,none⟩=some (ag (az (dN y1))):=Hp.out.cell 0 zm;have p1:w1.cell? ⟨b,o+i*6+1,none⟩=some (ah (nt (dN y1).natAbs)):=Hp.out.cell 1 zm;have p2:w1.cell? ⟨b,o+i*6+2,none⟩=some (af (dE y1)):=Hp.out.cell 2 zm;have p3:w1.cell? ⟨b,o+i*6+3,none⟩=some (ag (az (dN y2))):=Hp.out.cell 3 zm;have p4:w1.cell? ⟨b,o+i*6+4,none⟩=some (ah (nt (dN y2).natAbs)):=Hp.out.cell 4 zm;have p5:w1.cell? ⟨b,o+i*6+5,none⟩=some (af (dE y2)):=Hp.out.cell 5 zm;have gJ:∀w',ez w1 w'->aH w' b (o+i*6) (ag (az (dN y1)))/\aH w' b (o+i*6+1) (ah (nt (dN y1).natAbs))/\aH w' b (o+i*6+2) (af (dE y1))/\aH w' b (o+i*6+3) (ag (az (dN y2)))/\aH w' b (o+i*6+4) (ah (nt (dN y2).natAbs))/\aH w' b (o+i*6+5) (af (dE y2)):=λw' h=>⟨cell_later h p0,cell_later h p1,cell_later h p2,cell_later h p3,cell_later h p4,cell_later h p5⟩;refine Bd (λw'=>ez w1 w') (λi=>Nat.blt i 11) 10 266 [ag false,.string ⟨#[]⟩,af 0,ag false,.string ⟨#[]⟩,af 0,ag false,.string ⟨#[]⟩,af 0] [(0,true),(1,true),(2,true),(3,true),(4,true),(5,true),(6,true),(7,true),(8,false),(9,true)] [(11,false)] zk zk rfl rfl rfl zk zk zc zc (λK a w h=>AR rfl rfl (λK' hK=>by go_simp;exact hK _ _ h)) ?_;clear p0 p1 p2 p3 p4 p5 Hp;intro w1f ai;replace Hb:=aj (aI Hb.out ai);refine⟨Hb.out,?_⟩;iterate 8 (refine rK rfl rfl (v:=?_) (λw' hw'=>?_) ?_;rotate_left;(focus have hw':=gJ w' hw';obtain⟨q0,q1,q2,q3,q4,q5⟩:=hw';go_simp;try with_reducible rfl);try simp only[UU])
  refine oH rfl rfl (λK hK=>?_);go_simp;with_reducible refine(azB _ _ _ _ _ _ B X amu.out _ Qc.out Lj.out zo (dD.out.below Hb.out)).mono ?_
  rintro e w9 ⟨rfl,hq⟩;refine hK _ _ hq (λw2 ai hb2=>?_);replace Hb:=aj (aI Hb.out ai);refine⟨Hb.out,?_⟩;clear ai hb2 hq hK K;try simp only[UU]
  refine rK rfl rfl (v:=?_) (λw' hw'=>?_) ?_;rotate_left;(focus go_simp;try with_reducible rfl);try simp only[UU]
  intro iI hb0 qx;have Hh:=aj qx;clear qx;have h0:w2.cell? ⟨iI,0,none⟩=some (ag false):=Hh.out.cell 0;have Ty:w2.frozen? ⟨iI,0,none⟩=false:=Hh.out.free 0;have h1:w2.cell? ⟨iI,1,none⟩=some (.string ⟨#[]⟩):=Hh.out.cell 1;have Tz:w2.frozen? ⟨iI,1,none⟩=false:=Hh.out.free 1;have h2:w2.cell? ⟨iI,2,none⟩=some (af 0):=Hh.out.cell 2;have TA:w2.frozen? ⟨iI,2,none⟩=false:=Hh.out.free 2;have h3:w2.cell? ⟨iI,3,none⟩=some (ag false):=Hh.out.cell 3;have fh3:w2.frozen? ⟨iI,3,none⟩=false:=Hh.out.free 3;have h4:w2.cell? ⟨iI,4,none⟩=some (.string ⟨#[]⟩):=Hh.out.cell 4;have fh4:w2.frozen? ⟨iI,4,none⟩=false:=Hh.out.free 4;have h5:w2.cell? ⟨iI,5,none⟩=some (af 0):=Hh.out.cell 5;have fh5:w2.frozen? ⟨iI,5,none⟩=false:=Hh.out.free 5;have h6:w2.cell? ⟨iI,6,none⟩=some (ag false):=Hh.out.cell 6;have fh6:w2.frozen? ⟨iI,6,none⟩=false:=Hh.out.free 6;have h7:w2.cell? ⟨iI,7,none⟩=some (.string ⟨#[]⟩):=Hh.out.cell 7;have fh7:w2.frozen? ⟨iI,7,none⟩=false:=Hh.out.free 7;have h8:w2.cell? ⟨iI,8,none⟩=some (af 0):=Hh.out.cell 8;have fh8:w2.frozen? ⟨iI,8,none⟩=false:=Hh.out.free 8;try simp only[U1]
  try simp only[Act.put,U2,U3]
  refine aM rfl rfl (λK hK=>?_);go_simp;refine hK _ _ (λh=>absurd h zd) ?_;try simp only[UU]
  simp only[bH];go_wp2_with fail;go_meet;exact⟨iI,rfl,hb0,(((((((((Hh.out.set 0 _).set 1 _).set 2 _).set 3 _).set 4 _).set 5 _).set 6 _).set 7 _).set 8 _),(((((((((Hb.out.setCell zp _).setCell zp _).setCell zp _).setCell zp _).setCell zp _).setCell zp _).setCell zp _).setCell zp _).setCell zp _)⟩
 case rest=>
  obtain⟨g,rfl,hg,qh,qb⟩:=hcut;obtain⟨Hh,Hb,HA,Dj⟩:=dv qh qb (dL.out.below qb) (dD.out.below qb);clear qh qb Hp bD hg;obtain⟨w2,hw2⟩:=aB wc;subst hw2;have sY:=Hb;clear Hb;have Hb:=hbz wc;obtain⟨ae,ak⟩:=qZ (Hh.an trivial);have HA:Hid (At wc (some ⟨b,o,none⟩) (G.flatMap cK)):=HA.out;go_wp2_with fail;have ae:=Hb.an<|HA.an ae
  refine fT 999 ae (fH 13 0x191715121008060f0d0b050301) ?_;refine cG ?_;refine cV ae (aps _ _ _ _ _ _ _ _ _ _) λw5 ae=>?_;refine qOp λK hK=>?_;go_simp;with_reducible refine(abA ⟨b,o,none⟩ L c' G i _ _ _ _ _ _ _ YV.out hl hi ae.2.1.out wc.heap.size ae.1.out.size).mono ?_
  rintro e w6 ⟨g1,rfl,hg1,ht1,hq⟩;refine xc hK hq ae λae=>?_;clear hK K hq;have HU:=aj ht1;clear ht1;have ae:=HU.an ae;refine cV ae (apr _ _ _ _ _ _ _ _ _ _) λw7 ae=>?_;refine qOp λK hK=>?_;go_simp;with_reducible refine(abA ⟨b,o,none⟩ L c' G i _ _ _ _ _ _ _ YV.out hl hi ae.2.2.1.out wc.heap.size ae.2.1.out.size).mono ?_
  rintro e w8 ⟨g2,rfl,hg2,ht2,hq⟩;refine xc hK hq ae λae=>?_;clear hK K hq;have HV:=aj ht2;clear ht2;have ae:=HV.an ae;refine cG ?_;refine fR ae λak=>?_;have hsz:=(aI cj.out sY.out).size;go_wp2;refine bodyPost_ret (v:=.tuple #[.slice (some ⟨g1,0,none⟩) L L,.slice (some ⟨g2,0,none⟩) L L,af 0]) (by simp[results,Tryz.results170,go_sem]) rfl ⟨g1,g2,rfl,by omega,by omega,ae.2.1.out,ae.1.out,aI (aI cj.out sY.out) ae.2.2.1.out⟩
def lC (f:Nat->Nat)(n:Nat):List Value:=(List.range n).map λi=>af (f i:Int)
def Yb (f:Nat->Nat)(n:Nat):(lC f n).length=n:=by simp[lC]
def ajs (f:Nat->Nat)(n i:Nat)(h:i<(lC f n).length):(lC f n)[i]=af (f i:Int):=by simp[lC]
def aAy (f:Nat->Nat)(n a:Nat)(v:Int)(hv:v=((f a+1:Nat):Int)):(lC f n).set a (af v)=lC (λi=>f i+if i=a then 1 else 0) n:=by
 subst hv;apply List.ext_getElem?;intro j;rw[List.getElem?_set,Yb];by_cases h:j<n
 . by_cases e:a=j
   . subst e;simp[lC,h]
   . simp[lC,h,e,Ne.symm e]
 . by_cases e:a=j
   . subst e;simp[lC,h]
   . simp[lC,h,e]
def aAz (n:Nat):List.replicate n (Value.int .i64 0)=lC (λ_=>0) n:=by
 apply List.ext_getElem?;intro j;by_cases h:j<n
 . simp[lC,h]
 . simp[lC,h]
def Tryz.aGB :(Tryz.prog.info? 3).map (λi=>(i.zero,i.size,i.bytes))=some (some (af 0),1,8):=by kernel_rfl
def awl (c:Int)(n:Nat)(hc:c=n)(h:n<=1048576)(w:World):
 (Instr.makeSlice 60 (af c) (af c)).run Tryz.prog w=.ok (.slice (some ⟨w.heap.size,0,none⟩) n n) (w.alloc (.cells (lC (λ_=>0) n).toArray 3)):=by
 subst hc;obtain⟨i0,hi,hz0,hz1,hz2⟩:=info_parts Tryz.aGB;rw[run_make (P:=Tryz.prog) w 60 3 i0 _ Tryz.underlying60 hi hz0 .i64 .i64 n n zo zo (by rw[hz2];omega) zo];simp only[Int.toNat_natCast,hz1,Nat.mul_one];rw[<-aAz,<-toList_madeCells_one];simp[Value.cells]
def lL (w:World)(top xb ib L:Nat)(bx:List (Raw×Raw))(t:Nat->Nat):Prop:=
 ∃a c,ar w xb 150 [.slice a L c,.slice (some ⟨ib,0,none⟩) L L]/\At w a (bx.flatMap cK)/\ar w ib 3 (lC t L)/\(∀b o,a=some ⟨b,o,none⟩->b≠xb/\b≠ib/\(b<top\/∃cs,ar w b 119 cs))/\xb≠ib
def lL.below {w w':World}{top xb ib L:Nat}{bx:List (Raw×Raw)}{t:Nat->Nat}(h:lL w top xb ib L bx t)(hb:Bw w w'):lL w' top xb ib L bx t:=by
 obtain⟨a,c,h1,h2,h3,h4,h5⟩:=h;refine⟨a,c,h1.below hb,h2.below hb,h3.below hb,λb o e=>⟨(h4 b o e).1,(h4 b o e).2.1,?_⟩,h5⟩;rcases(h4 b o e).2.2 with h|⟨cs,h⟩
 . exact .inl h
 . exact .inr ⟨cs,h.below hb⟩
instance {w :World} {top xb ib L:Nat} {bx:List (Raw×Raw)} {t:Nat->Nat}:QTr (lL w top xb ib L bx t) w (λW=>lL W top xb ib L bx t):=⟨λh _ k=>lL.below h k⟩
def lL.row {w w':World}{top xb ib L base size k:Nat}{bx:List (Raw×Raw)}{t:Nat->Nat}{v:Value}{xs:List Value}(h:lL w top xb ib L bx t)(hr:w.ownsRow base 3 size v k xs)(h1:top<=base)(h2:xb<base)(h3:ib<base)(hg:w.grownBy w' v.ownBlock):lL w' top xb ib L bx t:=by
 obtain⟨a,c,q1,q2,q3,q4,q5⟩:=h;have hlo:∀b,b<base->some b≠v.ownBlock:=λb hb e=>by have:=eo hr b e.symm;omega
 have hne:∀b o,a=some ⟨b,o,none⟩->some b≠v.ownBlock:=λb o e=>by
  rcases(q4 b o e).2.2 with h|⟨cs,h⟩
  . exact hlo b zo
  . exact h.not_row zd hr
 refine⟨a,c,q1.grown hg (hlo _ h2),q2.grown hg hne,q3.grown hg (hlo _ h3),λb o e=>⟨(q4 b o e).1,(q4 b o e).2.1,?_⟩,q5⟩;rcases(q4 b o e).2.2 with h|⟨cs,h⟩
 . exact .inl h
 . exact .inr ⟨cs,h.grown hg (hne b o e)⟩
def abq (a:Option Addr)(L cap:Nat)(bx:List (Raw×Raw))(w:World)(hL:bx.length=L)(h1:1<=L)(hl:L<=1000)(ha:At w a (bx.flatMap cK)):
 Cl 89 #[.slice a L cap] w λe w'=>∃xb ib,e=.returned (.pointer (some ⟨xb,0,none⟩))/\w.heap.size<=xb/\w.heap.size<=ib/\xb<w'.heap.size/\ib<w'.heap.size/\lL w' w.heap.size xb ib L bx (λ_=>0)/\Bw w w':=by
 have hmk:=awl (L:Int) L rfl zo;have hab:∀b o,a=some ⟨b,o,none⟩->b<w.heap.size:=λb o e=>by subst e;exact ha.lt (by intro h0;have h9:=congrArg List.length h0;rw[XI,List.length_nil]at h9;omega)
 have Ha:=aj ha;clear ha hL;have Hb:=hbz w;go_enter Tryz.func89,Tryz.ntmps89;go_wp2;refine dX (λw9=>ar w9 (w.heap.size+1) 150 [.slice a L cap,.slice (some ⟨w.heap.size,0,none⟩) L L]/\ar w9 w.heap.size 3 (lC (λ_=>0) L)/\Bw w w9) ⟨ar.newAt _ _ _ zm,(ar.newAt _ _ _ rfl).alloc _,((Below.refl _ w).alloc (Nat.le_refl _) _).alloc zm _⟩ ?_;rintro w9 ⟨hx,hi,hb⟩;refine bodyPost_ret (results_tmp rfl _ _ _) rfl ⟨w.heap.size+1,w.heap.size,rfl,by omega,Nat.le_refl _,hx.lt,hi.lt,⟨a,cap,hx,Ha.out.below hb,hi,λb o e=>?_,by omega⟩,hb⟩;have:=hab b o e;exact⟨by omega,by omega,.inl this⟩
def abO {Y:Nat->Prop}{w W:World}(h:Chg Y w W)(b i:Nat)(v:Value)(hy:Y b):Chg Y w (W.setCell ⟨b,i,none⟩ v):=
 ⟨h.os,h.tape,h.output,by show w.heap.size<=(W.setCell _ _).heap.size;rw[show(W.setCell ⟨b,i,none⟩ v).heap.size=W.heap.size from by unfold World.setCell;simp];exact h.size,λk hk hn=>(Below.heap_setCell W ⟨b,i,none⟩ v k (λe=>hn (by rw[e];exact hy))).trans (h.block k hk hn)⟩
def At.chgS {Y:Nat->Prop}{w w':World}{a:Option Addr}{cs:List Value}(h:At w a cs)(hc:Chg Y w w')(hy:∀b o,a=some ⟨b,o,none⟩->¬Y b):At w' a cs:=by
 rcases h with h|⟨b,o,ha,hcs⟩
 . exact .inl h
 . refine .inr ⟨b,o,ha,λj hj=>?_⟩;have h1:=hcs j hj;rw[List.getElem?_eq_getElem hj]at h1⊢;exact hc.cell h1 (hy b o ha)
def At.so {w:World}{a:Option Addr}{cs:List Value}(h:At w a cs)(p i:Nat)(hne:∀b o,a=some ⟨b,o,none⟩->p≠b)(v:Value):At (w.setCell ⟨p,i,none⟩ v) a cs:=by
 rcases h with h|⟨b,o,ha,hcs⟩
 . exact .inl h
 . refine .inr ⟨b,o,ha,λj hj=>?_⟩;have h1:=hcs j hj;rw[List.getElem?_eq_getElem hj]at h1⊢;exact gZ (by have:=hne b o ha;dsimp only;omega) h1
def azn (top xb ib L B:Nat)(bx:List (Raw×Raw))(t:Nat->Nat)(w:World)(hL:bx.length=L)(h1:1<=L)(hl:L<=1000)(hf:jR B bx)(hB:B<=1000000)(ht:∀i,t i<=1000000)(hS:lL w top xb ib L bx t)(hT:aC w):
 Cl 92 #[.pointer (some ⟨xb,0,none⟩)] w λe w'=>e=.returned (af (xo (bx.map cn):Int))/\lL w' top xb ib L ((tK (bx.map cn) (xo (bx.map cn)) false).map fg) (λi=>t i+if i=xo (bx.map cn)then 1 else 0)/\Chg (λb=>b=xb\/b=ib) w w':=by
 obtain⟨a,c,Wd,hat,hib,hab,hne⟩:=hS;obtain⟨ax,wG⟩:=aB (xo (bx.map cn));have Ev:ax<L:=by rw[<-wG];unfold xo;have h9:=(abv (λi=>xn ((bx.map cn).getD i (0,0))) (bx.map cn).length (by rw[List.length_map,hL];exact h1)).1;rw[List.length_map,hL]at h9⊢;exact h9
 have ma:=λW (hW:Bw w W)=>apv a L c B bx W hL h1 hl hf hB (hat.below hW) (hT.below hW);have tP:=λW (hW:Bw w W)=>apt a L c B bx ax W hL Ev hl hf hB (hat.below hW) (hT.below hW);rw[wG]at ma⊢;have hst:=aAy t L ax ((t ax:Int)+1) zo;have EM:=ht ax;have hxl:=Wd.lt;have hil:=hib.lt;obtain⟨G,hG⟩:=aB ((tK (bx.map cn) ax false).map fg);rw[hG]at tP⊢;obtain⟨zn,Dx,bR,Hx,Hi⟩:=gT ma tP hst Wd hib;clear ma tP hst Wd hat hib hab wG hG hf hL ht hT;have Hb:=hbz w;go_enter Tryz.func92,Tryz.ntmps92;obtain⟨ae,ak⟩:=qZ (Hx.an<|Hi.an trivial);go_wp2_with fail;refine aJ (Hb.an ae) (zn.out _ Hb.out) λw1 ae ak=>?_;have cj:=ae.1;have xh:=ae.1.out.size;have hwx:w.heap.size<=w1.heap.size:=xh;go_upto_region 2 with fail
 go_cut[] (λwx=>∃g1:Nat,w.heap.size<=g1/\ar wx xb 150 [.slice (some ⟨g1,0,none⟩) L L,.slice (some ⟨ib,0,none⟩) L L]/\ar wx ib 3 (lC t L)/\ar wx g1 119 (G.flatMap cK)/\Chg (λb=>b=xb\/b=ib) w wx);case first=>go_wp2_with fail;refine(Dx.out _ ae.1.out).mono ?_;rintro e w2 ⟨g1,g2,rfl,hg1,hg2,ht1,ht2,ai⟩;obtain⟨ae,ak⟩:=qX ai ae;have xI:=aj ht1;have f0:=ae.2.1.out.free 0;clear ht1 ht2;go_wp2_with fail;go_meet;exact⟨g1,by omega,ae.2.1.out.set 0 _,ae.2.2.1.out.so xb 0 hne _,xI.out.so xb 0 zo _,abO (Chg.of_below ae.1.out) xb 0 _ (.inl rfl)⟩
 case rest=>
  obtain⟨g1,hg1,qx,qi,qt,qb⟩:=hcut;obtain⟨Hx,Hi,xI,Hb⟩:=dv qx qi qt qb;obtain⟨i0,fi0⟩:=BM qi ax (by rw[Yb];exact Ev);rw[ajs]at i0;clear qx qi qt qb cj zn Dx;have bD:=Av L L ax (ax:Int) (rfl:(some ⟨ib,0,none⟩:Option Addr)=_) Ev rfl;rw[Nat.mul_one,Nat.zero_add]at bD;have hwr:IntKind.i64.wrap ((t ax:Int)+1)=(t ax:Int)+1:=by rw[IntKind.wrap_i64];omega
  obtain⟨ae,ak⟩:=qZ (Hx.an trivial);go_wp2;refine dX (λw9=>ar w9 xb 150 [.slice (some ⟨g1,0,none⟩) L L,.slice (some ⟨ib,0,none⟩) L L]/\ar w9 ib 3 ((lC t L).set ax (af ((t ax:Int)+1)))/\ar w9 g1 119 (G.flatMap cK)/\Chg (λb=>b=xb\/b=ib) w w9) ⟨ae.1.out.so ib ax hne.symm _,Hi.out.set ax _,xI.out.so ib ax zo _,abO Hb.out ib ax _ (.inr rfl)⟩ ?_;rintro w9 ⟨hx9,hi9,OG,ku⟩;rw[bR.out]at hi9;refine bodyPost_ret (results_tmp rfl _ _ _) rfl ⟨rfl,⟨_,_,hx9,At.aGr OG,hi9,λb o e=>?_,hne⟩,ku⟩;simp only[Option.some.injEq,Addr.mk.injEq,and_true]at e;obtain⟨rfl,_⟩:=e;exact⟨by omega,by omega,.inr ⟨_,OG⟩⟩
end Go.Proofs.YtbkopgdpcijfbaaGreatDoor
namespace Go.Proofs.YtbkopgdpcijfbaaGreatDoor
open Go.RowKit
end Go.Proofs.YtbkopgdpcijfbaaGreatDoor
