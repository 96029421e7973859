/- An own row cut short,cleared behind;an own row as a whole block. -/
import Derived.Test.YtoopepmmepmfnaaGreatDoorZ11
import Derived.Laws.CopyRow
import Derived.Laws.AppendOwnNone
import Derived.Deep.DeepAppendRoom
import Derived.Test.YtoopepmmepmfnaaGreatDoorZ7
import Derived.Test.YtoopepmmepmfnaaGreatDoorZ12
set_option linter.unusedVariables false
set_option linter.unusedSimpArgs false
set_option maxRecDepth 100000
set_option maxHeartbeats 16000000
namespace Go.Proofs.YtoopepmmepmfnaaGreatDoor
open Go.RowKit
theorem ab4 {w:World}{base:Nat}{e:TypeId}{size n cap g:Nat}{xs:List Value}(h:w.ownsRow base e size (.slice (some ⟨g,0,none⟩) n cap) n xs)(i:Nat)(hi:i<=n):
 w.ownsRow base e size (.slice (some ⟨g,0,none⟩) i cap) i (xs.take (i*size)):=by
 have Lh:i*size<=n*size:=Nat.mul_le_mul_right _ hi;refine⟨by rw[List.length_take,h.1];omega,?_⟩;rcases h.2 with⟨h1,_⟩ |⟨g',cap',cur,h1,hb,hg,h4,h5,h6,hx⟩
 . simp at h1
 . simp only[Value.slice.injEq,Option.some.injEq,Addr.mk.injEq,and_true,true_and]at h1;obtain⟨rfl,rfl⟩:=h1;refine .inr ⟨g,cap,cur,rfl,hb,hg,by omega,h5,h6,?_⟩;rw[<-hx,List.take_take,Nat.min_eq_left Lh]
theorem Dl {w:World}{base:Nat}{e:TypeId}{size n:Nat}{v:Value}{xs:List Value}(h:w.ownsRow base e size v n xs)(hn:0<n):∃g cap,v=.slice (some ⟨g,0,none⟩) n cap/\base<=g/\g<w.heap.size/\n<=cap:=by
 rcases h.2 with⟨_,h1⟩ |⟨g,cap,cur,h1,hb,hg,h4,_⟩
 . omega
 . exact⟨g,cap,h1,hb,(Array.getElem?_eq_some_iff.1 hg).1,h4⟩
theorem aoF {w:World}{base:Nat}{e:TypeId}{size n cap g:Nat}{xs:List Value}(h:w.ownsRow base e size (.slice (some ⟨g,0,none⟩) n cap) n xs)(o:Nat)(vs:List Value)(ho:n*size<=o)(cur:Array Value)(CG:w.heap[g]?=some (.cells cur e (0,0)))(hl:o+vs.length<=cur.size):
 (w.setRow g (cur.toList.take o++vs++cur.toList.drop (o+vs.length)).toArray).ownsRow base e size (.slice (some ⟨g,0,none⟩) n cap) n xs/\w.grownBy (w.setRow g (cur.toList.take o++vs++cur.toList.drop (o+vs.length)).toArray) (some g):=by
 have hh:=setRow_heap w g cur (cur.toList.take o++vs++cur.toList.drop (o+vs.length)).toArray e (0,0) CG;constructor
 . refine⟨h.1,?_⟩;rcases h.2 with⟨h1,_⟩ |⟨g',cap',cur',h1,hb,hg,h4,h5,h6,hx⟩
   . simp at h1
   . simp only[Value.slice.injEq,Option.some.injEq,Addr.mk.injEq,and_true,true_and]at h1;obtain⟨rfl,rfl⟩:=h1;rw[CG]at hg;simp only[Option.some.injEq,Obj.cells.injEq,and_true]at hg;subst hg;refine .inr ⟨g,cap,_,rfl,hb,hh,h4,h5,?_,?_⟩
     . rw[<-h6];have hcl:cur.toList.length=cur.size:=Array.length_toList;simp only[List.size_toArray,List.length_append,List.length_take,List.length_drop,hcl];omega
     . rw[<-hx];have hcl:cur.toList.length=cur.size:=Array.length_toList;simp only[List.append_assoc];rw[List.take_append_of_le_length (by rw[List.length_take,hcl];omega),List.take_take,Nat.min_eq_left ho]
 . refine⟨rfl,rfl,rfl,by simp[World.setRow],λk hk hne=>?_⟩;unfold World.setRow;simp only[Array.getElem?_modify];rw[if_neg (λe=>hne (by rw[e]))]
theorem acz {P:Program}(w:World)(t e:TypeId)(z:Value)(size:Nat)(ht:P.underlying t=some (.slice e))(hv:∀w,(zeroValue e).run P w=.ok z w)(hz:z.cells.size=size)(h1:∀v∈z.cells.toList,v.oneCell'=true)(g n m cap c:Nat)(base:Nat)(xs:List Value)
 (h:w.ownsRow base e size (.slice (some ⟨g,0,none⟩) n cap) n xs) (hm:n+m<=cap):
 ∃w',(∀ty,(Builtin.clear_ #[t] ty #[.slice (some ⟨g,n*size,none⟩) m c]).run P w=.ok (.tuple #[]) w')/\w'.ownsRow base e size (.slice (some ⟨g,0,none⟩) n cap) n xs/\w.grownBy w' (some g):=by
 rcases h.2 with⟨h2,_⟩ |⟨g',cap',cur,h2,hb,hg,h4,h5,h6,hx⟩
 . simp at h2
 simp only[Value.slice.injEq,Option.some.injEq,Addr.mk.injEq,and_true,true_and]at h2;obtain⟨rfl,rfl⟩:=h2;by_cases hm0:m=0
 . subst hm0;refine⟨w,λty=>?_,h,World.grownBy.refl _ _⟩;simp[Builtin.clear_,run_underlying ht]
 . obtain⟨vs,hvs⟩:=aG ((Builtin.zeroCells z.cells m).toList);have hvl:vs.length=m*size:=by rw[<-hvs,Array.length_toList,size_zeroCells,hz]
   have hvo:∀v∈vs,v.oneCell'=true:=by
    intro v hv2;rw[<-hvs]at hv2;unfold Builtin.zeroCells at hv2;simp only[Array.toList_map,Array.toList_range,List.mem_map,List.mem_range]at hv2;obtain⟨i,hi,rfl⟩:=hv2;have hs:0<z.cells.size:=by
     rcases Nat.eq_zero_or_pos z.cells.size with h0|h0
     . rw[h0]at hi;simp at hi
     . exact h0
    have:=Nat.mod_lt i hs;rw[getElem!_pos z.cells (i%z.cells.size) this];exact h1 _ zm
   have hle:n*size+0+vs.length<=cur.size:=by rw[hvl,h6];have:=Nat.mul_le_mul_right size hm;rw[Nat.add_mul]at this;omega
   have hst:=run_storeCells_at (P:=P) g (n*size) e vs 0 cur w hg hle hvo;obtain⟨k1,k2⟩:=aoF h (n*size) vs (Nat.le_refl _) cur hg zo;refine⟨_,λty=>?_,k1,k2⟩;obtain⟨m',rfl⟩:∃m',m=m'+1:=⟨m-1,by omega⟩;simp[Builtin.clear_,run_underlying ht,hv,hvs,hst]
def Sl (a:Option Addr)(n cap:Nat):Prop:=n<=cap/\(a=none->cap=0)
theorem Sl.nil :Sl none 0 0:=⟨Nat.le_refl _,λ_=>rfl⟩
theorem Sl.some (x:Addr)(n cap:Nat)(h:n<=cap):Sl (some x) n cap:=⟨h,λe=>by cases e⟩
theorem uP {w:World}{base:Nat}{e:TypeId}{size n k cap:Nat}{a:Option Addr}{xs:List Value}(h:w.ownsRow base e size (.slice a k cap) n xs):Sl a k cap:=by
 rcases h.2 with⟨h1,_⟩ |⟨g,cap',cur,h1,hb,hg,h4,_⟩
 . simp only[Value.slice.injEq]at h1;obtain⟨rfl,rfl,rfl⟩:=h1;exact Sl.nil
 . simp only[Value.slice.injEq]at h1;obtain⟨rfl,rfl,rfl⟩:=h1;exact Sl.some _ _ _ h4
theorem adH {P:Program}{w:World}{ops:Array Oper}{rest:List Oper}{o:Oper}{a:Act}{Q:Exit->Act->World->Prop}(hgd:o.guard=none)(s x:Operand)(t:TypeId)
 (ho:o.op=.call {callee:=.builtin .append,args:=#[s,x],argTypes:=#[t,t]})
 (base:Nat) (e:TypeId) (i:TypeInfo) (z:Value) (size bytes:Nat) (ht:P.underlying t=Option.some (.slice e)) (hi:P.info? e=Option.some i) (hz:i.zero=Option.some z)
 (hsize:i.size=size) (hby:i.bytes=bytes) (hzs:z.cells.size=size) (hsz:0<size)
 (v:Value) (n:Nat) (xs:List Value) (hs:a.eval s=v) (hown:w.ownsRow base e size v n xs)
 (aa:Option Addr) (m c:Nat) (news:List Value) (hx:a.eval x=.slice aa m c) (hsl:aa=none->m=0/\c=0) (hl:news.length=m*size) (hat:At w aa news) (h1:∀u∈news,u.oneCell'=true)
 (h63:n+m<=maxLen) (hbytes:(n+m) *bytes<=140737488355328) (hbase:base<=w.heap.size)
 (h:∀v' w',w'.ownsRow base e size v' (n+m) (xs++news)->w.grownBy w' v.ownBlock->(v'.ownBlock=v.ownBlock\/v'.ownBlock=Option.some w.heap.size)->wpList P ops Q rest (a.put o.dst v') w'):
 wpList P ops Q (o::rest) a w:=by
 cases aa with
 |none=>obtain⟨hm,hc⟩:=hsl rfl;subst hc;subst hm;have hn:news=[]:=List.eq_nil_of_length_eq_zero (by simpa using hl);subst hn;refine wpList_append_own_none hgd s x t ho base e i size ht hi v n xs hs hown hx ?_;exact h v w (by simpa using hown) (World.grownBy.refl _ _) (.inl rfl)
 | some ad=>
   refine wpList_append_own_at w hgd s x t ho base e i z size bytes ht hi hz hsize hby hzs hsz v n xs hs hown ad m c news hx hl ?_ h1 h63 hbytes hbase (λv' w' h2 h3 _ h5=>h v' w' h2 h3 h5);intro j u hj;rcases hat with h0|⟨b,o',e',hc⟩
   . subst h0;simp at hj
   . simp only[Option.some.injEq]at e';subst e';have hjl:=(List.getElem?_eq_some_iff.1 hj).1;have e2:((⟨b,o',none⟩:Addr).add j)=⟨b,o'+j,none⟩:=by unfold Addr.add;cases j<;>simp
     rw[e2,hc j hjl];exact hj
theorem rp {P:Program}{w:World}{ops:Array Oper}{rest:List Oper}{o:Oper}{a:Act}{Q:Exit->Act->World->Prop}(hgd:o.guard=none)(s x:Operand)(t:TypeId)
 (ho:o.op=.call {callee:=.builtin .append,args:=#[s,x],argTypes:=#[t,t]})
 (base:Nat) (e:TypeId) (i:TypeInfo) (z:Value) (size bytes:Nat) (ht:P.underlying t=Option.some (.slice e)) (hi:P.info? e=Option.some i) (hz:i.zero=Option.some z)
 (hsize:i.size=size) (hby:i.bytes=bytes) (hzs:z.cells.size=size) (hsz:0<size)
 (v:Value) (n:Nat) (xs:List Value) (hs:a.eval s=v) (hown:w.ownsRow base e size v n xs)
 (aa:Option Addr) (m c:Nat) (news:List Value) (hx:a.eval x=.slice aa m c) (hsl:Sl aa m c) (hl:news.length=m*size) (hat:At w aa news) (h1:∀u∈news,u.oneCell'=true)
 (h63:n+m<=maxLen) (hbytes:(n+m) *bytes<=140737488355328) (hbase:base<=w.heap.size)
 (h:∀v' w',w'.ownsRow base e size v' (n+m) (xs++news)->w.grownBy w' v.ownBlock->(v'.ownBlock=v.ownBlock\/v'.ownBlock=Option.some w.heap.size)->wpList P ops Q rest (a.put o.dst v') w'):
 wpList P ops Q (o::rest) a w:=
 adH hgd s x t ho base e i z size bytes ht hi hz hsize hby hzs hsz v n xs hs hown aa m c news hx (λe=>⟨by have h1:=hsl.1;have h2:=hsl.2 e;omega,hsl.2 e⟩) hl hat h1 h63 hbytes hbase h
theorem At.cut {w:World}{a:Option Addr}{xs:List Value}{k cap size n:Nat}(h:At w a xs)(hl:xs.length=n*size)(hk:k<=n)(hc:n<=cap):At w (if cap=k then a else a.map (·.add (k*size))) (xs.drop (k*size)):=by
 rcases h with h0|⟨b,o,rfl,hcs⟩
 . subst h0;simp;exact .inl rfl
 . by_cases e:cap=k
   . have:xs.drop (k*size)=[]:=List.drop_of_length_le (by rw[hl];exact Nat.mul_le_mul_right _ zo);rw[this];exact .inl rfl
   . rw[if_neg e];have e2:((⟨b,o,none⟩:Addr).add (k*size))=⟨b,o+k*size,none⟩:=by unfold Addr.add;split<;>simp_all
     refine .inr ⟨b,o+k*size,by rw[Option.map_some,e2],λj hj=>?_⟩;rw[List.length_drop]at hj;rw[Nat.add_assoc,hcs _ zo,List.getElem?_drop]
theorem Sl.cut {a:Option Addr}{k cap size n:Nat}(h:Sl a n cap)(hk:k<=n):Sl (if cap=k then a else a.map (·.add (k*size))) (n-k) (cap-k):=by
 refine⟨by have:=h.1;omega,λe=>?_⟩;by_cases e1:cap=k
 . omega
 . rw[if_neg e1]at e
   have:=h.2 (by cases a with
    |none=>rfl
    |some x=>simp at e)
   omega
def Pc (w:World)(v:Value)(cM:List Raw):Prop:=∃a cap,v=.slice a cM.length cap/\At w a (cM.flatMap bI)/\Sl a cM.length cap
theorem Pc.below {w w':World}{v:Value}{cM:List Raw}(h:Pc w v cM)(hb:Bw w w'):Pc w' v cM:=by obtain⟨a,cap,hv,ha,hs⟩:=h;exact⟨a,cap,hv,ha.below hb,hs⟩
def mG (w:World)(a:Option Addr)(rows:List (List Raw)):Prop:=∃vals:List Value,vals.length=rows.length/\At w a vals/\∀i (h:i<rows.length) (h':i<vals.length),Pc w vals[i] rows[i]
theorem mG.below {w w':World}{a:Option Addr}{rows:List (List Raw)}(h:mG w a rows)(hb:Bw w w'):mG w' a rows:=by obtain⟨vals,hl,ha,hp⟩:=h;exact⟨vals,hl,ha.below hb,λi h1 h2=>(hp i h1 h2).below hb⟩
theorem mG.tbl {w:World}{a:Option Addr}{rows:List (List Raw)}(h:mG w a rows):cC w a rows:=by obtain⟨vals,hl,ha,hp⟩:=h;refine⟨vals,hl,ha,λi h1 h2=>?_⟩;obtain⟨a',c',e1,e2,_⟩:=hp i h1 h2;exact⟨a',c',e1,e2⟩
theorem mG.row {w:World}{a:Option Addr}{rows:List (List Raw)}(h:mG w a rows)(k:Nat)(hk:k<rows.length):
 ∃b o a' cap',a=some ⟨b,o,none⟩/\w.cell? ⟨b,o+k,none⟩=some (.slice a' rows[k].length cap')/\At w a' (rows[k].flatMap bI)/\Sl a' rows[k].length cap':=by
 obtain⟨vals,hl,ha,hp⟩:=h;have hk2:k<vals.length:=by rw[hl];exact hk
 obtain⟨b,o,hab,hcs⟩:=ha.get (by intro h0;rw[h0]at hk2;simp at hk2);obtain⟨a',cap',hv,hat,hs⟩:=hp k hk hk2;exact⟨b,o,a',cap',hab,by rw[hcs k hk2,List.getElem?_eq_getElem hk2,hv],hat,hs⟩
theorem De (cM:List Raw):∀u∈cM.flatMap bI,u.oneCell'=true:=by intro u hu;obtain⟨r,_,hr⟩:=List.mem_flatMap.1 hu;simp only[bI,List.mem_cons,List.not_mem_nil,or_false]at hr;rcases hr with rfl|rfl|rfl<;>rfl
def dP (s:Raw×Raw):List Value:=bI s.1++bI s.2
theorem At.spn {W:World}{a:Option Addr}{bx:List (Raw×Raw)}(h:At W a (bx.flatMap dP))(k:Nat)(hk:k<bx.length){s t:Bool}{m n:List UInt8}{e f:Int}(hx:bx[k]=((s,m,e),(t,n,f))):
 ∃b o,a=some ⟨b,o,none⟩/\bH W b (o+k*6) [ag s,ah m,af e,ag t,ah n,af f]:=by
 obtain⟨b,o,ha,hc⟩:=h.elem (f:=dP) (sz:=6) (λ_=>rfl) zd k hk;rw[hx]at hc;refine⟨b,o,ha,λj hj=>?_⟩;have hj6:j<6:=hj;rw[hc j hj6];exact List.getElem?_eq_getElem hj
abbrev yr (p:Pr):Value:=.agg #[ag (au (dN p.1)),ah (nt (dN p.1).natAbs),af (dE p.1),ag (au (dN p.2)),ah (nt (dN p.2).natAbs),af (dE p.2)]
theorem Tg (bx:List (Raw×Raw)):(bx.flatMap dP).length=bx.length*6:=nM dP 6 (λ_=>rfl) bx
theorem aqz (bx:List (Raw×Raw)):∀u∈bx.flatMap dP,u.oneCell'=true:=by
 intro u hu;obtain⟨s,_,hs⟩:=List.mem_flatMap.1 hu;rcases List.mem_append.1 hs with h|h
 . exact De [s.1] u (by simpa using h)
 . exact De [s.2] u (by simpa using h)
def kj (A:Dyadic->Dyadic->Bool)(xs:List Raw):Nat->Raw
 |0=>(false,[],0)
 |k+1=>if k=0\/A (az (xs.getD k (false,[],0))) (az (kj A xs k))=true then xs.getD k (false,[],0)else kj A xs k
theorem akH (A:Dyadic->Dyadic->Bool)(xs:List Raw)(Q:Raw->Prop)(h0:Q (false,[],0))(h:∀x∈xs,Q x)(k:Nat):Q (kj A xs k):=by
 have hg:∀k,Q (xs.getD k (false,[],0)):=λk=>by
  by_cases hk:k<xs.length
  . have e:xs.getD k (false,[],0)=xs[k]:=by simp[hk]
    rw[e];exact h _ (List.getElem_mem hk)
  . have e:xs.getD k (false,[],0)=(false,[],0):=by simp[List.getD_eq_getElem?_getD,List.getElem?_eq_none (by omega:xs.length<=k)]
    rw[e];exact h0
 induction k with
 |zero=>exact h0
 | succ k ih=>
   unfold kj;split
   . exact hg k
   . exact ih
theorem Ok.zero :Ok (false,[],0):=⟨by decide,by decide,by decide⟩
end Go.Proofs.YtoopepmmepmfnaaGreatDoor
namespace Go.Proofs.YtoopepmmepmfnaaGreatDoor
open Go.RowKit
attribute [local go_sem ↓] Go.wp_at_zero Go.wp_at_succ
theorem Xj (gf:Nat)(A:Dyadic->Dyadic->Bool)(xs:List Raw)(a:Option Addr)(n cap:Nat)(w:World)(hn:xs.length=n)(hl:n<=1048576)(h:∀x∈xs,Ok x)(ha:At w a (xs.flatMap bI))(hT:aH w)
 (eg:∀args w,(callFunc gf args).run Tryz.prog w=.ok (.enter gf args) w)
 (hcl:∀(s:Bool) (l:List UInt8) (e:Int) (t:Bool) (m:List UInt8) (f:Int),Ok (s,l,e)->Ok (t,m,f)->∀W,aH W->Calls Tryz.prog gf #[.agg #[ag s,ah l,af e],.agg #[ag t,ah m,af f]] W λe' w'=>e'=.returned (ag (A (az (s,l,e)) (az (t,m,f))))/\Bw W w'):
 Calls Tryz.prog 221 #[.slice a n cap,.func (.func gf) #[] #[]] w λe w'=>e=.returned (bL (az (kj A xs n)))/\Bw w w':=by
 obtain⟨X,hX⟩:=aG (az (kj A xs n));rw[hX];have hok:=akH A xs Ok Ok.zero h;have hget:∀k,k<xs.length->∃s m e,xs[k]?=some (s,m,e)/\xs.getD k (false,[],0)=(s,m,e)/\Ok (s,m,e):=λk hk=>⟨xs[k].1,xs[k].2.1,xs[k].2.2,by simp[hk],by simp[hk],h _ (List.getElem_mem hk)⟩;obtain⟨BP,Nl,Ha,HT,ny,iI,Hn,HXn⟩:=nZ hok hget ha hT eg hcl hn hX;clear hok hget ha hT eg hcl hn h hX;obtain⟨W,cg,Hb,Hr,Ho⟩:=iq w 39 [ag false,.string ⟨#[]⟩,af 0] 39 [ag false,.string ⟨#[]⟩,af 0];obtain⟨r0,aj,r1,ak,r2,aF⟩:=Hr.out.g3;obtain⟨o0,jC,o1,jD,o2,zJ⟩:=Ho.out.g3;go_enter Tryz.func221,Tryz.ntmps221;have NM:=Hr;have Ho0:=Ho;have lr:=Hr.out.lt;have lo:=Ho.out.lt;go_wp2_with fail;clear r0 r1 r2 aj ak aF o0 o1 o2 jC jD zJ;go_loopw[10] (λx wr=>∃k:Nat,k<=n/\x=af (k:Int)/\ar wr w.heap.size 39 [ag false,.string ⟨#[]⟩,af 0]/\ar wr (w.heap.size+1) 39 (bI (kj A xs k))/\Bw w wr) (λx _=>n-(intOf x).toNat);case atStart=>exact⟨0,Nat.zero_le _,rfl,Hr.out,Ho.out,Hb.out⟩
 case round=>
  clear Hr Ho Hb NM Ho0;obtain⟨k,hk,rfl,pr,po,pb⟩:=hrel;obtain⟨⟨t,m',f⟩,hF⟩:∃F,kj A xs k=F:=⟨_,rfl⟩;have Gq:=BP.out k;rw[hF]at po Gq;by_cases hlt:k<n
  . have gA:k<xs.length:=by rw[Hn.out];exact hlt
    obtain⟨s,m,e,hx1,hx2,hox⟩:=Nl.out k gA;obtain⟨b,o,hab,q0,q1,q2⟩:=(Ha.out.below pb).num k gA (List.getElem?_eq_some_iff.1 hx1).2;have bK:=qH n cap k (k:Int) hab hlt rfl;have hst:kj A xs (k+1)=if k=0\/A (az (s,m,e)) (az (t,m',f))=true then(s,m,e)else(t,m',f):=by
     show(if k=0\/A (az (xs.getD k (false,[],0))) (az (kj A xs k))=true then xs.getD k (false,[],0)else kj A xs k)=_
     rw[hx2,hF]
    obtain⟨c,hc⟩:=aG (A (az (s,m,e)) (az (t,m',f)));have hcall:=iI.out s m e t m' f hox Gq;rw[hc]at hcall hst;obtain⟨kY,bX⟩:=aO hcall hst;have lb:b<w.heap.size:=by subst hab;exact Ha.out.lt (by intro h0;have h9:=congrArg List.length h0;rw[nM bI 3 (λ_=>rfl),List.length_nil]at h9;omega)
    have Hp:Hid (bH wr b (o+k*3) [ag s,ah m,af e]):=kv q0 q1 q2;have Hr:=ai pr;have Ho:Hid (ar wr (w.heap.size+1) 39 [ag t,ah m',af f]):=po;have Hb:=ai pb;have oG:=ny.out;clear pr po pb q0 q1 q2 hcall hst hc hx1 hx2 hox hF hab Gq;obtain⟨r0,aj,r1,ak,r2,aF⟩:=Hr.out.g3;obtain⟨o0,jC,o1,jD,o2,zJ⟩:=Ho.out.g3;obtain⟨p0,p1,p2⟩:=Hp.out.w3;have lr2:=Hr.out.lt;have lo2:=Ho.out.lt;have P0:=p0;have P1:=p1;have P2:=p2;have GZ:=Hr.out.lt;have ann:=Ho.out.lt;obtain⟨W4,lU,ae,Hc⟩:=cd wr 39 [ag s,ah m,af e];clear r0 aj r1 ak r2 aF;replace Hr:=kB Hr ae;clear o0 jC o1 jD o2 zJ;replace Ho:=kB Ho ae;clear p0 p1 p2;replace Hp:=kW Hp ae;obtain⟨r0,aj,r1,ak,r2,aF⟩:=Hr.out.g3;obtain⟨o0,jC,o1,jD,o2,zJ⟩:=Ho.out.g3;obtain⟨p0,p1,p2⟩:=Hp.out.w3;obtain⟨c0,c1,c2⟩:=Hc.out.c3;replace Hb:=aB Hb ae;clear ae;by_cases fY:k=0
    . have hk1:((k:Int)==0)=true:=by subst fY;rfl
      have yP:=ai fY;clear fY r0 r1 r2 aj ak aF p0 p1 p2;have sL:Hid (kj A xs (k+1)=(s,m,e)):=by show _=_;rw[bX.out,if_pos (.inl yP.out)]
      go_wp2;go_roundw;case rel=>exact⟨k+1,by omega,by go_num,(((Hr.out.so (w.heap.size+1) 0 zo _).so (w.heap.size+1) 1 zo _).so (w.heap.size+1) 2 zo _),by rw[sL.out];exact((Ho.out.set 0 _).set 1 _).set 2 _,(((Hb.out.sc (w.heap.size+1) 0 zo _).sc (w.heap.size+1) 1 zo _).sc (w.heap.size+1) 2 zo _)⟩
      case measure=>simp[intOf];omega
    . have hk1:((k:Int)==0)=false:=by simpa using fY
      have yP:Hid (¬k=0):=fY;clear fY;go_wp2_with fail;refine(kY.out _ (HT.out.below Hb.out)).mono ?_;rintro e w5 ⟨rfl,ae⟩;clear r0 aj r1 ak r2 aF o0 jC o1 jD o2 zJ p0 p1 p2 c0 c1 c2;obtain⟨Hr,r0,aj,r1,ak,r2,aF⟩:=aN Hr ae;obtain⟨Ho,o0,jC,o1,jD,o2,zJ⟩:=aN Ho ae;replace Hp:=kW Hp ae;obtain⟨Hc,c0,c1,c2⟩:=aQ Hc ae;obtain⟨p0,p1,p2⟩:=Hp.out.w3;replace Hb:=aB Hb ae;clear ae P0 P1 P2;cases c with
      | true=>
        clear r0 r1 r2 aj ak aF p0 p1 p2;have sL:Hid (kj A xs (k+1)=(s,m,e)):=by show _=_;rw[bX.out,if_pos (.inr rfl)]
        go_wp2;go_roundw;case rel=>exact⟨k+1,by omega,by go_num,(((Hr.out.so (w.heap.size+1) 0 zo _).so (w.heap.size+1) 1 zo _).so (w.heap.size+1) 2 zo _),by rw[sL.out];exact((Ho.out.set 0 _).set 1 _).set 2 _,(((Hb.out.sc (w.heap.size+1) 0 zo _).sc (w.heap.size+1) 1 zo _).sc (w.heap.size+1) 2 zo _)⟩
        case measure=>simp[intOf];omega
      | false=>
        have sL:Hid (kj A xs (k+1)=(t,m',f)):=by
         show _=_
         rw[bX.out,if_neg];intro h;rcases h with h|h
         . exact yP.out h
         . cases h
        clear r0 r1 r2 aj ak aF o0 o1 o2 jC jD zJ p0 p1 p2 c0 c1 c2;go_wp2;go_roundw;case rel=>exact⟨k+1,by omega,by go_num,Hr.out,by rw[sL.out];exact Ho.out,Hb.out⟩
        case measure=>simp[intOf];omega
  . obtain rfl:k=n:=by omega
    have hX:=HXn.out;rw[hF]at hX;have Hr:=ai pr;have Ho:Hid (ar wr (w.heap.size+1) 39 [ag t,ah m',af f]):=po;obtain⟨Hb,HX,HoF⟩:=cL pb hX Gq;clear pr po pb hF hX Gq;obtain⟨r0,aj,r1,ak,r2,aF⟩:=Hr.out.g3;obtain⟨o0,o1,o2⟩:=Ho.out.c3;go_wp2_with fail;refine(sV t m' f X HX.out _ HoF.out (HT.out.below Hb.out)).mono ?_;rintro e w5 ⟨rfl,ae⟩;clear r0 aj r1 ak r2 aF o0 o1 o2;obtain⟨Hr,r0,aj,r1,ak,r2,aF⟩:=aN Hr ae;obtain⟨Ho,o0,o1,o2⟩:=aQ Ho ae;replace Hb:=aB Hb ae;clear ae;go_wp2;clear r0 aj r1 ak r2 aF o0 o1 o2;refine dW (bC w5 (w.heap.size) 0 [ag (au (dN X)),ah (nt (dN X).natAbs),af (dE X)]) bJ ?_;intro w9 hs;replace Hr:=bP Hr hs;replace Ho:=kS Ho hs zo;obtain⟨r0,aj,r1,ak,r2,aF⟩:=Hr.out.g3;obtain⟨o0,o1,o2⟩:=Ho.out.c3;replace Hb:=bS Hb hs ZS;clear hs;refine bodyPost_ret (v:=bL X) (by simp[results,Tryz.results221,go_sem,r0,r1,r2]) rfl ⟨rfl,Hb.out⟩
def vY (a b:Dyadic):Bool:=decide (bA (a-b)<0)
def wh (a b:Dyadic):Bool:=decide (0<bA (a-b))
theorem Pb (a b:Dyadic):bA (a-b)<0↔0<bA (b-a):=by rw[zG,Kf];grind
theorem amV (x y:Raw):az (kj vY [x,y] 2)=(js (az x,az y)).1:=by
 have e:kj vY [x,y] 2=if vY (az y) (az x)=true then y else x:=by
  show(if(1:Nat)=0\/vY (az y) (az x)=true then y else x)=_
  simp
 rw[e];unfold vY js;by_cases h:bA (az y-az x)<0
 . rw[if_pos (by simpa using h),if_pos ((Pb _ _).1 h)]
 . rw[if_neg (by simpa using h),if_neg (λh2=>h ((Pb _ _).2 h2))]
theorem anV (x y:Raw):az (kj wh [x,y] 2)=(js (az x,az y)).2:=by
 have e:kj wh [x,y] 2=if wh (az y) (az x)=true then y else x:=by
  show(if(1:Nat)=0\/wh (az y) (az x)=true then y else x)=_
  simp
 rw[e];unfold wh js;by_cases h:0<bA (az y-az x)
 . rw[if_pos (by simpa using h),if_neg (λh2=>by have:=(Pb (az y) (az x)).2 h2;omega)]
 . rw[if_neg (by simpa using h)];by_cases h2:0<bA (az x-az y)
   . rw[if_pos h2]
   . rw[if_neg h2];rw[Kf]at h h2;show az x=az y
     grind
theorem anM (s:Bool)(l:List UInt8)(e:Int)(t:Bool)(m:List UInt8)(f:Int)(w:World)(hx:Ok (s,l,e))(hy:Ok (t,m,f))(hT:aH w):
 Calls Tryz.prog 222 #[.agg #[ag s,ah l,af e],.agg #[ag t,ah m,af f]] w λe' w'=>e'=.returned (ag (vY (az (s,l,e)) (az (t,m,f))))/\Bw w w':=by
 obtain⟨c,hc⟩:=aG (bA (az (s,l,e)-az (t,m,f)));obtain⟨Gx,Gy,Hc,HT⟩:=dx hx hy hc hT;unfold vY;rw[hc];clear hx hy hc hT;obtain⟨W,cg,Hb,Hx,Hy⟩:=iq w 39 [ag s,ah l,af e] 39 [ag t,ah m,af f];obtain⟨x0,x1,x2⟩:=Hx.out.c3;obtain⟨y0,y1,y2⟩:=Hy.out.c3;go_enter Tryz.func222,Tryz.ntmps222;go_wp2_with fail;refine(vD s l e t m f c Hc.out _ Gx.out Gy.out (HT.out.below Hb.out)).mono ?_;rintro e w1 ⟨rfl,ae⟩;clear x0 x1 x2 y0 y1 y2;obtain⟨Hx,x0,x1,x2⟩:=aQ Hx ae;obtain⟨Hy,y0,y1,y2⟩:=aQ Hy ae;replace Hb:=aB Hb ae;clear ae;go_wp2;refine bodyPost_ret (results_tmp rfl _ _ _) rfl ⟨rfl,Hb.out⟩
theorem anI (s:Bool)(l:List UInt8)(e:Int)(t:Bool)(m:List UInt8)(f:Int)(w:World)(hx:Ok (s,l,e))(hy:Ok (t,m,f))(hT:aH w):
 Calls Tryz.prog 223 #[.agg #[ag s,ah l,af e],.agg #[ag t,ah m,af f]] w λe' w'=>e'=.returned (ag (wh (az (s,l,e)) (az (t,m,f))))/\Bw w w':=by
 obtain⟨c,hc⟩:=aG (bA (az (s,l,e)-az (t,m,f)));obtain⟨Gx,Gy,Hc,HT⟩:=dx hx hy hc hT;unfold wh;rw[hc];clear hx hy hc hT;obtain⟨W,cg,Hb,Hx,Hy⟩:=iq w 39 [ag s,ah l,af e] 39 [ag t,ah m,af f];obtain⟨x0,x1,x2⟩:=Hx.out.c3;obtain⟨y0,y1,y2⟩:=Hy.out.c3;go_enter Tryz.func223,Tryz.ntmps223;go_wp2_with fail;refine(vD s l e t m f c Hc.out _ Gx.out Gy.out (HT.out.below Hb.out)).mono ?_;rintro e w1 ⟨rfl,ae⟩;clear x0 x1 x2 y0 y1 y2;obtain⟨Hx,x0,x1,x2⟩:=aQ Hx ae;obtain⟨Hy,y0,y1,y2⟩:=aQ Hy ae;replace Hb:=aB Hb ae;clear ae;go_wp2;refine bodyPost_ret (results_tmp rfl _ _ _) rfl ⟨rfl,Hb.out⟩
theorem ajt (xs:List Raw)(X:Dyadic)(a:Option Addr)(n cap:Nat)(w:World)(hn:xs.length=n)(hl:n<=1048576)(h:∀x∈xs,Ok x)(ha:At w a (xs.flatMap bI))(hT:aH w)(hX:az (kj vY xs n)=X):
 Calls Tryz.prog 214 #[.slice a n cap] w λe w'=>e=.returned (bL X)/\Bw w w':=by
 have hf:=λW (hW:Bw w W)=>Xj 222 vY xs a n cap W hn hl h (ha.below hW) (hT.below hW) (enters_of Tryz.func222 zk rfl) (λs l e t m f h1 h2 W hW=>anM s l e t m f W h1 h2 hW);rw[hX]at hf;have Hf:=ai hf;clear hf ha h hT hn hX;obtain⟨W,cg,Hb,Hr⟩:=fJ w 39 [ag false,.string ⟨#[]⟩,af 0];obtain⟨r0,aj,r1,ak,r2,aF⟩:=Hr.out.g3;go_enter Tryz.func214,Tryz.ntmps214;go_wp2_with fail;refine(Hf.out _ Hb.out).mono ?_;rintro e w1 ⟨rfl,ae⟩;clear r0 aj r1 ak r2 aF;obtain⟨Hr,r0,aj,r1,ak,r2,aF⟩:=aN Hr ae;replace Hb:=aB Hb ae;clear ae;go_wp2;clear r0 aj r1 ak r2 aF;refine dW (bC w1 (w.heap.size) 0 [ag (au (dN X)),ah (nt (dN X).natAbs),af (dE X)]) bJ ?_;intro w9 hs;replace Hr:=bP Hr hs;obtain⟨r0,aj,r1,ak,r2,aF⟩:=Hr.out.g3;replace Hb:=bS Hb hs ZS;clear hs;refine bodyPost_ret (v:=bL X) (by simp[results,Tryz.results214,go_sem,r0,r1,r2]) rfl ⟨rfl,Hb.out⟩
theorem ajs (xs:List Raw)(X:Dyadic)(a:Option Addr)(n cap:Nat)(w:World)(hn:xs.length=n)(hl:n<=1048576)(h:∀x∈xs,Ok x)(ha:At w a (xs.flatMap bI))(hT:aH w)(hX:az (kj wh xs n)=X):
 Calls Tryz.prog 215 #[.slice a n cap] w λe w'=>e=.returned (bL X)/\Bw w w':=by
 have hf:=λW (hW:Bw w W)=>Xj 223 wh xs a n cap W hn hl h (ha.below hW) (hT.below hW) (enters_of Tryz.func223 zk rfl) (λs l e t m f h1 h2 W hW=>anI s l e t m f W h1 h2 hW);rw[hX]at hf;have Hf:=ai hf;clear hf ha h hT hn hX;obtain⟨W,cg,Hb,Hr⟩:=fJ w 39 [ag false,.string ⟨#[]⟩,af 0];obtain⟨r0,aj,r1,ak,r2,aF⟩:=Hr.out.g3;go_enter Tryz.func215,Tryz.ntmps215;go_wp2_with fail;refine(Hf.out _ Hb.out).mono ?_;rintro e w1 ⟨rfl,ae⟩;clear r0 aj r1 ak r2 aF;obtain⟨Hr,r0,aj,r1,ak,r2,aF⟩:=aN Hr ae;replace Hb:=aB Hb ae;clear ae;go_wp2;clear r0 aj r1 ak r2 aF;refine dW (bC w1 (w.heap.size) 0 [ag (au (dN X)),ah (nt (dN X).natAbs),af (dE X)]) bJ ?_;intro w9 hs;replace Hr:=bP Hr hs;obtain⟨r0,aj,r1,ak,r2,aF⟩:=Hr.out.g3;replace Hb:=bS Hb hs ZS;clear hs;refine bodyPost_ret (v:=bL X) (by simp[results,Tryz.results215,go_sem,r0,r1,r2]) rfl ⟨rfl,Hb.out⟩
theorem aqE (s:Bool)(l:List UInt8)(e:Int)(t:Bool)(m:List UInt8)(f:Int)(p:Pr)(hp:js (az (s,l,e),az (t,m,f))=p)(b cap:Nat)(ty:TypeId)(w:World)(hx:Ok (s,l,e))(hy:Ok (t,m,f))
 (ha:ar w b ty [ag s,ah l,af e,ag t,ah m,af f]) (hT:aH w):
 Calls Tryz.prog 199 #[.slice (some ⟨b,0,none⟩) 2 cap] w λe w'=>e=.returned (yr p)/\Bw w w':=by
 obtain⟨p1,p2⟩:=p;have hok:∀x∈[(s,l,e),(t,m,f)],Ok x:=by intro x h;simp at h;rcases h with rfl|rfl;exact hx;exact hy
 have hat:At w (some ⟨b,0,none⟩) ([(s,l,e),(t,m,f)].flatMap bI):=At.aw2 ha;have h1:=λW (hW:Bw w W)=>ajt [(s,l,e),(t,m,f)] p1 (some ⟨b,0,none⟩) 2 cap W rfl zo hok (hat.below hW) (hT.below hW) (by rw[amV,hp]);have h2:=λW (hW:Bw w W)=>ajs [(s,l,e),(t,m,f)] p2 (some ⟨b,0,none⟩) 2 cap W rfl zo hok (hat.below hW) (hT.below hW) (by rw[anV,hp]);obtain⟨H1,H2⟩:=aO h1 h2;clear h1 h2 hok hat ha hT hx hy hp;obtain⟨W,cg,Hb,Hr⟩:=fJ w 61 [ag false,.string ⟨#[]⟩,af 0,ag false,.string ⟨#[]⟩,af 0];obtain⟨r0,aj,r1,ak,r2,aF,r3,cj,r4,cB,r5,jh⟩:=Hr.out.g6;go_enter Tryz.func199,Tryz.ntmps199;go_wp2_with fail;refine(H1.out _ Hb.out).mono ?_;rintro e w1 ⟨rfl,ae⟩;clear r0 aj r1 ak r2 aF r3 cj r4 cB r5 jh;replace Hr:=kB Hr ae;obtain⟨r0,aj,r1,ak,r2,aF,r3,cj,r4,cB,r5,jh⟩:=Hr.out.g6;replace Hb:=aB Hb ae;clear ae;go_wp2_with fail;refine(H2.out _ Hb.out).mono ?_;rintro e w2 ⟨rfl,ae⟩;clear r0 aj r1 ak r2 aF r3 cj r4 cB r5 jh;replace Hr:=kB Hr ae;obtain⟨r0,aj,r1,ak,r2,aF,r3,cj,r4,cB,r5,jh⟩:=Hr.out.g6;replace Hb:=aB Hb ae;clear ae;go_wp2;clear r0 aj r1 ak r2 aF r3 cj r4 cB r5 jh;refine dW (bC w2 (w.heap.size) 0 [ag (au (dN p1)),ah (nt (dN p1).natAbs),af (dE p1),ag (au (dN p2)),ah (nt (dN p2).natAbs),af (dE p2)]) bJ ?_;intro w9 hs;replace Hr:=bP Hr hs;obtain⟨r0,aj,r1,ak,r2,aF,r3,cj,r4,cB,r5,jh⟩:=Hr.out.g6;replace Hb:=bS Hb hs ZS;clear hs;refine bodyPost_ret (v:=yr (p1,p2)) (by simp[results,Tryz.results199,go_sem,r0,r1,r2,r3,r4,r5]) rfl ⟨rfl,Hb.out⟩
theorem acS (s:Bool)(l:List UInt8)(e:Int)(t:Bool)(m:List UInt8)(f:Int)(p:Pr)(hp:js (az (s,l,e),az (t,m,f))=p)(w:World)(hx:Ok (s,l,e))(hy:Ok (t,m,f))(hT:aH w):
 Calls Tryz.prog 169 #[.agg #[ag s,ah l,af e,ag t,ah m,af f]] w λe w'=>e=.returned (yr p)/\Bw w w':=by
 obtain⟨Hp,Gx,Gy,HT⟩:=dx hp hx hy hT;clear hp hx hy hT;obtain⟨p1,p2⟩:=p;obtain⟨W,cg,Hb,Hx,Hr⟩:=iq w 61 [ag s,ah l,af e,ag t,ah m,af f] 196 [ag false,.string ⟨#[]⟩,af 0,ag false,.string ⟨#[]⟩,af 0];obtain⟨x0,x1,x2,x3,x4,x5⟩:=Hx.out.c6;obtain⟨r0,aj,r1,ak,r2,aF,r3,cj,r4,cB,r5,jh⟩:=Hr.out.g6;go_enter Tryz.func169,Tryz.ntmps169;have K0:=x0;have K1:=x1;have K2:=x2;have K3:=x3;have K4:=x4;have K5:=x5;have abu:=Hx.out.lt;have qK:=Hr.out.lt;obtain⟨W2,mM,ae,Hv⟩:=cd W 39 [ag s,ah l,af e,ag t,ah m,af f];clear x0 x1 x2 x3 x4 x5;replace Hx:=kB Hx ae;clear r0 aj r1 ak r2 aF r3 cj r4 cB r5 jh;replace Hr:=kB Hr ae;obtain⟨x0,x1,x2,x3,x4,x5⟩:=Hx.out.c6;obtain⟨r0,aj,r1,ak,r2,aF,r3,cj,r4,cB,r5,jh⟩:=Hr.out.g6;obtain⟨v0,v1,v2,v3,v4,v5⟩:=Hv.out.c6;replace Hb:=aB Hb ae;clear ae;go_wp2_with fail;refine(aqE s l e t m f (p1,p2) Hp.out W.heap.size 2 39 _ Gx.out Gy.out Hv.out (HT.out.below Hb.out)).mono ?_;rintro e w3 ⟨rfl,ae⟩;clear x0 x1 x2 x3 x4 x5 r0 aj r1 ak r2 aF r3 cj r4 cB r5 jh v0 v1 v2 v3 v4 v5;obtain⟨Hx,x0,x1,x2,x3,x4,x5⟩:=fU Hx ae;replace Hr:=kB Hr ae;obtain⟨Hv,v0,v1,v2,v3,v4,v5⟩:=fU Hv ae;obtain⟨r0,aj,r1,ak,r2,aF,r3,cj,r4,cB,r5,jh⟩:=Hr.out.g6;replace Hb:=aB Hb ae;clear ae;go_wp2;clear x0 x1 x2 x3 x4 x5 r0 aj r1 ak r2 aF r3 cj r4 cB r5 jh v0 v1 v2 v3 v4 v5;refine dW (bC w3 (w.heap.size+1) 0 [ag (au (dN p1)),ah (nt (dN p1).natAbs),af (dE p1),ag (au (dN p2)),ah (nt (dN p2).natAbs),af (dE p2)]) bJ ?_;intro w9 hs;replace Hx:=kS Hx hs zo;replace Hr:=bP Hr hs;replace Hv:=kS Hv hs zo;obtain⟨x0,x1,x2,x3,x4,x5⟩:=Hx.out.c6;obtain⟨r0,aj,r1,ak,r2,aF,r3,cj,r4,cB,r5,jh⟩:=Hr.out.g6;obtain⟨v0,v1,v2,v3,v4,v5⟩:=Hv.out.c6;replace Hb:=bS Hb hs ZS;clear hs;refine bodyPost_ret (v:=yr (p1,p2)) (by simp[results,Tryz.results169,go_sem,r0,r1,r2,r3,r4,r5]) rfl ⟨rfl,Hb.out⟩
theorem aqC (s:Bool)(l:List UInt8)(e:Int)(t:Bool)(m:List UInt8)(f:Int)(p:Pr)(hp:js (az (s,l,e),az (t,m,f))=p)(w:World)(hx:Ok (s,l,e))(hy:Ok (t,m,f))(hT:aH w):
 Calls Tryz.prog 170 #[.agg #[ag s,ah l,af e,ag t,ah m,af f]] w λe w'=>e=.returned (yr p)/\Bw w w':=by
 obtain⟨Hp,Gx,Gy,HT⟩:=dx hp hx hy hT;clear hp hx hy hT;obtain⟨p1,p2⟩:=p;obtain⟨W,cg,Hb,Hx,Hr⟩:=iq w 61 [ag s,ah l,af e,ag t,ah m,af f] 61 [ag false,.string ⟨#[]⟩,af 0,ag false,.string ⟨#[]⟩,af 0];obtain⟨x0,x1,x2,x3,x4,x5⟩:=Hx.out.c6;obtain⟨r0,aj,r1,ak,r2,aF,r3,cj,r4,cB,r5,jh⟩:=Hr.out.g6;go_enter Tryz.func170,Tryz.ntmps170;have hfd:∀W,(Instr.field 196 (yr (p1,p2)) 0).run Tryz.prog W=.ok (yr (p1,p2)) W:=λW=>by kernel_rfl
 go_wp2_with fail;refine(acS s l e t m f (p1,p2) Hp.out _ Gx.out Gy.out (HT.out.below Hb.out)).mono ?_;rintro e w3 ⟨rfl,ae⟩;clear x0 x1 x2 x3 x4 x5 r0 aj r1 ak r2 aF r3 cj r4 cB r5 jh;obtain⟨Hx,x0,x1,x2,x3,x4,x5⟩:=fU Hx ae;replace Hr:=kB Hr ae;obtain⟨r0,aj,r1,ak,r2,aF,r3,cj,r4,cB,r5,jh⟩:=Hr.out.g6;replace Hb:=aB Hb ae;clear ae;go_wp2;clear x0 x1 x2 x3 x4 x5 r0 aj r1 ak r2 aF r3 cj r4 cB r5 jh;refine dW (bC w3 (w.heap.size+1) 0 [ag (au (dN p1)),ah (nt (dN p1).natAbs),af (dE p1),ag (au (dN p2)),ah (nt (dN p2).natAbs),af (dE p2)]) bJ ?_;intro w9 hs;replace Hx:=kS Hx hs zo;replace Hr:=bP Hr hs;obtain⟨x0,x1,x2,x3,x4,x5⟩:=Hx.out.c6;obtain⟨r0,aj,r1,ak,r2,aF,r3,cj,r4,cB,r5,jh⟩:=Hr.out.g6;replace Hb:=bS Hb hs ZS;clear hs;refine bodyPost_ret (v:=yr (p1,p2)) (by simp[results,Tryz.results170,go_sem,r0,r1,r2,r3,r4,r5]) rfl ⟨rfl,Hb.out⟩
theorem acR (s:Bool)(l:List UInt8)(e:Int)(t:Bool)(m:List UInt8)(f:Int)(B:Nat)(D:Dyadic)(hD:Bl (az (s,l,e),az (t,m,f))=D)(w:World)(hx:Fit B (s,l,e))(hy:Fit B (t,m,f))(hB:B<=100000000)(hT:aH w):
 Calls Tryz.prog 120 #[.agg #[ag s,ah l,af e,ag t,ah m,af f]] w λe w'=>e=.returned (bL D)/\Bw w w':=by
 obtain⟨⟨p1,p2⟩,hp⟩:∃p,js (az (s,l,e),az (t,m,f))=p:=⟨_,rfl⟩;have hs:=yo (p:=(az (s,l,e),az (t,m,f))) ⟨hx.2,hy.2⟩;unfold Bl at hD;rw[hp]at hD hs;have Zc:Fit B (au (dN p1),nt (dN p1).natAbs,dE p1):=hs.1.fit zo;have hf2:Fit B (au (dN p2),nt (dN p2).natAbs,dE p2):=hs.2.fit zo;have hS:az (au (dN p2),nt (dN p2).natAbs,dE p2)-az (au (dN p1),nt (dN p1).natAbs,dE p1)=D:=by
  show az (canon p2)-az (canon p1)=D
  rw[bD,bD];exact hD
 obtain⟨Hp,Gx,Gy,HT,H1,H2,HS⟩:=jT hp hx.1 hy.1 hT Zc hf2 hS;clear hp hx hy hT hs hD Zc hf2 hS;obtain⟨W,cg,Hb,Hx,Hr⟩:=iq w 61 [ag s,ah l,af e,ag t,ah m,af f] 39 [ag false,.string ⟨#[]⟩,af 0];obtain⟨x0,x1,x2,x3,x4,x5⟩:=Hx.out.c6;obtain⟨r0,aj,r1,ak,r2,aF⟩:=Hr.out.g3;go_enter Tryz.func120,Tryz.ntmps120;go_wp2_with fail;refine(acS s l e t m f (p1,p2) Hp.out _ Gx.out Gy.out (HT.out.below Hb.out)).mono ?_;rintro e w3 ⟨rfl,ae⟩;clear x0 x1 x2 x3 x4 x5 r0 aj r1 ak r2 aF;obtain⟨Hx,x0,x1,x2,x3,x4,x5⟩:=fU Hx ae;obtain⟨Hr,r0,aj,r1,ak,r2,aF⟩:=aN Hr ae;replace Hb:=aB Hb ae;clear ae;have anA:=Hx.out.lt;have GZ:=Hr.out.lt;obtain⟨W4,lU,ae,Hy⟩:=cd w3 196 [ag (au (dN p1)),ah (nt (dN p1).natAbs),af (dE p1),ag (au (dN p2)),ah (nt (dN p2).natAbs),af (dE p2)];clear x0 x1 x2 x3 x4 x5;replace Hx:=kB Hx ae;clear r0 aj r1 ak r2 aF;obtain⟨Hr,r0,aj,r1,ak,r2,aF⟩:=aN Hr ae;obtain⟨x0,x1,x2,x3,x4,x5⟩:=Hx.out.c6;obtain⟨y0,y1,y2,y3,y4,y5⟩:=Hy.out.c6;replace Hb:=aB Hb ae;clear ae;go_wp2_with fail;refine(EZ _ _ _ _ _ _ D B HS.out _ H2.out H1.out zo (HT.out.below Hb.out)).mono ?_;rintro e w5 ⟨rfl,ae⟩;clear x0 x1 x2 x3 x4 x5 r0 aj r1 ak r2 aF y0 y1 y2 y3 y4 y5;obtain⟨Hx,x0,x1,x2,x3,x4,x5⟩:=fU Hx ae;obtain⟨Hr,r0,aj,r1,ak,r2,aF⟩:=aN Hr ae;obtain⟨Hy,y0,y1,y2,y3,y4,y5⟩:=fU Hy ae;replace Hb:=aB Hb ae;clear ae;go_wp2;clear x0 x1 x2 x3 x4 x5 r0 aj r1 ak r2 aF y0 y1 y2 y3 y4 y5;refine dW (bC w5 (w.heap.size+1) 0 [ag (au (dN D)),ah (nt (dN D).natAbs),af (dE D)]) bJ ?_;intro w9 hs;replace Hx:=kS Hx hs zo;replace Hr:=bP Hr hs;replace Hy:=kS Hy hs zo;obtain⟨x0,x1,x2,x3,x4,x5⟩:=Hx.out.c6;obtain⟨r0,aj,r1,ak,r2,aF⟩:=Hr.out.g3;obtain⟨y0,y1,y2,y3,y4,y5⟩:=Hy.out.c6;replace Hb:=bS Hb hs ZS;clear hs;refine bodyPost_ret (v:=bL D) (by simp[results,Tryz.results120,go_sem,r0,r1,r2]) rfl ⟨rfl,Hb.out⟩
theorem aqD (s:Bool)(l:List UInt8)(e:Int)(t:Bool)(m:List UInt8)(f:Int)(B:Nat)(X:Dyadic)(hX:qN (az (s,l,e),az (t,m,f))=X)(w:World)(hx:Fit B (s,l,e))(hy:Fit B (t,m,f))(hB:B<=100000000)(hT:aH w):
 Calls Tryz.prog 122 #[.agg #[ag s,ah l,af e,ag t,ah m,af f]] w λe w'=>e=.returned (bL X)/\Bw w w':=by
 obtain⟨D,hD⟩:=aG (az (s,l,e)+az (t,m,f));have XF:Ok (au (dN D),nt (dN D).natAbs,dE D):=by rw[<-hD];exact((Sm.add hx.2 hy.2).fit zo).1
 have pX:az (au (dN D),nt (dN D).natAbs,dE D+ -1)=X:=by rw[<-hX];unfold qN;rw[hD];exact acJ D 1
 obtain⟨HD,HX,Gx,Gy,HT,HDo⟩:=gW hD pX hx hy hT XF;clear hD hX pX hx hy hT XF;obtain⟨W,cg,Hb,Hx,Hr⟩:=iq w 61 [ag s,ah l,af e,ag t,ah m,af f] 39 [ag false,.string ⟨#[]⟩,af 0];obtain⟨x0,x1,x2,x3,x4,x5⟩:=Hx.out.c6;obtain⟨r0,aj,r1,ak,r2,aF⟩:=Hr.out.g3;go_enter Tryz.func122,Tryz.ntmps122;have K0:=x0;have K1:=x1;have K2:=x2;have K3:=x3;have K4:=x4;have K5:=x5;have abu:=Hx.out.lt;have qK:=Hr.out.lt;obtain⟨W2,mM,ae,Hv⟩:=cd W 39 [ag s,ah l,af e,ag t,ah m,af f];clear x0 x1 x2 x3 x4 x5;replace Hx:=kB Hx ae;clear r0 aj r1 ak r2 aF;obtain⟨Hr,r0,aj,r1,ak,r2,aF⟩:=aN Hr ae;obtain⟨x0,x1,x2,x3,x4,x5⟩:=Hx.out.c6;obtain⟨v0,v1,v2,v3,v4,v5⟩:=Hv.out.c6;replace Hb:=aB Hb ae;clear ae;go_wp2_with fail;refine(Cq s l e t m f D B HD.out W.heap.size 2 39 _ Gx.out Gy.out zo Hv.out (HT.out.below Hb.out)).mono ?_;rintro e w3 ⟨rfl,ae⟩;clear x0 x1 x2 x3 x4 x5 r0 aj r1 ak r2 aF v0 v1 v2 v3 v4 v5;obtain⟨Hx,x0,x1,x2,x3,x4,x5⟩:=fU Hx ae;obtain⟨Hr,r0,aj,r1,ak,r2,aF⟩:=aN Hr ae;obtain⟨Hv,v0,v1,v2,v3,v4,v5⟩:=fU Hv ae;replace Hb:=aB Hb ae;clear ae;go_wp2_with fail;refine(Mh _ _ _ (-1) X HX.out _ HDo.out zd (HT.out.below Hb.out)).mono ?_;rintro e w4 ⟨rfl,ae⟩;clear x0 x1 x2 x3 x4 x5 r0 aj r1 ak r2 aF v0 v1 v2 v3 v4 v5;obtain⟨Hx,x0,x1,x2,x3,x4,x5⟩:=fU Hx ae;obtain⟨Hr,r0,aj,r1,ak,r2,aF⟩:=aN Hr ae;obtain⟨Hv,v0,v1,v2,v3,v4,v5⟩:=fU Hv ae;replace Hb:=aB Hb ae;clear ae;go_wp2;clear x0 x1 x2 x3 x4 x5 r0 aj r1 ak r2 aF v0 v1 v2 v3 v4 v5;refine dW (bC w4 (w.heap.size+1) 0 [ag (au (dN X)),ah (nt (dN X).natAbs),af (dE X)]) bJ ?_;intro w9 hs;replace Hx:=kS Hx hs zo;replace Hr:=bP Hr hs;replace Hv:=kS Hv hs zo;obtain⟨x0,x1,x2,x3,x4,x5⟩:=Hx.out.c6;obtain⟨r0,aj,r1,ak,r2,aF⟩:=Hr.out.g3;obtain⟨v0,v1,v2,v3,v4,v5⟩:=Hv.out.c6;replace Hb:=bS Hb hs ZS;clear hs;refine bodyPost_ret (v:=bL X) (by simp[results,Tryz.results122,go_sem,r0,r1,r2]) rfl ⟨rfl,Hb.out⟩
theorem aiU {bx:List Pr}{k:Nat}(hk:k<bx.length)(h:0<=bA ((bx.getD k (0,0)).1-(bx.getD k (0,0)).2)):lR bx=5:=by
 unfold lR;have hn:bx≠[]:=by intro e;rw[e]at hk;simp at hk
 rw[if_neg hn,if_pos];rw[List.any_eq_true];exact⟨bx[k],List.getElem_mem hk,by simp[hk]at h;simpa using h⟩
theorem aiV {bx:List Pr}(h:∀k,k<bx.length->¬0<=bA ((bx.getD k (0,0)).1-(bx.getD k (0,0)).2)):lR bx=if bx.length=0 then 1 else 0:=by
 unfold lR;by_cases hn:bx=[]
 . rw[if_pos hn,if_pos (by rw[hn];rfl)]
 . rw[if_neg hn,if_neg (λe=>hn (List.length_eq_zero_iff.1 e)),if_neg];rw[List.any_eq_true];rintro⟨p,hp,h2⟩;obtain⟨k,hk,rfl⟩:=List.mem_iff_getElem.1 hp;have:=h k hk;simp[hk]at this;simp at h2;omega
theorem Wt {bx:List Pr}(h:lR bx=0):bx≠[]/\∀p∈bx,bA (p.1-p.2)<0:=by
 unfold lR at h;by_cases hn:bx=[]
 . rw[if_pos hn]at h;cases h
 . refine⟨hn,λp hp=>?_⟩;rw[if_neg hn]at h;split at h
   . cases h
   . rename_i h2
     have:=List.any_eq_false.1 (Bool.not_eq_true _▸h2) p hp;simp at this;omega
def jK (B:Nat)(bx:List (Raw×Raw)):Prop:=∀s∈bx,Fit B s.1/\Fit B s.2
theorem Ti {bx:List (Raw×Raw)}{k:Nat}(hk:k<bx.length):(bx.map cN).getD k (0,0)=(az bx[k].1,az bx[k].2):=by simp[hk,cN]
theorem OG (a:Option Addr)(L cap B:Nat)(bx:List (Raw×Raw))(w:World)(hL:bx.length=L)(hl:L<=1048576)(hf:jK B bx)(ha:At w a (bx.flatMap dP))(hT:aH w):
 Calls Tryz.prog 32 #[.slice a L cap] w λe w'=>e=.returned (af (lR (bx.map cN)))/\Bw w w':=by
 obtain⟨R,hR⟩:=aG (lR (bx.map cN));have hno:∀k (h:k<bx.length),0<=bA (az bx[k].1-az bx[k].2)->R=5:=λk hk h=>by rw[<-hR];exact aiU (k:=k) (by simpa using hk) (by rw[Ti hk];exact h)
 have aaP:(∀k (h:k<bx.length),bA (az bx[k].1-az bx[k].2)<0)->R=if L=0 then 1 else 0:=λh=>by rw[<-hR,aiV (λk hk=>by rw[Ti (by simpa using hk)];have:=h k (by simpa using hk);dsimp only;omega),List.length_map,hL]
 rw[hR];obtain⟨Hno,ahc,Ha,HT,HL,Hf⟩:=gW hno aaP ha hT hL hf;clear hno aaP ha hT hL hf hR;have Hb:Hid (Bw w w):=Below.refl _ _;go_enter Tryz.func32,Tryz.ntmps32;go_wp2_with fail;go_loopw[7] (λx wr=>∃k:Nat,k<=L/\x=af (k:Int)/\(∀j (h:j<bx.length),j<k->bA (az bx[j].1-az bx[j].2)<0)/\Bw w wr) (λx _=>L-(intOf x).toNat);case atStart=>exact⟨0,Nat.zero_le _,rfl,λj _ h=>absurd h (Nat.not_lt_zero _),Hb.out⟩
 case round=>
  clear Hb;obtain⟨k,hk,rfl,hall,pb⟩:=hrel;by_cases hlt:k<L
  . have gA:k<bx.length:=by rw[HL.out];exact hlt
    obtain⟨s,m,e,t,n,f,hx⟩:∃s m e t n f,bx[k]=((s,m,e),(t,n,f)):=⟨_,_,_,_,_,_,rfl⟩;obtain⟨b,o,hab,hp⟩:=(Ha.out.below pb).spn k gA hx;have bK:=CV L cap k (k:Int) hab hlt rfl;have ma:=Hf.out _ (List.getElem_mem gA);rw[hx]at ma;obtain⟨c,hc⟩:=aG (bA (az (s,m,e)-az (t,n,f)));have dZ:bA (az bx[k].1-az bx[k].2)=c:=by rw[hx];exact hc
    obtain⟨Hp,Hc,jd,H1,H2,sA,Hb⟩:=jT hp hc dZ ma.1.1 ma.2.1 hall pb;clear hp hc dZ ma hall pb hab hx;have p0:wr.cell? ⟨b,o+k*6,none⟩=some (ag s):=Hp.out.cell 0 zm;have p1:wr.cell? ⟨b,o+k*6+1,none⟩=some (ah m):=Hp.out.cell 1 zm;have p2:wr.cell? ⟨b,o+k*6+2,none⟩=some (af e):=Hp.out.cell 2 zm;have p3:wr.cell? ⟨b,o+k*6+3,none⟩=some (ag t):=Hp.out.cell 3 zm;have p4:wr.cell? ⟨b,o+k*6+4,none⟩=some (ah n):=Hp.out.cell 4 zm;have p5:wr.cell? ⟨b,o+k*6+5,none⟩=some (af f):=Hp.out.cell 5 zm;have Ca:=p0;have Cb:=p1;have Cc:=p2;have Ce:=p3;have Cf:=p4;have Cg:=p5;obtain⟨W4,lU,ae,Hu⟩:=cd wr 61 [ag s,ah m,af e,ag t,ah n,af f];clear p0 p1 p2 p3 p4 p5;replace Hp:=kW Hp ae;have p0:W4.cell? ⟨b,o+k*6,none⟩=some (ag s):=Hp.out.cell 0 zm;have p1:W4.cell? ⟨b,o+k*6+1,none⟩=some (ah m):=Hp.out.cell 1 zm;have p2:W4.cell? ⟨b,o+k*6+2,none⟩=some (af e):=Hp.out.cell 2 zm;have p3:W4.cell? ⟨b,o+k*6+3,none⟩=some (ag t):=Hp.out.cell 3 zm;have p4:W4.cell? ⟨b,o+k*6+4,none⟩=some (ah n):=Hp.out.cell 4 zm;have p5:W4.cell? ⟨b,o+k*6+5,none⟩=some (af f):=Hp.out.cell 5 zm;obtain⟨u0,u1,u2,u3,u4,u5⟩:=Hu.out.c6;replace Hb:=aB Hb ae;clear ae;go_wp2_with fail;refine(vD s m e t n f c Hc.out _ H1.out H2.out (HT.out.below Hb.out)).mono ?_;rintro e w5 ⟨rfl,ae⟩;clear p0 p1 p2 p3 p4 p5 u0 u1 u2 u3 u4 u5;replace Hp:=kW Hp ae;replace Hu:=kB Hu ae;have p0:w5.cell? ⟨b,o+k*6,none⟩=some (ag s):=Hp.out.cell 0 zm;have p1:w5.cell? ⟨b,o+k*6+1,none⟩=some (ah m):=Hp.out.cell 1 zm;have p2:w5.cell? ⟨b,o+k*6+2,none⟩=some (af e):=Hp.out.cell 2 zm;have p3:w5.cell? ⟨b,o+k*6+3,none⟩=some (ag t):=Hp.out.cell 3 zm;have p4:w5.cell? ⟨b,o+k*6+4,none⟩=some (ah n):=Hp.out.cell 4 zm;have p5:w5.cell? ⟨b,o+k*6+5,none⟩=some (af f):=Hp.out.cell 5 zm;obtain⟨u0,u1,u2,u3,u4,u5⟩:=Hu.out.c6;replace Hb:=aB Hb ae;clear ae Ca Cb Cc Ce Cf Cg p0 p1 p2 p3 p4 p5 u0 u1 u2 u3 u4 u5;by_cases hc0:0<=c
    . obtain rfl:=Hno.out k gA (by rw[jd.out];exact hc0);go_wp2;refine bodyPost_ret (results_tmp rfl _ _ _) rfl ⟨rfl,Hb.out⟩
    . go_wp2;go_roundw;case rel=>
       refine⟨k+1,by omega,by go_num,λj h hj=>?_,Hb.out⟩;by_cases hjk:j=k
       . subst hjk;rw[jd.out];omega
       . exact sA.out j h zo
      case measure=>simp[intOf];omega
  . obtain rfl:k=L:=by omega
    have hR:=ahc.out (λj h=>hall j h (by rw[<-HL.out];exact h));have Hb:=ai pb;clear pb hall;by_cases h0:k=0
    . subst h0;rw[if_pos rfl]at hR;subst hR;go_wp2;refine bodyPost_ret (results_tmp rfl _ _ _) rfl ⟨rfl,Hb.out⟩
    . rw[if_neg h0]at hR;subst hR;have h1:((k:Int)==0)=false:=by simpa using h0
      go_wp2;refine bodyPost_ret (results_tmp rfl _ _ _) rfl ⟨rfl,Hb.out⟩
theorem Tryz.axa :(Tryz.prog.info? 61).map (λi=>(i.zero,i.size,i.bytes))=some (some (.agg #[ag false,.string (bs []),af 0,ag false,.string (bs []),af 0]),6,64):=by kernel_rfl
def ou (s:Raw×Raw):Raw×Raw:=fw (js (cN s))
theorem aqB (bx:List (Raw×Raw))(k:Nat)(hk:k<bx.length):((bx.map ou).take (k+1)).flatMap dP=((bx.map ou).take k).flatMap dP++dP (ou bx[k]):=by rw[List.take_succ_eq_append_getElem (by simpa using hk),List.flatMap_append];simp
theorem ain (a:Option Addr)(L cap B:Nat)(bx:List (Raw×Raw))(w:World)(hL:bx.length=L)(hl:L<=1000)(hf:jK B bx)(ha:At w a (bx.flatMap dP))(hT:aH w):
 Calls Tryz.prog 121 #[.slice a L cap] w λe w'=>∃a' c',e=.returned (.slice a' L c')/\At w' a' ((bx.map ou).flatMap dP)/\Bw w w':=by
 obtain⟨i0,hi,hz0,hz1,hz2⟩:=info_parts Tryz.axa;obtain⟨Hi,dF,dG,dm,Ha,HT,HL,Hf⟩:=nZ hi hz0 hz1 hz2 ha hT hL hf;clear hi hz0 hz1 hz2 ha hT hL hf;have Hb:Hid (Bw w w):=Below.refl _ _;go_enter Tryz.func121,Tryz.ntmps121;go_wp2_with fail;go_loopw[3,8] (λs3 x wr=>∃(k:Nat) (v:Value),k<=L/\x=af (k:Int)/\v=s3/\wr.ownsRow w.heap.size 61 6 v k (((bx.map ou).take k).flatMap dP)/\Bw w wr) (λ_ x _=>L-(intOf x).toNat);case atStart=>exact⟨0,_,Nat.zero_le _,rfl,rfl,World.ownsRow_nil _ _ _ _,Hb.out⟩
 case round=>
  clear Hb;obtain⟨k,v,hk,rfl,rfl,pv,pb⟩:=hrel;by_cases hlt:k<L
  . have gA:k<bx.length:=by rw[HL.out];exact hlt
    obtain⟨s,m,e,t,n,f,hx⟩:∃s m e t n f,bx[k]=((s,m,e),(t,n,f)):=⟨_,_,_,_,_,_,rfl⟩;obtain⟨b,o,hab,hp⟩:=(Ha.out.below pb).spn k gA hx;have bK:=CV L cap k (k:Int) hab hlt rfl;have ma:=Hf.out _ (List.getElem_mem gA);rw[hx]at ma;obtain⟨⟨y1,y2⟩,hq⟩:∃p,js (az (s,m,e),az (t,n,f))=p:=⟨_,rfl⟩;have hst:=aqB bx k gA;rw[hx,show ou ((s,m,e),(t,n,f))=(canon y1,canon y2)from by unfold ou cN;rw[hq];rfl]at hst;have GH:((bx.map ou).take (k+1)).flatMap dP=((bx.map ou).take k).flatMap dP++[ag (au (dN y1)),ah (nt (dN y1).natAbs),af (dE y1),ag (au (dN y2)),ah (nt (dN y2).natAbs),af (dE y2)]:=hst;obtain⟨Hp,Hq,H1,H2,fP,dS,bX⟩:=jT hp hq ma.1.1 ma.2.1 pb pv GH;have sz0:=pb.size;clear hp hq ma pb hab hx hst GH pv;have Hb:Hid (Bw wr wr):=Below.refl _ _;have p0:wr.cell? ⟨b,o+k*6,none⟩=some (ag s):=Hp.out.cell 0 zm;have p1:wr.cell? ⟨b,o+k*6+1,none⟩=some (ah m):=Hp.out.cell 1 zm;have p2:wr.cell? ⟨b,o+k*6+2,none⟩=some (af e):=Hp.out.cell 2 zm;have p3:wr.cell? ⟨b,o+k*6+3,none⟩=some (ag t):=Hp.out.cell 3 zm;have p4:wr.cell? ⟨b,o+k*6+4,none⟩=some (ah n):=Hp.out.cell 4 zm;have p5:wr.cell? ⟨b,o+k*6+5,none⟩=some (af f):=Hp.out.cell 5 zm;have Ca:=p0;have Cb:=p1;have Cc:=p2;have Ce:=p3;have Cf:=p4;have Cg:=p5;obtain⟨W4,lU,ae,Hc⟩:=cd wr 61 [ag s,ah m,af e,ag t,ah n,af f];clear p0 p1 p2 p3 p4 p5;replace Hp:=kW Hp ae;have p0:W4.cell? ⟨b,o+k*6,none⟩=some (ag s):=Hp.out.cell 0 zm;have p1:W4.cell? ⟨b,o+k*6+1,none⟩=some (ah m):=Hp.out.cell 1 zm;have p2:W4.cell? ⟨b,o+k*6+2,none⟩=some (af e):=Hp.out.cell 2 zm;have p3:W4.cell? ⟨b,o+k*6+3,none⟩=some (ag t):=Hp.out.cell 3 zm;have p4:W4.cell? ⟨b,o+k*6+4,none⟩=some (ah n):=Hp.out.cell 4 zm;have p5:W4.cell? ⟨b,o+k*6+5,none⟩=some (af f):=Hp.out.cell 5 zm;obtain⟨c0,c1,c2,c3,c4,c5⟩:=Hc.out.c6;replace Hb:=aB Hb ae;clear ae;go_wp2_with fail;refine(aqC s m e t n f (y1,y2) Hq.out _ H1.out H2.out (HT.out.below (aJ fP.out Hb.out))).mono ?_;rintro e w5 ⟨rfl,ae⟩;clear p0 p1 p2 p3 p4 p5 c0 c1 c2 c3 c4 c5;replace Hp:=kW Hp ae;replace Hc:=kB Hc ae;have p0:w5.cell? ⟨b,o+k*6,none⟩=some (ag s):=Hp.out.cell 0 zm;have p1:w5.cell? ⟨b,o+k*6+1,none⟩=some (ah m):=Hp.out.cell 1 zm;have p2:w5.cell? ⟨b,o+k*6+2,none⟩=some (af e):=Hp.out.cell 2 zm;have p3:w5.cell? ⟨b,o+k*6+3,none⟩=some (ag t):=Hp.out.cell 3 zm;have p4:w5.cell? ⟨b,o+k*6+4,none⟩=some (ah n):=Hp.out.cell 4 zm;have p5:w5.cell? ⟨b,o+k*6+5,none⟩=some (af f):=Hp.out.cell 5 zm;obtain⟨c0,c1,c2,c3,c4,c5⟩:=Hc.out.c6;replace Hb:=aB Hb ae;clear ae;have anl:=Hc.out.lt;obtain⟨W6,nO,ae,Hd⟩:=cd w5 61 [ag (au (dN y1)),ah (nt (dN y1).natAbs),af (dE y1),ag (au (dN y2)),ah (nt (dN y2).natAbs),af (dE y2)];clear p0 p1 p2 p3 p4 p5;replace Hp:=kW Hp ae;clear c0 c1 c2 c3 c4 c5;replace Hc:=kB Hc ae;have p0:W6.cell? ⟨b,o+k*6,none⟩=some (ag s):=Hp.out.cell 0 zm;have p1:W6.cell? ⟨b,o+k*6+1,none⟩=some (ah m):=Hp.out.cell 1 zm;have p2:W6.cell? ⟨b,o+k*6+2,none⟩=some (af e):=Hp.out.cell 2 zm;have p3:W6.cell? ⟨b,o+k*6+3,none⟩=some (ag t):=Hp.out.cell 3 zm;have p4:W6.cell? ⟨b,o+k*6+4,none⟩=some (ah n):=Hp.out.cell 4 zm;have p5:W6.cell? ⟨b,o+k*6+5,none⟩=some (af f):=Hp.out.cell 5 zm;obtain⟨c0,c1,c2,c3,c4,c5⟩:=Hc.out.c6;obtain⟨d0,d1,d2,d3,d4,d5⟩:=Hd.out.c6;replace Hb:=aB Hb ae;clear ae;have di:=ownsRow_below dS.out Hb.out;have jR:=Hb.out.size;have hnews:=ic Hd.out;clear Ca Cb Cc Ce Cf Cg
    clear d0 d1 d2 d3 d4 d5 p0 p1 p2 p3 p4 p5 c0 c1 c2 c3 c4 c5;go_wp2_with (at_builtin;refine wpList_append_own_at _ rfl _ _ 23 rfl w.heap.size 61 i0 _ 6 64 Tryz.underlying23 Hi.out dF.out dG.out dm.out rfl zd v k (((bx.map ou).take k).flatMap dP) rfl di ⟨w5.heap.size,0,none⟩ 1 1 [ag (au (dN y1)),ah (nt (dN y1).natAbs),af (dE y1),ag (au (dN y2)),ah (nt (dN y2).natAbs),af (dE y2)] rfl rfl hnews zy zx zo zo ?_;intro v' w7 eW fO _ _;obtain⟨g',oQ,rfl⟩:=ownsRow_succ eW);go_roundw;case rel=>
     refine⟨k+1,_,by omega,by go_num,rfl,?_,?_⟩
     . rw[bX.out];exact eW
     . exact(aJ fP.out Hb.out).grown fO zo (λj e=>dz di j e)
    case measure=>simp[intOf];omega
  . obtain rfl:k=L:=by omega
    rw[List.take_of_length_le (by rw[List.length_map,HL.out];exact Nat.le_refl _)]at pv;obtain⟨a2,c2,rfl,hat,_⟩:=eo pv;obtain⟨Hb,eH⟩:=aO pb hat;clear pb pv hat;go_wp2;refine bodyPost_ret (results_tmp rfl _ _ _) rfl ⟨a2,c2,rfl,eH.out,Hb.out⟩
theorem anT (c:Int)(n:Nat)(hc:c=n)(h:n<=1048576)(w:World):
 (Instr.makeSlice 23 (af c) (af c)).run Tryz.prog w=.ok (.slice (some ⟨w.heap.size,0,none⟩) n n) (w.alloc (.cells (madeCells (Value.agg #[ag false,.string (bs []),af 0,ag false,.string (bs []),af 0]).cells (n*6)) 61)):=by
 subst hc;obtain⟨i0,hi,hz0,hz1,hz2⟩:=info_parts Tryz.axa;rw[run_make (P:=Tryz.prog) w 23 61 i0 _ Tryz.underlying23 hi hz0 .i64 .i64 n n zo zo (by rw[hz2];omega) zo];simp only[Int.toNat_natCast,hz1]
theorem ajh (w:World)(L:Nat)(ad:Addr)(cap:Nat)(bx:List (Raw×Raw))(cur:Array Value)(CG:cur.size=L*6)(hL:bx.length=L)(hat:At w (some ad) (bx.flatMap dP))(ty:TypeId):
 (Builtin.copy_ #[23,23] ty #[.slice (some ⟨w.heap.size,0,none⟩) L L,.slice (some ad) L cap]).run Tryz.prog (w.alloc (.cells cur 61))=
  .ok (af (L:Int)) (w.alloc (.cells (bx.flatMap dP).toArray 61)):=by
 obtain⟨i0,hi,hz0,hz1,hz2⟩:=info_parts Tryz.axa;obtain⟨cs,hcs⟩:=aG (bx.flatMap dP);have hlen:cs.length=L*6:=by rw[<-hcs,Tg,hL]
 rw[hcs]at hat⊢;have hsrc:∀j v,cs[j]?=some v->(w.alloc (.cells cur 61)).cell? (ad.add j)=some v:=λj v hj=>by
  rcases hat with h0|⟨b,o,e',hc⟩
  . subst h0;simp at hj
  . simp only[Option.some.injEq]at e';subst e';have hjl:=(List.getElem?_eq_some_iff.1 hj).1;have e2:((⟨b,o,none⟩:Addr).add j)=⟨b,o+j,none⟩:=by unfold Addr.add;cases j<;>simp
    rw[e2];exact aL (by rw[hc j hjl];exact hj)
 have hl:=run_loadCells_list (P:=Tryz.prog) (w.alloc (.cells cur 61)) ad cs hsrc;have hst:=run_storeCells_at (P:=Tryz.prog) w.heap.size 0 61 cs 0 cur _ (heap_alloc_new w _) zo (by rw[<-hcs];exact aqz bx);have e:(List.take (0+0) cur.toList++cs++List.drop (0+0+cs.length) cur.toList)=cs:=by rw[List.drop_eq_nil_of_le zi];simp
 rw[e,World.setRow_alloc_new]at hst;rw[hlen]at hl;have hmin:Nat.min L L=L:=Nat.min_self L;simp[Builtin.copy_,run_underlying Tryz.underlying23,Builtin.lenOf,Builtin.firstCells,sizeOf,typeInfo,hi,hz1,hmin,hl,hst,goInt]
theorem aqA (bx:List (Raw×Raw))(i:Nat)(s t:Bool)(m n:List UInt8)(e f:Int):((((((bx.flatMap dP).set (i*6) (ag s)).set (i*6+1) (ah m)).set (i*6+2) (af e)).set (i*6+3) (ag t)).set (i*6+4) (ah n)).set (i*6+5) (af f)=(bx.set i ((s,m,e),(t,n,f))).flatMap dP:=by
 induction bx generalizing i with
 |nil=>simp
 | cons x bx ih=>
   obtain⟨⟨s',m',e'⟩,t',n',f'⟩:=x;have h:∀(y:Raw×Raw) zs,(y::zs).flatMap dP=ag y.1.1::ah y.1.2.1::af y.1.2.2::ag y.2.1::ah y.2.2.1::af y.2.2.2::zs.flatMap dP:=λy zs=>rfl;cases i with
   |zero=>rw[h];rfl
   |succ i=>rw[List.set_cons_succ,h,h,<-ih i,show(i+1) *6=i*6+1+1+1+1+1+1 by omega];rfl
theorem zu {w:World}{b:Nat}{t:TypeId}{cs:List Value}(h:ar w b t cs)(j:Nat)(hj:j<cs.length):w.cell? ⟨b,j,none⟩=some cs[j]/\w.frozen? ⟨b,j,none⟩=false:=⟨by rw[h.cell];exact List.getElem?_eq_getElem hj,h.free j⟩
theorem Wk (ad:Addr)(L cap:Nat)(bx:List (Raw×Raw))(i:Nat)(s:Bool)(l:List UInt8)(e:Int)(t:Bool)(m:List UInt8)(f:Int)(w:World)(hL:bx.length=L)(hl:L<=1000)(hi:i<L)(ha:At w (some ad) (bx.flatMap dP))(base:Nat)(hbase:base<=w.heap.size):
 Calls Tryz.prog 123 #[.slice (some ad) L cap,af (i:Int),.agg #[ag s,ah l,af e,ag t,ah m,af f]] w λe' w'=>∃g,e'=.returned (.slice (some ⟨g,0,none⟩) L L)/\base<=g/\ar w' g 61 ((bx.set i ((s,l,e),(t,m,f))).flatMap dP)/\Bw w w':=by
 have hmk:=anT (L:Int) L rfl zo;have pZ:∀(W:World) (hW:Bw w W) (ty:TypeId),(Builtin.copy_ #[23,23] ty #[.slice (some ⟨W.heap.size,0,none⟩) L L,.slice (some ad) L cap]).run Tryz.prog (W.alloc (.cells (madeCells #[ag false,.string (bs []),af 0,ag false,.string (bs []),af 0] (L*6)) 61))=.ok (af (L:Int)) (W.alloc (.cells (bx.flatMap dP).toArray 61)):=
  λW hW ty=>ajh W L ad cap bx _ (size_madeCells _ _) hL (ha.below hW) ty
 have jG:=aqA bx i s t l m e f;have hlen:=Tg bx;rw[hL]at hlen;obtain⟨cs,hcs⟩:=aG (bx.flatMap dP);rw[hcs]at jG hlen;simp only[hcs]at pZ;obtain⟨yK,EJ⟩:=aO pZ jG;clear pZ jG hcs ha hL;obtain⟨W,cg,Hb,Hx⟩:=fJ w 61 [ag s,ah l,af e,ag t,ah m,af f];obtain⟨x0,x1,x2,x3,x4,x5⟩:=Hx.out.c6;go_enter Tryz.func123,Tryz.ntmps123;have hcw:=yK.out W Hb.out;have dY:=Hb.out;have bK:=CV L L i (i:Int) (rfl:(some ⟨W.heap.size,0,none⟩:Option Addr)=_) hi rfl;rw[Nat.zero_add]at bK;go_upto_region 2 with fail
 go_cut[7] (λs7 wx=>s7=.slice (some ⟨W.heap.size,0,none⟩) L L/\ar wx W.heap.size 61 cs/\ar wx w.heap.size 61 [ag s,ah l,af e,ag t,ah m,af f]/\Bw w wx);case first=>go_wp2_with fail;go_meet;exact⟨rfl,ar.new W _ cs,Hx.out.alloc _,Hb.out.alloc ZS _⟩
 case rest=>
  obtain⟨rfl,hv,hx,hb⟩:=hcut;have hsz:=Hx.out.lt;obtain⟨Hv,Hx,Hb⟩:=cL hv hx hb;obtain⟨v,hvv⟩:=aG W.heap.size;have hwl:=hb.size;have CS:w.heap.size<=v:=by have:=dY.size;omega
  rw[hvv]at Hv bK⊢;clear hv hx hb hmk hcw x0 x1 x2 x3 x4 x5;have l0:i*6+5<cs.length:=by omega
  obtain⟨x0,x1,x2,x3,x4,x5⟩:=Hx.out.c6;obtain⟨v0,k0⟩:=zu Hv.out (i*6) zo;obtain⟨v1,k1⟩:=zu Hv.out (i*6+1) zo;obtain⟨v2,k2⟩:=zu Hv.out (i*6+2) zo;obtain⟨v3,k3⟩:=zu Hv.out (i*6+3) zo;obtain⟨v4,k4⟩:=zu Hv.out (i*6+4) zo;obtain⟨v5,k5⟩:=zu Hv.out (i*6+5) zo;go_wp2;refine dW (λw9=>ar w9 v 61 ((((((cs.set (i*6) (ag s)).set (i*6+1) (ah l)).set (i*6+2) (af e)).set (i*6+3) (ag t)).set (i*6+4) (ah m)).set (i*6+5) (af f))/\Bw w w9) ⟨((((((Hv.out.set (i*6) _).set (i*6+1) _).set (i*6+2) _).set (i*6+3) _).set (i*6+4) _).set (i*6+5) _),((((((Hb.out.sc v (i*6) CS _).sc v (i*6+1) CS _).sc v (i*6+2) CS _).sc v (i*6+3) CS _).sc v (i*6+4) CS _).sc v (i*6+5) CS _)⟩ ?_;rintro w9 ⟨qG,jE⟩;rw[EJ.out]at qG;refine bodyPost_ret (results_tmp rfl _ _ _) rfl ⟨v,rfl,by omega,qG,jE⟩
theorem jK.smP {B:Nat}{bx:List (Raw×Raw)}(h:jK B bx):sM B (bx.map cN):=λp hp=>by obtain⟨s,hs,rfl⟩:=List.mem_map.1 hp;exact⟨(h s hs).1.2,(h s hs).2.2⟩
theorem jK.of {B:Nat}{bx:List Pr}(h:sM B bx)(hB:B<=268435456):jK B (bx.map fw):=λs hs=>by obtain⟨p,hp,rfl⟩:=List.mem_map.1 hs;exact⟨(h p hp).1.fit hB,(h p hp).2.fit hB⟩
theorem ais (a:Option Addr)(L cap B:Nat)(bx:List (Raw×Raw))(w:World)(hL:bx.length=L)(h1:1<=L)(hl:L<=1000)(hf:jK B bx)(hB:B<=1000000)(ha:At w a (bx.flatMap dP))(hT:aH w):
 Calls Tryz.prog 73 #[.slice a L cap] w λe w'=>e=.returned (af (uU (bx.map cN):Int))/\Bw w w':=by
 obtain⟨F,hF⟩:∃F:Nat->Dyadic,(λi=>Bl ((bx.map cN).getD i (0,0)))=F:=⟨_,rfl⟩;have XL:∀k (h:k<bx.length),F k=Bl (az bx[k].1,az bx[k].2):=λk hk=>by rw[<-hF];simp only[Ti hk]
 have pS:∀k,Sm (B+1) (F k):=λk=>by rw[<-hF];exact arT (hf.smP.get k)
 have hW:uU (bx.map cN)=iV F L:=by unfold uU;rw[hF,List.length_map,hL]
 have hlt:∀k,1<=k->iV F k<k:=λk hk=>(Wd F k hk).1;have hst:∀k,iV F (k+1)=if 0<bA (F k-F (iV F k))then k else iV F k:=λk=>rfl
 rw[hW];obtain⟨Ha,HT,HL,Hf,wI,IX,uf,bX⟩:=nZ ha hT hL hf XL pS hlt hst;clear ha hT hL hf XL pS hlt hst hW hF;obtain⟨JU,YR⟩:∃f:Nat->Nat,iV F=f:=⟨_,rfl⟩;rw[YR]at uf bX⊢;clear YR;have Hb:Hid (Bw w w):=Below.refl _ _;go_enter Tryz.func73,Tryz.ntmps73;go_wp2_with fail;go_loopw[3,8] (λs3 x wr=>∃k:Nat,k<=L/\x=af (k:Int)/\s3=af (if k=0 then-1 else(JU k:Int))/\Bw w wr) (λ_ x _=>L-(intOf x).toNat);case atStart=>exact⟨0,Nat.zero_le _,rfl,rfl,Hb.out⟩
 case round=>
  clear Hb;obtain⟨k,hk,rfl,rfl,pb⟩:=hrel;by_cases hlt:k<L
  . have gA:k<bx.length:=by rw[HL.out];exact hlt
    obtain⟨s,m,e,t,n,f,hx⟩:∃s m e t n f,bx[k]=((s,m,e),(t,n,f)):=⟨_,_,_,_,_,_,rfl⟩;obtain⟨b,o,hab,hp⟩:=(Ha.out.below pb).spn k gA hx;have bK:=CV L cap k (k:Int) hab hlt rfl;have ma:=Hf.out _ (List.getElem_mem gA);have hwk:=wI.out k gA;rw[hx]at ma hwk;by_cases fY:k=0
    . have e1:JU (k+1)=k:=by rw[fY];have:=uf.out 1 zo;show JU 1=0;omega
      rw[if_pos fY];obtain⟨Hp,Hb,MZ⟩:=cL hp pb e1;clear hp pb hab hx ma hwk e1 fY;have p0:wr.cell? ⟨b,o+k*6,none⟩=some (ag s):=Hp.out.cell 0 zm;have p1:wr.cell? ⟨b,o+k*6+1,none⟩=some (ah m):=Hp.out.cell 1 zm;have p2:wr.cell? ⟨b,o+k*6+2,none⟩=some (af e):=Hp.out.cell 2 zm;have p3:wr.cell? ⟨b,o+k*6+3,none⟩=some (ag t):=Hp.out.cell 3 zm;have p4:wr.cell? ⟨b,o+k*6+4,none⟩=some (ah n):=Hp.out.cell 4 zm;have p5:wr.cell? ⟨b,o+k*6+5,none⟩=some (af f):=Hp.out.cell 5 zm;have Ca:=p0;have Cb:=p1;have Cc:=p2;have Ce:=p3;have Cf:=p4;have Cg:=p5;obtain⟨W4,lU,ae,Hu⟩:=cd wr 61 [ag s,ah m,af e,ag t,ah n,af f];clear p0 p1 p2 p3 p4 p5;replace Hp:=kW Hp ae;have p0:W4.cell? ⟨b,o+k*6,none⟩=some (ag s):=Hp.out.cell 0 zm;have p1:W4.cell? ⟨b,o+k*6+1,none⟩=some (ah m):=Hp.out.cell 1 zm;have p2:W4.cell? ⟨b,o+k*6+2,none⟩=some (af e):=Hp.out.cell 2 zm;have p3:W4.cell? ⟨b,o+k*6+3,none⟩=some (ag t):=Hp.out.cell 3 zm;have p4:W4.cell? ⟨b,o+k*6+4,none⟩=some (ah n):=Hp.out.cell 4 zm;have p5:W4.cell? ⟨b,o+k*6+5,none⟩=some (af f):=Hp.out.cell 5 zm;obtain⟨u0,u1,u2,u3,u4,u5⟩:=Hu.out.c6;replace Hb:=aB Hb ae;clear ae;go_wp2_with fail;refine bR (λw'=>aC w' (wr.heap.size) 0 (ag s)/\aC w' (wr.heap.size) 1 (ah m)/\aC w' (wr.heap.size) 2 (af e)/\aC w' (wr.heap.size) 3 (ag t)/\aC w' (wr.heap.size) 4 (ah n)/\aC w' (wr.heap.size) 5 (af f)) (λi=>Nat.blt i 100000) [(0,true),(1,true),(2,true),(3,true),(5,true),(6,true),(7,true),(8,true),(4,false),(9,false),(10,false),(11,true),(12,true)] zk zk rfl zk zc ⟨u0,u1,u2,u3,u4,u5⟩ ?_;iterate 3 (refine pT rfl rfl ?_;try simp only[UU])
      refine bF rfl rfl ?_;try simp only[UU]
      refine bF rfl rfl ?_;try simp only[UU]
      refine bF rfl rfl ?_;try simp only[UU]
      refine bF rfl rfl ?_;try simp only[UU]
      refine bF rfl rfl ?_;try simp only[UU]
      refine Dn rfl rfl (λ_=>⟨u0,u1,u2,u3,u4,u5⟩) ?_;try simp only[UU]
      refine Dn rfl rfl (λ_=>⟨u0,u1,u2,u3,u4,u5⟩) ?_;try simp only[UU]
      refine Dn rfl rfl (λ_=>⟨u0,u1,u2,u3,u4,u5⟩) ?_;try simp only[UU]
      refine bF rfl rfl ?_;try simp only[UU]
      refine pT rfl rfl ?_;try simp only[UU]
      simp only[bi];go_wp2;go_roundw;case rel=>exact⟨k+1,by omega,by go_num,by simp[MZ.out],Hb.out.drew⟩
      case measure=>simp[intOf];omega
    . obtain⟨j,hj⟩:=aG (JU k);have hjk:j<k:=by rw[<-hj];exact uf.out k zo
      have Gf:j<bx.length:=by omega
      have hjL:j<L:=by omega
      obtain⟨s',m',e',t',n',f',hx'⟩:∃s m e t n f,bx[j]=((s,m,e),(t,n,f)):=⟨_,_,_,_,_,_,rfl⟩;obtain⟨b',o',jk,hp'⟩:=(Ha.out.below pb).spn j Gf hx';obtain⟨rfl,rfl⟩:b'=b/\o'=o:=by rw[hab]at jk;simp at jk;exact⟨jk.1.symm,jk.2.symm⟩
      have atZ:=CV L cap j (j:Int) hab hjL rfl;have QG:=Hf.out _ (List.getElem_mem Gf);have tK:=wI.out j Gf;rw[hx']at QG tK;have hsk:=bX.out k;rw[hj]at hsk;obtain⟨X,hX⟩:=aG (F k);obtain⟨Y,hY⟩:=aG (F j);have dM:=IX.out k;have fT:=IX.out j;rw[hX]at hwk hsk dM;rw[hY]at tK hsk fT;obtain⟨c,hc⟩:=aG (bA (X-Y));rw[hc]at hsk;have Gb:bA (az (au (dN X),nt (dN X).natAbs,dE X)-az (au (dN Y),nt (dN Y).natAbs,dE Y))=c:=by
       show bA (az (canon X)-az (canon Y))=c
       rw[bD,bD];exact hc
      have hif:(if k=0 then(-1:Int)else(j:Int))=(j:Int):=if_neg fY;have Ge:¬(j:Int)<0:=by omega
      have nR:decide ((j:Int)<0)=false:=by simp
      obtain⟨Hp,Hq,Hb,UI,UH,oM,Od,uh,Ji⟩:=GV hp hp' pb ma QG hwk.symm tK.symm hsk Gb;have HX1:Hid (Ok (au (dN X),nt (dN X).natAbs,dE X)):=(dM.fit zo).1;have HY1:Hid (Ok (au (dN Y),nt (dN Y).natAbs,dE Y)):=(fT.fit zo).1;have yP:=ai fY;rw[hj,hif];clear hp hp' pb hab jk hx hx' ma QG hwk tK hsk Gb dM fT hc hX hY hj hif fY;have p0:wr.cell? ⟨b',o'+k*6,none⟩=some (ag s):=Hp.out.cell 0 zm;have p1:wr.cell? ⟨b',o'+k*6+1,none⟩=some (ah m):=Hp.out.cell 1 zm;have p2:wr.cell? ⟨b',o'+k*6+2,none⟩=some (af e):=Hp.out.cell 2 zm;have p3:wr.cell? ⟨b',o'+k*6+3,none⟩=some (ag t):=Hp.out.cell 3 zm;have p4:wr.cell? ⟨b',o'+k*6+4,none⟩=some (ah n):=Hp.out.cell 4 zm;have p5:wr.cell? ⟨b',o'+k*6+5,none⟩=some (af f):=Hp.out.cell 5 zm;have q0:wr.cell? ⟨b',o'+j*6,none⟩=some (ag s'):=Hq.out.cell 0 zm;have q1:wr.cell? ⟨b',o'+j*6+1,none⟩=some (ah m'):=Hq.out.cell 1 zm;have q2:wr.cell? ⟨b',o'+j*6+2,none⟩=some (af e'):=Hq.out.cell 2 zm;have q3:wr.cell? ⟨b',o'+j*6+3,none⟩=some (ag t'):=Hq.out.cell 3 zm;have q4:wr.cell? ⟨b',o'+j*6+4,none⟩=some (ah n'):=Hq.out.cell 4 zm;have q5:wr.cell? ⟨b',o'+j*6+5,none⟩=some (af f'):=Hq.out.cell 5 zm;have Ca:=p0;have Cb:=p1;have Cc:=p2;have Ce:=p3;have Cf:=p4;have Cg:=p5;obtain⟨W4,lU,ae,Hu⟩:=cd wr 61 [ag s,ah m,af e,ag t,ah n,af f];clear p0 p1 p2 p3 p4 p5;replace Hp:=kW Hp ae;clear q0 q1 q2 q3 q4 q5;replace Hq:=kW Hq ae;have p0:W4.cell? ⟨b',o'+k*6,none⟩=some (ag s):=Hp.out.cell 0 zm;have p1:W4.cell? ⟨b',o'+k*6+1,none⟩=some (ah m):=Hp.out.cell 1 zm;have p2:W4.cell? ⟨b',o'+k*6+2,none⟩=some (af e):=Hp.out.cell 2 zm;have p3:W4.cell? ⟨b',o'+k*6+3,none⟩=some (ag t):=Hp.out.cell 3 zm;have p4:W4.cell? ⟨b',o'+k*6+4,none⟩=some (ah n):=Hp.out.cell 4 zm;have p5:W4.cell? ⟨b',o'+k*6+5,none⟩=some (af f):=Hp.out.cell 5 zm;have q0:W4.cell? ⟨b',o'+j*6,none⟩=some (ag s'):=Hq.out.cell 0 zm;have q1:W4.cell? ⟨b',o'+j*6+1,none⟩=some (ah m'):=Hq.out.cell 1 zm;have q2:W4.cell? ⟨b',o'+j*6+2,none⟩=some (af e'):=Hq.out.cell 2 zm;have q3:W4.cell? ⟨b',o'+j*6+3,none⟩=some (ag t'):=Hq.out.cell 3 zm;have q4:W4.cell? ⟨b',o'+j*6+4,none⟩=some (ah n'):=Hq.out.cell 4 zm;have q5:W4.cell? ⟨b',o'+j*6+5,none⟩=some (af f'):=Hq.out.cell 5 zm;obtain⟨u0,u1,u2,u3,u4,u5⟩:=Hu.out.c6;replace Hb:=aB Hb ae;clear ae;go_wp2_with fail;refine bR (λw'=>aC w' (wr.heap.size) 0 (ag s)/\aC w' (wr.heap.size) 1 (ah m)/\aC w' (wr.heap.size) 2 (af e)/\aC w' (wr.heap.size) 3 (ag t)/\aC w' (wr.heap.size) 4 (ah n)/\aC w' (wr.heap.size) 5 (af f)/\aC w' b' (o'+j*6) (ag s')/\aC w' b' (o'+j*6+1) (ah m')/\aC w' b' (o'+j*6+2) (af e')/\aC w' b' (o'+j*6+3) (ag t')/\aC w' b' (o'+j*6+4) (ah n')/\aC w' b' (o'+j*6+5) (af f')) (λi=>Nat.blt i 100000) [(0,true),(1,true),(2,true),(3,true),(5,true),(6,true),(7,true),(8,true),(4,false),(9,false),(10,false),(11,true),(12,true)] zk zk rfl zk zc ⟨u0,u1,u2,u3,u4,u5,q0,q1,q2,q3,q4,q5⟩ ?_;iterate 8 (refine pT rfl rfl ?_ (by intro w' ⟨q0,q1,q2,q3,q4,q5,q6,q7,q8,q9,q10,q11⟩;go_simp;try with_reducible rfl);try simp only[UU])
      refine aI rfl rfl (λK hK=>?_);go_simp;with_reducible refine(acR s m e t n f B X oM.out _ UI.out.1 UI.out.2 zo (by first|exact(HT.out.below Hb.out) |exact aH.drew (HT.out.below Hb.out) |exact aH.alloc (HT.out.below Hb.out) _|exact aH.drew (aH.alloc (HT.out.below Hb.out) _) |exact aH.alloc (aH.drew (HT.out.below Hb.out)) _)).mono ?_
      rintro e w5 ⟨rfl,hq⟩;have ae:Bw W4 w5:=by first|exact hq|exact aW hq
      clear p0 p1 p2 p3 p4 p5 q0 q1 q2 q3 q4 q5 u0 u1 u2 u3 u4 u5;replace Hp:=kW Hp ae;replace Hq:=kW Hq ae;replace Hu:=kB Hu ae;have p0:w5.cell? ⟨b',o'+k*6,none⟩=some (ag s):=Hp.out.cell 0 zm;have p1:w5.cell? ⟨b',o'+k*6+1,none⟩=some (ah m):=Hp.out.cell 1 zm;have p2:w5.cell? ⟨b',o'+k*6+2,none⟩=some (af e):=Hp.out.cell 2 zm;have p3:w5.cell? ⟨b',o'+k*6+3,none⟩=some (ag t):=Hp.out.cell 3 zm;have p4:w5.cell? ⟨b',o'+k*6+4,none⟩=some (ah n):=Hp.out.cell 4 zm;have p5:w5.cell? ⟨b',o'+k*6+5,none⟩=some (af f):=Hp.out.cell 5 zm;have q0:w5.cell? ⟨b',o'+j*6,none⟩=some (ag s'):=Hq.out.cell 0 zm;have q1:w5.cell? ⟨b',o'+j*6+1,none⟩=some (ah m'):=Hq.out.cell 1 zm;have q2:w5.cell? ⟨b',o'+j*6+2,none⟩=some (af e'):=Hq.out.cell 2 zm;have q3:w5.cell? ⟨b',o'+j*6+3,none⟩=some (ag t'):=Hq.out.cell 3 zm;have q4:w5.cell? ⟨b',o'+j*6+4,none⟩=some (ah n'):=Hq.out.cell 4 zm;have q5:w5.cell? ⟨b',o'+j*6+5,none⟩=some (af f'):=Hq.out.cell 5 zm;obtain⟨u0,u1,u2,u3,u4,u5⟩:=Hu.out.c6;replace Hb:=aB Hb ae;clear ae;refine hK _ _ (λ_=>⟨u0,u1,u2,u3,u4,u5,q0,q1,q2,q3,q4,q5⟩) ?_;clear hK K;try simp only[UU]
      refine aI rfl rfl (λK hK=>?_);go_simp;with_reducible refine(acR s' m' e' t' n' f' B Y Od.out _ UH.out.1 UH.out.2 zo (by first|exact(HT.out.below Hb.out) |exact aH.drew (HT.out.below Hb.out) |exact aH.alloc (HT.out.below Hb.out) _|exact aH.drew (aH.alloc (HT.out.below Hb.out) _) |exact aH.alloc (aH.drew (HT.out.below Hb.out)) _)).mono ?_
      rintro e w6 ⟨rfl,hq⟩;have ae:Bw w5 w6:=by first|exact hq|exact aW hq
      clear p0 p1 p2 p3 p4 p5 q0 q1 q2 q3 q4 q5 u0 u1 u2 u3 u4 u5;replace Hp:=kW Hp ae;replace Hq:=kW Hq ae;replace Hu:=kB Hu ae;have p0:w6.cell? ⟨b',o'+k*6,none⟩=some (ag s):=Hp.out.cell 0 zm;have p1:w6.cell? ⟨b',o'+k*6+1,none⟩=some (ah m):=Hp.out.cell 1 zm;have p2:w6.cell? ⟨b',o'+k*6+2,none⟩=some (af e):=Hp.out.cell 2 zm;have p3:w6.cell? ⟨b',o'+k*6+3,none⟩=some (ag t):=Hp.out.cell 3 zm;have p4:w6.cell? ⟨b',o'+k*6+4,none⟩=some (ah n):=Hp.out.cell 4 zm;have p5:w6.cell? ⟨b',o'+k*6+5,none⟩=some (af f):=Hp.out.cell 5 zm;have q0:w6.cell? ⟨b',o'+j*6,none⟩=some (ag s'):=Hq.out.cell 0 zm;have q1:w6.cell? ⟨b',o'+j*6+1,none⟩=some (ah m'):=Hq.out.cell 1 zm;have q2:w6.cell? ⟨b',o'+j*6+2,none⟩=some (af e'):=Hq.out.cell 2 zm;have q3:w6.cell? ⟨b',o'+j*6+3,none⟩=some (ag t'):=Hq.out.cell 3 zm;have q4:w6.cell? ⟨b',o'+j*6+4,none⟩=some (ah n'):=Hq.out.cell 4 zm;have q5:w6.cell? ⟨b',o'+j*6+5,none⟩=some (af f'):=Hq.out.cell 5 zm;obtain⟨u0,u1,u2,u3,u4,u5⟩:=Hu.out.c6;replace Hb:=aB Hb ae;clear ae;refine hK _ _ (λ_=>⟨u0,u1,u2,u3,u4,u5,q0,q1,q2,q3,q4,q5⟩) ?_;clear hK K;try simp only[UU]
      refine aI rfl rfl (λK hK=>?_);go_simp;with_reducible refine(vD _ _ _ _ _ _ c Ji.out _ HX1.out HY1.out (by first|exact(HT.out.below Hb.out) |exact aH.drew (HT.out.below Hb.out) |exact aH.alloc (HT.out.below Hb.out) _|exact aH.drew (aH.alloc (HT.out.below Hb.out) _) |exact aH.alloc (aH.drew (HT.out.below Hb.out)) _)).mono ?_
      rintro e w7 ⟨rfl,hq⟩;have ae:Bw w6 w7:=by first|exact hq|exact aW hq
      clear p0 p1 p2 p3 p4 p5 q0 q1 q2 q3 q4 q5 u0 u1 u2 u3 u4 u5;replace Hp:=kW Hp ae;replace Hq:=kW Hq ae;replace Hu:=kB Hu ae;have p0:w7.cell? ⟨b',o'+k*6,none⟩=some (ag s):=Hp.out.cell 0 zm;have p1:w7.cell? ⟨b',o'+k*6+1,none⟩=some (ah m):=Hp.out.cell 1 zm;have p2:w7.cell? ⟨b',o'+k*6+2,none⟩=some (af e):=Hp.out.cell 2 zm;have p3:w7.cell? ⟨b',o'+k*6+3,none⟩=some (ag t):=Hp.out.cell 3 zm;have p4:w7.cell? ⟨b',o'+k*6+4,none⟩=some (ah n):=Hp.out.cell 4 zm;have p5:w7.cell? ⟨b',o'+k*6+5,none⟩=some (af f):=Hp.out.cell 5 zm;have q0:w7.cell? ⟨b',o'+j*6,none⟩=some (ag s'):=Hq.out.cell 0 zm;have q1:w7.cell? ⟨b',o'+j*6+1,none⟩=some (ah m'):=Hq.out.cell 1 zm;have q2:w7.cell? ⟨b',o'+j*6+2,none⟩=some (af e'):=Hq.out.cell 2 zm;have q3:w7.cell? ⟨b',o'+j*6+3,none⟩=some (ag t'):=Hq.out.cell 3 zm;have q4:w7.cell? ⟨b',o'+j*6+4,none⟩=some (ah n'):=Hq.out.cell 4 zm;have q5:w7.cell? ⟨b',o'+j*6+5,none⟩=some (af f'):=Hq.out.cell 5 zm;obtain⟨u0,u1,u2,u3,u4,u5⟩:=Hu.out.c6;replace Hb:=aB Hb ae;clear ae;refine hK _ _ (λ_=>⟨u0,u1,u2,u3,u4,u5,q0,q1,q2,q3,q4,q5⟩) ?_;clear hK K;try simp only[UU]
      iterate 2 (refine pT rfl rfl ?_;try simp only[UU])
      simp only[bi];clear Ca Cb Cc Ce Cf Cg p0 p1 p2 p3 p4 p5 q0 q1 q2 q3 q4 q5 u0 u1 u2 u3 u4 u5;by_cases hc0:0<c
      . go_wp2;go_roundw;case rel=>exact⟨k+1,by omega,by go_num,by rw[if_neg zo,uh.out,if_pos hc0],Hb.out⟩
        case measure=>simp[intOf];omega
      . go_wp2;go_roundw;case rel=>exact⟨k+1,by omega,by go_num,by rw[if_neg zo,uh.out,if_neg hc0],Hb.out⟩
        case measure=>simp[intOf];omega
  . obtain rfl:k=L:=by omega
    have Hb:=ai pb;rw[if_neg zo];clear pb;go_wp2;refine bodyPost_ret (results_tmp rfl _ _ _) rfl ⟨rfl,Hb.out⟩
theorem Wi (s:Bool)(l:List UInt8)(e:Int)(t:Bool)(m:List UInt8)(f:Int)(u:Bool)(o:List UInt8)(g:Int)(up:Bool)(w:World):
 Calls Tryz.prog 124 #[.agg #[ag s,ah l,af e,ag t,ah m,af f,ag u,ah o,af g],ag up] w λe' w'=>e'=.returned (.agg (if up then #[ag u,ah o,af g,ag t,ah m,af f]else #[ag s,ah l,af e,ag u,ah o,af g]))/\Bw w w':=by
 obtain⟨W,cg,Hb,Hx,Hr⟩:=iq w 155 [ag s,ah l,af e,ag t,ah m,af f,ag u,ah o,af g] 61 [ag false,.string ⟨#[]⟩,af 0,ag false,.string ⟨#[]⟩,af 0];have x0:W.cell? ⟨w.heap.size,0,none⟩=some (ag s):=Hx.out.cell 0;have x1:W.cell? ⟨w.heap.size,1,none⟩=some (ah l):=Hx.out.cell 1;have x2:W.cell? ⟨w.heap.size,2,none⟩=some (af e):=Hx.out.cell 2;have x3:W.cell? ⟨w.heap.size,3,none⟩=some (ag t):=Hx.out.cell 3;have x4:W.cell? ⟨w.heap.size,4,none⟩=some (ah m):=Hx.out.cell 4;have x5:W.cell? ⟨w.heap.size,5,none⟩=some (af f):=Hx.out.cell 5;have x6:W.cell? ⟨w.heap.size,6,none⟩=some (ag u):=Hx.out.cell 6;have x7:W.cell? ⟨w.heap.size,7,none⟩=some (ah o):=Hx.out.cell 7;have x8:W.cell? ⟨w.heap.size,8,none⟩=some (af g):=Hx.out.cell 8;obtain⟨r0,aj,r1,ak,r2,aF,r3,cj,r4,cB,r5,jh⟩:=Hr.out.g6;go_enter Tryz.func124,Tryz.ntmps124;cases up with
 |true=>go_wp2;clear x0 x1 x2 x3 x4 x5 x6 x7 x8 r0 aj r1 ak r2 aF r3 cj r4 cB r5 jh;refine dW (bC W (w.heap.size+1) 0 [ag u,ah o,af g,ag t,ah m,af f]) bJ ?_;intro w9 hs;replace Hx:=kS Hx hs zo;replace Hr:=bP Hr hs;have x0:w9.cell? ⟨w.heap.size,0,none⟩=some (ag s):=Hx.out.cell 0;have x1:w9.cell? ⟨w.heap.size,1,none⟩=some (ah l):=Hx.out.cell 1;have x2:w9.cell? ⟨w.heap.size,2,none⟩=some (af e):=Hx.out.cell 2;have x3:w9.cell? ⟨w.heap.size,3,none⟩=some (ag t):=Hx.out.cell 3;have x4:w9.cell? ⟨w.heap.size,4,none⟩=some (ah m):=Hx.out.cell 4;have x5:w9.cell? ⟨w.heap.size,5,none⟩=some (af f):=Hx.out.cell 5;have x6:w9.cell? ⟨w.heap.size,6,none⟩=some (ag u):=Hx.out.cell 6;have x7:w9.cell? ⟨w.heap.size,7,none⟩=some (ah o):=Hx.out.cell 7;have x8:w9.cell? ⟨w.heap.size,8,none⟩=some (af g):=Hx.out.cell 8;obtain⟨r0,aj,r1,ak,r2,aF,r3,cj,r4,cB,r5,jh⟩:=Hr.out.g6;replace Hb:=bS Hb hs ZS;clear hs;refine bodyPost_ret (v:=.agg #[ag u,ah o,af g,ag t,ah m,af f]) (by simp[results,Tryz.results124,go_sem,r0,r1,r2,r3,r4,r5]) rfl ⟨rfl,Hb.out⟩
 |false=>go_wp2;clear x0 x1 x2 x3 x4 x5 x6 x7 x8 r0 aj r1 ak r2 aF r3 cj r4 cB r5 jh;refine dW (bC W (w.heap.size+1) 0 [ag s,ah l,af e,ag u,ah o,af g]) bJ ?_;intro w9 hs;replace Hx:=kS Hx hs zo;replace Hr:=bP Hr hs;have x0:w9.cell? ⟨w.heap.size,0,none⟩=some (ag s):=Hx.out.cell 0;have x1:w9.cell? ⟨w.heap.size,1,none⟩=some (ah l):=Hx.out.cell 1;have x2:w9.cell? ⟨w.heap.size,2,none⟩=some (af e):=Hx.out.cell 2;have x3:w9.cell? ⟨w.heap.size,3,none⟩=some (ag t):=Hx.out.cell 3;have x4:w9.cell? ⟨w.heap.size,4,none⟩=some (ah m):=Hx.out.cell 4;have x5:w9.cell? ⟨w.heap.size,5,none⟩=some (af f):=Hx.out.cell 5;have x6:w9.cell? ⟨w.heap.size,6,none⟩=some (ag u):=Hx.out.cell 6;have x7:w9.cell? ⟨w.heap.size,7,none⟩=some (ah o):=Hx.out.cell 7;have x8:w9.cell? ⟨w.heap.size,8,none⟩=some (af g):=Hx.out.cell 8;obtain⟨r0,aj,r1,ak,r2,aF,r3,cj,r4,cB,r5,jh⟩:=Hr.out.g6;replace Hb:=bS Hb hs ZS;clear hs;refine bodyPost_ret (v:=.agg #[ag s,ah l,af e,ag u,ah o,af g]) (by simp[results,Tryz.results124,go_sem,r0,r1,r2,r3,r4,r5]) rfl ⟨rfl,Hb.out⟩
theorem aip (s:Bool)(l:List UInt8)(e:Int)(t:Bool)(m:List UInt8)(f:Int)(u:Bool)(o:List UInt8)(g:Int)(w:World):
 Calls Tryz.prog 124 #[.agg #[ag s,ah l,af e,ag t,ah m,af f,ag u,ah o,af g],ag false] w λe' w'=>e'=.returned (.agg #[ag s,ah l,af e,ag u,ah o,af g])/\Bw w w':=by
 have h:=Wi s l e t m f u o g false w;rwa [if_neg zd]at h
theorem aio (s:Bool)(l:List UInt8)(e:Int)(t:Bool)(m:List UInt8)(f:Int)(u:Bool)(o:List UInt8)(g:Int)(w:World):
 Calls Tryz.prog 124 #[.agg #[ag s,ah l,af e,ag t,ah m,af f,ag u,ah o,af g],ag true] w λe' w'=>e'=.returned (.agg #[ag u,ah o,af g,ag t,ah m,af f])/\Bw w w':=by
 have h:=Wi s l e t m f u o g true w;rwa [if_pos rfl]at h
theorem alj (bx:List (Raw×Raw))(i:Nat)(hi:i<bx.length)(y1 y2 X:Dyadic)(hy:js (cN bx[i])=(y1,y2))(hX:qN (y1,y2)=X):
 (rR (bx.map cN) i false).map fw=(bx.map ou).set i (canon y1,canon X)/\(rR (bx.map cN) i true).map fw=(bx.map ou).set i (canon X,canon y2):=by
 have hg:(bx.map cN).getD i (0,0)=cN bx[i]:=by simp[hi]
 have hm:qN (cN bx[i])=X:=by rw[<-anL,hy,hX]
 have e0:((bx.map cN).map js).map fw=bx.map ou:=by rw[List.map_map,List.map_map];rfl
 unfold rR;rw[hg,hy,hm];constructor
 . rw[if_neg zd,List.map_set,e0];rfl
 . rw[if_pos rfl,List.map_set,e0];rfl
theorem aiq (a:Option Addr)(L cap B:Nat)(bx:List (Raw×Raw))(i:Nat)(w:World)(hL:bx.length=L)(hi:i<L)(hl:L<=1000)(hf:jK B bx)(hB:B<=1000000)(ha:At w a (bx.flatMap dP))(hT:aH w):
 Calls Tryz.prog 74 #[.slice a L cap,af (i:Int)] w λe w'=>∃g1 g2,e=.returned (.tuple #[.slice (some ⟨g1,0,none⟩) L L,.slice (some ⟨g2,0,none⟩) L L,af 0])/\w.heap.size<=g1/\w.heap.size<=g2/\ar w' g1 61 (((rR (bx.map cN) i false).map fw).flatMap dP)/\ar w' g2 61 (((rR (bx.map cN) i true).map fw).flatMap dP)/\Bw w w':=by
 have mf:i<bx.length:=by omega
 obtain⟨⟨y1,y2⟩,hy⟩:∃p,js (cN bx[i])=p:=⟨_,rfl⟩;obtain⟨X,hX⟩:=aG (qN (y1,y2));obtain⟨rT,hm2⟩:=alj bx i mf y1 y2 X hy hX;have Rs:Sm B y1/\Sm B y2:=by have:=yo (p:=cN bx[i]) ⟨(hf _ (List.getElem_mem mf)).1.2,(hf _ (List.getElem_mem mf)).2.2⟩;rwa [hy]at this
 have hmid:qN (az (au (dN y1),nt (dN y1).natAbs,dE y1),az (au (dN y2),nt (dN y2).natAbs,dE y2))=X:=by
  show qN (az (canon y1),az (canon y2))=X
  rw[bD,bD];exact hX
 have xm:Fit B (au (dN y1),nt (dN y1).natAbs,dE y1):=Rs.1.fit zo;have hF2:Fit B (au (dN y2),nt (dN y2).natAbs,dE y2):=Rs.2.fit zo;have hfo:=λW (hW:Bw w W)=>ain a L cap B bx W hL hl hf (ha.below hW) (hT.below hW);obtain⟨G,hG⟩:=aG (bx.map ou);have XM:G.length=L:=by rw[<-hG,List.length_map,hL]
 have Fs:∃h:i<G.length,G[i]=((au (dN y1),nt (dN y1).natAbs,dE y1),(au (dN y2),nt (dN y2).natAbs,dE y2)):=by subst hG;refine⟨by simpa using mf,?_⟩;rw[List.getElem_map];unfold ou;rw[hy];rfl
 rw[hG]at rT hm2;simp only[hG]at hfo;rw[rT,hm2];obtain⟨wP,HT,TV,HGi,afV,HF1,IW⟩:=jT hfo hT XM Fs hmid xm hF2;clear hfo hT XM Fs hmid xm hF2 rT hm2 hy hX Rs hf ha hL hG mf;have hi0:¬((L:Int)<=(i:Int)):=by omega
 have Hb:Hid (Bw w w):=Below.refl _ _;go_enter Tryz.func74,Tryz.ntmps74;go_wp2_with fail;refine(wP.out _ Hb.out).mono ?_;rintro e w1 ⟨a',c',rfl,hat,ae⟩;replace Hb:=ai (aJ Hb.out ae);obtain⟨hiG,Fs⟩:=HGi.out;obtain⟨b,o,rfl,hp⟩:=hat.spn i hiG Fs;have bK:=CV L c' i (i:Int) (rfl:(some ⟨b,o,none⟩:Option Addr)=_) hi rfl;obtain⟨Hp,eH⟩:=aO hp hat;clear hp hat ae Fs;have bW:=Hb;clear Hb;have Hb:Hid (Bw w1 w1):=Below.refl _ _;have dV:=ai (HT.out.below bW.out);go_upto_region 4 with fail
 go_cut[7] (λs7 wx=>∃g:Nat,s7=.pointer (some ⟨g,0,none⟩)/\w1.heap.size<=g/\ar wx g 155 [ag (au (dN y1)),ah (nt (dN y1).natAbs),af (dE y1),ag (au (dN y2)),ah (nt (dN y2).natAbs),af (dE y2),ag (au (dN X)),ah (nt (dN X).natAbs),af (dE X)]/\Bw w1 wx);case first=>
  have p0:w1.cell? ⟨b,o+i*6,none⟩=some (ag (au (dN y1))):=Hp.out.cell 0 zm;have p1:w1.cell? ⟨b,o+i*6+1,none⟩=some (ah (nt (dN y1).natAbs)):=Hp.out.cell 1 zm;have p2:w1.cell? ⟨b,o+i*6+2,none⟩=some (af (dE y1)):=Hp.out.cell 2 zm;have p3:w1.cell? ⟨b,o+i*6+3,none⟩=some (ag (au (dN y2))):=Hp.out.cell 3 zm;have p4:w1.cell? ⟨b,o+i*6+4,none⟩=some (ah (nt (dN y2).natAbs)):=Hp.out.cell 4 zm;have p5:w1.cell? ⟨b,o+i*6+5,none⟩=some (af (dE y2)):=Hp.out.cell 5 zm;have iT:∀w',fL w1 w'->aC w' b (o+i*6) (ag (au (dN y1)))/\aC w' b (o+i*6+1) (ah (nt (dN y1).natAbs))/\aC w' b (o+i*6+2) (af (dE y1))/\aC w' b (o+i*6+3) (ag (au (dN y2)))/\aC w' b (o+i*6+4) (ah (nt (dN y2).natAbs))/\aC w' b (o+i*6+5) (af (dE y2)):=λw' h=>⟨cell_later h p0,cell_later h p1,cell_later h p2,cell_later h p3,cell_later h p4,cell_later h p5⟩;refine DL (λw'=>fL w1 w') (λi=>Nat.blt i 11) 10 155 [ag false,.string ⟨#[]⟩,af 0,ag false,.string ⟨#[]⟩,af 0,ag false,.string ⟨#[]⟩,af 0] [(0,true),(1,true),(2,true),(3,true),(4,true),(5,true),(6,true),(7,true),(8,false),(9,true)] [(11,false)] zk zk rfl rfl rfl zk zk zc zc (λK a w h=>Di rfl rfl (λK' hK=>by go_simp;exact hK _ _ h)) ?_;clear p0 p1 p2 p3 p4 p5 Hp;intro w1f ae;replace Hb:=ai (aJ Hb.out ae);refine⟨Hb.out,?_⟩;clear ae;iterate 8 (refine Ba rfl rfl (v:=?_) (λw' hw'=>?_) ?_;rotate_left;(focus have hw':=iT w' hw';obtain⟨q0,q1,q2,q3,q4,q5⟩:=hw';go_simp;try with_reducible rfl);try simp only[UU])
  refine lF rfl rfl (λK hK=>?_);go_simp;with_reducible refine(aqD _ _ _ _ _ _ B X afV.out _ HF1.out IW.out zo (dV.out.below Hb.out)).mono ?_
  rintro e w9 ⟨rfl,hq⟩;refine hK _ _ hq (λw2 ae hb2=>?_);replace Hb:=ai (aJ Hb.out ae);refine⟨Hb.out,?_⟩;clear ae hb2 hq hK K;try simp only[UU]
  refine Ba rfl rfl (v:=?_) (λw' hw'=>?_) ?_;rotate_left;(focus go_simp;try with_reducible rfl);try simp only[UU]
  intro kH hb0 qx;have Hh:=ai qx;clear qx;have h0:w2.cell? ⟨kH,0,none⟩=some (ag false):=Hh.out.cell 0;have fh0:w2.frozen? ⟨kH,0,none⟩=false:=Hh.out.free 0;have h1:w2.cell? ⟨kH,1,none⟩=some (.string ⟨#[]⟩):=Hh.out.cell 1;have fh1:w2.frozen? ⟨kH,1,none⟩=false:=Hh.out.free 1;have h2:w2.cell? ⟨kH,2,none⟩=some (af 0):=Hh.out.cell 2;have fh2:w2.frozen? ⟨kH,2,none⟩=false:=Hh.out.free 2;have h3:w2.cell? ⟨kH,3,none⟩=some (ag false):=Hh.out.cell 3;have fh3:w2.frozen? ⟨kH,3,none⟩=false:=Hh.out.free 3;have h4:w2.cell? ⟨kH,4,none⟩=some (.string ⟨#[]⟩):=Hh.out.cell 4;have fh4:w2.frozen? ⟨kH,4,none⟩=false:=Hh.out.free 4;have h5:w2.cell? ⟨kH,5,none⟩=some (af 0):=Hh.out.cell 5;have fh5:w2.frozen? ⟨kH,5,none⟩=false:=Hh.out.free 5;have h6:w2.cell? ⟨kH,6,none⟩=some (ag false):=Hh.out.cell 6;have fh6:w2.frozen? ⟨kH,6,none⟩=false:=Hh.out.free 6;have h7:w2.cell? ⟨kH,7,none⟩=some (.string ⟨#[]⟩):=Hh.out.cell 7;have fh7:w2.frozen? ⟨kH,7,none⟩=false:=Hh.out.free 7;have h8:w2.cell? ⟨kH,8,none⟩=some (af 0):=Hh.out.cell 8;have fh8:w2.frozen? ⟨kH,8,none⟩=false:=Hh.out.free 8;try simp only[UU]
  refine aI rfl rfl (λK hK=>?_);go_simp;refine hK _ _ (λh=>absurd h zd) ?_;clear hK K;try simp only[UU]
  simp only[bi];go_wp2_with fail;go_meet;exact⟨kH,rfl,hb0,(((((((((Hh.out.set 0 _).set 1 _).set 2 _).set 3 _).set 4 _).set 5 _).set 6 _).set 7 _).set 8 _),(((((((((Hb.out.setCell zp _).setCell zp _).setCell zp _).setCell zp _).setCell zp _).setCell zp _).setCell zp _).setCell zp _).setCell zp _)⟩
 case rest=>
  obtain⟨g,rfl,hg,qh,qb⟩:=hcut;obtain⟨Hh,Hb,HA,Jc⟩:=dx qh qb (eH.out.below qb) (dV.out.below qb);clear qh qb Hp bK hg;obtain⟨w2,hw2⟩:=aG wc;subst hw2;have lI:=Hb;clear Hb;have Hb:Hid (Bw wc wc):=Below.refl _ _;have h0:wc.cell? ⟨g,0,none⟩=some (ag (au (dN y1))):=Hh.out.cell 0;have h1:wc.cell? ⟨g,1,none⟩=some (ah (nt (dN y1).natAbs)):=Hh.out.cell 1;have h2:wc.cell? ⟨g,2,none⟩=some (af (dE y1)):=Hh.out.cell 2;have h3:wc.cell? ⟨g,3,none⟩=some (ag (au (dN y2))):=Hh.out.cell 3;have h4:wc.cell? ⟨g,4,none⟩=some (ah (nt (dN y2).natAbs)):=Hh.out.cell 4;have h5:wc.cell? ⟨g,5,none⟩=some (af (dE y2)):=Hh.out.cell 5;have h6:wc.cell? ⟨g,6,none⟩=some (ag (au (dN X))):=Hh.out.cell 6;have h7:wc.cell? ⟨g,7,none⟩=some (ah (nt (dN X).natAbs)):=Hh.out.cell 7;have h8:wc.cell? ⟨g,8,none⟩=some (af (dE X)):=Hh.out.cell 8;have HA:Hid (At wc (some ⟨b,o,none⟩) (G.flatMap dP)):=HA.out;go_wp2_with fail;refine bR (λw'=>aC w' g 0 (ag (au (dN y1)))/\aC w' g 1 (ah (nt (dN y1).natAbs))/\aC w' g 2 (af (dE y1))/\aC w' g 3 (ag (au (dN y2)))/\aC w' g 4 (ah (nt (dN y2).natAbs))/\aC w' g 5 (af (dE y2))/\aC w' g 6 (ag (au (dN X)))/\aC w' g 7 (ah (nt (dN X).natAbs))/\aC w' g 8 (af (dE X))) (λi=>Nat.blt i 100000) [(0,true),(1,true),(2,true),(5,true),(6,true),(7,true),(3,false),(4,false),(8,false),(9,false),(10,true),(11,true),(12,true)] zk zk rfl zk zc ⟨h0,h1,h2,h3,h4,h5,h6,h7,h8⟩ ?_;iterate 6 (refine pT rfl rfl ?_ (by intro w' ⟨q0,q1,q2,q3,q4,q5,q6,q7,q8⟩;go_simp;try with_reducible rfl);try simp only[UU])
  refine aI rfl rfl (λK hK=>?_);go_simp;with_reducible refine(aip _ _ _ _ _ _ _ _ _ _).mono ?_
  rintro e w5 ⟨rfl,hq⟩;have ae:Bw wc w5:=by first|exact hq|exact aW hq
  clear h0 h1 h2 h3 h4 h5 h6 h7 h8;replace Hh:=kB Hh ae;replace HA:=kA HA ae;have h0:w5.cell? ⟨g,0,none⟩=some (ag (au (dN y1))):=Hh.out.cell 0;have h1:w5.cell? ⟨g,1,none⟩=some (ah (nt (dN y1).natAbs)):=Hh.out.cell 1;have h2:w5.cell? ⟨g,2,none⟩=some (af (dE y1)):=Hh.out.cell 2;have h3:w5.cell? ⟨g,3,none⟩=some (ag (au (dN y2))):=Hh.out.cell 3;have h4:w5.cell? ⟨g,4,none⟩=some (ah (nt (dN y2).natAbs)):=Hh.out.cell 4;have h5:w5.cell? ⟨g,5,none⟩=some (af (dE y2)):=Hh.out.cell 5;have h6:w5.cell? ⟨g,6,none⟩=some (ag (au (dN X))):=Hh.out.cell 6;have h7:w5.cell? ⟨g,7,none⟩=some (ah (nt (dN X).natAbs)):=Hh.out.cell 7;have h8:w5.cell? ⟨g,8,none⟩=some (af (dE X)):=Hh.out.cell 8;replace Hb:=aB Hb ae;clear ae;refine hK _ _ (λ_=>⟨h0,h1,h2,h3,h4,h5,h6,h7,h8⟩) ?_;clear hK K;try simp only[UU]
  refine aI rfl rfl (λK hK=>?_);go_simp;with_reducible refine(Wk ⟨b,o,none⟩ L c' G i _ _ _ _ _ _ _ TV.out hl hi HA.out wc.heap.size Hb.out.size).mono ?_
  rintro e w6 ⟨g1,rfl,hg1,ht1,hq⟩;have ae:Bw w5 w6:=by first|exact hq|exact aW hq
  clear h0 h1 h2 h3 h4 h5 h6 h7 h8;replace Hh:=kB Hh ae;replace HA:=kA HA ae;have h0:w6.cell? ⟨g,0,none⟩=some (ag (au (dN y1))):=Hh.out.cell 0;have h1:w6.cell? ⟨g,1,none⟩=some (ah (nt (dN y1).natAbs)):=Hh.out.cell 1;have h2:w6.cell? ⟨g,2,none⟩=some (af (dE y1)):=Hh.out.cell 2;have h3:w6.cell? ⟨g,3,none⟩=some (ag (au (dN y2))):=Hh.out.cell 3;have h4:w6.cell? ⟨g,4,none⟩=some (ah (nt (dN y2).natAbs)):=Hh.out.cell 4;have h5:w6.cell? ⟨g,5,none⟩=some (af (dE y2)):=Hh.out.cell 5;have h6:w6.cell? ⟨g,6,none⟩=some (ag (au (dN X))):=Hh.out.cell 6;have h7:w6.cell? ⟨g,7,none⟩=some (ah (nt (dN X).natAbs)):=Hh.out.cell 7;have h8:w6.cell? ⟨g,8,none⟩=some (af (dE X)):=Hh.out.cell 8;replace Hb:=aB Hb ae;clear ae;have HU:=ai ht1;clear ht1;refine hK _ _ (λ_=>⟨h0,h1,h2,h3,h4,h5,h6,h7,h8⟩) ?_;clear hK K;try simp only[UU]
  refine aI rfl rfl (λK hK=>?_);go_simp;with_reducible refine(aio _ _ _ _ _ _ _ _ _ _).mono ?_
  rintro e w7 ⟨rfl,hq⟩;have ae:Bw w6 w7:=by first|exact hq|exact aW hq
  clear h0 h1 h2 h3 h4 h5 h6 h7 h8;replace Hh:=kB Hh ae;replace HA:=kA HA ae;replace HU:=kB HU ae;have h0:w7.cell? ⟨g,0,none⟩=some (ag (au (dN y1))):=Hh.out.cell 0;have h1:w7.cell? ⟨g,1,none⟩=some (ah (nt (dN y1).natAbs)):=Hh.out.cell 1;have h2:w7.cell? ⟨g,2,none⟩=some (af (dE y1)):=Hh.out.cell 2;have h3:w7.cell? ⟨g,3,none⟩=some (ag (au (dN y2))):=Hh.out.cell 3;have h4:w7.cell? ⟨g,4,none⟩=some (ah (nt (dN y2).natAbs)):=Hh.out.cell 4;have h5:w7.cell? ⟨g,5,none⟩=some (af (dE y2)):=Hh.out.cell 5;have h6:w7.cell? ⟨g,6,none⟩=some (ag (au (dN X))):=Hh.out.cell 6;have h7:w7.cell? ⟨g,7,none⟩=some (ah (nt (dN X).natAbs)):=Hh.out.cell 7;have h8:w7.cell? ⟨g,8,none⟩=some (af (dE X)):=Hh.out.cell 8;replace Hb:=aB Hb ae;clear ae;refine hK _ _ (λ_=>⟨h0,h1,h2,h3,h4,h5,h6,h7,h8⟩) ?_;clear hK K;try simp only[UU]
  refine aI rfl rfl (λK hK=>?_);go_simp;with_reducible refine(Wk ⟨b,o,none⟩ L c' G i _ _ _ _ _ _ _ TV.out hl hi HA.out wc.heap.size Hb.out.size).mono ?_
  rintro e w8 ⟨g2,rfl,hg2,ht2,hq⟩;have ae:Bw w7 w8:=by first|exact hq|exact aW hq
  clear h0 h1 h2 h3 h4 h5 h6 h7 h8;replace Hh:=kB Hh ae;replace HA:=kA HA ae;replace HU:=kB HU ae;have h0:w8.cell? ⟨g,0,none⟩=some (ag (au (dN y1))):=Hh.out.cell 0;have h1:w8.cell? ⟨g,1,none⟩=some (ah (nt (dN y1).natAbs)):=Hh.out.cell 1;have h2:w8.cell? ⟨g,2,none⟩=some (af (dE y1)):=Hh.out.cell 2;have h3:w8.cell? ⟨g,3,none⟩=some (ag (au (dN y2))):=Hh.out.cell 3;have h4:w8.cell? ⟨g,4,none⟩=some (ah (nt (dN y2).natAbs)):=Hh.out.cell 4;have h5:w8.cell? ⟨g,5,none⟩=some (af (dE y2)):=Hh.out.cell 5;have h6:w8.cell? ⟨g,6,none⟩=some (ag (au (dN X))):=Hh.out.cell 6;have h7:w8.cell? ⟨g,7,none⟩=some (ah (nt (dN X).natAbs)):=Hh.out.cell 7;have h8:w8.cell? ⟨g,8,none⟩=some (af (dE X)):=Hh.out.cell 8;replace Hb:=aB Hb ae;clear ae;have HV:=ai ht2;clear ht2;refine hK _ _ (λ_=>⟨h0,h1,h2,h3,h4,h5,h6,h7,h8⟩) ?_;clear hK K;try simp only[UU]
  iterate 3 (refine pT rfl rfl ?_;try simp only[UU])
  simp only[bi];have hsz:=(aJ bW.out lI.out).size;go_wp2;refine bodyPost_ret (v:=.tuple #[.slice (some ⟨g1,0,none⟩) L L,.slice (some ⟨g2,0,none⟩) L L,af 0]) (by simp[results,Tryz.results74,go_sem]) rfl ⟨g1,g2,rfl,by omega,by omega,HU.out,HV.out,aJ (aJ bW.out lI.out) Hb.out⟩
end Go.Proofs.YtoopepmmepmfnaaGreatDoor
namespace Go.Proofs.YtoopepmmepmfnaaGreatDoor
open Go.RowKit
def Pd (w:World)(ob:Option Nat)(v:Value)(cM:List Raw):Prop:=∃a cap,v=.slice a cM.length cap/\At w a (cM.flatMap bI)/\Sl a cM.length cap/\∀b o,a=some ⟨b,o,none⟩->some b≠ob/\b<w.heap.size
theorem Pd.pc {w:World}{ob:Option Nat}{v:Value}{cM:List Raw}(h:Pd w ob v cM):Pc w v cM:=by obtain⟨a,c,h1,h2,h3,_⟩:=h;exact⟨a,c,h1,h2,h3⟩
theorem Pd.below {w w':World}{ob:Option Nat}{v:Value}{cM:List Raw}(h:Pd w ob v cM)(hb:Bw w w'):Pd w' ob v cM:=by obtain⟨a,c,h1,h2,h3,h4⟩:=h;exact⟨a,c,h1,h2.below hb,h3,λb o e=>⟨(h4 b o e).1,Nat.lt_of_lt_of_le (h4 b o e).2 hb.size⟩⟩
theorem Pd.grown {w w':World}{ob Sw:Option Nat}{v:Value}{cM:List Raw}(h:Pd w ob v cM)(hg:w.grownBy w' ob)(iE:Sw=ob\/Sw=some w.heap.size):Pd w' Sw v cM:=by
 obtain⟨a,c,h1,h2,h3,h4⟩:=h;refine⟨a,c,h1,h2.grown hg (λb o e=>(h4 b o e).1),h3,λb o e=>⟨?_,Nat.lt_of_lt_of_le (h4 b o e).2 hg.size⟩⟩;rcases iE with h|h
 . rw[h];exact(h4 b o e).1
 . rw[h];intro h5;have:=(h4 b o e).2;simp at h5;omega
theorem Pd.own {w:World}{base:Nat}{e:TypeId}{ob:Option Nat}{x:Value}{cM:List Raw}{n:Nat}(h:w.ownsRow base e 3 x n (cM.flatMap bI))(hn:cM.length=n)(iE:∀g,ob=some g->g<base):Pd w ob x cM:=by subst hn;have hl:=h.lt;obtain⟨a,c,hv,hat,hb⟩:=eo h;subst hv;refine⟨a,c,rfl,hat,uP h,λb o e=>?_⟩;subst e;have h1:=hl b rfl;refine⟨λh2=>?_,h1.2⟩;have:=iE b h2.symm;omega
def nI (e:TypeId)(w:World)(base:Nat)(S:List (List Raw))(k:Nat)(v:Value):Prop:=
 ∃vals:List Value,vals.length=k/\w.ownsRow base e 1 v k vals/\∀i (h:i<vals.length),Pd w v.ownBlock vals[i] (S.getD i [])
theorem nI.nil (e:TypeId)(w:World)(base:Nat)(S:List (List Raw)):nI e w base S 0 (.slice none 0 0):=
 ⟨[],rfl,World.ownsRow_nil _ _ _ _,λ_ h=>absurd h (Nat.not_lt_zero _)⟩
theorem nI.below {e:TypeId}{w w':World}{base k:Nat}{S:List (List Raw)}{v:Value}(h:nI e w base S k v)(hb:Bw w w'):nI e w' base S k v:=by obtain⟨vals,hl,ho,hi⟩:=h;exact⟨vals,hl,ownsRow_below ho hb,λi h=>(hi i h).below hb⟩
theorem nI.lt {e:TypeId}{w:World}{base k:Nat}{S:List (List Raw)}{v:Value}(h:nI e w base S k v):∀g,v.ownBlock=some g->base<=g/\g<w.heap.size:=by obtain⟨vals,hl,ho,hi⟩:=h;exact ho.lt
theorem nI.tbl {e:TypeId}{w:World}{base k:Nat}{S:List (List Raw)}{v:Value}(h:nI e w base S k v)(hk:S.length=k):∃a c,v=.slice a k c/\Sl a k c/\mG w a S:=by obtain⟨vals,hl,ho,hi⟩:=h;obtain⟨a,c,hv,hat,_⟩:=eo ho;subst hv;refine⟨a,c,rfl,uP ho,vals,by simp[hl,hk],hat,λi h1 h2=>?_⟩;have:=(hi i h2).pc;rwa [show S.getD i []=S[i]by simp[h1]]at this
theorem adG {P:Program}{w:World}{ops:Array Oper}{rest:List Oper}{o:Oper}{a:Act}{Q:Exit->Act->World->Prop}(hgd:o.guard=none)(s x:Operand)(t:TypeId)
 (ho:o.op=.call {callee:=.builtin .append,args:=#[s,x],argTypes:=#[t,t]})
 (base:Nat) (e:TypeId) (i:TypeInfo) (z:Value) (ht:P.underlying t=Option.some (.slice e)) (hi:P.info? e=Option.some i) (hz:i.zero=Option.some z)
 (hsize:i.size=1) (hby:i.bytes=24) (hzs:z.cells.size=1)
 (v:Value) (k:Nat) (S:List (List Raw)) (hs:a.eval s=v) (hown:nI e w base S k v)
 (g:Nat) (c:Nat) (row:Value) (hx:a.eval x=.slice (some ⟨g,0,none⟩) 1 c) (hc:w.cell? ⟨g,0,none⟩=some row) (hp:Pd w v.ownBlock row (S.getD k []))
 (hk:k<=1000) (hbase:base<=w.heap.size)
 (h:∀v' w',nI e w' base S (k+1) v'->w.grownBy w' v.ownBlock->(∀j,v.ownBlock=some j->base<=j)->wpList P ops Q rest (a.put o.dst v') w'):
 wpList P ops Q (o::rest) a w:=by
 obtain⟨vals,hl,how,hi2⟩:=hown;have h1:row.oneCell'=true:=by obtain⟨a,cp,rfl,_⟩:=hp;rfl
 refine wpList_append_own_at w hgd s x t ho base e i z 1 24 ht hi hz hsize hby hzs zd v k vals hs how ⟨g,0,none⟩ 1 c [row] hx rfl (λj u hj=>?_) (λu hu=>?_) (by unfold maxLen;omega) zo hbase (λv' w' h2 h3 _ h5=>?_)
 . have Ge:j=0:=by have:=(List.getElem?_eq_some_iff.1 hj).1;simp at this;omega
   subst Ge;simp at hj;subst hj;exact hc
 . simp only[List.mem_singleton]at hu;subst hu;exact h1
 . refine h v' w' ⟨_,by simp[hl],h2,λi Zt=>?_⟩ h3 (λj hj=>(how.lt j hj).1);by_cases hk2:i<vals.length
   . rw[List.getElem_append_left hk2];exact(hi2 i hk2).grown h3 h5
   . have hik:i=k:=by simp at Zt;omega
     subst hik;rw[List.getElem_append_right zo];simp only[hl,Nat.sub_self,List.getElem_cons_zero];exact hp.grown h3 h5
end Go.Proofs.YtoopepmmepmfnaaGreatDoor
