/- An own row cut short,cleared behind;an own row as a whole block. -/
import Derived.Test.YtpfgffadgkkedaaGreatDoorZ11
import Derived.Laws.CopyRow
import Derived.Laws.AppendOwnNone
import Derived.Deep.DeepAppendRoom
import Derived.Test.YtpfgffadgkkedaaGreatDoorZ7
import Derived.Test.YtpfgffadgkkedaaGreatDoorZ13
import Derived.Test.YtpfgffadgkkedaaGreatDoorZ12
set_option linter.all false
set_option maxRecDepth 100000
set_option maxHeartbeats 16000000
namespace Go.Proofs.YtpfgffadgkkedaaGreatDoor
open Go.RowKit
def Nj {w:World}{base:Nat}{e:TypeId}{size n cap g:Nat}{xs:List Value}(h:w.ownsRow base e size (.slice (some ⟨g,0,none⟩) n cap) n xs)(i:Nat)(hi:i<=n):
 w.ownsRow base e size (.slice (some ⟨g,0,none⟩) i cap) i (xs.take (i*size)):=by
 have qA:i*size<=n*size:=Nat.mul_le_mul_right _ hi;refine⟨by rw[List.length_take,h.1];omega,?_⟩;rcases h.2 with⟨h1,_⟩ |⟨g',cap',cur,h1,hb,hg,h4,h5,h6,hx⟩
 . simp at h1
 . simp only[Value.slice.injEq,Option.some.injEq,Addr.mk.injEq,and_true,true_and]at h1;obtain⟨rfl,rfl⟩:=h1;refine .inr ⟨g,cap,cur,rfl,hb,hg,by omega,h5,h6,?_⟩;rw[<-hx,List.take_take,Nat.min_eq_left qA]
def rO {w:World}{base:Nat}{e:TypeId}{size n:Nat}{v:Value}{xs:List Value}(h:w.ownsRow base e size v n xs)(hn:0<n):∃g cap,v=.slice (some ⟨g,0,none⟩) n cap/\base<=g/\g<w.heap.size/\n<=cap:=by
 rcases h.2 with⟨_,h1⟩ |⟨g,cap,cur,h1,hb,hg,h4,_⟩
 . omega
 . exact⟨g,cap,h1,hb,(Array.getElem?_eq_some_iff.1 hg).1,h4⟩
def aug {w:World}{base:Nat}{e:TypeId}{size n cap g:Nat}{xs:List Value}(h:w.ownsRow base e size (.slice (some ⟨g,0,none⟩) n cap) n xs)(o:Nat)(vs:List Value)(ho:n*size<=o)(cur:Array Value)(Dt:w.heap[g]?=some (.cells cur e (0,0)))(hl:o+vs.length<=cur.size):
 (w.setRow g (cur.toList.take o++vs++cur.toList.drop (o+vs.length)).toArray).ownsRow base e size (.slice (some ⟨g,0,none⟩) n cap) n xs/\w.grownBy (w.setRow g (cur.toList.take o++vs++cur.toList.drop (o+vs.length)).toArray) (some g):=by
 have hh:=setRow_heap w g cur (cur.toList.take o++vs++cur.toList.drop (o+vs.length)).toArray e (0,0) Dt;constructor
 . refine⟨h.1,?_⟩;rcases h.2 with⟨h1,_⟩ |⟨g',cap',cur',h1,hb,hg,h4,h5,h6,hx⟩
   . simp at h1
   . simp only[Value.slice.injEq,Option.some.injEq,Addr.mk.injEq,and_true,true_and]at h1;obtain⟨rfl,rfl⟩:=h1;rw[Dt]at hg;simp only[Option.some.injEq,Obj.cells.injEq,and_true]at hg;subst hg;refine .inr ⟨g,cap,_,rfl,hb,hh,h4,h5,?_,?_⟩
     . rw[<-h6];have hcl:cur.toList.length=cur.size:=Array.length_toList;simp only[List.size_toArray,List.length_append,List.length_take,List.length_drop,hcl];omega
     . rw[<-hx];have hcl:cur.toList.length=cur.size:=Array.length_toList;simp only[List.append_assoc];rw[List.take_append_of_le_length (by rw[List.length_take,hcl];omega),List.take_take,Nat.min_eq_left ho]
 . refine⟨rfl,rfl,rfl,by simp[World.setRow],λk hk hne=>?_⟩;unfold World.setRow;simp only[Array.getElem?_modify];rw[if_neg (λe=>hne (by rw[e]))]
def afO {P:Program}(w:World)(t e:TypeId)(z:Value)(size:Nat)(ht:P.underlying t=some (.slice e))(hv:∀w,(zeroValue e).run P w=.ok z w)(hz:z.cells.size=size)(h1:∀v∈z.cells.toList,v.oneCell'=true)(g n m cap c:Nat)(base:Nat)(xs:List Value)
 (h:w.ownsRow base e size (.slice (some ⟨g,0,none⟩) n cap) n xs) (hm:n+m<=cap):
 ∃w',(∀ty,(Builtin.clear_ #[t] ty #[.slice (some ⟨g,n*size,none⟩) m c]).run P w=.ok (.tuple #[]) w')/\w'.ownsRow base e size (.slice (some ⟨g,0,none⟩) n cap) n xs/\w.grownBy w' (some g):=by
 rcases h.2 with⟨h2,_⟩ |⟨g',cap',cur,h2,hb,hg,h4,h5,h6,hx⟩
 . simp at h2
 simp only[Value.slice.injEq,Option.some.injEq,Addr.mk.injEq,and_true,true_and]at h2;obtain⟨rfl,rfl⟩:=h2;by_cases hm0:m=0
 . subst hm0;refine⟨w,λty=>?_,h,World.grownBy.refl _ _⟩;simp[Builtin.clear_,run_underlying ht]
 . obtain⟨vs,hvs⟩:=az ((Builtin.zeroCells z.cells m).toList);have hvl:vs.length=m*size:=by rw[<-hvs,Array.length_toList,size_zeroCells,hz]
   have yG:∀v∈vs,v.oneCell'=true:=by
    intro v hv2;rw[<-hvs]at hv2;unfold Builtin.zeroCells at hv2;simp only[Array.toList_map,Array.toList_range,List.mem_map,List.mem_range]at hv2;obtain⟨i,hi,rfl⟩:=hv2;have hs:0<z.cells.size:=by
     rcases Nat.eq_zero_or_pos z.cells.size with h0|h0
     . rw[h0]at hi;simp at hi
     . exact h0
    have:=Nat.mod_lt i hs;rw[getElem!_pos z.cells (i%z.cells.size) this];exact h1 _ zm
   have hle:n*size+0+vs.length<=cur.size:=by rw[hvl,h6];have:=Nat.mul_le_mul_right size hm;rw[Nat.add_mul]at this;omega
   have hst:=run_storeCells_at (P:=P) g (n*size) e vs 0 cur w hg hle yG;obtain⟨k1,k2⟩:=aug h (n*size) vs (Nat.le_refl _) cur hg zo;refine⟨_,λty=>?_,k1,k2⟩;obtain⟨m',rfl⟩:∃m',m=m'+1:=⟨m-1,by omega⟩;simp[Builtin.clear_,run_underlying ht,hv,hvs,hst]
def Sl (a:Option Addr)(n cap:Nat):Prop:=n<=cap/\(a=none->cap=0)
def Sl.nil :Sl none 0 0:=⟨Nat.le_refl _,λ_=>rfl⟩
def Sl.some (x:Addr)(n cap:Nat)(h:n<=cap):Sl (some x) n cap:=⟨h,λe=>by cases e⟩
def yT {w:World}{base:Nat}{e:TypeId}{size n k cap:Nat}{a:Option Addr}{xs:List Value}(h:w.ownsRow base e size (.slice a k cap) n xs):Sl a k cap:=by
 rcases h.2 with⟨h1,_⟩ |⟨g,cap',cur,h1,hb,hg,h4,_⟩
 . simp only[Value.slice.injEq]at h1;obtain⟨rfl,rfl,rfl⟩:=h1;exact Sl.nil
 . simp only[Value.slice.injEq]at h1;obtain⟨rfl,rfl,rfl⟩:=h1;exact Sl.some _ _ _ h4
def VR {P:Program}{w:World}{ops:Array Oper}{rest:List Oper}{o:Oper}{a:Act}{Q:Exit->Act->World->Prop}(hgd:o.guard=none)(s x:Operand)(t:TypeId)
 (ho:o.op=.call {callee:=.builtin .append,args:=#[s,x],argTypes:=#[t,t]})
 (base:Nat) (e:TypeId) (i:TypeInfo) (z:Value) (size bytes:Nat) (ht:P.underlying t=Option.some (.slice e)) (hi:P.info? e=Option.some i) (hz:i.zero=Option.some z)
 (hsize:i.size=size) (hby:i.bytes=bytes) (hzs:z.cells.size=size) (hsz:0<size)
 (v:Value) (n:Nat) (xs:List Value) (hs:a.eval s=v) (hown:w.ownsRow base e size v n xs)
 (aa:Option Addr) (m c:Nat) (news:List Value) (hx:a.eval x=.slice aa m c) (hsl:aa=none->m=0/\c=0) (hl:news.length=m*size) (hat:At w aa news) (h1:∀u∈news,u.oneCell'=true)
 (h63:n+m<=maxLen) (hbytes:(n+m) *bytes<=140737488355328) (hbase:base<=w.heap.size)
 (h:∀v' w',w'.ownsRow base e size v' (n+m) (xs++news)->w.grownBy w' v.ownBlock->(v'.ownBlock=v.ownBlock\/v'.ownBlock=Option.some w.heap.size)->wpList P ops Q rest (a.put o.dst v') w'):
 wpList P ops Q (o::rest) a w:=by
 cases aa with
 |none=>obtain⟨hm,hc⟩:=hsl rfl;subst hc;subst hm;have hn:news=[]:=List.eq_nil_of_length_eq_zero (by simpa using hl);subst hn;refine wpList_append_own_none hgd s x t ho base e i size ht hi v n xs hs hown hx ?_;exact h v w (by simpa using hown) (World.grownBy.refl _ _) (.inl rfl)
 | some ad=>
   refine wpList_append_own_at w hgd s x t ho base e i z size bytes ht hi hz hsize hby hzs hsz v n xs hs hown ad m c news hx hl ?_ h1 h63 hbytes hbase (λv' w' h2 h3 _ h5=>h v' w' h2 h3 h5);intro j u hj;rcases hat with h0|⟨b,o',e',hc⟩
   . subst h0;simp at hj
   . simp only[Option.some.injEq]at e';subst e';have hjl:=(List.getElem?_eq_some_iff.1 hj).1;have e2:((⟨b,o',none⟩:Addr).add j)=⟨b,o'+j,none⟩:=by unfold Addr.add;cases j<;>simp
     rw[e2,hc j hjl];exact hj
def uo {P:Program}{w:World}{ops:Array Oper}{rest:List Oper}{o:Oper}{a:Act}{Q:Exit->Act->World->Prop}(hgd:o.guard=none)(s x:Operand)(t:TypeId)
 (ho:o.op=.call {callee:=.builtin .append,args:=#[s,x],argTypes:=#[t,t]})
 (base:Nat) (e:TypeId) (i:TypeInfo) (z:Value) (size bytes:Nat) (ht:P.underlying t=Option.some (.slice e)) (hi:P.info? e=Option.some i) (hz:i.zero=Option.some z)
 (hsize:i.size=size) (hby:i.bytes=bytes) (hzs:z.cells.size=size) (hsz:0<size)
 (v:Value) (n:Nat) (xs:List Value) (hs:a.eval s=v) (hown:w.ownsRow base e size v n xs)
 (aa:Option Addr) (m c:Nat) (news:List Value) (hx:a.eval x=.slice aa m c) (hsl:Sl aa m c) (hl:news.length=m*size) (hat:At w aa news) (h1:∀u∈news,u.oneCell'=true)
 (h63:n+m<=maxLen) (hbytes:(n+m) *bytes<=140737488355328) (hbase:base<=w.heap.size)
 (h:∀v' w',w'.ownsRow base e size v' (n+m) (xs++news)->w.grownBy w' v.ownBlock->(v'.ownBlock=v.ownBlock\/v'.ownBlock=Option.some w.heap.size)->wpList P ops Q rest (a.put o.dst v') w'):
 wpList P ops Q (o::rest) a w:=
 VR hgd s x t ho base e i z size bytes ht hi hz hsize hby hzs hsz v n xs hs hown aa m c news hx (λe=>⟨by have h1:=hsl.1;have h2:=hsl.2 e;omega,hsl.2 e⟩) hl hat h1 h63 hbytes hbase h
def At.cut {w:World}{a:Option Addr}{xs:List Value}{k cap size n:Nat}(h:At w a xs)(hl:xs.length=n*size)(hk:k<=n)(hc:n<=cap):At w (if cap=k then a else a.map (·.add (k*size))) (xs.drop (k*size)):=by
 rcases h with h0|⟨b,o,rfl,hcs⟩
 . subst h0;simp;exact .inl rfl
 . by_cases e:cap=k
   . have:xs.drop (k*size)=[]:=List.drop_of_length_le (by rw[hl];exact Nat.mul_le_mul_right _ zo);rw[this];exact .inl rfl
   . rw[if_neg e];have e2:((⟨b,o,none⟩:Addr).add (k*size))=⟨b,o+k*size,none⟩:=by unfold Addr.add;split<;>simp_all
     refine .inr ⟨b,o+k*size,by rw[Option.map_some,e2],λj hj=>?_⟩;rw[List.length_drop]at hj;rw[Nat.add_assoc,hcs _ zo,List.getElem?_drop]
def Sl.cut {a:Option Addr}{k cap size n:Nat}(h:Sl a n cap)(hk:k<=n):Sl (if cap=k then a else a.map (·.add (k*size))) (n-k) (cap-k):=by
 refine⟨by have:=h.1;omega,λe=>?_⟩;by_cases e1:cap=k
 . omega
 . rw[if_neg e1]at e
   have:=h.2 (by cases a with
    |none=>rfl
    |some x=>simp at e)
   omega
def Pc (w:World)(v:Value)(dD:List Raw):Prop:=∃a cap,v=.slice a dD.length cap/\At w a (dD.flatMap aV)/\Sl a dD.length cap
def Pc.below {w w':World}{v:Value}{dD:List Raw}(h:Pc w v dD)(hb:Bw w w'):Pc w' v dD:=by obtain⟨a,cap,hv,ha,hs⟩:=h;exact⟨a,cap,hv,ha.below hb,hs⟩
def vR (w:World)(a:Option Addr)(rows:List (List Raw)):Prop:=∃vals:List Value,vals.length=rows.length/\At w a vals/\∀i (h:i<rows.length) (h':i<vals.length),Pc w vals[i] rows[i]
def vR.below {w w':World}{a:Option Addr}{rows:List (List Raw)}(h:vR w a rows)(hb:Bw w w'):vR w' a rows:=by obtain⟨vals,hl,ha,hp⟩:=h;exact⟨vals,hl,ha.below hb,λi h1 h2=>(hp i h1 h2).below hb⟩
def vR.tbl {w:World}{a:Option Addr}{rows:List (List Raw)}(h:vR w a rows):Tbl w a rows:=by obtain⟨vals,hl,ha,hp⟩:=h;refine⟨vals,hl,ha,λi h1 h2=>?_⟩;obtain⟨a',c',e1,e2,_⟩:=hp i h1 h2;exact⟨a',c',e1,e2⟩
def vR.row {w:World}{a:Option Addr}{rows:List (List Raw)}(h:vR w a rows)(k:Nat)(hk:k<rows.length):
 ∃b o a' cap',a=some ⟨b,o,none⟩/\w.cell? ⟨b,o+k,none⟩=some (.slice a' rows[k].length cap')/\At w a' (rows[k].flatMap aV)/\Sl a' rows[k].length cap':=by
 obtain⟨vals,hl,ha,hp⟩:=h;have hk2:k<vals.length:=by rw[hl];exact hk
 obtain⟨b,o,hab,hcs⟩:=ha.get (by intro h0;rw[h0]at hk2;simp at hk2);obtain⟨a',cap',hv,hat,hs⟩:=hp k hk hk2;exact⟨b,o,a',cap',hab,by rw[hcs k hk2,List.getElem?_eq_getElem hk2,hv],hat,hs⟩
def Ej (dD:List Raw):∀u∈dD.flatMap aV,u.oneCell'=true:=by intro u hu;obtain⟨r,_,hr⟩:=List.mem_flatMap.1 hu;simp only[aV,List.mem_cons,List.not_mem_nil,or_false]at hr;rcases hr with rfl|rfl|rfl<;>rfl
def spC (s:Raw×Raw):List Value:=aV s.1++aV s.2
def At.spn {W:World}{a:Option Addr}{bx:List (Raw×Raw)}(h:At W a (bx.flatMap spC))(k:Nat)(hk:k<bx.length){s t:Bool}{m n:List UInt8}{e f:Int}(hx:bx[k]=((s,m,e),(t,n,f))):
 ∃b o,a=some ⟨b,o,none⟩/\aQ W b (o+k*6) [ag s,ah m,af e,ag t,ah n,af f]:=by
 obtain⟨b,o,ha,hc⟩:=h.elem (f:=spC) (sz:=6) (λ_=>rfl) zd k hk;rw[hx]at hc;refine⟨b,o,ha,λj hj=>?_⟩;have GL:j<6:=hj;rw[hc j GL];exact List.getElem?_eq_getElem hj
abbrev ze (p:Pr):Value:=.agg #[ag (au (dN p.1)),ah (nt (dN p.1).natAbs),af (dE p.1),ag (au (dN p.2)),ah (nt (dN p.2).natAbs),af (dE p.2)]
def Vt (bx:List (Raw×Raw)):(bx.flatMap spC).length=bx.length*6:=iE spC 6 (λ_=>rfl) bx
def af2 (bx:List (Raw×Raw)):∀u∈bx.flatMap spC,u.oneCell'=true:=by
 intro u hu;obtain⟨s,_,hs⟩:=List.mem_flatMap.1 hu;rcases List.mem_append.1 hs with h|h
 . exact Ej [s.1] u (by simpa using h)
 . exact Ej [s.2] u (by simpa using h)
def jM (A:Dyadic->Dyadic->Bool)(xs:List Raw):Nat->Raw
 |0=>(false,[],0)
 |k+1=>if k=0\/A (dval (xs.getD k (false,[],0))) (dval (jM A xs k))=true then xs.getD k (false,[],0)else jM A xs k
def apj (A:Dyadic->Dyadic->Bool)(xs:List Raw)(Q:Raw->Prop)(h0:Q (false,[],0))(h:∀x∈xs,Q x)(k:Nat):Q (jM A xs k):=by
 have hg:∀k,Q (xs.getD k (false,[],0)):=λk=>by
  by_cases hk:k<xs.length
  . have e:xs.getD k (false,[],0)=xs[k]:=by simp[hk]
    rw[e];exact h _ (List.getElem_mem hk)
  . have e:xs.getD k (false,[],0)=(false,[],0):=by simp[List.getD_eq_getElem?_getD,List.getElem?_eq_none (by omega:xs.length<=k)]
    rw[e];exact h0
 induction k with
 |zero=>exact h0
 | succ k ih=>
   unfold jM;split
   . exact hg k
   . exact ih
def Ok.zero :Ok (false,[],0):=⟨by decide,by decide,by decide⟩
end Go.Proofs.YtpfgffadgkkedaaGreatDoor
namespace Go.Proofs.YtpfgffadgkkedaaGreatDoor
open Go.RowKit
attribute [local go_sem ↓] Go.wp_at_zero Go.wp_at_succ
def aah (gf:Nat)(A:Dyadic->Dyadic->Bool)(xs:List Raw)(a:Option Addr)(n cap:Nat)(w:World)(hn:xs.length=n)(hl:n<=1048576)(h:∀x∈xs,Ok x)(ha:At w a (xs.flatMap aV))(hT:aB w)
 (eg:∀args w,(callFunc gf args).run Tryz.prog w=.ok (.enter gf args) w)
 (hcl:∀(s:Bool) (l:List UInt8) (e:Int) (t:Bool) (m:List UInt8) (f:Int),Ok (s,l,e)->Ok (t,m,f)->∀W,aB W->Cl gf #[.agg #[ag s,ah l,af e],.agg #[ag t,ah m,af f]] W λe' w'=>e'=.returned (ag (A (dval (s,l,e)) (dval (t,m,f))))/\Bw W w'):
 Cv 313 #[.slice a n cap,.func (.func gf) #[] #[]] w (bN (dval (jM A xs n))):=by
 obtain⟨X,hX⟩:=az (dval (jM A xs n));rw[hX];have hok:=apj A xs Ok Ok.zero h;have hget:∀k,k<xs.length->∃s m e,xs[k]?=some (s,m,e)/\xs.getD k (false,[],0)=(s,m,e)/\Ok (s,m,e):=λk hk=>⟨xs[k].1,xs[k].2.1,xs[k].2.2,by simp[hk],by simp[hk],h _ (List.getElem_mem hk)⟩;obtain⟨kK,Cm,Ha,HT,lN,fV,Hn,HXn⟩:=lC hok hget ha hT eg hcl hn hX;clear hok hget ha hT eg hcl hn h hX;obtain⟨W,bX,ae,ai⟩:=jz w 45 [ag false,.string ⟨#[]⟩,af 0] 45 [ag false,.string ⟨#[]⟩,af 0];go_enter Tryz.func313,Tryz.ntmps313;have sD:=ae.2.1;have Kh:=ae.2.2.1;have lr:=ae.2.1.out.lt;have lo:=ae.2.2.1.out.lt;go_wp2_with fail;skip
 go_loopw[10] (λx wr=>∃k:Nat,k<=n/\x=af (k:Int)/\ar wr w.heap.size 45 [ag false,.string ⟨#[]⟩,af 0]/\ar wr (w.heap.size+1) 45 (aV (jM A xs k))/\Bw w wr) (λx _=>n-(intOf x).toNat);case atStart=>exact⟨0,Nat.zero_le _,rfl,ae.2.1.out,ae.2.2.1.out,ae.1.out⟩
 case round=>
  clear sD Kh;obtain⟨k,hk,rfl,pr,po,pb⟩:=hrel;obtain⟨⟨t,m',f⟩,hF⟩:∃F,jM A xs k=F:=⟨_,rfl⟩;have Ia:=kK.out k;rw[hF]at po Ia;by_cases hlt:k<n
  . have eY:k<xs.length:=by rw[Hn.out];exact hlt
    obtain⟨s,m,e,hx1,hx2,hox⟩:=Cm.out k eY;obtain⟨b,o,hab,q0,q1,q2⟩:=(Ha.out.below pb).num k eY (List.getElem?_eq_some_iff.1 hx1).2;have aU:=ud n cap k (k:Int) hab hlt rfl;have hst:jM A xs (k+1)=if k=0\/A (dval (s,m,e)) (dval (t,m',f))=true then(s,m,e)else(t,m',f):=by
     show(if k=0\/A (dval (xs.getD k (false,[],0))) (dval (jM A xs k))=true then xs.getD k (false,[],0)else jM A xs k)=_
     rw[hx2,hF]
    obtain⟨c,hc⟩:=az (A (dval (s,m,e)) (dval (t,m',f)));have hcall:=fV.out s m e t m' f hox Ia;rw[hc]at hcall hst;obtain⟨kJ,bK⟩:=aI hcall hst;have lb:b<w.heap.size:=by subst hab;exact Ha.out.lt (by intro h0;have h9:=congrArg List.length h0;rw[iE aV 3 (λ_=>rfl),List.length_nil]at h9;omega)
    have Hp:Hid (aQ wr b (o+k*3) [ag s,ah m,af e]):=jm q0 q1 q2;have Hr:=aj pr;have Ho:Hid (ar wr (w.heap.size+1) 45 [ag t,ah m',af f]):=po;have Hb:=aj pb;have pN:=lN.out;clear pr po pb q0 q1 q2 hcall hst hc hx1 hx2 hox hF hab Ia;obtain⟨ae,ai⟩:=qZ (Hr.an<|Ho.an<|Hp.an trivial);have lr2:=ae.1.out.lt;have wR:=ae.2.1.out.lt;have p1:wr.cell? ⟨b,o+k*3+1,none⟩=some (ah m):=ae.2.2.1.out.cell 1 zm;have p0:wr.cell? ⟨b,o+k*3,none⟩=some (ag s):=ae.2.2.1.out.cell 0 zm;have p2:wr.cell? ⟨b,o+k*3+2,none⟩=some (af e):=ae.2.2.1.out.cell 2 zm;have P0:=p0;have P1:=p1;have P2:=p2;obtain⟨W4,ke,aG,ae,ai⟩:=bO wr (Hb.an ae) 45 [ag s,ah m,af e];by_cases fG:k=0
    . have hk1:((k:Int)==0)=true:=by subst fG;rfl
      have zN:=aj fG;clear fG;skip
      have kL:Hid (jM A xs (k+1)=(s,m,e)):=by show _=_;rw[bK.out,if_pos (.inl zN.out)]
      go_wp2;go_roundw;case rel=>exact⟨k+1,by omega,by go_num,(((ae.2.2.1.out.so (w.heap.size+1) 0 zo _).so (w.heap.size+1) 1 zo _).so (w.heap.size+1) 2 zo _),by rw[kL.out];exact((ae.2.2.2.1.out.set 0 _).set 1 _).set 2 _,(((ae.2.1.out.sc (w.heap.size+1) 0 zo _).sc (w.heap.size+1) 1 zo _).sc (w.heap.size+1) 2 zo _)⟩
      case measure=>exact bf
    . have hk1:((k:Int)==0)=false:=by simpa using fG
      have zN:Hid (¬k=0):=fG;clear fG;go_wp2_with fail;refine aK ae (kJ.out _ (HT.out.below ae.2.1.out)) λw5 ae ai=>?_;cases c with
      | true=>
        skip
        have kL:Hid (jM A xs (k+1)=(s,m,e)):=by show _=_;rw[bK.out,if_pos (.inr rfl)]
        go_wp2;go_roundw;case rel=>exact⟨k+1,by omega,by go_num,(((ae.2.2.1.out.so (w.heap.size+1) 0 zo _).so (w.heap.size+1) 1 zo _).so (w.heap.size+1) 2 zo _),by rw[kL.out];exact((ae.2.2.2.1.out.set 0 _).set 1 _).set 2 _,(((ae.2.1.out.sc (w.heap.size+1) 0 zo _).sc (w.heap.size+1) 1 zo _).sc (w.heap.size+1) 2 zo _)⟩
        case measure=>exact bf
      | false=>
        have kL:Hid (jM A xs (k+1)=(t,m',f)):=by
         show _=_
         rw[bK.out,if_neg];intro h;rcases h with h|h
         . exact zN.out h
         . cases h
        skip
        go_wp2;go_roundw;case rel=>exact⟨k+1,by omega,by go_num,ae.2.2.1.out,by rw[kL.out];exact ae.2.2.2.1.out,ae.2.1.out⟩
        case measure=>exact bf
  . obtain rfl:k=n:=by omega
    have hX:=HXn.out;rw[hF]at hX;have Hr:=aj pr;have Ho:Hid (ar wr (w.heap.size+1) 45 [ag t,ah m',af f]):=po;obtain⟨Hb,HX,HoF⟩:=bL pb hX Ia;clear pr po pb hF hX Ia;obtain⟨ae,ai⟩:=qZ (Hr.an<|Ho.an trivial);go_wp2_with fail;refine aK (Hb.an ae) (rB t m' f X HX.out _ HoF.out (HT.out.below Hb.out)) λw5 ae ai=>?_;go_wp2;refine dG (aO w5 (w.heap.size) 0 (bu X)) aR ?_;intro w9 hs0;have ae:=bD hs0 ae;simp only[bz,List.set]at ae;have ai:=qC ae;refine bodyPost_ret (v:=bN X) (by simp[results,Tryz.results313,go_sem,ai]) rfl ⟨rfl,ae.1.out⟩
def wQ (a b:Dyadic):Bool:=decide (bi (a-b)<0)
def wX (a b:Dyadic):Bool:=decide (0<bi (a-b))
def QW (a b:Dyadic):bi (a-b)<0↔0<bi (b-a):=by rw[sX,Lm];grind
def asa (x y:Raw):dval (jM wQ [x,y] 2)=(eQ (dval x,dval y)).1:=by
 have e:jM wQ [x,y] 2=if wQ (dval y) (dval x)=true then y else x:=by
  show(if(1:Nat)=0\/wQ (dval y) (dval x)=true then y else x)=_
  simp
 rw[e];unfold wQ eQ;by_cases h:bi (dval y-dval x)<0
 . rw[if_pos (by simpa using h),if_pos ((QW _ _).1 h)]
 . rw[if_neg (by simpa using h),if_neg (λh2=>h ((QW _ _).2 h2))]
def ata (x y:Raw):dval (jM wX [x,y] 2)=(eQ (dval x,dval y)).2:=by
 have e:jM wX [x,y] 2=if wX (dval y) (dval x)=true then y else x:=by
  show(if(1:Nat)=0\/wX (dval y) (dval x)=true then y else x)=_
  simp
 rw[e];unfold wX eQ;by_cases h:0<bi (dval y-dval x)
 . rw[if_pos (by simpa using h),if_neg (λh2=>by have:=(QW (dval y) (dval x)).2 h2;omega)]
 . rw[if_neg (by simpa using h)];by_cases h2:0<bi (dval x-dval y)
   . rw[if_pos h2]
   . rw[if_neg h2];rw[Lm]at h h2;show dval x=dval y
     grind
def as0 (s:Bool)(l:List UInt8)(e:Int)(t:Bool)(m:List UInt8)(f:Int)(w:World)(hx:Ok (s,l,e))(hy:Ok (t,m,f))(hT:aB w):
 Cl 314 #[.agg #[ag s,ah l,af e],.agg #[ag t,ah m,af f]] w λe' w'=>e'=.returned (ag (wQ (dval (s,l,e)) (dval (t,m,f))))/\Bw w w':=by
 obtain⟨c,hc⟩:=az (bi (dval (s,l,e)-dval (t,m,f)));obtain⟨Gx,Gy,Hc,HT⟩:=cE hx hy hc hT;unfold wQ;rw[hc];clear hx hy hc hT;obtain⟨W,bX,ae,ai⟩:=jz w 45 [ag s,ah l,af e] 45 [ag t,ah m,af f];go_enter Tryz.func314,Tryz.ntmps314;go_wp2_with fail;refine aK ae (FW s l e t m f c Hc.out _ Gx.out Gy.out (HT.out.below ae.1.out)) λw1 ae ai=>?_;go_wp2;refine bodyPost_ret (results_tmp rfl _ _ _) rfl ⟨rfl,ae.1.out⟩
def asV (s:Bool)(l:List UInt8)(e:Int)(t:Bool)(m:List UInt8)(f:Int)(w:World)(hx:Ok (s,l,e))(hy:Ok (t,m,f))(hT:aB w):
 Cl 315 #[.agg #[ag s,ah l,af e],.agg #[ag t,ah m,af f]] w λe' w'=>e'=.returned (ag (wX (dval (s,l,e)) (dval (t,m,f))))/\Bw w w':=by
 obtain⟨c,hc⟩:=az (bi (dval (s,l,e)-dval (t,m,f)));obtain⟨Gx,Gy,Hc,HT⟩:=cE hx hy hc hT;unfold wX;rw[hc];clear hx hy hc hT;obtain⟨W,bX,ae,ai⟩:=jz w 45 [ag s,ah l,af e] 45 [ag t,ah m,af f];go_enter Tryz.func315,Tryz.ntmps315;go_wp2_with fail;refine aK ae (FW s l e t m f c Hc.out _ Gx.out Gy.out (HT.out.below ae.1.out)) λw1 ae ai=>?_;go_wp2;refine bodyPost_ret (results_tmp rfl _ _ _) rfl ⟨rfl,ae.1.out⟩
def anC (xs:List Raw)(X:Dyadic)(a:Option Addr)(n cap:Nat)(w:World)(hn:xs.length=n)(hl:n<=1048576)(h:∀x∈xs,Ok x)(ha:At w a (xs.flatMap aV))(hT:aB w)(hX:dval (jM wQ xs n)=X):
 Cv 296 #[.slice a n cap] w (bN X):=by
 have hf:=λW (hW:Bw w W)=>aah 314 wQ xs a n cap W hn hl h (ha.below hW) (hT.below hW) (enters_of Tryz.func314 zk rfl) (λs l e t m f h1 h2 W hW=>as0 s l e t m f W h1 h2 hW);rw[hX]at hf;have Hf:=aj hf;clear hf ha h hT hn hX;obtain⟨W,bX,ae,ai⟩:=fK w 45 [ag false,.string ⟨#[]⟩,af 0];go_enter Tryz.func296,Tryz.ntmps296;go_wp2_with fail;refine aK ae (Hf.out _ ae.1.out) λw1 ae ai=>?_;go_wp2;refine dG (aO w1 (w.heap.size) 0 (bu X)) aR ?_;intro w9 hs0;have ae:=bD hs0 ae;simp only[bz,List.set]at ae;have ai:=qC ae;refine bodyPost_ret (v:=bN X) (by simp[results,Tryz.results296,go_sem,ai]) rfl ⟨rfl,ae.1.out⟩
def anB (xs:List Raw)(X:Dyadic)(a:Option Addr)(n cap:Nat)(w:World)(hn:xs.length=n)(hl:n<=1048576)(h:∀x∈xs,Ok x)(ha:At w a (xs.flatMap aV))(hT:aB w)(hX:dval (jM wX xs n)=X):
 Cv 297 #[.slice a n cap] w (bN X):=by
 have hf:=λW (hW:Bw w W)=>aah 315 wX xs a n cap W hn hl h (ha.below hW) (hT.below hW) (enters_of Tryz.func315 zk rfl) (λs l e t m f h1 h2 W hW=>asV s l e t m f W h1 h2 hW);rw[hX]at hf;have Hf:=aj hf;clear hf ha h hT hn hX;obtain⟨W,bX,ae,ai⟩:=fK w 45 [ag false,.string ⟨#[]⟩,af 0];go_enter Tryz.func297,Tryz.ntmps297;go_wp2_with fail;refine aK ae (Hf.out _ ae.1.out) λw1 ae ai=>?_;go_wp2;refine dG (aO w1 (w.heap.size) 0 (bu X)) aR ?_;intro w9 hs0;have ae:=bD hs0 ae;simp only[bz,List.set]at ae;have ai:=qC ae;refine bodyPost_ret (v:=bN X) (by simp[results,Tryz.results297,go_sem,ai]) rfl ⟨rfl,ae.1.out⟩
def av9 (s:Bool)(l:List UInt8)(e:Int)(t:Bool)(m:List UInt8)(f:Int)(p:Pr)(hp:eQ (dval (s,l,e),dval (t,m,f))=p)(b cap:Nat)(ty:TypeId)(w:World)(hx:Ok (s,l,e))(hy:Ok (t,m,f))
 (ha:ar w b ty [ag s,ah l,af e,ag t,ah m,af f]) (hT:aB w):
 Cv 274 #[.slice (some ⟨b,0,none⟩) 2 cap] w (ze p):=by
 obtain⟨p1,p2⟩:=p;have hok:∀x∈[(s,l,e),(t,m,f)],Ok x:=by intro x h;simp at h;rcases h with rfl|rfl;exact hx;exact hy
 have hat:At w (some ⟨b,0,none⟩) ([(s,l,e),(t,m,f)].flatMap aV):=At.aBa ha;have h1:=λW (hW:Bw w W)=>anC [(s,l,e),(t,m,f)] p1 (some ⟨b,0,none⟩) 2 cap W rfl zo hok (hat.below hW) (hT.below hW) (by rw[asa,hp]);have h2:=λW (hW:Bw w W)=>anB [(s,l,e),(t,m,f)] p2 (some ⟨b,0,none⟩) 2 cap W rfl zo hok (hat.below hW) (hT.below hW) (by rw[ata,hp]);obtain⟨H1,H2⟩:=aI h1 h2;clear h1 h2 hok hat ha hT hx hy hp;obtain⟨W,bX,ae,ai⟩:=fK w 88 [ag false,.string ⟨#[]⟩,af 0,ag false,.string ⟨#[]⟩,af 0];go_enter Tryz.func274,Tryz.ntmps274;go_wp2_with fail;refine aK ae (H1.out _ ae.1.out) λw1 ae ai=>?_;go_wp2_with fail;refine aK ae (H2.out _ ae.1.out) λw2 ae ai=>?_;go_wp2;refine dG (aO w2 (w.heap.size) 0 [ag (au (dN p1)),ah (nt (dN p1).natAbs),af (dE p1),ag (au (dN p2)),ah (nt (dN p2).natAbs),af (dE p2)]) aR ?_;intro w9 hs0;have ae:=bD hs0 ae;simp only[bz,List.set]at ae;have ai:=qC ae;refine bodyPost_ret (v:=ze (p1,p2)) (by simp[results,Tryz.results274,go_sem,ai]) rfl ⟨rfl,ae.1.out⟩
def af4 (s:Bool)(l:List UInt8)(e:Int)(t:Bool)(m:List UInt8)(f:Int)(p:Pr)(hp:eQ (dval (s,l,e),dval (t,m,f))=p)(w:World)(hx:Ok (s,l,e))(hy:Ok (t,m,f))(hT:aB w):
 Cv 234 #[.agg #[ag s,ah l,af e,ag t,ah m,af f]] w (ze p):=by
 obtain⟨Hp,Gx,Gy,HT⟩:=cE hp hx hy hT;clear hp hx hy hT;obtain⟨p1,p2⟩:=p;obtain⟨W,bX,ae,ai⟩:=jz w 88 [ag s,ah l,af e,ag t,ah m,af f] 243 [ag false,.string ⟨#[]⟩,af 0,ag false,.string ⟨#[]⟩,af 0];go_enter Tryz.func234,Tryz.ntmps234;have x0:W.cell? ⟨w.heap.size,0,none⟩=some (ag s):=ae.2.1.out.cell 0;have x5:W.cell? ⟨w.heap.size,5,none⟩=some (af f):=ae.2.1.out.cell 5;have x2:W.cell? ⟨w.heap.size,2,none⟩=some (af e):=ae.2.1.out.cell 2;have x1:W.cell? ⟨w.heap.size,1,none⟩=some (ah l):=ae.2.1.out.cell 1;have x4:W.cell? ⟨w.heap.size,4,none⟩=some (ah m):=ae.2.1.out.cell 4;have x3:W.cell? ⟨w.heap.size,3,none⟩=some (ag t):=ae.2.1.out.cell 3;have K0:=x0;have K1:=x1;have K2:=x2;have K3:=x3;have K4:=x4;have K5:=x5;obtain⟨W2,ng,aG,ae,ai⟩:=bO W ae 45 [ag s,ah l,af e,ag t,ah m,af f];go_wp2_with fail;refine aK ae (av9 s l e t m f (p1,p2) Hp.out W.heap.size 2 45 _ Gx.out Gy.out ae.1.out (HT.out.below ae.2.1.out)) λw3 ae ai=>?_;go_wp2;refine dG (aO w3 (w.heap.size+1) 0 [ag (au (dN p1)),ah (nt (dN p1).natAbs),af (dE p1),ag (au (dN p2)),ah (nt (dN p2).natAbs),af (dE p2)]) aR ?_;intro w9 hs0;have ae:=bD hs0 ae;simp only[bz,List.set]at ae;have ai:=qC ae;refine bodyPost_ret (v:=ze (p1,p2)) (by simp[results,Tryz.results234,go_sem,ai]) rfl ⟨rfl,ae.2.1.out⟩
def av7 (s:Bool)(l:List UInt8)(e:Int)(t:Bool)(m:List UInt8)(f:Int)(p:Pr)(hp:eQ (dval (s,l,e),dval (t,m,f))=p)(w:World)(hx:Ok (s,l,e))(hy:Ok (t,m,f))(hT:aB w):
 Cv 233 #[.agg #[ag s,ah l,af e,ag t,ah m,af f]] w (ze p):=by
 obtain⟨Hp,Gx,Gy,HT⟩:=cE hp hx hy hT;clear hp hx hy hT;obtain⟨p1,p2⟩:=p;obtain⟨W,bX,ae,ai⟩:=jz w 88 [ag s,ah l,af e,ag t,ah m,af f] 88 [ag false,.string ⟨#[]⟩,af 0,ag false,.string ⟨#[]⟩,af 0];go_enter Tryz.func233,Tryz.ntmps233;have hfd:∀W,(Instr.field 243 (ze (p1,p2)) 0).run Tryz.prog W=.ok (ze (p1,p2)) W:=λW=>by kernel_rfl
 go_wp2_with fail;refine aK ae (af4 s l e t m f (p1,p2) Hp.out _ Gx.out Gy.out (HT.out.below ae.1.out)) λw3 ae ai=>?_;go_wp2;refine dG (aO w3 (w.heap.size+1) 0 [ag (au (dN p1)),ah (nt (dN p1).natAbs),af (dE p1),ag (au (dN p2)),ah (nt (dN p2).natAbs),af (dE p2)]) aR ?_;intro w9 hs0;have ae:=bD hs0 ae;simp only[bz,List.set]at ae;have ai:=qC ae;refine bodyPost_ret (v:=ze (p1,p2)) (by simp[results,Tryz.results233,go_sem,ai]) rfl ⟨rfl,ae.1.out⟩
def Vv (s:Bool)(l:List UInt8)(e:Int)(t:Bool)(m:List UInt8)(f:Int)(B:Nat)(D:Dyadic)(hD:um (dval (s,l,e),dval (t,m,f))=D)(w:World)(hx:Fit B (s,l,e))(hy:Fit B (t,m,f))(hB:B<=100000000)(hT:aB w):
 Cv 165 #[.agg #[ag s,ah l,af e,ag t,ah m,af f]] w (bN D):=by
 obtain⟨⟨p1,p2⟩,hp⟩:∃p,eQ (dval (s,l,e),dval (t,m,f))=p:=⟨_,rfl⟩;have hs:=rN (p:=(dval (s,l,e),dval (t,m,f))) ⟨hx.2,hy.2⟩;unfold um at hD;rw[hp]at hD hs;have yj:Fit B (dF p1):=hs.1.fit zo;have hf2:Fit B (dF p2):=hs.2.fit zo;have hS:dval (dF p2)-dval (dF p1)=D:=by
  show dval (canon p2)-dval (canon p1)=D
  rw[bA,bA];exact hD
 obtain⟨Hp,Gx,Gy,HT,H1,H2,HS⟩:=jx hp hx.1 hy.1 hT yj hf2 hS;clear hp hx hy hT hs hD yj hf2 hS;obtain⟨W,bX,ae,ai⟩:=jz w 88 [ag s,ah l,af e,ag t,ah m,af f] 45 [ag false,.string ⟨#[]⟩,af 0];go_enter Tryz.func165,Tryz.ntmps165;go_wp2_with fail;refine aK ae (af4 s l e t m f (p1,p2) Hp.out _ Gx.out Gy.out (HT.out.below ae.1.out)) λw3 ae ai=>?_;obtain⟨W4,ke,aG,ae,ai⟩:=bO w3 ae 243 [ag (au (dN p1)),ah (nt (dN p1).natAbs),af (dE p1),ag (au (dN p2)),ah (nt (dN p2).natAbs),af (dE p2)];go_wp2_with fail;refine aK ae (FX _ _ _ _ _ _ D B HS.out _ H2.out H1.out zo (HT.out.below ae.2.1.out)) λw5 ae ai=>?_;go_wp2;refine dG (aO w5 (w.heap.size+1) 0 (bu D)) aR ?_;intro w9 hs0;have ae:=bD hs0 ae;simp only[bz,List.set]at ae;have ai:=qC ae;refine bodyPost_ret (v:=bN D) (by simp[results,Tryz.results165,go_sem,ai]) rfl ⟨rfl,ae.2.1.out⟩
def av8 (s:Bool)(l:List UInt8)(e:Int)(t:Bool)(m:List UInt8)(f:Int)(B:Nat)(X:Dyadic)(hX:jy (dval (s,l,e),dval (t,m,f))=X)(w:World)(hx:Fit B (s,l,e))(hy:Fit B (t,m,f))(hB:B<=100000000)(hT:aB w):
 Cv 181 #[.agg #[ag s,ah l,af e,ag t,ah m,af f]] w (bN X):=by
 obtain⟨D,hD⟩:=az (dval (s,l,e)+dval (t,m,f));have hDo:Ok (dF D):=by rw[<-hD];exact((Sm.add hx.2 hy.2).fit zo).1
 have GA:dval (au (dN D),nt (dN D).natAbs,dE D+ -1)=X:=by rw[<-hX];unfold jy;rw[hD];exact Nv D 1
 obtain⟨HD,HX,Gx,Gy,HT,Ca⟩:=gM hD GA hx hy hT hDo;clear hD hX GA hx hy hT hDo;obtain⟨W,bX,ae,ai⟩:=jz w 88 [ag s,ah l,af e,ag t,ah m,af f] 45 [ag false,.string ⟨#[]⟩,af 0];go_enter Tryz.func181,Tryz.ntmps181;have x0:W.cell? ⟨w.heap.size,0,none⟩=some (ag s):=ae.2.1.out.cell 0;have x5:W.cell? ⟨w.heap.size,5,none⟩=some (af f):=ae.2.1.out.cell 5;have x2:W.cell? ⟨w.heap.size,2,none⟩=some (af e):=ae.2.1.out.cell 2;have x1:W.cell? ⟨w.heap.size,1,none⟩=some (ah l):=ae.2.1.out.cell 1;have x4:W.cell? ⟨w.heap.size,4,none⟩=some (ah m):=ae.2.1.out.cell 4;have x3:W.cell? ⟨w.heap.size,3,none⟩=some (ag t):=ae.2.1.out.cell 3;have K0:=x0;have K1:=x1;have K2:=x2;have K3:=x3;have K4:=x4;have K5:=x5;obtain⟨W2,ng,aG,ae,ai⟩:=bO W ae 45 [ag s,ah l,af e,ag t,ah m,af f];go_wp2_with fail;refine aK ae (xQ s l e t m f D B HD.out W.heap.size 2 45 _ Gx.out Gy.out zo ae.1.out (HT.out.below ae.2.1.out)) λw3 ae ai=>?_;go_wp2_with fail;refine aK ae (Nu _ _ _ (-1) X HX.out _ Ca.out zd (HT.out.below ae.2.1.out)) λw4 ae ai=>?_;go_wp2;refine dG (aO w4 (w.heap.size+1) 0 (bu X)) aR ?_;intro w9 hs0;have ae:=bD hs0 ae;simp only[bz,List.set]at ae;have ai:=qC ae;refine bodyPost_ret (v:=bN X) (by simp[results,Tryz.results181,go_sem,ai]) rfl ⟨rfl,ae.2.1.out⟩
def amO {bx:List Pr}{k:Nat}(hk:k<bx.length)(h:0<=bi ((bx.getD k (0,0)).1-(bx.getD k (0,0)).2)):iV bx=5:=by
 unfold iV;have hn:bx≠[]:=by intro e;rw[e]at hk;simp at hk
 rw[if_neg hn,if_pos];rw[List.any_eq_true];exact⟨bx[k],List.getElem_mem hk,by simp[hk]at h;simpa using h⟩
def amQ {bx:List Pr}(h:∀k,k<bx.length->¬0<=bi ((bx.getD k (0,0)).1-(bx.getD k (0,0)).2)):iV bx=if bx.length=0 then 1 else 0:=by
 unfold iV;by_cases hn:bx=[]
 . rw[if_pos hn,if_pos (by rw[hn];rfl)]
 . rw[if_neg hn,if_neg (λe=>hn (List.length_eq_zero_iff.1 e)),if_neg];rw[List.any_eq_true];rintro⟨p,hp,h2⟩;obtain⟨k,hk,rfl⟩:=List.mem_iff_getElem.1 hp;have:=h k hk;simp[hk]at this;simp at h2;omega
def Zi {bx:List Pr}(h:iV bx=0):bx≠[]/\∀p∈bx,bi (p.1-p.2)<0:=by
 unfold iV at h;by_cases hn:bx=[]
 . rw[if_pos hn]at h;cases h
 . refine⟨hn,λp hp=>?_⟩;rw[if_neg hn]at h;split at h
   . cases h
   . rename_i h2
     have:=List.any_eq_false.1 (Bool.not_eq_true _▸h2) p hp;simp at this;omega
def lK (B:Nat)(bx:List (Raw×Raw)):Prop:=∀s∈bx,Fit B s.1/\Fit B s.2
def Vu {bx:List (Raw×Raw)}{k:Nat}(hk:k<bx.length):(bx.map bH).getD k (0,0)=(dval bx[k].1,dval bx[k].2):=by simp[hk,bH]
def ama (a:Option Addr)(L cap B:Nat)(bx:List (Raw×Raw))(w:World)(hL:bx.length=L)(hl:L<=1048576)(hf:lK B bx)(ha:At w a (bx.flatMap spC))(hT:aB w):
 Cv 113 #[.slice a L cap] w (af (iV (bx.map bH))):=by
 obtain⟨R,hR⟩:=az (iV (bx.map bH));have hno:∀k (h:k<bx.length),0<=bi (dval bx[k].1-dval bx[k].2)->R=5:=λk hk h=>by rw[<-hR];exact amO (k:=k) (by simpa using hk) (by rw[Vu hk];exact h)
 have wN:(∀k (h:k<bx.length),bi (dval bx[k].1-dval bx[k].2)<0)->R=if L=0 then 1 else 0:=λh=>by rw[<-hR,amQ (λk hk=>by rw[Vu (by simpa using hk)];have:=h k (by simpa using hk);dsimp only;omega),List.length_map,hL]
 rw[hR];obtain⟨pR,Ae,Ha,HT,HL,Hf⟩:=gM hno wN ha hT hL hf;clear hno wN ha hT hL hf hR;have Hb:=hbz w;go_enter Tryz.func113,Tryz.ntmps113;go_wp2_with fail;go_loopw[7] (λx wr=>∃k:Nat,k<=L/\x=af (k:Int)/\(∀j (h:j<bx.length),j<k->bi (dval bx[j].1-dval bx[j].2)<0)/\Bw w wr) (λx _=>L-(intOf x).toNat);case atStart=>exact⟨0,Nat.zero_le _,rfl,λj _ h=>absurd h (Nat.not_lt_zero _),Hb.out⟩
 case round=>
  clear Hb;obtain⟨k,hk,rfl,hall,pb⟩:=hrel;by_cases hlt:k<L
  . have eY:k<bx.length:=by rw[HL.out];exact hlt
    obtain⟨s,m,e,t,n,f,hx⟩:∃s m e t n f,bx[k]=((s,m,e),(t,n,f)):=⟨_,_,_,_,_,_,rfl⟩;obtain⟨b,o,hab,hp⟩:=(Ha.out.below pb).spn k eY hx;have aU:=wP L cap k (k:Int) hab hlt rfl;have mC:=Hf.out _ (List.getElem_mem eY);rw[hx]at mC;obtain⟨c,hc⟩:=az (bi (dval (s,m,e)-dval (t,n,f)));have cH:bi (dval bx[k].1-dval bx[k].2)=c:=by rw[hx];exact hc
    obtain⟨Hp,Hc,fA,H1,H2,ij,Hb⟩:=jx hp hc cH mC.1.1 mC.2.1 hall pb;clear hp hc cH mC hall pb hab hx;obtain⟨ae,ai⟩:=qZ (Hp.an trivial);obtain⟨W4,ke,aG,ae,ai⟩:=bO wr (Hb.an ae) 88 [ag s,ah m,af e,ag t,ah n,af f];go_wp2_with fail;refine aK ae (FW s m e t n f c Hc.out _ H1.out H2.out (HT.out.below ae.2.1.out)) λw5 ae ai=>?_;skip
    by_cases hc0:0<=c
    . obtain rfl:=pR.out k eY (by rw[fA.out];exact hc0);go_wp2;refine bodyPost_ret (results_tmp rfl _ _ _) rfl ⟨rfl,ae.2.1.out⟩
    . go_wp2;go_roundw;case rel=>
       refine⟨k+1,by omega,by go_num,λj h hj=>?_,ae.2.1.out⟩;by_cases hjk:j=k
       . subst hjk;rw[fA.out];omega
       . exact ij.out j h zo
      case measure=>exact bf
  . obtain rfl:k=L:=by omega
    have hR:=Ae.out (λj h=>hall j h (by rw[<-HL.out];exact h));have Hb:=aj pb;clear pb hall;by_cases h0:k=0
    . subst h0;rw[if_pos rfl]at hR;subst hR;go_wp2;refine bodyPost_ret (results_tmp rfl _ _ _) rfl ⟨rfl,Hb.out⟩
    . rw[if_neg h0]at hR;subst hR;have h1:((k:Int)==0)=false:=by simpa using h0
      go_wp2;refine bodyPost_ret (results_tmp rfl _ _ _) rfl ⟨rfl,Hb.out⟩
def Tryz.aBk :(Tryz.prog.info? 88).map (λi=>(i.zero,i.size,i.bytes))=some (some (.agg #[ag false,.string (bs []),af 0,ag false,.string (bs []),af 0]),6,64):=by kernel_rfl
def jk (s:Raw×Raw):Raw×Raw:=kA (eQ (bH s))
def av6 (bx:List (Raw×Raw))(k:Nat)(hk:k<bx.length):((bx.map jk).take (k+1)).flatMap spC=((bx.map jk).take k).flatMap spC++spC (jk bx[k]):=by rw[List.take_succ_eq_append_getElem (by simpa using hk),List.flatMap_append];simp
def Qy (a:Option Addr)(L cap B:Nat)(bx:List (Raw×Raw))(w:World)(hL:bx.length=L)(hl:L<=1000)(hf:lK B bx)(ha:At w a (bx.flatMap spC))(hT:aB w):
 Cl 161 #[.slice a L cap] w λe w'=>∃a' c',e=.returned (.slice a' L c')/\At w' a' ((bx.map jk).flatMap spC)/\Bw w w':=by
 obtain⟨i0,hi,hz0,hz1,hz2⟩:=info_parts Tryz.aBk;obtain⟨Hi,cm,bR,bZ,Ha,HT,HL,Hf⟩:=lC hi hz0 hz1 hz2 ha hT hL hf;clear hi hz0 hz1 hz2 ha hT hL hf;have Hb:=hbz w;go_enter Tryz.func161,Tryz.ntmps161;go_wp2_with fail;go_loopw[3,8] (λs3 x wr=>∃(k:Nat) (v:Value),k<=L/\x=af (k:Int)/\v=s3/\wr.ownsRow w.heap.size 88 6 v k (((bx.map jk).take k).flatMap spC)/\Bw w wr) (λ_ x _=>L-(intOf x).toNat);case atStart=>exact⟨0,_,Nat.zero_le _,rfl,rfl,World.ownsRow_nil _ _ _ _,Hb.out⟩
 case round=>
  clear Hb;obtain⟨k,v,hk,rfl,rfl,pv,pb⟩:=hrel;by_cases hlt:k<L
  . have eY:k<bx.length:=by rw[HL.out];exact hlt
    obtain⟨s,m,e,t,n,f,hx⟩:∃s m e t n f,bx[k]=((s,m,e),(t,n,f)):=⟨_,_,_,_,_,_,rfl⟩;obtain⟨b,o,hab,hp⟩:=(Ha.out.below pb).spn k eY hx;have aU:=wP L cap k (k:Int) hab hlt rfl;have mC:=Hf.out _ (List.getElem_mem eY);rw[hx]at mC;obtain⟨⟨y1,y2⟩,hq⟩:∃p,eQ (dval (s,m,e),dval (t,n,f))=p:=⟨_,rfl⟩;have hst:=av6 bx k eY;rw[hx,show jk ((s,m,e),(t,n,f))=(canon y1,canon y2)from by unfold jk bH;rw[hq];rfl]at hst;have ua:((bx.map jk).take (k+1)).flatMap spC=((bx.map jk).take k).flatMap spC++[ag (au (dN y1)),ah (nt (dN y1).natAbs),af (dE y1),ag (au (dN y2)),ah (nt (dN y2).natAbs),af (dE y2)]:=hst;obtain⟨Hp,Hq,H1,H2,iH,ik,bK⟩:=jx hp hq mC.1.1 mC.2.1 pb pv ua;have sz0:=pb.size;clear hp hq mC pb hab hx hst ua pv;have Hb:=hbz wr;obtain⟨ae,ai⟩:=qZ (Hp.an trivial);obtain⟨W4,ke,aG,ae,ai⟩:=bO wr (Hb.an ae) 88 [ag s,ah m,af e,ag t,ah n,af f];go_wp2_with fail;refine aK ae (av7 s m e t n f (y1,y2) Hq.out _ H1.out H2.out (HT.out.below (aC iH.out ae.2.1.out))) λw5 ae ai=>?_;obtain⟨W6,rC,aG,ae,ai⟩:=bO w5 ae 88 [ag (au (dN y1)),ah (nt (dN y1).natAbs),af (dE y1),ag (au (dN y2)),ah (nt (dN y2).natAbs),af (dE y2)];have cj:=ownsRow_below ik.out ae.2.2.1.out;have jd:=ae.2.2.1.out.size;have hnews:=fN ae.1.out;skip
    go_wp2_with (at_builtin;refine wpList_append_own_at _ rfl _ _ 23 rfl w.heap.size 88 i0 _ 6 64 Tryz.underlying23 Hi.out cm.out bR.out bZ.out rfl zd v k (((bx.map jk).take k).flatMap spC) rfl cj ⟨w5.heap.size,0,none⟩ 1 1 [ag (au (dN y1)),ah (nt (dN y1).natAbs),af (dE y1),ag (au (dN y2)),ah (nt (dN y2).natAbs),af (dE y2)] rfl rfl hnews zy zx zo zo ?_;intro v' w7 dW eK _ _;obtain⟨g',ry,rfl⟩:=ownsRow_succ dW);go_roundw;case rel=>
     refine⟨k+1,_,by omega,by go_num,rfl,?_,?_⟩
     . rw[bK.out];exact dW
     . exact(aC iH.out ae.2.2.1.out).grown eK zo (λj e=>cK cj j e)
    case measure=>exact bf
  . obtain rfl:k=L:=by omega
    rw[List.take_of_length_le (by rw[List.length_map,HL.out];exact Nat.le_refl _)]at pv;obtain⟨a2,c2,rfl,hat,_⟩:=cz pv;obtain⟨Hb,eu⟩:=aI pb hat;clear pb pv hat;go_wp2;refine bodyPost_ret (results_tmp rfl _ _ _) rfl ⟨a2,c2,rfl,eu.out,Hb.out⟩
def as6 (c:Int)(n:Nat)(hc:c=n)(h:n<=1048576)(w:World):
 (Instr.makeSlice 23 (af c) (af c)).run Tryz.prog w=.ok (.slice (some ⟨w.heap.size,0,none⟩) n n) (w.alloc (.cells (madeCells (Value.agg #[ag false,.string (bs []),af 0,ag false,.string (bs []),af 0]).cells (n*6)) 88)):=by
 subst hc;obtain⟨i0,hi,hz0,hz1,hz2⟩:=info_parts Tryz.aBk;rw[run_make (P:=Tryz.prog) w 23 88 i0 _ Tryz.underlying23 hi hz0 .i64 .i64 n n zo zo (by rw[hz2];omega) zo];simp only[Int.toNat_natCast,hz1]
def ang (w:World)(L:Nat)(ad:Addr)(cap:Nat)(bx:List (Raw×Raw))(cur:Array Value)(Dt:cur.size=L*6)(hL:bx.length=L)(hat:At w (some ad) (bx.flatMap spC))(ty:TypeId):
 (Builtin.copy_ #[23,23] ty #[.slice (some ⟨w.heap.size,0,none⟩) L L,.slice (some ad) L cap]).run Tryz.prog (w.alloc (.cells cur 88))=
  .ok (af (L:Int)) (w.alloc (.cells (bx.flatMap spC).toArray 88)):=by
 obtain⟨i0,hi,hz0,hz1,hz2⟩:=info_parts Tryz.aBk;obtain⟨cs,hcs⟩:=az (bx.flatMap spC);have hlen:cs.length=L*6:=by rw[<-hcs,Vt,hL]
 rw[hcs]at hat⊢;have hsrc:∀j v,cs[j]?=some v->(w.alloc (.cells cur 88)).cell? (ad.add j)=some v:=λj v hj=>by
  rcases hat with h0|⟨b,o,e',hc⟩
  . subst h0;simp at hj
  . simp only[Option.some.injEq]at e';subst e';have hjl:=(List.getElem?_eq_some_iff.1 hj).1;have e2:((⟨b,o,none⟩:Addr).add j)=⟨b,o+j,none⟩:=by unfold Addr.add;cases j<;>simp
    rw[e2];exact aM (by rw[hc j hjl];exact hj)
 have hl:=run_loadCells_list (P:=Tryz.prog) (w.alloc (.cells cur 88)) ad cs hsrc;have hst:=run_storeCells_at (P:=Tryz.prog) w.heap.size 0 88 cs 0 cur _ (heap_alloc_new w _) zo (by rw[<-hcs];exact af2 bx);have e:(List.take (0+0) cur.toList++cs++List.drop (0+0+cs.length) cur.toList)=cs:=by rw[List.drop_eq_nil_of_le zi];simp
 rw[e,World.setRow_alloc_new]at hst;rw[hlen]at hl;have hmin:Nat.min L L=L:=Nat.min_self L;simp[Builtin.copy_,run_underlying Tryz.underlying23,Builtin.lenOf,Builtin.firstCells,sizeOf,typeInfo,hi,hz1,hmin,hl,hst,goInt]
def av5 (bx:List (Raw×Raw))(i:Nat)(s t:Bool)(m n:List UInt8)(e f:Int):((((((bx.flatMap spC).set (i*6) (ag s)).set (i*6+1) (ah m)).set (i*6+2) (af e)).set (i*6+3) (ag t)).set (i*6+4) (ah n)).set (i*6+5) (af f)=(bx.set i ((s,m,e),(t,n,f))).flatMap spC:=by
 induction bx generalizing i with
 |nil=>simp
 | cons x bx ih=>
   obtain⟨⟨s',m',e'⟩,t',n',f'⟩:=x;have h:∀(y:Raw×Raw) zs,(y::zs).flatMap spC=ag y.1.1::ah y.1.2.1::af y.1.2.2::ag y.2.1::ah y.2.2.1::af y.2.2.2::zs.flatMap spC:=λy zs=>rfl;cases i with
   |zero=>rw[h];rfl
   |succ i=>rw[List.set_cons_succ,h,h,<-ih i,show(i+1) *6=i*6+1+1+1+1+1+1 by omega];rfl
def CR {w:World}{b:Nat}{t:TypeId}{cs:List Value}(h:ar w b t cs)(j:Nat)(hj:j<cs.length):w.cell? ⟨b,j,none⟩=some cs[j]/\w.frozen? ⟨b,j,none⟩=false:=⟨by rw[h.cell];exact List.getElem?_eq_getElem hj,h.free j⟩
def YW (ad:Addr)(L cap:Nat)(bx:List (Raw×Raw))(i:Nat)(s:Bool)(l:List UInt8)(e:Int)(t:Bool)(m:List UInt8)(f:Int)(w:World)(hL:bx.length=L)(hl:L<=1000)(hi:i<L)(ha:At w (some ad) (bx.flatMap spC))(base:Nat)(hbase:base<=w.heap.size):
 Cl 182 #[.slice (some ad) L cap,af (i:Int),.agg #[ag s,ah l,af e,ag t,ah m,af f]] w λe' w'=>∃g,e'=.returned (.slice (some ⟨g,0,none⟩) L L)/\base<=g/\ar w' g 88 ((bx.set i ((s,l,e),(t,m,f))).flatMap spC)/\Bw w w':=by
 have hmk:=as6 (L:Int) L rfl zo;have AE:∀(W:World) (hW:Bw w W) (ty:TypeId),(Builtin.copy_ #[23,23] ty #[.slice (some ⟨W.heap.size,0,none⟩) L L,.slice (some ad) L cap]).run Tryz.prog (W.alloc (.cells (madeCells #[ag false,.string (bs []),af 0,ag false,.string (bs []),af 0] (L*6)) 88))=.ok (af (L:Int)) (W.alloc (.cells (bx.flatMap spC).toArray 88)):=
  λW hW ty=>ang W L ad cap bx _ (size_madeCells _ _) hL (ha.below hW) ty
 have nC:=av5 bx i s t l m e f;have hlen:=Vt bx;rw[hL]at hlen;obtain⟨cs,hcs⟩:=az (bx.flatMap spC);rw[hcs]at nC hlen;simp only[hcs]at AE;obtain⟨Oq,Fs⟩:=aI AE nC;clear AE nC hcs ha hL;obtain⟨W,bX,ae,ai⟩:=fK w 88 [ag s,ah l,af e,ag t,ah m,af f];go_enter Tryz.func182,Tryz.ntmps182;have hcw:=Oq.out W ae.1.out;have dO:=ae.1.out;have aU:=wP L L i (i:Int) (rfl:(some ⟨W.heap.size,0,none⟩:Option Addr)=_) hi rfl;rw[Nat.zero_add]at aU;go_upto_region 2 with fail
 go_cut[7] (λs7 wx=>s7=.slice (some ⟨W.heap.size,0,none⟩) L L/\ar wx W.heap.size 88 cs/\ar wx w.heap.size 88 [ag s,ah l,af e,ag t,ah m,af f]/\Bw w wx);case first=>go_wp2_with fail;go_meet;exact⟨rfl,ar.new W _ cs,ae.2.1.out.alloc _,ae.1.out.alloc (by have:=ae.1.out.size;omega) _⟩
 case rest=>
  obtain⟨rfl,hv,hx,hb⟩:=hcut;have hsz:=ae.2.1.out.lt;obtain⟨Hv,Hx,Hb⟩:=bL hv hx hb;obtain⟨v,hvv⟩:=az W.heap.size;have TP:=hb.size;have DZ:w.heap.size<=v:=by have:=dO.size;omega
  rw[hvv]at Hv aU⊢;clear hv hx hb hmk hcw;have l0:i*6+5<cs.length:=by omega
  obtain⟨ae,ai⟩:=qZ (Hx.an trivial);obtain⟨v0,k0⟩:=CR Hv.out (i*6) zo;obtain⟨v1,k1⟩:=CR Hv.out (i*6+1) zo;obtain⟨v2,k2⟩:=CR Hv.out (i*6+2) zo;obtain⟨v3,k3⟩:=CR Hv.out (i*6+3) zo;obtain⟨v4,k4⟩:=CR Hv.out (i*6+4) zo;obtain⟨v5,k5⟩:=CR Hv.out (i*6+5) zo;go_wp2;refine dG (λw9=>ar w9 v 88 ((((((cs.set (i*6) (ag s)).set (i*6+1) (ah l)).set (i*6+2) (af e)).set (i*6+3) (ag t)).set (i*6+4) (ah m)).set (i*6+5) (af f))/\Bw w w9) ⟨((((((Hv.out.set (i*6) _).set (i*6+1) _).set (i*6+2) _).set (i*6+3) _).set (i*6+4) _).set (i*6+5) _),((((((Hb.out.sc v (i*6) DZ _).sc v (i*6+1) DZ _).sc v (i*6+2) DZ _).sc v (i*6+3) DZ _).sc v (i*6+4) DZ _).sc v (i*6+5) DZ _)⟩ ?_;rintro w9 ⟨lw,iu⟩;rw[Fs.out]at lw;refine bodyPost_ret (results_tmp rfl _ _ _) rfl ⟨v,rfl,by omega,lw,iu⟩
def IH (n m:Nat)(a a':Option Addr)(cap cap':Nat)(x y:Bool)(hx:decide (0<n)=x)(hy:decide (0<m)=y)(w:World):
 Cv 48 #[.agg #[.slice a n cap,.slice a' m cap']] w (.tuple #[ag y,ag (x !=y)]):=by
 have Hb:=hbz w;go_enter Tryz.func48,Tryz.ntmps48;go_wp2_with fail;refine cX w (Hb.an trivial) 93 [.slice a n cap,.slice a' m cap'] λW aG ae ai=>?_;go_wp2_with fail;refine df 999 ae (cQ 18 0x23211f1d1b19171513110f0d0b0907050301) ?_;refine bC ?_;refine cZ ae λai=>?_;go_wp2;refine bodyPost_ret (v:=.tuple #[ag y,ag (x !=y)]) (by subst hx hy;simp[results,Tryz.results48,go_sem,bne]) rfl ⟨rfl,ae.2.1.out.drew⟩
def rz (n m:Nat)(cb ct:Int):Int:=if 0<n↔0<m then 1 else if 0<m then ct else if 6<n then 3 else cb
def ZC (bx:List (Raw×Raw))(rows:List (List Raw))(n m B:Nat)(a a':Option Addr)(cap cap':Nat)(c:Int)(w:World)(hn:bx.length=n)(hm:rows.length=m)(hb:At w a (bx.flatMap spC))(ha:Tbl w a' rows)(gX:lK B bx)(iF:∀r∈rows,∀c∈r,Fit B c)(hB:B<=900000)(dV:n<=1000)(jc:m<=5)(hcap:m<=cap')(hT:aB w)
 (hc:rz n m (iV (bx.map bH)) (jA rows)=c):
 Cv 47 #[.agg #[.slice a n cap,.slice a' m cap']] w (af c):=by
 have hbc:=λW (hW:Bw w W)=>ama a n cap B bx W hn zo gX (hb.below hW) (hT.below hW);have htc:=λW (hW:Bw w W)=>agk a' m cap' rows B W hm jc hcap (ha.below hW) iF hB (hT.below hW);generalize iV (bx.map bH)=cb at*;generalize jA rows=ct at*;obtain⟨se,Htc⟩:=aI hbc htc;clear hbc htc hb ha gX iF hT hn hm;have hw:IntKind.i64.wrap (2* (n:Int))=2* (n:Int):=by rw[IntKind.wrap_i64];omega
 unfold rz at hc;obtain⟨x,hx⟩:=az (decide (0<n));obtain⟨y,hy⟩:=az (decide (0<m));have Hk:=aj (IH n m a a' cap cap' x y hx hy);have Hb:=hbz w;by_cases hxy:x=y
 . have hc1:c=1:=by rw[<-hc,if_pos];rw[<-hx,<-hy]at hxy;have:=decide_eq_decide.1 hxy;omega
   subst hc1;subst hxy;have hne:(x !=x)=false:=by simp
   clear hx hy hc;go_enter Tryz.func47,Tryz.ntmps47;go_wp2_with fail;refine cX w (Hb.an trivial) 93 [.slice a n cap,.slice a' m cap'] λW aG ae ai=>?_;go_wp2_with fail;refine aK ae (Hk.out _) λw1 ae ai=>?_;go_wp2;refine bodyPost_ret (results_tmp rfl _ _ _) rfl ⟨rfl,ae.2.1.out⟩
 have hne:(x !=y)=true:=by simpa using hxy
 have hi:¬(0<n↔0<m):=λh=>hxy (by rw[<-hx,<-hy];exact decide_eq_decide.2 zo);rw[if_neg hi]at hc;cases y with
 | true=>
   have hm0:0<m:=by simpa using hy
   rw[if_pos hm0]at hc;subst hc;clear hx hy hxy hi;go_enter Tryz.func47,Tryz.ntmps47;go_wp2_with fail;refine cX w (Hb.an trivial) 93 [.slice a n cap,.slice a' m cap'] λW aG ae ai=>?_;go_wp2_with fail;refine aK ae (Hk.out _) λw1 ae ai=>?_;go_wp2_with fail;refine aK ae (Htc.out _ ae.2.1.out) λw2 ae ai=>?_;go_wp2;refine bodyPost_ret (results_tmp rfl _ _ _) rfl ⟨rfl,ae.2.1.out⟩
 | false=>
   have hm0:¬0<m:=by simpa using hy
   rw[if_neg hm0]at hc;by_cases h6:6<n
   . rw[if_pos h6]at hc;subst hc;have h12:(12:Int)<2* (n:Int):=by omega
     clear hx hy hxy hi;go_enter Tryz.func47,Tryz.ntmps47;go_wp2_with fail;refine cX w (Hb.an trivial) 93 [.slice a n cap,.slice a' m cap'] λW aG ae ai=>?_;go_wp2_with fail;refine aK ae (Hk.out _) λw1 ae ai=>?_;go_wp2;refine bodyPost_ret (results_tmp rfl _ _ _) rfl ⟨rfl,ae.2.1.out⟩
   . rw[if_neg h6]at hc;subst hc;have h12:¬(12:Int)<2* (n:Int):=by omega
     clear hx hy hxy hi;go_enter Tryz.func47,Tryz.ntmps47;go_wp2_with fail;refine cX w (Hb.an trivial) 93 [.slice a n cap,.slice a' m cap'] λW aG ae ai=>?_;go_wp2_with fail;refine aK ae (Hk.out _) λw1 ae ai=>?_;go_wp2_with fail;refine aK ae (se.out _ ae.2.1.out) λw2 ae ai=>?_;go_wp2;refine bodyPost_ret (results_tmp rfl _ _ _) rfl ⟨rfl,ae.2.1.out⟩
def Tryz.aBh :(Tryz.prog.info? 111).map (λi=>(i.zero,i.size,i.bytes))=some (some (.agg #[.string (bs []),ag false,.string (bs []),af 0]),4,48):=by kernel_rfl
def nO (ts:List Trm):(ts.flatMap aH).length=ts.length*4:=iE aH 4 (λ_=>rfl) ts
def vr (ts:List Trm):∀u∈ts.flatMap aH,u.oneCell'=true:=by intro u hu;obtain⟨r,_,hr⟩:=List.mem_flatMap.1 hu;simp only[aH,List.mem_cons,List.not_mem_nil,or_false]at hr;rcases hr with rfl|rfl|rfl|rfl<;>rfl
def VC (t:Trm)(ts:List Trm):(t::ts).flatMap aH=aH t++ts.flatMap aH:=List.flatMap_cons
def At.tail {w:World}{b o c:Nat}{x:Trm}{ts:List Trm}(h:At w (some ⟨b,o,none⟩) ((x::ts).flatMap aH))(hc:ts.length+1<=c):At w (if c=1 then some ⟨b,o,none⟩else some ⟨b,o+4,none⟩) (ts.flatMap aH):=by
 have hk:=At.cut (k:=1) (size:=4) (n:=ts.length+1) (cap:=c) h (by rw[nO];rfl) zo hc;have e:((x::ts).flatMap aH).drop (1*4)=ts.flatMap aH:=by rw[VC];rfl
 rw[e]at hk;exact hk
def Sl.tail {b o c n:Nat}(h:Sl (Option.some ⟨b,o,none⟩) (n+1) c):Sl (if c=1 then Option.some (⟨b,o,none⟩:Addr)else Option.some ⟨b,o+4,none⟩) n (c-1):=by refine⟨by have:=h.1;omega,λe=>?_⟩;split at e<;>cases e
def avX (l l':List UInt8):(xh l l'= -1/\Op.bytesLess l l'=true)\/(xh l l'=1/\Op.bytesLess l l'=false/\Op.bytesLess l' l=true)\/(xh l l'=0/\Op.bytesLess l l'=false/\Op.bytesLess l' l=false):=by
 unfold xh;cases h1:Op.bytesLess l l' with
 |true=>exact .inl ⟨by simp,rfl⟩
 | false=>
   cases h2:Op.bytesLess l' l with
   |true=>exact .inr (.inl ⟨by simp,rfl,rfl⟩)
   |false=>exact .inr (.inr ⟨by simp,rfl,rfl⟩)
def aeS (a:Option Addr)(n cap:Nat)(ta:List Trm)(a':Option Addr)(n' cap':Nat)(tb:List Trm)(B:Nat)(w:World)(hn:ta.length=n)(hn':tb.length=n')(hs:Sl a n cap)(hs':Sl a' n' cap')(hl:n<=65536)(hl':n'<=65536)(ha:At w a (ta.flatMap aH))(ha':At w a' (tb.flatMap aH))
 (lf:∀t∈ta,Fit B t.2) (gX:∀t∈tb,Fit B t.2) (hB:B+2<=268435456) (hT:aB w):
 Cl 230 #[.slice a n cap,.slice a' n' cap',.func (.func 231) #[] #[],.func (.func 232) #[] #[]] w λe w'=>∃v',e=.returned v'/\w'.ownsRow w.heap.size 111 4 v' (gv ta tb).length ((gv ta tb).flatMap aH)/\Bw w w':=by
 obtain⟨i0,hi,hz0,hz1,hz2⟩:=info_parts Tryz.aBh;obtain⟨M,hM⟩:=az (gv ta tb);have Gd:=enters_of Tryz.func231 zk rfl;have Gc:=enters_of Tryz.func232 zk rfl;rw[hM];obtain⟨Hi,cm,bR,bZ,HM,OC,OB,Hs,Ya,Ha,uu,vG⟩:=gL hi hz0 hz1 hz2 hM Gd Gc hs hs' ha ha' lf;obtain⟨zM,HT,Hn,zS⟩:=cE gX hT hn hn';obtain⟨N,hN⟩:=az (n+n');have hNI:(n:Int)+(n':Int)=(N:Int):=by omega
 have HN:=aj hN;clear hi hz0 hz1 hz2 hM Gd Gc hs hs' ha ha' lf gX hT hn hn' hN;have hN1:N<=131072:=by have:=HN.out;omega
 go_enter Tryz.func230,Tryz.ntmps230;go_wp2_with (at_make;refine wpList_make_own _ rfl _ _ 39 rfl w.heap.size 111 i0 _ 4 Tryz.underlying39 Hi.out cm.out bR.out _ _ _ N rfl rfl (by first|exact hNI|rfl) (by rw[bZ.out];omega) zx (Nat.le_refl _) ?_;intro w1 hown hgrow);obtain⟨hb1,pU⟩:=aI ((Below.refl w.heap.size w).grown hgrow (Nat.le_refl _) (by intro k hk;cases hk)) hown;clear hown hgrow hNI
 go_loopw[0,1,9] (λva vb vo wr=>∃(ra rb acc:List Trm) (p q ca cb:Nat) (aa ab:Option Addr) (v:Value),v=vo/\va=.slice aa p ca/\vb=.slice ab q cb/\ra.length=p/\rb.length=q/\Sl aa p ca/\Sl ab q cb/\At w aa (ra.flatMap aH)/\At w ab (rb.flatMap aH)/\
  (∀t∈ra,Fit B t.2)/\(∀t∈rb,Fit B t.2)/\wr.ownsRow w.heap.size 111 4 v acc.length (acc.flatMap aH)/\acc.length+p+q<=N/\acc++gv ra rb=M/\Bw w wr) (λva vb _ _=>(yL va+yL vb).toNat)
 case atStart=>exact⟨ta,tb,[],n,n',cap,cap',a,a',_,rfl,rfl,rfl,Hn.out,zS.out,Hs.out,Ya.out,Ha.out,uu.out,vG.out,zM.out,pU.out,by rw[<-HN.out];simp,by simpa using HM.out,hb1.out⟩
 case round=>
  clear hb1 pU Ha uu Hs Ya vG zM Hn zS HM;obtain⟨ra,rb,acc,p,q,ca,cb,aa,ab,v,rfl,rfl,rfl,wJ,tZ,hsa,lu,hat,hat',lf,gX,hov,hlen,hM,pb⟩:=hrel;by_cases hpq:0<p/\0<q
  . obtain ⟨hp,hq⟩:=hpq;obtain⟨x,ra,rfl⟩:∃x l,ra=x::l:=by cases ra with
     |nil=>simp at wJ;omega
     |cons x l=>exact⟨x,l,rfl⟩
    obtain⟨y,rb,rfl⟩:∃x l,rb=x::l:=by cases rb with
     |nil=>simp at tZ;omega
     |cons x l=>exact⟨x,l,rfl⟩
    obtain⟨l,s,m,e⟩:=x;obtain⟨l',s',m',e'⟩:=y;obtain⟨p,rfl⟩:∃p',p=p'+1:=⟨p-1,by omega⟩;obtain⟨q,rfl⟩:∃q',q=q'+1:=⟨q-1,by omega⟩;have dz:=lf (l,s,m,e) zm;have jP:=gX (l',s',m',e') zm;have acl:∀t∈ra,Fit B t.2:=λt ht=>lf t (by simp[ht]);have acm:∀t∈rb,Fit B t.2:=λt ht=>gX t (by simp[ht]);obtain⟨b1,o1,rfl,hw1⟩:=(hat.below pb).term 0 zm rfl;obtain⟨b2,o2,rfl,hw2⟩:=(hat'.below pb).term 0 zm rfl;simp only[Nat.zero_mul,Nat.add_zero]at hw1 hw2;have nH:b1<w.heap.size:=hat.lt (by rw[VC];simp[aH]);have kv:b2<w.heap.size:=hat'.lt (by rw[VC];simp[aH]);have je:=hat.tail (c:=ca) (by have:=hsa.1;simp at wJ;omega);have pz:=hat'.tail (c:=cb) (by have:=lu.1;simp at tZ;omega);have adB:=hsa.tail;have adC:=lu.tail;have Bi:=gK (p+1) ca 0 0 (rfl:(some ⟨b1,o1,none⟩:Option Addr)=_) zo rfl;have MU:=gK (q+1) cb 0 0 (rfl:(some ⟨b2,o2,none⟩:Option Addr)=_) zo rfl;rw[Nat.zero_mul,Nat.add_zero]at Bi MU;have Sw:p+1<=ca:=hsa.1;have hcb:q+1<=cb:=lu.1;have PD:Hid (ra.length=p):=by show _=_;simpa using wJ
    have PF:Hid (rb.length=q):=by show _=_;simpa using tZ
    obtain⟨PG,PH,Yf,Yg,Cy,Cz,eu,aib,iU,pO,vG,zM⟩:=gL hsa lu adB adC je pz hat hat' dz jP acl acm;obtain⟨aiU,aiV,dv,HM,aP,rW⟩:=gM lf gX hov hM pb (HT.out.below pb);have Hx:Hid (aQ wr b1 o1 [ah l,ag s,ah m,af e]):=hw1;have Hy:Hid (aQ wr b2 o2 [ah l',ag s',ah m',af e']):=hw2;have adq:=wJ;have adr:=tZ;simp only[List.length_cons]at adq adr;clear wJ tZ hsa lu hat hat' lf gX hov hM pb dz jP acl acm hw1 hw2 je pz adB adC adq adr;have Hb:=hbz wr;have Rc:=OC.out;have ie:=aP.out.size;obtain⟨gs,GJ⟩:∃g,xh l l'=g:=⟨_,rfl⟩;have DX:=λW=>avY l s m e l' s' m' e' W;have hcs:=avX l l';rw[GJ]at DX hcs;obtain⟨Kl,JU⟩:=aI DX hcs;clear DX hcs GJ;go_wp2_with fail;obtain⟨ae,ai⟩:=qZ (Hx.an<|Hy.an trivial);have HU:Hid (aB wr):=rW.out;have ae:=Hb.an<|HU.an ae
    refine df 999 ae (cQ 9 0x110e0d0b0907050301) ?_;refine bC ?_;refine bP ae (Kl.out _) λw2 ae=>?_;refine bC ?_;refine cZ ae λai=>?_;have hcs:=JU.out;have hp1:(1:Int)<=(p:Int)+1:=by omega
    have hq1:(1:Int)<=(q:Int)+1:=by omega
    clear JU Kl Rc;rcases hcs with⟨rfl,h1⟩ |⟨rfl,h1,h2⟩ |⟨rfl,h1,h2⟩
    . have zE:Hid ((acc++[(l,s,m,e)])++gv ra ((l',s',m',e')::rb)=M):=by
       show _=_
       rw[<-HM.out,wY,if_pos h1];simp
      have zw:Hid ((acc++[(l,s,m,e)]).flatMap aH=acc.flatMap aH++[ah l,ag s,ah m,af e]):=by
       show _=_
       rw[List.flatMap_append];rfl
      clear h1;go_wp2_with fail;obtain⟨Hb,HU,Hx,Hy,_⟩:=ae;obtain⟨x0,x1,x2,x3⟩:=Hx.out.w4;obtain⟨y0,y1,y2,y3⟩:=Hy.out.w4;refine fx (λw'=>aJ w' b1 o1 (ah l)/\aJ w' b1 (o1+1) (ag s)/\aJ w' b1 (o1+2) (ah m)/\aJ w' b1 (o1+3) (af e)) (λi=>Nat.blt i 100000) [(0,true),(1,true),(2,true),(3,true),(6,true),(7,true),(4,false),(5,false),(8,true),(9,true)] zk zk rfl zk zc ⟨x0,x1,x2,x3⟩ ?_;iterate 6 (refine pT rfl rfl ?_ (by intro w' ⟨q0,q1,q2,q3⟩;go_simp;try with_reducible rfl);try simp only[UU])
      refine aN rfl rfl (λK hK=>?_);go_simp;refine hK _ _ (λ_=>⟨aM x0,aM x1,aM x2,aM x3⟩) ?_;try simp only[UU]
      refine cg (λW3=>ar W3 (w2.heap.size) 111 [ah l,ag s,ah m,af e]/\Bw w2 W3) (by first|exact iw|exact iy) ?_;rintro W3 ⟨qc,ak⟩;replace Hx:=kW Hx ak;replace Hy:=kW Hy ak;replace HU:=kT HU ak;have Hc:=aj qc;clear qc;obtain⟨x0,x1,x2,x3⟩:=Hx.out.w4;obtain⟨y0,y1,y2,y3⟩:=Hy.out.w4;obtain⟨c0,c1,c2,c3⟩:=Hc.out.c4;replace Hb:=bg Hb ak;refine aN rfl rfl (λK hK=>?_);have ft:=ownsRow_below dv.out Hb.out;have hs3:=Hb.out.size;refine wp_append_own _ _ _ 39 rfl w.heap.size 111 i0 _ 4 48 Tryz.underlying39 Hi.out cm.out bR.out bZ.out rfl zd v acc.length (acc.flatMap aH) rfl ft ⟨w2.heap.size,0,none⟩ 1 1 [ah l,ag s,ah m,af e] rfl rfl (fN Hc.out) zy zx zo zo ?_;intro v' w8 dX bj _;have nb:∀b,b<w.heap.size->some b≠v.ownBlock:=λb hb e=>by have:=cK ft b e.symm;omega
      refine hK _ _ (λ_=>⟨cG bj x0 (nb _ nH),cG bj x1 (nb _ nH),cG bj x2 (nb _ nH),cG bj x3 (nb _ nH)⟩) ?_;try simp only[UU]
      iterate 2 (refine pT rfl rfl ?_;try simp only[UU])
      simp only[bE];have EO:=aj ((aC aP.out Hb.out).grown bj zo (λj e=>cK ft j e));have jo:Hid (w8.ownsRow w.heap.size 111 4 v' (acc++[(l,s,m,e)]).length ((acc++[(l,s,m,e)]).flatMap aH)):=by
       show w8.ownsRow _ _ _ _ _ _
       rw[zw.out,List.length_append];exact dX
      clear nb ft dX bj x0 x1 x2 x3 y0 y1 y2 y3 c0 c1 c2 c3 Bi MU;go_wp2;go_roundw;case rel=>exact⟨ra,((l',s',m',e')::rb),acc++[(l,s,m,e)],p,(q+1),_,_,_,_,v',rfl,rfl,rfl,PD.out,(by have:=PF.out;simp;exact this),Yf.out,PH.out,Cy.out,aib.out,vG.out,aiV.out,jo.out,by simp;omega,zE.out,EO.out⟩
      case measure=>simp[yL];omega
    ·
     have zE:Hid ((acc++[(l',s',m',e')])++gv ((l,s,m,e)::ra) rb=M):=by
      show _=_
      rw[<-HM.out,wY,if_neg (by rw[h1];decide),if_pos h2];simp
     have zw:Hid ((acc++[(l',s',m',e')]).flatMap aH=acc.flatMap aH++[ah l',ag s',ah m',af e']):=by
      show _=_
      rw[List.flatMap_append];rfl
     clear h1 h2
     go_wp2_with fail
     obtain⟨Hb,HU,Hx,Hy,_⟩:=ae
     obtain⟨x0,x1,x2,x3⟩:=Hx.out.w4
     obtain⟨y0,y1,y2,y3⟩:=Hy.out.w4
     refine fx (λw'=>aJ w' b2 o2 (ah l')/\aJ w' b2 (o2+1) (ag s')/\aJ w' b2 (o2+2) (ah m')/\aJ w' b2 (o2+3) (af e')) (λi=>Nat.blt i 100000) [(0,true),(1,true),(2,true),(3,true),(6,true),(7,true),(4,false),(5,false),(8,true),(9,true)] zk zk rfl zk zc ⟨y0,y1,y2,y3⟩ ?_
     iterate 6 (refine pT rfl rfl ?_ (by intro w' ⟨q0,q1,q2,q3⟩;go_simp;try with_reducible rfl);try simp only[UU])
     refine aN rfl rfl (λK hK=>?_)
     go_simp
     refine hK _ _ (λ_=>⟨aM y0,aM y1,aM y2,aM y3⟩) ?_
     try simp only[UU]
     refine cg (λW3=>ar W3 (w2.heap.size) 111 [ah l',ag s',ah m',af e']/\Bw w2 W3) (by first|exact iw|exact iy) ?_
     rintro W3 ⟨qc,ak⟩
     clear x0 x1 x2 x3
     clear y0 y1 y2 y3
     replace Hx:=kW Hx ak
     replace Hy:=kW Hy ak
     replace HU:=kT HU ak
     have Hc:=aj qc;clear qc
     obtain⟨x0,x1,x2,x3⟩:=Hx.out.w4
     obtain⟨y0,y1,y2,y3⟩:=Hy.out.w4
     obtain⟨c0,c1,c2,c3⟩:=Hc.out.c4
     replace Hb:=bg Hb ak
     refine aN rfl rfl (λK hK=>?_)
     have ft:=ownsRow_below dv.out Hb.out
     have hs3:=Hb.out.size
     refine wp_append_own _ _ _ 39 rfl w.heap.size 111 i0 _ 4 48 Tryz.underlying39 Hi.out cm.out bR.out bZ.out rfl zd v acc.length (acc.flatMap aH) rfl ft ⟨w2.heap.size,0,none⟩ 1 1 [ah l',ag s',ah m',af e'] rfl rfl (fN Hc.out) zy zx zo zo ?_
     intro v' w8 dX bj _
     have nb:∀b,b<w.heap.size->some b≠v.ownBlock:=λb hb e=>by have:=cK ft b e.symm;omega
     refine hK _ _ (λ_=>⟨cG bj y0 (nb _ kv),cG bj y1 (nb _ kv),cG bj y2 (nb _ kv),cG bj y3 (nb _ kv)⟩) ?_
     try simp only[UU]
     iterate 2 (refine pT rfl rfl ?_;try simp only[UU])
     simp only[bE]
     have EO:=aj ((aC aP.out Hb.out).grown bj zo (λj e=>cK ft j e))
     have jo:Hid (w8.ownsRow w.heap.size 111 4 v' (acc++[(l',s',m',e')]).length ((acc++[(l',s',m',e')]).flatMap aH)):=by
      show w8.ownsRow _ _ _ _ _ _
      rw[zw.out,List.length_append];exact dX
     clear nb ft dX bj x0 x1 x2 x3 y0 y1 y2 y3 c0 c1 c2 c3 Bi MU
     go_wp2
     go_roundw
     case rel=>exact⟨((l,s,m,e)::ra),rb,acc++[(l',s',m',e')],(p+1),q,_,_,_,_,v',rfl,rfl,rfl,(by have:=PD.out;simp;exact this),PF.out,PG.out,Yg.out,eu.out,Cz.out,aiU.out,zM.out,jo.out,by simp;omega,zE.out,EO.out⟩
     case measure=>simp[yL];omega
    ·
     obtain⟨S,hS⟩:=az (dval (s,m,e)+dval (s',m',e'))
     have HS:=aj hS
     have zE:Hid ((acc++[(l,canon S)])++gv ra rb=M):=by
      show _=_
      rw[<-HM.out,wY,if_neg (by rw[h1];decide),if_neg (by rw[h2];decide)];simp;rw[<-hS];rfl
     have zw:Hid ((acc++[(l,canon S)]).flatMap aH=acc.flatMap aH++[ah l,ag (au (dN S)),ah (nt (dN S).natAbs),af (dE S)]):=by
      show _=_
      rw[List.flatMap_append];rfl
     clear h1 h2 hS
     have Lr:=OB.out
     go_wp2_with fail
     obtain⟨Hb,HU,Hx,Hy,_⟩:=ae
     obtain⟨x0,x1,x2,x3⟩:=Hx.out.w4
     obtain⟨y0,y1,y2,y3⟩:=Hy.out.w4
     refine fx (λw'=>aJ w' b1 o1 (ah l)/\aJ w' b1 (o1+1) (ag s)/\aJ w' b1 (o1+2) (ah m)/\aJ w' b1 (o1+3) (af e)/\aJ w' b2 o2 (ah l')/\aJ w' b2 (o2+1) (ag s')/\aJ w' b2 (o2+2) (ah m')/\aJ w' b2 (o2+3) (af e')) (λi=>Nat.blt i 100000) [(0,true),(1,true),(2,true),(3,true),(4,true),(5,true),(6,true),(7,true),(11,true),(12,true),(13,true),(14,true),(8,false),(9,false),(10,false),(15,true),(16,true),(17,true)] zk zk rfl zk zc ⟨x0,x1,x2,x3,y0,y1,y2,y3⟩ ?_
     iterate 12 (refine pT rfl rfl ?_ (by intro w' ⟨q0,q1,q2,q3,q4,q5,q6,q7⟩;go_simp;try with_reducible rfl);try simp only[UU])
     refine aN rfl rfl (λK hK=>?_)
     go_simp
     with_reducible refine(awq l s m e l' s' m' e' S B HS.out _ iU.out pO.out hB (by first|exact HU.out|exact aB.drew HU.out|exact aB.alloc HU.out _|exact aB.drew (aB.alloc HU.out _) |exact aB.alloc (aB.drew HU.out) _)).mono ?_
     rintro e w4 ⟨rfl,hq⟩
     have ak:Bw w2 w4:=by first|exact hq|exact cS hq
     clear x0 x1 x2 x3
     clear y0 y1 y2 y3
     replace Hx:=kW Hx ak
     replace Hy:=kW Hy ak
     replace HU:=kT HU ak
     obtain⟨x0,x1,x2,x3⟩:=Hx.out.w4
     obtain⟨y0,y1,y2,y3⟩:=Hy.out.w4
     replace Hb:=bg Hb ak
     refine hK _ _ (λ_=>⟨x0,x1,x2,x3,y0,y1,y2,y3⟩) ?_
     try simp only[UU]
     refine aN rfl rfl (λK hK=>?_)
     go_simp
     refine hK _ _ (λ_=>⟨aM x0,aM x1,aM x2,aM x3,aM y0,aM y1,aM y2,aM y3⟩) ?_
     try simp only[UU]
     refine cg (λW5=>ar W5 (w4.heap.size) 111 [ah l,ag (au (dN S)),ah (nt (dN S).natAbs),af (dE S)]/\Bw w4 W5) (by first|exact iw|exact iy) ?_
     rintro W5 ⟨qc,ak⟩
     clear x0 x1 x2 x3
     clear y0 y1 y2 y3
     replace Hx:=kW Hx ak
     replace Hy:=kW Hy ak
     replace HU:=kT HU ak
     have Hc:=aj qc;clear qc
     obtain⟨x0,x1,x2,x3⟩:=Hx.out.w4
     obtain⟨y0,y1,y2,y3⟩:=Hy.out.w4
     obtain⟨c0,c1,c2,c3⟩:=Hc.out.c4
     replace Hb:=bg Hb ak
     refine aN rfl rfl (λK hK=>?_)
     have ft:=ownsRow_below dv.out Hb.out
     have hs3:=Hb.out.size
     refine wp_append_own _ _ _ 39 rfl w.heap.size 111 i0 _ 4 48 Tryz.underlying39 Hi.out cm.out bR.out bZ.out rfl zd v acc.length (acc.flatMap aH) rfl ft ⟨w4.heap.size,0,none⟩ 1 1 [ah l,ag (au (dN S)),ah (nt (dN S).natAbs),af (dE S)] rfl rfl (fN Hc.out) zy zx zo zo ?_
     intro v' w8 dX bj _
     have nb:∀b,b<w.heap.size->some b≠v.ownBlock:=λb hb e=>by have:=cK ft b e.symm;omega
     refine hK _ _ (λ_=>⟨cG bj x0 (nb _ nH),cG bj x1 (nb _ nH),cG bj x2 (nb _ nH),cG bj x3 (nb _ nH),cG bj y0 (nb _ kv),cG bj y1 (nb _ kv),cG bj y2 (nb _ kv),cG bj y3 (nb _ kv)⟩) ?_
     try simp only[UU]
     iterate 3 (refine pT rfl rfl ?_;try simp only[UU])
     simp only[bE]
     have EO:=aj ((aC aP.out Hb.out).grown bj zo (λj e=>cK ft j e))
     have jo:Hid (w8.ownsRow w.heap.size 111 4 v' (acc++[(l,canon S)]).length ((acc++[(l,canon S)]).flatMap aH)):=by
      show w8.ownsRow _ _ _ _ _ _
      rw[zw.out,List.length_append];exact dX
     clear nb ft dX bj x0 x1 x2 x3 y0 y1 y2 y3 c0 c1 c2 c3 Bi MU
     go_wp2
     go_roundw
     case rel=>exact⟨ra,rb,acc++[(l,canon S)],p,q,_,_,_,_,v',rfl,rfl,rfl,PD.out,PF.out,Yf.out,Yg.out,Cy.out,Cz.out,vG.out,zM.out,jo.out,by simp;omega,zE.out,EO.out⟩
     case measure=>simp[yL];omega
  . have hmr:gv ra rb=ra++rb:=by
     have:p=0\/q=0:=by omega
     rcases this with rfl|rfl
     . rw[List.eq_nil_of_length_eq_zero wJ,Bt];rfl
     . rw[List.eq_nil_of_length_eq_zero tZ,Bu];simp
    have hML:M.length=acc.length+p+q:=by rw[<-hM,hmr];simp[wJ,tZ];omega
    have zw:Hid (M.flatMap aH=(acc.flatMap aH++ra.flatMap aH)++rb.flatMap aH):=by
     show _=_
     rw[<-hM,hmr,<-List.append_assoc,List.flatMap_append,List.flatMap_append]
    have hlr:(ra.flatMap aH).length=p*4:=by rw[nO,wJ]
    have acT:(rb.flatMap aH).length=q*4:=by rw[nO,tZ]
    have iZ:=hat.below pb;have azE:=hlen;obtain⟨Kc,aju,oK,eu,dv,aP,PG,PH,HML⟩:=Ug hlr acT iZ hat' hov pb hsa lu hML;clear wJ tZ hmr hlr acT hat hat' iZ hov pb hsa lu hM lf gX hML;have hsz:=aP.out.size;by_cases h0:0<p
    all_goals
     go_wp2_with (first| (at_builtin;refine uo rfl (.tmp 70) (.tmp 71) 39 rfl w.heap.size 111 i0 _ 4 48 Tryz.underlying39 Hi.out cm.out bR.out bZ.out rfl zd v acc.length (acc.flatMap aH) rfl dv.out aa p ca (ra.flatMap aH) rfl PG.out Kc.out oK.out (vr ra) zx zo hsz ?_;intro v1 w2 cV hg1 hb1) | (at_builtin;refine uo rfl (.tmp 72) (.tmp 73) 39 rfl w.heap.size 111 i0 _ 4 48 Tryz.underlying39 Hi.out cm.out bR.out bZ.out rfl zd v1 (acc.length+p) (acc.flatMap aH++ra.flatMap aH) rfl cV ab q cb (rb.flatMap aH) rfl PH.out aju.out (eu.out.below (aP.out.grown hg1 hsz (λj e=>cK dv.out j e))) (vr rb) zx zo (Nat.le_trans hsz hg1.size) ?_;intro v2 w3 fH hg2 hb2))
     go_ret
     refine⟨v2,rfl,?_,(aP.out.grown hg1 hsz (λj e=>cK dv.out j e)).grown hg2 (Nat.le_trans hsz hg1.size) (λj e=>cK cV j e)⟩
     rw[HML.out,zw.out];exact fH
end Go.Proofs.YtpfgffadgkkedaaGreatDoor
namespace Go.Proofs.YtpfgffadgkkedaaGreatDoor
open Go.RowKit
def awH (ts:List Trm)(i:Nat)(hi:i<ts.length)(t:Trm):(((((ts.flatMap aH).set (i*4) (ah t.1)).set (i*4+1) (ag t.2.1)).set (i*4+2) (ah t.2.2.1)).set (i*4+3) (af t.2.2.2))=(ts.set i t).flatMap aH:=by
 induction ts generalizing i with
 |nil=>simp at hi
 | cons x ts ih=>
   have e:∀(y:Trm) zs,(y::zs).flatMap aH=ah y.1::ag y.2.1::ah y.2.2.1::af y.2.2.2::zs.flatMap aH:=λy zs=>rfl;cases i with
   |zero=>rw[e];rfl
   |succ i=>rw[List.set_cons_succ,e,e,<-ih i (by simpa using hi),show(i+1) *4=i*4+1+1+1+1 by omega];rfl
def awG (ts:List Trm)(i:Nat)(hi:i<ts.length)(r:Raw):((((ts.flatMap aH).set (i*4+1) (ag r.1)).set (i*4+2) (ah r.2.1)).set (i*4+3) (af r.2.2))=(ts.set i (ts[i].1,r)).flatMap aH:=by
 induction ts generalizing i with
 |nil=>simp at hi
 | cons x ts ih=>
   have e:∀(y:Trm) zs,(y::zs).flatMap aH=ah y.1::ag y.2.1::ah y.2.2.1::af y.2.2.2::zs.flatMap aH:=λy zs=>rfl;cases i with
   |zero=>rw[e];rfl
   |succ i=>rw[List.set_cons_succ,e,e,List.getElem_cons_succ,<-ih i (by simpa using hi),show(i+1) *4=i*4+1+1+1+1 by omega];rfl
def mP {w:World}{base:Nat}{e:TypeId}{size n cap g:Nat}{xs:List Value}(h:w.ownsRow base e size (.slice (some ⟨g,0,none⟩) n cap) n xs)(o:Nat):w.frozen? ⟨g,o,none⟩=false:=by
 rcases h.2 with⟨h1,_⟩ |⟨g',cap',cur,h1,hb,hg,_⟩
 . simp at h1
 . simp only[Value.slice.injEq,Option.some.injEq,Addr.mk.injEq,and_true,true_and]at h1;obtain⟨rfl,rfl⟩:=h1;have h4:ar w g e cur.toList:=by unfold ar;simpa using hg
   exact h4.free o
def xe {w:World}{base:Nat}{e:TypeId}{size n cap g:Nat}{xs:List Value}(h:w.ownsRow base e size (.slice (some ⟨g,0,none⟩) n cap) n xs):base<=g/\g<w.heap.size:=by
 rcases h.2 with⟨h1,_⟩ |⟨g',cap',cur,h1,hb,hg,_⟩
 . simp at h1
 . simp only[Value.slice.injEq,Option.some.injEq,Addr.mk.injEq,and_true,true_and]at h1;obtain⟨rfl,rfl⟩:=h1;exact⟨hb,(Array.getElem?_eq_some_iff.1 hg).1⟩
def Nk {w:World}{base n cap g:Nat}{e:TypeId}{ts:List Trm}(h:w.ownsRow base e 4 (.slice (some ⟨g,0,none⟩) n cap) n (ts.flatMap aH))(k:Nat)(hk:k<ts.length){l:List UInt8}{s:Bool}{m:List UInt8}{ex:Int}(hx:ts[k]=(l,s,m,ex)):
 aQ w g (k*4) [ah l,ag s,ah m,af ex]:=by
 obtain⟨a,c,hv,hat,_⟩:=cz h;simp only[Value.slice.injEq,true_and]at hv;obtain⟨rfl,rfl⟩:=hv;obtain⟨b,o,hab,hw⟩:=hat.term k hk hx;simp only[Option.some.injEq,Addr.mk.injEq,and_true]at hab;obtain⟨rfl,rfl⟩:=hab;rwa [Nat.zero_add]at hw
def auh {w:World}{base n cap g:Nat}{e:TypeId}{ts:List Trm}(h:w.ownsRow base e 4 (.slice (some ⟨g,0,none⟩) n cap) n (ts.flatMap aH))(i:Nat)(hi:i<ts.length)(l:List UInt8)(s:Bool)(m:List UInt8)(ex:Int):
 ((((w.setCell ⟨g,i*4,none⟩ (ah l)).setCell ⟨g,i*4+1,none⟩ (ag s)).setCell ⟨g,i*4+2,none⟩ (ah m)).setCell ⟨g,i*4+3,none⟩ (af ex)).ownsRow base e 4 (.slice (some ⟨g,0,none⟩) n cap) n ((ts.set i (l,s,m,ex)).flatMap aH):=by
 rw[<-awH ts i hi (l,s,m,ex)];exact jS (jS (jS (jS h _ _) _ _) _ _) _ _
def afo {w:World}{base n cap g:Nat}{e:TypeId}{ts:List Trm}(h:w.ownsRow base e 4 (.slice (some ⟨g,0,none⟩) n cap) n (ts.flatMap aH))(i:Nat)(hi:i<ts.length)(s:Bool)(m:List UInt8)(ex:Int):
 (((w.setCell ⟨g,i*4+1,none⟩ (ag s)).setCell ⟨g,i*4+2,none⟩ (ah m)).setCell ⟨g,i*4+3,none⟩ (af ex)).ownsRow base e 4 (.slice (some ⟨g,0,none⟩) n cap) n ((ts.set i (ts[i].1,s,m,ex)).flatMap aH):=by
 rw[<-awG ts i hi (s,m,ex)];exact jS (jS (jS h _ _) _ _) _ _
def LA {w w':World}(r:Option Nat)(h:Bw w w'):w.grownBy w' r:=⟨h.os,h.tape,h.output,h.size,λk hk _=>h.block k hk⟩
def LB {w w':World}{g:Nat}(h:w.grownBy w' (some g))(a:Nat)(v:Value):w.grownBy (w'.setCell ⟨g,a,none⟩ v) (some g):=grownBy_trans h (grownBy_set g rfl v)
def alX {n:Nat}{w w':World}{r:Option Nat}(h:w.grownBy w' r)(hn:n<=w.heap.size)(hr:∀g,r=some g->n<=g):Below n w w':=((Below.refl _ _).mono hn).grown h hn hr
def ae1 {B:Nat}(a b:List Trm)(ha:∀t∈a,Fit B t.2)(hb:∀t∈b,Fit B t.2)(hB:B+1<=268435456):∀t∈gv a b,Fit (B+1) t.2:=by
 obtain⟨n,hn⟩:=az (a.length+b.length);induction n using Nat.strongRecOn generalizing a b with
 | _ n ih=>
   cases a with
   |nil=>rw[Bt];exact λt ht=>(hb t ht).mono zo
   | cons x a=>cases b with
     |nil=>rw[Bu];exact λt ht=>(ha t ht).mono zo
     | cons y b=>
       rw[wY];simp only[List.length_cons]at hn;have ha2:∀t∈a,Fit B t.2:=λt ht=>ha t (by simp[ht]);have hb2:∀t∈b,Fit B t.2:=λt ht=>hb t (by simp[ht]);split
       . intro t ht;rcases List.mem_cons.1 ht with rfl|ht
         . exact(ha _ zm).mono zo
         . exact ih _ (by simp only[List.length_cons];omega) a (y::b) ha2 hb rfl t ht
       . split
         . intro t ht;rcases List.mem_cons.1 ht with rfl|ht
           . exact(hb _ zm).mono zo
           . exact ih _ (by simp only[List.length_cons];omega) (x::a) b ha hb2 rfl t ht
         . intro t ht;rcases List.mem_cons.1 ht with rfl|ht
           . exact((ha x zm).2.add (hb y zm).2).fit hB
           . exact ih _ zo a b ha2 hb2 rfl t ht
def Vw {B:Nat}(l:List Trm)(h:∀t∈l,Fit B t.2)(hB:B+l.length<=268435456):∀t∈gz l,Fit (B+l.length) t.2:=by
 obtain⟨n,hn⟩:=az l.length;induction n using Nat.strongRecOn generalizing l with
 | _ n ih=>
   by_cases h2:l.length<2
   . rw[Ny l h2];exact λt ht=>(h t ht).mono zo
   . rw[Vx l zo];have l1:(l.take (l.length/2)).length=l.length/2:=by rw[List.length_take];omega
     have l2:(l.drop (l.length/2)).length=l.length-l.length/2:=List.length_drop;have h3:=ih _ (by rw[<-hn,l1];omega) (l.take (l.length/2)) (λt ht=>h t (List.mem_of_mem_take ht)) (by rw[l1];omega) rfl;have h4:=ih _ (by rw[<-hn,l2];omega) (l.drop (l.length/2)) (λt ht=>h t (List.mem_of_mem_drop ht)) (by rw[l2];omega) rfl;have:=ae1 (B:=B+(l.length-1)) _ _ (λt ht=>(h3 t ht).mono (by rw[l1];omega)) (λt ht=>(h4 t ht).mono (by rw[l2];omega)) zo;rwa [show B+(l.length-1)+1=B+l.length by omega]at this
end Go.Proofs.YtpfgffadgkkedaaGreatDoor
namespace Go.Proofs.YtpfgffadgkkedaaGreatDoor
open Go.RowKit
attribute [local go_sem ↓] Go.wp_at_zero Go.wp_at_succ
def ao0 {α:Type}(p:α->Bool)(l:List α)(i:Nat)(hi:i<=l.length)(h:∀j (hj:j<i),p (l[j]'zo)=false):(l.take i).filter (λx=>!p x)=l.take i:=by
 rw[List.filter_eq_self];intro x hx;obtain⟨j,hj,rfl⟩:=List.mem_iff_getElem.1 hx;rw[List.getElem_take];have iG:j<i:=by rw[List.length_take]at hj;omega
 simp[h j iG]
def take_set {α:Type}(l:List α)(a:Nat)(x:α)(h:a<l.length):(l.set a x).take (a+1)=l.take a++[x]:=by rw[List.take_succ_eq_append_getElem (by simpa using h),List.getElem_set_self,List.take_set_of_le (Nat.le_refl _)]
def QT {α:Type}(l:List α)(a b:Nat)(x:α)(h:a<b):(l.set a x).drop b=l.drop b:=by rw[List.drop_set];rw[if_pos h]
def Tryz.aBG (w:World):(zeroValue 111).run Tryz.prog w=.ok (.agg #[.string ⟨#[]⟩,ag false,.string ⟨#[]⟩,af 0]) w:=by kernel_rfl
def aai (ts:List Trm)(k:Nat)(hk:k<=ts.length):(ts.flatMap aH).take (k*4)=(ts.take k).flatMap aH:=by
 have e:ts=ts.take k++ts.drop k:=(List.take_append_drop _ _).symm;conv=>lhs;rw[e]
 rw[List.flatMap_append,List.take_left' (by rw[nO,List.length_take,Nat.min_eq_left hk])]
def anK (a:Option Addr)(n cap:Nat)(ts:List Trm)(gf:Nat)(p:Trm->Bool)(w:World)(hn:ts.length=n)(hl:n<=65536)(ha:At w a (ts.flatMap aH))
 (eg:∀args w,(callFunc gf args).run Tryz.prog w=.ok (.enter gf args) w) (h2:∀x∈ts,p x=false)
 (hcl:∀x∈ts,∀W,Cl gf #[.agg #[ah x.1,ag x.2.1,ah x.2.2.1,af x.2.2.2]] W λe w'=>e=.returned (ag (p x))/\Bw W w'):
 Cv 252 #[.slice a n cap,.func (.func gf) #[] #[]] w (.slice a n cap):=by
 have aU:=Ub a n cap ts gf #[] p w hn zo ha eg (λx hx W _=>by simpa using hcl x hx W);rcases aeh p ts 0 with⟨h1,_⟩ |⟨i,hi,_,h3,_⟩
 . rw[h1]at aU;have EY:=aj aU;clear aU h1 h2 hn hcl eg ha;have Hb:=hbz w;go_enter Tryz.func252,Tryz.ntmps252;go_wp2_with fail;refine aK (Hb.an trivial) (EY.out) λw1 ae ai=>?_;go_wp2;go_ret;exact⟨rfl,ae.1.out⟩
 . rw[h2 _ (List.getElem_mem hi)]at h3;cases h3
def anJ (g n cap base:Nat)(ts:List Trm)(gf:Nat)(p:Trm->Bool)(w:World)(hn:ts.length=n)(hl:n<=65536)(hn0:0<n)(ho:w.ownsRow base 111 4 (.slice (some ⟨g,0,none⟩) n cap) n (ts.flatMap aH))
 (eg:∀args w,(callFunc gf args).run Tryz.prog w=.ok (.enter gf args) w)
 (hcl:∀x∈ts,∀W,Cl gf #[.agg #[ah x.1,ag x.2.1,ah x.2.2.1,af x.2.2.2]] W λe w'=>e=.returned (ag (p x))/\Bw W w'):
 Cl 252 #[.slice (some ⟨g,0,none⟩) n cap,.func (.func gf) #[] #[]] w λe w'=>∃k,k=(ts.filter λx=>!p x).length/\e=.returned (.slice (some ⟨g,0,none⟩) k cap)/\
  w'.ownsRow base 111 4 (.slice (some ⟨g,0,none⟩) k cap) k ((ts.filter λx=>!p x).flatMap aH)/\w.grownBy w' (some g):=by
 have hat:At w (some ⟨g,0,none⟩) (ts.flatMap aH):=by obtain⟨a,c,hv,hat,_⟩:=cz ho;simp only[Value.slice.injEq,true_and]at hv;rw[hv.1];exact hat
 have hcap:=(yT ho).1;have aU:=Ub (some ⟨g,0,none⟩) n cap ts gf #[] p w hn zo hat eg (λx hx W _=>by simpa using hcl x hx W);have hcm:cap<=9223372036854775807:=by
  rcases ho.2 with⟨h1,_⟩ |⟨g',cap',cur,h1,hb,hg,h4,h5,_⟩
  . simp at h1
  . simp only[Value.slice.injEq]at h1;obtain⟨_,_,rfl⟩:=h1;unfold maxLen at h5;omega
 obtain⟨Ho,fV,Hn,lN,eu⟩:=dY ho hcl hn eg hat;clear ho hcl hn eg hat;rcases aeh p ts 0 with⟨h1,h2⟩ |⟨i,hi,h1,h2,h3⟩
 . rw[h1]at aU;have hK:(ts.filter λx=>!p x)=ts:=List.filter_eq_self.2 (λx hx=>by simp[h2 x hx]);rw[hK,Hn.out];have EY:=aj aU;clear aU h1 h2 hK;have Hb:=hbz w;go_enter Tryz.func252,Tryz.ntmps252;go_wp2_with fail;refine aK (Hb.an trivial) (EY.out) λw1 ae ai=>?_;go_wp2;go_ret;exact⟨n,rfl,rfl,ownsRow_below Ho.out ae.1.out,LA _ ae.1.out⟩
 . rw[h1,Nat.zero_add]at aU;have hin:i<n:=by rw[<-Hn.out];exact hi
   obtain⟨K,hK⟩:=az (ts.filter λx=>!p x);rw[hK];have hst:(ts.take (i+1)).filter (λx=>!p x)=ts.take i:=by rw[List.take_succ_eq_append_getElem hi,List.filter_append,ao0 p ts i zo h3];simp[h2]
   have ny:((i:Int)== -1)=false:=by simp
   obtain⟨EY,HK,bK⟩:=bL aU hK hst;clear aU h1 h2 h3 hK hst;have Hb:=hbz w;go_enter Tryz.func252,Tryz.ntmps252;go_wp2_with fail;refine aK (Hb.an trivial) (EY.out) λw1 ae ai=>?_;go_wp2_with fail;go_loopw[5,6] (λs5 s6 wr=>∃(x y:Nat) (C:List Trm),s5=af (x:Int)/\s6=af (y:Int)/\x<y/\y<=n/\C.length=n/\C.take x=(ts.take y).filter (λx=>!p x)/\C.drop y=ts.drop y/\wr.ownsRow base 111 4 (.slice (some ⟨g,0,none⟩) n cap) n (C.flatMap aH)/\w.grownBy wr (some g)) (λ_ s6 _=>n-(intOf s6).toNat);case atStart=>exact⟨i,i+1,ts,rfl,by go_num,by omega,by omega,Hn.out,bK.out.symm,rfl,ownsRow_below Ho.out ae.1.out,LA _ ae.1.out⟩
   case round=>
    clear ny;obtain⟨x,y,C,rfl,rfl,hxy,yI,hC,htk,hdr,hov,hg⟩:=hrel;by_cases hlt:y<n
    . have TY:y<ts.length:=by rw[Hn.out];exact hlt
      have hyC:y<C.length:=by omega
      have hel:C[y]=ts[y]:=by
       have e1:C[y]?=ts[y]?:=by rw[<-Nat.add_zero y,<-List.getElem?_drop,<-List.getElem?_drop,hdr]
       rw[List.getElem?_eq_getElem hyC,List.getElem?_eq_getElem TY]at e1;exact Option.some.inj e1
      obtain⟨l,s,m,e,hx⟩:∃l s m e,ts[y]=(l,s,m,e):=⟨_,_,_,_,rfl⟩;have hw:=Nk hov y hyC (hel.trans hx);have hcl:=fV.out _ (List.getElem_mem TY);rw[hx]at hcl;have hnx:(ts.take (y+1)).filter (λx=>!p x)=(ts.take y).filter (λx=>!p x)++if p (l,s,m,e)then[]else[(l,s,m,e)]:=by rw[List.take_succ_eq_append_getElem TY,List.filter_append,hx];by_cases hp:p (l,s,m,e)=true<;>simp[hp]
      have hd2:C.drop (y+1)=ts.drop (y+1):=by rw[<-List.drop_drop,<-List.drop_drop,hdr]
      have aU:=gK n cap y (y:Int) (rfl:(some ⟨g,0,none⟩:Option Addr)=_) hlt rfl;rw[Nat.zero_add]at aU;obtain⟨hgb,GJ⟩:=xe hov;obtain⟨dv,Hg,Yk,vE,Ff,HC,JS⟩:=jx hov hg htk hd2 hnx hC hcl;have Hz:Hid (aQ wr g (y*4) [ah l,ag s,ah m,af e]):=hw;clear hov hg htk hd2 hnx hC hcl hw hdr hel hx;have Hb:=hbz wr;obtain⟨ae,ai⟩:=qZ (Hz.an trivial);have z1:wr.cell? ⟨g,y*4+1,none⟩=some (ag s):=ae.1.out.cell 1 zm;have z2:wr.cell? ⟨g,y*4+2,none⟩=some (ah m):=ae.1.out.cell 2 zm;have z0:wr.cell? ⟨g,y*4,none⟩=some (ah l):=ae.1.out.cell 0 zm;have z3:wr.cell? ⟨g,y*4+3,none⟩=some (af e):=ae.1.out.cell 3 zm;have P0:=z0;have P1:=z1;have P2:=z2;have P3:=z3;have Lr:=lN.out;obtain⟨W4,ke,aG,ae,ai⟩:=bO wr (Hb.an ae) 111 [ah l,ag s,ah m,af e];obtain⟨t,ht⟩:=az (p (l,s,m,e));rw[ht]at JS Ff;clear ht;go_wp2_with fail;refine aK ae (JS.out _) λw5 ae ai=>?_;have iP:=ownsRow_below dv.out ae.2.1.out;have iN:=grownBy_trans Hg.out (LA _ ae.2.1.out);clear Lr;cases t with
      | true=>
        obtain⟨zY,OO⟩:=aI iP iN;clear iP iN;go_wp2;go_roundw;case rel=>exact⟨x,y+1,C,rfl,by go_num,by omega,by omega,HC.out,by rw[Ff.out,Yk.out];simp,vE.out,zY.out,OO.out⟩
        case measure=>exact bf
      | false=>
        have TT:x<C.length:=by have:=HC.out;omega
        obtain⟨lx,sx,mx,ex,mJ⟩:∃l s m e,C[x]=(l,s,m,e):=⟨_,_,_,_,rfl⟩;obtain⟨u0,u1,u2,u3⟩:=(Nk iP x TT mJ).w4;have Da:=mP iP (x*4);have xV:=mP iP (x*4+1);have Gh:=mP iP (x*4+2);have fz3:=mP iP (x*4+3);have tO:=gK n cap x (x:Int) (rfl:(some ⟨g,0,none⟩:Option Addr)=_) zo rfl;rw[Nat.zero_add]at tO;obtain⟨zY,OO,Yo⟩:=bL iP iN TT;clear iP iN mJ TT;go_wp2;refine⟨⟨x+1,y+1,C.set x (l,s,m,e),by go_num,by go_num,by omega,by omega,by rw[List.length_set];exact HC.out,?_,?_,auh zY.out x Yo.out l s m e,?_⟩,by simp[intOf];omega⟩
        . rw[take_set _ _ _ Yo.out,Yk.out,Ff.out];simp
        . rw[QT _ _ _ _ zo];exact vE.out
        . exact LB (LB (LB (LB OO.out _ _) _ _) _ _) _ _
    . obtain rfl:y=n:=by omega
      have hK:C.take x=K:=by rw[htk,<-HK.out,List.take_of_length_le (by rw[Hn.out];exact Nat.le_refl _)]
      have LM:K.length=x:=by rw[<-hK,List.length_take,hC];omega
      have qD:=Nj hov x zo;rw[aai C x zo,hK]at qD;obtain⟨w6,azo,HJ,hg6⟩:=afO wr 39 111 _ 4 Tryz.underlying39 Tryz.aBG rfl (by intro v hv;simp[Value.cells]at hv;rcases hv with rfl|rfl|rfl|rfl<;>rfl) g x (y-x) cap (cap-x) base (K.flatMap aH) qD zo;have kZ:¬cap=x:=by omega
      obtain⟨Ho6,vI,HKl⟩:=bL HJ (grownBy_trans hg hg6) LM;clear htk hdr hC hK LM qD hov hg HJ hg6;go_wp2;go_ret;exact⟨x,HKl.out.symm,rfl,Ho6.out,vI.out⟩
def At.first {w:World}{a:Option Addr}{xs:List Value}(h:At w a xs)(k:Nat):At w a (xs.take k):=by
 rcases h with rfl|⟨b,o,rfl,hc⟩
 . exact .inl zm
 . refine .inr ⟨b,o,rfl,λj hj=>?_⟩;rw[List.length_take]at hj;rw[hc j zo,List.getElem?_take_of_lt zo]
def Ql (w:World)(a:Option Addr)(n cap:Nat)(ts:List Trm)(e:Ending)(w':World):Prop:=
 ∃v',e=.returned v'/\((n<2/\v'=.slice a n cap)\/(2<=n/\w'.ownsRow w.heap.size 111 4 v' (gz ts).length ((gz ts).flatMap aH)))/\Bw w w'
def Ql.at {w:World}{a:Option Addr}{n cap:Nat}{ts:List Trm}{e:Ending}{w':World}(h:Ql w a n cap ts e w')(hn:ts.length=n)(hs:Sl a n cap)(ha:At w a (ts.flatMap aH)):
 ∃a' c',e=.returned (.slice a' (gz ts).length c')/\At w' a' ((gz ts).flatMap aH)/\Sl a' (gz ts).length c'/\Bw w w':=by
 obtain⟨v',rfl,h1,hb⟩:=h;rcases h1 with⟨h2,rfl⟩ |⟨h2,ho⟩
 . rw[Ny ts zo,hn];exact⟨a,cap,rfl,ha.below hb,hs,hb⟩
 . obtain⟨a',c',rfl,hat,_⟩:=cz ho;exact⟨a',c',rfl,hat,yT ho,hb⟩
def av4 (n:Nat):∀(a:Option Addr) (cap:Nat) (ts:List Trm) (B:Nat) (w:World),ts.length=n->Sl a n cap->n<=65536->At w a (ts.flatMap aH)->(∀t∈ts,Fit B t.2)->B+n+2<=268435456->aB w->
 Cl 253 #[.slice a n cap,.func (.func 231) #[] #[],.func (.func 232) #[] #[]] w (Ql w a n cap ts):=by
 induction n using Nat.strongRecOn with
 | _ n ih=>
   intro a cap ts B w hn hs hl ha hf hB hT;by_cases h2:n<2
   . have h2i:(n:Int)<2:=by omega
     clear ih hn hs ha hf hT;have Hb:=hbz w;go_enter Tryz.func253,Tryz.ntmps253;go_wp2;go_ret;exact⟨_,rfl,.inl ⟨h2,rfl⟩,Hb.out⟩
   . obtain⟨k,hk⟩:=az (n/2);have hk1:1<=k:=by omega
     have hk2:k<n:=by omega
     have uT:(n:Int)/2=(k:Int):=by omega
     have l1:(ts.take k).length=k:=by rw[List.length_take];omega
     have l2:(ts.drop k).length=n-k:=by rw[List.length_drop];omega
     have hcn:=hs.1;have s1:Sl a k cap:=⟨by omega,hs.2⟩;have s2:Sl (if cap=k then a else a.map (·.add (k*4))) (n-k) (cap-k):=hs.cut zo;have a1:=ha.first (k*4);rw[aai ts k zo]at a1;have a2:=ha.cut (k:=k) (size:=4) (by rw[nO,hn]) zo hcn;have ed:(ts.flatMap aH).drop (k*4)=(ts.drop k).flatMap aH:=by
      have e:ts=ts.take k++ts.drop k:=(List.take_append_drop _ _).symm;conv=>lhs;rw[e]
      rw[List.flatMap_append,List.drop_left' (by rw[nO,l1])]
     rw[ed]at a2;obtain⟨a',ha'⟩:=az (if cap=k then a else a.map (·.add (k*4)));rw[ha']at s2 a2;have f1:∀t∈ts.take k,Fit B t.2:=λt ht=>hf t (List.mem_of_mem_take ht);have f2:∀t∈ts.drop k,Fit B t.2:=λt ht=>hf t (List.mem_of_mem_drop ht);have c1:=λW (hW:Bw w W) (Gw:aB W)=>(ih k hk2 a cap (ts.take k) B W l1 s1 zo (a1.below hW) f1 zo Gw).mono (λe w' h=>h.at l1 s1 (a1.below hW));have c2:=λW (hW:Bw w W) (Gw:aB W)=>(ih (n-k) zo a' (cap-k) (ts.drop k) B W l2 s2 zo (a2.below hW) f2 zo Gw).mono (λe w' h=>by obtain⟨x1,x2,x3,x4,x5,x6⟩:=h.at l2 s2 (a2.below hW);exact(⟨x1,x2,x3,x4,x5,Nat.le_trans hW.size x6.size,x6,x6⟩:∃a1 c1,e=.returned (.slice a1 (gz (ts.drop k)).length c1)/\At w' a1 ((gz (ts.drop k)).flatMap aH)/\Sl a1 (gz (ts.drop k)).length c1/\w.heap.size<=w'.heap.size/\Bw W w'/\Bw W w'));have g1:=Vw (B:=B) (ts.take k) f1 zo;have g2:=Vw (B:=B) (ts.drop k) f2 zo;have e1:=Nw (ts.take k);have e2:=Nw (ts.drop k);have hst:gz ts=gv (gz (ts.take k)) (gz (ts.drop k)):=by rw[Vx ts zo,hn,hk]
     obtain⟨L,hL⟩:=az (gz (ts.take k));obtain⟨R,hR⟩:=az (gz (ts.drop k));rw[hL]at c1 g1 e1 hst;rw[hR]at c2 g2 e2 hst;have h2i:¬(n:Int)<2:=by omega
     have h2n:2<=n:=by omega
     obtain⟨C1,C2,G1,G2,bK,HT⟩:=gM c1 c2 (λt ht=>(g1 t ht).mono (show B+(ts.take k).length<=B+n by omega)) (λt ht=>(g2 t ht).mono (show B+(ts.drop k).length<=B+n by omega)) hst hT;have Kc:Hid (L.length<=65536/\R.length<=65536):=⟨by omega,by omega⟩;have uz:=ha';clear ih hn hs ha hf hT a1 a2 s1 s2 f1 f2 c1 c2 g1 g2 e1 e2 hst ed l1 l2 hL hR hk ha';have Hb:=hbz w;go_enter Tryz.func253,Tryz.ntmps253;go_wp2_with fail;have hkn:k<=n:=by omega
     have hkc:k<=cap:=by omega
     have ae:=Hb.an trivial;refine df 999 ae (cQ 16 0x1f1c160a1b191513110f0d0907050301) ?_;refine bC ?_;refine qOp λK hK=>?_;go_simp;with_reducible refine(C1.out _ (qU ae.1.out) (qU (HT.out.below ae.1.out))).mono ?_
     rintro e w1 ⟨b1,d1,rfl,iZ,hs1,hq⟩;refine mR hK hq ae λae=>?_;clear hK K hq;refine qOp λK hK=>?_;go_simp;with_reducible refine(C2.out _ (qU ae.1.out) (qU (HT.out.below ae.1.out))).mono ?_
     rintro e w2 ⟨b2,d2,rfl,rE,hs2,adD,yf,hq⟩;refine mR hK hq ae λae=>?_;clear hK K hq;refine qOp λK hK=>?_;go_simp;with_reducible refine(aeS b1 L.length d1 L b2 R.length d2 R (B+n) _ rfl rfl hs1 hs2 Kc.out.1 Kc.out.2 (by first|exact iZ.below yf|exact(iZ.below yf).drew) (qU rE) G1.out G2.out zo (qU (HT.out.below ae.1.out))).mono ?_
     rintro e w3 ⟨v',rfl,ho,hq⟩;refine mR hK hq ae λae=>?_;clear hK K hq;refine bC ?_;refine cZ ae λai=>?_;go_wp2;go_ret;exact⟨v',rfl,.inr ⟨h2n,by rw[bK.out];exact rP ho adD⟩,ae.1.out⟩
def CQ (x:Trm):Trm:=(x.1,canon (dval x.2))
def aeO (f:Trm->Trm)(K C:List Trm)(k:Nat)(hk:k<C.length)(hl:C.length=K.length)(ht:C.take k=(K.map f).take k)(hx:C[k]=K[k]'zo):(C.set k (f C[k])).take (k+1)=(K.map f).take (k+1):=by rw[take_set _ _ _ hk,ht,List.take_succ_eq_append_getElem zi,List.getElem_map,hx]
def ZP {K C:List Trm}{k:Nat}(hd:C.drop k=K.drop k)(h1:k<C.length)(h2:k<K.length):C[k]=K[k]:=by
 have e1:C[k]?=K[k]?:=by rw[<-Nat.add_zero k,<-List.getElem?_drop,<-List.getElem?_drop,hd]
 rw[List.getElem?_eq_getElem h1,List.getElem?_eq_getElem h2]at e1;exact Option.some.inj e1
def amY (V:Int)(v:Value)(n:Nat)(ts:List Trm)(B:Nat)(w0 w:World)(hb0:Bw w0 w)(hn:ts.length=n)(hl:n<=4096)(ho:w.ownsRow w0.heap.size 111 4 v n (ts.flatMap aH))(hf:∀t∈ts,Fit B t.2)(hB:B+n+2<=268435456)(hT:aB w0):
 Cl 205 #[af V,v] w λe w'=>∃v',e=.returned (.tuple #[.agg #[af V,v'],af 0])/\w'.ownsRow w0.heap.size 111 4 v' (aS ts).length ((aS ts).flatMap aH)/\Bw w0 w':=by
 obtain⟨a,cap,rfl,hat,_⟩:=cz ho;have hs:=yT ho;have Ml:=Vw ts hf zo;have hsl:=Nw ts;have eg:∀args w,(callFunc 254 args).run Tryz.prog w=.ok (.enter 254 args) w:=enters_of Tryz.func254 zk rfl;obtain⟨S,hS⟩:=az (gz ts);have c1:∀W,Bw w W->Cl 253 #[.slice a n cap,.func (.func 231) #[] #[],.func (.func 232) #[] #[]] W λe w'=>∃v1,e=.returned v1/\w'.ownsRow w0.heap.size 111 4 v1 S.length (S.flatMap aH)/\Bw W w':=by
  intro W hW;refine(av4 n a cap ts B W hn hs zo (hat.below hW) hf hB (hT.below (aC hb0 hW))).mono ?_;rintro e w' ⟨v1,rfl,h1,hb⟩;refine⟨v1,rfl,?_,hb⟩;rcases h1 with⟨h2,rfl⟩ |⟨h2,cV⟩
  . rw[<-hS,Ny ts zo,hn];exact ownsRow_below ho (aC hW hb)
  . rw[<-hS];exact rP cV (by have:=hW.size;have:=hb0.size;omega)
 obtain⟨K,hK⟩:=az (S.filter gw);have LM:K.length<=4096:=by have:=List.length_filter_le gw S;rw[hK]at this;rw[hS]at hsl;omega
 rw[hS]at Ml hsl;have c2:∀W v1,Bw w0 W->W.ownsRow w0.heap.size 111 4 v1 S.length (S.flatMap aH)->Cl 252 #[v1,.func (.func 254) #[] #[]] W λe w'=>∃v2,e=.returned v2/\w'.ownsRow w0.heap.size 111 4 v2 K.length (K.flatMap aH)/\W.grownBy w' v1.ownBlock:=by
  intro W v1 hW cV;have hcl:∀x∈S,∀W,Cv 254 #[.agg #[ah x.1,ag x.2.1,ah x.2.2.1,af x.2.2.2]] W (ag (!gw x)):=λx hx W=>amX x.1 x.2.1 x.2.2.1 x.2.2.2 W (Ml x hx).1;by_cases h0:0<S.length
  . obtain⟨g,c,rfl,_,_,_⟩:=rO cV h0;refine(anJ g S.length c w0.heap.size S _ (λx=>!gw x) W rfl zo h0 cV eg hcl).mono ?_;rintro e w' ⟨k,hk,rfl,fH,hg2⟩;simp only[Bool.not_not]at hk fH;rw[hK]at hk fH;subst hk;exact⟨_,rfl,fH,hg2⟩
  . have oW:S=[]:=List.eq_nil_of_length_eq_zero zo;obtain⟨a1,c,rfl,iZ,_⟩:=cz cV;refine(anK a1 S.length c S _ (λx=>!gw x) W rfl zo iZ eg (λx hx=>by rw[oW]at hx;cases hx) hcl).mono ?_;rintro e w' ⟨rfl,hb⟩;have wh:K=S:=by rw[<-hK,oW];rfl
    rw[wh];exact⟨_,rfl,ownsRow_below cV hb,LA _ hb⟩
 have hKf:∀t∈K,Fit (B+ts.length) t.2:=λt ht=>by rw[<-hK]at ht;exact Ml t (List.mem_filter.1 ht).1
 have hcl:aS ts=K.map CQ:=by unfold aS;rw[hS,hK];rfl
 rw[hcl,List.length_map];have hz:=hb0.size;obtain⟨m,hm⟩:=az K.length;rw[hm]at LM c2⊢;obtain⟨Hm,C1,C2,HKf,PY,HT⟩:=gM hm c1 c2 hKf hb0 hT;clear c1 c2 hm hKf hcl hb0 hT Ml hS hK ho hat hs hf eg hsl;have Hb:=hbz w;go_enter Tryz.func205,Tryz.ntmps205;go_wp2_with fail;refine cX w (Hb.an trivial) 41 [af 0,.slice none 0 0] λW aG ae ai=>?_;go_wp2_with fail;refine(C1.out _ ae.2.1.out).mono ?_;rintro e w1 ⟨v1,rfl,cV,ak⟩;obtain⟨ae,ai⟩:=qX ak ae;have hw1:=aC PY.out ae.2.1.out;go_wp2_with fail;refine(C2.out _ v1 hw1 cV).mono ?_;rintro e w2 ⟨v2,rfl,fH,hg2⟩;have hr2:=ae.1.out.row zd cV hg2;have hw2:=alX (hg2) (Nat.le_trans hz ae.2.1.out.size) (λg e=>cK cV g e);obtain⟨Kt,pS,Hr⟩:=bL (hw1.trans hw2) fH hr2;clear C1 C2 cV hg2 hw1 hw2 hr2 fH;have hKi:¬(4096:Int)<(m:Int):=by omega
 obtain⟨a2,cap2,rfl,_,_⟩:=cz pS.out;go_wp2_with fail;go_loopw[16] (λx wr=>∃(k:Nat) (C:List Trm),k<=m/\x=af (k:Int)/\C.length=m/\C.take k=(K.map CQ).take k/\C.drop k=K.drop k/\wr.ownsRow w0.heap.size 111 4 (.slice a2 m cap2) m (C.flatMap aH)/\ar wr w.heap.size 41 [af 0,.slice none 0 0]/\Bw w0 wr) (λx _=>m-(intOf x).toNat);case atStart=>exact⟨0,K,Nat.zero_le _,rfl,Hm.out,rfl,rfl,pS.out,Hr.out,Kt.out⟩
 case round=>
  clear Hr pS Kt;obtain⟨k,C,hk,rfl,hC,htk,hdr,hov,hr,pb⟩:=hrel;by_cases hlt:k<m
  . obtain⟨g,cc,he,hg1,hg2,hg3⟩:=rO hov zo;simp only[Value.slice.injEq,true_and]at he;obtain⟨rfl,rfl⟩:=he;have wB:k<C.length:=by omega
    have AQ:k<K.length:=by have:=Hm.out;omega
    have hel:=ZP hdr wB AQ;obtain⟨l,s,q,e,hx⟩:∃l s m e,C[k]=(l,s,m,e):=⟨_,_,_,_,rfl⟩;have dz:=HKf.out _ (List.getElem_mem AQ);rw[<-hel,hx]at dz;obtain⟨D,hD⟩:=az (dval (s,q,e));have nC:=aeO CQ K C k wB (by rw[hC,Hm.out]) htk hel;have GF:CQ C[k]=(l,canon D):=by rw[hx,<-hD];rfl
    rw[GF]at nC;have kZ:C[k].1=l:=by rw[hx]
    have hw:=Nk hov k wB hx;have hd2:C.drop (k+1)=K.drop (k+1):=by rw[<-List.drop_drop,<-List.drop_drop,hdr]
    have aU:=gK m cap2 k (k:Int) (rfl:(some ⟨g,0,none⟩:Option Addr)=_) hlt rfl;rw[Nat.zero_add]at aU;have EX:Hid (∀W,aB W->Cv 155 #[.agg #[ag s,ah q,af e]] W (bN D)):=λW Gw=>rB s q e D hD W dz.1 Gw;obtain⟨dv,aP,Fs,vE,HC,Ou,rW⟩:=jx hov pb nC hd2 hC kZ (HT.out.below pb);have Hr:Hid (ar wr w.heap.size 41 [af 0,.slice none 0 0]):=hr;have Hz:Hid (aQ wr g (k*4) [ah l,ag s,ah q,af e]):=hw;clear hov pb nC hd2 hC hr hw htk hdr hel hx dz hD GF kZ AQ;have Hb:=hbz wr;obtain⟨ae,ai⟩:=qZ (Hz.an trivial);have z2:wr.cell? ⟨g,k*4+2,none⟩=some (ah q):=ae.1.out.cell 2 zm;have y2:wr.cell? ⟨g,k*4+1+1,none⟩=some (ah q):=z2;have z3:wr.cell? ⟨g,k*4+3,none⟩=some (af e):=ae.1.out.cell 3 zm;have y3:wr.cell? ⟨g,k*4+1+2,none⟩=some (af e):=z3;go_wp2_with fail;refine aK (Hb.an ae) (EX.out _ rW.out) λw5 ae ai=>?_;have iP:=ownsRow_below dv.out ae.1.out;clear y2 y3;have z2:w5.cell? ⟨g,k*4+2,none⟩=some (ah q):=ae.2.1.out.cell 2 zm;have y2:w5.cell? ⟨g,k*4+1+1,none⟩=some (ah q):=z2;have z3:w5.cell? ⟨g,k*4+3,none⟩=some (af e):=ae.2.1.out.cell 3 zm;have y3:w5.cell? ⟨g,k*4+1+2,none⟩=some (af e):=z3;have xV:=mP iP (k*4+1);have Gh:=mP iP (k*4+1+1);have fz3:=mP iP (k*4+1+2);have hgb:=(xe iP).2;have DV:=Hr.out.below ae.1.out;have dx:=aC aP.out ae.1.out;have Dz:g≠w.heap.size:=λe=>DV.not_row zd iP (by rw[e];rfl);obtain⟨zY,Ct,fL⟩:=bL iP DV dx;clear iP DV dx;go_wp2;refine⟨⟨k+1,C.set k (l,canon D),by omega,by go_num,by rw[List.length_set];exact HC.out,Fs.out,by rw[QT _ _ _ _ zo];exact vE.out,?_,?_,?_⟩,by simp[intOf];omega⟩
    . have h:=afo zY.out k wB (au (dN D)) (nt (dN D).natAbs) (dE D);rw[Ou.out]at h;exact h
    . exact((Ct.out.aA9 _ Dz _).aA9 _ Dz _).aA9 _ Dz _
    . exact((fL.out.setCell zp _).setCell zp _).setCell zp _
  . obtain rfl:k=m:=by omega
    have Gj:C=K.map CQ:=by rw[List.take_of_length_le zo,List.take_of_length_le (by rw[List.length_map];have:=Hm.out;omega)]at htk;exact htk
    rw[Gj]at hov;obtain⟨dv,aP⟩:=aI hov pb;have Hr:Hid (ar wr w.heap.size 41 [af 0,.slice none 0 0]):=hr;clear hov pb hr htk hdr hC Gj;obtain⟨r0,aX,r1,aY⟩:=Hr.out.g2;go_wp2;have hne:=(Hr.out.not_row zd dv.out).symm;have hrs:=Hr.out.lt;refine dG (λw9=>ar w9 w.heap.size 41 [af V,.slice a2 k cap2]/\w9.ownsRow w0.heap.size 111 4 (.slice a2 k cap2) k ((K.map CQ).flatMap aH)/\Bw w0 w9) ⟨(Hr.out.set 0 _).set 1 _,ownsRow_setCell_other (ownsRow_setCell_other dv.out hne _) hne _,(aP.out.setCell hz _).setCell hz _⟩ ?_;rintro w9 ⟨ll,eZ,iu⟩;obtain⟨q0,q1⟩:=ll.c2;exact bodyPost_ret (v:=.tuple #[.agg #[af V,.slice a2 k cap2],af 0]) (by simp[results,Tryz.results205,go_sem,q0,q1]) rfl ⟨_,rfl,eZ,iu⟩
def KY (V:Int)(v:Value)(n:Nat)(ts C:List Trm)(B:Nat)(w0 w:World)(hb0:Bw w0 w)(hn:ts.length=n)(hl:n<=4096)(ho:w.ownsRow w0.heap.size 111 4 v n (ts.flatMap aH))(hf:∀t∈ts,Fit B t.2)(hB:B+n+2<=268435456)(hT:aB w0)(hC:aS ts=C):
 Cl 205 #[af V,v] w λe w'=>∃a c,e=.returned (.tuple #[.agg #[af V,.slice a C.length c],af 0])/\w'.ownsRow w0.heap.size 111 4 (.slice a C.length c) C.length (C.flatMap aH)/\Bw w0 w':=by
 subst hC;refine(amY V v n ts B w0 w hb0 hn hl ho hf hB hT).mono ?_;rintro e w' ⟨v',rfl,h1,h2⟩;obtain⟨a,c,rfl,_,_⟩:=cz h1;exact⟨a,c,rfl,h1,h2⟩
def auc {w W:World}{b base k:Nat}{v x0 x1:Value}{xs:List Value}(hr:ar W b 41 [x0,x1])(ho:W.ownsRow base 111 4 v k xs)(hb:Bw w W)(hbs:w.heap.size<=b)(y0 y1:Value):
 ar ((W.setCell ⟨b,0,none⟩ y0).setCell ⟨b,1,none⟩ y1) b 41 [y0,y1]/\((W.setCell ⟨b,0,none⟩ y0).setCell ⟨b,1,none⟩ y1).ownsRow base 111 4 v k xs/\Bw w ((W.setCell ⟨b,0,none⟩ y0).setCell ⟨b,1,none⟩ y1):=by
 have hne:=(hr.not_row zd ho).symm;exact⟨(hr.set 0 _).set 1 _,ownsRow_setCell_other (ownsRow_setCell_other ho hne _) hne _,(hb.setCell hbs _).setCell hbs _⟩
def CP {P:Program}{fn:Func}{R:Ending->World->Prop}{e:Exit}{a:Act}{w W:World}{b base k:Nat}{v x0 x1 y0 y1:Value}{xs:List Value}(hr:ar W b 41 [x0,x1])(ho:W.ownsRow base 111 4 v k xs)(hb:Bw w W)(hbs:w.heap.size<=b)
 (h:∀W',ar W' b 41 [y0,y1]->W'.ownsRow base 111 4 v k xs->Bw w W'->bodyPost P fn R e a W'):bodyPost P fn R e a ((W.setCell ⟨b,0,none⟩ y0).setCell ⟨b,1,none⟩ y1):=by
 obtain⟨h1,h2,h3⟩:=auc hr ho hb hbs y0 y1;exact h _ h1 h2 h3
end Go.Proofs.YtpfgffadgkkedaaGreatDoor
namespace Go.Proofs.YtpfgffadgkkedaaGreatDoor
open Go.RowKit
def alx {P:Program}(t tx ty:TypeId)(e e':TypeId)(ht:P.underlying t=some (.slice e))(hx:P.underlying tx=some (.slice e'))(u v:Value)(w:World):(Builtin.append_ #[t,tx] ty #[u,v]).run P w=(Builtin.append_ #[t,t] ty #[u,v]).run P w:=by unfold Builtin.append_;cases u<;>simp[Sem.run_bind,run_underlying ht,run_underlying hx]
def axK {P:Program}{w:World}{o:Oper}{a:Act}{K:Act->World->Prop}{Q:Exit->Act->World->Prop}(s x:Operand)(t tx:TypeId)(e':TypeId)(htx:P.underlying tx=some (.slice e'))
 (ho:o.op=.call {callee:=.builtin .append,args:=#[s,x],argTypes:=#[t,tx]})
 (base:Nat) (e:TypeId) (i:TypeInfo) (z:Value) (size bytes:Nat) (ht:P.underlying t=Option.some (.slice e)) (hi:P.info? e=Option.some i) (hz:i.zero=Option.some z)
 (hsize:i.size=size) (hby:i.bytes=bytes) (hzs:z.cells.size=size) (hsz:0<size)
 (v:Value) (n:Nat) (xs:List Value) (hs:a.eval s=v) (hown:w.ownsRow base e size v n xs)
 (aa:Option Addr) (m c:Nat) (news:List Value) (hx:a.eval x=.slice aa m c) (hsl:Sl aa m c) (hl:news.length=m*size) (hat:At w aa news) (h1:∀u∈news,u.oneCell'=true)
 (h63:n+m<=maxLen) (hbytes:(n+m) *bytes<=140737488355328) (hbase:base<=w.heap.size)
 (h:∀v' w',w'.ownsRow base e size v' (n+m) (xs++news)->w.grownBy w' v.ownBlock->(v'.ownBlock=v.ownBlock\/v'.ownBlock=Option.some w.heap.size)->K (a.put o.dst v') w'):o.wp P a w K Q:=by
 have key:∃v' w',(Builtin.append_ #[t,tx] o.type #[v,.slice aa m c]).run P w=.ok v' w'/\w'.ownsRow base e size v' (n+m) (xs++news)/\w.grownBy w' v.ownBlock/\(v'.ownBlock=v.ownBlock\/v'.ownBlock=Option.some w.heap.size):=by
  rw[alx t tx o.type e e' ht htx];cases aa with
  | none=>
    have hc:=hsl.2 rfl;have hm:m=0:=by have:=hsl.1;omega
    subst hc;subst hm;have hn:news=[]:=List.eq_nil_of_length_eq_zero (by simpa using hl);subst hn;exact⟨v,w,run_append_owned_none (P:=P) (w:=w) base t o.type e i size ht hi v n xs hown,by simpa using hown,World.grownBy.refl _ _,.inl rfl⟩
  | some ad=>
    obtain⟨v',w',hr,h2,h3,_,h5⟩:=run_append_own_at (P:=P) w base t o.type e i z size bytes ht hi hz hsize hby hzs hsz v n xs hown ad m c news hl (by
     intro j u hj;rcases hat with h0|⟨b,o',ZU,hc⟩
     . subst h0;simp at hj
     . simp only[Option.some.injEq]at ZU;subst ZU;have hjl:=(List.getElem?_eq_some_iff.1 hj).1;have e2:((⟨b,o',none⟩:Addr).add j)=⟨b,o'+j,none⟩:=by unfold Addr.add;cases j<;>simp
       rw[e2,hc j hjl];exact hj) h1 h63 hbytes hbase
    exact⟨v',w',hr,h2,h3,h5⟩
 obtain⟨v',w',hr,h2,h3,h5⟩:=key;unfold Oper.wp execOp;simp only[ho,resolve,invoke,builtin,Sem.run_bind,Sem.run_pure,Result.andThen_ok,List.map_toArray,List.map_cons,List.map_nil,hs,hx,hr];exact h v' w' h2 h3 h5
end Go.Proofs.YtpfgffadgkkedaaGreatDoor
