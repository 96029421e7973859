/- An own row cut short,cleared behind;an own row as a whole block. -/
import Derived.Test.YtpfgffadgkkedaaGreatDoorZ11
import Derived.Laws.CopyRow
import Derived.Laws.AppendOwnNone
import Derived.Deep.DeepAppendRoom
import Derived.Test.YtpfgffadgkkedaaGreatDoorZ7
import Derived.Test.YtpfgffadgkkedaaGreatDoorZ13
import Derived.Test.YtpfgffadgkkedaaGreatDoorZ12
set_option linter.all false
set_option maxRecDepth 100000
set_option maxHeartbeats 16000000
namespace Go.Proofs.YtpfgffadgkkedaaGreatDoor
open Go.RowKit
def Ni {w:World}{base:Nat}{e:TypeId}{size n cap g:Nat}{xs:List Value}(h:w.ownsRow base e size (.slice (some ⟨g,0,none⟩) n cap) n xs)(i:Nat)(hi:i<=n):
 w.ownsRow base e size (.slice (some ⟨g,0,none⟩) i cap) i (xs.take (i*size)):=by
 have uZ:i*size<=n*size:=Nat.mul_le_mul_right _ hi;refine⟨by rw[List.length_take,h.1];omega,?_⟩;rcases h.2 with⟨h1,_⟩ |⟨g',cap',cur,h1,hb,hg,h4,h5,h6,hx⟩
 . simp at h1
 . simp only[Value.slice.injEq,Option.some.injEq,Addr.mk.injEq,and_true,true_and]at h1;obtain⟨rfl,rfl⟩:=h1;refine .inr ⟨g,cap,cur,rfl,hb,hg,by omega,h5,h6,?_⟩;rw[<-hx,List.take_take,Nat.min_eq_left uZ]
def ui {w:World}{base:Nat}{e:TypeId}{size n:Nat}{v:Value}{xs:List Value}(h:w.ownsRow base e size v n xs)(hn:0<n):∃g cap,v=.slice (some ⟨g,0,none⟩) n cap/\base<=g/\g<w.heap.size/\n<=cap:=by
 rcases h.2 with⟨_,h1⟩ |⟨g,cap,cur,h1,hb,hg,h4,_⟩
 . omega
 . exact⟨g,cap,h1,hb,(Array.getElem?_eq_some_iff.1 hg).1,h4⟩
def atb {w:World}{base:Nat}{e:TypeId}{size n cap g:Nat}{xs:List Value}(h:w.ownsRow base e size (.slice (some ⟨g,0,none⟩) n cap) n xs)(o:Nat)(vs:List Value)(ho:n*size<=o)(cur:Array Value)(Dp:w.heap[g]?=some (.cells cur e (0,0)))(hl:o+vs.length<=cur.size):
 (w.setRow g (cur.toList.take o++vs++cur.toList.drop (o+vs.length)).toArray).ownsRow base e size (.slice (some ⟨g,0,none⟩) n cap) n xs/\w.grownBy (w.setRow g (cur.toList.take o++vs++cur.toList.drop (o+vs.length)).toArray) (some g):=by
 have hh:=setRow_heap w g cur (cur.toList.take o++vs++cur.toList.drop (o+vs.length)).toArray e (0,0) Dp;constructor
 . refine⟨h.1,?_⟩;rcases h.2 with⟨h1,_⟩ |⟨g',cap',cur',h1,hb,hg,h4,h5,h6,hx⟩
   . simp at h1
   . simp only[Value.slice.injEq,Option.some.injEq,Addr.mk.injEq,and_true,true_and]at h1;obtain⟨rfl,rfl⟩:=h1;rw[Dp]at hg;simp only[Option.some.injEq,Obj.cells.injEq,and_true]at hg;subst hg;refine .inr ⟨g,cap,_,rfl,hb,hh,h4,h5,?_,?_⟩
     . rw[<-h6];have hcl:cur.toList.length=cur.size:=Array.length_toList;simp only[List.size_toArray,List.length_append,List.length_take,List.length_drop,hcl];omega
     . rw[<-hx];have hcl:cur.toList.length=cur.size:=Array.length_toList;simp only[List.append_assoc];rw[List.take_append_of_le_length (by rw[List.length_take,hcl];omega),List.take_take,Nat.min_eq_left ho]
 . refine⟨rfl,rfl,rfl,by simp[World.setRow],λk hk hne=>?_⟩;unfold World.setRow;simp only[Array.getElem?_modify];rw[if_neg (λe=>hne (by rw[e]))]
def afm {P:Program}(w:World)(t e:TypeId)(z:Value)(size:Nat)(ht:P.underlying t=some (.slice e))(hv:∀w,(zeroValue e).run P w=.ok z w)(hz:z.cells.size=size)(h1:∀v∈z.cells.toList,v.oneCell'=true)(g n m cap c:Nat)(base:Nat)(xs:List Value)
 (h:w.ownsRow base e size (.slice (some ⟨g,0,none⟩) n cap) n xs) (hm:n+m<=cap):
 ∃w',(∀ty,(Builtin.clear_ #[t] ty #[.slice (some ⟨g,n*size,none⟩) m c]).run P w=.ok (.tuple #[]) w')/\w'.ownsRow base e size (.slice (some ⟨g,0,none⟩) n cap) n xs/\w.grownBy w' (some g):=by
 rcases h.2 with⟨h2,_⟩ |⟨g',cap',cur,h2,hb,hg,h4,h5,h6,hx⟩
 . simp at h2
 simp only[Value.slice.injEq,Option.some.injEq,Addr.mk.injEq,and_true,true_and]at h2;obtain⟨rfl,rfl⟩:=h2;by_cases hm0:m=0
 . subst hm0;refine⟨w,λty=>?_,h,World.grownBy.refl _ _⟩;simp[Builtin.clear_,run_underlying ht]
 . obtain⟨vs,hvs⟩:=au ((Builtin.zeroCells z.cells m).toList);have hvl:vs.length=m*size:=by rw[<-hvs,Array.length_toList,size_zeroCells,hz]
   have hvo:∀v∈vs,v.oneCell'=true:=by
    intro v hv2;rw[<-hvs]at hv2;unfold Builtin.zeroCells at hv2;simp only[Array.toList_map,Array.toList_range,List.mem_map,List.mem_range]at hv2;obtain⟨i,hi,rfl⟩:=hv2;have hs:0<z.cells.size:=by
     rcases Nat.eq_zero_or_pos z.cells.size with h0|h0
     . rw[h0]at hi;simp at hi
     . exact h0
    have:=Nat.mod_lt i hs;rw[getElem!_pos z.cells (i%z.cells.size) this];exact h1 _ zm
   have hle:n*size+0+vs.length<=cur.size:=by rw[hvl,h6];have:=Nat.mul_le_mul_right size hm;rw[Nat.add_mul]at this;omega
   have hst:=run_storeCells_at (P:=P) g (n*size) e vs 0 cur w hg hle hvo;obtain⟨k1,k2⟩:=atb h (n*size) vs (Nat.le_refl _) cur hg zo;refine⟨_,λty=>?_,k1,k2⟩;obtain⟨m',rfl⟩:∃m',m=m'+1:=⟨m-1,by omega⟩;simp[Builtin.clear_,run_underlying ht,hv,hvs,hst]
def Sl (a:Option Addr)(n cap:Nat):Prop:=n<=cap/\(a=none->cap=0)
def Sl.nil :Sl none 0 0:=⟨Nat.le_refl _,λ_=>rfl⟩
def Sl.some (x:Addr)(n cap:Nat)(h:n<=cap):Sl (some x) n cap:=⟨h,λe=>by cases e⟩
def yV {w:World}{base:Nat}{e:TypeId}{size n k cap:Nat}{a:Option Addr}{xs:List Value}(h:w.ownsRow base e size (.slice a k cap) n xs):Sl a k cap:=by
 rcases h.2 with⟨h1,_⟩ |⟨g,cap',cur,h1,hb,hg,h4,_⟩
 . simp only[Value.slice.injEq]at h1;obtain⟨rfl,rfl,rfl⟩:=h1;exact Sl.nil
 . simp only[Value.slice.injEq]at h1;obtain⟨rfl,rfl,rfl⟩:=h1;exact Sl.some _ _ _ h4
def VX {P:Program}{w:World}{ops:Array Oper}{rest:List Oper}{o:Oper}{a:Act}{Q:Exit->Act->World->Prop}(hgd:o.guard=none)(s x:Operand)(t:TypeId)
 (ho:o.op=.call {callee:=.builtin .append,args:=#[s,x],argTypes:=#[t,t]})
 (base:Nat) (e:TypeId) (i:TypeInfo) (z:Value) (size bytes:Nat) (ht:P.underlying t=Option.some (.slice e)) (hi:P.info? e=Option.some i) (hz:i.zero=Option.some z)
 (hsize:i.size=size) (hby:i.bytes=bytes) (hzs:z.cells.size=size) (hsz:0<size)
 (v:Value) (n:Nat) (xs:List Value) (hs:a.eval s=v) (hown:w.ownsRow base e size v n xs)
 (aa:Option Addr) (m c:Nat) (news:List Value) (hx:a.eval x=.slice aa m c) (hsl:aa=none->m=0/\c=0) (hl:news.length=m*size) (hat:At w aa news) (h1:∀u∈news,u.oneCell'=true)
 (h63:n+m<=maxLen) (hbytes:(n+m) *bytes<=140737488355328) (hbase:base<=w.heap.size)
 (h:∀v' w',w'.ownsRow base e size v' (n+m) (xs++news)->w.grownBy w' v.ownBlock->(v'.ownBlock=v.ownBlock\/v'.ownBlock=Option.some w.heap.size)->wpList P ops Q rest (a.put o.dst v') w'):
 wpList P ops Q (o::rest) a w:=by
 cases aa with
 |none=>obtain⟨hm,hc⟩:=hsl rfl;subst hc;subst hm;have hn:news=[]:=List.eq_nil_of_length_eq_zero (by simpa using hl);subst hn;refine wpList_append_own_none hgd s x t ho base e i size ht hi v n xs hs hown hx ?_;exact h v w (by simpa using hown) (World.grownBy.refl _ _) (.inl rfl)
 | some ad=>
   refine wpList_append_own_at w hgd s x t ho base e i z size bytes ht hi hz hsize hby hzs hsz v n xs hs hown ad m c news hx hl ?_ h1 h63 hbytes hbase (λv' w' h2 h3 _ h5=>h v' w' h2 h3 h5);intro j u hj;rcases hat with h0|⟨b,o',e',hc⟩
   . subst h0;simp at hj
   . simp only[Option.some.injEq]at e';subst e';have hjl:=(List.getElem?_eq_some_iff.1 hj).1;have e2:((⟨b,o',none⟩:Addr).add j)=⟨b,o'+j,none⟩:=by unfold Addr.add;cases j<;>simp
     rw[e2,hc j hjl];exact hj
def uo {P:Program}{w:World}{ops:Array Oper}{rest:List Oper}{o:Oper}{a:Act}{Q:Exit->Act->World->Prop}(hgd:o.guard=none)(s x:Operand)(t:TypeId)
 (ho:o.op=.call {callee:=.builtin .append,args:=#[s,x],argTypes:=#[t,t]})
 (base:Nat) (e:TypeId) (i:TypeInfo) (z:Value) (size bytes:Nat) (ht:P.underlying t=Option.some (.slice e)) (hi:P.info? e=Option.some i) (hz:i.zero=Option.some z)
 (hsize:i.size=size) (hby:i.bytes=bytes) (hzs:z.cells.size=size) (hsz:0<size)
 (v:Value) (n:Nat) (xs:List Value) (hs:a.eval s=v) (hown:w.ownsRow base e size v n xs)
 (aa:Option Addr) (m c:Nat) (news:List Value) (hx:a.eval x=.slice aa m c) (hsl:Sl aa m c) (hl:news.length=m*size) (hat:At w aa news) (h1:∀u∈news,u.oneCell'=true)
 (h63:n+m<=maxLen) (hbytes:(n+m) *bytes<=140737488355328) (hbase:base<=w.heap.size)
 (h:∀v' w',w'.ownsRow base e size v' (n+m) (xs++news)->w.grownBy w' v.ownBlock->(v'.ownBlock=v.ownBlock\/v'.ownBlock=Option.some w.heap.size)->wpList P ops Q rest (a.put o.dst v') w'):
 wpList P ops Q (o::rest) a w:=
 VX hgd s x t ho base e i z size bytes ht hi hz hsize hby hzs hsz v n xs hs hown aa m c news hx (λe=>⟨by have h1:=hsl.1;have h2:=hsl.2 e;omega,hsl.2 e⟩) hl hat h1 h63 hbytes hbase h
def At.cut {w:World}{a:Option Addr}{xs:List Value}{k cap size n:Nat}(h:At w a xs)(hl:xs.length=n*size)(hk:k<=n)(hc:n<=cap):At w (if cap=k then a else a.map (·.add (k*size))) (xs.drop (k*size)):=by
 rcases h with h0|⟨b,o,rfl,hcs⟩
 . subst h0;simp;exact .inl rfl
 . by_cases e:cap=k
   . have:xs.drop (k*size)=[]:=List.drop_of_length_le (by rw[hl];exact Nat.mul_le_mul_right _ zo);rw[this];exact .inl rfl
   . rw[if_neg e];have e2:((⟨b,o,none⟩:Addr).add (k*size))=⟨b,o+k*size,none⟩:=by unfold Addr.add;split<;>simp_all
     refine .inr ⟨b,o+k*size,by rw[Option.map_some,e2],λj hj=>?_⟩;rw[List.length_drop]at hj;rw[Nat.add_assoc,hcs _ zo,List.getElem?_drop]
def Sl.cut {a:Option Addr}{k cap size n:Nat}(h:Sl a n cap)(hk:k<=n):Sl (if cap=k then a else a.map (·.add (k*size))) (n-k) (cap-k):=by
 refine⟨by have:=h.1;omega,λe=>?_⟩;by_cases e1:cap=k
 . omega
 . rw[if_neg e1]at e
   have:=h.2 (by cases a with
    |none=>rfl
    |some x=>simp at e)
   omega
def Pc (w:World)(v:Value)(dz:List Raw):Prop:=∃a cap,v=.slice a dz.length cap/\At w a (dz.flatMap aV)/\Sl a dz.length cap
def Pc.below {w w':World}{v:Value}{dz:List Raw}(h:Pc w v dz)(hb:Bw w w'):Pc w' v dz:=by obtain⟨a,cap,hv,ha,hs⟩:=h;exact⟨a,cap,hv,ha.below hb,hs⟩
def vY (w:World)(a:Option Addr)(rows:List (List Raw)):Prop:=∃vals:List Value,vals.length=rows.length/\At w a vals/\∀i (h:i<rows.length) (h':i<vals.length),Pc w vals[i] rows[i]
def vY.below {w w':World}{a:Option Addr}{rows:List (List Raw)}(h:vY w a rows)(hb:Bw w w'):vY w' a rows:=by obtain⟨vals,hl,ha,hp⟩:=h;exact⟨vals,hl,ha.below hb,λi h1 h2=>(hp i h1 h2).below hb⟩
def vY.tbl {w:World}{a:Option Addr}{rows:List (List Raw)}(h:vY w a rows):Tbl w a rows:=by obtain⟨vals,hl,ha,hp⟩:=h;refine⟨vals,hl,ha,λi h1 h2=>?_⟩;obtain⟨a',c',e1,e2,_⟩:=hp i h1 h2;exact⟨a',c',e1,e2⟩
def vY.row {w:World}{a:Option Addr}{rows:List (List Raw)}(h:vY w a rows)(k:Nat)(hk:k<rows.length):
 ∃b o a' cap',a=some ⟨b,o,none⟩/\w.cell? ⟨b,o+k,none⟩=some (.slice a' rows[k].length cap')/\At w a' (rows[k].flatMap aV)/\Sl a' rows[k].length cap':=by
 obtain⟨vals,hl,ha,hp⟩:=h;have hk2:k<vals.length:=by rw[hl];exact hk
 obtain⟨b,o,hab,hcs⟩:=ha.get (by intro h0;rw[h0]at hk2;simp at hk2);obtain⟨a',cap',hv,hat,hs⟩:=hp k hk hk2;exact⟨b,o,a',cap',hab,by rw[hcs k hk2,List.getElem?_eq_getElem hk2,hv],hat,hs⟩
def Ef (dz:List Raw):∀u∈dz.flatMap aV,u.oneCell'=true:=by intro u hu;obtain⟨r,_,hr⟩:=List.mem_flatMap.1 hu;simp only[aV,List.mem_cons,List.not_mem_nil,or_false]at hr;rcases hr with rfl|rfl|rfl<;>rfl
def spC (s:Raw×Raw):List Value:=aV s.1++aV s.2
def At.spn {W:World}{a:Option Addr}{bx:List (Raw×Raw)}(h:At W a (bx.flatMap spC))(k:Nat)(hk:k<bx.length){s t:Bool}{m n:List UInt8}{e f:Int}(hx:bx[k]=((s,m,e),(t,n,f))):
 ∃b o,a=some ⟨b,o,none⟩/\aQ W b (o+k*6) [ag s,ah m,af e,ag t,ah n,af f]:=by
 obtain⟨b,o,ha,hc⟩:=h.elem (f:=spC) (sz:=6) (λ_=>rfl) zd k hk;rw[hx]at hc;refine⟨b,o,ha,λj hj=>?_⟩;have GW:j<6:=hj;rw[hc j GW];exact List.getElem?_eq_getElem hj
abbrev zn (p:Pr):Value:=.agg #[ag (az (dN p.1)),ah (nt (dN p.1).natAbs),af (dE p.1),ag (az (dN p.2)),ah (nt (dN p.2).natAbs),af (dE p.2)]
def Vw (bx:List (Raw×Raw)):(bx.flatMap spC).length=bx.length*6:=iD spC 6 (λ_=>rfl) bx
def afA (bx:List (Raw×Raw)):∀u∈bx.flatMap spC,u.oneCell'=true:=by
 intro u hu;obtain⟨s,_,hs⟩:=List.mem_flatMap.1 hu;rcases List.mem_append.1 hs with h|h
 . exact Ef [s.1] u (by simpa using h)
 . exact Ef [s.2] u (by simpa using h)
def jM (A:Dyadic->Dyadic->Bool)(xs:List Raw):Nat->Raw
 |0=>(false,[],0)
 |k+1=>if k=0\/A (dval (xs.getD k (false,[],0))) (dval (jM A xs k))=true then xs.getD k (false,[],0)else jM A xs k
def aol (A:Dyadic->Dyadic->Bool)(xs:List Raw)(Q:Raw->Prop)(h0:Q (false,[],0))(h:∀x∈xs,Q x)(k:Nat):Q (jM A xs k):=by
 have hg:∀k,Q (xs.getD k (false,[],0)):=λk=>by
  by_cases hk:k<xs.length
  . have e:xs.getD k (false,[],0)=xs[k]:=by simp[hk]
    rw[e];exact h _ (List.getElem_mem hk)
  . have e:xs.getD k (false,[],0)=(false,[],0):=by simp[List.getD_eq_getElem?_getD,List.getElem?_eq_none (by omega:xs.length<=k)]
    rw[e];exact h0
 induction k with
 |zero=>exact h0
 | succ k ih=>
   unfold jM;split
   . exact hg k
   . exact ih
def Ok.zero :Ok (false,[],0):=⟨by decide,by decide,by decide⟩
end Go.Proofs.YtpfgffadgkkedaaGreatDoor
namespace Go.Proofs.YtpfgffadgkkedaaGreatDoor
open Go.RowKit
attribute [local go_sem ↓] Go.wp_at_zero Go.wp_at_succ
def aag (gf:Nat)(A:Dyadic->Dyadic->Bool)(xs:List Raw)(a:Option Addr)(n cap:Nat)(w:World)(hn:xs.length=n)(hl:n<=1048576)(h:∀x∈xs,Ok x)(ha:At w a (xs.flatMap aV))(hT:aB w)
 (eg:∀args w,(callFunc gf args).run Tryz.prog w=.ok (.enter gf args) w)
 (hcl:∀(s:Bool) (l:List UInt8) (e:Int) (t:Bool) (m:List UInt8) (f:Int),Ok (s,l,e)->Ok (t,m,f)->∀W,aB W->Cl gf #[.agg #[ag s,ah l,af e],.agg #[ag t,ah m,af f]] W λe' w'=>e'=.returned (ag (A (dval (s,l,e)) (dval (t,m,f))))/\Bw W w'):
 Cv 313 #[.slice a n cap,.func (.func gf) #[] #[]] w (bT (dval (jM A xs n))):=by
 obtain⟨X,hX⟩:=au (dval (jM A xs n));rw[hX];have hok:=aol A xs Ok Ok.zero h;have hget:∀k,k<xs.length->∃s m e,xs[k]?=some (s,m,e)/\xs.getD k (false,[],0)=(s,m,e)/\Ok (s,m,e):=λk hk=>⟨xs[k].1,xs[k].2.1,xs[k].2.2,by simp[hk],by simp[hk],h _ (List.getElem_mem hk)⟩;obtain⟨kP,Cm,Ha,HT,lL,fV,Hn,HXn⟩:=nk hok hget ha hT eg hcl hn hX;clear hok hget ha hT eg hcl hn h hX;obtain⟨W,cd,ae,ai⟩:=kF w 45 [ag false,.string ⟨#[]⟩,af 0] 45 [ag false,.string ⟨#[]⟩,af 0];go_enter Tryz.func313,Tryz.ntmps313;have xQ:=ae.2.1;have Ho0:=ae.2.2.1;have lr:=ae.2.1.out.lt;have lo:=ae.2.2.1.out.lt;go_wp2_with fail;skip
 go_loopw[10] (λx wr=>∃k:Nat,k<=n/\x=af (k:Int)/\ar wr w.heap.size 45 [ag false,.string ⟨#[]⟩,af 0]/\ar wr (w.heap.size+1) 45 (aV (jM A xs k))/\Bw w wr) (λx _=>n-(intOf x).toNat);case atStart=>exact⟨0,Nat.zero_le _,rfl,ae.2.1.out,ae.2.2.1.out,ae.1.out⟩
 case round=>
  clear xQ Ho0;obtain⟨k,hk,rfl,pr,po,pb⟩:=hrel;obtain⟨⟨t,m',f⟩,hF⟩:∃F,jM A xs k=F:=⟨_,rfl⟩;have Ir:=kP.out k;rw[hF]at po Ir;by_cases hlt:k<n
  . have ez:k<xs.length:=by rw[Hn.out];exact hlt
    obtain⟨s,m,e,hx1,hx2,hox⟩:=Cm.out k ez;obtain⟨b,o,hab,q0,q1,q2⟩:=(Ha.out.below pb).num k ez (List.getElem?_eq_some_iff.1 hx1).2;have aX:=ud n cap k (k:Int) hab hlt rfl;have hst:jM A xs (k+1)=if k=0\/A (dval (s,m,e)) (dval (t,m',f))=true then(s,m,e)else(t,m',f):=by
     show(if k=0\/A (dval (xs.getD k (false,[],0))) (dval (jM A xs k))=true then xs.getD k (false,[],0)else jM A xs k)=_
     rw[hx2,hF]
    obtain⟨c,hc⟩:=au (A (dval (s,m,e)) (dval (t,m',f)));have hcall:=fV.out s m e t m' f hox Ir;rw[hc]at hcall hst;obtain⟨kO,bN⟩:=aH hcall hst;have lb:b<w.heap.size:=by subst hab;exact Ha.out.lt (by intro h0;have h9:=congrArg List.length h0;rw[iD aV 3 (λ_=>rfl),List.length_nil]at h9;omega)
    have Hp:Hid (aQ wr b (o+k*3) [ag s,ah m,af e]):=iI q0 q1 q2;have Hr:=aj pr;have Ho:Hid (ar wr (w.heap.size+1) 45 [ag t,ah m',af f]):=po;have Hb:=aj pb;have pG:=lL.out;clear pr po pb q0 q1 q2 hcall hst hc hx1 hx2 hox hF hab Ir;obtain⟨ae,ai⟩:=qZ (Hr.an<|Ho.an<|Hp.an trivial);have lr2:=ae.1.out.lt;have xb:=ae.2.1.out.lt;have p1:wr.cell? ⟨b,o+k*3+1,none⟩=some (ah m):=ae.2.2.1.out.cell 1 zm;have p0:wr.cell? ⟨b,o+k*3,none⟩=some (ag s):=ae.2.2.1.out.cell 0 zm;have p2:wr.cell? ⟨b,o+k*3+2,none⟩=some (af e):=ae.2.2.1.out.cell 2 zm;have P0:=p0;have P1:=p1;have P2:=p2;obtain⟨W4,kg,aG,ae,ai⟩:=bO wr (Hb.an ae) 45 [ag s,ah m,af e];by_cases fG:k=0
    . have hk1:((k:Int)==0)=true:=by subst fG;rfl
      have zO:=aj fG;clear fG;skip
      have mO:Hid (jM A xs (k+1)=(s,m,e)):=by show _=_;rw[bN.out,if_pos (.inl zO.out)]
      go_wp2;go_roundw;case rel=>exact⟨k+1,by omega,by go_num,(((ae.2.2.1.out.so (w.heap.size+1) 0 zo _).so (w.heap.size+1) 1 zo _).so (w.heap.size+1) 2 zo _),by rw[mO.out];exact((ae.2.2.2.1.out.set 0 _).set 1 _).set 2 _,(((ae.2.1.out.sc (w.heap.size+1) 0 zo _).sc (w.heap.size+1) 1 zo _).sc (w.heap.size+1) 2 zo _)⟩
      case measure=>exact bi
    . have hk1:((k:Int)==0)=false:=by simpa using fG
      have zO:Hid (¬k=0):=fG;clear fG;go_wp2_with fail;refine aK ae (kO.out _ (HT.out.below ae.2.1.out)) λw5 ae ai=>?_;cases c with
      | true=>
        skip
        have mO:Hid (jM A xs (k+1)=(s,m,e)):=by show _=_;rw[bN.out,if_pos (.inr rfl)]
        go_wp2;go_roundw;case rel=>exact⟨k+1,by omega,by go_num,(((ae.2.2.1.out.so (w.heap.size+1) 0 zo _).so (w.heap.size+1) 1 zo _).so (w.heap.size+1) 2 zo _),by rw[mO.out];exact((ae.2.2.2.1.out.set 0 _).set 1 _).set 2 _,(((ae.2.1.out.sc (w.heap.size+1) 0 zo _).sc (w.heap.size+1) 1 zo _).sc (w.heap.size+1) 2 zo _)⟩
        case measure=>exact bi
      | false=>
        have mO:Hid (jM A xs (k+1)=(t,m',f)):=by
         show _=_
         rw[bN.out,if_neg];intro h;rcases h with h|h
         . exact zO.out h
         . cases h
        skip
        go_wp2;go_roundw;case rel=>exact⟨k+1,by omega,by go_num,ae.2.2.1.out,by rw[mO.out];exact ae.2.2.2.1.out,ae.2.1.out⟩
        case measure=>exact bi
  . obtain rfl:k=n:=by omega
    have hX:=HXn.out;rw[hF]at hX;have Hr:=aj pr;have Ho:Hid (ar wr (w.heap.size+1) 45 [ag t,ah m',af f]):=po;obtain⟨Hb,HX,HoF⟩:=bM pb hX Ir;clear pr po pb hF hX Ir;obtain⟨ae,ai⟩:=qZ (Hr.an<|Ho.an trivial);go_wp2_with fail;refine aK (Hb.an ae) (rE t m' f X HX.out _ HoF.out (HT.out.below Hb.out)) λw5 ae ai=>?_;go_wp2;refine dI (aN w5 (w.heap.size) 0 (bE X)) aR ?_;intro w9 hs0;have ae:=bC hs0 ae;simp only[bD,List.set]at ae;have ai:=qC ae;refine bodyPost_ret (v:=bT X) (by simp[results,Tryz.results313,go_sem,ai]) rfl ⟨rfl,ae.1.out⟩
def wY (a b:Dyadic):Bool:=decide (bg (a-b)<0)
def xj (a b:Dyadic):Bool:=decide (0<bg (a-b))
def QZ (a b:Dyadic):bg (a-b)<0↔0<bg (b-a):=by rw[pQ,Lu];grind
def aq6 (x y:Raw):dval (jM wY [x,y] 2)=(eK (dval x,dval y)).1:=by
 have e:jM wY [x,y] 2=if wY (dval y) (dval x)=true then y else x:=by
  show(if(1:Nat)=0\/wY (dval y) (dval x)=true then y else x)=_
  simp
 rw[e];unfold wY eK;by_cases h:bg (dval y-dval x)<0
 . rw[if_pos (by simpa using h),if_pos ((QZ _ _).1 h)]
 . rw[if_neg (by simpa using h),if_neg (λh2=>h ((QZ _ _).2 h2))]
def ar4 (x y:Raw):dval (jM xj [x,y] 2)=(eK (dval x,dval y)).2:=by
 have e:jM xj [x,y] 2=if xj (dval y) (dval x)=true then y else x:=by
  show(if(1:Nat)=0\/xj (dval y) (dval x)=true then y else x)=_
  simp
 rw[e];unfold xj eK;by_cases h:0<bg (dval y-dval x)
 . rw[if_pos (by simpa using h),if_neg (λh2=>by have:=(QZ (dval y) (dval x)).2 h2;omega)]
 . rw[if_neg (by simpa using h)];by_cases h2:0<bg (dval x-dval y)
   . rw[if_pos h2]
   . rw[if_neg h2];rw[Lu]at h h2;show dval x=dval y
     grind
def arV (s:Bool)(l:List UInt8)(e:Int)(t:Bool)(m:List UInt8)(f:Int)(w:World)(hx:Ok (s,l,e))(hy:Ok (t,m,f))(hT:aB w):
 Cl 314 #[.agg #[ag s,ah l,af e],.agg #[ag t,ah m,af f]] w λe' w'=>e'=.returned (ag (wY (dval (s,l,e)) (dval (t,m,f))))/\Bw w w':=by
 obtain⟨c,hc⟩:=au (bg (dval (s,l,e)-dval (t,m,f)));obtain⟨Gx,Gy,Hc,HT⟩:=cG hx hy hc hT;unfold wY;rw[hc];clear hx hy hc hT;obtain⟨W,cd,ae,ai⟩:=kF w 45 [ag s,ah l,af e] 45 [ag t,ah m,af f];go_enter Tryz.func314,Tryz.ntmps314;go_wp2_with fail;refine aK ae (Al s l e t m f c Hc.out _ Gx.out Gy.out (HT.out.below ae.1.out)) λw1 ae ai=>?_;go_wp2;refine bodyPost_ret (results_tmp rfl _ _ _) rfl ⟨rfl,ae.1.out⟩
def arQ (s:Bool)(l:List UInt8)(e:Int)(t:Bool)(m:List UInt8)(f:Int)(w:World)(hx:Ok (s,l,e))(hy:Ok (t,m,f))(hT:aB w):
 Cl 315 #[.agg #[ag s,ah l,af e],.agg #[ag t,ah m,af f]] w λe' w'=>e'=.returned (ag (xj (dval (s,l,e)) (dval (t,m,f))))/\Bw w w':=by
 obtain⟨c,hc⟩:=au (bg (dval (s,l,e)-dval (t,m,f)));obtain⟨Gx,Gy,Hc,HT⟩:=cG hx hy hc hT;unfold xj;rw[hc];clear hx hy hc hT;obtain⟨W,cd,ae,ai⟩:=kF w 45 [ag s,ah l,af e] 45 [ag t,ah m,af f];go_enter Tryz.func315,Tryz.ntmps315;go_wp2_with fail;refine aK ae (Al s l e t m f c Hc.out _ Gx.out Gy.out (HT.out.below ae.1.out)) λw1 ae ai=>?_;go_wp2;refine bodyPost_ret (results_tmp rfl _ _ _) rfl ⟨rfl,ae.1.out⟩
def amE (xs:List Raw)(X:Dyadic)(a:Option Addr)(n cap:Nat)(w:World)(hn:xs.length=n)(hl:n<=1048576)(h:∀x∈xs,Ok x)(ha:At w a (xs.flatMap aV))(hT:aB w)(hX:dval (jM wY xs n)=X):
 Cv 296 #[.slice a n cap] w (bT X):=by
 have hf:=λW (hW:Bw w W)=>aag 314 wY xs a n cap W hn hl h (ha.below hW) (hT.below hW) (enters_of Tryz.func314 zk rfl) (λs l e t m f h1 h2 W hW=>arV s l e t m f W h1 h2 hW);rw[hX]at hf;have Hf:=aj hf;clear hf ha h hT hn hX;obtain⟨W,cd,ae,ai⟩:=fJ w 45 [ag false,.string ⟨#[]⟩,af 0];go_enter Tryz.func296,Tryz.ntmps296;go_wp2_with fail;refine aK ae (Hf.out _ ae.1.out) λw1 ae ai=>?_;go_wp2;refine dI (aN w1 (w.heap.size) 0 (bE X)) aR ?_;intro w9 hs0;have ae:=bC hs0 ae;simp only[bD,List.set]at ae;have ai:=qC ae;refine bodyPost_ret (v:=bT X) (by simp[results,Tryz.results296,go_sem,ai]) rfl ⟨rfl,ae.1.out⟩
def amD (xs:List Raw)(X:Dyadic)(a:Option Addr)(n cap:Nat)(w:World)(hn:xs.length=n)(hl:n<=1048576)(h:∀x∈xs,Ok x)(ha:At w a (xs.flatMap aV))(hT:aB w)(hX:dval (jM xj xs n)=X):
 Cv 297 #[.slice a n cap] w (bT X):=by
 have hf:=λW (hW:Bw w W)=>aag 315 xj xs a n cap W hn hl h (ha.below hW) (hT.below hW) (enters_of Tryz.func315 zk rfl) (λs l e t m f h1 h2 W hW=>arQ s l e t m f W h1 h2 hW);rw[hX]at hf;have Hf:=aj hf;clear hf ha h hT hn hX;obtain⟨W,cd,ae,ai⟩:=fJ w 45 [ag false,.string ⟨#[]⟩,af 0];go_enter Tryz.func297,Tryz.ntmps297;go_wp2_with fail;refine aK ae (Hf.out _ ae.1.out) λw1 ae ai=>?_;go_wp2;refine dI (aN w1 (w.heap.size) 0 (bE X)) aR ?_;intro w9 hs0;have ae:=bC hs0 ae;simp only[bD,List.set]at ae;have ai:=qC ae;refine bodyPost_ret (v:=bT X) (by simp[results,Tryz.results297,go_sem,ai]) rfl ⟨rfl,ae.1.out⟩
def au9 (s:Bool)(l:List UInt8)(e:Int)(t:Bool)(m:List UInt8)(f:Int)(p:Pr)(hp:eK (dval (s,l,e),dval (t,m,f))=p)(b cap:Nat)(ty:TypeId)(w:World)(hx:Ok (s,l,e))(hy:Ok (t,m,f))
 (ha:ar w b ty [ag s,ah l,af e,ag t,ah m,af f]) (hT:aB w):
 Cv 274 #[.slice (some ⟨b,0,none⟩) 2 cap] w (zn p):=by
 obtain⟨p1,p2⟩:=p;have hok:∀x∈[(s,l,e),(t,m,f)],Ok x:=by intro x h;simp at h;rcases h with rfl|rfl;exact hx;exact hy
 have hat:At w (some ⟨b,0,none⟩) ([(s,l,e),(t,m,f)].flatMap aV):=At.azW ha;have h1:=λW (hW:Bw w W)=>amE [(s,l,e),(t,m,f)] p1 (some ⟨b,0,none⟩) 2 cap W rfl zo hok (hat.below hW) (hT.below hW) (by rw[aq6,hp]);have h2:=λW (hW:Bw w W)=>amD [(s,l,e),(t,m,f)] p2 (some ⟨b,0,none⟩) 2 cap W rfl zo hok (hat.below hW) (hT.below hW) (by rw[ar4,hp]);obtain⟨H1,H2⟩:=aH h1 h2;clear h1 h2 hok hat ha hT hx hy hp;obtain⟨W,cd,ae,ai⟩:=fJ w 88 [ag false,.string ⟨#[]⟩,af 0,ag false,.string ⟨#[]⟩,af 0];go_enter Tryz.func274,Tryz.ntmps274;go_wp2_with fail;refine aK ae (H1.out _ ae.1.out) λw1 ae ai=>?_;go_wp2_with fail;refine aK ae (H2.out _ ae.1.out) λw2 ae ai=>?_;go_wp2;refine dI (aN w2 (w.heap.size) 0 [ag (az (dN p1)),ah (nt (dN p1).natAbs),af (dE p1),ag (az (dN p2)),ah (nt (dN p2).natAbs),af (dE p2)]) aR ?_;intro w9 hs0;have ae:=bC hs0 ae;simp only[bD,List.set]at ae;have ai:=qC ae;refine bodyPost_ret (v:=zn (p1,p2)) (by simp[results,Tryz.results274,go_sem,ai]) rfl ⟨rfl,ae.1.out⟩
def Vz (s:Bool)(l:List UInt8)(e:Int)(t:Bool)(m:List UInt8)(f:Int)(p:Pr)(hp:eK (dval (s,l,e),dval (t,m,f))=p)(w:World)(hx:Ok (s,l,e))(hy:Ok (t,m,f))(hT:aB w):
 Cv 234 #[.agg #[ag s,ah l,af e,ag t,ah m,af f]] w (zn p):=by
 obtain⟨Hp,Gx,Gy,HT⟩:=cG hp hx hy hT;clear hp hx hy hT;obtain⟨p1,p2⟩:=p;obtain⟨W,cd,ae,ai⟩:=kF w 88 [ag s,ah l,af e,ag t,ah m,af f] 243 [ag false,.string ⟨#[]⟩,af 0,ag false,.string ⟨#[]⟩,af 0];go_enter Tryz.func234,Tryz.ntmps234;have x3:W.cell? ⟨w.heap.size,3,none⟩=some (ag t):=ae.2.1.out.cell 3;have x0:W.cell? ⟨w.heap.size,0,none⟩=some (ag s):=ae.2.1.out.cell 0;have x4:W.cell? ⟨w.heap.size,4,none⟩=some (ah m):=ae.2.1.out.cell 4;have x5:W.cell? ⟨w.heap.size,5,none⟩=some (af f):=ae.2.1.out.cell 5;have x1:W.cell? ⟨w.heap.size,1,none⟩=some (ah l):=ae.2.1.out.cell 1;have x2:W.cell? ⟨w.heap.size,2,none⟩=some (af e):=ae.2.1.out.cell 2;have K0:=x0;have K1:=x1;have K2:=x2;have K3:=x3;have K4:=x4;have K5:=x5;obtain⟨W2,ke,aG,ae,ai⟩:=bO W ae 45 [ag s,ah l,af e,ag t,ah m,af f];go_wp2_with fail;refine aK ae (au9 s l e t m f (p1,p2) Hp.out W.heap.size 2 45 _ Gx.out Gy.out ae.1.out (HT.out.below ae.2.1.out)) λw3 ae ai=>?_;go_wp2;refine dI (aN w3 (w.heap.size+1) 0 [ag (az (dN p1)),ah (nt (dN p1).natAbs),af (dE p1),ag (az (dN p2)),ah (nt (dN p2).natAbs),af (dE p2)]) aR ?_;intro w9 hs0;have ae:=bC hs0 ae;simp only[bD,List.set]at ae;have ai:=qC ae;refine bodyPost_ret (v:=zn (p1,p2)) (by simp[results,Tryz.results234,go_sem,ai]) rfl ⟨rfl,ae.2.1.out⟩
def au6 (s:Bool)(l:List UInt8)(e:Int)(t:Bool)(m:List UInt8)(f:Int)(p:Pr)(hp:eK (dval (s,l,e),dval (t,m,f))=p)(w:World)(hx:Ok (s,l,e))(hy:Ok (t,m,f))(hT:aB w):
 Cv 233 #[.agg #[ag s,ah l,af e,ag t,ah m,af f]] w (zn p):=by
 obtain⟨Hp,Gx,Gy,HT⟩:=cG hp hx hy hT;clear hp hx hy hT;obtain⟨p1,p2⟩:=p;obtain⟨W,cd,ae,ai⟩:=kF w 88 [ag s,ah l,af e,ag t,ah m,af f] 88 [ag false,.string ⟨#[]⟩,af 0,ag false,.string ⟨#[]⟩,af 0];go_enter Tryz.func233,Tryz.ntmps233;have hfd:∀W,(Instr.field 243 (zn (p1,p2)) 0).run Tryz.prog W=.ok (zn (p1,p2)) W:=λW=>by kernel_rfl
 go_wp2_with fail;refine aK ae (Vz s l e t m f (p1,p2) Hp.out _ Gx.out Gy.out (HT.out.below ae.1.out)) λw3 ae ai=>?_;go_wp2;refine dI (aN w3 (w.heap.size+1) 0 [ag (az (dN p1)),ah (nt (dN p1).natAbs),af (dE p1),ag (az (dN p2)),ah (nt (dN p2).natAbs),af (dE p2)]) aR ?_;intro w9 hs0;have ae:=bC hs0 ae;simp only[bD,List.set]at ae;have ai:=qC ae;refine bodyPost_ret (v:=zn (p1,p2)) (by simp[results,Tryz.results233,go_sem,ai]) rfl ⟨rfl,ae.1.out⟩
def Vy (s:Bool)(l:List UInt8)(e:Int)(t:Bool)(m:List UInt8)(f:Int)(B:Nat)(D:Dyadic)(hD:un (dval (s,l,e),dval (t,m,f))=D)(w:World)(hx:Fit B (s,l,e))(hy:Fit B (t,m,f))(hB:B<=100000000)(hT:aB w):
 Cv 165 #[.agg #[ag s,ah l,af e,ag t,ah m,af f]] w (bT D):=by
 obtain⟨⟨p1,p2⟩,hp⟩:∃p,eK (dval (s,l,e),dval (t,m,f))=p:=⟨_,rfl⟩;have hs:=qK (p:=(dval (s,l,e),dval (t,m,f))) ⟨hx.2,hy.2⟩;unfold un at hD;rw[hp]at hD hs;have yx:Fit B (dx p1):=hs.1.fit zo;have hf2:Fit B (dx p2):=hs.2.fit zo;have hS:dval (dx p2)-dval (dx p1)=D:=by
  show dval (canon p2)-dval (canon p1)=D
  rw[bu,bu];exact hD
 obtain⟨Hp,Gx,Gy,HT,H1,H2,HS⟩:=iX hp hx.1 hy.1 hT yx hf2 hS;clear hp hx hy hT hs hD yx hf2 hS;obtain⟨W,cd,ae,ai⟩:=kF w 88 [ag s,ah l,af e,ag t,ah m,af f] 45 [ag false,.string ⟨#[]⟩,af 0];go_enter Tryz.func165,Tryz.ntmps165;go_wp2_with fail;refine aK ae (Vz s l e t m f (p1,p2) Hp.out _ Gx.out Gy.out (HT.out.below ae.1.out)) λw3 ae ai=>?_;obtain⟨W4,kg,aG,ae,ai⟩:=bO w3 ae 243 [ag (az (dN p1)),ah (nt (dN p1).natAbs),af (dE p1),ag (az (dN p2)),ah (nt (dN p2).natAbs),af (dE p2)];go_wp2_with fail;refine aK ae (Ao _ _ _ _ _ _ D B HS.out _ H2.out H1.out zo (HT.out.below ae.2.1.out)) λw5 ae ai=>?_;go_wp2;refine dI (aN w5 (w.heap.size+1) 0 (bE D)) aR ?_;intro w9 hs0;have ae:=bC hs0 ae;simp only[bD,List.set]at ae;have ai:=qC ae;refine bodyPost_ret (v:=bT D) (by simp[results,Tryz.results165,go_sem,ai]) rfl ⟨rfl,ae.2.1.out⟩
def au8 (s:Bool)(l:List UInt8)(e:Int)(t:Bool)(m:List UInt8)(f:Int)(B:Nat)(X:Dyadic)(hX:jA (dval (s,l,e),dval (t,m,f))=X)(w:World)(hx:Fit B (s,l,e))(hy:Fit B (t,m,f))(hB:B<=100000000)(hT:aB w):
 Cv 181 #[.agg #[ag s,ah l,af e,ag t,ah m,af f]] w (bT X):=by
 obtain⟨D,hD⟩:=au (dval (s,l,e)+dval (t,m,f));have hDo:Ok (dx D):=by rw[<-hD];exact((Sm.add hx.2 hy.2).fit zo).1
 have GD:dval (az (dN D),nt (dN D).natAbs,dE D+ -1)=X:=by rw[<-hX];unfold jA;rw[hD];exact Nt D 1
 obtain⟨HD,HX,Gx,Gy,HT,Cc⟩:=fZ hD GD hx hy hT hDo;clear hD hX GD hx hy hT hDo;obtain⟨W,cd,ae,ai⟩:=kF w 88 [ag s,ah l,af e,ag t,ah m,af f] 45 [ag false,.string ⟨#[]⟩,af 0];go_enter Tryz.func181,Tryz.ntmps181;have x3:W.cell? ⟨w.heap.size,3,none⟩=some (ag t):=ae.2.1.out.cell 3;have x0:W.cell? ⟨w.heap.size,0,none⟩=some (ag s):=ae.2.1.out.cell 0;have x4:W.cell? ⟨w.heap.size,4,none⟩=some (ah m):=ae.2.1.out.cell 4;have x5:W.cell? ⟨w.heap.size,5,none⟩=some (af f):=ae.2.1.out.cell 5;have x1:W.cell? ⟨w.heap.size,1,none⟩=some (ah l):=ae.2.1.out.cell 1;have x2:W.cell? ⟨w.heap.size,2,none⟩=some (af e):=ae.2.1.out.cell 2;have K0:=x0;have K1:=x1;have K2:=x2;have K3:=x3;have K4:=x4;have K5:=x5;obtain⟨W2,ke,aG,ae,ai⟩:=bO W ae 45 [ag s,ah l,af e,ag t,ah m,af f];go_wp2_with fail;refine aK ae (yb s l e t m f D B HD.out W.heap.size 2 45 _ Gx.out Gy.out zo ae.1.out (HT.out.below ae.2.1.out)) λw3 ae ai=>?_;go_wp2_with fail;refine aK ae (Ns _ _ _ (-1) X HX.out _ Cc.out zd (HT.out.below ae.2.1.out)) λw4 ae ai=>?_;go_wp2;refine dI (aN w4 (w.heap.size+1) 0 (bE X)) aR ?_;intro w9 hs0;have ae:=bC hs0 ae;simp only[bD,List.set]at ae;have ai:=qC ae;refine bodyPost_ret (v:=bT X) (by simp[results,Tryz.results181,go_sem,ai]) rfl ⟨rfl,ae.2.1.out⟩
def alU {bx:List Pr}{k:Nat}(hk:k<bx.length)(h:0<=bg ((bx.getD k (0,0)).1-(bx.getD k (0,0)).2)):iL bx=5:=by
 unfold iL;have hn:bx≠[]:=by intro e;rw[e]at hk;simp at hk
 rw[if_neg hn,if_pos];rw[List.any_eq_true];exact⟨bx[k],List.getElem_mem hk,by simp[hk]at h;simpa using h⟩
def alW {bx:List Pr}(h:∀k,k<bx.length->¬0<=bg ((bx.getD k (0,0)).1-(bx.getD k (0,0)).2)):iL bx=if bx.length=0 then 1 else 0:=by
 unfold iL;by_cases hn:bx=[]
 . rw[if_pos hn,if_pos (by rw[hn];rfl)]
 . rw[if_neg hn,if_neg (λe=>hn (List.length_eq_zero_iff.1 e)),if_neg];rw[List.any_eq_true];rintro⟨p,hp,h2⟩;obtain⟨k,hk,rfl⟩:=List.mem_iff_getElem.1 hp;have:=h k hk;simp[hk]at this;simp at h2;omega
def QJ {bx:List Pr}(h:iL bx=0):bx≠[]/\∀p∈bx,bg (p.1-p.2)<0:=by
 unfold iL at h;by_cases hn:bx=[]
 . rw[if_pos hn]at h;cases h
 . refine⟨hn,λp hp=>?_⟩;rw[if_neg hn]at h;split at h
   . cases h
   . rename_i h2
     have:=List.any_eq_false.1 (Bool.not_eq_true _▸h2) p hp;simp at this;omega
def kJ (B:Nat)(bx:List (Raw×Raw)):Prop:=∀s∈bx,Fit B s.1/\Fit B s.2
def Vx {bx:List (Raw×Raw)}{k:Nat}(hk:k<bx.length):(bx.map aY).getD k (0,0)=(dval bx[k].1,dval bx[k].2):=by simp[hk,aY]
def alc (a:Option Addr)(L cap B:Nat)(bx:List (Raw×Raw))(w:World)(hL:bx.length=L)(hl:L<=1048576)(hf:kJ B bx)(ha:At w a (bx.flatMap spC))(hT:aB w):
 Cv 113 #[.slice a L cap] w (af (iL (bx.map aY))):=by
 obtain⟨R,hR⟩:=au (iL (bx.map aY));have hno:∀k (h:k<bx.length),0<=bg (dval bx[k].1-dval bx[k].2)->R=5:=λk hk h=>by rw[<-hR];exact alU (k:=k) (by simpa using hk) (by rw[Vx hk];exact h)
 have qH:(∀k (h:k<bx.length),bg (dval bx[k].1-dval bx[k].2)<0)->R=if L=0 then 1 else 0:=λh=>by rw[<-hR,alW (λk hk=>by rw[Vx (by simpa using hk)];have:=h k (by simpa using hk);dsimp only;omega),List.length_map,hL]
 rw[hR];obtain⟨nQ,Ae,Ha,HT,HL,Hf⟩:=fZ hno qH ha hT hL hf;clear hno qH ha hT hL hf hR;have Hb:=hbz w;go_enter Tryz.func113,Tryz.ntmps113;go_wp2_with fail;go_loopw[7] (λx wr=>∃k:Nat,k<=L/\x=af (k:Int)/\(∀j (h:j<bx.length),j<k->bg (dval bx[j].1-dval bx[j].2)<0)/\Bw w wr) (λx _=>L-(intOf x).toNat);case atStart=>exact⟨0,Nat.zero_le _,rfl,λj _ h=>absurd h (Nat.not_lt_zero _),Hb.out⟩
 case round=>
  clear Hb;obtain⟨k,hk,rfl,hall,pb⟩:=hrel;by_cases hlt:k<L
  . have ez:k<bx.length:=by rw[HL.out];exact hlt
    obtain⟨s,m,e,t,n,f,hx⟩:∃s m e t n f,bx[k]=((s,m,e),(t,n,f)):=⟨_,_,_,_,_,_,rfl⟩;obtain⟨b,o,hab,hp⟩:=(Ha.out.below pb).spn k ez hx;have aX:=vh L cap k (k:Int) hab hlt rfl;have mo:=Hf.out _ (List.getElem_mem ez);rw[hx]at mo;obtain⟨c,hc⟩:=au (bg (dval (s,m,e)-dval (t,n,f)));have cN:bg (dval bx[k].1-dval bx[k].2)=c:=by rw[hx];exact hc
    obtain⟨Hp,Hc,fQ,H1,H2,fP,Hb⟩:=iX hp hc cN mo.1.1 mo.2.1 hall pb;clear hp hc cN mo hall pb hab hx;obtain⟨ae,ai⟩:=qZ (Hp.an trivial);obtain⟨W4,kg,aG,ae,ai⟩:=bO wr (Hb.an ae) 88 [ag s,ah m,af e,ag t,ah n,af f];go_wp2_with fail;refine aK ae (Al s m e t n f c Hc.out _ H1.out H2.out (HT.out.below ae.2.1.out)) λw5 ae ai=>?_;skip
    by_cases hc0:0<=c
    . obtain rfl:=nQ.out k ez (by rw[fQ.out];exact hc0);go_wp2;refine bodyPost_ret (results_tmp rfl _ _ _) rfl ⟨rfl,ae.2.1.out⟩
    . go_wp2;go_roundw;case rel=>
       refine⟨k+1,by omega,by go_num,λj h hj=>?_,ae.2.1.out⟩;by_cases hjk:j=k
       . subst hjk;rw[fQ.out];omega
       . exact fP.out j h zo
      case measure=>exact bi
  . obtain rfl:k=L:=by omega
    have hR:=Ae.out (λj h=>hall j h (by rw[<-HL.out];exact h));have Hb:=aj pb;clear pb hall;by_cases h0:k=0
    . subst h0;rw[if_pos rfl]at hR;subst hR;go_wp2;refine bodyPost_ret (results_tmp rfl _ _ _) rfl ⟨rfl,Hb.out⟩
    . rw[if_neg h0]at hR;subst hR;have h1:((k:Int)==0)=false:=by simpa using h0
      go_wp2;refine bodyPost_ret (results_tmp rfl _ _ _) rfl ⟨rfl,Hb.out⟩
def Tryz.az5 :(Tryz.prog.info? 88).map (λi=>(i.zero,i.size,i.bytes))=some (some (.agg #[ag false,.string (bs []),af 0,ag false,.string (bs []),af 0]),6,64):=by kernel_rfl
def jm (s:Raw×Raw):Raw×Raw:=kG (eK (aY s))
def au5 (bx:List (Raw×Raw))(k:Nat)(hk:k<bx.length):((bx.map jm).take (k+1)).flatMap spC=((bx.map jm).take k).flatMap spC++spC (jm bx[k]):=by rw[List.take_succ_eq_append_getElem (by simpa using hk),List.flatMap_append];simp
def QE (a:Option Addr)(L cap B:Nat)(bx:List (Raw×Raw))(w:World)(hL:bx.length=L)(hl:L<=1000)(hf:kJ B bx)(ha:At w a (bx.flatMap spC))(hT:aB w):
 Cl 161 #[.slice a L cap] w λe w'=>∃a' c',e=.returned (.slice a' L c')/\At w' a' ((bx.map jm).flatMap spC)/\Bw w w':=by
 obtain⟨i0,hi,hz0,hz1,hz2⟩:=info_parts Tryz.az5;obtain⟨Hi,cu,bV,bX,Ha,HT,HL,Hf⟩:=nk hi hz0 hz1 hz2 ha hT hL hf;clear hi hz0 hz1 hz2 ha hT hL hf;have Hb:=hbz w;go_enter Tryz.func161,Tryz.ntmps161;go_wp2_with fail;go_loopw[3,8] (λs3 x wr=>∃(k:Nat) (v:Value),k<=L/\x=af (k:Int)/\v=s3/\wr.ownsRow w.heap.size 88 6 v k (((bx.map jm).take k).flatMap spC)/\Bw w wr) (λ_ x _=>L-(intOf x).toNat);case atStart=>exact⟨0,_,Nat.zero_le _,rfl,rfl,World.ownsRow_nil _ _ _ _,Hb.out⟩
 case round=>
  clear Hb;obtain⟨k,v,hk,rfl,rfl,pv,pb⟩:=hrel;by_cases hlt:k<L
  . have ez:k<bx.length:=by rw[HL.out];exact hlt
    obtain⟨s,m,e,t,n,f,hx⟩:∃s m e t n f,bx[k]=((s,m,e),(t,n,f)):=⟨_,_,_,_,_,_,rfl⟩;obtain⟨b,o,hab,hp⟩:=(Ha.out.below pb).spn k ez hx;have aX:=vh L cap k (k:Int) hab hlt rfl;have mo:=Hf.out _ (List.getElem_mem ez);rw[hx]at mo;obtain⟨⟨y1,y2⟩,hq⟩:∃p,eK (dval (s,m,e),dval (t,n,f))=p:=⟨_,rfl⟩;have hst:=au5 bx k ez;rw[hx,show jm ((s,m,e),(t,n,f))=(canon y1,canon y2)from by unfold jm aY;rw[hq];rfl]at hst;have tZ:((bx.map jm).take (k+1)).flatMap spC=((bx.map jm).take k).flatMap spC++[ag (az (dN y1)),ah (nt (dN y1).natAbs),af (dE y1),ag (az (dN y2)),ah (nt (dN y2).natAbs),af (dE y2)]:=hst;obtain⟨Hp,Hq,H1,H2,jC,ij,bN⟩:=iX hp hq mo.1.1 mo.2.1 pb pv tZ;have sz0:=pb.size;clear hp hq mo pb hab hx hst tZ pv;have Hb:=hbz wr;obtain⟨ae,ai⟩:=qZ (Hp.an trivial);obtain⟨W4,kg,aG,ae,ai⟩:=bO wr (Hb.an ae) 88 [ag s,ah m,af e,ag t,ah n,af f];go_wp2_with fail;refine aK ae (au6 s m e t n f (y1,y2) Hq.out _ H1.out H2.out (HT.out.below (aF jC.out ae.2.1.out))) λw5 ae ai=>?_;obtain⟨W6,pW,aG,ae,ai⟩:=bO w5 ae 88 [ag (az (dN y1)),ah (nt (dN y1).natAbs),af (dE y1),ag (az (dN y2)),ah (nt (dN y2).natAbs),af (dE y2)];have cf:=ownsRow_below ij.out ae.2.2.1.out;have jS:=ae.2.2.1.out.size;have hnews:=fM ae.1.out;skip
    go_wp2_with (at_builtin;refine wpList_append_own_at _ rfl _ _ 23 rfl w.heap.size 88 i0 _ 6 64 Tryz.underlying23 Hi.out cu.out bV.out bX.out rfl zd v k (((bx.map jm).take k).flatMap spC) rfl cf ⟨w5.heap.size,0,none⟩ 1 1 [ag (az (dN y1)),ah (nt (dN y1).natAbs),af (dE y1),ag (az (dN y2)),ah (nt (dN y2).natAbs),af (dE y2)] rfl rfl hnews zy zx zo zo ?_;intro v' w7 dA eo _ _;obtain⟨g',oL,rfl⟩:=ownsRow_succ dA);go_roundw;case rel=>
     refine⟨k+1,_,by omega,by go_num,rfl,?_,?_⟩
     . rw[bN.out];exact dA
     . exact(aF jC.out ae.2.2.1.out).grown eo zo (λj e=>cE cf j e)
    case measure=>exact bi
  . obtain rfl:k=L:=by omega
    rw[List.take_of_length_le (by rw[List.length_map,HL.out];exact Nat.le_refl _)]at pv;obtain⟨a2,c2,rfl,hat,_⟩:=cw pv;obtain⟨Hb,dV⟩:=aH pb hat;clear pb pv hat;go_wp2;refine bodyPost_ret (results_tmp rfl _ _ _) rfl ⟨a2,c2,rfl,dV.out,Hb.out⟩
def ar0 (c:Int)(n:Nat)(hc:c=n)(h:n<=1048576)(w:World):
 (Instr.makeSlice 23 (af c) (af c)).run Tryz.prog w=.ok (.slice (some ⟨w.heap.size,0,none⟩) n n) (w.alloc (.cells (madeCells (Value.agg #[ag false,.string (bs []),af 0,ag false,.string (bs []),af 0]).cells (n*6)) 88)):=by
 subst hc;obtain⟨i0,hi,hz0,hz1,hz2⟩:=info_parts Tryz.az5;rw[run_make (P:=Tryz.prog) w 23 88 i0 _ Tryz.underlying23 hi hz0 .i64 .i64 n n zo zo (by rw[hz2];omega) zo];simp only[Int.toNat_natCast,hz1]
def aml (w:World)(L:Nat)(ad:Addr)(cap:Nat)(bx:List (Raw×Raw))(cur:Array Value)(Dp:cur.size=L*6)(hL:bx.length=L)(hat:At w (some ad) (bx.flatMap spC))(ty:TypeId):
 (Builtin.copy_ #[23,23] ty #[.slice (some ⟨w.heap.size,0,none⟩) L L,.slice (some ad) L cap]).run Tryz.prog (w.alloc (.cells cur 88))=
  .ok (af (L:Int)) (w.alloc (.cells (bx.flatMap spC).toArray 88)):=by
 obtain⟨i0,hi,hz0,hz1,hz2⟩:=info_parts Tryz.az5;obtain⟨cs,hcs⟩:=au (bx.flatMap spC);have hlen:cs.length=L*6:=by rw[<-hcs,Vw,hL]
 rw[hcs]at hat⊢;have hsrc:∀j v,cs[j]?=some v->(w.alloc (.cells cur 88)).cell? (ad.add j)=some v:=λj v hj=>by
  rcases hat with h0|⟨b,o,e',hc⟩
  . subst h0;simp at hj
  . simp only[Option.some.injEq]at e';subst e';have hjl:=(List.getElem?_eq_some_iff.1 hj).1;have e2:((⟨b,o,none⟩:Addr).add j)=⟨b,o+j,none⟩:=by unfold Addr.add;cases j<;>simp
    rw[e2];exact aM (by rw[hc j hjl];exact hj)
 have hl:=run_loadCells_list (P:=Tryz.prog) (w.alloc (.cells cur 88)) ad cs hsrc;have hst:=run_storeCells_at (P:=Tryz.prog) w.heap.size 0 88 cs 0 cur _ (heap_alloc_new w _) zo (by rw[<-hcs];exact afA bx);have e:(List.take (0+0) cur.toList++cs++List.drop (0+0+cs.length) cur.toList)=cs:=by rw[List.drop_eq_nil_of_le zi];simp
 rw[e,World.setRow_alloc_new]at hst;rw[hlen]at hl;have hmin:Nat.min L L=L:=Nat.min_self L;simp[Builtin.copy_,run_underlying Tryz.underlying23,Builtin.lenOf,Builtin.firstCells,sizeOf,typeInfo,hi,hz1,hmin,hl,hst,goInt]
def au4 (bx:List (Raw×Raw))(i:Nat)(s t:Bool)(m n:List UInt8)(e f:Int):((((((bx.flatMap spC).set (i*6) (ag s)).set (i*6+1) (ah m)).set (i*6+2) (af e)).set (i*6+3) (ag t)).set (i*6+4) (ah n)).set (i*6+5) (af f)=(bx.set i ((s,m,e),(t,n,f))).flatMap spC:=by
 induction bx generalizing i with
 |nil=>simp
 | cons x bx ih=>
   obtain⟨⟨s',m',e'⟩,t',n',f'⟩:=x;have h:∀(y:Raw×Raw) zs,(y::zs).flatMap spC=ag y.1.1::ah y.1.2.1::af y.1.2.2::ag y.2.1::ah y.2.2.1::af y.2.2.2::zs.flatMap spC:=λy zs=>rfl;cases i with
   |zero=>rw[h];rfl
   |succ i=>rw[List.set_cons_succ,h,h,<-ih i,show(i+1) *6=i*6+1+1+1+1+1+1 by omega];rfl
def CQ {w:World}{b:Nat}{t:TypeId}{cs:List Value}(h:ar w b t cs)(j:Nat)(hj:j<cs.length):w.cell? ⟨b,j,none⟩=some cs[j]/\w.frozen? ⟨b,j,none⟩=false:=⟨by rw[h.cell];exact List.getElem?_eq_getElem hj,h.free j⟩
def YS (ad:Addr)(L cap:Nat)(bx:List (Raw×Raw))(i:Nat)(s:Bool)(l:List UInt8)(e:Int)(t:Bool)(m:List UInt8)(f:Int)(w:World)(hL:bx.length=L)(hl:L<=1000)(hi:i<L)(ha:At w (some ad) (bx.flatMap spC))(base:Nat)(hbase:base<=w.heap.size):
 Cl 182 #[.slice (some ad) L cap,af (i:Int),.agg #[ag s,ah l,af e,ag t,ah m,af f]] w λe' w'=>∃g,e'=.returned (.slice (some ⟨g,0,none⟩) L L)/\base<=g/\ar w' g 88 ((bx.set i ((s,l,e),(t,m,f))).flatMap spC)/\Bw w w':=by
 have hmk:=ar0 (L:Int) L rfl zo;have AJ:∀(W:World) (hW:Bw w W) (ty:TypeId),(Builtin.copy_ #[23,23] ty #[.slice (some ⟨W.heap.size,0,none⟩) L L,.slice (some ad) L cap]).run Tryz.prog (W.alloc (.cells (madeCells #[ag false,.string (bs []),af 0,ag false,.string (bs []),af 0] (L*6)) 88))=.ok (af (L:Int)) (W.alloc (.cells (bx.flatMap spC).toArray 88)):=
  λW hW ty=>aml W L ad cap bx _ (size_madeCells _ _) hL (ha.below hW) ty
 have mZ:=au4 bx i s t l m e f;have hlen:=Vw bx;rw[hL]at hlen;obtain⟨cs,hcs⟩:=au (bx.flatMap spC);rw[hcs]at mZ hlen;simp only[hcs]at AJ;obtain⟨Ou,Fv⟩:=aH AJ mZ;clear AJ mZ hcs ha hL;obtain⟨W,cd,ae,ai⟩:=fJ w 88 [ag s,ah l,af e,ag t,ah m,af f];go_enter Tryz.func182,Tryz.ntmps182;have hcw:=Ou.out W ae.1.out;have dM:=ae.1.out;have aX:=vh L L i (i:Int) (rfl:(some ⟨W.heap.size,0,none⟩:Option Addr)=_) hi rfl;rw[Nat.zero_add]at aX;go_upto_region 2 with fail
 go_cut[7] (λs7 wx=>s7=.slice (some ⟨W.heap.size,0,none⟩) L L/\ar wx W.heap.size 88 cs/\ar wx w.heap.size 88 [ag s,ah l,af e,ag t,ah m,af f]/\Bw w wx);case first=>go_wp2_with fail;go_meet;exact⟨rfl,ar.new W _ cs,ae.2.1.out.alloc _,ae.1.out.alloc (by have:=ae.1.out.size;omega) _⟩
 case rest=>
  obtain⟨rfl,hv,hx,hb⟩:=hcut;have hsz:=ae.2.1.out.lt;obtain⟨Hv,Hx,Hb⟩:=bM hv hx hb;obtain⟨v,hvv⟩:=au W.heap.size;have MP:=hb.size;have DU:w.heap.size<=v:=by have:=dM.size;omega
  rw[hvv]at Hv aX⊢;clear hv hx hb hmk hcw;have l0:i*6+5<cs.length:=by omega
  obtain⟨ae,ai⟩:=qZ (Hx.an trivial);obtain⟨v0,k0⟩:=CQ Hv.out (i*6) zo;obtain⟨v1,k1⟩:=CQ Hv.out (i*6+1) zo;obtain⟨v2,k2⟩:=CQ Hv.out (i*6+2) zo;obtain⟨v3,k3⟩:=CQ Hv.out (i*6+3) zo;obtain⟨v4,k4⟩:=CQ Hv.out (i*6+4) zo;obtain⟨v5,k5⟩:=CQ Hv.out (i*6+5) zo;go_wp2;refine dI (λw9=>ar w9 v 88 ((((((cs.set (i*6) (ag s)).set (i*6+1) (ah l)).set (i*6+2) (af e)).set (i*6+3) (ag t)).set (i*6+4) (ah m)).set (i*6+5) (af f))/\Bw w w9) ⟨((((((Hv.out.set (i*6) _).set (i*6+1) _).set (i*6+2) _).set (i*6+3) _).set (i*6+4) _).set (i*6+5) _),((((((Hb.out.sc v (i*6) DU _).sc v (i*6+1) DU _).sc v (i*6+2) DU _).sc v (i*6+3) DU _).sc v (i*6+4) DU _).sc v (i*6+5) DU _)⟩ ?_;rintro w9 ⟨jz,ml⟩;rw[Fv.out]at jz;refine bodyPost_ret (results_tmp rfl _ _ _) rfl ⟨v,rfl,by omega,jz,ml⟩
def IZ (n m:Nat)(a a':Option Addr)(cap cap':Nat)(x y:Bool)(hx:decide (0<n)=x)(hy:decide (0<m)=y)(w:World):
 Cv 48 #[.agg #[.slice a n cap,.slice a' m cap']] w (.tuple #[ag y,ag (x !=y)]):=by
 have Hb:=hbz w;go_enter Tryz.func48,Tryz.ntmps48;go_wp2_with fail;refine cF w (Hb.an trivial) 93 [.slice a n cap,.slice a' m cap'] λW aG ae ai=>?_;go_wp2_with fail;refine cQ 999 ae (cJ 18 0x23211f1d1b19171513110f0d0b0907050301) ?_;refine bo ?_;refine cP ae λai=>?_;go_wp2;refine bodyPost_ret (v:=.tuple #[ag y,ag (x !=y)]) (by subst hx hy;simp[results,Tryz.results48,go_sem,bne]) rfl ⟨rfl,ae.2.1.out.drew⟩
def rC (n m:Nat)(cb ct:Int):Int:=if 0<n↔0<m then 1 else if 0<m then ct else if 6<n then 3 else cb
def ZA (bx:List (Raw×Raw))(rows:List (List Raw))(n m B:Nat)(a a':Option Addr)(cap cap':Nat)(c:Int)(w:World)(hn:bx.length=n)(hm:rows.length=m)(hb:At w a (bx.flatMap spC))(ha:Tbl w a' rows)(gU:kJ B bx)(iH:∀r∈rows,∀c∈r,Fit B c)(hB:B<=900000)(dK:n<=1000)(kr:m<=5)(hcap:m<=cap')(hT:aB w)
 (hc:rC n m (iL (bx.map aY)) (jb rows)=c):
 Cv 47 #[.agg #[.slice a n cap,.slice a' m cap']] w (af c):=by
 have hbc:=λW (hW:Bw w W)=>alc a n cap B bx W hn zo gU (hb.below hW) (hT.below hW);have htc:=λW (hW:Bw w W)=>afP a' m cap' rows B W hm kr hcap (ha.below hW) iH hB (hT.below hW);generalize iL (bx.map aY)=cb at*;generalize jb rows=ct at*;obtain⟨sw,Htc⟩:=aH hbc htc;clear hbc htc hb ha gU iH hT hn hm;have hw:IntKind.i64.wrap (2* (n:Int))=2* (n:Int):=by rw[IntKind.wrap_i64];omega
 unfold rC at hc;obtain⟨x,hx⟩:=au (decide (0<n));obtain⟨y,hy⟩:=au (decide (0<m));have Hk:=aj (IZ n m a a' cap cap' x y hx hy);have Hb:=hbz w;by_cases hxy:x=y
 . have hc1:c=1:=by rw[<-hc,if_pos];rw[<-hx,<-hy]at hxy;have:=decide_eq_decide.1 hxy;omega
   subst hc1;subst hxy;have hne:(x !=x)=false:=by simp
   clear hx hy hc;go_enter Tryz.func47,Tryz.ntmps47;go_wp2_with fail;refine cF w (Hb.an trivial) 93 [.slice a n cap,.slice a' m cap'] λW aG ae ai=>?_;go_wp2_with fail;refine aK ae (Hk.out _) λw1 ae ai=>?_;go_wp2;refine bodyPost_ret (results_tmp rfl _ _ _) rfl ⟨rfl,ae.2.1.out⟩
 have hne:(x !=y)=true:=by simpa using hxy
 have hi:¬(0<n↔0<m):=λh=>hxy (by rw[<-hx,<-hy];exact decide_eq_decide.2 zo);rw[if_neg hi]at hc;cases y with
 | true=>
   have hm0:0<m:=by simpa using hy
   rw[if_pos hm0]at hc;subst hc;clear hx hy hxy hi;go_enter Tryz.func47,Tryz.ntmps47;go_wp2_with fail;refine cF w (Hb.an trivial) 93 [.slice a n cap,.slice a' m cap'] λW aG ae ai=>?_;go_wp2_with fail;refine aK ae (Hk.out _) λw1 ae ai=>?_;go_wp2_with fail;refine aK ae (Htc.out _ ae.2.1.out) λw2 ae ai=>?_;go_wp2;refine bodyPost_ret (results_tmp rfl _ _ _) rfl ⟨rfl,ae.2.1.out⟩
 | false=>
   have hm0:¬0<m:=by simpa using hy
   rw[if_neg hm0]at hc;by_cases h6:6<n
   . rw[if_pos h6]at hc;subst hc;have h12:(12:Int)<2* (n:Int):=by omega
     clear hx hy hxy hi;go_enter Tryz.func47,Tryz.ntmps47;go_wp2_with fail;refine cF w (Hb.an trivial) 93 [.slice a n cap,.slice a' m cap'] λW aG ae ai=>?_;go_wp2_with fail;refine aK ae (Hk.out _) λw1 ae ai=>?_;go_wp2;refine bodyPost_ret (results_tmp rfl _ _ _) rfl ⟨rfl,ae.2.1.out⟩
   . rw[if_neg h6]at hc;subst hc;have h12:¬(12:Int)<2* (n:Int):=by omega
     clear hx hy hxy hi;go_enter Tryz.func47,Tryz.ntmps47;go_wp2_with fail;refine cF w (Hb.an trivial) 93 [.slice a n cap,.slice a' m cap'] λW aG ae ai=>?_;go_wp2_with fail;refine aK ae (Hk.out _) λw1 ae ai=>?_;go_wp2_with fail;refine aK ae (sw.out _ ae.2.1.out) λw2 ae ai=>?_;go_wp2;refine bodyPost_ret (results_tmp rfl _ _ _) rfl ⟨rfl,ae.2.1.out⟩
def Tryz.az3 :(Tryz.prog.info? 111).map (λi=>(i.zero,i.size,i.bytes))=some (some (.agg #[.string (bs []),ag false,.string (bs []),af 0]),4,48):=by kernel_rfl
def nD (ts:List Trm):(ts.flatMap aI).length=ts.length*4:=iD aI 4 (λ_=>rfl) ts
def vD (ts:List Trm):∀u∈ts.flatMap aI,u.oneCell'=true:=by intro u hu;obtain⟨r,_,hr⟩:=List.mem_flatMap.1 hu;simp only[aI,List.mem_cons,List.not_mem_nil,or_false]at hr;rcases hr with rfl|rfl|rfl|rfl<;>rfl
def VH (t:Trm)(ts:List Trm):(t::ts).flatMap aI=aI t++ts.flatMap aI:=List.flatMap_cons
def At.tail {w:World}{b o c:Nat}{x:Trm}{ts:List Trm}(h:At w (some ⟨b,o,none⟩) ((x::ts).flatMap aI))(hc:ts.length+1<=c):At w (if c=1 then some ⟨b,o,none⟩else some ⟨b,o+4,none⟩) (ts.flatMap aI):=by
 have hk:=At.cut (k:=1) (size:=4) (n:=ts.length+1) (cap:=c) h (by rw[nD];rfl) zo hc;have e:((x::ts).flatMap aI).drop (1*4)=ts.flatMap aI:=by rw[VH];rfl
 rw[e]at hk;exact hk
def Sl.tail {b o c n:Nat}(h:Sl (Option.some ⟨b,o,none⟩) (n+1) c):Sl (if c=1 then Option.some (⟨b,o,none⟩:Addr)else Option.some ⟨b,o+4,none⟩) n (c-1):=by refine⟨by have:=h.1;omega,λe=>?_⟩;split at e<;>cases e
def auX (l l':List UInt8):(xu l l'= -1/\Op.bytesLess l l'=true)\/(xu l l'=1/\Op.bytesLess l l'=false/\Op.bytesLess l' l=true)\/(xu l l'=0/\Op.bytesLess l l'=false/\Op.bytesLess l' l=false):=by
 unfold xu;cases h1:Op.bytesLess l l' with
 |true=>exact .inl ⟨by simp,rfl⟩
 | false=>
   cases h2:Op.bytesLess l' l with
   |true=>exact .inr (.inl ⟨by simp,rfl,rfl⟩)
   |false=>exact .inr (.inr ⟨by simp,rfl,rfl⟩)
def aeu (a:Option Addr)(n cap:Nat)(ta:List Trm)(a':Option Addr)(n' cap':Nat)(tb:List Trm)(B:Nat)(w:World)(hn:ta.length=n)(hn':tb.length=n')(hs:Sl a n cap)(hs':Sl a' n' cap')(hl:n<=65536)(hl':n'<=65536)(ha:At w a (ta.flatMap aI))(ha':At w a' (tb.flatMap aI))
 (ll:∀t∈ta,Fit B t.2) (gU:∀t∈tb,Fit B t.2) (hB:B+2<=268435456) (hT:aB w):
 Cl 230 #[.slice a n cap,.slice a' n' cap',.func (.func 231) #[] #[],.func (.func 232) #[] #[]] w λe w'=>∃v',e=.returned v'/\w'.ownsRow w.heap.size 111 4 v' (gw ta tb).length ((gw ta tb).flatMap aI)/\Bw w w':=by
 obtain⟨i0,hi,hz0,hz1,hz2⟩:=info_parts Tryz.az3;obtain⟨M,hM⟩:=au (gw ta tb);have Gf:=enters_of Tryz.func231 zk rfl;have Ge:=enters_of Tryz.func232 zk rfl;rw[hM];obtain⟨Hi,cu,bV,bX,HM,OI,OH,Hs,Yc,Ha,uu,vN⟩:=gL hi hz0 hz1 hz2 hM Gf Ge hs hs' ha ha' ll;obtain⟨zM,HT,Hn,zR⟩:=cG gU hT hn hn';obtain⟨N,hN⟩:=au (n+n');have hNI:(n:Int)+(n':Int)=(N:Int):=by omega
 have HN:=aj hN;clear hi hz0 hz1 hz2 hM Gf Ge hs hs' ha ha' ll gU hT hn hn' hN;have hN1:N<=131072:=by have:=HN.out;omega
 go_enter Tryz.func230,Tryz.ntmps230;go_wp2_with (at_make;refine wpList_make_own _ rfl _ _ 39 rfl w.heap.size 111 i0 _ 4 Tryz.underlying39 Hi.out cu.out bV.out _ _ _ N rfl rfl (by first|exact hNI|rfl) (by rw[bX.out];omega) zx (Nat.le_refl _) ?_;intro w1 hown hgrow);obtain⟨hb1,pL⟩:=aH ((Below.refl w.heap.size w).grown hgrow (Nat.le_refl _) (by intro k hk;cases hk)) hown;clear hown hgrow hNI
 go_loopw[0,1,9] (λva vb vo wr=>∃(ra rb acc:List Trm) (p q ca cb:Nat) (aa ab:Option Addr) (v:Value),v=vo/\va=.slice aa p ca/\vb=.slice ab q cb/\ra.length=p/\rb.length=q/\Sl aa p ca/\Sl ab q cb/\At w aa (ra.flatMap aI)/\At w ab (rb.flatMap aI)/\
  (∀t∈ra,Fit B t.2)/\(∀t∈rb,Fit B t.2)/\wr.ownsRow w.heap.size 111 4 v acc.length (acc.flatMap aI)/\acc.length+p+q<=N/\acc++gw ra rb=M/\Bw w wr) (λva vb _ _=>(yN va+yN vb).toNat)
 case atStart=>exact⟨ta,tb,[],n,n',cap,cap',a,a',_,rfl,rfl,rfl,Hn.out,zR.out,Hs.out,Yc.out,Ha.out,uu.out,vN.out,zM.out,pL.out,by rw[<-HN.out];simp,by simpa using HM.out,hb1.out⟩
 case round=>
  clear hb1 pL Ha uu Hs Yc vN zM Hn zR HM;obtain⟨ra,rb,acc,p,q,ca,cb,aa,ab,v,rfl,rfl,rfl,wT,tY,hsa,gu,hat,hat',ll,gU,hov,hlen,hM,pb⟩:=hrel;by_cases hpq:0<p/\0<q
  . obtain ⟨hp,hq⟩:=hpq;obtain⟨x,ra,rfl⟩:∃x l,ra=x::l:=by cases ra with
     |nil=>simp at wT;omega
     |cons x l=>exact⟨x,l,rfl⟩
    obtain⟨y,rb,rfl⟩:∃x l,rb=x::l:=by cases rb with
     |nil=>simp at tY;omega
     |cons x l=>exact⟨x,l,rfl⟩
    obtain⟨l,s,m,e⟩:=x;obtain⟨l',s',m',e'⟩:=y;obtain⟨p,rfl⟩:∃p',p=p'+1:=⟨p-1,by omega⟩;obtain⟨q,rfl⟩:∃q',q=q'+1:=⟨q-1,by omega⟩;have dY:=ll (l,s,m,e) zm;have jO:=gU (l',s',m',e') zm;have ab7:∀t∈ra,Fit B t.2:=λt ht=>ll t (by simp[ht]);have ab8:∀t∈rb,Fit B t.2:=λt ht=>gU t (by simp[ht]);obtain⟨b1,o1,rfl,hw1⟩:=(hat.below pb).term 0 zm rfl;obtain⟨b2,o2,rfl,hw2⟩:=(hat'.below pb).term 0 zm rfl;simp only[Nat.zero_mul,Nat.add_zero]at hw1 hw2;have nj:b1<w.heap.size:=hat.lt (by rw[VH];simp[aI]);have kz:b2<w.heap.size:=hat'.lt (by rw[VH];simp[aI]);have iV:=hat.tail (c:=ca) (by have:=hsa.1;simp at wT;omega);have pk:=hat'.tail (c:=cb) (by have:=gu.1;simp at tY;omega);have adi:=hsa.tail;have adj:=gu.tail;have Bp:=gX (p+1) ca 0 0 (rfl:(some ⟨b1,o1,none⟩:Option Addr)=_) zo rfl;have MU:=gX (q+1) cb 0 0 (rfl:(some ⟨b2,o2,none⟩:Option Addr)=_) zo rfl;rw[Nat.zero_mul,Nat.add_zero]at Bp MU;have Sz:p+1<=ca:=hsa.1;have hcb:q+1<=cb:=gu.1;have PL:Hid (ra.length=p):=by show _=_;simpa using wT
    have PM:Hid (rb.length=q):=by show _=_;simpa using tY
    obtain⟨PN,Fu,Yg,Yh,Cx,Cy,dV,ahr,jd,pH,vN,zM⟩:=gL hsa gu adi adj iV pk hat hat' dY jO ab7 ab8;obtain⟨ah7,ah8,cV,HM,aP,zG⟩:=fZ ll gU hov hM pb (HT.out.below pb);have Hx:Hid (aQ wr b1 o1 [ah l,ag s,ah m,af e]):=hw1;have Hy:Hid (aQ wr b2 o2 [ah l',ag s',ah m',af e']):=hw2;have ac8:=wT;have ac9:=tY;simp only[List.length_cons]at ac8 ac9;clear wT tY hsa gu hat hat' ll gU hov hM pb dY jO ab7 ab8 hw1 hw2 iV pk adi adj ac8 ac9;have Hb:=hbz wr;have Rh:=OI.out;have ic:=aP.out.size;obtain⟨gs,GQ⟩:∃g,xu l l'=g:=⟨_,rfl⟩;have DK:=λW=>auY l s m e l' s' m' e' W;have hcs:=auX l l';rw[GQ]at DK hcs;obtain⟨Kp,Kb⟩:=aH DK hcs;clear DK hcs GQ;go_wp2_with fail;obtain⟨ae,ai⟩:=qZ (Hx.an<|Hy.an trivial);have HU:Hid (aB wr):=zG.out;have ae:=Hb.an<|HU.an ae
    refine cQ 999 ae (cJ 9 0x110e0d0b0907050301) ?_;refine bo ?_;refine bP ae (Kp.out _) λw2 ae=>?_;refine bo ?_;refine cP ae λai=>?_;have hcs:=Kb.out;have hp1:(1:Int)<=(p:Int)+1:=by omega
    have hq1:(1:Int)<=(q:Int)+1:=by omega
    clear Kb Kp Rh;rcases hcs with⟨rfl,h1⟩ |⟨rfl,h1,h2⟩ |⟨rfl,h1,h2⟩
    . have zF:Hid ((acc++[(l,s,m,e)])++gw ra ((l',s',m',e')::rb)=M):=by
       show _=_
       rw[<-HM.out,xk,if_pos h1];simp
      have zD:Hid ((acc++[(l,s,m,e)]).flatMap aI=acc.flatMap aI++[ah l,ag s,ah m,af e]):=by
       show _=_
       rw[List.flatMap_append];rfl
      clear h1;go_wp2_with fail;obtain⟨Hb,HU,Hx,Hy,_⟩:=ae;obtain⟨x0,x1,x2,x3⟩:=Hx.out.w4;obtain⟨y0,y1,y2,y3⟩:=Hy.out.w4;refine fx (λw'=>aJ w' b1 o1 (ah l)/\aJ w' b1 (o1+1) (ag s)/\aJ w' b1 (o1+2) (ah m)/\aJ w' b1 (o1+3) (af e)) (λi=>Nat.blt i 100000) [(0,true),(1,true),(2,true),(3,true),(6,true),(7,true),(4,false),(5,false),(8,true),(9,true)] zk zk rfl zk zc ⟨x0,x1,x2,x3⟩ ?_;iterate 6 (refine pT rfl rfl ?_ (by intro w' ⟨q0,q1,q2,q3⟩;go_simp;try with_reducible rfl);try simp only[UU])
      refine aO rfl rfl (λK hK=>?_);go_simp;refine hK _ _ (λ_=>⟨aM x0,aM x1,aM x2,aM x3⟩) ?_;try simp only[UU]
      refine cg (λW3=>ar W3 (w2.heap.size) 111 [ah l,ag s,ah m,af e]/\Bw w2 W3) (by first|exact iY|exact iZ) ?_;rintro W3 ⟨qc,ak⟩;replace Hx:=kW Hx ak;replace Hy:=kW Hy ak;replace HU:=kT HU ak;have Hc:=aj qc;clear qc;obtain⟨x0,x1,x2,x3⟩:=Hx.out.w4;obtain⟨y0,y1,y2,y3⟩:=Hy.out.w4;obtain⟨c0,c1,c2,c3⟩:=Hc.out.c4;replace Hb:=bj Hb ak;refine aO rfl rfl (λK hK=>?_);have ft:=ownsRow_below cV.out Hb.out;have hs3:=Hb.out.size;refine wp_append_own _ _ _ 39 rfl w.heap.size 111 i0 _ 4 48 Tryz.underlying39 Hi.out cu.out bV.out bX.out rfl zd v acc.length (acc.flatMap aI) rfl ft ⟨w2.heap.size,0,none⟩ 1 1 [ah l,ag s,ah m,af e] rfl rfl (fM Hc.out) zy zx zo zo ?_;intro v' w8 dO bA _;have nb:∀b,b<w.heap.size->some b≠v.ownBlock:=λb hb e=>by have:=cE ft b e.symm;omega
      refine hK _ _ (λ_=>⟨cW bA x0 (nb _ nj),cW bA x1 (nb _ nj),cW bA x2 (nb _ nj),cW bA x3 (nb _ nj)⟩) ?_;try simp only[UU]
      iterate 2 (refine pT rfl rfl ?_;try simp only[UU])
      simp only[bH];have zI:=aj ((aF aP.out Hb.out).grown bA zo (λj e=>cE ft j e));have iJ:Hid (w8.ownsRow w.heap.size 111 4 v' (acc++[(l,s,m,e)]).length ((acc++[(l,s,m,e)]).flatMap aI)):=by
       show w8.ownsRow _ _ _ _ _ _
       rw[zD.out,List.length_append];exact dO
      clear nb ft dO bA x0 x1 x2 x3 y0 y1 y2 y3 c0 c1 c2 c3 Bp MU;go_wp2;go_roundw;case rel=>exact⟨ra,((l',s',m',e')::rb),acc++[(l,s,m,e)],p,(q+1),_,_,_,_,v',rfl,rfl,rfl,PL.out,(by have:=PM.out;simp;exact this),Yg.out,Fu.out,Cx.out,ahr.out,vN.out,ah8.out,iJ.out,by simp;omega,zF.out,zI.out⟩
      case measure=>simp[yN];omega
    ·
     have zF:Hid ((acc++[(l',s',m',e')])++gw ((l,s,m,e)::ra) rb=M):=by
      show _=_
      rw[<-HM.out,xk,if_neg (by rw[h1];decide),if_pos h2];simp
     have zD:Hid ((acc++[(l',s',m',e')]).flatMap aI=acc.flatMap aI++[ah l',ag s',ah m',af e']):=by
      show _=_
      rw[List.flatMap_append];rfl
     clear h1 h2
     go_wp2_with fail
     obtain⟨Hb,HU,Hx,Hy,_⟩:=ae
     obtain⟨x0,x1,x2,x3⟩:=Hx.out.w4
     obtain⟨y0,y1,y2,y3⟩:=Hy.out.w4
     refine fx (λw'=>aJ w' b2 o2 (ah l')/\aJ w' b2 (o2+1) (ag s')/\aJ w' b2 (o2+2) (ah m')/\aJ w' b2 (o2+3) (af e')) (λi=>Nat.blt i 100000) [(0,true),(1,true),(2,true),(3,true),(6,true),(7,true),(4,false),(5,false),(8,true),(9,true)] zk zk rfl zk zc ⟨y0,y1,y2,y3⟩ ?_
     iterate 6 (refine pT rfl rfl ?_ (by intro w' ⟨q0,q1,q2,q3⟩;go_simp;try with_reducible rfl);try simp only[UU])
     refine aO rfl rfl (λK hK=>?_)
     go_simp
     refine hK _ _ (λ_=>⟨aM y0,aM y1,aM y2,aM y3⟩) ?_
     try simp only[UU]
     refine cg (λW3=>ar W3 (w2.heap.size) 111 [ah l',ag s',ah m',af e']/\Bw w2 W3) (by first|exact iY|exact iZ) ?_
     rintro W3 ⟨qc,ak⟩
     clear x0 x1 x2 x3
     clear y0 y1 y2 y3
     replace Hx:=kW Hx ak
     replace Hy:=kW Hy ak
     replace HU:=kT HU ak
     have Hc:=aj qc;clear qc
     obtain⟨x0,x1,x2,x3⟩:=Hx.out.w4
     obtain⟨y0,y1,y2,y3⟩:=Hy.out.w4
     obtain⟨c0,c1,c2,c3⟩:=Hc.out.c4
     replace Hb:=bj Hb ak
     refine aO rfl rfl (λK hK=>?_)
     have ft:=ownsRow_below cV.out Hb.out
     have hs3:=Hb.out.size
     refine wp_append_own _ _ _ 39 rfl w.heap.size 111 i0 _ 4 48 Tryz.underlying39 Hi.out cu.out bV.out bX.out rfl zd v acc.length (acc.flatMap aI) rfl ft ⟨w2.heap.size,0,none⟩ 1 1 [ah l',ag s',ah m',af e'] rfl rfl (fM Hc.out) zy zx zo zo ?_
     intro v' w8 dO bA _
     have nb:∀b,b<w.heap.size->some b≠v.ownBlock:=λb hb e=>by have:=cE ft b e.symm;omega
     refine hK _ _ (λ_=>⟨cW bA y0 (nb _ kz),cW bA y1 (nb _ kz),cW bA y2 (nb _ kz),cW bA y3 (nb _ kz)⟩) ?_
     try simp only[UU]
     iterate 2 (refine pT rfl rfl ?_;try simp only[UU])
     simp only[bH]
     have zI:=aj ((aF aP.out Hb.out).grown bA zo (λj e=>cE ft j e))
     have iJ:Hid (w8.ownsRow w.heap.size 111 4 v' (acc++[(l',s',m',e')]).length ((acc++[(l',s',m',e')]).flatMap aI)):=by
      show w8.ownsRow _ _ _ _ _ _
      rw[zD.out,List.length_append];exact dO
     clear nb ft dO bA x0 x1 x2 x3 y0 y1 y2 y3 c0 c1 c2 c3 Bp MU
     go_wp2
     go_roundw
     case rel=>exact⟨((l,s,m,e)::ra),rb,acc++[(l',s',m',e')],(p+1),q,_,_,_,_,v',rfl,rfl,rfl,(by have:=PL.out;simp;exact this),PM.out,PN.out,Yh.out,dV.out,Cy.out,ah7.out,zM.out,iJ.out,by simp;omega,zF.out,zI.out⟩
     case measure=>simp[yN];omega
    ·
     obtain⟨S,hS⟩:=au (dval (s,m,e)+dval (s',m',e'))
     have HS:=aj hS
     have zF:Hid ((acc++[(l,canon S)])++gw ra rb=M):=by
      show _=_
      rw[<-HM.out,xk,if_neg (by rw[h1];decide),if_neg (by rw[h2];decide)];simp;rw[<-hS];rfl
     have zD:Hid ((acc++[(l,canon S)]).flatMap aI=acc.flatMap aI++[ah l,ag (az (dN S)),ah (nt (dN S).natAbs),af (dE S)]):=by
      show _=_
      rw[List.flatMap_append];rfl
     clear h1 h2 hS
     have Lz:=OH.out
     go_wp2_with fail
     obtain⟨Hb,HU,Hx,Hy,_⟩:=ae
     obtain⟨x0,x1,x2,x3⟩:=Hx.out.w4
     obtain⟨y0,y1,y2,y3⟩:=Hy.out.w4
     refine fx (λw'=>aJ w' b1 o1 (ah l)/\aJ w' b1 (o1+1) (ag s)/\aJ w' b1 (o1+2) (ah m)/\aJ w' b1 (o1+3) (af e)/\aJ w' b2 o2 (ah l')/\aJ w' b2 (o2+1) (ag s')/\aJ w' b2 (o2+2) (ah m')/\aJ w' b2 (o2+3) (af e')) (λi=>Nat.blt i 100000) [(0,true),(1,true),(2,true),(3,true),(4,true),(5,true),(6,true),(7,true),(11,true),(12,true),(13,true),(14,true),(8,false),(9,false),(10,false),(15,true),(16,true),(17,true)] zk zk rfl zk zc ⟨x0,x1,x2,x3,y0,y1,y2,y3⟩ ?_
     iterate 12 (refine pT rfl rfl ?_ (by intro w' ⟨q0,q1,q2,q3,q4,q5,q6,q7⟩;go_simp;try with_reducible rfl);try simp only[UU])
     refine aO rfl rfl (λK hK=>?_)
     go_simp
     with_reducible refine(avq l s m e l' s' m' e' S B HS.out _ jd.out pH.out hB (by first|exact HU.out|exact aB.drew HU.out|exact aB.alloc HU.out _|exact aB.drew (aB.alloc HU.out _) |exact aB.alloc (aB.drew HU.out) _)).mono ?_
     rintro e w4 ⟨rfl,hq⟩
     have ak:Bw w2 w4:=by first|exact hq|exact cM hq
     clear x0 x1 x2 x3
     clear y0 y1 y2 y3
     replace Hx:=kW Hx ak
     replace Hy:=kW Hy ak
     replace HU:=kT HU ak
     obtain⟨x0,x1,x2,x3⟩:=Hx.out.w4
     obtain⟨y0,y1,y2,y3⟩:=Hy.out.w4
     replace Hb:=bj Hb ak
     refine hK _ _ (λ_=>⟨x0,x1,x2,x3,y0,y1,y2,y3⟩) ?_
     try simp only[UU]
     refine aO rfl rfl (λK hK=>?_)
     go_simp
     refine hK _ _ (λ_=>⟨aM x0,aM x1,aM x2,aM x3,aM y0,aM y1,aM y2,aM y3⟩) ?_
     try simp only[UU]
     refine cg (λW5=>ar W5 (w4.heap.size) 111 [ah l,ag (az (dN S)),ah (nt (dN S).natAbs),af (dE S)]/\Bw w4 W5) (by first|exact iY|exact iZ) ?_
     rintro W5 ⟨qc,ak⟩
     clear x0 x1 x2 x3
     clear y0 y1 y2 y3
     replace Hx:=kW Hx ak
     replace Hy:=kW Hy ak
     replace HU:=kT HU ak
     have Hc:=aj qc;clear qc
     obtain⟨x0,x1,x2,x3⟩:=Hx.out.w4
     obtain⟨y0,y1,y2,y3⟩:=Hy.out.w4
     obtain⟨c0,c1,c2,c3⟩:=Hc.out.c4
     replace Hb:=bj Hb ak
     refine aO rfl rfl (λK hK=>?_)
     have ft:=ownsRow_below cV.out Hb.out
     have hs3:=Hb.out.size
     refine wp_append_own _ _ _ 39 rfl w.heap.size 111 i0 _ 4 48 Tryz.underlying39 Hi.out cu.out bV.out bX.out rfl zd v acc.length (acc.flatMap aI) rfl ft ⟨w4.heap.size,0,none⟩ 1 1 [ah l,ag (az (dN S)),ah (nt (dN S).natAbs),af (dE S)] rfl rfl (fM Hc.out) zy zx zo zo ?_
     intro v' w8 dO bA _
     have nb:∀b,b<w.heap.size->some b≠v.ownBlock:=λb hb e=>by have:=cE ft b e.symm;omega
     refine hK _ _ (λ_=>⟨cW bA x0 (nb _ nj),cW bA x1 (nb _ nj),cW bA x2 (nb _ nj),cW bA x3 (nb _ nj),cW bA y0 (nb _ kz),cW bA y1 (nb _ kz),cW bA y2 (nb _ kz),cW bA y3 (nb _ kz)⟩) ?_
     try simp only[UU]
     iterate 3 (refine pT rfl rfl ?_;try simp only[UU])
     simp only[bH]
     have zI:=aj ((aF aP.out Hb.out).grown bA zo (λj e=>cE ft j e))
     have iJ:Hid (w8.ownsRow w.heap.size 111 4 v' (acc++[(l,canon S)]).length ((acc++[(l,canon S)]).flatMap aI)):=by
      show w8.ownsRow _ _ _ _ _ _
      rw[zD.out,List.length_append];exact dO
     clear nb ft dO bA x0 x1 x2 x3 y0 y1 y2 y3 c0 c1 c2 c3 Bp MU
     go_wp2
     go_roundw
     case rel=>exact⟨ra,rb,acc++[(l,canon S)],p,q,_,_,_,_,v',rfl,rfl,rfl,PL.out,PM.out,Yg.out,Yh.out,Cx.out,Cy.out,vN.out,zM.out,iJ.out,by simp;omega,zF.out,zI.out⟩
     case measure=>simp[yN];omega
  . have hmr:gw ra rb=ra++rb:=by
     have:p=0\/q=0:=by omega
     rcases this with rfl|rfl
     . rw[List.eq_nil_of_length_eq_zero wT,BC];rfl
     . rw[List.eq_nil_of_length_eq_zero tY,BD];simp
    have hML:M.length=acc.length+p+q:=by rw[<-hM,hmr];simp[wT,tY];omega
    have zD:Hid (M.flatMap aI=(acc.flatMap aI++ra.flatMap aI)++rb.flatMap aI):=by
     show _=_
     rw[<-hM,hmr,<-List.append_assoc,List.flatMap_append,List.flatMap_append]
    have hlr:(ra.flatMap aI).length=p*4:=by rw[nD,wT]
    have acC:(rb.flatMap aI).length=q*4:=by rw[nD,tY]
    have jf:=hat.below pb;have ayw:=hlen;obtain⟨Kj,aiJ,oG,dV,cV,aP,PN,Fu,HML⟩:=Uf hlr acC jf hat' hov pb hsa gu hML;clear wT tY hmr hlr acC hat hat' jf hov pb hsa gu hM ll gU hML;have hsz:=aP.out.size;by_cases h0:0<p
    all_goals
     go_wp2_with (first| (at_builtin;refine uo rfl (.tmp 70) (.tmp 71) 39 rfl w.heap.size 111 i0 _ 4 48 Tryz.underlying39 Hi.out cu.out bV.out bX.out rfl zd v acc.length (acc.flatMap aI) rfl cV.out aa p ca (ra.flatMap aI) rfl PN.out Kj.out oG.out (vD ra) zx zo hsz ?_;intro v1 w2 cX hg1 hb1) | (at_builtin;refine uo rfl (.tmp 72) (.tmp 73) 39 rfl w.heap.size 111 i0 _ 4 48 Tryz.underlying39 Hi.out cu.out bV.out bX.out rfl zd v1 (acc.length+p) (acc.flatMap aI++ra.flatMap aI) rfl cX ab q cb (rb.flatMap aI) rfl Fu.out aiJ.out (dV.out.below (aP.out.grown hg1 hsz (λj e=>cE cV.out j e))) (vD rb) zx zo (Nat.le_trans hsz hg1.size) ?_;intro v2 w3 fH hg2 hb2))
     go_ret
     refine⟨v2,rfl,?_,(aP.out.grown hg1 hsz (λj e=>cE cV.out j e)).grown hg2 (Nat.le_trans hsz hg1.size) (λj e=>cE cX j e)⟩
     rw[HML.out,zD.out];exact fH
end Go.Proofs.YtpfgffadgkkedaaGreatDoor
namespace Go.Proofs.YtpfgffadgkkedaaGreatDoor
open Go.RowKit
def avH (ts:List Trm)(i:Nat)(hi:i<ts.length)(t:Trm):(((((ts.flatMap aI).set (i*4) (ah t.1)).set (i*4+1) (ag t.2.1)).set (i*4+2) (ah t.2.2.1)).set (i*4+3) (af t.2.2.2))=(ts.set i t).flatMap aI:=by
 induction ts generalizing i with
 |nil=>simp at hi
 | cons x ts ih=>
   have e:∀(y:Trm) zs,(y::zs).flatMap aI=ah y.1::ag y.2.1::ah y.2.2.1::af y.2.2.2::zs.flatMap aI:=λy zs=>rfl;cases i with
   |zero=>rw[e];rfl
   |succ i=>rw[List.set_cons_succ,e,e,<-ih i (by simpa using hi),show(i+1) *4=i*4+1+1+1+1 by omega];rfl
def avG (ts:List Trm)(i:Nat)(hi:i<ts.length)(r:Raw):((((ts.flatMap aI).set (i*4+1) (ag r.1)).set (i*4+2) (ah r.2.1)).set (i*4+3) (af r.2.2))=(ts.set i (ts[i].1,r)).flatMap aI:=by
 induction ts generalizing i with
 |nil=>simp at hi
 | cons x ts ih=>
   have e:∀(y:Trm) zs,(y::zs).flatMap aI=ah y.1::ag y.2.1::ah y.2.2.1::af y.2.2.2::zs.flatMap aI:=λy zs=>rfl;cases i with
   |zero=>rw[e];rfl
   |succ i=>rw[List.set_cons_succ,e,e,List.getElem_cons_succ,<-ih i (by simpa using hi),show(i+1) *4=i*4+1+1+1+1 by omega];rfl
def jT {w:World}{base:Nat}{e:TypeId}{size n cap g:Nat}{xs:List Value}(h:w.ownsRow base e size (.slice (some ⟨g,0,none⟩) n cap) n xs)(o:Nat):w.frozen? ⟨g,o,none⟩=false:=by
 rcases h.2 with⟨h1,_⟩ |⟨g',cap',cur,h1,hb,hg,_⟩
 . simp at h1
 . simp only[Value.slice.injEq,Option.some.injEq,Addr.mk.injEq,and_true,true_and]at h1;obtain⟨rfl,rfl⟩:=h1;have h4:ar w g e cur.toList:=by unfold ar;simpa using hg
   exact h4.free o
def vr {w:World}{base:Nat}{e:TypeId}{size n cap g:Nat}{xs:List Value}(h:w.ownsRow base e size (.slice (some ⟨g,0,none⟩) n cap) n xs):base<=g/\g<w.heap.size:=by
 rcases h.2 with⟨h1,_⟩ |⟨g',cap',cur,h1,hb,hg,_⟩
 . simp at h1
 . simp only[Value.slice.injEq,Option.some.injEq,Addr.mk.injEq,and_true,true_and]at h1;obtain⟨rfl,rfl⟩:=h1;exact⟨hb,(Array.getElem?_eq_some_iff.1 hg).1⟩
def Nj {w:World}{base n cap g:Nat}{e:TypeId}{ts:List Trm}(h:w.ownsRow base e 4 (.slice (some ⟨g,0,none⟩) n cap) n (ts.flatMap aI))(k:Nat)(hk:k<ts.length){l:List UInt8}{s:Bool}{m:List UInt8}{ex:Int}(hx:ts[k]=(l,s,m,ex)):
 aQ w g (k*4) [ah l,ag s,ah m,af ex]:=by
 obtain⟨a,c,hv,hat,_⟩:=cw h;simp only[Value.slice.injEq,true_and]at hv;obtain⟨rfl,rfl⟩:=hv;obtain⟨b,o,hab,hw⟩:=hat.term k hk hx;simp only[Option.some.injEq,Addr.mk.injEq,and_true]at hab;obtain⟨rfl,rfl⟩:=hab;rwa [Nat.zero_add]at hw
def atc {w:World}{base n cap g:Nat}{e:TypeId}{ts:List Trm}(h:w.ownsRow base e 4 (.slice (some ⟨g,0,none⟩) n cap) n (ts.flatMap aI))(i:Nat)(hi:i<ts.length)(l:List UInt8)(s:Bool)(m:List UInt8)(ex:Int):
 ((((w.setCell ⟨g,i*4,none⟩ (ah l)).setCell ⟨g,i*4+1,none⟩ (ag s)).setCell ⟨g,i*4+2,none⟩ (ah m)).setCell ⟨g,i*4+3,none⟩ (af ex)).ownsRow base e 4 (.slice (some ⟨g,0,none⟩) n cap) n ((ts.set i (l,s,m,ex)).flatMap aI):=by
 rw[<-avH ts i hi (l,s,m,ex)];exact ja (ja (ja (ja h _ _) _ _) _ _) _ _
def aeX {w:World}{base n cap g:Nat}{e:TypeId}{ts:List Trm}(h:w.ownsRow base e 4 (.slice (some ⟨g,0,none⟩) n cap) n (ts.flatMap aI))(i:Nat)(hi:i<ts.length)(s:Bool)(m:List UInt8)(ex:Int):
 (((w.setCell ⟨g,i*4+1,none⟩ (ag s)).setCell ⟨g,i*4+2,none⟩ (ah m)).setCell ⟨g,i*4+3,none⟩ (af ex)).ownsRow base e 4 (.slice (some ⟨g,0,none⟩) n cap) n ((ts.set i (ts[i].1,s,m,ex)).flatMap aI):=by
 rw[<-avG ts i hi (s,m,ex)];exact ja (ja (ja h _ _) _ _) _ _
def LI {w w':World}(r:Option Nat)(h:Bw w w'):w.grownBy w' r:=⟨h.os,h.tape,h.output,h.size,λk hk _=>h.block k hk⟩
def LJ {w w':World}{g:Nat}(h:w.grownBy w' (some g))(a:Nat)(v:Value):w.grownBy (w'.setCell ⟨g,a,none⟩ v) (some g):=grownBy_trans h (grownBy_set g rfl v)
def akZ {n:Nat}{w w':World}{r:Option Nat}(h:w.grownBy w' r)(hn:n<=w.heap.size)(hr:∀g,r=some g->n<=g):Below n w w':=((Below.refl _ _).mono hn).grown h hn hr
def aeC {B:Nat}(a b:List Trm)(ha:∀t∈a,Fit B t.2)(hb:∀t∈b,Fit B t.2)(hB:B+1<=268435456):∀t∈gw a b,Fit (B+1) t.2:=by
 obtain⟨n,hn⟩:=au (a.length+b.length);induction n using Nat.strongRecOn generalizing a b with
 | _ n ih=>
   cases a with
   |nil=>rw[BC];exact λt ht=>(hb t ht).mono zo
   | cons x a=>cases b with
     |nil=>rw[BD];exact λt ht=>(ha t ht).mono zo
     | cons y b=>
       rw[xk];simp only[List.length_cons]at hn;have ha2:∀t∈a,Fit B t.2:=λt ht=>ha t (by simp[ht]);have hb2:∀t∈b,Fit B t.2:=λt ht=>hb t (by simp[ht]);split
       . intro t ht;rcases List.mem_cons.1 ht with rfl|ht
         . exact(ha _ zm).mono zo
         . exact ih _ (by simp only[List.length_cons];omega) a (y::b) ha2 hb rfl t ht
       . split
         . intro t ht;rcases List.mem_cons.1 ht with rfl|ht
           . exact(hb _ zm).mono zo
           . exact ih _ (by simp only[List.length_cons];omega) (x::a) b ha hb2 rfl t ht
         . intro t ht;rcases List.mem_cons.1 ht with rfl|ht
           . exact((ha x zm).2.add (hb y zm).2).fit hB
           . exact ih _ zo a b ha2 hb2 rfl t ht
def VA {B:Nat}(l:List Trm)(h:∀t∈l,Fit B t.2)(hB:B+l.length<=268435456):∀t∈gA l,Fit (B+l.length) t.2:=by
 obtain⟨n,hn⟩:=au l.length;induction n using Nat.strongRecOn generalizing l with
 | _ n ih=>
   by_cases h2:l.length<2
   . rw[Nv l h2];exact λt ht=>(h t ht).mono zo
   . rw[VB l zo];have l1:(l.take (l.length/2)).length=l.length/2:=by rw[List.length_take];omega
     have l2:(l.drop (l.length/2)).length=l.length-l.length/2:=List.length_drop;have h3:=ih _ (by rw[<-hn,l1];omega) (l.take (l.length/2)) (λt ht=>h t (List.mem_of_mem_take ht)) (by rw[l1];omega) rfl;have h4:=ih _ (by rw[<-hn,l2];omega) (l.drop (l.length/2)) (λt ht=>h t (List.mem_of_mem_drop ht)) (by rw[l2];omega) rfl;have:=aeC (B:=B+(l.length-1)) _ _ (λt ht=>(h3 t ht).mono (by rw[l1];omega)) (λt ht=>(h4 t ht).mono (by rw[l2];omega)) zo;rwa [show B+(l.length-1)+1=B+l.length by omega]at this
end Go.Proofs.YtpfgffadgkkedaaGreatDoor
namespace Go.Proofs.YtpfgffadgkkedaaGreatDoor
open Go.RowKit
attribute [local go_sem ↓] Go.wp_at_zero Go.wp_at_succ
def an2 {α:Type}(p:α->Bool)(l:List α)(i:Nat)(hi:i<=l.length)(h:∀j (hj:j<i),p (l[j]'zo)=false):(l.take i).filter (λx=>!p x)=l.take i:=by
 rw[List.filter_eq_self];intro x hx;obtain⟨j,hj,rfl⟩:=List.mem_iff_getElem.1 hx;rw[List.getElem_take];have jP:j<i:=by rw[List.length_take]at hj;omega
 simp[h j jP]
def take_set {α:Type}(l:List α)(a:Nat)(x:α)(h:a<l.length):(l.set a x).take (a+1)=l.take a++[x]:=by rw[List.take_succ_eq_append_getElem (by simpa using h),List.getElem_set_self,List.take_set_of_le (Nat.le_refl _)]
def QW {α:Type}(l:List α)(a b:Nat)(x:α)(h:a<b):(l.set a x).drop b=l.drop b:=by rw[List.drop_set];rw[if_pos h]
def Tryz.aAr (w:World):(zeroValue 111).run Tryz.prog w=.ok (.agg #[.string ⟨#[]⟩,ag false,.string ⟨#[]⟩,af 0]) w:=by kernel_rfl
def aah (ts:List Trm)(k:Nat)(hk:k<=ts.length):(ts.flatMap aI).take (k*4)=(ts.take k).flatMap aI:=by
 have e:ts=ts.take k++ts.drop k:=(List.take_append_drop _ _).symm;conv=>lhs;rw[e]
 rw[List.flatMap_append,List.take_left' (by rw[nD,List.length_take,Nat.min_eq_left hk])]
def amM (a:Option Addr)(n cap:Nat)(ts:List Trm)(gf:Nat)(p:Trm->Bool)(w:World)(hn:ts.length=n)(hl:n<=65536)(ha:At w a (ts.flatMap aI))
 (eg:∀args w,(callFunc gf args).run Tryz.prog w=.ok (.enter gf args) w) (h2:∀x∈ts,p x=false)
 (hcl:∀x∈ts,∀W,Cl gf #[.agg #[ah x.1,ag x.2.1,ah x.2.2.1,af x.2.2.2]] W λe w'=>e=.returned (ag (p x))/\Bw W w'):
 Cv 252 #[.slice a n cap,.func (.func gf) #[] #[]] w (.slice a n cap):=by
 have aX:=TX a n cap ts gf #[] p w hn zo ha eg (λx hx W _=>by simpa using hcl x hx W);rcases adP p ts 0 with⟨h1,_⟩ |⟨i,hi,_,h3,_⟩
 . rw[h1]at aX;have Fb:=aj aX;clear aX h1 h2 hn hcl eg ha;have Hb:=hbz w;go_enter Tryz.func252,Tryz.ntmps252;go_wp2_with fail;refine aK (Hb.an trivial) (Fb.out) λw1 ae ai=>?_;go_wp2;go_ret;exact⟨rfl,ae.1.out⟩
 . rw[h2 _ (List.getElem_mem hi)]at h3;cases h3
def amL (g n cap base:Nat)(ts:List Trm)(gf:Nat)(p:Trm->Bool)(w:World)(hn:ts.length=n)(hl:n<=65536)(hn0:0<n)(ho:w.ownsRow base 111 4 (.slice (some ⟨g,0,none⟩) n cap) n (ts.flatMap aI))
 (eg:∀args w,(callFunc gf args).run Tryz.prog w=.ok (.enter gf args) w)
 (hcl:∀x∈ts,∀W,Cl gf #[.agg #[ah x.1,ag x.2.1,ah x.2.2.1,af x.2.2.2]] W λe w'=>e=.returned (ag (p x))/\Bw W w'):
 Cl 252 #[.slice (some ⟨g,0,none⟩) n cap,.func (.func gf) #[] #[]] w λe w'=>∃k,k=(ts.filter λx=>!p x).length/\e=.returned (.slice (some ⟨g,0,none⟩) k cap)/\
  w'.ownsRow base 111 4 (.slice (some ⟨g,0,none⟩) k cap) k ((ts.filter λx=>!p x).flatMap aI)/\w.grownBy w' (some g):=by
 have hat:At w (some ⟨g,0,none⟩) (ts.flatMap aI):=by obtain⟨a,c,hv,hat,_⟩:=cw ho;simp only[Value.slice.injEq,true_and]at hv;rw[hv.1];exact hat
 have hcap:=(yV ho).1;have aX:=TX (some ⟨g,0,none⟩) n cap ts gf #[] p w hn zo hat eg (λx hx W _=>by simpa using hcl x hx W);have hcm:cap<=9223372036854775807:=by
  rcases ho.2 with⟨h1,_⟩ |⟨g',cap',cur,h1,hb,hg,h4,h5,_⟩
  . simp at h1
  . simp only[Value.slice.injEq]at h1;obtain⟨_,_,rfl⟩:=h1;unfold maxLen at h5;omega
 obtain⟨Ho,fV,Hn,lL,dV⟩:=eD ho hcl hn eg hat;clear ho hcl hn eg hat;rcases adP p ts 0 with⟨h1,h2⟩ |⟨i,hi,h1,h2,h3⟩
 . rw[h1]at aX;have hK:(ts.filter λx=>!p x)=ts:=List.filter_eq_self.2 (λx hx=>by simp[h2 x hx]);rw[hK,Hn.out];have Fb:=aj aX;clear aX h1 h2 hK;have Hb:=hbz w;go_enter Tryz.func252,Tryz.ntmps252;go_wp2_with fail;refine aK (Hb.an trivial) (Fb.out) λw1 ae ai=>?_;go_wp2;go_ret;exact⟨n,rfl,rfl,ownsRow_below Ho.out ae.1.out,LI _ ae.1.out⟩
 . rw[h1,Nat.zero_add]at aX;have hin:i<n:=by rw[<-Hn.out];exact hi
   obtain⟨K,hK⟩:=au (ts.filter λx=>!p x);rw[hK];have hst:(ts.take (i+1)).filter (λx=>!p x)=ts.take i:=by rw[List.take_succ_eq_append_getElem hi,List.filter_append,an2 p ts i zo h3];simp[h2]
   have ol:((i:Int)== -1)=false:=by simp
   obtain⟨Fb,HK,bN⟩:=bM aX hK hst;clear aX h1 h2 h3 hK hst;have Hb:=hbz w;go_enter Tryz.func252,Tryz.ntmps252;go_wp2_with fail;refine aK (Hb.an trivial) (Fb.out) λw1 ae ai=>?_;go_wp2_with fail;go_loopw[5,6] (λs5 s6 wr=>∃(x y:Nat) (C:List Trm),s5=af (x:Int)/\s6=af (y:Int)/\x<y/\y<=n/\C.length=n/\C.take x=(ts.take y).filter (λx=>!p x)/\C.drop y=ts.drop y/\wr.ownsRow base 111 4 (.slice (some ⟨g,0,none⟩) n cap) n (C.flatMap aI)/\w.grownBy wr (some g)) (λ_ s6 _=>n-(intOf s6).toNat);case atStart=>exact⟨i,i+1,ts,rfl,by go_num,by omega,by omega,Hn.out,bN.out.symm,rfl,ownsRow_below Ho.out ae.1.out,LI _ ae.1.out⟩
   case round=>
    clear ol;obtain⟨x,y,C,rfl,rfl,hxy,ub,hC,htk,hdr,hov,hg⟩:=hrel;by_cases hlt:y<n
    . have TU:y<ts.length:=by rw[Hn.out];exact hlt
      have hyC:y<C.length:=by omega
      have hel:C[y]=ts[y]:=by
       have e1:C[y]?=ts[y]?:=by rw[<-Nat.add_zero y,<-List.getElem?_drop,<-List.getElem?_drop,hdr]
       rw[List.getElem?_eq_getElem hyC,List.getElem?_eq_getElem TU]at e1;exact Option.some.inj e1
      obtain⟨l,s,m,e,hx⟩:∃l s m e,ts[y]=(l,s,m,e):=⟨_,_,_,_,rfl⟩;have hw:=Nj hov y hyC (hel.trans hx);have hcl:=fV.out _ (List.getElem_mem TU);rw[hx]at hcl;have hnx:(ts.take (y+1)).filter (λx=>!p x)=(ts.take y).filter (λx=>!p x)++if p (l,s,m,e)then[]else[(l,s,m,e)]:=by rw[List.take_succ_eq_append_getElem TU,List.filter_append,hx];by_cases hp:p (l,s,m,e)=true<;>simp[hp]
      have hd2:C.drop (y+1)=ts.drop (y+1):=by rw[<-List.drop_drop,<-List.drop_drop,hdr]
      have aX:=gX n cap y (y:Int) (rfl:(some ⟨g,0,none⟩:Option Addr)=_) hlt rfl;rw[Nat.zero_add]at aX;obtain⟨hgb,GQ⟩:=vr hov;obtain⟨cV,Hg,Yl,vL,zW,HC,Ka⟩:=iX hov hg htk hd2 hnx hC hcl;have Hz:Hid (aQ wr g (y*4) [ah l,ag s,ah m,af e]):=hw;clear hov hg htk hd2 hnx hC hcl hw hdr hel hx;have Hb:=hbz wr;obtain⟨ae,ai⟩:=qZ (Hz.an trivial);have z1:wr.cell? ⟨g,y*4+1,none⟩=some (ag s):=ae.1.out.cell 1 zm;have z3:wr.cell? ⟨g,y*4+3,none⟩=some (af e):=ae.1.out.cell 3 zm;have z0:wr.cell? ⟨g,y*4,none⟩=some (ah l):=ae.1.out.cell 0 zm;have z2:wr.cell? ⟨g,y*4+2,none⟩=some (ah m):=ae.1.out.cell 2 zm;have P0:=z0;have P1:=z1;have P2:=z2;have P3:=z3;have Lz:=lL.out;obtain⟨W4,kg,aG,ae,ai⟩:=bO wr (Hb.an ae) 111 [ah l,ag s,ah m,af e];obtain⟨t,ht⟩:=au (p (l,s,m,e));rw[ht]at Ka zW;clear ht;go_wp2_with fail;refine aK ae (Ka.out _) λw5 ae ai=>?_;have iU:=ownsRow_below cV.out ae.2.1.out;have iR:=grownBy_trans Hg.out (LI _ ae.2.1.out);clear Lz;cases t with
      | true=>
        obtain⟨zX,OS⟩:=aH iU iR;clear iU iR;go_wp2;go_roundw;case rel=>exact⟨x,y+1,C,rfl,by go_num,by omega,by omega,HC.out,by rw[zW.out,Yl.out];simp,vL.out,zX.out,OS.out⟩
        case measure=>exact bi
      | false=>
        have TQ:x<C.length:=by have:=HC.out;omega
        obtain⟨lx,sx,mx,ex,vg⟩:∃l s m e,C[x]=(l,s,m,e):=⟨_,_,_,_,rfl⟩;obtain⟨u0,u1,u2,u3⟩:=(Nj iU x TQ vg).w4;have Da:=jT iU (x*4);have yg:=jT iU (x*4+1);have Gk:=jT iU (x*4+2);have fz3:=jT iU (x*4+3);have rH:=gX n cap x (x:Int) (rfl:(some ⟨g,0,none⟩:Option Addr)=_) zo rfl;rw[Nat.zero_add]at rH;obtain⟨zX,OS,Yq⟩:=bM iU iR TQ;clear iU iR vg TQ;go_wp2;refine⟨⟨x+1,y+1,C.set x (l,s,m,e),by go_num,by go_num,by omega,by omega,by rw[List.length_set];exact HC.out,?_,?_,atc zX.out x Yq.out l s m e,?_⟩,by simp[intOf];omega⟩
        . rw[take_set _ _ _ Yq.out,Yl.out,zW.out];simp
        . rw[QW _ _ _ _ zo];exact vL.out
        . exact LJ (LJ (LJ (LJ OS.out _ _) _ _) _ _) _ _
    . obtain rfl:y=n:=by omega
      have hK:C.take x=K:=by rw[htk,<-HK.out,List.take_of_length_le (by rw[Hn.out];exact Nat.le_refl _)]
      have LU:K.length=x:=by rw[<-hK,List.length_take,hC];omega
      have qw:=Ni hov x zo;rw[aah C x zo,hK]at qw;obtain⟨w6,ayj,Iq,hg6⟩:=afm wr 39 111 _ 4 Tryz.underlying39 Tryz.aAr rfl (by intro v hv;simp[Value.cells]at hv;rcases hv with rfl|rfl|rfl|rfl<;>rfl) g x (y-x) cap (cap-x) base (K.flatMap aI) qw zo;have lh:¬cap=x:=by omega
      obtain⟨Ho6,vP,HKl⟩:=bM Iq (grownBy_trans hg hg6) LU;clear htk hdr hC hK LU qw hov hg Iq hg6;go_wp2;go_ret;exact⟨x,HKl.out.symm,rfl,Ho6.out,vP.out⟩
def At.first {w:World}{a:Option Addr}{xs:List Value}(h:At w a xs)(k:Nat):At w a (xs.take k):=by
 rcases h with rfl|⟨b,o,rfl,hc⟩
 . exact .inl zm
 . refine .inr ⟨b,o,rfl,λj hj=>?_⟩;rw[List.length_take]at hj;rw[hc j zo,List.getElem?_take_of_lt zo]
def Qp (w:World)(a:Option Addr)(n cap:Nat)(ts:List Trm)(e:Ending)(w':World):Prop:=
 ∃v',e=.returned v'/\((n<2/\v'=.slice a n cap)\/(2<=n/\w'.ownsRow w.heap.size 111 4 v' (gA ts).length ((gA ts).flatMap aI)))/\Bw w w'
def Qp.at {w:World}{a:Option Addr}{n cap:Nat}{ts:List Trm}{e:Ending}{w':World}(h:Qp w a n cap ts e w')(hn:ts.length=n)(hs:Sl a n cap)(ha:At w a (ts.flatMap aI)):
 ∃a' c',e=.returned (.slice a' (gA ts).length c')/\At w' a' ((gA ts).flatMap aI)/\Sl a' (gA ts).length c'/\Bw w w':=by
 obtain⟨v',rfl,h1,hb⟩:=h;rcases h1 with⟨h2,rfl⟩ |⟨h2,ho⟩
 . rw[Nv ts zo,hn];exact⟨a,cap,rfl,ha.below hb,hs,hb⟩
 . obtain⟨a',c',rfl,hat,_⟩:=cw ho;exact⟨a',c',rfl,hat,yV ho,hb⟩
def au3 (n:Nat):∀(a:Option Addr) (cap:Nat) (ts:List Trm) (B:Nat) (w:World),ts.length=n->Sl a n cap->n<=65536->At w a (ts.flatMap aI)->(∀t∈ts,Fit B t.2)->B+n+2<=268435456->aB w->
 Cl 253 #[.slice a n cap,.func (.func 231) #[] #[],.func (.func 232) #[] #[]] w (Qp w a n cap ts):=by
 induction n using Nat.strongRecOn with
 | _ n ih=>
   intro a cap ts B w hn hs hl ha hf hB hT;by_cases h2:n<2
   . have h2i:(n:Int)<2:=by omega
     clear ih hn hs ha hf hT;have Hb:=hbz w;go_enter Tryz.func253,Tryz.ntmps253;go_wp2;go_ret;exact⟨_,rfl,.inl ⟨h2,rfl⟩,Hb.out⟩
   . obtain⟨k,hk⟩:=au (n/2);have hk1:1<=k:=by omega
     have hk2:k<n:=by omega
     have uX:(n:Int)/2=(k:Int):=by omega
     have l1:(ts.take k).length=k:=by rw[List.length_take];omega
     have l2:(ts.drop k).length=n-k:=by rw[List.length_drop];omega
     have hcn:=hs.1;have s1:Sl a k cap:=⟨by omega,hs.2⟩;have s2:Sl (if cap=k then a else a.map (·.add (k*4))) (n-k) (cap-k):=hs.cut zo;have a1:=ha.first (k*4);rw[aah ts k zo]at a1;have a2:=ha.cut (k:=k) (size:=4) (by rw[nD,hn]) zo hcn;have ed:(ts.flatMap aI).drop (k*4)=(ts.drop k).flatMap aI:=by
      have e:ts=ts.take k++ts.drop k:=(List.take_append_drop _ _).symm;conv=>lhs;rw[e]
      rw[List.flatMap_append,List.drop_left' (by rw[nD,l1])]
     rw[ed]at a2;obtain⟨a',ha'⟩:=au (if cap=k then a else a.map (·.add (k*4)));rw[ha']at s2 a2;have f1:∀t∈ts.take k,Fit B t.2:=λt ht=>hf t (List.mem_of_mem_take ht);have f2:∀t∈ts.drop k,Fit B t.2:=λt ht=>hf t (List.mem_of_mem_drop ht);have c1:=λW (hW:Bw w W) (GA:aB W)=>(ih k hk2 a cap (ts.take k) B W l1 s1 zo (a1.below hW) f1 zo GA).mono (λe w' h=>h.at l1 s1 (a1.below hW));have c2:=λW (hW:Bw w W) (GA:aB W)=>(ih (n-k) zo a' (cap-k) (ts.drop k) B W l2 s2 zo (a2.below hW) f2 zo GA).mono (λe w' h=>by obtain⟨x1,x2,x3,x4,x5,x6⟩:=h.at l2 s2 (a2.below hW);exact(⟨x1,x2,x3,x4,x5,Nat.le_trans hW.size x6.size,x6,x6⟩:∃a1 c1,e=.returned (.slice a1 (gA (ts.drop k)).length c1)/\At w' a1 ((gA (ts.drop k)).flatMap aI)/\Sl a1 (gA (ts.drop k)).length c1/\w.heap.size<=w'.heap.size/\Bw W w'/\Bw W w'));have g1:=VA (B:=B) (ts.take k) f1 zo;have g2:=VA (B:=B) (ts.drop k) f2 zo;have e1:=Nu (ts.take k);have e2:=Nu (ts.drop k);have hst:gA ts=gw (gA (ts.take k)) (gA (ts.drop k)):=by rw[VB ts zo,hn,hk]
     obtain⟨L,hL⟩:=au (gA (ts.take k));obtain⟨R,hR⟩:=au (gA (ts.drop k));rw[hL]at c1 g1 e1 hst;rw[hR]at c2 g2 e2 hst;have h2i:¬(n:Int)<2:=by omega
     have h2n:2<=n:=by omega
     obtain⟨C1,C2,G1,G2,bN,HT⟩:=fZ c1 c2 (λt ht=>(g1 t ht).mono (show B+(ts.take k).length<=B+n by omega)) (λt ht=>(g2 t ht).mono (show B+(ts.drop k).length<=B+n by omega)) hst hT;have Kj:Hid (L.length<=65536/\R.length<=65536):=⟨by omega,by omega⟩;have uD:=ha';clear ih hn hs ha hf hT a1 a2 s1 s2 f1 f2 c1 c2 g1 g2 e1 e2 hst ed l1 l2 hL hR hk ha';have Hb:=hbz w;go_enter Tryz.func253,Tryz.ntmps253;go_wp2_with fail;have hkn:k<=n:=by omega
     have hkc:k<=cap:=by omega
     have ae:=Hb.an trivial;refine cQ 999 ae (cJ 16 0x1f1c160a1b191513110f0d0907050301) ?_;refine bo ?_;refine qOp λK hK=>?_;go_simp;with_reducible refine(C1.out _ (qU ae.1.out) (qU (HT.out.below ae.1.out))).mono ?_
     rintro e w1 ⟨b1,d1,rfl,jf,hs1,hq⟩;refine kE hK hq ae λae=>?_;clear hK K hq;refine qOp λK hK=>?_;go_simp;with_reducible refine(C2.out _ (qU ae.1.out) (qU (HT.out.below ae.1.out))).mono ?_
     rintro e w2 ⟨b2,d2,rfl,rG,hs2,adk,yr,hq⟩;refine kE hK hq ae λae=>?_;clear hK K hq;refine qOp λK hK=>?_;go_simp;with_reducible refine(aeu b1 L.length d1 L b2 R.length d2 R (B+n) _ rfl rfl hs1 hs2 Kj.out.1 Kj.out.2 (by first|exact jf.below yr|exact(jf.below yr).drew) (qU rG) G1.out G2.out zo (qU (HT.out.below ae.1.out))).mono ?_
     rintro e w3 ⟨v',rfl,ho,hq⟩;refine kE hK hq ae λae=>?_;clear hK K hq;refine bo ?_;refine cP ae λai=>?_;go_wp2;go_ret;exact⟨v',rfl,.inr ⟨h2n,by rw[bN.out];exact rS ho adk⟩,ae.1.out⟩
def CP (x:Trm):Trm:=(x.1,canon (dval x.2))
def aeq (f:Trm->Trm)(K C:List Trm)(k:Nat)(hk:k<C.length)(hl:C.length=K.length)(ht:C.take k=(K.map f).take k)(hx:C[k]=K[k]'zo):(C.set k (f C[k])).take (k+1)=(K.map f).take (k+1):=by rw[take_set _ _ _ hk,ht,List.take_succ_eq_append_getElem zi,List.getElem_map,hx]
def ZP {K C:List Trm}{k:Nat}(hd:C.drop k=K.drop k)(h1:k<C.length)(h2:k<K.length):C[k]=K[k]:=by
 have e1:C[k]?=K[k]?:=by rw[<-Nat.add_zero k,<-List.getElem?_drop,<-List.getElem?_drop,hd]
 rw[List.getElem?_eq_getElem h1,List.getElem?_eq_getElem h2]at e1;exact Option.some.inj e1
def al4 (V:Int)(v:Value)(n:Nat)(ts:List Trm)(B:Nat)(w0 w:World)(hb0:Bw w0 w)(hn:ts.length=n)(hl:n<=4096)(ho:w.ownsRow w0.heap.size 111 4 v n (ts.flatMap aI))(hf:∀t∈ts,Fit B t.2)(hB:B+n+2<=268435456)(hT:aB w0):
 Cl 205 #[af V,v] w λe w'=>∃v',e=.returned (.tuple #[.agg #[af V,v'],af 0])/\w'.ownsRow w0.heap.size 111 4 v' (aU ts).length ((aU ts).flatMap aI)/\Bw w0 w':=by
 obtain⟨a,cap,rfl,hat,_⟩:=cw ho;have hs:=yV ho;have Mn:=VA ts hf zo;have hsl:=Nu ts;have eg:∀args w,(callFunc 254 args).run Tryz.prog w=.ok (.enter 254 args) w:=enters_of Tryz.func254 zk rfl;obtain⟨S,hS⟩:=au (gA ts);have c1:∀W,Bw w W->Cl 253 #[.slice a n cap,.func (.func 231) #[] #[],.func (.func 232) #[] #[]] W λe w'=>∃v1,e=.returned v1/\w'.ownsRow w0.heap.size 111 4 v1 S.length (S.flatMap aI)/\Bw W w':=by
  intro W hW;refine(au3 n a cap ts B W hn hs zo (hat.below hW) hf hB (hT.below (aF hb0 hW))).mono ?_;rintro e w' ⟨v1,rfl,h1,hb⟩;refine⟨v1,rfl,?_,hb⟩;rcases h1 with⟨h2,rfl⟩ |⟨h2,cX⟩
  . rw[<-hS,Nv ts zo,hn];exact ownsRow_below ho (aF hW hb)
  . rw[<-hS];exact rS cX (by have:=hW.size;have:=hb0.size;omega)
 obtain⟨K,hK⟩:=au (S.filter gy);have LU:K.length<=4096:=by have:=List.length_filter_le gy S;rw[hK]at this;rw[hS]at hsl;omega
 rw[hS]at Mn hsl;have c2:∀W v1,Bw w0 W->W.ownsRow w0.heap.size 111 4 v1 S.length (S.flatMap aI)->Cl 252 #[v1,.func (.func 254) #[] #[]] W λe w'=>∃v2,e=.returned v2/\w'.ownsRow w0.heap.size 111 4 v2 K.length (K.flatMap aI)/\W.grownBy w' v1.ownBlock:=by
  intro W v1 hW cX;have hcl:∀x∈S,∀W,Cv 254 #[.agg #[ah x.1,ag x.2.1,ah x.2.2.1,af x.2.2.2]] W (ag (!gy x)):=λx hx W=>al3 x.1 x.2.1 x.2.2.1 x.2.2.2 W (Mn x hx).1;by_cases h0:0<S.length
  . obtain⟨g,c,rfl,_,_,_⟩:=ui cX h0;refine(amL g S.length c w0.heap.size S _ (λx=>!gy x) W rfl zo h0 cX eg hcl).mono ?_;rintro e w' ⟨k,hk,rfl,fH,hg2⟩;simp only[Bool.not_not]at hk fH;rw[hK]at hk fH;subst hk;exact⟨_,rfl,fH,hg2⟩
  . have lf:S=[]:=List.eq_nil_of_length_eq_zero zo;obtain⟨a1,c,rfl,jf,_⟩:=cw cX;refine(amM a1 S.length c S _ (λx=>!gy x) W rfl zo jf eg (λx hx=>by rw[lf]at hx;cases hx) hcl).mono ?_;rintro e w' ⟨rfl,hb⟩;have wy:K=S:=by rw[<-hK,lf];rfl
    rw[wy];exact⟨_,rfl,ownsRow_below cX hb,LI _ hb⟩
 have hKf:∀t∈K,Fit (B+ts.length) t.2:=λt ht=>by rw[<-hK]at ht;exact Mn t (List.mem_filter.1 ht).1
 have hcl:aU ts=K.map CP:=by unfold aU;rw[hS,hK];rfl
 rw[hcl,List.length_map];have hz:=hb0.size;obtain⟨m,hm⟩:=au K.length;rw[hm]at LU c2⊢;obtain⟨Hm,C1,C2,HKf,Qb,HT⟩:=fZ hm c1 c2 hKf hb0 hT;clear c1 c2 hm hKf hcl hb0 hT Mn hS hK ho hat hs hf eg hsl;have Hb:=hbz w;go_enter Tryz.func205,Tryz.ntmps205;go_wp2_with fail;refine cF w (Hb.an trivial) 41 [af 0,.slice none 0 0] λW aG ae ai=>?_;go_wp2_with fail;refine(C1.out _ ae.2.1.out).mono ?_;rintro e w1 ⟨v1,rfl,cX,ak⟩;obtain⟨ae,ai⟩:=qX ak ae;have hw1:=aF Qb.out ae.2.1.out;go_wp2_with fail;refine(C2.out _ v1 hw1 cX).mono ?_;rintro e w2 ⟨v2,rfl,fH,hg2⟩;have hr2:=ae.1.out.row zd cX hg2;have hw2:=akZ (hg2) (Nat.le_trans hz ae.2.1.out.size) (λg e=>cE cX g e);obtain⟨KA,pK,Hr⟩:=bM (hw1.trans hw2) fH hr2;clear C1 C2 cX hg2 hw1 hw2 hr2 fH;have hKi:¬(4096:Int)<(m:Int):=by omega
 obtain⟨a2,cap2,rfl,_,_⟩:=cw pK.out;go_wp2_with fail;go_loopw[16] (λx wr=>∃(k:Nat) (C:List Trm),k<=m/\x=af (k:Int)/\C.length=m/\C.take k=(K.map CP).take k/\C.drop k=K.drop k/\wr.ownsRow w0.heap.size 111 4 (.slice a2 m cap2) m (C.flatMap aI)/\ar wr w.heap.size 41 [af 0,.slice none 0 0]/\Bw w0 wr) (λx _=>m-(intOf x).toNat);case atStart=>exact⟨0,K,Nat.zero_le _,rfl,Hm.out,rfl,rfl,pK.out,Hr.out,KA.out⟩
 case round=>
  clear Hr pK KA;obtain⟨k,C,hk,rfl,hC,htk,hdr,hov,hr,pb⟩:=hrel;by_cases hlt:k<m
  . obtain⟨g,cc,he,hg1,hg2,hg3⟩:=ui hov zo;simp only[Value.slice.injEq,true_and]at he;obtain⟨rfl,rfl⟩:=he;have wJ:k<C.length:=by omega
    have AR:k<K.length:=by have:=Hm.out;omega
    have hel:=ZP hdr wJ AR;obtain⟨l,s,q,e,hx⟩:∃l s m e,C[k]=(l,s,m,e):=⟨_,_,_,_,rfl⟩;have dY:=HKf.out _ (List.getElem_mem AR);rw[<-hel,hx]at dY;obtain⟨D,hD⟩:=au (dval (s,q,e));have mZ:=aeq CP K C k wJ (by rw[hC,Hm.out]) htk hel;have GK:CP C[k]=(l,canon D):=by rw[hx,<-hD];rfl
    rw[GK]at mZ;have lh:C[k].1=l:=by rw[hx]
    have hw:=Nj hov k wJ hx;have hd2:C.drop (k+1)=K.drop (k+1):=by rw[<-List.drop_drop,<-List.drop_drop,hdr]
    have aX:=gX m cap2 k (k:Int) (rfl:(some ⟨g,0,none⟩:Option Addr)=_) hlt rfl;rw[Nat.zero_add]at aX;have Fa:Hid (∀W,aB W->Cv 155 #[.agg #[ag s,ah q,af e]] W (bT D)):=λW GA=>rE s q e D hD W dY.1 GA;obtain⟨cV,aP,Fv,vL,HC,Ox,zG⟩:=iX hov pb mZ hd2 hC lh (HT.out.below pb);have Hr:Hid (ar wr w.heap.size 41 [af 0,.slice none 0 0]):=hr;have Hz:Hid (aQ wr g (k*4) [ah l,ag s,ah q,af e]):=hw;clear hov pb mZ hd2 hC hr hw htk hdr hel hx dY hD GK lh AR;have Hb:=hbz wr;obtain⟨ae,ai⟩:=qZ (Hz.an trivial);have z2:wr.cell? ⟨g,k*4+2,none⟩=some (ah q):=ae.1.out.cell 2 zm;have y2:wr.cell? ⟨g,k*4+1+1,none⟩=some (ah q):=z2;have z3:wr.cell? ⟨g,k*4+3,none⟩=some (af e):=ae.1.out.cell 3 zm;have y3:wr.cell? ⟨g,k*4+1+2,none⟩=some (af e):=z3;go_wp2_with fail;refine aK (Hb.an ae) (Fa.out _ zG.out) λw5 ae ai=>?_;have iU:=ownsRow_below cV.out ae.1.out;clear y2 y3;have z2:w5.cell? ⟨g,k*4+2,none⟩=some (ah q):=ae.2.1.out.cell 2 zm;have y2:w5.cell? ⟨g,k*4+1+1,none⟩=some (ah q):=z2;have z3:w5.cell? ⟨g,k*4+3,none⟩=some (af e):=ae.2.1.out.cell 3 zm;have y3:w5.cell? ⟨g,k*4+1+2,none⟩=some (af e):=z3;have yg:=jT iU (k*4+1);have Gk:=jT iU (k*4+1+1);have fz3:=jT iU (k*4+1+2);have hgb:=(vr iU).2;have DJ:=Hr.out.below ae.1.out;have dv:=aF aP.out ae.1.out;have GR:g≠w.heap.size:=λe=>DJ.not_row zd iU (by rw[e];rfl);obtain⟨zX,Ct,eu⟩:=bM iU DJ dv;clear iU DJ dv;go_wp2;refine⟨⟨k+1,C.set k (l,canon D),by omega,by go_num,by rw[List.length_set];exact HC.out,Fv.out,by rw[QW _ _ _ _ zo];exact vL.out,?_,?_,?_⟩,by simp[intOf];omega⟩
    . have h:=aeX zX.out k wJ (az (dN D)) (nt (dN D).natAbs) (dE D);rw[Ox.out]at h;exact h
    . exact((Ct.out.azV _ GR _).azV _ GR _).azV _ GR _
    . exact((eu.out.setCell zp _).setCell zp _).setCell zp _
  . obtain rfl:k=m:=by omega
    have Gm:C=K.map CP:=by rw[List.take_of_length_le zo,List.take_of_length_le (by rw[List.length_map];have:=Hm.out;omega)]at htk;exact htk
    rw[Gm]at hov;obtain⟨cV,aP⟩:=aH hov pb;have Hr:Hid (ar wr w.heap.size 41 [af 0,.slice none 0 0]):=hr;clear hov pb hr htk hdr hC Gm;obtain⟨r0,aZ,r1,bf⟩:=Hr.out.g2;go_wp2;have hne:=(Hr.out.not_row zd cV.out).symm;have hrs:=Hr.out.lt;refine dI (λw9=>ar w9 w.heap.size 41 [af V,.slice a2 k cap2]/\w9.ownsRow w0.heap.size 111 4 (.slice a2 k cap2) k ((K.map CP).flatMap aI)/\Bw w0 w9) ⟨(Hr.out.set 0 _).set 1 _,ownsRow_setCell_other (ownsRow_setCell_other cV.out hne _) hne _,(aP.out.setCell hz _).setCell hz _⟩ ?_;rintro w9 ⟨kx,fC,ml⟩;obtain⟨q0,q1⟩:=kx.c2;exact bodyPost_ret (v:=.tuple #[.agg #[af V,.slice a2 k cap2],af 0]) (by simp[results,Tryz.results205,go_sem,q0,q1]) rfl ⟨_,rfl,fC,ml⟩
def Lf (V:Int)(v:Value)(n:Nat)(ts C:List Trm)(B:Nat)(w0 w:World)(hb0:Bw w0 w)(hn:ts.length=n)(hl:n<=4096)(ho:w.ownsRow w0.heap.size 111 4 v n (ts.flatMap aI))(hf:∀t∈ts,Fit B t.2)(hB:B+n+2<=268435456)(hT:aB w0)(hC:aU ts=C):
 Cl 205 #[af V,v] w λe w'=>∃a c,e=.returned (.tuple #[.agg #[af V,.slice a C.length c],af 0])/\w'.ownsRow w0.heap.size 111 4 (.slice a C.length c) C.length (C.flatMap aI)/\Bw w0 w':=by
 subst hC;refine(al4 V v n ts B w0 w hb0 hn hl ho hf hB hT).mono ?_;rintro e w' ⟨v',rfl,h1,h2⟩;obtain⟨a,c,rfl,_,_⟩:=cw h1;exact⟨a,c,rfl,h1,h2⟩
def as7 {w W:World}{b base k:Nat}{v x0 x1:Value}{xs:List Value}(hr:ar W b 41 [x0,x1])(ho:W.ownsRow base 111 4 v k xs)(hb:Bw w W)(hbs:w.heap.size<=b)(y0 y1:Value):
 ar ((W.setCell ⟨b,0,none⟩ y0).setCell ⟨b,1,none⟩ y1) b 41 [y0,y1]/\((W.setCell ⟨b,0,none⟩ y0).setCell ⟨b,1,none⟩ y1).ownsRow base 111 4 v k xs/\Bw w ((W.setCell ⟨b,0,none⟩ y0).setCell ⟨b,1,none⟩ y1):=by
 have hne:=(hr.not_row zd ho).symm;exact⟨(hr.set 0 _).set 1 _,ownsRow_setCell_other (ownsRow_setCell_other ho hne _) hne _,(hb.setCell hbs _).setCell hbs _⟩
def CO {P:Program}{fn:Func}{R:Ending->World->Prop}{e:Exit}{a:Act}{w W:World}{b base k:Nat}{v x0 x1 y0 y1:Value}{xs:List Value}(hr:ar W b 41 [x0,x1])(ho:W.ownsRow base 111 4 v k xs)(hb:Bw w W)(hbs:w.heap.size<=b)
 (h:∀W',ar W' b 41 [y0,y1]->W'.ownsRow base 111 4 v k xs->Bw w W'->bodyPost P fn R e a W'):bodyPost P fn R e a ((W.setCell ⟨b,0,none⟩ y0).setCell ⟨b,1,none⟩ y1):=by
 obtain⟨h1,h2,h3⟩:=as7 hr ho hb hbs y0 y1;exact h _ h1 h2 h3
end Go.Proofs.YtpfgffadgkkedaaGreatDoor
namespace Go.Proofs.YtpfgffadgkkedaaGreatDoor
open Go.RowKit
end Go.Proofs.YtpfgffadgkkedaaGreatDoor
