/- An own row cut short,cleared behind;an own row as a whole block. -/
import Derived.Test.YtpfgffadgkkedaaGreatDoorZ11
import Derived.Laws.CopyRow
import Derived.Laws.AppendOwnNone
import Derived.Deep.DeepAppendRoom
import Derived.Test.YtpfgffadgkkedaaGreatDoorZ7
import Derived.Test.YtpfgffadgkkedaaGreatDoorZ12
import Derived.Test.YtpfgffadgkkedaaGreatDoorZ13
import Derived.Test.YtpfgffadgkkedaaGreatDoorZ9
import Derived.Test.YtpfgffadgkkedaaGreatDoorZ10
import Derived.Maps.AppendAt
set_option linter.all false
set_option maxRecDepth 100000
set_option maxHeartbeats 16000000
namespace Go.Proofs.YtpfgffadgkkedaaGreatDoor
open Go.RowKit
def abM {w:World}{base:Nat}{e:TypeId}{size n cap g:Nat}{xs:List Value}(h:w.ownsRow base e size (.slice (some ⟨g,0,none⟩) n cap) n xs)(i:Nat)(hi:i<=n):
 w.ownsRow base e size (.slice (some ⟨g,0,none⟩) i cap) i (xs.take (i*size)):=by
 have og:i*size<=n*size:=Nat.mul_le_mul_right _ hi;refine⟨by rw[List.length_take,h.1];omega,?_⟩;rcases h.2 with⟨h1,_⟩ |⟨g',cap',cur,h1,hb,hg,h4,h5,h6,hx⟩
 . simp at h1
 . simp only[Value.slice.injEq,Option.some.injEq,Addr.mk.injEq,and_true,true_and]at h1;obtain⟨rfl,rfl⟩:=h1;refine .inr ⟨g,cap,cur,rfl,hb,hg,by omega,h5,h6,?_⟩;rw[<-hx,List.take_take,Nat.min_eq_left og]
def rU {w:World}{base:Nat}{e:TypeId}{size n:Nat}{v:Value}{xs:List Value}(h:w.ownsRow base e size v n xs)(hn:0<n):∃g cap,v=.slice (some ⟨g,0,none⟩) n cap/\base<=g/\g<w.heap.size/\n<=cap:=by
 rcases h.2 with⟨_,h1⟩ |⟨g,cap,cur,h1,hb,hg,h4,_⟩
 . omega
 . exact⟨g,cap,h1,hb,(Array.getElem?_eq_some_iff.1 hg).1,h4⟩
def apE {w:World}{base:Nat}{e:TypeId}{size n cap g:Nat}{xs:List Value}(h:w.ownsRow base e size (.slice (some ⟨g,0,none⟩) n cap) n xs)(o:Nat)(vs:List Value)(ho:n*size<=o)(cur:Array Value)(Dk:w.heap[g]?=some (.cells cur e (0,0)))(hl:o+vs.length<=cur.size):
 (w.setRow g (cur.toList.take o++vs++cur.toList.drop (o+vs.length)).toArray).ownsRow base e size (.slice (some ⟨g,0,none⟩) n cap) n xs/\w.grownBy (w.setRow g (cur.toList.take o++vs++cur.toList.drop (o+vs.length)).toArray) (some g):=by
 have hh:=setRow_heap w g cur (cur.toList.take o++vs++cur.toList.drop (o+vs.length)).toArray e (0,0) Dk;constructor
 . refine⟨h.1,?_⟩;rcases h.2 with⟨h1,_⟩ |⟨g',cap',cur',h1,hb,hg,h4,h5,h6,hx⟩
   . simp at h1
   . simp only[Value.slice.injEq,Option.some.injEq,Addr.mk.injEq,and_true,true_and]at h1;obtain⟨rfl,rfl⟩:=h1;rw[Dk]at hg;simp only[Option.some.injEq,Obj.cells.injEq,and_true]at hg;subst hg;refine .inr ⟨g,cap,_,rfl,hb,hh,h4,h5,?_,?_⟩
     . rw[<-h6];have hcl:cur.toList.length=cur.size:=Array.length_toList;simp only[List.size_toArray,List.length_append,List.length_take,List.length_drop,hcl];omega
     . rw[<-hx];have hcl:cur.toList.length=cur.size:=Array.length_toList;simp only[List.append_assoc];rw[List.take_append_of_le_length (by rw[List.length_take,hcl];omega),List.take_take,Nat.min_eq_left ho]
 . refine⟨rfl,rfl,rfl,by simp[World.setRow],λk hk hne=>?_⟩;unfold World.setRow;simp only[Array.getElem?_modify];rw[if_neg (λe=>hne (by rw[e]))]
def ach {P:Program}(w:World)(t e:TypeId)(z:Value)(size:Nat)(ht:P.underlying t=some (.slice e))(hv:∀w,(zeroValue e).run P w=.ok z w)(hz:z.cells.size=size)(h1:∀v∈z.cells.toList,v.oneCell'=true)(g n m cap c:Nat)(base:Nat)(xs:List Value)
 (h:w.ownsRow base e size (.slice (some ⟨g,0,none⟩) n cap) n xs) (hm:n+m<=cap):
 ∃w',(∀ty,(Builtin.clear_ #[t] ty #[.slice (some ⟨g,n*size,none⟩) m c]).run P w=.ok (.tuple #[]) w')/\w'.ownsRow base e size (.slice (some ⟨g,0,none⟩) n cap) n xs/\w.grownBy w' (some g):=by
 rcases h.2 with⟨h2,_⟩ |⟨g',cap',cur,h2,hb,hg,h4,h5,h6,hx⟩
 . simp at h2
 simp only[Value.slice.injEq,Option.some.injEq,Addr.mk.injEq,and_true,true_and]at h2;obtain⟨rfl,rfl⟩:=h2;by_cases hm0:m=0
 . subst hm0;refine⟨w,λty=>?_,h,World.grownBy.refl _ _⟩;simp[Builtin.clear_,run_underlying ht]
 . obtain⟨vs,hvs⟩:=az ((Builtin.zeroCells z.cells m).toList);have hvl:vs.length=m*size:=by rw[<-hvs,Array.length_toList,size_zeroCells,hz]
   have vH:∀v∈vs,v.oneCell'=true:=by
    intro v hv2;rw[<-hvs]at hv2;unfold Builtin.zeroCells at hv2;simp only[Array.toList_map,Array.toList_range,List.mem_map,List.mem_range]at hv2;obtain⟨i,hi,rfl⟩:=hv2;have hs:0<z.cells.size:=by
     rcases Nat.eq_zero_or_pos z.cells.size with h0|h0
     . rw[h0]at hi;simp at hi
     . exact h0
    have:=Nat.mod_lt i hs;rw[getElem!_pos z.cells (i%z.cells.size) this];exact h1 _ zm
   have hle:n*size+0+vs.length<=cur.size:=by rw[hvl,h6];have:=Nat.mul_le_mul_right size hm;rw[Nat.add_mul]at this;omega
   have hst:=run_storeCells_at (P:=P) g (n*size) e vs 0 cur w hg hle vH;obtain⟨k1,k2⟩:=apE h (n*size) vs (Nat.le_refl _) cur hg zo;refine⟨_,λty=>?_,k1,k2⟩;obtain⟨m',rfl⟩:∃m',m=m'+1:=⟨m-1,by omega⟩;simp[Builtin.clear_,run_underlying ht,hv,hvs,hst]
def Sl (a:Option Addr)(n cap:Nat):Prop:=n<=cap/\(a=none->cap=0)
def Sl.nil :Sl none 0 0:=⟨Nat.le_refl _,λ_=>rfl⟩
def Sl.some (x:Addr)(n cap:Nat)(h:n<=cap):Sl (some x) n cap:=⟨h,λe=>by cases e⟩
def ue {w:World}{base:Nat}{e:TypeId}{size n k cap:Nat}{a:Option Addr}{xs:List Value}(h:w.ownsRow base e size (.slice a k cap) n xs):Sl a k cap:=by
 rcases h.2 with⟨h1,_⟩ |⟨g,cap',cur,h1,hb,hg,h4,_⟩
 . simp only[Value.slice.injEq]at h1;obtain⟨rfl,rfl,rfl⟩:=h1;exact Sl.nil
 . simp only[Value.slice.injEq]at h1;obtain⟨rfl,rfl,rfl⟩:=h1;exact Sl.some _ _ _ h4
def RN {P:Program}{w:World}{ops:Array Oper}{rest:List Oper}{o:Oper}{a:Act}{Q:Exit->Act->World->Prop}(hgd:o.guard=none)(s x:Operand)(t:TypeId)
 (ho:o.op=.call {callee:=.builtin .append,args:=#[s,x],argTypes:=#[t,t]})
 (base:Nat) (e:TypeId) (i:TypeInfo) (z:Value) (size bytes:Nat) (ht:P.underlying t=Option.some (.slice e)) (hi:P.info? e=Option.some i) (hz:i.zero=Option.some z)
 (hsize:i.size=size) (hby:i.bytes=bytes) (hzs:z.cells.size=size) (hsz:0<size)
 (v:Value) (n:Nat) (xs:List Value) (hs:a.eval s=v) (hown:w.ownsRow base e size v n xs)
 (aa:Option Addr) (m c:Nat) (news:List Value) (hx:a.eval x=.slice aa m c) (hsl:aa=none->m=0/\c=0) (hl:news.length=m*size) (hat:At w aa news) (h1:∀u∈news,u.oneCell'=true)
 (h63:n+m<=maxLen) (hbytes:(n+m) *bytes<=140737488355328) (hbase:base<=w.heap.size)
 (h:∀v' w',w'.ownsRow base e size v' (n+m) (xs++news)->w.grownBy w' v.ownBlock->(v'.ownBlock=v.ownBlock\/v'.ownBlock=Option.some w.heap.size)->wpList P ops Q rest (a.put o.dst v') w'):
 wpList P ops Q (o::rest) a w:=by
 cases aa with
 |none=>obtain⟨hm,hc⟩:=hsl rfl;subst hc;subst hm;have hn:news=[]:=List.eq_nil_of_length_eq_zero (by simpa using hl);subst hn;refine wpList_append_own_none hgd s x t ho base e i size ht hi v n xs hs hown hx ?_;exact h v w (by simpa using hown) (World.grownBy.refl _ _) (.inl rfl)
 | some ad=>
   refine wpList_append_own_at w hgd s x t ho base e i z size bytes ht hi hz hsize hby hzs hsz v n xs hs hown ad m c news hx hl ?_ h1 h63 hbytes hbase (λv' w' h2 h3 _ h5=>h v' w' h2 h3 h5);intro j u hj;rcases hat with h0|⟨b,o',e',hc⟩
   . subst h0;simp at hj
   . simp only[Option.some.injEq]at e';subst e';have hjl:=(List.getElem?_eq_some_iff.1 hj).1;have e2:((⟨b,o',none⟩:Addr).add j)=⟨b,o'+j,none⟩:=by unfold Addr.add;cases j<;>simp
     rw[e2,hc j hjl];exact hj
def se {P:Program}{w:World}{ops:Array Oper}{rest:List Oper}{o:Oper}{a:Act}{Q:Exit->Act->World->Prop}(hgd:o.guard=none)(s x:Operand)(t:TypeId)
 (ho:o.op=.call {callee:=.builtin .append,args:=#[s,x],argTypes:=#[t,t]})
 (base:Nat) (e:TypeId) (i:TypeInfo) (z:Value) (size bytes:Nat) (ht:P.underlying t=Option.some (.slice e)) (hi:P.info? e=Option.some i) (hz:i.zero=Option.some z)
 (hsize:i.size=size) (hby:i.bytes=bytes) (hzs:z.cells.size=size) (hsz:0<size)
 (v:Value) (n:Nat) (xs:List Value) (hs:a.eval s=v) (hown:w.ownsRow base e size v n xs)
 (aa:Option Addr) (m c:Nat) (news:List Value) (hx:a.eval x=.slice aa m c) (hsl:Sl aa m c) (hl:news.length=m*size) (hat:At w aa news) (h1:∀u∈news,u.oneCell'=true)
 (h63:n+m<=maxLen) (hbytes:(n+m) *bytes<=140737488355328) (hbase:base<=w.heap.size)
 (h:∀v' w',w'.ownsRow base e size v' (n+m) (xs++news)->w.grownBy w' v.ownBlock->(v'.ownBlock=v.ownBlock\/v'.ownBlock=Option.some w.heap.size)->wpList P ops Q rest (a.put o.dst v') w'):
 wpList P ops Q (o::rest) a w:=
 RN hgd s x t ho base e i z size bytes ht hi hz hsize hby hzs hsz v n xs hs hown aa m c news hx (λe=>⟨by have h1:=hsl.1;have h2:=hsl.2 e;omega,hsl.2 e⟩) hl hat h1 h63 hbytes hbase h
def At.cut {w:World}{a:Option Addr}{xs:List Value}{k cap size n:Nat}(h:At w a xs)(hl:xs.length=n*size)(hk:k<=n)(hc:n<=cap):At w (if cap=k then a else a.map (·.add (k*size))) (xs.drop (k*size)):=by
 rcases h with h0|⟨b,o,rfl,hcs⟩
 . subst h0;simp;exact .inl rfl
 . by_cases e:cap=k
   . have:xs.drop (k*size)=[]:=List.drop_of_length_le (by rw[hl];exact Nat.mul_le_mul_right _ zo);rw[this];exact .inl rfl
   . rw[if_neg e];have e2:((⟨b,o,none⟩:Addr).add (k*size))=⟨b,o+k*size,none⟩:=by unfold Addr.add;split<;>simp_all
     refine .inr ⟨b,o+k*size,by rw[Option.map_some,e2],λj hj=>?_⟩;rw[List.length_drop]at hj;rw[Nat.add_assoc,hcs _ zo,List.getElem?_drop]
def Sl.cut {a:Option Addr}{k cap size n:Nat}(h:Sl a n cap)(hk:k<=n):Sl (if cap=k then a else a.map (·.add (k*size))) (n-k) (cap-k):=by
 refine⟨by have:=h.1;omega,λe=>?_⟩;by_cases e1:cap=k
 . omega
 . rw[if_neg e1]at e
   have:=h.2 (by cases a with
    |none=>rfl
    |some x=>simp at e)
   omega
def Pc (w:World)(v:Value)(cX:List Raw):Prop:=∃a cap,v=.slice a cX.length cap/\At w a (cX.flatMap aY)/\Sl a cX.length cap
def Pc.below {w w':World}{v:Value}{cX:List Raw}(h:Pc w v cX)(hb:Bw w w'):Pc w' v cX:=by obtain⟨a,cap,hv,ha,hs⟩:=h;exact⟨a,cap,hv,ha.below hb,hs⟩
def sP (w:World)(a:Option Addr)(rows:List (List Raw)):Prop:=∃vals:List Value,vals.length=rows.length/\At w a vals/\∀i (h:i<rows.length) (h':i<vals.length),Pc w vals[i] rows[i]
def sP.below {w w':World}{a:Option Addr}{rows:List (List Raw)}(h:sP w a rows)(hb:Bw w w'):sP w' a rows:=by obtain⟨vals,hl,ha,hp⟩:=h;exact⟨vals,hl,ha.below hb,λi h1 h2=>(hp i h1 h2).below hb⟩
def sP.tbl {w:World}{a:Option Addr}{rows:List (List Raw)}(h:sP w a rows):cC w a rows:=by obtain⟨vals,hl,ha,hp⟩:=h;refine⟨vals,hl,ha,λi h1 h2=>?_⟩;obtain⟨a',c',e1,e2,_⟩:=hp i h1 h2;exact⟨a',c',e1,e2⟩
def sP.row {w:World}{a:Option Addr}{rows:List (List Raw)}(h:sP w a rows)(k:Nat)(hk:k<rows.length):
 ∃b o a' cap',a=some ⟨b,o,none⟩/\w.cell? ⟨b,o+k,none⟩=some (.slice a' rows[k].length cap')/\At w a' (rows[k].flatMap aY)/\Sl a' rows[k].length cap':=by
 obtain⟨vals,hl,ha,hp⟩:=h;have hk2:k<vals.length:=by rw[hl];exact hk
 obtain⟨b,o,hab,hcs⟩:=ha.get (by intro h0;rw[h0]at hk2;simp at hk2);obtain⟨a',cap',hv,hat,hs⟩:=hp k hk hk2;exact⟨b,o,a',cap',hab,by rw[hcs k hk2,List.getElem?_eq_getElem hk2,hv],hat,hs⟩
def Qx (cX:List Raw):∀u∈cX.flatMap aY,u.oneCell'=true:=by intro u hu;obtain⟨r,_,hr⟩:=List.mem_flatMap.1 hu;simp only[aY,List.mem_cons,List.not_mem_nil,or_false]at hr;rcases hr with rfl|rfl|rfl<;>rfl
end Go.Proofs.YtpfgffadgkkedaaGreatDoor
namespace Go.Proofs.YtpfgffadgkkedaaGreatDoor
open Go.RowKit
attribute [local go_sem ↓] Go.wp_at_zero Go.wp_at_succ
def Tryz.awN :(Tryz.prog.info? 111).map (λi=>(i.zero,i.size,i.bytes))=some (some (.agg #[.string (bs []),ag false,.string (bs []),af 0]),4,48):=by kernel_rfl
def ll (ts:List Trm):(ts.flatMap aH).length=ts.length*4:=jJ aH 4 (λ_=>rfl) ts
def rZ (ts:List Trm):∀u∈ts.flatMap aH,u.oneCell'=true:=by intro u hu;obtain⟨r,_,hr⟩:=List.mem_flatMap.1 hu;simp only[aH,List.mem_cons,List.not_mem_nil,or_false]at hr;rcases hr with rfl|rfl|rfl|rfl<;>rfl
def Rv (t:Trm)(ts:List Trm):(t::ts).flatMap aH=aH t++ts.flatMap aH:=List.flatMap_cons
def At.tail {w:World}{b o c:Nat}{x:Trm}{ts:List Trm}(h:At w (some ⟨b,o,none⟩) ((x::ts).flatMap aH))(hc:ts.length+1<=c):At w (if c=1 then some ⟨b,o,none⟩else some ⟨b,o+4,none⟩) (ts.flatMap aH):=by
 have hk:=At.cut (k:=1) (size:=4) (n:=ts.length+1) (cap:=c) h (by rw[ll];rfl) zo hc;have e:((x::ts).flatMap aH).drop (1*4)=ts.flatMap aH:=by rw[Rv];rfl
 rw[e]at hk;exact hk
def Sl.tail {b o c n:Nat}(h:Sl (Option.some ⟨b,o,none⟩) (n+1) c):Sl (if c=1 then Option.some (⟨b,o,none⟩:Addr)else Option.some ⟨b,o+4,none⟩) n (c-1):=by refine⟨by have:=h.1;omega,λe=>?_⟩;split at e<;>cases e
def arx (l l':List UInt8):(uj l l'= -1/\Op.bytesLess l l'=true)\/(uj l l'=1/\Op.bytesLess l l'=false/\Op.bytesLess l' l=true)\/(uj l l'=0/\Op.bytesLess l l'=false/\Op.bytesLess l' l=false):=by
 unfold uj;cases h1:Op.bytesLess l l' with
 |true=>exact .inl ⟨by simp,rfl⟩
 | false=>
   cases h2:Op.bytesLess l' l with
   |true=>exact .inr (.inl ⟨by simp,rfl,rfl⟩)
   |false=>exact .inr (.inr ⟨by simp,rfl,rfl⟩)
def abj (a:Option Addr)(n cap:Nat)(ta:List Trm)(a':Option Addr)(n' cap':Nat)(tb:List Trm)(B:Nat)(w:World)(hn:ta.length=n)(hn':tb.length=n')(hs:Sl a n cap)(hs':Sl a' n' cap')(hl:n<=65536)(hl':n'<=65536)(ha:At w a (ta.flatMap aH))(ha':At w a' (tb.flatMap aH))
 (iq:∀t∈ta,Fit B t.2) (eK:∀t∈tb,Fit B t.2) (hB:B+2<=268435456) (hT:aB w):
 Cl 230 #[.slice a n cap,.slice a' n' cap',.func (.func 231) #[] #[],.func (.func 232) #[] #[]] w λe w'=>∃v',e=.returned v'/\w'.ownsRow w.heap.size 111 4 v' (fM ta tb).length ((fM ta tb).flatMap aH)/\Bw w w':=by
 obtain⟨i0,hi,hz0,hz1,hz2⟩:=info_parts Tryz.awN;obtain⟨M,hM⟩:=az (fM ta tb);have CJ:=enters_of Tryz.func231 zk rfl;have CI:=enters_of Tryz.func232 zk rfl;rw[hM];obtain⟨Hi,cp,bR,bV,HM,KX,KW,Hs,Uf,Ha,qW,sB⟩:=gN hi hz0 hz1 hz2 hM CJ CI hs hs' ha ha' iq;obtain⟨wD,HT,Hn,FH⟩:=bU eK hT hn hn';obtain⟨N,hN⟩:=az (n+n');have Xb:(n:Int)+(n':Int)=(N:Int):=by omega
 have HN:=aj hN;clear hi hz0 hz1 hz2 hM CJ CI hs hs' ha ha' iq eK hT hn hn' hN;have hN1:N<=131072:=by have:=HN.out;omega
 go_enter Tryz.func230,Tryz.ntmps230;go_wp2_with (at_make;refine wpList_make_own _ rfl _ _ 39 rfl w.heap.size 111 i0 _ 4 Tryz.underlying39 Hi.out cp.out bR.out _ _ _ N rfl rfl (by first|exact Xb|rfl) (by rw[bV.out];omega) zx (Nat.le_refl _) ?_;intro w1 hown hgrow);obtain⟨hb1,nP⟩:=aI ((Below.refl w.heap.size w).grown hgrow (Nat.le_refl _) (by intro k hk;cases hk)) hown;clear hown hgrow Xb
 go_loopw[0,1,9] (λva vb vo wr=>∃(ra rb acc:List Trm) (p q ca cb:Nat) (aa ab:Option Addr) (v:Value),v=vo/\va=.slice aa p ca/\vb=.slice ab q cb/\ra.length=p/\rb.length=q/\Sl aa p ca/\Sl ab q cb/\At w aa (ra.flatMap aH)/\At w ab (rb.flatMap aH)/\
  (∀t∈ra,Fit B t.2)/\(∀t∈rb,Fit B t.2)/\wr.ownsRow w.heap.size 111 4 v acc.length (acc.flatMap aH)/\acc.length+p+q<=N/\acc++fM ra rb=M/\Bw w wr) (λva vb _ _=>(vL va+vL vb).toNat)
 case atStart=>exact⟨ta,tb,[],n,n',cap,cap',a,a',_,rfl,rfl,rfl,Hn.out,FH.out,Hs.out,Uf.out,Ha.out,qW.out,sB.out,wD.out,nP.out,by rw[<-HN.out];simp,by simpa using HM.out,hb1.out⟩
 case round=>
  clear hb1 nP Ha qW Hs Uf sB wD Hn FH HM;obtain⟨ra,rb,acc,p,q,ca,cb,aa,ab,v,rfl,rfl,rfl,tJ,qD,hsa,lV,hat,hat',iq,eK,hov,hlen,hM,pb⟩:=hrel;by_cases hpq:0<p/\0<q
  . obtain ⟨hp,hq⟩:=hpq;obtain⟨x,ra,rfl⟩:∃x l,ra=x::l:=by cases ra with
     |nil=>simp at tJ;omega
     |cons x l=>exact⟨x,l,rfl⟩
    obtain⟨y,rb,rfl⟩:∃x l,rb=x::l:=by cases rb with
     |nil=>simp at qD;omega
     |cons x l=>exact⟨x,l,rfl⟩
    obtain⟨l,s,m,e⟩:=x;obtain⟨l',s',m',e'⟩:=y;obtain⟨p,rfl⟩:∃p',p=p'+1:=⟨p-1,by omega⟩;obtain⟨q,rfl⟩:∃q',q=q'+1:=⟨q-1,by omega⟩;have cS:=iq (l,s,m,e) zm;have iV:=eK (l',s',m',e') zm;have Yw:∀t∈ra,Fit B t.2:=λt ht=>iq t (by simp[ht]);have Yx:∀t∈rb,Fit B t.2:=λt ht=>eK t (by simp[ht]);obtain⟨b1,o1,rfl,hw1⟩:=(hat.below pb).term 0 zm rfl;obtain⟨b2,o2,rfl,hw2⟩:=(hat'.below pb).term 0 zm rfl;simp only[Nat.zero_mul,Nat.add_zero]at hw1 hw2;have oY:b1<w.heap.size:=hat.lt (by rw[Rv];simp[aH]);have mg:b2<w.heap.size:=hat'.lt (by rw[Rv];simp[aH]);have js:=hat.tail (c:=ca) (by have:=hsa.1;simp at tJ;omega);have qE:=hat'.tail (c:=cb) (by have:=lV.1;simp at qD;omega);have aac:=hsa.tail;have aad:=lV.tail;have Jq:=fW (p+1) ca 0 0 (rfl:(some ⟨b1,o1,none⟩:Option Addr)=_) zo rfl;have Jr:=fW (q+1) cb 0 0 (rfl:(some ⟨b2,o2,none⟩:Option Addr)=_) zo rfl;rw[Nat.zero_mul,Nat.add_zero]at Jq Jr;have xu:p+1<=ca:=hsa.1;have hcb:q+1<=cb:=lV.1;have LU:Hid (ra.length=p):=by show _=_;simpa using tJ
    have LV:Hid (rb.length=q):=by show _=_;simpa using qD
    obtain⟨LW,Cf,Ul,Um,uD,ze,eG,aeI,ie,nK,sB,wD⟩:=gN hsa lV aac aad js qE hat hat' cS iV Yw Yx;obtain⟨afn,afo,cN,HM,aO,pz⟩:=ia iq eK hov hM pb (HT.out.below pb);have Hx:Hid (aR wr b1 o1 [ah l,ag s,ah m,af e]):=hw1;have Hy:Hid (aR wr b2 o2 [ah l',ag s',ah m',af e']):=hw2;have ZU:=tJ;have ZV:=qD;simp only[List.length_cons]at ZU ZV;clear tJ qD hsa lV hat hat' iq eK hov hM pb cS iV Yw Yx hw1 hw2 js qE aac aad ZU ZV;have Hb:=hbz wr;have zR:=KX.out;have gQ:=aO.out.size;obtain⟨gs,Dw⟩:∃g,uj l l'=g:=⟨_,rfl⟩;have AB:=λW=>ary l s m e l' s' m' e' W;have hcs:=arx l l';rw[Dw]at AB hcs;obtain⟨FP,Te⟩:=aI AB hcs;clear AB hcs Dw;go_wp2_with fail;obtain⟨ae,ai⟩:=qZ (Hx.an<|Hy.an trivial);have HU:Hid (aB wr):=pz.out;have ae:=Hb.an<|HU.an ae
    refine cQ 999 ae (cM 9 0x110e0d0b0907050301) ?_;refine bC ?_;refine bO ae (FP.out _) λw2 ae=>?_;refine bC ?_;refine cP ae λai=>?_;have hcs:=Te.out;have hp1:(1:Int)<=(p:Int)+1:=by omega
    have hq1:(1:Int)<=(q:Int)+1:=by omega
    clear Te FP zR;rcases hcs with⟨rfl,h1⟩ |⟨rfl,h1,h2⟩ |⟨rfl,h1,h2⟩
    . have ww:Hid ((acc++[(l,s,m,e)])++fM ra ((l',s',m',e')::rb)=M):=by
       show _=_
       rw[<-HM.out,ua,if_pos h1];simp
      have wm:Hid ((acc++[(l,s,m,e)]).flatMap aH=acc.flatMap aH++[ah l,ag s,ah m,af e]):=by
       show _=_
       rw[List.flatMap_append];rfl
      clear h1;go_wp2_with fail;obtain⟨Hb,HU,Hx,Hy,_⟩:=ae;obtain⟨x0,x1,x2,x3⟩:=Hx.out.w4;obtain⟨y0,y1,y2,y3⟩:=Hy.out.w4;refine eW (λw'=>aK w' b1 o1 (ah l)/\aK w' b1 (o1+1) (ag s)/\aK w' b1 (o1+2) (ah m)/\aK w' b1 (o1+3) (af e)) (λi=>Nat.blt i 100000) [(0,true),(1,true),(2,true),(3,true),(6,true),(7,true),(4,false),(5,false),(8,true),(9,true)] zk zk rfl zk zc ⟨x0,x1,x2,x3⟩ ?_;iterate 6 (refine pT rfl rfl ?_ (by intro w' ⟨q0,q1,q2,q3⟩;go_simp;try with_reducible rfl);try simp only[UU])
      refine aP rfl rfl (λK hK=>?_);go_simp;refine hK _ _ (λ_=>⟨aV x0,aV x1,aV x2,aV x3⟩) ?_;try simp only[UU]
      refine bY (λW3=>ar W3 (w2.heap.size) 111 [ah l,ag s,ah m,af e]/\Bw w2 W3) (by first|exact iA|exact iB) ?_;rintro W3 ⟨qc,ak⟩;replace Hx:=kW Hx ak;replace Hy:=kW Hy ak;replace HU:=kT HU ak;have Hc:=aj qc;clear qc;obtain⟨x0,x1,x2,x3⟩:=Hx.out.w4;obtain⟨y0,y1,y2,y3⟩:=Hy.out.w4;obtain⟨c0,c1,c2,c3⟩:=Hc.out.c4;replace Hb:=aZ Hb ak;refine aP rfl rfl (λK hK=>?_);have eP:=ownsRow_below cN.out Hb.out;have hs3:=Hb.out.size;refine wp_append_own _ _ _ 39 rfl w.heap.size 111 i0 _ 4 48 Tryz.underlying39 Hi.out cp.out bR.out bV.out rfl zd v acc.length (acc.flatMap aH) rfl eP ⟨w2.heap.size,0,none⟩ 1 1 [ah l,ag s,ah m,af e] rfl rfl (fJ Hc.out) zy zx zo zo ?_;intro v' w8 eO bF _;have nb:∀b,b<w.heap.size->some b≠v.ownBlock:=λb hb e=>by have:=cZ eP b e.symm;omega
      refine hK _ _ (λ_=>⟨cK bF x0 (nb _ oY),cK bF x1 (nb _ oY),cK bF x2 (nb _ oY),cK bF x3 (nb _ oY)⟩) ?_;try simp only[UU]
      iterate 2 (refine pT rfl rfl ?_;try simp only[UU])
      simp only[bI];have BA:=aj ((aC aO.out Hb.out).grown bF zo (λj e=>cZ eP j e));have iE:Hid (w8.ownsRow w.heap.size 111 4 v' (acc++[(l,s,m,e)]).length ((acc++[(l,s,m,e)]).flatMap aH)):=by
       show w8.ownsRow _ _ _ _ _ _
       rw[wm.out,List.length_append];exact eO
      clear nb eP eO bF x0 x1 x2 x3 y0 y1 y2 y3 c0 c1 c2 c3 Jq Jr;go_wp2;go_roundw;case rel=>exact⟨ra,((l',s',m',e')::rb),acc++[(l,s,m,e)],p,(q+1),_,_,_,_,v',rfl,rfl,rfl,LU.out,(by have:=LV.out;simp;exact this),Ul.out,Cf.out,uD.out,aeI.out,sB.out,afo.out,iE.out,by simp;omega,ww.out,BA.out⟩
      case measure=>simp[vL];omega
    ·
     have ww:Hid ((acc++[(l',s',m',e')])++fM ((l,s,m,e)::ra) rb=M):=by
      show _=_
      rw[<-HM.out,ua,if_neg (by rw[h1];decide),if_pos h2];simp
     have wm:Hid ((acc++[(l',s',m',e')]).flatMap aH=acc.flatMap aH++[ah l',ag s',ah m',af e']):=by
      show _=_
      rw[List.flatMap_append];rfl
     clear h1 h2
     go_wp2_with fail
     obtain⟨Hb,HU,Hx,Hy,_⟩:=ae
     obtain⟨x0,x1,x2,x3⟩:=Hx.out.w4
     obtain⟨y0,y1,y2,y3⟩:=Hy.out.w4
     refine eW (λw'=>aK w' b2 o2 (ah l')/\aK w' b2 (o2+1) (ag s')/\aK w' b2 (o2+2) (ah m')/\aK w' b2 (o2+3) (af e')) (λi=>Nat.blt i 100000) [(0,true),(1,true),(2,true),(3,true),(6,true),(7,true),(4,false),(5,false),(8,true),(9,true)] zk zk rfl zk zc ⟨y0,y1,y2,y3⟩ ?_
     iterate 6 (refine pT rfl rfl ?_ (by intro w' ⟨q0,q1,q2,q3⟩;go_simp;try with_reducible rfl);try simp only[UU])
     refine aP rfl rfl (λK hK=>?_)
     go_simp
     refine hK _ _ (λ_=>⟨aV y0,aV y1,aV y2,aV y3⟩) ?_
     try simp only[UU]
     refine bY (λW3=>ar W3 (w2.heap.size) 111 [ah l',ag s',ah m',af e']/\Bw w2 W3) (by first|exact iA|exact iB) ?_
     rintro W3 ⟨qc,ak⟩
     clear x0 x1 x2 x3
     clear y0 y1 y2 y3
     replace Hx:=kW Hx ak
     replace Hy:=kW Hy ak
     replace HU:=kT HU ak
     have Hc:=aj qc;clear qc
     obtain⟨x0,x1,x2,x3⟩:=Hx.out.w4
     obtain⟨y0,y1,y2,y3⟩:=Hy.out.w4
     obtain⟨c0,c1,c2,c3⟩:=Hc.out.c4
     replace Hb:=aZ Hb ak
     refine aP rfl rfl (λK hK=>?_)
     have eP:=ownsRow_below cN.out Hb.out
     have hs3:=Hb.out.size
     refine wp_append_own _ _ _ 39 rfl w.heap.size 111 i0 _ 4 48 Tryz.underlying39 Hi.out cp.out bR.out bV.out rfl zd v acc.length (acc.flatMap aH) rfl eP ⟨w2.heap.size,0,none⟩ 1 1 [ah l',ag s',ah m',af e'] rfl rfl (fJ Hc.out) zy zx zo zo ?_
     intro v' w8 eO bF _
     have nb:∀b,b<w.heap.size->some b≠v.ownBlock:=λb hb e=>by have:=cZ eP b e.symm;omega
     refine hK _ _ (λ_=>⟨cK bF y0 (nb _ mg),cK bF y1 (nb _ mg),cK bF y2 (nb _ mg),cK bF y3 (nb _ mg)⟩) ?_
     try simp only[UU]
     iterate 2 (refine pT rfl rfl ?_;try simp only[UU])
     simp only[bI]
     have BA:=aj ((aC aO.out Hb.out).grown bF zo (λj e=>cZ eP j e))
     have iE:Hid (w8.ownsRow w.heap.size 111 4 v' (acc++[(l',s',m',e')]).length ((acc++[(l',s',m',e')]).flatMap aH)):=by
      show w8.ownsRow _ _ _ _ _ _
      rw[wm.out,List.length_append];exact eO
     clear nb eP eO bF x0 x1 x2 x3 y0 y1 y2 y3 c0 c1 c2 c3 Jq Jr
     go_wp2
     go_roundw
     case rel=>exact⟨((l,s,m,e)::ra),rb,acc++[(l',s',m',e')],(p+1),q,_,_,_,_,v',rfl,rfl,rfl,(by have:=LU.out;simp;exact this),LV.out,LW.out,Um.out,eG.out,ze.out,afn.out,wD.out,iE.out,by simp;omega,ww.out,BA.out⟩
     case measure=>simp[vL];omega
    ·
     obtain⟨S,hS⟩:=az (dval (s,m,e)+dval (s',m',e'))
     have HS:=aj hS
     have ww:Hid ((acc++[(l,canon S)])++fM ra rb=M):=by
      show _=_
      rw[<-HM.out,ua,if_neg (by rw[h1];decide),if_neg (by rw[h2];decide)];simp;rw[<-hS];rfl
     have wm:Hid ((acc++[(l,canon S)]).flatMap aH=acc.flatMap aH++[ah l,ag (au (dN S)),ah (nt (dN S).natAbs),af (dE S)]):=by
      show _=_
      rw[List.flatMap_append];rfl
     clear h1 h2 hS
     have xd:=KW.out
     go_wp2_with fail
     obtain⟨Hb,HU,Hx,Hy,_⟩:=ae
     obtain⟨x0,x1,x2,x3⟩:=Hx.out.w4
     obtain⟨y0,y1,y2,y3⟩:=Hy.out.w4
     refine eW (λw'=>aK w' b1 o1 (ah l)/\aK w' b1 (o1+1) (ag s)/\aK w' b1 (o1+2) (ah m)/\aK w' b1 (o1+3) (af e)/\aK w' b2 o2 (ah l')/\aK w' b2 (o2+1) (ag s')/\aK w' b2 (o2+2) (ah m')/\aK w' b2 (o2+3) (af e')) (λi=>Nat.blt i 100000) [(0,true),(1,true),(2,true),(3,true),(4,true),(5,true),(6,true),(7,true),(11,true),(12,true),(13,true),(14,true),(8,false),(9,false),(10,false),(15,true),(16,true),(17,true)] zk zk rfl zk zc ⟨x0,x1,x2,x3,y0,y1,y2,y3⟩ ?_
     iterate 12 (refine pT rfl rfl ?_ (by intro w' ⟨q0,q1,q2,q3,q4,q5,q6,q7⟩;go_simp;try with_reducible rfl);try simp only[UU])
     refine aP rfl rfl (λK hK=>?_)
     go_simp
     with_reducible refine(arX l s m e l' s' m' e' S B HS.out _ ie.out nK.out hB (by first|exact HU.out|exact aB.drew HU.out|exact aB.alloc HU.out _|exact aB.drew (aB.alloc HU.out _) |exact aB.alloc (aB.drew HU.out) _)).mono ?_
     rintro e w4 ⟨rfl,hq⟩
     have ak:Bw w2 w4:=by first|exact hq|exact cJ hq
     clear x0 x1 x2 x3
     clear y0 y1 y2 y3
     replace Hx:=kW Hx ak
     replace Hy:=kW Hy ak
     replace HU:=kT HU ak
     obtain⟨x0,x1,x2,x3⟩:=Hx.out.w4
     obtain⟨y0,y1,y2,y3⟩:=Hy.out.w4
     replace Hb:=aZ Hb ak
     refine hK _ _ (λ_=>⟨x0,x1,x2,x3,y0,y1,y2,y3⟩) ?_
     try simp only[UU]
     refine aP rfl rfl (λK hK=>?_)
     go_simp
     refine hK _ _ (λ_=>⟨aV x0,aV x1,aV x2,aV x3,aV y0,aV y1,aV y2,aV y3⟩) ?_
     try simp only[UU]
     refine bY (λW5=>ar W5 (w4.heap.size) 111 [ah l,ag (au (dN S)),ah (nt (dN S).natAbs),af (dE S)]/\Bw w4 W5) (by first|exact iA|exact iB) ?_
     rintro W5 ⟨qc,ak⟩
     clear x0 x1 x2 x3
     clear y0 y1 y2 y3
     replace Hx:=kW Hx ak
     replace Hy:=kW Hy ak
     replace HU:=kT HU ak
     have Hc:=aj qc;clear qc
     obtain⟨x0,x1,x2,x3⟩:=Hx.out.w4
     obtain⟨y0,y1,y2,y3⟩:=Hy.out.w4
     obtain⟨c0,c1,c2,c3⟩:=Hc.out.c4
     replace Hb:=aZ Hb ak
     refine aP rfl rfl (λK hK=>?_)
     have eP:=ownsRow_below cN.out Hb.out
     have hs3:=Hb.out.size
     refine wp_append_own _ _ _ 39 rfl w.heap.size 111 i0 _ 4 48 Tryz.underlying39 Hi.out cp.out bR.out bV.out rfl zd v acc.length (acc.flatMap aH) rfl eP ⟨w4.heap.size,0,none⟩ 1 1 [ah l,ag (au (dN S)),ah (nt (dN S).natAbs),af (dE S)] rfl rfl (fJ Hc.out) zy zx zo zo ?_
     intro v' w8 eO bF _
     have nb:∀b,b<w.heap.size->some b≠v.ownBlock:=λb hb e=>by have:=cZ eP b e.symm;omega
     refine hK _ _ (λ_=>⟨cK bF x0 (nb _ oY),cK bF x1 (nb _ oY),cK bF x2 (nb _ oY),cK bF x3 (nb _ oY),cK bF y0 (nb _ mg),cK bF y1 (nb _ mg),cK bF y2 (nb _ mg),cK bF y3 (nb _ mg)⟩) ?_
     try simp only[UU]
     iterate 3 (refine pT rfl rfl ?_;try simp only[UU])
     simp only[bI]
     have BA:=aj ((aC aO.out Hb.out).grown bF zo (λj e=>cZ eP j e))
     have iE:Hid (w8.ownsRow w.heap.size 111 4 v' (acc++[(l,canon S)]).length ((acc++[(l,canon S)]).flatMap aH)):=by
      show w8.ownsRow _ _ _ _ _ _
      rw[wm.out,List.length_append];exact eO
     clear nb eP eO bF x0 x1 x2 x3 y0 y1 y2 y3 c0 c1 c2 c3 Jq Jr
     go_wp2
     go_roundw
     case rel=>exact⟨ra,rb,acc++[(l,canon S)],p,q,_,_,_,_,v',rfl,rfl,rfl,LU.out,LV.out,Ul.out,Um.out,uD.out,ze.out,sB.out,wD.out,iE.out,by simp;omega,ww.out,BA.out⟩
     case measure=>simp[vL];omega
  . have hmr:fM ra rb=ra++rb:=by
     have:p=0\/q=0:=by omega
     rcases this with rfl|rfl
     . rw[List.eq_nil_of_length_eq_zero tJ,yh];rfl
     . rw[List.eq_nil_of_length_eq_zero qD,yi];simp
    have WX:M.length=acc.length+p+q:=by rw[<-hM,hmr];simp[tJ,qD];omega
    have wm:Hid (M.flatMap aH=(acc.flatMap aH++ra.flatMap aH)++rb.flatMap aH):=by
     show _=_
     rw[<-hM,hmr,<-List.append_assoc,List.flatMap_append,List.flatMap_append]
    have hlr:(ra.flatMap aH).length=p*4:=by rw[ll,tJ]
    have Zb:(rb.flatMap aH).length=q*4:=by rw[ll,qD]
    have kQ:=hat.below pb;have au5:=hlen;obtain⟨Fz,afT,aeJ,eG,cN,aO,LW,Cf,HML⟩:=aaX hlr Zb kQ hat' hov pb hsa lV WX;clear tJ qD hmr hlr Zb hat hat' kQ hov pb hsa lV hM iq eK WX;have hsz:=aO.out.size;by_cases h0:0<p
    all_goals
     go_wp2_with (first| (at_builtin;refine se rfl (.tmp 70) (.tmp 71) 39 rfl w.heap.size 111 i0 _ 4 48 Tryz.underlying39 Hi.out cp.out bR.out bV.out rfl zd v acc.length (acc.flatMap aH) rfl cN.out aa p ca (ra.flatMap aH) rfl LW.out Fz.out aeJ.out (rZ ra) zx zo hsz ?_;intro v1 w2 cW hg1 hb1) | (at_builtin;refine se rfl (.tmp 72) (.tmp 73) 39 rfl w.heap.size 111 i0 _ 4 48 Tryz.underlying39 Hi.out cp.out bR.out bV.out rfl zd v1 (acc.length+p) (acc.flatMap aH++ra.flatMap aH) rfl cW ab q cb (rb.flatMap aH) rfl Cf.out afT.out (eG.out.below (aO.out.grown hg1 hsz (λj e=>cZ cN.out j e))) (rZ rb) zx zo (Nat.le_trans hsz hg1.size) ?_;intro v2 w3 ft hg2 hb2))
     go_ret
     refine⟨v2,rfl,?_,(aO.out.grown hg1 hsz (λj e=>cZ cN.out j e)).grown hg2 (Nat.le_trans hsz hg1.size) (λj e=>cZ cW j e)⟩
     rw[HML.out,wm.out];exact ft
end Go.Proofs.YtpfgffadgkkedaaGreatDoor
namespace Go.Proofs.YtpfgffadgkkedaaGreatDoor
open Go.RowKit
def asc (ts:List Trm)(i:Nat)(hi:i<ts.length)(t:Trm):(((((ts.flatMap aH).set (i*4) (ah t.1)).set (i*4+1) (ag t.2.1)).set (i*4+2) (ah t.2.2.1)).set (i*4+3) (af t.2.2.2))=(ts.set i t).flatMap aH:=by
 induction ts generalizing i with
 |nil=>simp at hi
 | cons x ts ih=>
   have e:∀(y:Trm) zs,(y::zs).flatMap aH=ah y.1::ag y.2.1::ah y.2.2.1::af y.2.2.2::zs.flatMap aH:=λy zs=>rfl;cases i with
   |zero=>rw[e];rfl
   |succ i=>rw[List.set_cons_succ,e,e,<-ih i (by simpa using hi),show(i+1) *4=i*4+1+1+1+1 by omega];rfl
def asb (ts:List Trm)(i:Nat)(hi:i<ts.length)(r:Raw):((((ts.flatMap aH).set (i*4+1) (ag r.1)).set (i*4+2) (ah r.2.1)).set (i*4+3) (af r.2.2))=(ts.set i (ts[i].1,r)).flatMap aH:=by
 induction ts generalizing i with
 |nil=>simp at hi
 | cons x ts ih=>
   have e:∀(y:Trm) zs,(y::zs).flatMap aH=ah y.1::ag y.2.1::ah y.2.2.1::af y.2.2.2::zs.flatMap aH:=λy zs=>rfl;cases i with
   |zero=>rw[e];rfl
   |succ i=>rw[List.set_cons_succ,e,e,List.getElem_cons_succ,<-ih i (by simpa using hi),show(i+1) *4=i*4+1+1+1+1 by omega];rfl
def kE {w:World}{base:Nat}{e:TypeId}{size n cap g:Nat}{xs:List Value}(h:w.ownsRow base e size (.slice (some ⟨g,0,none⟩) n cap) n xs)(o:Nat):w.frozen? ⟨g,o,none⟩=false:=by
 rcases h.2 with⟨h1,_⟩ |⟨g',cap',cur,h1,hb,hg,_⟩
 . simp at h1
 . simp only[Value.slice.injEq,Option.some.injEq,Addr.mk.injEq,and_true,true_and]at h1;obtain⟨rfl,rfl⟩:=h1;have h4:ar w g e cur.toList:=by unfold ar;simpa using hg
   exact h4.free o
def rT {w:World}{base:Nat}{e:TypeId}{size n cap g:Nat}{xs:List Value}(h:w.ownsRow base e size (.slice (some ⟨g,0,none⟩) n cap) n xs):base<=g/\g<w.heap.size:=by
 rcases h.2 with⟨h1,_⟩ |⟨g',cap',cur,h1,hb,hg,_⟩
 . simp at h1
 . simp only[Value.slice.injEq,Option.some.injEq,Addr.mk.injEq,and_true,true_and]at h1;obtain⟨rfl,rfl⟩:=h1;exact⟨hb,(Array.getElem?_eq_some_iff.1 hg).1⟩
def JG {w:World}{base n cap g:Nat}{e:TypeId}{ts:List Trm}(h:w.ownsRow base e 4 (.slice (some ⟨g,0,none⟩) n cap) n (ts.flatMap aH))(k:Nat)(hk:k<ts.length){l:List UInt8}{s:Bool}{m:List UInt8}{ex:Int}(hx:ts[k]=(l,s,m,ex)):
 aR w g (k*4) [ah l,ag s,ah m,af ex]:=by
 obtain⟨a,c,hv,hat,_⟩:=cO h;simp only[Value.slice.injEq,true_and]at hv;obtain⟨rfl,rfl⟩:=hv;obtain⟨b,o,hab,hw⟩:=hat.term k hk hx;simp only[Option.some.injEq,Addr.mk.injEq,and_true]at hab;obtain⟨rfl,rfl⟩:=hab;rwa [Nat.zero_add]at hw
def apF {w:World}{base n cap g:Nat}{e:TypeId}{ts:List Trm}(h:w.ownsRow base e 4 (.slice (some ⟨g,0,none⟩) n cap) n (ts.flatMap aH))(i:Nat)(hi:i<ts.length)(l:List UInt8)(s:Bool)(m:List UInt8)(ex:Int):
 ((((w.setCell ⟨g,i*4,none⟩ (ah l)).setCell ⟨g,i*4+1,none⟩ (ag s)).setCell ⟨g,i*4+2,none⟩ (ah m)).setCell ⟨g,i*4+3,none⟩ (af ex)).ownsRow base e 4 (.slice (some ⟨g,0,none⟩) n cap) n ((ts.set i (l,s,m,ex)).flatMap aH):=by
 rw[<-asc ts i hi (l,s,m,ex)];exact iZ (iZ (iZ (iZ h _ _) _ _) _ _) _ _
def abL {w:World}{base n cap g:Nat}{e:TypeId}{ts:List Trm}(h:w.ownsRow base e 4 (.slice (some ⟨g,0,none⟩) n cap) n (ts.flatMap aH))(i:Nat)(hi:i<ts.length)(s:Bool)(m:List UInt8)(ex:Int):
 (((w.setCell ⟨g,i*4+1,none⟩ (ag s)).setCell ⟨g,i*4+2,none⟩ (ah m)).setCell ⟨g,i*4+3,none⟩ (af ex)).ownsRow base e 4 (.slice (some ⟨g,0,none⟩) n cap) n ((ts.set i (ts[i].1,s,m,ex)).flatMap aH):=by
 rw[<-asb ts i hi (s,m,ex)];exact iZ (iZ (iZ h _ _) _ _) _ _
def GW {w w':World}(r:Option Nat)(h:Bw w w'):w.grownBy w' r:=⟨h.os,h.tape,h.output,h.size,λk hk _=>h.block k hk⟩
def GX {w w':World}{g:Nat}(h:w.grownBy w' (some g))(a:Nat)(v:Value):w.grownBy (w'.setCell ⟨g,a,none⟩ v) (some g):=grownBy_trans h (grownBy_set g rfl v)
def aiJ {n:Nat}{w w':World}{r:Option Nat}(h:w.grownBy w' r)(hn:n<=w.heap.size)(hr:∀g,r=some g->n<=g):Below n w w':=((Below.refl _ _).mono hn).grown h hn hr
def abp {B:Nat}(a b:List Trm)(ha:∀t∈a,Fit B t.2)(hb:∀t∈b,Fit B t.2)(hB:B+1<=268435456):∀t∈fM a b,Fit (B+1) t.2:=by
 obtain⟨n,hn⟩:=az (a.length+b.length);induction n using Nat.strongRecOn generalizing a b with
 | _ n ih=>
   cases a with
   |nil=>rw[yh];exact λt ht=>(hb t ht).mono zo
   | cons x a=>cases b with
     |nil=>rw[yi];exact λt ht=>(ha t ht).mono zo
     | cons y b=>
       rw[ua];simp only[List.length_cons]at hn;have ha2:∀t∈a,Fit B t.2:=λt ht=>ha t (by simp[ht]);have hb2:∀t∈b,Fit B t.2:=λt ht=>hb t (by simp[ht]);split
       . intro t ht;rcases List.mem_cons.1 ht with rfl|ht
         . exact(ha _ zm).mono zo
         . exact ih _ (by simp only[List.length_cons];omega) a (y::b) ha2 hb rfl t ht
       . split
         . intro t ht;rcases List.mem_cons.1 ht with rfl|ht
           . exact(hb _ zm).mono zo
           . exact ih _ (by simp only[List.length_cons];omega) (x::a) b ha hb2 rfl t ht
         . intro t ht;rcases List.mem_cons.1 ht with rfl|ht
           . exact((ha x zm).2.add (hb y zm).2).fit hB
           . exact ih _ zo a b ha2 hb2 rfl t ht
def Ro {B:Nat}(l:List Trm)(h:∀t∈l,Fit B t.2)(hB:B+l.length<=268435456):∀t∈fO l,Fit (B+l.length) t.2:=by
 obtain⟨n,hn⟩:=az l.length;induction n using Nat.strongRecOn generalizing l with
 | _ n ih=>
   by_cases h2:l.length<2
   . rw[JP l h2];exact λt ht=>(h t ht).mono zo
   . rw[Rp l zo];have l1:(l.take (l.length/2)).length=l.length/2:=by rw[List.length_take];omega
     have l2:(l.drop (l.length/2)).length=l.length-l.length/2:=List.length_drop;have h3:=ih _ (by rw[<-hn,l1];omega) (l.take (l.length/2)) (λt ht=>h t (List.mem_of_mem_take ht)) (by rw[l1];omega) rfl;have h4:=ih _ (by rw[<-hn,l2];omega) (l.drop (l.length/2)) (λt ht=>h t (List.mem_of_mem_drop ht)) (by rw[l2];omega) rfl;have:=abp (B:=B+(l.length-1)) _ _ (λt ht=>(h3 t ht).mono (by rw[l1];omega)) (λt ht=>(h4 t ht).mono (by rw[l2];omega)) zo;rwa [show B+(l.length-1)+1=B+l.length by omega]at this
end Go.Proofs.YtpfgffadgkkedaaGreatDoor
namespace Go.Proofs.YtpfgffadgkkedaaGreatDoor
open Go.RowKit
attribute [local go_sem ↓] Go.wp_at_zero Go.wp_at_succ
def ald {α:Type}(p:α->Bool)(l:List α)(i:Nat)(hi:i<=l.length)(h:∀j (hj:j<i),p (l[j]'zo)=false):(l.take i).filter (λx=>!p x)=l.take i:=by
 rw[List.filter_eq_self];intro x hx;obtain⟨j,hj,rfl⟩:=List.mem_iff_getElem.1 hx;rw[List.getElem_take];have gL:j<i:=by rw[List.length_take]at hj;omega
 simp[h j gL]
def take_set {α:Type}(l:List α)(a:Nat)(x:α)(h:a<l.length):(l.set a x).take (a+1)=l.take a++[x]:=by rw[List.take_succ_eq_append_getElem (by simpa using h),List.getElem_set_self,List.take_set_of_le (Nat.le_refl _)]
def Nb {α:Type}(l:List α)(a b:Nat)(x:α)(h:a<b):(l.set a x).drop b=l.drop b:=by rw[List.drop_set];rw[if_pos h]
def Tryz.axj (w:World):(zeroValue 111).run Tryz.prog w=.ok (.agg #[.string ⟨#[]⟩,ag false,.string ⟨#[]⟩,af 0]) w:=by kernel_rfl
def Wt (ts:List Trm)(k:Nat)(hk:k<=ts.length):(ts.flatMap aH).take (k*4)=(ts.take k).flatMap aH:=by
 have e:ts=ts.take k++ts.drop k:=(List.take_append_drop _ _).symm;conv=>lhs;rw[e]
 rw[List.flatMap_append,List.take_left' (by rw[ll,List.length_take,Nat.min_eq_left hk])]
def aj9 (a:Option Addr)(n cap:Nat)(ts:List Trm)(gf:Nat)(p:Trm->Bool)(w:World)(hn:ts.length=n)(hl:n<=65536)(ha:At w a (ts.flatMap aH))
 (eg:∀args w,(callFunc gf args).run Tryz.prog w=.ok (.enter gf args) w) (h2:∀x∈ts,p x=false)
 (hcl:∀x∈ts,∀W,Cl gf #[.agg #[ah x.1,ag x.2.1,ah x.2.2.1,af x.2.2.2]] W λe w'=>e=.returned (ag (p x))/\Bw W w'):
 Cv 252 #[.slice a n cap,.func (.func gf) #[] #[]] w (.slice a n cap):=by
 have aQ:=PZ a n cap ts gf #[] p w hn zo ha eg (λx hx W _=>by simpa using hcl x hx W);rcases aaG p ts 0 with⟨h1,_⟩ |⟨i,hi,_,h3,_⟩
 . rw[h1]at aQ;have BM:=aj aQ;clear aQ h1 h2 hn hcl eg ha;have Hb:=hbz w;go_enter Tryz.func252,Tryz.ntmps252;go_wp2_with fail;refine aJ (Hb.an trivial) (BM.out) λw1 ae ai=>?_;go_wp2;go_ret;exact⟨rfl,ae.1.out⟩
 . rw[h2 _ (List.getElem_mem hi)]at h3;cases h3
def aj8 (g n cap base:Nat)(ts:List Trm)(gf:Nat)(p:Trm->Bool)(w:World)(hn:ts.length=n)(hl:n<=65536)(hn0:0<n)(ho:w.ownsRow base 111 4 (.slice (some ⟨g,0,none⟩) n cap) n (ts.flatMap aH))
 (eg:∀args w,(callFunc gf args).run Tryz.prog w=.ok (.enter gf args) w)
 (hcl:∀x∈ts,∀W,Cl gf #[.agg #[ah x.1,ag x.2.1,ah x.2.2.1,af x.2.2.2]] W λe w'=>e=.returned (ag (p x))/\Bw W w'):
 Cl 252 #[.slice (some ⟨g,0,none⟩) n cap,.func (.func gf) #[] #[]] w λe w'=>∃k,k=(ts.filter λx=>!p x).length/\e=.returned (.slice (some ⟨g,0,none⟩) k cap)/\
  w'.ownsRow base 111 4 (.slice (some ⟨g,0,none⟩) k cap) k ((ts.filter λx=>!p x).flatMap aH)/\w.grownBy w' (some g):=by
 have hat:At w (some ⟨g,0,none⟩) (ts.flatMap aH):=by obtain⟨a,c,hv,hat,_⟩:=cO ho;simp only[Value.slice.injEq,true_and]at hv;rw[hv.1];exact hat
 have hcap:=(ue ho).1;have aQ:=PZ (some ⟨g,0,none⟩) n cap ts gf #[] p w hn zo hat eg (λx hx W _=>by simpa using hcl x hx W);have hcm:cap<=9223372036854775807:=by
  rcases ho.2 with⟨h1,_⟩ |⟨g',cap',cur,h1,hb,hg,h4,h5,_⟩
  . simp at h1
  . simp only[Value.slice.injEq]at h1;obtain⟨_,_,rfl⟩:=h1;unfold maxLen at h5;omega
 obtain⟨Ho,eH,Hn,iD,eG⟩:=eV ho hcl hn eg hat;clear ho hcl hn eg hat;rcases aaG p ts 0 with⟨h1,h2⟩ |⟨i,hi,h1,h2,h3⟩
 . rw[h1]at aQ;have hK:(ts.filter λx=>!p x)=ts:=List.filter_eq_self.2 (λx hx=>by simp[h2 x hx]);rw[hK,Hn.out];have BM:=aj aQ;clear aQ h1 h2 hK;have Hb:=hbz w;go_enter Tryz.func252,Tryz.ntmps252;go_wp2_with fail;refine aJ (Hb.an trivial) (BM.out) λw1 ae ai=>?_;go_wp2;go_ret;exact⟨n,rfl,rfl,ownsRow_below Ho.out ae.1.out,GW _ ae.1.out⟩
 . rw[h1,Nat.zero_add]at aQ;have hin:i<n:=by rw[<-Hn.out];exact hi
   obtain⟨K,hK⟩:=az (ts.filter λx=>!p x);rw[hK];have hst:(ts.take (i+1)).filter (λx=>!p x)=ts.take i:=by rw[List.take_succ_eq_append_getElem hi,List.filter_append,ald p ts i zo h3];simp[h2]
   have lS:((i:Int)== -1)=false:=by simp
   obtain⟨BM,HK,bE⟩:=bM aQ hK hst;clear aQ h1 h2 h3 hK hst;have Hb:=hbz w;go_enter Tryz.func252,Tryz.ntmps252;go_wp2_with fail;refine aJ (Hb.an trivial) (BM.out) λw1 ae ai=>?_;go_wp2_with fail;go_loopw[5,6] (λs5 s6 wr=>∃(x y:Nat) (C:List Trm),s5=af (x:Int)/\s6=af (y:Int)/\x<y/\y<=n/\C.length=n/\C.take x=(ts.take y).filter (λx=>!p x)/\C.drop y=ts.drop y/\wr.ownsRow base 111 4 (.slice (some ⟨g,0,none⟩) n cap) n (C.flatMap aH)/\w.grownBy wr (some g)) (λ_ s6 _=>n-(intOf s6).toNat);case atStart=>exact⟨i,i+1,ts,rfl,by go_num,by omega,by omega,Hn.out,bE.out.symm,rfl,ownsRow_below Ho.out ae.1.out,GW _ ae.1.out⟩
   case round=>
    clear lS;obtain⟨x,y,C,rfl,rfl,hxy,vJ,hC,htk,hdr,hov,hg⟩:=hrel;by_cases hlt:y<n
    . have PS:y<ts.length:=by rw[Hn.out];exact hlt
      have hyC:y<C.length:=by omega
      have hel:C[y]=ts[y]:=by
       have e1:C[y]?=ts[y]?:=by rw[<-Nat.add_zero y,<-List.getElem?_drop,<-List.getElem?_drop,hdr]
       rw[List.getElem?_eq_getElem hyC,List.getElem?_eq_getElem PS]at e1;exact Option.some.inj e1
      obtain⟨l,s,m,e,hx⟩:∃l s m e,ts[y]=(l,s,m,e):=⟨_,_,_,_,rfl⟩;have hw:=JG hov y hyC (hel.trans hx);have hcl:=eH.out _ (List.getElem_mem PS);rw[hx]at hcl;have hnx:(ts.take (y+1)).filter (λx=>!p x)=(ts.take y).filter (λx=>!p x)++if p (l,s,m,e)then[]else[(l,s,m,e)]:=by rw[List.take_succ_eq_append_getElem PS,List.filter_append,hx];by_cases hp:p (l,s,m,e)=true<;>simp[hp]
      have hd2:C.drop (y+1)=ts.drop (y+1):=by rw[<-List.drop_drop,<-List.drop_drop,hdr]
      have aQ:=fW n cap y (y:Int) (rfl:(some ⟨g,0,none⟩:Option Addr)=_) hlt rfl;rw[Nat.zero_add]at aQ;obtain⟨hgb,Dw⟩:=rT hov;obtain⟨cN,Hg,Uq,sw,wI,HC,Fq⟩:=jv hov hg htk hd2 hnx hC hcl;have Hz:Hid (aR wr g (y*4) [ah l,ag s,ah m,af e]):=hw;clear hov hg htk hd2 hnx hC hcl hw hdr hel hx;have Hb:=hbz wr;obtain⟨ae,ai⟩:=qZ (Hz.an trivial);have z0:wr.cell? ⟨g,y*4,none⟩=some (ah l):=ae.1.out.cell 0 zm;have z2:wr.cell? ⟨g,y*4+2,none⟩=some (ah m):=ae.1.out.cell 2 zm;have z1:wr.cell? ⟨g,y*4+1,none⟩=some (ag s):=ae.1.out.cell 1 zm;have z3:wr.cell? ⟨g,y*4+3,none⟩=some (af e):=ae.1.out.cell 3 zm;have P0:=z0;have P1:=z1;have P2:=z2;have P3:=z3;have xd:=iD.out;obtain⟨W4,mR,aG,ae,ai⟩:=cg wr (Hb.an ae) 111 [ah l,ag s,ah m,af e];obtain⟨t,ht⟩:=az (p (l,s,m,e));rw[ht]at Fq wI;clear ht;go_wp2_with fail;refine aJ ae (Fq.out _) λw5 ae ai=>?_;have gZ:=ownsRow_below cN.out ae.2.1.out;have II:=grownBy_trans Hg.out (GW _ ae.2.1.out);clear xd;cases t with
      | true=>
        obtain⟨wJ,Li⟩:=aI gZ II;clear gZ II;go_wp2;go_roundw;case rel=>exact⟨x,y+1,C,rfl,by go_num,by omega,by omega,HC.out,by rw[wI.out,Uq.out];simp,sw.out,wJ.out,Li.out⟩
        case measure=>exact bf
      | false=>
        have PN:x<C.length:=by have:=HC.out;omega
        obtain⟨lx,sx,mx,ex,om⟩:∃l s m e,C[x]=(l,s,m,e):=⟨_,_,_,_,rfl⟩;obtain⟨u0,u1,u2,u3⟩:=(JG gZ x PN om).w4;have CK:=kE gZ (x*4);have xm:=kE gZ (x*4+1);have GU:=kE gZ (x*4+2);have Wz:=kE gZ (x*4+3);have oP:=fW n cap x (x:Int) (rfl:(some ⟨g,0,none⟩:Option Addr)=_) zo rfl;rw[Nat.zero_add]at oP;obtain⟨wJ,Li,Uv⟩:=bM gZ II PN;clear gZ II om PN;go_wp2;refine⟨⟨x+1,y+1,C.set x (l,s,m,e),by go_num,by go_num,by omega,by omega,by rw[List.length_set];exact HC.out,?_,?_,apF wJ.out x Uv.out l s m e,?_⟩,by simp[intOf];omega⟩
        . rw[take_set _ _ _ Uv.out,Uq.out,wI.out];simp
        . rw[Nb _ _ _ _ zo];exact sw.out
        . exact GX (GX (GX (GX Li.out _ _) _ _) _ _) _ _
    . obtain rfl:y=n:=by omega
      have hK:C.take x=K:=by rw[htk,<-HK.out,List.take_of_length_le (by rw[Hn.out];exact Nat.le_refl _)]
      have Ih:K.length=x:=by rw[<-hK,List.length_take,hC];omega
      have AA:=abM hov x zo;rw[Wt C x zo,hK]at AA;obtain⟨w6,auO,DT,YA⟩:=ach wr 39 111 _ 4 Tryz.underlying39 Tryz.axj rfl (by intro v hv;simp[Value.cells]at hv;rcases hv with rfl|rfl|rfl|rfl<;>rfl) g x (y-x) cap (cap-x) base (K.flatMap aH) AA zo;have jN:¬cap=x:=by omega
      obtain⟨Ho6,sG,HKl⟩:=bM DT (grownBy_trans hg YA) Ih;clear htk hdr hC hK Ih AA hov hg DT YA;go_wp2;go_ret;exact⟨x,HKl.out.symm,rfl,Ho6.out,sG.out⟩
def At.first {w:World}{a:Option Addr}{xs:List Value}(h:At w a xs)(k:Nat):At w a (xs.take k):=by
 rcases h with rfl|⟨b,o,rfl,hc⟩
 . exact .inl zm
 . refine .inr ⟨b,o,rfl,λj hj=>?_⟩;rw[List.length_take]at hj;rw[hc j zo,List.getElem?_take_of_lt zo]
def Mx (w:World)(a:Option Addr)(n cap:Nat)(ts:List Trm)(e:Ending)(w':World):Prop:=
 ∃v',e=.returned v'/\((n<2/\v'=.slice a n cap)\/(2<=n/\w'.ownsRow w.heap.size 111 4 v' (fO ts).length ((fO ts).flatMap aH)))/\Bw w w'
def Mx.at {w:World}{a:Option Addr}{n cap:Nat}{ts:List Trm}{e:Ending}{w':World}(h:Mx w a n cap ts e w')(hn:ts.length=n)(hs:Sl a n cap)(ha:At w a (ts.flatMap aH)):
 ∃a' c',e=.returned (.slice a' (fO ts).length c')/\At w' a' ((fO ts).flatMap aH)/\Sl a' (fO ts).length c'/\Bw w w':=by
 obtain⟨v',rfl,h1,hb⟩:=h;rcases h1 with⟨h2,rfl⟩ |⟨h2,ho⟩
 . rw[JP ts zo,hn];exact⟨a,cap,rfl,ha.below hb,hs,hb⟩
 . obtain⟨a',c',rfl,hat,_⟩:=cO ho;exact⟨a',c',rfl,hat,ue ho,hb⟩
def arF (n:Nat):∀(a:Option Addr) (cap:Nat) (ts:List Trm) (B:Nat) (w:World),ts.length=n->Sl a n cap->n<=65536->At w a (ts.flatMap aH)->(∀t∈ts,Fit B t.2)->B+n+2<=268435456->aB w->
 Cl 253 #[.slice a n cap,.func (.func 231) #[] #[],.func (.func 232) #[] #[]] w (Mx w a n cap ts):=by
 induction n using Nat.strongRecOn with
 | _ n ih=>
   intro a cap ts B w hn hs hl ha hf hB hT;by_cases h2:n<2
   . have h2i:(n:Int)<2:=by omega
     clear ih hn hs ha hf hT;have Hb:=hbz w;go_enter Tryz.func253,Tryz.ntmps253;go_wp2;go_ret;exact⟨_,rfl,.inl ⟨h2,rfl⟩,Hb.out⟩
   . obtain⟨k,hk⟩:=az (n/2);have hk1:1<=k:=by omega
     have hk2:k<n:=by omega
     have IM:(n:Int)/2=(k:Int):=by omega
     have l1:(ts.take k).length=k:=by rw[List.length_take];omega
     have l2:(ts.drop k).length=n-k:=by rw[List.length_drop];omega
     have hcn:=hs.1;have s1:Sl a k cap:=⟨by omega,hs.2⟩;have s2:Sl (if cap=k then a else a.map (·.add (k*4))) (n-k) (cap-k):=hs.cut zo;have a1:=ha.first (k*4);rw[Wt ts k zo]at a1;have a2:=ha.cut (k:=k) (size:=4) (by rw[ll,hn]) zo hcn;have ed:(ts.flatMap aH).drop (k*4)=(ts.drop k).flatMap aH:=by
      have e:ts=ts.take k++ts.drop k:=(List.take_append_drop _ _).symm;conv=>lhs;rw[e]
      rw[List.flatMap_append,List.drop_left' (by rw[ll,l1])]
     rw[ed]at a2;obtain⟨a',ha'⟩:=az (if cap=k then a else a.map (·.add (k*4)));rw[ha']at s2 a2;have f1:∀t∈ts.take k,Fit B t.2:=λt ht=>hf t (List.mem_of_mem_take ht);have f2:∀t∈ts.drop k,Fit B t.2:=λt ht=>hf t (List.mem_of_mem_drop ht);have c1:=λW (hW:Bw w W) (Db:aB W)=>(ih k hk2 a cap (ts.take k) B W l1 s1 zo (a1.below hW) f1 zo Db).mono (λe w' h=>h.at l1 s1 (a1.below hW));have c2:=λW (hW:Bw w W) (Db:aB W)=>(ih (n-k) zo a' (cap-k) (ts.drop k) B W l2 s2 zo (a2.below hW) f2 zo Db).mono (λe w' h=>by obtain⟨x1,x2,x3,x4,x5,x6⟩:=h.at l2 s2 (a2.below hW);exact(⟨x1,x2,x3,x4,x5,Nat.le_trans hW.size x6.size,x6,x6⟩:∃a1 c1,e=.returned (.slice a1 (fO (ts.drop k)).length c1)/\At w' a1 ((fO (ts.drop k)).flatMap aH)/\Sl a1 (fO (ts.drop k)).length c1/\w.heap.size<=w'.heap.size/\Bw W w'/\Bw W w'));have g1:=Ro (B:=B) (ts.take k) f1 zo;have g2:=Ro (B:=B) (ts.drop k) f2 zo;have e1:=JO (ts.take k);have e2:=JO (ts.drop k);have hst:fO ts=fM (fO (ts.take k)) (fO (ts.drop k)):=by rw[Rp ts zo,hn,hk]
     obtain⟨L,hL⟩:=az (fO (ts.take k));obtain⟨R,hR⟩:=az (fO (ts.drop k));rw[hL]at c1 g1 e1 hst;rw[hR]at c2 g2 e2 hst;have h2i:¬(n:Int)<2:=by omega
     have h2n:2<=n:=by omega
     obtain⟨C1,C2,G1,G2,bE,HT⟩:=ia c1 c2 (λt ht=>(g1 t ht).mono (show B+(ts.take k).length<=B+n by omega)) (λt ht=>(g2 t ht).mono (show B+(ts.drop k).length<=B+n by omega)) hst hT;have Fz:Hid (L.length<=65536/\R.length<=65536):=⟨by omega,by omega⟩;have wN:=ha';clear ih hn hs ha hf hT a1 a2 s1 s2 f1 f2 c1 c2 g1 g2 e1 e2 hst ed l1 l2 hL hR hk ha';have Hb:=hbz w;go_enter Tryz.func253,Tryz.ntmps253;go_wp2_with fail;have hkn:k<=n:=by omega
     have hkc:k<=cap:=by omega
     have ae:=Hb.an trivial;refine cQ 999 ae (cM 16 0x1f1c160a1b191513110f0d0907050301) ?_;refine bC ?_;refine qOp λK hK=>?_;go_simp;with_reducible refine(C1.out _ (qU ae.1.out) (qU (HT.out.below ae.1.out))).mono ?_
     rintro e w1 ⟨b1,d1,rfl,kQ,hs1,hq⟩;refine ml hK hq ae λae=>?_;clear hK K hq;refine qOp λK hK=>?_;go_simp;with_reducible refine(C2.out _ (qU ae.1.out) (qU (HT.out.below ae.1.out))).mono ?_
     rintro e w2 ⟨b2,d2,rfl,lN,hs2,am7,vg,hq⟩;refine ml hK hq ae λae=>?_;clear hK K hq;refine qOp λK hK=>?_;go_simp;with_reducible refine(abj b1 L.length d1 L b2 R.length d2 R (B+n) _ rfl rfl hs1 hs2 Fz.out.1 Fz.out.2 (by first|exact kQ.below vg|exact(kQ.below vg).drew) (qU lN) G1.out G2.out zo (qU (HT.out.below ae.1.out))).mono ?_
     rintro e w3 ⟨v',rfl,ho,hq⟩;refine ml hK hq ae λae=>?_;clear hK K hq;refine bC ?_;refine cP ae λai=>?_;go_wp2;go_ret;exact⟨v',rfl,.inr ⟨h2n,by rw[bE.out];exact pj ho am7⟩,ae.1.out⟩
def zM (x:Trm):Trm:=(x.1,canon (dval x.2))
def abh (f:Trm->Trm)(K C:List Trm)(k:Nat)(hk:k<C.length)(hl:C.length=K.length)(ht:C.take k=(K.map f).take k)(hx:C[k]=K[k]'zo):(C.set k (f C[k])).take (k+1)=(K.map f).take (k+1):=by rw[take_set _ _ _ hk,ht,List.take_succ_eq_append_getElem zi,List.getElem_map,hx]
def VX {K C:List Trm}{k:Nat}(hd:C.drop k=K.drop k)(h1:k<C.length)(h2:k<K.length):C[k]=K[k]:=by
 have e1:C[k]?=K[k]?:=by rw[<-Nat.add_zero k,<-List.getElem?_drop,<-List.getElem?_drop,hd]
 rw[List.getElem?_eq_getElem h1,List.getElem?_eq_getElem h2]at e1;exact Option.some.inj e1
def ajx (V:Int)(v:Value)(n:Nat)(ts:List Trm)(B:Nat)(w0 w:World)(hb0:Bw w0 w)(hn:ts.length=n)(hl:n<=4096)(ho:w.ownsRow w0.heap.size 111 4 v n (ts.flatMap aH))(hf:∀t∈ts,Fit B t.2)(hB:B+n+2<=268435456)(hT:aB w0):
 Cl 205 #[af V,v] w λe w'=>∃v',e=.returned (.tuple #[.agg #[af V,v'],af 0])/\w'.ownsRow w0.heap.size 111 4 v' (aS ts).length ((aS ts).flatMap aH)/\Bw w0 w':=by
 obtain⟨a,cap,rfl,hat,_⟩:=cO ho;have hs:=ue ho;have IJ:=Ro ts hf zo;have hsl:=JO ts;have eg:∀args w,(callFunc 254 args).run Tryz.prog w=.ok (.enter 254 args) w:=enters_of Tryz.func254 zk rfl;obtain⟨S,hS⟩:=az (fO ts);have c1:∀W,Bw w W->Cl 253 #[.slice a n cap,.func (.func 231) #[] #[],.func (.func 232) #[] #[]] W λe w'=>∃v1,e=.returned v1/\w'.ownsRow w0.heap.size 111 4 v1 S.length (S.flatMap aH)/\Bw W w':=by
  intro W hW;refine(arF n a cap ts B W hn hs zo (hat.below hW) hf hB (hT.below (aC hb0 hW))).mono ?_;rintro e w' ⟨v1,rfl,h1,hb⟩;refine⟨v1,rfl,?_,hb⟩;rcases h1 with⟨h2,rfl⟩ |⟨h2,cW⟩
  . rw[<-hS,JP ts zo,hn];exact ownsRow_below ho (aC hW hb)
  . rw[<-hS];exact pj cW (by have:=hW.size;have:=hb0.size;omega)
 obtain⟨K,hK⟩:=az (S.filter fN);have Ih:K.length<=4096:=by have:=List.length_filter_le fN S;rw[hK]at this;rw[hS]at hsl;omega
 rw[hS]at IJ hsl;have c2:∀W v1,Bw w0 W->W.ownsRow w0.heap.size 111 4 v1 S.length (S.flatMap aH)->Cl 252 #[v1,.func (.func 254) #[] #[]] W λe w'=>∃v2,e=.returned v2/\w'.ownsRow w0.heap.size 111 4 v2 K.length (K.flatMap aH)/\W.grownBy w' v1.ownBlock:=by
  intro W v1 hW cW;have hcl:∀x∈S,∀W,Cv 254 #[.agg #[ah x.1,ag x.2.1,ah x.2.2.1,af x.2.2.2]] W (ag (!fN x)):=λx hx W=>ajw x.1 x.2.1 x.2.2.1 x.2.2.2 W (IJ x hx).1;by_cases h0:0<S.length
  . obtain⟨g,c,rfl,_,_,_⟩:=rU cW h0;refine(aj8 g S.length c w0.heap.size S _ (λx=>!fN x) W rfl zo h0 cW eg hcl).mono ?_;rintro e w' ⟨k,hk,rfl,ft,hg2⟩;simp only[Bool.not_not]at hk ft;rw[hK]at hk ft;subst hk;exact⟨_,rfl,ft,hg2⟩
  . have pY:S=[]:=List.eq_nil_of_length_eq_zero zo;obtain⟨a1,c,rfl,kQ,_⟩:=cO cW;refine(aj9 a1 S.length c S _ (λx=>!fN x) W rfl zo kQ eg (λx hx=>by rw[pY]at hx;cases hx) hcl).mono ?_;rintro e w' ⟨rfl,hb⟩;have td:K=S:=by rw[<-hK,pY];rfl
    rw[td];exact⟨_,rfl,ownsRow_below cW hb,GW _ hb⟩
 have WU:∀t∈K,Fit (B+ts.length) t.2:=λt ht=>by rw[<-hK]at ht;exact IJ t (List.mem_filter.1 ht).1
 have hcl:aS ts=K.map zM:=by unfold aS;rw[hS,hK];rfl
 rw[hcl,List.length_map];have hz:=hb0.size;obtain⟨m,hm⟩:=az K.length;rw[hm]at Ih c2⊢;obtain⟨Hm,C1,C2,HKf,Ml,HT⟩:=ia hm c1 c2 WU hb0 hT;clear c1 c2 hm WU hcl hb0 hT IJ hS hK ho hat hs hf eg hsl;have Hb:=hbz w;go_enter Tryz.func205,Tryz.ntmps205;go_wp2_with fail;refine bP w (Hb.an trivial) 41 [af 0,.slice none 0 0] λW aG ae ai=>?_;go_wp2_with fail;refine(C1.out _ ae.2.1.out).mono ?_;rintro e w1 ⟨v1,rfl,cW,ak⟩;obtain⟨ae,ai⟩:=qX ak ae;have hw1:=aC Ml.out ae.2.1.out;go_wp2_with fail;refine(C2.out _ v1 hw1 cW).mono ?_;rintro e w2 ⟨v2,rfl,ft,hg2⟩;have hr2:=ae.1.out.row zd cW hg2;have hw2:=aiJ (hg2) (Nat.le_trans hz ae.2.1.out.size) (λg e=>cZ cW g e);obtain⟨rh,nO,Hr⟩:=bM (hw1.trans hw2) ft hr2;clear C1 C2 cW hg2 hw1 hw2 hr2 ft;have hKi:¬(4096:Int)<(m:Int):=by omega
 obtain⟨a2,cap2,rfl,_,_⟩:=cO nO.out;go_wp2_with fail;go_loopw[16] (λx wr=>∃(k:Nat) (C:List Trm),k<=m/\x=af (k:Int)/\C.length=m/\C.take k=(K.map zM).take k/\C.drop k=K.drop k/\wr.ownsRow w0.heap.size 111 4 (.slice a2 m cap2) m (C.flatMap aH)/\ar wr w.heap.size 41 [af 0,.slice none 0 0]/\Bw w0 wr) (λx _=>m-(intOf x).toNat);case atStart=>exact⟨0,K,Nat.zero_le _,rfl,Hm.out,rfl,rfl,nO.out,Hr.out,rh.out⟩
 case round=>
  clear Hr nO rh;obtain⟨k,C,hk,rfl,hC,htk,hdr,hov,hr,pb⟩:=hrel;by_cases hlt:k<m
  . obtain⟨g,cc,he,hg1,hg2,hg3⟩:=rU hov zo;simp only[Value.slice.injEq,true_and]at he;obtain⟨rfl,rfl⟩:=he;have tF:k<C.length:=by omega
    have xA:k<K.length:=by have:=Hm.out;omega
    have hel:=VX hdr tF xA;obtain⟨l,s,q,e,hx⟩:∃l s m e,C[k]=(l,s,m,e):=⟨_,_,_,_,rfl⟩;have cS:=HKf.out _ (List.getElem_mem xA);rw[<-hel,hx]at cS;obtain⟨D,hD⟩:=az (dval (s,q,e));have oV:=abh zM K C k tF (by rw[hC,Hm.out]) htk hel;have Dj:zM C[k]=(l,canon D):=by rw[hx,<-hD];rfl
    rw[Dj]at oV;have jN:C[k].1=l:=by rw[hx]
    have hw:=JG hov k tF hx;have hd2:C.drop (k+1)=K.drop (k+1):=by rw[<-List.drop_drop,<-List.drop_drop,hdr]
    have aQ:=fW m cap2 k (k:Int) (rfl:(some ⟨g,0,none⟩:Option Addr)=_) hlt rfl;rw[Nat.zero_add]at aQ;have BL:Hid (∀W,aB W->Cv 155 #[.agg #[ag s,ah q,af e]] W (bK D)):=λW Db=>nU s q e D hD W cS.1 Db;obtain⟨cN,aO,LZ,sw,HC,KQ,pz⟩:=jv hov pb oV hd2 hC jN (HT.out.below pb);have Hr:Hid (ar wr w.heap.size 41 [af 0,.slice none 0 0]):=hr;have Hz:Hid (aR wr g (k*4) [ah l,ag s,ah q,af e]):=hw;clear hov pb oV hd2 hC hr hw htk hdr hel hx cS hD Dj jN xA;have Hb:=hbz wr;obtain⟨ae,ai⟩:=qZ (Hz.an trivial);have z2:wr.cell? ⟨g,k*4+2,none⟩=some (ah q):=ae.1.out.cell 2 zm;have y2:wr.cell? ⟨g,k*4+1+1,none⟩=some (ah q):=z2;have z3:wr.cell? ⟨g,k*4+3,none⟩=some (af e):=ae.1.out.cell 3 zm;have y3:wr.cell? ⟨g,k*4+1+2,none⟩=some (af e):=z3;go_wp2_with fail;refine aJ (Hb.an ae) (BL.out _ pz.out) λw5 ae ai=>?_;have gZ:=ownsRow_below cN.out ae.1.out;clear y2 y3;have z2:w5.cell? ⟨g,k*4+2,none⟩=some (ah q):=ae.2.1.out.cell 2 zm;have y2:w5.cell? ⟨g,k*4+1+1,none⟩=some (ah q):=z2;have z3:w5.cell? ⟨g,k*4+3,none⟩=some (af e):=ae.2.1.out.cell 3 zm;have y3:w5.cell? ⟨g,k*4+1+2,none⟩=some (af e):=z3;have xm:=kE gZ (k*4+1);have GU:=kE gZ (k*4+1+1);have Wz:=kE gZ (k*4+1+2);have hgb:=(rT gZ).2;have Ps:=Hr.out.below ae.1.out;have di:=aC aO.out ae.1.out;have Dx:g≠w.heap.size:=λe=>Ps.not_row zd gZ (by rw[e];rfl);obtain⟨wJ,Cb,fe⟩:=bM gZ Ps di;clear gZ Ps di;go_wp2;refine⟨⟨k+1,C.set k (l,canon D),by omega,by go_num,by rw[List.length_set];exact HC.out,LZ.out,by rw[Nb _ _ _ _ zo];exact sw.out,?_,?_,?_⟩,by simp[intOf];omega⟩
    . have h:=abL wJ.out k tF (au (dN D)) (nt (dN D).natAbs) (dE D);rw[KQ.out]at h;exact h
    . exact((Cb.out.awI _ Dx _).awI _ Dx _).awI _ Dx _
    . exact((fe.out.setCell zp _).setCell zp _).setCell zp _
  . obtain rfl:k=m:=by omega
    have CN:C=K.map zM:=by rw[List.take_of_length_le zo,List.take_of_length_le (by rw[List.length_map];have:=Hm.out;omega)]at htk;exact htk
    rw[CN]at hov;obtain⟨cN,aO⟩:=aI hov pb;have Hr:Hid (ar wr w.heap.size 41 [af 0,.slice none 0 0]):=hr;clear hov pb hr htk hdr hC CN;obtain⟨r0,aW,r1,aX⟩:=Hr.out.g2;go_wp2;have hne:=(Hr.out.not_row zd cN.out).symm;have hrs:=Hr.out.lt;refine dA (λw9=>ar w9 w.heap.size 41 [af V,.slice a2 k cap2]/\w9.ownsRow w0.heap.size 111 4 (.slice a2 k cap2) k ((K.map zM).flatMap aH)/\Bw w0 w9) ⟨(Hr.out.set 0 _).set 1 _,ownsRow_setCell_other (ownsRow_setCell_other cN.out hne _) hne _,(aO.out.setCell hz _).setCell hz _⟩ ?_;rintro w9 ⟨lU,eD,gm⟩;obtain⟨q0,q1⟩:=lU.c2;exact bodyPost_ret (v:=.tuple #[.agg #[af V,.slice a2 k cap2],af 0]) (by simp[results,Tryz.results205,go_sem,q0,q1]) rfl ⟨_,rfl,eD,gm⟩
def Gr (V:Int)(v:Value)(n:Nat)(ts C:List Trm)(B:Nat)(w0 w:World)(hb0:Bw w0 w)(hn:ts.length=n)(hl:n<=4096)(ho:w.ownsRow w0.heap.size 111 4 v n (ts.flatMap aH))(hf:∀t∈ts,Fit B t.2)(hB:B+n+2<=268435456)(hT:aB w0)(hC:aS ts=C):
 Cl 205 #[af V,v] w λe w'=>∃a c,e=.returned (.tuple #[.agg #[af V,.slice a C.length c],af 0])/\w'.ownsRow w0.heap.size 111 4 (.slice a C.length c) C.length (C.flatMap aH)/\Bw w0 w':=by
 subst hC;refine(ajx V v n ts B w0 w hb0 hn hl ho hf hB hT).mono ?_;rintro e w' ⟨v',rfl,h1,h2⟩;obtain⟨a,c,rfl,_,_⟩:=cO h1;exact⟨a,c,rfl,h1,h2⟩
def apB {w W:World}{b base k:Nat}{v x0 x1:Value}{xs:List Value}(hr:ar W b 41 [x0,x1])(ho:W.ownsRow base 111 4 v k xs)(hb:Bw w W)(hbs:w.heap.size<=b)(y0 y1:Value):
 ar ((W.setCell ⟨b,0,none⟩ y0).setCell ⟨b,1,none⟩ y1) b 41 [y0,y1]/\((W.setCell ⟨b,0,none⟩ y0).setCell ⟨b,1,none⟩ y1).ownsRow base 111 4 v k xs/\Bw w ((W.setCell ⟨b,0,none⟩ y0).setCell ⟨b,1,none⟩ y1):=by
 have hne:=(hr.not_row zd ho).symm;exact⟨(hr.set 0 _).set 1 _,ownsRow_setCell_other (ownsRow_setCell_other ho hne _) hne _,(hb.setCell hbs _).setCell hbs _⟩
def zL {P:Program}{fn:Func}{R:Ending->World->Prop}{e:Exit}{a:Act}{w W:World}{b base k:Nat}{v x0 x1 y0 y1:Value}{xs:List Value}(hr:ar W b 41 [x0,x1])(ho:W.ownsRow base 111 4 v k xs)(hb:Bw w W)(hbs:w.heap.size<=b)
 (h:∀W',ar W' b 41 [y0,y1]->W'.ownsRow base 111 4 v k xs->Bw w W'->bodyPost P fn R e a W'):bodyPost P fn R e a ((W.setCell ⟨b,0,none⟩ y0).setCell ⟨b,1,none⟩ y1):=by
 obtain⟨h1,h2,h3⟩:=apB hr ho hb hbs y0 y1;exact h _ h1 h2 h3
def MN (a:Option Addr)(n cap:Nat)(ts:List Trm)(w:World)(hn:ts.length=n)(hl:n<=1048576)(hs:Sl a n cap)(ha:At w a (ts.flatMap aH)):
 Cl 206 #[.slice a n cap] w λe w'=>∃v',e=.returned v'/\w'.ownsRow w.heap.size 111 4 v' n (ts.flatMap aH)/\Bw w w':=by
 obtain⟨i0,hi,hz0,hz1,hz2⟩:=info_parts Tryz.awN;have q:=λ(w:World) (a:Option Addr) (n c n' c':Nat)=>Lib.run_eql_slice_nil (P:=Tryz.prog) w 39 111 a n c n' c' Tryz.underlying39;have hlen:(ts.flatMap aH).length=n*4:=by rw[jJ aH 4 (λ_=>rfl),hn]
 obtain⟨cs,hcs⟩:=az (ts.flatMap aH);have h1:=rZ ts;rw[hcs]at hlen ha h1⊢;obtain⟨lF,Ha,H1,Hs,Hi,cp,bR,bV⟩:=nk hlen ha h1 hs hi hz0 hz1 hz2;clear hlen ha h1 hs hi hz0 hz1 hz2 hn hcs;cases a with
 | none=>
   have hc:=Hs.out.2 rfl;have hn0:n=0:=by have:=Hs.out.1;omega
   subst hc;subst hn0;go_enter Tryz.func206,Tryz.ntmps206;go_wp2;go_ret;refine⟨_,rfl,?_,Below.refl _ _⟩;have e:cs=[]:=List.eq_nil_of_length_eq_zero (by have:=lF.out;omega);rw[e];exact World.ownsRow_nil _ _ _ _
 |some ad=>go_enter Tryz.func206,Tryz.ntmps206;go_wp2_with (at_builtin;refine se rfl _ _ 39 rfl w.heap.size 111 i0 _ 4 48 Tryz.underlying39 Hi.out cp.out bR.out bV.out rfl zd _ 0 [] rfl (World.ownsRow_made w #[] 0 (Nat.le_refl _) (Nat.zero_le _) zm) (some ad) n cap cs rfl Hs.out lF.out (Ha.out.below ((Below.refl _ w).alloc (Nat.le_refl _) _)) H1.out zx zo zm ?_;intro v' w1 hown hgrow fV);go_ret;refine⟨v',rfl,by simpa using hown,?_⟩;exact((Below.refl _ w).alloc (Nat.le_refl _) _).grown hgrow zm (λk hk=>by have h9:w.heap.size=k:=Option.some.inj hk;omega)
def ahX (V:Int)(ts:List Trm)(h:∀t∈ts,bZ t.1 V=true):(ts.any λt=>!bZ t.1 V)=false:=by rw[List.any_eq_false];intro t ht;rw[h t ht];simp
def Qn (V:Nat)(a:Option Addr)(n cap:Nat)(ts:List Trm)(B:Nat)(w:World)(hV:V<=12)(hn:ts.length=n)(hl:n<=4096)(hs:Sl a n cap)(ha:At w a (ts.flatMap aH))(hm:∀t∈ts,bZ t.1 V=true)(hl2:∀t∈ts,t.1.length<=9223372036854775807)
 (hf:∀t∈ts,Fit B t.2) (hB:B+n+2<=268435456) (hT:aB w):
 Cl 121 #[af (V:Int),.slice a n cap] w λe w'=>∃a' c',e=.returned (.tuple #[.agg #[af (V:Int),.slice a' (aS ts).length c'],af 0])/\w'.ownsRow w.heap.size 111 4 (.slice a' (aS ts).length c') (aS ts).length ((aS ts).flatMap aH)/\Bw w w':=by
 have eg:∀args w,(callFunc 204 args).run Tryz.prog w=.ok (.enter 204 args) w:=enters_of Tryz.func204 zk rfl;have hct:∀W bv,Bw w W->W.cell? ⟨bv,0,none⟩=some (af (V:Int))->Cv 203 #[.slice a n cap,.func (.func 204) #[] #[.pointer (some ⟨bv,0,none⟩)]] W (ag false):=by intro W bv hW hc;have h:=ajO a n cap ts 204 #[.pointer (some ⟨bv,0,none⟩)] (λt=>!bZ t.1 V) W hn zo (ha.below hW) eg (λx hx W2 hW2=>by simpa using aot x.1 x.2.1 x.2.2.1 x.2.2.2 V bv W2 (cell_later hW2 hc) (hl2 x hx));rwa [ahX V ts hm]at h
 obtain⟨C,hC⟩:=az (aS ts);have hcn:=λW (hW:Bw w W)=>(MN a n cap ts W hn zo hs (ha.below hW)).mono (λe w' h=>(match h with|⟨v,h1,h2,h3⟩=>⟨v,h1,h2,h3,h3⟩:∃v',e=.returned v'/\w'.ownsRow W.heap.size 111 4 v' n (ts.flatMap aH)/\Bw W w'/\Bw W w'));have hcl:=λw0 W v (hw0:Bw w w0) (hb0:Bw w0 W) (ho:W.ownsRow w0.heap.size 111 4 v n (ts.flatMap aH))=>Gr (V:Int) v n ts C B w0 W hb0 hn hl ho hf hB (hT.below hw0) hC;rw[hC];obtain⟨uv,iJ,eH⟩:=bM hct hcn hcl;clear hct hcn hcl hC ha hT hf hm hl2 hs hn eg;have ql:=λW=>GQ (V:Int) W;have hd:decide (0<=(V:Int)/\(V:Int)<=12)=true:=by simp;omega
 rw[hd]at ql;have BK:=aj ql;clear ql hd;have hni:¬(65536:Int)<(n:Int):=by omega
 have Hb:=hbz w;go_enter Tryz.func121,Tryz.ntmps121;go_wp2_with fail;refine gG w (Hb.an trivial) 3 [af (V:Int)] 41 [af 0,.slice none 0 0] λW aG ae ai=>?_;go_wp2_with fail;refine aJ ae (BK.out _) λw1 ae ai=>?_;have v0:w1.cell? ⟨w.heap.size,0,none⟩=some (af (V:Int)):=ae.1.out.cell 0;go_wp2_with fail;refine aJ ae (uv.out _ _ ae.2.2.1.out v0) λw2 ae ai=>?_;go_wp2_with fail;obtain⟨Hv,Hr,Hb,_⟩:=ae;have v0:=Hv.out.c1;obtain⟨r0,aW,r1,aX⟩:=Hr.out.g2;refine eW (λw'=>aK w' (w.heap.size) 0 (af (V:Int))) (λi=>Nat.blt i 6) [(0,true),(1,true),(2,false),(3,false),(4,true),(5,true),(6,false),(7,false)] zk zk rfl zk zc v0 ?_;iterate 2 (refine pT rfl rfl ?_;try simp only[UU])
 have ag8:=Hv;have jX:=Hr;have ey:=Hb;refine aP rfl rfl (λK hK=>?_);go_simp;with_reducible refine(iJ.out _ (by first|exact Hb.out|exact Hb.out.drew)).mono ?_
 rintro e w3 ⟨v1,rfl,cW,amb,hq⟩;have ak:Bw w2 w3:=by first|exact hq|exact cJ hq
 replace Hv:=kB Hv ak;replace Hr:=kB Hr ak;have v0:=Hv.out.c1;obtain⟨r0,aW,r1,aX⟩:=Hr.out.g2;replace Hb:=aZ Hb ak;refine hK _ _ (λ_=>v0) ?_;try simp only[UU]
 refine aP rfl rfl (λK hK=>?_);go_simp;with_reducible refine(eH.out _ _ v1 (by first|exact ey.out|exact ey.out.drew) amb cW).mono ?_
 rintro e w4 ⟨a2,c2,rfl,ft,hq⟩;have ak:Bw w2 w4:=by first|exact hq|exact cJ hq
 replace Hv:=aj (ag8.out.below ak);replace Hr:=aj (jX.out.below ak);have v0:=Hv.out.c1;obtain⟨r0,aW,r1,aX⟩:=Hr.out.g2;replace Hb:=aj (aC ey.out ak);refine hK _ _ (λ_=>v0) ?_;try simp only[UU]
 iterate 2 (refine pT rfl rfl ?_;try simp only[UU])
 refine aP rfl rfl (λK hK=>?_);go_simp;refine hK _ _ (by first|exact λh=>absurd h zd|exact λ_=>v0|exact λ_=>fT zg v0) ?_;try simp only[UU]
 refine aP rfl rfl (λK hK=>?_);go_simp;refine hK _ _ (λh=>absurd h zd) ?_;try simp only[UU]
 simp only[bI];go_wp2;refine zL (Hr.out) ft Hb.out zo ?_;intro w9 lU eD gm;obtain⟨p0,p1⟩:=lU.c2;exact bodyPost_ret (v:=.tuple #[.agg #[af (V:Int),.slice a2 C.length c2],af 0]) (by simp[results,Tryz.results121,go_sem,p0,p1]) rfl ⟨_,_,rfl,pj eD (by have:=ey.out.size;exact this),gm⟩
def wR (w:World)(a:Option Addr)(C:List Trm):Prop:=C=[]\/∃b o cur,a=some ⟨b,o,none⟩/\w.heap[b]?=some (.cells cur 111)
def wR.below {w w':World}{a:Option Addr}{C:List Trm}(h:wR w a C)(hb:Bw w w'):wR w' a C:=by
 rcases h with h|⟨b,o,cur,h1,h2⟩
 . exact .inl h
 . exact .inr ⟨b,o,cur,h1,by rw[hb.block b (Array.getElem?_eq_some_iff.1 h2).1];exact h2⟩
def wR.off {w:World}{a:Option Addr}{C:List Trm}{g:Nat}{cur:Array Value}{t:TypeId}(h:wR w a C)(hg:w.heap[g]?=some (.cells cur t))(ht:t≠111)(i:Nat)(u:Value):wR (w.setCell ⟨g,i,none⟩ u) a C:=by
 rcases h with h|⟨b,o,cur',h1,h2⟩
 . exact .inl h
 . refine .inr ⟨b,o,cur',h1,?_⟩;have hne:b≠g:=λe=>by subst e;rw[hg]at h2;simp at h2;exact ht h2.2
   rw[Below.heap_setCell _ _ _ _ hne];exact h2
def aM (w:World)(a:Option Addr)(c:Nat)(C:List Trm):Prop:=At w a (C.flatMap aH)/\Sl a C.length c/\wR w a C
def aM.below {w w':World}{a:Option Addr}{c:Nat}{C:List Trm}(h:aM w a c C)(hb:Bw w w'):aM w' a c C:=⟨h.1.below hb,h.2.1,h.2.2.below hb⟩
instance {w :World} {a:Option Addr} {c:Nat} {C:List Trm}:QTr (aM w a c C) w (λW=>aM W a c C):=⟨λh _ k=>aM.below h k⟩
def uH (w:World)(a:Option Addr)(c:Nat)(C:List Trm):Prop:=At w a (C.flatMap aH)/\Sl a C.length c
def uH.below {w w':World}{a:Option Addr}{c:Nat}{C:List Trm}(h:uH w a c C)(hb:Bw w w'):uH w' a c C:=⟨h.1.below hb,h.2⟩
def aM.w {w:World}{a:Option Addr}{c:Nat}{C:List Trm}(h:aM w a c C):uH w a c C:=⟨h.1,h.2.1⟩
def aM.off {w:World}{a:Option Addr}{c:Nat}{C:List Trm}{g:Nat}{cur:Array Value}{t:TypeId}(h:aM w a c C)(hg:w.heap[g]?=some (.cells cur t))(ht:t≠111)(i:Nat)(u:Value):aM (w.setCell ⟨g,i,none⟩ u) a c C:=by
 refine⟨?_,h.2.1,h.2.2.off hg ht i u⟩;rcases h.2.2 with h'|⟨b,o,cur',rfl,h2⟩
 . subst h';exact .inl rfl
 . have hne:b≠g:=λe=>by subst e;rw[hg]at h2;simp at h2;exact ht h2.2
   rcases h.1 with h1|⟨b1,o1,e1,hc⟩
   . exact .inl h1
   . simp only[Option.some.injEq,Addr.mk.injEq,and_true]at e1;obtain⟨rfl,rfl⟩:=e1;refine .inr ⟨b,o,rfl,λj hj=>?_⟩;have h9:=hc j hj;rw[List.getElem?_eq_getElem hj]at h9⊢;exact aF (.inl hne) h9
def aM.store {w:World}{a:Option Addr}{c b:Nat}{t:TypeId}{C:List Trm}{cs:List Value}(h:aM w a c C)(hb:ar w b t cs)(ht:t≠111)(u v:Value):aM ((w.setCell ⟨b,0,none⟩ u).setCell ⟨b,1,none⟩ v) a c C:=
 (h.off hb ht 0 u).off (hb.set 0 u) ht 1 v
def vQ {w:World}{base c:Nat}{a:Option Addr}{C:List Trm}(h:w.ownsRow base 111 4 (.slice a C.length c) C.length (C.flatMap aH)):aM w a c C:=by
 obtain⟨a',c',hv,hat,_⟩:=cO h;have hs:=ue h;simp only[Value.slice.injEq,true_and]at hv;obtain⟨rfl,rfl⟩:=hv;refine⟨hat,hs,?_⟩;rcases h.2 with⟨_,h2⟩ |⟨g,cap,cur,hv,hb,hg,_⟩
 . exact .inl (List.length_eq_zero_iff.1 h2)
 . simp only[Value.slice.injEq,true_and]at hv;exact .inr ⟨g,0,cur,hv.1,hg⟩
def atr (V:Nat):((List.range V).map λ_=>UInt8.ofNat 0)=jS V:=by
 unfold jS;apply List.ext_getElem
 . simp
 . intro i h1 h2;simp
def aa5 (V:Nat)(D:Dyadic)(x:Raw)(l:Nat->Dyadic)(h:dval x=D):aS [(jS V,x)]=cE V D l 0:=by unfold cE;refine zN (λm=>?_);simp only[eQ,List.range_zero,List.map_nil,bN,bD,h]
def zO (V:Nat)(s:Bool)(m:List UInt8)(e:Int)(D:Dyadic)(B:Nat)(l:Nat->Dyadic)(w:World)(hV:V<=12)(hf:Fit B (s,m,e))(hB:B+3<=268435456)(hT:aB w)(hD:dval (s,m,e)=D):
 Cl 157 #[af (V:Int),.agg #[ag s,ah m,af e]] w λex w'=>∃a' c',ex=.returned (.tuple #[.agg #[af (V:Int),.slice a' (cE V D l 0).length c'],af 0])/\aM w' a' c' (cE V D l 0)/\Bw w w':=by
 have hC:=aa5 V D (s,m,e) l hD;obtain⟨C,NE⟩:=az (cE V D l 0);rw[NE]at hC⊢;have hmk:=λW (hW:Bw w W) b (hb:ar W b 111 [ah (jS V),ag s,ah m,af e])=>Qn V (some ⟨b,0,none⟩) 1 1 [(jS V,(s,m,e))] B W hV rfl zo (Sl.some _ _ _ (Nat.le_refl _)) (At.awH hb) (by intro t ht;simp at ht;subst ht;exact RS V) (by intro t ht;simp at ht;subst ht;simp[jS];omega) (by intro t ht;simp at ht;subst ht;exact hf) zo (hT.below hW);rw[hC]at hmk;have ql:=λW=>GQ (V:Int) W;have hd:decide (0<=(V:Int)/\(V:Int)<=12)=true:=by simp;omega
 rw[hd]at ql;have hmb:=λW=>tY (V:Int) V rfl zo W;have hcv:∀W b,Hid (ar W b 5 (cH V λ_=>0))->(convert 59 9 (.slice (some ⟨b,0,none⟩) V V)).run Tryz.prog W=.ok (ah (jS V)) W:=λW b h=>by rw[<-atr];exact Bg h.out V
 obtain⟨jF,BK⟩:=aI hmk ql;clear hmk ql hd hC NE hT hf hD;have Hb:=hbz w;go_enter Tryz.func157,Tryz.ntmps157;go_wp2_with fail;refine gG w (Hb.an trivial) 45 [ag s,ah m,af e] 41 [af 0,.slice none 0 0] λW aG ae ai=>?_;go_wp2_with fail;refine aJ ae (BK.out _) λw1 ae ai=>?_;go_wp2_with fail;obtain⟨Hc,Hr,Hb,_⟩:=ae;obtain⟨c0,c1,c2⟩:=Hc.out.c3;obtain⟨r0,aW,r1,aX⟩:=Hr.out.g2;refine eW (λw'=>aK w' (w.heap.size) 0 (ag s)/\aK w' (w.heap.size) 1 (ah m)/\aK w' (w.heap.size) 2 (af e)) (λi=>Nat.blt i 10) [(0,true),(1,true),(4,true),(2,false),(3,false),(5,true),(6,false),(7,false),(8,true),(9,true),(10,false),(11,false)] zk zk rfl zk zc ⟨c0,c1,c2⟩ ?_;iterate 3 (refine pT rfl rfl ?_ (by intro w' ⟨q0,q1,q2⟩;go_simp;try with_reducible rfl);try simp only[UU])
 refine aP rfl rfl (λK hK=>?_);go_simp;refine hK _ _ (λ_=>⟨aV c0,aV c1,aV c2⟩) ?_;try simp only[UU]
 refine bY (λW3=>ar W3 (w1.heap.size) 5 (cH V (λ_=>0))/\Bw w1 W3) (by first|exact iA|exact iB) ?_;rintro W3 ⟨qq,ak⟩;have avF:=Hc.out.lt;have avJ:=Hr.out.lt;replace Hc:=kB Hc ak;replace Hr:=kB Hr ak;have Hq:=aj qq;clear qq;obtain⟨c0,c1,c2⟩:=Hc.out.c3;obtain⟨r0,aW,r1,aX⟩:=Hr.out.g2;replace Hb:=aZ Hb ak;refine aP rfl rfl (λK hK=>?_);go_simp;refine hK _ _ (λ_=>⟨c0,c1,c2⟩) ?_;try simp only[UU]
 refine pT rfl rfl ?_;try simp only[UU]
 refine aP rfl rfl (λK hK=>?_);go_simp;refine hK _ _ (λ_=>⟨aV c0,aV c1,aV c2⟩) ?_;try simp only[UU]
 refine bY (λW4=>ar W4 (W3.heap.size) 111 [ah (jS V),ag s,ah m,af e]/\Bw W3 W4) (by first|exact iA|exact iB) ?_;rintro W4 ⟨qz,ak⟩;have aoi:=Hc.out.lt;have avK:=Hr.out.lt;have avH:=Hq.out.lt;replace Hc:=kB Hc ak;replace Hr:=kB Hr ak;replace Hq:=kB Hq ak;have Hz:=aj qz;clear qz;obtain⟨c0,c1,c2⟩:=Hc.out.c3;obtain⟨r0,aW,r1,aX⟩:=Hr.out.g2;obtain⟨z0,z1,z2,z3⟩:=Hz.out.c4;replace Hb:=aZ Hb ak;refine aP rfl rfl (λK hK=>?_);go_simp;with_reducible refine(jF.out _ Hb.out _ Hz.out).mono ?_
 rintro e w5 ⟨a2,d2,rfl,ft,hq⟩;have ak:Bw W4 w5:=by first|exact hq|exact cJ hq
 obtain⟨Hc,c0,c1,c2⟩:=AJ Hc ak;obtain⟨Hr,r0,aW,r1,aX⟩:=dD Hr ak;replace Hq:=kB Hq ak;obtain⟨Hz,z0,z1,z2,z3⟩:=AK Hz ak;replace Hb:=aZ Hb ak;refine hK _ _ (λ_=>⟨c0,c1,c2⟩) ?_;try simp only[UU]
 iterate 2 (refine pT rfl rfl ?_;try simp only[UU])
 refine aP rfl rfl (λK hK=>?_);go_simp;refine hK _ _ (by first|exact λh=>absurd h zd|exact λ_=>⟨c0,c1,c2⟩ |exact λ_=>⟨(by first|exact c0|exact aF zf c0|exact aF zf (aF zf c0) |exact aF zf (aF zf (aF zf c0))),(by first|exact c1|exact aF zf c1|exact aF zf (aF zf c1) |exact aF zf (aF zf (aF zf c1))),(by first|exact c2|exact aF zf c2|exact aF zf (aF zf c2) |exact aF zf (aF zf (aF zf c2)))⟩) ?_;try simp only[UU]
 refine aP rfl rfl (λK hK=>?_);go_simp;refine hK _ _ (λh=>absurd h zd) ?_;try simp only[UU]
 simp only[bI];go_wp2;refine zL (Hr.out) ft Hb.out zo ?_;intro w9 lU eD gm;obtain⟨p0,p1⟩:=lU.c2;exact bodyPost_ret (v:=.tuple #[.agg #[af (V:Int),.slice a2 C.length d2],af 0]) (by simp[results,Tryz.results157,go_sem,p0,p1]) rfl ⟨_,_,rfl,vQ eD,gm⟩
def asA (V k:Nat):((List.range V).map λj=>UInt8.ofNat (if j=k then 1 else 0))=cj V k:=by
 unfold cj;apply List.ext_getElem
 . simp
 . intro i h1 h2;rw[List.getElem_map,List.getElem_range,List.getElem_set];by_cases h:k=i
   . subst h;simp
   . rw[if_neg (λe=>h e.symm),if_neg h];simp
def asB :Fit 1 (canon (1:Dyadic)):=Sm.one.fit zd
def ade (V k:Nat)(w:World)(hV:V<=12)(hk:k<V)(hT:aB w):
 Cl 162 #[af (V:Int),af (k:Int)] w λex w'=>∃a' c',ex=.returned (.tuple #[.agg #[af (V:Int),.slice a' (aS [(cj V k,canon 1)]).length c'],af 0])/\aM w' a' c' (aS [(cj V k,canon 1)])/\Bw w w':=by
 obtain⟨C,hC⟩:=az (aS [(cj V k,canon 1)]);rw[hC];obtain⟨O,hO⟩:∃O:Dyadic,(1:Dyadic)=O:=⟨_,rfl⟩;have hmk:=λW (hW:Bw w W) b (hb:ar W b 111 [ah (cj V k),ag (au (dN O)),ah (nt (dN O).natAbs),af (dE O)])=>Qn V (some ⟨b,0,none⟩) 1 1 [(cj V k,canon 1)] 1 W hV rfl zo (Sl.some _ _ _ (Nat.le_refl _)) (by rw[hO];exact At.awH hb) (by intro t ht;simp at ht;subst ht;exact JY V k) (by intro t ht;simp at ht;subst ht;simp[cj];omega) (by intro t ht;simp at ht;subst ht;exact asB) zo (hT.below hW);rw[hC]at hmk;have hof:=λW (hW:Bw w W)=>uQ 1 O hO W zd (hT.below hW);have ql:=λW=>GQ (V:Int) W;have hd:decide (0<=(V:Int)/\(V:Int)<=12)=true:=by simp;omega
 rw[hd]at ql;have hmb:=λW=>tY (V:Int) V rfl zo W;have hcv:∀W b,Hid (ar W b 5 (cH V λj=>if j=k then 1 else 0))->(convert 59 9 (.slice (some ⟨b,0,none⟩) V V)).run Tryz.prog W=.ok (ah (cj V k)) W:=λW b h=>by rw[<-asA V k];exact Bg h.out V
 have aQ:=λb=>tN V V k (k:Int) (rfl:(some ⟨b,0,none⟩:Option Addr)=_) hk rfl;simp only[Nat.zero_add,Nat.mul_one]at aQ;have hget:(cH V λ_=>0)[k]?=some (.int .u8 0):=lv _ _ _ hk;have oV:(cH V λ_=>0).set k (.int .u8 1)=cH V λj=>if j=k then 1 else 0:=Bh V _ k 1
 obtain⟨jF,jd,BK⟩:=bM hmk hof ql;clear hmk hof ql hd hC hT hO;have IM:¬(k:Int)<0:=by omega
 have Hb:=hbz w;go_enter Tryz.func162,Tryz.ntmps162;go_wp2_with fail;refine bP w (Hb.an trivial) 41 [af 0,.slice none 0 0] λW aG ae ai=>?_;go_wp2_with fail;refine aJ ae (BK.out _) λw1 ae ai=>?_;go_wp2_with fail;obtain⟨R,hR⟩:∃R:World->Prop,(λW3=>ar W3 w1.heap.size 5 (cH V λj=>if j=k then 1 else 0)/\Bw w1 W3)=R:=⟨_,rfl⟩;first|refine eu R ?hR ?_|refine dS R ?hR ?_
 case hR=>subst hR;exact⟨ar.newAt w1 _ _ (b:=w1.heap.size) rfl,zl⟩
 subst hR;intro W3 ⟨qm,ak⟩;obtain⟨ae,ai⟩:=qX ak ae;skip
 have Hm:=aj qm;clear qm ak hget oV aQ hmb;obtain⟨Hr,Hb,_⟩:=ae;obtain⟨r0,aW,r1,aX⟩:=Hr.out.g2;have qT:∀w',gU W3 w'->(convert 59 9 (.slice (some ⟨w1.heap.size,0,none⟩) V V)).run Tryz.prog w'=.ok (ah (cj V k)) w':=λw' h=>hcv w' _ (aj (Hm.out.below h));have jT:Hid (gU W3 W3):=Below.refl _ _;refine eW (λw'=>gU W3 w') (λi=>Nat.blt i 9) [(0,true),(1,true),(2,true),(3,false),(4,true),(5,false),(6,false),(7,true),(8,true),(9,false),(10,false)] zk zk rfl zk zc jT.out.drew ?_;iterate 3 (refine QP rfl rfl (v:=?_) (λw' hw'=>?_) ?_;rotate_left;(focus have hw':=qT w' hw';go_simp;try with_reducible rfl);try simp only[UU])
 refine aP rfl rfl (λK hK=>?_);go_simp;with_reducible refine(jd.out _ (by first|exact Hb.out|exact Hb.out.drew)).mono ?_
 rintro e w4 ⟨rfl,hq⟩;have ak:Bw W3 w4:=by first|exact hq|exact cJ hq
 replace jT:=aj (jT.out.below ak);obtain⟨Hr,r0,aW,r1,aX⟩:=dD Hr ak;replace Hb:=aZ Hb ak;refine hK _ _ (λ_=>jT.out) ?_;try simp only[UU]
 refine pT rfl rfl ?_;try simp only[UU]
 refine aP rfl rfl (λK hK=>?_);go_simp;refine hK _ _ (λ_=>by first|exact jT.out.alloc _|exact(jT.out.alloc _).drew|exact(jT.out.drew).alloc _) ?_;try simp only[UU]
 refine bY (λW5=>ar W5 (w4.heap.size) 111 [ah (cj V k),ag (au (dN O)),ah (nt (dN O).natAbs),af (dE O)]/\Bw w4 W5) (by first|exact iA|exact iB) ?_;rintro W5 ⟨qz,ak⟩;have avL:=Hr.out.lt;replace jT:=aj (jT.out.below ak);replace Hr:=kB Hr ak;have Hz:=aj qz;clear qz;obtain⟨r0,aW,r1,aX⟩:=Hr.out.g2;obtain⟨z0,z1,z2,z3⟩:=Hz.out.c4;replace Hb:=aZ Hb ak;refine aP rfl rfl (λK hK=>?_);go_simp;with_reducible refine(jF.out _ Hb.out _ Hz.out).mono ?_
 rintro e w6 ⟨a2,d2,rfl,ft,hq⟩;have ak:Bw W5 w6:=by first|exact hq|exact cJ hq
 replace jT:=aj (jT.out.below ak);obtain⟨Hr,r0,aW,r1,aX⟩:=dD Hr ak;obtain⟨Hz,z0,z1,z2,z3⟩:=AK Hz ak;replace Hb:=aZ Hb ak;refine hK _ _ (λ_=>jT.out) ?_;try simp only[UU]
 iterate 2 (refine pT rfl rfl ?_;try simp only[UU])
 refine aP rfl rfl (λK hK=>?_);go_simp;refine hK _ _ (by first|exact λh=>absurd h zd|exact λ_=>jT.out|exact λ_=>fT zg jT.out) ?_;try simp only[UU]
 refine aP rfl rfl (λK hK=>?_);go_simp;refine hK _ _ (λh=>absurd h zd) ?_;try simp only[UU]
 simp only[bI];go_wp2;refine zL (Hr.out) ft Hb.out zo ?_;intro w9 lU eD gm;obtain⟨p0,p1⟩:=lU.c2;exact bodyPost_ret (v:=.tuple #[.agg #[af (V:Int),.slice a2 C.length d2],af 0]) (by simp[results,Tryz.results162,go_sem,p0,p1]) rfl ⟨_,_,rfl,vQ eD,gm⟩
def AR {l:List UInt8}{V:Nat}(h:bZ l (V:Int)=true):l.length=V:=by unfold bZ at h;rw[Bool.and_eq_true]at h;have:=h.2;simp at this;omega
def dJ (V B:Nat)(ts:List Trm):Prop:=zw V ts/\∀t∈ts,Fit B t.2
def dJ.chk {V B:Nat}{ts:List Trm}(h:dJ V B ts):∀t∈ts,t.1.length<=9223372036854775807/\Ok t.2:=λt ht=>⟨by have:=AR (h.1.2.1 t ht);have:=h.1.2.2.2;omega,(h.2 t ht).1⟩
def arp (V:Nat)(a:Option Addr)(cap:Nat)(ts:List Trm)(s:Bool)(m:List UInt8)(e:Int)(D:Dyadic)(B:Nat)(w:World)(hp:dJ V B ts)(ha:uH w a cap ts)(hf:Fit B (s,m,e))(hB:2*B+8192<=268435456)(hT:aB w)(hD:dval (s,m,e)=D):
 Cl 159 #[.agg #[af (V:Int),.slice a ts.length cap],.agg #[ag s,ah m,af e]] w λex w'=>∃a' c',ex=.returned (.tuple #[.agg #[af (V:Int),.slice a' (aS (cz D ts)).length c'],af 0])/\aM w' a' c' (aS (cz D ts))/\Bw w w':=by
 obtain⟨n,hn⟩:=az ts.length;have hnl:n<=4096:=by have:=hp.1.2.2.1;omega
 have hV:V<=12:=hp.1.2.2.2;obtain⟨C,hC⟩:=az (aS (cz D ts));have nX:(cz D ts).length=n:=by unfold cz;rw[List.length_map,hn]
 have Xq:∀t∈cz D ts,Fit (2*B) t.2:=by intro t ht;unfold cz at ht;obtain⟨x,hx,rfl⟩:=List.mem_map.1 ht;refine Sm.fit ?_ zo;have:=Sm.mul (hp.2 x hx).2 hf.2;rw[hD]at this;exact this.mono zo
 have cF:=λW (hW:Bw w W)=>Ba (V:Int) a cap n ts W hn zo (ha.1.below hW) hp.chk (hT.below hW);rw[JI hp.1]at cF;have hs:=ha.2;rw[hn]at hs;have hcn:=λW (hW:Bw w W)=>(MN a n cap ts W hn zo hs (ha.1.below hW)).mono (λe w' h=>(match h with|⟨v,h1,h2,h3⟩=>⟨v,h1,h2,h3,h3⟩:∃v',e=.returned v'/\w'.ownsRow W.heap.size 111 4 v' n (ts.flatMap aH)/\Bw W w'/\Bw W w'));have hcl:=λw0 W v (hw0:Bw w w0) (hb0:Bw w0 W) (ho:W.ownsRow w0.heap.size 111 4 v n ((cz D ts).flatMap aH))=>Gr (V:Int) v n (cz D ts) C (2*B) w0 W hb0 nX hnl ho Xq zo (hT.below hw0) hC;have iU:=hp.2;rw[hn,hC];obtain⟨gu,iJ,eH,wE,HT,Hn,Lf,HD⟩:=nk cF hcn hcl iU hT hn hf hD;clear cF hcn hcl iU hT hn hf hD hC nX Xq hs ha hp;have Hb:=hbz w;go_enter Tryz.func159,Tryz.ntmps159;go_wp2_with fail;refine EF w (Hb.an trivial) 41 [af (V:Int),.slice a n cap] 45 [ag s,ah m,af e] 41 [af 0,.slice none 0 0] λW aG ae ai=>?_;go_wp2_with fail;refine aJ ae (gu.out _ ae.2.2.2.1.out) λw1 ae ai=>?_;obtain⟨Hp,Hc,Hr,Hb,_⟩:=ae;obtain⟨p0,p1⟩:=Hp.out.c2;obtain⟨c0,c1,c2⟩:=Hc.out.c3;obtain⟨r0,aW,r1,aX⟩:=Hr.out.g2;have BW:=Hp;have KI:=Hc;have jX:=Hr;have ey:=Hb;go_wp2_with fail;refine(iJ.out _ Hb.out).mono ?_;rintro e w2 ⟨v1,rfl,cW,vg,ak⟩;obtain⟨ae,ai⟩:=qX ak (Hb.an<|Hp.an<|Hc.an<|Hr.an trivial);obtain⟨a1,d1,rfl,_,_⟩:=cO cW;obtain⟨lG,SU⟩:=aI cW vg;clear cW vg;go_wp2_with fail;go_loopw[20] (λx wr=>∃(k:Nat) (C:List Trm),k<=n/\x=af (k:Int)/\C.length=n/\C.take k=(cz D ts).take k/\C.drop k=ts.drop k/\wr.ownsRow w1.heap.size 111 4 (.slice a1 n d1) n (C.flatMap aH)/\Bw w1 wr) (λx _=>n-(intOf x).toNat);case atStart=>exact⟨0,ts,Nat.zero_le _,rfl,Hn.out,rfl,rfl,lG.out,SU.out⟩
 case round=>
  clear lG SU;obtain⟨k,C',hk,rfl,hC,htk,hdr,hov,pb⟩:=hrel;obtain⟨Hp,Hc,Hr⟩:=bM (BW.out.below pb) (KI.out.below pb) (jX.out.below pb);have dV:=aC ey.out pb;have yu:=ey.out.size;by_cases hlt:k<n
  . obtain⟨g,cc,he,hg1,hg2,hg3⟩:=rU hov zo;simp only[Value.slice.injEq,true_and]at he;obtain⟨rfl,rfl⟩:=he;have tF:k<C'.length:=by omega
    have xA:k<ts.length:=by have:=Hn.out;omega
    have hel:=VX hdr tF xA;obtain⟨l,s1,q1,e1,hx⟩:∃l s m e,C'[k]=(l,s,m,e):=⟨_,_,_,_,rfl⟩;have cS:=wE.out _ (List.getElem_mem xA);rw[<-hel,hx]at cS;obtain⟨X,hX⟩:=az (dval (s1,q1,e1) *D);have oV:=abh (λx=>(x.1,canon (dval x.2*D))) ts C' k tF (by rw[hC,Hn.out]) htk hel;have Dj:(C'[k].1,canon (dval C'[k].2*D))=(l,canon X):=by rw[hx,<-hX]
    have ZZ:(C'.set k (l,canon X)).take (k+1)=(cz D ts).take (k+1):=by rw[<-Dj];exact oV
    have jN:C'[k].1=l:=by rw[hx]
    obtain⟨_,y1,y2,y3⟩:=(JG hov k tF hx).w4;have hd2:C'.drop (k+1)=ts.drop (k+1):=by rw[<-List.drop_drop,<-List.drop_drop,hdr]
    have aQ:=fW n d1 k (k:Int) (rfl:(some ⟨g,0,none⟩:Option Addr)=_) hlt rfl;rw[Nat.zero_add]at aQ;have Hz:Hid (aR wr g (k*4+1) [ag s1,ah q1,af e1]):=jA y1 y2 y3;have HX:Hid (dval (s1,q1,e1) *dval (s,m,e)=X):=by show _=_;rw[HD.out];exact hX
    obtain⟨cN,aO,LZ,sw,HC,KQ,ie,pz⟩:=nk hov pb ZZ hd2 hC jN cS (HT.out.below dV);have gQ:=pb.size;clear hov pb oV ZZ hd2 hC htk hdr hel hx hX Dj jN cS xA y1 y2 y3 dV BW KI jX Hp Hr;have Hb:=hbz wr;go_wp2_with fail;obtain⟨ae,ai⟩:=qZ (Hc.an<|Hz.an trivial);have HU:Hid (aB wr):=pz.out;obtain⟨Hc,Hz,_⟩:=ae;obtain⟨c0,c1,c2⟩:=Hc.out.c3;obtain⟨z0,z1,z2⟩:=Hz.out.w3;refine eW (λw'=>aK w' (w.heap.size+1) 0 (ag s)/\aK w' (w.heap.size+1) 1 (ah m)/\aK w' (w.heap.size+1) 2 (af e)/\aK w' g (k*4+1) (ag s1)/\aK w' g (k*4+1+1) (ah q1)/\aK w' g (k*4+1+2) (af e1)) (λi=>Nat.blt i 12) [(0,true),(1,true),(2,true),(3,true),(4,true),(5,true),(6,true),(7,true),(8,false),(9,false),(10,true),(11,true),(12,false)] zk zk rfl zk zc ⟨c0,c1,c2,z0,z1,z2⟩ ?_;iterate 8 (refine pT rfl rfl ?_ (by intro w' ⟨q0,q1,q2,q3,q4,q5⟩;go_simp;try with_reducible rfl);try simp only[UU])
    refine aP rfl rfl (λK hK=>?_);go_simp;refine hK _ _ (λ_=>⟨aV c0,aV c1,aV c2,aV z0,aV z1,aV z2⟩) ?_;try simp only[UU]
    refine bY (λW4=>ar W4 (wr.heap.size) 45 [ag s1,ah q1,af e1,ag s,ah m,af e]/\Bw wr W4) (by first|exact iA|exact iB) ?_;rintro W4 ⟨qv,ak⟩;have aoi:=Hc.out.lt;replace Hc:=kB Hc ak;replace Hz:=kW Hz ak;replace HU:=kT HU ak;have Hv:=aj qv;clear qv;obtain⟨c0,c1,c2⟩:=Hc.out.c3;obtain⟨z0,z1,z2⟩:=Hz.out.w3;obtain⟨v0,v1,v2,v3,v4,v5⟩:=Hv.out.c6;replace Hb:=aZ Hb ak;refine aP rfl rfl (λK hK=>?_);go_simp;with_reducible refine(uP s1 q1 e1 s m e X B HX.out wr.heap.size _ 45 _ ie.out Lf.out zo Hv.out (by first|exact HU.out|exact aB.drew HU.out|exact aB.alloc HU.out _|exact aB.drew (aB.alloc HU.out _) |exact aB.alloc (aB.drew HU.out) _)).mono ?_
    rintro e w5 ⟨rfl,hq⟩;have ak:Bw W4 w5:=by first|exact hq|exact cJ hq
    obtain⟨Hc,c0,c1,c2⟩:=AJ Hc ak;replace Hz:=kW Hz ak;replace HU:=kT HU ak;obtain⟨Hv,v0,v1,v2,v3,v4,v5⟩:=Js Hv ak;obtain⟨z0,z1,z2⟩:=Hz.out.w3;replace Hb:=aZ Hb ak;refine hK _ _ (λ_=>⟨c0,c1,c2,z0,z1,z2⟩) ?_;try simp only[UU]
    iterate 2 (refine pT rfl rfl ?_;try simp only[UU])
    refine aP rfl rfl (λK hK=>?_);have gZ:=ownsRow_below cN.out Hb.out;have xm:=kE gZ (k*4+1);have GU:=kE gZ (k*4+1+1);have Wz:=kE gZ (k*4+1+2);have di:=aC aO.out Hb.out;obtain⟨wJ,fe⟩:=aI gZ di;clear gZ di;go_simp;refine hK _ _ (λh=>absurd h zd) ?_;try simp only[UU]
    simp only[bI];go_wp2;refine⟨⟨k+1,C'.set k (l,canon X),by omega,by go_num,by rw[List.length_set];exact HC.out,LZ.out,by rw[Nb _ _ _ _ zo];exact sw.out,?_,?_⟩,by simp[intOf];omega⟩
    . have h:=abL wJ.out k tF (au (dN X)) (nt (dN X).natAbs) (dE X);rw[KQ.out]at h;exact h
    . exact((fe.out.setCell hg1 _).setCell hg1 _).setCell hg1 _
  . obtain rfl:k=n:=by omega
    have CN:C'=cz D ts:=by rw[List.take_of_length_le zo,List.take_of_length_le (by unfold cz;rw[List.length_map];have:=Hn.out;omega)]at htk;exact htk
    rw[CN]at hov;obtain⟨cN,aO⟩:=aI hov pb;have Hb:Hid (Bw w wr):=dV;clear hov pb htk hdr hC CN dV;obtain⟨ae,ai⟩:=qZ (Hp.an<|Hr.an trivial);obtain⟨Hp,Hr,_⟩:=ae;obtain⟨p0,p1⟩:=Hp.out.c2;obtain⟨r0,aW,r1,aX⟩:=Hr.out.g2;go_wp2_with fail;refine(eH.out w1 _ _ ey.out aO.out cN.out).mono ?_;rintro e w6 ⟨a2,d2,rfl,ft,ak⟩;replace Hp:=aj (BW.out.below ak);replace Hr:=aj (jX.out.below ak);obtain⟨p0,p1⟩:=Hp.out.c2;obtain⟨r0,aW,r1,aX⟩:=Hr.out.g2;replace Hb:=aj (aC ey.out ak);go_wp2;refine zL (Hr.out) ft Hb.out zo ?_;intro w9 lU eD gm;obtain⟨q0,q1⟩:=lU.c2;exact bodyPost_ret (v:=.tuple #[.agg #[af (V:Int),.slice a2 C.length d2],af 0]) (by simp[results,Tryz.results159,go_sem,q0,q1]) rfl ⟨_,_,rfl,vQ eD,gm⟩
def Rj (V:Nat)(a:Option Addr)(cap:Nat)(ts:List Trm)(s:Bool)(m:List UInt8)(e:Int)(D:Dyadic)(B:Nat)(w:World)(hp:dJ V B ts)(ha:aM w a cap ts)(hf:Fit B (s,m,e))(hB:2*B+8192<=268435456)(hT:aB w)(hD:dval (s,m,e)=D):
 Cl 159 #[.agg #[af (V:Int),.slice a ts.length cap],.agg #[ag s,ah m,af e]] w λex w'=>∃a' c',ex=.returned (.tuple #[.agg #[af (V:Int),.slice a' (aS (cz D ts)).length c'],af 0])/\aM w' a' c' (aS (cz D ts))/\Bw w w':=arp V a cap ts s m e D B w hp ha.w hf hB hT hD
def jx (x:Dyadic)(m:Nat):List Dyadic:=(List.range m).map (dF x)
def abX (x:Dyadic)(m:Nat):(jx x m).length=m:=by simp[jx]
def aqx (x:Dyadic)(m k:Nat)(h:k<(jx x m).length):(jx x m)[k]=dF x k:=by simp[jx]
def abY (x:Dyadic)(m:Nat):dC (jx x (m+1))=dC (jx x m)++dC [dF x m]:=by unfold jx;rw[List.range_succ,List.map_append,Gv];rfl
def gj (W:World)(kb n:Nat)(X:Nat->Dyadic)(Z:Nat->Prop):Prop:=
 ∃vs:List Value,∃ms:Nat->Nat,vs.length=n/\ar W kb 124 vs/\(∀i (h:i<vs.length),ms i<=256/\W.ownsRow (kb+1) 45 3 vs[i] (ms i) (dC (jx (X i) (ms i))))/\
  (∀i j (hi:i<vs.length) (hj:j<vs.length) g,vs[i].ownBlock=some g->vs[j].ownBlock=some g->i=j)/\(∀i (h:i<vs.length) g,vs[i].ownBlock=some g->¬Z g)
def gj.re {W:World}{kb n:Nat}{X:Nat->Dyadic}{Z Z':Nat->Prop}(h:gj W kb n X Z)(hz:∀b,Z' b->Z b\/W.heap.size<=b):gj W kb n X Z':=by
 obtain⟨vs,ms,h1,h2,h3,h4,h5⟩:=h;refine⟨vs,ms,h1,h2,h3,h4,λi hi g hg hz'=>?_⟩;rcases hz g hz' with h|h
 . exact h5 i hi g hg h
 . have:=((h3 i hi).2.lt g hg).2;omega
def gj.chg {W W':World}{kb n:Nat}{X:Nat->Dyadic}{Z Y:Nat->Prop}(h:gj W kb n X Z)(hc:Chg Y W W')(hk:¬Y kb)(hy:∀b,Y b->b<W.heap.size->Z b):gj W' kb n X Z:=by obtain⟨vs,ms,h1,h2,h3,h4,h5⟩:=h;refine⟨vs,ms,h1,hc.blk h2 hk,λi hi=>⟨(h3 i hi).1,Ex (h3 i hi).2 hc (λg hg hy'=>h5 i hi g hg (hy g hy' ((h3 i hi).2.lt g hg).2))⟩,h4,h5⟩
def Gq {W W':World}(h:Bw W W'):Chg (λ_=>False) W W':=⟨h.os,h.tape,h.output,h.size,λk hk _=>h.block k hk⟩
def gj.below {W W':World}{kb n:Nat}{X:Nat->Dyadic}{Z:Nat->Prop}(h:gj W kb n X Z)(hb:Bw W W'):gj W' kb n X Z:=h.chg (Gq hb) id (λ_ h=>h.elim)
def gj.lt {W:World}{kb n:Nat}{X:Nat->Dyadic}{Z:Nat->Prop}(h:gj W kb n X Z):kb<W.heap.size:=by obtain⟨vs,ms,h1,h2,_⟩:=h;exact h2.lt
def gj.set {w W:World}{kb n i m:Nat}{X:Nat->Dyadic}{Z:Nat->Prop}{vs:List Value}{ms:Nat->Nat}{v:Value}(h1:vs.length=n)(hi:i<vs.length)
 (h3:∀i (h:i<vs.length),ms i<=256/\w.ownsRow (kb+1) 45 3 vs[i] (ms i) (dC (jx (X i) (ms i)))) (h4:∀i j (hi:i<vs.length) (hj:j<vs.length) g,vs[i].ownBlock=some g->vs[j].ownBlock=some g->i=j) (h5:∀i (h:i<vs.length) g,vs[i].ownBlock=some g->¬Z g)
 (hc:Chg (λb=>b=kb\/some b=(vs[i]).ownBlock) w W) (hk:ar W kb 124 (vs.set i v)) (hm:m<=256) (ho:W.ownsRow (kb+1) 45 3 v m (dC (jx (X i) m))) (hv:v.ownBlock=(vs[i]).ownBlock\/∃g,v.ownBlock=some g/\w.heap.size<=g) (hz:∀b,Z b->b<w.heap.size):gj W kb n X Z:=by
 have hold:∀j (h:j<vs.length) g,vs[j].ownBlock=some g->g<w.heap.size:=λj h g hg=>((h3 j h).2.lt g hg).2;have vH:∀g,v.ownBlock=some g->(vs[i]).ownBlock=some g\/w.heap.size<=g:=λg hg=>by
  rcases hv with h|⟨g',h,h'⟩
  . left;rw[<-h];exact hg
  . right;rw[h]at hg;simp at hg;omega
 refine⟨vs.set i v,λj=>if j=i then m else ms j,by simpa using h1,hk,λj hj=>?_,λj l hj hl g e1 e2=>?_,λj hj g e1=>?_⟩
 . have hj':j<vs.length:=by simpa using hj
   by_cases hji:j=i
   . subst hji;dsimp only;rw[List.getElem_set_self,if_pos rfl];exact⟨hm,ho⟩
   . dsimp only;rw[List.getElem_set_ne (λh=>hji h.symm),if_neg hji];refine⟨(h3 j hj').1,Ex (h3 j hj').2 hc (λg hg hy=>?_)⟩;rcases hy with hy|hy
     . have:=((h3 j hj').2.lt g hg).1;omega
     . exact hji (h4 j i hj' hi g hg hy.symm)
 . have hj':j<vs.length:=by simpa using hj
   have hl':l<vs.length:=by simpa using hl
   by_cases hji:j=i
   . by_cases iW:l=i
     . rw[hji,iW]
     . subst hji;rw[List.getElem_set_self]at e1;rw[List.getElem_set_ne (λh=>iW h.symm)]at e2;rcases vH g e1 with h|h
       . exact h4 j l hi hl' g h e2
       . have:=hold l hl' g e2;omega
   . rw[List.getElem_set_ne (λh=>hji h.symm)]at e1;by_cases iW:l=i
     . subst iW;rw[List.getElem_set_self]at e2;rcases vH g e2 with h|h
       . exact h4 j l hj' hi g e1 h
       . have:=hold j hj' g e1;omega
     . rw[List.getElem_set_ne (λh=>iW h.symm)]at e2;exact h4 j l hj' hl' g e1 e2
 . have hj':j<vs.length:=by simpa using hj
   by_cases hji:j=i
   . subst hji;rw[List.getElem_set_self]at e1;rcases vH g e1 with h|h
     . exact h5 j hi g h
     . intro hzg;have:=hz g hzg;omega
   . rw[List.getElem_set_ne (λh=>hji h.symm)]at e1;exact h5 j hj' g e1
def ahY {P:Program}(w:World)(base:Nat)(t ty e:TypeId)(i:TypeInfo)(z:Value)(size bytes:Nat)(ht:P.underlying t=some (.slice e))(hi:P.info? e=some i)(hz:i.zero=some z)
 (hsize:i.size=size) (hby:i.bytes=bytes) (hzs:z.cells.size=size) (hsz:0<size) (g n cap:Nat) (xs:List Value) (hown:w.ownsRow base e size (.slice (some ⟨g,0,none⟩) n cap) n xs)
 (a:Addr) (m c:Nat) (news:List Value) (hl:news.length=m*size) (hnews:∀j u,news[j]?=some u->w.cell? (a.add j)=some u) (h1:∀u∈news,u.oneCell'=true)
 (h63:n+m<=maxLen) (hbytes:(n+m) *bytes<=140737488355328) (hbase:base<=w.heap.size):
 ∃v' w',(Builtin.append_ #[t,t] ty #[.slice (some ⟨g,0,none⟩) n cap,.slice (some a) m c]).run P w=.ok v' w'/\w'.ownsRow base e size v' (n+m) (xs++news)/\w.grownBy w' (some g)/\
  (v'.ownBlock=some g\/v'.ownBlock=some w.heap.size)/\∀j u,j<n*size->w.cell? ⟨g,j,none⟩=some u->aK w' g j u:=by
 obtain⟨v',w',hr,h2,h3,_,h5⟩:=run_append_own_at (P:=P) w base t ty e i z size bytes ht hi hz hsize hby hzs hsz _ n xs hown a m c news hl hnews h1 h63 hbytes hbase;refine⟨v',w',hr,h2,h3,h5,λj u hj hu=>?_⟩;have hcell:w.cell? ⟨g,j,none⟩=xs[j]?:=by
  have vt:j<xs.length:=by rw[hown.1];exact hj
  have h:=hown.cells (g:=g) rfl j xs[j] (List.getElem?_eq_getElem vt);rw[show((⟨g,0,none⟩:Addr).add j)=⟨g,j,none⟩by unfold Addr.add;cases j<;>simp]at h;rw[h,List.getElem?_eq_getElem vt]
 by_cases hroom:n+m<=cap
 . obtain⟨w2,hr2,h4,_⟩:=run_append_own_spare (P:=P) w base t ty e i size ht hi hsize g n cap xs hown a m c news hl hnews h1 hroom;rw[hr]at hr2;simp only[Result.ok.injEq]at hr2;obtain⟨rfl,rfl⟩:=hr2;have vt:j<xs.length:=by rw[hown.1];exact hj
   have h:=h4.cells (g:=g) rfl j xs[j] (by rw[List.getElem?_append_left vt];exact List.getElem?_eq_getElem vt);rw[show((⟨g,0,none⟩:Addr).add j)=⟨g,j,none⟩by unfold Addr.add;cases j<;>simp]at h;exact h.trans (by rw[<-hu,hcell,List.getElem?_eq_getElem vt])
 . have hsmall:n+m<=9223372036854775807:=by simp only[maxLen]at h63;omega
   subst hsize hby;have hr2:=run_append_grow (P:=P) w t ty e i z ht hi hz ⟨g,0,none⟩ n cap xs hown.1 (hown.cells (g:=g) rfl) a m c news hl hnews zo zo (growslice_fits zo hbytes);rw[hr]at hr2;simp only[Result.ok.injEq]at hr2;obtain⟨_,rfl⟩:=hr2;exact aV (w:=w.drew) hu
def atc {P:Program}{w:World}{o:Oper}{a:Act}{K:Act->World->Prop}{Q:Exit->Act->World->Prop}(s x:Operand)(t:TypeId)
 (ho:o.op=.call {callee:=.builtin .append,args:=#[s,x],argTypes:=#[t,t]})
 (base:Nat) (e:TypeId) (i:TypeInfo) (z:Value) (size bytes:Nat) (ht:P.underlying t=Option.some (.slice e)) (hi:P.info? e=Option.some i) (hz:i.zero=Option.some z)
 (hsize:i.size=size) (hby:i.bytes=bytes) (hzs:z.cells.size=size) (hsz:0<size)
 (g n cap:Nat) (xs:List Value) (hs:a.eval s=.slice (some ⟨g,0,none⟩) n cap) (hown:w.ownsRow base e size (.slice (some ⟨g,0,none⟩) n cap) n xs)
 (ad:Addr) (m c:Nat) (news:List Value) (hx:a.eval x=.slice (some ad) m c) (hl:news.length=m*size) (hnews:∀j u,news[j]?=some u->w.cell? (ad.add j)=some u) (h1:∀u∈news,u.oneCell'=true)
 (h63:n+m<=maxLen) (hbytes:(n+m) *bytes<=140737488355328) (hbase:base<=w.heap.size)
 (h:∀v' w',w'.ownsRow base e size v' (n+m) (xs++news)->w.grownBy w' (some g)->(v'.ownBlock=some g\/v'.ownBlock=some w.heap.size)->(∀j u,j<n*size->w.cell? ⟨g,j,none⟩=some u->aK w' g j u)->K (a.put o.dst v') w'):o.wp P a w K Q:=by
 obtain⟨v',w',hr,h2,h3,h5,h6⟩:=ahY (P:=P) w base t o.type e i z size bytes ht hi hz hsize hby hzs hsz g n cap xs hown ad m c news hl hnews h1 h63 hbytes hbase;unfold Oper.wp execOp;simp only[ho,resolve,invoke,builtin,Sem.run_bind,Sem.run_pure,Result.andThen_ok,List.map_toArray,List.map_cons,List.map_nil,hs,hx,hr];exact h v' w' h2 h3 h5 h6
end Go.Proofs.YtpfgffadgkkedaaGreatDoor
namespace Go.Proofs.YtpfgffadgkkedaaGreatDoor
open Go.RowKit
def fA (s:Raw×Raw):List Value:=aY s.1++aY s.2
def At.spn {W:World}{a:Option Addr}{bx:List (Raw×Raw)}(h:At W a (bx.flatMap fA))(k:Nat)(hk:k<bx.length){s t:Bool}{m n:List UInt8}{e f:Int}(hx:bx[k]=((s,m,e),(t,n,f))):
 ∃b o,a=some ⟨b,o,none⟩/\aR W b (o+k*6) [ag s,ah m,af e,ag t,ah n,af f]:=by
 obtain⟨b,o,ha,hc⟩:=h.elem (f:=fA) (sz:=6) (λ_=>rfl) zd k hk;rw[hx]at hc;refine⟨b,o,ha,λj hj=>?_⟩;have hj6:j<6:=hj;rw[hc j hj6];exact List.getElem?_eq_getElem hj
abbrev vV (p:Pr):Value:=.agg #[ag (au (dN p.1)),ah (nt (dN p.1).natAbs),af (dE p.1),ag (au (dN p.2)),ah (nt (dN p.2).natAbs),af (dE p.2)]
def iR (A:Dyadic->Dyadic->Bool)(xs:List Raw):Nat->Raw
 |0=>(false,[],0)
 |k+1=>if k=0\/A (dval (xs.getD k (false,[],0))) (dval (iR A xs k))=true then xs.getD k (false,[],0)else iR A xs k
def alA (A:Dyadic->Dyadic->Bool)(xs:List Raw)(Q:Raw->Prop)(h0:Q (false,[],0))(h:∀x∈xs,Q x)(k:Nat):Q (iR A xs k):=by
 have hg:∀k,Q (xs.getD k (false,[],0)):=λk=>by
  by_cases hk:k<xs.length
  . have e:xs.getD k (false,[],0)=xs[k]:=by simp[hk]
    rw[e];exact h _ (List.getElem_mem hk)
  . have e:xs.getD k (false,[],0)=(false,[],0):=by simp[List.getD_eq_getElem?_getD,List.getElem?_eq_none (by omega:xs.length<=k)]
    rw[e];exact h0
 induction k with
 |zero=>exact h0
 | succ k ih=>
   unfold iR;split
   . exact hg k
   . exact ih
def Ok.zero :Ok (false,[],0):=⟨by decide,by decide,by decide⟩
end Go.Proofs.YtpfgffadgkkedaaGreatDoor
