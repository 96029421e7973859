/- An own row cut short,cleared behind;an own row as a whole block. -/
import Derived.Test.YtnjfebkelecgaaaGreatDoorZ11
import Derived.Laws.CopyRow
import Derived.Laws.AppendOwnNone
import Derived.Deep.DeepAppendRoom
import Derived.Test.YtnjfebkelecgaaaGreatDoorZ7
import Derived.Test.YtnjfebkelecgaaaGreatDoorZ13
set_option linter.all false
set_option maxRecDepth 100000
set_option maxHeartbeats 16000000
namespace Go.Proofs.YtnjfebkelecgaaaGreatDoor
open Go.RowKit
def agn {w:World}{base:Nat}{e:TypeId}{size n cap g:Nat}{xs:List Value}(h:w.ownsRow base e size (.slice (some ⟨g,0,none⟩) n cap) n xs)(i:Nat)(hi:i<=n):
 w.ownsRow base e size (.slice (some ⟨g,0,none⟩) i cap) i (xs.take (i*size)):=by
 have NM:i*size<=n*size:=Nat.mul_le_mul_right _ hi;refine⟨by rw[List.length_take,h.1];omega,?_⟩;rcases h.2 with⟨h1,_⟩ |⟨g',cap',cur,h1,hb,hg,h4,h5,h6,hx⟩
 . simp at h1
 . simp only[Value.slice.injEq,Option.some.injEq,Addr.mk.injEq,and_true,true_and]at h1;obtain⟨rfl,rfl⟩:=h1;refine .inr ⟨g,cap,cur,rfl,hb,hg,by omega,h5,h6,?_⟩;rw[<-hx,List.take_take,Nat.min_eq_left NM]
def xK {w:World}{base:Nat}{e:TypeId}{size n:Nat}{v:Value}{xs:List Value}(h:w.ownsRow base e size v n xs)(hn:0<n):∃g cap,v=.slice (some ⟨g,0,none⟩) n cap/\base<=g/\g<w.heap.size/\n<=cap:=by
 rcases h.2 with⟨_,h1⟩ |⟨g,cap,cur,h1,hb,hg,h4,_⟩
 . omega
 . exact⟨g,cap,h1,hb,(Array.getElem?_eq_some_iff.1 hg).1,h4⟩
def aui {w:World}{base:Nat}{e:TypeId}{size n cap g:Nat}{xs:List Value}(h:w.ownsRow base e size (.slice (some ⟨g,0,none⟩) n cap) n xs)(o:Nat)(vs:List Value)(ho:n*size<=o)(cur:Array Value)(IG:w.heap[g]?=some (.cells cur e (0,0)))(hl:o+vs.length<=cur.size):
 (w.setRow g (cur.toList.take o++vs++cur.toList.drop (o+vs.length)).toArray).ownsRow base e size (.slice (some ⟨g,0,none⟩) n cap) n xs/\w.grownBy (w.setRow g (cur.toList.take o++vs++cur.toList.drop (o+vs.length)).toArray) (some g):=by
 have hh:=setRow_heap w g cur (cur.toList.take o++vs++cur.toList.drop (o+vs.length)).toArray e (0,0) IG;constructor
 . refine⟨h.1,?_⟩;rcases h.2 with⟨h1,_⟩ |⟨g',cap',cur',h1,hb,hg,h4,h5,h6,hx⟩
   . simp at h1
   . simp only[Value.slice.injEq,Option.some.injEq,Addr.mk.injEq,and_true,true_and]at h1;obtain⟨rfl,rfl⟩:=h1;rw[IG]at hg;simp only[Option.some.injEq,Obj.cells.injEq,and_true]at hg;subst hg;refine .inr ⟨g,cap,_,rfl,hb,hh,h4,h5,?_,?_⟩
     . rw[<-h6];have hcl:cur.toList.length=cur.size:=Array.length_toList;simp only[List.size_toArray,List.length_append,List.length_take,List.length_drop,hcl];omega
     . rw[<-hx];have hcl:cur.toList.length=cur.size:=Array.length_toList;simp only[List.append_assoc];rw[List.take_append_of_le_length (by rw[List.length_take,hcl];omega),List.take_take,Nat.min_eq_left ho]
 . refine⟨rfl,rfl,rfl,by simp[World.setRow],λk hk hne=>?_⟩;unfold World.setRow;simp only[Array.getElem?_modify];rw[if_neg (λe=>hne (by rw[e]))]
def WK {P:Program}(w:World)(t e:TypeId)(z:Value)(size:Nat)(ht:P.underlying t=some (.slice e))(hv:∀w,(zeroValue e).run P w=.ok z w)(hz:z.cells.size=size)(h1:∀v∈z.cells.toList,v.oneCell'=true)(g n m cap c:Nat)(base:Nat)(xs:List Value)
 (h:w.ownsRow base e size (.slice (some ⟨g,0,none⟩) n cap) n xs) (hm:n+m<=cap):
 ∃w',(∀ty,(Builtin.clear_ #[t] ty #[.slice (some ⟨g,n*size,none⟩) m c]).run P w=.ok (.tuple #[]) w')/\w'.ownsRow base e size (.slice (some ⟨g,0,none⟩) n cap) n xs/\w.grownBy w' (some g):=by
 rcases h.2 with⟨h2,_⟩ |⟨g',cap',cur,h2,hb,hg,h4,h5,h6,hx⟩
 . simp at h2
 simp only[Value.slice.injEq,Option.some.injEq,Addr.mk.injEq,and_true,true_and]at h2;obtain⟨rfl,rfl⟩:=h2;by_cases hm0:m=0
 . subst hm0;refine⟨w,λty=>?_,h,World.grownBy.refl _ _⟩;simp[Builtin.clear_,run_underlying ht]
 . obtain⟨vs,hvs⟩:=aI ((Builtin.zeroCells z.cells m).toList);have hvl:vs.length=m*size:=by rw[<-hvs,Array.length_toList,size_zeroCells,hz]
   have hvo:∀v∈vs,v.oneCell'=true:=by
    intro v hv2;rw[<-hvs]at hv2;unfold Builtin.zeroCells at hv2;simp only[Array.toList_map,Array.toList_range,List.mem_map,List.mem_range]at hv2;obtain⟨i,hi,rfl⟩:=hv2;have hs:0<z.cells.size:=by
     rcases Nat.eq_zero_or_pos z.cells.size with h0|h0
     . rw[h0]at hi;simp at hi
     . exact h0
    have:=Nat.mod_lt i hs;rw[getElem!_pos z.cells (i%z.cells.size) this];exact h1 _ zm
   have hle:n*size+0+vs.length<=cur.size:=by rw[hvl,h6];have:=Nat.mul_le_mul_right size hm;rw[Nat.add_mul]at this;omega
   have hst:=run_storeCells_at (P:=P) g (n*size) e vs 0 cur w hg hle hvo;obtain⟨k1,k2⟩:=aui h (n*size) vs (Nat.le_refl _) cur hg zo;refine⟨_,λty=>?_,k1,k2⟩;obtain⟨m',rfl⟩:∃m',m=m'+1:=⟨m-1,by omega⟩;simp[Builtin.clear_,run_underlying ht,hv,hvs,hst]
def Sl (a:Option Addr)(n cap:Nat):Prop:=n<=cap/\(a=none->cap=0)
def Sl.nil :Sl none 0 0:=⟨Nat.le_refl _,λ_=>rfl⟩
def Sl.some (x:Addr)(n cap:Nat)(h:n<=cap):Sl (some x) n cap:=⟨h,λe=>by cases e⟩
def uz {w:World}{base:Nat}{e:TypeId}{size n k cap:Nat}{a:Option Addr}{xs:List Value}(h:w.ownsRow base e size (.slice a k cap) n xs):Sl a k cap:=by
 rcases h.2 with⟨h1,_⟩ |⟨g,cap',cur,h1,hb,hg,h4,_⟩
 . simp only[Value.slice.injEq]at h1;obtain⟨rfl,rfl,rfl⟩:=h1;exact Sl.nil
 . simp only[Value.slice.injEq]at h1;obtain⟨rfl,rfl,rfl⟩:=h1;exact Sl.some _ _ _ h4
def ah9 {P:Program}{w:World}{ops:Array Oper}{rest:List Oper}{o:Oper}{a:Act}{Q:Exit->Act->World->Prop}(hgd:o.guard=none)(s x:Operand)(t:TypeId)
 (ho:o.op=.call {callee:=.builtin .append,args:=#[s,x],argTypes:=#[t,t]})
 (base:Nat) (e:TypeId) (i:TypeInfo) (z:Value) (size bytes:Nat) (ht:P.underlying t=Option.some (.slice e)) (hi:P.info? e=Option.some i) (hz:i.zero=Option.some z)
 (hsize:i.size=size) (hby:i.bytes=bytes) (hzs:z.cells.size=size) (hsz:0<size)
 (v:Value) (n:Nat) (xs:List Value) (hs:a.eval s=v) (hown:w.ownsRow base e size v n xs)
 (aa:Option Addr) (m c:Nat) (news:List Value) (hx:a.eval x=.slice aa m c) (hsl:aa=none->m=0/\c=0) (hl:news.length=m*size) (hat:At w aa news) (h1:∀u∈news,u.oneCell'=true)
 (h63:n+m<=maxLen) (hbytes:(n+m) *bytes<=140737488355328) (hbase:base<=w.heap.size)
 (h:∀v' w',w'.ownsRow base e size v' (n+m) (xs++news)->w.grownBy w' v.ownBlock->(v'.ownBlock=v.ownBlock\/v'.ownBlock=Option.some w.heap.size)->wpList P ops Q rest (a.put o.dst v') w'):
 wpList P ops Q (o::rest) a w:=by
 cases aa with
 |none=>obtain⟨hm,hc⟩:=hsl rfl;subst hc;subst hm;have hn:news=[]:=List.eq_nil_of_length_eq_zero (by simpa using hl);subst hn;refine wpList_append_own_none hgd s x t ho base e i size ht hi v n xs hs hown hx ?_;exact h v w (by simpa using hown) (World.grownBy.refl _ _) (.inl rfl)
 | some ad=>
   refine wpList_append_own_at w hgd s x t ho base e i z size bytes ht hi hz hsize hby hzs hsz v n xs hs hown ad m c news hx hl ?_ h1 h63 hbytes hbase (λv' w' h2 h3 _ h5=>h v' w' h2 h3 h5);intro j u hj;rcases hat with h0|⟨b,o',e',hc⟩
   . subst h0;simp at hj
   . simp only[Option.some.injEq]at e';subst e';have hjl:=(List.getElem?_eq_some_iff.1 hj).1;have e2:((⟨b,o',none⟩:Addr).add j)=⟨b,o'+j,none⟩:=by unfold Addr.add;cases j<;>simp
     rw[e2,hc j hjl];exact hj
def qR {P:Program}{w:World}{ops:Array Oper}{rest:List Oper}{o:Oper}{a:Act}{Q:Exit->Act->World->Prop}(hgd:o.guard=none)(s x:Operand)(t:TypeId)
 (ho:o.op=.call {callee:=.builtin .append,args:=#[s,x],argTypes:=#[t,t]})
 (base:Nat) (e:TypeId) (i:TypeInfo) (z:Value) (size bytes:Nat) (ht:P.underlying t=Option.some (.slice e)) (hi:P.info? e=Option.some i) (hz:i.zero=Option.some z)
 (hsize:i.size=size) (hby:i.bytes=bytes) (hzs:z.cells.size=size) (hsz:0<size)
 (v:Value) (n:Nat) (xs:List Value) (hs:a.eval s=v) (hown:w.ownsRow base e size v n xs)
 (aa:Option Addr) (m c:Nat) (news:List Value) (hx:a.eval x=.slice aa m c) (hsl:Sl aa m c) (hl:news.length=m*size) (hat:At w aa news) (h1:∀u∈news,u.oneCell'=true)
 (h63:n+m<=maxLen) (hbytes:(n+m) *bytes<=140737488355328) (hbase:base<=w.heap.size)
 (h:∀v' w',w'.ownsRow base e size v' (n+m) (xs++news)->w.grownBy w' v.ownBlock->(v'.ownBlock=v.ownBlock\/v'.ownBlock=Option.some w.heap.size)->wpList P ops Q rest (a.put o.dst v') w'):
 wpList P ops Q (o::rest) a w:=
 ah9 hgd s x t ho base e i z size bytes ht hi hz hsize hby hzs hsz v n xs hs hown aa m c news hx (λe=>⟨by have h1:=hsl.1;have h2:=hsl.2 e;omega,hsl.2 e⟩) hl hat h1 h63 hbytes hbase h
def At.cut {w:World}{a:Option Addr}{xs:List Value}{k cap size n:Nat}(h:At w a xs)(hl:xs.length=n*size)(hk:k<=n)(hc:n<=cap):At w (if cap=k then a else a.map (·.add (k*size))) (xs.drop (k*size)):=by
 rcases h with h0|⟨b,o,rfl,hcs⟩
 . subst h0;simp;exact .inl rfl
 . by_cases e:cap=k
   . have:xs.drop (k*size)=[]:=List.drop_of_length_le (by rw[hl];exact Nat.mul_le_mul_right _ zo);rw[this];exact .inl rfl
   . rw[if_neg e];have e2:((⟨b,o,none⟩:Addr).add (k*size))=⟨b,o+k*size,none⟩:=by unfold Addr.add;split<;>simp_all
     refine .inr ⟨b,o+k*size,by rw[Option.map_some,e2],λj hj=>?_⟩;rw[List.length_drop]at hj;rw[Nat.add_assoc,hcs _ zo,List.getElem?_drop]
def Sl.cut {a:Option Addr}{k cap size n:Nat}(h:Sl a n cap)(hk:k<=n):Sl (if cap=k then a else a.map (·.add (k*size))) (n-k) (cap-k):=by
 refine⟨by have:=h.1;omega,λe=>?_⟩;by_cases e1:cap=k
 . omega
 . rw[if_neg e1]at e
   have:=h.2 (by cases a with
    |none=>rfl
    |some x=>simp at e)
   omega
def Pc (w:World)(v:Value)(cd:List Raw):Prop:=∃a cap,v=.slice a cd.length cap/\At w a (cd.flatMap bK)/\Sl a cd.length cap
def Pc.below {w w':World}{v:Value}{cd:List Raw}(h:Pc w v cd)(hb:Bw w w'):Pc w' v cd:=by obtain⟨a,cap,hv,ha,hs⟩:=h;exact⟨a,cap,hv,ha.below hb,hs⟩
def mR (w:World)(a:Option Addr)(rows:List (List Raw)):Prop:=∃vals:List Value,vals.length=rows.length/\At w a vals/\∀i (h:i<rows.length) (h':i<vals.length),Pc w vals[i] rows[i]
def mR.below {w w':World}{a:Option Addr}{rows:List (List Raw)}(h:mR w a rows)(hb:Bw w w'):mR w' a rows:=by obtain⟨vals,hl,ha,hp⟩:=h;exact⟨vals,hl,ha.below hb,λi h1 h2=>(hp i h1 h2).below hb⟩
def mR.tbl {w:World}{a:Option Addr}{rows:List (List Raw)}(h:mR w a rows):bQ w a rows:=by obtain⟨vals,hl,ha,hp⟩:=h;refine⟨vals,hl,ha,λi h1 h2=>?_⟩;obtain⟨a',c',e1,e2,_⟩:=hp i h1 h2;exact⟨a',c',e1,e2⟩
def mR.row {w:World}{a:Option Addr}{rows:List (List Raw)}(h:mR w a rows)(k:Nat)(hk:k<rows.length):
 ∃b o a' cap',a=some ⟨b,o,none⟩/\w.cell? ⟨b,o+k,none⟩=some (.slice a' rows[k].length cap')/\At w a' (rows[k].flatMap bK)/\Sl a' rows[k].length cap':=by
 obtain⟨vals,hl,ha,hp⟩:=h;have hk2:k<vals.length:=by rw[hl];exact hk
 obtain⟨b,o,hab,hcs⟩:=ha.get (by intro h0;rw[h0]at hk2;simp at hk2);obtain⟨a',cap',hv,hat,hs⟩:=hp k hk hk2;exact⟨b,o,a',cap',hab,by rw[hcs k hk2,List.getElem?_eq_getElem hk2,hv],hat,hs⟩
def JS (cd:List Raw):∀u∈cd.flatMap bK,u.oneCell'=true:=by intro u hu;obtain⟨r,_,hr⟩:=List.mem_flatMap.1 hu;simp only[bK,List.mem_cons,List.not_mem_nil,or_false]at hr;rcases hr with rfl|rfl|rfl<;>rfl
end Go.Proofs.YtnjfebkelecgaaaGreatDoor
namespace Go.Proofs.YtnjfebkelecgaaaGreatDoor
open Go.RowKit
attribute [local go_sem ↓] Go.wp_at_zero Go.wp_at_succ
def Tryz.aCo :(Tryz.prog.info? 67).map (λi=>(i.zero,i.size,i.bytes))=some (some (.agg #[.string (bs []),aj false,.string (bs []),ah 0]),4,48):=by kernel_rfl
def oC (ts:List aM):(ts.flatMap aW).length=ts.length*4:=nU aW 4 (λ_=>rfl) ts
def uF (ts:List aM):∀u∈ts.flatMap aW,u.oneCell'=true:=by intro u hu;obtain⟨r,_,hr⟩:=List.mem_flatMap.1 hu;simp only[aW,List.mem_cons,List.not_mem_nil,or_false]at hr;rcases hr with rfl|rfl|rfl|rfl<;>rfl
def Xg (t:aM)(ts:List aM):(t::ts).flatMap aW=aW t++ts.flatMap aW:=List.flatMap_cons
def At.tail {w:World}{b o c:Nat}{x:aM}{ts:List aM}(h:At w (some ⟨b,o,none⟩) ((x::ts).flatMap aW))(hc:ts.length+1<=c):At w (if c=1 then some ⟨b,o,none⟩else some ⟨b,o+4,none⟩) (ts.flatMap aW):=by
 have hk:=At.cut (k:=1) (size:=4) (n:=ts.length+1) (cap:=c) h (by rw[oC];rfl) zo hc;have e:((x::ts).flatMap aW).drop (1*4)=ts.flatMap aW:=by rw[Xg];rfl
 rw[e]at hk;exact hk
def Sl.tail {b o c n:Nat}(h:Sl (Option.some ⟨b,o,none⟩) (n+1) c):Sl (if c=1 then Option.some (⟨b,o,none⟩:Addr)else Option.some ⟨b,o+4,none⟩) n (c-1):=by refine⟨by have:=h.1;omega,λe=>?_⟩;split at e<;>cases e
def awP (l l':List UInt8):(xP l l'= -1/\Op.bytesLess l l'=true)\/(xP l l'=1/\Op.bytesLess l l'=false/\Op.bytesLess l' l=true)\/(xP l l'=0/\Op.bytesLess l l'=false/\Op.bytesLess l' l=false):=by
 unfold xP;cases h1:Op.bytesLess l l' with
 |true=>exact .inl ⟨by simp,rfl⟩
 | false=>
   cases h2:Op.bytesLess l' l with
   |true=>exact .inr (.inl ⟨by simp,rfl,rfl⟩)
   |false=>exact .inr (.inr ⟨by simp,rfl,rfl⟩)
def afU (a:Option Addr)(n cap:Nat)(ta:List aM)(a':Option Addr)(n' cap':Nat)(tb:List aM)(B:Nat)(w:World)(hn:ta.length=n)(hn':tb.length=n')(hs:Sl a n cap)(hs':Sl a' n' cap')(hl:n<=65536)(hl':n'<=65536)(ha:At w a (ta.flatMap aW))(ha':At w a' (tb.flatMap aW))
 (jF:∀t∈ta,Fit B t.2) (jW:∀t∈tb,Fit B t.2) (hB:B+2<=268435456) (hT:aR w):
 Cl 54 #[.slice a n cap,.slice a' n' cap',.func (.func 55) #[] #[],.func (.func 56) #[] #[]] w λe w'=>∃v',e=.returned v'/\w'.ownsRow w.heap.size 67 4 v' (ig ta tb).length ((ig ta tb).flatMap aW)/\Bw w w':=by
 obtain⟨i0,hi,hz0,hz1,hz2⟩:=info_parts Tryz.aCo;obtain⟨M,hM⟩:=aI (ig ta tb);have GI:=enters_of Tryz.func55 zk rfl;have GH:=enters_of Tryz.func56 zk rfl;rw[hM];obtain⟨Hi,cV,cW,cC,HM,Qe,Qd,Hs,ZL,Ha,pL,wh⟩:=fu hi hz0 hz1 hz2 hM GI GH hs hs' ha ha' jF;obtain⟨wm,HT,Hn,CW⟩:=dP jW hT hn hn';obtain⟨N,hN⟩:=aI (n+n');have hNI:(n:Int)+(n':Int)=(N:Int):=by omega
 have HN:=az hN;clear hi hz0 hz1 hz2 hM GI GH hs hs' ha ha' jF jW hT hn hn' hN;have Tj:N<=131072:=by have:=HN.out;omega
 go_enter Tryz.func54,Tryz.ntmps54;go_wp2_with (at_make;refine wpList_make_own _ rfl _ _ 22 rfl w.heap.size 67 i0 _ 4 Tryz.underlying22 Hi.out cV.out cW.out _ _ _ N rfl rfl (by first|exact hNI|rfl) (by rw[cC.out];omega) zx (Nat.le_refl _) ?_;intro w1 hown hgrow);obtain⟨hb1,rp⟩:=aU ((Below.refl w.heap.size w).grown hgrow (Nat.le_refl _) (by intro k hk;cases hk)) hown;clear hown hgrow hNI
 go_loopw[0,1,9] (λva vb vo wr=>∃(ra rb acc:List aM) (p q ca cb:Nat) (aa ab:Option Addr) (v:Value),v=vo/\va=.slice aa p ca/\vb=.slice ab q cb/\ra.length=p/\rb.length=q/\Sl aa p ca/\Sl ab q cb/\At w aa (ra.flatMap aW)/\At w ab (rb.flatMap aW)/\
  (∀t∈ra,Fit B t.2)/\(∀t∈rb,Fit B t.2)/\wr.ownsRow w.heap.size 67 4 v acc.length (acc.flatMap aW)/\acc.length+p+q<=N/\acc++ig ra rb=M/\Bw w wr) (λva vb _ _=>(zK va+zK vb).toNat)
 case atStart=>exact⟨ta,tb,[],n,n',cap,cap',a,a',_,rfl,rfl,rfl,Hn.out,CW.out,Hs.out,ZL.out,Ha.out,pL.out,wh.out,wm.out,rp.out,by rw[<-HN.out];simp,by simpa using HM.out,hb1.out⟩
 case round=>
  clear hb1 rp Ha pL Hs ZL wh wm Hn CW HM;obtain⟨ra,rb,acc,p,q,ca,cb,aa,ab,v,rfl,rfl,rfl,xh,uo,hsa,BV,hat,hat',jF,jW,hov,hlen,hM,pb⟩:=hrel;by_cases Ef:0<p/\0<q
  . obtain ⟨hp,hq⟩:=Ef;obtain⟨x,ra,rfl⟩:∃x l,ra=x::l:=by cases ra with
     |nil=>simp at xh;omega
     |cons x l=>exact⟨x,l,rfl⟩
    obtain⟨y,rb,rfl⟩:∃x l,rb=x::l:=by cases rb with
     |nil=>simp at uo;omega
     |cons x l=>exact⟨x,l,rfl⟩
    obtain⟨l,s,m,e⟩:=x;obtain⟨l',s',m',e'⟩:=y;obtain⟨p,rfl⟩:∃p',p=p'+1:=⟨p-1,by omega⟩;obtain⟨q,rfl⟩:∃q',q=q'+1:=⟨q-1,by omega⟩;have eK:=jF (l,s,m,e) zm;have gP:=jW (l',s',m',e') zm;have adD:∀t∈ra,Fit B t.2:=λt ht=>jF t (by simp[ht]);have adE:∀t∈rb,Fit B t.2:=λt ht=>jW t (by simp[ht]);obtain⟨b1,o1,rfl,hw1⟩:=(hat.below pb).term 0 zm rfl;obtain⟨b2,o2,rfl,hw2⟩:=(hat'.below pb).term 0 zm rfl;simp only[Nat.zero_mul,Nat.add_zero]at hw1 hw2;have mo:b1<w.heap.size:=hat.lt (by rw[Xg];simp[aW]);have lj:b2<w.heap.size:=hat'.lt (by rw[Xg];simp[aW]);have Jt:=hat.tail (c:=ca) (by have:=hsa.1;simp at xh;omega);have kE:=hat'.tail (c:=cb) (by have:=BV.1;simp at uo;omega);have aeN:=hsa.tail;have aeO:=BV.tail;have qK:=gQ (p+1) ca 0 0 (rfl:(some ⟨b1,o1,none⟩:Option Addr)=_) zo rfl;have xA:=gQ (q+1) cb 0 0 (rfl:(some ⟨b2,o2,none⟩:Option Addr)=_) zo rfl;rw[Nat.zero_mul,Nat.add_zero]at qK xA;have hca:p+1<=ca:=hsa.1;have hcb:q+1<=cb:=BV.1;have QV:Hid (ra.length=p):=by show _=_;simpa using xh
    have ym:Hid (rb.length=q):=by show _=_;simpa using uo
    obtain⟨QY,QZ,ZT,ZU,ZY,yo,eZ,Fe,gF,mL,wh,wm⟩:=fu hsa BV aeN aeO Jt kE hat hat' eK gP adD adE;obtain⟨aj2,aj3,dA,HM,aX,iT⟩:=fw jF jW hov hM pb (HT.out.below pb);have Hx:Hid (bA wr b1 o1 [ai l,aj s,ai m,ah e]):=hw1;have Hy:Hid (bA wr b2 o2 [ai l',aj s',ai m',ah e']):=hw2;have aeB:=xh;have aeC:=uo;simp only[List.length_cons]at aeB aeC;clear xh uo hsa BV hat hat' jF jW hov hM pb eK gP adD adE hw1 hw2 Jt kE aeN aeO aeB aeC;have Hb:=hbz wr;have SC:=Qe.out;have fQ:=aX.out.size;obtain⟨gs,IJ⟩:∃g,xP l l'=g:=⟨_,rfl⟩;have Vb:=λW=>awQ l s m e l' s' m' e' W;have hcs:=awP l l';rw[IJ]at Vb hcs;obtain⟨ZO,vX⟩:=aU Vb hcs;clear Vb hcs IJ;go_wp2_with fail;obtain⟨ag,aC⟩:=qZ (Hx.an<|Hy.an trivial);have HU:Hid (aR wr):=iT.out;have ag:=Hb.an<|HU.an ag
    refine dG 999 ag (dD 9 0x110e0d0b0907050301) ?_;refine bU ?_;refine cz ag (ZO.out _) λw2 ag=>?_;refine bU ?_;refine dF ag λaC=>?_;have hcs:=vX.out;have hp1:(1:Int)<=(p:Int)+1:=by omega
    have hq1:(1:Int)<=(q:Int)+1:=by omega
    clear vX ZO SC;rcases hcs with⟨rfl,h1⟩ |⟨rfl,h1,h2⟩ |⟨rfl,h1,h2⟩
    . have Al:Hid ((acc++[(l,s,m,e)])++ig ra ((l',s',m',e')::rb)=M):=by
       show _=_
       rw[<-HM.out,zO,if_pos h1];simp
      have Ai:Hid ((acc++[(l,s,m,e)]).flatMap aW=acc.flatMap aW++[ai l,aj s,ai m,ah e]):=by
       show _=_
       rw[List.flatMap_append];rfl
      clear h1;go_wp2_with fail;obtain⟨Hb,HU,Hx,Hy,_⟩:=ag;obtain⟨x0,x1,x2,x3⟩:=Hx.out.w4;obtain⟨y0,y1,y2,y3⟩:=Hy.out.w4;refine ez (λw'=>aV w' b1 o1 (ai l)/\aV w' b1 (o1+1) (aj s)/\aV w' b1 (o1+2) (ai m)/\aV w' b1 (o1+3) (ah e)) (λi=>Nat.blt i 100000) [(0,true),(1,true),(2,true),(3,true),(6,true),(7,true),(4,false),(5,false),(8,true),(9,true)] zk zk rfl zk zc ⟨x0,x1,x2,x3⟩ ?_;iterate 6 (refine pT rfl rfl ?_ (by intro w' ⟨q0,q1,q2,q3⟩;go_simp;try with_reducible rfl);try simp only[UU])
      refine aY rfl rfl (λK hK=>?_);go_simp;refine hK _ _ (λ_=>⟨bg x0,bg x1,bg x2,bg x3⟩) ?_;try simp only[UU]
      refine cL (λW3=>aH W3 (w2.heap.size) 67 [ai l,aj s,ai m,ah e]/\Bw w2 W3) (by first|exact fI|exact fJ) ?_;rintro W3 ⟨qc,au⟩;replace Hx:=kW Hx au;replace Hy:=kW Hy au;replace HU:=kT HU au;have Hc:=az qc;clear qc;obtain⟨x0,x1,x2,x3⟩:=Hx.out.w4;obtain⟨y0,y1,y2,y3⟩:=Hy.out.w4;obtain⟨c0,c1,c2,c3⟩:=Hc.out.c4;replace Hb:=bD Hb au;refine aY rfl rfl (λK hK=>?_);have dU:=ownsRow_below dA.out Hb.out;have hs3:=Hb.out.size;refine wp_append_own _ _ _ 22 rfl w.heap.size 67 i0 _ 4 48 Tryz.underlying22 Hi.out cV.out cW.out cC.out rfl zd v acc.length (acc.flatMap aW) rfl dU ⟨w2.heap.size,0,none⟩ 1 1 [ai l,aj s,ai m,ah e] rfl rfl (gK Hc.out) zy zx zo zo ?_;intro v' w8 dY bJ _;have nb:∀b,b<w.heap.size->some b≠v.ownBlock:=λb hb e=>by have:=dz dU b e.symm;omega
      refine hK _ _ (λ_=>⟨cK bJ x0 (nb _ mo),cK bJ x1 (nb _ mo),cK bJ x2 (nb _ mo),cK bJ x3 (nb _ mo)⟩) ?_;try simp only[UU]
      iterate 2 (refine pT rfl rfl ?_;try simp only[UU])
      simp only[bP];have Fh:=az ((aO aX.out Hb.out).grown bJ zo (λj e=>dz dU j e));have fZ:Hid (w8.ownsRow w.heap.size 67 4 v' (acc++[(l,s,m,e)]).length ((acc++[(l,s,m,e)]).flatMap aW)):=by
       show w8.ownsRow _ _ _ _ _ _
       rw[Ai.out,List.length_append];exact dY
      clear nb dU dY bJ x0 x1 x2 x3 y0 y1 y2 y3 c0 c1 c2 c3 qK xA;go_wp2;go_roundw;case rel=>exact⟨ra,((l',s',m',e')::rb),acc++[(l,s,m,e)],p,(q+1),_,_,_,_,v',rfl,rfl,rfl,QV.out,(by have:=ym.out;simp;exact this),ZT.out,QZ.out,ZY.out,Fe.out,wh.out,aj3.out,fZ.out,by simp;omega,Al.out,Fh.out⟩
      case measure=>simp[zK];omega
    ·
     have Al:Hid ((acc++[(l',s',m',e')])++ig ((l,s,m,e)::ra) rb=M):=by
      show _=_
      rw[<-HM.out,zO,if_neg (by rw[h1];decide),if_pos h2];simp
     have Ai:Hid ((acc++[(l',s',m',e')]).flatMap aW=acc.flatMap aW++[ai l',aj s',ai m',ah e']):=by
      show _=_
      rw[List.flatMap_append];rfl
     clear h1 h2
     go_wp2_with fail
     obtain⟨Hb,HU,Hx,Hy,_⟩:=ag
     obtain⟨x0,x1,x2,x3⟩:=Hx.out.w4
     obtain⟨y0,y1,y2,y3⟩:=Hy.out.w4
     refine ez (λw'=>aV w' b2 o2 (ai l')/\aV w' b2 (o2+1) (aj s')/\aV w' b2 (o2+2) (ai m')/\aV w' b2 (o2+3) (ah e')) (λi=>Nat.blt i 100000) [(0,true),(1,true),(2,true),(3,true),(6,true),(7,true),(4,false),(5,false),(8,true),(9,true)] zk zk rfl zk zc ⟨y0,y1,y2,y3⟩ ?_
     iterate 6 (refine pT rfl rfl ?_ (by intro w' ⟨q0,q1,q2,q3⟩;go_simp;try with_reducible rfl);try simp only[UU])
     refine aY rfl rfl (λK hK=>?_)
     go_simp
     refine hK _ _ (λ_=>⟨bg y0,bg y1,bg y2,bg y3⟩) ?_
     try simp only[UU]
     refine cL (λW3=>aH W3 (w2.heap.size) 67 [ai l',aj s',ai m',ah e']/\Bw w2 W3) (by first|exact fI|exact fJ) ?_
     rintro W3 ⟨qc,au⟩
     clear x0 x1 x2 x3
     clear y0 y1 y2 y3
     replace Hx:=kW Hx au
     replace Hy:=kW Hy au
     replace HU:=kT HU au
     have Hc:=az qc;clear qc
     obtain⟨x0,x1,x2,x3⟩:=Hx.out.w4
     obtain⟨y0,y1,y2,y3⟩:=Hy.out.w4
     obtain⟨c0,c1,c2,c3⟩:=Hc.out.c4
     replace Hb:=bD Hb au
     refine aY rfl rfl (λK hK=>?_)
     have dU:=ownsRow_below dA.out Hb.out
     have hs3:=Hb.out.size
     refine wp_append_own _ _ _ 22 rfl w.heap.size 67 i0 _ 4 48 Tryz.underlying22 Hi.out cV.out cW.out cC.out rfl zd v acc.length (acc.flatMap aW) rfl dU ⟨w2.heap.size,0,none⟩ 1 1 [ai l',aj s',ai m',ah e'] rfl rfl (gK Hc.out) zy zx zo zo ?_
     intro v' w8 dY bJ _
     have nb:∀b,b<w.heap.size->some b≠v.ownBlock:=λb hb e=>by have:=dz dU b e.symm;omega
     refine hK _ _ (λ_=>⟨cK bJ y0 (nb _ lj),cK bJ y1 (nb _ lj),cK bJ y2 (nb _ lj),cK bJ y3 (nb _ lj)⟩) ?_
     try simp only[UU]
     iterate 2 (refine pT rfl rfl ?_;try simp only[UU])
     simp only[bP]
     have Fh:=az ((aO aX.out Hb.out).grown bJ zo (λj e=>dz dU j e))
     have fZ:Hid (w8.ownsRow w.heap.size 67 4 v' (acc++[(l',s',m',e')]).length ((acc++[(l',s',m',e')]).flatMap aW)):=by
      show w8.ownsRow _ _ _ _ _ _
      rw[Ai.out,List.length_append];exact dY
     clear nb dU dY bJ x0 x1 x2 x3 y0 y1 y2 y3 c0 c1 c2 c3 qK xA
     go_wp2
     go_roundw
     case rel=>exact⟨((l,s,m,e)::ra),rb,acc++[(l',s',m',e')],(p+1),q,_,_,_,_,v',rfl,rfl,rfl,(by have:=QV.out;simp;exact this),ym.out,QY.out,ZU.out,eZ.out,yo.out,aj2.out,wm.out,fZ.out,by simp;omega,Al.out,Fh.out⟩
     case measure=>simp[zK];omega
    ·
     obtain⟨S,hS⟩:=aI (aJ (s,m,e)+aJ (s',m',e'))
     have HS:=az hS
     have Al:Hid ((acc++[(l,canon S)])++ig ra rb=M):=by
      show _=_
      rw[<-HM.out,zO,if_neg (by rw[h1];decide),if_neg (by rw[h2];decide)];simp;rw[<-hS];rfl
     have Ai:Hid ((acc++[(l,canon S)]).flatMap aW=acc.flatMap aW++[ai l,aj (aK (dN S)),ai (nt (dN S).natAbs),ah (dE S)]):=by
      show _=_
      rw[List.flatMap_append];rfl
     clear h1 h2 hS
     have Ms:=Qd.out
     go_wp2_with fail
     obtain⟨Hb,HU,Hx,Hy,_⟩:=ag
     obtain⟨x0,x1,x2,x3⟩:=Hx.out.w4
     obtain⟨y0,y1,y2,y3⟩:=Hy.out.w4
     refine ez (λw'=>aV w' b1 o1 (ai l)/\aV w' b1 (o1+1) (aj s)/\aV w' b1 (o1+2) (ai m)/\aV w' b1 (o1+3) (ah e)/\aV w' b2 o2 (ai l')/\aV w' b2 (o2+1) (aj s')/\aV w' b2 (o2+2) (ai m')/\aV w' b2 (o2+3) (ah e')) (λi=>Nat.blt i 100000) [(0,true),(1,true),(2,true),(3,true),(4,true),(5,true),(6,true),(7,true),(11,true),(12,true),(13,true),(14,true),(8,false),(9,false),(10,false),(15,true),(16,true),(17,true)] zk zk rfl zk zc ⟨x0,x1,x2,x3,y0,y1,y2,y3⟩ ?_
     iterate 12 (refine pT rfl rfl ?_ (by intro w' ⟨q0,q1,q2,q3,q4,q5,q6,q7⟩;go_simp;try with_reducible rfl);try simp only[UU])
     refine aY rfl rfl (λK hK=>?_)
     go_simp
     with_reducible refine(axh l s m e l' s' m' e' S B HS.out _ gF.out mL.out hB (by first|exact HU.out|exact aR.drew HU.out|exact aR.alloc HU.out _|exact aR.drew (aR.alloc HU.out _) |exact aR.alloc (aR.drew HU.out) _)).mono ?_
     rintro e w4 ⟨rfl,hq⟩
     have au:Bw w2 w4:=by first|exact hq|exact df hq
     clear x0 x1 x2 x3
     clear y0 y1 y2 y3
     replace Hx:=kW Hx au
     replace Hy:=kW Hy au
     replace HU:=kT HU au
     obtain⟨x0,x1,x2,x3⟩:=Hx.out.w4
     obtain⟨y0,y1,y2,y3⟩:=Hy.out.w4
     replace Hb:=bD Hb au
     refine hK _ _ (λ_=>⟨x0,x1,x2,x3,y0,y1,y2,y3⟩) ?_
     try simp only[UU]
     refine aY rfl rfl (λK hK=>?_)
     go_simp
     refine hK _ _ (λ_=>⟨bg x0,bg x1,bg x2,bg x3,bg y0,bg y1,bg y2,bg y3⟩) ?_
     try simp only[UU]
     refine cL (λW5=>aH W5 (w4.heap.size) 67 [ai l,aj (aK (dN S)),ai (nt (dN S).natAbs),ah (dE S)]/\Bw w4 W5) (by first|exact fI|exact fJ) ?_
     rintro W5 ⟨qc,au⟩
     clear x0 x1 x2 x3
     clear y0 y1 y2 y3
     replace Hx:=kW Hx au
     replace Hy:=kW Hy au
     replace HU:=kT HU au
     have Hc:=az qc;clear qc
     obtain⟨x0,x1,x2,x3⟩:=Hx.out.w4
     obtain⟨y0,y1,y2,y3⟩:=Hy.out.w4
     obtain⟨c0,c1,c2,c3⟩:=Hc.out.c4
     replace Hb:=bD Hb au
     refine aY rfl rfl (λK hK=>?_)
     have dU:=ownsRow_below dA.out Hb.out
     have hs3:=Hb.out.size
     refine wp_append_own _ _ _ 22 rfl w.heap.size 67 i0 _ 4 48 Tryz.underlying22 Hi.out cV.out cW.out cC.out rfl zd v acc.length (acc.flatMap aW) rfl dU ⟨w4.heap.size,0,none⟩ 1 1 [ai l,aj (aK (dN S)),ai (nt (dN S).natAbs),ah (dE S)] rfl rfl (gK Hc.out) zy zx zo zo ?_
     intro v' w8 dY bJ _
     have nb:∀b,b<w.heap.size->some b≠v.ownBlock:=λb hb e=>by have:=dz dU b e.symm;omega
     refine hK _ _ (λ_=>⟨cK bJ x0 (nb _ mo),cK bJ x1 (nb _ mo),cK bJ x2 (nb _ mo),cK bJ x3 (nb _ mo),cK bJ y0 (nb _ lj),cK bJ y1 (nb _ lj),cK bJ y2 (nb _ lj),cK bJ y3 (nb _ lj)⟩) ?_
     try simp only[UU]
     iterate 3 (refine pT rfl rfl ?_;try simp only[UU])
     simp only[bP]
     have Fh:=az ((aO aX.out Hb.out).grown bJ zo (λj e=>dz dU j e))
     have fZ:Hid (w8.ownsRow w.heap.size 67 4 v' (acc++[(l,canon S)]).length ((acc++[(l,canon S)]).flatMap aW)):=by
      show w8.ownsRow _ _ _ _ _ _
      rw[Ai.out,List.length_append];exact dY
     clear nb dU dY bJ x0 x1 x2 x3 y0 y1 y2 y3 c0 c1 c2 c3 qK xA
     go_wp2
     go_roundw
     case rel=>exact⟨ra,rb,acc++[(l,canon S)],p,q,_,_,_,_,v',rfl,rfl,rfl,QV.out,ym.out,ZT.out,ZU.out,ZY.out,yo.out,wh.out,wm.out,fZ.out,by simp;omega,Al.out,Fh.out⟩
     case measure=>simp[zK];omega
  . have hmr:ig ra rb=ra++rb:=by
     have:p=0\/q=0:=by omega
     rcases this with rfl|rfl
     . rw[List.eq_nil_of_length_eq_zero xh,Ep];rfl
     . rw[List.eq_nil_of_length_eq_zero uo,Er];simp
    have hML:M.length=acc.length+p+q:=by rw[<-hM,hmr];simp[xh,uo];omega
    have Ai:Hid (M.flatMap aW=(acc.flatMap aW++ra.flatMap aW)++rb.flatMap aW):=by
     show _=_
     rw[<-hM,hmr,<-List.append_assoc,List.flatMap_append,List.flatMap_append]
    have hlr:(ra.flatMap aW).length=p*4:=by rw[oC,xh]
    have ad6:(rb.flatMap aW).length=q*4:=by rw[oC,uo]
    have jf:=hat.below pb;have aAj:=hlen;obtain⟨Lr,aky,vT,eZ,dA,aX,QY,QZ,HML⟩:=En hlr ad6 jf hat' hov pb hsa BV hML;clear xh uo hmr hlr ad6 hat hat' jf hov pb hsa BV hM jF jW hML;have hsz:=aX.out.size;by_cases h0:0<p
    all_goals
     go_wp2_with (first| (at_builtin;refine qR rfl (.tmp 70) (.tmp 71) 22 rfl w.heap.size 67 i0 _ 4 48 Tryz.underlying22 Hi.out cV.out cW.out cC.out rfl zd v acc.length (acc.flatMap aW) rfl dA.out aa p ca (ra.flatMap aW) rfl QY.out Lr.out vT.out (uF ra) zx zo hsz ?_;intro v1 w2 dh hg1 hb1) | (at_builtin;refine qR rfl (.tmp 72) (.tmp 73) 22 rfl w.heap.size 67 i0 _ 4 48 Tryz.underlying22 Hi.out cV.out cW.out cC.out rfl zd v1 (acc.length+p) (acc.flatMap aW++ra.flatMap aW) rfl dh ab q cb (rb.flatMap aW) rfl QZ.out aky.out (eZ.out.below (aX.out.grown hg1 hsz (λj e=>dz dA.out j e))) (uF rb) zx zo (Nat.le_trans hsz hg1.size) ?_;intro v2 w3 dX hg2 hb2))
     go_ret
     refine⟨v2,rfl,?_,(aX.out.grown hg1 hsz (λj e=>dz dA.out j e)).grown hg2 (Nat.le_trans hsz hg1.size) (λj e=>dz dh j e)⟩
     rw[HML.out,Ai.out];exact dX
end Go.Proofs.YtnjfebkelecgaaaGreatDoor
namespace Go.Proofs.YtnjfebkelecgaaaGreatDoor
open Go.RowKit
def axA (ts:List aM)(i:Nat)(hi:i<ts.length)(t:aM):(((((ts.flatMap aW).set (i*4) (ai t.1)).set (i*4+1) (aj t.2.1)).set (i*4+2) (ai t.2.2.1)).set (i*4+3) (ah t.2.2.2))=(ts.set i t).flatMap aW:=by
 induction ts generalizing i with
 |nil=>simp at hi
 | cons x ts ih=>
   have e:∀(y:aM) zs,(y::zs).flatMap aW=ai y.1::aj y.2.1::ai y.2.2.1::ah y.2.2.2::zs.flatMap aW:=λy zs=>rfl;cases i with
   |zero=>rw[e];rfl
   |succ i=>rw[List.set_cons_succ,e,e,<-ih i (by simpa using hi),show(i+1) *4=i*4+1+1+1+1 by omega];rfl
def axz (ts:List aM)(i:Nat)(hi:i<ts.length)(r:Raw):((((ts.flatMap aW).set (i*4+1) (aj r.1)).set (i*4+2) (ai r.2.1)).set (i*4+3) (ah r.2.2))=(ts.set i (ts[i].1,r)).flatMap aW:=by
 induction ts generalizing i with
 |nil=>simp at hi
 | cons x ts ih=>
   have e:∀(y:aM) zs,(y::zs).flatMap aW=ai y.1::aj y.2.1::ai y.2.2.1::ah y.2.2.2::zs.flatMap aW:=λy zs=>rfl;cases i with
   |zero=>rw[e];rfl
   |succ i=>rw[List.set_cons_succ,e,e,List.getElem_cons_succ,<-ih i (by simpa using hi),show(i+1) *4=i*4+1+1+1+1 by omega];rfl
def pz {w:World}{base:Nat}{e:TypeId}{size n cap g:Nat}{xs:List Value}(h:w.ownsRow base e size (.slice (some ⟨g,0,none⟩) n cap) n xs)(o:Nat):w.frozen? ⟨g,o,none⟩=false:=by
 rcases h.2 with⟨h1,_⟩ |⟨g',cap',cur,h1,hb,hg,_⟩
 . simp at h1
 . simp only[Value.slice.injEq,Option.some.injEq,Addr.mk.injEq,and_true,true_and]at h1;obtain⟨rfl,rfl⟩:=h1;have h4:aH w g e cur.toList:=by unfold aH;simpa using hg
   exact h4.free o
def Cq {w:World}{base:Nat}{e:TypeId}{size n cap g:Nat}{xs:List Value}(h:w.ownsRow base e size (.slice (some ⟨g,0,none⟩) n cap) n xs):base<=g/\g<w.heap.size:=by
 rcases h.2 with⟨h1,_⟩ |⟨g',cap',cur,h1,hb,hg,_⟩
 . simp at h1
 . simp only[Value.slice.injEq,Option.some.injEq,Addr.mk.injEq,and_true,true_and]at h1;obtain⟨rfl,rfl⟩:=h1;exact⟨hb,(Array.getElem?_eq_some_iff.1 hg).1⟩
def Oz {w:World}{base n cap g:Nat}{e:TypeId}{ts:List aM}(h:w.ownsRow base e 4 (.slice (some ⟨g,0,none⟩) n cap) n (ts.flatMap aW))(k:Nat)(hk:k<ts.length){l:List UInt8}{s:Bool}{m:List UInt8}{ex:Int}(hx:ts[k]=(l,s,m,ex)):
 bA w g (k*4) [ai l,aj s,ai m,ah ex]:=by
 obtain⟨a,c,hv,hat,_⟩:=dm h;simp only[Value.slice.injEq,true_and]at hv;obtain⟨rfl,rfl⟩:=hv;obtain⟨b,o,hab,hw⟩:=hat.term k hk hx;simp only[Option.some.injEq,Addr.mk.injEq,and_true]at hab;obtain⟨rfl,rfl⟩:=hab;rwa [Nat.zero_add]at hw
def auj {w:World}{base n cap g:Nat}{e:TypeId}{ts:List aM}(h:w.ownsRow base e 4 (.slice (some ⟨g,0,none⟩) n cap) n (ts.flatMap aW))(i:Nat)(hi:i<ts.length)(l:List UInt8)(s:Bool)(m:List UInt8)(ex:Int):
 ((((w.setCell ⟨g,i*4,none⟩ (ai l)).setCell ⟨g,i*4+1,none⟩ (aj s)).setCell ⟨g,i*4+2,none⟩ (ai m)).setCell ⟨g,i*4+3,none⟩ (ah ex)).ownsRow base e 4 (.slice (some ⟨g,0,none⟩) n cap) n ((ts.set i (l,s,m,ex)).flatMap aW):=by
 rw[<-axA ts i hi (l,s,m,ex)];exact mr (mr (mr (mr h _ _) _ _) _ _) _ _
def agm {w:World}{base n cap g:Nat}{e:TypeId}{ts:List aM}(h:w.ownsRow base e 4 (.slice (some ⟨g,0,none⟩) n cap) n (ts.flatMap aW))(i:Nat)(hi:i<ts.length)(s:Bool)(m:List UInt8)(ex:Int):
 (((w.setCell ⟨g,i*4+1,none⟩ (aj s)).setCell ⟨g,i*4+2,none⟩ (ai m)).setCell ⟨g,i*4+3,none⟩ (ah ex)).ownsRow base e 4 (.slice (some ⟨g,0,none⟩) n cap) n ((ts.set i (ts[i].1,s,m,ex)).flatMap aW):=by
 rw[<-axz ts i hi (s,m,ex)];exact mr (mr (mr h _ _) _ _) _ _
def ME {w w':World}(r:Option Nat)(h:Bw w w'):w.grownBy w' r:=⟨h.os,h.tape,h.output,h.size,λk hk _=>h.block k hk⟩
def MF {w w':World}{g:Nat}(h:w.grownBy w' (some g))(a:Nat)(v:Value):w.grownBy (w'.setCell ⟨g,a,none⟩ v) (some g):=grownBy_trans h (grownBy_set g rfl v)
def ano {n:Nat}{w w':World}{r:Option Nat}(h:w.grownBy w' r)(hn:n<=w.heap.size)(hr:∀g,r=some g->n<=g):Below n w w':=((Below.refl _ _).mono hn).grown h hn hr
def afZ {B:Nat}(a b:List aM)(ha:∀t∈a,Fit B t.2)(hb:∀t∈b,Fit B t.2)(hB:B+1<=268435456):∀t∈ig a b,Fit (B+1) t.2:=by
 obtain⟨n,hn⟩:=aI (a.length+b.length);induction n using Nat.strongRecOn generalizing a b with
 | _ n ih=>
   cases a with
   |nil=>rw[Ep];exact λt ht=>(hb t ht).mono zo
   | cons x a=>cases b with
     |nil=>rw[Er];exact λt ht=>(ha t ht).mono zo
     | cons y b=>
       rw[zO];simp only[List.length_cons]at hn;have ha2:∀t∈a,Fit B t.2:=λt ht=>ha t (by simp[ht]);have hb2:∀t∈b,Fit B t.2:=λt ht=>hb t (by simp[ht]);split
       . intro t ht;rcases List.mem_cons.1 ht with rfl|ht
         . exact(ha _ zm).mono zo
         . exact ih _ (by simp only[List.length_cons];omega) a (y::b) ha2 hb rfl t ht
       . split
         . intro t ht;rcases List.mem_cons.1 ht with rfl|ht
           . exact(hb _ zm).mono zo
           . exact ih _ (by simp only[List.length_cons];omega) (x::a) b ha hb2 rfl t ht
         . intro t ht;rcases List.mem_cons.1 ht with rfl|ht
           . exact((ha x zm).2.add (hb y zm).2).fit hB
           . exact ih _ zo a b ha2 hb2 rfl t ht
def WZ {B:Nat}(l:List aM)(h:∀t∈l,Fit B t.2)(hB:B+l.length<=268435456):∀t∈im l,Fit (B+l.length) t.2:=by
 obtain⟨n,hn⟩:=aI l.length;induction n using Nat.strongRecOn generalizing l with
 | _ n ih=>
   by_cases h2:l.length<2
   . rw[OU l h2];exact λt ht=>(h t ht).mono zo
   . rw[Xa l zo];have l1:(l.take (l.length/2)).length=l.length/2:=by rw[List.length_take];omega
     have l2:(l.drop (l.length/2)).length=l.length-l.length/2:=List.length_drop;have h3:=ih _ (by rw[<-hn,l1];omega) (l.take (l.length/2)) (λt ht=>h t (List.mem_of_mem_take ht)) (by rw[l1];omega) rfl;have h4:=ih _ (by rw[<-hn,l2];omega) (l.drop (l.length/2)) (λt ht=>h t (List.mem_of_mem_drop ht)) (by rw[l2];omega) rfl;have:=afZ (B:=B+(l.length-1)) _ _ (λt ht=>(h3 t ht).mono (by rw[l1];omega)) (λt ht=>(h4 t ht).mono (by rw[l2];omega)) zo;rwa [show B+(l.length-1)+1=B+l.length by omega]at this
end Go.Proofs.YtnjfebkelecgaaaGreatDoor
namespace Go.Proofs.YtnjfebkelecgaaaGreatDoor
open Go.RowKit
attribute [local go_sem ↓] Go.wp_at_zero Go.wp_at_succ
def apE {α:Type}(p:α->Bool)(l:List α)(i:Nat)(hi:i<=l.length)(h:∀j (hj:j<i),p (l[j]'zo)=false):(l.take i).filter (λx=>!p x)=l.take i:=by
 rw[List.filter_eq_self];intro x hx;obtain⟨j,hj,rfl⟩:=List.mem_iff_getElem.1 hx;rw[List.getElem_take];have fS:j<i:=by rw[List.length_take]at hj;omega
 simp[h j fS]
def take_set {α:Type}(l:List α)(a:Nat)(x:α)(h:a<l.length):(l.set a x).take (a+1)=l.take a++[x]:=by rw[List.take_succ_eq_append_getElem (by simpa using h),List.getElem_set_self,List.take_set_of_le (Nat.le_refl _)]
def Sw {α:Type}(l:List α)(a b:Nat)(x:α)(h:a<b):(l.set a x).drop b=l.drop b:=by rw[List.drop_set];rw[if_pos h]
def Tryz.aCR (w:World):(zeroValue 67).run Tryz.prog w=.ok (.agg #[.string ⟨#[]⟩,aj false,.string ⟨#[]⟩,ah 0]) w:=by kernel_rfl
def abD (ts:List aM)(k:Nat)(hk:k<=ts.length):(ts.flatMap aW).take (k*4)=(ts.take k).flatMap aW:=by
 have e:ts=ts.take k++ts.drop k:=(List.take_append_drop _ _).symm;conv=>lhs;rw[e]
 rw[List.flatMap_append,List.take_left' (by rw[oC,List.length_take,Nat.min_eq_left hk])]
def aoQ (a:Option Addr)(n cap:Nat)(ts:List aM)(gf:Nat)(p:aM->Bool)(w:World)(hn:ts.length=n)(hl:n<=65536)(ha:At w a (ts.flatMap aW))
 (eg:∀args w,(callFunc gf args).run Tryz.prog w=.ok (.enter gf args) w) (h2:∀x∈ts,p x=false)
 (hcl:∀x∈ts,∀W,Cl gf #[.agg #[ai x.1,aj x.2.1,ai x.2.2.1,ah x.2.2.2]] W λe w'=>e=.returned (aj (p x))/\Bw W w'):
 Cv 97 #[.slice a n cap,.func (.func gf) #[] #[]] w (.slice a n cap):=by
 have bC:=Vv a n cap ts gf #[] p w hn zo ha eg (λx hx W _=>by simpa using hcl x hx W);rcases aff p ts 0 with⟨h1,_⟩ |⟨i,hi,_,h3,_⟩
 . rw[h1]at bC;have Fy:=az bC;clear bC h1 h2 hn hcl eg ha;have Hb:=hbz w;go_enter Tryz.func97,Tryz.ntmps97;go_wp2_with fail;refine aZ (Hb.an trivial) (Fy.out) λw1 ag aC=>?_;go_wp2;go_ret;exact⟨rfl,ag.1.out⟩
 . rw[h2 _ (List.getElem_mem hi)]at h3;cases h3
def aoP (g n cap base:Nat)(ts:List aM)(gf:Nat)(p:aM->Bool)(w:World)(hn:ts.length=n)(hl:n<=65536)(hn0:0<n)(ho:w.ownsRow base 67 4 (.slice (some ⟨g,0,none⟩) n cap) n (ts.flatMap aW))
 (eg:∀args w,(callFunc gf args).run Tryz.prog w=.ok (.enter gf args) w)
 (hcl:∀x∈ts,∀W,Cl gf #[.agg #[ai x.1,aj x.2.1,ai x.2.2.1,ah x.2.2.2]] W λe w'=>e=.returned (aj (p x))/\Bw W w'):
 Cl 97 #[.slice (some ⟨g,0,none⟩) n cap,.func (.func gf) #[] #[]] w λe w'=>∃k,k=(ts.filter λx=>!p x).length/\e=.returned (.slice (some ⟨g,0,none⟩) k cap)/\
  w'.ownsRow base 67 4 (.slice (some ⟨g,0,none⟩) k cap) k ((ts.filter λx=>!p x).flatMap aW)/\w.grownBy w' (some g):=by
 have hat:At w (some ⟨g,0,none⟩) (ts.flatMap aW):=by obtain⟨a,c,hv,hat,_⟩:=dm ho;simp only[Value.slice.injEq,true_and]at hv;rw[hv.1];exact hat
 have hcap:=(uz ho).1;have bC:=Vv (some ⟨g,0,none⟩) n cap ts gf #[] p w hn zo hat eg (λx hx W _=>by simpa using hcl x hx W);have hcm:cap<=9223372036854775807:=by
  rcases ho.2 with⟨h1,_⟩ |⟨g',cap',cur,h1,hb,hg,h4,h5,_⟩
  . simp at h1
  . simp only[Value.slice.injEq]at h1;obtain⟨_,_,rfl⟩:=h1;unfold maxLen at h5;omega
 obtain⟨Ho,gD,Hn,tv,eZ⟩:=fH ho hcl hn eg hat;clear ho hcl hn eg hat;rcases aff p ts 0 with⟨h1,h2⟩ |⟨i,hi,h1,h2,h3⟩
 . rw[h1]at bC;have hK:(ts.filter λx=>!p x)=ts:=List.filter_eq_self.2 (λx hx=>by simp[h2 x hx]);rw[hK,Hn.out];have Fy:=az bC;clear bC h1 h2 hK;have Hb:=hbz w;go_enter Tryz.func97,Tryz.ntmps97;go_wp2_with fail;refine aZ (Hb.an trivial) (Fy.out) λw1 ag aC=>?_;go_wp2;go_ret;exact⟨n,rfl,rfl,ownsRow_below Ho.out ag.1.out,ME _ ag.1.out⟩
 . rw[h1,Nat.zero_add]at bC;have hin:i<n:=by rw[<-Hn.out];exact hi
   obtain⟨K,hK⟩:=aI (ts.filter λx=>!p x);rw[hK];have hst:(ts.take (i+1)).filter (λx=>!p x)=ts.take i:=by rw[List.take_succ_eq_append_getElem hi,List.filter_append,apE p ts i zo h3];simp[h2]
   have mn:((i:Int)== -1)=false:=by simp
   obtain⟨Fy,HK,cu⟩:=cE bC hK hst;clear bC h1 h2 h3 hK hst;have Hb:=hbz w;go_enter Tryz.func97,Tryz.ntmps97;go_wp2_with fail;refine aZ (Hb.an trivial) (Fy.out) λw1 ag aC=>?_;go_wp2_with fail;go_loopw[5,6] (λs5 s6 wr=>∃(x y:Nat) (C:List aM),s5=ah (x:Int)/\s6=ah (y:Int)/\x<y/\y<=n/\C.length=n/\C.take x=(ts.take y).filter (λx=>!p x)/\C.drop y=ts.drop y/\wr.ownsRow base 67 4 (.slice (some ⟨g,0,none⟩) n cap) n (C.flatMap aW)/\w.grownBy wr (some g)) (λ_ s6 _=>n-(intOf s6).toNat);case atStart=>exact⟨i,i+1,ts,rfl,by go_num,by omega,by omega,Hn.out,cu.out.symm,rfl,ownsRow_below Ho.out ag.1.out,ME _ ag.1.out⟩
   case round=>
    clear mn;obtain⟨x,y,C,rfl,rfl,hxy,rI,hC,htk,hdr,hov,hg⟩:=hrel;by_cases hlt:y<n
    . have Vr:y<ts.length:=by rw[Hn.out];exact hlt
      have hyC:y<C.length:=by omega
      have hel:C[y]=ts[y]:=by
       have e1:C[y]?=ts[y]?:=by rw[<-Nat.add_zero y,<-List.getElem?_drop,<-List.getElem?_drop,hdr]
       rw[List.getElem?_eq_getElem hyC,List.getElem?_eq_getElem Vr]at e1;exact Option.some.inj e1
      obtain⟨l,s,m,e,hx⟩:∃l s m e,ts[y]=(l,s,m,e):=⟨_,_,_,_,rfl⟩;have hw:=Oz hov y hyC (hel.trans hx);have hcl:=gD.out _ (List.getElem_mem Vr);rw[hx]at hcl;have hnx:(ts.take (y+1)).filter (λx=>!p x)=(ts.take y).filter (λx=>!p x)++if p (l,s,m,e)then[]else[(l,s,m,e)]:=by rw[List.take_succ_eq_append_getElem Vr,List.filter_append,hx];by_cases hp:p (l,s,m,e)=true<;>simp[hp]
      have hd2:C.drop (y+1)=ts.drop (y+1):=by rw[<-List.drop_drop,<-List.drop_drop,hdr]
      have bC:=gQ n cap y (y:Int) (rfl:(some ⟨g,0,none⟩:Option Addr)=_) hlt rfl;rw[Nat.zero_add]at bC;obtain⟨hgb,IJ⟩:=Cq hov;obtain⟨dA,Hg,ZZ,tu,AA,HC,Lc⟩:=kH hov hg htk hd2 hnx hC hcl;have Hz:Hid (bA wr g (y*4) [ai l,aj s,ai m,ah e]):=hw;clear hov hg htk hd2 hnx hC hcl hw hdr hel hx;have Hb:=hbz wr;obtain⟨ag,aC⟩:=qZ (Hz.an trivial);have z0:wr.cell? ⟨g,y*4,none⟩=some (ai l):=ag.1.out.cell 0 zm;have z2:wr.cell? ⟨g,y*4+2,none⟩=some (ai m):=ag.1.out.cell 2 zm;have z3:wr.cell? ⟨g,y*4+3,none⟩=some (ah e):=ag.1.out.cell 3 zm;have z1:wr.cell? ⟨g,y*4+1,none⟩=some (aj s):=ag.1.out.cell 1 zm;have P0:=z0;have P1:=z1;have P2:=z2;have P3:=z3;have Ms:=tv.out;obtain⟨W4,rD,bi,ag,aC⟩:=cM wr (Hb.an ag) 67 [ai l,aj s,ai m,ah e];obtain⟨t,ht⟩:=aI (p (l,s,m,e));rw[ht]at Lc AA;clear ht;go_wp2_with fail;refine aZ ag (Lc.out _) λw5 ag aC=>?_;have jk:=ownsRow_below dA.out ag.2.1.out;have Nv:=grownBy_trans Hg.out (ME _ ag.2.1.out);clear Ms;cases t with
      | true=>
        obtain⟨AB,Qj⟩:=aU jk Nv;clear jk Nv;go_wp2;go_roundw;case rel=>exact⟨x,y+1,C,rfl,by go_num,by omega,by omega,HC.out,by rw[AA.out,ZZ.out];simp,tu.out,AB.out,Qj.out⟩
        case measure=>exact bH
      | false=>
        have Vl:x<C.length:=by have:=HC.out;omega
        obtain⟨lx,sx,mx,ex,hxx⟩:∃l s m e,C[x]=(l,s,m,e):=⟨_,_,_,_,rfl⟩;obtain⟨u0,u1,u2,u3⟩:=(Oz jk x Vl hxx).w4;have GM:=pz jk (x*4);have Bj:=pz jk (x*4+1);have MD:=pz jk (x*4+2);have fz3:=pz jk (x*4+3);have xa:=gQ n cap x (x:Int) (rfl:(some ⟨g,0,none⟩:Option Addr)=_) zo rfl;rw[Nat.zero_add]at xa;obtain⟨AB,Qj,HxC⟩:=cE jk Nv Vl;clear jk Nv hxx Vl;go_wp2;refine⟨⟨x+1,y+1,C.set x (l,s,m,e),by go_num,by go_num,by omega,by omega,by rw[List.length_set];exact HC.out,?_,?_,auj AB.out x HxC.out l s m e,?_⟩,by simp[intOf];omega⟩
        . rw[take_set _ _ _ HxC.out,ZZ.out,AA.out];simp
        . rw[Sw _ _ _ _ zo];exact tu.out
        . exact MF (MF (MF (MF Qj.out _ _) _ _) _ _) _ _
    . obtain rfl:y=n:=by omega
      have hK:C.take x=K:=by rw[htk,<-HK.out,List.take_of_length_le (by rw[Hn.out];exact Nat.le_refl _)]
      have MP:K.length=x:=by rw[<-hK,List.length_take,hC];omega
      have Ee:=agn hov x zo;rw[abD C x zo,hK]at Ee;obtain⟨w6,az9,Jd,hg6⟩:=WK wr 22 67 _ 4 Tryz.underlying22 Tryz.aCR rfl (by intro v hv;simp[Value.cells]at hv;rcases hv with rfl|rfl|rfl|rfl<;>rfl) g x (y-x) cap (cap-x) base (K.flatMap aW) Ee zo;have mh:¬cap=x:=by omega
      obtain⟨Ho6,ww,HKl⟩:=cE Jd (grownBy_trans hg hg6) MP;clear htk hdr hC hK MP Ee hov hg Jd hg6;go_wp2;go_ret;exact⟨x,HKl.out.symm,rfl,Ho6.out,ww.out⟩
def At.first {w:World}{a:Option Addr}{xs:List Value}(h:At w a xs)(k:Nat):At w a (xs.take k):=by
 rcases h with rfl|⟨b,o,rfl,hc⟩
 . exact .inl zm
 . refine .inr ⟨b,o,rfl,λj hj=>?_⟩;rw[List.length_take]at hj;rw[hc j zo,List.getElem?_take_of_lt zo]
def RA (w:World)(a:Option Addr)(n cap:Nat)(ts:List aM)(e:Ending)(w':World):Prop:=
 ∃v',e=.returned v'/\((n<2/\v'=.slice a n cap)\/(2<=n/\w'.ownsRow w.heap.size 67 4 v' (im ts).length ((im ts).flatMap aW)))/\Bw w w'
def RA.at {w:World}{a:Option Addr}{n cap:Nat}{ts:List aM}{e:Ending}{w':World}(h:RA w a n cap ts e w')(hn:ts.length=n)(hs:Sl a n cap)(ha:At w a (ts.flatMap aW)):
 ∃a' c',e=.returned (.slice a' (im ts).length c')/\At w' a' ((im ts).flatMap aW)/\Sl a' (im ts).length c'/\Bw w w':=by
 obtain⟨v',rfl,h1,hb⟩:=h;rcases h1 with⟨h2,rfl⟩ |⟨h2,ho⟩
 . rw[OU ts zo,hn];exact⟨a,cap,rfl,ha.below hb,hs,hb⟩
 . obtain⟨a',c',rfl,hat,_⟩:=dm ho;exact⟨a',c',rfl,hat,uz ho,hb⟩
def awX (n:Nat):∀(a:Option Addr) (cap:Nat) (ts:List aM) (B:Nat) (w:World),ts.length=n->Sl a n cap->n<=65536->At w a (ts.flatMap aW)->(∀t∈ts,Fit B t.2)->B+n+2<=268435456->aR w->
 Cl 98 #[.slice a n cap,.func (.func 55) #[] #[],.func (.func 56) #[] #[]] w (RA w a n cap ts):=by
 induction n using Nat.strongRecOn with
 | _ n ih=>
   intro a cap ts B w hn hs hl ha hf hB hT;by_cases h2:n<2
   . have h2i:(n:Int)<2:=by omega
     clear ih hn hs ha hf hT;have Hb:=hbz w;go_enter Tryz.func98,Tryz.ntmps98;go_wp2;go_ret;exact⟨_,rfl,.inl ⟨h2,rfl⟩,Hb.out⟩
   . obtain⟨k,hk⟩:=aI (n/2);have hk1:1<=k:=by omega
     have hk2:k<n:=by omega
     have IP:(n:Int)/2=(k:Int):=by omega
     have l1:(ts.take k).length=k:=by rw[List.length_take];omega
     have l2:(ts.drop k).length=n-k:=by rw[List.length_drop];omega
     have hcn:=hs.1;have s1:Sl a k cap:=⟨by omega,hs.2⟩;have s2:Sl (if cap=k then a else a.map (·.add (k*4))) (n-k) (cap-k):=hs.cut zo;have a1:=ha.first (k*4);rw[abD ts k zo]at a1;have a2:=ha.cut (k:=k) (size:=4) (by rw[oC,hn]) zo hcn;have ed:(ts.flatMap aW).drop (k*4)=(ts.drop k).flatMap aW:=by
      have e:ts=ts.take k++ts.drop k:=(List.take_append_drop _ _).symm;conv=>lhs;rw[e]
      rw[List.flatMap_append,List.drop_left' (by rw[oC,l1])]
     rw[ed]at a2;obtain⟨a',ha'⟩:=aI (if cap=k then a else a.map (·.add (k*4)));rw[ha']at s2 a2;have f1:∀t∈ts.take k,Fit B t.2:=λt ht=>hf t (List.mem_of_mem_take ht);have f2:∀t∈ts.drop k,Fit B t.2:=λt ht=>hf t (List.mem_of_mem_drop ht);have c1:=λW (hW:Bw w W) (Ii:aR W)=>(ih k hk2 a cap (ts.take k) B W l1 s1 zo (a1.below hW) f1 zo Ii).mono (λe w' h=>h.at l1 s1 (a1.below hW));have c2:=λW (hW:Bw w W) (Ii:aR W)=>(ih (n-k) zo a' (cap-k) (ts.drop k) B W l2 s2 zo (a2.below hW) f2 zo Ii).mono (λe w' h=>by obtain⟨x1,x2,x3,x4,x5,x6⟩:=h.at l2 s2 (a2.below hW);exact(⟨x1,x2,x3,x4,x5,Nat.le_trans hW.size x6.size,x6,x6⟩:∃a1 c1,e=.returned (.slice a1 (im (ts.drop k)).length c1)/\At w' a1 ((im (ts.drop k)).flatMap aW)/\Sl a1 (im (ts.drop k)).length c1/\w.heap.size<=w'.heap.size/\Bw W w'/\Bw W w'));have g1:=WZ (B:=B) (ts.take k) f1 zo;have g2:=WZ (B:=B) (ts.drop k) f2 zo;have e1:=OT (ts.take k);have e2:=OT (ts.drop k);have hst:im ts=ig (im (ts.take k)) (im (ts.drop k)):=by rw[Xa ts zo,hn,hk]
     obtain⟨L,hL⟩:=aI (im (ts.take k));obtain⟨R,hR⟩:=aI (im (ts.drop k));rw[hL]at c1 g1 e1 hst;rw[hR]at c2 g2 e2 hst;have h2i:¬(n:Int)<2:=by omega
     have h2n:2<=n:=by omega
     obtain⟨C1,C2,G1,G2,cu,HT⟩:=fw c1 c2 (λt ht=>(g1 t ht).mono (show B+(ts.take k).length<=B+n by omega)) (λt ht=>(g2 t ht).mono (show B+(ts.drop k).length<=B+n by omega)) hst hT;have Lr:Hid (L.length<=65536/\R.length<=65536):=⟨by omega,by omega⟩;have FZ:=ha';clear ih hn hs ha hf hT a1 a2 s1 s2 f1 f2 c1 c2 g1 g2 e1 e2 hst ed l1 l2 hL hR hk ha';have Hb:=hbz w;go_enter Tryz.func98,Tryz.ntmps98;go_wp2_with fail;have hkn:k<=n:=by omega
     have hkc:k<=cap:=by omega
     have ag:=Hb.an trivial;refine dG 999 ag (dD 16 0x1f1c160a1b191513110f0d0907050301) ?_;refine bU ?_;refine qOp λK hK=>?_;go_simp;with_reducible refine(C1.out _ (qU ag.1.out) (qU (HT.out.below ag.1.out))).mono ?_
     rintro e w1 ⟨b1,d1,rfl,jf,hs1,hq⟩;refine Kf hK hq ag λag=>?_;clear hK K hq;refine qOp λK hK=>?_;go_simp;with_reducible refine(C2.out _ (qU ag.1.out) (qU (HT.out.below ag.1.out))).mono ?_
     rintro e w2 ⟨b2,d2,rfl,jT,hs2,arI,yR,hq⟩;refine Kf hK hq ag λag=>?_;clear hK K hq;refine qOp λK hK=>?_;go_simp;with_reducible refine(afU b1 L.length d1 L b2 R.length d2 R (B+n) _ rfl rfl hs1 hs2 Lr.out.1 Lr.out.2 (by first|exact jf.below yR|exact(jf.below yR).drew) (qU jT) G1.out G2.out zo (qU (HT.out.below ag.1.out))).mono ?_
     rintro e w3 ⟨v',rfl,ho,hq⟩;refine Kf hK hq ag λag=>?_;clear hK K hq;refine bU ?_;refine dF ag λaC=>?_;go_wp2;go_ret;exact⟨v',rfl,.inr ⟨h2n,by rw[cu.out];exact rM ho arI⟩,ag.1.out⟩
def Di (x:aM):aM:=(x.1,canon (aJ x.2))
def afS (f:aM->aM)(K C:List aM)(k:Nat)(hk:k<C.length)(hl:C.length=K.length)(ht:C.take k=(K.map f).take k)(hx:C[k]=K[k]'zo):(C.set k (f C[k])).take (k+1)=(K.map f).take (k+1):=by rw[take_set _ _ _ hk,ht,List.take_succ_eq_append_getElem zi,List.getElem_map,hx]
def abl {K C:List aM}{k:Nat}(hd:C.drop k=K.drop k)(h1:k<C.length)(h2:k<K.length):C[k]=K[k]:=by
 have e1:C[k]?=K[k]?:=by rw[<-Nat.add_zero k,<-List.getElem?_drop,<-List.getElem?_drop,hd]
 rw[List.getElem?_eq_getElem h1,List.getElem?_eq_getElem h2]at e1;exact Option.some.inj e1
def an8 (V:Int)(v:Value)(n:Nat)(ts:List aM)(B:Nat)(w0 w:World)(hb0:Bw w0 w)(hn:ts.length=n)(hl:n<=4096)(ho:w.ownsRow w0.heap.size 67 4 v n (ts.flatMap aW))(hf:∀t∈ts,Fit B t.2)(hB:B+n+2<=268435456)(hT:aR w0):
 Cl 57 #[ah V,v] w λe w'=>∃v',e=.returned (.tuple #[.agg #[ah V,v'],ah 0])/\w'.ownsRow w0.heap.size 67 4 v' (bW ts).length ((bW ts).flatMap aW)/\Bw w0 w':=by
 obtain⟨a,cap,rfl,hat,_⟩:=dm ho;have hs:=uz ho;have Nw:=WZ ts hf zo;have hsl:=OT ts;have eg:∀args w,(callFunc 99 args).run Tryz.prog w=.ok (.enter 99 args) w:=enters_of Tryz.func99 zk rfl;obtain⟨S,hS⟩:=aI (im ts);have c1:∀W,Bw w W->Cl 98 #[.slice a n cap,.func (.func 55) #[] #[],.func (.func 56) #[] #[]] W λe w'=>∃v1,e=.returned v1/\w'.ownsRow w0.heap.size 67 4 v1 S.length (S.flatMap aW)/\Bw W w':=by
  intro W hW;refine(awX n a cap ts B W hn hs zo (hat.below hW) hf hB (hT.below (aO hb0 hW))).mono ?_;rintro e w' ⟨v1,rfl,h1,hb⟩;refine⟨v1,rfl,?_,hb⟩;rcases h1 with⟨h2,rfl⟩ |⟨h2,dh⟩
  . rw[<-hS,OU ts zo,hn];exact ownsRow_below ho (aO hW hb)
  . rw[<-hS];exact rM dh (by have:=hW.size;have:=hb0.size;omega)
 obtain⟨K,hK⟩:=aI (S.filter iG);have MP:K.length<=4096:=by have:=List.length_filter_le iG S;rw[hK]at this;rw[hS]at hsl;omega
 rw[hS]at Nw hsl;have c2:∀W v1,Bw w0 W->W.ownsRow w0.heap.size 67 4 v1 S.length (S.flatMap aW)->Cl 97 #[v1,.func (.func 99) #[] #[]] W λe w'=>∃v2,e=.returned v2/\w'.ownsRow w0.heap.size 67 4 v2 K.length (K.flatMap aW)/\W.grownBy w' v1.ownBlock:=by
  intro W v1 hW dh;have hcl:∀x∈S,∀W,Cv 99 #[.agg #[ai x.1,aj x.2.1,ai x.2.2.1,ah x.2.2.2]] W (aj (!iG x)):=λx hx W=>an7 x.1 x.2.1 x.2.2.1 x.2.2.2 W (Nw x hx).1;by_cases h0:0<S.length
  . obtain⟨g,c,rfl,_,_,_⟩:=xK dh h0;refine(aoP g S.length c w0.heap.size S _ (λx=>!iG x) W rfl zo h0 dh eg hcl).mono ?_;rintro e w' ⟨k,hk,rfl,dX,hg2⟩;simp only[Bool.not_not]at hk dX;rw[hK]at hk dX;subst hk;exact⟨_,rfl,dX,hg2⟩
  . have sF:S=[]:=List.eq_nil_of_length_eq_zero zo;obtain⟨a1,c,rfl,jf,_⟩:=dm dh;refine(aoQ a1 S.length c S _ (λx=>!iG x) W rfl zo jf eg (λx hx=>by rw[sF]at hx;cases hx) hcl).mono ?_;rintro e w' ⟨rfl,hb⟩;have sD:K=S:=by rw[<-hK,sF];rfl
    rw[sD];exact⟨_,rfl,ownsRow_below dh hb,ME _ hb⟩
 have hKf:∀t∈K,Fit (B+ts.length) t.2:=λt ht=>by rw[<-hK]at ht;exact Nw t (List.mem_filter.1 ht).1
 have hcl:bW ts=K.map Di:=by unfold bW;rw[hS,hK];rfl
 rw[hcl,List.length_map];have hz:=hb0.size;obtain⟨m,hm⟩:=aI K.length;rw[hm]at MP c2⊢;obtain⟨Hm,C1,C2,HKf,Rm,HT⟩:=fw hm c1 c2 hKf hb0 hT;clear c1 c2 hm hKf hcl hb0 hT Nw hS hK ho hat hs hf eg hsl;have Hb:=hbz w;go_enter Tryz.func57,Tryz.ntmps57;go_wp2_with fail;refine il w (Hb.an trivial) 24 [ah 0,.slice none 0 0] λW bi ag aC=>?_;go_wp2_with fail;refine(C1.out _ ag.2.1.out).mono ?_;rintro e w1 ⟨v1,rfl,dh,au⟩;obtain⟨ag,aC⟩:=qX au ag;have hw1:=aO Rm.out ag.2.1.out;go_wp2_with fail;refine(C2.out _ v1 hw1 dh).mono ?_;rintro e w2 ⟨v2,rfl,dX,hg2⟩;have hr2:=ag.1.out.row zd dh hg2;have hw2:=ano (hg2) (Nat.le_trans hz ag.2.1.out.size) (λg e=>dz dh g e);obtain⟨Hw2,uP,Hr⟩:=cE (hw1.trans hw2) dX hr2;clear C1 C2 dh hg2 hw1 hw2 hr2 dX;have hKi:¬(4096:Int)<(m:Int):=by omega
 obtain⟨a2,cap2,rfl,_,_⟩:=dm uP.out;go_wp2_with fail;go_loopw[16] (λx wr=>∃(k:Nat) (C:List aM),k<=m/\x=ah (k:Int)/\C.length=m/\C.take k=(K.map Di).take k/\C.drop k=K.drop k/\wr.ownsRow w0.heap.size 67 4 (.slice a2 m cap2) m (C.flatMap aW)/\aH wr w.heap.size 24 [ah 0,.slice none 0 0]/\Bw w0 wr) (λx _=>m-(intOf x).toNat);case atStart=>exact⟨0,K,Nat.zero_le _,rfl,Hm.out,rfl,rfl,uP.out,Hr.out,Hw2.out⟩
 case round=>
  clear Hr uP Hw2;obtain⟨k,C,hk,rfl,hC,htk,hdr,hov,hr,pb⟩:=hrel;by_cases hlt:k<m
  . obtain⟨g,cc,he,hg1,hg2,hg3⟩:=xK hov zo;simp only[Value.slice.injEq,true_and]at he;obtain⟨rfl,rfl⟩:=he;have xb:k<C.length:=by omega
    have BH:k<K.length:=by have:=Hm.out;omega
    have hel:=abl hdr xb BH;obtain⟨l,s,q,e,hx⟩:∃l s m e,C[k]=(l,s,m,e):=⟨_,_,_,_,rfl⟩;have eK:=HKf.out _ (List.getElem_mem BH);rw[<-hel,hx]at eK;obtain⟨D,hD⟩:=aI (aJ (s,q,e));have qH:=afS Di K C k xb (by rw[hC,Hm.out]) htk hel;have ID:Di C[k]=(l,canon D):=by rw[hx,<-hD];rfl
    rw[ID]at qH;have mh:C[k].1=l:=by rw[hx]
    have hw:=Oz hov k xb hx;have hd2:C.drop (k+1)=K.drop (k+1):=by rw[<-List.drop_drop,<-List.drop_drop,hdr]
    have bC:=gQ m cap2 k (k:Int) (rfl:(some ⟨g,0,none⟩:Option Addr)=_) hlt rfl;rw[Nat.zero_add]at bC;have iV:Hid (∀W,aR W->Cv 70 #[.agg #[aj s,ai q,ah e]] W (cw D)):=λW Ii=>sw s q e D hD W eK.1 Ii;obtain⟨dA,aX,Ra,tu,HC,PX,iT⟩:=kH hov pb qH hd2 hC mh (HT.out.below pb);have Hr:Hid (aH wr w.heap.size 24 [ah 0,.slice none 0 0]):=hr;have Hz:Hid (bA wr g (k*4) [ai l,aj s,ai q,ah e]):=hw;clear hov pb qH hd2 hC hr hw htk hdr hel hx eK hD ID mh BH;have Hb:=hbz wr;obtain⟨ag,aC⟩:=qZ (Hz.an trivial);have z2:wr.cell? ⟨g,k*4+2,none⟩=some (ai q):=ag.1.out.cell 2 zm;have y2:wr.cell? ⟨g,k*4+1+1,none⟩=some (ai q):=z2;have z3:wr.cell? ⟨g,k*4+3,none⟩=some (ah e):=ag.1.out.cell 3 zm;have y3:wr.cell? ⟨g,k*4+1+2,none⟩=some (ah e):=z3;go_wp2_with fail;refine aZ (Hb.an ag) (iV.out _ iT.out) λw5 ag aC=>?_;have jk:=ownsRow_below dA.out ag.1.out;clear y2 y3;have z2:w5.cell? ⟨g,k*4+2,none⟩=some (ai q):=ag.2.1.out.cell 2 zm;have y2:w5.cell? ⟨g,k*4+1+1,none⟩=some (ai q):=z2;have z3:w5.cell? ⟨g,k*4+3,none⟩=some (ah e):=ag.2.1.out.cell 3 zm;have y3:w5.cell? ⟨g,k*4+1+2,none⟩=some (ah e):=z3;have Bj:=pz jk (k*4+1);have MD:=pz jk (k*4+1+1);have fz3:=pz jk (k*4+1+2);have hgb:=(Cq jk).2;have BR:=Hr.out.below ag.1.out;have dK:=aO aX.out ag.1.out;have Uk:g≠w.heap.size:=λe=>BR.not_row zd jk (by rw[e];rfl);obtain⟨AB,QS,eP⟩:=cE jk BR dK;clear jk BR dK;go_wp2;refine⟨⟨k+1,C.set k (l,canon D),by omega,by go_num,by rw[List.length_set];exact HC.out,Ra.out,by rw[Sw _ _ _ _ zo];exact tu.out,?_,?_,?_⟩,by simp[intOf];omega⟩
    . have h:=agm AB.out k xb (aK (dN D)) (nt (dN D).natAbs) (dE D);rw[PX.out]at h;exact h
    . exact((QS.out.aCj _ Uk _).aCj _ Uk _).aCj _ Uk _
    . exact((eP.out.setCell zp _).setCell zp _).setCell zp _
  . obtain rfl:k=m:=by omega
    have GR:C=K.map Di:=by rw[List.take_of_length_le zo,List.take_of_length_le (by rw[List.length_map];have:=Hm.out;omega)]at htk;exact htk
    rw[GR]at hov;obtain⟨dA,aX⟩:=aU hov pb;have Hr:Hid (aH wr w.heap.size 24 [ah 0,.slice none 0 0]):=hr;clear hov pb hr htk hdr hC GR;obtain⟨r0,bo,r1,bz⟩:=Hr.out.g2;go_wp2;have hne:=(Hr.out.not_row zd dA.out).symm;have hrs:=Hr.out.lt;refine eH (λw9=>aH w9 w.heap.size 24 [ah V,.slice a2 k cap2]/\w9.ownsRow w0.heap.size 67 4 (.slice a2 k cap2) k ((K.map Di).flatMap aW)/\Bw w0 w9) ⟨(Hr.out.set 0 _).set 1 _,ownsRow_setCell_other (ownsRow_setCell_other dA.out hne _) hne _,(aX.out.setCell hz _).setCell hz _⟩ ?_;rintro w9 ⟨jY,fN,dS⟩;obtain⟨q0,q1⟩:=jY.c2;exact bodyPost_ret (v:=.tuple #[.agg #[ah V,.slice a2 k cap2],ah 0]) (by simp[results,Tryz.results57,go_sem,q0,q1]) rfl ⟨_,rfl,fN,dS⟩
def Mg (V:Int)(v:Value)(n:Nat)(ts C:List aM)(B:Nat)(w0 w:World)(hb0:Bw w0 w)(hn:ts.length=n)(hl:n<=4096)(ho:w.ownsRow w0.heap.size 67 4 v n (ts.flatMap aW))(hf:∀t∈ts,Fit B t.2)(hB:B+n+2<=268435456)(hT:aR w0)(hC:bW ts=C):
 Cl 57 #[ah V,v] w λe w'=>∃a c,e=.returned (.tuple #[.agg #[ah V,.slice a C.length c],ah 0])/\w'.ownsRow w0.heap.size 67 4 (.slice a C.length c) C.length (C.flatMap aW)/\Bw w0 w':=by
 subst hC;refine(an8 V v n ts B w0 w hb0 hn hl ho hf hB hT).mono ?_;rintro e w' ⟨v',rfl,h1,h2⟩;obtain⟨a,c,rfl,_,_⟩:=dm h1;exact⟨a,c,rfl,h1,h2⟩
def aug {w W:World}{b base k:Nat}{v x0 x1:Value}{xs:List Value}(hr:aH W b 24 [x0,x1])(ho:W.ownsRow base 67 4 v k xs)(hb:Bw w W)(hbs:w.heap.size<=b)(y0 y1:Value):
 aH ((W.setCell ⟨b,0,none⟩ y0).setCell ⟨b,1,none⟩ y1) b 24 [y0,y1]/\((W.setCell ⟨b,0,none⟩ y0).setCell ⟨b,1,none⟩ y1).ownsRow base 67 4 v k xs/\Bw w ((W.setCell ⟨b,0,none⟩ y0).setCell ⟨b,1,none⟩ y1):=by
 have hne:=(hr.not_row zd ho).symm;exact⟨(hr.set 0 _).set 1 _,ownsRow_setCell_other (ownsRow_setCell_other ho hne _) hne _,(hb.setCell hbs _).setCell hbs _⟩
def AW {P:Program}{fn:Func}{R:Ending->World->Prop}{e:Exit}{a:Act}{w W:World}{b base k:Nat}{v x0 x1 y0 y1:Value}{xs:List Value}(hr:aH W b 24 [x0,x1])(ho:W.ownsRow base 67 4 v k xs)(hb:Bw w W)(hbs:w.heap.size<=b)
 (h:∀W',aH W' b 24 [y0,y1]->W'.ownsRow base 67 4 v k xs->Bw w W'->bodyPost P fn R e a W'):bodyPost P fn R e a ((W.setCell ⟨b,0,none⟩ y0).setCell ⟨b,1,none⟩ y1):=by
 obtain⟨h1,h2,h3⟩:=aug hr ho hb hbs y0 y1;exact h _ h1 h2 h3
def Sc (a:Option Addr)(n cap:Nat)(ts:List aM)(w:World)(hn:ts.length=n)(hl:n<=1048576)(hs:Sl a n cap)(ha:At w a (ts.flatMap aW)):
 Cl 69 #[.slice a n cap] w λe w'=>∃v',e=.returned v'/\w'.ownsRow w.heap.size 67 4 v' n (ts.flatMap aW)/\Bw w w':=by
 obtain⟨i0,hi,hz0,hz1,hz2⟩:=info_parts Tryz.aCo;have q:=λ(w:World) (a:Option Addr) (n c n' c':Nat)=>Lib.run_eql_slice_nil (P:=Tryz.prog) w 22 67 a n c n' c' Tryz.underlying22;have hlen:(ts.flatMap aW).length=n*4:=by rw[nU aW 4 (λ_=>rfl),hn]
 obtain⟨cs,hcs⟩:=aI (ts.flatMap aW);have h1:=uF ts;rw[hcs]at hlen ha h1⊢;obtain⟨jQ,Ha,H1,Hs,Hi,cV,cW,cC⟩:=om hlen ha h1 hs hi hz0 hz1 hz2;clear hlen ha h1 hs hi hz0 hz1 hz2 hn hcs;cases a with
 | none=>
   have hc:=Hs.out.2 rfl;have hn0:n=0:=by have:=Hs.out.1;omega
   subst hc;subst hn0;go_enter Tryz.func69,Tryz.ntmps69;go_wp2;go_ret;refine⟨_,rfl,?_,Below.refl _ _⟩;have e:cs=[]:=List.eq_nil_of_length_eq_zero (by have:=jQ.out;omega);rw[e];exact World.ownsRow_nil _ _ _ _
 |some ad=>go_enter Tryz.func69,Tryz.ntmps69;go_wp2_with (at_builtin;refine qR rfl _ _ 22 rfl w.heap.size 67 i0 _ 4 48 Tryz.underlying22 Hi.out cV.out cW.out cC.out rfl zd _ 0 [] rfl (World.ownsRow_made w #[] 0 (Nat.le_refl _) (Nat.zero_le _) zm) (some ad) n cap cs rfl Hs.out jQ.out (Ha.out.below ((Below.refl _ w).alloc (Nat.le_refl _) _)) H1.out zx zo zm ?_;intro v' w1 hown hgrow eY);go_ret;refine⟨v',rfl,by simpa using hown,?_⟩;exact((Below.refl _ w).alloc (Nat.le_refl _) _).grown hgrow zm (λk hk=>by have h9:w.heap.size=k:=Option.some.inj hk;omega)
def amU (V:Int)(ts:List aM)(h:∀t∈ts,eN t.1 V=true):(ts.any λt=>!eN t.1 V)=false:=by rw[List.any_eq_false];intro t ht;rw[h t ht];simp
def afR (V:Nat)(a:Option Addr)(n cap:Nat)(ts:List aM)(B:Nat)(w:World)(hV:V<=12)(hn:ts.length=n)(hl:n<=4096)(hs:Sl a n cap)(ha:At w a (ts.flatMap aW))(hm:∀t∈ts,eN t.1 V=true)(hl2:∀t∈ts,t.1.length<=9223372036854775807)
 (hf:∀t∈ts,Fit B t.2) (hB:B+n+2<=268435456) (hT:aR w):
 Cl 117 #[ah (V:Int),.slice a n cap] w λe w'=>∃a' c',e=.returned (.tuple #[.agg #[ah (V:Int),.slice a' (bW ts).length c'],ah 0])/\w'.ownsRow w.heap.size 67 4 (.slice a' (bW ts).length c') (bW ts).length ((bW ts).flatMap aW)/\Bw w w':=by
 have eg:∀args w,(callFunc 156 args).run Tryz.prog w=.ok (.enter 156 args) w:=enters_of Tryz.func156 zk rfl;have hct:∀W bv,Bw w W->W.cell? ⟨bv,0,none⟩=some (ah (V:Int))->Cv 155 #[.slice a n cap,.func (.func 156) #[] #[.pointer (some ⟨bv,0,none⟩)]] W (aj false):=by intro W bv hW hc;have h:=aox a n cap ts 156 #[.pointer (some ⟨bv,0,none⟩)] (λt=>!eN t.1 V) W hn zo (ha.below hW) eg (λx hx W2 hW2=>by simpa using ate x.1 x.2.1 x.2.2.1 x.2.2.2 V bv W2 (cell_later hW2 hc) (hl2 x hx));rwa [amU V ts hm]at h
 obtain⟨C,hC⟩:=aI (bW ts);have hcn:=λW (hW:Bw w W)=>(Sc a n cap ts W hn zo hs (ha.below hW)).mono (λe w' h=>(match h with|⟨v,h1,h2,h3⟩=>⟨v,h1,h2,h3,h3⟩:∃v',e=.returned v'/\w'.ownsRow W.heap.size 67 4 v' n (ts.flatMap aW)/\Bw W w'/\Bw W w'));have hcl:=λw0 W v (hw0:Bw w w0) (hb0:Bw w0 W) (ho:W.ownsRow w0.heap.size 67 4 v n (ts.flatMap aW))=>Mg (V:Int) v n ts C B w0 W hb0 hn hl ho hf hB (hT.below hw0) hC;rw[hC];obtain⟨PU,rf,gD⟩:=cE hct hcn hcl;clear hct hcn hcl hC ha hT hf hm hl2 hs hn eg;have uj:=λW=>Mx (V:Int) W;have hd:decide (0<=(V:Int)/\(V:Int)<=12)=true:=by simp;omega
 rw[hd]at uj;have Fw:=az uj;clear uj hd;have hni:¬(65536:Int)<(n:Int):=by omega
 have Hb:=hbz w;go_enter Tryz.func117,Tryz.ntmps117;go_wp2_with fail;refine mC w (Hb.an trivial) 3 [ah (V:Int)] 24 [ah 0,.slice none 0 0] λW bi ag aC=>?_;go_wp2_with fail;refine aZ ag (Fw.out _) λw1 ag aC=>?_;have v0:w1.cell? ⟨w.heap.size,0,none⟩=some (ah (V:Int)):=ag.1.out.cell 0;go_wp2_with fail;refine aZ ag (PU.out _ _ ag.2.2.1.out v0) λw2 ag aC=>?_;go_wp2_with fail;obtain⟨Hv,Hr,Hb,_⟩:=ag;have v0:=Hv.out.c1;obtain⟨r0,bo,r1,bz⟩:=Hr.out.g2;refine ez (λw'=>aV w' (w.heap.size) 0 (ah (V:Int))) (λi=>Nat.blt i 6) [(0,true),(1,true),(2,false),(3,false),(4,true),(5,true),(6,false),(7,false)] zk zk rfl zk zc v0 ?_;iterate 2 (refine pT rfl rfl ?_;try simp only[UU])
 have alU:=Hv;have jw:=Hr;have dM:=Hb;refine aY rfl rfl (λK hK=>?_);go_simp;with_reducible refine(rf.out _ (by first|exact Hb.out|exact Hb.out.drew)).mono ?_
 rintro e w3 ⟨v1,rfl,dh,aqP,hq⟩;have au:Bw w2 w3:=by first|exact hq|exact df hq
 replace Hv:=kB Hv au;replace Hr:=kB Hr au;have v0:=Hv.out.c1;obtain⟨r0,bo,r1,bz⟩:=Hr.out.g2;replace Hb:=bD Hb au;refine hK _ _ (λ_=>v0) ?_;try simp only[UU]
 refine aY rfl rfl (λK hK=>?_);go_simp;with_reducible refine(gD.out _ _ v1 (by first|exact dM.out|exact dM.out.drew) aqP dh).mono ?_
 rintro e w4 ⟨a2,c2,rfl,dX,hq⟩;have au:Bw w2 w4:=by first|exact hq|exact df hq
 replace Hv:=az (alU.out.below au);replace Hr:=az (jw.out.below au);have v0:=Hv.out.c1;obtain⟨r0,bo,r1,bz⟩:=Hr.out.g2;replace Hb:=az (aO dM.out au);refine hK _ _ (λ_=>v0) ?_;try simp only[UU]
 iterate 2 (refine pT rfl rfl ?_;try simp only[UU])
 refine aY rfl rfl (λK hK=>?_);go_simp;refine hK _ _ (by first|exact λh=>absurd h zd|exact λ_=>v0|exact λ_=>gN zg v0) ?_;try simp only[UU]
 refine aY rfl rfl (λK hK=>?_);go_simp;refine hK _ _ (λh=>absurd h zd) ?_;try simp only[UU]
 simp only[bP];go_wp2;refine AW (Hr.out) dX Hb.out zo ?_;intro w9 jY fN dS;obtain⟨p0,p1⟩:=jY.c2;exact bodyPost_ret (v:=.tuple #[.agg #[ah (V:Int),.slice a2 C.length c2],ah 0]) (by simp[results,Tryz.results117,go_sem,p0,p1]) rfl ⟨_,_,rfl,rM fN (by have:=dM.out.size;exact this),dS⟩
def AP (w:World)(a:Option Addr)(C:List aM):Prop:=C=[]\/∃b o cur,a=some ⟨b,o,none⟩/\w.heap[b]?=some (.cells cur 67)
def AP.below {w w':World}{a:Option Addr}{C:List aM}(h:AP w a C)(hb:Bw w w'):AP w' a C:=by
 rcases h with h|⟨b,o,cur,h1,h2⟩
 . exact .inl h
 . exact .inr ⟨b,o,cur,h1,by rw[hb.block b (Array.getElem?_eq_some_iff.1 h2).1];exact h2⟩
def AP.off {w:World}{a:Option Addr}{C:List aM}{g:Nat}{cur:Array Value}{t:TypeId}(h:AP w a C)(hg:w.heap[g]?=some (.cells cur t))(ht:t≠67)(i:Nat)(u:Value):AP (w.setCell ⟨g,i,none⟩ u) a C:=by
 rcases h with h|⟨b,o,cur',h1,h2⟩
 . exact .inl h
 . refine .inr ⟨b,o,cur',h1,?_⟩;have hne:b≠g:=λe=>by subst e;rw[hg]at h2;simp at h2;exact ht h2.2
   rw[Below.heap_setCell _ _ _ _ hne];exact h2
def bI (w:World)(a:Option Addr)(c:Nat)(C:List aM):Prop:=At w a (C.flatMap aW)/\Sl a C.length c/\AP w a C
def bI.below {w w':World}{a:Option Addr}{c:Nat}{C:List aM}(h:bI w a c C)(hb:Bw w w'):bI w' a c C:=⟨h.1.below hb,h.2.1,h.2.2.below hb⟩
instance {w :World} {a:Option Addr} {c:Nat} {C:List aM}:QTr (bI w a c C) w (λW=>bI W a c C):=⟨λh _ k=>bI.below h k⟩
def yw (w:World)(a:Option Addr)(c:Nat)(C:List aM):Prop:=At w a (C.flatMap aW)/\Sl a C.length c
def yw.below {w w':World}{a:Option Addr}{c:Nat}{C:List aM}(h:yw w a c C)(hb:Bw w w'):yw w' a c C:=⟨h.1.below hb,h.2⟩
def bI.w {w:World}{a:Option Addr}{c:Nat}{C:List aM}(h:bI w a c C):yw w a c C:=⟨h.1,h.2.1⟩
def bI.off {w:World}{a:Option Addr}{c:Nat}{C:List aM}{g:Nat}{cur:Array Value}{t:TypeId}(h:bI w a c C)(hg:w.heap[g]?=some (.cells cur t))(ht:t≠67)(i:Nat)(u:Value):bI (w.setCell ⟨g,i,none⟩ u) a c C:=by
 refine⟨?_,h.2.1,h.2.2.off hg ht i u⟩;rcases h.2.2 with h'|⟨b,o,cur',rfl,h2⟩
 . subst h';exact .inl rfl
 . have hne:b≠g:=λe=>by subst e;rw[hg]at h2;simp at h2;exact ht h2.2
   rcases h.1 with h1|⟨b1,o1,e1,hc⟩
   . exact .inl h1
   . simp only[Option.some.injEq,Addr.mk.injEq,and_true]at e1;obtain⟨rfl,rfl⟩:=e1;refine .inr ⟨b,o,rfl,λj hj=>?_⟩;have h9:=hc j hj;rw[List.getElem?_eq_getElem hj]at h9⊢;exact aQ (.inl hne) h9
def bI.store {w:World}{a:Option Addr}{c b:Nat}{t:TypeId}{C:List aM}{cs:List Value}(h:bI w a c C)(hb:aH w b t cs)(ht:t≠67)(u v:Value):bI ((w.setCell ⟨b,0,none⟩ u).setCell ⟨b,1,none⟩ v) a c C:=
 (h.off hb ht 0 u).off (hb.set 0 u) ht 1 v
def Cr {w:World}{base c:Nat}{a:Option Addr}{C:List aM}(h:w.ownsRow base 67 4 (.slice a C.length c) C.length (C.flatMap aW)):bI w a c C:=by
 obtain⟨a',c',hv,hat,_⟩:=dm h;have hs:=uz h;simp only[Value.slice.injEq,true_and]at hv;obtain⟨rfl,rfl⟩:=hv;refine⟨hat,hs,?_⟩;rcases h.2 with⟨_,h2⟩ |⟨g,cap,cur,hv,hb,hg,_⟩
 . exact .inl (List.length_eq_zero_iff.1 h2)
 . simp only[Value.slice.injEq,true_and]at hv;exact .inr ⟨g,0,cur,hv.1,hg⟩
def aie (V:Nat):((List.range V).map λ_=>UInt8.ofNat 0)=lC V:=by
 unfold lC;apply List.ext_getElem
 . simp
 . intro i h1 h2;simp
def afA (V:Nat)(D:Dyadic)(x:Raw)(l:Nat->Dyadic)(h:aJ x=D):bW [(lC V,x)]=dL V D l 0:=by unfold dL;refine Dk (λm=>?_);simp only[gS,List.range_zero,List.map_nil,cO,cJ,h]
def Mj (V:Nat)(s:Bool)(m:List UInt8)(e:Int)(D:Dyadic)(B:Nat)(l:Nat->Dyadic)(w:World)(hV:V<=12)(hf:Fit B (s,m,e))(hB:B+3<=268435456)(hT:aR w)(hD:aJ (s,m,e)=D):
 Cl 75 #[ah (V:Int),.agg #[aj s,ai m,ah e]] w λex w'=>∃a' c',ex=.returned (.tuple #[.agg #[ah (V:Int),.slice a' (dL V D l 0).length c'],ah 0])/\bI w' a' c' (dL V D l 0)/\Bw w w':=by
 have hC:=afA V D (s,m,e) l hD;obtain⟨C,Dw⟩:=aI (dL V D l 0);rw[Dw]at hC⊢;have hmk:=λW (hW:Bw w W) b (hb:aH W b 67 [ai (lC V),aj s,ai m,ah e])=>afR V (some ⟨b,0,none⟩) 1 1 [(lC V,(s,m,e))] B W hV rfl zo (Sl.some _ _ _ (Nat.le_refl _)) (At.aCi hb) (by intro t ht;simp at ht;subst ht;exact aid V) (by intro t ht;simp at ht;subst ht;simp[lC];omega) (by intro t ht;simp at ht;subst ht;exact hf) zo (hT.below hW);rw[hC]at hmk;have uj:=λW=>Mx (V:Int) W;have hd:decide (0<=(V:Int)/\(V:Int)<=12)=true:=by simp;omega
 rw[hd]at uj;have hmb:=λW=>sN (V:Int) V rfl zo W;have hcv:∀W b,Hid (aH W b 5 (cZ V λ_=>0))->(convert 84 9 (.slice (some ⟨b,0,none⟩) V V)).run Tryz.prog W=.ok (ai (lC V)) W:=λW b h=>by rw[<-aie];exact uH h.out V
 obtain⟨lK,Fw⟩:=aU hmk uj;clear hmk uj hd hC Dw hT hf hD;have Hb:=hbz w;go_enter Tryz.func75,Tryz.ntmps75;go_wp2_with fail;refine mC w (Hb.an trivial) 48 [aj s,ai m,ah e] 24 [ah 0,.slice none 0 0] λW bi ag aC=>?_;go_wp2_with fail;refine aZ ag (Fw.out _) λw1 ag aC=>?_;go_wp2_with fail;obtain⟨Hc,Hr,Hb,_⟩:=ag;obtain⟨c0,c1,c2⟩:=Hc.out.c3;obtain⟨r0,bo,r1,bz⟩:=Hr.out.g2;refine ez (λw'=>aV w' (w.heap.size) 0 (aj s)/\aV w' (w.heap.size) 1 (ai m)/\aV w' (w.heap.size) 2 (ah e)) (λi=>Nat.blt i 10) [(0,true),(1,true),(4,true),(2,false),(3,false),(5,true),(6,false),(7,false),(8,true),(9,true),(10,false),(11,false)] zk zk rfl zk zc ⟨c0,c1,c2⟩ ?_;iterate 3 (refine pT rfl rfl ?_ (by intro w' ⟨q0,q1,q2⟩;go_simp;try with_reducible rfl);try simp only[UU])
 refine aY rfl rfl (λK hK=>?_);go_simp;refine hK _ _ (λ_=>⟨bg c0,bg c1,bg c2⟩) ?_;try simp only[UU]
 refine cL (λW3=>aH W3 (w1.heap.size) 5 (cZ V (λ_=>0))/\Bw w1 W3) (by first|exact fI|exact fJ) ?_;rintro W3 ⟨qq,au⟩;have afJ:=Hc.out.lt;have as5:=Hr.out.lt;replace Hc:=kB Hc au;replace Hr:=kB Hr au;have Hq:=az qq;clear qq;obtain⟨c0,c1,c2⟩:=Hc.out.c3;obtain⟨r0,bo,r1,bz⟩:=Hr.out.g2;replace Hb:=bD Hb au;refine aY rfl rfl (λK hK=>?_);go_simp;refine hK _ _ (λ_=>⟨c0,c1,c2⟩) ?_;try simp only[UU]
 refine pT rfl rfl ?_;try simp only[UU]
 refine aY rfl rfl (λK hK=>?_);go_simp;refine hK _ _ (λ_=>⟨bg c0,bg c1,bg c2⟩) ?_;try simp only[UU]
 refine cL (λW4=>aH W4 (W3.heap.size) 67 [ai (lC V),aj s,ai m,ah e]/\Bw W3 W4) (by first|exact fI|exact fJ) ?_;rintro W4 ⟨qz,au⟩;have afK:=Hc.out.lt;have as6:=Hr.out.lt;have as3:=Hq.out.lt;replace Hc:=kB Hc au;replace Hr:=kB Hr au;replace Hq:=kB Hq au;have Hz:=az qz;clear qz;obtain⟨c0,c1,c2⟩:=Hc.out.c3;obtain⟨r0,bo,r1,bz⟩:=Hr.out.g2;obtain⟨z0,z1,z2,z3⟩:=Hz.out.c4;replace Hb:=bD Hb au;refine aY rfl rfl (λK hK=>?_);go_simp;with_reducible refine(lK.out _ Hb.out _ Hz.out).mono ?_
 rintro e w5 ⟨a2,d2,rfl,dX,hq⟩;have au:Bw W4 w5:=by first|exact hq|exact df hq
 obtain⟨Hc,c0,c1,c2⟩:=uw Hc au;obtain⟨Hr,r0,bo,r1,bz⟩:=dZ Hr au;replace Hq:=kB Hq au;obtain⟨Hz,z0,z1,z2,z3⟩:=xC Hz au;replace Hb:=bD Hb au;refine hK _ _ (λ_=>⟨c0,c1,c2⟩) ?_;try simp only[UU]
 iterate 2 (refine pT rfl rfl ?_;try simp only[UU])
 refine aY rfl rfl (λK hK=>?_);go_simp;refine hK _ _ (by first|exact λh=>absurd h zd|exact λ_=>⟨c0,c1,c2⟩ |exact λ_=>⟨(by first|exact c0|exact aQ zf c0|exact aQ zf (aQ zf c0) |exact aQ zf (aQ zf (aQ zf c0))),(by first|exact c1|exact aQ zf c1|exact aQ zf (aQ zf c1) |exact aQ zf (aQ zf (aQ zf c1))),(by first|exact c2|exact aQ zf c2|exact aQ zf (aQ zf c2) |exact aQ zf (aQ zf (aQ zf c2)))⟩) ?_;try simp only[UU]
 refine aY rfl rfl (λK hK=>?_);go_simp;refine hK _ _ (λh=>absurd h zd) ?_;try simp only[UU]
 simp only[bP];go_wp2;refine AW (Hr.out) dX Hb.out zo ?_;intro w9 jY fN dS;obtain⟨p0,p1⟩:=jY.c2;exact bodyPost_ret (v:=.tuple #[.agg #[ah (V:Int),.slice a2 C.length d2],ah 0]) (by simp[results,Tryz.results75,go_sem,p0,p1]) rfl ⟨_,_,rfl,Cr fN,dS⟩
def ahU (V k:Nat):((List.range V).map λj=>UInt8.ofNat (if j=k then 1 else 0))=dV V k:=by
 unfold dV;apply List.ext_getElem
 . simp
 . intro i h1 h2;rw[List.getElem_map,List.getElem_range,List.getElem_set];by_cases h:k=i
   . subst h;simp
   . rw[if_neg (λe=>h e.symm),if_neg h];simp
def axX :Fit 1 (canon (1:Dyadic)):=Sm.one.fit zd
def ax1 (V k:Nat)(w:World)(hV:V<=12)(hk:k<V)(hT:aR w):
 Cl 154 #[ah (V:Int),ah (k:Int)] w λex w'=>∃a' c',ex=.returned (.tuple #[.agg #[ah (V:Int),.slice a' (bW [(dV V k,canon 1)]).length c'],ah 0])/\bI w' a' c' (bW [(dV V k,canon 1)])/\Bw w w':=by
 obtain⟨C,hC⟩:=aI (bW [(dV V k,canon 1)]);rw[hC];obtain⟨O,hO⟩:∃O:Dyadic,(1:Dyadic)=O:=⟨_,rfl⟩;have hmk:=λW (hW:Bw w W) b (hb:aH W b 67 [ai (dV V k),aj (aK (dN O)),ai (nt (dN O).natAbs),ah (dE O)])=>afR V (some ⟨b,0,none⟩) 1 1 [(dV V k,canon 1)] 1 W hV rfl zo (Sl.some _ _ _ (Nat.le_refl _)) (by rw[hO];exact At.aCi hb) (by intro t ht;simp at ht;subst ht;exact Kq V k) (by intro t ht;simp at ht;subst ht;simp[dV];omega) (by intro t ht;simp at ht;subst ht;exact axX) zo (hT.below hW);rw[hC]at hmk;have hof:=λW (hW:Bw w W)=>GA 1 O hO W zd (hT.below hW);have uj:=λW=>Mx (V:Int) W;have hd:decide (0<=(V:Int)/\(V:Int)<=12)=true:=by simp;omega
 rw[hd]at uj;have hmb:=λW=>sN (V:Int) V rfl zo W;have hcv:∀W b,Hid (aH W b 5 (cZ V λj=>if j=k then 1 else 0))->(convert 84 9 (.slice (some ⟨b,0,none⟩) V V)).run Tryz.prog W=.ok (ai (dV V k)) W:=λW b h=>by rw[<-ahU V k];exact uH h.out V
 have bC:=λb=>rK V V k (k:Int) (rfl:(some ⟨b,0,none⟩:Option Addr)=_) hk rfl;simp only[Nat.zero_add,Nat.mul_one]at bC;have hget:(cZ V λ_=>0)[k]?=some (.int .u8 0):=mG _ _ _ hk;have qH:(cZ V λ_=>0).set k (.int .u8 1)=cZ V λj=>if j=k then 1 else 0:=CB V _ k 1
 obtain⟨lK,mM,Fw⟩:=cE hmk hof uj;clear hmk hof uj hd hC hT hO;have IP:¬(k:Int)<0:=by omega
 have Hb:=hbz w;go_enter Tryz.func154,Tryz.ntmps154;go_wp2_with fail;refine il w (Hb.an trivial) 24 [ah 0,.slice none 0 0] λW bi ag aC=>?_;go_wp2_with fail;refine aZ ag (Fw.out _) λw1 ag aC=>?_;go_wp2_with fail;obtain⟨R,hR⟩:∃R:World->Prop,(λW3=>aH W3 w1.heap.size 5 (cZ V λj=>if j=k then 1 else 0)/\Bw w1 W3)=R:=⟨_,rfl⟩;first|refine eO R ?hR ?_|refine fB R ?hR ?_
 case hR=>subst hR;exact⟨aH.newAt w1 _ _ (b:=w1.heap.size) rfl,zl⟩
 subst hR;intro W3 ⟨qm,au⟩;obtain⟨ag,aC⟩:=qX au ag;skip
 have Hm:=az qm;clear qm au hget qH bC hmb;obtain⟨Hr,Hb,_⟩:=ag;obtain⟨r0,bo,r1,bz⟩:=Hr.out.g2;have fy:∀w',dJ W3 w'->(convert 84 9 (.slice (some ⟨w1.heap.size,0,none⟩) V V)).run Tryz.prog w'=.ok (ai (dV V k)) w':=λw' h=>hcv w' _ (az (Hm.out.below h));have cg:Hid (dJ W3 W3):=Below.refl _ _;refine ez (λw'=>dJ W3 w') (λi=>Nat.blt i 9) [(0,true),(1,true),(2,true),(3,false),(4,true),(5,false),(6,false),(7,true),(8,true),(9,false),(10,false)] zk zk rfl zk zc cg.out.drew ?_;iterate 3 (refine JZ rfl rfl (v:=?_) (λw' hw'=>?_) ?_;rotate_left;(focus have hw':=fy w' hw';go_simp;try with_reducible rfl);try simp only[UU])
 refine aY rfl rfl (λK hK=>?_);go_simp;with_reducible refine(mM.out _ (by first|exact Hb.out|exact Hb.out.drew)).mono ?_
 rintro e w4 ⟨rfl,hq⟩;have au:Bw W3 w4:=by first|exact hq|exact df hq
 replace cg:=az (cg.out.below au);obtain⟨Hr,r0,bo,r1,bz⟩:=dZ Hr au;replace Hb:=bD Hb au;refine hK _ _ (λ_=>cg.out) ?_;try simp only[UU]
 refine pT rfl rfl ?_;try simp only[UU]
 refine aY rfl rfl (λK hK=>?_);go_simp;refine hK _ _ (λ_=>by first|exact cg.out.alloc _|exact(cg.out.alloc _).drew|exact(cg.out.drew).alloc _) ?_;try simp only[UU]
 refine cL (λW5=>aH W5 (w4.heap.size) 67 [ai (dV V k),aj (aK (dN O)),ai (nt (dN O).natAbs),ah (dE O)]/\Bw w4 W5) (by first|exact fI|exact fJ) ?_;rintro W5 ⟨qz,au⟩;have as7:=Hr.out.lt;replace cg:=az (cg.out.below au);replace Hr:=kB Hr au;have Hz:=az qz;clear qz;obtain⟨r0,bo,r1,bz⟩:=Hr.out.g2;obtain⟨z0,z1,z2,z3⟩:=Hz.out.c4;replace Hb:=bD Hb au;refine aY rfl rfl (λK hK=>?_);go_simp;with_reducible refine(lK.out _ Hb.out _ Hz.out).mono ?_
 rintro e w6 ⟨a2,d2,rfl,dX,hq⟩;have au:Bw W5 w6:=by first|exact hq|exact df hq
 replace cg:=az (cg.out.below au);obtain⟨Hr,r0,bo,r1,bz⟩:=dZ Hr au;obtain⟨Hz,z0,z1,z2,z3⟩:=xC Hz au;replace Hb:=bD Hb au;refine hK _ _ (λ_=>cg.out) ?_;try simp only[UU]
 iterate 2 (refine pT rfl rfl ?_;try simp only[UU])
 refine aY rfl rfl (λK hK=>?_);go_simp;refine hK _ _ (by first|exact λh=>absurd h zd|exact λ_=>cg.out|exact λ_=>gN zg cg.out) ?_;try simp only[UU]
 refine aY rfl rfl (λK hK=>?_);go_simp;refine hK _ _ (λh=>absurd h zd) ?_;try simp only[UU]
 simp only[bP];go_wp2;refine AW (Hr.out) dX Hb.out zo ?_;intro w9 jY fN dS;obtain⟨p0,p1⟩:=jY.c2;exact bodyPost_ret (v:=.tuple #[.agg #[ah (V:Int),.slice a2 C.length d2],ah 0]) (by simp[results,Tryz.results154,go_sem,p0,p1]) rfl ⟨_,_,rfl,Cr fN,dS⟩
def VM {l:List UInt8}{V:Nat}(h:eN l (V:Int)=true):l.length=V:=by unfold eN at h;rw[Bool.and_eq_true]at h;have:=h.2;simp at this;omega
def ir (V B:Nat)(ts:List aM):Prop:=Gl V ts/\∀t∈ts,Fit B t.2
def ir.chk {V B:Nat}{ts:List aM}(h:ir V B ts):∀t∈ts,t.1.length<=9223372036854775807/\Ok t.2:=λt ht=>⟨by have:=VM (h.1.2.1 t ht);have:=h.1.2.2.2;omega,(h.2 t ht).1⟩
def awG (V:Nat)(a:Option Addr)(cap:Nat)(ts:List aM)(s:Bool)(m:List UInt8)(e:Int)(D:Dyadic)(B:Nat)(w:World)(hp:ir V B ts)(ha:yw w a cap ts)(hf:Fit B (s,m,e))(hB:2*B+8192<=268435456)(hT:aR w)(hD:aJ (s,m,e)=D):
 Cl 24 #[.agg #[ah (V:Int),.slice a ts.length cap],.agg #[aj s,ai m,ah e]] w λex w'=>∃a' c',ex=.returned (.tuple #[.agg #[ah (V:Int),.slice a' (bW (eu D ts)).length c'],ah 0])/\bI w' a' c' (bW (eu D ts))/\Bw w w':=by
 obtain⟨n,hn⟩:=aI ts.length;have hnl:n<=4096:=by have:=hp.1.2.2.1;omega
 have hV:V<=12:=hp.1.2.2.2;obtain⟨C,hC⟩:=aI (bW (eu D ts));have iM:(eu D ts).length=n:=by unfold eu;rw[List.length_map,hn]
 have yM:∀t∈eu D ts,Fit (2*B) t.2:=by intro t ht;unfold eu at ht;obtain⟨x,hx,rfl⟩:=List.mem_map.1 ht;refine Sm.fit ?_ zo;have:=Sm.mul (hp.2 x hx).2 hf.2;rw[hD]at this;exact this.mono zo
 have eX:=λW (hW:Bw w W)=>JV (V:Int) a cap n ts W hn zo (ha.1.below hW) hp.chk (hT.below hW);rw[OD hp.1]at eX;have hs:=ha.2;rw[hn]at hs;have hcn:=λW (hW:Bw w W)=>(Sc a n cap ts W hn zo hs (ha.1.below hW)).mono (λe w' h=>(match h with|⟨v,h1,h2,h3⟩=>⟨v,h1,h2,h3,h3⟩:∃v',e=.returned v'/\w'.ownsRow W.heap.size 67 4 v' n (ts.flatMap aW)/\Bw W w'/\Bw W w'));have hcl:=λw0 W v (hw0:Bw w w0) (hb0:Bw w0 W) (ho:W.ownsRow w0.heap.size 67 4 v n ((eu D ts).flatMap aW))=>Mg (V:Int) v n (eu D ts) C (2*B) w0 W hb0 iM hnl ho yM zo (hT.below hw0) hC;have ic:=hp.2;rw[hn,hC];obtain⟨nR,rf,gD,tA,HT,Hn,CQ,HD⟩:=om eX hcn hcl ic hT hn hf hD;clear eX hcn hcl ic hT hn hf hD hC iM yM hs ha hp;have Hb:=hbz w;go_enter Tryz.func24,Tryz.ntmps24;go_wp2_with fail;refine EE w (Hb.an trivial) 24 [ah (V:Int),.slice a n cap] 48 [aj s,ai m,ah e] 24 [ah 0,.slice none 0 0] λW bi ag aC=>?_;go_wp2_with fail;refine aZ ag (nR.out _ ag.2.2.2.1.out) λw1 ag aC=>?_;obtain⟨Hp,Hc,Hr,Hb,_⟩:=ag;obtain⟨p0,p1⟩:=Hp.out.c2;obtain⟨c0,c1,c2⟩:=Hc.out.c3;obtain⟨r0,bo,r1,bz⟩:=Hr.out.g2;have mN:=Hp;have CN:=Hc;have jw:=Hr;have dM:=Hb;go_wp2_with fail;refine(rf.out _ Hb.out).mono ?_;rintro e w2 ⟨v1,rfl,dh,yR,au⟩;obtain⟨ag,aC⟩:=qX au (Hb.an<|Hp.an<|Hc.an<|Hr.an trivial);obtain⟨a1,d1,rfl,_,_⟩:=dm dh;obtain⟨lL,Yw⟩:=aU dh yR;clear dh yR;go_wp2_with fail;go_loopw[20] (λx wr=>∃(k:Nat) (C:List aM),k<=n/\x=ah (k:Int)/\C.length=n/\C.take k=(eu D ts).take k/\C.drop k=ts.drop k/\wr.ownsRow w1.heap.size 67 4 (.slice a1 n d1) n (C.flatMap aW)/\Bw w1 wr) (λx _=>n-(intOf x).toNat);case atStart=>exact⟨0,ts,Nat.zero_le _,rfl,Hn.out,rfl,rfl,lL.out,Yw.out⟩
 case round=>
  clear lL Yw;obtain⟨k,C',hk,rfl,hC,htk,hdr,hov,pb⟩:=hrel;obtain⟨Hp,Hc,Hr⟩:=cE (mN.out.below pb) (CN.out.below pb) (jw.out.below pb);have bE:=aO dM.out pb;have vN:=dM.out.size;by_cases hlt:k<n
  . obtain⟨g,cc,he,hg1,hg2,hg3⟩:=xK hov zo;simp only[Value.slice.injEq,true_and]at he;obtain⟨rfl,rfl⟩:=he;have xb:k<C'.length:=by omega
    have BH:k<ts.length:=by have:=Hn.out;omega
    have hel:=abl hdr xb BH;obtain⟨l,s1,q1,e1,hx⟩:∃l s m e,C'[k]=(l,s,m,e):=⟨_,_,_,_,rfl⟩;have eK:=tA.out _ (List.getElem_mem BH);rw[<-hel,hx]at eK;obtain⟨X,hX⟩:=aI (aJ (s1,q1,e1) *D);have qH:=afS (λx=>(x.1,canon (aJ x.2*D))) ts C' k xb (by rw[hC,Hn.out]) htk hel;have ID:(C'[k].1,canon (aJ C'[k].2*D))=(l,canon X):=by rw[hx,<-hX]
    have aeH:(C'.set k (l,canon X)).take (k+1)=(eu D ts).take (k+1):=by rw[<-ID];exact qH
    have mh:C'[k].1=l:=by rw[hx]
    obtain⟨_,y1,y2,y3⟩:=(Oz hov k xb hx).w4;have hd2:C'.drop (k+1)=ts.drop (k+1):=by rw[<-List.drop_drop,<-List.drop_drop,hdr]
    have bC:=gQ n d1 k (k:Int) (rfl:(some ⟨g,0,none⟩:Option Addr)=_) hlt rfl;rw[Nat.zero_add]at bC;have Hz:Hid (bA wr g (k*4+1) [aj s1,ai q1,ah e1]):=iR y1 y2 y3;have HX:Hid (aJ (s1,q1,e1) *aJ (s,m,e)=X):=by show _=_;rw[HD.out];exact hX
    obtain⟨dA,aX,Ra,tu,HC,PX,gF,iT⟩:=om hov pb aeH hd2 hC mh eK (HT.out.below bE);have fQ:=pb.size;clear hov pb qH aeH hd2 hC htk hdr hel hx hX ID mh eK BH y1 y2 y3 bE mN CN jw Hp Hr;have Hb:=hbz wr;go_wp2_with fail;obtain⟨ag,aC⟩:=qZ (Hc.an<|Hz.an trivial);have HU:Hid (aR wr):=iT.out;obtain⟨Hc,Hz,_⟩:=ag;obtain⟨c0,c1,c2⟩:=Hc.out.c3;obtain⟨z0,z1,z2⟩:=Hz.out.w3;refine ez (λw'=>aV w' (w.heap.size+1) 0 (aj s)/\aV w' (w.heap.size+1) 1 (ai m)/\aV w' (w.heap.size+1) 2 (ah e)/\aV w' g (k*4+1) (aj s1)/\aV w' g (k*4+1+1) (ai q1)/\aV w' g (k*4+1+2) (ah e1)) (λi=>Nat.blt i 12) [(0,true),(1,true),(2,true),(3,true),(4,true),(5,true),(6,true),(7,true),(8,false),(9,false),(10,true),(11,true),(12,false)] zk zk rfl zk zc ⟨c0,c1,c2,z0,z1,z2⟩ ?_;iterate 8 (refine pT rfl rfl ?_ (by intro w' ⟨q0,q1,q2,q3,q4,q5⟩;go_simp;try with_reducible rfl);try simp only[UU])
    refine aY rfl rfl (λK hK=>?_);go_simp;refine hK _ _ (λ_=>⟨bg c0,bg c1,bg c2,bg z0,bg z1,bg z2⟩) ?_;try simp only[UU]
    refine cL (λW4=>aH W4 (wr.heap.size) 48 [aj s1,ai q1,ah e1,aj s,ai m,ah e]/\Bw wr W4) (by first|exact fI|exact fJ) ?_;rintro W4 ⟨qv,au⟩;have afK:=Hc.out.lt;replace Hc:=kB Hc au;replace Hz:=kW Hz au;replace HU:=kT HU au;have Hv:=az qv;clear qv;obtain⟨c0,c1,c2⟩:=Hc.out.c3;obtain⟨z0,z1,z2⟩:=Hz.out.w3;obtain⟨v0,v1,v2,v3,v4,v5⟩:=Hv.out.c6;replace Hb:=bD Hb au;refine aY rfl rfl (λK hK=>?_);go_simp;with_reducible refine(Dq s1 q1 e1 s m e X B HX.out wr.heap.size _ 48 _ gF.out CQ.out zo Hv.out (by first|exact HU.out|exact aR.drew HU.out|exact aR.alloc HU.out _|exact aR.drew (aR.alloc HU.out _) |exact aR.alloc (aR.drew HU.out) _)).mono ?_
    rintro e w5 ⟨rfl,hq⟩;have au:Bw W4 w5:=by first|exact hq|exact df hq
    obtain⟨Hc,c0,c1,c2⟩:=uw Hc au;replace Hz:=kW Hz au;replace HU:=kT HU au;obtain⟨Hv,v0,v1,v2,v3,v4,v5⟩:=JH Hv au;obtain⟨z0,z1,z2⟩:=Hz.out.w3;replace Hb:=bD Hb au;refine hK _ _ (λ_=>⟨c0,c1,c2,z0,z1,z2⟩) ?_;try simp only[UU]
    iterate 2 (refine pT rfl rfl ?_;try simp only[UU])
    refine aY rfl rfl (λK hK=>?_);have jk:=ownsRow_below dA.out Hb.out;have Bj:=pz jk (k*4+1);have MD:=pz jk (k*4+1+1);have fz3:=pz jk (k*4+1+2);have dK:=aO aX.out Hb.out;obtain⟨AB,eP⟩:=aU jk dK;clear jk dK;go_simp;refine hK _ _ (λh=>absurd h zd) ?_;try simp only[UU]
    simp only[bP];go_wp2;refine⟨⟨k+1,C'.set k (l,canon X),by omega,by go_num,by rw[List.length_set];exact HC.out,Ra.out,by rw[Sw _ _ _ _ zo];exact tu.out,?_,?_⟩,by simp[intOf];omega⟩
    . have h:=agm AB.out k xb (aK (dN X)) (nt (dN X).natAbs) (dE X);rw[PX.out]at h;exact h
    . exact((eP.out.setCell hg1 _).setCell hg1 _).setCell hg1 _
  . obtain rfl:k=n:=by omega
    have GR:C'=eu D ts:=by rw[List.take_of_length_le zo,List.take_of_length_le (by unfold eu;rw[List.length_map];have:=Hn.out;omega)]at htk;exact htk
    rw[GR]at hov;obtain⟨dA,aX⟩:=aU hov pb;have Hb:Hid (Bw w wr):=bE;clear hov pb htk hdr hC GR bE;obtain⟨ag,aC⟩:=qZ (Hp.an<|Hr.an trivial);obtain⟨Hp,Hr,_⟩:=ag;obtain⟨p0,p1⟩:=Hp.out.c2;obtain⟨r0,bo,r1,bz⟩:=Hr.out.g2;go_wp2_with fail;refine(gD.out w1 _ _ dM.out aX.out dA.out).mono ?_;rintro e w6 ⟨a2,d2,rfl,dX,au⟩;replace Hp:=az (mN.out.below au);replace Hr:=az (jw.out.below au);obtain⟨p0,p1⟩:=Hp.out.c2;obtain⟨r0,bo,r1,bz⟩:=Hr.out.g2;replace Hb:=az (aO dM.out au);go_wp2;refine AW (Hr.out) dX Hb.out zo ?_;intro w9 jY fN dS;obtain⟨q0,q1⟩:=jY.c2;exact bodyPost_ret (v:=.tuple #[.agg #[ah (V:Int),.slice a2 C.length d2],ah 0]) (by simp[results,Tryz.results24,go_sem,q0,q1]) rfl ⟨_,_,rfl,Cr fN,dS⟩
def ag6 (V:Nat)(a:Option Addr)(cap:Nat)(ts:List aM)(s:Bool)(m:List UInt8)(e:Int)(D:Dyadic)(B:Nat)(w:World)(hp:ir V B ts)(ha:bI w a cap ts)(hf:Fit B (s,m,e))(hB:2*B+8192<=268435456)(hT:aR w)(hD:aJ (s,m,e)=D):
 Cl 24 #[.agg #[ah (V:Int),.slice a ts.length cap],.agg #[aj s,ai m,ah e]] w λex w'=>∃a' c',ex=.returned (.tuple #[.agg #[ah (V:Int),.slice a' (bW (eu D ts)).length c'],ah 0])/\bI w' a' c' (bW (eu D ts))/\Bw w w':=awG V a cap ts s m e D B w hp ha.w hf hB hT hD
end Go.Proofs.YtnjfebkelecgaaaGreatDoor
namespace Go.Proofs.YtnjfebkelecgaaaGreatDoor
open Go.RowKit
def amV {P:Program}(t tx ty:TypeId)(e e':TypeId)(ht:P.underlying t=some (.slice e))(hx:P.underlying tx=some (.slice e'))(u v:Value)(w:World):(Builtin.append_ #[t,tx] ty #[u,v]).run P w=(Builtin.append_ #[t,t] ty #[u,v]).run P w:=by unfold Builtin.append_;cases u<;>simp[Sem.run_bind,run_underlying ht,run_underlying hx]
def aia {P:Program}{w:World}{o:Oper}{a:Act}{K:Act->World->Prop}{Q:Exit->Act->World->Prop}(s x:Operand)(t tx:TypeId)(e':TypeId)(htx:P.underlying tx=some (.slice e'))
 (ho:o.op=.call {callee:=.builtin .append,args:=#[s,x],argTypes:=#[t,tx]})
 (base:Nat) (e:TypeId) (i:TypeInfo) (z:Value) (size bytes:Nat) (ht:P.underlying t=Option.some (.slice e)) (hi:P.info? e=Option.some i) (hz:i.zero=Option.some z)
 (hsize:i.size=size) (hby:i.bytes=bytes) (hzs:z.cells.size=size) (hsz:0<size)
 (v:Value) (n:Nat) (xs:List Value) (hs:a.eval s=v) (hown:w.ownsRow base e size v n xs)
 (aa:Option Addr) (m c:Nat) (news:List Value) (hx:a.eval x=.slice aa m c) (hsl:Sl aa m c) (hl:news.length=m*size) (hat:At w aa news) (h1:∀u∈news,u.oneCell'=true)
 (h63:n+m<=maxLen) (hbytes:(n+m) *bytes<=140737488355328) (hbase:base<=w.heap.size)
 (h:∀v' w',w'.ownsRow base e size v' (n+m) (xs++news)->w.grownBy w' v.ownBlock->(v'.ownBlock=v.ownBlock\/v'.ownBlock=Option.some w.heap.size)->K (a.put o.dst v') w'):o.wp P a w K Q:=by
 have key:∃v' w',(Builtin.append_ #[t,tx] o.type #[v,.slice aa m c]).run P w=.ok v' w'/\w'.ownsRow base e size v' (n+m) (xs++news)/\w.grownBy w' v.ownBlock/\(v'.ownBlock=v.ownBlock\/v'.ownBlock=Option.some w.heap.size):=by
  rw[amV t tx o.type e e' ht htx];cases aa with
  | none=>
    have hc:=hsl.2 rfl;have hm:m=0:=by have:=hsl.1;omega
    subst hc;subst hm;have hn:news=[]:=List.eq_nil_of_length_eq_zero (by simpa using hl);subst hn;exact⟨v,w,run_append_owned_none (P:=P) (w:=w) base t o.type e i size ht hi v n xs hown,by simpa using hown,World.grownBy.refl _ _,.inl rfl⟩
  | some ad=>
    obtain⟨v',w',hr,h2,h3,_,h5⟩:=run_append_own_at (P:=P) w base t o.type e i z size bytes ht hi hz hsize hby hzs hsz v n xs hown ad m c news hl (by
     intro j u hj;rcases hat with h0|⟨b,o',e'',hc⟩
     . subst h0;simp at hj
     . simp only[Option.some.injEq]at e'';subst e'';have hjl:=(List.getElem?_eq_some_iff.1 hj).1;have e2:((⟨b,o',none⟩:Addr).add j)=⟨b,o'+j,none⟩:=by unfold Addr.add;cases j<;>simp
       rw[e2,hc j hjl];exact hj) h1 h63 hbytes hbase
    exact⟨v',w',hr,h2,h3,h5⟩
 obtain⟨v',w',hr,h2,h3,h5⟩:=key;unfold Oper.wp execOp;simp only[ho,resolve,invoke,builtin,Sem.run_bind,Sem.run_pure,Result.andThen_ok,List.map_toArray,List.map_cons,List.map_nil,hs,hx,hr];exact h v' w' h2 h3 h5
def Pd (w:World)(ob:Option Nat)(lo:Nat)(v:Value)(cd:List Raw):Prop:=∃a cap,v=.slice a cd.length cap/\At w a (cd.flatMap bK)/\Sl a cd.length cap/\∀b o,a=some ⟨b,o,none⟩->some b≠ob/\b<w.heap.size/\lo<=b
def Pd.pc {w:World}{ob:Option Nat}{lo:Nat}{v:Value}{cd:List Raw}(h:Pd w ob lo v cd):Pc w v cd:=by obtain⟨a,c,h1,h2,h3,_⟩:=h;exact⟨a,c,h1,h2,h3⟩
def Pd.below {w w':World}{ob:Option Nat}{lo:Nat}{v:Value}{cd:List Raw}(h:Pd w ob lo v cd)(hb:Bw w w'):Pd w' ob lo v cd:=by obtain⟨a,c,h1,h2,h3,h4⟩:=h;exact⟨a,c,h1,h2.below hb,h3,λb o e=>⟨(h4 b o e).1,Nat.lt_of_lt_of_le (h4 b o e).2.1 hb.size,(h4 b o e).2.2⟩⟩
def Pd.grown {w w':World}{ob Wd:Option Nat}{lo:Nat}{v:Value}{cd:List Raw}(h:Pd w ob lo v cd)(hg:w.grownBy w' ob)(eY:Wd=ob\/Wd=some w.heap.size):Pd w' Wd lo v cd:=by
 obtain⟨a,c,h1,h2,h3,h4⟩:=h;refine⟨a,c,h1,h2.grown hg (λb o e=>(h4 b o e).1),h3,λb o e=>⟨?_,Nat.lt_of_lt_of_le (h4 b o e).2.1 hg.size,(h4 b o e).2.2⟩⟩;rcases eY with h|h
 . rw[h];exact(h4 b o e).1
 . rw[h];intro h5;have:=(h4 b o e).2.1;simp at h5;omega
def Pd.own {w:World}{base lo:Nat}{e:TypeId}{ob:Option Nat}{x:Value}{cd:List Raw}{n:Nat}(h:w.ownsRow base e 3 x n (cd.flatMap bK))(hn:cd.length=n)(eY:∀g,ob=some g->g<base)(hlo:lo<=base):Pd w ob lo x cd:=by subst hn;have hl:=h.lt;obtain⟨a,c,hv,hat,hb⟩:=dm h;subst hv;refine⟨a,c,rfl,hat,uz h,λb o e=>?_⟩;subst e;have h1:=hl b rfl;refine⟨λh2=>?_,h1.2,by omega⟩;have:=eY b h2.symm;omega
def gG (e:TypeId)(w:World)(base:Nat)(S:List (List Raw))(k:Nat)(v:Value):Prop:=
 ∃vals:List Value,vals.length=k/\w.ownsRow base e 1 v k vals/\∀i (h:i<vals.length),Pd w v.ownBlock base vals[i] (S.getD i [])
def gG.nil (e:TypeId)(w:World)(base:Nat)(S:List (List Raw)):gG e w base S 0 (.slice none 0 0):=
 ⟨[],rfl,World.ownsRow_nil _ _ _ _,λ_ h=>absurd h (Nat.not_lt_zero _)⟩
def gG.below {e:TypeId}{w w':World}{base k:Nat}{S:List (List Raw)}{v:Value}(h:gG e w base S k v)(hb:Bw w w'):gG e w' base S k v:=by obtain⟨vals,hl,ho,hi⟩:=h;exact⟨vals,hl,ownsRow_below ho hb,λi h=>(hi i h).below hb⟩
def gG.lt {e:TypeId}{w:World}{base k:Nat}{S:List (List Raw)}{v:Value}(h:gG e w base S k v):∀g,v.ownBlock=some g->base<=g/\g<w.heap.size:=by obtain⟨vals,hl,ho,hi⟩:=h;exact ho.lt
def gG.tbl {e:TypeId}{w:World}{base k:Nat}{S:List (List Raw)}{v:Value}(h:gG e w base S k v)(hk:S.length=k):∃a c,v=.slice a k c/\Sl a k c/\mR w a S:=by obtain⟨vals,hl,ho,hi⟩:=h;obtain⟨a,c,hv,hat,_⟩:=dm ho;subst hv;refine⟨a,c,rfl,uz ho,vals,by simp[hl,hk],hat,λi h1 h2=>?_⟩;have:=(hi i h2).pc;rwa [show S.getD i []=S[i]by simp[h1]]at this
def gG.chg {e:TypeId}{Y:Nat->Prop}{w w':World}{base k:Nat}{S:List (List Raw)}{v:Value}(h:gG e w base S k v)(hc:Chg Y w w')(hy:∀b,base<=b->¬Y b):gG e w' base S k v:=by
 obtain⟨vals,hl,ho,hi⟩:=h;refine⟨vals,hl,Ez ho hc (λb hb=>hy b (ho.lt b hb).1),λi h=>?_⟩;obtain⟨a,c,h1,h2,h3,h4⟩:=hi i h;refine⟨a,c,h1,?_,h3,λb o e=>⟨(h4 b o e).1,Nat.lt_of_lt_of_le (h4 b o e).2.1 hc.size,(h4 b o e).2.2⟩⟩;rcases h2 with h2|⟨b,o,e,hcs⟩
 . exact .inl h2
 . obtain⟨_,q2,q3⟩:=h4 b o e;exact .inr ⟨b,o,e,λj hj=>by rw[<-hcs j hj];exact World.cell?_of_block (hc.block b q2 (hy b q3))⟩
def Fast (k:Nat)(w:World)(R:World->Prop):Prop:=∀(Y:Nat->Prop) (w':World),Chg Y w w'->(∀b,k<=b->¬Y b)->R w'
def gG.aCF {e:TypeId}{w:World}{base k:Nat}{S:List (List Raw)}{v:Value}(h:gG e w base S k v)(hk:S.length=k):∃a c,v=.slice a k c/\k<=c/\Fast base w (λu=>bQ u a S):=by
 obtain⟨a,c,hv,hs,_⟩:=h.tbl hk;subst hv;refine⟨a,c,rfl,hs.1,λY w' hc hy=>?_⟩;obtain⟨_,_,e1,_,ht⟩:=(h.chg hc hy).tbl hk;cases e1
 exact ht.tbl
def Kw {P:Program}{w:World}{ops:Array Oper}{rest:List Oper}{o:Oper}{a:Act}{Q:Exit->Act->World->Prop}(hgd:o.guard=none)(s x:Operand)(t:TypeId)
 (ho:o.op=.call {callee:=.builtin .append,args:=#[s,x],argTypes:=#[t,t]})
 (base:Nat) (e:TypeId) (i:TypeInfo) (z:Value) (ht:P.underlying t=Option.some (.slice e)) (hi:P.info? e=Option.some i) (hz:i.zero=Option.some z)
 (hsize:i.size=1) (hby:i.bytes=24) (hzs:z.cells.size=1)
 (v:Value) (k:Nat) (S:List (List Raw)) (hs:a.eval s=v) (hown:gG e w base S k v)
 (g:Nat) (c:Nat) (row:Value) (hx:a.eval x=.slice (some ⟨g,0,none⟩) 1 c) (hc:w.cell? ⟨g,0,none⟩=some row) (hp:Pd w v.ownBlock base row (S.getD k []))
 (hk:k<=1000) (hbase:base<=w.heap.size)
 (h:∀v' w',gG e w' base S (k+1) v'->w.grownBy w' v.ownBlock->(∀j,v.ownBlock=some j->base<=j)->(v'.ownBlock=v.ownBlock\/v'.ownBlock=Option.some w.heap.size)->wpList P ops Q rest (a.put o.dst v') w'):
 wpList P ops Q (o::rest) a w:=by
 obtain⟨vals,hl,how,hi2⟩:=hown;have h1:row.oneCell'=true:=by obtain⟨a,cp,rfl,_⟩:=hp;rfl
 refine wpList_append_own_at w hgd s x t ho base e i z 1 24 ht hi hz hsize hby hzs zd v k vals hs how ⟨g,0,none⟩ 1 c [row] hx rfl (λj u hj=>?_) (λu hu=>?_) (by unfold maxLen;omega) zo hbase (λv' w' h2 h3 _ h5=>?_)
 . have hj0:j=0:=by have:=(List.getElem?_eq_some_iff.1 hj).1;simp at this;omega
   subst hj0;simp at hj;subst hj;exact hc
 . simp only[List.mem_singleton]at hu;subst hu;exact h1
 . refine h v' w' ⟨_,by simp[hl],h2,λi Um=>?_⟩ h3 (λj hj=>(how.lt j hj).1) h5;by_cases hk2:i<vals.length
   . rw[List.getElem_append_left hk2];exact(hi2 i hk2).grown h3 h5
   . have hik:i=k:=by simp at Um;omega
     subst hik;rw[List.getElem_append_right zo];simp only[hl,Nat.sub_self,List.getElem_cons_zero];exact hp.grown h3 h5
end Go.Proofs.YtnjfebkelecgaaaGreatDoor
