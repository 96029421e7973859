/- An own row cut short,cleared behind;an own row as a whole block. -/
import Derived.Test.YtnjfebkelecgaaaGreatDoorZ11
import Derived.Laws.CopyRow
import Derived.Laws.AppendOwnNone
import Derived.Deep.DeepAppendRoom
import Derived.Test.YtnjfebkelecgaaaGreatDoorZ12
set_option linter.all false
set_option maxRecDepth 100000
set_option maxHeartbeats 16000000
namespace Go.Proofs.YtnjfebkelecgaaaGreatDoor
open Go.RowKit
def XA {w:World}{base:Nat}{e:TypeId}{size n cap g:Nat}{xs:List Value}(h:w.ownsRow base e size (.slice (some ⟨g,0,none⟩) n cap) n xs)(i:Nat)(hi:i<=n):
 w.ownsRow base e size (.slice (some ⟨g,0,none⟩) i cap) i (xs.take (i*size)):=by
 have Ch:i*size<=n*size:=Nat.mul_le_mul_right _ hi;refine⟨by rw[List.length_take,h.1];omega,?_⟩;rcases h.2 with⟨h1,_⟩ |⟨g',cap',cur,h1,hb,hg,h4,h5,h6,hx⟩
 . simp at h1
 . simp only[Value.slice.injEq,Option.some.injEq,Addr.mk.injEq,and_true,true_and]at h1;obtain⟨rfl,rfl⟩:=h1;refine .inr ⟨g,cap,cur,rfl,hb,hg,by omega,h5,h6,?_⟩;rw[<-hx,List.take_take,Nat.min_eq_left Ch]
def wy {w:World}{base:Nat}{e:TypeId}{size n:Nat}{v:Value}{xs:List Value}(h:w.ownsRow base e size v n xs)(hn:0<n):∃g cap,v=.slice (some ⟨g,0,none⟩) n cap/\base<=g/\g<w.heap.size/\n<=cap:=by
 rcases h.2 with⟨_,h1⟩ |⟨g,cap,cur,h1,hb,hg,h4,_⟩
 . omega
 . exact⟨g,cap,h1,hb,(Array.getElem?_eq_some_iff.1 hg).1,h4⟩
def awy {w:World}{base:Nat}{e:TypeId}{size n cap g:Nat}{xs:List Value}(h:w.ownsRow base e size (.slice (some ⟨g,0,none⟩) n cap) n xs)(o:Nat)(vs:List Value)(ho:n*size<=o)(cur:Array Value)(Jg:w.heap[g]?=some (.cells cur e (0,0)))(hl:o+vs.length<=cur.size):
 (w.setRow g (cur.toList.take o++vs++cur.toList.drop (o+vs.length)).toArray).ownsRow base e size (.slice (some ⟨g,0,none⟩) n cap) n xs/\w.grownBy (w.setRow g (cur.toList.take o++vs++cur.toList.drop (o+vs.length)).toArray) (some g):=by
 have hh:=setRow_heap w g cur (cur.toList.take o++vs++cur.toList.drop (o+vs.length)).toArray e (0,0) Jg;constructor
 . refine⟨h.1,?_⟩;rcases h.2 with⟨h1,_⟩ |⟨g',cap',cur',h1,hb,hg,h4,h5,h6,hx⟩
   . simp at h1
   . simp only[Value.slice.injEq,Option.some.injEq,Addr.mk.injEq,and_true,true_and]at h1;obtain⟨rfl,rfl⟩:=h1;rw[Jg]at hg;simp only[Option.some.injEq,Obj.cells.injEq,and_true]at hg;subst hg;refine .inr ⟨g,cap,_,rfl,hb,hh,h4,h5,?_,?_⟩
     . rw[<-h6];have hcl:cur.toList.length=cur.size:=Array.length_toList;simp only[List.size_toArray,List.length_append,List.length_take,List.length_drop,hcl];omega
     . rw[<-hx];have hcl:cur.toList.length=cur.size:=Array.length_toList;simp only[List.append_assoc];rw[List.take_append_of_le_length (by rw[List.length_take,hcl];omega),List.take_take,Nat.min_eq_left ho]
 . refine⟨rfl,rfl,rfl,by simp[World.setRow],λk hk hne=>?_⟩;unfold World.setRow;simp only[Array.getElem?_modify];rw[if_neg (λe=>hne (by rw[e]))]
def aik {P:Program}(w:World)(t e:TypeId)(z:Value)(size:Nat)(ht:P.underlying t=some (.slice e))(hv:∀w,(zeroValue e).run P w=.ok z w)(hz:z.cells.size=size)(h1:∀v∈z.cells.toList,v.oneCell'=true)(g n m cap c:Nat)(base:Nat)(xs:List Value)
 (h:w.ownsRow base e size (.slice (some ⟨g,0,none⟩) n cap) n xs) (hm:n+m<=cap):
 ∃w',(∀ty,(Builtin.clear_ #[t] ty #[.slice (some ⟨g,n*size,none⟩) m c]).run P w=.ok (.tuple #[]) w')/\w'.ownsRow base e size (.slice (some ⟨g,0,none⟩) n cap) n xs/\w.grownBy w' (some g):=by
 rcases h.2 with⟨h2,_⟩ |⟨g',cap',cur,h2,hb,hg,h4,h5,h6,hx⟩
 . simp at h2
 simp only[Value.slice.injEq,Option.some.injEq,Addr.mk.injEq,and_true,true_and]at h2;obtain⟨rfl,rfl⟩:=h2;by_cases hm0:m=0
 . subst hm0;refine⟨w,λty=>?_,h,World.grownBy.refl _ _⟩;simp[Builtin.clear_,run_underlying ht]
 . obtain⟨vs,hvs⟩:=aK ((Builtin.zeroCells z.cells m).toList);have hvl:vs.length=m*size:=by rw[<-hvs,Array.length_toList,size_zeroCells,hz]
   have Ah:∀v∈vs,v.oneCell'=true:=by
    intro v hv2;rw[<-hvs]at hv2;unfold Builtin.zeroCells at hv2;simp only[Array.toList_map,Array.toList_range,List.mem_map,List.mem_range]at hv2;obtain⟨i,hi,rfl⟩:=hv2;have hs:0<z.cells.size:=by
     rcases Nat.eq_zero_or_pos z.cells.size with h0|h0
     . rw[h0]at hi;simp at hi
     . exact h0
    have:=Nat.mod_lt i hs;rw[getElem!_pos z.cells (i%z.cells.size) this];exact h1 _ zm
   have hle:n*size+0+vs.length<=cur.size:=by rw[hvl,h6];have:=Nat.mul_le_mul_right size hm;rw[Nat.add_mul]at this;omega
   have hst:=run_storeCells_at (P:=P) g (n*size) e vs 0 cur w hg hle Ah;obtain⟨k1,k2⟩:=awy h (n*size) vs (Nat.le_refl _) cur hg zo;refine⟨_,λty=>?_,k1,k2⟩;obtain⟨m',rfl⟩:∃m',m=m'+1:=⟨m-1,by omega⟩;simp[Builtin.clear_,run_underlying ht,hv,hvs,hst]
def Sl (a:Option Addr)(n cap:Nat):Prop:=n<=cap/\(a=none->cap=0)
def Sl.nil :Sl none 0 0:=⟨Nat.le_refl _,λ_=>rfl⟩
def Sl.some (x:Addr)(n cap:Nat)(h:n<=cap):Sl (some x) n cap:=⟨h,λe=>by cases e⟩
def yl {w:World}{base:Nat}{e:TypeId}{size n k cap:Nat}{a:Option Addr}{xs:List Value}(h:w.ownsRow base e size (.slice a k cap) n xs):Sl a k cap:=by
 rcases h.2 with⟨h1,_⟩ |⟨g,cap',cur,h1,hb,hg,h4,_⟩
 . simp only[Value.slice.injEq]at h1;obtain⟨rfl,rfl,rfl⟩:=h1;exact Sl.nil
 . simp only[Value.slice.injEq]at h1;obtain⟨rfl,rfl,rfl⟩:=h1;exact Sl.some _ _ _ h4
def ajz {P:Program}{w:World}{ops:Array Oper}{rest:List Oper}{o:Oper}{a:Act}{Q:Exit->Act->World->Prop}(hgd:o.guard=none)(s x:Operand)(t:TypeId)
 (ho:o.op=.call {callee:=.builtin .append,args:=#[s,x],argTypes:=#[t,t]})
 (base:Nat) (e:TypeId) (i:TypeInfo) (z:Value) (size bytes:Nat) (ht:P.underlying t=Option.some (.slice e)) (hi:P.info? e=Option.some i) (hz:i.zero=Option.some z)
 (hsize:i.size=size) (hby:i.bytes=bytes) (hzs:z.cells.size=size) (hsz:0<size)
 (v:Value) (n:Nat) (xs:List Value) (hs:a.eval s=v) (hown:w.ownsRow base e size v n xs)
 (aa:Option Addr) (m c:Nat) (news:List Value) (hx:a.eval x=.slice aa m c) (hsl:aa=none->m=0/\c=0) (hl:news.length=m*size) (hat:At w aa news) (h1:∀u∈news,u.oneCell'=true)
 (h63:n+m<=maxLen) (hbytes:(n+m) *bytes<=140737488355328) (hbase:base<=w.heap.size)
 (h:∀v' w',w'.ownsRow base e size v' (n+m) (xs++news)->w.grownBy w' v.ownBlock->(v'.ownBlock=v.ownBlock\/v'.ownBlock=Option.some w.heap.size)->wpList P ops Q rest (a.put o.dst v') w'):
 wpList P ops Q (o::rest) a w:=by
 cases aa with
 |none=>obtain⟨hm,hc⟩:=hsl rfl;subst hc;subst hm;have hn:news=[]:=List.eq_nil_of_length_eq_zero (by simpa using hl);subst hn;refine wpList_append_own_none hgd s x t ho base e i size ht hi v n xs hs hown hx ?_;exact h v w (by simpa using hown) (World.grownBy.refl _ _) (.inl rfl)
 | some ad=>
   refine wpList_append_own_at w hgd s x t ho base e i z size bytes ht hi hz hsize hby hzs hsz v n xs hs hown ad m c news hx hl ?_ h1 h63 hbytes hbase (λv' w' h2 h3 _ h5=>h v' w' h2 h3 h5);intro j u hj;rcases hat with h0|⟨b,o',e',hc⟩
   . subst h0;simp at hj
   . simp only[Option.some.injEq]at e';subst e';have hjl:=(List.getElem?_eq_some_iff.1 hj).1;have e2:((⟨b,o',none⟩:Addr).add j)=⟨b,o'+j,none⟩:=by unfold Addr.add;cases j<;>simp
     rw[e2,hc j hjl];exact hj
def vr {P:Program}{w:World}{ops:Array Oper}{rest:List Oper}{o:Oper}{a:Act}{Q:Exit->Act->World->Prop}(hgd:o.guard=none)(s x:Operand)(t:TypeId)
 (ho:o.op=.call {callee:=.builtin .append,args:=#[s,x],argTypes:=#[t,t]})
 (base:Nat) (e:TypeId) (i:TypeInfo) (z:Value) (size bytes:Nat) (ht:P.underlying t=Option.some (.slice e)) (hi:P.info? e=Option.some i) (hz:i.zero=Option.some z)
 (hsize:i.size=size) (hby:i.bytes=bytes) (hzs:z.cells.size=size) (hsz:0<size)
 (v:Value) (n:Nat) (xs:List Value) (hs:a.eval s=v) (hown:w.ownsRow base e size v n xs)
 (aa:Option Addr) (m c:Nat) (news:List Value) (hx:a.eval x=.slice aa m c) (hsl:Sl aa m c) (hl:news.length=m*size) (hat:At w aa news) (h1:∀u∈news,u.oneCell'=true)
 (h63:n+m<=maxLen) (hbytes:(n+m) *bytes<=140737488355328) (hbase:base<=w.heap.size)
 (h:∀v' w',w'.ownsRow base e size v' (n+m) (xs++news)->w.grownBy w' v.ownBlock->(v'.ownBlock=v.ownBlock\/v'.ownBlock=Option.some w.heap.size)->wpList P ops Q rest (a.put o.dst v') w'):
 wpList P ops Q (o::rest) a w:=
 ajz hgd s x t ho base e i z size bytes ht hi hz hsize hby hzs hsz v n xs hs hown aa m c news hx (λe=>⟨by have h1:=hsl.1;have h2:=hsl.2 e;omega,hsl.2 e⟩) hl hat h1 h63 hbytes hbase h
def At.cut {w:World}{a:Option Addr}{xs:List Value}{k cap size n:Nat}(h:At w a xs)(hl:xs.length=n*size)(hk:k<=n)(hc:n<=cap):At w (if cap=k then a else a.map (·.add (k*size))) (xs.drop (k*size)):=by
 rcases h with h0|⟨b,o,rfl,hcs⟩
 . subst h0;simp;exact .inl rfl
 . by_cases e:cap=k
   . have:xs.drop (k*size)=[]:=List.drop_of_length_le (by rw[hl];exact Nat.mul_le_mul_right _ zo);rw[this];exact .inl rfl
   . rw[if_neg e];have e2:((⟨b,o,none⟩:Addr).add (k*size))=⟨b,o+k*size,none⟩:=by unfold Addr.add;split<;>simp_all
     refine .inr ⟨b,o+k*size,by rw[Option.map_some,e2],λj hj=>?_⟩;rw[List.length_drop]at hj;rw[Nat.add_assoc,hcs _ zo,List.getElem?_drop]
def Sl.cut {a:Option Addr}{k cap size n:Nat}(h:Sl a n cap)(hk:k<=n):Sl (if cap=k then a else a.map (·.add (k*size))) (n-k) (cap-k):=by
 refine⟨by have:=h.1;omega,λe=>?_⟩;by_cases e1:cap=k
 . omega
 . rw[if_neg e1]at e
   have:=h.2 (by cases a with
    |none=>rfl
    |some x=>simp at e)
   omega
def Xr (cJ:List Raw):∀u∈cJ.flatMap bG,u.oneCell'=true:=by intro u hu;obtain⟨r,_,hr⟩:=List.mem_flatMap.1 hu;simp only[bG,List.mem_cons,List.not_mem_nil,or_false]at hr;rcases hr with rfl|rfl|rfl<;>rfl
end Go.Proofs.YtnjfebkelecgaaaGreatDoor
namespace Go.Proofs.YtnjfebkelecgaaaGreatDoor
open Go.RowKit
attribute [local go_sem ↓] Go.wp_at_zero Go.wp_at_succ
def Tryz.aFP :(Tryz.prog.info? 67).map (λi=>(i.zero,i.size,i.bytes))=some (some (.agg #[.string (bs []),aj false,.string (bs []),ah 0]),4,48):=by kernel_rfl
def oU (ts:List aQ):(ts.flatMap aY).length=ts.length*4:=kj aY 4 (λ_=>rfl) ts
def wF (ts:List aQ):∀u∈ts.flatMap aY,u.oneCell'=true:=by intro u hu;obtain⟨r,_,hr⟩:=List.mem_flatMap.1 hu;simp only[aY,List.mem_cons,List.not_mem_nil,or_false]at hr;rcases hr with rfl|rfl|rfl|rfl<;>rfl
def Yz (t:aQ)(ts:List aQ):(t::ts).flatMap aY=aY t++ts.flatMap aY:=List.flatMap_cons
def At.tail {w:World}{b o c:Nat}{x:aQ}{ts:List aQ}(h:At w (some ⟨b,o,none⟩) ((x::ts).flatMap aY))(hc:ts.length+1<=c):At w (if c=1 then some ⟨b,o,none⟩else some ⟨b,o+4,none⟩) (ts.flatMap aY):=by
 have hk:=At.cut (k:=1) (size:=4) (n:=ts.length+1) (cap:=c) h (by rw[oU];rfl) zo hc;have e:((x::ts).flatMap aY).drop (1*4)=ts.flatMap aY:=by rw[Yz];rfl
 rw[e]at hk;exact hk
def Sl.tail {b o c n:Nat}(h:Sl (Option.some ⟨b,o,none⟩) (n+1) c):Sl (if c=1 then Option.some (⟨b,o,none⟩:Addr)else Option.some ⟨b,o+4,none⟩) n (c-1):=by refine⟨by have:=h.1;omega,λe=>?_⟩;split at e<;>cases e
def ay1 (l l':List UInt8):(yr l l'= -1/\Op.bytesLess l l'=true)\/(yr l l'=1/\Op.bytesLess l l'=false/\Op.bytesLess l' l=true)\/(yr l l'=0/\Op.bytesLess l l'=false/\Op.bytesLess l' l=false):=by
 unfold yr;cases h1:Op.bytesLess l l' with
 |true=>exact .inl ⟨by simp,rfl⟩
 | false=>
   cases h2:Op.bytesLess l' l with
   |true=>exact .inr (.inl ⟨by simp,rfl,rfl⟩)
   |false=>exact .inr (.inr ⟨by simp,rfl,rfl⟩)
def ahn (a:Option Addr)(n cap:Nat)(ta:List aQ)(a':Option Addr)(n' cap':Nat)(tb:List aQ)(B:Nat)(w:World)(hn:ta.length=n)(hn':tb.length=n')(hs:Sl a n cap)(hs':Sl a' n' cap')(hl:n<=65536)(hl':n'<=65536)(ha:At w a (ta.flatMap aY))(ha':At w a' (tb.flatMap aY))
 (jU:∀t∈ta,Fit B t.2) (kq:∀t∈tb,Fit B t.2) (hB:B+2<=268435456) (hT:aM w):
 Cl 54 #[.slice a n cap,.slice a' n' cap',.func (.func 55) #[] #[],.func (.func 56) #[] #[]] w λe w'=>∃v',e=.returned v'/\w'.ownsRow w.heap.size 67 4 v' (iu ta tb).length ((iu ta tb).flatMap aY)/\Bw w w':=by
 obtain⟨i0,hi,hz0,hz1,hz2⟩:=info_parts Tryz.aFP;obtain⟨M,hM⟩:=aK (iu ta tb);have Io:=enters_of Tryz.func55 zk rfl;have Im:=enters_of Tryz.func56 zk rfl;rw[hM];obtain⟨Hi,dF,dv,di,HM,Ri,Rh,Hs,Hs',Ha,qD,wT⟩:=gg hi hz0 hz1 hz2 hM Io Im hs hs' ha ha' jU;obtain⟨wU,HT,Hn,Dt⟩:=ej kq hT hn hn';obtain⟨N,hN⟩:=aK (n+n');have hNI:(n:Int)+(n':Int)=(N:Int):=by omega
 have HN:=ar hN;clear hi hz0 hz1 hz2 hM Io Im hs hs' ha ha' jU kq hT hn hn' hN;have hN1:N<=131072:=by have:=HN.out;omega
 go_enter Tryz.func54,Tryz.ntmps54;go_wp2_with (at_make;refine wpList_make_own _ rfl _ _ 22 rfl w.heap.size 67 i0 _ 4 Tryz.underlying22 Hi.out dF.out dv.out _ _ _ N rfl rfl (by first|exact hNI|rfl) (by rw[di.out];omega) zx (Nat.le_refl _) ?_;intro w1 hown hgrow);obtain⟨hb1,rM⟩:=aZ ((Below.refl w.heap.size w).grown hgrow (Nat.le_refl _) (by intro k hk;cases hk)) hown;clear hown hgrow hNI
 go_loopw[0,1,9] (λva vb vo wr=>∃(ra rb acc:List aQ) (p q ca cb:Nat) (aa ab:Option Addr) (v:Value),v=vo/\va=.slice aa p ca/\vb=.slice ab q cb/\ra.length=p/\rb.length=q/\Sl aa p ca/\Sl ab q cb/\At w aa (ra.flatMap aY)/\At w ab (rb.flatMap aY)/\
  (∀t∈ra,Fit B t.2)/\(∀t∈rb,Fit B t.2)/\wr.ownsRow w.heap.size 67 4 v acc.length (acc.flatMap aY)/\acc.length+p+q<=N/\acc++iu ra rb=M/\Bw w wr) (λva vb _ _=>(Al va+Al vb).toNat)
 case atStart=>exact⟨ta,tb,[],n,n',cap,cap',a,a',_,rfl,rfl,rfl,Hn.out,Dt.out,Hs.out,Hs'.out,Ha.out,qD.out,wT.out,wU.out,rM.out,by rw[<-HN.out];simp,by simpa using HM.out,hb1.out⟩
 case round=>
  clear hb1 rM Ha qD Hs Hs' wT wU Hn Dt HM;obtain⟨ra,rb,acc,p,q,ca,cb,aa,ab,v,rfl,rfl,rfl,xV,uL,hsa,Cs,hat,hat',jU,kq,hov,hlen,hM,pb⟩:=hrel;by_cases EM:0<p/\0<q
  . obtain ⟨hp,hq⟩:=EM;obtain⟨x,ra,rfl⟩:∃x l,ra=x::l:=by cases ra with
     |nil=>simp at xV;omega
     |cons x l=>exact⟨x,l,rfl⟩
    obtain⟨y,rb,rfl⟩:∃x l,rb=x::l:=by cases rb with
     |nil=>simp at uL;omega
     |cons x l=>exact⟨x,l,rfl⟩
    obtain⟨l,s,m,e⟩:=x;obtain⟨l',s',m',e'⟩:=y;obtain⟨p,rfl⟩:∃p',p=p'+1:=⟨p-1,by omega⟩;obtain⟨q,rfl⟩:∃q',q=q'+1:=⟨q-1,by omega⟩;have dG:=jU (l,s,m,e) zm;have il:=kq (l',s',m',e') zm;have ae1:∀t∈ra,Fit B t.2:=λt ht=>jU t (by simp[ht]);have ae2:∀t∈rb,Fit B t.2:=λt ht=>kq t (by simp[ht]);obtain⟨b1,o1,rfl,hw1⟩:=(hat.below pb).term 0 zm rfl;obtain⟨b2,o2,rfl,hw2⟩:=(hat'.below pb).term 0 zm rfl;simp only[Nat.zero_mul,Nat.add_zero]at hw1 hw2;have rD:b1<w.heap.size:=hat.lt (by rw[Yz];simp[aY]);have oJ:b2<w.heap.size:=hat'.lt (by rw[Yz];simp[aY]);have JJ:=hat.tail (c:=ca) (by have:=hsa.1;simp at xV;omega);have nz:=hat'.tail (c:=cb) (by have:=Cs.1;simp at uL;omega);have agd:=hsa.tail;have age:=Cs.tail;have EY:=gJ (p+1) ca 0 0 (rfl:(some ⟨b1,o1,none⟩:Option Addr)=_) zo rfl;have Cz:=gJ (q+1) cb 0 0 (rfl:(some ⟨b2,o2,none⟩:Option Addr)=_) zo rfl;rw[Nat.zero_mul,Nat.add_zero]at EY Cz;have hca:p+1<=ca:=hsa.1;have hcb:q+1<=cb:=Cs.1;have Sn:Hid (ra.length=p):=by show _=_;simpa using xV
    have Gw:Hid (rb.length=q):=by show _=_;simpa using uL
    obtain⟨Sq,Sr,abh,abj,Hta,DF,fW,QP,fO,mN,wT,wU⟩:=gg hsa Cs agd age JJ nz hat hat' dG il ae1 ae2;obtain⟨alz,alA,dQ,HM,bj,gB⟩:=iq jU kq hov hM pb (HT.out.below pb);have Hx:Hid (bH wr b1 o1 [ai l,aj s,ai m,ah e]):=hw1;have Hy:Hid (bH wr b2 o2 [ai l',aj s',ai m',ah e']):=hw2;have af0:=xV;have af2:=uL;simp only[List.length_cons]at af0 af2;clear xV uL hsa Cs hat hat' jU kq hov hM pb dG il ae1 ae2 hw1 hw2 JJ nz agd age af0 af2;have Hb:=hbz wr;have Ua:=Ri.out;have gM:=bj.out.size;obtain⟨gs,Jl⟩:∃g,yr l l'=g:=⟨_,rfl⟩;have Wk:=λW=>ay2 l s m e l' s' m' e' W;have hcs:=ay1 l l';rw[Jl]at Wk hcs;obtain⟨Hsd,AW⟩:=aZ Wk hcs;clear Wk hcs Jl;go_wp2_with fail;obtain⟨x0,x1,x2,x3⟩:=Hx.out.w4;obtain⟨y0,y1,y2,y3⟩:=Hy.out.w4;have HU:Hid (aM wr):=gB.out;refine bV (λw'=>aF w' b1 o1 (ai l)/\aF w' b1 (o1+1) (aj s)/\aF w' b1 (o1+2) (ai m)/\aF w' b1 (o1+3) (ah e)/\aF w' b2 o2 (ai l')/\aF w' b2 (o2+1) (aj s')/\aF w' b2 (o2+2) (ai m')/\aF w' b2 (o2+3) (ah e')) (λi=>Nat.blt i 100000) [(0,true),(1,true),(2,true),(3,true),(4,true),(5,true),(6,true),(7,false),(8,true)] zk zk rfl zk zc ⟨x0,x1,x2,x3,y0,y1,y2,y3⟩ ?_;iterate 7 (refine pT rfl rfl ?_ (by intro w' ⟨q0,q1,q2,q3,q4,q5,q6,q7⟩;go_simp;try with_reducible rfl);try simp only[UU])
    refine aR rfl rfl (λK hK=>?_);go_simp;with_reducible refine(Hsd.out _).mono ?_
    rintro e w2 ⟨rfl,hq⟩;have ag:Bw wr w2:=by first|exact hq|exact bo hq
    replace Hx:=kW Hx ag;replace Hy:=kW Hy ag;replace HU:=kT HU ag;obtain⟨x0,x1,x2,x3⟩:=Hx.out.w4;obtain⟨y0,y1,y2,y3⟩:=Hy.out.w4;replace Hb:=az Hb ag;refine hK _ _ (λ_=>⟨x0,x1,x2,x3,y0,y1,y2,y3⟩) ?_;try simp only[UU]
    refine pT rfl rfl ?_;try simp only[UU]
    simp only[bu];have hcs:=AW.out;have hp1:(1:Int)<=(p:Int)+1:=by omega
    have hq1:(1:Int)<=(q:Int)+1:=by omega
    clear AW Hsd Ua;rcases hcs with⟨rfl,h1⟩ |⟨rfl,h1,h2⟩ |⟨rfl,h1,h2⟩
    . have AK:Hid ((acc++[(l,s,m,e)])++iu ra ((l',s',m',e')::rb)=M):=by
       show _=_
       rw[<-HM.out,yf,if_pos h1];simp
      have AH:Hid ((acc++[(l,s,m,e)]).flatMap aY=acc.flatMap aY++[ai l,aj s,ai m,ah e]):=by
       show _=_
       rw[List.flatMap_append];rfl
      clear h1;go_wp2_with fail;refine bV (λw'=>aF w' b1 o1 (ai l)/\aF w' b1 (o1+1) (aj s)/\aF w' b1 (o1+2) (ai m)/\aF w' b1 (o1+3) (ah e)) (λi=>Nat.blt i 100000) [(0,true),(1,true),(2,true),(3,true),(6,true),(7,true),(4,false),(5,false),(8,true),(9,true)] zk zk rfl zk zc ⟨x0,x1,x2,x3⟩ ?_;iterate 6 (refine pT rfl rfl ?_ (by intro w' ⟨q0,q1,q2,q3⟩;go_simp;try with_reducible rfl);try simp only[UU])
      refine aR rfl rfl (λK hK=>?_);go_simp;refine hK _ _ (λ_=>⟨aV x0,aV x1,aV x2,aV x3⟩) ?_;try simp only[UU]
      refine bZ (λW3=>au W3 (w2.heap.size) 67 [ai l,aj s,ai m,ah e]/\Bw w2 W3) (by first|exact eo|exact eu) ?_;rintro W3 ⟨qc,ag⟩;replace Hx:=kW Hx ag;replace Hy:=kW Hy ag;replace HU:=kT HU ag;have Hc:=ar qc;clear qc;obtain⟨x0,x1,x2,x3⟩:=Hx.out.w4;obtain⟨y0,y1,y2,y3⟩:=Hy.out.w4;obtain⟨c0,c1,c2,c3⟩:=Hc.out.c4;replace Hb:=az Hb ag;refine aR rfl rfl (λK hK=>?_);have eD:=ownsRow_below dQ.out Hb.out;have hs3:=Hb.out.size;refine wp_append_own _ _ _ 22 rfl w.heap.size 67 i0 _ 4 48 Tryz.underlying22 Hi.out dF.out dv.out di.out rfl zd v acc.length (acc.flatMap aY) rfl eD ⟨w2.heap.size,0,none⟩ 1 1 [ai l,aj s,ai m,ah e] rfl rfl (gW Hc.out) zy zx zo zo ?_;intro v' w8 eV bM _;have nb:∀b,b<w.heap.size->some b≠v.ownBlock:=λb hb e=>by have:=dX eD b e.symm;omega
      refine hK _ _ (λ_=>⟨dc bM x0 (nb _ rD),dc bM x1 (nb _ rD),dc bM x2 (nb _ rD),dc bM x3 (nb _ rD)⟩) ?_;try simp only[UU]
      iterate 2 (refine pT rfl rfl ?_;try simp only[UU])
      simp only[bu];have FT:=ar ((aO bj.out Hb.out).grown bM zo (λj e=>dX eD j e));have jb:Hid (w8.ownsRow w.heap.size 67 4 v' (acc++[(l,s,m,e)]).length ((acc++[(l,s,m,e)]).flatMap aY)):=by
       show w8.ownsRow _ _ _ _ _ _
       rw[AH.out,List.length_append];exact eV
      clear nb eD eV bM x0 x1 x2 x3 y0 y1 y2 y3 c0 c1 c2 c3 EY Cz;go_wp2;go_roundw;case rel=>exact⟨ra,((l',s',m',e')::rb),acc++[(l,s,m,e)],p,(q+1),_,_,_,_,v',rfl,rfl,rfl,Sn.out,(by have:=Gw.out;simp;exact this),abh.out,Sr.out,Hta.out,QP.out,wT.out,alA.out,jb.out,by simp;omega,AK.out,FT.out⟩
      case measure=>simp[Al];omega
    ·
     have AK:Hid ((acc++[(l',s',m',e')])++iu ((l,s,m,e)::ra) rb=M):=by
      show _=_
      rw[<-HM.out,yf,if_neg (by rw[h1];decide),if_pos h2];simp
     have AH:Hid ((acc++[(l',s',m',e')]).flatMap aY=acc.flatMap aY++[ai l',aj s',ai m',ah e']):=by
      show _=_
      rw[List.flatMap_append];rfl
     clear h1 h2
     go_wp2_with fail
     refine bV (λw'=>aF w' b2 o2 (ai l')/\aF w' b2 (o2+1) (aj s')/\aF w' b2 (o2+2) (ai m')/\aF w' b2 (o2+3) (ah e')) (λi=>Nat.blt i 100000) [(0,true),(1,true),(2,true),(3,true),(6,true),(7,true),(4,false),(5,false),(8,true),(9,true)] zk zk rfl zk zc ⟨y0,y1,y2,y3⟩ ?_
     iterate 6 (refine pT rfl rfl ?_ (by intro w' ⟨q0,q1,q2,q3⟩;go_simp;try with_reducible rfl);try simp only[UU])
     refine aR rfl rfl (λK hK=>?_)
     go_simp
     refine hK _ _ (λ_=>⟨aV y0,aV y1,aV y2,aV y3⟩) ?_
     try simp only[UU]
     refine bZ (λW3=>au W3 (w2.heap.size) 67 [ai l',aj s',ai m',ah e']/\Bw w2 W3) (by first|exact eo|exact eu) ?_
     rintro W3 ⟨qc,ag⟩
     clear x0 x1 x2 x3
     clear y0 y1 y2 y3
     replace Hx:=kW Hx ag
     replace Hy:=kW Hy ag
     replace HU:=kT HU ag
     have Hc:=ar qc;clear qc
     obtain⟨x0,x1,x2,x3⟩:=Hx.out.w4
     obtain⟨y0,y1,y2,y3⟩:=Hy.out.w4
     obtain⟨c0,c1,c2,c3⟩:=Hc.out.c4
     replace Hb:=az Hb ag
     refine aR rfl rfl (λK hK=>?_)
     have eD:=ownsRow_below dQ.out Hb.out
     have hs3:=Hb.out.size
     refine wp_append_own _ _ _ 22 rfl w.heap.size 67 i0 _ 4 48 Tryz.underlying22 Hi.out dF.out dv.out di.out rfl zd v acc.length (acc.flatMap aY) rfl eD ⟨w2.heap.size,0,none⟩ 1 1 [ai l',aj s',ai m',ah e'] rfl rfl (gW Hc.out) zy zx zo zo ?_
     intro v' w8 eV bM _
     have nb:∀b,b<w.heap.size->some b≠v.ownBlock:=λb hb e=>by have:=dX eD b e.symm;omega
     refine hK _ _ (λ_=>⟨dc bM y0 (nb _ oJ),dc bM y1 (nb _ oJ),dc bM y2 (nb _ oJ),dc bM y3 (nb _ oJ)⟩) ?_
     try simp only[UU]
     iterate 2 (refine pT rfl rfl ?_;try simp only[UU])
     simp only[bu]
     have FT:=ar ((aO bj.out Hb.out).grown bM zo (λj e=>dX eD j e))
     have jb:Hid (w8.ownsRow w.heap.size 67 4 v' (acc++[(l',s',m',e')]).length ((acc++[(l',s',m',e')]).flatMap aY)):=by
      show w8.ownsRow _ _ _ _ _ _
      rw[AH.out,List.length_append];exact eV
     clear nb eD eV bM x0 x1 x2 x3 y0 y1 y2 y3 c0 c1 c2 c3 EY Cz
     go_wp2
     go_roundw
     case rel=>exact⟨((l,s,m,e)::ra),rb,acc++[(l',s',m',e')],(p+1),q,_,_,_,_,v',rfl,rfl,rfl,(by have:=Sn.out;simp;exact this),Gw.out,Sq.out,abj.out,fW.out,DF.out,alz.out,wU.out,jb.out,by simp;omega,AK.out,FT.out⟩
     case measure=>simp[Al];omega
    ·
     obtain⟨S,hS⟩:=aK (aJ (s,m,e)+aJ (s',m',e'))
     have HS:=ar hS
     have AK:Hid ((acc++[(l,canon S)])++iu ra rb=M):=by
      show _=_
      rw[<-HM.out,yf,if_neg (by rw[h1];decide),if_neg (by rw[h2];decide)];simp;rw[<-hS];rfl
     have AH:Hid ((acc++[(l,canon S)]).flatMap aY=acc.flatMap aY++[ai l,aj (aC (dN S)),ai (nt (dN S).natAbs),ah (dE S)]):=by
      show _=_
      rw[List.flatMap_append];rfl
     clear h1 h2 hS
     have Ng:=Rh.out
     go_wp2_with fail
     refine bV (λw'=>aF w' b1 o1 (ai l)/\aF w' b1 (o1+1) (aj s)/\aF w' b1 (o1+2) (ai m)/\aF w' b1 (o1+3) (ah e)/\aF w' b2 o2 (ai l')/\aF w' b2 (o2+1) (aj s')/\aF w' b2 (o2+2) (ai m')/\aF w' b2 (o2+3) (ah e')) (λi=>Nat.blt i 100000) [(0,true),(1,true),(2,true),(3,true),(4,true),(5,true),(6,true),(7,true),(11,true),(12,true),(13,true),(14,true),(8,false),(9,false),(10,false),(15,true),(16,true),(17,true)] zk zk rfl zk zc ⟨x0,x1,x2,x3,y0,y1,y2,y3⟩ ?_
     iterate 12 (refine pT rfl rfl ?_ (by intro w' ⟨q0,q1,q2,q3,q4,q5,q6,q7⟩;go_simp;try with_reducible rfl);try simp only[UU])
     refine aR rfl rfl (λK hK=>?_)
     go_simp
     with_reducible refine(azk l s m e l' s' m' e' S B HS.out _ fO.out mN.out hB (by first|exact HU.out|exact aM.drew HU.out|exact aM.alloc HU.out _|exact aM.drew (aM.alloc HU.out _) |exact aM.alloc (aM.drew HU.out) _)).mono ?_
     rintro e w4 ⟨rfl,hq⟩
     have ag:Bw w2 w4:=by first|exact hq|exact bo hq
     clear x0 x1 x2 x3
     clear y0 y1 y2 y3
     replace Hx:=kW Hx ag
     replace Hy:=kW Hy ag
     replace HU:=kT HU ag
     obtain⟨x0,x1,x2,x3⟩:=Hx.out.w4
     obtain⟨y0,y1,y2,y3⟩:=Hy.out.w4
     replace Hb:=az Hb ag
     refine hK _ _ (λ_=>⟨x0,x1,x2,x3,y0,y1,y2,y3⟩) ?_
     try simp only[UU]
     refine aR rfl rfl (λK hK=>?_)
     go_simp
     refine hK _ _ (λ_=>⟨aV x0,aV x1,aV x2,aV x3,aV y0,aV y1,aV y2,aV y3⟩) ?_
     try simp only[UU]
     refine bZ (λW5=>au W5 (w4.heap.size) 67 [ai l,aj (aC (dN S)),ai (nt (dN S).natAbs),ah (dE S)]/\Bw w4 W5) (by first|exact eo|exact eu) ?_
     rintro W5 ⟨qc,ag⟩
     clear x0 x1 x2 x3
     clear y0 y1 y2 y3
     replace Hx:=kW Hx ag
     replace Hy:=kW Hy ag
     replace HU:=kT HU ag
     have Hc:=ar qc;clear qc
     obtain⟨x0,x1,x2,x3⟩:=Hx.out.w4
     obtain⟨y0,y1,y2,y3⟩:=Hy.out.w4
     obtain⟨c0,c1,c2,c3⟩:=Hc.out.c4
     replace Hb:=az Hb ag
     refine aR rfl rfl (λK hK=>?_)
     have eD:=ownsRow_below dQ.out Hb.out
     have hs3:=Hb.out.size
     refine wp_append_own _ _ _ 22 rfl w.heap.size 67 i0 _ 4 48 Tryz.underlying22 Hi.out dF.out dv.out di.out rfl zd v acc.length (acc.flatMap aY) rfl eD ⟨w4.heap.size,0,none⟩ 1 1 [ai l,aj (aC (dN S)),ai (nt (dN S).natAbs),ah (dE S)] rfl rfl (gW Hc.out) zy zx zo zo ?_
     intro v' w8 eV bM _
     have nb:∀b,b<w.heap.size->some b≠v.ownBlock:=λb hb e=>by have:=dX eD b e.symm;omega
     refine hK _ _ (λ_=>⟨dc bM x0 (nb _ rD),dc bM x1 (nb _ rD),dc bM x2 (nb _ rD),dc bM x3 (nb _ rD),dc bM y0 (nb _ oJ),dc bM y1 (nb _ oJ),dc bM y2 (nb _ oJ),dc bM y3 (nb _ oJ)⟩) ?_
     try simp only[UU]
     iterate 3 (refine pT rfl rfl ?_;try simp only[UU])
     simp only[bu]
     have FT:=ar ((aO bj.out Hb.out).grown bM zo (λj e=>dX eD j e))
     have jb:Hid (w8.ownsRow w.heap.size 67 4 v' (acc++[(l,canon S)]).length ((acc++[(l,canon S)]).flatMap aY)):=by
      show w8.ownsRow _ _ _ _ _ _
      rw[AH.out,List.length_append];exact eV
     clear nb eD eV bM x0 x1 x2 x3 y0 y1 y2 y3 c0 c1 c2 c3 EY Cz
     go_wp2
     go_roundw
     case rel=>exact⟨ra,rb,acc++[(l,canon S)],p,q,_,_,_,_,v',rfl,rfl,rfl,Sn.out,Gw.out,abh.out,abj.out,Hta.out,DF.out,wT.out,wU.out,jb.out,by simp;omega,AK.out,FT.out⟩
     case measure=>simp[Al];omega
  . have hmr:iu ra rb=ra++rb:=by
     have:p=0\/q=0:=by omega
     rcases this with rfl|rfl
     . rw[List.eq_nil_of_length_eq_zero xV,CF];rfl
     . rw[List.eq_nil_of_length_eq_zero uL,CG];simp
    have hML:M.length=acc.length+p+q:=by rw[<-hM,hmr];simp[xV,uL];omega
    have AH:Hid (M.flatMap aY=(acc.flatMap aY++ra.flatMap aY)++rb.flatMap aY):=by
     show _=_
     rw[<-hM,hmr,<-List.append_assoc,List.flatMap_append,List.flatMap_append]
    have hlr:(ra.flatMap aY).length=p*4:=by rw[oU,xV]
    have afx:(rb.flatMap aY).length=q*4:=by rw[oU,uL]
    have lH:=hat.below pb;have aCT:=hlen;obtain⟨LU,al0,LC,fW,dQ,bj,Sq,Sr,HML⟩:=Pf hlr afx lH hat' hov pb hsa Cs hML;clear xV uL hmr hlr afx hat hat' lH hov pb hsa Cs hM jU kq hML;have hsz:=bj.out.size;by_cases h0:0<p
    all_goals
     go_wp2_with (first| (at_builtin;refine vr rfl (.tmp 70) (.tmp 71) 22 rfl w.heap.size 67 i0 _ 4 48 Tryz.underlying22 Hi.out dF.out dv.out di.out rfl zd v acc.length (acc.flatMap aY) rfl dQ.out aa p ca (ra.flatMap aY) rfl Sq.out LU.out LC.out (wF ra) zx zo hsz ?_;intro v1 w2 eH hg1 hb1) | (at_builtin;refine vr rfl (.tmp 72) (.tmp 73) 22 rfl w.heap.size 67 i0 _ 4 48 Tryz.underlying22 Hi.out dF.out dv.out di.out rfl zd v1 (acc.length+p) (acc.flatMap aY++ra.flatMap aY) rfl eH ab q cb (rb.flatMap aY) rfl Sr.out al0.out (fW.out.below (bj.out.grown hg1 hsz (λj e=>dX dQ.out j e))) (wF rb) zx zo (Nat.le_trans hsz hg1.size) ?_;intro v2 w3 eP hg2 hb2))
     go_ret
     refine⟨v2,rfl,?_,(bj.out.grown hg1 hsz (λj e=>dX dQ.out j e)).grown hg2 (Nat.le_trans hsz hg1.size) (λj e=>dX eH j e)⟩
     rw[HML.out,AH.out];exact eP
end Go.Proofs.YtnjfebkelecgaaaGreatDoor
namespace Go.Proofs.YtnjfebkelecgaaaGreatDoor
open Go.RowKit
def azD (ts:List aQ)(i:Nat)(hi:i<ts.length)(t:aQ):(((((ts.flatMap aY).set (i*4) (ai t.1)).set (i*4+1) (aj t.2.1)).set (i*4+2) (ai t.2.2.1)).set (i*4+3) (ah t.2.2.2))=(ts.set i t).flatMap aY:=by
 induction ts generalizing i with
 |nil=>simp at hi
 | cons x ts ih=>
   have e:∀(y:aQ) zs,(y::zs).flatMap aY=ai y.1::aj y.2.1::ai y.2.2.1::ah y.2.2.2::zs.flatMap aY:=λy zs=>rfl;cases i with
   |zero=>rw[e];rfl
   |succ i=>rw[List.set_cons_succ,e,e,<-ih i (by simpa using hi),show(i+1) *4=i*4+1+1+1+1 by omega];rfl
def azC (ts:List aQ)(i:Nat)(hi:i<ts.length)(r:Raw):((((ts.flatMap aY).set (i*4+1) (aj r.1)).set (i*4+2) (ai r.2.1)).set (i*4+3) (ah r.2.2))=(ts.set i (ts[i].1,r)).flatMap aY:=by
 induction ts generalizing i with
 |nil=>simp at hi
 | cons x ts ih=>
   have e:∀(y:aQ) zs,(y::zs).flatMap aY=ai y.1::aj y.2.1::ai y.2.2.1::ah y.2.2.2::zs.flatMap aY:=λy zs=>rfl;cases i with
   |zero=>rw[e];rfl
   |succ i=>rw[List.set_cons_succ,e,e,List.getElem_cons_succ,<-ih i (by simpa using hi),show(i+1) *4=i*4+1+1+1+1 by omega];rfl
def nK {w:World}{base:Nat}{e:TypeId}{size n cap g:Nat}{xs:List Value}(h:w.ownsRow base e size (.slice (some ⟨g,0,none⟩) n cap) n xs)(o:Nat):w.frozen? ⟨g,o,none⟩=false:=by
 rcases h.2 with⟨h1,_⟩ |⟨g',cap',cur,h1,hb,hg,_⟩
 . simp at h1
 . simp only[Value.slice.injEq,Option.some.injEq,Addr.mk.injEq,and_true,true_and]at h1;obtain⟨rfl,rfl⟩:=h1;have h4:au w g e cur.toList:=by unfold au;simpa using hg
   exact h4.free o
def CL {w:World}{base:Nat}{e:TypeId}{size n cap g:Nat}{xs:List Value}(h:w.ownsRow base e size (.slice (some ⟨g,0,none⟩) n cap) n xs):base<=g/\g<w.heap.size:=by
 rcases h.2 with⟨h1,_⟩ |⟨g',cap',cur,h1,hb,hg,_⟩
 . simp at h1
 . simp only[Value.slice.injEq,Option.some.injEq,Addr.mk.injEq,and_true,true_and]at h1;obtain⟨rfl,rfl⟩:=h1;exact⟨hb,(Array.getElem?_eq_some_iff.1 hg).1⟩
def PL {w:World}{base n cap g:Nat}{e:TypeId}{ts:List aQ}(h:w.ownsRow base e 4 (.slice (some ⟨g,0,none⟩) n cap) n (ts.flatMap aY))(k:Nat)(hk:k<ts.length){l:List UInt8}{s:Bool}{m:List UInt8}{ex:Int}(hx:ts[k]=(l,s,m,ex)):
 bH w g (k*4) [ai l,aj s,ai m,ah ex]:=by
 obtain⟨a,c,hv,hat,_⟩:=dS h;simp only[Value.slice.injEq,true_and]at hv;obtain⟨rfl,rfl⟩:=hv;obtain⟨b,o,hab,hw⟩:=hat.term k hk hx;simp only[Option.some.injEq,Addr.mk.injEq,and_true]at hab;obtain⟨rfl,rfl⟩:=hab;rwa [Nat.zero_add]at hw
def awz {w:World}{base n cap g:Nat}{e:TypeId}{ts:List aQ}(h:w.ownsRow base e 4 (.slice (some ⟨g,0,none⟩) n cap) n (ts.flatMap aY))(i:Nat)(hi:i<ts.length)(l:List UInt8)(s:Bool)(m:List UInt8)(ex:Int):
 ((((w.setCell ⟨g,i*4,none⟩ (ai l)).setCell ⟨g,i*4+1,none⟩ (aj s)).setCell ⟨g,i*4+2,none⟩ (ai m)).setCell ⟨g,i*4+3,none⟩ (ah ex)).ownsRow base e 4 (.slice (some ⟨g,0,none⟩) n cap) n ((ts.set i (l,s,m,ex)).flatMap aY):=by
 rw[<-azD ts i hi (l,s,m,ex)];exact kX (kX (kX (kX h _ _) _ _) _ _) _ _
def ahO {w:World}{base n cap g:Nat}{e:TypeId}{ts:List aQ}(h:w.ownsRow base e 4 (.slice (some ⟨g,0,none⟩) n cap) n (ts.flatMap aY))(i:Nat)(hi:i<ts.length)(s:Bool)(m:List UInt8)(ex:Int):
 (((w.setCell ⟨g,i*4+1,none⟩ (aj s)).setCell ⟨g,i*4+2,none⟩ (ai m)).setCell ⟨g,i*4+3,none⟩ (ah ex)).ownsRow base e 4 (.slice (some ⟨g,0,none⟩) n cap) n ((ts.set i (ts[i].1,s,m,ex)).flatMap aY):=by
 rw[<-azC ts i hi (s,m,ex)];exact kX (kX (kX h _ _) _ _) _ _
def NA {w w':World}(r:Option Nat)(h:Bw w w'):w.grownBy w' r:=⟨h.os,h.tape,h.output,h.size,λk hk _=>h.block k hk⟩
def NB {w w':World}{g:Nat}(h:w.grownBy w' (some g))(a:Nat)(v:Value):w.grownBy (w'.setCell ⟨g,a,none⟩ v) (some g):=grownBy_trans h (grownBy_set g rfl v)
def ape {n:Nat}{w w':World}{r:Option Nat}(h:w.grownBy w' r)(hn:n<=w.heap.size)(hr:∀g,r=some g->n<=g):Below n w w':=((Below.refl _ _).mono hn).grown h hn hr
def ahv {B:Nat}(a b:List aQ)(ha:∀t∈a,Fit B t.2)(hb:∀t∈b,Fit B t.2)(hB:B+1<=268435456):∀t∈iu a b,Fit (B+1) t.2:=by
 obtain⟨n,hn⟩:=aK (a.length+b.length);induction n using Nat.strongRecOn generalizing a b with
 | _ n ih=>
   cases a with
   |nil=>rw[CF];exact λt ht=>(hb t ht).mono zo
   | cons x a=>cases b with
     |nil=>rw[CG];exact λt ht=>(ha t ht).mono zo
     | cons y b=>
       rw[yf];simp only[List.length_cons]at hn;have ha2:∀t∈a,Fit B t.2:=λt ht=>ha t (by simp[ht]);have hb2:∀t∈b,Fit B t.2:=λt ht=>hb t (by simp[ht]);split
       . intro t ht;rcases List.mem_cons.1 ht with rfl|ht
         . exact(ha _ zm).mono zo
         . exact ih _ (by simp only[List.length_cons];omega) a (y::b) ha2 hb rfl t ht
       . split
         . intro t ht;rcases List.mem_cons.1 ht with rfl|ht
           . exact(hb _ zm).mono zo
           . exact ih _ (by simp only[List.length_cons];omega) (x::a) b ha hb2 rfl t ht
         . intro t ht;rcases List.mem_cons.1 ht with rfl|ht
           . exact((ha x zm).2.add (hb y zm).2).fit hB
           . exact ih _ zo a b ha2 hb2 rfl t ht
def Yn {B:Nat}(l:List aQ)(h:∀t∈l,Fit B t.2)(hB:B+l.length<=268435456):∀t∈iy l,Fit (B+l.length) t.2:=by
 obtain⟨n,hn⟩:=aK l.length;induction n using Nat.strongRecOn generalizing l with
 | _ n ih=>
   by_cases h2:l.length<2
   . rw[PY l h2];exact λt ht=>(h t ht).mono zo
   . rw[Yo l zo];have l1:(l.take (l.length/2)).length=l.length/2:=by rw[List.length_take];omega
     have l2:(l.drop (l.length/2)).length=l.length-l.length/2:=List.length_drop;have h3:=ih _ (by rw[<-hn,l1];omega) (l.take (l.length/2)) (λt ht=>h t (List.mem_of_mem_take ht)) (by rw[l1];omega) rfl;have h4:=ih _ (by rw[<-hn,l2];omega) (l.drop (l.length/2)) (λt ht=>h t (List.mem_of_mem_drop ht)) (by rw[l2];omega) rfl;have:=ahv (B:=B+(l.length-1)) _ _ (λt ht=>(h3 t ht).mono (by rw[l1];omega)) (λt ht=>(h4 t ht).mono (by rw[l2];omega)) zo;rwa [show B+(l.length-1)+1=B+l.length by omega]at this
end Go.Proofs.YtnjfebkelecgaaaGreatDoor
namespace Go.Proofs.YtnjfebkelecgaaaGreatDoor
open Go.RowKit
attribute [local go_sem ↓] Go.wp_at_zero Go.wp_at_succ
def ars {α:Type}(p:α->Bool)(l:List α)(i:Nat)(hi:i<=l.length)(h:∀j (hj:j<i),p (l[j]'zo)=false):(l.take i).filter (λx=>!p x)=l.take i:=by
 rw[List.filter_eq_self];intro x hx;obtain⟨j,hj,rfl⟩:=List.mem_iff_getElem.1 hx;rw[List.getElem_take];have fZ:j<i:=by rw[List.length_take]at hj;omega
 simp[h j fZ]
def take_set {α:Type}(l:List α)(a:Nat)(x:α)(h:a<l.length):(l.set a x).take (a+1)=l.take a++[x]:=by rw[List.take_succ_eq_append_getElem (by simpa using h),List.getElem_set_self,List.take_set_of_le (Nat.le_refl _)]
def TX {α:Type}(l:List α)(a b:Nat)(x:α)(h:a<b):(l.set a x).drop b=l.drop b:=by rw[List.drop_set];rw[if_pos h]
def Tryz.aGb (w:World):(zeroValue 67).run Tryz.prog w=.ok (.agg #[.string ⟨#[]⟩,aj false,.string ⟨#[]⟩,ah 0]) w:=by kernel_rfl
def ac4 (ts:List aQ)(k:Nat)(hk:k<=ts.length):(ts.flatMap aY).take (k*4)=(ts.take k).flatMap aY:=by
 have e:ts=ts.take k++ts.drop k:=(List.take_append_drop _ _).symm;conv=>lhs;rw[e]
 rw[List.flatMap_append,List.take_left' (by rw[oU,List.length_take,Nat.min_eq_left hk])]
def aqC (a:Option Addr)(n cap:Nat)(ts:List aQ)(gf:Nat)(p:aQ->Bool)(w:World)(hn:ts.length=n)(hl:n<=65536)(ha:At w a (ts.flatMap aY))
 (eg:∀args w,(callFunc gf args).run Tryz.prog w=.ok (.enter gf args) w) (h2:∀x∈ts,p x=false)
 (hcl:∀x∈ts,∀W,Cl gf #[.agg #[ai x.1,aj x.2.1,ai x.2.2.1,ah x.2.2.2]] W λe w'=>e=.returned (aj (p x))/\Bw W w'):
 Cv 97 #[.slice a n cap,.func (.func gf) #[] #[]] w (.slice a n cap):=by
 have bD:=WL a n cap ts gf #[] p w hn zo ha eg (λx hx W _=>by simpa using hcl x hx W);rcases agF p ts 0 with⟨h1,_⟩ |⟨i,hi,_,h3,_⟩
 . rw[h1]at bD;have Gd:=ar bD;clear bD h1 h2 hn hcl eg ha;have Hb:=hbz w;go_enter Tryz.func97,Tryz.ntmps97;go_wp2_with fail;refine(Gd.out).mono ?_;rintro e w1 ⟨rfl,ag⟩;replace Hb:=az Hb ag;go_wp2;go_ret;exact⟨rfl,Hb.out⟩
 . rw[h2 _ (List.getElem_mem hi)]at h3;cases h3
def aqB (g n cap base:Nat)(ts:List aQ)(gf:Nat)(p:aQ->Bool)(w:World)(hn:ts.length=n)(hl:n<=65536)(hn0:0<n)(ho:w.ownsRow base 67 4 (.slice (some ⟨g,0,none⟩) n cap) n (ts.flatMap aY))
 (eg:∀args w,(callFunc gf args).run Tryz.prog w=.ok (.enter gf args) w)
 (hcl:∀x∈ts,∀W,Cl gf #[.agg #[ai x.1,aj x.2.1,ai x.2.2.1,ah x.2.2.2]] W λe w'=>e=.returned (aj (p x))/\Bw W w'):
 Cl 97 #[.slice (some ⟨g,0,none⟩) n cap,.func (.func gf) #[] #[]] w λe w'=>∃k,k=(ts.filter λx=>!p x).length/\e=.returned (.slice (some ⟨g,0,none⟩) k cap)/\
  w'.ownsRow base 67 4 (.slice (some ⟨g,0,none⟩) k cap) k ((ts.filter λx=>!p x).flatMap aY)/\w.grownBy w' (some g):=by
 have hat:At w (some ⟨g,0,none⟩) (ts.flatMap aY):=by obtain⟨a,c,hv,hat,_⟩:=dS ho;simp only[Value.slice.injEq,true_and]at hv;rw[hv.1];exact hat
 have hcap:=(yl ho).1;have bD:=WL (some ⟨g,0,none⟩) n cap ts gf #[] p w hn zo hat eg (λx hx W _=>by simpa using hcl x hx W);have hcm:cap<=9223372036854775807:=by
  rcases ho.2 with⟨h1,_⟩ |⟨g',cap',cur,h1,hb,hg,h4,h5,_⟩
  . simp at h1
  . simp only[Value.slice.injEq]at h1;obtain⟨_,_,rfl⟩:=h1;unfold maxLen at h5;omega
 obtain⟨Ho,gP,Hn,tW,fW⟩:=fU ho hcl hn eg hat;clear ho hcl hn eg hat;rcases agF p ts 0 with⟨h1,h2⟩ |⟨i,hi,h1,h2,h3⟩
 . rw[h1]at bD;have hK:(ts.filter λx=>!p x)=ts:=List.filter_eq_self.2 (λx hx=>by simp[h2 x hx]);rw[hK,Hn.out];have Gd:=ar bD;clear bD h1 h2 hK;have Hb:=hbz w;go_enter Tryz.func97,Tryz.ntmps97;go_wp2_with fail;refine(Gd.out).mono ?_;rintro e w1 ⟨rfl,ag⟩;replace Hb:=az Hb ag;go_wp2;go_ret;exact⟨n,rfl,rfl,ownsRow_below Ho.out Hb.out,NA _ Hb.out⟩
 . rw[h1,Nat.zero_add]at bD;have hin:i<n:=by rw[<-Hn.out];exact hi
   obtain⟨K,hK⟩:=aK (ts.filter λx=>!p x);rw[hK];have hst:(ts.take (i+1)).filter (λx=>!p x)=ts.take i:=by rw[List.take_succ_eq_append_getElem hi,List.filter_append,ars p ts i zo h3];simp[h2]
   have oD:((i:Int)== -1)=false:=by simp
   obtain⟨Gd,HK,cn⟩:=cX bD hK hst;clear bD h1 h2 h3 hK hst;have Hb:=hbz w;go_enter Tryz.func97,Tryz.ntmps97;go_wp2_with fail;refine(Gd.out).mono ?_;rintro e w1 ⟨rfl,ag⟩;replace Hb:=az Hb ag;go_wp2_with fail;go_loopw[5,6] (λs5 s6 wr=>∃(x y:Nat) (C:List aQ),s5=ah (x:Int)/\s6=ah (y:Int)/\x<y/\y<=n/\C.length=n/\C.take x=(ts.take y).filter (λx=>!p x)/\C.drop y=ts.drop y/\wr.ownsRow base 67 4 (.slice (some ⟨g,0,none⟩) n cap) n (C.flatMap aY)/\w.grownBy wr (some g)) (λ_ s6 _=>n-(intOf s6).toNat);case atStart=>exact⟨i,i+1,ts,rfl,by go_num,by omega,by omega,Hn.out,cn.out.symm,rfl,ownsRow_below Ho.out Hb.out,NA _ Hb.out⟩
   case round=>
    clear Hb oD;obtain⟨x,y,C,rfl,rfl,hxy,JV,hC,htk,hdr,hov,hg⟩:=hrel;by_cases hlt:y<n
    . have WG:y<ts.length:=by rw[Hn.out];exact hlt
      have hyC:y<C.length:=by omega
      have hel:C[y]=ts[y]:=by
       have e1:C[y]?=ts[y]?:=by rw[<-Nat.add_zero y,<-List.getElem?_drop,<-List.getElem?_drop,hdr]
       rw[List.getElem?_eq_getElem hyC,List.getElem?_eq_getElem WG]at e1;exact Option.some.inj e1
      obtain⟨l,s,m,e,hx⟩:∃l s m e,ts[y]=(l,s,m,e):=⟨_,_,_,_,rfl⟩;have hw:=PL hov y hyC (hel.trans hx);have hcl:=gP.out _ (List.getElem_mem WG);rw[hx]at hcl;have hnx:(ts.take (y+1)).filter (λx=>!p x)=(ts.take y).filter (λx=>!p x)++if p (l,s,m,e)then[]else[(l,s,m,e)]:=by rw[List.take_succ_eq_append_getElem WG,List.filter_append,hx];by_cases hp:p (l,s,m,e)=true<;>simp[hp]
      have hd2:C.drop (y+1)=ts.drop (y+1):=by rw[<-List.drop_drop,<-List.drop_drop,hdr]
      have bD:=gJ n cap y (y:Int) (rfl:(some ⟨g,0,none⟩:Option Addr)=_) hlt rfl;rw[Nat.zero_add]at bD;obtain⟨hgb,Jl⟩:=CL hov;obtain⟨dQ,Hg,Htk,Dk,AY,HC,LJ⟩:=mE hov hg htk hd2 hnx hC hcl;have Hz:Hid (bH wr g (y*4) [ai l,aj s,ai m,ah e]):=hw;clear hov hg htk hd2 hnx hC hcl hw hdr hel hx;have Hb:=hbz wr;obtain⟨z0,z1,z2,z3⟩:=Hz.out.w4;have P0:=z0;have P1:=z1;have P2:=z2;have P3:=z3;have Ng:=tW.out;obtain⟨W4,ov,ag,Hv⟩:=cE wr 67 [ai l,aj s,ai m,ah e];replace Hz:=kW Hz ag;obtain⟨z0,z1,z2,z3⟩:=Hz.out.w4;obtain⟨v0,v1,v2,v3⟩:=Hv.out.c4;replace Hb:=az Hb ag;obtain⟨t,ht⟩:=aK (p (l,s,m,e));rw[ht]at LJ AY;clear ht;go_wp2_with fail;refine(LJ.out _).mono ?_;rintro e w5 ⟨rfl,ag⟩;replace Hz:=kW Hz ag;obtain⟨Hv,v0,v1,v2,v3⟩:=dZ Hv ag;obtain⟨z0,z1,z2,z3⟩:=Hz.out.w4;replace Hb:=az Hb ag;have jB:=ownsRow_below dQ.out Hb.out;have Oq:=grownBy_trans Hg.out (NA _ Hb.out);clear Ng;cases t with
      | true=>
        obtain⟨AZ,Ro⟩:=aZ jB Oq;clear jB Oq;go_wp2;go_roundw;case rel=>exact⟨x,y+1,C,rfl,by go_num,by omega,by omega,HC.out,by rw[AY.out,Htk.out];simp,Dk.out,AZ.out,Ro.out⟩
        case measure=>exact bI
      | false=>
        have WA:x<C.length:=by have:=HC.out;omega
        obtain⟨lx,sx,mx,ex,nC⟩:∃l s m e,C[x]=(l,s,m,e):=⟨_,_,_,_,rfl⟩;obtain⟨u0,u1,u2,u3⟩:=(PL jB x WA nC).w4;have gw:=nK jB (x*4);have fR:=nK jB (x*4+1);have iU:=nK jB (x*4+2);have fz3:=nK jB (x*4+3);have zY:=gJ n cap x (x:Int) (rfl:(some ⟨g,0,none⟩:Option Addr)=_) zo rfl;rw[Nat.zero_add]at zY;obtain⟨AZ,Ro,HxC⟩:=cX jB Oq WA;clear jB Oq nC WA;go_wp2;refine⟨⟨x+1,y+1,C.set x (l,s,m,e),by go_num,by go_num,by omega,by omega,by rw[List.length_set];exact HC.out,?_,?_,awz AZ.out x HxC.out l s m e,?_⟩,by simp[intOf];omega⟩
        . rw[take_set _ _ _ HxC.out,Htk.out,AY.out];simp
        . rw[TX _ _ _ _ zo];exact Dk.out
        . exact NB (NB (NB (NB Ro.out _ _) _ _) _ _) _ _
    . obtain rfl:y=n:=by omega
      have hK:C.take x=K:=by rw[htk,<-HK.out,List.take_of_length_le (by rw[Hn.out];exact Nat.le_refl _)]
      have NK:K.length=x:=by rw[<-hK,List.length_take,hC];omega
      have EK:=XA hov x zo;rw[ac4 C x zo,hK]at EK;obtain⟨w6,aCE,Jy,hg6⟩:=aik wr 22 67 _ 4 Tryz.underlying22 Tryz.aGb rfl (by intro v hv;simp[Value.cells]at hv;rcases hv with rfl|rfl|rfl|rfl<;>rfl) g x (y-x) cap (cap-x) base (K.flatMap aY) EK zo;have mB:¬cap=x:=by omega
      obtain⟨Ho6,xb,HKl⟩:=cX Jy (grownBy_trans hg hg6) NK;clear htk hdr hC hK NK EK hov hg Jy hg6;go_wp2;go_ret;exact⟨x,HKl.out.symm,rfl,Ho6.out,xb.out⟩
def At.first {w:World}{a:Option Addr}{xs:List Value}(h:At w a xs)(k:Nat):At w a (xs.take k):=by
 rcases h with rfl|⟨b,o,rfl,hc⟩
 . exact .inl zm
 . refine .inr ⟨b,o,rfl,λj hj=>?_⟩;rw[List.length_take]at hj;rw[hc j zo,List.getElem?_take_of_lt zo]
def Tc (w:World)(a:Option Addr)(n cap:Nat)(ts:List aQ)(e:Ending)(w':World):Prop:=
 ∃v',e=.returned v'/\((n<2/\v'=.slice a n cap)\/(2<=n/\w'.ownsRow w.heap.size 67 4 v' (iy ts).length ((iy ts).flatMap aY)))/\Bw w w'
def Tc.at {w:World}{a:Option Addr}{n cap:Nat}{ts:List aQ}{e:Ending}{w':World}(h:Tc w a n cap ts e w')(hn:ts.length=n)(hs:Sl a n cap)(ha:At w a (ts.flatMap aY)):
 ∃a' c',e=.returned (.slice a' (iy ts).length c')/\At w' a' ((iy ts).flatMap aY)/\Sl a' (iy ts).length c'/\Bw w w':=by
 obtain⟨v',rfl,h1,hb⟩:=h;rcases h1 with⟨h2,rfl⟩ |⟨h2,ho⟩
 . rw[PY ts zo,hn];exact⟨a,cap,rfl,ha.below hb,hs,hb⟩
 . obtain⟨a',c',rfl,hat,_⟩:=dS ho;exact⟨a',c',rfl,hat,yl ho,hb⟩
def ay8 (n:Nat):∀(a:Option Addr) (cap:Nat) (ts:List aQ) (B:Nat) (w:World),ts.length=n->Sl a n cap->n<=65536->At w a (ts.flatMap aY)->(∀t∈ts,Fit B t.2)->B+n+2<=268435456->aM w->
 Cl 98 #[.slice a n cap,.func (.func 55) #[] #[],.func (.func 56) #[] #[]] w (Tc w a n cap ts):=by
 induction n using Nat.strongRecOn with
 | _ n ih=>
   intro a cap ts B w hn hs hl ha hf hB hT;by_cases h2:n<2
   . have h2i:(n:Int)<2:=by omega
     clear ih hn hs ha hf hT;have Hb:=hbz w;go_enter Tryz.func98,Tryz.ntmps98;go_wp2;go_ret;exact⟨_,rfl,.inl ⟨h2,rfl⟩,Hb.out⟩
   . obtain⟨k,hk⟩:=aK (n/2);have hk1:1<=k:=by omega
     have hk2:k<n:=by omega
     have Cc:(n:Int)/2=(k:Int):=by omega
     have l1:(ts.take k).length=k:=by rw[List.length_take];omega
     have l2:(ts.drop k).length=n-k:=by rw[List.length_drop];omega
     have hcn:=hs.1;have s1:Sl a k cap:=⟨by omega,hs.2⟩;have s2:Sl (if cap=k then a else a.map (·.add (k*4))) (n-k) (cap-k):=hs.cut zo;have a1:=ha.first (k*4);rw[ac4 ts k zo]at a1;have a2:=ha.cut (k:=k) (size:=4) (by rw[oU,hn]) zo hcn;have ed:(ts.flatMap aY).drop (k*4)=(ts.drop k).flatMap aY:=by
      have e:ts=ts.take k++ts.drop k:=(List.take_append_drop _ _).symm;conv=>lhs;rw[e]
      rw[List.flatMap_append,List.drop_left' (by rw[oU,l1])]
     rw[ed]at a2;obtain⟨a',ha'⟩:=aK (if cap=k then a else a.map (·.add (k*4)));rw[ha']at s2 a2;have f1:∀t∈ts.take k,Fit B t.2:=λt ht=>hf t (List.mem_of_mem_take ht);have f2:∀t∈ts.drop k,Fit B t.2:=λt ht=>hf t (List.mem_of_mem_drop ht);have c1:=λW (hW:Bw w W) (IP:aM W)=>(ih k hk2 a cap (ts.take k) B W l1 s1 zo (a1.below hW) f1 zo IP).mono (λe w' h=>h.at l1 s1 (a1.below hW));have c2:=λW (hW:Bw w W) (IP:aM W)=>(ih (n-k) zo a' (cap-k) (ts.drop k) B W l2 s2 zo (a2.below hW) f2 zo IP).mono (λe w' h=>by obtain⟨x1,x2,x3,x4,x5,x6⟩:=h.at l2 s2 (a2.below hW);exact(⟨x1,x2,x3,x4,x5,Nat.le_trans hW.size x6.size,x6,x6⟩:∃a1 c1,e=.returned (.slice a1 (iy (ts.drop k)).length c1)/\At w' a1 ((iy (ts.drop k)).flatMap aY)/\Sl a1 (iy (ts.drop k)).length c1/\w.heap.size<=w'.heap.size/\Bw W w'/\Bw W w'));have g1:=Yn (B:=B) (ts.take k) f1 zo;have g2:=Yn (B:=B) (ts.drop k) f2 zo;have e1:=PX (ts.take k);have e2:=PX (ts.drop k);have hst:iy ts=iu (iy (ts.take k)) (iy (ts.drop k)):=by rw[Yo ts zo,hn,hk]
     obtain⟨L,hL⟩:=aK (iy (ts.take k));obtain⟨R,hR⟩:=aK (iy (ts.drop k));rw[hL]at c1 g1 e1 hst;rw[hR]at c2 g2 e2 hst;have h2i:¬(n:Int)<2:=by omega
     have h2n:2<=n:=by omega
     obtain⟨C1,C2,G1,G2,cn,HT⟩:=iq c1 c2 (λt ht=>(g1 t ht).mono (show B+(ts.take k).length<=B+n by omega)) (λt ht=>(g2 t ht).mono (show B+(ts.drop k).length<=B+n by omega)) hst hT;have LU:Hid (L.length<=65536/\R.length<=65536):=⟨by omega,by omega⟩;have Gz:=ha';clear ih hn hs ha hf hT a1 a2 s1 s2 f1 f2 c1 c2 g1 g2 e1 e2 hst ed l1 l2 hL hR hk ha';have Hb:=hbz w;go_enter Tryz.func98,Tryz.ntmps98;go_wp2_with fail;have hkn:k<=n:=by omega
     have hkc:k<=cap:=by omega
     refine bV (λw'=>True) (λi=>Nat.blt i 100000) [(0,true),(1,true),(2,true),(3,true),(4,true),(6,true),(7,true),(8,true),(9,true),(10,true),(12,true),(13,true),(5,false),(11,false),(14,false),(15,true)] zk zk rfl zk zc True.intro ?_;iterate 12 (refine pT rfl rfl ?_;try simp only[UU])
     refine aR rfl rfl (λK hK=>?_);go_simp;with_reducible refine(C1.out _ (by first|exact Hb.out|exact Hb.out.drew) (by first|exact(HT.out.below Hb.out) |exact aM.drew (HT.out.below Hb.out) |exact aM.alloc (HT.out.below Hb.out) _|exact aM.drew (aM.alloc (HT.out.below Hb.out) _) |exact aM.alloc (aM.drew (HT.out.below Hb.out)) _)).mono ?_
     rintro e w1 ⟨b1,d1,rfl,lH,hs1,hq⟩;have ag:Bw w w1:=by first|exact hq|exact bo hq
     replace Hb:=az Hb ag;refine hK _ _ (λ_=>True.intro) ?_;try simp only[UU]
     refine aR rfl rfl (λK hK=>?_);go_simp;with_reducible refine(C2.out _ (by first|exact Hb.out|exact Hb.out.drew) (by first|exact(HT.out.below Hb.out) |exact aM.drew (HT.out.below Hb.out) |exact aM.alloc (HT.out.below Hb.out) _|exact aM.drew (aM.alloc (HT.out.below Hb.out) _) |exact aM.alloc (aM.drew (HT.out.below Hb.out)) _)).mono ?_
     rintro e w2 ⟨b2,d2,rfl,jR,hs2,aty,zR,hq⟩;have ag:Bw w1 w2:=by first|exact hq|exact bo hq
     replace Hb:=az Hb ag;refine hK _ _ (λ_=>True.intro) ?_;try simp only[UU]
     refine aR rfl rfl (λK hK=>?_);go_simp;with_reducible refine(ahn b1 L.length d1 L b2 R.length d2 R (B+n) _ rfl rfl hs1 hs2 LU.out.1 LU.out.2 (by first|exact lH.below zR|exact(lH.below zR).drew) (by first|exact jR|exact jR.drew) G1.out G2.out zo (by first|exact(HT.out.below Hb.out) |exact aM.drew (HT.out.below Hb.out) |exact aM.alloc (HT.out.below Hb.out) _|exact aM.drew (aM.alloc (HT.out.below Hb.out) _) |exact aM.alloc (aM.drew (HT.out.below Hb.out)) _)).mono ?_
     rintro e w3 ⟨v',rfl,ho,hq⟩;have ag:Bw w2 w3:=by first|exact hq|exact bo hq
     replace Hb:=az Hb ag;refine hK _ _ (λ_=>True.intro) ?_;try simp only[UU]
     refine pT rfl rfl ?_;try simp only[UU]
     simp only[bu];go_wp2;go_ret;exact⟨v',rfl,.inr ⟨h2n,by rw[cn.out];exact tu ho aty⟩,Hb.out⟩
def DT (x:aQ):aQ:=(x.1,canon (aJ x.2))
def ahl (f:aQ->aQ)(K C:List aQ)(k:Nat)(hk:k<C.length)(hl:C.length=K.length)(ht:C.take k=(K.map f).take k)(hx:C[k]=K[k]'zo):(C.set k (f C[k])).take (k+1)=(K.map f).take (k+1):=by rw[take_set _ _ _ hk,ht,List.take_succ_eq_append_getElem zi,List.getElem_map,hx]
def acJ {K C:List aQ}{k:Nat}(hd:C.drop k=K.drop k)(h1:k<C.length)(h2:k<K.length):C[k]=K[k]:=by
 have e1:C[k]?=K[k]?:=by rw[<-Nat.add_zero k,<-List.getElem?_drop,<-List.getElem?_drop,hd]
 rw[List.getElem?_eq_getElem h1,List.getElem?_eq_getElem h2]at e1;exact Option.some.inj e1
def apW (V:Int)(v:Value)(n:Nat)(ts:List aQ)(B:Nat)(w0 w:World)(hb0:Bw w0 w)(hn:ts.length=n)(hl:n<=4096)(ho:w.ownsRow w0.heap.size 67 4 v n (ts.flatMap aY))(hf:∀t∈ts,Fit B t.2)(hB:B+n+2<=268435456)(hT:aM w0):
 Cl 57 #[ah V,v] w λe w'=>∃v',e=.returned (.tuple #[.agg #[ah V,v'],ah 0])/\w'.ownsRow w0.heap.size 67 4 v' (bP ts).length ((bP ts).flatMap aY)/\Bw w0 w':=by
 obtain⟨a,cap,rfl,hat,_⟩:=dS ho;have hs:=yl ho;have Ot:=Yn ts hf zo;have hsl:=PX ts;have eg:∀args w,(callFunc 99 args).run Tryz.prog w=.ok (.enter 99 args) w:=enters_of Tryz.func99 zk rfl;obtain⟨S,hS⟩:=aK (iy ts);have c1:∀W,Bw w W->Cl 98 #[.slice a n cap,.func (.func 55) #[] #[],.func (.func 56) #[] #[]] W λe w'=>∃v1,e=.returned v1/\w'.ownsRow w0.heap.size 67 4 v1 S.length (S.flatMap aY)/\Bw W w':=by
  intro W hW;refine(ay8 n a cap ts B W hn hs zo (hat.below hW) hf hB (hT.below (aO hb0 hW))).mono ?_;rintro e w' ⟨v1,rfl,h1,hb⟩;refine⟨v1,rfl,?_,hb⟩;rcases h1 with⟨h2,rfl⟩ |⟨h2,eH⟩
  . rw[<-hS,PY ts zo,hn];exact ownsRow_below ho (aO hW hb)
  . rw[<-hS];exact tu eH (by have:=hW.size;have:=hb0.size;omega)
 obtain⟨K,hK⟩:=aK (S.filter iw);have NK:K.length<=4096:=by have:=List.length_filter_le iw S;rw[hK]at this;rw[hS]at hsl;omega
 rw[hS]at Ot hsl;have c2:∀W v1,Bw w0 W->W.ownsRow w0.heap.size 67 4 v1 S.length (S.flatMap aY)->Cl 97 #[v1,.func (.func 99) #[] #[]] W λe w'=>∃v2,e=.returned v2/\w'.ownsRow w0.heap.size 67 4 v2 K.length (K.flatMap aY)/\W.grownBy w' v1.ownBlock:=by
  intro W v1 hW eH;have hcl:∀x∈S,∀W,Cv 99 #[.agg #[ai x.1,aj x.2.1,ai x.2.2.1,ah x.2.2.2]] W (aj (!iw x)):=λx hx W=>apV x.1 x.2.1 x.2.2.1 x.2.2.2 W (Ot x hx).1;by_cases h0:0<S.length
  . obtain⟨g,c,rfl,_,_,_⟩:=wy eH h0;refine(aqB g S.length c w0.heap.size S _ (λx=>!iw x) W rfl zo h0 eH eg hcl).mono ?_;rintro e w' ⟨k,hk,rfl,eP,hg2⟩;simp only[Bool.not_not]at hk eP;rw[hK]at hk eP;subst hk;exact⟨_,rfl,eP,hg2⟩
  . have sQ:S=[]:=List.eq_nil_of_length_eq_zero zo;obtain⟨a1,c,rfl,lH,_⟩:=dS eH;refine(aqC a1 S.length c S _ (λx=>!iw x) W rfl zo lH eg (λx hx=>by rw[sQ]at hx;cases hx) hcl).mono ?_;rintro e w' ⟨rfl,hb⟩;have xD:K=S:=by rw[<-hK,sQ];rfl
    rw[xD];exact⟨_,rfl,ownsRow_below eH hb,NA _ hb⟩
 have hKf:∀t∈K,Fit (B+ts.length) t.2:=λt ht=>by rw[<-hK]at ht;exact Ot t (List.mem_filter.1 ht).1
 have hcl:bP ts=K.map DT:=by unfold bP;rw[hS,hK];rfl
 rw[hcl,List.length_map];have hz:=hb0.size;obtain⟨m,hm⟩:=aK K.length;rw[hm]at NK c2⊢;obtain⟨Hm,C1,C2,HKf,Hw0,HT⟩:=iq hm c1 c2 hKf hb0 hT;clear c1 c2 hm hKf hcl hb0 hT Ot hS hK ho hat hs hf eg hsl;have Hb:=hbz w;go_enter Tryz.func57,Tryz.ntmps57;go_wp2_with fail;have q:=fK w 24 [ah 0,.slice none 0 0];first|refine cd _ q ?_|refine cw _ q ?_
 clear q;rintro W ⟨Hr,ag⟩;obtain⟨r0,aH,r1,aI⟩:=Hr.out.g2;replace Hb:=az Hb ag;go_wp2_with fail;refine(C1.out _ Hb.out).mono ?_;rintro e w1 ⟨v1,rfl,eH,ag⟩;obtain⟨Hr,r0,aH,r1,aI⟩:=bA Hr ag;replace Hb:=az Hb ag;have hw1:=aO Hw0.out Hb.out;go_wp2_with fail;refine(C2.out _ v1 hw1 eH).mono ?_;rintro e w2 ⟨v2,rfl,eP,hg2⟩;have hr2:=Hr.out.row zd eH hg2;have hw2:=ape (hg2) (Nat.le_trans hz Hb.out.size) (λg e=>dX eH g e);obtain⟨Hw2,vz⟩:=aZ (hw1.trans hw2) eP;replace Hr:=ar hr2;clear C1 C2 eH hg2 hw1 hw2 hr2 eP r0 aH r1 aI Hb;have hKi:¬(4096:Int)<(m:Int):=by omega
 obtain⟨a2,cap2,rfl,_,_⟩:=dS vz.out;go_wp2_with fail;go_loopw[16] (λx wr=>∃(k:Nat) (C:List aQ),k<=m/\x=ah (k:Int)/\C.length=m/\C.take k=(K.map DT).take k/\C.drop k=K.drop k/\wr.ownsRow w0.heap.size 67 4 (.slice a2 m cap2) m (C.flatMap aY)/\au wr w.heap.size 24 [ah 0,.slice none 0 0]/\Bw w0 wr) (λx _=>m-(intOf x).toNat);case atStart=>exact⟨0,K,Nat.zero_le _,rfl,Hm.out,rfl,rfl,vz.out,Hr.out,Hw2.out⟩
 case round=>
  clear Hr vz Hw2;obtain⟨k,C,hk,rfl,hC,htk,hdr,hov,hr,pb⟩:=hrel;by_cases hlt:k<m
  . obtain⟨g,cc,he,hg1,hg2,hg3⟩:=wy hov zo;simp only[Value.slice.injEq,true_and]at he;obtain⟨rfl,rfl⟩:=he;have xQ:k<C.length:=by omega
    have Cb:k<K.length:=by have:=Hm.out;omega
    have hel:=acJ hdr xQ Cb;obtain⟨l,s,q,e,hx⟩:∃l s m e,C[k]=(l,s,m,e):=⟨_,_,_,_,rfl⟩;have dG:=HKf.out _ (List.getElem_mem Cb);rw[<-hel,hx]at dG;obtain⟨D,hD⟩:=aK (aJ (s,q,e));have pU:=ahl DT K C k xQ (by rw[hC,Hm.out]) htk hel;have Je:DT C[k]=(l,canon D):=by rw[hx,<-hD];rfl
    rw[Je]at pU;have mB:C[k].1=l:=by rw[hx]
    have hw:=PL hov k xQ hx;have hd2:C.drop (k+1)=K.drop (k+1):=by rw[<-List.drop_drop,<-List.drop_drop,hdr]
    have bD:=gJ m cap2 k (k:Int) (rfl:(some ⟨g,0,none⟩:Option Addr)=_) hlt rfl;rw[Nat.zero_add]at bD;have wX:Hid (∀W,aM W->Cv 70 #[.agg #[aj s,ai q,ah e]] W (cK D)):=λW IP=>sM s q e D hD W dG.1 IP;obtain⟨dQ,bj,Ss,Dk,HC,Rb,gB⟩:=mE hov pb pU hd2 hC mB (HT.out.below pb);have Hr:Hid (au wr w.heap.size 24 [ah 0,.slice none 0 0]):=hr;have Hz:Hid (bH wr g (k*4) [ai l,aj s,ai q,ah e]):=hw;clear hov pb pU hd2 hC hr hw htk hdr hel hx dG hD Je mB Cb;have Hb:=hbz wr;obtain⟨z0,z1,z2,z3⟩:=Hz.out.w4;have y2:wr.cell? ⟨g,k*4+1+1,none⟩=some (ai q):=z2;have y3:wr.cell? ⟨g,k*4+1+2,none⟩=some (ah e):=z3;go_wp2_with fail;refine(wX.out _ gB.out).mono ?_;rintro e w5 ⟨rfl,ag⟩;replace Hz:=kW Hz ag;obtain⟨z0,z1,z2,z3⟩:=Hz.out.w4;replace Hb:=az Hb ag;have jB:=ownsRow_below dQ.out Hb.out;clear y2 y3;have y2:w5.cell? ⟨g,k*4+1+1,none⟩=some (ai q):=z2;have y3:w5.cell? ⟨g,k*4+1+2,none⟩=some (ah e):=z3;have fR:=nK jB (k*4+1);have iU:=nK jB (k*4+1+1);have fz3:=nK jB (k*4+1+2);have hgb:=(CL jB).2;have Wj:=Hr.out.below Hb.out;have dL:=aO bj.out Hb.out;have Ou:g≠w.heap.size:=λe=>Wj.not_row zd jB (by rw[e];rfl);obtain⟨AZ,Hr5,eX⟩:=cX jB Wj dL;clear jB Wj dL;go_wp2;refine⟨⟨k+1,C.set k (l,canon D),by omega,by go_num,by rw[List.length_set];exact HC.out,Ss.out,by rw[TX _ _ _ _ zo];exact Dk.out,?_,?_,?_⟩,by simp[intOf];omega⟩
    . have h:=ahO AZ.out k xQ (aC (dN D)) (nt (dN D).natAbs) (dE D);rw[Rb.out]at h;exact h
    . exact((Hr5.out.aFJ _ Ou _).aFJ _ Ou _).aFJ _ Ou _
    . exact((eX.out.setCell zp _).setCell zp _).setCell zp _
  . obtain rfl:k=m:=by omega
    have ID:C=K.map DT:=by rw[List.take_of_length_le zo,List.take_of_length_le (by rw[List.length_map];have:=Hm.out;omega)]at htk;exact htk
    rw[ID]at hov;obtain⟨dQ,bj⟩:=aZ hov pb;have Hr:Hid (au wr w.heap.size 24 [ah 0,.slice none 0 0]):=hr;clear hov pb hr htk hdr hC ID;obtain⟨r0,aH,r1,aI⟩:=Hr.out.g2;go_wp2;have hne:=(Hr.out.not_row zd dQ.out).symm;have hrs:=Hr.out.lt;refine fP (λw9=>au w9 w.heap.size 24 [ah V,.slice a2 k cap2]/\w9.ownsRow w0.heap.size 67 4 (.slice a2 k cap2) k ((K.map DT).flatMap aY)/\Bw w0 w9) ⟨(Hr.out.set 0 _).set 1 _,ownsRow_setCell_other (ownsRow_setCell_other dQ.out hne _) hne _,(bj.out.setCell hz _).setCell hz _⟩ ?_;rintro w9 ⟨kx,fT,ez⟩;obtain⟨q0,q1⟩:=kx.c2;exact bodyPost_ret (v:=.tuple #[.agg #[ah V,.slice a2 k cap2],ah 0]) (by simp[results,Tryz.results57,go_sem,q0,q1]) rfl ⟨_,rfl,fT,ez⟩
def MP (V:Int)(v:Value)(n:Nat)(ts C:List aQ)(B:Nat)(w0 w:World)(hb0:Bw w0 w)(hn:ts.length=n)(hl:n<=4096)(ho:w.ownsRow w0.heap.size 67 4 v n (ts.flatMap aY))(hf:∀t∈ts,Fit B t.2)(hB:B+n+2<=268435456)(hT:aM w0)(hC:bP ts=C):
 Cl 57 #[ah V,v] w λe w'=>∃a c,e=.returned (.tuple #[.agg #[ah V,.slice a C.length c],ah 0])/\w'.ownsRow w0.heap.size 67 4 (.slice a C.length c) C.length (C.flatMap aY)/\Bw w0 w':=by
 subst hC;refine(apW V v n ts B w0 w hb0 hn hl ho hf hB hT).mono ?_;rintro e w' ⟨v',rfl,h1,h2⟩;obtain⟨a,c,rfl,_,_⟩:=dS h1;exact⟨a,c,rfl,h1,h2⟩
def awv {w W:World}{b base k:Nat}{v x0 x1:Value}{xs:List Value}(hr:au W b 24 [x0,x1])(ho:W.ownsRow base 67 4 v k xs)(hb:Bw w W)(hbs:w.heap.size<=b)(y0 y1:Value):
 au ((W.setCell ⟨b,0,none⟩ y0).setCell ⟨b,1,none⟩ y1) b 24 [y0,y1]/\((W.setCell ⟨b,0,none⟩ y0).setCell ⟨b,1,none⟩ y1).ownsRow base 67 4 v k xs/\Bw w ((W.setCell ⟨b,0,none⟩ y0).setCell ⟨b,1,none⟩ y1):=by
 have hne:=(hr.not_row zd ho).symm;exact⟨(hr.set 0 _).set 1 _,ownsRow_setCell_other (ownsRow_setCell_other ho hne _) hne _,(hb.setCell hbs _).setCell hbs _⟩
def DR {P:Program}{fn:Func}{R:Ending->World->Prop}{e:Exit}{a:Act}{w W:World}{b base k:Nat}{v x0 x1 y0 y1:Value}{xs:List Value}(hr:au W b 24 [x0,x1])(ho:W.ownsRow base 67 4 v k xs)(hb:Bw w W)(hbs:w.heap.size<=b)
 (h:∀W',au W' b 24 [y0,y1]->W'.ownsRow base 67 4 v k xs->Bw w W'->bodyPost P fn R e a W'):bodyPost P fn R e a ((W.setCell ⟨b,0,none⟩ y0).setCell ⟨b,1,none⟩ y1):=by
 obtain⟨h1,h2,h3⟩:=awv hr ho hb hbs y0 y1;exact h _ h1 h2 h3
def TB (a:Option Addr)(n cap:Nat)(ts:List aQ)(w:World)(hn:ts.length=n)(hl:n<=1048576)(hs:Sl a n cap)(ha:At w a (ts.flatMap aY)):
 Cl 69 #[.slice a n cap] w λe w'=>∃v',e=.returned v'/\w'.ownsRow w.heap.size 67 4 v' n (ts.flatMap aY)/\Bw w w':=by
 obtain⟨i0,hi,hz0,hz1,hz2⟩:=info_parts Tryz.aFP;have q:=λ(w:World) (a:Option Addr) (n c n' c':Nat)=>Lib.run_eql_slice_nil (P:=Tryz.prog) w 22 67 a n c n' c' Tryz.underlying22;have hlen:(ts.flatMap aY).length=n*4:=by rw[kj aY 4 (λ_=>rfl),hn]
 obtain⟨cs,hcs⟩:=aK (ts.flatMap aY);have h1:=wF ts;rw[hcs]at hlen ha h1⊢;obtain⟨lj,Ha,H1,Hs,Hi,dF,dv,di⟩:=oK hlen ha h1 hs hi hz0 hz1 hz2;clear hlen ha h1 hs hi hz0 hz1 hz2 hn hcs;cases a with
 | none=>
   have hc:=Hs.out.2 rfl;have hn0:n=0:=by have:=Hs.out.1;omega
   subst hc;subst hn0;go_enter Tryz.func69,Tryz.ntmps69;go_wp2;go_ret;refine⟨_,rfl,?_,Below.refl _ _⟩;have e:cs=[]:=List.eq_nil_of_length_eq_zero (by have:=lj.out;omega);rw[e];exact World.ownsRow_nil _ _ _ _
 |some ad=>go_enter Tryz.func69,Tryz.ntmps69;go_wp2_with (at_builtin;refine vr rfl _ _ 22 rfl w.heap.size 67 i0 _ 4 48 Tryz.underlying22 Hi.out dF.out dv.out di.out rfl zd _ 0 [] rfl (World.ownsRow_made w #[] 0 (Nat.le_refl _) (Nat.zero_le _) zm) (some ad) n cap cs rfl Hs.out lj.out (Ha.out.below ((Below.refl _ w).alloc (Nat.le_refl _) _)) H1.out zx zo zm ?_;intro v' w1 hown hgrow gY);go_ret;refine⟨v',rfl,by simpa using hown,?_⟩;exact((Below.refl _ w).alloc (Nat.le_refl _) _).grown hgrow zm (λk hk=>by have h9:w.heap.size=k:=Option.some.inj hk;omega)
def aoG (V:Int)(ts:List aQ)(h:∀t∈ts,eQ t.1 V=true):(ts.any λt=>!eQ t.1 V)=false:=by rw[List.any_eq_false];intro t ht;rw[h t ht];simp
def ahk (V:Nat)(a:Option Addr)(n cap:Nat)(ts:List aQ)(B:Nat)(w:World)(hV:V<=12)(hn:ts.length=n)(hl:n<=4096)(hs:Sl a n cap)(ha:At w a (ts.flatMap aY))(hm:∀t∈ts,eQ t.1 V=true)(hl2:∀t∈ts,t.1.length<=9223372036854775807)
 (hf:∀t∈ts,Fit B t.2) (hB:B+n+2<=268435456) (hT:aM w):
 Cl 117 #[ah (V:Int),.slice a n cap] w λe w'=>∃a' c',e=.returned (.tuple #[.agg #[ah (V:Int),.slice a' (bP ts).length c'],ah 0])/\w'.ownsRow w.heap.size 67 4 (.slice a' (bP ts).length c') (bP ts).length ((bP ts).flatMap aY)/\Bw w w':=by
 have eg:∀args w,(callFunc 156 args).run Tryz.prog w=.ok (.enter 156 args) w:=enters_of Tryz.func156 zk rfl;have hct:∀W bv,Bw w W->W.cell? ⟨bv,0,none⟩=some (ah (V:Int))->Cv 155 #[.slice a n cap,.func (.func 156) #[] #[.pointer (some ⟨bv,0,none⟩)]] W (aj false):=by intro W bv hW hc;have h:=aqg a n cap ts 156 #[.pointer (some ⟨bv,0,none⟩)] (λt=>!eQ t.1 V) W hn zo (ha.below hW) eg (λx hx W2 hW2=>by simpa using avu x.1 x.2.1 x.2.2.1 x.2.2.2 V bv W2 (cell_later hW2 hc) (hl2 x hx));rwa [aoG V ts hm]at h
 obtain⟨C,hC⟩:=aK (bP ts);have hcn:=λW (hW:Bw w W)=>(TB a n cap ts W hn zo hs (ha.below hW)).mono (λe w' h=>(match h with|⟨v,h1,h2,h3⟩=>⟨v,h1,h2,h3,h3⟩:∃v',e=.returned v'/\w'.ownsRow W.heap.size 67 4 v' n (ts.flatMap aY)/\Bw W w'/\Bw W w'));have hcl:=λw0 W v (hw0:Bw w w0) (hb0:Bw w0 W) (ho:W.ownsRow w0.heap.size 67 4 v n (ts.flatMap aY))=>MP (V:Int) v n ts C B w0 W hb0 hn hl ho hf hB (hT.below hw0) hC;rw[hC];obtain⟨QZ,qH,gP⟩:=cX hct hcn hcl;clear hct hcn hcl hC ha hT hf hm hl2 hs hn eg;have uH:=λW=>Nk (V:Int) W;have hd:decide (0<=(V:Int)/\(V:Int)<=12)=true:=by simp;omega
 rw[hd]at uH;have Gb:=ar uH;clear uH hd;have hni:¬(65536:Int)<(n:Int):=by omega
 have Hb:=hbz w;go_enter Tryz.func117,Tryz.ntmps117;go_wp2_with fail;have q:=lQ w 3 [ah (V:Int)] 24 [ah 0,.slice none 0 0];first|refine cd _ q ?_|refine cw _ q ?_
 clear q;rintro W ⟨Hv,Hr,ag⟩;have v0:=Hv.out.c1;obtain⟨r0,aH,r1,aI⟩:=Hr.out.g2;replace Hb:=az Hb ag;go_wp2_with fail;refine(Gb.out _).mono ?_;rintro e w1 ⟨rfl,ag⟩;replace Hv:=kB Hv ag;replace Hr:=kB Hr ag;have v0:=Hv.out.c1;obtain⟨r0,aH,r1,aI⟩:=Hr.out.g2;replace Hb:=az Hb ag;go_wp2_with fail;refine(QZ.out _ _ Hb.out v0).mono ?_;rintro e w2 ⟨rfl,ag⟩;replace Hv:=kB Hv ag;replace Hr:=kB Hr ag;have v0:=Hv.out.c1;obtain⟨r0,aH,r1,aI⟩:=Hr.out.g2;replace Hb:=az Hb ag;go_wp2_with fail;refine bV (λw'=>aF w' (w.heap.size) 0 (ah (V:Int))) (λi=>Nat.blt i 6) [(0,true),(1,true),(2,false),(3,false),(4,true),(5,true),(6,false),(7,false)] zk zk rfl zk zc v0 ?_;iterate 2 (refine pT rfl rfl ?_;try simp only[UU])
 have ang:=Hv;have jN:=Hr;have dY:=Hb;refine aR rfl rfl (λK hK=>?_);go_simp;with_reducible refine(qH.out _ (by first|exact Hb.out|exact Hb.out.drew)).mono ?_
 rintro e w3 ⟨v1,rfl,eH,asE,hq⟩;have ag:Bw w2 w3:=by first|exact hq|exact bo hq
 replace Hv:=kB Hv ag;replace Hr:=kB Hr ag;have v0:=Hv.out.c1;obtain⟨r0,aH,r1,aI⟩:=Hr.out.g2;replace Hb:=az Hb ag;refine hK _ _ (λ_=>v0) ?_;try simp only[UU]
 refine aR rfl rfl (λK hK=>?_);go_simp;with_reducible refine(gP.out _ _ v1 (by first|exact dY.out|exact dY.out.drew) asE eH).mono ?_
 rintro e w4 ⟨a2,c2,rfl,eP,hq⟩;have ag:Bw w2 w4:=by first|exact hq|exact bo hq
 replace Hv:=ar (ang.out.below ag);replace Hr:=ar (jN.out.below ag);have v0:=Hv.out.c1;obtain⟨r0,aH,r1,aI⟩:=Hr.out.g2;replace Hb:=ar (aO dY.out ag);refine hK _ _ (λ_=>v0) ?_;try simp only[UU]
 iterate 2 (refine pT rfl rfl ?_;try simp only[UU])
 refine aR rfl rfl (λK hK=>?_);go_simp;refine hK _ _ (by first|exact λh=>absurd h zd|exact λ_=>v0|exact λ_=>ij zg v0) ?_;try simp only[UU]
 refine aR rfl rfl (λK hK=>?_);go_simp;refine hK _ _ (λh=>absurd h zd) ?_;try simp only[UU]
 simp only[bu];go_wp2;refine DR (Hr.out) eP Hb.out zo ?_;intro w9 kx fT ez;obtain⟨p0,p1⟩:=kx.c2;exact bodyPost_ret (v:=.tuple #[.agg #[ah (V:Int),.slice a2 C.length c2],ah 0]) (by simp[results,Tryz.results117,go_sem,p0,p1]) rfl ⟨_,_,rfl,tu fT (by have:=dY.out.size;exact this),ez⟩
def Bh (w:World)(a:Option Addr)(C:List aQ):Prop:=C=[]\/∃b o cur,a=some ⟨b,o,none⟩/\w.heap[b]?=some (.cells cur 67)
def Bh.below {w w':World}{a:Option Addr}{C:List aQ}(h:Bh w a C)(hb:Bw w w'):Bh w' a C:=by
 rcases h with h|⟨b,o,cur,h1,h2⟩
 . exact .inl h
 . exact .inr ⟨b,o,cur,h1,by rw[hb.block b (Array.getElem?_eq_some_iff.1 h2).1];exact h2⟩
def Bh.off {w:World}{a:Option Addr}{C:List aQ}{g:Nat}{cur:Array Value}{t:TypeId}(h:Bh w a C)(hg:w.heap[g]?=some (.cells cur t))(ht:t≠67)(i:Nat)(u:Value):Bh (w.setCell ⟨g,i,none⟩ u) a C:=by
 rcases h with h|⟨b,o,cur',h1,h2⟩
 . exact .inl h
 . refine .inr ⟨b,o,cur',h1,?_⟩;have hne:b≠g:=λe=>by subst e;rw[hg]at h2;simp at h2;exact ht h2.2
   rw[Below.heap_setCell _ _ _ _ hne];exact h2
def bE (w:World)(a:Option Addr)(c:Nat)(C:List aQ):Prop:=At w a (C.flatMap aY)/\Sl a C.length c/\Bh w a C
def bE.below {w w':World}{a:Option Addr}{c:Nat}{C:List aQ}(h:bE w a c C)(hb:Bw w w'):bE w' a c C:=⟨h.1.below hb,h.2.1,h.2.2.below hb⟩
def yX (w:World)(a:Option Addr)(c:Nat)(C:List aQ):Prop:=At w a (C.flatMap aY)/\Sl a C.length c
def yX.below {w w':World}{a:Option Addr}{c:Nat}{C:List aQ}(h:yX w a c C)(hb:Bw w w'):yX w' a c C:=⟨h.1.below hb,h.2⟩
def bE.w {w:World}{a:Option Addr}{c:Nat}{C:List aQ}(h:bE w a c C):yX w a c C:=⟨h.1,h.2.1⟩
def bE.off {w:World}{a:Option Addr}{c:Nat}{C:List aQ}{g:Nat}{cur:Array Value}{t:TypeId}(h:bE w a c C)(hg:w.heap[g]?=some (.cells cur t))(ht:t≠67)(i:Nat)(u:Value):bE (w.setCell ⟨g,i,none⟩ u) a c C:=by
 refine⟨?_,h.2.1,h.2.2.off hg ht i u⟩;rcases h.2.2 with h'|⟨b,o,cur',rfl,h2⟩
 . subst h';exact .inl rfl
 . have hne:b≠g:=λe=>by subst e;rw[hg]at h2;simp at h2;exact ht h2.2
   rcases h.1 with h1|⟨b1,o1,e1,hc⟩
   . exact .inl h1
   . simp only[Option.some.injEq,Addr.mk.injEq,and_true]at e1;obtain⟨rfl,rfl⟩:=e1;refine .inr ⟨b,o,rfl,λj hj=>?_⟩;have h9:=hc j hj;rw[List.getElem?_eq_getElem hj]at h9⊢;exact aU (.inl hne) h9
def bE.store {w:World}{a:Option Addr}{c b:Nat}{t:TypeId}{C:List aQ}{cs:List Value}(h:bE w a c C)(hb:au w b t cs)(ht:t≠67)(u v:Value):bE ((w.setCell ⟨b,0,none⟩ u).setCell ⟨b,1,none⟩ v) a c C:=
 (h.off hb ht 0 u).off (hb.set 0 u) ht 1 v
def CM {w:World}{base c:Nat}{a:Option Addr}{C:List aQ}(h:w.ownsRow base 67 4 (.slice a C.length c) C.length (C.flatMap aY)):bE w a c C:=by
 obtain⟨a',c',hv,hat,_⟩:=dS h;have hs:=yl h;simp only[Value.slice.injEq,true_and]at hv;obtain⟨rfl,rfl⟩:=hv;refine⟨hat,hs,?_⟩;rcases h.2 with⟨_,h2⟩ |⟨g,cap,cur,hv,hb,hg,_⟩
 . exact .inl (List.length_eq_zero_iff.1 h2)
 . simp only[Value.slice.injEq,true_and]at hv;exact .inr ⟨g,0,cur,hv.1,hg⟩
def ajL (V:Nat):((List.range V).map λ_=>UInt8.ofNat 0)=jq V:=by
 unfold jq;apply List.ext_getElem
 . simp
 . intro i h1 h2;simp
def ag3 (V:Nat)(D:Dyadic)(x:Raw)(l:Nat->Dyadic)(h:aJ x=D):bP [(jq V,x)]=dP V D l 0:=by unfold dP;refine DV (λm=>?_);simp only[ir,List.range_zero,List.map_nil,cL,cp,h]
def MS (V:Nat)(s:Bool)(m:List UInt8)(e:Int)(D:Dyadic)(B:Nat)(l:Nat->Dyadic)(w:World)(hV:V<=12)(hf:Fit B (s,m,e))(hB:B+3<=268435456)(hT:aM w)(hD:aJ (s,m,e)=D):
 Cl 75 #[ah (V:Int),.agg #[aj s,ai m,ah e]] w λex w'=>∃a' c',ex=.returned (.tuple #[.agg #[ah (V:Int),.slice a' (dP V D l 0).length c'],ah 0])/\bE w' a' c' (dP V D l 0)/\Bw w w':=by
 have hC:=ag3 V D (s,m,e) l hD;obtain⟨C,Eg⟩:=aK (dP V D l 0);rw[Eg]at hC⊢;have hmk:=λW (hW:Bw w W) b (hb:au W b 67 [ai (jq V),aj s,ai m,ah e])=>ahk V (some ⟨b,0,none⟩) 1 1 [(jq V,(s,m,e))] B W hV rfl zo (Sl.some _ _ _ (Nat.le_refl _)) (At.aFK hb) (by intro t ht;simp at ht;subst ht;exact ajK V) (by intro t ht;simp at ht;subst ht;simp[jq];omega) (by intro t ht;simp at ht;subst ht;exact hf) zo (hT.below hW);rw[hC]at hmk;have uH:=λW=>Nk (V:Int) W;have hd:decide (0<=(V:Int)/\(V:Int)<=12)=true:=by simp;omega
 rw[hd]at uH;have hmb:=λW=>uT (V:Int) V rfl zo W;have hcv:∀W b,Hid (au W b 5 (dw V λ_=>0))->(convert 84 9 (.slice (some ⟨b,0,none⟩) V V)).run Tryz.prog W=.ok (ai (jq V)) W:=λW b h=>by rw[<-ajL];exact vp h.out V
 obtain⟨mh,Gb⟩:=aZ hmk uH;clear hmk uH hd hC Eg hT hf hD;have Hb:=hbz w;go_enter Tryz.func75,Tryz.ntmps75;go_wp2_with fail;have q:=lQ w 48 [aj s,ai m,ah e] 24 [ah 0,.slice none 0 0];first|refine cd _ q ?_|refine cw _ q ?_
 clear q;rintro W ⟨Hc,Hr,ag⟩;obtain⟨c0,c1,c2⟩:=Hc.out.c3;obtain⟨r0,aH,r1,aI⟩:=Hr.out.g2;replace Hb:=az Hb ag;go_wp2_with fail;refine(Gb.out _).mono ?_;rintro e w1 ⟨rfl,ag⟩;obtain⟨Hc,c0,c1,c2⟩:=cm Hc ag;obtain⟨Hr,r0,aH,r1,aI⟩:=bA Hr ag;replace Hb:=az Hb ag;go_wp2_with fail;refine bV (λw'=>aF w' (w.heap.size) 0 (aj s)/\aF w' (w.heap.size) 1 (ai m)/\aF w' (w.heap.size) 2 (ah e)) (λi=>Nat.blt i 10) [(0,true),(1,true),(4,true),(2,false),(3,false),(5,true),(6,false),(7,false),(8,true),(9,true),(10,false),(11,false)] zk zk rfl zk zc ⟨c0,c1,c2⟩ ?_;iterate 3 (refine pT rfl rfl ?_ (by intro w' ⟨q0,q1,q2⟩;go_simp;try with_reducible rfl);try simp only[UU])
 refine aR rfl rfl (λK hK=>?_);go_simp;refine hK _ _ (λ_=>⟨aV c0,aV c1,aV c2⟩) ?_;try simp only[UU]
 refine bZ (λW3=>au W3 (w1.heap.size) 5 (dw V (λ_=>0))/\Bw w1 W3) (by first|exact eo|exact eu) ?_;rintro W3 ⟨qq,ag⟩;have Pk:=Hc.out.lt;have Kh:=Hr.out.lt;replace Hc:=kB Hc ag;replace Hr:=kB Hr ag;have Hq:=ar qq;clear qq;obtain⟨c0,c1,c2⟩:=Hc.out.c3;obtain⟨r0,aH,r1,aI⟩:=Hr.out.g2;replace Hb:=az Hb ag;refine aR rfl rfl (λK hK=>?_);go_simp;refine hK _ _ (λ_=>⟨c0,c1,c2⟩) ?_;try simp only[UU]
 refine pT rfl rfl ?_;try simp only[UU]
 refine aR rfl rfl (λK hK=>?_);go_simp;refine hK _ _ (λ_=>⟨aV c0,aV c1,aV c2⟩) ?_;try simp only[UU]
 refine bZ (λW4=>au W4 (W3.heap.size) 67 [ai (jq V),aj s,ai m,ah e]/\Bw W3 W4) (by first|exact eo|exact eu) ?_;rintro W4 ⟨qz,ag⟩;have Xa:=Hc.out.lt;have Xb:=Hr.out.lt;have avb:=Hq.out.lt;replace Hc:=kB Hc ag;replace Hr:=kB Hr ag;replace Hq:=kB Hq ag;have Hz:=ar qz;clear qz;obtain⟨c0,c1,c2⟩:=Hc.out.c3;obtain⟨r0,aH,r1,aI⟩:=Hr.out.g2;obtain⟨z0,z1,z2,z3⟩:=Hz.out.c4;replace Hb:=az Hb ag;refine aR rfl rfl (λK hK=>?_);go_simp;with_reducible refine(mh.out _ Hb.out _ Hz.out).mono ?_
 rintro e w5 ⟨a2,d2,rfl,eP,hq⟩;have ag:Bw W4 w5:=by first|exact hq|exact bo hq
 obtain⟨Hc,c0,c1,c2⟩:=cm Hc ag;obtain⟨Hr,r0,aH,r1,aI⟩:=bA Hr ag;replace Hq:=kB Hq ag;obtain⟨Hz,z0,z1,z2,z3⟩:=dZ Hz ag;replace Hb:=az Hb ag;refine hK _ _ (λ_=>⟨c0,c1,c2⟩) ?_;try simp only[UU]
 iterate 2 (refine pT rfl rfl ?_;try simp only[UU])
 refine aR rfl rfl (λK hK=>?_);go_simp;refine hK _ _ (by first|exact λh=>absurd h zd|exact λ_=>⟨c0,c1,c2⟩ |exact λ_=>⟨(by first|exact c0|exact aU zf c0|exact aU zf (aU zf c0) |exact aU zf (aU zf (aU zf c0))),(by first|exact c1|exact aU zf c1|exact aU zf (aU zf c1) |exact aU zf (aU zf (aU zf c1))),(by first|exact c2|exact aU zf c2|exact aU zf (aU zf c2) |exact aU zf (aU zf (aU zf c2)))⟩) ?_;try simp only[UU]
 refine aR rfl rfl (λK hK=>?_);go_simp;refine hK _ _ (λh=>absurd h zd) ?_;try simp only[UU]
 simp only[bu];go_wp2;refine DR (Hr.out) eP Hb.out zo ?_;intro w9 kx fT ez;obtain⟨p0,p1⟩:=kx.c2;exact bodyPost_ret (v:=.tuple #[.agg #[ah (V:Int),.slice a2 C.length d2],ah 0]) (by simp[results,Tryz.results75,go_sem,p0,p1]) rfl ⟨_,_,rfl,CM fT,ez⟩
def ajh (V k:Nat):((List.range V).map λj=>UInt8.ofNat (if j=k then 1 else 0))=dV V k:=by
 unfold dV;apply List.ext_getElem
 . simp
 . intro i h1 h2;rw[List.getElem_map,List.getElem_range,List.getElem_set];by_cases h:k=i
   . subst h;simp
   . rw[if_neg (λe=>h e.symm),if_neg h];simp
def az1 :Fit 1 (canon (1:Dyadic)):=Sm.one.fit zd
def az5 (V k:Nat)(w:World)(hV:V<=12)(hk:k<V)(hT:aM w):
 Cl 154 #[ah (V:Int),ah (k:Int)] w λex w'=>∃a' c',ex=.returned (.tuple #[.agg #[ah (V:Int),.slice a' (bP [(dV V k,canon 1)]).length c'],ah 0])/\bE w' a' c' (bP [(dV V k,canon 1)])/\Bw w w':=by
 obtain⟨C,hC⟩:=aK (bP [(dV V k,canon 1)]);rw[hC];obtain⟨O,hO⟩:∃O:Dyadic,(1:Dyadic)=O:=⟨_,rfl⟩;have hmk:=λW (hW:Bw w W) b (hb:au W b 67 [ai (dV V k),aj (aC (dN O)),ai (nt (dN O).natAbs),ah (dE O)])=>ahk V (some ⟨b,0,none⟩) 1 1 [(dV V k,canon 1)] 1 W hV rfl zo (Sl.some _ _ _ (Nat.le_refl _)) (by rw[hO];exact At.aFK hb) (by intro t ht;simp at ht;subst ht;exact Le V k) (by intro t ht;simp at ht;subst ht;simp[dV];omega) (by intro t ht;simp at ht;subst ht;exact az1) zo (hT.below hW);rw[hC]at hmk;have hof:=λW (hW:Bw w W)=>BB 1 O hO W zd (hT.below hW);have uH:=λW=>Nk (V:Int) W;have hd:decide (0<=(V:Int)/\(V:Int)<=12)=true:=by simp;omega
 rw[hd]at uH;have hmb:=λW=>uT (V:Int) V rfl zo W;have hcv:∀W b,Hid (au W b 5 (dw V λj=>if j=k then 1 else 0))->(convert 84 9 (.slice (some ⟨b,0,none⟩) V V)).run Tryz.prog W=.ok (ai (dV V k)) W:=λW b h=>by rw[<-ajh V k];exact vp h.out V
 have bD:=λb=>tq V V k (k:Int) (rfl:(some ⟨b,0,none⟩:Option Addr)=_) hk rfl;simp only[Nat.zero_add,Nat.mul_one]at bD;have hget:(dw V λ_=>0)[k]?=some (.int .u8 0):=mL _ _ _ hk;have pU:(dw V λ_=>0).set k (.int .u8 1)=dw V λj=>if j=k then 1 else 0:=CV V _ k 1
 obtain⟨mh,og,Gb⟩:=cX hmk hof uH;clear hmk hof uH hd hC hT hO;have Cc:¬(k:Int)<0:=by omega
 have Hb:=hbz w;go_enter Tryz.func154,Tryz.ntmps154;go_wp2_with fail;have q:=fK w 24 [ah 0,.slice none 0 0];first|refine cd _ q ?_|refine cw _ q ?_
 clear q;rintro W ⟨Hr,ag⟩;obtain⟨r0,aH,r1,aI⟩:=Hr.out.g2;replace Hb:=az Hb ag;go_wp2_with fail;refine(Gb.out _).mono ?_;rintro e w1 ⟨rfl,ag⟩;obtain⟨Hr,r0,aH,r1,aI⟩:=bA Hr ag;replace Hb:=az Hb ag;go_wp2_with fail;obtain⟨R,hR⟩:∃R:World->Prop,(λW3=>au W3 w1.heap.size 5 (dw V λj=>if j=k then 1 else 0)/\Bw w1 W3)=R:=⟨_,rfl⟩;first|refine cd R ?hR ?_|refine cw R ?hR ?_
 case hR=>subst hR;exact⟨au.newAt w1 _ _ (b:=w1.heap.size) rfl,zl⟩
 subst hR;intro W3 ⟨qm,ag⟩;obtain⟨Hr,r0,aH,r1,aI⟩:=bA Hr ag;replace Hb:=ar (aO Hb.out ag);have Hm:=ar qm;clear qm ag hget pU bD hmb;have fe:∀w',dW W3 w'->(convert 84 9 (.slice (some ⟨w1.heap.size,0,none⟩) V V)).run Tryz.prog w'=.ok (ai (dV V k)) w':=λw' h=>hcv w' _ (ar (Hm.out.below h));have bz:Hid (dW W3 W3):=Below.refl _ _;refine bV (λw'=>dW W3 w') (λi=>Nat.blt i 9) [(0,true),(1,true),(2,true),(3,false),(4,true),(5,false),(6,false),(7,true),(8,true),(9,false),(10,false)] zk zk rfl zk zc bz.out.drew ?_;iterate 3 (refine PN rfl rfl (v:=?_) (λw' hw'=>?_) ?_;rotate_left;(focus have hw':=fe w' hw';go_simp;try with_reducible rfl);try simp only[UU])
 refine aR rfl rfl (λK hK=>?_);go_simp;with_reducible refine(og.out _ (by first|exact Hb.out|exact Hb.out.drew)).mono ?_
 rintro e w4 ⟨rfl,hq⟩;have ag:Bw W3 w4:=by first|exact hq|exact bo hq
 replace bz:=ar (bz.out.below ag);obtain⟨Hr,r0,aH,r1,aI⟩:=bA Hr ag;replace Hb:=az Hb ag;refine hK _ _ (λ_=>bz.out) ?_;try simp only[UU]
 refine pT rfl rfl ?_;try simp only[UU]
 refine aR rfl rfl (λK hK=>?_);go_simp;refine hK _ _ (λ_=>by first|exact bz.out.alloc _|exact(bz.out.alloc _).drew|exact(bz.out.drew).alloc _) ?_;try simp only[UU]
 refine bZ (λW5=>au W5 (w4.heap.size) 67 [ai (dV V k),aj (aC (dN O)),ai (nt (dN O).natAbs),ah (dE O)]/\Bw w4 W5) (by first|exact eo|exact eu) ?_;rintro W5 ⟨qz,ag⟩;have Pm:=Hr.out.lt;replace bz:=ar (bz.out.below ag);replace Hr:=kB Hr ag;have Hz:=ar qz;clear qz;obtain⟨r0,aH,r1,aI⟩:=Hr.out.g2;obtain⟨z0,z1,z2,z3⟩:=Hz.out.c4;replace Hb:=az Hb ag;refine aR rfl rfl (λK hK=>?_);go_simp;with_reducible refine(mh.out _ Hb.out _ Hz.out).mono ?_
 rintro e w6 ⟨a2,d2,rfl,eP,hq⟩;have ag:Bw W5 w6:=by first|exact hq|exact bo hq
 replace bz:=ar (bz.out.below ag);obtain⟨Hr,r0,aH,r1,aI⟩:=bA Hr ag;obtain⟨Hz,z0,z1,z2,z3⟩:=dZ Hz ag;replace Hb:=az Hb ag;refine hK _ _ (λ_=>bz.out) ?_;try simp only[UU]
 iterate 2 (refine pT rfl rfl ?_;try simp only[UU])
 refine aR rfl rfl (λK hK=>?_);go_simp;refine hK _ _ (by first|exact λh=>absurd h zd|exact λ_=>bz.out|exact λ_=>ij zg bz.out) ?_;try simp only[UU]
 refine aR rfl rfl (λK hK=>?_);go_simp;refine hK _ _ (λh=>absurd h zd) ?_;try simp only[UU]
 simp only[bu];go_wp2;refine DR (Hr.out) eP Hb.out zo ?_;intro w9 kx fT ez;obtain⟨p0,p1⟩:=kx.c2;exact bodyPost_ret (v:=.tuple #[.agg #[ah (V:Int),.slice a2 C.length d2],ah 0]) (by simp[results,Tryz.results154,go_sem,p0,p1]) rfl ⟨_,_,rfl,CM fT,ez⟩
def ahm {l:List UInt8}{V:Nat}(h:eQ l (V:Int)=true):l.length=V:=by unfold eQ at h;rw[Bool.and_eq_true]at h;have:=h.2;simp at this;omega
def gj (V B:Nat)(ts:List aQ):Prop:=yY V ts/\∀t∈ts,Fit B t.2
def gj.chk {V B:Nat}{ts:List aQ}(h:gj V B ts):∀t∈ts,t.1.length<=9223372036854775807/\Ok t.2:=λt ht=>⟨by have:=ahm (h.1.2.1 t ht);have:=h.1.2.2.2;omega,(h.2 t ht).1⟩
def ait (V:Nat)(a:Option Addr)(cap:Nat)(ts:List aQ)(s:Bool)(m:List UInt8)(e:Int)(D:Dyadic)(B:Nat)(w:World)(hp:gj V B ts)(ha:yX w a cap ts)(hf:Fit B (s,m,e))(hB:2*B+8192<=268435456)(hT:aM w)(hD:aJ (s,m,e)=D):
 Cl 24 #[.agg #[ah (V:Int),.slice a ts.length cap],.agg #[aj s,ai m,ah e]] w λex w'=>∃a' c',ex=.returned (.tuple #[.agg #[ah (V:Int),.slice a' (bP (dA D ts)).length c'],ah 0])/\bE w' a' c' (bP (dA D ts))/\Bw w w':=by
 obtain⟨n,hn⟩:=aK ts.length;have hnl:n<=4096:=by have:=hp.1.2.2.1;omega
 have hV:V<=12:=hp.1.2.2.2;obtain⟨C,hC⟩:=aK (bP (dA D ts));have mA:(dA D ts).length=n:=by unfold dA;rw[List.length_map,hn]
 have zN:∀t∈dA D ts,Fit (2*B) t.2:=by intro t ht;unfold dA at ht;obtain⟨x,hx,rfl⟩:=List.mem_map.1 ht;refine Sm.fit ?_ zo;have:=Sm.mul (hp.2 x hx).2 hf.2;rw[hD]at this;exact this.mono zo
 have fp:=λW (hW:Bw w W)=>Kn (V:Int) a cap n ts W hn zo (ha.1.below hW) hp.chk (hT.below hW);rw[XH hp.1]at fp;have hs:=ha.2;rw[hn]at hs;have hcn:=λW (hW:Bw w W)=>(TB a n cap ts W hn zo hs (ha.1.below hW)).mono (λe w' h=>(match h with|⟨v,h1,h2,h3⟩=>⟨v,h1,h2,h3,h3⟩:∃v',e=.returned v'/\w'.ownsRow W.heap.size 67 4 v' n (ts.flatMap aY)/\Bw W w'/\Bw W w'));have hcl:=λw0 W v (hw0:Bw w w0) (hb0:Bw w0 W) (ho:W.ownsRow w0.heap.size 67 4 v n ((dA D ts).flatMap aY))=>MP (V:Int) v n (dA D ts) C (2*B) w0 W hb0 mA hnl ho zN zo (hT.below hw0) hC;have jy:=hp.2;rw[hn,hC];obtain⟨oc,qH,gP,wY,HT,Hn,yI,HD⟩:=oK fp hcn hcl jy hT hn hf hD;clear fp hcn hcl jy hT hn hf hD hC mA zN hs ha hp;have Hb:=hbz w;go_enter Tryz.func24,Tryz.ntmps24;go_wp2_with fail;have q:=uU w 24 [ah (V:Int),.slice a n cap] 48 [aj s,ai m,ah e] 24 [ah 0,.slice none 0 0];first|refine cd _ q ?_|refine cw _ q ?_
 clear q;rintro W ⟨Hp,Hc,Hr,ag⟩;obtain⟨p0,p1⟩:=Hp.out.c2;obtain⟨c0,c1,c2⟩:=Hc.out.c3;obtain⟨r0,aH,r1,aI⟩:=Hr.out.g2;replace Hb:=az Hb ag;go_wp2_with fail;refine(oc.out _ Hb.out).mono ?_;rintro e w1 ⟨rfl,ag⟩;obtain⟨Hp,p0,p1⟩:=bi Hp ag;obtain⟨Hc,c0,c1,c2⟩:=cm Hc ag;obtain⟨Hr,r0,aH,r1,aI⟩:=bA Hr ag;replace Hb:=az Hb ag;have mQ:=Hp;have Dj:=Hc;have jN:=Hr;have dY:=Hb;go_wp2_with fail;refine(qH.out _ Hb.out).mono ?_;rintro e w2 ⟨v1,rfl,eH,zR,ag⟩;obtain⟨Hp,p0,p1⟩:=bi Hp ag;obtain⟨Hc,c0,c1,c2⟩:=cm Hc ag;obtain⟨Hr,r0,aH,r1,aI⟩:=bA Hr ag;replace Hb:=az Hb ag;obtain⟨a1,d1,rfl,_,_⟩:=dS eH;obtain⟨ml,ZV⟩:=aZ eH zR;clear eH zR;go_wp2_with fail;go_loopw[20] (λx wr=>∃(k:Nat) (C:List aQ),k<=n/\x=ah (k:Int)/\C.length=n/\C.take k=(dA D ts).take k/\C.drop k=ts.drop k/\wr.ownsRow w1.heap.size 67 4 (.slice a1 n d1) n (C.flatMap aY)/\Bw w1 wr) (λx _=>n-(intOf x).toNat);case atStart=>exact⟨0,ts,Nat.zero_le _,rfl,Hn.out,rfl,rfl,ml.out,ZV.out⟩
 case round=>
  clear p0 p1 c0 c1 c2 r0 aH r1 aI ml ZV Hp Hc Hr Hb;obtain⟨k,C',hk,rfl,hC,htk,hdr,hov,pb⟩:=hrel;obtain⟨Hp,Hc,Hr⟩:=cX (mQ.out.below pb) (Dj.out.below pb) (jN.out.below pb);have bQ:=aO dY.out pb;have sk:=dY.out.size;by_cases hlt:k<n
  . obtain⟨g,cc,he,hg1,hg2,hg3⟩:=wy hov zo;simp only[Value.slice.injEq,true_and]at he;obtain⟨rfl,rfl⟩:=he;have xQ:k<C'.length:=by omega
    have Cb:k<ts.length:=by have:=Hn.out;omega
    have hel:=acJ hdr xQ Cb;obtain⟨l,s1,q1,e1,hx⟩:∃l s m e,C'[k]=(l,s,m,e):=⟨_,_,_,_,rfl⟩;have dG:=wY.out _ (List.getElem_mem Cb);rw[<-hel,hx]at dG;obtain⟨X,hX⟩:=aK (aJ (s1,q1,e1) *D);have pU:=ahl (λx=>(x.1,canon (aJ x.2*D))) ts C' k xQ (by rw[hC,Hn.out]) htk hel;have Je:(C'[k].1,canon (aJ C'[k].2*D))=(l,canon X):=by rw[hx,<-hX]
    have af6:(C'.set k (l,canon X)).take (k+1)=(dA D ts).take (k+1):=by rw[<-Je];exact pU
    have mB:C'[k].1=l:=by rw[hx]
    obtain⟨_,y1,y2,y3⟩:=(PL hov k xQ hx).w4;have hd2:C'.drop (k+1)=ts.drop (k+1):=by rw[<-List.drop_drop,<-List.drop_drop,hdr]
    have bD:=gJ n d1 k (k:Int) (rfl:(some ⟨g,0,none⟩:Option Addr)=_) hlt rfl;rw[Nat.zero_add]at bD;have Hz:Hid (bH wr g (k*4+1) [aj s1,ai q1,ah e1]):=jH y1 y2 y3;have HX:Hid (aJ (s1,q1,e1) *aJ (s,m,e)=X):=by show _=_;rw[HD.out];exact hX
    obtain⟨dQ,bj,Ss,Dk,HC,Rb,fO,gB⟩:=oK hov pb af6 hd2 hC mB dG (HT.out.below bQ);have gM:=pb.size;clear hov pb pU af6 hd2 hC htk hdr hel hx hX Je mB dG Cb y1 y2 y3 bQ mQ Dj jN Hp Hr;have Hb:=hbz wr;go_wp2_with fail;obtain⟨c0,c1,c2⟩:=Hc.out.c3;obtain⟨z0,z1,z2⟩:=Hz.out.w3;have HU:Hid (aM wr):=gB.out;refine bV (λw'=>aF w' (w.heap.size+1) 0 (aj s)/\aF w' (w.heap.size+1) 1 (ai m)/\aF w' (w.heap.size+1) 2 (ah e)/\aF w' g (k*4+1) (aj s1)/\aF w' g (k*4+1+1) (ai q1)/\aF w' g (k*4+1+2) (ah e1)) (λi=>Nat.blt i 12) [(0,true),(1,true),(2,true),(3,true),(4,true),(5,true),(6,true),(7,true),(8,false),(9,false),(10,true),(11,true),(12,false)] zk zk rfl zk zc ⟨c0,c1,c2,z0,z1,z2⟩ ?_;iterate 8 (refine pT rfl rfl ?_ (by intro w' ⟨q0,q1,q2,q3,q4,q5⟩;go_simp;try with_reducible rfl);try simp only[UU])
    refine aR rfl rfl (λK hK=>?_);go_simp;refine hK _ _ (λ_=>⟨aV c0,aV c1,aV c2,aV z0,aV z1,aV z2⟩) ?_;try simp only[UU]
    refine bZ (λW4=>au W4 (wr.heap.size) 48 [aj s1,ai q1,ah e1,aj s,ai m,ah e]/\Bw wr W4) (by first|exact eo|exact eu) ?_;rintro W4 ⟨qv,ag⟩;have Xa:=Hc.out.lt;replace Hc:=kB Hc ag;replace Hz:=kW Hz ag;replace HU:=kT HU ag;have Hv:=ar qv;clear qv;obtain⟨c0,c1,c2⟩:=Hc.out.c3;obtain⟨z0,z1,z2⟩:=Hz.out.w3;obtain⟨v0,v1,v2,v3,v4,v5⟩:=Hv.out.c6;replace Hb:=az Hb ag;refine aR rfl rfl (λK hK=>?_);go_simp;with_reducible refine(xy s1 q1 e1 s m e X B HX.out wr.heap.size _ 48 _ fO.out yI.out zo Hv.out (by first|exact HU.out|exact aM.drew HU.out|exact aM.alloc HU.out _|exact aM.drew (aM.alloc HU.out _) |exact aM.alloc (aM.drew HU.out) _)).mono ?_
    rintro e w5 ⟨rfl,hq⟩;have ag:Bw W4 w5:=by first|exact hq|exact bo hq
    obtain⟨Hc,c0,c1,c2⟩:=cm Hc ag;replace Hz:=kW Hz ag;replace HU:=kT HU ag;obtain⟨Hv,v0,v1,v2,v3,v4,v5⟩:=kR Hv ag;obtain⟨z0,z1,z2⟩:=Hz.out.w3;replace Hb:=az Hb ag;refine hK _ _ (λ_=>⟨c0,c1,c2,z0,z1,z2⟩) ?_;try simp only[UU]
    iterate 2 (refine pT rfl rfl ?_;try simp only[UU])
    refine aR rfl rfl (λK hK=>?_);have jB:=ownsRow_below dQ.out Hb.out;have fR:=nK jB (k*4+1);have iU:=nK jB (k*4+1+1);have fz3:=nK jB (k*4+1+2);have dL:=aO bj.out Hb.out;obtain⟨AZ,eX⟩:=aZ jB dL;clear jB dL;go_simp;refine hK _ _ (λh=>absurd h zd) ?_;try simp only[UU]
    simp only[bu];go_wp2;refine⟨⟨k+1,C'.set k (l,canon X),by omega,by go_num,by rw[List.length_set];exact HC.out,Ss.out,by rw[TX _ _ _ _ zo];exact Dk.out,?_,?_⟩,by simp[intOf];omega⟩
    . have h:=ahO AZ.out k xQ (aC (dN X)) (nt (dN X).natAbs) (dE X);rw[Rb.out]at h;exact h
    . exact((eX.out.setCell hg1 _).setCell hg1 _).setCell hg1 _
  . obtain rfl:k=n:=by omega
    have ID:C'=dA D ts:=by rw[List.take_of_length_le zo,List.take_of_length_le (by unfold dA;rw[List.length_map];have:=Hn.out;omega)]at htk;exact htk
    rw[ID]at hov;obtain⟨dQ,bj⟩:=aZ hov pb;have Hb:Hid (Bw w wr):=bQ;clear hov pb htk hdr hC ID bQ;obtain⟨p0,p1⟩:=Hp.out.c2;obtain⟨r0,aH,r1,aI⟩:=Hr.out.g2;go_wp2_with fail;refine(gP.out w1 _ _ dY.out bj.out dQ.out).mono ?_;rintro e w6 ⟨a2,d2,rfl,eP,ag⟩;replace Hp:=ar (mQ.out.below ag);replace Hr:=ar (jN.out.below ag);obtain⟨p0,p1⟩:=Hp.out.c2;obtain⟨r0,aH,r1,aI⟩:=Hr.out.g2;replace Hb:=ar (aO dY.out ag);go_wp2;refine DR (Hr.out) eP Hb.out zo ?_;intro w9 kx fT ez;obtain⟨q0,q1⟩:=kx.c2;exact bodyPost_ret (v:=.tuple #[.agg #[ah (V:Int),.slice a2 C.length d2],ah 0]) (by simp[results,Tryz.results24,go_sem,q0,q1]) rfl ⟨_,_,rfl,CM fT,ez⟩
def ais (V:Nat)(a:Option Addr)(cap:Nat)(ts:List aQ)(s:Bool)(m:List UInt8)(e:Int)(D:Dyadic)(B:Nat)(w:World)(hp:gj V B ts)(ha:bE w a cap ts)(hf:Fit B (s,m,e))(hB:2*B+8192<=268435456)(hT:aM w)(hD:aJ (s,m,e)=D):
 Cl 24 #[.agg #[ah (V:Int),.slice a ts.length cap],.agg #[aj s,ai m,ah e]] w λex w'=>∃a' c',ex=.returned (.tuple #[.agg #[ah (V:Int),.slice a' (bP (dA D ts)).length c'],ah 0])/\bE w' a' c' (bP (dA D ts))/\Bw w w':=ait V a cap ts s m e D B w hp ha.w hf hB hT hD
end Go.Proofs.YtnjfebkelecgaaaGreatDoor
namespace Go.Proofs.YtnjfebkelecgaaaGreatDoor
open Go.RowKit
def aoI {P:Program}(t tx ty:TypeId)(e e':TypeId)(ht:P.underlying t=some (.slice e))(hx:P.underlying tx=some (.slice e'))(u v:Value)(w:World):(Builtin.append_ #[t,tx] ty #[u,v]).run P w=(Builtin.append_ #[t,t] ty #[u,v]).run P w:=by unfold Builtin.append_;cases u<;>simp[Sem.run_bind,run_underlying ht,run_underlying hx]
def aAB {P:Program}{w:World}{o:Oper}{a:Act}{K:Act->World->Prop}{Q:Exit->Act->World->Prop}(s x:Operand)(t tx:TypeId)(e':TypeId)(htx:P.underlying tx=some (.slice e'))
 (ho:o.op=.call {callee:=.builtin .append,args:=#[s,x],argTypes:=#[t,tx]})
 (base:Nat) (e:TypeId) (i:TypeInfo) (z:Value) (size bytes:Nat) (ht:P.underlying t=Option.some (.slice e)) (hi:P.info? e=Option.some i) (hz:i.zero=Option.some z)
 (hsize:i.size=size) (hby:i.bytes=bytes) (hzs:z.cells.size=size) (hsz:0<size)
 (v:Value) (n:Nat) (xs:List Value) (hs:a.eval s=v) (hown:w.ownsRow base e size v n xs)
 (aa:Option Addr) (m c:Nat) (news:List Value) (hx:a.eval x=.slice aa m c) (hsl:Sl aa m c) (hl:news.length=m*size) (hat:At w aa news) (h1:∀u∈news,u.oneCell'=true)
 (h63:n+m<=maxLen) (hbytes:(n+m) *bytes<=140737488355328) (hbase:base<=w.heap.size)
 (h:∀v' w',w'.ownsRow base e size v' (n+m) (xs++news)->w.grownBy w' v.ownBlock->(v'.ownBlock=v.ownBlock\/v'.ownBlock=Option.some w.heap.size)->K (a.put o.dst v') w'):o.wp P a w K Q:=by
 have key:∃v' w',(Builtin.append_ #[t,tx] o.type #[v,.slice aa m c]).run P w=.ok v' w'/\w'.ownsRow base e size v' (n+m) (xs++news)/\w.grownBy w' v.ownBlock/\(v'.ownBlock=v.ownBlock\/v'.ownBlock=Option.some w.heap.size):=by
  rw[aoI t tx o.type e e' ht htx];cases aa with
  | none=>
    have hc:=hsl.2 rfl;have hm:m=0:=by have:=hsl.1;omega
    subst hc;subst hm;have hn:news=[]:=List.eq_nil_of_length_eq_zero (by simpa using hl);subst hn;exact⟨v,w,run_append_owned_none (P:=P) (w:=w) base t o.type e i size ht hi v n xs hown,by simpa using hown,World.grownBy.refl _ _,.inl rfl⟩
  | some ad=>
    obtain⟨v',w',hr,h2,h3,_,h5⟩:=run_append_own_at (P:=P) w base t o.type e i z size bytes ht hi hz hsize hby hzs hsz v n xs hown ad m c news hl (by
     intro j u hj;rcases hat with h0|⟨b,o',e'',hc⟩
     . subst h0;simp at hj
     . simp only[Option.some.injEq]at e'';subst e'';have hjl:=(List.getElem?_eq_some_iff.1 hj).1;have e2:((⟨b,o',none⟩:Addr).add j)=⟨b,o'+j,none⟩:=by unfold Addr.add;cases j<;>simp
       rw[e2,hc j hjl];exact hj) h1 h63 hbytes hbase
    exact⟨v',w',hr,h2,h3,h5⟩
 obtain⟨v',w',hr,h2,h3,h5⟩:=key;unfold Oper.wp execOp;simp only[ho,resolve,invoke,builtin,Sem.run_bind,Sem.run_pure,Result.andThen_ok,List.map_toArray,List.map_cons,List.map_nil,hs,hx,hr];exact h v' w' h2 h3 h5
end Go.Proofs.YtnjfebkelecgaaaGreatDoor
