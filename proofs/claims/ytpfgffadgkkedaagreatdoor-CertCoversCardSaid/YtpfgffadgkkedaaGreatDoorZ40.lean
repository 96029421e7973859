/- Domains in memory,by the types of their blocks. -/
import Derived.Test.YtpfgffadgkkedaaGreatDoorZ32
import Derived.Test.YtpfgffadgkkedaaGreatDoorZ39
import Derived.Test.YtpfgffadgkkedaaGreatDoorZ20
import Derived.Test.YtpfgffadgkkedaaGreatDoorZ7
import Derived.Test.YtpfgffadgkkedaaGreatDoorZ11
import Derived.Test.YtpfgffadgkkedaaGreatDoorZ24
import Derived.Test.YtpfgffadgkkedaaGreatDoorZ28
import Derived.Test.YtpfgffadgkkedaaGreatDoorZ34
import Derived.Test.YtpfgffadgkkedaaGreatDoorZ35
import Derived.Test.YtpfgffadgkkedaaGreatDoorZ19
set_option linter.all false
set_option maxRecDepth 100000
set_option maxHeartbeats 16000000
namespace Go.Proofs.YtpfgffadgkkedaaGreatDoor
open Go.RowKit
def nM (S:TypeId):Prop:=S=88\/S=63\/S=45
def cj (P:Nat->TypeId->Prop)(w w':World):Prop:=Chg (λb=>¬∃cur S,w.heap[b]?=some (.cells cur S)/\P b S) w w'
def cj.of_below {P:Nat->TypeId->Prop}{w w':World}(h:Bw w w'):cj P w w':=Chg.of_below h
def cj.refl {P:Nat->TypeId->Prop}(w:World):cj P w w:=cj.of_below (Below.refl _ _)
def cj.trans {P:Nat->TypeId->Prop}{A B C:World}(h:cj P A B)(k:cj P B C):cj P A C:=by
 refine Chg.trans h k ?_;intro b hy;by_cases hb:b<A.heap.size
 . by_cases hx:∃cur S,A.heap[b]?=some (.cells cur S)/\P b S
   . obtain⟨cur,S,h1,h2⟩:=hx;have e:=Chg.block h b hb (λhn=>hn ⟨cur,S,h1,h2⟩);exact absurd ⟨cur,S,e.trans h1,h2⟩ hy
   . exact .inl hx
 . exact .inr zo
def cj.mono {P Q:Nat->TypeId->Prop}{w w':World}(h:cj P w w')(hP:∀b S,Q b S->P b S):cj Q w w':=
 ⟨h.os,h.tape,h.output,h.size,λk hk hy=>h.block k hk λhn=>hy λ⟨cur,S,h1,h2⟩=>hn ⟨cur,S,h1,hP _ _ h2⟩⟩
def cj.set {P:Nat->TypeId->Prop}{w:World}{b:Nat}{t:TypeId}{l:List Value}(hb:ar w b t l)(ht:¬P b t)(i:Nat)(u:Value):cj P w (w.setCell ⟨b,i,none⟩ u):=
 Le (Chg.refl _ w) b i u λ⟨cur,S,h1,h2⟩=>by have e:=h1.symm.trans hb;simp only[Option.some.injEq,Obj.cells.injEq]at e;exact ht (e.2.1▸h2)
def cj.stsF {P:Nat->TypeId->Prop}{b:Nat}{t:TypeId}(ht:¬P b t)(vs:List Value):∀(o:Nat) (w:World) (l:List Value),ar w b t l->cj P w (um b o vs w):=by
 induction vs with
 |nil=>intro o w l _;exact cj.refl w
 |cons v vs ih=>intro o w l hb;exact(cj.set hb ht o v).trans (ih _ _ _ (hb.set o v))
def cj.sts {P:Nat->TypeId->Prop}{w W:World}{b o:Nat}{t:TypeId}{l vs:List Value}(hb:ar w b t l)(k:aN w b o vs W)(ht:¬P b t):cj P w W:=by
 rcases k with rfl|rfl
 . exact cj.stsF ht vs o w l hb
 . exact(cj.of_below (Below.refl _ _).drew).trans (cj.stsF ht vs o w.drew l hb.drew)
def cj.own {P:Nat->TypeId->Prop}{w w':World}{base n size:Nat}{e:TypeId}{v:Value}{xs:List Value}(h:w.ownsRow base e size v n xs)(he:∀b,¬P b e)(hg:w.grownBy w' v.ownBlock):cj P w w':=
 Chg.az8 hg λb hb=>by obtain⟨cur,t,h1,rfl⟩:=vt h b hb;rintro⟨QQ,S,h2,h3⟩;have e:=h1.symm.trans h2;simp only[Option.some.injEq,Obj.cells.injEq]at e;exact he b (e.2.1▸h3)
def cj.blk {P:Nat->TypeId->Prop}{w w':World}{b:Nat}{t:TypeId}{cs:List Value}(k:cj P w w')(h:ar w b t cs)(ht:P b t):ar w' b t cs:=Chg.blk k h λhn=>hn ⟨_,_,h,ht⟩
def cj.row {P:Nat->TypeId->Prop}{w w':World}{base n size:Nat}{e:TypeId}{v:Value}{xs:List Value}(k:cj P w w')(h:w.ownsRow base e size v n xs)(he:∀b,base<=b->P b e):w'.ownsRow base e size v n xs:=
 UI h k λb hb hn=>by obtain⟨cur,t,h1,rfl⟩:=vt h b hb;exact hn ⟨cur,_,h1,he b (cE h b hb)⟩
def KT (w w':World):Prop:=cj (λ_=>nM) w w'
def KT.of_below {w w':World}(h:Bw w w'):KT w w':=cj.of_below h
def KT.set {w:World}{b:Nat}{t:TypeId}{l:List Value}(hb:ar w b t l)(ht:¬nM t)(i:Nat)(u:Value):KT w (w.setCell ⟨b,i,none⟩ u):=cj.set hb ht i u
def KT.sts {w W:World}{b o:Nat}{t:TypeId}{l vs:List Value}(hb:ar w b t l)(k:aN w b o vs W)(ht:¬nM t):KT w W:=cj.sts hb k ht
def TA (S:TypeId)(w:World)(a:Option Addr)(cs:List Value):Prop:=cs=[]\/∃b o cur,a=some ⟨b,o,none⟩/\w.heap[b]?=some (.cells cur S)/\∀j,j<cs.length->w.cell? ⟨b,o+j,none⟩=cs[j]?
def TA.at {S:TypeId}{w:World}{a:Option Addr}{cs:List Value}(h:TA S w a cs):At w a cs:=by
 rcases h with h|⟨b,o,cur,h1,_,h2⟩
 . exact .inl h
 . exact .inr ⟨b,o,h1,h2⟩
def TA.kt {S:TypeId}{w w':World}{a:Option Addr}{cs:List Value}(h:TA S w a cs)(k:KT w w')(hS:nM S):TA S w' a cs:=by
 rcases h with h|⟨b,o,cur,h1,hb,h2⟩
 . exact .inl h
 . have e:=Chg.block k b (Array.getElem?_eq_some_iff.1 hb).1 (λhn=>hn ⟨cur,S,hb,hS⟩);exact .inr ⟨b,o,cur,h1,e.trans hb,λj hj=>(World.cell?_of_block e).trans (h2 j hj)⟩
def TA.azY {w:World}{base n size:Nat}{e:TypeId}{v:Value}{xs:List Value}(h:w.ownsRow base e size v n xs):∃a cap,v=.slice a n cap/\n<=cap/\TA e w a xs:=by
 have ht:=vt h;obtain⟨a,c,rfl,hat,_⟩:=cw h;refine⟨a,c,rfl,BM h,?_⟩;rcases hat with hat|⟨b,o,rfl,hat⟩
 . exact .inl hat
 . obtain⟨cur,t,h1,rfl⟩:=ht b rfl;exact .inr ⟨b,o,cur,rfl,h1,hat⟩
def TA.azW {w:World}{b:Nat}{t:TypeId}{cs:List Value}(h:ar w b t cs):TA t w (some ⟨b,0,none⟩) cs:=
 .inr ⟨b,0,_,rfl,h,λj _=>by rw[Nat.zero_add];exact h.cell j⟩
def TblT (w:World)(a:Option Addr)(rows:List (List Raw)):Prop:=∃vals:List Value,vals.length=rows.length/\TA 63 w a vals/\∀i (h:i<rows.length) (h':i<vals.length),∃a1 c1,vals[i]=.slice a1 rows[i].length c1/\TA 45 w a1 (rows[i].flatMap aV)
def TblT.tbl {w:World}{a:Option Addr}{rows:List (List Raw)}(h:TblT w a rows):Tbl w a rows:=by obtain⟨vals,h1,h2,h3⟩:=h;refine⟨vals,h1,h2.at,λi p q=>?_⟩;obtain⟨a1,c1,h4,h5⟩:=h3 i p q;exact⟨a1,c1,h4,h5.at⟩
def TblT.kt {w w':World}{a:Option Addr}{rows:List (List Raw)}(h:TblT w a rows)(k:KT w w'):TblT w' a rows:=by obtain⟨vals,h1,h2,h3⟩:=h;refine⟨vals,h1,h2.kt k (.inr (.inl rfl)),λi p q=>?_⟩;obtain⟨a1,c1,h4,h5⟩:=h3 i p q;exact⟨a1,c1,h4,h5.kt k (.inr (.inr rfl))⟩
def TblT.below {w w':World}{a:Option Addr}{rows:List (List Raw)}(h:TblT w a rows)(k:Bw w w'):TblT w' a rows:=h.kt (KT.of_below k)
instance {w :World} {a:Option Addr} {rows:List (List Raw)}:QTr (TblT w a rows) w (λW=>TblT W a rows):=⟨λh _ k=>TblT.below h k⟩
def TblT.sts {w W:World}{a:Option Addr}{rows:List (List Raw)}{b o:Nat}{t:TypeId}{l vs:List Value}(h:TblT w a rows)(hb:ar w b t l)(k:aN w b o vs W)(ht:¬nM t:=by unfold nM;decide):TblT W a rows:=h.kt (KT.sts hb k ht)
def TblT.nil (w:World)(a:Option Addr):TblT w a []:=⟨[],rfl,.inl rfl,λi h=>absurd h (Nat.not_lt_zero _)⟩
def fL.typed {w:World}{base k:Nat}{R:List (List Raw)}{v:Value}(h:fL 63 w base (R.map λr=>r.map dval) k v)(hk:R.length=k):∃a c,v=.slice a k c/\k<=c/\TblT w a (R.map rD):=by
 obtain⟨vals,hl,ho,hi⟩:=h;obtain⟨a,c,hv,hc,hat⟩:=TA.azY ho;subst hv;refine⟨a,c,rfl,hc,vals,by simp[hl,hk],hat,λi h1 h2=>?_⟩;obtain⟨a1,c1,e1,_,e2⟩:=TA.azY (hi i h2);have hi1:i<R.length:=by simpa using h1
 have eg:(R.map λr=>r.map dval).getD i []=R[i].map dval:=by simp[hi1]
 rw[eg]at e1 e2;refine⟨a1,c1,?_,?_⟩
 . rw[e1];simp[LG]
 . rw[List.getElem_map,Rn];exact e2
structure DT (w:World)(x:Dv)(d:DmR):Prop where
 n:d.1.length=x.n
 m:d.2.length=x.m
 cap:x.m<=x.c'
 box:TA 88 w x.a (d.1.flatMap spC)
 row:TblT w x.a' d.2
def DT.kt {w w':World}{x:Dv}{d:DmR}(h:DT w x d)(k:KT w w'):DT w' x d:=⟨h.n,h.m,h.cap,h.box.kt k (.inl rfl),h.row.kt k⟩
def DT.dat {w:World}{x:Dv}{d:DmR}(h:DT w x d):DAt w x d:=⟨h.n,h.m,h.cap,h.box.at,h.row.tbl⟩
def DT.below {w w':World}{x:Dv}{d:DmR}(h:DT w x d)(k:Bw w w'):DT w' x d:=h.kt (KT.of_below k)
instance {w :World} {x:Dv} {d:DmR}:QTr (DT w x d) w (λW=>DT W x d):=⟨λh _ k=>DT.below h k⟩
def DT.sts {w W:World}{x:Dv}{d:DmR}{b o:Nat}{t:TypeId}{l vs:List Value}(h:DT w x d)(hb:ar w b t l)(k:aN w b o vs W)(ht:¬nM t:=by unfold nM;decide):DT W x d:=h.kt (KT.sts hb k ht)
def fy (w:World)(l:List Dv)(ds:List DmR):Prop:=l.length=ds.length/\∀k (h:k<l.length) (h2:k<ds.length),DT w l[k] ds[k]
def fy.kt {w w':World}{l:List Dv}{ds:List DmR}(h:fy w l ds)(k:KT w w'):fy w' l ds:=⟨h.1,λi h1 h2=>(h.2 i h1 h2).kt k⟩
def fy.below {w w':World}{l:List Dv}{ds:List DmR}(h:fy w l ds)(k:Bw w w'):fy w' l ds:=h.kt (KT.of_below k)
instance {w :World} {l:List Dv} {ds:List DmR}:QTr (fy w l ds) w (λW=>fy W l ds):=⟨λh _ k=>fy.below h k⟩
def fy.nil (w:World):fy w [] []:=⟨rfl,λk h=>absurd h (Nat.not_lt_zero _)⟩
def fy.snoc {w:World}{l:List Dv}{ds:List DmR}{x:Dv}{d:DmR}(h:fy w l ds)(hx:DT w x d):fy w (l++[x]) (ds++[d]):=by
 refine⟨by simp[h.1],λk h1 h2=>?_⟩;by_cases hk:k<l.length
 . rw[List.getElem_append_left hk,List.getElem_append_left (by rw[<-h.1];exact hk)];exact h.2 k hk _
 . have e:k=l.length:=by simp at h1;omega
   subst e;rw[List.getElem_append_right (Nat.le_refl _),List.getElem_append_right (by rw[h.1];exact Nat.le_refl _)];simp only[h.1,Nat.sub_self,List.getElem_cons_zero];exact hx
def fy.init {w:World}{l:List Dv}{ds:List DmR}(h:fy w l ds):fy w l.dropLast ds.dropLast:=by refine⟨by simp[h.1],λk h1 h2=>?_⟩;rw[List.getElem_dropLast,List.getElem_dropLast];exact h.2 k _ _
def fy.last {w:World}{l:List Dv}{ds:List DmR}(h:fy w l ds){L:Nat}(hl:ds.length=L+1)(h1:L<l.length):DT w l[L] (ds.getLastD default):=by
 have e:ds.getLastD default=ds[L]'zo:=by
  have e0:ds.length-1=L:=by omega
  rw[List.getLastD_eq_getLast?,List.getLast?_eq_getElem?,e0,List.getElem?_eq_getElem zo];rfl
 rw[e];exact h.2 L h1 _
end Go.Proofs.YtpfgffadgkkedaaGreatDoor
namespace Go.Proofs.YtpfgffadgkkedaaGreatDoor
open Go.RowKit
attribute [local go_sem ↓] Go.wp_at_zero Go.wp_at_succ
def TS (w:World)(a:Option Addr)(cs:List Value):Prop:=TA 88 w a cs
def TS.below {w w':World}{a:Option Addr}{cs:List Value}(h:TS w a cs)(k:Bw w w'):TS w' a cs:=TA.kt h (KT.of_below k) (.inl rfl)
instance {w :World} {a:Option Addr} {cs:List Value}:QTr (TS w a cs) w (λW=>TS W a cs):=⟨λh _ k=>TS.below h k⟩
def TS.sts {w W:World}{a:Option Addr}{cs:List Value}{b o:Nat}{t:TypeId}{l vs:List Value}(h:TS w a cs)(hb:ar w b t l)(k:aN w b o vs W)(ht:¬nM t:=by unfold nM;decide):TS W a cs:=TA.kt h (KT.sts hb k ht) (.inl rfl)
def aph (a:Option Addr)(cap n B:Nat)(rows:List (List Raw))(w:World)(hn:1<=n)(DC:n<=8)(hr:Rw n B rows)(ha:Tbl w a rows)(hB:B<=10000000)(hT:aB w):
 Cl 102 #[.slice a (n+1) cap] w λe w'=>∃a1 c1 a2 c2,e=.returned (.tuple #[.slice a1 (n+1) c1,.slice a2 (n+1) c2,af 0])/\n+1<=c1/\n+1<=c2/\
  TblT w' a1 (oU n false rows)/\TblT w' a2 (oU n true rows)/\Bw w w':=by
 obtain⟨i,j,Y,hF⟩:∃i j Y,gZ (gz rows n) (n+1)=(i,j,Y):=⟨_,_,_,rfl⟩;refine(api a (n+1) cap n rows B i j Y w hr.1 (awb hr hn DC) hn ha hr.2.2 hB hT hF).mono ?_;rintro e w' ⟨a1,c1,a2,c2,mid,rfl,cX,fH,hb⟩;obtain⟨b1,d1,e1,h1,t1⟩:=cX.aAp.typed (by rw[List.length_set];exact hr.1);obtain⟨b2,d2,e2,h2,t2⟩:=fH.typed (by rw[List.length_set];exact hr.1);simp only[Value.slice.injEq,true_and]at e1 e2;obtain⟨rfl,rfl⟩:=e1;obtain⟨rfl,rfl⟩:=e2;unfold oU tG;rw[hF];exact⟨a1,c1,a2,c2,rfl,h1,h2,t1,t2,hb⟩
def alf (a:Option Addr)(L cap B:Nat)(bx:List (Raw×Raw))(i:Nat)(w:World)(hL:bx.length=L)(hi:i<L)(hl:L<=1000)(hf:kJ B bx)(hB:B<=1000000)(ha:At w a (bx.flatMap spC))(hT:aB w):
 Cl 103 #[.slice a L cap,af (i:Int)] w λe w'=>∃g1 g2,e=.returned (.tuple #[.slice (some ⟨g1,0,none⟩) L L,.slice (some ⟨g2,0,none⟩) L L,af 0])/\TS w' (some ⟨g1,0,none⟩) (((jw (bx.map aY) i false).map kG).flatMap spC)/\TS w' (some ⟨g2,0,none⟩) (((jw (bx.map aY) i true).map kG).flatMap spC)/\Bw w w':=
 (alg a L cap B bx i w hL hi hl hf hB ha hT).mono λ_ _ ⟨g1,g2,h1,_,_,h4,h5,h6⟩=>⟨g1,g2,h1,TA.azW h4,TA.azW h5,h6⟩
def Kz (d:DmR)(n m:Nat)(w:World)(e:Ending)(w':World):Prop:=
 ∃(a1:Option Addr) (c1:Nat) (b1:Option Addr) (e1:Nat) (a2:Option Addr) (c2:Nat) (b2:Option Addr) (e2:Nat),e=.returned (.tuple #[.agg #[.slice a1 n c1,.slice b1 m e1],.agg #[.slice a2 n c2,.slice b2 m e2],af 0])/\
  DT w' ⟨a1,n,c1,b1,m,e1⟩ (fg false d)/\DT w' ⟨a2,n,c2,b2,m,e2⟩ (fg true d)/\Bw w w'
def amV (d:DmR)(n m B:Nat)(a a':Option Addr)(cap cap':Nat)(w:World)(hn:d.1.length=n)(hm:d.2.length=m)(hb:At w a (d.1.flatMap spC))(ha:Tbl w a' d.2)(hf:iy B d)(hB:B<=200000)(kr:m<=5)(hcap:m<=cap')(hT:aB w)(hk:fR d):
 Cl 39 #[.agg #[.slice a n cap,.slice a' m cap']] w (Kz d n m w):=by
 have h20:n<=1000:=by
  rcases rB hk hf zo with⟨_,_,h,_⟩ |⟨_,_,h,_⟩
  . rw[h]at hn;simp at hn;omega
  . omega
 have cN:=λW (hW:Bw w W)=>ZA d.1 d.2 n m B a a' cap cap' 0 W hn hm (hb.below hW) (ha.below hW) hf.1 hf.2 zo h20 kr hcap (hT.below hW) (by have h:=hk;unfold fR at h;rw[hn,hm]at h;exact h);have hlen:=λup=>IM hk hf zo zo up;have fQ:=aj cN;rcases rB hk hf zo with⟨q,hq,h1,hr,hl,h0⟩ |⟨h1,h2,h6,h0⟩
 . obtain rfl:m=q+2:=by omega
   obtain rfl:n=0:=by rw[<-hn,h1];rfl
   have e:=λup=>(show fg up d=([],oU (q+1) up d.2)by unfold fg;rw[if_pos zo,hl];rfl);have GU:=λW (hW:Bw w W)=>aph a' cap' (q+1) B d.2 W zo zo hr (ha.below hW) zo (hT.below hW);have hl0:(oU (q+1) false d.2).length=q+2:=by have h:=(hlen false).2.2.2;rw[e]at h;exact h.trans hl
   have gq:(oU (q+1) true d.2).length=q+2:=by have h:=(hlen true).2.2.2;rw[e]at h;exact h.trans hl
   unfold Kz;rw[e,e];have tO:=λW=>IZ 0 (q+2) a a' cap cap' false true zm zm W;generalize oU (q+1) false d.2=T1 at*;generalize oU (q+1) true d.2=T2 at*;obtain⟨xJ,zP,jV,zQ⟩:=cG GU tO hl0 gq;clear cN hlen hb ha hf hT hk hn hm hr hl h0 h1 e GU tO hl0 gq;have Hb:=hbz w;go_enter Tryz.func39,Tryz.ntmps39;go_wp2_with fail;refine yZ w (Hb.an trivial) 27 [.slice a 0 cap,.slice a' (q+2) cap'] 27 [.slice none 0 0,.slice none 0 0] 27 [.slice none 0 0,.slice none 0 0] λW aG ae ai=>?_;go_wp2_with fail;refine aK ae (fQ.out _ ae.2.2.2.1.out) λw1 ae ai=>?_;go_wp2_with fail;refine aK ae (zP.out _) λw2 ae ai=>?_;go_wp2_with fail;refine(xJ.out _ ae.2.2.2.1.out).mono ?_;rintro e w3 ⟨a1,c1,a2,c2,rfl,hc1,hc2,ht1,ht2,ak⟩;obtain⟨ae,ai⟩:=qX ak ae;have HA:Hid (TblT w3 a1 T1):=ht1;have HB:Hid (TblT w3 a2 T2):=ht2;clear ht1 ht2;have vI:=HA;have Wm:=HB;have xQ:=ae.2.1;have uC:=ae.2.2.1;go_upto_region 7 with fail
   first|refine eN (λil=>∃eI,aN w3 (w.heap.size+1) 1 [.slice a1 (q+2) c1] eI/\aN eI (w.heap.size+1+1) 1 [.slice a2 (q+2) c2] il) ⟨_,aR,aR⟩ ?_|refine eJ (λil=>∃eI,aN w3 (w.heap.size+1) 1 [.slice a1 (q+2) c1] eI/\aN eI (w.heap.size+1+1) 1 [.slice a2 (q+2) c2] il) ⟨_,aR,aR⟩ ?_
   rintro W4 ⟨_,hs0,hs1⟩;have ae:=bC hs1 (bC hs0 ae);simp only[bD,List.set]at ae;have ai:=qC ae;have iV:TblT W4 a1 T1:=(vI.out.sts xQ.out hs0).sts (kS uC hs0 zo).out hs1;have pk:TblT W4 a2 T2:=(Wm.out.sts xQ.out hs0).sts (kS uC hs0 zo).out hs1;have HA:Hid (TblT W4 a1 T1):=iV;have HB:Hid (TblT W4 a2 T2):=pk;clear iV pk vI Wm xQ uC;have ae:=HA.an<|HB.an ae
   have ae:=And.intro ae.1<|And.intro ae.2.1<|And.intro ae.2.2.1<|And.intro ae.2.2.2.1<|And.intro ae.2.2.2.2.2.1<|And.intro ae.2.2.2.2.1 trivial
   refine cQ 5 (ae.2.2.2.2.2) (cJ 6 0xa0806000503) ?_;refine bo ?_;have ai:=qC ae;refine qOp λK hK=>?_;go_simp;refine hK _ _ (by first|exact λ_=>QIm.out ae|exact λ_=>QIm.out (Va (w:=W4) ae)) ?_;try simp only[UU]
   have ai:=qC ae;refine qOp λK hK=>?_;go_simp;refine BO (aN W4 (w.heap.size+1) 0 [.slice none 0 0,.slice a1 (q+2) c1]) aR ?_;intro W5 hs0;have cn:=ae;have ae:=bC hs0 cn;simp only[bD,List.set]at ae;have HA:Hid (TblT W5 a1 T1):=cn.1.out.sts cn.2.2.2.1.out hs0;have HB:Hid (TblT W5 a2 T2):=cn.2.1.out.sts cn.2.2.2.1.out hs0;have ae:=HA.an<|HB.an ae
   have ai:=qC ae;refine hK _ _ (λ_=>QIm.out ae) ?_;try simp only[UU]
   have ai:=qC ae;refine qOp λK hK=>?_;go_simp;refine BO (aN W5 (w.heap.size+1+1) 0 [.slice none 0 0,.slice a2 (q+2) c2]) aR ?_;intro W6 hs0;have cn:=ae;have ae:=bC hs0 cn;simp only[bD,List.set]at ae;have HA:Hid (TblT W6 a1 T1):=cn.1.out.sts cn.2.2.2.2.2.2.2.1.out hs0;have HB:Hid (TblT W6 a2 T2):=cn.2.1.out.sts cn.2.2.2.2.2.2.2.1.out hs0;have ae:=HA.an<|HB.an ae
   have ai:=qC ae;refine hK _ _ (λ_=>QIm.out ae) ?_;try simp only[UU]
   have ai:=qC ae;refine qOp λK hK=>?_;go_simp;refine hK _ _ (λh=>absurd h zd) ?_;try simp only[UU]
   refine cP ae λai=>?_;go_wp2;exact bodyPost_ret (v:=.tuple #[.agg #[.slice none 0 0,.slice a1 (q+2) c1],.agg #[.slice none 0 0,.slice a2 (q+2) c2],af 0]) (by simp[results,Tryz.results39,go_sem,ai]) rfl ⟨none,0,a1,c1,none,0,a2,c2,rfl,⟨rfl,jV.out,hc1,.inl rfl,ae.1.out⟩,⟨rfl,zQ.out,hc2,.inl rfl,ae.2.1.out⟩,ae.2.2.2.2.2.2.2.2.1.out⟩
 . obtain rfl:m=0:=by rw[<-hm,h1];rfl
   have e:=λup=>(show fg up d=((jw (d.1.map aY) (qP (d.1.map aY)) up).map kG,[])by unfold fg;rw[if_neg zo]);have qF:=λW (hW:Bw w W)=>ali a n cap B d.1 W hn zo zo hf.1 zo (hb.below hW) (hT.below hW);have hw:=VU (bx:=d.1.map aY) (by rw[List.length_map];omega);rw[List.length_map,hn]at hw;have GU:=λW (hW:Bw w W)=>alf a n cap B d.1 (qP (d.1.map aY)) W hn hw zo hf.1 zo (hb.below hW) (hT.below hW);have hl0:((jw (d.1.map aY) (qP (d.1.map aY)) false).map kG).length=n:=by have h:=(hlen false).2.2.1;rw[e]at h;exact h.trans hn
   have gq:((jw (d.1.map aY) (qP (d.1.map aY)) true).map kG).length=n:=by have h:=(hlen true).2.2.1;rw[e]at h;exact h.trans hn
   unfold Kz;rw[e,e];have tO:=λW=>IZ n 0 a a' cap cap' true false zi zm W;generalize (jw (d.1.map aY) (qP (d.1.map aY)) false).map kG=T1 at*;generalize (jw (d.1.map aY) (qP (d.1.map aY)) true).map kG=T2 at*;generalize qP (d.1.map aY)=x at*;obtain⟨xJ,Qd,zP,jV,zQ⟩:=eD GU qF tO hl0 gq;clear cN hlen hb ha hf hT hk hn hm h0 h1 e GU qF tO hl0 gq hw;have Hb:=hbz w;go_enter Tryz.func39,Tryz.ntmps39;go_wp2_with fail;refine yZ w (Hb.an trivial) 27 [.slice a n cap,.slice a' 0 cap'] 27 [.slice none 0 0,.slice none 0 0] 27 [.slice none 0 0,.slice none 0 0] λW aG ae ai=>?_;go_wp2_with fail;refine aK ae (fQ.out _ ae.2.2.2.1.out) λw1 ae ai=>?_;go_wp2_with fail;refine aK ae (zP.out _) λw2 ae ai=>?_;go_wp2_with fail;have ae:=And.intro ae.2.1<|And.intro ae.2.2.1<|And.intro ae.2.2.2.1<|And.intro ae.1 trivial
   refine cQ 14 (ae.2.2.2) (cJ 15 0x1c1a19161513110f0d0a0807050301) ?_;refine bo ?_;refine bP ae (Qd.out _ (qU ae.2.2.1.out)) λw3 ae=>?_;refine qOp λK hK=>?_;go_simp;with_reducible refine(xJ.out _ ae.2.2.1.out).mono ?_
   rintro e w4 ⟨g1,g2,rfl,hb1,hb2,hq⟩;refine kE hK hq ae λae=>?_;clear hK K hq;have HA:=aj hb1;clear hb1;have HB:=aj hb2;clear hb2;have ae:=HA.an<|HB.an ae
   refine bo ?_;have ai:=qC ae;refine qOp λK hK=>?_;go_simp;refine BO (aN w4 (w.heap.size+1) 0 [.slice (some ⟨g1,0,none⟩) n n]) aR ?_;intro W5 hs0;have cn:=ae;have ae:=bC hs0 cn;simp only[bD,List.set]at ae;have HA:Hid (TS W5 (some ⟨g1,0,none⟩) (T1.flatMap spC)):=cn.1.out.sts cn.2.2.1.out hs0;have HB:Hid (TS W5 (some ⟨g2,0,none⟩) (T2.flatMap spC)):=cn.2.1.out.sts cn.2.2.1.out hs0;have ae:=HA.an<|HB.an ae
   have ai:=qC ae;refine hK _ _ (λ_=>QIm.out ae) ?_;try simp only[UU]
   refine bo ?_;have ai:=qC ae;refine qOp λK hK=>?_;go_simp;refine BO (aN W5 (w.heap.size+1+1) 0 [.slice (some ⟨g2,0,none⟩) n n]) aR ?_;intro W6 hs0;have cn:=ae;have ae:=bC hs0 cn;simp only[bD,List.set]at ae;have HA:Hid (TS W6 (some ⟨g1,0,none⟩) (T1.flatMap spC)):=cn.1.out.sts cn.2.2.2.2.2.1.out hs0;have HB:Hid (TS W6 (some ⟨g2,0,none⟩) (T2.flatMap spC)):=cn.2.1.out.sts cn.2.2.2.2.2.1.out hs0;have ae:=HA.an<|HB.an ae
   have ai:=qC ae;refine hK _ _ (λ_=>QIm.out ae) ?_;try simp only[UU]
   have ai:=qC ae;refine qOp λK hK=>?_;go_simp;refine hK _ _ (λh=>absurd h zd) ?_;try simp only[UU]
   refine cP ae λai=>?_;go_wp2_with fail;have ae:=And.intro ae.1<|And.intro ae.2.1<|And.intro ae.2.2.2.2.2.2.1<|And.intro ae.2.2.2.2.2.2.2.2.1<|And.intro ae.2.2.2.2.2.2.2.2.2.1<|And.intro ae.2.2.2.2.2.2.2.1 trivial
   refine cQ 5 (ae.2.2.2.2.2) (cJ 6 0xa0806000503) ?_;refine bo ?_;have ai:=qC ae;refine qOp λK hK=>?_;go_simp;refine hK _ _ (by first|exact λ_=>QIm.out ae|exact λ_=>QIm.out (Va (w:=W6) ae)) ?_;try simp only[UU]
   have ai:=qC ae;refine qOp λK hK=>?_;go_simp;refine BO (aN W6 (w.heap.size+1) 0 [.slice (some ⟨g1,0,none⟩) n n,.slice none 0 0]) aR ?_;intro W7 hs0;have cn:=ae;have ae:=bC hs0 cn;simp only[bD,List.set]at ae;have HA:Hid (TS W7 (some ⟨g1,0,none⟩) (T1.flatMap spC)):=cn.1.out.sts cn.2.2.1.out hs0;have HB:Hid (TS W7 (some ⟨g2,0,none⟩) (T2.flatMap spC)):=cn.2.1.out.sts cn.2.2.1.out hs0;have ae:=HA.an<|HB.an ae
   have ai:=qC ae;refine hK _ _ (λ_=>QIm.out ae) ?_;try simp only[UU]
   have ai:=qC ae;refine qOp λK hK=>?_;go_simp;refine BO (aN W7 (w.heap.size+1+1) 0 [.slice (some ⟨g2,0,none⟩) n n,.slice none 0 0]) aR ?_;intro W8 hs0;have cn:=ae;have ae:=bC hs0 cn;simp only[bD,List.set]at ae;have HA:Hid (TS W8 (some ⟨g1,0,none⟩) (T1.flatMap spC)):=cn.1.out.sts cn.2.2.2.2.2.2.2.1.out hs0;have HB:Hid (TS W8 (some ⟨g2,0,none⟩) (T2.flatMap spC)):=cn.2.1.out.sts cn.2.2.2.2.2.2.2.1.out hs0;have ae:=HA.an<|HB.an ae
   have ai:=qC ae;refine hK _ _ (λ_=>QIm.out ae) ?_;try simp only[UU]
   have ai:=qC ae;refine qOp λK hK=>?_;go_simp;refine hK _ _ (λh=>absurd h zd) ?_;try simp only[UU]
   refine cP ae λai=>?_;go_wp2;exact bodyPost_ret (v:=.tuple #[.agg #[.slice (some ⟨g1,0,none⟩) n n,.slice none 0 0],.agg #[.slice (some ⟨g2,0,none⟩) n n,.slice none 0 0],af 0]) (by simp[results,Tryz.results39,go_sem,ai]) rfl ⟨some ⟨g1,0,none⟩,n,none,0,some ⟨g2,0,none⟩,n,none,0,rfl,⟨jV.out,rfl,Nat.le_refl _,ae.1.out,TblT.nil _ _⟩,⟨zQ.out,rfl,Nat.le_refl _,ae.2.1.out,TblT.nil _ _⟩,ae.2.2.2.2.2.2.2.1.out⟩
def TA.grown {S e:TypeId}{w w':World}{a:Option Addr}{cs:List Value}{base n size:Nat}{v:Value}{xs:List Value}(h:TA S w a cs)(ho:w.ownsRow base e size v n xs)(he:e≠S)(hg:w.grownBy w' v.ownBlock):TA S w' a cs:=by
 rcases h with h|⟨b,o,cur,h1,hb,h2⟩
 . exact .inl h
 . have hne:some b≠v.ownBlock:=λe1=>by obtain⟨QQ,t,h3,rfl⟩:=vt ho b e1.symm;have e2:=h3.symm.trans hb;simp only[Option.some.injEq,Obj.cells.injEq]at e2;exact he e2.2.1
   have e:=hg.block b (Array.getElem?_eq_some_iff.1 hb).1 hne;exact .inr ⟨b,o,cur,h1,e.trans hb,λj hj=>(World.cell?_of_block e).trans (h2 j hj)⟩
def TA.below {S:TypeId}{w w':World}{a:Option Addr}{cs:List Value}(h:TA S w a cs)(hb:Bw w w'):TA S w' a cs:=by
 rcases h with h|⟨b,o,cur,h1,hh,h2⟩
 . exact .inl h
 . have e:=hb.block b (Array.getElem?_eq_some_iff.1 hh).1;exact .inr ⟨b,o,cur,h1,e.trans hh,λj hj=>(World.cell?_of_block e).trans (h2 j hj)⟩
def lR (w:World)(base:Nat)(S:List (List Raw))(k:Nat)(v:Value):Prop:=
 ∃vals:List Value,vals.length=k/\w.ownsRow base 63 1 v k vals/\∀i (h:i<vals.length),∃a c,vals[i]=.slice a (S.getD i []).length c/\TA 45 w a ((S.getD i []).flatMap aV)
def lR.nil (w:World)(base:Nat)(S:List (List Raw)):lR w base S 0 (.slice none 0 0):=
 ⟨[],rfl,World.ownsRow_nil _ _ _ _,λ_ h=>absurd h (Nat.not_lt_zero _)⟩
def lR.below {w w':World}{base k:Nat}{S:List (List Raw)}{v:Value}(h:lR w base S k v)(hb:Bw w w'):lR w' base S k v:=by obtain⟨vals,hl,ho,hi⟩:=h;refine⟨vals,hl,ownsRow_below ho hb,λi h=>?_⟩;obtain⟨a,c,h1,h2⟩:=hi i h;exact⟨a,c,h1,h2.below hb⟩
instance {w :World} {base k:Nat} {S:List (List Raw)} {v:Value}:QTr (lR w base S k v) w (λW=>lR W base S k v):=⟨λh _ k=>lR.below h k⟩
def lR.set {w:World}{base k b:Nat}{S:List (List Raw)}{v:Value}{t:TypeId}{l:List Value}(h:lR w base S k v)(hb:ar w b t l)(ht:¬nM t)(i:Nat)(u:Value):lR (w.setCell ⟨b,i,none⟩ u) base S k v:=by obtain⟨vals,hl,ho,hi⟩:=h;refine⟨vals,hl,ownsRow_setCell_other ho (λe=>hb.not_row (λe2=>ht (by rw[e2];exact .inr (.inl rfl))) ho e.symm) _,λj h=>?_⟩;obtain⟨a,c,h1,h2⟩:=hi j h;exact⟨a,c,h1,h2.kt (KT.set hb ht i u) (.inr (.inr rfl))⟩
def lR.tbl {w:World}{base k:Nat}{S:List (List Raw)}{v:Value}(h:lR w base S k v)(hk:S.length=k):∃a c,v=.slice a k c/\k<=c/\TblT w a S:=by obtain⟨vals,hl,ho,hi⟩:=h;obtain⟨a,c,rfl,hc,hat⟩:=TA.azY ho;refine⟨a,c,rfl,hc,vals,by simp[hl,hk],hat,λi h1 h2=>?_⟩;have:=hi i h2;rwa [show S.getD i []=S[i]by simp[h1]]at this
def awF {w:World}{o:Oper}{a:Act}{K:Act->World->Prop}{Q:Exit->Act->World->Prop}(s x:Operand)
 (ho:o.op=.call {callee:=.builtin .append,args:=#[s,x],argTypes:=#[25,25]})
 (base:Nat) (i:TypeInfo) (z:Value) (hi:Tryz.prog.info? 63=Option.some i) (hz:i.zero=Option.some z)
 (hsize:i.size=1) (hby:i.bytes=24) (hzs:z.cells.size=1)
 (v:Value) (k:Nat) (S:List (List Raw)) (hs:a.eval s=v) (hown:lR w base S k v)
 (g:Nat) (c:Nat) (a1:Option Addr) (c1:Nat) (hx:a.eval x=.slice (some ⟨g,0,none⟩) 1 c) (hc:w.cell? ⟨g,0,none⟩=some (.slice a1 (S.getD k []).length c1)) (hp:TA 45 w a1 ((S.getD k []).flatMap aV))
 (hk:k<=1000) (hbase:base<=w.heap.size)
 (h:∀v' w',lR w' base S (k+1) v'->∀vals,w.ownsRow base 63 1 v k vals->w.grownBy w' v.ownBlock->K (a.put o.dst v') w'):o.wp Tryz.prog a w K Q:=by
 obtain⟨vals,hl,how,hi2⟩:=hown;refine wp_append_own w s x 25 ho base 63 i z 1 24 Tryz.underlying25 hi hz hsize hby hzs zd v k vals hs how ⟨g,0,none⟩ 1 c [.slice a1 (S.getD k []).length c1] hx rfl (λj u hj=>?_) (λu hu=>?_) (by unfold maxLen;omega) zo hbase (λv' w' h2 h3 _=>?_)
 . have Mo:j=0:=by have:=(List.getElem?_eq_some_iff.1 hj).1;simp at this;omega
   subst Mo;simp at hj;subst hj;exact hc
 . simp only[List.mem_singleton]at hu;subst hu;rfl
 . refine h v' w' ⟨_,by simp[hl],h2,λi hi3=>?_⟩ vals how h3;by_cases hk2:i<vals.length
   . rw[List.getElem_append_left hk2];obtain⟨a,c,h5,h6⟩:=hi2 i hk2;exact⟨a,c,h5,h6.grown how zd h3⟩
   . have hik:i=k:=by simp at hi3;omega
     subst hik;rw[List.getElem_append_right zo];simp only[hl,Nat.sub_self,List.getElem_cons_zero];exact⟨a1,c1,rfl,hp.grown how zd h3⟩
def as8 (d:DmR)(n m:Nat)(a a':Option Addr)(cap cap':Nat)(w:World)(hn:d.1.length=n)(hm:d.2.length=m)(dK:n<=1000)(kr:m<=5)(hs:Sl a n cap)(hcap:m<=cap')(hb:At w a (d.1.flatMap spC))(ha:Tbl w a' d.2)(hr:∀r∈d.2,0<r.length/\r.length<=8):
 Cl 93 #[.agg #[.slice a n cap,.slice a' m cap']] w λe w'=>∃(a1:Option Addr) (c1:Nat) (b1:Option Addr) (e1:Nat),e=.returned (.agg #[.slice a1 n c1,.slice b1 m e1])/\DT w' ⟨a1,n,c1,b1,m,e1⟩ d/\Bw w w':=by
 obtain⟨i0,hi,hz0,hz1,hz2⟩:=info_parts Tryz.azX;obtain⟨j0,hj,hy0,hy1,hy2⟩:=info_parts Tryz.aAc;obtain⟨s0,hs0,hx0,hx1,hx2⟩:=info_parts Tryz.az5;obtain⟨Hi,cu,bV,bX,Hj,kR,jF,kU,uC,rp,KD,uE⟩:=gL hi hz0 hz1 hz2 hj hy0 hy1 hy2 hs0 hx0 hx1 hx2;obtain⟨Hn,Hm,uD,HB,HT,HR,Hl,xM⟩:=nk hn hm hs hb ha hr (show(d.1.flatMap spC).length=n*6 by rw[Vw,hn]) (afA d.1);clear hi hz0 hz1 hz2 hj hy0 hy1 hy2 hs0 hx0 hx1 hx2 hn hm hs hb ha hr;obtain⟨FW,Sv⟩:∃l,d.1.flatMap spC=l:=⟨_,rfl⟩;rw[Sv]at HB Hl xM;have ahB:=aj Sv;clear Sv;obtain⟨W,cd,ae,ai⟩:=kF w 27 [.slice a n cap,.slice a' m cap'] 27 [.slice none 0 0,.slice none 0 0];have su:=ae.1;have zK:=ae.2.1;have Cu:=ae.2.2.1;have hWz:w.heap.size<W.heap.size:=zK.out.lt;have hWr:w.heap.size+1<W.heap.size:=Cu.out.lt;go_enter Tryz.func93,Tryz.ntmps93;go_wp2_with (at_builtin;refine uo rfl _ _ 23 rfl W.heap.size 88 s0 _ 6 64 Tryz.underlying23 uC.out rp.out KD.out uE.out rfl zd _ 0 [] rfl (World.ownsRow_made W #[] 0 (Nat.le_refl _) (Nat.zero_le _) zm) a n cap FW rfl uD.out Hl.out (HB.out.below (aF su.out ((Below.refl _ W).alloc (Nat.le_refl _) _))) xM.out zx zo zm ?_;intro v1 w2 cX hg1 wR;rw[Nat.zero_add,List.nil_append]at cX;obtain⟨a1,c1,rfl,_,adn⟩:=TA.azY cX;have hb1:=((Below.refl _ W).alloc (Nat.le_refl _) (.cells #[] 88)).grown hg1 zm (λk hk=>by have h9:W.heap.size=k:=Option.some.inj hk;omega);have hd2:=zK.out.below hb1;have e1:w2.cell? ⟨w.heap.size,1,none⟩=some (.slice a' m cap'):=hd2.cell 1;have lz9:w.heap.size<w2.heap.size:=hd2.lt);have ve:TS w2 a1 FW:=adn;obtain⟨Hd,Hr,Hb⟩:=bM (zK.out.below hb1) (Cu.out.below hb1) (aF su.out hb1);have adk:=hb1.size;clear cX hb1 hg1 wR zK Cu su adn ae ai;obtain⟨ae,ai⟩:=qZ (Hd.an<|Hr.an trivial);have HA:Hid (TS w2 a1 FW):=ve;clear ve;have aG:=qL (Hb.an<|HA.an ae);go_wp2_with fail;refine cF w2 (Hb.an<|HA.an ae) 27 [.slice a1 n c1,.slice none 0 0] λW3 aG ae ai=>?_;have su:=ae.2.1;have Po:=ae.1;have Cu:=ae.2.2.2.2.1;have Wl:=ae.2.2.1;have hW3:w2.heap.size<W3.heap.size:=Po.out.lt;go_wp2_with fail;go_loopw[14] (λx wr=>∃(k:Nat) (v:Value),k<=m/\x=af (k:Int)/\lR wr W3.heap.size d.2 k v/\ar wr w2.heap.size 27 [.slice a1 n c1,v]/\ar wr (w.heap.size+1) 27 [.slice none 0 0,.slice none 0 0]/\TS wr a1 FW/\Bw w wr/\W3.heap.size<=wr.heap.size) (λx _=>m-(intOf x).toNat);case atStart=>exact⟨0,_,Nat.zero_le _,rfl,lR.nil _ _ _,Po.out,Cu.out,Wl.out,su.out,Nat.le_refl _⟩
 case round=>
  clear su Po Cu Wl ae ai;obtain⟨k,v,hk,rfl,hy,ho,hr,hA,pb,hsz⟩:=hrel;obtain⟨HY,Ho,Hr,HA,fB⟩:=eD hy ho hr hA pb;clear hy ho hr hA pb;by_cases hlt:k<m
  . have hkr:k<d.2.length:=by rw[Hm.out];exact hlt
    obtain⟨b,o,a3,c3,hab,hc3,tH⟩:=(HT.out.below fB.out).row k hkr;obtain⟨hp0,kv⟩:=HR.out _ (List.getElem_mem hkr);have aX:=ng m cap' k (k:Int) hab hlt rfl;rw[Nat.mul_one]at aX;have qi:d.2.getD k []=d.2[k]:=by simp[hkr]
    generalize d.2[k]=p at*;obtain⟨pn,mz⟩:=au p.length;rw[mz]at hc3 hp0 kv;have gq:(p.flatMap aV).length=pn*3:=by rw[iD aV 3 (λ_=>rfl),mz]
    obtain⟨b3,o3,rfl,hcs⟩:=tH.get (λe=>by rw[e]at gq;simp at gq;omega);have Hp:Hid (aQ wr b (o+k) [.slice (some ⟨b3,o3,none⟩) pn c3]):=λi hi=>by
     obtain rfl:i=0:=by simp at hi;omega
     exact hc3
    have Kb:Hid (∀j u,(p.flatMap aV)[j]?=some u->wr.cell? ⟨b3,o3+j,none⟩=some u):=λj u hj=>by rw[hcs j (List.getElem?_eq_some_iff.1 hj).1];exact hj
    obtain⟨Xw,zQ,mN⟩:=bM qi gq mz;clear hab hc3 tH hcs qi gq mz;have Hb:=hbz wr;have Cr:=Ho;obtain⟨ae,ai⟩:=qZ (Ho.an<|Hp.an trivial);go_wp2_with fail;obtain⟨Ho,Hp,_⟩:=ae;obtain⟨o0,Gi,o1,Gj⟩:=Ho.out.g2;have p0:=Hp.out.w1;refine fx (λw'=>aJ w' (w2.heap.size) 0 (.slice a1 n c1)/\aJ w' (w2.heap.size) 1 (v)) (λi=>Nat.blt i 8) [(0,true),(1,true),(3,true),(2,false),(4,false),(5,false),(6,false),(7,true),(8,false)] zk zk rfl zk zc ⟨o0,o1⟩ ?_;iterate 3 (refine pT rfl rfl ?_ (by intro w' ⟨q0,q1⟩;go_simp;try with_reducible rfl);try simp only[UU])
    refine aO rfl rfl (λK hK=>?_);go_simp;refine hK _ _ (λ_=>⟨aM o0,aM o1⟩) ?_;try simp only[UU]
    refine cg (λW4=>ar W4 (wr.heap.size) 45 ([])/\Bw wr W4) (by first|exact iY|exact iZ) ?_;rintro W4 ⟨qz,ak⟩;have ay3:=Ho.out.lt;replace Ho:=kB Ho ak;replace Hp:=kW Hp ak;have Hz:=aj qz;clear qz;obtain⟨o0,Gi,o1,Gj⟩:=Ho.out.g2;have p0:=Hp.out.w1;replace Hb:=bj Hb ak;refine aO rfl rfl (λK hK=>?_);have MQ:=Jh (base:=wr.heap.size) (n:=0) (size:=3) Hz.out (Nat.le_refl _) rfl zd;have hb4:=Hb.out;have TD:=hb4.size;have hnews:∀j u,(p.flatMap aV)[j]?=some u->W4.cell? ((⟨b3,o3,none⟩:Addr).add j)=some u:=λj u hj=>by
     have h9:=cell_later hb4 (Kb.out j u hj);have e9:((⟨b3,o3,none⟩:Addr).add j)=⟨b3,o3+j,none⟩:=by unfold Addr.add;cases j<;>rfl
     rw[e9];exact h9
    have jQ:=Ho.out;have hy4:=HY.out.below hb4;refine wp_append_own _ _ _ 63 rfl wr.heap.size 45 i0 _ 3 32 Tryz.underlying63 Hi.out cu.out bV.out bX.out rfl zd _ 0 [] rfl MQ ⟨b3,o3,none⟩ pn c3 (p.flatMap aV) rfl zQ.out hnews (Ef _) zx zo TD ?_;intro v5 w5 pg iR _;rw[Nat.zero_add,List.nil_append]at pg;have rI:=jQ.row zd MQ iR;have dv:=hb4.grown iR TD (λj e=>cE MQ j e);have hy5:=HY.out.below dv;obtain⟨a5,c5,rfl,_,ado⟩:=TA.azY pg;refine hK _ _ (λ_=>⟨rI.cell 0,rI.cell 1⟩) ?_;try simp only[UU]
    refine aO rfl rfl (λK hK=>?_);go_simp;refine hK _ _ (λ_=>⟨aM (rI.cell 0),aM (rI.cell 1)⟩) ?_;try simp only[UU]
    refine cg (λW6=>ar W6 w5.heap.size 63 [.slice a5 pn c5]/\Bw w5 W6) (by first|exact iY|exact iZ) ?_;rintro W6 ⟨qx,Md⟩;have wG:=aF dv Md;have acM:=rI.below Md;have hy6:=HY.out.below wG;have adp:=ado.below Md;have jS:=wG.size;refine aO rfl rfl (λK hK=>?_);refine awF _ _ rfl W3.heap.size j0 _ Hj.out kR.out jF.out kU.out rfl v k d.2 rfl hy6 w5.heap.size 1 a5 c5 rfl (by rw[Xw.out,mN.out];exact qx.cell 0) (by rw[Xw.out];exact adp) zo zo ?_;intro v7 w7 dA vals IL eo;obtain⟨a7,c8,rfl⟩:∃a c,v7=.slice a (k+1) c:=by obtain⟨_,_,ho,_⟩:=dA;obtain⟨a,c,e,_⟩:=cw ho;exact⟨a,c,e⟩
    have DG:=acM.row zd IL eo;have dM:=aF fB.out wG;have gS:=dM.grown eo dM.size (λj e=>by have:=cE IL j e;omega);have IG:=(Hr.out.below wG).row zd IL eo;have hA7:TS w7 a1 FW:=(HA.out.below wG).grown IL zd eo;have hs7:=eo.size;refine hK _ _ (λ_=>⟨DG.cell 0,DG.cell 1⟩) ?_;try simp only[UU]
    refine pT rfl rfl ?_;try simp only[UU]
    have fz7:=DG.free 1;have c7:w7.cell? ⟨w2.heap.size,1,none⟩=some v:=DG.cell 1;refine aO rfl rfl (λK hK=>?_);go_simp;refine hK _ _ (λh=>absurd h zd) ?_;try simp only[UU]
    simp only[bH];obtain⟨vS,Pq,sk,Hr7,HA7⟩:=eD dA DG gS IG hA7;clear dA DG gS IG hA7 IL eo acM hy6 adp qx Md wG rI dv hy5 ado pg iR MQ hb4 hnews jQ hy4 dM;go_wp2;go_roundw;case rel=>exact⟨k+1,.slice a7 (k+1) c8,by omega,by go_num,vS.out.set Pq.out (by unfold nM;decide) 1 _,Pq.out.set 1 _,Hr7.out.so w2.heap.size 1 zo _,TA.kt HA7.out (KT.set Pq.out (by unfold nM;decide) 1 _) (.inl rfl),sk.out.setCell zp _,by simp;omega⟩
    case measure=>exact bi
  . obtain rfl:k=m:=by omega
    obtain⟨b1,e1,rfl,hc1,ht1⟩:=HY.out.tbl Hm.out;have Hb:=fB;have vI:=HA;have Ht:=aj ht1;have xQ:=Hr;clear ht1 HY HA;obtain⟨ae,ai⟩:=qZ (Hr.an<|Ho.an trivial);go_wp2;refine dI (aN wr (w.heap.size+1) 0 [.slice a1 n c1,.slice b1 k e1]) aR ?_;intro w9 hs0;have ae:=bC hs0 (Hb.an ae);simp only[bD,List.set]at ae;have ai:=qC ae;refine bodyPost_ret (v:=.agg #[.slice a1 n c1,.slice b1 k e1]) (by simp[results,Tryz.results93,go_sem,ai]) rfl ⟨a1,c1,b1,e1,rfl,⟨Hn.out,Hm.out,hc1,by rw[ahB.out];exact vI.out.sts xQ.out hs0,Ht.out.sts xQ.out hs0⟩,ae.1.out⟩
def Tryz.aAi :(Tryz.prog.info? 27).map (λi=>(i.zero,i.size,i.bytes))=some (some (.agg #[.slice none 0 0,.slice none 0 0]),2,48):=by kernel_rfl
def fy.sts {w W:World}{l:List Dv}{ds:List DmR}{b o:Nat}{t:TypeId}{cs vs:List Value}(h:fy w l ds)(hb:ar w b t cs)(k:aN w b o vs W)(ht:¬nM t:=by unfold nM;decide):fy W l ds:=h.kt (KT.sts hb k ht)
def mQ (w:World)(base:Nat)(v:Value)(n:Nat)(xs:List Value):Prop:=w.ownsRow base 27 2 v n xs
def mQ.below {w w':World}{base n:Nat}{v:Value}{xs:List Value}(h:mQ w base v n xs)(k:Bw w w'):mQ w' base v n xs:=ownsRow_below h k
instance {w :World} {base n:Nat} {v:Value} {xs:List Value}:QTr (mQ w base v n xs) w (λW=>mQ W base v n xs):=⟨λh _ k=>mQ.below h k⟩
def mQ.sts {w W:World}{base n:Nat}{v:Value}{xs:List Value}{b o:Nat}{t:TypeId}{cs vs:List Value}(h:mQ w base v n xs)(hb:ar w b t cs)(k:aN w b o vs W)(ht:t≠27:=by decide):mQ W base v n xs:=
 cj.row (P:=λ_ S=>S=27) (cj.sts hb k ht) h λ_ _=>rfl
def KQ (w w':World):Prop:=cj (λ_ S=>S≠74/\S≠27) w w'
def KQ.below {w W W':World}(h:KQ w W)(k:Bw W W'):KQ w W':=cj.trans h (cj.of_below k)
instance {w W:World}:QTr (KQ w W) W (λW'=>KQ w W'):=⟨λh _ k=>KQ.below h k⟩
def KQ.sts {w W W':World}{b o:Nat}{cs vs:List Value}(h:KQ w W)(hb:ar W b 74 cs)(k:aN W b o vs W'):KQ w W':=cj.trans h (cj.sts hb k λh=>h.1 rfl)
def KQ.kt {w w':World}(h:KQ w w'):KT w w':=cj.mono h λb S hS=>by
 rcases hS with rfl|rfl|rfl
 . exact⟨by decide,by decide⟩
 . exact⟨by decide,by decide⟩
 . exact⟨by decide,by decide⟩
def KQ.dw {w w':World}(N:Nat)(h:KQ w w'):DW N w w':=
 ⟨h.os,h.tape,h.output,h.size,λk hk hy=>h.block k hk λhn=>hy λh2=>hn (by
  obtain⟨_,⟨cur,h3⟩ |⟨cur,h3⟩⟩:=h2
  . exact⟨cur,_,h3,by decide,by decide⟩
  . exact⟨cur,_,h3,by decide,by decide⟩)⟩
def KW.kty {N:Nat}{w w':World}(h:KW N w w'):cj (λ_ S=>S≠3) w w':=
 ⟨h.os,h.tape,h.output,h.size,λk hk hy=>h.block k hk λ⟨_,cur,h2⟩=>hy λ⟨QQ,S,h3,h4⟩=>by
  have e:=h3.symm.trans h2;simp only[Option.some.injEq,Obj.cells.injEq]at e
  exact h4 e.2.1⟩
def Below.chg {Y:Nat->Prop}{w W W':World}(h:Bw w W)(k:Chg Y W W')(hY:∀b,Y b->w.heap.size<=b):Bw w W':=
 ⟨k.os.trans h.os,k.tape.trans h.tape,k.output.trans h.output,Nat.le_trans h.size k.size,λb hb=>(k.block b (Nat.lt_of_lt_of_le hb h.size) λhy=>by have:=hY b hy;omega).trans (h.block b hb)⟩
def ant (l:List Dv):(l.flatMap iN).length=l.length*2:=iD iN 2 (λ_=>rfl) l
def ans {l:List Dv}{L:Nat}(hl:l.length=L+1):(l.flatMap iN).take (L*2)=l.dropLast.flatMap iN:=by
 have hne:l≠[]:=λe=>by rw[e]at hl;simp at hl
 have e:l=l.dropLast++[l.getLast hne]:=(List.dropLast_concat_getLast hne).symm;conv=>lhs;rw[e]
 rw[List.flatMap_append,List.take_left' (by rw[ant,List.length_dropLast,hl,Nat.add_sub_cancel])]
def vH (w0:World)(tb cb ob:Nat)(a:Option Addr)(n cap:Nat)(td ou:List DmR)(W:World):Prop:=
 ∃(v u:Value) (l q:List Dv),ar W tb 74 [v]/\mQ W w0.heap.size v td.length (l.flatMap iN)/\fy W l td/\ar W ob 74 [u]/\mQ W w0.heap.size u ou.length (q.flatMap iN)/\fy W q ou/\(v.ownBlock=none\/v.ownBlock≠u.ownBlock)/\ar W cb 69 [.slice a n cap]/\Bw w0 W
def vH.kw {w0 W W':World}{N tb cb ob:Nat}{a:Option Addr}{n cap:Nat}{td ou:List DmR}(h:vH w0 tb cb ob a n cap td ou W)(k:KW N W W')(hN:w0.heap.size<=N):vH w0 tb cb ob a n cap td ou W':=by
 obtain⟨v,u,l,q,h1,h2,h3,h4,h5,h6,h7,h8,h9⟩:=h;have k2:=k.kty;have k3:KT W W':=cj.mono k2 λb S hS=>by rcases hS with rfl|rfl|rfl<;>decide
 exact⟨v,u,l,q,k2.blk h1 zd,k2.row h2 (λ_ _=>by decide),h3.kt k3,k2.blk h4 zd,k2.row h5 (λ_ _=>by decide),h6.kt k3,h7,k2.blk h8 zd,Below.chg h9 k λb hb=>Nat.le_trans hN hb.1⟩
def am8 (w0:World)(N tb cb ob B:Nat)(a:Option Addr)(n cap:Nat)(ns:List Nd)(td ou:List DmR)(i:Nat)(dd:Int)(w:World)(X:DmR)(L:Nat)(hc:vH w0 tb cb ob a n cap td ou w)
 (hat:At w0 a (ns.flatMap mF)) (hT:aB w0) (hn:ns.length=n) (hi:i<ns.length) (hL:td.length=L+1) (hL5:L<=5000) (pg:ou.length<=5000)
 (hne:tb≠cb/\tb≠ob/\cb≠ob) (hlo:w0.heap.size<=tb/\w0.heap.size<=cb/\w0.heap.size<=ob) (hX:td.getLastD default=X) (hk:fR X) (hf:iy B X) (h5:X.2.length<=5) (hB:B<=200000):
 Cl 95 #[af (i:Int),af dd,.pointer (some ⟨tb,0,none⟩),.pointer (some ⟨cb,0,none⟩),.pointer (some ⟨ob,0,none⟩)] w λe w'=>e=.returned (ag true)/\DW N w w'/\vH w0 tb cb ob a n cap (if ns[i].sp=0 then td.dropLast else td.dropLast++[fg true X,fg false X]) (if ns[i].sp=0 then ou++[X]else ou) w':=by
 obtain⟨i0,hi0,hz0,hz1,hz2⟩:=info_parts Tryz.aAi;obtain⟨v,u,l,q,ht,yH,mX,fD,hou,AO,hvu,hcb,hbl⟩:=hc;have SV:l.length=L+1:=mX.1.trans hL;have hdi:=mX.init;have tL:=mX.last hL zo;rw[hX]at tL;rw[hL]at yH;obtain⟨g,c5,rfl,hg0,GR,hLc⟩:=ui yH (Nat.succ_pos L);have hcm:c5<=9223372036854775807:=by
  rcases yH.2 with⟨h1,_⟩ |⟨g',cap',cur,h1,hb,hg,h4,h5,_⟩
  . simp at h1
  . simp only[Value.slice.injEq]at h1;obtain⟨_,_,rfl⟩:=h1;unfold maxLen at h5;omega
 have hgt:g≠tb:=λe=>by obtain⟨cur,t,h1,rfl⟩:=vt yH g rfl;rw[e]at h1;have e2:=h1.symm.trans ht;simp at e2
 have hgo:g≠ob:=λe=>by obtain⟨cur,t,h1,rfl⟩:=vt yH g rfl;rw[e]at h1;have e2:=h1.symm.trans fD;simp at e2
 have MO:some g≠u.ownBlock:=by
  rcases hvu with h|h
  . cases h
  . exact h
 have htd:(td.dropLast).length=L:=by rw[List.length_dropLast,hL,Nat.add_sub_cancel]
 have hlc:l.dropLast.length=L:=by rw[List.length_dropLast,SV,Nat.add_sub_cancel]
 obtain⟨⟨xa,xn,xc,ie,xm,ig⟩,hy⟩:∃y,l[L]'zo=y:=⟨_,rfl⟩;rw[hy]at tL;have hwy:aQ w g (L*2) [.slice xa xn xc,.slice ie xm ig]:=by obtain⟨a9,c9,e9,pY,_⟩:=cw yH;simp only[Value.slice.injEq,true_and]at e9;obtain⟨rfl,rfl⟩:=e9;obtain⟨b9,o9,e8,h8⟩:=pY.dom L zo hy;simp only[Option.some.injEq,Addr.mk.injEq,and_true]at e8;obtain⟨rfl,rfl⟩:=e8;rw[Nat.zero_add]at h8;exact h8
 have qw:mQ w w0.heap.size (.slice (some ⟨g,0,none⟩) L c5) L (l.dropLast.flatMap iN):=by have h:=Ni yH L zo;rw[ans SV]at h;exact h
 have apM:=TV (L+1) c5 L (L:Int) (rfl:(some ⟨g,0,none⟩:Option Addr)=_) zo rfl;simp only[Nat.zero_add]at apM;have MP:IntKind.i64.wrap ((L:Int)+1-1)=(L:Int):=by rw[IntKind.wrap_i64];omega
 have aqn:IntKind.i64.wrap (L:Int)=(L:Int):=by rw[IntKind.wrap_i64];omega
 obtain⟨sp,s,m,e,V,a1,n1,c1,hx⟩:∃sp s m e V a1 n1 c1,ns[i]=⟨sp,(s,m,e),V,a1,n1,c1⟩:=⟨_,_,_,_,_,_,_,_,rfl⟩;obtain⟨b,o,hab,hp0⟩:=hat.node i hi hx;have hb0:=World.block_lt_of_cell? w0 _ (hp0 0 zm);simp only at hb0;have aX:=IY n cap i (i:Int) hab zo rfl;rw[hx];obtain⟨T',hT'⟩:=au (if sp=0 then td.dropLast else td.dropLast++[fg true X,fg false X]);obtain⟨O',Dh⟩:=au (if sp=0 then ou++[X]else ou);show Calls _ _ _ _ λe w'=>e=.returned (ag true)/\DW N w w'/\vH w0 tb cb ob a n cap (if sp=0 then td.dropLast else td.dropLast++[fg true X,fg false X]) (if sp=0 then ou++[X]else ou) w'
 rw[hT',Dh];have lJ:Hid (sp=0->T'=td.dropLast/\O'=ou++[X]):=λh=>by rw[<-hT',<-Dh,if_pos h,if_pos h];exact⟨rfl,rfl⟩
 have dH:Hid (sp≠0->T'=td.dropLast++[fg true X,fg false X]/\O'=ou):=λh=>by rw[<-hT',<-Dh,if_neg h,if_neg h];exact⟨rfl,rfl⟩
 clear hT' Dh;have Hy:Hid (aQ w g (L*2) [.slice xa xn xc,.slice ie xm ig]):=hwy;have Hp:Hid (aQ w b (o+i*6) [af sp,ag s,ah m,af e,af V,.slice a1 n1 c1]):=hp0.below hbl;have DV:=tL.n;have hxm:=tL.m;have hxc:=tL.cap;have XE:=aj λ(W:World) (hW:Bw w0 W) (hd:DT W ⟨xa,xn,xc,ie,xm,ig⟩ X)=>amV X xn xm B xa ie xc ig W hd.n hd.m hd.dat.box hd.dat.row hf hB (by have h9:X.2.length=xm:=hd.m;omega) hd.cap (hT.below hW) hk;unfold Kz at XE;obtain⟨Hi,cu,bV,bX,Ht,Ho,Hc,Hb⟩:=nk hi0 hz0 hz1 hz2 ht fD hcb hbl;have Ib:KQ w w:=cj.refl w;obtain⟨Yk,Hlc,HX,aw9⟩:=cG htd hlc hX (IM hk hf h5 zo);clear hi0 hz0 hz1 hz2 ht fD hcb hbl hwy hp0 hx hy SV mX yH hX hk hf htd hlc hab hT hat;obtain⟨acG,Io,ap0⟩:=hne;obtain⟨ayy,ayz,ayA⟩:=hlo;go_enter Tryz.func95,Tryz.ntmps95;obtain⟨ae,ai⟩:=qZ (Ht.an<|Ho.an<|Hc.an<|Hy.an<|Hp.an trivial);have HK:Hid (KQ w w):=Ib;have HT:Hid (mQ w w0.heap.size (.slice (some ⟨g,0,none⟩) L c5) L (l.dropLast.flatMap iN)):=qw;have HU:Hid (mQ w w0.heap.size u ou.length (q.flatMap iN)):=hou;have HQ:Hid (fy w q ou):=AO;have HM:Hid (fy w l.dropLast td.dropLast):=hdi;have HD:Hid (DT w ⟨xa,xn,xc,ie,xm,ig⟩ X):=tL;clear Ib qw hou AO hdi tL;obtain⟨W1,ao0,aG,ae,ai⟩:=bO w (Hb.an<|HK.an<|HT.an<|HU.an<|HQ.an<|HM.an<|HD.an ae) 27 [.slice xa xn xc,.slice ie xm ig];go_upto_region 3 with fail
 first|refine eN (aN W1 (tb) 0 [.slice (some ⟨g,0,none⟩) L c5]) aR ?_|refine eJ (aN W1 (tb) 0 [.slice (some ⟨g,0,none⟩) L c5]) aR ?_
 intro W2 hs0;have cn:=ae;have ae:=bC hs0 cn;simp only[bD,List.set]at ae;have HK:Hid (KQ w W2):=cn.2.2.1.out.sts cn.2.2.2.2.2.2.2.2.1.out hs0;have HT:Hid (mQ W2 w0.heap.size (.slice (some ⟨g,0,none⟩) L c5) L (l.dropLast.flatMap iN)):=cn.2.2.2.1.out.sts cn.2.2.2.2.2.2.2.2.1.out hs0;have HU:Hid (mQ W2 w0.heap.size u ou.length (q.flatMap iN)):=cn.2.2.2.2.1.out.sts cn.2.2.2.2.2.2.2.2.1.out hs0;have HQ:Hid (fy W2 q ou):=cn.2.2.2.2.2.1.out.sts cn.2.2.2.2.2.2.2.2.1.out hs0;have HM:Hid (fy W2 l.dropLast td.dropLast):=cn.2.2.2.2.2.2.1.out.sts cn.2.2.2.2.2.2.2.2.1.out hs0;have HD:Hid (DT W2 ⟨xa,xn,xc,ie,xm,ig⟩ X):=cn.2.2.2.2.2.2.2.1.out.sts cn.2.2.2.2.2.2.2.2.1.out hs0;have ae:=HK.an<|HT.an<|HU.an<|HQ.an<|HM.an<|HD.an ae
 have ai:=qC ae;have hs2:=ae.2.2.2.2.2.2.2.1.out.size;by_cases hsp:sp=0
 . have gu:(sp==0)=true:=by simpa using hsp
   obtain⟨rfl,rfl⟩:=lJ.out hsp;obtain⟨W3,Di,aG,ae,ai⟩:=bO W2 ae 27 [.slice xa xn xc,.slice ie xm ig];have hu3:=ae.2.2.2.1.out;have hk3:=ae.2.1.out;have pj:=ae.2.2.1.out;have Tw:=ae.2.2.2.2.1.out;have Ta:=ae.2.2.2.2.2.1.out;have hd3:=ae.2.2.2.2.2.2.1.out;have hb3:=ae.2.2.2.2.2.2.2.2.1.out;have oV:=ae.2.2.2.2.2.2.2.2.2.2.2.2.2.2.2.1.out;have fT:=ae.2.2.2.2.2.2.2.2.2.2.2.2.2.2.2.2.1.out;have hbc:=ae.2.2.2.2.2.2.2.2.2.2.2.2.2.2.2.2.2.1.out;have hs3:=hb3.size;have hnews:=fM ae.1.out;go_wp2_with (at_builtin;refine wpList_append_own_at _ rfl _ _ 74 rfl w0.heap.size 27 i0 _ 2 48 Tryz.underlying74 Hi.out cu.out bV.out bX.out rfl zd u ou.length (q.flatMap iN) rfl hu3 ⟨W2.heap.size,0,none⟩ 1 1 [.slice xa xn xc,.slice ie xm ig] rfl rfl hnews zy zx zo zo ?_;intro v' w5 pg iR _ ua;obtain⟨a5,c6,rfl,_,_⟩:=cw pg;have rI:=fT.row zd hu3 iR;have e5:w5.cell? ⟨ob,0,none⟩=some u:=rI.cell 0;have fz5:=rI.free 0);have k5:cj (λ_ S=>S≠74/\S≠27) W3 w5:=cj.own hu3 (λb h=>h.2 rfl) iR;have k9:KQ W3 (w5.setCell ⟨ob,0,none⟩ (.slice a5 (ou.length+1) c6)):=cj.trans k5 (cj.set rI (λh=>h.1 rfl) 0 _);have kD:cj (λ_ S=>S=27) w5 (w5.setCell ⟨ob,0,none⟩ (.slice a5 (ou.length+1) c6)):=cj.set rI zd 0 _;have IK:=pj.kept iR (.inr MO);refine bodyPost_ret (results_tmp rfl _ _ _) rfl ⟨rfl,KQ.dw N (cj.trans hk3 k9),_,_,l.dropLast,q++[⟨xa,xn,xc,ie,xm,ig⟩],(oV.row zd hu3 iR).azV ⟨ob,0,none⟩ zp _,?_,Ta.kt k9.kt,rI.set 0 _,?_,(Tw.snoc hd3).kt k9.kt,?_,(hbc.row zd hu3 iR).azV ⟨ob,0,none⟩ zp _,?_⟩
   . rw[Yk.out];exact cj.row kD IK λ_ _=>rfl
   . have e9:(q++[(⟨xa,xn,xc,ie,xm,ig⟩:Dv)]).flatMap iN=q.flatMap iN++[.slice xa xn xc,.slice ie xm ig]:=by rw[List.flatMap_append];simp[iN]
     rw[e9,List.length_append];exact cj.row kD pg λ_ _=>rfl
   . right;rcases ua with h|h
     . rw[h];exact MO
     . rw[h];intro h9;have h8:g=W3.heap.size:=Option.some.inj h9;have h7:=Chg.size hk3;omega
   . exact(hb3.grown iR hb3.size (λj e=>cE hu3 j e)).setCell zp _
 . have gu:(sp==0)=false:=by simpa using hsp
   obtain⟨rfl,rfl⟩:=dH.out hsp;go_wp2_with fail;refine(XE.out _ ae.2.2.2.2.2.2.2.1.out ae.2.2.2.2.2.1.out).mono ?_;rintro e w3 ⟨b1,d1,f1,e1,b2,d2,f2,e2,rfl,hd1,hd2,ak⟩;obtain⟨ae,ai⟩:=qX ak ae;have HA:Hid (DT w3 ⟨b1,xn,d1,f1,xm,e1⟩ (fg false X)):=hd1;have HB:Hid (DT w3 ⟨b2,xn,d2,f2,xm,e2⟩ (fg true X)):=hd2;clear hd1 hd2;obtain⟨W4,kg,aG,ae,ai⟩:=UZ w3 (HA.an<|HB.an ae) 27 [.slice b1 xn d1,.slice f1 xm e1] 27 [.slice b2 xn d2,.slice f2 xm e2];obtain⟨W5,wB,aG,ae,ai⟩:=bO W4 ae 27 [.slice b2 xn d2,.slice f2 xm e2,.slice b1 xn d1,.slice f1 xm e1];have hu3:=ae.2.2.2.2.2.2.2.1.out;have hk3:=ae.2.2.2.2.2.1.out;have pj:=ae.2.2.2.2.2.2.1.out;have Tw:=ae.2.2.2.2.2.2.2.2.1.out;have Ta:=ae.2.2.2.2.2.2.2.2.2.1.out;have AK:=ae.2.2.2.1.out;have yw:=ae.2.2.2.2.1.out;have hb3:=ae.2.2.2.2.2.2.2.2.2.2.2.2.1.out;have oV:=ae.2.2.2.2.2.2.2.2.2.2.2.2.2.2.2.2.2.2.2.1.out;have fT:=ae.2.2.2.2.2.2.2.2.2.2.2.2.2.2.2.2.2.2.2.2.1.out;have hbc:=ae.2.2.2.2.2.2.2.2.2.2.2.2.2.2.2.2.2.2.2.2.2.1.out;have hs3:=hb3.size;have hnews:=fM ae.1.out;go_wp2_with (at_builtin;refine wpList_append_own_at _ rfl _ _ 74 rfl w0.heap.size 27 i0 _ 2 48 Tryz.underlying74 Hi.out cu.out bV.out bX.out rfl zd (.slice (some ⟨g,0,none⟩) L c5) L (l.dropLast.flatMap iN) rfl pj ⟨W4.heap.size,0,none⟩ 2 2 [.slice b2 xn d2,.slice f2 xm e2,.slice b1 xn d1,.slice f1 xm e1] rfl rfl hnews zy zx zo zo ?_;intro v' w5 pg iR _ ua;obtain⟨a5,c6,rfl,_,_⟩:=cw pg;have GJ:=oV.row zd pj iR;have e5:w5.cell? ⟨tb,0,none⟩=some (.slice (some ⟨g,0,none⟩) L c5):=GJ.cell 0;have fz5:=GJ.free 0);have k5:cj (λ_ S=>S≠74/\S≠27) W5 w5:=cj.own pj (λb h=>h.2 rfl) iR;have k9:KQ W5 (w5.setCell ⟨tb,0,none⟩ (.slice a5 (L+2) c6)):=cj.trans k5 (cj.set GJ (λh=>h.1 rfl) 0 _);have kD:cj (λ_ S=>S=27) w5 (w5.setCell ⟨tb,0,none⟩ (.slice a5 (L+2) c6)):=cj.set GJ zd 0 _;have ML:=hu3.kept iR (.inr λh=>MO h.symm);refine bodyPost_ret (results_tmp rfl _ _ _) rfl ⟨rfl,KQ.dw N (cj.trans hk3 k9),_,_,l.dropLast++[⟨b2,xn,d2,f2,xm,e2⟩]++[⟨b1,xn,d1,f1,xm,e1⟩],q,GJ.set 0 _,?_,?_,(fT.row zd pj iR).azV ⟨tb,0,none⟩ zp _,cj.row kD ML λ_ _=>rfl,Tw.kt k9.kt,?_,(hbc.row zd pj iR).azV ⟨tb,0,none⟩ zp _,?_⟩
   . have e9:(l.dropLast++[(⟨b2,xn,d2,f2,xm,e2⟩:Dv)]++[(⟨b1,xn,d1,f1,xm,e1⟩:Dv)]).flatMap iN=l.dropLast.flatMap iN++[.slice b2 xn d2,.slice f2 xm e2,.slice b1 xn d1,.slice f1 xm e1]:=by rw[List.flatMap_append,List.flatMap_append];simp[iN]
     rw[e9,List.length_append,Yk.out];exact cj.row kD pg λ_ _=>rfl
   . have e9:td.dropLast++[fg true X,fg false X]=td.dropLast++[fg true X]++[fg false X]:=by simp
     rw[e9];exact((Ta.snoc yw).snoc AK).kt k9.kt
   . rcases ua with h|h
     . rw[h];exact .inr MO
     . rw[h];by_cases hn9:u.ownBlock=none
       . right;rw[hn9];simp
       . right;intro h9;have h8:=(hu3.lt _ h9.symm).2;omega
   . exact(hb3.grown iR hb3.size (λj e=>cE pj j e)).setCell zp _
def bJ (S:Nat->Bool)(D:DmR):Nat->List DmR×List DmR
 |0=>([D],[])
 |i+1=>if S i then((bJ S D i).1.dropLast++[fg true ((bJ S D i).1.getLastD default),fg false ((bJ S D i).1.getLastD default)],(bJ S D i).2)else((bJ S D i).1.dropLast,(bJ S D i).2++[(bJ S D i).1.getLastD default])
def sS (S:Nat->Bool)(D:DmR)(i:Nat):(bJ S D i).1.length=(cC S i).length/\(bJ S D i).2.length<=i:=by
 induction i with
 |zero=>exact⟨rfl,Nat.le_refl _⟩
 | succ i ih=>
   rw[bJ,cC];split
   . exact⟨by simp[ih.1],Nat.le_trans ih.2 (Nat.le_succ _)⟩
   . exact⟨by simp[ih.1],by have:=ih.2;simp;omega⟩
def Ja {α:Type}[Inhabited α]{l:List α}(h:l≠[]):l.getLastD default∈l:=by rw[List.getLastD_eq_getLast?,List.getLast?_eq_some_getLast h];exact List.getLast_mem h
def rZ (B:Nat)(D d:DmR):Prop:=fR d/\iy B d/\d.1.length=D.1.length/\d.2.length=D.2.length
def FX {S:Nat->Bool}{D:DmR}{B:Nat}(hk:fR D)(hf:iy B D)(h5:D.2.length<=5)(i:Nat)(hB:B+3*i<=200000)(hne:∀j,j<i->cC S j≠[]):∀d∈(bJ S D i).1++(bJ S D i).2,rZ (B+3*i) D d:=by
 induction i with
 | zero=>
   intro d hd;have e:d=D:=by simpa[bJ]using hd
   subst e;exact⟨hk,hf,rfl,rfl⟩
 | succ i ih=>
   have ih:=ih zo (λj hj=>hne j zo);have h0:(bJ S D i).1≠[]:=λh=>by have h1:=(sS S D i).1;rw[h]at h1;exact hne i zo (List.length_eq_zero_iff.1 h1.symm)
   have hup:∀d,rZ (B+3*i) D d->rZ (B+3* (i+1)) D d:=λd ⟨h1,h2,h3⟩=>⟨h1,h2.mono zo,h3⟩;have hx:=ih _ (List.mem_append_left _ (Ja h0));have hh:∀up,rZ (B+3* (i+1)) D (fg up ((bJ S D i).1.getLastD default)):=λup=>by obtain⟨h1,h2,h3,h4⟩:=hx;obtain⟨g1,g2,g3,g4⟩:=IM h1 h2 zo zo up;exact⟨g1,g2.mono zo,g3.trans h3,g4.trans h4⟩
   intro d hd;rw[bJ]at hd;split at hd
   . simp only[List.mem_append,List.mem_cons,List.not_mem_nil,or_false]at hd;rcases hd with(hd|rfl|rfl) |hd
     . exact hup d (ih d (List.mem_append_left _ (List.dropLast_subset _ hd)))
     . exact hh true
     . exact hh false
     . exact hup d (ih d (List.mem_append_right _ hd))
   . simp only[List.mem_append,List.mem_cons,List.not_mem_nil,or_false]at hd;rcases hd with hd|hd|rfl
     . exact hup d (ih d (List.mem_append_left _ (List.dropLast_subset _ hd)))
     . exact hup d (ih d (List.mem_append_right _ hd))
     . exact hup _ hx
def YU {S:Nat->Bool}{D:DmR}{B:Nat}{X:Nat->Dyadic}(hk:fR D)(hf:iy B D)(h5:D.2.length<=5)(i:Nat)(hB:B+3*i<=200000)(hne:∀j,j<i->cC S j≠[])(hX:eO D X):∃d∈(bJ S D i).1++(bJ S D i).2,eO d X:=by
 induction i with
 |zero=>exact⟨D,by simp[bJ],hX⟩
 | succ i ih=>
   obtain⟨d,hd,wH⟩:=ih zo (λj hj=>hne j zo);have hinv:=FX hk hf h5 i zo (λj hj=>hne j zo);have h0:(bJ S D i).1≠[]:=λh=>by have h1:=(sS S D i).1;rw[h]at h1;exact hne i zo (List.length_eq_zero_iff.1 h1.symm)
   rw[bJ];rcases List.mem_append.1 hd with hd|hd
   . have e:(bJ S D i).1=(bJ S D i).1.dropLast++[(bJ S D i).1.getLastD default]:=by
      conv=>lhs;rw[<-List.dropLast_concat_getLast h0]
      rw[List.getLastD_eq_getLast?,List.getLast?_eq_some_getLast h0];rfl
     rw[e,List.mem_append]at hd;rcases hd with hd|hd
     . split
       . exact⟨d,by simp[hd],wH⟩
       . exact⟨d,by simp[hd],wH⟩
     . have e2:d=(bJ S D i).1.getLastD default:=by simpa using hd
       rw[e2]at wH;obtain⟨g1,g2,g3,g4⟩:=hinv _ (List.mem_append_left _ (Ja h0));split
       . rcases(adu g1 g2 zo zo X).1 wH with h|h
         . exact⟨_,by simp,h⟩
         . exact⟨_,by simp,h⟩
       . exact⟨_,by simp,wH⟩
   . split
     . exact⟨d,by simp[hd],wH⟩
     . exact⟨d,by simp[hd],wH⟩
def alB (S:Nat->Bool)(D:DmR)(i j:Nat)(h:i<=j):(bJ S D i).2<+:(bJ S D j).2:=by
 induction j with
 | zero => obtain rfl:i=0:=by omega
           exact List.prefix_rfl
 | succ j ih=>
   by_cases hi:i=j+1
   . subst hi;exact List.prefix_rfl
   . refine(ih zo).trans ?_;rw[bJ];split
     . exact List.prefix_rfl
     . exact List.prefix_append _ _
def alz (S:Nat->Bool)(D:DmR)(n i:Nat)(h:i<n)(hS:S i=false):(bJ S D n).2[(bJ S D i).2.length]?=some ((bJ S D i).1.getLastD default):=by
 have h1:=alB S D (i+1) n h;have e:(bJ S D (i+1)).2=(bJ S D i).2++[(bJ S D i).1.getLastD default]:=by rw[bJ,if_neg (by rw[hS];decide)]
 rw[e]at h1;obtain⟨t,ht⟩:=h1;rw[<-ht,List.append_assoc,List.getElem?_append_right (Nat.le_refl _),Nat.sub_self];rfl
def alA (S:Nat->Bool)(D:DmR)(n:Nat):∀d∈(bJ S D n).2,∃i,i<n/\S i=false/\(bJ S D i).1.getLastD default=d:=by
 induction n with
 |zero=>intro d hd;simp[bJ]at hd
 | succ n ih=>
   intro d hd;rw[bJ]at hd;split at hd
   . obtain⟨i,h1,h2⟩:=ih d hd;exact⟨i,by omega,h2⟩
   . rename_i hS
     rcases List.mem_append.1 hd with hd|hd
     . obtain⟨i,h1,h2⟩:=ih d hd;exact⟨i,by omega,h2⟩
     . exact⟨n,by omega,by simpa using hS,(List.mem_singleton.1 hd).symm⟩
def sW (S:Nat->Bool)(n:Nat)(c:Int):Int:=if c=0 then if pC S n then 0 else 2 else c
def NM (S:Nat->Bool)(n:Nat)(D:DmR)(c:Int)(w:World)(e:Ending)(w':World):Prop:=
 ∃(va:Option Addr) (vn vc:Nat),e=.returned (.tuple #[.slice va vn vc,af c])/\(c≠0->vn=0)/\(c=0->∃q:List Dv,vn=(bJ S D n).2.length/\q.length=vn/\At w' va (q.flatMap iN)/\fy w' q (bJ S D n).2)/\Bw w w'
def ZK (S:Nat->Bool)(ns:List Nd)(n cap:Nat)(a:Option Addr)(D:DmR)(dn dm B:Nat)(da gH:Option Addr)(dc gJ:Nat)(c:Int)(w:World)(hn:ns.length=n)(hS:∀k (h:k<ns.length),S k=(ns[k].sp !=0))(uS:n<=40\/4096<n)
 (hat:At w a (ns.flatMap mF)) (fe:D.1.length=dn) (fc:D.2.length=dm) (hs:Sl da dn dc) (hb:At w da (D.1.flatMap spC)) (ha:Tbl w gH D.2) (hf:iy B D) (yi:3<=B) (hB:B<=100000) (dK:dn<=1000) (kr:dm<=5) (hcap:dm<=gJ) (hT:aB w)
 (hc:rC dn dm (iL (D.1.map aY)) (jb D.2)=c):
 Cl 34 #[.slice a n cap,.agg #[.slice da dn dc,.slice gH dm gJ]] w (NM S n D (sW S n c) w):=by
 have FJ:=aj λW (hW:Bw w W)=>aee D.1 D.2 dn dm B da gH dc gJ c W fe fc (hb.below hW) (ha.below hW) hf.1 hf.2 yi zo dK kr hcap (hT.below hW) hc;unfold Qk at FJ;by_cases h0:c=0
 rotate_left
 . have Db:(c==0)=false:=by simpa using h0
   have uR:(c !=0)=true:=by simpa using h0
   have e:sW S n c=c:=by unfold sW;rw[if_neg h0]
   rw[e];clear hn hS hat fe fc hs hb ha hf hT hc e uS;have Hb:=hbz w;go_enter Tryz.func34,Tryz.ntmps34;go_wp2_with fail;refine gP w (Hb.an trivial) 69 [.slice a n cap] 27 [.slice da dn dc,.slice gH dm gJ] λW aG ae ai=>?_;go_wp2_with fail;refine(FJ.out _ ae.2.2.1.out).mono ?_;rintro e w1 ⟨la,k,lc,rfl,_,_,ak⟩;obtain⟨ae,ai⟩:=qX ak ae;go_wp2;exact bodyPost_ret (v:=.tuple #[.slice none 0 0,af c]) (by simp[results,Tryz.results34,go_sem]) rfl ⟨none,0,0,rfl,λ_=>rfl,λh=>absurd h h0,ae.2.2.1.out⟩
 subst h0;have hk:fR D:=by unfold fR;rw[fe,fc];exact hc
 have qA:∀r∈D.2,0<r.length/\r.length<=8:=λr hr=>by
  rcases rB hk hf zo with⟨q,hq,_,hw,_⟩ |⟨h,_⟩
  . have:=hw.2.1 r hr;omega
  . rw[h]at hr;cases hr
 have Qj:=aj λW (hW:Bw w W)=>as8 D dn dm da gH dc gJ W fe fc dK kr hs hcap (hb.below hW) (ha.below hW) qA;have eg:∀args w,(callFunc 95 args).run Tryz.prog w=.ok (.enter 95 args) w:=enters_of Tryz.func95 zk rfl;have uF:=aj λ(W:World) (tb cb ob:Nat) (gq:w.heap.size<=tb) (hl2:w.heap.size<=cb) (Ms:w.heap.size<=ob) (dK:tb≠cb) (wN:tb≠ob) (wO:cb≠ob) (hW:w.heap.size<=W.heap.size) (h0:vH w tb cb ob a n cap [D] [] W)=>
  agk S ns n cap a 95 #[.pointer (some ⟨tb,0,none⟩),.pointer (some ⟨cb,0,none⟩),.pointer (some ⟨ob,0,none⟩)] (λi W=>(∀j,j<i->cC S j≠[])/\vH w tb cb ob a n cap (bJ S D i).1 (bJ S D i).2 W) W hn hS
   (λi W2 h=>by obtain⟨_,_,_,_,_,_,_,_,_,_,_,_,_,hbl⟩:=h;exact hat.below hbl)
   (λi W2 W3 h k=>⟨h.1,h.2.kw k hW⟩) eg
   (λh4 i hi hne W2 _ h=>by
    have hi2:i<ns.length:=by omega
    have hL:=(sS S D i).1;have h41:n<=40:=by omega
    obtain⟨L,yl⟩:∃L,(cC S i).length=L+1:=⟨(cC S i).length-1,by have:=List.length_pos_iff.2 hne;omega⟩;have hle:=(Lj S i).1;have My:(bJ S D i).1≠[]:=λe=>by rw[e]at hL;rw[yl]at hL;cases hL
    obtain⟨g1,g2,g3,g4⟩:=FX hk hf zo i zo h.1 _ (List.mem_append_left _ (Ja My));refine(am8 w W.heap.size tb cb ob (B+3*i) a n cap ns _ _ i ((cC S i).getLastD 0:Nat) W2 _ L h.2 hat hT hn hi2 (hL.trans yl) zo (by have:=(sS S D i).2;omega) ⟨dK,wN,wO⟩ ⟨gq,hl2,Ms⟩ rfl g1 g2 zo zo).mono ?_;rintro e w' ⟨h1,h2,h3⟩;refine⟨h1,⟨λj hj=>?_,?_⟩,h2⟩
    . by_cases hji:j=i
      . rw[hji];exact hne
      . exact h.1 j zo
    . have e1:=hS i hi2;rw[bJ];by_cases hsp:ns[i].sp=0
      . rw[if_pos hsp,if_pos hsp]at h3;rw[if_neg (by rw[e1,hsp];decide)];exact h3
      . rw[if_neg hsp,if_neg hsp]at h3;rw[if_pos (by rw[e1];simpa using hsp)]
        exact h3)
   ⟨λj hj=>absurd hj (Nat.not_lt_zero _),h0⟩
 obtain⟨F,hF⟩:=au (pC S n);have e:sW S n 0=if F then 0 else 2:=by unfold sW;rw[if_pos rfl,hF]
 obtain⟨R,hR⟩:=au (if F then(0:Int)else 2);rw[e,hR];have HR:=aj hR;simp only[hF]at uF;clear hR hn hS hat fe fc hs hb ha hf hT hc e hk qA eg hF uS;have Hb:=hbz w;go_enter Tryz.func34,Tryz.ntmps34;go_wp2_with fail;refine gP w (Hb.an trivial) 69 [.slice a n cap] 27 [.slice da dn dc,.slice gH dm gJ] λW aG ae ai=>?_;go_wp2_with fail;refine(FJ.out _ ae.2.2.1.out).mono ?_;rintro e w1 ⟨la,k9,lc,rfl,_,_,ak⟩;obtain⟨ae,ai⟩:=qX ak ae;go_wp2_with fail;refine(Qj.out _ ae.2.2.1.out).mono ?_;rintro e w2 ⟨a1,c1,b1,e1,rfl,hd1,ak⟩;obtain⟨ae,ai⟩:=qX ak ae;have HD:Hid (DT w2 ⟨a1,dn,c1,b1,dm,e1⟩ D):=hd1;clear hd1;have hw2:=ae.2.2.1.out.size;obtain⟨W3,Di,aG,ae,ai⟩:=UZ w2 (HD.an ae) 27 [.slice a1 dn c1,.slice b1 dm e1] 74 [.slice (some ⟨w2.heap.size,0,none⟩) 1 1];have hs3:=ae.2.1.out.lt;obtain⟨W4,kg,aG,ae,ai⟩:=bO W3 ae 74 [.slice none 0 0];have hbz:=ae.2.1.out;have oV:=ae.2.2.1.out;have fT:=ae.1.out;have hbk:=ae.2.2.2.2.1.out;have hdd:=ae.2.2.2.1.out;have hbb:=ae.2.2.2.2.2.2.1.out;have hs2:W3.heap.size<W4.heap.size:=fT.lt;have mV:vH w (w2.heap.size+1) w.heap.size W3.heap.size a n cap [D] [] W4:=
  ⟨_,_,[⟨a1,dn,c1,b1,dm,e1⟩],[],oV,Jh hbz hw2 rfl zd,fy.snoc (fy.nil _) hdd,fT,World.ownsRow_nil _ _ _ _,fy.nil _,.inr (by simp[Value.ownBlock]),hbk,hbb⟩
 go_wp2_with fail;refine(uF.out W4 (w2.heap.size+1) w.heap.size W3.heap.size zo (Nat.le_refl _) zo zo zo zo zo mV).mono ?_;rintro e5 w5 ⟨rfl,qH,i9,_,kx⟩;cases F with
 |false=>obtain⟨_,_,_,_,_,_,_,_,_,_,_,_,hbl⟩:=kx;clear uF FJ Qj qH;obtain rfl:2=R:=HR.out;go_wp2;exact bodyPost_ret (v:=.tuple #[.slice none 0 0,af 2]) (by simp[results,Tryz.results34,go_sem]) rfl ⟨none,0,0,rfl,λ_=>rfl,λh=>(by cases h),hbl⟩
 |true=>obtain⟨_,v,u,l,q,h1,h2,h3,h4,h5,h6,h7,h8,h9⟩:=qH rfl;obtain⟨va,vc,rfl,pY,_⟩:=cw h5;have rJ:q.length=(bJ S D n).2.length:=h6.1;clear kx qH;obtain rfl:0=R:=HR.out;obtain⟨Q,hQ⟩:=au ((bJ S D n).2);rw[hQ]at h4 h6 rJ;obtain⟨Ho,H6,Hb,dV,PH,HQ⟩:=fZ h4 h6 h9 pY rJ hQ;clear h1 h2 h3 h4 h5 h6 h7 h8 h9 pY rJ uF FJ Qj mV hbz oV fT hbk hdd hbb hQ;obtain⟨ae,ai⟩:=qZ (Ho.an trivial);go_wp2;exact bodyPost_ret (v:=.tuple #[.slice va Q.length vc,af 0]) (by simp[results,Tryz.results34,go_sem]) rfl ⟨va,_,vc,rfl,λh=>absurd rfl h,λ_=>⟨q,by rw[HQ.out],PH.out,dV.out,by rw[HQ.out];exact H6.out⟩,Hb.out⟩
end Go.Proofs.YtpfgffadgkkedaaGreatDoor
namespace Go.Proofs.YtpfgffadgkkedaaGreatDoor
def rP (sc:Raw)(V:Int)(q:List Trm)(Vp:Int)(P:List Trm)(d:DmR):Bool:=
 decide (0<bg (dval sc))&&(uO V q&&(decide (vB V q (gv d.1.length d.2.length)=0)&&(decide (Vp=(cH d.1.length d.2.length:Int))&&decide (aU (cz (dval sc) P)=dP (cH d.1.length d.2.length) (jh d.1 d.2) (gv d.1.length d.2.length) (gv d.1.length d.2.length) q))))
def afp {V:Int}{q:List Trm}{L:Nat}(h:vB V q L=0):iu V q=0/\(L:Int)=V:=by
 unfold vB at h;by_cases h1:iu V q=0
 . rw[if_pos h1]at h;by_cases h2:(L:Int)=V
   . exact⟨h1,h2⟩
   . rw[if_neg h2]at h;omega
 . rw[if_neg h1]at h;omega
def Zz {d:DmR}{B C K:Nat}(hK:C+25<=K)(h:fR d)(hf:iy B d)(h5:d.2.length<=5)(h4:cH d.1.length d.2.length<=4)(hfl:∀k,k<gv d.1.length d.2.length->dU (cH d.1.length d.2.length) C (jh d.1 d.2 k)):SubOk (cH d.1.length d.2.length) (gv d.1.length d.2.length) 5 C K 5 (jh d.1 d.2):=by
 refine ard hK h4 hfl λh0=>?_;rcases rB h hf h5 with⟨q,_,_,_,hm,_⟩ |⟨hr,_⟩
 . omega
 . rw[hr]at h0;cases h0
def amI {d:DmR}{B:Nat}(h:fR d)(hf:iy B d)(h5:d.2.length<=5):0<cH d.1.length d.2.length/\0<gv d.1.length d.2.length/\gv d.1.length d.2.length<=12:=by
 unfold cH gv;rcases rB h hf h5 with⟨q,_,_,_,hm,_⟩ |⟨hr,h1,h6,_⟩
 . rw[if_pos zo,if_pos zo];omega
 . rw[hr,List.length_nil,if_neg (Nat.lt_irrefl 0),if_neg (Nat.lt_irrefl 0)];omega
def aq3 {sc:Raw}{V Vp:Int}{q P:List Trm}{d:DmR}{B C K:Nat}{X:Nat->Dyadic}(hK:C+25<=K)(h:fR d)(hf:iy B d)(h5:d.2.length<=5)(h4:cH d.1.length d.2.length<=4)(hfl:∀k,k<gv d.1.length d.2.length->dU (cH d.1.length d.2.length) C (jh d.1 d.2 k))(hq:∀t∈q,degN t.1<=5)(hF:rP sc V q Vp P d=true)(hX:eO d X):
 Vp=(cH d.1.length d.2.length:Int)/\0<bG (fh X (cH d.1.length d.2.length)) P:=by
 unfold rP at hF;simp only[Bool.and_eq_true,decide_eq_true_eq]at hF;obtain⟨h1,h2,h3,h6,h7⟩:=hF;refine⟨h6,?_⟩;obtain⟨hp,hL⟩:=afp h3;have hn:=asy h hf h5 hX;have hs:=Zz hK h hf h5 h4 hfl;unfold Ql at hn;generalize cH d.1.length d.2.length=W at*;generalize gv d.1.length d.2.length=L at*;subst hL;have hv:=anX hs (Nk hp) hq hn h2;rw[<-h7,yf,aaa]at hv;have h9:=(ZQ (dval sc)).1 h1;by_cases hz:0<bG (fh X W) P
 . exact hz
 . have h10:=CW (x:=dval sc) (y:=-bG (fh X W) P) (by grind) (by grind);grind
def wm (pc dc:Int)(S G:Nat->Bool)(n:Nat):Int×Int:=if pc=0 then if dc=0 then match (List.range n).find? (λi=>!S i&& !G i)with
 |some i=>((i:Int),6)
 |none=>(0,0)else(0,dc)else(0,pc)
def alY {S G:Nat->Bool}{n i:Nat}(hi:i<n)(h1:S i=false)(h2:G i=false)(h:∀j,j<i->S j=false->G j=true):wm 0 0 S G n=((i:Int),6):=by
 have e:(List.range n).find? (λi=>!S i&& !G i)=some i:=by
  rw[List.find?_range_eq_some];refine⟨by simp[h1,h2],List.mem_range.2 hi,λj hj=>?_⟩;cases hs:S j with
  |true=>simp
  |false=>simp[h j hj hs]
 unfold wm;rw[if_pos rfl,if_pos rfl,e]
def alZ {S G:Nat->Bool}{n:Nat}(h:∀j,j<n->S j=false->G j=true):wm 0 0 S G n=(0,0):=by
 have e:(List.range n).find? (λi=>!S i&& !G i)=none:=by
  rw[List.find?_eq_none];intro j hj;cases hs:S j with
  |true=>simp
  |false=>simp[h j (List.mem_range.1 hj) hs]
 unfold wm;rw[if_pos rfl,if_pos rfl,e]
end Go.Proofs.YtpfgffadgkkedaaGreatDoor
namespace Go.Proofs.YtpfgffadgkkedaaGreatDoor
open Go.RowKit
attribute [local go_sem ↓] Go.wp_at_zero Go.wp_at_succ
def alX (sp:Int)(s:Bool)(m:List UInt8)(e V:Int)(a:Option Addr)(n c:Nat)(q:List Trm)(Vp:Nat)(ap:Option Addr)(np cp:Nat)(P:List Trm)(d:DmR)(dn dm:Nat)(da gH:Option Addr)(dc gJ:Nat)(F:Bool)(w:World)
 (hn:q.length=n) (aS:n<=4096) (hs:Sl a n c) (hat:At w a (q.flatMap aI)) (hq:∀t∈q,t.1.length<=1000/\Fit 192 t.2/\degN t.1<=5) (hsc:Fit 192 (s,m,e))
 (qp:P.length=np) (hP:dU Vp 192 P) (hap:vW w ap cp P) (fe:d.1.length=dn) (fc:d.2.length=dm) (hb:At w da (d.1.flatMap spC)) (ha:Tbl w gH d.2) (hf:iy 312 d) (hd:fR d) (kr:dm<=5) (hcap:dm<=gJ) (tB:cH dn dm<=4) (hT:aB w) (hF:rP (s,m,e) V q Vp P d=F):
 Cl 92 #[.agg #[af sp,ag s,ah m,af e,af V,.slice a n c],.agg #[af (Vp:Int),.slice ap np cp],.agg #[.slice da dn dc,.slice gH dm gJ]] w
  λe w'=>(e=.returned (ag F)/\(F=true->∀X,eO d X->(Vp:Int)=(cH dn dm:Int)/\0<bG (fh X (cH dn dm)) P))/\Bw w w':=by
 obtain⟨hV1,yl,axV⟩:=amI hd hf zo;have abZ:dn<=1000:=by
  rcases rB hd hf zo with⟨_,_,h,_⟩ |⟨_,_,h,_⟩
  . rw[h]at fe;simp at fe;omega
  . omega
 have hpos:=λhfl hF9 X (hX:eO d X)=>aq3 (B:=312) (C:=1593) (K:=1618) (X:=X) zd hd hf zo (by rw[fe,fc];exact tB) hfl (λt ht=>(hq t ht).2.2) (hF.trans hF9) hX;have hsub:=λhfl=>Zz (B:=312) (C:=1593) (K:=1618) zd hd hf zo (by rw[fe,fc];exact tB) hfl;have XJ:=aj λW (hW:Bw w W)=>aee d.1 d.2 dn dm 312 da gH dc gJ 0 W fe fc (hb.below hW) (ha.below hW) hf.1 hf.2 zd zd abZ kr hcap (hT.below hW) (by rw[<-fe,<-fc];exact hd);have vN:=aj λW (hW:Bw w W)=>anV V a n c q W hn aS (hat.below hW) (hT.below hW) (λt ht=>⟨(hq t ht).1,(hq t ht).2.1.1⟩);obtain⟨D,hD⟩:=au (dval (s,m,e));have uD:=aj λW (hW:Bw w W)=>afs Vp ap cp P s m e D 192 W hP ⟨hap.1.below hW,hap.2⟩ hsc zd (hT.below hW) hD;obtain⟨S,hS⟩:=au (bg (dval (s,m,e)));have jp:=aj λW=>nV s m e S hS W hsc.1;have hPS:(aU (cz D P)).length<=65536:=by
  have h1:=kV (cz D P);have h2:(cz D P).length=P.length:=by unfold cz;rw[List.length_map]
  have h3:=hP.1.2.2.1;omega
 unfold rP at hF;unfold Qk at XJ;rw[fe,fc]at*;rw[hS,hD]at hF;rw[qp]at uD;have AP:=λ(la:Option Addr) (lc:Nat) (ps:List Pv) (hok:SubOk (cH dn dm) (gv dn dm) 5 1593 1618 5 (jh d.1 d.2)) (hpl:ps.length=gv dn dm) (W:World) (hW:Bw w W) (fq:At W la (ps.flatMap ib)) (hls:fE W (cH dn dm) (5*312+33) ps (jh d.1 d.2))=>anS (cH dn dm) (gv dn dm) 5 1593 1618 5 192 12000 (jh d.1 d.2) ps la lc hok hV1 zo zo zd zd hpl yl zo V a n c q W hn aS hs (hat.below hW) fq (hls.more zd) (hT.below hW) hq
 have hfit:=λ(hok:SubOk (cH dn dm) (gv dn dm) 5 1593 1618 5 (jh d.1 d.2)) (hp:iu V q=0) (hL:(gv dn dm:Int)=V)=>(by
  subst hL;have hpo:=Nk hp
  exact(hok.aAe (A:=192) (B:=12000) zo (Nat.le_refl _) (λt ht=>by rw[Vh t.1 _ (Bz (hpo.2.1 t ht))];exact(hq t ht).2.2) (λt ht=>(hq t ht).2.1.2) zo zd).1.2.2.1:(dP (cH dn dm) (jh d.1 d.2) (gv dn dm) (gv dn dm) q).length<=4096)
 have adJ:=λ(h:vB V q (gv dn dm)=0)=>afp h;generalize aoQ:aU (cz D P)=PS at*;generalize jh d.1 d.2=l at*;generalize cH dn dm=W1 at*;generalize gv dn dm=L at*;obtain⟨cs,hcs⟩:=au (vB V q L);obtain⟨PE,hPE⟩:=au (dP W1 l L L q);obtain⟨G,hG⟩:=au (uO V q);simp only[hcs,hPE,hG]at*;unfold Qq at AP;obtain⟨HF,ajh,PP,OJ,zN,akb,HPS⟩:=iX hF hpos hsub AP hfit adJ hPS;clear hn aS hs hat hq hsc qp hP hap fe fc hb ha hf hd kr hcap tB hT hF hpos hsub AP hfit adJ hPS hcs hPE hG hS hD abZ aoQ;have Hb:=hbz w;go_enter Tryz.func92,Tryz.ntmps92;go_wp2_with fail;refine yZ w (Hb.an trivial) 127 [af sp,ag s,ah m,af e,af V,.slice a n c] 41 [af (Vp:Int),.slice ap np cp] 27 [.slice da dn dc,.slice gH dm gJ] λW aG ae ai=>?_;go_wp2_with fail;refine aK ae (jp.out _) λw1 ae ai=>?_;by_cases lf:0<S
 rotate_left
 . have hS1:S<=0:=by omega
   have hF2:=HF.out;rw[decide_eq_false lf,Bool.false_and]at hF2;subst hF2;go_wp2;refine bodyPost_ret (results_tmp rfl _ _ _) rfl ⟨⟨rfl,λh=>by cases h⟩,ae.2.2.2.1.out⟩
 have hS1:¬S<=0:=by omega
 go_wp2_with fail;refine aK ae (vN.out _ ae.2.2.2.1.out) λw2 ae ai=>?_;cases G with
 |false=>have hF2:=HF.out;rw[Bool.false_and,Bool.and_false]at hF2;subst hF2;go_wp2;refine bodyPost_ret (results_tmp rfl _ _ _) rfl ⟨⟨rfl,λh=>by cases h⟩,ae.2.2.2.1.out⟩
 | true=>
   have hF2:=HF.out;rw[decide_eq_true lf,Bool.true_and,Bool.true_and]at hF2;have se:=aj hF2;clear hF2;go_wp2_with fail;refine(XJ.out _ ae.2.2.2.1.out).mono ?_;rintro e w3 ⟨la,k,lc,rfl,_,heq,ak⟩;obtain⟨ae,ai⟩:=qX ak ae;obtain⟨ps,jx,hlc,hpl,tH,Tu⟩:=heq (by trivial);obtain rfl:L=k:=jx.symm;have hfl:∀k,k<L->dU W1 1593 (l k):=λk hk=>by obtain⟨_,_,_,_,h9⟩:=Tu k (by rw[hpl];exact hk);exact h9
   obtain⟨kP,xO,lM⟩:=bM (PP.out hfl) (ajh.out hfl) hpl;have HA:Hid (At w3 la (ps.flatMap ib)):=tH;have HB:Hid (fE w3 W1 (5*312+33) ps l):=Tu;clear heq tH Tu hpl hfl;go_wp2_with fail;refine(uD.out _ ae.2.2.2.1.out).mono ?_;rintro e w4 ⟨a4,c4,rfl,tX,ak⟩;obtain⟨ae,ai⟩:=qX ak (HA.an<|HB.an ae);have HE:Hid (aW w4 a4 c4 PS):=tX;clear tX;obtain⟨W5,wB,aG,ae,ai⟩:=bO w4 (HE.an ae) 41 [af (Vp:Int),.slice a4 PS.length c4];go_wp2_with fail;refine(OJ.out la lc ps kP.out lM.out _ ae.2.2.2.2.2.2.2.1.out ae.2.2.1.out ae.2.2.2.1.out).mono ?_;rintro e w6 ⟨v,a6,n6,c6,rfl,h6,ak⟩;obtain⟨ae,ai⟩:=qX ak ae;by_cases hs0:cs=0
   rotate_left
   . have hF2:=se.out;rw[decide_eq_false hs0,Bool.false_and]at hF2;subst hF2;have gu:(cs==0)=false:=by simpa using hs0
     clear h6;obtain⟨W7,AB,aG,ae,ai⟩:=bO w6 ae 41 [af v,.slice a6 n6 c6];go_wp2;refine bodyPost_ret (results_tmp rfl _ _ _) rfl ⟨⟨rfl,λh=>by cases h⟩,ae.2.2.2.2.2.2.2.2.1.out⟩
   subst hs0;obtain⟨cf,wP,yE⟩:=h6 rfl;obtain⟨hp0,pS⟩:=akb.out rfl;have hl6:=zN.out kP.out hp0 pS;subst cf wP;have HU:Hid (aW w6 a6 c6 PE):=yE;clear h6 yE hp0 pS;obtain⟨W7,AB,aG,ae,ai⟩:=bO w6 (HU.an ae) 41 [af (W1:Int),.slice a6 PE.length c6];have hF2:=se.out;rw[decide_eq_true rfl,Bool.true_and]at hF2;have Kr:=aj λW (h1:aW W a4 c4 PS) (h2:aW W a6 c6 PE)=>atG (Vp:Int) (W1:Int) PS PE PS.length PE.length a4 a6 c4 c6 F W rfl rfl HPS.out zo h1.1 h2.1 hF2;clear hF2 hl6;go_wp2_with fail;refine aK ae (Kr.out _ ae.2.2.2.1.out ae.2.1.out) λw8 ae ai=>?_;go_wp2;refine bodyPost_ret (results_tmp rfl _ _ _) rfl ⟨⟨rfl,λh X hX=>xO.out h X hX⟩,ae.2.2.2.2.2.2.2.2.2.1.out⟩
def YB (ns:List Nd)(qs:Nat->List Trm):Prop:=∀k (h:k<ns.length),k<50->Fit 192 ns[k].sc/\(qs k).length<=4096/\∀t∈qs k,t.1.length<=1000/\Fit 192 t.2/\degN t.1<=5
def We (A:Int×Int)(D:DmR)(Vp:Int)(P:List Trm)(w:World)(e:Ending)(w':World):Prop:=
 e=.returned (.tuple #[af A.1,af A.2])/\(A.2=0->iu Vp P=0/\fR D/\∀X,eO D X->Vp=(cH D.1.length D.2.length:Int)/\0<bG (fh X (cH D.1.length D.2.length)) P)/\Bw w w'
def ZJ {S:Nat->Bool}{n:Nat}{c:Int}(h:sW S n c=0):c=0/\pC S n=true:=by
 unfold sW at h;by_cases h1:c=0
 . rw[if_pos h1]at h;cases hk:pC S n with
   |true=>exact⟨h1,rfl⟩
   |false=>rw[hk]at h;cases h
 . rw[if_neg h1]at h;exact absurd h h1
def arj {d:DmR}{B:Nat}(h:fR d)(hf:iy B d)(h5:d.2.length<=5)(h4:d.1.length<=4\/7<=d.1.length):cH d.1.length d.2.length<=4:=by
 unfold cH;rcases rB h hf h5 with⟨q,hq,_,_,hm,_⟩ |⟨hr,h1,h6,_⟩
 . rw[if_pos zo];omega
 . rw[hr,List.length_nil,if_neg (Nat.lt_irrefl 0)];omega
def alH (S:Nat->Bool)(ns:List Nd)(qs:Nat->List Trm)(n cap:Nat)(a:Option Addr)(Vp:Int)(ap:Option Addr)(np cp:Nat)(P:List Trm)(D:DmR)(dn dm:Nat)(da gH:Option Addr)(dc gJ:Nat)(c:Int)(G:Nat->Bool)(A:Int×Int)(w:World)
 (hn:ns.length=n) (hS:∀k (h:k<ns.length),S k=(ns[k].sp !=0)) (uS:n<=40\/4096<n) (hat:At w a (ns.flatMap mF)) (vd:vV w ns qs) (hall:YB ns qs)
 (qp:P.length=np) (hP:∀t∈P,t.1.length<=1000/\Fit 192 t.2) (Mz:np<=1048576) (hsp:Sl ap np cp) (hap:At w ap (P.flatMap aI))
 (fe:D.1.length=dn) (fc:D.2.length=dm) (hs:Sl da dn dc) (hb:At w da (D.1.flatMap spC)) (ha:Tbl w gH D.2) (hf:iy 192 D) (SB:dn<=4\/7<=dn) (dK:dn<=1000) (kr:dm<=5) (hcap:dm<=gJ) (hT:aB w)
 (hc:rC dn dm (iL (D.1.map aY)) (jb D.2)=c) (hG:∀i (h:i<ns.length),S i=false->G i=rP ns[i].sc ns[i].V (qs i) Vp P ((bJ S D i).1.getLastD default)) (hA:wm (iu Vp P) (sW S n c) S G n=A):
 Cl 32 #[.slice a n cap,.agg #[af Vp,.slice ap np cp],.agg #[.slice da dn dc,.slice gH dm gJ]] w (We A D Vp P w):=by
 have KH:=aj λW (hW:Bw w W)=>Ek Vp ap cp np P W qp Mz (hap.below hW) (λt ht=>⟨by have:=(hP t ht).1;omega,(hP t ht).2.1⟩) (hT.below hW);have vU:=aj λW (hW:Bw w W)=>ZK S ns n cap a D dn dm 192 da gH dc gJ c W hn hS uS (hat.below hW) fe fc hs (hb.below hW) (ha.below hW) hf zd zd dK kr hcap (hT.below hW) hc;unfold NM at vU;obtain⟨pc,hpc⟩:=au (iu Vp P);obtain⟨dk,tK⟩:=au (sW S n c);rw[hpc,tK]at hA;simp only[hpc]at KH;simp only[tK]at vU;by_cases h0:pc=0
 rotate_left
 . have Db:(pc==0)=false:=by simpa using h0
   have uR:(pc !=0)=true:=by simpa using h0
   have e:A=(0,pc):=by rw[<-hA];unfold wm;rw[if_neg h0]
   subst e;clear hn hS uS hat vd hall qp hP Mz hsp hap fe fc hs hb ha hf SB dK kr hcap hT hc hG hA hpc tK;have Hb:=hbz w;go_enter Tryz.func32,Tryz.ntmps32;go_wp2_with fail;refine gP w (Hb.an trivial) 41 [af Vp,.slice ap np cp] 27 [.slice da dn dc,.slice gH dm gJ] λW aG ae ai=>?_;go_wp2_with fail;refine aK ae (KH.out _ ae.2.2.1.out) λw1 ae ai=>?_;go_wp2;exact bodyPost_ret (v:=.tuple #[af 0,af pc]) (by simp[results,Tryz.results32,go_sem]) rfl ⟨rfl,λh=>absurd h h0,ae.2.2.1.out⟩
 subst h0;by_cases h1:dk=0
 rotate_left
 . have Db:(dk==0)=false:=by simpa using h1
   have uR:(dk !=0)=true:=by simpa using h1
   have e:A=(0,dk):=by rw[<-hA];unfold wm;rw[if_pos rfl,if_neg h1]
   subst e;clear hn hS uS hat vd hall qp hP Mz hsp hap fe fc hs hb ha hf SB dK kr hcap hT hc hG hA hpc tK;have Hb:=hbz w;go_enter Tryz.func32,Tryz.ntmps32;go_wp2_with fail;refine gP w (Hb.an trivial) 41 [af Vp,.slice ap np cp] 27 [.slice da dn dc,.slice gH dm gJ] λW aG ae ai=>?_;go_wp2_with fail;refine aK ae (KH.out _ ae.2.2.1.out) λw1 ae ai=>?_;go_wp2_with fail;refine(vU.out _ ae.2.2.1.out).mono ?_;rintro e w2 ⟨va,k,vc,rfl,hne,_,ak⟩;obtain⟨ae,ai⟩:=qX ak ae;go_wp2;exact bodyPost_ret (v:=.tuple #[af 0,af dk]) (by simp[results,Tryz.results32,go_sem]) rfl ⟨rfl,λh=>absurd h h1,ae.2.2.1.out⟩
 subst h1;obtain⟨rfl,hwk⟩:=ZJ tK;obtain⟨aS,hne,hend⟩:=VW hwk;have apX:n<=40:=by omega
 have hk:fR D:=by unfold fR;rw[fe,fc];exact hc
 have tB:cH dn dm<=4:=by rw[<-fe,<-fc];exact arj hk hf zo zo
 obtain⟨V,rfl⟩:∃V:Nat,Vp=(V:Int):=⟨Vp.toNat,by have:=(UQ hpc).1;omega⟩;have hPf:dU V 192 P:=⟨Nk hpc,λt ht=>(hP t ht).2⟩;have hin:=λi (hi:i<=n)=>FX hk hf (by omega:D.2.length<=5) i zo (λj hj=>hne j zo)
 have hld:=λi (hi:i<n)=>(show(bJ S D i).1≠[]from λh=>by
  have h1:=(sS S D i).1;rw[h]at h1
  exact hne i hi (List.length_eq_zero_iff.1 h1.symm))
 have hX:=λi (hi:i<n)=>(show rZ 312 D ((bJ S D i).1.getLastD default)from by
  obtain⟨g1,g2,g3⟩:=hin i zo _ (List.mem_append_left _ (Ja (hld i hi)))
  exact⟨g1,g2.mono zo,g3⟩)
 have adf:(∀i,i<n->S i=false->∀X,eO ((bJ S D i).1.getLastD default) X->(V:Int)=(cH dn dm:Int)/\0<bG (fh X (cH dn dm)) P)->∀X,eO D X->(V:Int)=(cH D.1.length D.2.length:Int)/\0<bG (fh X (cH D.1.length D.2.length)) P:=λh X hXD=>by obtain⟨d,hd,wH⟩:=YU hk hf (by omega:D.2.length<=5) n zo hne hXD;have e:(bJ S D n).1=[]:=List.length_eq_zero_iff.1 (by rw[(sS S D n).1,hend];rfl);rw[e,List.nil_append]at hd;obtain⟨i,h1,h2,h3⟩:=alA S D n d hd;rw[fe,fc];exact h i h1 h2 X (by rw[h3];exact wH)
 have hlen:=λi=>(sS S D i).2;have acz:=λi (h:i<n) (hS:S i=false)=>alz S D n i h hS;have hst:=λi=>(show(bJ S D (i+1)).2=if S i then(bJ S D i).2 else(bJ S D i).2++[(bJ S D i).1.getLastD default]from by rw[bJ];split<;>rfl);have Kho:=aj λk (HJ:k<ns.length) (oP:S k=false) (x:Dv) (W:World) (hW:Bw w W) (hx:DT W x ((bJ S D k).1.getLastD default))=>by obtain⟨h1,h2,h3⟩:=vd k HJ;obtain⟨f1,f2,f3⟩:=hall k HJ zo;obtain⟨g1,g2,g3,g4⟩:=hX k zo;exact alX ns[k].sp ns[k].sc.1 ns[k].sc.2.1 ns[k].sc.2.2 ns[k].V ns[k].a ns[k].n ns[k].c (qs k) V ap np cp P _ x.n x.m x.a x.a' x.c x.c' (G k) W h1 zo h2 (h3.below hW) f3 f1 qp hPf ⟨hap.below hW,by rw[qp];exact hsp⟩ hx.n hx.m hx.dat.box hx.dat.row g2 g1 (by have:=hx.m;omega) hx.cap (by rw[<-hx.n,<-hx.m,g3,g4,fe,fc];exact tB) (hT.below hW) (hG k HJ oP).symm
 have DV:=λk (HJ:k<n) (W:World) (x:Dv) (hx:DT W x ((bJ S D k).1.getLastD default))=>(show x.n=dn/\x.m=dm from by
  obtain⟨_,_,g3,g4⟩:=hX k HJ
  exact⟨by rw[<-hx.n,g3,fe],by rw[<-hx.m,g4,fc]⟩)
 obtain⟨HA,Hn,HS,dV,ajB,jE,aiF,bN,Hxn,PC,Hk⟩:=ad7 hA hn hS hat adf hlen acz hst DV hpc hk;clear hn hS uS hat vd hall qp hP Mz hsp hap fe fc hs hb ha hf SB dK kr hcap hT hc hG hA hpc tK hwk aS hne hend hk tB hPf hin hld hX adf hlen acz hst DV;have Hb:=hbz w;go_enter Tryz.func32,Tryz.ntmps32;go_wp2_with fail;refine gP w (Hb.an trivial) 41 [af (V:Int),.slice ap np cp] 27 [.slice da dn dc,.slice gH dm gJ] λW aG ae ai=>?_;go_wp2_with fail;refine aK ae (KH.out _ ae.2.2.1.out) λw1 ae ai=>?_;go_wp2_with fail;refine(vU.out _ ae.2.2.1.out).mono ?_;rintro e w2 ⟨va,k9,vc,rfl,_,heq,ak⟩;obtain⟨ae,ai⟩:=qX ak ae;obtain⟨q,pp,rJ,GI,mn⟩:=heq (by trivial);have Hq:=aj (show q.length=(bJ S D n).2.length from rJ.trans pp);obtain rfl:q.length=k9:=rJ;obtain⟨apl,apx⟩:=aH GI mn;have xN:=ae.1;have bW:=ae.2.2.1;obtain⟨N,hN⟩:=au q.length;rw[hN]at Hq⊢;have HN:=aj hN;clear heq pp GI mn hN;go_wp2_with fail;go_loopw[11,30] (λVl x wr=>∃k:Nat,k<=n/\x=af (k:Int)/\Vl=af ((bJ S D k).2.length:Int)/\(∀j,j<k->S j=false->G j=true/\∀X,eO ((bJ S D j).1.getLastD default) X->(V:Int)=(cH dn dm:Int)/\0<bG (fh X (cH dn dm)) P)/\ar wr w.heap.size 41 [af (V:Int),.slice ap np cp]/\Bw w2 wr) (λ_ x _=>n-(intOf x).toNat);case atStart=>exact⟨0,Nat.zero_le _,rfl,rfl,λj h=>absurd h (Nat.not_lt_zero _),xN.out,Below.refl _ _⟩
 case round=>
  clear ae ai;obtain⟨k,hk,rfl,rfl,hall,hp,pb⟩:=hrel;obtain⟨fP,Hp,Hb⟩:=bM hall hp pb;clear hall hp pb;by_cases hlt:k<n
  . have ez:k<ns.length:=by rw[Hn.out];exact hlt
    have hsk:=HS.out k ez;have AQ:=Kho.out k ez;have gq:=jE.out k;have hle:=aiF.out k hlt;have hst:=bN.out k;have DV:=Hxn.out k hlt;obtain⟨sp,s,m,e,V1,a1,n1,c1,hx⟩:∃sp s m e V a1 n1 c1,ns[k]=⟨sp,(s,m,e),V,a1,n1,c1⟩:=⟨_,_,_,_,_,_,_,_,rfl⟩;obtain⟨b,o,hab,hw⟩:=(dV.out.below (aF bW.out Hb.out)).node k ez hx;have aX:=IY n cap k (k:Int) hab hlt rfl;rw[hx]at hsk AQ;have Hx:Hid (aQ wr b (o+k*6) [af sp,ag s,ah m,af e,af V1,.slice a1 n1 c1]):=hw;obtain⟨L,hL⟩:=au ((bJ S D k).2.length);rw[hL]at hle gq⊢;obtain⟨Hho,sF,sK,Yd,pN,HL⟩:=fZ AQ hle hsk hst DV hL;clear hw hab hx hsk AQ hle hst DV hL;obtain⟨ae,ai⟩:=qZ (Hp.an<|Hx.an trivial);by_cases hsp:sp=0
    rotate_left
    . have hS1:S k=true:=by rw[sK.out];simpa using hsp
      have MI:(sp !=0)=true:=by simpa using hsp
      have gu:(sp==0)=false:=by simpa using hsp
      have mO:Hid ((bJ S D (k+1)).2.length=L):=by show _=_;rw[Yd.out,if_pos hS1];exact HL.out
      have NV:=aj hS1;clear hS1;go_wp2;go_roundw;case rel=>
       refine⟨k+1,by omega,by go_num,by rw[mO.out],λj hj pU=>?_,ae.1.out.below zl,aF Hb.out zl⟩;by_cases hjk:j=k
       . subst hjk;rw[NV.out]at pU;cases pU
       . exact fP.out j zo pU
      case measure=>exact bi
    subst hsp;have aG:=qL (Hb.an ae);go_wp2_with fail;refine cF wr (Hb.an ae) 127 [af 0,ag s,ah m,af e,af V1,.slice a1 n1 c1] λW4 aG ae ai=>?_;have hS1:S k=false:=by rw[sK.out];rfl
    have hle:=sF.out hS1;have RI:L<N:=by rw[Hq.out];exact(List.getElem?_eq_some_iff.1 hle).1
    have hLq:L<q.length:=by rw[HN.out];exact RI
    have hLn:L<(bJ S D n).2.length:=by rw[<-Hq.out];exact RI
    have mn:=apx.out.2 L hLq hLn;have e9:(bJ S D n).2[L]=(bJ S D k).1.getLastD default:=by rw[List.getElem?_eq_getElem hLn]at hle;exact Option.some.inj hle
    rw[e9]at mn;obtain⟨xa,xn,xc,ie,xm,ig,vg⟩:∃xa xn xc ie xm ig,q[L]=⟨xa,xn,xc,ie,xm,ig⟩:=⟨_,_,_,_,_,_,rfl⟩;obtain⟨b3,o3,tF,hw3⟩:=(apl.out.below ae.2.1.out).dom L hLq vg;rw[vg]at mn;obtain⟨e1,e2⟩:=pN.out _ _ mn;dsimp only at e1 e2;replace e1:=e1.symm;replace e2:=e2.symm;subst e1 e2;have SN:=TV N vc L (L:Int) tF RI rfl;have AQ:=λW hW (h:DT W _ _)=>Hho.out hS1 ⟨xa,dn,xc,ie,dm,ig⟩ W hW h;obtain⟨F,Dd⟩:=au (G k);simp only[Dd]at AQ;have xB:=aj Dd;have mO:Hid ((bJ S D (k+1)).2.length=L+1):=by show _=_;rw[Yd.out,if_neg (by rw[hS1];decide),List.length_append,HL.out];rfl
    have MP:IntKind.i64.wrap ((L:Int)+1)=(L:Int)+1:=by rw[IntKind.wrap_i64];omega
    have Hy:Hid (aQ W4 b3 (o3+L*2) [.slice xa dn xc,.slice ie dm ig]):=hw3;obtain⟨OD,air,NV⟩:=bM (mn.below ae.2.1.out) AQ hS1;clear hle hLn mn e9 vg tF hw3 AQ hS1 Dd;obtain⟨ae,ai⟩:=qZ (Hy.an ae);have HZ:Hid (DT W4 ⟨xa,dn,xc,ie,dm,ig⟩ ((bJ S D k).1.getLastD default)):=OD.out;go_wp2_with fail;have ae:=HZ.an ae;refine cQ 999 ae (cJ 8 0xf0c0b0907050301) ?_;refine bo ?_;refine qOp λK hK=>?_;go_simp;with_reducible refine(air.out _ (aF bW.out ae.2.2.2.1.out.drew) (ae.1.out.below ((Below.refl _ _).drew))).mono ?_
    rintro e w5 ⟨⟨rfl,hF⟩,hq⟩;refine kE hK hq ae λae=>?_;clear hK K hq;refine bo ?_;refine cP ae λai=>?_;have HF:=aj hF;clear hF;cases F with
    | false=>
      have e:A=((k:Int),6):=by rw[<-HA.out];exact alY hlt NV.out xB.out λj hj pU=>(fP.out j hj pU).1
      subst e;go_wp2;exact bodyPost_ret (v:=.tuple #[af (k:Int),af 6]) (by simp[results,Tryz.results32,go_sem]) rfl ⟨rfl,λh=>(by cases h),aF bW.out ae.2.2.2.1.out⟩
    | true=>
      go_wp2;go_roundw;case rel=>
       refine⟨k+1,by omega,by go_num,by rw[mO.out];rfl,λj hj pU=>?_,ae.2.2.2.2.1.out,ae.2.2.2.1.out⟩;by_cases hjk:j=k
       . subst hjk;exact⟨xB.out,HF.out (by trivial)⟩
       . exact fP.out j zo pU
      case measure=>exact bi
  . obtain rfl:k=n:=by omega
    have e:A=(0,0):=by rw[<-HA.out];exact alZ λj hj pU=>(fP.out j hj pU).1
    have nP:=aj (ajB.out λi hi hSi=>(fP.out i hi hSi).2);subst e;go_wp2;exact bodyPost_ret (v:=.tuple #[af 0,af 0]) (by simp[results,Tryz.results32,go_sem]) rfl ⟨rfl,λ_=>⟨PC.out,Hk.out,nP.out⟩,aF bW.out Hb.out⟩
def uI :DmR:=([((false,[],0),canon (dZ 2))],[])
def amt :iL (uI.1.map aY)=0:=by decide+kernel
def amu :iu 1 (lA 1 1)=0:=by decide+kernel
def amo :rP (canon (dZ 1)) 2 (gh 1 1 0) 1 (lA 1 1) uI=true:=by decide+kernel
def amq :rP (canon (dZ 2)) 2 (gh 0 3 1) 1 (lA 1 1) uI=false:=by decide+kernel
def amr :rP (canon (dZ 1)) 2 (gh 2 1 0) 1 (lA 1 1) uI=false:=by decide+kernel
def Zt :rP (canon (dZ 1)) 2 (gh 1 1 0) 1 (lA 1 1) (fg false uI)=true:=by decide+kernel
def ams :rP (canon (dZ 1)) 2 (gh 2 1 0) 1 (lA 1 1) (fg true uI)=true:=by decide+kernel
def Jb (D:Dyadic)(a:Option Addr)(n c:Nat):Nd:=⟨0,canon D,2,a,n,c⟩
def spN :Nd:=⟨1,(false,[],0),0,none,0,0⟩
def NC (c a b:Int)(hc: -1000<=c/\c<=1000)(ha: -1000<=a/\a<=1000)(hb: -1000<=b/\b<=1000)(n:Int)(hn: -1000<=n/\n<=1000):Fit 192 (canon (dZ n))/\(gh c a b).length<=4096/\∀t∈gh c a b,t.1.length<=1000/\Fit 192 t.2/\degN t.1<=5:=
 ⟨((sV n hn).mono zd).fit zd,(afX c a b hc ha hb).1.2.2.1,fun t ht=>by
   obtain⟨h1,h2,h3⟩:=avT c a b hc ha hb t ht
   exact⟨h1,h2.mono zd,by omega⟩⟩
def Vn (at' e:Int)(S G:Nat->Bool)(ns:List Nd)(qs:Nat->List Trm)(n cap:Nat)(a:Option Addr)(w:World)(hn:ns.length=n)(hS:∀k (h:k<ns.length),S k=(ns[k].sp !=0))(uS:n<=40)(hat:At w a (ns.flatMap mF))(vd:vV w ns qs)(hall:YB ns qs)
 (hG:∀i (h:i<ns.length),S i=false->G i=rP ns[i].sc ns[i].V (qs i) 1 (lA 1 1) ((bJ S uI i).1.getLastD default)) (hA:wm 0 (sW S n 0) S G n=(at',e)) (hT:aB w):
 Cv 89 #[af at',af e,.slice a n cap] w (ag true):=by
 have yx:dU 1 192 (lA 1 1):=sZ (jJ _) (UC 1 1) (aeT 1 1 zd zd).1.2.2.1 zd (λt ht=>(aeV 1 1 zd zd t ht).mono zd) zd;have cN:=λ(W:World) (hW:Bw w W) ap cp b (hp:aW W ap cp (lA 1 1)) (hb:ar W b 88 [ag false,.string ⟨#[]⟩,af 0,ag (az (dN (dZ 2))),ah (nt (dN (dZ 2)).natAbs),af (dE (dZ 2))])=>
  alH S ns qs n cap a 1 ap (lA 1 1).length cp (lA 1 1) uI 1 0 (some ⟨b,0,none⟩) none 1 0 0 G (at',e) W hn hS (.inl uS) (hat.below hW) (vd.below hW) hall rfl (λt ht=>⟨by have:=Bz (UC 1 1 t ht).1;omega,yx.2 t ht⟩) (Nat.le_trans (aeT 1 1 zd zd).1.2.2.1 zd) hp.2.1 hp.1
   rfl rfl (Sl.some _ _ _ (Nat.le_refl 1)) (At.azW hb) ⟨[],rfl,.inl rfl,λi h=>absurd h (Nat.not_lt_zero _)⟩ ⟨λx hx=>by
    simp only[uI,List.mem_singleton]at hx;subst hx
    exact⟨⟨⟨by decide,by decide,by decide⟩,Sm.zero _⟩,((sV 2 zd).mono zd).fit zd⟩,λr hr=>by cases hr⟩ zd zd zd zd (hT.below hW) (by unfold rC;rw[if_neg zo,if_neg zo,if_neg zo];exact amt) hG (by rw[amu];exact hA)
 have h1:=λW=>Ew 1 (dZ 1) rfl W zd;have h2:=λW=>Ew 2 (dZ 2) rfl W zd;have eY:Sm 10 (dZ 1):=sV 1 zd;have hmk:=λ(W:World) b (hb:ar W b 111 [.string (bs [0]),ag (az (dN (dZ 1))),ah (nt (dN (dZ 1)).natAbs),af (dE (dZ 1)),.string (bs [1]),ag (az (dN (dZ 1))),ah (nt (dN (dZ 1)).natAbs),af (dE (dZ 1))])=>ae8 1 (some ⟨b,0,none⟩) 2 2 [([0],canon (dZ 1)),([1],canon (dZ 1))] 10 W zd rfl zd (At.azW hb)
  (CK (show df [0] ((1:Nat):Int)=true by decide) (show df [1] ((1:Nat):Int)=true by decide)) (CK (show 1<=12 by decide) (show 1<=12 by decide)) (CK (eY.az0 zd) (eY.az0 zd)) (CK (uK eY) (uK eY)) zd
 have hQ:aU [(([0]:List UInt8),canon (dZ 1)),([1],canon (dZ 1))]=lA 1 1:=rfl;simp only[hQ]at hmk;generalize lA 1 1=Q at*;generalize dZ 1=X at*;generalize dZ 2=Y at*;unfold We at cN;obtain⟨fQ,H1,H2,oJ⟩:=cG cN h1 h2 hmk;clear cN h1 h2 hmk hQ eY hn hS uS hat vd hall hG hA hT yx;have Hb:=hbz w;go_enter Tryz.func89,Tryz.ntmps89;go_wp2_with fail;refine aK (Hb.an trivial) (H1.out _) λw1 ae ai=>?_;go_wp2_with fail;refine aK ae (H1.out _) λw2 ae ai=>?_;have aG:=qL ae;go_wp2_with fail;refine cF w2 ae 111 [.string (bs [0]),ag (az (dN X)),ah (nt (dN X).natAbs),af (dE X),.string (bs [1]),ag (az (dN X)),ah (nt (dN X).natAbs),af (dE X)] λW4 aG ae ai=>?_;go_wp2_with fail;refine(oJ.out _ _ ae.1.out).mono ?_;rintro e w5 ⟨a',c',rfl,tX,ak⟩;obtain⟨ae,ai⟩:=qX ak ae;have HU:Hid (aW w5 (a') (c') Q):=tX;clear tX;obtain⟨W6,pW,aG,ae,ai⟩:=bO w5 (HU.an ae) 41 [af 1,.slice a' Q.length c'];go_upto_region 2 with fail
 refine cQ 999 ae (cJ 12 0x171513110f0c0b0807040301) ?_;refine bo ?_;refine bP ae (H2.out _) λw7 ae=>?_;refine bo ?_;refine nC 88 [ag false,.string ⟨#[]⟩,af 0,ag (az (dN Y)),ah (nt (dN Y).natAbs),af (dE Y)] ae λW8 aG ae=>?_;refine bo ?_;refine qOp λK hK=>?_;go_simp;with_reducible refine(fQ.out _ ae.2.2.2.2.1.out a' c' _ ae.2.2.1.out ae.1.out).mono ?_
 rintro e w9 ⟨rfl,_,hq⟩;refine kE hK hq ae λae=>?_;clear hK K hq;refine bo ?_;refine cP ae λai=>?_;go_wp2;refine bodyPost_ret (results_tmp rfl _ _ _) rfl ⟨rfl,ae.2.2.2.2.1.out⟩
def ass {W:World}{b c:Nat}{p:Option Addr}{D:Dyadic}{Q:List Trm}(hp:aW W p c Q):vV W [Jb D p Q.length c] (λ_=>Q):=λk hk=>by
 obtain rfl:k=0:=by simpa using hk
 exact⟨rfl,hp.2.1,hp.1⟩
def Vo (at' e:Int)(n c a b:Int)(g:Bool)(hn: -1000<=n/\n<=1000)(hc: -1000<=c/\c<=1000)(ha: -1000<=a/\a<=1000)(hb: -1000<=b/\b<=1000)(D:Dyadic)(Q:List Trm)(hD:dZ n=D)(hQ:gh c a b=Q)(hg:rP (canon (dZ n)) 2 (gh c a b) 1 (lA 1 1) uI=g)(hA:wm 0 0 (λ_=>false) (λ_=>g) 1=(at',e))(W:World)(k:Nat)(p:Option Addr)(pc:Nat)(hT:aB W)
 (hk:ar W k 127 [af 0,ag (az (dN D)),ah (nt (dN D).natAbs),af (dE D),af 2,.slice p Q.length pc]) (hp:aW W p pc Q):
 Cv 89 #[af at',af e,.slice (some ⟨k,0,none⟩) 1 1] W (ag true):=by
 subst hD hQ;refine Vn at' e (λ_=>false) (λ_=>g) [Jb (dZ n) p (gh c a b).length pc] (λ_=>gh c a b) 1 1 _ W rfl (λj hj=>?_) zd (At.azW hk) (ass (b:=k) hp) (λj hj _=>?_) (λi hi _=>?_) hA hT
 . obtain rfl:j=0:=by simpa using hj
   rfl
 . obtain rfl:j=0:=by simpa using hj
   exact NC c a b hc ha hb n hn
 . obtain rfl:i=0:=by simpa using hi
   exact hg.symm
def auM (D:Dyadic)(Q:List Trm)(hD:dZ 1=D)(hQ:gh 1 1 0=Q)(W:World)(k:Nat)(p:Option Addr)(pc:Nat)(hT:aB W)
 (hk:ar W k 127 [af 1,ag false,.string ⟨#[]⟩,af 0,af 0,.slice none 0 0,af 0,ag (az (dN D)),ah (nt (dN D).natAbs),af (dE D),af 2,.slice p Q.length pc]) (hp:aW W p pc Q):
 Cv 89 #[af 0,af 2,.slice (some ⟨k,0,none⟩) 2 2] W (ag true):=by
 subst hD hQ;refine Vn 0 2 (λk=>k==0) (λ_=>true) [spN,Jb (dZ 1) p (gh 1 1 0).length pc] (λk=>if k=0 then[]else gh 1 1 0) 2 2 _ W rfl (λj hj=>?_) zd (At.azW hk) (λj hj=>?_) (λj hj _=>?_) (λi hi hs=>?_) (by rfl) hT
 . obtain rfl|rfl:j=0\/j=1:=by have:j<2:=hj;omega
   all_goals rfl
 . obtain rfl|rfl:j=0\/j=1:=by have:j<2:=hj;omega
   . exact⟨rfl,Sl.nil,.inl rfl⟩
   . exact⟨rfl,hp.2.1,hp.1⟩
 . obtain rfl|rfl:j=0\/j=1:=by have:j<2:=hj;omega
   . exact⟨(show Fit 192 ((false,[],0):Raw)from⟨⟨by decide,by decide,by decide⟩,Sm.zero _⟩),by decide,λt ht=>by cases ht⟩
   . exact NC 1 1 0 zd zd zd 1 zd
 . obtain rfl|rfl:i=0\/i=1:=by have:i<2:=hi;omega
   . cases hs
   . exact Zt.symm
def auL (D:Dyadic)(Q R:List Trm)(hD:dZ 1=D)(hQ:gh 1 1 0=Q)(hR:gh 2 1 0=R)(W:World)(k:Nat)(p r:Option Addr)(pc rc:Nat)(hT:aB W)
 (hk:ar W k 127 [af 1,ag false,.string ⟨#[]⟩,af 0,af 0,.slice none 0 0,af 0,ag (az (dN D)),ah (nt (dN D).natAbs),af (dE D),af 2,.slice p Q.length pc,af 0,ag (az (dN D)),ah (nt (dN D).natAbs),af (dE D),af 2,.slice r R.length rc]) (hp:aW W p pc Q) (hr:aW W r rc R):
 Cv 89 #[af 0,af 0,.slice (some ⟨k,0,none⟩) 3 3] W (ag true):=by
 subst hD hQ hR;refine Vn 0 0 (λk=>k==0) (λ_=>true) [spN,Jb (dZ 1) p (gh 1 1 0).length pc,Jb (dZ 1) r (gh 2 1 0).length rc] (λk=>if k=0 then[]else if k=1 then gh 1 1 0 else gh 2 1 0) 3 3 _ W rfl (λj hj=>?_) zd (At.azW hk) (λj hj=>?_) (λj hj _=>?_) (λi hi hs=>?_) (by rfl) hT
 . obtain rfl|rfl|rfl:j=0\/j=1\/j=2:=by have:j<3:=hj;omega
   all_goals rfl
 . obtain rfl|rfl|rfl:j=0\/j=1\/j=2:=by have:j<3:=hj;omega
   . exact⟨rfl,Sl.nil,.inl rfl⟩
   . exact⟨rfl,hp.2.1,hp.1⟩
   . exact⟨rfl,hr.2.1,hr.1⟩
 . obtain rfl|rfl|rfl:j=0\/j=1\/j=2:=by have:j<3:=hj;omega
   . exact⟨(show Fit 192 ((false,[],0):Raw)from⟨⟨by decide,by decide,by decide⟩,Sm.zero _⟩),by decide,λt ht=>by cases ht⟩
   . exact NC 1 1 0 zd zd zd 1 zd
   . exact NC 2 1 0 zd zd zd 1 zd
 . obtain rfl|rfl|rfl:i=0\/i=1\/i=2:=by have:i<3:=hi;omega
   . cases hs
   . exact Zt.symm
   . exact ams.symm
def akA (w:World)(hT:aB w):Cv 31 #[] w (ag true):=by
 obtain⟨D1,h1⟩:∃D,dZ 1=D:=⟨_,rfl⟩;obtain⟨D2,h2⟩:∃D,dZ 2=D:=⟨_,rfl⟩;obtain⟨QA,Gw⟩:∃P,gh 1 1 0=P:=⟨_,rfl⟩;obtain⟨QB,RU⟩:∃P,gh 0 3 1=P:=⟨_,rfl⟩;obtain⟨QC,LW⟩:∃P,gh 2 1 0=P:=⟨_,rfl⟩;have JA:=aj λW=>VC 1 1 0 zd zd zd QA Gw W;have JB:=aj λW=>VC 0 3 1 zd zd zd QB RU W;have JC:=aj λW=>VC 2 1 0 zd zd zd QC LW W;have L1:=aj λV a k c W=>ad3 1 D1 h1 V a k c W zd;have L2:=aj λV a k c W=>ad3 2 D2 h2 V a k c W zd;have S1:=aj λW k p pc=>Vo 0 0 1 1 1 0 true zd zd zd zd D1 QA h1 Gw amo rfl W k p pc;have S2:=aj λW k p pc=>Vo 0 6 2 0 3 1 false zd zd zd zd D2 QB h2 RU amq rfl W k p pc;have S3:=aj λW k p pc=>Vo 0 6 1 2 1 0 false zd zd zd zd D1 QC h1 LW amr rfl W k p pc;have S4:=aj λW k p r pc rc=>auL D1 QA QC h1 Gw LW W k p r pc rc;have S5:=aj λW k p pc=>auM D1 QA h1 Gw W k p pc;have lJ:=aj hT;clear h1 h2 Gw RU LW hT;have Hb:=hbz w;go_enter Tryz.func31,Tryz.ntmps31;obtain⟨W1,ao0,aG,ae,ai⟩:=bO w (Hb.an trivial) 127 [af 0,ag false,.string ⟨#[]⟩,af 0,af 0,.slice none 0 0];go_upto_region 2 with fail
 first|refine eN (aN W1 (w.heap.size) 0 [af 1,ag false,.string ⟨#[]⟩,af 0,af 0,.slice none 0 0]) aR ?_|refine eJ (aN W1 (w.heap.size) 0 [af 1,ag false,.string ⟨#[]⟩,af 0,af 0,.slice none 0 0]) aR ?_
 intro W2 hs0;have ae:=bC hs0 ae;simp only[bD,List.set]at ae;have ai:=qC ae;refine cQ 999 ae (cJ 33 0x413f3c3a38363533312e2c2a28262423211f1c1a18161513100e0c0a0906040200) ?_;refine qOp λK hK=>?_;go_simp;with_reducible refine(JA.out _).mono ?_
 rintro e w2 ⟨a2,c2,rfl,hp2,hq⟩;refine kE hK hq ae λae=>?_;clear hK K hq;have NT:=aj hp2;clear hp2;have ae:=NT.an ae;refine bP ae (L1.out 2 a2 QA.length c2 _) λw3 ae=>?_;refine nC 127 [af 0,ag (az (dN D1)),ah (nt (dN D1).natAbs),af (dE D1),af 2,.slice a2 QA.length c2] ae λW4 aG ae=>?_;refine bP ae (S1.out _ _ a2 c2 (lJ.out.below ae.2.2.2.1.out) ae.1.out ae.2.1.out) λw5 ae=>?_;refine bo ?_;refine qOp λK hK=>?_;go_simp;with_reducible refine(JB.out _).mono ?_
 rintro e w6 ⟨a6,c6,rfl,yE,hq⟩;refine kE hK hq ae λae=>?_;clear hK K hq;have se:=aj yE;clear yE;have ae:=se.an ae;refine bP ae (L2.out 2 a6 QB.length c6 _) λw7 ae=>?_;refine nC 127 [af 0,ag (az (dN D2)),ah (nt (dN D2).natAbs),af (dE D2),af 2,.slice a6 QB.length c6] ae λW8 aG ae=>?_;refine bP ae (S2.out _ _ a6 c6 (lJ.out.below ae.2.2.2.2.2.1.out) ae.1.out ae.2.1.out) λw9 ae=>?_;refine bo ?_;refine qOp λK hK=>?_;go_simp;with_reducible refine(JC.out _).mono ?_
 rintro e jU ⟨Qt,c10,rfl,Iu,hq⟩;refine kE hK hq ae λae=>?_;clear hK K hq;have HF3:=aj Iu;clear Iu;have ae:=HF3.an ae;refine bP ae (L1.out 2 Qt QC.length c10 _) λxz ae=>?_;refine nC 127 [af 0,ag (az (dN D1)),ah (nt (dN D1).natAbs),af (dE D1),af 2,.slice Qt QC.length c10] ae λQr aG ae=>?_;refine bP ae (S3.out _ _ Qt c10 (lJ.out.below ae.2.2.2.2.2.2.2.1.out) ae.1.out ae.2.1.out) λrX ae=>?_;refine bo ?_;refine qOp λK hK=>?_;go_simp;with_reducible refine(JA.out _).mono ?_
 rintro e NH ⟨Ah,c14,rfl,Ix,hq⟩;refine kE hK hq ae λae=>?_;clear hK K hq;have HF4:=aj Ix;clear Ix;have ae:=HF4.an ae;refine bP ae (L1.out 2 Ah QA.length c14 _) λw15 ae=>?_;refine qOp λK hK=>?_;go_simp;with_reducible refine(JC.out _).mono ?_
 rintro e VN ⟨uH,c16,rfl,Iy,hq⟩;refine kE hK hq ae λae=>?_;clear hK K hq;have HF5:=aj Iy;clear Iy;have ae:=HF5.an ae;refine bP ae (L1.out 2 uH QC.length c16 _) λw17 ae=>?_;refine nC 127 [af 1,ag false,.string ⟨#[]⟩,af 0,af 0,.slice none 0 0,af 0,ag (az (dN D1)),ah (nt (dN D1).natAbs),af (dE D1),af 2,.slice Ah QA.length c14,af 0,ag (az (dN D1)),ah (nt (dN D1).natAbs),af (dE D1),af 2,.slice uH QC.length c16] ae λW18 aG ae=>?_;refine bP ae (S4.out _ _ Ah uH c14 c16 (lJ.out.below ae.2.2.2.2.2.2.2.2.2.2.1.out) ae.1.out ae.2.2.1.out ae.2.1.out) λrY ae=>?_;refine bo ?_;refine qOp λK hK=>?_;go_simp;with_reducible refine(JA.out _).mono ?_
 rintro e w20 ⟨Qu,c20,rfl,ac2,hq⟩;refine kE hK hq ae λae=>?_;clear hK K hq;have HF6:=aj ac2;clear ac2;have ae:=HF6.an ae;refine bP ae (L1.out 2 Qu QA.length c20 _) λw21 ae=>?_;refine nC 127 [af 1,ag false,.string ⟨#[]⟩,af 0,af 0,.slice none 0 0,af 0,ag (az (dN D1)),ah (nt (dN D1).natAbs),af (dE D1),af 2,.slice Qu QA.length c20] ae λW22 aG ae=>?_;refine bP ae (S5.out _ _ Qu c20 (lJ.out.below ae.2.2.2.2.2.2.2.2.2.2.2.2.1.out) ae.1.out ae.2.1.out) λw23 ae=>?_;refine bo ?_;refine cP ae λai=>?_;go_wp2;refine bodyPost_ret (results_tmp rfl _ _ _) rfl ⟨rfl,ae.2.2.2.2.2.2.2.2.2.2.2.2.1.out⟩
end Go.Proofs.YtpfgffadgkkedaaGreatDoor
