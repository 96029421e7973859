/- Domains in memory,by the types of their blocks. -/
import Derived.Test.YtpfgffadgkkedaaGreatDoorZ31
import Derived.Test.YtpfgffadgkkedaaGreatDoorZ32
import Derived.Test.YtpfgffadgkkedaaGreatDoorZ16
import Derived.Test.YtpfgffadgkkedaaGreatDoorZ7
import Derived.Test.YtpfgffadgkkedaaGreatDoorZ11
import Derived.Test.YtpfgffadgkkedaaGreatDoorZ24
import Derived.Test.YtpfgffadgkkedaaGreatDoorZ27
set_option linter.all false
set_option maxRecDepth 100000
set_option maxHeartbeats 16000000
namespace Go.Proofs.YtpfgffadgkkedaaGreatDoor
open Go.RowKit
def nR (S:TypeId):Prop:=S=88\/S=63\/S=45
def cn (P:Nat->TypeId->Prop)(w w':World):Prop:=Chg (λb=>¬∃cur S,w.heap[b]?=some (.cells cur S)/\P b S) w w'
def cn.of_below {P:Nat->TypeId->Prop}{w w':World}(h:Bw w w'):cn P w w':=Chg.of_below h
def cn.refl {P:Nat->TypeId->Prop}(w:World):cn P w w:=cn.of_below (Below.refl _ _)
def cn.trans {P:Nat->TypeId->Prop}{A B C:World}(h:cn P A B)(k:cn P B C):cn P A C:=by
 refine Chg.trans h k ?_;intro b hy;by_cases hb:b<A.heap.size
 . by_cases hx:∃cur S,A.heap[b]?=some (.cells cur S)/\P b S
   . obtain⟨cur,S,h1,h2⟩:=hx;have e:=Chg.block h b hb (λhn=>hn ⟨cur,S,h1,h2⟩);exact absurd ⟨cur,S,e.trans h1,h2⟩ hy
   . exact .inl hx
 . exact .inr zo
def cn.mono {P Q:Nat->TypeId->Prop}{w w':World}(h:cn P w w')(hP:∀b S,Q b S->P b S):cn Q w w':=
 ⟨h.os,h.tape,h.output,h.size,λk hk hy=>h.block k hk λhn=>hy λ⟨cur,S,h1,h2⟩=>hn ⟨cur,S,h1,hP _ _ h2⟩⟩
def cn.set {P:Nat->TypeId->Prop}{w:World}{b:Nat}{t:TypeId}{l:List Value}(hb:ar w b t l)(ht:¬P b t)(i:Nat)(u:Value):cn P w (w.setCell ⟨b,i,none⟩ u):=
 rp (Chg.refl _ w) b i u λ⟨cur,S,h1,h2⟩=>by have e:=h1.symm.trans hb;simp only[Option.some.injEq,Obj.cells.injEq]at e;exact ht (e.2.1▸h2)
def cn.stsF {P:Nat->TypeId->Prop}{b:Nat}{t:TypeId}(ht:¬P b t)(vs:List Value):∀(o:Nat) (w:World) (l:List Value),ar w b t l->cn P w (ul b o vs w):=by
 induction vs with
 |nil=>intro o w l _;exact cn.refl w
 |cons v vs ih=>intro o w l hb;exact(cn.set hb ht o v).trans (ih _ _ _ (hb.set o v))
def cn.sts {P:Nat->TypeId->Prop}{w W:World}{b o:Nat}{t:TypeId}{l vs:List Value}(hb:ar w b t l)(k:aO w b o vs W)(ht:¬P b t):cn P w W:=by
 rcases k with rfl|rfl
 . exact cn.stsF ht vs o w l hb
 . exact(cn.of_below (Below.refl _ _).drew).trans (cn.stsF ht vs o w.drew l hb.drew)
def cn.own {P:Nat->TypeId->Prop}{w w':World}{base n size:Nat}{e:TypeId}{v:Value}{xs:List Value}(h:w.ownsRow base e size v n xs)(he:∀b,¬P b e)(hg:w.grownBy w' v.ownBlock):cn P w w':=
 Chg.aBi hg λb hb=>by obtain⟨cur,t,h1,rfl⟩:=vd h b hb;rintro⟨QN,S,h2,h3⟩;have e:=h1.symm.trans h2;simp only[Option.some.injEq,Obj.cells.injEq]at e;exact he b (e.2.1▸h3)
def cn.blk {P:Nat->TypeId->Prop}{w w':World}{b:Nat}{t:TypeId}{cs:List Value}(k:cn P w w')(h:ar w b t cs)(ht:P b t):ar w' b t cs:=Chg.blk k h λhn=>hn ⟨_,_,h,ht⟩
def cn.row {P:Nat->TypeId->Prop}{w w':World}{base n size:Nat}{e:TypeId}{v:Value}{xs:List Value}(k:cn P w w')(h:w.ownsRow base e size v n xs)(he:∀b,base<=b->P b e):w'.ownsRow base e size v n xs:=
 BI h k λb hb hn=>by obtain⟨cur,t,h1,rfl⟩:=vd h b hb;exact hn ⟨cur,_,h1,he b (cK h b hb)⟩
def KT (w w':World):Prop:=cn (λ_=>nR) w w'
def KT.of_below {w w':World}(h:Bw w w'):KT w w':=cn.of_below h
def KT.set {w:World}{b:Nat}{t:TypeId}{l:List Value}(hb:ar w b t l)(ht:¬nR t)(i:Nat)(u:Value):KT w (w.setCell ⟨b,i,none⟩ u):=cn.set hb ht i u
def KT.sts {w W:World}{b o:Nat}{t:TypeId}{l vs:List Value}(hb:ar w b t l)(k:aO w b o vs W)(ht:¬nR t):KT w W:=cn.sts hb k ht
def TA (S:TypeId)(w:World)(a:Option Addr)(cs:List Value):Prop:=cs=[]\/∃b o cur,a=some ⟨b,o,none⟩/\w.heap[b]?=some (.cells cur S)/\∀j,j<cs.length->w.cell? ⟨b,o+j,none⟩=cs[j]?
def TA.at {S:TypeId}{w:World}{a:Option Addr}{cs:List Value}(h:TA S w a cs):At w a cs:=by
 rcases h with h|⟨b,o,cur,h1,_,h2⟩
 . exact .inl h
 . exact .inr ⟨b,o,h1,h2⟩
def TA.kt {S:TypeId}{w w':World}{a:Option Addr}{cs:List Value}(h:TA S w a cs)(k:KT w w')(hS:nR S):TA S w' a cs:=by
 rcases h with h|⟨b,o,cur,h1,hb,h2⟩
 . exact .inl h
 . have e:=Chg.block k b (Array.getElem?_eq_some_iff.1 hb).1 (λhn=>hn ⟨cur,S,hb,hS⟩);exact .inr ⟨b,o,cur,h1,e.trans hb,λj hj=>(World.cell?_of_block e).trans (h2 j hj)⟩
def TA.aBc {w:World}{base n size:Nat}{e:TypeId}{v:Value}{xs:List Value}(h:w.ownsRow base e size v n xs):∃a cap,v=.slice a n cap/\n<=cap/\TA e w a xs:=by
 have ht:=vd h;obtain⟨a,c,rfl,hat,_⟩:=cz h;refine⟨a,c,rfl,BH h,?_⟩;rcases hat with hat|⟨b,o,rfl,hat⟩
 . exact .inl hat
 . obtain⟨cur,t,h1,rfl⟩:=ht b rfl;exact .inr ⟨b,o,cur,rfl,h1,hat⟩
def TA.aBa {w:World}{b:Nat}{t:TypeId}{cs:List Value}(h:ar w b t cs):TA t w (some ⟨b,0,none⟩) cs:=
 .inr ⟨b,0,_,rfl,h,λj _=>by rw[Nat.zero_add];exact h.cell j⟩
def TblT (w:World)(a:Option Addr)(rows:List (List Raw)):Prop:=∃vals:List Value,vals.length=rows.length/\TA 63 w a vals/\∀i (h:i<rows.length) (h':i<vals.length),∃a1 c1,vals[i]=.slice a1 rows[i].length c1/\TA 45 w a1 (rows[i].flatMap aV)
def TblT.tbl {w:World}{a:Option Addr}{rows:List (List Raw)}(h:TblT w a rows):Tbl w a rows:=by obtain⟨vals,h1,h2,h3⟩:=h;refine⟨vals,h1,h2.at,λi p q=>?_⟩;obtain⟨a1,c1,h4,h5⟩:=h3 i p q;exact⟨a1,c1,h4,h5.at⟩
def TblT.kt {w w':World}{a:Option Addr}{rows:List (List Raw)}(h:TblT w a rows)(k:KT w w'):TblT w' a rows:=by obtain⟨vals,h1,h2,h3⟩:=h;refine⟨vals,h1,h2.kt k (.inr (.inl rfl)),λi p q=>?_⟩;obtain⟨a1,c1,h4,h5⟩:=h3 i p q;exact⟨a1,c1,h4,h5.kt k (.inr (.inr rfl))⟩
def TblT.below {w w':World}{a:Option Addr}{rows:List (List Raw)}(h:TblT w a rows)(k:Bw w w'):TblT w' a rows:=h.kt (KT.of_below k)
instance {w :World} {a:Option Addr} {rows:List (List Raw)}:QTr (TblT w a rows) w (λW=>TblT W a rows):=⟨λh _ k=>TblT.below h k⟩
def TblT.sts {w W:World}{a:Option Addr}{rows:List (List Raw)}{b o:Nat}{t:TypeId}{l vs:List Value}(h:TblT w a rows)(hb:ar w b t l)(k:aO w b o vs W)(ht:¬nR t:=by unfold nR;decide):TblT W a rows:=h.kt (KT.sts hb k ht)
def TblT.nil (w:World)(a:Option Addr):TblT w a []:=⟨[],rfl,.inl rfl,λi h=>absurd h (Nat.not_lt_zero _)⟩
def fM.typed {w:World}{base k:Nat}{R:List (List Raw)}{v:Value}(h:fM 63 w base (R.map λr=>r.map dval) k v)(hk:R.length=k):∃a c,v=.slice a k c/\k<=c/\TblT w a (R.map rA):=by
 obtain⟨vals,hl,ho,hi⟩:=h;obtain⟨a,c,hv,hc,hat⟩:=TA.aBc ho;subst hv;refine⟨a,c,rfl,hc,vals,by simp[hl,hk],hat,λi h1 h2=>?_⟩;obtain⟨a1,c1,e1,_,e2⟩:=TA.aBc (hi i h2);have hi1:i<R.length:=by simpa using h1
 have eg:(R.map λr=>r.map dval).getD i []=R[i].map dval:=by simp[hi1]
 rw[eg]at e1 e2;refine⟨a1,c1,?_,?_⟩
 . rw[e1];simp[Lx]
 . rw[List.getElem_map,Rn];exact e2
structure DT (w:World)(x:Dv)(d:DmR):Prop where
 n:d.1.length=x.n
 m:d.2.length=x.m
 cap:x.m<=x.c'
 box:TA 88 w x.a (d.1.flatMap spC)
 row:TblT w x.a' d.2
def DT.kt {w w':World}{x:Dv}{d:DmR}(h:DT w x d)(k:KT w w'):DT w' x d:=⟨h.n,h.m,h.cap,h.box.kt k (.inl rfl),h.row.kt k⟩
def DT.dat {w:World}{x:Dv}{d:DmR}(h:DT w x d):DAt w x d:=⟨h.n,h.m,h.cap,h.box.at,h.row.tbl⟩
def DT.below {w w':World}{x:Dv}{d:DmR}(h:DT w x d)(k:Bw w w'):DT w' x d:=h.kt (KT.of_below k)
instance {w :World} {x:Dv} {d:DmR}:QTr (DT w x d) w (λW=>DT W x d):=⟨λh _ k=>DT.below h k⟩
def DT.sts {w W:World}{x:Dv}{d:DmR}{b o:Nat}{t:TypeId}{l vs:List Value}(h:DT w x d)(hb:ar w b t l)(k:aO w b o vs W)(ht:¬nR t:=by unfold nR;decide):DT W x d:=h.kt (KT.sts hb k ht)
def fB (w:World)(l:List Dv)(ds:List DmR):Prop:=l.length=ds.length/\∀k (h:k<l.length) (h2:k<ds.length),DT w l[k] ds[k]
def fB.kt {w w':World}{l:List Dv}{ds:List DmR}(h:fB w l ds)(k:KT w w'):fB w' l ds:=⟨h.1,λi h1 h2=>(h.2 i h1 h2).kt k⟩
def fB.below {w w':World}{l:List Dv}{ds:List DmR}(h:fB w l ds)(k:Bw w w'):fB w' l ds:=h.kt (KT.of_below k)
instance {w :World} {l:List Dv} {ds:List DmR}:QTr (fB w l ds) w (λW=>fB W l ds):=⟨λh _ k=>fB.below h k⟩
def fB.nil (w:World):fB w [] []:=⟨rfl,λk h=>absurd h (Nat.not_lt_zero _)⟩
def fB.snoc {w:World}{l:List Dv}{ds:List DmR}{x:Dv}{d:DmR}(h:fB w l ds)(hx:DT w x d):fB w (l++[x]) (ds++[d]):=by
 refine⟨by simp[h.1],λk h1 h2=>?_⟩;by_cases hk:k<l.length
 . rw[List.getElem_append_left hk,List.getElem_append_left (by rw[<-h.1];exact hk)];exact h.2 k hk _
 . have e:k=l.length:=by simp at h1;omega
   subst e;rw[List.getElem_append_right (Nat.le_refl _),List.getElem_append_right (by rw[h.1];exact Nat.le_refl _)];simp only[h.1,Nat.sub_self,List.getElem_cons_zero];exact hx
def fB.init {w:World}{l:List Dv}{ds:List DmR}(h:fB w l ds):fB w l.dropLast ds.dropLast:=by refine⟨by simp[h.1],λk h1 h2=>?_⟩;rw[List.getElem_dropLast,List.getElem_dropLast];exact h.2 k _ _
def fB.last {w:World}{l:List Dv}{ds:List DmR}(h:fB w l ds){L:Nat}(hl:ds.length=L+1)(h1:L<l.length):DT w l[L] (ds.getLastD default):=by
 have e:ds.getLastD default=ds[L]'zo:=by
  have e0:ds.length-1=L:=by omega
  rw[List.getLastD_eq_getLast?,List.getLast?_eq_getElem?,e0,List.getElem?_eq_getElem zo];rfl
 rw[e];exact h.2 L h1 _
end Go.Proofs.YtpfgffadgkkedaaGreatDoor
namespace Go.Proofs.YtpfgffadgkkedaaGreatDoor
open Go.RowKit
attribute [local go_sem ↓] Go.wp_at_zero Go.wp_at_succ
def TS (w:World)(a:Option Addr)(cs:List Value):Prop:=TA 88 w a cs
def TS.below {w w':World}{a:Option Addr}{cs:List Value}(h:TS w a cs)(k:Bw w w'):TS w' a cs:=TA.kt h (KT.of_below k) (.inl rfl)
instance {w :World} {a:Option Addr} {cs:List Value}:QTr (TS w a cs) w (λW=>TS W a cs):=⟨λh _ k=>TS.below h k⟩
def TS.sts {w W:World}{a:Option Addr}{cs:List Value}{b o:Nat}{t:TypeId}{l vs:List Value}(h:TS w a cs)(hb:ar w b t l)(k:aO w b o vs W)(ht:¬nR t:=by unfold nR;decide):TS W a cs:=TA.kt h (KT.sts hb k ht) (.inl rfl)
def aqf (a:Option Addr)(cap n B:Nat)(rows:List (List Raw))(w:World)(hn:1<=n)(DN:n<=8)(hr:Rw n B rows)(ha:Tbl w a rows)(hB:B<=10000000)(hT:aB w):
 Cl 102 #[.slice a (n+1) cap] w λe w'=>∃a1 c1 a2 c2,e=.returned (.tuple #[.slice a1 (n+1) c1,.slice a2 (n+1) c2,af 0])/\n+1<=c1/\n+1<=c2/\
  TblT w' a1 (oZ n false rows)/\TblT w' a2 (oZ n true rows)/\Bw w w':=by
 obtain⟨i,j,Y,hF⟩:∃i j Y,ia (gy rows n) (n+1)=(i,j,Y):=⟨_,_,_,rfl⟩;refine(aqg a (n+1) cap n rows B i j Y w hr.1 (axc hr hn DN) hn ha hr.2.2 hB hT hF).mono ?_;rintro e w' ⟨a1,c1,a2,c2,mid,rfl,cV,fH,hb⟩;obtain⟨b1,d1,e1,h1,t1⟩:=cV.aBE.typed (by rw[List.length_set];exact hr.1);obtain⟨b2,d2,e2,h2,t2⟩:=fH.typed (by rw[List.length_set];exact hr.1);simp only[Value.slice.injEq,true_and]at e1 e2;obtain⟨rfl,rfl⟩:=e1;obtain⟨rfl,rfl⟩:=e2;unfold oZ tG;rw[hF];exact⟨a1,c1,a2,c2,rfl,h1,h2,t1,t2,hb⟩
def amd (a:Option Addr)(L cap B:Nat)(bx:List (Raw×Raw))(i:Nat)(w:World)(hL:bx.length=L)(hi:i<L)(hl:L<=1000)(hf:lK B bx)(hB:B<=1000000)(ha:At w a (bx.flatMap spC))(hT:aB w):
 Cl 103 #[.slice a L cap,af (i:Int)] w λe w'=>∃g1 g2,e=.returned (.tuple #[.slice (some ⟨g1,0,none⟩) L L,.slice (some ⟨g2,0,none⟩) L L,af 0])/\TS w' (some ⟨g1,0,none⟩) (((jv (bx.map bH) i false).map kA).flatMap spC)/\TS w' (some ⟨g2,0,none⟩) (((jv (bx.map bH) i true).map kA).flatMap spC)/\Bw w w':=
 (ame a L cap B bx i w hL hi hl hf hB ha hT).mono λ_ _ ⟨g1,g2,h1,_,_,h4,h5,h6⟩=>⟨g1,g2,h1,TA.aBa h4,TA.aBa h5,h6⟩
def Ks (d:DmR)(n m:Nat)(w:World)(e:Ending)(w':World):Prop:=
 ∃(a1:Option Addr) (c1:Nat) (b1:Option Addr) (e1:Nat) (a2:Option Addr) (c2:Nat) (b2:Option Addr) (e2:Nat),e=.returned (.tuple #[.agg #[.slice a1 n c1,.slice b1 m e1],.agg #[.slice a2 n c2,.slice b2 m e2],af 0])/\
  DT w' ⟨a1,n,c1,b1,m,e1⟩ (fh false d)/\DT w' ⟨a2,n,c2,b2,m,e2⟩ (fh true d)/\Bw w w'
def anT (d:DmR)(n m B:Nat)(a a':Option Addr)(cap cap':Nat)(w:World)(hn:d.1.length=n)(hm:d.2.length=m)(hb:At w a (d.1.flatMap spC))(ha:Tbl w a' d.2)(hf:iT B d)(hB:B<=200000)(jc:m<=5)(hcap:m<=cap')(hT:aB w)(hk:fZ d):
 Cl 39 #[.agg #[.slice a n cap,.slice a' m cap']] w (Ks d n m w):=by
 have h20:n<=1000:=by
  rcases sU hk hf zo with⟨_,_,h,_⟩ |⟨_,_,h,_⟩
  . rw[h]at hn;simp at hn;omega
  . omega
 have cH:=λW (hW:Bw w W)=>ZC d.1 d.2 n m B a a' cap cap' 0 W hn hm (hb.below hW) (ha.below hW) hf.1 hf.2 zo h20 jc hcap (hT.below hW) (by have h:=hk;unfold fZ at h;rw[hn,hm]at h;exact h);have hlen:=λup=>Ix hk hf zo zo up;have fA:=aj cH;rcases sU hk hf zo with⟨q,hq,h1,hr,hl,h0⟩ |⟨h1,h2,h6,h0⟩
 . obtain rfl:m=q+2:=by omega
   obtain rfl:n=0:=by rw[<-hn,h1];rfl
   have e:=λup=>(show fh up d=([],oZ (q+1) up d.2)by unfold fh;rw[if_pos zo,hl];rfl);have GK:=λW (hW:Bw w W)=>aqf a' cap' (q+1) B d.2 W zo zo hr (ha.below hW) zo (hT.below hW);have hl0:(oZ (q+1) false d.2).length=q+2:=by have h:=(hlen false).2.2.2;rw[e]at h;exact h.trans hl
   have gJ:(oZ (q+1) true d.2).length=q+2:=by have h:=(hlen true).2.2.2;rw[e]at h;exact h.trans hl
   unfold Ks;rw[e,e];have tP:=λW=>IH 0 (q+2) a a' cap cap' false true zm zm W;generalize oZ (q+1) false d.2=T1 at*;generalize oZ (q+1) true d.2=T2 at*;obtain⟨OW,zP,jV,zQ⟩:=cE GK tP hl0 gJ;clear cH hlen hb ha hf hT hk hn hm hr hl h0 h1 e GK tP hl0 gJ;have Hb:=hbz w;go_enter Tryz.func39,Tryz.ntmps39;go_wp2_with fail;refine BL w (Hb.an trivial) 27 [.slice a 0 cap,.slice a' (q+2) cap'] 27 [.slice none 0 0,.slice none 0 0] 27 [.slice none 0 0,.slice none 0 0] λW aG ae ai=>?_;go_wp2_with fail;refine aK ae (fA.out _ ae.2.2.2.1.out) λw1 ae ai=>?_;go_wp2_with fail;refine aK ae (zP.out _) λw2 ae ai=>?_;go_wp2_with fail;refine(OW.out _ ae.2.2.2.1.out).mono ?_;rintro e w3 ⟨a1,c1,a2,c2,rfl,hc1,hc2,ht1,ht2,ak⟩;obtain⟨ae,ai⟩:=qX ak ae;have HA:Hid (TblT w3 a1 T1):=ht1;have HB:Hid (TblT w3 a2 T2):=ht2;clear ht1 ht2;have vA:=HA;have Wc:=HB;have sD:=ae.2.1;have uy:=ae.2.2.1;go_upto_region 7 with fail
   first|refine eG (λiJ=>∃fe,aO w3 (w.heap.size+1) 1 [.slice a1 (q+2) c1] fe/\aO fe (w.heap.size+1+1) 1 [.slice a2 (q+2) c2] iJ) ⟨_,aR,aR⟩ ?_|refine eF (λiJ=>∃fe,aO w3 (w.heap.size+1) 1 [.slice a1 (q+2) c1] fe/\aO fe (w.heap.size+1+1) 1 [.slice a2 (q+2) c2] iJ) ⟨_,aR,aR⟩ ?_
   rintro W4 ⟨_,hs0,hs1⟩;have ae:=bD hs1 (bD hs0 ae);simp only[bz,List.set]at ae;have ai:=qC ae;have je:TblT W4 a1 T1:=(vA.out.sts sD.out hs0).sts (kS uy hs0 zo).out hs1;have pz:TblT W4 a2 T2:=(Wc.out.sts sD.out hs0).sts (kS uy hs0 zo).out hs1;have HA:Hid (TblT W4 a1 T1):=je;have HB:Hid (TblT W4 a2 T2):=pz;clear je pz vA Wc sD uy;have ae:=HA.an<|HB.an ae
   have ae:=And.intro ae.1<|And.intro ae.2.1<|And.intro ae.2.2.1<|And.intro ae.2.2.2.1<|And.intro ae.2.2.2.2.2.1<|And.intro ae.2.2.2.2.1 trivial
   refine df 5 (ae.2.2.2.2.2) (cQ 6 0xa0806000503) ?_;refine bC ?_;have ai:=qC ae;refine qOp λK hK=>?_;go_simp;refine hK _ _ (by first|exact λ_=>QIm.out ae|exact λ_=>QIm.out (UX (w:=W4) ae)) ?_;try simp only[UU]
   have ai:=qC ae;refine qOp λK hK=>?_;go_simp;refine BM (aO W4 (w.heap.size+1) 0 [.slice none 0 0,.slice a1 (q+2) c1]) aR ?_;intro W5 hs0;have cw:=ae;have ae:=bD hs0 cw;simp only[bz,List.set]at ae;have HA:Hid (TblT W5 a1 T1):=cw.1.out.sts cw.2.2.2.1.out hs0;have HB:Hid (TblT W5 a2 T2):=cw.2.1.out.sts cw.2.2.2.1.out hs0;have ae:=HA.an<|HB.an ae
   have ai:=qC ae;refine hK _ _ (λ_=>QIm.out ae) ?_;try simp only[UU]
   have ai:=qC ae;refine qOp λK hK=>?_;go_simp;refine BM (aO W5 (w.heap.size+1+1) 0 [.slice none 0 0,.slice a2 (q+2) c2]) aR ?_;intro W6 hs0;have cw:=ae;have ae:=bD hs0 cw;simp only[bz,List.set]at ae;have HA:Hid (TblT W6 a1 T1):=cw.1.out.sts cw.2.2.2.2.2.2.2.1.out hs0;have HB:Hid (TblT W6 a2 T2):=cw.2.1.out.sts cw.2.2.2.2.2.2.2.1.out hs0;have ae:=HA.an<|HB.an ae
   have ai:=qC ae;refine hK _ _ (λ_=>QIm.out ae) ?_;try simp only[UU]
   have ai:=qC ae;refine qOp λK hK=>?_;go_simp;refine hK _ _ (λh=>absurd h zd) ?_;try simp only[UU]
   refine cZ ae λai=>?_;go_wp2;exact bodyPost_ret (v:=.tuple #[.agg #[.slice none 0 0,.slice a1 (q+2) c1],.agg #[.slice none 0 0,.slice a2 (q+2) c2],af 0]) (by simp[results,Tryz.results39,go_sem,ai]) rfl ⟨none,0,a1,c1,none,0,a2,c2,rfl,⟨rfl,jV.out,hc1,.inl rfl,ae.1.out⟩,⟨rfl,zQ.out,hc2,.inl rfl,ae.2.1.out⟩,ae.2.2.2.2.2.2.2.2.1.out⟩
 . obtain rfl:m=0:=by rw[<-hm,h1];rfl
   have e:=λup=>(show fh up d=((jv (d.1.map bH) (qP (d.1.map bH)) up).map kA,[])by unfold fh;rw[if_neg zo]);have qH:=λW (hW:Bw w W)=>amf a n cap B d.1 W hn zo zo hf.1 zo (hb.below hW) (hT.below hW);have hw:=VP (bx:=d.1.map bH) (by rw[List.length_map];omega);rw[List.length_map,hn]at hw;have GK:=λW (hW:Bw w W)=>amd a n cap B d.1 (qP (d.1.map bH)) W hn hw zo hf.1 zo (hb.below hW) (hT.below hW);have hl0:((jv (d.1.map bH) (qP (d.1.map bH)) false).map kA).length=n:=by have h:=(hlen false).2.2.1;rw[e]at h;exact h.trans hn
   have gJ:((jv (d.1.map bH) (qP (d.1.map bH)) true).map kA).length=n:=by have h:=(hlen true).2.2.1;rw[e]at h;exact h.trans hn
   unfold Ks;rw[e,e];have tP:=λW=>IH n 0 a a' cap cap' true false zi zm W;generalize (jv (d.1.map bH) (qP (d.1.map bH)) false).map kA=T1 at*;generalize (jv (d.1.map bH) (qP (d.1.map bH)) true).map kA=T2 at*;generalize qP (d.1.map bH)=x at*;obtain⟨OW,CB,zP,jV,zQ⟩:=dY GK qH tP hl0 gJ;clear cH hlen hb ha hf hT hk hn hm h0 h1 e GK qH tP hl0 gJ hw;have Hb:=hbz w;go_enter Tryz.func39,Tryz.ntmps39;go_wp2_with fail;refine BL w (Hb.an trivial) 27 [.slice a n cap,.slice a' 0 cap'] 27 [.slice none 0 0,.slice none 0 0] 27 [.slice none 0 0,.slice none 0 0] λW aG ae ai=>?_;go_wp2_with fail;refine aK ae (fA.out _ ae.2.2.2.1.out) λw1 ae ai=>?_;go_wp2_with fail;refine aK ae (zP.out _) λw2 ae ai=>?_;go_wp2_with fail;have ae:=And.intro ae.2.1<|And.intro ae.2.2.1<|And.intro ae.2.2.2.1<|And.intro ae.1 trivial
   refine df 14 (ae.2.2.2) (cQ 15 0x1c1a19161513110f0d0a0807050301) ?_;refine bC ?_;refine bP ae (CB.out _ (qU ae.2.2.1.out)) λw3 ae=>?_;refine qOp λK hK=>?_;go_simp;with_reducible refine(OW.out _ ae.2.2.1.out).mono ?_
   rintro e w4 ⟨g1,g2,rfl,hb1,hb2,hq⟩;refine mR hK hq ae λae=>?_;clear hK K hq;have HA:=aj hb1;clear hb1;have HB:=aj hb2;clear hb2;have ae:=HA.an<|HB.an ae
   refine bC ?_;have ai:=qC ae;refine qOp λK hK=>?_;go_simp;refine BM (aO w4 (w.heap.size+1) 0 [.slice (some ⟨g1,0,none⟩) n n]) aR ?_;intro W5 hs0;have cw:=ae;have ae:=bD hs0 cw;simp only[bz,List.set]at ae;have HA:Hid (TS W5 (some ⟨g1,0,none⟩) (T1.flatMap spC)):=cw.1.out.sts cw.2.2.1.out hs0;have HB:Hid (TS W5 (some ⟨g2,0,none⟩) (T2.flatMap spC)):=cw.2.1.out.sts cw.2.2.1.out hs0;have ae:=HA.an<|HB.an ae
   have ai:=qC ae;refine hK _ _ (λ_=>QIm.out ae) ?_;try simp only[UU]
   refine bC ?_;have ai:=qC ae;refine qOp λK hK=>?_;go_simp;refine BM (aO W5 (w.heap.size+1+1) 0 [.slice (some ⟨g2,0,none⟩) n n]) aR ?_;intro W6 hs0;have cw:=ae;have ae:=bD hs0 cw;simp only[bz,List.set]at ae;have HA:Hid (TS W6 (some ⟨g1,0,none⟩) (T1.flatMap spC)):=cw.1.out.sts cw.2.2.2.2.2.1.out hs0;have HB:Hid (TS W6 (some ⟨g2,0,none⟩) (T2.flatMap spC)):=cw.2.1.out.sts cw.2.2.2.2.2.1.out hs0;have ae:=HA.an<|HB.an ae
   have ai:=qC ae;refine hK _ _ (λ_=>QIm.out ae) ?_;try simp only[UU]
   have ai:=qC ae;refine qOp λK hK=>?_;go_simp;refine hK _ _ (λh=>absurd h zd) ?_;try simp only[UU]
   refine cZ ae λai=>?_;go_wp2_with fail;have ae:=And.intro ae.1<|And.intro ae.2.1<|And.intro ae.2.2.2.2.2.2.1<|And.intro ae.2.2.2.2.2.2.2.2.1<|And.intro ae.2.2.2.2.2.2.2.2.2.1<|And.intro ae.2.2.2.2.2.2.2.1 trivial
   refine df 5 (ae.2.2.2.2.2) (cQ 6 0xa0806000503) ?_;refine bC ?_;have ai:=qC ae;refine qOp λK hK=>?_;go_simp;refine hK _ _ (by first|exact λ_=>QIm.out ae|exact λ_=>QIm.out (UX (w:=W6) ae)) ?_;try simp only[UU]
   have ai:=qC ae;refine qOp λK hK=>?_;go_simp;refine BM (aO W6 (w.heap.size+1) 0 [.slice (some ⟨g1,0,none⟩) n n,.slice none 0 0]) aR ?_;intro W7 hs0;have cw:=ae;have ae:=bD hs0 cw;simp only[bz,List.set]at ae;have HA:Hid (TS W7 (some ⟨g1,0,none⟩) (T1.flatMap spC)):=cw.1.out.sts cw.2.2.1.out hs0;have HB:Hid (TS W7 (some ⟨g2,0,none⟩) (T2.flatMap spC)):=cw.2.1.out.sts cw.2.2.1.out hs0;have ae:=HA.an<|HB.an ae
   have ai:=qC ae;refine hK _ _ (λ_=>QIm.out ae) ?_;try simp only[UU]
   have ai:=qC ae;refine qOp λK hK=>?_;go_simp;refine BM (aO W7 (w.heap.size+1+1) 0 [.slice (some ⟨g2,0,none⟩) n n,.slice none 0 0]) aR ?_;intro W8 hs0;have cw:=ae;have ae:=bD hs0 cw;simp only[bz,List.set]at ae;have HA:Hid (TS W8 (some ⟨g1,0,none⟩) (T1.flatMap spC)):=cw.1.out.sts cw.2.2.2.2.2.2.2.1.out hs0;have HB:Hid (TS W8 (some ⟨g2,0,none⟩) (T2.flatMap spC)):=cw.2.1.out.sts cw.2.2.2.2.2.2.2.1.out hs0;have ae:=HA.an<|HB.an ae
   have ai:=qC ae;refine hK _ _ (λ_=>QIm.out ae) ?_;try simp only[UU]
   have ai:=qC ae;refine qOp λK hK=>?_;go_simp;refine hK _ _ (λh=>absurd h zd) ?_;try simp only[UU]
   refine cZ ae λai=>?_;go_wp2;exact bodyPost_ret (v:=.tuple #[.agg #[.slice (some ⟨g1,0,none⟩) n n,.slice none 0 0],.agg #[.slice (some ⟨g2,0,none⟩) n n,.slice none 0 0],af 0]) (by simp[results,Tryz.results39,go_sem,ai]) rfl ⟨some ⟨g1,0,none⟩,n,none,0,some ⟨g2,0,none⟩,n,none,0,rfl,⟨jV.out,rfl,Nat.le_refl _,ae.1.out,TblT.nil _ _⟩,⟨zQ.out,rfl,Nat.le_refl _,ae.2.1.out,TblT.nil _ _⟩,ae.2.2.2.2.2.2.2.1.out⟩
def TA.grown {S e:TypeId}{w w':World}{a:Option Addr}{cs:List Value}{base n size:Nat}{v:Value}{xs:List Value}(h:TA S w a cs)(ho:w.ownsRow base e size v n xs)(he:e≠S)(hg:w.grownBy w' v.ownBlock):TA S w' a cs:=by
 rcases h with h|⟨b,o,cur,h1,hb,h2⟩
 . exact .inl h
 . have hne:some b≠v.ownBlock:=λe1=>by obtain⟨QN,t,h3,rfl⟩:=vd ho b e1.symm;have e2:=h3.symm.trans hb;simp only[Option.some.injEq,Obj.cells.injEq]at e2;exact he e2.2.1
   have e:=hg.block b (Array.getElem?_eq_some_iff.1 hb).1 hne;exact .inr ⟨b,o,cur,h1,e.trans hb,λj hj=>(World.cell?_of_block e).trans (h2 j hj)⟩
def TA.below {S:TypeId}{w w':World}{a:Option Addr}{cs:List Value}(h:TA S w a cs)(hb:Bw w w'):TA S w' a cs:=by
 rcases h with h|⟨b,o,cur,h1,hh,h2⟩
 . exact .inl h
 . have e:=hb.block b (Array.getElem?_eq_some_iff.1 hh).1;exact .inr ⟨b,o,cur,h1,e.trans hh,λj hj=>(World.cell?_of_block e).trans (h2 j hj)⟩
def lV (w:World)(base:Nat)(S:List (List Raw))(k:Nat)(v:Value):Prop:=
 ∃vals:List Value,vals.length=k/\w.ownsRow base 63 1 v k vals/\∀i (h:i<vals.length),∃a c,vals[i]=.slice a (S.getD i []).length c/\TA 45 w a ((S.getD i []).flatMap aV)
def lV.nil (w:World)(base:Nat)(S:List (List Raw)):lV w base S 0 (.slice none 0 0):=
 ⟨[],rfl,World.ownsRow_nil _ _ _ _,λ_ h=>absurd h (Nat.not_lt_zero _)⟩
def lV.below {w w':World}{base k:Nat}{S:List (List Raw)}{v:Value}(h:lV w base S k v)(hb:Bw w w'):lV w' base S k v:=by obtain⟨vals,hl,ho,hi⟩:=h;refine⟨vals,hl,ownsRow_below ho hb,λi h=>?_⟩;obtain⟨a,c,h1,h2⟩:=hi i h;exact⟨a,c,h1,h2.below hb⟩
instance {w :World} {base k:Nat} {S:List (List Raw)} {v:Value}:QTr (lV w base S k v) w (λW=>lV W base S k v):=⟨λh _ k=>lV.below h k⟩
def lV.set {w:World}{base k b:Nat}{S:List (List Raw)}{v:Value}{t:TypeId}{l:List Value}(h:lV w base S k v)(hb:ar w b t l)(ht:¬nR t)(i:Nat)(u:Value):lV (w.setCell ⟨b,i,none⟩ u) base S k v:=by obtain⟨vals,hl,ho,hi⟩:=h;refine⟨vals,hl,ownsRow_setCell_other ho (λe=>hb.not_row (λe2=>ht (by rw[e2];exact .inr (.inl rfl))) ho e.symm) _,λj h=>?_⟩;obtain⟨a,c,h1,h2⟩:=hi j h;exact⟨a,c,h1,h2.kt (KT.set hb ht i u) (.inr (.inr rfl))⟩
def lV.tbl {w:World}{base k:Nat}{S:List (List Raw)}{v:Value}(h:lV w base S k v)(hk:S.length=k):∃a c,v=.slice a k c/\k<=c/\TblT w a S:=by obtain⟨vals,hl,ho,hi⟩:=h;obtain⟨a,c,rfl,hc,hat⟩:=TA.aBc ho;refine⟨a,c,rfl,hc,vals,by simp[hl,hk],hat,λi h1 h2=>?_⟩;have:=hi i h2;rwa [show S.getD i []=S[i]by simp[h1]]at this
def axI {w:World}{o:Oper}{a:Act}{K:Act->World->Prop}{Q:Exit->Act->World->Prop}(s x:Operand)
 (ho:o.op=.call {callee:=.builtin .append,args:=#[s,x],argTypes:=#[25,25]})
 (base:Nat) (i:TypeInfo) (z:Value) (hi:Tryz.prog.info? 63=Option.some i) (hz:i.zero=Option.some z)
 (hsize:i.size=1) (hby:i.bytes=24) (hzs:z.cells.size=1)
 (v:Value) (k:Nat) (S:List (List Raw)) (hs:a.eval s=v) (hown:lV w base S k v)
 (g:Nat) (c:Nat) (a1:Option Addr) (c1:Nat) (hx:a.eval x=.slice (some ⟨g,0,none⟩) 1 c) (hc:w.cell? ⟨g,0,none⟩=some (.slice a1 (S.getD k []).length c1)) (hp:TA 45 w a1 ((S.getD k []).flatMap aV))
 (hk:k<=1000) (hbase:base<=w.heap.size)
 (h:∀v' w',lV w' base S (k+1) v'->∀vals,w.ownsRow base 63 1 v k vals->w.grownBy w' v.ownBlock->K (a.put o.dst v') w'):o.wp Tryz.prog a w K Q:=by
 obtain⟨vals,hl,how,hi2⟩:=hown;refine wp_append_own w s x 25 ho base 63 i z 1 24 Tryz.underlying25 hi hz hsize hby hzs zd v k vals hs how ⟨g,0,none⟩ 1 c [.slice a1 (S.getD k []).length c1] hx rfl (λj u hj=>?_) (λu hu=>?_) (by unfold maxLen;omega) zo hbase (λv' w' h2 h3 _=>?_)
 . have Mm:j=0:=by have:=(List.getElem?_eq_some_iff.1 hj).1;simp at this;omega
   subst Mm;simp at hj;subst hj;exact hc
 . simp only[List.mem_singleton]at hu;subst hu;rfl
 . refine h v' w' ⟨_,by simp[hl],h2,λi hi3=>?_⟩ vals how h3;by_cases hk2:i<vals.length
   . rw[List.getElem_append_left hk2];obtain⟨a,c,h5,h6⟩:=hi2 i hk2;exact⟨a,c,h5,h6.grown how zd h3⟩
   . have hik:i=k:=by simp at hi3;omega
     subst hik;rw[List.getElem_append_right zo];simp only[hl,Nat.sub_self,List.getElem_cons_zero];exact⟨a1,c1,rfl,hp.grown how zd h3⟩
def aud (d:DmR)(n m:Nat)(a a':Option Addr)(cap cap':Nat)(w:World)(hn:d.1.length=n)(hm:d.2.length=m)(dV:n<=1000)(jc:m<=5)(hs:Sl a n cap)(hcap:m<=cap')(hb:At w a (d.1.flatMap spC))(ha:Tbl w a' d.2)(hr:∀r∈d.2,0<r.length/\r.length<=8):
 Cl 93 #[.agg #[.slice a n cap,.slice a' m cap']] w λe w'=>∃(a1:Option Addr) (c1:Nat) (b1:Option Addr) (e1:Nat),e=.returned (.agg #[.slice a1 n c1,.slice b1 m e1])/\DT w' ⟨a1,n,c1,b1,m,e1⟩ d/\Bw w w':=by
 obtain⟨i0,hi,hz0,hz1,hz2⟩:=info_parts Tryz.aBb;obtain⟨j0,hj,hy0,hy1,hy2⟩:=info_parts Tryz.aBp;obtain⟨s0,hs0,hx0,hx1,hx2⟩:=info_parts Tryz.aBk;obtain⟨Hi,cm,bR,bZ,Hj,kM,kN,kO,uy,qY,Ky,uA⟩:=gL hi hz0 hz1 hz2 hj hy0 hy1 hy2 hs0 hx0 hx1 hx2;obtain⟨Hn,Hm,uz,HB,HT,HR,Hl,xC⟩:=lC hn hm hs hb ha hr (show(d.1.flatMap spC).length=n*6 by rw[Vt,hn]) (af2 d.1);clear hi hz0 hz1 hz2 hj hy0 hy1 hy2 hs0 hx0 hx1 hx2 hn hm hs hb ha hr;obtain⟨FT,Ss⟩:∃l,d.1.flatMap spC=l:=⟨_,rfl⟩;rw[Ss]at HB Hl xC;have aik:=aj Ss;clear Ss;obtain⟨W,bX,ae,ai⟩:=jz w 27 [.slice a n cap,.slice a' m cap'] 27 [.slice none 0 0,.slice none 0 0];have rZ:=ae.1;have zK:=ae.2.1;have Cu:=ae.2.2.1;have hWz:w.heap.size<W.heap.size:=zK.out.lt;have hWr:w.heap.size+1<W.heap.size:=Cu.out.lt;go_enter Tryz.func93,Tryz.ntmps93;go_wp2_with (at_builtin;refine uo rfl _ _ 23 rfl W.heap.size 88 s0 _ 6 64 Tryz.underlying23 uy.out qY.out Ky.out uA.out rfl zd _ 0 [] rfl (World.ownsRow_made W #[] 0 (Nat.le_refl _) (Nat.zero_le _) zm) a n cap FT rfl uz.out Hl.out (HB.out.below (aC rZ.out ((Below.refl _ W).alloc (Nat.le_refl _) _))) xC.out zx zo zm ?_;intro v1 w2 cV hg1 wI;rw[Nat.zero_add,List.nil_append]at cV;obtain⟨a1,c1,rfl,_,adG⟩:=TA.aBc cV;have hb1:=((Below.refl _ W).alloc (Nat.le_refl _) (.cells #[] 88)).grown hg1 zm (λk hk=>by have h9:W.heap.size=k:=Option.some.inj hk;omega);have hd2:=zK.out.below hb1;have e1:w2.cell? ⟨w.heap.size,1,none⟩=some (.slice a' m cap'):=hd2.cell 1;have lz9:w.heap.size<w2.heap.size:=hd2.lt);have uU:TS w2 a1 FT:=adG;obtain⟨Hd,Hr,Hb⟩:=bL (zK.out.below hb1) (Cu.out.below hb1) (aC rZ.out hb1);have adD:=hb1.size;clear cV hb1 hg1 wI zK Cu rZ adG ae ai;obtain⟨ae,ai⟩:=qZ (Hd.an<|Hr.an trivial);have HA:Hid (TS w2 a1 FT):=uU;clear uU;have aG:=qL (Hb.an<|HA.an ae);go_wp2_with fail;refine cX w2 (Hb.an<|HA.an ae) 27 [.slice a1 n c1,.slice none 0 0] λW3 aG ae ai=>?_;have rZ:=ae.2.1;have Pm:=ae.1;have Cu:=ae.2.2.2.2.1;have Wb:=ae.2.2.1;have hW3:w2.heap.size<W3.heap.size:=Pm.out.lt;go_wp2_with fail;go_loopw[14] (λx wr=>∃(k:Nat) (v:Value),k<=m/\x=af (k:Int)/\lV wr W3.heap.size d.2 k v/\ar wr w2.heap.size 27 [.slice a1 n c1,v]/\ar wr (w.heap.size+1) 27 [.slice none 0 0,.slice none 0 0]/\TS wr a1 FT/\Bw w wr/\W3.heap.size<=wr.heap.size) (λx _=>m-(intOf x).toNat);case atStart=>exact⟨0,_,Nat.zero_le _,rfl,lV.nil _ _ _,Pm.out,Cu.out,Wb.out,rZ.out,Nat.le_refl _⟩
 case round=>
  clear rZ Pm Cu Wb ae ai;obtain⟨k,v,hk,rfl,hy,ho,hr,hA,pb,hsz⟩:=hrel;obtain⟨HY,Ho,Hr,HA,eW⟩:=dY hy ho hr hA pb;clear hy ho hr hA pb;by_cases hlt:k<m
  . have hkr:k<d.2.length:=by rw[Hm.out];exact hlt
    obtain⟨b,o,a3,c3,hab,hc3,tH⟩:=(HT.out.below eW.out).row k hkr;obtain⟨hp0,jw⟩:=HR.out _ (List.getElem_mem hkr);have aU:=oC m cap' k (k:Int) hab hlt rfl;rw[Nat.mul_one]at aU;have ko:d.2.getD k []=d.2[k]:=by simp[hkr]
    generalize d.2[k]=p at*;obtain⟨pn,mH⟩:=az p.length;rw[mH]at hc3 hp0 jw;have gJ:(p.flatMap aV).length=pn*3:=by rw[iE aV 3 (λ_=>rfl),mH]
    obtain⟨b3,o3,rfl,hcs⟩:=tH.get (λe=>by rw[e]at gJ;simp at gJ;omega);have Hp:Hid (aQ wr b (o+k) [.slice (some ⟨b3,o3,none⟩) pn c3]):=λi hi=>by
     obtain rfl:i=0:=by simp at hi;omega
     exact hc3
    have JU:Hid (∀j u,(p.flatMap aV)[j]?=some u->wr.cell? ⟨b3,o3+j,none⟩=some u):=λj u hj=>by rw[hcs j (List.getElem?_eq_some_iff.1 hj).1];exact hj
    obtain⟨Xq,zQ,pV⟩:=bL ko gJ mH;clear hab hc3 tH hcs ko gJ mH;have Hb:=hbz wr;have Cr:=Ho;obtain⟨ae,ai⟩:=qZ (Ho.an<|Hp.an trivial);go_wp2_with fail;obtain⟨Ho,Hp,_⟩:=ae;obtain⟨o0,Gf,o1,Gg⟩:=Ho.out.g2;have p0:=Hp.out.w1;refine fx (λw'=>aJ w' (w2.heap.size) 0 (.slice a1 n c1)/\aJ w' (w2.heap.size) 1 (v)) (λi=>Nat.blt i 8) [(0,true),(1,true),(3,true),(2,false),(4,false),(5,false),(6,false),(7,true),(8,false)] zk zk rfl zk zc ⟨o0,o1⟩ ?_;iterate 3 (refine pT rfl rfl ?_ (by intro w' ⟨q0,q1⟩;go_simp;try with_reducible rfl);try simp only[UU])
    refine aN rfl rfl (λK hK=>?_);go_simp;refine hK _ _ (λ_=>⟨aM o0,aM o1⟩) ?_;try simp only[UU]
    refine cg (λW4=>ar W4 (wr.heap.size) 45 ([])/\Bw wr W4) (by first|exact iw|exact iy) ?_;rintro W4 ⟨qz,ak⟩;have aAj:=Ho.out.lt;replace Ho:=kB Ho ak;replace Hp:=kW Hp ak;have Hz:=aj qz;clear qz;obtain⟨o0,Gf,o1,Gg⟩:=Ho.out.g2;have p0:=Hp.out.w1;replace Hb:=bg Hb ak;refine aN rfl rfl (λK hK=>?_);have MP:=Ni (base:=wr.heap.size) (n:=0) (size:=3) Hz.out (Nat.le_refl _) rfl zd;have hb4:=Hb.out;have TE:=hb4.size;have hnews:∀j u,(p.flatMap aV)[j]?=some u->W4.cell? ((⟨b3,o3,none⟩:Addr).add j)=some u:=λj u hj=>by
     have h9:=cell_later hb4 (JU.out j u hj);have e9:((⟨b3,o3,none⟩:Addr).add j)=⟨b3,o3+j,none⟩:=by unfold Addr.add;cases j<;>rfl
     rw[e9];exact h9
    have jR:=Ho.out;have hy4:=HY.out.below hb4;refine wp_append_own _ _ _ 63 rfl wr.heap.size 45 i0 _ 3 32 Tryz.underlying63 Hi.out cm.out bR.out bZ.out rfl zd _ 0 [] rfl MP ⟨b3,o3,none⟩ pn c3 (p.flatMap aV) rfl zQ.out hnews (Ej _) zx zo TE ?_;intro v5 w5 pq iN _;rw[Nat.zero_add,List.nil_append]at pq;have rI:=jR.row zd MP iN;have dx:=hb4.grown iN TE (λj e=>cK MP j e);have hy5:=HY.out.below dx;obtain⟨a5,c5,rfl,_,adH⟩:=TA.aBc pq;refine hK _ _ (λ_=>⟨rI.cell 0,rI.cell 1⟩) ?_;try simp only[UU]
    refine aN rfl rfl (λK hK=>?_);go_simp;refine hK _ _ (λ_=>⟨aM (rI.cell 0),aM (rI.cell 1)⟩) ?_;try simp only[UU]
    refine cg (λW6=>ar W6 w5.heap.size 63 [.slice a5 pn c5]/\Bw w5 W6) (by first|exact iw|exact iy) ?_;rintro W6 ⟨qx,Mb⟩;have ww:=aC dx Mb;have ac6:=rI.below Mb;have hy6:=HY.out.below ww;have adI:=adH.below Mb;have jd:=ww.size;refine aN rfl rfl (λK hK=>?_);refine axI _ _ rfl W3.heap.size j0 _ Hj.out kM.out kN.out kO.out rfl v k d.2 rfl hy6 w5.heap.size 1 a5 c5 rfl (by rw[Xq.out,pV.out];exact qx.cell 0) (by rw[Xq.out];exact adI) zo zo ?_;intro v7 w7 dW vals Iw eK;obtain⟨a7,c8,rfl⟩:∃a c,v7=.slice a (k+1) c:=by obtain⟨_,_,ho,_⟩:=dW;obtain⟨a,c,e,_⟩:=cz ho;exact⟨a,c,e⟩
    have DU:=ac6.row zd Iw eK;have dO:=aC eW.out ww;have ja:=dO.grown eK dO.size (λj e=>by have:=cK Iw j e;omega);have Ip:=(Hr.out.below ww).row zd Iw eK;have hA7:TS w7 a1 FT:=(HA.out.below ww).grown Iw zd eK;have hs7:=eK.size;refine hK _ _ (λ_=>⟨DU.cell 0,DU.cell 1⟩) ?_;try simp only[UU]
    refine pT rfl rfl ?_;try simp only[UU]
    have fz7:=DU.free 1;have c7:w7.cell? ⟨w2.heap.size,1,none⟩=some v:=DU.cell 1;refine aN rfl rfl (λK hK=>?_);go_simp;refine hK _ _ (λh=>absurd h zd) ?_;try simp only[UU]
    simp only[bE];obtain⟨zX,Pn,rY,Hr7,HA7⟩:=dY dW DU ja Ip hA7;clear dW DU ja Ip hA7 Iw eK ac6 hy6 adI qx Mb ww rI dx hy5 adH pq iN MP hb4 hnews jR hy4 dO;go_wp2;go_roundw;case rel=>exact⟨k+1,.slice a7 (k+1) c8,by omega,by go_num,zX.out.set Pn.out (by unfold nR;decide) 1 _,Pn.out.set 1 _,Hr7.out.so w2.heap.size 1 zo _,TA.kt HA7.out (KT.set Pn.out (by unfold nR;decide) 1 _) (.inl rfl),rY.out.setCell zp _,by simp;omega⟩
    case measure=>exact bf
  . obtain rfl:k=m:=by omega
    obtain⟨b1,e1,rfl,hc1,ht1⟩:=HY.out.tbl Hm.out;have Hb:=eW;have vA:=HA;have Ht:=aj ht1;have sD:=Hr;clear ht1 HY HA;obtain⟨ae,ai⟩:=qZ (Hr.an<|Ho.an trivial);go_wp2;refine dG (aO wr (w.heap.size+1) 0 [.slice a1 n c1,.slice b1 k e1]) aR ?_;intro w9 hs0;have ae:=bD hs0 (Hb.an ae);simp only[bz,List.set]at ae;have ai:=qC ae;refine bodyPost_ret (v:=.agg #[.slice a1 n c1,.slice b1 k e1]) (by simp[results,Tryz.results93,go_sem,ai]) rfl ⟨a1,c1,b1,e1,rfl,⟨Hn.out,Hm.out,hc1,by rw[aik.out];exact vA.out.sts sD.out hs0,Ht.out.sts sD.out hs0⟩,ae.1.out⟩
def Tryz.aBw :(Tryz.prog.info? 27).map (λi=>(i.zero,i.size,i.bytes))=some (some (.agg #[.slice none 0 0,.slice none 0 0]),2,48):=by kernel_rfl
def fB.sts {w W:World}{l:List Dv}{ds:List DmR}{b o:Nat}{t:TypeId}{cs vs:List Value}(h:fB w l ds)(hb:ar w b t cs)(k:aO w b o vs W)(ht:¬nR t:=by unfold nR;decide):fB W l ds:=h.kt (KT.sts hb k ht)
def mY (w:World)(base:Nat)(v:Value)(n:Nat)(xs:List Value):Prop:=w.ownsRow base 27 2 v n xs
def mY.below {w w':World}{base n:Nat}{v:Value}{xs:List Value}(h:mY w base v n xs)(k:Bw w w'):mY w' base v n xs:=ownsRow_below h k
instance {w :World} {base n:Nat} {v:Value} {xs:List Value}:QTr (mY w base v n xs) w (λW=>mY W base v n xs):=⟨λh _ k=>mY.below h k⟩
def mY.sts {w W:World}{base n:Nat}{v:Value}{xs:List Value}{b o:Nat}{t:TypeId}{cs vs:List Value}(h:mY w base v n xs)(hb:ar w b t cs)(k:aO w b o vs W)(ht:t≠27:=by decide):mY W base v n xs:=
 cn.row (P:=λ_ S=>S=27) (cn.sts hb k ht) h λ_ _=>rfl
def KQ (w w':World):Prop:=cn (λ_ S=>S≠74/\S≠27) w w'
def KQ.below {w W W':World}(h:KQ w W)(k:Bw W W'):KQ w W':=cn.trans h (cn.of_below k)
instance {w W:World}:QTr (KQ w W) W (λW'=>KQ w W'):=⟨λh _ k=>KQ.below h k⟩
def KQ.sts {w W W':World}{b o:Nat}{cs vs:List Value}(h:KQ w W)(hb:ar W b 74 cs)(k:aO W b o vs W'):KQ w W':=cn.trans h (cn.sts hb k λh=>h.1 rfl)
def KQ.kt {w w':World}(h:KQ w w'):KT w w':=cn.mono h λb S hS=>by
 rcases hS with rfl|rfl|rfl
 . exact⟨by decide,by decide⟩
 . exact⟨by decide,by decide⟩
 . exact⟨by decide,by decide⟩
def KQ.dw {w w':World}(N:Nat)(h:KQ w w'):DW N w w':=
 ⟨h.os,h.tape,h.output,h.size,λk hk hy=>h.block k hk λhn=>hy λh2=>hn (by
  obtain⟨_,⟨cur,h3⟩ |⟨cur,h3⟩⟩:=h2
  . exact⟨cur,_,h3,by decide,by decide⟩
  . exact⟨cur,_,h3,by decide,by decide⟩)⟩
def KW.kty {N:Nat}{w w':World}(h:KW N w w'):cn (λ_ S=>S≠3) w w':=
 ⟨h.os,h.tape,h.output,h.size,λk hk hy=>h.block k hk λ⟨_,cur,h2⟩=>hy λ⟨QN,S,h3,h4⟩=>by
  have e:=h3.symm.trans h2;simp only[Option.some.injEq,Obj.cells.injEq]at e
  exact h4 e.2.1⟩
def Below.chg {Y:Nat->Prop}{w W W':World}(h:Bw w W)(k:Chg Y W W')(hY:∀b,Y b->w.heap.size<=b):Bw w W':=
 ⟨k.os.trans h.os,k.tape.trans h.tape,k.output.trans h.output,Nat.le_trans h.size k.size,λb hb=>(k.block b (Nat.lt_of_lt_of_le hb h.size) λhy=>by have:=hY b hy;omega).trans (h.block b hb)⟩
def aor (l:List Dv):(l.flatMap iW).length=l.length*2:=iE iW 2 (λ_=>rfl) l
def aoq {l:List Dv}{L:Nat}(hl:l.length=L+1):(l.flatMap iW).take (L*2)=l.dropLast.flatMap iW:=by
 have hne:l≠[]:=λe=>by rw[e]at hl;simp at hl
 have e:l=l.dropLast++[l.getLast hne]:=(List.dropLast_concat_getLast hne).symm;conv=>lhs;rw[e]
 rw[List.flatMap_append,List.take_left' (by rw[aor,List.length_dropLast,hl,Nat.add_sub_cancel])]
def vz (w0:World)(tb cb ob:Nat)(a:Option Addr)(n cap:Nat)(td ou:List DmR)(W:World):Prop:=
 ∃(v u:Value) (l q:List Dv),ar W tb 74 [v]/\mY W w0.heap.size v td.length (l.flatMap iW)/\fB W l td/\ar W ob 74 [u]/\mY W w0.heap.size u ou.length (q.flatMap iW)/\fB W q ou/\(v.ownBlock=none\/v.ownBlock≠u.ownBlock)/\ar W cb 69 [.slice a n cap]/\Bw w0 W
def vz.kw {w0 W W':World}{N tb cb ob:Nat}{a:Option Addr}{n cap:Nat}{td ou:List DmR}(h:vz w0 tb cb ob a n cap td ou W)(k:KW N W W')(hN:w0.heap.size<=N):vz w0 tb cb ob a n cap td ou W':=by
 obtain⟨v,u,l,q,h1,h2,h3,h4,h5,h6,h7,h8,h9⟩:=h;have k2:=k.kty;have k3:KT W W':=cn.mono k2 λb S hS=>by rcases hS with rfl|rfl|rfl<;>decide
 exact⟨v,u,l,q,k2.blk h1 zd,k2.row h2 (λ_ _=>by decide),h3.kt k3,k2.blk h4 zd,k2.row h5 (λ_ _=>by decide),h6.kt k3,h7,k2.blk h8 zd,Below.chg h9 k λb hb=>Nat.le_trans hN hb.1⟩
def an6 (w0:World)(N tb cb ob B:Nat)(a:Option Addr)(n cap:Nat)(ns:List Nd)(td ou:List DmR)(i:Nat)(dd:Int)(w:World)(X:DmR)(L:Nat)(hc:vz w0 tb cb ob a n cap td ou w)
 (hat:At w0 a (ns.flatMap oD)) (hT:aB w0) (hn:ns.length=n) (hi:i<ns.length) (hL:td.length=L+1) (hL5:L<=5000) (pq:ou.length<=5000)
 (hne:tb≠cb/\tb≠ob/\cb≠ob) (hlo:w0.heap.size<=tb/\w0.heap.size<=cb/\w0.heap.size<=ob) (hX:td.getLastD default=X) (hk:fZ X) (hf:iT B X) (h5:X.2.length<=5) (hB:B<=200000):
 Cl 95 #[af (i:Int),af dd,.pointer (some ⟨tb,0,none⟩),.pointer (some ⟨cb,0,none⟩),.pointer (some ⟨ob,0,none⟩)] w λe w'=>e=.returned (ag true)/\DW N w w'/\vz w0 tb cb ob a n cap (if ns[i].sp=0 then td.dropLast else td.dropLast++[fh true X,fh false X]) (if ns[i].sp=0 then ou++[X]else ou) w':=by
 obtain⟨i0,hi0,hz0,hz1,hz2⟩:=info_parts Tryz.aBw;obtain⟨v,u,l,q,ht,yD,nu,fI,hou,AK,hvu,hcb,hbl⟩:=hc;have SR:l.length=L+1:=nu.1.trans hL;have hdi:=nu.init;have tL:=nu.last hL zo;rw[hX]at tL;rw[hL]at yD;obtain⟨g,c5,rfl,hg0,Dz,hLc⟩:=rO yD (Nat.succ_pos L);have hcm:c5<=9223372036854775807:=by
  rcases yD.2 with⟨h1,_⟩ |⟨g',cap',cur,h1,hb,hg,h4,h5,_⟩
  . simp at h1
  . simp only[Value.slice.injEq]at h1;obtain⟨_,_,rfl⟩:=h1;unfold maxLen at h5;omega
 have hgt:g≠tb:=λe=>by obtain⟨cur,t,h1,rfl⟩:=vd yD g rfl;rw[e]at h1;have e2:=h1.symm.trans ht;simp at e2
 have hgo:g≠ob:=λe=>by obtain⟨cur,t,h1,rfl⟩:=vd yD g rfl;rw[e]at h1;have e2:=h1.symm.trans fI;simp at e2
 have MO:some g≠u.ownBlock:=by
  rcases hvu with h|h
  . cases h
  . exact h
 have htd:(td.dropLast).length=L:=by rw[List.length_dropLast,hL,Nat.add_sub_cancel]
 have hlc:l.dropLast.length=L:=by rw[List.length_dropLast,SR,Nat.add_sub_cancel]
 obtain⟨⟨xa,xn,xc,lH,xm,lI⟩,hy⟩:∃y,l[L]'zo=y:=⟨_,rfl⟩;rw[hy]at tL;have hwy:aQ w g (L*2) [.slice xa xn xc,.slice lH xm lI]:=by obtain⟨a9,c9,e9,uQ,_⟩:=cz yD;simp only[Value.slice.injEq,true_and]at e9;obtain⟨rfl,rfl⟩:=e9;obtain⟨b9,o9,e8,h8⟩:=uQ.dom L zo hy;simp only[Option.some.injEq,Addr.mk.injEq,and_true]at e8;obtain⟨rfl,rfl⟩:=e8;rw[Nat.zero_add]at h8;exact h8
 have qD:mY w w0.heap.size (.slice (some ⟨g,0,none⟩) L c5) L (l.dropLast.flatMap iW):=by have h:=Nj yD L zo;rw[aoq SR]at h;exact h
 have aqI:=aec (L+1) c5 L (L:Int) (rfl:(some ⟨g,0,none⟩:Option Addr)=_) zo rfl;simp only[Nat.zero_add]at aqI;have TP:IntKind.i64.wrap ((L:Int)+1-1)=(L:Int):=by rw[IntKind.wrap_i64];omega
 have arl:IntKind.i64.wrap (L:Int)=(L:Int):=by rw[IntKind.wrap_i64];omega
 obtain⟨sp,s,m,e,V,a1,n1,c1,hx⟩:∃sp s m e V a1 n1 c1,ns[i]=⟨sp,(s,m,e),V,a1,n1,c1⟩:=⟨_,_,_,_,_,_,_,_,rfl⟩;obtain⟨b,o,hab,hp0⟩:=hat.node i hi hx;have hb0:=World.block_lt_of_cell? w0 _ (hp0 0 zm);simp only at hb0;have aU:=MQ n cap i (i:Int) hab zo rfl;rw[hx];obtain⟨T',hT'⟩:=az (if sp=0 then td.dropLast else td.dropLast++[fh true X,fh false X]);obtain⟨O',LQ⟩:=az (if sp=0 then ou++[X]else ou);show Calls _ _ _ _ λe w'=>e=.returned (ag true)/\DW N w w'/\vz w0 tb cb ob a n cap (if sp=0 then td.dropLast else td.dropLast++[fh true X,fh false X]) (if sp=0 then ou++[X]else ou) w'
 rw[hT',LQ];have jB:Hid (sp=0->T'=td.dropLast/\O'=ou++[X]):=λh=>by rw[<-hT',<-LQ,if_pos h,if_pos h];exact⟨rfl,rfl⟩
 have dJ:Hid (sp≠0->T'=td.dropLast++[fh true X,fh false X]/\O'=ou):=λh=>by rw[<-hT',<-LQ,if_neg h,if_neg h];exact⟨rfl,rfl⟩
 clear hT' LQ;have Hy:Hid (aQ w g (L*2) [.slice xa xn xc,.slice lH xm lI]):=hwy;have Hp:Hid (aQ w b (o+i*6) [af sp,ag s,ah m,af e,af V,.slice a1 n1 c1]):=hp0.below hbl;have Ea:=tL.n;have hxm:=tL.m;have hxc:=tL.cap;have Xz:=aj λ(W:World) (hW:Bw w0 W) (hd:DT W ⟨xa,xn,xc,lH,xm,lI⟩ X)=>anT X xn xm B xa lH xc lI W hd.n hd.m hd.dat.box hd.dat.row hf hB (by have h9:X.2.length=xm:=hd.m;omega) hd.cap (hT.below hW) hk;unfold Ks at Xz;obtain⟨Hi,cm,bR,bZ,Ht,Ho,Hc,Hb⟩:=lC hi0 hz0 hz1 hz2 ht fI hcb hbl;have hkq:KQ w w:=cn.refl w;obtain⟨Yj,Hlc,HX,ayb⟩:=cE htd hlc hX (Ix hk hf h5 zo);clear hi0 hz0 hz1 hz2 ht fI hcb hbl hwy hp0 hx hy SR nu yD hX hk hf htd hlc hab hT hat;obtain⟨aqV,Mx,azM⟩:=hne;obtain⟨azG,azH,azI⟩:=hlo;go_enter Tryz.func95,Tryz.ntmps95;obtain⟨ae,ai⟩:=qZ (Ht.an<|Ho.an<|Hc.an<|Hy.an<|Hp.an trivial);have HK:Hid (KQ w w):=hkq;have HT:Hid (mY w w0.heap.size (.slice (some ⟨g,0,none⟩) L c5) L (l.dropLast.flatMap iW)):=qD;have HU:Hid (mY w w0.heap.size u ou.length (q.flatMap iW)):=hou;have HQ:Hid (fB w q ou):=AK;have HM:Hid (fB w l.dropLast td.dropLast):=hdi;have HD:Hid (DT w ⟨xa,xn,xc,lH,xm,lI⟩ X):=tL;clear hkq qD hou AK hdi tL;obtain⟨W1,apY,aG,ae,ai⟩:=bO w (Hb.an<|HK.an<|HT.an<|HU.an<|HQ.an<|HM.an<|HD.an ae) 27 [.slice xa xn xc,.slice lH xm lI];go_upto_region 3 with fail
 first|refine eG (aO W1 (tb) 0 [.slice (some ⟨g,0,none⟩) L c5]) aR ?_|refine eF (aO W1 (tb) 0 [.slice (some ⟨g,0,none⟩) L c5]) aR ?_
 intro W2 hs0;have cw:=ae;have ae:=bD hs0 cw;simp only[bz,List.set]at ae;have HK:Hid (KQ w W2):=cw.2.2.1.out.sts cw.2.2.2.2.2.2.2.2.1.out hs0;have HT:Hid (mY W2 w0.heap.size (.slice (some ⟨g,0,none⟩) L c5) L (l.dropLast.flatMap iW)):=cw.2.2.2.1.out.sts cw.2.2.2.2.2.2.2.2.1.out hs0;have HU:Hid (mY W2 w0.heap.size u ou.length (q.flatMap iW)):=cw.2.2.2.2.1.out.sts cw.2.2.2.2.2.2.2.2.1.out hs0;have HQ:Hid (fB W2 q ou):=cw.2.2.2.2.2.1.out.sts cw.2.2.2.2.2.2.2.2.1.out hs0;have HM:Hid (fB W2 l.dropLast td.dropLast):=cw.2.2.2.2.2.2.1.out.sts cw.2.2.2.2.2.2.2.2.1.out hs0;have HD:Hid (DT W2 ⟨xa,xn,xc,lH,xm,lI⟩ X):=cw.2.2.2.2.2.2.2.1.out.sts cw.2.2.2.2.2.2.2.2.1.out hs0;have ae:=HK.an<|HT.an<|HU.an<|HQ.an<|HM.an<|HD.an ae
 have ai:=qC ae;have hs2:=ae.2.2.2.2.2.2.2.1.out.size;by_cases hsp:sp=0
 . have lu:(sp==0)=true:=by simpa using hsp
   obtain⟨rfl,rfl⟩:=jB.out hsp;obtain⟨W3,Dl,aG,ae,ai⟩:=bO W2 ae 27 [.slice xa xn xc,.slice lH xm lI];have hu3:=ae.2.2.2.1.out;have hk3:=ae.2.1.out;have pu:=ae.2.2.1.out;have Tw:=ae.2.2.2.2.1.out;have SX:=ae.2.2.2.2.2.1.out;have hd3:=ae.2.2.2.2.2.2.1.out;have hb3:=ae.2.2.2.2.2.2.2.2.1.out;have pg:=ae.2.2.2.2.2.2.2.2.2.2.2.2.2.2.2.1.out;have fS:=ae.2.2.2.2.2.2.2.2.2.2.2.2.2.2.2.2.1.out;have hbc:=ae.2.2.2.2.2.2.2.2.2.2.2.2.2.2.2.2.2.1.out;have hs3:=hb3.size;have hnews:=fN ae.1.out;go_wp2_with (at_builtin;refine wpList_append_own_at _ rfl _ _ 74 rfl w0.heap.size 27 i0 _ 2 48 Tryz.underlying74 Hi.out cm.out bR.out bZ.out rfl zd u ou.length (q.flatMap iW) rfl hu3 ⟨W2.heap.size,0,none⟩ 1 1 [.slice xa xn xc,.slice lH xm lI] rfl rfl hnews zy zx zo zo ?_;intro v' w5 pq iN _ ub;obtain⟨a5,c6,rfl,_,_⟩:=cz pq;have rI:=fS.row zd hu3 iN;have e5:w5.cell? ⟨ob,0,none⟩=some u:=rI.cell 0;have fz5:=rI.free 0);have k5:cn (λ_ S=>S≠74/\S≠27) W3 w5:=cn.own hu3 (λb h=>h.2 rfl) iN;have k9:KQ W3 (w5.setCell ⟨ob,0,none⟩ (.slice a5 (ou.length+1) c6)):=cn.trans k5 (cn.set rI (λh=>h.1 rfl) 0 _);have kD:cn (λ_ S=>S=27) w5 (w5.setCell ⟨ob,0,none⟩ (.slice a5 (ou.length+1) c6)):=cn.set rI zd 0 _;have Iu:=pu.kept iN (.inr MO);refine bodyPost_ret (results_tmp rfl _ _ _) rfl ⟨rfl,KQ.dw N (cn.trans hk3 k9),_,_,l.dropLast,q++[⟨xa,xn,xc,lH,xm,lI⟩],(pg.row zd hu3 iN).aA9 ⟨ob,0,none⟩ zp _,?_,SX.kt k9.kt,rI.set 0 _,?_,(Tw.snoc hd3).kt k9.kt,?_,(hbc.row zd hu3 iN).aA9 ⟨ob,0,none⟩ zp _,?_⟩
   . rw[Yj.out];exact cn.row kD Iu λ_ _=>rfl
   . have e9:(q++[(⟨xa,xn,xc,lH,xm,lI⟩:Dv)]).flatMap iW=q.flatMap iW++[.slice xa xn xc,.slice lH xm lI]:=by rw[List.flatMap_append];simp[iW]
     rw[e9,List.length_append];exact cn.row kD pq λ_ _=>rfl
   . right;rcases ub with h|h
     . rw[h];exact MO
     . rw[h];intro h9;have h8:g=W3.heap.size:=Option.some.inj h9;have h7:=Chg.size hk3;omega
   . exact(hb3.grown iN hb3.size (λj e=>cK hu3 j e)).setCell zp _
 . have lu:(sp==0)=false:=by simpa using hsp
   obtain⟨rfl,rfl⟩:=dJ.out hsp;go_wp2_with fail;refine(Xz.out _ ae.2.2.2.2.2.2.2.1.out ae.2.2.2.2.2.1.out).mono ?_;rintro e w3 ⟨b1,d1,f1,e1,b2,d2,f2,e2,rfl,hd1,hd2,ak⟩;obtain⟨ae,ai⟩:=qX ak ae;have HA:Hid (DT w3 ⟨b1,xn,d1,f1,xm,e1⟩ (fh false X)):=hd1;have HB:Hid (DT w3 ⟨b2,xn,d2,f2,xm,e2⟩ (fh true X)):=hd2;clear hd1 hd2;obtain⟨W4,ke,aG,ae,ai⟩:=UW w3 (HA.an<|HB.an ae) 27 [.slice b1 xn d1,.slice f1 xm e1] 27 [.slice b2 xn d2,.slice f2 xm e2];obtain⟨W5,wm,aG,ae,ai⟩:=bO W4 ae 27 [.slice b2 xn d2,.slice f2 xm e2,.slice b1 xn d1,.slice f1 xm e1];have hu3:=ae.2.2.2.2.2.2.2.1.out;have hk3:=ae.2.2.2.2.2.1.out;have pu:=ae.2.2.2.2.2.2.1.out;have Tw:=ae.2.2.2.2.2.2.2.2.1.out;have SX:=ae.2.2.2.2.2.2.2.2.2.1.out;have AH:=ae.2.2.2.1.out;have yh:=ae.2.2.2.2.1.out;have hb3:=ae.2.2.2.2.2.2.2.2.2.2.2.2.1.out;have pg:=ae.2.2.2.2.2.2.2.2.2.2.2.2.2.2.2.2.2.2.2.1.out;have fS:=ae.2.2.2.2.2.2.2.2.2.2.2.2.2.2.2.2.2.2.2.2.1.out;have hbc:=ae.2.2.2.2.2.2.2.2.2.2.2.2.2.2.2.2.2.2.2.2.2.1.out;have hs3:=hb3.size;have hnews:=fN ae.1.out;go_wp2_with (at_builtin;refine wpList_append_own_at _ rfl _ _ 74 rfl w0.heap.size 27 i0 _ 2 48 Tryz.underlying74 Hi.out cm.out bR.out bZ.out rfl zd (.slice (some ⟨g,0,none⟩) L c5) L (l.dropLast.flatMap iW) rfl pu ⟨W4.heap.size,0,none⟩ 2 2 [.slice b2 xn d2,.slice f2 xm e2,.slice b1 xn d1,.slice f1 xm e1] rfl rfl hnews zy zx zo zo ?_;intro v' w5 pq iN _ ub;obtain⟨a5,c6,rfl,_,_⟩:=cz pq;have GD:=pg.row zd pu iN;have e5:w5.cell? ⟨tb,0,none⟩=some (.slice (some ⟨g,0,none⟩) L c5):=GD.cell 0;have fz5:=GD.free 0);have k5:cn (λ_ S=>S≠74/\S≠27) W5 w5:=cn.own pu (λb h=>h.2 rfl) iN;have k9:KQ W5 (w5.setCell ⟨tb,0,none⟩ (.slice a5 (L+2) c6)):=cn.trans k5 (cn.set GD (λh=>h.1 rfl) 0 _);have kD:cn (λ_ S=>S=27) w5 (w5.setCell ⟨tb,0,none⟩ (.slice a5 (L+2) c6)):=cn.set GD zd 0 _;have ML:=hu3.kept iN (.inr λh=>MO h.symm);refine bodyPost_ret (results_tmp rfl _ _ _) rfl ⟨rfl,KQ.dw N (cn.trans hk3 k9),_,_,l.dropLast++[⟨b2,xn,d2,f2,xm,e2⟩]++[⟨b1,xn,d1,f1,xm,e1⟩],q,GD.set 0 _,?_,?_,(fS.row zd pu iN).aA9 ⟨tb,0,none⟩ zp _,cn.row kD ML λ_ _=>rfl,Tw.kt k9.kt,?_,(hbc.row zd pu iN).aA9 ⟨tb,0,none⟩ zp _,?_⟩
   . have e9:(l.dropLast++[(⟨b2,xn,d2,f2,xm,e2⟩:Dv)]++[(⟨b1,xn,d1,f1,xm,e1⟩:Dv)]).flatMap iW=l.dropLast.flatMap iW++[.slice b2 xn d2,.slice f2 xm e2,.slice b1 xn d1,.slice f1 xm e1]:=by rw[List.flatMap_append,List.flatMap_append];simp[iW]
     rw[e9,List.length_append,Yj.out];exact cn.row kD pq λ_ _=>rfl
   . have e9:td.dropLast++[fh true X,fh false X]=td.dropLast++[fh true X]++[fh false X]:=by simp
     rw[e9];exact((SX.snoc yh).snoc AH).kt k9.kt
   . rcases ub with h|h
     . rw[h];exact .inr MO
     . rw[h];by_cases hn9:u.ownBlock=none
       . right;rw[hn9];simp
       . right;intro h9;have h8:=(hu3.lt _ h9.symm).2;omega
   . exact(hb3.grown iN hb3.size (λj e=>cK pu j e)).setCell zp _
def bT (S:Nat->Bool)(D:DmR):Nat->List DmR×List DmR
 |0=>([D],[])
 |i+1=>if S i then((bT S D i).1.dropLast++[fh true ((bT S D i).1.getLastD default),fh false ((bT S D i).1.getLastD default)],(bT S D i).2)else((bT S D i).1.dropLast,(bT S D i).2++[(bT S D i).1.getLastD default])
def Ai (S:Nat->Bool)(D:DmR)(i:Nat):(bT S D i).1.length=(cN S i).length/\(bT S D i).2.length<=i:=by
 induction i with
 |zero=>exact⟨rfl,Nat.le_refl _⟩
 | succ i ih=>
   rw[bT,cN];split
   . exact⟨by simp[ih.1],Nat.le_trans ih.2 (Nat.le_succ _)⟩
   . exact⟨by simp[ih.1],by have:=ih.2;simp;omega⟩
def MW {α:Type}[Inhabited α]{l:List α}(h:l≠[]):l.getLastD default∈l:=by rw[List.getLastD_eq_getLast?,List.getLast?_eq_some_getLast h];exact List.getLast_mem h
def EE (B:Nat)(D d:DmR):Prop:=fZ d/\iT B d/\d.1.length=D.1.length/\d.2.length=D.2.length
def QD {S:Nat->Bool}{D:DmR}{B:Nat}(hk:fZ D)(hf:iT B D)(h5:D.2.length<=5)(i:Nat)(hB:B+3*i<=200000)(hne:∀j,j<i->cN S j≠[]):∀d∈(bT S D i).1++(bT S D i).2,EE (B+3*i) D d:=by
 induction i with
 | zero=>
   intro d hd;have e:d=D:=by simpa[bT]using hd
   subst e;exact⟨hk,hf,rfl,rfl⟩
 | succ i ih=>
   have ih:=ih zo (λj hj=>hne j zo);have h0:(bT S D i).1≠[]:=λh=>by have h1:=(Ai S D i).1;rw[h]at h1;exact hne i zo (List.length_eq_zero_iff.1 h1.symm)
   have hup:∀d,EE (B+3*i) D d->EE (B+3* (i+1)) D d:=λd ⟨h1,h2,h3⟩=>⟨h1,h2.mono zo,h3⟩;have hx:=ih _ (List.mem_append_left _ (MW h0));have hh:∀up,EE (B+3* (i+1)) D (fh up ((bT S D i).1.getLastD default)):=λup=>by obtain⟨h1,h2,h3,h4⟩:=hx;obtain⟨g1,g2,g3,g4⟩:=Ix h1 h2 zo zo up;exact⟨g1,g2.mono zo,g3.trans h3,g4.trans h4⟩
   intro d hd;rw[bT]at hd;split at hd
   . simp only[List.mem_append,List.mem_cons,List.not_mem_nil,or_false]at hd;rcases hd with(hd|rfl|rfl) |hd
     . exact hup d (ih d (List.mem_append_left _ (List.dropLast_subset _ hd)))
     . exact hh true
     . exact hh false
     . exact hup d (ih d (List.mem_append_right _ hd))
   . simp only[List.mem_append,List.mem_cons,List.not_mem_nil,or_false]at hd;rcases hd with hd|hd|rfl
     . exact hup d (ih d (List.mem_append_left _ (List.dropLast_subset _ hd)))
     . exact hup d (ih d (List.mem_append_right _ hd))
     . exact hup _ hx
def amu {S:Nat->Bool}{D:DmR}{B:Nat}{X:Nat->Dyadic}(hk:fZ D)(hf:iT B D)(h5:D.2.length<=5)(i:Nat)(hB:B+3*i<=200000)(hne:∀j,j<i->cN S j≠[])(hX:iI D X):∃d∈(bT S D i).1++(bT S D i).2,iI d X:=by
 induction i with
 |zero=>exact⟨D,by simp[bT],hX⟩
 | succ i ih=>
   obtain⟨d,hd,wz⟩:=ih zo (λj hj=>hne j zo);have hinv:=QD hk hf h5 i zo (λj hj=>hne j zo);have h0:(bT S D i).1≠[]:=λh=>by have h1:=(Ai S D i).1;rw[h]at h1;exact hne i zo (List.length_eq_zero_iff.1 h1.symm)
   rw[bT];rcases List.mem_append.1 hd with hd|hd
   . have e:(bT S D i).1=(bT S D i).1.dropLast++[(bT S D i).1.getLastD default]:=by
      conv=>lhs;rw[<-List.dropLast_concat_getLast h0]
      rw[List.getLastD_eq_getLast?,List.getLast?_eq_some_getLast h0];rfl
     rw[e,List.mem_append]at hd;rcases hd with hd|hd
     . split
       . exact⟨d,by simp[hd],wz⟩
       . exact⟨d,by simp[hd],wz⟩
     . have e2:d=(bT S D i).1.getLastD default:=by simpa using hd
       rw[e2]at wz;obtain⟨g1,g2,g3,g4⟩:=hinv _ (List.mem_append_left _ (MW h0));split
       . rcases(ari g1 g2 zo zo X).1 wz with h|h
         . exact⟨_,by simp,h⟩
         . exact⟨_,by simp,h⟩
       . exact⟨_,by simp,wz⟩
   . split
     . exact⟨d,by simp[hd],wz⟩
     . exact⟨d,by simp[hd],wz⟩
def amx (S:Nat->Bool)(D:DmR)(i j:Nat)(h:i<=j):(bT S D i).2<+:(bT S D j).2:=by
 induction j with
 | zero => obtain rfl:i=0:=by omega
           exact List.prefix_rfl
 | succ j ih=>
   by_cases hi:i=j+1
   . subst hi;exact List.prefix_rfl
   . refine(ih zo).trans ?_;rw[bT];split
     . exact List.prefix_rfl
     . exact List.prefix_append _ _
def amv (S:Nat->Bool)(D:DmR)(n i:Nat)(h:i<n)(hS:S i=false):(bT S D n).2[(bT S D i).2.length]?=some ((bT S D i).1.getLastD default):=by
 have h1:=amx S D (i+1) n h;have e:(bT S D (i+1)).2=(bT S D i).2++[(bT S D i).1.getLastD default]:=by rw[bT,if_neg (by rw[hS];decide)]
 rw[e]at h1;obtain⟨t,ht⟩:=h1;rw[<-ht,List.append_assoc,List.getElem?_append_right (Nat.le_refl _),Nat.sub_self];rfl
def amw (S:Nat->Bool)(D:DmR)(n:Nat):∀d∈(bT S D n).2,∃i,i<n/\S i=false/\(bT S D i).1.getLastD default=d:=by
 induction n with
 |zero=>intro d hd;simp[bT]at hd
 | succ n ih=>
   intro d hd;rw[bT]at hd;split at hd
   . obtain⟨i,h1,h2⟩:=ih d hd;exact⟨i,by omega,h2⟩
   . rename_i hS
     rcases List.mem_append.1 hd with hd|hd
     . obtain⟨i,h1,h2⟩:=ih d hd;exact⟨i,by omega,h2⟩
     . exact⟨n,by omega,by simpa using hS,(List.mem_singleton.1 hd).symm⟩
def sW (S:Nat->Bool)(n:Nat)(c:Int):Int:=if c=0 then if un S n then 0 else 2 else c
def VX (S:Nat->Bool)(n:Nat)(D:DmR)(c:Int)(w:World)(e:Ending)(w':World):Prop:=
 ∃(va:Option Addr) (vn vc:Nat),e=.returned (.tuple #[.slice va vn vc,af c])/\(c≠0->vn=0)/\(c=0->∃q:List Dv,vn=(bT S D n).2.length/\q.length=vn/\At w' va (q.flatMap iW)/\fB w' q (bT S D n).2)/\Bw w w'
def an7 (S:Nat->Bool)(ns:List Nd)(n cap:Nat)(a:Option Addr)(D:DmR)(dn dm B:Nat)(da gU:Option Addr)(dc gV:Nat)(c:Int)(w:World)(hn:ns.length=n)(hS:∀k (h:k<ns.length),S k=(ns[k].sp !=0))(uM:n<=40\/4096<n)
 (hat:At w a (ns.flatMap oD)) (fF:D.1.length=dn) (fE:D.2.length=dm) (hs:Sl da dn dc) (hb:At w da (D.1.flatMap spC)) (ha:Tbl w gU D.2) (hf:iT B D) (xX:3<=B) (hB:B<=100000) (dV:dn<=1000) (jc:dm<=5) (hcap:dm<=gV) (hT:aB w)
 (hc:rz dn dm (iV (D.1.map bH)) (jA D.2)=c):
 Cl 34 #[.slice a n cap,.agg #[.slice da dn dc,.slice gU dm gV]] w (VX S n D (sW S n c) w):=by
 have FH:=aj λW (hW:Bw w W)=>aeC D.1 D.2 dn dm B da gU dc gV c W fF fE (hb.below hW) (ha.below hW) hf.1 hf.2 xX zo dV jc hcap (hT.below hW) hc;unfold Qf at FH;by_cases h0:c=0
 rotate_left
 . have Db:(c==0)=false:=by simpa using h0
   have vW:(c !=0)=true:=by simpa using h0
   have e:sW S n c=c:=by unfold sW;rw[if_neg h0]
   rw[e];clear hn hS hat fF fE hs hb ha hf hT hc e uM;have Hb:=hbz w;go_enter Tryz.func34,Tryz.ntmps34;go_wp2_with fail;refine gQ w (Hb.an trivial) 69 [.slice a n cap] 27 [.slice da dn dc,.slice gU dm gV] λW aG ae ai=>?_;go_wp2_with fail;refine(FH.out _ ae.2.2.1.out).mono ?_;rintro e w1 ⟨la,k,lc,rfl,_,_,ak⟩;obtain⟨ae,ai⟩:=qX ak ae;go_wp2;exact bodyPost_ret (v:=.tuple #[.slice none 0 0,af c]) (by simp[results,Tryz.results34,go_sem]) rfl ⟨none,0,0,rfl,λ_=>rfl,λh=>absurd h h0,ae.2.2.1.out⟩
 subst h0;have hk:fZ D:=by unfold fZ;rw[fF,fE];exact hc
 have yx:∀r∈D.2,0<r.length/\r.length<=8:=λr hr=>by
  rcases sU hk hf zo with⟨q,hq,_,hw,_⟩ |⟨h,_⟩
  . have:=hw.2.1 r hr;omega
  . rw[h]at hr;cases hr
 have Qe:=aj λW (hW:Bw w W)=>aud D dn dm da gU dc gV W fF fE dV jc hs hcap (hb.below hW) (ha.below hW) yx;have eg:∀args w,(callFunc 95 args).run Tryz.prog w=.ok (.enter 95 args) w:=enters_of Tryz.func95 zk rfl;have KE:=aj λ(W:World) (tb cb ob:Nat) (gJ:w.heap.size<=tb) (hl2:w.heap.size<=cb) (Mq:w.heap.size<=ob) (dV:tb≠cb) (wF:tb≠ob) (wG:cb≠ob) (hW:w.heap.size<=W.heap.size) (h0:vz w tb cb ob a n cap [D] [] W)=>
  axv S ns n cap a 95 #[.pointer (some ⟨tb,0,none⟩),.pointer (some ⟨cb,0,none⟩),.pointer (some ⟨ob,0,none⟩)] (λi W=>(∀j,j<i->cN S j≠[])/\vz w tb cb ob a n cap (bT S D i).1 (bT S D i).2 W) W hn hS
   (λi W2 h=>by obtain⟨_,_,_,_,_,_,_,_,_,_,_,_,_,hbl⟩:=h;exact hat.below hbl)
   (λi W2 W3 h k=>⟨h.1,h.2.kw k hW⟩) eg
   (λh4 i hi hne W2 _ h=>by
    have hi2:i<ns.length:=by omega
    have hL:=(Ai S D i).1;have h41:n<=40:=by omega
    obtain⟨L,xZ⟩:∃L,(cN S i).length=L+1:=⟨(cN S i).length-1,by have:=List.length_pos_iff.2 hne;omega⟩;have hle:=(ZB S i).1;have Mw:(bT S D i).1≠[]:=λe=>by rw[e]at hL;rw[xZ]at hL;cases hL
    obtain⟨g1,g2,g3,g4⟩:=QD hk hf zo i zo h.1 _ (List.mem_append_left _ (MW Mw));refine(an6 w W.heap.size tb cb ob (B+3*i) a n cap ns _ _ i ((cN S i).getLastD 0:Nat) W2 _ L h.2 hat hT hn hi2 (hL.trans xZ) zo (by have:=(Ai S D i).2;omega) ⟨dV,wF,wG⟩ ⟨gJ,hl2,Mq⟩ rfl g1 g2 zo zo).mono ?_;rintro e w' ⟨h1,h2,h3⟩;refine⟨h1,⟨λj hj=>?_,?_⟩,h2⟩
    . by_cases hji:j=i
      . rw[hji];exact hne
      . exact h.1 j zo
    . have e1:=hS i hi2;rw[bT];by_cases hsp:ns[i].sp=0
      . rw[if_pos hsp,if_pos hsp]at h3;rw[if_neg (by rw[e1,hsp];decide)];exact h3
      . rw[if_neg hsp,if_neg hsp]at h3;rw[if_pos (by rw[e1];simpa using hsp)]
        exact h3)
   ⟨λj hj=>absurd hj (Nat.not_lt_zero _),h0⟩
 obtain⟨F,hF⟩:=az (un S n);have e:sW S n 0=if F then 0 else 2:=by unfold sW;rw[if_pos rfl,hF]
 obtain⟨R,hR⟩:=az (if F then(0:Int)else 2);rw[e,hR];have HR:=aj hR;simp only[hF]at KE;clear hR hn hS hat fF fE hs hb ha hf hT hc e hk yx eg hF uM;have Hb:=hbz w;go_enter Tryz.func34,Tryz.ntmps34;go_wp2_with fail;refine gQ w (Hb.an trivial) 69 [.slice a n cap] 27 [.slice da dn dc,.slice gU dm gV] λW aG ae ai=>?_;go_wp2_with fail;refine(FH.out _ ae.2.2.1.out).mono ?_;rintro e w1 ⟨la,k9,lc,rfl,_,_,ak⟩;obtain⟨ae,ai⟩:=qX ak ae;go_wp2_with fail;refine(Qe.out _ ae.2.2.1.out).mono ?_;rintro e w2 ⟨a1,c1,b1,e1,rfl,hd1,ak⟩;obtain⟨ae,ai⟩:=qX ak ae;have HD:Hid (DT w2 ⟨a1,dn,c1,b1,dm,e1⟩ D):=hd1;clear hd1;have hw2:=ae.2.2.1.out.size;obtain⟨W3,Dl,aG,ae,ai⟩:=UW w2 (HD.an ae) 27 [.slice a1 dn c1,.slice b1 dm e1] 74 [.slice (some ⟨w2.heap.size,0,none⟩) 1 1];have hs3:=ae.2.1.out.lt;obtain⟨W4,ke,aG,ae,ai⟩:=bO W3 ae 74 [.slice none 0 0];have hbz:=ae.2.1.out;have pg:=ae.2.2.1.out;have fS:=ae.1.out;have hbk:=ae.2.2.2.2.1.out;have hdd:=ae.2.2.2.1.out;have hbb:=ae.2.2.2.2.2.2.1.out;have hs2:W3.heap.size<W4.heap.size:=fS.lt;have nj:vz w (w2.heap.size+1) w.heap.size W3.heap.size a n cap [D] [] W4:=
  ⟨_,_,[⟨a1,dn,c1,b1,dm,e1⟩],[],pg,Ni hbz hw2 rfl zd,fB.snoc (fB.nil _) hdd,fS,World.ownsRow_nil _ _ _ _,fB.nil _,.inr (by simp[Value.ownBlock]),hbk,hbb⟩
 go_wp2_with fail;refine(KE.out W4 (w2.heap.size+1) w.heap.size W3.heap.size zo (Nat.le_refl _) zo zo zo zo zo nj).mono ?_;rintro e5 w5 ⟨rfl,wN,i9,_,ll⟩;cases F with
 |false=>obtain⟨_,_,_,_,_,_,_,_,_,_,_,_,hbl⟩:=ll;clear KE FH Qe wN;obtain rfl:2=R:=HR.out;go_wp2;exact bodyPost_ret (v:=.tuple #[.slice none 0 0,af 2]) (by simp[results,Tryz.results34,go_sem]) rfl ⟨none,0,0,rfl,λ_=>rfl,λh=>(by cases h),hbl⟩
 |true=>obtain⟨_,v,u,l,q,h1,h2,h3,h4,h5,h6,h7,h8,h9⟩:=wN rfl;obtain⟨va,vc,rfl,uQ,_⟩:=cz h5;have rJ:q.length=(bT S D n).2.length:=h6.1;clear ll wN;obtain rfl:0=R:=HR.out;obtain⟨Q,hQ⟩:=az ((bT S D n).2);rw[hQ]at h4 h6 rJ;obtain⟨Ho,H6,Hb,eu,Px,HQ⟩:=gM h4 h6 h9 uQ rJ hQ;clear h1 h2 h3 h4 h5 h6 h7 h8 h9 uQ rJ KE FH Qe nj hbz pg fS hbk hdd hbb hQ;obtain⟨ae,ai⟩:=qZ (Ho.an trivial);go_wp2;exact bodyPost_ret (v:=.tuple #[.slice va Q.length vc,af 0]) (by simp[results,Tryz.results34,go_sem]) rfl ⟨va,_,vc,rfl,λh=>absurd rfl h,λ_=>⟨q,by rw[HQ.out],Px.out,eu.out,by rw[HQ.out];exact H6.out⟩,Hb.out⟩
end Go.Proofs.YtpfgffadgkkedaaGreatDoor
namespace Go.Proofs.YtpfgffadgkkedaaGreatDoor
def pH (sc:Raw)(V:Int)(q:List Trm)(Vp:Int)(P:List Trm)(d:DmR):Bool:=
 decide (0<bi (dval sc))&&(uJ V q&&(decide (vp V q (gu d.1.length d.2.length)=0)&&(decide (Vp=(cO d.1.length d.2.length:Int))&&decide (aS (cC (dval sc) P)=dP (cO d.1.length d.2.length) (jf d.1 d.2) (gu d.1.length d.2.length) (gu d.1.length d.2.length) q))))
def afR {V:Int}{q:List Trm}{L:Nat}(h:vp V q L=0):gj V q=0/\(L:Int)=V:=by
 unfold vp at h;by_cases h1:gj V q=0
 . rw[if_pos h1]at h;by_cases h2:(L:Int)=V
   . exact⟨h1,h2⟩
   . rw[if_neg h2]at h;omega
 . rw[if_neg h1]at h;omega
def ZA {d:DmR}{B C K:Nat}(hK:C+25<=K)(h:fZ d)(hf:iT B d)(h5:d.2.length<=5)(h4:cO d.1.length d.2.length<=4)(hfl:∀k,k<gu d.1.length d.2.length->dL (cO d.1.length d.2.length) C (jf d.1 d.2 k)):SubOk (cO d.1.length d.2.length) (gu d.1.length d.2.length) 5 C K 5 (jf d.1 d.2):=by
 refine asi hK h4 hfl λh0=>?_;rcases sU h hf h5 with⟨q,_,_,_,hm,_⟩ |⟨hr,_⟩
 . omega
 . rw[hr]at h0;cases h0
def anG {d:DmR}{B:Nat}(h:fZ d)(hf:iT B d)(h5:d.2.length<=5):0<cO d.1.length d.2.length/\0<gu d.1.length d.2.length/\gu d.1.length d.2.length<=12:=by
 unfold cO gu;rcases sU h hf h5 with⟨q,_,_,_,hm,_⟩ |⟨hr,h1,h6,_⟩
 . rw[if_pos zo,if_pos zo];omega
 . rw[hr,List.length_nil,if_neg (Nat.lt_irrefl 0),if_neg (Nat.lt_irrefl 0)];omega
def ar7 {sc:Raw}{V Vp:Int}{q P:List Trm}{d:DmR}{B C K:Nat}{X:Nat->Dyadic}(hK:C+25<=K)(h:fZ d)(hf:iT B d)(h5:d.2.length<=5)(h4:cO d.1.length d.2.length<=4)(hfl:∀k,k<gu d.1.length d.2.length->dL (cO d.1.length d.2.length) C (jf d.1 d.2 k))(hq:∀t∈q,degN t.1<=5)(hF:pH sc V q Vp P d=true)(hX:iI d X):
 Vp=(cO d.1.length d.2.length:Int)/\0<bG (fp X (cO d.1.length d.2.length)) P:=by
 unfold pH at hF;simp only[Bool.and_eq_true,decide_eq_true_eq]at hF;obtain⟨h1,h2,h3,h6,h7⟩:=hF;refine⟨h6,?_⟩;obtain⟨hp,hL⟩:=afR h3;have hn:=atD h hf h5 hX;have hs:=ZA hK h hf h5 h4 hfl;unfold Qg at hn;generalize cO d.1.length d.2.length=W at*;generalize gu d.1.length d.2.length=L at*;subst hL;have hv:=aoV hs (Er hp) hq hn h2;rw[<-h7,xU,aac]at hv;have h9:=(ZQ (dval sc)).1 h1;by_cases hz:0<bG (fp X W) P
 . exact hz
 . have h10:=CW (x:=dval sc) (y:=-bG (fp X W) P) (by grind) (by grind);grind
def uG (pc dc:Int)(S G:Nat->Bool)(n:Nat):Int×Int:=if pc=0 then if dc=0 then match (List.range n).find? (λi=>!S i&& !G i)with
 |some i=>((i:Int),6)
 |none=>(0,0)else(0,dc)else(0,pc)
def amS {S G:Nat->Bool}{n i:Nat}(hi:i<n)(h1:S i=false)(h2:G i=false)(h:∀j,j<i->S j=false->G j=true):uG 0 0 S G n=((i:Int),6):=by
 have e:(List.range n).find? (λi=>!S i&& !G i)=some i:=by
  rw[List.find?_range_eq_some];refine⟨by simp[h1,h2],List.mem_range.2 hi,λj hj=>?_⟩;cases hs:S j with
  |true=>simp
  |false=>simp[h j hj hs]
 unfold uG;rw[if_pos rfl,if_pos rfl,e]
def amT {S G:Nat->Bool}{n:Nat}(h:∀j,j<n->S j=false->G j=true):uG 0 0 S G n=(0,0):=by
 have e:(List.range n).find? (λi=>!S i&& !G i)=none:=by
  rw[List.find?_eq_none];intro j hj;cases hs:S j with
  |true=>simp
  |false=>simp[h j (List.mem_range.1 hj) hs]
 unfold uG;rw[if_pos rfl,if_pos rfl,e]
end Go.Proofs.YtpfgffadgkkedaaGreatDoor
