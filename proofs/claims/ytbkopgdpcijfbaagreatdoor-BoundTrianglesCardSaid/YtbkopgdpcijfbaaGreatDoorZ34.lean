/- How far a simplex' corners lie apart,by the weights of another one. No program here. -/
import Derived.Test.YtbkopgdpcijfbaaGreatDoorZ12
import Derived.Test.YtbkopgdpcijfbaaGreatDoorZ32
import Derived.Test.YtbkopgdpcijfbaaGreatDoorZ33
import Derived.Test.YtbkopgdpcijfbaaGreatDoorZ17
import Derived.Test.YtbkopgdpcijfbaaGreatDoorZ23
set_option linter.all false
set_option maxRecDepth 100000
set_option maxHeartbeats 16000000
namespace Go.Proofs.YtbkopgdpcijfbaaGreatDoor
def iM (p:List UInt8->Bool):List Trm->Dyadic
 |[]=>0
 |t::l=>(if p t.1 then au t.2*au t.2 else 0)+iM p l
def azQ (p:List UInt8->Bool)(a b:List Trm):iM p (a++b)=iM p a+iM p b:=by
 induction a with
 |nil=>show iM p b=0+iM p b;grind
 |cons t a ih=>show _+iM p (a++b)=_+iM p a+iM p b;rw[ih];grind
def aoo (p:List UInt8->Bool)(X:Dyadic)(ts:List Trm)(k:Nat)(hk:k<=ts.length):rZ p X ts k=X+iM p (ts.take k):=by
 induction k with
 |zero=>show X=X+0;grind
 | succ k ih=>
   have hk':k<ts.length:=by omega
   have e:ts.getD k ([],false,[],0)=ts[k]:=by simp[List.getD_eq_getElem?_getD,hk']
   rw[rZ,ih zo,List.take_succ_eq_append_getElem hk',azQ,e];show _=X+(_+((if p ts[k].1 then au ts[k].2*au ts[k].2 else 0)+0))
   split<;>grind
def ajb (p:List UInt8->Bool)(T:Nat->List Trm)(n:Nat):stA p T n=sumTo (λj=>iM p (T j)) n:=by
 induction n with
 |zero=>rfl
 |succ n ih=>rw[stA,aoo _ _ _ _ (Nat.le_refl _),List.take_length,ih];rfl
def rL (x:Dyadic):0<=x*x:=Tq x
def ab6 {A X Y a b:Dyadic}(hX:0<=X)(hY:0<=Y)(h:A*A<=X*Y):(A+a*b) * (A+a*b)<=(X+a*a) * (Y+b*b):=by
 by_cases h0:X=0
 . subst h0;have hA:A=0:=by
    have h1:A*A<=0:=by grind
    have h2:=rL A;by_cases h3:0<A
    . have:=wz h3 h3;grind
    . by_cases h4:A<0
      . have:=wz (x:=-A) (y:=-A) (by grind) (by grind);grind
      . grind
   subst hA;have:=gP (rL a) hY;grind
 . have NH:0<X:=by grind
   have h1:=rL (X*b-A*a);have h2:=gP (rL a) (show 0<=X*Y-A*A by grind);have h3:0<=X* (X* (b*b)+Y* (a*a)-(A* (a*b)+A* (a*b))):=by grind
   have h4:0<=X* (b*b)+Y* (a*a)-(A* (a*b)+A* (a*b)):=by
    by_cases h5:0<=X* (b*b)+Y* (a*a)-(A* (a*b)+A* (a*b))
    . exact h5
    . have:=wz NH (y:=-(X* (b*b)+Y* (a*a)-(A* (a*b)+A* (a*b)))) (by grind);grind
   grind
def aqB (a b:Nat->Dyadic)(n:Nat):sumTo (λl=>a l*b l) n*sumTo (λl=>a l*b l) n<=sumTo (λl=>a l*a l) n*sumTo (λl=>b l*b l) n/\0<=sumTo (λl=>a l*a l) n/\0<=sumTo (λl=>b l*b l) n:=by
 induction n with
 |zero=>show(0:Dyadic) *0<=0*0/\(0:Dyadic)<=0/\(0:Dyadic)<=0;grind
 |succ n ih=>obtain⟨h1,h2,h3⟩:=ih;have:=rL (a n);have:=rL (b n);exact⟨ab6 h2 h3 h1,by show 0<=_+_;grind,by show 0<=_+_;grind⟩
def aAS {n a b:Nat}(ha:a<n)(hb:b<n)(h:cN n a=cN n b):a=b:=by
 have h1:=congrArg (λl=>(l.getD a 0).toNat) h;unfold cN at h1;simp only[List.getD_eq_getElem?_getD,List.getElem?_set]at h1;simp[ha]at h1;by_cases e:b=a
 . exact e.symm
 . simp[e,ha]at h1
def ajL {n k:Nat}(h:k<n):cN n k≠iN n:=λe=>by have h1:=congrArg (λl=>(l.getD k 0).toNat) e;unfold cN iN at h1;simp[List.getD_eq_getElem?_getD,h]at h1
def ash (n:Nat)(u v:Nat->Dyadic)(ts:List Trm)(hm:∀t∈ts,t.1=iN n\/∃k,k<n/\t.1=cN n k)(hu:(ts.map Prod.fst).Nodup):
 ∃Y:Dyadic,(cO (eZ u n) ts-cO (eZ v n) ts) * (cO (eZ u n) ts-cO (eZ v n) ts)<=iM (fe n) ts*Y/\0<=iM (fe n) ts/\Y=sumTo (λk=>if cN n k∈ts.map Prod.fst then(u k-v k) * (u k-v k)else 0) n/\0<=Y:=by
 induction ts with
 | nil=>
   refine⟨0,?_,Dyadic.le_refl _,?_,Dyadic.le_refl _⟩
   . show(0-0:Dyadic) * (0-0)<=0*0;grind
   . rw[sumTo_congr (g:=λ_=>0) n λk _=>by simp,KR]
 | cons t ts ih=>
   rw[List.map_cons,List.nodup_cons]at hu;obtain⟨Y,h1,h2,h3,h4⟩:=ih (λx hx=>hm x (by simp[hx])) hu.2;have ev:∀w,cO (eZ w n) (t::ts)=au t.2*eZ w n t.1+cO (eZ w n) ts:=λw=>rfl;rw[ev,ev];rcases hm t zm with e|⟨k,hk,e⟩
   . have em:∀w,eZ w n t.1=1:=λw=>by rw[e];exact WJ w n n
     have es:iM (fe n) (t::ts)=iM (fe n) ts:=by
      show(if fe n t.1 then au t.2*au t.2 else 0)+iM (fe n) ts=_
      rw[if_neg (by unfold fe;simp[e])];grind
     refine⟨Y,?_,by rw[es];exact h2,?_,h4⟩
     . rw[em,em,es];have:au t.2*1+cO (eZ u n) ts-(au t.2*1+cO (eZ v n) ts)=cO (eZ u n) ts-cO (eZ v n) ts:=by grind
       rw[this];exact h1
     . rw[h3];refine sumTo_congr _ λj hj=>?_;have:(cN n j∈(t::ts).map Prod.fst)↔(cN n j∈ts.map Prod.fst):=by rw[List.map_cons,List.mem_cons];exact⟨λh=>h.elim (λh=>absurd (h.trans e) (ajL hj)) id,.inr⟩
       simp only[this]
   . have em:∀w:Nat->Dyadic,eZ w n t.1=w k:=fun w=>by
      rw[e];show pN w 1 (cN n k) n=w k
      rw[WI w n k n (Nat.le_refl _) hk,if_pos hk]
     have es:iM (fe n) (t::ts)=iM (fe n) ts+au t.2*au t.2:=by
      show(if fe n t.1 then au t.2*au t.2 else 0)+iM (fe n) ts=_
      rw[if_pos (by unfold fe;simp[e,ajL hk])];grind
     have hnn:=rL (u k-v k);have hnd:=rL (au t.2);refine⟨Y+(u k-v k) * (u k-v k),?_,by rw[es];grind,?_,by grind⟩
     . rw[em,em,es];have e2:au t.2*u k+cO (eZ u n) ts-(au t.2*v k+cO (eZ v n) ts)=(cO (eZ u n) ts-cO (eZ v n) ts)+au t.2* (u k-v k):=by grind
       rw[e2];exact ab6 h2 h4 h1
     . have e3:(u k-v k) * (u k-v k)=sumTo (λj=>if j=k then(u k-v k) * (u k-v k)else 0) n:=by rw[Da _ k _ hk λj _ hj=>by rw[if_neg hj],if_pos rfl]
       rw[h3];conv=>lhs;rw[e3]
       rw[<-yN];refine sumTo_congr _ λj hj=>?_;by_cases hjk:j=k
       . subst hjk;have n1:¬cN n j∈ts.map Prod.fst:=by rw[<-e];exact hu.1
         have n2:cN n j∈(t::ts).map Prod.fst:=by rw[List.map_cons,List.mem_cons];exact .inl e.symm
         rw[if_neg n1,if_pos n2,if_pos rfl];grind
       . have:(cN n j∈(t::ts).map Prod.fst)↔(cN n j∈ts.map Prod.fst):=by rw[List.map_cons,List.mem_cons];exact⟨λh=>h.elim (λh=>absurd (aAS hj hk (h.trans e)) hjk) id,.inr⟩
         simp only[this,if_neg hjk];grind
def azO (x y:Nat->Dyadic)(n:Nat):gH x y n=sumTo (λk=>(x k-y k) * (x k-y k)) n:=by
 induction n with
 |zero=>rfl
 |succ n ih=>rw[gH,sumTo,ih]
def asj (n:Nat)(u v:Nat->Dyadic)(ts:List Trm)(hm:∀t∈ts,t.1=iN n\/∃k,k<n/\t.1=cN n k)(hu:(ts.map Prod.fst).Nodup):
 (cO (eZ u n) ts-cO (eZ v n) ts) * (cO (eZ u n) ts-cO (eZ v n) ts)<=iM (fe n) ts*gH u v n:=by
 obtain⟨Y,h1,h2,h3,h4⟩:=ash n u v ts hm hu;have h5:Y<=gH u v n:=by
  rw[h3,azO];refine sumTo_le n λk _=>?_;split
  . exact Dyadic.le_refl _
  . exact rL _
 have:=gP h2 (show 0<=gH u v n-Y by grind);grind
def asg (n m:Nat)(ts:List Trm)(hm:∀t∈ts,t.1=iN n\/∃k,k<n/\t.1=cN n k)(c:Nat->Dyadic)(hc:sumTo c m=1)(P:Nat->Nat->Dyadic)(x:Nat->Dyadic)(hx:∀b,b<n->x b=sumTo (λl=>c l*P l b) m):
 cO (eZ x n) ts=sumTo (λl=>c l*cO (eZ (P l) n) ts) m:=by
 induction ts with
 |nil=>show(0:Dyadic)=sumTo (λl=>c l*0) m;rw[sumTo_congr (g:=λ_=>0) m λl _=>by grind,KR]
 | cons t ts ih=>
   have ev:∀w,cO (eZ w n) (t::ts)=au t.2*eZ w n t.1+cO (eZ w n) ts:=λw=>rfl;rw[ev,ih λy hy=>hm y (by simp[hy])];rw[sumTo_congr (f:=λl=>c l*cO (eZ (P l) n) (t::ts)) (g:=λl=>au t.2* (c l*eZ (P l) n t.1)+c l*cO (eZ (P l) n) ts) m λl _=>by rw[ev];grind,yN,iB];congr 2;rcases hm t zm with e|⟨k,hk,e⟩
   . have em:∀w,eZ w n t.1=1:=λw=>by rw[e];exact WJ w n n
     rw[em,sumTo_congr (g:=c) m λl _=>by rw[em];grind,hc]
   . have em:∀w:Nat->Dyadic,eZ w n t.1=w k:=fun w=>by
      rw[e];show pN w 1 (cN n k) n=w k
      rw[WI w n k n (Nat.le_refl _) hk,if_pos hk]
     rw[em,hx k hk];exact sumTo_congr _ λl _=>by rw[em]
def aAX {l:List Trm}(h:Up l):(l.map Prod.fst).Nodup:=by unfold List.Nodup;rw[List.pairwise_map];exact List.Pairwise.imp (λ{x y} hxy e=>by rw[e,Ea]at hxy;cases hxy) h
def ar8 (n:Nat)(P:Nat->Nat->Dyadic)(i j:Nat):Up (dP n P i j):=by
 unfold dP;split
 . exact(BN _).1
 . exact(BN _).1
def awX {V D:Nat}{R:List (List Nat)}{p0 p:Nat->Nat->Dyadic}{cs0 cs:List Dyadic}{M:(Nat->Dyadic)->Nat->Dyadic}(h:HalfSt (V+1) D V R p0 cs0 M p cs)(h1:1<=V)(h4:V<=4)(a b:Nat)(ha:a<V+1)(hb:b<V+1):
 l1 (V+1) (M (unE a)) (M (unE b)) *l1 (V+1) (M (unE a)) (M (unE b)) * (bK V p0*bK V p0)<=nD (V+1) * (stA (fe V) (dP V p0 V) (V+1) *cL V p a b):=by
 have hval:∀c,c<V+1->∀k,k<V+1->cO (eZ (p c) V) (dP V p0 V k)=M (unE c) k* (jb (bK V p0) *bK V p0):=λc hc k hk=>by
  rw[asg V (V+1) _ (TB V p0 V k) (M (unE c)) (h.bar c hc).2 p0 (p c) λb hb=>h.pt c b hc hb];have hw:∀l,l<V+1->cO (eZ (p0 l) V) (dP V p0 V k)=if k=l then jb (bK V p0) *bK V p0 else 0:=λl hl=>by have e:=asl V h1 h4 p0 (p0 l) k zo;rw[acF (p0 l) V _ _ (Nat.le_refl _),List.take_length]at e;rw[e,aBF V h1 h4 p0 k l zo zo]
  rw[Da _ k _ hk λl hl hne=>by rw[hw l hl,if_neg λe=>hne e.symm];grind,hw k hk,if_pos rfl]
 have hS:jb (bK V p0) *bK V p0* (jb (bK V p0) *bK V p0)=bK V p0*bK V p0:=by rw[aiQ];split<;>grind
 have hn:=λk (hk:k<V+1)=>asj V (p a) (p b) (dP V p0 V k) (TB V p0 V k) (aAX (ar8 V p0 V k));have rI:=sumTo_le (f:=λk=>(M (unE a) k-M (unE b) k) * (M (unE a) k-M (unE b) k) * (bK V p0*bK V p0)) (g:=λk=>iM (fe V) (dP V p0 V k) *cL V p a b) (V+1) λk hk=>by
  have:=hn k hk;rw[hval a ha k hk,hval b hb k hk]at this;have e:(M (unE a) k* (jb (bK V p0) *bK V p0)-M (unE b) k* (jb (bK V p0) *bK V p0)) * (M (unE a) k* (jb (bK V p0) *bK V p0)-M (unE b) k* (jb (bK V p0) *bK V p0))=(M (unE a) k-M (unE b) k) * (M (unE a) k-M (unE b) k) * (jb (bK V p0) *bK V p0* (jb (bK V p0) *bK V p0)):=by grind
  rw[e,hS]at this;exact this
 rw[sumTo_congr (f:=λk=>iM (fe V) (dP V p0 V k) *cL V p a b) (g:=λk=>cL V p a b*iM (fe V) (dP V p0 V k)) (V+1) λk _=>by grind,iB,<-ajb]at rI;rw[sumTo_congr (g:=λk=>bK V p0*bK V p0* ((M (unE a) k-M (unE b) k) * (M (unE a) k-M (unE b) k))) (V+1) λk _=>by grind,iB]at rI;obtain⟨c1,c2,c3⟩:=aqB (λl=>zG (M (unE a) l-M (unE b) l)) (λ_=>1) (V+1);have e1:sumTo (λl=>zG (M (unE a) l-M (unE b) l) *1) (V+1)=l1 (V+1) (M (unE a)) (M (unE b)):=sumTo_congr _ λl _=>by grind
 have e2:sumTo (λl=>zG (M (unE a) l-M (unE b) l) *zG (M (unE a) l-M (unE b) l)) (V+1)=sumTo (λk=>(M (unE a) k-M (unE b) k) * (M (unE a) k-M (unE b) k)) (V+1):=sumTo_congr _ λl _=>by unfold zG;split<;>grind
 have e3:∀n:Nat,sumTo (λ_=>(1:Dyadic) *1) n=nD n:=λn=>by
  induction n with
  |zero=>exact wU.symm
  |succ n ih=>rw[sumTo,ih,WM,ahU];grind
 rw[e1,e2,e3]at c1;rw[e2]at c2;have hq:=gP (rL (bK V p0)) (show 0<=sumTo (λk=>(M (unE a) k-M (unE b) k) * (M (unE a) k-M (unE b) k)) (V+1) *nD (V+1)-l1 (V+1) (M (unE a)) (M (unE b)) *l1 (V+1) (M (unE a)) (M (unE b))by grind);have hN:=Ff (n:=V+1) zo;have hr:=gP (x:=nD (V+1)) (y:=cL V p a b*stA (fe V) (dP V p0 V) (V+1)-bK V p0*bK V p0*sumTo (λk=>(M (unE a) k-M (unE b) k) * (M (unE a) k-M (unE b) k)) (V+1)) (by grind) (by grind);grind
def uS (V D:Nat)(s:Bool)(rows:List (List Raw))(cs:List Dyadic):List Dyadic:=
 if s then rB V D (cZ (cH rows V) (V+1)).2.1 (cZ (cH rows V) (V+1)).1 cs else rB V D (cZ (cH rows V) (V+1)).1 (cZ (cH rows V) (V+1)).2.1 cs
def gL (V D:Nat):List Bool->List (List Raw)×List Dyadic->List (List Raw)×List Dyadic
 |[],x=>x
 |s::ss,x=>gL V D ss (tM V s x.1,uS V D s x.1 x.2)
def abC (V D:Nat)(ss:List Bool)(s:Bool)(x:List (List Raw)×List Dyadic):gL V D (ss++[s]) x=(tM V s (gL V D ss x).1,uS V D s (gL V D ss x).1 (gL V D ss x).2):=by
 induction ss generalizing x with
 |nil=>rfl
 |cons a ss ih=>exact ih _
def apC (V D:Nat)(ss:List Bool)(x:List (List Raw)×List Dyadic):(gL V D ss x).1=iL V ss x.1:=by
 induction ss generalizing x with
 |nil=>rfl
 |cons s ss ih=>exact ih _
def xd {V D:Nat}:∀x∈bz (V+1) D,x.length=V+1/\x.sum=D:=λx hx=>(sO V D x).1 hx
def aiG {V D i j:Nat}(hij:i≠j)(hi:i<V+1)(hj:j<V+1):∀x∈bz (V+1) D,∀t,t<=x.getD i 0->mv x i j t∈bz (V+1) D:=λx hx t ht=>by obtain⟨h1,h2⟩:=xd x hx;exact(sO V D _).2 ⟨by rw[lv];exact h1,by rw[WL x i j t hij zo zo ht];exact h2⟩
def apD {V D:Nat}(hV:1<=V)(p0:Nat->Nat->Dyadic)(cs0:List Dyadic)(ss:List Bool):∀{B:Nat} {rows:List (List Raw)} {cs:List Dyadic} {M:(Nat->Dyadic)->Nat->Dyadic},Rw V B rows->B+3*ss.length<=10000000->HalfSt (V+1) D V (bz (V+1) D) p0 cs0 M (cm rows) cs->
 ∃M,HalfSt (V+1) D V (bz (V+1) D) p0 cs0 M (cm (gL V D ss (rows,cs)).1) (gL V D ss (rows,cs)).2:=by
 induction ss with
 |nil=>intro B rows cs M _ _ h;exact⟨M,h⟩
 | cons s ss ih=>
   intro B rows cs M hr hB h;simp only[List.length_cons]at hB;have hF:=yD (cH rows V) (V+1) zo;have hpt:=λv (hv:v<=V)=>aek V (cZ (cH rows V) (V+1)).1 (cZ (cH rows V) (V+1)).2.1 v B rows hr.1 hr.2.1 hF.1 zo hv hr.2.2 zo;refine ih (Ew hr hV zo s) zo (M:=?_) ?_
   . exact if s then λu=>M (iV (cZ (cH rows V) (V+1)).2.1 (cZ (cH rows V) (V+1)).1 u)else λu=>M (iV (cZ (cH rows V) (V+1)).1 (cZ (cH rows V) (V+1)).2.1 u)
   . cases s with
     | false=>
       exact h.step (CZ V D) xd _ _ (aiG zo zo zo) zo zo zo λc b hc hb=>by
        show cm (tL rows _ _ (cZ (cH rows V) (V+1)).2.1) c b=_
        rw[hpt _ zo c b zo hb];rfl
     | true=>
       exact h.step (CZ V D) xd _ _ (aiG zo zo zo) zo zo zo λc b hc hb=>by
        show cm (tL rows _ _ (cZ (cH rows V) (V+1)).1) c b=_
        rw[hpt _ zo c b zo hb];unfold jN;split<;>grind
def jm (V:Nat)(rows:List (List Raw)):Dyadic:=(cZ (cH rows V) (V+1)).2.2
def au8 {n B:Nat}{rows:List (List Raw)}(h:Rw n B rows)(hn:1<=n)(ss:List Bool)(hs:ss.length=n)(hB:B+3*n<=10000000):jm n (iL n ss rows) *pZ 2<=jm n rows*Dyadic.ofIntWithPrec 3 0:=by
 have hall:=Wy n hn (cm rows) (cH rows n) (λa b=>KO rows n a b);have h0:nO n (jm n rows) (n+1) (cm rows):=nO.start n _ _ hall;have h1:=axL hn ss h (by rw[hs];exact hB) h0;have hF:=yD (cH (iL n ss rows) n) (n+1) zo;have h2:=h1.done zo (cZ (cH (iL n ss rows) n) (n+1)).1 (cZ (cH (iL n ss rows) n) (n+1)).2.1 zo zo zo;rw[<-KO,<-hF.2.2]at h2;have e4:pZ 2=1+1+1+1:=by decide+kernel
 have e3:Dyadic.ofIntWithPrec 3 0=1+1+1:=by decide+kernel
 rw[e4,e3];have h3:jm n (iL n ss rows)+jm n (iL n ss rows)+jm n (iL n ss rows)+jm n (iL n ss rows)<=jm n rows+jm n rows+jm n rows:=h2;grind
def ay2 (c Y:Dyadic)(t:Nat):jx (c*Y) t=c*jx Y t:=by
 induction t with
 |zero=>rfl
 |succ t ih=>rw[jx,jx,ih];grind
def Ws (c Y:Dyadic)(t:Nat):jv (c*Y) t=c*jv Y t:=by
 induction t with
 |zero=>rfl
 |succ t ih=>rw[jv,jv,ih];grind
def ay3 {Y:Dyadic}(h:0<=Y)(t:Nat):0<=jx Y t:=by
 induction t with
 |zero=>exact h
 |succ t ih=>exact gP ih (by decide+kernel)
def avj {Y:Dyadic}(h:0<=Y)(t:Nat):0<=jv Y t:=by
 induction t with
 |zero=>exact h
 |succ t ih=>exact gP ih (by decide+kernel)
def ay4 (X Y:Dyadic)(t:Nat):jx (X-Y) t=jx X t-jx Y t:=by
 induction t with
 |zero=>rfl
 |succ t ih=>rw[jx,jx,jx,ih];grind
def avk (X Y:Dyadic)(t:Nat):jv (X-Y) t=jv X t-jv Y t:=by
 induction t with
 |zero=>rfl
 |succ t ih=>rw[jv,jv,jv,ih];grind
def arB {n:Nat}(hn:1<=n)(t:Nat):∀{B:Nat} {rows:List (List Raw)} (ss:List Bool),Rw n B rows->ss.length=n*t->B+3*ss.length<=10000000->jx (jm n (iL n ss rows)) t<=jv (jm n rows) t:=by
 induction t with
 |zero=>intro B rows ss _ hs _;have:ss=[]:=List.length_eq_zero_iff.1 (by rw[hs,Nat.mul_zero]);subst this;exact Dyadic.le_refl _
 | succ t ih=>
   intro B rows ss hr hs hB;rw[Nat.mul_succ]at hs;have h1:(ss.take n).length=n:=by rw[List.length_take];omega
   have h2:(ss.drop n).length=n*t:=by rw[List.length_drop];omega
   have e:iL n ss rows=iL n (ss.drop n) (iL n (ss.take n) rows):=by unfold iL;rw[<-List.foldl_append,List.take_append_drop]
   have hr1:=axM hn (ss.take n) hr (by rw[h1];omega);have h3:=ih (ss.drop n) hr1 h2 (by rw[h1,h2];omega);have h4:=au8 hr hn (ss.take n) h1 zo;rw[e,jx,jv];have h5:=avj (Y:=jm n rows*Dyadic.ofIntWithPrec 3 0-jm n (iL n (ss.take n) rows) *pZ 2) (by grind) t;rw[avk,show jm n rows*Dyadic.ofIntWithPrec 3 0=Dyadic.ofIntWithPrec 3 0*jm n rows by grind,show jm n (iL n (ss.take n) rows) *pZ 2=pZ 2*jm n (iL n (ss.take n) rows)by grind,Ws,Ws]at h5;have h6:=gP (x:=pZ 2) (y:=jv (jm n (iL n (ss.take n) rows)) t-jx (jm n (iL n (ss.drop n) (iL n (ss.take n) rows))) t) (by decide+kernel) (by grind);grind
def axk (n:Nat):CS (n:Int)=nD n:=rfl
def aAI {V D B t:Nat}{rows:List (List Raw)}{cs0:List Dyadic}{lo hi m:Dyadic}(hV:1<=V)(Uu:V<=4)(hr:Rw V B rows)(hD:0<D)(hS:bK V (cm rows)≠0)(vq:lo<=hi)(hm:0<m)(ss:List Bool)(hs:ss.length=V*t)(hB:B+3*ss.length<=10000000)
 (hc:AW (Fy (D:Int) (hi-lo) V (stA (fe V) (dP V (cm rows) V) (V+1)) (jm V rows)) (Fz m (bK V (cm rows))) t=true)
 (h0:∀q,q<(bz (V+1) D).length->lo*nD (cQ D)<=nD (eY ((bz (V+1) D).getD q [])) *cs0.getD q 0/\nD (eY ((bz (V+1) D).getD q [])) *cs0.getD q 0<=hi*nD (cQ D))
 (q r:Nat) (hq:q<(bz (V+1) D).length) (hr2:r<(bz (V+1) D).length):
 nD (eY ((bz (V+1) D).getD q [])) * (gL V D ss (rows,cs0)).2.getD q 0-nD (eY ((bz (V+1) D).getD r [])) * (gL V D ss (rows,cs0)).2.getD r 0<m*nD (cQ D):=by
 obtain⟨M,hM⟩:=apD hV (cm rows) cs0 ss hr hB (HalfSt.start (V+1) D V (bz (V+1) D) (cm rows) cs0);refine atp hM (CZ V D) xd (λx h1 h2=>(sO V D x).2 ⟨h1,h2⟩) hD vq h0 (λa b ha hb=>?_) q r hq hr2;have hn:=awX hM hV Uu a b ha hb;rw[apC]at hn;have hed:cL V (cm (iL V ss rows)) a b<=jm V (iL V ss rows):=Wy V hV _ _ (λa b=>KO _ V a b) a b zo zo;have hch:=arB hV t ss hr hs hB;simp only at hn;unfold AW at hc;rw[decide_eq_true_eq]at hc;have hc:=(uQ _).1 hc;have hE:0<=stA (fe V) (dP V (cm rows) V) (V+1):=by
  rw[ajb];have:∀ts,0<=iM (fe V) ts:=λts=>by
   induction ts with
   |nil=>exact Dyadic.le_refl _
   | cons x ts ih=>
     show 0<=(if fe V x.1 then au x.2*au x.2 else 0)+iM (fe V) ts
     have:=rL (au x.2);split<;>grind
  have h2:=sumTo_le (f:=λ_=>0) (g:=λj=>iM (fe V) (dP V (cm rows) V j)) (V+1) λj _=>this _;rw[KR]at h2;exact h2
 generalize cL V (cm (iL V ss rows)) a b=sq at*;generalize jm V (iL V ss rows)=e1 at*;generalize jm V rows=e0 at*;generalize stA (fe V) (dP V (cm rows) V) (V+1)=E at*;generalize bK V (cm rows)=S at*;generalize l1 (V+1) (M (unE a)) (M (unE b))=L at*;have hN:0<=nD (V+1):=by have:=Ff (n:=V+1) zo;grind
 have Es:0<S*S:=by
  have:=rL S;by_cases h:0<S
  . exact wz h h
  . have:=wz (x:=-S) (y:=-S) (by grind) (by grind);grind
 have k1:=gP (gP hN hE) (show 0<=e1-sq by grind);have k2:L*L* (S*S)<=nD (V+1) *E*e1:=by grind
 obtain⟨X,hX⟩:=aB (nD D* (hi-lo));rw[hX];have k3:=gP (rL X) (show 0<=nD (V+1) *E*e1-L*L* (S*S)by grind);have k4:=gP (gP (rL X) (gP hN hE)) (show 0<=jv e0 t-jx e1 t by grind);have x1:Fy (D:Int) (hi-lo) V E e0=X*X* (nD (V+1) *E) *e0:=by unfold Fy;rw[axk,show CS ((V:Int)+1)=nD (V+1)from rfl,hX];grind
 have y1:Fz m S=(m+m) * (m+m) * (S*S):=by
  have e4:pZ 2=1+1+1+1:=by decide+kernel
  unfold Fz;rw[e4];grind
 rw[x1,y1,Ws]at hc;by_cases hlt:X*L<m+m
 . exact hlt
 . exfalso
   have k5:=gP (x:=X*L-(m+m)) (y:=X*L+(m+m)) (by grind) (by grind);have k6:=gP k5 (show 0<=S*S by grind);have k7:=ay3 (Y:=X*X* (nD (V+1) *E) *e1-(m+m) * (m+m) * (S*S)) (by grind) t;rw[ay4,ay2]at k7;grind
def apZ (s a:Nat):ch (s+a) a* (cQ a*cQ s)=cQ (s+a):=by
 induction a with
 |zero=>rw[wm];show 1* (1*cQ s)=cQ s;rw[Nat.one_mul,Nat.one_mul]
 | succ a ih=>
   have h1:=MF (s+a) a;show ch (s+a+1) (a+1) * ((a+1) *cQ a*cQ s)=(s+a+1) *cQ (s+a)
   rw[<-ih];calc ch (s+a+1) (a+1) * ((a+1) *cQ a*cQ s)=ch (s+a+1) (a+1) * (a+1) * (cQ a*cQ s):=by simp only[Nat.mul_assoc]
    _=(s+a+1) * (ch (s+a) a* (cQ a*cQ s)):=by rw[h1];simp only[Nat.mul_assoc]
def uq (n s:Nat):List Nat->Nat
 |[]=>n
 |a::x=>uq (n*ch (s+a) a) (s+a) x
def aBi (x:List Nat):∀(n s P:Nat),n*P=cQ s->uq n s x* (P*eY x)=cQ (s+x.sum):=by
 induction x with
 |nil=>intro n s P h;show n* (P*1)=cQ (s+0);rw[Nat.mul_one];exact h
 | cons a x ih=>
   intro n s P h
   have h1:=ih (n*ch (s+a) a) (s+a) (P*cQ a) (by
    rw[<-apZ s a,<-h]
    simp only[Nat.mul_assoc,Nat.mul_left_comm,Nat.mul_comm])
   rw[List.sum_cons,<-Nat.add_assoc,<-h1];show uq (n*ch (s+a) a) (s+a) x* (P* (cQ a*eY x))=_
   rw[Nat.mul_assoc P]
def jd (x:List Nat):Nat:=uq 1 0 x
def Yy (x:List Nat):jd x*eY x=cQ x.sum:=by have:=aBi x 1 0 1 rfl;rwa [Nat.one_mul,Nat.zero_add]at this
def acK (x:List Nat):0<eY x:=by
 induction x with
 |nil=>decide
 |cons a x ih=>exact Nat.mul_pos (MZ a) ih
def aBl {x:List Nat}{D:Nat}(h:x.sum=D):nD (eY x) *nD (jd x)=nD (cQ D):=by rw[<-h,<-Yy,Fb];grind
def azu {d:Int}{G M E l S:Dyadic}{n N:Nat}(h:un d G M n E l S=some N):(N=0/\G<M)\/∃t,N=n*t/\AW (Fy d G n E l) (Fz M S) t=true:=by
 unfold un at h;by_cases h1:bg (G-M)<0
 . rw[if_pos h1]at h;have:=(uQ _).1 h1;exact .inl ⟨(Option.some.inj h).symm,by grind⟩
 . rw [if_neg h1]at h;right;have hF:∀(c:Nat->Bool) (f q:Nat),AE c n f q=some N->∃t,N=n*t/\c t=true:=fun c f=>by
    induction f with
    |zero=>intro q h;cases h
    | succ f ih=>
      intro q h;unfold AE at h;by_cases h2:1024<n*q
      . rw[if_pos h2]at h;cases h
      . rw[if_neg h2]at h;by_cases h3:c q=true
        . rw[if_pos h3]at h;exact⟨q,(Option.some.inj h).symm,h3⟩
        . rw[if_neg h3]at h;exact ih _ h
   exact hF _ _ _ h
def aze {f w c F lo hi:Dyadic}(hf:0<f)(hw:f*w=F)(h1:lo*w<=c)(h2:c<=hi*w):lo*F<=f*c/\f*c<=hi*F:=by have h5:=gP (x:=f) (y:=c-lo*w) (by grind) (by grind);have h6:=gP (x:=f) (y:=hi*w-c) (by grind) (by grind);subst hw;constructor<;>grind
def asz {x y F lo hi m:Dyadic}(hF:0<F)(hG:hi-lo<m)(h1:x<=hi*F)(h2:lo*F<=y):x-y<m*F:=by have h3:=wz (x:=m-(hi-lo)) (y:=F) (by grind) hF;grind
def aAJ {V D B N:Nat}{rows:List (List Raw)}{cs0:List Dyadic}{lo hi m:Dyadic}(hV:1<=V)(Uu:V<=4)(hr:Rw V B rows)(hS:bK V (cm rows)≠0)(vq:lo<=hi)(hm:0<m)
 (h0:∀q,q<(bz (V+1) D).length->lo*nD (jd ((bz (V+1) D).getD q []))<=cs0.getD q 0/\cs0.getD q 0<=hi*nD (jd ((bz (V+1) D).getD q [])))
 (hN:un (D:Int) (hi-lo) m V (stA (fe V) (dP V (cm rows) V) (V+1)) (cZ (cH rows V) (V+1)).2.2 (bK V (cm rows))=some N) (ss:List Bool) (hs:ss.length=N) (hB:B+3*ss.length<=10000000)
 (q r:Nat) (hq:q<(bz (V+1) D).length) (hr2:r<(bz (V+1) D).length):
 (gL V D ss (rows,cs0)).2.getD q 0*nD (jd ((bz (V+1) D).getD r []))-(gL V D ss (rows,cs0)).2.getD r 0*nD (jd ((bz (V+1) D).getD q []))<m* (nD (jd ((bz (V+1) D).getD q [])) *nD (jd ((bz (V+1) D).getD r []))):=by
 have rI:∀k,k<(bz (V+1) D).length->((bz (V+1) D).getD k []).sum=D:=λk hk=>(xd (V:=V) (D:=D) _ (by simp[hk])).2;have hF:0<nD (cQ D):=Ff (MZ D);have hf:=λk=>Ff (acK ((bz (V+1) D).getD k []));have hw:=λk (hk:k<(bz (V+1) D).length)=>aBl (rI k hk);have hb:∀k,k<(bz (V+1) D).length->lo*nD (cQ D)<=nD (eY ((bz (V+1) D).getD k [])) *cs0.getD k 0/\nD (eY ((bz (V+1) D).getD k [])) *cs0.getD k 0<=hi*nD (cQ D):=λk hk=>by exact aze (hf k) (hw k hk) (h0 k hk).1 (h0 k hk).2
 have hmain:nD (eY ((bz (V+1) D).getD q [])) * (gL V D ss (rows,cs0)).2.getD q 0-nD (eY ((bz (V+1) D).getD r [])) * (gL V D ss (rows,cs0)).2.getD r 0<m*nD (cQ D):=by
  have hmF:=wz hm hF;by_cases hD:D=0
  . have e:q=r:=by
     subst hD;have m1:(bz (V+1) 0).getD q []∈bz (V+1) 0:=by simp[hq]
     have m2:(bz (V+1) 0).getD r []∈bz (V+1) 0:=by simp[hr2]
     have e1:=PK (xd _ m1).1 (xd _ m1).2;have e2:=PK (xd _ m2).1 (xd _ m2).2;have e3:=e1.trans e2.symm;rw[List.getD_eq_getElem?_getD,List.getD_eq_getElem?_getD,List.getElem?_eq_getElem hq,List.getElem?_eq_getElem hr2]at e3;exact Ks (CZ V 0) e3
    rw[e];grind
  . rcases azu hN with⟨Nu,hG⟩ |⟨t,hNt,hc⟩
    . have e:ss=[]:=List.length_eq_zero_iff.1 (hs.trans Nu);subst e;show nD _*cs0.getD q 0-nD _*cs0.getD r 0<_
      exact asz hF hG (hb q hq).2 (hb r hr2).1
    . exact aAI hV Uu hr zo hS vq hm ss (hs.trans hNt) hB hc hb q r hq hr2
 have h1:=hf q;have h2:=hf r;have h3:=hw q hq;have h4:=hw r hr2;have h5:=wz (x:=m*nD (cQ D)-(nD (eY ((bz (V+1) D).getD q [])) * (gL V D ss (rows,cs0)).2.getD q 0-nD (eY ((bz (V+1) D).getD r [])) * (gL V D ss (rows,cs0)).2.getD r 0)) (y:=nD (cQ D)) (by grind) hF;refine acs (a:=nD (eY ((bz (V+1) D).getD q [])) *nD (eY ((bz (V+1) D).getD r []))) (wz h1 h2) ?_;generalize nD (eY ((bz (V+1) D).getD q []))=fq at*;generalize nD (eY ((bz (V+1) D).getD r []))=fr at*;generalize nD (jd ((bz (V+1) D).getD q []))=wq at*;generalize nD (jd ((bz (V+1) D).getD r []))=wr at*;generalize (gL V D ss (rows,cs0)).2.getD q 0=cq at*;generalize (gL V D ss (rows,cs0)).2.getD r 0=cr at*;generalize nD (cQ D)=F at*;clear hb hw hf rI h0 hmain;have e1:fq*fr* (cq*wr-cr*wq)=(fq*cq) * (fr*wr)-(fr*cr) * (fq*wq):=by grind
 have e2:fq*fr* (m* (wq*wr))=m* (fq*wq) * (fr*wr):=by grind
 rw[e1,e2,h3,h4];grind
end Go.Proofs.YtbkopgdpcijfbaaGreatDoor
