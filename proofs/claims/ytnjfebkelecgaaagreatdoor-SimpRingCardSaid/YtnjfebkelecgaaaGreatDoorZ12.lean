/- Forms over a simplex: numbers put at rows;what comes of lifting,splitting and adding,as plain lists. No program here. -/
import Derived.Test.YtnjfebkelecgaaaGreatDoorZ11
import Derived.Test.YtnjfebkelecgaaaGreatDoorZ9
import Derived.Test.YtnjfebkelecgaaaGreatDoorZ7
set_option linter.unusedVariables false
set_option linter.unusedSimpArgs false
set_option maxRecDepth 100000
set_option maxHeartbeats 16000000
namespace Go.Proofs.YtnjfebkelecgaaaGreatDoor
theorem avl (D:Nat->Dyadic)(q n:Nat)(hq:q<n)(h:∀k,k<n->k≠q->D k=0):sumTo D n=D q:=by
 have key:∀m,m<=n->sumTo D m=if q<m then D q else 0:=by
  intro m;induction m with
  |zero=>intro _;simp[sumTo]
  | succ m ih=>
    intro hm;rw[sumTo,ih zo];by_cases h1:m=q
    . subst h1;rw[if_neg (Nat.lt_irrefl _),if_pos (Nat.lt_succ_self _)];grind
    . rw[h m zo h1];rw[aqw q m h1];grind
 rw[key n (Nat.le_refl _),if_pos hq]
theorem UO {α:Type}{l:List α}(h:l.Nodup){i j:Nat}{hi:i<l.length}{hj:j<l.length}(e:l[i]=l[j]):i=j:=by
 have h2:=List.pairwise_iff_getElem.1 h;rcases Nat.lt_trichotomy i j with h1|h1|h1
 . exact absurd e (h2 i j hi hj h1)
 . exact h1
 . exact absurd e.symm (h2 j i hj hi h1)
abbrev jh:=List (List Nat×Dyadic)
def lI (g:List Nat->Dyadic):jh->Dyadic
 |[]=>0
 |p::ps=>p.2*g p.1+lI g ps
theorem ae6 (g:List Nat->Dyadic)(a b:jh):lI g (a++b)=lI g a+lI g b:=by
 induction a with
 |nil=>simp only[List.nil_append,lI];grind
 |cons p a ih=>simp only[List.cons_append,lI,ih];grind
theorem asT (g:List Nat->Dyadic)(r:Nat->List Nat)(c:Nat->Dyadic)(n:Nat):lI g ((List.range n).map λk=>(r k,c k))=sumTo (λk=>c k*g (r k)) n:=by
 induction n with
 |zero=>rfl
 |succ n ih=>rw[List.range_succ,List.map_append,ae6,ih,sumTo];simp only[List.map_cons,List.map_nil,lI];grind
theorem asS (g:List Nat->Dyadic)(P:Nat->jh)(n:Nat):lI g ((List.range n).flatMap P)=sumTo (λk=>lI g (P k)) n:=by
 induction n with
 |zero=>rfl
 |succ n ih=>rw[List.range_succ,List.flatMap_append,ae6,ih,sumTo];simp only[List.flatMap_cons,List.flatMap_nil,List.append_nil]
def delta (r x:List Nat):Dyadic:=if x=r then 1 else 0
def pK (ps:jh)(r:List Nat):Dyadic:=lI (delta r) ps
def mS (h:List Nat->Dyadic)(R:List (List Nat))(cs:List Dyadic):Dyadic:=sumTo (λk=>cs.getD k 0*h (R.getD k [])) R.length
theorem awH {g h:List Nat->Dyadic}(R:List (List Nat))(cs:List Dyadic)(hg:∀x∈R,g x=h x):mS g R cs=mS h R cs:=by refine sumTo_congr _ (λk hk=>?_);rw[hg _ (by simp[hk])]
theorem awG (h:List Nat->Dyadic)(R:List (List Nat))(hn:R.Nodup)(ps:jh)(hp:∀p∈ps,p.1∈R):mS h R (R.map (pK ps))=lI h ps:=by
 have e:mS h R (R.map (pK ps))=sumTo (λk=>pK ps (R.getD k []) *h (R.getD k [])) R.length:=by refine sumTo_congr _ (λk hk=>?_);simp[hk]
 rw[e];clear e;induction ps with
 |nil=>rw[sumTo_congr (g:=λ_=>0) _ (λk _=>by simp only[pK,lI];grind),avm];rfl
 | cons p ps ih=>
   rw[sumTo_congr (g:=λk=>p.2* (delta (R.getD k []) p.1*h (R.getD k []))+pK ps (R.getD k []) *h (R.getD k [])) _ (λk _=>by simp only[pK,lI];grind),afS,ih (λq hq=>hp q (by simp[hq])),afT];obtain⟨q,hq,DJ⟩:=List.mem_iff_getElem.1 (hp p zm)
   rw[avl _ q _ hq (λk hk hne=>by
    unfold delta;have:p.1≠R.getD k []:=by
     rw[<-DJ];have e1:R.getD k []=R[k]:=by simp[hk]
     rw[e1];intro e2;exact hne (UO hn e2).symm
    rw[if_neg this];grind)]
   have e1:R.getD q []=p.1:=by simp[hq,DJ]
   rw[e1];unfold delta;rw[if_pos rfl];simp only[lI];grind
theorem awF (h:List Nat->Dyadic)(R:List (List Nat))(cs ds:List Dyadic)(hl:cs.length=ds.length):mS h R (List.zipWith (·+·) cs ds)=mS h R cs+mS h R ds:=by
 unfold mS;rw[<-afS];refine sumTo_congr _ (λk _=>?_);have:(List.zipWith (·+·) cs ds).getD k 0=cs.getD k 0+ds.getD k 0:=by
  by_cases hk:k<cs.length
  . simp only[List.getD_eq_getElem?_getD,List.getElem?_zipWith];simp[hk,show k<ds.length by omega]
  . have h1:¬k<ds.length:=by omega
    have z:(0:Dyadic)+0=0:=by grind
    simp only[List.getD_eq_getElem?_getD,List.getElem?_zipWith];simp[hk,h1,z]
 rw[this];grind
def oH (R:List (List Nat))(ps:jh):List Dyadic:=R.map (pK ps)
theorem amP (R:List (List Nat))(ps:jh):(oH R ps).length=R.length:=by simp[oH]
theorem afU (x:List Nat)(k v:Nat)(hk:k<x.length):(x.set k v).sum+x.getD k 0=x.sum+v:=by
 induction x generalizing k with
 |nil=>simp at hk
 | cons a x ih=>
   cases k with
   |zero=>simp;omega
   |succ k=>have:=ih k (by simpa using hk);simp at this⊢;omega
theorem aoq (x:List Nat)(k:Nat):x.getD k 0<=x.sum:=by
 induction x generalizing k with
 |nil=>simp
 | cons a x ih=>
   cases k with
   |zero=>simp
   |succ k=>have:=ih k;simp at this⊢;omega
theorem ad2 (x:List Nat)(k:Nat)(hk:k<x.length):(kx x k).sum=x.sum+1:=by have:=afU x k (x.getD k 0+1) hk;unfold kx;omega
def VR (l:Nat->Dyadic)(g:List Nat->Dyadic)(x:List Nat):Dyadic:=sumTo (λk=>l k*g (kx x k)) x.length
def uB (x:List Nat)(c:Dyadic)(l:Nat->Dyadic):jh:=(List.range x.length).map λk=>(kx x k,c*l k)
def BN (R:List (List Nat))(cs:List Dyadic)(l:Nat->Dyadic):jh:=(List.range R.length).flatMap λk=>uB (R.getD k []) (cs.getD k 0) l
theorem Ve (g:List Nat->Dyadic)(R:List (List Nat))(cs:List Dyadic)(l:Nat->Dyadic):lI g (BN R cs l)=mS (VR l g) R cs:=by unfold BN;rw[asS];refine sumTo_congr _ (λk _=>?_);unfold uB;rw[asT];unfold VR;rw[<-afT];exact sumTo_congr _ (λt _=>by grind)
theorem af3 {R R':List (List Nat)}{cs:List Dyadic}{l:Nat->Dyadic}{n:Nat}(hn:∀x∈R,x.length=n)(h1:∀x∈R,∀k,k<n->kx x k∈R'):∀p∈BN R cs l,p.1∈R':=by
 intro p hp;unfold BN at hp;rw[List.mem_flatMap]at hp;obtain⟨k,hk,hp⟩:=hp;rw[List.mem_range]at hk;unfold uB at hp;rw[List.mem_map]at hp;obtain⟨t,ht,rfl⟩:=hp;rw[List.mem_range]at ht;have hm:R.getD k []∈R:=by simp[hk]
 exact h1 _ hm t (by rw[hn _ hm]at ht;exact ht)
end Go.Proofs.YtnjfebkelecgaaaGreatDoor
namespace Go.Proofs.YtnjfebkelecgaaaGreatDoor
open Go.RowKit
abbrev aR:=List UInt8×Raw
def aY (t:aR):List Value:=[ai t.1,ar t.2.1,ai t.2.2.1,ah t.2.2.2]
theorem At.term {w:World}{a:Option Addr}{ts:List aR}(h:At w a (ts.flatMap aY))(k:Nat)(hk:k<ts.length){l:List UInt8}{s:Bool}{m:List UInt8}{e:Int}(hx:ts[k]=(l,s,m,e)):
 ∃b o,a=some ⟨b,o,none⟩/\bY w b (o+k*4) [ai l,ar s,ai m,ah e]:=by
 obtain⟨b,o,hab,hcs⟩:=h.elem (f:=aY) (sz:=4) (λ_=>rfl) zd k hk;refine⟨b,o,hab,λj hj=>?_⟩;have:=hcs j hj;rw[hx]at this;rw[this];unfold aY;rw[List.getElem?_eq_getElem (by simpa using hj)]
def ym (V:Int)(l:List UInt8)(x:Raw):Bool:=eU l V&& !(dY (aM x)==0)&&(canon (aM x)==x)
def nj (V:Int)(ts:List aR)(k:Nat):Bool:=ym V (ts.getD k default).1 (ts.getD k default).2&&(k==0||Op.bytesLess (bs (ts.getD (k-1) default).1).toList (bs (ts.getD k default).1).toList)
def lK (V:Int)(ts:List aR):Int:=if ¬(0<=V/\V<=12)then 1 else if 4096<ts.length then 3 else if(List.range ts.length).all (nj V ts)then 0 else 1
end Go.Proofs.YtnjfebkelecgaaaGreatDoor
namespace Go.Proofs.YtnjfebkelecgaaaGreatDoor
open Go.RowKit
attribute [local go_sem ↓] Go.wp_at_zero Go.wp_at_succ
theorem UT (X:Dyadic)(s:Bool)(m:List UInt8)(e:Int)(b:Bool)(h:(canon X==(s,m,e))= !b)(w':World):
 (if aI (dN X)=s then if(bs (nt (dN X).natAbs)).toList=(bs m).toList then if dE X=e then Result.ok (Next.value (Value.bool false)) w' else Result.ok (Next.value (Value.bool true)) w' else Result.ok (Next.value (Value.bool true)) w' else Result.ok (Next.value (Value.bool true)) w')=Result.ok (Next.value (Value.bool b)) w':=by
 have ht:∀x y:List UInt8,(bs x).toList=(bs y).toList↔x=y:=λx y=>by rw[gm,gm]
 have hc:(canon X==(s,m,e))=decide (aI (dN X)=s/\nt (dN X).natAbs=m/\dE X=e):=by rw[Bool.eq_iff_iff];simp[canon]
 rw[hc]at h;simp only[ht];cases b with
 | false=>
   have h2:aI (dN X)=s/\nt (dN X).natAbs=m/\dE X=e:=by simpa using h
   rw[if_pos h2.1,if_pos h2.2.1,if_pos h2.2.2]
 | true=>
   have h2:¬(aI (dN X)=s/\nt (dN X).natAbs=m/\dE X=e):=by intro h3;rw[decide_eq_true h3]at h;cases h
   by_cases h3:aI (dN X)=s
   . rw[if_pos h3];by_cases h4:nt (dN X).natAbs=m
     . rw[if_pos h4,if_neg (λh5=>h2 ⟨h3,h4,h5⟩)]
     . rw[if_neg h4]
   . rw[if_neg h3]
theorem NI (V:Int)(a:Option Addr)(cap N:Nat)(ts:List aR)(w:World)(hN:ts.length=N)(hn:N<=1048576)(ha:At w a (ts.flatMap aY))(hl:∀t∈ts,t.1.length<=9223372036854775807/\Ok t.2)(hT:aO w):
 Calls Tryz.prog 41 #[.agg #[ah V,.slice a N cap]] w λe w'=>e=.returned (ah (lK V ts))/\Bw w w':=by
 obtain⟨Ha,Hl,HN,fM⟩:=eN ha hl hN hT;obtain⟨R,hR⟩:=aK (lK V ts);unfold lK at hR;rw[hN]at hR;rw[show lK V ts=R by unfold lK;rw[hN];exact hR];have HR:=aj hR;clear ha hl hN hR hT;obtain⟨W,dw,Hb,Hp⟩:=jT w 24 [ah V,.slice a N cap];obtain⟨p0,p1⟩:=Hp.out.c2;go_enter Tryz.func41,Tryz.ntmps41;go_wp2_with fail;refine(LI V _).mono ?_;rintro e w1 ⟨rfl,ag⟩;clear p0 p1;obtain⟨Hp,p0,p1⟩:=bi Hp ag;replace Hb:=aF Hb ag;clear ag;by_cases h1:0<=V/\V<=12
 . by_cases h2:4096<N
   . have h3:(4096:Int)<(N:Int):=by omega
     have hR:=HR.out;rw[if_neg (λh=>h h1),if_pos h2]at hR;clear HR;subst hR;go_wp2;exact bodyPost_ret (v:=ah 3) (by simp[results,Tryz.results41,go_sem]) rfl ⟨rfl,di⟩
   . have h3:¬(4096:Int)<(N:Int):=by omega
     have h3d:decide ((4096:Int)<(N:Int))=false:=by simp;omega
     have hR:Hid ((if(List.range N).all (nj V ts)then(0:Int)else 1)=R):=by
      show _=_
      have hR:=HR.out;rw[if_neg (λh=>h h1),if_neg h2]at hR;exact hR
     clear HR;obtain⟨cE,mY⟩:=aZ Hb.out Hp.out;clear Hb Hp p0 p1;have p0:w1.cell? ⟨w.heap.size,0,none⟩=some (ah V):=mY.out.cell 0;have p1:w1.cell? ⟨w.heap.size,1,none⟩=some (.slice a N cap):=mY.out.cell 1;go_wp2_with fail;go_loopw[16] (λx wr=>∃k:Nat,k<=N/\x=ah (k:Int)/\(List.range k).all (nj V ts)=true/\aC wr w.heap.size 24 [ah V,.slice a N cap]/\Bw w wr) (λx _=>N-(intOf x).toNat);case atStart=>exact⟨0,Nat.zero_le _,rfl,rfl,mY.out,cE.out⟩
     case round=>
      clear cE mY p0 p1;obtain⟨k,hk,rfl,jv,ke,pb⟩:=hrel;by_cases hlt:k<N
      . have hk2:k<ts.length:=by rw[HN.out];exact hlt
        obtain⟨l,s,m,e,hx⟩:∃l s m e,ts[k]=(l,s,m,e):=⟨_,_,_,_,rfl⟩;obtain⟨b,o,hab,cw⟩:=(Ha.out.below pb).term k hk2 hx;have hl2:l.length<=9223372036854775807/\Ok (s,m,e):=by have:=Hl.out _ (List.getElem_mem hk2);rw[hx]at this;exact this
        have egd:ts.getD k default=(l,s,m,e):=by simp[hk2,hx]
        have hgn:(List.range (k+1)).all (nj V ts)=nj V ts k:=by rw[List.range_succ,List.all_append,jv];simp
        have hbad:nj V ts k=false->R=1:=by intro h;rw[<-hR.out,if_neg];intro h5;rw[List.all_eq_true]at h5;have:=h5 k (List.mem_range.2 hlt);rw[h]at this;cases this
        have lD:nj V ts k=(ym V l (s,m,e)&&(k==0||Op.bytesLess (bs (ts.getD (k-1) default).1).toList (bs l).toList)):=by unfold nj;rw[egd]
        have bK:=im N cap k (k:Int) hab hlt rfl;obtain⟨X,hX⟩:=aK (aM (s,m,e));obtain⟨sg,kQ⟩:=aK (dY X);have hgt:ym V l (s,m,e)=(eU l V&& !(sg==0)&&(canon X==(s,m,e))):=by unfold ym;rw[hX,kQ]
        rw[hgt]at lD;obtain⟨YO,mX,bj,qR,XS,Ka,HX⟩:=lG cw hl2 pb lD hgn hbad hX;have qW:Hid (dY (aM (s,m,e))=sg):=by show _=_;rw[hX];exact kQ
        have Hp:=aj ke;have HU:Hid (aO wr):=fM.out.below pb;clear cw hl2 lD hgn hbad hX kQ hgt egd ke hx;have qJ:=aj hab;clear hab;have Hb:Hid (Bw wr wr):=Below.refl _ _;have sz:=pb.size;have jH:Hid (bY wr b (o+k*4) [ai l,ar s,ai m,ah e]):=YO.out;obtain⟨p0,p1⟩:=Hp.out.c2;obtain⟨nZ,oc,od,og⟩:=jH.out.w4;have HU:Hid (aO wr):=HU.out;have P0:=nZ;have P1:=oc;have P2:=od;have P3:=og;have aer:=Hp.out.lt;obtain⟨W4,rp,ag,Ht⟩:=cF wr 67 [ai l,ar s,ai m,ah e];clear p0 p1;replace Hp:=kB Hp ag;clear nZ oc od og;replace jH:=kW jH ag;replace HU:=kT HU ag;obtain⟨p0,p1⟩:=Hp.out.c2;obtain⟨nZ,oc,od,og⟩:=jH.out.w4;obtain⟨t0,t1,t2,t3⟩:=Ht.out.c4;replace Hb:=aF Hb ag;clear ag nZ oc od og jH YO;cases hmv:eU l V with
        | false=>
          have hr:=Ka.out (by rw[qR.out,hmv];rfl);subst hr;have oV:=λW=>Ea l V W (by have:=mX.out.1;omega);rw[hmv]at oV;have lU:=aj oV;clear oV;go_wp2_with fail;refine cg (λw'=>aH w' (w.heap.size) 0 (ah V)/\aH w' (w.heap.size) 1 (.slice a N cap)/\aH w' (wr.heap.size) 0 (ai l)/\aH w' (wr.heap.size) 1 (ar s)/\aH w' (wr.heap.size) 2 (ai m)/\aH w' (wr.heap.size) 3 (ah e)) (λi=>Nat.blt i 100000) [(0,true),(1,true),(2,true),(3,true),(4,false),(5,true),(6,true),(7,true),(8,true),(9,false),(10,true),(11,true),(12,true),(13,true),(14,true),(16,true),(17,true),(15,false),(18,true),(19,true),(20,true),(21,true),(22,true),(23,true),(24,true),(25,true),(26,true),(27,true),(28,true),(29,true),(30,true),(31,true),(32,true),(33,true),(34,true),(35,true)] zk zk rfl zk zc ⟨p0,p1,t0,t1,t2,t3⟩ ?_;iterate 4 (refine pT rfl rfl ?_ (by intro w' ⟨q0,q1,q2,q3,q4,q5⟩;go_simp;try with_reducible rfl);try simp only[UU])
          refine aW rfl rfl (λK hK=>?_);go_simp;with_reducible refine(lU.out _).mono ?_
          rintro e w5 ⟨rfl,hq⟩;have ag:Bw W4 w5:=by first|exact hq|exact bo hq
          clear p0 p1 t0 t1 t2 t3;obtain⟨Hp,p0,p1⟩:=bi Hp ag;replace HU:=kT HU ag;obtain⟨Ht,t0,t1,t2,t3⟩:=dK Ht ag;replace Hb:=aF Hb ag;clear ag;refine hK _ _ (λ_=>⟨p0,p1,t0,t1,t2,t3⟩) ?_;clear hK K;try simp only[UU]
          iterate 2 (refine pT rfl rfl ?_;try simp only[UU])
          refine bQ rfl rfl ?_;try simp only[UU]
          refine bQ rfl rfl ?_;try simp only[UU]
          refine Vl rfl rfl (λ_=>⟨p0,p1,t0,t1,t2,t3⟩) ?_;try simp only[UU]
          refine bQ rfl rfl ?_;try simp only[UU]
          iterate 2 (refine pT rfl rfl ?_;try simp only[UU])
          refine bQ rfl rfl ?_;try simp only[UU]
          refine bQ rfl rfl ?_;try simp only[UU]
          refine bQ rfl rfl ?_;try simp only[UU]
          refine bQ rfl rfl ?_;try simp only[UU]
          refine Vl rfl rfl (λ_=>⟨p0,p1,t0,t1,t2,t3⟩) ?_;try simp only[UU]
          refine bQ rfl rfl ?_;try simp only[UU]
          iterate 2 (refine pT rfl rfl ?_;try simp only[UU])
          refine bQ rfl rfl ?_;try simp only[UU]
          refine bQ rfl rfl ?_;try simp only[UU]
          refine bQ rfl rfl ?_;try simp only[UU]
          refine bQ rfl rfl ?_;try simp only[UU]
          refine bQ rfl rfl ?_;try simp only[UU]
          refine bQ rfl rfl ?_;try simp only[UU]
          refine bQ rfl rfl ?_;try simp only[UU]
          refine bQ rfl rfl ?_;try simp only[UU]
          refine bQ rfl rfl ?_;try simp only[UU]
          refine bQ rfl rfl ?_;try simp only[UU]
          refine bQ rfl rfl ?_;try simp only[UU]
          refine bQ rfl rfl ?_;try simp only[UU]
          refine bQ rfl rfl ?_;try simp only[UU]
          refine bQ rfl rfl ?_;try simp only[UU]
          refine pT rfl rfl ?_;try simp only[UU]
          simp only[bD];go_wp2;refine bodyPost_ret (results_tmp rfl _ _ _) rfl ⟨rfl,aV bj.out Hb.out⟩
        | true=>
          have oV:=λW=>Ea l V W (by have:=mX.out.1;omega);rw[hmv]at oV;have lU:=aj oV;clear oV;by_cases hs0:sg=0
          . have hr:=Ka.out (by rw[qR.out,hmv,hs0];rfl);subst hr hs0;go_wp2_with fail;refine cg (λw'=>aH w' (w.heap.size) 0 (ah V)/\aH w' (w.heap.size) 1 (.slice a N cap)/\aH w' (wr.heap.size) 0 (ai l)/\aH w' (wr.heap.size) 1 (ar s)/\aH w' (wr.heap.size) 2 (ai m)/\aH w' (wr.heap.size) 3 (ah e)) (λi=>Nat.blt i 100000) [(0,true),(1,true),(2,true),(3,true),(4,false),(5,true),(6,true),(7,true),(8,true),(9,false),(10,true),(11,true),(12,true),(13,true),(14,true),(16,true),(17,true),(15,false),(18,true),(19,true),(20,true),(21,true),(22,true),(23,true),(24,true),(25,true),(26,true),(27,true),(28,true),(29,true),(30,true),(31,true),(32,true),(33,true),(34,true),(35,true)] zk zk rfl zk zc ⟨p0,p1,t0,t1,t2,t3⟩ ?_;iterate 4 (refine pT rfl rfl ?_ (by intro w' ⟨q0,q1,q2,q3,q4,q5⟩;go_simp;try with_reducible rfl);try simp only[UU])
            refine aW rfl rfl (λK hK=>?_);go_simp;with_reducible refine(lU.out _).mono ?_
            rintro e w5 ⟨rfl,hq⟩;have ag:Bw W4 w5:=by first|exact hq|exact bo hq
            clear p0 p1 t0 t1 t2 t3;obtain⟨Hp,p0,p1⟩:=bi Hp ag;replace HU:=kT HU ag;obtain⟨Ht,t0,t1,t2,t3⟩:=dK Ht ag;replace Hb:=aF Hb ag;clear ag;refine hK _ _ (λ_=>⟨p0,p1,t0,t1,t2,t3⟩) ?_;clear hK K;try simp only[UU]
            iterate 4 (refine pT rfl rfl ?_ (by intro w' ⟨q0,q1,q2,q3,q4,q5⟩;go_simp;try with_reducible rfl);try simp only[UU])
            refine aW rfl rfl (λK hK=>?_);go_simp;with_reducible refine(uZ s m e 0 qW.out _ mX.out.2).mono ?_
            rintro e w6 ⟨rfl,hq⟩;have ag:Bw w5 w6:=by first|exact hq|exact bo hq
            clear p0 p1 t0 t1 t2 t3;obtain⟨Hp,p0,p1⟩:=bi Hp ag;replace HU:=kT HU ag;obtain⟨Ht,t0,t1,t2,t3⟩:=dK Ht ag;replace Hb:=aF Hb ag;clear ag;refine hK _ _ (λ_=>⟨p0,p1,t0,t1,t2,t3⟩) ?_;clear hK K;try simp only[UU]
            iterate 3 (refine pT rfl rfl ?_;try simp only[UU])
            refine bQ rfl rfl ?_;try simp only[UU]
            refine bQ rfl rfl ?_;try simp only[UU]
            refine bQ rfl rfl ?_;try simp only[UU]
            refine bQ rfl rfl ?_;try simp only[UU]
            refine Vl rfl rfl (λ_=>⟨p0,p1,t0,t1,t2,t3⟩) ?_;try simp only[UU]
            refine bQ rfl rfl ?_;try simp only[UU]
            iterate 2 (refine pT rfl rfl ?_;try simp only[UU])
            refine bQ rfl rfl ?_;try simp only[UU]
            refine bQ rfl rfl ?_;try simp only[UU]
            refine bQ rfl rfl ?_;try simp only[UU]
            refine bQ rfl rfl ?_;try simp only[UU]
            refine bQ rfl rfl ?_;try simp only[UU]
            refine bQ rfl rfl ?_;try simp only[UU]
            refine bQ rfl rfl ?_;try simp only[UU]
            refine bQ rfl rfl ?_;try simp only[UU]
            refine bQ rfl rfl ?_;try simp only[UU]
            refine bQ rfl rfl ?_;try simp only[UU]
            refine bQ rfl rfl ?_;try simp only[UU]
            refine bQ rfl rfl ?_;try simp only[UU]
            refine bQ rfl rfl ?_;try simp only[UU]
            refine bQ rfl rfl ?_;try simp only[UU]
            refine pT rfl rfl ?_;try simp only[UU]
            simp only[bD];go_wp2;refine bodyPost_ret (results_tmp rfl _ _ _) rfl ⟨rfl,aV bj.out Hb.out⟩
          . have hs1:(sg==0)=false:=by simpa using hs0
            by_cases hc:canon X=(s,m,e)
            . have hcb:(canon X==(s,m,e))=true:=by simpa using hc
              have hne:=UT X s m e false hcb;clear hc;by_cases mB:k=0
              . have hg:=qR.out;rw[hmv,hs1,hcb,mB]at hg;have Pm:Hid ((List.range (k+1)).all (nj V ts)=true):=by show _=_;rw[XS.out,mB,hg];rfl
                have hk1:decide (0<k)=false:=by simp;omega
                clear hg hcb mB;go_wp2_with fail;refine cg (λw'=>aH w' (w.heap.size) 0 (ah V)/\aH w' (w.heap.size) 1 (.slice a N cap)/\aH w' (wr.heap.size) 0 (ai l)/\aH w' (wr.heap.size) 1 (ar s)/\aH w' (wr.heap.size) 2 (ai m)/\aH w' (wr.heap.size) 3 (ah e)) (λi=>Nat.blt i 100000) [(0,true),(1,true),(2,true),(3,true),(4,false),(5,true),(6,true),(7,true),(8,true),(9,false),(10,true),(11,true),(12,true),(13,true),(14,true),(16,true),(17,true),(15,false),(18,true),(19,true),(20,true),(21,true),(22,true),(23,true),(24,true),(25,true),(26,true),(27,true),(28,true),(29,true),(30,true),(31,true),(32,true),(33,true),(34,true),(35,true)] zk zk rfl zk zc ⟨p0,p1,t0,t1,t2,t3⟩ ?_;iterate 4 (refine pT rfl rfl ?_ (by intro w' ⟨q0,q1,q2,q3,q4,q5⟩;go_simp;try with_reducible rfl);try simp only[UU])
                refine aW rfl rfl (λK hK=>?_);go_simp;with_reducible refine(lU.out _).mono ?_
                rintro e w5 ⟨rfl,hq⟩;have ag:Bw W4 w5:=by first|exact hq|exact bo hq
                clear p0 p1 t0 t1 t2 t3;obtain⟨Hp,p0,p1⟩:=bi Hp ag;replace HU:=kT HU ag;obtain⟨Ht,t0,t1,t2,t3⟩:=dK Ht ag;replace Hb:=aF Hb ag;clear ag;refine hK _ _ (λ_=>⟨p0,p1,t0,t1,t2,t3⟩) ?_;clear hK K;try simp only[UU]
                iterate 4 (refine pT rfl rfl ?_ (by intro w' ⟨q0,q1,q2,q3,q4,q5⟩;go_simp;try with_reducible rfl);try simp only[UU])
                refine aW rfl rfl (λK hK=>?_);go_simp;with_reducible refine(uZ s m e sg qW.out _ mX.out.2).mono ?_
                rintro e w6 ⟨rfl,hq⟩;have ag:Bw w5 w6:=by first|exact hq|exact bo hq
                clear p0 p1 t0 t1 t2 t3;obtain⟨Hp,p0,p1⟩:=bi Hp ag;replace HU:=kT HU ag;obtain⟨Ht,t0,t1,t2,t3⟩:=dK Ht ag;replace Hb:=aF Hb ag;clear ag;refine hK _ _ (λ_=>⟨p0,p1,t0,t1,t2,t3⟩) ?_;clear hK K;try simp only[UU]
                iterate 7 (refine pT rfl rfl ?_ (by intro w' ⟨q0,q1,q2,q3,q4,q5⟩;go_simp;try with_reducible rfl);try simp only[UU])
                refine aW rfl rfl (λK hK=>?_);go_simp;with_reducible refine(se s m e X HX.out _ mX.out.2 (by first|exact HU.out|exact aO.drew HU.out|exact aO.alloc HU.out _|exact aO.drew (aO.alloc HU.out _) |exact aO.alloc (aO.drew HU.out) _)).mono ?_
                rintro e w7 ⟨rfl,hq⟩;have ag:Bw w6 w7:=by first|exact hq|exact bo hq
                clear p0 p1 t0 t1 t2 t3;obtain⟨Hp,p0,p1⟩:=bi Hp ag;replace HU:=kT HU ag;obtain⟨Ht,t0,t1,t2,t3⟩:=dK Ht ag;replace Hb:=aF Hb ag;clear ag;refine hK _ _ (λ_=>⟨p0,p1,t0,t1,t2,t3⟩) ?_;clear hK K;try simp only[UU]
                iterate 6 (refine pT rfl rfl ?_;try simp only[UU])
                refine bQ rfl rfl ?_;try simp only[UU]
                refine bQ rfl rfl ?_;try simp only[UU]
                refine bQ rfl rfl ?_;try simp only[UU]
                refine bQ rfl rfl ?_;try simp only[UU]
                refine bQ rfl rfl ?_;try simp only[UU]
                refine bQ rfl rfl ?_;try simp only[UU]
                refine bQ rfl rfl ?_;try simp only[UU]
                refine bQ rfl rfl ?_;try simp only[UU]
                refine bQ rfl rfl ?_;try simp only[UU]
                refine bQ rfl rfl ?_;try simp only[UU]
                iterate 2 (refine pT rfl rfl ?_;try simp only[UU])
                simp only[bD];go_wp2;go_roundw;case rel=>exact⟨k+1,by omega,by go_num,Pm.out,Hp.out,aV bj.out Hb.out⟩
                case measure=>simp[intOf];omega
              . have vz:k-1<ts.length:=by omega
                obtain⟨l',s',m',e',hx'⟩:∃l s m e,ts[k-1]=(l,s,m,e):=⟨_,_,_,_,rfl⟩;obtain⟨b',o',rq,mF⟩:=(Ha.out.below (aV bj.out Hb.out)).term (k-1) vz hx';have hab:=qJ.out;rw[hab]at rq;simp only[Option.some.injEq,Addr.mk.injEq,and_true]at rq;obtain⟨rfl,rfl⟩:=rq;have egp:ts.getD (k-1) default=(l',s',m',e'):=by simp[vz,hx']
                have hg:=qR.out;rw[egp,hmv,hs1,hcb]at hg;have acJ:(k==0)=false:=by simpa using mB
                rw[acJ]at hg;have hk1:decide (0<k)=true:=by simp;omega
                have Tn:IntKind.i64.wrap ((k:Int)-1)=((k-1:Nat):Int):=by rw[IntKind.wrap_i64];omega
                have Tg:=im N cap (k-1) ((k-1:Nat):Int) hab zo rfl;obtain⟨kp,Dx⟩:=aK (k-1);rw[Dx]at Tg Tn mF;have apA:kp<N:=by omega
                have fc:Hid (bY W4 b (o+kp*4) [ai l',ar s',ai m',ah e']):=mF;have aw7:=aj Dx;clear mF mB acJ hcb egp hx' Dx hab;cases vB:Op.bytesLess (bs l').toList (bs l).toList with
                | true=>
                  have Pm:Hid ((List.range (k+1)).all (nj V ts)=true):=by show _=_;rw[XS.out,hg];simpa using vB
                  clear hg;go_wp2_with fail;obtain⟨p0,p1⟩:=Hp.out.c2;obtain⟨t0,t1,t2,t3⟩:=Ht.out.c4;have jB:W4.cell? ⟨b,o+kp*4,none⟩=some (ai l'):=fc.out.cell 0 zm;have HU:Hid (aO W4):=HU.out;refine cg (λw'=>aH w' (w.heap.size) 0 (ah V)/\aH w' (w.heap.size) 1 (.slice a N cap)/\aH w' (wr.heap.size) 0 (ai l)/\aH w' (wr.heap.size) 1 (ar s)/\aH w' (wr.heap.size) 2 (ai m)/\aH w' (wr.heap.size) 3 (ah e)/\aH w' b (o+kp*4) (ai l')) (λi=>Nat.blt i 100000) [(0,true),(1,true),(2,true),(3,true),(4,false),(5,true),(6,true),(7,true),(8,true),(9,false),(10,true),(11,true),(12,true),(13,true),(14,true),(16,true),(17,true),(15,false),(18,true),(19,true),(20,true),(21,true),(22,true),(23,true),(24,true),(25,true),(26,true),(27,true),(28,true),(29,true),(30,true),(31,true),(32,true),(33,true),(34,true),(35,true)] zk zk rfl zk zc ⟨p0,p1,t0,t1,t2,t3,jB⟩ ?_;iterate 4 (refine pT rfl rfl ?_ (by intro w' ⟨q0,q1,q2,q3,q4,q5,q6⟩;go_simp;try with_reducible rfl);try simp only[UU])
                  refine aW rfl rfl (λK hK=>?_);go_simp;with_reducible refine(lU.out _).mono ?_
                  rintro e w5 ⟨rfl,hq⟩;have ag:Bw W4 w5:=by first|exact hq|exact bo hq
                  clear p0 p1 t0 t1 t2 t3 jB;obtain⟨Hp,p0,p1⟩:=bi Hp ag;obtain⟨Ht,t0,t1,t2,t3⟩:=dK Ht ag;replace fc:=kW fc ag;replace HU:=kT HU ag;have jB:w5.cell? ⟨b,o+kp*4,none⟩=some (ai l'):=fc.out.cell 0 zm;replace Hb:=aF Hb ag;clear ag;refine hK _ _ (λ_=>⟨p0,p1,t0,t1,t2,t3,jB⟩) ?_;clear hK K;try simp only[UU]
                  iterate 4 (refine pT rfl rfl ?_ (by intro w' ⟨q0,q1,q2,q3,q4,q5,q6⟩;go_simp;try with_reducible rfl);try simp only[UU])
                  refine aW rfl rfl (λK hK=>?_);go_simp;with_reducible refine(uZ s m e sg qW.out _ mX.out.2).mono ?_
                  rintro e w6 ⟨rfl,hq⟩;have ag:Bw w5 w6:=by first|exact hq|exact bo hq
                  clear p0 p1 t0 t1 t2 t3 jB;obtain⟨Hp,p0,p1⟩:=bi Hp ag;obtain⟨Ht,t0,t1,t2,t3⟩:=dK Ht ag;replace fc:=kW fc ag;replace HU:=kT HU ag;have jB:w6.cell? ⟨b,o+kp*4,none⟩=some (ai l'):=fc.out.cell 0 zm;replace Hb:=aF Hb ag;clear ag;refine hK _ _ (λ_=>⟨p0,p1,t0,t1,t2,t3,jB⟩) ?_;clear hK K;try simp only[UU]
                  iterate 7 (refine pT rfl rfl ?_ (by intro w' ⟨q0,q1,q2,q3,q4,q5,q6⟩;go_simp;try with_reducible rfl);try simp only[UU])
                  refine aW rfl rfl (λK hK=>?_);go_simp;with_reducible refine(se s m e X HX.out _ mX.out.2 (by first|exact HU.out|exact aO.drew HU.out|exact aO.alloc HU.out _|exact aO.drew (aO.alloc HU.out _) |exact aO.alloc (aO.drew HU.out) _)).mono ?_
                  rintro e w7 ⟨rfl,hq⟩;have ag:Bw w6 w7:=by first|exact hq|exact bo hq
                  clear p0 p1 t0 t1 t2 t3 jB;obtain⟨Hp,p0,p1⟩:=bi Hp ag;obtain⟨Ht,t0,t1,t2,t3⟩:=dK Ht ag;replace fc:=kW fc ag;replace HU:=kT HU ag;have jB:w7.cell? ⟨b,o+kp*4,none⟩=some (ai l'):=fc.out.cell 0 zm;replace Hb:=aF Hb ag;clear ag;refine hK _ _ (λ_=>⟨p0,p1,t0,t1,t2,t3,jB⟩) ?_;clear hK K;try simp only[UU]
                  iterate 18 (refine pT rfl rfl ?_ (by intro w' ⟨q0,q1,q2,q3,q4,q5,q6⟩;go_simp;try with_reducible rfl);try simp only[UU])
                  simp only[bD];go_wp2;go_roundw;case rel=>exact⟨k+1,by omega,by go_num,Pm.out,Hp.out,aV bj.out Hb.out⟩
                  case measure=>simp[intOf];omega
                | false=>
                  have hr:=Ka.out (by rw[hg];simpa using vB);subst hr;clear hg;go_wp2_with fail;obtain⟨p0,p1⟩:=Hp.out.c2;obtain⟨t0,t1,t2,t3⟩:=Ht.out.c4;have jB:W4.cell? ⟨b,o+kp*4,none⟩=some (ai l'):=fc.out.cell 0 zm;have HU:Hid (aO W4):=HU.out;refine cg (λw'=>aH w' (w.heap.size) 0 (ah V)/\aH w' (w.heap.size) 1 (.slice a N cap)/\aH w' (wr.heap.size) 0 (ai l)/\aH w' (wr.heap.size) 1 (ar s)/\aH w' (wr.heap.size) 2 (ai m)/\aH w' (wr.heap.size) 3 (ah e)/\aH w' b (o+kp*4) (ai l')) (λi=>Nat.blt i 100000) [(0,true),(1,true),(2,true),(3,true),(4,false),(5,true),(6,true),(7,true),(8,true),(9,false),(10,true),(11,true),(12,true),(13,true),(14,true),(16,true),(17,true),(15,false),(18,true),(19,true),(20,true),(21,true),(22,true),(23,true),(24,true),(25,true),(26,true),(27,true),(28,true),(29,true),(30,true),(31,true),(32,true),(33,true),(34,true),(35,true)] zk zk rfl zk zc ⟨p0,p1,t0,t1,t2,t3,jB⟩ ?_;iterate 4 (refine pT rfl rfl ?_ (by intro w' ⟨q0,q1,q2,q3,q4,q5,q6⟩;go_simp;try with_reducible rfl);try simp only[UU])
                  refine aW rfl rfl (λK hK=>?_);go_simp;with_reducible refine(lU.out _).mono ?_
                  rintro e w5 ⟨rfl,hq⟩;have ag:Bw W4 w5:=by first|exact hq|exact bo hq
                  clear p0 p1 t0 t1 t2 t3 jB;obtain⟨Hp,p0,p1⟩:=bi Hp ag;obtain⟨Ht,t0,t1,t2,t3⟩:=dK Ht ag;replace fc:=kW fc ag;replace HU:=kT HU ag;have jB:w5.cell? ⟨b,o+kp*4,none⟩=some (ai l'):=fc.out.cell 0 zm;replace Hb:=aF Hb ag;clear ag;refine hK _ _ (λ_=>⟨p0,p1,t0,t1,t2,t3,jB⟩) ?_;clear hK K;try simp only[UU]
                  iterate 4 (refine pT rfl rfl ?_ (by intro w' ⟨q0,q1,q2,q3,q4,q5,q6⟩;go_simp;try with_reducible rfl);try simp only[UU])
                  refine aW rfl rfl (λK hK=>?_);go_simp;with_reducible refine(uZ s m e sg qW.out _ mX.out.2).mono ?_
                  rintro e w6 ⟨rfl,hq⟩;have ag:Bw w5 w6:=by first|exact hq|exact bo hq
                  clear p0 p1 t0 t1 t2 t3 jB;obtain⟨Hp,p0,p1⟩:=bi Hp ag;obtain⟨Ht,t0,t1,t2,t3⟩:=dK Ht ag;replace fc:=kW fc ag;replace HU:=kT HU ag;have jB:w6.cell? ⟨b,o+kp*4,none⟩=some (ai l'):=fc.out.cell 0 zm;replace Hb:=aF Hb ag;clear ag;refine hK _ _ (λ_=>⟨p0,p1,t0,t1,t2,t3,jB⟩) ?_;clear hK K;try simp only[UU]
                  iterate 7 (refine pT rfl rfl ?_ (by intro w' ⟨q0,q1,q2,q3,q4,q5,q6⟩;go_simp;try with_reducible rfl);try simp only[UU])
                  refine aW rfl rfl (λK hK=>?_);go_simp;with_reducible refine(se s m e X HX.out _ mX.out.2 (by first|exact HU.out|exact aO.drew HU.out|exact aO.alloc HU.out _|exact aO.drew (aO.alloc HU.out _) |exact aO.alloc (aO.drew HU.out) _)).mono ?_
                  rintro e w7 ⟨rfl,hq⟩;have ag:Bw w6 w7:=by first|exact hq|exact bo hq
                  clear p0 p1 t0 t1 t2 t3 jB;obtain⟨Hp,p0,p1⟩:=bi Hp ag;obtain⟨Ht,t0,t1,t2,t3⟩:=dK Ht ag;replace fc:=kW fc ag;replace HU:=kT HU ag;have jB:w7.cell? ⟨b,o+kp*4,none⟩=some (ai l'):=fc.out.cell 0 zm;replace Hb:=aF Hb ag;clear ag;refine hK _ _ (λ_=>⟨p0,p1,t0,t1,t2,t3,jB⟩) ?_;clear hK K;try simp only[UU]
                  iterate 18 (refine pT rfl rfl ?_ (by intro w' ⟨q0,q1,q2,q3,q4,q5,q6⟩;go_simp;try with_reducible rfl);try simp only[UU])
                  simp only[bD];go_wp2;refine bodyPost_ret (results_tmp rfl _ _ _) rfl ⟨rfl,aV bj.out Hb.out⟩
            . have hr:=Ka.out (by
               rw[qR.out,hmv,hs1];have:(canon X==(s,m,e))=false:=by simpa using hc
               rw[this];rfl)
              subst hr;have hne:=UT X s m e true (by simpa using hc);clear hc;go_wp2_with fail;refine cg (λw'=>aH w' (w.heap.size) 0 (ah V)/\aH w' (w.heap.size) 1 (.slice a N cap)/\aH w' (wr.heap.size) 0 (ai l)/\aH w' (wr.heap.size) 1 (ar s)/\aH w' (wr.heap.size) 2 (ai m)/\aH w' (wr.heap.size) 3 (ah e)) (λi=>Nat.blt i 100000) [(0,true),(1,true),(2,true),(3,true),(4,false),(5,true),(6,true),(7,true),(8,true),(9,false),(10,true),(11,true),(12,true),(13,true),(14,true),(16,true),(17,true),(15,false),(18,true),(19,true),(20,true),(21,true),(22,true),(23,true),(24,true),(25,true),(26,true),(27,true),(28,true),(29,true),(30,true),(31,true),(32,true),(33,true),(34,true),(35,true)] zk zk rfl zk zc ⟨p0,p1,t0,t1,t2,t3⟩ ?_;iterate 4 (refine pT rfl rfl ?_ (by intro w' ⟨q0,q1,q2,q3,q4,q5⟩;go_simp;try with_reducible rfl);try simp only[UU])
              refine aW rfl rfl (λK hK=>?_);go_simp;with_reducible refine(lU.out _).mono ?_
              rintro e w5 ⟨rfl,hq⟩;have ag:Bw W4 w5:=by first|exact hq|exact bo hq
              clear p0 p1 t0 t1 t2 t3;obtain⟨Hp,p0,p1⟩:=bi Hp ag;replace HU:=kT HU ag;obtain⟨Ht,t0,t1,t2,t3⟩:=dK Ht ag;replace Hb:=aF Hb ag;clear ag;refine hK _ _ (λ_=>⟨p0,p1,t0,t1,t2,t3⟩) ?_;clear hK K;try simp only[UU]
              iterate 4 (refine pT rfl rfl ?_ (by intro w' ⟨q0,q1,q2,q3,q4,q5⟩;go_simp;try with_reducible rfl);try simp only[UU])
              refine aW rfl rfl (λK hK=>?_);go_simp;with_reducible refine(uZ s m e sg qW.out _ mX.out.2).mono ?_
              rintro e w6 ⟨rfl,hq⟩;have ag:Bw w5 w6:=by first|exact hq|exact bo hq
              clear p0 p1 t0 t1 t2 t3;obtain⟨Hp,p0,p1⟩:=bi Hp ag;replace HU:=kT HU ag;obtain⟨Ht,t0,t1,t2,t3⟩:=dK Ht ag;replace Hb:=aF Hb ag;clear ag;refine hK _ _ (λ_=>⟨p0,p1,t0,t1,t2,t3⟩) ?_;clear hK K;try simp only[UU]
              iterate 7 (refine pT rfl rfl ?_ (by intro w' ⟨q0,q1,q2,q3,q4,q5⟩;go_simp;try with_reducible rfl);try simp only[UU])
              refine aW rfl rfl (λK hK=>?_);go_simp;with_reducible refine(se s m e X HX.out _ mX.out.2 (by first|exact HU.out|exact aO.drew HU.out|exact aO.alloc HU.out _|exact aO.drew (aO.alloc HU.out _) |exact aO.alloc (aO.drew HU.out) _)).mono ?_
              rintro e w7 ⟨rfl,hq⟩;have ag:Bw w6 w7:=by first|exact hq|exact bo hq
              clear p0 p1 t0 t1 t2 t3;obtain⟨Hp,p0,p1⟩:=bi Hp ag;replace HU:=kT HU ag;obtain⟨Ht,t0,t1,t2,t3⟩:=dK Ht ag;replace Hb:=aF Hb ag;clear ag;refine hK _ _ (λ_=>⟨p0,p1,t0,t1,t2,t3⟩) ?_;clear hK K;try simp only[UU]
              iterate 3 (refine pT rfl rfl ?_;try simp only[UU])
              refine bQ rfl rfl ?_;try simp only[UU]
              refine bQ rfl rfl ?_;try simp only[UU]
              refine bQ rfl rfl ?_;try simp only[UU]
              refine bQ rfl rfl ?_;try simp only[UU]
              refine bQ rfl rfl ?_;try simp only[UU]
              refine bQ rfl rfl ?_;try simp only[UU]
              refine bQ rfl rfl ?_;try simp only[UU]
              refine bQ rfl rfl ?_;try simp only[UU]
              refine bQ rfl rfl ?_;try simp only[UU]
              refine bQ rfl rfl ?_;try simp only[UU]
              refine bQ rfl rfl ?_;try simp only[UU]
              refine bQ rfl rfl ?_;try simp only[UU]
              refine bQ rfl rfl ?_;try simp only[UU]
              refine bQ rfl rfl ?_;try simp only[UU]
              refine pT rfl rfl ?_;try simp only[UU]
              simp only[bD];go_wp2;refine bodyPost_ret (results_tmp rfl _ _ _) rfl ⟨rfl,aV bj.out Hb.out⟩
      . obtain rfl:k=N:=by omega
        have hr:R=0:=by rw[<-hR.out,if_pos jv]
        subst hr;go_wp2;refine bodyPost_ret (results_tmp rfl _ _ _) rfl ⟨rfl,pb⟩
 . have hR:=HR.out;rw[if_pos h1]at hR;clear HR;subst hR;go_wp2;exact bodyPost_ret (v:=ah 1) (by simp[results,Tryz.results41,go_sem]) rfl ⟨rfl,di⟩
end Go.Proofs.YtnjfebkelecgaaaGreatDoor
namespace Go.Proofs.YtnjfebkelecgaaaGreatDoor
theorem CI (a:List UInt8):Op.bytesLess a a=false:=by
 induction a with
 |nil=>rfl
 |cons x a ih=>simp[Op.bytesLess,ih]
theorem CJ {a b c:List UInt8}(h:Op.bytesLess a b=true)(k:Op.bytesLess b c=true):Op.bytesLess a c=true:=by
 induction a generalizing b c with
 | nil=>
   cases c with
   |nil=>cases b<;>simp[Op.bytesLess]at k
   |cons z c=>simp[Op.bytesLess]
 | cons x a ih=>
   cases b with
   |nil=>simp[Op.bytesLess]at h
   | cons y b=>
     cases c with
     |nil=>simp[Op.bytesLess]at k
     | cons z c=>
       simp only[Op.bytesLess,Bool.or_eq_true,Bool.and_eq_true,decide_eq_true_eq,beq_iff_eq]at h k⊢;rcases h with h|⟨rfl,h⟩
       . rcases k with k|⟨rfl,k⟩
         . exact .inl (UInt8.lt_trans h k)
         . exact .inl h
       . rcases k with k|⟨rfl,k⟩
         . exact .inl k
         . exact .inr ⟨rfl,ih h k⟩
theorem CK {a b:List UInt8}(h:Op.bytesLess a b=false)(k:Op.bytesLess b a=false):a=b:=by
 induction a generalizing b with
 | nil=>cases b with
   |nil=>rfl
   |cons y b=>simp[Op.bytesLess]at h
 | cons x a ih=>cases b with
   |nil=>simp[Op.bytesLess]at k
   | cons y b=>
     simp only[Op.bytesLess,Bool.or_eq_false_iff,Bool.and_eq_false_iff,decide_eq_false_iff_not,beq_eq_false_iff_ne]at h k;have e:x=y:=by have h1:=UInt8.not_lt.1 h.1;have h2:=UInt8.not_lt.1 k.1;exact UInt8.le_antisymm h2 h1
     subst e;rw[ih (by rcases h.2 with h|h;exact absurd rfl h;exact h) (by rcases k.2 with h|h;exact absurd rfl h;exact h)]
def NU (x y:aR):aR:=(x.1,canon (aM x.2+aM y.2))
def yX :Nat->List aR->List aR->List aR
 |0,a,b=>a++b
 |_+1,[],b=>b
 |_+1,x::a,[]=>x::a
 |k+1,x::a,y::b=>if Op.bytesLess x.1 y.1 then x::yX k a (y::b)else if Op.bytesLess y.1 x.1 then y::yX k (x::a) b else NU x y::yX k a b
theorem UI (a b:List aR)(j k:Nat)(hj:a.length+b.length<=j)(hk:a.length+b.length<=k):yX j a b=yX k a b:=by
 induction j generalizing k a b with
 |zero=>have ha:a=[]:=List.length_eq_zero_iff.1 zo;have hb:b=[]:=List.length_eq_zero_iff.1 zo;subst ha;subst hb;cases k<;>rfl
 | succ j ih=>
   cases k with
   |zero=>have ha:a=[]:=List.length_eq_zero_iff.1 zo;have hb:b=[]:=List.length_eq_zero_iff.1 zo;subst ha;subst hb;rfl
   | succ k=>
     cases a with
     |nil=>rfl
     | cons x a=>cases b with
       |nil=>rfl
       |cons y b=>simp only[List.length_cons]at hj hk;simp only[yX];rw[ih a (y::b) k zi zi,ih (x::a) b k zi zi,ih a b k zo zo]
def gS (a b:List aR):List aR:=yX (a.length+b.length) a b
theorem Bu (b:List aR):gS [] b=b:=by
 unfold gS;cases b with
 |nil=>rfl
 |cons y b=>rfl
theorem Bz (a:List aR):gS a []=a:=by
 unfold gS;cases a with
 |nil=>rfl
 |cons y b=>rfl
theorem xx (x y:aR)(a b:List aR):gS (x::a) (y::b)=if Op.bytesLess x.1 y.1 then x::gS a (y::b)else if Op.bytesLess y.1 x.1 then y::gS (x::a) b else NU x y::gS a b:=by
 unfold gS;rw[show(x::a).length+(y::b).length=(a.length+b.length+1)+1 by simp;omega];simp only[yX]
 rw[UI a (y::b) (a.length+b.length+1) (a.length+(y::b).length) zi zm,UI (x::a) b (a.length+b.length+1) ((x::a).length+b.length) zi zm,
  UI a b (a.length+b.length+1) (a.length+b.length) zo zo]
theorem aeJ (a b:List aR):(gS a b).length<=a.length+b.length:=by
 obtain⟨n,hn⟩:=aK (a.length+b.length);induction n using Nat.strongRecOn generalizing a b with
 | _ n ih=>
   cases a with
   |nil=>rw[Bu];simp
   | cons x a=>cases b with
     |nil=>rw[Bz];simp
     | cons y b=>
       rw[xx];simp only[List.length_cons]at hn⊢;split
       . have:=ih _ (by simp only[List.length_cons];omega) a (y::b) rfl;simp only[List.length_cons]at this⊢;omega
       . split
         . have:=ih _ (by simp only[List.length_cons];omega) (x::a) b rfl;simp only[List.length_cons]at this⊢;omega
         . have:=ih _ zo a b rfl;simp only[List.length_cons]at this⊢;omega
def cK :List aR->List UInt8->Dyadic
 |[],_=>0
 |x::l,m=>(if x.1=m then aM x.2 else 0)+cK l m
theorem Ao (a b:List aR)(m:List UInt8):cK (a++b) m=cK a m+cK b m:=by
 induction a with
 |nil=>simp[cK]
 |cons x a ih=>simp only[List.cons_append,cK,ih];grind
theorem ZL (a b:List aR)(m:List UInt8):cK (gS a b) m=cK a m+cK b m:=by
 obtain⟨n,hn⟩:=aK (a.length+b.length);induction n using Nat.strongRecOn generalizing a b with
 | _ n ih=>
   cases a with
   |nil=>rw[Bu];simp[cK]
   | cons x a=>cases b with
     |nil=>rw[Bz];simp[cK]
     | cons y b=>
       rw[xx];simp only[List.length_cons]at hn;split
       . have:=ih _ (by simp only[List.length_cons];omega) a (y::b) rfl;simp only[cK]at this⊢;rw[this];grind
       . split
         . have:=ih _ (by simp only[List.length_cons];omega) (x::a) b rfl;simp only[cK]at this⊢;rw[this];grind
         . rename_i h1 h2
           have:=ih _ zo a b rfl;have e:x.1=y.1:=CK (by simpa using h1) (by simpa using h2);simp only[cK,NU,cN]at this⊢;rw[this,e];split<;>grind
def Up (l:List aR):Prop:=l.Pairwise λx y=>Op.bytesLess x.1 y.1=true
theorem Nw (a b:List aR):∀x∈gS a b,∃y∈a++b,y.1=x.1:=by
 obtain⟨n,hn⟩:=aK (a.length+b.length);induction n using Nat.strongRecOn generalizing a b with
 | _ n ih=>
   intro z hz;cases a with
   |nil=>rw[Bu]at hz;exact⟨z,by simp[hz],rfl⟩
   | cons x a=>cases b with
     |nil=>rw[Bz]at hz;exact⟨z,by simpa using hz,rfl⟩
     | cons y b=>
       rw[xx]at hz;simp only[List.length_cons]at hn;split at hz
       . rcases List.mem_cons.1 hz with rfl|hz
         . exact⟨z,by simp,rfl⟩
         . obtain⟨u,hu,e⟩:=ih _ (by simp only[List.length_cons];omega) a (y::b) rfl z hz;exact⟨u,by simp at hu⊢;rcases hu with h|h|h<;>simp[h],e⟩
       . split at hz
         . rcases List.mem_cons.1 hz with rfl|hz
           . exact⟨z,by simp,rfl⟩
           . obtain⟨u,hu,e⟩:=ih _ (by simp only[List.length_cons];omega) (x::a) b rfl z hz;exact⟨u,by simp at hu⊢;rcases hu with h|h|h<;>simp[h],e⟩
         . rcases List.mem_cons.1 hz with rfl|hz
           . exact⟨x,by simp,rfl⟩
           . obtain⟨u,hu,e⟩:=ih _ zo a b rfl z hz;exact⟨u,by simp at hu⊢;rcases hu with h|h<;>simp[h],e⟩
theorem arW (a b:List aR)(ha:Up a)(hb:Up b):Up (gS a b):=by
 obtain⟨n,hn⟩:=aK (a.length+b.length);induction n using Nat.strongRecOn generalizing a b with
 | _ n ih=>
   cases a with
   |nil=>rw[Bu];exact hb
   | cons x a=>cases b with
     |nil=>rw[Bz];exact ha
     | cons y b=>
       rw[xx];simp only[List.length_cons]at hn;obtain⟨ha1,ha2⟩:=List.pairwise_cons.1 ha;obtain⟨hb1,hb2⟩:=List.pairwise_cons.1 hb;split
       . rename_i h
         refine List.pairwise_cons.2 ⟨λz hz=>?_,ih _ (by simp only[List.length_cons];omega) a (y::b) ha2 hb rfl⟩;obtain⟨u,hu,e⟩:=Nw _ _ z hz;rw[<-e];rcases List.mem_append.1 hu with h2|h2
         . exact ha1 u h2
         . rcases List.mem_cons.1 h2 with rfl|h2
           . exact h
           . exact CJ h (hb1 u h2)
       . split
         . rename_i h0 h
           refine List.pairwise_cons.2 ⟨λz hz=>?_,ih _ (by simp only[List.length_cons];omega) (x::a) b ha hb2 rfl⟩;obtain⟨u,hu,e⟩:=Nw _ _ z hz;rw[<-e];rcases List.mem_append.1 hu with h2|h2
           . rcases List.mem_cons.1 h2 with rfl|h2
             . exact h
             . exact CJ h (ha1 u h2)
           . exact hb1 u h2
         . rename_i h1 h2
           have e:x.1=y.1:=CK (by simpa using h1) (by simpa using h2);refine List.pairwise_cons.2 ⟨λz hz=>?_,ih _ zo a b ha2 hb2 rfl⟩;obtain⟨u,hu,e2⟩:=Nw _ _ z hz;rw[<-e2];show Op.bytesLess x.1 u.1=true
           rcases List.mem_append.1 hu with h3|h3
           . exact ha1 u h3
           . rw[e];exact hb1 u h3
def vK :Nat->List aR->List aR
 |0,l=>l
 |k+1,l=>if l.length<2 then l else gS (vK k (l.take (l.length/2))) (vK k (l.drop (l.length/2)))
theorem afN (l:List aR)(j k:Nat)(hj:l.length<=j)(hk:l.length<=k):vK j l=vK k l:=by
 induction j generalizing k l with
 |zero=>have h:l=[]:=List.length_eq_zero_iff.1 zo;subst h;cases k<;>simp[vK]
 | succ j ih=>
   cases k with
   |zero=>have h:l=[]:=List.length_eq_zero_iff.1 zo;subst h;simp[vK]
   | succ k=>
     simp only[vK];split
     . rfl
     . rw[ih (l.take (l.length/2)) k zi zi,ih (l.drop (l.length/2)) k zi zi]
def gU (l:List aR):List aR:=vK l.length l
theorem NS (l:List aR)(h:l.length<2):gU l=l:=by
 unfold gU;cases l with
 |nil=>rfl
 |cons x l=>simp only[List.length_cons,vK];rw[if_pos (by simpa using h)]
theorem VK (l:List aR)(h:2<=l.length):gU l=gS (gU (l.take (l.length/2))) (gU (l.drop (l.length/2))):=by obtain⟨k,hk⟩:∃k,l.length=k+1:=⟨l.length-1,by omega⟩;unfold gU;rw[hk];simp only[vK];rw[if_neg zo,hk,afN (l.take ((k+1)/2)) k ((l.take ((k+1)/2)).length) zi (Nat.le_refl _),afN (l.drop ((k+1)/2)) k ((l.drop ((k+1)/2)).length) zi (Nat.le_refl _)]
theorem JB {Q:List aR->List aR->Prop}(h0:∀l,l.length<2->Q l l)(h1:∀a b c d,Q a c->Q b d->Q (a++b) (gS c d))(l:List aR):Q l (gU l):=by
 obtain⟨n,hn⟩:=aK l.length;induction n using Nat.strongRecOn generalizing l with
 | _ n ih=>
   by_cases h:l.length<2
   . rw[NS l h];exact h0 l h
   . rw[VK l zo];have:=h1 _ _ _ _ (ih (l.take (l.length/2)).length zi (l.take (l.length/2)) rfl) (ih (l.drop (l.length/2)).length zi (l.drop (l.length/2)) rfl);rwa [List.take_append_drop]at this
theorem amN (l:List aR)(m:List UInt8):cK (gU l) m=cK l m:=
 JB (Q:=λl r=>cK r m=cK l m) (λ_ _=>rfl) (λa b c d h1 h2=>by rw[ZL,Ao,h1,h2]) l
theorem avf (l:List aR):Up (gU l):=
 JB (Q:=λ_ r=>Up r) (λl h=>by
  cases l with
  |nil=>exact List.Pairwise.nil
  | cons x l=>cases l with
    |nil=>exact List.pairwise_singleton _ _
    |cons y l=>simp at h;omega) (λa b c d h1 h2=>arW c d h1 h2) l
theorem NR (l:List aR):(gU l).length<=l.length:=
 JB (Q:=λl r=>r.length<=l.length) (λ_ _=>Nat.le_refl _) (λa b c d h1 h2=>by have:=aeJ c d;simp;omega) l
theorem ave (l:List aR):∀x∈gU l,∃y∈l,y.1=x.1:=
 JB (Q:=λl r=>∀x∈r,∃y∈l,y.1=x.1) (λl _ x hx=>⟨x,hx,rfl⟩) (λa b c d h1 h2 x hx=>by
  obtain⟨y,hy,e⟩:=Nw c d x hx;rcases List.mem_append.1 hy with h|h
  . obtain⟨z,hz,e2⟩:=h1 y h;exact⟨z,by simp[hz],e2.trans e⟩
  . obtain⟨z,hz,e2⟩:=h2 y h;exact⟨z,by simp[hz],e2.trans e⟩) l
def gT (x:aR):Bool:=!(dY (aM x.2)==0)
def bU (l:List aR):List aR:=((gU l).filter gT).map λx=>(x.1,canon (aM x.2))
def Good (l:List aR):Prop:=Up l/\∀x∈l,aM x.2≠0/\x.2=canon (aM x.2)
theorem wK (X:Dyadic):(dY X==0)=false↔X≠0:=by
 have h:dY X=0↔X=0:=by
  constructor
  . intro h;have h1:dN X=0:=by
     unfold dY fH at h;by_cases h1:dN X<0
     . rw[if_pos h1]at h;cases h
     . rw[if_neg h1]at h;by_cases h2:dN X=0
       . exact h2
       . rw[if_neg h2]at h;cases h
    have h2:=ux X;rw[h1,zu]at h2;exact h2
  . rintro rfl;rfl
 rw[beq_eq_false_iff_ne];exact not_congr h
theorem ZK (l:List aR)(m:List UInt8):cK (l.filter gT) m=cK l m:=by
 induction l with
 |nil=>rfl
 | cons x l ih=>
   rw[List.filter_cons];split
   . simp only[cK,ih]
   . rename_i h
     have h0:aM x.2=0:=Classical.byContradiction λhc=>h (by unfold gT;rw[(wK _).2 hc];rfl);simp only[cK,ih,h0];split<;>grind
theorem amI (l:List aR)(m:List UInt8):cK (l.map λx=>(x.1,canon (aM x.2))) m=cK l m:=by
 induction l with
 |nil=>rfl
 |cons x l ih=>simp only[List.map_cons,cK,ih,cN]
theorem uP (l:List aR)(m:List UInt8):cK (bU l) m=cK l m:=by unfold bU;rw[amI,ZK,amN]
theorem av3 {l:List aR}(h:Up l):Up (l.map λx=>(x.1,canon (aM x.2))):=List.Pairwise.map _ (λ_ _ h=>h) h
theorem aot (l:List aR)(h:Up l):Good ((l.filter gT).map λx=>(x.1,canon (aM x.2))):=by
 refine⟨av3 (List.Pairwise.filter _ h),λx hx=>?_⟩;obtain⟨y,hy,rfl⟩:=List.mem_map.1 hx;have h2:=(List.mem_filter.1 hy).2;unfold gT at h2;refine⟨?_,?_⟩
 . show aM (canon (aM y.2))≠0
   rw[cN];exact(wK _).1 (by simpa using h2)
 . show canon (aM y.2)=canon (aM (canon (aM y.2)))
   rw[cN]
theorem CO (l:List aR):Good (bU l):=aot _ (avf l)
theorem CP (l:List aR):(bU l).length<=l.length:=by unfold bU;rw[List.length_map];exact Nat.le_trans (List.length_filter_le _ _) (NR l)
theorem ZM (l:List aR)(m:List UInt8)(h:∀x∈l,x.1≠m):cK l m=0:=by
 induction l with
 |nil=>rfl
 |cons x l ih=>simp only[cK];rw[if_neg (h x zm),ih (λy hy=>h y (by simp[hy]))];grind
theorem Good.tail {x:aR}{l:List aR}(h:Good (x::l)):Good l:=⟨(List.pairwise_cons.1 h.1).2,λy hy=>h.2 y (by simp[hy])⟩
theorem Good.off {x:aR}{l:List aR}(h:Good (x::l)):cK l x.1=0:=by refine ZM _ _ (λy hy e=>?_);have:=(List.pairwise_cons.1 h.1).1 y hy;rw[e,CI]at this;cases this
theorem Good.head {x:aR}{l:List aR}(h:Good (x::l)):cK (x::l) x.1=aM x.2:=by simp only[cK,if_pos,h.off];grind
theorem Good.before {x y:aR}{l:List aR}(h:Good (y::l))(hx:Op.bytesLess x.1 y.1=true):cK (y::l) x.1=0:=by
 refine ZM _ _ (λz hz e=>?_);rcases List.mem_cons.1 hz with rfl|hz
 . rw[e,CI]at hx;cases hx
 . have:=CJ hx ((List.pairwise_cons.1 h.1).1 z hz);rw[e,CI]at this;cases this
theorem aaD {a b:List aR}(ha:Good a)(hb:Good b)(h:∀m,cK a m=cK b m):a=b:=by
 induction a generalizing b with
 | nil=>
   cases b with
   |nil=>rfl
   |cons y b=>have:=h y.1;rw[hb.head]at this;exact absurd this.symm (hb.2 y zm).1
 | cons x a ih=>
   cases b with
   |nil=>have:=h x.1;rw[ha.head]at this;exact absurd this (ha.2 x zm).1
   | cons y b=>
     have h1:Op.bytesLess x.1 y.1=false:=by
      cases hc:Op.bytesLess x.1 y.1 with
      |false=>rfl
      |true=>have:=h x.1;rw[ha.head,hb.before hc]at this;exact absurd this (ha.2 x zm).1
     have h2:Op.bytesLess y.1 x.1=false:=by
      cases hc:Op.bytesLess y.1 x.1 with
      |false=>rfl
      |true=>have:=h y.1;rw[hb.head,ha.before hc]at this;exact absurd this.symm (hb.2 y zm).1
     have e1:x.1=y.1:=CK h1 h2;have e2:aM x.2=aM y.2:=by have:=h x.1;rw[ha.head]at this;rw[this,e1,hb.head]
     have e3:x=y:=by refine Prod.ext e1 ?_;rw[(ha.2 x zm).2,(hb.2 y zm).2,e2]
     subst e3
     rw[ih ha.tail hb.tail (λm=>by
      have:=h m;simp only[cK]at this;generalize (if x.1=m then aM x.2 else 0)=u at this
      grind)]
def CF (V:Nat)(ts:List aR):Prop:=Good ts/\(∀t∈ts,eU t.1 V=true)/\ts.length<=4096/\V<=12
theorem Vj {V:Nat}{ts:List aR}(h:CF V ts):lK V ts=0:=by
 obtain⟨⟨h1,h2⟩,h3,h4,h5⟩:=h;unfold lK;rw[if_neg zo,if_neg zo,if_pos];rw[List.all_eq_true];intro k hk;have hk:k<ts.length:=by simpa using hk
 have e:ts.getD k default=ts[k]:=by simp[hk]
 have hm:=List.getElem_mem hk;unfold nj ym;rw[e,h3 _ hm,(wK _).2 (h2 _ hm).1];have e2:(canon (aM ts[k].2)==ts[k].2)=true:=by rw[beq_iff_eq];exact(h2 _ hm).2.symm
 rw[e2];by_cases h0:k=0
 . simp[h0]
 . have hk1:k-1<ts.length:=by omega
   have e3:ts.getD (k-1) default=ts[k-1]:=by simp[hk1]
   have:=List.pairwise_iff_getElem.1 h1 (k-1) k hk1 hk zo;rw[e3,gm,gm,this];simp
theorem Good.coef {l:List aR}(h:Good l):∀t∈l,aM t.2=cK l t.1:=by
 induction l with
 |nil=>intro t ht;cases ht
 | cons x l ih=>
   intro t ht;rcases List.mem_cons.1 ht with rfl|ht
   . exact h.head.symm
   . have hne:¬x.1=t.1:=λe=>by have:=(List.pairwise_cons.1 h.1).1 t ht;rw[e,CI]at this;cases this
     simp only[cK,if_neg hne,ih h.tail t ht];grind
theorem amM {B:Nat}{l:List aR}(h:∀x∈l,Sm B (aM x.2))(m:List UInt8):Sm (B+l.length) (cK l m):=by
 induction l with
 |nil=>exact Sm.zero _
 | cons x l ih=>
   have h1:=ih (λy hy=>h y (by simp[hy]));have h2:Sm B (if x.1=m then aM x.2 else 0):=by
    split
    . exact h x zm
    . exact Sm.zero _
   exact((h2.mono (show B<=B+l.length by omega)).add h1).mono zi
theorem amC {B:Nat}{l:List aR}(h:∀x∈l,Sm B (aM x.2)):∀t∈bU l,Sm (B+l.length) (aM t.2):=by intro t ht;rw[(CO l).coef t ht,uP];exact amM h _
theorem Ra (l:List aR):∀x∈bU l,∃y∈l,y.1=x.1:=by intro x hx;unfold bU at hx;obtain⟨y,hy,rfl⟩:=List.mem_map.1 hx;exact ave l y (List.mem_filter.1 hy).1
theorem amB {V:Nat}{l:List aR}(hV:V<=12)(hm:∀t∈l,eU t.1 V=true)(hl:l.length<=4096):CF V (bU l):=
 ⟨CO l,λt ht=>by obtain⟨y,hy,e⟩:=Ra l t ht;rw[<-e];exact hm y hy,Nat.le_trans (CP l) hl,hV⟩
theorem CN {a b:List aR}(h:∀m,cK a m=cK b m):bU a=bU b:=aaD (CO a) (CO b) (λm=>by rw[uP,uP,h m])
theorem amA (a b:List aR):bU (bU a++bU b)=bU (a++b):=CN (λm=>by rw[Ao,Ao,uP,uP])
def eo (c:Dyadic)(l:List aR):List aR:=l.map λx=>(x.1,canon (aM x.2*c))
theorem ZN (c:Dyadic)(l:List aR)(m:List UInt8):cK (eo c l) m=cK l m*c:=by
 induction l with
 |nil=>simp[eo,cK]
 |cons x l ih=>simp only[eo,List.map_cons,cK]at ih⊢;rw[ih,cN];split<;>grind
def kY (n:Nat):List UInt8:=List.replicate n 0
def dR (n k:Nat):List UInt8:=(List.replicate n 0).set k 1
theorem agL (n:Nat):eU (kY n) n=true:=by unfold eU kY;rw[Bool.and_eq_true];refine⟨?_,by simp⟩;rw[List.all_eq_true];intro c hc;rw[(List.mem_replicate.1 hc).2];rfl
theorem JI (n k:Nat):eU (dR n k) n=true:=by
 unfold eU dR;rw[Bool.and_eq_true];refine⟨?_,by simp⟩;rw[List.all_eq_true];intro c hc;rcases List.mem_or_eq_of_mem_set hc with h|h
 . rw[(List.mem_replicate.1 h).2];rfl
 . rw[h];rfl
def gQ (n:Nat)(c:Dyadic)(l:Nat->Dyadic)(k:Nat):List aR:=(kY n,canon c)::(List.range k).map λj=>(dR n j,canon (l j))
def dF (n:Nat)(c:Dyadic)(l:Nat->Dyadic)(k:Nat):List aR:=bU (gQ n c l k)
theorem IW (n:Nat)(c:Dyadic)(l:Nat->Dyadic)(k:Nat):(gQ n c l k).length=k+1:=by simp[gQ]
theorem Uv (n:Nat)(c:Dyadic)(l:Nat->Dyadic)(k:Nat):∀t∈gQ n c l k,eU t.1 n=true:=by
 intro t ht;unfold gQ at ht;rcases List.mem_cons.1 ht with rfl|ht
 . exact agL n
 . obtain⟨j,_,rfl⟩:=List.mem_map.1 ht;exact JI n j
theorem aqS {B:Nat}(n:Nat)(c:Dyadic)(l:Nat->Dyadic)(k:Nat)(hc:Sm B c)(hl:∀j,j<k->Sm B (l j)):∀t∈gQ n c l k,Sm B (aM t.2):=by
 intro t ht;unfold gQ at ht;rcases List.mem_cons.1 ht with rfl|ht
 . show Sm B (aM (canon c));rw[cN];exact hc
 . obtain⟨j,hj,rfl⟩:=List.mem_map.1 ht;show Sm B (aM (canon (l j)));rw[cN];exact hl j (by simpa using hj)
theorem aee (n:Nat)(c:Dyadic)(l:Nat->Dyadic)(k:Nat):gQ n c l (k+1)=gQ n c l k++[(dR n k,canon (l k))]:=by unfold gQ;rw[List.range_succ,List.map_append];rfl
theorem Lm (n:Nat)(c:Dyadic)(l:Nat->Dyadic)(k:Nat)(m:List UInt8):cK (gQ n c l (k+1)) m=cK (gQ n c l k) m+if dR n k=m then l k else 0:=by rw[aee,Ao];simp only[cK,cN];grind
theorem aqU (n:Nat)(c:Dyadic)(l:Nat->Dyadic)(k:Nat):bU (dF n c l k++bU [(dR n k,canon (l k))])=dF n c l (k+1):=by unfold dF;rw[amA,aee]
theorem amH (n:Nat)(c d:Dyadic)(l r:Nat->Dyadic)(u v:Dyadic)(k:Nat)(m:List UInt8):cK (gQ n (c*u+d*v) (λj=>l j*u+r j*v) k) m=cK (gQ n c l k) m*u+cK (gQ n d r k) m*v:=by
 induction k with
 |zero=>simp[gQ,cK,cN];split<;>grind
 |succ k ih=>rw[Lm,ih,Lm,Lm];split<;>grind
theorem aqR {n:Nat}{c d:Dyadic}{l r:Nat->Dyadic}(k:Nat)(hc:c=d)(h:∀j,j<k->l j=r j):gQ n c l k=gQ n d r k:=by unfold gQ;rw[hc];congr 1;refine List.map_congr_left λj hj=>?_;rw[h j (by simpa using hj)]
theorem aqV (n:Nat)(c d:Dyadic)(l r:Nat->Dyadic)(k:Nat):bU (dF n c l k++bU (eo (-1) (dF n d r k)))=dF n (c-d) (λj=>l j-r j) k:=by unfold dF;refine CN (λm=>?_);rw[Ao,uP,uP,ZN,uP];have h:=amH n c d l r 1 (-1) k m;rw[aqR (d:=c-d) (r:=λj=>l j-r j) k (by grind) (λj _=>by grind)]at h;rw[h];grind
def xD (x:Dyadic):Nat->Dyadic
 |0=>1
 |n+1=>xD x n*x
theorem afL :Sm 1 (1:Dyadic):=by
 have e:(1:Dyadic)=Dyadic.ofIntWithPrec 1 0:=by decide+kernel
 rw[e];exact⟨1*2^1,(xy 1 1 0).symm,by decide⟩
theorem aff {B:Nat}{x:Dyadic}(h:Sm B x)(n:Nat):Sm (B*n+1) (xD x n):=by
 induction n with
 |zero=>exact afL
 |succ n ih=>exact(Sm.mul ih h).mono (by rw[Nat.mul_succ];omega)
def zT :aR:=([],false,[],0)
def gu (f:List UInt8->Dyadic):List aR->Dyadic
 |[]=>0
 |x::l=>aM x.2*f x.1+gu f l
theorem aap (f:List UInt8->Dyadic)(a b:List aR):gu f (a++b)=gu f a+gu f b:=by
 induction a with
 |nil=>simp[gu]
 |cons x a ih=>simp only[List.cons_append,gu,ih];grind
theorem anQ (f:List UInt8->Dyadic)(a b:List aR):gu f (gS a b)=gu f a+gu f b:=by
 obtain⟨n,hn⟩:=aK (a.length+b.length);induction n using Nat.strongRecOn generalizing a b with
 | _ n ih=>
   cases a with
   |nil=>rw[Bu];simp[gu]
   | cons x a=>cases b with
     |nil=>rw[Bz];simp[gu]
     | cons y b=>
       rw[xx];simp only[List.length_cons]at hn;split
       . have:=ih _ (by simp only[List.length_cons];omega) a (y::b) rfl;simp only[gu]at this⊢;rw[this];grind
       . split
         . have:=ih _ (by simp only[List.length_cons];omega) (x::a) b rfl;simp only[gu]at this⊢;rw[this];grind
         . rename_i h1 h2
           have:=ih _ zo a b rfl;have e:x.1=y.1:=CK (by simpa using h1) (by simpa using h2);simp only[gu,NU,cN]at this⊢;rw[this,e];grind
theorem anR (f:List UInt8->Dyadic)(l:List aR):gu f (gU l)=gu f l:=
 JB (Q:=λl r=>gu f r=gu f l) (λ_ _=>rfl) (λa b c d h1 h2=>by rw[anQ,aap,h1,h2]) l
theorem anP (f:List UInt8->Dyadic)(l:List aR):gu f (bU l)=gu f l:=by
 have h1:∀l,gu f (l.map λx=>(x.1,canon (aM x.2)))=gu f l:=λl=>by
  induction l with
  |nil=>rfl
  |cons x l ih=>simp only[List.map_cons,gu,ih,cN]
 have h2:∀l,gu f (l.filter gT)=gu f l:=λl=>by
  induction l with
  |nil=>rfl
  | cons x l ih=>
    rw[List.filter_cons];split
    . simp only[gu,ih]
    . rename_i h
      have h0:aM x.2=0:=Classical.byContradiction λhc=>h (by unfold gT;rw[(wK _).2 hc];rfl);simp only[gu,ih,h0];grind
 unfold bU;rw[h1,h2,anR]
def fp (a b:List UInt8):List UInt8:=List.zipWith (λx y=>UInt8.ofNat (x.toNat+y.toNat)) a b
theorem CH (a b:List UInt8)(n:Nat)(ha:a.length=n)(hb:b.length=n):(fp a b).length=n:=by simp[fp,ha,hb]
theorem QN (a b:List UInt8)(i:Nat)(h:i<(fp a b).length)(hs:(a.getD i 0).toNat+(b.getD i 0).toNat<=255):((fp a b)[i]).toNat=(a.getD i 0).toNat+(b.getD i 0).toNat:=by
 have h1:i<a.length:=by simp[fp]at h;omega
 have h2:i<b.length:=by simp[fp]at h;omega
 simp only[fp,List.getElem_zipWith];simp only[List.getD_eq_getElem?_getD,List.getElem?_eq_getElem h1,List.getElem?_eq_getElem h2,Option.getD_some]at hs⊢;simp;omega
theorem QO (a b:List UInt8)(n:Nat)(ha:a.length=n)(hb:b.length=n)(hs:∀i,i<n->(a.getD i 0).toNat+(b.getD i 0).toNat<=127):∀c∈fp a b,c.toNat<=127:=λc hc=>by
 obtain⟨i,hi,rfl⟩:=List.mem_iff_getElem.1 hc;have hi':i<n:=by rw[CH a b n ha hb]at hi;exact hi
 rw[QN a b i hi (by have:=hs i hi';omega)];exact hs i hi'
abbrev iM (l:List UInt8):Nat:=(l.map UInt8.toNat).sum
theorem BO (l:List UInt8)(i:Nat):(l.getD i 0).toNat<=iM l:=by
 induction l generalizing i with
 |nil=>simp
 | cons c l ih=>
   unfold iM;rw[List.map_cons,List.sum_cons];cases i with
   |zero=>simp
   |succ i=>have:=ih i;unfold iM at this;simp only[List.getD_cons_succ];omega
theorem akX (a b:List UInt8)(n:Nat)(ha:a.length=n)(hb:b.length=n)(h:iM a+iM b<=127):iM (fp a b)=iM a+iM b:=by
 induction a generalizing b n with
 | nil=>
   obtain rfl:n=0:=by simpa using ha.symm
   obtain rfl:b=[]:=List.eq_nil_of_length_eq_zero hb;rfl
 | cons x a ih=>cases b with
   |nil=>simp at ha hb;omega
   | cons y b=>
     simp only[iM,List.map_cons,List.sum_cons]at h;have h1:=ih b a.length rfl (by simp at ha hb;omega) (by unfold iM;omega);unfold iM at h1⊢;have e:fp (x::a) (y::b)=UInt8.ofNat (x.toNat+y.toNat)::fp a b:=rfl;have e2:(UInt8.ofNat (x.toNat+y.toNat)).toNat=x.toNat+y.toNat:=by simp;omega
     rw[e,List.map_cons,List.sum_cons,h1,e2,List.map_cons,List.sum_cons,List.map_cons,List.sum_cons];omega
def iL (ta tb:List aR):List aR:=ta.flatMap λx=>tb.map λy=>(fp x.1 y.1,canon (aM x.2*aM y.2))
theorem UJ (ta tb:List aR):(iL ta tb).length=ta.length*tb.length:=by
 unfold iL;rw[List.length_flatMap];induction ta with
 |nil=>simp
 |cons x ta ih=>rw[List.map_cons,List.sum_cons,ih,List.length_map,List.length_cons,Nat.succ_mul];omega
theorem Ny {ta tb:List aR}{t:aR}(h:t∈iL ta tb):∃x∈ta,∃y∈tb,t=(fp x.1 y.1,canon (aM x.2*aM y.2)):=by unfold iL at h;obtain⟨x,hx,h⟩:=List.mem_flatMap.1 h;obtain⟨y,hy,e⟩:=List.mem_map.1 h;exact⟨x,hx,y,hy,e.symm⟩
theorem UK {A B:Nat}{ta tb:List aR}(ha:∀t∈ta,Sm A (aM t.2))(hb:∀t∈tb,Sm B (aM t.2)):∀t∈iL ta tb,Sm (A+B) (aM t.2):=λt ht=>by obtain⟨x,hx,y,hy,rfl⟩:=Ny ht;rw[cN];exact Sm.mul (ha x hx) (hb y hy)
theorem xu {l:List UInt8}{V:Nat}(h:eU l (V:Int)=true):l.length=V/\∀c∈l,c.toNat<=127:=by unfold eU at h;simp only[Bool.and_eq_true,List.all_eq_true,decide_eq_true_eq]at h;exact⟨by have:=h.2;omega,h.1⟩
theorem UG {l:List UInt8}{V:Nat}(h1:l.length=V)(h2:∀c∈l,c.toNat<=127):eU l (V:Int)=true:=by unfold eU;simp only[Bool.and_eq_true,List.all_eq_true,decide_eq_true_eq];exact⟨h2,by omega⟩
def fW (V d:Nat)(ts:List aR):Prop:=∀t∈ts,eU t.1 (V:Int)=true/\iM t.1<=d
theorem fW.mul {V d e:Nat}{ta tb:List aR}(ha:fW V d ta)(hb:fW V e tb)(h:d+e<=127):fW V (d+e) (iL ta tb):=λt ht=>by
 obtain⟨x,hx,y,hy,rfl⟩:=Ny ht;obtain⟨h1,h2⟩:=ha x hx;obtain⟨h3,h4⟩:=hb y hy;have l1:=(xu h1).1;have l2:=(xu h3).1;refine⟨UG (CH _ _ V l1 l2) (QO _ _ V l1 l2 (λi _=>?_)),?_⟩
 . have:=BO x.1 i;have:=BO y.1 i;omega
 . have:=akX x.1 y.1 V l1 l2 zo;show iM (fp x.1 y.1)<=_;omega
theorem fW.clean {V d:Nat}{ts:List aR}(h:fW V d ts):fW V d (bU ts):=λt ht=>by obtain⟨y,hy,e⟩:=Ra _ t ht;rw[<-e];exact h y hy
theorem fW.append {V d:Nat}{a b:List aR}(ha:fW V d a)(hb:fW V d b):fW V d (a++b):=λt ht=>by
 rcases List.mem_append.1 ht with h|h
 . exact ha t h
 . exact hb t h
theorem fW.mono {V d e:Nat}{a:List aR}(ha:fW V d a)(h:d<=e):fW V e a:=λt ht=>⟨(ha t ht).1,Nat.le_trans (ha t ht).2 h⟩
end Go.Proofs.YtnjfebkelecgaaaGreatDoor
namespace Go.Proofs.YtnjfebkelecgaaaGreatDoor
open Go.RowKit
attribute [local go_sem ↓] Go.wp_at_zero Go.wp_at_succ
def xG (a b:List UInt8):Int:=if Op.bytesLess a b then-1 else if Op.bytesLess b a then 1 else 0
theorem au5 (l:List UInt8)(s:Bool)(m:List UInt8)(e:Int)(l':List UInt8)(s':Bool)(m':List UInt8)(e':Int)(w:World):
 Calls Tryz.prog 55 #[.agg #[ai l,ar s,ai m,ah e],.agg #[ai l',ar s',ai m',ah e']] w λex w'=>ex=.returned (ah (xG l l'))/\Bw w w':=by
 obtain⟨R,hR⟩:=aK (xG l l');unfold xG at hR;rw[show xG l l'=R from hR];obtain⟨W,dw,Hb,Hx,Hy⟩:=mK w 67 [ai l,ar s,ai m,ah e] 67 [ai l',ar s',ai m',ah e'];obtain⟨x0,x1,x2,x3⟩:=Hx.out.c4;obtain⟨y0,y1,y2,y3⟩:=Hy.out.c4;cases h1:Op.bytesLess l l' with
 | true=>
   rw[h1]at hR;simp only[if_true]at hR;subst hR;have h2:Op.bytesLess (bs l).toList (bs l').toList=true:=by rw[gm,gm];exact h1
   clear h1;go_enter Tryz.func55,Tryz.ntmps55;go_wp2;go_ret;exact⟨rfl,Hb.out⟩
 | false=>
   rw[h1]at hR;simp only[Bool.false_eq_true,if_false]at hR;have h2:Op.bytesLess (bs l).toList (bs l').toList=false:=by rw[gm,gm];exact h1
   cases h3:Op.bytesLess l' l with
   | true=>
     rw[h3]at hR;simp only[if_true]at hR;subst hR;have hne:¬l=l':=by rintro rfl;rw[CI]at h3;cases h3
     have h4:((bs l).toList==(bs l').toList)=false:=by rw[gm,gm];simpa using hne
     have h5:¬(bs l).toList=(bs l').toList:=by rw[gm,gm];exact hne
     clear h1 h3 hne;go_enter Tryz.func55,Tryz.ntmps55;go_wp2;go_ret;exact⟨rfl,Hb.out⟩
   |false=>rw[h3]at hR;simp only[Bool.false_eq_true,if_false]at hR;subst hR;obtain rfl:=CK h1 h3;clear h1 h3;go_enter Tryz.func55,Tryz.ntmps55;go_wp2;go_ret;exact⟨rfl,Hb.out⟩
theorem avn (l:List UInt8)(s:Bool)(m:List UInt8)(e:Int)(l':List UInt8)(s':Bool)(m':List UInt8)(e':Int)(S:Dyadic)(B:Nat)(hS:aM (s,m,e)+aM (s',m',e')=S)(w:World)(hx:Fit B (s,m,e))(hy:Fit B (s',m',e'))(hB:B+2<=268435456)(hT:aO w):
 Calls Tryz.prog 56 #[.agg #[ai l,ar s,ai m,ah e],.agg #[ai l',ar s',ai m',ah e']] w λex w'=>ex=.returned (.agg #[ai l,ar (aI (dN S)),ai (nt (dN S).natAbs),ah (dE S)])/\Bw w w':=by
 obtain⟨fx,lS,HS,HT⟩:=eN hx hy hS hT;clear hx hy hS hT;obtain⟨W,dw,Hb,Hx,Hy,Hr⟩:=vI w 67 [ai l,ar s,ai m,ah e] 67 [ai l',ar s',ai m',ah e'] 67 [.string ⟨#[]⟩,ar false,.string ⟨#[]⟩,ah 0];obtain⟨x0,x1,x2,x3⟩:=Hx.out.c4;obtain⟨y0,y1,y2,y3⟩:=Hy.out.c4;obtain⟨r0,au,r1,az,r2,aJ,r3,dJ⟩:=Hr.out.g4;go_enter Tryz.func56,Tryz.ntmps56;go_wp2_with fail;refine cg (λw'=>aH w' (w.heap.size) 0 (ai l)/\aH w' (w.heap.size) 1 (ar s)/\aH w' (w.heap.size) 2 (ai m)/\aH w' (w.heap.size) 3 (ah e)/\aH w' (w.heap.size+1) 0 (ai l')/\aH w' (w.heap.size+1) 1 (ar s')/\aH w' (w.heap.size+1) 2 (ai m')/\aH w' (w.heap.size+1) 3 (ah e')) (λi=>Nat.blt i 9) [(0,true),(1,true),(2,true),(3,true),(4,true),(5,true),(6,false),(7,false),(8,true),(9,false)] zk zk rfl zk zc ⟨x0,x1,x2,x3,y0,y1,y2,y3⟩ ?_;iterate 6 (refine pT rfl rfl ?_ (by intro w' ⟨q0,q1,q2,q3,q4,q5,q6,q7⟩;go_simp;try with_reducible rfl))
 refine aW rfl rfl (λK hK=>?_);go_simp;refine hK _ _ (λ_=>⟨aX x0,aX x1,aX x2,aX x3,aX y0,aX y1,aX y2,aX y3⟩) ?_;clear hK K
 refine cn (λW3=>aC W3 (W.heap.size) 48 [ar s,ai m,ah e,ar s',ai m',ah e']/\Bw W W3) (by first|exact dZ|exact ej) ?_;rintro W3 ⟨qv,ag⟩;clear x0 x1 x2 x3 y0 y1 y2 y3 r0 au r1 az r2 aJ r3 dJ;have UD:=Hx.out.lt;have arF:=Hy.out.lt;have IZ:=Hr.out.lt;replace Hx:=kB Hx ag;replace Hy:=kB Hy ag;replace Hr:=kB Hr ag;have Hv:=aj qv;clear qv;obtain⟨x0,x1,x2,x3⟩:=Hx.out.c4;obtain⟨y0,y1,y2,y3⟩:=Hy.out.c4;obtain⟨r0,au,r1,az,r2,aJ,r3,dJ⟩:=Hr.out.g4;obtain⟨v0,v1,v2,v3,v4,v5⟩:=Hv.out.c6;replace Hb:=aF Hb ag;clear ag;refine aW rfl rfl (λK hK=>?_);go_simp;with_reducible refine(Gb s m e s' m' e' S B HS.out W.heap.size _ 48 _ fx.out lS.out hB Hv.out ((HT.out.below Hb.out))).mono ?_
 rintro e w4 ⟨rfl,hq⟩;have ag:Bw W3 w4:=by first|exact hq|exact bo hq
 clear x0 x1 x2 x3 y0 y1 y2 y3 r0 au r1 az r2 aJ r3 dJ v0 v1 v2 v3 v4 v5;obtain⟨Hx,x0,x1,x2,x3⟩:=dK Hx ag;obtain⟨Hy,y0,y1,y2,y3⟩:=dK Hy ag;replace Hr:=kB Hr ag;obtain⟨Hv,v0,v1,v2,v3,v4,v5⟩:=jO Hv ag;obtain⟨r0,au,r1,az,r2,aJ,r3,dJ⟩:=Hr.out.g4;replace Hb:=aF Hb ag;clear ag;refine hK _ _ (λ_=>⟨x0,x1,x2,x3,y0,y1,y2,y3⟩) ?_;clear hK K
 refine pT rfl rfl ?_
 refine aW rfl rfl (λK hK=>?_);go_simp;refine hK _ _ (λh=>absurd h zd) ?_;clear hK K
 clear x0 x1 x2 x3 y0 y1 y2 y3 r0 au r1 az r2 aJ r3 dJ v0 v1 v2 v3 v4 v5;refine cn (cm w4 (w.heap.size+1+1) 0 [ai l,ar (aI (dN S)),ai (nt (dN S).natAbs),ah (dE S)]) cC ?_;intro w5 hs;replace Hx:=kS Hx hs zo;replace Hy:=kS Hy hs zo;replace Hr:=cX Hr hs;replace Hv:=kS Hv hs zo;obtain⟨x0,x1,x2,x3⟩:=Hx.out.c4;obtain⟨y0,y1,y2,y3⟩:=Hy.out.c4;obtain⟨r0,au,r1,az,r2,aJ,r3,dJ⟩:=Hr.out.g4;obtain⟨v0,v1,v2,v3,v4,v5⟩:=Hv.out.c6;replace Hb:=bS Hb hs ZS;clear hs;simp only[bD];go_wp2;exact bodyPost_ret (v:=.agg #[ai l,ar (aI (dN S)),ai (nt (dN S).natAbs),ah (dE S)]) (by simp[results,Tryz.results56,go_sem,r0,r1,r2,r3]) rfl ⟨rfl,di⟩
theorem amy (l:List UInt8)(s:Bool)(m:List UInt8)(e:Int)(w:World)(hx:Ok (s,m,e)):
 Calls Tryz.prog 99 #[.agg #[ai l,ar s,ai m,ah e]] w λex w'=>ex=.returned (ar (!gT (l,s,m,e)))/\Bw w w':=by
 obtain⟨g,hg⟩:=aK (dY (aM (s,m,e)));have hs:=λW=>uZ s m e g hg W hx;have hz:(!gT (l,s,m,e))=decide (g=0):=by unfold gT;rw[hg];by_cases h:g=0<;>simp[h]
 rw[hz];have Hs:=aj hs;clear hs hz hg hx;obtain⟨W,dw,Hb,Hx⟩:=jT w 67 [ai l,ar s,ai m,ah e];obtain⟨x0,x1,x2,x3⟩:=Hx.out.c4;go_enter Tryz.func99,Tryz.ntmps99;go_wp2_with fail;refine(Hs.out _).mono ?_;rintro e w1 ⟨rfl,ag⟩;clear x0 x1 x2 x3;obtain⟨Hx,x0,x1,x2,x3⟩:=dK Hx ag;replace Hb:=aF Hb ag;clear ag;go_wp2;refine bodyPost_ret (results_tmp rfl _ _ _) rfl ⟨?_,Hb.out⟩;by_cases h:g=0<;>simp[h]
theorem arO (l:List UInt8)(s:Bool)(m:List UInt8)(e:Int)(V:Int)(bv:Nat)(w:World)(hv:w.cell? ⟨bv,0,none⟩=some (ah V))(hl:l.length<=9223372036854775807):
 Calls Tryz.prog 156 #[.agg #[ai l,ar s,ai m,ah e],.pointer (some ⟨bv,0,none⟩)] w λex w'=>ex=.returned (ar (!eU l V))/\Bw w w':=by
 have hm:=λW=>Ea l V W hl;obtain⟨t,ht⟩:=aK (eU l V);rw[ht]at hm⊢;obtain⟨Hm,Hv⟩:=aZ hm hv;clear hm ht hv;obtain⟨W,dw,Hb,Hx⟩:=jT w 67 [ai l,ar s,ai m,ah e];obtain⟨x0,x1,x2,x3⟩:=Hx.out.c4;have hv2:=cell_later Hb.out Hv.out;go_enter Tryz.func156,Tryz.ntmps156;go_wp2_with fail;refine(Hm.out _).mono ?_;rintro e w1 ⟨rfl,ag⟩;clear x0 x1 x2 x3;obtain⟨Hx,x0,x1,x2,x3⟩:=dK Hx ag;replace Hb:=aF Hb ag;clear ag hv2;go_wp2;refine bodyPost_ret (results_tmp rfl _ _ _) rfl ⟨rfl,Hb.out⟩
def nE {α:Type}(p:α->Bool):List α->Nat->Int
 |[],_=>-1
 |v::l,k=>if p v then(k:Int)else nE p l (k+1)
theorem adV {α:Type}(p:α->Bool)(l:List α)(k n:Nat)(h:n<l.length):nE p (l.drop n) k=if p l[n]then(k:Int)else nE p (l.drop (n+1)) (k+1):=by rw[List.drop_eq_getElem_cons h];rfl
theorem adU {α:Type}(p:α->Bool)(l:List α)(k:Nat):decide (0<=nE p l k)=l.any p:=by
 induction l generalizing k with
 |nil=>rfl
 | cons v l ih=>
   unfold nE;rw[List.any_cons];by_cases h:p v=true
   . rw[if_pos h,h,Bool.true_or];simp
   . rw[if_neg h,ih];simp[h]
theorem adW {α:Type}(p:α->Bool)(l:List α)(k:Nat):(nE p l k= -1/\∀x∈l,p x=false)\/∃i,∃h:i<l.length,nE p l k=((k+i:Nat):Int)/\p l[i]=true/\∀j (hj:j<i),p (l[j]'zo)=false:=by
 induction l generalizing k with
 |nil=>exact .inl ⟨rfl,λx hx=>by cases hx⟩
 | cons v l ih=>
   unfold nE;by_cases h:p v=true
   . rw[if_pos h];exact .inr ⟨0,by simp,rfl,h,λj hj=>by omega⟩
   . rw[if_neg h];rcases ih (k+1)with⟨h1,h2⟩ |⟨i,h1,h2,h3,h4⟩
     . exact .inl ⟨h1,λx hx=>by rcases List.mem_cons.1 hx with rfl|hx;simpa using h;exact h2 x hx⟩
     . refine .inr ⟨i+1,by simpa using h1,by rw[h2];congr 1;omega,by simpa using h3,λj hj=>?_⟩;cases j with
       |zero=>simpa using h
       |succ j=>simpa using h4 j zo
structure Pv where
 V:Int
 a:Option Addr
 n:Nat
 c:Nat
def mN (p:Pv):List Value:=[ah p.V,.slice p.a p.n p.c]
theorem At.aBm {w:World}{a:Option Addr}{ps:List Pv}(h:At w a (ps.flatMap mN))(k:Nat)(hk:k<ps.length){V:Int}{a':Option Addr}{n c:Nat}(hx:ps[k]=⟨V,a',n,c⟩):
 ∃b o,a=some ⟨b,o,none⟩/\bY w b (o+k*2) [ah V,.slice a' n c]:=by
 obtain⟨b,o,hab,hcs⟩:=h.elem (f:=mN) (sz:=2) (λ_=>rfl) zd k hk;refine⟨b,o,hab,λj hj=>?_⟩;have:=hcs j hj;rw[hx]at this;rw[this];unfold mN;rw[List.getElem?_eq_getElem (by simpa using hj)]
theorem Un (a:Option Addr)(n cap:Nat)(vals:List aR)(gf:Nat)(lb:Array Value)(p:aR->Bool)(w:World)(hn:vals.length=n)(hl:n<=1099511627776)(ha:At w a (vals.flatMap aY))
 (eg:∀args w,(callFunc gf args).run Tryz.prog w=.ok (.enter gf args) w)
 (hcl:∀x∈vals,∀W,Bw w W->Calls Tryz.prog gf (#[.agg #[ai x.1,ar x.2.1,ai x.2.2.1,ah x.2.2.2]]++lb) W λe w'=>e=.returned (ar (p x))/\Bw W w'):
 Calls Tryz.prog 134 #[.slice a n cap,.func (.func gf) #[] lb] w λe w'=>e=.returned (ah (nE p vals 0))/\Bw w w':=by
 obtain⟨Hn,Ha,fY,sY⟩:=eN hn ha hcl eg;clear hn ha hcl eg;have Hb:Hid (Bw w w):=Below.refl _ _;go_enter Tryz.func134,Tryz.ntmps134;go_wp2_with fail;go_loopw[5,8] (λ_ i wr=>∃k:Nat,k<=n/\i=ah (k:Int)/\nE p vals 0=nE p (vals.drop k) k/\Bw w wr) (λ_ i _=>n-(intOf i).toNat);case atStart=>exact⟨0,Nat.zero_le _,rfl,rfl,Hb.out⟩
 case round=>
  clear Hb;obtain⟨k,hk,rfl,iJ,pb⟩:=hrel;obtain⟨pF,Hb⟩:=aZ iJ pb;clear iJ pb;by_cases hlt:k<n
  . have bM:k<vals.length:=by rw[Hn.out];exact hlt
    obtain⟨l,s,m,e,hx⟩:∃l s m e,vals[k]=(l,s,m,e):=⟨_,_,_,_,rfl⟩;obtain⟨b,o,hab,cw⟩:=(Ha.out.below Hb.out).term k bM hx;obtain⟨q0,q1,q2,q3⟩:=cw.w4;have bK:=im n cap k (k:Int) hab hlt rfl;have hcall:=fY.out _ (List.getElem_mem bM) wr Hb.out;have hstep:=adV p vals k k bM;rw[<-pF.out]at hstep;rw[hx]at hcall hstep;obtain⟨kD,qN⟩:=aZ hstep hcall;have vW:=sY.out;clear cw hab hx hstep hcall;go_wp2_with fail;refine qN.out.mono ?_;rintro e9 w1 ⟨rfl,hb1⟩;replace Hb:=aj (aV Hb.out hb1);clear hb1 q0 q1 q2 q3 bK vW;obtain⟨t,ht⟩:=aK (p (l,s,m,e));rw[ht]at kD⊢;clear ht;cases t with
    |true=>go_wp2;refine bodyPost_ret (results_tmp rfl _ _ _) rfl ⟨?_,Hb.out⟩;have h:=kD.out;rw[if_pos (by trivial)]at h;rw[h];rfl
    | false=>
      go_wp2;go_roundw;case rel=>exact⟨k+1,by omega,by go_num,by have h:=kD.out;rw[if_neg zd]at h;exact h,Hb.out⟩
      case measure=>simp[intOf];omega
  . obtain rfl:k=n:=by omega
    go_wp2;refine bodyPost_ret (results_tmp rfl _ _ _) rfl ⟨?_,Hb.out⟩;have h:=pF.out;rw[List.drop_of_length_le (by rw[Hn.out];exact Nat.le_refl _)]at h;rw[h];rfl
theorem amV (a:Option Addr)(n cap:Nat)(vals:List aR)(gf:Nat)(lb:Array Value)(p:aR->Bool)(w:World)(hn:vals.length=n)(hl:n<=1099511627776)(ha:At w a (vals.flatMap aY))
 (eg:∀args w,(callFunc gf args).run Tryz.prog w=.ok (.enter gf args) w)
 (hcl:∀x∈vals,∀W,Bw w W->Calls Tryz.prog gf (#[.agg #[ai x.1,ar x.2.1,ai x.2.2.1,ah x.2.2.2]]++lb) W λe w'=>e=.returned (ar (p x))/\Bw W w'):
 Calls Tryz.prog 155 #[.slice a n cap,.func (.func gf) #[] lb] w λe w'=>e=.returned (ar (vals.any p))/\Bw w w':=by
 have h1:=Un a n cap vals gf lb p w hn hl ha eg hcl;rw[<-adU p vals 0];generalize nE p vals 0=i at*;have H1:=aj h1;clear h1 hcl eg ha hn;have Hb:Hid (Bw w w):=Below.refl _ _;go_enter Tryz.func155,Tryz.ntmps155;go_wp2_with fail;refine(H1.out).mono ?_;rintro e w1 ⟨rfl,ag⟩;replace Hb:=aF Hb ag;clear ag;go_wp2;exact bodyPost_ret (v:=ar (decide (0<=i))) (by simp[results,Tryz.results155,go_sem]) rfl ⟨rfl,di⟩
theorem aqe (a:Option Addr)(n cap:Nat)(vals:List Pv)(gf:Nat)(lb:Array Value)(p:Pv->Bool)(w:World)(hn:vals.length=n)(hl:n<=1099511627776)(ha:At w a (vals.flatMap mN))
 (eg:∀args w,(callFunc gf args).run Tryz.prog w=.ok (.enter gf args) w)
 (hcl:∀x∈vals,∀W,Bw w W->Calls Tryz.prog gf (#[.agg #[ah x.V,.slice x.a x.n x.c]]++lb) W λe w'=>e=.returned (ar (p x))/\Bw W w'):
 Calls Tryz.prog 133 #[.slice a n cap,.func (.func gf) #[] lb] w λe w'=>e=.returned (ah (nE p vals 0))/\Bw w w':=by
 obtain⟨Hn,Ha,fY,sY⟩:=eN hn ha hcl eg;clear hn ha hcl eg;have Hb:Hid (Bw w w):=Below.refl _ _;go_enter Tryz.func133,Tryz.ntmps133;go_wp2_with fail;go_loopw[5,8] (λ_ i wr=>∃k:Nat,k<=n/\i=ah (k:Int)/\nE p vals 0=nE p (vals.drop k) k/\Bw w wr) (λ_ i _=>n-(intOf i).toNat);case atStart=>exact⟨0,Nat.zero_le _,rfl,rfl,Hb.out⟩
 case round=>
  clear Hb;obtain⟨k,hk,rfl,iJ,pb⟩:=hrel;obtain⟨pF,Hb⟩:=aZ iJ pb;clear iJ pb;by_cases hlt:k<n
  . have bM:k<vals.length:=by rw[Hn.out];exact hlt
    obtain⟨V,a1,n1,c1,hx⟩:∃V a1 n1 c1,vals[k]=⟨V,a1,n1,c1⟩:=⟨_,_,_,_,rfl⟩;obtain⟨b,o,hab,cw⟩:=(Ha.out.below Hb.out).aBm k bM hx;obtain⟨q0,q1⟩:=cw.w2;have bK:=yQ n cap k (k:Int) hab hlt rfl;have hcall:=fY.out _ (List.getElem_mem bM) wr Hb.out;have hstep:=adV p vals k k bM;rw[<-pF.out]at hstep;rw[hx]at hcall hstep;obtain⟨kD,qN⟩:=aZ hstep hcall;have vW:=sY.out;clear cw hab hx hstep hcall;go_wp2_with fail;refine qN.out.mono ?_;rintro e9 w1 ⟨rfl,hb1⟩;replace Hb:=aj (aV Hb.out hb1);clear hb1 q0 q1 bK vW;obtain⟨t,ht⟩:=aK (p ⟨V,a1,n1,c1⟩);rw[ht]at kD⊢;clear ht;cases t with
    |true=>go_wp2;refine bodyPost_ret (results_tmp rfl _ _ _) rfl ⟨?_,Hb.out⟩;have h:=kD.out;rw[if_pos (by trivial)]at h;rw[h];rfl
    | false=>
      go_wp2;go_roundw;case rel=>exact⟨k+1,by omega,by go_num,by have h:=kD.out;rw[if_neg zd]at h;exact h,Hb.out⟩
      case measure=>simp[intOf];omega
  . obtain rfl:k=n:=by omega
    go_wp2;refine bodyPost_ret (results_tmp rfl _ _ _) rfl ⟨?_,Hb.out⟩;have h:=pF.out;rw[List.drop_of_length_le (by rw[Hn.out];exact Nat.le_refl _)]at h;rw[h];rfl
theorem amW (a:Option Addr)(n cap:Nat)(vals:List Pv)(gf:Nat)(lb:Array Value)(p:Pv->Bool)(w:World)(hn:vals.length=n)(hl:n<=1099511627776)(ha:At w a (vals.flatMap mN))
 (eg:∀args w,(callFunc gf args).run Tryz.prog w=.ok (.enter gf args) w)
 (hcl:∀x∈vals,∀W,Bw w W->Calls Tryz.prog gf (#[.agg #[ah x.V,.slice x.a x.n x.c]]++lb) W λe w'=>e=.returned (ar (p x))/\Bw W w'):
 Calls Tryz.prog 95 #[.slice a n cap,.func (.func gf) #[] lb] w λe w'=>e=.returned (ar (vals.any p))/\Bw w w':=by
 have h1:=aqe a n cap vals gf lb p w hn hl ha eg hcl;rw[<-adU p vals 0];generalize nE p vals 0=i at*;have H1:=aj h1;clear h1 hcl eg ha hn;have Hb:Hid (Bw w w):=Below.refl _ _;go_enter Tryz.func95,Tryz.ntmps95;go_wp2_with fail;refine(H1.out).mono ?_;rintro e w1 ⟨rfl,ag⟩;replace Hb:=aF Hb ag;clear ag;go_wp2;exact bodyPost_ret (v:=ar (decide (0<=i))) (by simp[results,Tryz.results95,go_sem]) rfl ⟨rfl,di⟩
end Go.Proofs.YtnjfebkelecgaaaGreatDoor
namespace Go.Proofs.YtnjfebkelecgaaaGreatDoor
open Go.RowKit
def gj (w:World)(base n:Nat)(R:List (List Dyadic))(k:Nat)(v:Value):Prop:=
 ∃vals:List Value,vals.length=k/\w.ownsRow base 32 1 v k vals/\(∀i (h:i<vals.length),w.ownsRow base 48 3 vals[i] n (dC (R.getD i [])))/\
  ∀i j (hi:i<vals.length) (hj:j<vals.length) g,vals[i].ownBlock=some g->vals[j].ownBlock=some g->i=j
theorem gj.nil (w:World)(base n:Nat)(R:List (List Dyadic)):gj w base n R 0 (.slice none 0 0):=
 ⟨[],rfl,World.ownsRow_nil _ _ _ _,λ_ h=>absurd h (Nat.not_lt_zero _),λ_ _ h=>absurd h (Nat.not_lt_zero _)⟩
theorem gj.below {w w':World}{base n k:Nat}{R:List (List Dyadic)}{v:Value}(h:gj w base n R k v)(hb:Bw w w'):gj w' base n R k v:=by obtain⟨vals,hl,ho,hi,hd⟩:=h;exact⟨vals,hl,ownsRow_below ho hb,λi h=>ownsRow_below (hi i h) hb,hd⟩
theorem gj.push {w w':World}{base n k:Nat}{R:List (List Dyadic)}{v v' x:Value}{vals:List Value}(hl:vals.length=k)(hov:w.ownsRow base 32 1 v k vals)(hi:∀i (h:i<vals.length),w.ownsRow base 48 3 vals[i] n (dC (R.getD i [])))
 (hd:∀i j (hi:i<vals.length) (hj:j<vals.length) g,vals[i].ownBlock=some g->vals[j].ownBlock=some g->i=j)
 (hx:w.ownsRow base 48 3 x n (dC (R.getD k []))) (js:∀g,x.ownBlock=some g->∀i (h:i<vals.length),vals[i].ownBlock≠some g)
 (ho:w'.ownsRow base 32 1 v' (k+1) (vals++[x])) (hg:w.grownBy w' v.ownBlock):gj w' base n R (k+1) v':=by
 refine⟨_,by simp[hl],ho,λi h=>?_,λi j h1 h2 g e1 e2=>?_⟩
 . by_cases hk:i<vals.length
   . rw[List.getElem_append_left hk];exact(hi i hk).kept hg (Jz (hi i hk) hov zd)
   . have hik:i=k:=by simp at h;omega
     subst hik;rw[List.getElem_append_right zo];simp only[hl,Nat.sub_self,List.getElem_cons_zero];exact hx.kept hg (Jz hx hov zd)
 . by_cases k1:i<vals.length
   . rw[List.getElem_append_left k1]at e1;by_cases k2:j<vals.length
     . rw[List.getElem_append_left k2]at e2;exact hd i j k1 k2 g e1 e2
     . have hjk:j=k:=by simp at h2;omega
       subst hjk;rw[List.getElem_append_right zo]at e2;simp only[hl,Nat.sub_self,List.getElem_cons_zero]at e2;exact absurd e1 (js g e2 i k1)
   . have hik:i=k:=by simp at h1;omega
     subst hik;rw[List.getElem_append_right zo]at e1;simp only[hl,Nat.sub_self,List.getElem_cons_zero]at e1;by_cases k2:j<vals.length
     . rw[List.getElem_append_left k2]at e2;exact absurd e2 (js g e1 j k2)
     . simp at h2;omega
theorem gj.tbl {w:World}{base n k:Nat}{R:List (List Dyadic)}{v:Value}(h:gj w base n R k v)(hk:R.length=k)(hn:∀r∈R,r.length=n):∃a c,v=.slice a k c/\k<=c/\cM w a (R.map λr=>r.map canon):=by
 obtain⟨vals,hl,ho,hi,hd⟩:=h;obtain⟨a,c,hv,hat,_⟩:=dU ho;subst hv;refine⟨a,c,rfl,NG ho,vals,by simp[hl,hk],hat,λi h1 h2=>?_⟩;obtain⟨a1,c1,e1,e2,_⟩:=dU (hi i h2);have hi1:i<R.length:=by simpa using h1
 have eg:R.getD i []=R[i]:=by simp[hi1]
 rw[eg]at e2;refine⟨a1,c1,?_,?_⟩
 . rw[e1];simp[hn _ (List.getElem_mem hi1)]
 . rw[List.getElem_map,<-qX];exact e2
theorem am3 (ds:List Dyadic)(j:Nat)(hj:j<ds.length):(dC ds)[j*3]?=some (ar (aI (dN ds[j])))/\(dC ds)[j*3+1]?=some (ai (nt (dN ds[j]).natAbs))/\(dC ds)[j*3+2]?=some (ah (dE ds[j])):=by have h:=λi (hi:i<3)=>flat_get (λd=>cz (canon d)) 3 (λ_=>rfl) ds j i hj hi;unfold dC;exact⟨(h 0 zd),(h 1 zd),(h 2 zd)⟩
theorem gj.num {w:World}{base n L:Nat}{R:List (List Dyadic)}{v:Value}(h:gj w base n R L v)(i j:Nat)(hi:i<L)(hj:j<n)(hR:R.length=L)(hr:(R.getD i []).length=n):
 ∃go cap g c,v=.slice (some ⟨go,0,none⟩) L cap/\base<=go/\base<=g/\g≠go/\w.cell? ⟨go,i,none⟩=some (.slice (some ⟨g,0,none⟩) n c)/\
  bY w g (j*3) [ar (aI (dN ((R.getD i []).getD j 0))),ai (nt (dN ((R.getD i []).getD j 0)).natAbs),ah (dE ((R.getD i []).getD j 0))]/\(∀o,w.frozen? ⟨g,o,none⟩=false)/\
  ∀y:Dyadic,gj (((w.setCell ⟨g,j*3,none⟩ (ar (aI (dN y)))).setCell ⟨g,j*3+1,none⟩ (ai (nt (dN y).natAbs))).setCell ⟨g,j*3+2,none⟩ (ah (dE y))) base n (R.set i ((R.getD i []).set j y)) L v:=by
 obtain⟨vals,hl,ho,hv,hd⟩:=h;have hi2:i<vals.length:=by omega
 have hrow:=hv i hi2;have hxl:(dC (R.getD i [])).length=n*3:=by rw[Rk,hr]
 obtain⟨a0,cap,rfl,_,_⟩:=dU ho;obtain⟨a1,c,e1,_,hab⟩:=dU hrow;rw[e1]at hrow;rcases ho.2 with⟨h1,_⟩ |⟨go,cap',cur,h1,jL,hgo,_⟩
 . simp at h1;omega
 simp only[Value.slice.injEq,true_and]at h1;obtain⟨rfl,rfl⟩:=h1;have hrow2:=hrow;rcases hrow.2 with⟨h1,_⟩ |⟨g,c',cur',h1,hbg,hgg,_⟩
 . simp at h1;omega
 simp only[Value.slice.injEq,true_and]at h1;obtain⟨rfl,rfl⟩:=h1;have hne:g≠go:=by rintro rfl;rw[hgo]at hgg;simp at hgg
 have hat:=am3 (R.getD i []) j zo;have hg0:(R.getD i []).getD j 0=(R.getD i [])[j]'zo:=by rw[List.getD_eq_getElem?_getD,List.getElem?_eq_getElem zo];rfl
 have hc0:=nS hrow (j*3) zo;have hc1:=nS hrow (j*3+1) zo;have hc2:=nS hrow (j*3+2) zo;rw[<-List.getElem?_eq_getElem]at hc0 hc1 hc2;rw[hat.1]at hc0;rw[hat.2.1]at hc1;rw[hat.2.2]at hc2;refine⟨go,cap,g,c,rfl,jL,hbg,hne,?_,by rw[hg0];exact kX hc0 hc1 hc2,λo=>?_,λy=>?_⟩
 . rw[nS ho i zo,e1]
 . have h4:aC w g 48 cur'.toList:=by unfold aC;simpa using hgg
   exact h4.free o
 . refine⟨vals,hl,?_,λm hm=>?_,hd⟩
   . have hn:∀(o:Nat) (u:Value) (W:World),W.ownsRow base 32 1 (.slice (some ⟨go,0,none⟩) L cap) L vals->(W.setCell ⟨g,o,none⟩ u).ownsRow base 32 1 (.slice (some ⟨go,0,none⟩) L cap) L vals:=λo u W h=>ownsRow_setCell_other h (by simpa[Value.ownBlock]using hne.symm) _;exact hn _ _ _ (hn _ _ _ (hn _ _ _ ho))
   . by_cases xe:m=i
     . subst xe;have hs:(R.set m ((R.getD m []).set j y)).getD m []=(R.getD m []).set j y:=by rw[List.getD_eq_getElem?_getD,List.getElem?_set_self zo];rfl
       rw[hs,e1,<-ZV];exact mL (mL (mL hrow _ _) _ _) _ _
     . have hs:(R.set i ((R.getD i []).set j y)).getD m []=R.getD m []:=by rw[List.getD_eq_getElem?_getD,List.getElem?_set_ne (λe=>xe e.symm),<-List.getD_eq_getElem?_getD]
       rw[hs];have hno:vals[m].ownBlock≠some g:=λe=>xe (hd m i hm hi2 g e (by rw[e1];rfl));exact ownsRow_setCell_other (ownsRow_setCell_other (ownsRow_setCell_other (hv m hm) hno _) hno _) hno _
end Go.Proofs.YtnjfebkelecgaaaGreatDoor
namespace Go.Proofs.YtnjfebkelecgaaaGreatDoor
def jb (m:List UInt8):List aR->Nat
 |[]=>0
 |x::l=>if Op.bytesLess x.1 m then jb m l+1 else 0
theorem alp (m:List UInt8)(l:List aR):jb m l<=l.length:=by
 induction l with
 |nil=>exact Nat.le_refl _
 |cons x l ih=>unfold jb;split<;>simp<;>omega
def ir (l:List aR)(x:aR):List aR:=match l with
 |[]=>[(x.1,canon (aM x.2))]
 |y::l=>if Op.bytesLess y.1 x.1 then y::ir l x else if y.1=x.1 then(x.1,canon (aM y.2+aM x.2))::l else(x.1,canon (aM x.2))::y::l
theorem afa (l:List aR)(x:aR):ir l x=l.take (jb x.1 l)++(if(l.drop (jb x.1 l)).head?.map (·.1)=some x.1 then(x.1,canon (aM ((l.drop (jb x.1 l)).headD default).2+aM x.2))::l.drop (jb x.1 l+1)else(x.1,canon (aM x.2))::l.drop (jb x.1 l)):=by
 induction l with
 |nil=>simp[ir,jb]
 | cons y l ih=>
   unfold ir jb;by_cases h:Op.bytesLess y.1 x.1=true
   . rw[if_pos h,if_pos h,ih,show List.drop (jb x.1 l+1) (y::l)=List.drop (jb x.1 l) l from rfl,show List.drop (jb x.1 l+1+1) (y::l)=List.drop (jb x.1 l+1) l from rfl,List.take_succ_cons,List.cons_append]
   . rw[if_neg h,if_neg h];by_cases e:y.1=x.1
     . rw[if_pos e];simp[e]
     . rw[if_neg e];simp[e]
theorem amK (l:List aR)(x:aR)(m:List UInt8):cK (ir l x) m=cK l m+if x.1=m then aM x.2 else 0:=by
 induction l with
 |nil=>simp only[ir,cK,cN];grind
 | cons y l ih=>
   unfold ir;split
   . simp only[cK,ih];grind
   . split
     . rename_i h e
       simp only[cK,cN,e];split<;>grind
     . simp only[cK,cN];grind
theorem atE (l:List aR)(x:aR):∀y∈ir l x,y.1=x.1\/∃z∈l,z.1=y.1:=by
 induction l with
 |nil=>intro y hy;simp only[ir,List.mem_singleton]at hy;rw[hy];exact .inl rfl
 | cons z l ih=>
   intro y hy;unfold ir at hy;split at hy
   . rcases List.mem_cons.1 hy with rfl|hy
     . exact .inr ⟨y,by simp,rfl⟩
     . rcases ih y hy with h|⟨u,hu,e⟩
       . exact .inl h
       . exact .inr ⟨u,by simp[hu],e⟩
   . split at hy
     . rcases List.mem_cons.1 hy with rfl|hy
       . exact .inl rfl
       . exact .inr ⟨y,by simp[hy],rfl⟩
     . rcases List.mem_cons.1 hy with rfl|hy
       . exact .inl rfl
       . exact .inr ⟨y,hy,rfl⟩
theorem atH (l:List aR)(x:aR)(h:Up l):Up (ir l x):=by
 induction l with
 |nil=>exact List.pairwise_singleton _ _
 | cons y l ih=>
   obtain⟨h1,h2⟩:=List.pairwise_cons.1 h;unfold ir;split
   . rename_i hy
     refine List.pairwise_cons.2 ⟨λz hz=>?_,ih h2⟩;rcases atE l x z hz with e|⟨u,hu,e⟩
     . rw[e];exact hy
     . rw[<-e];exact h1 u hu
   . rename_i hy
     split
     . rename_i e
       refine List.pairwise_cons.2 ⟨λz hz=>?_,h2⟩;show Op.bytesLess x.1 z.1=true
       rw[<-e];exact h1 z hz
     . rename_i e
       have hlt:Op.bytesLess x.1 y.1=true:=by
        cases hc:Op.bytesLess x.1 y.1 with
        |true=>rfl
        |false=>exact absurd (CK (by simpa using hy) hc) e
       refine List.pairwise_cons.2 ⟨λz hz=>?_,h⟩;show Op.bytesLess x.1 z.1=true
       rcases List.mem_cons.1 hz with rfl|hz
       . exact hlt
       . exact CJ hlt (h1 z hz)
theorem atD (l:List aR)(x:aR):(ir l x).length<=l.length+1:=by
 induction l with
 |nil=>exact Nat.le_refl _
 | cons y l ih=>
   unfold ir;split
   . simp only[List.length_cons];omega
   . split<;>simp
def iX (l:List aR):List aR:=l.foldl ir []
theorem Ek (l:List aR)(x:aR):iX (l++[x])=ir (iX l) x:=by unfold iX;rw[List.foldl_append];rfl
theorem JF {Q:List aR->Prop}(h0:Q [])(h1:∀l x,Q l->Q (l++[x]))(l:List aR):Q l:=by
 have h:∀r:List aR,Q r.reverse:=by
  intro r;induction r with
  |nil=>exact h0
  |cons x r ih=>rw[List.reverse_cons];exact h1 _ _ ih
 have:=h l.reverse;rwa [List.reverse_reverse]at this
theorem atL (l:List aR):Up (iX l):=JF (Q:=λl=>Up (iX l)) List.Pairwise.nil (λl x ih=>by rw[Ek];exact atH _ _ ih) l
theorem amL (l:List aR)(m:List UInt8):cK (iX l) m=cK l m:=JF (Q:=λl=>cK (iX l) m=cK l m) rfl (λl x ih=>by rw[Ek,amK,ih,Ao];simp only[cK];grind) l
theorem atJ (l:List aR):(iX l).length<=l.length:=JF (Q:=λl=>(iX l).length<=l.length) (Nat.le_refl _) (λl x ih=>by rw[Ek];have:=atD (iX l) x;simp;omega) l
theorem atC (l:List aR)(x:aR)(h:∀t∈l,t.2=canon (aM t.2)):∀t∈ir l x,t.2=canon (aM t.2):=by
 have hc:∀X:Dyadic,canon X=canon (aM (canon X)):=λX=>by rw[cN]
 induction l with
 |nil=>intro t ht;simp only[ir,List.mem_singleton]at ht;rw[ht];exact hc _
 | cons y l ih=>
   intro t ht;unfold ir at ht;split at ht
   . rcases List.mem_cons.1 ht with rfl|ht
     . exact h _ zm
     . exact ih (λt ht=>h t (by simp[ht])) t ht
   . split at ht
     . rcases List.mem_cons.1 ht with rfl|ht
       . exact hc _
       . exact h t (by simp[ht])
     . rcases List.mem_cons.1 ht with rfl|ht
       . exact hc _
       . exact h t ht
theorem afe (l:List aR):∀t∈iX l,t.2=canon (aM t.2):=JF (Q:=λl=>∀t∈iX l,t.2=canon (aM t.2)) (λt ht=>by cases ht) (λl x ih=>by rw[Ek];exact atC _ _ ih) l
theorem aoo (l:List aR):(iX l).filter gT=bU l:=by refine aaD ⟨List.Pairwise.filter _ (atL l),λx hx=>?_⟩ (CO l) (λm=>by rw[ZK,amL,uP]);obtain⟨h1,h2⟩:=List.mem_filter.1 hx;refine⟨(wK _).1 ?_,afe l x h1⟩;unfold gT at h2;simpa using h2
end Go.Proofs.YtnjfebkelecgaaaGreatDoor
