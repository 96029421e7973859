/- Forms over a simplex,as plain lists of numbers: lifted and split,in whatever order;sums;corners. No program here. -/
import Derived.Test.YtnjfebkelecgaaaGreatDoorZ11
import Derived.Test.YtnjfebkelecgaaaGreatDoorZ6
import Derived.Test.YtnjfebkelecgaaaGreatDoorZ9
import Derived.Test.YtnjfebkelecgaaaGreatDoorZ7
set_option linter.all false
set_option maxRecDepth 100000
set_option maxHeartbeats 16000000
namespace Go.Proofs.YtnjfebkelecgaaaGreatDoor
def sumTo (f:Nat->Dyadic):Nat->Dyadic
 |0=>0
 |n+1=>sumTo f n+f n
def sumTo_congr {f g:Nat->Dyadic}(n:Nat)(h:∀k,k<n->f k=g k):sumTo f n=sumTo g n:=by
 induction n with
 |zero=>rfl
 |succ n ih=>rw[sumTo,sumTo,ih (λk hk=>h k zo),h n zo]
def aiJ (f g:Nat->Dyadic)(n:Nat):sumTo (λk=>f k+g k) n=sumTo f n+sumTo g n:=by
 induction n with
 |zero=>simp only[sumTo];grind
 |succ n ih=>simp only[sumTo,ih];grind
def aiK (c:Dyadic)(f:Nat->Dyadic)(n:Nat):sumTo (λk=>c*f k) n=c*sumTo f n:=by
 induction n with
 |zero=>simp only[sumTo];grind
 |succ n ih=>simp only[sumTo,ih];grind
def azj (n:Nat):sumTo (λ_=>0) n=0:=by
 induction n with
 |zero=>rfl
 |succ n ih=>rw[sumTo,ih];grind
def auk {α:Type}(i n:Nat)(h:n≠i)(a b:α):(if i<n+1 then a else b)=if i<n then a else b:=by
 by_cases h1:i<n
 . rw[if_pos h1,if_pos zo]
 . rw[if_neg h1,if_neg zo]
def ch :Nat->Nat->Nat
 |_,0=>1
 |0,_+1=>0
 |n+1,k+1=>ch n k+ch n (k+1)
def kQ (x:List Nat)(k:Nat):List Nat:=x.set k (x.getD k 0+1)
def at6 (x:List Nat)(k:Nat):(kQ x k).length=x.length:=by simp[kQ]
def arn {x y:List Nat}(hl:x.length=y.length)(h:∀l,l<x.length->x.getD l 0=y.getD l 0):x=y:=by apply List.ext_getElem hl;intro l h1 h2;have:=h l h1;simpa[h1,h2]using this
end Go.Proofs.YtnjfebkelecgaaaGreatDoor
namespace Go.Proofs.YtnjfebkelecgaaaGreatDoor
open Go.RowKit
attribute [local go_sem ↓] Go.wp_at_zero Go.wp_at_succ
end Go.Proofs.YtnjfebkelecgaaaGreatDoor
namespace Go.Proofs.YtnjfebkelecgaaaGreatDoor
def Yt (D:Nat->Dyadic)(q n:Nat)(hq:q<n)(h:∀k,k<n->k≠q->D k=0):sumTo D n=D q:=by
 have key:∀m,m<=n->sumTo D m=if q<m then D q else 0:=by
  intro m;induction m with
  |zero=>intro _;simp[sumTo]
  | succ m ih=>
    intro hm;rw[sumTo,ih zo];by_cases h1:m=q
    . subst h1;rw[if_neg (Nat.lt_irrefl _),if_pos (Nat.lt_succ_self _)];grind
    . rw[h m zo h1];rw[auk q m h1];grind
 rw[key n (Nat.le_refl _),if_pos hq]
def PC {α:Type}{l:List α}(h:l.Nodup){i j:Nat}{hi:i<l.length}{hj:j<l.length}(e:l[i]=l[j]):i=j:=by
 have h2:=List.pairwise_iff_getElem.1 h;rcases Nat.lt_trichotomy i j with h1|h1|h1
 . exact absurd e (h2 i j hi hj h1)
 . exact h1
 . exact absurd e.symm (h2 j i hj hi h1)
abbrev ju:=List (List Nat×Dyadic)
def mH (g:List Nat->Dyadic):ju->Dyadic
 |[]=>0
 |p::ps=>p.2*g p.1+mH g ps
def ahQ (g:List Nat->Dyadic)(a b:ju):mH g (a++b)=mH g a+mH g b:=by
 induction a with
 |nil=>simp only[List.nil_append,mH];grind
 |cons p a ih=>simp only[List.cons_append,mH,ih];grind
def awG (g:List Nat->Dyadic)(r:Nat->List Nat)(c:Nat->Dyadic)(n:Nat):mH g ((List.range n).map λk=>(r k,c k))=sumTo (λk=>c k*g (r k)) n:=by
 induction n with
 |zero=>rfl
 |succ n ih=>rw[List.range_succ,List.map_append,ahQ,ih,sumTo];simp only[List.map_cons,List.map_nil,mH];grind
def awF (g:List Nat->Dyadic)(P:Nat->ju)(n:Nat):mH g ((List.range n).flatMap P)=sumTo (λk=>mH g (P k)) n:=by
 induction n with
 |zero=>rfl
 |succ n ih=>rw[List.range_succ,List.flatMap_append,ahQ,ih,sumTo];simp only[List.flatMap_cons,List.flatMap_nil,List.append_nil]
def delta (r x:List Nat):Dyadic:=if x=r then 1 else 0
def un (ps:ju)(r:List Nat):Dyadic:=mH (delta r) ps
def qw (h:List Nat->Dyadic)(R:List (List Nat))(cs:List Dyadic):Dyadic:=sumTo (λk=>cs.getD k 0*h (R.getD k [])) R.length
def ajM {g h:List Nat->Dyadic}(R:List (List Nat))(cs:List Dyadic)(hg:∀x∈R,g x=h x):qw g R cs=qw h R cs:=by refine sumTo_congr _ (λk hk=>?_);rw[hg _ (by simp[hk])]
def aAU (h:List Nat->Dyadic)(R:List (List Nat))(hn:R.Nodup)(ps:ju)(hp:∀p∈ps,p.1∈R):qw h R (R.map (un ps))=mH h ps:=by
 have e:qw h R (R.map (un ps))=sumTo (λk=>un ps (R.getD k []) *h (R.getD k [])) R.length:=by refine sumTo_congr _ (λk hk=>?_);simp[hk]
 rw[e];clear e;induction ps with
 |nil=>rw[sumTo_congr (g:=λ_=>0) _ (λk _=>by simp only[un,mH];grind),azj];rfl
 | cons p ps ih=>
   rw[sumTo_congr (g:=λk=>p.2* (delta (R.getD k []) p.1*h (R.getD k []))+un ps (R.getD k []) *h (R.getD k [])) _ (λk _=>by simp only[un,mH];grind),aiJ,ih (λq hq=>hp q (by simp[hq])),aiK];obtain⟨q,hq,EM⟩:=List.mem_iff_getElem.1 (hp p zm)
   rw[Yt _ q _ hq (λk hk hne=>by
    unfold delta;have:p.1≠R.getD k []:=by
     rw[<-EM];have e1:R.getD k []=R[k]:=by simp[hk]
     rw[e1];intro e2;exact hne (PC hn e2).symm
    rw[if_neg this];grind)]
   have e1:R.getD q []=p.1:=by simp[hq,EM]
   rw[e1];unfold delta;rw[if_pos rfl];simp only[mH];grind
def aAT (h:List Nat->Dyadic)(R:List (List Nat))(cs ds:List Dyadic)(hl:cs.length=ds.length):qw h R (List.zipWith (·+·) cs ds)=qw h R cs+qw h R ds:=by
 unfold qw;rw[<-aiJ];refine sumTo_congr _ (λk _=>?_);have:(List.zipWith (·+·) cs ds).getD k 0=cs.getD k 0+ds.getD k 0:=by
  by_cases hk:k<cs.length
  . simp only[List.getD_eq_getElem?_getD,List.getElem?_zipWith];simp[hk,show k<ds.length by omega]
  . have h1:¬k<ds.length:=by omega
    have z:(0:Dyadic)+0=0:=by grind
    simp only[List.getD_eq_getElem?_getD,List.getElem?_zipWith];simp[hk,h1,z]
 rw[this];grind
def qR (R:List (List Nat))(ps:ju):List Dyadic:=R.map (un ps)
def aqa (R:List (List Nat))(ps:ju):(qR R ps).length=R.length:=by simp[qR]
def Bu (n d:Nat)(x:List Nat):Dyadic:=if x.getD n 0=d then 1 else 0
def Yu (x:List Nat)(k v:Nat)(hk:k<x.length):(x.set k v).sum+x.getD k 0=x.sum+v:=by
 induction x generalizing k with
 |nil=>simp at hk
 | cons a x ih=>
   cases k with
   |zero=>simp;omega
   |succ k=>have:=ih k (by simpa using hk);simp at this⊢;omega
def Uk (x:List Nat)(k:Nat):x.getD k 0<=x.sum:=by
 induction x generalizing k with
 |nil=>simp
 | cons a x ih=>
   cases k with
   |zero=>simp
   |succ k=>have:=ih k;simp at this⊢;omega
def Ul (x:List Nat)(k l:Nat)(h:k≠l):x.getD k 0+x.getD l 0<=x.sum:=by
 induction x generalizing k l with
 |nil=>simp
 | cons a x ih=>
   cases k with
   | zero=>cases l with
     |zero=>omega
     |succ l=>have:=Uk x l;simp at this⊢;omega
   | succ k=>cases l with
     |zero=>have:=Uk x k;simp at this⊢;omega
     |succ l=>have:=ih k l zo;simp at this⊢;omega
def agK (x:List Nat)(k:Nat)(hk:k<x.length):(kQ x k).sum=x.sum+1:=by have:=Yu x k (x.getD k 0+1) hk;unfold kQ;omega
def aqj {x y:List Nat}{n d:Nat}(hl:x.length=y.length)(hx:x.sum=d)(hy:y.sum=d)(h1:x.getD n 0=d)(h2:y.getD n 0=d):x=y:=by
 refine arn hl (λl _=>?_);by_cases e:n=l
 . subst e;rw[h1,h2]
 . have:=Ul x n l e;have:=Ul y n l e;omega
def YA (l:Nat->Dyadic)(g:List Nat->Dyadic)(x:List Nat):Dyadic:=sumTo (λk=>l k*g (kQ x k)) x.length
def vk (x:List Nat)(c:Dyadic)(l:Nat->Dyadic):ju:=(List.range x.length).map λk=>(kQ x k,c*l k)
def CU (R:List (List Nat))(cs:List Dyadic)(l:Nat->Dyadic):ju:=(List.range R.length).flatMap λk=>vk (R.getD k []) (cs.getD k 0) l
def awH (g:List Nat->Dyadic)(R:List (List Nat))(cs:List Dyadic)(l:Nat->Dyadic):mH g (CU R cs l)=qw (YA l g) R cs:=by unfold CU;rw[awF];refine sumTo_congr _ (λk _=>?_);unfold vk;rw[awG];unfold YA;rw[<-aiK];exact sumTo_congr _ (λt _=>by grind)
def aiT {R R':List (List Nat)}{cs:List Dyadic}{l:Nat->Dyadic}{n:Nat}(hn:∀x∈R,x.length=n)(h1:∀x∈R,∀k,k<n->kQ x k∈R'):∀p∈CU R cs l,p.1∈R':=by
 intro p hp;unfold CU at hp;rw[List.mem_flatMap]at hp;obtain⟨k,hk,hp⟩:=hp;rw[List.mem_range]at hk;unfold vk at hp;rw[List.mem_map]at hp;obtain⟨t,ht,rfl⟩:=hp;rw[List.mem_range]at ht;have hm:R.getD k []∈R:=by simp[hk]
 exact h1 _ hm t (by rw[hn _ hm]at ht;exact ht)
end Go.Proofs.YtnjfebkelecgaaaGreatDoor
namespace Go.Proofs.YtnjfebkelecgaaaGreatDoor
open Go.RowKit
attribute [local go_sem ↓] Go.wp_at_zero Go.wp_at_succ
def Xt (X:Dyadic)(s:Bool)(m:List UInt8)(e:Int)(b:Bool)(h:(canon X==(s,m,e))= !b)(w':World):
 (if aC (dN X)=s then if(bs (nt (dN X).natAbs)).toList=(bs m).toList then if dE X=e then Result.ok (Next.value (Value.bool false)) w' else Result.ok (Next.value (Value.bool true)) w' else Result.ok (Next.value (Value.bool true)) w' else Result.ok (Next.value (Value.bool true)) w')=Result.ok (Next.value (Value.bool b)) w':=by
 have ht:∀x y:List UInt8,(bs x).toList=(bs y).toList↔x=y:=λx y=>by rw[gX,gX]
 have hc:(canon X==(s,m,e))=decide (aC (dN X)=s/\nt (dN X).natAbs=m/\dE X=e):=by rw[Bool.eq_iff_iff];simp[canon]
 rw[hc]at h;simp only[ht];cases b with
 | false=>
   have h2:aC (dN X)=s/\nt (dN X).natAbs=m/\dE X=e:=by simpa using h
   rw[if_pos h2.1,if_pos h2.2.1,if_pos h2.2.2]
 | true=>
   have h2:¬(aC (dN X)=s/\nt (dN X).natAbs=m/\dE X=e):=by intro h3;rw[decide_eq_true h3]at h;cases h
   by_cases h3:aC (dN X)=s
   . rw[if_pos h3];by_cases h4:nt (dN X).natAbs=m
     . rw[if_pos h4,if_neg (λh5=>h2 ⟨h3,h4,h5⟩)]
     . rw[if_neg h4]
   . rw[if_neg h3]
def Kn (V:Int)(a:Option Addr)(cap N:Nat)(ts:List aQ)(w:World)(hN:ts.length=N)(hn:N<=1048576)(ha:At w a (ts.flatMap aY))(hl:∀t∈ts,t.1.length<=9223372036854775807/\Ok t.2)(hT:aM w):
 Cv 41 #[.agg #[ah V,.slice a N cap]] w (ah (mJ V ts)):=by
 obtain⟨Ha,Hl,HN,fH⟩:=ej ha hl hN hT;obtain⟨R,hR⟩:=aK (mJ V ts);unfold mJ at hR;rw[hN]at hR;rw[show mJ V ts=R by unfold mJ;rw[hN];exact hR];have HR:=ar hR;clear ha hl hN hR hT;obtain⟨W,dK,Hb,Hp⟩:=jD w 24 [ah V,.slice a N cap];obtain⟨p0,p1⟩:=Hp.out.c2;go_enter Tryz.func41,Tryz.ntmps41;go_wp2_with fail;refine(Nk V _).mono ?_;rintro e w1 ⟨rfl,ag⟩;obtain⟨Hp,p0,p1⟩:=bi Hp ag;replace Hb:=az Hb ag;by_cases h1:0<=V/\V<=12
 . by_cases h2:4096<N
   . have h3:(4096:Int)<(N:Int):=by omega
     have hR:=HR.out;rw[if_neg (λh=>h h1),if_pos h2]at hR;clear HR;subst hR;go_wp2;exact bodyPost_ret (v:=ah 3) (by simp[results,Tryz.results41,go_sem]) rfl ⟨rfl,dH⟩
   . have h3:¬(4096:Int)<(N:Int):=by omega
     have h3d:decide ((4096:Int)<(N:Int))=false:=by simp;omega
     have hR:Hid ((if(List.range N).all (ot V ts)then(0:Int)else 1)=R):=by
      show _=_
      have hR:=HR.out;rw[if_neg (λh=>h h1),if_neg h2]at hR;exact hR
     clear HR;obtain⟨cu,mP⟩:=aZ Hb.out Hp.out;clear Hb Hp p0 p1;have p0:w1.cell? ⟨w.heap.size,0,none⟩=some (ah V):=mP.out.cell 0;have p1:w1.cell? ⟨w.heap.size,1,none⟩=some (.slice a N cap):=mP.out.cell 1;go_wp2_with fail;go_loopw[16] (λx wr=>∃k:Nat,k<=N/\x=ah (k:Int)/\(List.range k).all (ot V ts)=true/\au wr w.heap.size 24 [ah V,.slice a N cap]/\Bw w wr) (λx _=>N-(intOf x).toNat);case atStart=>exact⟨0,Nat.zero_le _,rfl,rfl,mP.out,cu.out⟩
     case round=>
      clear cu mP p0 p1;obtain⟨k,hk,rfl,jm,kw,pb⟩:=hrel;by_cases hlt:k<N
      . have hk2:k<ts.length:=by rw[HN.out];exact hlt
        obtain⟨l,s,m,e,hx⟩:∃l s m e,ts[k]=(l,s,m,e):=⟨_,_,_,_,rfl⟩;obtain⟨b,o,hab,cj⟩:=(Ha.out.below pb).term k hk2 hx;have hl2:l.length<=9223372036854775807/\Ok (s,m,e):=by have:=Hl.out _ (List.getElem_mem hk2);rw[hx]at this;exact this
        have egd:ts.getD k default=(l,s,m,e):=by simp[hk2,hx]
        have hgn:(List.range (k+1)).all (ot V ts)=ot V ts k:=by rw[List.range_succ,List.all_append,jm];simp
        have hbad:ot V ts k=false->R=1:=by intro h;rw[<-hR.out,if_neg];intro h5;rw[List.all_eq_true]at h5;have:=h5 k (List.mem_range.2 hlt);rw[h]at this;cases this
        have mD:ot V ts k=(zH V l (s,m,e)&&(k==0||Op.bytesLess (bs (ts.getD (k-1) default).1).toList (bs l).toList)):=by unfold ot;rw[egd]
        have bD:=gJ N cap k (k:Int) hab hlt rfl;obtain⟨X,hX⟩:=aK (aJ (s,m,e));obtain⟨sg,lL⟩:=aK (eG X);have hgt:zH V l (s,m,e)=(eQ l V&& !(sg==0)&&(canon X==(s,m,e))):=by unfold zH;rw[hX,lL]
        rw[hgt]at mD;obtain⟨Hwn,od,bj,rK,xd,LD,HX⟩:=mE cj hl2 pb mD hgn hbad hX;have rN:Hid (eG (aJ (s,m,e))=sg):=by show _=_;rw[hX];exact lL
        have Hp:=ar kw;have HU:Hid (aM wr):=fH.out.below pb;clear cj hl2 mD hgn hbad hX lL hgt egd kw hx;have pj:=ar hab;clear hab;have Hb:=hbz wr;have sz:=pb.size;have jO:Hid (bH wr b (o+k*4) [ai l,aj s,ai m,ah e]):=Hwn.out;obtain⟨p0,p1⟩:=Hp.out.c2;obtain⟨tC,tE,tF,tG⟩:=jO.out.w4;have HU:Hid (aM wr):=HU.out;have P0:=tC;have P1:=tE;have P2:=tF;have P3:=tG;have ahe:=Hp.out.lt;obtain⟨W4,ov,ag,Ht⟩:=cE wr 67 [ai l,aj s,ai m,ah e];replace Hp:=kB Hp ag;replace jO:=kW jO ag;replace HU:=kT HU ag;obtain⟨p0,p1⟩:=Hp.out.c2;obtain⟨tC,tE,tF,tG⟩:=jO.out.w4;obtain⟨t0,t1,t2,t3⟩:=Ht.out.c4;replace Hb:=az Hb ag;clear ag tC tE tF tG jO Hwn;cases hmv:eQ l V with
        | false=>
          have hr:=LD.out (by rw[rK.out,hmv];rfl);subst hr;have pQ:=λW=>Fe l V W (by have:=od.out.1;omega);rw[hmv]at pQ;have mO:=ar pQ;clear pQ;go_wp2_with fail;refine bV (λw'=>aF w' (w.heap.size) 0 (ah V)/\aF w' (w.heap.size) 1 (.slice a N cap)/\aF w' (wr.heap.size) 0 (ai l)/\aF w' (wr.heap.size) 1 (aj s)/\aF w' (wr.heap.size) 2 (ai m)/\aF w' (wr.heap.size) 3 (ah e)) (λi=>Nat.blt i 100000) [(0,true),(1,true),(2,true),(3,true),(4,false),(5,true),(6,true),(7,true),(8,true),(9,false),(10,true),(11,true),(12,true),(13,true),(14,true),(16,true),(17,true),(15,false),(18,true),(19,true),(20,true),(21,true),(22,true),(23,true),(24,true),(25,true),(26,true),(27,true),(28,true),(29,true),(30,true),(31,true),(32,true),(33,true),(34,true),(35,true)] zk zk rfl zk zc ⟨p0,p1,t0,t1,t2,t3⟩ ?_;iterate 4 (refine pT rfl rfl ?_ (by intro w' ⟨q0,q1,q2,q3,q4,q5⟩;go_simp;try with_reducible rfl);try simp only[UU])
          refine aR rfl rfl (λK hK=>?_);go_simp;with_reducible refine(mO.out _).mono ?_
          rintro e w5 ⟨rfl,hq⟩;have ag:Bw W4 w5:=by first|exact hq|exact bo hq
          obtain⟨Hp,p0,p1⟩:=bi Hp ag;replace HU:=kT HU ag;obtain⟨Ht,t0,t1,t2,t3⟩:=dZ Ht ag;replace Hb:=az Hb ag;refine hK _ _ (λ_=>⟨p0,p1,t0,t1,t2,t3⟩) ?_;try simp only[UU]
          iterate 2 (refine pT rfl rfl ?_;try simp only[UU])
          refine bJ rfl rfl ?_;try simp only[UU]
          refine bJ rfl rfl ?_;try simp only[UU]
          refine XJ rfl rfl (λ_=>⟨p0,p1,t0,t1,t2,t3⟩) ?_;try simp only[UU]
          refine bJ rfl rfl ?_;try simp only[UU]
          iterate 2 (refine pT rfl rfl ?_;try simp only[UU])
          refine bJ rfl rfl ?_;try simp only[UU]
          refine bJ rfl rfl ?_;try simp only[UU]
          refine bJ rfl rfl ?_;try simp only[UU]
          refine bJ rfl rfl ?_;try simp only[UU]
          refine XJ rfl rfl (λ_=>⟨p0,p1,t0,t1,t2,t3⟩) ?_;try simp only[UU]
          refine bJ rfl rfl ?_;try simp only[UU]
          iterate 2 (refine pT rfl rfl ?_;try simp only[UU])
          refine bJ rfl rfl ?_;try simp only[UU]
          refine bJ rfl rfl ?_;try simp only[UU]
          refine bJ rfl rfl ?_;try simp only[UU]
          refine bJ rfl rfl ?_;try simp only[UU]
          refine bJ rfl rfl ?_;try simp only[UU]
          refine bJ rfl rfl ?_;try simp only[UU]
          refine bJ rfl rfl ?_;try simp only[UU]
          refine bJ rfl rfl ?_;try simp only[UU]
          refine bJ rfl rfl ?_;try simp only[UU]
          refine bJ rfl rfl ?_;try simp only[UU]
          refine bJ rfl rfl ?_;try simp only[UU]
          refine bJ rfl rfl ?_;try simp only[UU]
          refine bJ rfl rfl ?_;try simp only[UU]
          refine bJ rfl rfl ?_;try simp only[UU]
          refine pT rfl rfl ?_;try simp only[UU]
          simp only[bu];go_wp2;refine bodyPost_ret (results_tmp rfl _ _ _) rfl ⟨rfl,aO bj.out Hb.out⟩
        | true=>
          have pQ:=λW=>Fe l V W (by have:=od.out.1;omega);rw[hmv]at pQ;have mO:=ar pQ;clear pQ;by_cases hs0:sg=0
          . have hr:=LD.out (by rw[rK.out,hmv,hs0];rfl);subst hr hs0;go_wp2_with fail;refine bV (λw'=>aF w' (w.heap.size) 0 (ah V)/\aF w' (w.heap.size) 1 (.slice a N cap)/\aF w' (wr.heap.size) 0 (ai l)/\aF w' (wr.heap.size) 1 (aj s)/\aF w' (wr.heap.size) 2 (ai m)/\aF w' (wr.heap.size) 3 (ah e)) (λi=>Nat.blt i 100000) [(0,true),(1,true),(2,true),(3,true),(4,false),(5,true),(6,true),(7,true),(8,true),(9,false),(10,true),(11,true),(12,true),(13,true),(14,true),(16,true),(17,true),(15,false),(18,true),(19,true),(20,true),(21,true),(22,true),(23,true),(24,true),(25,true),(26,true),(27,true),(28,true),(29,true),(30,true),(31,true),(32,true),(33,true),(34,true),(35,true)] zk zk rfl zk zc ⟨p0,p1,t0,t1,t2,t3⟩ ?_;iterate 4 (refine pT rfl rfl ?_ (by intro w' ⟨q0,q1,q2,q3,q4,q5⟩;go_simp;try with_reducible rfl);try simp only[UU])
            refine aR rfl rfl (λK hK=>?_);go_simp;with_reducible refine(mO.out _).mono ?_
            rintro e w5 ⟨rfl,hq⟩;have ag:Bw W4 w5:=by first|exact hq|exact bo hq
            obtain⟨Hp,p0,p1⟩:=bi Hp ag;replace HU:=kT HU ag;obtain⟨Ht,t0,t1,t2,t3⟩:=dZ Ht ag;replace Hb:=az Hb ag;refine hK _ _ (λ_=>⟨p0,p1,t0,t1,t2,t3⟩) ?_;try simp only[UU]
            iterate 4 (refine pT rfl rfl ?_ (by intro w' ⟨q0,q1,q2,q3,q4,q5⟩;go_simp;try with_reducible rfl);try simp only[UU])
            refine aR rfl rfl (λK hK=>?_);go_simp;with_reducible refine(vK s m e 0 rN.out _ od.out.2).mono ?_
            rintro e w6 ⟨rfl,hq⟩;have ag:Bw w5 w6:=by first|exact hq|exact bo hq
            obtain⟨Hp,p0,p1⟩:=bi Hp ag;replace HU:=kT HU ag;obtain⟨Ht,t0,t1,t2,t3⟩:=dZ Ht ag;replace Hb:=az Hb ag;refine hK _ _ (λ_=>⟨p0,p1,t0,t1,t2,t3⟩) ?_;try simp only[UU]
            iterate 3 (refine pT rfl rfl ?_;try simp only[UU])
            refine bJ rfl rfl ?_;try simp only[UU]
            refine bJ rfl rfl ?_;try simp only[UU]
            refine bJ rfl rfl ?_;try simp only[UU]
            refine bJ rfl rfl ?_;try simp only[UU]
            refine XJ rfl rfl (λ_=>⟨p0,p1,t0,t1,t2,t3⟩) ?_;try simp only[UU]
            refine bJ rfl rfl ?_;try simp only[UU]
            iterate 2 (refine pT rfl rfl ?_;try simp only[UU])
            refine bJ rfl rfl ?_;try simp only[UU]
            refine bJ rfl rfl ?_;try simp only[UU]
            refine bJ rfl rfl ?_;try simp only[UU]
            refine bJ rfl rfl ?_;try simp only[UU]
            refine bJ rfl rfl ?_;try simp only[UU]
            refine bJ rfl rfl ?_;try simp only[UU]
            refine bJ rfl rfl ?_;try simp only[UU]
            refine bJ rfl rfl ?_;try simp only[UU]
            refine bJ rfl rfl ?_;try simp only[UU]
            refine bJ rfl rfl ?_;try simp only[UU]
            refine bJ rfl rfl ?_;try simp only[UU]
            refine bJ rfl rfl ?_;try simp only[UU]
            refine bJ rfl rfl ?_;try simp only[UU]
            refine bJ rfl rfl ?_;try simp only[UU]
            refine pT rfl rfl ?_;try simp only[UU]
            simp only[bu];go_wp2;refine bodyPost_ret (results_tmp rfl _ _ _) rfl ⟨rfl,aO bj.out Hb.out⟩
          . have hs1:(sg==0)=false:=by simpa using hs0
            by_cases hc:canon X=(s,m,e)
            . have hcb:(canon X==(s,m,e))=true:=by simpa using hc
              have hne:=Xt X s m e false hcb;clear hc;by_cases nu:k=0
              . have hg:=rK.out;rw[hmv,hs1,hcb,nu]at hg;have Rx:Hid ((List.range (k+1)).all (ot V ts)=true):=by show _=_;rw[xd.out,nu,hg];rfl
                have hk1:decide (0<k)=false:=by simp;omega
                clear hg hcb nu;go_wp2_with fail;refine bV (λw'=>aF w' (w.heap.size) 0 (ah V)/\aF w' (w.heap.size) 1 (.slice a N cap)/\aF w' (wr.heap.size) 0 (ai l)/\aF w' (wr.heap.size) 1 (aj s)/\aF w' (wr.heap.size) 2 (ai m)/\aF w' (wr.heap.size) 3 (ah e)) (λi=>Nat.blt i 100000) [(0,true),(1,true),(2,true),(3,true),(4,false),(5,true),(6,true),(7,true),(8,true),(9,false),(10,true),(11,true),(12,true),(13,true),(14,true),(16,true),(17,true),(15,false),(18,true),(19,true),(20,true),(21,true),(22,true),(23,true),(24,true),(25,true),(26,true),(27,true),(28,true),(29,true),(30,true),(31,true),(32,true),(33,true),(34,true),(35,true)] zk zk rfl zk zc ⟨p0,p1,t0,t1,t2,t3⟩ ?_;iterate 4 (refine pT rfl rfl ?_ (by intro w' ⟨q0,q1,q2,q3,q4,q5⟩;go_simp;try with_reducible rfl);try simp only[UU])
                refine aR rfl rfl (λK hK=>?_);go_simp;with_reducible refine(mO.out _).mono ?_
                rintro e w5 ⟨rfl,hq⟩;have ag:Bw W4 w5:=by first|exact hq|exact bo hq
                obtain⟨Hp,p0,p1⟩:=bi Hp ag;replace HU:=kT HU ag;obtain⟨Ht,t0,t1,t2,t3⟩:=dZ Ht ag;replace Hb:=az Hb ag;refine hK _ _ (λ_=>⟨p0,p1,t0,t1,t2,t3⟩) ?_;try simp only[UU]
                iterate 4 (refine pT rfl rfl ?_ (by intro w' ⟨q0,q1,q2,q3,q4,q5⟩;go_simp;try with_reducible rfl);try simp only[UU])
                refine aR rfl rfl (λK hK=>?_);go_simp;with_reducible refine(vK s m e sg rN.out _ od.out.2).mono ?_
                rintro e w6 ⟨rfl,hq⟩;have ag:Bw w5 w6:=by first|exact hq|exact bo hq
                obtain⟨Hp,p0,p1⟩:=bi Hp ag;replace HU:=kT HU ag;obtain⟨Ht,t0,t1,t2,t3⟩:=dZ Ht ag;replace Hb:=az Hb ag;refine hK _ _ (λ_=>⟨p0,p1,t0,t1,t2,t3⟩) ?_;try simp only[UU]
                iterate 7 (refine pT rfl rfl ?_ (by intro w' ⟨q0,q1,q2,q3,q4,q5⟩;go_simp;try with_reducible rfl);try simp only[UU])
                refine aR rfl rfl (λK hK=>?_);go_simp;with_reducible refine(sM s m e X HX.out _ od.out.2 (by first|exact HU.out|exact aM.drew HU.out|exact aM.alloc HU.out _|exact aM.drew (aM.alloc HU.out _) |exact aM.alloc (aM.drew HU.out) _)).mono ?_
                rintro e w7 ⟨rfl,hq⟩;have ag:Bw w6 w7:=by first|exact hq|exact bo hq
                obtain⟨Hp,p0,p1⟩:=bi Hp ag;replace HU:=kT HU ag;obtain⟨Ht,t0,t1,t2,t3⟩:=dZ Ht ag;replace Hb:=az Hb ag;refine hK _ _ (λ_=>⟨p0,p1,t0,t1,t2,t3⟩) ?_;try simp only[UU]
                iterate 6 (refine pT rfl rfl ?_;try simp only[UU])
                refine bJ rfl rfl ?_;try simp only[UU]
                refine bJ rfl rfl ?_;try simp only[UU]
                refine bJ rfl rfl ?_;try simp only[UU]
                refine bJ rfl rfl ?_;try simp only[UU]
                refine bJ rfl rfl ?_;try simp only[UU]
                refine bJ rfl rfl ?_;try simp only[UU]
                refine bJ rfl rfl ?_;try simp only[UU]
                refine bJ rfl rfl ?_;try simp only[UU]
                refine bJ rfl rfl ?_;try simp only[UU]
                refine bJ rfl rfl ?_;try simp only[UU]
                iterate 2 (refine pT rfl rfl ?_;try simp only[UU])
                simp only[bu];go_wp2;go_roundw;case rel=>exact⟨k+1,by omega,by go_num,Rx.out,Hp.out,aO bj.out Hb.out⟩
                case measure=>exact bI
              . have vQ:k-1<ts.length:=by omega
                obtain⟨l',s',m',e',hx'⟩:∃l s m e,ts[k-1]=(l,s,m,e):=⟨_,_,_,_,rfl⟩;obtain⟨b',o',rQ,kO⟩:=(Ha.out.below (aO bj.out Hb.out)).term (k-1) vQ hx';have hab:=pj.out;rw[hab]at rQ;simp only[Option.some.injEq,Addr.mk.injEq,and_true]at rQ;obtain⟨rfl,rfl⟩:=rQ;have egp:ts.getD (k-1) default=(l',s',m',e'):=by simp[vQ,hx']
                have hg:=rK.out;rw[egp,hmv,hs1,hcb]at hg;have afk:(k==0)=false:=by simpa using nu
                rw[afk]at hg;have hk1:decide (0<k)=true:=by simp;omega
                have vR:IntKind.i64.wrap ((k:Int)-1)=((k-1:Nat):Int):=by rw[IntKind.wrap_i64];omega
                have Vz:=gJ N cap (k-1) ((k-1:Nat):Int) hab zo rfl;obtain⟨kp,EG⟩:=aK (k-1);rw[EG]at Vz vR kO;have as8:kp<N:=by omega
                have eK:Hid (bH W4 b (o+kp*4) [ai l',aj s',ai m',ah e']):=kO;have aBj:=ar EG;clear kO nu afk hcb egp hx' EG hab;cases vT:Op.bytesLess (bs l').toList (bs l).toList with
                | true=>
                  have Rx:Hid ((List.range (k+1)).all (ot V ts)=true):=by show _=_;rw[xd.out,hg];simpa using vT
                  clear hg;go_wp2_with fail;obtain⟨p0,p1⟩:=Hp.out.c2;obtain⟨t0,t1,t2,t3⟩:=Ht.out.c4;have nQ:W4.cell? ⟨b,o+kp*4,none⟩=some (ai l'):=eK.out.cell 0 zm;have HU:Hid (aM W4):=HU.out;refine bV (λw'=>aF w' (w.heap.size) 0 (ah V)/\aF w' (w.heap.size) 1 (.slice a N cap)/\aF w' (wr.heap.size) 0 (ai l)/\aF w' (wr.heap.size) 1 (aj s)/\aF w' (wr.heap.size) 2 (ai m)/\aF w' (wr.heap.size) 3 (ah e)/\aF w' b (o+kp*4) (ai l')) (λi=>Nat.blt i 100000) [(0,true),(1,true),(2,true),(3,true),(4,false),(5,true),(6,true),(7,true),(8,true),(9,false),(10,true),(11,true),(12,true),(13,true),(14,true),(16,true),(17,true),(15,false),(18,true),(19,true),(20,true),(21,true),(22,true),(23,true),(24,true),(25,true),(26,true),(27,true),(28,true),(29,true),(30,true),(31,true),(32,true),(33,true),(34,true),(35,true)] zk zk rfl zk zc ⟨p0,p1,t0,t1,t2,t3,nQ⟩ ?_;iterate 4 (refine pT rfl rfl ?_ (by intro w' ⟨q0,q1,q2,q3,q4,q5,q6⟩;go_simp;try with_reducible rfl);try simp only[UU])
                  refine aR rfl rfl (λK hK=>?_);go_simp;with_reducible refine(mO.out _).mono ?_
                  rintro e w5 ⟨rfl,hq⟩;have ag:Bw W4 w5:=by first|exact hq|exact bo hq
                  obtain⟨Hp,p0,p1⟩:=bi Hp ag;obtain⟨Ht,t0,t1,t2,t3⟩:=dZ Ht ag;replace eK:=kW eK ag;replace HU:=kT HU ag;have nQ:w5.cell? ⟨b,o+kp*4,none⟩=some (ai l'):=eK.out.cell 0 zm;replace Hb:=az Hb ag;refine hK _ _ (λ_=>⟨p0,p1,t0,t1,t2,t3,nQ⟩) ?_;try simp only[UU]
                  iterate 4 (refine pT rfl rfl ?_ (by intro w' ⟨q0,q1,q2,q3,q4,q5,q6⟩;go_simp;try with_reducible rfl);try simp only[UU])
                  refine aR rfl rfl (λK hK=>?_);go_simp;with_reducible refine(vK s m e sg rN.out _ od.out.2).mono ?_
                  rintro e w6 ⟨rfl,hq⟩;have ag:Bw w5 w6:=by first|exact hq|exact bo hq
                  obtain⟨Hp,p0,p1⟩:=bi Hp ag;obtain⟨Ht,t0,t1,t2,t3⟩:=dZ Ht ag;replace eK:=kW eK ag;replace HU:=kT HU ag;have nQ:w6.cell? ⟨b,o+kp*4,none⟩=some (ai l'):=eK.out.cell 0 zm;replace Hb:=az Hb ag;refine hK _ _ (λ_=>⟨p0,p1,t0,t1,t2,t3,nQ⟩) ?_;try simp only[UU]
                  iterate 7 (refine pT rfl rfl ?_ (by intro w' ⟨q0,q1,q2,q3,q4,q5,q6⟩;go_simp;try with_reducible rfl);try simp only[UU])
                  refine aR rfl rfl (λK hK=>?_);go_simp;with_reducible refine(sM s m e X HX.out _ od.out.2 (by first|exact HU.out|exact aM.drew HU.out|exact aM.alloc HU.out _|exact aM.drew (aM.alloc HU.out _) |exact aM.alloc (aM.drew HU.out) _)).mono ?_
                  rintro e w7 ⟨rfl,hq⟩;have ag:Bw w6 w7:=by first|exact hq|exact bo hq
                  obtain⟨Hp,p0,p1⟩:=bi Hp ag;obtain⟨Ht,t0,t1,t2,t3⟩:=dZ Ht ag;replace eK:=kW eK ag;replace HU:=kT HU ag;have nQ:w7.cell? ⟨b,o+kp*4,none⟩=some (ai l'):=eK.out.cell 0 zm;replace Hb:=az Hb ag;refine hK _ _ (λ_=>⟨p0,p1,t0,t1,t2,t3,nQ⟩) ?_;try simp only[UU]
                  iterate 18 (refine pT rfl rfl ?_ (by intro w' ⟨q0,q1,q2,q3,q4,q5,q6⟩;go_simp;try with_reducible rfl);try simp only[UU])
                  simp only[bu];go_wp2;go_roundw;case rel=>exact⟨k+1,by omega,by go_num,Rx.out,Hp.out,aO bj.out Hb.out⟩
                  case measure=>exact bI
                | false=>
                  have hr:=LD.out (by rw[hg];simpa using vT);subst hr;clear hg;go_wp2_with fail;obtain⟨p0,p1⟩:=Hp.out.c2;obtain⟨t0,t1,t2,t3⟩:=Ht.out.c4;have nQ:W4.cell? ⟨b,o+kp*4,none⟩=some (ai l'):=eK.out.cell 0 zm;have HU:Hid (aM W4):=HU.out;refine bV (λw'=>aF w' (w.heap.size) 0 (ah V)/\aF w' (w.heap.size) 1 (.slice a N cap)/\aF w' (wr.heap.size) 0 (ai l)/\aF w' (wr.heap.size) 1 (aj s)/\aF w' (wr.heap.size) 2 (ai m)/\aF w' (wr.heap.size) 3 (ah e)/\aF w' b (o+kp*4) (ai l')) (λi=>Nat.blt i 100000) [(0,true),(1,true),(2,true),(3,true),(4,false),(5,true),(6,true),(7,true),(8,true),(9,false),(10,true),(11,true),(12,true),(13,true),(14,true),(16,true),(17,true),(15,false),(18,true),(19,true),(20,true),(21,true),(22,true),(23,true),(24,true),(25,true),(26,true),(27,true),(28,true),(29,true),(30,true),(31,true),(32,true),(33,true),(34,true),(35,true)] zk zk rfl zk zc ⟨p0,p1,t0,t1,t2,t3,nQ⟩ ?_;iterate 4 (refine pT rfl rfl ?_ (by intro w' ⟨q0,q1,q2,q3,q4,q5,q6⟩;go_simp;try with_reducible rfl);try simp only[UU])
                  refine aR rfl rfl (λK hK=>?_);go_simp;with_reducible refine(mO.out _).mono ?_
                  rintro e w5 ⟨rfl,hq⟩;have ag:Bw W4 w5:=by first|exact hq|exact bo hq
                  obtain⟨Hp,p0,p1⟩:=bi Hp ag;obtain⟨Ht,t0,t1,t2,t3⟩:=dZ Ht ag;replace eK:=kW eK ag;replace HU:=kT HU ag;have nQ:w5.cell? ⟨b,o+kp*4,none⟩=some (ai l'):=eK.out.cell 0 zm;replace Hb:=az Hb ag;refine hK _ _ (λ_=>⟨p0,p1,t0,t1,t2,t3,nQ⟩) ?_;try simp only[UU]
                  iterate 4 (refine pT rfl rfl ?_ (by intro w' ⟨q0,q1,q2,q3,q4,q5,q6⟩;go_simp;try with_reducible rfl);try simp only[UU])
                  refine aR rfl rfl (λK hK=>?_);go_simp;with_reducible refine(vK s m e sg rN.out _ od.out.2).mono ?_
                  rintro e w6 ⟨rfl,hq⟩;have ag:Bw w5 w6:=by first|exact hq|exact bo hq
                  obtain⟨Hp,p0,p1⟩:=bi Hp ag;obtain⟨Ht,t0,t1,t2,t3⟩:=dZ Ht ag;replace eK:=kW eK ag;replace HU:=kT HU ag;have nQ:w6.cell? ⟨b,o+kp*4,none⟩=some (ai l'):=eK.out.cell 0 zm;replace Hb:=az Hb ag;refine hK _ _ (λ_=>⟨p0,p1,t0,t1,t2,t3,nQ⟩) ?_;try simp only[UU]
                  iterate 7 (refine pT rfl rfl ?_ (by intro w' ⟨q0,q1,q2,q3,q4,q5,q6⟩;go_simp;try with_reducible rfl);try simp only[UU])
                  refine aR rfl rfl (λK hK=>?_);go_simp;with_reducible refine(sM s m e X HX.out _ od.out.2 (by first|exact HU.out|exact aM.drew HU.out|exact aM.alloc HU.out _|exact aM.drew (aM.alloc HU.out _) |exact aM.alloc (aM.drew HU.out) _)).mono ?_
                  rintro e w7 ⟨rfl,hq⟩;have ag:Bw w6 w7:=by first|exact hq|exact bo hq
                  obtain⟨Hp,p0,p1⟩:=bi Hp ag;obtain⟨Ht,t0,t1,t2,t3⟩:=dZ Ht ag;replace eK:=kW eK ag;replace HU:=kT HU ag;have nQ:w7.cell? ⟨b,o+kp*4,none⟩=some (ai l'):=eK.out.cell 0 zm;replace Hb:=az Hb ag;refine hK _ _ (λ_=>⟨p0,p1,t0,t1,t2,t3,nQ⟩) ?_;try simp only[UU]
                  iterate 18 (refine pT rfl rfl ?_ (by intro w' ⟨q0,q1,q2,q3,q4,q5,q6⟩;go_simp;try with_reducible rfl);try simp only[UU])
                  simp only[bu];go_wp2;refine bodyPost_ret (results_tmp rfl _ _ _) rfl ⟨rfl,aO bj.out Hb.out⟩
            . have hr:=LD.out (by
               rw[rK.out,hmv,hs1];have:(canon X==(s,m,e))=false:=by simpa using hc
               rw[this];rfl)
              subst hr;have hne:=Xt X s m e true (by simpa using hc);clear hc;go_wp2_with fail;refine bV (λw'=>aF w' (w.heap.size) 0 (ah V)/\aF w' (w.heap.size) 1 (.slice a N cap)/\aF w' (wr.heap.size) 0 (ai l)/\aF w' (wr.heap.size) 1 (aj s)/\aF w' (wr.heap.size) 2 (ai m)/\aF w' (wr.heap.size) 3 (ah e)) (λi=>Nat.blt i 100000) [(0,true),(1,true),(2,true),(3,true),(4,false),(5,true),(6,true),(7,true),(8,true),(9,false),(10,true),(11,true),(12,true),(13,true),(14,true),(16,true),(17,true),(15,false),(18,true),(19,true),(20,true),(21,true),(22,true),(23,true),(24,true),(25,true),(26,true),(27,true),(28,true),(29,true),(30,true),(31,true),(32,true),(33,true),(34,true),(35,true)] zk zk rfl zk zc ⟨p0,p1,t0,t1,t2,t3⟩ ?_;iterate 4 (refine pT rfl rfl ?_ (by intro w' ⟨q0,q1,q2,q3,q4,q5⟩;go_simp;try with_reducible rfl);try simp only[UU])
              refine aR rfl rfl (λK hK=>?_);go_simp;with_reducible refine(mO.out _).mono ?_
              rintro e w5 ⟨rfl,hq⟩;have ag:Bw W4 w5:=by first|exact hq|exact bo hq
              obtain⟨Hp,p0,p1⟩:=bi Hp ag;replace HU:=kT HU ag;obtain⟨Ht,t0,t1,t2,t3⟩:=dZ Ht ag;replace Hb:=az Hb ag;refine hK _ _ (λ_=>⟨p0,p1,t0,t1,t2,t3⟩) ?_;try simp only[UU]
              iterate 4 (refine pT rfl rfl ?_ (by intro w' ⟨q0,q1,q2,q3,q4,q5⟩;go_simp;try with_reducible rfl);try simp only[UU])
              refine aR rfl rfl (λK hK=>?_);go_simp;with_reducible refine(vK s m e sg rN.out _ od.out.2).mono ?_
              rintro e w6 ⟨rfl,hq⟩;have ag:Bw w5 w6:=by first|exact hq|exact bo hq
              obtain⟨Hp,p0,p1⟩:=bi Hp ag;replace HU:=kT HU ag;obtain⟨Ht,t0,t1,t2,t3⟩:=dZ Ht ag;replace Hb:=az Hb ag;refine hK _ _ (λ_=>⟨p0,p1,t0,t1,t2,t3⟩) ?_;try simp only[UU]
              iterate 7 (refine pT rfl rfl ?_ (by intro w' ⟨q0,q1,q2,q3,q4,q5⟩;go_simp;try with_reducible rfl);try simp only[UU])
              refine aR rfl rfl (λK hK=>?_);go_simp;with_reducible refine(sM s m e X HX.out _ od.out.2 (by first|exact HU.out|exact aM.drew HU.out|exact aM.alloc HU.out _|exact aM.drew (aM.alloc HU.out _) |exact aM.alloc (aM.drew HU.out) _)).mono ?_
              rintro e w7 ⟨rfl,hq⟩;have ag:Bw w6 w7:=by first|exact hq|exact bo hq
              obtain⟨Hp,p0,p1⟩:=bi Hp ag;replace HU:=kT HU ag;obtain⟨Ht,t0,t1,t2,t3⟩:=dZ Ht ag;replace Hb:=az Hb ag;refine hK _ _ (λ_=>⟨p0,p1,t0,t1,t2,t3⟩) ?_;try simp only[UU]
              iterate 3 (refine pT rfl rfl ?_;try simp only[UU])
              refine bJ rfl rfl ?_;try simp only[UU]
              refine bJ rfl rfl ?_;try simp only[UU]
              refine bJ rfl rfl ?_;try simp only[UU]
              refine bJ rfl rfl ?_;try simp only[UU]
              refine bJ rfl rfl ?_;try simp only[UU]
              refine bJ rfl rfl ?_;try simp only[UU]
              refine bJ rfl rfl ?_;try simp only[UU]
              refine bJ rfl rfl ?_;try simp only[UU]
              refine bJ rfl rfl ?_;try simp only[UU]
              refine bJ rfl rfl ?_;try simp only[UU]
              refine bJ rfl rfl ?_;try simp only[UU]
              refine bJ rfl rfl ?_;try simp only[UU]
              refine bJ rfl rfl ?_;try simp only[UU]
              refine bJ rfl rfl ?_;try simp only[UU]
              refine pT rfl rfl ?_;try simp only[UU]
              simp only[bu];go_wp2;refine bodyPost_ret (results_tmp rfl _ _ _) rfl ⟨rfl,aO bj.out Hb.out⟩
      . obtain rfl:k=N:=by omega
        have hr:R=0:=by rw[<-hR.out,if_pos jm]
        subst hr;go_wp2;refine bodyPost_ret (results_tmp rfl _ _ _) rfl ⟨rfl,pb⟩
 . have hR:=HR.out;rw[if_pos h1]at hR;clear HR;subst hR;go_wp2;exact bodyPost_ret (v:=ah 1) (by simp[results,Tryz.results41,go_sem]) rfl ⟨rfl,dH⟩
end Go.Proofs.YtnjfebkelecgaaaGreatDoor
namespace Go.Proofs.YtnjfebkelecgaaaGreatDoor
def DK (a:List UInt8):Op.bytesLess a a=false:=by
 induction a with
 |nil=>rfl
 |cons x a ih=>simp[Op.bytesLess,ih]
def DL {a b c:List UInt8}(h:Op.bytesLess a b=true)(k:Op.bytesLess b c=true):Op.bytesLess a c=true:=by
 induction a generalizing b c with
 | nil=>
   cases c with
   |nil=>cases b<;>simp[Op.bytesLess]at k
   |cons z c=>simp[Op.bytesLess]
 | cons x a ih=>
   cases b with
   |nil=>simp[Op.bytesLess]at h
   | cons y b=>
     cases c with
     |nil=>simp[Op.bytesLess]at k
     | cons z c=>
       simp only[Op.bytesLess,Bool.or_eq_true,Bool.and_eq_true,decide_eq_true_eq,beq_iff_eq]at h k⊢;rcases h with h|⟨rfl,h⟩
       . rcases k with k|⟨rfl,k⟩
         . exact .inl (UInt8.lt_trans h k)
         . exact .inl h
       . rcases k with k|⟨rfl,k⟩
         . exact .inl k
         . exact .inr ⟨rfl,ih h k⟩
def DN {a b:List UInt8}(h:Op.bytesLess a b=false)(k:Op.bytesLess b a=false):a=b:=by
 induction a generalizing b with
 | nil=>cases b with
   |nil=>rfl
   |cons y b=>simp[Op.bytesLess]at h
 | cons x a ih=>cases b with
   |nil=>simp[Op.bytesLess]at k
   | cons y b=>
     simp only[Op.bytesLess,Bool.or_eq_false_iff,Bool.and_eq_false_iff,decide_eq_false_iff_not,beq_eq_false_iff_ne]at h k;have e:x=y:=by have h1:=UInt8.not_lt.1 h.1;have h2:=UInt8.not_lt.1 k.1;exact UInt8.le_antisymm h2 h1
     subst e;rw[ih (by rcases h.2 with h|h;exact absurd rfl h;exact h) (by rcases k.2 with h|h;exact absurd rfl h;exact h)]
def Qb (x y:aQ):aQ:=(x.1,canon (aJ x.2+aJ y.2))
def Aq :Nat->List aQ->List aQ->List aQ
 |0,a,b=>a++b
 |_+1,[],b=>b
 |_+1,x::a,[]=>x::a
 |k+1,x::a,y::b=>if Op.bytesLess x.1 y.1 then x::Aq k a (y::b)else if Op.bytesLess y.1 x.1 then y::Aq k (x::a) b else Qb x y::Aq k a b
def Xj (a b:List aQ)(j k:Nat)(hj:a.length+b.length<=j)(hk:a.length+b.length<=k):Aq j a b=Aq k a b:=by
 induction j generalizing k a b with
 |zero=>have ha:a=[]:=List.length_eq_zero_iff.1 zo;have hb:b=[]:=List.length_eq_zero_iff.1 zo;subst ha;subst hb;cases k<;>rfl
 | succ j ih=>
   cases k with
   |zero=>have ha:a=[]:=List.length_eq_zero_iff.1 zo;have hb:b=[]:=List.length_eq_zero_iff.1 zo;subst ha;subst hb;rfl
   | succ k=>
     cases a with
     |nil=>rfl
     | cons x a=>cases b with
       |nil=>rfl
       |cons y b=>simp only[List.length_cons]at hj hk;simp only[Aq];rw[ih a (y::b) k zi zi,ih (x::a) b k zi zi,ih a b k zo zo]
def iu (a b:List aQ):List aQ:=Aq (a.length+b.length) a b
def CF (b:List aQ):iu [] b=b:=by
 unfold iu;cases b with
 |nil=>rfl
 |cons y b=>rfl
def CG (a:List aQ):iu a []=a:=by
 unfold iu;cases a with
 |nil=>rfl
 |cons y b=>rfl
def yf (x y:aQ)(a b:List aQ):iu (x::a) (y::b)=if Op.bytesLess x.1 y.1 then x::iu a (y::b)else if Op.bytesLess y.1 x.1 then y::iu (x::a) b else Qb x y::iu a b:=by
 unfold iu;rw[show(x::a).length+(y::b).length=(a.length+b.length+1)+1 by simp;omega];simp only[Aq]
 rw[Xj a (y::b) (a.length+b.length+1) (a.length+(y::b).length) zi zm,Xj (x::a) b (a.length+b.length+1) ((x::a).length+b.length) zi zm,
  Xj a b (a.length+b.length+1) (a.length+b.length) zo zo]
def ahw (a b:List aQ):(iu a b).length<=a.length+b.length:=by
 obtain⟨n,hn⟩:=aK (a.length+b.length);induction n using Nat.strongRecOn generalizing a b with
 | _ n ih=>
   cases a with
   |nil=>rw[CF];simp
   | cons x a=>cases b with
     |nil=>rw[CG];simp
     | cons y b=>
       rw[yf];simp only[List.length_cons]at hn⊢;split
       . have:=ih _ (by simp only[List.length_cons];omega) a (y::b) rfl;simp only[List.length_cons]at this⊢;omega
       . split
         . have:=ih _ (by simp only[List.length_cons];omega) (x::a) b rfl;simp only[List.length_cons]at this⊢;omega
         . have:=ih _ zo a b rfl;simp only[List.length_cons]at this⊢;omega
def cL :List aQ->List UInt8->Dyadic
 |[],_=>0
 |x::l,m=>(if x.1=m then aJ x.2 else 0)+cL l m
def zu (a b:List aQ)(m:List UInt8):cL (a++b) m=cL a m+cL b m:=by
 induction a with
 |nil=>simp[cL]
 |cons x a ih=>simp only[List.cons_append,cL,ih];grind
def ack (a b:List aQ)(m:List UInt8):cL (iu a b) m=cL a m+cL b m:=by
 obtain⟨n,hn⟩:=aK (a.length+b.length);induction n using Nat.strongRecOn generalizing a b with
 | _ n ih=>
   cases a with
   |nil=>rw[CF];simp[cL]
   | cons x a=>cases b with
     |nil=>rw[CG];simp[cL]
     | cons y b=>
       rw[yf];simp only[List.length_cons]at hn;split
       . have:=ih _ (by simp only[List.length_cons];omega) a (y::b) rfl;simp only[cL]at this⊢;rw[this];grind
       . split
         . have:=ih _ (by simp only[List.length_cons];omega) (x::a) b rfl;simp only[cL]at this⊢;rw[this];grind
         . rename_i h1 h2
           have:=ih _ zo a b rfl;have e:x.1=y.1:=DN (by simpa using h1) (by simpa using h2);simp only[cL,Qb,cp]at this⊢;rw[this,e];split<;>grind
def Up (l:List aQ):Prop:=l.Pairwise λx y=>Op.bytesLess x.1 y.1=true
def Py (a b:List aQ):∀x∈iu a b,∃y∈a++b,y.1=x.1:=by
 obtain⟨n,hn⟩:=aK (a.length+b.length);induction n using Nat.strongRecOn generalizing a b with
 | _ n ih=>
   intro z hz;cases a with
   |nil=>rw[CF]at hz;exact⟨z,by simp[hz],rfl⟩
   | cons x a=>cases b with
     |nil=>rw[CG]at hz;exact⟨z,by simpa using hz,rfl⟩
     | cons y b=>
       rw[yf]at hz;simp only[List.length_cons]at hn;split at hz
       . rcases List.mem_cons.1 hz with rfl|hz
         . exact⟨z,by simp,rfl⟩
         . obtain⟨u,hu,e⟩:=ih _ (by simp only[List.length_cons];omega) a (y::b) rfl z hz;exact⟨u,by simp at hu⊢;rcases hu with h|h|h<;>simp[h],e⟩
       . split at hz
         . rcases List.mem_cons.1 hz with rfl|hz
           . exact⟨z,by simp,rfl⟩
           . obtain⟨u,hu,e⟩:=ih _ (by simp only[List.length_cons];omega) (x::a) b rfl z hz;exact⟨u,by simp at hu⊢;rcases hu with h|h|h<;>simp[h],e⟩
         . rcases List.mem_cons.1 hz with rfl|hz
           . exact⟨x,by simp,rfl⟩
           . obtain⟨u,hu,e⟩:=ih _ zo a b rfl z hz;exact⟨u,by simp at hu⊢;rcases hu with h|h<;>simp[h],e⟩
def avI (a b:List aQ)(ha:Up a)(hb:Up b):Up (iu a b):=by
 obtain⟨n,hn⟩:=aK (a.length+b.length);induction n using Nat.strongRecOn generalizing a b with
 | _ n ih=>
   cases a with
   |nil=>rw[CF];exact hb
   | cons x a=>cases b with
     |nil=>rw[CG];exact ha
     | cons y b=>
       rw[yf];simp only[List.length_cons]at hn;obtain⟨ha1,ha2⟩:=List.pairwise_cons.1 ha;obtain⟨hb1,hb2⟩:=List.pairwise_cons.1 hb;split
       . rename_i h
         refine List.pairwise_cons.2 ⟨λz hz=>?_,ih _ (by simp only[List.length_cons];omega) a (y::b) ha2 hb rfl⟩;obtain⟨u,hu,e⟩:=Py _ _ z hz;rw[<-e];rcases List.mem_append.1 hu with h2|h2
         . exact ha1 u h2
         . rcases List.mem_cons.1 h2 with rfl|h2
           . exact h
           . exact DL h (hb1 u h2)
       . split
         . rename_i h0 h
           refine List.pairwise_cons.2 ⟨λz hz=>?_,ih _ (by simp only[List.length_cons];omega) (x::a) b ha hb2 rfl⟩;obtain⟨u,hu,e⟩:=Py _ _ z hz;rw[<-e];rcases List.mem_append.1 hu with h2|h2
           . rcases List.mem_cons.1 h2 with rfl|h2
             . exact h
             . exact DL h (ha1 u h2)
           . exact hb1 u h2
         . rename_i h1 h2
           have e:x.1=y.1:=DN (by simpa using h1) (by simpa using h2);refine List.pairwise_cons.2 ⟨λz hz=>?_,ih _ zo a b ha2 hb2 rfl⟩;obtain⟨u,hu,e2⟩:=Py _ _ z hz;rw[<-e2];show Op.bytesLess x.1 u.1=true
           rcases List.mem_append.1 hu with h3|h3
           . exact ha1 u h3
           . rw[e];exact hb1 u h3
def wE :Nat->List aQ->List aQ
 |0,l=>l
 |k+1,l=>if l.length<2 then l else iu (wE k (l.take (l.length/2))) (wE k (l.drop (l.length/2)))
def aiC (l:List aQ)(j k:Nat)(hj:l.length<=j)(hk:l.length<=k):wE j l=wE k l:=by
 induction j generalizing k l with
 |zero=>have h:l=[]:=List.length_eq_zero_iff.1 zo;subst h;cases k<;>simp[wE]
 | succ j ih=>
   cases k with
   |zero=>have h:l=[]:=List.length_eq_zero_iff.1 zo;subst h;simp[wE]
   | succ k=>
     simp only[wE];split
     . rfl
     . rw[ih (l.take (l.length/2)) k zi zi,ih (l.drop (l.length/2)) k zi zi]
def iy (l:List aQ):List aQ:=wE l.length l
def PY (l:List aQ)(h:l.length<2):iy l=l:=by
 unfold iy;cases l with
 |nil=>rfl
 |cons x l=>simp only[List.length_cons,wE];rw[if_pos (by simpa using h)]
def Yo (l:List aQ)(h:2<=l.length):iy l=iu (iy (l.take (l.length/2))) (iy (l.drop (l.length/2))):=by obtain⟨k,hk⟩:∃k,l.length=k+1:=⟨l.length-1,by omega⟩;unfold iy;rw[hk];simp only[wE];rw[if_neg zo,hk,aiC (l.take ((k+1)/2)) k ((l.take ((k+1)/2)).length) zi (Nat.le_refl _),aiC (l.drop ((k+1)/2)) k ((l.drop ((k+1)/2)).length) zi (Nat.le_refl _)]
def KT {Q:List aQ->List aQ->Prop}(h0:∀l,l.length<2->Q l l)(h1:∀a b c d,Q a c->Q b d->Q (a++b) (iu c d))(l:List aQ):Q l (iy l):=by
 obtain⟨n,hn⟩:=aK l.length;induction n using Nat.strongRecOn generalizing l with
 | _ n ih=>
   by_cases h:l.length<2
   . rw[PY l h];exact h0 l h
   . rw[Yo l zo];have:=h1 _ _ _ _ (ih (l.take (l.length/2)).length zi (l.take (l.length/2)) rfl) (ih (l.drop (l.length/2)).length zi (l.drop (l.length/2)) rfl);rwa [List.take_append_drop]at this
def ap8 (l:List aQ)(m:List UInt8):cL (iy l) m=cL l m:=
 KT (Q:=λl r=>cL r m=cL l m) (λ_ _=>rfl) (λa b c d h1 h2=>by rw[ack,zu,h1,h2]) l
def azb (l:List aQ):Up (iy l):=
 KT (Q:=λ_ r=>Up r) (λl h=>by
  cases l with
  |nil=>exact List.Pairwise.nil
  | cons x l=>cases l with
    |nil=>exact List.pairwise_singleton _ _
    |cons y l=>simp at h;omega) (λa b c d h1 h2=>avI c d h1 h2) l
def PX (l:List aQ):(iy l).length<=l.length:=
 KT (Q:=λl r=>r.length<=l.length) (λ_ _=>Nat.le_refl _) (λa b c d h1 h2=>by have:=ahw c d;simp;omega) l
def aza (l:List aQ):∀x∈iy l,∃y∈l,y.1=x.1:=
 KT (Q:=λl r=>∀x∈r,∃y∈l,y.1=x.1) (λl _ x hx=>⟨x,hx,rfl⟩) (λa b c d h1 h2 x hx=>by
  obtain⟨y,hy,e⟩:=Py c d x hx;rcases List.mem_append.1 hy with h|h
  . obtain⟨z,hz,e2⟩:=h1 y h;exact⟨z,by simp[hz],e2.trans e⟩
  . obtain⟨z,hz,e2⟩:=h2 y h;exact⟨z,by simp[hz],e2.trans e⟩) l
def iw (x:aQ):Bool:=!(eG (aJ x.2)==0)
def bP (l:List aQ):List aQ:=((iy l).filter iw).map λx=>(x.1,canon (aJ x.2))
def Good (l:List aQ):Prop:=Up l/\∀x∈l,aJ x.2≠0/\x.2=canon (aJ x.2)
def xz (X:Dyadic):(eG X==0)=false↔X≠0:=by
 have h:eG X=0↔X=0:=by
  constructor
  . intro h;have h1:dN X=0:=by
     unfold eG gh at h;by_cases h1:dN X<0
     . rw[if_pos h1]at h;cases h
     . rw[if_neg h1]at h;by_cases h2:dN X=0
       . exact h2
       . rw[if_neg h2]at h;cases h
    have h2:=uV X;rw[h1,uW]at h2;exact h2
  . rintro rfl;rfl
 rw[beq_eq_false_iff_ne];exact not_congr h
def acj (l:List aQ)(m:List UInt8):cL (l.filter iw) m=cL l m:=by
 induction l with
 |nil=>rfl
 | cons x l ih=>
   rw[List.filter_cons];split
   . simp only[cL,ih]
   . rename_i h
     have h0:aJ x.2=0:=Classical.byContradiction λhc=>h (by unfold iw;rw[(xz _).2 hc];rfl);simp only[cL,ih,h0];split<;>grind
def ap3 (l:List aQ)(m:List UInt8):cL (l.map λx=>(x.1,canon (aJ x.2))) m=cL l m:=by
 induction l with
 |nil=>rfl
 |cons x l ih=>simp only[List.map_cons,cL,ih,cp]
def uo (l:List aQ)(m:List UInt8):cL (bP l) m=cL l m:=by unfold bP;rw[ap3,acj,ap8]
def az3 {l:List aQ}(h:Up l):Up (l.map λx=>(x.1,canon (aJ x.2))):=List.Pairwise.map _ (λ_ _ h=>h) h
def arV (l:List aQ)(h:Up l):Good ((l.filter iw).map λx=>(x.1,canon (aJ x.2))):=by
 refine⟨az3 (List.Pairwise.filter _ h),λx hx=>?_⟩;obtain⟨y,hy,rfl⟩:=List.mem_map.1 hx;have h2:=(List.mem_filter.1 hy).2;unfold iw at h2;refine⟨?_,?_⟩
 . show aJ (canon (aJ y.2))≠0
   rw[cp];exact(xz _).1 (by simpa using h2)
 . show canon (aJ y.2)=canon (aJ (canon (aJ y.2)))
   rw[cp]
def Bq (l:List aQ):Good (bP l):=arV _ (azb l)
def Br (l:List aQ):(bP l).length<=l.length:=by unfold bP;rw[List.length_map];exact Nat.le_trans (List.length_filter_le _ _) (PX l)
def acl (l:List aQ)(m:List UInt8)(h:∀x∈l,x.1≠m):cL l m=0:=by
 induction l with
 |nil=>rfl
 |cons x l ih=>simp only[cL];rw[if_neg (h x zm),ih (λy hy=>h y (by simp[hy]))];grind
def Good.tail {x:aQ}{l:List aQ}(h:Good (x::l)):Good l:=⟨(List.pairwise_cons.1 h.1).2,λy hy=>h.2 y (by simp[hy])⟩
def Good.off {x:aQ}{l:List aQ}(h:Good (x::l)):cL l x.1=0:=by refine acl _ _ (λy hy e=>?_);have:=(List.pairwise_cons.1 h.1).1 y hy;rw[e,DK]at this;cases this
def Good.head {x:aQ}{l:List aQ}(h:Good (x::l)):cL (x::l) x.1=aJ x.2:=by simp only[cL,if_pos,h.off];grind
def Good.before {x y:aQ}{l:List aQ}(h:Good (y::l))(hx:Op.bytesLess x.1 y.1=true):cL (y::l) x.1=0:=by
 refine acl _ _ (λz hz e=>?_);rcases List.mem_cons.1 hz with rfl|hz
 . rw[e,DK]at hx;cases hx
 . have:=DL hx ((List.pairwise_cons.1 h.1).1 z hz);rw[e,DK]at this;cases this
def Um {a b:List aQ}(ha:Good a)(hb:Good b)(h:∀m,cL a m=cL b m):a=b:=by
 induction a generalizing b with
 | nil=>
   cases b with
   |nil=>rfl
   |cons y b=>have:=h y.1;rw[hb.head]at this;exact absurd this.symm (hb.2 y zm).1
 | cons x a ih=>
   cases b with
   |nil=>have:=h x.1;rw[ha.head]at this;exact absurd this (ha.2 x zm).1
   | cons y b=>
     have h1:Op.bytesLess x.1 y.1=false:=by
      cases hc:Op.bytesLess x.1 y.1 with
      |false=>rfl
      |true=>have:=h x.1;rw[ha.head,hb.before hc]at this;exact absurd this (ha.2 x zm).1
     have h2:Op.bytesLess y.1 x.1=false:=by
      cases hc:Op.bytesLess y.1 x.1 with
      |false=>rfl
      |true=>have:=h y.1;rw[hb.head,ha.before hc]at this;exact absurd this.symm (hb.2 y zm).1
     have e1:x.1=y.1:=DN h1 h2;have e2:aJ x.2=aJ y.2:=by have:=h x.1;rw[ha.head]at this;rw[this,e1,hb.head]
     have e3:x=y:=by refine Prod.ext e1 ?_;rw[(ha.2 x zm).2,(hb.2 y zm).2,e2]
     subst e3
     rw[ih ha.tail hb.tail (λm=>by
      have:=h m;simp only[cL]at this;generalize (if x.1=m then aJ x.2 else 0)=u at this
      grind)]
def yY (V:Nat)(ts:List aQ):Prop:=Good ts/\(∀t∈ts,eQ t.1 V=true)/\ts.length<=4096/\V<=12
def XH {V:Nat}{ts:List aQ}(h:yY V ts):mJ V ts=0:=by
 obtain⟨⟨h1,h2⟩,h3,h4,h5⟩:=h;unfold mJ;rw[if_neg zo,if_neg zo,if_pos];rw[List.all_eq_true];intro k hk;have hk:k<ts.length:=by simpa using hk
 have e:ts.getD k default=ts[k]:=by simp[hk]
 have hm:=List.getElem_mem hk;unfold ot zH;rw[e,h3 _ hm,(xz _).2 (h2 _ hm).1];have e2:(canon (aJ ts[k].2)==ts[k].2)=true:=by rw[beq_iff_eq];exact(h2 _ hm).2.symm
 rw[e2];by_cases h0:k=0
 . simp[h0]
 . have hk1:k-1<ts.length:=by omega
   have e3:ts.getD (k-1) default=ts[k-1]:=by simp[hk1]
   have:=List.pairwise_iff_getElem.1 h1 (k-1) k hk1 hk zo;rw[e3,gX,gX,this];simp
def Good.coef {l:List aQ}(h:Good l):∀t∈l,aJ t.2=cL l t.1:=by
 induction l with
 |nil=>intro t ht;cases ht
 | cons x l ih=>
   intro t ht;rcases List.mem_cons.1 ht with rfl|ht
   . exact h.head.symm
   . have hne:¬x.1=t.1:=λe=>by have:=(List.pairwise_cons.1 h.1).1 t ht;rw[e,DK]at this;cases this
     simp only[cL,if_neg hne,ih h.tail t ht];grind
def ap7 {B:Nat}{l:List aQ}(h:∀x∈l,Sm B (aJ x.2))(m:List UInt8):Sm (B+l.length) (cL l m):=by
 induction l with
 |nil=>exact Sm.zero _
 | cons x l ih=>
   have h1:=ih (λy hy=>h y (by simp[hy]));have h2:Sm B (if x.1=m then aJ x.2 else 0):=by
    split
    . exact h x zm
    . exact Sm.zero _
   exact((h2.mono (show B<=B+l.length by omega)).add h1).mono zi
def acb {B:Nat}{l:List aQ}(h:∀x∈l,Sm B (aJ x.2)):∀t∈bP l,Sm (B+l.length) (aJ t.2):=by intro t ht;rw[(Bq l).coef t ht,uo];exact ap7 h _
def TA (l:List aQ):∀x∈bP l,∃y∈l,y.1=x.1:=by intro x hx;unfold bP at hx;obtain⟨y,hy,rfl⟩:=List.mem_map.1 hx;exact aza l y (List.mem_filter.1 hy).1
def apY {V:Nat}{l:List aQ}(hV:V<=12)(hm:∀t∈l,eQ t.1 V=true)(hl:l.length<=4096):yY V (bP l):=
 ⟨Bq l,λt ht=>by obtain⟨y,hy,e⟩:=TA l t ht;rw[<-e];exact hm y hy,Nat.le_trans (Br l) hl,hV⟩
def DV {a b:List aQ}(h:∀m,cL a m=cL b m):bP a=bP b:=Um (Bq a) (Bq b) (λm=>by rw[uo,uo,h m])
def apX (a b:List aQ):bP (bP a++bP b)=bP (a++b):=DV (λm=>by rw[zu,zu,uo,uo])
def dA (c:Dyadic)(l:List aQ):List aQ:=l.map λx=>(x.1,canon (aJ x.2*c))
def TE (c:Dyadic)(l:List aQ)(m:List UInt8):cL (dA c l) m=cL l m*c:=by
 induction l with
 |nil=>simp[dA,cL]
 |cons x l ih=>simp only[dA,List.map_cons,cL]at ih⊢;rw[ih,cp];split<;>grind
def jq (n:Nat):List UInt8:=List.replicate n 0
def dV (n k:Nat):List UInt8:=(List.replicate n 0).set k 1
def ajK (n:Nat):eQ (jq n) n=true:=by unfold eQ jq;rw[Bool.and_eq_true];refine⟨?_,by simp⟩;rw[List.all_eq_true];intro c hc;rw[(List.mem_replicate.1 hc).2];rfl
def Le (n k:Nat):eQ (dV n k) n=true:=by
 unfold eQ dV;rw[Bool.and_eq_true];refine⟨?_,by simp⟩;rw[List.all_eq_true];intro c hc;rcases List.mem_or_eq_of_mem_set hc with h|h
 . rw[(List.mem_replicate.1 h).2];rfl
 . rw[h];rfl
def ir (n:Nat)(c:Dyadic)(l:Nat->Dyadic)(k:Nat):List aQ:=(jq n,canon c)::(List.range k).map λj=>(dV n j,canon (l j))
def dP (n:Nat)(c:Dyadic)(l:Nat->Dyadic)(k:Nat):List aQ:=bP (ir n c l k)
def Ke (n:Nat)(c:Dyadic)(l:Nat->Dyadic)(k:Nat):(ir n c l k).length=k+1:=by simp[ir]
def WS (n:Nat)(c:Dyadic)(l:Nat->Dyadic)(k:Nat):∀t∈ir n c l k,eQ t.1 n=true:=by
 intro t ht;unfold ir at ht;rcases List.mem_cons.1 ht with rfl|ht
 . exact ajK n
 . obtain⟨j,_,rfl⟩:=List.mem_map.1 ht;exact Le n j
def auE {B:Nat}(n:Nat)(c:Dyadic)(l:Nat->Dyadic)(k:Nat)(hc:Sm B c)(hl:∀j,j<k->Sm B (l j)):∀t∈ir n c l k,Sm B (aJ t.2):=by
 intro t ht;unfold ir at ht;rcases List.mem_cons.1 ht with rfl|ht
 . show Sm B (aJ (canon c));rw[cp];exact hc
 . obtain⟨j,hj,rfl⟩:=List.mem_map.1 ht;show Sm B (aJ (canon (l j)));rw[cp];exact hl j (by simpa using hj)
def WT (n:Nat)(c:Dyadic)(l:Nat->Dyadic)(k:Nat):ir n c l (k+1)=ir n c l k++[(dV n k,canon (l k))]:=by unfold ir;rw[List.range_succ,List.map_append];rfl
def MR (n:Nat)(c:Dyadic)(l:Nat->Dyadic)(k:Nat)(m:List UInt8):cL (ir n c l (k+1)) m=cL (ir n c l k) m+if dV n k=m then l k else 0:=by rw[WT,zu];simp only[cL,cp];grind
def auG (n:Nat)(c:Dyadic)(l:Nat->Dyadic)(k:Nat):bP (dP n c l k++bP [(dV n k,canon (l k))])=dP n c l (k+1):=by unfold dP;rw[apX,WT]
def ap2 (n:Nat)(c d:Dyadic)(l r:Nat->Dyadic)(u v:Dyadic)(k:Nat)(m:List UInt8):cL (ir n (c*u+d*v) (λj=>l j*u+r j*v) k) m=cL (ir n c l k) m*u+cL (ir n d r k) m*v:=by
 induction k with
 |zero=>simp[ir,cL,cp];split<;>grind
 |succ k ih=>rw[MR,ih,MR,MR];split<;>grind
def auD {n:Nat}{c d:Dyadic}{l r:Nat->Dyadic}(k:Nat)(hc:c=d)(h:∀j,j<k->l j=r j):ir n c l k=ir n d r k:=by unfold ir;rw[hc];congr 1;refine List.map_congr_left λj hj=>?_;rw[h j (by simpa using hj)]
def auH (n:Nat)(c d:Dyadic)(l r:Nat->Dyadic)(k:Nat):bP (dP n c l k++bP (dA (-1) (dP n d r k)))=dP n (c-d) (λj=>l j-r j) k:=by unfold dP;refine DV (λm=>?_);rw[zu,uo,uo,TE,uo];have h:=ap2 n c d l r 1 (-1) k m;rw[auD (d:=c-d) (r:=λj=>l j-r j) k (by grind) (λj _=>by grind)]at h;rw[h];grind
def cP (x:Dyadic):Nat->Dyadic
 |0=>1
 |n+1=>cP x n*x
def Ym :Sm 1 (1:Dyadic):=by
 have e:(1:Dyadic)=Dyadic.ofIntWithPrec 1 0:=by decide+kernel
 rw[e];exact⟨1*2^1,(wA 1 1 0).symm,by decide⟩
def Fu {B:Nat}{x:Dyadic}(h:Sm B x)(n:Nat):Sm (B*n+1) (cP x n):=by
 induction n with
 |zero=>exact Ym
 |succ n ih=>exact(Sm.mul ih h).mono (by rw[Nat.mul_succ];omega)
def fJ (X:Nat->Dyadic)(c:Dyadic)(l:List UInt8):Nat->Dyadic
 |0=>c
 |k+1=>fJ X c l k*cP (X k) (l.getD k 0).toNat
def zT :aQ:=([],false,[],0)
def pI (X:Nat->Dyadic)(n:Nat)(ts:List aQ):Nat->Dyadic
 |0=>0
 |k+1=>pI X n ts k+fJ X (aJ (ts.getD k zT).2) (ts.getD k zT).1 n
def avG {X:Nat->Dyadic}{c:Dyadic}{l:List UInt8}{B C:Nat}(hc:Sm C c)(hl:∀x∈l,x.toNat<=127)(k:Nat)(hX:∀j,j<k->Sm B (X j)):Sm (C+k* (127*B+1)) (fJ X c l k):=by
 induction k with
 |zero=>exact hc.mono zo
 | succ k ih=>
   have h1:=ih (λj hj=>hX j zo);have h2:(l.getD k 0).toNat<=127:=by
    rw[List.getD_eq_getElem?_getD];by_cases hk:k<l.length
    . rw[List.getElem?_eq_getElem hk];exact hl _ (List.getElem_mem hk)
    . rw[List.getElem?_eq_none zo];decide
   have h3:=Fu (hX k zo) (l.getD k 0).toNat;have h4:B* (l.getD k 0).toNat<=B*127:=Nat.mul_le_mul_left _ h2;refine(Sm.mul h1 h3).mono ?_;rw[Nat.add_mul,Nat.one_mul];omega
def ara {X:Nat->Dyadic}{n:Nat}{ts:List aQ}{D:Nat}(h:∀k,k<ts.length->Sm D (fJ X (aJ (ts.getD k zT).2) (ts.getD k zT).1 n))(k:Nat)(hk:k<=ts.length):Sm (D+k) (pI X n ts k):=by
 induction k with
 |zero=>exact Sm.zero _
 |succ k ih=>exact Sm.add (ih zo) ((h k zo).mono (Nat.le_add_right _ _))
def df (f:List UInt8->Dyadic):List aQ->Dyadic
 |[]=>0
 |x::l=>aJ x.2*f x.1+df f l
def DZ (f:List UInt8->Dyadic)(a b:List aQ):df f (a++b)=df f a+df f b:=by
 induction a with
 |nil=>simp[df]
 |cons x a ih=>simp only[List.cons_append,df,ih];grind
def arb (f:List UInt8->Dyadic)(a b:List aQ):df f (iu a b)=df f a+df f b:=by
 obtain⟨n,hn⟩:=aK (a.length+b.length);induction n using Nat.strongRecOn generalizing a b with
 | _ n ih=>
   cases a with
   |nil=>rw[CF];simp[df]
   | cons x a=>cases b with
     |nil=>rw[CG];simp[df]
     | cons y b=>
       rw[yf];simp only[List.length_cons]at hn;split
       . have:=ih _ (by simp only[List.length_cons];omega) a (y::b) rfl;simp only[df]at this⊢;rw[this];grind
       . split
         . have:=ih _ (by simp only[List.length_cons];omega) (x::a) b rfl;simp only[df]at this⊢;rw[this];grind
         . rename_i h1 h2
           have:=ih _ zo a b rfl;have e:x.1=y.1:=DN (by simpa using h1) (by simpa using h2);simp only[df,Qb,cp]at this⊢;rw[this,e];grind
def ard (f:List UInt8->Dyadic)(l:List aQ):df f (iy l)=df f l:=
 KT (Q:=λl r=>df f r=df f l) (λ_ _=>rfl) (λa b c d h1 h2=>by rw[arb,DZ,h1,h2]) l
def Ea (f:List UInt8->Dyadic)(l:List aQ):df f (bP l)=df f l:=by
 have h1:∀l,df f (l.map λx=>(x.1,canon (aJ x.2)))=df f l:=λl=>by
  induction l with
  |nil=>rfl
  |cons x l ih=>simp only[List.map_cons,df,ih,cp]
 have h2:∀l,df f (l.filter iw)=df f l:=λl=>by
  induction l with
  |nil=>rfl
  | cons x l ih=>
    rw[List.filter_cons];split
    . simp only[df,ih]
    . rename_i h
      have h0:aJ x.2=0:=Classical.byContradiction λhc=>h (by unfold iw;rw[(xz _).2 hc];rfl);simp only[df,ih,h0];grind
 unfold bP;rw[h1,h2,ard]
def fD (X:Nat->Dyadic)(n:Nat)(l:List UInt8):Dyadic:=fJ X 1 l n
def avF (X:Nat->Dyadic)(c:Dyadic)(l:List UInt8)(n:Nat):fJ X c l n=c*fJ X 1 l n:=by
 induction n with
 |zero=>show c=c*1;grind
 |succ n ih=>rw[fJ,fJ,ih];grind
def Ub (X:Nat->Dyadic)(n:Nat)(ts:List aQ)(k:Nat)(hk:k<=ts.length):pI X n ts k=df (fD X n) (ts.take k):=by
 induction k with
 |zero=>rfl
 | succ k ih=>
   have hk':k<ts.length:=by omega
   have e:ts.getD k zT=ts[k]:=by simp[List.getD_eq_getElem?_getD,hk']
   rw[pI,ih zo,List.take_succ_eq_append_getElem hk',DZ,e,avF];simp only[df,fD];grind
def ahu (X:Nat->Dyadic)(n k:Nat):fJ X 1 (jq n) k=1:=by
 induction k with
 |zero=>rfl
 | succ k ih=>
   have e:(jq n).getD k 0=0:=by unfold jq;rw[List.getD_eq_getElem?_getD,List.getElem?_replicate];split<;>rfl
   rw[fJ,ih,e];show 1*cP (X k) 0=1;show(1:Dyadic) *1=1;grind
def avH (X:Nat->Dyadic)(n j k:Nat)(hk:k<=n)(hj:j<n):fJ X 1 (dV n j) k=if j<k then X j else 1:=by
 induction k with
 |zero=>rfl
 | succ k ih=>
   have e:((dV n j).getD k 0).toNat=if k=j then 1 else 0:=by
    unfold dV;rw[List.getD_eq_getElem?_getD,List.getElem?_set];by_cases h:j=k
    . subst h;rw[if_pos rfl,if_pos (by simpa using hj),if_pos rfl];rfl
    . rw[if_neg h,List.getElem?_replicate,if_pos zo,if_neg (λh2=>h h2.symm)];rfl
   rw[fJ,ih zo,e];by_cases h:k=j
   . subst h;rw[if_neg zo,if_pos rfl,if_pos zo];show 1* (1*X k)=X k;grind
   . rw[if_neg h];by_cases h2:j<k
     . rw[if_pos h2,if_pos zo];show X j*1=X j;grind
     . rw[if_neg h2,if_neg zo];show(1:Dyadic) *1=1;grind
def eT (a b:List UInt8):List UInt8:=List.zipWith (λx y=>UInt8.ofNat (x.toNat+y.toNat)) a b
def ze (a b:List UInt8)(n:Nat)(ha:a.length=n)(hb:b.length=n):(eT a b).length=n:=by simp[eT,ha,hb]
def My (a b:List UInt8)(i:Nat)(h:i<(eT a b).length)(hs:(a.getD i 0).toNat+(b.getD i 0).toNat<=255):((eT a b)[i]).toNat=(a.getD i 0).toNat+(b.getD i 0).toNat:=by
 have h1:i<a.length:=by simp[eT]at h;omega
 have h2:i<b.length:=by simp[eT]at h;omega
 simp only[eT,List.getElem_zipWith];simp only[List.getD_eq_getElem?_getD,List.getElem?_eq_getElem h1,List.getElem?_eq_getElem h2,Option.getD_some]at hs⊢;simp;omega
def Tm (a b:List UInt8)(n:Nat)(ha:a.length=n)(hb:b.length=n)(hs:∀i,i<n->(a.getD i 0).toNat+(b.getD i 0).toNat<=127):∀c∈eT a b,c.toNat<=127:=λc hc=>by
 obtain⟨i,hi,rfl⟩:=List.mem_iff_getElem.1 hc;have hi':i<n:=by rw[ze a b n ha hb]at hi;exact hi
 rw[My a b i hi (by have:=hs i hi';omega)];exact hs i hi'
abbrev iY (l:List UInt8):Nat:=(l.map UInt8.toNat).sum
def yw (l:List UInt8)(i:Nat):(l.getD i 0).toNat<=iY l:=by
 induction l generalizing i with
 |nil=>simp
 | cons c l ih=>
   unfold iY;rw[List.map_cons,List.sum_cons];cases i with
   |zero=>simp
   |succ i=>have:=ih i;unfold iY at this;simp only[List.getD_cons_succ];omega
def aoc (a b:List UInt8)(n:Nat)(ha:a.length=n)(hb:b.length=n)(h:iY a+iY b<=127):iY (eT a b)=iY a+iY b:=by
 induction a generalizing b n with
 | nil=>
   obtain rfl:n=0:=by simpa using ha.symm
   obtain rfl:b=[]:=List.eq_nil_of_length_eq_zero hb;rfl
 | cons x a ih=>cases b with
   |nil=>simp at ha hb;omega
   | cons y b=>
     simp only[iY,List.map_cons,List.sum_cons]at h;have h1:=ih b a.length rfl (by simp at ha hb;omega) (by unfold iY;omega);unfold iY at h1⊢;have e:eT (x::a) (y::b)=UInt8.ofNat (x.toNat+y.toNat)::eT a b:=rfl;have e2:(UInt8.ofNat (x.toNat+y.toNat)).toNat=x.toNat+y.toNat:=by simp;omega
     rw[e,List.map_cons,List.sum_cons,h1,e2,List.map_cons,List.sum_cons,List.map_cons,List.sum_cons];omega
def ia (ta tb:List aQ):List aQ:=ta.flatMap λx=>tb.map λy=>(eT x.1 y.1,canon (aJ x.2*aJ y.2))
def Xk (ta tb:List aQ):(ia ta tb).length=ta.length*tb.length:=by
 unfold ia;rw[List.length_flatMap];induction ta with
 |nil=>simp
 |cons x ta ih=>rw[List.map_cons,List.sum_cons,ih,List.length_map,List.length_cons,Nat.succ_mul];omega
def Pz {ta tb:List aQ}{t:aQ}(h:t∈ia ta tb):∃x∈ta,∃y∈tb,t=(eT x.1 y.1,canon (aJ x.2*aJ y.2)):=by unfold ia at h;obtain⟨x,hx,h⟩:=List.mem_flatMap.1 h;obtain⟨y,hy,e⟩:=List.mem_map.1 h;exact⟨x,hx,y,hy,e.symm⟩
def Xl {A B:Nat}{ta tb:List aQ}(ha:∀t∈ta,Sm A (aJ t.2))(hb:∀t∈tb,Sm B (aJ t.2)):∀t∈ia ta tb,Sm (A+B) (aJ t.2):=λt ht=>by obtain⟨x,hx,y,hy,rfl⟩:=Pz ht;rw[cp];exact Sm.mul (ha x hx) (hb y hy)
def se {l:List UInt8}{V:Nat}(h:eQ l (V:Int)=true):l.length=V/\∀c∈l,c.toNat<=127:=by unfold eQ at h;simp only[Bool.and_eq_true,List.all_eq_true,decide_eq_true_eq]at h;exact⟨by have:=h.2;omega,h.1⟩
def Xf {l:List UInt8}{V:Nat}(h1:l.length=V)(h2:∀c∈l,c.toNat<=127):eQ l (V:Int)=true:=by unfold eQ;simp only[Bool.and_eq_true,List.all_eq_true,decide_eq_true_eq];exact⟨h2,by omega⟩
def fy (V d:Nat)(ts:List aQ):Prop:=∀t∈ts,eQ t.1 (V:Int)=true/\iY t.1<=d
def fy.mul {V d e:Nat}{ta tb:List aQ}(ha:fy V d ta)(hb:fy V e tb)(h:d+e<=127):fy V (d+e) (ia ta tb):=λt ht=>by
 obtain⟨x,hx,y,hy,rfl⟩:=Pz ht;obtain⟨h1,h2⟩:=ha x hx;obtain⟨h3,h4⟩:=hb y hy;have l1:=(se h1).1;have l2:=(se h3).1;refine⟨Xf (ze _ _ V l1 l2) (Tm _ _ V l1 l2 (λi _=>?_)),?_⟩
 . have:=yw x.1 i;have:=yw y.1 i;omega
 . have:=aoc x.1 y.1 V l1 l2 zo;show iY (eT x.1 y.1)<=_;omega
def fy.clean {V d:Nat}{ts:List aQ}(h:fy V d ts):fy V d (bP ts):=λt ht=>by obtain⟨y,hy,e⟩:=TA _ t ht;rw[<-e];exact h y hy
def fy.append {V d:Nat}{a b:List aQ}(ha:fy V d a)(hb:fy V d b):fy V d (a++b):=λt ht=>by
 rcases List.mem_append.1 ht with h|h
 . exact ha t h
 . exact hb t h
def fy.mono {V d e:Nat}{a:List aQ}(ha:fy V d a)(h:d<=e):fy V e a:=λt ht=>⟨(ha t ht).1,Nat.le_trans (ha t ht).2 h⟩
def XP (x:Dyadic)(a b:Nat):cP x (a+b)=cP x a*cP x b:=by
 induction b with
 |zero=>show cP x a=cP x a*1;grind
 |succ b ih=>rw[<-Nat.add_assoc,cP,ih,cP];grind
def avE (X:Nat->Dyadic)(n:Nat)(a b:List UInt8)(ha:a.length=n)(hb:b.length=n)(h:iY a+iY b<=127)(k:Nat):fJ X 1 (eT a b) k=fJ X 1 a k*fJ X 1 b k:=by
 induction k with
 |zero=>show(1:Dyadic)=1*1;grind
 | succ k ih=>
   have h1:=yw a k;have h2:=yw b k;have e:((eT a b).getD k 0).toNat=(a.getD k 0).toNat+(b.getD k 0).toNat:=by
    by_cases hk:k<n
    . have hk2:k<(eT a b).length:=by rw[ze a b n ha hb];exact hk
      rw[<-My a b k hk2 zo];simp[hk2]
    . rw[List.getD_eq_getElem?_getD,List.getElem?_eq_none (by rw[ze a b n ha hb];omega),List.getD_eq_getElem?_getD,List.getElem?_eq_none zo,List.getD_eq_getElem?_getD,List.getElem?_eq_none zo];rfl
   rw[fJ,fJ,fJ,ih,e,XP];grind
def arc (X:Nat->Dyadic)(V d e:Nat)(ta tb:List aQ)(ha:fy V d ta)(hb:fy V e tb)(h:d+e<=127):df (fD X V) (ia ta tb)=df (fD X V) ta*df (fD X V) tb:=by
 induction ta with
 |nil=>show(0:Dyadic)=0*_;grind
 | cons x ta ih=>
   have h1:=ha x zm;have l1:=(se h1.1).1;have hx:df (fD X V) (tb.map λy=>(eT x.1 y.1,canon (aJ x.2*aJ y.2)))=aJ x.2*fD X V x.1*df (fD X V) tb:=by
    clear ih;induction tb with
    |nil=>show(0:Dyadic)=_*0;grind
    | cons y tb ih2=>
      have h2:=hb y zm;have l2:=(se h2.1).1;rw[List.map_cons,df,df,ih2 (λt ht=>hb t (by simp[ht])),cp];show _*fJ X 1 (eT x.1 y.1) V+_=_
      rw[avE X V x.1 y.1 l1 l2 (by have:=h1.2;have:=h2.2;omega)];unfold fD;grind
   have ec:ia (x::ta) tb=(tb.map λy=>(eT x.1 y.1,canon (aJ x.2*aJ y.2)))++ia ta tb:=rfl;rw[ec,DZ,hx,ih (λt ht=>ha t (by simp[ht])),df];grind
end Go.Proofs.YtnjfebkelecgaaaGreatDoor
namespace Go.Proofs.YtnjfebkelecgaaaGreatDoor
open Go.RowKit
attribute [local go_sem ↓] Go.wp_at_zero Go.wp_at_succ
def yr (a b:List UInt8):Int:=if Op.bytesLess a b then-1 else if Op.bytesLess b a then 1 else 0
def ay2 (l:List UInt8)(s:Bool)(m:List UInt8)(e:Int)(l':List UInt8)(s':Bool)(m':List UInt8)(e':Int)(w:World):
 Cv 55 #[.agg #[ai l,aj s,ai m,ah e],.agg #[ai l',aj s',ai m',ah e']] w (ah (yr l l')):=by
 obtain⟨R,hR⟩:=aK (yr l l');unfold yr at hR;rw[show yr l l'=R from hR];obtain⟨W,dK,Hb,Hx,Hy⟩:=mG w 67 [ai l,aj s,ai m,ah e] 67 [ai l',aj s',ai m',ah e'];obtain⟨x0,x1,x2,x3⟩:=Hx.out.c4;obtain⟨y0,y1,y2,y3⟩:=Hy.out.c4;cases h1:Op.bytesLess l l' with
 | true=>
   rw[h1]at hR;simp only[if_true]at hR;subst hR;have h2:Op.bytesLess (bs l).toList (bs l').toList=true:=by rw[gX,gX];exact h1
   clear h1;go_enter Tryz.func55,Tryz.ntmps55;go_wp2;go_ret;exact⟨rfl,Hb.out⟩
 | false=>
   rw[h1]at hR;simp only[Bool.false_eq_true,if_false]at hR;have h2:Op.bytesLess (bs l).toList (bs l').toList=false:=by rw[gX,gX];exact h1
   cases h3:Op.bytesLess l' l with
   | true=>
     rw[h3]at hR;simp only[if_true]at hR;subst hR;have hne:¬l=l':=by rintro rfl;rw[DK]at h3;cases h3
     have h4:((bs l).toList==(bs l').toList)=false:=by rw[gX,gX];simpa using hne
     have h5:¬(bs l).toList=(bs l').toList:=by rw[gX,gX];exact hne
     clear h1 h3 hne;go_enter Tryz.func55,Tryz.ntmps55;go_wp2;go_ret;exact⟨rfl,Hb.out⟩
   |false=>rw[h3]at hR;simp only[Bool.false_eq_true,if_false]at hR;subst hR;obtain rfl:=DN h1 h3;clear h1 h3;go_enter Tryz.func55,Tryz.ntmps55;go_wp2;go_ret;exact⟨rfl,Hb.out⟩
def azk (l:List UInt8)(s:Bool)(m:List UInt8)(e:Int)(l':List UInt8)(s':Bool)(m':List UInt8)(e':Int)(S:Dyadic)(B:Nat)(hS:aJ (s,m,e)+aJ (s',m',e')=S)(w:World)(hx:Fit B (s,m,e))(hy:Fit B (s',m',e'))(hB:B+2<=268435456)(hT:aM w):
 Cv 56 #[.agg #[ai l,aj s,ai m,ah e],.agg #[ai l',aj s',ai m',ah e']] w (.agg #[ai l,aj (aC (dN S)),ai (nt (dN S).natAbs),ah (dE S)]):=by
 obtain⟨fO,mN,HS,HT⟩:=ej hx hy hS hT;clear hx hy hS hT;obtain⟨W,dK,Hb,Hx,Hy,Hr⟩:=wu w 67 [ai l,aj s,ai m,ah e] 67 [ai l',aj s',ai m',ah e'] 67 [.string ⟨#[]⟩,aj false,.string ⟨#[]⟩,ah 0];obtain⟨x0,x1,x2,x3⟩:=Hx.out.c4;obtain⟨y0,y1,y2,y3⟩:=Hy.out.c4;obtain⟨r0,aH,r1,aI,r2,aX,r3,iK⟩:=Hr.out.g4;go_enter Tryz.func56,Tryz.ntmps56;go_wp2_with fail;refine bV (λw'=>aF w' (w.heap.size) 0 (ai l)/\aF w' (w.heap.size) 1 (aj s)/\aF w' (w.heap.size) 2 (ai m)/\aF w' (w.heap.size) 3 (ah e)/\aF w' (w.heap.size+1) 0 (ai l')/\aF w' (w.heap.size+1) 1 (aj s')/\aF w' (w.heap.size+1) 2 (ai m')/\aF w' (w.heap.size+1) 3 (ah e')) (λi=>Nat.blt i 9) [(0,true),(1,true),(2,true),(3,true),(4,true),(5,true),(6,false),(7,false),(8,true),(9,false)] zk zk rfl zk zc ⟨x0,x1,x2,x3,y0,y1,y2,y3⟩ ?_;iterate 6 (refine pT rfl rfl ?_ (by intro w' ⟨q0,q1,q2,q3,q4,q5,q6,q7⟩;go_simp;try with_reducible rfl))
 refine aR rfl rfl (λK hK=>?_);go_simp;refine hK _ _ (λ_=>⟨aV x0,aV x1,aV x2,aV x3,aV y0,aV y1,aV y2,aV y3⟩) ?_
 refine bZ (λW3=>au W3 (W.heap.size) 48 [aj s,ai m,ah e,aj s',ai m',ah e']/\Bw W W3) (by first|exact eo|exact eu) ?_;rintro W3 ⟨qv,ag⟩;have Xd:=Hx.out.lt;have avl:=Hy.out.lt;have Kh:=Hr.out.lt;replace Hx:=kB Hx ag;replace Hy:=kB Hy ag;replace Hr:=kB Hr ag;have Hv:=ar qv;clear qv;obtain⟨x0,x1,x2,x3⟩:=Hx.out.c4;obtain⟨y0,y1,y2,y3⟩:=Hy.out.c4;obtain⟨r0,aH,r1,aI,r2,aX,r3,iK⟩:=Hr.out.g4;obtain⟨v0,v1,v2,v3,v4,v5⟩:=Hv.out.c6;replace Hb:=az Hb ag;refine aR rfl rfl (λK hK=>?_);go_simp;with_reducible refine(DW s m e s' m' e' S B HS.out W.heap.size _ 48 _ fO.out mN.out hB Hv.out ((HT.out.below Hb.out))).mono ?_
 rintro e w4 ⟨rfl,hq⟩;have ag:Bw W3 w4:=by first|exact hq|exact bo hq
 obtain⟨Hx,x0,x1,x2,x3⟩:=dZ Hx ag;obtain⟨Hy,y0,y1,y2,y3⟩:=dZ Hy ag;replace Hr:=kB Hr ag;obtain⟨Hv,v0,v1,v2,v3,v4,v5⟩:=kR Hv ag;obtain⟨r0,aH,r1,aI,r2,aX,r3,iK⟩:=Hr.out.g4;replace Hb:=az Hb ag;refine hK _ _ (λ_=>⟨x0,x1,x2,x3,y0,y1,y2,y3⟩) ?_
 refine pT rfl rfl ?_
 refine aR rfl rfl (λK hK=>?_);go_simp;refine hK _ _ (λh=>absurd h zd) ?_
 refine bZ (bY w4 (w.heap.size+1+1) 0 [ai l,aj (aC (dN S)),ai (nt (dN S).natAbs),ah (dE S)]) cC ?_;intro w5 hs;replace Hx:=kS Hx hs zo;replace Hy:=kS Hy hs zo;replace Hr:=dt Hr hs;replace Hv:=kS Hv hs zo;obtain⟨x0,x1,x2,x3⟩:=Hx.out.c4;obtain⟨y0,y1,y2,y3⟩:=Hy.out.c4;obtain⟨r0,aH,r1,aI,r2,aX,r3,iK⟩:=Hr.out.g4;obtain⟨v0,v1,v2,v3,v4,v5⟩:=Hv.out.c6;replace Hb:=bS Hb hs ZS;clear hs;simp only[bu];go_wp2;exact bodyPost_ret (v:=.agg #[ai l,aj (aC (dN S)),ai (nt (dN S).natAbs),ah (dE S)]) (by simp[results,Tryz.results56,go_sem,r0,r1,r2,r3]) rfl ⟨rfl,dH⟩
def apV (l:List UInt8)(s:Bool)(m:List UInt8)(e:Int)(w:World)(hx:Ok (s,m,e)):
 Cv 99 #[.agg #[ai l,aj s,ai m,ah e]] w (aj (!iw (l,s,m,e))):=by
 obtain⟨g,hg⟩:=aK (eG (aJ (s,m,e)));have hs:=λW=>vK s m e g hg W hx;have hz:(!iw (l,s,m,e))=decide (g=0):=by unfold iw;rw[hg];by_cases h:g=0<;>simp[h]
 rw[hz];have Hs:=ar hs;clear hs hz hg hx;obtain⟨W,dK,Hb,Hx⟩:=jD w 67 [ai l,aj s,ai m,ah e];obtain⟨x0,x1,x2,x3⟩:=Hx.out.c4;go_enter Tryz.func99,Tryz.ntmps99;go_wp2_with fail;refine(Hs.out _).mono ?_;rintro e w1 ⟨rfl,ag⟩;obtain⟨Hx,x0,x1,x2,x3⟩:=dZ Hx ag;replace Hb:=az Hb ag;go_wp2;refine bodyPost_ret (results_tmp rfl _ _ _) rfl ⟨?_,Hb.out⟩;by_cases h:g=0<;>simp[h]
def avu (l:List UInt8)(s:Bool)(m:List UInt8)(e:Int)(V:Int)(bv:Nat)(w:World)(hv:w.cell? ⟨bv,0,none⟩=some (ah V))(hl:l.length<=9223372036854775807):
 Cv 156 #[.agg #[ai l,aj s,ai m,ah e],.pointer (some ⟨bv,0,none⟩)] w (aj (!eQ l V)):=by
 have hm:=λW=>Fe l V W hl;obtain⟨t,ht⟩:=aK (eQ l V);rw[ht]at hm⊢;obtain⟨Hm,Hv⟩:=aZ hm hv;clear hm ht hv;obtain⟨W,dK,Hb,Hx⟩:=jD w 67 [ai l,aj s,ai m,ah e];obtain⟨x0,x1,x2,x3⟩:=Hx.out.c4;have hv2:=cell_later Hb.out Hv.out;go_enter Tryz.func156,Tryz.ntmps156;go_wp2_with fail;refine(Hm.out _).mono ?_;rintro e w1 ⟨rfl,ag⟩;obtain⟨Hx,x0,x1,x2,x3⟩:=dZ Hx ag;replace Hb:=az Hb ag;clear ag hv2;go_wp2;refine bodyPost_ret (results_tmp rfl _ _ _) rfl ⟨rfl,Hb.out⟩
def oI {α:Type}(p:α->Bool):List α->Nat->Int
 |[],_=>-1
 |v::l,k=>if p v then(k:Int)else oI p l (k+1)
def agD {α:Type}(p:α->Bool)(l:List α)(k n:Nat)(h:n<l.length):oI p (l.drop n) k=if p l[n]then(k:Int)else oI p (l.drop (n+1)) (k+1):=by rw[List.drop_eq_getElem_cons h];rfl
def agC {α:Type}(p:α->Bool)(l:List α)(k:Nat):decide (0<=oI p l k)=l.any p:=by
 induction l generalizing k with
 |nil=>rfl
 | cons v l ih=>
   unfold oI;rw[List.any_cons];by_cases h:p v=true
   . rw[if_pos h,h,Bool.true_or];simp
   . rw[if_neg h,ih];simp[h]
def agF {α:Type}(p:α->Bool)(l:List α)(k:Nat):(oI p l k= -1/\∀x∈l,p x=false)\/∃i,∃h:i<l.length,oI p l k=((k+i:Nat):Int)/\p l[i]=true/\∀j (hj:j<i),p (l[j]'zo)=false:=by
 induction l generalizing k with
 |nil=>exact .inl ⟨rfl,λx hx=>by cases hx⟩
 | cons v l ih=>
   unfold oI;by_cases h:p v=true
   . rw[if_pos h];exact .inr ⟨0,by simp,rfl,h,λj hj=>by omega⟩
   . rw[if_neg h];rcases ih (k+1)with⟨h1,h2⟩ |⟨i,h1,h2,h3,h4⟩
     . exact .inl ⟨h1,λx hx=>by rcases List.mem_cons.1 hx with rfl|hx;simpa using h;exact h2 x hx⟩
     . refine .inr ⟨i+1,by simpa using h1,by rw[h2];congr 1;omega,by simpa using h3,λj hj=>?_⟩;cases j with
       |zero=>simpa using h
       |succ j=>simpa using h4 j zo
structure Pv where
 V:Int
 a:Option Addr
 n:Nat
 c:Nat
def nR (p:Pv):List Value:=[ah p.V,.slice p.a p.n p.c]
def At.aFQ {w:World}{a:Option Addr}{ps:List Pv}(h:At w a (ps.flatMap nR))(k:Nat)(hk:k<ps.length){V:Int}{a':Option Addr}{n c:Nat}(hx:ps[k]=⟨V,a',n,c⟩):
 ∃b o,a=some ⟨b,o,none⟩/\bH w b (o+k*2) [ah V,.slice a' n c]:=by
 obtain⟨b,o,hab,hcs⟩:=h.elem (f:=nR) (sz:=2) (λ_=>rfl) zd k hk;refine⟨b,o,hab,λj hj=>?_⟩;have:=hcs j hj;rw[hx]at this;rw[this];unfold nR;rw[List.getElem?_eq_getElem (by simpa using hj)]
def WL (a:Option Addr)(n cap:Nat)(vals:List aQ)(gf:Nat)(lb:Array Value)(p:aQ->Bool)(w:World)(hn:vals.length=n)(hl:n<=1099511627776)(ha:At w a (vals.flatMap aY))
 (eg:∀args w,(callFunc gf args).run Tryz.prog w=.ok (.enter gf args) w)
 (hcl:∀x∈vals,∀W,Bw w W->Cl gf (#[.agg #[ai x.1,aj x.2.1,ai x.2.2.1,ah x.2.2.2]]++lb) W λe w'=>e=.returned (aj (p x))/\Bw W w'):
 Cv 134 #[.slice a n cap,.func (.func gf) #[] lb] w (ah (oI p vals 0)):=by
 obtain⟨Hn,Ha,gP,tW⟩:=ej hn ha hcl eg;clear hn ha hcl eg;have Hb:=hbz w;go_enter Tryz.func134,Tryz.ntmps134;go_wp2_with fail;go_loopw[5,8] (λ_ i wr=>∃k:Nat,k<=n/\i=ah (k:Int)/\oI p vals 0=oI p (vals.drop k) k/\Bw w wr) (λ_ i _=>n-(intOf i).toNat);case atStart=>exact⟨0,Nat.zero_le _,rfl,rfl,Hb.out⟩
 case round=>
  clear Hb;obtain⟨k,hk,rfl,iV,pb⟩:=hrel;obtain⟨qI,Hb⟩:=aZ iV pb;clear iV pb;by_cases hlt:k<n
  . have bC:k<vals.length:=by rw[Hn.out];exact hlt
    obtain⟨l,s,m,e,hx⟩:∃l s m e,vals[k]=(l,s,m,e):=⟨_,_,_,_,rfl⟩;obtain⟨b,o,hab,cj⟩:=(Ha.out.below Hb.out).term k bC hx;obtain⟨q0,q1,q2,q3⟩:=cj.w4;have bD:=gJ n cap k (k:Int) hab hlt rfl;have hcall:=gP.out _ (List.getElem_mem bC) wr Hb.out;have hstep:=agD p vals k k bC;rw[<-qI.out]at hstep;rw[hx]at hcall hstep;obtain⟨ll,rI⟩:=aZ hstep hcall;have wR:=tW.out;clear cj hab hx hstep hcall;go_wp2_with fail;refine rI.out.mono ?_;rintro e9 w1 ⟨rfl,hb1⟩;replace Hb:=ar (aO Hb.out hb1);clear hb1 q0 q1 q2 q3 bD wR;obtain⟨t,ht⟩:=aK (p (l,s,m,e));rw[ht]at ll⊢;clear ht;cases t with
    |true=>go_wp2;refine bodyPost_ret (results_tmp rfl _ _ _) rfl ⟨?_,Hb.out⟩;have h:=ll.out;rw[if_pos (by trivial)]at h;rw[h];rfl
    | false=>
      go_wp2;go_roundw;case rel=>exact⟨k+1,by omega,by go_num,by have h:=ll.out;rw[if_neg zd]at h;exact h,Hb.out⟩
      case measure=>exact bI
  . obtain rfl:k=n:=by omega
    go_wp2;refine bodyPost_ret (results_tmp rfl _ _ _) rfl ⟨?_,Hb.out⟩;have h:=qI.out;rw[List.drop_of_length_le (by rw[Hn.out];exact Nat.le_refl _)]at h;rw[h];rfl
def aqg (a:Option Addr)(n cap:Nat)(vals:List aQ)(gf:Nat)(lb:Array Value)(p:aQ->Bool)(w:World)(hn:vals.length=n)(hl:n<=1099511627776)(ha:At w a (vals.flatMap aY))
 (eg:∀args w,(callFunc gf args).run Tryz.prog w=.ok (.enter gf args) w)
 (hcl:∀x∈vals,∀W,Bw w W->Cl gf (#[.agg #[ai x.1,aj x.2.1,ai x.2.2.1,ah x.2.2.2]]++lb) W λe w'=>e=.returned (aj (p x))/\Bw W w'):
 Cv 155 #[.slice a n cap,.func (.func gf) #[] lb] w (aj (vals.any p)):=by
 have h1:=WL a n cap vals gf lb p w hn hl ha eg hcl;rw[<-agC p vals 0];generalize oI p vals 0=i at*;have H1:=ar h1;clear h1 hcl eg ha hn;have Hb:=hbz w;go_enter Tryz.func155,Tryz.ntmps155;go_wp2_with fail;refine(H1.out).mono ?_;rintro e w1 ⟨rfl,ag⟩;replace Hb:=az Hb ag;go_wp2;exact bodyPost_ret (v:=aj (decide (0<=i))) (by simp[results,Tryz.results155,go_sem]) rfl ⟨rfl,dH⟩
def atY (a:Option Addr)(n cap:Nat)(vals:List Pv)(gf:Nat)(lb:Array Value)(p:Pv->Bool)(w:World)(hn:vals.length=n)(hl:n<=1099511627776)(ha:At w a (vals.flatMap nR))
 (eg:∀args w,(callFunc gf args).run Tryz.prog w=.ok (.enter gf args) w)
 (hcl:∀x∈vals,∀W,Bw w W->Cl gf (#[.agg #[ah x.V,.slice x.a x.n x.c]]++lb) W λe w'=>e=.returned (aj (p x))/\Bw W w'):
 Cv 133 #[.slice a n cap,.func (.func gf) #[] lb] w (ah (oI p vals 0)):=by
 obtain⟨Hn,Ha,gP,tW⟩:=ej hn ha hcl eg;clear hn ha hcl eg;have Hb:=hbz w;go_enter Tryz.func133,Tryz.ntmps133;go_wp2_with fail;go_loopw[5,8] (λ_ i wr=>∃k:Nat,k<=n/\i=ah (k:Int)/\oI p vals 0=oI p (vals.drop k) k/\Bw w wr) (λ_ i _=>n-(intOf i).toNat);case atStart=>exact⟨0,Nat.zero_le _,rfl,rfl,Hb.out⟩
 case round=>
  clear Hb;obtain⟨k,hk,rfl,iV,pb⟩:=hrel;obtain⟨qI,Hb⟩:=aZ iV pb;clear iV pb;by_cases hlt:k<n
  . have bC:k<vals.length:=by rw[Hn.out];exact hlt
    obtain⟨V,a1,n1,c1,hx⟩:∃V a1 n1 c1,vals[k]=⟨V,a1,n1,c1⟩:=⟨_,_,_,_,rfl⟩;obtain⟨b,o,hab,cj⟩:=(Ha.out.below Hb.out).aFQ k bC hx;obtain⟨q0,q1⟩:=cj.w2;have bD:=Aj n cap k (k:Int) hab hlt rfl;have hcall:=gP.out _ (List.getElem_mem bC) wr Hb.out;have hstep:=agD p vals k k bC;rw[<-qI.out]at hstep;rw[hx]at hcall hstep;obtain⟨ll,rI⟩:=aZ hstep hcall;have wR:=tW.out;clear cj hab hx hstep hcall;go_wp2_with fail;refine rI.out.mono ?_;rintro e9 w1 ⟨rfl,hb1⟩;replace Hb:=ar (aO Hb.out hb1);clear hb1 q0 q1 bD wR;obtain⟨t,ht⟩:=aK (p ⟨V,a1,n1,c1⟩);rw[ht]at ll⊢;clear ht;cases t with
    |true=>go_wp2;refine bodyPost_ret (results_tmp rfl _ _ _) rfl ⟨?_,Hb.out⟩;have h:=ll.out;rw[if_pos (by trivial)]at h;rw[h];rfl
    | false=>
      go_wp2;go_roundw;case rel=>exact⟨k+1,by omega,by go_num,by have h:=ll.out;rw[if_neg zd]at h;exact h,Hb.out⟩
      case measure=>exact bI
  . obtain rfl:k=n:=by omega
    go_wp2;refine bodyPost_ret (results_tmp rfl _ _ _) rfl ⟨?_,Hb.out⟩;have h:=qI.out;rw[List.drop_of_length_le (by rw[Hn.out];exact Nat.le_refl _)]at h;rw[h];rfl
def aqh (a:Option Addr)(n cap:Nat)(vals:List Pv)(gf:Nat)(lb:Array Value)(p:Pv->Bool)(w:World)(hn:vals.length=n)(hl:n<=1099511627776)(ha:At w a (vals.flatMap nR))
 (eg:∀args w,(callFunc gf args).run Tryz.prog w=.ok (.enter gf args) w)
 (hcl:∀x∈vals,∀W,Bw w W->Cl gf (#[.agg #[ah x.V,.slice x.a x.n x.c]]++lb) W λe w'=>e=.returned (aj (p x))/\Bw W w'):
 Cv 95 #[.slice a n cap,.func (.func gf) #[] lb] w (aj (vals.any p)):=by
 have h1:=atY a n cap vals gf lb p w hn hl ha eg hcl;rw[<-agC p vals 0];generalize oI p vals 0=i at*;have H1:=ar h1;clear h1 hcl eg ha hn;have Hb:=hbz w;go_enter Tryz.func95,Tryz.ntmps95;go_wp2_with fail;refine(H1.out).mono ?_;rintro e w1 ⟨rfl,ag⟩;replace Hb:=az Hb ag;go_wp2;exact bodyPost_ret (v:=aj (decide (0<=i))) (by simp[results,Tryz.results95,go_sem]) rfl ⟨rfl,dH⟩
end Go.Proofs.YtnjfebkelecgaaaGreatDoor
namespace Go.Proofs.YtnjfebkelecgaaaGreatDoor
open Go.RowKit
def gV (w:World)(base n:Nat)(R:List (List Dyadic))(k:Nat)(v:Value):Prop:=
 ∃vals:List Value,vals.length=k/\w.ownsRow base 32 1 v k vals/\(∀i (h:i<vals.length),w.ownsRow base 48 3 vals[i] n (dC (R.getD i [])))/\
  ∀i j (hi:i<vals.length) (hj:j<vals.length) g,vals[i].ownBlock=some g->vals[j].ownBlock=some g->i=j
def gV.nil (w:World)(base n:Nat)(R:List (List Dyadic)):gV w base n R 0 (.slice none 0 0):=
 ⟨[],rfl,World.ownsRow_nil _ _ _ _,λ_ h=>absurd h (Nat.not_lt_zero _),λ_ _ h=>absurd h (Nat.not_lt_zero _)⟩
def gV.below {w w':World}{base n k:Nat}{R:List (List Dyadic)}{v:Value}(h:gV w base n R k v)(hb:Bw w w'):gV w' base n R k v:=by obtain⟨vals,hl,ho,hi,hd⟩:=h;exact⟨vals,hl,ownsRow_below ho hb,λi h=>ownsRow_below (hi i h) hb,hd⟩
def gV.push {w w':World}{base n k:Nat}{R:List (List Dyadic)}{v v' x:Value}{vals:List Value}(hl:vals.length=k)(hov:w.ownsRow base 32 1 v k vals)(hi:∀i (h:i<vals.length),w.ownsRow base 48 3 vals[i] n (dC (R.getD i [])))
 (hd:∀i j (hi:i<vals.length) (hj:j<vals.length) g,vals[i].ownBlock=some g->vals[j].ownBlock=some g->i=j)
 (hx:w.ownsRow base 48 3 x n (dC (R.getD k []))) (jz:∀g,x.ownBlock=some g->∀i (h:i<vals.length),vals[i].ownBlock≠some g)
 (ho:w'.ownsRow base 32 1 v' (k+1) (vals++[x])) (hg:w.grownBy w' v.ownBlock):gV w' base n R (k+1) v':=by
 refine⟨_,by simp[hl],ho,λi h=>?_,λi j h1 h2 g e1 e2=>?_⟩
 . by_cases hk:i<vals.length
   . rw[List.getElem_append_left hk];exact(hi i hk).kept hg (KP (hi i hk) hov zd)
   . have hik:i=k:=by simp at h;omega
     subst hik;rw[List.getElem_append_right zo];simp only[hl,Nat.sub_self,List.getElem_cons_zero];exact hx.kept hg (KP hx hov zd)
 . by_cases k1:i<vals.length
   . rw[List.getElem_append_left k1]at e1;by_cases k2:j<vals.length
     . rw[List.getElem_append_left k2]at e2;exact hd i j k1 k2 g e1 e2
     . have hjk:j=k:=by simp at h2;omega
       subst hjk;rw[List.getElem_append_right zo]at e2;simp only[hl,Nat.sub_self,List.getElem_cons_zero]at e2;exact absurd e1 (jz g e2 i k1)
   . have hik:i=k:=by simp at h1;omega
     subst hik;rw[List.getElem_append_right zo]at e1;simp only[hl,Nat.sub_self,List.getElem_cons_zero]at e1;by_cases k2:j<vals.length
     . rw[List.getElem_append_left k2]at e2;exact absurd e2 (jz g e1 j k2)
     . simp at h2;omega
def gV.tbl {w:World}{base n k:Nat}{R:List (List Dyadic)}{v:Value}(h:gV w base n R k v)(hk:R.length=k)(hn:∀r∈R,r.length=n):∃a c,v=.slice a k c/\k<=c/\cZ w a (R.map λr=>r.map canon):=by
 obtain⟨vals,hl,ho,hi,hd⟩:=h;obtain⟨a,c,hv,hat,_⟩:=dS ho;subst hv;refine⟨a,c,rfl,PM ho,vals,by simp[hl,hk],hat,λi h1 h2=>?_⟩;obtain⟨a1,c1,e1,e2,_⟩:=dS (hi i h2);have hi1:i<R.length:=by simpa using h1
 have eg:R.getD i []=R[i]:=by simp[hi1]
 rw[eg]at e2;refine⟨a1,c1,?_,?_⟩
 . rw[e1];simp[hn _ (List.getElem_mem hi1)]
 . rw[List.getElem_map,<-oh];exact e2
def aqr (ds:List Dyadic)(j:Nat)(hj:j<ds.length):(dC ds)[j*3]?=some (aj (aC (dN ds[j])))/\(dC ds)[j*3+1]?=some (ai (nt (dN ds[j]).natAbs))/\(dC ds)[j*3+2]?=some (ah (dE ds[j])):=by have h:=λi (hi:i<3)=>flat_get (λd=>bG (canon d)) 3 (λ_=>rfl) ds j i hj hi;unfold dC;exact⟨(h 0 zd),(h 1 zd),(h 2 zd)⟩
def gV.num {w:World}{base n L:Nat}{R:List (List Dyadic)}{v:Value}(h:gV w base n R L v)(i j:Nat)(hi:i<L)(hj:j<n)(hR:R.length=L)(hr:(R.getD i []).length=n):
 ∃go cap g c,v=.slice (some ⟨go,0,none⟩) L cap/\base<=go/\base<=g/\g≠go/\w.cell? ⟨go,i,none⟩=some (.slice (some ⟨g,0,none⟩) n c)/\
  bH w g (j*3) [aj (aC (dN ((R.getD i []).getD j 0))),ai (nt (dN ((R.getD i []).getD j 0)).natAbs),ah (dE ((R.getD i []).getD j 0))]/\(∀o,w.frozen? ⟨g,o,none⟩=false)/\
  ∀y:Dyadic,gV (((w.setCell ⟨g,j*3,none⟩ (aj (aC (dN y)))).setCell ⟨g,j*3+1,none⟩ (ai (nt (dN y).natAbs))).setCell ⟨g,j*3+2,none⟩ (ah (dE y))) base n (R.set i ((R.getD i []).set j y)) L v:=by
 obtain⟨vals,hl,ho,hv,hd⟩:=h;have hi2:i<vals.length:=by omega
 have hrow:=hv i hi2;have hxl:(dC (R.getD i [])).length=n*3:=by rw[TI,hr]
 obtain⟨a0,cap,rfl,_,_⟩:=dS ho;obtain⟨a1,c,e1,_,hab⟩:=dS hrow;rw[e1]at hrow;rcases ho.2 with⟨h1,_⟩ |⟨go,cap',cur,h1,jT,hgo,_⟩
 . simp at h1;omega
 simp only[Value.slice.injEq,true_and]at h1;obtain⟨rfl,rfl⟩:=h1;have hrow2:=hrow;rcases hrow.2 with⟨h1,_⟩ |⟨g,c',cur',h1,hbg,hgg,_⟩
 . simp at h1;omega
 simp only[Value.slice.injEq,true_and]at h1;obtain⟨rfl,rfl⟩:=h1;have hne:g≠go:=by rintro rfl;rw[hgo]at hgg;simp at hgg
 have hat:=aqr (R.getD i []) j zo;have hg0:(R.getD i []).getD j 0=(R.getD i [])[j]'zo:=by rw[List.getD_eq_getElem?_getD,List.getElem?_eq_getElem zo];rfl
 have hc0:=lR hrow (j*3) zo;have hc1:=lR hrow (j*3+1) zo;have hc2:=lR hrow (j*3+2) zo;rw[<-List.getElem?_eq_getElem]at hc0 hc1 hc2;rw[hat.1]at hc0;rw[hat.2.1]at hc1;rw[hat.2.2]at hc2;refine⟨go,cap,g,c,rfl,jT,hbg,hne,?_,by rw[hg0];exact jH hc0 hc1 hc2,λo=>?_,λy=>?_⟩
 . rw[lR ho i zo,e1]
 . have h4:au w g 48 cur'.toList:=by unfold au;simpa using hgg
   exact h4.free o
 . refine⟨vals,hl,?_,λm hm=>?_,hd⟩
   . have hn:∀(o:Nat) (u:Value) (W:World),W.ownsRow base 32 1 (.slice (some ⟨go,0,none⟩) L cap) L vals->(W.setCell ⟨g,o,none⟩ u).ownsRow base 32 1 (.slice (some ⟨go,0,none⟩) L cap) L vals:=λo u W h=>ownsRow_setCell_other h (by simpa[Value.ownBlock]using hne.symm) _;exact hn _ _ _ (hn _ _ _ (hn _ _ _ ho))
   . by_cases xS:m=i
     . subst xS;have hs:(R.set m ((R.getD m []).set j y)).getD m []=(R.getD m []).set j y:=by rw[List.getD_eq_getElem?_getD,List.getElem?_set_self zo];rfl
       rw[hs,e1,<-acx];exact kX (kX (kX hrow _ _) _ _) _ _
     . have hs:(R.set i ((R.getD i []).set j y)).getD m []=R.getD m []:=by rw[List.getD_eq_getElem?_getD,List.getElem?_set_ne (λe=>xS e.symm),<-List.getD_eq_getElem?_getD]
       rw[hs];have hno:vals[m].ownBlock≠some g:=λe=>xS (hd m i hm hi2 g e (by rw[e1];rfl));exact ownsRow_setCell_other (ownsRow_setCell_other (ownsRow_setCell_other (hv m hm) hno _) hno _) hno _
end Go.Proofs.YtnjfebkelecgaaaGreatDoor
