/- slices.IndexFunc,slices.ContainsFunc,over slices of terms and of polynomials. -/
import Derived.Test.YtdaadlblknpipaaGreatDoorZ11
import Derived.Test.YtdaadlblknpipaaGreatDoorZ7
import Derived.Test.YtdaadlblknpipaaGreatDoorZ12
import Derived.Test.YtdaadlblknpipaaGreatDoorZ9
set_option linter.unusedVariables false
set_option linter.unusedSimpArgs false
set_option maxRecDepth 100000
set_option maxHeartbeats 16000000
namespace Go.Proofs.YtdaadlblknpipaaGreatDoor
open Go.RowKit
attribute [local go_sem ↓] Go.wp_at_zero Go.wp_at_succ
def lO {α:Type}(p:α->Bool):List α->Nat->Int
 |[],_=>-1
 |v::l,k=>if p v then(k:Int)else lO p l (k+1)
theorem WA {α:Type}(p:α->Bool)(l:List α)(k n:Nat)(h:n<l.length):lO p (l.drop n) k=if p l[n]then(k:Int)else lO p (l.drop (n+1)) (k+1):=by rw[List.drop_eq_getElem_cons h];rfl
theorem Wz {α:Type}(p:α->Bool)(l:List α)(k:Nat):decide (0<=lO p l k)=l.any p:=by
 induction l generalizing k with
 |nil=>rfl
 | cons v l ih=>
   unfold lO;rw[List.any_cons];by_cases h:p v=true
   . rw[if_pos h,h,Bool.true_or];simp
   . rw[if_neg h,ih];simp[h]
theorem WB {α:Type}(p:α->Bool)(l:List α)(k:Nat):(lO p l k= -1/\∀x∈l,p x=false)\/∃i,∃h:i<l.length,lO p l k=((k+i:Nat):Int)/\p l[i]=true/\∀j (hj:j<i),p (l[j]'zo)=false:=by
 induction l generalizing k with
 |nil=>exact .inl ⟨rfl,λx hx=>by cases hx⟩
 | cons v l ih=>
   unfold lO;by_cases h:p v=true
   . rw[if_pos h];exact .inr ⟨0,by simp,rfl,h,λj hj=>by omega⟩
   . rw[if_neg h];rcases ih (k+1)with⟨h1,h2⟩ |⟨i,h1,h2,h3,h4⟩
     . exact .inl ⟨h1,λx hx=>by rcases List.mem_cons.1 hx with rfl|hx;simpa using h;exact h2 x hx⟩
     . refine .inr ⟨i+1,by simpa using h1,by rw[h2];congr 1;omega,by simpa using h3,λj hj=>?_⟩;cases j with
       |zero=>simpa using h
       |succ j=>simpa using h4 j zo
structure Pv where
 V:Int
 a:Option Addr
 n:Nat
 c:Nat
def lU (p:Pv):List Value:=[.int .i64 p.V,.slice p.a p.n p.c]
theorem At.apm {w:World}{a:Option Addr}{ps:List Pv}(h:At w a (ps.flatMap lU))(k:Nat)(hk:k<ps.length){V:Int}{a':Option Addr}{n c:Nat}(hx:ps[k]=⟨V,a',n,c⟩):
 ∃b o,a=some ⟨b,o,none⟩/\aV w b (o+k*2) [.int .i64 V,.slice a' n c]:=by
 obtain⟨b,o,hab,hcs⟩:=h.elem (f:=lU) (sz:=2) (λ_=>rfl) zd k hk;refine⟨b,o,hab,λj hj=>?_⟩;have:=hcs j hj;rw[hx]at this;rw[this];unfold lU;rw[List.getElem?_eq_getElem (by simpa using hj)]
theorem NC (a:Option Addr)(n cap:Nat)(vals:List aK)(gf:Nat)(lb:Array Value)(p:aK->Bool)(w:World)(hn:vals.length=n)(hl:n<=1099511627776)(ha:At w a (vals.flatMap aN))
 (eg:∀args w,(callFunc gf args).run Tryz.prog w=.ok (.enter gf args) w)
 (hcl:∀x∈vals,∀W,Bw w W->Calls Tryz.prog gf (#[.agg #[.string (bs x.1),.bool x.2.1,.string (bs x.2.2.1),.int .i64 x.2.2.2]]++lb) W λe w'=>e=.returned (.bool (p x))/\Bw W w'):
 Calls Tryz.prog 163 #[.slice a n cap,.func (.func gf) #[] lb] w λe w'=>e=.returned (.int .i64 (lO p vals 0))/\Bw w w':=by
 obtain⟨Hn,Ha,iG,qh⟩:=dW hn ha hcl eg;clear hn ha hcl eg;have Hb:Hid (Bw w w):=Below.refl _ _;go_enter Tryz.func163,Tryz.ntmps163;go_wp2_with fail;go_loopw[5,8] (λ_ i wr=>∃k:Nat,k<=n/\i=.int .i64 (k:Int)/\lO p vals 0=lO p (vals.drop k) k/\Bw w wr) (λ_ i _=>n-(intOf i).toNat);case atStart=>exact⟨0,Nat.zero_le _,rfl,rfl,Hb.out⟩
 case round=>
  clear Hb;obtain⟨k,hk,rfl,gZ,pb⟩:=hrel;obtain⟨mV,Hb⟩:=aL gZ pb;clear gZ pb;by_cases hlt:k<n
  . have bj:k<vals.length:=by rw[Hn.out];exact hlt
    obtain⟨l,s,m,e,hx⟩:∃l s m e,vals[k]=(l,s,m,e):=⟨_,_,_,_,rfl⟩;obtain⟨b,o,hab,cW⟩:=(Ha.out.below Hb.out).term k bj hx;obtain⟨q0,q1,q2,q3⟩:=cW.w4;have bD:=jJ n cap k (k:Int) hab hlt rfl;have hcall:=iG.out _ (List.getElem_mem bj) wr Hb.out;have hstep:=WA p vals k k bj;rw[<-mV.out]at hstep;rw[hx]at hcall hstep;obtain⟨fU,ll⟩:=aL hstep hcall;have tj:=qh.out;clear cW hab hx hstep hcall;go_wp2_with fail;refine ll.out.mono ?_;rintro e9 w1 ⟨rfl,hb1⟩;replace Hb:=ah (aJ Hb.out hb1);clear hb1 q0 q1 q2 q3 bD tj;obtain⟨t,ht⟩:=aB (p (l,s,m,e));rw[ht]at fU⊢;clear ht;cases t with
    |true=>go_wp2;refine bodyPost_ret (results_tmp rfl _ _ _) rfl ⟨?_,Hb.out⟩;have h:=fU.out;rw[if_pos (by trivial)]at h;rw[h];rfl
    | false=>
      go_wp2;go_roundw;case rel=>exact⟨k+1,by omega,by go_num,by have h:=fU.out;rw[if_neg zd]at h;exact h,Hb.out⟩
      case measure=>simp[intOf];omega
  . obtain rfl:k=n:=by omega
    go_wp2;refine bodyPost_ret (results_tmp rfl _ _ _) rfl ⟨?_,Hb.out⟩;have h:=mV.out;rw[List.drop_of_length_le (by rw[Hn.out];exact Nat.le_refl _)]at h;rw[h];rfl
theorem ad7 (a:Option Addr)(n cap:Nat)(vals:List aK)(gf:Nat)(lb:Array Value)(p:aK->Bool)(w:World)(hn:vals.length=n)(hl:n<=1099511627776)(ha:At w a (vals.flatMap aN))
 (eg:∀args w,(callFunc gf args).run Tryz.prog w=.ok (.enter gf args) w)
 (hcl:∀x∈vals,∀W,Bw w W->Calls Tryz.prog gf (#[.agg #[.string (bs x.1),.bool x.2.1,.string (bs x.2.2.1),.int .i64 x.2.2.2]]++lb) W λe w'=>e=.returned (.bool (p x))/\Bw W w'):
 Calls Tryz.prog 134 #[.slice a n cap,.func (.func gf) #[] lb] w λe w'=>e=.returned (.bool (vals.any p))/\Bw w w':=by
 have h1:=NC a n cap vals gf lb p w hn hl ha eg hcl;rw[<-Wz p vals 0];generalize lO p vals 0=i at*;have H1:=ah h1;clear h1 hcl eg ha hn;have Hb:Hid (Bw w w):=Below.refl _ _;go_enter Tryz.func134,Tryz.ntmps134;go_wp2_with fail;refine(H1.out).mono ?_;rintro e w1 ⟨rfl,ae⟩;replace Hb:=au Hb ae;clear ae;go_wp2;refine bodyPost_ret (v:=.bool (decide (0<=i))) (by simp[results,Tryz.results134,go_sem]) rfl ⟨rfl,?_⟩;(repeat first|exact Hb.out| (refine Below.setCell ?_ (by have:=Hb.out.size;first| (dsimp only;omega) | (show _<=_;omega) | (simp<;>omega)) _) | (refine Below.alloc ?_ zt _) |refine Below.drew ?_)
theorem ag0 (a:Option Addr)(n cap:Nat)(vals:List Pv)(gf:Nat)(lb:Array Value)(p:Pv->Bool)(w:World)(hn:vals.length=n)(hl:n<=1099511627776)(ha:At w a (vals.flatMap lU))
 (eg:∀args w,(callFunc gf args).run Tryz.prog w=.ok (.enter gf args) w)
 (hcl:∀x∈vals,∀W,Bw w W->Calls Tryz.prog gf (#[.agg #[.int .i64 x.V,.slice x.a x.n x.c]]++lb) W λe w'=>e=.returned (.bool (p x))/\Bw W w'):
 Calls Tryz.prog 164 #[.slice a n cap,.func (.func gf) #[] lb] w λe w'=>e=.returned (.int .i64 (lO p vals 0))/\Bw w w':=by
 obtain⟨Hn,Ha,iG,qh⟩:=dW hn ha hcl eg;clear hn ha hcl eg;have Hb:Hid (Bw w w):=Below.refl _ _;go_enter Tryz.func164,Tryz.ntmps164;go_wp2_with fail;go_loopw[5,8] (λ_ i wr=>∃k:Nat,k<=n/\i=.int .i64 (k:Int)/\lO p vals 0=lO p (vals.drop k) k/\Bw w wr) (λ_ i _=>n-(intOf i).toNat);case atStart=>exact⟨0,Nat.zero_le _,rfl,rfl,Hb.out⟩
 case round=>
  clear Hb;obtain⟨k,hk,rfl,gZ,pb⟩:=hrel;obtain⟨mV,Hb⟩:=aL gZ pb;clear gZ pb;by_cases hlt:k<n
  . have bj:k<vals.length:=by rw[Hn.out];exact hlt
    obtain⟨V,a1,n1,c1,hx⟩:∃V a1 n1 c1,vals[k]=⟨V,a1,n1,c1⟩:=⟨_,_,_,_,rfl⟩;obtain⟨b,o,hab,cW⟩:=(Ha.out.below Hb.out).apm k bj hx;obtain⟨q0,q1⟩:=cW.w2;have bD:=xS n cap k (k:Int) hab hlt rfl;have hcall:=iG.out _ (List.getElem_mem bj) wr Hb.out;have hstep:=WA p vals k k bj;rw[<-mV.out]at hstep;rw[hx]at hcall hstep;obtain⟨fU,ll⟩:=aL hstep hcall;have tj:=qh.out;clear cW hab hx hstep hcall;go_wp2_with fail;refine ll.out.mono ?_;rintro e9 w1 ⟨rfl,hb1⟩;replace Hb:=ah (aJ Hb.out hb1);clear hb1 q0 q1 bD tj;obtain⟨t,ht⟩:=aB (p ⟨V,a1,n1,c1⟩);rw[ht]at fU⊢;clear ht;cases t with
    |true=>go_wp2;refine bodyPost_ret (results_tmp rfl _ _ _) rfl ⟨?_,Hb.out⟩;have h:=fU.out;rw[if_pos (by trivial)]at h;rw[h];rfl
    | false=>
      go_wp2;go_roundw;case rel=>exact⟨k+1,by omega,by go_num,by have h:=fU.out;rw[if_neg zd]at h;exact h,Hb.out⟩
      case measure=>simp[intOf];omega
  . obtain rfl:k=n:=by omega
    go_wp2;refine bodyPost_ret (results_tmp rfl _ _ _) rfl ⟨?_,Hb.out⟩;have h:=mV.out;rw[List.drop_of_length_le (by rw[Hn.out];exact Nat.le_refl _)]at h;rw[h];rfl
theorem ad8 (a:Option Addr)(n cap:Nat)(vals:List Pv)(gf:Nat)(lb:Array Value)(p:Pv->Bool)(w:World)(hn:vals.length=n)(hl:n<=1099511627776)(ha:At w a (vals.flatMap lU))
 (eg:∀args w,(callFunc gf args).run Tryz.prog w=.ok (.enter gf args) w)
 (hcl:∀x∈vals,∀W,Bw w W->Calls Tryz.prog gf (#[.agg #[.int .i64 x.V,.slice x.a x.n x.c]]++lb) W λe w'=>e=.returned (.bool (p x))/\Bw W w'):
 Calls Tryz.prog 139 #[.slice a n cap,.func (.func gf) #[] lb] w λe w'=>e=.returned (.bool (vals.any p))/\Bw w w':=by
 have h1:=ag0 a n cap vals gf lb p w hn hl ha eg hcl;rw[<-Wz p vals 0];generalize lO p vals 0=i at*;have H1:=ah h1;clear h1 hcl eg ha hn;have Hb:Hid (Bw w w):=Below.refl _ _;go_enter Tryz.func139,Tryz.ntmps139;go_wp2_with fail;refine(H1.out).mono ?_;rintro e w1 ⟨rfl,ae⟩;replace Hb:=au Hb ae;clear ae;go_wp2;refine bodyPost_ret (v:=.bool (decide (0<=i))) (by simp[results,Tryz.results139,go_sem]) rfl ⟨rfl,?_⟩;(repeat first|exact Hb.out| (refine Below.setCell ?_ (by have:=Hb.out.size;first| (dsimp only;omega) | (show _<=_;omega) | (simp<;>omega)) _) | (refine Below.alloc ?_ zt _) |refine Below.drew ?_)
theorem Oh (X:Dyadic)(s:Bool)(m:List UInt8)(e:Int)(b:Bool)(h:(canon X==(s,m,e))= !b)(w':World):
 (if ar (dN X)=s then if(bs (nt (dN X).natAbs)).toList=(bs m).toList then if dE X=e then Result.ok (Next.value (Value.bool false)) w' else Result.ok (Next.value (Value.bool true)) w' else Result.ok (Next.value (Value.bool true)) w' else Result.ok (Next.value (Value.bool true)) w')=Result.ok (Next.value (Value.bool b)) w':=by
 have ht:∀x y:List UInt8,(bs x).toList=(bs y).toList↔x=y:=λx y=>by rw[gq,gq]
 have hc:(canon X==(s,m,e))=decide (ar (dN X)=s/\nt (dN X).natAbs=m/\dE X=e):=by rw[Bool.eq_iff_iff];simp[canon]
 rw[hc]at h;simp only[ht];cases b with
 | false=>
   have h2:ar (dN X)=s/\nt (dN X).natAbs=m/\dE X=e:=by simpa using h
   rw[if_pos h2.1,if_pos h2.2.1,if_pos h2.2.2]
 | true=>
   have h2:¬(ar (dN X)=s/\nt (dN X).natAbs=m/\dE X=e):=by intro h3;rw[decide_eq_true h3]at h;cases h
   by_cases h3:ar (dN X)=s
   . rw[if_pos h3];by_cases h4:nt (dN X).natAbs=m
     . rw[if_pos h4,if_neg (λh5=>h2 ⟨h3,h4,h5⟩)]
     . rw[if_neg h4]
   . rw[if_neg h3]
theorem XK (V:Int)(a:Option Addr)(cap N:Nat)(ts:List aK)(w:World)(hN:ts.length=N)(hn:N<=1048576)(ha:At w a (ts.flatMap aN))(hl:∀t∈ts,t.1.length<=9223372036854775807/\Ok t.2)(hT:aF w):
 Calls Tryz.prog 77 #[.agg #[.int .i64 V,.slice a N cap]] w λe w'=>e=.returned (.int .i64 (yn V ts))/\Bw w w':=by
 obtain⟨Ha,Hl,HN,ie⟩:=dW ha hl hN hT;obtain⟨R,hR⟩:=aB (yn V ts);unfold yn at hR;rw[hN]at hR;rw[show yn V ts=R by unfold yn;rw[hN];exact hR];have HR:=ah hR;clear ha hl hN hR hT;obtain⟨W,dc,Hb,Hp⟩:=iF w 57 [.int .i64 V,.slice a N cap];obtain⟨p0,p1⟩:=Hp.out.c2;go_enter Tryz.func77,Tryz.ntmps77;go_wp2_with fail;refine(FZ V _).mono ?_;rintro e w1 ⟨rfl,ae⟩;clear p0 p1;replace Hp:=kB Hp ae;obtain⟨p0,p1⟩:=Hp.out.c2;replace Hb:=au Hb ae;clear ae;by_cases h1:0<=V/\V<=12
 . by_cases h2:4096<N
   . have h3:(4096:Int)<(N:Int):=by omega
     have hR:=HR.out;rw[if_neg (λh=>h h1),if_pos h2]at hR;clear HR;subst hR;go_wp2;refine bodyPost_ret (v:=.int .i64 3) (by simp[results,Tryz.results77,go_sem]) rfl ⟨rfl,?_⟩;(repeat first|exact Hb.out| (refine Below.setCell ?_ (by have:=Hb.out.size;first| (dsimp only;omega) | (show _<=_;omega) | (simp<;>omega)) _) | (refine Below.alloc ?_ zt _) |refine Below.drew ?_)
   . have h3:¬(4096:Int)<(N:Int):=by omega
     have h3d:decide ((4096:Int)<(N:Int))=false:=by simp;omega
     have hR:Hid ((if(List.range N).all (qG V ts)then(0:Int)else 1)=R):=by
      show _=_
      have hR:=HR.out;rw[if_neg (λh=>h h1),if_neg h2]at hR;exact hR
     clear HR;obtain⟨bQ,wT⟩:=aL Hb.out Hp.out;clear Hb Hp p0 p1;have p0:w1.cell? ⟨w.heap.size,0,none⟩=some (.int .i64 V):=wT.out.cell 0;have p1:w1.cell? ⟨w.heap.size,1,none⟩=some (.slice a N cap):=wT.out.cell 1;go_wp2_with fail;go_loopw[16] (λx wr=>∃k:Nat,k<=N/\x=.int .i64 (k:Int)/\(List.range k).all (qG V ts)=true/\ak wr w.heap.size 57 [.int .i64 V,.slice a N cap]/\Bw w wr) (λx _=>N-(intOf x).toNat);case atStart=>exact⟨0,Nat.zero_le _,rfl,rfl,wT.out,bQ.out⟩
     case round=>
      clear bQ wT p0 p1;obtain⟨k,hk,rfl,pD,gM,pb⟩:=hrel;by_cases hlt:k<N
      . have hk2:k<ts.length:=by rw[HN.out];exact hlt
        obtain⟨l,s,m,e,hx⟩:∃l s m e,ts[k]=(l,s,m,e):=⟨_,_,_,_,rfl⟩;obtain⟨b,o,hab,cW⟩:=(Ha.out.below pb).term k hk2 hx;have hl2:l.length<=9223372036854775807/\Ok (s,m,e):=by have:=Hl.out _ (List.getElem_mem hk2);rw[hx]at this;exact this
        have Tb:ts.getD k default=(l,s,m,e):=by simp[hk2,hx]
        have MB:(List.range (k+1)).all (qG V ts)=qG V ts k:=by rw[List.range_succ,List.all_append,pD];simp
        have hbad:qG V ts k=false->R=1:=by intro h;rw[<-hR.out,if_neg];intro h5;rw[List.all_eq_true]at h5;have:=h5 k (List.mem_range.2 hlt);rw[h]at this;cases this
        have vr:qG V ts k=(CH V l (s,m,e)&&(k==0||Op.bytesLess (bs (ts.getD (k-1) default).1).toList (bs l).toList)):=by unfold qG;rw[Tb]
        have bD:=jJ N cap k (k:Int) hab hlt rfl;obtain⟨X,hX⟩:=aB (az (s,m,e));obtain⟨sg,il⟩:=aB (cw X);have hgt:CH V l (s,m,e)=(gA l V&& !(sg==0)&&(canon X==(s,m,e))):=by unfold CH;rw[hX,il]
        rw[hgt]at vr;obtain⟨RJ,eI,aO,wP,QT,yG,HX⟩:=pR cW hl2 pb vr MB hbad hX;have jU:Hid (cw (az (s,m,e))=sg):=by show _=_;rw[hX];exact il
        have Hp:=ah gM;have HU:Hid (aF wr):=ie.out.below pb;clear cW hl2 vr MB hbad hX il hgt Tb gM hx;have jB:=ah hab;clear hab;have Hb:Hid (Bw wr wr):=Below.refl _ _;have sz:=pb.size;have mB:Hid (aV wr b (o+k*4) [.string (bs l),.bool s,.string (bs m),.int .i64 e]):=RJ.out;obtain⟨p0,p1⟩:=Hp.out.c2;obtain⟨ut,uu,uv,uw⟩:=mB.out.w4;have HU:Hid (aF wr):=HU.out;have P0:=ut;have P1:=uu;have P2:=uv;have P3:=uw;have ahY:=Hp.out.lt;obtain⟨W4,mF,ae,Ht⟩:=cN wr 107 [.string (bs l),.bool s,.string (bs m),.int .i64 e];clear p0 p1;replace Hp:=kB Hp ae;clear ut uu uv uw;replace mB:=kW mB ae;replace HU:=kT HU ae;obtain⟨p0,p1⟩:=Hp.out.c2;obtain⟨ut,uu,uv,uw⟩:=mB.out.w4;obtain⟨t0,t1,t2,t3⟩:=Ht.out.c4;replace Hb:=au Hb ae;clear ae ut uu uv uw mB RJ;cases hmv:gA l V with
        | false=>
          have hr:=yG.out (by rw[wP.out,hmv];rfl);subst hr;have qX:=λW=>NZ l V W (by have:=eI.out.1;omega);rw[hmv]at qX;have tB:=ah qX;clear qX;go_wp2_with fail;refine bJ (λw'=>w'.cell? ⟨w.heap.size,0,none⟩=some (.int .i64 V)/\w'.cell? ⟨w.heap.size,1,none⟩=some (.slice a N cap)/\w'.cell? ⟨wr.heap.size,0,none⟩=some (.string (bs l))/\w'.cell? ⟨wr.heap.size,1,none⟩=some (.bool s)/\w'.cell? ⟨wr.heap.size,2,none⟩=some (.string (bs m))/\w'.cell? ⟨wr.heap.size,3,none⟩=some (.int .i64 e)) (λi=>Nat.blt i 100000) [(0,true),(1,true),(2,true),(3,true),(4,false),(5,true),(6,true),(7,true),(8,true),(9,false),(10,true),(11,true),(12,true),(13,true),(14,true),(16,true),(17,true),(15,false),(18,true),(19,true),(20,true),(21,true),(22,true),(23,true),(24,true),(25,true),(26,true),(27,true),(28,true),(29,true),(30,true),(31,true),(32,true),(33,true),(34,true),(35,true)] zk zk rfl zk zc ⟨p0,p1,t0,t1,t2,t3⟩ ?_;iterate 4 (refine pT rfl rfl ?_ (by intro w' ⟨q0,q1,q2,q3,q4,q5⟩;go_simp;try with_reducible rfl);try simp only[UU])
          refine aI rfl rfl (λK hK=>?_);go_simp;with_reducible refine(tB.out _).mono ?_
          rintro e w5 ⟨rfl,hq⟩;have ae:Bw W4 w5:=by first|exact hq|exact aM hq
          clear p0 p1 t0 t1 t2 t3;replace Hp:=kB Hp ae;replace HU:=kT HU ae;replace Ht:=kB Ht ae;obtain⟨p0,p1⟩:=Hp.out.c2;obtain⟨t0,t1,t2,t3⟩:=Ht.out.c4;replace Hb:=au Hb ae;clear ae;refine hK _ _ (λ_=>⟨p0,p1,t0,t1,t2,t3⟩) ?_;clear hK K;try simp only[UU]
          iterate 2 (refine pT rfl rfl ?_;try simp only[UU])
          refine bu rfl rfl ?_;try simp only[UU]
          refine bu rfl rfl ?_;try simp only[UU]
          refine Oz rfl rfl (λ_=>⟨p0,p1,t0,t1,t2,t3⟩) ?_;try simp only[UU]
          refine bu rfl rfl ?_;try simp only[UU]
          iterate 2 (refine pT rfl rfl ?_;try simp only[UU])
          refine bu rfl rfl ?_;try simp only[UU]
          refine bu rfl rfl ?_;try simp only[UU]
          refine bu rfl rfl ?_;try simp only[UU]
          refine bu rfl rfl ?_;try simp only[UU]
          refine Oz rfl rfl (λ_=>⟨p0,p1,t0,t1,t2,t3⟩) ?_;try simp only[UU]
          refine bu rfl rfl ?_;try simp only[UU]
          iterate 2 (refine pT rfl rfl ?_;try simp only[UU])
          refine bu rfl rfl ?_;try simp only[UU]
          refine bu rfl rfl ?_;try simp only[UU]
          refine bu rfl rfl ?_;try simp only[UU]
          refine bu rfl rfl ?_;try simp only[UU]
          refine bu rfl rfl ?_;try simp only[UU]
          refine bu rfl rfl ?_;try simp only[UU]
          refine bu rfl rfl ?_;try simp only[UU]
          refine bu rfl rfl ?_;try simp only[UU]
          refine bu rfl rfl ?_;try simp only[UU]
          refine bu rfl rfl ?_;try simp only[UU]
          refine bu rfl rfl ?_;try simp only[UU]
          refine bu rfl rfl ?_;try simp only[UU]
          refine bu rfl rfl ?_;try simp only[UU]
          refine bu rfl rfl ?_;try simp only[UU]
          refine pT rfl rfl ?_;try simp only[UU]
          simp only[aU];go_wp2;refine bodyPost_ret (results_tmp rfl _ _ _) rfl ⟨rfl,aJ aO.out Hb.out⟩
        | true=>
          have qX:=λW=>NZ l V W (by have:=eI.out.1;omega);rw[hmv]at qX;have tB:=ah qX;clear qX;by_cases hs0:sg=0
          . have hr:=yG.out (by rw[wP.out,hmv,hs0];rfl);subst hr hs0;go_wp2_with fail;refine bJ (λw'=>w'.cell? ⟨w.heap.size,0,none⟩=some (.int .i64 V)/\w'.cell? ⟨w.heap.size,1,none⟩=some (.slice a N cap)/\w'.cell? ⟨wr.heap.size,0,none⟩=some (.string (bs l))/\w'.cell? ⟨wr.heap.size,1,none⟩=some (.bool s)/\w'.cell? ⟨wr.heap.size,2,none⟩=some (.string (bs m))/\w'.cell? ⟨wr.heap.size,3,none⟩=some (.int .i64 e)) (λi=>Nat.blt i 100000) [(0,true),(1,true),(2,true),(3,true),(4,false),(5,true),(6,true),(7,true),(8,true),(9,false),(10,true),(11,true),(12,true),(13,true),(14,true),(16,true),(17,true),(15,false),(18,true),(19,true),(20,true),(21,true),(22,true),(23,true),(24,true),(25,true),(26,true),(27,true),(28,true),(29,true),(30,true),(31,true),(32,true),(33,true),(34,true),(35,true)] zk zk rfl zk zc ⟨p0,p1,t0,t1,t2,t3⟩ ?_;iterate 4 (refine pT rfl rfl ?_ (by intro w' ⟨q0,q1,q2,q3,q4,q5⟩;go_simp;try with_reducible rfl);try simp only[UU])
            refine aI rfl rfl (λK hK=>?_);go_simp;with_reducible refine(tB.out _).mono ?_
            rintro e w5 ⟨rfl,hq⟩;have ae:Bw W4 w5:=by first|exact hq|exact aM hq
            clear p0 p1 t0 t1 t2 t3;replace Hp:=kB Hp ae;replace HU:=kT HU ae;replace Ht:=kB Ht ae;obtain⟨p0,p1⟩:=Hp.out.c2;obtain⟨t0,t1,t2,t3⟩:=Ht.out.c4;replace Hb:=au Hb ae;clear ae;refine hK _ _ (λ_=>⟨p0,p1,t0,t1,t2,t3⟩) ?_;clear hK K;try simp only[UU]
            iterate 4 (refine pT rfl rfl ?_ (by intro w' ⟨q0,q1,q2,q3,q4,q5⟩;go_simp;try with_reducible rfl);try simp only[UU])
            refine aI rfl rfl (λK hK=>?_);go_simp;with_reducible refine(nZ s m e 0 jU.out _ eI.out.2).mono ?_
            rintro e w6 ⟨rfl,hq⟩;have ae:Bw w5 w6:=by first|exact hq|exact aM hq
            clear p0 p1 t0 t1 t2 t3;replace Hp:=kB Hp ae;replace HU:=kT HU ae;replace Ht:=kB Ht ae;obtain⟨p0,p1⟩:=Hp.out.c2;obtain⟨t0,t1,t2,t3⟩:=Ht.out.c4;replace Hb:=au Hb ae;clear ae;refine hK _ _ (λ_=>⟨p0,p1,t0,t1,t2,t3⟩) ?_;clear hK K;try simp only[UU]
            iterate 3 (refine pT rfl rfl ?_;try simp only[UU])
            refine bu rfl rfl ?_;try simp only[UU]
            refine bu rfl rfl ?_;try simp only[UU]
            refine bu rfl rfl ?_;try simp only[UU]
            refine bu rfl rfl ?_;try simp only[UU]
            refine Oz rfl rfl (λ_=>⟨p0,p1,t0,t1,t2,t3⟩) ?_;try simp only[UU]
            refine bu rfl rfl ?_;try simp only[UU]
            iterate 2 (refine pT rfl rfl ?_;try simp only[UU])
            refine bu rfl rfl ?_;try simp only[UU]
            refine bu rfl rfl ?_;try simp only[UU]
            refine bu rfl rfl ?_;try simp only[UU]
            refine bu rfl rfl ?_;try simp only[UU]
            refine bu rfl rfl ?_;try simp only[UU]
            refine bu rfl rfl ?_;try simp only[UU]
            refine bu rfl rfl ?_;try simp only[UU]
            refine bu rfl rfl ?_;try simp only[UU]
            refine bu rfl rfl ?_;try simp only[UU]
            refine bu rfl rfl ?_;try simp only[UU]
            refine bu rfl rfl ?_;try simp only[UU]
            refine bu rfl rfl ?_;try simp only[UU]
            refine bu rfl rfl ?_;try simp only[UU]
            refine bu rfl rfl ?_;try simp only[UU]
            refine pT rfl rfl ?_;try simp only[UU]
            simp only[aU];go_wp2;refine bodyPost_ret (results_tmp rfl _ _ _) rfl ⟨rfl,aJ aO.out Hb.out⟩
          . have hs1:(sg==0)=false:=by simpa using hs0
            by_cases hc:canon X=(s,m,e)
            . have hcb:(canon X==(s,m,e))=true:=by simpa using hc
              have hne:=Oh X s m e false hcb;clear hc;by_cases kP:k=0
              . have hg:=wP.out;rw[hmv,hs1,hcb,kP]at hg;have BI:Hid ((List.range (k+1)).all (qG V ts)=true):=by show _=_;rw[QT.out,kP,hg];rfl
                have hk1:decide (0<k)=false:=by simp;omega
                clear hg hcb kP;go_wp2_with fail;refine bJ (λw'=>w'.cell? ⟨w.heap.size,0,none⟩=some (.int .i64 V)/\w'.cell? ⟨w.heap.size,1,none⟩=some (.slice a N cap)/\w'.cell? ⟨wr.heap.size,0,none⟩=some (.string (bs l))/\w'.cell? ⟨wr.heap.size,1,none⟩=some (.bool s)/\w'.cell? ⟨wr.heap.size,2,none⟩=some (.string (bs m))/\w'.cell? ⟨wr.heap.size,3,none⟩=some (.int .i64 e)) (λi=>Nat.blt i 100000) [(0,true),(1,true),(2,true),(3,true),(4,false),(5,true),(6,true),(7,true),(8,true),(9,false),(10,true),(11,true),(12,true),(13,true),(14,true),(16,true),(17,true),(15,false),(18,true),(19,true),(20,true),(21,true),(22,true),(23,true),(24,true),(25,true),(26,true),(27,true),(28,true),(29,true),(30,true),(31,true),(32,true),(33,true),(34,true),(35,true)] zk zk rfl zk zc ⟨p0,p1,t0,t1,t2,t3⟩ ?_;iterate 4 (refine pT rfl rfl ?_ (by intro w' ⟨q0,q1,q2,q3,q4,q5⟩;go_simp;try with_reducible rfl);try simp only[UU])
                refine aI rfl rfl (λK hK=>?_);go_simp;with_reducible refine(tB.out _).mono ?_
                rintro e w5 ⟨rfl,hq⟩;have ae:Bw W4 w5:=by first|exact hq|exact aM hq
                clear p0 p1 t0 t1 t2 t3;replace Hp:=kB Hp ae;replace HU:=kT HU ae;replace Ht:=kB Ht ae;obtain⟨p0,p1⟩:=Hp.out.c2;obtain⟨t0,t1,t2,t3⟩:=Ht.out.c4;replace Hb:=au Hb ae;clear ae;refine hK _ _ (λ_=>⟨p0,p1,t0,t1,t2,t3⟩) ?_;clear hK K;try simp only[UU]
                iterate 4 (refine pT rfl rfl ?_ (by intro w' ⟨q0,q1,q2,q3,q4,q5⟩;go_simp;try with_reducible rfl);try simp only[UU])
                refine aI rfl rfl (λK hK=>?_);go_simp;with_reducible refine(nZ s m e sg jU.out _ eI.out.2).mono ?_
                rintro e w6 ⟨rfl,hq⟩;have ae:Bw w5 w6:=by first|exact hq|exact aM hq
                clear p0 p1 t0 t1 t2 t3;replace Hp:=kB Hp ae;replace HU:=kT HU ae;replace Ht:=kB Ht ae;obtain⟨p0,p1⟩:=Hp.out.c2;obtain⟨t0,t1,t2,t3⟩:=Ht.out.c4;replace Hb:=au Hb ae;clear ae;refine hK _ _ (λ_=>⟨p0,p1,t0,t1,t2,t3⟩) ?_;clear hK K;try simp only[UU]
                iterate 7 (refine pT rfl rfl ?_ (by intro w' ⟨q0,q1,q2,q3,q4,q5⟩;go_simp;try with_reducible rfl);try simp only[UU])
                refine aI rfl rfl (λK hK=>?_);go_simp;with_reducible refine(pp s m e X HX.out _ eI.out.2 (by first|exact HU.out|exact aF.drew HU.out|exact aF.alloc HU.out _|exact aF.drew (aF.alloc HU.out _) |exact aF.alloc (aF.drew HU.out) _)).mono ?_
                rintro e w7 ⟨rfl,hq⟩;have ae:Bw w6 w7:=by first|exact hq|exact aM hq
                clear p0 p1 t0 t1 t2 t3;replace Hp:=kB Hp ae;replace HU:=kT HU ae;replace Ht:=kB Ht ae;obtain⟨p0,p1⟩:=Hp.out.c2;obtain⟨t0,t1,t2,t3⟩:=Ht.out.c4;replace Hb:=au Hb ae;clear ae;refine hK _ _ (λ_=>⟨p0,p1,t0,t1,t2,t3⟩) ?_;clear hK K;try simp only[UU]
                iterate 6 (refine pT rfl rfl ?_;try simp only[UU])
                refine bu rfl rfl ?_;try simp only[UU]
                refine bu rfl rfl ?_;try simp only[UU]
                refine bu rfl rfl ?_;try simp only[UU]
                refine bu rfl rfl ?_;try simp only[UU]
                refine bu rfl rfl ?_;try simp only[UU]
                refine bu rfl rfl ?_;try simp only[UU]
                refine bu rfl rfl ?_;try simp only[UU]
                refine bu rfl rfl ?_;try simp only[UU]
                refine bu rfl rfl ?_;try simp only[UU]
                refine bu rfl rfl ?_;try simp only[UU]
                iterate 2 (refine pT rfl rfl ?_;try simp only[UU])
                simp only[aU];go_wp2;go_roundw;case rel=>exact⟨k+1,by omega,by go_num,BI.out,Hp.out,aJ aO.out Hb.out⟩
                case measure=>simp[intOf];omega
              . have nu:k-1<ts.length:=by omega
                obtain⟨l',s',m',e',hx'⟩:∃l s m e,ts[k-1]=(l,s,m,e):=⟨_,_,_,_,rfl⟩;obtain⟨b',o',ou,sk⟩:=(Ha.out.below (aJ aO.out Hb.out)).term (k-1) nu hx';have hab:=jB.out;rw[hab]at ou;simp only[Option.some.injEq,Addr.mk.injEq,and_true]at ou;obtain⟨rfl,rfl⟩:=ou;have Tc:ts.getD (k-1) default=(l',s',m',e'):=by simp[nu,hx']
                have hg:=wP.out;rw[Tc,hmv,hs1,hcb]at hg;have Vi:(k==0)=false:=by simpa using kP
                rw[Vi]at hg;have hk1:decide (0<k)=true:=by simp;omega
                have MJ:IntKind.i64.wrap ((k:Int)-1)=((k-1:Nat):Int):=by rw[IntKind.wrap_i64];omega
                have MF:=jJ N cap (k-1) ((k-1:Nat):Int) hab zo rfl;obtain⟨kp,zU⟩:=aB (k-1);rw[zU]at MF MJ sk;have agq:kp<N:=by omega
                have cK:Hid (aV W4 b (o+kp*4) [.string (bs l'),.bool s',.string (bs m'),.int .i64 e']):=sk;have amw:=ah zU;clear sk kP Vi hcb Tc hx' zU hab;cases rW:Op.bytesLess (bs l').toList (bs l).toList with
                | true=>
                  have BI:Hid ((List.range (k+1)).all (qG V ts)=true):=by show _=_;rw[QT.out,hg];simpa using rW
                  clear hg;go_wp2_with fail;obtain⟨p0,p1⟩:=Hp.out.c2;obtain⟨t0,t1,t2,t3⟩:=Ht.out.c4;have iT:W4.cell? ⟨b,o+kp*4,none⟩=some (.string (bs l')):=cK.out.cell 0 zm;have HU:Hid (aF W4):=HU.out;refine bJ (λw'=>w'.cell? ⟨w.heap.size,0,none⟩=some (.int .i64 V)/\w'.cell? ⟨w.heap.size,1,none⟩=some (.slice a N cap)/\w'.cell? ⟨wr.heap.size,0,none⟩=some (.string (bs l))/\w'.cell? ⟨wr.heap.size,1,none⟩=some (.bool s)/\w'.cell? ⟨wr.heap.size,2,none⟩=some (.string (bs m))/\w'.cell? ⟨wr.heap.size,3,none⟩=some (.int .i64 e)/\w'.cell? ⟨b,o+kp*4,none⟩=some (.string (bs l'))) (λi=>Nat.blt i 100000) [(0,true),(1,true),(2,true),(3,true),(4,false),(5,true),(6,true),(7,true),(8,true),(9,false),(10,true),(11,true),(12,true),(13,true),(14,true),(16,true),(17,true),(15,false),(18,true),(19,true),(20,true),(21,true),(22,true),(23,true),(24,true),(25,true),(26,true),(27,true),(28,true),(29,true),(30,true),(31,true),(32,true),(33,true),(34,true),(35,true)] zk zk rfl zk zc ⟨p0,p1,t0,t1,t2,t3,iT⟩ ?_;iterate 4 (refine pT rfl rfl ?_ (by intro w' ⟨q0,q1,q2,q3,q4,q5,q6⟩;go_simp;try with_reducible rfl);try simp only[UU])
                  refine aI rfl rfl (λK hK=>?_);go_simp;with_reducible refine(tB.out _).mono ?_
                  rintro e w5 ⟨rfl,hq⟩;have ae:Bw W4 w5:=by first|exact hq|exact aM hq
                  clear p0 p1 t0 t1 t2 t3 iT;replace Hp:=kB Hp ae;replace Ht:=kB Ht ae;replace cK:=kW cK ae;replace HU:=kT HU ae;obtain⟨p0,p1⟩:=Hp.out.c2;obtain⟨t0,t1,t2,t3⟩:=Ht.out.c4;have iT:w5.cell? ⟨b,o+kp*4,none⟩=some (.string (bs l')):=cK.out.cell 0 zm;replace Hb:=au Hb ae;clear ae;refine hK _ _ (λ_=>⟨p0,p1,t0,t1,t2,t3,iT⟩) ?_;clear hK K;try simp only[UU]
                  iterate 4 (refine pT rfl rfl ?_ (by intro w' ⟨q0,q1,q2,q3,q4,q5,q6⟩;go_simp;try with_reducible rfl);try simp only[UU])
                  refine aI rfl rfl (λK hK=>?_);go_simp;with_reducible refine(nZ s m e sg jU.out _ eI.out.2).mono ?_
                  rintro e w6 ⟨rfl,hq⟩;have ae:Bw w5 w6:=by first|exact hq|exact aM hq
                  clear p0 p1 t0 t1 t2 t3 iT;replace Hp:=kB Hp ae;replace Ht:=kB Ht ae;replace cK:=kW cK ae;replace HU:=kT HU ae;obtain⟨p0,p1⟩:=Hp.out.c2;obtain⟨t0,t1,t2,t3⟩:=Ht.out.c4;have iT:w6.cell? ⟨b,o+kp*4,none⟩=some (.string (bs l')):=cK.out.cell 0 zm;replace Hb:=au Hb ae;clear ae;refine hK _ _ (λ_=>⟨p0,p1,t0,t1,t2,t3,iT⟩) ?_;clear hK K;try simp only[UU]
                  iterate 7 (refine pT rfl rfl ?_ (by intro w' ⟨q0,q1,q2,q3,q4,q5,q6⟩;go_simp;try with_reducible rfl);try simp only[UU])
                  refine aI rfl rfl (λK hK=>?_);go_simp;with_reducible refine(pp s m e X HX.out _ eI.out.2 (by first|exact HU.out|exact aF.drew HU.out|exact aF.alloc HU.out _|exact aF.drew (aF.alloc HU.out _) |exact aF.alloc (aF.drew HU.out) _)).mono ?_
                  rintro e w7 ⟨rfl,hq⟩;have ae:Bw w6 w7:=by first|exact hq|exact aM hq
                  clear p0 p1 t0 t1 t2 t3 iT;replace Hp:=kB Hp ae;replace Ht:=kB Ht ae;replace cK:=kW cK ae;replace HU:=kT HU ae;obtain⟨p0,p1⟩:=Hp.out.c2;obtain⟨t0,t1,t2,t3⟩:=Ht.out.c4;have iT:w7.cell? ⟨b,o+kp*4,none⟩=some (.string (bs l')):=cK.out.cell 0 zm;replace Hb:=au Hb ae;clear ae;refine hK _ _ (λ_=>⟨p0,p1,t0,t1,t2,t3,iT⟩) ?_;clear hK K;try simp only[UU]
                  iterate 18 (refine pT rfl rfl ?_ (by intro w' ⟨q0,q1,q2,q3,q4,q5,q6⟩;go_simp;try with_reducible rfl);try simp only[UU])
                  simp only[aU];go_wp2;go_roundw;case rel=>exact⟨k+1,by omega,by go_num,BI.out,Hp.out,aJ aO.out Hb.out⟩
                  case measure=>simp[intOf];omega
                | false=>
                  have hr:=yG.out (by rw[hg];simpa using rW);subst hr;clear hg;go_wp2_with fail;obtain⟨p0,p1⟩:=Hp.out.c2;obtain⟨t0,t1,t2,t3⟩:=Ht.out.c4;have iT:W4.cell? ⟨b,o+kp*4,none⟩=some (.string (bs l')):=cK.out.cell 0 zm;have HU:Hid (aF W4):=HU.out;refine bJ (λw'=>w'.cell? ⟨w.heap.size,0,none⟩=some (.int .i64 V)/\w'.cell? ⟨w.heap.size,1,none⟩=some (.slice a N cap)/\w'.cell? ⟨wr.heap.size,0,none⟩=some (.string (bs l))/\w'.cell? ⟨wr.heap.size,1,none⟩=some (.bool s)/\w'.cell? ⟨wr.heap.size,2,none⟩=some (.string (bs m))/\w'.cell? ⟨wr.heap.size,3,none⟩=some (.int .i64 e)/\w'.cell? ⟨b,o+kp*4,none⟩=some (.string (bs l'))) (λi=>Nat.blt i 100000) [(0,true),(1,true),(2,true),(3,true),(4,false),(5,true),(6,true),(7,true),(8,true),(9,false),(10,true),(11,true),(12,true),(13,true),(14,true),(16,true),(17,true),(15,false),(18,true),(19,true),(20,true),(21,true),(22,true),(23,true),(24,true),(25,true),(26,true),(27,true),(28,true),(29,true),(30,true),(31,true),(32,true),(33,true),(34,true),(35,true)] zk zk rfl zk zc ⟨p0,p1,t0,t1,t2,t3,iT⟩ ?_;iterate 4 (refine pT rfl rfl ?_ (by intro w' ⟨q0,q1,q2,q3,q4,q5,q6⟩;go_simp;try with_reducible rfl);try simp only[UU])
                  refine aI rfl rfl (λK hK=>?_);go_simp;with_reducible refine(tB.out _).mono ?_
                  rintro e w5 ⟨rfl,hq⟩;have ae:Bw W4 w5:=by first|exact hq|exact aM hq
                  clear p0 p1 t0 t1 t2 t3 iT;replace Hp:=kB Hp ae;replace Ht:=kB Ht ae;replace cK:=kW cK ae;replace HU:=kT HU ae;obtain⟨p0,p1⟩:=Hp.out.c2;obtain⟨t0,t1,t2,t3⟩:=Ht.out.c4;have iT:w5.cell? ⟨b,o+kp*4,none⟩=some (.string (bs l')):=cK.out.cell 0 zm;replace Hb:=au Hb ae;clear ae;refine hK _ _ (λ_=>⟨p0,p1,t0,t1,t2,t3,iT⟩) ?_;clear hK K;try simp only[UU]
                  iterate 4 (refine pT rfl rfl ?_ (by intro w' ⟨q0,q1,q2,q3,q4,q5,q6⟩;go_simp;try with_reducible rfl);try simp only[UU])
                  refine aI rfl rfl (λK hK=>?_);go_simp;with_reducible refine(nZ s m e sg jU.out _ eI.out.2).mono ?_
                  rintro e w6 ⟨rfl,hq⟩;have ae:Bw w5 w6:=by first|exact hq|exact aM hq
                  clear p0 p1 t0 t1 t2 t3 iT;replace Hp:=kB Hp ae;replace Ht:=kB Ht ae;replace cK:=kW cK ae;replace HU:=kT HU ae;obtain⟨p0,p1⟩:=Hp.out.c2;obtain⟨t0,t1,t2,t3⟩:=Ht.out.c4;have iT:w6.cell? ⟨b,o+kp*4,none⟩=some (.string (bs l')):=cK.out.cell 0 zm;replace Hb:=au Hb ae;clear ae;refine hK _ _ (λ_=>⟨p0,p1,t0,t1,t2,t3,iT⟩) ?_;clear hK K;try simp only[UU]
                  iterate 7 (refine pT rfl rfl ?_ (by intro w' ⟨q0,q1,q2,q3,q4,q5,q6⟩;go_simp;try with_reducible rfl);try simp only[UU])
                  refine aI rfl rfl (λK hK=>?_);go_simp;with_reducible refine(pp s m e X HX.out _ eI.out.2 (by first|exact HU.out|exact aF.drew HU.out|exact aF.alloc HU.out _|exact aF.drew (aF.alloc HU.out _) |exact aF.alloc (aF.drew HU.out) _)).mono ?_
                  rintro e w7 ⟨rfl,hq⟩;have ae:Bw w6 w7:=by first|exact hq|exact aM hq
                  clear p0 p1 t0 t1 t2 t3 iT;replace Hp:=kB Hp ae;replace Ht:=kB Ht ae;replace cK:=kW cK ae;replace HU:=kT HU ae;obtain⟨p0,p1⟩:=Hp.out.c2;obtain⟨t0,t1,t2,t3⟩:=Ht.out.c4;have iT:w7.cell? ⟨b,o+kp*4,none⟩=some (.string (bs l')):=cK.out.cell 0 zm;replace Hb:=au Hb ae;clear ae;refine hK _ _ (λ_=>⟨p0,p1,t0,t1,t2,t3,iT⟩) ?_;clear hK K;try simp only[UU]
                  iterate 18 (refine pT rfl rfl ?_ (by intro w' ⟨q0,q1,q2,q3,q4,q5,q6⟩;go_simp;try with_reducible rfl);try simp only[UU])
                  simp only[aU];go_wp2;refine bodyPost_ret (results_tmp rfl _ _ _) rfl ⟨rfl,aJ aO.out Hb.out⟩
            . have hr:=yG.out (by
               rw[wP.out,hmv,hs1];have:(canon X==(s,m,e))=false:=by simpa using hc
               rw[this];rfl)
              subst hr;have hne:=Oh X s m e true (by simpa using hc);clear hc;go_wp2_with fail;refine bJ (λw'=>w'.cell? ⟨w.heap.size,0,none⟩=some (.int .i64 V)/\w'.cell? ⟨w.heap.size,1,none⟩=some (.slice a N cap)/\w'.cell? ⟨wr.heap.size,0,none⟩=some (.string (bs l))/\w'.cell? ⟨wr.heap.size,1,none⟩=some (.bool s)/\w'.cell? ⟨wr.heap.size,2,none⟩=some (.string (bs m))/\w'.cell? ⟨wr.heap.size,3,none⟩=some (.int .i64 e)) (λi=>Nat.blt i 100000) [(0,true),(1,true),(2,true),(3,true),(4,false),(5,true),(6,true),(7,true),(8,true),(9,false),(10,true),(11,true),(12,true),(13,true),(14,true),(16,true),(17,true),(15,false),(18,true),(19,true),(20,true),(21,true),(22,true),(23,true),(24,true),(25,true),(26,true),(27,true),(28,true),(29,true),(30,true),(31,true),(32,true),(33,true),(34,true),(35,true)] zk zk rfl zk zc ⟨p0,p1,t0,t1,t2,t3⟩ ?_;iterate 4 (refine pT rfl rfl ?_ (by intro w' ⟨q0,q1,q2,q3,q4,q5⟩;go_simp;try with_reducible rfl);try simp only[UU])
              refine aI rfl rfl (λK hK=>?_);go_simp;with_reducible refine(tB.out _).mono ?_
              rintro e w5 ⟨rfl,hq⟩;have ae:Bw W4 w5:=by first|exact hq|exact aM hq
              clear p0 p1 t0 t1 t2 t3;replace Hp:=kB Hp ae;replace HU:=kT HU ae;replace Ht:=kB Ht ae;obtain⟨p0,p1⟩:=Hp.out.c2;obtain⟨t0,t1,t2,t3⟩:=Ht.out.c4;replace Hb:=au Hb ae;clear ae;refine hK _ _ (λ_=>⟨p0,p1,t0,t1,t2,t3⟩) ?_;clear hK K;try simp only[UU]
              iterate 4 (refine pT rfl rfl ?_ (by intro w' ⟨q0,q1,q2,q3,q4,q5⟩;go_simp;try with_reducible rfl);try simp only[UU])
              refine aI rfl rfl (λK hK=>?_);go_simp;with_reducible refine(nZ s m e sg jU.out _ eI.out.2).mono ?_
              rintro e w6 ⟨rfl,hq⟩;have ae:Bw w5 w6:=by first|exact hq|exact aM hq
              clear p0 p1 t0 t1 t2 t3;replace Hp:=kB Hp ae;replace HU:=kT HU ae;replace Ht:=kB Ht ae;obtain⟨p0,p1⟩:=Hp.out.c2;obtain⟨t0,t1,t2,t3⟩:=Ht.out.c4;replace Hb:=au Hb ae;clear ae;refine hK _ _ (λ_=>⟨p0,p1,t0,t1,t2,t3⟩) ?_;clear hK K;try simp only[UU]
              iterate 7 (refine pT rfl rfl ?_ (by intro w' ⟨q0,q1,q2,q3,q4,q5⟩;go_simp;try with_reducible rfl);try simp only[UU])
              refine aI rfl rfl (λK hK=>?_);go_simp;with_reducible refine(pp s m e X HX.out _ eI.out.2 (by first|exact HU.out|exact aF.drew HU.out|exact aF.alloc HU.out _|exact aF.drew (aF.alloc HU.out _) |exact aF.alloc (aF.drew HU.out) _)).mono ?_
              rintro e w7 ⟨rfl,hq⟩;have ae:Bw w6 w7:=by first|exact hq|exact aM hq
              clear p0 p1 t0 t1 t2 t3;replace Hp:=kB Hp ae;replace HU:=kT HU ae;replace Ht:=kB Ht ae;obtain⟨p0,p1⟩:=Hp.out.c2;obtain⟨t0,t1,t2,t3⟩:=Ht.out.c4;replace Hb:=au Hb ae;clear ae;refine hK _ _ (λ_=>⟨p0,p1,t0,t1,t2,t3⟩) ?_;clear hK K;try simp only[UU]
              iterate 3 (refine pT rfl rfl ?_;try simp only[UU])
              refine bu rfl rfl ?_;try simp only[UU]
              refine bu rfl rfl ?_;try simp only[UU]
              refine bu rfl rfl ?_;try simp only[UU]
              refine bu rfl rfl ?_;try simp only[UU]
              refine bu rfl rfl ?_;try simp only[UU]
              refine bu rfl rfl ?_;try simp only[UU]
              refine bu rfl rfl ?_;try simp only[UU]
              refine bu rfl rfl ?_;try simp only[UU]
              refine bu rfl rfl ?_;try simp only[UU]
              refine bu rfl rfl ?_;try simp only[UU]
              refine bu rfl rfl ?_;try simp only[UU]
              refine bu rfl rfl ?_;try simp only[UU]
              refine bu rfl rfl ?_;try simp only[UU]
              refine bu rfl rfl ?_;try simp only[UU]
              refine pT rfl rfl ?_;try simp only[UU]
              simp only[aU];go_wp2;refine bodyPost_ret (results_tmp rfl _ _ _) rfl ⟨rfl,aJ aO.out Hb.out⟩
      . obtain rfl:k=N:=by omega
        have hr:R=0:=by rw[<-hR.out,if_pos pD]
        subst hr;go_wp2;refine bodyPost_ret (results_tmp rfl _ _ _) rfl ⟨rfl,pb⟩
 . have hR:=HR.out;rw[if_pos h1]at hR;clear HR;subst hR;go_wp2;refine bodyPost_ret (v:=.int .i64 1) (by simp[results,Tryz.results77,go_sem]) rfl ⟨rfl,?_⟩;(repeat first|exact Hb.out| (refine Below.setCell ?_ (by have:=Hb.out.size;first| (dsimp only;omega) | (show _<=_;omega) | (simp<;>omega)) _) | (refine Below.alloc ?_ zt _) |refine Below.drew ?_)
end Go.Proofs.YtdaadlblknpipaaGreatDoor
namespace Go.Proofs.YtdaadlblknpipaaGreatDoor
end Go.Proofs.YtdaadlblknpipaaGreatDoor
