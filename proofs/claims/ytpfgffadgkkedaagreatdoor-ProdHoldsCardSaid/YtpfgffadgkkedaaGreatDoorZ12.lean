/- What a polynomial is that Check lets by. Plain. -/
import Derived.Test.YtpfgffadgkkedaaGreatDoorZ11
import Derived.Test.YtpfgffadgkkedaaGreatDoorZ7
import Derived.Test.YtpfgffadgkkedaaGreatDoorZ9
import Derived.Test.YtpfgffadgkkedaaGreatDoorZ6
set_option linter.all false
set_option maxRecDepth 100000
set_option maxHeartbeats 16000000
namespace Go.Proofs.YtpfgffadgkkedaaGreatDoor
open Go.RowKit
def abR {V:Int}{ts:List Trm}(h:gP V ts=0):0<=V/\V<=12/\ts.length<=4096/\∀t∈ts,(t.1.length:Int)=V/\∀c∈t.1,c.toNat<=127:=by
 unfold gP at h;by_cases h1:0<=V/\V<=12
 . rw[if_neg (λh=>h h1)]at h;by_cases h2:4096<ts.length
   . rw[if_pos h2]at h;cases h
   . rw[if_neg h2]at h;by_cases h3:(List.range ts.length).all (kO V ts)=true
     . refine⟨h1.1,h1.2,by omega,λt ht=>?_⟩;obtain⟨k,hk,rfl⟩:=List.mem_iff_getElem.1 ht;rw[List.all_eq_true]at h3;have h4:=h3 k (List.mem_range.2 hk);have e:ts.getD k default=ts[k]:=by simp[List.getD_eq_getElem?_getD,hk]
       unfold kO uT at h4;rw[e]at h4;simp only[Bool.and_eq_true]at h4;have h5:=h4.1.1.1;unfold bZ at h5;rw[Bool.and_eq_true,List.all_eq_true]at h5;exact⟨of_decide_eq_true h5.2,λc hc=>of_decide_eq_true (h5.1 c hc)⟩
     . rw[if_neg h3]at h;cases h
 . rw[if_pos h1]at h;cases h
def asG (ts:List Trm)(h:∀k (h:k+1<ts.length),Op.bytesLess (ts[k]'zo).1 ts[k+1].1=true):Up ts:=by
 unfold Up;rw[List.pairwise_iff_getElem];intro i j hi hj hij;obtain⟨d,rfl⟩:∃d,j=i+1+d:=⟨j-(i+1),by omega⟩;induction d with
 |zero=>exact h i hj
 |succ d ih=>exact Cy (ih zo zo) (h (i+1+d) hj)
def QO {V:Nat}{ts:List Trm}(h:gP (V:Int) ts=0):zw V ts:=by
 obtain⟨h1,h2,h3,h4⟩:=abR h;have hall:(List.range ts.length).all (kO (V:Int) ts)=true:=by
  unfold gP at h;rw[if_neg zo,if_neg zo]at h;by_cases h9:(List.range ts.length).all (kO (V:Int) ts)=true
  . exact h9
  . rw[if_neg h9]at h;cases h
 rw[List.all_eq_true]at hall;have hg:∀k (hk:k<ts.length),uT (V:Int) ts[k].1 ts[k].2=true/\(0<k->Op.bytesLess (ts[k-1]'zo).1 ts[k].1=true):=λk hk=>by
  have h5:=hall k (List.mem_range.2 hk);unfold kO at h5;rw[show ts.getD k default=ts[k]by simp[List.getD_eq_getElem?_getD,hk],show ts.getD (k-1) default=ts[k-1]'zo by simp[List.getD_eq_getElem?_getD,show k-1<ts.length by omega]]at h5;simp only[Bool.and_eq_true,Bool.or_eq_true,beq_iff_eq,gy]at h5;refine⟨h5.1,λh0=>?_⟩;rcases h5.2 with h6|h6
  . omega
  . exact h6
 refine⟨⟨asG ts (λk hk=>by have:=(hg (k+1) hk).2 zo;simpa using this),λt ht=>?_⟩,λt ht=>?_,h3,by omega⟩;all_goals
  obtain⟨k,hk,rfl⟩:=List.mem_iff_getElem.1 ht
  have h5:=(hg k hk).1
  unfold uT at h5
  simp only[Bool.and_eq_true,Bool.not_eq_true',beq_iff_eq]at h5
 . exact⟨(uR _).1 h5.1.2,h5.2.symm⟩
 . exact h5.1.1
end Go.Proofs.YtpfgffadgkkedaaGreatDoor
namespace Go.Proofs.YtpfgffadgkkedaaGreatDoor
open Go.RowKit
attribute [local go_sem ↓] Go.wp_at_zero Go.wp_at_succ
def gM {α:Type}(p:α->Bool):List α->Nat->Int
 |[],_=>-1
 |v::l,k=>if p v then(k:Int)else gM p l (k+1)
def Jn {α:Type}(p:α->Bool)(l:List α)(k n:Nat)(h:n<l.length):gM p (l.drop n) k=if p l[n]then(k:Int)else gM p (l.drop (n+1)) (k+1):=by rw[List.drop_eq_getElem_cons h];rfl
def Jm {α:Type}(p:α->Bool)(l:List α)(k:Nat):decide (0<=gM p l k)=l.any p:=by
 induction l generalizing k with
 |nil=>rfl
 | cons v l ih=>
   unfold gM;rw[List.any_cons];by_cases h:p v=true
   . rw[if_pos h,h,Bool.true_or];simp
   . rw[if_neg h,ih];simp[h]
def aaG {α:Type}(p:α->Bool)(l:List α)(k:Nat):(gM p l k= -1/\∀x∈l,p x=false)\/∃i,∃h:i<l.length,gM p l k=((k+i:Nat):Int)/\p l[i]=true/\∀j (hj:j<i),p (l[j]'zo)=false:=by
 induction l generalizing k with
 |nil=>exact .inl ⟨rfl,λx hx=>by cases hx⟩
 | cons v l ih=>
   unfold gM;by_cases h:p v=true
   . rw[if_pos h];exact .inr ⟨0,by simp,rfl,h,λj hj=>by omega⟩
   . rw[if_neg h];rcases ih (k+1)with⟨h1,h2⟩ |⟨i,h1,h2,h3,h4⟩
     . exact .inl ⟨h1,λx hx=>by rcases List.mem_cons.1 hx with rfl|hx;simpa using h;exact h2 x hx⟩
     . refine .inr ⟨i+1,by simpa using h1,by rw[h2];congr 1;omega,by simpa using h3,λj hj=>?_⟩;cases j with
       |zero=>simpa using h
       |succ j=>simpa using h4 j zo
structure Pv where
 V:Int
 a:Option Addr
 n:Nat
 c:Nat
def eJ (p:Pv):List Value:=[af p.V,.slice p.a p.n p.c]
def At.awJ {w:World}{a:Option Addr}{ps:List Pv}(h:At w a (ps.flatMap eJ))(k:Nat)(hk:k<ps.length){V:Int}{a':Option Addr}{n c:Nat}(hx:ps[k]=⟨V,a',n,c⟩):
 ∃b o,a=some ⟨b,o,none⟩/\aR w b (o+k*2) [af V,.slice a' n c]:=by
 obtain⟨b,o,hab,hcs⟩:=h.elem (f:=eJ) (sz:=2) (λ_=>rfl) zd k hk;refine⟨b,o,hab,λj hj=>?_⟩;have:=hcs j hj;rw[hx]at this;rw[this];unfold eJ;rw[List.getElem?_eq_getElem (by simpa using hj)]
def PZ (a:Option Addr)(n cap:Nat)(vals:List Trm)(gf:Nat)(lb:Array Value)(p:Trm->Bool)(w:World)(hn:vals.length=n)(hl:n<=1099511627776)(ha:At w a (vals.flatMap aH))
 (eg:∀args w,(callFunc gf args).run Tryz.prog w=.ok (.enter gf args) w)
 (hcl:∀x∈vals,∀W,Bw w W->Cl gf (#[.agg #[ah x.1,ag x.2.1,ah x.2.2.1,af x.2.2.2]]++lb) W λe w'=>e=.returned (ag (p x))/\Bw W w'):
 Cv 251 #[.slice a n cap,.func (.func gf) #[] lb] w (af (gM p vals 0)):=by
 obtain⟨Hn,Ha,eH,iD⟩:=bU hn ha hcl eg;clear hn ha hcl eg;have Hb:=hbz w;go_enter Tryz.func251,Tryz.ntmps251;go_wp2_with fail;go_loopw[5,8] (λ_ i wr=>∃k:Nat,k<=n/\i=af (k:Int)/\gM p vals 0=gM p (vals.drop k) k/\Bw w wr) (λ_ i _=>n-(intOf i).toNat);case atStart=>exact⟨0,Nat.zero_le _,rfl,rfl,Hb.out⟩
 case round=>
  clear Hb;obtain⟨k,hk,rfl,eZ,pb⟩:=hrel;obtain⟨iK,Hb⟩:=aI eZ pb;clear eZ pb;by_cases hlt:k<n
  . have bi:k<vals.length:=by rw[Hn.out];exact hlt
    obtain⟨l,s,m,e,hx⟩:∃l s m e,vals[k]=(l,s,m,e):=⟨_,_,_,_,rfl⟩;obtain⟨b,o,hab,bJ⟩:=(Ha.out.below Hb.out).term k bi hx;obtain⟨q0,q1,q2,q3⟩:=bJ.w4;have aQ:=fW n cap k (k:Int) hab hlt rfl;have hcall:=eH.out _ (List.getElem_mem bi) wr Hb.out;have hstep:=Jn p vals k k bi;rw[<-iK.out]at hstep;rw[hx]at hcall hstep;obtain⟨fS,jc⟩:=aI hstep hcall;have jE:=iD.out;clear bJ hab hx hstep hcall;go_wp2_with fail;refine jc.out.mono ?_;rintro e9 w1 ⟨rfl,hb1⟩;replace Hb:=aj (aC Hb.out hb1);clear hb1 q0 q1 q2 q3 aQ jE;obtain⟨t,ht⟩:=az (p (l,s,m,e));rw[ht]at fS⊢;clear ht;cases t with
    |true=>go_wp2;refine bodyPost_ret (results_tmp rfl _ _ _) rfl ⟨?_,Hb.out⟩;have h:=fS.out;rw[if_pos (by trivial)]at h;rw[h];rfl
    | false=>
      go_wp2;go_roundw;case rel=>exact⟨k+1,by omega,by go_num,by have h:=fS.out;rw[if_neg zd]at h;exact h,Hb.out⟩
      case measure=>exact bf
  . obtain rfl:k=n:=by omega
    go_wp2;refine bodyPost_ret (results_tmp rfl _ _ _) rfl ⟨?_,Hb.out⟩;have h:=iK.out;rw[List.drop_of_length_le (by rw[Hn.out];exact Nat.le_refl _)]at h;rw[h];rfl
def ajO (a:Option Addr)(n cap:Nat)(vals:List Trm)(gf:Nat)(lb:Array Value)(p:Trm->Bool)(w:World)(hn:vals.length=n)(hl:n<=1099511627776)(ha:At w a (vals.flatMap aH))
 (eg:∀args w,(callFunc gf args).run Tryz.prog w=.ok (.enter gf args) w)
 (hcl:∀x∈vals,∀W,Bw w W->Cl gf (#[.agg #[ah x.1,ag x.2.1,ah x.2.2.1,af x.2.2.2]]++lb) W λe w'=>e=.returned (ag (p x))/\Bw W w'):
 Cv 203 #[.slice a n cap,.func (.func gf) #[] lb] w (ag (vals.any p)):=by
 have h1:=PZ a n cap vals gf lb p w hn hl ha eg hcl;rw[<-Jm p vals 0];generalize gM p vals 0=i at*;have H1:=aj h1;clear h1 hcl eg ha hn;have Hb:=hbz w;go_enter Tryz.func203,Tryz.ntmps203;go_wp2_with fail;refine aJ (Hb.an trivial) (H1.out) λw1 ae ai=>?_;have Hb:=ae.1;go_wp2;exact bodyPost_ret (v:=ag (decide (0<=i))) (by simp[results,Tryz.results203,go_sem,ai]) rfl ⟨rfl,cm⟩
def anm (a:Option Addr)(n cap:Nat)(vals:List Pv)(gf:Nat)(lb:Array Value)(p:Pv->Bool)(w:World)(hn:vals.length=n)(hl:n<=1099511627776)(ha:At w a (vals.flatMap eJ))
 (eg:∀args w,(callFunc gf args).run Tryz.prog w=.ok (.enter gf args) w)
 (hcl:∀x∈vals,∀W,Bw w W->Cl gf (#[.agg #[af x.V,.slice x.a x.n x.c]]++lb) W λe w'=>e=.returned (ag (p x))/\Bw W w'):
 Cv 224 #[.slice a n cap,.func (.func gf) #[] lb] w (af (gM p vals 0)):=by
 obtain⟨Hn,Ha,eH,iD⟩:=bU hn ha hcl eg;clear hn ha hcl eg;have Hb:=hbz w;go_enter Tryz.func224,Tryz.ntmps224;go_wp2_with fail;go_loopw[5,8] (λ_ i wr=>∃k:Nat,k<=n/\i=af (k:Int)/\gM p vals 0=gM p (vals.drop k) k/\Bw w wr) (λ_ i _=>n-(intOf i).toNat);case atStart=>exact⟨0,Nat.zero_le _,rfl,rfl,Hb.out⟩
 case round=>
  clear Hb;obtain⟨k,hk,rfl,eZ,pb⟩:=hrel;obtain⟨iK,Hb⟩:=aI eZ pb;clear eZ pb;by_cases hlt:k<n
  . have bi:k<vals.length:=by rw[Hn.out];exact hlt
    obtain⟨V,a1,n1,c1,hx⟩:∃V a1 n1 c1,vals[k]=⟨V,a1,n1,c1⟩:=⟨_,_,_,_,rfl⟩;obtain⟨b,o,hab,bJ⟩:=(Ha.out.below Hb.out).awJ k bi hx;obtain⟨q0,q1⟩:=bJ.w2;have aQ:=mY n cap k (k:Int) hab hlt rfl;have hcall:=eH.out _ (List.getElem_mem bi) wr Hb.out;have hstep:=Jn p vals k k bi;rw[<-iK.out]at hstep;rw[hx]at hcall hstep;obtain⟨fS,jc⟩:=aI hstep hcall;have jE:=iD.out;clear bJ hab hx hstep hcall;go_wp2_with fail;refine jc.out.mono ?_;rintro e9 w1 ⟨rfl,hb1⟩;replace Hb:=aj (aC Hb.out hb1);clear hb1 q0 q1 aQ jE;obtain⟨t,ht⟩:=az (p ⟨V,a1,n1,c1⟩);rw[ht]at fS⊢;clear ht;cases t with
    |true=>go_wp2;refine bodyPost_ret (results_tmp rfl _ _ _) rfl ⟨?_,Hb.out⟩;have h:=fS.out;rw[if_pos (by trivial)]at h;rw[h];rfl
    | false=>
      go_wp2;go_roundw;case rel=>exact⟨k+1,by omega,by go_num,by have h:=fS.out;rw[if_neg zd]at h;exact h,Hb.out⟩
      case measure=>exact bf
  . obtain rfl:k=n:=by omega
    go_wp2;refine bodyPost_ret (results_tmp rfl _ _ _) rfl ⟨?_,Hb.out⟩;have h:=iK.out;rw[List.drop_of_length_le (by rw[Hn.out];exact Nat.le_refl _)]at h;rw[h];rfl
def VD (a:Option Addr)(n cap:Nat)(vals:List Pv)(gf:Nat)(lb:Array Value)(p:Pv->Bool)(w:World)(hn:vals.length=n)(hl:n<=1099511627776)(ha:At w a (vals.flatMap eJ))
 (eg:∀args w,(callFunc gf args).run Tryz.prog w=.ok (.enter gf args) w)
 (hcl:∀x∈vals,∀W,Bw w W->Cl gf (#[.agg #[af x.V,.slice x.a x.n x.c]]++lb) W λe w'=>e=.returned (ag (p x))/\Bw W w'):
 Cv 147 #[.slice a n cap,.func (.func gf) #[] lb] w (ag (vals.any p)):=by
 have h1:=anm a n cap vals gf lb p w hn hl ha eg hcl;rw[<-Jm p vals 0];generalize gM p vals 0=i at*;have H1:=aj h1;clear h1 hcl eg ha hn;have Hb:=hbz w;go_enter Tryz.func147,Tryz.ntmps147;go_wp2_with fail;refine aJ (Hb.an trivial) (H1.out) λw1 ae ai=>?_;have Hb:=ae.1;go_wp2;exact bodyPost_ret (v:=ag (decide (0<=i))) (by simp[results,Tryz.results147,go_sem,ai]) rfl ⟨rfl,cm⟩
def Qy (X:Dyadic)(s:Bool)(m:List UInt8)(e:Int)(b:Bool)(h:(canon X==(s,m,e))= !b)(w':World):
 (if au (dN X)=s then if(bs (nt (dN X).natAbs)).toList=(bs m).toList then if dE X=e then Result.ok (Next.value (Value.bool false)) w' else Result.ok (Next.value (Value.bool true)) w' else Result.ok (Next.value (Value.bool true)) w' else Result.ok (Next.value (Value.bool true)) w')=Result.ok (Next.value (Value.bool b)) w':=by
 have ht:∀x y:List UInt8,(bs x).toList=(bs y).toList↔x=y:=λx y=>by rw[gy,gy]
 have hc:(canon X==(s,m,e))=decide (au (dN X)=s/\nt (dN X).natAbs=m/\dE X=e):=by rw[Bool.eq_iff_iff];simp[canon]
 rw[hc]at h;simp only[ht];cases b with
 | false=>
   have h2:au (dN X)=s/\nt (dN X).natAbs=m/\dE X=e:=by simpa using h
   rw[if_pos h2.1,if_pos h2.2.1,if_pos h2.2.2]
 | true=>
   have h2:¬(au (dN X)=s/\nt (dN X).natAbs=m/\dE X=e):=by intro h3;rw[decide_eq_true h3]at h;cases h
   by_cases h3:au (dN X)=s
   . rw[if_pos h3];by_cases h4:nt (dN X).natAbs=m
     . rw[if_pos h4,if_neg (λh5=>h2 ⟨h3,h4,h5⟩)]
     . rw[if_neg h4]
   . rw[if_neg h3]
def Ba (V:Int)(a:Option Addr)(cap N:Nat)(ts:List Trm)(w:World)(hN:ts.length=N)(hn:N<=1048576)(ha:At w a (ts.flatMap aH))(hl:∀t∈ts,t.1.length<=9223372036854775807/\Ok t.2)(hT:aB w):
 Cv 79 #[.agg #[af V,.slice a N cap]] w (af (gP V ts)):=by
 obtain⟨Ha,Hl,HN,kK⟩:=bU ha hl hN hT;obtain⟨R,hR⟩:=az (gP V ts);unfold gP at hR;rw[hN]at hR;rw[show gP V ts=R by unfold gP;rw[hN];exact hR];have HR:=aj hR;clear ha hl hN hR hT;obtain⟨W,bX,ae,ai⟩:=fy w 41 [af V,.slice a N cap];go_enter Tryz.func79,Tryz.ntmps79;go_wp2_with fail;refine aJ ae (GQ V _) λw1 ae ai=>?_;by_cases h1:0<=V/\V<=12
 . by_cases h2:4096<N
   . have h3:(4096:Int)<(N:Int):=by omega
     have hR:=HR.out;rw[if_neg (λh=>h h1),if_pos h2]at hR;clear HR;subst hR;have Hb:=ae.1;go_wp2;exact bodyPost_ret (v:=af 3) (by simp[results,Tryz.results79,go_sem,ai]) rfl ⟨rfl,cm⟩
   . have h3:¬(4096:Int)<(N:Int):=by omega
     have h3d:decide ((4096:Int)<(N:Int))=false:=by simp;omega
     have hR:Hid ((if(List.range N).all (kO V ts)then(0:Int)else 1)=R):=by
      show _=_
      have hR:=HR.out;rw[if_neg (λh=>h h1),if_neg h2]at hR;exact hR
     clear HR;obtain⟨bB,pI⟩:=aI ae.1.out ae.2.1.out;skip
     have p0:w1.cell? ⟨w.heap.size,0,none⟩=some (af V):=pI.out.cell 0;have p1:w1.cell? ⟨w.heap.size,1,none⟩=some (.slice a N cap):=pI.out.cell 1;go_wp2_with fail;go_loopw[16] (λx wr=>∃k:Nat,k<=N/\x=af (k:Int)/\(List.range k).all (kO V ts)=true/\ar wr w.heap.size 41 [af V,.slice a N cap]/\Bw w wr) (λx _=>N-(intOf x).toNat);case atStart=>exact⟨0,Nat.zero_le _,rfl,rfl,pI.out,bB.out⟩
     case round=>
      clear bB pI p0 p1;obtain⟨k,hk,rfl,kw,kz,pb⟩:=hrel;by_cases hlt:k<N
      . have hk2:k<ts.length:=by rw[HN.out];exact hlt
        obtain⟨l,s,m,e,hx⟩:∃l s m e,ts[k]=(l,s,m,e):=⟨_,_,_,_,rfl⟩;obtain⟨b,o,hab,bJ⟩:=(Ha.out.below pb).term k hk2 hx;have hl2:l.length<=9223372036854775807/\Ok (s,m,e):=by have:=Hl.out _ (List.getElem_mem hk2);rw[hx]at this;exact this
        have Wc:ts.getD k default=(l,s,m,e):=by simp[hk2,hx]
        have YG:(List.range (k+1)).all (kO V ts)=kO V ts k:=by rw[List.range_succ,List.all_append,kw];simp
        have hbad:kO V ts k=false->R=1:=by intro h;rw[<-hR.out,if_neg];intro h5;rw[List.all_eq_true]at h5;have:=h5 k (List.mem_range.2 hlt);rw[h]at this;cases this
        have nY:kO V ts k=(uT V l (s,m,e)&&(k==0||Op.bytesLess (bs (ts.getD (k-1) default).1).toList (bs l).toList)):=by unfold kO;rw[Wc]
        have aQ:=fW N cap k (k:Int) hab hlt rfl;obtain⟨X,hX⟩:=az (dval (s,m,e));obtain⟨sg,jO⟩:=az (bg X);have hgt:uT V l (s,m,e)=(bZ l V&& !(sg==0)&&(canon X==(s,m,e))):=by unfold uT;rw[hX,jO]
        rw[hgt]at nY;obtain⟨FZ,pE,aO,pD,TB,Fg,HX⟩:=jv bJ hl2 pb nY YG hbad hX;have iL:Hid (bg (dval (s,m,e))=sg):=by show _=_;rw[hX];exact jO
        have Hp:=aj kz;have HU:Hid (aB wr):=kK.out.below pb;clear bJ hl2 nY YG hbad hX jO hgt Wc kz hx;have jV:=aj hab;clear hab;have Hb:=hbz wr;have sz:=pb.size;have Mb:Hid (aR wr b (o+k*4) [ah l,ag s,ah m,af e]):=FZ.out;obtain⟨ae,ai⟩:=qZ (Hp.an<|Mb.an trivial);have HU:Hid (aB wr):=HU.out;have tr0:wr.cell? ⟨b,o+k*4,none⟩=some (ah l):=ae.2.1.out.cell 0 zm;have tr1:wr.cell? ⟨b,o+k*4+1,none⟩=some (ag s):=ae.2.1.out.cell 1 zm;have tr3:wr.cell? ⟨b,o+k*4+3,none⟩=some (af e):=ae.2.1.out.cell 3 zm;have tr2:wr.cell? ⟨b,o+k*4+2,none⟩=some (ah m):=ae.2.1.out.cell 2 zm;have P0:=tr0;have P1:=tr1;have P2:=tr2;have P3:=tr3;obtain⟨W4,mR,aG,ae,ai⟩:=cg wr (Hb.an<|HU.an ae) 111 [ah l,ag s,ah m,af e];clear FZ;cases hmv:bZ l V with
        |false=>have hr:=Fg.out (by rw[pD.out,hmv];rfl);subst hr;have qp:=λW=>AU l V W (by have:=pE.out.1;omega);rw[hmv]at qp;have sH:=aj qp;clear qp;go_wp2_with fail;refine cQ 999 ae (cM 36 0x474543413f3d3b39373533312f2d2b2927251e23211d1b19171512110f0d0b0807050301) ?_;refine bC ?_;refine bO ae (sH.out _) λw5 ae=>?_;refine bC ?_;refine cP ae λai=>?_;go_wp2;refine bodyPost_ret (results_tmp rfl _ _ _) rfl ⟨rfl,aC aO.out ae.2.1.out⟩
        | true=>
          have qp:=λW=>AU l V W (by have:=pE.out.1;omega);rw[hmv]at qp;have sH:=aj qp;clear qp;by_cases hs0:sg=0
          . have hr:=Fg.out (by rw[pD.out,hmv,hs0];rfl);subst hr hs0;go_wp2_with fail;refine cQ 999 ae (cM 36 0x474543413f3d3b39373533312f2d2b2927251e23211d1b19171512110f0d0b0807050301) ?_;refine bC ?_;refine bO ae (sH.out _) λw5 ae=>?_;refine bC ?_;refine bO ae (lK s m e 0 iL.out _ pE.out.2) λw6 ae=>?_;refine bC ?_;refine cP ae λai=>?_;go_wp2;refine bodyPost_ret (results_tmp rfl _ _ _) rfl ⟨rfl,aC aO.out ae.2.1.out⟩
          . have hs1:(sg==0)=false:=by simpa using hs0
            by_cases hc:canon X=(s,m,e)
            . have hcb:(canon X==(s,m,e))=true:=by simpa using hc
              have hne:=Qy X s m e false hcb;clear hc;by_cases gB:k=0
              . have hg:=pD.out;rw[hmv,hs1,hcb,gB]at hg;have Lr:Hid ((List.range (k+1)).all (kO V ts)=true):=by show _=_;rw[TB.out,gB,hg];rfl
                have hk1:decide (0<k)=false:=by simp;omega
                clear hg hcb gB;go_wp2_with fail;refine cQ 999 ae (cM 36 0x474543413f3d3b39373533312f2d2b2927251e23211d1b19171512110f0d0b0807050301) ?_;refine bC ?_;refine bO ae (sH.out _) λw5 ae=>?_;refine bC ?_;refine bO ae (lK s m e sg iL.out _ pE.out.2) λw6 ae=>?_;refine bC ?_;refine bO ae (nU s m e X HX.out _ pE.out.2 (qU ae.2.2.1.out)) λw7 ae=>?_;refine bC ?_;refine cP ae λai=>?_;go_wp2;go_roundw;case rel=>exact⟨k+1,by omega,by go_num,Lr.out,ae.2.2.2.1.out,aC aO.out ae.2.1.out⟩
                case measure=>exact bf
              . have xB:k-1<ts.length:=by omega
                obtain⟨l',s',m',e',hx'⟩:∃l s m e,ts[k-1]=(l,s,m,e):=⟨_,_,_,_,rfl⟩;obtain⟨b',o',Af,tL⟩:=(Ha.out.below (aC aO.out ae.2.1.out)).term (k-1) xB hx';have hab:=jV.out;rw[hab]at Af;simp only[Option.some.injEq,Addr.mk.injEq,and_true]at Af;obtain⟨rfl,rfl⟩:=Af;have Wd:ts.getD (k-1) default=(l',s',m',e'):=by simp[xB,hx']
                have hg:=pD.out;rw[Wd,hmv,hs1,hcb]at hg;have YS:(k==0)=false:=by simpa using gB
                rw[YS]at hg;have hk1:decide (0<k)=true:=by simp;omega
                have vv:IntKind.i64.wrap ((k:Int)-1)=((k-1:Nat):Int):=by rw[IntKind.wrap_i64];omega
                have amy:=fW N cap (k-1) ((k-1:Nat):Int) hab zo rfl;obtain⟨kp,OL⟩:=az (k-1);rw[OL]at amy vv tL;have au3:kp<N:=by omega
                have je:Hid (aR W4 b (o+kp*4) [ah l',ag s',ah m',af e']):=tL;have atG:=aj OL;clear tL gB YS hcb Wd hx' OL hab;cases DI:Op.bytesLess (bs l').toList (bs l).toList with
                | true=>
                  have Lr:Hid ((List.range (k+1)).all (kO V ts)=true):=by show _=_;rw[TB.out,hg];simpa using DI
                  clear hg;go_wp2_with fail;have Hp:=ae.2.2.2.1;have Ht:=ae.1;have Hb:=ae.2.1;have HU:=ae.2.2.1;obtain⟨ae,ai⟩:=qZ (Hp.an<|Ht.an<|je.an trivial);have HU:Hid (aB W4):=HU.out;have ae:=Hb.an<|HU.an ae
                  refine cQ 999 ae (cM 36 0x474543413f3d3b39373533312f2d2b2927251e23211d1b19171512110f0d0b0807050301) ?_;refine bC ?_;refine bO ae (sH.out _) λw5 ae=>?_;refine bC ?_;refine bO ae (lK s m e sg iL.out _ pE.out.2) λw6 ae=>?_;refine bC ?_;refine bO ae (nU s m e X HX.out _ pE.out.2 (qU ae.2.1.out)) λw7 ae=>?_;refine bC ?_;refine cP ae λai=>?_;go_wp2;go_roundw;case rel=>exact⟨k+1,by omega,by go_num,Lr.out,ae.2.2.1.out,aC aO.out ae.1.out⟩
                  case measure=>exact bf
                | false=>
                  have hr:=Fg.out (by rw[hg];simpa using DI);subst hr;clear hg;go_wp2_with fail;have Hp:=ae.2.2.2.1;have Ht:=ae.1;have Hb:=ae.2.1;have HU:=ae.2.2.1;obtain⟨ae,ai⟩:=qZ (Hp.an<|Ht.an<|je.an trivial);have HU:Hid (aB W4):=HU.out;have ae:=Hb.an<|HU.an ae
                  refine cQ 999 ae (cM 36 0x474543413f3d3b39373533312f2d2b2927251e23211d1b19171512110f0d0b0807050301) ?_;refine bC ?_;refine bO ae (sH.out _) λw5 ae=>?_;refine bC ?_;refine bO ae (lK s m e sg iL.out _ pE.out.2) λw6 ae=>?_;refine bC ?_;refine bO ae (nU s m e X HX.out _ pE.out.2 (qU ae.2.1.out)) λw7 ae=>?_;refine bC ?_;refine cP ae λai=>?_;go_wp2;refine bodyPost_ret (results_tmp rfl _ _ _) rfl ⟨rfl,aC aO.out ae.1.out⟩
            . have hr:=Fg.out (by
               rw[pD.out,hmv,hs1];have:(canon X==(s,m,e))=false:=by simpa using hc
               rw[this];rfl)
              subst hr;have hne:=Qy X s m e true (by simpa using hc);clear hc;go_wp2_with fail;refine cQ 999 ae (cM 36 0x474543413f3d3b39373533312f2d2b2927251e23211d1b19171512110f0d0b0807050301) ?_;refine bC ?_;refine bO ae (sH.out _) λw5 ae=>?_;refine bC ?_;refine bO ae (lK s m e sg iL.out _ pE.out.2) λw6 ae=>?_;refine bC ?_;refine bO ae (nU s m e X HX.out _ pE.out.2 (qU ae.2.2.1.out)) λw7 ae=>?_;refine bC ?_;refine cP ae λai=>?_;go_wp2;refine bodyPost_ret (results_tmp rfl _ _ _) rfl ⟨rfl,aC aO.out ae.2.1.out⟩
      . obtain rfl:k=N:=by omega
        have hr:R=0:=by rw[<-hR.out,if_pos kw]
        subst hr;go_wp2;refine bodyPost_ret (results_tmp rfl _ _ _) rfl ⟨rfl,pb⟩
 . have hR:=HR.out;rw[if_pos h1]at hR;clear HR;subst hR;have Hb:=ae.1;go_wp2;exact bodyPost_ret (v:=af 1) (by simp[results,Tryz.results79,go_sem,ai]) rfl ⟨rfl,cm⟩
def aiq (bk k g n c:Nat)(z:Int)(w:World)(hk:w.cell? ⟨bk,0,none⟩=some (af (k:Int)))(hkn:k<n)(h0:w.cell? ⟨g,k*2,none⟩=some (ag (au z)))(h1:w.cell? ⟨g,k*2+1,none⟩=some (ah (nt z.natAbs)))(hz:(nt z.natAbs).length<=1099511627776):
 Cv 248 #[.slice (some ⟨g,0,none⟩) n c,.pointer (some ⟨bk,0,none⟩)] w (ag (decide (z≠0))):=by
 have aQ:=tM n c k (k:Int) (show some (⟨g,0,none⟩:Addr)=some ⟨g,0,none⟩from rfl) hkn rfl;rw[Nat.zero_add]at aQ;have Hz:=aj hz;obtain⟨s,hs⟩:=az (au z);obtain⟨l,hl⟩:=az (nt z.natAbs);have jO:=λW=>EQ (au z) (nt z.natAbs) W hz;rw[dX]at jO;rw[hs,hl]at jO;rw[hs]at h0;rw[hl]at h1;obtain⟨t,ht⟩:=az (dL z);rw[ht]at jO;have hd:decide (z≠0)=decide (t≠0):=by
  rw[<-ht];unfold dL;by_cases h:z=0
  . simp[h]
  . by_cases h2:z<0
    . simp[h,h2]
    . simp[h,h2]
 rw[hd];have iL:=aj jO;clear jO hd ht hs hl hz Hz;have Hb:=hbz w;go_enter Tryz.func248,Tryz.ntmps248;go_wp2_with fail;refine aJ (Hb.an trivial) (iL.out _) λw1 ae ai=>?_;clear h0 h1 hk aQ;go_wp2;refine bodyPost_ret (results_tmp rfl _ _ _) rfl ⟨?_,ae.1.out⟩;by_cases h:t=0<;>simp[h]
def ano (p:Value->Bool)(vs:List Value)(q:Nat->Bool)(c:Nat)(h:∀i (hi:i<vs.length),p vs[i]=q i):
 idxFrom p vs c=match (List.range vs.length).find? q with|none=>-1|some m=>((c+m:Nat):Int):=by
 induction vs generalizing c q with
 |nil=>rfl
 | cons v vs ih=>
   have h0:=h 0 zm;have hs:=ih (λi=>q (i+1)) (c+1) (λi hi=>h (i+1) (by simpa using hi));simp only[List.getElem_cons_zero]at h0;rw[List.length_cons,List.range_succ_eq_map,List.find?_cons];unfold idxFrom;rw[h0];cases hq:q 0 with
   |true=>simp
   | false=>
     rw[hs,List.find?_map];simp only[Bool.false_eq_true,if_false];have e:(q∘Nat.succ)=λi=>q (i+1):=rfl;rw[e];cases (List.range vs.length).find? λi=>q (i+1)with
     |none=>rfl
     |some m=>simp only[Option.map_some];congr 1;omega
def apQ (p:Value->Bool)(vals:List Value)(f:Nat->Nat->Int)(n k:Nat)(hn:vals.length=n)(h:∀i (hi:i<vals.length),p vals[i]=decide (f i k≠0)):
 idxFrom p (vals.drop k) 0=match oz f n k with|none=>-1|some m=>(m:Int):=by
 rw[ano p (vals.drop k) (λi=>f (k+i) k !=0) 0 (λi hi=>by
  rw[List.getElem_drop,h]
  simp[bne,Bool.beq_eq_decide_eq])]
 unfold oz;rw[List.length_drop,hn];simp only[Nat.zero_add]
def asR (x y:Int)(w:World)(hx:(nt x.natAbs).length<=34359738368)(hy:(nt y.natAbs).length<=34359738368)(h0:y≠0)(hd:y∣x):
 Cl 250 #[.agg #[ag (au x),ah (nt x.natAbs)],.agg #[ag (au y),ah (nt y.natAbs)]] w λe w'=>∃r,e=.returned (.tuple #[cw (x/y),r,ag true])/\Bw w w':=by
 have h:=asS (au x) (au y) (nt x.natAbs) (nt y.natAbs) w hx hy (by rw[ib];omega) (by rw[ib,ib];exact Nat.mod_eq_zero_of_dvd (Int.natAbs_dvd_natAbs.2 hd));rw[dX,dX]at h;exact h
end Go.Proofs.YtpfgffadgkkedaaGreatDoor
namespace Go.Proofs.YtpfgffadgkkedaaGreatDoor
open Go.RowKit
def eo (f:Nat->Nat->Int)(n:Nat):List (List Int):=(List.range n).map λa=>(List.range n).map (f a)
def EL (f:Nat->Nat->Int)(n:Nat):(eo f n).length=n:=by simp[eo]
def JW (f:Nat->Nat->Int)(n i:Nat)(h:i<n):(eo f n).getD i []=(List.range n).map (f i):=by simp[eo,List.getD_eq_getElem?_getD,h]
def ar5 (f:Nat->Nat->Int)(n i j:Nat)(h:i<n)(h':j<n):((eo f n).getD i []).getD j 0=f i j:=by rw[JW f n i h];simp[List.getD_eq_getElem?_getD,h']
def ar6 (f:Nat->Nat->Int)(n i j:Nat)(y:Int)(h:i<n):(eo f n).set i (((eo f n).getD i []).set j y)=eo (λa b=>if a=i/\b=j then y else f a b) n:=by
 rw[JW f n i h];apply List.ext_getElem
 . simp[eo]
 . intro a h1 h2;have ha:a<n:=by simpa[eo]using h2
   rw[List.getElem_set];split
   . rename_i e
     subst e;apply List.ext_getElem
     . simp[eo]
     . intro b h3 h4;have hb:b<n:=by simpa[eo]using h4
       rw[List.getElem_set];by_cases e2:j=b
       . subst e2;simp[eo]
       . have e3:¬b=j:=λe=>e2 e.symm;simp[eo,e2,e3]
   . rename_i e
     have e3:¬a=i:=λe'=>e e'.symm;simp[eo,e3]
def ar7 (f:Nat->Nat->Int)(n k m:Nat)(h:k<n)(h':m<n):((eo f n).set k ((eo f n).getD m [])).set m ((eo f n).getD k [])=eo (bQ f k m) n:=by
 apply List.ext_getElem
 . simp[eo]
 . intro a h1 h2;have ha:a<n:=by simpa[eo]using h2
   have hs:=Rk (eo f n) [] k m (by rw[EL];exact h) (by rw[EL];exact h') a (by rw[EL];exact ha);rw[List.getD_eq_getElem?_getD,List.getElem?_eq_getElem h1]at hs;simp only[Option.getD_some]at hs;rw[hs,JW f n _ (JS h h' ha)];simp[eo,bQ,swp]
def AY {w:World}{base:Nat}{e:TypeId}{size n cap g:Nat}{xs:List Value}(h:w.ownsRow base e size (.slice (some ⟨g,0,none⟩) n cap) n xs):base<=g/\∃cur,ar w g e cur:=by
 rcases h.2 with⟨h1,_⟩ |⟨g',cap',cur,h1,hb,hg,_,_,_,hx⟩
 . simp at h1
 . simp only[Value.slice.injEq,Option.some.injEq,Addr.mk.injEq,and_true,true_and]at h1;obtain⟨rfl,rfl⟩:=h1;exact⟨hb,cur.toList,by unfold ar;simpa using hg⟩
def QH {w:World}{base:Nat}{e:TypeId}{size n:Nat}{v:Value}{xs:List Value}(h:w.ownsRow base e size v n xs)(hn:1<=n):∃g cap,v=.slice (some ⟨g,0,none⟩) n cap:=by
 rcases h.2 with⟨h1,h2⟩ |⟨g',cap',cur,h1,_⟩
 . omega
 . exact⟨g',cap',h1⟩
def ar4 {f g:Nat->Nat->Int}(n:Nat)(h:∀a b,a<n->b<n->f a b=g a b):eo f n=eo g n:=by unfold eo;refine List.map_congr_left (λa ha=>List.map_congr_left (λb hb=>h a b (List.mem_range.1 ha) (List.mem_range.1 hb)))
def ahA (w:World)(go L top:Nat):Prop:=go<top/\∀m g n c,m<L->w.cell? ⟨go,m,none⟩=some (.slice (some ⟨g,0,none⟩) n c)->g<top
def BS (w0 w:World)(base n go cap top:Nat)(f:Nat->Nat->Int):Prop:=
 iF w base n (eo f n) n (.slice (some ⟨go,0,none⟩) n cap)/\ahA w go n top/\Below base w0 w/\top<=w.heap.size
def BS.begin {w:World}{base n:Nat}{f:Nat->Nat->Int}{v:Value}(h:iF w base n (eo f n) n v)(hn:1<=n):∃go cap,v=.slice (some ⟨go,0,none⟩) n cap/\n<=cap/\BS w w base n go cap w.heap.size f:=by
 have h0:=h;obtain⟨vals,hl,ho,hv,_⟩:=h;obtain⟨go,cap,rfl⟩:=QH ho hn;refine⟨go,cap,rfl,JH ho,h0,⟨?_,λm g n' c hm hc=>?_⟩,Below.refl _ _,Nat.le_refl _⟩
 . obtain⟨_,cur,hb⟩:=AY ho;exact hb.lt
 . have hm2:m<vals.length:=by omega
   rw[lh ho m hm2]at hc;simp only[Option.some.injEq]at hc;have hrow:=hv m hm2;obtain⟨g',cap',e⟩:=QH hrow hn;rw[e]at hrow hc;simp at hc;obtain⟨rfl,rfl,rfl⟩:=hc;exact(AY hrow).2.choose_spec.lt
def BS.below {w0 w w':World}{base n go cap top:Nat}{f:Nat->Nat->Int}(h:BS w0 w base n go cap top f)(hb:Bw w w')(rN:base<=top):BS w0 w' base n go cap top f:=by
 obtain⟨h1,⟨h2,h3⟩,h4,h5⟩:=h;have hs:=hb.size;refine⟨h1.below hb,⟨h2,λm g n' c hm hc=>h3 m g n' c hm ?_⟩,?_,by omega⟩
 . rw[World.cell?_of_block (a:=⟨go,m,none⟩) (w:=w) (hb.block go zo)]at hc;exact hc
 . exact h4.trans (hb.mono zo)
def BS.congr {w0 w:World}{base n go cap top:Nat}{f g:Nat->Nat->Int}(h:BS w0 w base n go cap top f)(he:∀a b,a<n->b<n->f a b=g a b):BS w0 w base n go cap top g:=by unfold BS at*;rw[<-ar4 n he];exact h
def BS.row {w0 w:World}{base n go cap top:Nat}{f:Nat->Nat->Int}(h:BS w0 w base n go cap top f)(i:Nat)(hi:i<n):
 ∃g c,base<=g/\g<top/\w.cell? ⟨go,i,none⟩=some (.slice (some ⟨g,0,none⟩) n c)/\(∀j,j<n->w.cell? ⟨g,j*2,none⟩=some (ag (au (f i j)))/\w.cell? ⟨g,j*2+1,none⟩=some (ah (nt (f i j).natAbs)))/\
  (∀q,w.frozen? ⟨g,q,none⟩=false)/\
  ∀j,j<n->∀y:Int,BS w0 ((w.setCell ⟨g,j*2,none⟩ (ag (au y))).setCell ⟨g,j*2+1,none⟩ (ah (nt y.natAbs))) base n go cap top (λa b=>if a=i/\b=j then y else f a b):=by
 obtain⟨h1,⟨h2,h3⟩,h4,h5⟩:=h;have hR:(eo f n).length=n:=EL f n;have hr:((eo f n).getD i []).length=n:=by rw[JW f n i hi];simp
 obtain⟨vals,hl,ho,hv,hd⟩:=id h1;have hi2:i<vals.length:=by omega
 have hrow:=hv i hi2;obtain⟨g,c,e⟩:=QH hrow zo;rw[e]at hrow;obtain⟨hbg,cur,hblk⟩:=AY hrow;have hc0:w.cell? ⟨go,i,none⟩=some (.slice (some ⟨g,0,none⟩) n c):=by rw[lh ho i hi2,e]
 refine⟨g,c,hbg,h3 i g n c hi hc0,hc0,λj hj=>?_,λq=>hblk.free q,λj hj y=>?_⟩
 . obtain⟨go',cap',g',c',e0,_,_,_,e1,e2,e3,_⟩:=h1.num i j hi hj hR hr;simp at e0;obtain⟨rfl,rfl⟩:=e0;rw[hc0]at e1;simp at e1;obtain⟨rfl,rfl⟩:=e1;rw[ar5 f n i j hi hj]at e2 e3;exact⟨e2,e3⟩
 . obtain⟨go',cap',g',c',e0,hb1,hb2,hne,e1,e2,e3,hw⟩:=h1.num i j hi hj hR hr;simp at e0;obtain⟨rfl,rfl⟩:=e0;rw[hc0]at e1;simp at e1;obtain⟨rfl,rfl⟩:=e1;have h6:=hw y;rw[ar6 f n i j y hi]at h6;refine⟨h6,⟨h2,λm g' n' c' hm hc=>h3 m g' n' c' hm ?_⟩,(h4.setCell hb2 _).setCell hb2 _,by simpa using h5⟩;rw[World.cell?_setCell_far _ _ _ _ (by simpa using hne),World.cell?_setCell_far _ _ _ _ (by simpa using hne)]at hc;exact hc
def BS.swap {w0 w:World}{base n go cap top:Nat}{f:Nat->Nat->Int}(h:BS w0 w base n go cap top f)(i m:Nat)(hi:i<n)(hm:m<n):
 ∃g1 c1 g2 c2,w.cell? ⟨go,i,none⟩=some (.slice (some ⟨g1,0,none⟩) n c1)/\w.cell? ⟨go,m,none⟩=some (.slice (some ⟨g2,0,none⟩) n c2)/\(∀q,w.frozen? ⟨go,q,none⟩=false)/\
  BS w0 ((w.setCell ⟨go,i,none⟩ (.slice (some ⟨g2,0,none⟩) n c2)).setCell ⟨go,m,none⟩ (.slice (some ⟨g1,0,none⟩) n c1)) base n go cap top (bQ f i m):=by
 have hb:=h;obtain⟨g1,c1,_,t1,e1,_⟩:=hb.row i hi;obtain⟨g2,c2,_,t2,e2,_⟩:=hb.row m hm;obtain⟨h1,⟨h2,h3⟩,h4,h5⟩:=h;obtain⟨_,_,ho,_,_⟩:=id h1;obtain⟨im,cur,hblk⟩:=AY ho;obtain⟨x,y,q1,q2,hw⟩:=h1.swap i m hi hm (EL f n);rw[e1]at q1;rw[e2]at q2;simp only[Option.some.injEq]at q1 q2;subst q1 q2;rw[ar7 f n i m hi hm]at hw;refine⟨g1,c1,g2,c2,e1,e2,λq=>hblk.free q,hw,⟨h2,λm' g' n' c' hm' hc=>?_⟩,(h4.setCell im _).setCell im _,by simpa using h5⟩;by_cases h7:m'=m
 . subst h7;rw[ar.cell ((hblk.set i _).set m' _)]at hc;rw[List.getElem?_set_self']at hc;have:g'=g1:=by
    cases hq:(cur.set i (.slice (some ⟨g2,0,none⟩) n c2))[m']? with
    |none=>rw[hq]at hc;simp at hc
    |some z=>rw[hq]at hc;simp at hc;exact hc.1.symm
   omega
 . rw[World.cell?_setCell_other _ _ _ _ (show(⟨go,m,none⟩:Addr)≠⟨go,m',none⟩from λe=>h7 (by simpa using e.symm))]at hc;by_cases h8:m'=i
   . subst h8;rw[ar.cell (hblk.set m' _),List.getElem?_set_self']at hc;have:g'=g2:=by
      cases hq:cur[m']? with
      |none=>rw[hq]at hc;simp at hc
      |some z=>rw[hq]at hc;simp at hc;exact hc.1.symm
     omega
   . rw[World.cell?_setCell_other _ _ _ _ (show(⟨go,i,none⟩:Addr)≠⟨go,m',none⟩from λe=>h8 (by simpa using e.symm))]at hc;exact h3 m' g' n' c' hm' hc
end Go.Proofs.YtpfgffadgkkedaaGreatDoor
namespace Go.Proofs.YtpfgffadgkkedaaGreatDoor
open Go.RowKit
attribute [local go_sem ↓] Go.wp_at_zero Go.wp_at_succ
def BT (w0 w:World)(base n go cap top:Nat)(f:Nat->Nat->Int)(r l kb:Nat)(last:Int)(k:Nat):Prop:=
 BS w0 w base n go cap top f/\ar w r 43 [ag false,.string ⟨#[]⟩]/\ar w l 43 [ag (au last),ah (nt last.natAbs)]/\ar w kb 3 [af (k:Int)]/\base<=top/\top<=r/\top<=l/\top<=kb
def BT.below {w0 w w':World}{base n go cap top:Nat}{f:Nat->Nat->Int}{r l kb:Nat}{last:Int}{k:Nat}(h:BT w0 w base n go cap top f r l kb last k)(hb:Bw w w'):BT w0 w' base n go cap top f r l kb last k:=by obtain⟨h1,h2,h3,h4,h5,h6⟩:=h;exact⟨h1.below hb h5,h2.below hb,h3.below hb,h4.below hb,h5,h6⟩
def BT.congr {w0 w:World}{base n go cap top:Nat}{f g:Nat->Nat->Int}{r l kb:Nat}{last:Int}{k:Nat}(h:BT w0 w base n go cap top f r l kb last k)(he:∀a b,a<n->b<n->f a b=g a b):BT w0 w base n go cap top g r l kb last k:=
 ⟨h.1.congr he,h.2⟩
def BT.drew {w0 w:World}{base n go cap top:Nat}{f:Nat->Nat->Int}{r l kb:Nat}{last:Int}{k:Nat}(h:BT w0 w base n go cap top f r l kb last k):BT w0 w.drew base n go cap top f r l kb last k:=h.below ((Below.refl _ _).drew)
def BT.row {w0 w:World}{base n go cap top:Nat}{f:Nat->Nat->Int}{r l kb:Nat}{last:Int}{k:Nat}(h:BT w0 w base n go cap top f r l kb last k)(i:Nat)(hi:i<n):
 ∃g c,g<w.heap.size/\g<top/\w.cell? ⟨go,i,none⟩=some (.slice (some ⟨g,0,none⟩) n c)/\(∀j,j<n->w.cell? ⟨g,j*2,none⟩=some (ag (au (f i j)))/\w.cell? ⟨g,j*2+1,none⟩=some (ah (nt (f i j).natAbs)))/\
  (∀q,w.frozen? ⟨g,q,none⟩=false)/\
  ∀j,j<n->∀y:Int,BT w0 ((w.setCell ⟨g,j*2,none⟩ (ag (au y))).setCell ⟨g,j*2+1,none⟩ (ah (nt y.natAbs))) base n go cap top (λa b=>if a=i/\b=j then y else f a b) r l kb last k:=by
 obtain⟨h1,h2,h3,h4,h5,h6,h7,h8⟩:=h;have h9:=h1.2.2.2;obtain⟨g,c,hb,ht,e1,e2,e3,hw⟩:=h1.row i hi;refine⟨g,c,by omega,ht,e1,e2,e3,λj hj y=>⟨hw j hj y,?_,?_,?_,h5,h6,h7,h8⟩⟩
 . exact(h2.so _ _ zo _).so _ _ zo _
 . exact(h3.so _ _ zo _).so _ _ zo _
 . exact(h4.so _ _ zo _).so _ _ zo _
def BT.swap {w0 w:World}{base n go cap top:Nat}{f:Nat->Nat->Int}{r l kb:Nat}{last:Int}{k:Nat}(h:BT w0 w base n go cap top f r l kb last k)(i m:Nat)(hi:i<n)(hm:m<n):
 ∃g1 c1 g2 c2,w.cell? ⟨go,i,none⟩=some (.slice (some ⟨g1,0,none⟩) n c1)/\w.cell? ⟨go,m,none⟩=some (.slice (some ⟨g2,0,none⟩) n c2)/\(∀q,w.frozen? ⟨go,q,none⟩=false)/\
  BT w0 ((w.setCell ⟨go,i,none⟩ (.slice (some ⟨g2,0,none⟩) n c2)).setCell ⟨go,m,none⟩ (.slice (some ⟨g1,0,none⟩) n c1)) base n go cap top (bQ f i m) r l kb last k:=by
 obtain⟨h1,h2,h3,h4,h5,h6,h7,h8⟩:=h;have h9:=h1.2.1.1;obtain⟨g1,c1,g2,c2,e1,e2,e3,hw⟩:=h1.swap i m hi hm;refine⟨g1,c1,g2,c2,e1,e2,e3,hw,?_,?_,?_,h5,h6,h7,h8⟩
 . exact(h2.so _ _ zo _).so _ _ zo _
 . exact(h3.so _ _ zo _).so _ _ zo _
 . exact(h4.so _ _ zo _).so _ _ zo _
def BT.axi {w0 w:World}{base n go cap top:Nat}{f:Nat->Nat->Int}{r l kb:Nat}{last:Int}{k:Nat}(h:BT w0 w base n go cap top f r l kb last k)(i:Nat)(hi:i<n):
 ∃g c,g<w.heap.size/\g<top/\w.cell? ⟨go,i,none⟩=some (.slice (some ⟨g,0,none⟩) n c)/\(∀j,j<n->w.cell? ⟨g,j*2,none⟩=some (ag (au (f i j)))/\w.cell? ⟨g,j*2+1,none⟩=some (ah (nt (f i j).natAbs)))/\
  ∀w',Bw w w'->(∀q,w'.frozen? ⟨g,q,none⟩=false)/\∀j,j<n->∀y:Int,BT w0 ((w'.setCell ⟨g,j*2,none⟩ (ag (au y))).setCell ⟨g,j*2+1,none⟩ (ah (nt y.natAbs))) base n go cap top (λa b=>if a=i/\b=j then y else f a b) r l kb last k:=by
 obtain⟨g,c,h1,h2,h3,h4,_,_⟩:=h.row i hi;refine⟨g,c,h1,h2,h3,h4,λw' hb=>?_⟩;obtain⟨g',c',_,_,e3,_,e5,e6⟩:=(h.below hb).row i hi;have:=cell_later hb h3;rw[e3]at this;simp at this;obtain⟨rfl,rfl⟩:=this;exact⟨e5,e6⟩
def BS.setOther {w0 w:World}{base n go cap top:Nat}{f:Nat->Nat->Int}(h:BS w0 w base n go cap top f)(rN:base<=top)(p o:Nat)(u:Value)(hp:top<=p):BS w0 (w.setCell ⟨p,o,none⟩ u) base n go cap top f:=by
 have hbs:=h;obtain⟨⟨vals,hl,ho,hv,hd⟩,⟨h2,h3⟩,h4,h5⟩:=h;refine⟨⟨vals,hl,ownsRow_setCell_other ho (by simp[Value.ownBlock];omega) _,λi hi=>?_,hd⟩,⟨h2,λm g n' c hm hc=>h3 m g n' c hm ?_⟩,h4.setCell zp _,by simpa using h5⟩
 . obtain⟨g,c,_,ht,e,_⟩:=hbs.row i zo;rw[lh ho i hi]at e;have e1:vals[i]=.slice (some ⟨g,0,none⟩) n c:=by simpa using e
   exact ownsRow_setCell_other (hv i hi) (by rw[e1];simp[Value.ownBlock];omega) _
 . rw[World.cell?_setCell_far _ _ _ _ zp]at hc;exact hc
def BT.setLast {w0 w:World}{base n go cap top:Nat}{f:Nat->Nat->Int}{r l kb:Nat}{last:Int}{k:Nat}(h:BT w0 w base n go cap top f r l kb last k)(x:Int)(h1:l≠r)(h2:l≠kb):
 BT w0 ((w.setCell ⟨l,0,none⟩ (ag (au x))).setCell ⟨l,1,none⟩ (ah (nt x.natAbs))) base n go cap top f r l kb x k:=by
 obtain⟨q1,q2,q3,q4,q5,q6,q7,q8⟩:=h;exact⟨(q1.setOther q5 l 0 _ q7).setOther q5 l 1 _ q7,(q2.so _ _ h1 _).so _ _ h1 _,(q3.set 0 _).set 1 _,(q4.so _ _ h2 _).so _ _ h2 _,q5,q6,q7,q8⟩
def asX (x y N:Int)(h:x-y=N)(w:World)(hx:(nt x.natAbs).length<=34359738368)(hy:(nt y.natAbs).length<=34359738368):
 Cv 249 #[.agg #[ag (au x),ah (nt x.natAbs)],.agg #[ag (au y),ah (nt y.natAbs)]] w (cw N):=by
 have:=RJ (au x) (nt x.natAbs) (au y) (nt y.natAbs) w hx hy;rw[dX,dX,h]at this;exact this
def adm (x y N:Int)(h:x*y=N)(b cap:Nat)(ty:TypeId)(w:World)(hx:(nt x.natAbs).length<=17179869184)(hy:(nt y.natAbs).length<=17179869184)(ha:ar w b ty [ag (au x),ah (nt x.natAbs),ag (au y),ah (nt y.natAbs)]):
 Cv 126 #[.slice (some ⟨b,0,none⟩) 2 cap] w (cw N):=
 adn _ _ _ _ N (by rw[dX,dX,h]) b cap ty w hx hy ha
def BS.row_ne {w0 w:World}{base n go cap top:Nat}{f:Nat->Nat->Int}(h:BS w0 w base n go cap top f)(i:Nat)(hi:i<n){g c:Nat}(hc:w.cell? ⟨go,i,none⟩=some (.slice (some ⟨g,0,none⟩) n c)):g≠go:=by
 obtain⟨⟨vals,hl,ho,hv,hd⟩,_⟩:=h;have hi2:i<vals.length:=by omega
 rw[lh ho i hi2]at hc;simp only[Option.some.injEq]at hc;have hrow:=hv i hi2;rw[hc]at hrow;obtain⟨_,c1,b1⟩:=AY hrow;obtain⟨_,c2,b2⟩:=AY ho;rintro rfl;have:=b1.symm.trans b2;simp at this
def EA (f:Nat->Nat->Int)(n k:Nat):Int:=match oz f n k with|none=>-1|some m=>(m:Int)
open Classical in
def BS.index {w0 w:World}{base n go cap top:Nat}{f:Nat->Nat->Int}(h:BS w0 w base n go cap top f)(k kb:Nat)(hk:k<n)(hn:n<=8)(hkb:w.cell? ⟨kb,0,none⟩=some (af (k:Int)))(hz:∀a b,a<n->b<n->(nt (f a b).natAbs).length<=1099511627776):
 Cv 247 #[.slice (some ⟨go,k,none⟩) (n-k) (cap-k),.func (.func 248) #[] #[.pointer (some ⟨kb,0,none⟩)]] w (af (EA f n k)):=by
 have hbs:=h;obtain⟨h1,_,_,_⟩:=h;obtain⟨vals,hl,ho,hv,hd⟩:=h1;have hrow:∀i (hi:i<vals.length),∃g c,vals[i]=.slice (some ⟨g,0,none⟩) n c/\∀j,j<n->w.cell? ⟨g,j*2,none⟩=some (ag (au (f i j)))/\w.cell? ⟨g,j*2+1,none⟩=some (ah (nt (f i j).natAbs)):=by intro i hi;obtain⟨g,c,_,_,e1,e2,_⟩:=hbs.row i zo;rw[lh ho i hi]at e1;exact⟨g,c,by simpa using e1,e2⟩
 have hinj:∀i j (hi:i<vals.length) (hj:j<vals.length),vals[i]=vals[j]->i=j:=by intro i j hi hj e;obtain⟨g,c,e1,_⟩:=hrow i hi;exact hd i j hi hj g (by rw[e1];rfl) (by rw[<-e,e1];rfl)
 obtain⟨p,hp⟩:∃p:Value->Bool,∀i (hi:i<vals.length),p vals[i]=decide (f i k≠0):=by
  refine⟨λv=>decide (∃i,∃hi:i<vals.length,vals[i]=v/\f i k≠0),λi hi=>?_⟩;by_cases h0:f i k≠0
  . have:∃j,∃hj:j<vals.length,vals[j]=vals[i]/\f j k≠0:=⟨i,hi,rfl,h0⟩;show decide _=decide _
    rw[decide_eq_true this,decide_eq_true h0]
  . have:¬∃j,∃hj:j<vals.length,vals[j]=vals[i]/\f j k≠0:=by rintro⟨j,hj,e,h2⟩;exact h0 (by rw[<-hinj j i hj hi e];exact h2)
    simp only[this,h0,decide_false]
 have hpv:=apQ p vals f n k zo hp;have hat:At w (some ⟨go,k,none⟩) (vals.drop k):=by refine .inr ⟨go,k,rfl,λj hj=>?_⟩;rw[List.length_drop]at hj;rw[lh ho (k+j) zo,List.getElem?_drop,List.getElem?_eq_getElem]
 have:=anj (some ⟨go,k,none⟩) (n-k) (cap-k) (vals.drop k) 248 #[.pointer (some ⟨kb,0,none⟩)] p w (by rw[List.length_drop,hl]) zo hat (enters_of Tryz.func248 zk rfl) (λv hv W hb=>by
  obtain⟨i,hi,rfl⟩:=List.mem_iff_getElem.1 hv;rw[List.getElem_drop];have hi2:k+i<vals.length:=by rw[List.length_drop]at hi;omega
  obtain⟨g,c,e1,e2⟩:=hrow (k+i) hi2;obtain⟨e3,e4⟩:=e2 k hk;rw[hp (k+i) hi2,e1]
  exact aiq kb k g n c (f (k+i) k) W (cell_later hb hkb) hk (cell_later hb e3) (cell_later hb e4) (hz _ _ zo hk))
 rw[hpv]at this;exact this
def Bs (w0 w:World)(base n go cap top r l K:Nat)(Z:Int)(k:Nat)(f:Nat->Nat->Int)(last:Int)(t:Bool):Prop:=
 BS w0 w base n go cap top f/\ar w r 43 [ag false,.string ⟨#[]⟩]/\ar w l 43 [ag (au last),ah (nt last.natAbs)]/\fU n (n-k) k f last/\ez n (n-k) k f last t=Z/\last≠0/\
  ∃Q,Q+1<=2^k* (K+1)/\last.natAbs<2^Q/\∀a b,a<n->b<n->(f a b).natAbs<2^Q
def arZ (f:Nat->Nat->Int)(k:Nat):bQ f k (k+0)=f:=by
 funext a b;unfold bQ
 simp only[Nat.add_zero];by_cases h:a=k
 . rw[if_pos h,h]
 . rw[if_neg h,if_neg h]
def Bs.none {w0 w:World}{base n go cap top r l K k:Nat}{Z:Int}{f:Nat->Nat->Int}{last:Int}{t:Bool}(h:Bs w0 w base n go cap top r l K Z k f last t)(hk:k<n)(hp:oz f n k=none):Z=0:=by obtain⟨_,_,_,_,h2,_⟩:=h;rw[show n-k=n-(k+1)+1 by omega]at h2;unfold ez at h2;rw[hp]at h2;exact h2.symm
def Bs.some {w0 w:World}{base n go cap top r l K k m:Nat}{Z:Int}{f:Nat->Nat->Int}{last:Int}{t:Bool}(h:Bs w0 w base n go cap top r l K Z k f last t)(hk:k<n)(hp:oz f n k=some m):
 ∃g,g=bQ f k (k+m)/\g k k≠0/\(∀a b,k<a->a<n->k<b->b<n->last∣bT g k a b)/\fU n (n-(k+1)) (k+1) (dc g k last) (g k k)/\ez n (n-(k+1)) (k+1) (dc g k last) (g k k) (t !=decide (0<m))=Z/\
  ∃Q,2*Q+2<=2^(k+1) * (K+1)/\last.natAbs<2^Q/\(∀a b,a<n->b<n->(g a b).natAbs<2^Q)/\(g k k).natAbs<2^(2*Q+1)/\∀a b,a<n->b<n->(dc g k last a b).natAbs<2^(2*Q+1):=by
 obtain⟨_,_,_,h1,h2,h3,Q,hQ,hl,hf⟩:=h;have xO:=kF hp;rw[show n-k=n-(k+1)+1 by omega]at h1 h2;unfold fU at h1;unfold ez at h2;rw[hp]at h1 h2;simp only at h1 h2;obtain⟨g,hg⟩:∃g,g=bQ f k (k+m):=⟨_,rfl⟩;rw[<-hg]at h1 h2;have gY:∀a b,a<n->b<n->(g a b).natAbs<2^Q:=by
  intro a b ha hb;rw[hg];unfold bQ;refine hf _ _ ?_ hb;split
  . omega
  . split
    . omega
    . exact ha
 have CY:2^Q<=2^(2*Q+1):=Nat.pow_le_pow_right zd zo;refine⟨g,hg,?_,h1.1,h1.2,h2,Q,?_,hl,gY,Nat.lt_of_lt_of_le (gY k k hk hk) CY,λa b ha hb=>?_⟩
 . rw[hg];unfold bQ;rw[if_pos rfl];exact xO.2
 . rw[Nat.pow_succ];have:2^k*2* (K+1)=2* (2^k* (K+1)):=by rw[Nat.mul_comm (2^k) 2,Nat.mul_assoc]
   omega
 . unfold dc;split
   . rename_i h4
     have h5:=(Qz g k a b Q (gY a b ha hb) (gY k k hk hk) (gY a k ha hk) (gY k b hk hb)).2.2;rcases div_lt _ last _ h5 with h6|h6
     . exact h6
     . exact absurd (h1.1 a b h4.1 ha h4.2 hb) h6
   . exact Nat.lt_of_lt_of_le (gY a b ha hb) CY
def Bs.next {w0 w:World}{base n go cap top r l kb K k:Nat}{Z:Int}{f g:Nat->Nat->Int}{x:Int}{t:Bool}(h:BT w0 w base n go cap top f r l kb x k)(hf:∀a b,a<n->b<n->f a b=g a b)(hx:x≠0)(h1:fU n (n-(k+1)) (k+1) g x)(h2:ez n (n-(k+1)) (k+1) g x t=Z)
 (h3:∃Q,Q+1<=2^(k+1) * (K+1)/\x.natAbs<2^Q/\∀a b,a<n->b<n->(g a b).natAbs<2^Q):Bs w0 w base n go cap top r l K Z (k+1) g x t:=
 ⟨(h.congr hf).1,h.2.1,h.2.2.1,h1,h2,hx,h3⟩
def Gb (a0:Act)(w0:World)(cs:List (Addr×Value))(x1 x2 x3 x4 P1 P2 N:Int)(dn:Nat->Bool)(a:Act)(w:World):Prop:=
 ∃v1 v2 v3 v4 v5 v6:Value,a=(((((a0.put (some 76) v1).put (some 77) v2).put (some 92) v3).put (some 93) v4).put (some 94) v5).put (some 10) v6/\iM cs w/\Bw w0 w/\
  (dn 14=true->∃b,v1=.slice (some ⟨b,0,none⟩) 2 2/\ar w b 43 [ag (au x1),ah (nt x1.natAbs),ag (au x2),ah (nt x2.natAbs)])/\(dn 15=true->v2=cw P1)/\
  (dn 30=true->∃b,v3=.slice (some ⟨b,0,none⟩) 2 2/\ar w b 43 [ag (au x3),ah (nt x3.natAbs),ag (au x4),ah (nt x4.natAbs)])/\(dn 31=true->v4=cw P2)/\(dn 32=true->v5=cw N)/\
  (dn 33=true->∃b,v6=.pointer (some ⟨b,0,none⟩)/\w0.heap.size<=b/\ar w b 43 [ag false,.string ⟨#[]⟩])
def Gb.init (a:Act)(w0 w:World)(cs:List (Addr×Value))(x1 x2 x3 x4 P1 P2 N:Int)(hk:iM cs w)(hb:Bw w0 w):Gb a w0 cs x1 x2 x3 x4 P1 P2 N (λ_=>false) a w:=
 ⟨a.tmps.getD 76 undef,a.tmps.getD 77 undef,a.tmps.getD 92 undef,a.tmps.getD 93 undef,a.tmps.getD 94 undef,a.tmps.getD 10 undef,by rw[Bc,Bc,Bc,Bc,Bc,Bc],hk,hb,(λh=>by cases h),(λh=>by cases h),(λh=>by cases h),(λh=>by cases h),(λh=>by cases h),(λh=>by cases h)⟩
def air (base n K:Nat)(f:Nat->Nat->Int)(v:Value)(w:World)(hn:1<=n)(bH:n<=4)(hO:iF w base n (eo f n) n v)(dV:base<=w.heap.size)(zW:1<=K)(hK:∀a b,a<n->b<n->(f a b).natAbs<2^K)(hK2:K<=100000000):
 Cl 201 #[v] w λe w'=>e=.returned (cw (ez n n 0 f 1 false))/\Below base w w':=by
 obtain⟨go,cap,rfl,hcap,hbs⟩:=BS.begin hO hn;obtain⟨Z,hZ⟩:=az (ez n n 0 f 1 false);have hex:=Wj n hn bH f;have hsz:∀k Q:Nat,k<=n->Q+1<=2^k* (K+1)->Q<=1800000000:=by intro k Q h1 h2;have h3:2^k<=2^4:=Nat.pow_le_pow_right zd zo;have h4:=Nat.mul_le_mul_right (K+1) h3;omega
 rw[hZ];obtain⟨SZ,HZ,BI,pL,HK⟩:=eV hbs hZ hex hsz hK;clear hO hbs hZ hex hsz hK;have Hb:=hbz w;go_enter Tryz.func201,Tryz.ntmps201;go_wp2_with fail;refine bP w (Hb.an trivial) 43 [ag false,.string ⟨#[]⟩] λW aG ae ai=>?_;go_wp2_with fail;refine aJ ae (RG 1 _ zd zd) λw1 ae ai=>?_;obtain⟨W2,kP,aG,ae,ai⟩:=cg w1 ae 43 [ag (au 1),ah (nt 1)];have Sa:=aj (SZ.out.below ae.2.2.1.out zo);have amG:w.heap.size<w1.heap.size:=zo;have hq0:=ae.2.1.out;have hq1:=ae.1.out;skip
 have hst:Bs w W2 base n go cap w.heap.size w.heap.size w1.heap.size K Z 0 f 1 false:=⟨Sa.out,hq0,hq1,BI.out,HZ.out,by decide,K,by omega,by rw[show(1:Int).natAbs=1 from rfl];exact Nat.one_lt_two_pow zo,HK.out⟩;clear hq0 hq1;have bE:=aj hst;have szW:=ae.2.2.1.out.size;clear hst Sa SZ HK BI HZ;go_wp2_with fail;go_loopw[5,15] (λs5 x wr=>∃(k:Nat) (f':Nat->Nat->Int) (last:Int) (t:Bool),k<=n/\x=af (k:Int)/\s5=ag t/\Bs w wr base n go cap w.heap.size w.heap.size w1.heap.size K Z k f' last t) (λ_ x _=>n-(intOf x).toNat);case atStart=>exact⟨0,f,1,false,Nat.zero_le _,rfl,rfl,bE.out⟩
 case round=>
  clear bE;obtain⟨k,f',last,t,hk,rfl,rfl,hS⟩:=hrel;obtain⟨wk,hwk⟩:∃wk,wk=wr:=⟨_,rfl⟩;subst hwk;by_cases hlt:k<n
  . obtain⟨Q0,Xj,_,Xl⟩:=hS.2.2.2.2.2.2;have fq:=pL.out k Q0 hk Xj;have hlen:∀a b,a<n->b<n->(nt (f' a b).natAbs).length<=1099511627776:=λa b ha hb=>ju (Xl a b ha hb) zo;have hkc:k<cap:=by omega
    obtain⟨HS,lF⟩:=aI hS hlen;have yu:=hS.1.2.2.2;clear hS Xj Xl fq hlen;have Hb:=hbz wk;obtain⟨Hr,Hl⟩:=aI HS.out.2.1 HS.out.2.2.1;obtain⟨ae,ai⟩:=qZ (Hr.an<|Hl.an trivial);obtain⟨W3,Ir,aG,ae,ai⟩:=cg wk (Hb.an ae) 3 [af (k:Int)];have jB:=aj (HS.out.1.below ae.2.1.out zo);have dY:W3.cell? ⟨wk.heap.size,0,none⟩=some (af (k:Int)):=ae.1.out.cell 0;go_wp2_with fail;refine aJ ae (jB.out.index k wk.heap.size hlt zo dY lF.out) λw4 ae ai=>?_;cases hp:oz f' n k with
    | none=>
      have hpv:EA f' n k= -1:=by unfold EA;rw[hp]
      have hz:=HS.out.none hlt hp;rw[hpv];have Hbb:=aj (HS.out.1.2.2.1.trans (ae.2.1.out.mono zo));clear HS lF jB hp;go_wp2;have r0:w4.cell? ⟨w.heap.size,0,none⟩=some (ag false):=ae.2.2.1.out.cell 0;have r1:w4.cell? ⟨w.heap.size,1,none⟩=some (.string ⟨#[]⟩):=ae.2.2.1.out.cell 1;refine bodyPost_ret (v:=.agg #[ag false,.string ⟨#[]⟩]) (by simp[results,Tryz.results201,go_sem,r0,r1]) rfl ⟨by rw[hz];rfl,?_⟩;exact(Hbb.out.setCell zp _).setCell zp _
    | some m=>
      have hpv:EA f' n k=(m:Int):=by unfold EA;rw[hp]
      rw[hpv];obtain⟨lS,_⟩:=kF hp;obtain⟨g,hg,kw,lQ,Yu,XX,Q,hQ,DG,gY,YF,mW⟩:=HS.out.some hlt hp;have hl0:=HS.out.2.2.2.2.2.1;have rN:BT w w4 base n go cap w.heap.size f' w.heap.size w1.heap.size wk.heap.size last k:=⟨HS.out.1.below ae.2.1.out zo,ae.2.2.1.out,ae.2.2.2.1.out,ae.1.out,by omega,Nat.le_refl _,by omega,by omega⟩;obtain⟨uu,Hdv,Tn,SX,HQ,TJ,Tx,Tz,nQ,Hg,yN,lD⟩:=gN rN lQ Yu XX hQ DG gY YF mW hg kw hl0;clear rN lQ Yu XX hQ DG gY YF mW hg kw hl0 hpv hp HS lF jB;have hm0:¬(m:Int)<0:=by omega
      go_upto_if 27 with fail
      go_cut[5] (λs5 wx=>s5=ag (t !=decide (0<m))/\BT w wx base n go cap w.heap.size g w.heap.size w1.heap.size wk.heap.size last k);case first=>
       by_cases hm:0<m
       . have rO:(0:Int)<(m:Int):=by omega
         obtain⟨g1,c1,g2,c2,e1,e2,e3,hsw⟩:=uu.out.swap k (k+m) hlt zo;rw[<-Hg.out]at hsw;have Ma:=aj hsw;have tC:=AG n cap k (k:Int) (rfl:(some ⟨go,0,none⟩:Option Addr)=_) hlt rfl;have oP:=AG n cap (k+m) ((k+m:Nat):Int) (rfl:(some ⟨go,0,none⟩:Option Addr)=_) zo rfl;rw[Nat.zero_add,Nat.mul_one]at tC oP;have hwm:IntKind.i64.wrap ((k:Int)+(m:Int))=((k+m:Nat):Int):=by rw[IntKind.wrap_i64];omega
         obtain⟨km,kx⟩:=az (k+m);rw[kx]at e2 oP hwm Ma;have nM:=aj uu.out.2.2.2.1;have Cm:Hid (aR w4 go k [.slice (some ⟨g1,0,none⟩) n c1]):=λj hj=>by
          obtain rfl:j=0:=by simp at hj;omega
          exact e1
         have Cn:Hid (aR w4 go km [.slice (some ⟨g2,0,none⟩) n c2]):=λj hj=>by
          obtain rfl:j=0:=by simp at hj;omega
          exact e2
         have z1:w4.drew.frozen? ⟨go,k,none⟩=false:=e3 k;have z2:w4.drew.frozen? ⟨go,km,none⟩=false:=e3 km;have z3:w4.frozen? ⟨go,km,none⟩=false:=e3 km;have y2:(w4.setCell ⟨go,k,none⟩ (.slice (some ⟨g2,0,none⟩) n c2)).cell? ⟨go,km,none⟩=some (.slice (some ⟨g2,0,none⟩) n c2):=aF (.inr zp) e2;have Hkm:=aj kx;clear hsw e1 e2 e3 kx;go_wp2_with fail;obtain⟨ae,ai⟩:=qZ (nM.an<|Cm.an<|Cn.an trivial);have hgo:go<wk.heap.size:=by have:=uu.out.1.2.1.1;omega
         obtain⟨nM,Cm,Cn,_⟩:=ae;have dY:=nM.out.c1;have xa0:=Cm.out.w1;have xb0:=Cn.out.w1;refine atf (λw'=>aK w' (wk.heap.size) 0 (af (k:Int))) (λi=>Nat.blt i 19) (.rd 0 (.rd 1 (.rd 2 (.rd 3 (.rd 4 (.rd 5 (.rd 6 (.rd 7 (.rd 8 (.rd 9 (.rd 10 (.rd 12 (.rd 13 (.rd 14 (.br 11 15 (.lin [(15,false),(16,true),(17,false),(18,false),(19,false)]) (.lin [(11,false),(16,true),(17,false),(18,false),(19,false)])))))))))))))))) zk zk rfl zk zc dY ?_;iterate 14 (refine apX rfl rfl (v:=?_) (λw' hw'=>?_) ?_;rotate_left;(focus go_simp;try with_reducible rfl))
         refine apW rfl rfl rfl rfl rfl rfl  (λK hK=>?_) (λK hK=>?_) 
         . go_simp;refine hK _ _ (by first|exact λ_=>dY|exact λ_=>fT zg dY) ?_
           refine abT ?_;refine aP rfl rfl (λK hK=>?_);go_simp;refine hK _ _ (by first|exact λh=>absurd h zd|exact λ_=>dY|exact λ_=>fT zg dY) ?_
           refine pT rfl rfl ?_
           refine aP rfl rfl (λK hK=>?_);go_simp;refine hK _ _ (by first|exact λh=>absurd h zd|exact λ_=>dY|exact λ_=>fT zg dY) ?_
           refine aP rfl rfl (λK hK=>?_);go_simp;refine hK _ _ (by first|exact λh=>absurd h zd|exact λ_=>dY|exact λ_=>fT zg dY) ?_
           refine aP rfl rfl (λK hK=>?_);go_simp;refine hK _ _ (by first|exact λh=>absurd h zd|exact λ_=>dY|exact λ_=>fT zg dY) ?_
           simp only[bI];go_wp2_with fail;go_meet;exact⟨by simp[hm],Ma.out.drew⟩
         . go_simp;refine hK _ _ (by first|exact λ_=>dY|exact λ_=>fT zg dY) ?_
           refine abT ?_;refine aP rfl rfl (λK hK=>?_);go_simp;refine hK _ _ (by first|exact λh=>absurd h zd|exact λ_=>dY|exact λ_=>fT zg dY) ?_
           refine pT rfl rfl ?_
           refine aP rfl rfl (λK hK=>?_);go_simp;refine hK _ _ (by first|exact λh=>absurd h zd|exact λ_=>dY|exact λ_=>fT zg dY) ?_
           refine aP rfl rfl (λK hK=>?_);go_simp;refine hK _ _ (by first|exact λh=>absurd h zd|exact λ_=>dY|exact λ_=>fT zg dY) ?_
           refine aP rfl rfl (λK hK=>?_);go_simp;refine hK _ _ (by first|exact λh=>absurd h zd|exact λ_=>dY|exact λ_=>fT zg dY) ?_
           simp only[bI];go_wp2_with fail;go_meet;exact⟨by simp[hm],Ma.out.drew⟩
       . have hm2:¬(0:Int)<(m:Int):=by omega
         obtain rfl:m=0:=by omega
         go_wp2_with fail;go_meet;refine⟨by simp,?_⟩;rw[Hg.out,arZ];exact uu.out
      case rest=>
       obtain⟨rfl,rN⟩:=hcut;have uu:=aj rN;have fq:=pL.out (k+1) (2*Q+1) zo (by have:=HQ.out;omega);clear rN;have dY:wc.cell? ⟨wk.heap.size,0,none⟩=some (af (k:Int)):=uu.out.2.2.2.1.cell 0;go_wp2_with fail;go_loopw[8] (λx wr=>∃i:Nat,k<i/\i<=n/\x=af (i:Int)/\BT w wr base n go cap w.heap.size (jQ g k last i (k+1)) w.heap.size w1.heap.size wk.heap.size last k) (λx _=>n-(intOf x).toNat);case atStart=>exact⟨k+1,by omega,by omega,by go_num,by rw[apM];exact uu.out⟩
       case round=>
        clear dY uu;obtain⟨i,IM,hin,rfl,hT⟩:=hrel;have BB:=aj hT;clear hT;have dY:wr.cell? ⟨wk.heap.size,0,none⟩=some (af (k:Int)):=BB.out.2.2.2.1.cell 0;by_cases bi:i<n
        . obtain⟨wi,PK⟩:∃wi,wi=wr:=⟨_,rfl⟩;subst PK;go_wp2_with fail;go_loopw[9] (λx wr=>∃j:Nat,k<j/\j<=n/\x=af (j:Int)/\BT w wr base n go cap w.heap.size (jQ g k last i j) w.heap.size w1.heap.size wk.heap.size last k) (λx _=>n-(intOf x).toNat);case atStart=>exact⟨k+1,by omega,by omega,by go_num,BB.out⟩
          case round=>
           clear dY BB;obtain⟨j,hkj,hjn,rfl,hT⟩:=hrel;by_cases iu:j<n
           . have yI:=aj hT;clear hT;obtain⟨gi,ci,li,ti,ei,ri,_⟩:=yI.out.row i bi;obtain⟨gk,ck,lk,tk,ek,rk,_⟩:=yI.out.row k hlt;obtain⟨p1,p2,p3,p4⟩:=apJ g k last i j;obtain⟨aa,Ge⟩:=ri j iu;obtain⟨ab,Gf⟩:=rk k hlt;obtain⟨ac,Gg⟩:=ri k hlt;obtain⟨ad,Gh⟩:=rk j iu;rw[p1]at aa Ge;rw[p2]at ab Gf;rw[p3]at ac Gg;rw[p4]at ad Gh;have gY:=Tx.out;have q1:=gY i j bi iu;have q2:=gY k k hlt hlt;have q3:=gY i k bi hlt;have q4:=gY k j hlt iu;obtain⟨m1,m2,m3⟩:=Qz g k i j Q q1 q2 q3 q4;have lQ:=Hdv.out i j IM bi hkj iu;have oQ:=fun a b=>congrFun (congrFun (apK g k last i j IM hkj) a) b;have hN:g i j*g k k-g i k*g k j=bT g k i j:=rfl;generalize bT g k i j=N at*;obtain⟨x1,hx1⟩:∃x,g i j=x:=⟨_,rfl⟩;obtain⟨x2,hx2⟩:∃x,g k k=x:=⟨_,rfl⟩;obtain⟨x3,hx3⟩:∃x,g i k=x:=⟨_,rfl⟩;obtain⟨x4,hx4⟩:∃x,g k j=x:=⟨_,rfl⟩;rw[hx1]at q1 m1 hN aa Ge;rw[hx2]at q2 m1 hN ab Gf;rw[hx3]at q3 m2 hN ac Gg;rw[hx4]at q4 m2 hN ad Gh;obtain⟨P1,uV⟩:∃x,x1*x2=x:=⟨_,rfl⟩;obtain⟨P2,nW⟩:∃x,x3*x4=x:=⟨_,rfl⟩;rw[uV]at m1 hN;rw[nW]at m2 hN;have L1:(nt x1.natAbs).length<=17179869184:=ju q1 zo;have L2:(nt x2.natAbs).length<=17179869184:=ju q2 zo;have L3:(nt x3.natAbs).length<=17179869184:=ju q3 zo;have L4:(nt x4.natAbs).length<=17179869184:=ju q4 zo;have L5:(nt P1.natAbs).length<=34359738368:=ju m1 zo;have L6:(nt P2.natAbs).length<=34359738368:=ju m2 zo;have L7:(nt N.natAbs).length<=34359738368:=ju m3 zo;have L8:(nt last.natAbs).length<=34359738368:=ju TJ.out zo;obtain⟨gH,yD,Bq,Sr,Ss,Su,Sv,Sw,yE,SD,HN,KU⟩:=gN L1 L2 L3 L4 L5 L6 L7 L8 uV nW hN lQ;have TS:=aj oQ;clear L1 L2 L3 L4 L5 L6 L7 L8 uV nW hN lQ oQ q1 q2 q3 q4 m1 m2 m3 hx1 hx2 hx3 hx4 gY p1 p2 p3 p4 ri rk;have ER:∀(b o:Nat) (u v:Value),wr.cell? ⟨b,o,none⟩=some u->wr.cell? ⟨b,o+1,none⟩=some v->aR wr b o [u,v]:=by
              intro b o u v h1 h2 j hj;rcases j with _|_|j
              . exact h1
              . exact h2
              . simp at hj;omega
             have RL:∀(b o:Nat) (u:Value),wr.cell? ⟨b,o,none⟩=some u->aR wr b o [u]:=by
              intro b o u h1 j hj;obtain rfl:j=0:=by simp at hj;omega
              exact h1
             obtain⟨nM,oG,sN,oD,jV,Bu,pC⟩:=jv yI.out.2.2.2.1 (RL _ _ _ ei) (RL _ _ _ ek) (ER _ _ _ _ aa Ge) (ER _ _ _ _ ab Gf) (ER _ _ _ _ ac Gg) (ER _ _ _ _ ad Gh);clear RL ER ei ek aa Ge ab Gf ac Gg ad Gh;have ixi:=AG n cap i (i:Int) (rfl:(some ⟨go,0,none⟩:Option Addr)=_) bi rfl;have ixk:=AG n cap k (k:Int) (rfl:(some ⟨go,0,none⟩:Option Addr)=_) hlt rfl;rw[Nat.zero_add,Nat.mul_one]at ixi ixk;have Jo:=tM n ci j (j:Int) (rfl:(some ⟨gi,0,none⟩:Option Addr)=_) iu rfl;have iik:=tM n ci k (k:Int) (rfl:(some ⟨gi,0,none⟩:Option Addr)=_) hlt rfl;have ikj:=tM n ck j (j:Int) (rfl:(some ⟨gk,0,none⟩:Option Addr)=_) iu rfl;have ikk:=tM n ck k (k:Int) (rfl:(some ⟨gk,0,none⟩:Option Addr)=_) hlt rfl;rw[Nat.zero_add]at Jo iik ikj ikk;go_upto_region 18 with fail
             go_cut[10] (λRf wx=>∃b:Nat,Rf=.pointer (some ⟨b,0,none⟩)/\ar wx b 43 [ag (au N),ah (nt N.natAbs)]/\Bw wr wx);case first=>
              clear Tx HQ TJ Tz nQ Hg SX Tn TS KU yN yI;obtain⟨w0,hw0⟩:∃w0,w0=w:=⟨_,rfl⟩;subst hw0;obtain⟨w,PL⟩:∃w,w=wr:=⟨_,rfl⟩;subst PL;have Hb:=hbz w;obtain⟨ae,ai⟩:=qZ (nM.an<|oG.an<|sN.an<|oD.an<|jV.an<|Bu.an<|pC.an trivial);obtain⟨nM,oG,sN,oD,jV,Bu,pC,_⟩:=ae;have dY:=nM.out.c1;have si:=oG.out.w1;have wj:=sN.out.w1;obtain⟨MC,MD⟩:=oD.out.w2;obtain⟨uK,uL⟩:=jV.out.w2;obtain⟨ac0,ac1⟩:=Bu.out.w2;obtain⟨ad0,ad1⟩:=pC.out.w2;obtain⟨cs,hcs⟩:∃cs:List (Addr×Value),[(⟨wk.heap.size,0,none⟩,af (k:Int)),(⟨go,i,none⟩,.slice (some ⟨gi,0,none⟩) n ci),(⟨go,k,none⟩,.slice (some ⟨gk,0,none⟩) n ck),(⟨gi,j*2,none⟩,ag (au x1)),(⟨gi,j*2+1,none⟩,ah (nt x1.natAbs)),(⟨gk,k*2,none⟩,ag (au x2)),(⟨gk,k*2+1,none⟩,ah (nt x2.natAbs)),(⟨gi,k*2,none⟩,ag (au x3)),(⟨gi,k*2+1,none⟩,ah (nt x3.natAbs)),(⟨gk,j*2,none⟩,ag (au x4)),(⟨gk,j*2+1,none⟩,ah (nt x4.natAbs))]=cs:=⟨_,rfl⟩;have qT:∀w',iM cs w'->aK w' (wk.heap.size) 0 (af (k:Int))/\aK w' go i (.slice (some ⟨gi,0,none⟩) n ci)/\aK w' go k (.slice (some ⟨gk,0,none⟩) n ck)/\aK w' gi (j*2) (ag (au x1))/\aK w' gi (j*2+1) (ah (nt x1.natAbs))/\aK w' gk (k*2) (ag (au x2))/\aK w' gk (k*2+1) (ah (nt x2.natAbs))/\aK w' gi (k*2) (ag (au x3))/\aK w' gi (k*2+1) (ah (nt x3.natAbs))/\aK w' gk (j*2) (ag (au x4))/\aK w' gk (j*2+1) (ah (nt x4.natAbs)):=by subst hcs;intro w' h;exact⟨h.hd,h.tl.hd,h.tl.tl.hd,h.tl.tl.tl.hd,h.tl.tl.tl.tl.hd,h.tl.tl.tl.tl.tl.hd,h.tl.tl.tl.tl.tl.tl.hd,h.tl.tl.tl.tl.tl.tl.tl.hd,h.tl.tl.tl.tl.tl.tl.tl.tl.hd,h.tl.tl.tl.tl.tl.tl.tl.tl.tl.hd,h.tl.tl.tl.tl.tl.tl.tl.tl.tl.tl.hd⟩
              have jT:Hid (iM cs w):=by subst hcs;show iM _ _;intro p hp;simp only[List.mem_cons,List.not_mem_nil,or_false]at hp;rcases hp with rfl|rfl|rfl|rfl|rfl|rfl|rfl|rfl|rfl|rfl|rfl<;>assumption
              refine ate (λw'=>iM cs w') (λi=>Nat.blt i 34) [14,15,30,31,32,33] (λk=>if k=15 then[14]else if k=31 then[15,30]else if k=32 then[15,31]else[]) [(34,false)] [0,1,2,3,4,5,6,7,8,9,10,11,12,13,16,17,18,19,20,21,22,23,24,25,26,27,28,29] zk zk rfl zk zc jT.out.drew ?_;iterate 28 (refine apU rfl rfl (v:=?_) (λw' hw'=>?_) ?_;rotate_left;(focus have hw':=qT w' hw';obtain⟨q0,q1,q2,q3,q4,q5,q6,q7,q8,q9,q10⟩:=hw';go_simp;try with_reducible rfl))
              clear dY si wj MC MD uK uL ac0 ac1 ad0 ad1 nM oG sN oD jV Bu pC qT hcs;refine apT (λa0=>Gb a0 w cs x1 x2 x3 x4 P1 P2 N) (Gb.init _ _ _ _ _ _ _ _ _ _ _ jT.out.drew (Below.refl _ _).drew) ?_ ?_ ?_
              . rintro dn a' w' ⟨_,_,_,_,_,_,_,h,_⟩;exact h
              . intro k0 gB dn a' w' _ hD hI;obtain⟨v1,v2,v3,v4,v5,v6,rfl,td,sX,f1,f2,f3,f4,f5,f6⟩:=hI;simp only[List.mem_cons,List.not_mem_nil,or_false]at gB;rcases gB with rfl|rfl|rfl|rfl|rfl|rfl
                . have zW:=td.alloc (.cells #[ag (au x1),ah (nt x1.natAbs),ag (au x2),ah (nt x2.natAbs)] 43);have hal:=(Below.refl w'.heap.size w').alloc (Nat.le_refl _) (.cells #[ag (au x1),ah (nt x1.natAbs),ag (au x2),ah (nt x2.natAbs)] 43);refine AX rfl rfl (λK hK=>?_);clear f1;simp only[Act.put,U1,U2,U3];go_simp;refine hK _ _ ⟨.slice (some ⟨w'.heap.size,0,none⟩) 2 2,v2,v3,v4,v5,v6,by simp only[Act.put,U1,U2,U3],zW,aC sX hal,λ_=>⟨_,rfl,ar.new _ _ _⟩,λh=>f2 (by simpa using h),λh=>?_,λh=>f4 (by simpa using h),λh=>f5 (by simpa using h),λh=>?_⟩
                  . obtain⟨b,e,q⟩:=f3 (by simpa using h);exact⟨b,e,q.below hal⟩
                  . obtain⟨b,e,hb,q⟩:=f6 (by simpa using h);exact⟨b,e,hb,q.below hal⟩
                . obtain⟨b,rfl,q⟩:=f1 (hD 14 zm);refine AX rfl rfl (λK hK=>?_);clear f1;simp only[Act.put,U1,U2,U3];go_simp;with_reducible refine(adm x1 x2 P1 yE.out b 2 _ _ gH.out yD.out q).mono ?_
                  rintro e w2 ⟨rfl,hq⟩;refine hK _ _ ⟨_,cw P1,v3,v4,v5,v6,by simp only[Act.put,U1,U2,U3],td.below hq,aC sX hq,λ_=>⟨b,rfl,q.below hq⟩,λ_=>rfl,λh=>?_,λh=>f4 (by simpa using h),λh=>f5 (by simpa using h),λh=>?_⟩
                  . obtain⟨b,e,q⟩:=f3 (by simpa using h);exact⟨b,e,q.below hq⟩
                  . obtain⟨b,e,hb,q⟩:=f6 (by simpa using h);exact⟨b,e,hb,q.below hq⟩
                . have zW:=td.alloc (.cells #[ag (au x3),ah (nt x3.natAbs),ag (au x4),ah (nt x4.natAbs)] 43);have hal:=(Below.refl w'.heap.size w').alloc (Nat.le_refl _) (.cells #[ag (au x3),ah (nt x3.natAbs),ag (au x4),ah (nt x4.natAbs)] 43);refine AX rfl rfl (λK hK=>?_);clear f3;simp only[Act.put,U1,U2,U3];go_simp;refine hK _ _ ⟨v1,v2,.slice (some ⟨w'.heap.size,0,none⟩) 2 2,v4,v5,v6,by simp only[Act.put,U1,U2,U3],zW,aC sX hal,λh=>?_,λh=>f2 (by simpa using h),λ_=>⟨_,rfl,ar.new _ _ _⟩,λh=>f4 (by simpa using h),λh=>f5 (by simpa using h),λh=>?_⟩
                  . obtain⟨b,e,q⟩:=f1 (by simpa using h);exact⟨b,e,q.below hal⟩
                  . obtain⟨b,e,hb,q⟩:=f6 (by simpa using h);exact⟨b,e,hb,q.below hal⟩
                . obtain⟨b,rfl,q⟩:=f3 (hD 30 zm);obtain rfl:=f2 (hD 15 zm);refine AX rfl rfl (λK hK=>?_);clear f3;simp only[Act.put,U1,U2,U3];go_simp;with_reducible refine(adm x3 x4 P2 SD.out b 2 _ _ Bq.out Sr.out q).mono ?_
                  rintro e w2 ⟨rfl,hq⟩;refine hK _ _ ⟨v1,cw P1,.slice (some ⟨b,0,none⟩) 2 2,cw P2,v5,v6,by simp only[Act.put,U1,U2,U3],td.below hq,aC sX hq,λh=>?_,λ_=>rfl,λ_=>⟨b,rfl,q.below hq⟩,λ_=>rfl,λh=>f5 (by simpa using h),λh=>?_⟩
                  . obtain⟨b,e,q⟩:=f1 (by simpa using h);exact⟨b,e,q.below hq⟩
                  . obtain⟨b,e,hb,q⟩:=f6 (by simpa using h);exact⟨b,e,hb,q.below hq⟩
                . obtain rfl:=f2 (hD 15 zm);obtain rfl:=f4 (hD 31 zm);refine AX rfl rfl (λK hK=>?_);clear f2 f4;simp only[Act.put,U1,U2,U3];go_simp;with_reducible refine(asX P1 P2 N HN.out _ Ss.out Su.out).mono ?_
                  rintro e w2 ⟨rfl,hq⟩;refine hK _ _ ⟨v1,_,v3,_,cw N,v6,by simp only[Act.put,U1,U2,U3],td.below hq,aC sX hq,λh=>?_,λ_=>rfl,λh=>?_,λ_=>rfl,λ_=>rfl,λh=>?_⟩
                  . obtain⟨b,e,q⟩:=f1 (by simpa using h);exact⟨b,e,q.below hq⟩
                  . obtain⟨b,e,q⟩:=f3 (by simpa using h);exact⟨b,e,q.below hq⟩
                  . obtain⟨b,e,hb,q⟩:=f6 (by simpa using h);exact⟨b,e,hb,q.below hq⟩
                . have zW:=td.alloc (.cells #[ag false,.string ⟨#[]⟩] 43);have hal:=(Below.refl w'.heap.size w').alloc (Nat.le_refl _) (.cells #[ag false,.string ⟨#[]⟩] 43);refine AX rfl rfl (λK hK=>?_);clear f6;simp only[Act.put,U1,U2,U3];go_simp;refine hK _ _ ⟨v1,v2,v3,v4,v5,.pointer (some ⟨w'.heap.size,0,none⟩),by simp only[Act.put,U1,U2,U3],zW,aC sX hal,λh=>?_,λh=>f2 (by simpa using h),λh=>?_,λh=>f4 (by simpa using h),λh=>f5 (by simpa using h),λ_=>⟨_,rfl,sX.size,ar.new _ _ _⟩⟩
                  . obtain⟨b,e,q⟩:=f1 (by simpa using h);exact⟨b,e,q.below hal⟩
                  . obtain⟨b,e,q⟩:=f3 (by simpa using h);exact⟨b,e,q.below hal⟩
              . intro dn a' w' hall hI;obtain⟨v1,v2,v3,v4,v5,v6,rfl,td,sX,f1,f2,f3,f4,f5,f6⟩:=hI;obtain rfl:=f5 (hall 32 zm);obtain⟨b,rfl,hb,q⟩:=f6 (hall 33 zm);obtain⟨ub,aug,ud,auh⟩:=q.g2;have hQ9:=(q.set 0 (ag (au N))).set 1 (ah (nt N.natAbs));have hB9:=(sX.sc b 0 hb (ag (au N))).sc b 1 hb (ah (nt N.natAbs));clear f1 f2 f3 f4 f5 f6;refine aP rfl rfl (λK hK=>?_);simp only[Act.put,U1,U2,U3];go_simp;refine hK _ _ (λh=>absurd h zd) ?_;simp only[bI];go_wp2_with fail;go_meet;exact⟨b,rfl,hQ9,hB9⟩
             case rest=>
              obtain⟨bx,rfl,qx,qb⟩:=hcut;obtain⟨wA,wH⟩:=aI (yI.out.below qb) qx;clear qx qb yI nM oG sN oD jV Bu pC ixk iik ikj ikk Jo gH yD Bq Sr Ss Su yE SD HN li lk ti tk;obtain⟨g9,c9,lt9,lu9,e9,r9,f9⟩:=wA.out.axi i bi;have ne9:=wA.out.1.row_ne i bi e9;have nx9:bx≠g9:=by rintro rfl;have h1:=(r9 1 zo).1;rw[wH.out.cell]at h1;simp at h1
              obtain⟨QW,QX⟩:=r9 j iu;obtain⟨y,hy⟩:=az (jQ g k last i j i j);rw[hy]at QW QX;have oG:Hid (aR wc go i [.slice (some ⟨g9,0,none⟩) n c9]):=λj hj=>by
               obtain rfl:j=0:=by simp at hj;omega
               exact e9
              have oD:Hid (aR wc g9 (j*2) [ag (au y),ah (nt y.natAbs)]):=λj' hj=>by
               rcases j' with _|_|j'
               . exact QW
               . exact QX
               . simp at hj;omega
              have Hl:=aj wA.out.2.2.1;have Jo:=tM n c9 j (j:Int) (rfl:(some ⟨g9,0,none⟩:Option Addr)=_) iu rfl;rw[Nat.zero_add]at Jo;obtain⟨Dv,NH⟩:=az (N/last);have Dn:Cl 250 #[.agg #[ag (au N),ah (nt N.natAbs)],.agg #[ag (au last),ah (nt last.natAbs)]] wc.drew λe w'=>∃r,e=.returned (.tuple #[cw Dv,r,ag true])/\(w'.frozen? ⟨g9,j*2,none⟩=false/\w'.frozen? ⟨g9,j*2+1,none⟩=false)/\Below wc.drew.heap.size wc.drew w':=
               (asR N last wc.drew Sv.out Sw.out lD.out KU.out).mono (λe w' ⟨r,he,hb⟩=>⟨r,by rw[he,NH],⟨(f9 w' (cJ hb)).1 _,(f9 w' (cJ hb)).1 _⟩,hb⟩)
              obtain⟨Lc,KR,Kj⟩:=bM f9 Dn NH;clear QW QX hy e9 r9 f9 Dn NH Sv Sw KU;have Hb:=hbz wc;go_wp2_with fail;obtain⟨ae,ai⟩:=qZ (oG.an<|oD.an<|wH.an<|Hl.an trivial);obtain⟨oG,oD,wH,Hl,_⟩:=ae;have si:=oG.out.w1;obtain⟨MC,MD⟩:=oD.out.w2;obtain⟨ub,ud⟩:=wH.out.c2;obtain⟨l0,l1⟩:=Hl.out.c2;refine eW (λw'=>aK w' go i (.slice (some ⟨g9,0,none⟩) n c9)/\aK w' bx 0 (ag (au N))/\aK w' bx 1 (ah (nt N.natAbs))/\aK w' (w1.heap.size) 0 (ag (au last))/\aK w' (w1.heap.size) 1 (ah (nt last.natAbs))) (λi=>Nat.blt i 100000) [(0,true),(1,true),(2,true),(3,true),(4,true),(5,true),(6,true),(7,false),(8,true),(9,true),(10,true),(11,true),(12,true),(13,false)] zk zk rfl zk zc ⟨si,ub,ud,l0,l1⟩ ?_;iterate 7 (refine pT rfl rfl ?_ (by intro w' ⟨q0,q1,q2,q3,q4⟩;go_simp;try with_reducible rfl))
              refine aP rfl rfl (λK hK=>?_);go_simp;with_reducible refine(KR.out).mono ?_
              rintro e w5 ⟨rr,rfl,⟨z0,z1⟩,hq⟩;have ak:Bw wc w5:=by first|exact hq|exact cJ hq
              replace oG:=kW oG ak;replace oD:=kW oD ak;replace wH:=kB wH ak;replace Hl:=kB Hl ak;have si:=oG.out.w1;obtain⟨MC,MD⟩:=oD.out.w2;obtain⟨ub,ud⟩:=wH.out.c2;obtain⟨l0,l1⟩:=Hl.out.c2;replace Hb:=aZ Hb ak;refine hK _ _ (λ_=>⟨si,ub,ud,l0,l1⟩) ?_
              iterate 5 (refine pT rfl rfl ?_)
              refine aP rfl rfl (λK hK=>?_);go_simp;refine hK _ _ (by first|exact λh=>absurd h zd|exact λ_=>⟨si,ub,ud,l0,l1⟩ |exact λ_=>⟨(by first|exact si|exact aF zf si|exact aF zf (aF zf si) |exact aF zf (aF zf (aF zf si))),(by first|exact ub|exact aF zf ub|exact aF zf (aF zf ub) |exact aF zf (aF zf (aF zf ub))),(by first|exact ud|exact aF zf ud|exact aF zf (aF zf ud) |exact aF zf (aF zf (aF zf ud))),(by first|exact l0|exact aF zf l0|exact aF zf (aF zf l0) |exact aF zf (aF zf (aF zf l0))),(by first|exact l1|exact aF zf l1|exact aF zf (aF zf l1) |exact aF zf (aF zf (aF zf l1)))⟩) ?_
              simp only[bI];go_wp2;go_roundw;case rel=>have h9:=(Lc.out w5 Hb.out).2 j iu Dv;rw[<-Kj.out]at h9;exact⟨j+1,by omega,by omega,by go_num,by rw[Kj.out]at h9;exact h9.congr (λa b _ _=>by rw[<-Kj.out];exact TS.out a b)⟩
              case measure=>exact bf
           . obtain rfl:j=n:=by omega
             have HT:=aj hT;clear hT;go_wp2;go_roundw;case rel=>exact⟨i+1,by omega,by omega,by go_num,HT.out.congr (λa b _ hb=>apL g k last i j a b hb)⟩
             case measure=>exact bf
        . obtain rfl:i=n:=by omega
          have hT:=BB.out.congr (λa b ha _=>apI g k last i a b ha);obtain⟨gk,ck,lk,tk,ek,rk,_⟩:=hT.row k hlt;have e1:dc g k last k k=g k k:=by unfold dc;rw[if_neg zo]
          obtain⟨GL,GM⟩:=rk k hlt;rw[e1]at GL GM;obtain⟨x,hx⟩:=az (g k k);have kw:=yN.out;have hg2:=Tz.out;have Hn:Hid (∃Q,Q+1<=2^(k+1) * (K+1)/\x.natAbs<2^Q/\∀a b,a<i->b<i->(dc g k last a b).natAbs<2^Q):=⟨2*Q+1,by have:=HQ.out;omega,by rw[<-hx];exact hg2,nQ.out⟩;have KV:=Tn.out;have Kw:=SX.out;rw[hx]at GL GM kw KV Kw;obtain⟨HE2,HBA⟩:=aI KV Kw;have hLK:w1.heap.size<wk.heap.size:=by have:=zo;omega
          obtain⟨wI,Hl⟩:=aI (hT.setLast x zo zo) hT.2.2.1;have YP:=AG i cap k (k:Int) (rfl:(some ⟨go,0,none⟩:Option Addr)=_) hlt rfl;have amx:=tM i ck k (k:Int) (rfl:(some ⟨gk,0,none⟩:Option Addr)=_) hlt rfl;rw[Nat.zero_add]at YP amx;rw[Nat.mul_one]at YP;have nM:=aj hT.2.2.2.1;have sN:Hid (aR wr go k [.slice (some ⟨gk,0,none⟩) i ck]):=λj hj=>by
           obtain rfl:j=0:=by simp at hj;omega
           exact ek
          have jV:Hid (aR wr gk (k*2) [ag (au x),ah (nt x.natAbs)]):=λj hj=>by
           rcases j with _|_|j
           . exact GL
           . exact GM
           . simp at hj;omega
          have Hhx:=aj hx;clear hT rk ek GL GM e1 hg2 KV Kw dY hx BB;go_wp2_with fail;obtain⟨ae,ai⟩:=qZ (nM.an<|sN.an<|jV.an<|Hl.an trivial);obtain⟨nM,sN,jV,Hl,_⟩:=ae;have dY:=nM.out.c1;have wj:=sN.out.w1;obtain⟨uK,uL⟩:=jV.out.w2;obtain⟨l0,fl0,l1,fl1⟩:=Hl.out.g2;refine eW (λw'=>aK w' (wk.heap.size) 0 (af (k:Int))/\aK w' go k (.slice (some ⟨gk,0,none⟩) i ck)/\aK w' gk (k*2) (ag (au x))/\aK w' gk (k*2+1) (ah (nt x.natAbs))) (λi=>Nat.blt i 7) [(0,true),(1,true),(2,true),(3,true),(4,true),(5,true),(6,true),(7,false)] zk zk rfl zk zc ⟨dY,wj,uK,uL⟩ ?_;iterate 7 (refine pT rfl rfl ?_ (by intro w' ⟨q0,q1,q2,q3⟩;go_simp;try with_reducible rfl))
          refine aP rfl rfl (λK hK=>?_);go_simp;refine hK _ _ (by first|exact λh=>absurd h zd|exact λ_=>⟨dY,wj,uK,uL⟩ |exact λ_=>⟨(by first|exact dY|exact aF zf dY|exact aF zf (aF zf dY) |exact aF zf (aF zf (aF zf dY))),(by first|exact wj|exact aF zf wj|exact aF zf (aF zf wj) |exact aF zf (aF zf (aF zf wj))),(by first|exact uK|exact aF zf uK|exact aF zf (aF zf uK) |exact aF zf (aF zf (aF zf uK))),(by first|exact uL|exact aF zf uL|exact aF zf (aF zf uL) |exact aF zf (aF zf (aF zf uL)))⟩) ?_
          simp only[bI];go_wp2;go_roundw;case rel=>exact⟨k+1,dc g k last,x,_,by omega,by go_num,rfl,Bs.next wI.out.drew (λ_ _ _ _=>rfl) kw HE2.out HBA.out Hn.out⟩
          case measure=>exact bf
  . obtain rfl:k=n:=by omega
    obtain⟨q1,q2,q3,_,q5,_,Q,hQ,DG,_⟩:=hS;have fq:=pL.out k Q (Nat.le_refl _) hQ;have hll:(nt last.natAbs).length<=1099511627776:=ju DG zo;rw[Nat.sub_self]at q5;unfold ez at q5;obtain⟨Hr,Hl,Hq,HZ,Hll⟩:=eV q2 q3 q1 q5 hll;clear q1 q2 q3 q5 hQ DG hll fq;have Hb:=hbz wk;obtain⟨ae,ai⟩:=qZ (Hr.an<|Hl.an trivial);have Ai:=Hq.out.2.2.1;cases t with
    | false=>
      have Hz:Hid (last=Z):=by have hz:=HZ.out;simp only[Bool.false_eq_true,if_false]at hz;exact hz
      go_wp2;have r0:wk.cell? ⟨w.heap.size,0,none⟩=some (ag false):=ae.1.out.cell 0;have r1:wk.cell? ⟨w.heap.size,1,none⟩=some (.string ⟨#[]⟩):=ae.1.out.cell 1;refine bodyPost_ret (v:=.agg #[ag (au last),ah (nt last.natAbs)]) (by simp[results,Tryz.results201,go_sem,r0,r1]) rfl ⟨by rw[Hz.out],?_⟩;exact(Ai.setCell zp _).setCell zp _
    | true=>
      have Hz:Hid (-last=Z):=by have hz:=HZ.out;simp only[if_true]at hz;exact hz
      have hneg:∀W,Cv 214 #[.agg #[ag (au last),ah (nt last.natAbs)]] W (cw (-last)):=λW=>by have:=ado (au last) (nt last.natAbs) W Hll.out;rw[dX]at this;exact this
      go_wp2_with fail;refine aJ (Hb.an ae) (hneg _) λw4 ae ai=>?_;clear hneg;go_wp2;have r0:w4.cell? ⟨w.heap.size,0,none⟩=some (ag false):=ae.2.1.out.cell 0;have r1:w4.cell? ⟨w.heap.size,1,none⟩=some (.string ⟨#[]⟩):=ae.2.1.out.cell 1;refine bodyPost_ret (v:=.agg #[ag (au (-last)),ah (nt (-last).natAbs)]) (by simp[results,Tryz.results201,go_sem,r0,r1]) rfl ⟨by rw[Hz.out],?_⟩;exact((Ai.trans (ae.1.out.mono (by have:=Hq.out.2.2.2;omega))).setCell zp _).setCell zp _
def aio (n l k:Nat)(f:Nat->Nat->Int)(last:Int)(t:Bool)(Q:Nat)(hk:k+l=n)(hl:last.natAbs<2^Q)(hf:∀a b,a<n->b<n->(f a b).natAbs<2^Q)(hex:fU n l k f last):(ez n l k f last t).natAbs<2^(2^l* (Q+1)):=by
 induction l generalizing k f last t Q with
 | zero=>
   unfold ez;have h1:2^Q<=2^(2^0* (Q+1)):=Nat.pow_le_pow_right zd zm;split
   . rw[Int.natAbs_neg];omega
   . omega
 | succ l ih=>
   unfold ez;unfold fU at hex;cases hp:oz f n k with
   |none=>exact Nat.pow_pos zd
   | some m=>
     rw[hp]at hex;simp only at hex⊢;have xO:=kF hp;obtain⟨g,hg⟩:∃g,g=bQ f k (k+m):=⟨_,rfl⟩;rw[<-hg]at hex⊢;have hkn:k<n:=by omega
     have gY:∀a b,a<n->b<n->(g a b).natAbs<2^Q:=by
      intro a b ha hb;rw[hg];unfold bQ;refine hf _ _ ?_ hb;split
      . omega
      . split
        . omega
        . exact ha
     have CY:2^Q<=2^(2*Q+1):=Nat.pow_le_pow_right zd zo;have e:2^(l+1) * (Q+1)=2^l* (2*Q+1+1):=by rw[Nat.pow_succ,Nat.mul_assoc];congr 1
     rw[e];refine ih (k+1) _ _ _ (2*Q+1) zo (Nat.lt_of_lt_of_le (gY k k hkn hkn) CY) (λa b ha hb=>?_) hex.2;unfold dc;split
     . rename_i h4
       have h5:=(Qz g k a b Q (gY a b ha hb) (gY k k hkn hkn) (gY a k ha hkn) (gY k b hkn hb)).2.2;rcases div_lt _ last _ h5 with h6|h6
       . exact h6
       . exact absurd (hex.1 a b h4.1 ha h4.2 hb) h6
     . exact Nat.lt_of_lt_of_le (gY a b ha hb) CY
def bW (D:List (List Dyadic))(i j:Nat):Dyadic:=(D.getD i []).getD j 0
def ar9 (D:List (List Dyadic))(n:Nat)(g:Dyadic->Int)(hl:D.length=n)(hr:∀r∈D,r.length=n):(D.map λr=>r.map g)=eo (λi j=>g (bW D i j)) n:=by
 apply List.ext_getElem
 . simp[eo,hl]
 . intro i h1 h2;have hi:i<D.length:=by simpa using h1
   have hri:=hr _ (List.getElem_mem hi);apply List.ext_getElem
   . simp[eo,hri]
   . intro j h3 h4;have hj:j<D[i].length:=by simpa using h3
     simp[eo,bW,List.getD_eq_getElem?_getD,hi,hj]
def We {D:List (List Dyadic)}{n i j:Nat}(hl:D.length=n)(hr:∀r∈D,r.length=n)(hi:i<n)(hj:j<n):∃r∈D,bW D i j∈r:=by
 have h1:i<D.length:=by omega
 have h2:j<D[i].length:=by rw[hr _ (List.getElem_mem h1)];exact hj
 refine⟨D[i],List.getElem_mem h1,?_⟩;have:bW D i j=D[i][j]:=by simp[bW,List.getD_eq_getElem?_getD,h1,h2]
 rw[this];exact List.getElem_mem h2
def MZ (a:Option Addr)(cap n:Nat)(rows:List (List Raw))(B:Nat)(D:List (List Dyadic))(X:Dyadic)(w:World)(hn:1<=n)(bH:n<=4)(hL:rows.length=n)(hrow:∀r∈rows,r.length=n)(ha:cC w a rows)
 (hfit:∀r∈rows,∀c∈r,Fit B c) (bL:1<=B) (hB:B<=1000000) (hT:aB w) (hD:(rows.map λr=>r.map dval)=D) (hX:dI n (bW D)=X):
 Cv 116 #[.slice a n cap] w (.tuple #[bK X,af 0]):=by
 obtain⟨low,jq⟩:=az (kZ 0 D);have hDl:D.length=n:=by rw[<-hD];simp[hL]
 have Ie:∀r∈D,r.length=n:=by intro r hr;rw[<-hD]at hr;obtain⟨x,hx,rfl⟩:=List.mem_map.1 hr;simpa using hrow x hx
 have rI:∀r∈D,∀d∈r,Sm B d:=by intro r hr d hd;rw[<-hD]at hr;obtain⟨x,hx,rfl⟩:=List.mem_map.1 hr;obtain⟨y,hy,rfl⟩:=List.mem_map.1 hd;exact(hfit x hx y hy).2
 have hlo:=Qk 0 D;rw[jq]at hlo;have hlb: -(B:Int)<=low:=by rw[<-jq];exact Qj 0 D _ zo (λr hr d hd=>(rI r hr d hd).parts.2.1)
 obtain⟨f,hf⟩:∃f:Nat->Nat->Int,f=λi j=>pk low (bW D i j):=⟨_,rfl⟩;have vF:(D.map λr=>r.map (pk low))=eo f n:=by rw[hf];exact ar9 D n (pk low) hDl Ie
 have hK:∀a b,a<n->b<n->(f a b).natAbs<2^(4*B):=by
  intro i j hi hj;obtain⟨r,hr,hm⟩:=We hDl Ie hi hj;obtain⟨s1,s2,s3⟩:=(rI r hr _ hm).parts;rw[hf];show(pk low (bW D i j)).natAbs<_
  unfold pk;rw[Int.natAbs_mul,Int.natAbs_pow,show 4*B=2*B+2*B by omega,Nat.pow_add];exact Nat.lt_of_lt_of_le (Nat.mul_lt_mul_of_pos_right s1 (Nat.pow_pos zd)) (Nat.mul_le_mul_left _ (Nat.pow_le_pow_right zd zo))
 have hent:∀i j,i<n->j<n->bW D i j=Dyadic.ofIntWithPrec (f i j) (-low):=by intro i j hi hj;obtain⟨r,hr,hm⟩:=We hDl Ie hi hj;rw[hf];exact(arq low _ (hlo.2 r hr _ hm)).symm
 have mU:=akf n hn bH f (bW D) (-low) hent;have hex:=Wj n hn bH f;have hzl:=aio n n 0 f 1 false (4*B) zo (Nat.one_lt_two_pow zo) hK hex;obtain⟨z,hz⟩:=az (ez n n 0 f 1 false);rw[hz]at hzl mU;have PU:(nt z.natAbs).length<=34359738368:=by refine ju hzl ?_;have:2^n<=2^4:=Nat.pow_le_pow_right zd bH;have:=Nat.mul_le_mul_right (4*B+1) this;omega
 obtain⟨e,he⟩:∃e:Int,low*n=e:=⟨_,rfl⟩;have heb: -4000000<=e/\e<=4000000:=by
  have hl0:=hlo.1;have hc:n=1\/n=2\/n=3\/n=4:=by omega
  rcases hc with rfl|rfl|rfl|rfl<;>omega
 have lQ:dval (au z,nt z.natAbs,e)=X:=by
  rw[<-hX,mU];show Dyadic.ofIntWithPrec (iv (au z) (nt z.natAbs)) (-e)=_
  rw[dX,<-he];congr 1;rw[Int.mul_comm,Int.mul_neg]
 obtain⟨nl,hnl⟩:=az (-low);have hw1:IntKind.i64.wrap (-nl)=low:=by rw[IntKind.wrap_i64];have:=hlo.1;omega
 have hw2:IntKind.i64.wrap (low* (n:Int))=e:=by rw[he,IntKind.wrap_i64];omega
 have hm0:tX rows=0:=by
  unfold tX;rw[if_neg];rintro(h|h)
  . omega
  . rw[List.any_eq_true]at h;obtain⟨r,hr,h⟩:=h;have:=hrow r hr;simp at h;omega
 have hch:=λW=>λ(h:cC W a rows)=>Qo a n cap rows W hL zo h;rw[hm0]at hch;have hsc:=λW=>λ(h:cC W a rows) (hT:aB W)=>acm a n cap n rows B low W hL zo zo hrow h hfit zo hT (by rw[hD];exact jq);rw[hD,vF,hnl]at hsc;have hbr:=λv W base=>λ(h:iF W base n (eo f n) n v) (h2:base<=W.heap.size)=>air base n (4*B) f v W hn bH h h2 zo hK zo;rw[hz]at hbr;have hmk:=λW=>λ(hT:aB W)=>tV (au z) (nt z.natAbs) e X lQ W PU zo hT;obtain⟨KN,jY,BC,jF,Ha,HT⟩:=ia hch hsc hbr hmk ha hT;clear hch hsc hbr hmk ha hT hm0 lQ heb he PU hz hzl hex mU hent hK vF hf hlb hlo rI Ie hDl jq hD hX hfit hrow hL hnl;have Hb:=hbz w;go_enter Tryz.func116,Tryz.ntmps116;go_wp2_with fail;refine bP w (Hb.an trivial) 45 [ag false,.string ⟨#[]⟩,af 0] λW aG ae ai=>?_;have HA:Hid (cC W a rows):=Ha.out.below ae.2.1.out;have HU:Hid (aB W):=HT.out.below ae.2.1.out;go_wp2_with fail;refine aJ (HA.an<|HU.an ae) (KN.out _ HA.out) λw1 ae ai=>?_;go_wp2_with fail;refine(jY.out _ ae.1.out ae.2.1.out).mono ?_;rintro e' w2 ⟨v,rfl,hO,hb2⟩;have HO:=aj hO;have yu:=hb2.size;clear hO;go_wp2_with fail;refine(BC.out v w2 w1.heap.size HO.out yu).mono ?_;rintro e' w3 ⟨rfl,hb3⟩;have hb4:=hb2.trans hb3;clear hb2 hb3 HO;obtain⟨ae,ai⟩:=qX hb4 ae;skip
 clear hb4;go_wp2_with fail;refine aJ ae (jF.out _ ae.2.1.out) λw4 ae ai=>?_;go_wp2;refine dA (aN w4 (w.heap.size) 0 (bo X)) aU ?_;intro w9 hs0;have ae:=bG hs0 ae;simp only[bA,List.set]at ae;have ai:=qC ae;refine bodyPost_ret (v:=.tuple #[bK X,af 0]) (by simp[results,Tryz.results116,go_sem,ai]) rfl ⟨rfl,ae.2.2.2.1.out⟩
end Go.Proofs.YtpfgffadgkkedaaGreatDoor
namespace Go.Proofs.YtpfgffadgkkedaaGreatDoor
open Go.RowKit
def fC (w:World)(base n:Nat)(R:List (List Dyadic))(k:Nat)(v:Value):Prop:=
 ∃vals:List Value,vals.length=k/\w.ownsRow base 29 1 v k vals/\(∀i (h:i<vals.length),w.ownsRow base 45 3 vals[i] n (dC (R.getD i [])))/\
  ∀i j (hi:i<vals.length) (hj:j<vals.length) g,vals[i].ownBlock=some g->vals[j].ownBlock=some g->i=j
def fC.nil (w:World)(base n:Nat)(R:List (List Dyadic)):fC w base n R 0 (.slice none 0 0):=
 ⟨[],rfl,World.ownsRow_nil _ _ _ _,λ_ h=>absurd h (Nat.not_lt_zero _),λ_ _ h=>absurd h (Nat.not_lt_zero _)⟩
def fC.below {w w':World}{base n k:Nat}{R:List (List Dyadic)}{v:Value}(h:fC w base n R k v)(hb:Bw w w'):fC w' base n R k v:=by obtain⟨vals,hl,ho,hi,hd⟩:=h;exact⟨vals,hl,ownsRow_below ho hb,λi h=>ownsRow_below (hi i h) hb,hd⟩
def fC.push {w w':World}{base n k:Nat}{R:List (List Dyadic)}{v v' x:Value}{vals:List Value}(hl:vals.length=k)(hov:w.ownsRow base 29 1 v k vals)(hi:∀i (h:i<vals.length),w.ownsRow base 45 3 vals[i] n (dC (R.getD i [])))
 (hd:∀i j (hi:i<vals.length) (hj:j<vals.length) g,vals[i].ownBlock=some g->vals[j].ownBlock=some g->i=j)
 (hx:w.ownsRow base 45 3 x n (dC (R.getD k []))) (eY:∀g,x.ownBlock=some g->∀i (h:i<vals.length),vals[i].ownBlock≠some g)
 (ho:w'.ownsRow base 29 1 v' (k+1) (vals++[x])) (hg:w.grownBy w' v.ownBlock):fC w' base n R (k+1) v':=by
 refine⟨_,by simp[hl],ho,λi h=>?_,λi j h1 h2 g e1 e2=>?_⟩
 . by_cases hk:i<vals.length
   . rw[List.getElem_append_left hk];exact(hi i hk).kept hg (EJ (hi i hk) hov zd)
   . have hik:i=k:=by simp at h;omega
     subst hik;rw[List.getElem_append_right zo];simp only[hl,Nat.sub_self,List.getElem_cons_zero];exact hx.kept hg (EJ hx hov zd)
 . by_cases k1:i<vals.length
   . rw[List.getElem_append_left k1]at e1;by_cases k2:j<vals.length
     . rw[List.getElem_append_left k2]at e2;exact hd i j k1 k2 g e1 e2
     . have hjk:j=k:=by simp at h2;omega
       subst hjk;rw[List.getElem_append_right zo]at e2;simp only[hl,Nat.sub_self,List.getElem_cons_zero]at e2;exact absurd e1 (eY g e2 i k1)
   . have hik:i=k:=by simp at h1;omega
     subst hik;rw[List.getElem_append_right zo]at e1;simp only[hl,Nat.sub_self,List.getElem_cons_zero]at e1;by_cases k2:j<vals.length
     . rw[List.getElem_append_left k2]at e2;exact absurd e2 (eY g e1 j k2)
     . simp at h2;omega
def fC.tbl {w:World}{base n k:Nat}{R:List (List Dyadic)}{v:Value}(h:fC w base n R k v)(hk:R.length=k)(hn:∀r∈R,r.length=n):∃a c,v=.slice a k c/\k<=c/\cC w a (R.map λr=>r.map canon):=by
 obtain⟨vals,hl,ho,hi,hd⟩:=h;obtain⟨a,c,hv,hat,_⟩:=cO ho;subst hv;refine⟨a,c,rfl,JH ho,vals,by simp[hl,hk],hat,λi h1 h2=>?_⟩;obtain⟨a1,c1,e1,e2,_⟩:=cO (hi i h2);have hi1:i<R.length:=by simpa using h1
 have eg:R.getD i []=R[i]:=by simp[hi1]
 rw[eg]at e2;refine⟨a1,c1,?_,?_⟩
 . rw[e1];simp[hn _ (List.getElem_mem hi1)]
 . rw[List.getElem_map,<-zP];exact e2
def ajY (ds:List Dyadic)(j:Nat)(hj:j<ds.length):(dC ds)[j*3]?=some (ag (au (dN ds[j])))/\(dC ds)[j*3+1]?=some (ah (nt (dN ds[j]).natAbs))/\(dC ds)[j*3+2]?=some (af (dE ds[j])):=by have h:=λi (hi:i<3)=>flat_get (λd=>aY (canon d)) 3 (λ_=>rfl) ds j i hj hi;unfold dC;exact⟨(h 0 zd),(h 1 zd),(h 2 zd)⟩
def fC.num {w:World}{base n L:Nat}{R:List (List Dyadic)}{v:Value}(h:fC w base n R L v)(i j:Nat)(hi:i<L)(hj:j<n)(hR:R.length=L)(hr:(R.getD i []).length=n):
 ∃go cap g c,v=.slice (some ⟨go,0,none⟩) L cap/\base<=go/\base<=g/\g≠go/\w.cell? ⟨go,i,none⟩=some (.slice (some ⟨g,0,none⟩) n c)/\
  aR w g (j*3) [ag (au (dN ((R.getD i []).getD j 0))),ah (nt (dN ((R.getD i []).getD j 0)).natAbs),af (dE ((R.getD i []).getD j 0))]/\(∀o,w.frozen? ⟨g,o,none⟩=false)/\
  ∀y:Dyadic,fC (((w.setCell ⟨g,j*3,none⟩ (ag (au (dN y)))).setCell ⟨g,j*3+1,none⟩ (ah (nt (dN y).natAbs))).setCell ⟨g,j*3+2,none⟩ (af (dE y))) base n (R.set i ((R.getD i []).set j y)) L v:=by
 obtain⟨vals,hl,ho,hv,hd⟩:=h;have hi2:i<vals.length:=by omega
 have hrow:=hv i hi2;have hxl:(dC (R.getD i [])).length=n*3:=by rw[ajZ,hr]
 obtain⟨a0,cap,rfl,_,_⟩:=cO ho;obtain⟨a1,c,e1,_,hab⟩:=cO hrow;rw[e1]at hrow;rcases ho.2 with⟨h1,_⟩ |⟨go,cap',cur,h1,im,hgo,_⟩
 . simp at h1;omega
 simp only[Value.slice.injEq,true_and]at h1;obtain⟨rfl,rfl⟩:=h1;have hrow2:=hrow;rcases hrow.2 with⟨h1,_⟩ |⟨g,c',cur',h1,hbg,hgg,_⟩
 . simp at h1;omega
 simp only[Value.slice.injEq,true_and]at h1;obtain⟨rfl,rfl⟩:=h1;have hne:g≠go:=by rintro rfl;rw[hgo]at hgg;simp at hgg
 have hat:=ajY (R.getD i []) j zo;have hg0:(R.getD i []).getD j 0=(R.getD i [])[j]'zo:=by rw[List.getD_eq_getElem?_getD,List.getElem?_eq_getElem zo];rfl
 have hc0:=lh hrow (j*3) zo;have hc1:=lh hrow (j*3+1) zo;have hc2:=lh hrow (j*3+2) zo;rw[<-List.getElem?_eq_getElem]at hc0 hc1 hc2;rw[hat.1]at hc0;rw[hat.2.1]at hc1;rw[hat.2.2]at hc2;refine⟨go,cap,g,c,rfl,im,hbg,hne,?_,by rw[hg0];exact jA hc0 hc1 hc2,λo=>?_,λy=>?_⟩
 . rw[lh ho i zo,e1]
 . have h4:ar w g 45 cur'.toList:=by unfold ar;simpa using hgg
   exact h4.free o
 . refine⟨vals,hl,?_,λm hm=>?_,hd⟩
   . have hn:∀(o:Nat) (u:Value) (W:World),W.ownsRow base 29 1 (.slice (some ⟨go,0,none⟩) L cap) L vals->(W.setCell ⟨g,o,none⟩ u).ownsRow base 29 1 (.slice (some ⟨go,0,none⟩) L cap) L vals:=λo u W h=>ownsRow_setCell_other h (by simpa[Value.ownBlock]using hne.symm) _;exact hn _ _ _ (hn _ _ _ (hn _ _ _ ho))
   . by_cases rO:m=i
     . subst rO;have hs:(R.set m ((R.getD m []).set j y)).getD m []=(R.getD m []).set j y:=by rw[List.getD_eq_getElem?_getD,List.getElem?_set_self zo];rfl
       rw[hs,e1,<-aj0];exact iZ (iZ (iZ hrow _ _) _ _) _ _
     . have hs:(R.set i ((R.getD i []).set j y)).getD m []=R.getD m []:=by rw[List.getD_eq_getElem?_getD,List.getElem?_set_ne (λe=>rO e.symm),<-List.getD_eq_getElem?_getD]
       rw[hs];have hno:vals[m].ownBlock≠some g:=λe=>rO (hd m i hm hi2 g e (by rw[e1];rfl));exact ownsRow_setCell_other (ownsRow_setCell_other (ownsRow_setCell_other (hv m hm) hno _) hno _) hno _
end Go.Proofs.YtpfgffadgkkedaaGreatDoor
namespace Go.Proofs.YtpfgffadgkkedaaGreatDoor
open Go.RowKit
attribute [local go_sem ↓] Go.wp_at_zero Go.wp_at_succ
end Go.Proofs.YtpfgffadgkkedaaGreatDoor
namespace Go.Proofs.YtpfgffadgkkedaaGreatDoor
abbrev UL:=List (List Nat×Dyadic)
def abP (g:List Nat->Dyadic):UL->Dyadic
 |[]=>0
 |p::ps=>p.2*g p.1+abP g ps
def delta (r x:List Nat):Dyadic:=if x=r then 1 else 0
def atZ (ps:UL)(r:List Nat):Dyadic:=abP (delta r) ps
def arY (x:List Nat)(k v:Nat)(hk:k<x.length):(x.set k v).sum+x.getD k 0=x.sum+v:=by
 induction x generalizing k with
 |nil=>simp at hk
 | cons a x ih=>
   cases k with
   |zero=>simp;omega
   |succ k=>have:=ih k (by simpa using hk);simp at this⊢;omega
abbrev Pr:=Dyadic ×Dyadic
def dm (s:Raw×Raw):Pr:=(dval s.1,dval s.2)
def spD (p:Pr):Raw×Raw:=(canon p.1,canon p.2)
def fG (p:Pr):Pr:=if 0<bg (p.1-p.2)then(p.2,p.1)else p
def wh (p:Pr):Dyadic:=(fG p).2-(fG p).1
def apA {p:Pr}(h:bg (p.1-p.2)<0):fG p=p:=by unfold fG;rw[if_neg zo]
def jG (bx:List Pr):Int:=if bx=[]then 1 else if bx.any (λp=>decide (0<=bg (p.1-p.2)))then 5 else 0
def VY (X:Dyadic):0<bg X↔0<X:=by
 have h1:=sW X;have h2:=Nc X;constructor
 . intro h;have a1:¬X<0:=λhx=>by have:=h1.2 hx;omega
   have a2:X≠0:=λhx=>by have:=h2.2 hx;omega
   grind
 . intro h;have a1:¬bg X<0:=λhx=>by have:=h1.1 hx;grind
   have a2:bg X≠0:=λhx=>by have:=h2.1 hx;grind
   omega
def yo {B:Nat}{p:Pr}(h:Sm B p.1/\Sm B p.2):Sm B (fG p).1/\Sm B (fG p).2:=by
 unfold fG;split
 . exact⟨h.2,h.1⟩
 . exact h
def as3 {B:Nat}{p:Pr}(h:Sm B p.1/\Sm B p.2):Sm (B+1) (wh p):=Sm.sub (yo h).2 (yo h).1
end Go.Proofs.YtpfgffadgkkedaaGreatDoor
