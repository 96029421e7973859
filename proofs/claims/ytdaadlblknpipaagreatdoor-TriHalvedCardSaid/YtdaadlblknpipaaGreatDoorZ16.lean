/- mat.bareiss,the walk: the determinant of whole numbers,up to four sides. -/
import Derived.Test.YtdaadlblknpipaaGreatDoorZ14
import Derived.Test.YtdaadlblknpipaaGreatDoorZ7
import Derived.Test.YtdaadlblknpipaaGreatDoorZ10
import Derived.Test.YtdaadlblknpipaaGreatDoorZ13
set_option linter.unusedVariables false
set_option linter.unusedSimpArgs false
set_option maxRecDepth 100000
set_option maxHeartbeats 16000000
namespace Go.Proofs.YtdaadlblknpipaaGreatDoor
open Go.RowKit
attribute [local go_sem ↓] Go.wp_at_zero Go.wp_at_succ
def Bs (w0 w : World) (base n go cap top r l K : Nat) (Z : Int) (k : Nat) (f : Nat -> Nat -> Int) (last : Int) (t : Bool) : Prop:=
 BS w0 w base n go cap top f /\ ai w r 28 [.bool false,.string ⟨#[]⟩] /\ ai w l 28 [.bool (ar last),.string (bs (nt last.natAbs))] /\ fF n (n - k) k f last /\ dV n (n - k) k f last t = Z /\ last ≠ 0 /\
  ∃ Q,Q + 1 <= 2 ^ k * (K + 1) /\ last.natAbs < 2 ^ Q /\ ∀ a b,a < n -> b < n -> (f a b).natAbs < 2 ^ Q
theorem ajk (f : Nat -> Nat -> Int) (k : Nat) : bN f k (k + 0) = f:=by
 funext a b;unfold bN
 simp only [Nat.add_zero];by_cases h : a = k
 . rw [if_pos h,h]
 . rw [if_neg h,if_neg h]
theorem Bs.none {w0 w : World} {base n go cap top r l K k : Nat} {Z : Int} {f : Nat -> Nat -> Int} {last : Int} {t : Bool} (h : Bs w0 w base n go cap top r l K Z k f last t) (hk : k < n) (hp : mr f n k = none) : Z = 0:=by obtain ⟨_,_,_,_,h2,_⟩:=h;rw [show n - k = n - (k + 1) + 1 by omega] at h2;unfold dV at h2;rw [hp] at h2;exact h2.symm
theorem Bs.some {w0 w : World} {base n go cap top r l K k m : Nat} {Z : Int} {f : Nat -> Nat -> Int} {last : Int} {t : Bool} (h : Bs w0 w base n go cap top r l K Z k f last t) (hk : k < n) (hp : mr f n k = some m) :
 ∃ g,g = bN f k (k + m) /\ g k k ≠ 0 /\ (∀ a b,k < a -> a < n -> k < b -> b < n -> last ∣ bS g k a b) /\ fF n (n - (k + 1)) (k + 1) (cW g k last) (g k k) /\ dV n (n - (k + 1)) (k + 1) (cW g k last) (g k k) (t != decide (0 < m)) = Z /\
  ∃ Q,2 * Q + 2 <= 2 ^ (k + 1) * (K + 1) /\ last.natAbs < 2 ^ Q /\ (∀ a b,a < n -> b < n -> (g a b).natAbs < 2 ^ Q) /\ (g k k).natAbs < 2 ^ (2 * Q + 1) /\ ∀ a b,a < n -> b < n -> (cW g k last a b).natAbs < 2 ^ (2 * Q + 1):=by
 obtain ⟨_,_,_,h1,h2,h3,Q,hQ,hl,hf⟩:=h;have AW:=jC hp;rw [show n - k = n - (k + 1) + 1 by omega] at h1 h2;unfold fF at h1;unfold dV at h2;rw [hp] at h1 h2;simp only at h1 h2;obtain ⟨g,hg⟩ : ∃ g,g = bN f k (k + m):=⟨_,rfl⟩;rw [<- hg] at h1 h2;have gA : ∀ a b,a < n -> b < n -> (g a b).natAbs < 2 ^ Q:=by
  intro a b ha hb;rw [hg];unfold bN;refine hf _ _ ?_ hb;split
  . omega
  . split
    . omega
    . exact ha
 have Ak : 2 ^ Q <= 2 ^ (2 * Q + 1):=Nat.pow_le_pow_right zd zo;refine ⟨g,hg,?_,h1.1,h1.2,h2,Q,?_,hl,gA,Nat.lt_of_lt_of_le (gA k k hk hk) Ak,fun a b ha hb=>?_⟩
 . rw [hg];unfold bN;rw [if_pos rfl];exact AW.2
 . rw [Nat.pow_succ];have : 2 ^ k * 2 * (K + 1) = 2 * (2 ^ k * (K + 1)):=by rw [Nat.mul_comm (2 ^ k) 2,Nat.mul_assoc]
   omega
 . unfold cW;split
   . rename_i h4
     have h5:=(LM g k a b Q (gA a b ha hb) (gA k k hk hk) (gA a k ha hk) (gA k b hk hb)).2.2;rcases div_lt _ last _ h5 with h6 | h6
     . exact h6
     . exact absurd (h1.1 a b h4.1 ha h4.2 hb) h6
   . exact Nat.lt_of_lt_of_le (gA a b ha hb) Ak
theorem Bs.next {w0 w : World} {base n go cap top r l kb K k : Nat} {Z : Int} {f g : Nat -> Nat -> Int} {x : Int} {t : Bool} (h : BT w0 w base n go cap top f r l kb x k) (hf : ∀ a b,a < n -> b < n -> f a b = g a b) (hx : x ≠ 0) (h1 : fF n (n - (k + 1)) (k + 1) g x) (h2 : dV n (n - (k + 1)) (k + 1) g x t = Z)
 (h3 : ∃ Q,Q + 1 <= 2 ^ (k + 1) * (K + 1) /\ x.natAbs < 2 ^ Q /\ ∀ a b,a < n -> b < n -> (g a b).natAbs < 2 ^ Q) : Bs w0 w base n go cap top r l K Z (k + 1) g x t:=
 ⟨(h.congr hf).1,h.2.1,h.2.2.1,h1,h2,hx,h3⟩
def CU (a0 : Act) (w0 : World) (cs : List (Addr × Value)) (x1 x2 x3 x4 P1 P2 N : Int) (dn : Nat -> Bool) (a : Act) (w : World) : Prop:=
 ∃ v1 v2 v3 v4 v5 v6 : Value,a = (((((a0.put (some 76) v1).put (some 77) v2).put (some 92) v3).put (some 93) v4).put (some 94) v5).put (some 10) v6 /\ ib cs w /\ Bw w0 w /\
  (dn 14 = true -> ∃ b,v1 = .slice (some ⟨b,0,none⟩) 2 2 /\ ai w b 28 [.bool (ar x1),.string (bs (nt x1.natAbs)),.bool (ar x2),.string (bs (nt x2.natAbs))]) /\ (dn 15 = true -> v2 = cp P1) /\
  (dn 30 = true -> ∃ b,v3 = .slice (some ⟨b,0,none⟩) 2 2 /\ ai w b 28 [.bool (ar x3),.string (bs (nt x3.natAbs)),.bool (ar x4),.string (bs (nt x4.natAbs))]) /\ (dn 31 = true -> v4 = cp P2) /\ (dn 32 = true -> v5 = cp N) /\
  (dn 33 = true -> ∃ b,v6 = .pointer (some ⟨b,0,none⟩) /\ w0.heap.size <= b /\ ai w b 28 [.bool false,.string ⟨#[]⟩])
theorem CU.init (a : Act) (w0 w : World) (cs : List (Addr × Value)) (x1 x2 x3 x4 P1 P2 N : Int) (hk : ib cs w) (hb : Bw w0 w) : CU a w0 cs x1 x2 x3 x4 P1 P2 N (fun _=>false) a w:=
 ⟨a.tmps.getD 76 undef,a.tmps.getD 77 undef,a.tmps.getD 92 undef,a.tmps.getD 93 undef,a.tmps.getD 94 undef,a.tmps.getD 10 undef,by rw [yc,yc,yc,yc,yc,yc],hk,hb,(fun h=>by cases h),(fun h=>by cases h),(fun h=>by cases h),(fun h=>by cases h),(fun h=>by cases h),(fun h=>by cases h)⟩
theorem abg (base n K : Nat) (f : Nat -> Nat -> Int) (v : Value) (w : World) (hn : 1 <= n) (bj : n <= 4) (hO : gP w base n (dS f n) n v) (dK : base <= w.heap.size) (xk : 1 <= K) (hK : ∀ a b,a < n -> b < n -> (f a b).natAbs < 2 ^ K) (hK2 : K <= 100000000) :
 Calls Tryz.prog 88 #[v] w fun e w'=>e = .returned (cp (dV n n 0 f 1 false)) /\ Below base w w':=by
 obtain ⟨go,cap,rfl,hcap,hbs⟩:=BS.begin hO hn;obtain ⟨Z,hZ⟩ : ∃ Z,dV n n 0 f 1 false = Z:=⟨_,rfl⟩;have hex:=Qr n hn bj f;have hsz : ∀ k Q : Nat,k <= n -> Q + 1 <= 2 ^ k * (K + 1) -> Q <= 1800000000:=by intro k Q h1 h2;have h3 : 2 ^ k <= 2 ^ 4:=Nat.pow_le_pow_right zd zo;have h4:=Nat.mul_le_mul_right (K + 1) h3;omega
 rw [hZ];have NN:=ah hbs;have HZ:=ah hZ;have NW:=ah hex;have uC:=ah hsz;have HK:=ah hK;clear hO hbs hZ hex hsz hK;have Hb : Hid (Bw w w):=Below.refl _ _;go_enter Tryz.func88,Tryz.ntmps88;go_wp2_with fail;obtain ⟨R,hR⟩ : ∃ R : World -> Prop,(fun W=>ai W (w.heap.size) 28 [.bool false,.string ⟨#[]⟩] /\ Bw w W) = R:=⟨_,rfl⟩;first | refine bE R ?hR ?_ | refine bC R ?hR ?_
 case hR=>subst hR;exact ⟨(ai.newAt w _ _ (b:=w.heap.size) rfl),zl⟩
 subst hR;rintro W ⟨qr,ae⟩;have Hr:=ah qr;clear qr;obtain ⟨r0,aj,r1,ak⟩:=Hr.out.g2;replace Hb:=au Hb ae;clear ae;go_wp2_with fail;refine (ML 1 _ zd zd).mono ?_;rintro e w1 ⟨rfl,ae⟩;clear r0 aj r1 ak;replace Hr:=kB Hr ae;obtain ⟨r0,aj,r1,ak⟩:=Hr.out.g2;replace Hb:=au Hb ae;clear ae;have vK:=Hr.out.lt;obtain ⟨W2,dW⟩ : ∃ W2,(w1.alloc (.cells #[.bool (ar 1),.string (bs (nt 1))] 28)) = W2:=⟨_,rfl⟩;have ae : Bw w1 W2:=by rw [<- dW];exact zl
 clear r0 aj r1 ak;replace Hr:=kB Hr ae;have Hl : Hid (ai W2 (w1.heap.size) 28 [.bool (ar 1),.string (bs (nt 1))]):=by rw [<- dW];exact ai.newAt _ _ _ zm
 obtain ⟨r0,aj,r1,ak⟩:=Hr.out.g2;obtain ⟨l0,nS,l1,nU⟩:=Hl.out.g2;replace Hb:=au Hb ae;clear ae;have Nh:=ah (NN.out.below Hb.out zo);have aeS : w.heap.size < w1.heap.size:=vK;have hq0:=Hr.out;have hq1:=Hl.out;clear r0 r1 aj ak l0 l1 nS nU;have hst : Bs w W2 base n go cap w.heap.size w.heap.size w1.heap.size K Z 0 f 1 false:=⟨Nh.out,hq0,hq1,NW.out,HZ.out,by decide,K,by omega,by rw [show (1 : Int).natAbs = 1 from rfl];exact Nat.one_lt_two_pow zo,HK.out⟩;clear hq0 hq1;have cd:=ah hst;have szW:=Hb.out.size;clear hst Nh Hb Hr Hl NN HK NW HZ;go_wp2_with fail;go_loopw [5,15] (fun s5 x wr=>∃ (k : Nat) (f' : Nat -> Nat -> Int) (last : Int) (t : Bool),k <= n /\ x = .int .i64 (k : Int) /\ s5 = .bool t /\ Bs w wr base n go cap w.heap.size w.heap.size w1.heap.size K Z k f' last t) (fun _ x _=>n - (intOf x).toNat);case atStart=>exact ⟨0,f,1,false,Nat.zero_le _,rfl,rfl,cd.out⟩
 case round=>
  clear cd;obtain ⟨k,f',last,t,hk,rfl,rfl,hS⟩:=hrel;obtain ⟨wk,hwk⟩ : ∃ wk,wk = wr:=⟨_,rfl⟩;subst hwk;by_cases hlt : k < n
  . obtain ⟨Q0,Ri,_,Rk⟩:=hS.2.2.2.2.2.2;have eX:=uC.out k Q0 hk Ri;have hlen : ∀ a b,a < n -> b < n -> (nt (f' a b).natAbs).length <= 1099511627776:=fun a b ha hb=>iW (Rk a b ha hb) zo;have hkc : k < cap:=by omega
    have HS:=ah hS;have lK:=ah hlen;have yl:=hS.1.2.2.2;clear hS Ri Rk eX hlen;have Hb : Hid (Bw wk wk):=Below.refl _ _;have Hr:=ah HS.out.2.1;have Hl:=ah HS.out.2.2.1;obtain ⟨r0,aj,r1,ak⟩:=Hr.out.g2;obtain ⟨l0,nS,l1,nU⟩:=Hl.out.g2;have ES:=Hr.out.lt;have ags:=Hl.out.lt;obtain ⟨W3,ol⟩ : ∃ W3,(wk.alloc (.cells #[.int .i64 (k : Int)] 3)) = W3:=⟨_,rfl⟩;have ae : Bw wk W3:=by rw [<- ol];exact zl
    clear r0 aj r1 ak;replace Hr:=kB Hr ae;clear l0 nS l1 nU;replace Hl:=kB Hl ae;have kX : Hid (ai W3 (wk.heap.size) 3 [.int .i64 (k : Int)]):=by rw [<- ol];exact ai.newAt _ _ _ zm
    obtain ⟨r0,aj,r1,ak⟩:=Hr.out.g2;obtain ⟨l0,nS,l1,nU⟩:=Hl.out.g2;have dx:=kX.out.c1;replace Hb:=au Hb ae;clear ae;have iM:=ah (HS.out.1.below Hb.out zo);go_wp2_with fail;refine (iM.out.index k wk.heap.size hlt zo dx lK.out).mono ?_;rintro e w4 ⟨rfl,ae⟩;clear r0 aj r1 ak l0 nS l1 nU dx;replace Hr:=kB Hr ae;replace Hl:=kB Hl ae;replace kX:=kB kX ae;obtain ⟨r0,aj,r1,ak⟩:=Hr.out.g2;obtain ⟨l0,nS,l1,nU⟩:=Hl.out.g2;have dx:=kX.out.c1;replace Hb:=au Hb ae;clear ae;cases hp : mr f' n k with
    | none =>
      have hpv : Bz f' n k = -1:=by unfold Bz;rw [hp]
      have hz:=HS.out.none hlt hp;rw [hpv];have XR:=ah (HS.out.1.2.2.1.trans (Hb.out.mono zo));clear HS lK iM hp;go_wp2;refine bodyPost_ret (v:=.agg #[.bool false,.string ⟨#[]⟩]) (by simp [results,Tryz.results88,go_sem,r0,r1]) rfl ⟨by rw [hz];rfl,?_⟩;exact (XR.out.setCell zp _).setCell zp _
    | some m =>
      have hpv : Bz f' n k = (m : Int):=by unfold Bz;rw [hp]
      rw [hpv];obtain ⟨sU,_⟩:=jC hp;obtain ⟨g,hg,mP,kE,Sn,RY,Q,hQ,AK,gA,SB,TK⟩:=HS.out.some hlt hp;have hl0:=HS.out.2.2.2.2.2.1;have uU : BT w w4 base n go cap w.heap.size f' w.heap.size w1.heap.size wk.heap.size last k:=⟨HS.out.1.below Hb.out zo,Hr.out,Hl.out,kX.out,by omega,Nat.le_refl _,by omega,by omega⟩;have rU:=ah uU;have Yb:=ah kE;have NY:=ah Sn;have NL:=ah RY;have HQ:=ah hQ;have Om:=ah AK;have Oe:=ah gA;have Oh:=ah SB;have OP:=ah TK;have Hg:=ah hg;have CG:=ah mP;have mC:=ah hl0;clear uU kE Sn RY hQ AK gA SB TK hg mP hl0 hpv hp HS lK iM Hb Hr Hl kX r0 r1 aj ak l0 l1 nS nU dx;have hm0 : ¬ (m : Int) < 0:=by omega
      go_upto_if 27 with fail
      go_cut [5] (fun s5 wx=>s5 = .bool (t != decide (0 < m)) /\ BT w wx base n go cap w.heap.size g w.heap.size w1.heap.size wk.heap.size last k);case first=>
       by_cases hm : 0 < m
       . have rq : (0 : Int) < (m : Int):=by omega
         obtain ⟨g1,c1,g2,c2,e1,e2,e3,hsw⟩:=rU.out.swap k (k + m) hlt zo;rw [<- Hg.out] at hsw;have Ie:=ah hsw;have kG:=xI n cap k (k : Int) (rfl : (some ⟨go,0,none⟩ : Option Addr) = _) hlt rfl;have oC:=xI n cap (k + m) ((k + m : Nat) : Int) (rfl : (some ⟨go,0,none⟩ : Option Addr) = _) zo rfl;rw [Nat.zero_add,Nat.mul_one] at kG oC;have hwm : IntKind.i64.wrap ((k : Int) + (m : Int)) = ((k + m : Nat) : Int):=by rw [IntKind.wrap_i64];omega
         obtain ⟨km,rp⟩ : ∃ km,k + m = km:=⟨_,rfl⟩;rw [rp] at e2 oC hwm Ie;have kX:=ah rU.out.2.2.2.1;have Hxa : Hid (bo w4 go k [.slice (some ⟨g1,0,none⟩) n c1]):=fun j hj=>by
          obtain rfl : j = 0:=by simp at hj;omega
          exact e1
         have Hxb : Hid (bo w4 go km [.slice (some ⟨g2,0,none⟩) n c2]):=fun j hj=>by
          obtain rfl : j = 0:=by simp at hj;omega
          exact e2
         have z1 : w4.drew.frozen? ⟨go,k,none⟩ = false:=e3 k;have z2 : w4.drew.frozen? ⟨go,km,none⟩ = false:=e3 km;have z3 : w4.frozen? ⟨go,km,none⟩ = false:=e3 km;have y2 : (w4.setCell ⟨go,k,none⟩ (.slice (some ⟨g2,0,none⟩) n c2)).cell? ⟨go,km,none⟩ = some (.slice (some ⟨g2,0,none⟩) n c2):=aF (.inr zp) e2;have Hkm:=ah rp;clear hsw e1 e2 e3 rp;go_wp2_with fail;have dx:=kX.out.c1;have xa0:=Hxa.out.w1;have xb0:=Hxb.out.w1;have hgo : go < wk.heap.size:=by have:=rU.out.1.2.1.1;omega
         refine MU (fun w'=>w'.cell? ⟨wk.heap.size,0,none⟩ = some (.int .i64 (k : Int))) (fun i=>Nat.blt i 19) (.rd 0 (.rd 1 (.rd 2 (.rd 3 (.rd 4 (.rd 5 (.rd 6 (.rd 7 (.rd 8 (.rd 9 (.rd 10 (.rd 12 (.rd 13 (.rd 14 (.br 11 15 (.lin [(15,false),(16,true),(17,false),(18,false),(19,false)]) (.lin [(11,false),(16,true),(17,false),(18,false),(19,false)])))))))))))))))) zk zk rfl zk zc dx ?_;iterate 14 (refine VE rfl rfl (v:=?_) (fun w' hw'=>?_) ?_;rotate_left;(focus go_simp;try with_reducible rfl);try simp only [UU])
         refine Fp rfl rfl rfl rfl rfl rfl  (fun K hK=>?_) (fun K hK=>?_) 
         . go_simp;refine hK _ _ (by first | exact fun _=>dx | exact fun _=>eQ zg dx) ?_;clear hK K;try simp only [UU]
           refine vV ?_;refine aH rfl rfl (fun K hK=>?_);go_simp;refine hK _ _ (by first | exact fun h=>absurd h zd | exact fun _=>dx | exact fun _=>eQ zg dx) ?_;clear hK K;try simp only [UU]
           refine pT rfl rfl ?_;try simp only [UU]
           refine aH rfl rfl (fun K hK=>?_);go_simp;refine hK _ _ (by first | exact fun h=>absurd h zd | exact fun _=>dx | exact fun _=>eQ zg dx) ?_;clear hK K;try simp only [UU]
           refine aH rfl rfl (fun K hK=>?_);go_simp;refine hK _ _ (by first | exact fun h=>absurd h zd | exact fun _=>dx | exact fun _=>eQ zg dx) ?_;clear hK K;try simp only [UU]
           refine aH rfl rfl (fun K hK=>?_);go_simp;refine hK _ _ (by first | exact fun h=>absurd h zd | exact fun _=>dx | exact fun _=>eQ zg dx) ?_;clear hK K;try simp only [UU]
           simp only [aU];go_wp2_with fail;go_meet;exact ⟨by simp [hm],Ie.out.drew⟩
         . go_simp;refine hK _ _ (by first | exact fun _=>dx | exact fun _=>eQ zg dx) ?_;clear hK K;try simp only [UU]
           refine vV ?_;refine aH rfl rfl (fun K hK=>?_);go_simp;refine hK _ _ (by first | exact fun h=>absurd h zd | exact fun _=>dx | exact fun _=>eQ zg dx) ?_;clear hK K;try simp only [UU]
           refine pT rfl rfl ?_;try simp only [UU]
           refine aH rfl rfl (fun K hK=>?_);go_simp;refine hK _ _ (by first | exact fun h=>absurd h zd | exact fun _=>dx | exact fun _=>eQ zg dx) ?_;clear hK K;try simp only [UU]
           refine aH rfl rfl (fun K hK=>?_);go_simp;refine hK _ _ (by first | exact fun h=>absurd h zd | exact fun _=>dx | exact fun _=>eQ zg dx) ?_;clear hK K;try simp only [UU]
           refine aH rfl rfl (fun K hK=>?_);go_simp;refine hK _ _ (by first | exact fun h=>absurd h zd | exact fun _=>dx | exact fun _=>eQ zg dx) ?_;clear hK K;try simp only [UU]
           simp only [aU];go_wp2_with fail;go_meet;exact ⟨by simp [hm],Ie.out.drew⟩
       . have hm2 : ¬ (0 : Int) < (m : Int):=by omega
         obtain rfl : m = 0:=by omega
         go_wp2_with fail;go_meet;refine ⟨by simp,?_⟩;rw [Hg.out,ajk];exact rU.out
      case rest=>
       obtain ⟨rfl,uU⟩:=hcut;have rU:=ah uU;have eX:=uC.out (k + 1) (2 * Q + 1) zo (by have:=HQ.out;omega);clear uU;have dx : wc.cell? ⟨wk.heap.size,0,none⟩ = some (.int .i64 (k : Int)):=rU.out.2.2.2.1.cell 0;go_wp2_with fail;go_loopw [8] (fun x wr=>∃ i : Nat,k < i /\ i <= n /\ x = .int .i64 (i : Int) /\ BT w wr base n go cap w.heap.size (jd g k last i (k + 1)) w.heap.size w1.heap.size wk.heap.size last k) (fun x _=>n - (intOf x).toNat);case atStart=>exact ⟨k + 1,by omega,by omega,by go_num,by rw [ahJ];exact rU.out⟩
       case round=>
        clear dx rU;obtain ⟨i,oD,hin,rfl,hT⟩:=hrel;have yI:=ah hT;clear hT;have dx : wr.cell? ⟨wk.heap.size,0,none⟩ = some (.int .i64 (k : Int)):=yI.out.2.2.2.1.cell 0;by_cases bi : i < n
        . obtain ⟨wi,pH⟩ : ∃ wi,wi = wr:=⟨_,rfl⟩;subst pH;go_wp2_with fail;go_loopw [9] (fun x wr=>∃ j : Nat,k < j /\ j <= n /\ x = .int .i64 (j : Int) /\ BT w wr base n go cap w.heap.size (jd g k last i j) w.heap.size w1.heap.size wk.heap.size last k) (fun x _=>n - (intOf x).toNat);case atStart=>exact ⟨k + 1,by omega,by omega,by go_num,yI.out⟩
          case round=>
           clear dx yI;obtain ⟨j,hkj,hjn,rfl,hT⟩:=hrel;by_cases fX : j < n
           . have wB:=ah hT;clear hT;obtain ⟨gi,ci,li,ti,ei,ri,_⟩:=wB.out.row i bi;obtain ⟨gk,ck,lk,tk,ek,rk,_⟩:=wB.out.row k hlt;obtain ⟨p1,p2,p3,p4⟩:=ahG g k last i j;obtain ⟨aa,CW⟩:=ri j fX;obtain ⟨ab,CZ⟩:=rk k hlt;obtain ⟨ac,Da⟩:=ri k hlt;obtain ⟨ad,Db⟩:=rk j fX;rw [p1] at aa CW;rw [p2] at ab CZ;rw [p3] at ac Da;rw [p4] at ad Db;have gA:=Oe.out;have q1:=gA i j bi fX;have q2:=gA k k hlt hlt;have q3:=gA i k bi hlt;have q4:=gA k j hlt fX;obtain ⟨m1,m2,m3⟩:=LM g k i j Q q1 q2 q3 q4;have kE:=Yb.out i j oD bi hkj fX;have Te:=fun a b=>congrFun (congrFun (ahH g k last i j oD hkj) a) b;have hN : g i j * g k k - g i k * g k j = bS g k i j:=rfl;generalize bS g k i j = N at *;obtain ⟨x1,hx1⟩ : ∃ x,g i j = x:=⟨_,rfl⟩;obtain ⟨x2,hx2⟩ : ∃ x,g k k = x:=⟨_,rfl⟩;obtain ⟨x3,hx3⟩ : ∃ x,g i k = x:=⟨_,rfl⟩;obtain ⟨x4,Ua⟩ : ∃ x,g k j = x:=⟨_,rfl⟩;rw [hx1] at q1 m1 hN aa CW;rw [hx2] at q2 m1 hN ab CZ;rw [hx3] at q3 m2 hN ac Da;rw [Ua] at q4 m2 hN ad Db;obtain ⟨P1,JE⟩ : ∃ x,x1 * x2 = x:=⟨_,rfl⟩;obtain ⟨P2,nY⟩ : ∃ x,x3 * x4 = x:=⟨_,rfl⟩;rw [JE] at m1 hN;rw [nY] at m2 hN;have L1 : (nt x1.natAbs).length <= 17179869184:=iW q1 zo;have L2 : (nt x2.natAbs).length <= 17179869184:=iW q2 zo;have L3 : (nt x3.natAbs).length <= 17179869184:=iW q3 zo;have L4 : (nt x4.natAbs).length <= 17179869184:=iW q4 zo;have L5 : (nt P1.natAbs).length <= 34359738368:=iW m1 zo;have L6 : (nt P2.natAbs).length <= 34359738368:=iW m2 zo;have L7 : (nt N.natAbs).length <= 34359738368:=iW m3 zo;have L8 : (nt last.natAbs).length <= 34359738368:=iW Om.out zo;have iN:=ah L1;have Nr:=ah L2;have yx:=ah L3;have Ns:=ah L4;have Nt:=ah L5;have Nu:=ah L6;have Nv:=ah L7;have Nw:=ah L8;have cQ:=ah JE;have cS:=ah nY;have HN:=ah hN;have Gp:=ah kE;have Oy:=ah Te;clear L1 L2 L3 L4 L5 L6 L7 L8 JE nY hN kE Te q1 q2 q3 q4 m1 m2 m3 hx1 hx2 hx3 Ua gA p1 p2 p3 p4 ri rk;have Ce : ∀ (b o : Nat) (u v : Value),wr.cell? ⟨b,o,none⟩ = some u -> wr.cell? ⟨b,o + 1,none⟩ = some v -> bo wr b o [u,v]:=by
              intro b o u v h1 h2 j hj;rcases j with _ | _ | j
              . exact h1
              . exact h2
              . simp at hj;omega
             have MR : ∀ (b o : Nat) (u : Value),wr.cell? ⟨b,o,none⟩ = some u -> bo wr b o [u]:=by
              intro b o u h1 j hj;obtain rfl : j = 0:=by simp at hj;omega
              exact h1
             have kX:=ah wB.out.2.2.2.1;have sk:=ah (MR _ _ _ ei);have uE:=ah (MR _ _ _ ek);have rT:=ah (Ce _ _ _ _ aa CW);have jG:=ah (Ce _ _ _ _ ab CZ);have Ga:=ah (Ce _ _ _ _ ac Da);have uk:=ah (Ce _ _ _ _ ad Db);clear MR Ce ei ek aa CW ab CZ ac Da ad Db;have ixi:=xI n cap i (i : Int) (rfl : (some ⟨go,0,none⟩ : Option Addr) = _) bi rfl;have Ut:=xI n cap k (k : Int) (rfl : (some ⟨go,0,none⟩ : Option Addr) = _) hlt rfl;rw [Nat.zero_add,Nat.mul_one] at ixi Ut;have EN:=rD n ci j (j : Int) (rfl : (some ⟨gi,0,none⟩ : Option Addr) = _) fX rfl;have Un:=rD n ci k (k : Int) (rfl : (some ⟨gi,0,none⟩ : Option Addr) = _) hlt rfl;have Uo:=rD n ck j (j : Int) (rfl : (some ⟨gk,0,none⟩ : Option Addr) = _) fX rfl;have Uq:=rD n ck k (k : Int) (rfl : (some ⟨gk,0,none⟩ : Option Addr) = _) hlt rfl;rw [Nat.zero_add] at EN Un Uo Uq;go_upto_region 18 with fail
             go_cut [10] (fun BR wx=>∃ b : Nat,BR = .pointer (some ⟨b,0,none⟩) /\ ai wx b 28 [.bool (ar N),.string (bs (nt N.natAbs))] /\ Bw wr wx);case first=>
              clear Oe HQ Om Oh OP Hg NL NY Oy Gp CG wB;obtain ⟨w0,hw0⟩ : ∃ w0,w0 = w:=⟨_,rfl⟩;subst hw0;obtain ⟨w,KZ⟩ : ∃ w,w = wr:=⟨_,rfl⟩;subst KZ;have Hb : Hid (Bw w w):=Below.refl _ _;have dx:=kX.out.c1;have oN:=sk.out.w1;have uf:=uE.out.w1;obtain ⟨CX,CY⟩:=rT.out.w2;obtain ⟨sw,sA⟩:=jG.out.w2;obtain ⟨ac0,ac1⟩:=Ga.out.w2;obtain ⟨ad0,ad1⟩:=uk.out.w2;obtain ⟨cs,hcs⟩ : ∃ cs : List (Addr × Value),[(⟨wk.heap.size,0,none⟩,.int .i64 (k : Int)),(⟨go,i,none⟩,.slice (some ⟨gi,0,none⟩) n ci),(⟨go,k,none⟩,.slice (some ⟨gk,0,none⟩) n ck),(⟨gi,j * 2,none⟩,.bool (ar x1)),(⟨gi,j * 2 + 1,none⟩,.string (bs (nt x1.natAbs))),(⟨gk,k * 2,none⟩,.bool (ar x2)),(⟨gk,k * 2 + 1,none⟩,.string (bs (nt x2.natAbs))),(⟨gi,k * 2,none⟩,.bool (ar x3)),(⟨gi,k * 2 + 1,none⟩,.string (bs (nt x3.natAbs))),(⟨gk,j * 2,none⟩,.bool (ar x4)),(⟨gk,j * 2 + 1,none⟩,.string (bs (nt x4.natAbs)))] = cs:=⟨_,rfl⟩;have qo : ∀ w',ib cs w' -> w'.cell? ⟨wk.heap.size,0,none⟩ = some (.int .i64 (k : Int)) /\ w'.cell? ⟨go,i,none⟩ = some (.slice (some ⟨gi,0,none⟩) n ci) /\ w'.cell? ⟨go,k,none⟩ = some (.slice (some ⟨gk,0,none⟩) n ck) /\ w'.cell? ⟨gi,j * 2,none⟩ = some (.bool (ar x1)) /\ w'.cell? ⟨gi,j * 2 + 1,none⟩ = some (.string (bs (nt x1.natAbs))) /\ w'.cell? ⟨gk,k * 2,none⟩ = some (.bool (ar x2)) /\ w'.cell? ⟨gk,k * 2 + 1,none⟩ = some (.string (bs (nt x2.natAbs))) /\ w'.cell? ⟨gi,k * 2,none⟩ = some (.bool (ar x3)) /\ w'.cell? ⟨gi,k * 2 + 1,none⟩ = some (.string (bs (nt x3.natAbs))) /\ w'.cell? ⟨gk,j * 2,none⟩ = some (.bool (ar x4)) /\ w'.cell? ⟨gk,j * 2 + 1,none⟩ = some (.string (bs (nt x4.natAbs))):=by subst hcs;intro w' h;exact ⟨h.hd,h.tl.hd,h.tl.tl.hd,h.tl.tl.tl.hd,h.tl.tl.tl.tl.hd,h.tl.tl.tl.tl.tl.hd,h.tl.tl.tl.tl.tl.tl.hd,h.tl.tl.tl.tl.tl.tl.tl.hd,h.tl.tl.tl.tl.tl.tl.tl.tl.hd,h.tl.tl.tl.tl.tl.tl.tl.tl.tl.hd,h.tl.tl.tl.tl.tl.tl.tl.tl.tl.tl.hd⟩
              have bI : Hid (ib cs w):=by subst hcs;show ib _ _;intro p hp;simp only [List.mem_cons,List.not_mem_nil,or_false] at hp;rcases hp with rfl | rfl | rfl | rfl | rfl | rfl | rfl | rfl | rfl | rfl | rfl<;>assumption
              refine akj (fun w'=>ib cs w') (fun i=>Nat.blt i 34) [14,15,30,31,32,33] (fun k=>if k = 15 then [14] else if k = 31 then [15,30] else if k = 32 then [15,31] else []) [(34,false)] [0,1,2,3,4,5,6,7,8,9,10,11,12,13,16,17,18,19,20,21,22,23,24,25,26,27,28,29] zk zk rfl zk zc bI.out.drew ?_;iterate 28 (refine ahQ rfl rfl (v:=?_) (fun w' hw'=>?_) ?_;rotate_left;(focus have hw':=qo w' hw';obtain ⟨q0,q1,q2,q3,q4,q5,q6,q7,q8,q9,tY⟩:=hw';go_simp;try with_reducible rfl);try simp only [UU])
              clear dx oN uf CX CY sw sA ac0 ac1 ad0 ad1 kX sk uE rT jG Ga uk qo hcs;refine ahP (fun a0=>CU a0 w cs x1 x2 x3 x4 P1 P2 N) (CU.init _ _ _ _ _ _ _ _ _ _ _ bI.out.drew (Below.refl _ _).drew) ?_ ?_ ?_
              . rintro dn a' w' ⟨_,_,_,_,_,_,_,h,_⟩;exact h
              . intro k0 ju dn a' w' _ hD hI;obtain ⟨v1,v2,v3,v4,v5,v6,rfl,qV,qT,f1,f2,f3,f4,f5,f6⟩:=hI;simp only [List.mem_cons,List.not_mem_nil,or_false] at ju;rcases ju with rfl | rfl | rfl | rfl | rfl | rfl
                . have xk:=qV.alloc (.cells #[.bool (ar x1),.string (bs (nt x1.natAbs)),.bool (ar x2),.string (bs (nt x2.natAbs))] 28);have hal:=(Below.refl w'.heap.size w').alloc (Nat.le_refl _) (.cells #[.bool (ar x1),.string (bs (nt x1.natAbs)),.bool (ar x2),.string (bs (nt x2.natAbs))] 28);refine xY rfl rfl (fun K hK=>?_);clear f1;simp only [Act.put,U1,U2,U3];go_simp;refine hK _ _ ⟨.slice (some ⟨w'.heap.size,0,none⟩) 2 2,v2,v3,v4,v5,v6,by simp only [Act.put,U1,U2,U3],xk,aI qT hal,fun _=>⟨_,rfl,ai.new _ _ _⟩,fun h=>f2 (by simpa using h),fun h=>?_,fun h=>f4 (by simpa using h),fun h=>f5 (by simpa using h),fun h=>?_⟩
                  . obtain ⟨b,e,q⟩:=f3 (by simpa using h);exact ⟨b,e,q.below hal⟩
                  . obtain ⟨b,e,hb,q⟩:=f6 (by simpa using h);exact ⟨b,e,hb,q.below hal⟩
                . obtain ⟨b,rfl,q⟩:=f1 (hD 14 zm);refine xY rfl rfl (fun K hK=>?_);clear f1;simp only [Act.put,U1,U2,U3];go_simp;with_reducible refine (WK x1 x2 P1 cQ.out b 2 _ _ iN.out Nr.out q).mono ?_
                  rintro e w2 ⟨rfl,hq⟩;refine hK _ _ ⟨_,cp P1,v3,v4,v5,v6,by simp only [Act.put,U1,U2,U3],qV.below hq,aI qT hq,fun _=>⟨b,rfl,q.below hq⟩,fun _=>rfl,fun h=>?_,fun h=>f4 (by simpa using h),fun h=>f5 (by simpa using h),fun h=>?_⟩
                  . obtain ⟨b,e,q⟩:=f3 (by simpa using h);exact ⟨b,e,q.below hq⟩
                  . obtain ⟨b,e,hb,q⟩:=f6 (by simpa using h);exact ⟨b,e,hb,q.below hq⟩
                . have xk:=qV.alloc (.cells #[.bool (ar x3),.string (bs (nt x3.natAbs)),.bool (ar x4),.string (bs (nt x4.natAbs))] 28);have hal:=(Below.refl w'.heap.size w').alloc (Nat.le_refl _) (.cells #[.bool (ar x3),.string (bs (nt x3.natAbs)),.bool (ar x4),.string (bs (nt x4.natAbs))] 28);refine xY rfl rfl (fun K hK=>?_);clear f3;simp only [Act.put,U1,U2,U3];go_simp;refine hK _ _ ⟨v1,v2,.slice (some ⟨w'.heap.size,0,none⟩) 2 2,v4,v5,v6,by simp only [Act.put,U1,U2,U3],xk,aI qT hal,fun h=>?_,fun h=>f2 (by simpa using h),fun _=>⟨_,rfl,ai.new _ _ _⟩,fun h=>f4 (by simpa using h),fun h=>f5 (by simpa using h),fun h=>?_⟩
                  . obtain ⟨b,e,q⟩:=f1 (by simpa using h);exact ⟨b,e,q.below hal⟩
                  . obtain ⟨b,e,hb,q⟩:=f6 (by simpa using h);exact ⟨b,e,hb,q.below hal⟩
                . obtain ⟨b,rfl,q⟩:=f3 (hD 30 zm);obtain rfl:=f2 (hD 15 zm);refine xY rfl rfl (fun K hK=>?_);clear f3;simp only [Act.put,U1,U2,U3];go_simp;with_reducible refine (WK x3 x4 P2 cS.out b 2 _ _ yx.out Ns.out q).mono ?_
                  rintro e w2 ⟨rfl,hq⟩;refine hK _ _ ⟨v1,cp P1,.slice (some ⟨b,0,none⟩) 2 2,cp P2,v5,v6,by simp only [Act.put,U1,U2,U3],qV.below hq,aI qT hq,fun h=>?_,fun _=>rfl,fun _=>⟨b,rfl,q.below hq⟩,fun _=>rfl,fun h=>f5 (by simpa using h),fun h=>?_⟩
                  . obtain ⟨b,e,q⟩:=f1 (by simpa using h);exact ⟨b,e,q.below hq⟩
                  . obtain ⟨b,e,hb,q⟩:=f6 (by simpa using h);exact ⟨b,e,hb,q.below hq⟩
                . obtain rfl:=f2 (hD 15 zm);obtain rfl:=f4 (hD 31 zm);refine xY rfl rfl (fun K hK=>?_);clear f2 f4;simp only [Act.put,U1,U2,U3];go_simp;with_reducible refine (aj3 P1 P2 N HN.out _ Nt.out Nu.out).mono ?_
                  rintro e w2 ⟨rfl,hq⟩;refine hK _ _ ⟨v1,_,v3,_,cp N,v6,by simp only [Act.put,U1,U2,U3],qV.below hq,aI qT hq,fun h=>?_,fun _=>rfl,fun h=>?_,fun _=>rfl,fun _=>rfl,fun h=>?_⟩
                  . obtain ⟨b,e,q⟩:=f1 (by simpa using h);exact ⟨b,e,q.below hq⟩
                  . obtain ⟨b,e,q⟩:=f3 (by simpa using h);exact ⟨b,e,q.below hq⟩
                  . obtain ⟨b,e,hb,q⟩:=f6 (by simpa using h);exact ⟨b,e,hb,q.below hq⟩
                . have xk:=qV.alloc (.cells #[.bool false,.string ⟨#[]⟩] 28);have hal:=(Below.refl w'.heap.size w').alloc (Nat.le_refl _) (.cells #[.bool false,.string ⟨#[]⟩] 28);refine xY rfl rfl (fun K hK=>?_);clear f6;simp only [Act.put,U1,U2,U3];go_simp;refine hK _ _ ⟨v1,v2,v3,v4,v5,.pointer (some ⟨w'.heap.size,0,none⟩),by simp only [Act.put,U1,U2,U3],xk,aI qT hal,fun h=>?_,fun h=>f2 (by simpa using h),fun h=>?_,fun h=>f4 (by simpa using h),fun h=>f5 (by simpa using h),fun _=>⟨_,rfl,qT.size,ai.new _ _ _⟩⟩
                  . obtain ⟨b,e,q⟩:=f1 (by simpa using h);exact ⟨b,e,q.below hal⟩
                  . obtain ⟨b,e,q⟩:=f3 (by simpa using h);exact ⟨b,e,q.below hal⟩
              . intro dn a' w' hall hI;obtain ⟨v1,v2,v3,v4,v5,v6,rfl,qV,qT,f1,f2,f3,f4,f5,f6⟩:=hI;obtain rfl:=f5 (hall 32 zm);obtain ⟨b,rfl,hb,q⟩:=f6 (hall 33 zm);obtain ⟨pN,ak0,pO,ak1⟩:=q.g2;have hQ9:=(q.set 0 (.bool (ar N))).set 1 (.string (bs (nt N.natAbs)));have hB9:=(qT.sc b 0 hb (.bool (ar N))).sc b 1 hb (.string (bs (nt N.natAbs)));clear f1 f2 f3 f4 f5 f6;refine aH rfl rfl (fun K hK=>?_);simp only [Act.put,U1,U2,U3];go_simp;refine hK _ _ (fun h=>absurd h zd) ?_;clear hK K;simp only [aU];go_wp2_with fail;go_meet;exact ⟨b,rfl,hQ9,hB9⟩
             case rest=>
              obtain ⟨bx,rfl,qx,qb⟩:=hcut;have yJ:=ah (wB.out.below qb);have yZ:=ah qx;clear qx qb wB kX sk uE rT jG Ga uk Ut Un Uo Uq EN iN Nr yx Ns Nt Nu cQ cS HN li lk ti tk;obtain ⟨g9,c9,lt9,lu9,e9,r9,f9⟩:=yJ.out.anZ i bi;have ne9:=yJ.out.1.row_ne i bi e9;have nx9 : bx ≠ g9:=by rintro rfl;have h1:=(r9 1 zo).1;rw [yZ.out.cell] at h1;simp at h1
              obtain ⟨Mg,Mh⟩:=r9 j fX;obtain ⟨y,hy⟩ : ∃ y,jd g k last i j i j = y:=⟨_,rfl⟩;rw [hy] at Mg Mh;have sk : Hid (bo wc go i [.slice (some ⟨g9,0,none⟩) n c9]):=fun j hj=>by
               obtain rfl : j = 0:=by simp at hj;omega
               exact e9
              have rT : Hid (bo wc g9 (j * 2) [.bool (ar y),.string (bs (nt y.natAbs))]):=fun j' hj=>by
               rcases j' with _ | _ | j'
               . exact Mg
               . exact Mh
               . simp at hj;omega
              have Hl:=ah yJ.out.2.2.1;have EN:=rD n c9 j (j : Int) (rfl : (some ⟨g9,0,none⟩ : Option Addr) = _) fX rfl;rw [Nat.zero_add] at EN;obtain ⟨Dv,Jt⟩ : ∃ Dv,N / last = Dv:=⟨_,rfl⟩;have Si : Calls Tryz.prog 128 #[.agg #[.bool (ar N),.string (bs (nt N.natAbs))],.agg #[.bool (ar last),.string (bs (nt last.natAbs))]] wc.drew fun e w'=>∃ r,e = .returned (.tuple #[cp Dv,r,.bool true]) /\ (w'.frozen? ⟨g9,j * 2,none⟩ = false /\ w'.frozen? ⟨g9,j * 2 + 1,none⟩ = false) /\ Below wc.drew.heap.size wc.drew w':=
               (ajY N last wc.drew Nv.out Nw.out mC.out Gp.out).mono (fun e w' ⟨r,he,hb⟩=>⟨r,by rw [he,Jt],⟨(f9 w' (aM hb)).1 _,(f9 w' (aM hb)).1 _⟩,hb⟩)
              have Ye:=ah f9;have XX:=ah Si;have FL:=ah Jt;clear Mg Mh hy e9 r9 f9 Si Jt Nv Nw Gp;have Hb : Hid (Bw wc wc):=Below.refl _ _;go_wp2_with fail;have oN:=sk.out.w1;obtain ⟨CX,CY⟩:=rT.out.w2;obtain ⟨pN,pO⟩:=yZ.out.c2;obtain ⟨l0,l1⟩:=Hl.out.c2;refine bG (fun w'=>w'.cell? ⟨go,i,none⟩ = some (.slice (some ⟨g9,0,none⟩) n c9) /\ w'.cell? ⟨bx,0,none⟩ = some (.bool (ar N)) /\ w'.cell? ⟨bx,1,none⟩ = some (.string (bs (nt N.natAbs))) /\ w'.cell? ⟨w1.heap.size,0,none⟩ = some (.bool (ar last)) /\ w'.cell? ⟨w1.heap.size,1,none⟩ = some (.string (bs (nt last.natAbs)))) (fun i=>Nat.blt i 100000) [(0,true),(1,true),(2,true),(3,true),(4,true),(5,true),(6,true),(7,false),(8,true),(9,true),(10,true),(11,true),(12,true),(13,false)] zk zk rfl zk zc ⟨oN,pN,pO,l0,l1⟩ ?_;iterate 7 (refine pT rfl rfl ?_ (by intro w' ⟨q0,q1,q2,q3,q4⟩;go_simp;try with_reducible rfl);try simp only [UU])
              refine aH rfl rfl (fun K hK=>?_);go_simp;with_reducible refine (XX.out).mono ?_
              rintro e w5 ⟨rr,rfl,⟨z0,z1⟩,hq⟩;have ae : Bw wc w5:=by first | exact hq | exact aM hq
              clear oN CX CY pN pO l0 l1;replace sk:=kW sk ae;replace rT:=kW rT ae;replace yZ:=kB yZ ae;replace Hl:=kB Hl ae;have oN:=sk.out.w1;obtain ⟨CX,CY⟩:=rT.out.w2;obtain ⟨pN,pO⟩:=yZ.out.c2;obtain ⟨l0,l1⟩:=Hl.out.c2;replace Hb:=au Hb ae;clear ae;refine hK _ _ (fun _=>⟨oN,pN,pO,l0,l1⟩) ?_;clear hK K;try simp only [UU]
              iterate 5 (refine pT rfl rfl ?_;try simp only [UU])
              refine aH rfl rfl (fun K hK=>?_);go_simp;refine hK _ _ (by first | exact fun h=>absurd h zd | exact fun _=>⟨oN,pN,pO,l0,l1⟩ | exact fun _=>⟨(by first | exact oN | exact aF zf oN | exact aF zf (aF zf oN) | exact aF zf (aF zf (aF zf oN))),(by first | exact pN | exact aF zf pN | exact aF zf (aF zf pN) | exact aF zf (aF zf (aF zf pN))),(by first | exact pO | exact aF zf pO | exact aF zf (aF zf pO) | exact aF zf (aF zf (aF zf pO))),(by first | exact l0 | exact aF zf l0 | exact aF zf (aF zf l0) | exact aF zf (aF zf (aF zf l0))),(by first | exact l1 | exact aF zf l1 | exact aF zf (aF zf l1) | exact aF zf (aF zf (aF zf l1)))⟩) ?_;clear hK K;try simp only [UU]
              simp only [aU];go_wp2;go_roundw;case rel=>have h9:=(Ye.out w5 Hb.out).2 j fX Dv;rw [<- FL.out] at h9;exact ⟨j + 1,by omega,by omega,by go_num,by rw [FL.out] at h9;exact h9.congr (fun a b _ _=>by rw [<- FL.out];exact Oy.out a b)⟩
              case measure=>simp [intOf];omega
           . obtain rfl : j = n:=by omega
             have HT:=ah hT;clear hT;go_wp2;go_roundw;case rel=>exact ⟨i + 1,by omega,by omega,by go_num,HT.out.congr (fun a b _ hb=>ahI g k last i j a b hb)⟩
             case measure=>simp [intOf];omega
        . obtain rfl : i = n:=by omega
          have hT:=yI.out.congr (fun a b ha _=>ahF g k last i a b ha);obtain ⟨gk,ck,lk,tk,ek,rk,_⟩:=hT.row k hlt;have e1 : cW g k last k k = g k k:=by unfold cW;rw [if_neg zo]
          obtain ⟨DC,DF⟩:=rk k hlt;rw [e1] at DC DF;obtain ⟨x,hx⟩ : ∃ x,g k k = x:=⟨_,rfl⟩;have mP:=CG.out;have hg2:=Oh.out;have Hn : Hid (∃ Q,Q + 1 <= 2 ^ (k + 1) * (K + 1) /\ x.natAbs < 2 ^ Q /\ ∀ a b,a < i -> b < i -> (cW g k last a b).natAbs < 2 ^ Q):=⟨2 * Q + 1,by have:=HQ.out;omega,by rw [<- hx];exact hg2,OP.out⟩;have Gq:=NY.out;have Ge:=NL.out;rw [hx] at DC DF mP Gq Ge;have Xh:=ah Gq;have Xd:=ah Ge;have hLK : w1.heap.size < wk.heap.size:=by have:=ags;omega
          have qI:=ah (hT.setLast x zo zo);have Hl:=ah hT.2.2.1;have SI:=xI i cap k (k : Int) (rfl : (some ⟨go,0,none⟩ : Option Addr) = _) hlt rfl;have aeL:=rD i ck k (k : Int) (rfl : (some ⟨gk,0,none⟩ : Option Addr) = _) hlt rfl;rw [Nat.zero_add] at SI aeL;rw [Nat.mul_one] at SI;have kX:=ah hT.2.2.2.1;have uE : Hid (bo wr go k [.slice (some ⟨gk,0,none⟩) i ck]):=fun j hj=>by
           obtain rfl : j = 0:=by simp at hj;omega
           exact ek
          have jG : Hid (bo wr gk (k * 2) [.bool (ar x),.string (bs (nt x.natAbs))]):=fun j hj=>by
           rcases j with _ | _ | j
           . exact DC
           . exact DF
           . simp at hj;omega
          have Hhx:=ah hx;clear hT rk ek DC DF e1 hg2 Gq Ge dx hx yI;go_wp2_with fail;have dx:=kX.out.c1;have uf:=uE.out.w1;obtain ⟨sw,sA⟩:=jG.out.w2;obtain ⟨l0,nS,l1,nU⟩:=Hl.out.g2;refine bG (fun w'=>w'.cell? ⟨wk.heap.size,0,none⟩ = some (.int .i64 (k : Int)) /\ w'.cell? ⟨go,k,none⟩ = some (.slice (some ⟨gk,0,none⟩) i ck) /\ w'.cell? ⟨gk,k * 2,none⟩ = some (.bool (ar x)) /\ w'.cell? ⟨gk,k * 2 + 1,none⟩ = some (.string (bs (nt x.natAbs)))) (fun i=>Nat.blt i 7) [(0,true),(1,true),(2,true),(3,true),(4,true),(5,true),(6,true),(7,false)] zk zk rfl zk zc ⟨dx,uf,sw,sA⟩ ?_;iterate 7 (refine pT rfl rfl ?_ (by intro w' ⟨q0,q1,q2,q3⟩;go_simp;try with_reducible rfl);try simp only [UU])
          refine aH rfl rfl (fun K hK=>?_);go_simp;refine hK _ _ (by first | exact fun h=>absurd h zd | exact fun _=>⟨dx,uf,sw,sA⟩ | exact fun _=>⟨(by first | exact dx | exact aF zf dx | exact aF zf (aF zf dx) | exact aF zf (aF zf (aF zf dx))),(by first | exact uf | exact aF zf uf | exact aF zf (aF zf uf) | exact aF zf (aF zf (aF zf uf))),(by first | exact sw | exact aF zf sw | exact aF zf (aF zf sw) | exact aF zf (aF zf (aF zf sw))),(by first | exact sA | exact aF zf sA | exact aF zf (aF zf sA) | exact aF zf (aF zf (aF zf sA)))⟩) ?_;clear hK K;try simp only [UU]
          simp only [aU];go_wp2;go_roundw;case rel=>exact ⟨k + 1,cW g k last,x,_,by omega,by go_num,rfl,Bs.next qI.out.drew (fun _ _ _ _=>rfl) mP Xh.out Xd.out Hn.out⟩
          case measure=>simp [intOf];omega
  . obtain rfl : k = n:=by omega
    obtain ⟨q1,q2,q3,_,q5,_,Q,hQ,AK,_⟩:=hS;have eX:=uC.out k Q (Nat.le_refl _) hQ;have hll : (nt last.natAbs).length <= 1099511627776:=iW AK zo;rw [Nat.sub_self] at q5;unfold dV at q5;have Hr:=ah q2;have Hl:=ah q3;have Hq:=ah q1;have HZ:=ah q5;have YL:=ah hll;clear q1 q2 q3 q5 hQ AK hll eX;have Hb : Hid (Bw wk wk):=Below.refl _ _;obtain ⟨r0,aj,r1,ak⟩:=Hr.out.g2;obtain ⟨l0,nS,l1,nU⟩:=Hl.out.g2;have xw:=Hq.out.2.2.1;cases t with
    | false =>
      have Hz : Hid (last = Z):=by have hz:=HZ.out;simp only [Bool.false_eq_true,if_false] at hz;exact hz
      go_wp2;refine bodyPost_ret (v:=.agg #[.bool (ar last),.string (bs (nt last.natAbs))]) (by simp [results,Tryz.results88,go_sem,r0,r1]) rfl ⟨by rw [Hz.out],?_⟩;exact (xw.setCell zp _).setCell zp _
    | true =>
      have Hz : Hid (-last = Z):=by have hz:=HZ.out;simp only [if_true] at hz;exact hz
      have hneg : ∀ W,Calls Tryz.prog 107 #[.agg #[.bool (ar last),.string (bs (nt last.natAbs))]] W fun e w'=>e = .returned (cp (-last)) /\ Bw W w':=fun W=>by have:=WM (ar last) (nt last.natAbs) W YL.out;rw [eI] at this;exact this
      go_wp2_with fail;refine (hneg _).mono ?_;rintro e w4 ⟨rfl,ae⟩;clear r0 aj r1 ak l0 nS l1 nU;replace Hr:=kB Hr ae;replace Hl:=kB Hl ae;obtain ⟨r0,aj,r1,ak⟩:=Hr.out.g2;obtain ⟨l0,nS,l1,nU⟩:=Hl.out.g2;replace Hb:=au Hb ae;clear ae hneg;go_wp2;refine bodyPost_ret (v:=.agg #[.bool (ar (-last)),.string (bs (nt (-last).natAbs))]) (by simp [results,Tryz.results88,go_sem,r0,r1]) rfl ⟨by rw [Hz.out],?_⟩;exact ((xw.trans (Hb.out.mono (by have:=Hq.out.2.2.2;omega))).setCell zp _).setCell zp _
theorem abd (n l k : Nat) (f : Nat -> Nat -> Int) (last : Int) (t : Bool) (Q : Nat) (hk : k + l = n) (hl : last.natAbs < 2 ^ Q) (hf : ∀ a b,a < n -> b < n -> (f a b).natAbs < 2 ^ Q) (hex : fF n l k f last) : (dV n l k f last t).natAbs < 2 ^ (2 ^ l * (Q + 1)):=by
 induction l generalizing k f last t Q with
 | zero =>
   unfold dV;have h1 : 2 ^ Q <= 2 ^ (2 ^ 0 * (Q + 1)):=Nat.pow_le_pow_right zd zm;split
   . rw [Int.natAbs_neg];omega
   . omega
 | succ l ih =>
   unfold dV;unfold fF at hex;cases hp : mr f n k with
   | none=>exact Nat.pow_pos zd
   | some m =>
     rw [hp] at hex;simp only at hex ⊢;have AW:=jC hp;obtain ⟨g,hg⟩ : ∃ g,g = bN f k (k + m):=⟨_,rfl⟩;rw [<- hg] at hex ⊢;have hkn : k < n:=by omega
     have gA : ∀ a b,a < n -> b < n -> (g a b).natAbs < 2 ^ Q:=by
      intro a b ha hb;rw [hg];unfold bN;refine hf _ _ ?_ hb;split
      . omega
      . split
        . omega
        . exact ha
     have Ak : 2 ^ Q <= 2 ^ (2 * Q + 1):=Nat.pow_le_pow_right zd zo;have e : 2 ^ (l + 1) * (Q + 1) = 2 ^ l * (2 * Q + 1 + 1):=by rw [Nat.pow_succ,Nat.mul_assoc];congr 1
     rw [e];refine ih (k + 1) _ _ _ (2 * Q + 1) zo (Nat.lt_of_lt_of_le (gA k k hkn hkn) Ak) (fun a b ha hb=>?_) hex.2;unfold cW;split
     . rename_i h4
       have h5:=(LM g k a b Q (gA a b ha hb) (gA k k hkn hkn) (gA a k ha hkn) (gA k b hkn hb)).2.2;rcases div_lt _ last _ h5 with h6 | h6
       . exact h6
       . exact absurd (hex.1 a b h4.1 ha h4.2 hb) h6
     . exact Nat.lt_of_lt_of_le (gA a b ha hb) Ak
def bX (D : List (List Dyadic)) (i j : Nat) : Dyadic:=(D.getD i []).getD j 0
theorem ajv (D : List (List Dyadic)) (n : Nat) (g : Dyadic -> Int) (hl : D.length = n) (hr : ∀ r ∈ D,r.length = n) : (D.map fun r=>r.map g) = dS (fun i j=>g (bX D i j)) n:=by
 apply List.ext_getElem
 . simp [dS,hl]
 . intro i h1 h2;have hi : i < D.length:=by simpa using h1
   have hri:=hr _ (List.getElem_mem hi);apply List.ext_getElem
   . simp [dS,hri]
   . intro j h3 h4;have hj : j < D[i].length:=by simpa using h3
     simp [dS,bX,List.getD_eq_getElem?_getD,hi,hj]
theorem Qq {D : List (List Dyadic)} {n i j : Nat} (hl : D.length = n) (hr : ∀ r ∈ D,r.length = n) (hi : i < n) (hj : j < n) : ∃ r ∈ D,bX D i j ∈ r:=by
 have h1 : i < D.length:=by omega
 have h2 : j < D[i].length:=by rw [hr _ (List.getElem_mem h1)];exact hj
 refine ⟨D[i],List.getElem_mem h1,?_⟩;have : bX D i j = D[i][j]:=by simp [bX,List.getD_eq_getElem?_getD,h1,h2]
 rw [this];exact List.getElem_mem h2
theorem IX (a : Option Addr) (cap n : Nat) (rows : List (List Raw)) (B : Nat) (D : List (List Dyadic)) (X : Dyadic) (w : World) (hn : 1 <= n) (bj : n <= 4) (hL : rows.length = n) (hrow : ∀ r ∈ rows,r.length = n) (ha : aW w a rows)
 (hfit : ∀ r ∈ rows,∀ c ∈ r,Fit B c) (bK : 1 <= B) (hB : B <= 1000000) (hT : az w) (hD : (rows.map fun r=>r.map aB) = D) (hX : cZ n (bX D) = X) :
 Calls Tryz.prog 45 #[.slice a n cap] w fun e w'=>e = .returned (.tuple #[bM X,.int .i64 0]) /\ Bw w w':=by
 obtain ⟨low,iE⟩ : ∃ low,jW 0 D = low:=⟨_,rfl⟩;have hDl : D.length = n:=by rw [<- hD];simp [hL]
 have DV : ∀ r ∈ D,r.length = n:=by intro r hr;rw [<- hD] at hr;obtain ⟨x,hx,rfl⟩:=List.mem_map.1 hr;simpa using hrow x hx
 have kC : ∀ r ∈ D,∀ d ∈ r,Sm B d:=by intro r hr d hd;rw [<- hD] at hr;obtain ⟨x,hx,rfl⟩:=List.mem_map.1 hr;obtain ⟨y,hy,rfl⟩:=List.mem_map.1 hd;exact (hfit x hx y hy).2
 have hlo:=Lt 0 D;rw [iE] at hlo;have hlb : -(B : Int) <= low:=by rw [<- iE];exact Ls 0 D _ zo (fun r hr d hd=>(kC r hr d hd).parts.2.1)
 obtain ⟨f,hf⟩ : ∃ f : Nat -> Nat -> Int,f = fun i j=>nz low (bX D i j):=⟨_,rfl⟩;have mR : (D.map fun r=>r.map (nz low)) = dS f n:=by rw [hf];exact ajv D n (nz low) hDl DV
 have hK : ∀ a b,a < n -> b < n -> (f a b).natAbs < 2 ^ (4 * B):=by
  intro i j hi hj;obtain ⟨r,hr,hm⟩:=Qq hDl DV hi hj;obtain ⟨s1,s2,s3⟩:=(kC r hr _ hm).parts;rw [hf];show (nz low (bX D i j)).natAbs < _
  unfold nz;rw [Int.natAbs_mul,Int.natAbs_pow,show 4 * B = 2 * B + 2 * B by omega,Nat.pow_add];exact Nat.lt_of_lt_of_le (Nat.mul_lt_mul_of_pos_right s1 (Nat.pow_pos zd)) (Nat.mul_le_mul_left _ (Nat.pow_le_pow_right zd zo))
 have hent : ∀ i j,i < n -> j < n -> bX D i j = Dyadic.ofIntWithPrec (f i j) (-low):=by intro i j hi hj;obtain ⟨r,hr,hm⟩:=Qq hDl DV hi hj;rw [hf];exact (aiZ low _ (hlo.2 r hr _ hm)).symm
 have lw:=acJ n hn bj f (bX D) (-low) hent;have hex:=Qr n hn bj f;have hzl:=abd n n 0 f 1 false (4 * B) zo (Nat.one_lt_two_pow zo) hK hex;obtain ⟨z,hz⟩ : ∃ z,dV n n 0 f 1 false = z:=⟨_,rfl⟩;rw [hz] at hzl lw;have Ug : (nt z.natAbs).length <= 34359738368:=by refine iW hzl ?_;have : 2 ^ n <= 2 ^ 4:=Nat.pow_le_pow_right zd bj;have:=Nat.mul_le_mul_right (4 * B + 1) this;omega
 obtain ⟨e,he⟩ : ∃ e : Int,low * n = e:=⟨_,rfl⟩;have heb : -4000000 <= e /\ e <= 4000000:=by
  have hl0:=hlo.1;have hc : n = 1 \/ n = 2 \/ n = 3 \/ n = 4:=by omega
  rcases hc with rfl | rfl | rfl | rfl<;>omega
 have kE : aB (ar z,nt z.natAbs,e) = X:=by
  rw [<- hX,lw];show Dyadic.ofIntWithPrec (iv (ar z) (nt z.natAbs)) (-e) = _
  rw [eI,<- he];congr 1;rw [Int.mul_comm,Int.mul_neg]
 obtain ⟨nl,hnl⟩ : ∃ nl,-low = nl:=⟨_,rfl⟩;have hw1 : IntKind.i64.wrap (-nl) = low:=by rw [IntKind.wrap_i64];have:=hlo.1;omega
 have hw2 : IntKind.i64.wrap (low * (n : Int)) = e:=by rw [he,IntKind.wrap_i64];omega
 have hm0 : rF rows = 0:=by
  unfold rF;rw [if_neg];rintro (h | h)
  . omega
  . rw [List.any_eq_true] at h;obtain ⟨r,hr,h⟩:=h;have:=hrow r hr;simp at h;omega
 have hch:=fun W=>fun (h : aW W a rows)=>Lz a n cap rows W hL zo h;rw [hm0] at hch;have hsc:=fun W=>fun (h : aW W a rows) (hT : az W)=>Wc a n cap n rows B low W hL zo zo hrow h hfit zo hT (by rw [hD];exact iE);rw [hD,mR,hnl] at hsc;have hbr:=fun v W base=>fun (h : gP W base n (dS f n) n v) (h2 : base <= W.heap.size)=>abg base n (4 * B) f v W hn bj h h2 zo hK zo;rw [hz] at hbr;have hmk:=fun W=>fun (hT : az W)=>tJ (ar z) (nt z.natAbs) e X kE W Ug zo hT;have wF:=ah hch;have iy:=ah hsc;have uo:=ah hbr;have qH:=ah hmk;have Ha:=ah ha;have HT:=ah hT;clear hch hsc hbr hmk ha hT hm0 kE heb he Ug hz hzl hex lw hent hK mR hf hlb hlo kC DV hDl iE hD hX hfit hrow hL hnl;have Hb : Hid (Bw w w):=Below.refl _ _;go_enter Tryz.func45,Tryz.ntmps45;go_wp2_with fail;obtain ⟨R,hR⟩ : ∃ R : World -> Prop,(fun W=>ai W (w.heap.size) 30 [.bool false,.string ⟨#[]⟩,.int .i64 0] /\ Bw w W) = R:=⟨_,rfl⟩;first | refine bE R ?hR ?_ | refine bC R ?hR ?_
 case hR=>subst hR;exact ⟨(ai.newAt w _ _ (b:=w.heap.size) rfl),zl⟩
 subst hR;rintro W ⟨qr,ae⟩;have Hr:=ah qr;clear qr;obtain ⟨r0,aj,r1,ak,r2,aC⟩:=Hr.out.g3;replace Hb:=au Hb ae;clear ae;have HA : Hid (aW W a rows):=Ha.out.below Hb.out;have HU : Hid (az W):=HT.out.below Hb.out;go_wp2_with fail;refine (wF.out _ HA.out).mono ?_;rintro e w1 ⟨rfl,ae⟩;clear r0 aj r1 ak r2 aC;replace Hr:=kB Hr ae;replace HA:=kL HA ae;replace HU:=kT HU ae;obtain ⟨r0,aj,r1,ak,r2,aC⟩:=Hr.out.g3;replace Hb:=au Hb ae;clear ae;go_wp2_with fail;refine (iy.out _ HA.out HU.out).mono ?_;rintro e' w2 ⟨v,rfl,hO,hb2⟩;have HO:=ah hO;have yl:=hb2.size;clear hO;go_wp2_with fail;refine (uo.out v w2 w1.heap.size HO.out yl).mono ?_;rintro e' w3 ⟨rfl,hb3⟩;have hb4:=hb2.trans hb3;clear hb2 hb3 HO r0 aj r1 ak r2 aC;replace Hr:=kB Hr hb4;replace HA:=kL HA hb4;replace HU:=kT HU hb4;obtain ⟨r0,aj,r1,ak,r2,aC⟩:=Hr.out.g3;replace Hb:=ah (aI Hb.out hb4);clear hb4;go_wp2_with fail;refine (qH.out _ HU.out).mono ?_;rintro e w4 ⟨rfl,ae⟩;clear r0 aj r1 ak r2 aC;replace Hr:=kB Hr ae;replace HA:=kL HA ae;replace HU:=kT HU ae;obtain ⟨r0,aj,r1,ak,r2,aC⟩:=Hr.out.g3;replace Hb:=au Hb ae;clear ae;go_wp2;clear r0 aj r1 ak r2 aC;refine fO (fun w9=>ai w9 (w.heap.size) 30 [.bool (ar (dN X)),.string (bs (nt (dN X).natAbs)),.int .i64 (dE X)] /\ Bw w w9) ⟨(((Hr.out.set 0 _).set 1 _).set 2 _),(((Hb.out.sc (w.heap.size) 0 ZS _).sc (w.heap.size) 1 ZS _).sc (w.heap.size) 2 ZS _)⟩ ?_;rintro w9 ⟨qr,ae⟩;replace Hr:=ah qr;clear qr;obtain ⟨r0,aj,r1,ak,r2,aC⟩:=Hr.out.g3;replace Hb:=ah ae;clear ae;refine bodyPost_ret (v:=.tuple #[bM X,.int .i64 0]) (by simp [results,Tryz.results45,go_sem,r0,r1,r2]) rfl ⟨rfl,Hb.out⟩
def cu (rows : List (List Raw)) : Nat -> Nat -> Dyadic:=fun a b=>bX (rows.map fun r=>r.map aB) a b
theorem acM (o p : List Raw) (k : Nat) (h : k < p.length) (h' : k < o.length) : (iA o p).getD k 0 = aB p[k] - aB o[k]:=by unfold iA;rw [List.getD_eq_getElem?_getD,List.getElem?_zipWith];simp [h,h']
theorem pV (rows : List (List Raw)) (a b : Nat) (ha : a < rows.length) (hb : b < rows[a].length) : cu rows a b = aB rows[a][b]:=by simp [cu,bX,List.getD_eq_getElem?_getD,ha,hb]
theorem Wj (n : Nat) (rows : List (List Raw)) (hL : rows.length = n + 1) (hrow : ∀ r ∈ rows,r.length = n) (i j : Nat) (hi : i < n) (hj : j < n) :
 bX ((rows.drop 1).map fun p=>iA (rows.getD 0 []) p) i j = cu rows (i + 1) j - cu rows 0 j:=by
 have h0 : 0 < rows.length:=by omega
 have h1 : i + 1 < rows.length:=by omega
 have l0:=hrow _ (List.getElem_mem h0);have l1:=hrow _ (List.getElem_mem h1);rw [pV rows (i + 1) j h1 zo,pV rows 0 j h0 zo];have e0 : rows.getD 0 [] = rows[0]:=by simp [h0]
 have e1 : ((rows.drop 1).map fun p=>iA (rows.getD 0 []) p).getD i [] = iA rows[0] rows[i + 1]:=by rw [e0,List.getD_eq_getElem?_getD,List.getElem?_map,List.getElem?_drop];rw [show 1 + i = i + 1 by omega,List.getElem?_eq_getElem h1];rfl
 unfold bX;rw [e1,acM _ _ _ zo zo]
theorem zU (n : Nat) (bj : n <= 4) {e f : Nat -> Nat -> Dyadic} (h : ∀ i j,i < n -> j < n -> e i j = f i j) : cZ n e = cZ n f:=by
 have hc : n = 0 \/ n = 1 \/ n = 2 \/ n = 3 \/ n = 4:=by omega
 rcases hc with rfl | rfl | rfl | rfl | rfl
 . rfl
 . exact h 0 0 zo zo
 . unfold cZ;simp only;rw [h 0 0 zo zo,h 0 1 zo zo,h 1 0 zo zo,h 1 1 zo zo]
 . unfold cZ;simp only;rw [h 0 0 zo zo,h 0 1 zo zo,h 0 2 zo zo,h 1 0 zo zo,h 1 1 zo zo,h 1 2 zo zo,h 2 0 zo zo,h 2 1 zo zo,h 2 2 zo zo]
 . unfold cZ;simp only;rw [h 0 0 zo zo,h 0 1 zo zo,h 0 2 zo zo,h 0 3 zo zo,h 1 0 zo zo,h 1 1 zo zo,h 1 2 zo zo,h 1 3 zo zo,h 2 0 zo zo,h 2 1 zo zo,h 2 2 zo zo,h 2 3 zo zo,h 3 0 zo zo,h 3 1 zo zo,h 3 2 zo zo,h 3 3 zo zo]
theorem IW {B n : Nat} {e : Nat -> Nat -> Dyadic} (hn : 1 <= n) (bj : n <= 4) (h : ∀ i j,i < n -> j < n -> Sm B (e i j)) : Sm (4 * B + 6) (cZ n e):=by
 have m2 : ∀ a b c d : Dyadic,Sm B a -> Sm B b -> Sm B c -> Sm B d -> Sm (2 * B + 1) (a * b - c * d):=fun a b c d ha hb hc hd=>(Sm.sub (Sm.mul ha hb) (Sm.mul hc hd)).mono zo;have m3 : ∀ x y : Dyadic,Sm B x -> Sm (2 * B + 1) y -> Sm (3 * B + 1) (x * y):=fun x y hx hy=>(Sm.mul hx hy).mono zo;have m4 : ∀ x y z : Dyadic,Sm (3 * B + 1) x -> Sm (3 * B + 1) y -> Sm (3 * B + 1) z -> Sm (3 * B + 3) (x - y + z):=fun x y z hx hy hz=>(Sm.add (Sm.sub hx hy) (hz.mono zo)).mono zo;have m5 : ∀ x y : Dyadic,Sm B x -> Sm (3 * B + 3) y -> Sm (4 * B + 3) (x * y):=fun x y hx hy=>(Sm.mul hx hy).mono zo;have hc : n = 1 \/ n = 2 \/ n = 3 \/ n = 4:=by omega
 rcases hc with rfl | rfl | rfl | rfl
 . exact (h 0 0 zo zo).mono zo
 . exact (Sm.sub (Sm.mul (h 0 0 zo zo) (h 1 1 zo zo)) (Sm.mul (h 0 1 zo zo) (h 1 0 zo zo))).mono zo
 . unfold cZ;refine (m4 _ _ _ (m3 _ _ ?_ (m2 _ _ _ _ ?_ ?_ ?_ ?_)) (m3 _ _ ?_ (m2 _ _ _ _ ?_ ?_ ?_ ?_)) (m3 _ _ ?_ (m2 _ _ _ _ ?_ ?_ ?_ ?_))).mono zo<;>exact h _ _ zo zo
 . unfold cZ;have m6 : ∀ x y z u : Dyadic,Sm (4 * B + 3) x -> Sm (4 * B + 3) y -> Sm (4 * B + 3) z -> Sm (4 * B + 3) u -> Sm (4 * B + 6) (x - y + z - u):=fun x y z u hx hy hz hu=>(Sm.sub (Sm.add (Sm.sub hx hy) (hz.mono zo)) (hu.mono zo)).mono zo;refine m6 _ _ _ _ (m5 _ _ ?_ (m4 _ _ _ (m3 _ _ ?_ (m2 _ _ _ _ ?_ ?_ ?_ ?_)) (m3 _ _ ?_ (m2 _ _ _ _ ?_ ?_ ?_ ?_)) (m3 _ _ ?_ (m2 _ _ _ _ ?_ ?_ ?_ ?_)))) (m5 _ _ ?_ (m4 _ _ _ (m3 _ _ ?_ (m2 _ _ _ _ ?_ ?_ ?_ ?_)) (m3 _ _ ?_ (m2 _ _ _ _ ?_ ?_ ?_ ?_)) (m3 _ _ ?_ (m2 _ _ _ _ ?_ ?_ ?_ ?_)))) (m5 _ _ ?_ (m4 _ _ _ (m3 _ _ ?_ (m2 _ _ _ _ ?_ ?_ ?_ ?_)) (m3 _ _ ?_ (m2 _ _ _ _ ?_ ?_ ?_ ?_)) (m3 _ _ ?_ (m2 _ _ _ _ ?_ ?_ ?_ ?_)))) (m5 _ _ ?_ (m4 _ _ _ (m3 _ _ ?_ (m2 _ _ _ _ ?_ ?_ ?_ ?_)) (m3 _ _ ?_ (m2 _ _ _ _ ?_ ?_ ?_ ?_)) (m3 _ _ ?_ (m2 _ _ _ _ ?_ ?_ ?_ ?_))))<;>exact h _ _ zo zo
theorem Qk (X : Dyadic) : bR X = 0 ↔ X = 0:=by
 constructor
 . intro h;have h1 : dN X = 0:=by
    unfold bR dz at h;by_cases h1 : dN X < 0
    . rw [if_pos h1] at h;cases h
    . rw [if_neg h1] at h;by_cases h2 : dN X = 0
      . exact h2
      . rw [if_neg h2] at h;cases h
   have h2:=pQ X;rw [h1,tX] at h2;exact h2
 . rintro rfl;rfl
noncomputable def eZ (rows : List (List Raw)) : Int:=if eV rows = 0 then 1 else if bB (eV rows).toNat (cu rows) = 0 then 5 else 0
theorem BU (a : Option Addr) (cap n : Nat) (rows : List (List Raw)) (B : Nat) (X : Dyadic) (w : World) (hn : 1 <= n) (bj : n <= 4) (hL : rows.length = n + 1) (hrow : ∀ r ∈ rows,r.length = n) (hcap : n + 1 <= cap) (ha : aW w a rows)
 (hfit : ∀ r ∈ rows,∀ c ∈ r,Fit B c) (hB : B <= 900000) (hT : az w) (hX : bB n (cu rows) = X) :
 Calls Tryz.prog 12 #[.slice a (n + 1) cap] w fun e w'=>e = .returned (.tuple #[bM X,.int .i64 0]) /\ Bw w w':=by
 obtain ⟨b,o,rfl⟩ : ∃ b o,a = some ⟨b,o,none⟩:=by
  obtain ⟨vals,hvl,hat,_⟩:=ha;rcases hat with h | ⟨b,o,h,_⟩
  . rw [h] at hvl;simp at hvl;omega
  . exact ⟨b,o,h⟩
 have hv:=wj hL hrow hn zo;obtain ⟨S,hS⟩ : ∃ S,((rows.drop 1).map fun p=>iA (rows.getD 0 []) p) = S:=⟨_,rfl⟩;have gS : S.length = n:=by rw [<- hS];simp [hL]
 have pq : ∀ r ∈ S,r.length = n:=by
  intro r hr;rw [<- hS] at hr;obtain ⟨p,hp,rfl⟩:=List.mem_map.1 hr;have h0 : 0 < rows.length:=by omega
  have e0 : rows.getD 0 [] = rows[0]:=by simp [h0]
  rw [Dt (by rw [e0,hrow _ (List.mem_of_mem_drop hp),hrow _ (List.getElem_mem h0)]),hrow _ (List.mem_of_mem_drop hp)]
 have pu : ∀ r ∈ S,∀ d ∈ r,Sm (B + 1) d:=by
  intro r hr d hd;rw [<- hS] at hr;obtain ⟨p,hp,rfl⟩:=List.mem_map.1 hr;unfold iA at hd;obtain ⟨i,hi,rfl⟩:=List.mem_iff_getElem.1 hd;rw [List.getElem_zipWith];have h0 : 0 < rows.length:=by omega
  have e0 : rows.getD 0 [] = rows[0]:=by simp [h0]
  refine Sm.sub (hfit p (List.mem_of_mem_drop hp) _ (List.getElem_mem _)).2 (hfit (rows.getD 0 []) ?_ _ (List.getElem_mem _)).2;rw [e0];exact List.getElem_mem h0
 have hent : cZ n (bX S) = X:=by rw [<- hX,xg];refine zU n bj (fun i j hi hj=>?_);rw [<- hS];exact Wj n rows hL hrow i j hi hj
 have hvar:=fun W=>fun (h : aW W (some ⟨b,o,none⟩) rows)=>yq (some ⟨b,o,none⟩) (n + 1) cap rows W hL zo h;rw [hv] at hvar;have hrows:=fun W=>fun (h : aW W (some ⟨b,o,none⟩) rows) (hT : az W)=>VV b o cap n n rows B W hL zo hcap hn hn zo hrow h hfit zo hT;rw [hS] at hrows;have kE : ((S.map fun r=>r.map canon).map fun r=>r.map aB) = S:=by
  rw [List.map_map];have : ((fun r : List Raw=>r.map aB) ∘ fun r : List Dyadic=>r.map canon) = id:=by
   funext r
   show (r.map canon).map aB = r
   rw [List.map_map];have : (aB ∘ canon) = id:=funext bU;rw [this];simp
  rw [this];simp
 have lw:=fun W a' c'=>fun (h : aW W a' (S.map fun r=>r.map canon)) (hT : az W)=>IX a' c' n (S.map fun r=>r.map canon) (B + 1) S X W hn bj (by simpa using gS) (by
  intro r hr;obtain ⟨x,hx,rfl⟩:=List.mem_map.1 hr
  simpa using pq x hx) h (by
  intro r hr c hc;obtain ⟨x,hx,rfl⟩:=List.mem_map.1 hr;obtain ⟨y,hy,rfl⟩:=List.mem_map.1 hc
  exact (pu x hx y hy).fit zo) zo zo hT kE hent
 have Ij:=ah hvar;have ZB:=ah hrows;have yM:=ah lw;have Ha:=ah ha;have HT:=ah hT;clear hvar hrows lw ha hT kE hent pu pq gS hS hv hX hfit hrow hL;have hn0 : ¬ (n : Int) = 0:=by omega
 have Hb : Hid (Bw w w):=Below.refl _ _;go_enter Tryz.func12,Tryz.ntmps12;go_wp2_with fail;obtain ⟨R,hR⟩ : ∃ R : World -> Prop,(fun W=>ai W (w.heap.size) 30 [.bool false,.string ⟨#[]⟩,.int .i64 0] /\ Bw w W) = R:=⟨_,rfl⟩;first | refine bE R ?hR ?_ | refine bC R ?hR ?_
 case hR=>subst hR;exact ⟨(ai.newAt w _ _ (b:=w.heap.size) rfl),zl⟩
 subst hR;rintro W ⟨qr,ae⟩;have Hr:=ah qr;clear qr;obtain ⟨r0,aj,r1,ak,r2,aC⟩:=Hr.out.g3;replace Hb:=au Hb ae;clear ae;have HA : Hid (aW W (some ⟨b,o,none⟩) rows):=Ha.out.below Hb.out;have HU : Hid (az W):=HT.out.below Hb.out;go_wp2_with fail;refine (Ij.out _ HA.out).mono ?_;rintro e w1 ⟨rfl,ae⟩;clear r0 aj r1 ak r2 aC;replace Hr:=kB Hr ae;replace HA:=kL HA ae;replace HU:=kT HU ae;obtain ⟨r0,aj,r1,ak,r2,aC⟩:=Hr.out.g3;replace Hb:=au Hb ae;clear ae;go_wp2_with fail;refine (ZB.out _ HA.out HU.out).mono ?_;rintro e w2 ⟨a',c',rfl,hcc,jw,ae⟩;clear r0 aj r1 ak r2 aC;replace Hr:=kB Hr ae;replace HA:=kL HA ae;replace HU:=kT HU ae;obtain ⟨r0,aj,r1,ak,r2,aC⟩:=Hr.out.g3;replace Hb:=au Hb ae;clear ae;have cE:=ah jw;clear jw;go_wp2_with fail;refine (yM.out _ a' c' cE.out HU.out).mono ?_;rintro e w3 ⟨rfl,ae⟩;clear r0 aj r1 ak r2 aC;replace Hr:=kB Hr ae;replace HA:=kL HA ae;replace HU:=kT HU ae;obtain ⟨r0,aj,r1,ak,r2,aC⟩:=Hr.out.g3;replace Hb:=au Hb ae;clear ae;go_wp2;clear r0 aj r1 ak r2 aC;refine fO (fun w9=>ai w9 (w.heap.size) 30 [.bool (ar (dN X)),.string (bs (nt (dN X).natAbs)),.int .i64 (dE X)] /\ Bw w w9) ⟨(((Hr.out.set 0 _).set 1 _).set 2 _),(((Hb.out.sc (w.heap.size) 0 ZS _).sc (w.heap.size) 1 ZS _).sc (w.heap.size) 2 ZS _)⟩ ?_;rintro w9 ⟨qr,ae⟩;replace Hr:=ah qr;clear qr;obtain ⟨r0,aj,r1,ak,r2,aC⟩:=Hr.out.g3;replace Hb:=ah ae;clear ae;refine bodyPost_ret (v:=.tuple #[bM X,.int .i64 0]) (by simp [results,Tryz.results12,go_sem,r0,r1,r2]) rfl ⟨rfl,Hb.out⟩
theorem ua (a : Option Addr) (L cap : Nat) (rows : List (List Raw)) (B : Nat) (w : World) (hL : rows.length = L) (lu : L <= 5) (hcap : L <= cap) (ha : aW w a rows)
 (hfit : ∀ r ∈ rows,∀ c ∈ r,Fit B c) (hB : B <= 900000) (hT : az w) :
 Calls Tryz.prog 15 #[.slice a L cap] w fun e w'=>e = .returned (.int .i64 (eZ rows)) /\ Bw w w':=by
 obtain ⟨R,hR⟩ : ∃ R,eZ rows = R:=⟨_,rfl⟩;rw [hR];unfold eZ at hR;by_cases hv : eV rows = 0
 . rw [if_pos hv] at hR;subst hR;have hvar:=fun W=>fun (h : aW W a rows)=>yq a L cap rows W hL zo h;rw [hv] at hvar;have Ij:=ah hvar;have Ha:=ah ha;have hsz : ∀ W,Bw w W -> Calls Tryz.prog 12 #[.slice a L cap] W fun e w'=>e = .returned (.tuple #[.agg #[.bool false,.string ⟨#[]⟩,.int .i64 0],.int .i64 1]) /\ Bw W w':=by
    intro w0 hw0;have oQ:=ah (Ha.out.below hw0);clear ha hfit hL hT hv hvar Ha hw0 w;obtain ⟨w,KZ⟩ : ∃ w,w = w0:=⟨_,rfl⟩;subst KZ;have Hb : Hid (Bw w w):=Below.refl _ _;go_enter Tryz.func12,Tryz.ntmps12;go_wp2_with fail;obtain ⟨R,hR⟩ : ∃ R : World -> Prop,(fun W=>ai W (w.heap.size) 30 [.bool false,.string ⟨#[]⟩,.int .i64 0] /\ Bw w W) = R:=⟨_,rfl⟩;first | refine bE R ?hR ?_ | refine bC R ?hR ?_
    case hR=>subst hR;exact ⟨(ai.newAt w _ _ (b:=w.heap.size) rfl),zl⟩
    subst hR;rintro W ⟨qr,ae⟩;have Hr:=ah qr;clear qr;obtain ⟨r0,aj,r1,ak,r2,aC⟩:=Hr.out.g3;replace Hb:=au Hb ae;clear ae;go_wp2_with fail;refine (Ij.out _ (oQ.out.below Hb.out)).mono ?_;rintro e w1 ⟨rfl,ae⟩;clear r0 aj r1 ak r2 aC;replace Hr:=kB Hr ae;obtain ⟨r0,aj,r1,ak,r2,aC⟩:=Hr.out.g3;replace Hb:=au Hb ae;clear ae;go_wp2;clear r0 aj r1 ak r2 aC;refine fO (fun w9=>ai w9 (w.heap.size) 30 [.bool false,.string ⟨#[]⟩,.int .i64 0] /\ Bw w w9) ⟨(((Hr.out.set 0 _).set 1 _).set 2 _),(((Hb.out.sc (w.heap.size) 0 ZS _).sc (w.heap.size) 1 ZS _).sc (w.heap.size) 2 ZS _)⟩ ?_;rintro w9 ⟨qr,ae⟩;replace Hr:=ah qr;clear qr;obtain ⟨r0,aj,r1,ak,r2,aC⟩:=Hr.out.g3;replace Hb:=ah ae;clear ae;refine bodyPost_ret (v:=.tuple #[.agg #[.bool false,.string ⟨#[]⟩,.int .i64 0],.int .i64 1]) (by simp [results,Tryz.results12,go_sem,r0,r1,r2]) rfl ⟨rfl,Hb.out⟩
   have uC:=ah hsz;clear hsz hvar ha hfit hL hT hv;have Hb : Hid (Bw w w):=Below.refl _ _;go_enter Tryz.func15,Tryz.ntmps15;go_wp2_with fail;refine (uC.out _ Hb.out).mono ?_;rintro e w1 ⟨rfl,ae⟩;replace Hb:=au Hb ae;clear ae;have hsz:=Hb.out.size;obtain ⟨W2,dW⟩ : ∃ W2,(w1.alloc (.cells #[.bool false,.string ⟨#[]⟩,.int .i64 0] 30)) = W2:=⟨_,rfl⟩;have ae : Bw w1 W2:=by rw [<- dW];exact zl
   have Hd : Hid (ai W2 (w1.heap.size) 30 [.bool false,.string ⟨#[]⟩,.int .i64 0]):=by rw [<- dW];exact ai.newAt _ _ _ zm
   obtain ⟨d0,Jf,d1,Jg,d2,Jh⟩:=Hd.out.g3;replace Hb:=au Hb ae;clear ae;go_wp2;refine bodyPost_ret (results_tmp rfl _ _ _) rfl ⟨rfl,?_⟩;exact ((Hb.out.setCell zp _).setCell zp _).setCell zp _
 . obtain ⟨n,hn⟩ : ∃ n : Nat,eV rows = n:=⟨(eV rows).toNat,by have:=wm rfl hv;omega⟩;rw [if_neg hv,hn,Int.toNat_natCast] at hR;obtain ⟨c1,c2,c3,c4⟩:=wm hn zo;obtain rfl : L = n + 1:=by omega
   obtain ⟨X,hX⟩ : ∃ X,bB n (cu rows) = X:=⟨_,rfl⟩;rw [hX] at hR;have hsz:=fun W=>fun (h : aW W a rows) (hT : az W)=>BU a cap n rows B X W zo zo zo (fun r hr=>by have:=c4 r hr;omega) hcap h hfit hB hT hX;have hXm : Sm (4 * (B + 1) + 6) X:=by
    rw [<- hX,xg];refine IW zo zo (fun i j hi hj=>?_);have h0 : 0 < rows.length:=by omega
    have h1 : i + 1 < rows.length:=by omega
    have l0:=c4 _ (List.getElem_mem h0);have l1:=c4 _ (List.getElem_mem h1);rw [pV rows (i + 1) j h1 zo,pV rows 0 j h0 zo];exact Sm.sub (hfit _ (List.getElem_mem h1) _ (List.getElem_mem _)).2 (hfit _ (List.getElem_mem h0) _ (List.getElem_mem _)).2
   have gJ : ∀ W,Calls Tryz.prog 37 #[.agg #[.bool (ar (dN X)),.string (bs (nt (dN X).natAbs)),.int .i64 (dE X)]] W fun ex w'=>ex = .returned (.int .i64 (bR X)) /\ Bw W w':=fun W=>lR _ _ _ (bR X) (by show bR (aB (canon X)) = _;rw [bU]) W (hXm.ok zo);obtain ⟨g,hg⟩ : ∃ g,bR X = g:=⟨_,rfl⟩;have SC : R = if g = 0 then 5 else 0:=by
    rw [<- hR,<- hg];by_cases h : X = 0
    . rw [if_pos h,if_pos ((Qk X).2 h)]
    . rw [if_neg h,if_neg (fun h2=>h ((Qk X).1 h2))]
   rw [hg] at gJ;have uC:=ah hsz;have jJ:=ah gJ;have Ha:=ah ha;have HT:=ah hT;have Oj:=ah SC;clear hsz gJ ha hT SC hg hX hR hfit c4 hL;have Hb : Hid (Bw w w):=Below.refl _ _;go_enter Tryz.func15,Tryz.ntmps15;go_wp2_with fail;refine (uC.out _ (Ha.out.below Hb.out) (HT.out.below Hb.out)).mono ?_;rintro e w1 ⟨rfl,ae⟩;replace Hb:=au Hb ae;clear ae;obtain ⟨W2,dW⟩ : ∃ W2,(w1.alloc (.cells #[.bool (ar (dN X)),.string (bs (nt (dN X).natAbs)),.int .i64 (dE X)] 30)) = W2:=⟨_,rfl⟩;have ae : Bw w1 W2:=by rw [<- dW];exact zl
   have Hd : Hid (ai W2 (w1.heap.size) 30 [.bool (ar (dN X)),.string (bs (nt (dN X).natAbs)),.int .i64 (dE X)]):=by rw [<- dW];exact ai.newAt _ _ _ zm
   obtain ⟨d0,d1,d2⟩:=Hd.out.c3;replace Hb:=au Hb ae;clear ae;go_wp2_with fail;refine (jJ.out _).mono ?_;rintro e w3 ⟨rfl,ae⟩;clear d0 d1 d2;replace Hd:=kB Hd ae;obtain ⟨d0,d1,d2⟩:=Hd.out.c3;replace Hb:=au Hb ae;clear ae;by_cases hg0 : g = 0
   . have hr:=Oj.out;rw [if_pos hg0] at hr;subst hr hg0;go_wp2;refine bodyPost_ret (results_tmp rfl _ _ _) rfl ⟨rfl,Hb.out⟩
   . have hr:=Oj.out;rw [if_neg hg0] at hr;subst hr;go_wp2;refine bodyPost_ret (results_tmp rfl _ _ _) rfl ⟨rfl,Hb.out⟩
end Go.Proofs.YtdaadlblknpipaaGreatDoor
namespace Go.Proofs.YtdaadlblknpipaaGreatDoor
def xh (p : Nat -> Nat -> Dyadic) : Nat -> Nat -> Dyadic:=fun a b=>p (a + 1) b - p 0 b
def jm (n : Nat) (e : Nat -> Nat -> Dyadic) (k i : Nat) : Dyadic:=if (k + i) % 2 = 1 then -cZ (n - 1) (jz e i k) else cZ (n - 1) (jz e i k)
def iP (n : Nat) (p : Nat -> Nat -> Dyadic) (k i : Nat) : Dyadic:=jm n (xh p) k i * jD (bB n p)
def wS (n : Nat) (p : Nat -> Nat -> Dyadic) (x : Nat -> Dyadic) (i : Nat) : Nat -> Dyadic
 | 0=>0
 | k + 1=>wS n p x i k + (x k - p 0 k) * iP n p k i
theorem aj1 (n : Nat) (p : Nat -> Nat -> Dyadic) (x : Nat -> Dyadic) (i k : Nat) : wS n p x i k = jD (bB n p) * xQ n (xh p) (fun k=>x k - p 0 k) i k:=by
 induction k with
 | zero=>simp [wS,xQ]
 | succ k ih =>unfold wS xQ;rw [ih];unfold iP jm;generalize (if (k + i) % 2 = 1 then -cZ (n - 1) (jz (xh p) i k) else cZ (n - 1) (jz (xh p) i k)) = z;grind
theorem MN (n : Nat) (hn : 1 <= n) (bj : n <= 4) (p : Nat -> Nat -> Dyadic) (x : Nat -> Dyadic) (i : Nat) (hi : i < n) : wS n p x i n = fC n p x (i + 1):=by rw [aj1,afS n hn bj _ _ i hi];unfold fC;rw [adg];rfl
def wZ (n : Nat) (p : Nat -> Nat -> Dyadic) (x : Nat -> Dyadic) : Nat -> Dyadic
 | 0=>jD (bB n p) * bB n p
 | k + 1=>wZ n p x k - fC n p x (k + 1)
theorem aj4 (n : Nat) (p : Nat -> Nat -> Dyadic) (x : Nat -> Dyadic) (k : Nat) : wZ n p x k = jD (bB n p) * bB n p - pX (fun i=>fC n p x (i + 1)) k:=by
 induction k with
 | zero=>simp [wZ,pX];grind
 | succ k ih=>unfold wZ pX;rw [ih];grind
theorem WO (n : Nat) (hn : 1 <= n) (bj : n <= 4) (p : Nat -> Nat -> Dyadic) (x : Nat -> Dyadic) : wZ n p x n = fC n p x 0:=by rw [aj4];unfold fC;rw [aji,akm n hn bj p x];grind
theorem ai2 (X : Dyadic) : jD X * X = if X < 0 then -X else X:=by
 rw [Fu];split
 . grind
 . split<;>grind
theorem Dq {B n : Nat} {e : Nat -> Nat -> Dyadic} (bj : n <= 4) (h : ∀ i j,i < n -> j < n -> Sm B (e i j)) : Sm (4 * B + 6) (cZ n e):=by
 by_cases h0 : n = 0
 . subst h0;exact Sm.one.mono zo
 . exact IW zo bj h
theorem Mv (X : Dyadic) : Sm 1 (jD X):=by
 rw [Fu];split
 . exact Sm.neg Sm.one
 . split
   . exact Sm.zero _
   . exact Sm.one
theorem zW {B n : Nat} {p : Nat -> Nat -> Dyadic} (h : ∀ a b,a <= n -> b < n -> Sm B (p a b)) (a b : Nat) (ha : a < n) (hb : b < n) : Sm (B + 1) (xh p a b):=Sm.sub (h (a + 1) b zo hb) (h 0 b zo hb)
theorem Po {B n : Nat} {e : Nat -> Nat -> Dyadic} (hn : 1 <= n) (bj : n <= 4) (h : ∀ i j,i < n -> j < n -> Sm B (e i j)) (k i : Nat) : Sm (4 * B + 6) (jm n e k i):=by
 have h2 : Sm (4 * B + 6) (cZ (n - 1) (jz e i k)):=Dq zo (fun a b ha hb=>h _ _ (by split<;>omega) (by split<;>omega));unfold jm;split
 . exact h2.neg
 . exact h2
theorem zL {B n : Nat} {p : Nat -> Nat -> Dyadic} (hn : 1 <= n) (bj : n <= 4) (h : ∀ a b,a <= n -> b < n -> Sm B (p a b)) (k i : Nat) : Sm (4 * B + 11) (iP n p k i):=
 (Sm.mul (Po (B:=B + 1) hn bj (fun a b ha hb=>zW h a b ha hb) k i) (Mv _)).mono zo
theorem Wk {B n : Nat} {p : Nat -> Nat -> Dyadic} (bj : n <= 4) (h : ∀ a b,a <= n -> b < n -> Sm B (p a b)) : Sm (4 * B + 11) (jD (bB n p) * bB n p):=by rw [xg];exact (Sm.mul (Mv _) (Dq (B:=B + 1) bj (fun a b ha hb=>zW h a b ha hb))).mono zo
theorem FD {B n : Nat} {p : Nat -> Nat -> Dyadic} {x : Nat -> Dyadic} (hn : 1 <= n) (bj : n <= 4) (h : ∀ a b,a <= n -> b < n -> Sm B (p a b)) (hx : ∀ b,b < n -> Sm B (x b)) (i k : Nat) (hk : k <= n) : Sm (5 * B + 12 + k) (wS n p x i k):=by
 induction k with
 | zero=>exact Sm.zero _
 | succ k ih =>have h1:=ih zo;have h2 : Sm (5 * B + 12) ((x k - p 0 k) * iP n p k i):=(Sm.mul (Sm.sub (hx k zo) (h 0 k zo zo)) (zL hn bj h k i)).mono zo;exact (h1.add (h2.mono zo)).mono zo
theorem WT {B n : Nat} {p : Nat -> Nat -> Dyadic} {x : Nat -> Dyadic} (hn : 1 <= n) (bj : n <= 4) (h : ∀ a b,a <= n -> b < n -> Sm B (p a b)) (hx : ∀ b,b < n -> Sm B (x b)) (i : Nat) (hi : i < n) : Sm (5 * B + 16) (fC n p x (i + 1)):=by rw [<- MN n hn bj p x i hi];exact (FD hn bj h hx i n (Nat.le_refl _)).mono zo
theorem MQ {B n : Nat} {p : Nat -> Nat -> Dyadic} {x : Nat -> Dyadic} (hn : 1 <= n) (bj : n <= 4) (h : ∀ a b,a <= n -> b < n -> Sm B (p a b)) (hx : ∀ b,b < n -> Sm B (x b)) (k : Nat) (hk : k <= n) : Sm (5 * B + 16 + k) (wZ n p x k):=by
 induction k with
 | zero=>exact (Wk bj h).mono zo
 | succ k ih=>exact (Sm.sub (ih zo) ((WT hn bj h hx k zo).mono zo)).mono zo
def wC (n : Nat) (p : Nat -> Nat -> Dyadic) (i : Nat) : Dyadic:=wS n p (fun _=>0) i n
def lZ (n : Nat) (p : Nat -> Nat -> Dyadic) (b : Nat) : Nat -> Dyadic
 | 0=>0
 | k + 1=>lZ n p b k - iP n p b k
def iX (R : List (List Dyadic)) (r c : Nat) : List (List Dyadic):=(R.eraseIdx r).map fun x=>x.eraseIdx c
theorem Vd (R : List (List Dyadic)) (r c m : Nat) (hL : R.length = m + 1) (hr : r <= m) : (iX R r c).length = m:=by unfold iX;rw [List.length_map,List.length_eraseIdx_of_lt zo];omega
theorem Ve (R : List (List Dyadic)) (r c m : Nat) (hrow : ∀ x ∈ R,x.length = m + 1) (hc : c <= m) : ∀ x ∈ iX R r c,x.length = m:=by intro x hx;unfold iX at hx;obtain ⟨y,hy,rfl⟩:=List.mem_map.1 hx;have:=hrow y (List.mem_of_mem_eraseIdx hy);rw [List.length_eraseIdx_of_lt zo];omega
theorem Vb (R : List (List Dyadic)) (r c m : Nat) (hL : R.length = m + 1) (hr : r <= m) (j : Nat) (hj : j < m) : (iX R r c).getD j [] = (R.getD (if j < r then j else j + 1) []).eraseIdx c:=by
 unfold iX;have h1 : j < (R.eraseIdx r).length:=by rw [List.length_eraseIdx_of_lt zo];omega
 rw [List.getD_eq_getElem?_getD,List.getElem?_map,List.getElem?_eq_getElem h1,Option.map_some,Option.getD_some,List.getElem_eraseIdx];split
 . rename_i h;rw [List.getD_eq_getElem?_getD,List.getElem?_eq_getElem zo];rfl
 . rename_i h;rw [List.getD_eq_getElem?_getD,List.getElem?_eq_getElem zo];rfl
theorem adS (l : List Dyadic) (c j : Nat) (h : j + 1 < l.length) (hc : c < l.length) : (l.eraseIdx c).getD j 0 = l.getD (if j < c then j else j + 1) 0:=by
 have h1 : j < (l.eraseIdx c).length:=by rw [List.length_eraseIdx_of_lt hc];omega
 rw [List.getD_eq_getElem?_getD,List.getElem?_eq_getElem h1,Option.getD_some,List.getElem_eraseIdx];split
 . rw [List.getD_eq_getElem?_getD,List.getElem?_eq_getElem zo];rfl
 . rw [List.getD_eq_getElem?_getD,List.getElem?_eq_getElem zo];rfl
theorem agK (R : List (List Dyadic)) (r c m : Nat) (hL : R.length = m + 1) (hrow : ∀ x ∈ R,x.length = m + 1) (hr : r <= m) (hc : c <= m) (i j : Nat) (hi : i < m) (hj : j < m) : bX (iX R r c) i j = jz (bX R) r c i j:=by
 show ((iX R r c).getD i []).getD j 0 = (R.getD (if i < r then i else i + 1) []).getD (if j < c then j else j + 1) 0
 rw [Vb R r c m hL hr i hi];have hk : (if i < r then i else i + 1) < R.length:=by split<;>omega
 have e : R.getD (if i < r then i else i + 1) [] = R[if i < r then i else i + 1]'hk:=by rw [List.getD_eq_getElem?_getD,List.getElem?_eq_getElem hk];rfl
 have hl:=hrow _ (List.getElem_mem hk);rw [e];exact adS _ c j (by rw [hl];omega) (by rw [hl];omega)
def nO (n : Nat) (e : Nat -> Nat -> Dyadic) : List (List Dyadic):=(List.range n).map fun a=>(List.range n).map fun b=>jm n e a b
theorem Pq (n : Nat) (e : Nat -> Nat -> Dyadic) (a : Nat) (ha : a < n) : (nO n e).getD a [] = (List.range n).map fun b=>jm n e a b:=by unfold nO;simp [List.getD_eq_getElem?_getD,ha]
theorem aay (n : Nat) (e : Nat -> Nat -> Dyadic) (a b : Nat) (ha : a < n) (hb : b < n) : bX (nO n e) a b = jm n e a b:=by unfold bX;rw [Pq n e a ha];simp [List.getD_eq_getElem?_getD,hb]
theorem aaz (n : Nat) (e : Nat -> Nat -> Dyadic) : (nO n e).length = n:=by simp [nO]
theorem aaA (n : Nat) (e : Nat -> Nat -> Dyadic) : ∀ r ∈ nO n e,r.length = n:=by intro r hr;unfold nO at hr;obtain ⟨x,_,rfl⟩:=List.mem_map.1 hr;simp
theorem agJ (R : List (List Dyadic)) (r c m : Nat) (hL : R.length = m + 1) (hrow : ∀ x ∈ R,x.length = m + 1) (hr : r <= m) (hc : c <= m) (hm : m <= 4) : cZ m (bX (iX R r c)) = cZ m (jz (bX R) r c):=
 zU m hm (fun i j hi hj=>agK R r c m hL hrow hr hc i j hi hj)
theorem agL {B : Nat} {R : List (List Dyadic)} (h : ∀ x ∈ R,∀ d ∈ x,Sm B d) (r c : Nat) : ∀ x ∈ iX R r c,∀ d ∈ x,Sm B d:=by intro x hx d hd;unfold iX at hx;obtain ⟨y,hy,rfl⟩:=List.mem_map.1 hx;exact h y (List.mem_of_mem_eraseIdx hy) d (List.mem_of_mem_eraseIdx hd)
end Go.Proofs.YtdaadlblknpipaaGreatDoor
namespace Go.Proofs.YtdaadlblknpipaaGreatDoor
open Go.RowKit
def ot (rows : List (List Raw)) (i j v : Nat) : List (List Raw):=(rows.set v (jX (rows.getD i []) (rows.getD j []))).map iR
theorem adF (r : List Raw) : (iR r).map aB = r.map aB:=by unfold iR;rw [List.map_map];refine List.map_congr_left (fun x _=>?_);exact bU _
theorem Jb (n : Nat) (bj : n <= 4) {p q : Nat -> Nat -> Dyadic} (h : ∀ a b,a <= n -> b < n -> p a b = q a b) : bB n p = bB n q:=by rw [xg,xg];exact zU n bj (fun i j hi hj=>by rw [h (i + 1) j zo hj,h 0 j zo hj])
theorem JX (V i j v B : Nat) (rows : List (List Raw)) (hL : rows.length = V + 1) (hrow : ∀ r ∈ rows,r.length = V) (hij : i < j) (hj : j <= V) (hfit : ∀ r ∈ rows,∀ c ∈ r,Fit B c) (hB : B <= 10000000) :
 (ot rows i j v).length = V + 1 /\ (∀ r ∈ ot rows i j v,r.length = V) /\ (∀ r ∈ ot rows i j v,∀ c ∈ r,Fit (B + 3) c) /\
  ((ot rows i j v).map fun r=>r.map aB) = (rows.map fun r=>r.map aB).set v (midD (rows.getD i []) (rows.getD j [])) /\
  ∀ k,k < V -> (midD (rows.getD i []) (rows.getD j [])).getD k 0 = (((rows.map fun r=>r.map aB).getD i []).getD k 0 + ((rows.map fun r=>r.map aB).getD j []).getD k 0) * hp 1:=by
 have hi1 : i < rows.length:=by omega
 have mg : j < rows.length:=by omega
 have ei : rows.getD i [] = rows[i]:=by simp [List.getD_eq_getElem?_getD,hi1]
 have ej : rows.getD j [] = rows[j]:=by simp [List.getD_eq_getElem?_getD,mg]
 have li:=hrow _ (List.getElem_mem hi1);have lj:=hrow _ (List.getElem_mem mg);rw [show ot rows i j v = (rows.set v (jX rows[i] rows[j])).map iR by unfold ot;rw [ei,ej],ei,ej];have vg : (jX rows[i] rows[j]).length = V:=by rw [Va zo,li]
 refine ⟨by simp [hL],fun r hr=>?_,fun r hr c hc=>?_,?_,fun k hk=>?_⟩
 . obtain ⟨x,hx,rfl⟩:=List.mem_map.1 hr;rw [Qy];rcases List.mem_or_eq_of_mem_set hx with h | h
   . exact hrow x h
   . rw [h];exact vg
 . obtain ⟨x,hx,rfl⟩:=List.mem_map.1 hr;unfold iR at hc;obtain ⟨y,hy,rfl⟩:=List.mem_map.1 hc;have hys : Sm (B + 3) (aB y):=by
    rcases List.mem_or_eq_of_mem_set hx with h | h
    . exact (hfit x h y hy).2.mono zo
    . rw [h] at hy;exact (UZ (hfit _ (List.getElem_mem hi1)) (hfit _ (List.getElem_mem mg)) hB y hy).2
   exact hys.fit zo
 . rw [List.map_map];have e : ((fun r : List Raw=>r.map aB) ∘ iR) = fun r=>r.map aB:=funext adF;rw [e,List.map_set];congr 1;unfold jX;rw [List.map_map];have : (aB ∘ canon) = id:=funext bU;rw [this];simp
 . have h1 : ((rows.map fun r=>r.map aB).getD i []).getD k 0 = aB (rows[i][k]'zo):=by simp [List.getD_eq_getElem?_getD,hi1,show k < rows[i].length by omega]
   have h2 : ((rows.map fun r=>r.map aB).getD j []).getD k 0 = aB (rows[j][k]'zo):=by simp [List.getD_eq_getElem?_getD,mg,show k < rows[j].length by omega]
   rw [h1,h2];unfold midD;rw [List.getD_eq_getElem?_getD,List.getElem?_zipWith,List.getElem?_eq_getElem zo,List.getElem?_eq_getElem zo];rfl
theorem RH (V i j v B : Nat) (rows : List (List Raw)) (hL : rows.length = V + 1) (hrow : ∀ r ∈ rows,r.length = V) (hij : i < j) (hj : j <= V) (hv : v <= V) (hfit : ∀ r ∈ rows,∀ c ∈ r,Fit B c) (hB : B <= 10000000) (a b : Nat) (ha : a <= V) (hb : b < V) :
 cu (ot rows i j v) a b = tL (cu rows) (hp 1) i j v a b:=by
 obtain ⟨q1,q2,_,q4,q5⟩:=JX V i j v B rows hL hrow hij hj hfit hB;unfold cu bX tL;rw [q4];have hlen : (rows.map fun r=>r.map aB).length = V + 1:=by simp [hL]
 by_cases e : a = v
 . subst e;rw [if_pos rfl];have : ((rows.map fun r=>r.map aB).set a (midD (rows.getD i []) (rows.getD j []))).getD a [] = midD (rows.getD i []) (rows.getD j []):=by rw [List.getD_eq_getElem?_getD,List.getElem?_set_self zo];rfl
   rw [this];exact q5 b hb
 . rw [if_neg e];have : ((rows.map fun r=>r.map aB).set v (midD (rows.getD i []) (rows.getD j []))).getD a [] = (rows.map fun r=>r.map aB).getD a []:=by rw [List.getD_eq_getElem?_getD,List.getElem?_set_ne (fun h=>e h.symm),<- List.getD_eq_getElem?_getD]
   rw [this]
theorem RG (V i j v B : Nat) (rows : List (List Raw)) (hV1 : 1 <= V) (Ea : V <= 4) (hL : rows.length = V + 1) (hrow : ∀ r ∈ rows,r.length = V) (hij : i < j) (hj : j <= V) (hv : v = i \/ v = j) (hfit : ∀ r ∈ rows,∀ c ∈ r,Fit B c) (hB : B <= 10000000) :
 bB V (cu (ot rows i j v)) = bB V (cu rows) * hp 1:=by
 rw [<- aen V hV1 Ea (cu rows) (hp 1) EG i j v hij hj hv];exact Jb V Ea (fun a b ha hb=>RH V i j v B rows hL hrow hij hj zo hfit hB a b ha hb)
theorem aem {x : Dyadic} (h : x * hp 1 = 0) : x = 0:=by
 have h2 : x * hp 1 + x * hp 1 = x:=by
  have h3:=EG;have : x * hp 1 + x * hp 1 = x * (hp 1 + hp 1):=by grind
  rw [this,h3];grind
 rw [h] at h2;grind
theorem ael (V i j v B : Nat) (rows : List (List Raw)) (hV1 : 1 <= V) (Ea : V <= 4) (hL : rows.length = V + 1) (hrow : ∀ r ∈ rows,r.length = V) (hij : i < j) (hj : j <= V) (hv : v = i \/ v = j) (hfit : ∀ r ∈ rows,∀ c ∈ r,Fit B c) (hB : B <= 10000000) (h0 : eZ rows = 0) :
 eZ (ot rows i j v) = 0:=by
 obtain ⟨q1,q2,_,_,_⟩:=JX V i j v B rows hL hrow hij hj hfit hB;have hv1:=wj hL hrow hV1 zo;have hv2:=wj q1 q2 hV1 zo;unfold eZ at h0 ⊢;rw [hv1,if_neg zo,Int.toNat_natCast] at h0;rw [hv2,if_neg zo,Int.toNat_natCast];have hne : bB V (cu rows) ≠ 0:=by intro h;rw [if_pos h] at h0;cases h0
 rw [RG V i j v B rows hV1 Ea hL hrow hij hj hv hfit hB,if_neg (fun h=>hne (aem h))]
def lV (n : Nat) (second : Bool) (rows : List (List Raw)) : List (List Raw):=
 ot rows (fI (eY rows n) (n + 1)).1 (fI (eY rows n) (n + 1)).2.1 (if second then (fI (eY rows n) (n + 1)).1 else (fI (eY rows n) (n + 1)).2.1)
def Rw (n B : Nat) (rows : List (List Raw)) : Prop:=rows.length = n + 1 /\ (∀ r ∈ rows,r.length = n) /\ ∀ r ∈ rows,∀ c ∈ r,Fit B c
theorem Ee {n B : Nat} {rows : List (List Raw)} (h : Rw n B rows) (hn : 1 <= n) (hB : B <= 10000000) (s : Bool) : Rw n (B + 3) (lV n s rows):=by obtain ⟨h1,h2,h3⟩:=h;have hF:=Bi (eY rows n) (n + 1) zo;obtain ⟨q1,q2,q3,_,_⟩:=JX n (fI (eY rows n) (n + 1)).1 (fI (eY rows n) (n + 1)).2.1 (if s then (fI (eY rows n) (n + 1)).1 else (fI (eY rows n) (n + 1)).2.1) B rows h1 h2 hF.1 zo h3 hB;exact ⟨q1,q2,q3⟩
end Go.Proofs.YtdaadlblknpipaaGreatDoor
namespace Go.Proofs.YtdaadlblknpipaaGreatDoor
open Go.RowKit
attribute [local go_sem ↓] Go.wp_at_zero Go.wp_at_succ
theorem WH {n B : Nat} {rows : List (List Raw)} (h : Rw n B rows) (hn : 1 <= n) (xE : n <= 8) : eV rows = n:=wj h.1 h.2.1 hn xE
theorem aep (a : Option Addr) (cap n B : Nat) (rows : List (List Raw)) (w : World) (hn : 1 <= n) (xE : n <= 8) (hr : Rw n B rows) (ha : aW w a rows) (hB : B <= 10000000) (hT : az w) :
 Calls Tryz.prog 14 #[.slice a (n + 1) cap] w fun e w'=>∃ a1 c1 a2 c2,e = .returned (.tuple #[.slice a1 (n + 1) c1,.slice a2 (n + 1) c2,.int .i64 0]) /\ n + 1 <= c1 /\ n + 1 <= c2 /\
  aW w' a1 (lV n false rows) /\ aW w' a2 (lV n true rows) /\ Bw w w':=by
 obtain ⟨i,j,Y,hF⟩ : ∃ i j Y,fI (eY rows n) (n + 1) = (i,j,Y):=⟨_,_,_,rfl⟩;have h:=RI a (n + 1) cap n rows B i j Y w hr.1 (WH hr hn xE) hn ha hr.2.2 hB hT hF;unfold lV ot;rw [hF];exact h
end Go.Proofs.YtdaadlblknpipaaGreatDoor
