/- mat.bareiss,the walk: the determinant of whole numbers,up to four sides. -/
import Derived.Test.YtdaadlblknpipaaGreatDoorZ14
import Derived.Test.YtdaadlblknpipaaGreatDoorZ7
import Derived.Test.YtdaadlblknpipaaGreatDoorZ10
import Derived.Test.YtdaadlblknpipaaGreatDoorZ13
set_option linter.unusedVariables false
set_option linter.unusedSimpArgs false
set_option maxRecDepth 100000
set_option maxHeartbeats 16000000
namespace Go.Proofs.YtdaadlblknpipaaGreatDoor
open Go.RowKit
attribute [local go_sem ↓] Go.wp_at_zero Go.wp_at_succ
def Bs (w0 w : World) (base n go cap top r l K : Nat) (Z : Int) (k : Nat) (f : Nat -> Nat -> Int) (last : Int) (t : Bool) : Prop:=
 BS w0 w base n go cap top f /\ ai w r 28 [.bool false,.string ⟨#[]⟩] /\ ai w l 28 [.bool (au last),.string (bs (nt last.natAbs))] /\ fF n (n - k) k f last /\ dY n (n - k) k f last t = Z /\ last ≠ 0 /\
  ∃ Q,Q + 1 <= 2 ^ k * (K + 1) /\ last.natAbs < 2 ^ Q /\ ∀ a b,a < n -> b < n -> (f a b).natAbs < 2 ^ Q
theorem ajH (f : Nat -> Nat -> Int) (k : Nat) : bK f k (k + 0) = f:=by
 funext a b;unfold bK
 simp only [Nat.add_zero];by_cases h : a = k
 . rw [if_pos h,h]
 . rw [if_neg h,if_neg h]
theorem Bs.none {w0 w : World} {base n go cap top r l K k : Nat} {Z : Int} {f : Nat -> Nat -> Int} {last : Int} {t : Bool} (h : Bs w0 w base n go cap top r l K Z k f last t) (hk : k < n) (hp : mz f n k = none) : Z = 0:=by obtain ⟨_,_,_,_,h2,_⟩:=h;rw [show n - k = n - (k + 1) + 1 by omega] at h2;unfold dY at h2;rw [hp] at h2;exact h2.symm
theorem Bs.some {w0 w : World} {base n go cap top r l K k m : Nat} {Z : Int} {f : Nat -> Nat -> Int} {last : Int} {t : Bool} (h : Bs w0 w base n go cap top r l K Z k f last t) (hk : k < n) (hp : mz f n k = some m) :
 ∃ g,g = bK f k (k + m) /\ g k k ≠ 0 /\ (∀ a b,k < a -> a < n -> k < b -> b < n -> last ∣ bQ g k a b) /\ fF n (n - (k + 1)) (k + 1) (cX g k last) (g k k) /\ dY n (n - (k + 1)) (k + 1) (cX g k last) (g k k) (t != decide (0 < m)) = Z /\
  ∃ Q,2 * Q + 2 <= 2 ^ (k + 1) * (K + 1) /\ last.natAbs < 2 ^ Q /\ (∀ a b,a < n -> b < n -> (g a b).natAbs < 2 ^ Q) /\ (g k k).natAbs < 2 ^ (2 * Q + 1) /\ ∀ a b,a < n -> b < n -> (cX g k last a b).natAbs < 2 ^ (2 * Q + 1):=by
 obtain ⟨_,_,_,h1,h2,h3,Q,hQ,hl,hf⟩:=h;have Bb:=jC hp;rw [show n - k = n - (k + 1) + 1 by omega] at h1 h2;unfold fF at h1;unfold dY at h2;rw [hp] at h1 h2;simp only at h1 h2;obtain ⟨g,hg⟩ : ∃ g,g = bK f k (k + m):=⟨_,rfl⟩;rw [<- hg] at h1 h2;have gy : ∀ a b,a < n -> b < n -> (g a b).natAbs < 2 ^ Q:=by
  intro a b ha hb;rw [hg];unfold bK;refine hf _ _ ?_ hb;split
  . omega
  . split
    . omega
    . exact ha
 have Aq : 2 ^ Q <= 2 ^ (2 * Q + 1):=Nat.pow_le_pow_right zd zo;refine ⟨g,hg,?_,h1.1,h1.2,h2,Q,?_,hl,gy,Nat.lt_of_lt_of_le (gy k k hk hk) Aq,fun a b ha hb=>?_⟩
 . rw [hg];unfold bK;rw [if_pos rfl];exact Bb.2
 . rw [Nat.pow_succ];have : 2 ^ k * 2 * (K + 1) = 2 * (2 ^ k * (K + 1)):=by rw [Nat.mul_comm (2 ^ k) 2,Nat.mul_assoc]
   omega
 . unfold cX;split
   . rename_i h4
     have h5:=(LI g k a b Q (gy a b ha hb) (gy k k hk hk) (gy a k ha hk) (gy k b hk hb)).2.2;rcases div_lt _ last _ h5 with h6 | h6
     . exact h6
     . exact absurd (h1.1 a b h4.1 ha h4.2 hb) h6
   . exact Nat.lt_of_lt_of_le (gy a b ha hb) Aq
theorem Bs.next {w0 w : World} {base n go cap top r l kb K k : Nat} {Z : Int} {f g : Nat -> Nat -> Int} {x : Int} {t : Bool} (h : BT w0 w base n go cap top f r l kb x k) (hf : ∀ a b,a < n -> b < n -> f a b = g a b) (hx : x ≠ 0) (h1 : fF n (n - (k + 1)) (k + 1) g x) (h2 : dY n (n - (k + 1)) (k + 1) g x t = Z)
 (h3 : ∃ Q,Q + 1 <= 2 ^ (k + 1) * (K + 1) /\ x.natAbs < 2 ^ Q /\ ∀ a b,a < n -> b < n -> (g a b).natAbs < 2 ^ Q) : Bs w0 w base n go cap top r l K Z (k + 1) g x t:=
 ⟨(h.congr hf).1,h.2.1,h.2.2.1,h1,h2,hx,h3⟩
def CW (a0 : Act) (w0 : World) (cs : List (Addr × Value)) (x1 x2 x3 x4 P1 P2 N : Int) (dn : Nat -> Bool) (a : Act) (w : World) : Prop:=
 ∃ v1 v2 v3 v4 v5 v6 : Value,a = (((((a0.put (some 76) v1).put (some 77) v2).put (some 92) v3).put (some 93) v4).put (some 94) v5).put (some 10) v6 /\ ib cs w /\ Bw w0 w /\
  (dn 14 = true -> ∃ b,v1 = .slice (some ⟨b,0,none⟩) 2 2 /\ ai w b 28 [.bool (au x1),.string (bs (nt x1.natAbs)),.bool (au x2),.string (bs (nt x2.natAbs))]) /\ (dn 15 = true -> v2 = cn P1) /\
  (dn 30 = true -> ∃ b,v3 = .slice (some ⟨b,0,none⟩) 2 2 /\ ai w b 28 [.bool (au x3),.string (bs (nt x3.natAbs)),.bool (au x4),.string (bs (nt x4.natAbs))]) /\ (dn 31 = true -> v4 = cn P2) /\ (dn 32 = true -> v5 = cn N) /\
  (dn 33 = true -> ∃ b,v6 = .pointer (some ⟨b,0,none⟩) /\ w0.heap.size <= b /\ ai w b 28 [.bool false,.string ⟨#[]⟩])
theorem CW.init (a : Act) (w0 w : World) (cs : List (Addr × Value)) (x1 x2 x3 x4 P1 P2 N : Int) (hk : ib cs w) (hb : Bw w0 w) : CW a w0 cs x1 x2 x3 x4 P1 P2 N (fun _=>false) a w:=
 ⟨a.tmps.getD 76 undef,a.tmps.getD 77 undef,a.tmps.getD 92 undef,a.tmps.getD 93 undef,a.tmps.getD 94 undef,a.tmps.getD 10 undef,by rw [yo,yo,yo,yo,yo,yo],hk,hb,(fun h=>by cases h),(fun h=>by cases h),(fun h=>by cases h),(fun h=>by cases h),(fun h=>by cases h),(fun h=>by cases h)⟩
theorem aby (base n K : Nat) (f : Nat -> Nat -> Int) (v : Value) (w : World) (hn : 1 <= n) (bY : n <= 4) (hO : gP w base n (dW f n) n v) (dM : base <= w.heap.size) (xw : 1 <= K) (hK : ∀ a b,a < n -> b < n -> (f a b).natAbs < 2 ^ K) (hK2 : K <= 100000000) :
 Calls Tryz.prog 88 #[v] w fun e w'=>e = .returned (cn (dY n n 0 f 1 false)) /\ Below base w w':=by
 obtain ⟨go,cap,rfl,hcap,hbs⟩:=BS.begin hO hn;obtain ⟨Z,hZ⟩ : ∃ Z,dY n n 0 f 1 false = Z:=⟨_,rfl⟩;have hex:=Qr n hn bY f;have hsz : ∀ k Q : Nat,k <= n -> Q + 1 <= 2 ^ k * (K + 1) -> Q <= 1800000000:=by intro k Q h1 h2;have h3 : 2 ^ k <= 2 ^ 4:=Nat.pow_le_pow_right zd zo;have h4:=Nat.mul_le_mul_right (K + 1) h3;omega
 rw [hZ];have NM:=ah hbs;have HZ:=ah hZ;have NV:=ah hex;have uM:=ah hsz;have HK:=ah hK;clear hO hbs hZ hex hsz hK;have Hb : Hid (Bw w w):=Below.refl _ _;go_enter Tryz.func88,Tryz.ntmps88;go_wp2_with fail;obtain ⟨R,hR⟩ : ∃ R : World -> Prop,(fun W=>ai W (w.heap.size) 28 [.bool false,.string ⟨#[]⟩] /\ Bw w W) = R:=⟨_,rfl⟩;first | refine bB R ?hR ?_ | refine bA R ?hR ?_
 case hR=>subst hR;exact ⟨(ai.newAt w _ _ (b:=w.heap.size) rfl),zl⟩
 subst hR;rintro W ⟨qr,ae⟩;have Hr:=ah qr;clear qr;obtain ⟨r0,aj,r1,ar⟩:=Hr.out.g2;replace Hb:=az Hb ae;clear ae;go_wp2_with fail;refine (MK 1 _ zd zd).mono ?_;rintro e w1 ⟨rfl,ae⟩;clear r0 aj r1 ar;replace Hr:=kB Hr ae;obtain ⟨r0,aj,r1,ar⟩:=Hr.out.g2;replace Hb:=az Hb ae;clear ae;have vV:=Hr.out.lt;obtain ⟨W2,eZ⟩ : ∃ W2,(w1.alloc (.cells #[.bool (au 1),.string (bs (nt 1))] 28)) = W2:=⟨_,rfl⟩;have ae : Bw w1 W2:=by rw [<- eZ];exact zl
 clear r0 aj r1 ar;replace Hr:=kB Hr ae;have Hl : Hid (ai W2 (w1.heap.size) 28 [.bool (au 1),.string (bs (nt 1))]):=by rw [<- eZ];exact ai.newAt _ _ _ zm
 obtain ⟨r0,aj,r1,ar⟩:=Hr.out.g2;obtain ⟨l0,nV,l1,nW⟩:=Hl.out.g2;replace Hb:=az Hb ae;clear ae;have Ng:=ah (NM.out.below Hb.out zo);have aeZ : w.heap.size < w1.heap.size:=vV;have hq0:=Hr.out;have hq1:=Hl.out;clear r0 r1 aj ar l0 l1 nV nW;have hst : Bs w W2 base n go cap w.heap.size w.heap.size w1.heap.size K Z 0 f 1 false:=⟨Ng.out,hq0,hq1,NV.out,HZ.out,by decide,K,by omega,by rw [show (1 : Int).natAbs = 1 from rfl];exact Nat.one_lt_two_pow zo,HK.out⟩;clear hq0 hq1;have bX:=ah hst;have szW:=Hb.out.size;clear hst Ng Hb Hr Hl NM HK NV HZ;go_wp2_with fail;go_loopw [5,15] (fun s5 x wr=>∃ (k : Nat) (f' : Nat -> Nat -> Int) (last : Int) (t : Bool),k <= n /\ x = .int .i64 (k : Int) /\ s5 = .bool t /\ Bs w wr base n go cap w.heap.size w.heap.size w1.heap.size K Z k f' last t) (fun _ x _=>n - (intOf x).toNat);case atStart=>exact ⟨0,f,1,false,Nat.zero_le _,rfl,rfl,bX.out⟩
 case round=>
  clear bX;obtain ⟨k,f',last,t,hk,rfl,rfl,hS⟩:=hrel;obtain ⟨wk,hwk⟩ : ∃ wk,wk = wr:=⟨_,rfl⟩;subst hwk;by_cases hlt : k < n
  . obtain ⟨Q0,Ri,_,Rk⟩:=hS.2.2.2.2.2.2;have eY:=uM.out k Q0 hk Ri;have hlen : ∀ a b,a < n -> b < n -> (nt (f' a b).natAbs).length <= 1099511627776:=fun a b ha hb=>iY (Rk a b ha hb) zo;have hkc : k < cap:=by omega
    have HS:=ah hS;have lM:=ah hlen;have yz:=hS.1.2.2.2;clear hS Ri Rk eY hlen;have Hb : Hid (Bw wk wk):=Below.refl _ _;have Hr:=ah HS.out.2.1;have Hl:=ah HS.out.2.2.1;obtain ⟨r0,aj,r1,ar⟩:=Hr.out.g2;obtain ⟨l0,nV,l1,nW⟩:=Hl.out.g2;have EU:=Hr.out.lt;have agB:=Hl.out.lt;obtain ⟨W3,ot⟩ : ∃ W3,(wk.alloc (.cells #[.int .i64 (k : Int)] 3)) = W3:=⟨_,rfl⟩;have ae : Bw wk W3:=by rw [<- ot];exact zl
    clear r0 aj r1 ar;replace Hr:=kB Hr ae;clear l0 nV l1 nW;replace Hl:=kB Hl ae;have kZ : Hid (ai W3 (wk.heap.size) 3 [.int .i64 (k : Int)]):=by rw [<- ot];exact ai.newAt _ _ _ zm
    obtain ⟨r0,aj,r1,ar⟩:=Hr.out.g2;obtain ⟨l0,nV,l1,nW⟩:=Hl.out.g2;have dz:=kZ.out.c1;replace Hb:=az Hb ae;clear ae;have iO:=ah (HS.out.1.below Hb.out zo);go_wp2_with fail;refine (iO.out.index k wk.heap.size hlt zo dz lM.out).mono ?_;rintro e w4 ⟨rfl,ae⟩;clear r0 aj r1 ar l0 nV l1 nW dz;replace Hr:=kB Hr ae;replace Hl:=kB Hl ae;replace kZ:=kB kZ ae;obtain ⟨r0,aj,r1,ar⟩:=Hr.out.g2;obtain ⟨l0,nV,l1,nW⟩:=Hl.out.g2;have dz:=kZ.out.c1;replace Hb:=az Hb ae;clear ae;cases hp : mz f' n k with
    | none =>
      have hpv : BC f' n k = -1:=by unfold BC;rw [hp]
      have hz:=HS.out.none hlt hp;rw [hpv];have Yc:=ah (HS.out.1.2.2.1.trans (Hb.out.mono zo));clear HS lM iO hp;go_wp2;refine bodyPost_ret (v:=.agg #[.bool false,.string ⟨#[]⟩]) (by simp [results,Tryz.results88,go_sem,r0,r1]) rfl ⟨by rw [hz];rfl,?_⟩;exact (Yc.out.setCell zp _).setCell zp _
    | some m =>
      have hpv : BC f' n k = (m : Int):=by unfold BC;rw [hp]
      rw [hpv];obtain ⟨oF,_⟩:=jC hp;obtain ⟨g,hg,mQ,kE,Sp,RZ,Q,hQ,AQ,gy,SC,TP⟩:=HS.out.some hlt hp;have hl0:=HS.out.2.2.2.2.2.1;have vk : BT w w4 base n go cap w.heap.size f' w.heap.size w1.heap.size wk.heap.size last k:=⟨HS.out.1.below Hb.out zo,Hr.out,Hl.out,kZ.out,by omega,Nat.le_refl _,by omega,by omega⟩;have su:=ah vk;have Ym:=ah kE;have NW:=ah Sp;have NK:=ah RZ;have HQ:=ah hQ;have Oj:=ah AQ;have Od:=ah gy;have Og:=ah SC;have OL:=ah TP;have Hg:=ah hg;have CJ:=ah mQ;have mD:=ah hl0;clear vk kE Sp RZ hQ AQ gy SC TP hg mQ hl0 hpv hp HS lM iO Hb Hr Hl kZ r0 r1 aj ar l0 l1 nV nW dz;have hm0 : ¬ (m : Int) < 0:=by omega
      go_upto_if 27 with fail
      go_cut [5] (fun s5 wx=>s5 = .bool (t != decide (0 < m)) /\ BT w wx base n go cap w.heap.size g w.heap.size w1.heap.size wk.heap.size last k);case first=>
       by_cases hm : 0 < m
       . have rH : (0 : Int) < (m : Int):=by omega
         obtain ⟨g1,c1,g2,c2,e1,e2,e3,hsw⟩:=su.out.swap k (k + m) hlt zo;rw [<- Hg.out] at hsw;have Ih:=ah hsw;have kH:=xS n cap k (k : Int) (rfl : (some ⟨go,0,none⟩ : Option Addr) = _) hlt rfl;have oD:=xS n cap (k + m) ((k + m : Nat) : Int) (rfl : (some ⟨go,0,none⟩ : Option Addr) = _) zo rfl;rw [Nat.zero_add,Nat.mul_one] at kH oD;have hwm : IntKind.i64.wrap ((k : Int) + (m : Int)) = ((k + m : Nat) : Int):=by rw [IntKind.wrap_i64];omega
         obtain ⟨km,rG⟩ : ∃ km,k + m = km:=⟨_,rfl⟩;rw [rG] at e2 oD hwm Ih;have kZ:=ah su.out.2.2.2.1;have Hxa : Hid (bj w4 go k [.slice (some ⟨g1,0,none⟩) n c1]):=fun j hj=>by
          obtain rfl : j = 0:=by simp at hj;omega
          exact e1
         have Hxb : Hid (bj w4 go km [.slice (some ⟨g2,0,none⟩) n c2]):=fun j hj=>by
          obtain rfl : j = 0:=by simp at hj;omega
          exact e2
         have z1 : w4.drew.frozen? ⟨go,k,none⟩ = false:=e3 k;have z2 : w4.drew.frozen? ⟨go,km,none⟩ = false:=e3 km;have z3 : w4.frozen? ⟨go,km,none⟩ = false:=e3 km;have y2 : (w4.setCell ⟨go,k,none⟩ (.slice (some ⟨g2,0,none⟩) n c2)).cell? ⟨go,km,none⟩ = some (.slice (some ⟨g2,0,none⟩) n c2):=aG (.inr zp) e2;have Hkm:=ah rG;clear hsw e1 e2 e3 rG;go_wp2_with fail;have dz:=kZ.out.c1;have xa0:=Hxa.out.w1;have xb0:=Hxb.out.w1;have hgo : go < wk.heap.size:=by have:=su.out.1.2.1.1;omega
         refine MS (fun w'=>w'.cell? ⟨wk.heap.size,0,none⟩ = some (.int .i64 (k : Int))) (fun i=>Nat.blt i 19) (.rd 0 (.rd 1 (.rd 2 (.rd 3 (.rd 4 (.rd 5 (.rd 6 (.rd 7 (.rd 8 (.rd 9 (.rd 10 (.rd 12 (.rd 13 (.rd 14 (.br 11 15 (.lin [(15,false),(16,true),(17,false),(18,false),(19,false)]) (.lin [(11,false),(16,true),(17,false),(18,false),(19,false)])))))))))))))))) zk zk rfl zk zc dz ?_;iterate 14 (refine VJ rfl rfl (v:=?_) (fun w' hw'=>?_) ?_;rotate_left;(focus go_simp;try with_reducible rfl);try simp only [UU])
         refine Fq rfl rfl rfl rfl rfl rfl  (fun K hK=>?_) (fun K hK=>?_) 
         . go_simp;refine hK _ _ (by first | exact fun _=>dz | exact fun _=>eV zg dz) ?_;clear hK K;try simp only [UU]
           refine wy ?_;refine aI rfl rfl (fun K hK=>?_);go_simp;refine hK _ _ (by first | exact fun h=>absurd h zd | exact fun _=>dz | exact fun _=>eV zg dz) ?_;clear hK K;try simp only [UU]
           refine pT rfl rfl ?_;try simp only [UU]
           refine aI rfl rfl (fun K hK=>?_);go_simp;refine hK _ _ (by first | exact fun h=>absurd h zd | exact fun _=>dz | exact fun _=>eV zg dz) ?_;clear hK K;try simp only [UU]
           refine aI rfl rfl (fun K hK=>?_);go_simp;refine hK _ _ (by first | exact fun h=>absurd h zd | exact fun _=>dz | exact fun _=>eV zg dz) ?_;clear hK K;try simp only [UU]
           refine aI rfl rfl (fun K hK=>?_);go_simp;refine hK _ _ (by first | exact fun h=>absurd h zd | exact fun _=>dz | exact fun _=>eV zg dz) ?_;clear hK K;try simp only [UU]
           simp only [aV];go_wp2_with fail;go_meet;exact ⟨by simp [hm],Ih.out.drew⟩
         . go_simp;refine hK _ _ (by first | exact fun _=>dz | exact fun _=>eV zg dz) ?_;clear hK K;try simp only [UU]
           refine wy ?_;refine aI rfl rfl (fun K hK=>?_);go_simp;refine hK _ _ (by first | exact fun h=>absurd h zd | exact fun _=>dz | exact fun _=>eV zg dz) ?_;clear hK K;try simp only [UU]
           refine pT rfl rfl ?_;try simp only [UU]
           refine aI rfl rfl (fun K hK=>?_);go_simp;refine hK _ _ (by first | exact fun h=>absurd h zd | exact fun _=>dz | exact fun _=>eV zg dz) ?_;clear hK K;try simp only [UU]
           refine aI rfl rfl (fun K hK=>?_);go_simp;refine hK _ _ (by first | exact fun h=>absurd h zd | exact fun _=>dz | exact fun _=>eV zg dz) ?_;clear hK K;try simp only [UU]
           refine aI rfl rfl (fun K hK=>?_);go_simp;refine hK _ _ (by first | exact fun h=>absurd h zd | exact fun _=>dz | exact fun _=>eV zg dz) ?_;clear hK K;try simp only [UU]
           simp only [aV];go_wp2_with fail;go_meet;exact ⟨by simp [hm],Ih.out.drew⟩
       . have hm2 : ¬ (0 : Int) < (m : Int):=by omega
         obtain rfl : m = 0:=by omega
         go_wp2_with fail;go_meet;refine ⟨by simp,?_⟩;rw [Hg.out,ajH];exact su.out
      case rest=>
       obtain ⟨rfl,vk⟩:=hcut;have su:=ah vk;have eY:=uM.out (k + 1) (2 * Q + 1) zo (by have:=HQ.out;omega);clear vk;have dz : wc.cell? ⟨wk.heap.size,0,none⟩ = some (.int .i64 (k : Int)):=su.out.2.2.2.1.cell 0;go_wp2_with fail;go_loopw [8] (fun x wr=>∃ i : Nat,k < i /\ i <= n /\ x = .int .i64 (i : Int) /\ BT w wr base n go cap w.heap.size (jf g k last i (k + 1)) w.heap.size w1.heap.size wk.heap.size last k) (fun x _=>n - (intOf x).toNat);case atStart=>exact ⟨k + 1,by omega,by omega,by go_num,by rw [ahU];exact su.out⟩
       case round=>
        clear dz su;obtain ⟨i,AO,hin,rfl,hT⟩:=hrel;have yT:=ah hT;clear hT;have dz : wr.cell? ⟨wk.heap.size,0,none⟩ = some (.int .i64 (k : Int)):=yT.out.2.2.2.1.cell 0;by_cases bi : i < n
        . obtain ⟨wi,pP⟩ : ∃ wi,wi = wr:=⟨_,rfl⟩;subst pP;go_wp2_with fail;go_loopw [9] (fun x wr=>∃ j : Nat,k < j /\ j <= n /\ x = .int .i64 (j : Int) /\ BT w wr base n go cap w.heap.size (jf g k last i j) w.heap.size w1.heap.size wk.heap.size last k) (fun x _=>n - (intOf x).toNat);case atStart=>exact ⟨k + 1,by omega,by omega,by go_num,yT.out⟩
          case round=>
           clear dz yT;obtain ⟨j,hkj,hjn,rfl,hT⟩:=hrel;by_cases fU : j < n
           . have wJ:=ah hT;clear hT;obtain ⟨gi,ci,li,ti,ei,ri,_⟩:=wJ.out.row i bi;obtain ⟨gk,ck,lk,tk,ek,rk,_⟩:=wJ.out.row k hlt;obtain ⟨p1,p2,p3,p4⟩:=ahR g k last i j;obtain ⟨aa,CY⟩:=ri j fU;obtain ⟨ab,Db⟩:=rk k hlt;obtain ⟨ac,Dc⟩:=ri k hlt;obtain ⟨ad,Dd⟩:=rk j fU;rw [p1] at aa CY;rw [p2] at ab Db;rw [p3] at ac Dc;rw [p4] at ad Dd;have gy:=Od.out;have q1:=gy i j bi fU;have q2:=gy k k hlt hlt;have q3:=gy i k bi hlt;have q4:=gy k j hlt fU;obtain ⟨m1,m2,m3⟩:=LI g k i j Q q1 q2 q3 q4;have kE:=Ym.out i j AO bi hkj fU;have Tg:=fun a b=>congrFun (congrFun (ahS g k last i j AO hkj) a) b;have hN : g i j * g k k - g i k * g k j = bQ g k i j:=rfl;generalize bQ g k i j = N at *;obtain ⟨x1,hx1⟩ : ∃ x,g i j = x:=⟨_,rfl⟩;obtain ⟨x2,hx2⟩ : ∃ x,g k k = x:=⟨_,rfl⟩;obtain ⟨x3,hx3⟩ : ∃ x,g i k = x:=⟨_,rfl⟩;obtain ⟨x4,Ud⟩ : ∃ x,g k j = x:=⟨_,rfl⟩;rw [hx1] at q1 m1 hN aa CY;rw [hx2] at q2 m1 hN ab Db;rw [hx3] at q3 m2 hN ac Dc;rw [Ud] at q4 m2 hN ad Dd;obtain ⟨P1,JG⟩ : ∃ x,x1 * x2 = x:=⟨_,rfl⟩;obtain ⟨P2,oc⟩ : ∃ x,x3 * x4 = x:=⟨_,rfl⟩;rw [JG] at m1 hN;rw [oc] at m2 hN;have L1 : (nt x1.natAbs).length <= 17179869184:=iY q1 zo;have L2 : (nt x2.natAbs).length <= 17179869184:=iY q2 zo;have L3 : (nt x3.natAbs).length <= 17179869184:=iY q3 zo;have L4 : (nt x4.natAbs).length <= 17179869184:=iY q4 zo;have L5 : (nt P1.natAbs).length <= 34359738368:=iY m1 zo;have L6 : (nt P2.natAbs).length <= 34359738368:=iY m2 zo;have L7 : (nt N.natAbs).length <= 34359738368:=iY m3 zo;have L8 : (nt last.natAbs).length <= 34359738368:=iY Oj.out zo;have iP:=ah L1;have Nq:=ah L2;have yL:=ah L3;have Nr:=ah L4;have Ns:=ah L5;have Nt:=ah L6;have Nu:=ah L7;have Nv:=ah L8;have cS:=ah JG;have cV:=ah oc;have HN:=ah hN;have Gr:=ah kE;have Ov:=ah Tg;clear L1 L2 L3 L4 L5 L6 L7 L8 JG oc hN kE Tg q1 q2 q3 q4 m1 m2 m3 hx1 hx2 hx3 Ud gy p1 p2 p3 p4 ri rk;have Ch : ∀ (b o : Nat) (u v : Value),wr.cell? ⟨b,o,none⟩ = some u -> wr.cell? ⟨b,o + 1,none⟩ = some v -> bj wr b o [u,v]:=by
              intro b o u v h1 h2 j hj;rcases j with _ | _ | j
              . exact h1
              . exact h2
              . simp at hj;omega
             have MQ : ∀ (b o : Nat) (u : Value),wr.cell? ⟨b,o,none⟩ = some u -> bj wr b o [u]:=by
              intro b o u h1 j hj;obtain rfl : j = 0:=by simp at hj;omega
              exact h1
             have kZ:=ah wJ.out.2.2.2.1;have sJ:=ah (MQ _ _ _ ei);have uO:=ah (MQ _ _ _ ek);have sk:=ah (Ch _ _ _ _ aa CY);have jF:=ah (Ch _ _ _ _ ab Db);have Gc:=ah (Ch _ _ _ _ ac Dc);have uu:=ah (Ch _ _ _ _ ad Dd);clear MQ Ch ei ek aa CY ab Db ac Dc ad Dd;have ixi:=xS n cap i (i : Int) (rfl : (some ⟨go,0,none⟩ : Option Addr) = _) bi rfl;have Uv:=xS n cap k (k : Int) (rfl : (some ⟨go,0,none⟩ : Option Addr) = _) hlt rfl;rw [Nat.zero_add,Nat.mul_one] at ixi Uv;have EO:=rN n ci j (j : Int) (rfl : (some ⟨gi,0,none⟩ : Option Addr) = _) fU rfl;have Ur:=rN n ci k (k : Int) (rfl : (some ⟨gi,0,none⟩ : Option Addr) = _) hlt rfl;have Us:=rN n ck j (j : Int) (rfl : (some ⟨gk,0,none⟩ : Option Addr) = _) fU rfl;have Ut:=rN n ck k (k : Int) (rfl : (some ⟨gk,0,none⟩ : Option Addr) = _) hlt rfl;rw [Nat.zero_add] at EO Ur Us Ut;go_upto_region 18 with fail
             go_cut [10] (fun BW wx=>∃ b : Nat,BW = .pointer (some ⟨b,0,none⟩) /\ ai wx b 28 [.bool (au N),.string (bs (nt N.natAbs))] /\ Bw wr wx);case first=>
              clear Od HQ Oj Og OL Hg NK NW Ov Gr CJ wJ;obtain ⟨w0,hw0⟩ : ∃ w0,w0 = w:=⟨_,rfl⟩;subst hw0;obtain ⟨w,KY⟩ : ∃ w,w = wr:=⟨_,rfl⟩;subst KY;have Hb : Hid (Bw w w):=Below.refl _ _;have dz:=kZ.out.c1;have oV:=sJ.out.w1;have um:=uO.out.w1;obtain ⟨CZ,Da⟩:=sk.out.w2;obtain ⟨sL,sM⟩:=jF.out.w2;obtain ⟨ac0,ac1⟩:=Gc.out.w2;obtain ⟨ad0,ad1⟩:=uu.out.w2;obtain ⟨cs,hcs⟩ : ∃ cs : List (Addr × Value),[(⟨wk.heap.size,0,none⟩,.int .i64 (k : Int)),(⟨go,i,none⟩,.slice (some ⟨gi,0,none⟩) n ci),(⟨go,k,none⟩,.slice (some ⟨gk,0,none⟩) n ck),(⟨gi,j * 2,none⟩,.bool (au x1)),(⟨gi,j * 2 + 1,none⟩,.string (bs (nt x1.natAbs))),(⟨gk,k * 2,none⟩,.bool (au x2)),(⟨gk,k * 2 + 1,none⟩,.string (bs (nt x2.natAbs))),(⟨gi,k * 2,none⟩,.bool (au x3)),(⟨gi,k * 2 + 1,none⟩,.string (bs (nt x3.natAbs))),(⟨gk,j * 2,none⟩,.bool (au x4)),(⟨gk,j * 2 + 1,none⟩,.string (bs (nt x4.natAbs)))] = cs:=⟨_,rfl⟩;have qH : ∀ w',ib cs w' -> w'.cell? ⟨wk.heap.size,0,none⟩ = some (.int .i64 (k : Int)) /\ w'.cell? ⟨go,i,none⟩ = some (.slice (some ⟨gi,0,none⟩) n ci) /\ w'.cell? ⟨go,k,none⟩ = some (.slice (some ⟨gk,0,none⟩) n ck) /\ w'.cell? ⟨gi,j * 2,none⟩ = some (.bool (au x1)) /\ w'.cell? ⟨gi,j * 2 + 1,none⟩ = some (.string (bs (nt x1.natAbs))) /\ w'.cell? ⟨gk,k * 2,none⟩ = some (.bool (au x2)) /\ w'.cell? ⟨gk,k * 2 + 1,none⟩ = some (.string (bs (nt x2.natAbs))) /\ w'.cell? ⟨gi,k * 2,none⟩ = some (.bool (au x3)) /\ w'.cell? ⟨gi,k * 2 + 1,none⟩ = some (.string (bs (nt x3.natAbs))) /\ w'.cell? ⟨gk,j * 2,none⟩ = some (.bool (au x4)) /\ w'.cell? ⟨gk,j * 2 + 1,none⟩ = some (.string (bs (nt x4.natAbs))):=by subst hcs;intro w' h;exact ⟨h.hd,h.tl.hd,h.tl.tl.hd,h.tl.tl.tl.hd,h.tl.tl.tl.tl.hd,h.tl.tl.tl.tl.tl.hd,h.tl.tl.tl.tl.tl.tl.hd,h.tl.tl.tl.tl.tl.tl.tl.hd,h.tl.tl.tl.tl.tl.tl.tl.tl.hd,h.tl.tl.tl.tl.tl.tl.tl.tl.tl.hd,h.tl.tl.tl.tl.tl.tl.tl.tl.tl.tl.hd⟩
              have bF : Hid (ib cs w):=by subst hcs;show ib _ _;intro p hp;simp only [List.mem_cons,List.not_mem_nil,or_false] at hp;rcases hp with rfl | rfl | rfl | rfl | rfl | rfl | rfl | rfl | rfl | rfl | rfl<;>assumption
              refine akA (fun w'=>ib cs w') (fun i=>Nat.blt i 34) [14,15,30,31,32,33] (fun k=>if k = 15 then [14] else if k = 31 then [15,30] else if k = 32 then [15,31] else []) [(34,false)] [0,1,2,3,4,5,6,7,8,9,10,11,12,13,16,17,18,19,20,21,22,23,24,25,26,27,28,29] zk zk rfl zk zc bF.out.drew ?_;iterate 28 (refine ah6 rfl rfl (v:=?_) (fun w' hw'=>?_) ?_;rotate_left;(focus have hw':=qH w' hw';obtain ⟨q0,q1,q2,q3,q4,q5,q6,q7,q8,q9,ug⟩:=hw';go_simp;try with_reducible rfl);try simp only [UU])
              clear dz oV um CZ Da sL sM ac0 ac1 ad0 ad1 kZ sJ uO sk jF Gc uu qH hcs;refine ah5 (fun a0=>CW a0 w cs x1 x2 x3 x4 P1 P2 N) (CW.init _ _ _ _ _ _ _ _ _ _ _ bF.out.drew (Below.refl _ _).drew) ?_ ?_ ?_
              . rintro dn a' w' ⟨_,_,_,_,_,_,_,h,_⟩;exact h
              . intro k0 jv dn a' w' _ hD hI;obtain ⟨v1,v2,v3,v4,v5,v6,rfl,rh,rc,f1,f2,f3,f4,f5,f6⟩:=hI;simp only [List.mem_cons,List.not_mem_nil,or_false] at jv;rcases jv with rfl | rfl | rfl | rfl | rfl | rfl
                . have xw:=rh.alloc (.cells #[.bool (au x1),.string (bs (nt x1.natAbs)),.bool (au x2),.string (bs (nt x2.natAbs))] 28);have hal:=(Below.refl w'.heap.size w').alloc (Nat.le_refl _) (.cells #[.bool (au x1),.string (bs (nt x1.natAbs)),.bool (au x2),.string (bs (nt x2.natAbs))] 28);refine yj rfl rfl (fun K hK=>?_);clear f1;simp only [Act.put,U1,U2,U3];go_simp;refine hK _ _ ⟨.slice (some ⟨w'.heap.size,0,none⟩) 2 2,v2,v3,v4,v5,v6,by simp only [Act.put,U1,U2,U3],xw,aJ rc hal,fun _=>⟨_,rfl,ai.new _ _ _⟩,fun h=>f2 (by simpa using h),fun h=>?_,fun h=>f4 (by simpa using h),fun h=>f5 (by simpa using h),fun h=>?_⟩
                  . obtain ⟨b,e,q⟩:=f3 (by simpa using h);exact ⟨b,e,q.below hal⟩
                  . obtain ⟨b,e,hb,q⟩:=f6 (by simpa using h);exact ⟨b,e,hb,q.below hal⟩
                . obtain ⟨b,rfl,q⟩:=f1 (hD 14 zm);refine yj rfl rfl (fun K hK=>?_);clear f1;simp only [Act.put,U1,U2,U3];go_simp;with_reducible refine (WS x1 x2 P1 cS.out b 2 _ _ iP.out Nq.out q).mono ?_
                  rintro e w2 ⟨rfl,hq⟩;refine hK _ _ ⟨_,cn P1,v3,v4,v5,v6,by simp only [Act.put,U1,U2,U3],rh.below hq,aJ rc hq,fun _=>⟨b,rfl,q.below hq⟩,fun _=>rfl,fun h=>?_,fun h=>f4 (by simpa using h),fun h=>f5 (by simpa using h),fun h=>?_⟩
                  . obtain ⟨b,e,q⟩:=f3 (by simpa using h);exact ⟨b,e,q.below hq⟩
                  . obtain ⟨b,e,hb,q⟩:=f6 (by simpa using h);exact ⟨b,e,hb,q.below hq⟩
                . have xw:=rh.alloc (.cells #[.bool (au x3),.string (bs (nt x3.natAbs)),.bool (au x4),.string (bs (nt x4.natAbs))] 28);have hal:=(Below.refl w'.heap.size w').alloc (Nat.le_refl _) (.cells #[.bool (au x3),.string (bs (nt x3.natAbs)),.bool (au x4),.string (bs (nt x4.natAbs))] 28);refine yj rfl rfl (fun K hK=>?_);clear f3;simp only [Act.put,U1,U2,U3];go_simp;refine hK _ _ ⟨v1,v2,.slice (some ⟨w'.heap.size,0,none⟩) 2 2,v4,v5,v6,by simp only [Act.put,U1,U2,U3],xw,aJ rc hal,fun h=>?_,fun h=>f2 (by simpa using h),fun _=>⟨_,rfl,ai.new _ _ _⟩,fun h=>f4 (by simpa using h),fun h=>f5 (by simpa using h),fun h=>?_⟩
                  . obtain ⟨b,e,q⟩:=f1 (by simpa using h);exact ⟨b,e,q.below hal⟩
                  . obtain ⟨b,e,hb,q⟩:=f6 (by simpa using h);exact ⟨b,e,hb,q.below hal⟩
                . obtain ⟨b,rfl,q⟩:=f3 (hD 30 zm);obtain rfl:=f2 (hD 15 zm);refine yj rfl rfl (fun K hK=>?_);clear f3;simp only [Act.put,U1,U2,U3];go_simp;with_reducible refine (WS x3 x4 P2 cV.out b 2 _ _ yL.out Nr.out q).mono ?_
                  rintro e w2 ⟨rfl,hq⟩;refine hK _ _ ⟨v1,cn P1,.slice (some ⟨b,0,none⟩) 2 2,cn P2,v5,v6,by simp only [Act.put,U1,U2,U3],rh.below hq,aJ rc hq,fun h=>?_,fun _=>rfl,fun _=>⟨b,rfl,q.below hq⟩,fun _=>rfl,fun h=>f5 (by simpa using h),fun h=>?_⟩
                  . obtain ⟨b,e,q⟩:=f1 (by simpa using h);exact ⟨b,e,q.below hq⟩
                  . obtain ⟨b,e,hb,q⟩:=f6 (by simpa using h);exact ⟨b,e,hb,q.below hq⟩
                . obtain rfl:=f2 (hD 15 zm);obtain rfl:=f4 (hD 31 zm);refine yj rfl rfl (fun K hK=>?_);clear f2 f4;simp only [Act.put,U1,U2,U3];go_simp;with_reducible refine (akn P1 P2 N HN.out _ Ns.out Nt.out).mono ?_
                  rintro e w2 ⟨rfl,hq⟩;refine hK _ _ ⟨v1,_,v3,_,cn N,v6,by simp only [Act.put,U1,U2,U3],rh.below hq,aJ rc hq,fun h=>?_,fun _=>rfl,fun h=>?_,fun _=>rfl,fun _=>rfl,fun h=>?_⟩
                  . obtain ⟨b,e,q⟩:=f1 (by simpa using h);exact ⟨b,e,q.below hq⟩
                  . obtain ⟨b,e,q⟩:=f3 (by simpa using h);exact ⟨b,e,q.below hq⟩
                  . obtain ⟨b,e,hb,q⟩:=f6 (by simpa using h);exact ⟨b,e,hb,q.below hq⟩
                . have xw:=rh.alloc (.cells #[.bool false,.string ⟨#[]⟩] 28);have hal:=(Below.refl w'.heap.size w').alloc (Nat.le_refl _) (.cells #[.bool false,.string ⟨#[]⟩] 28);refine yj rfl rfl (fun K hK=>?_);clear f6;simp only [Act.put,U1,U2,U3];go_simp;refine hK _ _ ⟨v1,v2,v3,v4,v5,.pointer (some ⟨w'.heap.size,0,none⟩),by simp only [Act.put,U1,U2,U3],xw,aJ rc hal,fun h=>?_,fun h=>f2 (by simpa using h),fun h=>?_,fun h=>f4 (by simpa using h),fun h=>f5 (by simpa using h),fun _=>⟨_,rfl,rc.size,ai.new _ _ _⟩⟩
                  . obtain ⟨b,e,q⟩:=f1 (by simpa using h);exact ⟨b,e,q.below hal⟩
                  . obtain ⟨b,e,q⟩:=f3 (by simpa using h);exact ⟨b,e,q.below hal⟩
              . intro dn a' w' hall hI;obtain ⟨v1,v2,v3,v4,v5,v6,rfl,rh,rc,f1,f2,f3,f4,f5,f6⟩:=hI;obtain rfl:=f5 (hall 32 zm);obtain ⟨b,rfl,hb,q⟩:=f6 (hall 33 zm);obtain ⟨pW,alh,pX,ali⟩:=q.g2;have hQ9:=(q.set 0 (.bool (au N))).set 1 (.string (bs (nt N.natAbs)));have hB9:=(rc.sc b 0 hb (.bool (au N))).sc b 1 hb (.string (bs (nt N.natAbs)));clear f1 f2 f3 f4 f5 f6;refine aI rfl rfl (fun K hK=>?_);simp only [Act.put,U1,U2,U3];go_simp;refine hK _ _ (fun h=>absurd h zd) ?_;clear hK K;simp only [aV];go_wp2_with fail;go_meet;exact ⟨b,rfl,hQ9,hB9⟩
             case rest=>
              obtain ⟨bx,rfl,qx,qb⟩:=hcut;have yU:=ah (wJ.out.below qb);have zF:=ah qx;clear qx qb wJ kZ sJ uO sk jF Gc uu Uv Ur Us Ut EO iP Nq yL Nr Ns Nt cS cV HN li lk ti tk;obtain ⟨g9,c9,lt9,lu9,e9,r9,f9⟩:=yU.out.aog i bi;have ne9:=yU.out.1.row_ne i bi e9;have nx9 : bx ≠ g9:=by rintro rfl;have h1:=(r9 1 zo).1;rw [zF.out.cell] at h1;simp at h1
              obtain ⟨Mc,Md⟩:=r9 j fU;obtain ⟨y,hy⟩ : ∃ y,jf g k last i j i j = y:=⟨_,rfl⟩;rw [hy] at Mc Md;have sJ : Hid (bj wc go i [.slice (some ⟨g9,0,none⟩) n c9]):=fun j hj=>by
               obtain rfl : j = 0:=by simp at hj;omega
               exact e9
              have sk : Hid (bj wc g9 (j * 2) [.bool (au y),.string (bs (nt y.natAbs))]):=fun j' hj=>by
               rcases j' with _ | _ | j'
               . exact Mc
               . exact Md
               . simp at hj;omega
              have Hl:=ah yU.out.2.2.1;have EO:=rN n c9 j (j : Int) (rfl : (some ⟨g9,0,none⟩ : Option Addr) = _) fU rfl;rw [Nat.zero_add] at EO;obtain ⟨Dv,Jw⟩ : ∃ Dv,N / last = Dv:=⟨_,rfl⟩;have Sj : Calls Tryz.prog 128 #[.agg #[.bool (au N),.string (bs (nt N.natAbs))],.agg #[.bool (au last),.string (bs (nt last.natAbs))]] wc.drew fun e w'=>∃ r,e = .returned (.tuple #[cn Dv,r,.bool true]) /\ (w'.frozen? ⟨g9,j * 2,none⟩ = false /\ w'.frozen? ⟨g9,j * 2 + 1,none⟩ = false) /\ Below wc.drew.heap.size wc.drew w':=
               (aki N last wc.drew Nu.out Nv.out mD.out Gr.out).mono (fun e w' ⟨r,he,hb⟩=>⟨r,by rw [he,Jw],⟨(f9 w' (aN hb)).1 _,(f9 w' (aN hb)).1 _⟩,hb⟩)
              have Yp:=ah f9;have Yi:=ah Sj;have FO:=ah Jw;clear Mc Md hy e9 r9 f9 Sj Jw Nu Nv Gr;have Hb : Hid (Bw wc wc):=Below.refl _ _;go_wp2_with fail;have oV:=sJ.out.w1;obtain ⟨CZ,Da⟩:=sk.out.w2;obtain ⟨pW,pX⟩:=zF.out.c2;obtain ⟨l0,l1⟩:=Hl.out.c2;refine bE (fun w'=>w'.cell? ⟨go,i,none⟩ = some (.slice (some ⟨g9,0,none⟩) n c9) /\ w'.cell? ⟨bx,0,none⟩ = some (.bool (au N)) /\ w'.cell? ⟨bx,1,none⟩ = some (.string (bs (nt N.natAbs))) /\ w'.cell? ⟨w1.heap.size,0,none⟩ = some (.bool (au last)) /\ w'.cell? ⟨w1.heap.size,1,none⟩ = some (.string (bs (nt last.natAbs)))) (fun i=>Nat.blt i 100000) [(0,true),(1,true),(2,true),(3,true),(4,true),(5,true),(6,true),(7,false),(8,true),(9,true),(10,true),(11,true),(12,true),(13,false)] zk zk rfl zk zc ⟨oV,pW,pX,l0,l1⟩ ?_;iterate 7 (refine pT rfl rfl ?_ (by intro w' ⟨q0,q1,q2,q3,q4⟩;go_simp;try with_reducible rfl);try simp only [UU])
              refine aI rfl rfl (fun K hK=>?_);go_simp;with_reducible refine (Yi.out).mono ?_
              rintro e w5 ⟨rr,rfl,⟨z0,z1⟩,hq⟩;have ae : Bw wc w5:=by first | exact hq | exact aN hq
              clear oV CZ Da pW pX l0 l1;replace sJ:=kW sJ ae;replace sk:=kW sk ae;replace zF:=kB zF ae;replace Hl:=kB Hl ae;have oV:=sJ.out.w1;obtain ⟨CZ,Da⟩:=sk.out.w2;obtain ⟨pW,pX⟩:=zF.out.c2;obtain ⟨l0,l1⟩:=Hl.out.c2;replace Hb:=az Hb ae;clear ae;refine hK _ _ (fun _=>⟨oV,pW,pX,l0,l1⟩) ?_;clear hK K;try simp only [UU]
              iterate 5 (refine pT rfl rfl ?_;try simp only [UU])
              refine aI rfl rfl (fun K hK=>?_);go_simp;refine hK _ _ (by first | exact fun h=>absurd h zd | exact fun _=>⟨oV,pW,pX,l0,l1⟩ | exact fun _=>⟨(by first | exact oV | exact aG zf oV | exact aG zf (aG zf oV) | exact aG zf (aG zf (aG zf oV))),(by first | exact pW | exact aG zf pW | exact aG zf (aG zf pW) | exact aG zf (aG zf (aG zf pW))),(by first | exact pX | exact aG zf pX | exact aG zf (aG zf pX) | exact aG zf (aG zf (aG zf pX))),(by first | exact l0 | exact aG zf l0 | exact aG zf (aG zf l0) | exact aG zf (aG zf (aG zf l0))),(by first | exact l1 | exact aG zf l1 | exact aG zf (aG zf l1) | exact aG zf (aG zf (aG zf l1)))⟩) ?_;clear hK K;try simp only [UU]
              simp only [aV];go_wp2;go_roundw;case rel=>have h9:=(Yp.out w5 Hb.out).2 j fU Dv;rw [<- FO.out] at h9;exact ⟨j + 1,by omega,by omega,by go_num,by rw [FO.out] at h9;exact h9.congr (fun a b _ _=>by rw [<- FO.out];exact Ov.out a b)⟩
              case measure=>simp [intOf];omega
           . obtain rfl : j = n:=by omega
             have HT:=ah hT;clear hT;go_wp2;go_roundw;case rel=>exact ⟨i + 1,by omega,by omega,by go_num,HT.out.congr (fun a b _ hb=>ahT g k last i j a b hb)⟩
             case measure=>simp [intOf];omega
        . obtain rfl : i = n:=by omega
          have hT:=yT.out.congr (fun a b ha _=>ahQ g k last i a b ha);obtain ⟨gk,ck,lk,tk,ek,rk,_⟩:=hT.row k hlt;have e1 : cX g k last k k = g k k:=by unfold cX;rw [if_neg zo]
          obtain ⟨DG,DI⟩:=rk k hlt;rw [e1] at DG DI;obtain ⟨x,hx⟩ : ∃ x,g k k = x:=⟨_,rfl⟩;have mQ:=CJ.out;have hg2:=Og.out;have Hn : Hid (∃ Q,Q + 1 <= 2 ^ (k + 1) * (K + 1) /\ x.natAbs < 2 ^ Q /\ ∀ a b,a < i -> b < i -> (cX g k last a b).natAbs < 2 ^ Q):=⟨2 * Q + 1,by have:=HQ.out;omega,by rw [<- hx];exact hg2,OL.out⟩;have Gs:=NW.out;have Gg:=NK.out;rw [hx] at DG DI mQ Gs Gg;have Xp:=ah Gs;have Xl:=ah Gg;have hLK : w1.heap.size < wk.heap.size:=by have:=agB;omega
          have qT:=ah (hT.setLast x zo zo);have Hl:=ah hT.2.2.1;have SL:=xS i cap k (k : Int) (rfl : (some ⟨go,0,none⟩ : Option Addr) = _) hlt rfl;have aeR:=rN i ck k (k : Int) (rfl : (some ⟨gk,0,none⟩ : Option Addr) = _) hlt rfl;rw [Nat.zero_add] at SL aeR;rw [Nat.mul_one] at SL;have kZ:=ah hT.2.2.2.1;have uO : Hid (bj wr go k [.slice (some ⟨gk,0,none⟩) i ck]):=fun j hj=>by
           obtain rfl : j = 0:=by simp at hj;omega
           exact ek
          have jF : Hid (bj wr gk (k * 2) [.bool (au x),.string (bs (nt x.natAbs))]):=fun j hj=>by
           rcases j with _ | _ | j
           . exact DG
           . exact DI
           . simp at hj;omega
          have Hhx:=ah hx;clear hT rk ek DG DI e1 hg2 Gs Gg dz hx yT;go_wp2_with fail;have dz:=kZ.out.c1;have um:=uO.out.w1;obtain ⟨sL,sM⟩:=jF.out.w2;obtain ⟨l0,nV,l1,nW⟩:=Hl.out.g2;refine bE (fun w'=>w'.cell? ⟨wk.heap.size,0,none⟩ = some (.int .i64 (k : Int)) /\ w'.cell? ⟨go,k,none⟩ = some (.slice (some ⟨gk,0,none⟩) i ck) /\ w'.cell? ⟨gk,k * 2,none⟩ = some (.bool (au x)) /\ w'.cell? ⟨gk,k * 2 + 1,none⟩ = some (.string (bs (nt x.natAbs)))) (fun i=>Nat.blt i 7) [(0,true),(1,true),(2,true),(3,true),(4,true),(5,true),(6,true),(7,false)] zk zk rfl zk zc ⟨dz,um,sL,sM⟩ ?_;iterate 7 (refine pT rfl rfl ?_ (by intro w' ⟨q0,q1,q2,q3⟩;go_simp;try with_reducible rfl);try simp only [UU])
          refine aI rfl rfl (fun K hK=>?_);go_simp;refine hK _ _ (by first | exact fun h=>absurd h zd | exact fun _=>⟨dz,um,sL,sM⟩ | exact fun _=>⟨(by first | exact dz | exact aG zf dz | exact aG zf (aG zf dz) | exact aG zf (aG zf (aG zf dz))),(by first | exact um | exact aG zf um | exact aG zf (aG zf um) | exact aG zf (aG zf (aG zf um))),(by first | exact sL | exact aG zf sL | exact aG zf (aG zf sL) | exact aG zf (aG zf (aG zf sL))),(by first | exact sM | exact aG zf sM | exact aG zf (aG zf sM) | exact aG zf (aG zf (aG zf sM)))⟩) ?_;clear hK K;try simp only [UU]
          simp only [aV];go_wp2;go_roundw;case rel=>exact ⟨k + 1,cX g k last,x,_,by omega,by go_num,rfl,Bs.next qT.out.drew (fun _ _ _ _=>rfl) mQ Xp.out Xl.out Hn.out⟩
          case measure=>simp [intOf];omega
  . obtain rfl : k = n:=by omega
    obtain ⟨q1,q2,q3,_,q5,_,Q,hQ,AQ,_⟩:=hS;have eY:=uM.out k Q (Nat.le_refl _) hQ;have hll : (nt last.natAbs).length <= 1099511627776:=iY AQ zo;rw [Nat.sub_self] at q5;unfold dY at q5;have Hr:=ah q2;have Hl:=ah q3;have Hq:=ah q1;have HZ:=ah q5;have YW:=ah hll;clear q1 q2 q3 q5 hQ AQ hll eY;have Hb : Hid (Bw wk wk):=Below.refl _ _;obtain ⟨r0,aj,r1,ar⟩:=Hr.out.g2;obtain ⟨l0,nV,l1,nW⟩:=Hl.out.g2;have xD:=Hq.out.2.2.1;cases t with
    | false =>
      have Hz : Hid (last = Z):=by have hz:=HZ.out;simp only [Bool.false_eq_true,if_false] at hz;exact hz
      go_wp2;refine bodyPost_ret (v:=.agg #[.bool (au last),.string (bs (nt last.natAbs))]) (by simp [results,Tryz.results88,go_sem,r0,r1]) rfl ⟨by rw [Hz.out],?_⟩;exact (xD.setCell zp _).setCell zp _
    | true =>
      have Hz : Hid (-last = Z):=by have hz:=HZ.out;simp only [if_true] at hz;exact hz
      have hneg : ∀ W,Calls Tryz.prog 107 #[.agg #[.bool (au last),.string (bs (nt last.natAbs))]] W fun e w'=>e = .returned (cn (-last)) /\ Bw W w':=fun W=>by have:=WU (au last) (nt last.natAbs) W YW.out;rw [eK] at this;exact this
      go_wp2_with fail;refine (hneg _).mono ?_;rintro e w4 ⟨rfl,ae⟩;clear r0 aj r1 ar l0 nV l1 nW;replace Hr:=kB Hr ae;replace Hl:=kB Hl ae;obtain ⟨r0,aj,r1,ar⟩:=Hr.out.g2;obtain ⟨l0,nV,l1,nW⟩:=Hl.out.g2;replace Hb:=az Hb ae;clear ae hneg;go_wp2;refine bodyPost_ret (v:=.agg #[.bool (au (-last)),.string (bs (nt (-last).natAbs))]) (by simp [results,Tryz.results88,go_sem,r0,r1]) rfl ⟨by rw [Hz.out],?_⟩;exact ((xD.trans (Hb.out.mono (by have:=Hq.out.2.2.2;omega))).setCell zp _).setCell zp _
theorem abv (n l k : Nat) (f : Nat -> Nat -> Int) (last : Int) (t : Bool) (Q : Nat) (hk : k + l = n) (hl : last.natAbs < 2 ^ Q) (hf : ∀ a b,a < n -> b < n -> (f a b).natAbs < 2 ^ Q) (hex : fF n l k f last) : (dY n l k f last t).natAbs < 2 ^ (2 ^ l * (Q + 1)):=by
 induction l generalizing k f last t Q with
 | zero =>
   unfold dY;have h1 : 2 ^ Q <= 2 ^ (2 ^ 0 * (Q + 1)):=Nat.pow_le_pow_right zd zm;split
   . rw [Int.natAbs_neg];omega
   . omega
 | succ l ih =>
   unfold dY;unfold fF at hex;cases hp : mz f n k with
   | none=>exact Nat.pow_pos zd
   | some m =>
     rw [hp] at hex;simp only at hex ⊢;have Bb:=jC hp;obtain ⟨g,hg⟩ : ∃ g,g = bK f k (k + m):=⟨_,rfl⟩;rw [<- hg] at hex ⊢;have hkn : k < n:=by omega
     have gy : ∀ a b,a < n -> b < n -> (g a b).natAbs < 2 ^ Q:=by
      intro a b ha hb;rw [hg];unfold bK;refine hf _ _ ?_ hb;split
      . omega
      . split
        . omega
        . exact ha
     have Aq : 2 ^ Q <= 2 ^ (2 * Q + 1):=Nat.pow_le_pow_right zd zo;have e : 2 ^ (l + 1) * (Q + 1) = 2 ^ l * (2 * Q + 1 + 1):=by rw [Nat.pow_succ,Nat.mul_assoc];congr 1
     rw [e];refine ih (k + 1) _ _ _ (2 * Q + 1) zo (Nat.lt_of_lt_of_le (gy k k hkn hkn) Aq) (fun a b ha hb=>?_) hex.2;unfold cX;split
     . rename_i h4
       have h5:=(LI g k a b Q (gy a b ha hb) (gy k k hkn hkn) (gy a k ha hkn) (gy k b hkn hb)).2.2;rcases div_lt _ last _ h5 with h6 | h6
       . exact h6
       . exact absurd (hex.1 a b h4.1 ha h4.2 hb) h6
     . exact Nat.lt_of_lt_of_le (gy a b ha hb) Aq
def bT (D : List (List Dyadic)) (i j : Nat) : Dyadic:=(D.getD i []).getD j 0
theorem ajS (D : List (List Dyadic)) (n : Nat) (g : Dyadic -> Int) (hl : D.length = n) (hr : ∀ r ∈ D,r.length = n) : (D.map fun r=>r.map g) = dW (fun i j=>g (bT D i j)) n:=by
 apply List.ext_getElem
 . simp [dW,hl]
 . intro i h1 h2;have hi : i < D.length:=by simpa using h1
   have hri:=hr _ (List.getElem_mem hi);apply List.ext_getElem
   . simp [dW,hri]
   . intro j h3 h4;have hj : j < D[i].length:=by simpa using h3
     simp [dW,bT,List.getD_eq_getElem?_getD,hi,hj]
theorem Qq {D : List (List Dyadic)} {n i j : Nat} (hl : D.length = n) (hr : ∀ r ∈ D,r.length = n) (hi : i < n) (hj : j < n) : ∃ r ∈ D,bT D i j ∈ r:=by
 have h1 : i < D.length:=by omega
 have h2 : j < D[i].length:=by rw [hr _ (List.getElem_mem h1)];exact hj
 refine ⟨D[i],List.getElem_mem h1,?_⟩;have : bT D i j = D[i][j]:=by simp [bT,List.getD_eq_getElem?_getD,h1,h2]
 rw [this];exact List.getElem_mem h2
theorem IY (a : Option Addr) (cap n : Nat) (rows : List (List Raw)) (B : Nat) (D : List (List Dyadic)) (X : Dyadic) (w : World) (hn : 1 <= n) (bY : n <= 4) (hL : rows.length = n) (hrow : ∀ r ∈ rows,r.length = n) (ha : aY w a rows)
 (hfit : ∀ r ∈ rows,∀ c ∈ r,Fit B c) (bH : 1 <= B) (hB : B <= 1000000) (hT : aB w) (hD : (rows.map fun r=>r.map aC) = D) (hX : dR n (bT D) = X) :
 Calls Tryz.prog 45 #[.slice a n cap] w fun e w'=>e = .returned (.tuple #[bJ X,.int .i64 0]) /\ Bw w w':=by
 obtain ⟨low,iE⟩ : ∃ low,jW 0 D = low:=⟨_,rfl⟩;have hDl : D.length = n:=by rw [<- hD];simp [hL]
 have DX : ∀ r ∈ D,r.length = n:=by intro r hr;rw [<- hD] at hr;obtain ⟨x,hx,rfl⟩:=List.mem_map.1 hr;simpa using hrow x hx
 have kC : ∀ r ∈ D,∀ d ∈ r,Sm B d:=by intro r hr d hd;rw [<- hD] at hr;obtain ⟨x,hx,rfl⟩:=List.mem_map.1 hr;obtain ⟨y,hy,rfl⟩:=List.mem_map.1 hd;exact (hfit x hx y hy).2
 have hlo:=Lr 0 D;rw [iE] at hlo;have hlb : -(B : Int) <= low:=by rw [<- iE];exact Lq 0 D _ zo (fun r hr d hd=>(kC r hr d hd).parts.2.1)
 obtain ⟨f,hf⟩ : ∃ f : Nat -> Nat -> Int,f = fun i j=>nC low (bT D i j):=⟨_,rfl⟩;have mU : (D.map fun r=>r.map (nC low)) = dW f n:=by rw [hf];exact ajS D n (nC low) hDl DX
 have hK : ∀ a b,a < n -> b < n -> (f a b).natAbs < 2 ^ (4 * B):=by
  intro i j hi hj;obtain ⟨r,hr,hm⟩:=Qq hDl DX hi hj;obtain ⟨s1,s2,s3⟩:=(kC r hr _ hm).parts;rw [hf];show (nC low (bT D i j)).natAbs < _
  unfold nC;rw [Int.natAbs_mul,Int.natAbs_pow,show 4 * B = 2 * B + 2 * B by omega,Nat.pow_add];exact Nat.lt_of_lt_of_le (Nat.mul_lt_mul_of_pos_right s1 (Nat.pow_pos zd)) (Nat.mul_le_mul_left _ (Nat.pow_le_pow_right zd zo))
 have hent : ∀ i j,i < n -> j < n -> bT D i j = Dyadic.ofIntWithPrec (f i j) (-low):=by intro i j hi hj;obtain ⟨r,hr,hm⟩:=Qq hDl DX hi hj;rw [hf];exact (aje low _ (hlo.2 r hr _ hm)).symm
 have lA:=ac2 n hn bY f (bT D) (-low) hent;have hex:=Qr n hn bY f;have hzl:=abv n n 0 f 1 false (4 * B) zo (Nat.one_lt_two_pow zo) hK hex;obtain ⟨z,hz⟩ : ∃ z,dY n n 0 f 1 false = z:=⟨_,rfl⟩;rw [hz] at hzl lA;have Uj : (nt z.natAbs).length <= 34359738368:=by refine iY hzl ?_;have : 2 ^ n <= 2 ^ 4:=Nat.pow_le_pow_right zd bY;have:=Nat.mul_le_mul_right (4 * B + 1) this;omega
 obtain ⟨e,he⟩ : ∃ e : Int,low * n = e:=⟨_,rfl⟩;have heb : -4000000 <= e /\ e <= 4000000:=by
  have hl0:=hlo.1;have hc : n = 1 \/ n = 2 \/ n = 3 \/ n = 4:=by omega
  rcases hc with rfl | rfl | rfl | rfl<;>omega
 have kE : aC (au z,nt z.natAbs,e) = X:=by
  rw [<- hX,lA];show Dyadic.ofIntWithPrec (iv (au z) (nt z.natAbs)) (-e) = _
  rw [eK,<- he];congr 1;rw [Int.mul_comm,Int.mul_neg]
 obtain ⟨nl,hnl⟩ : ∃ nl,-low = nl:=⟨_,rfl⟩;have hw1 : IntKind.i64.wrap (-nl) = low:=by rw [IntKind.wrap_i64];have:=hlo.1;omega
 have hw2 : IntKind.i64.wrap (low * (n : Int)) = e:=by rw [he,IntKind.wrap_i64];omega
 have hm0 : rP rows = 0:=by
  unfold rP;rw [if_neg];rintro (h | h)
  . omega
  . rw [List.any_eq_true] at h;obtain ⟨r,hr,h⟩:=h;have:=hrow r hr;simp at h;omega
 have hch:=fun W=>fun (h : aY W a rows)=>Lv a n cap rows W hL zo h;rw [hm0] at hch;have hsc:=fun W=>fun (h : aY W a rows) (hT : aB W)=>Wk a n cap n rows B low W hL zo zo hrow h hfit zo hT (by rw [hD];exact iE);rw [hD,mU,hnl] at hsc;have hbr:=fun v W base=>fun (h : gP W base n (dW f n) n v) (h2 : base <= W.heap.size)=>aby base n (4 * B) f v W hn bY h h2 zo hK zo;rw [hz] at hbr;have hmk:=fun W=>fun (hT : aB W)=>tV (au z) (nt z.natAbs) e X kE W Uj zo hT;have yY:=ah hch;have iy:=ah hsc;have uz:=ah hbr;have qR:=ah hmk;have Ha:=ah ha;have HT:=ah hT;clear hch hsc hbr hmk ha hT hm0 kE heb he Uj hz hzl hex lA hent hK mU hf hlb hlo kC DX hDl iE hD hX hfit hrow hL hnl;have Hb : Hid (Bw w w):=Below.refl _ _;go_enter Tryz.func45,Tryz.ntmps45;go_wp2_with fail;obtain ⟨R,hR⟩ : ∃ R : World -> Prop,(fun W=>ai W (w.heap.size) 30 [.bool false,.string ⟨#[]⟩,.int .i64 0] /\ Bw w W) = R:=⟨_,rfl⟩;first | refine bB R ?hR ?_ | refine bA R ?hR ?_
 case hR=>subst hR;exact ⟨(ai.newAt w _ _ (b:=w.heap.size) rfl),zl⟩
 subst hR;rintro W ⟨qr,ae⟩;have Hr:=ah qr;clear qr;obtain ⟨r0,aj,r1,ar,r2,aF⟩:=Hr.out.g3;replace Hb:=az Hb ae;clear ae;have HA : Hid (aY W a rows):=Ha.out.below Hb.out;have HU : Hid (aB W):=HT.out.below Hb.out;go_wp2_with fail;refine (yY.out _ HA.out).mono ?_;rintro e w1 ⟨rfl,ae⟩;clear r0 aj r1 ar r2 aF;replace Hr:=kB Hr ae;replace HA:=kL HA ae;replace HU:=kT HU ae;obtain ⟨r0,aj,r1,ar,r2,aF⟩:=Hr.out.g3;replace Hb:=az Hb ae;clear ae;go_wp2_with fail;refine (iy.out _ HA.out HU.out).mono ?_;rintro e' w2 ⟨v,rfl,hO,hb2⟩;have HO:=ah hO;have yz:=hb2.size;clear hO;go_wp2_with fail;refine (uz.out v w2 w1.heap.size HO.out yz).mono ?_;rintro e' w3 ⟨rfl,hb3⟩;have hb4:=hb2.trans hb3;clear hb2 hb3 HO r0 aj r1 ar r2 aF;replace Hr:=kB Hr hb4;replace HA:=kL HA hb4;replace HU:=kT HU hb4;obtain ⟨r0,aj,r1,ar,r2,aF⟩:=Hr.out.g3;replace Hb:=ah (aJ Hb.out hb4);clear hb4;go_wp2_with fail;refine (qR.out _ HU.out).mono ?_;rintro e w4 ⟨rfl,ae⟩;clear r0 aj r1 ar r2 aF;replace Hr:=kB Hr ae;replace HA:=kL HA ae;replace HU:=kT HU ae;obtain ⟨r0,aj,r1,ar,r2,aF⟩:=Hr.out.g3;replace Hb:=az Hb ae;clear ae;go_wp2;clear r0 aj r1 ar r2 aF;refine gq (fun w9=>ai w9 (w.heap.size) 30 [.bool (au (dN X)),.string (bs (nt (dN X).natAbs)),.int .i64 (dE X)] /\ Bw w w9) ⟨(((Hr.out.set 0 _).set 1 _).set 2 _),(((Hb.out.sc (w.heap.size) 0 ZS _).sc (w.heap.size) 1 ZS _).sc (w.heap.size) 2 ZS _)⟩ ?_;rintro w9 ⟨qr,ae⟩;replace Hr:=ah qr;clear qr;obtain ⟨r0,aj,r1,ar,r2,aF⟩:=Hr.out.g3;replace Hb:=ah ae;clear ae;refine bodyPost_ret (v:=.tuple #[bJ X,.int .i64 0]) (by simp [results,Tryz.results45,go_sem,r0,r1,r2]) rfl ⟨rfl,Hb.out⟩
def cF (rows : List (List Raw)) : Nat -> Nat -> Dyadic:=fun a b=>bT (rows.map fun r=>r.map aC) a b
theorem ac5 (o p : List Raw) (k : Nat) (h : k < p.length) (h' : k < o.length) : (iA o p).getD k 0 = aC p[k] - aC o[k]:=by unfold iA;rw [List.getD_eq_getElem?_getD,List.getElem?_zipWith];simp [h,h']
theorem qo (rows : List (List Raw)) (a b : Nat) (ha : a < rows.length) (hb : b < rows[a].length) : cF rows a b = aC rows[a][b]:=by simp [cF,bT,List.getD_eq_getElem?_getD,ha,hb]
theorem Ws (n : Nat) (rows : List (List Raw)) (hL : rows.length = n + 1) (hrow : ∀ r ∈ rows,r.length = n) (i j : Nat) (hi : i < n) (hj : j < n) :
 bT ((rows.drop 1).map fun p=>iA (rows.getD 0 []) p) i j = cF rows (i + 1) j - cF rows 0 j:=by
 have h0 : 0 < rows.length:=by omega
 have h1 : i + 1 < rows.length:=by omega
 have l0:=hrow _ (List.getElem_mem h0);have l1:=hrow _ (List.getElem_mem h1);rw [qo rows (i + 1) j h1 zo,qo rows 0 j h0 zo];have e0 : rows.getD 0 [] = rows[0]:=by simp [h0]
 have e1 : ((rows.drop 1).map fun p=>iA (rows.getD 0 []) p).getD i [] = iA rows[0] rows[i + 1]:=by rw [e0,List.getD_eq_getElem?_getD,List.getElem?_map,List.getElem?_drop];rw [show 1 + i = i + 1 by omega,List.getElem?_eq_getElem h1];rfl
 unfold bT;rw [e1,ac5 _ _ _ zo zo]
theorem Dq (n : Nat) (bY : n <= 4) {e f : Nat -> Nat -> Dyadic} (h : ∀ i j,i < n -> j < n -> e i j = f i j) : dR n e = dR n f:=by
 have hc : n = 0 \/ n = 1 \/ n = 2 \/ n = 3 \/ n = 4:=by omega
 rcases hc with rfl | rfl | rfl | rfl | rfl
 . rfl
 . exact h 0 0 zo zo
 . unfold dR;simp only;rw [h 0 0 zo zo,h 0 1 zo zo,h 1 0 zo zo,h 1 1 zo zo]
 . unfold dR;simp only;rw [h 0 0 zo zo,h 0 1 zo zo,h 0 2 zo zo,h 1 0 zo zo,h 1 1 zo zo,h 1 2 zo zo,h 2 0 zo zo,h 2 1 zo zo,h 2 2 zo zo]
 . unfold dR;simp only;rw [h 0 0 zo zo,h 0 1 zo zo,h 0 2 zo zo,h 0 3 zo zo,h 1 0 zo zo,h 1 1 zo zo,h 1 2 zo zo,h 1 3 zo zo,h 2 0 zo zo,h 2 1 zo zo,h 2 2 zo zo,h 2 3 zo zo,h 3 0 zo zo,h 3 1 zo zo,h 3 2 zo zo,h 3 3 zo zo]
theorem Qb {B n : Nat} {e : Nat -> Nat -> Dyadic} (hn : 1 <= n) (bY : n <= 4) (h : ∀ i j,i < n -> j < n -> Sm B (e i j)) : Sm (4 * B + 6) (dR n e):=by
 have m2 : ∀ a b c d : Dyadic,Sm B a -> Sm B b -> Sm B c -> Sm B d -> Sm (2 * B + 1) (a * b - c * d):=fun a b c d ha hb hc hd=>(Sm.sub (Sm.mul ha hb) (Sm.mul hc hd)).mono zo;have m3 : ∀ x y : Dyadic,Sm B x -> Sm (2 * B + 1) y -> Sm (3 * B + 1) (x * y):=fun x y hx hy=>(Sm.mul hx hy).mono zo;have m4 : ∀ x y z : Dyadic,Sm (3 * B + 1) x -> Sm (3 * B + 1) y -> Sm (3 * B + 1) z -> Sm (3 * B + 3) (x - y + z):=fun x y z hx hy hz=>(Sm.add (Sm.sub hx hy) (hz.mono zo)).mono zo;have m5 : ∀ x y : Dyadic,Sm B x -> Sm (3 * B + 3) y -> Sm (4 * B + 3) (x * y):=fun x y hx hy=>(Sm.mul hx hy).mono zo;have hc : n = 1 \/ n = 2 \/ n = 3 \/ n = 4:=by omega
 rcases hc with rfl | rfl | rfl | rfl
 . exact (h 0 0 zo zo).mono zo
 . exact (Sm.sub (Sm.mul (h 0 0 zo zo) (h 1 1 zo zo)) (Sm.mul (h 0 1 zo zo) (h 1 0 zo zo))).mono zo
 . unfold dR;refine (m4 _ _ _ (m3 _ _ ?_ (m2 _ _ _ _ ?_ ?_ ?_ ?_)) (m3 _ _ ?_ (m2 _ _ _ _ ?_ ?_ ?_ ?_)) (m3 _ _ ?_ (m2 _ _ _ _ ?_ ?_ ?_ ?_))).mono zo<;>exact h _ _ zo zo
 . unfold dR;have m6 : ∀ x y z u : Dyadic,Sm (4 * B + 3) x -> Sm (4 * B + 3) y -> Sm (4 * B + 3) z -> Sm (4 * B + 3) u -> Sm (4 * B + 6) (x - y + z - u):=fun x y z u hx hy hz hu=>(Sm.sub (Sm.add (Sm.sub hx hy) (hz.mono zo)) (hu.mono zo)).mono zo;refine m6 _ _ _ _ (m5 _ _ ?_ (m4 _ _ _ (m3 _ _ ?_ (m2 _ _ _ _ ?_ ?_ ?_ ?_)) (m3 _ _ ?_ (m2 _ _ _ _ ?_ ?_ ?_ ?_)) (m3 _ _ ?_ (m2 _ _ _ _ ?_ ?_ ?_ ?_)))) (m5 _ _ ?_ (m4 _ _ _ (m3 _ _ ?_ (m2 _ _ _ _ ?_ ?_ ?_ ?_)) (m3 _ _ ?_ (m2 _ _ _ _ ?_ ?_ ?_ ?_)) (m3 _ _ ?_ (m2 _ _ _ _ ?_ ?_ ?_ ?_)))) (m5 _ _ ?_ (m4 _ _ _ (m3 _ _ ?_ (m2 _ _ _ _ ?_ ?_ ?_ ?_)) (m3 _ _ ?_ (m2 _ _ _ _ ?_ ?_ ?_ ?_)) (m3 _ _ ?_ (m2 _ _ _ _ ?_ ?_ ?_ ?_)))) (m5 _ _ ?_ (m4 _ _ _ (m3 _ _ ?_ (m2 _ _ _ _ ?_ ?_ ?_ ?_)) (m3 _ _ ?_ (m2 _ _ _ _ ?_ ?_ ?_ ?_)) (m3 _ _ ?_ (m2 _ _ _ _ ?_ ?_ ?_ ?_))))<;>exact h _ _ zo zo
theorem Ql (X : Dyadic) : bM X = 0 ↔ X = 0:=by
 constructor
 . intro h;have h1 : dN X = 0:=by
    unfold bM dw at h;by_cases h1 : dN X < 0
    . rw [if_pos h1] at h;cases h
    . rw [if_neg h1] at h;by_cases h2 : dN X = 0
      . exact h2
      . rw [if_neg h2] at h;cases h
   have h2:=qh X;rw [h1,uf] at h2;exact h2
 . rintro rfl;rfl
noncomputable def kQ (rows : List (List Raw)) : Int:=if gD rows = 0 then 1 else if fg (gD rows).toNat (cF rows) = 0 then 5 else 0
theorem Wq (a : Option Addr) (cap n : Nat) (rows : List (List Raw)) (B : Nat) (X : Dyadic) (w : World) (hn : 1 <= n) (bY : n <= 4) (hL : rows.length = n + 1) (hrow : ∀ r ∈ rows,r.length = n) (hcap : n + 1 <= cap) (ha : aY w a rows)
 (hfit : ∀ r ∈ rows,∀ c ∈ r,Fit B c) (hB : B <= 900000) (hT : aB w) (hX : fg n (cF rows) = X) :
 Calls Tryz.prog 12 #[.slice a (n + 1) cap] w fun e w'=>e = .returned (.tuple #[bJ X,.int .i64 0]) /\ Bw w w':=by
 obtain ⟨b,o,rfl⟩ : ∃ b o,a = some ⟨b,o,none⟩:=by
  obtain ⟨vals,hvl,hat,_⟩:=ha;rcases hat with h | ⟨b,o,h,_⟩
  . rw [h] at hvl;simp at hvl;omega
  . exact ⟨b,o,h⟩
 have hv:=Ce hL hrow hn zo;obtain ⟨S,hS⟩ : ∃ S,((rows.drop 1).map fun p=>iA (rows.getD 0 []) p) = S:=⟨_,rfl⟩;have gS : S.length = n:=by rw [<- hS];simp [hL]
 have pG : ∀ r ∈ S,r.length = n:=by
  intro r hr;rw [<- hS] at hr;obtain ⟨p,hp,rfl⟩:=List.mem_map.1 hr;have h0 : 0 < rows.length:=by omega
  have e0 : rows.getD 0 [] = rows[0]:=by simp [h0]
  rw [Du (by rw [e0,hrow _ (List.mem_of_mem_drop hp),hrow _ (List.getElem_mem h0)]),hrow _ (List.mem_of_mem_drop hp)]
 have pH : ∀ r ∈ S,∀ d ∈ r,Sm (B + 1) d:=by
  intro r hr d hd;rw [<- hS] at hr;obtain ⟨p,hp,rfl⟩:=List.mem_map.1 hr;unfold iA at hd;obtain ⟨i,hi,rfl⟩:=List.mem_iff_getElem.1 hd;rw [List.getElem_zipWith];have h0 : 0 < rows.length:=by omega
  have e0 : rows.getD 0 [] = rows[0]:=by simp [h0]
  refine Sm.sub (hfit p (List.mem_of_mem_drop hp) _ (List.getElem_mem _)).2 (hfit (rows.getD 0 []) ?_ _ (List.getElem_mem _)).2;rw [e0];exact List.getElem_mem h0
 have hent : dR n (bT S) = X:=by rw [<- hX,Dz];refine Dq n bY (fun i j hi hj=>?_);rw [<- hS];exact Ws n rows hL hrow i j hi hj
 have hvar:=fun W=>fun (h : aY W (some ⟨b,o,none⟩) rows)=>yG (some ⟨b,o,none⟩) (n + 1) cap rows W hL zo h;rw [hv] at hvar;have hrows:=fun W=>fun (h : aY W (some ⟨b,o,none⟩) rows) (hT : aB W)=>Wb b o cap n n rows B W hL zo hcap hn hn zo hrow h hfit zo hT;rw [hS] at hrows;have kE : ((S.map fun r=>r.map canon).map fun r=>r.map aC) = S:=by
  rw [List.map_map];have : ((fun r : List Raw=>r.map aC) ∘ fun r : List Dyadic=>r.map canon) = id:=by
   funext r
   show (r.map canon).map aC = r
   rw [List.map_map];have : (aC ∘ canon) = id:=funext bP;rw [this];simp
  rw [this];simp
 have lA:=fun W a' c'=>fun (h : aY W a' (S.map fun r=>r.map canon)) (hT : aB W)=>IY a' c' n (S.map fun r=>r.map canon) (B + 1) S X W hn bY (by simpa using gS) (by
  intro r hr;obtain ⟨x,hx,rfl⟩:=List.mem_map.1 hr
  simpa using pG x hx) h (by
  intro r hr c hc;obtain ⟨x,hx,rfl⟩:=List.mem_map.1 hr;obtain ⟨y,hy,rfl⟩:=List.mem_map.1 hc
  exact (pH x hx y hy).fit zo) zo zo hT kE hent
 have Il:=ah hvar;have ZR:=ah hrows;have yZ:=ah lA;have Ha:=ah ha;have HT:=ah hT;clear hvar hrows lA ha hT kE hent pH pG gS hS hv hX hfit hrow hL;have hn0 : ¬ (n : Int) = 0:=by omega
 have Hb : Hid (Bw w w):=Below.refl _ _;go_enter Tryz.func12,Tryz.ntmps12;go_wp2_with fail;obtain ⟨R,hR⟩ : ∃ R : World -> Prop,(fun W=>ai W (w.heap.size) 30 [.bool false,.string ⟨#[]⟩,.int .i64 0] /\ Bw w W) = R:=⟨_,rfl⟩;first | refine bB R ?hR ?_ | refine bA R ?hR ?_
 case hR=>subst hR;exact ⟨(ai.newAt w _ _ (b:=w.heap.size) rfl),zl⟩
 subst hR;rintro W ⟨qr,ae⟩;have Hr:=ah qr;clear qr;obtain ⟨r0,aj,r1,ar,r2,aF⟩:=Hr.out.g3;replace Hb:=az Hb ae;clear ae;have HA : Hid (aY W (some ⟨b,o,none⟩) rows):=Ha.out.below Hb.out;have HU : Hid (aB W):=HT.out.below Hb.out;go_wp2_with fail;refine (Il.out _ HA.out).mono ?_;rintro e w1 ⟨rfl,ae⟩;clear r0 aj r1 ar r2 aF;replace Hr:=kB Hr ae;replace HA:=kL HA ae;replace HU:=kT HU ae;obtain ⟨r0,aj,r1,ar,r2,aF⟩:=Hr.out.g3;replace Hb:=az Hb ae;clear ae;go_wp2_with fail;refine (ZR.out _ HA.out HU.out).mono ?_;rintro e w2 ⟨a',c',rfl,hcc,jx,ae⟩;clear r0 aj r1 ar r2 aF;replace Hr:=kB Hr ae;replace HA:=kL HA ae;replace HU:=kT HU ae;obtain ⟨r0,aj,r1,ar,r2,aF⟩:=Hr.out.g3;replace Hb:=az Hb ae;clear ae;have yN:=ah jx;clear jx;go_wp2_with fail;refine (yZ.out _ a' c' yN.out HU.out).mono ?_;rintro e w3 ⟨rfl,ae⟩;clear r0 aj r1 ar r2 aF;replace Hr:=kB Hr ae;replace HA:=kL HA ae;replace HU:=kT HU ae;obtain ⟨r0,aj,r1,ar,r2,aF⟩:=Hr.out.g3;replace Hb:=az Hb ae;clear ae;go_wp2;clear r0 aj r1 ar r2 aF;refine gq (fun w9=>ai w9 (w.heap.size) 30 [.bool (au (dN X)),.string (bs (nt (dN X).natAbs)),.int .i64 (dE X)] /\ Bw w w9) ⟨(((Hr.out.set 0 _).set 1 _).set 2 _),(((Hb.out.sc (w.heap.size) 0 ZS _).sc (w.heap.size) 1 ZS _).sc (w.heap.size) 2 ZS _)⟩ ?_;rintro w9 ⟨qr,ae⟩;replace Hr:=ah qr;clear qr;obtain ⟨r0,aj,r1,ar,r2,aF⟩:=Hr.out.g3;replace Hb:=ah ae;clear ae;refine bodyPost_ret (v:=.tuple #[bJ X,.int .i64 0]) (by simp [results,Tryz.results12,go_sem,r0,r1,r2]) rfl ⟨rfl,Hb.out⟩
theorem BZ (a : Option Addr) (L cap : Nat) (rows : List (List Raw)) (B : Nat) (w : World) (hL : rows.length = L) (hL5 : L <= 5) (hcap : L <= cap) (ha : aY w a rows)
 (hfit : ∀ r ∈ rows,∀ c ∈ r,Fit B c) (hB : B <= 900000) (hT : aB w) :
 Calls Tryz.prog 15 #[.slice a L cap] w fun e w'=>e = .returned (.int .i64 (kQ rows)) /\ Bw w w':=by
 obtain ⟨R,hR⟩ : ∃ R,kQ rows = R:=⟨_,rfl⟩;rw [hR];unfold kQ at hR;by_cases hv : gD rows = 0
 . rw [if_pos hv] at hR;subst hR;have hvar:=fun W=>fun (h : aY W a rows)=>yG a L cap rows W hL zo h;rw [hv] at hvar;have Il:=ah hvar;have Ha:=ah ha;have hsz : ∀ W,Bw w W -> Calls Tryz.prog 12 #[.slice a L cap] W fun e w'=>e = .returned (.tuple #[.agg #[.bool false,.string ⟨#[]⟩,.int .i64 0],.int .i64 1]) /\ Bw W w':=by
    intro w0 hw0;have oZ:=ah (Ha.out.below hw0);clear ha hfit hL hT hv hvar Ha hw0 w;obtain ⟨w,KY⟩ : ∃ w,w = w0:=⟨_,rfl⟩;subst KY;have Hb : Hid (Bw w w):=Below.refl _ _;go_enter Tryz.func12,Tryz.ntmps12;go_wp2_with fail;obtain ⟨R,hR⟩ : ∃ R : World -> Prop,(fun W=>ai W (w.heap.size) 30 [.bool false,.string ⟨#[]⟩,.int .i64 0] /\ Bw w W) = R:=⟨_,rfl⟩;first | refine bB R ?hR ?_ | refine bA R ?hR ?_
    case hR=>subst hR;exact ⟨(ai.newAt w _ _ (b:=w.heap.size) rfl),zl⟩
    subst hR;rintro W ⟨qr,ae⟩;have Hr:=ah qr;clear qr;obtain ⟨r0,aj,r1,ar,r2,aF⟩:=Hr.out.g3;replace Hb:=az Hb ae;clear ae;go_wp2_with fail;refine (Il.out _ (oZ.out.below Hb.out)).mono ?_;rintro e w1 ⟨rfl,ae⟩;clear r0 aj r1 ar r2 aF;replace Hr:=kB Hr ae;obtain ⟨r0,aj,r1,ar,r2,aF⟩:=Hr.out.g3;replace Hb:=az Hb ae;clear ae;go_wp2;clear r0 aj r1 ar r2 aF;refine gq (fun w9=>ai w9 (w.heap.size) 30 [.bool false,.string ⟨#[]⟩,.int .i64 0] /\ Bw w w9) ⟨(((Hr.out.set 0 _).set 1 _).set 2 _),(((Hb.out.sc (w.heap.size) 0 ZS _).sc (w.heap.size) 1 ZS _).sc (w.heap.size) 2 ZS _)⟩ ?_;rintro w9 ⟨qr,ae⟩;replace Hr:=ah qr;clear qr;obtain ⟨r0,aj,r1,ar,r2,aF⟩:=Hr.out.g3;replace Hb:=ah ae;clear ae;refine bodyPost_ret (v:=.tuple #[.agg #[.bool false,.string ⟨#[]⟩,.int .i64 0],.int .i64 1]) (by simp [results,Tryz.results12,go_sem,r0,r1,r2]) rfl ⟨rfl,Hb.out⟩
   have uM:=ah hsz;clear hsz hvar ha hfit hL hT hv;have Hb : Hid (Bw w w):=Below.refl _ _;go_enter Tryz.func15,Tryz.ntmps15;go_wp2_with fail;refine (uM.out _ Hb.out).mono ?_;rintro e w1 ⟨rfl,ae⟩;replace Hb:=az Hb ae;clear ae;have hsz:=Hb.out.size;obtain ⟨W2,eZ⟩ : ∃ W2,(w1.alloc (.cells #[.bool false,.string ⟨#[]⟩,.int .i64 0] 30)) = W2:=⟨_,rfl⟩;have ae : Bw w1 W2:=by rw [<- eZ];exact zl
   have Hd : Hid (ai W2 (w1.heap.size) 30 [.bool false,.string ⟨#[]⟩,.int .i64 0]):=by rw [<- eZ];exact ai.newAt _ _ _ zm
   obtain ⟨d0,Jg,d1,Jh,d2,Ji⟩:=Hd.out.g3;replace Hb:=az Hb ae;clear ae;go_wp2;refine bodyPost_ret (results_tmp rfl _ _ _) rfl ⟨rfl,?_⟩;exact ((Hb.out.setCell zp _).setCell zp _).setCell zp _
 . obtain ⟨n,hn⟩ : ∃ n : Nat,gD rows = n:=⟨(gD rows).toNat,by have:=Cf rfl hv;omega⟩;rw [if_neg hv,hn,Int.toNat_natCast] at hR;obtain ⟨c1,c2,c3,c4⟩:=Cf hn zo;obtain rfl : L = n + 1:=by omega
   obtain ⟨X,hX⟩ : ∃ X,fg n (cF rows) = X:=⟨_,rfl⟩;rw [hX] at hR;have hsz:=fun W=>fun (h : aY W a rows) (hT : aB W)=>Wq a cap n rows B X W zo zo zo (fun r hr=>by have:=c4 r hr;omega) hcap h hfit hB hT hX;have hXm : Sm (4 * (B + 1) + 6) X:=by
    rw [<- hX,Dz];refine Qb zo zo (fun i j hi hj=>?_);have h0 : 0 < rows.length:=by omega
    have h1 : i + 1 < rows.length:=by omega
    have l0:=c4 _ (List.getElem_mem h0);have l1:=c4 _ (List.getElem_mem h1);rw [qo rows (i + 1) j h1 zo,qo rows 0 j h0 zo];exact Sm.sub (hfit _ (List.getElem_mem h1) _ (List.getElem_mem _)).2 (hfit _ (List.getElem_mem h0) _ (List.getElem_mem _)).2
   have gH : ∀ W,Calls Tryz.prog 37 #[.agg #[.bool (au (dN X)),.string (bs (nt (dN X).natAbs)),.int .i64 (dE X)]] W fun ex w'=>ex = .returned (.int .i64 (bM X)) /\ Bw W w':=fun W=>lT _ _ _ (bM X) (by show bM (aC (canon X)) = _;rw [bP]) W (hXm.ok zo);obtain ⟨g,hg⟩ : ∃ g,bM X = g:=⟨_,rfl⟩;have SD : R = if g = 0 then 5 else 0:=by
    rw [<- hR,<- hg];by_cases h : X = 0
    . rw [if_pos h,if_pos ((Ql X).2 h)]
    . rw [if_neg h,if_neg (fun h2=>h ((Ql X).1 h2))]
   rw [hg] at gH;have uM:=ah hsz;have jI:=ah gH;have Ha:=ah ha;have HT:=ah hT;have Oi:=ah SD;clear hsz gH ha hT SD hg hX hR hfit c4 hL;have Hb : Hid (Bw w w):=Below.refl _ _;go_enter Tryz.func15,Tryz.ntmps15;go_wp2_with fail;refine (uM.out _ (Ha.out.below Hb.out) (HT.out.below Hb.out)).mono ?_;rintro e w1 ⟨rfl,ae⟩;replace Hb:=az Hb ae;clear ae;obtain ⟨W2,eZ⟩ : ∃ W2,(w1.alloc (.cells #[.bool (au (dN X)),.string (bs (nt (dN X).natAbs)),.int .i64 (dE X)] 30)) = W2:=⟨_,rfl⟩;have ae : Bw w1 W2:=by rw [<- eZ];exact zl
   have Hd : Hid (ai W2 (w1.heap.size) 30 [.bool (au (dN X)),.string (bs (nt (dN X).natAbs)),.int .i64 (dE X)]):=by rw [<- eZ];exact ai.newAt _ _ _ zm
   obtain ⟨d0,d1,d2⟩:=Hd.out.c3;replace Hb:=az Hb ae;clear ae;go_wp2_with fail;refine (jI.out _).mono ?_;rintro e w3 ⟨rfl,ae⟩;clear d0 d1 d2;replace Hd:=kB Hd ae;obtain ⟨d0,d1,d2⟩:=Hd.out.c3;replace Hb:=az Hb ae;clear ae;by_cases hg0 : g = 0
   . have hr:=Oi.out;rw [if_pos hg0] at hr;subst hr hg0;go_wp2;refine bodyPost_ret (results_tmp rfl _ _ _) rfl ⟨rfl,Hb.out⟩
   . have hr:=Oi.out;rw [if_neg hg0] at hr;subst hr;go_wp2;refine bodyPost_ret (results_tmp rfl _ _ _) rfl ⟨rfl,Hb.out⟩
end Go.Proofs.YtdaadlblknpipaaGreatDoor
namespace Go.Proofs.YtdaadlblknpipaaGreatDoor
def xt (p : Nat -> Nat -> Dyadic) : Nat -> Nat -> Dyadic:=fun a b=>p (a + 1) b - p 0 b
def jo (n : Nat) (e : Nat -> Nat -> Dyadic) (k i : Nat) : Dyadic:=if (k + i) % 2 = 1 then -dR (n - 1) (jA e i k) else dR (n - 1) (jA e i k)
def iR (n : Nat) (p : Nat -> Nat -> Dyadic) (k i : Nat) : Dyadic:=jo n (xt p) k i * kO (fg n p)
def wS (n : Nat) (p : Nat -> Nat -> Dyadic) (x : Nat -> Dyadic) (i : Nat) : Nat -> Dyadic
 | 0=>0
 | k + 1=>wS n p x i k + (x k - p 0 k) * iR n p k i
theorem akl (n : Nat) (p : Nat -> Nat -> Dyadic) (x : Nat -> Dyadic) (i k : Nat) : wS n p x i k = kO (fg n p) * yb n (xt p) (fun k=>x k - p 0 k) i k:=by
 induction k with
 | zero=>simp [wS,yb]
 | succ k ih =>unfold wS yb;rw [ih];unfold iR jo;generalize (if (k + i) % 2 = 1 then -dR (n - 1) (jA (xt p) i k) else dR (n - 1) (jA (xt p) i k)) = z;grind
theorem MM (n : Nat) (hn : 1 <= n) (bY : n <= 4) (p : Nat -> Nat -> Dyadic) (x : Nat -> Dyadic) (i : Nat) (hi : i < n) : wS n p x i n = nE n p x (i + 1):=by rw [akl,afX n hn bY _ _ i hi];unfold nE;rw [adn];rfl
def wZ (n : Nat) (p : Nat -> Nat -> Dyadic) (x : Nat -> Dyadic) : Nat -> Dyadic
 | 0=>kO (fg n p) * fg n p
 | k + 1=>wZ n p x k - nE n p x (k + 1)
theorem ako (n : Nat) (p : Nat -> Nat -> Dyadic) (x : Nat -> Dyadic) (k : Nat) : wZ n p x k = kO (fg n p) * fg n p - qA (fun i=>nE n p x (i + 1)) k:=by
 induction k with
 | zero=>simp [wZ,qA];grind
 | succ k ih=>unfold wZ qA;rw [ih];grind
theorem WX (n : Nat) (hn : 1 <= n) (bY : n <= 4) (p : Nat -> Nat -> Dyadic) (x : Nat -> Dyadic) : wZ n p x n = nE n p x 0:=by rw [ako];unfold nE;rw [ajF,akD n hn bY p x];grind
theorem ajh (X : Dyadic) : kO X * X = if X < 0 then -X else X:=by
 rw [Wm];split
 . grind
 . split<;>grind
theorem Dr {B n : Nat} {e : Nat -> Nat -> Dyadic} (bY : n <= 4) (h : ∀ i j,i < n -> j < n -> Sm B (e i j)) : Sm (4 * B + 6) (dR n e):=by
 by_cases h0 : n = 0
 . subst h0;exact Sm.one.mono zo
 . exact Qb zo bY h
theorem Mr (X : Dyadic) : Sm 1 (kO X):=by
 rw [Wm];split
 . exact Sm.neg Sm.one
 . split
   . exact Sm.zero _
   . exact Sm.one
theorem DC {B n : Nat} {p : Nat -> Nat -> Dyadic} (h : ∀ a b,a <= n -> b < n -> Sm B (p a b)) (a b : Nat) (ha : a < n) (hb : b < n) : Sm (B + 1) (xt p a b):=Sm.sub (h (a + 1) b zo hb) (h 0 b zo hb)
theorem Pk {B n : Nat} {e : Nat -> Nat -> Dyadic} (hn : 1 <= n) (bY : n <= 4) (h : ∀ i j,i < n -> j < n -> Sm B (e i j)) (k i : Nat) : Sm (4 * B + 6) (jo n e k i):=by
 have h2 : Sm (4 * B + 6) (dR (n - 1) (jA e i k)):=Dr zo (fun a b ha hb=>h _ _ (by split<;>omega) (by split<;>omega));unfold jo;split
 . exact h2.neg
 . exact h2
theorem zU {B n : Nat} {p : Nat -> Nat -> Dyadic} (hn : 1 <= n) (bY : n <= 4) (h : ∀ a b,a <= n -> b < n -> Sm B (p a b)) (k i : Nat) : Sm (4 * B + 11) (iR n p k i):=
 (Sm.mul (Pk (B:=B + 1) hn bY (fun a b ha hb=>DC h a b ha hb) k i) (Mr _)).mono zo
theorem Wt {B n : Nat} {p : Nat -> Nat -> Dyadic} (bY : n <= 4) (h : ∀ a b,a <= n -> b < n -> Sm B (p a b)) : Sm (4 * B + 11) (kO (fg n p) * fg n p):=by rw [Dz];exact (Sm.mul (Mr _) (Dr (B:=B + 1) bY (fun a b ha hb=>DC h a b ha hb))).mono zo
theorem FH {B n : Nat} {p : Nat -> Nat -> Dyadic} {x : Nat -> Dyadic} (hn : 1 <= n) (bY : n <= 4) (h : ∀ a b,a <= n -> b < n -> Sm B (p a b)) (hx : ∀ b,b < n -> Sm B (x b)) (i k : Nat) (hk : k <= n) : Sm (5 * B + 12 + k) (wS n p x i k):=by
 induction k with
 | zero=>exact Sm.zero _
 | succ k ih =>have h1:=ih zo;have h2 : Sm (5 * B + 12) ((x k - p 0 k) * iR n p k i):=(Sm.mul (Sm.sub (hx k zo) (h 0 k zo zo)) (zU hn bY h k i)).mono zo;exact (h1.add (h2.mono zo)).mono zo
theorem Xc {B n : Nat} {p : Nat -> Nat -> Dyadic} {x : Nat -> Dyadic} (hn : 1 <= n) (bY : n <= 4) (h : ∀ a b,a <= n -> b < n -> Sm B (p a b)) (hx : ∀ b,b < n -> Sm B (x b)) (i : Nat) (hi : i < n) : Sm (5 * B + 16) (nE n p x (i + 1)):=by rw [<- MM n hn bY p x i hi];exact (FH hn bY h hx i n (Nat.le_refl _)).mono zo
theorem MP {B n : Nat} {p : Nat -> Nat -> Dyadic} {x : Nat -> Dyadic} (hn : 1 <= n) (bY : n <= 4) (h : ∀ a b,a <= n -> b < n -> Sm B (p a b)) (hx : ∀ b,b < n -> Sm B (x b)) (k : Nat) (hk : k <= n) : Sm (5 * B + 16 + k) (wZ n p x k):=by
 induction k with
 | zero=>exact (Wt bY h).mono zo
 | succ k ih=>exact (Sm.sub (ih zo) ((Xc hn bY h hx k zo).mono zo)).mono zo
def wC (n : Nat) (p : Nat -> Nat -> Dyadic) (i : Nat) : Dyadic:=wS n p (fun _=>0) i n
def lZ (n : Nat) (p : Nat -> Nat -> Dyadic) (b : Nat) : Nat -> Dyadic
 | 0=>0
 | k + 1=>lZ n p b k - iR n p b k
def iZ (R : List (List Dyadic)) (r c : Nat) : List (List Dyadic):=(R.eraseIdx r).map fun x=>x.eraseIdx c
theorem Vi (R : List (List Dyadic)) (r c m : Nat) (hL : R.length = m + 1) (hr : r <= m) : (iZ R r c).length = m:=by unfold iZ;rw [List.length_map,List.length_eraseIdx_of_lt zo];omega
theorem Vj (R : List (List Dyadic)) (r c m : Nat) (hrow : ∀ x ∈ R,x.length = m + 1) (hc : c <= m) : ∀ x ∈ iZ R r c,x.length = m:=by intro x hx;unfold iZ at hx;obtain ⟨y,hy,rfl⟩:=List.mem_map.1 hx;have:=hrow y (List.mem_of_mem_eraseIdx hy);rw [List.length_eraseIdx_of_lt zo];omega
theorem Vh (R : List (List Dyadic)) (r c m : Nat) (hL : R.length = m + 1) (hr : r <= m) (j : Nat) (hj : j < m) : (iZ R r c).getD j [] = (R.getD (if j < r then j else j + 1) []).eraseIdx c:=by
 unfold iZ;have h1 : j < (R.eraseIdx r).length:=by rw [List.length_eraseIdx_of_lt zo];omega
 rw [List.getD_eq_getElem?_getD,List.getElem?_map,List.getElem?_eq_getElem h1,Option.map_some,Option.getD_some,List.getElem_eraseIdx];split
 . rename_i h;rw [List.getD_eq_getElem?_getD,List.getElem?_eq_getElem zo];rfl
 . rename_i h;rw [List.getD_eq_getElem?_getD,List.getElem?_eq_getElem zo];rfl
theorem adZ (l : List Dyadic) (c j : Nat) (h : j + 1 < l.length) (hc : c < l.length) : (l.eraseIdx c).getD j 0 = l.getD (if j < c then j else j + 1) 0:=by
 have h1 : j < (l.eraseIdx c).length:=by rw [List.length_eraseIdx_of_lt hc];omega
 rw [List.getD_eq_getElem?_getD,List.getElem?_eq_getElem h1,Option.getD_some,List.getElem_eraseIdx];split
 . rw [List.getD_eq_getElem?_getD,List.getElem?_eq_getElem zo];rfl
 . rw [List.getD_eq_getElem?_getD,List.getElem?_eq_getElem zo];rfl
theorem agV (R : List (List Dyadic)) (r c m : Nat) (hL : R.length = m + 1) (hrow : ∀ x ∈ R,x.length = m + 1) (hr : r <= m) (hc : c <= m) (i j : Nat) (hi : i < m) (hj : j < m) : bT (iZ R r c) i j = jA (bT R) r c i j:=by
 show ((iZ R r c).getD i []).getD j 0 = (R.getD (if i < r then i else i + 1) []).getD (if j < c then j else j + 1) 0
 rw [Vh R r c m hL hr i hi];have hk : (if i < r then i else i + 1) < R.length:=by split<;>omega
 have e : R.getD (if i < r then i else i + 1) [] = R[if i < r then i else i + 1]'hk:=by rw [List.getD_eq_getElem?_getD,List.getElem?_eq_getElem hk];rfl
 have hl:=hrow _ (List.getElem_mem hk);rw [e];exact adZ _ c j (by rw [hl];omega) (by rw [hl];omega)
def nQ (n : Nat) (e : Nat -> Nat -> Dyadic) : List (List Dyadic):=(List.range n).map fun a=>(List.range n).map fun b=>jo n e a b
theorem Pm (n : Nat) (e : Nat -> Nat -> Dyadic) (a : Nat) (ha : a < n) : (nQ n e).getD a [] = (List.range n).map fun b=>jo n e a b:=by unfold nQ;simp [List.getD_eq_getElem?_getD,ha]
theorem aaO (n : Nat) (e : Nat -> Nat -> Dyadic) (a b : Nat) (ha : a < n) (hb : b < n) : bT (nQ n e) a b = jo n e a b:=by unfold bT;rw [Pm n e a ha];simp [List.getD_eq_getElem?_getD,hb]
theorem aaP (n : Nat) (e : Nat -> Nat -> Dyadic) : (nQ n e).length = n:=by simp [nQ]
theorem aaQ (n : Nat) (e : Nat -> Nat -> Dyadic) : ∀ r ∈ nQ n e,r.length = n:=by intro r hr;unfold nQ at hr;obtain ⟨x,_,rfl⟩:=List.mem_map.1 hr;simp
theorem agU (R : List (List Dyadic)) (r c m : Nat) (hL : R.length = m + 1) (hrow : ∀ x ∈ R,x.length = m + 1) (hr : r <= m) (hc : c <= m) (hm : m <= 4) : dR m (bT (iZ R r c)) = dR m (jA (bT R) r c):=
 Dq m hm (fun i j hi hj=>agV R r c m hL hrow hr hc i j hi hj)
theorem agW {B : Nat} {R : List (List Dyadic)} (h : ∀ x ∈ R,∀ d ∈ x,Sm B d) (r c : Nat) : ∀ x ∈ iZ R r c,∀ d ∈ x,Sm B d:=by intro x hx d hd;unfold iZ at hx;obtain ⟨y,hy,rfl⟩:=List.mem_map.1 hx;exact h y (List.mem_of_mem_eraseIdx hy) d (List.mem_of_mem_eraseIdx hd)
end Go.Proofs.YtdaadlblknpipaaGreatDoor
namespace Go.Proofs.YtdaadlblknpipaaGreatDoor
open Go.RowKit
def rz (rows : List (List Raw)) (i j v : Nat) : List (List Raw):=(rows.set v (jX (rows.getD i []) (rows.getD j []))).map dL
theorem Qy (r : List Raw) : (dL r).map aC = r.map aC:=by unfold dL;rw [List.map_map];refine List.map_congr_left (fun x _=>?_);exact bP _
theorem RJ (V i j v B : Nat) (rows : List (List Raw)) (hL : rows.length = V + 1) (hrow : ∀ r ∈ rows,r.length = V) (hij : i < j) (hj : j <= V) (hfit : ∀ r ∈ rows,∀ c ∈ r,Fit B c) (hB : B <= 10000000) :
 (rz rows i j v).length = V + 1 /\ (∀ r ∈ rz rows i j v,r.length = V) /\ (∀ r ∈ rz rows i j v,∀ c ∈ r,Fit (B + 3) c) /\
  ((rz rows i j v).map fun r=>r.map aC) = (rows.map fun r=>r.map aC).set v (midD (rows.getD i []) (rows.getD j [])) /\
  ∀ k,k < V -> (midD (rows.getD i []) (rows.getD j [])).getD k 0 = (((rows.map fun r=>r.map aC).getD i []).getD k 0 + ((rows.map fun r=>r.map aC).getD j []).getD k 0) * hp 1:=by
 have hi1 : i < rows.length:=by omega
 have lC : j < rows.length:=by omega
 have ei : rows.getD i [] = rows[i]:=by simp [List.getD_eq_getElem?_getD,hi1]
 have ej : rows.getD j [] = rows[j]:=by simp [List.getD_eq_getElem?_getD,lC]
 have li:=hrow _ (List.getElem_mem hi1);have lj:=hrow _ (List.getElem_mem lC);rw [show rz rows i j v = (rows.set v (jX rows[i] rows[j])).map dL by unfold rz;rw [ei,ej],ei,ej];have vA : (jX rows[i] rows[j]).length = V:=by rw [Vf zo,li]
 refine ⟨by simp [hL],fun r hr=>?_,fun r hr c hc=>?_,?_,fun k hk=>?_⟩
 . obtain ⟨x,hx,rfl⟩:=List.mem_map.1 hr;rw [Jk];rcases List.mem_or_eq_of_mem_set hx with h | h
   . exact hrow x h
   . rw [h];exact vA
 . obtain ⟨x,hx,rfl⟩:=List.mem_map.1 hr;unfold dL at hc;obtain ⟨y,hy,rfl⟩:=List.mem_map.1 hc;have hys : Sm (B + 3) (aC y):=by
    rcases List.mem_or_eq_of_mem_set hx with h | h
    . exact (hfit x h y hy).2.mono zo
    . rw [h] at hy;exact (Ve (hfit _ (List.getElem_mem hi1)) (hfit _ (List.getElem_mem lC)) hB y hy).2
   exact hys.fit zo
 . rw [List.map_map];have e : ((fun r : List Raw=>r.map aC) ∘ dL) = fun r=>r.map aC:=funext Qy;rw [e,List.map_set];congr 1;unfold jX;rw [List.map_map];have : (aC ∘ canon) = id:=funext bP;rw [this];simp
 . have h1 : ((rows.map fun r=>r.map aC).getD i []).getD k 0 = aC (rows[i][k]'zo):=by simp [List.getD_eq_getElem?_getD,hi1,show k < rows[i].length by omega]
   have h2 : ((rows.map fun r=>r.map aC).getD j []).getD k 0 = aC (rows[j][k]'zo):=by simp [List.getD_eq_getElem?_getD,lC,show k < rows[j].length by omega]
   rw [h1,h2];unfold midD;rw [List.getD_eq_getElem?_getD,List.getElem?_zipWith,List.getElem?_eq_getElem zo,List.getElem?_eq_getElem zo];rfl
theorem aew (V i j v B : Nat) (rows : List (List Raw)) (hL : rows.length = V + 1) (hrow : ∀ r ∈ rows,r.length = V) (hij : i < j) (hj : j <= V) (hv : v <= V) (hfit : ∀ r ∈ rows,∀ c ∈ r,Fit B c) (hB : B <= 10000000) (a b : Nat) (ha : a <= V) (hb : b < V) :
 cF (rz rows i j v) a b = gU (cF rows) (hp 1) i j v a b:=by
 obtain ⟨q1,q2,_,q4,q5⟩:=RJ V i j v B rows hL hrow hij hj hfit hB;unfold cF bT gU;rw [q4];have hlen : (rows.map fun r=>r.map aC).length = V + 1:=by simp [hL]
 by_cases e : a = v
 . subst e;rw [if_pos rfl];have : ((rows.map fun r=>r.map aC).set a (midD (rows.getD i []) (rows.getD j []))).getD a [] = midD (rows.getD i []) (rows.getD j []):=by rw [List.getD_eq_getElem?_getD,List.getElem?_set_self zo];rfl
   rw [this];exact q5 b hb
 . rw [if_neg e];have : ((rows.map fun r=>r.map aC).set v (midD (rows.getD i []) (rows.getD j []))).getD a [] = (rows.map fun r=>r.map aC).getD a []:=by rw [List.getD_eq_getElem?_getD,List.getElem?_set_ne (fun h=>e h.symm),<- List.getD_eq_getElem?_getD]
   rw [this]
theorem ajz (p q : List Dyadic) (k : Nat) : oP p q k = fX (fun i=>p.getD i 0) (fun i=>q.getD i 0) k:=by
 induction k with
 | zero=>rfl
 | succ k ih=>unfold oP fX;rw [ih]
theorem agP (rows : List (List Raw)) (a : Nat) : (rows.map fun r=>r.map aC).getD a [] = (rows.getD a []).map aC:=by
 by_cases h : a < rows.length
 . simp [List.getD_eq_getElem?_getD,h]
 . simp [List.getD_eq_getElem?_getD,List.getElem?_eq_none (by omega : rows.length <= a)]
theorem Fv (rows : List (List Raw)) (n a b : Nat) : cH rows n a b = cG n (cF rows) a b:=by unfold cH cG cF bT;rw [ajz];simp only [agP]
theorem Wv (n : Nat) {p q : Nat -> Nat -> Dyadic} (h : ∀ a b,a <= n -> b < n -> p a b = q a b) (a b : Nat) (ha : a <= n) (hb : b <= n) : cG n p a b = cG n q a b:=ajx n (fun k hk=>h a k ha hk) (fun k hk=>h b k hb hk)
theorem jL.congr {n : Nat} {m : Dyadic} {c : Nat} {p q : Nat -> Nat -> Dyadic} (hk : jL n m c p) (h : ∀ a b,a <= n -> b < n -> p a b = q a b) : jL n m c q:=by
 obtain ⟨h1,old,h2,h3,h4⟩:=hk;refine ⟨fun a b ha hb=>?_,old,h2,h3,fun a b ha hb hab hn=>?_⟩
 . rw [<- Wv n h a b ha hb];exact h1 a b ha hb
 . rw [<- Wv n h a b ha hb];exact h4 a b ha hb hab hn
theorem UJ (n : Nat) (hn : 1 <= n) (p : Nat -> Nat -> Dyadic) (sq : Nat -> Nat -> Dyadic) (mS : ∀ a b,sq a b = cG n p a b) (a b : Nat) (ha : a <= n) (hb : b <= n) : cG n p a b <= (dh sq (n + 1)).2.2:=by
 have hF:=vU sq (n + 1) zo;have h0 : ∀ x y,0 <= cG n p x y:=fun x y=>Mu _ _ _;rcases Nat.lt_trichotomy a b with h | h | h
 . rw [<- mS];exact UI sq (n + 1) a b h zo
 . subst h;have e : cG n p a a = 0:=Wu _ _;rw [e,hF.2.2,mS];exact h0 _ _
 . rw [Mv,<- mS];exact UI sq (n + 1) b a h zo
def rA (n : Nat) (second : Bool) (rows : List (List Raw)) : List (List Raw):=
 rz rows (dh (cH rows n) (n + 1)).1 (dh (cH rows n) (n + 1)).2.1 (if second then (dh (cH rows n) (n + 1)).1 else (dh (cH rows n) (n + 1)).2.1)
def iK (n : Nat) (ss : List Bool) (rows : List (List Raw)) : List (List Raw):=ss.foldl (fun r s=>rA n s r) rows
def Rw (n B : Nat) (rows : List (List Raw)) : Prop:=rows.length = n + 1 /\ (∀ r ∈ rows,r.length = n) /\ ∀ r ∈ rows,∀ c ∈ r,Fit B c
theorem RI {n B : Nat} {rows : List (List Raw)} (h : Rw n B rows) (hn : 1 <= n) (hB : B <= 10000000) (s : Bool) : Rw n (B + 3) (rA n s rows):=by obtain ⟨h1,h2,h3⟩:=h;have hF:=vU (cH rows n) (n + 1) zo;obtain ⟨q1,q2,q3,_,_⟩:=RJ n (dh (cH rows n) (n + 1)).1 (dh (cH rows n) (n + 1)).2.1 (if s then (dh (cH rows n) (n + 1)).1 else (dh (cH rows n) (n + 1)).2.1) B rows h1 h2 hF.1 zo h3 hB;exact ⟨q1,q2,q3⟩
theorem aev {n B : Nat} {rows : List (List Raw)} (h : Rw n B rows) (hn : 1 <= n) (hB : B <= 10000000) (s : Bool) {m : Dyadic} {c : Nat} (hk : jL n m c (cF rows)) : jL n m (c - 1) (cF (rA n s rows)):=by obtain ⟨h1,h2,h3⟩:=h;have hF:=vU (cH rows n) (n + 1) zo;have hall:=UJ n hn (cF rows) (cH rows n) (fun a b=>Fv rows n a b);unfold rA;generalize dh (cH rows n) (n + 1) = F at *;obtain ⟨i,j,Y⟩:=F;obtain ⟨f1,f2,f3⟩:=hF;simp only at f1 f2 f3 hall ⊢;have hst:=hk.step (hp 1) afa i j (if s then i else j) zo zo zo (by cases s<;>simp) (fun a b ha hb=>by have:=hall a b ha hb;rw [f3,Fv] at this;exact this);exact hst.congr (fun a b ha hb=>(aew n i j _ B rows h1 h2 f1 zo (by cases s<;>simp<;>omega) h3 hB a b ha hb).symm)
theorem VF {n : Nat} (hn : 1 <= n) (ss : List Bool) {B : Nat} {rows : List (List Raw)} (h : Rw n B rows) (hB : B + 3 * ss.length <= 10000000) : Rw n (B + 3 * ss.length) (iK n ss rows):=by
 induction ss generalizing B rows with
 | nil=>exact h
 | cons s ss ih =>simp only [List.length_cons] at hB ⊢;have:=ih (RI h hn zo s) zo;rwa [show B + 3 + 3 * ss.length = B + 3 * (ss.length + 1) by omega] at this
theorem ahV {n : Nat} (hn : 1 <= n) (ss : List Bool) {B : Nat} {rows : List (List Raw)} (h : Rw n B rows) (hB : B + 3 * ss.length <= 10000000) {m : Dyadic} {c : Nat} (hk : jL n m c (cF rows)) : jL n m (c - ss.length) (cF (iK n ss rows)):=by
 induction ss generalizing B rows c with
 | nil=>exact hk
 | cons s ss ih =>simp only [List.length_cons] at hB ⊢;have:=ih (RI h hn zo s) zo (aev h hn zo s hk);rwa [show c - 1 - ss.length = c - (ss.length + 1) by omega] at this
theorem aij (rows : List (List Raw)) : cF (rows.map dL) = cF rows:=by unfold cF;rw [List.map_map];have e : ((fun r : List Raw=>r.map aC) ∘ dL) = fun r=>r.map aC:=funext Qy;rw [e]
theorem Jl {n B : Nat} {rows : List (List Raw)} (h : Rw n B rows) (hB : B <= 10000000) : Rw n B (rows.map dL):=by
 obtain ⟨h1,h2,h3⟩:=h;refine ⟨by simpa using h1,fun r hr=>?_,fun r hr c hc=>?_⟩
 . obtain ⟨x,hx,rfl⟩:=List.mem_map.1 hr;rw [Jk];exact h2 x hx
 . obtain ⟨x,hx,rfl⟩:=List.mem_map.1 hr;unfold dL at hc;obtain ⟨y,hy,rfl⟩:=List.mem_map.1 hc;exact (h3 x hx y hy).2.fit zo
theorem afU {n B : Nat} {rows : List (List Raw)} (h : Rw n B rows) (hn : 1 <= n) (ss : List Bool) (hs : ss.length = n) (hB : B + 3 * n <= 10000000) :
 (dh (cH (iK n ss (rows.map dL)) n) (n + 1)).2.2 + (dh (cH (iK n ss (rows.map dL)) n) (n + 1)).2.2 + (dh (cH (iK n ss (rows.map dL)) n) (n + 1)).2.2 + (dh (cH (iK n ss (rows.map dL)) n) (n + 1)).2.2 <=
  (dh (cH rows n) (n + 1)).2.2 + (dh (cH rows n) (n + 1)).2.2 + (dh (cH rows n) (n + 1)).2.2:=by
 have hall:=UJ n hn (cF rows) (cH rows n) (fun a b=>Fv rows n a b);have h0 : jL n (dh (cH rows n) (n + 1)).2.2 (n + 1) (cF (rows.map dL)):=by rw [aij];exact jL.start n _ _ hall
 have h1:=ahV hn ss (Jl h zo) (by rw [hs];exact hB) h0;have hF:=vU (cH (iK n ss (rows.map dL)) n) (n + 1) zo;have h2:=h1.done zo (dh (cH (iK n ss (rows.map dL)) n) (n + 1)).1 (dh (cH (iK n ss (rows.map dL)) n) (n + 1)).2.1 zo zo zo;rw [<- Fv,<- hF.2.2] at h2;exact h2
end Go.Proofs.YtdaadlblknpipaaGreatDoor
namespace Go.Proofs.YtdaadlblknpipaaGreatDoor
open Go.RowKit
attribute [local go_sem ↓] Go.wp_at_zero Go.wp_at_succ
def oO (ss : List Int) : List Value:=ss.map fun x=>.int .i64 x
def nD (x : Int) : Bool:=decide (x = 1)
def ui (ss : List Int) : Prop:=∀ x ∈ ss,x = 0 \/ x = 1
theorem ahW (n : Nat) (ss : List Bool) (s : Bool) (rows : List (List Raw)) : iK n (ss ++ [s]) rows = rA n s (iK n ss rows):=by unfold iK;rw [List.foldl_append];rfl
theorem FD {n B : Nat} {rows : List (List Raw)} (h : Rw n B rows) (hn : 1 <= n) (pM : n <= 8) : gD rows = n:=Ce h.1 h.2.1 hn pM
theorem aex (a : Option Addr) (cap n B : Nat) (rows : List (List Raw)) (w : World) (hn : 1 <= n) (pM : n <= 8) (hr : Rw n B rows) (ha : aY w a rows) (hB : B <= 10000000) (hT : aB w) :
 Calls Tryz.prog 14 #[.slice a (n + 1) cap] w fun e w'=>∃ a1 c1 a2 c2,e = .returned (.tuple #[.slice a1 (n + 1) c1,.slice a2 (n + 1) c2,.int .i64 0]) /\ n + 1 <= c1 /\ n + 1 <= c2 /\
  aY w' a1 (rA n false rows) /\ aY w' a2 (rA n true rows) /\ Bw w w':=by
 obtain ⟨i,j,Y,hF⟩ : ∃ i j Y,dh (cH rows n) (n + 1) = (i,j,Y):=⟨_,_,_,rfl⟩;have h:=RL a (n + 1) cap n rows B i j Y w hr.1 (FD hr hn pM) hn ha hr.2.2 hB hT hF;unfold rA rz;rw [hF];exact h
def uP (w : World) (n : Nat) (rows : List (List Raw)) (ss : List Int) (e : Ending) (w' : World) : Prop:=
 (ui ss -> ∃ a' c',e = .returned (.tuple #[.slice a' (n + 1) c',.int .i64 0]) /\ n + 1 <= c' /\ aY w' a' (iK n (ss.map nD) (rows.map dL))) /\ (¬ ui ss -> e = .returned (.tuple #[.slice none 0 0,.int .i64 1])) /\ Bw w w'
theorem uP.ok {w w' : World} {n : Nat} {rows : List (List Raw)} {ss : List Int} {a : Option Addr} {c : Nat} (h : ui ss) (hc : n + 1 <= c) (ht : aY w' a (iK n (ss.map nD) (rows.map dL))) (hb : Bw w w') : uP w n rows ss (.returned (.tuple #[.slice a (n + 1) c,.int .i64 0])) w':=
 ⟨fun _=>⟨a,c,rfl,hc,ht⟩,fun h2=>absurd h h2,hb⟩
theorem uP.no {w w' : World} {n : Nat} {rows : List (List Raw)} {ss : List Int} (h : ¬ ui ss) (hb : Bw w w') : uP w n rows ss (.returned (.tuple #[.slice none 0 0,.int .i64 1])) w':=
 ⟨fun h2=>absurd h2 h,fun _=>rfl,hb⟩
theorem ahX (a : Option Addr) (cap n B : Nat) (rows : List (List Raw)) (sa : Option Addr) (m sc : Nat) (ss : List Int) (w : World) (hn : 1 <= n) (pM : n <= 8) (hr : Rw n B rows) (ha : aY w a rows) (hs : At w sa (oO ss)) (hm : ss.length = m) (oF : m <= 1000) (hB : B <= 1000000) (hT : aB w) :
 Calls Tryz.prog 32 #[.slice a (n + 1) cap,.slice sa m sc] w (uP w n rows ss):=by
 have hv:=fun W (hW : Bw w W)=>yG a (n + 1) cap rows W hr.1 zo (ha.below hW);rw [FD hr hn pM] at hv;have jw : rows.set (n + 1) [] = rows:=List.set_eq_of_length_le (by rw [hr.1];exact Nat.le_refl _);have vM:=fun W (hW : Bw w W)=>WZ a (n + 1) cap rows (n + 1) none 0 0 [] W hr.1 zo rfl zo (fun r h=>by rw [hr.2.1 r h];exact pM) (ha.below hW) (.inl rfl) (fun r h x hx=>(hr.2.2 r h x hx).1) (fun x hx=>by cases hx) (hT.below hW) (-1) (fun k hk=>by omega);rw [jw] at vM;have hrf : Rw n B (rows.map dL):=Jl hr zo;have TH:=fun k=>VF hn ((ss.take k).map nD) hrf (by rw [List.length_map,List.length_take];omega);have SG:=fun k W (hW : Bw w W) a1 c1 (h1 : aY W a1 (iK n ((ss.take k).map nD) (rows.map dL)))=>aex a1 c1 n _ _ W hn pM (TH k) h1 (by rw [List.length_map,List.length_take];omega) (hT.below hW);have Hv:=ah hv;have aam:=ah vM;have YJ:=ah SG;have Hs:=ah hs;have Hm:=ah hm;clear hv jw vM hrf TH SG hs hm hT ha hr;have hn0 : ((n : Int) == 0) = false:=by simp;omega
 have Hb : Hid (Bw w w):=Below.refl _ _;go_enter Tryz.func32,Tryz.ntmps32;go_wp2_with fail;refine (Hv.out _ Hb.out).mono ?_;rintro e w1 ⟨rfl,ae⟩;replace Hb:=az Hb ae;clear ae;go_wp2_with fail;refine (aam.out _ Hb.out).mono ?_;rintro e w2 ⟨a1,c1,rfl,hc1,ht1,ae⟩;replace Hb:=az Hb ae;clear ae;have sG:=ah ht1;clear ht1;go_wp2_with fail;go_loopw [0,18] (fun s0 x wr=>∃ (k : Nat) (ak : Option Addr) (ck : Nat),k <= m /\ x = .int .i64 (k : Int) /\ s0 = .slice ak (n + 1) ck /\ n + 1 <= ck /\ ui (ss.take k) /\ aY wr ak (iK n ((ss.take k).map nD) (rows.map dL)) /\ Bw w wr) (fun _ x _=>m - (intOf x).toNat);case atStart=>exact ⟨0,a1,c1,Nat.zero_le _,rfl,rfl,hc1,(fun x hx=>by cases hx),sG.out,Hb.out⟩
 case round=>
  clear sG Hb hn0;obtain ⟨k,ak,ck,hk,rfl,rfl,fc,hok,ht,pb⟩:=hrel;by_cases hlt : k < m
  . have hks : k < ss.length:=by rw [Hm.out];exact hlt
    obtain ⟨x,hx⟩ : ∃ x,ss[k] = x:=⟨_,rfl⟩;obtain ⟨b,o,rfl,hcs⟩:=(Hs.out.below pb).get (by intro h0;have:=congrArg List.length h0;simp [oO] at this;rw [this] at hks;simp at hks);have hc0 : wr.cell? ⟨b,o + k,none⟩ = some (.int .i64 x):=by rw [hcs k (by simp [oO];exact hks)];simp [oO,hks,hx]
    have bz:=afv m sc k (k : Int) (rfl : (some ⟨b,o,none⟩ : Option Addr) = _) hlt rfl;rw [Nat.mul_one] at bz;have htk : ss.take (k + 1) = ss.take k ++ [x]:=by rw [List.take_succ_eq_append_getElem hks,hx]
    have hmem : x ∈ ss:=by rw [<- hx];exact List.getElem_mem hks
    have hst : ∀ (s : Bool),nD x = s -> iK n ((ss.take (k + 1)).map nD) (rows.map dL) = rA n s (iK n ((ss.take k).map nD) (rows.map dL)):=fun s h=>by rw [htk,List.map_append,List.map_cons,List.map_nil,h,ahW]
    have Tu : x = 0 \/ x = 1 -> ui (ss.take (k + 1)):=fun h y hy=>by
     rw [htk] at hy;rcases List.mem_append.1 hy with hy | hy
     . exact hok y hy
     . simp at hy;rw [hy];exact h
    have hno : ¬ (x = 0 \/ x = 1) -> ¬ ui ss:=fun h h2=>h (h2 x hmem);have Ht:=ah ht;have aR:=ah pb;have bX:=ah hst;have CO:=ah Tu;have Zj:=ah hno;clear ht pb hst Tu hno htk hmem hok hx hcs;go_wp2_with fail;refine (YJ.out k _ aR.out ak ck Ht.out).mono ?_;rintro e w4 ⟨a2,c2,a3,c3,rfl,hc2,hc3,ht2,oK,hb4⟩;have wV:=ah ht2;have wW:=ah oK;have gZ:=ah (aJ aR.out hb4);clear ht2 oK hb4 hc0 bz;by_cases h0 : x = 0
    . subst h0;go_wp2;go_roundw;case rel=>exact ⟨k + 1,a2,c2,by omega,by go_num,rfl,hc2,CO.out zm,by rw [bX.out false rfl];exact wV.out,gZ.out⟩
      case measure=>simp [intOf];omega
    . by_cases h1 : x = 1
      . subst h1;go_wp2;go_roundw;case rel=>exact ⟨k + 1,a3,c3,by omega,by go_num,rfl,hc3,CO.out zm,by rw [bX.out true rfl];exact wW.out,gZ.out⟩
        case measure=>simp [intOf];omega
      . have e0 : (x == 0) = false:=by simpa using h0
        have e1 : (x == 1) = false:=by simpa using h1
        go_wp2;refine bodyPost_ret (v:=.tuple #[.slice none 0 0,.int .i64 1]) (by simp [results,Tryz.results32,go_sem]) rfl (uP.no (Zj.out (fun h=>h.elim h0 h1)) gZ.out)
  . obtain rfl : k = m:=by omega
    have sD:=hok;have Ht:=ah ht;have aR:=ah pb;rw [List.take_of_length_le (by rw [Hm.out];exact Nat.le_refl _)] at sD;have Be:=Ht.out;rw [List.take_of_length_le (by rw [Hm.out];exact Nat.le_refl _)] at Be;have Ht9:=ah Be;have XD:=ah sD;clear ht pb Be hok sD Ht;go_wp2;exact bodyPost_ret (v:=.tuple #[.slice ak (n + 1) ck,.int .i64 0]) (by simp [results,Tryz.results32,go_sem]) rfl (uP.ok XD.out fc Ht9.out aR.out)
end Go.Proofs.YtdaadlblknpipaaGreatDoor
