/- Packages ogeeref07,ogeeref08: May;put. -/
import Derived.Test.YtdaadlblknpipaaGreatDoorZ19
import Derived.Test.YtdaadlblknpipaaGreatDoorZ12
import Derived.Test.YtdaadlblknpipaaGreatDoorZ15
set_option linter.unusedVariables false
set_option linter.unusedSimpArgs false
set_option maxRecDepth 100000
set_option maxHeartbeats 16000000
namespace Go.Proofs.YtdaadlblknpipaaGreatDoor
open Go.RowKit
attribute [local go_sem ↓] Go.wp_at_zero Go.wp_at_succ
theorem aiK (l : List UInt8) (v : Int) (w : World) (hl : l.length <= 9223372036854775807) :
 Calls Tryz.prog 121 #[.string (bs l),.int .i64 v] w fun e w'=>e = .returned (.bool (fA l v)) /\ Bw w w':=by
 obtain ⟨n,hn⟩ : ∃ n,l.length = n:=⟨_,rfl⟩;have hsz : (bs l).size = n:=by rw [lS,hn]
 obtain ⟨M,hM⟩ : ∃ M,fA l v = M:=⟨_,rfl⟩;rw [hM];have HM:=ah hM;have Hn:=ah hn;rw [hn] at hl;clear hM hn;go_enter Tryz.func121,Tryz.ntmps121;have Hb : Hid (Bw w w):=Below.refl _ _;go_wp2_with fail;go_loopw [5] (fun x wr=>∃ k : Nat,k <= n /\ x = .int .i64 (k : Int) /\ ((l.take k).all fun c=>decide (c.toNat <= 127)) = true /\ Bw w wr) (fun x _=>n - (intOf x).toNat);case atStart=>exact ⟨0,Nat.zero_le _,rfl,rfl,Hb.out⟩
 case round=>
  clear Hb;obtain ⟨k,hk,rfl,hall,pb⟩:=hrel;have uv:=ah hall;have Hb:=ah pb;clear hall pb;by_cases hlt : k < n
  . have hk2 : k < l.length:=by rw [Hn.out];exact hlt
    have ix:=vP l (k : Int) k hk2 rfl;obtain ⟨c,hc⟩ : ∃ c : Nat,(l[k]).toNat = c:=⟨_,rfl⟩;rw [hc] at ix;by_cases h1 : 128 <= c
    . have h2 : (128 : Int) <= (c : Int):=by omega
      have vz : M = false:=by
       rw [<- HM.out];unfold fA;have : (l.all fun c=>decide (c.toNat <= 127)) = false:=by rw [List.all_eq_false];exact ⟨l[k],List.getElem_mem hk2,by simp;omega⟩
       rw [this];rfl
      subst vz;go_wp2;refine bodyPost_ret (v:=.bool false) (by simp [results,Tryz.results121,go_sem]) rfl ⟨rfl,?_⟩;(repeat first | exact Hb.out | (refine Below.setCell ?_ (by have:=Hb.out.size;first | (dsimp only;omega) | (show _ <= _;omega) | (simp<;>omega)) _) | (refine Below.alloc ?_ zt _) | refine Below.drew ?_)
    . have h2 : ¬ (128 : Int) <= (c : Int):=by omega
      have bX : Hid (((l.take (k + 1)).all fun c=>decide (c.toNat <= 127)) = true):=by
       show _ = _
       rw [List.take_succ_eq_append_getElem hk2,List.all_append,uv.out];simp;omega
      clear hc;go_wp2;go_roundw;case rel=>exact ⟨k + 1,by omega,by go_num,bX.out,Hb.out⟩
      case measure=>simp [intOf];omega
  . obtain rfl : k = n:=by omega
    have hme : M = decide ((k : Int) = v):=by rw [<- HM.out];have h:=uv.out;rw [List.take_of_length_le (by rw [Hn.out];exact Nat.le_refl _)] at h;unfold fA;rw [h,Hn.out,Bool.true_and]
    have GK:=ah hme;clear hme;go_wp2;refine bodyPost_ret (results_tmp rfl _ _ _) rfl ⟨?_,Hb.out⟩;rw [GK.out];by_cases h : (k : Int) = v<;>simp [h]
theorem aaT (m : List UInt8) (l : List aK) (j : Nat) (h : j < fZ m l) (hj : j < l.length) : Op.bytesLess l[j].1 m = true:=by
 induction l generalizing j with
 | nil=>simp at hj
 | cons x l ih =>
   unfold fZ at h;split at h
   . rename_i hx
     cases j with
     | zero=>exact hx
     | succ j=>exact ih j zo (by simpa using hj)
   . omega
theorem aaU (m : List UInt8) (l : List aK) (h : fZ m l < l.length) : Op.bytesLess l[fZ m l].1 m = false:=by
 induction l with
 | nil=>simp at h
 | cons x l ih =>
   by_cases hx : Op.bytesLess x.1 m = true
   . have e : fZ m (x :: l) = fZ m l + 1:=by show (if _ then _ else _) = _;rw [if_pos hx]
     simp only [e] at h ⊢;exact ih (by simpa using h)
   . have e : fZ m (x :: l) = 0:=by show (if _ then _ else _) = _;rw [if_neg hx]
     simp only [e];simpa using hx
theorem ain (l : List aK) (x : aK) (k : Nat) (hk : fZ x.1 l = k) (h : k < l.length) (e : l[k].1 = x.1) : fK l x = l.take k ++ [(x.1,canon (aC l[k].2 + aC x.2))] ++ l.drop (k + 1):=by
 have e1 : (l.drop k).head? = some l[k]:=by rw [List.drop_eq_getElem_cons h];rfl
 have e2 : (l.drop k).headD default = l[k]:=by rw [List.drop_eq_getElem_cons h];rfl
 rw [VN,hk,e1,e2,if_pos (by rw [Option.map_some,e]),List.append_assoc,List.singleton_append]
theorem LZ (l : List aK) (x : aK) (k : Nat) (hk : fZ x.1 l = k) (h : ∀ h : k < l.length,l[k].1 ≠ x.1) : fK l x = l.take k ++ [(x.1,canon (aC x.2))] ++ l.drop k:=by
 rw [VN,hk,if_neg,List.append_assoc,List.singleton_append];intro e;by_cases hl : k < l.length
 . rw [List.drop_eq_getElem_cons hl,List.head?_cons,Option.map_some] at e;exact h hl (Option.some.inj e)
 . rw [List.drop_of_length_le zo] at e;cases e
theorem At.an5 {w : World} {a : Option Addr} {ts : List aK} (h : At w a (ts.flatMap aM)) (k : Nat) : At w a ((ts.take k).flatMap aM):=by
 have e : (ts.take k).flatMap aM ++ (ts.drop k).flatMap aM = ts.flatMap aM:=by rw [<- List.flatMap_append,List.take_append_drop]
 rcases h with h | ⟨b,o,rfl,hc⟩
 . rw [h] at e;exact .inl (List.append_eq_nil_iff.1 e).1
 . by_cases h0 : (ts.take k).flatMap aM = []
   . exact .inl h0
   . refine .inr ⟨b,o,rfl,fun j hj=>?_⟩;rw [hc j (by rw [<- e,List.length_append];omega),<- e,List.getElem?_append_left hj]
theorem At.an1 {w : World} {a : Option Addr} {ts : List aK} (h : At w a (ts.flatMap aM)) {n cap : Nat} (k : Nat) (hn : ts.length = n) (hk : k <= n) (hc : n <= cap) : At w (if cap = k then a else a.map (·.add (k * 4))) ((ts.drop k).flatMap aM):=by
 have h1:=At.cut (size:=4) (n:=n) (k:=k) (cap:=cap) h (by rw [kg,hn]) hk hc;have e : (ts.drop k).flatMap aM = (ts.flatMap aM).drop (k * 4):=by
  have e0 : ts.flatMap aM = (ts.take k).flatMap aM ++ (ts.drop k).flatMap aM:=by rw [<- List.flatMap_append,List.take_append_drop]
  rw [e0,List.drop_append_of_le_length (by rw [kg,List.length_take];omega)];have e1 : ((ts.take k).flatMap aM).length = k * 4:=by rw [kg,List.length_take,Nat.min_eq_left zo]
  rw [<- e1,List.drop_length,List.nil_append]
 rw [e];exact h1
theorem aiW (a : Option Addr) (n cap : Nat) (ts : List aK) (l : List UInt8) (s : Bool) (m : List UInt8) (e : Int) (w : World) (hn : ts.length = n) (hl : n <= 65536) (hs : Sl a n cap) (ha : At w a (ts.flatMap aM)) (hf : ∀ t ∈ ts,gj t.2) (hx : gj (s,m,e)) :
 Calls Tryz.prog 120 #[.slice a n cap,.agg #[.string (bs l),.bool s,.string (bs m),.int .i64 e]] w fun ex w'=>∃ v',ex = .returned v' /\ w'.ownsRow w.heap.size 107 4 v' (fK ts (l,s,m,e)).length ((fK ts (l,s,m,e)).flatMap aM) /\ Bw w w':=by
 obtain ⟨i0,hi,hz0,hz1,hz2⟩:=info_parts Tryz.an0;obtain ⟨A,hA⟩ : ∃ A,fZ l ts = A:=⟨_,rfl⟩;have hAn : A <= n:=by rw [<- hA,<- hn];exact aaS _ _
 have hgo : ∀ j (h : j < ts.length),j < A -> Op.bytesLess ts[j].1 l = true:=fun j h hj=>aaT l ts j zo h;have hst : ∀ (h : A < ts.length),Op.bytesLess ts[A].1 l = false:=fun h=>by subst hA;exact aaU l ts h
 have EE:=hs.1;have Hi:=ah hi;have cO:=ah hz0;have cP:=ah hz1;have cE:=ah hz2;have Co:=ah hA;have YF:=ah hgo;have bX:=ah hst;have Hs:=ah hs;have Ha:=ah ha;have Hf:=ah hf;have gG:=ah hx;have Hn:=ah hn;clear hi hz0 hz1 hz2 hA hgo hst hs ha hf hx hn;obtain ⟨W,aL⟩ : ∃ W,(w.alloc (.cells #[.string (bs l),.bool s,.string (bs m),.int .i64 e] 107)) = W:=⟨_,rfl⟩;have Hb : Hid (Bw w W):=by rw [<- aL];exact zl
 have Hx : Hid (ai W (w.heap.size) 107 [.string (bs l),.bool s,.string (bs m),.int .i64 e]):=by rw [<- aL];exact ai.newAt _ _ _ zm
 obtain ⟨x0,x1,x2,x3⟩:=Hx.out.c4;go_enter Tryz.func120,Tryz.ntmps120;go_wp2_with fail;go_loopw [5] (fun x wr=>∃ k : Nat,k <= A /\ x = .int .i64 (k : Int) /\ ai wr w.heap.size 107 [.string (bs l),.bool s,.string (bs m),.int .i64 e] /\ Bw w wr) (fun x _=>n - (intOf x).toNat);case atStart=>exact ⟨0,Nat.zero_le _,rfl,Hx.out,Hb.out⟩
 case round=>
  clear x0 x1 x2 x3 Hx Hb;obtain ⟨k,hk,rfl,px,pb⟩:=hrel;have Hx:=ah px;have Hb:=ah pb;clear px pb;by_cases hlt : k < A
  . have hkn : k < n:=by omega
    have hk2 : k < ts.length:=by rw [Hn.out];exact hkn
    obtain ⟨l',s',m',e',hx'⟩ : ∃ l s m e,ts[k] = (l,s,m,e):=⟨_,_,_,_,rfl⟩;obtain ⟨b,o,rfl,cj⟩:=(Ha.out.below Hb.out).term k hk2 hx';have bz:=iH n cap k (k : Int) (rfl : (some ⟨b,o,none⟩ : Option Addr) = _) hkn rfl;have pK : Op.bytesLess (bs l').toList (bs l).toList = true:=by rw [fx,fx];have:=YF.out k hk2 hlt;rw [hx'] at this;exact this
    have Ht : Hid (bj wr b (o + k * 4) [.string (bs l'),.bool s',.string (bs m'),.int .i64 e']):=cj;clear cj hx';obtain ⟨x0,x1,x2,x3⟩:=Hx.out.c4;obtain ⟨t0,t1,t2,t3⟩:=Ht.out.w4;have pL : decide ((k : Int) < (n : Int)) = true:=by simp;omega
    go_wp2_with fail;refine bE (fun w'=>w'.cell? ⟨w.heap.size,0,none⟩ = some (.string (bs l)) /\ w'.cell? ⟨b,o + k * 4,none⟩ = some (.string (bs l'))) (fun i=>Nat.blt i 100000) [(0,true),(1,true),(2,true),(3,true),(4,true),(5,true),(6,true),(7,true),(8,true),(9,true),(10,true),(11,true),(12,true),(13,true)] zk zk rfl zk zc ⟨x0,t0⟩ ?_;iterate 14 (refine pT rfl rfl ?_ (by intro w' ⟨q0,q1⟩;go_simp;try with_reducible rfl);try simp only [UU])
    simp only [aV];go_wp2;go_roundw;case rel=>exact ⟨k + 1,by omega,by go_num,Hx.out,Hb.out.drew⟩
    case measure=>simp [intOf];omega
  . obtain rfl : k = A:=by omega
    have hkc : k <= cap:=by omega
    by_cases hkn : k < n
    . have hk2 : k < ts.length:=by rw [Hn.out];exact hkn
      obtain ⟨l',s',m',e',hx'⟩ : ∃ l s m e,ts[k] = (l,s,m,e):=⟨_,_,_,_,rfl⟩;obtain ⟨b,o,rfl,cj⟩:=(Ha.out.below Hb.out).term k hk2 hx';have bz:=iH n cap k (k : Int) (rfl : (some ⟨b,o,none⟩ : Option Addr) = _) hkn rfl;have pK : Op.bytesLess (bs l').toList (bs l).toList = false:=by rw [fx,fx];have:=bX.out hk2;rw [hx'] at this;exact this
      have lbt : b < w.heap.size:=by obtain ⟨b3,o3,h3,hw3⟩:=Ha.out.term k hk2 hx';simp only [Option.some.injEq,Addr.mk.injEq,and_true] at h3;obtain ⟨rfl,rfl⟩:=h3;exact World.block_lt_of_cell? w _ (hw3.cell 0 zm)
      have Ht : Hid (bj wr b (o + k * 4) [.string (bs l'),.bool s',.string (bs m'),.int .i64 e']):=cj;clear cj;obtain ⟨x0,x1,x2,x3⟩:=Hx.out.c4;obtain ⟨t0,t1,t2,t3⟩:=Ht.out.w4;have pL : decide ((k : Int) < (n : Int)) = true:=by simp;omega
      go_wp2_with fail;refine bE (fun w'=>w'.cell? ⟨w.heap.size,0,none⟩ = some (.string (bs l)) /\ w'.cell? ⟨b,o + k * 4,none⟩ = some (.string (bs l'))) (fun i=>Nat.blt i 100000) [(0,true),(1,true),(2,true),(3,true),(4,true),(5,true),(6,true),(7,true),(8,true),(9,true),(10,true),(11,true),(12,true),(13,true)] zk zk rfl zk zc ⟨x0,t0⟩ ?_;iterate 14 (refine pT rfl rfl ?_ (by intro w' ⟨q0,q1⟩;go_simp;try with_reducible rfl);try simp only [UU])
      simp only [aV];generalize ou : wr.drew = wd;have tK : ai wd w.heap.size 107 [.string (bs l),.bool s,.string (bs m),.int .i64 e]:=by rw [<- ou];exact Hx.out
      have js : Bw w wd:=by rw [<- ou];exact Hb.out.drew
      have hpre : ((ts.take k).flatMap aM).length = k * 4:=by rw [kg,List.length_take,Nat.min_eq_left zo]
      have sU:=Ha.out.below js;have sS:=sU.an5 k;have sI:=ah tK;have iQ:=ah js;have yS:=ah sS;have zI:=ah hpre;have WB:=js.size;have UO:=sI.out.lt;clear tK js sS hpre sU ou x0 x1 x2 x3 t0 t1 t2 t3 Hx Ht Hb;go_wp2_with (at_builtin;refine qE rfl _ _ 55 rfl wd.heap.size 107 i0 _ 4 48 Tryz.underlying55 Hi.out cO.out cP.out cE.out rfl zd _ 0 [] rfl (World.ownsRow_made wd #[] 0 (Nat.le_refl _) (Nat.zero_le _) zm) (some ⟨b,o,none⟩) k cap ((ts.take k).flatMap aM) rfl (Sl.some _ _ _ hkc) zI.out (yS.out.below ((Below.refl _ wd).alloc (Nat.le_refl _) _)) (qC _) zx zo zm ?_;intro v1 w1 cJ hg1 vD);have hb1:=((Below.refl _ wd).alloc (Nat.le_refl _) _).grown hg1 zm (fun k hk=>by have h9 : wd.heap.size = k:=Option.some.inj hk;omega);rw [Nat.zero_add,List.nil_append] at cJ;obtain ⟨av,cv,rfl,_,_⟩:=dA cJ;have Hx:=ah (sI.out.below hb1);have Hb:=ah (aJ iQ.out hb1);obtain ⟨b2,o2,gv,cj⟩:=(Ha.out.below Hb.out).term k hk2 hx';simp only [Option.some.injEq,Addr.mk.injEq,and_true] at gv;obtain ⟨rfl,rfl⟩:=gv;have Ht : Hid (bj w1 b (o + k * 4) [.string (bs l'),.bool s',.string (bs m'),.int .i64 e']):=cj;have mE:=ah cJ;have bI:=ah hb1;have hsz1:=hb1.size;have iV : gj (s',m',e'):=by have:=Hf.out _ (List.getElem_mem hk2);rw [hx'] at this;exact this
      have hel : ts[k] = (l',s',m',e'):=hx';clear cJ hb1 hg1 vD cj hx' pK;obtain ⟨x0,x1,x2,x3⟩:=Hx.out.c4;obtain ⟨t0,t1,t2,t3⟩:=Ht.out.w4;go_wp2_with fail;have DT : ((bs l').toList == (bs l).toList) = decide (l' = l):=by rw [fx,fx];by_cases h : l' = l<;>simp [h]
      by_cases he : l' = l
      case neg=>
       rw [decide_eq_false he] at DT;refine bE (fun w'=>w'.cell? ⟨w.heap.size,0,none⟩ = some (.string (bs l)) /\ w'.cell? ⟨b,o + k * 4,none⟩ = some (.string (bs l'))) (fun i=>Nat.blt i 100000) [(0,true),(1,true),(2,true),(3,true),(4,true),(5,true),(6,true),(7,true),(8,true),(9,true),(10,true),(11,true),(12,true),(13,true)] zk zk rfl zk zc ⟨x0,t0⟩ ?_;iterate 14 (refine pT rfl rfl ?_ (by intro w' ⟨q0,q1⟩;go_simp;try with_reducible rfl);try simp only [UU])
       simp only [aV];have jh:=bI.out.drew;generalize fT : w1.drew = w2;have hx2 : ai w2 w.heap.size 107 [.string (bs l),.bool s,.string (bs m),.int .i64 e]:=by rw [<- fT];exact Hx.out
       have hv2 : w2.ownsRow wd.heap.size 107 4 (.slice av k cv) k ((ts.take k).flatMap aM):=by rw [<- fT];exact mE.out
       have cw:=ah hv2;replace Hx:=ah hx2;replace Hb : Hid (Bw w2 w2):=Below.refl _ _;have ux : Hid (Bw wd w2):=by rw [<- fT];exact jh
       have ow:=Ha.out.below iQ.out;have hz2 : wd.heap.size <= w2.heap.size:=by rw [<- fT];exact hsz1
       obtain ⟨S,hS⟩ : ∃ S,aC (s,m,e) = S:=⟨_,rfl⟩;have hps:=LZ ts (l,s,m,e) k Co.out (fun _=>by rw [hel];exact he);rw [show aC ((l,s,m,e) : aK).2 = S from hS] at hps;have oz : ((ts.drop k).flatMap aM).length = (n - k) * 4:=by rw [kg,List.length_drop,Hn.out]
       have hdr:=ow.an1 (n:=n) (cap:=cap) k Hn.out zo EE;have hsc:=Hs.out.cut (k:=k) (size:=4) zo;have adq : (⟨b,o,none⟩ : Addr).add (k * 4) = ⟨b,o + k * 4,none⟩:=by unfold Addr.add;split<;>simp_all
       rw [if_neg zo,Option.map_some,adq] at hdr hsc;have mG:=ah hps;have HS:=ah hS;have uC:=ah oz;have qJ:=ah hdr;have iy:=ah hsc;have hk1 : k <= n:=by omega
       have Ko : k <= cap:=by omega
       clear hps hS hx2 hv2 ow oz hdr hsc fT jh hel iV x0 x1 x2 x3 t0 t1 t2 t3 DT he bz;obtain ⟨x0,x1,x2,x3⟩:=Hx.out.c4;go_wp2_with fail;refine bE (fun w'=>w'.cell? ⟨w.heap.size,0,none⟩ = some (.string (bs l)) /\ w'.cell? ⟨w.heap.size,1,none⟩ = some (.bool s) /\ w'.cell? ⟨w.heap.size,2,none⟩ = some (.string (bs m)) /\ w'.cell? ⟨w.heap.size,3,none⟩ = some (.int .i64 e)) (fun i=>Nat.blt i 100000) [(0,true),(1,true),(2,true),(3,true),(4,true),(5,false),(6,true),(7,false),(8,false),(9,true)] zk zk rfl zk zc ⟨x0,x1,x2,x3⟩ ?_;iterate 5 (refine pT rfl rfl ?_ (by intro w' ⟨q0,q1,q2,q3⟩;go_simp;try with_reducible rfl);try simp only [UU])
       refine aI rfl rfl (fun K hK=>?_);go_simp;with_reducible refine (yx s m e S HS.out _ gG.out).mono ?_
       rintro e w4 ⟨rfl,hq⟩;have ae : Bw w2 w4:=by first | exact hq | exact aN hq
       clear x0 x1 x2 x3;replace Hx:=kB Hx ae;obtain ⟨x0,x1,x2,x3⟩:=Hx.out.c4;replace Hb:=az Hb ae;clear ae;refine hK _ _ (fun _=>⟨x0,x1,x2,x3⟩) ?_;clear hK K;try simp only [UU]
       refine pT rfl rfl ?_;try simp only [UU]
       refine aI rfl rfl (fun K hK=>?_);go_simp;refine hK _ _ (fun _=>⟨aH x0,aH x1,aH x2,aH x3⟩) ?_;clear hK K;try simp only [UU]
       refine bG (fun W5=>ai W5 (w4.heap.size) 107 [.string (bs l),.bool (au (dN S)),.string (bs (nt (dN S).natAbs)),.int .i64 (dE S)] /\ Bw w4 W5) (by first | exact dP | exact dQ) ?_;rintro W5 ⟨qc,ae⟩;clear x0 x1 x2 x3;have yc:=Hx.out.lt;replace Hx:=kB Hx ae;have Hc:=ah qc;clear qc;obtain ⟨x0,x1,x2,x3⟩:=Hx.out.c4;obtain ⟨c0,c1,c2,c3⟩:=Hc.out.c4;replace Hb:=az Hb ae;clear ae;refine aI rfl rfl (fun K hK=>?_);have dH:=ownsRow_below cw.out Hb.out;have hs3:=Hb.out.size;refine wp_append_own _ _ _ 55 rfl wd.heap.size 107 i0 _ 4 48 Tryz.underlying55 Hi.out cO.out cP.out cE.out rfl zd (.slice av k cv) k ((ts.take k).flatMap aM) rfl dH ⟨w4.heap.size,0,none⟩ 1 1 [.string (bs l),.bool (au (dN S)),.string (bs (nt (dN S).natAbs)),.int .i64 (dE S)] rfl rfl (gb Hc.out) zy zx zo zo ?_;intro v8 w8 dG aZ _;have nb : ∀ b,b < wd.heap.size -> some b ≠ (Value.slice av k cv).ownBlock:=fun b hb e=>by have:=cL dH b e.symm;omega
       refine hK _ _ (fun _=>⟨bR aZ x0 (nb _ zo),bR aZ x1 (nb _ zo),bR aZ x2 (nb _ zo),bR aZ x3 (nb _ zo)⟩) ?_;clear hK K;try simp only [UU]
       have fM:=(aJ ux.out Hb.out).grown aZ zo (fun j e=>cL dH j e);have gF:=ah fM;have gp:=ah dG;have EI:=aZ.size;refine pT rfl rfl ?_;try simp only [UU]
       simp only [aV];clear nb dH dG aZ fM x0 x1 x2 x3 c0 c1 c2 c3;go_wp2_with (at_builtin;refine qE rfl _ _ 55 rfl wd.heap.size 107 i0 _ 4 48 Tryz.underlying55 Hi.out cO.out cP.out cE.out rfl zd v8 (k + 1) _ rfl gp.out _ (n - k) (cap - k) ((ts.drop k).flatMap aM) rfl iy.out uC.out (qJ.out.below gF.out) (qC _) zx zo zo ?_;intro v9 w9 gg pJ KI);all_goals
        go_ret
        refine ⟨v9,rfl,?_,(aJ iQ.out gF.out).grown pJ zo (fun j e=>by have:=cL gp.out j e;omega)⟩
        rw [mG.out]
        have e9 : ((ts.take k ++ [(l,canon S)] ++ ts.drop k).flatMap aM) = (ts.take k).flatMap aM ++ [.string (bs l),.bool (au (dN S)),.string (bs (nt (dN S).natAbs)),.int .i64 (dE S)] ++ (ts.drop k).flatMap aM:=by rw [List.flatMap_append,List.flatMap_append];rfl
        have l9 : (ts.take k ++ [(l,canon S)] ++ ts.drop k).length = k + 1 + (n - k):=by simp [Hn.out];omega
        rw [e9,l9]
        exact ny gg zo
      rw [decide_eq_true he] at DT;refine bE (fun w'=>w'.cell? ⟨w.heap.size,0,none⟩ = some (.string (bs l)) /\ w'.cell? ⟨b,o + k * 4,none⟩ = some (.string (bs l'))) (fun i=>Nat.blt i 100000) [(0,true),(1,true),(2,true),(3,true),(4,true),(5,true),(6,true),(7,true),(8,true),(9,true),(10,true),(11,true),(12,true),(13,true)] zk zk rfl zk zc ⟨x0,t0⟩ ?_;iterate 14 (refine pT rfl rfl ?_ (by intro w' ⟨q0,q1⟩;go_simp;try with_reducible rfl);try simp only [UU])
      simp only [aV];have jh:=bI.out.drew;generalize fT : w1.drew = w2;have hx2 : ai w2 w.heap.size 107 [.string (bs l),.bool s,.string (bs m),.int .i64 e]:=by rw [<- fT];exact Hx.out
      have ht2 : bj w2 b (o + k * 4) [.string (bs l'),.bool s',.string (bs m'),.int .i64 e']:=by rw [<- fT];exact Ht.out
      have hb2 : Bw w w2:=by rw [<- fT];exact Hb.out.drew
      have hv2 : w2.ownsRow wd.heap.size 107 4 (.slice av k cv) k ((ts.take k).flatMap aM):=by rw [<- fT];exact mE.out
      have cw:=ah hv2;replace Hx:=ah hx2;replace Ht:=ah ht2;replace Hb : Hid (Bw w2 w2):=Below.refl _ _;have ux : Hid (Bw wd w2):=by rw [<- fT];exact jh
      have ow:=Ha.out.below iQ.out;have hz2 : wd.heap.size <= w2.heap.size:=by rw [<- fT];exact hsz1
      obtain ⟨S,hS⟩ : ∃ S,aC (s',m',e') + aC (s,m,e) = S:=⟨_,rfl⟩;have hps:=ain ts (l,s,m,e) k Co.out hk2 (by rw [hel];exact he);rw [show aC ts[k].2 = aC (s',m',e') by rw [hel],show aC (s',m',e') + aC ((l,s,m,e) : aK).2 = S from hS] at hps;have oz : ((ts.drop (k + 1)).flatMap aM).length = (n - (k + 1)) * 4:=by rw [kg,List.length_drop,Hn.out]
      have hdr:=ow.an1 (n:=n) (cap:=cap) (k + 1) Hn.out zo EE;have hsc:=Hs.out.cut (k:=k + 1) (size:=4) zo;have mG:=ah hps;have HS:=ah hS;have kr:=ah iV;have uC:=ah oz;have qJ:=ah hdr;have iy:=ah hsc;have hk1 : k + 1 <= n:=by omega
      have Ko : k + 1 <= cap:=by omega
      clear hps hS hel iV hx2 ht2 hb2 hv2 ow oz hdr hsc x0 x1 x2 x3 t0 t1 t2 t3 fT jh DT he bz;obtain ⟨x0,x1,x2,x3⟩:=Hx.out.c4;obtain ⟨t0,t1,t2,t3⟩:=Ht.out.w4;have bz:=iH n cap k (k : Int) (rfl : (some ⟨b,o,none⟩ : Option Addr) = _) hkn rfl;go_wp2_with fail;have Lj:=Hx.out.lt;refine bE (fun w'=>w'.cell? ⟨w.heap.size,0,none⟩ = some (.string (bs l)) /\ w'.cell? ⟨w.heap.size,1,none⟩ = some (.bool s) /\ w'.cell? ⟨w.heap.size,2,none⟩ = some (.string (bs m)) /\ w'.cell? ⟨w.heap.size,3,none⟩ = some (.int .i64 e) /\ w'.cell? ⟨b,o + k * 4,none⟩ = some (.string (bs l')) /\ w'.cell? ⟨b,o + k * 4 + 1,none⟩ = some (.bool s') /\ w'.cell? ⟨b,o + k * 4 + 2,none⟩ = some (.string (bs m')) /\ w'.cell? ⟨b,o + k * 4 + 3,none⟩ = some (.int .i64 e')) (fun i=>Nat.blt i 100000) [(0,true),(1,true),(2,true),(3,true),(4,true),(5,true),(6,true),(7,true),(8,true),(9,true),(10,false),(11,true),(12,false),(13,false),(14,true)] zk zk rfl zk zc ⟨x0,x1,x2,x3,t0,t1,t2,t3⟩ ?_;iterate 10 (refine pT rfl rfl ?_ (by intro w' ⟨q0,q1,q2,q3,q4,q5,q6,q7⟩;go_simp;try with_reducible rfl);try simp only [UU])
      refine aI rfl rfl (fun K hK=>?_);go_simp;with_reducible refine (aiR s' m' e' s m e S HS.out _ kr.out gG.out).mono ?_
      rintro e w4 ⟨rfl,hq⟩;have ae : Bw w2 w4:=by first | exact hq | exact aN hq
      clear x0 x1 x2 x3 t0 t1 t2 t3;replace Hx:=kB Hx ae;replace Ht:=kW Ht ae;obtain ⟨x0,x1,x2,x3⟩:=Hx.out.c4;obtain ⟨t0,t1,t2,t3⟩:=Ht.out.w4;replace Hb:=az Hb ae;clear ae;refine hK _ _ (fun _=>⟨x0,x1,x2,x3,t0,t1,t2,t3⟩) ?_;clear hK K;try simp only [UU]
      refine pT rfl rfl ?_;try simp only [UU]
      refine aI rfl rfl (fun K hK=>?_);go_simp;refine hK _ _ (fun _=>⟨aH x0,aH x1,aH x2,aH x3,aH t0,aH t1,aH t2,aH t3⟩) ?_;clear hK K;try simp only [UU]
      refine bG (fun W5=>ai W5 (w4.heap.size) 107 [.string (bs l),.bool (au (dN S)),.string (bs (nt (dN S).natAbs)),.int .i64 (dE S)] /\ Bw w4 W5) (by first | exact dP | exact dQ) ?_;rintro W5 ⟨qc,ae⟩;clear x0 x1 x2 x3 t0 t1 t2 t3;have yc:=Hx.out.lt;replace Hx:=kB Hx ae;replace Ht:=kW Ht ae;have Hc:=ah qc;clear qc;obtain ⟨x0,x1,x2,x3⟩:=Hx.out.c4;obtain ⟨t0,t1,t2,t3⟩:=Ht.out.w4;obtain ⟨c0,c1,c2,c3⟩:=Hc.out.c4;replace Hb:=az Hb ae;clear ae;refine aI rfl rfl (fun K hK=>?_);have dH:=ownsRow_below cw.out Hb.out;have hs3:=Hb.out.size;refine wp_append_own _ _ _ 55 rfl wd.heap.size 107 i0 _ 4 48 Tryz.underlying55 Hi.out cO.out cP.out cE.out rfl zd (.slice av k cv) k ((ts.take k).flatMap aM) rfl dH ⟨w4.heap.size,0,none⟩ 1 1 [.string (bs l),.bool (au (dN S)),.string (bs (nt (dN S).natAbs)),.int .i64 (dE S)] rfl rfl (gb Hc.out) zy zx zo zo ?_;intro v8 w8 dG aZ _;have nb : ∀ b,b < wd.heap.size -> some b ≠ (Value.slice av k cv).ownBlock:=fun b hb e=>by have:=cL dH b e.symm;omega
      refine hK _ _ (fun _=>⟨bR aZ x0 (nb _ zo),bR aZ x1 (nb _ zo),bR aZ x2 (nb _ zo),bR aZ x3 (nb _ zo),bR aZ t0 (nb _ zp),bR aZ t1 (nb _ zp),bR aZ t2 (nb _ zp),bR aZ t3 (nb _ zp)⟩) ?_;clear hK K;try simp only [UU]
      have fM:=(aJ ux.out Hb.out).grown aZ zo (fun j e=>cL dH j e);have gF:=ah fM;have gp:=ah dG;have EI:=aZ.size;refine pT rfl rfl ?_;try simp only [UU]
      simp only [aV];clear nb dH dG aZ fM x0 x1 x2 x3 t0 t1 t2 t3 c0 c1 c2 c3;go_wp2_with (at_builtin;refine qE rfl _ _ 55 rfl wd.heap.size 107 i0 _ 4 48 Tryz.underlying55 Hi.out cO.out cP.out cE.out rfl zd v8 (k + 1) _ rfl gp.out _ (n - (k + 1)) (cap - (k + 1)) ((ts.drop (k + 1)).flatMap aM) rfl iy.out uC.out (qJ.out.below gF.out) (qC _) zx zo zo ?_;intro v9 w9 gg pJ KI);all_goals
       go_ret
       refine ⟨v9,rfl,?_,(aJ iQ.out gF.out).grown pJ zo (fun j e=>by have:=cL gp.out j e;omega)⟩
       rw [mG.out]
       have e9 : ((ts.take k ++ [(l,canon S)] ++ ts.drop (k + 1)).flatMap aM) = (ts.take k).flatMap aM ++ [.string (bs l),.bool (au (dN S)),.string (bs (nt (dN S).natAbs)),.int .i64 (dE S)] ++ (ts.drop (k + 1)).flatMap aM:=by rw [List.flatMap_append,List.flatMap_append];rfl
       have l9 : (ts.take k ++ [(l,canon S)] ++ ts.drop (k + 1)).length = k + 1 + (n - (k + 1)):=by simp [Hn.out];omega
       rw [e9,l9]
       exact ny gg zo
    . obtain rfl : n = k:=by omega
      cases a with
      | none =>
        have hc0:=Hs.out.2 rfl;obtain rfl : n = 0:=by omega
        subst hc0;obtain ⟨x0,x1,x2,x3⟩:=Hx.out.c4;have pL : decide (((0 : Nat) : Int) < ((0 : Nat) : Int)) = false:=by simp
        go_wp2_with fail;refine bE (fun w'=>w'.cell? ⟨w.heap.size,0,none⟩ = some (.string (bs l))) (fun i=>Nat.blt i 100000) [(0,true),(1,true),(2,true),(3,true),(4,true),(5,true),(6,true),(7,true),(8,true),(9,true),(10,true),(11,true),(12,true),(13,true)] zk zk rfl zk zc x0 ?_;iterate 5 (refine pT rfl rfl ?_;try simp only [UU])
        refine aX rfl rfl ?_;try simp only [UU]
        refine aX rfl rfl ?_;try simp only [UU]
        refine aX rfl rfl ?_;try simp only [UU]
        refine aX rfl rfl ?_;try simp only [UU]
        refine aX rfl rfl ?_;try simp only [UU]
        refine aX rfl rfl ?_;try simp only [UU]
        refine aX rfl rfl ?_;try simp only [UU]
        refine aX rfl rfl ?_;try simp only [UU]
        refine pT rfl rfl ?_;try simp only [UU]
        simp only [aV];generalize ou : wr.drew = wd;have tK : ai wd w.heap.size 107 [.string (bs l),.bool s,.string (bs m),.int .i64 e]:=by rw [<- ou];exact Hx.out
        have js : Bw w wd:=by rw [<- ou];exact Hb.out.drew
        have hpre : ((ts.take 0).flatMap aM).length = 0 * 4:=by rw [kg,List.length_take,Nat.min_eq_left (by have:=Hn.out;omega)]
        have sU:=Ha.out.below js;have sS:=sU.an5 0;have hsk : Sl none 0 0:=Hs.out;have sI:=ah tK;have iQ:=ah js;have yS:=ah sS;have zI:=ah hpre;have WB:=js.size;have UO:=sI.out.lt;clear tK js sS hpre sU ou x0 x1 x2 x3 Hx Hb;go_wp2_with (at_builtin;refine qE rfl _ _ 55 rfl wd.heap.size 107 i0 _ 4 48 Tryz.underlying55 Hi.out cO.out cP.out cE.out rfl zd _ 0 [] rfl (World.ownsRow_made wd #[] 0 (Nat.le_refl _) (Nat.zero_le _) zm) none 0 0 ((ts.take 0).flatMap aM) rfl hsk zI.out (yS.out.below ((Below.refl _ wd).alloc (Nat.le_refl _) _)) (qC _) (by simp [maxLen]) zo zm ?_;intro v1 w1 cJ hg1 vD);have hb1:=((Below.refl _ wd).alloc (Nat.le_refl _) _).grown hg1 zm (fun k hk=>by have h9 : wd.heap.size = k:=Option.some.inj hk;omega);rw [Nat.zero_add,List.nil_append] at cJ;obtain ⟨av,cv,rfl,_,_⟩:=dA cJ;have Hx:=ah (sI.out.below hb1);have Hb:=ah (aJ iQ.out hb1);have mE:=ah cJ;have bI:=ah hb1;have hsz1:=hb1.size;clear cJ hb1 hg1 vD;obtain ⟨x0,x1,x2,x3⟩:=Hx.out.c4;go_wp2_with fail;refine bE (fun w'=>w'.cell? ⟨w.heap.size,0,none⟩ = some (.string (bs l))) (fun i=>Nat.blt i 100000) [(0,true),(1,true),(2,true),(3,true),(4,true),(5,true),(6,true),(7,true),(8,true),(9,true),(10,true),(11,true),(12,true),(13,true)] zk zk rfl zk zc x0 ?_;iterate 5 (refine pT rfl rfl ?_;try simp only [UU])
        refine aX rfl rfl ?_;try simp only [UU]
        refine aX rfl rfl ?_;try simp only [UU]
        refine aX rfl rfl ?_;try simp only [UU]
        refine aX rfl rfl ?_;try simp only [UU]
        refine aX rfl rfl ?_;try simp only [UU]
        refine aX rfl rfl ?_;try simp only [UU]
        refine aX rfl rfl ?_;try simp only [UU]
        refine aX rfl rfl ?_;try simp only [UU]
        refine pT rfl rfl ?_;try simp only [UU]
        simp only [aV];have jh:=bI.out.drew;generalize fT : w1.drew = w2;have hx2 : ai w2 w.heap.size 107 [.string (bs l),.bool s,.string (bs m),.int .i64 e]:=by rw [<- fT];exact Hx.out
        have hv2 : w2.ownsRow wd.heap.size 107 4 (.slice av 0 cv) 0 ((ts.take 0).flatMap aM):=by rw [<- fT];exact mE.out
        have cw:=ah hv2;replace Hx:=ah hx2;replace Hb : Hid (Bw w2 w2):=Below.refl _ _;have ux : Hid (Bw wd w2):=by rw [<- fT];exact jh
        have ow:=Ha.out.below iQ.out;have hz2 : wd.heap.size <= w2.heap.size:=by rw [<- fT];exact hsz1
        obtain ⟨S,hS⟩ : ∃ S,aC (s,m,e) = S:=⟨_,rfl⟩;have hps:=LZ ts (l,s,m,e) 0 Co.out (fun h=>absurd h (by have:=Hn.out;omega));rw [show aC ((l,s,m,e) : aK).2 = S from hS] at hps;have oz : ((ts.drop 0).flatMap aM).length = (0 - 0) * 4:=by rw [kg,List.length_drop,Hn.out]
        have hdr:=ow.an1 (n:=0) (cap:=0) 0 Hn.out zo EE;have hsc:=Hs.out.cut (k:=0) (size:=4) zo;have mG:=ah hps;have HS:=ah hS;have uC:=ah oz;have qJ:=ah hdr;have iy:=ah hsc;have hk1 : 0 <= 0:=by omega
        have Ko : 0 <= 0:=by omega
        clear hps hS hx2 hv2 ow oz hdr hsc fT jh x0 x1 x2 x3;obtain ⟨x0,x1,x2,x3⟩:=Hx.out.c4;go_wp2_with fail;refine bE (fun w'=>w'.cell? ⟨w.heap.size,0,none⟩ = some (.string (bs l)) /\ w'.cell? ⟨w.heap.size,1,none⟩ = some (.bool s) /\ w'.cell? ⟨w.heap.size,2,none⟩ = some (.string (bs m)) /\ w'.cell? ⟨w.heap.size,3,none⟩ = some (.int .i64 e)) (fun i=>Nat.blt i 100000) [(0,true),(1,true),(2,true),(3,true),(4,true),(5,false),(6,true),(7,false),(8,false),(9,true)] zk zk rfl zk zc ⟨x0,x1,x2,x3⟩ ?_;iterate 5 (refine pT rfl rfl ?_ (by intro w' ⟨q0,q1,q2,q3⟩;go_simp;try with_reducible rfl);try simp only [UU])
        refine aI rfl rfl (fun K hK=>?_);go_simp;with_reducible refine (yx s m e S HS.out _ gG.out).mono ?_
        rintro e w4 ⟨rfl,hq⟩;have ae : Bw w2 w4:=by first | exact hq | exact aN hq
        clear x0 x1 x2 x3;replace Hx:=kB Hx ae;obtain ⟨x0,x1,x2,x3⟩:=Hx.out.c4;replace Hb:=az Hb ae;clear ae;refine hK _ _ (fun _=>⟨x0,x1,x2,x3⟩) ?_;clear hK K;try simp only [UU]
        refine pT rfl rfl ?_;try simp only [UU]
        refine aI rfl rfl (fun K hK=>?_);go_simp;refine hK _ _ (fun _=>⟨aH x0,aH x1,aH x2,aH x3⟩) ?_;clear hK K;try simp only [UU]
        refine bG (fun W5=>ai W5 (w4.heap.size) 107 [.string (bs l),.bool (au (dN S)),.string (bs (nt (dN S).natAbs)),.int .i64 (dE S)] /\ Bw w4 W5) (by first | exact dP | exact dQ) ?_;rintro W5 ⟨qc,ae⟩;clear x0 x1 x2 x3;have yc:=Hx.out.lt;replace Hx:=kB Hx ae;have Hc:=ah qc;clear qc;obtain ⟨x0,x1,x2,x3⟩:=Hx.out.c4;obtain ⟨c0,c1,c2,c3⟩:=Hc.out.c4;replace Hb:=az Hb ae;clear ae;refine aI rfl rfl (fun K hK=>?_);have dH:=ownsRow_below cw.out Hb.out;have hs3:=Hb.out.size;refine wp_append_own _ _ _ 55 rfl wd.heap.size 107 i0 _ 4 48 Tryz.underlying55 Hi.out cO.out cP.out cE.out rfl zd (.slice av 0 cv) 0 ((ts.take 0).flatMap aM) rfl dH ⟨w4.heap.size,0,none⟩ 1 1 [.string (bs l),.bool (au (dN S)),.string (bs (nt (dN S).natAbs)),.int .i64 (dE S)] rfl rfl (gb Hc.out) zy (by simp [maxLen]) zo zo ?_;intro v8 w8 dG aZ _;have nb : ∀ b,b < wd.heap.size -> some b ≠ (Value.slice av 0 cv).ownBlock:=fun b hb e=>by have:=cL dH b e.symm;omega
        refine hK _ _ (fun _=>⟨bR aZ x0 (nb _ zo),bR aZ x1 (nb _ zo),bR aZ x2 (nb _ zo),bR aZ x3 (nb _ zo)⟩) ?_;clear hK K;try simp only [UU]
        have fM:=(aJ ux.out Hb.out).grown aZ zo (fun j e=>cL dH j e);have gF:=ah fM;have gp:=ah dG;have EI:=aZ.size;refine pT rfl rfl ?_;try simp only [UU]
        simp only [aV];clear nb dH dG aZ fM x0 x1 x2 x3 c0 c1 c2 c3;go_wp2_with (at_builtin;refine qE rfl _ _ 55 rfl wd.heap.size 107 i0 _ 4 48 Tryz.underlying55 Hi.out cO.out cP.out cE.out rfl zd v8 (0 + 1) _ rfl gp.out none 0 0 ((ts.drop 0).flatMap aM) rfl iy.out uC.out (qJ.out.below gF.out) (qC _) (by simp [maxLen]) zo zo ?_;intro v9 w9 gg pJ KI);all_goals
         go_ret
         refine ⟨v9,rfl,?_,(aJ iQ.out gF.out).grown pJ zo (fun j e=>by have:=cL gp.out j e;omega)⟩
         rw [mG.out]
         have e9 : ((ts.take 0 ++ [(l,canon S)] ++ ts.drop 0).flatMap aM) = (ts.take 0).flatMap aM ++ [.string (bs l),.bool (au (dN S)),.string (bs (nt (dN S).natAbs)),.int .i64 (dE S)] ++ (ts.drop 0).flatMap aM:=by rw [List.flatMap_append,List.flatMap_append];rfl
         have l9 : (ts.take 0 ++ [(l,canon S)] ++ ts.drop 0).length = 0 + 1 + 0:=by simp [Hn.out]
         rw [e9,l9]
         exact ny gg zo
      | some ad =>
        obtain ⟨x0,x1,x2,x3⟩:=Hx.out.c4;have pL : decide ((n : Int) < (n : Int)) = false:=by simp
        go_wp2_with fail;refine bE (fun w'=>w'.cell? ⟨w.heap.size,0,none⟩ = some (.string (bs l))) (fun i=>Nat.blt i 100000) [(0,true),(1,true),(2,true),(3,true),(4,true),(5,true),(6,true),(7,true),(8,true),(9,true),(10,true),(11,true),(12,true),(13,true)] zk zk rfl zk zc x0 ?_;iterate 5 (refine pT rfl rfl ?_;try simp only [UU])
        refine aX rfl rfl ?_;try simp only [UU]
        refine aX rfl rfl ?_;try simp only [UU]
        refine aX rfl rfl ?_;try simp only [UU]
        refine aX rfl rfl ?_;try simp only [UU]
        refine aX rfl rfl ?_;try simp only [UU]
        refine aX rfl rfl ?_;try simp only [UU]
        refine aX rfl rfl ?_;try simp only [UU]
        refine aX rfl rfl ?_;try simp only [UU]
        refine pT rfl rfl ?_;try simp only [UU]
        simp only [aV];generalize ou : wr.drew = wd;have tK : ai wd w.heap.size 107 [.string (bs l),.bool s,.string (bs m),.int .i64 e]:=by rw [<- ou];exact Hx.out
        have js : Bw w wd:=by rw [<- ou];exact Hb.out.drew
        have hpre : ((ts.take n).flatMap aM).length = n * 4:=by rw [kg,List.length_take,Nat.min_eq_left (by have:=Hn.out;omega)]
        have sU:=Ha.out.below js;have sS:=sU.an5 n;have hsk : Sl (some ad) n cap:=Hs.out;have sI:=ah tK;have iQ:=ah js;have yS:=ah sS;have zI:=ah hpre;have WB:=js.size;have UO:=sI.out.lt;clear tK js sS hpre sU ou x0 x1 x2 x3 Hx Hb;go_wp2_with (at_builtin;refine qE rfl _ _ 55 rfl wd.heap.size 107 i0 _ 4 48 Tryz.underlying55 Hi.out cO.out cP.out cE.out rfl zd _ 0 [] rfl (World.ownsRow_made wd #[] 0 (Nat.le_refl _) (Nat.zero_le _) zm) (some ad) n cap ((ts.take n).flatMap aM) rfl hsk zI.out (yS.out.below ((Below.refl _ wd).alloc (Nat.le_refl _) _)) (qC _) zx zo zm ?_;intro v1 w1 cJ hg1 vD);have hb1:=((Below.refl _ wd).alloc (Nat.le_refl _) _).grown hg1 zm (fun k hk=>by have h9 : wd.heap.size = k:=Option.some.inj hk;omega);rw [Nat.zero_add,List.nil_append] at cJ;obtain ⟨av,cv,rfl,_,_⟩:=dA cJ;have Hx:=ah (sI.out.below hb1);have Hb:=ah (aJ iQ.out hb1);have mE:=ah cJ;have bI:=ah hb1;have hsz1:=hb1.size;clear cJ hb1 hg1 vD;obtain ⟨x0,x1,x2,x3⟩:=Hx.out.c4;go_wp2_with fail;refine bE (fun w'=>w'.cell? ⟨w.heap.size,0,none⟩ = some (.string (bs l))) (fun i=>Nat.blt i 100000) [(0,true),(1,true),(2,true),(3,true),(4,true),(5,true),(6,true),(7,true),(8,true),(9,true),(10,true),(11,true),(12,true),(13,true)] zk zk rfl zk zc x0 ?_;iterate 5 (refine pT rfl rfl ?_;try simp only [UU])
        refine aX rfl rfl ?_;try simp only [UU]
        refine aX rfl rfl ?_;try simp only [UU]
        refine aX rfl rfl ?_;try simp only [UU]
        refine aX rfl rfl ?_;try simp only [UU]
        refine aX rfl rfl ?_;try simp only [UU]
        refine aX rfl rfl ?_;try simp only [UU]
        refine aX rfl rfl ?_;try simp only [UU]
        refine aX rfl rfl ?_;try simp only [UU]
        refine pT rfl rfl ?_;try simp only [UU]
        simp only [aV];have jh:=bI.out.drew;generalize fT : w1.drew = w2;have hx2 : ai w2 w.heap.size 107 [.string (bs l),.bool s,.string (bs m),.int .i64 e]:=by rw [<- fT];exact Hx.out
        have hv2 : w2.ownsRow wd.heap.size 107 4 (.slice av n cv) n ((ts.take n).flatMap aM):=by rw [<- fT];exact mE.out
        have cw:=ah hv2;replace Hx:=ah hx2;replace Hb : Hid (Bw w2 w2):=Below.refl _ _;have ux : Hid (Bw wd w2):=by rw [<- fT];exact jh
        have ow:=Ha.out.below iQ.out;have hz2 : wd.heap.size <= w2.heap.size:=by rw [<- fT];exact hsz1
        obtain ⟨S,hS⟩ : ∃ S,aC (s,m,e) = S:=⟨_,rfl⟩;have hps:=LZ ts (l,s,m,e) n Co.out (fun h=>absurd h (by have:=Hn.out;omega));rw [show aC ((l,s,m,e) : aK).2 = S from hS] at hps;have oz : ((ts.drop n).flatMap aM).length = 0 * 4:=by rw [kg,List.length_drop,Hn.out,Nat.sub_self]
        have hdr:=ow.an1 (n:=n) (cap:=cap) n Hn.out zo EE;have hsc:=Hs.out.cut (k:=n) (size:=4) zo;rw [Nat.sub_self] at hsc;have mG:=ah hps;have HS:=ah hS;have uC:=ah oz;have qJ:=ah hdr;have iy:=ah hsc;have hk1 : n <= n:=by omega
        have Ko : n <= cap:=by omega
        clear hps hS hx2 hv2 ow oz hdr hsc fT jh x0 x1 x2 x3;obtain ⟨x0,x1,x2,x3⟩:=Hx.out.c4;go_wp2_with fail;refine bE (fun w'=>w'.cell? ⟨w.heap.size,0,none⟩ = some (.string (bs l)) /\ w'.cell? ⟨w.heap.size,1,none⟩ = some (.bool s) /\ w'.cell? ⟨w.heap.size,2,none⟩ = some (.string (bs m)) /\ w'.cell? ⟨w.heap.size,3,none⟩ = some (.int .i64 e)) (fun i=>Nat.blt i 100000) [(0,true),(1,true),(2,true),(3,true),(4,true),(5,false),(6,true),(7,false),(8,false),(9,true)] zk zk rfl zk zc ⟨x0,x1,x2,x3⟩ ?_;iterate 5 (refine pT rfl rfl ?_ (by intro w' ⟨q0,q1,q2,q3⟩;go_simp;try with_reducible rfl);try simp only [UU])
        refine aI rfl rfl (fun K hK=>?_);go_simp;with_reducible refine (yx s m e S HS.out _ gG.out).mono ?_
        rintro e w4 ⟨rfl,hq⟩;have ae : Bw w2 w4:=by first | exact hq | exact aN hq
        clear x0 x1 x2 x3;replace Hx:=kB Hx ae;obtain ⟨x0,x1,x2,x3⟩:=Hx.out.c4;replace Hb:=az Hb ae;clear ae;refine hK _ _ (fun _=>⟨x0,x1,x2,x3⟩) ?_;clear hK K;try simp only [UU]
        refine pT rfl rfl ?_;try simp only [UU]
        refine aI rfl rfl (fun K hK=>?_);go_simp;refine hK _ _ (fun _=>⟨aH x0,aH x1,aH x2,aH x3⟩) ?_;clear hK K;try simp only [UU]
        refine bG (fun W5=>ai W5 (w4.heap.size) 107 [.string (bs l),.bool (au (dN S)),.string (bs (nt (dN S).natAbs)),.int .i64 (dE S)] /\ Bw w4 W5) (by first | exact dP | exact dQ) ?_;rintro W5 ⟨qc,ae⟩;clear x0 x1 x2 x3;have yc:=Hx.out.lt;replace Hx:=kB Hx ae;have Hc:=ah qc;clear qc;obtain ⟨x0,x1,x2,x3⟩:=Hx.out.c4;obtain ⟨c0,c1,c2,c3⟩:=Hc.out.c4;replace Hb:=az Hb ae;clear ae;refine aI rfl rfl (fun K hK=>?_);have dH:=ownsRow_below cw.out Hb.out;have hs3:=Hb.out.size;refine wp_append_own _ _ _ 55 rfl wd.heap.size 107 i0 _ 4 48 Tryz.underlying55 Hi.out cO.out cP.out cE.out rfl zd (.slice av n cv) n ((ts.take n).flatMap aM) rfl dH ⟨w4.heap.size,0,none⟩ 1 1 [.string (bs l),.bool (au (dN S)),.string (bs (nt (dN S).natAbs)),.int .i64 (dE S)] rfl rfl (gb Hc.out) zy zx zo zo ?_;intro v8 w8 dG aZ _;have nb : ∀ b,b < wd.heap.size -> some b ≠ (Value.slice av n cv).ownBlock:=fun b hb e=>by have:=cL dH b e.symm;omega
        refine hK _ _ (fun _=>⟨bR aZ x0 (nb _ zo),bR aZ x1 (nb _ zo),bR aZ x2 (nb _ zo),bR aZ x3 (nb _ zo)⟩) ?_;clear hK K;try simp only [UU]
        have fM:=(aJ ux.out Hb.out).grown aZ zo (fun j e=>cL dH j e);have gF:=ah fM;have gp:=ah dG;have EI:=aZ.size;refine pT rfl rfl ?_;try simp only [UU]
        simp only [aV];clear nb dH dG aZ fM x0 x1 x2 x3 c0 c1 c2 c3;go_wp2_with (at_builtin;refine qE rfl _ _ 55 rfl wd.heap.size 107 i0 _ 4 48 Tryz.underlying55 Hi.out cO.out cP.out cE.out rfl zd v8 (n + 1) _ rfl gp.out _ 0 (cap - n) ((ts.drop n).flatMap aM) rfl iy.out uC.out (qJ.out.below gF.out) (qC _) zx zo zo ?_;intro v9 w9 gg pJ KI);all_goals
         go_ret
         refine ⟨v9,rfl,?_,(aJ iQ.out gF.out).grown pJ zo (fun j e=>by have:=cL gp.out j e;omega)⟩
         rw [mG.out]
         have e9 : ((ts.take n ++ [(l,canon S)] ++ ts.drop n).flatMap aM) = (ts.take n).flatMap aM ++ [.string (bs l),.bool (au (dN S)),.string (bs (nt (dN S).natAbs)),.int .i64 (dE S)] ++ (ts.drop n).flatMap aM:=by rw [List.flatMap_append,List.flatMap_append];rfl
         have l9 : (ts.take n ++ [(l,canon S)] ++ ts.drop n).length = n + 1 + 0:=by simp [Hn.out]
         rw [e9,l9]
         exact ny gg zo
theorem aio {C : Nat} (l : List aK) (x : aK) (h : ∀ t ∈ l,Sm C (aC t.2)) (hx : Sm C (aC x.2)) : ∀ t ∈ fK l x,Sm (C + 1) (aC t.2):=by
 have hc : ∀ X : Dyadic,Sm (C + 1) X -> Sm (C + 1) (aC (canon X)):=fun X h=>by rw [bP];exact h
 induction l with
 | nil=>intro t ht;simp only [fK,List.mem_singleton] at ht;rw [ht];exact hc _ (hx.mono zo)
 | cons y l ih =>
   intro t ht;unfold fK at ht;split at ht
   . rcases List.mem_cons.1 ht with rfl | ht
     . exact (h _ zm).mono zo
     . exact ih (fun t ht=>h t (by simp [ht])) t ht
   . split at ht
     . rcases List.mem_cons.1 ht with rfl | ht
       . exact hc _ ((h y zm).add hx)
       . exact (h t (by simp [ht])).mono zo
     . rcases List.mem_cons.1 ht with rfl | ht
       . exact hc _ (hx.mono zo)
       . exact (h t ht).mono zo
theorem ais {B : Nat} (l : List aK) (h : ∀ t ∈ l,Sm B (aC t.2)) : ∀ t ∈ fW l,Sm (B + l.length) (aC t.2):=by refine Ca (Q:=fun l=>(∀ t ∈ l,Sm B (aC t.2)) -> ∀ t ∈ fW l,Sm (B + l.length) (aC t.2)) (fun _ t ht=>by cases ht) (fun l x ih h=>?_) l h;rw [yq];have h1:=ih (fun t ht=>h t (by simp [ht]));have:=aio (C:=B + l.length) (fW l) x h1 ((h x zm).mono zo);intro t ht;have h9:=this t ht;rw [List.length_append];exact h9
theorem aiq {B : Nat} (l : List aK) (h : ∀ t ∈ l,Sm B (aC t.2)) (hB : B + l.length <= 16384) : ∀ t ∈ fW l,gj t.2:=fun t ht=>by have h1:=ais l h t ht;rw [VO l t ht];exact h1.anY hB
theorem adE (L : List aK) (k : Nat) (hk : k < L.length) : (L.take (k + 1)).filter fQ = (L.take k).filter fQ ++ if fQ L[k] then [L[k]] else []:=by rw [List.take_succ_eq_append_getElem hk,List.filter_append];congr 1;by_cases h : fQ L[k] = true<;>simp [h]
theorem VY (V : Nat) (a : Option Addr) (n cap : Nat) (ts : List aK) (B : Nat) (w : World) (hn : ts.length = n) (hl : n <= 4096) (ha : At w a (ts.flatMap aM)) (hf : ∀ t ∈ ts,gj t.2) (hs : ∀ t ∈ ts,Sm B (aC t.2)) (hB : B + n <= 16384) :
 Calls Tryz.prog 81 #[.int .i64 (V : Int),.slice a n cap] w fun ex w'=>∃ a' c',ex = .returned (.tuple #[.agg #[.int .i64 (V : Int),.slice a' (bC ts).length c'],.int .i64 0]) /\ cd w' a' c' (bC ts) /\ Bw w w':=by
 obtain ⟨i0,hi,hz0,hz1,hz2⟩:=info_parts Tryz.an0;have iu:=fun k=>aiq (ts.take k) (fun t ht=>hs t (List.mem_of_mem_take ht)) (by rw [List.length_take];omega);have hpl:=fun k=>air (ts.take k);have mg:=adY ts;obtain ⟨C,hC⟩ : ∃ C,bC ts = C:=⟨_,rfl⟩;have hcl:=xj ts;rw [hC] at mg hcl ⊢;have Hi:=ah hi;have cO:=ah hz0;have cP:=ah hz1;have cE:=ah hz2;have pj:=ah iu;have qV:=ah hpl;have YD:=ah mg;have Ha:=ah ha;have Hf:=ah hf;have Hn:=ah hn;have hC4 : C.length <= 4096:=by omega
 clear hi hz0 hz1 hz2 iu hpl mg ha hf hs hC hn hcl;obtain ⟨W,aL⟩ : ∃ W,(w.alloc (.cells #[.int .i64 0,.slice none 0 0] 57)) = W:=⟨_,rfl⟩;have Hb : Hid (Bw w W):=by rw [<- aL];exact zl
 have Hr : Hid (ai W (w.heap.size) 57 [.int .i64 0,.slice none 0 0]):=by rw [<- aL];exact ai.newAt _ _ _ zm
 obtain ⟨r0,aj,r1,ar⟩:=Hr.out.g2;go_enter Tryz.func81,Tryz.ntmps81;go_wp2_with fail;have hrl:=Hr.out.lt;go_loopw [6,7] (fun s6 x wr=>∃ (k : Nat) (v : Value),k <= n /\ x = .int .i64 (k : Int) /\ v = s6 /\ wr.ownsRow W.heap.size 107 4 v (fW (ts.take k)).length ((fW (ts.take k)).flatMap aM) /\ Bw W wr) (fun _ x _=>n - (intOf x).toNat);case atStart=>exact ⟨0,_,Nat.zero_le _,rfl,rfl,World.ownsRow_nil _ _ _ _,Below.refl _ _⟩
 case round=>
  clear r0 aj r1 ar;obtain ⟨k,v,hk,rfl,rfl,ho,pb⟩:=hrel;by_cases hlt : k < n
  . have hk2 : k < ts.length:=by rw [Hn.out];exact hlt
    obtain ⟨l,s,m,e,hx⟩ : ∃ l s m e,ts[k] = (l,s,m,e):=⟨_,_,_,_,rfl⟩;obtain ⟨b,o,rfl,cj⟩:=(Ha.out.below (aJ Hb.out pb)).term k hk2 hx;have bz:=iH n cap k (k : Int) (rfl : (some ⟨b,o,none⟩ : Option Addr) = _) hlt rfl;obtain ⟨av,cv,rfl,sV,_⟩:=dA ho;have Bd:=ud ho;have hnx : fW (ts.take (k + 1)) = fK (fW (ts.take k)) (l,s,m,e):=by rw [List.take_succ_eq_append_getElem hk2,yq,hx]
    have hp1 : (fW (ts.take k)).length <= 65536:=by have:=qV.out k;rw [List.length_take] at this;omega
    have dO : gj (s,m,e):=by have:=Hf.out _ (List.getElem_mem hk2);rw [hx] at this;exact this
    have hput:=fun (W' : World) (hW : Bw wr W')=>aiW av _ cv (fW (ts.take k)) l s m e W' rfl hp1 Bd (sV.below hW) (pj.out k) dO;rw [<- hnx] at hput;obtain ⟨np,KF⟩ : ∃ np,(fW (ts.take k)).length = np:=⟨_,rfl⟩;rw [KF] at hput;rw [KF];have ZF:=ah hput;have aR:=ah pb;have Ht : Hid (bj wr b (o + k * 4) [.string (bs l),.bool s,.string (bs m),.int .i64 e]):=cj;have gN:=pb.size;clear hput pb KF hnx hp1 dO Bd sV ho cj hx;have bS : Hid (Bw wr wr):=Below.refl _ _;obtain ⟨t0,t1,t2,t3⟩:=Ht.out.w4;go_wp2_with fail;refine (ZF.out _ (Below.refl _ _)).mono ?_;rintro ex w2 ⟨v2,rfl,dU,hb2⟩;have qU:=ah (ny dU gN);have fR:=ah (aJ aR.out hb2);clear dU hb2;go_wp2;go_roundw;case rel=>exact ⟨k + 1,v2,by omega,by go_num,rfl,qU.out,fR.out⟩
    case measure=>simp [intOf];omega
  . obtain rfl : k = n:=by omega
    have htk : ts.take k = ts:=List.take_of_length_le (by rw [Hn.out];exact Nat.le_refl _);have iu:=pj.out k;have hpl:=qV.out k;rw [htk] at ho iu hpl;obtain ⟨L,hL⟩ : ∃ L,fW ts = L:=⟨_,rfl⟩;have mg:=YD.out;rw [hL] at ho iu hpl mg;have hLn : L.length <= 4096:=by rw [Hn.out] at hpl;omega
    obtain ⟨N,hN⟩ : ∃ N,L.length = N:=⟨_,rfl⟩;rw [hN] at ho hLn;obtain ⟨av,cv,rfl,sV,_⟩:=dA ho;obtain ⟨wg,Uc⟩ : ∃ wg,wg = wr:=⟨_,rfl⟩;subst Uc;have XX:=ah sV;have aR:=ah pb;have ZB:=ah iu;have HN:=ah hN;have YE:=ah mg;have szg:=pb.size;clear sV ho pb iu hpl mg hN hL htk;go_wp2_with fail;go_loopw [8,9] (fun s8 x wr=>∃ (j : Nat) (v : Value),j <= N /\ x = .int .i64 (j : Int) /\ v = s8 /\ wr.ownsRow wg.heap.size 107 4 v ((L.take j).filter fQ).length (((L.take j).filter fQ).flatMap aM) /\ Bw wg wr) (fun _ x _=>N - (intOf x).toNat);case atStart=>exact ⟨0,_,Nat.zero_le _,rfl,rfl,World.ownsRow_nil _ _ _ _,Below.refl _ _⟩
    case round=>
     obtain ⟨j,v,hj,rfl,rfl,ho,qb⟩:=hrel;by_cases bi : j < N
     . have ju : j < L.length:=by rw [HN.out];exact bi
       obtain ⟨l,s,m,e,hx⟩ : ∃ l s m e,L[j] = (l,s,m,e):=⟨_,_,_,_,rfl⟩;obtain ⟨b,o,rfl,cj⟩:=(XX.out.below qb).term j ju hx;have bz:=iH N cv j (j : Int) (rfl : (some ⟨b,o,none⟩ : Option Addr) = _) bi rfl;have hft:=adE L j ju;obtain ⟨g,hg⟩ : ∃ g,bM (aC (s,m,e)) = g:=⟨_,rfl⟩;have dO : gj (s,m,e):=by have:=ZB.out _ (List.getElem_mem ju);rw [hx] at this;exact this
       have gJ:=fun W=>Fu s m e g hg W (by have:=dO.1;simp only at this;omega);have hnz : fQ L[j] = !(g == 0):=by rw [hx];unfold fQ;rw [show aC ((l,s,m,e) : aK).2 = aC (s,m,e) from rfl,hg]
       rw [hnz,hx] at hft;have hfl : ((L.take j).filter fQ).length <= N:=by have:=List.length_filter_le fQ (L.take j);rw [List.length_take] at this;omega
       have Ht : Hid (bj wr b (o + j * 4) [.string (bs l),.bool s,.string (bs m),.int .i64 e]):=cj;have jI:=ah gJ;have ia:=ah qb;have cw:=ah ho;have gN:=qb.size;obtain ⟨F,hF⟩ : ∃ F,(L.take j).filter fQ = F:=⟨_,rfl⟩;rw [hF] at cw hft hfl;have CI:=ah hft;clear gJ qb ho cj hx hg dO hnz hft hF;have Hb : Hid (Bw wr wr):=Below.refl _ _;obtain ⟨t0,t1,t2,t3⟩:=Ht.out.w4;go_wp2_with fail;refine (jI.out _).mono ?_;rintro e w3 ⟨rfl,ae⟩;clear t0 t1 t2 t3;replace Ht:=kW Ht ae;obtain ⟨t0,t1,t2,t3⟩:=Ht.out.w4;replace Hb:=az Hb ae;clear ae;by_cases hg0 : g = 0
       . subst hg0;have hz : (((0 : Int)) != 0) = false:=by decide
         have hft:=CI.out;simp only [beq_self_eq_true,Bool.not_true,Bool.false_eq_true,if_false,List.append_nil] at hft;have Gx:=ah hft;clear hft CI;have ZM:=ah (aJ ia.out Hb.out);have Zl:=ah (ownsRow_below cw.out Hb.out);go_wp2;go_roundw;case rel=>exact ⟨j + 1,v,by omega,by go_num,rfl,by rw [Gx.out];exact Zl.out,ZM.out⟩
         case measure=>simp [intOf];omega
       . have hz : (g != 0) = true:=by simpa using hg0
         have hz2 : (g == 0) = false:=by simpa using hg0
         have hft:=CI.out;rw [hz2] at hft;simp only [Bool.not_false,if_true] at hft;have Gx:=ah hft;clear hft CI;go_upto_region 11 with fail
         have P0:=t0;have P1:=t1;have P2:=t2;have P3:=t3;obtain ⟨W5,kD⟩ : ∃ W5,(w3.alloc (.cells #[.string (bs l),.bool s,.string (bs m),.int .i64 e] 107)) = W5:=⟨_,rfl⟩;have ae : Bw w3 W5:=by rw [<- kD];exact zl
         clear t0 t1 t2 t3;replace Ht:=kW Ht ae;have Hc : Hid (ai W5 (w3.heap.size) 107 [.string (bs l),.bool s,.string (bs m),.int .i64 e]):=by rw [<- kD];exact ai.newAt _ _ _ zm
         obtain ⟨t0,t1,t2,t3⟩:=Ht.out.w4;obtain ⟨c0,c1,c2,c3⟩:=Hc.out.c4;replace Hb:=az Hb ae;clear ae;have vK:=ownsRow_below cw.out Hb.out;have hs5:=Hb.out.size;go_wp2_with (at_builtin;refine wpList_append_own_at _ rfl _ _ 55 rfl wg.heap.size 107 i0 _ 4 48 Tryz.underlying55 Hi.out cO.out cP.out cE.out rfl zd v F.length (F.flatMap aM) rfl vK ⟨w3.heap.size,0,none⟩ 1 1 [.string (bs l),.bool s,.string (bs m),.int .i64 e] rfl rfl (gb Hc.out) zy zx zo zo ?_;intro v' w7 dx eT _ fO);have gw:=(aJ ia.out Hb.out).grown eT zo (fun j e=>cL vK j e);have e7 : F.flatMap aM ++ [.string (bs l),.bool s,.string (bs m),.int .i64 e] = (F ++ [(l,s,m,e)]).flatMap aM:=by rw [List.flatMap_append];rfl
         rw [e7] at dx;have uF:=ah dx;have uw:=ah gw;clear dx gw e7 fO eT vK P0 P1 P2 P3 t0 t1 t2 t3 c0 c1 c2 c3;go_wp2;go_roundw;case rel=>exact ⟨j + 1,v',by omega,by go_num,rfl,by rw [Gx.out,List.length_append];exact uF.out,uw.out⟩
         case measure=>simp [intOf];omega
     . obtain rfl : j = N:=by omega
       have htk : L.take j = L:=List.take_of_length_le (by rw [HN.out];exact Nat.le_refl _);rw [htk,YE.out] at ho;obtain ⟨a2,c2,rfl,_,_⟩:=dA ho;have Ho:=ah ho;have Zy:=ah (aJ (aJ Hb.out aR.out) qb);have iE:=aR.out.size;have OC:=ah (Hr.out.below (aJ aR.out qb));have h4 : ¬ (4096 : Int) < (C.length : Int):=by omega
       have h4d : decide ((4096 : Int) < (C.length : Int)) = false:=by simp;omega
       clear ho htk qb;have Hr:=OC;obtain ⟨r0,aj,r1,ar⟩:=Hr.out.g2;go_wp2;refine xd (OC.out) Ho.out Zy.out zo ?_;intro w9 iF gg jQ;obtain ⟨p0,p1⟩:=iF.c2;exact bodyPost_ret (v:=.tuple #[.agg #[.int .i64 (V : Int),.slice a2 C.length c2],.int .i64 0]) (by simp [results,Tryz.results81,go_sem,p0,p1]) rfl ⟨_,_,rfl,BA gg,jQ⟩
end Go.Proofs.YtdaadlblknpipaaGreatDoor
