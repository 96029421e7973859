/- Packages ogeeref07,ogeeref08: May;put. -/
import Derived.Test.YtdaadlblknpipaaGreatDoorZ19
import Derived.Test.YtdaadlblknpipaaGreatDoorZ12
import Derived.Test.YtdaadlblknpipaaGreatDoorZ15
set_option linter.unusedVariables false
set_option linter.unusedSimpArgs false
set_option maxRecDepth 100000
set_option maxHeartbeats 16000000
namespace Go.Proofs.YtdaadlblknpipaaGreatDoor
open Go.RowKit
attribute [local go_sem ↓] Go.wp_at_zero Go.wp_at_succ
theorem aiv (l : List UInt8) (v : Int) (w : World) (hl : l.length <= 9223372036854775807) :
 Calls Tryz.prog 121 #[.string (bs l),.int .i64 v] w fun e w'=>e = .returned (.bool (fy l v)) /\ Bw w w':=by
 obtain ⟨n,hn⟩ : ∃ n,l.length = n:=⟨_,rfl⟩;have hsz : (bs l).size = n:=by rw [lQ,hn]
 obtain ⟨M,hM⟩ : ∃ M,fy l v = M:=⟨_,rfl⟩;rw [hM];have HM:=ah hM;have Hn:=ah hn;rw [hn] at hl;clear hM hn;go_enter Tryz.func121,Tryz.ntmps121;have Hb : Hid (Bw w w):=Below.refl _ _;go_wp2_with fail;go_loopw [5] (fun x wr=>∃ k : Nat,k <= n /\ x = .int .i64 (k : Int) /\ ((l.take k).all fun c=>decide (c.toNat <= 127)) = true /\ Bw w wr) (fun x _=>n - (intOf x).toNat);case atStart=>exact ⟨0,Nat.zero_le _,rfl,rfl,Hb.out⟩
 case round=>
  clear Hb;obtain ⟨k,hk,rfl,hall,pb⟩:=hrel;have ul:=ah hall;have Hb:=ah pb;clear hall pb;by_cases hlt : k < n
  . have hk2 : k < l.length:=by rw [Hn.out];exact hlt
    have ix:=vE l (k : Int) k hk2 rfl;obtain ⟨c,hc⟩ : ∃ c : Nat,(l[k]).toNat = c:=⟨_,rfl⟩;rw [hc] at ix;by_cases h1 : 128 <= c
    . have h2 : (128 : Int) <= (c : Int):=by omega
      have ve : M = false:=by
       rw [<- HM.out];unfold fy;have : (l.all fun c=>decide (c.toNat <= 127)) = false:=by rw [List.all_eq_false];exact ⟨l[k],List.getElem_mem hk2,by simp;omega⟩
       rw [this];rfl
      subst ve;go_wp2;refine bodyPost_ret (v:=.bool false) (by simp [results,Tryz.results121,go_sem]) rfl ⟨rfl,?_⟩;(repeat first | exact Hb.out | (refine Below.setCell ?_ (by have:=Hb.out.size;first | (dsimp only;omega) | (show _ <= _;omega) | (simp<;>omega)) _) | (refine Below.alloc ?_ zt _) | refine Below.drew ?_)
    . have h2 : ¬ (128 : Int) <= (c : Int):=by omega
      have cd : Hid (((l.take (k + 1)).all fun c=>decide (c.toNat <= 127)) = true):=by
       show _ = _
       rw [List.take_succ_eq_append_getElem hk2,List.all_append,ul.out];simp;omega
      clear hc;go_wp2;go_roundw;case rel=>exact ⟨k + 1,by omega,by go_num,cd.out,Hb.out⟩
      case measure=>simp [intOf];omega
  . obtain rfl : k = n:=by omega
    have hme : M = decide ((k : Int) = v):=by rw [<- HM.out];have h:=ul.out;rw [List.take_of_length_le (by rw [Hn.out];exact Nat.le_refl _)] at h;unfold fy;rw [h,Hn.out,Bool.true_and]
    have GI:=ah hme;clear hme;go_wp2;refine bodyPost_ret (results_tmp rfl _ _ _) rfl ⟨?_,Hb.out⟩;rw [GI.out];by_cases h : (k : Int) = v<;>simp [h]
theorem aaD (m : List UInt8) (l : List aJ) (j : Nat) (h : j < gh m l) (hj : j < l.length) : Op.bytesLess l[j].1 m = true:=by
 induction l generalizing j with
 | nil=>simp at hj
 | cons x l ih =>
   unfold gh at h;split at h
   . rename_i hx
     cases j with
     | zero=>exact hx
     | succ j=>exact ih j zo (by simpa using hj)
   . omega
theorem aaE (m : List UInt8) (l : List aJ) (h : gh m l < l.length) : Op.bytesLess l[gh m l].1 m = false:=by
 induction l with
 | nil=>simp at h
 | cons x l ih =>
   by_cases hx : Op.bytesLess x.1 m = true
   . have e : gh m (x :: l) = gh m l + 1:=by show (if _ then _ else _) = _;rw [if_pos hx]
     simp only [e] at h ⊢;exact ih (by simpa using h)
   . have e : gh m (x :: l) = 0:=by show (if _ then _ else _) = _;rw [if_neg hx]
     simp only [e];simpa using hx
theorem ah8 (l : List aJ) (x : aJ) (k : Nat) (hk : gh x.1 l = k) (h : k < l.length) (e : l[k].1 = x.1) : fL l x = l.take k ++ [(x.1,canon (aB l[k].2 + aB x.2))] ++ l.drop (k + 1):=by
 have e1 : (l.drop k).head? = some l[k]:=by rw [List.drop_eq_getElem_cons h];rfl
 have e2 : (l.drop k).headD default = l[k]:=by rw [List.drop_eq_getElem_cons h];rfl
 rw [VH,hk,e1,e2,if_pos (by rw [Option.map_some,e]),List.append_assoc,List.singleton_append]
theorem Md (l : List aJ) (x : aJ) (k : Nat) (hk : gh x.1 l = k) (h : ∀ h : k < l.length,l[k].1 ≠ x.1) : fL l x = l.take k ++ [(x.1,canon (aB x.2))] ++ l.drop k:=by
 rw [VH,hk,if_neg,List.append_assoc,List.singleton_append];intro e;by_cases hl : k < l.length
 . rw [List.drop_eq_getElem_cons hl,List.head?_cons,Option.map_some] at e;exact h hl (Option.some.inj e)
 . rw [List.drop_of_length_le zo] at e;cases e
theorem At.anP {w : World} {a : Option Addr} {ts : List aJ} (h : At w a (ts.flatMap aL)) (k : Nat) : At w a ((ts.take k).flatMap aL):=by
 have e : (ts.take k).flatMap aL ++ (ts.drop k).flatMap aL = ts.flatMap aL:=by rw [<- List.flatMap_append,List.take_append_drop]
 rcases h with h | ⟨b,o,rfl,hc⟩
 . rw [h] at e;exact .inl (List.append_eq_nil_iff.1 e).1
 . by_cases h0 : (ts.take k).flatMap aL = []
   . exact .inl h0
   . refine .inr ⟨b,o,rfl,fun j hj=>?_⟩;rw [hc j (by rw [<- e,List.length_append];omega),<- e,List.getElem?_append_left hj]
theorem At.anL {w : World} {a : Option Addr} {ts : List aJ} (h : At w a (ts.flatMap aL)) {n cap : Nat} (k : Nat) (hn : ts.length = n) (hk : k <= n) (hc : n <= cap) : At w (if cap = k then a else a.map (·.add (k * 4))) ((ts.drop k).flatMap aL):=by
 have h1:=At.cut (size:=4) (n:=n) (k:=k) (cap:=cap) h (by rw [kg,hn]) hk hc;have e : (ts.drop k).flatMap aL = (ts.flatMap aL).drop (k * 4):=by
  have e0 : ts.flatMap aL = (ts.take k).flatMap aL ++ (ts.drop k).flatMap aL:=by rw [<- List.flatMap_append,List.take_append_drop]
  rw [e0,List.drop_append_of_le_length (by rw [kg,List.length_take];omega)];have e1 : ((ts.take k).flatMap aL).length = k * 4:=by rw [kg,List.length_take,Nat.min_eq_left zo]
  rw [<- e1,List.drop_length,List.nil_append]
 rw [e];exact h1
theorem aiH (a : Option Addr) (n cap : Nat) (ts : List aJ) (l : List UInt8) (s : Bool) (m : List UInt8) (e : Int) (w : World) (hn : ts.length = n) (hl : n <= 65536) (hs : Sl a n cap) (ha : At w a (ts.flatMap aL)) (hf : ∀ t ∈ ts,gp t.2) (hx : gp (s,m,e)) :
 Calls Tryz.prog 120 #[.slice a n cap,.agg #[.string (bs l),.bool s,.string (bs m),.int .i64 e]] w fun ex w'=>∃ v',ex = .returned v' /\ w'.ownsRow w.heap.size 107 4 v' (fL ts (l,s,m,e)).length ((fL ts (l,s,m,e)).flatMap aL) /\ Bw w w':=by
 obtain ⟨i0,hi,hz0,hz1,hz2⟩:=info_parts Tryz.anK;obtain ⟨A,hA⟩ : ∃ A,gh l ts = A:=⟨_,rfl⟩;have hAn : A <= n:=by rw [<- hA,<- hn];exact aaC _ _
 have hgo : ∀ j (h : j < ts.length),j < A -> Op.bytesLess ts[j].1 l = true:=fun j h hj=>aaD l ts j zo h;have hst : ∀ (h : A < ts.length),Op.bytesLess ts[A].1 l = false:=fun h=>by subst hA;exact aaE l ts h
 have ED:=hs.1;have Hi:=ah hi;have cM:=ah hz0;have cN:=ah hz1;have cH:=ah hz2;have Cl:=ah hA;have Yu:=ah hgo;have cd:=ah hst;have Hs:=ah hs;have Ha:=ah ha;have Hf:=ah hf;have gb:=ah hx;have Hn:=ah hn;clear hi hz0 hz1 hz2 hA hgo hst hs ha hf hx hn;obtain ⟨W,aK⟩ : ∃ W,(w.alloc (.cells #[.string (bs l),.bool s,.string (bs m),.int .i64 e] 107)) = W:=⟨_,rfl⟩;have Hb : Hid (Bw w W):=by rw [<- aK];exact zl
 have Hx : Hid (ai W (w.heap.size) 107 [.string (bs l),.bool s,.string (bs m),.int .i64 e]):=by rw [<- aK];exact ai.newAt _ _ _ zm
 obtain ⟨x0,x1,x2,x3⟩:=Hx.out.c4;go_enter Tryz.func120,Tryz.ntmps120;go_wp2_with fail;go_loopw [5] (fun x wr=>∃ k : Nat,k <= A /\ x = .int .i64 (k : Int) /\ ai wr w.heap.size 107 [.string (bs l),.bool s,.string (bs m),.int .i64 e] /\ Bw w wr) (fun x _=>n - (intOf x).toNat);case atStart=>exact ⟨0,Nat.zero_le _,rfl,Hx.out,Hb.out⟩
 case round=>
  clear x0 x1 x2 x3 Hx Hb;obtain ⟨k,hk,rfl,px,pb⟩:=hrel;have Hx:=ah px;have Hb:=ah pb;clear px pb;by_cases hlt : k < A
  . have hkn : k < n:=by omega
    have hk2 : k < ts.length:=by rw [Hn.out];exact hkn
    obtain ⟨l',s',m',e',hx'⟩ : ∃ l s m e,ts[k] = (l,s,m,e):=⟨_,_,_,_,rfl⟩;obtain ⟨b,o,rfl,cn⟩:=(Ha.out.below Hb.out).term k hk2 hx';have bD:=iG n cap k (k : Int) (rfl : (some ⟨b,o,none⟩ : Option Addr) = _) hkn rfl;have pD : Op.bytesLess (bs l').toList (bs l).toList = true:=by rw [fw,fw];have:=Yu.out k hk2 hlt;rw [hx'] at this;exact this
    have Ht : Hid (bo wr b (o + k * 4) [.string (bs l'),.bool s',.string (bs m'),.int .i64 e']):=cn;clear cn hx';obtain ⟨x0,x1,x2,x3⟩:=Hx.out.c4;obtain ⟨t0,t1,t2,t3⟩:=Ht.out.w4;have pE : decide ((k : Int) < (n : Int)) = true:=by simp;omega
    go_wp2_with fail;refine bG (fun w'=>w'.cell? ⟨w.heap.size,0,none⟩ = some (.string (bs l)) /\ w'.cell? ⟨b,o + k * 4,none⟩ = some (.string (bs l'))) (fun i=>Nat.blt i 100000) [(0,true),(1,true),(2,true),(3,true),(4,true),(5,true),(6,true),(7,true),(8,true),(9,true),(10,true),(11,true),(12,true),(13,true)] zk zk rfl zk zc ⟨x0,t0⟩ ?_;iterate 14 (refine pT rfl rfl ?_ (by intro w' ⟨q0,q1⟩;go_simp;try with_reducible rfl);try simp only [UU])
    simp only [aU];go_wp2;go_roundw;case rel=>exact ⟨k + 1,by omega,by go_num,Hx.out,Hb.out.drew⟩
    case measure=>simp [intOf];omega
  . obtain rfl : k = A:=by omega
    have hkc : k <= cap:=by omega
    by_cases hkn : k < n
    . have hk2 : k < ts.length:=by rw [Hn.out];exact hkn
      obtain ⟨l',s',m',e',hx'⟩ : ∃ l s m e,ts[k] = (l,s,m,e):=⟨_,_,_,_,rfl⟩;obtain ⟨b,o,rfl,cn⟩:=(Ha.out.below Hb.out).term k hk2 hx';have bD:=iG n cap k (k : Int) (rfl : (some ⟨b,o,none⟩ : Option Addr) = _) hkn rfl;have pD : Op.bytesLess (bs l').toList (bs l).toList = false:=by rw [fw,fw];have:=cd.out hk2;rw [hx'] at this;exact this
      have lbt : b < w.heap.size:=by obtain ⟨b3,o3,h3,hw3⟩:=Ha.out.term k hk2 hx';simp only [Option.some.injEq,Addr.mk.injEq,and_true] at h3;obtain ⟨rfl,rfl⟩:=h3;exact World.block_lt_of_cell? w _ (hw3.cell 0 zm)
      have Ht : Hid (bo wr b (o + k * 4) [.string (bs l'),.bool s',.string (bs m'),.int .i64 e']):=cn;clear cn;obtain ⟨x0,x1,x2,x3⟩:=Hx.out.c4;obtain ⟨t0,t1,t2,t3⟩:=Ht.out.w4;have pE : decide ((k : Int) < (n : Int)) = true:=by simp;omega
      go_wp2_with fail;refine bG (fun w'=>w'.cell? ⟨w.heap.size,0,none⟩ = some (.string (bs l)) /\ w'.cell? ⟨b,o + k * 4,none⟩ = some (.string (bs l'))) (fun i=>Nat.blt i 100000) [(0,true),(1,true),(2,true),(3,true),(4,true),(5,true),(6,true),(7,true),(8,true),(9,true),(10,true),(11,true),(12,true),(13,true)] zk zk rfl zk zc ⟨x0,t0⟩ ?_;iterate 14 (refine pT rfl rfl ?_ (by intro w' ⟨q0,q1⟩;go_simp;try with_reducible rfl);try simp only [UU])
      simp only [aU];generalize om : wr.drew = wd;have tv : ai wd w.heap.size 107 [.string (bs l),.bool s,.string (bs m),.int .i64 e]:=by rw [<- om];exact Hx.out
      have jr : Bw w wd:=by rw [<- om];exact Hb.out.drew
      have hpre : ((ts.take k).flatMap aL).length = k * 4:=by rw [kg,List.length_take,Nat.min_eq_left zo]
      have sI:=Ha.out.below jr;have sH:=sI.anP k;have sf:=ah tv;have iO:=ah jr;have yG:=ah sH;have zn:=ah hpre;have Ws:=jr.size;have UL:=sf.out.lt;clear tv jr sH hpre sI om x0 x1 x2 x3 t0 t1 t2 t3 Hx Ht Hb;go_wp2_with (at_builtin;refine qi rfl _ _ 55 rfl wd.heap.size 107 i0 _ 4 48 Tryz.underlying55 Hi.out cM.out cN.out cH.out rfl zd _ 0 [] rfl (World.ownsRow_made wd #[] 0 (Nat.le_refl _) (Nat.zero_le _) zm) (some ⟨b,o,none⟩) k cap ((ts.take k).flatMap aL) rfl (Sl.some _ _ _ hkc) zn.out (yG.out.below ((Below.refl _ wd).alloc (Nat.le_refl _) _)) (pY _) zx zo zm ?_;intro v1 w1 cK hg1 vp);have hb1:=((Below.refl _ wd).alloc (Nat.le_refl _) _).grown hg1 zm (fun k hk=>by have h9 : wd.heap.size = k:=Option.some.inj hk;omega);rw [Nat.zero_add,List.nil_append] at cK;obtain ⟨av,cv,rfl,_,_⟩:=dG cK;have Hx:=ah (sf.out.below hb1);have Hb:=ah (aI iO.out hb1);obtain ⟨b2,o2,gz,cn⟩:=(Ha.out.below Hb.out).term k hk2 hx';simp only [Option.some.injEq,Addr.mk.injEq,and_true] at gz;obtain ⟨rfl,rfl⟩:=gz;have Ht : Hid (bo w1 b (o + k * 4) [.string (bs l'),.bool s',.string (bs m'),.int .i64 e']):=cn;have mD:=ah cK;have bL:=ah hb1;have hsz1:=hb1.size;have iU : gp (s',m',e'):=by have:=Hf.out _ (List.getElem_mem hk2);rw [hx'] at this;exact this
      have hel : ts[k] = (l',s',m',e'):=hx';clear cK hb1 hg1 vp cn hx' pD;obtain ⟨x0,x1,x2,x3⟩:=Hx.out.c4;obtain ⟨t0,t1,t2,t3⟩:=Ht.out.w4;go_wp2_with fail;have DN : ((bs l').toList == (bs l).toList) = decide (l' = l):=by rw [fw,fw];by_cases h : l' = l<;>simp [h]
      by_cases he : l' = l
      case neg=>
       rw [decide_eq_false he] at DN;refine bG (fun w'=>w'.cell? ⟨w.heap.size,0,none⟩ = some (.string (bs l)) /\ w'.cell? ⟨b,o + k * 4,none⟩ = some (.string (bs l'))) (fun i=>Nat.blt i 100000) [(0,true),(1,true),(2,true),(3,true),(4,true),(5,true),(6,true),(7,true),(8,true),(9,true),(10,true),(11,true),(12,true),(13,true)] zk zk rfl zk zc ⟨x0,t0⟩ ?_;iterate 14 (refine pT rfl rfl ?_ (by intro w' ⟨q0,q1⟩;go_simp;try with_reducible rfl);try simp only [UU])
       simp only [aU];have jg:=bL.out.drew;generalize fW : w1.drew = w2;have hx2 : ai w2 w.heap.size 107 [.string (bs l),.bool s,.string (bs m),.int .i64 e]:=by rw [<- fW];exact Hx.out
       have hv2 : w2.ownsRow wd.heap.size 107 4 (.slice av k cv) k ((ts.take k).flatMap aL):=by rw [<- fW];exact mD.out
       have cB:=ah hv2;replace Hx:=ah hx2;replace Hb : Hid (Bw w2 w2):=Below.refl _ _;have um : Hid (Bw wd w2):=by rw [<- fW];exact jg
       have ov:=Ha.out.below iO.out;have hz2 : wd.heap.size <= w2.heap.size:=by rw [<- fW];exact hsz1
       obtain ⟨S,hS⟩ : ∃ S,aB (s,m,e) = S:=⟨_,rfl⟩;have hps:=Md ts (l,s,m,e) k Cl.out (fun _=>by rw [hel];exact he);rw [show aB ((l,s,m,e) : aJ).2 = S from hS] at hps;have ow : ((ts.drop k).flatMap aL).length = (n - k) * 4:=by rw [kg,List.length_drop,Hn.out]
       have hdr:=ov.anL (n:=n) (cap:=cap) k Hn.out zo ED;have hsc:=Hs.out.cut (k:=k) (size:=4) zo;have adi : (⟨b,o,none⟩ : Addr).add (k * 4) = ⟨b,o + k * 4,none⟩:=by unfold Addr.add;split<;>simp_all
       rw [if_neg zo,Option.map_some,adi] at hdr hsc;have mF:=ah hps;have HS:=ah hS;have uu:=ah ow;have qA:=ah hdr;have iy:=ah hsc;have hk1 : k <= n:=by omega
       have Kp : k <= cap:=by omega
       clear hps hS hx2 hv2 ov ow hdr hsc fW jg hel iU x0 x1 x2 x3 t0 t1 t2 t3 DN he bD;obtain ⟨x0,x1,x2,x3⟩:=Hx.out.c4;go_wp2_with fail;refine bG (fun w'=>w'.cell? ⟨w.heap.size,0,none⟩ = some (.string (bs l)) /\ w'.cell? ⟨w.heap.size,1,none⟩ = some (.bool s) /\ w'.cell? ⟨w.heap.size,2,none⟩ = some (.string (bs m)) /\ w'.cell? ⟨w.heap.size,3,none⟩ = some (.int .i64 e)) (fun i=>Nat.blt i 100000) [(0,true),(1,true),(2,true),(3,true),(4,true),(5,false),(6,true),(7,false),(8,false),(9,true)] zk zk rfl zk zc ⟨x0,x1,x2,x3⟩ ?_;iterate 5 (refine pT rfl rfl ?_ (by intro w' ⟨q0,q1,q2,q3⟩;go_simp;try with_reducible rfl);try simp only [UU])
       refine aH rfl rfl (fun K hK=>?_);go_simp;with_reducible refine (yj s m e S HS.out _ gb.out).mono ?_
       rintro e w4 ⟨rfl,hq⟩;have ae : Bw w2 w4:=by first | exact hq | exact aM hq
       clear x0 x1 x2 x3;replace Hx:=kB Hx ae;obtain ⟨x0,x1,x2,x3⟩:=Hx.out.c4;replace Hb:=au Hb ae;clear ae;refine hK _ _ (fun _=>⟨x0,x1,x2,x3⟩) ?_;clear hK K;try simp only [UU]
       refine pT rfl rfl ?_;try simp only [UU]
       refine aH rfl rfl (fun K hK=>?_);go_simp;refine hK _ _ (fun _=>⟨aG x0,aG x1,aG x2,aG x3⟩) ?_;clear hK K;try simp only [UU]
       refine bJ (fun W5=>ai W5 (w4.heap.size) 107 [.string (bs l),.bool (ar (dN S)),.string (bs (nt (dN S).natAbs)),.int .i64 (dE S)] /\ Bw w4 W5) (by first | exact dQ | exact dR) ?_;rintro W5 ⟨qc,ae⟩;clear x0 x1 x2 x3;have xR:=Hx.out.lt;replace Hx:=kB Hx ae;have Hc:=ah qc;clear qc;obtain ⟨x0,x1,x2,x3⟩:=Hx.out.c4;obtain ⟨c0,c1,c2,c3⟩:=Hc.out.c4;replace Hb:=au Hb ae;clear ae;refine aH rfl rfl (fun K hK=>?_);have dF:=ownsRow_below cB.out Hb.out;have hs3:=Hb.out.size;refine wp_append_own _ _ _ 55 rfl wd.heap.size 107 i0 _ 4 48 Tryz.underlying55 Hi.out cM.out cN.out cH.out rfl zd (.slice av k cv) k ((ts.take k).flatMap aL) rfl dF ⟨w4.heap.size,0,none⟩ 1 1 [.string (bs l),.bool (ar (dN S)),.string (bs (nt (dN S).natAbs)),.int .i64 (dE S)] rfl rfl (gv Hc.out) zy zx zo zo ?_;intro v8 w8 dD aZ _;have nb : ∀ b,b < wd.heap.size -> some b ≠ (Value.slice av k cv).ownBlock:=fun b hb e=>by have:=cP dF b e.symm;omega
       refine hK _ _ (fun _=>⟨bT aZ x0 (nb _ zo),bT aZ x1 (nb _ zo),bT aZ x2 (nb _ zo),bT aZ x3 (nb _ zo)⟩) ?_;clear hK K;try simp only [UU]
       have fP:=(aI um.out Hb.out).grown aZ zo (fun j e=>cP dF j e);have gH:=ah fP;have gu:=ah dD;have EI:=aZ.size;refine pT rfl rfl ?_;try simp only [UU]
       simp only [aU];clear nb dF dD aZ fP x0 x1 x2 x3 c0 c1 c2 c3;go_wp2_with (at_builtin;refine qi rfl _ _ 55 rfl wd.heap.size 107 i0 _ 4 48 Tryz.underlying55 Hi.out cM.out cN.out cH.out rfl zd v8 (k + 1) _ rfl gu.out _ (n - k) (cap - k) ((ts.drop k).flatMap aL) rfl iy.out uu.out (qA.out.below gH.out) (pY _) zx zo zo ?_;intro v9 w9 gj pC KJ);all_goals
        go_ret
        refine ⟨v9,rfl,?_,(aI iO.out gH.out).grown pC zo (fun j e=>by have:=cP gu.out j e;omega)⟩
        rw [mF.out]
        have e9 : ((ts.take k ++ [(l,canon S)] ++ ts.drop k).flatMap aL) = (ts.take k).flatMap aL ++ [.string (bs l),.bool (ar (dN S)),.string (bs (nt (dN S).natAbs)),.int .i64 (dE S)] ++ (ts.drop k).flatMap aL:=by rw [List.flatMap_append,List.flatMap_append];rfl
        have l9 : (ts.take k ++ [(l,canon S)] ++ ts.drop k).length = k + 1 + (n - k):=by simp [Hn.out];omega
        rw [e9,l9]
        exact ny gj zo
      rw [decide_eq_true he] at DN;refine bG (fun w'=>w'.cell? ⟨w.heap.size,0,none⟩ = some (.string (bs l)) /\ w'.cell? ⟨b,o + k * 4,none⟩ = some (.string (bs l'))) (fun i=>Nat.blt i 100000) [(0,true),(1,true),(2,true),(3,true),(4,true),(5,true),(6,true),(7,true),(8,true),(9,true),(10,true),(11,true),(12,true),(13,true)] zk zk rfl zk zc ⟨x0,t0⟩ ?_;iterate 14 (refine pT rfl rfl ?_ (by intro w' ⟨q0,q1⟩;go_simp;try with_reducible rfl);try simp only [UU])
      simp only [aU];have jg:=bL.out.drew;generalize fW : w1.drew = w2;have hx2 : ai w2 w.heap.size 107 [.string (bs l),.bool s,.string (bs m),.int .i64 e]:=by rw [<- fW];exact Hx.out
      have ht2 : bo w2 b (o + k * 4) [.string (bs l'),.bool s',.string (bs m'),.int .i64 e']:=by rw [<- fW];exact Ht.out
      have hb2 : Bw w w2:=by rw [<- fW];exact Hb.out.drew
      have hv2 : w2.ownsRow wd.heap.size 107 4 (.slice av k cv) k ((ts.take k).flatMap aL):=by rw [<- fW];exact mD.out
      have cB:=ah hv2;replace Hx:=ah hx2;replace Ht:=ah ht2;replace Hb : Hid (Bw w2 w2):=Below.refl _ _;have um : Hid (Bw wd w2):=by rw [<- fW];exact jg
      have ov:=Ha.out.below iO.out;have hz2 : wd.heap.size <= w2.heap.size:=by rw [<- fW];exact hsz1
      obtain ⟨S,hS⟩ : ∃ S,aB (s',m',e') + aB (s,m,e) = S:=⟨_,rfl⟩;have hps:=ah8 ts (l,s,m,e) k Cl.out hk2 (by rw [hel];exact he);rw [show aB ts[k].2 = aB (s',m',e') by rw [hel],show aB (s',m',e') + aB ((l,s,m,e) : aJ).2 = S from hS] at hps;have ow : ((ts.drop (k + 1)).flatMap aL).length = (n - (k + 1)) * 4:=by rw [kg,List.length_drop,Hn.out]
      have hdr:=ov.anL (n:=n) (cap:=cap) (k + 1) Hn.out zo ED;have hsc:=Hs.out.cut (k:=k + 1) (size:=4) zo;have mF:=ah hps;have HS:=ah hS;have kr:=ah iU;have uu:=ah ow;have qA:=ah hdr;have iy:=ah hsc;have hk1 : k + 1 <= n:=by omega
      have Kp : k + 1 <= cap:=by omega
      clear hps hS hel iU hx2 ht2 hb2 hv2 ov ow hdr hsc x0 x1 x2 x3 t0 t1 t2 t3 fW jg DN he bD;obtain ⟨x0,x1,x2,x3⟩:=Hx.out.c4;obtain ⟨t0,t1,t2,t3⟩:=Ht.out.w4;have bD:=iG n cap k (k : Int) (rfl : (some ⟨b,o,none⟩ : Option Addr) = _) hkn rfl;go_wp2_with fail;have Lm:=Hx.out.lt;refine bG (fun w'=>w'.cell? ⟨w.heap.size,0,none⟩ = some (.string (bs l)) /\ w'.cell? ⟨w.heap.size,1,none⟩ = some (.bool s) /\ w'.cell? ⟨w.heap.size,2,none⟩ = some (.string (bs m)) /\ w'.cell? ⟨w.heap.size,3,none⟩ = some (.int .i64 e) /\ w'.cell? ⟨b,o + k * 4,none⟩ = some (.string (bs l')) /\ w'.cell? ⟨b,o + k * 4 + 1,none⟩ = some (.bool s') /\ w'.cell? ⟨b,o + k * 4 + 2,none⟩ = some (.string (bs m')) /\ w'.cell? ⟨b,o + k * 4 + 3,none⟩ = some (.int .i64 e')) (fun i=>Nat.blt i 100000) [(0,true),(1,true),(2,true),(3,true),(4,true),(5,true),(6,true),(7,true),(8,true),(9,true),(10,false),(11,true),(12,false),(13,false),(14,true)] zk zk rfl zk zc ⟨x0,x1,x2,x3,t0,t1,t2,t3⟩ ?_;iterate 10 (refine pT rfl rfl ?_ (by intro w' ⟨q0,q1,q2,q3,q4,q5,q6,q7⟩;go_simp;try with_reducible rfl);try simp only [UU])
      refine aH rfl rfl (fun K hK=>?_);go_simp;with_reducible refine (aiC s' m' e' s m e S HS.out _ kr.out gb.out).mono ?_
      rintro e w4 ⟨rfl,hq⟩;have ae : Bw w2 w4:=by first | exact hq | exact aM hq
      clear x0 x1 x2 x3 t0 t1 t2 t3;replace Hx:=kB Hx ae;replace Ht:=kW Ht ae;obtain ⟨x0,x1,x2,x3⟩:=Hx.out.c4;obtain ⟨t0,t1,t2,t3⟩:=Ht.out.w4;replace Hb:=au Hb ae;clear ae;refine hK _ _ (fun _=>⟨x0,x1,x2,x3,t0,t1,t2,t3⟩) ?_;clear hK K;try simp only [UU]
      refine pT rfl rfl ?_;try simp only [UU]
      refine aH rfl rfl (fun K hK=>?_);go_simp;refine hK _ _ (fun _=>⟨aG x0,aG x1,aG x2,aG x3,aG t0,aG t1,aG t2,aG t3⟩) ?_;clear hK K;try simp only [UU]
      refine bJ (fun W5=>ai W5 (w4.heap.size) 107 [.string (bs l),.bool (ar (dN S)),.string (bs (nt (dN S).natAbs)),.int .i64 (dE S)] /\ Bw w4 W5) (by first | exact dQ | exact dR) ?_;rintro W5 ⟨qc,ae⟩;clear x0 x1 x2 x3 t0 t1 t2 t3;have xR:=Hx.out.lt;replace Hx:=kB Hx ae;replace Ht:=kW Ht ae;have Hc:=ah qc;clear qc;obtain ⟨x0,x1,x2,x3⟩:=Hx.out.c4;obtain ⟨t0,t1,t2,t3⟩:=Ht.out.w4;obtain ⟨c0,c1,c2,c3⟩:=Hc.out.c4;replace Hb:=au Hb ae;clear ae;refine aH rfl rfl (fun K hK=>?_);have dF:=ownsRow_below cB.out Hb.out;have hs3:=Hb.out.size;refine wp_append_own _ _ _ 55 rfl wd.heap.size 107 i0 _ 4 48 Tryz.underlying55 Hi.out cM.out cN.out cH.out rfl zd (.slice av k cv) k ((ts.take k).flatMap aL) rfl dF ⟨w4.heap.size,0,none⟩ 1 1 [.string (bs l),.bool (ar (dN S)),.string (bs (nt (dN S).natAbs)),.int .i64 (dE S)] rfl rfl (gv Hc.out) zy zx zo zo ?_;intro v8 w8 dD aZ _;have nb : ∀ b,b < wd.heap.size -> some b ≠ (Value.slice av k cv).ownBlock:=fun b hb e=>by have:=cP dF b e.symm;omega
      refine hK _ _ (fun _=>⟨bT aZ x0 (nb _ zo),bT aZ x1 (nb _ zo),bT aZ x2 (nb _ zo),bT aZ x3 (nb _ zo),bT aZ t0 (nb _ zp),bT aZ t1 (nb _ zp),bT aZ t2 (nb _ zp),bT aZ t3 (nb _ zp)⟩) ?_;clear hK K;try simp only [UU]
      have fP:=(aI um.out Hb.out).grown aZ zo (fun j e=>cP dF j e);have gH:=ah fP;have gu:=ah dD;have EI:=aZ.size;refine pT rfl rfl ?_;try simp only [UU]
      simp only [aU];clear nb dF dD aZ fP x0 x1 x2 x3 t0 t1 t2 t3 c0 c1 c2 c3;go_wp2_with (at_builtin;refine qi rfl _ _ 55 rfl wd.heap.size 107 i0 _ 4 48 Tryz.underlying55 Hi.out cM.out cN.out cH.out rfl zd v8 (k + 1) _ rfl gu.out _ (n - (k + 1)) (cap - (k + 1)) ((ts.drop (k + 1)).flatMap aL) rfl iy.out uu.out (qA.out.below gH.out) (pY _) zx zo zo ?_;intro v9 w9 gj pC KJ);all_goals
       go_ret
       refine ⟨v9,rfl,?_,(aI iO.out gH.out).grown pC zo (fun j e=>by have:=cP gu.out j e;omega)⟩
       rw [mF.out]
       have e9 : ((ts.take k ++ [(l,canon S)] ++ ts.drop (k + 1)).flatMap aL) = (ts.take k).flatMap aL ++ [.string (bs l),.bool (ar (dN S)),.string (bs (nt (dN S).natAbs)),.int .i64 (dE S)] ++ (ts.drop (k + 1)).flatMap aL:=by rw [List.flatMap_append,List.flatMap_append];rfl
       have l9 : (ts.take k ++ [(l,canon S)] ++ ts.drop (k + 1)).length = k + 1 + (n - (k + 1)):=by simp [Hn.out];omega
       rw [e9,l9]
       exact ny gj zo
    . obtain rfl : n = k:=by omega
      cases a with
      | none =>
        have hc0:=Hs.out.2 rfl;obtain rfl : n = 0:=by omega
        subst hc0;obtain ⟨x0,x1,x2,x3⟩:=Hx.out.c4;have pE : decide (((0 : Nat) : Int) < ((0 : Nat) : Int)) = false:=by simp
        go_wp2_with fail;refine bG (fun w'=>w'.cell? ⟨w.heap.size,0,none⟩ = some (.string (bs l))) (fun i=>Nat.blt i 100000) [(0,true),(1,true),(2,true),(3,true),(4,true),(5,true),(6,true),(7,true),(8,true),(9,true),(10,true),(11,true),(12,true),(13,true)] zk zk rfl zk zc x0 ?_;iterate 5 (refine pT rfl rfl ?_;try simp only [UU])
        refine aX rfl rfl ?_;try simp only [UU]
        refine aX rfl rfl ?_;try simp only [UU]
        refine aX rfl rfl ?_;try simp only [UU]
        refine aX rfl rfl ?_;try simp only [UU]
        refine aX rfl rfl ?_;try simp only [UU]
        refine aX rfl rfl ?_;try simp only [UU]
        refine aX rfl rfl ?_;try simp only [UU]
        refine aX rfl rfl ?_;try simp only [UU]
        refine pT rfl rfl ?_;try simp only [UU]
        simp only [aU];generalize om : wr.drew = wd;have tv : ai wd w.heap.size 107 [.string (bs l),.bool s,.string (bs m),.int .i64 e]:=by rw [<- om];exact Hx.out
        have jr : Bw w wd:=by rw [<- om];exact Hb.out.drew
        have hpre : ((ts.take 0).flatMap aL).length = 0 * 4:=by rw [kg,List.length_take,Nat.min_eq_left (by have:=Hn.out;omega)]
        have sI:=Ha.out.below jr;have sH:=sI.anP 0;have hsk : Sl none 0 0:=Hs.out;have sf:=ah tv;have iO:=ah jr;have yG:=ah sH;have zn:=ah hpre;have Ws:=jr.size;have UL:=sf.out.lt;clear tv jr sH hpre sI om x0 x1 x2 x3 Hx Hb;go_wp2_with (at_builtin;refine qi rfl _ _ 55 rfl wd.heap.size 107 i0 _ 4 48 Tryz.underlying55 Hi.out cM.out cN.out cH.out rfl zd _ 0 [] rfl (World.ownsRow_made wd #[] 0 (Nat.le_refl _) (Nat.zero_le _) zm) none 0 0 ((ts.take 0).flatMap aL) rfl hsk zn.out (yG.out.below ((Below.refl _ wd).alloc (Nat.le_refl _) _)) (pY _) (by simp [maxLen]) zo zm ?_;intro v1 w1 cK hg1 vp);have hb1:=((Below.refl _ wd).alloc (Nat.le_refl _) _).grown hg1 zm (fun k hk=>by have h9 : wd.heap.size = k:=Option.some.inj hk;omega);rw [Nat.zero_add,List.nil_append] at cK;obtain ⟨av,cv,rfl,_,_⟩:=dG cK;have Hx:=ah (sf.out.below hb1);have Hb:=ah (aI iO.out hb1);have mD:=ah cK;have bL:=ah hb1;have hsz1:=hb1.size;clear cK hb1 hg1 vp;obtain ⟨x0,x1,x2,x3⟩:=Hx.out.c4;go_wp2_with fail;refine bG (fun w'=>w'.cell? ⟨w.heap.size,0,none⟩ = some (.string (bs l))) (fun i=>Nat.blt i 100000) [(0,true),(1,true),(2,true),(3,true),(4,true),(5,true),(6,true),(7,true),(8,true),(9,true),(10,true),(11,true),(12,true),(13,true)] zk zk rfl zk zc x0 ?_;iterate 5 (refine pT rfl rfl ?_;try simp only [UU])
        refine aX rfl rfl ?_;try simp only [UU]
        refine aX rfl rfl ?_;try simp only [UU]
        refine aX rfl rfl ?_;try simp only [UU]
        refine aX rfl rfl ?_;try simp only [UU]
        refine aX rfl rfl ?_;try simp only [UU]
        refine aX rfl rfl ?_;try simp only [UU]
        refine aX rfl rfl ?_;try simp only [UU]
        refine aX rfl rfl ?_;try simp only [UU]
        refine pT rfl rfl ?_;try simp only [UU]
        simp only [aU];have jg:=bL.out.drew;generalize fW : w1.drew = w2;have hx2 : ai w2 w.heap.size 107 [.string (bs l),.bool s,.string (bs m),.int .i64 e]:=by rw [<- fW];exact Hx.out
        have hv2 : w2.ownsRow wd.heap.size 107 4 (.slice av 0 cv) 0 ((ts.take 0).flatMap aL):=by rw [<- fW];exact mD.out
        have cB:=ah hv2;replace Hx:=ah hx2;replace Hb : Hid (Bw w2 w2):=Below.refl _ _;have um : Hid (Bw wd w2):=by rw [<- fW];exact jg
        have ov:=Ha.out.below iO.out;have hz2 : wd.heap.size <= w2.heap.size:=by rw [<- fW];exact hsz1
        obtain ⟨S,hS⟩ : ∃ S,aB (s,m,e) = S:=⟨_,rfl⟩;have hps:=Md ts (l,s,m,e) 0 Cl.out (fun h=>absurd h (by have:=Hn.out;omega));rw [show aB ((l,s,m,e) : aJ).2 = S from hS] at hps;have ow : ((ts.drop 0).flatMap aL).length = (0 - 0) * 4:=by rw [kg,List.length_drop,Hn.out]
        have hdr:=ov.anL (n:=0) (cap:=0) 0 Hn.out zo ED;have hsc:=Hs.out.cut (k:=0) (size:=4) zo;have mF:=ah hps;have HS:=ah hS;have uu:=ah ow;have qA:=ah hdr;have iy:=ah hsc;have hk1 : 0 <= 0:=by omega
        have Kp : 0 <= 0:=by omega
        clear hps hS hx2 hv2 ov ow hdr hsc fW jg x0 x1 x2 x3;obtain ⟨x0,x1,x2,x3⟩:=Hx.out.c4;go_wp2_with fail;refine bG (fun w'=>w'.cell? ⟨w.heap.size,0,none⟩ = some (.string (bs l)) /\ w'.cell? ⟨w.heap.size,1,none⟩ = some (.bool s) /\ w'.cell? ⟨w.heap.size,2,none⟩ = some (.string (bs m)) /\ w'.cell? ⟨w.heap.size,3,none⟩ = some (.int .i64 e)) (fun i=>Nat.blt i 100000) [(0,true),(1,true),(2,true),(3,true),(4,true),(5,false),(6,true),(7,false),(8,false),(9,true)] zk zk rfl zk zc ⟨x0,x1,x2,x3⟩ ?_;iterate 5 (refine pT rfl rfl ?_ (by intro w' ⟨q0,q1,q2,q3⟩;go_simp;try with_reducible rfl);try simp only [UU])
        refine aH rfl rfl (fun K hK=>?_);go_simp;with_reducible refine (yj s m e S HS.out _ gb.out).mono ?_
        rintro e w4 ⟨rfl,hq⟩;have ae : Bw w2 w4:=by first | exact hq | exact aM hq
        clear x0 x1 x2 x3;replace Hx:=kB Hx ae;obtain ⟨x0,x1,x2,x3⟩:=Hx.out.c4;replace Hb:=au Hb ae;clear ae;refine hK _ _ (fun _=>⟨x0,x1,x2,x3⟩) ?_;clear hK K;try simp only [UU]
        refine pT rfl rfl ?_;try simp only [UU]
        refine aH rfl rfl (fun K hK=>?_);go_simp;refine hK _ _ (fun _=>⟨aG x0,aG x1,aG x2,aG x3⟩) ?_;clear hK K;try simp only [UU]
        refine bJ (fun W5=>ai W5 (w4.heap.size) 107 [.string (bs l),.bool (ar (dN S)),.string (bs (nt (dN S).natAbs)),.int .i64 (dE S)] /\ Bw w4 W5) (by first | exact dQ | exact dR) ?_;rintro W5 ⟨qc,ae⟩;clear x0 x1 x2 x3;have xR:=Hx.out.lt;replace Hx:=kB Hx ae;have Hc:=ah qc;clear qc;obtain ⟨x0,x1,x2,x3⟩:=Hx.out.c4;obtain ⟨c0,c1,c2,c3⟩:=Hc.out.c4;replace Hb:=au Hb ae;clear ae;refine aH rfl rfl (fun K hK=>?_);have dF:=ownsRow_below cB.out Hb.out;have hs3:=Hb.out.size;refine wp_append_own _ _ _ 55 rfl wd.heap.size 107 i0 _ 4 48 Tryz.underlying55 Hi.out cM.out cN.out cH.out rfl zd (.slice av 0 cv) 0 ((ts.take 0).flatMap aL) rfl dF ⟨w4.heap.size,0,none⟩ 1 1 [.string (bs l),.bool (ar (dN S)),.string (bs (nt (dN S).natAbs)),.int .i64 (dE S)] rfl rfl (gv Hc.out) zy (by simp [maxLen]) zo zo ?_;intro v8 w8 dD aZ _;have nb : ∀ b,b < wd.heap.size -> some b ≠ (Value.slice av 0 cv).ownBlock:=fun b hb e=>by have:=cP dF b e.symm;omega
        refine hK _ _ (fun _=>⟨bT aZ x0 (nb _ zo),bT aZ x1 (nb _ zo),bT aZ x2 (nb _ zo),bT aZ x3 (nb _ zo)⟩) ?_;clear hK K;try simp only [UU]
        have fP:=(aI um.out Hb.out).grown aZ zo (fun j e=>cP dF j e);have gH:=ah fP;have gu:=ah dD;have EI:=aZ.size;refine pT rfl rfl ?_;try simp only [UU]
        simp only [aU];clear nb dF dD aZ fP x0 x1 x2 x3 c0 c1 c2 c3;go_wp2_with (at_builtin;refine qi rfl _ _ 55 rfl wd.heap.size 107 i0 _ 4 48 Tryz.underlying55 Hi.out cM.out cN.out cH.out rfl zd v8 (0 + 1) _ rfl gu.out none 0 0 ((ts.drop 0).flatMap aL) rfl iy.out uu.out (qA.out.below gH.out) (pY _) (by simp [maxLen]) zo zo ?_;intro v9 w9 gj pC KJ);all_goals
         go_ret
         refine ⟨v9,rfl,?_,(aI iO.out gH.out).grown pC zo (fun j e=>by have:=cP gu.out j e;omega)⟩
         rw [mF.out]
         have e9 : ((ts.take 0 ++ [(l,canon S)] ++ ts.drop 0).flatMap aL) = (ts.take 0).flatMap aL ++ [.string (bs l),.bool (ar (dN S)),.string (bs (nt (dN S).natAbs)),.int .i64 (dE S)] ++ (ts.drop 0).flatMap aL:=by rw [List.flatMap_append,List.flatMap_append];rfl
         have l9 : (ts.take 0 ++ [(l,canon S)] ++ ts.drop 0).length = 0 + 1 + 0:=by simp [Hn.out]
         rw [e9,l9]
         exact ny gj zo
      | some ad =>
        obtain ⟨x0,x1,x2,x3⟩:=Hx.out.c4;have pE : decide ((n : Int) < (n : Int)) = false:=by simp
        go_wp2_with fail;refine bG (fun w'=>w'.cell? ⟨w.heap.size,0,none⟩ = some (.string (bs l))) (fun i=>Nat.blt i 100000) [(0,true),(1,true),(2,true),(3,true),(4,true),(5,true),(6,true),(7,true),(8,true),(9,true),(10,true),(11,true),(12,true),(13,true)] zk zk rfl zk zc x0 ?_;iterate 5 (refine pT rfl rfl ?_;try simp only [UU])
        refine aX rfl rfl ?_;try simp only [UU]
        refine aX rfl rfl ?_;try simp only [UU]
        refine aX rfl rfl ?_;try simp only [UU]
        refine aX rfl rfl ?_;try simp only [UU]
        refine aX rfl rfl ?_;try simp only [UU]
        refine aX rfl rfl ?_;try simp only [UU]
        refine aX rfl rfl ?_;try simp only [UU]
        refine aX rfl rfl ?_;try simp only [UU]
        refine pT rfl rfl ?_;try simp only [UU]
        simp only [aU];generalize om : wr.drew = wd;have tv : ai wd w.heap.size 107 [.string (bs l),.bool s,.string (bs m),.int .i64 e]:=by rw [<- om];exact Hx.out
        have jr : Bw w wd:=by rw [<- om];exact Hb.out.drew
        have hpre : ((ts.take n).flatMap aL).length = n * 4:=by rw [kg,List.length_take,Nat.min_eq_left (by have:=Hn.out;omega)]
        have sI:=Ha.out.below jr;have sH:=sI.anP n;have hsk : Sl (some ad) n cap:=Hs.out;have sf:=ah tv;have iO:=ah jr;have yG:=ah sH;have zn:=ah hpre;have Ws:=jr.size;have UL:=sf.out.lt;clear tv jr sH hpre sI om x0 x1 x2 x3 Hx Hb;go_wp2_with (at_builtin;refine qi rfl _ _ 55 rfl wd.heap.size 107 i0 _ 4 48 Tryz.underlying55 Hi.out cM.out cN.out cH.out rfl zd _ 0 [] rfl (World.ownsRow_made wd #[] 0 (Nat.le_refl _) (Nat.zero_le _) zm) (some ad) n cap ((ts.take n).flatMap aL) rfl hsk zn.out (yG.out.below ((Below.refl _ wd).alloc (Nat.le_refl _) _)) (pY _) zx zo zm ?_;intro v1 w1 cK hg1 vp);have hb1:=((Below.refl _ wd).alloc (Nat.le_refl _) _).grown hg1 zm (fun k hk=>by have h9 : wd.heap.size = k:=Option.some.inj hk;omega);rw [Nat.zero_add,List.nil_append] at cK;obtain ⟨av,cv,rfl,_,_⟩:=dG cK;have Hx:=ah (sf.out.below hb1);have Hb:=ah (aI iO.out hb1);have mD:=ah cK;have bL:=ah hb1;have hsz1:=hb1.size;clear cK hb1 hg1 vp;obtain ⟨x0,x1,x2,x3⟩:=Hx.out.c4;go_wp2_with fail;refine bG (fun w'=>w'.cell? ⟨w.heap.size,0,none⟩ = some (.string (bs l))) (fun i=>Nat.blt i 100000) [(0,true),(1,true),(2,true),(3,true),(4,true),(5,true),(6,true),(7,true),(8,true),(9,true),(10,true),(11,true),(12,true),(13,true)] zk zk rfl zk zc x0 ?_;iterate 5 (refine pT rfl rfl ?_;try simp only [UU])
        refine aX rfl rfl ?_;try simp only [UU]
        refine aX rfl rfl ?_;try simp only [UU]
        refine aX rfl rfl ?_;try simp only [UU]
        refine aX rfl rfl ?_;try simp only [UU]
        refine aX rfl rfl ?_;try simp only [UU]
        refine aX rfl rfl ?_;try simp only [UU]
        refine aX rfl rfl ?_;try simp only [UU]
        refine aX rfl rfl ?_;try simp only [UU]
        refine pT rfl rfl ?_;try simp only [UU]
        simp only [aU];have jg:=bL.out.drew;generalize fW : w1.drew = w2;have hx2 : ai w2 w.heap.size 107 [.string (bs l),.bool s,.string (bs m),.int .i64 e]:=by rw [<- fW];exact Hx.out
        have hv2 : w2.ownsRow wd.heap.size 107 4 (.slice av n cv) n ((ts.take n).flatMap aL):=by rw [<- fW];exact mD.out
        have cB:=ah hv2;replace Hx:=ah hx2;replace Hb : Hid (Bw w2 w2):=Below.refl _ _;have um : Hid (Bw wd w2):=by rw [<- fW];exact jg
        have ov:=Ha.out.below iO.out;have hz2 : wd.heap.size <= w2.heap.size:=by rw [<- fW];exact hsz1
        obtain ⟨S,hS⟩ : ∃ S,aB (s,m,e) = S:=⟨_,rfl⟩;have hps:=Md ts (l,s,m,e) n Cl.out (fun h=>absurd h (by have:=Hn.out;omega));rw [show aB ((l,s,m,e) : aJ).2 = S from hS] at hps;have ow : ((ts.drop n).flatMap aL).length = 0 * 4:=by rw [kg,List.length_drop,Hn.out,Nat.sub_self]
        have hdr:=ov.anL (n:=n) (cap:=cap) n Hn.out zo ED;have hsc:=Hs.out.cut (k:=n) (size:=4) zo;rw [Nat.sub_self] at hsc;have mF:=ah hps;have HS:=ah hS;have uu:=ah ow;have qA:=ah hdr;have iy:=ah hsc;have hk1 : n <= n:=by omega
        have Kp : n <= cap:=by omega
        clear hps hS hx2 hv2 ov ow hdr hsc fW jg x0 x1 x2 x3;obtain ⟨x0,x1,x2,x3⟩:=Hx.out.c4;go_wp2_with fail;refine bG (fun w'=>w'.cell? ⟨w.heap.size,0,none⟩ = some (.string (bs l)) /\ w'.cell? ⟨w.heap.size,1,none⟩ = some (.bool s) /\ w'.cell? ⟨w.heap.size,2,none⟩ = some (.string (bs m)) /\ w'.cell? ⟨w.heap.size,3,none⟩ = some (.int .i64 e)) (fun i=>Nat.blt i 100000) [(0,true),(1,true),(2,true),(3,true),(4,true),(5,false),(6,true),(7,false),(8,false),(9,true)] zk zk rfl zk zc ⟨x0,x1,x2,x3⟩ ?_;iterate 5 (refine pT rfl rfl ?_ (by intro w' ⟨q0,q1,q2,q3⟩;go_simp;try with_reducible rfl);try simp only [UU])
        refine aH rfl rfl (fun K hK=>?_);go_simp;with_reducible refine (yj s m e S HS.out _ gb.out).mono ?_
        rintro e w4 ⟨rfl,hq⟩;have ae : Bw w2 w4:=by first | exact hq | exact aM hq
        clear x0 x1 x2 x3;replace Hx:=kB Hx ae;obtain ⟨x0,x1,x2,x3⟩:=Hx.out.c4;replace Hb:=au Hb ae;clear ae;refine hK _ _ (fun _=>⟨x0,x1,x2,x3⟩) ?_;clear hK K;try simp only [UU]
        refine pT rfl rfl ?_;try simp only [UU]
        refine aH rfl rfl (fun K hK=>?_);go_simp;refine hK _ _ (fun _=>⟨aG x0,aG x1,aG x2,aG x3⟩) ?_;clear hK K;try simp only [UU]
        refine bJ (fun W5=>ai W5 (w4.heap.size) 107 [.string (bs l),.bool (ar (dN S)),.string (bs (nt (dN S).natAbs)),.int .i64 (dE S)] /\ Bw w4 W5) (by first | exact dQ | exact dR) ?_;rintro W5 ⟨qc,ae⟩;clear x0 x1 x2 x3;have xR:=Hx.out.lt;replace Hx:=kB Hx ae;have Hc:=ah qc;clear qc;obtain ⟨x0,x1,x2,x3⟩:=Hx.out.c4;obtain ⟨c0,c1,c2,c3⟩:=Hc.out.c4;replace Hb:=au Hb ae;clear ae;refine aH rfl rfl (fun K hK=>?_);have dF:=ownsRow_below cB.out Hb.out;have hs3:=Hb.out.size;refine wp_append_own _ _ _ 55 rfl wd.heap.size 107 i0 _ 4 48 Tryz.underlying55 Hi.out cM.out cN.out cH.out rfl zd (.slice av n cv) n ((ts.take n).flatMap aL) rfl dF ⟨w4.heap.size,0,none⟩ 1 1 [.string (bs l),.bool (ar (dN S)),.string (bs (nt (dN S).natAbs)),.int .i64 (dE S)] rfl rfl (gv Hc.out) zy zx zo zo ?_;intro v8 w8 dD aZ _;have nb : ∀ b,b < wd.heap.size -> some b ≠ (Value.slice av n cv).ownBlock:=fun b hb e=>by have:=cP dF b e.symm;omega
        refine hK _ _ (fun _=>⟨bT aZ x0 (nb _ zo),bT aZ x1 (nb _ zo),bT aZ x2 (nb _ zo),bT aZ x3 (nb _ zo)⟩) ?_;clear hK K;try simp only [UU]
        have fP:=(aI um.out Hb.out).grown aZ zo (fun j e=>cP dF j e);have gH:=ah fP;have gu:=ah dD;have EI:=aZ.size;refine pT rfl rfl ?_;try simp only [UU]
        simp only [aU];clear nb dF dD aZ fP x0 x1 x2 x3 c0 c1 c2 c3;go_wp2_with (at_builtin;refine qi rfl _ _ 55 rfl wd.heap.size 107 i0 _ 4 48 Tryz.underlying55 Hi.out cM.out cN.out cH.out rfl zd v8 (n + 1) _ rfl gu.out _ 0 (cap - n) ((ts.drop n).flatMap aL) rfl iy.out uu.out (qA.out.below gH.out) (pY _) zx zo zo ?_;intro v9 w9 gj pC KJ);all_goals
         go_ret
         refine ⟨v9,rfl,?_,(aI iO.out gH.out).grown pC zo (fun j e=>by have:=cP gu.out j e;omega)⟩
         rw [mF.out]
         have e9 : ((ts.take n ++ [(l,canon S)] ++ ts.drop n).flatMap aL) = (ts.take n).flatMap aL ++ [.string (bs l),.bool (ar (dN S)),.string (bs (nt (dN S).natAbs)),.int .i64 (dE S)] ++ (ts.drop n).flatMap aL:=by rw [List.flatMap_append,List.flatMap_append];rfl
         have l9 : (ts.take n ++ [(l,canon S)] ++ ts.drop n).length = n + 1 + 0:=by simp [Hn.out]
         rw [e9,l9]
         exact ny gj zo
theorem ah9 {C : Nat} (l : List aJ) (x : aJ) (h : ∀ t ∈ l,Sm C (aB t.2)) (hx : Sm C (aB x.2)) : ∀ t ∈ fL l x,Sm (C + 1) (aB t.2):=by
 have hc : ∀ X : Dyadic,Sm (C + 1) X -> Sm (C + 1) (aB (canon X)):=fun X h=>by rw [bU];exact h
 induction l with
 | nil=>intro t ht;simp only [fL,List.mem_singleton] at ht;rw [ht];exact hc _ (hx.mono zo)
 | cons y l ih =>
   intro t ht;unfold fL at ht;split at ht
   . rcases List.mem_cons.1 ht with rfl | ht
     . exact (h _ zm).mono zo
     . exact ih (fun t ht=>h t (by simp [ht])) t ht
   . split at ht
     . rcases List.mem_cons.1 ht with rfl | ht
       . exact hc _ ((h y zm).add hx)
       . exact (h t (by simp [ht])).mono zo
     . rcases List.mem_cons.1 ht with rfl | ht
       . exact hc _ (hx.mono zo)
       . exact (h t ht).mono zo
theorem aid {B : Nat} (l : List aJ) (h : ∀ t ∈ l,Sm B (aB t.2)) : ∀ t ∈ fZ l,Sm (B + l.length) (aB t.2):=by refine BX (Q:=fun l=>(∀ t ∈ l,Sm B (aB t.2)) -> ∀ t ∈ fZ l,Sm (B + l.length) (aB t.2)) (fun _ t ht=>by cases ht) (fun l x ih h=>?_) l h;rw [ye];have h1:=ih (fun t ht=>h t (by simp [ht]));have:=ah9 (C:=B + l.length) (fZ l) x h1 ((h x zm).mono zo);intro t ht;have h9:=this t ht;rw [List.length_append];exact h9
theorem aib {B : Nat} (l : List aJ) (h : ∀ t ∈ l,Sm B (aB t.2)) (hB : B + l.length <= 16384) : ∀ t ∈ fZ l,gp t.2:=fun t ht=>by have h1:=aid l h t ht;rw [VI l t ht];exact h1.anI hB
theorem adw (L : List aJ) (k : Nat) (hk : k < L.length) : (L.take (k + 1)).filter fT = (L.take k).filter fT ++ if fT L[k] then [L[k]] else []:=by rw [List.take_succ_eq_append_getElem hk,List.filter_append];congr 1;by_cases h : fT L[k] = true<;>simp [h]
theorem VS (V : Nat) (a : Option Addr) (n cap : Nat) (ts : List aJ) (B : Nat) (w : World) (hn : ts.length = n) (hl : n <= 4096) (ha : At w a (ts.flatMap aL)) (hf : ∀ t ∈ ts,gp t.2) (hs : ∀ t ∈ ts,Sm B (aB t.2)) (hB : B + n <= 16384) :
 Calls Tryz.prog 81 #[.int .i64 (V : Int),.slice a n cap] w fun ex w'=>∃ a' c',ex = .returned (.tuple #[.agg #[.int .i64 (V : Int),.slice a' (bH ts).length c'],.int .i64 0]) /\ cm w' a' c' (bH ts) /\ Bw w w':=by
 obtain ⟨i0,hi,hz0,hz1,hz2⟩:=info_parts Tryz.anK;have iu:=fun k=>aib (ts.take k) (fun t ht=>hs t (List.mem_of_mem_take ht)) (by rw [List.length_take];omega);have hpl:=fun k=>aic (ts.take k);have mf:=adR ts;obtain ⟨C,hC⟩ : ∃ C,bH ts = C:=⟨_,rfl⟩;have hcl:=wX ts;rw [hC] at mf hcl ⊢;have Hi:=ah hi;have cM:=ah hz0;have cN:=ah hz1;have cH:=ah hz2;have oU:=ah iu;have qK:=ah hpl;have Yr:=ah mf;have Ha:=ah ha;have Hf:=ah hf;have Hn:=ah hn;have hC4 : C.length <= 4096:=by omega
 clear hi hz0 hz1 hz2 iu hpl mf ha hf hs hC hn hcl;obtain ⟨W,aK⟩ : ∃ W,(w.alloc (.cells #[.int .i64 0,.slice none 0 0] 57)) = W:=⟨_,rfl⟩;have Hb : Hid (Bw w W):=by rw [<- aK];exact zl
 have Hr : Hid (ai W (w.heap.size) 57 [.int .i64 0,.slice none 0 0]):=by rw [<- aK];exact ai.newAt _ _ _ zm
 obtain ⟨r0,aj,r1,ak⟩:=Hr.out.g2;go_enter Tryz.func81,Tryz.ntmps81;go_wp2_with fail;have hrl:=Hr.out.lt;go_loopw [6,7] (fun s6 x wr=>∃ (k : Nat) (v : Value),k <= n /\ x = .int .i64 (k : Int) /\ v = s6 /\ wr.ownsRow W.heap.size 107 4 v (fZ (ts.take k)).length ((fZ (ts.take k)).flatMap aL) /\ Bw W wr) (fun _ x _=>n - (intOf x).toNat);case atStart=>exact ⟨0,_,Nat.zero_le _,rfl,rfl,World.ownsRow_nil _ _ _ _,Below.refl _ _⟩
 case round=>
  clear r0 aj r1 ak;obtain ⟨k,v,hk,rfl,rfl,ho,pb⟩:=hrel;by_cases hlt : k < n
  . have hk2 : k < ts.length:=by rw [Hn.out];exact hlt
    obtain ⟨l,s,m,e,hx⟩ : ∃ l s m e,ts[k] = (l,s,m,e):=⟨_,_,_,_,rfl⟩;obtain ⟨b,o,rfl,cn⟩:=(Ha.out.below (aI Hb.out pb)).term k hk2 hx;have bD:=iG n cap k (k : Int) (rfl : (some ⟨b,o,none⟩ : Option Addr) = _) hlt rfl;obtain ⟨av,cv,rfl,sJ,_⟩:=dG ho;have AY:=tT ho;have hnx : fZ (ts.take (k + 1)) = fL (fZ (ts.take k)) (l,s,m,e):=by rw [List.take_succ_eq_append_getElem hk2,ye,hx]
    have hp1 : (fZ (ts.take k)).length <= 65536:=by have:=qK.out k;rw [List.length_take] at this;omega
    have dm : gp (s,m,e):=by have:=Hf.out _ (List.getElem_mem hk2);rw [hx] at this;exact this
    have hput:=fun (W' : World) (hW : Bw wr W')=>aiH av _ cv (fZ (ts.take k)) l s m e W' rfl hp1 AY (sJ.below hW) (oU.out k) dm;rw [<- hnx] at hput;obtain ⟨np,KG⟩ : ∃ np,(fZ (ts.take k)).length = np:=⟨_,rfl⟩;rw [KG] at hput;rw [KG];have Zo:=ah hput;have aQ:=ah pb;have Ht : Hid (bo wr b (o + k * 4) [.string (bs l),.bool s,.string (bs m),.int .i64 e]):=cn;have gV:=pb.size;clear hput pb KG hnx hp1 dm AY sJ ho cn hx;have bV : Hid (Bw wr wr):=Below.refl _ _;obtain ⟨t0,t1,t2,t3⟩:=Ht.out.w4;go_wp2_with fail;refine (Zo.out _ (Below.refl _ _)).mono ?_;rintro ex w2 ⟨v2,rfl,dO,hb2⟩;have qJ:=ah (ny dO gV);have fU:=ah (aI aQ.out hb2);clear dO hb2;go_wp2;go_roundw;case rel=>exact ⟨k + 1,v2,by omega,by go_num,rfl,qJ.out,fU.out⟩
    case measure=>simp [intOf];omega
  . obtain rfl : k = n:=by omega
    have htk : ts.take k = ts:=List.take_of_length_le (by rw [Hn.out];exact Nat.le_refl _);have iu:=oU.out k;have hpl:=qK.out k;rw [htk] at ho iu hpl;obtain ⟨L,hL⟩ : ∃ L,fZ ts = L:=⟨_,rfl⟩;have mf:=Yr.out;rw [hL] at ho iu hpl mf;have hLn : L.length <= 4096:=by rw [Hn.out] at hpl;omega
    obtain ⟨N,hN⟩ : ∃ N,L.length = N:=⟨_,rfl⟩;rw [hN] at ho hLn;obtain ⟨av,cv,rfl,sJ,_⟩:=dG ho;obtain ⟨wg,TZ⟩ : ∃ wg,wg = wr:=⟨_,rfl⟩;subst TZ;have XM:=ah sJ;have aQ:=ah pb;have Zm:=ah iu;have HN:=ah hN;have Yt:=ah mf;have szg:=pb.size;clear sJ ho pb iu hpl mf hN hL htk;go_wp2_with fail;go_loopw [8,9] (fun s8 x wr=>∃ (j : Nat) (v : Value),j <= N /\ x = .int .i64 (j : Int) /\ v = s8 /\ wr.ownsRow wg.heap.size 107 4 v ((L.take j).filter fT).length (((L.take j).filter fT).flatMap aL) /\ Bw wg wr) (fun _ x _=>N - (intOf x).toNat);case atStart=>exact ⟨0,_,Nat.zero_le _,rfl,rfl,World.ownsRow_nil _ _ _ _,Below.refl _ _⟩
    case round=>
     obtain ⟨j,v,hj,rfl,rfl,ho,qb⟩:=hrel;by_cases bi : j < N
     . have js : j < L.length:=by rw [HN.out];exact bi
       obtain ⟨l,s,m,e,hx⟩ : ∃ l s m e,L[j] = (l,s,m,e):=⟨_,_,_,_,rfl⟩;obtain ⟨b,o,rfl,cn⟩:=(XM.out.below qb).term j js hx;have bD:=iG N cv j (j : Int) (rfl : (some ⟨b,o,none⟩ : Option Addr) = _) bi rfl;have hft:=adw L j js;obtain ⟨g,hg⟩ : ∃ g,bR (aB (s,m,e)) = g:=⟨_,rfl⟩;have dm : gp (s,m,e):=by have:=Zm.out _ (List.getElem_mem js);rw [hx] at this;exact this
       have gK:=fun W=>Fs s m e g hg W (by have:=dm.1;simp only at this;omega);have hnz : fT L[j] = !(g == 0):=by rw [hx];unfold fT;rw [show aB ((l,s,m,e) : aJ).2 = aB (s,m,e) from rfl,hg]
       rw [hnz,hx] at hft;have hfl : ((L.take j).filter fT).length <= N:=by have:=List.length_filter_le fT (L.take j);rw [List.length_take] at this;omega
       have Ht : Hid (bo wr b (o + j * 4) [.string (bs l),.bool s,.string (bs m),.int .i64 e]):=cn;have jJ:=ah gK;have ia:=ah qb;have cB:=ah ho;have gV:=qb.size;obtain ⟨F,hF⟩ : ∃ F,(L.take j).filter fT = F:=⟨_,rfl⟩;rw [hF] at cB hft hfl;have CF:=ah hft;clear gK qb ho cn hx hg dm hnz hft hF;have Hb : Hid (Bw wr wr):=Below.refl _ _;obtain ⟨t0,t1,t2,t3⟩:=Ht.out.w4;go_wp2_with fail;refine (jJ.out _).mono ?_;rintro e w3 ⟨rfl,ae⟩;clear t0 t1 t2 t3;replace Ht:=kW Ht ae;obtain ⟨t0,t1,t2,t3⟩:=Ht.out.w4;replace Hb:=au Hb ae;clear ae;by_cases hg0 : g = 0
       . subst hg0;have hz : (((0 : Int)) != 0) = false:=by decide
         have hft:=CF.out;simp only [beq_self_eq_true,Bool.not_true,Bool.false_eq_true,if_false,List.append_nil] at hft;have Gv:=ah hft;clear hft CF;have Zw:=ah (aI ia.out Hb.out);have YY:=ah (ownsRow_below cB.out Hb.out);go_wp2;go_roundw;case rel=>exact ⟨j + 1,v,by omega,by go_num,rfl,by rw [Gv.out];exact YY.out,Zw.out⟩
         case measure=>simp [intOf];omega
       . have hz : (g != 0) = true:=by simpa using hg0
         have hz2 : (g == 0) = false:=by simpa using hg0
         have hft:=CF.out;rw [hz2] at hft;simp only [Bool.not_false,if_true] at hft;have Gv:=ah hft;clear hft CF;go_upto_region 11 with fail
         have P0:=t0;have P1:=t1;have P2:=t2;have P3:=t3;obtain ⟨W5,kD⟩ : ∃ W5,(w3.alloc (.cells #[.string (bs l),.bool s,.string (bs m),.int .i64 e] 107)) = W5:=⟨_,rfl⟩;have ae : Bw w3 W5:=by rw [<- kD];exact zl
         clear t0 t1 t2 t3;replace Ht:=kW Ht ae;have Hc : Hid (ai W5 (w3.heap.size) 107 [.string (bs l),.bool s,.string (bs m),.int .i64 e]):=by rw [<- kD];exact ai.newAt _ _ _ zm
         obtain ⟨t0,t1,t2,t3⟩:=Ht.out.w4;obtain ⟨c0,c1,c2,c3⟩:=Hc.out.c4;replace Hb:=au Hb ae;clear ae;have vA:=ownsRow_below cB.out Hb.out;have hs5:=Hb.out.size;go_wp2_with (at_builtin;refine wpList_append_own_at _ rfl _ _ 55 rfl wg.heap.size 107 i0 _ 4 48 Tryz.underlying55 Hi.out cM.out cN.out cH.out rfl zd v F.length (F.flatMap aL) rfl vA ⟨w3.heap.size,0,none⟩ 1 1 [.string (bs l),.bool s,.string (bs m),.int .i64 e] rfl rfl (gv Hc.out) zy zx zo zo ?_;intro v' w7 dX fq _ fR);have ir:=(aI ia.out Hb.out).grown fq zo (fun j e=>cP vA j e);have e7 : F.flatMap aL ++ [.string (bs l),.bool s,.string (bs m),.int .i64 e] = (F ++ [(l,s,m,e)]).flatMap aL:=by rw [List.flatMap_append];rfl
         rw [e7] at dX;have za:=ah dX;have yH:=ah ir;clear dX ir e7 fR fq vA P0 P1 P2 P3 t0 t1 t2 t3 c0 c1 c2 c3;go_wp2;go_roundw;case rel=>exact ⟨j + 1,v',by omega,by go_num,rfl,by rw [Gv.out,List.length_append];exact za.out,yH.out⟩
         case measure=>simp [intOf];omega
     . obtain rfl : j = N:=by omega
       have htk : L.take j = L:=List.take_of_length_le (by rw [HN.out];exact Nat.le_refl _);rw [htk,Yt.out] at ho;obtain ⟨a2,c2,rfl,_,_⟩:=dG ho;have Ho:=ah ho;have Zj:=ah (aI (aI Hb.out aQ.out) qb);have iE:=aQ.out.size;have OG:=ah (Hr.out.below (aI aQ.out qb));have h4 : ¬ (4096 : Int) < (C.length : Int):=by omega
       have h4d : decide ((4096 : Int) < (C.length : Int)) = false:=by simp;omega
       clear ho htk qb;have Hr:=OG;obtain ⟨r0,aj,r1,ak⟩:=Hr.out.g2;go_wp2;refine wT (OG.out) Ho.out Zj.out zo ?_;intro w9 mh gj jQ;obtain ⟨p0,p1⟩:=mh.c2;exact bodyPost_ret (v:=.tuple #[.agg #[.int .i64 (V : Int),.slice a2 C.length c2],.int .i64 0]) (by simp [results,Tryz.results81,go_sem,p0,p1]) rfl ⟨_,_,rfl,Bt gj,jQ⟩
end Go.Proofs.YtdaadlblknpipaaGreatDoor
