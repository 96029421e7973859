/- Package simp: To,where it answers an error. -/
import Derived.Test.YtidjljldhdckiaaGreatDoorZ19
import Derived.Test.YtidjljldhdckiaaGreatDoorZ12
import Derived.Test.YtidjljldhdckiaaGreatDoorZ16
import Derived.Test.YtidjljldhdckiaaGreatDoorZ22
import Derived.Test.YtidjljldhdckiaaGreatDoorZ15
import Derived.Test.YtidjljldhdckiaaGreatDoorZ18
set_option maxRecDepth 100000
set_option maxHeartbeats 16000000
namespace Go.Proofs.YtidjljldhdckiaaGreatDoor
open Go.RowKit
attribute [local go_sem ↓] Go.wp_at_zero Go.wp_at_succ
theorem pchk_ok {V : Int} {ts : List Trm} (h : pchk V ts = 0) : 0 <= V /\ V <= 12 /\ ts.length <= 4096 /\ ∀ t ∈ ts,(t.1.length : Int) = V /\ ∀ c ∈ t.1,c.toNat <= 127:=by
 unfold pchk at h
 by_cases h1 : 0 <= V /\ V <= 12
 . rw [if_neg (fun h=>h h1)] at h
   by_cases h2 : 4096 < ts.length
   . rw [if_pos h2] at h;cases h
   . rw [if_neg h2] at h
     by_cases h3 : (List.range ts.length).all (goodAt V ts) = true
     . refine ⟨h1.1,h1.2,by omega,fun t ht=>?_⟩
       obtain ⟨k,hk,rfl⟩:=List.mem_iff_getElem.1 ht
       rw [List.all_eq_true] at h3
       have h4:=h3 k (List.mem_range.2 hk)
       have e : ts.getD k default = ts[k]:=by simp [List.getD_eq_getElem?_getD,hk]
       unfold goodAt goodT at h4
       rw [e] at h4
       simp only [Bool.and_eq_true] at h4
       have h5:=h4.1.1.1
       unfold mayM at h5
       rw [Bool.and_eq_true,List.all_eq_true] at h5
       exact ⟨of_decide_eq_true h5.2,fun c hc=>of_decide_eq_true (h5.1 c hc)⟩
     . rw [if_neg h3] at h;cases h
 . rw [if_pos h1] at h;cases h
theorem tchk_cases (rows : List (List Raw)) : tchk rows = 0 \/ tchk rows = 1 \/ tchk rows = 5:=by
 unfold tchk
 split
 . exact .inr (.inl rfl)
 . split
   . exact .inr (.inr rfl)
   . exact .inl rfl
noncomputable def toE (PV : Int) (ts : List Trm) (rows : List (List Raw)) (d : Int) : Int:=
 if tchk rows = 1 \/ pchk PV ts ≠ 0 \/ PV ≠ (rows.length : Int) - 1 \/ d < (totN ts : Int) then 1 else tchk rows
theorem to_err (PV : Int) (aP : Option Addr) (nT capP : Nat) (ts : List Trm) (a : Option Addr) (L cap : Nat) (rows : List (List Raw)) (B : Nat) (d : Int) (w : World) (hnT : ts.length = nT) (hn : nT <= 1048576) (haP : At w aP (ts.flatMap termC)) (hts : ∀ t ∈ ts,t.1.length <= 9223372036854775807 /\ Ok t.2)
 (hL : rows.length = L) (hL4 : L <= 4) (hcap : L <= cap) (ha : Tbl w a rows) (hfit : ∀ r ∈ rows,∀ c ∈ r,Fit B c) (hB : B <= 900000) (hT : Tab w) (hd : d <= 5) (c : Int) (hc : toE PV ts rows d = c) (hc0 : c ≠ 0) :
 Calls Tryz.prog 13 #[.agg #[.int .i64 PV,.slice aP nT capP],.slice a L cap,.int .i64 d] w fun e w'=>e = .returned (.tuple #[.agg #[.int .i64 0,.int .i64 0,.slice none 0 0],.int .i64 c]) /\ Below w.heap.size w w':=by
 have htc:=fun W=>fun (h : Tbl W a rows) (hT : Tab W)=>tcheck_any a L cap rows B W hL (by omega) hcap h hfit hB hT
 have hpc:=fun W=>fun (h : At W aP (ts.flatMap termC)) (hT : Tab W)=>pcheck_any PV aP capP nT ts W hnT hn h hts hT
 have htt:=fun (h0 : pchk PV ts = 0) W=>fun (h : At W aP (ts.flatMap termC))=>total_any PV aP capP nT ts W hnT hn h (fun t ht=>by
  obtain ⟨q1,q2,q3,q4⟩:=pchk_ok h0
  obtain ⟨q5,q6⟩:=q4 t ht
  exact ⟨by omega,q6⟩)
 obtain ⟨tc,htcv⟩ : ∃ tc,tchk rows = tc:=⟨_,rfl⟩
 obtain ⟨pc,hpcv⟩ : ∃ pc,pchk PV ts = pc:=⟨_,rfl⟩
 obtain ⟨tt,httv⟩ : ∃ tt : Int,(totN ts : Int) = tt:=⟨_,rfl⟩
 have hcs:=tchk_cases rows
 unfold toE at hc
 rw [htcv,hpcv,httv,hL] at hc
 rw [htcv] at htc hcs
 rw [hpcv] at hpc htt
 rw [httv] at htt
 have Htc:=lid htc;have Hpc:=lid hpc;have Htt:=lid htt;have HaP:=lid haP;have Ha:=lid ha;have HT:=lid hT
 clear htc hpc htt haP ha hT htcv hpcv httv hfit hts hnT hL
 have hwL : IntKind.i64.wrap ((L : Int) - 1) = (L : Int) - 1:=by rw [IntKind.wrap_i64];omega
 obtain ⟨L1,hL1⟩ : ∃ L1 : Int,(L : Int) - 1 = L1:=⟨_,rfl⟩
 rw [hL1] at hc
 have hwL1 : IntKind.i64.wrap ((L : Int) - 1) = L1:=by rw [hwL,hL1]
 clear hwL hL1
 obtain ⟨W,hW_W⟩ : ∃ W,((w.alloc (.cells #[.int .i64 PV,.slice aP nT capP] 43)).alloc (.cells #[.int .i64 0,.int .i64 0,.slice none 0 0] 24)) = W:=⟨_,rfl⟩
 have Hb : Hid (Below w.heap.size w W):=by rw [<- hW_W];exact (((Below.refl _ _).alloc (Nat.le_refl _) _).alloc (by simp<;>omega) _)
 have Hp : Hid (Blk W (w.heap.size) 43 [.int .i64 PV,.slice aP nT capP]):=by rw [<- hW_W];exact (Blk.newAt _ _ _ (by simp)).alloc _
 have Hr : Hid (Blk W (w.heap.size + 1) 24 [.int .i64 0,.int .i64 0,.slice none 0 0]):=by rw [<- hW_W];exact Blk.newAt _ _ _ (by simp)
 obtain ⟨p0,p1⟩:=Hp.out.c2
 obtain ⟨r0,fr0,r1,fr1,r2,fr2⟩:=Hr.out.g3
 have HFP : Hid (At W aP (ts.flatMap termC)):=HaP.out.below Hb.out
 have HFA : Hid (Tbl W a rows):=Ha.out.below Hb.out
 have HFU : Hid (Tab W):=HT.out.below Hb.out
 by_cases h1 : tc = 1
 . rw [if_pos (.inl h1)] at hc
   subst hc h1
   go_enter Tryz.func13,Tryz.ntmps13
   go_wp2_with fail
   refine (Htc.out _ HFA.out HFU.out).mono ?_
   rintro e w1 ⟨rfl,hbn⟩
   clear p0 p1
   clear r0 fr0 r1 fr1 r2 fr2
   replace Hp:=kB Hp hbn
   replace Hr:=kB Hr hbn
   replace HFP:=kA HFP hbn
   replace HFA:=kL HFA hbn
   replace HFU:=kT HFU hbn
   obtain ⟨p0,p1⟩:=Hp.out.c2
   obtain ⟨r0,fr0,r1,fr1,r2,fr2⟩:=Hr.out.g3
   replace Hb:=bnx Hb hbn;clear hbn
   go_wp2
   clear p0 p1
   clear r0 fr0 r1 fr1 r2 fr2
   refine body_world (fun w9=>Blk w9 (w.heap.size) 43 [.int .i64 PV,.slice aP nT capP] /\ Blk w9 (w.heap.size + 1) 24 [.int .i64 0,.int .i64 0,.slice none 0 0] /\ Below w.heap.size w w9) ⟨(((Hp.out.so (w.heap.size + 1) 0 (by omega) _).so (w.heap.size + 1) 1 (by omega) _).so (w.heap.size + 1) 2 (by omega) _),(((Hr.out.set 0 _).set 1 _).set 2 _),(((Hb.out.sc (w.heap.size + 1) 0 (by have:=Hb.out.size;omega) _).sc (w.heap.size + 1) 1 (by have:=Hb.out.size;omega) _).sc (w.heap.size + 1) 2 (by have:=Hb.out.size;omega) _)⟩ ?_
   rintro w9 ⟨qp,qr,hbn⟩
   replace Hp:=lid qp;clear qp
   replace Hr:=lid qr;clear qr
   obtain ⟨p0,p1⟩:=Hp.out.c2
   obtain ⟨r0,fr0,r1,fr1,r2,fr2⟩:=Hr.out.g3
   replace Hb:=lid hbn;clear hbn
   refine bodyPost_ret (v:=.tuple #[.agg #[.int .i64 0,.int .i64 0,.slice none 0 0],.int .i64 1]) (by simp [results,Tryz.results13,go_sem,r0,r1,r2]) rfl ⟨rfl,Hb.out⟩
 . have h1b : (tc == 1) = false:=by simpa using h1
   by_cases h2 : pc = 0
   . by_cases h3 : PV = L1
     . by_cases h4 : d < tt
       . rw [if_pos (.inr (.inr (.inr h4)))] at hc
         subst hc
         have htt2:=Htt.out h2
         have Htt2:=lid htt2
         clear htt2 Htt
         subst h2 h3
         go_enter Tryz.func13,Tryz.ntmps13
         go_wp2_with fail
         refine (Htc.out _ HFA.out HFU.out).mono ?_
         rintro e w1 ⟨rfl,hbn⟩
         clear p0 p1
         clear r0 fr0 r1 fr1 r2 fr2
         replace Hp:=kB Hp hbn
         replace Hr:=kB Hr hbn
         replace HFP:=kA HFP hbn
         replace HFA:=kL HFA hbn
         replace HFU:=kT HFU hbn
         obtain ⟨p0,p1⟩:=Hp.out.c2
         obtain ⟨r0,fr0,r1,fr1,r2,fr2⟩:=Hr.out.g3
         replace Hb:=bnx Hb hbn;clear hbn
         go_wp2_with fail
         refine (Hpc.out _ HFP.out HFU.out).mono ?_
         rintro e w2 ⟨rfl,hbn⟩
         clear p0 p1
         clear r0 fr0 r1 fr1 r2 fr2
         replace Hp:=kB Hp hbn
         replace Hr:=kB Hr hbn
         replace HFP:=kA HFP hbn
         replace HFA:=kL HFA hbn
         replace HFU:=kT HFU hbn
         obtain ⟨p0,p1⟩:=Hp.out.c2
         obtain ⟨r0,fr0,r1,fr1,r2,fr2⟩:=Hr.out.g3
         replace Hb:=bnx Hb hbn;clear hbn
         go_wp2_with fail
         refine (Htt2.out _ HFP.out).mono ?_
         rintro e w3 ⟨rfl,hbn⟩
         clear p0 p1
         clear r0 fr0 r1 fr1 r2 fr2
         replace Hp:=kB Hp hbn
         replace Hr:=kB Hr hbn
         replace HFP:=kA HFP hbn
         replace HFA:=kL HFA hbn
         replace HFU:=kT HFU hbn
         obtain ⟨p0,p1⟩:=Hp.out.c2
         obtain ⟨r0,fr0,r1,fr1,r2,fr2⟩:=Hr.out.g3
         replace Hb:=bnx Hb hbn;clear hbn
         go_wp2
         clear p0 p1
         clear r0 fr0 r1 fr1 r2 fr2
         refine body_world (fun w9=>Blk w9 (w.heap.size) 43 [.int .i64 PV,.slice aP nT capP] /\ Blk w9 (w.heap.size + 1) 24 [.int .i64 0,.int .i64 0,.slice none 0 0] /\ Below w.heap.size w w9) ⟨(((Hp.out.so (w.heap.size + 1) 0 (by omega) _).so (w.heap.size + 1) 1 (by omega) _).so (w.heap.size + 1) 2 (by omega) _),(((Hr.out.set 0 _).set 1 _).set 2 _),(((Hb.out.sc (w.heap.size + 1) 0 (by have:=Hb.out.size;omega) _).sc (w.heap.size + 1) 1 (by have:=Hb.out.size;omega) _).sc (w.heap.size + 1) 2 (by have:=Hb.out.size;omega) _)⟩ ?_
         rintro w9 ⟨qp,qr,hbn⟩
         replace Hp:=lid qp;clear qp
         replace Hr:=lid qr;clear qr
         obtain ⟨p0,p1⟩:=Hp.out.c2
         obtain ⟨r0,fr0,r1,fr1,r2,fr2⟩:=Hr.out.g3
         replace Hb:=lid hbn;clear hbn
         refine bodyPost_ret (v:=.tuple #[.agg #[.int .i64 0,.int .i64 0,.slice none 0 0],.int .i64 1]) (by simp [results,Tryz.results13,go_sem,r0,r1,r2]) rfl ⟨rfl,Hb.out⟩
       . have hc5 : tc = 5:=by
          rw [if_neg (by rintro (h | h | h | h);exact h1 h;exact h h2;exact h h3;exact h4 h)] at hc
          omega
         have hcc : c = 5:=by
          rw [if_neg (by rintro (h | h | h | h);exact h1 h;exact h h2;exact h h3;exact h4 h)] at hc
          omega
         have hd20 : ¬ 20 < d:=by omega
         clear hc hcs
         have htt2:=Htt.out h2
         have Htt2:=lid htt2
         clear htt2 Htt
         subst hc5 hcc h2 h3
         go_enter Tryz.func13,Tryz.ntmps13
         go_wp2_with fail
         refine (Htc.out _ HFA.out HFU.out).mono ?_
         rintro e w1 ⟨rfl,hbn⟩
         clear p0 p1
         clear r0 fr0 r1 fr1 r2 fr2
         replace Hp:=kB Hp hbn
         replace Hr:=kB Hr hbn
         replace HFP:=kA HFP hbn
         replace HFA:=kL HFA hbn
         replace HFU:=kT HFU hbn
         obtain ⟨p0,p1⟩:=Hp.out.c2
         obtain ⟨r0,fr0,r1,fr1,r2,fr2⟩:=Hr.out.g3
         replace Hb:=bnx Hb hbn;clear hbn
         go_wp2_with fail
         refine (Hpc.out _ HFP.out HFU.out).mono ?_
         rintro e w2 ⟨rfl,hbn⟩
         clear p0 p1
         clear r0 fr0 r1 fr1 r2 fr2
         replace Hp:=kB Hp hbn
         replace Hr:=kB Hr hbn
         replace HFP:=kA HFP hbn
         replace HFA:=kL HFA hbn
         replace HFU:=kT HFU hbn
         obtain ⟨p0,p1⟩:=Hp.out.c2
         obtain ⟨r0,fr0,r1,fr1,r2,fr2⟩:=Hr.out.g3
         replace Hb:=bnx Hb hbn;clear hbn
         go_wp2_with fail
         refine (Htt2.out _ HFP.out).mono ?_
         rintro e w3 ⟨rfl,hbn⟩
         clear p0 p1
         clear r0 fr0 r1 fr1 r2 fr2
         replace Hp:=kB Hp hbn
         replace Hr:=kB Hr hbn
         replace HFP:=kA HFP hbn
         replace HFA:=kL HFA hbn
         replace HFU:=kT HFU hbn
         obtain ⟨p0,p1⟩:=Hp.out.c2
         obtain ⟨r0,fr0,r1,fr1,r2,fr2⟩:=Hr.out.g3
         replace Hb:=bnx Hb hbn;clear hbn
         go_wp2
         clear p0 p1
         clear r0 fr0 r1 fr1 r2 fr2
         refine body_world (fun w9=>Blk w9 (w.heap.size) 43 [.int .i64 PV,.slice aP nT capP] /\ Blk w9 (w.heap.size + 1) 24 [.int .i64 0,.int .i64 0,.slice none 0 0] /\ Below w.heap.size w w9) ⟨(((Hp.out.so (w.heap.size + 1) 0 (by omega) _).so (w.heap.size + 1) 1 (by omega) _).so (w.heap.size + 1) 2 (by omega) _),(((Hr.out.set 0 _).set 1 _).set 2 _),(((Hb.out.sc (w.heap.size + 1) 0 (by have:=Hb.out.size;omega) _).sc (w.heap.size + 1) 1 (by have:=Hb.out.size;omega) _).sc (w.heap.size + 1) 2 (by have:=Hb.out.size;omega) _)⟩ ?_
         rintro w9 ⟨qp,qr,hbn⟩
         replace Hp:=lid qp;clear qp
         replace Hr:=lid qr;clear qr
         obtain ⟨p0,p1⟩:=Hp.out.c2
         obtain ⟨r0,fr0,r1,fr1,r2,fr2⟩:=Hr.out.g3
         replace Hb:=lid hbn;clear hbn
         refine bodyPost_ret (v:=.tuple #[.agg #[.int .i64 0,.int .i64 0,.slice none 0 0],.int .i64 5]) (by simp [results,Tryz.results13,go_sem,r0,r1,r2]) rfl ⟨rfl,Hb.out⟩
     . rw [if_pos (.inr (.inr (.inl h3)))] at hc
       have h3b : (PV == L1) = false:=by simpa using h3
       subst hc h2
       go_enter Tryz.func13,Tryz.ntmps13
       go_wp2_with fail
       refine (Htc.out _ HFA.out HFU.out).mono ?_
       rintro e w1 ⟨rfl,hbn⟩
       clear p0 p1
       clear r0 fr0 r1 fr1 r2 fr2
       replace Hp:=kB Hp hbn
       replace Hr:=kB Hr hbn
       replace HFP:=kA HFP hbn
       replace HFA:=kL HFA hbn
       replace HFU:=kT HFU hbn
       obtain ⟨p0,p1⟩:=Hp.out.c2
       obtain ⟨r0,fr0,r1,fr1,r2,fr2⟩:=Hr.out.g3
       replace Hb:=bnx Hb hbn;clear hbn
       go_wp2_with fail
       refine (Hpc.out _ HFP.out HFU.out).mono ?_
       rintro e w2 ⟨rfl,hbn⟩
       clear p0 p1
       clear r0 fr0 r1 fr1 r2 fr2
       replace Hp:=kB Hp hbn
       replace Hr:=kB Hr hbn
       replace HFP:=kA HFP hbn
       replace HFA:=kL HFA hbn
       replace HFU:=kT HFU hbn
       obtain ⟨p0,p1⟩:=Hp.out.c2
       obtain ⟨r0,fr0,r1,fr1,r2,fr2⟩:=Hr.out.g3
       replace Hb:=bnx Hb hbn;clear hbn
       go_wp2
       clear p0 p1
       clear r0 fr0 r1 fr1 r2 fr2
       refine body_world (fun w9=>Blk w9 (w.heap.size) 43 [.int .i64 PV,.slice aP nT capP] /\ Blk w9 (w.heap.size + 1) 24 [.int .i64 0,.int .i64 0,.slice none 0 0] /\ Below w.heap.size w w9) ⟨(((Hp.out.so (w.heap.size + 1) 0 (by omega) _).so (w.heap.size + 1) 1 (by omega) _).so (w.heap.size + 1) 2 (by omega) _),(((Hr.out.set 0 _).set 1 _).set 2 _),(((Hb.out.sc (w.heap.size + 1) 0 (by have:=Hb.out.size;omega) _).sc (w.heap.size + 1) 1 (by have:=Hb.out.size;omega) _).sc (w.heap.size + 1) 2 (by have:=Hb.out.size;omega) _)⟩ ?_
       rintro w9 ⟨qp,qr,hbn⟩
       replace Hp:=lid qp;clear qp
       replace Hr:=lid qr;clear qr
       obtain ⟨p0,p1⟩:=Hp.out.c2
       obtain ⟨r0,fr0,r1,fr1,r2,fr2⟩:=Hr.out.g3
       replace Hb:=lid hbn;clear hbn
       refine bodyPost_ret (v:=.tuple #[.agg #[.int .i64 0,.int .i64 0,.slice none 0 0],.int .i64 1]) (by simp [results,Tryz.results13,go_sem,r0,r1,r2]) rfl ⟨rfl,Hb.out⟩
   . rw [if_pos (.inr (.inl h2))] at hc
     have h2b : (pc == 0) = false:=by simpa using h2
     subst hc
     go_enter Tryz.func13,Tryz.ntmps13
     go_wp2_with fail
     refine (Htc.out _ HFA.out HFU.out).mono ?_
     rintro e w1 ⟨rfl,hbn⟩
     clear p0 p1
     clear r0 fr0 r1 fr1 r2 fr2
     replace Hp:=kB Hp hbn
     replace Hr:=kB Hr hbn
     replace HFP:=kA HFP hbn
     replace HFA:=kL HFA hbn
     replace HFU:=kT HFU hbn
     obtain ⟨p0,p1⟩:=Hp.out.c2
     obtain ⟨r0,fr0,r1,fr1,r2,fr2⟩:=Hr.out.g3
     replace Hb:=bnx Hb hbn;clear hbn
     go_wp2_with fail
     refine (Hpc.out _ HFP.out HFU.out).mono ?_
     rintro e w2 ⟨rfl,hbn⟩
     clear p0 p1
     clear r0 fr0 r1 fr1 r2 fr2
     replace Hp:=kB Hp hbn
     replace Hr:=kB Hr hbn
     replace HFP:=kA HFP hbn
     replace HFA:=kL HFA hbn
     replace HFU:=kT HFU hbn
     obtain ⟨p0,p1⟩:=Hp.out.c2
     obtain ⟨r0,fr0,r1,fr1,r2,fr2⟩:=Hr.out.g3
     replace Hb:=bnx Hb hbn;clear hbn
     go_wp2
     clear p0 p1
     clear r0 fr0 r1 fr1 r2 fr2
     refine body_world (fun w9=>Blk w9 (w.heap.size) 43 [.int .i64 PV,.slice aP nT capP] /\ Blk w9 (w.heap.size + 1) 24 [.int .i64 0,.int .i64 0,.slice none 0 0] /\ Below w.heap.size w w9) ⟨(((Hp.out.so (w.heap.size + 1) 0 (by omega) _).so (w.heap.size + 1) 1 (by omega) _).so (w.heap.size + 1) 2 (by omega) _),(((Hr.out.set 0 _).set 1 _).set 2 _),(((Hb.out.sc (w.heap.size + 1) 0 (by have:=Hb.out.size;omega) _).sc (w.heap.size + 1) 1 (by have:=Hb.out.size;omega) _).sc (w.heap.size + 1) 2 (by have:=Hb.out.size;omega) _)⟩ ?_
     rintro w9 ⟨qp,qr,hbn⟩
     replace Hp:=lid qp;clear qp
     replace Hr:=lid qr;clear qr
     obtain ⟨p0,p1⟩:=Hp.out.c2
     obtain ⟨r0,fr0,r1,fr1,r2,fr2⟩:=Hr.out.g3
     replace Hb:=lid hbn;clear hbn
     refine bodyPost_ret (v:=.tuple #[.agg #[.int .i64 0,.int .i64 0,.slice none 0 0],.int .i64 1]) (by simp [results,Tryz.results13,go_sem,r0,r1,r2]) rfl ⟨rfl,Hb.out⟩
def zipP (xs ys : List Dyadic) (i : Nat) : List Dyadic:=(List.zipWith (· + ·) xs ys).take i ++ xs.drop i
theorem zipP_zero (xs ys : List Dyadic) : zipP xs ys 0 = xs:=by simp [zipP]
theorem zipP_all (xs ys : List Dyadic) (N : Nat) (hx : xs.length = N) (hy : ys.length = N) : zipP xs ys N = List.zipWith (· + ·) xs ys:=by
 unfold zipP
 rw [List.drop_eq_nil_of_le (by omega),List.append_nil,List.take_of_length_le (by rw [List.length_zipWith];omega)]
theorem zipP_len (xs ys : List Dyadic) (N i : Nat) (hx : xs.length = N) (hy : ys.length = N) (hi : i <= N) : (zipP xs ys i).length = N:=by
 unfold zipP
 rw [List.length_append,List.length_take,List.length_zipWith,List.length_drop];omega
theorem zipP_at (xs ys : List Dyadic) (N i : Nat) (hx : xs.length = N) (hy : ys.length = N) (hi : i < N) : (zipP xs ys i)[i]? = some (xs.getD i 0) /\ zipP xs ys (i + 1) = (zipP xs ys i).set i (xs.getD i 0 + ys.getD i 0):=by
 have h1 : xs.getD i 0 = xs[i]'(by omega):=by simp [List.getD_eq_getElem?_getD,show i < xs.length by omega]
 have h2 : ys.getD i 0 = ys[i]'(by omega):=by simp [List.getD_eq_getElem?_getD,show i < ys.length by omega]
 have hl : ((List.zipWith (· + ·) xs ys).take i).length = i:=by rw [List.length_take,List.length_zipWith];omega
 have e2 : (List.zipWith (· + ·) xs ys).take (i + 1) = (List.zipWith (· + ·) xs ys).take i ++ [xs.getD i 0 + ys.getD i 0]:=by
  rw [List.take_succ_eq_append_getElem (by rw [List.length_zipWith];omega),List.getElem_zipWith,h1,h2]
 have e3 : xs.drop i = xs.getD i 0 :: xs.drop (i + 1):=by rw [List.drop_eq_getElem_cons (by omega),h1]
 unfold zipP
 constructor
 . rw [e3,List.getElem?_append_right (by omega),hl];simp
 . rw [e2,e3,List.set_append_right _ _ (by omega),hl]
   simp
theorem zipP_sm {C i : Nat} {xs ys : List Dyadic} (h : ∀ x ∈ xs,Sm C x) (h' : ∀ x ∈ ys,Sm C x) : ∀ x ∈ zipP xs ys i,Sm (C + 1) x:=by
 intro x hx
 unfold zipP at hx
 rw [List.mem_append] at hx
 rcases hx with hx | hx
 . exact zip_sm h h' x (List.mem_of_mem_take hx)
 . exact (h x (List.mem_of_mem_drop hx)).mono (by omega)
def trmD (ts : List Trm) : List (Dyadic × List Nat):=ts.map fun t=>(dval t.2,t.1.map UInt8.toNat)
theorem formP_take (V D : Nat) (S : List (List Dyadic)) (ts : List Trm) (k : Nat) (hk : k < ts.length) :
 formP V D S (trmD (ts.take (k + 1))) = List.zipWith (· + ·) (formP V D S (trmD (ts.take k))) (formT V D S (dval ts[k].2) (ts[k].1.map UInt8.toNat)):=by
 unfold formP trmD
 rw [List.take_succ_eq_append_getElem hk,List.map_append,List.foldl_append];rfl
theorem degN_sum (l : List UInt8) : degN l = (l.map UInt8.toNat).sum:=rfl
theorem degN_le_tot (ts : List Trm) : ∀ t ∈ ts,degN t.1 <= totN ts:=by
 unfold totN
 have key : ∀ (ts : List Trm) (n : Nat),n <= ts.foldl (fun n t=>max n (degN t.1)) n /\ ∀ t ∈ ts,degN t.1 <= ts.foldl (fun n t=>max n (degN t.1)) n:=by
  intro ts
  induction ts with
  | nil=>intro n;exact ⟨Nat.le_refl _,fun t h=>by cases h⟩
  | cons x ts ih =>
    intro n
    obtain ⟨h1,h2⟩:=ih (max n (degN x.1))
    rw [List.foldl_cons]
    refine ⟨by omega,fun t ht=>?_⟩
    rcases List.mem_cons.1 ht with rfl | ht
    . omega
    . exact h2 t ht
 exact (key ts 0).2
theorem formP_parts (V D B N : Nat) (S : List (List Dyadic)) (ts : List Trm) (hN : cnt V D = N) (hV2 : V <= 8) (hD : D <= 20) (hcnt : ∀ d,d <= D -> cnt V d <= 512) (hS : ∀ r ∈ S,∀ d ∈ r,Sm B d) (hB1 : 1 <= B) (ht : ∀ t ∈ ts,Sm B (dval t.2) /\ (t.1.map UInt8.toNat).sum <= D) (k : Nat) (hk : k <= ts.length) :
 (formP V D S (trmD (ts.take k))).length = N /\ ∀ d ∈ formP V D S (trmD (ts.take k)),Sm (B + 20 * (B + 4608) + k) d:=by
 induction k with
 | zero =>
   refine ⟨by simp [formP,trmD,hN],fun d hd=>?_⟩
   simp only [formP,trmD,List.take_zero,List.map_nil,List.foldl_nil] at hd
   rw [(List.mem_replicate.1 hd).2];exact Sm.zero _
 | succ k ih =>
   obtain ⟨h1,h2⟩:=ih (by omega)
   have hk2 : k < ts.length:=by omega
   obtain ⟨h3,h4⟩:=ht _ (List.getElem_mem hk2)
   rw [formP_take V D S ts k hk2]
   refine ⟨by rw [List.length_zipWith,h1,formT_len V D S _ _ h4,hN];exact Nat.min_self _,?_⟩
   have h5:=formT_sm (A:=B) (B:=B) (V:=V) (D:=D) h3 hS hB1 hV2 h4 (fun d hd=>hcnt d (by omega))
   have h6:=Nat.mul_le_mul_right (B + 4608) hD
   have h7 : ∀ d ∈ formT V D S (dval ts[k].2) (ts[k].1.map UInt8.toNat),Sm (B + 20 * (B + 4608) + k) d:=fun d hd=>(h5 d hd).mono (by omega)
   exact fun d hd=>(zip_sm h2 h7 d hd).mono (by omega)
theorem to_ok (V D : Nat) (PV : Int) (hPV : PV = V) (aP : Option Addr) (nT capP : Nat) (ts : List Trm) (a : Option Addr) (L cap : Nat) (rows : List (List Raw)) (B N : Nat) (d : Int) (hd : d = D) (w : World) (hnT : ts.length = nT) (hn : nT <= 4096) (haP : At w aP (ts.flatMap termC)) (hts : ∀ t ∈ ts,Fit B t.2)
 (hL : rows.length = L) (hL4 : L <= 4) (hcap : L <= cap) (ha : Tbl w a rows) (hfit : ∀ r ∈ rows,∀ c ∈ r,Fit B c) (hB1 : 1 <= B) (hB : B <= 100000) (hT : Tab w) (hD : D <= 5) (hc : toE PV ts rows d = 0) (hN : cnt V D = N) :
 Calls Tryz.prog 13 #[.agg #[.int .i64 PV,.slice aP nT capP],.slice a L cap,.int .i64 d] w fun e w'=>∃ bO,e = .returned (.tuple #[.agg #[.int .i64 PV,.int .i64 d,.slice (some ⟨bO,0,none⟩) N N],.int .i64 0]) /\
  At w' (some ⟨bO,0,none⟩) (dC (formP V D (rows.map fun r=>r.map dval) (trmD ts))) /\ Below w.heap.size w w':=by
 have hc':=hc
 unfold toE at hc
 by_cases hbad : tchk rows = 1 \/ pchk PV ts ≠ 0 \/ PV ≠ (rows.length : Int) - 1 \/ d < (totN ts : Int)
 . rw [if_pos hbad] at hc;cases hc
 rw [if_neg hbad] at hc
 obtain ⟨q1,q2,q3,q4⟩ : tchk rows ≠ 1 /\ pchk PV ts = 0 /\ PV = (rows.length : Int) - 1 /\ ¬ d < (totN ts : Int):=⟨fun h=>hbad (.inl h),Classical.byContradiction fun h=>hbad (.inr (.inl h)),Classical.byContradiction fun h=>hbad (.inr (.inr (.inl h))),fun h=>hbad (.inr (.inr (.inr h)))⟩
 obtain ⟨p1,p2,p3,p4⟩:=pchk_ok q2
 have hL1 : L = V + 1:=by omega
 have hv0 : varsI rows ≠ 0:=by
  intro h;unfold tchk at hc;rw [if_pos h] at hc;cases hc
 obtain ⟨r1,r2,r3,r4⟩:=varsI_ok rfl hv0
 have hV1 : 1 <= V:=by omega
 have hV2 : V <= 8:=by omega
 have hrow : ∀ r ∈ rows,r.length = V:=fun r hr=>by have:=r4 r hr;omega
 have hcnt : ∀ d,d <= D -> cnt V d <= 512:=by
  intro e he
  have h3 : V <= 3:=by omega
  have h5 : e <= 5:=by omega
  have h6:=cnt_le V e
  have h7 : (e + 1) ^ V <= 6 ^ V:=Nat.pow_le_pow_left (by omega) V
  have h8 : 6 ^ V <= 6 ^ 3:=Nat.pow_le_pow_right (by decide) h3
  omega
 have htm : ∀ t ∈ ts,Sm B (dval t.2) /\ (t.1.map UInt8.toNat).sum <= D:=fun t ht=>⟨(hts t ht).2,by rw [<- degN_sum];have:=degN_le_tot ts t ht;omega⟩
 obtain ⟨S,hS⟩ : ∃ S,(rows.map fun r=>r.map dval) = S:=⟨_,rfl⟩
 have hSs : ∀ r ∈ S,∀ d ∈ r,Sm B d:=by
  intro r hr d hd
  rw [<- hS] at hr
  obtain ⟨x,hx,rfl⟩:=List.mem_map.1 hr
  obtain ⟨y,hy,rfl⟩:=List.mem_map.1 hd
  exact (hfit x hx y hy).2
 have hpart:=formP_parts V D B N S ts hN hV2 (by omega) hcnt hSs hB1 htm
 have hft : ∀ k (hk : k < ts.length),(formT V D S (dval ts[k].2) (ts[k].1.map UInt8.toNat)).length = N /\ ∀ d ∈ formT V D S (dval ts[k].2) (ts[k].1.map UInt8.toNat),Sm (B + 20 * (B + 4608)) d:=by
  intro k hk
  obtain ⟨h3,h4⟩:=htm _ (List.getElem_mem hk)
  refine ⟨by rw [formT_len V D S _ _ h4,hN],fun d hd=>?_⟩
  have h5:=formT_sm (A:=B) (B:=B) (V:=V) (D:=D) h3 hSs hB1 hV2 h4 (fun d hd=>hcnt d (by omega)) d hd
  refine h5.mono ?_
  have:=Nat.mul_le_mul_right (B + 4608) (show D <= 20 by omega)
  omega
 have htc:=fun W=>fun (h : Tbl W a rows) (hT : Tab W)=>tcheck_any a L cap rows B W hL (by omega) hcap h hfit (by omega) hT
 have hpc:=fun W=>fun (h : At W aP (ts.flatMap termC)) (hT : Tab W)=>pcheck_any PV aP capP nT ts W hnT (by omega) h (fun t ht=>⟨by have:=(p4 t ht).1;omega,(hts t ht).1⟩) hT
 have htt:=fun W=>fun (h : At W aP (ts.flatMap termC))=>total_any PV aP capP nT ts W hnT (by omega) h (fun t ht=>⟨by have:=(p4 t ht).1;omega,(p4 t ht).2⟩)
 have hmy:=fun W=>many_any L D W (by omega) (by omega) (by omega)
 rw [show L - 1 = V by omega,hN] at hmy
 have hN5 : N <= 512:=by rw [<- hN];exact hcnt D (Nat.le_refl _)
 rw [show min N 513 = N by omega] at hmy
 have hter:=fun k (hk : k < ts.length) (l : List UInt8) (s : Bool) (m : List UInt8) (e : Int) (hx : ts[k] = (l,s,m,e)) W=>fun (h : Tbl W a rows) (hT : Tab W)=>term_any V D L l s m e a cap rows B (dval (s,m,e)) W hV1 hV2 hL hL1 hrow (by have:=(p4 _ (List.getElem_mem hk)).1;rw [hx] at this;have h9 : (l.length : Int) = PV:=this;omega) (by have:=(htm _ (List.getElem_mem hk)).2;rw [hx] at this;exact this) (by omega) hcnt h hfit (by have:=(hts _ (List.getElem_mem hk)).1;rw [hx] at this;exact this) rfl (by have:=(hts _ (List.getElem_mem hk)).2;rw [hx] at this;exact this) hB1 hB hT
 rw [hS] at hter ⊢
 rw [hN] at hter
 obtain ⟨tc,htcv⟩ : ∃ tc,tchk rows = tc:=⟨_,rfl⟩
 obtain ⟨tt,httv⟩ : ∃ tt : Int,(totN ts : Int) = tt:=⟨_,rfl⟩
 rw [htcv] at hc htc
 rw [httv] at htt q4
 rw [q2] at hpc
 subst hc
 have hwL : IntKind.i64.wrap ((L : Int) - 1) = PV:=by rw [IntKind.wrap_i64];omega
 have hd20 : ¬ 20 < d:=by omega
 rw [<- hd] at hmy hter
 have hmk:=mk_numsN (N : Int) N rfl (by omega)
 have hP0 : formP V D S (trmD (ts.take 0)) = List.replicate N 0:=by rw [<- hN];rfl
 have h512 : ¬ 512 < (N : Int):=by omega
 have Htc:=lid htc;have Hpc:=lid hpc;have Htt:=lid htt;have Hmy:=lid hmy;have Hter:=lid hter;have Hpart:=lid hpart;have Hft:=lid hft;have Hmk:=lid hmk;have HP0:=lid hP0;have HaP:=lid haP;have Ha:=lid ha;have HT:=lid hT;have HnT:=lid hnT;have Hfx:=lid hPV
 have Hd:=lid hd
 clear htc hpc htt hmy hter hpart hft hmk hP0 haP ha hT hnT hPV hd hSs htm hcnt hrow r1 r2 r3 r4 hv0 p1 p2 p3 p4 q1 q2 q3 hbad hc' htcv httv hS hN hfit hts hL hL1
 obtain ⟨W,hW_W⟩ : ∃ W,((w.alloc (.cells #[.int .i64 PV,.slice aP nT capP] 43)).alloc (.cells #[.int .i64 0,.int .i64 0,.slice none 0 0] 24)) = W:=⟨_,rfl⟩
 have Hb : Hid (Below w.heap.size w W):=by rw [<- hW_W];exact (((Below.refl _ _).alloc (Nat.le_refl _) _).alloc (by simp<;>omega) _)
 have Hp : Hid (Blk W (w.heap.size) 43 [.int .i64 PV,.slice aP nT capP]):=by rw [<- hW_W];exact (Blk.newAt _ _ _ (by simp)).alloc _
 have Hr : Hid (Blk W (w.heap.size + 1) 24 [.int .i64 0,.int .i64 0,.slice none 0 0]):=by rw [<- hW_W];exact Blk.newAt _ _ _ (by simp)
 obtain ⟨p0,p1⟩:=Hp.out.c2
 obtain ⟨r0,fr0,r1,fr1,r2,fr2⟩:=Hr.out.g3
 have HFP : Hid (At W aP (ts.flatMap termC)):=HaP.out.below Hb.out
 have HFA : Hid (Tbl W a rows):=Ha.out.below Hb.out
 have HFU : Hid (Tab W):=HT.out.below Hb.out
 go_enter Tryz.func13,Tryz.ntmps13
 go_wp2_with fail
 refine (Htc.out _ HFA.out HFU.out).mono ?_
 rintro e w1 ⟨rfl,hbn⟩
 clear p0 p1
 clear r0 fr0 r1 fr1 r2 fr2
 replace Hp:=kB Hp hbn
 replace Hr:=kB Hr hbn
 replace HFP:=kA HFP hbn
 replace HFA:=kL HFA hbn
 replace HFU:=kT HFU hbn
 obtain ⟨p0,p1⟩:=Hp.out.c2
 obtain ⟨r0,fr0,r1,fr1,r2,fr2⟩:=Hr.out.g3
 replace Hb:=bnx Hb hbn;clear hbn
 go_wp2_with fail
 refine (Hpc.out _ HFP.out HFU.out).mono ?_
 rintro e w2 ⟨rfl,hbn⟩
 clear p0 p1
 clear r0 fr0 r1 fr1 r2 fr2
 replace Hp:=kB Hp hbn
 replace Hr:=kB Hr hbn
 replace HFP:=kA HFP hbn
 replace HFA:=kL HFA hbn
 replace HFU:=kT HFU hbn
 obtain ⟨p0,p1⟩:=Hp.out.c2
 obtain ⟨r0,fr0,r1,fr1,r2,fr2⟩:=Hr.out.g3
 replace Hb:=bnx Hb hbn;clear hbn
 go_wp2_with fail
 refine (Htt.out _ HFP.out).mono ?_
 rintro e w3 ⟨rfl,hbn⟩
 clear p0 p1
 clear r0 fr0 r1 fr1 r2 fr2
 replace Hp:=kB Hp hbn
 replace Hr:=kB Hr hbn
 replace HFP:=kA HFP hbn
 replace HFA:=kL HFA hbn
 replace HFU:=kT HFU hbn
 obtain ⟨p0,p1⟩:=Hp.out.c2
 obtain ⟨r0,fr0,r1,fr1,r2,fr2⟩:=Hr.out.g3
 replace Hb:=bnx Hb hbn;clear hbn
 go_wp2_with fail
 refine (Hmy.out _).mono ?_
 rintro e' w4 ⟨rfl,rfl⟩
 go_wp2_with fail
 refine (Hmy.out _).mono ?_
 rintro e' w4 ⟨rfl,rfl⟩
 have hmk:=Hmk.out
 obtain ⟨w5,hw5⟩ : ∃ w5,w5 = w4:=⟨_,rfl⟩
 subst hw5
 have lp:=Hp.out.lt;have lr:=Hr.out.lt
 have szw:=Hb.out.size
 go_wp2_with fail
 clear hmk
 refine wp_world (fun W5=>Blk W5 w5.heap.size 36 (dC (List.replicate N 0)) /\ Below w5.heap.size w5 W5) ⟨Blk.new _ _ _,(Below.refl _ _).alloc (Nat.le_refl _) _⟩ ?_
 rintro W5 ⟨qB,hb5⟩
 clear p0 p1
 clear r0 fr0 r1 fr1 r2 fr2
 replace Hp:=kB Hp hb5
 replace Hr:=kB Hr hb5
 replace HFP:=kA HFP hb5
 replace HFA:=kL HFA hb5
 replace HFU:=kT HFU hb5
 obtain ⟨p0,p1⟩:=Hp.out.c2
 obtain ⟨r0,fr0,r1,fr1,r2,fr2⟩:=Hr.out.g3
 replace Hb:=lid (bnext Hb.out hb5)
 have hB0 : Blk W5 w5.heap.size 36 (dC (formP V D S (trmD (ts.take 0)))):=by rw [HP0.out];exact qB
 have hnT : ¬ (0 = w5.heap.size):=by have:=HT.out.lt;omega
 have HB0:=lid hB0;have E0:=lid Hp.out;have E1:=lid Hr.out;have E2:=lid Hb.out;have E3:=lid HFU.out
 have lb5:=qB.lt
 have szW:=Hb.out.size
 clear hB0 qB hb5 Hp Hr Hb HFU HFA HFP
 go_wp2_with fail
 clear p0 p1 r0 r1 r2 fr0 fr1 fr2
 go_loopw [63] (fun x wr=>∃ k : Nat,k <= nT /\ x = .int .i64 (k : Int) /\ Blk wr w5.heap.size 36 (dC (formP V D S (trmD (ts.take k)))) /\ Chg (fun b=>b = w5.heap.size) W5 wr) (fun x _=>nT - (intOf x).toNat)
 case atStart=>exact ⟨0,Nat.zero_le _,rfl,HB0.out,Chg.refl _ _⟩
 case round=>
  clear HB0
  obtain ⟨k,hk,rfl,pB,pg⟩:=hrel
  have hbw:=E2.out.trans (pg.below (n:=w.heap.size) (by omega) (fun b e=>by omega))
  by_cases hlt : k < nT
  . have hk2 : k < ts.length:=by rw [HnT.out];exact hlt
    obtain ⟨l,s,m,e,hx⟩ : ∃ l s m e,ts[k] = (l,s,m,e):=⟨_,_,_,_,rfl⟩
    obtain ⟨b1,o1,hab,hwin⟩:=(HaP.out.below hbw).term k hk2 hx
    have hst:=formP_take V D S ts k hk2
    have hp1:=Hpart.out k (by omega)
    have hf1:=Hft.out k hk2
    have hter:=fun W=>Hter.out k hk2 l s m e hx W
    rw [hx] at hst hf1
    obtain ⟨F,hF⟩ : ∃ F,formT V D S (dval (s,m,e)) (l.map UInt8.toNat) = F:=⟨_,rfl⟩
    simp only at hst hf1
    rw [hF] at hst hf1 hter
    obtain ⟨X,hX⟩ : ∃ X,formP V D S (trmD (ts.take k)) = X:=⟨_,rfl⟩
    rw [hX] at hst hp1 pB
    have hix:=i41x49 nT capP k (k : Int) hab hlt rfl
    have HpB:=lid pB;have Hpg:=lid pg;have Hst:=lid hst;have Hp1:=lid hp1;have Hf1:=lid hf1;have Hte:=lid hter;have Hbw:=lid hbw
    have Htr : Hid (Win wr b1 (o1 + k * 4) [.string (bs l),.bool s,.string (bs m),.int .i64 e]):=hwin
    have hta:=Ha.out.below hbw
    have htb:=pg.tab E3.out hnT
    have szr:=pg.size
    clear pB pg hst hp1 hf1 hter hbw hX hF hx hab hwin
    have Hb : Hid (Below wr.heap.size wr wr):=Below.refl _ _
    obtain ⟨tr0,tr1,tr2,tr3⟩:=Htr.out.w4
    have HFA : Hid (Tbl wr a rows):=hta
    have HFU : Hid (Tab wr):=htb
    have HFB : Hid (Blk wr (w5.heap.size) 36 (dC X)):=HpB.out
    clear hta htb HpB
    have P0:=tr0;have P1:=tr1;have P2:=tr2;have P3:=tr3
    obtain ⟨W6,hW_W6⟩ : ∃ W6,(wr.alloc (.cells #[.string (bs l),.bool s,.string (bs m),.int .i64 e] 49)) = W6:=⟨_,rfl⟩
    have hbn : Below wr.heap.size wr W6:=by rw [<- hW_W6];exact ((Below.refl _ _).alloc (Nat.le_refl _) _)
    clear tr0 tr1 tr2 tr3
    replace Htr:=kW Htr hbn
    replace HFA:=kL HFA hbn
    replace HFU:=kT HFU hbn
    replace HFB:=kB HFB hbn
    have Ht : Hid (Blk W6 (wr.heap.size) 49 [.string (bs l),.bool s,.string (bs m),.int .i64 e]):=by rw [<- hW_W6];exact Blk.newAt _ _ _ (by simp)
    obtain ⟨tr0,tr1,tr2,tr3⟩:=Htr.out.w4
    obtain ⟨t0,t1,t2,t3⟩:=Ht.out.c4
    replace Hb:=bnx Hb hbn;clear hbn
    have HWs : Hid (w5.heap.size < W6.heap.size):=by have:=Hb.out.size;show _ < _;omega
    go_wp2_with fail
    refine (Hte.out _ HFA.out HFU.out).mono ?_
    rintro e w7 ⟨a',c',rfl,hat',hba',hbn⟩
    clear tr0 tr1 tr2 tr3
    clear t0 t1 t2 t3
    replace Htr:=kW Htr hbn
    replace HFA:=kL HFA hbn
    replace HFU:=kT HFU hbn
    replace HFB:=kB HFB hbn
    replace Ht:=kB Ht hbn
    obtain ⟨tr0,tr1,tr2,tr3⟩:=Htr.out.w4
    obtain ⟨t0,t1,t2,t3⟩:=Ht.out.c4
    replace Hb:=bnx Hb hbn;clear hbn
    have Hat':=lid hat'
    have hbF : ∀ b o,a' = some ⟨b,o,none⟩ -> b ≠ w5.heap.size:=fun b o e=>by
     have:=hba' b o e
     have:=HWs.out
     omega
    have HbF:=lid hbF
    have Hg7 : Hid (Chg (fun b=>b = w5.heap.size) W5 w7):=Hpg.out.below' Hb.out
    have HB7:=lid HFB.out;have HU7:=lid HFU.out
    clear hat' hba' hbF HFB HFU HFA Ht Hb t0 t1 t2 t3 tr0 tr1 tr2 tr3 Htr hix
    go_wp2_with fail
    go_loopw [72] (fun x wr=>∃ i : Nat,i <= N /\ x = .int .i64 (i : Int) /\ Blk wr w5.heap.size 36 (dC (zipP X F i)) /\ Chg (fun b=>b = w5.heap.size) w7 wr) (fun x _=>N - (intOf x).toNat)
    case atStart=>exact ⟨0,Nat.zero_le _,rfl,by rw [zipP_zero];exact HB7.out,Chg.refl _ _⟩
    case round=>
     clear HB7
     obtain ⟨i,hi,rfl,pB,pg⟩:=hrel
     by_cases hlt2 : i < N
     . obtain ⟨hx1,hx2⟩:=Hp1.out
       obtain ⟨hf1,hf2⟩:=Hf1.out
       obtain ⟨hz1,hz2⟩:=zipP_at X F N i hx1 hf1 hlt2
       have hzl:=zipP_len X F N i hx1 hf1 (by omega)
       have iF : i < (F.map canon).length:=by rw [List.length_map,hf1];exact hlt2
       obtain ⟨y,hy⟩ : ∃ y,F.getD i 0 = y:=⟨_,rfl⟩
       have hFi : (F.map canon)[i] = (sgnB (dN y),nt (dN y).natAbs,dE y):=by
        have : F.getD i 0 = F[i]'(by omega):=by simp [List.getD_eq_getElem?_getD,show i < F.length by omega]
        rw [List.getElem_map,<- this,hy];rfl
       have hysm : Sm (B + 20 * (B + 4608)) y:=by rw [<- hy];exact getD_sm hf2 i
       obtain ⟨zs,hzs⟩ : ∃ zs,zipP X F i = zs:=⟨_,rfl⟩
       obtain ⟨zs',hzs'⟩ : ∃ zs,zipP X F (i + 1) = zs:=⟨_,rfl⟩
       have hzsm : ∀ x ∈ zs,Sm (B + 20 * (B + 4608) + 4096 + 1) x:=by
        rw [<- hzs]
        exact zipP_sm (fun x hx=>(hx2 x hx).mono (by omega)) (fun x hx=>(hf2 x hx).mono (by omega))
       rw [hzs] at hz1 hz2 hzl pB
       rw [hzs',hy] at hz2
       have hzi : i < zs.length:=by omega
       have hgi : zs[i] = X.getD i 0:=by rw [List.getElem?_eq_getElem hzi] at hz1;exact Option.some.inj hz1
       obtain ⟨D9,hD9⟩ : ∃ D9,zs[i] + y = D9:=⟨_,rfl⟩
       rw [<- hgi,hD9] at hz2
       have Hfy : Hid (Fit (B + 20 * (B + 4608) + 4096 + 1) (sgnB (dN y),nt (dN y).natAbs,dE y)):=(hysm.mono (by omega)).fit (by omega)
       have Hdy : Hid (zs[i] + dval (sgnB (dN y),nt (dN y).natAbs,dE y) = D9):=by show zs[i] + dval (canon y) = D9;rw [dval_canon];exact hD9
       have Hzi : Hid (Sm (B + 20 * (B + 4608) + 4096 + 1) zs[i]):=hzsm _ (List.getElem_mem hzi)
       obtain ⟨b2,o2,hab2,n0,n1,n2⟩:=(show At wr a' ((F.map canon).flatMap numC) by rw [<- dC_raws];exact Hat'.out.chg pg (fun b o e=>HbF.out b o e)).num i iF hFi
       have ixF:=i78x36 N c' i (i : Int) hab2 hlt2 rfl
       have htb:=pg.tab HU7.out hnT
       have Hnn : Hid (Win wr b2 (o2 + i * 3) [.bool (sgnB (dN y)),.string (bs (nt (dN y).natAbs)),.int .i64 (dE y)]):=win3 n0 n1 n2
       have HpB:=lid pB;have Hpg:=lid pg;have Hzl:=lid hzl;have Hz2:=lid hz2;have Hzs':=lid hzs';have Hzs:=lid hzs
       clear pB pg hx1 hx2 hf1 hf2 hz1 hz2 hzl hy hFi hysm hzs hzs' hzsm hgi hD9 n0 n1 n2 hab2
       have Hb : Hid (Below wr.heap.size wr wr):=Below.refl _ _
       obtain ⟨nn0,nn1,nn2⟩:=Hnn.out.w3
       have HFU : Hid (Tab wr):=htb
       have HFB : Hid (Blk wr (w5.heap.size) 36 (dC zs)):=HpB.out
       clear htb HpB
       have P0:=nn0;have P1:=nn1;have P2:=nn2
       obtain ⟨W8,hW_W8⟩ : ∃ W8,(wr.alloc (.cells #[.bool (sgnB (dN y)),.string (bs (nt (dN y).natAbs)),.int .i64 (dE y)] 36)) = W8:=⟨_,rfl⟩
       have hbn : Below wr.heap.size wr W8:=by rw [<- hW_W8];exact ((Below.refl _ _).alloc (Nat.le_refl _) _)
       clear nn0 nn1 nn2
       replace Hnn:=kW Hnn hbn
       replace HFU:=kT HFU hbn
       replace HFB:=kB HFB hbn
       have Hu : Hid (Blk W8 (wr.heap.size) 36 [.bool (sgnB (dN y)),.string (bs (nt (dN y).natAbs)),.int .i64 (dE y)]):=by rw [<- hW_W8];exact Blk.newAt _ _ _ (by simp)
       obtain ⟨nn0,nn1,nn2⟩:=Hnn.out.w3
       obtain ⟨u0,u1,u2⟩:=Hu.out.c3
       replace Hb:=bnx Hb hbn;clear hbn
       go_wp2_with fail
       refine (splus_any w5.heap.size N i (B + 20 * (B + 4608) + 4096 + 1) zs (sgnB (dN y)) (nt (dN y).natAbs) (dE y) D9 _ Hzl.out HFB.out hzi Hfy.out Hzi.out (by omega) Hdy.out HFU.out).mono ?_
       rintro e' w9 ⟨⟨rv,rfl⟩,qB,qg⟩
       have HqB:=lid qB
       have Hqg : Hid (Chg (fun b=>b = w5.heap.size) w7 w9):=(Hpg.out.below' Hb.out).trans (Chg.of_grown qg (fun b e=>by cases e;rfl)) (fun b h=>.inl h)
       clear qB qg
       go_wp2
       go_roundw
       case rel=>exact ⟨i + 1,by omega,by go_num,by rw [Hzs'.out,Hz2.out];exact HqB.out,Hqg.out⟩
       case measure=>simp [intOf];omega
     . obtain rfl : N = i:=by omega
       rw [zipP_all X F N Hp1.out.1 Hf1.out.1,<- Hst.out] at pB
       have HpB:=lid pB;have Hpg9:=lid (Hg7.out.trans pg (fun b h=>.inl h))
       clear pB pg
       go_wp2
       go_roundw
       case rel=>exact ⟨k + 1,by omega,by go_num,HpB.out,Hpg9.out⟩
       case measure=>simp [intOf];omega
  . obtain rfl : nT = k:=by omega
    have hpt : ts.take nT = ts:=List.take_of_length_le (by rw [HnT.out];exact Nat.le_refl _)
    rw [hpt] at pB
    have hp9:=pg.blk E0.out (by omega)
    have hr9:=pg.blk E1.out (by omega)
    obtain ⟨r0,fr0,r1,fr1,r2,fr2⟩:=hr9.g3
    obtain ⟨p0,p1⟩:=hp9.c2
    have HpB:=lid pB;have Hbz:=lid hbw
    clear pB hp9 hr9 hpt hbw pg
    go_wp2
    refine bodyPost_ret (v:=.tuple #[.agg #[.int .i64 PV,.int .i64 d,.slice (some ⟨w5.heap.size,0,none⟩) N N],.int .i64 0]) (by simp [results,Tryz.results13,go_sem,r0,r1,r2]) rfl ⟨w5.heap.size,rfl,At.of_blk (t:=36) ?_,?_⟩
    . exact ((HpB.out.so _ _ (by omega) _).so _ _ (by omega) _).so _ _ (by omega) _
    . exact ((Hbz.out.setCell (by dsimp only;omega) _).setCell (by dsimp only;omega) _).setCell (by dsimp only;omega) _
end Go.Proofs.YtidjljldhdckiaaGreatDoor
namespace Go.Proofs.YtidjljldhdckiaaGreatDoor
open Go.RowKit
theorem half_toE (PV : Int) (ts : List Trm) (d : Int) (V i j v B : Nat) (rows : List (List Raw)) (hV1 : 1 <= V) (hV3 : V <= 3) (hL : rows.length = V + 1) (hrow : ∀ r ∈ rows,r.length = V) (hij : i < j) (hj : j <= V) (hv : v = i \/ v = j) (hfit : ∀ r ∈ rows,∀ c ∈ r,Fit B c) (hB : B <= 10000000) (h0 : toE PV ts rows d = 0) :
 toE PV ts (halfRows rows i j v) d = 0:=by
 obtain ⟨q1,q2,_,_,_⟩:=half_facts V i j v B rows hL hrow hij hj hfit hB
 have hb : ¬ (tchk rows = 1 \/ pchk PV ts ≠ 0 \/ PV ≠ (rows.length : Int) - 1 \/ d < (totN ts : Int)):=by
  intro h;unfold toE at h0;rw [if_pos h] at h0;cases h0
 have h1 : tchk rows = 0:=by unfold toE at h0;rw [if_neg hb] at h0;exact h0
 have h2:=half_chk V i j v B rows hV1 (by omega) hL hrow hij hj hv hfit hB h1
 unfold toE
 rw [h2,q1,if_neg]
 rw [h1,hL] at hb
 exact hb
theorem half_law (V D i j B : Nat) (rows : List (List Raw)) (ts : List Trm) (hL : rows.length = V + 1) (hrow : ∀ r ∈ rows,r.length = V) (hij : i < j) (hj : j <= V) (hfit : ∀ r ∈ rows,∀ c ∈ r,Fit B c) (hB : B <= 10000000) (ht : ∀ t ∈ ts,t.1.length = V /\ degN t.1 <= D) :
 halfL V D i j (formP V D (rows.map fun r=>r.map dval) (trmD ts)) = formP V D ((halfRows rows i j j).map fun r=>r.map dval) (trmD ts) /\
 halfL V D j i (formP V D (rows.map fun r=>r.map dval) (trmD ts)) = formP V D ((halfRows rows i j i).map fun r=>r.map dval) (trmD ts):=by
 obtain ⟨_,_,_,q4,q5⟩:=half_facts V i j j B rows hL hrow hij hj hfit hB
 obtain ⟨_,_,_,q4',_⟩:=half_facts V i j i B rows hL hrow hij hj hfit hB
 have ht2 : ∀ t ∈ trmD ts,t.2.length = V /\ t.2.sum <= D:=by
  intro t h
  unfold trmD at h
  obtain ⟨x,hx,rfl⟩:=List.mem_map.1 h
  obtain ⟨h1,h2⟩:=ht x hx
  exact ⟨by simpa using h1,h2⟩
 rw [q4,q4']
 refine ⟨half_form V D i j _ _ _ (by omega) (by omega) hj (by simp [hL]) ht2 q5,half_form V D j i _ _ _ (by omega) hj (by omega) (by simp [hL]) ht2 (fun k hk=>?_)⟩
 rw [q5 k hk]
 generalize ((rows.map fun r=>r.map dval).getD i []).getD k 0 = x
 generalize ((rows.map fun r=>r.map dval).getD j []).getD k 0 = y
 grind
end Go.Proofs.YtidjljldhdckiaaGreatDoor
namespace Go.Proofs.YtidjljldhdckiaaGreatDoor
open Go.RowKit
attribute [local go_sem ↓] Go.wp_at_zero Go.wp_at_succ
theorem halves_any (PV : Int) (aP : Option Addr) (nT capP : Nat) (ts : List Trm) (a : Option Addr) (L cap : Nat) (rows : List (List Raw)) (d : Int) (w : World) (hnT : ts.length = nT) (haP : At w aP (ts.flatMap termC)) (hlen : ∀ t ∈ ts,t.1.length <= 9223372036854775807)
 (hL : rows.length = L) (hcap : L <= cap) (ha : Tbl w a rows) (hT : Tab w) :
 Calls Tryz.prog 4 #[.agg #[.int .i64 PV,.slice aP nT capP],.slice a L cap,.int .i64 d] w fun e w'=>e = .returned (.bool true) /\ Below w.heap.size w w':=by
 have HaP:=lid haP;have Ha:=lid ha;have HT0:=lid hT;have HnT:=lid hnT;have HL:=lid hL;have Hlen:=lid hlen
 clear haP ha hT hnT hL hlen
 obtain ⟨W,hW_W⟩ : ∃ W,(w.alloc (.cells #[.int .i64 PV,.slice aP nT capP] 43)) = W:=⟨_,rfl⟩
 have Hb : Hid (Below w.heap.size w W):=by rw [<- hW_W];exact ((Below.refl _ _).alloc (Nat.le_refl _) _)
 have Hp : Hid (Blk W (w.heap.size) 43 [.int .i64 PV,.slice aP nT capP]):=by rw [<- hW_W];exact Blk.newAt _ _ _ (by simp)
 obtain ⟨p0,p1⟩:=Hp.out.c2
 by_cases h1 : 12 < nT
 . have h1e : (12 : Int) < (nT : Int):=by omega
   go_enter Tryz.func4,Tryz.ntmps4
   go_wp2_with fail
   refine (awake_any _ (HT0.out.below Hb.out)).mono ?_
   rintro e w1 ⟨rfl,hbn⟩
   clear p0 p1
   replace Hp:=kB Hp hbn
   obtain ⟨p0,p1⟩:=Hp.out.c2
   replace Hb:=bnx Hb hbn;clear hbn
   go_wp2
   refine bodyPost_ret (v:=.bool true) (by simp [results,Tryz.results4,go_sem]) rfl ⟨rfl,?_⟩
   (repeat first | exact Hb.out | (refine Below.setCell ?_ (by have:=Hb.out.size;first | (dsimp only;omega) | (show _ <= _;omega) | (simp<;>omega)) _) | (refine Below.alloc ?_ (by have:=Hb.out.size;simp<;>omega) _) | refine Below.drew ?_)
 . have h1e : ¬ (12 : Int) < (nT : Int):=by omega
   have h1d : decide ((12 : Int) < (nT : Int)) = false:=by simp;omega
   by_cases h2 : 4 < L
   . have h2e : (4 : Int) < (L : Int):=by omega
     go_enter Tryz.func4,Tryz.ntmps4
     go_wp2_with fail
     refine (awake_any _ (HT0.out.below Hb.out)).mono ?_
     rintro e w1 ⟨rfl,hbn⟩
     clear p0 p1
     replace Hp:=kB Hp hbn
     obtain ⟨p0,p1⟩:=Hp.out.c2
     replace Hb:=bnx Hb hbn;clear hbn
     go_wp2
     refine bodyPost_ret (v:=.bool true) (by simp [results,Tryz.results4,go_sem]) rfl ⟨rfl,?_⟩
     (repeat first | exact Hb.out | (refine Below.setCell ?_ (by have:=Hb.out.size;first | (dsimp only;omega) | (show _ <= _;omega) | (simp<;>omega)) _) | (refine Below.alloc ?_ (by have:=Hb.out.size;simp<;>omega) _) | refine Below.drew ?_)
   . have h2e : ¬ (4 : Int) < (L : Int):=by omega
     have h2d : decide ((4 : Int) < (L : Int)) = false:=by simp;omega
     by_cases h3 : 5 < d
     . go_enter Tryz.func4,Tryz.ntmps4
       go_wp2_with fail
       refine (awake_any _ (HT0.out.below Hb.out)).mono ?_
       rintro e w1 ⟨rfl,hbn⟩
       clear p0 p1
       replace Hp:=kB Hp hbn
       obtain ⟨p0,p1⟩:=Hp.out.c2
       replace Hb:=bnx Hb hbn;clear hbn
       go_wp2
       refine bodyPost_ret (v:=.bool true) (by simp [results,Tryz.results4,go_sem]) rfl ⟨rfl,?_⟩
       (repeat first | exact Hb.out | (refine Below.setCell ?_ (by have:=Hb.out.size;first | (dsimp only;omega) | (show _ <= _;omega) | (simp<;>omega)) _) | (refine Below.alloc ?_ (by have:=Hb.out.size;simp<;>omega) _) | refine Below.drew ?_)
     . have h3d : decide (5 < d) = false:=by simp;omega
       go_enter Tryz.func4,Tryz.ntmps4
       have E0:=lid Hp.out;have E1:=lid Hb.out
       have szw:=Hb.out.size
       clear Hp Hb
       go_wp2_with fail
       clear p0 p1
       go_loopw [7] (fun x wr=>∃ k : Nat,k <= L /\ x = .int .i64 (k : Int) /\ (∀ r ∈ rows.take k,r.length <= 4 /\ r.all smallB = true) /\ Below W.heap.size W wr) (fun x _=>L - (intOf x).toNat)
       case atStart=>exact ⟨0,Nat.zero_le _,rfl,fun r hr=>by simp at hr,Below.refl _ _⟩
       case round=>
        obtain ⟨k,hk,rfl,hal,pb⟩:=hrel
        by_cases hlt : k < L
        . have hk2 : k < rows.length:=by rw [HL.out];exact hlt
          obtain ⟨R,hR⟩ : ∃ R,rows[k] = R:=⟨_,rfl⟩
          obtain ⟨b1,o1,a1,c1,hab,hc1,hat⟩:=(Ha.out.below (bnext E1.out pb)).row k hk2
          rw [hR] at hc1 hat
          obtain ⟨n,hn⟩ : ∃ n,R.length = n:=⟨_,rfl⟩
          rw [hn] at hc1
          have hix:=i45x46 L cap k (k : Int) hab hlt rfl
          rw [Nat.mul_one] at hix
          have hnx : R.length <= 4 -> R.all smallB = true -> ∀ r ∈ rows.take (k + 1),r.length <= 4 /\ r.all smallB = true:=by
           intro g1 g2 r hr
           rw [List.take_succ_eq_append_getElem hk2,List.mem_append] at hr
           rcases hr with hr | hr
           . exact hal r hr
           . simp only [List.mem_singleton] at hr
             rw [hr,hR];exact ⟨g1,g2⟩
          rw [hn] at hnx
          have Hnx:=lid hnx;have Hpb:=lid pb;have Hat:=lid hat;have Hn:=lid hn
          have HTr:=lid (HT0.out.below (bnext E1.out pb))
          clear hnx hal pb hat hab hR hn
          have Hb : Hid (Below wr.heap.size wr wr):=Below.refl _ _
          have HX:=lid (bnext E1.out Hpb.out)
          by_cases h4 : 4 < n
          . have h4e : (4 : Int) < (n : Int):=by omega
            go_wp2_with fail
            refine (awake_any _ HTr.out).mono ?_
            rintro e w1 ⟨rfl,hbn⟩
            replace Hb:=bnx Hb hbn;clear hbn
            go_wp2
            refine bodyPost_ret (results_tmp rfl _ _ _) rfl ⟨rfl,bnext HX.out Hb.out⟩
          . have h4e : ¬ (4 : Int) < (n : Int):=by omega
            have h4d : decide ((4 : Int) < (n : Int)) = false:=by simp;omega
            cases hsb : R.all smallB with
            | false =>
              have hsm:=fun W=>fun (h : At W a1 (R.flatMap numC))=>small_any a1 n c1 R W Hn.out (by omega) h
              rw [hsb] at hsm
              have Hsm:=lid hsm
              clear hsm hsb
              go_wp2_with fail
              refine (Hsm.out _ Hat.out).mono ?_
              rintro e w1 ⟨rfl,hbn⟩
              replace Hb:=bnx Hb hbn;clear hbn
              go_wp2_with fail
              refine (awake_any _ (HTr.out.below Hb.out)).mono ?_
              rintro e w2 ⟨rfl,hbn⟩
              replace Hb:=bnx Hb hbn;clear hbn
              go_wp2
              refine bodyPost_ret (results_tmp rfl _ _ _) rfl ⟨rfl,bnext HX.out Hb.out⟩
            | true =>
              have hsm:=fun W=>fun (h : At W a1 (R.flatMap numC))=>small_any a1 n c1 R W Hn.out (by omega) h
              rw [hsb] at hsm
              have Hsm:=lid hsm
              have Hnx2:=lid (Hnx.out (by omega) hsb)
              clear hsm hsb
              go_wp2_with fail
              refine (Hsm.out _ Hat.out).mono ?_
              rintro e w1 ⟨rfl,hbn⟩
              replace Hb:=bnx Hb hbn;clear hbn
              go_wp2
              go_roundw
              case rel=>exact ⟨k + 1,by omega,by go_num,Hnx2.out,bnext Hpb.out Hb.out⟩
              case measure=>simp [intOf];omega
        . obtain rfl : L = k:=by omega
          rw [List.take_of_length_le (by rw [HL.out];exact Nat.le_refl _)] at hal
          have Hal:=lid hal;have Hpb0:=lid pb
          clear hal pb
          obtain ⟨w5,hw5⟩ : ∃ w5,w5 = wr:=⟨_,rfl⟩
          subst hw5
          go_wp2_with fail
          go_loopw [8] (fun x wr=>∃ k : Nat,k <= nT /\ x = .int .i64 (k : Int) /\ (∀ t ∈ ts.take k,smallB t.2 = true) /\ Below W.heap.size W wr) (fun x _=>nT - (intOf x).toNat)
          case atStart=>exact ⟨0,Nat.zero_le _,rfl,fun r hr=>by simp at hr,Hpb0.out⟩
          case round=>
           clear Hpb0
           obtain ⟨k,hk,rfl,hal,pb⟩:=hrel
           have hpp:=E0.out.below pb
           have HTr:=lid (HT0.out.below (bnext E1.out pb))
           have HX:=lid (bnext E1.out pb)
           by_cases hlt : k < nT
           . have hk2 : k < ts.length:=by rw [HnT.out];exact hlt
             obtain ⟨l,s,m,e,hx⟩ : ∃ l s m e,ts[k] = (l,s,m,e):=⟨_,_,_,_,rfl⟩
             obtain ⟨b1,o1,hab,hwin⟩:=(HaP.out.below HX.out).term k hk2 hx
             have hix:=i41x49 nT capP k (k : Int) hab hlt rfl
             have hnx : smallB (s,m,e) = true -> ∀ t ∈ ts.take (k + 1),smallB t.2 = true:=by
              intro g1 t ht
              rw [List.take_succ_eq_append_getElem hk2,List.mem_append] at ht
              rcases ht with ht | ht
              . exact hal t ht
              . simp only [List.mem_singleton] at ht
                rw [ht,hx];exact g1
             have hsm:=fun b W=>fun (h : Blk W b 36 [.bool s,.string (bs m),.int .i64 e])=>small_any (some ⟨b,0,none⟩) 1 1 [(s,m,e)] W rfl (by omega) (At.of_blk h)
             have e1 : ([(s,m,e)] : List Raw).all smallB = smallB (s,m,e):=by simp
             rw [e1] at hsm
             have Hnx:=lid hnx;have Hpb:=lid pb
             have Hp:=lid hpp
             have Htr : Hid (Win wr b1 (o1 + k * 4) [.string (bs l),.bool s,.string (bs m),.int .i64 e]):=hwin
             clear hnx hal pb hpp hwin hab hx e1
             have Hb : Hid (Below wr.heap.size wr wr):=Below.refl _ _
             cases hsb : smallB (s,m,e) with
             | false =>
               rw [hsb] at hsm
               have Hsm:=lid hsm
               clear hsm hsb
               obtain ⟨p0,p1⟩:=Hp.out.c2
               obtain ⟨tr0,tr1,tr2,tr3⟩:=Htr.out.w4
               have P0:=tr0;have P1:=tr1;have P2:=tr2;have P3:=tr3;have P4:=p0;have P5:=p1
               have lz_p_W6:=Hp.out.lt
               obtain ⟨W6,hW_W6⟩ : ∃ W6,(wr.alloc (.cells #[.bool s,.string (bs m),.int .i64 e] 36)) = W6:=⟨_,rfl⟩
               have hbn : Below wr.heap.size wr W6:=by rw [<- hW_W6];exact ((Below.refl _ _).alloc (Nat.le_refl _) _)
               clear p0 p1
               replace Hp:=kB Hp hbn
               clear tr0 tr1 tr2 tr3
               replace Htr:=kW Htr hbn
               have Hy : Hid (Blk W6 (wr.heap.size) 36 [.bool s,.string (bs m),.int .i64 e]):=by rw [<- hW_W6];exact Blk.newAt _ _ _ (by simp)
               obtain ⟨p0,p1⟩:=Hp.out.c2
               obtain ⟨tr0,tr1,tr2,tr3⟩:=Htr.out.w4
               obtain ⟨y0,y1,y2⟩:=Hy.out.c3
               replace Hb:=bnx Hb hbn;clear hbn
               go_wp2_with fail
               refine (Hsm.out _ _ Hy.out).mono ?_
               rintro e w7 ⟨rfl,hbn⟩
               clear p0 p1
               clear tr0 tr1 tr2 tr3
               clear y0 y1 y2
               replace Hp:=kB Hp hbn
               replace Htr:=kW Htr hbn
               replace Hy:=kB Hy hbn
               obtain ⟨p0,p1⟩:=Hp.out.c2
               obtain ⟨tr0,tr1,tr2,tr3⟩:=Htr.out.w4
               obtain ⟨y0,y1,y2⟩:=Hy.out.c3
               replace Hb:=bnx Hb hbn;clear hbn
               go_wp2_with fail
               refine (awake_any _ (HTr.out.below Hb.out)).mono ?_
               rintro e w8 ⟨rfl,hbn⟩
               clear p0 p1
               clear tr0 tr1 tr2 tr3
               clear y0 y1 y2
               replace Hp:=kB Hp hbn
               replace Htr:=kW Htr hbn
               replace Hy:=kB Hy hbn
               obtain ⟨p0,p1⟩:=Hp.out.c2
               obtain ⟨tr0,tr1,tr2,tr3⟩:=Htr.out.w4
               obtain ⟨y0,y1,y2⟩:=Hy.out.c3
               replace Hb:=bnx Hb hbn;clear hbn
               go_wp2
               refine bodyPost_ret (results_tmp rfl _ _ _) rfl ⟨rfl,bnext HX.out Hb.out⟩
             | true =>
               rw [hsb] at hsm
               have Hsm:=lid hsm
               have Hnx2:=lid (Hnx.out hsb)
               clear hsm hsb
               obtain ⟨p0,p1⟩:=Hp.out.c2
               obtain ⟨tr0,tr1,tr2,tr3⟩:=Htr.out.w4
               have P0:=tr0;have P1:=tr1;have P2:=tr2;have P3:=tr3;have P4:=p0;have P5:=p1
               have lz_p_W6:=Hp.out.lt
               obtain ⟨W6,hW_W6⟩ : ∃ W6,(wr.alloc (.cells #[.bool s,.string (bs m),.int .i64 e] 36)) = W6:=⟨_,rfl⟩
               have hbn : Below wr.heap.size wr W6:=by rw [<- hW_W6];exact ((Below.refl _ _).alloc (Nat.le_refl _) _)
               clear p0 p1
               replace Hp:=kB Hp hbn
               clear tr0 tr1 tr2 tr3
               replace Htr:=kW Htr hbn
               have Hy : Hid (Blk W6 (wr.heap.size) 36 [.bool s,.string (bs m),.int .i64 e]):=by rw [<- hW_W6];exact Blk.newAt _ _ _ (by simp)
               obtain ⟨p0,p1⟩:=Hp.out.c2
               obtain ⟨tr0,tr1,tr2,tr3⟩:=Htr.out.w4
               obtain ⟨y0,y1,y2⟩:=Hy.out.c3
               replace Hb:=bnx Hb hbn;clear hbn
               go_wp2_with fail
               refine (Hsm.out _ _ Hy.out).mono ?_
               rintro e w7 ⟨rfl,hbn⟩
               clear p0 p1
               clear tr0 tr1 tr2 tr3
               clear y0 y1 y2
               replace Hp:=kB Hp hbn
               replace Htr:=kW Htr hbn
               replace Hy:=kB Hy hbn
               obtain ⟨p0,p1⟩:=Hp.out.c2
               obtain ⟨tr0,tr1,tr2,tr3⟩:=Htr.out.w4
               obtain ⟨y0,y1,y2⟩:=Hy.out.c3
               replace Hb:=bnx Hb hbn;clear hbn
               go_wp2
               go_roundw
               case rel=>exact ⟨k + 1,by omega,by go_num,Hnx2.out,bnext Hpb.out Hb.out⟩
               case measure=>simp [intOf];omega
           . obtain rfl : nT = k:=by omega
             rw [List.take_of_length_le (by rw [HnT.out];exact Nat.le_refl _)] at hal
             have Hal2:=lid hal;have Hpb:=lid pb;have Hp:=lid hpp
             clear hal pb hpp
             have hL4 : L <= 4:=by omega
             have hfit : ∀ r ∈ rows,∀ c ∈ r,Fit 192 c:=fun r hr c hc=>smallB_fit (List.all_eq_true.1 (Hal.out r hr).2 c hc)
             have htf : ∀ t ∈ ts,Fit 192 t.2:=fun t ht=>smallB_fit (Hal2.out t ht)
             have hts : ∀ t ∈ ts,t.1.length <= 9223372036854775807 /\ Ok t.2:=fun t ht=>⟨Hlen.out t ht,(htf t ht).1⟩
             have Hb:=HX
             have Hfit:=lid hfit;have Htf:=lid htf;have Hts:=lid hts
             clear hfit htf hts Hal Hal2 Hpb
             by_cases hc0 : toE PV ts rows d = 0
             . have hb9 : ¬ (tchk rows = 1 \/ pchk PV ts ≠ 0 \/ PV ≠ (rows.length : Int) - 1 \/ d < (totN ts : Int)):=by
                intro h;unfold toE at hc0;rw [if_pos h] at hc0;cases hc0
               have hp0 : pchk PV ts = 0:=Classical.byContradiction fun h=>hb9 (.inr (.inl h))
               have hPL : PV = (rows.length : Int) - 1:=Classical.byContradiction fun h=>hb9 (.inr (.inr (.inl h)))
               have hdt : ¬ d < (totN ts : Int):=fun h=>hb9 (.inr (.inr (.inr h)))
               have ht0 : tchk rows = 0:=by unfold toE at hc0;rw [if_neg hb9] at hc0;exact hc0
               have hv0 : varsI rows ≠ 0:=by intro h;unfold tchk at ht0;rw [if_pos h] at ht0;cases ht0
               obtain ⟨c1,c2,c3,c4⟩:=varsI_ok rfl hv0
               obtain ⟨p1,p2,p3,p4⟩:=pchk_ok hp0
               obtain ⟨V,hV⟩ : ∃ V : Nat,(V : Int) = PV:=⟨PV.toNat,by omega⟩
               obtain ⟨D,hD⟩ : ∃ D : Nat,(D : Int) = d:=⟨d.toNat,by omega⟩
               have hLl:=HL.out
               have hvV : varsI rows = (V : Int):=by omega
               have hV1 : 1 <= V:=by omega
               have hV3 : V <= 3:=by omega
               have hD5 : D <= 5:=by omega
               have hLV : rows.length = V + 1:=by omega
               have hrow : ∀ r ∈ rows,r.length = V:=fun r hr=>by have:=c4 r hr;omega
               obtain ⟨N,hN⟩ : ∃ N,cnt V D = N:=⟨_,rfl⟩
               have hN5 : N <= 512:=by
                rw [<- hN]
                have h6:=cnt_le V D
                have h7 : (D + 1) ^ V <= 6 ^ V:=Nat.pow_le_pow_left (by omega) V
                have h8 : 6 ^ V <= 6 ^ 3:=Nat.pow_le_pow_right (by decide) hV3
                omega
               have hck : chk PV d N = 0:=by
                have e1 : cnt PV.toNat d.toNat = N:=by rw [<- hV,<- hD];simpa using hN
                unfold chk
                rw [if_neg (by omega),if_neg (by omega),if_pos e1.symm]
               have hlon:=lonF_inv (sqR rows V) L (by omega)
               obtain ⟨⟨I,J,Y⟩,hF⟩ : ∃ F,lonF (sqR rows V) L = F:=⟨_,rfl⟩
               rw [hF] at hlon
               obtain ⟨l1,l2,l3⟩:=hlon
               clear l3
               simp only at l1 l2
               have hJ : J <= V:=by omega
               obtain ⟨q1,q2,q3,_,_⟩:=half_facts V I J J 192 rows hLV hrow l1 hJ Hfit.out (by omega)
               obtain ⟨q1',q2',q3',_,_⟩:=half_facts V I J I 192 rows hLV hrow l1 hJ Hfit.out (by omega)
               have hE1:=half_toE PV ts d V I J J 192 rows hV1 hV3 hLV hrow l1 hJ (.inr rfl) Hfit.out (by omega) hc0
               have hE2:=half_toE PV ts d V I J I 192 rows hV1 hV3 hLV hrow l1 hJ (.inl rfl) Hfit.out (by omega) hc0
               have hdeg : ∀ t ∈ ts,t.1.length = V /\ degN t.1 <= D:=fun t ht=>⟨by have:=(p4 t ht).1;omega,by have:=degN_le_tot ts t ht;omega⟩
               obtain ⟨law1,law2⟩:=half_law V D I J 192 rows ts hLV hrow l1 hJ Hfit.out (by omega) hdeg
               have hSs : ∀ r ∈ rows.map (fun r=>r.map dval),∀ d ∈ r,Sm 192 d:=by
                intro r hr d hd
                obtain ⟨x,hx,rfl⟩:=List.mem_map.1 hr
                obtain ⟨y,hy,rfl⟩:=List.mem_map.1 hd
                exact (Hfit.out x hx y hy).2
               have hcnt : ∀ e,e <= D -> cnt V e <= 512:=by
                intro e he
                have h6:=cnt_le V e
                have h7 : (e + 1) ^ V <= 6 ^ V:=Nat.pow_le_pow_left (by omega) V
                have h8 : 6 ^ V <= 6 ^ 3:=Nat.pow_le_pow_right (by decide) hV3
                omega
               have hparts:=formP_parts V D 192 N (rows.map fun r=>r.map dval) ts hN (by omega) (by omega) hcnt hSs (by decide) (fun t ht=>⟨(Htf.out t ht).2,by rw [<- degN_sum];exact (hdeg t ht).2⟩) ts.length (Nat.le_refl _)
               rw [List.take_length] at hparts
               have hto:=fun (rs : List (List Raw)) (B : Nat) (a : Option Addr) (cap : Nat) (W : World)=>fun (hl : rs.length = L) (hcp : L <= cap) (hB1 : 1 <= B) (hB : B <= 100000) (h192 : 192 <= B) (hf : ∀ r ∈ rs,∀ c ∈ r,Fit B c) (hE : toE PV ts rs d = 0) (h1 : At W aP (ts.flatMap termC)) (h2 : Tbl W a rs) (h3 : Tab W)=>to_ok V D PV hV.symm aP nT capP ts a L cap rs B N d hD.symm W HnT.out (by omega) h1 (fun t ht=>(Htf.out t ht).mono h192) hl hL4 hcp h2 hf hB1 hB h3 hD5 hE hN
               obtain ⟨F0,hF0⟩ : ∃ F,formP V D (rows.map fun r=>r.map dval) (trmD ts) = F:=⟨_,rfl⟩
               obtain ⟨F1,hF1⟩ : ∃ F,formP V D ((halfRows rows I J J).map fun r=>r.map dval) (trmD ts) = F:=⟨_,rfl⟩
               obtain ⟨F2,hF2⟩ : ∃ F,formP V D ((halfRows rows I J I).map fun r=>r.map dval) (trmD ts) = F:=⟨_,rfl⟩
               have hto0:=fun W h1 h2 h3=>hto rows 192 a cap W hLl hcap (by decide) (by decide) (by decide) Hfit.out hc0 h1 h2 h3
               have hto1:=fun a cap W hcp h1 h2 h3=>hto (halfRows rows I J J) 195 a cap W (by omega) hcp (by decide) (by decide) (by decide) q3 hE1 h1 h2 h3
               have hto2:=fun a cap W hcp h1 h2 h3=>hto (halfRows rows I J I) 195 a cap W (by omega) hcp (by decide) (by decide) (by decide) q3' hE2 h1 h2 h3
               rw [hF0] at hto0 law1 law2 hparts
               rw [hF1] at hto1 law1
               rw [hF2] at hto2 law2
               have hl9:=fun W=>fun (h : Tbl W a rows) (hT : Tab W)=>longest_ok a L cap V rows 192 W hLl hvV hV1 h Hfit.out (by decide) hT
               rw [hF] at hl9
               simp only at hl9
               have hha:=fun W=>fun (h : Tbl W a rows) (hT : Tab W)=>halve_ok a L cap V rows 192 I J Y W hLl hvV hV1 h Hfit.out (by decide) hT hF
               have hsp:=fun b W=>fun (h : At W (some ⟨b,0,none⟩) (dC F0)) (hT : Tab W)=>split_dy V D PV d hV hD (some ⟨b,0,none⟩) N N F0 hparts.1 I J (I : Int) (J : Int) rfl rfl (192 + 20 * (192 + 4608) + ts.length) W hck (by omega) hJ (by omega) hparts.2 (by have:=HnT.out;omega) h hT
               rw [law1,law2] at hsp
               have hF1l : F1.length = N:=by rw [<- law1,halfL_len,hN]
               have hF2l : F2.length = N:=by rw [<- law2,halfL_len,hN]
               have hsa:=fun (G : List Dyadic) (hG : G.length = N) b1 b2 W=>fun (h1 : At W (some ⟨b1,0,none⟩) (dC G)) (h2 : At W (some ⟨b2,0,none⟩) (dC G))=>same_dy PV d (some ⟨b1,0,none⟩) (some ⟨b2,0,none⟩) N N N G G rfl W hG (by omega) h1 h2
               have hs1:=hsa F1 hF1l
               have hs2:=hsa F2 hF2l
               have Ht0:=lid hto0;have Ht1:=lid hto1;have Ht2:=lid hto2;have Hlo:=lid hl9;have Hha:=lid hha;have Hsp:=lid hsp;have Hs1:=lid hs1;have Hs2:=lid hs2
               clear hto0 hto1 hto2 hl9 hha hsp hs1 hs2 hsa hto hF1l hF2l hF0 hF1 hF2 hparts hcnt hSs law1 law2 hdeg hE1 hE2 q1 q2 q3 q1' q2' q3' l1 l2 hF hJ hck hN5 hN hrow hLV hD5 hV3 hV1 hvV hLl hD hV c1 c2 c3 c4 p1 p2 p3 p4 hv0 ht0 hdt hPL hp0 hb9 hc0
               obtain ⟨p0,p1⟩:=Hp.out.c2
               have HFU : Hid (Tab wr):=HTr.out
               have HFP : Hid (At wr aP (ts.flatMap termC)):=HaP.out.below Hb.out
               have HFA : Hid (Tbl wr a rows):=Ha.out.below Hb.out
               go_wp2_with fail
               refine (Ht0.out _ HFP.out HFA.out HFU.out).mono ?_
               rintro e w1 ⟨bO,rfl,hat,hbn⟩
               clear p0 p1
               replace Hp:=kB Hp hbn
               replace HFU:=kT HFU hbn
               replace HFP:=kA HFP hbn
               replace HFA:=kL HFA hbn
               obtain ⟨p0,p1⟩:=Hp.out.c2
               replace Hb:=bnx Hb hbn;clear hbn
               have HG0 : Hid (At w1 (some ⟨bO,0,none⟩) (dC F0)):=hat
               clear hat
               have lz_p_W2:=Hp.out.lt
               go_wp2_with fail
               obtain ⟨R,hR⟩ : ∃ R : World -> Prop,(fun W2=>Blk W2 (w1.heap.size) 24 [.int .i64 PV,.int .i64 d,.slice (some ⟨bO,0,none⟩) N N] /\ Below w1.heap.size w1 W2) = R:=⟨_,rfl⟩
               first | refine wp_world R ?hR ?_ | refine calls_world R ?hR ?_
               case hR=>subst hR;exact ⟨(Blk.newAt w1 _ _ (b:=w1.heap.size) rfl),((Below.refl _ _).alloc (Nat.le_refl _) _)⟩
               subst hR
               rintro W2 ⟨qf,hbn⟩
               have Hf:=lid qf;clear qf
               clear p0 p1
               replace Hp:=kB Hp hbn
               obtain ⟨p0,p1⟩:=Hp.out.c2
               replace HFU:=kT HFU hbn
               replace HFP:=kA HFP hbn
               replace HFA:=kL HFA hbn
               replace HG0:=kA HG0 hbn
               obtain ⟨f0,f1,f2⟩:=Hf.out.c3
               replace Hb:=bnx Hb hbn;clear hbn
               go_wp2_with fail
               refine (Hlo.out _ HFA.out HFU.out).mono ?_
               rintro e w3 ⟨rfl,hbn⟩
               clear p0 p1
               clear f0 f1 f2
               replace Hp:=kB Hp hbn
               replace HFU:=kT HFU hbn
               replace HFP:=kA HFP hbn
               replace HFA:=kL HFA hbn
               replace HG0:=kA HG0 hbn
               replace Hf:=kB Hf hbn
               obtain ⟨p0,p1⟩:=Hp.out.c2
               obtain ⟨f0,f1,f2⟩:=Hf.out.c3
               replace Hb:=bnx Hb hbn;clear hbn
               have lz_p_W4:=Hp.out.lt
               have lz_f_W4:=Hf.out.lt
               go_wp2_with fail
               obtain ⟨R,hR⟩ : ∃ R : World -> Prop,(fun W4=>Blk W4 (w3.heap.size) 36 [.bool (sgnB (dN Y)),.string (bs (nt (dN Y).natAbs)),.int .i64 (dE Y)] /\ Below w3.heap.size w3 W4) = R:=⟨_,rfl⟩
               first | refine wp_world R ?hR ?_ | refine calls_world R ?hR ?_
               case hR=>subst hR;exact ⟨(Blk.newAt w3 _ _ (b:=w3.heap.size) rfl),((Below.refl _ _).alloc (Nat.le_refl _) _)⟩
               subst hR
               rintro W4 ⟨qy,hbn⟩
               have Hy:=lid qy;clear qy
               clear p0 p1
               replace Hp:=kB Hp hbn
               obtain ⟨p0,p1⟩:=Hp.out.c2
               replace HFU:=kT HFU hbn
               replace HFP:=kA HFP hbn
               replace HFA:=kL HFA hbn
               replace HG0:=kA HG0 hbn
               clear f0 f1 f2
               replace Hf:=kB Hf hbn
               obtain ⟨f0,f1,f2⟩:=Hf.out.c3
               obtain ⟨y0,y1,y2⟩:=Hy.out.c3
               replace Hb:=bnx Hb hbn;clear hbn
               go_wp2_with fail
               refine (Hha.out _ HFA.out HFU.out).mono ?_
               rintro e w5 ⟨a1,cp1,a2,cp2,rfl,hcp1,hcp2,ht1,ht2,hbn⟩
               clear p0 p1
               clear f0 f1 f2
               clear y0 y1 y2
               replace Hp:=kB Hp hbn
               replace HFU:=kT HFU hbn
               replace HFP:=kA HFP hbn
               replace HFA:=kL HFA hbn
               replace HG0:=kA HG0 hbn
               replace Hf:=kB Hf hbn
               replace Hy:=kB Hy hbn
               obtain ⟨p0,p1⟩:=Hp.out.c2
               obtain ⟨f0,f1,f2⟩:=Hf.out.c3
               obtain ⟨y0,y1,y2⟩:=Hy.out.c3
               replace Hb:=bnx Hb hbn;clear hbn
               have HT1 : Hid (Tbl w5 a1 (halfRows rows I J J)):=ht1
               have HT2 : Hid (Tbl w5 a2 (halfRows rows I J I)):=ht2
               clear ht1 ht2
               go_wp2_with fail
               refine (Hsp.out bO _ HG0.out HFU.out).mono ?_
               rintro e w6 ⟨r1,s1,rfl,hat,hat2,hbn⟩
               clear p0 p1
               clear f0 f1 f2
               clear y0 y1 y2
               replace Hp:=kB Hp hbn
               replace HFU:=kT HFU hbn
               replace HFP:=kA HFP hbn
               replace HFA:=kL HFA hbn
               replace HG0:=kA HG0 hbn
               replace Hf:=kB Hf hbn
               replace Hy:=kB Hy hbn
               replace HT1:=kL HT1 hbn
               replace HT2:=kL HT2 hbn
               obtain ⟨p0,p1⟩:=Hp.out.c2
               obtain ⟨f0,f1,f2⟩:=Hf.out.c3
               obtain ⟨y0,y1,y2⟩:=Hy.out.c3
               replace Hb:=bnx Hb hbn;clear hbn
               have HG1 : Hid (At w6 (some ⟨r1,0,none⟩) (dC F1)):=hat
               have HG2 : Hid (At w6 (some ⟨s1,0,none⟩) (dC F2)):=hat2
               clear hat hat2
               have lz_p_W7:=Hp.out.lt
               have lz_f_W7:=Hf.out.lt
               have lz_y_W7:=Hy.out.lt
               go_wp2_with fail
               obtain ⟨R,hR⟩ : ∃ R : World -> Prop,(fun W7=>Blk W7 (w6.heap.size) 24 [.int .i64 PV,.int .i64 d,.slice (some ⟨r1,0,none⟩) N N] /\ Blk W7 (w6.heap.size + 1) 24 [.int .i64 PV,.int .i64 d,.slice (some ⟨s1,0,none⟩) N N] /\ Below w6.heap.size w6 W7) = R:=⟨_,rfl⟩
               first | refine wp_world R ?hR ?_ | refine calls_world R ?hR ?_
               case hR=>subst hR;exact ⟨((Blk.newAt w6 _ _ (b:=w6.heap.size) rfl).alloc _),(Blk.newAt (w6.alloc _) _ _ (b:=w6.heap.size + 1) (by simp)),(((Below.refl _ _).alloc (Nat.le_refl _) _).alloc (by simp<;>omega) _)⟩
               subst hR
               rintro W7 ⟨qg,qh,hbn⟩
               have Hg:=lid qg;clear qg
               have Hh:=lid qh;clear qh
               clear p0 p1
               replace Hp:=kB Hp hbn
               obtain ⟨p0,p1⟩:=Hp.out.c2
               replace HFU:=kT HFU hbn
               replace HFP:=kA HFP hbn
               replace HFA:=kL HFA hbn
               replace HG0:=kA HG0 hbn
               clear f0 f1 f2
               replace Hf:=kB Hf hbn
               obtain ⟨f0,f1,f2⟩:=Hf.out.c3
               clear y0 y1 y2
               replace Hy:=kB Hy hbn
               obtain ⟨y0,y1,y2⟩:=Hy.out.c3
               replace HT1:=kL HT1 hbn
               replace HT2:=kL HT2 hbn
               replace HG1:=kA HG1 hbn
               replace HG2:=kA HG2 hbn
               obtain ⟨g0,g1,g2⟩:=Hg.out.c3
               obtain ⟨h0,h1,h2⟩:=Hh.out.c3
               replace Hb:=bnx Hb hbn;clear hbn
               go_wp2_with fail
               refine (Ht1.out a1 cp1 _ hcp1 HFP.out HT1.out HFU.out).mono ?_
               rintro e w8 ⟨b3,rfl,hat,hbn⟩
               clear p0 p1
               clear f0 f1 f2
               clear y0 y1 y2
               clear g0 g1 g2
               clear h0 h1 h2
               replace Hp:=kB Hp hbn
               replace HFU:=kT HFU hbn
               replace HFP:=kA HFP hbn
               replace HFA:=kL HFA hbn
               replace HG0:=kA HG0 hbn
               replace Hf:=kB Hf hbn
               replace Hy:=kB Hy hbn
               replace HT1:=kL HT1 hbn
               replace HT2:=kL HT2 hbn
               replace HG1:=kA HG1 hbn
               replace HG2:=kA HG2 hbn
               replace Hg:=kB Hg hbn
               replace Hh:=kB Hh hbn
               obtain ⟨p0,p1⟩:=Hp.out.c2
               obtain ⟨f0,f1,f2⟩:=Hf.out.c3
               obtain ⟨y0,y1,y2⟩:=Hy.out.c3
               obtain ⟨g0,g1,g2⟩:=Hg.out.c3
               obtain ⟨h0,h1,h2⟩:=Hh.out.c3
               replace Hb:=bnx Hb hbn;clear hbn
               have HG3 : Hid (At w8 (some ⟨b3,0,none⟩) (dC F1)):=hat
               clear hat
               have lz_p_W9:=Hp.out.lt
               have lz_f_W9:=Hf.out.lt
               have lz_y_W9:=Hy.out.lt
               have lz_g_W9:=Hg.out.lt
               have lz_h_W9:=Hh.out.lt
               go_wp2_with fail
               obtain ⟨R,hR⟩ : ∃ R : World -> Prop,(fun W9=>Blk W9 (w8.heap.size) 24 [.int .i64 PV,.int .i64 d,.slice (some ⟨b3,0,none⟩) N N] /\ Below w8.heap.size w8 W9) = R:=⟨_,rfl⟩
               first | refine wp_world R ?hR ?_ | refine calls_world R ?hR ?_
               case hR=>subst hR;exact ⟨(Blk.newAt w8 _ _ (b:=w8.heap.size) rfl),((Below.refl _ _).alloc (Nat.le_refl _) _)⟩
               subst hR
               rintro W9 ⟨qu,hbn⟩
               have Hu:=lid qu;clear qu
               clear p0 p1
               replace Hp:=kB Hp hbn
               obtain ⟨p0,p1⟩:=Hp.out.c2
               replace HFU:=kT HFU hbn
               replace HFP:=kA HFP hbn
               replace HFA:=kL HFA hbn
               replace HG0:=kA HG0 hbn
               clear f0 f1 f2
               replace Hf:=kB Hf hbn
               obtain ⟨f0,f1,f2⟩:=Hf.out.c3
               clear y0 y1 y2
               replace Hy:=kB Hy hbn
               obtain ⟨y0,y1,y2⟩:=Hy.out.c3
               replace HT1:=kL HT1 hbn
               replace HT2:=kL HT2 hbn
               replace HG1:=kA HG1 hbn
               replace HG2:=kA HG2 hbn
               clear g0 g1 g2
               replace Hg:=kB Hg hbn
               obtain ⟨g0,g1,g2⟩:=Hg.out.c3
               clear h0 h1 h2
               replace Hh:=kB Hh hbn
               obtain ⟨h0,h1,h2⟩:=Hh.out.c3
               replace HG3:=kA HG3 hbn
               obtain ⟨u0,u1,u2⟩:=Hu.out.c3
               replace Hb:=bnx Hb hbn;clear hbn
               go_wp2_with fail
               refine (Ht2.out a2 cp2 _ hcp2 HFP.out HT2.out HFU.out).mono ?_
               rintro e v1 ⟨b4,rfl,hat,hbn⟩
               clear p0 p1
               clear f0 f1 f2
               clear y0 y1 y2
               clear g0 g1 g2
               clear h0 h1 h2
               clear u0 u1 u2
               replace Hp:=kB Hp hbn
               replace HFU:=kT HFU hbn
               replace HFP:=kA HFP hbn
               replace HFA:=kL HFA hbn
               replace HG0:=kA HG0 hbn
               replace Hf:=kB Hf hbn
               replace Hy:=kB Hy hbn
               replace HT1:=kL HT1 hbn
               replace HT2:=kL HT2 hbn
               replace HG1:=kA HG1 hbn
               replace HG2:=kA HG2 hbn
               replace Hg:=kB Hg hbn
               replace Hh:=kB Hh hbn
               replace HG3:=kA HG3 hbn
               replace Hu:=kB Hu hbn
               obtain ⟨p0,p1⟩:=Hp.out.c2
               obtain ⟨f0,f1,f2⟩:=Hf.out.c3
               obtain ⟨y0,y1,y2⟩:=Hy.out.c3
               obtain ⟨g0,g1,g2⟩:=Hg.out.c3
               obtain ⟨h0,h1,h2⟩:=Hh.out.c3
               obtain ⟨u0,u1,u2⟩:=Hu.out.c3
               replace Hb:=bnx Hb hbn;clear hbn
               have HG4 : Hid (At v1 (some ⟨b4,0,none⟩) (dC F2)):=hat
               clear hat
               have lz_p_V2:=Hp.out.lt
               have lz_f_V2:=Hf.out.lt
               have lz_y_V2:=Hy.out.lt
               have lz_g_V2:=Hg.out.lt
               have lz_h_V2:=Hh.out.lt
               have lz_u_V2:=Hu.out.lt
               go_wp2_with fail
               obtain ⟨R,hR⟩ : ∃ R : World -> Prop,(fun V2=>Blk V2 (v1.heap.size) 24 [.int .i64 PV,.int .i64 d,.slice (some ⟨b4,0,none⟩) N N] /\ Below v1.heap.size v1 V2) = R:=⟨_,rfl⟩
               first | refine wp_world R ?hR ?_ | refine calls_world R ?hR ?_
               case hR=>subst hR;exact ⟨(Blk.newAt v1 _ _ (b:=v1.heap.size) rfl),((Below.refl _ _).alloc (Nat.le_refl _) _)⟩
               subst hR
               rintro V2 ⟨qv,hbn⟩
               have Hv:=lid qv;clear qv
               clear p0 p1
               replace Hp:=kB Hp hbn
               obtain ⟨p0,p1⟩:=Hp.out.c2
               replace HFU:=kT HFU hbn
               replace HFP:=kA HFP hbn
               replace HFA:=kL HFA hbn
               replace HG0:=kA HG0 hbn
               clear f0 f1 f2
               replace Hf:=kB Hf hbn
               obtain ⟨f0,f1,f2⟩:=Hf.out.c3
               clear y0 y1 y2
               replace Hy:=kB Hy hbn
               obtain ⟨y0,y1,y2⟩:=Hy.out.c3
               replace HT1:=kL HT1 hbn
               replace HT2:=kL HT2 hbn
               replace HG1:=kA HG1 hbn
               replace HG2:=kA HG2 hbn
               clear g0 g1 g2
               replace Hg:=kB Hg hbn
               obtain ⟨g0,g1,g2⟩:=Hg.out.c3
               clear h0 h1 h2
               replace Hh:=kB Hh hbn
               obtain ⟨h0,h1,h2⟩:=Hh.out.c3
               replace HG3:=kA HG3 hbn
               clear u0 u1 u2
               replace Hu:=kB Hu hbn
               obtain ⟨u0,u1,u2⟩:=Hu.out.c3
               replace HG4:=kA HG4 hbn
               obtain ⟨v0,v1,v2⟩:=Hv.out.c3
               replace Hb:=bnx Hb hbn;clear hbn
               go_wp2_with fail
               refine (Hs1.out r1 b3 _ HG1.out HG3.out).mono ?_
               rintro e v3 ⟨rfl,hbn⟩
               clear p0 p1
               clear f0 f1 f2
               clear y0 y1 y2
               clear g0 g1 g2
               clear h0 h1 h2
               clear u0 u1 u2
               clear v0 v1 v2
               replace Hp:=kB Hp hbn
               replace HFU:=kT HFU hbn
               replace HFP:=kA HFP hbn
               replace HFA:=kL HFA hbn
               replace HG0:=kA HG0 hbn
               replace Hf:=kB Hf hbn
               replace Hy:=kB Hy hbn
               replace HT1:=kL HT1 hbn
               replace HT2:=kL HT2 hbn
               replace HG1:=kA HG1 hbn
               replace HG2:=kA HG2 hbn
               replace Hg:=kB Hg hbn
               replace Hh:=kB Hh hbn
               replace HG3:=kA HG3 hbn
               replace Hu:=kB Hu hbn
               replace HG4:=kA HG4 hbn
               replace Hv:=kB Hv hbn
               obtain ⟨p0,p1⟩:=Hp.out.c2
               obtain ⟨f0,f1,f2⟩:=Hf.out.c3
               obtain ⟨y0,y1,y2⟩:=Hy.out.c3
               obtain ⟨g0,g1,g2⟩:=Hg.out.c3
               obtain ⟨h0,h1,h2⟩:=Hh.out.c3
               obtain ⟨u0,u1,u2⟩:=Hu.out.c3
               obtain ⟨v0,v1,v2⟩:=Hv.out.c3
               replace Hb:=bnx Hb hbn;clear hbn
               go_wp2_with fail
               refine (Hs2.out s1 b4 _ HG2.out HG4.out).mono ?_
               rintro e v4 ⟨rfl,hbn⟩
               clear p0 p1
               clear f0 f1 f2
               clear y0 y1 y2
               clear g0 g1 g2
               clear h0 h1 h2
               clear u0 u1 u2
               clear v0 v1 v2
               replace Hp:=kB Hp hbn
               replace HFU:=kT HFU hbn
               replace HFP:=kA HFP hbn
               replace HFA:=kL HFA hbn
               replace HG0:=kA HG0 hbn
               replace Hf:=kB Hf hbn
               replace Hy:=kB Hy hbn
               replace HT1:=kL HT1 hbn
               replace HT2:=kL HT2 hbn
               replace HG1:=kA HG1 hbn
               replace HG2:=kA HG2 hbn
               replace Hg:=kB Hg hbn
               replace Hh:=kB Hh hbn
               replace HG3:=kA HG3 hbn
               replace Hu:=kB Hu hbn
               replace HG4:=kA HG4 hbn
               replace Hv:=kB Hv hbn
               obtain ⟨p0,p1⟩:=Hp.out.c2
               obtain ⟨f0,f1,f2⟩:=Hf.out.c3
               obtain ⟨y0,y1,y2⟩:=Hy.out.c3
               obtain ⟨g0,g1,g2⟩:=Hg.out.c3
               obtain ⟨h0,h1,h2⟩:=Hh.out.c3
               obtain ⟨u0,u1,u2⟩:=Hu.out.c3
               obtain ⟨v0,v1,v2⟩:=Hv.out.c3
               replace Hb:=bnx Hb hbn;clear hbn
               go_wp2_with fail
               refine (awake_any _ HFU.out).mono ?_
               rintro e v5 ⟨rfl,hbn⟩
               clear p0 p1
               clear f0 f1 f2
               clear y0 y1 y2
               clear g0 g1 g2
               clear h0 h1 h2
               clear u0 u1 u2
               clear v0 v1 v2
               replace Hp:=kB Hp hbn
               replace HFU:=kT HFU hbn
               replace HFP:=kA HFP hbn
               replace HFA:=kL HFA hbn
               replace HG0:=kA HG0 hbn
               replace Hf:=kB Hf hbn
               replace Hy:=kB Hy hbn
               replace HT1:=kL HT1 hbn
               replace HT2:=kL HT2 hbn
               replace HG1:=kA HG1 hbn
               replace HG2:=kA HG2 hbn
               replace Hg:=kB Hg hbn
               replace Hh:=kB Hh hbn
               replace HG3:=kA HG3 hbn
               replace Hu:=kB Hu hbn
               replace HG4:=kA HG4 hbn
               replace Hv:=kB Hv hbn
               obtain ⟨p0,p1⟩:=Hp.out.c2
               obtain ⟨f0,f1,f2⟩:=Hf.out.c3
               obtain ⟨y0,y1,y2⟩:=Hy.out.c3
               obtain ⟨g0,g1,g2⟩:=Hg.out.c3
               obtain ⟨h0,h1,h2⟩:=Hh.out.c3
               obtain ⟨u0,u1,u2⟩:=Hu.out.c3
               obtain ⟨v0,v1,v2⟩:=Hv.out.c3
               replace Hb:=bnx Hb hbn;clear hbn
               go_wp2
               refine bodyPost_ret (results_tmp rfl _ _ _) rfl ⟨rfl,Hb.out⟩
             . obtain ⟨c,hc⟩ : ∃ c,toE PV ts rows d = c:=⟨_,rfl⟩
               rw [hc] at hc0
               have hto:=fun W=>fun (h1 : At W aP (ts.flatMap termC)) (h2 : Tbl W a rows) (h3 : Tab W)=>to_err PV aP nT capP ts a L cap rows 192 d W HnT.out (by omega) h1 Hts.out HL.out hL4 hcap h2 Hfit.out (by decide) h3 (by omega) c hc hc0
               have hcb : (c == 0) = false:=by simpa using hc0
               have Hto:=lid hto
               clear hto hc
               obtain ⟨p0,p1⟩:=Hp.out.c2
               go_wp2_with fail
               refine (Hto.out _ (HaP.out.below Hb.out) (Ha.out.below Hb.out) (HT0.out.below Hb.out)).mono ?_
               rintro e w1 ⟨rfl,hbn⟩
               clear p0 p1
               replace Hp:=kB Hp hbn
               obtain ⟨p0,p1⟩:=Hp.out.c2
               replace Hb:=bnx Hb hbn;clear hbn
               have sz9:=Hb.out.size
               have lz_p_W2:=Hp.out.lt
               obtain ⟨W2,hW_W2⟩ : ∃ W2,(w1.alloc (.cells #[.int .i64 0,.int .i64 0,.slice none 0 0] 24)) = W2:=⟨_,rfl⟩
               have hbn : Below w1.heap.size w1 W2:=by rw [<- hW_W2];exact ((Below.refl _ _).alloc (Nat.le_refl _) _)
               clear p0 p1
               replace Hp:=kB Hp hbn
               have Hf : Hid (Blk W2 (w1.heap.size) 24 [.int .i64 0,.int .i64 0,.slice none 0 0]):=by rw [<- hW_W2];exact Blk.newAt _ _ _ (by simp)
               obtain ⟨p0,p1⟩:=Hp.out.c2
               obtain ⟨f0,ff0,f1,ff1,f2,ff2⟩:=Hf.out.g3
               replace Hb:=bnx Hb hbn;clear hbn
               go_wp2_with fail
               clear p0 p1
               clear f0 ff0 f1 ff1 f2 ff2
               obtain ⟨R,hR⟩ : ∃ R : World -> Prop,(fun W3=>Blk W3 (w.heap.size) 43 [.int .i64 PV,.slice aP nT capP] /\ Blk W3 (w1.heap.size) 24 [.int .i64 0,.int .i64 0,.slice none 0 0] /\ Below w.heap.size w W3) = R:=⟨_,rfl⟩
               first | refine wp_world R ?hR ?_ | refine calls_world R ?hR ?_
               case hR=>subst hR;exact ⟨(((Hp.out.so (w1.heap.size) 0 (by omega) _).so (w1.heap.size) 1 (by omega) _).so (w1.heap.size) 2 (by omega) _),(((Hf.out.set 0 _).set 1 _).set 2 _),(((Hb.out.sc (w1.heap.size) 0 (by have:=Hb.out.size;omega) _).sc (w1.heap.size) 1 (by have:=Hb.out.size;omega) _).sc (w1.heap.size) 2 (by have:=Hb.out.size;omega) _)⟩
               subst hR
               rintro W3 ⟨qp,qf,hbn⟩
               replace Hp:=lid qp;clear qp
               replace Hf:=lid qf;clear qf
               obtain ⟨p0,p1⟩:=Hp.out.c2
               obtain ⟨f0,ff0,f1,ff1,f2,ff2⟩:=Hf.out.g3
               replace Hb:=lid hbn;clear hbn
               go_wp2_with fail
               refine (awake_any _ (HT0.out.below Hb.out)).mono ?_
               rintro e w4 ⟨rfl,hbn⟩
               clear p0 p1
               clear f0 ff0 f1 ff1 f2 ff2
               replace Hp:=kB Hp hbn
               replace Hf:=kB Hf hbn
               obtain ⟨p0,p1⟩:=Hp.out.c2
               obtain ⟨f0,ff0,f1,ff1,f2,ff2⟩:=Hf.out.g3
               replace Hb:=bnx Hb hbn;clear hbn
               go_wp2
               refine bodyPost_ret (results_tmp rfl _ _ _) rfl ⟨rfl,Hb.out⟩
end Go.Proofs.YtidjljldhdckiaaGreatDoor
