/- Package poly: Check. -/
import Derived.Test.YtidjljldhdckiaaGreatDoorZ11
import Derived.Test.YtidjljldhdckiaaGreatDoorZ7
set_option maxRecDepth 100000
set_option maxHeartbeats 16000000
namespace Go.Proofs.YtidjljldhdckiaaGreatDoor
open Go.RowKit
attribute [local go_sem ↓] Go.wp_at_zero Go.wp_at_succ
theorem numNe (X : Dyadic) (s : Bool) (m : List UInt8) (e : Int) (b : Bool) (h : (canon X == (s,m,e)) = !b) (w' : World) :
 (if sgnB (dN X) = s then if (bs (nt (dN X).natAbs)).toList = (bs m).toList then if dE X = e then Result.ok (Next.value (Value.bool false)) w' else Result.ok (Next.value (Value.bool true)) w' else Result.ok (Next.value (Value.bool true)) w' else Result.ok (Next.value (Value.bool true)) w') = Result.ok (Next.value (Value.bool b)) w':=by
 have ht : ∀ x y : List UInt8,(bs x).toList = (bs y).toList ↔ x = y:=fun x y=>by rw [bs_toList,bs_toList]
 have hc : (canon X == (s,m,e)) = decide (sgnB (dN X) = s /\ nt (dN X).natAbs = m /\ dE X = e):=by
  rw [Bool.eq_iff_iff]
  simp [canon]
 rw [hc] at h
 simp only [ht]
 cases b with
 | false =>
   have h2 : sgnB (dN X) = s /\ nt (dN X).natAbs = m /\ dE X = e:=by simpa using h
   rw [if_pos h2.1,if_pos h2.2.1,if_pos h2.2.2]
 | true =>
   have h2 : ¬ (sgnB (dN X) = s /\ nt (dN X).natAbs = m /\ dE X = e):=by
    intro h3;rw [decide_eq_true h3] at h;cases h
   by_cases h3 : sgnB (dN X) = s
   . rw [if_pos h3]
     by_cases h4 : nt (dN X).natAbs = m
     . rw [if_pos h4,if_neg (fun h5=>h2 ⟨h3,h4,h5⟩)]
     . rw [if_neg h4]
   . rw [if_neg h3]
theorem pcheck_any (V : Int) (a : Option Addr) (cap N : Nat) (ts : List Trm) (w : World) (hN : ts.length = N) (hn : N <= 1048576) (ha : At w a (ts.flatMap termC)) (hl : ∀ t ∈ ts,t.1.length <= 9223372036854775807 /\ Ok t.2) (hT : Tab w) :
 Calls Tryz.prog 30 #[.agg #[.int .i64 V,.slice a N cap]] w fun e w'=>e = .returned (.int .i64 (pchk V ts)) /\ Below w.heap.size w w':=by
 have Ha:=lid ha;have Hl:=lid hl;have HN:=lid hN;have HT0:=lid hT
 obtain ⟨R,hR⟩ : ∃ R,pchk V ts = R:=⟨_,rfl⟩
 unfold pchk at hR
 rw [hN] at hR
 rw [show pchk V ts = R by unfold pchk;rw [hN];exact hR]
 have HR:=lid hR
 clear ha hl hN hR hT
 obtain ⟨W,hW_W⟩ : ∃ W,(w.alloc (.cells #[.int .i64 V,.slice a N cap] 43)) = W:=⟨_,rfl⟩
 have Hb : Hid (Below w.heap.size w W):=by rw [<- hW_W];exact ((Below.refl _ _).alloc (Nat.le_refl _) _)
 have Hp : Hid (Blk W (w.heap.size) 43 [.int .i64 V,.slice a N cap]):=by rw [<- hW_W];exact Blk.newAt _ _ _ (by simp)
 obtain ⟨p0,p1⟩:=Hp.out.c2
 go_enter Tryz.func30,Tryz.ntmps30
 go_wp2_with fail
 refine (few_any V _).mono ?_
 rintro e w1 ⟨rfl,hbn⟩
 clear p0 p1
 replace Hp:=kB Hp hbn
 obtain ⟨p0,p1⟩:=Hp.out.c2
 replace Hb:=bnx Hb hbn;clear hbn
 by_cases h1 : 0 <= V /\ V <= 12
 . by_cases h2 : 4096 < N
   . have h3 : (4096 : Int) < (N : Int):=by omega
     have hR:=HR.out
     rw [if_neg (fun h=>h h1),if_pos h2] at hR
     clear HR
     subst hR
     go_wp2
     refine bodyPost_ret (v:=.int .i64 3) (by simp [results,Tryz.results30,go_sem]) rfl ⟨rfl,?_⟩
     (repeat first | exact Hb.out | (refine Below.setCell ?_ (by have:=Hb.out.size;first | (dsimp only;omega) | (show _ <= _;omega) | (simp<;>omega)) _) | (refine Below.alloc ?_ (by have:=Hb.out.size;simp<;>omega) _) | refine Below.drew ?_)
   . have h3 : ¬ (4096 : Int) < (N : Int):=by omega
     have h3d : decide ((4096 : Int) < (N : Int)) = false:=by simp;omega
     have hR : Hid ((if (List.range N).all (goodAt V ts) then (0 : Int) else 1) = R):=by
      show _ = _
      have hR:=HR.out
      rw [if_neg (fun h=>h h1),if_neg h2] at hR
      exact hR
     clear HR
     have Hb1:=lid Hb.out;have Hp1:=lid Hp.out
     clear Hb Hp p0 p1
     have p0 : w1.cell? ⟨w.heap.size,0,none⟩ = some (.int .i64 V):=Hp1.out.cell 0
     have p1 : w1.cell? ⟨w.heap.size,1,none⟩ = some (.slice a N cap):=Hp1.out.cell 1
     go_wp2_with fail
     go_loopw [16] (fun x wr=>∃ k : Nat,k <= N /\ x = .int .i64 (k : Int) /\ (List.range k).all (goodAt V ts) = true /\ Blk wr w.heap.size 43 [.int .i64 V,.slice a N cap] /\ Below w.heap.size w wr) (fun x _=>N - (intOf x).toNat)
     case atStart=>exact ⟨0,Nat.zero_le _,rfl,rfl,Hp1.out,Hb1.out⟩
     case round=>
      clear Hb1 Hp1 p0 p1
      obtain ⟨k,hk,rfl,hgk,hpp,pb⟩:=hrel
      by_cases hlt : k < N
      . have hk2 : k < ts.length:=by rw [HN.out];exact hlt
        obtain ⟨l,s,m,e,hx⟩ : ∃ l s m e,ts[k] = (l,s,m,e):=⟨_,_,_,_,rfl⟩
        obtain ⟨b,o,hab,hwin⟩:=(Ha.out.below pb).term k hk2 hx
        have hl2 : l.length <= 9223372036854775807 /\ Ok (s,m,e):=by have:=Hl.out _ (List.getElem_mem hk2);rw [hx] at this;exact this
        have egd : ts.getD k default = (l,s,m,e):=by simp [hk2,hx]
        have hgn : (List.range (k + 1)).all (goodAt V ts) = goodAt V ts k:=by rw [List.range_succ,List.all_append,hgk];simp
        have hbad : goodAt V ts k = false -> R = 1:=by
         intro h
         rw [<- hR.out,if_neg]
         intro h5
         rw [List.all_eq_true] at h5
         have:=h5 k (List.mem_range.2 hlt)
         rw [h] at this
         cases this
        have hga : goodAt V ts k = (goodT V l (s,m,e) && (k == 0 || Op.bytesLess (bs (ts.getD (k - 1) default).1).toList (bs l).toList)):=by unfold goodAt;rw [egd]
        have hix:=i41x49 N cap k (k : Int) hab hlt rfl
        obtain ⟨X,hX⟩ : ∃ X,dval (s,m,e) = X:=⟨_,rfl⟩
        obtain ⟨sg,hsg⟩ : ∃ sg,dsg X = sg:=⟨_,rfl⟩
        have hgt : goodT V l (s,m,e) = (mayM l V && !(sg == 0) && (canon X == (s,m,e))):=by unfold goodT;rw [hX,hsg]
        rw [hgt] at hga
        have Hwn:=lid hwin;have Hl2:=lid hl2;have Hpb:=lid pb;have Hga:=lid hga;have Hgn:=lid hgn;have Hbad:=lid hbad;have HX:=lid hX;have Hsg : Hid (dsg (dval (s,m,e)) = sg):=by show _ = _;rw [hX];exact hsg
        have Hp:=lid hpp
        have HU : Hid (Tab wr):=HT0.out.below pb
        clear hwin hl2 hga hgn hbad hX hsg hgt egd hpp hx
        have Hab:=lid hab;clear hab
        have Hb : Hid (Below wr.heap.size wr wr):=Below.refl _ _
        have sz:=pb.size
        have Htr : Hid (Win wr b (o + k * 4) [.string (bs l),.bool s,.string (bs m),.int .i64 e]):=Hwn.out
        obtain ⟨p0,p1⟩:=Hp.out.c2
        obtain ⟨tr0,tr1,tr2,tr3⟩:=Htr.out.w4
        have HU : Hid (Tab wr):=HU.out
        have P0:=tr0;have P1:=tr1;have P2:=tr2;have P3:=tr3
        have lz_p_W4:=Hp.out.lt
        obtain ⟨W4,hW_W4⟩ : ∃ W4,(wr.alloc (.cells #[.string (bs l),.bool s,.string (bs m),.int .i64 e] 49)) = W4:=⟨_,rfl⟩
        have hbn : Below wr.heap.size wr W4:=by rw [<- hW_W4];exact ((Below.refl _ _).alloc (Nat.le_refl _) _)
        clear p0 p1
        replace Hp:=kB Hp hbn
        clear tr0 tr1 tr2 tr3
        replace Htr:=kW Htr hbn
        replace HU:=kT HU hbn
        have Ht : Hid (Blk W4 (wr.heap.size) 49 [.string (bs l),.bool s,.string (bs m),.int .i64 e]):=by rw [<- hW_W4];exact Blk.newAt _ _ _ (by simp)
        obtain ⟨p0,p1⟩:=Hp.out.c2
        obtain ⟨tr0,tr1,tr2,tr3⟩:=Htr.out.w4
        obtain ⟨t0,t1,t2,t3⟩:=Ht.out.c4
        replace Hb:=bnx Hb hbn;clear hbn
        clear tr0 tr1 tr2 tr3
        clear Htr
        clear Hwn
        cases hmv : mayM l V with
        | false =>
          have hr:=Hbad.out (by rw [Hga.out,hmv];rfl)
          subst hr
          have hmay:=fun W=>mmay_any l V W (by have:=Hl2.out.1;omega)
          rw [hmv] at hmay
          have Hmay:=lid hmay
          clear hmay
          go_wp2_with fail
          refine wp_region_plan (fun w'=>w'.cell? ⟨w.heap.size,0,none⟩ = some (.int .i64 V) /\ w'.cell? ⟨w.heap.size,1,none⟩ = some (.slice a N cap) /\ w'.cell? ⟨wr.heap.size,0,none⟩ = some (.string (bs l)) /\ w'.cell? ⟨wr.heap.size,1,none⟩ = some (.bool s) /\ w'.cell? ⟨wr.heap.size,2,none⟩ = some (.string (bs m)) /\ w'.cell? ⟨wr.heap.size,3,none⟩ = some (.int .i64 e)) (fun i=>Nat.blt i 100000) [(0,true),(1,true),(2,true),(3,true),(4,false),(5,true),(6,true),(7,true),(8,true),(9,false),(10,true),(11,true),(12,true),(13,true),(14,true),(16,true),(17,true),(15,false),(18,true),(19,true),(20,true),(21,true),(22,true),(23,true),(24,true),(25,true),(26,true),(27,true),(28,true),(29,true),(30,true),(31,true),(32,true),(33,true),(34,true),(35,true)] (by kernel_rfl) (by kernel_rfl) rfl (by kernel_rfl) (fun o c a v w=>by cases o.dst<;>exact id) ⟨p0,p1,t0,t1,t2,t3⟩ ?_
          iterate 4 (refine planT rfl rfl (v:=?_) (fun w' hw'=>?_) ?_;rotate_left;(focus obtain ⟨q0,q1,q2,q3,q4,q5⟩:=hw';go_simp;try with_reducible rfl);try simp only [Act.put,U1,U2,U3])
          refine planF rfl rfl (fun K hK=>?_)
          go_simp
          with_reducible refine (Hmay.out _).mono ?_
          rintro e w5 ⟨rfl,hq⟩
          have hbn : Below W4.heap.size W4 w5:=by first | exact hq | exact bundrew hq
          clear p0 p1
          clear t0 t1 t2 t3
          replace Hp:=kB Hp hbn
          replace HU:=kT HU hbn
          replace Ht:=kB Ht hbn
          obtain ⟨p0,p1⟩:=Hp.out.c2
          obtain ⟨t0,t1,t2,t3⟩:=Ht.out.c4
          replace Hb:=bnx Hb hbn;clear hbn
          refine hK _ _ (fun _=>⟨p0,p1,t0,t1,t2,t3⟩) ?_;clear hK K
          try simp only [Act.put,U1,U2,U3]
          iterate 2 (refine planT rfl rfl (v:=?_) (fun w' hw'=>?_) ?_;rotate_left;(focus go_simp;try with_reducible rfl);try simp only [Act.put,U1,U2,U3])
          refine planN rfl rfl ?_
          try simp only [Act.put,U1,U2,U3]
          refine planN rfl rfl ?_
          try simp only [Act.put,U1,U2,U3]
          refine planNF rfl rfl (fun _=>⟨p0,p1,t0,t1,t2,t3⟩) ?_
          try simp only [Act.put,U1,U2,U3]
          refine planN rfl rfl ?_
          try simp only [Act.put,U1,U2,U3]
          iterate 2 (refine planT rfl rfl (v:=?_) (fun w' hw'=>?_) ?_;rotate_left;(focus go_simp;try with_reducible rfl);try simp only [Act.put,U1,U2,U3])
          refine planN rfl rfl ?_
          try simp only [Act.put,U1,U2,U3]
          refine planN rfl rfl ?_
          try simp only [Act.put,U1,U2,U3]
          refine planN rfl rfl ?_
          try simp only [Act.put,U1,U2,U3]
          refine planN rfl rfl ?_
          try simp only [Act.put,U1,U2,U3]
          refine planNF rfl rfl (fun _=>⟨p0,p1,t0,t1,t2,t3⟩) ?_
          try simp only [Act.put,U1,U2,U3]
          refine planN rfl rfl ?_
          try simp only [Act.put,U1,U2,U3]
          iterate 2 (refine planT rfl rfl (v:=?_) (fun w' hw'=>?_) ?_;rotate_left;(focus go_simp;try with_reducible rfl);try simp only [Act.put,U1,U2,U3])
          refine planN rfl rfl ?_
          try simp only [Act.put,U1,U2,U3]
          refine planN rfl rfl ?_
          try simp only [Act.put,U1,U2,U3]
          refine planN rfl rfl ?_
          try simp only [Act.put,U1,U2,U3]
          refine planN rfl rfl ?_
          try simp only [Act.put,U1,U2,U3]
          refine planN rfl rfl ?_
          try simp only [Act.put,U1,U2,U3]
          refine planN rfl rfl ?_
          try simp only [Act.put,U1,U2,U3]
          refine planN rfl rfl ?_
          try simp only [Act.put,U1,U2,U3]
          refine planN rfl rfl ?_
          try simp only [Act.put,U1,U2,U3]
          refine planN rfl rfl ?_
          try simp only [Act.put,U1,U2,U3]
          refine planN rfl rfl ?_
          try simp only [Act.put,U1,U2,U3]
          refine planN rfl rfl ?_
          try simp only [Act.put,U1,U2,U3]
          refine planN rfl rfl ?_
          try simp only [Act.put,U1,U2,U3]
          refine planN rfl rfl ?_
          try simp only [Act.put,U1,U2,U3]
          refine planN rfl rfl ?_
          try simp only [Act.put,U1,U2,U3]
          refine planT rfl rfl (v:=?_) (fun w' hw'=>?_) ?_;rotate_left;(focus go_simp;try with_reducible rfl);try simp only [Act.put,U1,U2,U3]
          simp only [wpPlan]
          go_wp2
          refine bodyPost_ret (results_tmp rfl _ _ _) rfl ⟨rfl,bnext Hpb.out Hb.out⟩
        | true =>
          have hmay:=fun W=>mmay_any l V W (by have:=Hl2.out.1;omega)
          rw [hmv] at hmay
          have Hmay:=lid hmay
          clear hmay
          by_cases hs0 : sg = 0
          . have hr:=Hbad.out (by rw [Hga.out,hmv,hs0];rfl)
            subst hr hs0
            go_wp2_with fail
            refine wp_region_plan (fun w'=>w'.cell? ⟨w.heap.size,0,none⟩ = some (.int .i64 V) /\ w'.cell? ⟨w.heap.size,1,none⟩ = some (.slice a N cap) /\ w'.cell? ⟨wr.heap.size,0,none⟩ = some (.string (bs l)) /\ w'.cell? ⟨wr.heap.size,1,none⟩ = some (.bool s) /\ w'.cell? ⟨wr.heap.size,2,none⟩ = some (.string (bs m)) /\ w'.cell? ⟨wr.heap.size,3,none⟩ = some (.int .i64 e)) (fun i=>Nat.blt i 100000) [(0,true),(1,true),(2,true),(3,true),(4,false),(5,true),(6,true),(7,true),(8,true),(9,false),(10,true),(11,true),(12,true),(13,true),(14,true),(16,true),(17,true),(15,false),(18,true),(19,true),(20,true),(21,true),(22,true),(23,true),(24,true),(25,true),(26,true),(27,true),(28,true),(29,true),(30,true),(31,true),(32,true),(33,true),(34,true),(35,true)] (by kernel_rfl) (by kernel_rfl) rfl (by kernel_rfl) (fun o c a v w=>by cases o.dst<;>exact id) ⟨p0,p1,t0,t1,t2,t3⟩ ?_
            iterate 4 (refine planT rfl rfl (v:=?_) (fun w' hw'=>?_) ?_;rotate_left;(focus obtain ⟨q0,q1,q2,q3,q4,q5⟩:=hw';go_simp;try with_reducible rfl);try simp only [Act.put,U1,U2,U3])
            refine planF rfl rfl (fun K hK=>?_)
            go_simp
            with_reducible refine (Hmay.out _).mono ?_
            rintro e w5 ⟨rfl,hq⟩
            have hbn : Below W4.heap.size W4 w5:=by first | exact hq | exact bundrew hq
            clear p0 p1
            clear t0 t1 t2 t3
            replace Hp:=kB Hp hbn
            replace HU:=kT HU hbn
            replace Ht:=kB Ht hbn
            obtain ⟨p0,p1⟩:=Hp.out.c2
            obtain ⟨t0,t1,t2,t3⟩:=Ht.out.c4
            replace Hb:=bnx Hb hbn;clear hbn
            refine hK _ _ (fun _=>⟨p0,p1,t0,t1,t2,t3⟩) ?_;clear hK K
            try simp only [Act.put,U1,U2,U3]
            iterate 4 (refine planT rfl rfl (v:=?_) (fun w' hw'=>?_) ?_;rotate_left;(focus obtain ⟨q0,q1,q2,q3,q4,q5⟩:=hw';go_simp;try with_reducible rfl);try simp only [Act.put,U1,U2,U3])
            refine planF rfl rfl (fun K hK=>?_)
            go_simp
            with_reducible refine (dsign_any s m e 0 Hsg.out _ Hl2.out.2).mono ?_
            rintro e w6 ⟨rfl,hq⟩
            have hbn : Below w5.heap.size w5 w6:=by first | exact hq | exact bundrew hq
            clear p0 p1
            clear t0 t1 t2 t3
            replace Hp:=kB Hp hbn
            replace HU:=kT HU hbn
            replace Ht:=kB Ht hbn
            obtain ⟨p0,p1⟩:=Hp.out.c2
            obtain ⟨t0,t1,t2,t3⟩:=Ht.out.c4
            replace Hb:=bnx Hb hbn;clear hbn
            refine hK _ _ (fun _=>⟨p0,p1,t0,t1,t2,t3⟩) ?_;clear hK K
            try simp only [Act.put,U1,U2,U3]
            iterate 3 (refine planT rfl rfl (v:=?_) (fun w' hw'=>?_) ?_;rotate_left;(focus go_simp;try with_reducible rfl);try simp only [Act.put,U1,U2,U3])
            refine planN rfl rfl ?_
            try simp only [Act.put,U1,U2,U3]
            refine planN rfl rfl ?_
            try simp only [Act.put,U1,U2,U3]
            refine planN rfl rfl ?_
            try simp only [Act.put,U1,U2,U3]
            refine planN rfl rfl ?_
            try simp only [Act.put,U1,U2,U3]
            refine planNF rfl rfl (fun _=>⟨p0,p1,t0,t1,t2,t3⟩) ?_
            try simp only [Act.put,U1,U2,U3]
            refine planN rfl rfl ?_
            try simp only [Act.put,U1,U2,U3]
            iterate 2 (refine planT rfl rfl (v:=?_) (fun w' hw'=>?_) ?_;rotate_left;(focus go_simp;try with_reducible rfl);try simp only [Act.put,U1,U2,U3])
            refine planN rfl rfl ?_
            try simp only [Act.put,U1,U2,U3]
            refine planN rfl rfl ?_
            try simp only [Act.put,U1,U2,U3]
            refine planN rfl rfl ?_
            try simp only [Act.put,U1,U2,U3]
            refine planN rfl rfl ?_
            try simp only [Act.put,U1,U2,U3]
            refine planN rfl rfl ?_
            try simp only [Act.put,U1,U2,U3]
            refine planN rfl rfl ?_
            try simp only [Act.put,U1,U2,U3]
            refine planN rfl rfl ?_
            try simp only [Act.put,U1,U2,U3]
            refine planN rfl rfl ?_
            try simp only [Act.put,U1,U2,U3]
            refine planN rfl rfl ?_
            try simp only [Act.put,U1,U2,U3]
            refine planN rfl rfl ?_
            try simp only [Act.put,U1,U2,U3]
            refine planN rfl rfl ?_
            try simp only [Act.put,U1,U2,U3]
            refine planN rfl rfl ?_
            try simp only [Act.put,U1,U2,U3]
            refine planN rfl rfl ?_
            try simp only [Act.put,U1,U2,U3]
            refine planN rfl rfl ?_
            try simp only [Act.put,U1,U2,U3]
            refine planT rfl rfl (v:=?_) (fun w' hw'=>?_) ?_;rotate_left;(focus go_simp;try with_reducible rfl);try simp only [Act.put,U1,U2,U3]
            simp only [wpPlan]
            go_wp2
            refine bodyPost_ret (results_tmp rfl _ _ _) rfl ⟨rfl,bnext Hpb.out Hb.out⟩
          . have hs1 : (sg == 0) = false:=by simpa using hs0
            by_cases hc : canon X = (s,m,e)
            . have hcb : (canon X == (s,m,e)) = true:=by simpa using hc
              have hne:=numNe X s m e false hcb
              clear hc
              by_cases hk0 : k = 0
              . have hg:=Hga.out
                rw [hmv,hs1,hcb,hk0] at hg
                have Hgood : Hid ((List.range (k + 1)).all (goodAt V ts) = true):=by show _ = _;rw [Hgn.out,hk0,hg];rfl
                have hk1 : decide (0 < k) = false:=by simp;omega
                clear hg hcb hk0
                go_wp2_with fail
                refine wp_region_plan (fun w'=>w'.cell? ⟨w.heap.size,0,none⟩ = some (.int .i64 V) /\ w'.cell? ⟨w.heap.size,1,none⟩ = some (.slice a N cap) /\ w'.cell? ⟨wr.heap.size,0,none⟩ = some (.string (bs l)) /\ w'.cell? ⟨wr.heap.size,1,none⟩ = some (.bool s) /\ w'.cell? ⟨wr.heap.size,2,none⟩ = some (.string (bs m)) /\ w'.cell? ⟨wr.heap.size,3,none⟩ = some (.int .i64 e)) (fun i=>Nat.blt i 100000) [(0,true),(1,true),(2,true),(3,true),(4,false),(5,true),(6,true),(7,true),(8,true),(9,false),(10,true),(11,true),(12,true),(13,true),(14,true),(16,true),(17,true),(15,false),(18,true),(19,true),(20,true),(21,true),(22,true),(23,true),(24,true),(25,true),(26,true),(27,true),(28,true),(29,true),(30,true),(31,true),(32,true),(33,true),(34,true),(35,true)] (by kernel_rfl) (by kernel_rfl) rfl (by kernel_rfl) (fun o c a v w=>by cases o.dst<;>exact id) ⟨p0,p1,t0,t1,t2,t3⟩ ?_
                iterate 4 (refine planT rfl rfl (v:=?_) (fun w' hw'=>?_) ?_;rotate_left;(focus obtain ⟨q0,q1,q2,q3,q4,q5⟩:=hw';go_simp;try with_reducible rfl);try simp only [Act.put,U1,U2,U3])
                refine planF rfl rfl (fun K hK=>?_)
                go_simp
                with_reducible refine (Hmay.out _).mono ?_
                rintro e w5 ⟨rfl,hq⟩
                have hbn : Below W4.heap.size W4 w5:=by first | exact hq | exact bundrew hq
                clear p0 p1
                clear t0 t1 t2 t3
                replace Hp:=kB Hp hbn
                replace HU:=kT HU hbn
                replace Ht:=kB Ht hbn
                obtain ⟨p0,p1⟩:=Hp.out.c2
                obtain ⟨t0,t1,t2,t3⟩:=Ht.out.c4
                replace Hb:=bnx Hb hbn;clear hbn
                refine hK _ _ (fun _=>⟨p0,p1,t0,t1,t2,t3⟩) ?_;clear hK K
                try simp only [Act.put,U1,U2,U3]
                iterate 4 (refine planT rfl rfl (v:=?_) (fun w' hw'=>?_) ?_;rotate_left;(focus obtain ⟨q0,q1,q2,q3,q4,q5⟩:=hw';go_simp;try with_reducible rfl);try simp only [Act.put,U1,U2,U3])
                refine planF rfl rfl (fun K hK=>?_)
                go_simp
                with_reducible refine (dsign_any s m e sg Hsg.out _ Hl2.out.2).mono ?_
                rintro e w6 ⟨rfl,hq⟩
                have hbn : Below w5.heap.size w5 w6:=by first | exact hq | exact bundrew hq
                clear p0 p1
                clear t0 t1 t2 t3
                replace Hp:=kB Hp hbn
                replace HU:=kT HU hbn
                replace Ht:=kB Ht hbn
                obtain ⟨p0,p1⟩:=Hp.out.c2
                obtain ⟨t0,t1,t2,t3⟩:=Ht.out.c4
                replace Hb:=bnx Hb hbn;clear hbn
                refine hK _ _ (fun _=>⟨p0,p1,t0,t1,t2,t3⟩) ?_;clear hK K
                try simp only [Act.put,U1,U2,U3]
                iterate 7 (refine planT rfl rfl (v:=?_) (fun w' hw'=>?_) ?_;rotate_left;(focus obtain ⟨q0,q1,q2,q3,q4,q5⟩:=hw';go_simp;try with_reducible rfl);try simp only [Act.put,U1,U2,U3])
                refine planF rfl rfl (fun K hK=>?_)
                go_simp
                with_reducible refine (form_any s m e X HX.out _ Hl2.out.2 (by first | exact HU.out | exact Tab.drew HU.out | exact Tab.alloc HU.out _ | exact Tab.drew (Tab.alloc HU.out _) | exact Tab.alloc (Tab.drew HU.out) _)).mono ?_
                rintro e w7 ⟨rfl,hq⟩
                have hbn : Below w6.heap.size w6 w7:=by first | exact hq | exact bundrew hq
                clear p0 p1
                clear t0 t1 t2 t3
                replace Hp:=kB Hp hbn
                replace HU:=kT HU hbn
                replace Ht:=kB Ht hbn
                obtain ⟨p0,p1⟩:=Hp.out.c2
                obtain ⟨t0,t1,t2,t3⟩:=Ht.out.c4
                replace Hb:=bnx Hb hbn;clear hbn
                refine hK _ _ (fun _=>⟨p0,p1,t0,t1,t2,t3⟩) ?_;clear hK K
                try simp only [Act.put,U1,U2,U3]
                iterate 6 (refine planT rfl rfl (v:=?_) (fun w' hw'=>?_) ?_;rotate_left;(focus go_simp;try with_reducible rfl);try simp only [Act.put,U1,U2,U3])
                refine planN rfl rfl ?_
                try simp only [Act.put,U1,U2,U3]
                refine planN rfl rfl ?_
                try simp only [Act.put,U1,U2,U3]
                refine planN rfl rfl ?_
                try simp only [Act.put,U1,U2,U3]
                refine planN rfl rfl ?_
                try simp only [Act.put,U1,U2,U3]
                refine planN rfl rfl ?_
                try simp only [Act.put,U1,U2,U3]
                refine planN rfl rfl ?_
                try simp only [Act.put,U1,U2,U3]
                refine planN rfl rfl ?_
                try simp only [Act.put,U1,U2,U3]
                refine planN rfl rfl ?_
                try simp only [Act.put,U1,U2,U3]
                refine planN rfl rfl ?_
                try simp only [Act.put,U1,U2,U3]
                refine planN rfl rfl ?_
                try simp only [Act.put,U1,U2,U3]
                iterate 2 (refine planT rfl rfl (v:=?_) (fun w' hw'=>?_) ?_;rotate_left;(focus go_simp;try with_reducible rfl);try simp only [Act.put,U1,U2,U3])
                simp only [wpPlan]
                go_wp2
                go_roundw
                case rel=>exact ⟨k + 1,by omega,by go_num,Hgood.out,Hp.out,bnext Hpb.out Hb.out⟩
                case measure=>simp [intOf];omega
              . have hkp : k - 1 < ts.length:=by omega
                obtain ⟨l',s',m',e',hx'⟩ : ∃ l s m e,ts[k - 1] = (l,s,m,e):=⟨_,_,_,_,rfl⟩
                obtain ⟨b',o',hab',hwin'⟩:=(Ha.out.below (bnext Hpb.out Hb.out)).term (k - 1) hkp hx'
                have hab:=Hab.out
                rw [hab] at hab'
                simp only [Option.some.injEq,Addr.mk.injEq,and_true] at hab'
                obtain ⟨rfl,rfl⟩:=hab'
                have egp : ts.getD (k - 1) default = (l',s',m',e'):=by simp [hkp,hx']
                have hg:=Hga.out
                rw [egp,hmv,hs1,hcb] at hg
                have hk00 : (k == 0) = false:=by simpa using hk0
                rw [hk00] at hg
                have hk1 : decide (0 < k) = true:=by simp;omega
                have hkw : IntKind.i64.wrap ((k : Int) - 1) = ((k - 1 : Nat) : Int):=by rw [IntKind.wrap_i64];omega
                have hixp:=i41x49 N cap (k - 1) ((k - 1 : Nat) : Int) hab (by omega) rfl
                obtain ⟨kp,hkp2⟩ : ∃ kp,k - 1 = kp:=⟨_,rfl⟩
                rw [hkp2] at hixp hkw hwin'
                have hkpN : kp < N:=by omega
                have Hpv : Hid (Win W4 b (o + kp * 4) [.string (bs l'),.bool s',.string (bs m'),.int .i64 e']):=hwin'
                have Hkp2:=lid hkp2
                clear hwin' hk0 hk00 hcb egp hx' hkp2 hab
                cases hlt9 : Op.bytesLess (bs l').toList (bs l).toList with
                | true =>
                  have Hgood : Hid ((List.range (k + 1)).all (goodAt V ts) = true):=by show _ = _;rw [Hgn.out,hg];simpa using hlt9
                  clear hg
                  go_wp2_with fail
                  obtain ⟨p0,p1⟩:=Hp.out.c2
                  obtain ⟨t0,t1,t2,t3⟩:=Ht.out.c4
                  have pv0 : W4.cell? ⟨b,o + kp * 4,none⟩ = some (.string (bs l')):=Hpv.out.cell 0 (by simp)
                  have HU : Hid (Tab W4):=HU.out
                  refine wp_region_plan (fun w'=>w'.cell? ⟨w.heap.size,0,none⟩ = some (.int .i64 V) /\ w'.cell? ⟨w.heap.size,1,none⟩ = some (.slice a N cap) /\ w'.cell? ⟨wr.heap.size,0,none⟩ = some (.string (bs l)) /\ w'.cell? ⟨wr.heap.size,1,none⟩ = some (.bool s) /\ w'.cell? ⟨wr.heap.size,2,none⟩ = some (.string (bs m)) /\ w'.cell? ⟨wr.heap.size,3,none⟩ = some (.int .i64 e) /\ w'.cell? ⟨b,o + kp * 4,none⟩ = some (.string (bs l'))) (fun i=>Nat.blt i 100000) [(0,true),(1,true),(2,true),(3,true),(4,false),(5,true),(6,true),(7,true),(8,true),(9,false),(10,true),(11,true),(12,true),(13,true),(14,true),(16,true),(17,true),(15,false),(18,true),(19,true),(20,true),(21,true),(22,true),(23,true),(24,true),(25,true),(26,true),(27,true),(28,true),(29,true),(30,true),(31,true),(32,true),(33,true),(34,true),(35,true)] (by kernel_rfl) (by kernel_rfl) rfl (by kernel_rfl) (fun o c a v w=>by cases o.dst<;>exact id) ⟨p0,p1,t0,t1,t2,t3,pv0⟩ ?_
                  iterate 4 (refine planT rfl rfl (v:=?_) (fun w' hw'=>?_) ?_;rotate_left;(focus obtain ⟨q0,q1,q2,q3,q4,q5,q6⟩:=hw';go_simp;try with_reducible rfl);try simp only [Act.put,U1,U2,U3])
                  refine planF rfl rfl (fun K hK=>?_)
                  go_simp
                  with_reducible refine (Hmay.out _).mono ?_
                  rintro e w5 ⟨rfl,hq⟩
                  have hbn : Below W4.heap.size W4 w5:=by first | exact hq | exact bundrew hq
                  clear p0 p1
                  clear t0 t1 t2 t3
                  clear pv0
                  replace Hp:=kB Hp hbn
                  replace Ht:=kB Ht hbn
                  replace Hpv:=kW Hpv hbn
                  replace HU:=kT HU hbn
                  obtain ⟨p0,p1⟩:=Hp.out.c2
                  obtain ⟨t0,t1,t2,t3⟩:=Ht.out.c4
                  have pv0 : w5.cell? ⟨b,o + kp * 4,none⟩ = some (.string (bs l')):=Hpv.out.cell 0 (by simp)
                  replace Hb:=bnx Hb hbn;clear hbn
                  refine hK _ _ (fun _=>⟨p0,p1,t0,t1,t2,t3,pv0⟩) ?_;clear hK K
                  try simp only [Act.put,U1,U2,U3]
                  iterate 4 (refine planT rfl rfl (v:=?_) (fun w' hw'=>?_) ?_;rotate_left;(focus obtain ⟨q0,q1,q2,q3,q4,q5,q6⟩:=hw';go_simp;try with_reducible rfl);try simp only [Act.put,U1,U2,U3])
                  refine planF rfl rfl (fun K hK=>?_)
                  go_simp
                  with_reducible refine (dsign_any s m e sg Hsg.out _ Hl2.out.2).mono ?_
                  rintro e w6 ⟨rfl,hq⟩
                  have hbn : Below w5.heap.size w5 w6:=by first | exact hq | exact bundrew hq
                  clear p0 p1
                  clear t0 t1 t2 t3
                  clear pv0
                  replace Hp:=kB Hp hbn
                  replace Ht:=kB Ht hbn
                  replace Hpv:=kW Hpv hbn
                  replace HU:=kT HU hbn
                  obtain ⟨p0,p1⟩:=Hp.out.c2
                  obtain ⟨t0,t1,t2,t3⟩:=Ht.out.c4
                  have pv0 : w6.cell? ⟨b,o + kp * 4,none⟩ = some (.string (bs l')):=Hpv.out.cell 0 (by simp)
                  replace Hb:=bnx Hb hbn;clear hbn
                  refine hK _ _ (fun _=>⟨p0,p1,t0,t1,t2,t3,pv0⟩) ?_;clear hK K
                  try simp only [Act.put,U1,U2,U3]
                  iterate 7 (refine planT rfl rfl (v:=?_) (fun w' hw'=>?_) ?_;rotate_left;(focus obtain ⟨q0,q1,q2,q3,q4,q5,q6⟩:=hw';go_simp;try with_reducible rfl);try simp only [Act.put,U1,U2,U3])
                  refine planF rfl rfl (fun K hK=>?_)
                  go_simp
                  with_reducible refine (form_any s m e X HX.out _ Hl2.out.2 (by first | exact HU.out | exact Tab.drew HU.out | exact Tab.alloc HU.out _ | exact Tab.drew (Tab.alloc HU.out _) | exact Tab.alloc (Tab.drew HU.out) _)).mono ?_
                  rintro e w7 ⟨rfl,hq⟩
                  have hbn : Below w6.heap.size w6 w7:=by first | exact hq | exact bundrew hq
                  clear p0 p1
                  clear t0 t1 t2 t3
                  clear pv0
                  replace Hp:=kB Hp hbn
                  replace Ht:=kB Ht hbn
                  replace Hpv:=kW Hpv hbn
                  replace HU:=kT HU hbn
                  obtain ⟨p0,p1⟩:=Hp.out.c2
                  obtain ⟨t0,t1,t2,t3⟩:=Ht.out.c4
                  have pv0 : w7.cell? ⟨b,o + kp * 4,none⟩ = some (.string (bs l')):=Hpv.out.cell 0 (by simp)
                  replace Hb:=bnx Hb hbn;clear hbn
                  refine hK _ _ (fun _=>⟨p0,p1,t0,t1,t2,t3,pv0⟩) ?_;clear hK K
                  try simp only [Act.put,U1,U2,U3]
                  iterate 18 (refine planT rfl rfl (v:=?_) (fun w' hw'=>?_) ?_;rotate_left;(focus obtain ⟨q0,q1,q2,q3,q4,q5,q6⟩:=hw';go_simp;try with_reducible rfl);try simp only [Act.put,U1,U2,U3])
                  simp only [wpPlan]
                  go_wp2
                  go_roundw
                  case rel=>exact ⟨k + 1,by omega,by go_num,Hgood.out,Hp.out,bnext Hpb.out Hb.out⟩
                  case measure=>simp [intOf];omega
                | false =>
                  have hr:=Hbad.out (by rw [hg];simpa using hlt9)
                  subst hr
                  clear hg
                  go_wp2_with fail
                  obtain ⟨p0,p1⟩:=Hp.out.c2
                  obtain ⟨t0,t1,t2,t3⟩:=Ht.out.c4
                  have pv0 : W4.cell? ⟨b,o + kp * 4,none⟩ = some (.string (bs l')):=Hpv.out.cell 0 (by simp)
                  have HU : Hid (Tab W4):=HU.out
                  refine wp_region_plan (fun w'=>w'.cell? ⟨w.heap.size,0,none⟩ = some (.int .i64 V) /\ w'.cell? ⟨w.heap.size,1,none⟩ = some (.slice a N cap) /\ w'.cell? ⟨wr.heap.size,0,none⟩ = some (.string (bs l)) /\ w'.cell? ⟨wr.heap.size,1,none⟩ = some (.bool s) /\ w'.cell? ⟨wr.heap.size,2,none⟩ = some (.string (bs m)) /\ w'.cell? ⟨wr.heap.size,3,none⟩ = some (.int .i64 e) /\ w'.cell? ⟨b,o + kp * 4,none⟩ = some (.string (bs l'))) (fun i=>Nat.blt i 100000) [(0,true),(1,true),(2,true),(3,true),(4,false),(5,true),(6,true),(7,true),(8,true),(9,false),(10,true),(11,true),(12,true),(13,true),(14,true),(16,true),(17,true),(15,false),(18,true),(19,true),(20,true),(21,true),(22,true),(23,true),(24,true),(25,true),(26,true),(27,true),(28,true),(29,true),(30,true),(31,true),(32,true),(33,true),(34,true),(35,true)] (by kernel_rfl) (by kernel_rfl) rfl (by kernel_rfl) (fun o c a v w=>by cases o.dst<;>exact id) ⟨p0,p1,t0,t1,t2,t3,pv0⟩ ?_
                  iterate 4 (refine planT rfl rfl (v:=?_) (fun w' hw'=>?_) ?_;rotate_left;(focus obtain ⟨q0,q1,q2,q3,q4,q5,q6⟩:=hw';go_simp;try with_reducible rfl);try simp only [Act.put,U1,U2,U3])
                  refine planF rfl rfl (fun K hK=>?_)
                  go_simp
                  with_reducible refine (Hmay.out _).mono ?_
                  rintro e w5 ⟨rfl,hq⟩
                  have hbn : Below W4.heap.size W4 w5:=by first | exact hq | exact bundrew hq
                  clear p0 p1
                  clear t0 t1 t2 t3
                  clear pv0
                  replace Hp:=kB Hp hbn
                  replace Ht:=kB Ht hbn
                  replace Hpv:=kW Hpv hbn
                  replace HU:=kT HU hbn
                  obtain ⟨p0,p1⟩:=Hp.out.c2
                  obtain ⟨t0,t1,t2,t3⟩:=Ht.out.c4
                  have pv0 : w5.cell? ⟨b,o + kp * 4,none⟩ = some (.string (bs l')):=Hpv.out.cell 0 (by simp)
                  replace Hb:=bnx Hb hbn;clear hbn
                  refine hK _ _ (fun _=>⟨p0,p1,t0,t1,t2,t3,pv0⟩) ?_;clear hK K
                  try simp only [Act.put,U1,U2,U3]
                  iterate 4 (refine planT rfl rfl (v:=?_) (fun w' hw'=>?_) ?_;rotate_left;(focus obtain ⟨q0,q1,q2,q3,q4,q5,q6⟩:=hw';go_simp;try with_reducible rfl);try simp only [Act.put,U1,U2,U3])
                  refine planF rfl rfl (fun K hK=>?_)
                  go_simp
                  with_reducible refine (dsign_any s m e sg Hsg.out _ Hl2.out.2).mono ?_
                  rintro e w6 ⟨rfl,hq⟩
                  have hbn : Below w5.heap.size w5 w6:=by first | exact hq | exact bundrew hq
                  clear p0 p1
                  clear t0 t1 t2 t3
                  clear pv0
                  replace Hp:=kB Hp hbn
                  replace Ht:=kB Ht hbn
                  replace Hpv:=kW Hpv hbn
                  replace HU:=kT HU hbn
                  obtain ⟨p0,p1⟩:=Hp.out.c2
                  obtain ⟨t0,t1,t2,t3⟩:=Ht.out.c4
                  have pv0 : w6.cell? ⟨b,o + kp * 4,none⟩ = some (.string (bs l')):=Hpv.out.cell 0 (by simp)
                  replace Hb:=bnx Hb hbn;clear hbn
                  refine hK _ _ (fun _=>⟨p0,p1,t0,t1,t2,t3,pv0⟩) ?_;clear hK K
                  try simp only [Act.put,U1,U2,U3]
                  iterate 7 (refine planT rfl rfl (v:=?_) (fun w' hw'=>?_) ?_;rotate_left;(focus obtain ⟨q0,q1,q2,q3,q4,q5,q6⟩:=hw';go_simp;try with_reducible rfl);try simp only [Act.put,U1,U2,U3])
                  refine planF rfl rfl (fun K hK=>?_)
                  go_simp
                  with_reducible refine (form_any s m e X HX.out _ Hl2.out.2 (by first | exact HU.out | exact Tab.drew HU.out | exact Tab.alloc HU.out _ | exact Tab.drew (Tab.alloc HU.out _) | exact Tab.alloc (Tab.drew HU.out) _)).mono ?_
                  rintro e w7 ⟨rfl,hq⟩
                  have hbn : Below w6.heap.size w6 w7:=by first | exact hq | exact bundrew hq
                  clear p0 p1
                  clear t0 t1 t2 t3
                  clear pv0
                  replace Hp:=kB Hp hbn
                  replace Ht:=kB Ht hbn
                  replace Hpv:=kW Hpv hbn
                  replace HU:=kT HU hbn
                  obtain ⟨p0,p1⟩:=Hp.out.c2
                  obtain ⟨t0,t1,t2,t3⟩:=Ht.out.c4
                  have pv0 : w7.cell? ⟨b,o + kp * 4,none⟩ = some (.string (bs l')):=Hpv.out.cell 0 (by simp)
                  replace Hb:=bnx Hb hbn;clear hbn
                  refine hK _ _ (fun _=>⟨p0,p1,t0,t1,t2,t3,pv0⟩) ?_;clear hK K
                  try simp only [Act.put,U1,U2,U3]
                  iterate 18 (refine planT rfl rfl (v:=?_) (fun w' hw'=>?_) ?_;rotate_left;(focus obtain ⟨q0,q1,q2,q3,q4,q5,q6⟩:=hw';go_simp;try with_reducible rfl);try simp only [Act.put,U1,U2,U3])
                  simp only [wpPlan]
                  go_wp2
                  refine bodyPost_ret (results_tmp rfl _ _ _) rfl ⟨rfl,bnext Hpb.out Hb.out⟩
            . have hr:=Hbad.out (by
               rw [Hga.out,hmv,hs1]
               have : (canon X == (s,m,e)) = false:=by simpa using hc
               rw [this];rfl)
              subst hr
              have hne:=numNe X s m e true (by simpa using hc)
              clear hc
              go_wp2_with fail
              refine wp_region_plan (fun w'=>w'.cell? ⟨w.heap.size,0,none⟩ = some (.int .i64 V) /\ w'.cell? ⟨w.heap.size,1,none⟩ = some (.slice a N cap) /\ w'.cell? ⟨wr.heap.size,0,none⟩ = some (.string (bs l)) /\ w'.cell? ⟨wr.heap.size,1,none⟩ = some (.bool s) /\ w'.cell? ⟨wr.heap.size,2,none⟩ = some (.string (bs m)) /\ w'.cell? ⟨wr.heap.size,3,none⟩ = some (.int .i64 e)) (fun i=>Nat.blt i 100000) [(0,true),(1,true),(2,true),(3,true),(4,false),(5,true),(6,true),(7,true),(8,true),(9,false),(10,true),(11,true),(12,true),(13,true),(14,true),(16,true),(17,true),(15,false),(18,true),(19,true),(20,true),(21,true),(22,true),(23,true),(24,true),(25,true),(26,true),(27,true),(28,true),(29,true),(30,true),(31,true),(32,true),(33,true),(34,true),(35,true)] (by kernel_rfl) (by kernel_rfl) rfl (by kernel_rfl) (fun o c a v w=>by cases o.dst<;>exact id) ⟨p0,p1,t0,t1,t2,t3⟩ ?_
              iterate 4 (refine planT rfl rfl (v:=?_) (fun w' hw'=>?_) ?_;rotate_left;(focus obtain ⟨q0,q1,q2,q3,q4,q5⟩:=hw';go_simp;try with_reducible rfl);try simp only [Act.put,U1,U2,U3])
              refine planF rfl rfl (fun K hK=>?_)
              go_simp
              with_reducible refine (Hmay.out _).mono ?_
              rintro e w5 ⟨rfl,hq⟩
              have hbn : Below W4.heap.size W4 w5:=by first | exact hq | exact bundrew hq
              clear p0 p1
              clear t0 t1 t2 t3
              replace Hp:=kB Hp hbn
              replace HU:=kT HU hbn
              replace Ht:=kB Ht hbn
              obtain ⟨p0,p1⟩:=Hp.out.c2
              obtain ⟨t0,t1,t2,t3⟩:=Ht.out.c4
              replace Hb:=bnx Hb hbn;clear hbn
              refine hK _ _ (fun _=>⟨p0,p1,t0,t1,t2,t3⟩) ?_;clear hK K
              try simp only [Act.put,U1,U2,U3]
              iterate 4 (refine planT rfl rfl (v:=?_) (fun w' hw'=>?_) ?_;rotate_left;(focus obtain ⟨q0,q1,q2,q3,q4,q5⟩:=hw';go_simp;try with_reducible rfl);try simp only [Act.put,U1,U2,U3])
              refine planF rfl rfl (fun K hK=>?_)
              go_simp
              with_reducible refine (dsign_any s m e sg Hsg.out _ Hl2.out.2).mono ?_
              rintro e w6 ⟨rfl,hq⟩
              have hbn : Below w5.heap.size w5 w6:=by first | exact hq | exact bundrew hq
              clear p0 p1
              clear t0 t1 t2 t3
              replace Hp:=kB Hp hbn
              replace HU:=kT HU hbn
              replace Ht:=kB Ht hbn
              obtain ⟨p0,p1⟩:=Hp.out.c2
              obtain ⟨t0,t1,t2,t3⟩:=Ht.out.c4
              replace Hb:=bnx Hb hbn;clear hbn
              refine hK _ _ (fun _=>⟨p0,p1,t0,t1,t2,t3⟩) ?_;clear hK K
              try simp only [Act.put,U1,U2,U3]
              iterate 7 (refine planT rfl rfl (v:=?_) (fun w' hw'=>?_) ?_;rotate_left;(focus obtain ⟨q0,q1,q2,q3,q4,q5⟩:=hw';go_simp;try with_reducible rfl);try simp only [Act.put,U1,U2,U3])
              refine planF rfl rfl (fun K hK=>?_)
              go_simp
              with_reducible refine (form_any s m e X HX.out _ Hl2.out.2 (by first | exact HU.out | exact Tab.drew HU.out | exact Tab.alloc HU.out _ | exact Tab.drew (Tab.alloc HU.out _) | exact Tab.alloc (Tab.drew HU.out) _)).mono ?_
              rintro e w7 ⟨rfl,hq⟩
              have hbn : Below w6.heap.size w6 w7:=by first | exact hq | exact bundrew hq
              clear p0 p1
              clear t0 t1 t2 t3
              replace Hp:=kB Hp hbn
              replace HU:=kT HU hbn
              replace Ht:=kB Ht hbn
              obtain ⟨p0,p1⟩:=Hp.out.c2
              obtain ⟨t0,t1,t2,t3⟩:=Ht.out.c4
              replace Hb:=bnx Hb hbn;clear hbn
              refine hK _ _ (fun _=>⟨p0,p1,t0,t1,t2,t3⟩) ?_;clear hK K
              try simp only [Act.put,U1,U2,U3]
              iterate 3 (refine planT rfl rfl (v:=?_) (fun w' hw'=>?_) ?_;rotate_left;(focus go_simp;try with_reducible rfl);try simp only [Act.put,U1,U2,U3])
              refine planN rfl rfl ?_
              try simp only [Act.put,U1,U2,U3]
              refine planN rfl rfl ?_
              try simp only [Act.put,U1,U2,U3]
              refine planN rfl rfl ?_
              try simp only [Act.put,U1,U2,U3]
              refine planN rfl rfl ?_
              try simp only [Act.put,U1,U2,U3]
              refine planN rfl rfl ?_
              try simp only [Act.put,U1,U2,U3]
              refine planN rfl rfl ?_
              try simp only [Act.put,U1,U2,U3]
              refine planN rfl rfl ?_
              try simp only [Act.put,U1,U2,U3]
              refine planN rfl rfl ?_
              try simp only [Act.put,U1,U2,U3]
              refine planN rfl rfl ?_
              try simp only [Act.put,U1,U2,U3]
              refine planN rfl rfl ?_
              try simp only [Act.put,U1,U2,U3]
              refine planN rfl rfl ?_
              try simp only [Act.put,U1,U2,U3]
              refine planN rfl rfl ?_
              try simp only [Act.put,U1,U2,U3]
              refine planN rfl rfl ?_
              try simp only [Act.put,U1,U2,U3]
              refine planN rfl rfl ?_
              try simp only [Act.put,U1,U2,U3]
              refine planT rfl rfl (v:=?_) (fun w' hw'=>?_) ?_;rotate_left;(focus go_simp;try with_reducible rfl);try simp only [Act.put,U1,U2,U3]
              simp only [wpPlan]
              go_wp2
              refine bodyPost_ret (results_tmp rfl _ _ _) rfl ⟨rfl,bnext Hpb.out Hb.out⟩
      . obtain rfl : k = N:=by omega
        have hr : R = 0:=by rw [<- hR.out,if_pos hgk]
        subst hr
        go_wp2
        refine bodyPost_ret (results_tmp rfl _ _ _) rfl ⟨rfl,pb⟩
 . have hR:=HR.out
   rw [if_pos h1] at hR
   clear HR
   subst hR
   go_wp2
   refine bodyPost_ret (v:=.int .i64 1) (by simp [results,Tryz.results30,go_sem]) rfl ⟨rfl,?_⟩
   (repeat first | exact Hb.out | (refine Below.setCell ?_ (by have:=Hb.out.size;first | (dsimp only;omega) | (show _ <= _;omega) | (simp<;>omega)) _) | (refine Below.alloc ?_ (by have:=Hb.out.size;simp<;>omega) _) | refine Below.drew ?_)
def sqR (rows : List (List Raw)) (n a b : Nat) : Dyadic:=sqTo ((rows.getD a []).map dval) ((rows.getD b []).map dval) n
def lonStep (sq : Nat -> Nat -> Dyadic) (a b : Nat) (s : Nat × Nat × Dyadic) : Nat × Nat × Dyadic:=if 0 < dsg (sq a b - s.2.2) then (a,b,sq a b) else s
def lonB (sq : Nat -> Nat -> Dyadic) (a : Nat) : Nat -> Nat -> Nat × Nat × Dyadic -> Nat × Nat × Dyadic
 | 0,_,s=>s
 | k + 1,b,s=>lonB sq a k (b + 1) (lonStep sq a b s)
def lonA (sq : Nat -> Nat -> Dyadic) (L : Nat) : Nat -> Nat -> Nat × Nat × Dyadic -> Nat × Nat × Dyadic
 | 0,_,s=>s
 | k + 1,a,s=>lonA sq L k (a + 1) (lonB sq a (L - (a + 1)) (a + 1) s)
def lonF (sq : Nat -> Nat -> Dyadic) (L : Nat) : Nat × Nat × Dyadic:=lonA sq L L 0 (0,1,sq 0 1)
theorem lonB_inv (sq : Nat -> Nat -> Dyadic) (Q : Nat × Nat × Dyadic -> Prop) (L a k b : Nat) (s : Nat × Nat × Dyadic) (hs : Q s) (hab : a < b) (hb : b + k <= L) (h : ∀ a b,a < b -> b < L -> Q (a,b,sq a b)) : Q (lonB sq a k b s):=by
 induction k generalizing b s with
 | zero=>exact hs
 | succ k ih =>
   unfold lonB
   refine ih (b + 1) _ ?_ (by omega) (by omega)
   unfold lonStep
   split
   . exact h a b hab (by omega)
   . exact hs
theorem lonA_inv (sq : Nat -> Nat -> Dyadic) (Q : Nat × Nat × Dyadic -> Prop) (L k a : Nat) (s : Nat × Nat × Dyadic) (hs : Q s) (hb : a + k <= L) (h : ∀ a b,a < b -> b < L -> Q (a,b,sq a b)) : Q (lonA sq L k a s):=by
 induction k generalizing a s with
 | zero=>exact hs
 | succ k ih =>
   unfold lonA
   exact ih (a + 1) _ (lonB_inv sq Q L a _ (a + 1) s hs (by omega) (by omega) h) (by omega)
theorem lonF_inv (sq : Nat -> Nat -> Dyadic) (L : Nat) (hL : 2 <= L) : (lonF sq L).1 < (lonF sq L).2.1 /\ (lonF sq L).2.1 < L /\ (lonF sq L).2.2 = sq (lonF sq L).1 (lonF sq L).2.1:=
 lonA_inv sq (fun s=>s.1 < s.2.1 /\ s.2.1 < L /\ s.2.2 = sq s.1 s.2.1) L L 0 (0,1,sq 0 1) ⟨Nat.zero_lt_one,hL,rfl⟩ (by omega) (fun a b h1 h2=>⟨h1,h2,rfl⟩)
abbrev edgeC (s : Nat × Nat × Dyadic) : List Value:=[.int .i64 (s.1 : Int),.int .i64 (s.2.1 : Int),.bool (sgnB (dN s.2.2)),.string (bs (nt (dN s.2.2).natAbs)),.int .i64 (dE s.2.2)]
theorem At.drew {w : World} {a : Option Addr} {cs : List Value} (h : At w a cs) : At w.drew a cs:=h
theorem At.alloc {w : World} {a : Option Addr} {cs : List Value} (h : At w a cs) (o : Obj) : At (w.alloc o) a cs:=h.below ((Below.refl _ _).alloc (Nat.le_refl _) _)
theorem square_row (rows : List (List Raw)) (n B x y : Nat) (a : Option Addr) (cap : Nat) (a' : Option Addr) (cap' : Nat) (D : Dyadic) (w : World) (hx : x < rows.length) (hy : y < rows.length) (hn : n <= 8) (hrow : ∀ r ∈ rows,r.length = n) (hfit : ∀ r ∈ rows,∀ c ∈ r,Fit B c) (hB : B <= 10000000)
 (hD : sqR rows n x y = D) (ha : At w a (rows[x].flatMap numC)) (ha' : At w a' (rows[y].flatMap numC)) (hT : Tab w) :
 Calls Tryz.prog 59 #[.slice a rows[x].length cap,.slice a' rows[y].length cap'] w fun e w'=>e = .returned (numV D) /\ Below w.heap.size w w':=by
 have h1:=hrow _ (List.getElem_mem hx)
 have h2:=hrow _ (List.getElem_mem hy)
 have e1 : rows.getD x [] = rows[x]:=by simp [hx]
 have e2 : rows.getD y [] = rows[y]:=by simp [hy]
 unfold sqR at hD
 rw [e1,e2] at hD
 rw [h1,h2,<- hD]
 exact square_any a n cap rows[x] a' cap' rows[y] B w h1 h2 hn ha ha' (hfit _ (List.getElem_mem hx)) (hfit _ (List.getElem_mem hy)) hB hT
theorem sqR_sm {rows : List (List Raw)} {n B : Nat} (hfit : ∀ r ∈ rows,∀ c ∈ r,Fit B c) (x y : Nat) : Sm (2 * B + 2 + n) (sqR rows n x y):=by
 have h : ∀ z,∀ c ∈ (rows.getD z []).map dval,Sm B c:=fun z c hc=>by
  obtain ⟨u,hu,rfl⟩:=List.mem_map.1 hc
  by_cases hz : z < rows.length
  . have e : rows.getD z [] = rows[z]:=by simp [hz]
    rw [e] at hu
    exact (hfit _ (List.getElem_mem hz) u hu).2
  . have e : rows.getD z [] = []:=by simp [List.getD_eq_getElem?_getD,List.getElem?_eq_none (by omega : rows.length <= z)]
    rw [e] at hu;cases hu
 exact sqTo_sm (h x) (h y) n
theorem longest_any (a : Option Addr) (L cap n : Nat) (rows : List (List Raw)) (B : Nat) (w : World) (hL : rows.length = L) (hL2 : 2 <= L) (hL9 : L <= 9) (hn : n <= 8) (hrow : ∀ r ∈ rows,r.length = n) (ha : Tbl w a rows)
 (hfit : ∀ r ∈ rows,∀ c ∈ r,Fit B c) (hB : B <= 10000000) (hT : Tab w) :
 Calls Tryz.prog 36 #[.slice a L cap] w fun e w'=>e = .returned (.agg (edgeC (lonF (sqR rows n) L)).toArray) /\ Below w.heap.size w w':=by
 obtain ⟨sq,hsq⟩ : ∃ sq,sqR rows n = sq:=⟨_,rfl⟩
 have hsm : ∀ x y,Sm (2 * B + 10) (sq x y):=fun x y=>by rw [<- hsq];exact (sqR_sm hfit x y).mono (by omega)
 have hcall : ∀ x y (hx : x < rows.length) (hy : y < rows.length) (a1 : Option Addr) (c1 : Nat) (a2 : Option Addr) (c2 : Nat) (W : World),At W a1 (rows[x].flatMap numC) -> At W a2 (rows[y].flatMap numC) -> Tab W ->
  Calls Tryz.prog 59 #[.slice a1 rows[x].length c1,.slice a2 rows[y].length c2] W fun e w'=>e = .returned (numV (sq x y)) /\ Below W.heap.size W w':=fun x y hx hy a1 c1 a2 c2 W h1 h2 h3=>
  square_row rows n B x y a1 c1 a2 c2 (sq x y) W hx hy hn hrow hfit hB (by rw [<- hsq]) h1 h2 h3
 obtain ⟨F,hF⟩ : ∃ F,lonF (sqR rows n) L = F:=⟨_,rfl⟩
 rw [hF]
 rw [hsq] at hF
 have HL:=lid hL;have Ha:=lid ha;have Hsm:=lid hsm;have Hcall:=lid hcall;have HF:=lid hF;have HT:=lid hT;have HT0:=lid hT
 clear hL ha hsm hcall hF hT hfit hrow hsq
 obtain ⟨X,hX⟩ : ∃ X,sq 0 1 = X:=⟨_,rfl⟩
 have HX:=lid hX;clear hX
 obtain ⟨W,hW_W⟩ : ∃ W,(w.alloc (.cells #[.int .i64 0,.int .i64 0,.bool false,.string ⟨#[]⟩,.int .i64 0] 85)) = W:=⟨_,rfl⟩
 have Hb : Hid (Below w.heap.size w W):=by rw [<- hW_W];exact ((Below.refl _ _).alloc (Nat.le_refl _) _)
 have Hr : Hid (Blk W (w.heap.size) 85 [.int .i64 0,.int .i64 0,.bool false,.string ⟨#[]⟩,.int .i64 0]):=by rw [<- hW_W];exact Blk.newAt _ _ _ (by simp)
 obtain ⟨r0,fr0,r1,fr1,r2,fr2,r3,fr3,r4,fr4⟩:=Hr.out.g5
 have HT : Hid (Tab W):=HT.out.below Hb.out
 have HS : Hid (Tbl W a rows):=Ha.out.below Hb.out
 go_enter Tryz.func36,Tryz.ntmps36
 have lr:=Hr.out.lt
 obtain ⟨b0,o0,a1,c1,hab0,hc0,hat0⟩:=HS.out.row 0 (by rw [HL.out];omega)
 obtain ⟨b0',o0',a2,c2,hab1,hc1,hat1⟩:=HS.out.row 1 (by rw [HL.out];omega)
 obtain ⟨rfl,rfl⟩ : b0' = b0 /\ o0' = o0:=by rw [hab0] at hab1;simp at hab1;exact ⟨hab1.1.symm,hab1.2.symm⟩
 clear hab1
 have i0:=i45x46 L cap 0 0 hab0 (by omega) rfl
 have i1:=i45x46 L cap 1 1 hab0 (by omega) rfl
 rw [Nat.mul_one] at i0 i1
 rw [Nat.add_zero] at i0 hc0
 have Hab:=lid hab0
 have lb0 : b0' < W.heap.size:=World.block_lt_of_cell? W _ hc0
 have hsq1:=fun W'=>Hcall.out 0 1 (by rw [HL.out];omega) (by rw [HL.out];omega) a1 c1 a2 c2 W'
 rw [HX.out] at hsq1
 obtain ⟨n0,hn0⟩ : ∃ n0,(rows[0]'(by rw [HL.out];omega)).length = n0:=⟨_,rfl⟩
 obtain ⟨n1,hn1⟩ : ∃ n1,(rows[1]'(by rw [HL.out];omega)).length = n1:=⟨_,rfl⟩
 rw [hn0] at hc0
 rw [hn1] at hc1
 simp only [hn0,hn1] at hsq1
 have Hsq1:=lid hsq1;have Hat0:=lid hat0;have Hat1:=lid hat1
 have Hu : Hid (Win W b0' o0' [.slice a1 n0 c1]):=fun j hj=>by
  obtain rfl : j = 0:=by simp at hj;omega
  exact hc0
 have Hv : Hid (Win W b0' (o0' + 1) [.slice a2 n1 c2]):=fun j hj=>by
  obtain rfl : j = 0:=by simp at hj;omega
  exact hc1
 clear hsq1 hat0 hat1 hab0 hn0 hn1 hc0 hc1
 go_upto_region 1 with fail
 go_cut [3] (fun s3 wx=>∃ g : Nat,s3 = .pointer (some ⟨g,0,none⟩) /\ W.heap.size <= g /\ Blk wx g 85 (edgeC (0,1,X)) /\ Below W.heap.size W wx)
 case first=>
  have u0:=Hu.out.w1
  have v0:=Hv.out.w1
  have HT : Hid (Tab W):=HT.out
  refine wp_region_planB (fun w'=>w'.cell? ⟨b0',o0',none⟩ = some (.slice a1 n0 c1) /\ w'.cell? ⟨b0',o0' + 1,none⟩ = some (.slice a2 n1 c2)) (fun i=>Nat.blt i 10) 7 9 [(8,true),(9,false),(10,false)] [(7,false),(8,true),(10,false)] [0,1,2,3,4,5,6] (by kernel_rfl) (by kernel_rfl) rfl rfl (by kernel_rfl) (fun o c a v w=>by cases o.dst<;>exact id) ⟨u0,v0⟩ ?_
  iterate 7 (refine planTB rfl rfl (v:=?_) (fun w' hw'=>?_) ?_;rotate_left;(focus obtain ⟨q0,q1⟩:=hw';go_simp;try with_reducible rfl);try simp only [Act.put,U1,U2,U3])
  refine planBB rfl rfl rfl rfl (fun K hK=>?_) (fun K hK=>?_)
  . go_simp
    with_reducible refine (Hsq1.out _ (by first | exact Hat0.out | exact At.drew Hat0.out) (by first | exact Hat1.out | exact At.drew Hat1.out) (by first | exact HT.out | exact Tab.drew HT.out | exact Tab.alloc HT.out _ | exact Tab.drew (Tab.alloc HT.out _) | exact Tab.alloc (Tab.drew HT.out) _)).mono ?_
    rintro e w5 ⟨rfl,hq⟩
    have hw5 : Below W.heap.size W w5:=bundrew hq
    refine hK _ _ ⟨cell_later hw5 u0,cell_later hw5 v0⟩ ?_
    try simp only [Act.put,U1,U2,U3]
    refine planT rfl rfl (v:=?_) (fun w' hw'=>?_) ?_;rotate_left;focus (go_simp;try with_reducible rfl)
    try simp only [Act.put,U1,U2,U3]
    refine planF rfl rfl (fun K hK=>?_)
    go_simp
    refine hK _ _ (fun _=>⟨cell_new (cell_later hw5 u0),cell_new (cell_later hw5 v0)⟩) ?_
    try simp only [Act.put,U1,U2,U3]
    refine planF rfl rfl (fun K hK=>?_)
    go_simp
    refine hK _ _ (fun h=>absurd h (by decide)) ?_
    simp only [wpPlan]
    go_wp2_with fail
    go_meet
    exact ⟨w5.heap.size,rfl,hw5.size,Blk.new _ _ _,hw5.alloc hw5.size _⟩
  . go_simp
    refine hK _ _ ⟨cell_new u0,cell_new v0⟩ ?_
    try simp only [Act.put,U1,U2,U3]
    refine planF rfl rfl (fun K hK=>?_)
    go_simp
    with_reducible refine (Hsq1.out (W.alloc (.cells #[.int .i64 0,.int .i64 0,.bool false,.string ⟨#[]⟩,.int .i64 0] 85)).drew (Hat0.out.alloc _).drew (Hat1.out.alloc _).drew (by first | exact HT.out | exact Tab.drew HT.out | exact Tab.alloc HT.out _ | exact Tab.drew (Tab.alloc HT.out _) | exact Tab.alloc (Tab.drew HT.out) _)).mono ?_
    rintro e w5 ⟨rfl,hq⟩
    have hw5 : Below W.heap.size W w5:=ballocd hq
    have Hn : Blk w5 W.heap.size 85 [.int .i64 0,.int .i64 0,.bool false,.string ⟨#[]⟩,.int .i64 0]:=Blk.below (Blk.new W.drew 85 [.int .i64 0,.int .i64 0,.bool false,.string ⟨#[]⟩,.int .i64 0]) hq
    have n0':=Hn.cell 0;have n1':=Hn.cell 1;have n2':=Hn.cell 2;have n3':=Hn.cell 3;have n4':=Hn.cell 4
    have fn0:=Hn.free 0;have fn1:=Hn.free 1;have fn2:=Hn.free 2;have fn3:=Hn.free 3;have fn4:=Hn.free 4
    refine hK _ _ (fun _=>⟨cell_later hw5 u0,cell_later hw5 v0⟩) ?_
    try simp only [Act.put,U1,U2,U3]
    refine planT rfl rfl (v:=?_) (fun w' hw'=>?_) ?_;rotate_left;focus (go_simp;try with_reducible rfl)
    try simp only [Act.put,U1,U2,U3]
    refine planF rfl rfl (fun K hK=>?_)
    go_simp
    refine hK _ _ (fun h=>absurd h (by decide)) ?_
    simp only [wpPlan]
    go_wp2_with fail
    go_meet
    exact ⟨W.heap.size,rfl,Nat.le_refl _,((((Hn.set 0 _).set 1 _).set 2 _).set 3 _).set 4 _,((((hw5.sc W.heap.size 0 (Nat.le_refl _) _).sc W.heap.size 1 (Nat.le_refl _) _).sc W.heap.size 2 (Nat.le_refl _) _).sc W.heap.size 3 (Nat.le_refl _) _).sc W.heap.size 4 (Nat.le_refl _) _⟩
 case rest=>
  obtain ⟨g,rfl,hg,qd,qb⟩:=hcut
  have Hd:=lid qd
  replace Hr:=lid (Hr.out.below qb)
  replace Hb:=lid (bnext Hb.out qb)
  have lg:=Hd.out.lt;have lr2:=Hr.out.lt
  have szW:=qb.size
  clear qd qb r0 r1 r2 r3 r4 fr0 fr1 fr2 fr3 fr4 i0 i1 Hsq1 Hat0 Hat1 Hu Hv Hab HS HT
  have HX2 : Hid (Sm (2 * B + 10) X):=by rw [<- HX.out];exact Hsm.out 0 1
  have HF2 : Hid (lonA sq L (L - 0) 0 (0,1,X) = F):=by rw [<- HX.out];exact HF.out
  go_wp2_with fail
  go_loopw [18] (fun x wr=>∃ (k : Nat) (s : Nat × Nat × Dyadic),k <= L /\ x = .int .i64 (k : Int) /\ lonA sq L (L - k) k s = F /\ Sm (2 * B + 10) s.2.2 /\ Blk wr w.heap.size 85 [.int .i64 0,.int .i64 0,.bool false,.string ⟨#[]⟩,.int .i64 0] /\ Blk wr g 85 (edgeC s) /\ Below w.heap.size w wr) (fun x _=>L - (intOf x).toNat)
  case atStart=>exact ⟨0,(0,1,X),Nat.zero_le _,rfl,HF2.out,HX2.out,Hr.out,Hd.out,Hb.out⟩
  case round=>
   clear Hr Hd Hb HF2 HX2
   obtain ⟨k,s,hk,rfl,hF,hs,pr,pd,pb⟩:=hrel
   by_cases hlt : k < L
   . have Hr:=lid pr;have Hd:=lid pd;have Hb:=lid pb;have Hs:=lid hs
     have HFk : Hid (lonA sq L (L - (k + 1)) (k + 1) (lonB sq k (L - (k + 1)) (k + 1) s) = F):=by
      rw [show L - k = L - (k + 1) + 1 by omega] at hF
      exact hF
     clear pr pd pb hs hF
     go_wp2_with fail
     go_loopw [5] (fun x wr=>∃ (b : Nat) (s : Nat × Nat × Dyadic),b <= L /\ k < b /\ x = .int .i64 (b : Int) /\ lonA sq L (L - (k + 1)) (k + 1) (lonB sq k (L - b) b s) = F /\ Sm (2 * B + 10) s.2.2 /\ Blk wr w.heap.size 85 [.int .i64 0,.int .i64 0,.bool false,.string ⟨#[]⟩,.int .i64 0] /\ Blk wr g 85 (edgeC s) /\ Below w.heap.size w wr) (fun x _=>L - (intOf x).toNat)
     case atStart=>exact ⟨k + 1,s,by omega,by omega,by go_num,HFk.out,Hs.out,Hr.out,Hd.out,Hb.out⟩
     case round=>
      clear Hr Hd Hb HFk Hs
      obtain ⟨b,s,hb1,hb2,rfl,hF,hs,pr,pd,pb⟩:=hrel
      have Hr:=lid pr;have Hd:=lid pd;have Hb:=lid pb;have Hs:=lid hs;have HFb:=lid hF
      clear pr pd pb hs hF
      by_cases hlt2 : b < L
      . obtain ⟨b0,o0,a1,c1,hab0,hc0,hat0⟩:=(Ha.out.below Hb.out).row k (by rw [HL.out];omega)
        obtain ⟨b0',o0',a2,c2,hab1,hc1,hat1⟩:=(Ha.out.below Hb.out).row b (by rw [HL.out];omega)
        obtain ⟨rfl,rfl⟩ : b0' = b0 /\ o0' = o0:=by rw [hab0] at hab1;simp at hab1;exact ⟨hab1.1.symm,hab1.2.symm⟩
        clear hab1
        have i0:=i45x46 L cap k (k : Int) hab0 hlt rfl
        have i1:=i45x46 L cap b (b : Int) hab0 hlt2 rfl
        rw [Nat.mul_one] at i0 i1
        have hsq1:=fun W'=>Hcall.out k b (by rw [HL.out];omega) (by rw [HL.out];omega) a1 c1 a2 c2 W'
        obtain ⟨Y,hY⟩ : ∃ Y,sq k b = Y:=⟨_,rfl⟩
        have hYs:=Hsm.out k b
        rw [hY] at hsq1 hYs
        obtain ⟨n0,hn0⟩ : ∃ n0,(rows[k]'(by rw [HL.out];omega)).length = n0:=⟨_,rfl⟩
        obtain ⟨n1,hn1⟩ : ∃ n1,(rows[b]'(by rw [HL.out];omega)).length = n1:=⟨_,rfl⟩
        rw [hn0] at hc0
        rw [hn1] at hc1
        simp only [hn0,hn1] at hsq1
        have Hsq1:=lid hsq1;have Hat0:=lid hat0;have Hat1:=lid hat1;have HY:=lid hY;have HYs:=lid hYs
        have HT:=lid (HT0.out.below Hb.out)
        have Hu : Hid (Win wr b0' (o0' + k) [.slice a1 n0 c1]):=fun j hj=>by
         obtain rfl : j = 0:=by simp at hj;omega
         exact hc0
        have Hv : Hid (Win wr b0' (o0' + b) [.slice a2 n1 c2]):=fun j hj=>by
         obtain rfl : j = 0:=by simp at hj;omega
         exact hc1
        clear hsq1 hat0 hat1 hab0 hn0 hn1 hc0 hc1 hY hYs
        have ls1:=Hr.out.lt;have ls2:=Hd.out.lt
        go_upto_region 8 with fail
        go_cut [6] (fun s6 wx=>∃ g' : Nat,s6 = .pointer (some ⟨g',0,none⟩) /\ wr.heap.size <= g' /\ Blk wx g' 36 [.bool (sgnB (dN Y)),.string (bs (nt (dN Y).natAbs)),.int .i64 (dE Y)] /\ Below wr.heap.size wr wx)
        case first=>
         have u0:=Hu.out.w1
         have v0:=Hv.out.w1
         refine wp_region_planB (fun w'=>w'.cell? ⟨b0',o0' + k,none⟩ = some (.slice a1 n0 c1) /\ w'.cell? ⟨b0',o0' + b,none⟩ = some (.slice a2 n1 c2)) (fun i=>Nat.blt i 10) 8 9 [(9,false),(10,false)] [(8,false),(10,false)] [0,1,2,3,4,5,6,7] (by kernel_rfl) (by kernel_rfl) rfl rfl (by kernel_rfl) (fun o c a v w=>by cases o.dst<;>exact id) ⟨u0,v0⟩ ?_
         iterate 8 (refine planTB rfl rfl (v:=?_) (fun w' hw'=>?_) ?_;rotate_left;(focus obtain ⟨q0,q1⟩:=hw';go_simp;try with_reducible rfl);try simp only [Act.put,U1,U2,U3])
         refine planBB rfl rfl rfl rfl (fun K hK=>?_) (fun K hK=>?_)
         . go_simp
           with_reducible refine (Hsq1.out _ (by first | exact Hat0.out | exact At.drew Hat0.out) (by first | exact Hat1.out | exact At.drew Hat1.out) (by first | exact HT.out | exact Tab.drew HT.out | exact Tab.alloc HT.out _ | exact Tab.drew (Tab.alloc HT.out _) | exact Tab.alloc (Tab.drew HT.out) _)).mono ?_
           rintro e w5 ⟨rfl,hq⟩
           have hw5 : Below wr.heap.size wr w5:=bundrew hq
           refine hK _ _ ⟨cell_later hw5 u0,cell_later hw5 v0⟩ ?_
           try simp only [Act.put,U1,U2,U3]
           refine planF rfl rfl (fun K hK=>?_)
           go_simp
           refine hK _ _ (fun _=>⟨cell_new (cell_later hw5 u0),cell_new (cell_later hw5 v0)⟩) ?_
           try simp only [Act.put,U1,U2,U3]
           refine planF rfl rfl (fun K hK=>?_)
           go_simp
           refine hK _ _ (fun h=>absurd h (by decide)) ?_
           simp only [wpPlan]
           go_wp2_with fail
           go_meet
           exact ⟨w5.heap.size,rfl,hw5.size,Blk.new _ _ _,hw5.alloc hw5.size _⟩
         . go_simp
           refine hK _ _ ⟨cell_new u0,cell_new v0⟩ ?_
           try simp only [Act.put,U1,U2,U3]
           refine planF rfl rfl (fun K hK=>?_)
           go_simp
           with_reducible refine (Hsq1.out (wr.alloc (.cells #[.bool false,.string ⟨#[]⟩,.int .i64 0] 36)).drew (Hat0.out.alloc _).drew (Hat1.out.alloc _).drew (by first | exact HT.out | exact Tab.drew HT.out | exact Tab.alloc HT.out _ | exact Tab.drew (Tab.alloc HT.out _) | exact Tab.alloc (Tab.drew HT.out) _)).mono ?_
           rintro e w5 ⟨rfl,hq⟩
           have hw5 : Below wr.heap.size wr w5:=ballocd hq
           have Hn : Blk w5 wr.heap.size 36 [.bool false,.string ⟨#[]⟩,.int .i64 0]:=Blk.below (Blk.new wr.drew 36 [.bool false,.string ⟨#[]⟩,.int .i64 0]) hq
           obtain ⟨n0',fn0,n1',fn1,n2',fn2⟩:=Hn.g3
           refine hK _ _ (fun _=>⟨cell_later hw5 u0,cell_later hw5 v0⟩) ?_
           try simp only [Act.put,U1,U2,U3]
           refine planF rfl rfl (fun K hK=>?_)
           go_simp
           refine hK _ _ (fun h=>absurd h (by decide)) ?_
           simp only [wpPlan]
           go_wp2_with fail
           go_meet
           exact ⟨wr.heap.size,rfl,Nat.le_refl _,((Hn.set 0 _).set 1 _).set 2 _,((hw5.sc wr.heap.size 0 (Nat.le_refl _) _).sc wr.heap.size 1 (Nat.le_refl _) _).sc wr.heap.size 2 (Nat.le_refl _) _⟩
        case rest=>
         obtain ⟨g',rfl,hg',qn,qb⟩:=hcut
         have Hn:=lid qn
         replace Hr:=lid (Hr.out.below qb);replace Hd:=lid (Hd.out.below qb)
         replace Hb:=lid (bnext Hb.out qb)
         have HT2:=lid (HT.out.below qb)
         clear qn qb Hu Hv Hat0 Hat1 Hsq1 HT i0 i1
         obtain ⟨si,sj,sx⟩:=s
         have HfY : Hid (Ok (sgnB (dN Y),nt (dN Y).natAbs,dE Y)):=(HYs.out.fit (by omega)).1
         have HfS : Hid (Ok (sgnB (dN sx),nt (dN sx).natAbs,dE sx)):=(Hs.out.fit (by omega)).1
         obtain ⟨c,hc⟩ : ∃ c,dsg (Y - sx) = c:=⟨_,rfl⟩
         have HC : Hid (dsg (dval (sgnB (dN Y),nt (dN Y).natAbs,dE Y) - dval (sgnB (dN sx),nt (dN sx).natAbs,dE sx)) = c):=by
          show dsg (dval (canon Y) - dval (canon sx)) = c
          rw [dval_canon,dval_canon];exact hc
         have HFn : Hid (lonA sq L (L - (k + 1)) (k + 1) (lonB sq k (L - (b + 1)) (b + 1) (lonStep sq k b (si,sj,sx))) = F):=by
          have h:=HFb.out
          rw [show L - b = L - (b + 1) + 1 by omega] at h
          exact h
         have hstep : lonStep sq k b (si,sj,sx) = if 0 < c then (k,b,Y) else (si,sj,sx):=by
          unfold lonStep
          rw [HY.out]
          show (if 0 < dsg (Y - sx) then _ else _) = _
          rw [hc]
         have Hstep:=lid hstep
         clear hc hstep
         obtain ⟨d0,fd0,d1,fd1,d2,fd2,d3,fd3,d4,fd4⟩:=Hd.out.g5
         obtain ⟨n0,n1,n2⟩:=Hn.out.c3
         obtain ⟨r0,r1,r2,r3,r4⟩:=Hr.out.c5
         go_wp2_with fail
         refine (dCmp_any _ _ _ _ _ _ c HC.out _ HfY.out HfS.out HT2.out).mono ?_
         rintro e w7 ⟨rfl,hbn⟩
         clear d0 fd0 d1 fd1 d2 fd2 d3 fd3 d4 fd4
         clear n0 n1 n2
         clear r0 r1 r2 r3 r4
         replace Hd:=kB Hd hbn
         replace Hn:=kB Hn hbn
         replace Hr:=kB Hr hbn
         obtain ⟨d0,fd0,d1,fd1,d2,fd2,d3,fd3,d4,fd4⟩:=Hd.out.g5
         obtain ⟨n0,n1,n2⟩:=Hn.out.c3
         obtain ⟨r0,r1,r2,r3,r4⟩:=Hr.out.c5
         replace Hb:=bnx Hb hbn;clear hbn
         by_cases hc0 : 0 < c
         . go_wp2
           go_roundw
           case rel=>
            refine ⟨b + 1,(k,b,Y),by omega,by omega,by go_num,?_,HYs.out,?_,?_,?_⟩
            . have h:=HFn.out
              rw [Hstep.out,if_pos hc0] at h
              exact h
            . exact ((((Hr.out.so g 0 (by omega) _).so g 1 (by omega) _).so g 2 (by omega) _).so g 3 (by omega) _).so g 4 (by omega) _
            . exact ((((Hd.out.set 0 _).set 1 _).set 2 _).set 3 _).set 4 _
            . exact ((((Hb.out.sc g 0 (by omega) _).sc g 1 (by omega) _).sc g 2 (by omega) _).sc g 3 (by omega) _).sc g 4 (by omega) _
           case measure=>simp [intOf];omega
         . go_wp2
           go_roundw
           case rel=>
            refine ⟨b + 1,(si,sj,sx),by omega,by omega,by go_num,?_,Hs.out,Hr.out,Hd.out,Hb.out⟩
            have h:=HFn.out
            rw [Hstep.out,if_neg (by omega)] at h
            exact h
           case measure=>simp [intOf];omega
      . obtain rfl : b = L:=by omega
        go_wp2
        go_roundw
        case rel=>
         refine ⟨k + 1,s,by omega,by go_num,?_,Hs.out,Hr.out,Hd.out,Hb.out⟩
         have h:=HFb.out
         rw [Nat.sub_self] at h
         exact h
        case measure=>simp [intOf];omega
   . obtain rfl : k = L:=by omega
     rw [Nat.sub_self] at hF
     have HFs : Hid (s = F):=hF
     obtain ⟨si,sj,sx⟩:=s
     have Hr:=lid pr;have Hd:=lid pd;have Hb:=lid pb
     clear pr pd pb hF hs
     obtain ⟨d0,d1,d2,d3,d4⟩:=Hd.out.c5
     obtain ⟨r0,fr0,r1,fr1,r2,fr2,r3,fr3,r4,fr4⟩:=Hr.out.g5
     go_wp2
     clear d0 d1 d2 d3 d4
     clear r0 fr0 r1 fr1 r2 fr2 r3 fr3 r4 fr4
     refine body_world (fun w9=>Blk w9 (g) 85 [.int .i64 (si : Int),.int .i64 (sj : Int),.bool (sgnB (dN sx)),.string (bs (nt (dN sx).natAbs)),.int .i64 (dE sx)] /\ Blk w9 (w.heap.size) 85 [.int .i64 (si : Int),.int .i64 (sj : Int),.bool (sgnB (dN sx)),.string (bs (nt (dN sx).natAbs)),.int .i64 (dE sx)] /\ Below w.heap.size w w9) ⟨(((((Hd.out.so (w.heap.size) 0 (by omega) _).so (w.heap.size) 1 (by omega) _).so (w.heap.size) 2 (by omega) _).so (w.heap.size) 3 (by omega) _).so (w.heap.size) 4 (by omega) _),(((((Hr.out.set 0 _).set 1 _).set 2 _).set 3 _).set 4 _),(((((Hb.out.sc (w.heap.size) 0 (by have:=Hb.out.size;omega) _).sc (w.heap.size) 1 (by have:=Hb.out.size;omega) _).sc (w.heap.size) 2 (by have:=Hb.out.size;omega) _).sc (w.heap.size) 3 (by have:=Hb.out.size;omega) _).sc (w.heap.size) 4 (by have:=Hb.out.size;omega) _)⟩ ?_
     rintro w9 ⟨qd,qr,hbn⟩
     replace Hd:=lid qd;clear qd
     replace Hr:=lid qr;clear qr
     obtain ⟨d0,d1,d2,d3,d4⟩:=Hd.out.c5
     obtain ⟨r0,fr0,r1,fr1,r2,fr2,r3,fr3,r4,fr4⟩:=Hr.out.g5
     replace Hb:=lid hbn;clear hbn
     refine bodyPost_ret (v:=.agg (edgeC (si,sj,sx)).toArray) (by simp [results,Tryz.results36,go_sem,r0,r1,r2,r3,r4]) rfl ⟨by rw [<- HFs.out],Hb.out⟩
theorem Tryz.infoP : (Tryz.prog.info? 46).map (fun i=>(i.zero,i.size,i.bytes)) = some (some (.slice none 0 0),1,24):=by kernel_rfl
def formL (r : List Raw) : List Raw:=r.map fun x=>canon (dval x)
theorem formL_len (r : List Raw) : (formL r).length = r.length:=by simp [formL]
theorem formL_cells (r : List Raw) : (formL r).flatMap numC = dC (r.map dval):=by
 rw [dC_raws,List.map_map];rfl
def Own2 (e : TypeId) (w : World) (base : Nat) (R : List (List Dyadic)) (k : Nat) (v : Value) : Prop:=
 ∃ vals : List Value,vals.length = k /\ w.ownsRow base e 1 v k vals /\ ∀ i (h : i < vals.length),∃ a c,vals[i] = .slice a (R.getD i []).length c /\ At w a (dC (R.getD i [])) /\ ∀ b o,a = some ⟨b,o,none⟩ -> some b ≠ v.ownBlock /\ b < w.heap.size
theorem Own2.nil (e : TypeId) (w : World) (base : Nat) (R : List (List Dyadic)) : Own2 e w base R 0 (.slice none 0 0):=
 ⟨[],rfl,World.ownsRow_nil _ _ _ _,fun _ h=>absurd h (Nat.not_lt_zero _)⟩
theorem Own2.below {e : TypeId} {w w' : World} {base k : Nat} {R : List (List Dyadic)} {v : Value} (h : Own2 e w base R k v) (hb : Below w.heap.size w w') : Own2 e w' base R k v:=by
 obtain ⟨vals,hl,ho,hi⟩:=h
 refine ⟨vals,hl,ownsRow_below ho hb,fun i h=>?_⟩
 obtain ⟨a,c,h1,h2,h3⟩:=hi i h
 exact ⟨a,c,h1,h2.below hb,fun b o e=>⟨(h3 b o e).1,Nat.lt_of_lt_of_le (h3 b o e).2 hb.size⟩⟩
theorem Own2.push {e : TypeId} {w w' : World} {base k : Nat} {R : List (List Dyadic)} {v v' : Value} {vals : List Value} (hl : vals.length = k) (hi : ∀ i (h : i < vals.length),∃ a c,vals[i] = .slice a (R.getD i []).length c /\ At w a (dC (R.getD i [])) /\ ∀ b o,a = some ⟨b,o,none⟩ -> some b ≠ v.ownBlock /\ b < w.heap.size)
 {a : Option Addr} {c : Nat} (ha : At w a (dC (R.getD k []))) (hab : ∀ b o,a = some ⟨b,o,none⟩ -> some b ≠ v.ownBlock /\ b < w.heap.size)
 (ho : w'.ownsRow base e 1 v' (k + 1) (vals ++ [.slice a (R.getD k []).length c])) (hg : w.grownBy w' v.ownBlock) (hob : v'.ownBlock = v.ownBlock \/ v'.ownBlock = some w.heap.size) : Own2 e w' base R (k + 1) v':=by
 have hne : ∀ b,some b ≠ v.ownBlock -> b < w.heap.size -> some b ≠ v'.ownBlock:=by
  intro b h1 h2
  rcases hob with h | h
  . rw [h];exact h1
  . rw [h];intro h3;simp at h3;omega
 refine ⟨_,by simp [hl],ho,fun i h=>?_⟩
 by_cases hk : i < vals.length
 . obtain ⟨a1,c1,h1,h2,h3⟩:=hi i hk
   refine ⟨a1,c1,by rw [List.getElem_append_left hk];exact h1,h2.grown hg (fun b o e=>(h3 b o e).1),fun b o e=>⟨hne b (h3 b o e).1 (h3 b o e).2,Nat.lt_of_lt_of_le (h3 b o e).2 hg.size⟩⟩
 . have hik : i = k:=by simp at h;omega
   subst hik
   refine ⟨a,c,?_,ha.grown hg (fun b o e=>(hab b o e).1),fun b o e=>⟨hne b (hab b o e).1 (hab b o e).2,Nat.lt_of_lt_of_le (hab b o e).2 hg.size⟩⟩
   rw [List.getElem_append_right (by omega)]
   simp [hl]
theorem ownsRow_cap {W : World} {base : Nat} {e : TypeId} {size : Nat} {a : Option Addr} {n c : Nat} {xs : List Value} (h : W.ownsRow base e size (.slice a n c) n xs) : n <= c:=by
 rcases h.2 with ⟨h1,h2⟩ | ⟨g,cap,cur,h1,_,_,h2,_⟩
 . omega
 . simp at h1;omega
theorem Own2.tbl {e : TypeId} {w : World} {base k : Nat} {R : List (List Raw)} {v : Value} (h : Own2 e w base (R.map fun r=>r.map dval) k v) (hk : R.length = k) : ∃ a c,v = .slice a k c /\ k <= c /\ Tbl w a (R.map formL):=by
 obtain ⟨vals,hl,ho,hi⟩:=h
 obtain ⟨a,c,hv,hat,_⟩:=ownsRow_at ho
 subst hv
 refine ⟨a,c,rfl,ownsRow_cap ho,vals,by simp [hl,hk],hat,fun i h1 h2=>?_⟩
 obtain ⟨a1,c1,e1,e2,_⟩:=hi i h2
 have hi1 : i < R.length:=by simpa using h1
 have eg : (R.map fun r=>r.map dval).getD i [] = R[i].map dval:=by simp [hi1]
 rw [eg] at e1 e2
 refine ⟨a1,c1,?_,?_⟩
 . rw [e1];simp [formL_len]
 . rw [List.getElem_map,formL_cells];exact e2
theorem with_any (a : Option Addr) (L cap : Nat) (rows : List (List Raw)) (k0 : Nat) (pa : Option Addr) (pn pcap : Nat) (Pp : List Raw) (w : World) (hL : rows.length = L) (hL9 : L <= 9) (hP : Pp.length = pn) (hP8 : pn <= 8) (hrow : ∀ r ∈ rows,r.length <= 8) (ha : Tbl w a rows) (hp : At w pa (Pp.flatMap numC))
 (hok : ∀ r ∈ rows,∀ x ∈ r,Ok x) (hokP : ∀ x ∈ Pp,Ok x) (hT : Tab w) :
 Calls Tryz.prog 38 #[.slice a L cap,.int .i64 (k0 : Int),.slice pa pn pcap] w fun e w'=>∃ a' cap',e = .returned (.slice a' L cap') /\ L <= cap' /\ Tbl w' a' ((rows.set k0 Pp).map formL) /\ Below w.heap.size w w':=by
 obtain ⟨i0,hi,hz0,hz1,hz2⟩:=info_parts Tryz.infoN
 obtain ⟨j0,hj,hy0,hy1,hy2⟩:=info_parts Tryz.infoP
 obtain ⟨R,hR⟩ : ∃ R,rows.set k0 Pp = R:=⟨_,rfl⟩
 obtain ⟨S,hS⟩ : ∃ S,(R.map fun r=>r.map dval) = S:=⟨_,rfl⟩
 have hRL : R.length = L:=by rw [<- hR];simp [hL]
 have hR8 : ∀ r ∈ R,r.length <= 8:=by
  intro r hr
  rw [<- hR] at hr
  rcases List.mem_or_eq_of_mem_set hr with h | h
  . exact hrow r h
  . rw [h];omega
 have hRok : ∀ r ∈ R,∀ x ∈ r,Ok x:=by
  intro r hr
  rw [<- hR] at hr
  rcases List.mem_or_eq_of_mem_set hr with h | h
  . exact hok r h
  . rw [h];exact hokP
 have hsel : ∀ (W : World) (k : Nat) (hk : k < L),Below w.heap.size w W -> ∃ b o a1 c1 n1 aq cq,∃ (hk2 : k < R.length),a = some ⟨b,o,none⟩ /\ W.cell? ⟨b,o + k,none⟩ = some (.slice a1 n1 c1) /\ At W aq (R[k].flatMap numC) /\ ((k = k0 /\ aq = pa /\ R[k].length = pn /\ cq = pcap) \/ (k ≠ k0 /\ aq = a1 /\ R[k].length = n1 /\ cq = c1)):=by
  intro W k hk hb
  obtain ⟨b,o,a1,c1,h1,h2,h3⟩:=(ha.below hb).row k (by omega)
  by_cases hkk : k = k0
  . refine ⟨b,o,a1,c1,_,pa,pcap,by omega,h1,h2,?_,.inl ⟨hkk,rfl,?_,rfl⟩⟩
    . have : R[k]'(by omega) = Pp:=by simp only [<- hR,hkk,List.getElem_set_self]
      rw [this];exact hp.below hb
    . have : R[k]'(by omega) = Pp:=by simp only [<- hR,hkk,List.getElem_set_self]
      rw [this];exact hP
  . have : R[k]'(by omega) = rows[k]'(by omega):=by simp only [<- hR];exact List.getElem_set_ne (fun h=>hkk h.symm) _
    refine ⟨b,o,a1,c1,_,a1,c1,by omega,h1,h2,?_,.inr ⟨hkk,rfl,by rw [this],rfl⟩⟩
    rw [this];exact h3
 rw [hR]
 have Hi:=lid hi;have Hz0:=lid hz0;have Hz1:=lid hz1;have Hz2:=lid hz2
 have Hj:=lid hj;have Hy0:=lid hy0;have Hy1:=lid hy1;have Hy2:=lid hy2
 have HS:=lid hS;have HRL:=lid hRL;have HR8:=lid hR8;have HRok:=lid hRok;have Hsel:=lid hsel;have HT:=lid hT
 clear hi hz0 hz1 hz2 hj hy0 hy1 hy2 hR hS hRL hR8 hRok hsel ha hp hT hL hP hrow hok hokP
 go_enter Tryz.func38,Tryz.ntmps38
 have Hb : Hid (Below w.heap.size w w):=Below.refl _ _
 go_wp2_with fail
 go_loopw [7,15] (fun s7 x wr=>∃ (k : Nat) (v : Value),k <= L /\ x = .int .i64 (k : Int) /\ v = s7 /\ Own2 46 wr w.heap.size S k v /\ Below w.heap.size w wr) (fun _ x _=>L - (intOf x).toNat)
 case atStart=>exact ⟨0,_,Nat.zero_le _,rfl,rfl,Own2.nil _ _ _ _,Hb.out⟩
 case round=>
  clear Hb
  obtain ⟨k,v,hk,rfl,rfl,pv,pb⟩:=hrel
  by_cases hlt : k < L
  . obtain ⟨b1,o1,a1,c1,n1,aq,cq,hk2,hab,hc1,hat,hor⟩:=Hsel.out wr k hlt pb
    have hix1:=i45x46 L cap k (k : Int) hab hlt rfl
    rw [Nat.mul_one] at hix1
    obtain ⟨Q,hQ⟩ : ∃ Q,R[k] = Q:=⟨_,rfl⟩
    rw [hQ] at hat hor
    have hQ8:=HR8.out _ (List.getElem_mem hk2)
    have hQok:=HRok.out _ (List.getElem_mem hk2)
    rw [hQ] at hQ8 hQok
    obtain ⟨Z,hZ⟩ : ∃ Z,Q.map dval = Z:=⟨_,rfl⟩
    have hSk : S.getD k [] = Z:=by rw [<- HS.out,<- hZ,<- hQ];simp [hk2]
    have hQl : Q.length <= 8:=hQ8
    obtain ⟨n,hn⟩ : ∃ n,Q.length = n:=⟨_,rfl⟩
    rw [hn] at hQl hor
    have Hat:=lid hat;have HQok:=lid hQok;have HZ:=lid hZ;have HSk:=lid hSk;have Hor:=lid hor;have Hn:=lid hn;have Hpb:=lid pb;have Hpv:=lid pv
    clear hat hQok hZ hSk hor hn pb pv hQ hab hQ8
    have szr:=Hpb.out.size
    go_upto_if 22 with fail
    go_cut [9] (fun s9 wx=>s9 = .slice aq n cq /\ wx = wr)
    case first=>
     rcases Hor.out with ⟨rfl,rfl,rfl,rfl⟩ | ⟨h1,rfl,rfl,rfl⟩
     . go_wp2_with fail
       go_meet
       exact ⟨rfl,rfl⟩
     . have h2 : ((k : Int) == (k0 : Int)) = false:=by simp;omega
       have h3 : ¬ (k : Int) = (k0 : Int):=by omega
       go_wp2_with fail
       go_meet
       exact ⟨rfl,rfl⟩
    case rest=>
     obtain ⟨rfl,rfl⟩:=hcut
     clear hix1 hc1
     go_wp2_with fail
     go_loopw [10,26] (fun s10 x wr=>∃ (j : Nat) (v2 : Value),j <= n /\ x = .int .i64 (j : Int) /\ v2 = s10 /\ wr.ownsRow wc.heap.size 36 3 v2 j (dC (Z.take j)) /\ Below wc.heap.size wc wr) (fun _ x _=>n - (intOf x).toNat)
     case atStart=>exact ⟨0,_,Nat.zero_le _,rfl,rfl,World.ownsRow_nil _ _ _ _,Below.refl _ _⟩
     case round=>
      obtain ⟨j,v2,hj,rfl,rfl,ho,hb2⟩:=hrel
      by_cases hlt2 : j < n
      . have h1 : j < Q.length:=by rw [Hn.out];exact hlt2
        obtain ⟨s,m,e,hx⟩ : ∃ s m e,Q[j] = (s,m,e):=⟨_,_,_,rfl⟩
        have hok:=HQok.out _ (List.getElem_mem h1)
        rw [hx] at hok
        obtain ⟨X,hX⟩ : ∃ X,dval (s,m,e) = X:=⟨_,rfl⟩
        have Hst : Hid (dC (Z.take (j + 1)) = dC (Z.take j) ++ [.bool (sgnB (dN X)),.string (bs (nt (dN X).natAbs)),.int .i64 (dE X)]):=by
         show _ = _
         rw [<- HZ.out,List.take_succ_eq_append_getElem (by simpa using h1),dC_append]
         congr 1
         simp only [List.getElem_map,hx,hX]
         rfl
        obtain ⟨b2,o2,hab2,p0,p1,p2⟩:=(Hat.out.below hb2).num j h1 hx
        have hix2:=i46x36 n cq j (j : Int) hab2 hlt2 rfl
        have HX:=lid hX;have HOk:=lid hok;have Ho:=lid ho;have Hb2:=lid hb2
        have HT2:=lid ((HT.out.below Hpb.out).below hb2)
        have sz2:=hb2.size
        have Hp : Hid (Win wr b2 (o2 + j * 3) [.bool s,.string (bs m),.int .i64 e]):=win3 p0 p1 p2
        clear hX hok ho hb2 hx hab2 p0 p1 p2
        have Hb : Hid (Below wr.heap.size wr wr):=Below.refl _ _
        obtain ⟨p0,p1,p2⟩:=Hp.out.w3
        have P0:=p0;have P1:=p1;have P2:=p2
        obtain ⟨W4,hW_W4⟩ : ∃ W4,(wr.alloc (.cells #[.bool s,.string (bs m),.int .i64 e] 36)) = W4:=⟨_,rfl⟩
        have hbn : Below wr.heap.size wr W4:=by rw [<- hW_W4];exact ((Below.refl _ _).alloc (Nat.le_refl _) _)
        clear p0 p1 p2
        replace Hp:=kW Hp hbn
        have Hc : Hid (Blk W4 (wr.heap.size) 36 [.bool s,.string (bs m),.int .i64 e]):=by rw [<- hW_W4];exact Blk.newAt _ _ _ (by simp)
        obtain ⟨p0,p1,p2⟩:=Hp.out.w3
        obtain ⟨c0,c1,c2⟩:=Hc.out.c3
        replace Hb:=bnx Hb hbn;clear hbn
        have HT : Hid (Tab W4):=HT2.out.below Hb.out
        go_wp2_with fail
        refine (form_any s m e X HX.out _ HOk.out HT.out).mono ?_
        rintro e w5 ⟨rfl,hbn⟩
        clear p0 p1 p2
        clear c0 c1 c2
        replace Hp:=kW Hp hbn
        replace Hc:=kB Hc hbn
        replace HT:=kT HT hbn
        obtain ⟨p0,p1,p2⟩:=Hp.out.w3
        obtain ⟨c0,c1,c2⟩:=Hc.out.c3
        replace Hb:=bnx Hb hbn;clear hbn
        have lz_c_W6:=Hc.out.lt
        obtain ⟨W6,hW_W6⟩ : ∃ W6,(w5.alloc (.cells #[.bool (sgnB (dN X)),.string (bs (nt (dN X).natAbs)),.int .i64 (dE X)] 36)) = W6:=⟨_,rfl⟩
        have hbn : Below w5.heap.size w5 W6:=by rw [<- hW_W6];exact ((Below.refl _ _).alloc (Nat.le_refl _) _)
        clear p0 p1 p2
        replace Hp:=kW Hp hbn
        clear c0 c1 c2
        replace Hc:=kB Hc hbn
        replace HT:=kT HT hbn
        have Hd : Hid (Blk W6 (w5.heap.size) 36 [.bool (sgnB (dN X)),.string (bs (nt (dN X).natAbs)),.int .i64 (dE X)]):=by rw [<- hW_W6];exact Blk.newAt _ _ _ (by simp)
        obtain ⟨p0,p1,p2⟩:=Hp.out.w3
        obtain ⟨c0,c1,c2⟩:=Hc.out.c3
        obtain ⟨d0,d1,d2⟩:=Hd.out.c3
        replace Hb:=bnx Hb hbn;clear hbn
        have hv6:=ownsRow_below Ho.out Hb.out
        have hs6:=Hb.out.size
        have hnews:=blk_news Hd.out
        clear d0 d1 d2
        go_wp2_with (at_builtin;refine wpList_append_own_at _ rfl _ _ 46 rfl wc.heap.size 36 i0 _ 3 32 Tryz.underlying46 Hi.out Hz0.out Hz1.out Hz2.out rfl (by decide) v2 j (dC (Z.take j)) rfl hv6 ⟨w5.heap.size,0,none⟩ 1 1 [.bool (sgnB (dN X)),.string (bs (nt (dN X).natAbs)),.int .i64 (dE X)] rfl rfl hnews (by simp [Value.oneCell']) (by simp [maxLen];omega) (by omega) (by omega) ?_;intro v' w7 ho7 hg7 _ _;obtain ⟨g',cq2,rfl⟩:=ownsRow_succ ho7)
        go_roundw
        case rel=>
         refine ⟨j + 1,_,by omega,by go_num,rfl,?_,?_⟩
         . rw [Hst.out];exact ho7
         . exact (bnext Hb2.out Hb.out).grown hg7 (by omega) (fun j e=>ownsRow_base hv6 j e)
        case measure=>simp [intOf];omega
      . obtain rfl : j = n:=by omega
        have hZn : Z.take j = Z:=List.take_of_length_le (by rw [<- HZ.out];simp [Hn.out])
        rw [hZn] at ho
        obtain ⟨a2,cap2,rfl,hat2,hab2⟩:=ownsRow_at ho
        have hlt3:=ho.lt
        obtain ⟨vals,hvl,hov,hvi⟩:=Hpv.out.below hb2
        have Hb : Hid (Below wr.heap.size wr wr):=Below.refl _ _
        obtain ⟨_,_,hov0,_⟩:=Hpv.out
        have hvs:=hov0.lt
        have hin : ∀ b o,a2 = some ⟨b,o,none⟩ -> some b ≠ v.ownBlock /\ b < wr.heap.size:=by
         intro b o e
         subst e
         have h1:=hlt3 b rfl
         refine ⟨fun h2=>?_,h1.2⟩
         have h3:=hvs b h2.symm
         omega
        have Hin:=lid hin;have Hat2:=lid hat2;have Hvl:=lid hvl;have Hvi:=lid hvi;have Hov:=lid hov;have Hb2:=lid hb2
        have sz2:=hb2.size
        clear hin hat2 hvl hvi hov hov0 hvs hb2 hab2 hlt3 hZn ho hlt2 hj
        obtain ⟨W6,hW_W6⟩ : ∃ W6,(wr.alloc (.cells #[.slice a2 j cap2] 46)) = W6:=⟨_,rfl⟩
        have hbn : Below wr.heap.size wr W6:=by rw [<- hW_W6];exact ((Below.refl _ _).alloc (Nat.le_refl _) _)
        have Hd : Hid (Blk W6 (wr.heap.size) 46 [.slice a2 j cap2]):=by rw [<- hW_W6];exact Blk.newAt _ _ _ (by simp)
        have d0:=Hd.out.c1
        replace Hb:=bnx Hb hbn;clear hbn
        have hv6:=ownsRow_below Hov.out Hb.out
        have hs6:=Hb.out.size
        have hnews : ∀ i u,([.slice a2 j cap2] : List Value)[i]? = some u -> W6.cell? ((⟨wr.heap.size,0,none⟩ : Addr).add i) = some u:=blk_news Hd.out
        clear d0
        go_wp2_with (at_builtin;refine wpList_append_own_at _ rfl _ _ 45 rfl w.heap.size 46 j0 _ 1 24 Tryz.underlying45 Hj.out Hy0.out Hy1.out Hy2.out rfl (by decide) v k vals rfl hv6 ⟨wr.heap.size,0,none⟩ 1 1 [.slice a2 j cap2] rfl rfl hnews (by simp [Value.oneCell']) (by simp [maxLen];omega) (by omega) (by omega) ?_;intro v' w7 ho7 hg7 _ hob;obtain ⟨g',cq2,rfl⟩:=ownsRow_succ ho7)
        go_roundw
        case rel=>
         refine ⟨k + 1,_,by omega,by go_num,rfl,?_,?_⟩
         . refine Own2.push (a:=a2) (c:=cap2) Hvl.out (w:=W6) ?_ ?_ ?_ ?_ hg7 hob
           . intro i h
             obtain ⟨a,c,h1,h2,h3⟩:=Hvi.out i h
             exact ⟨a,c,h1,h2.below Hb.out,fun b o e=>⟨(h3 b o e).1,Nat.lt_of_lt_of_le (h3 b o e).2 hs6⟩⟩
           . rw [HSk.out];exact Hat2.out.below Hb.out
           . exact fun b o e=>⟨(Hin.out b o e).1,Nat.lt_of_lt_of_le (Hin.out b o e).2 hs6⟩
           . rw [HSk.out,<- HZ.out,List.length_map,Hn.out];exact ho7
         . exact (bnext (bnext Hpb.out Hb2.out) Hb.out).grown hg7 (by omega) (fun j e=>ownsRow_base hv6 j e)
        case measure=>simp [intOf];omega
  . obtain rfl : k = L:=by omega
    have hlen : R.length = k:=HRL.out
    rw [<- HS.out] at pv
    obtain ⟨a2,c2,rfl,hcl,htb⟩:=Own2.tbl pv hlen
    have Htb:=lid htb;have Hpb:=lid pb
    clear pv pb htb hlen
    go_wp2
    refine bodyPost_ret (results_tmp rfl _ _ _) rfl ⟨a2,c2,rfl,hcl,Htb.out,Hpb.out⟩
theorem longest_ok (a : Option Addr) (L cap n : Nat) (rows : List (List Raw)) (B : Nat) (w : World) (hL : rows.length = L) (hv : varsI rows = n) (hn : 1 <= n) (ha : Tbl w a rows)
 (hfit : ∀ r ∈ rows,∀ c ∈ r,Fit B c) (hB : B <= 10000000) (hT : Tab w) :
 Calls Tryz.prog 14 #[.slice a L cap] w fun e w'=>e = .returned (.tuple #[.int .i64 ((lonF (sqR rows n) L).1 : Int),.int .i64 ((lonF (sqR rows n) L).2.1 : Int),numV (lonF (sqR rows n) L).2.2,.int .i64 0]) /\ Below w.heap.size w w':=by
 obtain ⟨c1,c2,c3,c4⟩:=varsI_ok hv (by omega)
 have hvars:=fun W=>fun (h : Tbl W a rows)=>vars_any a L cap rows W hL (by omega) h
 have hlon:=fun W=>fun (h : Tbl W a rows) (hT : Tab W)=>longest_any a L cap n rows B W hL (by omega) (by omega) (by omega) (fun r hr=>by have:=c4 r hr;omega) h hfit hB hT
 rw [hv] at hvars
 obtain ⟨⟨i,j,X⟩,hF⟩ : ∃ F,lonF (sqR rows n) L = F:=⟨_,rfl⟩
 simp only [hF] at hlon
 rw [hF]
 have Hvars:=lid hvars;have Hlon:=lid hlon;have Ha:=lid ha;have HT:=lid hT
 have h0 : ((n : Int) == 0) = false:=by simp;omega
 have h0' : ¬ (n : Int) = 0:=by omega
 clear hvars hlon ha hT hF hfit hv c1 c2 c3 c4 hL
 obtain ⟨W,hW_W⟩ : ∃ W,(w.alloc (.cells #[.bool false,.string ⟨#[]⟩,.int .i64 0] 36)) = W:=⟨_,rfl⟩
 have Hb : Hid (Below w.heap.size w W):=by rw [<- hW_W];exact ((Below.refl _ _).alloc (Nat.le_refl _) _)
 have Hr : Hid (Blk W (w.heap.size) 36 [.bool false,.string ⟨#[]⟩,.int .i64 0]):=by rw [<- hW_W];exact Blk.newAt _ _ _ (by simp)
 obtain ⟨r0,fr0,r1,fr1,r2,fr2⟩:=Hr.out.g3
 go_enter Tryz.func14,Tryz.ntmps14
 go_wp2_with fail
 refine (Hvars.out _ (Ha.out.below Hb.out)).mono ?_
 rintro e w1 ⟨rfl,hbn⟩
 clear r0 fr0 r1 fr1 r2 fr2
 replace Hr:=kB Hr hbn
 obtain ⟨r0,fr0,r1,fr1,r2,fr2⟩:=Hr.out.g3
 replace Hb:=bnx Hb hbn;clear hbn
 go_wp2_with fail
 refine (Hlon.out _ (Ha.out.below Hb.out) (HT.out.below Hb.out)).mono ?_
 rintro e w2 ⟨rfl,hbn⟩
 clear r0 fr0 r1 fr1 r2 fr2
 replace Hr:=kB Hr hbn
 obtain ⟨r0,fr0,r1,fr1,r2,fr2⟩:=Hr.out.g3
 replace Hb:=bnx Hb hbn;clear hbn
 have lz_r_w3:=Hr.out.lt
 obtain ⟨w3,hW_w3⟩ : ∃ w3,(w2.alloc (.cells #[.int .i64 (i : Int),.int .i64 (j : Int),.bool (sgnB (dN X)),.string (bs (nt (dN X).natAbs)),.int .i64 (dE X)] 85)) = w3:=⟨_,rfl⟩
 have hbn : Below w2.heap.size w2 w3:=by rw [<- hW_w3];exact ((Below.refl _ _).alloc (Nat.le_refl _) _)
 clear r0 fr0 r1 fr1 r2 fr2
 replace Hr:=kB Hr hbn
 have Hx : Hid (Blk w3 (w2.heap.size) 85 [.int .i64 (i : Int),.int .i64 (j : Int),.bool (sgnB (dN X)),.string (bs (nt (dN X).natAbs)),.int .i64 (dE X)]):=by rw [<- hW_w3];exact Blk.newAt _ _ _ (by simp)
 obtain ⟨r0,fr0,r1,fr1,r2,fr2⟩:=Hr.out.g3
 obtain ⟨x0,x1,x2,x3,x4⟩:=Hx.out.c5
 replace Hb:=bnx Hb hbn;clear hbn
 go_wp2_with fail
 refine wp_region_plan (fun w'=>w'.cell? ⟨w2.heap.size,0,none⟩ = some (.int .i64 (i : Int)) /\ w'.cell? ⟨w2.heap.size,1,none⟩ = some (.int .i64 (j : Int)) /\ w'.cell? ⟨w2.heap.size,2,none⟩ = some (.bool (sgnB (dN X))) /\ w'.cell? ⟨w2.heap.size,3,none⟩ = some (.string (bs (nt (dN X).natAbs))) /\ w'.cell? ⟨w2.heap.size,4,none⟩ = some (.int .i64 (dE X))) (fun i=>Nat.blt i 10) [(0,true),(1,true),(2,true),(3,true),(4,true),(5,true),(6,true),(7,true),(8,true),(9,true),(10,false),(11,false)] (by kernel_rfl) (by kernel_rfl) rfl (by kernel_rfl) (fun o c a v w=>by cases o.dst<;>exact id) ⟨x0,x1,x2,x3,x4⟩ ?_
 iterate 10 (refine planT rfl rfl (v:=?_) (fun w' hw'=>?_) ?_;rotate_left;(focus obtain ⟨q0,q1,q2,q3,q4⟩:=hw';go_simp;try with_reducible rfl);try simp only [Act.put,U1,U2,U3])
 refine planF rfl rfl (fun K hK=>?_)
 go_simp
 refine hK _ _ (fun h=>absurd h (by decide)) ?_;clear hK K
 try simp only [Act.put,U1,U2,U3]
 clear r0 fr0 r1 fr1 r2 fr2
 clear x0 x1 x2 x3 x4
 refine plan_world (fun w4=>Blk w4 (w.heap.size) 36 [.bool (sgnB (dN X)),.string (bs (nt (dN X).natAbs)),.int .i64 (dE X)] /\ Blk w4 (w2.heap.size) 85 [.int .i64 (i : Int),.int .i64 (j : Int),.bool (sgnB (dN X)),.string (bs (nt (dN X).natAbs)),.int .i64 (dE X)] /\ Below w.heap.size w w4) ⟨(((Hr.out.set 0 _).set 1 _).set 2 _),(((Hx.out.so (w.heap.size) 0 (by omega) _).so (w.heap.size) 1 (by omega) _).so (w.heap.size) 2 (by omega) _),by first | exact (((Hb.out.sc (w.heap.size) 0 (by have:=Hb.out.size;omega) _).sc (w.heap.size) 1 (by have:=Hb.out.size;omega) _).sc (w.heap.size) 2 (by have:=Hb.out.size;omega) _) | exact Below.drew (((Hb.out.sc (w.heap.size) 0 (by have:=Hb.out.size;omega) _).sc (w.heap.size) 1 (by have:=Hb.out.size;omega) _).sc (w.heap.size) 2 (by have:=Hb.out.size;omega) _)⟩ ?_
 rintro w4 ⟨qr,qx,hbn⟩
 replace Hr:=lid qr;clear qr
 replace Hx:=lid qx;clear qx
 obtain ⟨r0,fr0,r1,fr1,r2,fr2⟩:=Hr.out.g3
 obtain ⟨x0,x1,x2,x3,x4⟩:=Hx.out.c5
 replace Hb:=lid hbn;clear hbn
 refine planF rfl rfl (fun K hK=>?_)
 go_simp
 refine hK _ _ (fun h=>absurd h (by decide)) ?_;clear hK K
 try simp only [Act.put,U1,U2,U3]
 simp only [wpPlan]
 go_wp2
 refine bodyPost_ret (v:=.tuple #[.int .i64 (i : Int),.int .i64 (j : Int),numV X,.int .i64 0]) (by simp [results,Tryz.results14,go_sem,r0,r1,r2]) rfl ⟨rfl,?_⟩
 (repeat first | exact Hb.out | (refine Below.setCell ?_ (by have:=Hb.out.size;first | (dsimp only;omega) | (show _ <= _;omega) | (simp<;>omega)) _) | (refine Below.alloc ?_ (by have:=Hb.out.size;simp<;>omega) _) | refine Below.drew ?_)
def midD (p q : List Raw) : List Dyadic:=List.zipWith (fun x y=>(dval x + dval y) * hp 1) p q
def midR (p q : List Raw) : List Raw:=(midD p q).map canon
theorem midD_len {p q : List Raw} (h : p.length = q.length) : (midD p q).length = p.length:=by simp [midD,h]
theorem midR_len {p q : List Raw} (h : p.length = q.length) : (midR p q).length = p.length:=by simp [midR,midD_len h]
theorem midD_take (p q : List Raw) (k : Nat) (h : k < p.length) (h' : k < q.length) : (midD p q).take (k + 1) = (midD p q).take k ++ [(dval p[k] + dval q[k]) * hp 1]:=by
 unfold midD
 rw [List.take_succ_eq_append_getElem (by simp;omega)]
 simp
theorem midR_fit {B : Nat} {p q : List Raw} (hp' : ∀ x ∈ p,Fit B x) (hq : ∀ x ∈ q,Fit B x) (hB : B <= 10000000) : ∀ x ∈ midR p q,Fit (B + 3) x:=by
 intro x hx
 unfold midR midD at hx
 obtain ⟨d,hd,rfl⟩:=List.mem_map.1 hx
 obtain ⟨i,hi,rfl⟩:=List.mem_iff_getElem.1 hd
 have hi1 : i < p.length /\ i < q.length:=by simp at hi;omega
 rw [List.getElem_zipWith]
 have h1:=Sm.mul (Sm.add (hp' _ (List.getElem_mem hi1.1)).2 (hq _ (List.getElem_mem hi1.2)).2) (hp_sm 1)
 exact (h1.mono (show B + 1 + (1 + 1) <= B + 3 by omega)).fit (by omega)
theorem halve_ok (a : Option Addr) (L cap n : Nat) (rows : List (List Raw)) (B : Nat) (i j : Nat) (Y : Dyadic) (w : World) (hL : rows.length = L) (hv : varsI rows = n) (hn : 1 <= n) (ha : Tbl w a rows)
 (hfit : ∀ r ∈ rows,∀ c ∈ r,Fit B c) (hB : B <= 10000000) (hT : Tab w) (hF : lonF (sqR rows n) L = (i,j,Y)) :
 Calls Tryz.prog 15 #[.slice a L cap] w fun e w'=>∃ a1 c1 a2 c2,e = .returned (.tuple #[.slice a1 L c1,.slice a2 L c2,.int .i64 0]) /\ L <= c1 /\ L <= c2 /\
  Tbl w' a1 ((rows.set j (midR (rows.getD i []) (rows.getD j []))).map formL) /\ Tbl w' a2 ((rows.set i (midR (rows.getD i []) (rows.getD j []))).map formL) /\ Below w.heap.size w w':=by
 obtain ⟨i0,hi,hz0,hz1,hz2⟩:=info_parts Tryz.infoN
 obtain ⟨c1,c2,c3,c4⟩:=varsI_ok hv (by omega)
 have hlon:=fun W=>fun (h : Tbl W a rows) (hT : Tab W)=>longest_ok a L cap n rows B W hL hv hn h hfit hB hT
 have hinv:=lonF_inv (sqR rows n) L (by omega)
 rw [hF] at hinv
 simp only [hF] at hlon
 obtain ⟨hij,hjL,hY⟩:=hinv
 dsimp only at hij hjL hY
 have hiL : i < L:=by omega
 obtain ⟨p,hp'⟩ : ∃ p,rows.getD i [] = p:=⟨_,rfl⟩
 obtain ⟨q,hq'⟩ : ∃ q,rows.getD j [] = q:=⟨_,rfl⟩
 have ep : rows[i]'(by omega) = p:=by rw [<- hp'];simp [hL,hiL]
 have eq : rows[j]'(by omega) = q:=by rw [<- hq'];simp [hL,hjL]
 have hpl : p.length = n:=by have:=c4 p (by rw [<- ep];exact List.getElem_mem _);omega
 have hql : q.length = n:=by have:=c4 q (by rw [<- eq];exact List.getElem_mem _);omega
 have hpf : ∀ x ∈ p,Fit B x:=by rw [<- ep];exact hfit _ (List.getElem_mem _)
 have hqf : ∀ x ∈ q,Fit B x:=by rw [<- eq];exact hfit _ (List.getElem_mem _)
 rw [hp',hq']
 have hwith:=fun (k : Nat) (pa : Option Addr) (pc : Nat) (W : World) (h1 : Tbl W a rows) (h2 : At W pa (dC (midD p q))) (h3 : Tab W)=>with_any a L cap rows k pa n pc (midR p q) W hL (by omega) (by rw [midR_len (by omega)];exact hpl) (by omega) (fun r hr=>by have:=c4 r hr;omega) h1 (by unfold midR;rw [<- dC_raws];exact h2) (fun r hr x hx=>(hfit r hr x hx).1) (fun x hx=>(midR_fit hpf hqf hB x hx).1) h3
 obtain ⟨A1,hA1⟩ : ∃ A1,(rows.set j (midR p q)).map formL = A1:=⟨_,rfl⟩
 obtain ⟨A2,hA2⟩ : ∃ A2,(rows.set i (midR p q)).map formL = A2:=⟨_,rfl⟩
 have hwj:=hwith j
 have hwi:=hwith i
 rw [hA1] at hwj ⊢
 rw [hA2] at hwi ⊢
 have hrow:=fun (W : World) (h : Tbl W a rows)=>h.row i (by omega)
 have hrow2:=fun (W : World) (h : Tbl W a rows)=>h.row j (by omega)
 simp only [ep,hpl] at hrow
 simp only [eq,hql] at hrow2
 obtain ⟨Z,hZ⟩ : ∃ Z,midD p q = Z:=⟨_,rfl⟩
 have hst : ∀ k (h : k < p.length) (h' : k < q.length),Z.take (k + 1) = Z.take k ++ [(dval p[k] + dval q[k]) * hp 1]:=by rw [<- hZ];exact midD_take p q
 have hZl : Z.length = n:=by rw [<- hZ,midD_len (by omega),hpl]
 rw [hZ] at hwi hwj
 have Hi:=lid hi;have Hz0:=lid hz0;have Hz1:=lid hz1;have Hz2:=lid hz2
 have Hlon:=lid hlon;have Ha:=lid ha;have HT:=lid hT;have Hwi:=lid hwi;have Hwj:=lid hwj;have Hrow:=lid hrow;have Hrow2:=lid hrow2;have Hst:=lid hst;have HZl:=lid hZl;have Hpl:=lid hpl;have Hql:=lid hql;have Hpf:=lid hpf;have Hqf:=lid hqf
 have hn8 : n <= 8:=by omega
 clear hi hz0 hz1 hz2 hlon ha hT hwi hwj hwith hrow hrow2 hst hZl hpl hql hpf hqf ep eq hp' hq' hY hF hfit hv c1 c2 c3 c4 hL hZ hA1 hA2
 have Hb : Hid (Below w.heap.size w w):=Below.refl _ _
 go_enter Tryz.func15,Tryz.ntmps15
 go_wp2_with fail
 refine (Hlon.out _ (Ha.out.below Hb.out) (HT.out.below Hb.out)).mono ?_
 rintro e w1 ⟨rfl,hbn⟩
 replace Hb:=bnx Hb hbn;clear hbn
 obtain ⟨w2,hW_w2⟩ : ∃ w2,(w1.alloc (.cells #[.bool (sgnB (dN Y)),.string (bs (nt (dN Y).natAbs)),.int .i64 (dE Y)] 36)) = w2:=⟨_,rfl⟩
 have hbn : Below w1.heap.size w1 w2:=by rw [<- hW_w2];exact ((Below.refl _ _).alloc (Nat.le_refl _) _)
 have Hx : Hid (Blk w2 (w1.heap.size) 36 [.bool (sgnB (dN Y)),.string (bs (nt (dN Y).natAbs)),.int .i64 (dE Y)]):=by rw [<- hW_w2];exact Blk.newAt _ _ _ (by simp)
 obtain ⟨x0,x1,x2⟩:=Hx.out.c3
 replace Hb:=bnx Hb hbn;clear hbn
 obtain ⟨b0,o0,a1,c1,hab0,hc0,hat0⟩:=Hrow.out w2 (Ha.out.below Hb.out)
 obtain ⟨b0',o0',a2,c2,hab1,hc1,hat1⟩:=Hrow2.out w2 (Ha.out.below Hb.out)
 obtain ⟨rfl,rfl⟩ : b0' = b0 /\ o0' = o0:=by rw [hab0] at hab1;simp at hab1;exact ⟨hab1.1.symm,hab1.2.symm⟩
 clear hab1
 have ix0:=i45x46 L cap i (i : Int) hab0 hiL rfl
 have ix1:=i45x46 L cap j (j : Int) hab0 hjL rfl
 rw [Nat.mul_one] at ix0 ix1
 have Hc0:=lid hc0;have Hc1:=lid hc1;have Hat0:=lid hat0;have Hat1:=lid hat1;have Hab:=lid hab0
 clear hc1 hat0 hat1 hab0
 have sz2:=Hb.out.size
 go_wp2_with fail
 go_loopw [8,25] (fun s8 x wr=>∃ (k : Nat) (v : Value),k <= n /\ x = .int .i64 (k : Int) /\ v = s8 /\ wr.ownsRow w2.heap.size 36 3 v k (dC (Z.take k)) /\ Below w2.heap.size w2 wr) (fun _ x _=>n - (intOf x).toNat)
 case atStart=>exact ⟨0,_,Nat.zero_le _,rfl,rfl,World.ownsRow_nil _ _ _ _,Below.refl _ _⟩
 case round=>
  clear hc0 x0 x1 x2
  obtain ⟨k,v,hk,rfl,rfl,pv,pb⟩:=hrel
  by_cases hlt : k < n
  . have k1 : k < p.length:=by rw [Hpl.out];exact hlt
    have k2 : k < q.length:=by rw [Hql.out];exact hlt
    obtain ⟨sp,mp,ep,hxp⟩ : ∃ s m e,p[k] = (s,m,e):=⟨_,_,_,rfl⟩
    obtain ⟨sq,mq,eq,hxq⟩ : ∃ s m e,q[k] = (s,m,e):=⟨_,_,_,rfl⟩
    have hfp:=Hpf.out _ (List.getElem_mem k1)
    have hfq:=Hqf.out _ (List.getElem_mem k2)
    have hst:=Hst.out k k1 k2
    rw [hxp] at hfp hst
    rw [hxq] at hfq hst
    obtain ⟨D,hD⟩ : ∃ D,dval (sp,mp,ep) + dval (sq,mq,eq) = D:=⟨_,rfl⟩
    obtain ⟨X,hX⟩ : ∃ X,D * hp 1 = X:=⟨_,rfl⟩
    rw [hD,hX] at hst
    have hDs : Sm (B + 1) D:=by rw [<- hD];exact Sm.add hfp.2 hfq.2
    have HDo : Hid (Ok (sgnB (dN D),nt (dN D).natAbs,dE D)):=(hDs.fit (by omega)).1
    have HX : Hid (dval (sgnB (dN D),nt (dN D).natAbs,dE D + -1) = X):=by show _ = _;rw [<- hX];exact shift_half D 1
    have Hs2 : Hid (dC (Z.take (k + 1)) = dC (Z.take k) ++ [.bool (sgnB (dN X)),.string (bs (nt (dN X).natAbs)),.int .i64 (dE X)]):=by
     show _ = _
     rw [hst,dC_append]
     rfl
    obtain ⟨b1,o1,hab1,p0,p1,p2⟩:=(Hat0.out.below pb).num k k1 hxp
    obtain ⟨b2,o2,hab2,q0,q1,q2⟩:=(Hat1.out.below pb).num k k2 hxq
    have hix1:=i46x36 n c1 k (k : Int) hab1 hlt rfl
    have hix2:=i46x36 n c2 k (k : Int) hab2 hlt rfl
    have lb1 : b1 < w2.heap.size:=(by subst hab1;exact Hat0.out.lt (by intro h0;have:=congrArg List.length h0;rw [flat_length numC 3 (fun _=>rfl)] at this;simp at this;omega))
    have lb2 : b2 < w2.heap.size:=(by subst hab2;exact Hat1.out.lt (by intro h0;have:=congrArg List.length h0;rw [flat_length numC 3 (fun _=>rfl)] at this;simp at this;omega))
    have lb0 : b0' < w2.heap.size:=World.block_lt_of_cell? w2 _ Hc0.out
    have Hu : Hid (Win wr b0' (o0' + i) [.slice a1 n c1]):=fun j hj=>by
     obtain rfl : j = 0:=by simp at hj;omega
     exact cell_later pb Hc0.out
    have Hv : Hid (Win wr b0' (o0' + j) [.slice a2 n c2]):=fun j hj=>by
     obtain rfl : j = 0:=by simp at hj;omega
     exact cell_later pb Hc1.out
    have Hp : Hid (Win wr b1 (o1 + k * 3) [.bool sp,.string (bs mp),.int .i64 ep]):=win3 p0 p1 p2
    have Hq : Hid (Win wr b2 (o2 + k * 3) [.bool sq,.string (bs mq),.int .i64 eq]):=win3 q0 q1 q2
    have Hfp:=lid hfp;have Hfq:=lid hfq;have HD:=lid hD;have Hpv:=lid pv;have Hbr:=lid pb
    have HT1:=lid ((HT.out.below Hb.out).below pb)
    have Hb0:=Hb
    have sz3:=pb.size
    clear Hb pv pb hfp hfq hD hX hst hDs hxp hxq hab1 hab2 p0 p1 p2 q0 q1 q2
    have Hb : Hid (Below wr.heap.size wr wr):=Below.refl _ _
    go_wp2_with fail
    have u0:=Hu.out.w1
    have v0:=Hv.out.w1
    obtain ⟨p0,p1,p2⟩:=Hp.out.w3
    obtain ⟨q0,q1,q2⟩:=Hq.out.w3
    refine wp_region_plan (fun w'=>w'.cell? ⟨b0',o0' + i,none⟩ = some (.slice a1 n c1) /\ w'.cell? ⟨b0',o0' + j,none⟩ = some (.slice a2 n c2) /\ w'.cell? ⟨b1,o1 + k * 3,none⟩ = some (.bool sp) /\ w'.cell? ⟨b1,o1 + k * 3 + 1,none⟩ = some (.string (bs mp)) /\ w'.cell? ⟨b1,o1 + k * 3 + 2,none⟩ = some (.int .i64 ep) /\ w'.cell? ⟨b2,o2 + k * 3,none⟩ = some (.bool sq) /\ w'.cell? ⟨b2,o2 + k * 3 + 1,none⟩ = some (.string (bs mq)) /\ w'.cell? ⟨b2,o2 + k * 3 + 2,none⟩ = some (.int .i64 eq)) (fun i=>Nat.blt i 100000) [(0,true),(1,true),(2,true),(3,true),(4,true),(5,true),(6,true),(7,true),(8,true),(9,true),(10,true),(11,true),(12,true),(13,true),(14,true),(15,false),(16,false),(17,false),(18,false),(19,false),(20,true)] (by kernel_rfl) (by kernel_rfl) rfl (by kernel_rfl) (fun o c a v w=>by cases o.dst<;>exact id) ⟨u0,v0,p0,p1,p2,q0,q1,q2⟩ ?_
    iterate 15 (refine planT rfl rfl (v:=?_) (fun w' hw'=>?_) ?_;rotate_left;(focus obtain ⟨q0,q1,q2,q3,q4,q5,q6,q7⟩:=hw';go_simp;try with_reducible rfl);try simp only [Act.put,U1,U2,U3])
    refine planF rfl rfl (fun K hK=>?_)
    go_simp
    refine hK _ _ (fun _=>⟨cell_new u0,cell_new v0,cell_new p0,cell_new p1,cell_new p2,cell_new q0,cell_new q1,cell_new q2⟩) ?_;clear hK K
    try simp only [Act.put,U1,U2,U3]
    refine plan_world (fun w4=>Blk w4 (wr.heap.size) 36 [.bool sp,.string (bs mp),.int .i64 ep,.bool sq,.string (bs mq),.int .i64 eq] /\ Below wr.heap.size wr w4) (by first | exact nw1 | exact nw2) ?_
    rintro w4 ⟨qe,hbn⟩
    clear u0
    clear v0
    clear p0 p1 p2
    clear q0 q1 q2
    replace Hu:=kW Hu hbn
    replace Hv:=kW Hv hbn
    replace Hp:=kW Hp hbn
    replace Hq:=kW Hq hbn
    have He:=lid qe;clear qe
    have u0:=Hu.out.w1
    have v0:=Hv.out.w1
    obtain ⟨p0,p1,p2⟩:=Hp.out.w3
    obtain ⟨q0,q1,q2⟩:=Hq.out.w3
    obtain ⟨e0,e1,e2,e3,e4,e5⟩:=He.out.c6
    replace Hb:=bnx Hb hbn;clear hbn
    refine planF rfl rfl (fun K hK=>?_)
    go_simp
    with_reducible refine (dAdd_two sp mp ep sq mq eq D B HD.out wr.heap.size 2 36 _ Hfp.out Hfq.out (by omega) He.out (by first | exact (HT1.out.below Hb.out) | exact Tab.drew (HT1.out.below Hb.out) | exact Tab.alloc (HT1.out.below Hb.out) _ | exact Tab.drew (Tab.alloc (HT1.out.below Hb.out) _) | exact Tab.alloc (Tab.drew (HT1.out.below Hb.out)) _)).mono ?_
    rintro e w5 ⟨rfl,hq⟩
    have hbn : Below w4.heap.size w4 w5:=by first | exact hq | exact bundrew hq
    clear u0
    clear v0
    clear p0 p1 p2
    clear q0 q1 q2
    clear e0 e1 e2 e3 e4 e5
    replace Hu:=kW Hu hbn
    replace Hv:=kW Hv hbn
    replace Hp:=kW Hp hbn
    replace Hq:=kW Hq hbn
    replace He:=kB He hbn
    have u0:=Hu.out.w1
    have v0:=Hv.out.w1
    obtain ⟨p0,p1,p2⟩:=Hp.out.w3
    obtain ⟨q0,q1,q2⟩:=Hq.out.w3
    obtain ⟨e0,e1,e2,e3,e4,e5⟩:=He.out.c6
    replace Hb:=bnx Hb hbn;clear hbn
    refine hK _ _ (fun _=>⟨u0,v0,p0,p1,p2,q0,q1,q2⟩) ?_;clear hK K
    try simp only [Act.put,U1,U2,U3]
    refine planF rfl rfl (fun K hK=>?_)
    go_simp
    with_reducible refine (shift_any (sgnB (dN D)) (nt (dN D).natAbs) (dE D) (-1) X HX.out _ HDo.out (by decide) (by first | exact (HT1.out.below Hb.out) | exact Tab.drew (HT1.out.below Hb.out) | exact Tab.alloc (HT1.out.below Hb.out) _ | exact Tab.drew (Tab.alloc (HT1.out.below Hb.out) _) | exact Tab.alloc (Tab.drew (HT1.out.below Hb.out)) _)).mono ?_
    rintro e w6 ⟨rfl,hq⟩
    have hbn : Below w5.heap.size w5 w6:=by first | exact hq | exact bundrew hq
    clear u0
    clear v0
    clear p0 p1 p2
    clear q0 q1 q2
    clear e0 e1 e2 e3 e4 e5
    replace Hu:=kW Hu hbn
    replace Hv:=kW Hv hbn
    replace Hp:=kW Hp hbn
    replace Hq:=kW Hq hbn
    replace He:=kB He hbn
    have u0:=Hu.out.w1
    have v0:=Hv.out.w1
    obtain ⟨p0,p1,p2⟩:=Hp.out.w3
    obtain ⟨q0,q1,q2⟩:=Hq.out.w3
    obtain ⟨e0,e1,e2,e3,e4,e5⟩:=He.out.c6
    replace Hb:=bnx Hb hbn;clear hbn
    refine hK _ _ (fun _=>⟨u0,v0,p0,p1,p2,q0,q1,q2⟩) ?_;clear hK K
    try simp only [Act.put,U1,U2,U3]
    refine planF rfl rfl (fun K hK=>?_)
    go_simp
    refine hK _ _ (fun _=>⟨cell_new u0,cell_new v0,cell_new p0,cell_new p1,cell_new p2,cell_new q0,cell_new q1,cell_new q2⟩) ?_;clear hK K
    try simp only [Act.put,U1,U2,U3]
    refine plan_world (fun w7=>Blk w7 (w6.heap.size) 36 [.bool (sgnB (dN X)),.string (bs (nt (dN X).natAbs)),.int .i64 (dE X)] /\ Below w6.heap.size w6 w7) (by first | exact nw1 | exact nw2) ?_
    rintro w7 ⟨qc,hbn⟩
    clear u0
    clear v0
    clear p0 p1 p2
    clear q0 q1 q2
    clear e0 e1 e2 e3 e4 e5
    have lz_e_w7:=He.out.lt
    replace Hu:=kW Hu hbn
    replace Hv:=kW Hv hbn
    replace Hp:=kW Hp hbn
    replace Hq:=kW Hq hbn
    replace He:=kB He hbn
    have Hc:=lid qc;clear qc
    have u0:=Hu.out.w1
    have v0:=Hv.out.w1
    obtain ⟨p0,p1,p2⟩:=Hp.out.w3
    obtain ⟨q0,q1,q2⟩:=Hq.out.w3
    obtain ⟨e0,e1,e2,e3,e4,e5⟩:=He.out.c6
    obtain ⟨c0,c1,c2⟩:=Hc.out.c3
    replace Hb:=bnx Hb hbn;clear hbn
    refine planF rfl rfl (fun K hK=>?_)
    have hv6:=ownsRow_below Hpv.out Hb.out
    have hs6:=Hb.out.size
    refine wp_append_own _ _ _ 46 rfl w2.heap.size 36 i0 _ 3 32 Tryz.underlying46 Hi.out Hz0.out Hz1.out Hz2.out rfl (by decide) v k (dC (Z.take k)) rfl hv6 ⟨w6.heap.size,0,none⟩ 1 1 [.bool (sgnB (dN X)),.string (bs (nt (dN X).natAbs)),.int .i64 (dE X)] rfl rfl (blk_news Hc.out) (by simp [Value.oneCell']) (by simp [maxLen];omega) (by omega) (by omega) ?_
    intro v' w8 ho8 hg8 _
    obtain ⟨g',cq,rfl⟩:=ownsRow_succ ho8
    have nb : ∀ b,b < w2.heap.size -> some b ≠ v.ownBlock:=fun b hb e=>by have:=ownsRow_base hv6 b e.symm;omega
    refine hK _ _ (fun _=>⟨grownBy_cell hg8 u0 (nb _ lb0),grownBy_cell hg8 v0 (nb _ lb0),grownBy_cell hg8 p0 (nb _ lb1),grownBy_cell hg8 p1 (nb _ lb1),grownBy_cell hg8 p2 (nb _ lb1),grownBy_cell hg8 q0 (nb _ lb2),grownBy_cell hg8 q1 (nb _ lb2),grownBy_cell hg8 q2 (nb _ lb2)⟩) ?_;clear hK K
    try simp only [Act.put,U1,U2,U3]
    refine planT rfl rfl (v:=?_) (fun w' hw'=>?_) ?_;rotate_left;focus (go_simp;try with_reducible rfl)
    try simp only [Act.put,U1,U2,U3]
    simp only [wpPlan]
    clear u0 v0 p0 p1 p2 q0 q1 q2 c0 c1 c2
    go_wp2
    go_roundw
    case rel=>
     refine ⟨k + 1,_,by omega,by go_num,rfl,?_,?_⟩
     . rw [Hs2.out];exact ho8
     . exact (bnext Hbr.out Hb.out).grown hg8 (by omega) (fun j e=>ownsRow_base hv6 j e)
    case measure=>simp [intOf];omega
  . obtain rfl : k = n:=by omega
    have hZn : Z.take k = Z:=List.take_of_length_le (by rw [HZl.out];exact Nat.le_refl _)
    rw [hZn] at pv
    obtain ⟨a3,cap3,rfl,hat3,_⟩:=ownsRow_at pv
    have Hat3:=lid hat3
    have HT3:=lid ((HT.out.below Hb.out).below pb)
    have Ha3:=lid ((Ha.out.below Hb.out).below pb)
    have Hb0:=lid (bnext Hb.out pb)
    clear Hb hat3 pv pb hZn ix0 ix1
    have Hb : Hid (Below w.heap.size w wr):=Hb0
    go_wp2_with fail
    refine (Hwj.out a3 cap3 _ Ha3.out Hat3.out HT3.out).mono ?_
    rintro e w4 ⟨a4,c4,rfl,hl4,ht4,hbn⟩
    have Ht4:=lid ht4
    replace Hb:=lid (bnext Hb.out hbn)
    replace Hat3:=lid (Hat3.out.below hbn);replace HT3:=lid (HT3.out.below hbn);replace Ha3:=lid (Ha3.out.below hbn)
    clear ht4 hbn
    go_wp2_with fail
    refine (Hwi.out a3 cap3 _ Ha3.out Hat3.out HT3.out).mono ?_
    rintro e w5 ⟨a5,c5,rfl,hl5,ht5,hbn⟩
    have Ht5:=lid ht5
    replace Hb:=lid (bnext Hb.out hbn)
    replace Ht4:=lid (Ht4.out.below hbn)
    clear ht5 hbn
    go_wp2
    refine bodyPost_ret (v:=.tuple #[.slice a4 L c4,.slice a5 L c5,.int .i64 0]) (by simp [results,Tryz.results15,go_sem]) rfl ⟨a4,c4,a5,c5,rfl,hl4,hl5,Ht4.out,Ht5.out,Hb.out⟩
theorem Tryz.infoQ : (Tryz.prog.info? 22).map (fun i=>(i.zero,i.size,i.bytes)) = some (some (.slice none 0 0),1,24):=by kernel_rfl
def difD (o p : List Raw) : List Dyadic:=List.zipWith (fun x y=>dval x - dval y) p o
theorem difD_len {o p : List Raw} (h : p.length = o.length) : (difD o p).length = p.length:=by simp [difD,h]
theorem difD_take (o p : List Raw) (k : Nat) (h : k < p.length) (h' : k < o.length) : (difD o p).take (k + 1) = (difD o p).take k ++ [dval p[k] - dval o[k]]:=by
 unfold difD
 rw [List.take_succ_eq_append_getElem (by simp;omega)]
 simp
theorem Own2.tblD {e : TypeId} {w : World} {base k : Nat} {R : List (List Dyadic)} {v : Value} (h : Own2 e w base R k v) (hk : R.length = k) : ∃ a c,v = .slice a k c /\ k <= c /\ Tbl w a (R.map fun r=>r.map canon):=by
 obtain ⟨vals,hl,ho,hi⟩:=h
 obtain ⟨a,c,hv,hat,_⟩:=ownsRow_at ho
 subst hv
 refine ⟨a,c,rfl,ownsRow_cap ho,vals,by simp [hl,hk],hat,fun i h1 h2=>?_⟩
 obtain ⟨a1,c1,e1,e2,_⟩:=hi i h2
 have hi1 : i < R.length:=by simpa using h1
 have eg : R.getD i [] = R[i]:=by simp [hi1]
 rw [eg] at e1 e2
 refine ⟨a1,c1,?_,?_⟩
 . rw [e1];simp
 . rw [List.getElem_map,<- dC_raws];exact e2
theorem rows_tri (b o cap m n : Nat) (rows : List (List Raw)) (B : Nat) (w : World) (hL : rows.length = m + 1) (hm : m <= 8) (hcap : m + 1 <= cap) (hm1 : 1 <= m) (hn : 1 <= n) (hn8 : n <= 8) (hrow : ∀ r ∈ rows,r.length = n) (ha : Tbl w (some ⟨b,o,none⟩) rows)
 (hfit : ∀ r ∈ rows,∀ c ∈ r,Fit B c) (hB : B <= 10000000) (hT : Tab w) :
 Calls Tryz.prog 75 #[.slice (some ⟨b,o,none⟩) (m + 1) cap] w fun e w'=>∃ a' c',e = .returned (.slice a' m c') /\ m <= c' /\
  Tbl w' a' (((rows.drop 1).map fun p=>difD (rows.getD 0 []) p).map fun r=>r.map canon) /\ Below w.heap.size w w':=by
 obtain ⟨i0,hi,hz0,hz1,hz2⟩:=info_parts Tryz.infoN
 obtain ⟨j0,hj,hy0,hy1,hy2⟩:=info_parts Tryz.infoQ
 obtain ⟨S,hS⟩ : ∃ S,((rows.drop 1).map fun p=>difD (rows.getD 0 []) p) = S:=⟨_,rfl⟩
 have hSL : S.length = m:=by rw [<- hS];simp [hL]
 have hSk : ∀ k (h0 : 0 < rows.length) (h1 : k + 1 < rows.length),S.getD k [] = difD rows[0] rows[k + 1]:=by
  intro k h0 h1
  subst hS
  have e0 : rows.getD 0 [] = rows[0]:=by simp [h0]
  rw [e0]
  have h2 : k < (rows.drop 1).length:=by simp;omega
  simp [h1]
 rw [hS]
 have hcell:=fun (W : World) (h : Tbl W (some ⟨b,o,none⟩) rows) (k : Nat) (hk : k < rows.length)=>h.row k hk
 have Hi:=lid hi;have Hz0:=lid hz0;have Hz1:=lid hz1;have Hz2:=lid hz2
 have Hj:=lid hj;have Hy0:=lid hy0;have Hy1:=lid hy1;have Hy2:=lid hy2
 have HSL:=lid hSL;have HSk:=lid hSk;have Hcell:=lid hcell;have HT:=lid hT;have Ha:=lid ha;have Hrow:=lid hrow;have Hfit:=lid hfit;have HL:=lid hL
 clear hi hz0 hz1 hz2 hj hy0 hy1 hy2 hS hSL hSk hcell ha hT hL hrow hfit
 have e1 : m + 1 - 1 = m:=by omega
 have e2 : ¬ cap = 1:=by omega
 go_enter Tryz.func75,Tryz.ntmps75
 have Hb : Hid (Below w.heap.size w w):=Below.refl _ _
 go_wp2_with fail
 obtain ⟨r0,hr0⟩ : ∃ r0,rows[0]'(by rw [HL.out];omega) = r0:=⟨_,rfl⟩
 obtain ⟨_,_,a0,c0,hab0,hc0,hat0⟩:=Hcell.out w Ha.out 0 (by rw [HL.out];omega)
 obtain ⟨rfl,rfl⟩ : b = _ /\ o = _:=by simp at hab0;exact hab0
 have hn0 : r0.length = n:=by rw [<- hr0];exact Hrow.out _ (List.getElem_mem _)
 have hf0 : ∀ x ∈ r0,Fit B x:=by rw [<- hr0];exact Hfit.out _ (List.getElem_mem _)
 have hS0 : ∀ k (h1 : k + 1 < rows.length),S.getD k [] = difD r0 rows[k + 1]:=fun k h1=>by rw [HSk.out k (by omega) h1,hr0]
 rw [hr0] at hc0 hat0
 rw [hn0] at hc0
 rw [Nat.add_zero] at hc0
 have ix0:=i45x46 (m + 1) cap 0 0 (show some (⟨b,o,none⟩ : Addr) = some ⟨b,o,none⟩ from rfl) (by omega) rfl
 rw [Nat.mul_one,Nat.add_zero] at ix0
 have Hc0:=lid hc0;have Hat0:=lid hat0;have Hn0:=lid hn0;have Hf0:=lid hf0;have HS0:=lid hS0
 have lb0 : b < w.heap.size:=World.block_lt_of_cell? w _ hc0
 clear hc0 hat0 hn0 hf0 hS0 hr0 hab0 Hb
 go_loopw [3,11] (fun s3 x wr=>∃ (k : Nat) (v : Value),k <= m /\ x = .int .i64 (k : Int) /\ v = s3 /\ Own2 22 wr w.heap.size S k v /\ Below w.heap.size w wr) (fun _ x _=>m - (intOf x).toNat)
 case atStart=>exact ⟨0,_,Nat.zero_le _,rfl,rfl,Own2.nil _ _ _ _,Below.refl _ _⟩
 case round=>
  obtain ⟨k,v,hk,rfl,rfl,pv,pb⟩:=hrel
  by_cases hlt : k < m
  . have hk2 : k + 1 < rows.length:=by rw [HL.out];omega
    obtain ⟨p,hpp⟩ : ∃ p,rows[k + 1] = p:=⟨_,rfl⟩
    obtain ⟨_,_,a1,c1,hab,hc1,hat⟩:=Hcell.out wr (Ha.out.below pb) (k + 1) hk2
    obtain ⟨rfl,rfl⟩ : b = _ /\ o = _:=by simp at hab;exact hab
    have hpn : p.length = n:=by rw [<- hpp];exact Hrow.out _ (List.getElem_mem hk2)
    have hpf : ∀ x ∈ p,Fit B x:=by rw [<- hpp];exact Hfit.out _ (List.getElem_mem hk2)
    have hSp:=HS0.out k hk2
    rw [hpp] at hc1 hat hSp
    rw [hpn] at hc1
    have hix1:=i45x46 m (cap - 1) k (k : Int) (show some (⟨b,o + 1,none⟩ : Addr) = some ⟨b,o + 1,none⟩ from rfl) hlt rfl
    rw [Nat.mul_one] at hix1
    have hc1' : wr.cell? ⟨b,o + 1 + k,none⟩ = some (.slice a1 n c1):=by rw [show o + 1 + k = o + (k + 1) by omega];exact hc1
    obtain ⟨Z,hZ⟩ : ∃ Z,difD r0 p = Z:=⟨_,rfl⟩
    rw [hZ] at hSp
    have Hat:=lid hat;have Hpn:=lid hpn;have Hpf:=lid hpf;have HSp:=lid hSp;have HZ:=lid hZ;have Hpb:=lid pb;have Hpv:=lid pv
    clear hat hpn hpf hSp hZ pb pv hab hpp hc1
    have szr:=Hpb.out.size
    obtain ⟨wc,hwc⟩ : ∃ wc,wc = wr:=⟨_,rfl⟩
    subst hwc
    go_wp2_with fail
    go_loopw [6,17] (fun s6 x wr=>∃ (j : Nat) (v2 : Value),j <= n /\ x = .int .i64 (j : Int) /\ v2 = s6 /\ wr.ownsRow wc.heap.size 36 3 v2 j (dC (Z.take j)) /\ Below wc.heap.size wc wr) (fun _ x _=>n - (intOf x).toNat)
    case atStart=>exact ⟨0,_,Nat.zero_le _,rfl,rfl,World.ownsRow_nil _ _ _ _,Below.refl _ _⟩
    case round=>
     clear hc1'
     obtain ⟨j,v2,hj,rfl,rfl,ho,hb2⟩:=hrel
     by_cases hlt2 : j < n
     . have k1 : j < p.length:=by rw [Hpn.out];exact hlt2
       have k2 : j < r0.length:=by rw [Hn0.out];exact hlt2
       obtain ⟨sp,mp,ep,hxp⟩ : ∃ s m e,p[j] = (s,m,e):=⟨_,_,_,rfl⟩
       obtain ⟨sq,mq,eq,hxq⟩ : ∃ s m e,r0[j] = (s,m,e):=⟨_,_,_,rfl⟩
       have hfp:=Hpf.out _ (List.getElem_mem k1)
       have hfq:=Hf0.out _ (List.getElem_mem k2)
       rw [hxp] at hfp
       rw [hxq] at hfq
       obtain ⟨X,hX⟩ : ∃ X,dval (sp,mp,ep) - dval (sq,mq,eq) = X:=⟨_,rfl⟩
       have Hs2 : Hid (dC (Z.take (j + 1)) = dC (Z.take j) ++ [.bool (sgnB (dN X)),.string (bs (nt (dN X).natAbs)),.int .i64 (dE X)]):=by
        show _ = _
        rw [<- HZ.out,difD_take _ _ _ k1 k2,dC_append,hxp,hxq,hX]
        rfl
       have hB2:=bnext Hpb.out hb2
       obtain ⟨b1,o1,hab1,p0,p1,p2⟩:=(Hat.out.below hb2).num j k1 hxp
       obtain ⟨b2,o2,hab2,q0,q1,q2⟩:=(Hat0.out.below hB2).num j k2 hxq
       have hjx1:=i46x36 n c1 j (j : Int) hab1 hlt2 rfl
       have hjx2:=i46x36 n c0 j (j : Int) hab2 hlt2 rfl
       have lb1 : b1 < wc.heap.size:=(by subst hab1;exact Hat.out.lt (by intro h0;have:=congrArg List.length h0;rw [flat_length numC 3 (fun _=>rfl)] at this;simp at this;omega))
       have lb2 : b2 < wc.heap.size:=Nat.lt_of_lt_of_le (by subst hab2;exact Hat0.out.lt (by intro h0;have:=congrArg List.length h0;rw [flat_length numC 3 (fun _=>rfl)] at this;simp at this;omega)) szr
       have lbc : b < wc.heap.size:=Nat.lt_of_lt_of_le lb0 szr
       have Hu : Hid (Win wr b o [.slice a0 n c0]):=fun i hi=>by
        obtain rfl : i = 0:=by simp at hi;omega
        exact cell_later hB2 Hc0.out
       have Hp : Hid (Win wr b1 (o1 + j * 3) [.bool sp,.string (bs mp),.int .i64 ep]):=win3 p0 p1 p2
       have Hq : Hid (Win wr b2 (o2 + j * 3) [.bool sq,.string (bs mq),.int .i64 eq]):=win3 q0 q1 q2
       have Hfp:=lid hfp;have Hfq:=lid hfq;have HX:=lid hX;have Ho:=lid ho;have Hbr:=lid hb2
       have HT1:=lid (HT.out.below hB2)
       have sz3:=hb2.size
       clear ho hb2 hfp hfq hX hxp hxq hab1 hab2 p0 p1 p2 q0 q1 q2 hB2
       have Hb : Hid (Below wr.heap.size wr wr):=Below.refl _ _
       go_wp2_with fail
       have u0:=Hu.out.w1
       obtain ⟨p0,p1,p2⟩:=Hp.out.w3
       obtain ⟨q0,q1,q2⟩:=Hq.out.w3
       refine wp_region_plan (fun w'=>w'.cell? ⟨b,o,none⟩ = some (.slice a0 n c0) /\ w'.cell? ⟨b1,o1 + j * 3,none⟩ = some (.bool sp) /\ w'.cell? ⟨b1,o1 + j * 3 + 1,none⟩ = some (.string (bs mp)) /\ w'.cell? ⟨b1,o1 + j * 3 + 2,none⟩ = some (.int .i64 ep) /\ w'.cell? ⟨b2,o2 + j * 3,none⟩ = some (.bool sq) /\ w'.cell? ⟨b2,o2 + j * 3 + 1,none⟩ = some (.string (bs mq)) /\ w'.cell? ⟨b2,o2 + j * 3 + 2,none⟩ = some (.int .i64 eq)) (fun i=>Nat.blt i 100000) [(0,true),(1,true),(2,true),(3,true),(4,true),(5,true),(6,true),(7,true),(8,true),(9,true),(10,true),(11,false),(12,false),(13,false),(14,true)] (by kernel_rfl) (by kernel_rfl) rfl (by kernel_rfl) (fun o c a v w=>by cases o.dst<;>exact id) ⟨u0,p0,p1,p2,q0,q1,q2⟩ ?_
       iterate 11 (refine planT rfl rfl (v:=?_) (fun w' hw'=>?_) ?_;rotate_left;(focus obtain ⟨q0,q1,q2,q3,q4,q5,q6⟩:=hw';go_simp;try with_reducible rfl);try simp only [Act.put,U1,U2,U3])
       refine planF rfl rfl (fun K hK=>?_)
       go_simp
       with_reducible refine (dSub_fit sp mp ep sq mq eq X B HX.out _ Hfp.out Hfq.out (by omega) (by first | exact HT1.out | exact Tab.drew HT1.out | exact Tab.alloc HT1.out _ | exact Tab.drew (Tab.alloc HT1.out _) | exact Tab.alloc (Tab.drew HT1.out) _)).mono ?_
       rintro e w6 ⟨rfl,hq⟩
       have hbn : Below wr.heap.size wr w6:=by first | exact hq | exact bundrew hq
       clear u0
       clear p0 p1 p2
       clear q0 q1 q2
       replace Hu:=kW Hu hbn
       replace Hp:=kW Hp hbn
       replace Hq:=kW Hq hbn
       have u0:=Hu.out.w1
       obtain ⟨p0,p1,p2⟩:=Hp.out.w3
       obtain ⟨q0,q1,q2⟩:=Hq.out.w3
       replace Hb:=bnx Hb hbn;clear hbn
       refine hK _ _ (fun _=>⟨u0,p0,p1,p2,q0,q1,q2⟩) ?_;clear hK K
       try simp only [Act.put,U1,U2,U3]
       refine planF rfl rfl (fun K hK=>?_)
       go_simp
       refine hK _ _ (fun _=>⟨cell_new u0,cell_new p0,cell_new p1,cell_new p2,cell_new q0,cell_new q1,cell_new q2⟩) ?_;clear hK K
       try simp only [Act.put,U1,U2,U3]
       refine plan_world (fun w7=>Blk w7 (w6.heap.size) 36 [.bool (sgnB (dN X)),.string (bs (nt (dN X).natAbs)),.int .i64 (dE X)] /\ Below w6.heap.size w6 w7) (by first | exact nw1 | exact nw2) ?_
       rintro w7 ⟨qc,hbn⟩
       clear u0
       clear p0 p1 p2
       clear q0 q1 q2
       replace Hu:=kW Hu hbn
       replace Hp:=kW Hp hbn
       replace Hq:=kW Hq hbn
       have Hc:=lid qc;clear qc
       have u0:=Hu.out.w1
       obtain ⟨p0,p1,p2⟩:=Hp.out.w3
       obtain ⟨q0,q1,q2⟩:=Hq.out.w3
       obtain ⟨c0,c1,c2⟩:=Hc.out.c3
       replace Hb:=bnx Hb hbn;clear hbn
       refine planF rfl rfl (fun K hK=>?_)
       have hv6:=ownsRow_below Ho.out Hb.out
       have hs6:=Hb.out.size
       refine wp_append_own _ _ _ 22 rfl wc.heap.size 36 i0 _ 3 32 Tryz.underlying22 Hi.out Hz0.out Hz1.out Hz2.out rfl (by decide) v2 j (dC (Z.take j)) rfl hv6 ⟨w6.heap.size,0,none⟩ 1 1 [.bool (sgnB (dN X)),.string (bs (nt (dN X).natAbs)),.int .i64 (dE X)] rfl rfl (blk_news Hc.out) (by simp [Value.oneCell']) (by simp [maxLen];omega) (by omega) (by omega) ?_
       intro v' w8 ho8 hg8 _
       obtain ⟨g',cq,rfl⟩:=ownsRow_succ ho8
       have nb : ∀ b,b < wc.heap.size -> some b ≠ v2.ownBlock:=fun b hb e=>by have:=ownsRow_base hv6 b e.symm;omega
       refine hK _ _ (fun _=>⟨grownBy_cell hg8 u0 (nb _ lbc),grownBy_cell hg8 p0 (nb _ lb1),grownBy_cell hg8 p1 (nb _ lb1),grownBy_cell hg8 p2 (nb _ lb1),grownBy_cell hg8 q0 (nb _ lb2),grownBy_cell hg8 q1 (nb _ lb2),grownBy_cell hg8 q2 (nb _ lb2)⟩) ?_;clear hK K
       try simp only [Act.put,U1,U2,U3]
       refine planT rfl rfl (v:=?_) (fun w' hw'=>?_) ?_;rotate_left;focus (go_simp;try with_reducible rfl)
       try simp only [Act.put,U1,U2,U3]
       simp only [wpPlan]
       clear u0 p0 p1 p2 q0 q1 q2 c0 c1 c2
       go_wp2
       go_roundw
       case rel=>
        refine ⟨j + 1,_,by omega,by go_num,rfl,?_,?_⟩
        . rw [Hs2.out];exact ho8
        . exact (bnext Hbr.out Hb.out).grown hg8 (by omega) (fun j e=>ownsRow_base hv6 j e)
       case measure=>simp [intOf];omega
     . obtain rfl : j = n:=by omega
       have hZn : Z.take j = Z:=List.take_of_length_le (by rw [<- HZ.out,difD_len (by rw [Hpn.out,Hn0.out]),Hpn.out];exact Nat.le_refl _)
       rw [hZn] at ho
       obtain ⟨a2,cap2,rfl,hat2,hab2⟩:=ownsRow_at ho
       have hlt3:=ho.lt
       obtain ⟨vals,hvl,hov,hvi⟩:=Hpv.out.below hb2
       have Hb : Hid (Below wr.heap.size wr wr):=Below.refl _ _
       obtain ⟨_,_,hov0,_⟩:=Hpv.out
       have hvs:=hov0.lt
       have hin : ∀ b o,a2 = some ⟨b,o,none⟩ -> some b ≠ v.ownBlock /\ b < wr.heap.size:=by
        intro b o e
        subst e
        have h1:=hlt3 b rfl
        refine ⟨fun h2=>?_,h1.2⟩
        have h3:=hvs b h2.symm
        omega
       have Hin:=lid hin;have Hat2:=lid hat2;have Hvl:=lid hvl;have Hvi:=lid hvi;have Hov:=lid hov;have Hb2:=lid hb2
       have sz2:=hb2.size
       have HZl : Hid (Z.length = j):=by show _ = _;rw [<- HZ.out,difD_len (by rw [Hpn.out,Hn0.out]),Hpn.out]
       clear hin hat2 hvl hvi hov hov0 hvs hb2 hab2 hlt3 hZn ho hlt2 hj
       obtain ⟨W6,hW_W6⟩ : ∃ W6,(wr.alloc (.cells #[.slice a2 j cap2] 22)) = W6:=⟨_,rfl⟩
       have hbn : Below wr.heap.size wr W6:=by rw [<- hW_W6];exact ((Below.refl _ _).alloc (Nat.le_refl _) _)
       have Hd : Hid (Blk W6 (wr.heap.size) 22 [.slice a2 j cap2]):=by rw [<- hW_W6];exact Blk.newAt _ _ _ (by simp)
       have d0:=Hd.out.c1
       replace Hb:=bnx Hb hbn;clear hbn
       have hv6:=ownsRow_below Hov.out Hb.out
       have hs6:=Hb.out.size
       have hnews : ∀ i u,([.slice a2 j cap2] : List Value)[i]? = some u -> W6.cell? ((⟨wr.heap.size,0,none⟩ : Addr).add i) = some u:=blk_news Hd.out
       clear d0
       go_wp2_with (at_builtin;refine wpList_append_own_at _ rfl _ _ 131 rfl w.heap.size 22 j0 _ 1 24 Tryz.underlying131 Hj.out Hy0.out Hy1.out Hy2.out rfl (by decide) v k vals rfl hv6 ⟨wr.heap.size,0,none⟩ 1 1 [.slice a2 j cap2] rfl rfl hnews (by simp [Value.oneCell']) (by simp [maxLen];omega) (by omega) (by omega) ?_;intro v' w7 ho7 hg7 _ hob;obtain ⟨g',cq2,rfl⟩:=ownsRow_succ ho7)
       go_roundw
       case rel=>
        refine ⟨k + 1,_,by omega,by go_num,rfl,?_,?_⟩
        . refine Own2.push (a:=a2) (c:=cap2) Hvl.out (w:=W6) ?_ ?_ ?_ ?_ hg7 hob
          . intro i h
            obtain ⟨a,c,h1,h2,h3⟩:=Hvi.out i h
            exact ⟨a,c,h1,h2.below Hb.out,fun b o e=>⟨(h3 b o e).1,Nat.lt_of_lt_of_le (h3 b o e).2 hs6⟩⟩
          . rw [HSp.out];exact Hat2.out.below Hb.out
          . exact fun b o e=>⟨(Hin.out b o e).1,Nat.lt_of_lt_of_le (Hin.out b o e).2 hs6⟩
          . rw [HSp.out,HZl.out];exact ho7
        . exact (bnext (bnext Hpb.out Hb2.out) Hb.out).grown hg7 (by omega) (fun j e=>ownsRow_base hv6 j e)
       case measure=>simp [intOf];omega
  . obtain rfl : k = m:=by omega
    obtain ⟨a2,c2,rfl,hcl,htb⟩:=Own2.tblD pv HSL.out
    have Htb:=lid htb;have Hpb:=lid pb
    clear pv pb htb
    go_wp2
    refine bodyPost_ret (results_tmp rfl _ _ _) rfl ⟨a2,c2,rfl,hcl,Htb.out,Hpb.out⟩
end Go.Proofs.YtidjljldhdckiaaGreatDoor
