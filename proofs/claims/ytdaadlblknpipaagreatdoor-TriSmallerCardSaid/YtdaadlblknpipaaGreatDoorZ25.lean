/- TriSmaller: the law's own walk. -/
import Derived.Test.YtdaadlblknpipaaGreatDoorZ24
set_option linter.unusedVariables false
set_option linter.unusedSimpArgs false
set_option maxRecDepth 100000
set_option maxHeartbeats 16000000
namespace Go.Proofs.YtdaadlblknpipaaGreatDoor
open Go.RowKit
attribute [local go_sem ↓] Go.wp_at_zero Go.wp_at_succ
theorem Tryz.aoc : (Tryz.prog.info? 3).map (fun i=>(i.zero,i.size,i.bytes)) = some (some (.int .i64 0),1,8):=by kernel_rfl
theorem and1 (n : Int) : bits .and .i64 n 1 = n % 2:=by
 have h1 : (BitVec.ofInt 64 1).toNat = 2 ^ 1 - 1:=by decide
 have key : (BitVec.ofInt 64 n &&& BitVec.ofInt 64 1).toNat = (n % ((2 ^ 64 : Nat) : Int)).toNat % 2 ^ 1:=by rw [BitVec.toNat_and,BitVec.toNat_ofInt,h1,Nat.and_two_pow_sub_one_eq_mod]
 show IntKind.i64.wrap ((BitVec.ofInt 64 n &&& BitVec.ofInt 64 1).toNat : Nat) = n % 2
 rw [key,IntKind.wrap_i64];omega
theorem ajl (ss : List Int) (x : Int) : oO ss ++ [.int .i64 x] = oO (ss ++ [x]):=by unfold oO;rw [List.map_append];rfl
theorem ado (X : Dyadic) : aC (au (dN X),nt (dN X).natAbs,dE X + 2) = X + X + X + X:=by have h0 : aC (au (dN X),nt (dN X).natAbs,dE X) = X:=bP X;unfold aC at h0 ⊢;generalize iv (au (dN X)) (nt (dN X).natAbs) = z at *;have h2:=nz z 2 (-(dE X + 2));rw [show -(dE X + 2) + ((2 : Nat) : Int) = -dE X by omega] at h2;dsimp only at h0;rw [<- h2,show z * 2 ^ 2 = z + z + z + z by omega,<- oL,<- oL,<- oL,h0]
theorem acp {X Y Z W : Dyadic} (h : X + X + X + X <= Y + Y + Y) (hZ : X + X + X + X = Z) (hW : Y * Dyadic.ofIntWithPrec 3 0 = W) : bM (Z - W) <= 0:=by
 have h3 : (Dyadic.ofIntWithPrec 3 0 : Dyadic) = 1 + 1 + 1:=by decide +kernel
 have e : Z - W <= 0:=by rw [<- hZ,<- hW,h3];grind
 have:=mt (Jc (Z - W)).1 (by grind);omega
theorem ajq (a : Option Addr) (L cap : Nat) (rows : List (List Raw)) (sides : Int) (w : World) (hL : rows.length = L) (hsl : Sl a L cap) (ha : pq w a rows) (hT : aB w) :
 Calls Tryz.prog 7 #[.slice a L cap,.int .i64 sides] w fun e w'=>e = .returned (.bool true) /\ Bw w w':=by
 obtain ⟨i0,hi,hz0,hz1,hz2⟩:=info_parts Tryz.aoc;have Hi:=ah hi;have cO:=ah hz0;have cP:=ah hz1;have cE:=ah hz2;have hvs:=fun W (hW : Bw w W)=>akd a L cap rows none 0 0 [] W hL rfl (ha.below hW) (.inl rfl) Sl.nil;have Hvs:=ah hvs;have Ha:=ah ha.tbl;have eU:=ah hT;have HL:=ah hL;have uK:=ah hsl;clear hvs ha hT hL hsl hi hz0 hz1 hz2;have Hb : Hid (Bw w w):=Below.refl _ _;go_enter Tryz.func7,Tryz.ntmps7;go_wp2_with fail;refine (Hvs.out _ Hb.out).mono ?_;rintro e w1 ⟨⟨v,rfl,hv⟩,ae⟩;replace Hb:=ah (aJ Hb.out ae);clear ae;cases v with
 | true =>clear hv;go_wp2_with fail;refine (II _ (eU.out.below Hb.out)).mono ?_;rintro e w2 ⟨rfl,ae⟩;replace Hb:=az Hb ae;clear ae;go_wp2;refine bodyPost_ret (results_tmp rfl _ _ _) rfl ⟨rfl,Hb.out⟩
 | false =>
   have pN:=hv rfl;obtain ⟨hf,dO⟩:=pN.fit;have h5 : L <= 5:=by have:=pN.1;rw [HL.out] at this;exact this
   have Hf:=ah hf;clear hv pN hf dO;by_cases h0 : gD rows = 0
   . have hlo:=fun W (hW : Bw w W)=>agr a L cap rows W HL.out zo h0 (Ha.out.below hW);have hch:=fun W (hW : Bw w W)=>BZ a L cap rows 192 W HL.out h5 uK.out.1 (Ha.out.below hW) Hf.out zd (eU.out.below hW);rw [show kQ rows = 1 by unfold kQ;rw [if_pos h0]] at hch;have wO:=ah hlo;have yY:=ah hch;clear hlo hch h0;go_wp2_with fail;refine (wO.out _ Hb.out).mono ?_;rintro e w2 ⟨rfl,ae⟩;replace Hb:=az Hb ae;clear ae;go_wp2_with fail;obtain ⟨R,hR⟩ : ∃ R : World -> Prop,(fun W2=>ai W2 (w2.heap.size) 30 [.bool false,.string ⟨#[]⟩,.int .i64 0] /\ Bw w2 W2) = R:=⟨_,rfl⟩;first | refine bB R ?hR ?_ | refine bA R ?hR ?_
     case hR=>subst hR;exact ⟨(ai.newAt w2 _ _ (b:=w2.heap.size) rfl),zl⟩
     subst hR;rintro W2 ⟨qy,ae⟩;have Hy:=ah qy;clear qy;obtain ⟨y0,y1,y2⟩:=Hy.out.c3;replace Hb:=az Hb ae;clear ae;go_wp2_with fail;refine (yY.out _ Hb.out).mono ?_;rintro e w3 ⟨rfl,ae⟩;clear y0 y1 y2;replace Hy:=kB Hy ae;obtain ⟨y0,y1,y2⟩:=Hy.out.c3;replace Hb:=az Hb ae;clear ae;go_wp2_with fail;refine (II _ (eU.out.below Hb.out)).mono ?_;rintro e w4 ⟨rfl,ae⟩;clear y0 y1 y2;replace Hy:=kB Hy ae;obtain ⟨y0,y1,y2⟩:=Hy.out.c3;replace Hb:=az Hb ae;clear ae;go_wp2;refine bodyPost_ret (results_tmp rfl _ _ _) rfl ⟨rfl,Hb.out⟩
   . obtain ⟨m,hm,hr⟩:=akc (by rw [HL.out];exact h5) Hf.out h0;obtain ⟨n,hn⟩ : ∃ n,m + 1 = n:=⟨_,rfl⟩;have dF : 1 <= n:=by omega
     rw [hn] at hm hr;have hLn : n + 1 = L:=by have:=hr.1;rw [HL.out] at this;exact this.symm
     have tG:=FD hr dF zo;have hlo:=fun W (hW : Bw w W)=>ES a L cap n rows 192 W HL.out tG dF (Ha.out.below hW) Hf.out zd (eU.out.below hW);have xN:=fun W sa m' sc ss (hW : Bw w W) (hs : At W sa (oO ss)) (hm : ss.length = m') (oF : m' <= 1000)=>ahX a cap n 192 rows sa m' sc ss W dF zo hr (Ha.out.below hW) hs hm oF zd (eU.out.below hW);have tC:=fun ss (hs : ss.length = n)=>VF dF ss (Jl hr zd) zo;have rF:=fun ss (hs : ss.length = n)=>afU hr dF ss hs zo;have hys : Sm (2 * 192 + 2 + n) (dh (cH rows n) (n + 1)).2.2:=by rw [(vU (cH rows n) (n + 1) zo).2.2];exact Mw Hf.out _ _
     rw [hLn] at xN rF hys;obtain ⟨I,hI⟩ : ∃ I,(dh (cH rows n) L).1 = I:=⟨_,rfl⟩;obtain ⟨J,hJ⟩ : ∃ J,(dh (cH rows n) L).2.1 = J:=⟨_,rfl⟩;obtain ⟨Y,hY⟩ : ∃ Y,(dh (cH rows n) L).2.2 = Y:=⟨_,rfl⟩;rw [hI,hJ,hY] at hlo;rw [hY] at rF hys;have wO:=ah hlo;have Zw:=ah xN;have ZE:=ah tC;have YL:=ah rF;have Hys:=ah hys;have oY:=ah hLn;clear hlo xN tC rF hys hI hJ hY tG hr h0 hn;go_wp2_with fail;refine (wO.out _ Hb.out).mono ?_;rintro e w2 ⟨rfl,ae⟩;replace Hb:=az Hb ae;clear ae;go_wp2_with fail;obtain ⟨R,hR⟩ : ∃ R : World -> Prop,(fun W2=>ai W2 (w2.heap.size) 30 [.bool (au (dN Y)),.string (bs (nt (dN Y).natAbs)),.int .i64 (dE Y)] /\ Bw w2 W2) = R:=⟨_,rfl⟩;first | refine bB R ?hR ?_ | refine bA R ?hR ?_
     case hR=>subst hR;exact ⟨(ai.newAt w2 _ _ (b:=w2.heap.size) rfl),zl⟩
     subst hR;rintro W2 ⟨qy,ae⟩;have Hy:=ah qy;clear qy;obtain ⟨y0,y1,y2⟩:=Hy.out.c3;replace Hb:=az Hb ae;clear ae;have lK:=Hy;have bS:=Hb;have yA:=Hb.out.size;go_wp2_with fail;clear Hy y0 y1 y2 Hb;go_loopw [9,10] (fun s9 x wr=>∃ (j : Nat) (ss : List Int) (v : Value),1 <= j /\ j <= L /\ x = .int .i64 (j : Int) /\ v = s9 /\ ss.length + 1 = j /\ ui ss /\ wr.ownsRow W2.heap.size 3 1 v ss.length (oO ss) /\ Bw W2 wr) (fun _ x _=>L - (intOf x).toNat);case atStart=>exact ⟨1,[],_,Nat.le_refl _,by omega,rfl,rfl,rfl,(fun x hx=>by cases hx),World.ownsRow_nil _ _ _ _,Below.refl _ _⟩
     case round=>
      obtain ⟨j,ss,v,lC,Ew,rfl,rfl,hsj,hok,ho,pb⟩:=hrel;obtain ⟨k,hk⟩ : ∃ k,ss.length = k:=⟨_,rfl⟩;rw [hk] at ho hsj;have Ho:=ah ho;have aR:=ah pb;have sD:=ah hok;have Hk:=ah hk;have gN:=pb.size;clear ho pb hok hk;by_cases hlt : j < L
      . have alT : (j : Int) <= 64:=by omega
        have hj0 : (0 : Int) <= (j : Int):=by omega
        obtain ⟨S,hS⟩ : ∃ S,sides / 2 ^ j = S:=⟨_,rfl⟩;obtain ⟨X,hX⟩ : ∃ X,bits .and .i64 S 1 = X:=⟨_,rfl⟩;have RA : X = 0 \/ X = 1:=by rw [<- hX,and1];omega
        have XQ:=ah RA;clear RA;have Hb : Hid (Bw wr wr):=Below.refl _ _;obtain ⟨W6,eQ⟩ : ∃ W6,(wr.alloc (.cells #[.int .i64 X] 3)) = W6:=⟨_,rfl⟩;have ae : Bw wr W6:=by rw [<- eQ];exact zl
        have Hc : Hid (ai W6 (wr.heap.size) 3 [.int .i64 X]):=by rw [<- eQ];exact ai.newAt _ _ _ zm
        have c0:=Hc.out.c1;replace Hb:=az Hb ae;clear ae;have cK:=ownsRow_below Ho.out Hb.out;have iW:=Hb.out.size;go_wp2_with (at_builtin;refine wpList_append_own_at _ rfl _ _ 63 rfl W2.heap.size 3 i0 _ 1 8 Tryz.underlying63 Hi.out cO.out cP.out cE.out rfl zd v k (oO ss) rfl cK ⟨wr.heap.size,0,none⟩ 1 1 [.int .i64 X] rfl rfl (gb Hc.out) zy zx zo zo ?_;intro v' w7 dx eT _ _);have gw:=(aJ aR.out Hb.out).grown eT zo (fun j e=>cL cK j e);rw [ajl] at dx;have uF:=ah dx;have uw:=ah gw;clear dx gw eT cK hS hX c0;go_roundw;case rel=>
         refine ⟨j + 1,ss ++ [X],v',by omega,by omega,by go_num,rfl,by rw [List.length_append,Hk.out];simp;omega,fun x hx=>?_,by rw [List.length_append,Hk.out];exact uF.out,uw.out⟩;rcases List.mem_append.1 hx with h | h
         . exact sD.out x h
         . simp at h;rw [h];exact XQ.out
        case measure=>simp [intOf];omega
      . have aeT : j = L:=by omega
        subst aeT;have hkn : k = n:=by have:=oY.out;omega
        obtain ⟨av,cv,rfl,hat,_⟩:=dA Ho.out;have xO : ss.length = n:=by rw [Hk.out];exact hkn
        have tC:=ZE.out (ss.map nD) (by rw [List.length_map];exact xO);have rF:=YL.out (ss.map nD) (by rw [List.length_map];exact xO);have xN:=fun W (hW : Bw w W) (hs : At W av (oO ss))=>Zw.out W av k cv ss hW hs Hk.out zo;obtain ⟨R,hR⟩ : ∃ R,iK n (ss.map nD) (rows.map dL) = R:=⟨_,rfl⟩;rw [hR] at tC rF;have hlr : (192 : Nat) + 3 * (ss.map nD).length <= 204:=by rw [List.length_map,xO];omega
        have iF : Rw n 204 R:=⟨tC.1,tC.2.1,fun r hr c hc=>(tC.2.2 r hr c hc).mono hlr⟩;have QU : R.length = j:=by rw [iF.1];exact oY.out
        have hl2:=fun W a' c' (hW : Bw w W) (ht : aY W a' R)=>ES a' j c' n R 204 W QU (FD iF dF zo) dF ht iF.2.2 zd (eU.out.below hW);have hxs : Sm (2 * 204 + 2 + n) (dh (cH R n) (n + 1)).2.2:=by rw [(vU (cH R n) (n + 1) zo).2.2];exact Mw iF.2.2 _ _
        rw [oY.out] at hxs;obtain ⟨I2,QS⟩ : ∃ I,(dh (cH R n) j).1 = I:=⟨_,rfl⟩;obtain ⟨J2,hJ2⟩ : ∃ J,(dh (cH R n) j).2.1 = J:=⟨_,rfl⟩;obtain ⟨X,hX⟩ : ∃ X,(dh (cH R n) j).2.2 = X:=⟨_,rfl⟩;rw [QS,hJ2,hX] at hl2;rw [hX] at rF hxs;obtain ⟨X4,Ee⟩ : ∃ X4,X + X + X + X = X4:=⟨_,rfl⟩;obtain ⟨T3,Ec⟩ : ∃ T3,Dyadic.ofIntWithPrec 3 0 = T3:=⟨_,rfl⟩;obtain ⟨Y3,Ef⟩ : ∃ Y3,Y * T3 = Y3:=⟨_,rfl⟩;obtain ⟨c,hc⟩ : ∃ c,bM (X4 - Y3) = c:=⟨_,rfl⟩;have hc0 : c <= 0:=by rw [<- hc];exact acp rF Ee (by rw [Ec];exact Ef)
        have vg:=Hys.out;have JO : Sm 2 T3:=by rw [<- Ec];exact ⟨3 * 2 ^ 2,(nz 3 2 0).symm,by decide⟩
        have RB : Sm (2 * 204 + 2 + n + 3) X4:=by rw [<- Ee];exact (Sm.add (Sm.add (Sm.add hxs hxs) (hxs.mono zo)) (hxs.mono zo)).mono zo
        have RF : Sm (2 * 192 + 2 + n + 2) Y3:=by rw [<- Ef];exact (Sm.mul vg JO).mono zo
        have hsh:=fun W (hW : Bw w W)=>Wo (au (dN X)) (nt (dN X).natAbs) (dE X) 2 X4 (by rw [ado];exact Ee) W (hxs.ok zo) zd (eU.out.below hW);have hof:=fun W (hW : Bw w W)=>Ac 3 T3 Ec W zd (eU.out.below hW);have AV:=fun b W (hW : Bw w W) hbl=>xp (au (dN Y)) (nt (dN Y).natAbs) (dE Y) (au (dN T3)) (nt (dN T3).natAbs) (dE T3) Y3 400 (by show aC (canon Y) * aC (canon T3) = _;rw [bP,bP];exact Ef) b 2 30 W ((vg.mono zo).fit zd) ((JO.mono zd).fit zd) zd hbl (eU.out.below hW);have hcm:=fun W (hW : Bw w W)=>PZ (au (dN X4)) (nt (dN X4).natAbs) (dE X4) (au (dN Y3)) (nt (dN Y3).natAbs) (dE Y3) c (by show bM (aC (canon X4) - aC (canon Y3)) = c;rw [bP,bP];exact hc) W (RB.ok zo) (RF.ok zo) (eU.out.below hW);have CO:=ah (sD.out);have Zx:=ah xN;have eF:=ah hl2;have Ig:=ah hsh;have pg:=ah hof;have Zd:=ah AV;have Gk:=ah hcm;have fu:=ah hat;have XK:=ah hR;have Xx:=ah oY.out;clear xN hl2 hsh hof AV hcm hat hR tC rF hlr iF QU hxs QS hJ2 hX Ee Ec Ef hc vg JO RB RF xO hkn Ho;have Hb:=ah (aJ bS.out aR.out);have Hy : Hid (ai wr w2.heap.size 30 [.bool (au (dN Y)),.string (bs (nt (dN Y).natAbs)),.int .i64 (dE Y)]):=lK.out.below aR.out;obtain ⟨y0,y1,y2⟩:=Hy.out.c3;go_wp2_with fail;refine (Zx.out _ Hb.out fu.out).mono ?_;rintro e w5 ⟨hp1,_,ae⟩;obtain ⟨a5,c5,rfl,hc5,xQ⟩:=hp1 CO.out;rw [XK.out] at xQ;clear y0 y1 y2;replace Hy:=kB Hy ae;obtain ⟨y0,y1,y2⟩:=Hy.out.c3;replace Hb:=ah (aJ Hb.out ae);have HR : Hid (aY w5 a5 R):=xQ;rw [Xx.out];clear hp1 ae xQ;go_wp2_with fail;refine (eF.out _ a5 c5 Hb.out HR.out).mono ?_;rintro e w6 ⟨rfl,ae⟩;clear y0 y1 y2;replace Hy:=kB Hy ae;replace HR:=kL HR ae;obtain ⟨y0,y1,y2⟩:=Hy.out.c3;replace Hb:=az Hb ae;clear ae;have UV:=Hy.out.lt;go_wp2_with fail;obtain ⟨R,hR⟩ : ∃ R : World -> Prop,(fun W6=>ai W6 (w6.heap.size) 30 [.bool (au (dN X)),.string (bs (nt (dN X).natAbs)),.int .i64 (dE X)] /\ Bw w6 W6) = R:=⟨_,rfl⟩;first | refine bB R ?hR ?_ | refine bA R ?hR ?_
        case hR=>subst hR;exact ⟨(ai.newAt w6 _ _ (b:=w6.heap.size) rfl),zl⟩
        subst hR;rintro W6 ⟨qz,ae⟩;have Hz:=ah qz;clear qz y0 y1 y2;replace Hy:=kB Hy ae;obtain ⟨y0,y1,y2⟩:=Hy.out.c3;replace HR:=kL HR ae;obtain ⟨z0,z1,z2⟩:=Hz.out.c3;replace Hb:=az Hb ae;clear ae;refine bE (fun w'=>w'.cell? ⟨w2.heap.size,0,none⟩ = some (.bool (au (dN Y))) /\ w'.cell? ⟨w2.heap.size,1,none⟩ = some (.string (bs (nt (dN Y).natAbs))) /\ w'.cell? ⟨w2.heap.size,2,none⟩ = some (.int .i64 (dE Y)) /\ w'.cell? ⟨w6.heap.size,0,none⟩ = some (.bool (au (dN X))) /\ w'.cell? ⟨w6.heap.size,1,none⟩ = some (.string (bs (nt (dN X).natAbs))) /\ w'.cell? ⟨w6.heap.size,2,none⟩ = some (.int .i64 (dE X))) (fun i=>Nat.blt i 100000) [(0,true),(1,true),(2,true),(3,true),(4,true),(5,true),(6,true),(7,true),(9,true),(8,false),(10,false),(11,false),(12,false),(13,false),(14,true),(15,true),(16,true),(17,false),(18,true),(19,true)] zk zk rfl zk zc ⟨y0,y1,y2,z0,z1,z2⟩ ?_;iterate 9 (refine pT rfl rfl ?_ (by intro w' ⟨q0,q1,q2,q3,q4,q5⟩;go_simp;try with_reducible rfl);try simp only [UU])
        refine aI rfl rfl (fun K hK=>?_);go_simp;with_reducible refine (Ig.out _ Hb.out.drew).mono ?_
        rintro e x1 ⟨rfl,hq⟩;have ae : Bw W6 x1:=by first | exact hq | exact aN hq
        clear y0 y1 y2 z0 z1 z2;replace Hy:=kB Hy ae;replace HR:=kL HR ae;replace Hz:=kB Hz ae;obtain ⟨y0,y1,y2⟩:=Hy.out.c3;obtain ⟨z0,z1,z2⟩:=Hz.out.c3;replace Hb:=az Hb ae;clear ae;refine hK _ _ (fun _=>⟨y0,y1,y2,z0,z1,z2⟩) ?_;clear hK K;try simp only [UU]
        refine aI rfl rfl (fun K hK=>?_);go_simp;with_reducible refine (pg.out _ Hb.out).mono ?_
        rintro e x2 ⟨rfl,hq⟩;have ae : Bw x1 x2:=by first | exact hq | exact aN hq
        clear y0 y1 y2 z0 z1 z2;replace Hy:=kB Hy ae;replace HR:=kL HR ae;replace Hz:=kB Hz ae;obtain ⟨y0,y1,y2⟩:=Hy.out.c3;obtain ⟨z0,z1,z2⟩:=Hz.out.c3;replace Hb:=az Hb ae;clear ae;refine hK _ _ (fun _=>⟨y0,y1,y2,z0,z1,z2⟩) ?_;clear hK K;try simp only [UU]
        refine aI rfl rfl (fun K hK=>?_);go_simp;refine hK _ _ (fun _=>⟨aH y0,aH y1,aH y2,aH z0,aH z1,aH z2⟩) ?_;clear hK K;try simp only [UU]
        refine bG (fun X3=>ai X3 (x2.heap.size) 30 [.bool (au (dN Y)),.string (bs (nt (dN Y).natAbs)),.int .i64 (dE Y),.bool (au (dN T3)),.string (bs (nt (dN T3).natAbs)),.int .i64 (dE T3)] /\ Bw x2 X3) (by first | exact dP | exact dQ) ?_;rintro X3 ⟨qp,ae⟩;clear y0 y1 y2 z0 z1 z2;have ani:=Hy.out.lt;have agL:=Hz.out.lt;replace Hy:=kB Hy ae;replace HR:=kL HR ae;replace Hz:=kB Hz ae;have Hp:=ah qp;clear qp;obtain ⟨y0,y1,y2⟩:=Hy.out.c3;obtain ⟨z0,z1,z2⟩:=Hz.out.c3;obtain ⟨p0,p1,p2,p3,p4,p5⟩:=Hp.out.c6;replace Hb:=az Hb ae;clear ae;refine aI rfl rfl (fun K hK=>?_);go_simp;with_reducible refine (Zd.out _ _ Hb.out Hp.out).mono ?_
        rintro e x4 ⟨rfl,hq⟩;have ae : Bw X3 x4:=by first | exact hq | exact aN hq
        clear y0 y1 y2 z0 z1 z2 p0 p1 p2 p3 p4 p5;replace Hy:=kB Hy ae;replace HR:=kL HR ae;replace Hz:=kB Hz ae;replace Hp:=kB Hp ae;obtain ⟨y0,y1,y2⟩:=Hy.out.c3;obtain ⟨z0,z1,z2⟩:=Hz.out.c3;obtain ⟨p0,p1,p2,p3,p4,p5⟩:=Hp.out.c6;replace Hb:=az Hb ae;clear ae;refine hK _ _ (fun _=>⟨y0,y1,y2,z0,z1,z2⟩) ?_;clear hK K;try simp only [UU]
        refine aI rfl rfl (fun K hK=>?_);go_simp;with_reducible refine (Gk.out _ Hb.out).mono ?_
        rintro e x5 ⟨rfl,hq⟩;have ae : Bw x4 x5:=by first | exact hq | exact aN hq
        clear y0 y1 y2 z0 z1 z2 p0 p1 p2 p3 p4 p5;replace Hy:=kB Hy ae;replace HR:=kL HR ae;replace Hz:=kB Hz ae;replace Hp:=kB Hp ae;obtain ⟨y0,y1,y2⟩:=Hy.out.c3;obtain ⟨z0,z1,z2⟩:=Hz.out.c3;obtain ⟨p0,p1,p2,p3,p4,p5⟩:=Hp.out.c6;replace Hb:=az Hb ae;clear ae;refine hK _ _ (fun _=>⟨y0,y1,y2,z0,z1,z2⟩) ?_;clear hK K;try simp only [UU]
        iterate 3 (refine pT rfl rfl ?_;try simp only [UU])
        refine aI rfl rfl (fun K hK=>?_);go_simp;with_reducible refine (II _ (eU.out.below Hb.out)).mono ?_
        rintro e x6 ⟨rfl,hq⟩;have ae : Bw x5 x6:=by first | exact hq | exact aN hq
        clear y0 y1 y2 z0 z1 z2 p0 p1 p2 p3 p4 p5;replace Hy:=kB Hy ae;replace HR:=kL HR ae;replace Hz:=kB Hz ae;replace Hp:=kB Hp ae;obtain ⟨y0,y1,y2⟩:=Hy.out.c3;obtain ⟨z0,z1,z2⟩:=Hz.out.c3;obtain ⟨p0,p1,p2,p3,p4,p5⟩:=Hp.out.c6;replace Hb:=az Hb ae;clear ae;refine hK _ _ (fun _=>⟨y0,y1,y2,z0,z1,z2⟩) ?_;clear hK K;try simp only [UU]
        iterate 2 (refine pT rfl rfl ?_;try simp only [UU])
        simp only [aV];go_wp2;refine bodyPost_ret (results_tmp rfl _ _ _) rfl ⟨rfl,Hb.out⟩
end Go.Proofs.YtdaadlblknpipaaGreatDoor
