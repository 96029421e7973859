/- Package slices: Clone,Delete,over numbers. -/
import Derived.Test.YtdaadlblknpipaaGreatDoorZ15
import Derived.Lib.SliceRun
import Derived.Test.YtdaadlblknpipaaGreatDoorZ16
import Derived.Test.YtdaadlblknpipaaGreatDoorZ14
import Derived.Test.YtdaadlblknpipaaGreatDoorZ13
set_option linter.unusedVariables false
set_option linter.unusedSimpArgs false
set_option maxRecDepth 100000
set_option maxHeartbeats 16000000
namespace Go.Proofs.YtdaadlblknpipaaGreatDoor
open Go.RowKit
attribute [local go_sem ↓] Go.wp_at_zero Go.wp_at_succ
theorem aco (a : Option Addr) (n cap : Nat) (cM : List Raw) (w : World) (hn : cM.length = n) (hl : n <= 1048576) (hs : a = none -> n = 0 /\ cap = 0) (ha : At w a (cM.flatMap bD)) :
 Calls Tryz.prog 162 #[.slice a n cap] w fun e w'=>∃ v',e = .returned v' /\ w'.ownsRow w.heap.size 30 3 v' n (cM.flatMap bD) /\ Bw w w':=by
 obtain ⟨i0,hi,hz0,hz1,hz2⟩:=info_parts Tryz.anW;have q:=fun (w : World) (a : Option Addr) (n c n' c' : Nat)=>Lib.run_eql_slice_nil (P:=Tryz.prog) w 45 30 a n c n' c' Tryz.underlying45;have hlen : (cM.flatMap bD).length = n * 3:=by rw [jr bD 3 (fun _=>rfl),hn]
 obtain ⟨cs,hcs⟩ : ∃ cs,cM.flatMap bD = cs:=⟨_,rfl⟩;have h1:=Fh cM;rw [hcs] at hlen ha h1 ⊢;have lM:=ah hlen;have Ha:=ah ha;have H1:=ah h1;have Hs:=ah hs;have Hi:=ah hi;have cO:=ah hz0;have cP:=ah hz1;have cE:=ah hz2;clear hlen ha h1 hs hi hz0 hz1 hz2 hn hcs;cases a with
 | none =>obtain ⟨hn0,hc⟩:=Hs.out rfl;subst hc;subst hn0;go_enter Tryz.func162,Tryz.ntmps162;go_wp2;go_ret;refine ⟨_,rfl,?_,Below.refl _ _⟩;have e : cs = []:=List.eq_nil_of_length_eq_zero (by have:=lM.out;omega);rw [e];exact World.ownsRow_nil _ _ _ _
 | some ad =>go_enter Tryz.func162,Tryz.ntmps162;go_wp2_with (at_builtin;refine Xb rfl _ _ 45 rfl w.heap.size 30 i0 _ 3 32 Tryz.underlying45 Hi.out cO.out cP.out cE.out rfl zd _ 0 [] rfl (World.ownsRow_made w #[] 0 (Nat.le_refl _) (Nat.zero_le _) zm) (some ad) n cap cs rfl Hs.out lM.out (Ha.out.below ((Below.refl _ w).alloc (Nat.le_refl _) _)) H1.out zx zo zm ?_;intro v' w1 hown hgrow fO);go_ret;refine ⟨v',rfl,by simpa using hown,?_⟩;exact ((Below.refl _ w).alloc (Nat.le_refl _) _).grown hgrow zm (fun k hk=>by have h9 : w.heap.size = k:=Option.some.inj hk;omega)
theorem Tryz.an9 (w : World) : (zeroValue 30).run Tryz.prog w = .ok (.agg #[.bool false,.string ⟨#[]⟩,.int .i64 0]) w:=by kernel_rfl
theorem adt {α : Type} (f : α -> List Value) (sz : Nat) (hf : ∀ x,(f x).length = sz) (xs : List α) (i : Nat) (hi : i < xs.length) : (xs.eraseIdx i).flatMap f = (xs.flatMap f).take (i * sz) ++ (xs.flatMap f).drop ((i + 1) * sz):=by
 have e : xs = xs.take i ++ xs[i] :: xs.drop (i + 1):=by rw [List.getElem_cons_drop,List.take_append_drop]
 have hl : ((xs.take i).flatMap f).length = i * sz:=by rw [jr f sz hf,List.length_take,Nat.min_eq_left zo]
 have e1 : xs.flatMap f = (xs.take i).flatMap f ++ (f xs[i] ++ (xs.drop (i + 1)).flatMap f):=by
  conv=>lhs;rw [e]
  rw [List.flatMap_append,List.flatMap_cons]
 rw [e1,List.take_left' hl,List.drop_append,hl,List.drop_of_length_le (by rw [hl,Nat.add_mul];omega)];rw [show (i + 1) * sz - i * sz = sz by rw [Nat.add_mul,Nat.one_mul];omega,List.nil_append,List.drop_left' (hf _),List.eraseIdx_eq_take_drop_succ,List.flatMap_append]
theorem acS (g m cap i base : Nat) (cM : List Raw) (w : World) (hn : cM.length = m + 1) (hl : m <= 1048576) (hi : i <= m)
 (ho : w.ownsRow base 30 3 (.slice (some ⟨g,0,none⟩) (m + 1) cap) (m + 1) (cM.flatMap bD)) :
 Calls Tryz.prog 161 #[.slice (some ⟨g,0,none⟩) (m + 1) cap,.int .i64 (i : Int),.int .i64 ((i + 1 : Nat) : Int)] w fun e w'=>e = .returned (.slice (some ⟨g,0,none⟩) m cap) /\
  w'.ownsRow base 30 3 (.slice (some ⟨g,0,none⟩) m cap) m ((cM.eraseIdx i).flatMap bD) /\ w.grownBy w' (some g):=by
 obtain ⟨i0,hi0,hz0,hz1,hz2⟩:=info_parts Tryz.anW;have hcap : m + 1 <= cap:=(ud ho).1;have hcm : cap <= 9223372036854775807:=by
  rcases ho.2 with ⟨h1,_⟩ | ⟨g',cap',cur,h1,hb,hg,h4,h5,_⟩
  . simp at h1
  . simp only [Value.slice.injEq] at h1;obtain ⟨_,_,rfl⟩:=h1;unfold maxLen at h5;omega
 have Et:=adt bD 3 (fun _=>rfl) cM i zo;have hlen : (cM.flatMap bD).length = (m + 1) * 3:=by rw [jr bD 3 (fun _=>rfl),hn]
 have h1:=Fh cM;obtain ⟨cs,hcs⟩ : ∃ cs,cM.flatMap bD = cs:=⟨_,rfl⟩;obtain ⟨rs,hrs⟩ : ∃ rs,(cM.eraseIdx i).flatMap bD = rs:=⟨_,rfl⟩;rw [hcs] at hlen ho h1 Et;rw [hrs] at Et ⊢;have xM:=VD ho i zo;obtain ⟨ad,had⟩ : ∃ ad,(if cap = i + 1 then (⟨g,0,none⟩ : Addr) else ⟨g,(i + 1) * 3,none⟩) = ad:=⟨_,rfl⟩;have hsl : (if cap = i + 1 then some (⟨g,0,none⟩ : Addr) else some ⟨g,(i + 1) * 3,none⟩) = some ad:=by rw [<- had];split<;>rfl
 have hnews : Hid (∀ j u,(cs.drop ((i + 1) * 3))[j]? = some u -> w.drew.cell? (ad.add j) = some u):=by
  intro j u hj;rw [List.getElem?_drop] at hj;have hlt:=(List.getElem?_eq_some_iff.1 hj).1;have El : ¬ cap = i + 1:=by omega
  rw [if_neg El] at had;subst had;have e2 : ((⟨g,(i + 1) * 3,none⟩ : Addr).add j) = ⟨g,(i + 1) * 3 + j,none⟩:=by unfold Addr.add;cases j<;>simp
  rw [e2];have:=ho.cells (g:=g) rfl ((i + 1) * 3 + j) u hj;have e3 : ((⟨g,0,none⟩ : Addr).add ((i + 1) * 3 + j)) = ⟨g,(i + 1) * 3 + j,none⟩:=by unfold Addr.add;split<;>simp;omega
  rw [e3] at this;exact this
 have hnl : Hid ((cs.drop ((i + 1) * 3)).length = (m - i) * 3):=by show _ = _;rw [List.length_drop,hlen];omega
 have dF : Hid (∀ u ∈ cs.drop ((i + 1) * 3),u.oneCell' = true):=fun u hu=>h1 u (List.mem_of_mem_drop hu);have Oy : Hid (w.drew.ownsRow base 30 3 (.slice (some ⟨g,0,none⟩) i cap) i (cs.take (i * 3))):=xM;have Yx:=ah Et;have Zi:=ah hnews.out;have GP:=ah hnl.out;have GM:=ah dF.out;have Hi:=ah hi0;have cP:=ah hz1;have z:=Tryz.an9;clear hnews hnl dF ho xM hlen h1 Et hcs hrs hn hi0 hz0 hz1 hz2;have hw1 : IntKind.i64.wrap ((i : Int) + 1) = ((i + 1 : Nat) : Int):=by rw [IntKind.wrap_i64];omega
 have hne : ((i : Int) == ((i + 1 : Nat) : Int)) = false:=by simp;omega
 have hcm2 : ¬ cap = m:=by omega
 have rH : i + 1 <= m + 1:=by omega
 have hmc : i + 1 <= cap:=by omega
 have hic : i <= cap:=by omega
 have h0i : (0 : Int) <= (i : Int) + 1:=by omega
 clear had;go_enter Tryz.func161,Tryz.ntmps161;go_wp2_with fail;have Hb : Hid (Bw w w):=Below.refl _ _;refine bE (fun w'=>True) (fun i=>Nat.blt i 100000) [(0,true),(1,true),(2,true),(3,true),(4,true),(5,true),(6,false),(7,true)] zk zk rfl zk zc True.intro ?_;iterate 6 (refine pT rfl rfl ?_;try simp only [UU])
 refine aI rfl rfl (fun K hK=>?_);refine wp_append_own_spare _ _ _ 45 rfl base 30 i0 3 Tryz.underlying45 Hi.out cP.out g i cap (cs.take (i * 3)) rfl Oy.out ad (m - i) (cap - (i + 1)) (cs.drop ((i + 1) * 3)) rfl GP.out Zi.out GM.out zo ?_;intro w1 cJ hg1;refine hK _ _ (fun _=>True.intro) ?_;clear hK K;try simp only [UU]
 refine pT rfl rfl ?_;try simp only [Act.put,U1,U2]
 simp only [aV];have e9 : i + (m - i) = m:=by omega
 rw [e9,<- Yx.out] at cJ;obtain ⟨w2,hcl,dU,hg2⟩:=We w1 45 30 _ 3 Tryz.underlying45 Tryz.an9 rfl (by intro v hv;simp [Value.cells] at hv;rcases hv with rfl | rfl | rfl<;>rfl) g m 1 cap (cap - m) base rs cJ zo;have qU:=ah dU;have YA : Hid (w.grownBy w2 (some g)):=grownBy_trans ⟨hg1.os,hg1.tape,hg1.output,hg1.size,hg1.block⟩ hg2;clear cJ hg1 dU hg2 Oy hsl;go_wp2;go_ret;exact ⟨rfl,qU.out,YA.out⟩
theorem adu (l : List Dyadic) (c : Nat) : (l.map canon).eraseIdx c = (l.eraseIdx c).map canon:=by apply List.ext_getElem?;intro i;rw [List.getElem?_eraseIdx,List.getElem?_map,List.getElem?_map,List.getElem?_map,List.getElem?_eraseIdx];split<;>rfl
theorem akr (a : Option Addr) (cap m r c : Nat) (R : List (List Dyadic)) (w : World) (hL : R.length = m + 1) (hrow : ∀ x ∈ R,x.length = m + 1) (hr : r <= m) (hc : c <= m) (hm : m <= 7) (ha : aY w a (R.map fun x=>x.map canon)) :
 Calls Tryz.prog 133 #[.slice a (m + 1) cap,.int .i64 (r : Int),.int .i64 (c : Int)] w fun e w'=>∃ a' c',e = .returned (.slice a' m c') /\ m <= c' /\ aY w' a' ((iZ R r c).map fun x=>x.map canon) /\ Bw w w':=by
 obtain ⟨j0,hj,hy0,hy1,hy2⟩:=info_parts Tryz.an3;obtain ⟨S,hS⟩ : ∃ S,iZ R r c = S:=⟨_,rfl⟩;have gS:=Vi R r c m hL hr;have pG:=Vj R r c m hrow hc;have JL:=Vh R r c m hL hr;rw [hS] at gS pG JL ⊢;have tF : ∀ (W : World) (k : Nat) (hk : k < m + 1),Bw w W -> ∃ b o a1 c1,∃ x : List Dyadic,R.getD k [] = x /\ x.length = m + 1 /\ a = some ⟨b,o,none⟩ /\ W.cell? ⟨b,o + k,none⟩ = some (.slice (some a1) (m + 1) c1) /\ At W (some a1) ((x.map canon).flatMap bD):=by
  intro W k hk hb;have SU : k < R.length:=by omega
  obtain ⟨b,o,a1,c1,h1,h2,h3⟩:=(ha.below hb).row k (by simp [hL];omega);have e1 : (R.map fun x=>x.map canon)[k]'(by simp [hL];omega) = R[k].map canon:=by simp
  have hxl:=hrow _ (List.getElem_mem SU);rw [e1] at h2 h3;rw [List.length_map,hxl] at h2;cases a1 with
  | none =>
    rcases h3 with h3 | ⟨_,_,h3,_⟩
    . have:=congrArg List.length h3;rw [jr bD 3 (fun _=>rfl),List.length_map,hxl] at this;simp at this
    . cases h3
  | some a1=>exact ⟨b,o,a1,c1,R[k],by simp [List.getD_eq_getElem?_getD,SU],hxl,h1,h2,h3⟩
 have Hj:=ah hj;have jK:=ah hy0;have lQ:=ah hy1;have lR:=ah hy2;have FX:=ah gS;have HSr:=ah pG;have XO:=ah JL;have Ic:=ah tF;clear hj hy0 hy1 hy2 gS pG JL tF hS ha hL hrow;have Hb : Hid (Bw w w):=Below.refl _ _;go_enter Tryz.func133,Tryz.ntmps133;go_wp2_with fail;go_loopw [7,12] (fun s7 x wr=>∃ (k : Nat) (v : Value),k <= m + 1 /\ x = .int .i64 (k : Int) /\ v = s7 /\ Own2 45 wr w.heap.size S (if k <= r then k else k - 1) v /\ Bw w wr) (fun _ x _=>m + 1 - (intOf x).toNat);case atStart=>exact ⟨0,_,Nat.zero_le _,rfl,rfl,by rw [if_pos (Nat.zero_le _)];exact Own2.nil _ _ _ _,Hb.out⟩
 case round=>
  clear Hb;obtain ⟨k,v,hk,rfl,rfl,pv,pb⟩:=hrel;by_cases hlt : k < m + 1
  . obtain ⟨b,o,a1,c1,x,iG,hxl,rfl,hc1,hat⟩:=Ic.out wr k hlt pb;have bz:=vO (m + 1) cap k (k : Int) (rfl : (some ⟨b,o,none⟩ : Option Addr) = _) hlt rfl;rw [Nat.mul_one] at bz;by_cases hkr : k = r
    . subst hkr;have dm:=ah pv;have aR:=ah pb;clear pv pb iG hxl hat;have h3 : ((k : Int) != (k : Int)) = false:=by simp
      go_wp2;go_roundw;case rel=>exact ⟨k + 1,v,by omega,by go_num,rfl,by have h:=dm.out;rw [if_pos (Nat.le_refl _)] at h;rw [if_neg zo];exact h,aR.out⟩
      case measure=>simp [intOf];omega
    . have h3 : ((k : Int) != (r : Int)) = true:=by simp;omega
      have h4 : ¬ (k : Int) = (r : Int):=by omega
      obtain ⟨j,hj⟩ : ∃ j,(if k <= r then k else k - 1) = j:=⟨_,rfl⟩;have lC : (if k + 1 <= r then k + 1 else k + 1 - 1) = j + 1:=by rw [<- hj];split<;>split<;>omega
      have hjm : j < m:=by rw [<- hj];split<;>omega
      have SN : (if j < r then j else j + 1) = k:=by rw [<- hj];split<;>split<;>omega
      have JM : S.getD j [] = x.eraseIdx c:=by rw [XO.out j hjm,SN,iG]
      rw [hj] at pv;obtain ⟨Z,hZ⟩ : ∃ Z,x.eraseIdx c = Z:=⟨_,rfl⟩;have Ax : Z.length = m:=by rw [<- hZ,List.length_eraseIdx_of_lt zo];omega
      rw [hZ] at JM
      -- the row,without its number
      have Sd : ∀ W,Bw wr W -> Calls Tryz.prog 162 #[.slice (some a1) (m + 1) c1] W fun e w'=>∃ g cc,e = .returned (.slice (some ⟨g,0,none⟩) (m + 1) cc) /\ (wr.heap.size <= g /\ ∀ W',Bw wr W' -> w' = W' -> Calls Tryz.prog 161 #[.slice (some ⟨g,0,none⟩) (m + 1) cc,.int .i64 (c : Int),.int .i64 ((c : Int) + 1)] W' fun e w''=>e = .returned (.slice (some ⟨g,0,none⟩) m cc) /\ w''.ownsRow wr.heap.size 30 3 (.slice (some ⟨g,0,none⟩) m cc) m (dC Z) /\ Bw wr w'') /\ Bw W w':=by intro W hW;refine (aco (some a1) (m + 1) c1 (x.map canon) W (by rw [List.length_map,hxl]) zo (fun e=>by cases e) (hat.below hW)).mono ?_;rintro e w' ⟨v',rfl,ho,hb⟩;obtain ⟨g,cc,rfl,hg1,hg2,hg3⟩:=ym ho zo;have hsz:=hW.size;refine ⟨g,cc,rfl,⟨by omega,fun W' hW' e=>?_⟩,hb⟩;subst e;have hd:=acS g m cc c wr.heap.size (x.map canon) w' (by rw [List.length_map,hxl]) zo hc (ny ho zo);rw [show ((c + 1 : Nat) : Int) = (c : Int) + 1 by omega] at hd;refine hd.mono ?_;rintro e w'' ⟨rfl,dU,hg⟩;rw [adu,hZ,<- sN] at dU;exact ⟨rfl,dU,hW'.grown hg hW'.size (fun i e=>by have h9 : g = i:=Option.some.inj e;omega)⟩
      have NP:=ah Sd;have NB:=ah JM;have sf:=ah Ax;have dm:=ah pv;have aR:=ah pb;have YK:=ah lC;clear Sd JM Ax hZ pv pb lC SN hj iG hxl hat;have gN:=aR.out.size;have hwc : IntKind.i64.wrap ((c : Int) + 1) = ((c + 1 : Nat) : Int):=by rw [IntKind.wrap_i64];omega
      have El : (c : Int) + 1 = ((c + 1 : Nat) : Int):=by omega
      have Iq:=ah hwc;have Hci:=ah El;clear hwc El;go_wp2_with fail;refine (NP.out _ (Below.refl _ _)).mono ?_;rintro e w4 ⟨g,cc,rfl,⟨hg1,hdel⟩,hb4⟩;have NU:=ah (hdel w4 hb4 rfl);clear hdel hc1 bz;go_wp2_with fail;refine NU.out.mono ?_;rintro e w5 ⟨rfl,KG,dc⟩;have fU:=KG.lt;obtain ⟨a2,c2,Sn,ov,_⟩:=dA KG;simp only [Value.slice.injEq,true_and] at Sn;obtain ⟨rfl,rfl⟩:=Sn;obtain ⟨vals,hvl,hov,iX⟩:=dm.out.below dc;obtain ⟨_,_,oH,_⟩:=dm.out;have hvs:=oH.lt;have hin : ∀ b o,(some ⟨g,0,none⟩ : Option Addr) = some ⟨b,o,none⟩ -> some b ≠ v.ownBlock /\ b < w5.heap.size:=by intro b o e;simp only [Option.some.injEq,Addr.mk.injEq,and_true] at e;obtain ⟨rfl,rfl⟩:=e;have h1:=fU g rfl;refine ⟨fun h2=>?_,h1.2⟩;have h3:=hvs g h2.symm;omega
      have nI:=ah hin;have yR:=ah ov;have lO:=ah hvl;have qW:=ah iX;have cw:=ah hov;have eX:=ah (aJ aR.out dc);have MB:=dc.size;clear hin ov hvl iX hov oH hvs fU KG dc hb4 NU NP hg1;have Hb : Hid (Bw w5 w5):=Below.refl _ _;obtain ⟨W6,eQ⟩ : ∃ W6,(w5.alloc (.cells #[.slice (some ⟨g,0,none⟩) m cc] 45)) = W6:=⟨_,rfl⟩;have ae : Bw w5 W6:=by rw [<- eQ];exact zl
      have Hd : Hid (ai W6 (w5.heap.size) 45 [.slice (some ⟨g,0,none⟩) m cc]):=by rw [<- eQ];exact ai.newAt _ _ _ zm
      have d0:=Hd.out.c1;replace Hb:=az Hb ae;clear ae;have cK:=ownsRow_below cw.out Hb.out;have iW:=Hb.out.size;have hnews : ∀ i u,([.slice (some ⟨g,0,none⟩) m cc] : List Value)[i]? = some u -> W6.cell? ((⟨w5.heap.size,0,none⟩ : Addr).add i) = some u:=gb Hd.out;clear d0;go_wp2_with (at_builtin;refine wpList_append_own_at _ rfl _ _ 78 rfl w.heap.size 45 j0 _ 1 24 Tryz.underlying78 Hj.out jK.out lQ.out lR.out rfl zd v j vals rfl cK ⟨w5.heap.size,0,none⟩ 1 1 [.slice (some ⟨g,0,none⟩) m cc] rfl rfl hnews zy zx zo zo ?_;intro v' w7 dx eT _ fO;obtain ⟨g',mL,rfl⟩:=ownsRow_succ dx);go_roundw;case rel=>
       refine ⟨k + 1,_,by omega,by go_num,rfl,?_,?_⟩
       . rw [YK.out];refine Own2.push (a:=some ⟨g,0,none⟩) (c:=cc) lO.out (w:=W6) ?_ ?_ ?_ ?_ eT fO
         . intro i h;obtain ⟨a,c,h1,h2,h3⟩:=qW.out i h;exact ⟨a,c,h1,h2.below Hb.out,fun b o e=>⟨(h3 b o e).1,Nat.lt_of_lt_of_le (h3 b o e).2 iW⟩⟩
         . rw [NB.out];exact yR.out.below Hb.out
         . exact fun b o e=>⟨(nI.out b o e).1,Nat.lt_of_lt_of_le (nI.out b o e).2 iW⟩
         . rw [NB.out,sf.out];exact dx
       . exact (aJ eX.out Hb.out).grown eT zo (fun j e=>cL cK j e)
      case measure=>simp [intOf];omega
  . obtain rfl : k = m + 1:=by omega
    rw [if_neg zo,Nat.add_sub_cancel] at pv;obtain ⟨a2,c2,rfl,hcl,jx⟩:=Own2.an6 pv FX.out;have pk:=ah jx;have aR:=ah pb;clear pv pb jx;go_wp2;refine bodyPost_ret (results_tmp rfl _ _ _) rfl ⟨a2,c2,rfl,hcl,pk.out,aR.out⟩
theorem abw (a : Option Addr) (c : Nat) (w : World) : Calls Tryz.prog 88 #[.slice a 0 c] w fun e w'=>e = .returned (cn 1) /\ Bw w w':=by
 have Hb : Hid (Bw w w):=Below.refl _ _;go_enter Tryz.func88,Tryz.ntmps88;go_wp2_with fail;obtain ⟨R,hR⟩ : ∃ R : World -> Prop,(fun W=>ai W (w.heap.size) 28 [.bool false,.string ⟨#[]⟩] /\ Bw w W) = R:=⟨_,rfl⟩;first | refine bB R ?hR ?_ | refine bA R ?hR ?_
 case hR=>subst hR;exact ⟨(ai.newAt w _ _ (b:=w.heap.size) rfl),zl⟩
 subst hR;rintro W ⟨qr,ae⟩;have Hr:=ah qr;clear qr;obtain ⟨r0,aj,r1,ar⟩:=Hr.out.g2;replace Hb:=az Hb ae;clear ae;go_wp2_with fail;refine (MK 1 _ zd zd).mono ?_;rintro e w1 ⟨rfl,ae⟩;clear r0 aj r1 ar;replace Hr:=kB Hr ae;obtain ⟨r0,aj,r1,ar⟩:=Hr.out.g2;replace Hb:=az Hb ae;clear ae;have vV:=Hr.out.lt;obtain ⟨W2,eZ⟩ : ∃ W2,(w1.alloc (.cells #[.bool (au 1),.string (bs (nt 1))] 28)) = W2:=⟨_,rfl⟩;have ae : Bw w1 W2:=by rw [<- eZ];exact zl
 clear r0 aj r1 ar;replace Hr:=kB Hr ae;have Hl : Hid (ai W2 (w1.heap.size) 28 [.bool (au 1),.string (bs (nt 1))]):=by rw [<- eZ];exact ai.newAt _ _ _ zm
 obtain ⟨r0,aj,r1,ar⟩:=Hr.out.g2;obtain ⟨l0,l1⟩:=Hl.out.c2;replace Hb:=az Hb ae;clear ae;go_wp2_with fail;go_loop [5,15] (fun t x=>t = .bool false /\ x = .int .i64 0) (fun _ _=>0)
 case atStart=>exact ⟨rfl,rfl⟩
 case round=>obtain ⟨rfl,rfl⟩:=hrel;go_wp2;clear r0 aj r1 ar l0 l1;refine gq (fun w9=>ai w9 (w.heap.size) 28 [.bool (au 1),.string (bs (nt 1))] /\ ai w9 (w1.heap.size) 28 [.bool (au 1),.string (bs (nt 1))] /\ Bw w w9) ⟨((Hr.out.set 0 _).set 1 _),((Hl.out.so (w.heap.size) 0 zo _).so (w.heap.size) 1 zo _),((Hb.out.sc (w.heap.size) 0 ZS _).sc (w.heap.size) 1 ZS _)⟩ ?_;rintro w9 ⟨qr,ql,ae⟩;replace Hr:=ah qr;clear qr;replace Hl:=ah ql;clear ql;obtain ⟨r0,aj,r1,ar⟩:=Hr.out.g2;obtain ⟨l0,l1⟩:=Hl.out.c2;replace Hb:=ah ae;clear ae;refine bodyPost_ret (v:=cn 1) (by simp [results,Tryz.results88,go_sem,r0,r1]) rfl ⟨rfl,Hb.out⟩
theorem acZ (a : Option Addr) (cap : Nat) (w : World) (ha : aY w a []) (hT : aB w) : Calls Tryz.prog 45 #[.slice a 0 cap] w fun e w'=>e = .returned (.tuple #[bJ 1,.int .i64 0]) /\ Bw w w':=by
 obtain ⟨O,hO⟩ : ∃ O : Dyadic,(1 : Dyadic) = O:=⟨_,rfl⟩;have hch:=fun W=>fun (h : aY W a [])=>Lv a 0 cap [] W rfl zo h;rw [show rP [] = 0 from rfl] at hch;have hsc:=fun W=>fun (h : aY W a []) (hT : aB W)=>Wk a 0 cap 0 [] 1 0 W rfl zo zo (fun r hr=>by cases hr) h (fun r hr=>by cases hr) zo hT rfl;have hmk:=fun W=>fun (hT : aB W)=>tV (au 1) (nt (1 : Int).natAbs) 0 O (by rw [<- hO];rfl) W zd zd hT;rw [hO];have yY:=ah hch;have iy:=ah hsc;have qR:=ah hmk;have Ha:=ah ha;have HT:=ah hT;clear hch hsc hmk ha hT hO;have Hb : Hid (Bw w w):=Below.refl _ _;go_enter Tryz.func45,Tryz.ntmps45;go_wp2_with fail;obtain ⟨R,hR⟩ : ∃ R : World -> Prop,(fun W=>ai W (w.heap.size) 30 [.bool false,.string ⟨#[]⟩,.int .i64 0] /\ Bw w W) = R:=⟨_,rfl⟩;first | refine bB R ?hR ?_ | refine bA R ?hR ?_
 case hR=>subst hR;exact ⟨(ai.newAt w _ _ (b:=w.heap.size) rfl),zl⟩
 subst hR;rintro W ⟨qr,ae⟩;have Hr:=ah qr;clear qr;obtain ⟨r0,aj,r1,ar,r2,aF⟩:=Hr.out.g3;replace Hb:=az Hb ae;clear ae;have HA : Hid (aY W a []):=Ha.out.below Hb.out;have HU : Hid (aB W):=HT.out.below Hb.out;go_wp2_with fail;refine (yY.out _ HA.out).mono ?_;rintro e w1 ⟨rfl,ae⟩;clear r0 aj r1 ar r2 aF;replace Hr:=kB Hr ae;replace HA:=kL HA ae;replace HU:=kT HU ae;obtain ⟨r0,aj,r1,ar,r2,aF⟩:=Hr.out.g3;replace Hb:=az Hb ae;clear ae;go_wp2_with fail;refine (iy.out _ HA.out HU.out).mono ?_;rintro e w2 ⟨v,rfl,hO,ae⟩;clear r0 aj r1 ar r2 aF;replace Hr:=kB Hr ae;replace HA:=kL HA ae;replace HU:=kT HU ae;obtain ⟨r0,aj,r1,ar,r2,aF⟩:=Hr.out.g3;replace Hb:=az Hb ae;clear ae;obtain ⟨vals,_,ho,_⟩:=hO;obtain ⟨a2,c2,rfl,_,_⟩:=dA ho;clear ho;go_wp2_with fail;refine (abw a2 c2 _).mono ?_;rintro e w3 ⟨rfl,ae⟩;clear r0 aj r1 ar r2 aF;replace Hr:=kB Hr ae;replace HA:=kL HA ae;replace HU:=kT HU ae;obtain ⟨r0,aj,r1,ar,r2,aF⟩:=Hr.out.g3;replace Hb:=az Hb ae;clear ae;go_wp2_with fail;refine (qR.out _ HU.out).mono ?_;rintro e w4 ⟨rfl,ae⟩;clear r0 aj r1 ar r2 aF;replace Hr:=kB Hr ae;replace HA:=kL HA ae;replace HU:=kT HU ae;obtain ⟨r0,aj,r1,ar,r2,aF⟩:=Hr.out.g3;replace Hb:=az Hb ae;clear ae;go_wp2;clear r0 aj r1 ar r2 aF;refine gq (fun w9=>ai w9 (w.heap.size) 30 [.bool (au (dN O)),.string (bs (nt (dN O).natAbs)),.int .i64 (dE O)] /\ Bw w w9) ⟨(((Hr.out.set 0 _).set 1 _).set 2 _),(((Hb.out.sc (w.heap.size) 0 ZS _).sc (w.heap.size) 1 ZS _).sc (w.heap.size) 2 ZS _)⟩ ?_;rintro w9 ⟨qr,ae⟩;replace Hr:=ah qr;clear qr;obtain ⟨r0,aj,r1,ar,r2,aF⟩:=Hr.out.g3;replace Hb:=ah ae;clear ae;refine bodyPost_ret (v:=.tuple #[bJ O,.int .i64 0]) (by simp [results,Tryz.results45,go_sem,r0,r1,r2]) rfl ⟨rfl,Hb.out⟩
theorem PF (R : List (List Dyadic)) : ((R.map fun r=>r.map canon).map fun r=>r.map aC) = R:=by
 rw [List.map_map];have : ((fun r : List Raw=>r.map aC) ∘ fun r : List Dyadic=>r.map canon) = id:=by
  funext r
  show (r.map canon).map aC = r
  rw [List.map_map];have : (aC ∘ canon) = id:=funext bP;rw [this];simp
 rw [this];simp
theorem agX (a' : Option Addr) (c' m r c : Nat) (R : List (List Dyadic)) (B : Nat) (w : World) (hL : R.length = m + 1) (hrow : ∀ x ∈ R,x.length = m + 1) (hr : r <= m) (hc : c <= m) (hm : m <= 4) (hsm : ∀ x ∈ R,∀ d ∈ x,Sm B d) (bH : 1 <= B) (hB : B <= 1000000) (ht : aY w a' ((iZ R r c).map fun x=>x.map canon)) (hT : aB w) :
 Calls Tryz.prog 45 #[.slice a' m c'] w fun e w'=>e = .returned (.tuple #[bJ (dR m (jA (bT R) r c)),.int .i64 0]) /\ Bw w w':=by
 have hl:=Vi R r c m hL hr;by_cases h0 : m = 0
 . subst h0;have e : iZ R r c = []:=List.eq_nil_of_length_eq_zero hl;rw [e] at ht;exact acZ a' c' w ht hT
 . refine IY a' c' m ((iZ R r c).map fun x=>x.map canon) B (iZ R r c) _ w zo hm (by rw [List.length_map,hl]) (fun x hx=>?_) ht (fun x hx y hy=>?_) bH hB hT (PF _) (agU R r c m hL hrow hr hc hm)
   . obtain ⟨z,hz,rfl⟩:=List.mem_map.1 hx;rw [List.length_map];exact Vj R r c m hrow hc z hz
   . obtain ⟨z,hz,rfl⟩:=List.mem_map.1 hx;obtain ⟨d,hd,rfl⟩:=List.mem_map.1 hy;exact (agW hsm r c z hz d hd).fit zo
theorem abL (s : Nat) (h : s <= 8) : bits BinOp.and IntKind.i64 (s : Int) 1 = ((s % 2 : Nat) : Int):=by
 have hc : s = 0 \/ s = 1 \/ s = 2 \/ s = 3 \/ s = 4 \/ s = 5 \/ s = 6 \/ s = 7 \/ s = 8:=by omega
 rcases hc with rfl | rfl | rfl | rfl | rfl | rfl | rfl | rfl | rfl<;>rfl
theorem aaR (a : Option Addr) (cap m : Nat) (R : List (List Dyadic)) (B : Nat) (w : World) (hm : m + 1 <= 4) (hL : R.length = m + 1) (hrow : ∀ x ∈ R,x.length = m + 1) (hsm : ∀ x ∈ R,∀ d ∈ x,Sm B d) (bH : 1 <= B) (hB : B <= 1000000) (ha : aY w a (R.map fun x=>x.map canon)) (hT : aB w) :
 Calls Tryz.prog 92 #[.slice a (m + 1) cap] w fun e w'=>∃ v,e = .returned (.tuple #[v,.int .i64 0]) /\ fe w' w.heap.size (m + 1) (nQ (m + 1) (bT R)) (m + 1) v /\ Bw w w':=by
 obtain ⟨i0,hi,hz0,hz1,hz2⟩:=info_parts Tryz.anW;obtain ⟨j0,hj,hy0,hy1,hy2⟩:=info_parts Tryz.an3;have fc:=fun W (hW : Bw w W)=>Lv a (m + 1) cap (R.map fun x=>x.map canon) W (by rw [List.length_map,hL]) zo (ha.below hW);have hm0 : rP (R.map fun x=>x.map canon) = 0:=by
  unfold rP;rw [if_neg];rintro (h | h)
  . rw [List.length_map] at h;omega
  . rw [List.any_eq_true] at h;obtain ⟨r,hr,h⟩:=h;obtain ⟨z,hz,rfl⟩:=List.mem_map.1 hr;have:=hrow z hz;simp at h;omega
 rw [hm0] at fc;have hwo:=fun r c (hr : r <= m) (hc : c <= m) W (hW : Bw w W)=>akr a cap m r c R W hL hrow hr hc zo (ha.below hW);have lA:=fun r c (hr : r <= m) (hc : c <= m) W (hW : Bw w W) a' c' (ht : aY W a' ((iZ R r c).map fun x=>x.map canon))=>agX a' c' m r c R B W hL hrow hr hc zo hsm bH hB ht (hT.below hW);have hds : ∀ r c,r <= m -> c <= m -> Sm (4 * B + 6) (dR m (jA (bT R) r c)):=by
  intro r c hr hc;refine Dr zo (fun i j hi hj=>?_);have hk : (if i < r then i else i + 1) < R.length:=by split<;>omega
  have hl:=hrow _ (List.getElem_mem hk);have hk2 : (if j < c then j else j + 1) < R[if i < r then i else i + 1].length:=by rw [hl];split<;>omega
  have e : jA (bT R) r c i j = R[if i < r then i else i + 1][if j < c then j else j + 1]:=by
   show (R.getD (if i < r then i else i + 1) []).getD (if j < c then j else j + 1) 0 = _
   rw [List.getD_eq_getElem?_getD (l:=R),List.getElem?_eq_getElem hk,Option.getD_some,List.getD_eq_getElem?_getD,List.getElem?_eq_getElem hk2];rfl
  rw [e];exact hsm _ (List.getElem_mem hk) _ (List.getElem_mem hk2)
 obtain ⟨f,hf⟩ : ∃ f,bT R = f:=⟨_,rfl⟩;rw [hf] at lA hds ⊢;have Jq:=fun i (h : i < m + 1)=>Pm (m + 1) f i h;obtain ⟨A,hA⟩ : ∃ A,nQ (m + 1) f = A:=⟨_,rfl⟩;rw [hA] at Jq ⊢;have Hi:=ah hi;have cO:=ah hz0;have cP:=ah hz1;have cE:=ah hz2;have Hj:=ah hj;have jK:=ah hy0;have lQ:=ah hy1;have lR:=ah hy2;have mC:=ah fc;have Hwo:=ah hwo;have yZ:=ah lA;have Yl:=ah hds;have HT:=ah hT;have Xf:=ah Jq;clear hi hz0 hz1 hz2 hj hy0 hy1 hy2 fc hwo lA hds hT Jq hA hf hm0 ha hsm hrow hL;have Hb : Hid (Bw w w):=Below.refl _ _;go_enter Tryz.func92,Tryz.ntmps92;go_wp2_with fail;refine (mC.out _ Hb.out).mono ?_;rintro e w1 ⟨rfl,ae⟩;replace Hb:=az Hb ae;clear ae;go_wp2_with fail;go_loopw [5,18] (fun s5 x wr=>∃ (k : Nat) (v : Value),k <= m + 1 /\ x = .int .i64 (k : Int) /\ v = s5 /\ fe wr w.heap.size (m + 1) A k v /\ Bw w wr) (fun _ x _=>m + 1 - (intOf x).toNat);case atStart=>exact ⟨0,_,Nat.zero_le _,rfl,rfl,fe.nil _ _ _ _,Hb.out⟩
 case round=>
  clear Hb;obtain ⟨k,v,hk,rfl,rfl,pv,pb⟩:=hrel;have dm:=ah pv;have aR:=ah pb;clear pv pb;by_cases hlt : k < m + 1
  . obtain ⟨Z,hZ⟩ : ∃ Z,((List.range (m + 1)).map fun b=>jo (m + 1) f k b) = Z:=⟨_,rfl⟩;have wI : Hid (A.getD k [] = Z):=by show _ = _;rw [Xf.out k hlt,hZ]
    have sf : Hid (Z.length = m + 1):=by show _ = _;rw [<- hZ];simp
    have XU : Hid (∀ j (h : j < m + 1),Z.take (j + 1) = Z.take j ++ [jo (m + 1) f k j]):=by intro j h;rw [List.take_succ_eq_append_getElem (by rw [sf.out];exact h)];congr 2;simp [<- hZ]
    clear hZ;obtain ⟨wq,hwc⟩ : ∃ wq,wq = wr:=⟨_,rfl⟩;subst hwc;have gN:=aR.out.size;have pL : decide ((k : Int) < (m : Int) + 1) = true:=by simp;omega
    go_wp2_with fail;clear pL;go_loopw [7,23] (fun s7 x wr=>∃ (j : Nat) (v2 : Value),j <= m + 1 /\ x = .int .i64 (j : Int) /\ v2 = s7 /\ wr.ownsRow wq.heap.size 30 3 v2 j (dC (Z.take j)) /\ Bw wq wr) (fun _ x _=>m + 1 - (intOf x).toNat);case atStart=>exact ⟨0,_,Nat.zero_le _,rfl,rfl,World.ownsRow_nil _ _ _ _,Below.refl _ _⟩
    case round=>
     obtain ⟨j,v2,hj,rfl,rfl,ho,hb2⟩:=hrel;have Ho:=ah ho;have bS:=ah hb2;have szb:=hb2.size;clear ho hb2;by_cases bi : j < m + 1
     . obtain ⟨X,hX⟩ : ∃ X,dR m (jA f j k) = X:=⟨_,rfl⟩;obtain ⟨Y,hY⟩ : ∃ Y,jo (m + 1) f k j = Y:=⟨_,rfl⟩;have RG : Y = if (k + j) % 2 = 1 then -X else X:=by rw [<- hY,<- hX];rfl
       have gH:=Yl.out j k zo zo;rw [hX] at gH;have hst : dC (Z.take (j + 1)) = dC (Z.take j) ++ [.bool (au (dN Y)),.string (bs (nt (dN Y).natAbs)),.int .i64 (dE Y)]:=by rw [XU.out j bi,hY,xm];rfl
       have dM:=aJ aR.out bS.out;have hd:=fun W hW a' c' ht=>yZ.out j k zo zo W hW a' c' ht;rw [hX] at hd;have Hd:=ah hd;have bX:=ah hst;have Ga:=ah RG;have NG : Hid (Ok (canon X)):=gH.ok zo;have kV:=ah dM;clear hd hst RG hX hY gH dM;have Hb : Hid (Bw wr wr):=Below.refl _ _;go_wp2_with fail;refine (Hwo.out j k zo zo _ kV.out).mono ?_;rintro e w3 ⟨a3,c3,rfl,hc3,oK,ae⟩;replace Hb:=az Hb ae;clear ae;have wW:=ah oK;clear oK;go_wp2_with fail;refine (Hd.out _ (aJ kV.out Hb.out) a3 c3 wW.out).mono ?_;rintro e w4 ⟨rfl,ae⟩;replace Hb:=az Hb ae;clear ae wW;have sz4:=Hb.out.size;obtain ⟨W5,kD⟩ : ∃ W5,(w4.alloc (.cells #[.bool (au (dN X)),.string (bs (nt (dN X).natAbs)),.int .i64 (dE X)] 30)) = W5:=⟨_,rfl⟩;have ae : Bw w4 W5:=by rw [<- kD];exact zl
       have Hx : Hid (ai W5 (w4.heap.size) 30 [.bool (au (dN X)),.string (bs (nt (dN X).natAbs)),.int .i64 (dE X)]):=by rw [<- kD];exact ai.newAt _ _ _ zm
       obtain ⟨x0,aS,x1,aU,x2,aW⟩:=Hx.out.g3;replace Hb:=az Hb ae;clear ae;have xC:=abL (k + j) zo;rw [Int.natCast_add] at xC;go_upto_if 38 with fail
       go_cut [7] (fun s7 wx=>s7 = v2 /\ ai wx w4.heap.size 30 [.bool (au (dN Y)),.string (bs (nt (dN Y).natAbs)),.int .i64 (dE Y)] /\ Bw wr wx);case first=>
        by_cases hp : (k + j) % 2 = 1
        . have h9 : (bits BinOp.and IntKind.i64 ((k : Int) + (j : Int)) 1 == 1) = true:=by rw [xC,hp];rfl
          have hY : -aC (canon X) = Y:=by rw [bP,Ga.out,if_pos hp]
          have HY:=ah hY;clear hY xC;go_wp2_with fail;refine (IX _ _ _ Y HY.out _ NG.out (HT.out.below (aJ kV.out Hb.out))).mono ?_;rintro e w6 ⟨rfl,ae⟩;clear x0 aS x1 aU x2 aW;replace Hx:=kB Hx ae;obtain ⟨x0,aS,x1,aU,x2,aW⟩:=Hx.out.g3;replace Hb:=az Hb ae;clear ae;go_wp2_with fail;go_meet;exact ⟨rfl,((Hx.out.set 0 _).set 1 _).set 2 _,((Hb.out.setCell zp _).setCell zp _).setCell zp _⟩
        . have h9 : (bits BinOp.and IntKind.i64 ((k : Int) + (j : Int)) 1 == 1) = false:=by rw [xC,show (k + j) % 2 = 0 by omega];rfl
          have hY : Y = X:=by rw [Ga.out,if_neg hp]
          subst hY;clear xC;go_wp2_with fail;go_meet;exact ⟨rfl,Hx.out,Hb.out⟩
       case rest=>
        obtain ⟨rfl,hx,hb⟩:=hcut;clear xC;have Hx : Hid (ai wc w4.heap.size 30 [.bool (au (dN Y)),.string (bs (nt (dN Y).natAbs)),.int .i64 (dE Y)]):=hx;have Gi:=ah (aJ bS.out hb);have hov:=ownsRow_below Ho.out hb;have cw:=ah hov;have szc:=hb.size;clear hx hb hov Ho Hb Hd Ga NG kV bS;have Hb : Hid (Bw wc wc):=Below.refl _ _;obtain ⟨x0,x1,x2⟩:=Hx.out.c3;have P0:=x0;have P1:=x1;have P2:=x2;have ane:=Hx.out.lt;obtain ⟨W6,eQ⟩ : ∃ W6,(wc.alloc (.cells #[.bool (au (dN Y)),.string (bs (nt (dN Y).natAbs)),.int .i64 (dE Y)] 30)) = W6:=⟨_,rfl⟩;have ae : Bw wc W6:=by rw [<- eQ];exact zl
        clear x0 x1 x2;replace Hx:=kB Hx ae;have Hc : Hid (ai W6 (wc.heap.size) 30 [.bool (au (dN Y)),.string (bs (nt (dN Y).natAbs)),.int .i64 (dE Y)]):=by rw [<- eQ];exact ai.newAt _ _ _ zm
        obtain ⟨x0,x1,x2⟩:=Hx.out.c3;obtain ⟨c0,c1,c2⟩:=Hc.out.c3;replace Hb:=az Hb ae;clear ae;have cK:=ownsRow_below cw.out Hb.out;have iW:=Hb.out.size;go_wp2_with (at_builtin;refine wpList_append_own_at _ rfl _ _ 45 rfl wq.heap.size 30 i0 _ 3 32 Tryz.underlying45 Hi.out cO.out cP.out cE.out rfl zd _ j (dC (Z.take j)) rfl cK ⟨wc.heap.size,0,none⟩ 1 1 [.bool (au (dN Y)),.string (bs (nt (dN Y).natAbs)),.int .i64 (dE Y)] rfl rfl (gb Hc.out) zy zx zo zo ?_;intro v' w7 dx eT _ fO;obtain ⟨g',mL,rfl⟩:=ownsRow_succ dx);go_roundw;case rel=>exact ⟨j + 1,_,by omega,by go_num,rfl,by rw [bX.out];exact dx,(aJ Gi.out Hb.out).grown eT zo (fun j e=>cL cK j e)⟩
        case measure=>simp [intOf];omega
     . obtain rfl : j = m + 1:=by omega
       have lw : Z.take (m + 1) = Z:=List.take_of_length_le (by rw [sf.out];exact Nat.le_refl _);rw [lw] at Ho;have fU:=Ho.out.lt;obtain ⟨a2,cap2,rfl,_,_⟩:=dA Ho.out;obtain ⟨vals,hvl,oH,KU,Bf⟩:=dm.out;have hov:=ownsRow_below oH bS.out;have iX:=fun i h=>ownsRow_below (KU i h) bS.out;have kF : ∀ g,(Value.slice a2 (m + 1) cap2).ownBlock = some g -> ∀ i (h : i < vals.length),vals[i].ownBlock ≠ some g:=fun g e i h e2=>by have h1:=(fU g e).1;have h2:=((KU i h).lt g e2).2;omega
       have hx:=ny Ho.out gN;have lO:=ah hvl;have qW:=ah iX;have cw:=ah hov;have Io:=ah Bf;have zw:=ah kF;have Hxx:=ah hx;clear hvl iX hov oH KU Bf kF hx fU lw;have Hb : Hid (Bw wr wr):=Below.refl _ _;obtain ⟨W6,eQ⟩ : ∃ W6,(wr.alloc (.cells #[.slice a2 (m + 1) cap2] 45)) = W6:=⟨_,rfl⟩;have ae : Bw wr W6:=by rw [<- eQ];exact zl
       have Hd : Hid (ai W6 (wr.heap.size) 45 [.slice a2 (m + 1) cap2]):=by rw [<- eQ];exact ai.newAt _ _ _ zm
       have d0:=Hd.out.c1;replace Hb:=az Hb ae;clear ae;have cK:=ownsRow_below cw.out Hb.out;have iW:=Hb.out.size;go_wp2_with (at_builtin;refine wpList_append_own_at _ rfl _ _ 78 rfl w.heap.size 45 j0 _ 1 24 Tryz.underlying78 Hj.out jK.out lQ.out lR.out rfl zd v k vals rfl cK ⟨wr.heap.size,0,none⟩ 1 1 [.slice a2 (m + 1) cap2] rfl rfl (gb Hd.out) zy zx zo zo ?_;intro v' w7 dx eT _ fO;obtain ⟨g',mL,rfl⟩:=ownsRow_succ dx);go_roundw;case rel=>refine ⟨k + 1,_,by omega,by go_num,rfl,fe.push lO.out cK (fun i h=>ownsRow_below (qW.out i h) Hb.out) Io.out (by rw [wI.out];exact ownsRow_below Hxx.out Hb.out) zw.out dx eT,?_⟩;exact (aJ (aJ aR.out bS.out) Hb.out).grown eT zo (fun j e=>cL cK j e)
       case measure=>simp [intOf];omega
  . obtain rfl : k = m + 1:=by omega
    go_wp2;exact bodyPost_ret (v:=.tuple #[v,.int .i64 0]) (by simp [results,Tryz.results92,go_sem]) rfl ⟨v,rfl,dm.out,aR.out⟩
end Go.Proofs.YtdaadlblknpipaaGreatDoor
namespace Go.Proofs.YtdaadlblknpipaaGreatDoor
def mJ (n : Nat) (p : Nat -> Nat -> Dyadic) : List (List Dyadic):=(List.range n).map fun a=>(List.range n).map fun b=>iR n p a b
theorem De (n : Nat) (p : Nat -> Nat -> Dyadic) : (mJ n p).length = n:=by simp [mJ]
theorem Df (n : Nat) (p : Nat -> Nat -> Dyadic) : ∀ r ∈ mJ n p,r.length = n:=by intro r hr;unfold mJ at hr;obtain ⟨x,_,rfl⟩:=List.mem_map.1 hr;simp
theorem IB (n : Nat) (p : Nat -> Nat -> Dyadic) (a b : Nat) (ha : a < n) (hb : b < n) : bT (mJ n p) a b = iR n p a b:=by unfold bT mJ;simp [List.getD_eq_getElem?_getD,ha,hb]
theorem ajR {n : Nat} {R S : List (List Dyadic)} (h1 : R.length = n) (h2 : ∀ r ∈ R,r.length = n) (h3 : S.length = n) (h4 : ∀ r ∈ S,r.length = n) (h : ∀ a b,a < n -> b < n -> bT R a b = bT S a b) : R = S:=by apply List.ext_getElem zo;intro i hi hj;have l1:=h2 _ (List.getElem_mem hi);have l2:=h4 _ (List.getElem_mem hj);apply List.ext_getElem zo;intro j k1 k2;have:=h i j zo zo;unfold bT at this;simpa [List.getD_eq_getElem?_getD,hi,hj,k1,k2] using this
theorem aaN (n : Nat) (bY : n <= 4) {e f : Nat -> Nat -> Dyadic} (h : ∀ i j,i < n -> j < n -> e i j = f i j) (a b : Nat) (ha : a < n) (hb : b < n) : jo n e a b = jo n f a b:=by
 have : dR (n - 1) (jA e b a) = dR (n - 1) (jA f b a):=Dq (n - 1) zo (fun i j hi hj=>by
  unfold jA
  exact h _ _ (by split<;>omega) (by split<;>omega))
 unfold jo;rw [this]
theorem ads {n : Nat} {R : List (List Dyadic)} (h1 : R.length = n) (h2 : ∀ r ∈ R,r.length = n) (i j : Nat) (hi : i < n) (hj : j < n) (y : Dyadic) (a b : Nat) (ha : a < n) (hb : b < n) : bT (R.set i ((R.getD i []).set j y)) a b = if a = i /\ b = j then y else bT R a b:=by
 unfold bT;by_cases e : a = i
 . subst e;rw [List.getD_eq_getElem?_getD (l:=R.set _ _),List.getElem?_set_self zo,Option.getD_some];have hl : (R.getD a []).length = n:=by
    have e : R.getD a [] = R[a]'zo:=by rw [List.getD_eq_getElem?_getD,List.getElem?_eq_getElem zo];rfl
    rw [e];exact h2 _ (List.getElem_mem _)
   by_cases e2 : b = j
   . subst e2;rw [if_pos ⟨rfl,rfl⟩,List.getD_eq_getElem?_getD,List.getElem?_set_self zo];rfl
   . rw [if_neg (fun h=>e2 h.2),List.getD_eq_getElem?_getD,List.getElem?_set_ne (fun h=>e2 h.symm),<- List.getD_eq_getElem?_getD]
 . rw [if_neg (fun h=>e h.1),List.getD_eq_getElem?_getD (l:=R.set _ _),List.getElem?_set_ne (fun h=>e h.symm),<- List.getD_eq_getElem?_getD]
theorem ajg {n : Nat} {R : List (List Dyadic)} (h1 : R.length = n) (h2 : ∀ r ∈ R,r.length = n) (i j : Nat) (hi : i < n) (y : Dyadic) : (R.set i ((R.getD i []).set j y)).length = n /\ ∀ r ∈ R.set i ((R.getD i []).set j y),r.length = n:=by
 refine ⟨by rw [List.length_set];exact h1,fun r hr=>?_⟩;rcases List.mem_or_eq_of_mem_set hr with h | h
 . exact h2 r h
 . rw [h,List.length_set];have e : R.getD i [] = R[i]'zo:=by rw [List.getD_eq_getElem?_getD,List.getElem?_eq_getElem zo];rfl
   rw [e];exact h2 _ (List.getElem_mem _)
theorem aji (X : Dyadic) : (if bM X < 0 then -X else X) = kO X * X:=by
 rw [ajh];by_cases h : X < 0
 . rw [if_pos h,if_pos ((Dy X).2 h)]
 . rw [if_neg h,if_neg (fun h2=>h ((Dy X).1 h2))]
def iB (k j a b : Nat) : Prop:=a < k \/ a = k /\ b < j
instance (k j a b : Nat) : Decidable (iB k j a b):=inferInstanceAs (Decidable (_ \/ _))
end Go.Proofs.YtdaadlblknpipaaGreatDoor
namespace Go.Proofs.YtdaadlblknpipaaGreatDoor
open Go.RowKit
attribute [local go_sem ↓] Go.wp_at_zero Go.wp_at_succ
def Pd (w : World) (n : Nat) (p : Nat -> Nat -> Dyadic) (e : Ending) (w' : World) : Prop:=
 ∃ a' c',e = .returned (.tuple #[bJ (kO (fg n p) * fg n p),.slice a' n c',.int .i64 0]) /\ n <= c' /\ aY w' a' ((mJ n p).map fun r=>r.map canon) /\ Bw w w'
theorem fe.blk {w : World} {base n L go cap : Nat} {R : List (List Dyadic)} (h : fe w base n R L (.slice (some ⟨go,0,none⟩) L cap)) (i : Nat) (hi : i < L) (hn : 0 < n) : base <= go /\ ∃ g c,w.cell? ⟨go,i,none⟩ = some (.slice (some ⟨g,0,none⟩) n c) /\ base <= g /\ g < w.heap.size /\ g ≠ go:=by
 obtain ⟨vals,hl,ho,hv,hd⟩:=h;have hi2 : i < vals.length:=by omega
 have hrow:=hv i hi2;obtain ⟨g,c,e1,hg1,hg2,_⟩:=ym hrow hn;have fO:=wu ho;have hc:=jZ ho i zo;rw [e1] at hc;refine ⟨fO.1,g,c,hc,hg1,hg2,?_⟩;rintro rfl;rw [e1] at hrow;rcases hrow.2 with ⟨h1,_⟩ | ⟨g',c',cur,h1,_,h2,_⟩
 . simp at h1
 . simp only [Value.slice.injEq,Option.some.injEq,Addr.mk.injEq,and_true,true_and] at h1;obtain ⟨rfl,rfl⟩:=h1;rcases ho.2 with ⟨h3,_⟩ | ⟨g2,c2,ald,h3,_,h4,_⟩
   . simp at h3
   . simp only [Value.slice.injEq,Option.some.injEq,Addr.mk.injEq,and_true,true_and] at h3;obtain ⟨rfl,rfl⟩:=h3;rw [h2] at h4;simp at h4
theorem fe.an4 {w : World} {base n k : Nat} {R : List (List Dyadic)} {v : Value} (h : fe w base n R k v) {p : Addr} (hp : p.block < base) (x : Value) : fe (w.setCell p x) base n R k v:=by
 obtain ⟨vals,hl,ho,hi,hd⟩:=h;have hne : ∀ {u : Value} {e : TypeId} {sz m : Nat} {xs : List Value},w.ownsRow base e sz u m xs -> u.ownBlock ≠ some p.block:=fun h e=>by have:=(h.lt _ e).1;omega
 exact ⟨vals,hl,ownsRow_setCell_other ho (hne ho) _,fun i h=>ownsRow_setCell_other (hi i h) (hne (hi i h)) _,hd⟩
theorem Uu (a : Option Addr) (cap m : Nat) (rows : List (List Raw)) (B : Nat) (w : World) (hm : m + 1 <= 4) (hr : Rw (m + 1) B rows) (hcap : m + 1 + 1 <= cap) (ha : aY w a rows) (hB : B <= 200000) (hT : aB w) (h0 : kQ rows = 0) :
 Calls Tryz.prog 55 #[.slice a (m + 1 + 1) cap] w (Pd w (m + 1) (cF rows)):=by
 obtain ⟨n,hn⟩ : ∃ n,m + 1 = n:=⟨_,rfl⟩;have hL:=hr.1;have hrow:=hr.2.1;have hfit:=hr.2.2;obtain ⟨b,o,rfl⟩ : ∃ b o,a = some ⟨b,o,none⟩:=by
  obtain ⟨vals,hvl,hat,_⟩:=ha;rcases hat with h | ⟨b,o,h,_⟩
  . rw [h] at hvl;simp at hvl;omega
  . exact ⟨b,o,h⟩
 have fc:=fun W (hW : Bw w W)=>BZ (some ⟨b,o,none⟩) (m + 1 + 1) cap rows B W hL zo hcap (ha.below hW) hfit zo (hT.below hW);rw [h0] at fc;obtain ⟨S,hS⟩ : ∃ S,((rows.drop 1).map fun p=>iA (rows.getD 0 []) p) = S:=⟨_,rfl⟩;have gS : S.length = m + 1:=by rw [<- hS];simp [hL]
 have h00 : 0 < rows.length:=by omega
 have e0 : rows.getD 0 [] = rows[0]:=by simp [h00]
 have pG : ∀ r ∈ S,r.length = m + 1:=by intro r hr;rw [<- hS] at hr;obtain ⟨p,hp,rfl⟩:=List.mem_map.1 hr;rw [Du (by rw [e0,hrow _ (List.mem_of_mem_drop hp),hrow _ (List.getElem_mem h00)]),hrow _ (List.mem_of_mem_drop hp)]
 have pH : ∀ r ∈ S,∀ d ∈ r,Sm (B + 1) d:=by intro r hr d hd;rw [<- hS] at hr;obtain ⟨p,hp,rfl⟩:=List.mem_map.1 hr;unfold iA at hd;obtain ⟨i,hi,rfl⟩:=List.mem_iff_getElem.1 hd;rw [List.getElem_zipWith];refine Sm.sub (hfit p (List.mem_of_mem_drop hp) _ (List.getElem_mem _)).2 (hfit (rows.getD 0 []) ?_ _ (List.getElem_mem _)).2;rw [e0];exact List.getElem_mem h00
 obtain ⟨P,hP⟩ : ∃ P,cF rows = P:=⟨_,rfl⟩;have AH : ∀ i j,i < m + 1 -> j < m + 1 -> bT S i j = xt P i j:=fun i j hi hj=>by rw [<- hS,<- hP];exact Ws (m + 1) rows hL hrow i j hi hj
 obtain ⟨X,hX⟩ : ∃ X,fg (m + 1) P = X:=⟨_,rfl⟩;have hent : dR (m + 1) (bT S) = X:=by rw [<- hX,Dz];exact Dq (m + 1) hm AH
 have hro:=fun W (hW : Bw w W)=>Wb b o cap (m + 1) (m + 1) rows B W hL zo hcap zo zo zo hrow (ha.below hW) hfit zo (hT.below hW);rw [hS] at hro
 have lA:=fun W (hW : Bw w W) a' c' (h : aY W a' (S.map fun r=>r.map canon))=>IY a' c' (m + 1) (S.map fun r=>r.map canon) (B + 1) S X W zo hm (by simpa using gS) (by
  intro r hr;obtain ⟨x,hx,rfl⟩:=List.mem_map.1 hr
  simpa using pG x hx) h (by
  intro r hr c hc;obtain ⟨x,hx,rfl⟩:=List.mem_map.1 hr;obtain ⟨y,hy,rfl⟩:=List.mem_map.1 hc
  exact (pH x hx y hy).fit zo) zo zo (hT.below hW) (PF S) hent
 have lW:=fun W (hW : Bw w W) a' c' (h : aY W a' (S.map fun r=>r.map canon))=>(aaR a' c' m S (B + 1) W hm gS pG pH zo zo h (hT.below hW)).mono (fun e w' h=>(match h with | ⟨v,h1,h2,h3⟩=>⟨v,h1,h2,h3,h3⟩ : ∃ v,e = .returned (.tuple #[v,.int .i64 0]) /\ fe w' W.heap.size (m + 1) (nQ (m + 1) (bT S)) (m + 1) v /\ Bw W w' /\ Bw W w'));have gH : Sm (4 * B + 11) X:=by rw [<- hent];refine (Dr (B:=B + 1) hm (fun i j hi hj=>?_)).mono zo;rw [AH i j hi hj,<- hP];exact DC (n:=m + 1) (B:=B) (fun a b ha hb=>by rw [qo rows a b zo (by rw [hrow _ (List.getElem_mem _)];exact hb)];exact (hfit _ (List.getElem_mem _) _ (List.getElem_mem _)).2) i j hi hj
 have gJ:=fun W=>lT (au (dN X)) (nt (dN X).natAbs) (dE X) (bM X) (by show bM (aC (canon X)) = _;rw [bP]) W (gH.ok zo);have AK : -1 <= bM X /\ bM X <= 1:=by unfold bM dw;split<;>(try split)<;>omega
 obtain ⟨G,hG⟩ : ∃ G,kO X = G:=⟨_,rfl⟩;have hof:=fun W (hW : Bw w W)=>Ac (bM X) G (by rw [<- hG];rfl) W zo (hT.below hW)
 have hab:=fun W (hW : Bw w W)=>acK (au (dN X)) (nt (dN X).natAbs) (dE X) (G * X) (by
  have e : aC (au (dN X),nt (dN X).natAbs,dE X) = X:=bP X
  rw [e,aji,hG]) W (gH.ok zo) (hT.below hW)
 have QR : Fit (4 * B + 11) (canon G):=(by rw [<- hG];exact (Mr X).mono zo : Sm (4 * B + 11) G).fit zo;have nZ : ∀ i j,i < m + 1 -> j < m + 1 -> Fit (4 * B + 11) (canon (jo (m + 1) (bT S) i j)):=fun i j hi hj=>by refine ((Pk (B:=B + 1) zo hm (fun a b ha hb=>?_) i j).mono zo).fit zo;rw [AH a b ha hb,<- hP];exact DC (n:=m + 1) (B:=B) (fun a b ha hb=>by rw [qo rows a b zo (by rw [hrow _ (List.getElem_mem _)];exact hb)];exact (hfit _ (List.getElem_mem _) _ (List.getElem_mem _)).2) a b ha hb
 have hfin : ∀ R : List (List Dyadic),R.length = m + 1 -> (∀ r ∈ R,r.length = m + 1) -> (∀ a b,a < m + 1 -> b < m + 1 -> bT R a b = jo (m + 1) (bT S) a b * G) -> R = mJ (m + 1) P:=fun R h1 h2 h3=>ajR h1 h2 (De _ _) (Df _ _) (fun a b ha hb=>by
  rw [h3 a b ha hb,IB _ _ _ _ ha hb];unfold iR
  rw [hX,hG,aaN (m + 1) hm AH a b ha hb])
 have Ai:=fun i j hi hj=>aaO (m + 1) (bT S) i j hi hj;have DU:=aaP (m + 1) (bT S);have DV:=aaQ (m + 1) (bT S);obtain ⟨F,hF⟩ : ∃ F : Nat -> Nat -> Dyadic,(fun i j=>jo (m + 1) (bT S) i j) = F:=⟨_,rfl⟩;have QQ : ∀ i j,jo (m + 1) (bT S) i j = F i j:=fun i j=>by rw [<- hF]
 simp only [QQ] at nZ hfin Ai;obtain ⟨A,hA⟩ : ∃ A,nQ (m + 1) (bT S) = A:=⟨_,rfl⟩;rw [hA] at lW Ai DU DV;rw [hP];unfold Pd;rw [hX,hG];rw [hn] at fc hro lA lW nZ hfin Ai DU DV ⊢;have bY : n <= 4:=by omega
 have dF : 1 <= n:=by omega
 have TM:=fun W=>(gJ W).mono (fun e w' h=>(⟨h.1,h.2,h.2⟩ : e = .returned (.int .i64 (bM X)) /\ Bw W w' /\ Bw W w'));have Tt:=fun W hW=>(hof W hW).mono (fun e w' h=>(⟨h.1,h.2,h.2⟩ : e = .returned (bJ G) /\ Bw W w' /\ Bw W w'));have gv:=fun W hW=>(hab W hW).mono (fun e w' h=>(⟨h.1,h.2,h.2⟩ : e = .returned (bJ (G * X)) /\ Bw W w' /\ Bw W w'));have mC:=ah fc;have OE:=ah hro;have yZ:=ah lA;have yQ:=ah lW;have jI:=ah TM;have pg:=ah Tt;have jF:=ah gv;have Xt:=ah QR;have Xk:=ah nZ;have qN:=ah hfin;have Xg:=ah Ai;have Xi:=ah DU;have Xj:=ah DV;have HT:=ah hT;clear fc hro lA lW TM Tt gJ hof hab gv QR nZ hfin Ai DU DV hT QQ hF hA gH hent AH pH pG gS hS e0 h00 hP hX hG AK ha hr hL hrow hfit h0 hn;have Hb : Hid (Bw w w):=Below.refl _ _;go_enter Tryz.func55,Tryz.ntmps55;go_wp2_with fail;obtain ⟨R,hR⟩ : ∃ R : World -> Prop,(fun W=>ai W (w.heap.size) 30 [.bool false,.string ⟨#[]⟩,.int .i64 0] /\ Bw w W) = R:=⟨_,rfl⟩;first | refine bB R ?hR ?_ | refine bA R ?hR ?_
 case hR=>subst hR;exact ⟨(ai.newAt w _ _ (b:=w.heap.size) rfl),zl⟩
 subst hR;rintro W ⟨qr,ae⟩;have Hr:=ah qr;clear qr;obtain ⟨r0,aj,r1,ar,r2,aF⟩:=Hr.out.g3;replace Hb:=az Hb ae;clear ae;go_wp2_with fail;refine (mC.out _ Hb.out).mono ?_;rintro e w1 ⟨rfl,ae⟩;clear r0 aj r1 ar r2 aF;replace Hr:=kB Hr ae;obtain ⟨r0,aj,r1,ar,r2,aF⟩:=Hr.out.g3;replace Hb:=az Hb ae;clear ae;go_wp2_with fail;refine (OE.out _ Hb.out).mono ?_;rintro e w2 ⟨a2,c2,rfl,hc2,ht2,ae⟩;clear r0 aj r1 ar r2 aF;replace Hr:=kB Hr ae;obtain ⟨r0,aj,r1,ar,r2,aF⟩:=Hr.out.g3;replace Hb:=az Hb ae;clear ae;have wV:=ah ht2;clear ht2;go_wp2_with fail;refine (yZ.out _ Hb.out a2 c2 wV.out).mono ?_;rintro e w3 ⟨rfl,ae⟩;clear r0 aj r1 ar r2 aF;replace Hr:=kB Hr ae;obtain ⟨r0,aj,r1,ar,r2,aF⟩:=Hr.out.g3;replace Hb:=az Hb ae;clear ae wV;have agE:=Hr.out.lt;obtain ⟨W4,eP⟩ : ∃ W4,(w3.alloc (.cells #[.bool (au (dN X)),.string (bs (nt (dN X).natAbs)),.int .i64 (dE X)] 30)) = W4:=⟨_,rfl⟩;have ae : Bw w3 W4:=by rw [<- eP];exact zl
 clear r0 aj r1 ar r2 aF;replace Hr:=kB Hr ae;have Hd : Hid (ai W4 (w3.heap.size) 30 [.bool (au (dN X)),.string (bs (nt (dN X).natAbs)),.int .i64 (dE X)]):=by rw [<- eP];exact ai.newAt _ _ _ zm
 obtain ⟨r0,aj,r1,ar,r2,aF⟩:=Hr.out.g3;obtain ⟨d0,d1,d2⟩:=Hd.out.c3;replace Hb:=az Hb ae;clear ae;go_wp2_with fail;refine (OE.out _ Hb.out).mono ?_;rintro e w5 ⟨a3,c3,rfl,hc3,oK,ae⟩;clear r0 aj r1 ar r2 aF d0 d1 d2;replace Hr:=kB Hr ae;replace Hd:=kB Hd ae;obtain ⟨r0,aj,r1,ar,r2,aF⟩:=Hr.out.g3;obtain ⟨d0,d1,d2⟩:=Hd.out.c3;replace Hb:=az Hb ae;clear ae;have wW:=ah oK;clear oK;have ji:=Hr;have Gq:=Hd;have df:=Hb;go_wp2_with fail;refine (yQ.out _ Hb.out a3 c3 wW.out).mono ?_;rintro e w6 ⟨v,rfl,hO,RR,ae⟩;clear r0 aj r1 ar r2 aF d0 d1 d2;replace Hr:=kB Hr ae;replace Hd:=kB Hd ae;obtain ⟨r0,aj,r1,ar,r2,aF⟩:=Hr.out.g3;obtain ⟨d0,d1,d2⟩:=Hd.out.c3;replace Hb:=az Hb ae;clear ae;obtain ⟨go,cv,rfl,hgo⟩ : ∃ go cv,v = .slice (some ⟨go,0,none⟩) n cv /\ w5.heap.size <= go:=by obtain ⟨vals,hl,ho,_,_⟩:=hO;obtain ⟨g,c,e1,h1,_,_⟩:=ym ho zo;exact ⟨g,c,e1,h1⟩
 have hcv : n <= cv:=by obtain ⟨vals,hl,ho,_,_⟩:=hO;exact (ud ho).1
 obtain ⟨gI,Sy⟩ : ∃ gI : Nat -> Nat × Nat,∀ i,i < n -> w6.cell? ⟨go,i,none⟩ = some (.slice (some ⟨(gI i).1,0,none⟩) n (gI i).2) /\ w5.heap.size <= (gI i).1 /\ (gI i).1 < w6.heap.size /\ (gI i).1 ≠ go:=by have H:=fun i (h : i < n)=>(hO.blk i h dF).2;refine ⟨fun i=>if h : i < n then (Classical.choose (H i h),Classical.choose (Classical.choose_spec (H i h))) else (0,0),fun i h=>?_⟩;simp only [h,dif_pos];exact Classical.choose_spec (Classical.choose_spec (H i h))
 have HO:=ah hO;have Oc:=ah Sy;clear hO Sy;have wH : Hid (Bw w5 w6):=RR;have Xe : Hid (Bw w6 w6):=Below.refl _ _;clear RR;have MB:=wH.out.size;go_wp2_with fail;refine (jI.out _).mono ?_;rintro e w7 ⟨rfl,RV,ae⟩;clear r0 aj r1 ar r2 aF d0 d1 d2;replace Hr:=kB Hr ae;replace Hd:=kB Hd ae;obtain ⟨r0,aj,r1,ar,r2,aF⟩:=Hr.out.g3;obtain ⟨d0,d1,d2⟩:=Hd.out.c3;replace Hb:=az Hb ae;clear ae;go_wp2_with fail;refine (pg.out _ Hb.out).mono ?_;rintro e w8 ⟨rfl,RX,ae⟩;clear r0 aj r1 ar r2 aF d0 d1 d2;replace Hr:=kB Hr ae;replace Hd:=kB Hd ae;obtain ⟨r0,aj,r1,ar,r2,aF⟩:=Hr.out.g3;obtain ⟨d0,d1,d2⟩:=Hd.out.c3;replace Hb:=az Hb ae;clear ae;have Kb:=aJ RV RX;clear RV RX;have Nf:=ah Kb;have FB:=Kb.size;clear Kb;have amW:=Hr.out.lt;have amx:=Hd.out.lt;obtain ⟨W9,xA⟩ : ∃ W9,(w8.alloc (.cells #[.bool (au (dN G)),.string (bs (nt (dN G).natAbs)),.int .i64 (dE G)] 30)) = W9:=⟨_,rfl⟩;have ae : Bw w8 W9:=by rw [<- xA];exact zl
 clear r0 aj r1 ar r2 aF;replace Hr:=kB Hr ae;clear d0 d1 d2;replace Hd:=kB Hd ae;have Hs : Hid (ai W9 (w8.heap.size) 30 [.bool (au (dN G)),.string (bs (nt (dN G).natAbs)),.int .i64 (dE G)]):=by rw [<- xA];exact ai.newAt _ _ _ zm
 obtain ⟨r0,aj,r1,ar,r2,aF⟩:=Hr.out.g3;obtain ⟨d0,d1,d2⟩:=Hd.out.c3;obtain ⟨s0,s1,s2⟩:=Hs.out.c3;replace Hb:=az Hb ae;clear ae;have Cn : Hid (Bw w6 W9):=by rw [<- xA];exact (Nf.out).alloc zo _
 have Ra:=HO.out.below Cn.out;have Ej : ∀ i,i < n -> W9.cell? ⟨go,i,none⟩ = some (.slice (some ⟨(gI i).1,0,none⟩) n (gI i).2):=fun i h=>cell_later Cn.out (Oc.out i h).1;have RS:=aJ wH.out Cn.out;have Ny:=ah Ra;have NN:=ah Ej;have Nc:=ah RS;have OH:=Hs;clear Ra Ej RS HO Nf Xe Cn;go_wp2_with fail;go_loopw [37] (fun x wr=>∃ (k : Nat) (R : List (List Dyadic)),k <= n /\ x = .int .i64 (k : Int) /\ R.length = n /\ (∀ r ∈ R,r.length = n) /\ (∀ a b,a < n -> b < n -> bT R a b = if iB k 0 a b then F a b * G else F a b) /\ fe wr w5.heap.size n R n (.slice (some ⟨go,0,none⟩) n cv) /\ (∀ i,i < n -> wr.cell? ⟨go,i,none⟩ = some (.slice (some ⟨(gI i).1,0,none⟩) n (gI i).2)) /\ ai wr w8.heap.size 30 [.bool (au (dN G)),.string (bs (nt (dN G).natAbs)),.int .i64 (dE G)] /\ Bw w5 wr) (fun x _=>n - (intOf x).toNat);case atStart=>exact ⟨0,A,Nat.zero_le _,rfl,Xi.out,Xj.out,fun a b ha hb=>by rw [Xg.out a b ha hb,if_neg (by unfold iB;omega)],Ny.out,NN.out,OH.out,Nc.out⟩
 case round=>
  clear OH Nc NN Ny s0 s1 s2 Hs r0 aj r1 ar r2 aF d0 d1 d2 Hr Hd Hb wH;obtain ⟨k,R,hk,rfl,oh,ol,hRe,hO,hc,hs,pb⟩:=hrel;by_cases hlt : k < n
  . have fc:=hc k hlt;obtain ⟨g,c,mQ⟩ : ∃ g c,gI k = (g,c):=⟨_,_,rfl⟩;obtain ⟨_,hg1,hg2,hg3⟩:=Oc.out k hlt;rw [mQ] at fc hg1 hg2 hg3;have bz:=vO n cv k (k : Int) (rfl : (some ⟨go,0,none⟩ : Option Addr) = _) hlt rfl;rw [Nat.zero_add,Nat.mul_one] at bz;have hin : ∃ (j : Nat) (R : List (List Dyadic)),j = 0 /\ R.length = n /\ (∀ r ∈ R,r.length = n) /\ (∀ a b,a < n -> b < n -> bT R a b = if iB k j a b then F a b * G else F a b) /\ fe wr w5.heap.size n R n (.slice (some ⟨go,0,none⟩) n cv) /\ (∀ i,i < n -> wr.cell? ⟨go,i,none⟩ = some (.slice (some ⟨(gI i).1,0,none⟩) n (gI i).2)) /\ ai wr w8.heap.size 30 [.bool (au (dN G)),.string (bs (nt (dN G).natAbs)),.int .i64 (dE G)] /\ Bw w5 wr:=⟨0,R,rfl,oh,ol,hRe,hO,hc,hs,pb⟩;have nI:=ah hin;have CJ:=ah mQ;clear hin oh ol hRe hO hc hs pb mQ;obtain ⟨wq,hwq⟩ : ∃ wq,wq = wr:=⟨_,rfl⟩;subst hwq;go_wp2_with fail;go_loopw [43] (fun x wr=>∃ (j : Nat) (R : List (List Dyadic)),j <= n /\ x = .int .i64 (j : Int) /\ R.length = n /\ (∀ r ∈ R,r.length = n) /\ (∀ a b,a < n -> b < n -> bT R a b = if iB k j a b then F a b * G else F a b) /\ fe wr w5.heap.size n R n (.slice (some ⟨go,0,none⟩) n cv) /\ (∀ i,i < n -> wr.cell? ⟨go,i,none⟩ = some (.slice (some ⟨(gI i).1,0,none⟩) n (gI i).2)) /\ ai wr w8.heap.size 30 [.bool (au (dN G)),.string (bs (nt (dN G).natAbs)),.int .i64 (dE G)] /\ Bw w5 wr) (fun x _=>n - (intOf x).toNat);case atStart=>obtain ⟨j,R,rfl,h⟩:=nI.out;exact ⟨0,R,Nat.zero_le _,rfl,h⟩
    case round=>
     clear nI fc bz;obtain ⟨j,R,hj,rfl,oh,ol,hRe,hO,hc,hs,pb⟩:=hrel;by_cases bi : j < n
     . have hrl : (R.getD k []).length = n:=by
        have e : R.getD k [] = R[k]'zo:=by rw [List.getD_eq_getElem?_getD,List.getElem?_eq_getElem zo];rfl
        rw [e];exact ol _ (List.getElem_mem _)
       have fc:=hc k hlt;rw [CJ.out] at fc;have hpick : ∀ W,fe W w5.heap.size n R n (.slice (some ⟨go,0,none⟩) n cv) -> W.cell? ⟨go,k,none⟩ = some (.slice (some ⟨g,0,none⟩) n c) -> bj W g (j * 3) [.bool (au (dN (F k j))),.string (bs (nt (dN (F k j)).natAbs)),.int .i64 (dE (F k j))] /\ (∀ o,W.frozen? ⟨g,o,none⟩ = false) /\ ∀ y : Dyadic,fe (((W.setCell ⟨g,j * 3,none⟩ (.bool (au (dN y)))).setCell ⟨g,j * 3 + 1,none⟩ (.string (bs (nt (dN y).natAbs)))).setCell ⟨g,j * 3 + 2,none⟩ (.int .i64 (dE y))) w5.heap.size n (R.set k ((R.getD k []).set j y)) n (.slice (some ⟨go,0,none⟩) n cv):=by
        intro W hO fc;obtain ⟨go',cap',g',c',hv,_,_,hne,hcell,cj,hfz,hup⟩:=hO.num k j hlt bi oh hrl;simp only [Value.slice.injEq,Option.some.injEq,Addr.mk.injEq,and_true,true_and] at hv;obtain ⟨rfl,rfl⟩:=hv;rw [fc] at hcell;simp only [Option.some.injEq,Value.slice.injEq,Addr.mk.injEq,and_true,true_and] at hcell;obtain ⟨rfl,rfl⟩:=hcell;have he : (R.getD k []).getD j 0 = F k j:=by have h:=hRe k j hlt bi;rw [if_neg (by unfold iB;omega)] at h;exact h
        rw [he] at cj;exact ⟨cj,hfz,hup⟩
       obtain ⟨cj,_,_⟩:=hpick wr hO fc;have Jr:=Xk.out k j hlt bi;obtain ⟨Y,hY⟩ : ∃ Y,F k j * G = Y:=⟨_,rfl⟩;have hsl:=ajg oh ol k j hlt Y;have hen : ∀ a b,a < n -> b < n -> bT (R.set k ((R.getD k []).set j Y)) a b = if iB k (j + 1) a b then F a b * G else F a b:=by
        intro a b ha hb;rw [ads oh ol k j hlt bi Y a b ha hb];by_cases e : a = k /\ b = j
        . obtain ⟨rfl,rfl⟩:=e;rw [if_pos ⟨rfl,rfl⟩,if_pos (by unfold iB;omega),hY]
        . rw [if_neg e,hRe a b ha hb];have : iB k j a b ↔ iB k (j + 1) a b:=by unfold iB;omega
          by_cases h : iB k j a b
          . rw [if_pos h,if_pos (this.1 h)]
          . rw [if_neg h,if_neg (fun h2=>h (this.2 h2))]
       obtain ⟨E,hE⟩ : ∃ E,F k j = E:=⟨_,rfl⟩;have HY : Hid (aC (canon E) * aC (canon G) = Y):=by show _ = _;rw [bP,bP,<- hE];exact hY
       rw [hE] at cj Jr hpick;have hjx:=lF n c j (j : Int) (rfl : (some ⟨g,0,none⟩ : Option Addr) = _) bi rfl;rw [Nat.zero_add] at hjx;obtain ⟨R2,Rn⟩ : ∃ R2,R.set k ((R.getD k []).set j Y) = R2:=⟨_,rfl⟩;have hpk:=fun W h1 h2=>(hpick W h1 h2).2.2 Y;have vG:=fun W h1 h2=>(hpick W h1 h2).2.1;rw [Rn] at hsl hen hpk;have Hz : Hid (bj wr g (j * 3) [.bool (au (dN E)),.string (bs (nt (dN E).natAbs)),.int .i64 (dE E)]):=cj;have Hs : Hid (ai wr w8.heap.size 30 [.bool (au (dN G)),.string (bs (nt (dN G).natAbs)),.int .i64 (dE G)]):=hs;have HO:=ah hO;have Yf:=ah hc;have mC:=ah fc;have aR:=ah pb;have uK:=ah hsl;have Yo:=ah hen;have ZC:=ah hpk;have ZG:=ah vG;have Xh:=ah Jr;have ut:=ah (HT.out.below (aJ df.out pb));have szw:=pb.size;clear hO hc fc pb hsl hen hpk vG Jr hs cj hpick Rn hE hY oh ol hRe hrl;have Hb : Hid (Bw wr wr):=Below.refl _ _;have EI:=Hs.out.lt;go_wp2_with fail;obtain ⟨z0,z1,z2⟩:=Hz.out.w3;obtain ⟨s0,s1,s2⟩:=Hs.out.c3;have HU : Hid (aB wr):=ut.out;refine bE (fun w'=>w'.cell? ⟨g,j * 3,none⟩ = some (.bool (au (dN E))) /\ w'.cell? ⟨g,j * 3 + 1,none⟩ = some (.string (bs (nt (dN E).natAbs))) /\ w'.cell? ⟨g,j * 3 + 2,none⟩ = some (.int .i64 (dE E)) /\ w'.cell? ⟨w8.heap.size,0,none⟩ = some (.bool (au (dN G))) /\ w'.cell? ⟨w8.heap.size,1,none⟩ = some (.string (bs (nt (dN G).natAbs))) /\ w'.cell? ⟨w8.heap.size,2,none⟩ = some (.int .i64 (dE G))) (fun i=>Nat.blt i 10) [(0,true),(1,true),(2,true),(3,true),(4,true),(5,true),(6,true),(7,false),(8,false),(9,true),(10,false)] zk zk rfl zk zc ⟨z0,z1,z2,s0,s1,s2⟩ ?_;iterate 7 (refine pT rfl rfl ?_ (by intro w' ⟨q0,q1,q2,q3,q4,q5⟩;go_simp;try with_reducible rfl);try simp only [UU])
       refine aI rfl rfl (fun K hK=>?_);go_simp;refine hK _ _ (fun _=>⟨aH z0,aH z1,aH z2,aH s0,aH s1,aH s2⟩) ?_;clear hK K;try simp only [UU]
       refine bG (fun W4=>ai W4 (wr.heap.size) 30 [.bool (au (dN E)),.string (bs (nt (dN E).natAbs)),.int .i64 (dE E),.bool (au (dN G)),.string (bs (nt (dN G).natAbs)),.int .i64 (dE G)] /\ Bw wr W4) (by first | exact dP | exact dQ) ?_;rintro W4 ⟨qv,ae⟩;clear z0 z1 z2 s0 s1 s2;have am1:=Hs.out.lt;replace Hz:=kW Hz ae;replace Hs:=kB Hs ae;replace HU:=kT HU ae;have Hv:=ah qv;clear qv;obtain ⟨z0,z1,z2⟩:=Hz.out.w3;obtain ⟨s0,s1,s2⟩:=Hs.out.c3;obtain ⟨v0,v1,v2,v3,v4,v5⟩:=Hv.out.c6;replace Hb:=az Hb ae;clear ae;refine aI rfl rfl (fun K hK=>?_);go_simp;with_reducible refine (xp _ _ _ _ _ _ Y (4 * B + 11) HY.out wr.heap.size _ 30 _ Xh.out Xt.out zo Hv.out (by first | exact HU.out | exact aB.drew HU.out | exact aB.alloc HU.out _ | exact aB.drew (aB.alloc HU.out _) | exact aB.alloc (aB.drew HU.out) _)).mono ?_
       rintro e dX ⟨rfl,hq⟩;have ae : Bw W4 dX:=by first | exact hq | exact aN hq
       clear z0 z1 z2 s0 s1 s2 v0 v1 v2 v3 v4 v5;replace Hz:=kW Hz ae;replace Hs:=kB Hs ae;replace HU:=kT HU ae;replace Hv:=kB Hv ae;obtain ⟨z0,z1,z2⟩:=Hz.out.w3;obtain ⟨s0,s1,s2⟩:=Hs.out.c3;obtain ⟨v0,v1,v2,v3,v4,v5⟩:=Hv.out.c6;replace Hb:=az Hb ae;clear ae;refine hK _ _ (fun _=>⟨z0,z1,z2,s0,s1,s2⟩) ?_;clear hK K;try simp only [UU]
       refine pT rfl rfl ?_;try simp only [UU]
       refine aI rfl rfl (fun K hK=>?_);have JF:=HO.out.below Hb.out;have Kp:=cell_later Hb.out mC.out;have hfz:=ZG.out dX JF Kp;have mO:=hfz (j * 3);have lv:=hfz (j * 3 + 1);have DL:=hfz (j * 3 + 2);have hup:=ZC.out dX JF Kp;have rC:=aJ aR.out Hb.out;have Ik:=ah hup;have jh:=ah rC;clear JF Kp hfz hup rC;go_simp;refine hK _ _ (fun h=>absurd h zd) ?_;clear hK K;try simp only [UU]
       simp only [aV];go_wp2;refine ⟨⟨j + 1,R2,by omega,by go_num,uK.out.1,uK.out.2,Yo.out,Ik.out,fun i hi=>?_,?_,?_⟩,by simp [intOf];omega⟩
       . have hne : (⟨go,i,none⟩ : Addr).block ≠ g:=fun e=>hg3 e.symm;exact aG (.inl hne) (aG (.inl hne) (aG (.inl hne) (cell_later Hb.out (Yf.out i hi))))
       . have hne : g ≠ w8.heap.size:=by omega
         exact ((Hs.out.anU _ hne _).anU _ hne _).anU _ hne _
       . exact ((jh.out.setCell hg1 _).setCell hg1 _).setCell hg1 _
     . obtain rfl : j = n:=by omega
       have jS : (∀ a b,a < j -> b < j -> bT R a b = if iB (k + 1) 0 a b then F a b * G else F a b):=by
        intro a b ha hb;rw [hRe a b ha hb];have : iB k j a b ↔ iB (k + 1) 0 a b:=by unfold iB;omega
        by_cases h : iB k j a b
        . rw [if_pos h,if_pos (this.1 h)]
        . rw [if_neg h,if_neg (fun h2=>h (this.2 h2))]
       have hres : (∃ k' R,k' <= j /\ k' = k + 1 /\ R.length = j /\ (∀ r ∈ R,r.length = j) /\ (∀ a b,a < j -> b < j -> bT R a b = if iB k' 0 a b then F a b * G else F a b) /\ fe wr w5.heap.size j R j (.slice (some ⟨go,0,none⟩) j cv) /\ (∀ i,i < j -> wr.cell? ⟨go,i,none⟩ = some (.slice (some ⟨(gI i).1,0,none⟩) j (gI i).2)) /\ ai wr w8.heap.size 30 [.bool (au (dN G)),.string (bs (nt (dN G).natAbs)),.int .i64 (dE G)] /\ Bw w5 wr):=⟨k + 1,R,by omega,rfl,oh,ol,jS,hO,hc,hs,pb⟩;have fD:=ah hres;clear hres jS oh ol hRe hO hc hs pb;go_wp2;go_roundw;case rel=>obtain ⟨k',R,h1,rfl,h⟩:=fD.out;exact ⟨k + 1,R,h1,by go_num,h⟩
       case measure=>simp [intOf];omega
  . obtain rfl : k = n:=by omega
    have hRf : R = mJ k P:=qN.out R oh ol (fun a b ha hb=>by rw [hRe a b ha hb,if_pos (by unfold iB;omega)]);subst hRf;have FU:=ah hO;have aR:=ah pb;clear hO hc hs pb oh ol hRe;have Hr:=ah (ji.out.below aR.out);have Hd:=ah (Gq.out.below aR.out);have Hb:=ah (aJ df.out aR.out);obtain ⟨r0,aj,r1,ar,r2,aF⟩:=Hr.out.g3;obtain ⟨d0,d1,d2⟩:=Hd.out.c3;go_wp2_with fail;refine (jF.out _ Hb.out).mono ?_;rintro e lH ⟨rfl,sW,ae⟩;clear r0 aj r1 ar r2 aF d0 d1 d2;replace Hr:=kB Hr ae;replace Hd:=kB Hd ae;obtain ⟨r0,aj,r1,ar,r2,aF⟩:=Hr.out.g3;obtain ⟨d0,d1,d2⟩:=Hd.out.c3;replace Hb:=az Hb ae;clear ae;have XC:=ah (FU.out.below sW);clear sW;have hzz:=df.out.size;have iE : w.heap.size < w5.heap.size:=Nat.lt_of_lt_of_le ji.out.lt (Nat.le_refl _);go_wp2;refine gq (fun ul=>ai ul w.heap.size 30 [.bool (au (dN (G * X))),.string (bs (nt (dN (G * X)).natAbs)),.int .i64 (dE (G * X))] /\ fe ul w5.heap.size k (mJ k P) k (.slice (some ⟨go,0,none⟩) k cv) /\ Bw w ul) ⟨((Hr.out.set 0 _).set 1 _).set 2 _,((XC.out.an4 iE _).an4 iE _).an4 iE _,((Hb.out.setCell zp _).setCell zp _).setCell zp _⟩ ?_;rintro ul ⟨afj,ae6,aeA⟩;obtain ⟨q0,q1,q2⟩:=afj.c3;obtain ⟨a9,c9,mh,Ej,Be⟩:=ae6.tbl (De _ _) (Df _ _);simp only [Value.slice.injEq,true_and] at mh;obtain ⟨rfl,rfl⟩:=mh;exact bodyPost_ret (v:=.tuple #[bJ (G * X),.slice (some ⟨go,0,none⟩) k cv,.int .i64 0]) (by simp [results,Tryz.results55,go_sem,q0,q1,q2]) rfl ⟨_,_,rfl,Ej,Be,aeA⟩
def qF (xs : List Raw) : Nat -> Dyadic:=fun b=>(xs.map aC).getD b 0
theorem MW (xs : List Raw) (k : Nat) (h : k < xs.length) : qF xs k = aC xs[k]:=by unfold qF;simp [List.getD_eq_getElem?_getD,h]
def nu (n : Nat) (p : Nat -> Nat -> Dyadic) (x : Nat -> Dyadic) (i : Nat) : List Dyadic:=wZ n p x i :: (List.range i).map fun a=>nE n p x (a + 1)
def oU (n : Nat) (p : Nat -> Nat -> Dyadic) (x : Nat -> Dyadic) : List Dyadic:=(List.range (n + 1)).map fun k=>nE n p x k
theorem ahH (n : Nat) (p : Nat -> Nat -> Dyadic) (x : Nat -> Dyadic) (i : Nat) : (nu n p x i).length = i + 1:=by simp [nu]
theorem ahI (n : Nat) (p : Nat -> Nat -> Dyadic) (x : Nat -> Dyadic) (i : Nat) : (nu n p x i ++ [nE n p x (i + 1)]).set 0 (wZ n p x i - nE n p x (i + 1)) = nu n p x (i + 1):=by unfold nu;rw [List.range_succ,List.map_append];rfl
theorem ahG (n : Nat) (hn : 1 <= n) (bY : n <= 4) (p : Nat -> Nat -> Dyadic) (x : Nat -> Dyadic) : nu n p x n = oU n p x:=by unfold nu oU;rw [WX n hn bY,List.range_succ_eq_map,List.map_cons,List.map_map];rfl
theorem VB {w : World} {b base n : Nat} {e : TypeId} {size : Nat} {xs : List Value} (h : ai w b e xs) (hb : base <= b) (hl : xs.length = n * size) (hn : n <= 1048576) : w.ownsRow base e size (.slice (some ⟨b,0,none⟩) n n) n xs:=
 ⟨hl,.inr ⟨b,n,xs.toArray,rfl,hb,h,Nat.le_refl _,by unfold maxLen;omega,by simpa using hl,by rw [<- hl];simp⟩⟩
theorem aY.an7 {w : World} {a : Option Addr} {T : List (List Dyadic)} {n : Nat} (h : aY w a (T.map fun r=>r.map canon)) (hl : T.length = n) (hr : ∀ r ∈ T,r.length = n) (k i : Nat) (hk : k < n) (hi : i < n) :
 ∃ b o br os cr,a = some ⟨b,o,none⟩ /\ w.cell? ⟨b,o + k,none⟩ = some (.slice (some ⟨br,os,none⟩) n cr) /\ bj w br (os + i * 3) [.bool (au (dN (bT T k i))),.string (bs (nt (dN (bT T k i)).natAbs)),.int .i64 (dE (bT T k i))]:=by
 have Ex : k < T.length:=by omega
 obtain ⟨b,o,a',c',h1,h2,h3⟩:=h.row k (by simpa using Ex);have e1 : (T.map fun r=>r.map canon)[k]'(by simpa using Ex) = T[k].map canon:=by simp
 have hlk:=hr _ (List.getElem_mem Ex);rw [e1] at h2 h3;rw [List.length_map,hlk] at h2;have hik : i < T[k].length:=by omega
 have e2 : bT T k i = T[k][i]:=by unfold bT;simp [List.getD_eq_getElem?_getD,Ex,hik]
 obtain ⟨br,os,e3,q0,q1,q2⟩:=h3.num i (by simpa using hik) (show (T[k].map canon)[i]'(by simpa using hik) = (au (dN (bT T k i)),nt (dN (bT T k i)).natAbs,dE (bT T k i)) by rw [e2];simp;rfl);subst e3;exact ⟨b,o,br,os,c',h1,h2,iM q0 q1 q2⟩
def Pe (w : World) (n : Nat) (p : Nat -> Nat -> Dyadic) (x : Nat -> Dyadic) (e : Ending) (w' : World) : Prop:=
 ∃ a' c',e = .returned (.tuple #[.slice a' (n + 1) c',.int .i64 0]) /\ n + 1 <= c' /\ At w' a' (dC (oU n p x)) /\ Bw w w'
theorem WY (a : Option Addr) (cap m : Nat) (rows : List (List Raw)) (B : Nat) (xa : Option Addr) (xc : Nat) (xs : List Raw) (w : World) (hm : m + 1 <= 4) (hr : Rw (m + 1) B rows) (hcap : m + 1 + 1 <= cap) (ha : aY w a rows) (hx : At w xa (xs.flatMap bD)) (hxl : xs.length = m + 1) (tL : ∀ x ∈ xs,Fit B x) (hB : B <= 200000) (hT : aB w) (h0 : kQ rows = 0) :
 Calls Tryz.prog 22 #[.slice a (m + 1 + 1) cap,.slice xa (m + 1) xc] w (Pe w (m + 1) (cF rows) (qF xs)):=by
 obtain ⟨n,hn⟩ : ∃ n,m + 1 = n:=⟨_,rfl⟩;obtain ⟨i0,hi,hz0,hz1,hz2⟩:=info_parts Tryz.anW;have hL:=hr.1;have hrow:=hr.2.1;have hfit:=hr.2.2;have kG:=fun W (hW : Bw w W)=>Uu a cap m rows B W hm hr hcap (ha.below hW) hB (hT.below hW) h0;have EN:=fun W (hW : Bw w W)=>yG a (m + 1 + 1) cap rows W hL zo (ha.below hW);rw [Ce hL hrow zo zo] at EN;have hps : ∀ a b,a <= m + 1 -> b < m + 1 -> Sm B (cF rows a b):=fun a b ha hb=>by rw [qo rows a b zo (by rw [hrow _ (List.getElem_mem _)];exact hb)];exact (hfit _ (List.getElem_mem _) _ (List.getElem_mem _)).2
 have xR : ∀ b,b < m + 1 -> Sm B (qF xs b):=fun b hb=>by rw [MW xs b zo];exact (tL _ (List.getElem_mem _)).2
 have h00 : 0 < rows.length:=by omega
 obtain ⟨b,o,a0,c0,hab,hc0,ir⟩:=ha.row 0 h00;have oI : rows[0].length = m + 1:=hrow _ (List.getElem_mem h00);have vF : ∀ x ∈ rows[0],Fit B x:=hfit _ (List.getElem_mem h00);obtain ⟨p0,vE⟩ : ∃ p0,rows[0] = p0:=⟨_,rfl⟩;rw [vE] at hc0 ir oI vF;have hp0 : ∀ k (h : k < p0.length),cF rows 0 k = aC p0[k]:=fun k h=>by subst vE;exact qo rows 0 k h00 h
 rw [oI,Nat.add_zero] at hc0;subst hab;obtain ⟨P,hP⟩ : ∃ P,cF rows = P:=⟨_,rfl⟩;rw [hP] at kG hps hp0 ⊢;obtain ⟨xf,Lc⟩ : ∃ xf,qF xs = xf:=⟨_,rfl⟩;have hxk : ∀ k (h : k < xs.length),xf k = aC xs[k]:=fun k h=>by rw [<- Lc];exact MW xs k h
 rw [Lc] at xR ⊢;have vL:=fun i k (hk : k <= m + 1)=>FH zo hm hps xR i k hk;have KX:=fun k (hk : k <= m + 1)=>MP zo hm hps xR k hk;have lW:=fun k i=>zU zo hm hps k i;have hwt:=fun i (hi : i < m + 1)=>MM (m + 1) zo hm P xf i hi;have hend:=ahG (m + 1) zo hm P xf;have mU:=IB (m + 1) P;have htl:=De (m + 1) P;have htr:=Df (m + 1) P;rw [hn] at kG EN hps xR hxl hc0 oI vL KX lW hwt hend mU htl htr ⊢;have bY : n <= 4:=by omega
 have dF : 1 <= n:=by omega
 have vS : b < w.heap.size:=World.block_lt_of_cell? w _ hc0;have vR:=kJ (n + 1) cap 0 0 (show some (⟨b,o,none⟩ : Addr) = some ⟨b,o,none⟩ from rfl) zo rfl;rw [Nat.zero_mul,Nat.add_zero] at vR;have Hi:=ah hi;have cO:=ah hz0;have cP:=ah hz1;have cE:=ah hz2;have jH:=ah kG;have Hva:=ah EN;have HT:=ah hT;have Hx:=ah hx;have Hxl:=ah hxl;have Hxf:=ah tL;have uO:=ah hxk;have mG:=ah hps;have aaw:=ah xR;have sw:=ah hc0;have iw:=ah ir;have GV:=ah oI;have GU:=ah vF;have GR:=ah hp0;have CU:=ah vL;have HwZ:=ah KX;have yQ:=ah lW;have OX:=ah hwt;have dK:=ah hend;have Ij:=ah mU;have zM:=ah htl;have kv:=ah htr;have zD:=ah vR;clear hi hz0 hz1 hz2 kG EN hT hx hxl tL hxk hps xR hc0 ir oI vF hp0 vL KX lW hwt hend mU htl htr vR hP Lc vE h00 ha hr hL hrow hfit h0 hn;have hnz : ((n : Int) == 0) = false:=by simp;omega
 have Hb : Hid (Bw w w):=Below.refl _ _;go_enter Tryz.func22,Tryz.ntmps22;go_wp2_with fail;refine (jH.out _ Hb.out).mono ?_;rintro e w1 ⟨a1,c1,rfl,hc1,ht1,ae⟩;have sG:=ah ht1;replace Hb:=az Hb ae;clear ae ht1;obtain ⟨dd,hdd⟩ : ∃ dd,kO (fg n P) * fg n P = dd:=⟨_,rfl⟩;have Yj:=ah hdd;rw [hdd];clear hdd;obtain ⟨W2,eZ⟩ : ∃ W2,(w1.alloc (.cells #[.bool (au (dN dd)),.string (bs (nt (dN dd).natAbs)),.int .i64 (dE dd)] 30)) = W2:=⟨_,rfl⟩;have ae : Bw w1 W2:=by rw [<- eZ];exact zl
 have Hd : Hid (ai W2 (w1.heap.size) 30 [.bool (au (dN dd)),.string (bs (nt (dN dd).natAbs)),.int .i64 (dE dd)]):=by rw [<- eZ];exact ai.newAt _ _ _ zm
 obtain ⟨d0,d1,d2⟩:=Hd.out.c3;replace Hb:=az Hb ae;clear ae;have HA : Hid (aY W2 a1 ((mJ n P).map fun r=>r.map canon)):=sG.out.below (by first | exact zl | (rw [<- eZ];exact zl));clear sG;go_wp2_with fail;refine (Hva.out _ Hb.out).mono ?_;rintro e w3 ⟨rfl,ae⟩;clear d0 d1 d2;replace Hd:=kB Hd ae;replace HA:=kL HA ae;obtain ⟨d0,d1,d2⟩:=Hd.out.c3;replace Hb:=az Hb ae;clear ae;have Gq:=Hd;have FK:=HA;have df:=Hb;have P0:=d0;have P1:=d1;have P2:=d2;have ae4 : ((n : Int) != (n : Int) + 1 - 1) = false:=by simp
 have agA:=Hd.out.lt;obtain ⟨W4,eP⟩ : ∃ W4,(w3.alloc (.cells #[.bool (au (dN dd)),.string (bs (nt (dN dd).natAbs)),.int .i64 (dE dd)] 30)) = W4:=⟨_,rfl⟩;have ae : Bw w3 W4:=by rw [<- eP];exact zl
 clear d0 d1 d2;replace Hd:=kB Hd ae;replace HA:=kL HA ae;have Hq : Hid (ai W4 (w3.heap.size) 30 [.bool (au (dN dd)),.string (bs (nt (dN dd).natAbs)),.int .i64 (dE dd)]):=by rw [<- eP];exact ai.newAt _ _ _ zm
 obtain ⟨d0,d1,d2⟩:=Hd.out.c3;obtain ⟨q0,q1,q2⟩:=Hq.out.c3;replace Hb:=az Hb ae;clear ae;go_wp2_with fail;have hst : W4.ownsRow w3.heap.size 30 3 (.slice (some ⟨w3.heap.size,0,none⟩) 1 1) 1 (dC (nu n P xf 0)):=by
  have e : dC (nu n P xf 0) = [.bool (au (dN dd)),.string (bs (nt (dN dd).natAbs)),.int .i64 (dE dd)]:=by unfold nu wZ;rw [Yj.out];rfl
  rw [e];exact VB Hq.out (Nat.le_refl _) rfl zo
 have bX:=ah hst;have Nb : Hid (Bw w3 W4):=by rw [<- eP];exact zl
 clear hst P0 P1 P2 ae4 hnz;go_loopw [9,39] (fun s9 x wr=>∃ (i : Nat) (v : Value),i <= n /\ x = .int .i64 (i : Int) /\ v = s9 /\ wr.ownsRow w3.heap.size 30 3 v (i + 1) (dC (nu n P xf i)) /\ Bw w3 wr) (fun _ x _=>n - (intOf x).toNat);case atStart=>exact ⟨0,_,Nat.zero_le _,rfl,rfl,bX.out,Nb.out⟩
 case round=>
  clear bX Nb d0 d1 d2 q0 q1 q2 Hd Hq HA Hb;obtain ⟨i,v,hi,rfl,rfl,ho,pb⟩:=hrel;by_cases hlt : i < n
  . obtain ⟨wo,hwo⟩ : ∃ wo,wo = wr:=⟨_,rfl⟩;subst hwo;have hvl:=ho.lt;have Ho:=ah ho;have aR:=ah pb;have gN:=pb.size;have yC:=df.out.size;clear ho pb;have Hb : Hid (Bw wo wo):=Below.refl _ _;have pL : decide ((i : Int) < (n : Int)) = true:=by simp;omega
    obtain ⟨W5,kD⟩ : ∃ W5,(wo.alloc (.cells #[.bool false,.string ⟨#[]⟩,.int .i64 0] 30)) = W5:=⟨_,rfl⟩;have ae : Bw wo W5:=by rw [<- kD];exact zl
    have Hy : Hid (ai W5 (wo.heap.size) 30 [.bool false,.string ⟨#[]⟩,.int .i64 0]):=by rw [<- kD];exact ai.newAt _ _ _ zm
    obtain ⟨y0,aO,y1,aP,y2,aQ⟩:=Hy.out.g3;replace Hb:=az Hb ae;clear ae;have zQ:=Hy;have eX:=Hb;go_wp2_with fail;clear pL y0 aO y1 aP y2 aQ Hy Hb;go_loopw [45] (fun x wr=>∃ k : Nat,k <= n /\ x = .int .i64 (k : Int) /\ ai wr wo.heap.size 30 [.bool (au (dN (wS n P xf i k))),.string (bs (nt (dN (wS n P xf i k)).natAbs)),.int .i64 (dE (wS n P xf i k))] /\ Bw wo wr) (fun x _=>n - (intOf x).toNat);case atStart=>exact ⟨0,Nat.zero_le _,rfl,((zQ.out.set 0 _).set 1 _).set 2 _,((eX.out.setCell (Nat.le_refl _) _).setCell (Nat.le_refl _) _).setCell (Nat.le_refl _) _⟩
    case round=>
     clear zQ eX;obtain ⟨k,hk,rfl,hy,qb⟩:=hrel;by_cases bi : k < n
     . have Ka:=aJ aR.out qb;have sX:=aJ df.out Ka;have Ks : k < xs.length:=by rw [Hxl.out];exact bi
       have lD : k < p0.length:=by rw [GV.out];exact bi
       obtain ⟨sx,mx,ex,iG⟩ : ∃ s m e,xs[k] = (s,m,e):=⟨_,_,_,rfl⟩;obtain ⟨sp,mp,ep,hpe⟩ : ∃ s m e,p0[k] = (s,m,e):=⟨_,_,_,rfl⟩;have dO:=Hxf.out _ (List.getElem_mem Ks);have eJ:=GU.out _ (List.getElem_mem lD);rw [iG] at dO;rw [hpe] at eJ;obtain ⟨bx,ox,JX,x0,x1,x2⟩:=(Hx.out.below sX).num k Ks iG;obtain ⟨bp,op,AA,p1,p2,p3⟩:=(iw.out.below sX).num k lD hpe;obtain ⟨ba,oa,bq,oq,cq,Az,AE,hq⟩:=(FK.out.below Ka).an7 zM.out kv.out k i bi hlt;rw [Ij.out k i bi hlt] at hq;have Lj : bx < w.heap.size:=by subst JX;exact Hx.out.lt (by intro h0;have:=congrArg List.length h0;rw [jr bD 3 (fun _=>rfl)] at this;simp at this;omega)
       obtain ⟨D,hD⟩ : ∃ D,aC (sx,mx,ex) - aC (sp,mp,ep) = D:=⟨_,rfl⟩;have Jx : xf k - P 0 k = D:=by rw [uO.out k Ks,GR.out k lD,iG,hpe];exact hD
       obtain ⟨Q,hQ⟩ : ∃ Q,iR n P k i = Q:=⟨_,rfl⟩;obtain ⟨Z,hZ⟩ : ∃ Z,D * Q = Z:=⟨_,rfl⟩;obtain ⟨S0,lV⟩ : ∃ S0,wS n P xf i k = S0:=⟨_,rfl⟩;obtain ⟨S1,hS1⟩ : ∃ S1,wS n P xf i (k + 1) = S1:=⟨_,rfl⟩;have Ar : S0 + Z = S1:=by rw [<- hS1,<- hZ,<- Jx,<- hQ,<- lV];rfl
       have kC : Sm (B + 1) D:=by rw [<- Jx];exact Sm.sub (aaw.out k bi) (mG.out 0 k zo bi)
       have rp:=yQ.out k i;rw [hQ] at rp hq;have ve:=CU.out i k zo;rw [lV] at ve hy;have Ay : Sm (5 * B + 12) Z:=by rw [<- hZ];exact (Sm.mul kC rp).mono zo
       have CH : Hid (Fit (4 * B + 11) (canon D)):=(kC.mono zo).fit zo;have za : Hid (Fit (4 * B + 11) (canon Q)):=rp.fit zo;have ze : Hid (Fit (5 * B + 16) (canon S0)):=(ve.mono zo).fit zo;have sA : Hid (Fit (5 * B + 16) (canon Z)):=(Ay.mono zo).fit zo;have HZ : Hid (aC (canon D) * aC (canon Q) = Z):=by show _ = _;rw [bP,bP];exact hZ
       have FV : Hid (aC (canon S0) + aC (canon Z) = S1):=by show _ = _;rw [bP,bP];exact Ar
       have Uw:=mW n xc k (k : Int) JX bi rfl;have ixp:=mW n c0 k (k : Int) AA bi rfl;have Lh:=vO n c1 k (k : Int) Az bi rfl;rw [Nat.mul_one] at Lh;have ixq:=lF n cq i (i : Int) (rfl : (some ⟨bq,oq,none⟩ : Option Addr) = _) hlt rfl;have xU:=zD.out;have JK:=ah hS1;have HD:=ah hD;have gG:=ah dO;have kX:=ah eJ;have yP:=ah (HT.out.below sX);have Hy : Hid (ai wr wo.heap.size 30 [.bool (au (dN S0)),.string (bs (nt (dN S0).natAbs)),.int .i64 (dE S0)]):=hy;have jJ : Hid (bj wr bx (ox + k * 3) [.bool sx,.string (bs mx),.int .i64 ex]):=iM x0 x1 x2;have Hp : Hid (bj wr bp (op + k * 3) [.bool sp,.string (bs mp),.int .i64 ep]):=iM p1 p2 p3;have Hs : Hid (bj wr b o [.slice a0 n c0]):=fun j hj=>by
        obtain rfl : j = 0:=by simp at hj;omega
        exact cell_later sX sw.out
       have Hr : Hid (bj wr ba (oa + k) [.slice (some ⟨bq,oq,none⟩) n cq]):=fun j hj=>by
        obtain rfl : j = 0:=by simp at hj;omega
        exact AE
       have Hq : Hid (bj wr bq (oq + i * 3) [.bool (au (dN Q)),.string (bs (nt (dN Q).natAbs)),.int .i64 (dE Q)]):=hq;have ia:=ah qb;have MD:=qb.size;have Bi:=Hy.out.lt;clear x0 x1 x2 p1 p2 p3 AE hq hy iG hpe dO eJ JX AA Az hD Jx hQ hZ lV hS1 Ar kC rp ve Ay qb Ka sX;have Hb : Hid (Bw wr wr):=Below.refl _ _;go_wp2_with fail;obtain ⟨y0,aO,y1,aP,y2,aQ⟩:=Hy.out.g3;obtain ⟨gW,gX,gY⟩:=jJ.out.w3;obtain ⟨p0,p1,p2⟩:=Hp.out.w3;have s0:=Hs.out.w1;have r0:=Hr.out.w1;obtain ⟨q0,q1,q2⟩:=Hq.out.w3;have HU : Hid (aB wr):=yP.out;refine bE (fun w'=>w'.cell? ⟨wo.heap.size,0,none⟩ = some (.bool (au (dN S0))) /\ w'.cell? ⟨wo.heap.size,1,none⟩ = some (.string (bs (nt (dN S0).natAbs))) /\ w'.cell? ⟨wo.heap.size,2,none⟩ = some (.int .i64 (dE S0)) /\ w'.cell? ⟨bx,ox + k * 3,none⟩ = some (.bool sx) /\ w'.cell? ⟨bx,ox + k * 3 + 1,none⟩ = some (.string (bs mx)) /\ w'.cell? ⟨bx,ox + k * 3 + 2,none⟩ = some (.int .i64 ex) /\ w'.cell? ⟨bp,op + k * 3,none⟩ = some (.bool sp) /\ w'.cell? ⟨bp,op + k * 3 + 1,none⟩ = some (.string (bs mp)) /\ w'.cell? ⟨bp,op + k * 3 + 2,none⟩ = some (.int .i64 ep) /\ w'.cell? ⟨b,o,none⟩ = some (.slice a0 n c0) /\ w'.cell? ⟨ba,oa + k,none⟩ = some (.slice (some ⟨bq,oq,none⟩) n cq) /\ w'.cell? ⟨bq,oq + i * 3,none⟩ = some (.bool (au (dN Q))) /\ w'.cell? ⟨bq,oq + i * 3 + 1,none⟩ = some (.string (bs (nt (dN Q).natAbs))) /\ w'.cell? ⟨bq,oq + i * 3 + 2,none⟩ = some (.int .i64 (dE Q))) (fun i=>Nat.blt i 23) [(0,true),(1,true),(2,true),(3,true),(4,true),(5,true),(6,true),(7,true),(8,true),(9,true),(10,true),(12,true),(13,true),(14,true),(15,true),(16,true),(17,true),(18,true),(11,false),(19,false),(20,false),(21,false),(22,false),(23,false)] zk zk rfl zk zc ⟨y0,y1,y2,gW,gX,gY,p0,p1,p2,s0,r0,q0,q1,q2⟩ ?_;iterate 18 (refine pT rfl rfl ?_ (by intro w' ⟨q0,q1,q2,q3,q4,q5,q6,q7,q8,q9,ug,yr,yt,yu⟩;go_simp;try with_reducible rfl);try simp only [UU])
       refine aI rfl rfl (fun K hK=>?_);go_simp;with_reducible refine (xq sx mx ex sp mp ep D B HD.out _ gG.out kX.out zo (by first | exact HU.out | exact aB.drew HU.out | exact aB.alloc HU.out _ | exact aB.drew (aB.alloc HU.out _) | exact aB.alloc (aB.drew HU.out) _)).mono ?_
       rintro e w6 ⟨rfl,hq⟩;have ae : Bw wr w6:=by first | exact hq | exact aN hq
       clear y0 aO y1 aP y2 aQ gW gX gY p0 p1 p2 s0 r0 q0 q1 q2;replace Hy:=kB Hy ae;replace jJ:=kW jJ ae;replace Hp:=kW Hp ae;replace Hs:=kW Hs ae;replace Hr:=kW Hr ae;replace Hq:=kW Hq ae;replace HU:=kT HU ae;obtain ⟨y0,aO,y1,aP,y2,aQ⟩:=Hy.out.g3;obtain ⟨gW,gX,gY⟩:=jJ.out.w3;obtain ⟨p0,p1,p2⟩:=Hp.out.w3;have s0:=Hs.out.w1;have r0:=Hr.out.w1;obtain ⟨q0,q1,q2⟩:=Hq.out.w3;replace Hb:=az Hb ae;clear ae;refine hK _ _ (fun _=>⟨y0,y1,y2,gW,gX,gY,p0,p1,p2,s0,r0,q0,q1,q2⟩) ?_;clear hK K;try simp only [UU]
       refine aI rfl rfl (fun K hK=>?_);go_simp;refine hK _ _ (fun _=>⟨aH y0,aH y1,aH y2,aH gW,aH gX,aH gY,aH p0,aH p1,aH p2,aH s0,aH r0,aH q0,aH q1,aH q2⟩) ?_;clear hK K;try simp only [UU]
       refine bG (fun W7=>ai W7 (w6.heap.size) 30 [.bool (au (dN D)),.string (bs (nt (dN D).natAbs)),.int .i64 (dE D),.bool (au (dN Q)),.string (bs (nt (dN Q).natAbs)),.int .i64 (dE Q)] /\ Bw w6 W7) (by first | exact dP | exact dQ) ?_;rintro W7 ⟨qe,ae⟩;clear y0 aO y1 aP y2 aQ gW gX gY p0 p1 p2 s0 r0 q0 q1 q2;have anh:=Hy.out.lt;replace Hy:=kB Hy ae;replace jJ:=kW jJ ae;replace Hp:=kW Hp ae;replace Hs:=kW Hs ae;replace Hr:=kW Hr ae;replace Hq:=kW Hq ae;replace HU:=kT HU ae;have He:=ah qe;clear qe;obtain ⟨y0,aO,y1,aP,y2,aQ⟩:=Hy.out.g3;obtain ⟨gW,gX,gY⟩:=jJ.out.w3;obtain ⟨p0,p1,p2⟩:=Hp.out.w3;have s0:=Hs.out.w1;have r0:=Hr.out.w1;obtain ⟨q0,q1,q2⟩:=Hq.out.w3;obtain ⟨e0,e1,e2,e3,e4,e5⟩:=He.out.c6;replace Hb:=az Hb ae;clear ae;refine aI rfl rfl (fun K hK=>?_);go_simp;with_reducible refine (xp _ _ _ _ _ _ Z (4 * B + 11) HZ.out w6.heap.size _ 30 _ CH.out za.out zo He.out (by first | exact HU.out | exact aB.drew HU.out | exact aB.alloc HU.out _ | exact aB.drew (aB.alloc HU.out _) | exact aB.alloc (aB.drew HU.out) _)).mono ?_
       rintro e w8 ⟨rfl,hq⟩;have ae : Bw W7 w8:=by first | exact hq | exact aN hq
       clear y0 aO y1 aP y2 aQ gW gX gY p0 p1 p2 s0 r0 q0 q1 q2 e0 e1 e2 e3 e4 e5;replace Hy:=kB Hy ae;replace jJ:=kW jJ ae;replace Hp:=kW Hp ae;replace Hs:=kW Hs ae;replace Hr:=kW Hr ae;replace Hq:=kW Hq ae;replace HU:=kT HU ae;replace He:=kB He ae;obtain ⟨y0,aO,y1,aP,y2,aQ⟩:=Hy.out.g3;obtain ⟨gW,gX,gY⟩:=jJ.out.w3;obtain ⟨p0,p1,p2⟩:=Hp.out.w3;have s0:=Hs.out.w1;have r0:=Hr.out.w1;obtain ⟨q0,q1,q2⟩:=Hq.out.w3;obtain ⟨e0,e1,e2,e3,e4,e5⟩:=He.out.c6;replace Hb:=az Hb ae;clear ae;refine hK _ _ (fun _=>⟨y0,y1,y2,gW,gX,gY,p0,p1,p2,s0,r0,q0,q1,q2⟩) ?_;clear hK K;try simp only [UU]
       refine aI rfl rfl (fun K hK=>?_);go_simp;refine hK _ _ (fun _=>⟨aH y0,aH y1,aH y2,aH gW,aH gX,aH gY,aH p0,aH p1,aH p2,aH s0,aH r0,aH q0,aH q1,aH q2⟩) ?_;clear hK K;try simp only [UU]
       refine bG (fun W9=>ai W9 (w8.heap.size) 30 [.bool (au (dN S0)),.string (bs (nt (dN S0).natAbs)),.int .i64 (dE S0),.bool (au (dN Z)),.string (bs (nt (dN Z).natAbs)),.int .i64 (dE Z)] /\ Bw w8 W9) (by first | exact dP | exact dQ) ?_;rintro W9 ⟨qf,ae⟩;clear y0 aO y1 aP y2 aQ gW gX gY p0 p1 p2 s0 r0 q0 q1 q2 e0 e1 e2 e3 e4 e5;have agK:=Hy.out.lt;have amA:=He.out.lt;replace Hy:=kB Hy ae;replace jJ:=kW jJ ae;replace Hp:=kW Hp ae;replace Hs:=kW Hs ae;replace Hr:=kW Hr ae;replace Hq:=kW Hq ae;replace HU:=kT HU ae;replace He:=kB He ae;have Hf:=ah qf;clear qf;obtain ⟨y0,aO,y1,aP,y2,aQ⟩:=Hy.out.g3;obtain ⟨gW,gX,gY⟩:=jJ.out.w3;obtain ⟨p0,p1,p2⟩:=Hp.out.w3;have s0:=Hs.out.w1;have r0:=Hr.out.w1;obtain ⟨q0,q1,q2⟩:=Hq.out.w3;obtain ⟨e0,e1,e2,e3,e4,e5⟩:=He.out.c6;obtain ⟨f0,f1,f2,f3,f4,f5⟩:=Hf.out.c6;replace Hb:=az Hb ae;clear ae;refine aI rfl rfl (fun K hK=>?_);go_simp;with_reducible refine (Ab _ _ _ _ _ _ S1 (5 * B + 16) FV.out w8.heap.size _ 30 _ ze.out sA.out zo Hf.out (by first | exact HU.out | exact aB.drew HU.out | exact aB.alloc HU.out _ | exact aB.drew (aB.alloc HU.out _) | exact aB.alloc (aB.drew HU.out) _)).mono ?_
       rintro e dX ⟨rfl,hq⟩;have ae : Bw W9 dX:=by first | exact hq | exact aN hq
       clear y0 aO y1 aP y2 aQ gW gX gY p0 p1 p2 s0 r0 q0 q1 q2 e0 e1 e2 e3 e4 e5 f0 f1 f2 f3 f4 f5;replace Hy:=kB Hy ae;replace jJ:=kW jJ ae;replace Hp:=kW Hp ae;replace Hs:=kW Hs ae;replace Hr:=kW Hr ae;replace Hq:=kW Hq ae;replace HU:=kT HU ae;replace He:=kB He ae;replace Hf:=kB Hf ae;obtain ⟨y0,aO,y1,aP,y2,aQ⟩:=Hy.out.g3;obtain ⟨gW,gX,gY⟩:=jJ.out.w3;obtain ⟨p0,p1,p2⟩:=Hp.out.w3;have s0:=Hs.out.w1;have r0:=Hr.out.w1;obtain ⟨q0,q1,q2⟩:=Hq.out.w3;obtain ⟨e0,e1,e2,e3,e4,e5⟩:=He.out.c6;obtain ⟨f0,f1,f2,f3,f4,f5⟩:=Hf.out.c6;replace Hb:=az Hb ae;clear ae;refine hK _ _ (fun _=>⟨y0,y1,y2,gW,gX,gY,p0,p1,p2,s0,r0,q0,q1,q2⟩) ?_;clear hK K;try simp only [UU]
       refine aI rfl rfl (fun K hK=>?_);go_simp;refine hK _ _ (by first | exact fun h=>absurd h zd | exact fun _=>⟨y0,y1,y2,gW,gX,gY,p0,p1,p2,s0,r0,q0,q1,q2⟩ | exact fun _=>⟨(by first | exact y0 | exact aG zf y0 | exact aG zf (aG zf y0) | exact aG zf (aG zf (aG zf y0))),(by first | exact y1 | exact aG zf y1 | exact aG zf (aG zf y1) | exact aG zf (aG zf (aG zf y1))),(by first | exact y2 | exact aG zf y2 | exact aG zf (aG zf y2) | exact aG zf (aG zf (aG zf y2))),(by first | exact gW | exact aG zf gW | exact aG zf (aG zf gW) | exact aG zf (aG zf (aG zf gW))),(by first | exact gX | exact aG zf gX | exact aG zf (aG zf gX) | exact aG zf (aG zf (aG zf gX))),(by first | exact gY | exact aG zf gY | exact aG zf (aG zf gY) | exact aG zf (aG zf (aG zf gY))),(by first | exact p0 | exact aG zf p0 | exact aG zf (aG zf p0) | exact aG zf (aG zf (aG zf p0))),(by first | exact p1 | exact aG zf p1 | exact aG zf (aG zf p1) | exact aG zf (aG zf (aG zf p1))),(by first | exact p2 | exact aG zf p2 | exact aG zf (aG zf p2) | exact aG zf (aG zf (aG zf p2))),(by first | exact s0 | exact aG zf s0 | exact aG zf (aG zf s0) | exact aG zf (aG zf (aG zf s0))),(by first | exact r0 | exact aG zf r0 | exact aG zf (aG zf r0) | exact aG zf (aG zf (aG zf r0))),(by first | exact q0 | exact aG zf q0 | exact aG zf (aG zf q0) | exact aG zf (aG zf (aG zf q0))),(by first | exact q1 | exact aG zf q1 | exact aG zf (aG zf q1) | exact aG zf (aG zf (aG zf q1))),(by first | exact q2 | exact aG zf q2 | exact aG zf (aG zf q2) | exact aG zf (aG zf (aG zf q2)))⟩) ?_;clear hK K;try simp only [UU]
       simp only [aV];have Sa:=aJ ia.out Hb.out;have uy:=ah Sa;clear Sa;go_wp2;refine ⟨⟨k + 1,by omega,by go_num,?_,?_⟩,by simp [intOf];omega⟩
       . rw [JK.out];exact ((Hy.out.set 0 _).set 1 _).set 2 _
       . exact ((uy.out.setCell (Nat.le_refl _) _).setCell (Nat.le_refl _) _).setCell (Nat.le_refl _) _
     . obtain rfl : k = n:=by omega
       rw [OX.out i hlt] at hy;obtain ⟨T,hTe⟩ : ∃ T,nE k P xf (i + 1) = T:=⟨_,rfl⟩;have hTs:=CU.out i k (Nat.le_refl _);rw [OX.out i hlt,hTe] at hTs;rw [hTe] at hy;obtain ⟨Y,hY⟩ : ∃ Y,wZ k P xf i - T = Y:=⟨_,rfl⟩;have hnx:=ahI k P xf i;rw [hTe,hY] at hnx;have zh : Hid (Fit (5 * B + 20) (canon T)):=(hTs.mono zo).fit zo;have sA : Hid (Fit (5 * B + 20) (canon (wZ k P xf i))):=((HwZ.out i zo).mono zo).fit zo;have HY : Hid (aC (canon (wZ k P xf i)) - aC (canon T) = Y):=by show _ = _;rw [bP,bP];exact hY
       obtain ⟨O,hO⟩ : ∃ O,nu k P xf i = O:=⟨_,rfl⟩;obtain ⟨W0,hW0⟩ : ∃ W0,wZ k P xf i = W0:=⟨_,rfl⟩;have QZ : ∃ O',O = W0 :: O':=⟨_,by rw [<- hO,<- hW0];rfl⟩;rw [hO] at hnx;have hov:=ownsRow_below Ho.out qb;rw [hO] at hov;rw [hW0] at sA HY;replace HY : Hid (aC (au (dN W0),nt (dN W0).natAbs,dE W0) - aC (au (dN T),nt (dN T).natAbs,dE T) = Y):=by show _ = _;have h:=HY.out;exact h
       replace sA : Hid (Fit (5 * B + 20) (au (dN W0),nt (dN W0).natAbs,dE W0)):=sA;replace zh : Hid (Fit (5 * B + 20) (au (dN T),nt (dN T).natAbs,dE T)):=zh;have Rb : O.length = i + 1:=by rw [<- hO];exact ahH _ _ _ _
       have Hy : Hid (ai wr wo.heap.size 30 [.bool (au (dN T)),.string (bs (nt (dN T).natAbs)),.int .i64 (dE T)]):=hy;have cw:=ah hov;have ia:=ah qb;have qT:=ah hnx;have XB:=ah QZ;have HOl:=ah Rb;have yP:=ah (HT.out.below (aJ df.out (aJ aR.out qb)));have MD:=qb.size;have hvb : ∀ g,v.ownBlock = some g -> g < wo.heap.size:=fun g e=>(hvl g e).2;clear hy hov qb hnx QZ Rb hTs hTe hY hO hW0 Ho hvl;have Hb : Hid (Bw wr wr):=Below.refl _ _;have Bi:=Hy.out.lt;obtain ⟨y0,y1,y2⟩:=Hy.out.c3;have P0:=y0;have P1:=y1;have P2:=y2;have UV:=Hy.out.lt;obtain ⟨W6,eQ⟩ : ∃ W6,(wr.alloc (.cells #[.bool (au (dN T)),.string (bs (nt (dN T).natAbs)),.int .i64 (dE T)] 30)) = W6:=⟨_,rfl⟩;have ae : Bw wr W6:=by rw [<- eQ];exact zl
       clear y0 y1 y2;replace Hy:=kB Hy ae;have Hc : Hid (ai W6 (wr.heap.size) 30 [.bool (au (dN T)),.string (bs (nt (dN T).natAbs)),.int .i64 (dE T)]):=by rw [<- eQ];exact ai.newAt _ _ _ zm
       obtain ⟨y0,y1,y2⟩:=Hy.out.c3;obtain ⟨c0,c1,c2⟩:=Hc.out.c3;replace Hb:=az Hb ae;clear ae;have cK:=ownsRow_below cw.out Hb.out;have iW:=Hb.out.size;go_wp2_with (at_builtin;refine wpList_append_own_at _ rfl _ _ 45 rfl w3.heap.size 30 i0 _ 3 32 Tryz.underlying45 Hi.out cO.out cP.out cE.out rfl zd v (i + 1) (dC O) rfl cK ⟨wr.heap.size,0,none⟩ 1 1 [.bool (au (dN T)),.string (bs (nt (dN T).natAbs)),.int .i64 (dE T)] rfl rfl (gb Hc.out) zy zx zo zo ?_;intro v' w7 dx eT _ fO;obtain ⟨g',mL,rfl⟩:=ownsRow_succ dx);have aeP : g' ≠ wo.heap.size:=by
        rcases fO with h | h
        . have:=hvb g' h.symm;omega
        . have h9 : g' = W6.heap.size:=Option.some.inj h;omega
       have tH : some wo.heap.size ≠ v.ownBlock:=fun e=>by have:=hvb _ e.symm;omega
       have Bh:=Hy.out.grown eT tH;have gw:=(aJ (aJ aR.out ia.out) Hb.out).grown eT zo (fun j e=>cL cK j e);have e7 : dC O ++ [.bool (au (dN T)),.string (bs (nt (dN T).natAbs)),.int .i64 (dE T)] = dC (O ++ [T]):=by rw [xm];rfl
       rw [e7] at dx
       have hwo:=(by
        obtain ⟨O',hO'⟩:=XB.out;obtain ⟨aa,ca,mh,sQ,_⟩:=dA dx;simp only [Value.slice.injEq,true_and] at mh;obtain ⟨rfl,rfl⟩:=mh;rw [sN] at sQ;obtain ⟨b9,o9,e9,z0,z1,z2⟩:=sQ.num 0 zm (show ((O ++ [T]).map canon)[0]'zm = (au (dN W0),nt (dN W0).natAbs,dE W0) by simp [hO'];rfl);simp only [Option.some.injEq,Addr.mk.injEq,and_true] at e9;obtain ⟨rfl,rfl⟩:=e9;rw [Nat.zero_mul,Nat.zero_add] at z0 z1 z2
        exact iM z0 z1 z2 : bj w7 g' 0 [.bool (au (dN W0)),.string (bs (nt (dN W0).natAbs)),.int .i64 (dE W0)])
       have Ki:=wu dx;have uF:=ah dx;have uw:=ah gw;have Ho : Hid (bj w7 g' 0 [.bool (au (dN W0)),.string (bs (nt (dN W0).natAbs)),.int .i64 (dE W0)]):=hwo;have FZ:=ah (HT.out.below (aJ df.out gw));replace Hy : Hid (ai w7 wo.heap.size 30 [.bool (au (dN T)),.string (bs (nt (dN T).natAbs)),.int .i64 (dE T)]):=Bh;clear P0 P1 P2 y0 y1 y2 c0 c1 c2 dx gw hwo Bh fO tH e7 Hb Hc cK eT cw yP;have Hb : Hid (Bw w7 w7):=Below.refl _ _;have Li:=lF (i + 1 + 1) mL 0 0 (rfl : (some ⟨g',0,none⟩ : Option Addr) = _) zo rfl;rw [Nat.zero_mul,Nat.add_zero] at Li;have o0 : w7.cell? ⟨g',0,none⟩ = some (.bool (au (dN W0))):=Ho.out.cell 0 zm;have o1 : w7.cell? ⟨g',1,none⟩ = some (.string (bs (nt (dN W0).natAbs))):=Ho.out.cell 1 zm;have o2 : w7.cell? ⟨g',2,none⟩ = some (.int .i64 (dE W0)):=Ho.out.cell 2 zm;obtain ⟨y0,y1,y2⟩:=Hy.out.c3;have HU : Hid (aB w7):=FZ.out;refine bE (fun w'=>w'.cell? ⟨g',0,none⟩ = some (.bool (au (dN W0))) /\ w'.cell? ⟨g',1,none⟩ = some (.string (bs (nt (dN W0).natAbs))) /\ w'.cell? ⟨g',2,none⟩ = some (.int .i64 (dE W0)) /\ w'.cell? ⟨wo.heap.size,0,none⟩ = some (.bool (au (dN T))) /\ w'.cell? ⟨wo.heap.size,1,none⟩ = some (.string (bs (nt (dN T).natAbs))) /\ w'.cell? ⟨wo.heap.size,2,none⟩ = some (.int .i64 (dE T))) (fun i=>Nat.blt i 7) [(0,true),(1,true),(2,true),(3,true),(4,true),(5,false),(6,true),(7,false)] zk zk rfl zk zc ⟨o0,o1,o2,y0,y1,y2⟩ ?_;iterate 5 (refine pT rfl rfl ?_ (by intro w' ⟨q0,q1,q2,q3,q4,q5⟩;go_simp;try with_reducible rfl);try simp only [UU])
       refine aI rfl rfl (fun K hK=>?_);go_simp;with_reducible refine (xq (au (dN W0)) (nt (dN W0).natAbs) (dE W0) (au (dN T)) (nt (dN T).natAbs) (dE T) Y (5 * B + 20) HY.out _ sA.out zh.out zo (by first | exact HU.out | exact aB.drew HU.out | exact aB.alloc HU.out _ | exact aB.drew (aB.alloc HU.out _) | exact aB.alloc (aB.drew HU.out) _)).mono ?_
       rintro e w8 ⟨rfl,hq⟩;have ae : Bw w7 w8:=by first | exact hq | exact aN hq
       clear o0 o1 o2 y0 y1 y2;replace Ho:=kW Ho ae;replace Hy:=kB Hy ae;replace HU:=kT HU ae;have o0 : w8.cell? ⟨g',0,none⟩ = some (.bool (au (dN W0))):=Ho.out.cell 0 zm;have o1 : w8.cell? ⟨g',1,none⟩ = some (.string (bs (nt (dN W0).natAbs))):=Ho.out.cell 1 zm;have o2 : w8.cell? ⟨g',2,none⟩ = some (.int .i64 (dE W0)):=Ho.out.cell 2 zm;obtain ⟨y0,y1,y2⟩:=Hy.out.c3;replace Hb:=az Hb ae;clear ae;refine hK _ _ (fun _=>⟨o0,o1,o2,y0,y1,y2⟩) ?_;clear hK K;try simp only [UU]
       refine pT rfl rfl ?_;try simp only [UU]
       refine aI rfl rfl (fun K hK=>?_);have dG:=ownsRow_below uF.out Hb.out;have mO:=kM dG 0;have lv:=kM dG 1;have DL:=kM dG 2;have fM:=aJ uw.out Hb.out;have gp:=ah dG;have gF:=ah fM;clear dG fM;go_simp;refine hK _ _ (fun h=>absurd h zd) ?_;clear hK K;try simp only [UU]
       simp only [aV];go_wp2;go_roundw;case rel=>
        refine ⟨i + 1,_,by omega,by go_num,rfl,?_,?_⟩
        . have h:=PY (O ++ [T]) 0 Y;rw [qT.out] at h;rw [<- h];exact iJ (iJ (iJ gp.out _ _) _ _) _ _
        . exact ((gF.out.setCell Ki.1 _).setCell Ki.1 _).setCell Ki.1 _
       case measure=>simp [intOf];omega
  . obtain rfl : i = n:=by omega
    rw [dK.out] at ho;have ho':=ah ho;have aR:=ah (aJ df.out pb);clear ho pb;go_wp2;obtain ⟨a',c',e1,h1,h2⟩:=dA ho'.out;subst e1;have hcc : i + 1 <= c':=by
     rcases ho'.out.2 with ⟨h,h0⟩ | ⟨g9,ab5,acG,h,_,_,h6,_⟩
     . omega
     . simp only [Value.slice.injEq,true_and] at h;omega
    exact bodyPost_ret (v:=.tuple #[.slice a' (i + 1) c',.int .i64 0]) (by simp [results,Tryz.results22,go_sem]) rfl ⟨a',c',rfl,hcc,h1,aR.out⟩
def pY (ds : List Dyadic) : Bool:=ds.all fun d=>decide (0 <= bM d)
theorem ahp (D : List Dyadic) (k : Nat) (hk : k < D.length) (h : pY (D.take k) = true) (h2 : 0 <= bM D[k]) : pY (D.take (k + 1)) = true:=by unfold pY at h ⊢;rw [List.take_add_one,List.all_append,h];simp [hk,h2]
theorem aho (D : List Dyadic) (k : Nat) (hk : k < D.length) (h2 : ¬ 0 <= bM D[k]) : pY D = false:=by unfold pY;rw [Bool.eq_false_iff];intro h;have:=List.all_eq_true.1 h _ (List.getElem_mem hk);simp at this;exact h2 this
theorem aez (s x : Value) (D : List Dyadic) (B : Nat) (c : Int) (w : World) (hD : ∀ d ∈ D,Sm B d) (hB : B <= 268435456) (hD6 : D.length <= 60) (hw : ∀ W,Bw w W -> Calls Tryz.prog 22 #[s,x] W fun e w'=>∃ a' c',e = .returned (.tuple #[.slice a' D.length c',.int .i64 c]) /\ At w' a' (dC D) /\ Bw W w') :
 Calls Tryz.prog 26 #[s,x] w fun e w'=>e = .returned (.bool (pY D && c == 0)) /\ Bw w w':=by
 obtain ⟨N,hN⟩ : ∃ N,D.length = N:=⟨_,rfl⟩;rw [hN] at hw hD6;have Hw:=ah hw;have HN:=ah hN;have HD:=ah hD;clear hw hN hD;have Hb : Hid (Bw w w):=Below.refl _ _;go_enter Tryz.func26,Tryz.ntmps26;go_wp2_with fail;refine (Hw.out _ Hb.out).mono ?_;rintro e w1 ⟨a1,c1,rfl,hat,ae⟩;have fu:=ah hat;have bI:=ah (aJ Hb.out ae);clear ae hat Hb;go_wp2_with fail;go_loopw [17] (fun u wr=>∃ k : Nat,k <= N /\ u = .int .i64 (k : Int) /\ pY (D.take k) = true /\ Bw w1 wr) (fun u _=>N - (intOf u).toNat);case atStart=>exact ⟨0,Nat.zero_le _,rfl,rfl,Below.refl _ _⟩
 case round=>
  obtain ⟨k,hk,rfl,pn,pb⟩:=hrel;have lf:=ah pn;have aR:=ah pb;clear pn;by_cases hlt : k < N
  . have Kw : k < D.length:=by rw [HN.out];exact hlt
    have SY : k < (D.map canon).length:=by rw [List.length_map];exact Kw
    obtain ⟨d,hd⟩ : ∃ d,D[k] = d:=⟨_,rfl⟩;have hat':=fu.out.below pb;rw [sN] at hat';obtain ⟨bx,ox,rfl,p0,p1,p2⟩:=hat'.num k SY (show (D.map canon)[k] = (au (dN d),nt (dN d).natAbs,dE d) by rw [<- hd];simp;rfl);have Uw:=lF N c1 k (k : Int) (rfl : (some ⟨bx,ox,none⟩ : Option Addr) = _) hlt rfl;have gJ : ∀ W,Calls Tryz.prog 37 #[.agg #[.bool (au (dN d)),.string (bs (nt (dN d).natAbs)),.int .i64 (dE d)]] W fun ex w'=>ex = .returned (.int .i64 (bM d)) /\ Bw W w':=fun W=>lT _ _ _ (bM d) (by show bM (aC (canon d)) = _;rw [bP]) W ((HD.out d (by rw [<- hd];exact List.getElem_mem _)).ok hB);have Hd:=ah hd;have jI:=ah gJ;obtain ⟨g,hg⟩ : ∃ g,bM d = g:=⟨_,rfl⟩;rw [hg] at jI;have Hg:=ah hg;have Lj : bx < wr.heap.size:=World.block_lt_of_cell? wr _ p0;have Hb : Hid (Bw wr wr):=Below.refl _ _;clear hd gJ hg pb hat' SY;have P0:=p0;have P1:=p1;have P2:=p2;obtain ⟨W2,eZ⟩ : ∃ W2,(wr.alloc (.cells #[.bool (au (dN d)),.string (bs (nt (dN d).natAbs)),.int .i64 (dE d)] 30)) = W2:=⟨_,rfl⟩;have ae : Bw wr W2:=by rw [<- eZ];exact zl
    have Hy : Hid (ai W2 (wr.heap.size) 30 [.bool (au (dN d)),.string (bs (nt (dN d).natAbs)),.int .i64 (dE d)]):=by rw [<- eZ];exact ai.newAt _ _ _ zm
    obtain ⟨y0,y1,y2⟩:=Hy.out.c3;replace Hb:=az Hb ae;clear ae;go_wp2_with fail;refine (jI.out _).mono ?_;rintro e w3 ⟨rfl,ae⟩;clear y0 y1 y2;replace Hy:=kB Hy ae;obtain ⟨y0,y1,y2⟩:=Hy.out.c3;replace Hb:=az Hb ae;clear ae;have dD:=ah (aJ aR.out Hb.out);by_cases Kj : g < 0
    . go_wp2;go_ret;refine ⟨by rw [aho D k Kw (by rw [Hd.out,Hg.out];omega)];rfl,aJ bI.out dD.out⟩
    . go_wp2;go_roundw;case rel=>exact ⟨k + 1,by omega,by go_num,ahp D k Kw lf.out (by rw [Hd.out,Hg.out];omega),dD.out⟩
      case measure=>simp [intOf];omega
  . obtain rfl : k = N:=by omega
    have hall : pY D = true:=by have:=lf.out;rwa [<- HN.out,List.take_length] at this
    have uv:=ah hall;clear hall pb;go_wp2;go_ret;exact ⟨by rw [uv.out];rfl,aJ bI.out aR.out⟩
theorem akC {n B : Nat} {p : Nat -> Nat -> Dyadic} {x : Nat -> Dyadic} (hn : 1 <= n) (bY : n <= 4) (h : ∀ a b,a <= n -> b < n -> Sm B (p a b)) (hx : ∀ b,b < n -> Sm B (x b)) : ∀ d ∈ oU n p x,Sm (5 * B + 20) d:=by
 intro d hd;unfold oU at hd;obtain ⟨i,hi,rfl⟩:=List.mem_map.1 hd;rw [List.mem_range] at hi;rcases i with _ | i
 . rw [<- WX n hn bY];exact (MP hn bY h hx n (Nat.le_refl _)).mono zo
 . exact (Xc hn bY h hx i zo).mono zo
theorem VL {n B : Nat} {rows : List (List Raw)} (hr : Rw n B rows) (a b : Nat) (ha : a <= n) (hb : b < n) : Sm B (cF rows a b):=by have hL:=hr.1;rw [qo rows a b zo (by rw [hr.2.1 _ (List.getElem_mem _)];exact hb)];exact (hr.2.2 _ (List.getElem_mem _) _ (List.getElem_mem _)).2
theorem akE {n B : Nat} {xs : List Raw} (hxl : xs.length = n) (tL : ∀ x ∈ xs,Fit B x) (b : Nat) (hb : b < n) : Sm B (qF xs b):=by rw [MW xs b zo];exact (tL _ (List.getElem_mem _)).2
theorem aey (a : Option Addr) (cap m : Nat) (rows : List (List Raw)) (B : Nat) (xa : Option Addr) (xc : Nat) (xs : List Raw) (w : World) (hm : m + 1 <= 4) (hr : Rw (m + 1) B rows) (hcap : m + 1 + 1 <= cap) (ha : aY w a rows) (hx : At w xa (xs.flatMap bD)) (hxl : xs.length = m + 1) (tL : ∀ x ∈ xs,Fit B x) (hB : B <= 200000) (hT : aB w) (h0 : kQ rows = 0) :
 Calls Tryz.prog 26 #[.slice a (m + 1 + 1) cap,.slice xa (m + 1) xc] w fun e w'=>e = .returned (.bool (pY (oU (m + 1) (cF rows) (qF xs)))) /\ Bw w w':=by
 have h:=aez (.slice a (m + 1 + 1) cap) (.slice xa (m + 1) xc) (oU (m + 1) (cF rows) (qF xs)) (5 * B + 20) 0 w (akC zo hm (VL hr) (akE hxl tL)) zo (by simp [oU];omega) (fun W hW=>by
  refine (WY a cap m rows B xa xc xs W hm hr hcap (ha.below hW) (hx.below hW) hxl tL hB (hT.below hW) h0).mono ?_;rintro e w1 ⟨a1,c1,rfl,hc1,ht1,ae⟩
  exact ⟨a1,c1,by simp [oU],ht1,ae⟩)
 simpa using h
end Go.Proofs.YtdaadlblknpipaaGreatDoor
