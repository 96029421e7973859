/- Package nat: Div,by any number above 0;package whole: Div,where it goes up. -/
import Derived.Test.YtbkopgdpcijfbaaGreatDoorZ7
import Derived.Test.YtbkopgdpcijfbaaGreatDoorZ8
import Derived.Test.YtbkopgdpcijfbaaGreatDoorZ6
set_option linter.all false
set_option maxRecDepth 100000
set_option maxHeartbeats 16000000
namespace Go.Proofs.YtbkopgdpcijfbaaGreatDoor
open Go.RowKit
def awT (l m:List UInt8)(w:World)(hl:l.length<=68719476736)(hm:m.length<=68719476736)(hlt:nv l<nv m):
 Cv 278 #[ah l,ah m] w (.tuple #[.string (bs []),ah (nt (nv l)),ag true]):=by
 have h1:=λW=>oC l W zo;have h2:=λW=>oC m W zo;have JC:=OQ (show 0<nv m by omega);have Ou:=jM (Mo l);have Ov:=jM (Mo m);have nW:=eU (nv l);have yc:=eU (nv m);obtain⟨X,hX⟩:=aB (nv l);obtain⟨Y,hY⟩:=aB (nv m);rw[hX]at h1 hlt Ou nW⊢;rw[hY]at h2 hlt Ov yc JC;obtain⟨lx,Cs⟩:=aB (ln X);obtain⟨ly,Ct⟩:=aB (ln Y);obtain⟨cx,lT⟩:=aB ((l.length+7)/8);obtain⟨cy,Ae⟩:=aB ((m.length+7)/8);rw[Cs]at h1 Ou nW;rw[Ct]at h2 Ov yc JC;rw[lT]at h1 Ou;rw[Ae]at h2 Ov;have atG:cx<=8589934593:=by omega
 have NT:cy<=8589934593:=by omega
 have nZ:dx X Y= -1:=by unfold dx;rw[if_pos hlt]
 obtain⟨H1,H2,Lx,Qm⟩:=dv h1 h2 nW yc;clear h1 h2 nW yc hX hY Cs Ct lT Ae hlt;have aua:((ly:Int)==0)=false:=by simp;omega
 go_enter Tryz.func278,Tryz.ntmps278;go_wp2_with fail;refine(H1.out w).mono ?_;rintro e w1 ⟨rfl,bP,hb1,gj⟩;obtain⟨dK,cj⟩:=aK bP hb1;clear bP hb1;go_wp2_with fail;refine(H2.out w1).mono ?_;rintro e w2 ⟨rfl,dF,hb2,EF⟩;obtain⟨fw,cX⟩:=aK dF (aI cj.out hb2);replace dK:=aj (dK.out.below hb2);clear dF hb2;go_wp2_with fail;refine(CF w.heap.size 0 lx cx X w1.heap.size 0 ly cy Y w2 zo gj (dK.out.lim _ gj) Lx.out zo EF (fw.out.lim _ EF) Qm.out).mono ?_;rintro e w3 ⟨rfl,hb3⟩;replace dK:=aj (dK.out.below hb3);have fV:=aj (aI cX.out hb3);clear hb3;rw[nZ];go_wp2_with fail;refine(Ba w.heap.size 0 lx cx X w3 zo gj (dK.out.lim _ gj) Lx.out).mono ?_;rintro e w4 ⟨rfl,hb4⟩;have vQ:=aj (aI fV.out hb4);clear hb4;go_wp2;refine bodyPost_ret (v:=.tuple #[.string (bs []),ah (nt X),ag true]) (by simp[results,Tryz.results278,go_sem];rfl) rfl ⟨rfl,vQ.out⟩
def ahW (l m:List UInt8)(w:World)(hl:l.length<=68719476736)(hm:m.length<=68719476736)(hm0:0<nv m):
 Cv 278 #[ah l,ah m] w (.tuple #[ah (nt (nv l/nv m)),ah (nt (nv l%nv m)),ag true]):=by
 rcases Nat.lt_or_ge (nv l) (nv m)with h|h
 . have:=awT l m w hl hm h;rw[Nat.div_eq_of_lt h,Nat.mod_eq_of_lt h,AP];exact this
 . exact awR l m w hl hm hm0 h
def acB (s t:Bool)(l m:List UInt8)(hm:0<nv m)(hd:nv l%nv m=0):iv s l/iv t m=if s=t then iv false (nt (nv l/nv m))else-iv false (nt (nv l/nv m)):=by
 obtain⟨q,hq⟩:=Nat.dvd_of_mod_eq_zero hd;have e:nv l/nv m=q:=by rw[hq];exact Nat.mul_div_cancel_left _ hm
 have jX:(nv m:Int)≠0:=by omega
 rw[e,vB];unfold iv;rw[hq];simp only[Bool.false_eq_true,if_false,Int.natCast_mul];cases s<;>cases t<;>simp only[Bool.false_eq_true,if_false,if_true,reduceCtorEq]
 . exact Int.mul_ediv_cancel_left _ jX
 . rw[Int.ediv_neg,Int.mul_ediv_cancel_left _ jX]
 . rw[Int.neg_ediv_of_dvd ⟨_,rfl⟩,Int.mul_ediv_cancel_left _ jX]
 . rw[Int.ediv_neg,Int.neg_ediv_of_dvd ⟨_,rfl⟩,Int.mul_ediv_cancel_left _ jX,Int.neg_neg]
def aA8 (s t:Bool)(l m:List UInt8)(w:World)(hl:l.length<=34359738368)(hm:m.length<=34359738368)(hm0:0<nv m)(hd:nv l%nv m=0):
 Cl 228 #[.agg #[ag s,ah l],.agg #[ag t,ah m]] w λe w'=>∃r,e=.returned (.tuple #[cd (iv s l/iv t m),r,ag true])/\Bw w w':=by
 have h1:=λW=>ahW l m W zo zo hm0;have hq:=acB s t l m hm0 hd;have hlen:(nt (nv l/nv m)).length<=34359738368:=by obtain⟨B,hB⟩:=aB (34359738368);rw[hB]at hl⊢;exact oz (Nat.lt_of_le_of_lt (Nat.div_le_self _ _) (Nat.lt_of_lt_of_le (jH l) (Nat.pow_le_pow_right zd hl)))
 rw[hd,AP]at h1;obtain⟨Q,hQ⟩:=aB (nt (nv l/nv m));rw[hQ]at h1 hq hlen;obtain⟨N,hN⟩:=aB (iv s l/iv t m);rw[hN]at hq⊢;obtain⟨H1,HQ⟩:=aK h1 hq;have UV:(bs []).toList.isEmpty=true:=by rw[vZ];rfl
 clear h1 hq hQ hN hd hm0;cases s with
 | false=>
   cases t with
   | false=>
     have hN:=HQ.out;rw[if_pos rfl]at hN;have HN:=aj hN;clear hN;obtain⟨W,cE,ae,ak⟩:=AV w 28 [ag false,ah l] 28 [ag false,ah m] 28 [ag false,.string ⟨#[]⟩] 28 [ag false,.string ⟨#[]⟩];go_enter Tryz.func228,Tryz.ntmps228;go_wp2_with fail;refine aJ ae (H1.out _) λw1 ae ak=>?_;go_wp2_with fail;first|refine dA (λiy=>∃dS,aV w1 (w.heap.size+1+1) 0 [ag false,ah Q] dS/\aV dS (w.heap.size+1+1+1) 0 [ag false,.string (bs [])] iy) ⟨_,aX,aX⟩ ?_|refine dV (λiy=>∃dS,aV w1 (w.heap.size+1+1) 0 [ag false,ah Q] dS/\aV dS (w.heap.size+1+1+1) 0 [ag false,.string (bs [])] iy) ⟨_,aX,aX⟩ ?_
     rintro w2 ⟨_,hs0,hs1⟩;have ae:=bU hs1 (bU hs0 ae);simp only[bV,List.set]at ae;have ak:=qC ae;have hF:=λW=>xm false Q W (Nat.le_trans hlen zd);rw[<-HN.out]at hF;have HF:=aj hF;clear hF;obtain⟨Hb,Ha,Hc,Hq,Hr,_⟩:=ae;obtain⟨a0,a1⟩:=Ha.out.c2;obtain⟨c0,c1⟩:=Hc.out.c2;obtain⟨q0,gp,q1,gq⟩:=Hq.out.g2;obtain⟨r0,aO,r1,aQ⟩:=Hr.out.g2;refine fh (λw'=>aH w' (w.heap.size+1+1+1) 0 (ag false)/\aH w' (w.heap.size+1+1+1) 1 (.string (bs []))) (λi=>Nat.blt i 4) [(2,true),(0,false),(1,false),(3,false),(4,false),(5,false)] zk zk rfl zk zc ⟨r0,r1⟩ ?_;refine pT rfl rfl ?_ (by intro w' ⟨q0,q1⟩;go_simp;try with_reducible rfl)
     refine aM rfl rfl (λK hK=>?_);go_simp;refine hK _ _ (λ_=>⟨r0,r1⟩) ?_
     refine aM rfl rfl (λK hK=>?_);go_simp;with_reducible refine(HF.out _).mono ?_
     rintro e w5 ⟨rfl,hq⟩;have ai:Bw w2 w5:=by first|exact hq|exact cu hq
     obtain⟨Ha,a0,a1⟩:=eH Ha ai;obtain⟨Hc,c0,c1⟩:=eH Hc ai;obtain⟨Hq,q0,gp,q1,gq⟩:=dt Hq ai;obtain⟨Hr,r0,aO,r1,aQ⟩:=dt Hr ai;replace Hb:=aW Hb ai;refine hK _ _ (λ_=>⟨r0,r1⟩) ?_
     refine aM rfl rfl (λK hK=>?_);go_simp;refine hK _ _ (λ_=>⟨(aF zf (aF zf r0)),(aF zf (aF zf r1))⟩) ?_
     refine cB (aV w5 (w.heap.size+1+1) 0 [ag (az N),ah (nt N.natAbs)]) aX ?_;intro w6 hs;replace Ha:=kS Ha hs zo;replace Hc:=kS Hc hs zo;replace Hq:=jJ Hq hs;replace Hr:=kS Hr hs zo;obtain⟨a0,a1⟩:=Ha.out.c2;obtain⟨c0,c1⟩:=Hc.out.c2;obtain⟨q0,gp,q1,gq⟩:=Hq.out.g2;obtain⟨r0,aO,r1,aQ⟩:=Hr.out.g2;replace Hb:=bS Hb hs ZS;clear hs;refine aM rfl rfl (λK hK=>?_);go_simp;refine hK _ _ (λh=>absurd h zd) ?_
     refine cB (aV w6 (w.heap.size+1+1+1) 0 [ag false,.string (bs [])]) aX ?_;intro w7 hs;replace Ha:=kS Ha hs zo;replace Hc:=kS Hc hs zo;replace Hq:=kS Hq hs zo;replace Hr:=jJ Hr hs;obtain⟨a0,a1⟩:=Ha.out.c2;obtain⟨c0,c1⟩:=Hc.out.c2;obtain⟨q0,gp,q1,gq⟩:=Hq.out.g2;obtain⟨r0,aO,r1,aQ⟩:=Hr.out.g2;replace Hb:=bS Hb hs ZS;clear hs;refine aM rfl rfl (λK hK=>?_);go_simp;refine hK _ _ (λh=>absurd h zd) ?_
     simp only[bH];go_wp2;refine bodyPost_ret (v:=.tuple #[cd N,.agg #[ag false,.string (bs [])],ag true]) (by simp[results,Tryz.results228,go_sem,q0,q1,r0,r1]) rfl ⟨_,rfl,Hb.out⟩
   | true=>
     have hN:=HQ.out;rw[if_neg zd]at hN;have HN:=aj hN;clear hN;obtain⟨W,cE,ae,ak⟩:=AV w 28 [ag false,ah l] 28 [ag true,ah m] 28 [ag false,.string ⟨#[]⟩] 28 [ag false,.string ⟨#[]⟩];go_enter Tryz.func228,Tryz.ntmps228;go_wp2_with fail;refine aJ ae (H1.out _) λw1 ae ak=>?_;go_wp2_with fail;first|refine dA (λiy=>∃dS,aV w1 (w.heap.size+1+1) 0 [ag false,ah Q] dS/\aV dS (w.heap.size+1+1+1) 0 [ag false,.string (bs [])] iy) ⟨_,aX,aX⟩ ?_|refine dV (λiy=>∃dS,aV w1 (w.heap.size+1+1) 0 [ag false,ah Q] dS/\aV dS (w.heap.size+1+1+1) 0 [ag false,.string (bs [])] iy) ⟨_,aX,aX⟩ ?_
     rintro w2 ⟨_,hs0,hs1⟩;have ae:=bU hs1 (bU hs0 ae);simp only[bV,List.set]at ae;have ak:=qC ae;have hG:=λW=>FJ false Q N HN.out.symm W (Nat.le_trans hlen zd);have hF:=λW=>xm (az N) (nt N.natAbs) W (by rw[HN.out];exact Nat.le_trans (Fh false Q 34359738368 hlen) zd);have e:iv (az N) (nt N.natAbs)=N:=dH N;rw[e]at hF;obtain⟨HG,HF⟩:=aK hG hF;clear hG hF e;go_wp2_with fail;refine aJ ae (HG.out _) λw3 ae ak=>?_;go_wp2_with fail;first|refine dA (aV w3 (w.heap.size+1+1) 0 [ag (az N),ah (nt N.natAbs)]) aX ?_|refine dV (aV w3 (w.heap.size+1+1) 0 [ag (az N),ah (nt N.natAbs)]) aX ?_
     intro w4 hs0;have ae:=bU hs0 ae;simp only[bV,List.set]at ae;have ak:=qC ae;obtain⟨Hb,Ha,Hc,Hq,Hr,_⟩:=ae;obtain⟨a0,a1⟩:=Ha.out.c2;obtain⟨c0,c1⟩:=Hc.out.c2;obtain⟨q0,gp,q1,gq⟩:=Hq.out.g2;obtain⟨r0,aO,r1,aQ⟩:=Hr.out.g2;refine fh (λw'=>aH w' (w.heap.size+1+1+1) 0 (ag false)/\aH w' (w.heap.size+1+1+1) 1 (.string (bs []))) (λi=>Nat.blt i 4) [(2,true),(0,false),(1,false),(3,false),(4,false),(5,false)] zk zk rfl zk zc ⟨r0,r1⟩ ?_;refine pT rfl rfl ?_ (by intro w' ⟨q0,q1⟩;go_simp;try with_reducible rfl)
     refine aM rfl rfl (λK hK=>?_);go_simp;refine hK _ _ (λ_=>⟨r0,r1⟩) ?_
     refine aM rfl rfl (λK hK=>?_);go_simp;with_reducible refine(HF.out _).mono ?_
     rintro e w5 ⟨rfl,hq⟩;have ai:Bw w4 w5:=by first|exact hq|exact cu hq
     obtain⟨Ha,a0,a1⟩:=eH Ha ai;obtain⟨Hc,c0,c1⟩:=eH Hc ai;obtain⟨Hq,q0,gp,q1,gq⟩:=dt Hq ai;obtain⟨Hr,r0,aO,r1,aQ⟩:=dt Hr ai;replace Hb:=aW Hb ai;refine hK _ _ (λ_=>⟨r0,r1⟩) ?_
     refine aM rfl rfl (λK hK=>?_);go_simp;refine hK _ _ (λ_=>⟨(aF zf (aF zf r0)),(aF zf (aF zf r1))⟩) ?_
     refine cB (aV w5 (w.heap.size+1+1) 0 [ag (az N),ah (nt N.natAbs)]) aX ?_;intro w6 hs;replace Ha:=kS Ha hs zo;replace Hc:=kS Hc hs zo;replace Hq:=jJ Hq hs;replace Hr:=kS Hr hs zo;obtain⟨a0,a1⟩:=Ha.out.c2;obtain⟨c0,c1⟩:=Hc.out.c2;obtain⟨q0,gp,q1,gq⟩:=Hq.out.g2;obtain⟨r0,aO,r1,aQ⟩:=Hr.out.g2;replace Hb:=bS Hb hs ZS;clear hs;refine aM rfl rfl (λK hK=>?_);go_simp;refine hK _ _ (λh=>absurd h zd) ?_
     refine cB (aV w6 (w.heap.size+1+1+1) 0 [ag false,.string (bs [])]) aX ?_;intro w7 hs;replace Ha:=kS Ha hs zo;replace Hc:=kS Hc hs zo;replace Hq:=kS Hq hs zo;replace Hr:=jJ Hr hs;obtain⟨a0,a1⟩:=Ha.out.c2;obtain⟨c0,c1⟩:=Hc.out.c2;obtain⟨q0,gp,q1,gq⟩:=Hq.out.g2;obtain⟨r0,aO,r1,aQ⟩:=Hr.out.g2;replace Hb:=bS Hb hs ZS;clear hs;refine aM rfl rfl (λK hK=>?_);go_simp;refine hK _ _ (λh=>absurd h zd) ?_
     simp only[bH];go_wp2;refine bodyPost_ret (v:=.tuple #[cd N,.agg #[ag false,.string (bs [])],ag true]) (by simp[results,Tryz.results228,go_sem,q0,q1,r0,r1]) rfl ⟨_,rfl,Hb.out⟩
 | true=>
   cases t with
   | false=>
     have hN:=HQ.out;rw[if_neg zd]at hN;have HN:=aj hN;clear hN;obtain⟨W,cE,ae,ak⟩:=AV w 28 [ag true,ah l] 28 [ag false,ah m] 28 [ag false,.string ⟨#[]⟩] 28 [ag false,.string ⟨#[]⟩];go_enter Tryz.func228,Tryz.ntmps228;go_wp2_with fail;refine aJ ae (H1.out _) λw1 ae ak=>?_;go_wp2_with fail;first|refine dA (λiy=>∃dS,aV w1 (w.heap.size+1+1) 0 [ag false,ah Q] dS/\aV dS (w.heap.size+1+1+1) 0 [ag false,.string (bs [])] iy) ⟨_,aX,aX⟩ ?_|refine dV (λiy=>∃dS,aV w1 (w.heap.size+1+1) 0 [ag false,ah Q] dS/\aV dS (w.heap.size+1+1+1) 0 [ag false,.string (bs [])] iy) ⟨_,aX,aX⟩ ?_
     rintro w2 ⟨_,hs0,hs1⟩;have ae:=bU hs1 (bU hs0 ae);simp only[bV,List.set]at ae;have ak:=qC ae;have hG:=λW=>FJ false Q N HN.out.symm W (Nat.le_trans hlen zd);have hF:=λW=>xm (az N) (nt N.natAbs) W (by rw[HN.out];exact Nat.le_trans (Fh false Q 34359738368 hlen) zd);have e:iv (az N) (nt N.natAbs)=N:=dH N;rw[e]at hF;obtain⟨HG,HF⟩:=aK hG hF;clear hG hF e;go_wp2_with fail;refine aJ ae (HG.out _) λw3 ae ak=>?_;go_wp2_with fail;first|refine dA (aV w3 (w.heap.size+1+1) 0 [ag (az N),ah (nt N.natAbs)]) aX ?_|refine dV (aV w3 (w.heap.size+1+1) 0 [ag (az N),ah (nt N.natAbs)]) aX ?_
     intro w4 hs0;have ae:=bU hs0 ae;simp only[bV,List.set]at ae;have ak:=qC ae;obtain⟨Hb,Ha,Hc,Hq,Hr,_⟩:=ae;obtain⟨a0,a1⟩:=Ha.out.c2;obtain⟨c0,c1⟩:=Hc.out.c2;obtain⟨q0,gp,q1,gq⟩:=Hq.out.g2;obtain⟨r0,aO,r1,aQ⟩:=Hr.out.g2;refine fh (λw'=>aH w' (w.heap.size+1+1+1) 0 (ag false)/\aH w' (w.heap.size+1+1+1) 1 (.string (bs []))) (λi=>Nat.blt i 4) [(2,true),(0,false),(1,false),(3,false),(4,false),(5,false)] zk zk rfl zk zc ⟨r0,r1⟩ ?_;refine pT rfl rfl ?_ (by intro w' ⟨q0,q1⟩;go_simp;try with_reducible rfl)
     refine aM rfl rfl (λK hK=>?_);go_simp;refine hK _ _ (λ_=>⟨r0,r1⟩) ?_
     refine aM rfl rfl (λK hK=>?_);go_simp;with_reducible refine(HF.out _).mono ?_
     rintro e w5 ⟨rfl,hq⟩;have ai:Bw w4 w5:=by first|exact hq|exact cu hq
     obtain⟨Ha,a0,a1⟩:=eH Ha ai;obtain⟨Hc,c0,c1⟩:=eH Hc ai;obtain⟨Hq,q0,gp,q1,gq⟩:=dt Hq ai;obtain⟨Hr,r0,aO,r1,aQ⟩:=dt Hr ai;replace Hb:=aW Hb ai;refine hK _ _ (λ_=>⟨r0,r1⟩) ?_
     refine aM rfl rfl (λK hK=>?_);go_simp;refine hK _ _ (λ_=>⟨(aF zf (aF zf r0)),(aF zf (aF zf r1))⟩) ?_
     refine cB (aV w5 (w.heap.size+1+1) 0 [ag (az N),ah (nt N.natAbs)]) aX ?_;intro w6 hs;replace Ha:=kS Ha hs zo;replace Hc:=kS Hc hs zo;replace Hq:=jJ Hq hs;replace Hr:=kS Hr hs zo;obtain⟨a0,a1⟩:=Ha.out.c2;obtain⟨c0,c1⟩:=Hc.out.c2;obtain⟨q0,gp,q1,gq⟩:=Hq.out.g2;obtain⟨r0,aO,r1,aQ⟩:=Hr.out.g2;replace Hb:=bS Hb hs ZS;clear hs;refine aM rfl rfl (λK hK=>?_);go_simp;refine hK _ _ (λh=>absurd h zd) ?_
     refine cB (aV w6 (w.heap.size+1+1+1) 0 [ag false,.string (bs [])]) aX ?_;intro w7 hs;replace Ha:=kS Ha hs zo;replace Hc:=kS Hc hs zo;replace Hq:=kS Hq hs zo;replace Hr:=jJ Hr hs;obtain⟨a0,a1⟩:=Ha.out.c2;obtain⟨c0,c1⟩:=Hc.out.c2;obtain⟨q0,gp,q1,gq⟩:=Hq.out.g2;obtain⟨r0,aO,r1,aQ⟩:=Hr.out.g2;replace Hb:=bS Hb hs ZS;clear hs;refine aM rfl rfl (λK hK=>?_);go_simp;refine hK _ _ (λh=>absurd h zd) ?_
     simp only[bH];go_wp2;refine bodyPost_ret (v:=.tuple #[cd N,.agg #[ag false,.string (bs [])],ag true]) (by simp[results,Tryz.results228,go_sem,q0,q1,r0,r1]) rfl ⟨_,rfl,Hb.out⟩
   | true=>
     have hN:=HQ.out;rw[if_pos rfl]at hN;have HN:=aj hN;clear hN;obtain⟨W,cE,ae,ak⟩:=AV w 28 [ag true,ah l] 28 [ag true,ah m] 28 [ag false,.string ⟨#[]⟩] 28 [ag false,.string ⟨#[]⟩];go_enter Tryz.func228,Tryz.ntmps228;go_wp2_with fail;refine aJ ae (H1.out _) λw1 ae ak=>?_;go_wp2_with fail;first|refine dA (λiy=>∃dS,aV w1 (w.heap.size+1+1) 0 [ag false,ah Q] dS/\aV dS (w.heap.size+1+1+1) 0 [ag false,.string (bs [])] iy) ⟨_,aX,aX⟩ ?_|refine dV (λiy=>∃dS,aV w1 (w.heap.size+1+1) 0 [ag false,ah Q] dS/\aV dS (w.heap.size+1+1+1) 0 [ag false,.string (bs [])] iy) ⟨_,aX,aX⟩ ?_
     rintro w2 ⟨_,hs0,hs1⟩;have ae:=bU hs1 (bU hs0 ae);simp only[bV,List.set]at ae;have ak:=qC ae;have hF:=λW=>xm false Q W (Nat.le_trans hlen zd);rw[<-HN.out]at hF;have HF:=aj hF;clear hF;obtain⟨Hb,Ha,Hc,Hq,Hr,_⟩:=ae;obtain⟨a0,a1⟩:=Ha.out.c2;obtain⟨c0,c1⟩:=Hc.out.c2;obtain⟨q0,gp,q1,gq⟩:=Hq.out.g2;obtain⟨r0,aO,r1,aQ⟩:=Hr.out.g2;refine fh (λw'=>aH w' (w.heap.size+1+1+1) 0 (ag false)/\aH w' (w.heap.size+1+1+1) 1 (.string (bs []))) (λi=>Nat.blt i 4) [(2,true),(0,false),(1,false),(3,false),(4,false),(5,false)] zk zk rfl zk zc ⟨r0,r1⟩ ?_;refine pT rfl rfl ?_ (by intro w' ⟨q0,q1⟩;go_simp;try with_reducible rfl)
     refine aM rfl rfl (λK hK=>?_);go_simp;refine hK _ _ (λ_=>⟨r0,r1⟩) ?_
     refine aM rfl rfl (λK hK=>?_);go_simp;with_reducible refine(HF.out _).mono ?_
     rintro e w5 ⟨rfl,hq⟩;have ai:Bw w2 w5:=by first|exact hq|exact cu hq
     obtain⟨Ha,a0,a1⟩:=eH Ha ai;obtain⟨Hc,c0,c1⟩:=eH Hc ai;obtain⟨Hq,q0,gp,q1,gq⟩:=dt Hq ai;obtain⟨Hr,r0,aO,r1,aQ⟩:=dt Hr ai;replace Hb:=aW Hb ai;refine hK _ _ (λ_=>⟨r0,r1⟩) ?_
     refine aM rfl rfl (λK hK=>?_);go_simp;refine hK _ _ (λ_=>⟨(aF zf (aF zf r0)),(aF zf (aF zf r1))⟩) ?_
     refine cB (aV w5 (w.heap.size+1+1) 0 [ag (az N),ah (nt N.natAbs)]) aX ?_;intro w6 hs;replace Ha:=kS Ha hs zo;replace Hc:=kS Hc hs zo;replace Hq:=jJ Hq hs;replace Hr:=kS Hr hs zo;obtain⟨a0,a1⟩:=Ha.out.c2;obtain⟨c0,c1⟩:=Hc.out.c2;obtain⟨q0,gp,q1,gq⟩:=Hq.out.g2;obtain⟨r0,aO,r1,aQ⟩:=Hr.out.g2;replace Hb:=bS Hb hs ZS;clear hs;refine aM rfl rfl (λK hK=>?_);go_simp;refine hK _ _ (λh=>absurd h zd) ?_
     refine cB (aV w6 (w.heap.size+1+1+1) 0 [ag false,.string (bs [])]) aX ?_;intro w7 hs;replace Ha:=kS Ha hs zo;replace Hc:=kS Hc hs zo;replace Hq:=kS Hq hs zo;replace Hr:=jJ Hr hs;obtain⟨a0,a1⟩:=Ha.out.c2;obtain⟨c0,c1⟩:=Hc.out.c2;obtain⟨q0,gp,q1,gq⟩:=Hq.out.g2;obtain⟨r0,aO,r1,aQ⟩:=Hr.out.g2;replace Hb:=bS Hb hs ZS;clear hs;refine aM rfl rfl (λK hK=>?_);go_simp;refine hK _ _ (λh=>absurd h zd) ?_
     simp only[bH];go_wp2;refine bodyPost_ret (v:=.tuple #[cd N,.agg #[ag false,.string (bs [])],ag true]) (by simp[results,Tryz.results228,go_sem,q0,q1,r0,r1]) rfl ⟨_,rfl,Hb.out⟩
end Go.Proofs.YtbkopgdpcijfbaaGreatDoor
namespace Go.Proofs.YtbkopgdpcijfbaaGreatDoor
open Go.RowKit
attribute [local go_sem ↓] Go.wp_at_zero Go.wp_at_succ
def arC (a b:Nat)(hb:0<b)(h:a%b≠0):(-(a:Int))/(b:Int)= -(((a/b:Nat):Int)+1):=by
 have h1:(a:Int)=(b:Int) * ((a/b:Nat):Int)+((a%b:Nat):Int):=by have:=Nat.div_add_mod a b;exact_mod_cast this.symm
 have h2:a%b<b:=Nat.mod_lt _ hb;have h3: -(a:Int)=((b:Int)-((a%b:Nat):Int))+(b:Int) * (-(((a/b:Nat):Int)+1)):=by rw[h1,Int.mul_neg,Int.mul_add,Int.mul_one];omega
 rw[h3,Int.add_mul_ediv_left _ _ zo,Int.ediv_eq_zero_of_lt zo zo];omega
def aA6 (s:Bool)(l m:List UInt8)(w:World)(sF:l.length<=1000000)(jX:m.length<=1000000)(hm0:0<nv m):
 Cl 228 #[.agg #[ag s,ah l],.agg #[ag false,ah m]] w λe w'=>∃rb rl,e=.returned (.tuple #[cd (iv s l/iv false m),.agg #[ag rb,ah rl],ag true])/\Bw w w':=by
 have h1:=λW=>ahW l m W zo zo hm0;obtain⟨K,hK⟩:=aB (1000000);have hl:=sF;have hm:=jX;rw[hK]at hl hm;have hB:∀k,k<256^K->(nt k).length<=K:=λk hk=>oz hk;have hlt:nv l<256^K:=Nat.lt_of_lt_of_le (jH l) (Nat.pow_le_pow_right zd hl);have aft:nv m<256^K:=Nat.lt_of_lt_of_le (jH m) (Nat.pow_le_pow_right zd hm);have hlen:=hB (nv l/nv m) (Nat.lt_of_le_of_lt (Nat.div_le_self _ _) hlt);have afp:=hB (nv l%nv m) (Nat.lt_trans (Nat.mod_lt _ hm0) aft);have hnil:nt (nv l%nv m)=[]->nv l%nv m=0:=λh=>by have:=jP (nv l%nv m);rw[h]at this;exact this.symm
 have rG:iv s l/iv false m=if s then(if nt (nv l%nv m)=[]then-iv false (nt (nv l/nv m))else-(iv false (nt (nv l/nv m))+1))else iv false (nt (nv l/nv m)):=by
  cases s with
  |false=>simp only[Bool.false_eq_true,if_false];rw[vB];unfold iv;simp only[Bool.false_eq_true,if_false];exact(Int.natCast_ediv _ _).symm
  | true=>
    simp only[if_true];by_cases h:nt (nv l%nv m)=[]
    . rw[if_pos h,acB true false l m hm0 (hnil h),if_neg zd]
    . rw[if_neg h,vB];unfold iv;simp only[if_true,Bool.false_eq_true,if_false];exact arC _ _ hm0 (λh0=>h (by rw[h0];exact AP))
 rw[<-hK]at hlen afp;clear hlt aft hB hnil hm0 hl hm hK K;generalize nt (nv l/nv m)=Q at*;generalize nt (nv l%nv m)=R at*;obtain⟨N,hN⟩:=aB (iv s l/iv false m);rw[hN]at rG⊢;obtain⟨H1,HQ⟩:=aK h1 rG;clear h1 rG hN;cases s with
 | false=>
   have hN:=HQ.out;rw[if_neg zd]at hN;have HN:=aj hN;clear hN;obtain⟨W,cE,ae,ak⟩:=AV w 28 [ag false,ah l] 28 [ag false,ah m] 28 [ag false,.string ⟨#[]⟩] 28 [ag false,.string ⟨#[]⟩];go_enter Tryz.func228,Tryz.ntmps228;go_wp2_with fail;refine aJ ae (H1.out _) λw1 ae ak=>?_;go_wp2_with fail;first|refine dA (λiy=>∃dS,aV w1 (w.heap.size+1+1) 0 [ag false,ah Q] dS/\aV dS (w.heap.size+1+1+1) 0 [ag false,ah R] iy) ⟨_,aX,aX⟩ ?_|refine dV (λiy=>∃dS,aV w1 (w.heap.size+1+1) 0 [ag false,ah Q] dS/\aV dS (w.heap.size+1+1+1) 0 [ag false,ah R] iy) ⟨_,aX,aX⟩ ?_
   rintro w2 ⟨_,hs0,hs1⟩;have ae:=bU hs1 (bU hs0 ae);simp only[bV,List.set]at ae;have ak:=qC ae;have hF:=λW=>xm false Q W (Nat.le_trans hlen zd);rw[<-HN.out]at hF;have HF:=aj hF;clear hF;obtain⟨Hb,Ha,Hc,Hq,Hr,_⟩:=ae;obtain⟨a0,a1⟩:=Ha.out.c2;obtain⟨c0,c1⟩:=Hc.out.c2;obtain⟨q0,gp,q1,gq⟩:=Hq.out.g2;obtain⟨r0,aO,r1,aQ⟩:=Hr.out.g2;refine fh (λw'=>aH w' (w.heap.size+1+1+1) 0 (ag false)/\aH w' (w.heap.size+1+1+1) 1 (ah R)) (λi=>Nat.blt i 4) [(2,true),(0,false),(1,false),(3,false),(4,false),(5,false)] zk zk rfl zk zc ⟨r0,r1⟩ ?_;refine pT rfl rfl ?_ (by intro w' ⟨q0,q1⟩;go_simp;try with_reducible rfl);try simp only[UU]
   refine aM rfl rfl (λK hK=>?_);go_simp;refine hK _ _ (λ_=>⟨r0,r1⟩) ?_;try simp only[UU]
   refine aM rfl rfl (λK hK=>?_);go_simp;with_reducible refine(HF.out _).mono ?_
   rintro e w5 ⟨rfl,hq⟩;have ai:Bw w2 w5:=by first|exact hq|exact cu hq
   obtain⟨Ha,a0,a1⟩:=eH Ha ai;obtain⟨Hc,c0,c1⟩:=eH Hc ai;obtain⟨Hq,q0,gp,q1,gq⟩:=dt Hq ai;obtain⟨Hr,r0,aO,r1,aQ⟩:=dt Hr ai;replace Hb:=aW Hb ai;refine hK _ _ (λ_=>⟨r0,r1⟩) ?_;try simp only[UU]
   refine aM rfl rfl (λK hK=>?_);go_simp;refine hK _ _ (λ_=>⟨(aF zf (aF zf r0)),(aF zf (aF zf r1))⟩) ?_;try simp only[UU]
   refine cB (aV w5 (w.heap.size+1+1) 0 [ag (az N),ah (nt N.natAbs)]) aX ?_;intro w6 hs;replace Ha:=kS Ha hs zo;replace Hc:=kS Hc hs zo;replace Hq:=jJ Hq hs;replace Hr:=kS Hr hs zo;obtain⟨a0,a1⟩:=Ha.out.c2;obtain⟨c0,c1⟩:=Hc.out.c2;obtain⟨q0,gp,q1,gq⟩:=Hq.out.g2;obtain⟨r0,aO,r1,aQ⟩:=Hr.out.g2;replace Hb:=bS Hb hs ZS;clear hs;refine aM rfl rfl (λK hK=>?_);go_simp;refine hK _ _ (λh=>absurd h zd) ?_;try simp only[UU]
   refine cB (aV w6 (w.heap.size+1+1+1) 0 [ag false,ah R]) aX ?_;intro w7 hs;replace Ha:=kS Ha hs zo;replace Hc:=kS Hc hs zo;replace Hq:=kS Hq hs zo;replace Hr:=jJ Hr hs;obtain⟨a0,a1⟩:=Ha.out.c2;obtain⟨c0,c1⟩:=Hc.out.c2;obtain⟨q0,gp,q1,gq⟩:=Hq.out.g2;obtain⟨r0,aO,r1,aQ⟩:=Hr.out.g2;replace Hb:=bS Hb hs ZS;clear hs;refine aM rfl rfl (λK hK=>?_);go_simp;refine hK _ _ (λh=>absurd h zd) ?_;try simp only[UU]
   simp only[bH];go_wp2;refine bodyPost_ret (v:=.tuple #[cd N,.agg #[ag false,ah R],ag true]) (by simp[results,Tryz.results228,go_sem,q0,q1,r0,r1]) rfl ⟨_,_,rfl,Hb.out⟩
 | true=>
   by_cases hne:R=[]
   . subst hne;have UV:(bs []).toList.isEmpty=true:=by rw[vZ];rfl
     have hN:=HQ.out;rw[if_pos rfl,if_pos rfl]at hN;have HN:=aj hN;clear hN;obtain⟨W,cE,ae,ak⟩:=AV w 28 [ag true,ah l] 28 [ag false,ah m] 28 [ag false,.string ⟨#[]⟩] 28 [ag false,.string ⟨#[]⟩];go_enter Tryz.func228,Tryz.ntmps228;go_wp2_with fail;refine aJ ae (H1.out _) λw1 ae ak=>?_;go_wp2_with fail;first|refine dA (λiy=>∃dS,aV w1 (w.heap.size+1+1) 0 [ag false,ah Q] dS/\aV dS (w.heap.size+1+1+1) 0 [ag false,.string (bs [])] iy) ⟨_,aX,aX⟩ ?_|refine dV (λiy=>∃dS,aV w1 (w.heap.size+1+1) 0 [ag false,ah Q] dS/\aV dS (w.heap.size+1+1+1) 0 [ag false,.string (bs [])] iy) ⟨_,aX,aX⟩ ?_
     rintro w2 ⟨_,hs0,hs1⟩;have ae:=bU hs1 (bU hs0 ae);simp only[bV,List.set]at ae;have ak:=qC ae;have hG:=λW=>FJ false Q N HN.out.symm W (Nat.le_trans hlen zd);have hF:=λW=>xm (az N) (nt N.natAbs) W (by rw[HN.out];exact Nat.le_trans (Fh false Q 34359738368 (Nat.le_trans hlen zd)) zd);have e:iv (az N) (nt N.natAbs)=N:=dH N;rw[e]at hF;obtain⟨HG,HF⟩:=aK hG hF;clear hG hF e;go_wp2_with fail;refine aJ ae (HG.out _) λw3 ae ak=>?_;go_wp2_with fail;first|refine dA (aV w3 (w.heap.size+1+1) 0 [ag (az N),ah (nt N.natAbs)]) aX ?_|refine dV (aV w3 (w.heap.size+1+1) 0 [ag (az N),ah (nt N.natAbs)]) aX ?_
     intro w4 hs0;have ae:=bU hs0 ae;simp only[bV,List.set]at ae;have ak:=qC ae;obtain⟨Hb,Ha,Hc,Hq,Hr,_⟩:=ae;obtain⟨a0,a1⟩:=Ha.out.c2;obtain⟨c0,c1⟩:=Hc.out.c2;obtain⟨q0,gp,q1,gq⟩:=Hq.out.g2;obtain⟨r0,aO,r1,aQ⟩:=Hr.out.g2;refine fh (λw'=>aH w' (w.heap.size+1+1+1) 0 (ag false)/\aH w' (w.heap.size+1+1+1) 1 (.string (bs []))) (λi=>Nat.blt i 4) [(2,true),(0,false),(1,false),(3,false),(4,false),(5,false)] zk zk rfl zk zc ⟨r0,r1⟩ ?_;refine pT rfl rfl ?_ (by intro w' ⟨q0,q1⟩;go_simp;try with_reducible rfl);try simp only[UU]
     refine aM rfl rfl (λK hK=>?_);go_simp;refine hK _ _ (λ_=>⟨r0,r1⟩) ?_;try simp only[UU]
     refine aM rfl rfl (λK hK=>?_);go_simp;with_reducible refine(HF.out _).mono ?_
     rintro e w5 ⟨rfl,hq⟩;have ai:Bw w4 w5:=by first|exact hq|exact cu hq
     obtain⟨Ha,a0,a1⟩:=eH Ha ai;obtain⟨Hc,c0,c1⟩:=eH Hc ai;obtain⟨Hq,q0,gp,q1,gq⟩:=dt Hq ai;obtain⟨Hr,r0,aO,r1,aQ⟩:=dt Hr ai;replace Hb:=aW Hb ai;refine hK _ _ (λ_=>⟨r0,r1⟩) ?_;try simp only[UU]
     refine aM rfl rfl (λK hK=>?_);go_simp;refine hK _ _ (λ_=>⟨(aF zf (aF zf r0)),(aF zf (aF zf r1))⟩) ?_;try simp only[UU]
     refine cB (aV w5 (w.heap.size+1+1) 0 [ag (az N),ah (nt N.natAbs)]) aX ?_;intro w6 hs;replace Ha:=kS Ha hs zo;replace Hc:=kS Hc hs zo;replace Hq:=jJ Hq hs;replace Hr:=kS Hr hs zo;obtain⟨a0,a1⟩:=Ha.out.c2;obtain⟨c0,c1⟩:=Hc.out.c2;obtain⟨q0,gp,q1,gq⟩:=Hq.out.g2;obtain⟨r0,aO,r1,aQ⟩:=Hr.out.g2;replace Hb:=bS Hb hs ZS;clear hs;refine aM rfl rfl (λK hK=>?_);go_simp;refine hK _ _ (λh=>absurd h zd) ?_;try simp only[UU]
     refine cB (aV w6 (w.heap.size+1+1+1) 0 [ag false,.string (bs [])]) aX ?_;intro w7 hs;replace Ha:=kS Ha hs zo;replace Hc:=kS Hc hs zo;replace Hq:=kS Hq hs zo;replace Hr:=jJ Hr hs;obtain⟨a0,a1⟩:=Ha.out.c2;obtain⟨c0,c1⟩:=Hc.out.c2;obtain⟨q0,gp,q1,gq⟩:=Hq.out.g2;obtain⟨r0,aO,r1,aQ⟩:=Hr.out.g2;replace Hb:=bS Hb hs ZS;clear hs;refine aM rfl rfl (λK hK=>?_);go_simp;refine hK _ _ (λh=>absurd h zd) ?_;try simp only[UU]
     simp only[bH];go_wp2;refine bodyPost_ret (v:=.tuple #[cd N,.agg #[ag false,.string (bs [])],ag true]) (by simp[results,Tryz.results228,go_sem,q0,q1,r0,r1]) rfl ⟨_,_,rfl,Hb.out⟩
   . have UV:(bs R).toList.isEmpty=false:=by rw[jT];cases R with
      |nil=>exact absurd rfl hne
      |cons=>rfl
     have aDQ:¬(bs R).toList=[]:=by rw[jT];exact hne
     have hN:=HQ.out;rw[if_pos rfl,if_neg hne]at hN;obtain⟨X,hX⟩:=aB (iv false Q+1);rw[hX]at hN;obtain⟨Y,hY⟩:=aB (iv false m-iv false R);have nW:(nt X.natAbs).length<=1000001:=by
      obtain⟨K,hK⟩:=aB (1000000);rw[hK]at hlen;rw[show 1000001=K+1 by omega];have h2:X.natAbs=nv Q+1:=by rw[<-hX];unfold iv;simp only[Bool.false_eq_true,if_false];omega
      rw[h2];have h3:=Nat.lt_of_lt_of_le (jH Q) (Nat.pow_le_pow_right (show 0<256 by decide) hlen);refine oz (k:=K+1) ?_;rw[Nat.pow_succ];omega
     have hNl:(nt N.natAbs).length<=1000001:=by rw[hN,Int.natAbs_neg];exact nW
     have hO:=λW=>KW 1 1 rfl W zd zd;have hA:=λW b (hb:ar W b 28 [ag false,ah Q,ag (az 1),ah (nt (1:Int).natAbs)])=>Yv false Q (az 1) (nt (1:Int).natAbs) b 2 28 W zo zd hb;rw[dH,hX]at hA;have hS:=λW=>KY false m false R W zo zo;rw[hY]at hS;have hG:=λW=>FJ (az X) (nt X.natAbs) N (by rw[dH];exact hN.symm) W (Nat.le_trans nW zd);have hF:=λW=>xm (az N) (nt N.natAbs) W (Nat.le_trans hNl zd);have e:iv (az N) (nt N.natAbs)=N:=dH N;rw[e]at hF;obtain⟨HO,HA,HS,HG,HF⟩:=gT hO hA hS hG hF;clear hO hA hS hG hF e hX hY hN nW hNl;obtain⟨W,cE,ae,ak⟩:=AV w 28 [ag true,ah l] 28 [ag false,ah m] 28 [ag false,.string ⟨#[]⟩] 28 [ag false,.string ⟨#[]⟩];go_enter Tryz.func228,Tryz.ntmps228;go_wp2_with fail;refine aJ ae (H1.out _) λw1 ae ak=>?_;go_upto_region 6 with fail
     first|refine dA (λiy=>∃dS,aV w1 (w.heap.size+1+1) 0 [ag false,ah Q] dS/\aV dS (w.heap.size+1+1+1) 0 [ag false,ah R] iy) ⟨_,aX,aX⟩ ?_|refine dV (λiy=>∃dS,aV w1 (w.heap.size+1+1) 0 [ag false,ah Q] dS/\aV dS (w.heap.size+1+1+1) 0 [ag false,ah R] iy) ⟨_,aX,aX⟩ ?_
     rintro w2 ⟨_,hs0,hs1⟩;have ae:=bU hs1 (bU hs0 ae);simp only[bV,List.set]at ae;have ak:=qC ae;refine fT 4 ae (fH 5 0x806040201) ?_;refine cG ?_;refine cV ae (HO.out _) λw3 ae=>?_;refine vG 28 [ag false,ah Q,ag (az 1),ah (nt (1:Int).natAbs)] ae λW4 aR ae=>?_;refine cV ae (HA.out _ _ ae.1.out) λw5 ae=>?_;have ak:=qC ae;refine qOp λK hK=>?_;go_simp;refine hK _ _ (λh=>absurd h zd) ?_;try simp only[UU]
     refine cB (aV w5 (w.heap.size+1+1) 0 [ag (az X),ah (nt X.natAbs)]) aX ?_;intro w6 hs0;have ae:=bU hs0 ae;simp only[bV,List.set]at ae;have ak:=qC ae;refine fR ae λak=>?_;go_wp2_with fail;refine aJ ae (HS.out _) λw7 ae ak=>?_;go_wp2_with fail;first|refine dA (aV w7 (w.heap.size+1+1+1) 0 [ag (az Y),ah (nt Y.natAbs)]) aX ?_|refine dV (aV w7 (w.heap.size+1+1+1) 0 [ag (az Y),ah (nt Y.natAbs)]) aX ?_
     intro w8 hs0;have ae:=bU hs0 ae;simp only[bV,List.set]at ae;have ak:=qC ae;go_wp2_with fail;refine aJ ae (HG.out _) λw9 ae ak=>?_;go_wp2_with fail;first|refine dA (aV w9 (w.heap.size+1+1) 0 [ag (az N),ah (nt N.natAbs)]) aX ?_|refine dV (aV w9 (w.heap.size+1+1) 0 [ag (az N),ah (nt N.natAbs)]) aX ?_
     intro dw hs0;have ae:=bU hs0 ae;simp only[bV,List.set]at ae;have ak:=qC ae;obtain⟨Hv,Hb,Ha,Hc,Hq,Hr,_⟩:=ae;obtain⟨a0,a1⟩:=Ha.out.c2;obtain⟨c0,c1⟩:=Hc.out.c2;obtain⟨q0,gp,q1,gq⟩:=Hq.out.g2;obtain⟨r0,aO,r1,aQ⟩:=Hr.out.g2;obtain⟨v0,v1,v2,v3⟩:=Hv.out.c4;refine fh (λw'=>aH w' (w.heap.size+1+1+1) 0 (ag (az Y))/\aH w' (w.heap.size+1+1+1) 1 (ah (nt Y.natAbs))) (λi=>Nat.blt i 4) [(2,true),(0,false),(1,false),(3,false),(4,false),(5,false)] zk zk rfl zk zc ⟨r0,r1⟩ ?_;refine pT rfl rfl ?_ (by intro w' ⟨q0,q1⟩;go_simp;try with_reducible rfl);try simp only[UU]
     refine aM rfl rfl (λK hK=>?_);go_simp;refine hK _ _ (λ_=>⟨r0,r1⟩) ?_;try simp only[UU]
     refine aM rfl rfl (λK hK=>?_);go_simp;with_reducible refine(HF.out _).mono ?_
     rintro e ir ⟨rfl,hq⟩;have ai:Bw dw ir:=by first|exact hq|exact cu hq
     obtain⟨Ha,a0,a1⟩:=eH Ha ai;obtain⟨Hc,c0,c1⟩:=eH Hc ai;obtain⟨Hq,q0,gp,q1,gq⟩:=dt Hq ai;obtain⟨Hr,r0,aO,r1,aQ⟩:=dt Hr ai;obtain⟨Hv,v0,v1,v2,v3⟩:=wR Hv ai;replace Hb:=aW Hb ai;refine hK _ _ (λ_=>⟨r0,r1⟩) ?_;try simp only[UU]
     refine aM rfl rfl (λK hK=>?_);go_simp;refine hK _ _ (λ_=>⟨(aF zf (aF zf r0)),(aF zf (aF zf r1))⟩) ?_;try simp only[UU]
     refine cB (aV ir (w.heap.size+1+1) 0 [ag (az N),ah (nt N.natAbs)]) aX ?_;intro Bc hs;replace Ha:=kS Ha hs zo;replace Hc:=kS Hc hs zo;replace Hq:=jJ Hq hs;replace Hr:=kS Hr hs zo;replace Hv:=kS Hv hs zo;obtain⟨a0,a1⟩:=Ha.out.c2;obtain⟨c0,c1⟩:=Hc.out.c2;obtain⟨q0,gp,q1,gq⟩:=Hq.out.g2;obtain⟨r0,aO,r1,aQ⟩:=Hr.out.g2;obtain⟨v0,v1,v2,v3⟩:=Hv.out.c4;replace Hb:=bS Hb hs ZS;clear hs;refine aM rfl rfl (λK hK=>?_);go_simp;refine hK _ _ (λh=>absurd h zd) ?_;try simp only[UU]
     refine cB (aV Bc (w.heap.size+1+1+1) 0 [ag (az Y),ah (nt Y.natAbs)]) aX ?_;intro FI hs;replace Ha:=kS Ha hs zo;replace Hc:=kS Hc hs zo;replace Hq:=kS Hq hs zo;replace Hr:=jJ Hr hs;replace Hv:=kS Hv hs zo;obtain⟨a0,a1⟩:=Ha.out.c2;obtain⟨c0,c1⟩:=Hc.out.c2;obtain⟨q0,gp,q1,gq⟩:=Hq.out.g2;obtain⟨r0,aO,r1,aQ⟩:=Hr.out.g2;obtain⟨v0,v1,v2,v3⟩:=Hv.out.c4;replace Hb:=bS Hb hs ZS;clear hs;refine aM rfl rfl (λK hK=>?_);go_simp;refine hK _ _ (λh=>absurd h zd) ?_;try simp only[UU]
     simp only[bH];go_wp2;refine bodyPost_ret (v:=.tuple #[cd N,.agg #[ag (az Y),ah (nt Y.natAbs)],ag true]) (by simp[results,Tryz.results228,go_sem,q0,q1,r0,r1]) rfl ⟨_,_,rfl,Hb.out⟩
abbrev bT (d:Dyadic):Value:=.agg #[ag (az (dN d)),ah (nt (dN d).natAbs),af (dE d)]
def apz :(⟨#[]⟩:ByteArray)=bs []:=rfl
def azp (s:Bool)(l:List UInt8)(n:Nat)(Z:Int)(hZ:iv s l/2^n=Z)(w:World)(hl:l.length<=34359738368)(hn:n<=549755813888)(hT:aC w):
 Cv 135 #[.agg #[ag s,ah l],af (-(n:Int))] w (cd Z):=by
 rcases Nat.eq_zero_or_pos n with h|h
 . subst h;subst hZ;have:=FK s l 0 w zo zo;simpa using this
 . subst hZ;exact ajW s l n w hl h zo hT
def aAO (v k:Nat)(h:v<2^k):tz v<=k:=by
 rcases Nat.eq_zero_or_pos v with h0|h0
 . subst h0;exact Nat.zero_le _
 . obtain⟨m,hm⟩:=ajA v h0;rcases Nat.lt_or_ge k (tz v)with h1|h1
   . exfalso
     have h2:=Nat.pow_le_pow_right (show 0<2 by decide) (Nat.le_of_lt h1);have h3:2^tz v<=2^tz v* (2*m+1):=Nat.le_mul_of_pos_right _ zo;omega
   . exact h1
def ajx (n:Int):tz n.natAbs=n.trailingZeros:=by
 unfold tz;rcases Int.natAbs_eq n with h|h
 . rw[<-h]
 . conv=>rhs;rw[h]
   rw[Int.trailingZeros_neg]
def Tu (s:Bool)(l:List UInt8)(e:Int)(h:iv s l=0):au (s,l,e)=0:=by unfold au;simp only[h];exact vE _
def Tt (s:Bool)(l:List UInt8)(e:Int)(h:iv s l≠0):dN (au (s,l,e))=iv s l/2^tz (nv l)/\dE (au (s,l,e))=e+(tz (nv l):Int):=by have:=acf (k:=-e) h;unfold au;rw[show tz (nv l)=(iv s l).trailingZeros by rw[<-wQ s l];exact ajx _];exact⟨this.1,by rw[this.2];omega⟩
def yF (s:Bool)(l:List UInt8)(e:Int)(D:Dyadic)(hD:au (s,l,e)=D)(w:World)(hl:l.length<=34359738368)(he: -1099511627776<=e/\e<=1099511627776)(hT:aC w):
 Cv 143 #[.agg #[ag s,ah l],af e] w (bT D):=by
 have qE:Hid (l.length<=1099511627776):=by show _<=_;omega
 have Dy:Hid (l.length<=68719476736):=by show _<=_;omega
 by_cases h0:iv s l=0
 . have h1:=Tu s l e h0;rw[hD]at h1;subst h1;clear hD;have h2:eI (iv s l)=0:=by rw[h0];rfl
   have H2:=aj h2;clear h2;have Hv:Hid (bT 0=.agg #[ag false,.string (bs []),af 0]):=rfl;go_enter Tryz.func143,Tryz.ntmps143;have Hb:=hbz w;go_wp2_with fail;refine lw w (Hb.an trivial) 28 [ag s,ah l] 30 [ag false,.string (bs []),af 0] λW aR ae ak=>?_;go_wp2_with fail;refine aJ ae (FM s l _ qE.out) λw1 ae ak=>?_;rw[H2.out];have Hb:=ae.2.2.1;have r0:w1.cell? ⟨w.heap.size+1,0,none⟩=some (ag false):=ae.2.1.out.cell 0;have r1:w1.cell? ⟨w.heap.size+1,1,none⟩=some (.string (bs [])):=ae.2.1.out.cell 1;have r2:w1.cell? ⟨w.heap.size+1,2,none⟩=some (af 0):=ae.2.1.out.cell 2;go_wp2;exact bodyPost_ret (v:=.agg #[ag false,.string (bs []),af 0]) (by simp[results,Tryz.results143,go_sem,r0,r1,r2,apz,ak]) rfl ⟨by rw[Hv.out],df⟩
 . obtain⟨h1,h2⟩:=Tt s l e h0;rw[hD]at h1 h2;clear hD;have hg0:eI (iv s l)≠0:=by unfold eI;split<;>(try split)<;>omega
   have Hg:Hid (∃g,eI (iv s l)=g/\g≠0):=⟨_,rfl,hg0⟩;obtain⟨g,hg,hg0⟩:=Hg.out;have Hg:=aj hg;clear hg;have hn:tz (nv l)<=549755813888:=Nat.le_trans (aAO (nv l) (8*l.length) (by have:=jH l;rwa [show(256:Nat)=2^8 by rfl,<-Nat.pow_mul]at this)) zo;obtain⟨n,hn0⟩:=aB (tz (nv l));rw[hn0]at h1 h2 hn;have qH:=aj hn0;clear hn0;obtain⟨Z,hZ⟩:=aB (dN D);obtain⟨E,hE⟩:=aB (dE D);rw[hZ]at h1;rw[hE]at h2;obtain⟨HZ,HE⟩:=aK hZ hE;clear hZ hE;have H1:=aj h1.symm;clear h1;have hwn:IntKind.i64.wrap (-(n:Int))= -(n:Int):=by rw[IntKind.wrap_i64];omega
   have hwe:IntKind.i64.wrap (e+(n:Int))=E:=by rw[IntKind.wrap_i64];omega
   clear h0 h2;go_enter Tryz.func143,Tryz.ntmps143;have Hb:=hbz w;go_wp2_with fail;refine lw w (Hb.an trivial) 28 [ag s,ah l] 30 [ag false,.string (bs []),af 0] λW aR ae ak=>?_;go_wp2_with fail;refine aJ ae (FM s l _ qE.out) λw1 ae ak=>?_;rw[Hg.out];have HT:=aj (hT.below ae.2.2.1.out);go_wp2_with fail;refine aJ ae (WO l _ Dy.out HT.out) λw2 ae ak=>?_;rw[qH.out];replace HT:=aj (hT.below ae.2.2.1.out);go_wp2_with fail;refine aJ ae (azp s l n Z H1.out _ hl hn HT.out) λw3 ae ak=>?_;have Hb:=ae.2.2.1;have r0:w3.cell? ⟨w.heap.size+1,0,none⟩=some (ag false):=ae.2.1.out.cell 0;have r1:w3.cell? ⟨w.heap.size+1,1,none⟩=some (.string (bs [])):=ae.2.1.out.cell 1;have r2:w3.cell? ⟨w.heap.size+1,2,none⟩=some (af 0):=ae.2.1.out.cell 2;go_wp2;exact bodyPost_ret (v:=.agg #[ag (az Z),ah (nt Z.natAbs),af E]) (by simp[results,Tryz.results143,go_sem,r0,r1,r2,ak]) rfl ⟨by rw[<-HZ.out,<-HE.out],df⟩
def Ok.len {s:Bool}{l:List UInt8}{e:Int}(h:Ok (s,l,e)):l.length<=268435456:=h.1
def Ok.exp {s:Bool}{l:List UInt8}{e:Int}(h:Ok (s,l,e)): -268435456<=e/\e<=268435456:=h.2
def pq (s:Bool)(l:List UInt8)(e:Int)(D:Dyadic)(hD:au (s,l,e)=D)(w:World)(hx:Ok (s,l,e))(hT:aC w):
 Cv 139 #[.agg #[ag s,ah l,af e]] w (bT D):=by
 have HD:=aj hD;clear hD;have h1:=hx.len;have h2:=hx.exp;clear hx;have Hl:Hid (l.length<=34359738368):=by show _<=_;omega
 have He:Hid (-1099511627776<=e/\e<=1099511627776):=by show _/\_;omega
 go_enter Tryz.func139,Tryz.ntmps139;have Hb:=hbz w;go_wp2_with fail;refine lw w (Hb.an trivial) 30 [ag s,ah l,af e] 30 [ag false,.string (bs []),af 0] λW aR ae ak=>?_;have HT:=aj (hT.below ae.2.2.1.out);go_wp2_with fail;refine aJ ae (yF s l e D HD.out _ Hl.out He.out HT.out) λw1 ae ak=>?_;have Hb:=ae.2.2.1;have r0:w1.cell? ⟨w.heap.size+1,0,none⟩=some (ag false):=ae.2.1.out.cell 0;have r1:w1.cell? ⟨w.heap.size+1,1,none⟩=some (.string (bs [])):=ae.2.1.out.cell 1;have r2:w1.cell? ⟨w.heap.size+1,2,none⟩=some (af 0):=ae.2.1.out.cell 2;go_wp2;exact bodyPost_ret (v:=bT D) (by simp[results,Tryz.results139,go_sem,r0,r1,r2,ak]) rfl ⟨rfl,df⟩
def Fx (s:Bool)(l:List UInt8)(e n:Int)(D:Dyadic)(hD:au (s,l,e+n)=D)(w:World)(hx:Ok (s,l,e))(hn: -268435456<=n/\n<=268435456)(hT:aC w):
 Cv 63 #[.agg #[ag s,ah l,af e],af n] w (bT D):=by
 have h1:=hx.len;have h2:=hx.exp;clear hx;obtain⟨z,hz⟩:=aB (e+n);have hwe:IntKind.i64.wrap (e+n)=z:=by rw[IntKind.wrap_i64];omega
 rw[hz]at hD;have HD:=aj hD;clear hD;have Hl:Hid (l.length<=34359738368):=by show _<=_;omega
 have He:Hid (-1099511627776<=z/\z<=1099511627776):=by show _/\_;omega
 clear hz;go_enter Tryz.func63,Tryz.ntmps63;have Hb:=hbz w;go_wp2_with fail;refine lw w (Hb.an trivial) 30 [ag s,ah l,af e] 30 [ag false,.string (bs []),af 0] λW aR ae ak=>?_;have HT:=aj (hT.below ae.2.2.1.out);go_wp2_with fail;refine aJ ae (yF s l z D HD.out _ Hl.out He.out HT.out) λw1 ae ak=>?_;have Hb:=ae.2.2.1;have r0:w1.cell? ⟨w.heap.size+1,0,none⟩=some (ag false):=ae.2.1.out.cell 0;have r1:w1.cell? ⟨w.heap.size+1,1,none⟩=some (.string (bs [])):=ae.2.1.out.cell 1;have r2:w1.cell? ⟨w.heap.size+1,2,none⟩=some (af 0):=ae.2.1.out.cell 2;go_wp2;exact bodyPost_ret (v:=bT D) (by simp[results,Tryz.results63,go_sem,r0,r1,r2,ak]) rfl ⟨rfl,df⟩
def aiS (s:Bool)(l:List UInt8)(e:Int):eI (iv s l)=eI (dN (au (s,l,e))):=by
 by_cases h0:iv s l=0
 . rw[Tu s l e h0,h0,Tf]
 . rw[(Tt s l e h0).1];obtain⟨q,hq⟩:(2:Int)^tz (nv l)∣iv s l:=by rw[show tz (nv l)=(iv s l).trailingZeros by rw[<-wQ s l];exact ajx _];exact Int.two_pow_trailingZeros_dvd h0
   have hp:(0:Int)<2^tz (nv l):=by
    have:((2^tz (nv l):Nat):Int)>0:=by have:=Nat.pow_pos (n:=tz (nv l)) (show 0<2 by decide);omega
    simpa[Int.natCast_pow]using this
   generalize (2:Int)^tz (nv l)=p at*;rw[hq,Int.mul_ediv_cancel_left _ zo];unfold eI;rcases Int.lt_trichotomy q 0 with h|h|h
   . have:=Int.mul_neg_of_pos_of_neg hp h;simp only[h,this,if_true]
   . subst h;simp
   . have:=Int.mul_pos hp h;rw[if_neg zo,if_neg zo,if_neg zo,if_neg zo]
abbrev bg (d:Dyadic):Int:=eI (dN d)
def nR (s:Bool)(l:List UInt8)(e:Int)(g:Int)(hg:bg (au (s,l,e))=g)(w:World)(hx:Ok (s,l,e)):
 Cv 12 #[.agg #[ag s,ah l,af e]] w (af g):=by
 have h1:=hx.len;clear hx;have Hg:Hid (eI (iv s l)=g):=by show _=_;rw[<-hg];exact aiS s l e
 have Hl:Hid (l.length<=1099511627776):=by show _<=_;omega
 clear hg;go_enter Tryz.func12,Tryz.ntmps12;have Hb:=hbz w;go_wp2_with fail;refine ik w (Hb.an trivial) 30 [ag s,ah l,af e] λW aR ae ak=>?_;go_wp2_with fail;refine aJ ae (FM s l _ Hl.out) λw1 ae ak=>?_;rw[Hg.out];go_wp2;go_ret;exact⟨rfl,ae.2.1.out⟩
def Ek (n e:Int):au (az n,nt n.natAbs,e)=Dyadic.ofIntWithPrec n (-e):=by unfold au;simp only[dH]
def uP (n:Int)(D:Dyadic)(hD:Dyadic.ofIntWithPrec n 0=D)(w:World)(hn: -9223372036854775808<=n/\n<=9223372036854775807)(hT:aC w):
 Cv 56 #[af n] w (bT D):=by
 obtain⟨N,hN⟩:=aB n;have HD:Hid (au (az N,nt N.natAbs,0)=D):=by show _=_;rw[Ek,<-hN];exact hD
 have Hl:Hid ((nt N.natAbs).length<=34359738368):=by
  show _<=_
  exact Nat.le_trans (oz (k:=8) zo) zd
 have HN:=aj hN;clear hN hD;go_enter Tryz.func56,Tryz.ntmps56;have Hb:=hbz w;go_wp2_with fail;refine ik w (Hb.an trivial) 30 [ag false,.string (bs []),af 0] λW aR ae ak=>?_;go_wp2_with fail;refine aJ ae (KW n N HN.out _ hn.1 hn.2) λw1 ae ak=>?_;have HT:=aj (hT.below ae.2.1.out);go_wp2_with fail;refine aJ ae (yF (az N) (nt N.natAbs) 0 D HD.out _ Hl.out zo HT.out) λw2 ae ak=>?_;have Hb:=ae.2.1;have r0:w2.cell? ⟨w.heap.size,0,none⟩=some (ag false):=ae.1.out.cell 0;have r1:w2.cell? ⟨w.heap.size,1,none⟩=some (.string (bs [])):=ae.1.out.cell 1;have r2:w2.cell? ⟨w.heap.size,2,none⟩=some (af 0):=ae.1.out.cell 2;go_wp2;exact bodyPost_ret (v:=bT D) (by simp[results,Tryz.results56,go_sem,r0,r1,r2,ak]) rfl ⟨rfl,df⟩
def Iw (s:Bool)(l:List UInt8)(e:Int)(D:Dyadic)(hD: -au (s,l,e)=D)(w:World)(hx:Ok (s,l,e))(hT:aC w):
 Cv 155 #[.agg #[ag s,ah l,af e]] w (bT D):=by
 have h1:=hx.len;have h2:=hx.exp;clear hx;obtain⟨N,hN⟩:=aB (-(iv s l));have HD:Hid (au (az N,nt N.natAbs,e)=D):=by
  show _=_
  rw[Ek,<-hN,<-hD];unfold au;rw[wX]
 have Hl:Hid ((nt N.natAbs).length<=34359738368):=by show _<=_;rw[<-hN];exact Fh s l _ zo
 have qE:Hid (l.length<=1099511627776):=by show _<=_;omega
 have He:Hid (-1099511627776<=e/\e<=1099511627776):=by show _/\_;omega
 have HN:=aj hN;clear hN hD;go_enter Tryz.func155,Tryz.ntmps155;have Hb:=hbz w;go_wp2_with fail;refine lw w (Hb.an trivial) 30 [ag s,ah l,af e] 30 [ag false,.string (bs []),af 0] λW aR ae ak=>?_;refine fT 6 ae (fH 7 0xc0a0409070301) ?_;refine cG ?_;refine cV ae (FJ s l N HN.out _ qE.out) λw1 ae=>?_;refine cV ae (yF (az N) (nt N.natAbs) e D HD.out _ Hl.out He.out (hT.below ae.2.2.1.out)) λw2 ae=>?_;have ak:=qC ae;refine qOp λK hK=>?_;go_simp;refine hK _ _ (λh=>absurd h zd) ?_
 refine cB (aV w2 (w.heap.size+1) 0 (bG D)) aX ?_;intro w3 hs0;have ae:=bU hs0 ae;simp only[bV,List.set]at ae;have ak:=qC ae;refine fR ae λak=>?_;have Hb:=ae.2.2.1;have r0:w3.cell? ⟨w.heap.size+1,0,none⟩=some (ag (az (dN D))):=ae.2.1.out.cell 0;have r1:w3.cell? ⟨w.heap.size+1,1,none⟩=some (ah (nt (dN D).natAbs)):=ae.2.1.out.cell 1;have r2:w3.cell? ⟨w.heap.size+1,2,none⟩=some (af (dE D)):=ae.2.1.out.cell 2;go_wp2;exact bodyPost_ret (v:=bT D) (by simp[results,Tryz.results155,go_sem,r0,r1,r2,ak]) rfl ⟨rfl,df⟩
def aC.drew {w:World}(h:aC w):aC w.drew:=h
def aC.alloc {w:World}(h:aC w)(o:Obj):aC (w.alloc o):=λj hj=>aU (h j hj)
def pS (v k:Int):Int:=if 0<=k then v*2^k.toNat else v/2^(-k).toNat
def aBb (s:Bool)(l:List UInt8)(k Z:Int)(hZ:pS (iv s l) k=Z)(w:World)(hl:l.length<=34359738368)(hk: -549755813888<=k/\k<=549755813888)(hT:aC w):
 Cv 135 #[.agg #[ag s,ah l],af k] w (cd Z):=by
 subst hZ;unfold pS;split
 . rename_i h
   have:=FK s l k.toNat w zo zo;rw[Int.toNat_of_nonneg h]at this;exact this
 . rename_i h
   have:=ajW s l (-k).toNat w hl zo zo hT;rw[Int.toNat_of_nonneg zo,Int.neg_neg]at this;exact this
def Fs (s:Bool)(l:List UInt8)(e g Z:Int)(hZ:pS (iv s l) (e-g)=Z)(w:World)(hl:l.length<=34359738368)(hk: -549755813888<=e-g/\e-g<=549755813888)(hT:aC w):
 Cv 216 #[af g,.agg #[ag s,ah l,af e]] w (cd Z):=by
 obtain⟨k,fN⟩:=aB (e-g);have hwe:IntKind.i64.wrap (e-g)=k:=by rw[IntKind.wrap_i64];omega
 rw[fN]at hZ hk;have HZ:=aj hZ;clear hZ fN;go_enter Tryz.func216,Tryz.ntmps216;have Hb:=hbz w;go_wp2_with fail;refine lw w (Hb.an trivial) 30 [ag s,ah l,af e] 28 [ag false,.string (bs [])] λW aR ae ak=>?_;have HT:=aj (hT.below ae.2.2.1.out);go_wp2_with fail;refine aJ ae (aBb s l k Z HZ.out _ hl hk HT.out) λw1 ae ak=>?_;have Hb:=ae.2.2.1;have r0:w1.cell? ⟨w.heap.size+1,0,none⟩=some (ag false):=ae.2.1.out.cell 0;have r1:w1.cell? ⟨w.heap.size+1,1,none⟩=some (.string (bs [])):=ae.2.1.out.cell 1;go_wp2;exact bodyPost_ret (v:=cd Z) (by simp[results,Tryz.results216,go_sem,r0,r1,ak]) rfl ⟨rfl,df⟩
def wT (A B:Dyadic):Int:=if A=0 then dE B else if B=0 then dE A else min (dE A) (dE B)
def vD (A:Dyadic):A=Dyadic.ofIntWithPrec (dN A) (-(dE A)):=by have:=bF A;unfold au canon at this;simp only[dH]at this;exact this.symm
def aig (A:Dyadic)(g:Int)(h:A=0\/g<=dE A):A=Dyadic.ofIntWithPrec (pS (dN A) (dE A-g)) (-g):=by
 rcases h with h|h
 . subst h;have:pS (dN 0) (dE 0-g)=0:=by unfold pS;rw[Tf];split<;>simp
   rw[this,vE]
 . unfold pS;rw[if_pos zo];have:=mz (dN A) (dE A-g).toNat (-(dE A));rw[show-(dE A)+((dE A-g).toNat:Int)= -g by omega]at this;rw[this];exact vD A
def avO (A B:Dyadic):(A=0\/wT A B<=dE A)/\(B=0\/wT A B<=dE B):=by
 unfold wT;split
 . exact⟨.inl ‹_›,.inr zo⟩
 . split
   . exact⟨.inr zo,.inl ‹_›⟩
   . exact⟨.inr zo,.inr zo⟩
def ah8 {A:Dyadic}:A=0\/((nt (dN A).natAbs)≠[]/\A≠0):=by
 by_cases h:A=0
 . exact .inl h
 . refine .inr ⟨?_,h⟩;intro h2;apply h;have:(dN A).natAbs=0:=by rw[<-jP (dN A).natAbs,h2];rfl
   rw[vD A,show dN A=0 by omega,vE]
def Ok.parts {x:Raw}(h:Ok x):(nt (dN (au x)).natAbs).length<=1073741824/\ -4294967296<=dE (au x)/\dE (au x)<=4294967296:=by obtain⟨B,hB,hs⟩:∃B,B<=4294967296/\Sm B (au x):=⟨4294967296,Nat.le_refl _,h.sm⟩;obtain⟨h1,h2,h3⟩:=hs.parts;exact⟨jK h1 zo,by clear h1;omega,by clear h1;omega⟩
def ahg (s:Bool)(l:List UInt8)(e:Int)(t:Bool)(m:List UInt8)(f:Int)(A B:Dyadic)(hA:au (s,l,e)=A)(hB:au (t,m,f)=B)(g X Y:Int)(hg:wT A B=g)(hX:pS (dN A) (dE A-g)=X)(hY:pS (dN B) (dE B-g)=Y)
 (w:World) (hx:Ok (s,l,e)) (hy:Ok (t,m,f)) (hT:aC w):
 Cv 144 #[.agg #[ag s,ah l,af e],.agg #[ag t,ah m,af f]] w (.agg #[af g,ag (az X),ah (nt X.natAbs),ag (az Y),ah (nt Y.natAbs)]):=by
 have pA:=hx.parts;rw[hA]at pA;have pB:=hy.parts;rw[hB]at pB;obtain⟨HA,HB⟩:=aK hA hB;clear hA hB;obtain⟨a,ha⟩:=aB (nt (dN A).natAbs);obtain⟨p,hp⟩:=aB (az (dN A));obtain⟨i,hi⟩:=aB (dE A);obtain⟨b,hb⟩:=aB (nt (dN B).natAbs);obtain⟨q,hq⟩:=aB (az (dN B));obtain⟨j,hj⟩:=aB (dE B);have tJ:pS (iv p a) (i-g)=X:=by rw[<-hp,<-ha,dH,<-hi];exact hX
 have hY2:pS (iv q b) (j-g)=Y:=by rw[<-hq,<-hb,dH,<-hj];exact hY
 have ZT:Hid (∀W,aC W->Cv 139 #[.agg #[ag s,ah l,af e]] W (.agg #[ag p,ah a,af i])):=by intro W hW;rw[<-hp,<-ha,<-hi];exact pq s l e A HA.out W hx hW
 have ZU:Hid (∀W,aC W->Cv 139 #[.agg #[ag t,ah m,af f]] W (.agg #[ag q,ah b,af j])):=by intro W hW;rw[<-hq,<-hb,<-hj];exact pq t m f B HB.out W hy hW
 have hlv:(A=0/\g=j)\/(A≠0/\B=0/\g=i)\/(A≠0/\B≠0/\g=min i j):=by
  rw[<-hg];unfold wT;by_cases h1:A=0
  . simp[h1,hj]
  . by_cases h2:B=0<;>simp[h1,h2,hi,hj]
 rw[ha,hi]at pA;rw[hb,hj]at pB;have zA:A=0->(p=false/\a=[]/\i=0):=by rintro rfl;exact⟨hp.symm,ha.symm,hi.symm⟩
 have zB:B=0->(q=false/\b=[]/\j=0):=by rintro rfl;exact⟨hq.symm,hb.symm,hj.symm⟩
 have nA:A≠0->a≠[]:=by intro h;rw[<-ha];rcases ah8 (A:=A)with h2|h2;exact absurd h2 h;exact h2.1
 have nB:B≠0->b≠[]:=by intro h;rw[<-hb];rcases ah8 (A:=B)with h2|h2;exact absurd h2 h;exact h2.1
 have Ai: -549755813888<=i-g/\i-g<=549755813888:=by rcases hlv with⟨_,h⟩ |⟨_,_,h⟩ |⟨_,_,h⟩<;>omega
 have Aj: -549755813888<=j-g/\j-g<=549755813888:=by rcases hlv with⟨_,h⟩ |⟨_,_,h⟩ |⟨_,_,h⟩<;>omega
 obtain⟨HX,HY⟩:=aK tJ hY2;have La:Hid (a.length<=34359738368):=by show _<=_;omega
 have Lb:Hid (b.length<=34359738368):=by show _<=_;omega
 obtain⟨Rb,Rc⟩:=aK Ai Aj;clear tJ hY2 hX hY hg ha hp hi hb hq hj Ai Aj HA HB hx hy;go_enter Tryz.func144,Tryz.ntmps144;have Hb:=hbz w;go_wp2_with fail;refine Py w (Hb.an trivial) 30 [ag s,ah l,af e] 30 [ag t,ah m,af f] 194 [af 0,ag false,.string (bs []),ag false,.string (bs [])] λW aR ae ak=>?_;have HT:=aj (hT.below ae.2.2.2.1.out);refine fT 4 ae (fH 6 0xa0806020501) ?_;refine cG ?_;refine cV ae (ZT.out _ (qU HT.out)) λw1 ae=>?_;refine cV ae (ZU.out _ (qU (hT.below ae.2.2.2.1.out))) λw2 ae=>?_;have ak:=qC ae;refine qOp λK hK=>?_;go_simp;refine hK _ _ (λh=>absurd h zd) ?_
 refine cB (aV w2 (w.heap.size) 0 [ag p,ah a,af i]) aX ?_;intro w3 hs0;have ae:=bU hs0 ae;simp only[bV,List.set]at ae;have ak:=qC ae;have ak:=qC ae;refine qOp λK hK=>?_;go_simp;refine hK _ _ (λh=>absurd h zd) ?_
 refine cB (aV w3 (w.heap.size+1) 0 [ag q,ah b,af j]) aX ?_;intro w4 hs0;have ae:=bU hs0 ae;simp only[bV,List.set]at ae;have ak:=qC ae;refine fR ae λak=>?_;have DL:=ae.2.2.1;clear HT ZT ZU;rcases hlv with⟨h1,h2⟩ |⟨h1,h3,h2⟩ |⟨h1,h3,h2⟩
 . obtain⟨rfl,rfl,rfl⟩:=zA h1;subst h2;have z1:(bs []).toList=[]:=jT _;clear zA zB nA nB pA pB;have Hx:=ae.1;have Hy:=ae.2.1;have Hr:=ae.2.2.1;have Hb:=ae.2.2.2.1;obtain⟨ae,ak⟩:=qZ (Hx.an<|Hy.an<|Hr.an trivial);have aR:=qL (Hb.an ae);go_wp2_with fail;refine ik w4 (Hb.an ae) 194 [af g,ag false,.string (bs []),ag false,.string (bs [])] λW5 aR ae ak=>?_;have hns:w.heap.size+1+1<w4.heap.size:=DL.out.lt;obtain⟨Hn,Hb,Hx,Hy,Hr,_⟩:=ae;obtain⟨x0,gu,x1,gv,x2,iH⟩:=Hx.out.g3;obtain⟨y0,fA,y1,fB,y2,gQ⟩:=Hy.out.g3;obtain⟨r0,aO,r1,aQ,r2,dQ,r3,iG,r4,iR⟩:=Hr.out.g5;obtain⟨n0,mP,n1,mQ,n2,mR,n3,pj,n4,pk⟩:=Hn.out.g5;refine fh (λw'=>aH w' (w.heap.size) 0 (ag false)/\aH w' (w.heap.size) 1 (.string (bs []))/\aH w' (w.heap.size) 2 (af 0)/\aH w' (w.heap.size+1) 0 (ag q)/\aH w' (w.heap.size+1) 1 (ah b)/\aH w' (w.heap.size+1) 2 (af g)/\aH w' (w4.heap.size) 0 (af g)) (λi=>Nat.blt i 11) [(0,true),(1,true),(2,true),(4,true),(5,true),(6,true),(3,false),(8,true),(7,false),(9,false),(10,true),(11,false)] zk zk rfl zk zc ⟨x0,x1,x2,y0,y1,y2,n0⟩ ?_;iterate 6 (refine pT rfl rfl ?_ (by intro w' ⟨q0,q1,q2,q3,q4,q5,q6⟩;go_simp;try with_reducible rfl))
   refine aM rfl rfl (λK hK=>?_);go_simp;with_reducible refine(Fs false [] 0 g X HX.out _ La.out Rb.out (by first|exact(hT.below Hb.out) |exact aC.drew (hT.below Hb.out) |exact aC.alloc (hT.below Hb.out) _|exact aC.drew (aC.alloc (hT.below Hb.out) _) |exact aC.alloc (aC.drew (hT.below Hb.out)) _)).mono ?_
   rintro e w6 ⟨rfl,hq⟩;have ai:Bw W5 w6:=by first|exact hq|exact cu hq
   obtain⟨Hx,x0,gu,x1,gv,x2,iH⟩:=fP Hx ai;obtain⟨Hy,y0,fA,y1,fB,y2,gQ⟩:=fP Hy ai;replace Hr:=kB Hr ai;replace Hn:=kB Hn ai;obtain⟨r0,aO,r1,aQ,r2,dQ,r3,iG,r4,iR⟩:=Hr.out.g5;obtain⟨n0,mP,n1,mQ,n2,mR,n3,pj,n4,pk⟩:=Hn.out.g5;replace Hb:=aW Hb ai;refine hK _ _ (λ_=>⟨x0,x1,x2,y0,y1,y2,n0⟩) ?_
   refine pT rfl rfl ?_
   refine aM rfl rfl (λK hK=>?_);go_simp;with_reducible refine(Fs q b g g Y HY.out _ Lb.out Rc.out (by first|exact(hT.below Hb.out) |exact aC.drew (hT.below Hb.out) |exact aC.alloc (hT.below Hb.out) _|exact aC.drew (aC.alloc (hT.below Hb.out) _) |exact aC.alloc (aC.drew (hT.below Hb.out)) _)).mono ?_
   rintro e w7 ⟨rfl,hq⟩;have ai:Bw w6 w7:=by first|exact hq|exact cu hq
   obtain⟨Hx,x0,gu,x1,gv,x2,iH⟩:=fP Hx ai;obtain⟨Hy,y0,fA,y1,fB,y2,gQ⟩:=fP Hy ai;replace Hr:=kB Hr ai;replace Hn:=kB Hn ai;obtain⟨r0,aO,r1,aQ,r2,dQ,r3,iG,r4,iR⟩:=Hr.out.g5;obtain⟨n0,mP,n1,mQ,n2,mR,n3,pj,n4,pk⟩:=Hn.out.g5;replace Hb:=aW Hb ai;refine hK _ _ (λ_=>⟨x0,x1,x2,y0,y1,y2,n0⟩) ?_
   refine aM rfl rfl (λK hK=>?_);go_simp;refine hK _ _ (λ_=>⟨(aF zf (aF zf x0)),(aF zf (aF zf x1)),(aF zf (aF zf x2)),(aF zf (aF zf y0)),(aF zf (aF zf y1)),(aF zf (aF zf y2)),(aF zf (aF zf n0))⟩) ?_
   refine cB (aV w7 (w4.heap.size) 1 [ag (az X),ah (nt X.natAbs)]) aX ?_;intro w8 hs;replace Hx:=kS Hx hs zo;replace Hy:=kS Hy hs zo;replace Hr:=kS Hr hs zo;replace Hn:Hid (ar w8 (w4.heap.size) 194 [af g,ag (az X),ah (nt X.natAbs),ag false,.string (bs [])]):=Az Hn hs;obtain⟨x0,gu,x1,gv,x2,iH⟩:=Hx.out.g3;obtain⟨y0,fA,y1,fB,y2,gQ⟩:=Hy.out.g3;obtain⟨r0,aO,r1,aQ,r2,dQ,r3,iG,r4,iR⟩:=Hr.out.g5;obtain⟨n0,mP,n1,mQ,n2,mR,n3,pj,n4,pk⟩:=Hn.out.g5;replace Hb:=bS Hb hs ZS;clear hs;refine pT rfl rfl ?_
   refine aM rfl rfl (λK hK=>?_);go_simp;refine hK _ _ (λh=>absurd h zd) ?_
   refine cB (aV w8 (w4.heap.size) 3 [ag (az Y),ah (nt Y.natAbs)]) aX ?_;intro w9 hs;replace Hx:=kS Hx hs zo;replace Hy:=kS Hy hs zo;replace Hr:=kS Hr hs zo;replace Hn:Hid (ar w9 (w4.heap.size) 194 [af g,ag (az X),ah (nt X.natAbs),ag (az Y),ah (nt Y.natAbs)]):=Az Hn hs;obtain⟨x0,gu,x1,gv,x2,iH⟩:=Hx.out.g3;obtain⟨y0,fA,y1,fB,y2,gQ⟩:=Hy.out.g3;obtain⟨r0,aO,r1,aQ,r2,dQ,r3,iG,r4,iR⟩:=Hr.out.g5;obtain⟨n0,mP,n1,mQ,n2,mR,n3,pj,n4,pk⟩:=Hn.out.g5;replace Hb:=bS Hb hs ZS;clear hs;simp only[bH];go_wp2;exact bodyPost_ret (v:=.agg #[af g,ag (az X),ah (nt X.natAbs),ag (az Y),ah (nt Y.natAbs)]) (by simp[results,Tryz.results144,go_sem,r0,r1,r2,r3,r4]) rfl ⟨rfl,df⟩
 . obtain⟨rfl,rfl,rfl⟩:=zB h3;subst h2;have z1:(bs []).toList=[]:=jT _;have z2:¬(bs a).toList=[]:=by rw[jT];exact nA h1
   clear zA zB nA nB pA pB;have Hx:=ae.1;have Hy:=ae.2.1;have Hr:=ae.2.2.1;have Hb:=ae.2.2.2.1;obtain⟨ae,ak⟩:=qZ (Hx.an<|Hy.an<|Hr.an trivial);have aR:=qL (Hb.an ae);go_wp2_with fail;refine ik w4 (Hb.an ae) 194 [af g,ag false,.string (bs []),ag false,.string (bs [])] λW5 aR ae ak=>?_;have hns:w.heap.size+1+1<w4.heap.size:=DL.out.lt;obtain⟨Hn,Hb,Hx,Hy,Hr,_⟩:=ae;obtain⟨x0,gu,x1,gv,x2,iH⟩:=Hx.out.g3;obtain⟨y0,fA,y1,fB,y2,gQ⟩:=Hy.out.g3;obtain⟨r0,aO,r1,aQ,r2,dQ,r3,iG,r4,iR⟩:=Hr.out.g5;obtain⟨n0,mP,n1,mQ,n2,mR,n3,pj,n4,pk⟩:=Hn.out.g5;refine fh (λw'=>aH w' (w.heap.size) 0 (ag p)/\aH w' (w.heap.size) 1 (ah a)/\aH w' (w.heap.size) 2 (af g)/\aH w' (w.heap.size+1) 0 (ag false)/\aH w' (w.heap.size+1) 1 (.string (bs []))/\aH w' (w.heap.size+1) 2 (af 0)/\aH w' (w4.heap.size) 0 (af g)) (λi=>Nat.blt i 11) [(0,true),(1,true),(2,true),(4,true),(5,true),(6,true),(3,false),(8,true),(7,false),(9,false),(10,true),(11,false)] zk zk rfl zk zc ⟨x0,x1,x2,y0,y1,y2,n0⟩ ?_;iterate 6 (refine pT rfl rfl ?_ (by intro w' ⟨q0,q1,q2,q3,q4,q5,q6⟩;go_simp;try with_reducible rfl))
   refine aM rfl rfl (λK hK=>?_);go_simp;with_reducible refine(Fs p a g g X HX.out _ La.out Rb.out (by first|exact(hT.below Hb.out) |exact aC.drew (hT.below Hb.out) |exact aC.alloc (hT.below Hb.out) _|exact aC.drew (aC.alloc (hT.below Hb.out) _) |exact aC.alloc (aC.drew (hT.below Hb.out)) _)).mono ?_
   rintro e w6 ⟨rfl,hq⟩;have ai:Bw W5 w6:=by first|exact hq|exact cu hq
   obtain⟨Hx,x0,gu,x1,gv,x2,iH⟩:=fP Hx ai;obtain⟨Hy,y0,fA,y1,fB,y2,gQ⟩:=fP Hy ai;replace Hr:=kB Hr ai;replace Hn:=kB Hn ai;obtain⟨r0,aO,r1,aQ,r2,dQ,r3,iG,r4,iR⟩:=Hr.out.g5;obtain⟨n0,mP,n1,mQ,n2,mR,n3,pj,n4,pk⟩:=Hn.out.g5;replace Hb:=aW Hb ai;refine hK _ _ (λ_=>⟨x0,x1,x2,y0,y1,y2,n0⟩) ?_
   refine pT rfl rfl ?_
   refine aM rfl rfl (λK hK=>?_);go_simp;with_reducible refine(Fs false [] 0 g Y HY.out _ Lb.out Rc.out (by first|exact(hT.below Hb.out) |exact aC.drew (hT.below Hb.out) |exact aC.alloc (hT.below Hb.out) _|exact aC.drew (aC.alloc (hT.below Hb.out) _) |exact aC.alloc (aC.drew (hT.below Hb.out)) _)).mono ?_
   rintro e w7 ⟨rfl,hq⟩;have ai:Bw w6 w7:=by first|exact hq|exact cu hq
   obtain⟨Hx,x0,gu,x1,gv,x2,iH⟩:=fP Hx ai;obtain⟨Hy,y0,fA,y1,fB,y2,gQ⟩:=fP Hy ai;replace Hr:=kB Hr ai;replace Hn:=kB Hn ai;obtain⟨r0,aO,r1,aQ,r2,dQ,r3,iG,r4,iR⟩:=Hr.out.g5;obtain⟨n0,mP,n1,mQ,n2,mR,n3,pj,n4,pk⟩:=Hn.out.g5;replace Hb:=aW Hb ai;refine hK _ _ (λ_=>⟨x0,x1,x2,y0,y1,y2,n0⟩) ?_
   refine aM rfl rfl (λK hK=>?_);go_simp;refine hK _ _ (λ_=>⟨(aF zf (aF zf x0)),(aF zf (aF zf x1)),(aF zf (aF zf x2)),(aF zf (aF zf y0)),(aF zf (aF zf y1)),(aF zf (aF zf y2)),(aF zf (aF zf n0))⟩) ?_
   refine cB (aV w7 (w4.heap.size) 1 [ag (az X),ah (nt X.natAbs)]) aX ?_;intro w8 hs;replace Hx:=kS Hx hs zo;replace Hy:=kS Hy hs zo;replace Hr:=kS Hr hs zo;replace Hn:Hid (ar w8 (w4.heap.size) 194 [af g,ag (az X),ah (nt X.natAbs),ag false,.string (bs [])]):=Az Hn hs;obtain⟨x0,gu,x1,gv,x2,iH⟩:=Hx.out.g3;obtain⟨y0,fA,y1,fB,y2,gQ⟩:=Hy.out.g3;obtain⟨r0,aO,r1,aQ,r2,dQ,r3,iG,r4,iR⟩:=Hr.out.g5;obtain⟨n0,mP,n1,mQ,n2,mR,n3,pj,n4,pk⟩:=Hn.out.g5;replace Hb:=bS Hb hs ZS;clear hs;refine pT rfl rfl ?_
   refine aM rfl rfl (λK hK=>?_);go_simp;refine hK _ _ (λh=>absurd h zd) ?_
   refine cB (aV w8 (w4.heap.size) 3 [ag (az Y),ah (nt Y.natAbs)]) aX ?_;intro w9 hs;replace Hx:=kS Hx hs zo;replace Hy:=kS Hy hs zo;replace Hr:=kS Hr hs zo;replace Hn:Hid (ar w9 (w4.heap.size) 194 [af g,ag (az X),ah (nt X.natAbs),ag (az Y),ah (nt Y.natAbs)]):=Az Hn hs;obtain⟨x0,gu,x1,gv,x2,iH⟩:=Hx.out.g3;obtain⟨y0,fA,y1,fB,y2,gQ⟩:=Hy.out.g3;obtain⟨r0,aO,r1,aQ,r2,dQ,r3,iG,r4,iR⟩:=Hr.out.g5;obtain⟨n0,mP,n1,mQ,n2,mR,n3,pj,n4,pk⟩:=Hn.out.g5;replace Hb:=bS Hb hs ZS;clear hs;simp only[bH];go_wp2;exact bodyPost_ret (v:=.agg #[af g,ag (az X),ah (nt X.natAbs),ag (az Y),ah (nt Y.natAbs)]) (by simp[results,Tryz.results144,go_sem,r0,r1,r2,r3,r4]) rfl ⟨rfl,df⟩
 . have z1:¬(bs b).toList=[]:=by rw[jT];exact nB h3
   have z2:¬(bs a).toList=[]:=by rw[jT];exact nA h1
   have z3:min i j=g:=h2.symm;clear zA zB nA nB pA pB h2;have Hx:=ae.1;have Hy:=ae.2.1;have Hr:=ae.2.2.1;have Hb:=ae.2.2.2.1;obtain⟨ae,ak⟩:=qZ (Hx.an<|Hy.an<|Hr.an trivial);have aR:=qL (Hb.an ae);go_wp2_with fail;refine ik w4 (Hb.an ae) 194 [af g,ag false,.string (bs []),ag false,.string (bs [])] λW5 aR ae ak=>?_;have hns:w.heap.size+1+1<w4.heap.size:=DL.out.lt;obtain⟨Hn,Hb,Hx,Hy,Hr,_⟩:=ae;obtain⟨x0,gu,x1,gv,x2,iH⟩:=Hx.out.g3;obtain⟨y0,fA,y1,fB,y2,gQ⟩:=Hy.out.g3;obtain⟨r0,aO,r1,aQ,r2,dQ,r3,iG,r4,iR⟩:=Hr.out.g5;obtain⟨n0,mP,n1,mQ,n2,mR,n3,pj,n4,pk⟩:=Hn.out.g5;refine fh (λw'=>aH w' (w.heap.size) 0 (ag p)/\aH w' (w.heap.size) 1 (ah a)/\aH w' (w.heap.size) 2 (af i)/\aH w' (w.heap.size+1) 0 (ag q)/\aH w' (w.heap.size+1) 1 (ah b)/\aH w' (w.heap.size+1) 2 (af j)/\aH w' (w4.heap.size) 0 (af g)) (λi=>Nat.blt i 11) [(0,true),(1,true),(2,true),(4,true),(5,true),(6,true),(3,false),(8,true),(7,false),(9,false),(10,true),(11,false)] zk zk rfl zk zc ⟨x0,x1,x2,y0,y1,y2,n0⟩ ?_;iterate 6 (refine pT rfl rfl ?_ (by intro w' ⟨q0,q1,q2,q3,q4,q5,q6⟩;go_simp;try with_reducible rfl))
   refine aM rfl rfl (λK hK=>?_);go_simp;with_reducible refine(Fs p a i g X HX.out _ La.out Rb.out (by first|exact(hT.below Hb.out) |exact aC.drew (hT.below Hb.out) |exact aC.alloc (hT.below Hb.out) _|exact aC.drew (aC.alloc (hT.below Hb.out) _) |exact aC.alloc (aC.drew (hT.below Hb.out)) _)).mono ?_
   rintro e w6 ⟨rfl,hq⟩;have ai:Bw W5 w6:=by first|exact hq|exact cu hq
   obtain⟨Hx,x0,gu,x1,gv,x2,iH⟩:=fP Hx ai;obtain⟨Hy,y0,fA,y1,fB,y2,gQ⟩:=fP Hy ai;replace Hr:=kB Hr ai;replace Hn:=kB Hn ai;obtain⟨r0,aO,r1,aQ,r2,dQ,r3,iG,r4,iR⟩:=Hr.out.g5;obtain⟨n0,mP,n1,mQ,n2,mR,n3,pj,n4,pk⟩:=Hn.out.g5;replace Hb:=aW Hb ai;refine hK _ _ (λ_=>⟨x0,x1,x2,y0,y1,y2,n0⟩) ?_
   refine pT rfl rfl ?_
   refine aM rfl rfl (λK hK=>?_);go_simp;with_reducible refine(Fs q b j g Y HY.out _ Lb.out Rc.out (by first|exact(hT.below Hb.out) |exact aC.drew (hT.below Hb.out) |exact aC.alloc (hT.below Hb.out) _|exact aC.drew (aC.alloc (hT.below Hb.out) _) |exact aC.alloc (aC.drew (hT.below Hb.out)) _)).mono ?_
   rintro e w7 ⟨rfl,hq⟩;have ai:Bw w6 w7:=by first|exact hq|exact cu hq
   obtain⟨Hx,x0,gu,x1,gv,x2,iH⟩:=fP Hx ai;obtain⟨Hy,y0,fA,y1,fB,y2,gQ⟩:=fP Hy ai;replace Hr:=kB Hr ai;replace Hn:=kB Hn ai;obtain⟨r0,aO,r1,aQ,r2,dQ,r3,iG,r4,iR⟩:=Hr.out.g5;obtain⟨n0,mP,n1,mQ,n2,mR,n3,pj,n4,pk⟩:=Hn.out.g5;replace Hb:=aW Hb ai;refine hK _ _ (λ_=>⟨x0,x1,x2,y0,y1,y2,n0⟩) ?_
   refine aM rfl rfl (λK hK=>?_);go_simp;refine hK _ _ (λ_=>⟨(aF zf (aF zf x0)),(aF zf (aF zf x1)),(aF zf (aF zf x2)),(aF zf (aF zf y0)),(aF zf (aF zf y1)),(aF zf (aF zf y2)),(aF zf (aF zf n0))⟩) ?_
   refine cB (aV w7 (w4.heap.size) 1 [ag (az X),ah (nt X.natAbs)]) aX ?_;intro w8 hs;replace Hx:=kS Hx hs zo;replace Hy:=kS Hy hs zo;replace Hr:=kS Hr hs zo;replace Hn:Hid (ar w8 (w4.heap.size) 194 [af g,ag (az X),ah (nt X.natAbs),ag false,.string (bs [])]):=Az Hn hs;obtain⟨x0,gu,x1,gv,x2,iH⟩:=Hx.out.g3;obtain⟨y0,fA,y1,fB,y2,gQ⟩:=Hy.out.g3;obtain⟨r0,aO,r1,aQ,r2,dQ,r3,iG,r4,iR⟩:=Hr.out.g5;obtain⟨n0,mP,n1,mQ,n2,mR,n3,pj,n4,pk⟩:=Hn.out.g5;replace Hb:=bS Hb hs ZS;clear hs;refine pT rfl rfl ?_
   refine aM rfl rfl (λK hK=>?_);go_simp;refine hK _ _ (λh=>absurd h zd) ?_
   refine cB (aV w8 (w4.heap.size) 3 [ag (az Y),ah (nt Y.natAbs)]) aX ?_;intro w9 hs;replace Hx:=kS Hx hs zo;replace Hy:=kS Hy hs zo;replace Hr:=kS Hr hs zo;replace Hn:Hid (ar w9 (w4.heap.size) 194 [af g,ag (az X),ah (nt X.natAbs),ag (az Y),ah (nt Y.natAbs)]):=Az Hn hs;obtain⟨x0,gu,x1,gv,x2,iH⟩:=Hx.out.g3;obtain⟨y0,fA,y1,fB,y2,gQ⟩:=Hy.out.g3;obtain⟨r0,aO,r1,aQ,r2,dQ,r3,iG,r4,iR⟩:=Hr.out.g5;obtain⟨n0,mP,n1,mQ,n2,mR,n3,pj,n4,pk⟩:=Hn.out.g5;replace Hb:=bS Hb hs ZS;clear hs;simp only[bH];go_wp2;exact bodyPost_ret (v:=.agg #[af g,ag (az X),ah (nt X.natAbs),ag (az Y),ah (nt Y.natAbs)]) (by simp[results,Tryz.results144,go_sem,r0,r1,r2,r3,r4]) rfl ⟨rfl,df⟩
end Go.Proofs.YtbkopgdpcijfbaaGreatDoor
