/- Package tri: the longest edge. -/
import Derived.Test.YtoopepmmepmfnaaGreatDoorZ11
import Derived.Test.YtoopepmmepmfnaaGreatDoorZ1
import Derived.Test.YtoopepmmepmfnaaGreatDoorZ9
set_option linter.unusedVariables false
set_option linter.unusedSimpArgs false
set_option maxRecDepth 100000
set_option maxHeartbeats 16000000
namespace Go.Proofs.YtoopepmmepmfnaaGreatDoor
open Go.RowKit
attribute [local go_sem ↓] Go.wp_at_zero Go.wp_at_succ
def gq (rows:List (List Raw))(n a b:Nat):Dyadic:=ov ((rows.getD a []).map az) ((rows.getD b []).map az) n
def xY (sq:Nat->Nat->Dyadic)(a b:Nat)(s:Nat×Nat×Dyadic):Nat×Nat×Dyadic:=if 0<bA (sq a b-s.2.2)then(a,b,sq a b)else s
def uI (sq:Nat->Nat->Dyadic)(a:Nat):Nat->Nat->Nat×Nat×Dyadic->Nat×Nat×Dyadic
 |0,_,s=>s
 |k+1,b,s=>uI sq a k (b+1) (xY sq a b s)
def pu (sq:Nat->Nat->Dyadic)(L:Nat):Nat->Nat->Nat×Nat×Dyadic->Nat×Nat×Dyadic
 |0,_,s=>s
 |k+1,a,s=>pu sq L k (a+1) (uI sq a (L-(a+1)) (a+1) s)
def iP (sq:Nat->Nat->Dyadic)(L:Nat):Nat×Nat×Dyadic:=pu sq L L 0 (0,1,sq 0 1)
theorem am8 (sq:Nat->Nat->Dyadic)(Q:Nat×Nat×Dyadic->Prop)(L a k b:Nat)(s:Nat×Nat×Dyadic)(hs:Q s)(hab:a<b)(hb:b+k<=L)(h:∀a b,a<b->b<L->Q (a,b,sq a b)):Q (uI sq a k b s):=by
 induction k generalizing b s with
 |zero=>exact hs
 | succ k ih=>
   unfold uI;refine ih (b+1) _ ?_ zo zo;unfold xY;split
   . exact h a b hab zo
   . exact hs
theorem am7 (sq:Nat->Nat->Dyadic)(Q:Nat×Nat×Dyadic->Prop)(L k a:Nat)(s:Nat×Nat×Dyadic)(hs:Q s)(hb:a+k<=L)(h:∀a b,a<b->b<L->Q (a,b,sq a b)):Q (pu sq L k a s):=by
 induction k generalizing a s with
 |zero=>exact hs
 |succ k ih=>unfold pu;exact ih (a+1) _ (am8 sq Q L a _ (a+1) s hs zo zo h) zo
theorem am9 (sq:Nat->Nat->Dyadic)(L:Nat)(hL:2<=L):(iP sq L).1<(iP sq L).2.1/\(iP sq L).2.1<L/\(iP sq L).2.2=sq (iP sq L).1 (iP sq L).2.1:=
 am7 sq (λs=>s.1<s.2.1/\s.2.1<L/\s.2.2=sq s.1 s.2.1) L L 0 (0,1,sq 0 1) ⟨Nat.zero_lt_one,hL,rfl⟩ zo (λa b h1 h2=>⟨h1,h2,rfl⟩)
abbrev Fb (s:Nat×Nat×Dyadic):List Value:=[af (s.1:Int),af (s.2.1:Int),ag (au (dN s.2.2)),ah (nt (dN s.2.2).natAbs),af (dE s.2.2)]
theorem At.drew {w:World}{a:Option Addr}{cs:List Value}(h:At w a cs):At w.drew a cs:=h
theorem At.alloc {w:World}{a:Option Addr}{cs:List Value}(h:At w a cs)(o:Obj):At (w.alloc o) a cs:=h.below zl
theorem aqJ (rows:List (List Raw))(n B x y:Nat)(a:Option Addr)(cap:Nat)(a':Option Addr)(cap':Nat)(D:Dyadic)(w:World)(hx:x<rows.length)(hy:y<rows.length)(hn:n<=8)(hrow:∀r∈rows,r.length=n)(hfit:∀r∈rows,∀c∈r,Fit B c)(hB:B<=10000000)
 (hD:gq rows n x y=D) (ha:At w a (rows[x].flatMap bI)) (ha':At w a' (rows[y].flatMap bI)) (hT:aH w):
 Calls Tryz.prog 157 #[.slice a rows[x].length cap,.slice a' rows[y].length cap'] w λe w'=>e=.returned (bL D)/\Bw w w':=by
 have h1:=hrow _ (List.getElem_mem hx);have h2:=hrow _ (List.getElem_mem hy);have e1:rows.getD x []=rows[x]:=by simp[hx]
 have e2:rows.getD y []=rows[y]:=by simp[hy]
 unfold gq at hD;rw[e1,e2]at hD;rw[h1,h2,<-hD];exact aqI a n cap rows[x] a' cap' rows[y] B w h1 h2 hn ha ha' (hfit _ (List.getElem_mem hx)) (hfit _ (List.getElem_mem hy)) hB hT
theorem acU {rows:List (List Raw)}{n B:Nat}(hfit:∀r∈rows,∀c∈r,Fit B c)(x y:Nat):Sm (2*B+2+n) (gq rows n x y):=by
 have h:∀z,∀c∈(rows.getD z []).map az,Sm B c:=λz c hc=>by
  obtain⟨u,hu,rfl⟩:=List.mem_map.1 hc;by_cases hz:z<rows.length
  . have e:rows.getD z []=rows[z]:=by simp[hz]
    rw[e]at hu;exact(hfit _ (List.getElem_mem hz) u hu).2
  . have e:rows.getD z []=[]:=by simp[List.getD_eq_getElem?_getD,List.getElem?_eq_none (by omega:rows.length<=z)]
    rw[e]at hu;cases hu
 exact Mj (h x) (h y) n
theorem anc (a:Option Addr)(L cap n:Nat)(rows:List (List Raw))(B:Nat)(w:World)(hL:rows.length=L)(hL2:2<=L)(KD:L<=9)(hn:n<=8)(hrow:∀r∈rows,r.length=n)(ha:cC w a rows)
 (hfit:∀r∈rows,∀c∈r,Fit B c) (hB:B<=10000000) (hT:aH w):
 Calls Tryz.prog 102 #[.slice a L cap] w λe w'=>e=.returned (.agg (Fb (iP (gq rows n) L)).toArray)/\Bw w w':=by
 obtain⟨sq,mQ⟩:=aG (gq rows n);have hsm:∀x y,Sm (2*B+10) (sq x y):=λx y=>by rw[<-mQ];exact(acU hfit x y).mono zo
 have hcall:∀x y (hx:x<rows.length) (hy:y<rows.length) (a1:Option Addr) (c1:Nat) (a2:Option Addr) (c2:Nat) (W:World),At W a1 (rows[x].flatMap bI)->At W a2 (rows[y].flatMap bI)->aH W->
  Calls Tryz.prog 157 #[.slice a1 rows[x].length c1,.slice a2 rows[y].length c2] W λe w'=>e=.returned (bL (sq x y))/\Bw W w':=λx y hx hy a1 c1 a2 c2 W h1 h2 h3=>
  aqJ rows n B x y a1 c1 a2 c2 (sq x y) W hx hy hn hrow hfit hB (by rw[<-mQ]) h1 h2 h3
 obtain⟨F,hF⟩:=aG (iP (gq rows n) L);rw[hF];rw[mQ]at hF;obtain⟨HL,Ha,pP,kY,HF,HT,fV⟩:=jT hL ha hsm hcall hF hT hT;clear hL ha hsm hcall hF hT hfit hrow mQ;obtain⟨X,hX⟩:=aG (sq 0 1);have HX:=ai hX;clear hX;obtain⟨W,cg,Hb,Hr⟩:=fJ w 136 [af 0,af 0,ag false,.string ⟨#[]⟩,af 0];obtain⟨r0,aj,r1,ak,r2,aF,r3,cj,r4,cB⟩:=Hr.out.g5;have HT:Hid (aH W):=HT.out.below Hb.out;have HS:Hid (cC W a rows):=Ha.out.below Hb.out;go_enter Tryz.func102,Tryz.ntmps102;have lr:=Hr.out.lt;obtain⟨b0,o0,a1,c1,gH,hc0,jQ⟩:=HS.out.row 0 (by rw[HL.out];omega);obtain⟨iL,ja,a2,c2,eG,hc1,lj⟩:=HS.out.row 1 (by rw[HL.out];omega);obtain⟨rfl,rfl⟩:iL=b0/\ja=o0:=by rw[gH]at eG;simp at eG;exact⟨eG.1.symm,eG.2.symm⟩
 clear eG;have i0:=kO L cap 0 0 gH zo rfl;have i1:=kO L cap 1 1 gH zo rfl;rw[Nat.mul_one]at i0 i1;rw[Nat.add_zero]at i0 hc0;have mD:=ai gH;have CY:iL<W.heap.size:=World.block_lt_of_cell? W _ hc0;have vV:=λW'=>kY.out 0 1 (by rw[HL.out];omega) (by rw[HL.out];omega) a1 c1 a2 c2 W';rw[HX.out]at vV;obtain⟨n0,hn0⟩:=aG ((rows[0]'(by rw[HL.out];omega)).length);obtain⟨n1,gj⟩:=aG ((rows[1]'(by rw[HL.out];omega)).length);rw[hn0]at hc0;rw[gj]at hc1;simp only[hn0,gj]at vV;obtain⟨za,kw,pJ⟩:=cL vV jQ lj;have Hu:Hid (bH W iL ja [.slice a1 n0 c1]):=λj hj=>by
  obtain rfl:j=0:=by simp at hj;omega
  exact hc0
 have Hv:Hid (bH W iL (ja+1) [.slice a2 n1 c2]):=λj hj=>by
  obtain rfl:j=0:=by simp at hj;omega
  exact hc1
 clear vV jQ lj gH hn0 gj hc0 hc1;go_upto_region 1 with fail
 go_cut[3] (λs3 wx=>∃g:Nat,s3=.pointer (some ⟨g,0,none⟩)/\W.heap.size<=g/\ar wx g 136 (Fb (0,1,X))/\Bw W wx);case first=>
  have u0:=Hu.out.w1;have v0:=Hv.out.w1;have HT:Hid (aH W):=HT.out;refine Mx (λw'=>aC w' iL ja (.slice a1 n0 c1)/\aC w' iL (ja+1) (.slice a2 n1 c2)) (λi=>Nat.blt i 10) 7 9 [(8,true),(9,false),(10,false)] [(7,false),(8,true),(10,false)] [0,1,2,3,4,5,6] zk zk rfl rfl zk zc ⟨u0,v0⟩ ?_;iterate 7 (refine Mc rfl rfl (v:=?_) (λw' hw'=>?_) ?_;rotate_left;(focus obtain⟨q0,q1⟩:=hw';go_simp;try with_reducible rfl))
  refine Mb rfl rfl rfl rfl (λK hK=>?_) (λK hK=>?_)
  . go_simp;with_reducible refine(za.out _ (by first|exact kw.out|exact At.drew kw.out) (by first|exact pJ.out|exact At.drew pJ.out) (by first|exact HT.out|exact aH.drew HT.out|exact aH.alloc HT.out _|exact aH.drew (aH.alloc HT.out _) |exact aH.alloc (aH.drew HT.out) _)).mono ?_
    rintro e w5 ⟨rfl,hq⟩;have cn:Bw W w5:=aW hq;refine hK _ _ ⟨cell_later cn u0,cell_later cn v0⟩ ?_
    refine pT rfl rfl ?_
    refine aI rfl rfl (λK hK=>?_);go_simp;refine hK _ _ (λ_=>⟨aL (cell_later cn u0),aL (cell_later cn v0)⟩) ?_
    refine aI rfl rfl (λK hK=>?_);go_simp;refine hK _ _ (λh=>absurd h zd) ?_;simp only[bi];go_wp2_with fail;go_meet;exact⟨w5.heap.size,rfl,cn.size,ar.new _ _ _,cn.alloc cn.size _⟩
  . go_simp;refine hK _ _ ⟨aL u0,aL v0⟩ ?_
    refine aI rfl rfl (λK hK=>?_);go_simp;with_reducible refine(za.out (W.alloc (.cells #[af 0,af 0,ag false,.string ⟨#[]⟩,af 0] 136)).drew (kw.out.alloc _).drew (pJ.out.alloc _).drew (by first|exact HT.out|exact aH.drew HT.out|exact aH.alloc HT.out _|exact aH.drew (aH.alloc HT.out _) |exact aH.alloc (aH.drew HT.out) _)).mono ?_
    rintro e w5 ⟨rfl,hq⟩;have cn:Bw W w5:=rE hq;have Hn:ar w5 W.heap.size 136 [af 0,af 0,ag false,.string ⟨#[]⟩,af 0]:=ar.below (ar.new W.drew 136 [af 0,af 0,ag false,.string ⟨#[]⟩,af 0]) hq;have n0':=Hn.cell 0;have AE:=Hn.cell 1;have AG:=Hn.cell 2;have n3':=Hn.cell 3;have n4':=Hn.cell 4;have gv:=Hn.free 0;have gw:=Hn.free 1;have gy:=Hn.free 2;have ij:=Hn.free 3;have ik:=Hn.free 4;refine hK _ _ (λ_=>⟨cell_later cn u0,cell_later cn v0⟩) ?_
    refine pT rfl rfl ?_
    refine aI rfl rfl (λK hK=>?_);go_simp;refine hK _ _ (λh=>absurd h zd) ?_;simp only[bi];go_wp2_with fail;go_meet;exact⟨W.heap.size,rfl,Nat.le_refl _,((((Hn.set 0 _).set 1 _).set 2 _).set 3 _).set 4 _,((((cn.sc W.heap.size 0 (Nat.le_refl _) _).sc W.heap.size 1 (Nat.le_refl _) _).sc W.heap.size 2 (Nat.le_refl _) _).sc W.heap.size 3 (Nat.le_refl _) _).sc W.heap.size 4 (Nat.le_refl _) _⟩
 case rest=>
  obtain⟨g,rfl,hg,qd,qb⟩:=hcut;have Hd:=ai qd;replace Hr:=ai (Hr.out.below qb);replace Hb:=ai (aJ Hb.out qb);have lg:=Hd.out.lt;have lr2:=Hr.out.lt;have szW:=qb.size;clear qd qb r0 r1 r2 r3 r4 aj ak aF cj cB i0 i1 za kw pJ Hu Hv mD HS HT;have Un:Hid (Sm (2*B+10) X):=by rw[<-HX.out];exact pP.out 0 1
  have IW:Hid (pu sq L (L-0) 0 (0,1,X)=F):=by rw[<-HX.out];exact HF.out
  go_wp2_with fail;go_loopw[18] (λx wr=>∃(k:Nat) (s:Nat×Nat×Dyadic),k<=L/\x=af (k:Int)/\pu sq L (L-k) k s=F/\Sm (2*B+10) s.2.2/\ar wr w.heap.size 136 [af 0,af 0,ag false,.string ⟨#[]⟩,af 0]/\ar wr g 136 (Fb s)/\Bw w wr) (λx _=>L-(intOf x).toNat);case atStart=>exact⟨0,(0,1,X),Nat.zero_le _,rfl,IW.out,Un.out,Hr.out,Hd.out,Hb.out⟩
  case round=>
   clear Hr Hd Hb IW Un;obtain⟨k,s,hk,rfl,hF,hs,pr,pd,pb⟩:=hrel;by_cases hlt:k<L
   . obtain⟨Hr,Hd,Hb,Hs⟩:=dx pr pd pb hs;have wI:Hid (pu sq L (L-(k+1)) (k+1) (uI sq k (L-(k+1)) (k+1) s)=F):=by rw[show L-k=L-(k+1)+1 by omega]at hF;exact hF
     clear pr pd pb hs hF;go_wp2_with fail;go_loopw[5] (λx wr=>∃(b:Nat) (s:Nat×Nat×Dyadic),b<=L/\k<b/\x=af (b:Int)/\pu sq L (L-(k+1)) (k+1) (uI sq k (L-b) b s)=F/\Sm (2*B+10) s.2.2/\ar wr w.heap.size 136 [af 0,af 0,ag false,.string ⟨#[]⟩,af 0]/\ar wr g 136 (Fb s)/\Bw w wr) (λx _=>L-(intOf x).toNat);case atStart=>exact⟨k+1,s,by omega,by omega,by go_num,wI.out,Hs.out,Hr.out,Hd.out,Hb.out⟩
     case round=>
      clear Hr Hd Hb wI Hs;obtain⟨b,s,hb1,hb2,rfl,hF,hs,pr,pd,pb⟩:=hrel;obtain⟨Hr,Hd,Hb,Hs,DV⟩:=gJ pr pd pb hs hF;clear pr pd pb hs hF;by_cases bG:b<L
      . obtain⟨b0,o0,a1,c1,gH,hc0,jQ⟩:=(Ha.out.below Hb.out).row k (by rw[HL.out];omega);obtain⟨iL,ja,a2,c2,eG,hc1,lj⟩:=(Ha.out.below Hb.out).row b (by rw[HL.out];omega);obtain⟨rfl,rfl⟩:iL=b0/\ja=o0:=by rw[gH]at eG;simp at eG;exact⟨eG.1.symm,eG.2.symm⟩
        clear eG;have i0:=kO L cap k (k:Int) gH hlt rfl;have i1:=kO L cap b (b:Int) gH bG rfl;rw[Nat.mul_one]at i0 i1;have vV:=λW'=>kY.out k b (by rw[HL.out];omega) (by rw[HL.out];omega) a1 c1 a2 c2 W';obtain⟨Y,hY⟩:=aG (sq k b);have fT:=pP.out k b;rw[hY]at vV fT;obtain⟨n0,hn0⟩:=aG ((rows[k]'(by rw[HL.out];omega)).length);obtain⟨n1,gj⟩:=aG ((rows[b]'(by rw[HL.out];omega)).length);rw[hn0]at hc0;rw[gj]at hc1;simp only[hn0,gj]at vV;obtain⟨za,kw,pJ,HY,sw,HT⟩:=gW vV jQ lj hY fT (fV.out.below Hb.out);have Hu:Hid (bH wr iL (ja+k) [.slice a1 n0 c1]):=λj hj=>by
         obtain rfl:j=0:=by simp at hj;omega
         exact hc0
        have Hv:Hid (bH wr iL (ja+b) [.slice a2 n1 c2]):=λj hj=>by
         obtain rfl:j=0:=by simp at hj;omega
         exact hc1
        clear vV jQ lj gH hn0 gj hc0 hc1 hY fT;have ls1:=Hr.out.lt;have RX:=Hd.out.lt;go_upto_region 8 with fail
        go_cut[6] (λs6 wx=>∃g':Nat,s6=.pointer (some ⟨g',0,none⟩)/\wr.heap.size<=g'/\ar wx g' 39 [ag (au (dN Y)),ah (nt (dN Y).natAbs),af (dE Y)]/\Bw wr wx);case first=>
         have u0:=Hu.out.w1;have v0:=Hv.out.w1;refine Mx (λw'=>aC w' iL (ja+k) (.slice a1 n0 c1)/\aC w' iL (ja+b) (.slice a2 n1 c2)) (λi=>Nat.blt i 10) 8 9 [(9,false),(10,false)] [(8,false),(10,false)] [0,1,2,3,4,5,6,7] zk zk rfl rfl zk zc ⟨u0,v0⟩ ?_;iterate 8 (refine Mc rfl rfl (v:=?_) (λw' hw'=>?_) ?_;rotate_left;(focus obtain⟨q0,q1⟩:=hw';go_simp;try with_reducible rfl))
         refine Mb rfl rfl rfl rfl (λK hK=>?_) (λK hK=>?_)
         . go_simp;with_reducible refine(za.out _ (by first|exact kw.out|exact At.drew kw.out) (by first|exact pJ.out|exact At.drew pJ.out) (by first|exact HT.out|exact aH.drew HT.out|exact aH.alloc HT.out _|exact aH.drew (aH.alloc HT.out _) |exact aH.alloc (aH.drew HT.out) _)).mono ?_
           rintro e w5 ⟨rfl,hq⟩;have cn:Bw wr w5:=aW hq;refine hK _ _ ⟨cell_later cn u0,cell_later cn v0⟩ ?_
           refine aI rfl rfl (λK hK=>?_);go_simp;refine hK _ _ (λ_=>⟨aL (cell_later cn u0),aL (cell_later cn v0)⟩) ?_
           refine aI rfl rfl (λK hK=>?_);go_simp;refine hK _ _ (λh=>absurd h zd) ?_;simp only[bi];go_wp2_with fail;go_meet;exact⟨w5.heap.size,rfl,cn.size,ar.new _ _ _,cn.alloc cn.size _⟩
         . go_simp;refine hK _ _ ⟨aL u0,aL v0⟩ ?_
           refine aI rfl rfl (λK hK=>?_);go_simp;with_reducible refine(za.out (wr.alloc (.cells #[ag false,.string ⟨#[]⟩,af 0] 39)).drew (kw.out.alloc _).drew (pJ.out.alloc _).drew (by first|exact HT.out|exact aH.drew HT.out|exact aH.alloc HT.out _|exact aH.drew (aH.alloc HT.out _) |exact aH.alloc (aH.drew HT.out) _)).mono ?_
           rintro e w5 ⟨rfl,hq⟩;have cn:Bw wr w5:=rE hq;have Hn:ar w5 wr.heap.size 39 [ag false,.string ⟨#[]⟩,af 0]:=ar.below (ar.new wr.drew 39 [ag false,.string ⟨#[]⟩,af 0]) hq;obtain⟨n0',gv,AE,gw,AG,gy⟩:=Hn.g3;refine hK _ _ (λ_=>⟨cell_later cn u0,cell_later cn v0⟩) ?_
           refine aI rfl rfl (λK hK=>?_);go_simp;refine hK _ _ (λh=>absurd h zd) ?_;simp only[bi];go_wp2_with fail;go_meet;exact⟨wr.heap.size,rfl,Nat.le_refl _,((Hn.set 0 _).set 1 _).set 2 _,((cn.sc wr.heap.size 0 (Nat.le_refl _) _).sc wr.heap.size 1 (Nat.le_refl _) _).sc wr.heap.size 2 (Nat.le_refl _) _⟩
        case rest=>
         obtain⟨g',rfl,hg',qn,qb⟩:=hcut;have Hn:=ai qn;replace Hr:=ai (Hr.out.below qb);replace Hd:=ai (Hd.out.below qb);replace Hb:=ai (aJ Hb.out qb);have Jc:=ai (HT.out.below qb);clear qn qb Hu Hv kw pJ za HT i0 i1;obtain⟨si,sj,sx⟩:=s;have HfY:Hid (Ok (au (dN Y),nt (dN Y).natAbs,dE Y)):=(sw.out.fit zo).1;have Nh:Hid (Ok (au (dN sx),nt (dN sx).natAbs,dE sx)):=(Hs.out.fit zo).1;obtain⟨c,hc⟩:=aG (bA (Y-sx));have HC:Hid (bA (az (au (dN Y),nt (dN Y).natAbs,dE Y)-az (au (dN sx),nt (dN sx).natAbs,dE sx))=c):=by
          show bA (az (canon Y)-az (canon sx))=c
          rw[bD,bD];exact hc
         have DW:Hid (pu sq L (L-(k+1)) (k+1) (uI sq k (L-(b+1)) (b+1) (xY sq k b (si,sj,sx)))=F):=by have h:=DV.out;rw[show L-b=L-(b+1)+1 by omega]at h;exact h
         have hstep:xY sq k b (si,sj,sx)=if 0<c then(k,b,Y)else(si,sj,sx):=by
          unfold xY;rw[HY.out];show(if 0<bA (Y-sx)then _ else _)=_
          rw[hc]
         have fW:=ai hstep;clear hc hstep;obtain⟨d0,rL,d1,rM,d2,rN,d3,Xg,d4,Xh⟩:=Hd.out.g5;obtain⟨n0,n1,n2⟩:=Hn.out.c3;obtain⟨r0,r1,r2,r3,r4⟩:=Hr.out.c5;go_wp2_with fail;refine(vD _ _ _ _ _ _ c HC.out _ HfY.out Nh.out Jc.out).mono ?_;rintro e w7 ⟨rfl,ae⟩;clear d0 rL d1 rM d2 rN d3 Xg d4 Xh n0 n1 n2 r0 r1 r2 r3 r4;replace Hd:=kB Hd ae;obtain⟨Hn,n0,n1,n2⟩:=aQ Hn ae;replace Hr:=kB Hr ae;obtain⟨d0,rL,d1,rM,d2,rN,d3,Xg,d4,Xh⟩:=Hd.out.g5;obtain⟨r0,r1,r2,r3,r4⟩:=Hr.out.c5;replace Hb:=aB Hb ae;clear ae;by_cases hc0:0<c
         . go_wp2;go_roundw;case rel=>
            refine⟨b+1,(k,b,Y),by omega,by omega,by go_num,?_,sw.out,?_,?_,?_⟩
            . have h:=DW.out;rw[fW.out,if_pos hc0]at h;exact h
            . exact((((Hr.out.so g 0 zo _).so g 1 zo _).so g 2 zo _).so g 3 zo _).so g 4 zo _
            . exact((((Hd.out.set 0 _).set 1 _).set 2 _).set 3 _).set 4 _
            . exact((((Hb.out.sc g 0 zo _).sc g 1 zo _).sc g 2 zo _).sc g 3 zo _).sc g 4 zo _
           case measure=>simp[intOf];omega
         . go_wp2;go_roundw;case rel=>refine⟨b+1,(si,sj,sx),by omega,by omega,by go_num,?_,Hs.out,Hr.out,Hd.out,Hb.out⟩;have h:=DW.out;rw[fW.out,if_neg zo]at h;exact h
           case measure=>simp[intOf];omega
      . obtain rfl:b=L:=by omega
        go_wp2;go_roundw;case rel=>refine⟨k+1,s,by omega,by go_num,?_,Hs.out,Hr.out,Hd.out,Hb.out⟩;have h:=DV.out;rw[Nat.sub_self]at h;exact h
        case measure=>simp[intOf];omega
   . obtain rfl:k=L:=by omega
     rw[Nat.sub_self]at hF;have IX:Hid (s=F):=hF;obtain⟨si,sj,sx⟩:=s;obtain⟨Hr,Hd,Hb⟩:=cL pr pd pb;clear pr pd pb hF hs;obtain⟨d0,d1,d2,d3,d4⟩:=Hd.out.c5;obtain⟨r0,aj,r1,ak,r2,aF,r3,cj,r4,cB⟩:=Hr.out.g5;go_wp2;clear d0 d1 d2 d3 d4 r0 aj r1 ak r2 aF r3 cj r4 cB;refine dW (bC wr (w.heap.size) 0 [af (si:Int),af (sj:Int),ag (au (dN sx)),ah (nt (dN sx).natAbs),af (dE sx)]) bJ ?_;intro w9 hs;replace Hd:=kS Hd hs zo;replace Hr:=bP Hr hs;obtain⟨d0,d1,d2,d3,d4⟩:=Hd.out.c5;obtain⟨r0,aj,r1,ak,r2,aF,r3,cj,r4,cB⟩:=Hr.out.g5;replace Hb:=bS Hb hs ZS;clear hs;refine bodyPost_ret (v:=.agg (Fb (si,sj,sx)).toArray) (by simp[results,Tryz.results102,go_sem,r0,r1,r2,r3,r4]) rfl ⟨by rw[<-IX.out],Hb.out⟩
theorem Tryz.axp :(Tryz.prog.info? 50).map (λi=>(i.zero,i.size,i.bytes))=some (some (.slice none 0 0),1,24):=by kernel_rfl
def mK (r:List Raw):List Raw:=r.map λx=>canon (az x)
theorem Xm (r:List Raw):(mK r).length=r.length:=by simp[mK]
theorem akt (r:List Raw):(mK r).flatMap bI=dC (r.map az):=by rw[vC,List.map_map];rfl
def Own2 (e:TypeId)(w:World)(base:Nat)(R:List (List Dyadic))(k:Nat)(v:Value):Prop:=
 ∃vals:List Value,vals.length=k/\w.ownsRow base e 1 v k vals/\∀i (h:i<vals.length),∃a c,vals[i]=.slice a (R.getD i []).length c/\At w a (dC (R.getD i []))/\∀b o,a=some ⟨b,o,none⟩->some b≠v.ownBlock/\b<w.heap.size
theorem Own2.nil (e:TypeId)(w:World)(base:Nat)(R:List (List Dyadic)):Own2 e w base R 0 (.slice none 0 0):=
 ⟨[],rfl,World.ownsRow_nil _ _ _ _,λ_ h=>absurd h (Nat.not_lt_zero _)⟩
theorem Own2.below {e:TypeId}{w w':World}{base k:Nat}{R:List (List Dyadic)}{v:Value}(h:Own2 e w base R k v)(hb:Bw w w'):Own2 e w' base R k v:=by obtain⟨vals,hl,ho,hi⟩:=h;refine⟨vals,hl,ownsRow_below ho hb,λi h=>?_⟩;obtain⟨a,c,h1,h2,h3⟩:=hi i h;exact⟨a,c,h1,h2.below hb,λb o e=>⟨(h3 b o e).1,Nat.lt_of_lt_of_le (h3 b o e).2 hb.size⟩⟩
theorem Own2.push {e:TypeId}{w w':World}{base k:Nat}{R:List (List Dyadic)}{v v':Value}{vals:List Value}(hl:vals.length=k)(hi:∀i (h:i<vals.length),∃a c,vals[i]=.slice a (R.getD i []).length c/\At w a (dC (R.getD i []))/\∀b o,a=some ⟨b,o,none⟩->some b≠v.ownBlock/\b<w.heap.size)
 {a:Option Addr} {c:Nat} (ha:At w a (dC (R.getD k []))) (hab:∀b o,a=some ⟨b,o,none⟩->some b≠v.ownBlock/\b<w.heap.size)
 (ho:w'.ownsRow base e 1 v' (k+1) (vals++[.slice a (R.getD k []).length c])) (hg:w.grownBy w' v.ownBlock) (iE:v'.ownBlock=v.ownBlock\/v'.ownBlock=some w.heap.size):Own2 e w' base R (k+1) v':=by
 have hne:∀b,some b≠v.ownBlock->b<w.heap.size->some b≠v'.ownBlock:=by
  intro b h1 h2;rcases iE with h|h
  . rw[h];exact h1
  . rw[h];intro h3;simp at h3;omega
 refine⟨_,by simp[hl],ho,λi h=>?_⟩;by_cases hk:i<vals.length
 . obtain⟨a1,c1,h1,h2,h3⟩:=hi i hk;refine⟨a1,c1,by rw[List.getElem_append_left hk];exact h1,h2.grown hg (λb o e=>(h3 b o e).1),λb o e=>⟨hne b (h3 b o e).1 (h3 b o e).2,Nat.lt_of_lt_of_le (h3 b o e).2 hg.size⟩⟩
 . have hik:i=k:=by simp at h;omega
   subst hik;refine⟨a,c,?_,ha.grown hg (λb o e=>(hab b o e).1),λb o e=>⟨hne b (hab b o e).1 (hab b o e).2,Nat.lt_of_lt_of_le (hab b o e).2 hg.size⟩⟩;rw[List.getElem_append_right zo];simp[hl]
theorem Dm {W:World}{base:Nat}{e:TypeId}{size:Nat}{a:Option Addr}{n c:Nat}{xs:List Value}(h:W.ownsRow base e size (.slice a n c) n xs):n<=c:=by
 rcases h.2 with⟨h1,h2⟩ |⟨g,cap,cur,h1,_,_,h2,_⟩
 . omega
 . simp at h1;omega
theorem Own2.tbl {e:TypeId}{w:World}{base k:Nat}{R:List (List Raw)}{v:Value}(h:Own2 e w base (R.map λr=>r.map az) k v)(hk:R.length=k):∃a c,v=.slice a k c/\k<=c/\cC w a (R.map mK):=by
 obtain⟨vals,hl,ho,hi⟩:=h;obtain⟨a,c,hv,hat,_⟩:=eo ho;subst hv;refine⟨a,c,rfl,Dm ho,vals,by simp[hl,hk],hat,λi h1 h2=>?_⟩;obtain⟨a1,c1,e1,e2,_⟩:=hi i h2;have hi1:i<R.length:=by simpa using h1
 have eg:(R.map λr=>r.map az).getD i []=R[i].map az:=by simp[hi1]
 rw[eg]at e1 e2;refine⟨a1,c1,?_,?_⟩
 . rw[e1];simp[Xm]
 . rw[List.getElem_map,akt];exact e2
theorem abh {rows:List (List Raw)}{n B L:Nat}(hfit:∀r∈rows,∀c∈r,Fit B c)(hL:2<=L):Sm (2*B+2+n) (iP (gq rows n) L).2.2:=by rw[(am9 (gq rows n) L hL).2.2];exact acU hfit _ _
theorem ane (a:Option Addr)(L cap n:Nat)(rows:List (List Raw))(B:Nat)(w:World)(hL:rows.length=L)(hv:jw rows=n)(hn:1<=n)(ha:cC w a rows)
 (hfit:∀r∈rows,∀c∈r,Fit B c) (hB:B<=10000000) (hT:aH w):
 Calls Tryz.prog 56 #[.slice a L cap] w λe w'=>e=.returned (.tuple #[af ((iP (gq rows n) L).1:Int),af ((iP (gq rows n) L).2.1:Int),bL (iP (gq rows n) L).2.2,af 0])/\Bw w w':=by
 obtain⟨c1,c2,c3,c4⟩:=IH hv zo;have hvars:=λW=>λ(h:cC W a rows)=>TB a L cap rows W hL zo h;have QP:=λW=>λ(h:cC W a rows) (hT:aH W)=>anc a L cap n rows B W hL zo zo zo (λr hr=>by have:=c4 r hr;omega) h hfit hB hT;rw[hv]at hvars;obtain⟨⟨i,j,X⟩,hF⟩:∃F,iP (gq rows n) L=F:=⟨_,rfl⟩;simp only[hF]at QP;rw[hF];obtain⟨agZ,afN,Ha,HT⟩:=dx hvars QP ha hT;have h0:((n:Int)==0)=false:=by simp;omega
 have h0':¬(n:Int)=0:=by omega
 clear hvars QP ha hT hF hfit hv c1 c2 c3 c4 hL;obtain⟨W,cg,Hb,Hr⟩:=fJ w 39 [ag false,.string ⟨#[]⟩,af 0];obtain⟨r0,aj,r1,ak,r2,aF⟩:=Hr.out.g3;go_enter Tryz.func56,Tryz.ntmps56;go_wp2_with fail;refine(agZ.out _ (Ha.out.below Hb.out)).mono ?_;rintro e w1 ⟨rfl,ae⟩;clear r0 aj r1 ak r2 aF;obtain⟨Hr,r0,aj,r1,ak,r2,aF⟩:=aN Hr ae;replace Hb:=aB Hb ae;clear ae;go_wp2_with fail;refine(afN.out _ (Ha.out.below Hb.out) (HT.out.below Hb.out)).mono ?_;rintro e w2 ⟨rfl,ae⟩;clear r0 aj r1 ak r2 aF;obtain⟨Hr,r0,aj,r1,ak,r2,aF⟩:=aN Hr ae;replace Hb:=aB Hb ae;clear ae;have avM:=Hr.out.lt;obtain⟨w3,atM,ae,Hx⟩:=cd w2 136 [af (i:Int),af (j:Int),ag (au (dN X)),ah (nt (dN X).natAbs),af (dE X)];clear r0 aj r1 ak r2 aF;obtain⟨Hr,r0,aj,r1,ak,r2,aF⟩:=aN Hr ae;obtain⟨x0,x1,x2,x3,x4⟩:=Hx.out.c5;replace Hb:=aB Hb ae;clear ae;go_wp2_with fail;refine bR (λw'=>aC w' (w2.heap.size) 0 (af (i:Int))/\aC w' (w2.heap.size) 1 (af (j:Int))/\aC w' (w2.heap.size) 2 (ag (au (dN X)))/\aC w' (w2.heap.size) 3 (ah (nt (dN X).natAbs))/\aC w' (w2.heap.size) 4 (af (dE X))) (λi=>Nat.blt i 10) [(0,true),(1,true),(2,true),(3,true),(4,true),(5,true),(6,true),(7,true),(8,true),(9,true),(10,false),(11,false)] zk zk rfl zk zc ⟨x0,x1,x2,x3,x4⟩ ?_;iterate 10 (refine pT rfl rfl ?_ (by intro w' ⟨q0,q1,q2,q3,q4⟩;go_simp;try with_reducible rfl))
 refine aI rfl rfl (λK hK=>?_);go_simp;refine hK _ _ (λh=>absurd h zd) ?_;clear hK K
 clear r0 aj r1 ak r2 aF x0 x1 x2 x3 x4;refine bV (bC w3 (w.heap.size) 0 [ag (au (dN X)),ah (nt (dN X).natAbs),af (dE X)]) bJ ?_;intro w4 hs;replace Hr:=bP Hr hs;replace Hx:=kS Hx hs zo;obtain⟨r0,aj,r1,ak,r2,aF⟩:=Hr.out.g3;obtain⟨x0,x1,x2,x3,x4⟩:=Hx.out.c5;replace Hb:=bS Hb hs ZS;clear hs;refine aI rfl rfl (λK hK=>?_);go_simp;refine hK _ _ (λh=>absurd h zd) ?_;clear hK K
 simp only[bi];go_wp2;exact bodyPost_ret (v:=.tuple #[af (i:Int),af (j:Int),bL X,af 0]) (by simp[results,Tryz.results56,go_sem,r0,r1,r2]) rfl ⟨rfl,df⟩
theorem Tryz.aw8 :(Tryz.prog.info? 49).map (λi=>(i.zero,i.size,i.bytes))=some (some (.slice none 0 0),1,24):=by kernel_rfl
def iW (o p:List Raw):List Dyadic:=List.zipWith (λx y=>az x-az y) p o
theorem Ct {o p:List Raw}(h:p.length=o.length):(iW o p).length=p.length:=by simp[iW,h]
theorem WP (o p:List Raw)(k:Nat)(h:k<p.length)(h':k<o.length):(iW o p).take (k+1)=(iW o p).take k++[az p[k]-az o[k]]:=by unfold iW;rw[List.take_succ_eq_append_getElem zi];simp
theorem Own2.axg {e:TypeId}{w:World}{base k:Nat}{R:List (List Dyadic)}{v:Value}(h:Own2 e w base R k v)(hk:R.length=k):∃a c,v=.slice a k c/\k<=c/\cC w a (R.map λr=>r.map canon):=by
 obtain⟨vals,hl,ho,hi⟩:=h;obtain⟨a,c,hv,hat,_⟩:=eo ho;subst hv;refine⟨a,c,rfl,Dm ho,vals,by simp[hl,hk],hat,λi h1 h2=>?_⟩;obtain⟨a1,c1,e1,e2,_⟩:=hi i h2;have hi1:i<R.length:=by simpa using h1
 have eg:R.getD i []=R[i]:=by simp[hi1]
 rw[eg]at e1 e2;refine⟨a1,c1,?_,?_⟩
 . rw[e1];simp
 . rw[List.getElem_map,<-vC];exact e2
theorem acv (b o cap m n:Nat)(rows:List (List Raw))(B:Nat)(w:World)(hL:rows.length=m+1)(hm:m<=8)(hcap:m+1<=cap)(rT:1<=m)(hn:1<=n)(hn8:n<=8)(hrow:∀r∈rows,r.length=n)(ha:cC w (some ⟨b,o,none⟩) rows)
 (hfit:∀r∈rows,∀c∈r,Fit B c) (hB:B<=10000000) (hT:aH w):
 Calls Tryz.prog 95 #[.slice (some ⟨b,o,none⟩) (m+1) cap] w λe w'=>∃a' c',e=.returned (.slice a' m c')/\m<=c'/\
  cC w' a' (((rows.drop 1).map λp=>iW (rows.getD 0 []) p).map λr=>r.map canon)/\Bw w w':=by
 obtain⟨i0,hi,hz0,hz1,hz2⟩:=info_parts Tryz.aw4;obtain⟨j0,hj,hy0,hy1,hy2⟩:=info_parts Tryz.aw8;obtain⟨S,hS⟩:=aG ((rows.drop 1).map λp=>iW (rows.getD 0 []) p);have Yp:S.length=m:=by rw[<-hS];simp[hL]
 have mL:∀k (h0:0<rows.length) (h1:k+1<rows.length),S.getD k []=iW rows[0] rows[k+1]:=by
  intro k h0 h1;subst hS;have e0:rows.getD 0 []=rows[0]:=by simp[h0]
  rw[e0];have h2:k<(rows.drop 1).length:=by simp;omega
  simp[h1]
 rw[hS];have hcell:=λ(W:World) (h:cC W (some ⟨b,o,none⟩) rows) (k:Nat) (hk:k<rows.length)=>h.row k hk;obtain⟨Hi,dF,dG,dm,Hj,jA,kz,kC,HSL,ub,Uz,HT⟩:=gB hi hz0 hz1 hz2 hj hy0 hy1 hy2 Yp mL hcell hT;obtain⟨Ha,yY,yN,HL⟩:=dx ha hrow hfit hL;clear hi hz0 hz1 hz2 hj hy0 hy1 hy2 hS Yp mL hcell ha hT hL hrow hfit;have e1:m+1-1=m:=by omega
 have e2:¬cap=1:=by omega
 go_enter Tryz.func95,Tryz.ntmps95;have Hb:Hid (Bw w w):=Below.refl _ _;go_wp2_with fail;obtain⟨r0,mh⟩:=aG (rows[0]'(by rw[HL.out];omega));obtain⟨_,_,a0,c0,gH,hc0,jQ⟩:=Uz.out w Ha.out 0 (by rw[HL.out];omega);obtain⟨rfl,rfl⟩:b=_/\o=_:=by simp at gH;exact gH
 have hn0:r0.length=n:=by rw[<-mh];exact yY.out _ (List.getElem_mem _)
 have xA:∀x∈r0,Fit B x:=by rw[<-mh];exact yN.out _ (List.getElem_mem _)
 have pU:∀k (h1:k+1<rows.length),S.getD k []=iW r0 rows[k+1]:=λk h1=>by rw[ub.out k zo h1,mh]
 rw[mh]at hc0 jQ;rw[hn0]at hc0;rw[Nat.add_zero]at hc0;have GR:=kO (m+1) cap 0 0 (show some (⟨b,o,none⟩:Addr)=some ⟨b,o,none⟩from rfl) zo rfl;rw[Nat.mul_one,Nat.add_zero]at GR;obtain⟨pK,kw,rz,Ej,MD⟩:=gJ hc0 jQ hn0 xA pU;have CY:b<w.heap.size:=World.block_lt_of_cell? w _ hc0;clear hc0 jQ hn0 xA pU mh gH Hb;go_loopw[3,11] (λs3 x wr=>∃(k:Nat) (v:Value),k<=m/\x=af (k:Int)/\v=s3/\Own2 49 wr w.heap.size S k v/\Bw w wr) (λ_ x _=>m-(intOf x).toNat);case atStart=>exact⟨0,_,Nat.zero_le _,rfl,rfl,Own2.nil _ _ _ _,Below.refl _ _⟩
 case round=>
  obtain⟨k,v,hk,rfl,rfl,pv,pb⟩:=hrel;by_cases hlt:k<m
  . have hk2:k+1<rows.length:=by rw[HL.out];omega
    obtain⟨p,gm⟩:=aG (rows[k+1]);obtain⟨_,_,a1,c1,hab,hc1,hat⟩:=Uz.out wr (Ha.out.below pb) (k+1) hk2;obtain⟨rfl,rfl⟩:b=_/\o=_:=by simp at hab;exact hab
    have lA:p.length=n:=by rw[<-gm];exact yY.out _ (List.getElem_mem hk2)
    have kN:∀x∈p,Fit B x:=by rw[<-gm];exact yN.out _ (List.getElem_mem hk2)
    have pV:=MD.out k hk2;rw[gm]at hc1 hat pV;rw[lA]at hc1;have nQ:=kO m (cap-1) k (k:Int) (show some (⟨b,o+1,none⟩:Addr)=some ⟨b,o+1,none⟩from rfl) hlt rfl;rw[Nat.mul_one]at nQ;have alq:wr.cell? ⟨b,o+1+k,none⟩=some (.slice a1 n c1):=by rw[show o+1+k=o+(k+1)by omega];exact hc1
    obtain⟨Z,hZ⟩:=aG (iW r0 p);rw[hZ]at pV;obtain⟨eH,pO,ug,wK,HZ,bu,dS⟩:=jT hat lA kN pV hZ pb pv;clear hat lA kN pV hZ pb pv hab gm hc1;have iy:=bu.out.size;obtain⟨wc,hwc⟩:∃wc,wc=wr:=⟨_,rfl⟩;subst hwc;go_wp2_with fail;go_loopw[6,17] (λs6 x wr=>∃(j:Nat) (v2:Value),j<=n/\x=af (j:Int)/\v2=s6/\wr.ownsRow wc.heap.size 39 3 v2 j (dC (Z.take j))/\Bw wc wr) (λ_ x _=>n-(intOf x).toNat);case atStart=>exact⟨0,_,Nat.zero_le _,rfl,rfl,World.ownsRow_nil _ _ _ _,Below.refl _ _⟩
    case round=>
     clear alq;obtain⟨j,v2,hj,rfl,rfl,ho,hb2⟩:=hrel;by_cases bG:j<n
     . have k1:j<p.length:=by rw[pO.out];exact bG
       have k2:j<r0.length:=by rw[rz.out];exact bG
       obtain⟨sp,mp,ep,gV⟩:=oW (p[j]);obtain⟨sq,mq,eq,mo⟩:=oW (r0[j]);have fH:=ug.out _ (List.getElem_mem k1);have jo:=Ej.out _ (List.getElem_mem k2);rw[gV]at fH;rw[mo]at jo;obtain⟨X,hX⟩:=aG (az (sp,mp,ep)-az (sq,mq,eq));have mF:Hid (dC (Z.take (j+1))=dC (Z.take j)++[ag (au (dN X)),ah (nt (dN X).natAbs),af (dE X)]):=by
        show _=_
        rw[<-HZ.out,WP _ _ _ k1 k2,zD,gV,mo,hX];rfl
       have eY:=aJ bu.out hb2;obtain⟨b1,o1,eG,p0,p1,p2⟩:=(eH.out.below hb2).num j k1 gV;obtain⟨b2,o2,fA,q0,q1,q2⟩:=(kw.out.below eY).num j k2 mo;have QL:=tL n c1 j (j:Int) eG bG rfl;have alL:=tL n c0 j (j:Int) fA bG rfl;have mV:b1<wc.heap.size:=(by subst eG;exact eH.out.lt (by intro h0;have:=congrArg List.length h0;rw[nM bI 3 (λ_=>rfl)]at this;simp at this;omega));have kr:b2<wc.heap.size:=Nat.lt_of_lt_of_le (by subst fA;exact kw.out.lt (by intro h0;have:=congrArg List.length h0;rw[nM bI 3 (λ_=>rfl)]at this;simp at this;omega)) iy;have lbc:b<wc.heap.size:=Nat.lt_of_lt_of_le CY iy;have Hu:Hid (bH wr b o [.slice a0 n c0]):=λi hi=>by
        obtain rfl:i=0:=by simp at hi;omega
        exact cell_later eY pK.out
       have Hp:Hid (bH wr b1 (o1+j*3) [ag sp,ah mp,af ep]):=kv p0 p1 p2;have Hq:Hid (bH wr b2 (o2+j*3) [ag sq,ah mq,af eq]):=kv q0 q1 q2;obtain⟨nz,rq,HX,Ho,yG,dV⟩:=gW fH jo hX ho hb2 (HT.out.below eY);have IB:=hb2.size;clear ho hb2 fH jo hX gV mo eG fA p0 p1 p2 q0 q1 q2 eY;have Hb:Hid (Bw wr wr):=Below.refl _ _;go_wp2_with fail;have u0:=Hu.out.w1;obtain⟨p0,p1,p2⟩:=Hp.out.w3;obtain⟨q0,q1,q2⟩:=Hq.out.w3;refine bR (λw'=>aC w' b o (.slice a0 n c0)/\aC w' b1 (o1+j*3) (ag sp)/\aC w' b1 (o1+j*3+1) (ah mp)/\aC w' b1 (o1+j*3+2) (af ep)/\aC w' b2 (o2+j*3) (ag sq)/\aC w' b2 (o2+j*3+1) (ah mq)/\aC w' b2 (o2+j*3+2) (af eq)) (λi=>Nat.blt i 100000) [(0,true),(1,true),(2,true),(3,true),(4,true),(5,true),(6,true),(7,true),(8,true),(9,true),(10,true),(11,false),(12,false),(13,false),(14,true)] zk zk rfl zk zc ⟨u0,p0,p1,p2,q0,q1,q2⟩ ?_;iterate 11 (refine pT rfl rfl ?_ (by intro w' ⟨q0,q1,q2,q3,q4,q5,q6⟩;go_simp;try with_reducible rfl))
       refine aI rfl rfl (λK hK=>?_);go_simp;with_reducible refine(EZ sp mp ep sq mq eq X B HX.out _ nz.out rq.out zo (by first|exact dV.out|exact aH.drew dV.out|exact aH.alloc dV.out _|exact aH.drew (aH.alloc dV.out _) |exact aH.alloc (aH.drew dV.out) _)).mono ?_
       rintro e w6 ⟨rfl,hq⟩;have ae:Bw wr w6:=by first|exact hq|exact aW hq
       clear u0 p0 p1 p2 q0 q1 q2;replace Hu:=kW Hu ae;replace Hp:=kW Hp ae;replace Hq:=kW Hq ae;have u0:=Hu.out.w1;obtain⟨p0,p1,p2⟩:=Hp.out.w3;obtain⟨q0,q1,q2⟩:=Hq.out.w3;replace Hb:=aB Hb ae;clear ae;refine hK _ _ (λ_=>⟨u0,p0,p1,p2,q0,q1,q2⟩) ?_;clear hK K
       refine aI rfl rfl (λK hK=>?_);go_simp;refine hK _ _ (λ_=>⟨aL u0,aL p0,aL p1,aL p2,aL q0,aL q1,aL q2⟩) ?_;clear hK K
       refine bV (λw7=>ar w7 (w6.heap.size) 39 [ag (au (dN X)),ah (nt (dN X).natAbs),af (dE X)]/\Bw w6 w7) (by first|exact fe|exact fg) ?_;rintro w7 ⟨qc,ae⟩;clear u0 p0 p1 p2 q0 q1 q2;replace Hu:=kW Hu ae;replace Hp:=kW Hp ae;replace Hq:=kW Hq ae;have Hc:=ai qc;clear qc;have u0:=Hu.out.w1;obtain⟨p0,p1,p2⟩:=Hp.out.w3;obtain⟨q0,q1,q2⟩:=Hq.out.w3;obtain⟨c0,c1,c2⟩:=Hc.out.c3;replace Hb:=aB Hb ae;clear ae;refine aI rfl rfl (λK hK=>?_);have di:=ownsRow_below Ho.out Hb.out;have jR:=Hb.out.size;refine wp_append_own _ _ _ 49 rfl wc.heap.size 39 i0 _ 3 32 Tryz.underlying49 Hi.out dF.out dG.out dm.out rfl zd v2 j (dC (Z.take j)) rfl di ⟨w6.heap.size,0,none⟩ 1 1 [ag (au (dN X)),ah (nt (dN X).natAbs),af (dE X)] rfl rfl (ic Hc.out) zy zx zo zo ?_;intro v' w8 fB bM _;obtain⟨g',cq,rfl⟩:=ownsRow_succ fB;have nb:∀b,b<wc.heap.size->some b≠v2.ownBlock:=λb hb e=>by have:=dz di b e.symm;omega
       refine hK _ _ (λ_=>⟨cV bM u0 (nb _ lbc),cV bM p0 (nb _ mV),cV bM p1 (nb _ mV),cV bM p2 (nb _ mV),cV bM q0 (nb _ kr),cV bM q1 (nb _ kr),cV bM q2 (nb _ kr)⟩) ?_;clear hK K
       refine pT rfl rfl ?_
       simp only[bi];clear u0 p0 p1 p2 q0 q1 q2 c0 c1 c2;go_wp2;go_roundw;case rel=>
        refine⟨j+1,_,by omega,by go_num,rfl,?_,?_⟩
        . rw[mF.out];exact fB
        . exact(aJ yG.out Hb.out).grown bM zo (λj e=>dz di j e)
       case measure=>simp[intOf];omega
     . obtain rfl:j=n:=by omega
       have lV:Z.take j=Z:=List.take_of_length_le (by rw[<-HZ.out,Ct (by rw[pO.out,rz.out]),pO.out];exact Nat.le_refl _);rw[lV]at ho;obtain⟨a2,cap2,rfl,jm,fA⟩:=eo ho;have iN:=ho.lt;obtain⟨vals,hvl,hov,nW⟩:=dS.out.below hb2;have Hb:Hid (Bw wr wr):=Below.refl _ _;obtain⟨_,_,tH,_⟩:=dS.out;have hvs:=tH.lt;have hin:∀b o,a2=some ⟨b,o,none⟩->some b≠v.ownBlock/\b<wr.heap.size:=by intro b o e;subst e;have h1:=iN b rfl;refine⟨λh2=>?_,h1.2⟩;have h3:=hvs b h2.symm;omega
       obtain⟨sG,sB,lK,vq,dD,cw⟩:=gW hin jm hvl nW hov hb2;have Dx:=hb2.size;have uY:Hid (Z.length=j):=by show _=_;rw[<-HZ.out,Ct (by rw[pO.out,rz.out]),pO.out]
       clear hin jm hvl nW hov tH hvs hb2 fA iN lV ho bG hj;obtain⟨W6,nO,ae,Hd⟩:=cd wr 49 [.slice a2 j cap2];have d0:=Hd.out.c1;replace Hb:=aB Hb ae;clear ae;have di:=ownsRow_below dD.out Hb.out;have jR:=Hb.out.size;have hnews:∀i u,([.slice a2 j cap2]:List Value)[i]?=some u->W6.cell? ((⟨wr.heap.size,0,none⟩:Addr).add i)=some u:=ic Hd.out;clear d0;go_wp2_with (at_builtin;refine wpList_append_own_at _ rfl _ _ 124 rfl w.heap.size 49 j0 _ 1 24 Tryz.underlying124 Hj.out jA.out kz.out kC.out rfl zd v k vals rfl di ⟨wr.heap.size,0,none⟩ 1 1 [.slice a2 j cap2] rfl rfl hnews zy zx zo zo ?_;intro v' w7 eW fO _ iE;obtain⟨g',oQ,rfl⟩:=ownsRow_succ eW);go_roundw;case rel=>
        refine⟨k+1,_,by omega,by go_num,rfl,?_,?_⟩
        . refine Own2.push (a:=a2) (c:=cap2) lK.out (w:=W6) ?_ ?_ ?_ ?_ fO iE
          . intro i h;obtain⟨a,c,h1,h2,h3⟩:=vq.out i h;exact⟨a,c,h1,h2.below Hb.out,λb o e=>⟨(h3 b o e).1,Nat.lt_of_lt_of_le (h3 b o e).2 jR⟩⟩
          . rw[wK.out];exact sB.out.below Hb.out
          . exact λb o e=>⟨(sG.out b o e).1,Nat.lt_of_lt_of_le (sG.out b o e).2 jR⟩
          . rw[wK.out,uY.out];exact eW
        . exact(aJ (aJ bu.out cw.out) Hb.out).grown fO zo (λj e=>dz di j e)
       case measure=>simp[intOf];omega
  . obtain rfl:k=m:=by omega
    obtain⟨a2,c2,rfl,hcl,pg⟩:=Own2.axg pv HSL.out;obtain⟨wT,bu⟩:=aO pg pb;clear pv pb pg;go_wp2;refine bodyPost_ret (results_tmp rfl _ _ _) rfl ⟨a2,c2,rfl,hcl,wT.out,bu.out⟩
theorem Tryz.axm :(Tryz.prog.info? 32).map (λi=>(i.zero,i.size,i.bytes))=some (some (.agg #[ag false,.string (bs [])]),2,24):=by kernel_rfl
theorem Tryz.axo :(Tryz.prog.info? 144).map (λi=>(i.zero,i.size,i.bytes))=some (some (.slice none 0 0),1,24):=by kernel_rfl
def iC (z:Int):List Value:=[ag (au z),ah (nt z.natAbs)]
def zC (zs:List Int):List Value:=zs.flatMap iC
theorem ase (a b:List Int):zC (a++b)=zC a++zC b:=by unfold zC;rw[List.flatMap_append]
def jO (w:World)(base n:Nat)(R:List (List Int))(k:Nat)(v:Value):Prop:=
 ∃vals:List Value,vals.length=k/\w.ownsRow base 144 1 v k vals/\(∀i (h:i<vals.length),w.ownsRow base 32 2 vals[i] n (zC (R.getD i [])))/\
  ∀i j (hi:i<vals.length) (hj:j<vals.length) g,vals[i].ownBlock=some g->vals[j].ownBlock=some g->i=j
theorem jO.nil (w:World)(base n:Nat)(R:List (List Int)):jO w base n R 0 (.slice none 0 0):=
 ⟨[],rfl,World.ownsRow_nil _ _ _ _,λ_ h=>absurd h (Nat.not_lt_zero _),λ_ _ h=>absurd h (Nat.not_lt_zero _)⟩
theorem jO.below {w w':World}{base n k:Nat}{R:List (List Int)}{v:Value}(h:jO w base n R k v)(hb:Bw w w'):jO w' base n R k v:=by obtain⟨vals,hl,ho,hi,hd⟩:=h;exact⟨vals,hl,ownsRow_below ho hb,λi h=>ownsRow_below (hi i h) hb,hd⟩
theorem Iu {W:World}{b1 b2 e1 e2 s1 s2 k1 k2:Nat}{v1 v2:Value}{x1 x2:List Value}(h1:W.ownsRow b1 e1 s1 v1 k1 x1)(h2:W.ownsRow b2 e2 s2 v2 k2 x2)(he:e1≠e2):v1.ownBlock=none\/v1.ownBlock≠v2.ownBlock:=by
 rcases h1.2 with⟨rfl,_⟩ |⟨g,cap,cur,rfl,_,hg,_⟩
 . exact .inl rfl
 . refine .inr λh=>?_;rcases h2.2 with⟨rfl,_⟩ |⟨g',cap',cur',rfl,_,hg',_⟩
   . simp[Value.ownBlock]at h
   . simp only[Value.ownBlock,Option.some.injEq]at h;subst h;rw[hg]at hg';simp at hg';exact he hg'.2
theorem rZ {W:World}{base base':Nat}{e:TypeId}{size:Nat}{v:Value}{n:Nat}{xs:List Value}(h:W.ownsRow base e size v n xs)(hb:base'<=base):W.ownsRow base' e size v n xs:=by
 refine⟨h.1,?_⟩;rcases h.2 with h2|⟨g,cap,cur,h1,h2,h3⟩
 . exact .inl h2
 . exact .inr ⟨g,cap,cur,h1,Nat.le_trans hb h2,h3⟩
theorem jO.push {w w':World}{base n k:Nat}{R:List (List Int)}{v v' x:Value}{vals:List Value}(hl:vals.length=k)(hov:w.ownsRow base 144 1 v k vals)(hi:∀i (h:i<vals.length),w.ownsRow base 32 2 vals[i] n (zC (R.getD i [])))
 (hd:∀i j (hi:i<vals.length) (hj:j<vals.length) g,vals[i].ownBlock=some g->vals[j].ownBlock=some g->i=j)
 (hx:w.ownsRow base 32 2 x n (zC (R.getD k []))) (kI:∀g,x.ownBlock=some g->∀i (h:i<vals.length),vals[i].ownBlock≠some g)
 (ho:w'.ownsRow base 144 1 v' (k+1) (vals++[x])) (hg:w.grownBy w' v.ownBlock):jO w' base n R (k+1) v':=by
 refine⟨_,by simp[hl],ho,λi h=>?_,λi j h1 h2 g e1 e2=>?_⟩
 . by_cases hk:i<vals.length
   . rw[List.getElem_append_left hk];exact(hi i hk).kept hg (Iu (hi i hk) hov zd)
   . have hik:i=k:=by simp at h;omega
     subst hik;rw[List.getElem_append_right zo];simp only[hl,Nat.sub_self,List.getElem_cons_zero];exact hx.kept hg (Iu hx hov zd)
 . by_cases k1:i<vals.length
   . rw[List.getElem_append_left k1]at e1;by_cases k2:j<vals.length
     . rw[List.getElem_append_left k2]at e2;exact hd i j k1 k2 g e1 e2
     . have hjk:j=k:=by simp at h2;omega
       subst hjk;rw[List.getElem_append_right zo]at e2;simp only[hl,Nat.sub_self,List.getElem_cons_zero]at e2;exact absurd e1 (kI g e2 i k1)
   . have hik:i=k:=by simp at h1;omega
     subst hik;rw[List.getElem_append_right zo]at e1;simp only[hl,Nat.sub_self,List.getElem_cons_zero]at e1;by_cases k2:j<vals.length
     . rw[List.getElem_append_left k2]at e2;exact absurd e2 (kI g e1 j k2)
     . simp at h2;omega
def mz (l:Int)(ds:List Dyadic):Int:=ds.foldl (λl d=>min l (dE d)) l
def mW (l:Int)(R:List (List Dyadic)):Int:=R.foldl mz l
def sf (low:Int)(d:Dyadic):Int:=dN d*2^(dE d-low).toNat
theorem abk (l:Int)(ds:List Dyadic):mz l ds<=l/\∀d∈ds,mz l ds<=dE d:=by
 induction ds generalizing l with
 |nil=>exact⟨Int.le_refl _,λd h=>by cases h⟩
 | cons x xs ih=>
   have h:=ih (min l (dE x));have e:mz l (x::xs)=mz (min l (dE x)) xs:=rfl;rw[e];refine⟨by omega,λd hd=>?_⟩;rcases List.mem_cons.1 hd with rfl|hd
   . omega
   . exact h.2 d hd
theorem RV (l:Int)(R:List (List Dyadic)):mW l R<=l/\∀r∈R,∀d∈r,mW l R<=dE d:=by
 induction R generalizing l with
 |nil=>exact⟨Int.le_refl _,λd h=>by cases h⟩
 | cons x xs ih=>
   have h:=ih (mz l x);have h1:=abk l x;have e:mW l (x::xs)=mW (mz l x) xs:=rfl;rw[e];refine⟨by omega,λr hr d hd=>?_⟩;rcases List.mem_cons.1 hr with rfl|hr
   . have:=h1.2 d hd;omega
   . exact h.2 r hr d hd
theorem abj (l:Int)(ds:List Dyadic)(m:Int)(hl:m<=l)(h:∀d∈ds,m<=dE d):m<=mz l ds:=by
 induction ds generalizing l with
 |nil=>exact hl
 |cons x xs ih=>have hx:=h x (List.mem_cons_self ..);exact ih (min l (dE x)) zo (λd hd=>h d (List.mem_cons_of_mem _ hd))
theorem RU (l:Int)(R:List (List Dyadic))(m:Int)(hl:m<=l)(h:∀r∈R,∀d∈r,m<=dE d):m<=mW l R:=by
 induction R generalizing l with
 |nil=>exact hl
 |cons x xs ih=>exact ih (mz l x) (abj l x m hl (h x (List.mem_cons_self ..))) (λr hr=>h r (List.mem_cons_of_mem _ hr))
theorem anf (l:Int)(ds:List Dyadic)(k:Nat)(h:k<ds.length):mz l (ds.take (k+1))=min (mz l (ds.take k)) (dE ds[k]):=by unfold mz;rw[List.take_succ_eq_append_getElem h,List.foldl_append];rfl
theorem ang (l:Int)(R:List (List Dyadic))(k:Nat)(h:k<R.length):mW l (R.take (k+1))=mz (mW l (R.take k)) R[k]:=by unfold mW;rw[List.take_succ_eq_append_getElem h,List.foldl_append];rfl
theorem ako (x y z:Value)(W:World):(Instr.field 39 (.agg #[x,y,z]) 1).run Tryz.prog W=.ok z W:=by kernel_rfl
theorem aqg (low:Int)(d:Dyadic)(h:low<=dE d):Dyadic.ofIntWithPrec (sf low d) (-low)=d:=by
 have e: -low= -(dE d)+((dE d-low).toNat:Int):=by omega
 unfold sf;rw[e,tO];exact(uQ d).symm
theorem acF (a:Option Addr)(L cap n:Nat)(rows:List (List Raw))(B:Nat)(low:Int)(w:World)(hL:rows.length=L)(hL8:L<=8)(hn8:n<=8)(hrow:∀r∈rows,r.length=n)(ha:cC w a rows)
 (hfit:∀r∈rows,∀c∈r,Fit B c) (hB:B<=10000000) (hT:aH w) (kK:mW 0 (rows.map λr=>r.map az)=low):
 Calls Tryz.prog 142 #[.slice a L cap] w λe w'=>∃v,e=.returned (.tuple #[v,af (-low)])/\
  jO w' w.heap.size n ((rows.map λr=>r.map az).map λr=>r.map (sf low)) L v/\Bw w w':=by
 obtain⟨i0,hi,hz0,hz1,hz2⟩:=info_parts Tryz.axm;obtain⟨j0,hj,hy0,hy1,hy2⟩:=info_parts Tryz.axo;obtain⟨D,hD⟩:=aG (rows.map λr=>r.map az);have XD:D.length=L:=by rw[<-hD];simp[hL]
 have uw:∀k (h:k<rows.length) (h':k<D.length),D[k]=rows[k].map az:=λk h h'=>by subst hD;simp
 have Fq:∀r∈D,∀d∈r,-268435456<=dE d/\dE d<=268435456:=by intro r hr d hd;rw[<-hD]at hr;obtain⟨r',hr',rfl⟩:=List.mem_map.1 hr;obtain⟨x,hx,rfl⟩:=List.mem_map.1 hd;exact(((hfit r' hr' x hx).2).fit zo).1.2
 rw[hD]at kK⊢;have hlo:low<=0/\∀r∈D,∀d∈r,low<=dE d:=by rw[<-kK];exact RV 0 D
 have hlb: -268435456<=low:=by rw[<-kK];exact RU 0 D _ zd (λr hr d hd=>(Fq r hr d hd).1)
 have Gv:∀k j (h:k<D.length) (h':j<=D[k].length),-268435456<=mz (mW 0 (D.take k)) (D[k].take j)/\mz (mW 0 (D.take k)) (D[k].take j)<=0:=by intro k j h h';have g1: -268435456<=mW 0 (D.take k):=RU 0 _ _ zd (λr hr d hd=>(Fq r (List.mem_of_mem_take hr) d hd).1);have g2:=(RV 0 (D.take k)).1;have g3:=(abk (mW 0 (D.take k)) (D[k].take j)).1;exact⟨abj _ _ _ g1 (λd hd=>(Fq _ (List.getElem_mem h) d (List.mem_of_mem_take hd)).1),by omega⟩
 obtain⟨Hi,dF,dG,dm,Hj,jA,kz,kC,MA,TU,HDe,afO⟩:=gB hi hz0 hz1 hz2 hj hy0 hy1 hy2 XD uw Fq kK;obtain⟨UY,Jr,Jx,Ha,HT,yY,yN,HL⟩:=nZ hlo hlb Gv ha hT hrow hfit hL;have hnl:IntKind.i64.wrap (-low)= -low:=by rw[IntKind.wrap_i64];omega
 obtain⟨nl,QW⟩:=aG (-low);obtain⟨S,hS⟩:=aG (D.map λr=>r.map (sf low));have mL:∀k (h:k<D.length),S.getD k []=D[k].map (sf low):=λk h=>by subst hS;simp[h]
 rw[hS,QW];have ZU:IntKind.i64.wrap (-low)=nl:=by rw[hnl,QW]
 obtain⟨NG,ub⟩:=aO ZU mL;clear hnl QW ZU hS mL hi hz0 hz1 hz2 hj hy0 hy1 hy2 Gv hlb hlo Fq uw XD kK ha hT hrow hfit hL hD;go_enter Tryz.func142,Tryz.ntmps142;have Hb:Hid (Bw w w):=Below.refl _ _;go_wp2_with fail;go_loopw[4,18] (λs4 x wr=>∃k:Nat,k<=L/\x=af (k:Int)/\s4=af (mW 0 (D.take k))/\Bw w wr) (λ_ x _=>L-(intOf x).toNat);case atStart=>exact⟨0,Nat.zero_le _,rfl,rfl,Hb.out⟩
 case round=>
  clear Hb;obtain⟨k,hk,rfl,rfl,pb⟩:=hrel;by_cases hlt:k<L
  . have hk2:k<rows.length:=by rw[HL.out];exact hlt
    have hk3:k<D.length:=by rw[MA.out];exact hlt
    obtain⟨p,gm⟩:=aG (rows[k]);obtain⟨b,o,a1,c1,hab,hc1,hat⟩:=(Ha.out.below pb).row k hk2;have lA:p.length=n:=by rw[<-gm];exact yY.out _ (List.getElem_mem hk2)
    have kN:∀x∈p,Fit B x:=by rw[<-gm];exact yN.out _ (List.getElem_mem hk2)
    have vH:=TU.out k hk2 hk3;rw[gm]at hc1 hat vH;rw[lA]at hc1;have nQ:=xS L cap k (k:Int) hab hlt rfl;rw[Nat.mul_one]at nQ;have hst:=ang 0 D k hk3;have hpt:=λj (h:j<=n)=>Jx.out k j hk3 (by rw[vH,List.length_map,lA];exact h);rw[vH]at hst;simp only[vH]at hpt;obtain⟨l0,hl0⟩:=aG (mW 0 (D.take k));rw[hl0]at hst⊢;simp only[hl0]at hpt;obtain⟨eH,pO,ug,bX,Hpt,bu⟩:=gW hat lA kN hst hpt pb;clear hat lA kN hst hpt pb hab gm vH hl0 hk2 hk3;obtain⟨wc,hwc⟩:∃wc,wc=wr:=⟨_,rfl⟩;subst hwc;have iy:=bu.out.size;go_wp2_with fail;go_loopw[4,24] (λs4 x wr=>∃j:Nat,j<=n/\x=af (j:Int)/\s4=af (mz l0 ((p.map az).take j))/\Bw wc wr) (λ_ x _=>n-(intOf x).toNat);case atStart=>exact⟨0,Nat.zero_le _,rfl,rfl,Below.refl _ _⟩
    case round=>
     clear hc1;obtain⟨j,hj,rfl,rfl,hb2⟩:=hrel;by_cases bG:j<n
     . have k1:j<p.length:=by rw[pO.out];exact bG
       obtain⟨sp,mp,ep,gV⟩:=oW (p[j]);have fH:=ug.out _ (List.getElem_mem k1);have hst:=anf l0 (p.map az) j (by simpa using k1);rw[List.getElem_map,gV]at hst;rw[gV]at fH;obtain⟨X,hX⟩:=aG (az (sp,mp,ep));rw[hX]at hst;obtain⟨l1,xG⟩:=aG (mz l0 ((p.map az).take j));rw[xG]at hst⊢;obtain⟨b1,o1,eG,p0,p1,p2⟩:=(eH.out.below hb2).num j k1 gV;have QL:=qH n c1 j (j:Int) eG bG rfl;have Hp:Hid (bH wr b1 (o1+j*3) [ag sp,ah mp,af ep]):=kv p0 p1 p2;obtain⟨nz,HX,yG,mF,dV⟩:=gJ fH.1 hX hb2 hst ((HT.out.below bu.out).below hb2);clear hb2 fH hX hst gV eG p0 p1 p2 xG;have Hb:Hid (Bw wr wr):=Below.refl _ _;obtain⟨p0,p1,p2⟩:=Hp.out.w3;have P0:=p0;have P1:=p1;have P2:=p2;have fl:=ako (ag (au (dN X))) (ah (nt (dN X).natAbs)) (af (dE X));obtain⟨W4,lU,ae,Hc⟩:=cd wr 39 [ag sp,ah mp,af ep];clear p0 p1 p2;replace Hp:=kW Hp ae;obtain⟨p0,p1,p2⟩:=Hp.out.w3;obtain⟨c0,c1,c2⟩:=Hc.out.c3;replace Hb:=aB Hb ae;clear ae;have HT:Hid (aH W4):=dV.out.below Hb.out;go_wp2_with fail;refine(sV sp mp ep X HX.out _ nz.out HT.out).mono ?_;rintro e w5 ⟨rfl,ae⟩;clear p0 p1 p2 c0 c1 c2;replace Hp:=kW Hp ae;obtain⟨Hc,c0,c1,c2⟩:=aQ Hc ae;replace HT:=kT HT ae;obtain⟨p0,p1,p2⟩:=Hp.out.w3;replace Hb:=aB Hb ae;clear ae;go_wp2;go_roundw;case rel=>exact⟨j+1,by omega,by go_num,by rw[mF.out],aJ yG.out Hb.out⟩
       case measure=>simp[intOf];omega
     . obtain rfl:j=n:=by omega
       have hpt:(p.map az).take j=p.map az:=List.take_of_length_le (by simp[pO.out]);rw[hpt];go_wp2;go_roundw;case rel=>exact⟨k+1,by omega,by go_num,by rw[bX.out],aJ bu.out hb2⟩
       case measure=>simp[intOf];omega
  . obtain rfl:k=L:=by omega
    have XG:D.take k=D:=List.take_of_length_le (by rw[MA.out];exact Nat.le_refl _);rw[XG,afO.out];have bu:=ai pb;clear pb XG;obtain⟨wa,hwa⟩:∃wa,wa=wr:=⟨_,rfl⟩;subst hwa;have Tu:=bu.out.size;go_wp2_with fail;go_loopw[9,37] (λs9 x wr=>∃(i:Nat) (v:Value),i<=k/\x=af (i:Int)/\v=s9/\jO wr w.heap.size n S i v/\Bw w wr) (λ_ x _=>k-(intOf x).toNat);case atStart=>exact⟨0,_,Nat.zero_le _,rfl,rfl,jO.nil _ _ _ _,bu.out⟩
    case round=>
     clear bu Tu;obtain⟨i,v,hk,rfl,rfl,pv,pb⟩:=hrel;by_cases hlt:i<k
     . have hk2:i<rows.length:=by rw[HL.out];exact hlt
       have hk3:i<D.length:=by rw[MA.out];exact hlt
       obtain⟨p,gm⟩:=aG (rows[i]);obtain⟨b,o,a1,c1,hab,hc1,hat⟩:=(Ha.out.below pb).row i hk2;have lA:p.length=n:=by rw[<-gm];exact yY.out _ (List.getElem_mem hk2)
       have kN:∀x∈p,Fit B x:=by rw[<-gm];exact yN.out _ (List.getElem_mem hk2)
       have vH:=TU.out i hk2 hk3;have pV:=ub.out i hk3;have hpl:=UY.out.2 _ (List.getElem_mem hk3);rw[gm]at hc1 hat vH;rw[vH]at pV hpl;rw[lA]at hc1;have nQ:=xS k cap i (i:Int) hab hlt rfl;rw[Nat.mul_one]at nQ;obtain⟨Z,hZ⟩:=aG ((p.map az).map (sf low));rw[hZ]at pV;obtain⟨eH,pO,ug,wK,HZ,jY,bu,dS⟩:=nZ hat lA kN pV hZ hpl pb pv;clear hat lA kN pV hZ hpl pb pv hab gm vH hk2 hk3;obtain⟨wc,hwc⟩:∃wc,wc=wr:=⟨_,rfl⟩;subst hwc;have iy:=bu.out.size;go_wp2_with fail;go_loopw[12,43] (λs12 x wr=>∃(j:Nat) (v2:Value),j<=n/\x=af (j:Int)/\v2=s12/\wr.ownsRow wc.heap.size 32 2 v2 j (zC (Z.take j))/\Bw wc wr) (λ_ x _=>n-(intOf x).toNat);case atStart=>exact⟨0,_,Nat.zero_le _,rfl,rfl,World.ownsRow_nil _ _ _ _,Below.refl _ _⟩
       case round=>
        clear hc1;obtain⟨j,v2,hj,rfl,rfl,ho,hb2⟩:=hrel;by_cases bG:j<n
        . have k1:j<p.length:=by rw[pO.out];exact bG
          obtain⟨sp,mp,ep,gV⟩:=oW (p[j]);have fH:=ug.out _ (List.getElem_mem k1);rw[gV]at fH;obtain⟨X,hX⟩:=aG (az (sp,mp,ep));have hle:low<=dE X:=jY.out X (by rw[<-hX,<-gV];exact List.mem_map_of_mem (List.getElem_mem k1));have dM:Sm B X:=by rw[<-hX];exact fH.2
          have Qp:=(dM.fit zo).1;have rQ:(nt (dN X).natAbs).length<=268435456:=Qp.1;have KG: -268435456<=dE X/\dE X<=268435456:=Qp.2;obtain⟨Y,hY⟩:=aG (sf low X);have hlb:=Jr.out;have hl0:=UY.out.1;obtain⟨t,ht⟩:∃t:Int,dE X-low=t:=⟨_,rfl⟩;have hwr:IntKind.i64.wrap (dE X-low)=t:=by rw[IntKind.wrap_i64];omega
          have hsh:∀W,Calls Tryz.prog 38 #[.agg #[ag (au (dN X)),ah (nt (dN X).natAbs)],af t] W λe w'=>e=.returned (cX Y)/\Bw W w':=by intro W;have h:=Mu (au (dN X)) (nt (dN X).natAbs) (dE X-low).toNat W zo zo;rw[eX,show((dE X-low).toNat:Int)=t by omega]at h;rw[<-hY];exact h
          have bX:Hid (zC (Z.take (j+1))=zC (Z.take j)++[ag (au Y),ah (nt Y.natAbs)]):=by
           show _=_
           rw[<-HZ.out,List.take_succ_eq_append_getElem (by simpa using k1),ase];congr 1;simp only[List.getElem_map,gV,hX,hY];rfl
          obtain⟨b1,o1,eG,p0,p1,p2⟩:=(eH.out.below hb2).num j k1 gV;have QL:=qH n c1 j (j:Int) eG bG rfl;have Hp:Hid (bH wr b1 (o1+j*3) [ag sp,ah mp,af ep]):=kv p0 p1 p2;obtain⟨nz,HX,Ho,cw,NR,Hwr,dV⟩:=jT fH.1 hX ho hb2 hsh hwr ((HT.out.below bu.out).below hb2);have Dx:=hb2.size;clear ho hb2 fH hX gV eG p0 p1 p2 hle dM Qp rQ KG hY hlb hl0 ht hsh hwr;have Hb:Hid (Bw wr wr):=Below.refl _ _;obtain⟨p0,p1,p2⟩:=Hp.out.w3;have P0:=p0;have P1:=p1;have P2:=p2;obtain⟨W4,lU,ae,Hc⟩:=cd wr 39 [ag sp,ah mp,af ep];clear p0 p1 p2;replace Hp:=kW Hp ae;obtain⟨p0,p1,p2⟩:=Hp.out.w3;obtain⟨c0,c1,c2⟩:=Hc.out.c3;replace Hb:=aB Hb ae;clear ae;have HT:Hid (aH W4):=dV.out.below Hb.out;go_wp2_with fail;refine(sV sp mp ep X HX.out _ nz.out HT.out).mono ?_;rintro e w5 ⟨rfl,ae⟩;clear p0 p1 p2 c0 c1 c2;replace Hp:=kW Hp ae;obtain⟨Hc,c0,c1,c2⟩:=aQ Hc ae;replace HT:=kT HT ae;obtain⟨p0,p1,p2⟩:=Hp.out.w3;replace Hb:=aB Hb ae;clear ae;have anl:=Hc.out.lt;obtain⟨W6,nO,ae,Hy⟩:=cd w5 39 [ag (au (dN X)),ah (nt (dN X).natAbs),af (dE X)];clear p0 p1 p2;replace Hp:=kW Hp ae;clear c0 c1 c2;obtain⟨Hc,c0,c1,c2⟩:=aQ Hc ae;replace HT:=kT HT ae;obtain⟨p0,p1,p2⟩:=Hp.out.w3;obtain⟨y0,y1,y2⟩:=Hy.out.c3;replace Hb:=aB Hb ae;clear ae;have hwr:=Hwr.out;go_wp2_with fail;refine(NR.out _).mono ?_;rintro e w7 ⟨rfl,ae⟩;clear p0 p1 p2 c0 c1 c2 y0 y1 y2;replace Hp:=kW Hp ae;obtain⟨Hc,c0,c1,c2⟩:=aQ Hc ae;replace HT:=kT HT ae;obtain⟨Hy,y0,y1,y2⟩:=aQ Hy ae;obtain⟨p0,p1,p2⟩:=Hp.out.w3;replace Hb:=aB Hb ae;clear ae hwr;have auQ:=Hc.out.lt;have abx:=Hy.out.lt;obtain⟨W8,Qi,ae,Hd⟩:=cd w7 32 [ag (au Y),ah (nt Y.natAbs)];clear p0 p1 p2;replace Hp:=kW Hp ae;clear c0 c1 c2;replace Hc:=kB Hc ae;replace HT:=kT HT ae;clear y0 y1 y2;obtain⟨Hy,y0,y1,y2⟩:=aQ Hy ae;obtain⟨p0,p1,p2⟩:=Hp.out.w3;obtain⟨c0,c1,c2⟩:=Hc.out.c3;obtain⟨d0,d1⟩:=Hd.out.c2;replace Hb:=aB Hb ae;clear ae;have di:=ownsRow_below Ho.out Hb.out;have jR:=Hb.out.size;have hnews:=ic Hd.out;clear d0 d1;go_wp2_with (at_builtin;refine wpList_append_own_at _ rfl _ _ 144 rfl wc.heap.size 32 i0 _ 2 24 Tryz.underlying144 Hi.out dF.out dG.out dm.out rfl zd v2 j (zC (Z.take j)) rfl di ⟨w7.heap.size,0,none⟩ 1 1 [ag (au Y),ah (nt Y.natAbs)] rfl rfl hnews zy zx zo zo ?_;intro v' w9 iD rS _ _;obtain⟨g',oQ,rfl⟩:=ownsRow_succ iD);go_roundw;case rel=>
           refine⟨j+1,_,by omega,by go_num,rfl,?_,?_⟩
           . rw[bX.out];exact iD
           . exact(aJ cw.out Hb.out).grown rS zo (λj e=>dz di j e)
          case measure=>simp[intOf];omega
        . obtain rfl:j=n:=by omega
          have lV:Z.take j=Z:=List.take_of_length_le (by rw[<-HZ.out];simp[pO.out]);rw[lV]at ho;obtain⟨a2,cap2,rfl,_,_⟩:=eo ho;have iN:=ho.lt;obtain⟨vals,hvl,hov,nW,GL⟩:=dS.out;have kI:∀g,(Value.slice a2 j cap2).ownBlock=some g->∀m (h:m<vals.length),vals[m].ownBlock≠some g:=by intro g h1 m h2 h3;have:=(iN g h1).1;have:=((nW m h2).lt g h3).2;omega
          obtain⟨wQ,lK,vq,dD,cw,NZ,Ho⟩:=jT kI hvl nW hov hb2 GL ho;have Hb:Hid (Bw wr wr):=Below.refl _ _;have Dx:=hb2.size;clear kI hvl hov nW hb2 GL iN lV ho bG hj;obtain⟨W6,nO,ae,Hd⟩:=cd wr 144 [.slice a2 j cap2];have d0:=Hd.out.c1;replace Hb:=aB Hb ae;clear ae;have PD:=aJ cw.out Hb.out;have di:=ownsRow_below dD.out PD;have jR:=Hb.out.size;have hnews:∀i u,([.slice a2 j cap2]:List Value)[i]?=some u->W6.cell? ((⟨wr.heap.size,0,none⟩:Addr).add i)=some u:=ic Hd.out;clear d0;go_wp2_with (at_builtin;refine wpList_append_own_at _ rfl _ _ 170 rfl w.heap.size 144 j0 _ 1 24 Tryz.underlying170 Hj.out jA.out kz.out kC.out rfl zd v i vals rfl di ⟨wr.heap.size,0,none⟩ 1 1 [.slice a2 j cap2] rfl rfl hnews zy zx zo zo ?_;intro v' w7 eW fO _ _;obtain⟨g',oQ,rfl⟩:=ownsRow_succ eW);go_roundw;case rel=>
           refine⟨i+1,_,by omega,by go_num,rfl,?_,?_⟩
           . refine jO.push (w:=W6) lK.out di (λm h=>ownsRow_below (vq.out m h) PD) NZ.out ?_ wQ.out eW fO;rw[wK.out];exact rZ (ownsRow_below Ho.out Hb.out) zo
           . exact(aJ bu.out PD).grown fO zo (λj e=>dz di j e)
          case measure=>simp[intOf];omega
     . obtain rfl:i=k:=by omega
       obtain⟨bu,dS⟩:=aO pb pv;clear pb pv;have hnl:=NG.out;go_wp2;refine bodyPost_ret (v:=.tuple #[v,af nl]) (by simp[results,Tryz.results142,go_sem]) rfl ⟨v,rfl,dS.out,bu.out⟩
end Go.Proofs.YtoopepmmepmfnaaGreatDoor
namespace Go.Proofs.YtoopepmmepmfnaaGreatDoor
open Go.RowKit
theorem mY {w:World}{base:Nat}{e:TypeId}{size n cap g:Nat}{xs:List Value}(h:w.ownsRow base e size (.slice (some ⟨g,0,none⟩) n cap) n xs)(j:Nat)(hj:j<xs.length):w.cell? ⟨g,j,none⟩=some xs[j]:=by
 rcases h.2 with⟨h1,_⟩ |⟨g',cap',cur,h1,_,hg,_,_,_,hx⟩
 . simp at h1
 . simp only[Value.slice.injEq,Option.some.injEq,Addr.mk.injEq,and_true,true_and]at h1;obtain⟨rfl,rfl⟩:=h1;have h2:cur.toList.take (n*size)=xs:=hx;have h3:cur.toList[j]?=some xs[j]:=by rw[<-List.getElem?_eq_getElem hj];simp only[<-h2];rw[List.getElem?_take];rw[<-h2,List.length_take]at hj;rw[if_pos (Nat.lt_of_lt_of_le hj (Nat.min_le_left _ _))]
   have h4:ar w g e cur.toList:=by unfold ar;simpa using hg
   rw[h4.cell];exact h3
theorem mZ {w:World}{base:Nat}{e:TypeId}{size n cap g:Nat}{xs:List Value}(h:w.ownsRow base e size (.slice (some ⟨g,0,none⟩) n cap) n xs)(j:Nat)(u:Value):(w.setCell ⟨g,j,none⟩ u).ownsRow base e size (.slice (some ⟨g,0,none⟩) n cap) n (xs.set j u):=by
 refine⟨by rw[List.length_set];exact h.1,?_⟩;rcases h.2 with⟨h1,_⟩ |⟨g',cap',cur,h1,hb,hg,h4,h5,h6,hx⟩
 . simp at h1
 . simp only[Value.slice.injEq,Option.some.injEq,Addr.mk.injEq,and_true,true_and]at h1;obtain⟨rfl,rfl⟩:=h1;refine .inr ⟨g,cap,cur.setIfInBounds j u,rfl,hb,?_,h4,h5,by simpa using h6,?_⟩
   . simp[World.setCell,Array.getElem?_modify,hg]
   . rw[<-hx];simp[List.take_set]
theorem asg (zs:List Int):(zC zs).length=zs.length*2:=nM iC 2 (λ_=>rfl) zs
theorem asf (zs:List Int)(j:Nat)(hj:j<zs.length):(zC zs)[j*2]?=some (ag (au zs[j]))/\(zC zs)[j*2+1]?=some (ah (nt zs[j].natAbs)):=by
 induction zs generalizing j with
 |nil=>simp at hj
 | cons z zs ih=>
   have e:zC (z::zs)=ag (au z)::ah (nt z.natAbs)::zC zs:=rfl;rw[e];cases j with
   |zero=>exact⟨rfl,rfl⟩
   |succ j=>have:=ih j (by simpa using hj);rw[show(j+1) *2=j*2+1+1 by omega];simpa using this
theorem ash (zs:List Int)(j:Nat)(hj:j<zs.length)(y:Int):((zC zs).set (j*2) (ag (au y))).set (j*2+1) (ah (nt y.natAbs))=zC (zs.set j y):=by
 induction zs generalizing j with
 |nil=>simp at hj
 | cons z zs ih=>
   have e:zC (z::zs)=ag (au z)::ah (nt z.natAbs)::zC zs:=rfl;rw[e];cases j with
   |zero=>rfl
   |succ j=>have:=ih j (by simpa using hj);rw[show(j+1) *2=j*2+1+1 by omega];simp only[List.set_cons_succ];rw[this];rfl
theorem jO.num {w:World}{base n L:Nat}{R:List (List Int)}{v:Value}(h:jO w base n R L v)(i j:Nat)(hi:i<L)(hj:j<n)(hR:R.length=L)(hr:(R.getD i []).length=n):
 ∃go cap g c,v=.slice (some ⟨go,0,none⟩) L cap/\base<=go/\base<=g/\g≠go/\w.cell? ⟨go,i,none⟩=some (.slice (some ⟨g,0,none⟩) n c)/\
  w.cell? ⟨g,j*2,none⟩=some (ag (au ((R.getD i []).getD j 0)))/\w.cell? ⟨g,j*2+1,none⟩=some (ah (nt ((R.getD i []).getD j 0).natAbs))/\
  ∀y:Int,jO ((w.setCell ⟨g,j*2,none⟩ (ag (au y))).setCell ⟨g,j*2+1,none⟩ (ah (nt y.natAbs))) base n (R.set i ((R.getD i []).set j y)) L v:=by
 obtain⟨vals,hl,ho,hv,hd⟩:=h;have hi2:i<vals.length:=by omega
 have hrow:=hv i hi2;have hxl:(zC (R.getD i [])).length=n*2:=by rw[asg,hr]
 obtain⟨a0,cap,rfl,_,_⟩:=eo ho;obtain⟨a1,c,e1,_,hab⟩:=eo hrow;rw[e1]at hrow;rcases ho.2 with⟨h1,_⟩ |⟨go,cap',cur,h1,pY,hgo,_⟩
 . simp at h1;omega
 simp only[Value.slice.injEq,true_and]at h1;obtain⟨rfl,rfl⟩:=h1;rcases hrow.2 with⟨h1,_⟩ |⟨g,c',cur',h1,hbg,hgg,_⟩
 . simp at h1;omega
 simp only[Value.slice.injEq,true_and]at h1;obtain⟨rfl,rfl⟩:=h1;have hne:g≠go:=by rintro rfl;rw[hgo]at hgg;simp at hgg
 have hat:=asf (R.getD i []) j zo;have hg0:(R.getD i []).getD j 0=(R.getD i [])[j]'zo:=by rw[List.getD_eq_getElem?_getD,List.getElem?_eq_getElem zo];rfl
 have hc0:=mY hrow (j*2) zo;have hc1:=mY hrow (j*2+1) zo;rw[<-List.getElem?_eq_getElem]at hc0 hc1;rw[hat.1]at hc0;rw[hat.2]at hc1;refine⟨go,cap,g,c,rfl,pY,hbg,hne,?_,by rw[hg0];exact hc0,by rw[hg0];exact hc1,λy=>?_⟩
 . rw[mY ho i zo,e1]
 . refine⟨vals,hl,?_,λm hm=>?_,hd⟩
   . exact ownsRow_setCell_other (ownsRow_setCell_other ho (by simpa[Value.ownBlock]using hne.symm) _) (by simpa[Value.ownBlock]using hne.symm) _
   . by_cases mg:m=i
     . subst mg;have hs:(R.set m ((R.getD m []).set j y)).getD m []=(R.getD m []).set j y:=by rw[List.getD_eq_getElem?_getD,List.getElem?_set_self zo];rfl
       rw[hs,e1,<-ash _ _ zo];exact mZ (mZ hrow _ _) _ _
     . have hs:(R.set i ((R.getD i []).set j y)).getD m []=R.getD m []:=by rw[List.getD_eq_getElem?_getD,List.getElem?_set_ne (λe=>mg e.symm),<-List.getD_eq_getElem?_getD]
       rw[hs];have hno:vals[m].ownBlock≠some g:=λe=>mg (hd m i hm hi2 g e (by rw[e1];rfl));exact ownsRow_setCell_other (ownsRow_setCell_other (hv m hm) hno _) hno _
def swp (i m k:Nat):Nat:=if k=i then m else if k=m then i else k
theorem aqZ {i m a b:Nat}(h:swp i m a=swp i m b):a=b:=by
 unfold swp at h;repeat' split at h
 all_goals omega
theorem Mn {i m k L:Nat}(hi:i<L)(hm:m<L)(hk:k<L):swp i m k<L:=by
 unfold swp;repeat' split
 all_goals omega
theorem Ta {α:Type}(l:List α)(d:α)(i m:Nat)(hi:i<l.length)(hm:m<l.length)(k:Nat)(hk:k<l.length):((l.set i (l.getD m d)).set m (l.getD i d)).getD k d=l.getD (swp i m k) d:=by
 unfold swp;by_cases h1:k=m
 . subst h1;rw[List.getD_eq_getElem?_getD,List.getElem?_set_self (by simpa using hk)];by_cases h2:k=i
   . subst h2;simp
   . simp[h2]
 . rw[List.getD_eq_getElem?_getD,List.getElem?_set_ne (λe=>h1 e.symm)];by_cases h2:k=i
   . subst h2;rw[List.getElem?_set_self (by simpa using hk)];simp
   . rw[List.getElem?_set_ne (λe=>h2 e.symm)];simp[h1,h2]
theorem jO.swap {w:World}{base n L go cap:Nat}{R:List (List Int)}(h:jO w base n R L (.slice (some ⟨go,0,none⟩) L cap))(i m:Nat)(hi:i<L)(hm:m<L)(hR:R.length=L):
 ∃x y,w.cell? ⟨go,i,none⟩=some x/\w.cell? ⟨go,m,none⟩=some y/\jO ((w.setCell ⟨go,i,none⟩ y).setCell ⟨go,m,none⟩ x) base n ((R.set i (R.getD m [])).set m (R.getD i [])) L (.slice (some ⟨go,0,none⟩) L cap):=by
 obtain⟨vals,hl,ho,hv,hd⟩:=h;have hi2:i<vals.length:=by omega
 have hm2:m<vals.length:=by omega
 have hgo:∀k (hk:k<vals.length),vals[k].ownBlock≠some go\/vals[k].ownBlock=none:=by
  intro k hk;rcases Iu (hv k hk) ho zd with e|e
  . exact .inr e
  . exact .inl e
 have hel:∀k (hk:k<vals.length),((vals.set i vals[m]).set m vals[i])[k]'(by simpa using hk)=vals[swp i m k]'(Mn hi2 hm2 hk):=by intro k hk;have:=Ta vals (ag false) i m hi2 hm2 k hk;have hs:=Mn hi2 hm2 hk;simpa[List.getD_eq_getElem?_getD,List.getElem?_eq_getElem,hi2,hm2,hk,hs]using this
 refine⟨vals[i],vals[m],mY ho i zo,mY ho m zo,_,by simp[hl],mZ (mZ ho i _) m _,λk hk=>?_,λa b ha hb g e1 e2=>?_⟩
 . have hk2:k<vals.length:=by simpa using hk
   have hs:=Mn hi2 hm2 hk2;rw[hel k hk2,Ta R [] i m zo zo k zo];have hno:vals[swp i m k].ownBlock≠some go:=by
    rcases hgo _ hs with e|e
    . exact e
    . rw[e];simp
   exact ownsRow_setCell_other (ownsRow_setCell_other (hv _ hs) hno _) hno _
 . have ha2:a<vals.length:=by simpa using ha
   have hb2:b<vals.length:=by simpa using hb
   rw[hel a ha2]at e1;rw[hel b hb2]at e2;exact aqZ (hd _ _ _ _ g e1 e2)
end Go.Proofs.YtoopepmmepmfnaaGreatDoor
namespace Go.Proofs.YtoopepmmepmfnaaGreatDoor
open Go.RowKit
attribute [local go_sem ↓] Go.wp_at_zero Go.wp_at_succ
def mR {α:Type}(p:α->Bool):List α->Nat->Int
 |[],_=>-1
 |v::l,k=>if p v then(k:Int)else mR p l (k+1)
theorem aaV {α:Type}(p:α->Bool)(l:List α)(k n:Nat)(h:n<l.length):mR p (l.drop n) k=if p l[n]then(k:Int)else mR p (l.drop (n+1)) (k+1):=by rw[List.drop_eq_getElem_cons h];rfl
theorem aaU {α:Type}(p:α->Bool)(l:List α)(k:Nat):decide (0<=mR p l k)=l.any p:=by
 induction l generalizing k with
 |nil=>rfl
 | cons v l ih=>
   unfold mR;rw[List.any_cons];by_cases h:p v=true
   . rw[if_pos h,h,Bool.true_or];simp
   . rw[if_neg h,ih];simp[h]
theorem aaW {α:Type}(p:α->Bool)(l:List α)(k:Nat):(mR p l k= -1/\∀x∈l,p x=false)\/∃i,∃h:i<l.length,mR p l k=((k+i:Nat):Int)/\p l[i]=true/\∀j (hj:j<i),p (l[j]'zo)=false:=by
 induction l generalizing k with
 |nil=>exact .inl ⟨rfl,λx hx=>by cases hx⟩
 | cons v l ih=>
   unfold mR;by_cases h:p v=true
   . rw[if_pos h];exact .inr ⟨0,by simp,rfl,h,λj hj=>by omega⟩
   . rw[if_neg h];rcases ih (k+1)with⟨h1,h2⟩ |⟨i,h1,h2,h3,h4⟩
     . exact .inl ⟨h1,λx hx=>by rcases List.mem_cons.1 hx with rfl|hx;simpa using h;exact h2 x hx⟩
     . refine .inr ⟨i+1,by simpa using h1,by rw[h2];congr 1;omega,by simpa using h3,λj hj=>?_⟩;cases j with
       |zero=>simpa using h
       |succ j=>simpa using h4 j zo
structure Pv where
 V:Int
 a:Option Addr
 n:Nat
 c:Nat
def jv (p:Pv):List Value:=[af p.V,.slice p.a p.n p.c]
theorem At.aw5 {w:World}{a:Option Addr}{ps:List Pv}(h:At w a (ps.flatMap jv))(k:Nat)(hk:k<ps.length){V:Int}{a':Option Addr}{n c:Nat}(hx:ps[k]=⟨V,a',n,c⟩):
 ∃b o,a=some ⟨b,o,none⟩/\bH w b (o+k*2) [af V,.slice a' n c]:=by
 obtain⟨b,o,hab,hcs⟩:=h.elem (f:=jv) (sz:=2) (λ_=>rfl) zd k hk;refine⟨b,o,hab,λj hj=>?_⟩;have:=hcs j hj;rw[hx]at this;rw[this];unfold jv;rw[List.getElem?_eq_getElem (by simpa using hj)]
theorem RJ (a:Option Addr)(n cap:Nat)(vals:List aM)(gf:Nat)(lb:Array Value)(p:aM->Bool)(w:World)(hn:vals.length=n)(hl:n<=1099511627776)(ha:At w a (vals.flatMap aX))
 (eg:∀args w,(callFunc gf args).run Tryz.prog w=.ok (.enter gf args) w)
 (hcl:∀x∈vals,∀W,Bw w W->Calls Tryz.prog gf (#[.agg #[ah x.1,ag x.2.1,ah x.2.2.1,af x.2.2.2]]++lb) W λe w'=>e=.returned (ag (p x))/\Bw W w'):
 Calls Tryz.prog 210 #[.slice a n cap,.func (.func gf) #[] lb] w λe w'=>e=.returned (af (mR p vals 0))/\Bw w w':=by
 obtain⟨Hn,Ha,iI,ny⟩:=dx hn ha hcl eg;clear hn ha hcl eg;have Hb:Hid (Bw w w):=Below.refl _ _;go_enter Tryz.func210,Tryz.ntmps210;go_wp2_with fail;go_loopw[5,8] (λ_ i wr=>∃k:Nat,k<=n/\i=af (k:Int)/\mR p vals 0=mR p (vals.drop k) k/\Bw w wr) (λ_ i _=>n-(intOf i).toNat);case atStart=>exact⟨0,Nat.zero_le _,rfl,rfl,Hb.out⟩
 case round=>
  clear Hb;obtain⟨k,hk,rfl,iB,pb⟩:=hrel;obtain⟨oH,Hb⟩:=aO iB pb;clear iB pb;by_cases hlt:k<n
  . have bG:k<vals.length:=by rw[Hn.out];exact hlt
    obtain⟨l,s,m,e,hx⟩:∃l s m e,vals[k]=(l,s,m,e):=⟨_,_,_,_,rfl⟩;obtain⟨b,o,hab,dH⟩:=(Ha.out.below Hb.out).term k bG hx;obtain⟨q0,q1,q2,q3⟩:=dH.w4;have bK:=kP n cap k (k:Int) hab hlt rfl;have hcall:=iI.out _ (List.getElem_mem bG) wr Hb.out;have hstep:=aaV p vals k k bG;rw[<-oH.out]at hstep;rw[hx]at hcall hstep;obtain⟨fW,kY⟩:=aO hstep hcall;have oG:=ny.out;clear dH hab hx hstep hcall;go_wp2_with fail;refine kY.out.mono ?_;rintro e9 w1 ⟨rfl,hb1⟩;replace Hb:=ai (aJ Hb.out hb1);clear hb1 q0 q1 q2 q3 bK oG;obtain⟨t,ht⟩:=aG (p (l,s,m,e));rw[ht]at fW⊢;clear ht;cases t with
    |true=>go_wp2;refine bodyPost_ret (results_tmp rfl _ _ _) rfl ⟨?_,Hb.out⟩;have h:=fW.out;rw[if_pos (by trivial)]at h;rw[h];rfl
    | false=>
      go_wp2;go_roundw;case rel=>exact⟨k+1,by omega,by go_num,by have h:=fW.out;rw[if_neg zd]at h;exact h,Hb.out⟩
      case measure=>simp[intOf];omega
  . obtain rfl:k=n:=by omega
    go_wp2;refine bodyPost_ret (results_tmp rfl _ _ _) rfl ⟨?_,Hb.out⟩;have h:=oH.out;rw[List.drop_of_length_le (by rw[Hn.out];exact Nat.le_refl _)]at h;rw[h];rfl
theorem ajf (a:Option Addr)(n cap:Nat)(vals:List aM)(gf:Nat)(lb:Array Value)(p:aM->Bool)(w:World)(hn:vals.length=n)(hl:n<=1099511627776)(ha:At w a (vals.flatMap aX))
 (eg:∀args w,(callFunc gf args).run Tryz.prog w=.ok (.enter gf args) w)
 (hcl:∀x∈vals,∀W,Bw w W->Calls Tryz.prog gf (#[.agg #[ah x.1,ag x.2.1,ah x.2.2.1,af x.2.2.2]]++lb) W λe w'=>e=.returned (ag (p x))/\Bw W w'):
 Calls Tryz.prog 185 #[.slice a n cap,.func (.func gf) #[] lb] w λe w'=>e=.returned (ag (vals.any p))/\Bw w w':=by
 have h1:=RJ a n cap vals gf lb p w hn hl ha eg hcl;rw[<-aaU p vals 0];generalize mR p vals 0=i at*;have H1:=ai h1;clear h1 hcl eg ha hn;have Hb:Hid (Bw w w):=Below.refl _ _;go_enter Tryz.func185,Tryz.ntmps185;go_wp2_with fail;refine(H1.out).mono ?_;rintro e w1 ⟨rfl,ae⟩;replace Hb:=aB Hb ae;clear ae;go_wp2;exact bodyPost_ret (v:=ag (decide (0<=i))) (by simp[results,Tryz.results185,go_sem]) rfl ⟨rfl,df⟩
theorem amr (a:Option Addr)(n cap:Nat)(vals:List Pv)(gf:Nat)(lb:Array Value)(p:Pv->Bool)(w:World)(hn:vals.length=n)(hl:n<=1099511627776)(ha:At w a (vals.flatMap jv))
 (eg:∀args w,(callFunc gf args).run Tryz.prog w=.ok (.enter gf args) w)
 (hcl:∀x∈vals,∀W,Bw w W->Calls Tryz.prog gf (#[.agg #[af x.V,.slice x.a x.n x.c]]++lb) W λe w'=>e=.returned (ag (p x))/\Bw W w'):
 Calls Tryz.prog 211 #[.slice a n cap,.func (.func gf) #[] lb] w λe w'=>e=.returned (af (mR p vals 0))/\Bw w w':=by
 obtain⟨Hn,Ha,iI,ny⟩:=dx hn ha hcl eg;clear hn ha hcl eg;have Hb:Hid (Bw w w):=Below.refl _ _;go_enter Tryz.func211,Tryz.ntmps211;go_wp2_with fail;go_loopw[5,8] (λ_ i wr=>∃k:Nat,k<=n/\i=af (k:Int)/\mR p vals 0=mR p (vals.drop k) k/\Bw w wr) (λ_ i _=>n-(intOf i).toNat);case atStart=>exact⟨0,Nat.zero_le _,rfl,rfl,Hb.out⟩
 case round=>
  clear Hb;obtain⟨k,hk,rfl,iB,pb⟩:=hrel;obtain⟨oH,Hb⟩:=aO iB pb;clear iB pb;by_cases hlt:k<n
  . have bG:k<vals.length:=by rw[Hn.out];exact hlt
    obtain⟨V,a1,n1,c1,hx⟩:∃V a1 n1 c1,vals[k]=⟨V,a1,n1,c1⟩:=⟨_,_,_,_,rfl⟩;obtain⟨b,o,hab,dH⟩:=(Ha.out.below Hb.out).aw5 k bG hx;obtain⟨q0,q1⟩:=dH.w2;have bK:=uH n cap k (k:Int) hab hlt rfl;have hcall:=iI.out _ (List.getElem_mem bG) wr Hb.out;have hstep:=aaV p vals k k bG;rw[<-oH.out]at hstep;rw[hx]at hcall hstep;obtain⟨fW,kY⟩:=aO hstep hcall;have oG:=ny.out;clear dH hab hx hstep hcall;go_wp2_with fail;refine kY.out.mono ?_;rintro e9 w1 ⟨rfl,hb1⟩;replace Hb:=ai (aJ Hb.out hb1);clear hb1 q0 q1 bK oG;obtain⟨t,ht⟩:=aG (p ⟨V,a1,n1,c1⟩);rw[ht]at fW⊢;clear ht;cases t with
    |true=>go_wp2;refine bodyPost_ret (results_tmp rfl _ _ _) rfl ⟨?_,Hb.out⟩;have h:=fW.out;rw[if_pos (by trivial)]at h;rw[h];rfl
    | false=>
      go_wp2;go_roundw;case rel=>exact⟨k+1,by omega,by go_num,by have h:=fW.out;rw[if_neg zd]at h;exact h,Hb.out⟩
      case measure=>simp[intOf];omega
  . obtain rfl:k=n:=by omega
    go_wp2;refine bodyPost_ret (results_tmp rfl _ _ _) rfl ⟨?_,Hb.out⟩;have h:=oH.out;rw[List.drop_of_length_le (by rw[Hn.out];exact Nat.le_refl _)]at h;rw[h];rfl
theorem ajg (a:Option Addr)(n cap:Nat)(vals:List Pv)(gf:Nat)(lb:Array Value)(p:Pv->Bool)(w:World)(hn:vals.length=n)(hl:n<=1099511627776)(ha:At w a (vals.flatMap jv))
 (eg:∀args w,(callFunc gf args).run Tryz.prog w=.ok (.enter gf args) w)
 (hcl:∀x∈vals,∀W,Bw w W->Calls Tryz.prog gf (#[.agg #[af x.V,.slice x.a x.n x.c]]++lb) W λe w'=>e=.returned (ag (p x))/\Bw W w'):
 Calls Tryz.prog 191 #[.slice a n cap,.func (.func gf) #[] lb] w λe w'=>e=.returned (ag (vals.any p))/\Bw w w':=by
 have h1:=amr a n cap vals gf lb p w hn hl ha eg hcl;rw[<-aaU p vals 0];generalize mR p vals 0=i at*;have H1:=ai h1;clear h1 hcl eg ha hn;have Hb:Hid (Bw w w):=Below.refl _ _;go_enter Tryz.func191,Tryz.ntmps191;go_wp2_with fail;refine(H1.out).mono ?_;rintro e w1 ⟨rfl,ae⟩;replace Hb:=aB Hb ae;clear ae;go_wp2;exact bodyPost_ret (v:=ag (decide (0<=i))) (by simp[results,Tryz.results191,go_sem]) rfl ⟨rfl,df⟩
end Go.Proofs.YtoopepmmepmfnaaGreatDoor
namespace Go.Proofs.YtoopepmmepmfnaaGreatDoor
open Go.RowKit
def gF (w:World)(base n:Nat)(R:List (List Dyadic))(k:Nat)(v:Value):Prop:=
 ∃vals:List Value,vals.length=k/\w.ownsRow base 49 1 v k vals/\(∀i (h:i<vals.length),w.ownsRow base 39 3 vals[i] n (dC (R.getD i [])))/\
  ∀i j (hi:i<vals.length) (hj:j<vals.length) g,vals[i].ownBlock=some g->vals[j].ownBlock=some g->i=j
theorem gF.nil (w:World)(base n:Nat)(R:List (List Dyadic)):gF w base n R 0 (.slice none 0 0):=
 ⟨[],rfl,World.ownsRow_nil _ _ _ _,λ_ h=>absurd h (Nat.not_lt_zero _),λ_ _ h=>absurd h (Nat.not_lt_zero _)⟩
theorem gF.below {w w':World}{base n k:Nat}{R:List (List Dyadic)}{v:Value}(h:gF w base n R k v)(hb:Bw w w'):gF w' base n R k v:=by obtain⟨vals,hl,ho,hi,hd⟩:=h;exact⟨vals,hl,ownsRow_below ho hb,λi h=>ownsRow_below (hi i h) hb,hd⟩
theorem gF.push {w w':World}{base n k:Nat}{R:List (List Dyadic)}{v v' x:Value}{vals:List Value}(hl:vals.length=k)(hov:w.ownsRow base 49 1 v k vals)(hi:∀i (h:i<vals.length),w.ownsRow base 39 3 vals[i] n (dC (R.getD i [])))
 (hd:∀i j (hi:i<vals.length) (hj:j<vals.length) g,vals[i].ownBlock=some g->vals[j].ownBlock=some g->i=j)
 (hx:w.ownsRow base 39 3 x n (dC (R.getD k []))) (kI:∀g,x.ownBlock=some g->∀i (h:i<vals.length),vals[i].ownBlock≠some g)
 (ho:w'.ownsRow base 49 1 v' (k+1) (vals++[x])) (hg:w.grownBy w' v.ownBlock):gF w' base n R (k+1) v':=by
 refine⟨_,by simp[hl],ho,λi h=>?_,λi j h1 h2 g e1 e2=>?_⟩
 . by_cases hk:i<vals.length
   . rw[List.getElem_append_left hk];exact(hi i hk).kept hg (Iu (hi i hk) hov zd)
   . have hik:i=k:=by simp at h;omega
     subst hik;rw[List.getElem_append_right zo];simp only[hl,Nat.sub_self,List.getElem_cons_zero];exact hx.kept hg (Iu hx hov zd)
 . by_cases k1:i<vals.length
   . rw[List.getElem_append_left k1]at e1;by_cases k2:j<vals.length
     . rw[List.getElem_append_left k2]at e2;exact hd i j k1 k2 g e1 e2
     . have hjk:j=k:=by simp at h2;omega
       subst hjk;rw[List.getElem_append_right zo]at e2;simp only[hl,Nat.sub_self,List.getElem_cons_zero]at e2;exact absurd e1 (kI g e2 i k1)
   . have hik:i=k:=by simp at h1;omega
     subst hik;rw[List.getElem_append_right zo]at e1;simp only[hl,Nat.sub_self,List.getElem_cons_zero]at e1;by_cases k2:j<vals.length
     . rw[List.getElem_append_left k2]at e2;exact absurd e2 (kI g e1 j k2)
     . simp at h2;omega
theorem gF.tbl {w:World}{base n k:Nat}{R:List (List Dyadic)}{v:Value}(h:gF w base n R k v)(hk:R.length=k)(hn:∀r∈R,r.length=n):∃a c,v=.slice a k c/\k<=c/\cC w a (R.map λr=>r.map canon):=by
 obtain⟨vals,hl,ho,hi,hd⟩:=h;obtain⟨a,c,hv,hat,_⟩:=eo ho;subst hv;refine⟨a,c,rfl,Dm ho,vals,by simp[hl,hk],hat,λi h1 h2=>?_⟩;obtain⟨a1,c1,e1,e2,_⟩:=eo (hi i h2);have hi1:i<R.length:=by simpa using h1
 have eg:R.getD i []=R[i]:=by simp[hi1]
 rw[eg]at e2;refine⟨a1,c1,?_,?_⟩
 . rw[e1];simp[hn _ (List.getElem_mem hi1)]
 . rw[List.getElem_map,<-vC];exact e2
theorem ajo (ds:List Dyadic)(j:Nat)(hj:j<ds.length):(dC ds)[j*3]?=some (ag (au (dN ds[j])))/\(dC ds)[j*3+1]?=some (ah (nt (dN ds[j]).natAbs))/\(dC ds)[j*3+2]?=some (af (dE ds[j])):=by have h:=λi (hi:i<3)=>flat_get (λd=>bI (canon d)) 3 (λ_=>rfl) ds j i hj hi;unfold dC;exact⟨(h 0 zd),(h 1 zd),(h 2 zd)⟩
theorem gF.num {w:World}{base n L:Nat}{R:List (List Dyadic)}{v:Value}(h:gF w base n R L v)(i j:Nat)(hi:i<L)(hj:j<n)(hR:R.length=L)(hr:(R.getD i []).length=n):
 ∃go cap g c,v=.slice (some ⟨go,0,none⟩) L cap/\base<=go/\base<=g/\g≠go/\w.cell? ⟨go,i,none⟩=some (.slice (some ⟨g,0,none⟩) n c)/\
  bH w g (j*3) [ag (au (dN ((R.getD i []).getD j 0))),ah (nt (dN ((R.getD i []).getD j 0)).natAbs),af (dE ((R.getD i []).getD j 0))]/\(∀o,w.frozen? ⟨g,o,none⟩=false)/\
  ∀y:Dyadic,gF (((w.setCell ⟨g,j*3,none⟩ (ag (au (dN y)))).setCell ⟨g,j*3+1,none⟩ (ah (nt (dN y).natAbs))).setCell ⟨g,j*3+2,none⟩ (af (dE y))) base n (R.set i ((R.getD i []).set j y)) L v:=by
 obtain⟨vals,hl,ho,hv,hd⟩:=h;have hi2:i<vals.length:=by omega
 have hrow:=hv i hi2;have hxl:(dC (R.getD i [])).length=n*3:=by rw[ajp,hr]
 obtain⟨a0,cap,rfl,_,_⟩:=eo ho;obtain⟨a1,c,e1,_,hab⟩:=eo hrow;rw[e1]at hrow;rcases ho.2 with⟨h1,_⟩ |⟨go,cap',cur,h1,pY,hgo,_⟩
 . simp at h1;omega
 simp only[Value.slice.injEq,true_and]at h1;obtain⟨rfl,rfl⟩:=h1;have hrow2:=hrow;rcases hrow.2 with⟨h1,_⟩ |⟨g,c',cur',h1,hbg,hgg,_⟩
 . simp at h1;omega
 simp only[Value.slice.injEq,true_and]at h1;obtain⟨rfl,rfl⟩:=h1;have hne:g≠go:=by rintro rfl;rw[hgo]at hgg;simp at hgg
 have hat:=ajo (R.getD i []) j zo;have hg0:(R.getD i []).getD j 0=(R.getD i [])[j]'zo:=by rw[List.getD_eq_getElem?_getD,List.getElem?_eq_getElem zo];rfl
 have hc0:=mY hrow (j*3) zo;have hc1:=mY hrow (j*3+1) zo;have hc2:=mY hrow (j*3+2) zo;rw[<-List.getElem?_eq_getElem]at hc0 hc1 hc2;rw[hat.1]at hc0;rw[hat.2.1]at hc1;rw[hat.2.2]at hc2;refine⟨go,cap,g,c,rfl,pY,hbg,hne,?_,by rw[hg0];exact kv hc0 hc1 hc2,λo=>?_,λy=>?_⟩
 . rw[mY ho i zo,e1]
 . have h4:ar w g 39 cur'.toList:=by unfold ar;simpa using hgg
   exact h4.free o
 . refine⟨vals,hl,?_,λm hm=>?_,hd⟩
   . have hn:∀(o:Nat) (u:Value) (W:World),W.ownsRow base 49 1 (.slice (some ⟨go,0,none⟩) L cap) L vals->(W.setCell ⟨g,o,none⟩ u).ownsRow base 49 1 (.slice (some ⟨go,0,none⟩) L cap) L vals:=λo u W h=>ownsRow_setCell_other h (by simpa[Value.ownBlock]using hne.symm) _;exact hn _ _ _ (hn _ _ _ (hn _ _ _ ho))
   . by_cases mg:m=i
     . subst mg;have hs:(R.set m ((R.getD m []).set j y)).getD m []=(R.getD m []).set j y:=by rw[List.getD_eq_getElem?_getD,List.getElem?_set_self zo];rfl
       rw[hs,e1,<-ajq];exact mZ (mZ (mZ hrow _ _) _ _) _ _
     . have hs:(R.set i ((R.getD i []).set j y)).getD m []=R.getD m []:=by rw[List.getD_eq_getElem?_getD,List.getElem?_set_ne (λe=>mg e.symm),<-List.getD_eq_getElem?_getD]
       rw[hs];have hno:vals[m].ownBlock≠some g:=λe=>mg (hd m i hm hi2 g e (by rw[e1];rfl));exact ownsRow_setCell_other (ownsRow_setCell_other (ownsRow_setCell_other (hv m hm) hno _) hno _) hno _
end Go.Proofs.YtoopepmmepmfnaaGreatDoor
namespace Go.Proofs.YtoopepmmepmfnaaGreatDoor
def iU (m:List UInt8):List aM->Nat
 |[]=>0
 |x::l=>if Op.bytesLess x.1 m then iU m l+1 else 0
theorem ahD (m:List UInt8)(l:List aM):iU m l<=l.length:=by
 induction l with
 |nil=>exact Nat.le_refl _
 |cons x l ih=>unfold iU;split<;>simp<;>omega
def iu (l:List aM)(x:aM):List aM:=match l with
 |[]=>[(x.1,canon (az x.2))]
 |y::l=>if Op.bytesLess y.1 x.1 then y::iu l x else if y.1=x.1 then(x.1,canon (az y.2+az x.2))::l else(x.1,canon (az x.2))::y::l
theorem ace (l:List aM)(x:aM):iu l x=l.take (iU x.1 l)++(if(l.drop (iU x.1 l)).head?.map (·.1)=some x.1 then(x.1,canon (az ((l.drop (iU x.1 l)).headD default).2+az x.2))::l.drop (iU x.1 l+1)else(x.1,canon (az x.2))::l.drop (iU x.1 l)):=by
 induction l with
 |nil=>simp[iu,iU]
 | cons y l ih=>
   unfold iu iU;by_cases h:Op.bytesLess y.1 x.1=true
   . rw[if_pos h,if_pos h,ih,show List.drop (iU x.1 l+1) (y::l)=List.drop (iU x.1 l) l from rfl,show List.drop (iU x.1 l+1+1) (y::l)=List.drop (iU x.1 l+1) l from rfl,List.take_succ_cons,List.cons_append]
   . rw[if_neg h,if_neg h];by_cases e:y.1=x.1
     . rw[if_pos e];simp[e]
     . rw[if_neg e];simp[e]
theorem ai6 (l:List aM)(x:aM)(m:List UInt8):cF (iu l x) m=cF l m+if x.1=m then az x.2 else 0:=by
 induction l with
 |nil=>simp only[iu,cF,bD];grind
 | cons y l ih=>
   unfold iu;split
   . simp only[cF,ih];grind
   . split
     . rename_i h e
       simp only[cF,bD,e];split<;>grind
     . simp only[cF,bD];grind
theorem ape (l:List aM)(x:aM):∀y∈iu l x,y.1=x.1\/∃z∈l,z.1=y.1:=by
 induction l with
 |nil=>intro y hy;simp only[iu,List.mem_singleton]at hy;rw[hy];exact .inl rfl
 | cons z l ih=>
   intro y hy;unfold iu at hy;split at hy
   . rcases List.mem_cons.1 hy with rfl|hy
     . exact .inr ⟨y,by simp,rfl⟩
     . rcases ih y hy with h|⟨u,hu,e⟩
       . exact .inl h
       . exact .inr ⟨u,by simp[hu],e⟩
   . split at hy
     . rcases List.mem_cons.1 hy with rfl|hy
       . exact .inl rfl
       . exact .inr ⟨y,by simp[hy],rfl⟩
     . rcases List.mem_cons.1 hy with rfl|hy
       . exact .inl rfl
       . exact .inr ⟨y,hy,rfl⟩
theorem aph (l:List aM)(x:aM)(h:Up l):Up (iu l x):=by
 induction l with
 |nil=>exact List.pairwise_singleton _ _
 | cons y l ih=>
   obtain⟨h1,h2⟩:=List.pairwise_cons.1 h;unfold iu;split
   . rename_i hy
     refine List.pairwise_cons.2 ⟨λz hz=>?_,ih h2⟩;rcases ape l x z hz with e|⟨u,hu,e⟩
     . rw[e];exact hy
     . rw[<-e];exact h1 u hu
   . rename_i hy
     split
     . rename_i e
       refine List.pairwise_cons.2 ⟨λz hz=>?_,h2⟩;show Op.bytesLess x.1 z.1=true
       rw[<-e];exact h1 z hz
     . rename_i e
       have hlt:Op.bytesLess x.1 y.1=true:=by
        cases hc:Op.bytesLess x.1 y.1 with
        |true=>rfl
        |false=>exact absurd (EU (by simpa using hy) hc) e
       refine List.pairwise_cons.2 ⟨λz hz=>?_,h⟩;show Op.bytesLess x.1 z.1=true
       rcases List.mem_cons.1 hz with rfl|hz
       . exact hlt
       . exact ET hlt (h1 z hz)
theorem apd (l:List aM)(x:aM):(iu l x).length<=l.length+1:=by
 induction l with
 |nil=>exact Nat.le_refl _
 | cons y l ih=>
   unfold iu;split
   . simp only[List.length_cons];omega
   . split<;>simp
def iR (l:List aM):List aM:=l.foldl iu []
theorem Dr (l:List aM)(x:aM):iR (l++[x])=iu (iR l) x:=by unfold iR;rw[List.foldl_append];rfl
theorem ID {Q:List aM->Prop}(h0:Q [])(h1:∀l x,Q l->Q (l++[x]))(l:List aM):Q l:=by
 have h:∀r:List aM,Q r.reverse:=by
  intro r;induction r with
  |nil=>exact h0
  |cons x r ih=>rw[List.reverse_cons];exact h1 _ _ ih
 have:=h l.reverse;rwa [List.reverse_reverse]at this
theorem apl (l:List aM):Up (iR l):=ID (Q:=λl=>Up (iR l)) List.Pairwise.nil (λl x ih=>by rw[Dr];exact aph _ _ ih) l
theorem ai7 (l:List aM)(m:List UInt8):cF (iR l) m=cF l m:=ID (Q:=λl=>cF (iR l) m=cF l m) rfl (λl x ih=>by rw[Dr,ai6,ih,zz];simp only[cF];grind) l
theorem apj (l:List aM):(iR l).length<=l.length:=ID (Q:=λl=>(iR l).length<=l.length) (Nat.le_refl _) (λl x ih=>by rw[Dr];have:=apd (iR l) x;simp;omega) l
theorem apc (l:List aM)(x:aM)(h:∀t∈l,t.2=canon (az t.2)):∀t∈iu l x,t.2=canon (az t.2):=by
 have hc:∀X:Dyadic,canon X=canon (az (canon X)):=λX=>by rw[bD]
 induction l with
 |nil=>intro t ht;simp only[iu,List.mem_singleton]at ht;rw[ht];exact hc _
 | cons y l ih=>
   intro t ht;unfold iu at ht;split at ht
   . rcases List.mem_cons.1 ht with rfl|ht
     . exact h _ zm
     . exact ih (λt ht=>h t (by simp[ht])) t ht
   . split at ht
     . rcases List.mem_cons.1 ht with rfl|ht
       . exact hc _
       . exact h t (by simp[ht])
     . rcases List.mem_cons.1 ht with rfl|ht
       . exact hc _
       . exact h t ht
theorem acf (l:List aM):∀t∈iR l,t.2=canon (az t.2):=ID (Q:=λl=>∀t∈iR l,t.2=canon (az t.2)) (λt ht=>by cases ht) (λl x ih=>by rw[Dr];exact apc _ _ ih) l
theorem akI (l:List aM):(iR l).filter iG=bY l:=by refine Xq ⟨List.Pairwise.filter _ (apl l),λx hx=>?_⟩ (Co l) (λm=>by rw[Wx,ai7,um]);obtain⟨h1,h2⟩:=List.mem_filter.1 hx;refine⟨(zH _).1 ?_,acf l x h1⟩;unfold iG at h2;simpa using h2
end Go.Proofs.YtoopepmmepmfnaaGreatDoor
