/- Package tri: the longest edge. -/
import Derived.Test.YtdaadlblknpipaaGreatDoorZ11
import Derived.Test.YtdaadlblknpipaaGreatDoorZ1
set_option linter.unusedVariables false
set_option linter.unusedSimpArgs false
set_option maxRecDepth 100000
set_option maxHeartbeats 16000000
namespace Go.Proofs.YtdaadlblknpipaaGreatDoor
open Go.RowKit
attribute [local go_sem ↓] Go.wp_at_zero Go.wp_at_succ
def nU (rows:List (List Raw))(n a b:Nat):Dyadic:=tQ ((rows.getD a []).map aC) ((rows.getD b []).map aC) n
def Df (sq:Nat->Nat->Dyadic)(a b:Nat)(s:Nat×Nat×Dyadic):Nat×Nat×Dyadic:=if 0<bV (sq a b-s.2.2)then(a,b,sq a b)else s
def xE (sq:Nat->Nat->Dyadic)(a:Nat):Nat->Nat->Nat×Nat×Dyadic->Nat×Nat×Dyadic
 |0,_,s=>s
 |k+1,b,s=>xE sq a k (b+1) (Df sq a b s)
def tB (sq:Nat->Nat->Dyadic)(L:Nat):Nat->Nat->Nat×Nat×Dyadic->Nat×Nat×Dyadic
 |0,_,s=>s
 |k+1,a,s=>tB sq L k (a+1) (xE sq a (L-(a+1)) (a+1) s)
def mQ (sq:Nat->Nat->Dyadic)(L:Nat):Nat×Nat×Dyadic:=tB sq L L 0 (0,1,sq 0 1)
theorem ajA (sq:Nat->Nat->Dyadic)(Q:Nat×Nat×Dyadic->Prop)(L a k b:Nat)(s:Nat×Nat×Dyadic)(hs:Q s)(hab:a<b)(hb:b+k<=L)(h:∀a b,a<b->b<L->Q (a,b,sq a b)):Q (xE sq a k b s):=by
 induction k generalizing b s with
 |zero=>exact hs
 | succ k ih=>
   unfold xE;refine ih (b+1) _ ?_ zo zo;unfold Df;split
   . exact h a b hab zo
   . exact hs
theorem ajz (sq:Nat->Nat->Dyadic)(Q:Nat×Nat×Dyadic->Prop)(L k a:Nat)(s:Nat×Nat×Dyadic)(hs:Q s)(hb:a+k<=L)(h:∀a b,a<b->b<L->Q (a,b,sq a b)):Q (tB sq L k a s):=by
 induction k generalizing a s with
 |zero=>exact hs
 |succ k ih=>unfold tB;exact ih (a+1) _ (ajA sq Q L a _ (a+1) s hs zo zo h) zo
theorem ajB (sq:Nat->Nat->Dyadic)(L:Nat)(hL:2<=L):(mQ sq L).1<(mQ sq L).2.1/\(mQ sq L).2.1<L/\(mQ sq L).2.2=sq (mQ sq L).1 (mQ sq L).2.1:=
 ajz sq (λs=>s.1<s.2.1/\s.2.1<L/\s.2.2=sq s.1 s.2.1) L L 0 (0,1,sq 0 1) ⟨Nat.zero_lt_one,hL,rfl⟩ zo (λa b h1 h2=>⟨h1,h2,rfl⟩)
abbrev BR (s:Nat×Nat×Dyadic):List Value:=[.int .i64 (s.1:Int),.int .i64 (s.2.1:Int),.bool (ar (dN s.2.2)),.string (bs (nt (dN s.2.2).natAbs)),.int .i64 (dE s.2.2)]
theorem At.drew {w:World}{a:Option Addr}{cs:List Value}(h:At w a cs):At w.drew a cs:=h
theorem At.alloc {w:World}{a:Option Addr}{cs:List Value}(h:At w a cs)(o:Obj):At (w.alloc o) a cs:=h.below zl
theorem amR (rows:List (List Raw))(n B x y:Nat)(a:Option Addr)(cap:Nat)(a':Option Addr)(cap':Nat)(D:Dyadic)(w:World)(hx:x<rows.length)(hy:y<rows.length)(hn:n<=8)(hrow:∀r∈rows,r.length=n)(hfit:∀r∈rows,∀c∈r,Fit B c)(hB:B<=10000000)
 (hD:nU rows n x y=D) (ha:At w a (rows[x].flatMap bA)) (ha':At w a' (rows[y].flatMap bA)) (hT:az w):
 Calls Tryz.prog 89 #[.slice a rows[x].length cap,.slice a' rows[y].length cap'] w λe w'=>e=.returned (bL D)/\Bw w w':=by
 have h1:=hrow _ (List.getElem_mem hx);have h2:=hrow _ (List.getElem_mem hy);have e1:rows.getD x []=rows[x]:=by simp[hx]
 have e2:rows.getD y []=rows[y]:=by simp[hy]
 unfold nU at hD;rw[e1,e2]at hD;rw[h1,h2,<-hD];exact amQ a n cap rows[x] a' cap' rows[y] B w h1 h2 hn ha ha' (hfit _ (List.getElem_mem hx)) (hfit _ (List.getElem_mem hy)) hB hT
theorem amP {rows:List (List Raw)}{n B:Nat}(hfit:∀r∈rows,∀c∈r,Fit B c)(x y:Nat):Sm (2*B+2+n) (nU rows n x y):=by
 have h:∀z,∀c∈(rows.getD z []).map aC,Sm B c:=λz c hc=>by
  obtain⟨u,hu,rfl⟩:=List.mem_map.1 hc;by_cases hz:z<rows.length
  . have e:rows.getD z []=rows[z]:=by simp[hz]
    rw[e]at hu;exact(hfit _ (List.getElem_mem hz) u hu).2
  . have e:rows.getD z []=[]:=by simp[List.getD_eq_getElem?_getD,List.getElem?_eq_none (by omega:rows.length<=z)]
    rw[e]at hu;cases hu
 exact Zk (h x) (h y) n
theorem ajE (a:Option Addr)(L cap n:Nat)(rows:List (List Raw))(B:Nat)(w:World)(hL:rows.length=L)(hL2:2<=L)(LK:L<=9)(hn:n<=8)(hrow:∀r∈rows,r.length=n)(ha:bj w a rows)
 (hfit:∀r∈rows,∀c∈r,Fit B c) (hB:B<=10000000) (hT:az w):
 Calls Tryz.prog 47 #[.slice a L cap] w λe w'=>e=.returned (.agg (BR (mQ (nU rows n) L)).toArray)/\Bw w w':=by
 obtain⟨sq,qu⟩:=aB (nU rows n);have hsm:∀x y,Sm (2*B+10) (sq x y):=λx y=>by rw[<-qu];exact(amP hfit x y).mono zo
 have hcall:∀x y (hx:x<rows.length) (hy:y<rows.length) (a1:Option Addr) (c1:Nat) (a2:Option Addr) (c2:Nat) (W:World),At W a1 (rows[x].flatMap bA)->At W a2 (rows[y].flatMap bA)->az W->
  Calls Tryz.prog 89 #[.slice a1 rows[x].length c1,.slice a2 rows[y].length c2] W λe w'=>e=.returned (bL (sq x y))/\Bw W w':=λx y hx hy a1 c1 a2 c2 W h1 h2 h3=>
  amR rows n B x y a1 c1 a2 c2 (sq x y) W hx hy hn hrow hfit hB (by rw[<-qu]) h1 h2 h3
 obtain⟨F,hF⟩:=aB (mQ (nU rows n) L);rw[hF];rw[qu]at hF;obtain⟨HL,Ha,Ru,kH,HF,HT,dX⟩:=oP hL ha hsm hcall hF hT hT;clear hL ha hsm hcall hF hT hfit hrow qu;obtain⟨X,hX⟩:=aB (sq 0 1);have HX:=ah hX;clear hX;obtain⟨W,dF,Hb,Hr⟩:=jl w 83 [.int .i64 0,.int .i64 0,.bool false,.string ⟨#[]⟩,.int .i64 0];obtain⟨r0,aj,r1,ak,r2,aF,r3,cJ,r4,di⟩:=Hr.out.g5;have HT:Hid (az W):=HT.out.below Hb.out;have HS:Hid (bj W a rows):=Ha.out.below Hb.out;go_enter Tryz.func47,Tryz.ntmps47;have lr:=Hr.out.lt;obtain⟨b0,o0,a1,c1,il,hc0,jd⟩:=HS.out.row 0 (by rw[HL.out];omega);obtain⟨js,kC,a2,c2,eY,hc1,kO⟩:=HS.out.row 1 (by rw[HL.out];omega);obtain⟨rfl,rfl⟩:js=b0/\kC=o0:=by rw[il]at eY;simp at eY;exact⟨eY.1.symm,eY.2.symm⟩
 clear eY;have i0:=kw L cap 0 0 il zo rfl;have i1:=kw L cap 1 1 il zo rfl;rw[Nat.mul_one]at i0 i1;rw[Nat.add_zero]at i0 hc0;have kF:=ah il;have xC:js<W.heap.size:=World.block_lt_of_cell? W _ hc0;have tj:=λW'=>kH.out 0 1 (by rw[HL.out];omega) (by rw[HL.out];omega) a1 c1 a2 c2 W';rw[HX.out]at tj;obtain⟨n0,hn0⟩:=aB ((rows[0]'(by rw[HL.out];omega)).length);obtain⟨n1,eD⟩:=aB ((rows[1]'(by rw[HL.out];omega)).length);rw[hn0]at hc0;rw[eD]at hc1;simp only[hn0,eD]at tj;obtain⟨wu,jp,jU⟩:=cK tj jd kO;have Hu:Hid (aY W js kC [.slice a1 n0 c1]):=λj hj=>by
  obtain rfl:j=0:=by simp at hj;omega
  exact hc0
 have Hv:Hid (aY W js (kC+1) [.slice a2 n1 c2]):=λj hj=>by
  obtain rfl:j=0:=by simp at hj;omega
  exact hc1
 clear tj jd kO il hn0 eD hc0 hc1;go_upto_region 1 with fail
 go_cut[3] (λs3 wx=>∃g:Nat,s3=.pointer (some ⟨g,0,none⟩)/\W.heap.size<=g/\ai wx g 83 (BR (0,1,X))/\Bw W wx);case first=>
  have u0:=Hu.out.w1;have v0:=Hv.out.w1;have HT:Hid (az W):=HT.out;refine Pr (λw'=>w'.cell? ⟨js,kC,none⟩=some (.slice a1 n0 c1)/\w'.cell? ⟨js,kC+1,none⟩=some (.slice a2 n1 c2)) (λi=>Nat.blt i 10) 7 9 [(8,true),(9,false),(10,false)] [(7,false),(8,true),(10,false)] [0,1,2,3,4,5,6] zk zk rfl rfl zk zc ⟨u0,v0⟩ ?_;iterate 7 (refine Oi rfl rfl (v:=?_) (λw' hw'=>?_) ?_;rotate_left;(focus obtain⟨q0,q1⟩:=hw';go_simp;try with_reducible rfl);try simp only[UU])
  refine Oe rfl rfl rfl rfl (λK hK=>?_) (λK hK=>?_)
  . go_simp;with_reducible refine(wu.out _ (by first|exact jp.out|exact At.drew jp.out) (by first|exact jU.out|exact At.drew jU.out) (by first|exact HT.out|exact az.drew HT.out|exact az.alloc HT.out _|exact az.drew (az.alloc HT.out _) |exact az.alloc (az.drew HT.out) _)).mono ?_
    rintro e w5 ⟨rfl,hq⟩;have cM:Bw W w5:=aN hq;refine hK _ _ ⟨cell_later cM u0,cell_later cM v0⟩ ?_;try simp only[UU]
    refine pT rfl rfl ?_;try simp only[UU]
    refine aI rfl rfl (λK hK=>?_);go_simp;refine hK _ _ (λ_=>⟨aG (cell_later cM u0),aG (cell_later cM v0)⟩) ?_;try simp only[UU]
    refine aI rfl rfl (λK hK=>?_);go_simp;refine hK _ _ (λh=>absurd h zd) ?_;simp only[aS];go_wp2_with fail;go_meet;exact⟨w5.heap.size,rfl,cM.size,ai.new _ _ _,cM.alloc cM.size _⟩
  . go_simp;refine hK _ _ ⟨aG u0,aG v0⟩ ?_;try simp only[UU]
    refine aI rfl rfl (λK hK=>?_);go_simp;with_reducible refine(wu.out (W.alloc (.cells #[.int .i64 0,.int .i64 0,.bool false,.string ⟨#[]⟩,.int .i64 0] 83)).drew (jp.out.alloc _).drew (jU.out.alloc _).drew (by first|exact HT.out|exact az.drew HT.out|exact az.alloc HT.out _|exact az.drew (az.alloc HT.out _) |exact az.alloc (az.drew HT.out) _)).mono ?_
    rintro e w5 ⟨rfl,hq⟩;have cM:Bw W w5:=pF hq;have Hn:ai w5 W.heap.size 83 [.int .i64 0,.int .i64 0,.bool false,.string ⟨#[]⟩,.int .i64 0]:=ai.below (ai.new W.drew 83 [.int .i64 0,.int .i64 0,.bool false,.string ⟨#[]⟩,.int .i64 0]) hq;have n0':=Hn.cell 0;have xL:=Hn.cell 1;have xM:=Hn.cell 2;have n3':=Hn.cell 3;have n4':=Hn.cell 4;have fK:=Hn.free 0;have fL:=Hn.free 1;have fM:=Hn.free 2;have gm:=Hn.free 3;have gp:=Hn.free 4;refine hK _ _ (λ_=>⟨cell_later cM u0,cell_later cM v0⟩) ?_;try simp only[UU]
    refine pT rfl rfl ?_;try simp only[UU]
    refine aI rfl rfl (λK hK=>?_);go_simp;refine hK _ _ (λh=>absurd h zd) ?_;simp only[aS];go_wp2_with fail;go_meet;exact⟨W.heap.size,rfl,Nat.le_refl _,((((Hn.set 0 _).set 1 _).set 2 _).set 3 _).set 4 _,((((cM.sc W.heap.size 0 (Nat.le_refl _) _).sc W.heap.size 1 (Nat.le_refl _) _).sc W.heap.size 2 (Nat.le_refl _) _).sc W.heap.size 3 (Nat.le_refl _) _).sc W.heap.size 4 (Nat.le_refl _) _⟩
 case rest=>
  obtain⟨g,rfl,hg,qd,qb⟩:=hcut;have Hd:=ah qd;replace Hr:=ah (Hr.out.below qb);replace Hb:=ah (aJ Hb.out qb);have lg:=Hd.out.lt;have lr2:=Hr.out.lt;have szW:=qb.size;clear qd qb r0 r1 r2 r3 r4 aj ak aF cJ di i0 i1 wu jp jU Hu Hv kF HS HT;have Qi:Hid (Sm (2*B+10) X):=by rw[<-HX.out];exact Ru.out 0 1
  have PN:Hid (tB sq L (L-0) 0 (0,1,X)=F):=by rw[<-HX.out];exact HF.out
  go_wp2_with fail;go_loopw[18] (λx wr=>∃(k:Nat) (s:Nat×Nat×Dyadic),k<=L/\x=.int .i64 (k:Int)/\tB sq L (L-k) k s=F/\Sm (2*B+10) s.2.2/\ai wr w.heap.size 83 [.int .i64 0,.int .i64 0,.bool false,.string ⟨#[]⟩,.int .i64 0]/\ai wr g 83 (BR s)/\Bw w wr) (λx _=>L-(intOf x).toNat);case atStart=>exact⟨0,(0,1,X),Nat.zero_le _,rfl,PN.out,Qi.out,Hr.out,Hd.out,Hb.out⟩
  case round=>
   clear Hr Hd Hb PN Qi;obtain⟨k,s,hk,rfl,hF,hs,pr,pd,pb⟩:=hrel;by_cases hlt:k<L
   . obtain⟨Hr,Hd,Hb,Hs⟩:=dH pr pd pb hs;have PP:Hid (tB sq L (L-(k+1)) (k+1) (xE sq k (L-(k+1)) (k+1) s)=F):=by rw[show L-k=L-(k+1)+1 by omega]at hF;exact hF
     clear pr pd pb hs hF;go_wp2_with fail;go_loopw[5] (λx wr=>∃(b:Nat) (s:Nat×Nat×Dyadic),b<=L/\k<b/\x=.int .i64 (b:Int)/\tB sq L (L-(k+1)) (k+1) (xE sq k (L-b) b s)=F/\Sm (2*B+10) s.2.2/\ai wr w.heap.size 83 [.int .i64 0,.int .i64 0,.bool false,.string ⟨#[]⟩,.int .i64 0]/\ai wr g 83 (BR s)/\Bw w wr) (λx _=>L-(intOf x).toNat);case atStart=>exact⟨k+1,s,by omega,by omega,by go_num,PP.out,Hs.out,Hr.out,Hd.out,Hb.out⟩
     case round=>
      clear Hr Hd Hb PP Hs;obtain⟨b,s,hb1,hb2,rfl,hF,hs,pr,pd,pb⟩:=hrel;obtain⟨Hr,Hd,Hb,Hs,PO⟩:=fO pr pd pb hs hF;clear pr pd pb hs hF;by_cases aW:b<L
      . obtain⟨b0,o0,a1,c1,il,hc0,jd⟩:=(Ha.out.below Hb.out).row k (by rw[HL.out];omega);obtain⟨js,kC,a2,c2,eY,hc1,kO⟩:=(Ha.out.below Hb.out).row b (by rw[HL.out];omega);obtain⟨rfl,rfl⟩:js=b0/\kC=o0:=by rw[il]at eY;simp at eY;exact⟨eY.1.symm,eY.2.symm⟩
        clear eY;have i0:=kw L cap k (k:Int) il hlt rfl;have i1:=kw L cap b (b:Int) il aW rfl;rw[Nat.mul_one]at i0 i1;have tj:=λW'=>kH.out k b (by rw[HL.out];omega) (by rw[HL.out];omega) a1 c1 a2 c2 W';obtain⟨Y,hY⟩:=aB (sq k b);have zq:=Ru.out k b;rw[hY]at tj zq;obtain⟨n0,hn0⟩:=aB ((rows[k]'(by rw[HL.out];omega)).length);obtain⟨n1,eD⟩:=aB ((rows[b]'(by rw[HL.out];omega)).length);rw[hn0]at hc0;rw[eD]at hc1;simp only[hn0,eD]at tj;obtain⟨wu,jp,jU,HY,Qk,HT⟩:=iz tj jd kO hY zq (dX.out.below Hb.out);have Hu:Hid (aY wr js (kC+k) [.slice a1 n0 c1]):=λj hj=>by
         obtain rfl:j=0:=by simp at hj;omega
         exact hc0
        have Hv:Hid (aY wr js (kC+b) [.slice a2 n1 c2]):=λj hj=>by
         obtain rfl:j=0:=by simp at hj;omega
         exact hc1
        clear tj jd kO il hn0 eD hc0 hc1 hY zq;have ls1:=Hr.out.lt;have ls2:=Hd.out.lt;go_upto_region 8 with fail
        go_cut[6] (λs6 wx=>∃g':Nat,s6=.pointer (some ⟨g',0,none⟩)/\wr.heap.size<=g'/\ai wx g' 30 [.bool (ar (dN Y)),.string (bs (nt (dN Y).natAbs)),.int .i64 (dE Y)]/\Bw wr wx);case first=>
         have u0:=Hu.out.w1;have v0:=Hv.out.w1;refine Pr (λw'=>w'.cell? ⟨js,kC+k,none⟩=some (.slice a1 n0 c1)/\w'.cell? ⟨js,kC+b,none⟩=some (.slice a2 n1 c2)) (λi=>Nat.blt i 10) 8 9 [(9,false),(10,false)] [(8,false),(10,false)] [0,1,2,3,4,5,6,7] zk zk rfl rfl zk zc ⟨u0,v0⟩ ?_;iterate 8 (refine Oi rfl rfl (v:=?_) (λw' hw'=>?_) ?_;rotate_left;(focus obtain⟨q0,q1⟩:=hw';go_simp;try with_reducible rfl);try simp only[UU])
         refine Oe rfl rfl rfl rfl (λK hK=>?_) (λK hK=>?_)
         . go_simp;with_reducible refine(wu.out _ (by first|exact jp.out|exact At.drew jp.out) (by first|exact jU.out|exact At.drew jU.out) (by first|exact HT.out|exact az.drew HT.out|exact az.alloc HT.out _|exact az.drew (az.alloc HT.out _) |exact az.alloc (az.drew HT.out) _)).mono ?_
           rintro e w5 ⟨rfl,hq⟩;have cM:Bw wr w5:=aN hq;refine hK _ _ ⟨cell_later cM u0,cell_later cM v0⟩ ?_;try simp only[UU]
           refine aI rfl rfl (λK hK=>?_);go_simp;refine hK _ _ (λ_=>⟨aG (cell_later cM u0),aG (cell_later cM v0)⟩) ?_;try simp only[UU]
           refine aI rfl rfl (λK hK=>?_);go_simp;refine hK _ _ (λh=>absurd h zd) ?_;simp only[aS];go_wp2_with fail;go_meet;exact⟨w5.heap.size,rfl,cM.size,ai.new _ _ _,cM.alloc cM.size _⟩
         . go_simp;refine hK _ _ ⟨aG u0,aG v0⟩ ?_;try simp only[UU]
           refine aI rfl rfl (λK hK=>?_);go_simp;with_reducible refine(wu.out (wr.alloc (.cells #[.bool false,.string ⟨#[]⟩,.int .i64 0] 30)).drew (jp.out.alloc _).drew (jU.out.alloc _).drew (by first|exact HT.out|exact az.drew HT.out|exact az.alloc HT.out _|exact az.drew (az.alloc HT.out _) |exact az.alloc (az.drew HT.out) _)).mono ?_
           rintro e w5 ⟨rfl,hq⟩;have cM:Bw wr w5:=pF hq;have Hn:ai w5 wr.heap.size 30 [.bool false,.string ⟨#[]⟩,.int .i64 0]:=ai.below (ai.new wr.drew 30 [.bool false,.string ⟨#[]⟩,.int .i64 0]) hq;obtain⟨n0',fK,xL,fL,xM,fM⟩:=Hn.g3;refine hK _ _ (λ_=>⟨cell_later cM u0,cell_later cM v0⟩) ?_;try simp only[UU]
           refine aI rfl rfl (λK hK=>?_);go_simp;refine hK _ _ (λh=>absurd h zd) ?_;simp only[aS];go_wp2_with fail;go_meet;exact⟨wr.heap.size,rfl,Nat.le_refl _,((Hn.set 0 _).set 1 _).set 2 _,((cM.sc wr.heap.size 0 (Nat.le_refl _) _).sc wr.heap.size 1 (Nat.le_refl _) _).sc wr.heap.size 2 (Nat.le_refl _) _⟩
        case rest=>
         obtain⟨g',rfl,hg',qn,qb⟩:=hcut;have Hn:=ah qn;replace Hr:=ah (Hr.out.below qb);replace Hd:=ah (Hd.out.below qb);replace Hb:=ah (aJ Hb.out qb);have AC:=ah (HT.out.below qb);clear qn qb Hu Hv jp jU wu HT i0 i1;obtain⟨si,sj,sx⟩:=s;have HfY:Hid (Ok (ar (dN Y),nt (dN Y).natAbs,dE Y)):=(Qk.out.fit zo).1;have AW:Hid (Ok (ar (dN sx),nt (dN sx).natAbs,dE sx)):=(Hs.out.fit zo).1;obtain⟨c,hc⟩:=aB (bV (Y-sx));have HC:Hid (bV (aC (ar (dN Y),nt (dN Y).natAbs,dE Y)-aC (ar (dN sx),nt (dN sx).natAbs,dE sx))=c):=by
          show bV (aC (canon Y)-aC (canon sx))=c
          rw[bK,bK];exact hc
         have PQ:Hid (tB sq L (L-(k+1)) (k+1) (xE sq k (L-(b+1)) (b+1) (Df sq k b (si,sj,sx)))=F):=by have h:=PO.out;rw[show L-b=L-(b+1)+1 by omega]at h;exact h
         have hstep:Df sq k b (si,sj,sx)=if 0<c then(k,b,Y)else(si,sj,sx):=by
          unfold Df;rw[HY.out];show(if 0<bV (Y-sx)then _ else _)=_
          rw[hc]
         have gU:=ah hstep;clear hc hstep;obtain⟨d0,ni,d1,nj,d2,nk,d3,Tw,d4,Tx⟩:=Hd.out.g5;obtain⟨n0,n1,n2⟩:=Hn.out.c3;obtain⟨r0,r1,r2,r3,r4⟩:=Hr.out.c5;go_wp2_with fail;refine(afN _ _ _ _ _ _ c HC.out _ HfY.out AW.out AC.out).mono ?_;rintro e w7 ⟨rfl,ae⟩;clear d0 ni d1 nj d2 nk d3 Tw d4 Tx n0 n1 n2 r0 r1 r2 r3 r4;replace Hd:=kB Hd ae;replace Hn:=kB Hn ae;replace Hr:=kB Hr ae;obtain⟨d0,ni,d1,nj,d2,nk,d3,Tw,d4,Tx⟩:=Hd.out.g5;obtain⟨n0,n1,n2⟩:=Hn.out.c3;obtain⟨r0,r1,r2,r3,r4⟩:=Hr.out.c5;replace Hb:=au Hb ae;clear ae;by_cases hc0:0<c
         . go_wp2;go_roundw;case rel=>
            refine⟨b+1,(k,b,Y),by omega,by omega,by go_num,?_,Qk.out,?_,?_,?_⟩
            . have h:=PQ.out;rw[gU.out,if_pos hc0]at h;exact h
            . exact((((Hr.out.so g 0 zo _).so g 1 zo _).so g 2 zo _).so g 3 zo _).so g 4 zo _
            . exact((((Hd.out.set 0 _).set 1 _).set 2 _).set 3 _).set 4 _
            . exact((((Hb.out.sc g 0 zo _).sc g 1 zo _).sc g 2 zo _).sc g 3 zo _).sc g 4 zo _
           case measure=>simp[intOf];omega
         . go_wp2;go_roundw;case rel=>refine⟨b+1,(si,sj,sx),by omega,by omega,by go_num,?_,Hs.out,Hr.out,Hd.out,Hb.out⟩;have h:=PQ.out;rw[gU.out,if_neg zo]at h;exact h
           case measure=>simp[intOf];omega
      . obtain rfl:b=L:=by omega
        go_wp2;go_roundw;case rel=>refine⟨k+1,s,by omega,by go_num,?_,Hs.out,Hr.out,Hd.out,Hb.out⟩;have h:=PO.out;rw[Nat.sub_self]at h;exact h
        case measure=>simp[intOf];omega
   . obtain rfl:k=L:=by omega
     rw[Nat.sub_self]at hF;have IP:Hid (s=F):=hF;obtain⟨si,sj,sx⟩:=s;obtain⟨Hr,Hd,Hb⟩:=cK pr pd pb;clear pr pd pb hF hs;obtain⟨d0,d1,d2,d3,d4⟩:=Hd.out.c5;obtain⟨r0,aj,r1,ak,r2,aF,r3,cJ,r4,di⟩:=Hr.out.g5;go_wp2;clear d0 d1 d2 d3 d4 r0 aj r1 ak r2 aF r3 cJ r4 di;refine fR (bG wr (w.heap.size) 0 [.int .i64 (si:Int),.int .i64 (sj:Int),.bool (ar (dN sx)),.string (bs (nt (dN sx).natAbs)),.int .i64 (dE sx)]) bP ?_;intro w9 hs;replace Hd:=kS Hd hs zo;replace Hr:=cp Hr hs;obtain⟨d0,d1,d2,d3,d4⟩:=Hd.out.c5;obtain⟨r0,aj,r1,ak,r2,aF,r3,cJ,r4,di⟩:=Hr.out.g5;replace Hb:=bS Hb hs ZS;clear hs;refine bodyPost_ret (v:=.agg (BR (si,sj,sx)).toArray) (by simp[results,Tryz.results47,go_sem,r0,r1,r2,r3,r4]) rfl ⟨by rw[<-IP.out],Hb.out⟩
theorem Tryz.arU :(Tryz.prog.info? 46).map (λi=>(i.zero,i.size,i.bytes))=some (some (.slice none 0 0),1,24):=by kernel_rfl
def om (r:List Raw):List Raw:=r.map λx=>canon (aC x)
theorem agX (r:List Raw):(om r).length=r.length:=by simp[om]
theorem agW (r:List Raw):(om r).flatMap bA=dC (r.map aC):=by rw[ol,List.map_map];rfl
def Own2 (e:TypeId)(w:World)(base:Nat)(R:List (List Dyadic))(k:Nat)(v:Value):Prop:=
 ∃vals:List Value,vals.length=k/\w.ownsRow base e 1 v k vals/\∀i (h:i<vals.length),∃a c,vals[i]=.slice a (R.getD i []).length c/\At w a (dC (R.getD i []))/\∀b o,a=some ⟨b,o,none⟩->some b≠v.ownBlock/\b<w.heap.size
theorem Own2.nil (e:TypeId)(w:World)(base:Nat)(R:List (List Dyadic)):Own2 e w base R 0 (.slice none 0 0):=
 ⟨[],rfl,World.ownsRow_nil _ _ _ _,λ_ h=>absurd h (Nat.not_lt_zero _)⟩
theorem Own2.below {e:TypeId}{w w':World}{base k:Nat}{R:List (List Dyadic)}{v:Value}(h:Own2 e w base R k v)(hb:Bw w w'):Own2 e w' base R k v:=by obtain⟨vals,hl,ho,hi⟩:=h;refine⟨vals,hl,ownsRow_below ho hb,λi h=>?_⟩;obtain⟨a,c,h1,h2,h3⟩:=hi i h;exact⟨a,c,h1,h2.below hb,λb o e=>⟨(h3 b o e).1,Nat.lt_of_lt_of_le (h3 b o e).2 hb.size⟩⟩
theorem Own2.push {e:TypeId}{w w':World}{base k:Nat}{R:List (List Dyadic)}{v v':Value}{vals:List Value}(hl:vals.length=k)(hi:∀i (h:i<vals.length),∃a c,vals[i]=.slice a (R.getD i []).length c/\At w a (dC (R.getD i []))/\∀b o,a=some ⟨b,o,none⟩->some b≠v.ownBlock/\b<w.heap.size)
 {a:Option Addr} {c:Nat} (ha:At w a (dC (R.getD k []))) (hab:∀b o,a=some ⟨b,o,none⟩->some b≠v.ownBlock/\b<w.heap.size)
 (ho:w'.ownsRow base e 1 v' (k+1) (vals++[.slice a (R.getD k []).length c])) (hg:w.grownBy w' v.ownBlock) (fU:v'.ownBlock=v.ownBlock\/v'.ownBlock=some w.heap.size):Own2 e w' base R (k+1) v':=by
 have hne:∀b,some b≠v.ownBlock->b<w.heap.size->some b≠v'.ownBlock:=by
  intro b h1 h2;rcases fU with h|h
  . rw[h];exact h1
  . rw[h];intro h3;simp at h3;omega
 refine⟨_,by simp[hl],ho,λi h=>?_⟩;by_cases hk:i<vals.length
 . obtain⟨a1,c1,h1,h2,h3⟩:=hi i hk;refine⟨a1,c1,by rw[List.getElem_append_left hk];exact h1,h2.grown hg (λb o e=>(h3 b o e).1),λb o e=>⟨hne b (h3 b o e).1 (h3 b o e).2,Nat.lt_of_lt_of_le (h3 b o e).2 hg.size⟩⟩
 . have hik:i=k:=by simp at h;omega
   subst hik;refine⟨a,c,?_,ha.grown hg (λb o e=>(hab b o e).1),λb o e=>⟨hne b (hab b o e).1 (hab b o e).2,Nat.lt_of_lt_of_le (hab b o e).2 hg.size⟩⟩;rw[List.getElem_append_right zo];simp[hl]
theorem Ik {W:World}{base:Nat}{e:TypeId}{size:Nat}{a:Option Addr}{n c:Nat}{xs:List Value}(h:W.ownsRow base e size (.slice a n c) n xs):n<=c:=by
 rcases h.2 with⟨h1,h2⟩ |⟨g,cap,cur,h1,_,_,h2,_⟩
 . omega
 . simp at h1;omega
theorem Own2.tbl {e:TypeId}{w:World}{base k:Nat}{R:List (List Raw)}{v:Value}(h:Own2 e w base (R.map λr=>r.map aC) k v)(hk:R.length=k):∃a c,v=.slice a k c/\k<=c/\bj w a (R.map om):=by
 obtain⟨vals,hl,ho,hi⟩:=h;obtain⟨a,c,hv,hat,_⟩:=dS ho;subst hv;refine⟨a,c,rfl,Ik ho,vals,by simp[hl,hk],hat,λi h1 h2=>?_⟩;obtain⟨a1,c1,e1,e2,_⟩:=hi i h2;have hi1:i<R.length:=by simpa using h1
 have eg:(R.map λr=>r.map aC).getD i []=R[i].map aC:=by simp[hi1]
 rw[eg]at e1 e2;refine⟨a1,c1,?_,?_⟩
 . rw[e1];simp[agX]
 . rw[List.getElem_map,agW];exact e2
theorem anS (a:Option Addr)(L cap:Nat)(rows:List (List Raw))(k0:Nat)(pa:Option Addr)(pn rH:Nat)(Pp:List Raw)(w:World)(hL:rows.length=L)(LK:L<=9)(hP:Pp.length=pn)(uz:pn<=8)(hrow:∀r∈rows,r.length<=8)(ha:bj w a rows)(hp:At w pa (Pp.flatMap bA))
 (hok:∀r∈rows,∀x∈r,Ok x) (GI:∀x∈Pp,Ok x) (hT:az w) (at9:Int) (uC:∀k:Nat,k<L->((k:Int)=at9↔k=k0)):
 Calls Tryz.prog 48 #[.slice a L cap,.int .i64 at9,.slice pa pn rH] w λe w'=>∃a' cap',e=.returned (.slice a' L cap')/\L<=cap'/\bj w' a' ((rows.set k0 Pp).map om)/\Bw w w':=by
 obtain⟨i0,hi,hz0,hz1,hz2⟩:=info_parts Tryz.arH;obtain⟨j0,hj,hy0,hy1,hy2⟩:=info_parts Tryz.arU;obtain⟨R,hR⟩:=aB (rows.set k0 Pp);obtain⟨S,hS⟩:=aB (R.map λr=>r.map aC);have Ut:R.length=L:=by rw[<-hR];simp[hL]
 have Us:∀r∈R,r.length<=8:=by
  intro r hr;rw[<-hR]at hr;rcases List.mem_or_eq_of_mem_set hr with h|h
  . exact hrow r h
  . rw[h];omega
 have Uu:∀r∈R,∀x∈r,Ok x:=by
  intro r hr;rw[<-hR]at hr;rcases List.mem_or_eq_of_mem_set hr with h|h
  . exact hok r h
  . rw[h];exact GI
 have uW:∀(W:World) (k:Nat) (hk:k<L),Bw w W->∃b o a1 c1 n1 aq cq,∃(hk2:k<R.length),a=some ⟨b,o,none⟩/\W.cell? ⟨b,o+k,none⟩=some (.slice a1 n1 c1)/\At W aq (R[k].flatMap bA)/\((k=k0/\aq=pa/\R[k].length=pn/\cq=rH)\/(k≠k0/\aq=a1/\R[k].length=n1/\cq=c1)):=by
  intro W k hk hb;obtain⟨b,o,a1,c1,h1,h2,h3⟩:=(ha.below hb).row k zo;by_cases hkk:k=k0
  . refine⟨b,o,a1,c1,_,pa,rH,by omega,h1,h2,?_,.inl ⟨hkk,rfl,?_,rfl⟩⟩
    . have:R[k]'zo=Pp:=by simp only[<-hR,hkk,List.getElem_set_self]
      rw[this];exact hp.below hb
    . have:R[k]'zo=Pp:=by simp only[<-hR,hkk,List.getElem_set_self]
      rw[this];exact hP
  . have:R[k]'zo=rows[k]'zo:=by simp only[<-hR];exact List.getElem_set_ne (λh=>hkk h.symm) _
    refine⟨b,o,a1,c1,_,a1,c1,by omega,h1,h2,?_,.inr ⟨hkk,rfl,by rw[this],rfl⟩⟩;rw[this];exact h3
 rw[hR];obtain⟨Hi,cX,cN,cO,Hj,kI,na,ng,HS,HRL,HR8,aaR⟩:=gY hi hz0 hz1 hz2 hj hy0 hy1 hy2 hS Ut Us Uu;obtain⟨Kg,HT,AL⟩:=cK uW hT uC;clear hi hz0 hz1 hz2 hj hy0 hy1 hy2 hR hS Ut Us Uu uW ha hp hT hL hP hrow hok GI uC;go_enter Tryz.func48,Tryz.ntmps48;have Hb:Hid (Bw w w):=Below.refl _ _;go_wp2_with fail;go_loopw[7,15] (λs7 x wr=>∃(k:Nat) (v:Value),k<=L/\x=.int .i64 (k:Int)/\v=s7/\Own2 46 wr w.heap.size S k v/\Bw w wr) (λ_ x _=>L-(intOf x).toNat);case atStart=>exact⟨0,_,Nat.zero_le _,rfl,rfl,Own2.nil _ _ _ _,Hb.out⟩
 case round=>
  clear Hb;obtain⟨k,v,hk,rfl,rfl,pv,pb⟩:=hrel;by_cases hlt:k<L
  . obtain⟨b1,o1,a1,c1,n1,aq,cq,hk2,hab,hc1,hat,uR⟩:=Kg.out wr k hlt pb;have lQ:=kw L cap k (k:Int) hab hlt rfl;rw[Nat.mul_one]at lQ;obtain⟨Q,hQ⟩:=aB (R[k]);rw[hQ]at hat uR;have LP:=HR8.out _ (List.getElem_mem hk2);have LQ:=aaR.out _ (List.getElem_mem hk2);rw[hQ]at LP LQ;obtain⟨Z,hZ⟩:=aB (Q.map aC);have pS:S.getD k []=Z:=by rw[<-HS.out,<-hZ,<-hQ];simp[hk2]
    have hQl:Q.length<=8:=LP;obtain⟨n,hn⟩:=aB Q.length;rw[hn]at hQl uR;obtain⟨fD,aaO,HZ,ua,Hor,Hn,aQ,dK⟩:=lV hat LQ hZ pS uR hn pb pv;clear hat LQ hZ pS uR hn pb pv hQ hab LP;have iG:=aQ.out.size;go_upto_if 22 with fail
    go_cut[9] (λs9 wx=>s9=.slice aq n cq/\wx=wr);case first=>
     rcases Hor.out with⟨rfl,rfl,rfl,rfl⟩ |⟨h1,rfl,rfl,rfl⟩
     . obtain rfl:=(AL.out k hlt).2 rfl;go_wp2_with fail;go_meet;exact⟨rfl,rfl⟩
     . have h3:¬(k:Int)=at9:=λh=>h1 ((AL.out k hlt).1 h);have h2:((k:Int)==at9)=false:=by simpa using h3
       go_wp2_with fail;go_meet;exact⟨rfl,rfl⟩
    case rest=>
     obtain⟨rfl,rfl⟩:=hcut;clear lQ hc1;go_wp2_with fail;go_loopw[10,26] (λDN x wr=>∃(j:Nat) (v2:Value),j<=n/\x=.int .i64 (j:Int)/\v2=DN/\wr.ownsRow wc.heap.size 30 3 v2 j (dC (Z.take j))/\Bw wc wr) (λ_ x _=>n-(intOf x).toNat);case atStart=>exact⟨0,_,Nat.zero_le _,rfl,rfl,World.ownsRow_nil _ _ _ _,Below.refl _ _⟩
     case round=>
      obtain⟨j,v2,hj,rfl,rfl,ho,hb2⟩:=hrel;by_cases aW:j<n
      . have h1:j<Q.length:=by rw[Hn.out];exact aW
        obtain⟨s,m,e,hx⟩:=ki (Q[j]);have hok:=aaO.out _ (List.getElem_mem h1);rw[hx]at hok;obtain⟨X,hX⟩:=aB (aC (s,m,e));have bX:Hid (dC (Z.take (j+1))=dC (Z.take j)++[.bool (ar (dN X)),.string (bs (nt (dN X).natAbs)),.int .i64 (dE X)]):=by
         show _=_
         rw[<-HZ.out,List.take_succ_eq_append_getElem (by simpa using h1),wI];congr 1;simp only[List.getElem_map,hx,hX];rfl
        obtain⟨b2,o2,fx,p0,p1,p2⟩:=(fD.out.below hb2).num j h1 hx;have pZ:=lT n cq j (j:Int) fx aW rfl;obtain⟨HX,IW,Ho,cd,AC⟩:=fO hX hok ho hb2 ((HT.out.below aQ.out).below hb2);have DT:=hb2.size;have Hp:Hid (aY wr b2 (o2+j*3) [.bool s,.string (bs m),.int .i64 e]):=ib p0 p1 p2;clear hX hok ho hb2 hx fx p0 p1 p2;have Hb:Hid (Bw wr wr):=Below.refl _ _;obtain⟨p0,p1,p2⟩:=Hp.out.w3;have P0:=p0;have P1:=p1;have P2:=p2;obtain⟨W4,kj,ae,Hc⟩:=cL wr 30 [.bool s,.string (bs m),.int .i64 e];clear p0 p1 p2;replace Hp:=kW Hp ae;obtain⟨p0,p1,p2⟩:=Hp.out.w3;obtain⟨c0,c1,c2⟩:=Hc.out.c3;replace Hb:=au Hb ae;clear ae;have HT:Hid (az W4):=AC.out.below Hb.out;go_wp2_with fail;refine(pK s m e X HX.out _ IW.out HT.out).mono ?_;rintro e w5 ⟨rfl,ae⟩;clear p0 p1 p2 c0 c1 c2;replace Hp:=kW Hp ae;replace Hc:=kB Hc ae;replace HT:=kT HT ae;obtain⟨p0,p1,p2⟩:=Hp.out.w3;obtain⟨c0,c1,c2⟩:=Hc.out.c3;replace Hb:=au Hb ae;clear ae;have ajL:=Hc.out.lt;obtain⟨W6,sM,ae,Hd⟩:=cL w5 30 [.bool (ar (dN X)),.string (bs (nt (dN X).natAbs)),.int .i64 (dE X)];clear p0 p1 p2;replace Hp:=kW Hp ae;clear c0 c1 c2;replace Hc:=kB Hc ae;replace HT:=kT HT ae;obtain⟨p0,p1,p2⟩:=Hp.out.w3;obtain⟨c0,c1,c2⟩:=Hc.out.c3;obtain⟨d0,d1,d2⟩:=Hd.out.c3;replace Hb:=au Hb ae;clear ae;have dh:=ownsRow_below Ho.out Hb.out;have jf:=Hb.out.size;have hnews:=gW Hd.out;clear d0 d1 d2;go_wp2_with (at_builtin;refine wpList_append_own_at _ rfl _ _ 46 rfl wc.heap.size 30 i0 _ 3 32 Tryz.underlying46 Hi.out cX.out cN.out cO.out rfl zd v2 j (dC (Z.take j)) rfl dh ⟨w5.heap.size,0,none⟩ 1 1 [.bool (ar (dN X)),.string (bs (nt (dN X).natAbs)),.int .i64 (dE X)] rfl rfl hnews zy zx zo zo ?_;intro v' w7 eJ fN _ _;obtain⟨g',oh,rfl⟩:=ownsRow_succ eJ);go_roundw;case rel=>
         refine⟨j+1,_,by omega,by go_num,rfl,?_,?_⟩
         . rw[bX.out];exact eJ
         . exact(aJ cd.out Hb.out).grown fN zo (λj e=>dt dh j e)
        case measure=>simp[intOf];omega
      . obtain rfl:j=n:=by omega
        have mJ:Z.take j=Z:=List.take_of_length_le (by rw[<-HZ.out];simp[Hn.out]);rw[mJ]at ho;obtain⟨a2,cap2,rfl,pW,fx⟩:=dS ho;have fG:=ho.lt;obtain⟨vals,hvl,hov,jJ⟩:=dK.out.below hb2;have Hb:Hid (Bw wr wr):=Below.refl _ _;obtain⟨_,_,qi,_⟩:=dK.out;have hvs:=qi.lt;have hin:∀b o,a2=some ⟨b,o,none⟩->some b≠v.ownBlock/\b<wr.heap.size:=by intro b o e;subst e;have h1:=fG b rfl;refine⟨λh2=>?_,h1.2⟩;have h3:=hvs b h2.symm;omega
        obtain⟨pg,AK,mZ,su,cH,cd⟩:=iz hin pW hvl jJ hov hb2;have DT:=hb2.size;clear hin pW hvl jJ hov qi hvs hb2 fx fG mJ ho aW hj;obtain⟨W6,sM,ae,Hd⟩:=cL wr 46 [.slice a2 j cap2];have d0:=Hd.out.c1;replace Hb:=au Hb ae;clear ae;have dh:=ownsRow_below cH.out Hb.out;have jf:=Hb.out.size;have hnews:∀i u,([.slice a2 j cap2]:List Value)[i]?=some u->W6.cell? ((⟨wr.heap.size,0,none⟩:Addr).add i)=some u:=gW Hd.out;clear d0;go_wp2_with (at_builtin;refine wpList_append_own_at _ rfl _ _ 23 rfl w.heap.size 46 j0 _ 1 24 Tryz.underlying23 Hj.out kI.out na.out ng.out rfl zd v k vals rfl dh ⟨wr.heap.size,0,none⟩ 1 1 [.slice a2 j cap2] rfl rfl hnews zy zx zo zo ?_;intro v' w7 eJ fN _ fU;obtain⟨g',oh,rfl⟩:=ownsRow_succ eJ);go_roundw;case rel=>
         refine⟨k+1,_,by omega,by go_num,rfl,?_,?_⟩
         . refine Own2.push (a:=a2) (c:=cap2) mZ.out (w:=W6) ?_ ?_ ?_ ?_ fN fU
           . intro i h;obtain⟨a,c,h1,h2,h3⟩:=su.out i h;exact⟨a,c,h1,h2.below Hb.out,λb o e=>⟨(h3 b o e).1,Nat.lt_of_lt_of_le (h3 b o e).2 jf⟩⟩
           . rw[ua.out];exact AK.out.below Hb.out
           . exact λb o e=>⟨(pg.out b o e).1,Nat.lt_of_lt_of_le (pg.out b o e).2 jf⟩
           . rw[ua.out,<-HZ.out,List.length_map,Hn.out];exact eJ
         . exact(aJ (aJ aQ.out cd.out) Hb.out).grown fN zo (λj e=>dt dh j e)
        case measure=>simp[intOf];omega
  . obtain rfl:k=L:=by omega
    have hlen:R.length=k:=HRL.out;rw[<-HS.out]at pv;obtain⟨a2,c2,rfl,hcl,ku⟩:=Own2.tbl pv hlen;obtain⟨qJ,aQ⟩:=aL ku pb;clear pv pb ku hlen;go_wp2;refine bodyPost_ret (results_tmp rfl _ _ _) rfl ⟨a2,c2,rfl,hcl,qJ.out,aQ.out⟩
theorem anT (a:Option Addr)(L cap:Nat)(rows:List (List Raw))(k0:Nat)(pa:Option Addr)(pn rH:Nat)(Pp:List Raw)(w:World)(hL:rows.length=L)(LK:L<=9)(hP:Pp.length=pn)(uz:pn<=8)(hrow:∀r∈rows,r.length<=8)(ha:bj w a rows)(hp:At w pa (Pp.flatMap bA))
 (hok:∀r∈rows,∀x∈r,Ok x) (GI:∀x∈Pp,Ok x) (hT:az w):
 Calls Tryz.prog 48 #[.slice a L cap,.int .i64 (k0:Int),.slice pa pn rH] w λe w'=>∃a' cap',e=.returned (.slice a' L cap')/\L<=cap'/\bj w' a' ((rows.set k0 Pp).map om)/\Bw w w':=
 anS a L cap rows k0 pa pn rH Pp w hL LK hP uz hrow ha hp hok GI hT _ (λk _=>by omega)
theorem XI (a:Option Addr)(L cap n:Nat)(rows:List (List Raw))(B:Nat)(w:World)(hL:rows.length=L)(hv:fC rows=n)(hn:1<=n)(ha:bj w a rows)
 (hfit:∀r∈rows,∀c∈r,Fit B c) (hB:B<=10000000) (hT:az w):
 Calls Tryz.prog 13 #[.slice a L cap] w λe w'=>e=.returned (.tuple #[.int .i64 ((mQ (nU rows n) L).1:Int),.int .i64 ((mQ (nU rows n) L).2.1:Int),bL (mQ (nU rows n) L).2.2,.int .i64 0])/\Bw w w':=by
 obtain⟨c1,c2,c3,c4⟩:=ya hv zo;have hvars:=λW=>λ(h:bj W a rows)=>Ar a L cap rows W hL zo h;have wX:=λW=>λ(h:bj W a rows) (hT:az W)=>ajE a L cap n rows B W hL zo zo zo (λr hr=>by have:=c4 r hr;omega) h hfit hB hT;rw[hv]at hvars;obtain⟨⟨i,j,X⟩,hF⟩:∃F,mQ (nU rows n) L=F:=⟨_,rfl⟩;simp only[hF]at wX;rw[hF];obtain⟨ac9,JK,Ha,HT⟩:=dH hvars wX ha hT;have h0:((n:Int)==0)=false:=by simp;omega
 have h0':¬(n:Int)=0:=by omega
 clear hvars wX ha hT hF hfit hv c1 c2 c3 c4 hL;obtain⟨W,dF,Hb,Hr⟩:=jl w 30 [.bool false,.string ⟨#[]⟩,.int .i64 0];obtain⟨r0,aj,r1,ak,r2,aF⟩:=Hr.out.g3;go_enter Tryz.func13,Tryz.ntmps13;go_wp2_with fail;refine(ac9.out _ (Ha.out.below Hb.out)).mono ?_;rintro e w1 ⟨rfl,ae⟩;clear r0 aj r1 ak r2 aF;replace Hr:=kB Hr ae;obtain⟨r0,aj,r1,ak,r2,aF⟩:=Hr.out.g3;replace Hb:=au Hb ae;clear ae;go_wp2_with fail;refine(JK.out _ (Ha.out.below Hb.out) (HT.out.below Hb.out)).mono ?_;rintro e w2 ⟨rfl,ae⟩;clear r0 aj r1 ak r2 aF;replace Hr:=kB Hr ae;obtain⟨r0,aj,r1,ak,r2,aF⟩:=Hr.out.g3;replace Hb:=au Hb ae;clear ae;have aqF:=Hr.out.lt;obtain⟨w3,apd,ae,Hx⟩:=cL w2 83 [.int .i64 (i:Int),.int .i64 (j:Int),.bool (ar (dN X)),.string (bs (nt (dN X).natAbs)),.int .i64 (dE X)];clear r0 aj r1 ak r2 aF;replace Hr:=kB Hr ae;obtain⟨r0,aj,r1,ak,r2,aF⟩:=Hr.out.g3;obtain⟨x0,x1,x2,x3,x4⟩:=Hx.out.c5;replace Hb:=au Hb ae;clear ae;go_wp2_with fail;refine bC (λw'=>w'.cell? ⟨w2.heap.size,0,none⟩=some (.int .i64 (i:Int))/\w'.cell? ⟨w2.heap.size,1,none⟩=some (.int .i64 (j:Int))/\w'.cell? ⟨w2.heap.size,2,none⟩=some (.bool (ar (dN X)))/\w'.cell? ⟨w2.heap.size,3,none⟩=some (.string (bs (nt (dN X).natAbs)))/\w'.cell? ⟨w2.heap.size,4,none⟩=some (.int .i64 (dE X))) (λi=>Nat.blt i 10) [(0,true),(1,true),(2,true),(3,true),(4,true),(5,true),(6,true),(7,true),(8,true),(9,true),(10,false),(11,false)] zk zk rfl zk zc ⟨x0,x1,x2,x3,x4⟩ ?_;iterate 10 (refine pT rfl rfl ?_ (by intro w' ⟨q0,q1,q2,q3,q4⟩;go_simp;try with_reducible rfl);try simp only[UU])
 refine aI rfl rfl (λK hK=>?_);go_simp;refine hK _ _ (λh=>absurd h zd) ?_;clear hK K;try simp only[UU]
 clear r0 aj r1 ak r2 aF x0 x1 x2 x3 x4;refine bF (bG w3 (w.heap.size) 0 [.bool (ar (dN X)),.string (bs (nt (dN X).natAbs)),.int .i64 (dE X)]) bP ?_;intro w4 hs;replace Hr:=cp Hr hs;replace Hx:=kS Hx hs zo;obtain⟨r0,aj,r1,ak,r2,aF⟩:=Hr.out.g3;obtain⟨x0,x1,x2,x3,x4⟩:=Hx.out.c5;replace Hb:=bS Hb hs ZS;clear hs;refine aI rfl rfl (λK hK=>?_);go_simp;refine hK _ _ (λh=>absurd h zd) ?_;clear hK K;try simp only[UU]
 simp only[aS];go_wp2;refine bodyPost_ret (v:=.tuple #[.int .i64 (i:Int),.int .i64 (j:Int),bL X,.int .i64 0]) (by simp[results,Tryz.results13,go_sem,r0,r1,r2]) rfl ⟨rfl,?_⟩;(repeat first|exact Hb.out| (refine Below.setCell ?_ (by have:=Hb.out.size;first| (dsimp only;omega) | (show _<=_;omega) | (simp<;>omega)) _) | (refine Below.alloc ?_ zt _) |refine Below.drew ?_)
def midD (p q:List Raw):List Dyadic:=List.zipWith (λx y=>(aC x+aC y) *hp 1) p q
def oQ (p q:List Raw):List Raw:=(midD p q).map canon
theorem Yb {p q:List Raw}(h:p.length=q.length):(midD p q).length=p.length:=by simp[midD,h]
theorem aka {p q:List Raw}(h:p.length=q.length):(oQ p q).length=p.length:=by simp[oQ,Yb h]
theorem aj8 (p q:List Raw)(k:Nat)(h:k<p.length)(h':k<q.length):(midD p q).take (k+1)=(midD p q).take k++[(aC p[k]+aC q[k]) *hp 1]:=by unfold midD;rw[List.take_succ_eq_append_getElem zi];simp
theorem aj9 {B:Nat}{p q:List Raw}(hp':∀x∈p,Fit B x)(hq:∀x∈q,Fit B x)(hB:B<=10000000):∀x∈oQ p q,Fit (B+3) x:=by
 intro x hx;unfold oQ midD at hx;obtain⟨d,hd,rfl⟩:=List.mem_map.1 hx;obtain⟨i,hi,rfl⟩:=List.mem_iff_getElem.1 hd;have hi1:i<p.length/\i<q.length:=by simp at hi;omega
 rw[List.getElem_zipWith];have h1:=Sm.mul (Sm.add (hp' _ (List.getElem_mem hi1.1)).2 (hq _ (List.getElem_mem hi1.2)).2) (ail 1);exact(h1.mono (show B+1+(1+1)<=B+3 by omega)).fit zo
theorem ahF (a:Option Addr)(L cap n:Nat)(rows:List (List Raw))(B:Nat)(i j:Nat)(Y:Dyadic)(w:World)(hL:rows.length=L)(hv:fC rows=n)(hn:1<=n)(ha:bj w a rows)
 (hfit:∀r∈rows,∀c∈r,Fit B c) (hB:B<=10000000) (hT:az w) (hF:mQ (nU rows n) L=(i,j,Y)):
 Calls Tryz.prog 14 #[.slice a L cap] w λe w'=>∃a1 c1 a2 c2,e=.returned (.tuple #[.slice a1 L c1,.slice a2 L c2,.int .i64 0])/\L<=c1/\L<=c2/\
  bj w' a1 ((rows.set j (oQ (rows.getD i []) (rows.getD j []))).map om)/\bj w' a2 ((rows.set i (oQ (rows.getD i []) (rows.getD j []))).map om)/\Bw w w':=by
 obtain⟨i0,hi,hz0,hz1,hz2⟩:=info_parts Tryz.arH;obtain⟨c1,c2,c3,c4⟩:=ya hv zo;have wX:=λW=>λ(h:bj W a rows) (hT:az W)=>XI a L cap n rows B W hL hv hn h hfit hB hT;have hinv:=ajB (nU rows n) L zo;rw[hF]at hinv;simp only[hF]at wX;obtain⟨hij,Mx,hY⟩:=hinv;dsimp only at hij Mx hY;have VC:i<L:=by omega
 obtain⟨p,hp'⟩:=aB (rows.getD i []);obtain⟨q,hq'⟩:=aB (rows.getD j []);have ep:rows[i]'zo=p:=by rw[<-hp'];simp[hL,VC]
 have eq:rows[j]'zo=q:=by rw[<-hq'];simp[hL,Mx]
 have hpl:p.length=n:=by have:=c4 p (by rw[<-ep];exact List.getElem_mem _);omega
 have MX:q.length=n:=by have:=c4 q (by rw[<-eq];exact List.getElem_mem _);omega
 have ir:∀x∈p,Fit B x:=by rw[<-ep];exact hfit _ (List.getElem_mem _)
 have MW:∀x∈q,Fit B x:=by rw[<-eq];exact hfit _ (List.getElem_mem _)
 rw[hp',hq'];have Ni:=λ(k:Nat) (pa:Option Addr) (pc:Nat) (W:World) (h1:bj W a rows) (h2:At W pa (dC (midD p q))) (h3:az W)=>anT a L cap rows k pa n pc (oQ p q) W hL zo (by rw[aka zo];exact hpl) zo (λr hr=>by have:=c4 r hr;omega) h1 (by unfold oQ;rw[<-ol];exact h2) (λr hr x hx=>(hfit r hr x hx).1) (λx hx=>(aj9 ir MW hB x hx).1) h3;obtain⟨A1,Lp⟩:=aB ((rows.set j (oQ p q)).map om);obtain⟨A2,TE⟩:=aB ((rows.set i (oQ p q)).map om);have tv:=Ni j;have rp:=Ni i;rw[Lp]at tv⊢;rw[TE]at rp⊢;have hrow:=λ(W:World) (h:bj W a rows)=>h.row i zo;have hrow2:=λ(W:World) (h:bj W a rows)=>h.row j zo;simp only[ep,hpl]at hrow;simp only[eq,MX]at hrow2;obtain⟨Z,hZ⟩:=aB (midD p q);have hst:∀k (h:k<p.length) (h':k<q.length),Z.take (k+1)=Z.take k++[(aC p[k]+aC q[k]) *hp 1]:=by rw[<-hZ];exact aj8 p q
 have Cn:Z.length=n:=by rw[<-hZ,Yb zo,hpl]
 rw[hZ]at rp tv;obtain⟨Hi,cX,cN,cO,JK,Ha,HT,EU,Hwj,wm,acQ,bX⟩:=gY hi hz0 hz1 hz2 wX ha hT rp tv hrow hrow2 hst;obtain⟨ud,pp,Hql,qH,Hqf⟩:=fO Cn hpl MX ir MW;have GG:n<=8:=by omega
 clear hi hz0 hz1 hz2 wX ha hT rp tv Ni hrow hrow2 hst Cn hpl MX ir MW ep eq hp' hq' hY hF hfit hv c1 c2 c3 c4 hL hZ Lp TE;have Hb:Hid (Bw w w):=Below.refl _ _;go_enter Tryz.func14,Tryz.ntmps14;go_wp2_with fail;refine(JK.out _ (Ha.out.below Hb.out) (HT.out.below Hb.out)).mono ?_;rintro e w1 ⟨rfl,ae⟩;replace Hb:=au Hb ae;clear ae;obtain⟨w2,apc,ae,Hx⟩:=cL w1 30 [.bool (ar (dN Y)),.string (bs (nt (dN Y).natAbs)),.int .i64 (dE Y)];obtain⟨x0,x1,x2⟩:=Hx.out.c3;replace Hb:=au Hb ae;clear ae;obtain⟨b0,o0,a1,c1,il,hc0,jd⟩:=wm.out w2 (Ha.out.below Hb.out);obtain⟨js,kC,a2,c2,eY,hc1,kO⟩:=acQ.out w2 (Ha.out.below Hb.out);obtain⟨rfl,rfl⟩:js=b0/\kC=o0:=by rw[il]at eY;simp at eY;exact⟨eY.1.symm,eY.2.symm⟩
 clear eY;have zM:=kw L cap i (i:Int) il VC rfl;have xz:=kw L cap j (j:Int) il Mx rfl;rw[Nat.mul_one]at zM xz;obtain⟨ug,Hc1,jp,jU,kF⟩:=fO hc0 hc1 jd kO il;clear hc1 jd kO il;have DT:=Hb.out.size;go_wp2_with fail;go_loopw[8,25] (λs8 x wr=>∃(k:Nat) (v:Value),k<=n/\x=.int .i64 (k:Int)/\v=s8/\wr.ownsRow w2.heap.size 30 3 v k (dC (Z.take k))/\Bw w2 wr) (λ_ x _=>n-(intOf x).toNat);case atStart=>exact⟨0,_,Nat.zero_le _,rfl,rfl,World.ownsRow_nil _ _ _ _,Below.refl _ _⟩
 case round=>
  clear hc0 x0 x1 x2;obtain⟨k,v,hk,rfl,rfl,pv,pb⟩:=hrel;by_cases hlt:k<n
  . have k1:k<p.length:=by rw[pp.out];exact hlt
    have k2:k<q.length:=by rw[Hql.out];exact hlt
    obtain⟨sp,mp,ep,iu⟩:=ki (p[k]);obtain⟨sq,mq,eq,oI⟩:=ki (q[k]);have eZ:=qH.out _ (List.getElem_mem k1);have nE:=Hqf.out _ (List.getElem_mem k2);have hst:=bX.out k k1 k2;rw[iu]at eZ hst;rw[oI]at nE hst;obtain⟨D,hD⟩:=aB (aC (sp,mp,ep)+aC (sq,mq,eq));obtain⟨X,hX⟩:=aB (D*hp 1);rw[hD,hX]at hst;have jc:Sm (B+1) D:=by rw[<-hD];exact Sm.add eZ.2 nE.2
    have HDo:Hid (Ok (ar (dN D),nt (dN D).natAbs,dE D)):=(jc.fit zo).1;have HX:Hid (aC (ar (dN D),nt (dN D).natAbs,dE D+ -1)=X):=by show _=_;rw[<-hX];exact amG D 1
    have pz:Hid (dC (Z.take (k+1))=dC (Z.take k)++[.bool (ar (dN X)),.string (bs (nt (dN X).natAbs)),.int .i64 (dE X)]):=by
     show _=_
     rw[hst,wI];rfl
    obtain⟨b1,o1,eY,p0,p1,p2⟩:=(jp.out.below pb).num k k1 iu;obtain⟨b2,o2,fx,q0,q1,q2⟩:=(jU.out.below pb).num k k2 oI;have lQ:=lT n c1 k (k:Int) eY hlt rfl;have pZ:=lT n c2 k (k:Int) fx hlt rfl;have kY:b1<w2.heap.size:=(by subst eY;exact jp.out.lt (by intro h0;have:=congrArg List.length h0;rw[iI bA 3 (λ_=>rfl)]at this;simp at this;omega));have iO:b2<w2.heap.size:=(by subst fx;exact jU.out.lt (by intro h0;have:=congrArg List.length h0;rw[iI bA 3 (λ_=>rfl)]at this;simp at this;omega));have xC:js<w2.heap.size:=World.block_lt_of_cell? w2 _ ug.out;have Hu:Hid (aY wr js (kC+i) [.slice a1 n c1]):=λj hj=>by
     obtain rfl:j=0:=by simp at hj;omega
     exact cell_later pb ug.out
    have Hv:Hid (aY wr js (kC+j) [.slice a2 n c2]):=λj hj=>by
     obtain rfl:j=0:=by simp at hj;omega
     exact cell_later pb Hc1.out
    have Hp:Hid (aY wr b1 (o1+k*3) [.bool sp,.string (bs mp),.int .i64 ep]):=ib p0 p1 p2;have Hq:Hid (aY wr b2 (o2+k*3) [.bool sq,.string (bs mq),.int .i64 eq]):=ib q0 q1 q2;obtain⟨mo,yr,HD,dK,vU,cC⟩:=iz eZ nE hD pv pb ((HT.out.below Hb.out).below pb);have jV:=Hb;have Am:=pb.size;clear Hb pv pb eZ nE hD hX hst jc iu oI eY fx p0 p1 p2 q0 q1 q2;have Hb:Hid (Bw wr wr):=Below.refl _ _;go_wp2_with fail;have u0:=Hu.out.w1;have v0:=Hv.out.w1;obtain⟨p0,p1,p2⟩:=Hp.out.w3;obtain⟨q0,q1,q2⟩:=Hq.out.w3;refine bC (λw'=>w'.cell? ⟨js,kC+i,none⟩=some (.slice a1 n c1)/\w'.cell? ⟨js,kC+j,none⟩=some (.slice a2 n c2)/\w'.cell? ⟨b1,o1+k*3,none⟩=some (.bool sp)/\w'.cell? ⟨b1,o1+k*3+1,none⟩=some (.string (bs mp))/\w'.cell? ⟨b1,o1+k*3+2,none⟩=some (.int .i64 ep)/\w'.cell? ⟨b2,o2+k*3,none⟩=some (.bool sq)/\w'.cell? ⟨b2,o2+k*3+1,none⟩=some (.string (bs mq))/\w'.cell? ⟨b2,o2+k*3+2,none⟩=some (.int .i64 eq)) (λi=>Nat.blt i 100000) [(0,true),(1,true),(2,true),(3,true),(4,true),(5,true),(6,true),(7,true),(8,true),(9,true),(10,true),(11,true),(12,true),(13,true),(14,true),(15,false),(16,false),(17,false),(18,false),(19,false),(20,true)] zk zk rfl zk zc ⟨u0,v0,p0,p1,p2,q0,q1,q2⟩ ?_;iterate 15 (refine pT rfl rfl ?_ (by intro w' ⟨q0,q1,q2,q3,q4,q5,q6,q7⟩;go_simp;try with_reducible rfl);try simp only[UU])
    refine aI rfl rfl (λK hK=>?_);go_simp;refine hK _ _ (λ_=>⟨aG u0,aG v0,aG p0,aG p1,aG p2,aG q0,aG q1,aG q2⟩) ?_;clear hK K;try simp only[UU]
    refine bF (λw4=>ai w4 (wr.heap.size) 30 [.bool sp,.string (bs mp),.int .i64 ep,.bool sq,.string (bs mq),.int .i64 eq]/\Bw wr w4) (by first|exact dL|exact dM) ?_;rintro w4 ⟨qe,ae⟩;clear u0 v0 p0 p1 p2 q0 q1 q2;replace Hu:=kW Hu ae;replace Hv:=kW Hv ae;replace Hp:=kW Hp ae;replace Hq:=kW Hq ae;have He:=ah qe;clear qe;have u0:=Hu.out.w1;have v0:=Hv.out.w1;obtain⟨p0,p1,p2⟩:=Hp.out.w3;obtain⟨q0,q1,q2⟩:=Hq.out.w3;obtain⟨e0,e1,e2,e3,e4,e5⟩:=He.out.c6;replace Hb:=au Hb ae;clear ae;refine aI rfl rfl (λK hK=>?_);go_simp;with_reducible refine(wH sp mp ep sq mq eq D B HD.out wr.heap.size 2 30 _ mo.out yr.out zo He.out (by first|exact(cC.out.below Hb.out) |exact az.drew (cC.out.below Hb.out) |exact az.alloc (cC.out.below Hb.out) _|exact az.drew (az.alloc (cC.out.below Hb.out) _) |exact az.alloc (az.drew (cC.out.below Hb.out)) _)).mono ?_
    rintro e w5 ⟨rfl,hq⟩;have ae:Bw w4 w5:=by first|exact hq|exact aN hq
    clear u0 v0 p0 p1 p2 q0 q1 q2 e0 e1 e2 e3 e4 e5;replace Hu:=kW Hu ae;replace Hv:=kW Hv ae;replace Hp:=kW Hp ae;replace Hq:=kW Hq ae;replace He:=kB He ae;have u0:=Hu.out.w1;have v0:=Hv.out.w1;obtain⟨p0,p1,p2⟩:=Hp.out.w3;obtain⟨q0,q1,q2⟩:=Hq.out.w3;obtain⟨e0,e1,e2,e3,e4,e5⟩:=He.out.c6;replace Hb:=au Hb ae;clear ae;refine hK _ _ (λ_=>⟨u0,v0,p0,p1,p2,q0,q1,q2⟩) ?_;clear hK K;try simp only[UU]
    refine aI rfl rfl (λK hK=>?_);go_simp;with_reducible refine(amF (ar (dN D)) (nt (dN D).natAbs) (dE D) (-1) X HX.out _ HDo.out zd (by first|exact(cC.out.below Hb.out) |exact az.drew (cC.out.below Hb.out) |exact az.alloc (cC.out.below Hb.out) _|exact az.drew (az.alloc (cC.out.below Hb.out) _) |exact az.alloc (az.drew (cC.out.below Hb.out)) _)).mono ?_
    rintro e w6 ⟨rfl,hq⟩;have ae:Bw w5 w6:=by first|exact hq|exact aN hq
    clear u0 v0 p0 p1 p2 q0 q1 q2 e0 e1 e2 e3 e4 e5;replace Hu:=kW Hu ae;replace Hv:=kW Hv ae;replace Hp:=kW Hp ae;replace Hq:=kW Hq ae;replace He:=kB He ae;have u0:=Hu.out.w1;have v0:=Hv.out.w1;obtain⟨p0,p1,p2⟩:=Hp.out.w3;obtain⟨q0,q1,q2⟩:=Hq.out.w3;obtain⟨e0,e1,e2,e3,e4,e5⟩:=He.out.c6;replace Hb:=au Hb ae;clear ae;refine hK _ _ (λ_=>⟨u0,v0,p0,p1,p2,q0,q1,q2⟩) ?_;clear hK K;try simp only[UU]
    refine aI rfl rfl (λK hK=>?_);go_simp;refine hK _ _ (λ_=>⟨aG u0,aG v0,aG p0,aG p1,aG p2,aG q0,aG q1,aG q2⟩) ?_;clear hK K;try simp only[UU]
    refine bF (λw7=>ai w7 (w6.heap.size) 30 [.bool (ar (dN X)),.string (bs (nt (dN X).natAbs)),.int .i64 (dE X)]/\Bw w6 w7) (by first|exact dL|exact dM) ?_;rintro w7 ⟨qc,ae⟩;clear u0 v0 p0 p1 p2 q0 q1 q2 e0 e1 e2 e3 e4 e5;have aqk:=He.out.lt;replace Hu:=kW Hu ae;replace Hv:=kW Hv ae;replace Hp:=kW Hp ae;replace Hq:=kW Hq ae;replace He:=kB He ae;have Hc:=ah qc;clear qc;have u0:=Hu.out.w1;have v0:=Hv.out.w1;obtain⟨p0,p1,p2⟩:=Hp.out.w3;obtain⟨q0,q1,q2⟩:=Hq.out.w3;obtain⟨e0,e1,e2,e3,e4,e5⟩:=He.out.c6;obtain⟨c0,c1,c2⟩:=Hc.out.c3;replace Hb:=au Hb ae;clear ae;refine aI rfl rfl (λK hK=>?_);have dh:=ownsRow_below dK.out Hb.out;have jf:=Hb.out.size;refine wp_append_own _ _ _ 46 rfl w2.heap.size 30 i0 _ 3 32 Tryz.underlying46 Hi.out cX.out cN.out cO.out rfl zd v k (dC (Z.take k)) rfl dh ⟨w6.heap.size,0,none⟩ 1 1 [.bool (ar (dN X)),.string (bs (nt (dN X).natAbs)),.int .i64 (dE X)] rfl rfl (gW Hc.out) zy zx zo zo ?_;intro v' w8 dP bi _;obtain⟨g',cq,rfl⟩:=ownsRow_succ dP;have nb:∀b,b<w2.heap.size->some b≠v.ownBlock:=λb hb e=>by have:=dt dh b e.symm;omega
    refine hK _ _ (λ_=>⟨bU bi u0 (nb _ xC),bU bi v0 (nb _ xC),bU bi p0 (nb _ kY),bU bi p1 (nb _ kY),bU bi p2 (nb _ kY),bU bi q0 (nb _ iO),bU bi q1 (nb _ iO),bU bi q2 (nb _ iO)⟩) ?_;clear hK K;try simp only[UU]
    refine pT rfl rfl ?_;try simp only[UU]
    simp only[aS];clear u0 v0 p0 p1 p2 q0 q1 q2 c0 c1 c2;go_wp2;go_roundw;case rel=>
     refine⟨k+1,_,by omega,by go_num,rfl,?_,?_⟩
     . rw[pz.out];exact dP
     . exact(aJ vU.out Hb.out).grown bi zo (λj e=>dt dh j e)
    case measure=>simp[intOf];omega
  . obtain rfl:k=n:=by omega
    have mJ:Z.take k=Z:=List.take_of_length_le (by rw[ud.out];exact Nat.le_refl _);rw[mJ]at pv;obtain⟨a3,Sz,rfl,UJ,_⟩:=dS pv;obtain⟨Ex,Es,Ew,jV⟩:=dH UJ ((HT.out.below Hb.out).below pb) ((Ha.out.below Hb.out).below pb) (aJ Hb.out pb);clear Hb UJ pv pb mJ zM xz;have Hb:Hid (Bw w wr):=jV;go_wp2_with fail;refine(Hwj.out a3 Sz _ Ew.out Ex.out Es.out).mono ?_;rintro e w4 ⟨a4,c4,rfl,hl4,WN,ae⟩;have Kj:=ah WN;replace Hb:=ah (aJ Hb.out ae);replace Ex:=ah (Ex.out.below ae);replace Es:=ah (Es.out.below ae);replace Ew:=ah (Ew.out.below ae);clear WN ae;go_wp2_with fail;refine(EU.out a3 Sz _ Ew.out Ex.out Es.out).mono ?_;rintro e w5 ⟨a5,c5,rfl,hl5,WO,ae⟩;have Ht5:=ah WO;replace Hb:=ah (aJ Hb.out ae);replace Kj:=ah (Kj.out.below ae);clear WO ae;go_wp2;refine bodyPost_ret (v:=.tuple #[.slice a4 L c4,.slice a5 L c5,.int .i64 0]) (by simp[results,Tryz.results14,go_sem]) rfl ⟨a4,c4,a5,c5,rfl,hl4,hl5,Kj.out,Ht5.out,Hb.out⟩
theorem Tryz.arP :(Tryz.prog.info? 45).map (λi=>(i.zero,i.size,i.bytes))=some (some (.slice none 0 0),1,24):=by kernel_rfl
def ju (o p:List Raw):List Dyadic:=List.zipWith (λx y=>aC x-aC y) p o
theorem FH {o p:List Raw}(h:p.length=o.length):(ju o p).length=p.length:=by simp[ju,h]
theorem af3 (o p:List Raw)(k:Nat)(h:k<p.length)(h':k<o.length):(ju o p).take (k+1)=(ju o p).take k++[aC p[k]-aC o[k]]:=by unfold ju;rw[List.take_succ_eq_append_getElem zi];simp
theorem Own2.arS {e:TypeId}{w:World}{base k:Nat}{R:List (List Dyadic)}{v:Value}(h:Own2 e w base R k v)(hk:R.length=k):∃a c,v=.slice a k c/\k<=c/\bj w a (R.map λr=>r.map canon):=by
 obtain⟨vals,hl,ho,hi⟩:=h;obtain⟨a,c,hv,hat,_⟩:=dS ho;subst hv;refine⟨a,c,rfl,Ik ho,vals,by simp[hl,hk],hat,λi h1 h2=>?_⟩;obtain⟨a1,c1,e1,e2,_⟩:=hi i h2;have hi1:i<R.length:=by simpa using h1
 have eg:R.getD i []=R[i]:=by simp[hi1]
 rw[eg]at e1 e2;refine⟨a1,c1,?_,?_⟩
 . rw[e1];simp
 . rw[List.getElem_map,<-ol];exact e2
theorem YW (b o cap m n:Nat)(rows:List (List Raw))(B:Nat)(w:World)(hL:rows.length=m+1)(hm:m<=8)(hcap:m+1<=cap)(sV:1<=m)(hn:1<=n)(GG:n<=8)(hrow:∀r∈rows,r.length=n)(ha:bj w (some ⟨b,o,none⟩) rows)
 (hfit:∀r∈rows,∀c∈r,Fit B c) (hB:B<=10000000) (hT:az w):
 Calls Tryz.prog 46 #[.slice (some ⟨b,o,none⟩) (m+1) cap] w λe w'=>∃a' c',e=.returned (.slice a' m c')/\m<=c'/\
  bj w' a' (((rows.drop 1).map λp=>ju (rows.getD 0 []) p).map λr=>r.map canon)/\Bw w w':=by
 obtain⟨i0,hi,hz0,hz1,hz2⟩:=info_parts Tryz.arH;obtain⟨j0,hj,hy0,hy1,hy2⟩:=info_parts Tryz.arP;obtain⟨S,hS⟩:=aB ((rows.drop 1).map λp=>ju (rows.getD 0 []) p);have Uw:S.length=m:=by rw[<-hS];simp[hL]
 have pS:∀k (h0:0<rows.length) (h1:k+1<rows.length),S.getD k []=ju rows[0] rows[k+1]:=by
  intro k h0 h1;subst hS;have e0:rows.getD 0 []=rows[0]:=by simp[h0]
  rw[e0];have h2:k<(rows.drop 1).length:=by simp;omega
  simp[h1]
 rw[hS];have hcell:=λ(W:World) (h:bj W (some ⟨b,o,none⟩) rows) (k:Nat) (hk:k<rows.length)=>h.row k hk;obtain⟨Hi,cX,cN,cO,Hj,kI,na,ng,HSL,ua,Jp,HT⟩:=gY hi hz0 hz1 hz2 hj hy0 hy1 hy2 Uw pS hcell hT;obtain⟨Ha,wm,yq,HL⟩:=dH ha hrow hfit hL;clear hi hz0 hz1 hz2 hj hy0 hy1 hy2 hS Uw pS hcell ha hT hL hrow hfit;have e1:m+1-1=m:=by omega
 have e2:¬cap=1:=by omega
 go_enter Tryz.func46,Tryz.ntmps46;have Hb:Hid (Bw w w):=Below.refl _ _;go_wp2_with fail;obtain⟨r0,kV⟩:=aB (rows[0]'(by rw[HL.out];omega));obtain⟨_,_,a0,c0,il,hc0,jd⟩:=Jp.out w Ha.out 0 (by rw[HL.out];omega);obtain⟨rfl,rfl⟩:b=_/\o=_:=by simp at il;exact il
 have hn0:r0.length=n:=by rw[<-kV];exact wm.out _ (List.getElem_mem _)
 have CC:∀x∈r0,Fit B x:=by rw[<-kV];exact yq.out _ (List.getElem_mem _)
 have ny:∀k (h1:k+1<rows.length),S.getD k []=ju r0 rows[k+1]:=λk h1=>by rw[ua.out k zo h1,kV]
 rw[kV]at hc0 jd;rw[hn0]at hc0;rw[Nat.add_zero]at hc0;have zM:=kw (m+1) cap 0 0 (show some (⟨b,o,none⟩:Addr)=some ⟨b,o,none⟩from rfl) zo rfl;rw[Nat.mul_one,Nat.add_zero]at zM;obtain⟨ug,jp,wh,Jy,HS0⟩:=fO hc0 jd hn0 CC ny;have xC:b<w.heap.size:=World.block_lt_of_cell? w _ hc0;clear hc0 jd hn0 CC ny kV il Hb;go_loopw[3,11] (λs3 x wr=>∃(k:Nat) (v:Value),k<=m/\x=.int .i64 (k:Int)/\v=s3/\Own2 45 wr w.heap.size S k v/\Bw w wr) (λ_ x _=>m-(intOf x).toNat);case atStart=>exact⟨0,_,Nat.zero_le _,rfl,rfl,Own2.nil _ _ _ _,Below.refl _ _⟩
 case round=>
  obtain⟨k,v,hk,rfl,rfl,pv,pb⟩:=hrel;by_cases hlt:k<m
  . have hk2:k+1<rows.length:=by rw[HL.out];omega
    obtain⟨p,iL⟩:=aB (rows[k+1]);obtain⟨_,_,a1,c1,hab,hc1,hat⟩:=Jp.out wr (Ha.out.below pb) (k+1) hk2;obtain⟨rfl,rfl⟩:b=_/\o=_:=by simp at hab;exact hab
    have oF:p.length=n:=by rw[<-iL];exact wm.out _ (List.getElem_mem hk2)
    have ir:∀x∈p,Fit B x:=by rw[<-iL];exact yq.out _ (List.getElem_mem hk2)
    have sL:=HS0.out k hk2;rw[iL]at hc1 hat sL;rw[oF]at hc1;have lQ:=kw m (cap-1) k (k:Int) (show some (⟨b,o+1,none⟩:Addr)=some ⟨b,o+1,none⟩from rfl) hlt rfl;rw[Nat.mul_one]at lQ;have ahM:wr.cell? ⟨b,o+1+k,none⟩=some (.slice a1 n c1):=by rw[show o+1+k=o+(k+1)by omega];exact hc1
    obtain⟨Z,hZ⟩:=aB (ju r0 p);rw[hZ]at sL;obtain⟨fD,mA,qH,yg,HZ,aQ,dK⟩:=oP hat oF ir sL hZ pb pv;clear hat oF ir sL hZ pb pv hab iL hc1;have iG:=aQ.out.size;obtain⟨wc,hwc⟩:∃wc,wc=wr:=⟨_,rfl⟩;subst hwc;go_wp2_with fail;go_loopw[6,17] (λs6 x wr=>∃(j:Nat) (v2:Value),j<=n/\x=.int .i64 (j:Int)/\v2=s6/\wr.ownsRow wc.heap.size 30 3 v2 j (dC (Z.take j))/\Bw wc wr) (λ_ x _=>n-(intOf x).toNat);case atStart=>exact⟨0,_,Nat.zero_le _,rfl,rfl,World.ownsRow_nil _ _ _ _,Below.refl _ _⟩
    case round=>
     clear ahM;obtain⟨j,v2,hj,rfl,rfl,ho,hb2⟩:=hrel;by_cases aW:j<n
     . have k1:j<p.length:=by rw[mA.out];exact aW
       have k2:j<r0.length:=by rw[wh.out];exact aW
       obtain⟨sp,mp,ep,iu⟩:=ki (p[j]);obtain⟨sq,mq,eq,oI⟩:=ki (r0[j]);have eZ:=qH.out _ (List.getElem_mem k1);have nE:=Jy.out _ (List.getElem_mem k2);rw[iu]at eZ;rw[oI]at nE;obtain⟨X,hX⟩:=aB (aC (sp,mp,ep)-aC (sq,mq,eq));have pz:Hid (dC (Z.take (j+1))=dC (Z.take j)++[.bool (ar (dN X)),.string (bs (nt (dN X).natAbs)),.int .i64 (dE X)]):=by
        show _=_
        rw[<-HZ.out,af3 _ _ _ k1 k2,wI,iu,oI,hX];rfl
       have ez:=aJ aQ.out hb2;obtain⟨b1,o1,eY,p0,p1,p2⟩:=(fD.out.below hb2).num j k1 iu;obtain⟨b2,o2,fx,q0,q1,q2⟩:=(jp.out.below ez).num j k2 oI;have VI:=lT n c1 j (j:Int) eY aW rfl;have apv:=lT n c0 j (j:Int) fx aW rfl;have kY:b1<wc.heap.size:=(by subst eY;exact fD.out.lt (by intro h0;have:=congrArg List.length h0;rw[iI bA 3 (λ_=>rfl)]at this;simp at this;omega));have iO:b2<wc.heap.size:=Nat.lt_of_lt_of_le (by subst fx;exact jp.out.lt (by intro h0;have:=congrArg List.length h0;rw[iI bA 3 (λ_=>rfl)]at this;simp at this;omega)) iG;have lbc:b<wc.heap.size:=Nat.lt_of_lt_of_le xC iG;have Hu:Hid (aY wr b o [.slice a0 n c0]):=λi hi=>by
        obtain rfl:i=0:=by simp at hi;omega
        exact cell_later ez ug.out
       have Hp:Hid (aY wr b1 (o1+j*3) [.bool sp,.string (bs mp),.int .i64 ep]):=ib p0 p1 p2;have Hq:Hid (aY wr b2 (o2+j*3) [.bool sq,.string (bs mq),.int .i64 eq]):=ib q0 q1 q2;obtain⟨mo,yr,HX,Ho,vU,cC⟩:=iz eZ nE hX ho hb2 (HT.out.below ez);have Am:=hb2.size;clear ho hb2 eZ nE hX iu oI eY fx p0 p1 p2 q0 q1 q2 ez;have Hb:Hid (Bw wr wr):=Below.refl _ _;go_wp2_with fail;have u0:=Hu.out.w1;obtain⟨p0,p1,p2⟩:=Hp.out.w3;obtain⟨q0,q1,q2⟩:=Hq.out.w3;refine bC (λw'=>w'.cell? ⟨b,o,none⟩=some (.slice a0 n c0)/\w'.cell? ⟨b1,o1+j*3,none⟩=some (.bool sp)/\w'.cell? ⟨b1,o1+j*3+1,none⟩=some (.string (bs mp))/\w'.cell? ⟨b1,o1+j*3+2,none⟩=some (.int .i64 ep)/\w'.cell? ⟨b2,o2+j*3,none⟩=some (.bool sq)/\w'.cell? ⟨b2,o2+j*3+1,none⟩=some (.string (bs mq))/\w'.cell? ⟨b2,o2+j*3+2,none⟩=some (.int .i64 eq)) (λi=>Nat.blt i 100000) [(0,true),(1,true),(2,true),(3,true),(4,true),(5,true),(6,true),(7,true),(8,true),(9,true),(10,true),(11,false),(12,false),(13,false),(14,true)] zk zk rfl zk zc ⟨u0,p0,p1,p2,q0,q1,q2⟩ ?_;iterate 11 (refine pT rfl rfl ?_ (by intro w' ⟨q0,q1,q2,q3,q4,q5,q6⟩;go_simp;try with_reducible rfl);try simp only[UU])
       refine aI rfl rfl (λK hK=>?_);go_simp;with_reducible refine(yO sp mp ep sq mq eq X B HX.out _ mo.out yr.out zo (by first|exact cC.out|exact az.drew cC.out|exact az.alloc cC.out _|exact az.drew (az.alloc cC.out _) |exact az.alloc (az.drew cC.out) _)).mono ?_
       rintro e w6 ⟨rfl,hq⟩;have ae:Bw wr w6:=by first|exact hq|exact aN hq
       clear u0 p0 p1 p2 q0 q1 q2;replace Hu:=kW Hu ae;replace Hp:=kW Hp ae;replace Hq:=kW Hq ae;have u0:=Hu.out.w1;obtain⟨p0,p1,p2⟩:=Hp.out.w3;obtain⟨q0,q1,q2⟩:=Hq.out.w3;replace Hb:=au Hb ae;clear ae;refine hK _ _ (λ_=>⟨u0,p0,p1,p2,q0,q1,q2⟩) ?_;clear hK K;try simp only[UU]
       refine aI rfl rfl (λK hK=>?_);go_simp;refine hK _ _ (λ_=>⟨aG u0,aG p0,aG p1,aG p2,aG q0,aG q1,aG q2⟩) ?_;clear hK K;try simp only[UU]
       refine bF (λw7=>ai w7 (w6.heap.size) 30 [.bool (ar (dN X)),.string (bs (nt (dN X).natAbs)),.int .i64 (dE X)]/\Bw w6 w7) (by first|exact dL|exact dM) ?_;rintro w7 ⟨qc,ae⟩;clear u0 p0 p1 p2 q0 q1 q2;replace Hu:=kW Hu ae;replace Hp:=kW Hp ae;replace Hq:=kW Hq ae;have Hc:=ah qc;clear qc;have u0:=Hu.out.w1;obtain⟨p0,p1,p2⟩:=Hp.out.w3;obtain⟨q0,q1,q2⟩:=Hq.out.w3;obtain⟨c0,c1,c2⟩:=Hc.out.c3;replace Hb:=au Hb ae;clear ae;refine aI rfl rfl (λK hK=>?_);have dh:=ownsRow_below Ho.out Hb.out;have jf:=Hb.out.size;refine wp_append_own _ _ _ 45 rfl wc.heap.size 30 i0 _ 3 32 Tryz.underlying45 Hi.out cX.out cN.out cO.out rfl zd v2 j (dC (Z.take j)) rfl dh ⟨w6.heap.size,0,none⟩ 1 1 [.bool (ar (dN X)),.string (bs (nt (dN X).natAbs)),.int .i64 (dE X)] rfl rfl (gW Hc.out) zy zx zo zo ?_;intro v' w8 dP bi _;obtain⟨g',cq,rfl⟩:=ownsRow_succ dP;have nb:∀b,b<wc.heap.size->some b≠v2.ownBlock:=λb hb e=>by have:=dt dh b e.symm;omega
       refine hK _ _ (λ_=>⟨bU bi u0 (nb _ lbc),bU bi p0 (nb _ kY),bU bi p1 (nb _ kY),bU bi p2 (nb _ kY),bU bi q0 (nb _ iO),bU bi q1 (nb _ iO),bU bi q2 (nb _ iO)⟩) ?_;clear hK K;try simp only[UU]
       refine pT rfl rfl ?_;try simp only[UU]
       simp only[aS];clear u0 p0 p1 p2 q0 q1 q2 c0 c1 c2;go_wp2;go_roundw;case rel=>
        refine⟨j+1,_,by omega,by go_num,rfl,?_,?_⟩
        . rw[pz.out];exact dP
        . exact(aJ vU.out Hb.out).grown bi zo (λj e=>dt dh j e)
       case measure=>simp[intOf];omega
     . obtain rfl:j=n:=by omega
       have mJ:Z.take j=Z:=List.take_of_length_le (by rw[<-HZ.out,FH (by rw[mA.out,wh.out]),mA.out];exact Nat.le_refl _);rw[mJ]at ho;obtain⟨a2,cap2,rfl,pW,fx⟩:=dS ho;have fG:=ho.lt;obtain⟨vals,hvl,hov,jJ⟩:=dK.out.below hb2;have Hb:Hid (Bw wr wr):=Below.refl _ _;obtain⟨_,_,qi,_⟩:=dK.out;have hvs:=qi.lt;have hin:∀b o,a2=some ⟨b,o,none⟩->some b≠v.ownBlock/\b<wr.heap.size:=by intro b o e;subst e;have h1:=fG b rfl;refine⟨λh2=>?_,h1.2⟩;have h3:=hvs b h2.symm;omega
       obtain⟨pg,AK,mZ,su,cH,cd⟩:=iz hin pW hvl jJ hov hb2;have DT:=hb2.size;have ud:Hid (Z.length=j):=by show _=_;rw[<-HZ.out,FH (by rw[mA.out,wh.out]),mA.out]
       clear hin pW hvl jJ hov qi hvs hb2 fx fG mJ ho aW hj;obtain⟨W6,sM,ae,Hd⟩:=cL wr 45 [.slice a2 j cap2];have d0:=Hd.out.c1;replace Hb:=au Hb ae;clear ae;have dh:=ownsRow_below cH.out Hb.out;have jf:=Hb.out.size;have hnews:∀i u,([.slice a2 j cap2]:List Value)[i]?=some u->W6.cell? ((⟨wr.heap.size,0,none⟩:Addr).add i)=some u:=gW Hd.out;clear d0;go_wp2_with (at_builtin;refine wpList_append_own_at _ rfl _ _ 78 rfl w.heap.size 45 j0 _ 1 24 Tryz.underlying78 Hj.out kI.out na.out ng.out rfl zd v k vals rfl dh ⟨wr.heap.size,0,none⟩ 1 1 [.slice a2 j cap2] rfl rfl hnews zy zx zo zo ?_;intro v' w7 eJ fN _ fU;obtain⟨g',oh,rfl⟩:=ownsRow_succ eJ);go_roundw;case rel=>
        refine⟨k+1,_,by omega,by go_num,rfl,?_,?_⟩
        . refine Own2.push (a:=a2) (c:=cap2) mZ.out (w:=W6) ?_ ?_ ?_ ?_ fN fU
          . intro i h;obtain⟨a,c,h1,h2,h3⟩:=su.out i h;exact⟨a,c,h1,h2.below Hb.out,λb o e=>⟨(h3 b o e).1,Nat.lt_of_lt_of_le (h3 b o e).2 jf⟩⟩
          . rw[yg.out];exact AK.out.below Hb.out
          . exact λb o e=>⟨(pg.out b o e).1,Nat.lt_of_lt_of_le (pg.out b o e).2 jf⟩
          . rw[yg.out,ud.out];exact eJ
        . exact(aJ (aJ aQ.out cd.out) Hb.out).grown fN zo (λj e=>dt dh j e)
       case measure=>simp[intOf];omega
  . obtain rfl:k=m:=by omega
    obtain⟨a2,c2,rfl,hcl,ku⟩:=Own2.arS pv HSL.out;obtain⟨qJ,aQ⟩:=aL ku pb;clear pv pb ku;go_wp2;refine bodyPost_ret (results_tmp rfl _ _ _) rfl ⟨a2,c2,rfl,hcl,qJ.out,aQ.out⟩
theorem Tryz.arY :(Tryz.prog.info? 28).map (λi=>(i.zero,i.size,i.bytes))=some (some (.agg #[.bool false,.string (bs [])]),2,24):=by kernel_rfl
theorem Tryz.arZ :(Tryz.prog.info? 134).map (λi=>(i.zero,i.size,i.bytes))=some (some (.slice none 0 0),1,24):=by kernel_rfl
def iC (z:Int):List Value:=[.bool (ar z),.string (bs (nt z.natAbs))]
def zC (zs:List Int):List Value:=zs.flatMap iC
theorem aoa (a b:List Int):zC (a++b)=zC a++zC b:=by unfold zC;rw[List.flatMap_append]
def iH (w:World)(base n:Nat)(R:List (List Int))(k:Nat)(v:Value):Prop:=
 ∃vals:List Value,vals.length=k/\w.ownsRow base 134 1 v k vals/\(∀i (h:i<vals.length),w.ownsRow base 28 2 vals[i] n (zC (R.getD i [])))/\
  ∀i j (hi:i<vals.length) (hj:j<vals.length) g,vals[i].ownBlock=some g->vals[j].ownBlock=some g->i=j
theorem iH.nil (w:World)(base n:Nat)(R:List (List Int)):iH w base n R 0 (.slice none 0 0):=
 ⟨[],rfl,World.ownsRow_nil _ _ _ _,λ_ h=>absurd h (Nat.not_lt_zero _),λ_ _ h=>absurd h (Nat.not_lt_zero _)⟩
theorem iH.below {w w':World}{base n k:Nat}{R:List (List Int)}{v:Value}(h:iH w base n R k v)(hb:Bw w w'):iH w' base n R k v:=by obtain⟨vals,hl,ho,hi,hd⟩:=h;exact⟨vals,hl,ownsRow_below ho hb,λi h=>ownsRow_below (hi i h) hb,hd⟩
theorem DL {W:World}{b1 b2 e1 e2 s1 s2 k1 k2:Nat}{v1 v2:Value}{x1 x2:List Value}(h1:W.ownsRow b1 e1 s1 v1 k1 x1)(h2:W.ownsRow b2 e2 s2 v2 k2 x2)(he:e1≠e2):v1.ownBlock=none\/v1.ownBlock≠v2.ownBlock:=by
 rcases h1.2 with⟨rfl,_⟩ |⟨g,cap,cur,rfl,_,hg,_⟩
 . exact .inl rfl
 . refine .inr λh=>?_;rcases h2.2 with⟨rfl,_⟩ |⟨g',cap',cur',rfl,_,hg',_⟩
   . simp[Value.ownBlock]at h
   . simp only[Value.ownBlock,Option.some.injEq]at h;subst h;rw[hg]at hg';simp at hg';exact he hg'.2
theorem oW {W:World}{base base':Nat}{e:TypeId}{size:Nat}{v:Value}{n:Nat}{xs:List Value}(h:W.ownsRow base e size v n xs)(hb:base'<=base):W.ownsRow base' e size v n xs:=by
 refine⟨h.1,?_⟩;rcases h.2 with h2|⟨g,cap,cur,h1,h2,h3⟩
 . exact .inl h2
 . exact .inr ⟨g,cap,cur,h1,Nat.le_trans hb h2,h3⟩
theorem iH.push {w w':World}{base n k:Nat}{R:List (List Int)}{v v' x:Value}{vals:List Value}(hl:vals.length=k)(hov:w.ownsRow base 134 1 v k vals)(hi:∀i (h:i<vals.length),w.ownsRow base 28 2 vals[i] n (zC (R.getD i [])))
 (hd:∀i j (hi:i<vals.length) (hj:j<vals.length) g,vals[i].ownBlock=some g->vals[j].ownBlock=some g->i=j)
 (hx:w.ownsRow base 28 2 x n (zC (R.getD k []))) (lO:∀g,x.ownBlock=some g->∀i (h:i<vals.length),vals[i].ownBlock≠some g)
 (ho:w'.ownsRow base 134 1 v' (k+1) (vals++[x])) (hg:w.grownBy w' v.ownBlock):iH w' base n R (k+1) v':=by
 refine⟨_,by simp[hl],ho,λi h=>?_,λi j h1 h2 g e1 e2=>?_⟩
 . by_cases hk:i<vals.length
   . rw[List.getElem_append_left hk];exact(hi i hk).kept hg (DL (hi i hk) hov zd)
   . have hik:i=k:=by simp at h;omega
     subst hik;rw[List.getElem_append_right zo];simp only[hl,Nat.sub_self,List.getElem_cons_zero];exact hx.kept hg (DL hx hov zd)
 . by_cases k1:i<vals.length
   . rw[List.getElem_append_left k1]at e1;by_cases k2:j<vals.length
     . rw[List.getElem_append_left k2]at e2;exact hd i j k1 k2 g e1 e2
     . have hjk:j=k:=by simp at h2;omega
       subst hjk;rw[List.getElem_append_right zo]at e2;simp only[hl,Nat.sub_self,List.getElem_cons_zero]at e2;exact absurd e1 (lO g e2 i k1)
   . have hik:i=k:=by simp at h1;omega
     subst hik;rw[List.getElem_append_right zo]at e1;simp only[hl,Nat.sub_self,List.getElem_cons_zero]at e1;by_cases k2:j<vals.length
     . rw[List.getElem_append_left k2]at e2;exact absurd e2 (lO g e1 j k2)
     . simp at h2;omega
def ky (l:Int)(ds:List Dyadic):Int:=ds.foldl (λl d=>min l (dE d)) l
def kZ (l:Int)(R:List (List Dyadic)):Int:=R.foldl ky l
def oX (low:Int)(d:Dyadic):Int:=dN d*2^(dE d-low).toNat
theorem XK (l:Int)(ds:List Dyadic):ky l ds<=l/\∀d∈ds,ky l ds<=dE d:=by
 induction ds generalizing l with
 |nil=>exact⟨Int.le_refl _,λd h=>by cases h⟩
 | cons x xs ih=>
   have h:=ih (min l (dE x));have e:ky l (x::xs)=ky (min l (dE x)) xs:=rfl;rw[e];refine⟨by omega,λd hd=>?_⟩;rcases List.mem_cons.1 hd with rfl|hd
   . omega
   . exact h.2 d hd
theorem ND (l:Int)(R:List (List Dyadic)):kZ l R<=l/\∀r∈R,∀d∈r,kZ l R<=dE d:=by
 induction R generalizing l with
 |nil=>exact⟨Int.le_refl _,λd h=>by cases h⟩
 | cons x xs ih=>
   have h:=ih (ky l x);have h1:=XK l x;have e:kZ l (x::xs)=kZ (ky l x) xs:=rfl;rw[e];refine⟨by omega,λr hr d hd=>?_⟩;rcases List.mem_cons.1 hr with rfl|hr
   . have:=h1.2 d hd;omega
   . exact h.2 r hr d hd
theorem XJ (l:Int)(ds:List Dyadic)(m:Int)(hl:m<=l)(h:∀d∈ds,m<=dE d):m<=ky l ds:=by
 induction ds generalizing l with
 |nil=>exact hl
 |cons x xs ih=>have hx:=h x (List.mem_cons_self ..);exact ih (min l (dE x)) zo (λd hd=>h d (List.mem_cons_of_mem _ hd))
theorem NC (l:Int)(R:List (List Dyadic))(m:Int)(hl:m<=l)(h:∀r∈R,∀d∈r,m<=dE d):m<=kZ l R:=by
 induction R generalizing l with
 |nil=>exact hl
 |cons x xs ih=>exact ih (ky l x) (XJ l x m hl (h x (List.mem_cons_self ..))) (λr hr=>h r (List.mem_cons_of_mem _ hr))
theorem ajF (l:Int)(ds:List Dyadic)(k:Nat)(h:k<ds.length):ky l (ds.take (k+1))=min (ky l (ds.take k)) (dE ds[k]):=by unfold ky;rw[List.take_succ_eq_append_getElem h,List.foldl_append];rfl
theorem ajG (l:Int)(R:List (List Dyadic))(k:Nat)(h:k<R.length):kZ l (R.take (k+1))=ky (kZ l (R.take k)) R[k]:=by unfold kZ;rw[List.take_succ_eq_append_getElem h,List.foldl_append];rfl
theorem agR (x y z:Value)(W:World):(Instr.field 30 (.agg #[x,y,z]) 1).run Tryz.prog W=.ok z W:=by kernel_rfl
theorem amA (low:Int)(d:Dyadic)(h:low<=dE d):Dyadic.ofIntWithPrec (oX low d) (-low)=d:=by
 have e: -low= -(dE d)+((dE d-low).toNat:Int):=by omega
 unfold oX;rw[e,rG];exact(rF d).symm
theorem Zd (a:Option Addr)(L cap n:Nat)(rows:List (List Raw))(B:Nat)(low:Int)(w:World)(hL:rows.length=L)(hL8:L<=8)(GG:n<=8)(hrow:∀r∈rows,r.length=n)(ha:bj w a rows)
 (hfit:∀r∈rows,∀c∈r,Fit B c) (hB:B<=10000000) (hT:az w) (jx:kZ 0 (rows.map λr=>r.map aC)=low):
 Calls Tryz.prog 87 #[.slice a L cap] w λe w'=>∃v,e=.returned (.tuple #[v,.int .i64 (-low)])/\
  iH w' w.heap.size n ((rows.map λr=>r.map aC).map λr=>r.map (oX low)) L v/\Bw w w':=by
 obtain⟨i0,hi,hz0,hz1,hz2⟩:=info_parts Tryz.arY;obtain⟨j0,hj,hy0,hy1,hy2⟩:=info_parts Tryz.arZ;obtain⟨D,hD⟩:=aB (rows.map λr=>r.map aC);have TN:D.length=L:=by rw[<-hD];simp[hL]
 have TQ:∀k (h:k<rows.length) (h':k<D.length),D[k]=rows[k].map aC:=λk h h'=>by subst hD;simp
 have Cc:∀r∈D,∀d∈r,-268435456<=dE d/\dE d<=268435456:=by intro r hr d hd;rw[<-hD]at hr;obtain⟨r',hr',rfl⟩:=List.mem_map.1 hr;obtain⟨x,hx,rfl⟩:=List.mem_map.1 hd;exact(((hfit r' hr' x hx).2).fit zo).1.2
 rw[hD]at jx⊢;have hlo:low<=0/\∀r∈D,∀d∈r,low<=dE d:=by rw[<-jx];exact ND 0 D
 have hlb: -268435456<=low:=by rw[<-jx];exact NC 0 D _ zd (λr hr d hd=>(Cc r hr d hd).1)
 have CQ:∀k j (h:k<D.length) (h':j<=D[k].length),-268435456<=ky (kZ 0 (D.take k)) (D[k].take j)/\ky (kZ 0 (D.take k)) (D[k].take j)<=0:=by intro k j h h';have g1: -268435456<=kZ 0 (D.take k):=NC 0 _ _ zd (λr hr d hd=>(Cc r (List.mem_of_mem_take hr) d hd).1);have g2:=(ND 0 (D.take k)).1;have g3:=(XK (kZ 0 (D.take k)) (D[k].take j)).1;exact⟨XJ _ _ _ g1 (λd hd=>(Cc _ (List.getElem_mem h) d (List.mem_of_mem_take hd)).1),by omega⟩
 obtain⟨Hi,cX,cN,cO,Hj,kI,na,ng,IL,PL,HDe,ab8⟩:=gY hi hz0 hz1 hz2 hj hy0 hy1 hy2 TN TQ Cc jx;obtain⟨QR,Hlb,EL,Ha,HT,wm,yq,HL⟩:=lV hlo hlb CQ ha hT hrow hfit hL;have hnl:IntKind.i64.wrap (-low)= -low:=by rw[IntKind.wrap_i64];omega
 obtain⟨nl,ML⟩:=aB (-low);obtain⟨S,hS⟩:=aB (D.map λr=>r.map (oX low));have pS:∀k (h:k<D.length),S.getD k []=D[k].map (oX low):=λk h=>by subst hS;simp[h]
 rw[hS,ML];have Wb:IntKind.i64.wrap (-low)=nl:=by rw[hnl,ML]
 obtain⟨JQ,ua⟩:=aL Wb pS;clear hnl ML Wb hS pS hi hz0 hz1 hz2 hj hy0 hy1 hy2 CQ hlb hlo Cc TQ TN jx ha hT hrow hfit hL hD;go_enter Tryz.func87,Tryz.ntmps87;have Hb:Hid (Bw w w):=Below.refl _ _;go_wp2_with fail;go_loopw[4,18] (λs4 x wr=>∃k:Nat,k<=L/\x=.int .i64 (k:Int)/\s4=.int .i64 (kZ 0 (D.take k))/\Bw w wr) (λ_ x _=>L-(intOf x).toNat);case atStart=>exact⟨0,Nat.zero_le _,rfl,rfl,Hb.out⟩
 case round=>
  clear Hb;obtain⟨k,hk,rfl,rfl,pb⟩:=hrel;by_cases hlt:k<L
  . have hk2:k<rows.length:=by rw[HL.out];exact hlt
    have hk3:k<D.length:=by rw[IL.out];exact hlt
    obtain⟨p,iL⟩:=aB (rows[k]);obtain⟨b,o,a1,c1,hab,hc1,hat⟩:=(Ha.out.below pb).row k hk2;have oF:p.length=n:=by rw[<-iL];exact wm.out _ (List.getElem_mem hk2)
    have ir:∀x∈p,Fit B x:=by rw[<-iL];exact yq.out _ (List.getElem_mem hk2)
    have sI:=PL.out k hk2 hk3;rw[iL]at hc1 hat sI;rw[oF]at hc1;have lQ:=xx L cap k (k:Int) hab hlt rfl;rw[Nat.mul_one]at lQ;have hst:=ajG 0 D k hk3;have hpt:=λj (h:j<=n)=>EL.out k j hk3 (by rw[sI,List.length_map,oF];exact h);rw[sI]at hst;simp only[sI]at hpt;obtain⟨l0,hl0⟩:=aB (kZ 0 (D.take k));rw[hl0]at hst⊢;simp only[hl0]at hpt;obtain⟨fD,mA,qH,bX,Rj,aQ⟩:=iz hat oF ir hst hpt pb;clear hat oF ir hst hpt pb hab iL sI hl0 hk2 hk3;obtain⟨wc,hwc⟩:∃wc,wc=wr:=⟨_,rfl⟩;subst hwc;have iG:=aQ.out.size;go_wp2_with fail;go_loopw[4,24] (λs4 x wr=>∃j:Nat,j<=n/\x=.int .i64 (j:Int)/\s4=.int .i64 (ky l0 ((p.map aC).take j))/\Bw wc wr) (λ_ x _=>n-(intOf x).toNat);case atStart=>exact⟨0,Nat.zero_le _,rfl,rfl,Below.refl _ _⟩
    case round=>
     clear hc1;obtain⟨j,hj,rfl,rfl,hb2⟩:=hrel;by_cases aW:j<n
     . have k1:j<p.length:=by rw[mA.out];exact aW
       obtain⟨sp,mp,ep,iu⟩:=ki (p[j]);have eZ:=qH.out _ (List.getElem_mem k1);have hst:=ajF l0 (p.map aC) j (by simpa using k1);rw[List.getElem_map,iu]at hst;rw[iu]at eZ;obtain⟨X,hX⟩:=aB (aC (sp,mp,ep));rw[hX]at hst;obtain⟨l1,CH⟩:=aB (ky l0 ((p.map aC).take j));rw[CH]at hst⊢;obtain⟨b1,o1,eY,p0,p1,p2⟩:=(fD.out.below hb2).num j k1 iu;have VI:=iN n c1 j (j:Int) eY aW rfl;have Hp:Hid (aY wr b1 (o1+j*3) [.bool sp,.string (bs mp),.int .i64 ep]):=ib p0 p1 p2;obtain⟨mo,HX,vU,pz,cC⟩:=fO eZ.1 hX hb2 hst ((HT.out.below aQ.out).below hb2);clear hb2 eZ hX hst iu eY p0 p1 p2 CH;have Hb:Hid (Bw wr wr):=Below.refl _ _;obtain⟨p0,p1,p2⟩:=Hp.out.w3;have P0:=p0;have P1:=p1;have P2:=p2;have fl:=agR (.bool (ar (dN X))) (.string (bs (nt (dN X).natAbs))) (.int .i64 (dE X));obtain⟨W4,kj,ae,Hc⟩:=cL wr 30 [.bool sp,.string (bs mp),.int .i64 ep];clear p0 p1 p2;replace Hp:=kW Hp ae;obtain⟨p0,p1,p2⟩:=Hp.out.w3;obtain⟨c0,c1,c2⟩:=Hc.out.c3;replace Hb:=au Hb ae;clear ae;have HT:Hid (az W4):=cC.out.below Hb.out;go_wp2_with fail;refine(pK sp mp ep X HX.out _ mo.out HT.out).mono ?_;rintro e w5 ⟨rfl,ae⟩;clear p0 p1 p2 c0 c1 c2;replace Hp:=kW Hp ae;replace Hc:=kB Hc ae;replace HT:=kT HT ae;obtain⟨p0,p1,p2⟩:=Hp.out.w3;obtain⟨c0,c1,c2⟩:=Hc.out.c3;replace Hb:=au Hb ae;clear ae;go_wp2;go_roundw;case rel=>exact⟨j+1,by omega,by go_num,by rw[pz.out],aJ vU.out Hb.out⟩
       case measure=>simp[intOf];omega
     . obtain rfl:j=n:=by omega
       have hpt:(p.map aC).take j=p.map aC:=List.take_of_length_le (by simp[mA.out]);rw[hpt];go_wp2;go_roundw;case rel=>exact⟨k+1,by omega,by go_num,by rw[bX.out],aJ aQ.out hb2⟩
       case measure=>simp[intOf];omega
  . obtain rfl:k=L:=by omega
    have TR:D.take k=D:=List.take_of_length_le (by rw[IL.out];exact Nat.le_refl _);rw[TR,ab8.out];have aQ:=ah pb;clear pb TR;obtain⟨wa,hwa⟩:∃wa,wa=wr:=⟨_,rfl⟩;subst hwa;have OX:=aQ.out.size;go_wp2_with fail;go_loopw[9,37] (λs9 x wr=>∃(i:Nat) (v:Value),i<=k/\x=.int .i64 (i:Int)/\v=s9/\iH wr w.heap.size n S i v/\Bw w wr) (λ_ x _=>k-(intOf x).toNat);case atStart=>exact⟨0,_,Nat.zero_le _,rfl,rfl,iH.nil _ _ _ _,aQ.out⟩
    case round=>
     clear aQ OX;obtain⟨i,v,hk,rfl,rfl,pv,pb⟩:=hrel;by_cases hlt:i<k
     . have hk2:i<rows.length:=by rw[HL.out];exact hlt
       have hk3:i<D.length:=by rw[IL.out];exact hlt
       obtain⟨p,iL⟩:=aB (rows[i]);obtain⟨b,o,a1,c1,hab,hc1,hat⟩:=(Ha.out.below pb).row i hk2;have oF:p.length=n:=by rw[<-iL];exact wm.out _ (List.getElem_mem hk2)
       have ir:∀x∈p,Fit B x:=by rw[<-iL];exact yq.out _ (List.getElem_mem hk2)
       have sI:=PL.out i hk2 hk3;have sL:=ua.out i hk3;have hpl:=QR.out.2 _ (List.getElem_mem hk3);rw[iL]at hc1 hat sI;rw[sI]at sL hpl;rw[oF]at hc1;have lQ:=xx k cap i (i:Int) hab hlt rfl;rw[Nat.mul_one]at lQ;obtain⟨Z,hZ⟩:=aB ((p.map aC).map (oX low));rw[hZ]at sL;obtain⟨fD,mA,qH,yg,HZ,pp,aQ,dK⟩:=lV hat oF ir sL hZ hpl pb pv;clear hat oF ir sL hZ hpl pb pv hab iL sI hk2 hk3;obtain⟨wc,hwc⟩:∃wc,wc=wr:=⟨_,rfl⟩;subst hwc;have iG:=aQ.out.size;go_wp2_with fail;go_loopw[12,43] (λs12 x wr=>∃(j:Nat) (v2:Value),j<=n/\x=.int .i64 (j:Int)/\v2=s12/\wr.ownsRow wc.heap.size 28 2 v2 j (zC (Z.take j))/\Bw wc wr) (λ_ x _=>n-(intOf x).toNat);case atStart=>exact⟨0,_,Nat.zero_le _,rfl,rfl,World.ownsRow_nil _ _ _ _,Below.refl _ _⟩
       case round=>
        clear hc1;obtain⟨j,v2,hj,rfl,rfl,ho,hb2⟩:=hrel;by_cases aW:j<n
        . have k1:j<p.length:=by rw[mA.out];exact aW
          obtain⟨sp,mp,ep,iu⟩:=ki (p[j]);have eZ:=qH.out _ (List.getElem_mem k1);rw[iu]at eZ;obtain⟨X,hX⟩:=aB (aC (sp,mp,ep));have hle:low<=dE X:=pp.out X (by rw[<-hX,<-iu];exact List.mem_map_of_mem (List.getElem_mem k1));have fT:Sm B X:=by rw[<-hX];exact eZ.2
          have Mg:=(fT.fit zo).1;have ow:(nt (dN X).natAbs).length<=268435456:=Mg.1;have hXe: -268435456<=dE X/\dE X<=268435456:=Mg.2;obtain⟨Y,hY⟩:=aB (oX low X);have hlb:=Hlb.out;have hl0:=QR.out.1;obtain⟨t,ht⟩:∃t:Int,dE X-low=t:=⟨_,rfl⟩;have hwr:IntKind.i64.wrap (dE X-low)=t:=by rw[IntKind.wrap_i64];omega
          have hsh:∀W,Calls Tryz.prog 106 #[.agg #[.bool (ar (dN X)),.string (bs (nt (dN X).natAbs))],.int .i64 t] W λe w'=>e=.returned (cE Y)/\Bw W w':=by intro W;have h:=Pj (ar (dN X)) (nt (dN X).natAbs) (dE X-low).toNat W zo zo;rw[fc,show((dE X-low).toNat:Int)=t by omega]at h;rw[<-hY];exact h
          have bX:Hid (zC (Z.take (j+1))=zC (Z.take j)++[.bool (ar Y),.string (bs (nt Y.natAbs))]):=by
           show _=_
           rw[<-HZ.out,List.take_succ_eq_append_getElem (by simpa using k1),aoa];congr 1;simp only[List.getElem_map,iu,hX,hY];rfl
          obtain⟨b1,o1,eY,p0,p1,p2⟩:=(fD.out.below hb2).num j k1 iu;have VI:=iN n c1 j (j:Int) eY aW rfl;have Hp:Hid (aY wr b1 (o1+j*3) [.bool sp,.string (bs mp),.int .i64 ep]):=ib p0 p1 p2;obtain⟨mo,HX,Ho,cd,Hsh,Hwr,cC⟩:=oP eZ.1 hX ho hb2 hsh hwr ((HT.out.below aQ.out).below hb2);have DT:=hb2.size;clear ho hb2 eZ hX iu eY p0 p1 p2 hle fT Mg ow hXe hY hlb hl0 ht hsh hwr;have Hb:Hid (Bw wr wr):=Below.refl _ _;obtain⟨p0,p1,p2⟩:=Hp.out.w3;have P0:=p0;have P1:=p1;have P2:=p2;obtain⟨W4,kj,ae,Hc⟩:=cL wr 30 [.bool sp,.string (bs mp),.int .i64 ep];clear p0 p1 p2;replace Hp:=kW Hp ae;obtain⟨p0,p1,p2⟩:=Hp.out.w3;obtain⟨c0,c1,c2⟩:=Hc.out.c3;replace Hb:=au Hb ae;clear ae;have HT:Hid (az W4):=cC.out.below Hb.out;go_wp2_with fail;refine(pK sp mp ep X HX.out _ mo.out HT.out).mono ?_;rintro e w5 ⟨rfl,ae⟩;clear p0 p1 p2 c0 c1 c2;replace Hp:=kW Hp ae;replace Hc:=kB Hc ae;replace HT:=kT HT ae;obtain⟨p0,p1,p2⟩:=Hp.out.w3;obtain⟨c0,c1,c2⟩:=Hc.out.c3;replace Hb:=au Hb ae;clear ae;have ajL:=Hc.out.lt;obtain⟨W6,sM,ae,Hy⟩:=cL w5 30 [.bool (ar (dN X)),.string (bs (nt (dN X).natAbs)),.int .i64 (dE X)];clear p0 p1 p2;replace Hp:=kW Hp ae;clear c0 c1 c2;replace Hc:=kB Hc ae;replace HT:=kT HT ae;obtain⟨p0,p1,p2⟩:=Hp.out.w3;obtain⟨c0,c1,c2⟩:=Hc.out.c3;obtain⟨y0,y1,y2⟩:=Hy.out.c3;replace Hb:=au Hb ae;clear ae;have hwr:=Hwr.out;go_wp2_with fail;refine(Hsh.out _).mono ?_;rintro e w7 ⟨rfl,ae⟩;clear p0 p1 p2 c0 c1 c2 y0 y1 y2;replace Hp:=kW Hp ae;replace Hc:=kB Hc ae;replace HT:=kT HT ae;replace Hy:=kB Hy ae;obtain⟨p0,p1,p2⟩:=Hp.out.w3;obtain⟨c0,c1,c2⟩:=Hc.out.c3;obtain⟨y0,y1,y2⟩:=Hy.out.c3;replace Hb:=au Hb ae;clear ae hwr;have aqe:=Hc.out.lt;have XU:=Hy.out.lt;obtain⟨W8,UB,ae,Hd⟩:=cL w7 28 [.bool (ar Y),.string (bs (nt Y.natAbs))];clear p0 p1 p2;replace Hp:=kW Hp ae;clear c0 c1 c2;replace Hc:=kB Hc ae;replace HT:=kT HT ae;clear y0 y1 y2;replace Hy:=kB Hy ae;obtain⟨p0,p1,p2⟩:=Hp.out.w3;obtain⟨c0,c1,c2⟩:=Hc.out.c3;obtain⟨y0,y1,y2⟩:=Hy.out.c3;obtain⟨d0,d1⟩:=Hd.out.c2;replace Hb:=au Hb ae;clear ae;have dh:=ownsRow_below Ho.out Hb.out;have jf:=Hb.out.size;have hnews:=gW Hd.out;clear d0 d1;go_wp2_with (at_builtin;refine wpList_append_own_at _ rfl _ _ 134 rfl wc.heap.size 28 i0 _ 2 24 Tryz.underlying134 Hi.out cX.out cN.out cO.out rfl zd v2 j (zC (Z.take j)) rfl dh ⟨w7.heap.size,0,none⟩ 1 1 [.bool (ar Y),.string (bs (nt Y.natAbs))] rfl rfl hnews zy zx zo zo ?_;intro v' w9 gq kQ _ _;obtain⟨g',oh,rfl⟩:=ownsRow_succ gq);go_roundw;case rel=>
           refine⟨j+1,_,by omega,by go_num,rfl,?_,?_⟩
           . rw[bX.out];exact gq
           . exact(aJ cd.out Hb.out).grown kQ zo (λj e=>dt dh j e)
          case measure=>simp[intOf];omega
        . obtain rfl:j=n:=by omega
          have mJ:Z.take j=Z:=List.take_of_length_le (by rw[<-HZ.out];simp[mA.out]);rw[mJ]at ho;obtain⟨a2,cap2,rfl,_,_⟩:=dS ho;have fG:=ho.lt;obtain⟨vals,hvl,hov,jJ,CV⟩:=dK.out;have lO:∀g,(Value.slice a2 j cap2).ownBlock=some g->∀m (h:m<vals.length),vals[m].ownBlock≠some g:=by intro g h1 m h2 h3;have:=(fG g h1).1;have:=((jJ m h2).lt g h3).2;omega
          obtain⟨Bb,mZ,su,cH,cd,Kn,Ho⟩:=oP lO hvl jJ hov hb2 CV ho;have Hb:Hid (Bw wr wr):=Below.refl _ _;have DT:=hb2.size;clear lO hvl hov jJ hb2 CV fG mJ ho aW hj;obtain⟨W6,sM,ae,Hd⟩:=cL wr 134 [.slice a2 j cap2];have d0:=Hd.out.c1;replace Hb:=au Hb ae;clear ae;have Lt:=aJ cd.out Hb.out;have dh:=ownsRow_below cH.out Lt;have jf:=Hb.out.size;have hnews:∀i u,([.slice a2 j cap2]:List Value)[i]?=some u->W6.cell? ((⟨wr.heap.size,0,none⟩:Addr).add i)=some u:=gW Hd.out;clear d0;go_wp2_with (at_builtin;refine wpList_append_own_at _ rfl _ _ 116 rfl w.heap.size 134 j0 _ 1 24 Tryz.underlying116 Hj.out kI.out na.out ng.out rfl zd v i vals rfl dh ⟨wr.heap.size,0,none⟩ 1 1 [.slice a2 j cap2] rfl rfl hnews zy zx zo zo ?_;intro v' w7 eJ fN _ _;obtain⟨g',oh,rfl⟩:=ownsRow_succ eJ);go_roundw;case rel=>
           refine⟨i+1,_,by omega,by go_num,rfl,?_,?_⟩
           . refine iH.push (w:=W6) mZ.out dh (λm h=>ownsRow_below (su.out m h) Lt) Kn.out ?_ Bb.out eJ fN;rw[yg.out];exact oW (ownsRow_below Ho.out Hb.out) zo
           . exact(aJ aQ.out Lt).grown fN zo (λj e=>dt dh j e)
          case measure=>simp[intOf];omega
     . obtain rfl:i=k:=by omega
       obtain⟨aQ,dK⟩:=aL pb pv;clear pb pv;have hnl:=JQ.out;go_wp2;refine bodyPost_ret (v:=.tuple #[v,.int .i64 nl]) (by simp[results,Tryz.results87,go_sem]) rfl ⟨v,rfl,dK.out,aQ.out⟩
end Go.Proofs.YtdaadlblknpipaaGreatDoor
namespace Go.Proofs.YtdaadlblknpipaaGreatDoor
open Go.RowKit
theorem lh {w:World}{base:Nat}{e:TypeId}{size n cap g:Nat}{xs:List Value}(h:w.ownsRow base e size (.slice (some ⟨g,0,none⟩) n cap) n xs)(j:Nat)(hj:j<xs.length):w.cell? ⟨g,j,none⟩=some xs[j]:=by
 rcases h.2 with⟨h1,_⟩ |⟨g',cap',cur,h1,_,hg,_,_,_,hx⟩
 . simp at h1
 . simp only[Value.slice.injEq,Option.some.injEq,Addr.mk.injEq,and_true,true_and]at h1;obtain⟨rfl,rfl⟩:=h1;have h2:cur.toList.take (n*size)=xs:=hx;have h3:cur.toList[j]?=some xs[j]:=by rw[<-List.getElem?_eq_getElem hj];simp only[<-h2];rw[List.getElem?_take];rw[<-h2,List.length_take]at hj;rw[if_pos (Nat.lt_of_lt_of_le hj (Nat.min_le_left _ _))]
   have h4:ai w g e cur.toList:=by unfold ai;simpa using hg
   rw[h4.cell];exact h3
theorem jz {w:World}{base:Nat}{e:TypeId}{size n cap g:Nat}{xs:List Value}(h:w.ownsRow base e size (.slice (some ⟨g,0,none⟩) n cap) n xs)(j:Nat)(u:Value):(w.setCell ⟨g,j,none⟩ u).ownsRow base e size (.slice (some ⟨g,0,none⟩) n cap) n (xs.set j u):=by
 refine⟨by rw[List.length_set];exact h.1,?_⟩;rcases h.2 with⟨h1,_⟩ |⟨g',cap',cur,h1,hb,hg,h4,h5,h6,hx⟩
 . simp at h1
 . simp only[Value.slice.injEq,Option.some.injEq,Addr.mk.injEq,and_true,true_and]at h1;obtain⟨rfl,rfl⟩:=h1;refine .inr ⟨g,cap,cur.setIfInBounds j u,rfl,hb,?_,h4,h5,by simpa using h6,?_⟩
   . simp[World.setCell,Array.getElem?_modify,hg]
   . rw[<-hx];simp[List.take_set]
theorem aoc (zs:List Int):(zC zs).length=zs.length*2:=iI iC 2 (λ_=>rfl) zs
theorem aob (zs:List Int)(j:Nat)(hj:j<zs.length):(zC zs)[j*2]?=some (.bool (ar zs[j]))/\(zC zs)[j*2+1]?=some (.string (bs (nt zs[j].natAbs))):=by
 induction zs generalizing j with
 |nil=>simp at hj
 | cons z zs ih=>
   have e:zC (z::zs)=.bool (ar z)::.string (bs (nt z.natAbs))::zC zs:=rfl;rw[e];cases j with
   |zero=>exact⟨rfl,rfl⟩
   |succ j=>have:=ih j (by simpa using hj);rw[show(j+1) *2=j*2+1+1 by omega];simpa using this
theorem aod (zs:List Int)(j:Nat)(hj:j<zs.length)(y:Int):((zC zs).set (j*2) (.bool (ar y))).set (j*2+1) (.string (bs (nt y.natAbs)))=zC (zs.set j y):=by
 induction zs generalizing j with
 |nil=>simp at hj
 | cons z zs ih=>
   have e:zC (z::zs)=.bool (ar z)::.string (bs (nt z.natAbs))::zC zs:=rfl;rw[e];cases j with
   |zero=>rfl
   |succ j=>have:=ih j (by simpa using hj);rw[show(j+1) *2=j*2+1+1 by omega];simp only[List.set_cons_succ];rw[this];rfl
theorem iH.num {w:World}{base n L:Nat}{R:List (List Int)}{v:Value}(h:iH w base n R L v)(i j:Nat)(hi:i<L)(hj:j<n)(hR:R.length=L)(hr:(R.getD i []).length=n):
 ∃go cap g c,v=.slice (some ⟨go,0,none⟩) L cap/\base<=go/\base<=g/\g≠go/\w.cell? ⟨go,i,none⟩=some (.slice (some ⟨g,0,none⟩) n c)/\
  w.cell? ⟨g,j*2,none⟩=some (.bool (ar ((R.getD i []).getD j 0)))/\w.cell? ⟨g,j*2+1,none⟩=some (.string (bs (nt ((R.getD i []).getD j 0).natAbs)))/\
  ∀y:Int,iH ((w.setCell ⟨g,j*2,none⟩ (.bool (ar y))).setCell ⟨g,j*2+1,none⟩ (.string (bs (nt y.natAbs)))) base n (R.set i ((R.getD i []).set j y)) L v:=by
 obtain⟨vals,hl,ho,hv,hd⟩:=h;have hi2:i<vals.length:=by omega
 have hrow:=hv i hi2;have hxl:(zC (R.getD i [])).length=n*2:=by rw[aoc,hr]
 obtain⟨a0,cap,rfl,_,_⟩:=dS ho;obtain⟨a1,c,e1,_,hab⟩:=dS hrow;rw[e1]at hrow;rcases ho.2 with⟨h1,_⟩ |⟨go,cap',cur,h1,sP,hgo,_⟩
 . simp at h1;omega
 simp only[Value.slice.injEq,true_and]at h1;obtain⟨rfl,rfl⟩:=h1;rcases hrow.2 with⟨h1,_⟩ |⟨g,c',cur',h1,hbg,hgg,_⟩
 . simp at h1;omega
 simp only[Value.slice.injEq,true_and]at h1;obtain⟨rfl,rfl⟩:=h1;have hne:g≠go:=by rintro rfl;rw[hgo]at hgg;simp at hgg
 have hat:=aob (R.getD i []) j zo;have hg0:(R.getD i []).getD j 0=(R.getD i [])[j]'zo:=by rw[List.getD_eq_getElem?_getD,List.getElem?_eq_getElem zo];rfl
 have hc0:=lh hrow (j*2) zo;have hc1:=lh hrow (j*2+1) zo;rw[<-List.getElem?_eq_getElem]at hc0 hc1;rw[hat.1]at hc0;rw[hat.2]at hc1;refine⟨go,cap,g,c,rfl,sP,hbg,hne,?_,by rw[hg0];exact hc0,by rw[hg0];exact hc1,λy=>?_⟩
 . rw[lh ho i zo,e1]
 . refine⟨vals,hl,?_,λm hm=>?_,hd⟩
   . exact ownsRow_setCell_other (ownsRow_setCell_other ho (by simpa[Value.ownBlock]using hne.symm) _) (by simpa[Value.ownBlock]using hne.symm) _
   . by_cases sW:m=i
     . subst sW;have hs:(R.set m ((R.getD m []).set j y)).getD m []=(R.getD m []).set j y:=by rw[List.getD_eq_getElem?_getD,List.getElem?_set_self zo];rfl
       rw[hs,e1,<-aod _ _ zo];exact jz (jz hrow _ _) _ _
     . have hs:(R.set i ((R.getD i []).set j y)).getD m []=R.getD m []:=by rw[List.getD_eq_getElem?_getD,List.getElem?_set_ne (λe=>sW e.symm),<-List.getD_eq_getElem?_getD]
       rw[hs];have hno:vals[m].ownBlock≠some g:=λe=>sW (hd m i hm hi2 g e (by rw[e1];rfl));exact ownsRow_setCell_other (ownsRow_setCell_other (hv m hm) hno _) hno _
def swp (i m k:Nat):Nat:=if k=i then m else if k=m then i else k
theorem am2 {i m a b:Nat}(h:swp i m a=swp i m b):a=b:=by
 unfold swp at h;repeat' split at h
 all_goals omega
theorem Iz {i m k L:Nat}(hi:i<L)(hm:m<L)(hk:k<L):swp i m k<L:=by
 unfold swp;repeat' split
 all_goals omega
theorem OJ {α:Type}(l:List α)(d:α)(i m:Nat)(hi:i<l.length)(hm:m<l.length)(k:Nat)(hk:k<l.length):((l.set i (l.getD m d)).set m (l.getD i d)).getD k d=l.getD (swp i m k) d:=by
 unfold swp;by_cases h1:k=m
 . subst h1;rw[List.getD_eq_getElem?_getD,List.getElem?_set_self (by simpa using hk)];by_cases h2:k=i
   . subst h2;simp
   . simp[h2]
 . rw[List.getD_eq_getElem?_getD,List.getElem?_set_ne (λe=>h1 e.symm)];by_cases h2:k=i
   . subst h2;rw[List.getElem?_set_self (by simpa using hk)];simp
   . rw[List.getElem?_set_ne (λe=>h2 e.symm)];simp[h1,h2]
theorem iH.swap {w:World}{base n L go cap:Nat}{R:List (List Int)}(h:iH w base n R L (.slice (some ⟨go,0,none⟩) L cap))(i m:Nat)(hi:i<L)(hm:m<L)(hR:R.length=L):
 ∃x y,w.cell? ⟨go,i,none⟩=some x/\w.cell? ⟨go,m,none⟩=some y/\iH ((w.setCell ⟨go,i,none⟩ y).setCell ⟨go,m,none⟩ x) base n ((R.set i (R.getD m [])).set m (R.getD i [])) L (.slice (some ⟨go,0,none⟩) L cap):=by
 obtain⟨vals,hl,ho,hv,hd⟩:=h;have hi2:i<vals.length:=by omega
 have hm2:m<vals.length:=by omega
 have hgo:∀k (hk:k<vals.length),vals[k].ownBlock≠some go\/vals[k].ownBlock=none:=by
  intro k hk;rcases DL (hv k hk) ho zd with e|e
  . exact .inr e
  . exact .inl e
 have hel:∀k (hk:k<vals.length),((vals.set i vals[m]).set m vals[i])[k]'(by simpa using hk)=vals[swp i m k]'(Iz hi2 hm2 hk):=by intro k hk;have:=OJ vals (.bool false) i m hi2 hm2 k hk;have hs:=Iz hi2 hm2 hk;simpa[List.getD_eq_getElem?_getD,List.getElem?_eq_getElem,hi2,hm2,hk,hs]using this
 refine⟨vals[i],vals[m],lh ho i zo,lh ho m zo,_,by simp[hl],jz (jz ho i _) m _,λk hk=>?_,λa b ha hb g e1 e2=>?_⟩
 . have hk2:k<vals.length:=by simpa using hk
   have hs:=Iz hi2 hm2 hk2;rw[hel k hk2,OJ R [] i m zo zo k zo];have hno:vals[swp i m k].ownBlock≠some go:=by
    rcases hgo _ hs with e|e
    . exact e
    . rw[e];simp
   exact ownsRow_setCell_other (ownsRow_setCell_other (hv _ hs) hno _) hno _
 . have ha2:a<vals.length:=by simpa using ha
   have hb2:b<vals.length:=by simpa using hb
   rw[hel a ha2]at e1;rw[hel b hb2]at e2;exact am2 (hd _ _ _ _ g e1 e2)
def fJ (w:World)(base n:Nat)(R:List (List Dyadic))(k:Nat)(v:Value):Prop:=
 ∃vals:List Value,vals.length=k/\w.ownsRow base 45 1 v k vals/\(∀i (h:i<vals.length),w.ownsRow base 30 3 vals[i] n (dC (R.getD i [])))/\
  ∀i j (hi:i<vals.length) (hj:j<vals.length) g,vals[i].ownBlock=some g->vals[j].ownBlock=some g->i=j
theorem fJ.nil (w:World)(base n:Nat)(R:List (List Dyadic)):fJ w base n R 0 (.slice none 0 0):=
 ⟨[],rfl,World.ownsRow_nil _ _ _ _,λ_ h=>absurd h (Nat.not_lt_zero _),λ_ _ h=>absurd h (Nat.not_lt_zero _)⟩
theorem fJ.below {w w':World}{base n k:Nat}{R:List (List Dyadic)}{v:Value}(h:fJ w base n R k v)(hb:Bw w w'):fJ w' base n R k v:=by obtain⟨vals,hl,ho,hi,hd⟩:=h;exact⟨vals,hl,ownsRow_below ho hb,λi h=>ownsRow_below (hi i h) hb,hd⟩
theorem fJ.push {w w':World}{base n k:Nat}{R:List (List Dyadic)}{v v' x:Value}{vals:List Value}(hl:vals.length=k)(hov:w.ownsRow base 45 1 v k vals)(hi:∀i (h:i<vals.length),w.ownsRow base 30 3 vals[i] n (dC (R.getD i [])))
 (hd:∀i j (hi:i<vals.length) (hj:j<vals.length) g,vals[i].ownBlock=some g->vals[j].ownBlock=some g->i=j)
 (hx:w.ownsRow base 30 3 x n (dC (R.getD k []))) (lO:∀g,x.ownBlock=some g->∀i (h:i<vals.length),vals[i].ownBlock≠some g)
 (ho:w'.ownsRow base 45 1 v' (k+1) (vals++[x])) (hg:w.grownBy w' v.ownBlock):fJ w' base n R (k+1) v':=by
 refine⟨_,by simp[hl],ho,λi h=>?_,λi j h1 h2 g e1 e2=>?_⟩
 . by_cases hk:i<vals.length
   . rw[List.getElem_append_left hk];exact(hi i hk).kept hg (DL (hi i hk) hov zd)
   . have hik:i=k:=by simp at h;omega
     subst hik;rw[List.getElem_append_right zo];simp only[hl,Nat.sub_self,List.getElem_cons_zero];exact hx.kept hg (DL hx hov zd)
 . by_cases k1:i<vals.length
   . rw[List.getElem_append_left k1]at e1;by_cases k2:j<vals.length
     . rw[List.getElem_append_left k2]at e2;exact hd i j k1 k2 g e1 e2
     . have hjk:j=k:=by simp at h2;omega
       subst hjk;rw[List.getElem_append_right zo]at e2;simp only[hl,Nat.sub_self,List.getElem_cons_zero]at e2;exact absurd e1 (lO g e2 i k1)
   . have hik:i=k:=by simp at h1;omega
     subst hik;rw[List.getElem_append_right zo]at e1;simp only[hl,Nat.sub_self,List.getElem_cons_zero]at e1;by_cases k2:j<vals.length
     . rw[List.getElem_append_left k2]at e2;exact absurd e2 (lO g e1 j k2)
     . simp at h2;omega
theorem fJ.tbl {w:World}{base n k:Nat}{R:List (List Dyadic)}{v:Value}(h:fJ w base n R k v)(hk:R.length=k)(hn:∀r∈R,r.length=n):∃a c,v=.slice a k c/\k<=c/\bj w a (R.map λr=>r.map canon):=by
 obtain⟨vals,hl,ho,hi,hd⟩:=h;obtain⟨a,c,hv,hat,_⟩:=dS ho;subst hv;refine⟨a,c,rfl,Ik ho,vals,by simp[hl,hk],hat,λi h1 h2=>?_⟩;obtain⟨a1,c1,e1,e2,_⟩:=dS (hi i h2);have hi1:i<R.length:=by simpa using h1
 have eg:R.getD i []=R[i]:=by simp[hi1]
 rw[eg]at e2;refine⟨a1,c1,?_,?_⟩
 . rw[e1];simp[hn _ (List.getElem_mem hi1)]
 . rw[List.getElem_map,<-ol];exact e2
theorem afL (ds:List Dyadic)(j:Nat)(hj:j<ds.length):(dC ds)[j*3]?=some (.bool (ar (dN ds[j])))/\(dC ds)[j*3+1]?=some (.string (bs (nt (dN ds[j]).natAbs)))/\(dC ds)[j*3+2]?=some (.int .i64 (dE ds[j])):=by have h:=λi (hi:i<3)=>flat_get (λd=>bA (canon d)) 3 (λ_=>rfl) ds j i hj hi;unfold dC;exact⟨(h 0 zd),(h 1 zd),(h 2 zd)⟩
theorem fJ.num {w:World}{base n L:Nat}{R:List (List Dyadic)}{v:Value}(h:fJ w base n R L v)(i j:Nat)(hi:i<L)(hj:j<n)(hR:R.length=L)(hr:(R.getD i []).length=n):
 ∃go cap g c,v=.slice (some ⟨go,0,none⟩) L cap/\base<=go/\base<=g/\g≠go/\w.cell? ⟨go,i,none⟩=some (.slice (some ⟨g,0,none⟩) n c)/\
  aY w g (j*3) [.bool (ar (dN ((R.getD i []).getD j 0))),.string (bs (nt (dN ((R.getD i []).getD j 0)).natAbs)),.int .i64 (dE ((R.getD i []).getD j 0))]/\(∀o,w.frozen? ⟨g,o,none⟩=false)/\
  ∀y:Dyadic,fJ (((w.setCell ⟨g,j*3,none⟩ (.bool (ar (dN y)))).setCell ⟨g,j*3+1,none⟩ (.string (bs (nt (dN y).natAbs)))).setCell ⟨g,j*3+2,none⟩ (.int .i64 (dE y))) base n (R.set i ((R.getD i []).set j y)) L v:=by
 obtain⟨vals,hl,ho,hv,hd⟩:=h;have hi2:i<vals.length:=by omega
 have hrow:=hv i hi2;have hxl:(dC (R.getD i [])).length=n*3:=by rw[afM,hr]
 obtain⟨a0,cap,rfl,_,_⟩:=dS ho;obtain⟨a1,c,e1,_,hab⟩:=dS hrow;rw[e1]at hrow;rcases ho.2 with⟨h1,_⟩ |⟨go,cap',cur,h1,sP,hgo,_⟩
 . simp at h1;omega
 simp only[Value.slice.injEq,true_and]at h1;obtain⟨rfl,rfl⟩:=h1;have hrow2:=hrow;rcases hrow.2 with⟨h1,_⟩ |⟨g,c',cur',h1,hbg,hgg,_⟩
 . simp at h1;omega
 simp only[Value.slice.injEq,true_and]at h1;obtain⟨rfl,rfl⟩:=h1;have hne:g≠go:=by rintro rfl;rw[hgo]at hgg;simp at hgg
 have hat:=afL (R.getD i []) j zo;have hg0:(R.getD i []).getD j 0=(R.getD i [])[j]'zo:=by rw[List.getD_eq_getElem?_getD,List.getElem?_eq_getElem zo];rfl
 have hc0:=lh hrow (j*3) zo;have hc1:=lh hrow (j*3+1) zo;have hc2:=lh hrow (j*3+2) zo;rw[<-List.getElem?_eq_getElem]at hc0 hc1 hc2;rw[hat.1]at hc0;rw[hat.2.1]at hc1;rw[hat.2.2]at hc2;refine⟨go,cap,g,c,rfl,sP,hbg,hne,?_,by rw[hg0];exact ib hc0 hc1 hc2,λo=>?_,λy=>?_⟩
 . rw[lh ho i zo,e1]
 . have h4:ai w g 30 cur'.toList:=by unfold ai;simpa using hgg
   exact h4.free o
 . refine⟨vals,hl,?_,λm hm=>?_,hd⟩
   . have hn:∀(o:Nat) (u:Value) (W:World),W.ownsRow base 45 1 (.slice (some ⟨go,0,none⟩) L cap) L vals->(W.setCell ⟨g,o,none⟩ u).ownsRow base 45 1 (.slice (some ⟨go,0,none⟩) L cap) L vals:=λo u W h=>ownsRow_setCell_other h (by simpa[Value.ownBlock]using hne.symm) _;exact hn _ _ _ (hn _ _ _ (hn _ _ _ ho))
   . by_cases sW:m=i
     . subst sW;have hs:(R.set m ((R.getD m []).set j y)).getD m []=(R.getD m []).set j y:=by rw[List.getD_eq_getElem?_getD,List.getElem?_set_self zo];rfl
       rw[hs,e1,<-SV];exact jz (jz (jz hrow _ _) _ _) _ _
     . have hs:(R.set i ((R.getD i []).set j y)).getD m []=R.getD m []:=by rw[List.getD_eq_getElem?_getD,List.getElem?_set_ne (λe=>sW e.symm),<-List.getD_eq_getElem?_getD]
       rw[hs];have hno:vals[m].ownBlock≠some g:=λe=>sW (hd m i hm hi2 g e (by rw[e1];rfl));exact ownsRow_setCell_other (ownsRow_setCell_other (ownsRow_setCell_other (hv m hm) hno _) hno _) hno _
end Go.Proofs.YtdaadlblknpipaaGreatDoor
