/- Package tri: the longest edge. -/
import Derived.Test.YtdaadlblknpipaaGreatDoorZ11
import Derived.Test.YtdaadlblknpipaaGreatDoorZ1
set_option linter.unusedVariables false
set_option linter.unusedSimpArgs false
set_option maxRecDepth 100000
set_option maxHeartbeats 16000000
namespace Go.Proofs.YtdaadlblknpipaaGreatDoor
open Go.RowKit
attribute [local go_sem ↓] Go.wp_at_zero Go.wp_at_succ
def eX (rows:List (List Raw))(n a b:Nat):Dyadic:=mR ((rows.getD a []).map az) ((rows.getD b []).map az) n
def vI (sq:Nat->Nat->Dyadic)(a b:Nat)(s:Nat×Nat×Dyadic):Nat×Nat×Dyadic:=if 0<cw (sq a b-s.2.2)then(a,b,sq a b)else s
def su (sq:Nat->Nat->Dyadic)(a:Nat):Nat->Nat->Nat×Nat×Dyadic->Nat×Nat×Dyadic
 |0,_,s=>s
 |k+1,b,s=>su sq a k (b+1) (vI sq a b s)
def nK (sq:Nat->Nat->Dyadic)(L:Nat):Nat->Nat->Nat×Nat×Dyadic->Nat×Nat×Dyadic
 |0,_,s=>s
 |k+1,a,s=>nK sq L k (a+1) (su sq a (L-(a+1)) (a+1) s)
def gP (sq:Nat->Nat->Dyadic)(L:Nat):Nat×Nat×Dyadic:=nK sq L L 0 (0,1,sq 0 1)
theorem ahK (sq:Nat->Nat->Dyadic)(Q:Nat×Nat×Dyadic->Prop)(L a k b:Nat)(s:Nat×Nat×Dyadic)(hs:Q s)(hab:a<b)(hb:b+k<=L)(h:∀a b,a<b->b<L->Q (a,b,sq a b)):Q (su sq a k b s):=by
 induction k generalizing b s with
 |zero=>exact hs
 | succ k ih=>
   unfold su;refine ih (b+1) _ ?_ zo zo;unfold vI;split
   . exact h a b hab zo
   . exact hs
theorem ahJ (sq:Nat->Nat->Dyadic)(Q:Nat×Nat×Dyadic->Prop)(L k a:Nat)(s:Nat×Nat×Dyadic)(hs:Q s)(hb:a+k<=L)(h:∀a b,a<b->b<L->Q (a,b,sq a b)):Q (nK sq L k a s):=by
 induction k generalizing a s with
 |zero=>exact hs
 |succ k ih=>unfold nK;exact ih (a+1) _ (ahK sq Q L a _ (a+1) s hs zo zo h) zo
theorem Ii (sq:Nat->Nat->Dyadic)(L:Nat)(hL:2<=L):(gP sq L).1<(gP sq L).2.1/\(gP sq L).2.1<L/\(gP sq L).2.2=sq (gP sq L).1 (gP sq L).2.1:=
 ahJ sq (λs=>s.1<s.2.1/\s.2.1<L/\s.2.2=sq s.1 s.2.1) L L 0 (0,1,sq 0 1) ⟨Nat.zero_lt_one,hL,rfl⟩ zo (λa b h1 h2=>⟨h1,h2,rfl⟩)
abbrev CE (s:Nat×Nat×Dyadic):List Value:=[.int .i64 (s.1:Int),.int .i64 (s.2.1:Int),.bool (ar (dN s.2.2)),.string (bs (nt (dN s.2.2).natAbs)),.int .i64 (dE s.2.2)]
theorem At.drew {w:World}{a:Option Addr}{cs:List Value}(h:At w a cs):At w.drew a cs:=h
theorem At.alloc {w:World}{a:Option Addr}{cs:List Value}(h:At w a cs)(o:Obj):At (w.alloc o) a cs:=h.below zl
theorem akU (rows:List (List Raw))(n B x y:Nat)(a:Option Addr)(cap:Nat)(a':Option Addr)(cap':Nat)(D:Dyadic)(w:World)(hx:x<rows.length)(hy:y<rows.length)(hn:n<=8)(hrow:∀r∈rows,r.length=n)(hfit:∀r∈rows,∀c∈r,Fit B c)(hB:B<=10000000)
 (hD:eX rows n x y=D) (ha:At w a (rows[x].flatMap bo)) (ha':At w a' (rows[y].flatMap bo)) (hT:aF w):
 Calls Tryz.prog 89 #[.slice a rows[x].length cap,.slice a' rows[y].length cap'] w λe w'=>e=.returned (bC D)/\Bw w w':=by
 have h1:=hrow _ (List.getElem_mem hx);have h2:=hrow _ (List.getElem_mem hy);have e1:rows.getD x []=rows[x]:=by simp[hx]
 have e2:rows.getD y []=rows[y]:=by simp[hy]
 unfold eX at hD;rw[e1,e2]at hD;rw[h1,h2,<-hD];exact akT a n cap rows[x] a' cap' rows[y] B w h1 h2 hn ha ha' (hfit _ (List.getElem_mem hx)) (hfit _ (List.getElem_mem hy)) hB hT
theorem akR {rows:List (List Raw)}{n B:Nat}(hfit:∀r∈rows,∀c∈r,Fit B c)(x y:Nat):Sm (2*B+2+n) (eX rows n x y):=by
 have h:∀z,∀c∈(rows.getD z []).map az,Sm B c:=λz c hc=>by
  obtain⟨u,hu,rfl⟩:=List.mem_map.1 hc;by_cases hz:z<rows.length
  . have e:rows.getD z []=rows[z]:=by simp[hz]
    rw[e]at hu;exact(hfit _ (List.getElem_mem hz) u hu).2
  . have e:rows.getD z []=[]:=by simp[List.getD_eq_getElem?_getD,List.getElem?_eq_none (by omega:rows.length<=z)]
    rw[e]at hu;cases hu
 exact IK (h x) (h y) n
theorem ahN (a:Option Addr)(L cap n:Nat)(rows:List (List Raw))(B:Nat)(w:World)(hL:rows.length=L)(hL2:2<=L)(uS:L<=9)(hn:n<=8)(hrow:∀r∈rows,r.length=n)(ha:aR w a rows)
 (hfit:∀r∈rows,∀c∈r,Fit B c) (hB:B<=10000000) (hT:aF w):
 Calls Tryz.prog 47 #[.slice a L cap] w λe w'=>e=.returned (.agg (CE (gP (eX rows n) L)).toArray)/\Bw w w':=by
 obtain⟨sq,lM⟩:=aB (eX rows n);have hsm:∀x y,Sm (2*B+10) (sq x y):=λx y=>by rw[<-lM];exact(akR hfit x y).mono zo
 have hcall:∀x y (hx:x<rows.length) (hy:y<rows.length) (a1:Option Addr) (c1:Nat) (a2:Option Addr) (c2:Nat) (W:World),At W a1 (rows[x].flatMap bo)->At W a2 (rows[y].flatMap bo)->aF W->
  Calls Tryz.prog 89 #[.slice a1 rows[x].length c1,.slice a2 rows[y].length c2] W λe w'=>e=.returned (bC (sq x y))/\Bw W w':=λx y hx hy a1 c1 a2 c2 W h1 h2 h3=>
  akU rows n B x y a1 c1 a2 c2 (sq x y) W hx hy hn hrow hfit hB (by rw[<-lM]) h1 h2 h3
 obtain⟨F,hF⟩:=aB (gP (eX rows n) L);rw[hF];rw[lM]at hF;obtain⟨HL,Ha,tG,ll,HF,HT,ie⟩:=pR hL ha hsm hcall hF hT hT;clear hL ha hsm hcall hF hT hfit hrow lM;obtain⟨X,hX⟩:=aB (sq 0 1);have HX:=ah hX;clear hX;obtain⟨W,dc,Hb,Hr⟩:=iF w 83 [.int .i64 0,.int .i64 0,.bool false,.string ⟨#[]⟩,.int .i64 0];obtain⟨r0,ai,r1,aj,r2,aC,r3,cZ,r4,dz⟩:=Hr.out.g5;have HT:Hid (aF W):=HT.out.below Hb.out;have HS:Hid (aR W a rows):=Ha.out.below Hb.out;go_enter Tryz.func47,Tryz.ntmps47;have lr:=Hr.out.lt;obtain⟨b0,o0,a1,c1,dA,hc0,fH⟩:=HS.out.row 0 (by rw[HL.out];omega);obtain⟨dx,dU,a2,c2,bW,hc1,gL⟩:=HS.out.row 1 (by rw[HL.out];omega);obtain⟨rfl,rfl⟩:dx=b0/\dU=o0:=by rw[dA]at bW;simp at bW;exact⟨bW.1.symm,bW.2.symm⟩
 clear bW;have i0:=fE L cap 0 0 dA zo rfl;have i1:=fE L cap 1 1 dA zo rfl;rw[Nat.mul_one]at i0 i1;rw[Nat.add_zero]at i0 hc0;have jB:=ah dA;have lQ:dx<W.heap.size:=World.block_lt_of_cell? W _ hc0;have ud:=λW'=>ll.out 0 1 (by rw[HL.out];omega) (by rw[HL.out];omega) a1 c1 a2 c2 W';rw[HX.out]at ud;obtain⟨n0,hn0⟩:=aB ((rows[0]'(by rw[HL.out];omega)).length);obtain⟨n1,dL⟩:=aB ((rows[1]'(by rw[HL.out];omega)).length);rw[hn0]at hc0;rw[dL]at hc1;simp only[hn0,dL]at ud;obtain⟨wX,gh,iU⟩:=cL ud fH gL;have Hu:Hid (aV W dx dU [.slice a1 n0 c1]):=λj hj=>by
  obtain rfl:j=0:=by simp at hj;omega
  exact hc0
 have Hv:Hid (aV W dx (dU+1) [.slice a2 n1 c2]):=λj hj=>by
  obtain rfl:j=0:=by simp at hj;omega
  exact hc1
 clear ud fH gL dA hn0 dL hc0 hc1;go_upto_region 1 with fail
 go_cut[3] (λs3 wx=>∃g:Nat,s3=.pointer (some ⟨g,0,none⟩)/\W.heap.size<=g/\ak wx g 83 (CE (0,1,X))/\Bw W wx);case first=>
  have u0:=Hu.out.w1;have v0:=Hv.out.w1;have HT:Hid (aF W):=HT.out;refine IZ (λw'=>w'.cell? ⟨dx,dU,none⟩=some (.slice a1 n0 c1)/\w'.cell? ⟨dx,dU+1,none⟩=some (.slice a2 n1 c2)) (λi=>Nat.blt i 10) 7 9 [(8,true),(9,false),(10,false)] [(7,false),(8,true),(10,false)] [0,1,2,3,4,5,6] zk zk rfl rfl zk zc ⟨u0,v0⟩ ?_;iterate 7 (refine IE rfl rfl (v:=?_) (λw' hw'=>?_) ?_;rotate_left;(focus obtain⟨q0,q1⟩:=hw';go_simp;try with_reducible rfl);try simp only[UU])
  refine ID rfl rfl rfl rfl (λK hK=>?_) (λK hK=>?_)
  . go_simp;with_reducible refine(wX.out _ (by first|exact gh.out|exact At.drew gh.out) (by first|exact iU.out|exact At.drew iU.out) (by first|exact HT.out|exact aF.drew HT.out|exact aF.alloc HT.out _|exact aF.drew (aF.alloc HT.out _) |exact aF.alloc (aF.drew HT.out) _)).mono ?_
    rintro e w5 ⟨rfl,hq⟩;have bT:Bw W w5:=aM hq;refine hK _ _ ⟨cell_later bT u0,cell_later bT v0⟩ ?_;try simp only[UU]
    refine pT rfl rfl ?_;try simp only[UU]
    refine aI rfl rfl (λK hK=>?_);go_simp;refine hK _ _ (λ_=>⟨aG (cell_later bT u0),aG (cell_later bT v0)⟩) ?_;try simp only[UU]
    refine aI rfl rfl (λK hK=>?_);go_simp;refine hK _ _ (λh=>absurd h zd) ?_;simp only[aU];go_wp2_with fail;go_meet;exact⟨w5.heap.size,rfl,bT.size,ak.new _ _ _,bT.alloc bT.size _⟩
  . go_simp;refine hK _ _ ⟨aG u0,aG v0⟩ ?_;try simp only[UU]
    refine aI rfl rfl (λK hK=>?_);go_simp;with_reducible refine(wX.out (W.alloc (.cells #[.int .i64 0,.int .i64 0,.bool false,.string ⟨#[]⟩,.int .i64 0] 83)).drew (gh.out.alloc _).drew (iU.out.alloc _).drew (by first|exact HT.out|exact aF.drew HT.out|exact aF.alloc HT.out _|exact aF.drew (aF.alloc HT.out _) |exact aF.alloc (aF.drew HT.out) _)).mono ?_
    rintro e w5 ⟨rfl,hq⟩;have bT:Bw W w5:=pj hq;have Hn:ak w5 W.heap.size 83 [.int .i64 0,.int .i64 0,.bool false,.string ⟨#[]⟩,.int .i64 0]:=ak.below (ak.new W.drew 83 [.int .i64 0,.int .i64 0,.bool false,.string ⟨#[]⟩,.int .i64 0]) hq;have n0':=Hn.cell 0;have ye:=Hn.cell 1;have yf:=Hn.cell 2;have n3':=Hn.cell 3;have n4':=Hn.cell 4;have fN:=Hn.free 0;have fO:=Hn.free 1;have fP:=Hn.free 2;have gJ:=Hn.free 3;have gK:=Hn.free 4;refine hK _ _ (λ_=>⟨cell_later bT u0,cell_later bT v0⟩) ?_;try simp only[UU]
    refine pT rfl rfl ?_;try simp only[UU]
    refine aI rfl rfl (λK hK=>?_);go_simp;refine hK _ _ (λh=>absurd h zd) ?_;simp only[aU];go_wp2_with fail;go_meet;exact⟨W.heap.size,rfl,Nat.le_refl _,((((Hn.set 0 _).set 1 _).set 2 _).set 3 _).set 4 _,((((bT.sc W.heap.size 0 (Nat.le_refl _) _).sc W.heap.size 1 (Nat.le_refl _) _).sc W.heap.size 2 (Nat.le_refl _) _).sc W.heap.size 3 (Nat.le_refl _) _).sc W.heap.size 4 (Nat.le_refl _) _⟩
 case rest=>
  obtain⟨g,rfl,hg,qd,qb⟩:=hcut;have Hd:=ah qd;replace Hr:=ah (Hr.out.below qb);replace Hb:=ah (aJ Hb.out qb);have lg:=Hd.out.lt;have lr2:=Hr.out.lt;have szW:=qb.size;clear qd qb r0 r1 r2 r3 r4 ai aj aC cZ dz i0 i1 wX gh iU Hu Hv jB HS HT;have Qu:Hid (Sm (2*B+10) X):=by rw[<-HX.out];exact tG.out 0 1
  have Qe:Hid (nK sq L (L-0) 0 (0,1,X)=F):=by rw[<-HX.out];exact HF.out
  go_wp2_with fail;go_loopw[18] (λx wr=>∃(k:Nat) (s:Nat×Nat×Dyadic),k<=L/\x=.int .i64 (k:Int)/\nK sq L (L-k) k s=F/\Sm (2*B+10) s.2.2/\ak wr w.heap.size 83 [.int .i64 0,.int .i64 0,.bool false,.string ⟨#[]⟩,.int .i64 0]/\ak wr g 83 (CE s)/\Bw w wr) (λx _=>L-(intOf x).toNat);case atStart=>exact⟨0,(0,1,X),Nat.zero_le _,rfl,Qe.out,Qu.out,Hr.out,Hd.out,Hb.out⟩
  case round=>
   clear Hr Hd Hb Qe Qu;obtain⟨k,s,hk,rfl,hF,hs,pr,pd,pb⟩:=hrel;by_cases hlt:k<L
   . obtain⟨Hr,Hd,Hb,Hs⟩:=dW pr pd pb hs;have AY:Hid (nK sq L (L-(k+1)) (k+1) (su sq k (L-(k+1)) (k+1) s)=F):=by rw[show L-k=L-(k+1)+1 by omega]at hF;exact hF
     clear pr pd pb hs hF;go_wp2_with fail;go_loopw[5] (λx wr=>∃(b:Nat) (s:Nat×Nat×Dyadic),b<=L/\k<b/\x=.int .i64 (b:Int)/\nK sq L (L-(k+1)) (k+1) (su sq k (L-b) b s)=F/\Sm (2*B+10) s.2.2/\ak wr w.heap.size 83 [.int .i64 0,.int .i64 0,.bool false,.string ⟨#[]⟩,.int .i64 0]/\ak wr g 83 (CE s)/\Bw w wr) (λx _=>L-(intOf x).toNat);case atStart=>exact⟨k+1,s,by omega,by omega,by go_num,AY.out,Hs.out,Hr.out,Hd.out,Hb.out⟩
     case round=>
      clear Hr Hd Hb AY Hs;obtain⟨b,s,hb1,hb2,rfl,hF,hs,pr,pd,pb⟩:=hrel;obtain⟨Hr,Hd,Hb,Hs,AX⟩:=fg pr pd pb hs hF;clear pr pd pb hs hF;by_cases bj:b<L
      . obtain⟨b0,o0,a1,c1,dA,hc0,fH⟩:=(Ha.out.below Hb.out).row k (by rw[HL.out];omega);obtain⟨dx,dU,a2,c2,bW,hc1,gL⟩:=(Ha.out.below Hb.out).row b (by rw[HL.out];omega);obtain⟨rfl,rfl⟩:dx=b0/\dU=o0:=by rw[dA]at bW;simp at bW;exact⟨bW.1.symm,bW.2.symm⟩
        clear bW;have i0:=fE L cap k (k:Int) dA hlt rfl;have i1:=fE L cap b (b:Int) dA bj rfl;rw[Nat.mul_one]at i0 i1;have ud:=λW'=>ll.out k b (by rw[HL.out];omega) (by rw[HL.out];omega) a1 c1 a2 c2 W';obtain⟨Y,hY⟩:=aB (sq k b);have rS:=tG.out k b;rw[hY]at ud rS;obtain⟨n0,hn0⟩:=aB ((rows[k]'(by rw[HL.out];omega)).length);obtain⟨n1,dL⟩:=aB ((rows[b]'(by rw[HL.out];omega)).length);rw[hn0]at hc0;rw[dL]at hc1;simp only[hn0,dL]at ud;obtain⟨wX,gh,iU,HY,yF,HT⟩:=gN ud fH gL hY rS (ie.out.below Hb.out);have Hu:Hid (aV wr dx (dU+k) [.slice a1 n0 c1]):=λj hj=>by
         obtain rfl:j=0:=by simp at hj;omega
         exact hc0
        have Hv:Hid (aV wr dx (dU+b) [.slice a2 n1 c2]):=λj hj=>by
         obtain rfl:j=0:=by simp at hj;omega
         exact hc1
        clear ud fH gL dA hn0 dL hc0 hc1 hY rS;have ls1:=Hr.out.lt;have NN:=Hd.out.lt;go_upto_region 8 with fail
        go_cut[6] (λs6 wx=>∃g':Nat,s6=.pointer (some ⟨g',0,none⟩)/\wr.heap.size<=g'/\ak wx g' 30 [.bool (ar (dN Y)),.string (bs (nt (dN Y).natAbs)),.int .i64 (dE Y)]/\Bw wr wx);case first=>
         have u0:=Hu.out.w1;have v0:=Hv.out.w1;refine IZ (λw'=>w'.cell? ⟨dx,dU+k,none⟩=some (.slice a1 n0 c1)/\w'.cell? ⟨dx,dU+b,none⟩=some (.slice a2 n1 c2)) (λi=>Nat.blt i 10) 8 9 [(9,false),(10,false)] [(8,false),(10,false)] [0,1,2,3,4,5,6,7] zk zk rfl rfl zk zc ⟨u0,v0⟩ ?_;iterate 8 (refine IE rfl rfl (v:=?_) (λw' hw'=>?_) ?_;rotate_left;(focus obtain⟨q0,q1⟩:=hw';go_simp;try with_reducible rfl);try simp only[UU])
         refine ID rfl rfl rfl rfl (λK hK=>?_) (λK hK=>?_)
         . go_simp;with_reducible refine(wX.out _ (by first|exact gh.out|exact At.drew gh.out) (by first|exact iU.out|exact At.drew iU.out) (by first|exact HT.out|exact aF.drew HT.out|exact aF.alloc HT.out _|exact aF.drew (aF.alloc HT.out _) |exact aF.alloc (aF.drew HT.out) _)).mono ?_
           rintro e w5 ⟨rfl,hq⟩;have bT:Bw wr w5:=aM hq;refine hK _ _ ⟨cell_later bT u0,cell_later bT v0⟩ ?_;try simp only[UU]
           refine aI rfl rfl (λK hK=>?_);go_simp;refine hK _ _ (λ_=>⟨aG (cell_later bT u0),aG (cell_later bT v0)⟩) ?_;try simp only[UU]
           refine aI rfl rfl (λK hK=>?_);go_simp;refine hK _ _ (λh=>absurd h zd) ?_;simp only[aU];go_wp2_with fail;go_meet;exact⟨w5.heap.size,rfl,bT.size,ak.new _ _ _,bT.alloc bT.size _⟩
         . go_simp;refine hK _ _ ⟨aG u0,aG v0⟩ ?_;try simp only[UU]
           refine aI rfl rfl (λK hK=>?_);go_simp;with_reducible refine(wX.out (wr.alloc (.cells #[.bool false,.string ⟨#[]⟩,.int .i64 0] 30)).drew (gh.out.alloc _).drew (iU.out.alloc _).drew (by first|exact HT.out|exact aF.drew HT.out|exact aF.alloc HT.out _|exact aF.drew (aF.alloc HT.out _) |exact aF.alloc (aF.drew HT.out) _)).mono ?_
           rintro e w5 ⟨rfl,hq⟩;have bT:Bw wr w5:=pj hq;have Hn:ak w5 wr.heap.size 30 [.bool false,.string ⟨#[]⟩,.int .i64 0]:=ak.below (ak.new wr.drew 30 [.bool false,.string ⟨#[]⟩,.int .i64 0]) hq;obtain⟨n0',fN,ye,fO,yf,fP⟩:=Hn.g3;refine hK _ _ (λ_=>⟨cell_later bT u0,cell_later bT v0⟩) ?_;try simp only[UU]
           refine aI rfl rfl (λK hK=>?_);go_simp;refine hK _ _ (λh=>absurd h zd) ?_;simp only[aU];go_wp2_with fail;go_meet;exact⟨wr.heap.size,rfl,Nat.le_refl _,((Hn.set 0 _).set 1 _).set 2 _,((bT.sc wr.heap.size 0 (Nat.le_refl _) _).sc wr.heap.size 1 (Nat.le_refl _) _).sc wr.heap.size 2 (Nat.le_refl _) _⟩
        case rest=>
         obtain⟨g',rfl,hg',qn,qb⟩:=hcut;have Hn:=ah qn;replace Hr:=ah (Hr.out.below qb);replace Hd:=ah (Hd.out.below qb);replace Hb:=ah (aJ Hb.out qb);have wB:=ah (HT.out.below qb);clear qn qb Hu Hv gh iU wX HT i0 i1;obtain⟨si,sj,sx⟩:=s;have HfY:Hid (Ok (ar (dN Y),nt (dN Y).natAbs,dE Y)):=(yF.out.fit zo).1;have BB:Hid (Ok (ar (dN sx),nt (dN sx).natAbs,dE sx)):=(Hs.out.fit zo).1;obtain⟨c,hc⟩:=aB (cw (Y-sx));have HC:Hid (cw (az (ar (dN Y),nt (dN Y).natAbs,dE Y)-az (ar (dN sx),nt (dN sx).natAbs,dE sx))=c):=by
          show cw (az (canon Y)-az (canon sx))=c
          rw[bU,bU];exact hc
         have AZ:Hid (nK sq L (L-(k+1)) (k+1) (su sq k (L-(b+1)) (b+1) (vI sq k b (si,sj,sx)))=F):=by have h:=AX.out;rw[show L-b=L-(b+1)+1 by omega]at h;exact h
         have hstep:vI sq k b (si,sj,sx)=if 0<c then(k,b,Y)else(si,sj,sx):=by
          unfold vI;rw[HY.out];show(if 0<cw (Y-sx)then _ else _)=_
          rw[hc]
         have fU:=ah hstep;clear hc hstep;obtain⟨d0,fu,d1,fw,d2,fx,d3,Tj,d4,Tk⟩:=Hd.out.g5;obtain⟨n0,n1,n2⟩:=Hn.out.c3;obtain⟨r0,r1,r2,r3,r4⟩:=Hr.out.c5;go_wp2_with fail;refine(aei _ _ _ _ _ _ c HC.out _ HfY.out BB.out wB.out).mono ?_;rintro e w7 ⟨rfl,ae⟩;clear d0 fu d1 fw d2 fx d3 Tj d4 Tk n0 n1 n2 r0 r1 r2 r3 r4;replace Hd:=kB Hd ae;replace Hn:=kB Hn ae;replace Hr:=kB Hr ae;obtain⟨d0,fu,d1,fw,d2,fx,d3,Tj,d4,Tk⟩:=Hd.out.g5;obtain⟨n0,n1,n2⟩:=Hn.out.c3;obtain⟨r0,r1,r2,r3,r4⟩:=Hr.out.c5;replace Hb:=au Hb ae;clear ae;by_cases hc0:0<c
         . go_wp2;go_roundw;case rel=>
            refine⟨b+1,(k,b,Y),by omega,by omega,by go_num,?_,yF.out,?_,?_,?_⟩
            . have h:=AZ.out;rw[fU.out,if_pos hc0]at h;exact h
            . exact((((Hr.out.so g 0 zo _).so g 1 zo _).so g 2 zo _).so g 3 zo _).so g 4 zo _
            . exact((((Hd.out.set 0 _).set 1 _).set 2 _).set 3 _).set 4 _
            . exact((((Hb.out.sc g 0 zo _).sc g 1 zo _).sc g 2 zo _).sc g 3 zo _).sc g 4 zo _
           case measure=>simp[intOf];omega
         . go_wp2;go_roundw;case rel=>refine⟨b+1,(si,sj,sx),by omega,by omega,by go_num,?_,Hs.out,Hr.out,Hd.out,Hb.out⟩;have h:=AZ.out;rw[fU.out,if_neg zo]at h;exact h
           case measure=>simp[intOf];omega
      . obtain rfl:b=L:=by omega
        go_wp2;go_roundw;case rel=>refine⟨k+1,s,by omega,by go_num,?_,Hs.out,Hr.out,Hd.out,Hb.out⟩;have h:=AX.out;rw[Nat.sub_self]at h;exact h
        case measure=>simp[intOf];omega
   . obtain rfl:k=L:=by omega
     rw[Nat.sub_self]at hF;have Zq:Hid (s=F):=hF;obtain⟨si,sj,sx⟩:=s;obtain⟨Hr,Hd,Hb⟩:=cL pr pd pb;clear pr pd pb hF hs;obtain⟨d0,d1,d2,d3,d4⟩:=Hd.out.c5;obtain⟨r0,ai,r1,aj,r2,aC,r3,cZ,r4,dz⟩:=Hr.out.g5;go_wp2;clear d0 d1 d2 d3 d4 r0 ai r1 aj r2 aC r3 cZ r4 dz;refine fF (bz wr (w.heap.size) 0 [.int .i64 (si:Int),.int .i64 (sj:Int),.bool (ar (dN sx)),.string (bs (nt (dN sx).natAbs)),.int .i64 (dE sx)]) bF ?_;intro w9 hs;replace Hd:=kS Hd hs zo;replace Hr:=bX Hr hs;obtain⟨d0,d1,d2,d3,d4⟩:=Hd.out.c5;obtain⟨r0,ai,r1,aj,r2,aC,r3,cZ,r4,dz⟩:=Hr.out.g5;replace Hb:=bS Hb hs ZS;clear hs;refine bodyPost_ret (v:=.agg (CE (si,sj,sx)).toArray) (by simp[results,Tryz.results47,go_sem,r0,r1,r2,r3,r4]) rfl ⟨by rw[<-Zq.out],Hb.out⟩
theorem Tryz.apo :(Tryz.prog.info? 46).map (λi=>(i.zero,i.size,i.bytes))=some (some (.slice none 0 0),1,24):=by kernel_rfl
def gX (r:List Raw):List Raw:=r.map λx=>canon (az x)
theorem Ga (r:List Raw):(gX r).length=r.length:=by simp[gX]
theorem Tp (r:List Raw):(gX r).flatMap bo=dC (r.map az):=by rw[qC,List.map_map];rfl
def Own2 (e:TypeId)(w:World)(base:Nat)(R:List (List Dyadic))(k:Nat)(v:Value):Prop:=
 ∃vals:List Value,vals.length=k/\w.ownsRow base e 1 v k vals/\∀i (h:i<vals.length),∃a c,vals[i]=.slice a (R.getD i []).length c/\At w a (dC (R.getD i []))/\∀b o,a=some ⟨b,o,none⟩->some b≠v.ownBlock/\b<w.heap.size
theorem Own2.nil (e:TypeId)(w:World)(base:Nat)(R:List (List Dyadic)):Own2 e w base R 0 (.slice none 0 0):=
 ⟨[],rfl,World.ownsRow_nil _ _ _ _,λ_ h=>absurd h (Nat.not_lt_zero _)⟩
theorem Own2.below {e:TypeId}{w w':World}{base k:Nat}{R:List (List Dyadic)}{v:Value}(h:Own2 e w base R k v)(hb:Bw w w'):Own2 e w' base R k v:=by obtain⟨vals,hl,ho,hi⟩:=h;refine⟨vals,hl,ownsRow_below ho hb,λi h=>?_⟩;obtain⟨a,c,h1,h2,h3⟩:=hi i h;exact⟨a,c,h1,h2.below hb,λb o e=>⟨(h3 b o e).1,Nat.lt_of_lt_of_le (h3 b o e).2 hb.size⟩⟩
theorem Own2.push {e:TypeId}{w w':World}{base k:Nat}{R:List (List Dyadic)}{v v':Value}{vals:List Value}(hl:vals.length=k)(hi:∀i (h:i<vals.length),∃a c,vals[i]=.slice a (R.getD i []).length c/\At w a (dC (R.getD i []))/\∀b o,a=some ⟨b,o,none⟩->some b≠v.ownBlock/\b<w.heap.size)
 {a:Option Addr} {c:Nat} (ha:At w a (dC (R.getD k []))) (hab:∀b o,a=some ⟨b,o,none⟩->some b≠v.ownBlock/\b<w.heap.size)
 (ho:w'.ownsRow base e 1 v' (k+1) (vals++[.slice a (R.getD k []).length c])) (hg:w.grownBy w' v.ownBlock) (fy:v'.ownBlock=v.ownBlock\/v'.ownBlock=some w.heap.size):Own2 e w' base R (k+1) v':=by
 have hne:∀b,some b≠v.ownBlock->b<w.heap.size->some b≠v'.ownBlock:=by
  intro b h1 h2;rcases fy with h|h
  . rw[h];exact h1
  . rw[h];intro h3;simp at h3;omega
 refine⟨_,by simp[hl],ho,λi h=>?_⟩;by_cases hk:i<vals.length
 . obtain⟨a1,c1,h1,h2,h3⟩:=hi i hk;refine⟨a1,c1,by rw[List.getElem_append_left hk];exact h1,h2.grown hg (λb o e=>(h3 b o e).1),λb o e=>⟨hne b (h3 b o e).1 (h3 b o e).2,Nat.lt_of_lt_of_le (h3 b o e).2 hg.size⟩⟩
 . have hik:i=k:=by simp at h;omega
   subst hik;refine⟨a,c,?_,ha.grown hg (λb o e=>(hab b o e).1),λb o e=>⟨hne b (hab b o e).1 (hab b o e).2,Nat.lt_of_lt_of_le (hab b o e).2 hg.size⟩⟩;rw[List.getElem_append_right zo];simp[hl]
theorem Ar {W:World}{base:Nat}{e:TypeId}{size:Nat}{a:Option Addr}{n c:Nat}{xs:List Value}(h:W.ownsRow base e size (.slice a n c) n xs):n<=c:=by
 rcases h.2 with⟨h1,h2⟩ |⟨g,cap,cur,h1,_,_,h2,_⟩
 . omega
 . simp at h1;omega
theorem Own2.tbl {e:TypeId}{w:World}{base k:Nat}{R:List (List Raw)}{v:Value}(h:Own2 e w base (R.map λr=>r.map az) k v)(hk:R.length=k):∃a c,v=.slice a k c/\k<=c/\aR w a (R.map gX):=by
 obtain⟨vals,hl,ho,hi⟩:=h;obtain⟨a,c,hv,hat,_⟩:=di ho;subst hv;refine⟨a,c,rfl,Ar ho,vals,by simp[hl,hk],hat,λi h1 h2=>?_⟩;obtain⟨a1,c1,e1,e2,_⟩:=hi i h2;have hi1:i<R.length:=by simpa using h1
 have eg:(R.map λr=>r.map az).getD i []=R[i].map az:=by simp[hi1]
 rw[eg]at e1 e2;refine⟨a1,c1,?_,?_⟩
 . rw[e1];simp[Ga]
 . rw[List.getElem_map,Tp];exact e2
theorem alS (a:Option Addr)(L cap:Nat)(rows:List (List Raw))(k0:Nat)(pa:Option Addr)(pn ji:Nat)(Pp:List Raw)(w:World)(hL:rows.length=L)(uS:L<=9)(hP:Pp.length=pn)(zK:pn<=8)(hrow:∀r∈rows,r.length<=8)(ha:aR w a rows)(hp:At w pa (Pp.flatMap bo))
 (hok:∀r∈rows,∀x∈r,Ok x) (pF:∀x∈Pp,Ok x) (hT:aF w) (at9:Int) (nk:∀k:Nat,k<L->((k:Int)=at9↔k=k0)):
 Calls Tryz.prog 48 #[.slice a L cap,.int .i64 at9,.slice pa pn ji] w λe w'=>∃a' cap',e=.returned (.slice a' L cap')/\L<=cap'/\aR w' a' ((rows.set k0 Pp).map gX)/\Bw w w':=by
 obtain⟨i0,hi,hz0,hz1,hz2⟩:=info_parts Tryz.apl;obtain⟨j0,hj,hy0,hy1,hy2⟩:=info_parts Tryz.apo;obtain⟨R,hR⟩:=aB (rows.set k0 Pp);obtain⟨S,hS⟩:=aB (R.map λr=>r.map az);have uU:R.length=L:=by rw[<-hR];simp[hL]
 have uT:∀r∈R,r.length<=8:=by
  intro r hr;rw[<-hR]at hr;rcases List.mem_or_eq_of_mem_set hr with h|h
  . exact hrow r h
  . rw[h];omega
 have uV:∀r∈R,∀x∈r,Ok x:=by
  intro r hr;rw[<-hR]at hr;rcases List.mem_or_eq_of_mem_set hr with h|h
  . exact hok r h
  . rw[h];exact pF
 have kj:∀(W:World) (k:Nat) (hk:k<L),Bw w W->∃b o a1 c1 n1 aq cq,∃(hk2:k<R.length),a=some ⟨b,o,none⟩/\W.cell? ⟨b,o+k,none⟩=some (.slice a1 n1 c1)/\At W aq (R[k].flatMap bo)/\((k=k0/\aq=pa/\R[k].length=pn/\cq=ji)\/(k≠k0/\aq=a1/\R[k].length=n1/\cq=c1)):=by
  intro W k hk hb;obtain⟨b,o,a1,c1,h1,h2,h3⟩:=(ha.below hb).row k zo;by_cases hkk:k=k0
  . refine⟨b,o,a1,c1,_,pa,ji,by omega,h1,h2,?_,.inl ⟨hkk,rfl,?_,rfl⟩⟩
    . have:R[k]'zo=Pp:=by simp only[<-hR,hkk,List.getElem_set_self]
      rw[this];exact hp.below hb
    . have:R[k]'zo=Pp:=by simp only[<-hR,hkk,List.getElem_set_self]
      rw[this];exact hP
  . have:R[k]'zo=rows[k]'zo:=by simp only[<-hR];exact List.getElem_set_ne (λh=>hkk h.symm) _
    refine⟨b,o,a1,c1,_,a1,c1,by omega,h1,h2,?_,.inr ⟨hkk,rfl,by rw[this],rfl⟩⟩;rw[this];exact h3
 rw[hR];obtain⟨Hi,cG,cH,cE,Hj,gV,iL,iM,HS,EO,Be,Bf⟩:=fR hi hz0 hz1 hz2 hj hy0 hy1 hy2 hS uU uT uV;obtain⟨rG,HT,uC⟩:=cL kj hT nk;clear hi hz0 hz1 hz2 hj hy0 hy1 hy2 hR hS uU uT uV kj ha hp hT hL hP hrow hok pF nk;go_enter Tryz.func48,Tryz.ntmps48;have Hb:Hid (Bw w w):=Below.refl _ _;go_wp2_with fail;go_loopw[7,15] (λs7 x wr=>∃(k:Nat) (v:Value),k<=L/\x=.int .i64 (k:Int)/\v=s7/\Own2 46 wr w.heap.size S k v/\Bw w wr) (λ_ x _=>L-(intOf x).toNat);case atStart=>exact⟨0,_,Nat.zero_le _,rfl,rfl,Own2.nil _ _ _ _,Hb.out⟩
 case round=>
  clear Hb;obtain⟨k,v,hk,rfl,rfl,pv,pb⟩:=hrel;by_cases hlt:k<L
  . obtain⟨b1,o1,a1,c1,n1,aq,cq,hk2,hab,hc1,hat,kg⟩:=rG.out wr k hlt pb;have iB:=fE L cap k (k:Int) hab hlt rfl;rw[Nat.mul_one]at iB;obtain⟨Q,hQ⟩:=aB (R[k]);rw[hQ]at hat kg;have qK:=Be.out _ (List.getElem_mem hk2);have qN:=Bf.out _ (List.getElem_mem hk2);rw[hQ]at qK qN;obtain⟨Z,hZ⟩:=aB (Q.map az);have ij:S.getD k []=Z:=by rw[<-HS.out,<-hZ,<-hQ];simp[hk2]
    have CR:Q.length<=8:=qK;obtain⟨n,hn⟩:=aB Q.length;rw[hn]at CR kg;obtain⟨fc,Bd,HZ,jR,wQ,Hn,aO,cK⟩:=nJ hat qN hZ ij kg hn pb pv;clear hat qN hZ ij kg hn pb pv hQ hab qK;have gB:=aO.out.size;go_upto_if 22 with fail
    go_cut[9] (λs9 wx=>s9=.slice aq n cq/\wx=wr);case first=>
     rcases wQ.out with⟨rfl,rfl,rfl,rfl⟩ |⟨h1,rfl,rfl,rfl⟩
     . obtain rfl:=(uC.out k hlt).2 rfl;go_wp2_with fail;go_meet;exact⟨rfl,rfl⟩
     . have h3:¬(k:Int)=at9:=λh=>h1 ((uC.out k hlt).1 h);have h2:((k:Int)==at9)=false:=by simpa using h3
       go_wp2_with fail;go_meet;exact⟨rfl,rfl⟩
    case rest=>
     obtain⟨rfl,rfl⟩:=hcut;clear iB hc1;go_wp2_with fail;go_loopw[10,26] (λum x wr=>∃(j:Nat) (v2:Value),j<=n/\x=.int .i64 (j:Int)/\v2=um/\wr.ownsRow wc.heap.size 30 3 v2 j (dC (Z.take j))/\Bw wc wr) (λ_ x _=>n-(intOf x).toNat);case atStart=>exact⟨0,_,Nat.zero_le _,rfl,rfl,World.ownsRow_nil _ _ _ _,Below.refl _ _⟩
     case round=>
      obtain⟨j,v2,hj,rfl,rfl,ho,hb2⟩:=hrel;by_cases bj:j<n
      . have h1:j<Q.length:=by rw[Hn.out];exact bj
        obtain⟨s,m,e,hx⟩:=iA (Q[j]);have hok:=Bd.out _ (List.getElem_mem h1);rw[hx]at hok;obtain⟨X,hX⟩:=aB (az (s,m,e));have cd:Hid (dC (Z.take (j+1))=dC (Z.take j)++[.bool (ar (dN X)),.string (bs (nt (dN X).natAbs)),.int .i64 (dE X)]):=by
         show _=_
         rw[<-HZ.out,List.take_succ_eq_append_getElem (by simpa using h1),qA];congr 1;simp only[List.getElem_map,hx,hX];rfl
        obtain⟨b2,o2,dm,p0,p1,p2⟩:=(fc.out.below hb2).num j h1 hx;have kN:=iZ n cq j (j:Int) dm bj rfl;obtain⟨HX,wA,Ho,bP,wB⟩:=fg hX hok ho hb2 ((HT.out.below aO.out).below hb2);have oM:=hb2.size;have Hp:Hid (aV wr b2 (o2+j*3) [.bool s,.string (bs m),.int .i64 e]):=fS p0 p1 p2;clear hX hok ho hb2 hx dm p0 p1 p2;have Hb:Hid (Bw wr wr):=Below.refl _ _;obtain⟨p0,p1,p2⟩:=Hp.out.w3;have P0:=p0;have P1:=p1;have P2:=p2;obtain⟨W4,mF,ae,Hc⟩:=cN wr 30 [.bool s,.string (bs m),.int .i64 e];clear p0 p1 p2;replace Hp:=kW Hp ae;obtain⟨p0,p1,p2⟩:=Hp.out.w3;obtain⟨c0,c1,c2⟩:=Hc.out.c3;replace Hb:=au Hb ae;clear ae;have HT:Hid (aF W4):=wB.out.below Hb.out;go_wp2_with fail;refine(pp s m e X HX.out _ wA.out HT.out).mono ?_;rintro e w5 ⟨rfl,ae⟩;clear p0 p1 p2 c0 c1 c2;replace Hp:=kW Hp ae;replace Hc:=kB Hc ae;replace HT:=kT HT ae;obtain⟨p0,p1,p2⟩:=Hp.out.w3;obtain⟨c0,c1,c2⟩:=Hc.out.c3;replace Hb:=au Hb ae;clear ae;have Xd:=Hc.out.lt;obtain⟨W6,ot,ae,Hd⟩:=cN w5 30 [.bool (ar (dN X)),.string (bs (nt (dN X).natAbs)),.int .i64 (dE X)];clear p0 p1 p2;replace Hp:=kW Hp ae;clear c0 c1 c2;replace Hc:=kB Hc ae;replace HT:=kT HT ae;obtain⟨p0,p1,p2⟩:=Hp.out.w3;obtain⟨c0,c1,c2⟩:=Hc.out.c3;obtain⟨d0,d1,d2⟩:=Hd.out.c3;replace Hb:=au Hb ae;clear ae;have cm:=ownsRow_below Ho.out Hb.out;have ia:=Hb.out.size;have hnews:=fM Hd.out;clear d0 d1 d2;go_wp2_with (at_builtin;refine wpList_append_own_at _ rfl _ _ 46 rfl wc.heap.size 30 i0 _ 3 32 Tryz.underlying46 Hi.out cG.out cH.out cE.out rfl zd v2 j (dC (Z.take j)) rfl cm ⟨w5.heap.size,0,none⟩ 1 1 [.bool (ar (dN X)),.string (bs (nt (dN X).natAbs)),.int .i64 (dE X)] rfl rfl hnews zy zx zo zo ?_;intro v' w7 dt eD _ _;obtain⟨g',lF,rfl⟩:=ownsRow_succ dt);go_roundw;case rel=>
         refine⟨j+1,_,by omega,by go_num,rfl,?_,?_⟩
         . rw[cd.out];exact dt
         . exact(aJ bP.out Hb.out).grown eD zo (λj e=>cJ cm j e)
        case measure=>simp[intOf];omega
      . obtain rfl:j=n:=by omega
        have fW:Z.take j=Z:=List.take_of_length_le (by rw[<-HZ.out];simp[Hn.out]);rw[fW]at ho;obtain⟨a2,cap2,rfl,kK,dm⟩:=di ho;have gw:=ho.lt;obtain⟨vals,hvl,hov,iD⟩:=cK.out.below hb2;have Hb:Hid (Bw wr wr):=Below.refl _ _;obtain⟨_,_,nz,_⟩:=cK.out;have hvs:=nz.lt;have hin:∀b o,a2=some ⟨b,o,none⟩->some b≠v.ownBlock/\b<wr.heap.size:=by intro b o e;subst e;have h1:=gw b rfl;refine⟨λh2=>?_,h1.2⟩;have h3:=hvs b h2.symm;omega
        obtain⟨mW,sY,iK,nX,cM,bP⟩:=gN hin kK hvl iD hov hb2;have oM:=hb2.size;clear hin kK hvl iD hov nz hvs hb2 dm gw fW ho bj hj;obtain⟨W6,ot,ae,Hd⟩:=cN wr 46 [.slice a2 j cap2];have d0:=Hd.out.c1;replace Hb:=au Hb ae;clear ae;have cm:=ownsRow_below cM.out Hb.out;have ia:=Hb.out.size;have hnews:∀i u,([.slice a2 j cap2]:List Value)[i]?=some u->W6.cell? ((⟨wr.heap.size,0,none⟩:Addr).add i)=some u:=fM Hd.out;clear d0;go_wp2_with (at_builtin;refine wpList_append_own_at _ rfl _ _ 23 rfl w.heap.size 46 j0 _ 1 24 Tryz.underlying23 Hj.out gV.out iL.out iM.out rfl zd v k vals rfl cm ⟨wr.heap.size,0,none⟩ 1 1 [.slice a2 j cap2] rfl rfl hnews zy zx zo zo ?_;intro v' w7 dt eD _ fy;obtain⟨g',lF,rfl⟩:=ownsRow_succ dt);go_roundw;case rel=>
         refine⟨k+1,_,by omega,by go_num,rfl,?_,?_⟩
         . refine Own2.push (a:=a2) (c:=cap2) iK.out (w:=W6) ?_ ?_ ?_ ?_ eD fy
           . intro i h;obtain⟨a,c,h1,h2,h3⟩:=nX.out i h;exact⟨a,c,h1,h2.below Hb.out,λb o e=>⟨(h3 b o e).1,Nat.lt_of_lt_of_le (h3 b o e).2 ia⟩⟩
           . rw[jR.out];exact sY.out.below Hb.out
           . exact λb o e=>⟨(mW.out b o e).1,Nat.lt_of_lt_of_le (mW.out b o e).2 ia⟩
           . rw[jR.out,<-HZ.out,List.length_map,Hn.out];exact dt
         . exact(aJ (aJ aO.out bP.out) Hb.out).grown eD zo (λj e=>cJ cm j e)
        case measure=>simp[intOf];omega
  . obtain rfl:k=L:=by omega
    have hlen:R.length=k:=EO.out;rw[<-HS.out]at pv;obtain⟨a2,c2,rfl,hcl,iR⟩:=Own2.tbl pv hlen;obtain⟨mY,aO⟩:=aL iR pb;clear pv pb iR hlen;go_wp2;refine bodyPost_ret (results_tmp rfl _ _ _) rfl ⟨a2,c2,rfl,hcl,mY.out,aO.out⟩
theorem alT (a:Option Addr)(L cap:Nat)(rows:List (List Raw))(k0:Nat)(pa:Option Addr)(pn ji:Nat)(Pp:List Raw)(w:World)(hL:rows.length=L)(uS:L<=9)(hP:Pp.length=pn)(zK:pn<=8)(hrow:∀r∈rows,r.length<=8)(ha:aR w a rows)(hp:At w pa (Pp.flatMap bo))
 (hok:∀r∈rows,∀x∈r,Ok x) (pF:∀x∈Pp,Ok x) (hT:aF w):
 Calls Tryz.prog 48 #[.slice a L cap,.int .i64 (k0:Int),.slice pa pn ji] w λe w'=>∃a' cap',e=.returned (.slice a' L cap')/\L<=cap'/\aR w' a' ((rows.set k0 Pp).map gX)/\Bw w w':=
 alS a L cap rows k0 pa pn ji Pp w hL uS hP zK hrow ha hp hok pF hT _ (λk _=>by omega)
theorem Ij (a:Option Addr)(L cap n:Nat)(rows:List (List Raw))(B:Nat)(w:World)(hL:rows.length=L)(hv:fB rows=n)(hn:1<=n)(ha:aR w a rows)
 (hfit:∀r∈rows,∀c∈r,Fit B c) (hB:B<=10000000) (hT:aF w):
 Calls Tryz.prog 13 #[.slice a L cap] w λe w'=>e=.returned (.tuple #[.int .i64 ((gP (eX rows n) L).1:Int),.int .i64 ((gP (eX rows n) L).2.1:Int),bC (gP (eX rows n) L).2.2,.int .i64 0])/\Bw w w':=by
 obtain⟨c1,c2,c3,c4⟩:=yz hv zo;have hvars:=λW=>λ(h:aR W a rows)=>AL a L cap rows W hL zo h;have kQ:=λW=>λ(h:aR W a rows) (hT:aF W)=>ahN a L cap n rows B W hL zo zo zo (λr hr=>by have:=c4 r hr;omega) h hfit hB hT;rw[hv]at hvars;obtain⟨⟨i,j,X⟩,hF⟩:∃F,gP (eX rows n) L=F:=⟨_,rfl⟩;simp only[hF]at kQ;rw[hF];obtain⟨KD,tA,Ha,HT⟩:=dW hvars kQ ha hT;have h0:((n:Int)==0)=false:=by simp;omega
 have h0':¬(n:Int)=0:=by omega
 clear hvars kQ ha hT hF hfit hv c1 c2 c3 c4 hL;obtain⟨W,dc,Hb,Hr⟩:=iF w 30 [.bool false,.string ⟨#[]⟩,.int .i64 0];obtain⟨r0,ai,r1,aj,r2,aC⟩:=Hr.out.g3;go_enter Tryz.func13,Tryz.ntmps13;go_wp2_with fail;refine(KD.out _ (Ha.out.below Hb.out)).mono ?_;rintro e w1 ⟨rfl,ae⟩;clear r0 ai r1 aj r2 aC;replace Hr:=kB Hr ae;obtain⟨r0,ai,r1,aj,r2,aC⟩:=Hr.out.g3;replace Hb:=au Hb ae;clear ae;go_wp2_with fail;refine(tA.out _ (Ha.out.below Hb.out) (HT.out.below Hb.out)).mono ?_;rintro e w2 ⟨rfl,ae⟩;clear r0 ai r1 aj r2 aC;replace Hr:=kB Hr ae;obtain⟨r0,ai,r1,aj,r2,aC⟩:=Hr.out.g3;replace Hb:=au Hb ae;clear ae;have aoq:=Hr.out.lt;obtain⟨w3,anb,ae,Hx⟩:=cN w2 83 [.int .i64 (i:Int),.int .i64 (j:Int),.bool (ar (dN X)),.string (bs (nt (dN X).natAbs)),.int .i64 (dE X)];clear r0 ai r1 aj r2 aC;replace Hr:=kB Hr ae;obtain⟨r0,ai,r1,aj,r2,aC⟩:=Hr.out.g3;obtain⟨x0,x1,x2,x3,x4⟩:=Hx.out.c5;replace Hb:=au Hb ae;clear ae;go_wp2_with fail;refine bJ (λw'=>w'.cell? ⟨w2.heap.size,0,none⟩=some (.int .i64 (i:Int))/\w'.cell? ⟨w2.heap.size,1,none⟩=some (.int .i64 (j:Int))/\w'.cell? ⟨w2.heap.size,2,none⟩=some (.bool (ar (dN X)))/\w'.cell? ⟨w2.heap.size,3,none⟩=some (.string (bs (nt (dN X).natAbs)))/\w'.cell? ⟨w2.heap.size,4,none⟩=some (.int .i64 (dE X))) (λi=>Nat.blt i 10) [(0,true),(1,true),(2,true),(3,true),(4,true),(5,true),(6,true),(7,true),(8,true),(9,true),(10,false),(11,false)] zk zk rfl zk zc ⟨x0,x1,x2,x3,x4⟩ ?_;iterate 10 (refine pT rfl rfl ?_ (by intro w' ⟨q0,q1,q2,q3,q4⟩;go_simp;try with_reducible rfl);try simp only[UU])
 refine aI rfl rfl (λK hK=>?_);go_simp;refine hK _ _ (λh=>absurd h zd) ?_;clear hK K;try simp only[UU]
 clear r0 ai r1 aj r2 aC x0 x1 x2 x3 x4;refine bN (bz w3 (w.heap.size) 0 [.bool (ar (dN X)),.string (bs (nt (dN X).natAbs)),.int .i64 (dE X)]) bF ?_;intro w4 hs;replace Hr:=bX Hr hs;replace Hx:=kS Hx hs zo;obtain⟨r0,ai,r1,aj,r2,aC⟩:=Hr.out.g3;obtain⟨x0,x1,x2,x3,x4⟩:=Hx.out.c5;replace Hb:=bS Hb hs ZS;clear hs;refine aI rfl rfl (λK hK=>?_);go_simp;refine hK _ _ (λh=>absurd h zd) ?_;clear hK K;try simp only[UU]
 simp only[aU];go_wp2;refine bodyPost_ret (v:=.tuple #[.int .i64 (i:Int),.int .i64 (j:Int),bC X,.int .i64 0]) (by simp[results,Tryz.results13,go_sem,r0,r1,r2]) rfl ⟨rfl,?_⟩;(repeat first|exact Hb.out| (refine Below.setCell ?_ (by have:=Hb.out.size;first| (dsimp only;omega) | (show _<=_;omega) | (simp<;>omega)) _) | (refine Below.alloc ?_ zt _) |refine Below.drew ?_)
theorem WV (a:Option Addr)(L cap:Nat)(rows:List (List Raw))(w:World)(hL:rows.length=L)(hl:L<=1099511627776)(hv:fB rows=0)(ha:aR w a rows):
 Calls Tryz.prog 13 #[.slice a L cap] w λe w'=>e=.returned (.tuple #[.int .i64 0,.int .i64 0,.agg #[.bool false,.string ⟨#[]⟩,.int .i64 0],.int .i64 1])/\Bw w w':=by
 have hvars:=λW=>λ(h:aR W a rows)=>AL a L cap rows W hL hl h;rw[hv]at hvars;obtain⟨KD,Ha⟩:=aL hvars ha;clear hvars ha hv hL hl;obtain⟨W,dc,Hb,Hr⟩:=iF w 30 [.bool false,.string ⟨#[]⟩,.int .i64 0];obtain⟨r0,ai,r1,aj,r2,aC⟩:=Hr.out.g3;go_enter Tryz.func13,Tryz.ntmps13;go_wp2_with fail;refine(KD.out _ (Ha.out.below Hb.out)).mono ?_;rintro e w1 ⟨rfl,ae⟩;clear r0 ai r1 aj r2 aC;replace Hr:=kB Hr ae;obtain⟨r0,ai,r1,aj,r2,aC⟩:=Hr.out.g3;replace Hb:=au Hb ae;clear ae;go_wp2;clear r0 ai r1 aj r2 aC;refine fF (bz w1 (w.heap.size) 0 [.bool false,.string ⟨#[]⟩,.int .i64 0]) bF ?_;intro w9 hs;replace Hr:=bX Hr hs;obtain⟨r0,ai,r1,aj,r2,aC⟩:=Hr.out.g3;replace Hb:=bS Hb hs ZS;clear hs;refine bodyPost_ret (v:=.tuple #[.int .i64 0,.int .i64 0,.agg #[.bool false,.string ⟨#[]⟩,.int .i64 0],.int .i64 1]) (by simp[results,Tryz.results13,go_sem,r0,r1,r2]) rfl ⟨rfl,Hb.out⟩
def midD (p q:List Raw):List Dyadic:=List.zipWith (λx y=>(az x+az y) *hp 1) p q
def fY (p q:List Raw):List Raw:=(midD p q).map canon
theorem Ix {p q:List Raw}(h:p.length=q.length):(midD p q).length=p.length:=by simp[midD,h]
theorem Iy {p q:List Raw}(h:p.length=q.length):(fY p q).length=p.length:=by simp[fY,Ix h]
theorem NU (p q:List Raw)(k:Nat)(h:k<p.length)(h':k<q.length):(midD p q).take (k+1)=(midD p q).take k++[(az p[k]+az q[k]) *hp 1]:=by unfold midD;rw[List.take_succ_eq_append_getElem zi];simp
theorem NV {B:Nat}{p q:List Raw}(hp':∀x∈p,Fit B x)(hq:∀x∈q,Fit B x)(hB:B<=10000000):∀x∈fY p q,Fit (B+3) x:=by
 intro x hx;unfold fY midD at hx;obtain⟨d,hd,rfl⟩:=List.mem_map.1 hx;obtain⟨i,hi,rfl⟩:=List.mem_iff_getElem.1 hd;have hi1:i<p.length/\i<q.length:=by simp at hi;omega
 rw[List.getElem_zipWith];have h1:=Sm.mul (Sm.add (hp' _ (List.getElem_mem hi1.1)).2 (hq _ (List.getElem_mem hi1.2)).2) (VO 1);exact(h1.mono (show B+1+(1+1)<=B+3 by omega)).fit zo
theorem afV (a:Option Addr)(L cap:Nat)(rows:List (List Raw))(w:World)(hL:rows.length=L)(hl:L<=1099511627776)(hv:fB rows=0)(ha:aR w a rows):
 Calls Tryz.prog 14 #[.slice a L cap] w λe w'=>e=.returned (.tuple #[.slice none 0 0,.slice none 0 0,.int .i64 1])/\Bw w w':=by
 have kQ:=λW=>λ(h:aR W a rows)=>WV a L cap rows W hL hl hv h;obtain⟨tA,Ha⟩:=aL kQ ha;clear kQ ha hv hL hl;have Hb:Hid (Bw w w):=Below.refl _ _;go_enter Tryz.func14,Tryz.ntmps14;go_wp2_with fail;refine(tA.out _ (Ha.out.below Hb.out)).mono ?_;rintro e w1 ⟨rfl,ae⟩;replace Hb:=au Hb ae;clear ae;have szw:=Hb.out.size;obtain⟨w2,Mh,ae,Hx⟩:=cN w1 30 [.bool false,.string ⟨#[]⟩,.int .i64 0];obtain⟨x0,aW,x1,aX,x2,bi⟩:=Hx.out.g3;replace Hb:=au Hb ae;clear ae;go_wp2;clear x0 aW x1 aX x2 bi;refine fF (bz w2 (w1.heap.size) 0 [.bool false,.string ⟨#[]⟩,.int .i64 0]) bF ?_;intro w3 hs;replace Hx:=bX Hx hs;obtain⟨x0,aW,x1,aX,x2,bi⟩:=Hx.out.g3;replace Hb:=bS Hb hs ZS;clear hs;refine bodyPost_ret (v:=.tuple #[.slice none 0 0,.slice none 0 0,.int .i64 1]) (by simp[results,Tryz.results14,go_sem]) rfl ⟨rfl,Hb.out⟩
theorem afW (a:Option Addr)(L cap n:Nat)(rows:List (List Raw))(B:Nat)(i j:Nat)(Y:Dyadic)(w:World)(hL:rows.length=L)(hv:fB rows=n)(hn:1<=n)(ha:aR w a rows)
 (hfit:∀r∈rows,∀c∈r,Fit B c) (hB:B<=10000000) (hT:aF w) (hF:gP (eX rows n) L=(i,j,Y)):
 Calls Tryz.prog 14 #[.slice a L cap] w λe w'=>∃a1 c1 a2 c2,e=.returned (.tuple #[.slice a1 L c1,.slice a2 L c2,.int .i64 0])/\L<=c1/\L<=c2/\
  aR w' a1 ((rows.set j (fY (rows.getD i []) (rows.getD j []))).map gX)/\aR w' a2 ((rows.set i (fY (rows.getD i []) (rows.getD j []))).map gX)/\Bw w w':=by
 obtain⟨i0,hi,hz0,hz1,hz2⟩:=info_parts Tryz.apl;obtain⟨c1,c2,c3,c4⟩:=yz hv zo;have kQ:=λW=>λ(h:aR W a rows) (hT:aF W)=>Ij a L cap n rows B W hL hv hn h hfit hB hT;have hinv:=Ii (eX rows n) L zo;rw[hF]at hinv;simp only[hF]at kQ;obtain⟨hij,qW,hY⟩:=hinv;dsimp only at hij qW hY;have vt:i<L:=by omega
 obtain⟨p,hp'⟩:=aB (rows.getD i []);obtain⟨q,hq'⟩:=aB (rows.getD j []);have ep:rows[i]'zo=p:=by rw[<-hp'];simp[hL,vt]
 have eq:rows[j]'zo=q:=by rw[<-hq'];simp[hL,qW]
 have hpl:p.length=n:=by have:=c4 p (by rw[<-ep];exact List.getElem_mem _);omega
 have rf:q.length=n:=by have:=c4 q (by rw[<-eq];exact List.getElem_mem _);omega
 have fJ:∀x∈p,Fit B x:=by rw[<-ep];exact hfit _ (List.getElem_mem _)
 have rc:∀x∈q,Fit B x:=by rw[<-eq];exact hfit _ (List.getElem_mem _)
 rw[hp',hq'];have xR:=λ(k:Nat) (pa:Option Addr) (pc:Nat) (W:World) (h1:aR W a rows) (h2:At W pa (dC (midD p q))) (h3:aF W)=>alT a L cap rows k pa n pc (fY p q) W hL zo (by rw[Iy zo];exact hpl) zo (λr hr=>by have:=c4 r hr;omega) h1 (by unfold fY;rw[<-qC];exact h2) (λr hr x hx=>(hfit r hr x hx).1) (λx hx=>(NV fJ rc hB x hx).1) h3;obtain⟨A1,zD⟩:=aB ((rows.set j (fY p q)).map gX);obtain⟨A2,uQ⟩:=aB ((rows.set i (fY p q)).map gX);have oH:=xR j;have im:=xR i;rw[zD]at oH⊢;rw[uQ]at im⊢;have hrow:=λ(W:World) (h:aR W a rows)=>h.row i zo;have hrow2:=λ(W:World) (h:aR W a rows)=>h.row j zo;simp only[ep,hpl]at hrow;simp only[eq,rf]at hrow2;obtain⟨Z,hZ⟩:=aB (midD p q);have hst:∀k (h:k<p.length) (h':k<q.length),Z.take (k+1)=Z.take k++[(az p[k]+az q[k]) *hp 1]:=by rw[<-hZ];exact NU p q
 have nj:Z.length=n:=by rw[<-hZ,Ix zo,hpl]
 rw[hZ]at im oH;obtain⟨Hi,cG,cH,cE,tA,Ha,HT,Cj,KI,nU,Ca,cd⟩:=fR hi hz0 hz1 hz2 kQ ha hT im oH hrow hrow2 hst;obtain⟨mh,lw,BW,lv,BV⟩:=fg nj hpl rf fJ rc;have tZ:n<=8:=by omega
 clear hi hz0 hz1 hz2 kQ ha hT im oH xR hrow hrow2 hst nj hpl rf fJ rc ep eq hp' hq' hY hF hfit hv c1 c2 c3 c4 hL hZ zD uQ;have Hb:Hid (Bw w w):=Below.refl _ _;go_enter Tryz.func14,Tryz.ntmps14;go_wp2_with fail;refine(tA.out _ (Ha.out.below Hb.out) (HT.out.below Hb.out)).mono ?_;rintro e w1 ⟨rfl,ae⟩;replace Hb:=au Hb ae;clear ae;obtain⟨w2,Mh,ae,Hx⟩:=cN w1 30 [.bool (ar (dN Y)),.string (bs (nt (dN Y).natAbs)),.int .i64 (dE Y)];obtain⟨x0,x1,x2⟩:=Hx.out.c3;replace Hb:=au Hb ae;clear ae;obtain⟨b0,o0,a1,c1,dA,hc0,fH⟩:=nU.out w2 (Ha.out.below Hb.out);obtain⟨dx,dU,a2,c2,bW,hc1,gL⟩:=Ca.out w2 (Ha.out.below Hb.out);obtain⟨rfl,rfl⟩:dx=b0/\dU=o0:=by rw[dA]at bW;simp at bW;exact⟨bW.1.symm,bW.2.symm⟩
 clear bW;have nH:=fE L cap i (i:Int) dA vt rfl;have nI:=fE L cap j (j:Int) dA qW rfl;rw[Nat.mul_one]at nH nI;obtain⟨jD,nR,gh,iU,jB⟩:=fg hc0 hc1 fH gL dA;clear hc1 fH gL dA;have oM:=Hb.out.size;go_wp2_with fail;go_loopw[8,25] (λs8 x wr=>∃(k:Nat) (v:Value),k<=n/\x=.int .i64 (k:Int)/\v=s8/\wr.ownsRow w2.heap.size 30 3 v k (dC (Z.take k))/\Bw w2 wr) (λ_ x _=>n-(intOf x).toNat);case atStart=>exact⟨0,_,Nat.zero_le _,rfl,rfl,World.ownsRow_nil _ _ _ _,Below.refl _ _⟩
 case round=>
  clear hc0 x0 x1 x2;obtain⟨k,v,hk,rfl,rfl,pv,pb⟩:=hrel;by_cases hlt:k<n
  . have k1:k<p.length:=by rw[lw.out];exact hlt
    have k2:k<q.length:=by rw[BW.out];exact hlt
    obtain⟨sp,mp,ep,dZ⟩:=iA (p[k]);obtain⟨sq,mq,eq,fX⟩:=iA (q[k]);have df:=lv.out _ (List.getElem_mem k1);have ez:=BV.out _ (List.getElem_mem k2);have hst:=cd.out k k1 k2;rw[dZ]at df hst;rw[fX]at ez hst;obtain⟨D,hD⟩:=aB (az (sp,mp,ep)+az (sq,mq,eq));obtain⟨X,hX⟩:=aB (D*hp 1);rw[hD,hX]at hst;have fG:Sm (B+1) D:=by rw[<-hD];exact Sm.add df.2 ez.2
    have AW:Hid (Ok (ar (dN D),nt (dN D).natAbs,dE D)):=(fG.fit zo).1;have HX:Hid (az (ar (dN D),nt (dN D).natAbs,dE D+ -1)=X):=by show _=_;rw[<-hX];exact Pi D 1
    have iX:Hid (dC (Z.take (k+1))=dC (Z.take k)++[.bool (ar (dN X)),.string (bs (nt (dN X).natAbs)),.int .i64 (dE X)]):=by
     show _=_
     rw[hst,qA];rfl
    obtain⟨b1,o1,bW,p0,p1,p2⟩:=(gh.out.below pb).num k k1 dZ;obtain⟨b2,o2,dm,q0,q1,q2⟩:=(iU.out.below pb).num k k2 fX;have iB:=iZ n c1 k (k:Int) bW hlt rfl;have kN:=iZ n c2 k (k:Int) dm hlt rfl;have gz:b1<w2.heap.size:=(by subst bW;exact gh.out.lt (by intro h0;have:=congrArg List.length h0;rw[iY bo 3 (λ_=>rfl)]at this;simp at this;omega));have fK:b2<w2.heap.size:=(by subst dm;exact iU.out.lt (by intro h0;have:=congrArg List.length h0;rw[iY bo 3 (λ_=>rfl)]at this;simp at this;omega));have lQ:dx<w2.heap.size:=World.block_lt_of_cell? w2 _ jD.out;have Hu:Hid (aV wr dx (dU+i) [.slice a1 n c1]):=λj hj=>by
     obtain rfl:j=0:=by simp at hj;omega
     exact cell_later pb jD.out
    have Hv:Hid (aV wr dx (dU+j) [.slice a2 n c2]):=λj hj=>by
     obtain rfl:j=0:=by simp at hj;omega
     exact cell_later pb nR.out
    have Hp:Hid (aV wr b1 (o1+k*3) [.bool sp,.string (bs mp),.int .i64 ep]):=fS p0 p1 p2;have Hq:Hid (aV wr b2 (o2+k*3) [.bool sq,.string (bs mq),.int .i64 eq]):=fS q0 q1 q2;obtain⟨iH,jT,HD,cK,lh,cz⟩:=gN df ez hD pv pb ((HT.out.below Hb.out).below pb);have fT:=Hb;have sQ:=pb.size;clear Hb pv pb df ez hD hX hst fG dZ fX bW dm p0 p1 p2 q0 q1 q2;have Hb:Hid (Bw wr wr):=Below.refl _ _;go_wp2_with fail;have u0:=Hu.out.w1;have v0:=Hv.out.w1;obtain⟨p0,p1,p2⟩:=Hp.out.w3;obtain⟨q0,q1,q2⟩:=Hq.out.w3;refine bJ (λw'=>w'.cell? ⟨dx,dU+i,none⟩=some (.slice a1 n c1)/\w'.cell? ⟨dx,dU+j,none⟩=some (.slice a2 n c2)/\w'.cell? ⟨b1,o1+k*3,none⟩=some (.bool sp)/\w'.cell? ⟨b1,o1+k*3+1,none⟩=some (.string (bs mp))/\w'.cell? ⟨b1,o1+k*3+2,none⟩=some (.int .i64 ep)/\w'.cell? ⟨b2,o2+k*3,none⟩=some (.bool sq)/\w'.cell? ⟨b2,o2+k*3+1,none⟩=some (.string (bs mq))/\w'.cell? ⟨b2,o2+k*3+2,none⟩=some (.int .i64 eq)) (λi=>Nat.blt i 100000) [(0,true),(1,true),(2,true),(3,true),(4,true),(5,true),(6,true),(7,true),(8,true),(9,true),(10,true),(11,true),(12,true),(13,true),(14,true),(15,false),(16,false),(17,false),(18,false),(19,false),(20,true)] zk zk rfl zk zc ⟨u0,v0,p0,p1,p2,q0,q1,q2⟩ ?_;iterate 15 (refine pT rfl rfl ?_ (by intro w' ⟨q0,q1,q2,q3,q4,q5,q6,q7⟩;go_simp;try with_reducible rfl);try simp only[UU])
    refine aI rfl rfl (λK hK=>?_);go_simp;refine hK _ _ (λ_=>⟨aG u0,aG v0,aG p0,aG p1,aG p2,aG q0,aG q1,aG q2⟩) ?_;clear hK K;try simp only[UU]
    refine bN (λw4=>ak w4 (wr.heap.size) 30 [.bool sp,.string (bs mp),.int .i64 ep,.bool sq,.string (bs mq),.int .i64 eq]/\Bw wr w4) (by first|exact dP|exact dQ) ?_;rintro w4 ⟨qe,ae⟩;clear u0 v0 p0 p1 p2 q0 q1 q2;replace Hu:=kW Hu ae;replace Hv:=kW Hv ae;replace Hp:=kW Hp ae;replace Hq:=kW Hq ae;have He:=ah qe;clear qe;have u0:=Hu.out.w1;have v0:=Hv.out.w1;obtain⟨p0,p1,p2⟩:=Hp.out.w3;obtain⟨q0,q1,q2⟩:=Hq.out.w3;obtain⟨e0,e1,e2,e3,e4,e5⟩:=He.out.c6;replace Hb:=au Hb ae;clear ae;refine aI rfl rfl (λK hK=>?_);go_simp;with_reducible refine(zh sp mp ep sq mq eq D B HD.out wr.heap.size 2 30 _ iH.out jT.out zo He.out (by first|exact(cz.out.below Hb.out) |exact aF.drew (cz.out.below Hb.out) |exact aF.alloc (cz.out.below Hb.out) _|exact aF.drew (aF.alloc (cz.out.below Hb.out) _) |exact aF.alloc (aF.drew (cz.out.below Hb.out)) _)).mono ?_
    rintro e w5 ⟨rfl,hq⟩;have ae:Bw w4 w5:=by first|exact hq|exact aM hq
    clear u0 v0 p0 p1 p2 q0 q1 q2 e0 e1 e2 e3 e4 e5;replace Hu:=kW Hu ae;replace Hv:=kW Hv ae;replace Hp:=kW Hp ae;replace Hq:=kW Hq ae;replace He:=kB He ae;have u0:=Hu.out.w1;have v0:=Hv.out.w1;obtain⟨p0,p1,p2⟩:=Hp.out.w3;obtain⟨q0,q1,q2⟩:=Hq.out.w3;obtain⟨e0,e1,e2,e3,e4,e5⟩:=He.out.c6;replace Hb:=au Hb ae;clear ae;refine hK _ _ (λ_=>⟨u0,v0,p0,p1,p2,q0,q1,q2⟩) ?_;clear hK K;try simp only[UU]
    refine aI rfl rfl (λK hK=>?_);go_simp;with_reducible refine(Yu (ar (dN D)) (nt (dN D).natAbs) (dE D) (-1) X HX.out _ AW.out zd (by first|exact(cz.out.below Hb.out) |exact aF.drew (cz.out.below Hb.out) |exact aF.alloc (cz.out.below Hb.out) _|exact aF.drew (aF.alloc (cz.out.below Hb.out) _) |exact aF.alloc (aF.drew (cz.out.below Hb.out)) _)).mono ?_
    rintro e w6 ⟨rfl,hq⟩;have ae:Bw w5 w6:=by first|exact hq|exact aM hq
    clear u0 v0 p0 p1 p2 q0 q1 q2 e0 e1 e2 e3 e4 e5;replace Hu:=kW Hu ae;replace Hv:=kW Hv ae;replace Hp:=kW Hp ae;replace Hq:=kW Hq ae;replace He:=kB He ae;have u0:=Hu.out.w1;have v0:=Hv.out.w1;obtain⟨p0,p1,p2⟩:=Hp.out.w3;obtain⟨q0,q1,q2⟩:=Hq.out.w3;obtain⟨e0,e1,e2,e3,e4,e5⟩:=He.out.c6;replace Hb:=au Hb ae;clear ae;refine hK _ _ (λ_=>⟨u0,v0,p0,p1,p2,q0,q1,q2⟩) ?_;clear hK K;try simp only[UU]
    refine aI rfl rfl (λK hK=>?_);go_simp;refine hK _ _ (λ_=>⟨aG u0,aG v0,aG p0,aG p1,aG p2,aG q0,aG q1,aG q2⟩) ?_;clear hK K;try simp only[UU]
    refine bN (λw7=>ak w7 (w6.heap.size) 30 [.bool (ar (dN X)),.string (bs (nt (dN X).natAbs)),.int .i64 (dE X)]/\Bw w6 w7) (by first|exact dP|exact dQ) ?_;rintro w7 ⟨qc,ae⟩;clear u0 v0 p0 p1 p2 q0 q1 q2 e0 e1 e2 e3 e4 e5;have ahV:=He.out.lt;replace Hu:=kW Hu ae;replace Hv:=kW Hv ae;replace Hp:=kW Hp ae;replace Hq:=kW Hq ae;replace He:=kB He ae;have Hc:=ah qc;clear qc;have u0:=Hu.out.w1;have v0:=Hv.out.w1;obtain⟨p0,p1,p2⟩:=Hp.out.w3;obtain⟨q0,q1,q2⟩:=Hq.out.w3;obtain⟨e0,e1,e2,e3,e4,e5⟩:=He.out.c6;obtain⟨c0,c1,c2⟩:=Hc.out.c3;replace Hb:=au Hb ae;clear ae;refine aI rfl rfl (λK hK=>?_);have cm:=ownsRow_below cK.out Hb.out;have ia:=Hb.out.size;refine wp_append_own _ _ _ 46 rfl w2.heap.size 30 i0 _ 3 32 Tryz.underlying46 Hi.out cG.out cH.out cE.out rfl zd v k (dC (Z.take k)) rfl cm ⟨w6.heap.size,0,none⟩ 1 1 [.bool (ar (dN X)),.string (bs (nt (dN X).natAbs)),.int .i64 (dE X)] rfl rfl (fM Hc.out) zy zx zo zo ?_;intro v' w8 dv aY _;obtain⟨g',cq,rfl⟩:=ownsRow_succ dv;have nb:∀b,b<w2.heap.size->some b≠v.ownBlock:=λb hb e=>by have:=cJ cm b e.symm;omega
    refine hK _ _ (λ_=>⟨bE aY u0 (nb _ lQ),bE aY v0 (nb _ lQ),bE aY p0 (nb _ gz),bE aY p1 (nb _ gz),bE aY p2 (nb _ gz),bE aY q0 (nb _ fK),bE aY q1 (nb _ fK),bE aY q2 (nb _ fK)⟩) ?_;clear hK K;try simp only[UU]
    refine pT rfl rfl ?_;try simp only[UU]
    simp only[aU];clear u0 v0 p0 p1 p2 q0 q1 q2 c0 c1 c2;go_wp2;go_roundw;case rel=>
     refine⟨k+1,_,by omega,by go_num,rfl,?_,?_⟩
     . rw[iX.out];exact dv
     . exact(aJ lh.out Hb.out).grown aY zo (λj e=>cJ cm j e)
    case measure=>simp[intOf];omega
  . obtain rfl:k=n:=by omega
    have fW:Z.take k=Z:=List.take_of_length_le (by rw[mh.out];exact Nat.le_refl _);rw[fW]at pv;obtain⟨a3,xh,rfl,uX,_⟩:=di pv;obtain⟨pZ,sX,pY,fT⟩:=dW uX ((HT.out.below Hb.out).below pb) ((Ha.out.below Hb.out).below pb) (aJ Hb.out pb);clear Hb uX pv pb fW nH nI;have Hb:Hid (Bw w wr):=fT;go_wp2_with fail;refine(KI.out a3 xh _ pY.out pZ.out sX.out).mono ?_;rintro e w4 ⟨a4,c4,rfl,hl4,ko,ae⟩;have nW:=ah ko;replace Hb:=ah (aJ Hb.out ae);replace pZ:=ah (pZ.out.below ae);replace sX:=ah (sX.out.below ae);replace pY:=ah (pY.out.below ae);clear ko ae;go_wp2_with fail;refine(Cj.out a3 xh _ pY.out pZ.out sX.out).mono ?_;rintro e w5 ⟨a5,c5,rfl,hl5,pG,ae⟩;have Ky:=ah pG;replace Hb:=ah (aJ Hb.out ae);replace nW:=ah (nW.out.below ae);clear pG ae;go_wp2;refine bodyPost_ret (v:=.tuple #[.slice a4 L c4,.slice a5 L c5,.int .i64 0]) (by simp[results,Tryz.results14,go_sem]) rfl ⟨a4,c4,a5,c5,rfl,hl4,hl5,nW.out,Ky.out,Hb.out⟩
theorem Tryz.apq :(Tryz.prog.info? 45).map (λi=>(i.zero,i.size,i.bytes))=some (some (.slice none 0 0),1,24):=by kernel_rfl
def iz (o p:List Raw):List Dyadic:=List.zipWith (λx y=>az x-az y) p o
theorem zw {o p:List Raw}(h:p.length=o.length):(iz o p).length=p.length:=by simp[iz,h]
theorem SS (o p:List Raw)(k:Nat)(h:k<p.length)(h':k<o.length):(iz o p).take (k+1)=(iz o p).take k++[az p[k]-az o[k]]:=by unfold iz;rw[List.take_succ_eq_append_getElem zi];simp
theorem Own2.apx {e:TypeId}{w:World}{base k:Nat}{R:List (List Dyadic)}{v:Value}(h:Own2 e w base R k v)(hk:R.length=k):∃a c,v=.slice a k c/\k<=c/\aR w a (R.map λr=>r.map canon):=by
 obtain⟨vals,hl,ho,hi⟩:=h;obtain⟨a,c,hv,hat,_⟩:=di ho;subst hv;refine⟨a,c,rfl,Ar ho,vals,by simp[hl,hk],hat,λi h1 h2=>?_⟩;obtain⟨a1,c1,e1,e2,_⟩:=hi i h2;have hi1:i<R.length:=by simpa using h1
 have eg:R.getD i []=R[i]:=by simp[hi1]
 rw[eg]at e1 e2;refine⟨a1,c1,?_,?_⟩
 . rw[e1];simp
 . rw[List.getElem_map,<-qC];exact e2
theorem Yj (b o cap m n:Nat)(rows:List (List Raw))(B:Nat)(w:World)(hL:rows.length=m+1)(hm:m<=8)(hcap:m+1<=cap)(vz:1<=m)(hn:1<=n)(tZ:n<=8)(hrow:∀r∈rows,r.length=n)(ha:aR w (some ⟨b,o,none⟩) rows)
 (hfit:∀r∈rows,∀c∈r,Fit B c) (hB:B<=10000000) (hT:aF w):
 Calls Tryz.prog 46 #[.slice (some ⟨b,o,none⟩) (m+1) cap] w λe w'=>∃a' c',e=.returned (.slice a' m c')/\m<=c'/\
  aR w' a' (((rows.drop 1).map λp=>iz (rows.getD 0 []) p).map λr=>r.map canon)/\Bw w w':=by
 obtain⟨i0,hi,hz0,hz1,hz2⟩:=info_parts Tryz.apl;obtain⟨j0,hj,hy0,hy1,hy2⟩:=info_parts Tryz.apq;obtain⟨S,hS⟩:=aB ((rows.drop 1).map λp=>iz (rows.getD 0 []) p);have Ue:S.length=m:=by rw[<-hS];simp[hL]
 have ij:∀k (h0:0<rows.length) (h1:k+1<rows.length),S.getD k []=iz rows[0] rows[k+1]:=by
  intro k h0 h1;subst hS;have e0:rows.getD 0 []=rows[0]:=by simp[h0]
  rw[e0];have h2:k<(rows.drop 1).length:=by simp;omega
  simp[h1]
 rw[hS];have hcell:=λ(W:World) (h:aR W (some ⟨b,o,none⟩) rows) (k:Nat) (hk:k<rows.length)=>h.row k hk;obtain⟨Hi,cG,cH,cE,Hj,gV,iL,iM,ZK,jR,QC,HT⟩:=fR hi hz0 hz1 hz2 hj hy0 hy1 hy2 Ue ij hcell hT;obtain⟨Ha,nU,wO,HL⟩:=dW ha hrow hfit hL;clear hi hz0 hz1 hz2 hj hy0 hy1 hy2 hS Ue ij hcell ha hT hL hrow hfit;have e1:m+1-1=m:=by omega
 have e2:¬cap=1:=by omega
 go_enter Tryz.func46,Tryz.ntmps46;have Hb:Hid (Bw w w):=Below.refl _ _;go_wp2_with fail;obtain⟨r0,kR⟩:=aB (rows[0]'(by rw[HL.out];omega));obtain⟨_,_,a0,c0,dA,hc0,fH⟩:=QC.out w Ha.out 0 (by rw[HL.out];omega);obtain⟨rfl,rfl⟩:b=_/\o=_:=by simp at dA;exact dA
 have hn0:r0.length=n:=by rw[<-kR];exact nU.out _ (List.getElem_mem _)
 have vk:∀x∈r0,Fit B x:=by rw[<-kR];exact wO.out _ (List.getElem_mem _)
 have oh:∀k (h1:k+1<rows.length),S.getD k []=iz r0 rows[k+1]:=λk h1=>by rw[jR.out k zo h1,kR]
 rw[kR]at hc0 fH;rw[hn0]at hc0;rw[Nat.add_zero]at hc0;have nH:=fE (m+1) cap 0 0 (show some (⟨b,o,none⟩:Addr)=some ⟨b,o,none⟩from rfl) zo rfl;rw[Nat.mul_one,Nat.add_zero]at nH;obtain⟨jD,gh,rE,Bz,ZJ⟩:=fg hc0 fH hn0 vk oh;have lQ:b<w.heap.size:=World.block_lt_of_cell? w _ hc0;clear hc0 fH hn0 vk oh kR dA Hb;go_loopw[3,11] (λs3 x wr=>∃(k:Nat) (v:Value),k<=m/\x=.int .i64 (k:Int)/\v=s3/\Own2 45 wr w.heap.size S k v/\Bw w wr) (λ_ x _=>m-(intOf x).toNat);case atStart=>exact⟨0,_,Nat.zero_le _,rfl,rfl,Own2.nil _ _ _ _,Below.refl _ _⟩
 case round=>
  obtain⟨k,v,hk,rfl,rfl,pv,pb⟩:=hrel;by_cases hlt:k<m
  . have hk2:k+1<rows.length:=by rw[HL.out];omega
    obtain⟨p,gM⟩:=aB (rows[k+1]);obtain⟨_,_,a1,c1,hab,hc1,hat⟩:=QC.out wr (Ha.out.below pb) (k+1) hk2;obtain⟨rfl,rfl⟩:b=_/\o=_:=by simp at hab;exact hab
    have ki:p.length=n:=by rw[<-gM];exact nU.out _ (List.getElem_mem hk2)
    have fJ:∀x∈p,Fit B x:=by rw[<-gM];exact wO.out _ (List.getElem_mem hk2)
    have ol:=ZJ.out k hk2;rw[gM]at hc1 hat ol;rw[ki]at hc1;have iB:=fE m (cap-1) k (k:Int) (show some (⟨b,o+1,none⟩:Addr)=some ⟨b,o+1,none⟩from rfl) hlt rfl;rw[Nat.mul_one]at iB;have af3:wr.cell? ⟨b,o+1+k,none⟩=some (.slice a1 n c1):=by rw[show o+1+k=o+(k+1)by omega];exact hc1
    obtain⟨Z,hZ⟩:=aB (iz r0 p);rw[hZ]at ol;obtain⟨fc,lA,lv,uy,HZ,aO,cK⟩:=pR hat ki fJ ol hZ pb pv;clear hat ki fJ ol hZ pb pv hab gM hc1;have gB:=aO.out.size;obtain⟨wc,hwc⟩:∃wc,wc=wr:=⟨_,rfl⟩;subst hwc;go_wp2_with fail;go_loopw[6,17] (λs6 x wr=>∃(j:Nat) (v2:Value),j<=n/\x=.int .i64 (j:Int)/\v2=s6/\wr.ownsRow wc.heap.size 30 3 v2 j (dC (Z.take j))/\Bw wc wr) (λ_ x _=>n-(intOf x).toNat);case atStart=>exact⟨0,_,Nat.zero_le _,rfl,rfl,World.ownsRow_nil _ _ _ _,Below.refl _ _⟩
    case round=>
     clear af3;obtain⟨j,v2,hj,rfl,rfl,ho,hb2⟩:=hrel;by_cases bj:j<n
     . have k1:j<p.length:=by rw[lA.out];exact bj
       have k2:j<r0.length:=by rw[rE.out];exact bj
       obtain⟨sp,mp,ep,dZ⟩:=iA (p[j]);obtain⟨sq,mq,eq,fX⟩:=iA (r0[j]);have df:=lv.out _ (List.getElem_mem k1);have ez:=Bz.out _ (List.getElem_mem k2);rw[dZ]at df;rw[fX]at ez;obtain⟨X,hX⟩:=aB (az (sp,mp,ep)-az (sq,mq,eq));have iX:Hid (dC (Z.take (j+1))=dC (Z.take j)++[.bool (ar (dN X)),.string (bs (nt (dN X).natAbs)),.int .i64 (dE X)]):=by
        show _=_
        rw[<-HZ.out,SS _ _ _ k1 k2,qA,dZ,fX,hX];rfl
       have eJ:=aJ aO.out hb2;obtain⟨b1,o1,bW,p0,p1,p2⟩:=(fc.out.below hb2).num j k1 dZ;obtain⟨b2,o2,dm,q0,q1,q2⟩:=(gh.out.below eJ).num j k2 fX;have MH:=iZ n c1 j (j:Int) bW bj rfl;have agn:=iZ n c0 j (j:Int) dm bj rfl;have gz:b1<wc.heap.size:=(by subst bW;exact fc.out.lt (by intro h0;have:=congrArg List.length h0;rw[iY bo 3 (λ_=>rfl)]at this;simp at this;omega));have fK:b2<wc.heap.size:=Nat.lt_of_lt_of_le (by subst dm;exact gh.out.lt (by intro h0;have:=congrArg List.length h0;rw[iY bo 3 (λ_=>rfl)]at this;simp at this;omega)) gB;have lbc:b<wc.heap.size:=Nat.lt_of_lt_of_le lQ gB;have Hu:Hid (aV wr b o [.slice a0 n c0]):=λi hi=>by
        obtain rfl:i=0:=by simp at hi;omega
        exact cell_later eJ jD.out
       have Hp:Hid (aV wr b1 (o1+j*3) [.bool sp,.string (bs mp),.int .i64 ep]):=fS p0 p1 p2;have Hq:Hid (aV wr b2 (o2+j*3) [.bool sq,.string (bs mq),.int .i64 eq]):=fS q0 q1 q2;obtain⟨iH,jT,HX,Ho,lh,cz⟩:=gN df ez hX ho hb2 (HT.out.below eJ);have sQ:=hb2.size;clear ho hb2 df ez hX dZ fX bW dm p0 p1 p2 q0 q1 q2 eJ;have Hb:Hid (Bw wr wr):=Below.refl _ _;go_wp2_with fail;have u0:=Hu.out.w1;obtain⟨p0,p1,p2⟩:=Hp.out.w3;obtain⟨q0,q1,q2⟩:=Hq.out.w3;refine bJ (λw'=>w'.cell? ⟨b,o,none⟩=some (.slice a0 n c0)/\w'.cell? ⟨b1,o1+j*3,none⟩=some (.bool sp)/\w'.cell? ⟨b1,o1+j*3+1,none⟩=some (.string (bs mp))/\w'.cell? ⟨b1,o1+j*3+2,none⟩=some (.int .i64 ep)/\w'.cell? ⟨b2,o2+j*3,none⟩=some (.bool sq)/\w'.cell? ⟨b2,o2+j*3+1,none⟩=some (.string (bs mq))/\w'.cell? ⟨b2,o2+j*3+2,none⟩=some (.int .i64 eq)) (λi=>Nat.blt i 100000) [(0,true),(1,true),(2,true),(3,true),(4,true),(5,true),(6,true),(7,true),(8,true),(9,true),(10,true),(11,false),(12,false),(13,false),(14,true)] zk zk rfl zk zc ⟨u0,p0,p1,p2,q0,q1,q2⟩ ?_;iterate 11 (refine pT rfl rfl ?_ (by intro w' ⟨q0,q1,q2,q3,q4,q5,q6⟩;go_simp;try with_reducible rfl);try simp only[UU])
       refine aI rfl rfl (λK hK=>?_);go_simp;with_reducible refine(zq sp mp ep sq mq eq X B HX.out _ iH.out jT.out zo (by first|exact cz.out|exact aF.drew cz.out|exact aF.alloc cz.out _|exact aF.drew (aF.alloc cz.out _) |exact aF.alloc (aF.drew cz.out) _)).mono ?_
       rintro e w6 ⟨rfl,hq⟩;have ae:Bw wr w6:=by first|exact hq|exact aM hq
       clear u0 p0 p1 p2 q0 q1 q2;replace Hu:=kW Hu ae;replace Hp:=kW Hp ae;replace Hq:=kW Hq ae;have u0:=Hu.out.w1;obtain⟨p0,p1,p2⟩:=Hp.out.w3;obtain⟨q0,q1,q2⟩:=Hq.out.w3;replace Hb:=au Hb ae;clear ae;refine hK _ _ (λ_=>⟨u0,p0,p1,p2,q0,q1,q2⟩) ?_;clear hK K;try simp only[UU]
       refine aI rfl rfl (λK hK=>?_);go_simp;refine hK _ _ (λ_=>⟨aG u0,aG p0,aG p1,aG p2,aG q0,aG q1,aG q2⟩) ?_;clear hK K;try simp only[UU]
       refine bN (λw7=>ak w7 (w6.heap.size) 30 [.bool (ar (dN X)),.string (bs (nt (dN X).natAbs)),.int .i64 (dE X)]/\Bw w6 w7) (by first|exact dP|exact dQ) ?_;rintro w7 ⟨qc,ae⟩;clear u0 p0 p1 p2 q0 q1 q2;replace Hu:=kW Hu ae;replace Hp:=kW Hp ae;replace Hq:=kW Hq ae;have Hc:=ah qc;clear qc;have u0:=Hu.out.w1;obtain⟨p0,p1,p2⟩:=Hp.out.w3;obtain⟨q0,q1,q2⟩:=Hq.out.w3;obtain⟨c0,c1,c2⟩:=Hc.out.c3;replace Hb:=au Hb ae;clear ae;refine aI rfl rfl (λK hK=>?_);have cm:=ownsRow_below Ho.out Hb.out;have ia:=Hb.out.size;refine wp_append_own _ _ _ 45 rfl wc.heap.size 30 i0 _ 3 32 Tryz.underlying45 Hi.out cG.out cH.out cE.out rfl zd v2 j (dC (Z.take j)) rfl cm ⟨w6.heap.size,0,none⟩ 1 1 [.bool (ar (dN X)),.string (bs (nt (dN X).natAbs)),.int .i64 (dE X)] rfl rfl (fM Hc.out) zy zx zo zo ?_;intro v' w8 dv aY _;obtain⟨g',cq,rfl⟩:=ownsRow_succ dv;have nb:∀b,b<wc.heap.size->some b≠v2.ownBlock:=λb hb e=>by have:=cJ cm b e.symm;omega
       refine hK _ _ (λ_=>⟨bE aY u0 (nb _ lbc),bE aY p0 (nb _ gz),bE aY p1 (nb _ gz),bE aY p2 (nb _ gz),bE aY q0 (nb _ fK),bE aY q1 (nb _ fK),bE aY q2 (nb _ fK)⟩) ?_;clear hK K;try simp only[UU]
       refine pT rfl rfl ?_;try simp only[UU]
       simp only[aU];clear u0 p0 p1 p2 q0 q1 q2 c0 c1 c2;go_wp2;go_roundw;case rel=>
        refine⟨j+1,_,by omega,by go_num,rfl,?_,?_⟩
        . rw[iX.out];exact dv
        . exact(aJ lh.out Hb.out).grown aY zo (λj e=>cJ cm j e)
       case measure=>simp[intOf];omega
     . obtain rfl:j=n:=by omega
       have fW:Z.take j=Z:=List.take_of_length_le (by rw[<-HZ.out,zw (by rw[lA.out,rE.out]),lA.out];exact Nat.le_refl _);rw[fW]at ho;obtain⟨a2,cap2,rfl,kK,dm⟩:=di ho;have gw:=ho.lt;obtain⟨vals,hvl,hov,iD⟩:=cK.out.below hb2;have Hb:Hid (Bw wr wr):=Below.refl _ _;obtain⟨_,_,nz,_⟩:=cK.out;have hvs:=nz.lt;have hin:∀b o,a2=some ⟨b,o,none⟩->some b≠v.ownBlock/\b<wr.heap.size:=by intro b o e;subst e;have h1:=gw b rfl;refine⟨λh2=>?_,h1.2⟩;have h3:=hvs b h2.symm;omega
       obtain⟨mW,sY,iK,nX,cM,bP⟩:=gN hin kK hvl iD hov hb2;have oM:=hb2.size;have mh:Hid (Z.length=j):=by show _=_;rw[<-HZ.out,zw (by rw[lA.out,rE.out]),lA.out]
       clear hin kK hvl iD hov nz hvs hb2 dm gw fW ho bj hj;obtain⟨W6,ot,ae,Hd⟩:=cN wr 45 [.slice a2 j cap2];have d0:=Hd.out.c1;replace Hb:=au Hb ae;clear ae;have cm:=ownsRow_below cM.out Hb.out;have ia:=Hb.out.size;have hnews:∀i u,([.slice a2 j cap2]:List Value)[i]?=some u->W6.cell? ((⟨wr.heap.size,0,none⟩:Addr).add i)=some u:=fM Hd.out;clear d0;go_wp2_with (at_builtin;refine wpList_append_own_at _ rfl _ _ 78 rfl w.heap.size 45 j0 _ 1 24 Tryz.underlying78 Hj.out gV.out iL.out iM.out rfl zd v k vals rfl cm ⟨wr.heap.size,0,none⟩ 1 1 [.slice a2 j cap2] rfl rfl hnews zy zx zo zo ?_;intro v' w7 dt eD _ fy;obtain⟨g',lF,rfl⟩:=ownsRow_succ dt);go_roundw;case rel=>
        refine⟨k+1,_,by omega,by go_num,rfl,?_,?_⟩
        . refine Own2.push (a:=a2) (c:=cap2) iK.out (w:=W6) ?_ ?_ ?_ ?_ eD fy
          . intro i h;obtain⟨a,c,h1,h2,h3⟩:=nX.out i h;exact⟨a,c,h1,h2.below Hb.out,λb o e=>⟨(h3 b o e).1,Nat.lt_of_lt_of_le (h3 b o e).2 ia⟩⟩
          . rw[uy.out];exact sY.out.below Hb.out
          . exact λb o e=>⟨(mW.out b o e).1,Nat.lt_of_lt_of_le (mW.out b o e).2 ia⟩
          . rw[uy.out,mh.out];exact dt
        . exact(aJ (aJ aO.out bP.out) Hb.out).grown eD zo (λj e=>cJ cm j e)
       case measure=>simp[intOf];omega
  . obtain rfl:k=m:=by omega
    obtain⟨a2,c2,rfl,hcl,iR⟩:=Own2.apx pv ZK.out;obtain⟨mY,aO⟩:=aL iR pb;clear pv pb iR;go_wp2;refine bodyPost_ret (results_tmp rfl _ _ _) rfl ⟨a2,c2,rfl,hcl,mY.out,aO.out⟩
theorem Tryz.apC :(Tryz.prog.info? 28).map (λi=>(i.zero,i.size,i.bytes))=some (some (.agg #[.bool false,.string (bs [])]),2,24):=by kernel_rfl
theorem Tryz.apD :(Tryz.prog.info? 134).map (λi=>(i.zero,i.size,i.bytes))=some (some (.slice none 0 0),1,24):=by kernel_rfl
def iC (z:Int):List Value:=[.bool (ar z),.string (bs (nt z.natAbs))]
def zC (zs:List Int):List Value:=zs.flatMap iC
theorem amb (a b:List Int):zC (a++b)=zC a++zC b:=by unfold zC;rw[List.flatMap_append]
def jf (w:World)(base n:Nat)(R:List (List Int))(k:Nat)(v:Value):Prop:=
 ∃vals:List Value,vals.length=k/\w.ownsRow base 134 1 v k vals/\(∀i (h:i<vals.length),w.ownsRow base 28 2 vals[i] n (zC (R.getD i [])))/\
  ∀i j (hi:i<vals.length) (hj:j<vals.length) g,vals[i].ownBlock=some g->vals[j].ownBlock=some g->i=j
theorem jf.nil (w:World)(base n:Nat)(R:List (List Int)):jf w base n R 0 (.slice none 0 0):=
 ⟨[],rfl,World.ownsRow_nil _ _ _ _,λ_ h=>absurd h (Nat.not_lt_zero _),λ_ _ h=>absurd h (Nat.not_lt_zero _)⟩
theorem jf.below {w w':World}{base n k:Nat}{R:List (List Int)}{v:Value}(h:jf w base n R k v)(hb:Bw w w'):jf w' base n R k v:=by obtain⟨vals,hl,ho,hi,hd⟩:=h;exact⟨vals,hl,ownsRow_below ho hb,λi h=>ownsRow_below (hi i h) hb,hd⟩
theorem wh {W:World}{b1 b2 e1 e2 s1 s2 k1 k2:Nat}{v1 v2:Value}{x1 x2:List Value}(h1:W.ownsRow b1 e1 s1 v1 k1 x1)(h2:W.ownsRow b2 e2 s2 v2 k2 x2)(he:e1≠e2):v1.ownBlock=none\/v1.ownBlock≠v2.ownBlock:=by
 rcases h1.2 with⟨rfl,_⟩ |⟨g,cap,cur,rfl,_,hg,_⟩
 . exact .inl rfl
 . refine .inr λh=>?_;rcases h2.2 with⟨rfl,_⟩ |⟨g',cap',cur',rfl,_,hg',_⟩
   . simp[Value.ownBlock]at h
   . simp only[Value.ownBlock,Option.some.injEq]at h;subst h;rw[hg]at hg';simp at hg';exact he hg'.2
theorem pU {W:World}{base base':Nat}{e:TypeId}{size:Nat}{v:Value}{n:Nat}{xs:List Value}(h:W.ownsRow base e size v n xs)(hb:base'<=base):W.ownsRow base' e size v n xs:=by
 refine⟨h.1,?_⟩;rcases h.2 with h2|⟨g,cap,cur,h1,h2,h3⟩
 . exact .inl h2
 . exact .inr ⟨g,cap,cur,h1,Nat.le_trans hb h2,h3⟩
theorem jf.push {w w':World}{base n k:Nat}{R:List (List Int)}{v v' x:Value}{vals:List Value}(hl:vals.length=k)(hov:w.ownsRow base 134 1 v k vals)(hi:∀i (h:i<vals.length),w.ownsRow base 28 2 vals[i] n (zC (R.getD i [])))
 (hd:∀i j (hi:i<vals.length) (hj:j<vals.length) g,vals[i].ownBlock=some g->vals[j].ownBlock=some g->i=j)
 (hx:w.ownsRow base 28 2 x n (zC (R.getD k []))) (mH:∀g,x.ownBlock=some g->∀i (h:i<vals.length),vals[i].ownBlock≠some g)
 (ho:w'.ownsRow base 134 1 v' (k+1) (vals++[x])) (hg:w.grownBy w' v.ownBlock):jf w' base n R (k+1) v':=by
 refine⟨_,by simp[hl],ho,λi h=>?_,λi j h1 h2 g e1 e2=>?_⟩
 . by_cases hk:i<vals.length
   . rw[List.getElem_append_left hk];exact(hi i hk).kept hg (wh (hi i hk) hov zd)
   . have hik:i=k:=by simp at h;omega
     subst hik;rw[List.getElem_append_right zo];simp only[hl,Nat.sub_self,List.getElem_cons_zero];exact hx.kept hg (wh hx hov zd)
 . by_cases k1:i<vals.length
   . rw[List.getElem_append_left k1]at e1;by_cases k2:j<vals.length
     . rw[List.getElem_append_left k2]at e2;exact hd i j k1 k2 g e1 e2
     . have hjk:j=k:=by simp at h2;omega
       subst hjk;rw[List.getElem_append_right zo]at e2;simp only[hl,Nat.sub_self,List.getElem_cons_zero]at e2;exact absurd e1 (mH g e2 i k1)
   . have hik:i=k:=by simp at h1;omega
     subst hik;rw[List.getElem_append_right zo]at e1;simp only[hl,Nat.sub_self,List.getElem_cons_zero]at e1;by_cases k2:j<vals.length
     . rw[List.getElem_append_left k2]at e2;exact absurd e2 (mH g e1 j k2)
     . simp at h2;omega
def kV (l:Int)(ds:List Dyadic):Int:=ds.foldl (λl d=>min l (dE d)) l
def lR (l:Int)(R:List (List Dyadic)):Int:=R.foldl kV l
def pV (low:Int)(d:Dyadic):Int:=dN d*2^(dE d-low).toNat
theorem WY (l:Int)(ds:List Dyadic):kV l ds<=l/\∀d∈ds,kV l ds<=dE d:=by
 induction ds generalizing l with
 |nil=>exact⟨Int.le_refl _,λd h=>by cases h⟩
 | cons x xs ih=>
   have h:=ih (min l (dE x));have e:kV l (x::xs)=kV (min l (dE x)) xs:=rfl;rw[e];refine⟨by omega,λd hd=>?_⟩;rcases List.mem_cons.1 hd with rfl|hd
   . omega
   . exact h.2 d hd
theorem NM (l:Int)(R:List (List Dyadic)):lR l R<=l/\∀r∈R,∀d∈r,lR l R<=dE d:=by
 induction R generalizing l with
 |nil=>exact⟨Int.le_refl _,λd h=>by cases h⟩
 | cons x xs ih=>
   have h:=ih (kV l x);have h1:=WY l x;have e:lR l (x::xs)=lR (kV l x) xs:=rfl;rw[e];refine⟨by omega,λr hr d hd=>?_⟩;rcases List.mem_cons.1 hr with rfl|hr
   . have:=h1.2 d hd;omega
   . exact h.2 r hr d hd
theorem WX (l:Int)(ds:List Dyadic)(m:Int)(hl:m<=l)(h:∀d∈ds,m<=dE d):m<=kV l ds:=by
 induction ds generalizing l with
 |nil=>exact hl
 |cons x xs ih=>have hx:=h x (List.mem_cons_self ..);exact ih (min l (dE x)) zo (λd hd=>h d (List.mem_cons_of_mem _ hd))
theorem NL (l:Int)(R:List (List Dyadic))(m:Int)(hl:m<=l)(h:∀r∈R,∀d∈r,m<=dE d):m<=lR l R:=by
 induction R generalizing l with
 |nil=>exact hl
 |cons x xs ih=>exact ih (kV l x) (WX l x m hl (h x (List.mem_cons_self ..))) (λr hr=>h r (List.mem_cons_of_mem _ hr))
theorem ahO (l:Int)(ds:List Dyadic)(k:Nat)(h:k<ds.length):kV l (ds.take (k+1))=min (kV l (ds.take k)) (dE ds[k]):=by unfold kV;rw[List.take_succ_eq_append_getElem h,List.foldl_append];rfl
theorem ahP (l:Int)(R:List (List Dyadic))(k:Nat)(h:k<R.length):lR l (R.take (k+1))=kV (lR l (R.take k)) R[k]:=by unfold lR;rw[List.take_succ_eq_append_getElem h,List.foldl_append];rfl
theorem ae8 (x y z:Value)(W:World):(Instr.field 30 (.agg #[x,y,z]) 1).run Tryz.prog W=.ok z W:=by kernel_rfl
theorem akD (low:Int)(d:Dyadic)(h:low<=dE d):Dyadic.ofIntWithPrec (pV low d) (-low)=d:=by
 have e: -low= -(dE d)+((dE d-low).toNat:Int):=by omega
 unfold pV;rw[e,ui];exact(sK d).symm
theorem Yq (a:Option Addr)(L cap n:Nat)(rows:List (List Raw))(B:Nat)(low:Int)(w:World)(hL:rows.length=L)(hL8:L<=8)(tZ:n<=8)(hrow:∀r∈rows,r.length=n)(ha:aR w a rows)
 (hfit:∀r∈rows,∀c∈r,Fit B c) (hB:B<=10000000) (hT:aF w) (jH:lR 0 (rows.map λr=>r.map az)=low):
 Calls Tryz.prog 87 #[.slice a L cap] w λe w'=>∃v,e=.returned (.tuple #[v,.int .i64 (-low)])/\
  jf w' w.heap.size n ((rows.map λr=>r.map az).map λr=>r.map (pV low)) L v/\Bw w w':=by
 obtain⟨i0,hi,hz0,hz1,hz2⟩:=info_parts Tryz.apC;obtain⟨j0,hj,hy0,hy1,hy2⟩:=info_parts Tryz.apD;obtain⟨D,hD⟩:=aB (rows.map λr=>r.map az);have TD:D.length=L:=by rw[<-hD];simp[hL]
 have TF:∀k (h:k<rows.length) (h':k<D.length),D[k]=rows[k].map az:=λk h h'=>by subst hD;simp
 have CL:∀r∈D,∀d∈r,-268435456<=dE d/\dE d<=268435456:=by intro r hr d hd;rw[<-hD]at hr;obtain⟨r',hr',rfl⟩:=List.mem_map.1 hr;obtain⟨x,hx,rfl⟩:=List.mem_map.1 hd;exact(((hfit r' hr' x hx).2).fit zo).1.2
 rw[hD]at jH⊢;have hlo:low<=0/\∀r∈D,∀d∈r,low<=dE d:=by rw[<-jH];exact NM 0 D
 have hlb: -268435456<=low:=by rw[<-jH];exact NL 0 D _ zd (λr hr d hd=>(CL r hr d hd).1)
 have Dx:∀k j (h:k<D.length) (h':j<=D[k].length),-268435456<=kV (lR 0 (D.take k)) (D[k].take j)/\kV (lR 0 (D.take k)) (D[k].take j)<=0:=by intro k j h h';have g1: -268435456<=lR 0 (D.take k):=NL 0 _ _ zd (λr hr d hd=>(CL r (List.mem_of_mem_take hr) d hd).1);have g2:=(NM 0 (D.take k)).1;have g3:=(WY (lR 0 (D.take k)) (D[k].take j)).1;exact⟨WX _ _ _ g1 (λd hd=>(CL _ (List.getElem_mem h) d (List.mem_of_mem_take hd)).1),by omega⟩
 obtain⟨Hi,cG,cH,cE,Hj,gV,iL,iM,Je,Qd,HDe,aaR⟩:=fR hi hz0 hz1 hz2 hj hy0 hy1 hy2 TD TF CL jH;obtain⟨QX,Hlb,Fg,Ha,HT,nU,wO,HL⟩:=nJ hlo hlb Dx ha hT hrow hfit hL;have hnl:IntKind.i64.wrap (-low)= -low:=by rw[IntKind.wrap_i64];omega
 obtain⟨nl,MS⟩:=aB (-low);obtain⟨S,hS⟩:=aB (D.map λr=>r.map (pV low));have ij:∀k (h:k<D.length),S.getD k []=D[k].map (pV low):=λk h=>by subst hS;simp[h]
 rw[hS,MS];have Vy:IntKind.i64.wrap (-low)=nl:=by rw[hnl,MS]
 obtain⟨Kc,jR⟩:=aL Vy ij;clear hnl MS Vy hS ij hi hz0 hz1 hz2 hj hy0 hy1 hy2 Dx hlb hlo CL TF TD jH ha hT hrow hfit hL hD;go_enter Tryz.func87,Tryz.ntmps87;have Hb:Hid (Bw w w):=Below.refl _ _;go_wp2_with fail;go_loopw[4,18] (λs4 x wr=>∃k:Nat,k<=L/\x=.int .i64 (k:Int)/\s4=.int .i64 (lR 0 (D.take k))/\Bw w wr) (λ_ x _=>L-(intOf x).toNat);case atStart=>exact⟨0,Nat.zero_le _,rfl,rfl,Hb.out⟩
 case round=>
  clear Hb;obtain⟨k,hk,rfl,rfl,pb⟩:=hrel;by_cases hlt:k<L
  . have hk2:k<rows.length:=by rw[HL.out];exact hlt
    have hk3:k<D.length:=by rw[Je.out];exact hlt
    obtain⟨p,gM⟩:=aB (rows[k]);obtain⟨b,o,a1,c1,hab,hc1,hat⟩:=(Ha.out.below pb).row k hk2;have ki:p.length=n:=by rw[<-gM];exact nU.out _ (List.getElem_mem hk2)
    have fJ:∀x∈p,Fit B x:=by rw[<-gM];exact wO.out _ (List.getElem_mem hk2)
    have tM:=Qd.out k hk2 hk3;rw[gM]at hc1 hat tM;rw[ki]at hc1;have iB:=ug L cap k (k:Int) hab hlt rfl;rw[Nat.mul_one]at iB;have hst:=ahP 0 D k hk3;have hpt:=λj (h:j<=n)=>Fg.out k j hk3 (by rw[tM,List.length_map,ki];exact h);rw[tM]at hst;simp only[tM]at hpt;obtain⟨l0,hl0⟩:=aB (lR 0 (D.take k));rw[hl0]at hst⊢;simp only[hl0]at hpt;obtain⟨fc,lA,lv,cd,Hpt,aO⟩:=gN hat ki fJ hst hpt pb;clear hat ki fJ hst hpt pb hab gM tM hl0 hk2 hk3;obtain⟨wc,hwc⟩:∃wc,wc=wr:=⟨_,rfl⟩;subst hwc;have gB:=aO.out.size;go_wp2_with fail;go_loopw[4,24] (λs4 x wr=>∃j:Nat,j<=n/\x=.int .i64 (j:Int)/\s4=.int .i64 (kV l0 ((p.map az).take j))/\Bw wc wr) (λ_ x _=>n-(intOf x).toNat);case atStart=>exact⟨0,Nat.zero_le _,rfl,rfl,Below.refl _ _⟩
    case round=>
     clear hc1;obtain⟨j,hj,rfl,rfl,hb2⟩:=hrel;by_cases bj:j<n
     . have k1:j<p.length:=by rw[lA.out];exact bj
       obtain⟨sp,mp,ep,dZ⟩:=iA (p[j]);have df:=lv.out _ (List.getElem_mem k1);have hst:=ahO l0 (p.map az) j (by simpa using k1);rw[List.getElem_map,dZ]at hst;rw[dZ]at df;obtain⟨X,hX⟩:=aB (az (sp,mp,ep));rw[hX]at hst;obtain⟨l1,ny⟩:=aB (kV l0 ((p.map az).take j));rw[ny]at hst⊢;obtain⟨b1,o1,bW,p0,p1,p2⟩:=(fc.out.below hb2).num j k1 dZ;have MH:=mK n c1 j (j:Int) bW bj rfl;have Hp:Hid (aV wr b1 (o1+j*3) [.bool sp,.string (bs mp),.int .i64 ep]):=fS p0 p1 p2;obtain⟨iH,HX,lh,iX,cz⟩:=fg df.1 hX hb2 hst ((HT.out.below aO.out).below hb2);clear hb2 df hX hst dZ bW p0 p1 p2 ny;have Hb:Hid (Bw wr wr):=Below.refl _ _;obtain⟨p0,p1,p2⟩:=Hp.out.w3;have P0:=p0;have P1:=p1;have P2:=p2;have fl:=ae8 (.bool (ar (dN X))) (.string (bs (nt (dN X).natAbs))) (.int .i64 (dE X));obtain⟨W4,mF,ae,Hc⟩:=cN wr 30 [.bool sp,.string (bs mp),.int .i64 ep];clear p0 p1 p2;replace Hp:=kW Hp ae;obtain⟨p0,p1,p2⟩:=Hp.out.w3;obtain⟨c0,c1,c2⟩:=Hc.out.c3;replace Hb:=au Hb ae;clear ae;have HT:Hid (aF W4):=cz.out.below Hb.out;go_wp2_with fail;refine(pp sp mp ep X HX.out _ iH.out HT.out).mono ?_;rintro e w5 ⟨rfl,ae⟩;clear p0 p1 p2 c0 c1 c2;replace Hp:=kW Hp ae;replace Hc:=kB Hc ae;replace HT:=kT HT ae;obtain⟨p0,p1,p2⟩:=Hp.out.w3;obtain⟨c0,c1,c2⟩:=Hc.out.c3;replace Hb:=au Hb ae;clear ae;go_wp2;go_roundw;case rel=>exact⟨j+1,by omega,by go_num,by rw[iX.out],aJ lh.out Hb.out⟩
       case measure=>simp[intOf];omega
     . obtain rfl:j=n:=by omega
       have hpt:(p.map az).take j=p.map az:=List.take_of_length_le (by simp[lA.out]);rw[hpt];go_wp2;go_roundw;case rel=>exact⟨k+1,by omega,by go_num,by rw[cd.out],aJ aO.out hb2⟩
       case measure=>simp[intOf];omega
  . obtain rfl:k=L:=by omega
    have TG:D.take k=D:=List.take_of_length_le (by rw[Je.out];exact Nat.le_refl _);rw[TG,aaR.out];have aO:=ah pb;clear pb TG;obtain⟨wa,hwa⟩:∃wa,wa=wr:=⟨_,rfl⟩;subst hwa;have Pw:=aO.out.size;go_wp2_with fail;go_loopw[9,37] (λs9 x wr=>∃(i:Nat) (v:Value),i<=k/\x=.int .i64 (i:Int)/\v=s9/\jf wr w.heap.size n S i v/\Bw w wr) (λ_ x _=>k-(intOf x).toNat);case atStart=>exact⟨0,_,Nat.zero_le _,rfl,rfl,jf.nil _ _ _ _,aO.out⟩
    case round=>
     clear aO Pw;obtain⟨i,v,hk,rfl,rfl,pv,pb⟩:=hrel;by_cases hlt:i<k
     . have hk2:i<rows.length:=by rw[HL.out];exact hlt
       have hk3:i<D.length:=by rw[Je.out];exact hlt
       obtain⟨p,gM⟩:=aB (rows[i]);obtain⟨b,o,a1,c1,hab,hc1,hat⟩:=(Ha.out.below pb).row i hk2;have ki:p.length=n:=by rw[<-gM];exact nU.out _ (List.getElem_mem hk2)
       have fJ:∀x∈p,Fit B x:=by rw[<-gM];exact wO.out _ (List.getElem_mem hk2)
       have tM:=Qd.out i hk2 hk3;have ol:=jR.out i hk3;have hpl:=QX.out.2 _ (List.getElem_mem hk3);rw[gM]at hc1 hat tM;rw[tM]at ol hpl;rw[ki]at hc1;have iB:=ug k cap i (i:Int) hab hlt rfl;rw[Nat.mul_one]at iB;obtain⟨Z,hZ⟩:=aB ((p.map az).map (pV low));rw[hZ]at ol;obtain⟨fc,lA,lv,uy,HZ,lw,aO,cK⟩:=nJ hat ki fJ ol hZ hpl pb pv;clear hat ki fJ ol hZ hpl pb pv hab gM tM hk2 hk3;obtain⟨wc,hwc⟩:∃wc,wc=wr:=⟨_,rfl⟩;subst hwc;have gB:=aO.out.size;go_wp2_with fail;go_loopw[12,43] (λs12 x wr=>∃(j:Nat) (v2:Value),j<=n/\x=.int .i64 (j:Int)/\v2=s12/\wr.ownsRow wc.heap.size 28 2 v2 j (zC (Z.take j))/\Bw wc wr) (λ_ x _=>n-(intOf x).toNat);case atStart=>exact⟨0,_,Nat.zero_le _,rfl,rfl,World.ownsRow_nil _ _ _ _,Below.refl _ _⟩
       case round=>
        clear hc1;obtain⟨j,v2,hj,rfl,rfl,ho,hb2⟩:=hrel;by_cases bj:j<n
        . have k1:j<p.length:=by rw[lA.out];exact bj
          obtain⟨sp,mp,ep,dZ⟩:=iA (p[j]);have df:=lv.out _ (List.getElem_mem k1);rw[dZ]at df;obtain⟨X,hX⟩:=aB (az (sp,mp,ep));have hle:low<=dE X:=lw.out X (by rw[<-hX,<-dZ];exact List.mem_map_of_mem (List.getElem_mem k1));have fD:Sm B X:=by rw[<-hX];exact df.2
          have Ml:=(fD.fit zo).1;have pC:(nt (dN X).natAbs).length<=268435456:=Ml.1;have hXe: -268435456<=dE X/\dE X<=268435456:=Ml.2;obtain⟨Y,hY⟩:=aB (pV low X);have hlb:=Hlb.out;have hl0:=QX.out.1;obtain⟨t,ht⟩:∃t:Int,dE X-low=t:=⟨_,rfl⟩;have hwr:IntKind.i64.wrap (dE X-low)=t:=by rw[IntKind.wrap_i64];omega
          have hsh:∀W,Calls Tryz.prog 106 #[.agg #[.bool (ar (dN X)),.string (bs (nt (dN X).natAbs))],.int .i64 t] W λe w'=>e=.returned (cX Y)/\Bw W w':=by intro W;have h:=PL (ar (dN X)) (nt (dN X).natAbs) (dE X-low).toNat W zo zo;rw[fq,show((dE X-low).toNat:Int)=t by omega]at h;rw[<-hY];exact h
          have cd:Hid (zC (Z.take (j+1))=zC (Z.take j)++[.bool (ar Y),.string (bs (nt Y.natAbs))]):=by
           show _=_
           rw[<-HZ.out,List.take_succ_eq_append_getElem (by simpa using k1),amb];congr 1;simp only[List.getElem_map,dZ,hX,hY];rfl
          obtain⟨b1,o1,bW,p0,p1,p2⟩:=(fc.out.below hb2).num j k1 dZ;have MH:=mK n c1 j (j:Int) bW bj rfl;have Hp:Hid (aV wr b1 (o1+j*3) [.bool sp,.string (bs mp),.int .i64 ep]):=fS p0 p1 p2;obtain⟨iH,HX,Ho,bP,Hsh,Hwr,cz⟩:=pR df.1 hX ho hb2 hsh hwr ((HT.out.below aO.out).below hb2);have oM:=hb2.size;clear ho hb2 df hX dZ bW p0 p1 p2 hle fD Ml pC hXe hY hlb hl0 ht hsh hwr;have Hb:Hid (Bw wr wr):=Below.refl _ _;obtain⟨p0,p1,p2⟩:=Hp.out.w3;have P0:=p0;have P1:=p1;have P2:=p2;obtain⟨W4,mF,ae,Hc⟩:=cN wr 30 [.bool sp,.string (bs mp),.int .i64 ep];clear p0 p1 p2;replace Hp:=kW Hp ae;obtain⟨p0,p1,p2⟩:=Hp.out.w3;obtain⟨c0,c1,c2⟩:=Hc.out.c3;replace Hb:=au Hb ae;clear ae;have HT:Hid (aF W4):=cz.out.below Hb.out;go_wp2_with fail;refine(pp sp mp ep X HX.out _ iH.out HT.out).mono ?_;rintro e w5 ⟨rfl,ae⟩;clear p0 p1 p2 c0 c1 c2;replace Hp:=kW Hp ae;replace Hc:=kB Hc ae;replace HT:=kT HT ae;obtain⟨p0,p1,p2⟩:=Hp.out.w3;obtain⟨c0,c1,c2⟩:=Hc.out.c3;replace Hb:=au Hb ae;clear ae;have Xd:=Hc.out.lt;obtain⟨W6,ot,ae,Hy⟩:=cN w5 30 [.bool (ar (dN X)),.string (bs (nt (dN X).natAbs)),.int .i64 (dE X)];clear p0 p1 p2;replace Hp:=kW Hp ae;clear c0 c1 c2;replace Hc:=kB Hc ae;replace HT:=kT HT ae;obtain⟨p0,p1,p2⟩:=Hp.out.w3;obtain⟨c0,c1,c2⟩:=Hc.out.c3;obtain⟨y0,y1,y2⟩:=Hy.out.c3;replace Hb:=au Hb ae;clear ae;have hwr:=Hwr.out;go_wp2_with fail;refine(Hsh.out _).mono ?_;rintro e w7 ⟨rfl,ae⟩;clear p0 p1 p2 c0 c1 c2 y0 y1 y2;replace Hp:=kW Hp ae;replace Hc:=kB Hc ae;replace HT:=kT HT ae;replace Hy:=kB Hy ae;obtain⟨p0,p1,p2⟩:=Hp.out.w3;obtain⟨c0,c1,c2⟩:=Hc.out.c3;obtain⟨y0,y1,y2⟩:=Hy.out.c3;replace Hb:=au Hb ae;clear ae hwr;have anX:=Hc.out.lt;have Xg:=Hy.out.lt;obtain⟨W8,Ui,ae,Hd⟩:=cN w7 28 [.bool (ar Y),.string (bs (nt Y.natAbs))];clear p0 p1 p2;replace Hp:=kW Hp ae;clear c0 c1 c2;replace Hc:=kB Hc ae;replace HT:=kT HT ae;clear y0 y1 y2;replace Hy:=kB Hy ae;obtain⟨p0,p1,p2⟩:=Hp.out.w3;obtain⟨c0,c1,c2⟩:=Hc.out.c3;obtain⟨y0,y1,y2⟩:=Hy.out.c3;obtain⟨d0,d1⟩:=Hd.out.c2;replace Hb:=au Hb ae;clear ae;have cm:=ownsRow_below Ho.out Hb.out;have ia:=Hb.out.size;have hnews:=fM Hd.out;clear d0 d1;go_wp2_with (at_builtin;refine wpList_append_own_at _ rfl _ _ 134 rfl wc.heap.size 28 i0 _ 2 24 Tryz.underlying134 Hi.out cG.out cH.out cE.out rfl zd v2 j (zC (Z.take j)) rfl cm ⟨w7.heap.size,0,none⟩ 1 1 [.bool (ar Y),.string (bs (nt Y.natAbs))] rfl rfl hnews zy zx zo zo ?_;intro v' w9 gy qV _ _;obtain⟨g',lF,rfl⟩:=ownsRow_succ gy);go_roundw;case rel=>
           refine⟨j+1,_,by omega,by go_num,rfl,?_,?_⟩
           . rw[cd.out];exact gy
           . exact(aJ bP.out Hb.out).grown qV zo (λj e=>cJ cm j e)
          case measure=>simp[intOf];omega
        . obtain rfl:j=n:=by omega
          have fW:Z.take j=Z:=List.take_of_length_le (by rw[<-HZ.out];simp[lA.out]);rw[fW]at ho;obtain⟨a2,cap2,rfl,_,_⟩:=di ho;have gw:=ho.lt;obtain⟨vals,hvl,hov,iD,DL⟩:=cK.out;have mH:∀g,(Value.slice a2 j cap2).ownBlock=some g->∀m (h:m<vals.length),vals[m].ownBlock≠some g:=by intro g h1 m h2 h3;have:=(gw g h1).1;have:=((iD m h2).lt g h3).2;omega
          obtain⟨BH,iK,nX,cM,bP,KE,Ho⟩:=pR mH hvl iD hov hb2 DL ho;have Hb:Hid (Bw wr wr):=Below.refl _ _;have oM:=hb2.size;clear mH hvl hov iD hb2 DL gw fW ho bj hj;obtain⟨W6,ot,ae,Hd⟩:=cN wr 134 [.slice a2 j cap2];have d0:=Hd.out.c1;replace Hb:=au Hb ae;clear ae;have LK:=aJ bP.out Hb.out;have cm:=ownsRow_below cM.out LK;have ia:=Hb.out.size;have hnews:∀i u,([.slice a2 j cap2]:List Value)[i]?=some u->W6.cell? ((⟨wr.heap.size,0,none⟩:Addr).add i)=some u:=fM Hd.out;clear d0;go_wp2_with (at_builtin;refine wpList_append_own_at _ rfl _ _ 116 rfl w.heap.size 134 j0 _ 1 24 Tryz.underlying116 Hj.out gV.out iL.out iM.out rfl zd v i vals rfl cm ⟨wr.heap.size,0,none⟩ 1 1 [.slice a2 j cap2] rfl rfl hnews zy zx zo zo ?_;intro v' w7 dt eD _ _;obtain⟨g',lF,rfl⟩:=ownsRow_succ dt);go_roundw;case rel=>
           refine⟨i+1,_,by omega,by go_num,rfl,?_,?_⟩
           . refine jf.push (w:=W6) iK.out cm (λm h=>ownsRow_below (nX.out m h) LK) KE.out ?_ BH.out dt eD;rw[uy.out];exact pU (ownsRow_below Ho.out Hb.out) zo
           . exact(aJ aO.out LK).grown eD zo (λj e=>cJ cm j e)
          case measure=>simp[intOf];omega
     . obtain rfl:i=k:=by omega
       obtain⟨aO,cK⟩:=aL pb pv;clear pb pv;have hnl:=Kc.out;go_wp2;refine bodyPost_ret (v:=.tuple #[v,.int .i64 nl]) (by simp[results,Tryz.results87,go_sem]) rfl ⟨v,rfl,cK.out,aO.out⟩
end Go.Proofs.YtdaadlblknpipaaGreatDoor
namespace Go.Proofs.YtdaadlblknpipaaGreatDoor
open Go.RowKit
theorem kX {w:World}{base:Nat}{e:TypeId}{size n cap g:Nat}{xs:List Value}(h:w.ownsRow base e size (.slice (some ⟨g,0,none⟩) n cap) n xs)(j:Nat)(hj:j<xs.length):w.cell? ⟨g,j,none⟩=some xs[j]:=by
 rcases h.2 with⟨h1,_⟩ |⟨g',cap',cur,h1,_,hg,_,_,_,hx⟩
 . simp at h1
 . simp only[Value.slice.injEq,Option.some.injEq,Addr.mk.injEq,and_true,true_and]at h1;obtain⟨rfl,rfl⟩:=h1;have h2:cur.toList.take (n*size)=xs:=hx;have h3:cur.toList[j]?=some xs[j]:=by rw[<-List.getElem?_eq_getElem hj];simp only[<-h2];rw[List.getElem?_take];rw[<-h2,List.length_take]at hj;rw[if_pos (Nat.lt_of_lt_of_le hj (Nat.min_le_left _ _))]
   have h4:ak w g e cur.toList:=by unfold ak;simpa using hg
   rw[h4.cell];exact h3
theorem jL {w:World}{base:Nat}{e:TypeId}{size n cap g:Nat}{xs:List Value}(h:w.ownsRow base e size (.slice (some ⟨g,0,none⟩) n cap) n xs)(j:Nat)(u:Value):(w.setCell ⟨g,j,none⟩ u).ownsRow base e size (.slice (some ⟨g,0,none⟩) n cap) n (xs.set j u):=by
 refine⟨by rw[List.length_set];exact h.1,?_⟩;rcases h.2 with⟨h1,_⟩ |⟨g',cap',cur,h1,hb,hg,h4,h5,h6,hx⟩
 . simp at h1
 . simp only[Value.slice.injEq,Option.some.injEq,Addr.mk.injEq,and_true,true_and]at h1;obtain⟨rfl,rfl⟩:=h1;refine .inr ⟨g,cap,cur.setIfInBounds j u,rfl,hb,?_,h4,h5,by simpa using h6,?_⟩
   . simp[World.setCell,Array.getElem?_modify,hg]
   . rw[<-hx];simp[List.take_set]
theorem amd (zs:List Int):(zC zs).length=zs.length*2:=iY iC 2 (λ_=>rfl) zs
theorem amc (zs:List Int)(j:Nat)(hj:j<zs.length):(zC zs)[j*2]?=some (.bool (ar zs[j]))/\(zC zs)[j*2+1]?=some (.string (bs (nt zs[j].natAbs))):=by
 induction zs generalizing j with
 |nil=>simp at hj
 | cons z zs ih=>
   have e:zC (z::zs)=.bool (ar z)::.string (bs (nt z.natAbs))::zC zs:=rfl;rw[e];cases j with
   |zero=>exact⟨rfl,rfl⟩
   |succ j=>have:=ih j (by simpa using hj);rw[show(j+1) *2=j*2+1+1 by omega];simpa using this
theorem ame (zs:List Int)(j:Nat)(hj:j<zs.length)(y:Int):((zC zs).set (j*2) (.bool (ar y))).set (j*2+1) (.string (bs (nt y.natAbs)))=zC (zs.set j y):=by
 induction zs generalizing j with
 |nil=>simp at hj
 | cons z zs ih=>
   have e:zC (z::zs)=.bool (ar z)::.string (bs (nt z.natAbs))::zC zs:=rfl;rw[e];cases j with
   |zero=>rfl
   |succ j=>have:=ih j (by simpa using hj);rw[show(j+1) *2=j*2+1+1 by omega];simp only[List.set_cons_succ];rw[this];rfl
theorem jf.num {w:World}{base n L:Nat}{R:List (List Int)}{v:Value}(h:jf w base n R L v)(i j:Nat)(hi:i<L)(hj:j<n)(hR:R.length=L)(hr:(R.getD i []).length=n):
 ∃go cap g c,v=.slice (some ⟨go,0,none⟩) L cap/\base<=go/\base<=g/\g≠go/\w.cell? ⟨go,i,none⟩=some (.slice (some ⟨g,0,none⟩) n c)/\
  w.cell? ⟨g,j*2,none⟩=some (.bool (ar ((R.getD i []).getD j 0)))/\w.cell? ⟨g,j*2+1,none⟩=some (.string (bs (nt ((R.getD i []).getD j 0).natAbs)))/\
  ∀y:Int,jf ((w.setCell ⟨g,j*2,none⟩ (.bool (ar y))).setCell ⟨g,j*2+1,none⟩ (.string (bs (nt y.natAbs)))) base n (R.set i ((R.getD i []).set j y)) L v:=by
 obtain⟨vals,hl,ho,hv,hd⟩:=h;have hi2:i<vals.length:=by omega
 have hrow:=hv i hi2;have hxl:(zC (R.getD i [])).length=n*2:=by rw[amd,hr]
 obtain⟨a0,cap,rfl,_,_⟩:=di ho;obtain⟨a1,c,e1,_,hab⟩:=di hrow;rw[e1]at hrow;rcases ho.2 with⟨h1,_⟩ |⟨go,cap',cur,h1,tV,hgo,_⟩
 . simp at h1;omega
 simp only[Value.slice.injEq,true_and]at h1;obtain⟨rfl,rfl⟩:=h1;rcases hrow.2 with⟨h1,_⟩ |⟨g,c',cur',h1,hbg,hgg,_⟩
 . simp at h1;omega
 simp only[Value.slice.injEq,true_and]at h1;obtain⟨rfl,rfl⟩:=h1;have hne:g≠go:=by rintro rfl;rw[hgo]at hgg;simp at hgg
 have hat:=amc (R.getD i []) j zo;have hg0:(R.getD i []).getD j 0=(R.getD i [])[j]'zo:=by rw[List.getD_eq_getElem?_getD,List.getElem?_eq_getElem zo];rfl
 have hc0:=kX hrow (j*2) zo;have hc1:=kX hrow (j*2+1) zo;rw[<-List.getElem?_eq_getElem]at hc0 hc1;rw[hat.1]at hc0;rw[hat.2]at hc1;refine⟨go,cap,g,c,rfl,tV,hbg,hne,?_,by rw[hg0];exact hc0,by rw[hg0];exact hc1,λy=>?_⟩
 . rw[kX ho i zo,e1]
 . refine⟨vals,hl,?_,λm hm=>?_,hd⟩
   . exact ownsRow_setCell_other (ownsRow_setCell_other ho (by simpa[Value.ownBlock]using hne.symm) _) (by simpa[Value.ownBlock]using hne.symm) _
   . by_cases tY:m=i
     . subst tY;have hs:(R.set m ((R.getD m []).set j y)).getD m []=(R.getD m []).set j y:=by rw[List.getD_eq_getElem?_getD,List.getElem?_set_self zo];rfl
       rw[hs,e1,<-ame _ _ zo];exact jL (jL hrow _ _) _ _
     . have hs:(R.set i ((R.getD i []).set j y)).getD m []=R.getD m []:=by rw[List.getD_eq_getElem?_getD,List.getElem?_set_ne (λe=>tY e.symm),<-List.getD_eq_getElem?_getD]
       rw[hs];have hno:vals[m].ownBlock≠some g:=λe=>tY (hd m i hm hi2 g e (by rw[e1];rfl));exact ownsRow_setCell_other (ownsRow_setCell_other (hv m hm) hno _) hno _
def swp (i m k:Nat):Nat:=if k=i then m else if k=m then i else k
theorem ak3 {i m a b:Nat}(h:swp i m a=swp i m b):a=b:=by
 unfold swp at h;repeat' split at h
 all_goals omega
theorem IR {i m k L:Nat}(hi:i<L)(hm:m<L)(hk:k<L):swp i m k<L:=by
 unfold swp;repeat' split
 all_goals omega
theorem Pf {α:Type}(l:List α)(d:α)(i m:Nat)(hi:i<l.length)(hm:m<l.length)(k:Nat)(hk:k<l.length):((l.set i (l.getD m d)).set m (l.getD i d)).getD k d=l.getD (swp i m k) d:=by
 unfold swp;by_cases h1:k=m
 . subst h1;rw[List.getD_eq_getElem?_getD,List.getElem?_set_self (by simpa using hk)];by_cases h2:k=i
   . subst h2;simp
   . simp[h2]
 . rw[List.getD_eq_getElem?_getD,List.getElem?_set_ne (λe=>h1 e.symm)];by_cases h2:k=i
   . subst h2;rw[List.getElem?_set_self (by simpa using hk)];simp
   . rw[List.getElem?_set_ne (λe=>h2 e.symm)];simp[h1,h2]
theorem jf.swap {w:World}{base n L go cap:Nat}{R:List (List Int)}(h:jf w base n R L (.slice (some ⟨go,0,none⟩) L cap))(i m:Nat)(hi:i<L)(hm:m<L)(hR:R.length=L):
 ∃x y,w.cell? ⟨go,i,none⟩=some x/\w.cell? ⟨go,m,none⟩=some y/\jf ((w.setCell ⟨go,i,none⟩ y).setCell ⟨go,m,none⟩ x) base n ((R.set i (R.getD m [])).set m (R.getD i [])) L (.slice (some ⟨go,0,none⟩) L cap):=by
 obtain⟨vals,hl,ho,hv,hd⟩:=h;have hi2:i<vals.length:=by omega
 have hm2:m<vals.length:=by omega
 have hgo:∀k (hk:k<vals.length),vals[k].ownBlock≠some go\/vals[k].ownBlock=none:=by
  intro k hk;rcases wh (hv k hk) ho zd with e|e
  . exact .inr e
  . exact .inl e
 have hel:∀k (hk:k<vals.length),((vals.set i vals[m]).set m vals[i])[k]'(by simpa using hk)=vals[swp i m k]'(IR hi2 hm2 hk):=by intro k hk;have:=Pf vals (.bool false) i m hi2 hm2 k hk;have hs:=IR hi2 hm2 hk;simpa[List.getD_eq_getElem?_getD,List.getElem?_eq_getElem,hi2,hm2,hk,hs]using this
 refine⟨vals[i],vals[m],kX ho i zo,kX ho m zo,_,by simp[hl],jL (jL ho i _) m _,λk hk=>?_,λa b ha hb g e1 e2=>?_⟩
 . have hk2:k<vals.length:=by simpa using hk
   have hs:=IR hi2 hm2 hk2;rw[hel k hk2,Pf R [] i m zo zo k zo];have hno:vals[swp i m k].ownBlock≠some go:=by
    rcases hgo _ hs with e|e
    . exact e
    . rw[e];simp
   exact ownsRow_setCell_other (ownsRow_setCell_other (hv _ hs) hno _) hno _
 . have ha2:a<vals.length:=by simpa using ha
   have hb2:b<vals.length:=by simpa using hb
   rw[hel a ha2]at e1;rw[hel b hb2]at e2;exact ak3 (hd _ _ _ _ g e1 e2)
def fV (w:World)(base n:Nat)(R:List (List Dyadic))(k:Nat)(v:Value):Prop:=
 ∃vals:List Value,vals.length=k/\w.ownsRow base 45 1 v k vals/\(∀i (h:i<vals.length),w.ownsRow base 30 3 vals[i] n (dC (R.getD i [])))/\
  ∀i j (hi:i<vals.length) (hj:j<vals.length) g,vals[i].ownBlock=some g->vals[j].ownBlock=some g->i=j
theorem fV.nil (w:World)(base n:Nat)(R:List (List Dyadic)):fV w base n R 0 (.slice none 0 0):=
 ⟨[],rfl,World.ownsRow_nil _ _ _ _,λ_ h=>absurd h (Nat.not_lt_zero _),λ_ _ h=>absurd h (Nat.not_lt_zero _)⟩
theorem fV.below {w w':World}{base n k:Nat}{R:List (List Dyadic)}{v:Value}(h:fV w base n R k v)(hb:Bw w w'):fV w' base n R k v:=by obtain⟨vals,hl,ho,hi,hd⟩:=h;exact⟨vals,hl,ownsRow_below ho hb,λi h=>ownsRow_below (hi i h) hb,hd⟩
theorem fV.push {w w':World}{base n k:Nat}{R:List (List Dyadic)}{v v' x:Value}{vals:List Value}(hl:vals.length=k)(hov:w.ownsRow base 45 1 v k vals)(hi:∀i (h:i<vals.length),w.ownsRow base 30 3 vals[i] n (dC (R.getD i [])))
 (hd:∀i j (hi:i<vals.length) (hj:j<vals.length) g,vals[i].ownBlock=some g->vals[j].ownBlock=some g->i=j)
 (hx:w.ownsRow base 30 3 x n (dC (R.getD k []))) (mH:∀g,x.ownBlock=some g->∀i (h:i<vals.length),vals[i].ownBlock≠some g)
 (ho:w'.ownsRow base 45 1 v' (k+1) (vals++[x])) (hg:w.grownBy w' v.ownBlock):fV w' base n R (k+1) v':=by
 refine⟨_,by simp[hl],ho,λi h=>?_,λi j h1 h2 g e1 e2=>?_⟩
 . by_cases hk:i<vals.length
   . rw[List.getElem_append_left hk];exact(hi i hk).kept hg (wh (hi i hk) hov zd)
   . have hik:i=k:=by simp at h;omega
     subst hik;rw[List.getElem_append_right zo];simp only[hl,Nat.sub_self,List.getElem_cons_zero];exact hx.kept hg (wh hx hov zd)
 . by_cases k1:i<vals.length
   . rw[List.getElem_append_left k1]at e1;by_cases k2:j<vals.length
     . rw[List.getElem_append_left k2]at e2;exact hd i j k1 k2 g e1 e2
     . have hjk:j=k:=by simp at h2;omega
       subst hjk;rw[List.getElem_append_right zo]at e2;simp only[hl,Nat.sub_self,List.getElem_cons_zero]at e2;exact absurd e1 (mH g e2 i k1)
   . have hik:i=k:=by simp at h1;omega
     subst hik;rw[List.getElem_append_right zo]at e1;simp only[hl,Nat.sub_self,List.getElem_cons_zero]at e1;by_cases k2:j<vals.length
     . rw[List.getElem_append_left k2]at e2;exact absurd e2 (mH g e1 j k2)
     . simp at h2;omega
theorem fV.tbl {w:World}{base n k:Nat}{R:List (List Dyadic)}{v:Value}(h:fV w base n R k v)(hk:R.length=k)(hn:∀r∈R,r.length=n):∃a c,v=.slice a k c/\k<=c/\aR w a (R.map λr=>r.map canon):=by
 obtain⟨vals,hl,ho,hi,hd⟩:=h;obtain⟨a,c,hv,hat,_⟩:=di ho;subst hv;refine⟨a,c,rfl,Ar ho,vals,by simp[hl,hk],hat,λi h1 h2=>?_⟩;obtain⟨a1,c1,e1,e2,_⟩:=di (hi i h2);have hi1:i<R.length:=by simpa using h1
 have eg:R.getD i []=R[i]:=by simp[hi1]
 rw[eg]at e2;refine⟨a1,c1,?_,?_⟩
 . rw[e1];simp[hn _ (List.getElem_mem hi1)]
 . rw[List.getElem_map,<-qC];exact e2
theorem aeg (ds:List Dyadic)(j:Nat)(hj:j<ds.length):(dC ds)[j*3]?=some (.bool (ar (dN ds[j])))/\(dC ds)[j*3+1]?=some (.string (bs (nt (dN ds[j]).natAbs)))/\(dC ds)[j*3+2]?=some (.int .i64 (dE ds[j])):=by have h:=λi (hi:i<3)=>flat_get (λd=>bo (canon d)) 3 (λ_=>rfl) ds j i hj hi;unfold dC;exact⟨(h 0 zd),(h 1 zd),(h 2 zd)⟩
theorem fV.num {w:World}{base n L:Nat}{R:List (List Dyadic)}{v:Value}(h:fV w base n R L v)(i j:Nat)(hi:i<L)(hj:j<n)(hR:R.length=L)(hr:(R.getD i []).length=n):
 ∃go cap g c,v=.slice (some ⟨go,0,none⟩) L cap/\base<=go/\base<=g/\g≠go/\w.cell? ⟨go,i,none⟩=some (.slice (some ⟨g,0,none⟩) n c)/\
  aV w g (j*3) [.bool (ar (dN ((R.getD i []).getD j 0))),.string (bs (nt (dN ((R.getD i []).getD j 0)).natAbs)),.int .i64 (dE ((R.getD i []).getD j 0))]/\(∀o,w.frozen? ⟨g,o,none⟩=false)/\
  ∀y:Dyadic,fV (((w.setCell ⟨g,j*3,none⟩ (.bool (ar (dN y)))).setCell ⟨g,j*3+1,none⟩ (.string (bs (nt (dN y).natAbs)))).setCell ⟨g,j*3+2,none⟩ (.int .i64 (dE y))) base n (R.set i ((R.getD i []).set j y)) L v:=by
 obtain⟨vals,hl,ho,hv,hd⟩:=h;have hi2:i<vals.length:=by omega
 have hrow:=hv i hi2;have hxl:(dC (R.getD i [])).length=n*3:=by rw[aeh,hr]
 obtain⟨a0,cap,rfl,_,_⟩:=di ho;obtain⟨a1,c,e1,_,hab⟩:=di hrow;rw[e1]at hrow;rcases ho.2 with⟨h1,_⟩ |⟨go,cap',cur,h1,tV,hgo,_⟩
 . simp at h1;omega
 simp only[Value.slice.injEq,true_and]at h1;obtain⟨rfl,rfl⟩:=h1;have hrow2:=hrow;rcases hrow.2 with⟨h1,_⟩ |⟨g,c',cur',h1,hbg,hgg,_⟩
 . simp at h1;omega
 simp only[Value.slice.injEq,true_and]at h1;obtain⟨rfl,rfl⟩:=h1;have hne:g≠go:=by rintro rfl;rw[hgo]at hgg;simp at hgg
 have hat:=aeg (R.getD i []) j zo;have hg0:(R.getD i []).getD j 0=(R.getD i [])[j]'zo:=by rw[List.getD_eq_getElem?_getD,List.getElem?_eq_getElem zo];rfl
 have hc0:=kX hrow (j*3) zo;have hc1:=kX hrow (j*3+1) zo;have hc2:=kX hrow (j*3+2) zo;rw[<-List.getElem?_eq_getElem]at hc0 hc1 hc2;rw[hat.1]at hc0;rw[hat.2.1]at hc1;rw[hat.2.2]at hc2;refine⟨go,cap,g,c,rfl,tV,hbg,hne,?_,by rw[hg0];exact fS hc0 hc1 hc2,λo=>?_,λy=>?_⟩
 . rw[kX ho i zo,e1]
 . have h4:ak w g 30 cur'.toList:=by unfold ak;simpa using hgg
   exact h4.free o
 . refine⟨vals,hl,?_,λm hm=>?_,hd⟩
   . have hn:∀(o:Nat) (u:Value) (W:World),W.ownsRow base 45 1 (.slice (some ⟨go,0,none⟩) L cap) L vals->(W.setCell ⟨g,o,none⟩ u).ownsRow base 45 1 (.slice (some ⟨go,0,none⟩) L cap) L vals:=λo u W h=>ownsRow_setCell_other h (by simpa[Value.ownBlock]using hne.symm) _;exact hn _ _ _ (hn _ _ _ (hn _ _ _ ho))
   . by_cases tY:m=i
     . subst tY;have hs:(R.set m ((R.getD m []).set j y)).getD m []=(R.getD m []).set j y:=by rw[List.getD_eq_getElem?_getD,List.getElem?_set_self zo];rfl
       rw[hs,e1,<-SL];exact jL (jL (jL hrow _ _) _ _) _ _
     . have hs:(R.set i ((R.getD i []).set j y)).getD m []=R.getD m []:=by rw[List.getD_eq_getElem?_getD,List.getElem?_set_ne (λe=>tY e.symm),<-List.getD_eq_getElem?_getD]
       rw[hs];have hno:vals[m].ownBlock≠some g:=λe=>tY (hd m i hm hi2 g e (by rw[e1];rfl));exact ownsRow_setCell_other (ownsRow_setCell_other (ownsRow_setCell_other (hv m hm) hno _) hno _) hno _
end Go.Proofs.YtdaadlblknpipaaGreatDoor
