/- Package tri: the longest edge. -/
import Derived.Test.YtdaadlblknpipaaGreatDoorZ11
import Derived.Test.YtdaadlblknpipaaGreatDoorZ1
set_option linter.unusedVariables false
set_option linter.unusedSimpArgs false
set_option maxRecDepth 100000
set_option maxHeartbeats 16000000
namespace Go.Proofs.YtdaadlblknpipaaGreatDoor
open Go.RowKit
attribute [local go_sem ↓] Go.wp_at_zero Go.wp_at_succ
def oL (rows:List (List Raw))(n a b:Nat):Dyadic:=ul ((rows.getD a []).map aC) ((rows.getD b []).map aC) n
def Ea (sq:Nat->Nat->Dyadic)(a b:Nat)(s:Nat×Nat×Dyadic):Nat×Nat×Dyadic:=if 0<bZ (sq a b-s.2.2)then(a,b,sq a b)else s
def yl (sq:Nat->Nat->Dyadic)(a:Nat):Nat->Nat->Nat×Nat×Dyadic->Nat×Nat×Dyadic
 |0,_,s=>s
 |k+1,b,s=>yl sq a k (b+1) (Ea sq a b s)
def ud (sq:Nat->Nat->Dyadic)(L:Nat):Nat->Nat->Nat×Nat×Dyadic->Nat×Nat×Dyadic
 |0,_,s=>s
 |k+1,a,s=>ud sq L k (a+1) (yl sq a (L-(a+1)) (a+1) s)
def nI (sq:Nat->Nat->Dyadic)(L:Nat):Nat×Nat×Dyadic:=ud sq L L 0 (0,1,sq 0 1)
theorem aiZ (sq:Nat->Nat->Dyadic)(Q:Nat×Nat×Dyadic->Prop)(L a k b:Nat)(s:Nat×Nat×Dyadic)(hs:Q s)(hab:a<b)(hb:b+k<=L)(h:∀a b,a<b->b<L->Q (a,b,sq a b)):Q (yl sq a k b s):=by
 induction k generalizing b s with
 |zero=>exact hs
 | succ k ih=>
   unfold yl;refine ih (b+1) _ ?_ zo zo;unfold Ea;split
   . exact h a b hab zo
   . exact hs
theorem aiY (sq:Nat->Nat->Dyadic)(Q:Nat×Nat×Dyadic->Prop)(L k a:Nat)(s:Nat×Nat×Dyadic)(hs:Q s)(hb:a+k<=L)(h:∀a b,a<b->b<L->Q (a,b,sq a b)):Q (ud sq L k a s):=by
 induction k generalizing a s with
 |zero=>exact hs
 |succ k ih=>unfold ud;exact ih (a+1) _ (aiZ sq Q L a _ (a+1) s hs zo zo h) zo
theorem ai0 (sq:Nat->Nat->Dyadic)(L:Nat)(hL:2<=L):(nI sq L).1<(nI sq L).2.1/\(nI sq L).2.1<L/\(nI sq L).2.2=sq (nI sq L).1 (nI sq L).2.1:=
 aiY sq (λs=>s.1<s.2.1/\s.2.1<L/\s.2.2=sq s.1 s.2.1) L L 0 (0,1,sq 0 1) ⟨Nat.zero_lt_one,hL,rfl⟩ zo (λa b h1 h2=>⟨h1,h2,rfl⟩)
abbrev CC (s:Nat×Nat×Dyadic):List Value:=[.int .i64 (s.1:Int),.int .i64 (s.2.1:Int),.bool (ar (dN s.2.2)),.string (bs (nt (dN s.2.2).natAbs)),.int .i64 (dE s.2.2)]
theorem At.drew {w:World}{a:Option Addr}{cs:List Value}(h:At w a cs):At w.drew a cs:=h
theorem At.alloc {w:World}{a:Option Addr}{cs:List Value}(h:At w a cs)(o:Obj):At (w.alloc o) a cs:=h.below zl
theorem amc (rows:List (List Raw))(n B x y:Nat)(a:Option Addr)(cap:Nat)(a':Option Addr)(cap':Nat)(D:Dyadic)(w:World)(hx:x<rows.length)(hy:y<rows.length)(hn:n<=8)(hrow:∀r∈rows,r.length=n)(hfit:∀r∈rows,∀c∈r,Fit B c)(hB:B<=10000000)
 (hD:oL rows n x y=D) (ha:At w a (rows[x].flatMap bA)) (ha':At w a' (rows[y].flatMap bA)) (hT:aF w):
 Calls Tryz.prog 89 #[.slice a rows[x].length cap,.slice a' rows[y].length cap'] w λe w'=>e=.returned (bH D)/\Bw w w':=by
 have h1:=hrow _ (List.getElem_mem hx);have h2:=hrow _ (List.getElem_mem hy);have e1:rows.getD x []=rows[x]:=by simp[hx]
 have e2:rows.getD y []=rows[y]:=by simp[hy]
 unfold oL at hD;rw[e1,e2]at hD;rw[h1,h2,<-hD];exact amb a n cap rows[x] a' cap' rows[y] B w h1 h2 hn ha ha' (hfit _ (List.getElem_mem hx)) (hfit _ (List.getElem_mem hy)) hB hT
theorem ama {rows:List (List Raw)}{n B:Nat}(hfit:∀r∈rows,∀c∈r,Fit B c)(x y:Nat):Sm (2*B+2+n) (oL rows n x y):=by
 have h:∀z,∀c∈(rows.getD z []).map aC,Sm B c:=λz c hc=>by
  obtain⟨u,hu,rfl⟩:=List.mem_map.1 hc;by_cases hz:z<rows.length
  . have e:rows.getD z []=rows[z]:=by simp[hz]
    rw[e]at hu;exact(hfit _ (List.getElem_mem hz) u hu).2
  . have e:rows.getD z []=[]:=by simp[List.getD_eq_getElem?_getD,List.getElem?_eq_none (by omega:rows.length<=z)]
    rw[e]at hu;cases hu
 exact Zj (h x) (h y) n
theorem ai3 (a:Option Addr)(L cap n:Nat)(rows:List (List Raw))(B:Nat)(w:World)(hL:rows.length=L)(hL2:2<=L)(zU:L<=9)(hn:n<=8)(hrow:∀r∈rows,r.length=n)(ha:bo w a rows)
 (hfit:∀r∈rows,∀c∈r,Fit B c) (hB:B<=10000000) (hT:aF w):
 Calls Tryz.prog 47 #[.slice a L cap] w λe w'=>e=.returned (.agg (CC (nI (oL rows n) L)).toArray)/\Bw w w':=by
 obtain⟨sq,vE⟩:=aB (oL rows n);have hsm:∀x y,Sm (2*B+10) (sq x y):=λx y=>by rw[<-vE];exact(ama hfit x y).mono zo
 have hcall:∀x y (hx:x<rows.length) (hy:y<rows.length) (a1:Option Addr) (c1:Nat) (a2:Option Addr) (c2:Nat) (W:World),At W a1 (rows[x].flatMap bA)->At W a2 (rows[y].flatMap bA)->aF W->
  Calls Tryz.prog 89 #[.slice a1 rows[x].length c1,.slice a2 rows[y].length c2] W λe w'=>e=.returned (bH (sq x y))/\Bw W w':=λx y hx hy a1 c1 a2 c2 W h1 h2 h3=>
  amc rows n B x y a1 c1 a2 c2 (sq x y) W hx hy hn hrow hfit hB (by rw[<-vE]) h1 h2 h3
 obtain⟨F,hF⟩:=aB (nI (oL rows n) L);rw[hF];rw[vE]at hF;obtain⟨HL,Ha,FB,lh,HF,HT,fL⟩:=oH hL ha hsm hcall hF hT hT;clear hL ha hsm hcall hF hT hfit hrow vE;obtain⟨X,hX⟩:=aB (sq 0 1);have HX:=ah hX;clear hX;obtain⟨W,dw,Hb,Hr⟩:=iP w 83 [.int .i64 0,.int .i64 0,.bool false,.string ⟨#[]⟩,.int .i64 0];obtain⟨r0,ai,r1,aj,r2,aG,r3,dh,r4,dF⟩:=Hr.out.g5;have HT:Hid (aF W):=HT.out.below Hb.out;have HS:Hid (bo W a rows):=Ha.out.below Hb.out;go_enter Tryz.func47,Tryz.ntmps47;have lr:=Hr.out.lt;obtain⟨b0,o0,a1,c1,jx,hc0,gQ⟩:=HS.out.row 0 (by rw[HL.out];omega);obtain⟨jG,kR,a2,c2,eI,hc1,jJ⟩:=HS.out.row 1 (by rw[HL.out];omega);obtain⟨rfl,rfl⟩:jG=b0/\kR=o0:=by rw[jx]at eI;simp at eI;exact⟨eI.1.symm,eI.2.symm⟩
 clear eI;have i0:=jN L cap 0 0 jx zo rfl;have i1:=jN L cap 1 1 jx zo rfl;rw[Nat.mul_one]at i0 i1;rw[Nat.add_zero]at i0 hc0;have ky:=ah jx;have se:jG<W.heap.size:=World.block_lt_of_cell? W _ hc0;have tV:=λW'=>lh.out 0 1 (by rw[HL.out];omega) (by rw[HL.out];omega) a1 c1 a2 c2 W';rw[HX.out]at tV;obtain⟨n0,hn0⟩:=aB ((rows[0]'(by rw[HL.out];omega)).length);obtain⟨n1,fh⟩:=aB ((rows[1]'(by rw[HL.out];omega)).length);rw[hn0]at hc0;rw[fh]at hc1;simp only[hn0,fh]at tV;obtain⟨wW,im,kZ⟩:=cX tV gQ jJ;have Hu:Hid (bB W jG kR [.slice a1 n0 c1]):=λj hj=>by
  obtain rfl:j=0:=by simp at hj;omega
  exact hc0
 have Hv:Hid (bB W jG (kR+1) [.slice a2 n1 c2]):=λj hj=>by
  obtain rfl:j=0:=by simp at hj;omega
  exact hc1
 clear tV gQ jJ jx hn0 fh hc0 hc1;go_upto_region 1 with fail
 go_cut[3] (λs3 wx=>∃g:Nat,s3=.pointer (some ⟨g,0,none⟩)/\W.heap.size<=g/\ak wx g 83 (CC (0,1,X))/\Bw W wx);case first=>
  have u0:=Hu.out.w1;have v0:=Hv.out.w1;have HT:Hid (aF W):=HT.out;refine Qf (λw'=>w'.cell? ⟨jG,kR,none⟩=some (.slice a1 n0 c1)/\w'.cell? ⟨jG,kR+1,none⟩=some (.slice a2 n1 c2)) (λi=>Nat.blt i 10) 7 9 [(8,true),(9,false),(10,false)] [(7,false),(8,true),(10,false)] [0,1,2,3,4,5,6] zk zk rfl rfl zk zc ⟨u0,v0⟩ ?_;iterate 7 (refine OP rfl rfl (v:=?_) (λw' hw'=>?_) ?_;rotate_left;(focus obtain⟨q0,q1⟩:=hw';go_simp;try with_reducible rfl);try simp only[UU])
  refine OL rfl rfl rfl rfl (λK hK=>?_) (λK hK=>?_)
  . go_simp;with_reducible refine(wW.out _ (by first|exact im.out|exact At.drew im.out) (by first|exact kZ.out|exact At.drew kZ.out) (by first|exact HT.out|exact aF.drew HT.out|exact aF.alloc HT.out _|exact aF.drew (aF.alloc HT.out _) |exact aF.alloc (aF.drew HT.out) _)).mono ?_
    rintro e w5 ⟨rfl,hq⟩;have di:Bw W w5:=aV hq;refine hK _ _ ⟨cell_later di u0,cell_later di v0⟩ ?_;try simp only[UU]
    refine pT rfl rfl ?_;try simp only[UU]
    refine aI rfl rfl (λK hK=>?_);go_simp;refine hK _ _ (λ_=>⟨aJ (cell_later di u0),aJ (cell_later di v0)⟩) ?_;try simp only[UU]
    refine aI rfl rfl (λK hK=>?_);go_simp;refine hK _ _ (λh=>absurd h zd) ?_;simp only[aZ];go_wp2_with fail;go_meet;exact⟨w5.heap.size,rfl,di.size,ak.new _ _ _,di.alloc di.size _⟩
  . go_simp;refine hK _ _ ⟨aJ u0,aJ v0⟩ ?_;try simp only[UU]
    refine aI rfl rfl (λK hK=>?_);go_simp;with_reducible refine(wW.out (W.alloc (.cells #[.int .i64 0,.int .i64 0,.bool false,.string ⟨#[]⟩,.int .i64 0] 83)).drew (im.out.alloc _).drew (kZ.out.alloc _).drew (by first|exact HT.out|exact aF.drew HT.out|exact aF.alloc HT.out _|exact aF.drew (aF.alloc HT.out _) |exact aF.alloc (aF.drew HT.out) _)).mono ?_
    rintro e w5 ⟨rfl,hq⟩;have di:Bw W w5:=qF hq;have Hn:ak w5 W.heap.size 83 [.int .i64 0,.int .i64 0,.bool false,.string ⟨#[]⟩,.int .i64 0]:=ak.below (ak.new W.drew 83 [.int .i64 0,.int .i64 0,.bool false,.string ⟨#[]⟩,.int .i64 0]) hq;have n0':=Hn.cell 0;have yr:=Hn.cell 1;have yt:=Hn.cell 2;have n3':=Hn.cell 3;have n4':=Hn.cell 4;have fN:=Hn.free 0;have fO:=Hn.free 1;have fP:=Hn.free 2;have gz:=Hn.free 3;have gA:=Hn.free 4;refine hK _ _ (λ_=>⟨cell_later di u0,cell_later di v0⟩) ?_;try simp only[UU]
    refine pT rfl rfl ?_;try simp only[UU]
    refine aI rfl rfl (λK hK=>?_);go_simp;refine hK _ _ (λh=>absurd h zd) ?_;simp only[aZ];go_wp2_with fail;go_meet;exact⟨W.heap.size,rfl,Nat.le_refl _,((((Hn.set 0 _).set 1 _).set 2 _).set 3 _).set 4 _,((((di.sc W.heap.size 0 (Nat.le_refl _) _).sc W.heap.size 1 (Nat.le_refl _) _).sc W.heap.size 2 (Nat.le_refl _) _).sc W.heap.size 3 (Nat.le_refl _) _).sc W.heap.size 4 (Nat.le_refl _) _⟩
 case rest=>
  obtain⟨g,rfl,hg,qd,qb⟩:=hcut;have Hd:=ah qd;replace Hr:=ah (Hr.out.below qb);replace Hb:=ah (aK Hb.out qb);have lg:=Hd.out.lt;have lr2:=Hr.out.lt;have szW:=qb.size;clear qd qb r0 r1 r2 r3 r4 ai aj aG dh dF i0 i1 wW im kZ Hu Hv ky HS HT;have QK:Hid (Sm (2*B+10) X):=by rw[<-HX.out];exact FB.out 0 1
  have Qs:Hid (ud sq L (L-0) 0 (0,1,X)=F):=by rw[<-HX.out];exact HF.out
  go_wp2_with fail;go_loopw[18] (λx wr=>∃(k:Nat) (s:Nat×Nat×Dyadic),k<=L/\x=.int .i64 (k:Int)/\ud sq L (L-k) k s=F/\Sm (2*B+10) s.2.2/\ak wr w.heap.size 83 [.int .i64 0,.int .i64 0,.bool false,.string ⟨#[]⟩,.int .i64 0]/\ak wr g 83 (CC s)/\Bw w wr) (λx _=>L-(intOf x).toNat);case atStart=>exact⟨0,(0,1,X),Nat.zero_le _,rfl,Qs.out,QK.out,Hr.out,Hd.out,Hb.out⟩
  case round=>
   clear Hr Hd Hb Qs QK;obtain⟨k,s,hk,rfl,hF,hs,pr,pd,pb⟩:=hrel;by_cases hlt:k<L
   . obtain⟨Hr,Hd,Hb,Hs⟩:=dS pr pd pb hs;have Qu:Hid (ud sq L (L-(k+1)) (k+1) (yl sq k (L-(k+1)) (k+1) s)=F):=by rw[show L-k=L-(k+1)+1 by omega]at hF;exact hF
     clear pr pd pb hs hF;go_wp2_with fail;go_loopw[5] (λx wr=>∃(b:Nat) (s:Nat×Nat×Dyadic),b<=L/\k<b/\x=.int .i64 (b:Int)/\ud sq L (L-(k+1)) (k+1) (yl sq k (L-b) b s)=F/\Sm (2*B+10) s.2.2/\ak wr w.heap.size 83 [.int .i64 0,.int .i64 0,.bool false,.string ⟨#[]⟩,.int .i64 0]/\ak wr g 83 (CC s)/\Bw w wr) (λx _=>L-(intOf x).toNat);case atStart=>exact⟨k+1,s,by omega,by omega,by go_num,Qu.out,Hs.out,Hr.out,Hd.out,Hb.out⟩
     case round=>
      clear Hr Hd Hb Qu Hs;obtain⟨b,s,hb1,hb2,rfl,hF,hs,pr,pd,pb⟩:=hrel;obtain⟨Hr,Hd,Hb,Hs,Qt⟩:=fC pr pd pb hs hF;clear pr pd pb hs hF;by_cases bj:b<L
      . obtain⟨b0,o0,a1,c1,jx,hc0,gQ⟩:=(Ha.out.below Hb.out).row k (by rw[HL.out];omega);obtain⟨jG,kR,a2,c2,eI,hc1,jJ⟩:=(Ha.out.below Hb.out).row b (by rw[HL.out];omega);obtain⟨rfl,rfl⟩:jG=b0/\kR=o0:=by rw[jx]at eI;simp at eI;exact⟨eI.1.symm,eI.2.symm⟩
        clear eI;have i0:=jN L cap k (k:Int) jx hlt rfl;have i1:=jN L cap b (b:Int) jx bj rfl;rw[Nat.mul_one]at i0 i1;have tV:=λW'=>lh.out k b (by rw[HL.out];omega) (by rw[HL.out];omega) a1 c1 a2 c2 W';obtain⟨Y,hY⟩:=aB (sq k b);have zX:=FB.out k b;rw[hY]at tV zX;obtain⟨n0,hn0⟩:=aB ((rows[k]'(by rw[HL.out];omega)).length);obtain⟨n1,fh⟩:=aB ((rows[b]'(by rw[HL.out];omega)).length);rw[hn0]at hc0;rw[fh]at hc1;simp only[hn0,fh]at tV;obtain⟨wW,im,kZ,HY,yS,HT⟩:=gF tV gQ jJ hY zX (fL.out.below Hb.out);have Hu:Hid (bB wr jG (kR+k) [.slice a1 n0 c1]):=λj hj=>by
         obtain rfl:j=0:=by simp at hj;omega
         exact hc0
        have Hv:Hid (bB wr jG (kR+b) [.slice a2 n1 c2]):=λj hj=>by
         obtain rfl:j=0:=by simp at hj;omega
         exact hc1
        clear tV gQ jJ jx hn0 fh hc0 hc1 hY zX;have ls1:=Hr.out.lt;have XI:=Hd.out.lt;go_upto_region 8 with fail
        go_cut[6] (λs6 wx=>∃g':Nat,s6=.pointer (some ⟨g',0,none⟩)/\wr.heap.size<=g'/\ak wx g' 30 [.bool (ar (dN Y)),.string (bs (nt (dN Y).natAbs)),.int .i64 (dE Y)]/\Bw wr wx);case first=>
         have u0:=Hu.out.w1;have v0:=Hv.out.w1;refine Qf (λw'=>w'.cell? ⟨jG,kR+k,none⟩=some (.slice a1 n0 c1)/\w'.cell? ⟨jG,kR+b,none⟩=some (.slice a2 n1 c2)) (λi=>Nat.blt i 10) 8 9 [(9,false),(10,false)] [(8,false),(10,false)] [0,1,2,3,4,5,6,7] zk zk rfl rfl zk zc ⟨u0,v0⟩ ?_;iterate 8 (refine OP rfl rfl (v:=?_) (λw' hw'=>?_) ?_;rotate_left;(focus obtain⟨q0,q1⟩:=hw';go_simp;try with_reducible rfl);try simp only[UU])
         refine OL rfl rfl rfl rfl (λK hK=>?_) (λK hK=>?_)
         . go_simp;with_reducible refine(wW.out _ (by first|exact im.out|exact At.drew im.out) (by first|exact kZ.out|exact At.drew kZ.out) (by first|exact HT.out|exact aF.drew HT.out|exact aF.alloc HT.out _|exact aF.drew (aF.alloc HT.out _) |exact aF.alloc (aF.drew HT.out) _)).mono ?_
           rintro e w5 ⟨rfl,hq⟩;have di:Bw wr w5:=aV hq;refine hK _ _ ⟨cell_later di u0,cell_later di v0⟩ ?_;try simp only[UU]
           refine aI rfl rfl (λK hK=>?_);go_simp;refine hK _ _ (λ_=>⟨aJ (cell_later di u0),aJ (cell_later di v0)⟩) ?_;try simp only[UU]
           refine aI rfl rfl (λK hK=>?_);go_simp;refine hK _ _ (λh=>absurd h zd) ?_;simp only[aZ];go_wp2_with fail;go_meet;exact⟨w5.heap.size,rfl,di.size,ak.new _ _ _,di.alloc di.size _⟩
         . go_simp;refine hK _ _ ⟨aJ u0,aJ v0⟩ ?_;try simp only[UU]
           refine aI rfl rfl (λK hK=>?_);go_simp;with_reducible refine(wW.out (wr.alloc (.cells #[.bool false,.string ⟨#[]⟩,.int .i64 0] 30)).drew (im.out.alloc _).drew (kZ.out.alloc _).drew (by first|exact HT.out|exact aF.drew HT.out|exact aF.alloc HT.out _|exact aF.drew (aF.alloc HT.out _) |exact aF.alloc (aF.drew HT.out) _)).mono ?_
           rintro e w5 ⟨rfl,hq⟩;have di:Bw wr w5:=qF hq;have Hn:ak w5 wr.heap.size 30 [.bool false,.string ⟨#[]⟩,.int .i64 0]:=ak.below (ak.new wr.drew 30 [.bool false,.string ⟨#[]⟩,.int .i64 0]) hq;obtain⟨n0',fN,yr,fO,yt,fP⟩:=Hn.g3;refine hK _ _ (λ_=>⟨cell_later di u0,cell_later di v0⟩) ?_;try simp only[UU]
           refine aI rfl rfl (λK hK=>?_);go_simp;refine hK _ _ (λh=>absurd h zd) ?_;simp only[aZ];go_wp2_with fail;go_meet;exact⟨wr.heap.size,rfl,Nat.le_refl _,((Hn.set 0 _).set 1 _).set 2 _,((di.sc wr.heap.size 0 (Nat.le_refl _) _).sc wr.heap.size 1 (Nat.le_refl _) _).sc wr.heap.size 2 (Nat.le_refl _) _⟩
        case rest=>
         obtain⟨g',rfl,hg',qn,qb⟩:=hcut;have Hn:=ah qn;replace Hr:=ah (Hr.out.below qb);replace Hd:=ah (Hd.out.below qb);replace Hb:=ah (aK Hb.out qb);have Bp:=ah (HT.out.below qb);clear qn qb Hu Hv im kZ wW HT i0 i1;obtain⟨si,sj,sx⟩:=s;have HfY:Hid (Ok (ar (dN Y),nt (dN Y).natAbs,dE Y)):=(yS.out.fit zo).1;have BG:Hid (Ok (ar (dN sx),nt (dN sx).natAbs,dE sx)):=(Hs.out.fit zo).1;obtain⟨c,hc⟩:=aB (bZ (Y-sx));have HC:Hid (bZ (aC (ar (dN Y),nt (dN Y).natAbs,dE Y)-aC (ar (dN sx),nt (dN sx).natAbs,dE sx))=c):=by
          show bZ (aC (canon Y)-aC (canon sx))=c
          rw[bP,bP];exact hc
         have Qv:Hid (ud sq L (L-(k+1)) (k+1) (yl sq k (L-(b+1)) (b+1) (Ea sq k b (si,sj,sx)))=F):=by have h:=Qt.out;rw[show L-b=L-(b+1)+1 by omega]at h;exact h
         have hstep:Ea sq k b (si,sj,sx)=if 0<c then(k,b,Y)else(si,sj,sx):=by
          unfold Ea;rw[HY.out];show(if 0<bZ (Y-sx)then _ else _)=_
          rw[hc]
         have iq:=ah hstep;clear hc hstep;obtain⟨d0,pz,d1,pC,d2,pD,d3,TF,d4,TG⟩:=Hd.out.g5;obtain⟨n0,n1,n2⟩:=Hn.out.c3;obtain⟨r0,r1,r2,r3,r4⟩:=Hr.out.c5;go_wp2_with fail;refine(afs _ _ _ _ _ _ c HC.out _ HfY.out BG.out Bp.out).mono ?_;rintro e w7 ⟨rfl,ae⟩;clear d0 pz d1 pC d2 pD d3 TF d4 TG n0 n1 n2 r0 r1 r2 r3 r4;replace Hd:=kB Hd ae;replace Hn:=kB Hn ae;replace Hr:=kB Hr ae;obtain⟨d0,pz,d1,pC,d2,pD,d3,TF,d4,TG⟩:=Hd.out.g5;obtain⟨n0,n1,n2⟩:=Hn.out.c3;obtain⟨r0,r1,r2,r3,r4⟩:=Hr.out.c5;replace Hb:=az Hb ae;clear ae;by_cases hc0:0<c
         . go_wp2;go_roundw;case rel=>
            refine⟨b+1,(k,b,Y),by omega,by omega,by go_num,?_,yS.out,?_,?_,?_⟩
            . have h:=Qv.out;rw[iq.out,if_pos hc0]at h;exact h
            . exact((((Hr.out.so g 0 zo _).so g 1 zo _).so g 2 zo _).so g 3 zo _).so g 4 zo _
            . exact((((Hd.out.set 0 _).set 1 _).set 2 _).set 3 _).set 4 _
            . exact((((Hb.out.sc g 0 zo _).sc g 1 zo _).sc g 2 zo _).sc g 3 zo _).sc g 4 zo _
           case measure=>simp[intOf];omega
         . go_wp2;go_roundw;case rel=>refine⟨b+1,(si,sj,sx),by omega,by omega,by go_num,?_,Hs.out,Hr.out,Hd.out,Hb.out⟩;have h:=Qv.out;rw[iq.out,if_neg zo]at h;exact h
           case measure=>simp[intOf];omega
      . obtain rfl:b=L:=by omega
        go_wp2;go_roundw;case rel=>refine⟨k+1,s,by omega,by go_num,?_,Hs.out,Hr.out,Hd.out,Hb.out⟩;have h:=Qt.out;rw[Nat.sub_self]at h;exact h
        case measure=>simp[intOf];omega
   . obtain rfl:k=L:=by omega
     rw[Nat.sub_self]at hF;have HFs:Hid (s=F):=hF;obtain⟨si,sj,sx⟩:=s;obtain⟨Hr,Hd,Hb⟩:=cX pr pd pb;clear pr pd pb hF hs;obtain⟨d0,d1,d2,d3,d4⟩:=Hd.out.c5;obtain⟨r0,ai,r1,aj,r2,aG,r3,dh,r4,dF⟩:=Hr.out.g5;go_wp2;clear d0 d1 d2 d3 d4 r0 ai r1 aj r2 aG r3 dh r4 dF;refine fy (bK wr (w.heap.size) 0 [.int .i64 (si:Int),.int .i64 (sj:Int),.bool (ar (dN sx)),.string (bs (nt (dN sx).natAbs)),.int .i64 (dE sx)]) bV ?_;intro w9 hs;replace Hd:=kS Hd hs zo;replace Hr:=cF Hr hs;obtain⟨d0,d1,d2,d3,d4⟩:=Hd.out.c5;obtain⟨r0,ai,r1,aj,r2,aG,r3,dh,r4,dF⟩:=Hr.out.g5;replace Hb:=bS Hb hs ZS;clear hs;refine bodyPost_ret (v:=.agg (CC (si,sj,sx)).toArray) (by simp[results,Tryz.results47,go_sem,r0,r1,r2,r3,r4]) rfl ⟨by rw[<-HFs.out],Hb.out⟩
theorem Tryz.aq1 :(Tryz.prog.info? 46).map (λi=>(i.zero,i.size,i.bytes))=some (some (.slice none 0 0),1,24):=by kernel_rfl
def iy (r:List Raw):List Raw:=r.map λx=>canon (aC x)
theorem TK (r:List Raw):(iy r).length=r.length:=by simp[iy]
theorem ago (r:List Raw):(iy r).flatMap bA=dC (r.map aC):=by rw[pq,List.map_map];rfl
def Own2 (e:TypeId)(w:World)(base:Nat)(R:List (List Dyadic))(k:Nat)(v:Value):Prop:=
 ∃vals:List Value,vals.length=k/\w.ownsRow base e 1 v k vals/\∀i (h:i<vals.length),∃a c,vals[i]=.slice a (R.getD i []).length c/\At w a (dC (R.getD i []))/\∀b o,a=some ⟨b,o,none⟩->some b≠v.ownBlock/\b<w.heap.size
theorem Own2.nil (e:TypeId)(w:World)(base:Nat)(R:List (List Dyadic)):Own2 e w base R 0 (.slice none 0 0):=
 ⟨[],rfl,World.ownsRow_nil _ _ _ _,λ_ h=>absurd h (Nat.not_lt_zero _)⟩
theorem Own2.below {e:TypeId}{w w':World}{base k:Nat}{R:List (List Dyadic)}{v:Value}(h:Own2 e w base R k v)(hb:Bw w w'):Own2 e w' base R k v:=by obtain⟨vals,hl,ho,hi⟩:=h;refine⟨vals,hl,ownsRow_below ho hb,λi h=>?_⟩;obtain⟨a,c,h1,h2,h3⟩:=hi i h;exact⟨a,c,h1,h2.below hb,λb o e=>⟨(h3 b o e).1,Nat.lt_of_lt_of_le (h3 b o e).2 hb.size⟩⟩
theorem Own2.push {e:TypeId}{w w':World}{base k:Nat}{R:List (List Dyadic)}{v v':Value}{vals:List Value}(hl:vals.length=k)(hi:∀i (h:i<vals.length),∃a c,vals[i]=.slice a (R.getD i []).length c/\At w a (dC (R.getD i []))/\∀b o,a=some ⟨b,o,none⟩->some b≠v.ownBlock/\b<w.heap.size)
 {a:Option Addr} {c:Nat} (ha:At w a (dC (R.getD k []))) (hab:∀b o,a=some ⟨b,o,none⟩->some b≠v.ownBlock/\b<w.heap.size)
 (ho:w'.ownsRow base e 1 v' (k+1) (vals++[.slice a (R.getD k []).length c])) (hg:w.grownBy w' v.ownBlock) (fq:v'.ownBlock=v.ownBlock\/v'.ownBlock=some w.heap.size):Own2 e w' base R (k+1) v':=by
 have hne:∀b,some b≠v.ownBlock->b<w.heap.size->some b≠v'.ownBlock:=by
  intro b h1 h2;rcases fq with h|h
  . rw[h];exact h1
  . rw[h];intro h3;simp at h3;omega
 refine⟨_,by simp[hl],ho,λi h=>?_⟩;by_cases hk:i<vals.length
 . obtain⟨a1,c1,h1,h2,h3⟩:=hi i hk;refine⟨a1,c1,by rw[List.getElem_append_left hk];exact h1,h2.grown hg (λb o e=>(h3 b o e).1),λb o e=>⟨hne b (h3 b o e).1 (h3 b o e).2,Nat.lt_of_lt_of_le (h3 b o e).2 hg.size⟩⟩
 . have hik:i=k:=by simp at h;omega
   subst hik;refine⟨a,c,?_,ha.grown hg (λb o e=>(hab b o e).1),λb o e=>⟨hne b (hab b o e).1 (hab b o e).2,Nat.lt_of_lt_of_le (hab b o e).2 hg.size⟩⟩;rw[List.getElem_append_right zo];simp[hl]
theorem AK {W:World}{base:Nat}{e:TypeId}{size:Nat}{a:Option Addr}{n c:Nat}{xs:List Value}(h:W.ownsRow base e size (.slice a n c) n xs):n<=c:=by
 rcases h.2 with⟨h1,h2⟩ |⟨g,cap,cur,h1,_,_,h2,_⟩
 . omega
 . simp at h1;omega
theorem Own2.tbl {e:TypeId}{w:World}{base k:Nat}{R:List (List Raw)}{v:Value}(h:Own2 e w base (R.map λr=>r.map aC) k v)(hk:R.length=k):∃a c,v=.slice a k c/\k<=c/\bo w a (R.map iy):=by
 obtain⟨vals,hl,ho,hi⟩:=h;obtain⟨a,c,hv,hat,_⟩:=dG ho;subst hv;refine⟨a,c,rfl,AK ho,vals,by simp[hl,hk],hat,λi h1 h2=>?_⟩;obtain⟨a1,c1,e1,e2,_⟩:=hi i h2;have hi1:i<R.length:=by simpa using h1
 have eg:(R.map λr=>r.map aC).getD i []=R[i].map aC:=by simp[hi1]
 rw[eg]at e1 e2;refine⟨a1,c1,?_,?_⟩
 . rw[e1];simp[TK]
 . rw[List.getElem_map,ago];exact e2
theorem ani (a:Option Addr)(L cap:Nat)(rows:List (List Raw))(k0:Nat)(pa:Option Addr)(pn kU:Nat)(Pp:List Raw)(w:World)(hL:rows.length=L)(zU:L<=9)(hP:Pp.length=pn)(CN:pn<=8)(hrow:∀r∈rows,r.length<=8)(ha:bo w a rows)(hp:At w pa (Pp.flatMap bA))
 (hok:∀r∈rows,∀x∈r,Ok x) (tO:∀x∈Pp,Ok x) (hT:aF w) (at9:Int) (qV:∀k:Nat,k<L->((k:Int)=at9↔k=k0)):
 Calls Tryz.prog 48 #[.slice a L cap,.int .i64 at9,.slice pa pn kU] w λe w'=>∃a' cap',e=.returned (.slice a' L cap')/\L<=cap'/\bo w' a' ((rows.set k0 Pp).map iy)/\Bw w w':=by
 obtain⟨i0,hi,hz0,hz1,hz2⟩:=info_parts Tryz.aqU;obtain⟨j0,hj,hy0,hy1,hy2⟩:=info_parts Tryz.aq1;obtain⟨R,hR⟩:=aB (rows.set k0 Pp);obtain⟨S,hS⟩:=aB (R.map λr=>r.map aC);have CR:R.length=L:=by rw[<-hR];simp[hL]
 have CQ:∀r∈R,r.length<=8:=by
  intro r hr;rw[<-hR]at hr;rcases List.mem_or_eq_of_mem_set hr with h|h
  . exact hrow r h
  . rw[h];omega
 have CS:∀r∈R,∀x∈r,Ok x:=by
  intro r hr;rw[<-hR]at hr;rcases List.mem_or_eq_of_mem_set hr with h|h
  . exact hok r h
  . rw[h];exact tO
 have mK:∀(W:World) (k:Nat) (hk:k<L),Bw w W->∃b o a1 c1 n1 aq cq,∃(hk2:k<R.length),a=some ⟨b,o,none⟩/\W.cell? ⟨b,o+k,none⟩=some (.slice a1 n1 c1)/\At W aq (R[k].flatMap bA)/\((k=k0/\aq=pa/\R[k].length=pn/\cq=kU)\/(k≠k0/\aq=a1/\R[k].length=n1/\cq=c1)):=by
  intro W k hk hb;obtain⟨b,o,a1,c1,h1,h2,h3⟩:=(ha.below hb).row k zo;by_cases hkk:k=k0
  . refine⟨b,o,a1,c1,_,pa,kU,by omega,h1,h2,?_,.inl ⟨hkk,rfl,?_,rfl⟩⟩
    . have:R[k]'zo=Pp:=by simp only[<-hR,hkk,List.getElem_set_self]
      rw[this];exact hp.below hb
    . have:R[k]'zo=Pp:=by simp only[<-hR,hkk,List.getElem_set_self]
      rw[this];exact hP
  . have:R[k]'zo=rows[k]'zo:=by simp only[<-hR];exact List.getElem_set_ne (λh=>hkk h.symm) _
    refine⟨b,o,a1,c1,_,a1,c1,by omega,h1,h2,?_,.inr ⟨hkk,rfl,by rw[this],rfl⟩⟩;rw[this];exact h3
 rw[hR];obtain⟨Hi,cN,cO,cH,Hj,ir,jd,je,HS,Jt,Js,Ju⟩:=gh hi hz0 hz1 hz2 hj hy0 hy1 hy2 hS CR CQ CS;obtain⟨uG,HT,Bu⟩:=cX mK hT qV;clear hi hz0 hz1 hz2 hj hy0 hy1 hy2 hR hS CR CQ CS mK ha hp hT hL hP hrow hok tO qV;go_enter Tryz.func48,Tryz.ntmps48;have Hb:Hid (Bw w w):=Below.refl _ _;go_wp2_with fail;go_loopw[7,15] (λs7 x wr=>∃(k:Nat) (v:Value),k<=L/\x=.int .i64 (k:Int)/\v=s7/\Own2 46 wr w.heap.size S k v/\Bw w wr) (λ_ x _=>L-(intOf x).toNat);case atStart=>exact⟨0,_,Nat.zero_le _,rfl,rfl,Own2.nil _ _ _ _,Hb.out⟩
 case round=>
  clear Hb;obtain⟨k,v,hk,rfl,rfl,pv,pb⟩:=hrel;by_cases hlt:k<L
  . obtain⟨b1,o1,a1,c1,n1,aq,cq,hk2,hab,hc1,hat,ow⟩:=uG.out wr k hlt pb;have kd:=jN L cap k (k:Int) hab hlt rfl;rw[Nat.mul_one]at kd;obtain⟨Q,hQ⟩:=aB (R[k]);rw[hQ]at hat ow;have xC:=Js.out _ (List.getElem_mem hk2);have xD:=Ju.out _ (List.getElem_mem hk2);rw[hQ]at xC xD;obtain⟨Z,hZ⟩:=aB (Q.map aC);have iW:S.getD k []=Z:=by rw[<-HS.out,<-hZ,<-hQ];simp[hk2]
    have uU:Q.length<=8:=xC;obtain⟨n,hn⟩:=aB Q.length;rw[hn]at uU ow;obtain⟨fx,Jr,HZ,mg,Kq,Hn,aQ,dx⟩:=oI hat xD hZ iW ow hn pb pv;clear hat xD hZ iW ow hn pb pv hQ hab xC;have gm:=aQ.out.size;go_upto_if 22 with fail
    go_cut[9] (λs9 wx=>s9=.slice aq n cq/\wx=wr);case first=>
     rcases Kq.out with⟨rfl,rfl,rfl,rfl⟩ |⟨h1,rfl,rfl,rfl⟩
     . obtain rfl:=(Bu.out k hlt).2 rfl;go_wp2_with fail;go_meet;exact⟨rfl,rfl⟩
     . have h3:¬(k:Int)=at9:=λh=>h1 ((Bu.out k hlt).1 h);have h2:((k:Int)==at9)=false:=by simpa using h3
       go_wp2_with fail;go_meet;exact⟨rfl,rfl⟩
    case rest=>
     obtain⟨rfl,rfl⟩:=hcut;clear kd hc1;go_wp2_with fail;go_loopw[10,26] (λyI x wr=>∃(j:Nat) (v2:Value),j<=n/\x=.int .i64 (j:Int)/\v2=yI/\wr.ownsRow wc.heap.size 30 3 v2 j (dC (Z.take j))/\Bw wc wr) (λ_ x _=>n-(intOf x).toNat);case atStart=>exact⟨0,_,Nat.zero_le _,rfl,rfl,World.ownsRow_nil _ _ _ _,Below.refl _ _⟩
     case round=>
      obtain⟨j,v2,hj,rfl,rfl,ho,hb2⟩:=hrel;by_cases bj:j<n
      . have h1:j<Q.length:=by rw[Hn.out];exact bj
        obtain⟨s,m,e,hx⟩:=kI (Q[j]);have hok:=Jr.out _ (List.getElem_mem h1);rw[hx]at hok;obtain⟨X,hX⟩:=aB (aC (s,m,e));have cE:Hid (dC (Z.take (j+1))=dC (Z.take j)++[.bool (ar (dN X)),.string (bs (nt (dN X).natAbs)),.int .i64 (dE X)]):=by
         show _=_
         rw[<-HZ.out,List.take_succ_eq_append_getElem (by simpa using h1),rN];congr 1;simp only[List.getElem_map,hx,hX];rfl
        obtain⟨b2,o2,fg,p0,p1,p2⟩:=(fx.out.below hb2).num j h1 hx;have ov:=lM n cq j (j:Int) fg bj rfl;obtain⟨HX,Bj,Ho,bQ,Bp⟩:=fC hX hok ho hb2 ((HT.out.below aQ.out).below hb2);have um:=hb2.size;have Hp:Hid (bB wr b2 (o2+j*3) [.bool s,.string (bs m),.int .i64 e]):=iB p0 p1 p2;clear hX hok ho hb2 hx fg p0 p1 p2;have Hb:Hid (Bw wr wr):=Below.refl _ _;obtain⟨p0,p1,p2⟩:=Hp.out.w3;have P0:=p0;have P1:=p1;have P2:=p2;obtain⟨W4,pH,ae,Hc⟩:=cS wr 30 [.bool s,.string (bs m),.int .i64 e];clear p0 p1 p2;replace Hp:=kW Hp ae;obtain⟨p0,p1,p2⟩:=Hp.out.w3;obtain⟨c0,c1,c2⟩:=Hc.out.c3;replace Hb:=az Hb ae;clear ae;have HT:Hid (aF W4):=Bp.out.below Hb.out;go_wp2_with fail;refine(qJ s m e X HX.out _ Bj.out HT.out).mono ?_;rintro e w5 ⟨rfl,ae⟩;clear p0 p1 p2 c0 c1 c2;replace Hp:=kW Hp ae;replace Hc:=kB Hc ae;replace HT:=kT HT ae;obtain⟨p0,p1,p2⟩:=Hp.out.w3;obtain⟨c0,c1,c2⟩:=Hc.out.c3;replace Hb:=az Hb ae;clear ae;have aja:=Hc.out.lt;obtain⟨W6,od,ae,Hd⟩:=cS w5 30 [.bool (ar (dN X)),.string (bs (nt (dN X).natAbs)),.int .i64 (dE X)];clear p0 p1 p2;replace Hp:=kW Hp ae;clear c0 c1 c2;replace Hc:=kB Hc ae;replace HT:=kT HT ae;obtain⟨p0,p1,p2⟩:=Hp.out.w3;obtain⟨c0,c1,c2⟩:=Hc.out.c3;obtain⟨d0,d1,d2⟩:=Hd.out.c3;replace Hb:=az Hb ae;clear ae;have cG:=ownsRow_below Ho.out Hb.out;have iz:=Hb.out.size;have hnews:=fX Hd.out;clear d0 d1 d2;go_wp2_with (at_builtin;refine wpList_append_own_at _ rfl _ _ 46 rfl wc.heap.size 30 i0 _ 3 32 Tryz.underlying46 Hi.out cN.out cO.out cH.out rfl zd v2 j (dC (Z.take j)) rfl cG ⟨w5.heap.size,0,none⟩ 1 1 [.bool (ar (dN X)),.string (bs (nt (dN X).natAbs)),.int .i64 (dE X)] rfl rfl hnews zy zx zo zo ?_;intro v' w7 dQ eT _ _;obtain⟨g',lC,rfl⟩:=ownsRow_succ dQ);go_roundw;case rel=>
         refine⟨j+1,_,by omega,by go_num,rfl,?_,?_⟩
         . rw[cE.out];exact dQ
         . exact(aK bQ.out Hb.out).grown eT zo (λj e=>cZ cG j e)
        case measure=>simp[intOf];omega
      . obtain rfl:j=n:=by omega
        have iJ:Z.take j=Z:=List.take_of_length_le (by rw[<-HZ.out];simp[Hn.out]);rw[iJ]at ho;obtain⟨a2,cap2,rfl,iK,fg⟩:=dG ho;have gb:=ho.lt;obtain⟨vals,hvl,hov,jh⟩:=dx.out.below hb2;have Hb:Hid (Bw wr wr):=Below.refl _ _;obtain⟨_,_,nE,_⟩:=dx.out;have hvs:=nE.lt;have hin:∀b o,a2=some ⟨b,o,none⟩->some b≠v.ownBlock/\b<wr.heap.size:=by intro b o e;subst e;have h1:=gb b rfl;refine⟨λh2=>?_,h1.2⟩;have h3:=hvs b h2.symm;omega
        obtain⟨mW,nP,jF,qA,cM,bQ⟩:=gF hin iK hvl jh hov hb2;have um:=hb2.size;clear hin iK hvl jh hov nE hvs hb2 fg gb iJ ho bj hj;obtain⟨W6,od,ae,Hd⟩:=cS wr 46 [.slice a2 j cap2];have d0:=Hd.out.c1;replace Hb:=az Hb ae;clear ae;have cG:=ownsRow_below cM.out Hb.out;have iz:=Hb.out.size;have hnews:∀i u,([.slice a2 j cap2]:List Value)[i]?=some u->W6.cell? ((⟨wr.heap.size,0,none⟩:Addr).add i)=some u:=fX Hd.out;clear d0;go_wp2_with (at_builtin;refine wpList_append_own_at _ rfl _ _ 23 rfl w.heap.size 46 j0 _ 1 24 Tryz.underlying23 Hj.out ir.out jd.out je.out rfl zd v k vals rfl cG ⟨wr.heap.size,0,none⟩ 1 1 [.slice a2 j cap2] rfl rfl hnews zy zx zo zo ?_;intro v' w7 dQ eT _ fq;obtain⟨g',lC,rfl⟩:=ownsRow_succ dQ);go_roundw;case rel=>
         refine⟨k+1,_,by omega,by go_num,rfl,?_,?_⟩
         . refine Own2.push (a:=a2) (c:=cap2) jF.out (w:=W6) ?_ ?_ ?_ ?_ eT fq
           . intro i h;obtain⟨a,c,h1,h2,h3⟩:=qA.out i h;exact⟨a,c,h1,h2.below Hb.out,λb o e=>⟨(h3 b o e).1,Nat.lt_of_lt_of_le (h3 b o e).2 iz⟩⟩
           . rw[mg.out];exact nP.out.below Hb.out
           . exact λb o e=>⟨(mW.out b o e).1,Nat.lt_of_lt_of_le (mW.out b o e).2 iz⟩
           . rw[mg.out,<-HZ.out,List.length_map,Hn.out];exact dQ
         . exact(aK (aK aQ.out bQ.out) Hb.out).grown eT zo (λj e=>cZ cG j e)
        case measure=>simp[intOf];omega
  . obtain rfl:k=L:=by omega
    have hlen:R.length=k:=Jt.out;rw[<-HS.out]at pv;obtain⟨a2,c2,rfl,hcl,jA⟩:=Own2.tbl pv hlen;obtain⟨oZ,aQ⟩:=aM jA pb;clear pv pb jA hlen;go_wp2;refine bodyPost_ret (results_tmp rfl _ _ _) rfl ⟨a2,c2,rfl,hcl,oZ.out,aQ.out⟩
theorem anj (a:Option Addr)(L cap:Nat)(rows:List (List Raw))(k0:Nat)(pa:Option Addr)(pn kU:Nat)(Pp:List Raw)(w:World)(hL:rows.length=L)(zU:L<=9)(hP:Pp.length=pn)(CN:pn<=8)(hrow:∀r∈rows,r.length<=8)(ha:bo w a rows)(hp:At w pa (Pp.flatMap bA))
 (hok:∀r∈rows,∀x∈r,Ok x) (tO:∀x∈Pp,Ok x) (hT:aF w):
 Calls Tryz.prog 48 #[.slice a L cap,.int .i64 (k0:Int),.slice pa pn kU] w λe w'=>∃a' cap',e=.returned (.slice a' L cap')/\L<=cap'/\bo w' a' ((rows.set k0 Pp).map iy)/\Bw w w':=
 ani a L cap rows k0 pa pn kU Pp w hL zU hP CN hrow ha hp hok tO hT _ (λk _=>by omega)
theorem XE (a:Option Addr)(L cap n:Nat)(rows:List (List Raw))(B:Nat)(w:World)(hL:rows.length=L)(hv:eo rows=n)(hn:1<=n)(ha:bo w a rows)
 (hfit:∀r∈rows,∀c∈r,Fit B c) (hB:B<=10000000) (hT:aF w):
 Calls Tryz.prog 13 #[.slice a L cap] w λe w'=>e=.returned (.tuple #[.int .i64 ((nI (oL rows n) L).1:Int),.int .i64 ((nI (oL rows n) L).2.1:Int),bH (nI (oL rows n) L).2.2,.int .i64 0])/\Bw w w':=by
 obtain⟨c1,c2,c3,c4⟩:=wy hv zo;have hvars:=λW=>λ(h:bo W a rows)=>Bb a L cap rows W hL zo h;have xP:=λW=>λ(h:bo W a rows) (hT:aF W)=>ai3 a L cap n rows B W hL zo zo zo (λr hr=>by have:=c4 r hr;omega) h hfit hB hT;rw[hv]at hvars;obtain⟨⟨i,j,X⟩,hF⟩:∃F,nI (oL rows n) L=F:=⟨_,rfl⟩;simp only[hF]at xP;rw[hF];obtain⟨ac3,Kg,Ha,HT⟩:=dS hvars xP ha hT;have h0:((n:Int)==0)=false:=by simp;omega
 have h0':¬(n:Int)=0:=by omega
 clear hvars xP ha hT hF hfit hv c1 c2 c3 c4 hL;obtain⟨W,dw,Hb,Hr⟩:=iP w 30 [.bool false,.string ⟨#[]⟩,.int .i64 0];obtain⟨r0,ai,r1,aj,r2,aG⟩:=Hr.out.g3;go_enter Tryz.func13,Tryz.ntmps13;go_wp2_with fail;refine(ac3.out _ (Ha.out.below Hb.out)).mono ?_;rintro e w1 ⟨rfl,ae⟩;clear r0 ai r1 aj r2 aG;replace Hr:=kB Hr ae;obtain⟨r0,ai,r1,aj,r2,aG⟩:=Hr.out.g3;replace Hb:=az Hb ae;clear ae;go_wp2_with fail;refine(Kg.out _ (Ha.out.below Hb.out) (HT.out.below Hb.out)).mono ?_;rintro e w2 ⟨rfl,ae⟩;clear r0 ai r1 aj r2 aG;replace Hr:=kB Hr ae;obtain⟨r0,ai,r1,aj,r2,aG⟩:=Hr.out.g3;replace Hb:=az Hb ae;clear ae;have apT:=Hr.out.lt;obtain⟨w3,aoA,ae,Hx⟩:=cS w2 83 [.int .i64 (i:Int),.int .i64 (j:Int),.bool (ar (dN X)),.string (bs (nt (dN X).natAbs)),.int .i64 (dE X)];clear r0 ai r1 aj r2 aG;replace Hr:=kB Hr ae;obtain⟨r0,ai,r1,aj,r2,aG⟩:=Hr.out.g3;obtain⟨x0,x1,x2,x3,x4⟩:=Hx.out.c5;replace Hb:=az Hb ae;clear ae;go_wp2_with fail;refine bM (λw'=>w'.cell? ⟨w2.heap.size,0,none⟩=some (.int .i64 (i:Int))/\w'.cell? ⟨w2.heap.size,1,none⟩=some (.int .i64 (j:Int))/\w'.cell? ⟨w2.heap.size,2,none⟩=some (.bool (ar (dN X)))/\w'.cell? ⟨w2.heap.size,3,none⟩=some (.string (bs (nt (dN X).natAbs)))/\w'.cell? ⟨w2.heap.size,4,none⟩=some (.int .i64 (dE X))) (λi=>Nat.blt i 10) [(0,true),(1,true),(2,true),(3,true),(4,true),(5,true),(6,true),(7,true),(8,true),(9,true),(10,false),(11,false)] zk zk rfl zk zc ⟨x0,x1,x2,x3,x4⟩ ?_;iterate 10 (refine pT rfl rfl ?_ (by intro w' ⟨q0,q1,q2,q3,q4⟩;go_simp;try with_reducible rfl);try simp only[UU])
 refine aI rfl rfl (λK hK=>?_);go_simp;refine hK _ _ (λh=>absurd h zd) ?_;clear hK K;try simp only[UU]
 clear r0 ai r1 aj r2 aG x0 x1 x2 x3 x4;refine bO (bK w3 (w.heap.size) 0 [.bool (ar (dN X)),.string (bs (nt (dN X).natAbs)),.int .i64 (dE X)]) bV ?_;intro w4 hs;replace Hr:=cF Hr hs;replace Hx:=kS Hx hs zo;obtain⟨r0,ai,r1,aj,r2,aG⟩:=Hr.out.g3;obtain⟨x0,x1,x2,x3,x4⟩:=Hx.out.c5;replace Hb:=bS Hb hs ZS;clear hs;refine aI rfl rfl (λK hK=>?_);go_simp;refine hK _ _ (λh=>absurd h zd) ?_;clear hK K;try simp only[UU]
 simp only[aZ];go_wp2;refine bodyPost_ret (v:=.tuple #[.int .i64 (i:Int),.int .i64 (j:Int),bH X,.int .i64 0]) (by simp[results,Tryz.results13,go_sem,r0,r1,r2]) rfl ⟨rfl,?_⟩;(repeat first|exact Hb.out| (refine Below.setCell ?_ (by have:=Hb.out.size;first| (dsimp only;omega) | (show _<=_;omega) | (simp<;>omega)) _) | (refine Below.alloc ?_ zt _) |refine Below.drew ?_)
def midD (p q:List Raw):List Dyadic:=List.zipWith (λx y=>(aC x+aC y) *hp 1) p q
def pV (p q:List Raw):List Raw:=(midD p q).map canon
theorem XU {p q:List Raw}(h:p.length=q.length):(midD p q).length=p.length:=by simp[midD,h]
theorem ajw {p q:List Raw}(h:p.length=q.length):(pV p q).length=p.length:=by simp[pV,XU h]
theorem aju (p q:List Raw)(k:Nat)(h:k<p.length)(h':k<q.length):(midD p q).take (k+1)=(midD p q).take k++[(aC p[k]+aC q[k]) *hp 1]:=by unfold midD;rw[List.take_succ_eq_append_getElem zi];simp
theorem ajv {B:Nat}{p q:List Raw}(hp':∀x∈p,Fit B x)(hq:∀x∈q,Fit B x)(hB:B<=10000000):∀x∈pV p q,Fit (B+3) x:=by
 intro x hx;unfold pV midD at hx;obtain⟨d,hd,rfl⟩:=List.mem_map.1 hx;obtain⟨i,hi,rfl⟩:=List.mem_iff_getElem.1 hd;have hi1:i<p.length/\i<q.length:=by simp at hi;omega
 rw[List.getElem_zipWith];have h1:=Sm.mul (Sm.add (hp' _ (List.getElem_mem hi1.1)).2 (hq _ (List.getElem_mem hi1.2)).2) (ahO 1);exact(h1.mono (show B+1+(1+1)<=B+3 by omega)).fit zo
theorem ag9 (a:Option Addr)(L cap n:Nat)(rows:List (List Raw))(B:Nat)(i j:Nat)(Y:Dyadic)(w:World)(hL:rows.length=L)(hv:eo rows=n)(hn:1<=n)(ha:bo w a rows)
 (hfit:∀r∈rows,∀c∈r,Fit B c) (hB:B<=10000000) (hT:aF w) (hF:nI (oL rows n) L=(i,j,Y)):
 Calls Tryz.prog 14 #[.slice a L cap] w λe w'=>∃a1 c1 a2 c2,e=.returned (.tuple #[.slice a1 L c1,.slice a2 L c2,.int .i64 0])/\L<=c1/\L<=c2/\
  bo w' a1 ((rows.set j (pV (rows.getD i []) (rows.getD j []))).map iy)/\bo w' a2 ((rows.set i (pV (rows.getD i []) (rows.getD j []))).map iy)/\Bw w w':=by
 obtain⟨i0,hi,hz0,hz1,hz2⟩:=info_parts Tryz.aqU;obtain⟨c1,c2,c3,c4⟩:=wy hv zo;have xP:=λW=>λ(h:bo W a rows) (hT:aF W)=>XE a L cap n rows B W hL hv hn h hfit hB hT;have hinv:=ai0 (oL rows n) L zo;rw[hF]at hinv;simp only[hF]at xP;obtain⟨hij,MW,hY⟩:=hinv;dsimp only at hij MW hY;have VI:i<L:=by omega
 obtain⟨p,hp'⟩:=aB (rows.getD i []);obtain⟨q,hq'⟩:=aB (rows.getD j []);have ep:rows[i]'zo=p:=by rw[<-hp'];simp[hL,VI]
 have eq:rows[j]'zo=q:=by rw[<-hq'];simp[hL,MW]
 have hpl:p.length=n:=by have:=c4 p (by rw[<-ep];exact List.getElem_mem _);omega
 have DI:q.length=n:=by have:=c4 q (by rw[<-eq];exact List.getElem_mem _);omega
 have iN:∀x∈p,Fit B x:=by rw[<-ep];exact hfit _ (List.getElem_mem _)
 have NA:∀x∈q,Fit B x:=by rw[<-eq];exact hfit _ (List.getElem_mem _)
 rw[hp',hq'];have NI:=λ(k:Nat) (pa:Option Addr) (pc:Nat) (W:World) (h1:bo W a rows) (h2:At W pa (dC (midD p q))) (h3:aF W)=>anj a L cap rows k pa n pc (pV p q) W hL zo (by rw[ajw zo];exact hpl) zo (λr hr=>by have:=c4 r hr;omega) h1 (by unfold pV;rw[<-pq];exact h2) (λr hr x hx=>(hfit r hr x hx).1) (λx hx=>(ajv iN NA hB x hx).1) h3;obtain⟨A1,LP⟩:=aB ((rows.set j (pV p q)).map iy);obtain⟨A2,TQ⟩:=aB ((rows.set i (pV p q)).map iy);have rz:=NI j;have lL:=NI i;rw[LP]at rz⊢;rw[TQ]at lL⊢;have hrow:=λ(W:World) (h:bo W a rows)=>h.row i zo;have hrow2:=λ(W:World) (h:bo W a rows)=>h.row j zo;simp only[ep,hpl]at hrow;simp only[eq,DI]at hrow2;obtain⟨Z,hZ⟩:=aB (midD p q);have hst:∀k (h:k<p.length) (h':k<q.length),Z.take (k+1)=Z.take k++[(aC p[k]+aC q[k]) *hp 1]:=by rw[<-hZ];exact aju p q
 have nu:Z.length=n:=by rw[<-hZ,XU zo,hpl]
 rw[hZ]at lL rz;obtain⟨Hi,cN,cO,cH,Kg,Ha,HT,uJ,KS,sZ,acI,cE⟩:=gh hi hz0 hz1 hz2 xP ha hT lL rz hrow hrow2 hst;obtain⟨mh,ll,Hql,oX,Hqf⟩:=fC nu hpl DI iN NA;have Ig:n<=8:=by omega
 clear hi hz0 hz1 hz2 xP ha hT lL rz NI hrow hrow2 hst nu hpl DI iN NA ep eq hp' hq' hY hF hfit hv c1 c2 c3 c4 hL hZ LP TQ;have Hb:Hid (Bw w w):=Below.refl _ _;go_enter Tryz.func14,Tryz.ntmps14;go_wp2_with fail;refine(Kg.out _ (Ha.out.below Hb.out) (HT.out.below Hb.out)).mono ?_;rintro e w1 ⟨rfl,ae⟩;replace Hb:=az Hb ae;clear ae;obtain⟨w2,aoz,ae,Hx⟩:=cS w1 30 [.bool (ar (dN Y)),.string (bs (nt (dN Y).natAbs)),.int .i64 (dE Y)];obtain⟨x0,x1,x2⟩:=Hx.out.c3;replace Hb:=az Hb ae;clear ae;obtain⟨b0,o0,a1,c1,jx,hc0,gQ⟩:=sZ.out w2 (Ha.out.below Hb.out);obtain⟨jG,kR,a2,c2,eI,hc1,jJ⟩:=acI.out w2 (Ha.out.below Hb.out);obtain⟨rfl,rfl⟩:jG=b0/\kR=o0:=by rw[jx]at eI;simp at eI;exact⟨eI.1.symm,eI.2.symm⟩
 clear eI;have ua:=jN L cap i (i:Int) jx VI rfl;have ub:=jN L cap j (j:Int) jx MW rfl;rw[Nat.mul_one]at ua ub;obtain⟨oQ,sN,im,kZ,ky⟩:=fC hc0 hc1 gQ jJ jx;clear hc1 gQ jJ jx;have um:=Hb.out.size;go_wp2_with fail;go_loopw[8,25] (λs8 x wr=>∃(k:Nat) (v:Value),k<=n/\x=.int .i64 (k:Int)/\v=s8/\wr.ownsRow w2.heap.size 30 3 v k (dC (Z.take k))/\Bw w2 wr) (λ_ x _=>n-(intOf x).toNat);case atStart=>exact⟨0,_,Nat.zero_le _,rfl,rfl,World.ownsRow_nil _ _ _ _,Below.refl _ _⟩
 case round=>
  clear hc0 x0 x1 x2;obtain⟨k,v,hk,rfl,rfl,pv,pb⟩:=hrel;by_cases hlt:k<n
  . have k1:k<p.length:=by rw[ll.out];exact hlt
    have k2:k<q.length:=by rw[Hql.out];exact hlt
    obtain⟨sp,mp,ep,gg⟩:=kI (p[k]);obtain⟨sq,mq,eq,jB⟩:=kI (q[k]);have eJ:=oX.out _ (List.getElem_mem k1);have iX:=Hqf.out _ (List.getElem_mem k2);have hst:=cE.out k k1 k2;rw[gg]at eJ hst;rw[jB]at iX hst;obtain⟨D,hD⟩:=aB (aC (sp,mp,ep)+aC (sq,mq,eq));obtain⟨X,hX⟩:=aB (D*hp 1);rw[hD,hX]at hst;have fJ:Sm (B+1) D:=by rw[<-hD];exact Sm.add eJ.2 iX.2
    have HDo:Hid (Ok (ar (dN D),nt (dN D).natAbs,dE D)):=(fJ.fit zo).1;have HX:Hid (aC (ar (dN D),nt (dN D).natAbs,dE D+ -1)=X):=by show _=_;rw[<-hX];exact al2 D 1
    have mB:Hid (dC (Z.take (k+1))=dC (Z.take k)++[.bool (ar (dN X)),.string (bs (nt (dN X).natAbs)),.int .i64 (dE X)]):=by
     show _=_
     rw[hst,rN];rfl
    obtain⟨b1,o1,eI,p0,p1,p2⟩:=(im.out.below pb).num k k1 gg;obtain⟨b2,o2,fg,q0,q1,q2⟩:=(kZ.out.below pb).num k k2 jB;have kd:=lM n c1 k (k:Int) eI hlt rfl;have ov:=lM n c2 k (k:Int) fg hlt rfl;have jD:b1<w2.heap.size:=(by subst eI;exact im.out.lt (by intro h0;have:=congrArg List.length h0;rw[jW bA 3 (λ_=>rfl)]at this;simp at this;omega));have iO:b2<w2.heap.size:=(by subst fg;exact kZ.out.lt (by intro h0;have:=congrArg List.length h0;rw[jW bA 3 (λ_=>rfl)]at this;simp at this;omega));have se:jG<w2.heap.size:=World.block_lt_of_cell? w2 _ oQ.out;have Hu:Hid (bB wr jG (kR+i) [.slice a1 n c1]):=λj hj=>by
     obtain rfl:j=0:=by simp at hj;omega
     exact cell_later pb oQ.out
    have Hv:Hid (bB wr jG (kR+j) [.slice a2 n c2]):=λj hj=>by
     obtain rfl:j=0:=by simp at hj;omega
     exact cell_later pb sN.out
    have Hp:Hid (bB wr b1 (o1+k*3) [.bool sp,.string (bs mp),.int .i64 ep]):=iB p0 p1 p2;have Hq:Hid (bB wr b2 (o2+k*3) [.bool sq,.string (bs mq),.int .i64 eq]):=iB q0 q1 q2;obtain⟨lj,sV,HD,dx,sM,cV⟩:=gF eJ iX hD pv pb ((HT.out.below Hb.out).below pb);have gL:=Hb;have yK:=pb.size;clear Hb pv pb eJ iX hD hX hst fJ gg jB eI fg p0 p1 p2 q0 q1 q2;have Hb:Hid (Bw wr wr):=Below.refl _ _;go_wp2_with fail;have u0:=Hu.out.w1;have v0:=Hv.out.w1;obtain⟨p0,p1,p2⟩:=Hp.out.w3;obtain⟨q0,q1,q2⟩:=Hq.out.w3;refine bM (λw'=>w'.cell? ⟨jG,kR+i,none⟩=some (.slice a1 n c1)/\w'.cell? ⟨jG,kR+j,none⟩=some (.slice a2 n c2)/\w'.cell? ⟨b1,o1+k*3,none⟩=some (.bool sp)/\w'.cell? ⟨b1,o1+k*3+1,none⟩=some (.string (bs mp))/\w'.cell? ⟨b1,o1+k*3+2,none⟩=some (.int .i64 ep)/\w'.cell? ⟨b2,o2+k*3,none⟩=some (.bool sq)/\w'.cell? ⟨b2,o2+k*3+1,none⟩=some (.string (bs mq))/\w'.cell? ⟨b2,o2+k*3+2,none⟩=some (.int .i64 eq)) (λi=>Nat.blt i 100000) [(0,true),(1,true),(2,true),(3,true),(4,true),(5,true),(6,true),(7,true),(8,true),(9,true),(10,true),(11,true),(12,true),(13,true),(14,true),(15,false),(16,false),(17,false),(18,false),(19,false),(20,true)] zk zk rfl zk zc ⟨u0,v0,p0,p1,p2,q0,q1,q2⟩ ?_;iterate 15 (refine pT rfl rfl ?_ (by intro w' ⟨q0,q1,q2,q3,q4,q5,q6,q7⟩;go_simp;try with_reducible rfl);try simp only[UU])
    refine aI rfl rfl (λK hK=>?_);go_simp;refine hK _ _ (λ_=>⟨aJ u0,aJ v0,aJ p0,aJ p1,aJ p2,aJ q0,aJ q1,aJ q2⟩) ?_;clear hK K;try simp only[UU]
    refine bO (λw4=>ak w4 (wr.heap.size) 30 [.bool sp,.string (bs mp),.int .i64 ep,.bool sq,.string (bs mq),.int .i64 eq]/\Bw wr w4) (by first|exact dU|exact dV) ?_;rintro w4 ⟨qe,ae⟩;clear u0 v0 p0 p1 p2 q0 q1 q2;replace Hu:=kW Hu ae;replace Hv:=kW Hv ae;replace Hp:=kW Hp ae;replace Hq:=kW Hq ae;have He:=ah qe;clear qe;have u0:=Hu.out.w1;have v0:=Hv.out.w1;obtain⟨p0,p1,p2⟩:=Hp.out.w3;obtain⟨q0,q1,q2⟩:=Hq.out.w3;obtain⟨e0,e1,e2,e3,e4,e5⟩:=He.out.c6;replace Hb:=az Hb ae;clear ae;refine aI rfl rfl (λK hK=>?_);go_simp;with_reducible refine(Cw sp mp ep sq mq eq D B HD.out wr.heap.size 2 30 _ lj.out sV.out zo He.out (by first|exact(cV.out.below Hb.out) |exact aF.drew (cV.out.below Hb.out) |exact aF.alloc (cV.out.below Hb.out) _|exact aF.drew (aF.alloc (cV.out.below Hb.out) _) |exact aF.alloc (aF.drew (cV.out.below Hb.out)) _)).mono ?_
    rintro e w5 ⟨rfl,hq⟩;have ae:Bw w4 w5:=by first|exact hq|exact aV hq
    clear u0 v0 p0 p1 p2 q0 q1 q2 e0 e1 e2 e3 e4 e5;replace Hu:=kW Hu ae;replace Hv:=kW Hv ae;replace Hp:=kW Hp ae;replace Hq:=kW Hq ae;replace He:=kB He ae;have u0:=Hu.out.w1;have v0:=Hv.out.w1;obtain⟨p0,p1,p2⟩:=Hp.out.w3;obtain⟨q0,q1,q2⟩:=Hq.out.w3;obtain⟨e0,e1,e2,e3,e4,e5⟩:=He.out.c6;replace Hb:=az Hb ae;clear ae;refine hK _ _ (λ_=>⟨u0,v0,p0,p1,p2,q0,q1,q2⟩) ?_;clear hK K;try simp only[UU]
    refine aI rfl rfl (λK hK=>?_);go_simp;with_reducible refine(al1 (ar (dN D)) (nt (dN D).natAbs) (dE D) (-1) X HX.out _ HDo.out zd (by first|exact(cV.out.below Hb.out) |exact aF.drew (cV.out.below Hb.out) |exact aF.alloc (cV.out.below Hb.out) _|exact aF.drew (aF.alloc (cV.out.below Hb.out) _) |exact aF.alloc (aF.drew (cV.out.below Hb.out)) _)).mono ?_
    rintro e w6 ⟨rfl,hq⟩;have ae:Bw w5 w6:=by first|exact hq|exact aV hq
    clear u0 v0 p0 p1 p2 q0 q1 q2 e0 e1 e2 e3 e4 e5;replace Hu:=kW Hu ae;replace Hv:=kW Hv ae;replace Hp:=kW Hp ae;replace Hq:=kW Hq ae;replace He:=kB He ae;have u0:=Hu.out.w1;have v0:=Hv.out.w1;obtain⟨p0,p1,p2⟩:=Hp.out.w3;obtain⟨q0,q1,q2⟩:=Hq.out.w3;obtain⟨e0,e1,e2,e3,e4,e5⟩:=He.out.c6;replace Hb:=az Hb ae;clear ae;refine hK _ _ (λ_=>⟨u0,v0,p0,p1,p2,q0,q1,q2⟩) ?_;clear hK K;try simp only[UU]
    refine aI rfl rfl (λK hK=>?_);go_simp;refine hK _ _ (λ_=>⟨aJ u0,aJ v0,aJ p0,aJ p1,aJ p2,aJ q0,aJ q1,aJ q2⟩) ?_;clear hK K;try simp only[UU]
    refine bO (λw7=>ak w7 (w6.heap.size) 30 [.bool (ar (dN X)),.string (bs (nt (dN X).natAbs)),.int .i64 (dE X)]/\Bw w6 w7) (by first|exact dU|exact dV) ?_;rintro w7 ⟨qc,ae⟩;clear u0 v0 p0 p1 p2 q0 q1 q2 e0 e1 e2 e3 e4 e5;have apw:=He.out.lt;replace Hu:=kW Hu ae;replace Hv:=kW Hv ae;replace Hp:=kW Hp ae;replace Hq:=kW Hq ae;replace He:=kB He ae;have Hc:=ah qc;clear qc;have u0:=Hu.out.w1;have v0:=Hv.out.w1;obtain⟨p0,p1,p2⟩:=Hp.out.w3;obtain⟨q0,q1,q2⟩:=Hq.out.w3;obtain⟨e0,e1,e2,e3,e4,e5⟩:=He.out.c6;obtain⟨c0,c1,c2⟩:=Hc.out.c3;replace Hb:=az Hb ae;clear ae;refine aI rfl rfl (λK hK=>?_);have cG:=ownsRow_below dx.out Hb.out;have iz:=Hb.out.size;refine wp_append_own _ _ _ 46 rfl w2.heap.size 30 i0 _ 3 32 Tryz.underlying46 Hi.out cN.out cO.out cH.out rfl zd v k (dC (Z.take k)) rfl cG ⟨w6.heap.size,0,none⟩ 1 1 [.bool (ar (dN X)),.string (bs (nt (dN X).natAbs)),.int .i64 (dE X)] rfl rfl (fX Hc.out) zy zx zo zo ?_;intro v' w8 dW bz _;obtain⟨g',cq,rfl⟩:=ownsRow_succ dW;have nb:∀b,b<w2.heap.size->some b≠v.ownBlock:=λb hb e=>by have:=cZ cG b e.symm;omega
    refine hK _ _ (λ_=>⟨bY bz u0 (nb _ se),bY bz v0 (nb _ se),bY bz p0 (nb _ jD),bY bz p1 (nb _ jD),bY bz p2 (nb _ jD),bY bz q0 (nb _ iO),bY bz q1 (nb _ iO),bY bz q2 (nb _ iO)⟩) ?_;clear hK K;try simp only[UU]
    refine pT rfl rfl ?_;try simp only[UU]
    simp only[aZ];clear u0 v0 p0 p1 p2 q0 q1 q2 c0 c1 c2;go_wp2;go_roundw;case rel=>
     refine⟨k+1,_,by omega,by go_num,rfl,?_,?_⟩
     . rw[mB.out];exact dW
     . exact(aK sM.out Hb.out).grown bz zo (λj e=>cZ cG j e)
    case measure=>simp[intOf];omega
  . obtain rfl:k=n:=by omega
    have iJ:Z.take k=Z:=List.take_of_length_le (by rw[mh.out];exact Nat.le_refl _);rw[iJ]at pv;obtain⟨a3,SN,rfl,De,_⟩:=dG pv;obtain⟨yT,EZ,Fb,gL⟩:=dS De ((HT.out.below Hb.out).below pb) ((Ha.out.below Hb.out).below pb) (aK Hb.out pb);clear Hb De pv pb iJ ua ub;have Hb:Hid (Bw w wr):=gL;go_wp2_with fail;refine(KS.out a3 SN _ Fb.out yT.out EZ.out).mono ?_;rintro e w4 ⟨a4,c4,rfl,hl4,WO,ae⟩;have KJ:=ah WO;replace Hb:=ah (aK Hb.out ae);replace yT:=ah (yT.out.below ae);replace EZ:=ah (EZ.out.below ae);replace Fb:=ah (Fb.out.below ae);clear WO ae;go_wp2_with fail;refine(uJ.out a3 SN _ Fb.out yT.out EZ.out).mono ?_;rintro e w5 ⟨a5,c5,rfl,hl5,vF,ae⟩;have Ht5:=ah vF;replace Hb:=ah (aK Hb.out ae);replace KJ:=ah (KJ.out.below ae);clear vF ae;go_wp2;refine bodyPost_ret (v:=.tuple #[.slice a4 L c4,.slice a5 L c5,.int .i64 0]) (by simp[results,Tryz.results14,go_sem]) rfl ⟨a4,c4,a5,c5,rfl,hl4,hl5,KJ.out,Ht5.out,Hb.out⟩
theorem Tryz.aqY :(Tryz.prog.info? 45).map (λi=>(i.zero,i.size,i.bytes))=some (some (.slice none 0 0),1,24):=by kernel_rfl
def iw (o p:List Raw):List Dyadic:=List.zipWith (λx y=>aC x-aC y) p o
theorem zP {o p:List Raw}(h:p.length=o.length):(iw o p).length=p.length:=by simp[iw,h]
theorem Tn (o p:List Raw)(k:Nat)(h:k<p.length)(h':k<o.length):(iw o p).take (k+1)=(iw o p).take k++[aC p[k]-aC o[k]]:=by unfold iw;rw[List.take_succ_eq_append_getElem zi];simp
theorem Own2.aq4 {e:TypeId}{w:World}{base k:Nat}{R:List (List Dyadic)}{v:Value}(h:Own2 e w base R k v)(hk:R.length=k):∃a c,v=.slice a k c/\k<=c/\bo w a (R.map λr=>r.map canon):=by
 obtain⟨vals,hl,ho,hi⟩:=h;obtain⟨a,c,hv,hat,_⟩:=dG ho;subst hv;refine⟨a,c,rfl,AK ho,vals,by simp[hl,hk],hat,λi h1 h2=>?_⟩;obtain⟨a1,c1,e1,e2,_⟩:=hi i h2;have hi1:i<R.length:=by simpa using h1
 have eg:R.getD i []=R[i]:=by simp[hi1]
 rw[eg]at e1 e2;refine⟨a1,c1,?_,?_⟩
 . rw[e1];simp
 . rw[List.getElem_map,<-pq];exact e2
theorem YQ (b o cap m n:Nat)(rows:List (List Raw))(B:Nat)(w:World)(hL:rows.length=m+1)(hm:m<=8)(hcap:m+1<=cap)(vz:1<=m)(hn:1<=n)(Ig:n<=8)(hrow:∀r∈rows,r.length=n)(ha:bo w (some ⟨b,o,none⟩) rows)
 (hfit:∀r∈rows,∀c∈r,Fit B c) (hB:B<=10000000) (hT:aF w):
 Calls Tryz.prog 46 #[.slice (some ⟨b,o,none⟩) (m+1) cap] w λe w'=>∃a' c',e=.returned (.slice a' m c')/\m<=c'/\
  bo w' a' (((rows.drop 1).map λp=>iw (rows.getD 0 []) p).map λr=>r.map canon)/\Bw w w':=by
 obtain⟨i0,hi,hz0,hz1,hz2⟩:=info_parts Tryz.aqU;obtain⟨j0,hj,hy0,hy1,hy2⟩:=info_parts Tryz.aqY;obtain⟨S,hS⟩:=aB ((rows.drop 1).map λp=>iw (rows.getD 0 []) p);have UC:S.length=m:=by rw[<-hS];simp[hL]
 have iW:∀k (h0:0<rows.length) (h1:k+1<rows.length),S.getD k []=iw rows[0] rows[k+1]:=by
  intro k h0 h1;subst hS;have e0:rows.getD 0 []=rows[0]:=by simp[h0]
  rw[e0];have h2:k<(rows.drop 1).length:=by simp;omega
  simp[h1]
 rw[hS];have hcell:=λ(W:World) (h:bo W (some ⟨b,o,none⟩) rows) (k:Nat) (hk:k<rows.length)=>h.row k hk;obtain⟨Hi,cN,cO,cH,Hj,ir,jd,je,HSL,mg,QW,HT⟩:=gh hi hz0 hz1 hz2 hj hy0 hy1 hy2 UC iW hcell hT;obtain⟨Ha,sZ,wO,HL⟩:=dS ha hrow hfit hL;clear hi hz0 hz1 hz2 hj hy0 hy1 hy2 hS UC iW hcell ha hT hL hrow hfit;have e1:m+1-1=m:=by omega
 have e2:¬cap=1:=by omega
 go_enter Tryz.func46,Tryz.ntmps46;have Hb:Hid (Bw w w):=Below.refl _ _;go_wp2_with fail;obtain⟨r0,kN⟩:=aB (rows[0]'(by rw[HL.out];omega));obtain⟨_,_,a0,c0,jx,hc0,gQ⟩:=QW.out w Ha.out 0 (by rw[HL.out];omega);obtain⟨rfl,rfl⟩:b=_/\o=_:=by simp at jx;exact jx
 have hn0:r0.length=n:=by rw[<-kN];exact sZ.out _ (List.getElem_mem _)
 have vg:∀x∈r0,Fit B x:=by rw[<-kN];exact wO.out _ (List.getElem_mem _)
 have nX:∀k (h1:k+1<rows.length),S.getD k []=iw r0 rows[k+1]:=λk h1=>by rw[mg.out k zo h1,kN]
 rw[kN]at hc0 gQ;rw[hn0]at hc0;rw[Nat.add_zero]at hc0;have ua:=jN (m+1) cap 0 0 (show some (⟨b,o,none⟩:Addr)=some ⟨b,o,none⟩from rfl) zo rfl;rw[Nat.mul_one,Nat.add_zero]at ua;obtain⟨oQ,im,rJ,uB,HS0⟩:=fC hc0 gQ hn0 vg nX;have se:b<w.heap.size:=World.block_lt_of_cell? w _ hc0;clear hc0 gQ hn0 vg nX kN jx Hb;go_loopw[3,11] (λs3 x wr=>∃(k:Nat) (v:Value),k<=m/\x=.int .i64 (k:Int)/\v=s3/\Own2 45 wr w.heap.size S k v/\Bw w wr) (λ_ x _=>m-(intOf x).toNat);case atStart=>exact⟨0,_,Nat.zero_le _,rfl,rfl,Own2.nil _ _ _ _,Below.refl _ _⟩
 case round=>
  obtain⟨k,v,hk,rfl,rfl,pv,pb⟩:=hrel;by_cases hlt:k<m
  . have hk2:k+1<rows.length:=by rw[HL.out];omega
    obtain⟨p,gD⟩:=aB (rows[k+1]);obtain⟨_,_,a1,c1,hab,hc1,hat⟩:=QW.out wr (Ha.out.below pb) (k+1) hk2;obtain⟨rfl,rfl⟩:b=_/\o=_:=by simp at hab;exact hab
    have ke:p.length=n:=by rw[<-gD];exact sZ.out _ (List.getElem_mem hk2)
    have iN:∀x∈p,Fit B x:=by rw[<-gD];exact wO.out _ (List.getElem_mem hk2)
    have nY:=HS0.out k hk2;rw[gD]at hc1 hat nY;rw[ke]at hc1;have kd:=jN m (cap-1) k (k:Int) (show some (⟨b,o+1,none⟩:Addr)=some ⟨b,o+1,none⟩from rfl) hlt rfl;rw[Nat.mul_one]at kd;have ahf:wr.cell? ⟨b,o+1+k,none⟩=some (.slice a1 n c1):=by rw[show o+1+k=o+(k+1)by omega];exact hc1
    obtain⟨Z,hZ⟩:=aB (iw r0 p);rw[hZ]at nY;obtain⟨fx,lu,oX,uv,HZ,aQ,dx⟩:=oH hat ke iN nY hZ pb pv;clear hat ke iN nY hZ pb pv hab gD hc1;have gm:=aQ.out.size;obtain⟨wc,hwc⟩:∃wc,wc=wr:=⟨_,rfl⟩;subst hwc;go_wp2_with fail;go_loopw[6,17] (λs6 x wr=>∃(j:Nat) (v2:Value),j<=n/\x=.int .i64 (j:Int)/\v2=s6/\wr.ownsRow wc.heap.size 30 3 v2 j (dC (Z.take j))/\Bw wc wr) (λ_ x _=>n-(intOf x).toNat);case atStart=>exact⟨0,_,Nat.zero_le _,rfl,rfl,World.ownsRow_nil _ _ _ _,Below.refl _ _⟩
    case round=>
     clear ahf;obtain⟨j,v2,hj,rfl,rfl,ho,hb2⟩:=hrel;by_cases bj:j<n
     . have k1:j<p.length:=by rw[lu.out];exact bj
       have k2:j<r0.length:=by rw[rJ.out];exact bj
       obtain⟨sp,mp,ep,gg⟩:=kI (p[j]);obtain⟨sq,mq,eq,jB⟩:=kI (r0[j]);have eJ:=oX.out _ (List.getElem_mem k1);have iX:=uB.out _ (List.getElem_mem k2);rw[gg]at eJ;rw[jB]at iX;obtain⟨X,hX⟩:=aB (aC (sp,mp,ep)-aC (sq,mq,eq));have mB:Hid (dC (Z.take (j+1))=dC (Z.take j)++[.bool (ar (dN X)),.string (bs (nt (dN X).natAbs)),.int .i64 (dE X)]):=by
        show _=_
        rw[<-HZ.out,Tn _ _ _ k1 k2,rN,gg,jB,hX];rfl
       have eN:=aK aQ.out hb2;obtain⟨b1,o1,eI,p0,p1,p2⟩:=(fx.out.below hb2).num j k1 gg;obtain⟨b2,o2,fg,q0,q1,q2⟩:=(im.out.below eN).num j k2 jB;have MZ:=lM n c1 j (j:Int) eI bj rfl;have ahy:=lM n c0 j (j:Int) fg bj rfl;have jD:b1<wc.heap.size:=(by subst eI;exact fx.out.lt (by intro h0;have:=congrArg List.length h0;rw[jW bA 3 (λ_=>rfl)]at this;simp at this;omega));have iO:b2<wc.heap.size:=Nat.lt_of_lt_of_le (by subst fg;exact im.out.lt (by intro h0;have:=congrArg List.length h0;rw[jW bA 3 (λ_=>rfl)]at this;simp at this;omega)) gm;have lbc:b<wc.heap.size:=Nat.lt_of_lt_of_le se gm;have Hu:Hid (bB wr b o [.slice a0 n c0]):=λi hi=>by
        obtain rfl:i=0:=by simp at hi;omega
        exact cell_later eN oQ.out
       have Hp:Hid (bB wr b1 (o1+j*3) [.bool sp,.string (bs mp),.int .i64 ep]):=iB p0 p1 p2;have Hq:Hid (bB wr b2 (o2+j*3) [.bool sq,.string (bs mq),.int .i64 eq]):=iB q0 q1 q2;obtain⟨lj,sV,HX,Ho,sM,cV⟩:=gF eJ iX hX ho hb2 (HT.out.below eN);have yK:=hb2.size;clear ho hb2 eJ iX hX gg jB eI fg p0 p1 p2 q0 q1 q2 eN;have Hb:Hid (Bw wr wr):=Below.refl _ _;go_wp2_with fail;have u0:=Hu.out.w1;obtain⟨p0,p1,p2⟩:=Hp.out.w3;obtain⟨q0,q1,q2⟩:=Hq.out.w3;refine bM (λw'=>w'.cell? ⟨b,o,none⟩=some (.slice a0 n c0)/\w'.cell? ⟨b1,o1+j*3,none⟩=some (.bool sp)/\w'.cell? ⟨b1,o1+j*3+1,none⟩=some (.string (bs mp))/\w'.cell? ⟨b1,o1+j*3+2,none⟩=some (.int .i64 ep)/\w'.cell? ⟨b2,o2+j*3,none⟩=some (.bool sq)/\w'.cell? ⟨b2,o2+j*3+1,none⟩=some (.string (bs mq))/\w'.cell? ⟨b2,o2+j*3+2,none⟩=some (.int .i64 eq)) (λi=>Nat.blt i 100000) [(0,true),(1,true),(2,true),(3,true),(4,true),(5,true),(6,true),(7,true),(8,true),(9,true),(10,true),(11,false),(12,false),(13,false),(14,true)] zk zk rfl zk zc ⟨u0,p0,p1,p2,q0,q1,q2⟩ ?_;iterate 11 (refine pT rfl rfl ?_ (by intro w' ⟨q0,q1,q2,q3,q4,q5,q6⟩;go_simp;try with_reducible rfl);try simp only[UU])
       refine aI rfl rfl (λK hK=>?_);go_simp;with_reducible refine(zM sp mp ep sq mq eq X B HX.out _ lj.out sV.out zo (by first|exact cV.out|exact aF.drew cV.out|exact aF.alloc cV.out _|exact aF.drew (aF.alloc cV.out _) |exact aF.alloc (aF.drew cV.out) _)).mono ?_
       rintro e w6 ⟨rfl,hq⟩;have ae:Bw wr w6:=by first|exact hq|exact aV hq
       clear u0 p0 p1 p2 q0 q1 q2;replace Hu:=kW Hu ae;replace Hp:=kW Hp ae;replace Hq:=kW Hq ae;have u0:=Hu.out.w1;obtain⟨p0,p1,p2⟩:=Hp.out.w3;obtain⟨q0,q1,q2⟩:=Hq.out.w3;replace Hb:=az Hb ae;clear ae;refine hK _ _ (λ_=>⟨u0,p0,p1,p2,q0,q1,q2⟩) ?_;clear hK K;try simp only[UU]
       refine aI rfl rfl (λK hK=>?_);go_simp;refine hK _ _ (λ_=>⟨aJ u0,aJ p0,aJ p1,aJ p2,aJ q0,aJ q1,aJ q2⟩) ?_;clear hK K;try simp only[UU]
       refine bO (λw7=>ak w7 (w6.heap.size) 30 [.bool (ar (dN X)),.string (bs (nt (dN X).natAbs)),.int .i64 (dE X)]/\Bw w6 w7) (by first|exact dU|exact dV) ?_;rintro w7 ⟨qc,ae⟩;clear u0 p0 p1 p2 q0 q1 q2;replace Hu:=kW Hu ae;replace Hp:=kW Hp ae;replace Hq:=kW Hq ae;have Hc:=ah qc;clear qc;have u0:=Hu.out.w1;obtain⟨p0,p1,p2⟩:=Hp.out.w3;obtain⟨q0,q1,q2⟩:=Hq.out.w3;obtain⟨c0,c1,c2⟩:=Hc.out.c3;replace Hb:=az Hb ae;clear ae;refine aI rfl rfl (λK hK=>?_);have cG:=ownsRow_below Ho.out Hb.out;have iz:=Hb.out.size;refine wp_append_own _ _ _ 45 rfl wc.heap.size 30 i0 _ 3 32 Tryz.underlying45 Hi.out cN.out cO.out cH.out rfl zd v2 j (dC (Z.take j)) rfl cG ⟨w6.heap.size,0,none⟩ 1 1 [.bool (ar (dN X)),.string (bs (nt (dN X).natAbs)),.int .i64 (dE X)] rfl rfl (fX Hc.out) zy zx zo zo ?_;intro v' w8 dW bz _;obtain⟨g',cq,rfl⟩:=ownsRow_succ dW;have nb:∀b,b<wc.heap.size->some b≠v2.ownBlock:=λb hb e=>by have:=cZ cG b e.symm;omega
       refine hK _ _ (λ_=>⟨bY bz u0 (nb _ lbc),bY bz p0 (nb _ jD),bY bz p1 (nb _ jD),bY bz p2 (nb _ jD),bY bz q0 (nb _ iO),bY bz q1 (nb _ iO),bY bz q2 (nb _ iO)⟩) ?_;clear hK K;try simp only[UU]
       refine pT rfl rfl ?_;try simp only[UU]
       simp only[aZ];clear u0 p0 p1 p2 q0 q1 q2 c0 c1 c2;go_wp2;go_roundw;case rel=>
        refine⟨j+1,_,by omega,by go_num,rfl,?_,?_⟩
        . rw[mB.out];exact dW
        . exact(aK sM.out Hb.out).grown bz zo (λj e=>cZ cG j e)
       case measure=>simp[intOf];omega
     . obtain rfl:j=n:=by omega
       have iJ:Z.take j=Z:=List.take_of_length_le (by rw[<-HZ.out,zP (by rw[lu.out,rJ.out]),lu.out];exact Nat.le_refl _);rw[iJ]at ho;obtain⟨a2,cap2,rfl,iK,fg⟩:=dG ho;have gb:=ho.lt;obtain⟨vals,hvl,hov,jh⟩:=dx.out.below hb2;have Hb:Hid (Bw wr wr):=Below.refl _ _;obtain⟨_,_,nE,_⟩:=dx.out;have hvs:=nE.lt;have hin:∀b o,a2=some ⟨b,o,none⟩->some b≠v.ownBlock/\b<wr.heap.size:=by intro b o e;subst e;have h1:=gb b rfl;refine⟨λh2=>?_,h1.2⟩;have h3:=hvs b h2.symm;omega
       obtain⟨mW,nP,jF,qA,cM,bQ⟩:=gF hin iK hvl jh hov hb2;have um:=hb2.size;have mh:Hid (Z.length=j):=by show _=_;rw[<-HZ.out,zP (by rw[lu.out,rJ.out]),lu.out]
       clear hin iK hvl jh hov nE hvs hb2 fg gb iJ ho bj hj;obtain⟨W6,od,ae,Hd⟩:=cS wr 45 [.slice a2 j cap2];have d0:=Hd.out.c1;replace Hb:=az Hb ae;clear ae;have cG:=ownsRow_below cM.out Hb.out;have iz:=Hb.out.size;have hnews:∀i u,([.slice a2 j cap2]:List Value)[i]?=some u->W6.cell? ((⟨wr.heap.size,0,none⟩:Addr).add i)=some u:=fX Hd.out;clear d0;go_wp2_with (at_builtin;refine wpList_append_own_at _ rfl _ _ 78 rfl w.heap.size 45 j0 _ 1 24 Tryz.underlying78 Hj.out ir.out jd.out je.out rfl zd v k vals rfl cG ⟨wr.heap.size,0,none⟩ 1 1 [.slice a2 j cap2] rfl rfl hnews zy zx zo zo ?_;intro v' w7 dQ eT _ fq;obtain⟨g',lC,rfl⟩:=ownsRow_succ dQ);go_roundw;case rel=>
        refine⟨k+1,_,by omega,by go_num,rfl,?_,?_⟩
        . refine Own2.push (a:=a2) (c:=cap2) jF.out (w:=W6) ?_ ?_ ?_ ?_ eT fq
          . intro i h;obtain⟨a,c,h1,h2,h3⟩:=qA.out i h;exact⟨a,c,h1,h2.below Hb.out,λb o e=>⟨(h3 b o e).1,Nat.lt_of_lt_of_le (h3 b o e).2 iz⟩⟩
          . rw[uv.out];exact nP.out.below Hb.out
          . exact λb o e=>⟨(mW.out b o e).1,Nat.lt_of_lt_of_le (mW.out b o e).2 iz⟩
          . rw[uv.out,mh.out];exact dQ
        . exact(aK (aK aQ.out bQ.out) Hb.out).grown eT zo (λj e=>cZ cG j e)
       case measure=>simp[intOf];omega
  . obtain rfl:k=m:=by omega
    obtain⟨a2,c2,rfl,hcl,jA⟩:=Own2.aq4 pv HSL.out;obtain⟨oZ,aQ⟩:=aM jA pb;clear pv pb jA;go_wp2;refine bodyPost_ret (results_tmp rfl _ _ _) rfl ⟨a2,c2,rfl,hcl,oZ.out,aQ.out⟩
theorem Tryz.arb :(Tryz.prog.info? 28).map (λi=>(i.zero,i.size,i.bytes))=some (some (.agg #[.bool false,.string (bs [])]),2,24):=by kernel_rfl
theorem Tryz.arc :(Tryz.prog.info? 134).map (λi=>(i.zero,i.size,i.bytes))=some (some (.slice none 0 0),1,24):=by kernel_rfl
def iC (z:Int):List Value:=[.bool (ar z),.string (bs (nt z.natAbs))]
def zC (zs:List Int):List Value:=zs.flatMap iC
theorem anB (a b:List Int):zC (a++b)=zC a++zC b:=by unfold zC;rw[List.flatMap_append]
def jf (w:World)(base n:Nat)(R:List (List Int))(k:Nat)(v:Value):Prop:=
 ∃vals:List Value,vals.length=k/\w.ownsRow base 134 1 v k vals/\(∀i (h:i<vals.length),w.ownsRow base 28 2 vals[i] n (zC (R.getD i [])))/\
  ∀i j (hi:i<vals.length) (hj:j<vals.length) g,vals[i].ownBlock=some g->vals[j].ownBlock=some g->i=j
theorem jf.nil (w:World)(base n:Nat)(R:List (List Int)):jf w base n R 0 (.slice none 0 0):=
 ⟨[],rfl,World.ownsRow_nil _ _ _ _,λ_ h=>absurd h (Nat.not_lt_zero _),λ_ _ h=>absurd h (Nat.not_lt_zero _)⟩
theorem jf.below {w w':World}{base n k:Nat}{R:List (List Int)}{v:Value}(h:jf w base n R k v)(hb:Bw w w'):jf w' base n R k v:=by obtain⟨vals,hl,ho,hi,hd⟩:=h;exact⟨vals,hl,ownsRow_below ho hb,λi h=>ownsRow_below (hi i h) hb,hd⟩
theorem EA {W:World}{b1 b2 e1 e2 s1 s2 k1 k2:Nat}{v1 v2:Value}{x1 x2:List Value}(h1:W.ownsRow b1 e1 s1 v1 k1 x1)(h2:W.ownsRow b2 e2 s2 v2 k2 x2)(he:e1≠e2):v1.ownBlock=none\/v1.ownBlock≠v2.ownBlock:=by
 rcases h1.2 with⟨rfl,_⟩ |⟨g,cap,cur,rfl,_,hg,_⟩
 . exact .inl rfl
 . refine .inr λh=>?_;rcases h2.2 with⟨rfl,_⟩ |⟨g',cap',cur',rfl,_,hg',_⟩
   . simp[Value.ownBlock]at h
   . simp only[Value.ownBlock,Option.some.injEq]at h;subst h;rw[hg]at hg';simp at hg';exact he hg'.2
theorem pY {W:World}{base base':Nat}{e:TypeId}{size:Nat}{v:Value}{n:Nat}{xs:List Value}(h:W.ownsRow base e size v n xs)(hb:base'<=base):W.ownsRow base' e size v n xs:=by
 refine⟨h.1,?_⟩;rcases h.2 with h2|⟨g,cap,cur,h1,h2,h3⟩
 . exact .inl h2
 . exact .inr ⟨g,cap,cur,h1,Nat.le_trans hb h2,h3⟩
theorem jf.push {w w':World}{base n k:Nat}{R:List (List Int)}{v v' x:Value}{vals:List Value}(hl:vals.length=k)(hov:w.ownsRow base 134 1 v k vals)(hi:∀i (h:i<vals.length),w.ownsRow base 28 2 vals[i] n (zC (R.getD i [])))
 (hd:∀i j (hi:i<vals.length) (hj:j<vals.length) g,vals[i].ownBlock=some g->vals[j].ownBlock=some g->i=j)
 (hx:w.ownsRow base 28 2 x n (zC (R.getD k []))) (jK:∀g,x.ownBlock=some g->∀i (h:i<vals.length),vals[i].ownBlock≠some g)
 (ho:w'.ownsRow base 134 1 v' (k+1) (vals++[x])) (hg:w.grownBy w' v.ownBlock):jf w' base n R (k+1) v':=by
 refine⟨_,by simp[hl],ho,λi h=>?_,λi j h1 h2 g e1 e2=>?_⟩
 . by_cases hk:i<vals.length
   . rw[List.getElem_append_left hk];exact(hi i hk).kept hg (EA (hi i hk) hov zd)
   . have hik:i=k:=by simp at h;omega
     subst hik;rw[List.getElem_append_right zo];simp only[hl,Nat.sub_self,List.getElem_cons_zero];exact hx.kept hg (EA hx hov zd)
 . by_cases k1:i<vals.length
   . rw[List.getElem_append_left k1]at e1;by_cases k2:j<vals.length
     . rw[List.getElem_append_left k2]at e2;exact hd i j k1 k2 g e1 e2
     . have hjk:j=k:=by simp at h2;omega
       subst hjk;rw[List.getElem_append_right zo]at e2;simp only[hl,Nat.sub_self,List.getElem_cons_zero]at e2;exact absurd e1 (jK g e2 i k1)
   . have hik:i=k:=by simp at h1;omega
     subst hik;rw[List.getElem_append_right zo]at e1;simp only[hl,Nat.sub_self,List.getElem_cons_zero]at e1;by_cases k2:j<vals.length
     . rw[List.getElem_append_left k2]at e2;exact absurd e2 (jK g e1 j k2)
     . simp at h2;omega
def kP (l:Int)(ds:List Dyadic):Int:=ds.foldl (λl d=>min l (dE d)) l
def lO (l:Int)(R:List (List Dyadic)):Int:=R.foldl kP l
def pZ (low:Int)(d:Dyadic):Int:=dN d*2^(dE d-low).toNat
theorem XG (l:Int)(ds:List Dyadic):kP l ds<=l/\∀d∈ds,kP l ds<=dE d:=by
 induction ds generalizing l with
 |nil=>exact⟨Int.le_refl _,λd h=>by cases h⟩
 | cons x xs ih=>
   have h:=ih (min l (dE x));have e:kP l (x::xs)=kP (min l (dE x)) xs:=rfl;rw[e];refine⟨by omega,λd hd=>?_⟩;rcases List.mem_cons.1 hd with rfl|hd
   . omega
   . exact h.2 d hd
theorem Od (l:Int)(R:List (List Dyadic)):lO l R<=l/\∀r∈R,∀d∈r,lO l R<=dE d:=by
 induction R generalizing l with
 |nil=>exact⟨Int.le_refl _,λd h=>by cases h⟩
 | cons x xs ih=>
   have h:=ih (kP l x);have h1:=XG l x;have e:lO l (x::xs)=lO (kP l x) xs:=rfl;rw[e];refine⟨by omega,λr hr d hd=>?_⟩;rcases List.mem_cons.1 hr with rfl|hr
   . have:=h1.2 d hd;omega
   . exact h.2 r hr d hd
theorem XF (l:Int)(ds:List Dyadic)(m:Int)(hl:m<=l)(h:∀d∈ds,m<=dE d):m<=kP l ds:=by
 induction ds generalizing l with
 |nil=>exact hl
 |cons x xs ih=>have hx:=h x (List.mem_cons_self ..);exact ih (min l (dE x)) zo (λd hd=>h d (List.mem_cons_of_mem _ hd))
theorem Oc (l:Int)(R:List (List Dyadic))(m:Int)(hl:m<=l)(h:∀r∈R,∀d∈r,m<=dE d):m<=lO l R:=by
 induction R generalizing l with
 |nil=>exact hl
 |cons x xs ih=>exact ih (kP l x) (XF l x m hl (h x (List.mem_cons_self ..))) (λr hr=>h r (List.mem_cons_of_mem _ hr))
theorem ai4 (l:Int)(ds:List Dyadic)(k:Nat)(h:k<ds.length):kP l (ds.take (k+1))=min (kP l (ds.take k)) (dE ds[k]):=by unfold kP;rw[List.take_succ_eq_append_getElem h,List.foldl_append];rfl
theorem ai5 (l:Int)(R:List (List Dyadic))(k:Nat)(h:k<R.length):lO l (R.take (k+1))=kP (lO l (R.take k)) R[k]:=by unfold lO;rw[List.take_succ_eq_append_getElem h,List.foldl_append];rfl
theorem agj (x y z:Value)(W:World):(Instr.field 30 (.agg #[x,y,z]) 1).run Tryz.prog W=.ok z W:=by kernel_rfl
theorem alU (low:Int)(d:Dyadic)(h:low<=dE d):Dyadic.ofIntWithPrec (pZ low d) (-low)=d:=by
 have e: -low= -(dE d)+((dE d-low).toNat:Int):=by omega
 unfold pZ;rw[e,uf];exact(sF d).symm
theorem Zd (a:Option Addr)(L cap n:Nat)(rows:List (List Raw))(B:Nat)(low:Int)(w:World)(hL:rows.length=L)(hL8:L<=8)(Ig:n<=8)(hrow:∀r∈rows,r.length=n)(ha:bo w a rows)
 (hfit:∀r∈rows,∀c∈r,Fit B c) (hB:B<=10000000) (hT:aF w) (jL:lO 0 (rows.map λr=>r.map aC)=low):
 Calls Tryz.prog 87 #[.slice a L cap] w λe w'=>∃v,e=.returned (.tuple #[v,.int .i64 (-low)])/\
  jf w' w.heap.size n ((rows.map λr=>r.map aC).map λr=>r.map (pZ low)) L v/\Bw w w':=by
 obtain⟨i0,hi,hz0,hz1,hz2⟩:=info_parts Tryz.arb;obtain⟨j0,hj,hy0,hy1,hy2⟩:=info_parts Tryz.arc;obtain⟨D,hD⟩:=aB (rows.map λr=>r.map aC);have Ua:D.length=L:=by rw[<-hD];simp[hL]
 have xz:∀k (h:k<rows.length) (h':k<D.length),D[k]=rows[k].map aC:=λk h h'=>by subst hD;simp
 have CK:∀r∈D,∀d∈r,-268435456<=dE d/\dE d<=268435456:=by intro r hr d hd;rw[<-hD]at hr;obtain⟨r',hr',rfl⟩:=List.mem_map.1 hr;obtain⟨x,hx,rfl⟩:=List.mem_map.1 hd;exact(((hfit r' hr' x hx).2).fit zo).1.2
 rw[hD]at jL⊢;have hlo:low<=0/\∀r∈D,∀d∈r,low<=dE d:=by rw[<-jL];exact Od 0 D
 have hlb: -268435456<=low:=by rw[<-jL];exact Oc 0 D _ zd (λr hr d hd=>(CK r hr d hd).1)
 have DC:∀k j (h:k<D.length) (h':j<=D[k].length),-268435456<=kP (lO 0 (D.take k)) (D[k].take j)/\kP (lO 0 (D.take k)) (D[k].take j)<=0:=by intro k j h h';have g1: -268435456<=lO 0 (D.take k):=Oc 0 _ _ zd (λr hr d hd=>(CK r (List.mem_of_mem_take hr) d hd).1);have g2:=(Od 0 (D.take k)).1;have g3:=(XG (lO 0 (D.take k)) (D[k].take j)).1;exact⟨XF _ _ _ g1 (λd hd=>(CK _ (List.getElem_mem h) d (List.mem_of_mem_take hd)).1),by omega⟩
 obtain⟨Hi,cN,cO,cH,Hj,ir,jd,je,Jl,Qr,HDe,abS⟩:=gh hi hz0 hz1 hz2 hj hy0 hy1 hy2 Ua xz CK jL;obtain⟨Ru,Fv,FA,Ha,HT,sZ,wO,HL⟩:=oI hlo hlb DC ha hT hrow hfit hL;have hnl:IntKind.i64.wrap (-low)= -low:=by rw[IntKind.wrap_i64];omega
 obtain⟨nl,Nl⟩:=aB (-low);obtain⟨S,hS⟩:=aB (D.map λr=>r.map (pZ low));have iW:∀k (h:k<D.length),S.getD k []=D[k].map (pZ low):=λk h=>by subst hS;simp[h]
 rw[hS,Nl];have Wd:IntKind.i64.wrap (-low)=nl:=by rw[hnl,Nl]
 obtain⟨Ko,mg⟩:=aM Wd iW;clear hnl Nl Wd hS iW hi hz0 hz1 hz2 hj hy0 hy1 hy2 DC hlb hlo CK xz Ua jL ha hT hrow hfit hL hD;go_enter Tryz.func87,Tryz.ntmps87;have Hb:Hid (Bw w w):=Below.refl _ _;go_wp2_with fail;go_loopw[4,18] (λs4 x wr=>∃k:Nat,k<=L/\x=.int .i64 (k:Int)/\s4=.int .i64 (lO 0 (D.take k))/\Bw w wr) (λ_ x _=>L-(intOf x).toNat);case atStart=>exact⟨0,Nat.zero_le _,rfl,rfl,Hb.out⟩
 case round=>
  clear Hb;obtain⟨k,hk,rfl,rfl,pb⟩:=hrel;by_cases hlt:k<L
  . have hk2:k<rows.length:=by rw[HL.out];exact hlt
    have hk3:k<D.length:=by rw[Jl.out];exact hlt
    obtain⟨p,gD⟩:=aB (rows[k]);obtain⟨b,o,a1,c1,hab,hc1,hat⟩:=(Ha.out.below pb).row k hk2;have ke:p.length=n:=by rw[<-gD];exact sZ.out _ (List.getElem_mem hk2)
    have iN:∀x∈p,Fit B x:=by rw[<-gD];exact wO.out _ (List.getElem_mem hk2)
    have tA:=Qr.out k hk2 hk3;rw[gD]at hc1 hat tA;rw[ke]at hc1;have kd:=tZ L cap k (k:Int) hab hlt rfl;rw[Nat.mul_one]at kd;have hst:=ai5 0 D k hk3;have hpt:=λj (h:j<=n)=>FA.out k j hk3 (by rw[tA,List.length_map,ke];exact h);rw[tA]at hst;simp only[tA]at hpt;obtain⟨l0,hl0⟩:=aB (lO 0 (D.take k));rw[hl0]at hst⊢;simp only[hl0]at hpt;obtain⟨fx,lu,oX,cE,Hpt,aQ⟩:=gF hat ke iN hst hpt pb;clear hat ke iN hst hpt pb hab gD tA hl0 hk2 hk3;obtain⟨wc,hwc⟩:∃wc,wc=wr:=⟨_,rfl⟩;subst hwc;have gm:=aQ.out.size;go_wp2_with fail;go_loopw[4,24] (λs4 x wr=>∃j:Nat,j<=n/\x=.int .i64 (j:Int)/\s4=.int .i64 (kP l0 ((p.map aC).take j))/\Bw wc wr) (λ_ x _=>n-(intOf x).toNat);case atStart=>exact⟨0,Nat.zero_le _,rfl,rfl,Below.refl _ _⟩
    case round=>
     clear hc1;obtain⟨j,hj,rfl,rfl,hb2⟩:=hrel;by_cases bj:j<n
     . have k1:j<p.length:=by rw[lu.out];exact bj
       obtain⟨sp,mp,ep,gg⟩:=kI (p[j]);have eJ:=oX.out _ (List.getElem_mem k1);have hst:=ai4 l0 (p.map aC) j (by simpa using k1);rw[List.getElem_map,gg]at hst;rw[gg]at eJ;obtain⟨X,hX⟩:=aB (aC (sp,mp,ep));rw[hX]at hst;obtain⟨l1,vt⟩:=aB (kP l0 ((p.map aC).take j));rw[vt]at hst⊢;obtain⟨b1,o1,eI,p0,p1,p2⟩:=(fx.out.below hb2).num j k1 gg;have MZ:=jC n c1 j (j:Int) eI bj rfl;have Hp:Hid (bB wr b1 (o1+j*3) [.bool sp,.string (bs mp),.int .i64 ep]):=iB p0 p1 p2;obtain⟨lj,HX,sM,mB,cV⟩:=fC eJ.1 hX hb2 hst ((HT.out.below aQ.out).below hb2);clear hb2 eJ hX hst gg eI p0 p1 p2 vt;have Hb:Hid (Bw wr wr):=Below.refl _ _;obtain⟨p0,p1,p2⟩:=Hp.out.w3;have P0:=p0;have P1:=p1;have P2:=p2;have fl:=agj (.bool (ar (dN X))) (.string (bs (nt (dN X).natAbs))) (.int .i64 (dE X));obtain⟨W4,pH,ae,Hc⟩:=cS wr 30 [.bool sp,.string (bs mp),.int .i64 ep];clear p0 p1 p2;replace Hp:=kW Hp ae;obtain⟨p0,p1,p2⟩:=Hp.out.w3;obtain⟨c0,c1,c2⟩:=Hc.out.c3;replace Hb:=az Hb ae;clear ae;have HT:Hid (aF W4):=cV.out.below Hb.out;go_wp2_with fail;refine(qJ sp mp ep X HX.out _ lj.out HT.out).mono ?_;rintro e w5 ⟨rfl,ae⟩;clear p0 p1 p2 c0 c1 c2;replace Hp:=kW Hp ae;replace Hc:=kB Hc ae;replace HT:=kT HT ae;obtain⟨p0,p1,p2⟩:=Hp.out.w3;obtain⟨c0,c1,c2⟩:=Hc.out.c3;replace Hb:=az Hb ae;clear ae;go_wp2;go_roundw;case rel=>exact⟨j+1,by omega,by go_num,by rw[mB.out],aK sM.out Hb.out⟩
       case measure=>simp[intOf];omega
     . obtain rfl:j=n:=by omega
       have hpt:(p.map aC).take j=p.map aC:=List.take_of_length_le (by simp[lu.out]);rw[hpt];go_wp2;go_roundw;case rel=>exact⟨k+1,by omega,by go_num,by rw[cE.out],aK aQ.out hb2⟩
       case measure=>simp[intOf];omega
  . obtain rfl:k=L:=by omega
    have Uc:D.take k=D:=List.take_of_length_le (by rw[Jl.out];exact Nat.le_refl _);rw[Uc,abS.out];have aQ:=ah pb;clear pb Uc;obtain⟨wa,hwa⟩:∃wa,wa=wr:=⟨_,rfl⟩;subst hwa;have PO:=aQ.out.size;go_wp2_with fail;go_loopw[9,37] (λs9 x wr=>∃(i:Nat) (v:Value),i<=k/\x=.int .i64 (i:Int)/\v=s9/\jf wr w.heap.size n S i v/\Bw w wr) (λ_ x _=>k-(intOf x).toNat);case atStart=>exact⟨0,_,Nat.zero_le _,rfl,rfl,jf.nil _ _ _ _,aQ.out⟩
    case round=>
     clear aQ PO;obtain⟨i,v,hk,rfl,rfl,pv,pb⟩:=hrel;by_cases hlt:i<k
     . have hk2:i<rows.length:=by rw[HL.out];exact hlt
       have hk3:i<D.length:=by rw[Jl.out];exact hlt
       obtain⟨p,gD⟩:=aB (rows[i]);obtain⟨b,o,a1,c1,hab,hc1,hat⟩:=(Ha.out.below pb).row i hk2;have ke:p.length=n:=by rw[<-gD];exact sZ.out _ (List.getElem_mem hk2)
       have iN:∀x∈p,Fit B x:=by rw[<-gD];exact wO.out _ (List.getElem_mem hk2)
       have tA:=Qr.out i hk2 hk3;have nY:=mg.out i hk3;have hpl:=Ru.out.2 _ (List.getElem_mem hk3);rw[gD]at hc1 hat tA;rw[tA]at nY hpl;rw[ke]at hc1;have kd:=tZ k cap i (i:Int) hab hlt rfl;rw[Nat.mul_one]at kd;obtain⟨Z,hZ⟩:=aB ((p.map aC).map (pZ low));rw[hZ]at nY;obtain⟨fx,lu,oX,uv,HZ,ll,aQ,dx⟩:=oI hat ke iN nY hZ hpl pb pv;clear hat ke iN nY hZ hpl pb pv hab gD tA hk2 hk3;obtain⟨wc,hwc⟩:∃wc,wc=wr:=⟨_,rfl⟩;subst hwc;have gm:=aQ.out.size;go_wp2_with fail;go_loopw[12,43] (λs12 x wr=>∃(j:Nat) (v2:Value),j<=n/\x=.int .i64 (j:Int)/\v2=s12/\wr.ownsRow wc.heap.size 28 2 v2 j (zC (Z.take j))/\Bw wc wr) (λ_ x _=>n-(intOf x).toNat);case atStart=>exact⟨0,_,Nat.zero_le _,rfl,rfl,World.ownsRow_nil _ _ _ _,Below.refl _ _⟩
       case round=>
        clear hc1;obtain⟨j,v2,hj,rfl,rfl,ho,hb2⟩:=hrel;by_cases bj:j<n
        . have k1:j<p.length:=by rw[lu.out];exact bj
          obtain⟨sp,mp,ep,gg⟩:=kI (p[j]);have eJ:=oX.out _ (List.getElem_mem k1);rw[gg]at eJ;obtain⟨X,hX⟩:=aB (aC (sp,mp,ep));have hle:low<=dE X:=ll.out X (by rw[<-hX,<-gg];exact List.mem_map_of_mem (List.getElem_mem k1));have fA:Sm B X:=by rw[<-hX];exact eJ.2
          have Mz:=(fA.fit zo).1;have pI:(nt (dN X).natAbs).length<=268435456:=Mz.1;have hXe: -268435456<=dE X/\dE X<=268435456:=Mz.2;obtain⟨Y,hY⟩:=aB (pZ low X);have hlb:=Fv.out;have hl0:=Ru.out.1;obtain⟨t,ht⟩:∃t:Int,dE X-low=t:=⟨_,rfl⟩;have hwr:IntKind.i64.wrap (dE X-low)=t:=by rw[IntKind.wrap_i64];omega
          have hsh:∀W,Calls Tryz.prog 106 #[.agg #[.bool (ar (dN X)),.string (bs (nt (dN X).natAbs))],.int .i64 t] W λe w'=>e=.returned (cW Y)/\Bw W w':=by intro W;have h:=PZ (ar (dN X)) (nt (dN X).natAbs) (dE X-low).toNat W zo zo;rw[ft,show((dE X-low).toNat:Int)=t by omega]at h;rw[<-hY];exact h
          have cE:Hid (zC (Z.take (j+1))=zC (Z.take j)++[.bool (ar Y),.string (bs (nt Y.natAbs))]):=by
           show _=_
           rw[<-HZ.out,List.take_succ_eq_append_getElem (by simpa using k1),anB];congr 1;simp only[List.getElem_map,gg,hX,hY];rfl
          obtain⟨b1,o1,eI,p0,p1,p2⟩:=(fx.out.below hb2).num j k1 gg;have MZ:=jC n c1 j (j:Int) eI bj rfl;have Hp:Hid (bB wr b1 (o1+j*3) [.bool sp,.string (bs mp),.int .i64 ep]):=iB p0 p1 p2;obtain⟨lj,HX,Ho,bQ,Hsh,Hwr,cV⟩:=oH eJ.1 hX ho hb2 hsh hwr ((HT.out.below aQ.out).below hb2);have um:=hb2.size;clear ho hb2 eJ hX gg eI p0 p1 p2 hle fA Mz pI hXe hY hlb hl0 ht hsh hwr;have Hb:Hid (Bw wr wr):=Below.refl _ _;obtain⟨p0,p1,p2⟩:=Hp.out.w3;have P0:=p0;have P1:=p1;have P2:=p2;obtain⟨W4,pH,ae,Hc⟩:=cS wr 30 [.bool sp,.string (bs mp),.int .i64 ep];clear p0 p1 p2;replace Hp:=kW Hp ae;obtain⟨p0,p1,p2⟩:=Hp.out.w3;obtain⟨c0,c1,c2⟩:=Hc.out.c3;replace Hb:=az Hb ae;clear ae;have HT:Hid (aF W4):=cV.out.below Hb.out;go_wp2_with fail;refine(qJ sp mp ep X HX.out _ lj.out HT.out).mono ?_;rintro e w5 ⟨rfl,ae⟩;clear p0 p1 p2 c0 c1 c2;replace Hp:=kW Hp ae;replace Hc:=kB Hc ae;replace HT:=kT HT ae;obtain⟨p0,p1,p2⟩:=Hp.out.w3;obtain⟨c0,c1,c2⟩:=Hc.out.c3;replace Hb:=az Hb ae;clear ae;have aja:=Hc.out.lt;obtain⟨W6,od,ae,Hy⟩:=cS w5 30 [.bool (ar (dN X)),.string (bs (nt (dN X).natAbs)),.int .i64 (dE X)];clear p0 p1 p2;replace Hp:=kW Hp ae;clear c0 c1 c2;replace Hc:=kB Hc ae;replace HT:=kT HT ae;obtain⟨p0,p1,p2⟩:=Hp.out.w3;obtain⟨c0,c1,c2⟩:=Hc.out.c3;obtain⟨y0,y1,y2⟩:=Hy.out.c3;replace Hb:=az Hb ae;clear ae;have hwr:=Hwr.out;go_wp2_with fail;refine(Hsh.out _).mono ?_;rintro e w7 ⟨rfl,ae⟩;clear p0 p1 p2 c0 c1 c2 y0 y1 y2;replace Hp:=kW Hp ae;replace Hc:=kB Hc ae;replace HT:=kT HT ae;replace Hy:=kB Hy ae;obtain⟨p0,p1,p2⟩:=Hp.out.w3;obtain⟨c0,c1,c2⟩:=Hc.out.c3;obtain⟨y0,y1,y2⟩:=Hy.out.c3;replace Hb:=az Hb ae;clear ae hwr;have apq:=Hc.out.lt;have XP:=Hy.out.lt;obtain⟨W8,UK,ae,Hd⟩:=cS w7 28 [.bool (ar Y),.string (bs (nt Y.natAbs))];clear p0 p1 p2;replace Hp:=kW Hp ae;clear c0 c1 c2;replace Hc:=kB Hc ae;replace HT:=kT HT ae;clear y0 y1 y2;replace Hy:=kB Hy ae;obtain⟨p0,p1,p2⟩:=Hp.out.w3;obtain⟨c0,c1,c2⟩:=Hc.out.c3;obtain⟨y0,y1,y2⟩:=Hy.out.c3;obtain⟨d0,d1⟩:=Hd.out.c2;replace Hb:=az Hb ae;clear ae;have cG:=ownsRow_below Ho.out Hb.out;have iz:=Hb.out.size;have hnews:=fX Hd.out;clear d0 d1;go_wp2_with (at_builtin;refine wpList_append_own_at _ rfl _ _ 134 rfl wc.heap.size 28 i0 _ 2 24 Tryz.underlying134 Hi.out cN.out cO.out cH.out rfl zd v2 j (zC (Z.take j)) rfl cG ⟨w7.heap.size,0,none⟩ 1 1 [.bool (ar Y),.string (bs (nt Y.natAbs))] rfl rfl hnews zy zx zo zo ?_;intro v' w9 gT pJ _ _;obtain⟨g',lC,rfl⟩:=ownsRow_succ gT);go_roundw;case rel=>
           refine⟨j+1,_,by omega,by go_num,rfl,?_,?_⟩
           . rw[cE.out];exact gT
           . exact(aK bQ.out Hb.out).grown pJ zo (λj e=>cZ cG j e)
          case measure=>simp[intOf];omega
        . obtain rfl:j=n:=by omega
          have iJ:Z.take j=Z:=List.take_of_length_le (by rw[<-HZ.out];simp[lu.out]);rw[iJ]at ho;obtain⟨a2,cap2,rfl,_,_⟩:=dG ho;have gb:=ho.lt;obtain⟨vals,hvl,hov,jh,DL⟩:=dx.out;have jK:∀g,(Value.slice a2 j cap2).ownBlock=some g->∀m (h:m<vals.length),vals[m].ownBlock≠some g:=by intro g h1 m h2 h3;have:=(gb g h1).1;have:=((jh m h2).lt g h3).2;omega
          obtain⟨uD,jF,qA,cM,bQ,KN,Ho⟩:=oH jK hvl jh hov hb2 DL ho;have Hb:Hid (Bw wr wr):=Below.refl _ _;have um:=hb2.size;clear jK hvl hov jh hb2 DL gb iJ ho bj hj;obtain⟨W6,od,ae,Hd⟩:=cS wr 134 [.slice a2 j cap2];have d0:=Hd.out.c1;replace Hb:=az Hb ae;clear ae;have LU:=aK bQ.out Hb.out;have cG:=ownsRow_below cM.out LU;have iz:=Hb.out.size;have hnews:∀i u,([.slice a2 j cap2]:List Value)[i]?=some u->W6.cell? ((⟨wr.heap.size,0,none⟩:Addr).add i)=some u:=fX Hd.out;clear d0;go_wp2_with (at_builtin;refine wpList_append_own_at _ rfl _ _ 116 rfl w.heap.size 134 j0 _ 1 24 Tryz.underlying116 Hj.out ir.out jd.out je.out rfl zd v i vals rfl cG ⟨wr.heap.size,0,none⟩ 1 1 [.slice a2 j cap2] rfl rfl hnews zy zx zo zo ?_;intro v' w7 dQ eT _ _;obtain⟨g',lC,rfl⟩:=ownsRow_succ dQ);go_roundw;case rel=>
           refine⟨i+1,_,by omega,by go_num,rfl,?_,?_⟩
           . refine jf.push (w:=W6) jF.out cG (λm h=>ownsRow_below (qA.out m h) LU) KN.out ?_ uD.out dQ eT;rw[uv.out];exact pY (ownsRow_below Ho.out Hb.out) zo
           . exact(aK aQ.out LU).grown eT zo (λj e=>cZ cG j e)
          case measure=>simp[intOf];omega
     . obtain rfl:i=k:=by omega
       obtain⟨aQ,dx⟩:=aM pb pv;clear pb pv;have hnl:=Ko.out;go_wp2;refine bodyPost_ret (v:=.tuple #[v,.int .i64 nl]) (by simp[results,Tryz.results87,go_sem]) rfl ⟨v,rfl,dx.out,aQ.out⟩
end Go.Proofs.YtdaadlblknpipaaGreatDoor
namespace Go.Proofs.YtdaadlblknpipaaGreatDoor
open Go.RowKit
theorem lR {w:World}{base:Nat}{e:TypeId}{size n cap g:Nat}{xs:List Value}(h:w.ownsRow base e size (.slice (some ⟨g,0,none⟩) n cap) n xs)(j:Nat)(hj:j<xs.length):w.cell? ⟨g,j,none⟩=some xs[j]:=by
 rcases h.2 with⟨h1,_⟩ |⟨g',cap',cur,h1,_,hg,_,_,_,hx⟩
 . simp at h1
 . simp only[Value.slice.injEq,Option.some.injEq,Addr.mk.injEq,and_true,true_and]at h1;obtain⟨rfl,rfl⟩:=h1;have h2:cur.toList.take (n*size)=xs:=hx;have h3:cur.toList[j]?=some xs[j]:=by rw[<-List.getElem?_eq_getElem hj];simp only[<-h2];rw[List.getElem?_take];rw[<-h2,List.length_take]at hj;rw[if_pos (Nat.lt_of_lt_of_le hj (Nat.min_le_left _ _))]
   have h4:ak w g e cur.toList:=by unfold ak;simpa using hg
   rw[h4.cell];exact h3
theorem jP {w:World}{base:Nat}{e:TypeId}{size n cap g:Nat}{xs:List Value}(h:w.ownsRow base e size (.slice (some ⟨g,0,none⟩) n cap) n xs)(j:Nat)(u:Value):(w.setCell ⟨g,j,none⟩ u).ownsRow base e size (.slice (some ⟨g,0,none⟩) n cap) n (xs.set j u):=by
 refine⟨by rw[List.length_set];exact h.1,?_⟩;rcases h.2 with⟨h1,_⟩ |⟨g',cap',cur,h1,hb,hg,h4,h5,h6,hx⟩
 . simp at h1
 . simp only[Value.slice.injEq,Option.some.injEq,Addr.mk.injEq,and_true,true_and]at h1;obtain⟨rfl,rfl⟩:=h1;refine .inr ⟨g,cap,cur.setIfInBounds j u,rfl,hb,?_,h4,h5,by simpa using h6,?_⟩
   . simp[World.setCell,Array.getElem?_modify,hg]
   . rw[<-hx];simp[List.take_set]
theorem anD (zs:List Int):(zC zs).length=zs.length*2:=jW iC 2 (λ_=>rfl) zs
theorem anC (zs:List Int)(j:Nat)(hj:j<zs.length):(zC zs)[j*2]?=some (.bool (ar zs[j]))/\(zC zs)[j*2+1]?=some (.string (bs (nt zs[j].natAbs))):=by
 induction zs generalizing j with
 |nil=>simp at hj
 | cons z zs ih=>
   have e:zC (z::zs)=.bool (ar z)::.string (bs (nt z.natAbs))::zC zs:=rfl;rw[e];cases j with
   |zero=>exact⟨rfl,rfl⟩
   |succ j=>have:=ih j (by simpa using hj);rw[show(j+1) *2=j*2+1+1 by omega];simpa using this
theorem anE (zs:List Int)(j:Nat)(hj:j<zs.length)(y:Int):((zC zs).set (j*2) (.bool (ar y))).set (j*2+1) (.string (bs (nt y.natAbs)))=zC (zs.set j y):=by
 induction zs generalizing j with
 |nil=>simp at hj
 | cons z zs ih=>
   have e:zC (z::zs)=.bool (ar z)::.string (bs (nt z.natAbs))::zC zs:=rfl;rw[e];cases j with
   |zero=>rfl
   |succ j=>have:=ih j (by simpa using hj);rw[show(j+1) *2=j*2+1+1 by omega];simp only[List.set_cons_succ];rw[this];rfl
theorem jf.num {w:World}{base n L:Nat}{R:List (List Int)}{v:Value}(h:jf w base n R L v)(i j:Nat)(hi:i<L)(hj:j<n)(hR:R.length=L)(hr:(R.getD i []).length=n):
 ∃go cap g c,v=.slice (some ⟨go,0,none⟩) L cap/\base<=go/\base<=g/\g≠go/\w.cell? ⟨go,i,none⟩=some (.slice (some ⟨g,0,none⟩) n c)/\
  w.cell? ⟨g,j*2,none⟩=some (.bool (ar ((R.getD i []).getD j 0)))/\w.cell? ⟨g,j*2+1,none⟩=some (.string (bs (nt ((R.getD i []).getD j 0).natAbs)))/\
  ∀y:Int,jf ((w.setCell ⟨g,j*2,none⟩ (.bool (ar y))).setCell ⟨g,j*2+1,none⟩ (.string (bs (nt y.natAbs)))) base n (R.set i ((R.getD i []).set j y)) L v:=by
 obtain⟨vals,hl,ho,hv,hd⟩:=h;have hi2:i<vals.length:=by omega
 have hrow:=hv i hi2;have hxl:(zC (R.getD i [])).length=n*2:=by rw[anD,hr]
 obtain⟨a0,cap,rfl,_,_⟩:=dG ho;obtain⟨a1,c,e1,_,hab⟩:=dG hrow;rw[e1]at hrow;rcases ho.2 with⟨h1,_⟩ |⟨go,cap',cur,h1,om,hgo,_⟩
 . simp at h1;omega
 simp only[Value.slice.injEq,true_and]at h1;obtain⟨rfl,rfl⟩:=h1;rcases hrow.2 with⟨h1,_⟩ |⟨g,c',cur',h1,hbg,hgg,_⟩
 . simp at h1;omega
 simp only[Value.slice.injEq,true_and]at h1;obtain⟨rfl,rfl⟩:=h1;have hne:g≠go:=by rintro rfl;rw[hgo]at hgg;simp at hgg
 have hat:=anC (R.getD i []) j zo;have hg0:(R.getD i []).getD j 0=(R.getD i [])[j]'zo:=by rw[List.getD_eq_getElem?_getD,List.getElem?_eq_getElem zo];rfl
 have hc0:=lR hrow (j*2) zo;have hc1:=lR hrow (j*2+1) zo;rw[<-List.getElem?_eq_getElem]at hc0 hc1;rw[hat.1]at hc0;rw[hat.2]at hc1;refine⟨go,cap,g,c,rfl,om,hbg,hne,?_,by rw[hg0];exact hc0,by rw[hg0];exact hc1,λy=>?_⟩
 . rw[lR ho i zo,e1]
 . refine⟨vals,hl,?_,λm hm=>?_,hd⟩
   . exact ownsRow_setCell_other (ownsRow_setCell_other ho (by simpa[Value.ownBlock]using hne.symm) _) (by simpa[Value.ownBlock]using hne.symm) _
   . by_cases tK:m=i
     . subst tK;have hs:(R.set m ((R.getD m []).set j y)).getD m []=(R.getD m []).set j y:=by rw[List.getD_eq_getElem?_getD,List.getElem?_set_self zo];rfl
       rw[hs,e1,<-anE _ _ zo];exact jP (jP hrow _ _) _ _
     . have hs:(R.set i ((R.getD i []).set j y)).getD m []=R.getD m []:=by rw[List.getD_eq_getElem?_getD,List.getElem?_set_ne (λe=>tK e.symm),<-List.getD_eq_getElem?_getD]
       rw[hs];have hno:vals[m].ownBlock≠some g:=λe=>tK (hd m i hm hi2 g e (by rw[e1];rfl));exact ownsRow_setCell_other (ownsRow_setCell_other (hv m hm) hno _) hno _
def swp (i m k:Nat):Nat:=if k=i then m else if k=m then i else k
theorem amo {i m a b:Nat}(h:swp i m a=swp i m b):a=b:=by
 unfold swp at h;repeat' split at h
 all_goals omega
theorem Jb {i m k L:Nat}(hi:i<L)(hm:m<L)(hk:k<L):swp i m k<L:=by
 unfold swp;repeat' split
 all_goals omega
theorem PC {α:Type}(l:List α)(d:α)(i m:Nat)(hi:i<l.length)(hm:m<l.length)(k:Nat)(hk:k<l.length):((l.set i (l.getD m d)).set m (l.getD i d)).getD k d=l.getD (swp i m k) d:=by
 unfold swp;by_cases h1:k=m
 . subst h1;rw[List.getD_eq_getElem?_getD,List.getElem?_set_self (by simpa using hk)];by_cases h2:k=i
   . subst h2;simp
   . simp[h2]
 . rw[List.getD_eq_getElem?_getD,List.getElem?_set_ne (λe=>h1 e.symm)];by_cases h2:k=i
   . subst h2;rw[List.getElem?_set_self (by simpa using hk)];simp
   . rw[List.getElem?_set_ne (λe=>h2 e.symm)];simp[h1,h2]
theorem jf.swap {w:World}{base n L go cap:Nat}{R:List (List Int)}(h:jf w base n R L (.slice (some ⟨go,0,none⟩) L cap))(i m:Nat)(hi:i<L)(hm:m<L)(hR:R.length=L):
 ∃x y,w.cell? ⟨go,i,none⟩=some x/\w.cell? ⟨go,m,none⟩=some y/\jf ((w.setCell ⟨go,i,none⟩ y).setCell ⟨go,m,none⟩ x) base n ((R.set i (R.getD m [])).set m (R.getD i [])) L (.slice (some ⟨go,0,none⟩) L cap):=by
 obtain⟨vals,hl,ho,hv,hd⟩:=h;have hi2:i<vals.length:=by omega
 have hm2:m<vals.length:=by omega
 have hgo:∀k (hk:k<vals.length),vals[k].ownBlock≠some go\/vals[k].ownBlock=none:=by
  intro k hk;rcases EA (hv k hk) ho zd with e|e
  . exact .inr e
  . exact .inl e
 have hel:∀k (hk:k<vals.length),((vals.set i vals[m]).set m vals[i])[k]'(by simpa using hk)=vals[swp i m k]'(Jb hi2 hm2 hk):=by intro k hk;have:=PC vals (.bool false) i m hi2 hm2 k hk;have hs:=Jb hi2 hm2 hk;simpa[List.getD_eq_getElem?_getD,List.getElem?_eq_getElem,hi2,hm2,hk,hs]using this
 refine⟨vals[i],vals[m],lR ho i zo,lR ho m zo,_,by simp[hl],jP (jP ho i _) m _,λk hk=>?_,λa b ha hb g e1 e2=>?_⟩
 . have hk2:k<vals.length:=by simpa using hk
   have hs:=Jb hi2 hm2 hk2;rw[hel k hk2,PC R [] i m zo zo k zo];have hno:vals[swp i m k].ownBlock≠some go:=by
    rcases hgo _ hs with e|e
    . exact e
    . rw[e];simp
   exact ownsRow_setCell_other (ownsRow_setCell_other (hv _ hs) hno _) hno _
 . have ha2:a<vals.length:=by simpa using ha
   have hb2:b<vals.length:=by simpa using hb
   rw[hel a ha2]at e1;rw[hel b hb2]at e2;exact amo (hd _ _ _ _ g e1 e2)
def fM (w:World)(base n:Nat)(R:List (List Dyadic))(k:Nat)(v:Value):Prop:=
 ∃vals:List Value,vals.length=k/\w.ownsRow base 45 1 v k vals/\(∀i (h:i<vals.length),w.ownsRow base 30 3 vals[i] n (dC (R.getD i [])))/\
  ∀i j (hi:i<vals.length) (hj:j<vals.length) g,vals[i].ownBlock=some g->vals[j].ownBlock=some g->i=j
theorem fM.nil (w:World)(base n:Nat)(R:List (List Dyadic)):fM w base n R 0 (.slice none 0 0):=
 ⟨[],rfl,World.ownsRow_nil _ _ _ _,λ_ h=>absurd h (Nat.not_lt_zero _),λ_ _ h=>absurd h (Nat.not_lt_zero _)⟩
theorem fM.below {w w':World}{base n k:Nat}{R:List (List Dyadic)}{v:Value}(h:fM w base n R k v)(hb:Bw w w'):fM w' base n R k v:=by obtain⟨vals,hl,ho,hi,hd⟩:=h;exact⟨vals,hl,ownsRow_below ho hb,λi h=>ownsRow_below (hi i h) hb,hd⟩
theorem fM.push {w w':World}{base n k:Nat}{R:List (List Dyadic)}{v v' x:Value}{vals:List Value}(hl:vals.length=k)(hov:w.ownsRow base 45 1 v k vals)(hi:∀i (h:i<vals.length),w.ownsRow base 30 3 vals[i] n (dC (R.getD i [])))
 (hd:∀i j (hi:i<vals.length) (hj:j<vals.length) g,vals[i].ownBlock=some g->vals[j].ownBlock=some g->i=j)
 (hx:w.ownsRow base 30 3 x n (dC (R.getD k []))) (jK:∀g,x.ownBlock=some g->∀i (h:i<vals.length),vals[i].ownBlock≠some g)
 (ho:w'.ownsRow base 45 1 v' (k+1) (vals++[x])) (hg:w.grownBy w' v.ownBlock):fM w' base n R (k+1) v':=by
 refine⟨_,by simp[hl],ho,λi h=>?_,λi j h1 h2 g e1 e2=>?_⟩
 . by_cases hk:i<vals.length
   . rw[List.getElem_append_left hk];exact(hi i hk).kept hg (EA (hi i hk) hov zd)
   . have hik:i=k:=by simp at h;omega
     subst hik;rw[List.getElem_append_right zo];simp only[hl,Nat.sub_self,List.getElem_cons_zero];exact hx.kept hg (EA hx hov zd)
 . by_cases k1:i<vals.length
   . rw[List.getElem_append_left k1]at e1;by_cases k2:j<vals.length
     . rw[List.getElem_append_left k2]at e2;exact hd i j k1 k2 g e1 e2
     . have hjk:j=k:=by simp at h2;omega
       subst hjk;rw[List.getElem_append_right zo]at e2;simp only[hl,Nat.sub_self,List.getElem_cons_zero]at e2;exact absurd e1 (jK g e2 i k1)
   . have hik:i=k:=by simp at h1;omega
     subst hik;rw[List.getElem_append_right zo]at e1;simp only[hl,Nat.sub_self,List.getElem_cons_zero]at e1;by_cases k2:j<vals.length
     . rw[List.getElem_append_left k2]at e2;exact absurd e2 (jK g e1 j k2)
     . simp at h2;omega
theorem fM.tbl {w:World}{base n k:Nat}{R:List (List Dyadic)}{v:Value}(h:fM w base n R k v)(hk:R.length=k)(hn:∀r∈R,r.length=n):∃a c,v=.slice a k c/\k<=c/\bo w a (R.map λr=>r.map canon):=by
 obtain⟨vals,hl,ho,hi,hd⟩:=h;obtain⟨a,c,hv,hat,_⟩:=dG ho;subst hv;refine⟨a,c,rfl,AK ho,vals,by simp[hl,hk],hat,λi h1 h2=>?_⟩;obtain⟨a1,c1,e1,e2,_⟩:=dG (hi i h2);have hi1:i<R.length:=by simpa using h1
 have eg:R.getD i []=R[i]:=by simp[hi1]
 rw[eg]at e2;refine⟨a1,c1,?_,?_⟩
 . rw[e1];simp[hn _ (List.getElem_mem hi1)]
 . rw[List.getElem_map,<-pq];exact e2
theorem afq (ds:List Dyadic)(j:Nat)(hj:j<ds.length):(dC ds)[j*3]?=some (.bool (ar (dN ds[j])))/\(dC ds)[j*3+1]?=some (.string (bs (nt (dN ds[j]).natAbs)))/\(dC ds)[j*3+2]?=some (.int .i64 (dE ds[j])):=by have h:=λi (hi:i<3)=>flat_get (λd=>bA (canon d)) 3 (λ_=>rfl) ds j i hj hi;unfold dC;exact⟨(h 0 zd),(h 1 zd),(h 2 zd)⟩
theorem fM.num {w:World}{base n L:Nat}{R:List (List Dyadic)}{v:Value}(h:fM w base n R L v)(i j:Nat)(hi:i<L)(hj:j<n)(hR:R.length=L)(hr:(R.getD i []).length=n):
 ∃go cap g c,v=.slice (some ⟨go,0,none⟩) L cap/\base<=go/\base<=g/\g≠go/\w.cell? ⟨go,i,none⟩=some (.slice (some ⟨g,0,none⟩) n c)/\
  bB w g (j*3) [.bool (ar (dN ((R.getD i []).getD j 0))),.string (bs (nt (dN ((R.getD i []).getD j 0)).natAbs)),.int .i64 (dE ((R.getD i []).getD j 0))]/\(∀o,w.frozen? ⟨g,o,none⟩=false)/\
  ∀y:Dyadic,fM (((w.setCell ⟨g,j*3,none⟩ (.bool (ar (dN y)))).setCell ⟨g,j*3+1,none⟩ (.string (bs (nt (dN y).natAbs)))).setCell ⟨g,j*3+2,none⟩ (.int .i64 (dE y))) base n (R.set i ((R.getD i []).set j y)) L v:=by
 obtain⟨vals,hl,ho,hv,hd⟩:=h;have hi2:i<vals.length:=by omega
 have hrow:=hv i hi2;have hxl:(dC (R.getD i [])).length=n*3:=by rw[afr,hr]
 obtain⟨a0,cap,rfl,_,_⟩:=dG ho;obtain⟨a1,c,e1,_,hab⟩:=dG hrow;rw[e1]at hrow;rcases ho.2 with⟨h1,_⟩ |⟨go,cap',cur,h1,om,hgo,_⟩
 . simp at h1;omega
 simp only[Value.slice.injEq,true_and]at h1;obtain⟨rfl,rfl⟩:=h1;have hrow2:=hrow;rcases hrow.2 with⟨h1,_⟩ |⟨g,c',cur',h1,hbg,hgg,_⟩
 . simp at h1;omega
 simp only[Value.slice.injEq,true_and]at h1;obtain⟨rfl,rfl⟩:=h1;have hne:g≠go:=by rintro rfl;rw[hgo]at hgg;simp at hgg
 have hat:=afq (R.getD i []) j zo;have hg0:(R.getD i []).getD j 0=(R.getD i [])[j]'zo:=by rw[List.getD_eq_getElem?_getD,List.getElem?_eq_getElem zo];rfl
 have hc0:=lR hrow (j*3) zo;have hc1:=lR hrow (j*3+1) zo;have hc2:=lR hrow (j*3+2) zo;rw[<-List.getElem?_eq_getElem]at hc0 hc1 hc2;rw[hat.1]at hc0;rw[hat.2.1]at hc1;rw[hat.2.2]at hc2;refine⟨go,cap,g,c,rfl,om,hbg,hne,?_,by rw[hg0];exact iB hc0 hc1 hc2,λo=>?_,λy=>?_⟩
 . rw[lR ho i zo,e1]
 . have h4:ak w g 30 cur'.toList:=by unfold ak;simpa using hgg
   exact h4.free o
 . refine⟨vals,hl,?_,λm hm=>?_,hd⟩
   . have hn:∀(o:Nat) (u:Value) (W:World),W.ownsRow base 45 1 (.slice (some ⟨go,0,none⟩) L cap) L vals->(W.setCell ⟨g,o,none⟩ u).ownsRow base 45 1 (.slice (some ⟨go,0,none⟩) L cap) L vals:=λo u W h=>ownsRow_setCell_other h (by simpa[Value.ownBlock]using hne.symm) _;exact hn _ _ _ (hn _ _ _ (hn _ _ _ ho))
   . by_cases tK:m=i
     . subst tK;have hs:(R.set m ((R.getD m []).set j y)).getD m []=(R.getD m []).set j y:=by rw[List.getD_eq_getElem?_getD,List.getElem?_set_self zo];rfl
       rw[hs,e1,<-Tg];exact jP (jP (jP hrow _ _) _ _) _ _
     . have hs:(R.set i ((R.getD i []).set j y)).getD m []=R.getD m []:=by rw[List.getD_eq_getElem?_getD,List.getElem?_set_ne (λe=>tK e.symm),<-List.getD_eq_getElem?_getD]
       rw[hs];have hno:vals[m].ownBlock≠some g:=λe=>tK (hd m i hm hi2 g e (by rw[e1];rfl));exact ownsRow_setCell_other (ownsRow_setCell_other (ownsRow_setCell_other (hv m hm) hno _) hno _) hno _
end Go.Proofs.YtdaadlblknpipaaGreatDoor
