/- Package tri: the longest edge. -/
import Derived.Test.YtoopepmmepmfnaaGreatDoorZ11
import Derived.Test.YtoopepmmepmfnaaGreatDoorZ1
import Derived.Test.YtoopepmmepmfnaaGreatDoorZ9
set_option linter.unusedVariables false
set_option linter.unusedSimpArgs false
set_option maxRecDepth 100000
set_option maxHeartbeats 16000000
namespace Go.Proofs.YtoopepmmepmfnaaGreatDoor
open Go.RowKit
attribute [local go_sem ↓] Go.wp_at_zero Go.wp_at_succ
def iX (rows:List (List Raw))(n a b:Nat):Dyadic:=tY ((rows.getD a []).map ar) ((rows.getD b []).map ar) n
def CR (sq:Nat->Nat->Dyadic)(a b:Nat)(s:Nat×Nat×Dyadic):Nat×Nat×Dyadic:=if 0<aP (sq a b-s.2.2)then(a,b,sq a b)else s
def xd (sq:Nat->Nat->Dyadic)(a:Nat):Nat->Nat->Nat×Nat×Dyadic->Nat×Nat×Dyadic
 |0,_,s=>s
 |k+1,b,s=>xd sq a k (b+1) (CR sq a b s)
def tH (sq:Nat->Nat->Dyadic)(L:Nat):Nat->Nat->Nat×Nat×Dyadic->Nat×Nat×Dyadic
 |0,_,s=>s
 |k+1,a,s=>tH sq L k (a+1) (xd sq a (L-(a+1)) (a+1) s)
def iE (sq:Nat->Nat->Dyadic)(L:Nat):Nat×Nat×Dyadic:=tH sq L L 0 (0,1,sq 0 1)
theorem ai5 (sq:Nat->Nat->Dyadic)(Q:Nat×Nat×Dyadic->Prop)(L a k b:Nat)(s:Nat×Nat×Dyadic)(hs:Q s)(hab:a<b)(hb:b+k<=L)(h:∀a b,a<b->b<L->Q (a,b,sq a b)):Q (xd sq a k b s):=by
 induction k generalizing b s with
 |zero=>exact hs
 | succ k ih=>
   unfold xd;refine ih (b+1) _ ?_ zo zo;unfold CR;split
   . exact h a b hab zo
   . exact hs
theorem ai4 (sq:Nat->Nat->Dyadic)(Q:Nat×Nat×Dyadic->Prop)(L k a:Nat)(s:Nat×Nat×Dyadic)(hs:Q s)(hb:a+k<=L)(h:∀a b,a<b->b<L->Q (a,b,sq a b)):Q (tH sq L k a s):=by
 induction k generalizing a s with
 |zero=>exact hs
 |succ k ih=>unfold tH;exact ih (a+1) _ (ai5 sq Q L a _ (a+1) s hs zo zo h) zo
theorem ai6 (sq:Nat->Nat->Dyadic)(L:Nat)(hL:2<=L):(iE sq L).1<(iE sq L).2.1/\(iE sq L).2.1<L/\(iE sq L).2.2=sq (iE sq L).1 (iE sq L).2.1:=
 ai4 sq (λs=>s.1<s.2.1/\s.2.1<L/\s.2.2=sq s.1 s.2.1) L L 0 (0,1,sq 0 1) ⟨Nat.zero_lt_one,hL,rfl⟩ zo (λa b h1 h2=>⟨h1,h2,rfl⟩)
abbrev BC (s:Nat×Nat×Dyadic):List Value:=[.int .i64 (s.1:Int),.int .i64 (s.2.1:Int),.bool (ai (dN s.2.2)),.string (bs (nt (dN s.2.2).natAbs)),.int .i64 (dE s.2.2)]
theorem At.drew {w:World}{a:Option Addr}{cs:List Value}(h:At w a cs):At w.drew a cs:=h
theorem At.alloc {w:World}{a:Option Addr}{cs:List Value}(h:At w a cs)(o:Obj):At (w.alloc o) a cs:=h.below zl
theorem amm (rows:List (List Raw))(n B x y:Nat)(a:Option Addr)(cap:Nat)(a':Option Addr)(cap':Nat)(D:Dyadic)(w:World)(hx:x<rows.length)(hy:y<rows.length)(hn:n<=8)(hrow:∀r∈rows,r.length=n)(hfit:∀r∈rows,∀c∈r,Fit B c)(hB:B<=10000000)
 (hD:iX rows n x y=D) (ha:At w a (rows[x].flatMap cg)) (ha':At w a' (rows[y].flatMap cg)) (hT:az w):
 Calls Tryz.prog 157 #[.slice a rows[x].length cap,.slice a' rows[y].length cap'] w λe w'=>e=.returned (bH D)/\Bw w w':=by
 have h1:=hrow _ (List.getElem_mem hx);have h2:=hrow _ (List.getElem_mem hy);have e1:rows.getD x []=rows[x]:=by simp[hx]
 have e2:rows.getD y []=rows[y]:=by simp[hy]
 unfold iX at hD;rw[e1,e2]at hD;rw[h1,h2,<-hD];exact aml a n cap rows[x] a' cap' rows[y] B w h1 h2 hn ha ha' (hfit _ (List.getElem_mem hx)) (hfit _ (List.getElem_mem hy)) hB hT
theorem Zi {rows:List (List Raw)}{n B:Nat}(hfit:∀r∈rows,∀c∈r,Fit B c)(x y:Nat):Sm (2*B+2+n) (iX rows n x y):=by
 have h:∀z,∀c∈(rows.getD z []).map ar,Sm B c:=λz c hc=>by
  obtain⟨u,hu,rfl⟩:=List.mem_map.1 hc;by_cases hz:z<rows.length
  . have e:rows.getD z []=rows[z]:=by simp[hz]
    rw[e]at hu;exact(hfit _ (List.getElem_mem hz) u hu).2
  . have e:rows.getD z []=[]:=by simp[List.getD_eq_getElem?_getD,List.getElem?_eq_none (by omega:rows.length<=z)]
    rw[e]at hu;cases hu
 exact Zj (h x) (h y) n
theorem aja (a:Option Addr)(L cap n:Nat)(rows:List (List Raw))(B:Nat)(w:World)(hL:rows.length=L)(hL2:2<=L)(hL9:L<=9)(hn:n<=8)(hrow:∀r∈rows,r.length=n)(ha:cF w a rows)
 (hfit:∀r∈rows,∀c∈r,Fit B c) (hB:B<=10000000) (hT:az w):
 Calls Tryz.prog 102 #[.slice a L cap] w λe w'=>e=.returned (.agg (BC (iE (iX rows n) L)).toArray)/\Bw w w':=by
 obtain⟨sq,uP⟩:=aB (iX rows n);have hsm:∀x y,Sm (2*B+10) (sq x y):=λx y=>by rw[<-uP];exact(Zi hfit x y).mono zo
 have hcall:∀x y (hx:x<rows.length) (hy:y<rows.length) (a1:Option Addr) (c1:Nat) (a2:Option Addr) (c2:Nat) (W:World),At W a1 (rows[x].flatMap cg)->At W a2 (rows[y].flatMap cg)->az W->
  Calls Tryz.prog 157 #[.slice a1 rows[x].length c1,.slice a2 rows[y].length c2] W λe w'=>e=.returned (bH (sq x y))/\Bw W w':=λx y hx hy a1 c1 a2 c2 W h1 h2 h3=>
  amm rows n B x y a1 c1 a2 c2 (sq x y) W hx hy hn hrow hfit hB (by rw[<-uP]) h1 h2 h3
 obtain⟨F,hF⟩:=aB (iE (iX rows n) L);rw[hF];rw[uP]at hF;obtain⟨HL,Ha,vS,jr,HF,HT,eQ⟩:=iV hL ha hsm hcall hF hT hT;clear hL ha hsm hcall hF hT hfit hrow uP;obtain⟨X,hX⟩:=aB (sq 0 1);have HX:=af hX;clear hX;obtain⟨W,bU,Hb,Hr⟩:=gL w 136 [.int .i64 0,.int .i64 0,.bool false,.string ⟨#[]⟩,.int .i64 0];obtain⟨r0,ag,r1,ah,r2,au,r3,bu,r4,bD⟩:=Hr.out.g5;have HT:Hid (az W):=HT.out.below Hb.out;have HS:Hid (cF W a rows):=Ha.out.below Hb.out;go_enter Tryz.func102,Tryz.ntmps102;have lr:=Hr.out.lt;obtain⟨b0,o0,a1,c1,mo,hc0,na⟩:=HS.out.row 0 (by rw[HL.out];omega);obtain⟨nY,qC,a2,c2,gH,hc1,ng⟩:=HS.out.row 1 (by rw[HL.out];omega);obtain⟨rfl,rfl⟩:nY=b0/\qC=o0:=by rw[mo]at gH;simp at gH;exact⟨gH.1.symm,gH.2.symm⟩
 clear gH;have i0:=uV L cap 0 0 mo zo rfl;have i1:=uV L cap 1 1 mo zo rfl;rw[Nat.mul_one]at i0 i1;rw[Nat.add_zero]at i0 hc0;have jY:=af mo;have Ob:nY<W.heap.size:=World.block_lt_of_cell? W _ hc0;have tA:=λW'=>jr.out 0 1 (by rw[HL.out];omega) (by rw[HL.out];omega) a1 c1 a2 c2 W';rw[HX.out]at tA;obtain⟨n0,hn0⟩:=aB ((rows[0]'(by rw[HL.out];omega)).length);obtain⟨n1,fO⟩:=aB ((rows[1]'(by rw[HL.out];omega)).length);rw[hn0]at hc0;rw[fO]at hc1;simp only[hn0,fO]at tA;obtain⟨vT,lO,oN⟩:=cG tA na ng;have Hu:Hid (bO W nY qC [.slice a1 n0 c1]):=λj hj=>by
  obtain rfl:j=0:=by simp at hj;omega
  exact hc0
 have Hv:Hid (bO W nY (qC+1) [.slice a2 n1 c2]):=λj hj=>by
  obtain rfl:j=0:=by simp at hj;omega
  exact hc1
 clear tA na ng mo hn0 fO hc0 hc1;go_upto_region 1 with fail
 go_cut[3] (λs3 wx=>∃g:Nat,s3=.pointer (some ⟨g,0,none⟩)/\W.heap.size<=g/\aj wx g 136 (BC (0,1,X))/\Bw W wx);case first=>
  have u0:=Hu.out.w1;have v0:=Hv.out.w1;have HT:Hid (az W):=HT.out;refine PO (λw'=>w'.cell? ⟨nY,qC,none⟩=some (.slice a1 n0 c1)/\w'.cell? ⟨nY,qC+1,none⟩=some (.slice a2 n1 c2)) (λi=>Nat.blt i 10) 7 9 [(8,true),(9,false),(10,false)] [(7,false),(8,true),(10,false)] [0,1,2,3,4,5,6] zk zk rfl rfl zk zc ⟨u0,v0⟩ ?_;iterate 7 (refine OS rfl rfl (v:=?_) (λw' hw'=>?_) ?_;rotate_left;(focus obtain⟨q0,q1⟩:=hw';go_simp;try with_reducible rfl);try simp only[UU])
  refine OQ rfl rfl rfl rfl (λK hK=>?_) (λK hK=>?_)
  . go_simp;with_reducible refine(vT.out _ (by first|exact lO.out|exact At.drew lO.out) (by first|exact oN.out|exact At.drew oN.out) (by first|exact HT.out|exact az.drew HT.out|exact az.alloc HT.out _|exact az.drew (az.alloc HT.out _) |exact az.alloc (az.drew HT.out) _)).mono ?_
    rintro e w5 ⟨rfl,hq⟩;have cH:Bw W w5:=aM hq;refine hK _ _ ⟨cell_later cH u0,cell_later cH v0⟩ ?_;try simp only[UU]
    refine pT rfl rfl ?_;try simp only[UU]
    refine aC rfl rfl (λK hK=>?_);go_simp;refine hK _ _ (λ_=>⟨aJ (cell_later cH u0),aJ (cell_later cH v0)⟩) ?_;try simp only[UU]
    refine aC rfl rfl (λK hK=>?_);go_simp;refine hK _ _ (λh=>absurd h zd) ?_;simp only[aV];go_wp2_with fail;go_meet;exact⟨w5.heap.size,rfl,cH.size,aj.new _ _ _,cH.alloc cH.size _⟩
  . go_simp;refine hK _ _ ⟨aJ u0,aJ v0⟩ ?_;try simp only[UU]
    refine aC rfl rfl (λK hK=>?_);go_simp;with_reducible refine(vT.out (W.alloc (.cells #[.int .i64 0,.int .i64 0,.bool false,.string ⟨#[]⟩,.int .i64 0] 136)).drew (lO.out.alloc _).drew (oN.out.alloc _).drew (by first|exact HT.out|exact az.drew HT.out|exact az.alloc HT.out _|exact az.drew (az.alloc HT.out _) |exact az.alloc (az.drew HT.out) _)).mono ?_
    rintro e w5 ⟨rfl,hq⟩;have cH:Bw W w5:=pu hq;have Hn:aj w5 W.heap.size 136 [.int .i64 0,.int .i64 0,.bool false,.string ⟨#[]⟩,.int .i64 0]:=aj.below (aj.new W.drew 136 [.int .i64 0,.int .i64 0,.bool false,.string ⟨#[]⟩,.int .i64 0]) hq;have n0':=Hn.cell 0;have xj:=Hn.cell 1;have xk:=Hn.cell 2;have n3':=Hn.cell 3;have n4':=Hn.cell 4;have eV:=Hn.free 0;have eW:=Hn.free 1;have eX:=Hn.free 2;have fK:=Hn.free 3;have fL:=Hn.free 4;refine hK _ _ (λ_=>⟨cell_later cH u0,cell_later cH v0⟩) ?_;try simp only[UU]
    refine pT rfl rfl ?_;try simp only[UU]
    refine aC rfl rfl (λK hK=>?_);go_simp;refine hK _ _ (λh=>absurd h zd) ?_;simp only[aV];go_wp2_with fail;go_meet;exact⟨W.heap.size,rfl,Nat.le_refl _,((((Hn.set 0 _).set 1 _).set 2 _).set 3 _).set 4 _,((((cH.sc W.heap.size 0 (Nat.le_refl _) _).sc W.heap.size 1 (Nat.le_refl _) _).sc W.heap.size 2 (Nat.le_refl _) _).sc W.heap.size 3 (Nat.le_refl _) _).sc W.heap.size 4 (Nat.le_refl _) _⟩
 case rest=>
  obtain⟨g,rfl,hg,qd,qb⟩:=hcut;have Hd:=af qd;replace Hr:=af (Hr.out.below qb);replace Hb:=af (aH Hb.out qb);have lg:=Hd.out.lt;have lr2:=Hr.out.lt;have szW:=qb.size;clear qd qb r0 r1 r2 r3 r4 ag ah au bu bD i0 i1 vT lO oN Hu Hv jY HS HT;have Qv:Hid (Sm (2*B+10) X):=by rw[<-HX.out];exact vS.out 0 1
  have Aa:Hid (tH sq L (L-0) 0 (0,1,X)=F):=by rw[<-HX.out];exact HF.out
  go_wp2_with fail;go_loopw[18] (λx wr=>∃(k:Nat) (s:Nat×Nat×Dyadic),k<=L/\x=.int .i64 (k:Int)/\tH sq L (L-k) k s=F/\Sm (2*B+10) s.2.2/\aj wr w.heap.size 136 [.int .i64 0,.int .i64 0,.bool false,.string ⟨#[]⟩,.int .i64 0]/\aj wr g 136 (BC s)/\Bw w wr) (λx _=>L-(intOf x).toNat);case atStart=>exact⟨0,(0,1,X),Nat.zero_le _,rfl,Aa.out,Qv.out,Hr.out,Hd.out,Hb.out⟩
  case round=>
   clear Hr Hd Hb Aa Qv;obtain⟨k,s,hk,rfl,hF,hs,pr,pd,pb⟩:=hrel;by_cases hlt:k<L
   . obtain⟨Hr,Hd,Hb,Hs⟩:=cQ pr pd pb hs;have ub:Hid (tH sq L (L-(k+1)) (k+1) (xd sq k (L-(k+1)) (k+1) s)=F):=by rw[show L-k=L-(k+1)+1 by omega]at hF;exact hF
     clear pr pd pb hs hF;go_wp2_with fail;go_loopw[5] (λx wr=>∃(b:Nat) (s:Nat×Nat×Dyadic),b<=L/\k<b/\x=.int .i64 (b:Int)/\tH sq L (L-(k+1)) (k+1) (xd sq k (L-b) b s)=F/\Sm (2*B+10) s.2.2/\aj wr w.heap.size 136 [.int .i64 0,.int .i64 0,.bool false,.string ⟨#[]⟩,.int .i64 0]/\aj wr g 136 (BC s)/\Bw w wr) (λx _=>L-(intOf x).toNat);case atStart=>exact⟨k+1,s,by omega,by omega,by go_num,ub.out,Hs.out,Hr.out,Hd.out,Hb.out⟩
     case round=>
      clear Hr Hd Hb ub Hs;obtain⟨b,s,hb1,hb2,rfl,hF,hs,pr,pd,pb⟩:=hrel;obtain⟨Hr,Hd,Hb,Hs,Qb⟩:=gT pr pd pb hs hF;clear pr pd pb hs hF;by_cases bG:b<L
      . obtain⟨b0,o0,a1,c1,mo,hc0,na⟩:=(Ha.out.below Hb.out).row k (by rw[HL.out];omega);obtain⟨nY,qC,a2,c2,gH,hc1,ng⟩:=(Ha.out.below Hb.out).row b (by rw[HL.out];omega);obtain⟨rfl,rfl⟩:nY=b0/\qC=o0:=by rw[mo]at gH;simp at gH;exact⟨gH.1.symm,gH.2.symm⟩
        clear gH;have i0:=uV L cap k (k:Int) mo hlt rfl;have i1:=uV L cap b (b:Int) mo bG rfl;rw[Nat.mul_one]at i0 i1;have tA:=λW'=>jr.out k b (by rw[HL.out];omega) (by rw[HL.out];omega) a1 c1 a2 c2 W';obtain⟨Y,hY⟩:=aB (sq k b);have fW:=vS.out k b;rw[hY]at tA fW;obtain⟨n0,hn0⟩:=aB ((rows[k]'(by rw[HL.out];omega)).length);obtain⟨n1,fO⟩:=aB ((rows[b]'(by rw[HL.out];omega)).length);rw[hn0]at hc0;rw[fO]at hc1;simp only[hn0,fO]at tA;obtain⟨vT,lO,oN,HY,Ah,HT⟩:=iD tA na ng hY fW (eQ.out.below Hb.out);have Hu:Hid (bO wr nY (qC+k) [.slice a1 n0 c1]):=λj hj=>by
         obtain rfl:j=0:=by simp at hj;omega
         exact hc0
        have Hv:Hid (bO wr nY (qC+b) [.slice a2 n1 c2]):=λj hj=>by
         obtain rfl:j=0:=by simp at hj;omega
         exact hc1
        clear tA na ng mo hn0 fO hc0 hc1 hY fW;have ls1:=Hr.out.lt;have ls2:=Hd.out.lt;go_upto_region 8 with fail
        go_cut[6] (λs6 wx=>∃g':Nat,s6=.pointer (some ⟨g',0,none⟩)/\wr.heap.size<=g'/\aj wx g' 39 [.bool (ai (dN Y)),.string (bs (nt (dN Y).natAbs)),.int .i64 (dE Y)]/\Bw wr wx);case first=>
         have u0:=Hu.out.w1;have v0:=Hv.out.w1;refine PO (λw'=>w'.cell? ⟨nY,qC+k,none⟩=some (.slice a1 n0 c1)/\w'.cell? ⟨nY,qC+b,none⟩=some (.slice a2 n1 c2)) (λi=>Nat.blt i 10) 8 9 [(9,false),(10,false)] [(8,false),(10,false)] [0,1,2,3,4,5,6,7] zk zk rfl rfl zk zc ⟨u0,v0⟩ ?_;iterate 8 (refine OS rfl rfl (v:=?_) (λw' hw'=>?_) ?_;rotate_left;(focus obtain⟨q0,q1⟩:=hw';go_simp;try with_reducible rfl);try simp only[UU])
         refine OQ rfl rfl rfl rfl (λK hK=>?_) (λK hK=>?_)
         . go_simp;with_reducible refine(vT.out _ (by first|exact lO.out|exact At.drew lO.out) (by first|exact oN.out|exact At.drew oN.out) (by first|exact HT.out|exact az.drew HT.out|exact az.alloc HT.out _|exact az.drew (az.alloc HT.out _) |exact az.alloc (az.drew HT.out) _)).mono ?_
           rintro e w5 ⟨rfl,hq⟩;have cH:Bw wr w5:=aM hq;refine hK _ _ ⟨cell_later cH u0,cell_later cH v0⟩ ?_;try simp only[UU]
           refine aC rfl rfl (λK hK=>?_);go_simp;refine hK _ _ (λ_=>⟨aJ (cell_later cH u0),aJ (cell_later cH v0)⟩) ?_;try simp only[UU]
           refine aC rfl rfl (λK hK=>?_);go_simp;refine hK _ _ (λh=>absurd h zd) ?_;simp only[aV];go_wp2_with fail;go_meet;exact⟨w5.heap.size,rfl,cH.size,aj.new _ _ _,cH.alloc cH.size _⟩
         . go_simp;refine hK _ _ ⟨aJ u0,aJ v0⟩ ?_;try simp only[UU]
           refine aC rfl rfl (λK hK=>?_);go_simp;with_reducible refine(vT.out (wr.alloc (.cells #[.bool false,.string ⟨#[]⟩,.int .i64 0] 39)).drew (lO.out.alloc _).drew (oN.out.alloc _).drew (by first|exact HT.out|exact az.drew HT.out|exact az.alloc HT.out _|exact az.drew (az.alloc HT.out _) |exact az.alloc (az.drew HT.out) _)).mono ?_
           rintro e w5 ⟨rfl,hq⟩;have cH:Bw wr w5:=pu hq;have Hn:aj w5 wr.heap.size 39 [.bool false,.string ⟨#[]⟩,.int .i64 0]:=aj.below (aj.new wr.drew 39 [.bool false,.string ⟨#[]⟩,.int .i64 0]) hq;obtain⟨n0',eV,xj,eW,xk,eX⟩:=Hn.g3;refine hK _ _ (λ_=>⟨cell_later cH u0,cell_later cH v0⟩) ?_;try simp only[UU]
           refine aC rfl rfl (λK hK=>?_);go_simp;refine hK _ _ (λh=>absurd h zd) ?_;simp only[aV];go_wp2_with fail;go_meet;exact⟨wr.heap.size,rfl,Nat.le_refl _,((Hn.set 0 _).set 1 _).set 2 _,((cH.sc wr.heap.size 0 (Nat.le_refl _) _).sc wr.heap.size 1 (Nat.le_refl _) _).sc wr.heap.size 2 (Nat.le_refl _) _⟩
        case rest=>
         obtain⟨g',rfl,hg',qn,qb⟩:=hcut;have Hn:=af qn;replace Hr:=af (Hr.out.below qb);replace Hd:=af (Hd.out.below qb);replace Hb:=af (aH Hb.out qb);have DR:=af (HT.out.below qb);clear qn qb Hu Hv lO oN vT HT i0 i1;obtain⟨si,sj,sx⟩:=s;have HfY:Hid (Ok (ai (dN Y),nt (dN Y).natAbs,dE Y)):=(Ah.out.fit zo).1;have JM:Hid (Ok (ai (dN sx),nt (dN sx).natAbs,dE sx)):=(Hs.out.fit zo).1;obtain⟨c,hc⟩:=aB (aP (Y-sx));have HC:Hid (aP (ar (ai (dN Y),nt (dN Y).natAbs,dE Y)-ar (ai (dN sx),nt (dN sx).natAbs,dE sx))=c):=by
          show aP (ar (canon Y)-ar (canon sx))=c
          rw[bL,bL];exact hc
         have Qc:Hid (tH sq L (L-(k+1)) (k+1) (xd sq k (L-(b+1)) (b+1) (CR sq k b (si,sj,sx)))=F):=by have h:=Qb.out;rw[show L-b=L-(b+1)+1 by omega]at h;exact h
         have hstep:CR sq k b (si,sj,sx)=if 0<c then(k,b,Y)else(si,sj,sx):=by
          unfold CR;rw[HY.out];show(if 0<aP (Y-sx)then _ else _)=_
          rw[hc]
         have eN:=af hstep;clear hc hstep;obtain⟨d0,LD,d1,LG,d2,LH,d3,TB,d4,TC⟩:=Hd.out.g5;obtain⟨n0,n1,n2⟩:=Hn.out.c3;obtain⟨r0,r1,r2,r3,r4⟩:=Hr.out.c5;go_wp2_with fail;refine(sN _ _ _ _ _ _ c HC.out _ HfY.out JM.out DR.out).mono ?_;rintro e w7 ⟨rfl,ae⟩;clear d0 LD d1 LG d2 LH d3 TB d4 TC n0 n1 n2 r0 r1 r2 r3 r4;replace Hd:=kB Hd ae;replace Hn:=kB Hn ae;replace Hr:=kB Hr ae;obtain⟨d0,LD,d1,LG,d2,LH,d3,TB,d4,TC⟩:=Hd.out.g5;obtain⟨n0,n1,n2⟩:=Hn.out.c3;obtain⟨r0,r1,r2,r3,r4⟩:=Hr.out.c5;replace Hb:=ak Hb ae;clear ae;by_cases hc0:0<c
         . go_wp2;go_roundw;case rel=>
            refine⟨b+1,(k,b,Y),by omega,by omega,by go_num,?_,Ah.out,?_,?_,?_⟩
            . have h:=Qc.out;rw[eN.out,if_pos hc0]at h;exact h
            . exact((((Hr.out.so g 0 zo _).so g 1 zo _).so g 2 zo _).so g 3 zo _).so g 4 zo _
            . exact((((Hd.out.set 0 _).set 1 _).set 2 _).set 3 _).set 4 _
            . exact((((Hb.out.sc g 0 zo _).sc g 1 zo _).sc g 2 zo _).sc g 3 zo _).sc g 4 zo _
           case measure=>simp[intOf];omega
         . go_wp2;go_roundw;case rel=>refine⟨b+1,(si,sj,sx),by omega,by omega,by go_num,?_,Hs.out,Hr.out,Hd.out,Hb.out⟩;have h:=Qc.out;rw[eN.out,if_neg zo]at h;exact h
           case measure=>simp[intOf];omega
      . obtain rfl:b=L:=by omega
        go_wp2;go_roundw;case rel=>refine⟨k+1,s,by omega,by go_num,?_,Hs.out,Hr.out,Hd.out,Hb.out⟩;have h:=Qb.out;rw[Nat.sub_self]at h;exact h
        case measure=>simp[intOf];omega
   . obtain rfl:k=L:=by omega
     rw[Nat.sub_self]at hF;have rZ:Hid (s=F):=hF;obtain⟨si,sj,sx⟩:=s;obtain⟨Hr,Hd,Hb⟩:=cG pr pd pb;clear pr pd pb hF hs;obtain⟨d0,d1,d2,d3,d4⟩:=Hd.out.c5;obtain⟨r0,ag,r1,ah,r2,au,r3,bu,r4,bD⟩:=Hr.out.g5;go_wp2;clear d0 d1 d2 d3 d4 r0 ag r1 ah r2 au r3 bu r4 bD;refine dx (aY wr (w.heap.size) 0 [.int .i64 (si:Int),.int .i64 (sj:Int),.bool (ai (dN sx)),.string (bs (nt (dN sx).natAbs)),.int .i64 (dE sx)]) bg ?_;intro w9 hs;replace Hd:=kS Hd hs zo;replace Hr:=bE Hr hs;obtain⟨d0,d1,d2,d3,d4⟩:=Hd.out.c5;obtain⟨r0,ag,r1,ah,r2,au,r3,bu,r4,bD⟩:=Hr.out.g5;replace Hb:=bS Hb hs ZS;clear hs;refine bodyPost_ret (v:=.agg (BC (si,sj,sx)).toArray) (by simp[results,Tryz.results102,go_sem,r0,r1,r2,r3,r4]) rfl ⟨by rw[<-rZ.out],Hb.out⟩
def Fa (r:List Raw):List Raw:=r.map λx=>canon (ar x)
theorem agH (r:List Raw):(Fa r).length=r.length:=by simp[Fa]
theorem agG (r:List Raw):(Fa r).flatMap cg=dC (r.map ar):=by rw[Bt,List.map_map];rfl
def Own2 (e:TypeId)(w:World)(base:Nat)(R:List (List Dyadic))(k:Nat)(v:Value):Prop:=
 ∃vals:List Value,vals.length=k/\w.ownsRow base e 1 v k vals/\∀i (h:i<vals.length),∃a c,vals[i]=.slice a (R.getD i []).length c/\At w a (dC (R.getD i []))/\∀b o,a=some ⟨b,o,none⟩->some b≠v.ownBlock/\b<w.heap.size
theorem Own2.nil (e:TypeId)(w:World)(base:Nat)(R:List (List Dyadic)):Own2 e w base R 0 (.slice none 0 0):=
 ⟨[],rfl,World.ownsRow_nil _ _ _ _,λ_ h=>absurd h (Nat.not_lt_zero _)⟩
theorem Own2.below {e:TypeId}{w w':World}{base k:Nat}{R:List (List Dyadic)}{v:Value}(h:Own2 e w base R k v)(hb:Bw w w'):Own2 e w' base R k v:=by obtain⟨vals,hl,ho,hi⟩:=h;refine⟨vals,hl,ownsRow_below ho hb,λi h=>?_⟩;obtain⟨a,c,h1,h2,h3⟩:=hi i h;exact⟨a,c,h1,h2.below hb,λb o e=>⟨(h3 b o e).1,Nat.lt_of_lt_of_le (h3 b o e).2 hb.size⟩⟩
theorem Own2.push {e:TypeId}{w w':World}{base k:Nat}{R:List (List Dyadic)}{v v':Value}{vals:List Value}(hl:vals.length=k)(hi:∀i (h:i<vals.length),∃a c,vals[i]=.slice a (R.getD i []).length c/\At w a (dC (R.getD i []))/\∀b o,a=some ⟨b,o,none⟩->some b≠v.ownBlock/\b<w.heap.size)
 {a:Option Addr} {c:Nat} (ha:At w a (dC (R.getD k []))) (hab:∀b o,a=some ⟨b,o,none⟩->some b≠v.ownBlock/\b<w.heap.size)
 (ho:w'.ownsRow base e 1 v' (k+1) (vals++[.slice a (R.getD k []).length c])) (hg:w.grownBy w' v.ownBlock) (kz:v'.ownBlock=v.ownBlock\/v'.ownBlock=some w.heap.size):Own2 e w' base R (k+1) v':=by
 have hne:∀b,some b≠v.ownBlock->b<w.heap.size->some b≠v'.ownBlock:=by
  intro b h1 h2;rcases kz with h|h
  . rw[h];exact h1
  . rw[h];intro h3;simp at h3;omega
 refine⟨_,by simp[hl],ho,λi h=>?_⟩;by_cases hk:i<vals.length
 . obtain⟨a1,c1,h1,h2,h3⟩:=hi i hk;refine⟨a1,c1,by rw[List.getElem_append_left hk];exact h1,h2.grown hg (λb o e=>(h3 b o e).1),λb o e=>⟨hne b (h3 b o e).1 (h3 b o e).2,Nat.lt_of_lt_of_le (h3 b o e).2 hg.size⟩⟩
 . have hik:i=k:=by simp at h;omega
   subst hik;refine⟨a,c,?_,ha.grown hg (λb o e=>(hab b o e).1),λb o e=>⟨hne b (hab b o e).1 (hab b o e).2,Nat.lt_of_lt_of_le (hab b o e).2 hg.size⟩⟩;rw[List.getElem_append_right zo];simp[hl]
theorem Ik {W:World}{base:Nat}{e:TypeId}{size:Nat}{a:Option Addr}{n c:Nat}{xs:List Value}(h:W.ownsRow base e size (.slice a n c) n xs):n<=c:=by
 rcases h.2 with⟨h1,h2⟩ |⟨g,cap,cur,h1,_,_,h2,_⟩
 . omega
 . simp at h1;omega
theorem Own2.tbl {e:TypeId}{w:World}{base k:Nat}{R:List (List Raw)}{v:Value}(h:Own2 e w base (R.map λr=>r.map ar) k v)(hk:R.length=k):∃a c,v=.slice a k c/\k<=c/\cF w a (R.map Fa):=by
 obtain⟨vals,hl,ho,hi⟩:=h;obtain⟨a,c,hv,hat,_⟩:=eH ho;subst hv;refine⟨a,c,rfl,Ik ho,vals,by simp[hl,hk],hat,λi h1 h2=>?_⟩;obtain⟨a1,c1,e1,e2,_⟩:=hi i h2;have hi1:i<R.length:=by simpa using h1
 have eg:(R.map λr=>r.map ar).getD i []=R[i].map ar:=by simp[hi1]
 rw[eg]at e1 e2;refine⟨a1,c1,?_,?_⟩
 . rw[e1];simp[agH]
 . rw[List.getElem_map,agG];exact e2
theorem ai7 {rows:List (List Raw)}{n B L:Nat}(hfit:∀r∈rows,∀c∈r,Fit B c)(hL:2<=L):Sm (2*B+2+n) (iE (iX rows n) L).2.2:=by rw[(ai6 (iX rows n) L hL).2.2];exact Zi hfit _ _
theorem ajb (a:Option Addr)(L cap n:Nat)(rows:List (List Raw))(B:Nat)(w:World)(hL:rows.length=L)(hv:mL rows=n)(hn:1<=n)(ha:cF w a rows)
 (hfit:∀r∈rows,∀c∈r,Fit B c) (hB:B<=10000000) (hT:az w):
 Calls Tryz.prog 56 #[.slice a L cap] w λe w'=>e=.returned (.tuple #[.int .i64 ((iE (iX rows n) L).1:Int),.int .i64 ((iE (iX rows n) L).2.1:Int),bH (iE (iX rows n) L).2.2,.int .i64 0])/\Bw w w':=by
 obtain⟨c1,c2,c3,c4⟩:=PG hv zo;have hvars:=λW=>λ(h:cF W a rows)=>PH a L cap rows W hL zo h;have Na:=λW=>λ(h:cF W a rows) (hT:az W)=>aja a L cap n rows B W hL zo zo zo (λr hr=>by have:=c4 r hr;omega) h hfit hB hT;rw[hv]at hvars;obtain⟨⟨i,j,X⟩,hF⟩:∃F,iE (iX rows n) L=F:=⟨_,rfl⟩;simp only[hF]at Na;rw[hF];obtain⟨adb,ab5,Ha,HT⟩:=cQ hvars Na ha hT;have h0:((n:Int)==0)=false:=by simp;omega
 have h0':¬(n:Int)=0:=by omega
 clear hvars Na ha hT hF hfit hv c1 c2 c3 c4 hL;obtain⟨W,bU,Hb,Hr⟩:=gL w 39 [.bool false,.string ⟨#[]⟩,.int .i64 0];obtain⟨r0,ag,r1,ah,r2,au⟩:=Hr.out.g3;go_enter Tryz.func56,Tryz.ntmps56;go_wp2_with fail;refine(adb.out _ (Ha.out.below Hb.out)).mono ?_;rintro e w1 ⟨rfl,ae⟩;clear r0 ag r1 ah r2 au;replace Hr:=kB Hr ae;obtain⟨r0,ag,r1,ah,r2,au⟩:=Hr.out.g3;replace Hb:=ak Hb ae;clear ae;go_wp2_with fail;refine(ab5.out _ (Ha.out.below Hb.out) (HT.out.below Hb.out)).mono ?_;rintro e w2 ⟨rfl,ae⟩;clear r0 ag r1 ah r2 au;replace Hr:=kB Hr ae;obtain⟨r0,ag,r1,ah,r2,au⟩:=Hr.out.g3;replace Hb:=ak Hb ae;clear ae;have aqo:=Hr.out.lt;obtain⟨w3,aoF,ae,Hx⟩:=cf w2 136 [.int .i64 (i:Int),.int .i64 (j:Int),.bool (ai (dN X)),.string (bs (nt (dN X).natAbs)),.int .i64 (dE X)];clear r0 ag r1 ah r2 au;replace Hr:=kB Hr ae;obtain⟨r0,ag,r1,ah,r2,au⟩:=Hr.out.g3;obtain⟨x0,x1,x2,x3,x4⟩:=Hx.out.c5;replace Hb:=ak Hb ae;clear ae;go_wp2_with fail;refine bW (λw'=>w'.cell? ⟨w2.heap.size,0,none⟩=some (.int .i64 (i:Int))/\w'.cell? ⟨w2.heap.size,1,none⟩=some (.int .i64 (j:Int))/\w'.cell? ⟨w2.heap.size,2,none⟩=some (.bool (ai (dN X)))/\w'.cell? ⟨w2.heap.size,3,none⟩=some (.string (bs (nt (dN X).natAbs)))/\w'.cell? ⟨w2.heap.size,4,none⟩=some (.int .i64 (dE X))) (λi=>Nat.blt i 10) [(0,true),(1,true),(2,true),(3,true),(4,true),(5,true),(6,true),(7,true),(8,true),(9,true),(10,false),(11,false)] zk zk rfl zk zc ⟨x0,x1,x2,x3,x4⟩ ?_;iterate 10 (refine pT rfl rfl ?_ (by intro w' ⟨q0,q1,q2,q3,q4⟩;go_simp;try with_reducible rfl);try simp only[UU])
 refine aC rfl rfl (λK hK=>?_);go_simp;refine hK _ _ (λh=>absurd h zd) ?_;clear hK K;try simp only[UU]
 clear r0 ag r1 ah r2 au x0 x1 x2 x3 x4;refine bI (aY w3 (w.heap.size) 0 [.bool (ai (dN X)),.string (bs (nt (dN X).natAbs)),.int .i64 (dE X)]) bg ?_;intro w4 hs;replace Hr:=bE Hr hs;replace Hx:=kS Hx hs zo;obtain⟨r0,ag,r1,ah,r2,au⟩:=Hr.out.g3;obtain⟨x0,x1,x2,x3,x4⟩:=Hx.out.c5;replace Hb:=bS Hb hs ZS;clear hs;refine aC rfl rfl (λK hK=>?_);go_simp;refine hK _ _ (λh=>absurd h zd) ?_;clear hK K;try simp only[UU]
 simp only[aV];go_wp2;refine bodyPost_ret (v:=.tuple #[.int .i64 (i:Int),.int .i64 (j:Int),bH X,.int .i64 0]) (by simp[results,Tryz.results56,go_sem,r0,r1,r2]) rfl ⟨rfl,?_⟩;(repeat first|exact Hb.out| (refine Below.setCell ?_ (by have:=Hb.out.size;first| (dsimp only;omega) | (show _<=_;omega) | (simp<;>omega)) _) | (refine Below.alloc ?_ zt _) |refine Below.drew ?_)
theorem Tryz.arI :(Tryz.prog.info? 49).map (λi=>(i.zero,i.size,i.bytes))=some (some (.slice none 0 0),1,24):=by kernel_rfl
def iY (o p:List Raw):List Dyadic:=List.zipWith (λx y=>ar x-ar y) p o
theorem EQ {o p:List Raw}(h:p.length=o.length):(iY o p).length=p.length:=by simp[iY,h]
theorem afZ (o p:List Raw)(k:Nat)(h:k<p.length)(h':k<o.length):(iY o p).take (k+1)=(iY o p).take k++[ar p[k]-ar o[k]]:=by unfold iY;rw[List.take_succ_eq_append_getElem zi];simp
theorem Own2.arM {e:TypeId}{w:World}{base k:Nat}{R:List (List Dyadic)}{v:Value}(h:Own2 e w base R k v)(hk:R.length=k):∃a c,v=.slice a k c/\k<=c/\cF w a (R.map λr=>r.map canon):=by
 obtain⟨vals,hl,ho,hi⟩:=h;obtain⟨a,c,hv,hat,_⟩:=eH ho;subst hv;refine⟨a,c,rfl,Ik ho,vals,by simp[hl,hk],hat,λi h1 h2=>?_⟩;obtain⟨a1,c1,e1,e2,_⟩:=hi i h2;have hi1:i<R.length:=by simpa using h1
 have eg:R.getD i []=R[i]:=by simp[hi1]
 rw[eg]at e1 e2;refine⟨a1,c1,?_,?_⟩
 . rw[e1];simp
 . rw[List.getElem_map,<-Bt];exact e2
theorem YG (b o cap m n:Nat)(rows:List (List Raw))(B:Nat)(w:World)(hL:rows.length=m+1)(hm:m<=8)(hcap:m+1<=cap)(kw:1<=m)(hn:1<=n)(hn8:n<=8)(hrow:∀r∈rows,r.length=n)(ha:cF w (some ⟨b,o,none⟩) rows)
 (hfit:∀r∈rows,∀c∈r,Fit B c) (hB:B<=10000000) (hT:az w):
 Calls Tryz.prog 95 #[.slice (some ⟨b,o,none⟩) (m+1) cap] w λe w'=>∃a' c',e=.returned (.slice a' m c')/\m<=c'/\
  cF w' a' (((rows.drop 1).map λp=>iY (rows.getD 0 []) p).map λr=>r.map canon)/\Bw w w':=by
 obtain⟨i0,hi,hz0,hz1,hz2⟩:=info_parts Tryz.arF;obtain⟨j0,hj,hy0,hy1,hy2⟩:=info_parts Tryz.arI;obtain⟨S,hS⟩:=aB ((rows.drop 1).map λp=>iY (rows.getD 0 []) p);have Uq:S.length=m:=by rw[<-hS];simp[hL]
 have Ca:∀k (h0:0<rows.length) (h1:k+1<rows.length),S.getD k []=iY rows[0] rows[k+1]:=by
  intro k h0 h1;subst hS;have e0:rows.getD 0 []=rows[0]:=by simp[h0]
  rw[e0];have h2:k<(rows.drop 1).length:=by simp;omega
  simp[h1]
 rw[hS];have hcell:=λ(W:World) (h:cF W (some ⟨b,o,none⟩) rows) (k:Nat) (hk:k<rows.length)=>h.row k hk;obtain⟨Hi,fg,fh,ey,Hj,lW,oZ,pg,HSL,IY,QG,HT⟩:=ij hi hz0 hz1 hz2 hj hy0 hy1 hy2 Uq Ca hcell hT;obtain⟨Ha,AR,Az,HL⟩:=cQ ha hrow hfit hL;clear hi hz0 hz1 hz2 hj hy0 hy1 hy2 hS Uq Ca hcell ha hT hL hrow hfit;have e1:m+1-1=m:=by omega
 have e2:¬cap=1:=by omega
 go_enter Tryz.func95,Tryz.ntmps95;have Hb:Hid (Bw w w):=Below.refl _ _;go_wp2_with fail;obtain⟨r0,wU⟩:=aB (rows[0]'(by rw[HL.out];omega));obtain⟨_,_,a0,c0,mo,hc0,na⟩:=QG.out w Ha.out 0 (by rw[HL.out];omega);obtain⟨rfl,rfl⟩:b=_/\o=_:=by simp at mo;exact mo
 have hn0:r0.length=n:=by rw[<-wU];exact AR.out _ (List.getElem_mem _)
 have Ck:∀x∈r0,Fit B x:=by rw[<-wU];exact Az.out _ (List.getElem_mem _)
 have kq:∀k (h1:k+1<rows.length),S.getD k []=iY r0 rows[k+1]:=λk h1=>by rw[IY.out k zo h1,wU]
 rw[wU]at hc0 na;rw[hn0]at hc0;rw[Nat.add_zero]at hc0;have Xa:=uV (m+1) cap 0 0 (show some (⟨b,o,none⟩:Addr)=some ⟨b,o,none⟩from rfl) zo rfl;rw[Nat.mul_one,Nat.add_zero]at Xa;obtain⟨sf,lO,sF,JJ,Af⟩:=gT hc0 na hn0 Ck kq;have Ob:b<w.heap.size:=World.block_lt_of_cell? w _ hc0;clear hc0 na hn0 Ck kq wU mo Hb;go_loopw[3,11] (λs3 x wr=>∃(k:Nat) (v:Value),k<=m/\x=.int .i64 (k:Int)/\v=s3/\Own2 49 wr w.heap.size S k v/\Bw w wr) (λ_ x _=>m-(intOf x).toNat);case atStart=>exact⟨0,_,Nat.zero_le _,rfl,rfl,Own2.nil _ _ _ _,Below.refl _ _⟩
 case round=>
  obtain⟨k,v,hk,rfl,rfl,pv,pb⟩:=hrel;by_cases hlt:k<m
  . have hk2:k+1<rows.length:=by rw[HL.out];omega
    obtain⟨p,gK⟩:=aB (rows[k+1]);obtain⟨_,_,a1,c1,hab,hc1,hat⟩:=QG.out wr (Ha.out.below pb) (k+1) hk2;obtain⟨rfl,rfl⟩:b=_/\o=_:=by simp at hab;exact hab
    have oC:p.length=n:=by rw[<-gK];exact AR.out _ (List.getElem_mem hk2)
    have uN:∀x∈p,Fit B x:=by rw[<-gK];exact Az.out _ (List.getElem_mem hk2)
    have sU:=Af.out k hk2;rw[gK]at hc1 hat sU;rw[oC]at hc1;have pW:=uV m (cap-1) k (k:Int) (show some (⟨b,o+1,none⟩:Addr)=some ⟨b,o+1,none⟩from rfl) hlt rfl;rw[Nat.mul_one]at pW;have ahx:wr.cell? ⟨b,o+1+k,none⟩=some (.slice a1 n c1):=by rw[show o+1+k=o+(k+1)by omega];exact hc1
    obtain⟨Z,hZ⟩:=aB (iY r0 p);rw[hZ]at sU;obtain⟨eJ,nV,AO,xM,HZ,aZ,cX⟩:=iV hat oC uN sU hZ pb pv;clear hat oC uN sU hZ pb pv hab gK hc1;have lL:=aZ.out.size;obtain⟨wc,hwc⟩:∃wc,wc=wr:=⟨_,rfl⟩;subst hwc;go_wp2_with fail;go_loopw[6,17] (λs6 x wr=>∃(j:Nat) (v2:Value),j<=n/\x=.int .i64 (j:Int)/\v2=s6/\wr.ownsRow wc.heap.size 39 3 v2 j (dC (Z.take j))/\Bw wc wr) (λ_ x _=>n-(intOf x).toNat);case atStart=>exact⟨0,_,Nat.zero_le _,rfl,rfl,World.ownsRow_nil _ _ _ _,Below.refl _ _⟩
    case round=>
     clear ahx;obtain⟨j,v2,hj,rfl,rfl,ho,hb2⟩:=hrel;by_cases bG:j<n
     . have k1:j<p.length:=by rw[nV.out];exact bG
       have k2:j<r0.length:=by rw[sF.out];exact bG
       obtain⟨sp,mp,ep,jh⟩:=ux (p[j]);obtain⟨sq,mq,eq,uU⟩:=ux (r0[j]);have gy:=AO.out _ (List.getElem_mem k1);have uH:=JJ.out _ (List.getElem_mem k2);rw[jh]at gy;rw[uU]at uH;obtain⟨X,hX⟩:=aB (ar (sp,mp,ep)-ar (sq,mq,eq));have sG:Hid (dC (Z.take (j+1))=dC (Z.take j)++[.bool (ai (dN X)),.string (bs (nt (dN X).natAbs)),.int .i64 (dE X)]):=by
        show _=_
        rw[<-HZ.out,afZ _ _ _ k1 k2,Lm,jh,uU,hX];rfl
       have dL:=aH aZ.out hb2;obtain⟨b1,o1,gH,p0,p1,p2⟩:=(eJ.out.below hb2).num j k1 jh;obtain⟨b2,o2,mr,q0,q1,q2⟩:=(lO.out.below dL).num j k2 uU;have VA:=CP n c1 j (j:Int) gH bG rfl;have aoR:=CP n c0 j (j:Int) mr bG rfl;have oG:b1<wc.heap.size:=(by subst gH;exact eJ.out.lt (by intro h0;have:=congrArg List.length h0;rw[mf cg 3 (λ_=>rfl)]at this;simp at this;omega));have lG:b2<wc.heap.size:=Nat.lt_of_lt_of_le (by subst mr;exact lO.out.lt (by intro h0;have:=congrArg List.length h0;rw[mf cg 3 (λ_=>rfl)]at this;simp at this;omega)) lL;have lbc:b<wc.heap.size:=Nat.lt_of_lt_of_le Ob lL;have Hu:Hid (bO wr b o [.slice a0 n c0]):=λi hi=>by
        obtain rfl:i=0:=by simp at hi;omega
        exact cell_later dL sf.out
       have Hp:Hid (bO wr b1 (o1+j*3) [.bool sp,.string (bs mp),.int .i64 ep]):=oM p0 p1 p2;have Hq:Hid (bO wr b2 (o2+j*3) [.bool sq,.string (bs mq),.int .i64 eq]):=oM q0 q1 q2;obtain⟨qV,Ec,HX,Ho,Ao,cP⟩:=iD gy uH hX ho hb2 (HT.out.below dL);have Ix:=hb2.size;clear ho hb2 gy uH hX jh uU gH mr p0 p1 p2 q0 q1 q2 dL;have Hb:Hid (Bw wr wr):=Below.refl _ _;go_wp2_with fail;have u0:=Hu.out.w1;obtain⟨p0,p1,p2⟩:=Hp.out.w3;obtain⟨q0,q1,q2⟩:=Hq.out.w3;refine bW (λw'=>w'.cell? ⟨b,o,none⟩=some (.slice a0 n c0)/\w'.cell? ⟨b1,o1+j*3,none⟩=some (.bool sp)/\w'.cell? ⟨b1,o1+j*3+1,none⟩=some (.string (bs mp))/\w'.cell? ⟨b1,o1+j*3+2,none⟩=some (.int .i64 ep)/\w'.cell? ⟨b2,o2+j*3,none⟩=some (.bool sq)/\w'.cell? ⟨b2,o2+j*3+1,none⟩=some (.string (bs mq))/\w'.cell? ⟨b2,o2+j*3+2,none⟩=some (.int .i64 eq)) (λi=>Nat.blt i 100000) [(0,true),(1,true),(2,true),(3,true),(4,true),(5,true),(6,true),(7,true),(8,true),(9,true),(10,true),(11,false),(12,false),(13,false),(14,true)] zk zk rfl zk zc ⟨u0,p0,p1,p2,q0,q1,q2⟩ ?_;iterate 11 (refine pT rfl rfl ?_ (by intro w' ⟨q0,q1,q2,q3,q4,q5,q6⟩;go_simp;try with_reducible rfl);try simp only[UU])
       refine aC rfl rfl (λK hK=>?_);go_simp;with_reducible refine(Bu sp mp ep sq mq eq X B HX.out _ qV.out Ec.out zo (by first|exact cP.out|exact az.drew cP.out|exact az.alloc cP.out _|exact az.drew (az.alloc cP.out _) |exact az.alloc (az.drew cP.out) _)).mono ?_
       rintro e w6 ⟨rfl,hq⟩;have ae:Bw wr w6:=by first|exact hq|exact aM hq
       clear u0 p0 p1 p2 q0 q1 q2;replace Hu:=kW Hu ae;replace Hp:=kW Hp ae;replace Hq:=kW Hq ae;have u0:=Hu.out.w1;obtain⟨p0,p1,p2⟩:=Hp.out.w3;obtain⟨q0,q1,q2⟩:=Hq.out.w3;replace Hb:=ak Hb ae;clear ae;refine hK _ _ (λ_=>⟨u0,p0,p1,p2,q0,q1,q2⟩) ?_;clear hK K;try simp only[UU]
       refine aC rfl rfl (λK hK=>?_);go_simp;refine hK _ _ (λ_=>⟨aJ u0,aJ p0,aJ p1,aJ p2,aJ q0,aJ q1,aJ q2⟩) ?_;clear hK K;try simp only[UU]
       refine bI (λw7=>aj w7 (w6.heap.size) 39 [.bool (ai (dN X)),.string (bs (nt (dN X).natAbs)),.int .i64 (dE X)]/\Bw w6 w7) (by first|exact cS|exact cV) ?_;rintro w7 ⟨qc,ae⟩;clear u0 p0 p1 p2 q0 q1 q2;replace Hu:=kW Hu ae;replace Hp:=kW Hp ae;replace Hq:=kW Hq ae;have Hc:=af qc;clear qc;have u0:=Hu.out.w1;obtain⟨p0,p1,p2⟩:=Hp.out.w3;obtain⟨q0,q1,q2⟩:=Hq.out.w3;obtain⟨c0,c1,c2⟩:=Hc.out.c3;replace Hb:=ak Hb ae;clear ae;refine aC rfl rfl (λK hK=>?_);have dh:=ownsRow_below Ho.out Hb.out;have lC:=Hb.out.size;refine wp_append_own _ _ _ 49 rfl wc.heap.size 39 i0 _ 3 32 Tryz.underlying49 Hi.out fg.out fh.out ey.out rfl zd v2 j (dC (Z.take j)) rfl dh ⟨w6.heap.size,0,none⟩ 1 1 [.bool (ai (dN X)),.string (bs (nt (dN X).natAbs)),.int .i64 (dE X)] rfl rfl (jK Hc.out) zy zx zo zo ?_;intro v' w8 ky dH _;obtain⟨g',cq,rfl⟩:=ownsRow_succ ky;have nb:∀b,b<wc.heap.size->some b≠v2.ownBlock:=λb hb e=>by have:=eI dh b e.symm;omega
       refine hK _ _ (λ_=>⟨fq dH u0 (nb _ lbc),fq dH p0 (nb _ oG),fq dH p1 (nb _ oG),fq dH p2 (nb _ oG),fq dH q0 (nb _ lG),fq dH q1 (nb _ lG),fq dH q2 (nb _ lG)⟩) ?_;clear hK K;try simp only[UU]
       refine pT rfl rfl ?_;try simp only[UU]
       simp only[aV];clear u0 p0 p1 p2 q0 q1 q2 c0 c1 c2;go_wp2;go_roundw;case rel=>
        refine⟨j+1,_,by omega,by go_num,rfl,?_,?_⟩
        . rw[sG.out];exact ky
        . exact(aH Ao.out Hb.out).grown dH zo (λj e=>eI dh j e)
       case measure=>simp[intOf];omega
     . obtain rfl:j=n:=by omega
       have uC:Z.take j=Z:=List.take_of_length_le (by rw[<-HZ.out,EQ (by rw[nV.out,sF.out]),nV.out];exact Nat.le_refl _);rw[uC]at ho;obtain⟨a2,cap2,rfl,pQ,mr⟩:=eH ho;have ie:=ho.lt;obtain⟨vals,hvl,hov,oD⟩:=cX.out.below hb2;have Hb:Hid (Bw wr wr):=Below.refl _ _;obtain⟨_,_,uL,_⟩:=cX.out;have hvs:=uL.lt;have hin:∀b o,a2=some ⟨b,o,none⟩->some b≠v.ownBlock/\b<wr.heap.size:=by intro b o e;subst e;have h1:=ie b rfl;refine⟨λh2=>?_,h1.2⟩;have h3:=hvs b h2.symm;omega
       obtain⟨ui,Ji,oX,vV,dW,cE⟩:=iD hin pQ hvl oD hov hb2;have Zy:=hb2.size;have xP:Hid (Z.length=j):=by show _=_;rw[<-HZ.out,EQ (by rw[nV.out,sF.out]),nV.out]
       clear hin pQ hvl oD hov uL hvs hb2 mr ie uC ho bG hj;obtain⟨W6,pO,ae,Hd⟩:=cf wr 49 [.slice a2 j cap2];have d0:=Hd.out.c1;replace Hb:=ak Hb ae;clear ae;have dh:=ownsRow_below dW.out Hb.out;have lC:=Hb.out.size;have hnews:∀i u,([.slice a2 j cap2]:List Value)[i]?=some u->W6.cell? ((⟨wr.heap.size,0,none⟩:Addr).add i)=some u:=jK Hd.out;clear d0;go_wp2_with (at_builtin;refine wpList_append_own_at _ rfl _ _ 124 rfl w.heap.size 49 j0 _ 1 24 Tryz.underlying124 Hj.out lW.out oZ.out pg.out rfl zd v k vals rfl dh ⟨wr.heap.size,0,none⟩ 1 1 [.slice a2 j cap2] rfl rfl hnews zy zx zo zo ?_;intro v' w7 fu gz _ kz;obtain⟨g',pC,rfl⟩:=ownsRow_succ fu);go_roundw;case rel=>
        refine⟨k+1,_,by omega,by go_num,rfl,?_,?_⟩
        . refine Own2.push (a:=a2) (c:=cap2) oX.out (w:=W6) ?_ ?_ ?_ ?_ gz kz
          . intro i h;obtain⟨a,c,h1,h2,h3⟩:=vV.out i h;exact⟨a,c,h1,h2.below Hb.out,λb o e=>⟨(h3 b o e).1,Nat.lt_of_lt_of_le (h3 b o e).2 lC⟩⟩
          . rw[xM.out];exact Ji.out.below Hb.out
          . exact λb o e=>⟨(ui.out b o e).1,Nat.lt_of_lt_of_le (ui.out b o e).2 lC⟩
          . rw[xM.out,xP.out];exact fu
        . exact(aH (aH aZ.out cE.out) Hb.out).grown gz zo (λj e=>eI dh j e)
       case measure=>simp[intOf];omega
  . obtain rfl:k=m:=by omega
    obtain⟨a2,c2,rfl,hcl,qo⟩:=Own2.arM pv HSL.out;obtain⟨yf,aZ⟩:=aI qo pb;clear pv pb qo;go_wp2;refine bodyPost_ret (results_tmp rfl _ _ _) rfl ⟨a2,c2,rfl,hcl,yf.out,aZ.out⟩
theorem Tryz.arR :(Tryz.prog.info? 32).map (λi=>(i.zero,i.size,i.bytes))=some (some (.agg #[.bool false,.string (bs [])]),2,24):=by kernel_rfl
theorem Tryz.arT :(Tryz.prog.info? 144).map (λi=>(i.zero,i.size,i.bytes))=some (some (.slice none 0 0),1,24):=by kernel_rfl
def iC (z:Int):List Value:=[.bool (ai z),.string (bs (nt z.natAbs))]
def zC (zs:List Int):List Value:=zs.flatMap iC
theorem ans (a b:List Int):zC (a++b)=zC a++zC b:=by unfold zC;rw[List.flatMap_append]
def iy (w:World)(base n:Nat)(R:List (List Int))(k:Nat)(v:Value):Prop:=
 ∃vals:List Value,vals.length=k/\w.ownsRow base 144 1 v k vals/\(∀i (h:i<vals.length),w.ownsRow base 32 2 vals[i] n (zC (R.getD i [])))/\
  ∀i j (hi:i<vals.length) (hj:j<vals.length) g,vals[i].ownBlock=some g->vals[j].ownBlock=some g->i=j
theorem iy.nil (w:World)(base n:Nat)(R:List (List Int)):iy w base n R 0 (.slice none 0 0):=
 ⟨[],rfl,World.ownsRow_nil _ _ _ _,λ_ h=>absurd h (Nat.not_lt_zero _),λ_ _ h=>absurd h (Nat.not_lt_zero _)⟩
theorem iy.below {w w':World}{base n k:Nat}{R:List (List Int)}{v:Value}(h:iy w base n R k v)(hb:Bw w w'):iy w' base n R k v:=by obtain⟨vals,hl,ho,hi,hd⟩:=h;exact⟨vals,hl,ownsRow_below ho hb,λi h=>ownsRow_below (hi i h) hb,hd⟩
theorem Dk {W:World}{b1 b2 e1 e2 s1 s2 k1 k2:Nat}{v1 v2:Value}{x1 x2:List Value}(h1:W.ownsRow b1 e1 s1 v1 k1 x1)(h2:W.ownsRow b2 e2 s2 v2 k2 x2)(he:e1≠e2):v1.ownBlock=none\/v1.ownBlock≠v2.ownBlock:=by
 rcases h1.2 with⟨rfl,_⟩ |⟨g,cap,cur,rfl,_,hg,_⟩
 . exact .inl rfl
 . refine .inr λh=>?_;rcases h2.2 with⟨rfl,_⟩ |⟨g',cap',cur',rfl,_,hg',_⟩
   . simp[Value.ownBlock]at h
   . simp only[Value.ownBlock,Option.some.injEq]at h;subst h;rw[hg]at hg';simp at hg';exact he hg'.2
theorem xt {W:World}{base base':Nat}{e:TypeId}{size:Nat}{v:Value}{n:Nat}{xs:List Value}(h:W.ownsRow base e size v n xs)(hb:base'<=base):W.ownsRow base' e size v n xs:=by
 refine⟨h.1,?_⟩;rcases h.2 with h2|⟨g,cap,cur,h1,h2,h3⟩
 . exact .inl h2
 . exact .inr ⟨g,cap,cur,h1,Nat.le_trans hb h2,h3⟩
theorem iy.push {w w':World}{base n k:Nat}{R:List (List Int)}{v v' x:Value}{vals:List Value}(hl:vals.length=k)(hov:w.ownsRow base 144 1 v k vals)(hi:∀i (h:i<vals.length),w.ownsRow base 32 2 vals[i] n (zC (R.getD i [])))
 (hd:∀i j (hi:i<vals.length) (hj:j<vals.length) g,vals[i].ownBlock=some g->vals[j].ownBlock=some g->i=j)
 (hx:w.ownsRow base 32 2 x n (zC (R.getD k []))) (pU:∀g,x.ownBlock=some g->∀i (h:i<vals.length),vals[i].ownBlock≠some g)
 (ho:w'.ownsRow base 144 1 v' (k+1) (vals++[x])) (hg:w.grownBy w' v.ownBlock):iy w' base n R (k+1) v':=by
 refine⟨_,by simp[hl],ho,λi h=>?_,λi j h1 h2 g e1 e2=>?_⟩
 . by_cases hk:i<vals.length
   . rw[List.getElem_append_left hk];exact(hi i hk).kept hg (Dk (hi i hk) hov zd)
   . have hik:i=k:=by simp at h;omega
     subst hik;rw[List.getElem_append_right zo];simp only[hl,Nat.sub_self,List.getElem_cons_zero];exact hx.kept hg (Dk hx hov zd)
 . by_cases k1:i<vals.length
   . rw[List.getElem_append_left k1]at e1;by_cases k2:j<vals.length
     . rw[List.getElem_append_left k2]at e2;exact hd i j k1 k2 g e1 e2
     . have hjk:j=k:=by simp at h2;omega
       subst hjk;rw[List.getElem_append_right zo]at e2;simp only[hl,Nat.sub_self,List.getElem_cons_zero]at e2;exact absurd e1 (pU g e2 i k1)
   . have hik:i=k:=by simp at h1;omega
     subst hik;rw[List.getElem_append_right zo]at e1;simp only[hl,Nat.sub_self,List.getElem_cons_zero]at e1;by_cases k2:j<vals.length
     . rw[List.getElem_append_left k2]at e2;exact absurd e2 (pU g e1 j k2)
     . simp at h2;omega
def jS (l:Int)(ds:List Dyadic):Int:=ds.foldl (λl d=>min l (dE d)) l
def kE (l:Int)(R:List (List Dyadic)):Int:=R.foldl jS l
def oJ (low:Int)(d:Dyadic):Int:=dN d*2^(dE d-low).toNat
theorem Xr (l:Int)(ds:List Dyadic):jS l ds<=l/\∀d∈ds,jS l ds<=dE d:=by
 induction ds generalizing l with
 |nil=>exact⟨Int.le_refl _,λd h=>by cases h⟩
 | cons x xs ih=>
   have h:=ih (min l (dE x));have e:jS l (x::xs)=jS (min l (dE x)) xs:=rfl;rw[e];refine⟨by omega,λd hd=>?_⟩;rcases List.mem_cons.1 hd with rfl|hd
   . omega
   . exact h.2 d hd
theorem Oh (l:Int)(R:List (List Dyadic)):kE l R<=l/\∀r∈R,∀d∈r,kE l R<=dE d:=by
 induction R generalizing l with
 |nil=>exact⟨Int.le_refl _,λd h=>by cases h⟩
 | cons x xs ih=>
   have h:=ih (jS l x);have h1:=Xr l x;have e:kE l (x::xs)=kE (jS l x) xs:=rfl;rw[e];refine⟨by omega,λr hr d hd=>?_⟩;rcases List.mem_cons.1 hr with rfl|hr
   . have:=h1.2 d hd;omega
   . exact h.2 r hr d hd
theorem Xq (l:Int)(ds:List Dyadic)(m:Int)(hl:m<=l)(h:∀d∈ds,m<=dE d):m<=jS l ds:=by
 induction ds generalizing l with
 |nil=>exact hl
 |cons x xs ih=>have hx:=h x (List.mem_cons_self ..);exact ih (min l (dE x)) zo (λd hd=>h d (List.mem_cons_of_mem _ hd))
theorem Og (l:Int)(R:List (List Dyadic))(m:Int)(hl:m<=l)(h:∀r∈R,∀d∈r,m<=dE d):m<=kE l R:=by
 induction R generalizing l with
 |nil=>exact hl
 |cons x xs ih=>exact ih (jS l x) (Xq l x m hl (h x (List.mem_cons_self ..))) (λr hr=>h r (List.mem_cons_of_mem _ hr))
theorem ajc (l:Int)(ds:List Dyadic)(k:Nat)(h:k<ds.length):jS l (ds.take (k+1))=min (jS l (ds.take k)) (dE ds[k]):=by unfold jS;rw[List.take_succ_eq_append_getElem h,List.foldl_append];rfl
theorem ajd (l:Int)(R:List (List Dyadic))(k:Nat)(h:k<R.length):kE l (R.take (k+1))=jS (kE l (R.take k)) R[k]:=by unfold kE;rw[List.take_succ_eq_append_getElem h,List.foldl_append];rfl
theorem agB (x y z:Value)(W:World):(Instr.field 39 (.agg #[x,y,z]) 1).run Tryz.prog W=.ok z W:=by kernel_rfl
theorem alZ (low:Int)(d:Dyadic)(h:low<=dE d):Dyadic.ofIntWithPrec (oJ low d) (-low)=d:=by
 have e: -low= -(dE d)+((dE d-low).toNat:Int):=by omega
 unfold oJ;rw[e,qE];exact(rT d).symm
theorem YQ (a:Option Addr)(L cap n:Nat)(rows:List (List Raw))(B:Nat)(low:Int)(w:World)(hL:rows.length=L)(hL8:L<=8)(hn8:n<=8)(hrow:∀r∈rows,r.length=n)(ha:cF w a rows)
 (hfit:∀r∈rows,∀c∈r,Fit B c) (hB:B<=10000000) (hT:az w) (jw:kE 0 (rows.map λr=>r.map ar)=low):
 Calls Tryz.prog 142 #[.slice a L cap] w λe w'=>∃v,e=.returned (.tuple #[v,.int .i64 (-low)])/\
  iy w' w.heap.size n ((rows.map λr=>r.map ar).map λr=>r.map (oJ low)) L v/\Bw w w':=by
 obtain⟨i0,hi,hz0,hz1,hz2⟩:=info_parts Tryz.arR;obtain⟨j0,hj,hy0,hy1,hy2⟩:=info_parts Tryz.arT;obtain⟨D,hD⟩:=aB (rows.map λr=>r.map ar);have TR:D.length=L:=by rw[<-hD];simp[hL]
 have BM:∀k (h:k<rows.length) (h':k<D.length),D[k]=rows[k].map ar:=λk h h'=>by subst hD;simp
 have BL:∀r∈D,∀d∈r,-268435456<=dE d/\dE d<=268435456:=by intro r hr d hd;rw[<-hD]at hr;obtain⟨r',hr',rfl⟩:=List.mem_map.1 hr;obtain⟨x,hx,rfl⟩:=List.mem_map.1 hd;exact(((hfit r' hr' x hx).2).fit zo).1.2
 rw[hD]at jw⊢;have hlo:low<=0/\∀r∈D,∀d∈r,low<=dE d:=by rw[<-jw];exact Oh 0 D
 have hlb: -268435456<=low:=by rw[<-jw];exact Og 0 D _ zd (λr hr d hd=>(BL r hr d hd).1)
 have CC:∀k j (h:k<D.length) (h':j<=D[k].length),-268435456<=jS (kE 0 (D.take k)) (D[k].take j)/\jS (kE 0 (D.take k)) (D[k].take j)<=0:=by intro k j h h';have g1: -268435456<=kE 0 (D.take k):=Og 0 _ _ zd (λr hr d hd=>(BL r (List.mem_of_mem_take hr) d hd).1);have g2:=(Oh 0 (D.take k)).1;have g3:=(Xr (kE 0 (D.take k)) (D[k].take j)).1;exact⟨Xq _ _ _ g1 (λd hd=>(BL _ (List.getElem_mem h) d (List.mem_of_mem_take hd)).1),by omega⟩
 obtain⟨Hi,fg,fh,ey,Hj,lW,oZ,pg,IR,Qa,HDe,ab6⟩:=ij hi hz0 hz1 hz2 hj hy0 hy1 hy2 TR BM BL jw;obtain⟨Rf,Hlb,Ej,Ha,HT,AR,Az,HL⟩:=mI hlo hlb CC ha hT hrow hfit hL;have hnl:IntKind.i64.wrap (-low)= -low:=by rw[IntKind.wrap_i64];omega
 obtain⟨nl,Nh⟩:=aB (-low);obtain⟨S,hS⟩:=aB (D.map λr=>r.map (oJ low));have Ca:∀k (h:k<D.length),S.getD k []=D[k].map (oJ low):=λk h=>by subst hS;simp[h]
 rw[hS,Nh];have VR:IntKind.i64.wrap (-low)=nl:=by rw[hnl,Nh]
 obtain⟨Ki,IY⟩:=aI VR Ca;clear hnl Nh VR hS Ca hi hz0 hz1 hz2 hj hy0 hy1 hy2 CC hlb hlo BL BM TR jw ha hT hrow hfit hL hD;go_enter Tryz.func142,Tryz.ntmps142;have Hb:Hid (Bw w w):=Below.refl _ _;go_wp2_with fail;go_loopw[4,18] (λs4 x wr=>∃k:Nat,k<=L/\x=.int .i64 (k:Int)/\s4=.int .i64 (kE 0 (D.take k))/\Bw w wr) (λ_ x _=>L-(intOf x).toNat);case atStart=>exact⟨0,Nat.zero_le _,rfl,rfl,Hb.out⟩
 case round=>
  clear Hb;obtain⟨k,hk,rfl,rfl,pb⟩:=hrel;by_cases hlt:k<L
  . have hk2:k<rows.length:=by rw[HL.out];exact hlt
    have hk3:k<D.length:=by rw[IR.out];exact hlt
    obtain⟨p,gK⟩:=aB (rows[k]);obtain⟨b,o,a1,c1,hab,hc1,hat⟩:=(Ha.out.below pb).row k hk2;have oC:p.length=n:=by rw[<-gK];exact AR.out _ (List.getElem_mem hk2)
    have uN:∀x∈p,Fit B x:=by rw[<-gK];exact Az.out _ (List.getElem_mem hk2)
    have sQ:=Qa.out k hk2 hk3;rw[gK]at hc1 hat sQ;rw[oC]at hc1;have pW:=za L cap k (k:Int) hab hlt rfl;rw[Nat.mul_one]at pW;have hst:=ajd 0 D k hk3;have hpt:=λj (h:j<=n)=>Ej.out k j hk3 (by rw[sQ,List.length_map,oC];exact h);rw[sQ]at hst;simp only[sQ]at hpt;obtain⟨l0,hl0⟩:=aB (kE 0 (D.take k));rw[hl0]at hst⊢;simp only[hl0]at hpt;obtain⟨eJ,nV,AO,bX,Ko,aZ⟩:=iD hat oC uN hst hpt pb;clear hat oC uN hst hpt pb hab gK sQ hl0 hk2 hk3;obtain⟨wc,hwc⟩:∃wc,wc=wr:=⟨_,rfl⟩;subst hwc;have lL:=aZ.out.size;go_wp2_with fail;go_loopw[4,24] (λs4 x wr=>∃j:Nat,j<=n/\x=.int .i64 (j:Int)/\s4=.int .i64 (jS l0 ((p.map ar).take j))/\Bw wc wr) (λ_ x _=>n-(intOf x).toNat);case atStart=>exact⟨0,Nat.zero_le _,rfl,rfl,Below.refl _ _⟩
    case round=>
     clear hc1;obtain⟨j,hj,rfl,rfl,hb2⟩:=hrel;by_cases bG:j<n
     . have k1:j<p.length:=by rw[nV.out];exact bG
       obtain⟨sp,mp,ep,jh⟩:=ux (p[j]);have gy:=AO.out _ (List.getElem_mem k1);have hst:=ajc l0 (p.map ar) j (by simpa using k1);rw[List.getElem_map,jh]at hst;rw[jh]at gy;obtain⟨X,hX⟩:=aB (ar (sp,mp,ep));rw[hX]at hst;obtain⟨l1,Co⟩:=aB (jS l0 ((p.map ar).take j));rw[Co]at hst⊢;obtain⟨b1,o1,gH,p0,p1,p2⟩:=(eJ.out.below hb2).num j k1 jh;have VA:=tE n c1 j (j:Int) gH bG rfl;have Hp:Hid (bO wr b1 (o1+j*3) [.bool sp,.string (bs mp),.int .i64 ep]):=oM p0 p1 p2;obtain⟨qV,HX,Ao,sG,cP⟩:=gT gy.1 hX hb2 hst ((HT.out.below aZ.out).below hb2);clear hb2 gy hX hst jh gH p0 p1 p2 Co;have Hb:Hid (Bw wr wr):=Below.refl _ _;obtain⟨p0,p1,p2⟩:=Hp.out.w3;have P0:=p0;have P1:=p1;have P2:=p2;have fl:=agB (.bool (ai (dN X))) (.string (bs (nt (dN X).natAbs))) (.int .i64 (dE X));obtain⟨W4,ku,ae,Hc⟩:=cf wr 39 [.bool sp,.string (bs mp),.int .i64 ep];clear p0 p1 p2;replace Hp:=kW Hp ae;obtain⟨p0,p1,p2⟩:=Hp.out.w3;obtain⟨c0,c1,c2⟩:=Hc.out.c3;replace Hb:=ak Hb ae;clear ae;have HT:Hid (az W4):=cP.out.below Hb.out;go_wp2_with fail;refine(pH sp mp ep X HX.out _ qV.out HT.out).mono ?_;rintro e w5 ⟨rfl,ae⟩;clear p0 p1 p2 c0 c1 c2;replace Hp:=kW Hp ae;replace Hc:=kB Hc ae;replace HT:=kT HT ae;obtain⟨p0,p1,p2⟩:=Hp.out.w3;obtain⟨c0,c1,c2⟩:=Hc.out.c3;replace Hb:=ak Hb ae;clear ae;go_wp2;go_roundw;case rel=>exact⟨j+1,by omega,by go_num,by rw[sG.out],aH Ao.out Hb.out⟩
       case measure=>simp[intOf];omega
     . obtain rfl:j=n:=by omega
       have hpt:(p.map ar).take j=p.map ar:=List.take_of_length_le (by simp[nV.out]);rw[hpt];go_wp2;go_roundw;case rel=>exact⟨k+1,by omega,by go_num,by rw[bX.out],aH aZ.out hb2⟩
       case measure=>simp[intOf];omega
  . obtain rfl:k=L:=by omega
    have TU:D.take k=D:=List.take_of_length_le (by rw[IR.out];exact Nat.le_refl _);rw[TU,ab6.out];have aZ:=af pb;clear pb TU;obtain⟨wa,hwa⟩:∃wa,wa=wr:=⟨_,rfl⟩;subst hwa;have Pw:=aZ.out.size;go_wp2_with fail;go_loopw[9,37] (λs9 x wr=>∃(i:Nat) (v:Value),i<=k/\x=.int .i64 (i:Int)/\v=s9/\iy wr w.heap.size n S i v/\Bw w wr) (λ_ x _=>k-(intOf x).toNat);case atStart=>exact⟨0,_,Nat.zero_le _,rfl,rfl,iy.nil _ _ _ _,aZ.out⟩
    case round=>
     clear aZ Pw;obtain⟨i,v,hk,rfl,rfl,pv,pb⟩:=hrel;by_cases hlt:i<k
     . have hk2:i<rows.length:=by rw[HL.out];exact hlt
       have hk3:i<D.length:=by rw[IR.out];exact hlt
       obtain⟨p,gK⟩:=aB (rows[i]);obtain⟨b,o,a1,c1,hab,hc1,hat⟩:=(Ha.out.below pb).row i hk2;have oC:p.length=n:=by rw[<-gK];exact AR.out _ (List.getElem_mem hk2)
       have uN:∀x∈p,Fit B x:=by rw[<-gK];exact Az.out _ (List.getElem_mem hk2)
       have sQ:=Qa.out i hk2 hk3;have sU:=IY.out i hk3;have hpl:=Rf.out.2 _ (List.getElem_mem hk3);rw[gK]at hc1 hat sQ;rw[sQ]at sU hpl;rw[oC]at hc1;have pW:=za k cap i (i:Int) hab hlt rfl;rw[Nat.mul_one]at pW;obtain⟨Z,hZ⟩:=aB ((p.map ar).map (oJ low));rw[hZ]at sU;obtain⟨eJ,nV,AO,xM,HZ,um,aZ,cX⟩:=mI hat oC uN sU hZ hpl pb pv;clear hat oC uN sU hZ hpl pb pv hab gK sQ hk2 hk3;obtain⟨wc,hwc⟩:∃wc,wc=wr:=⟨_,rfl⟩;subst hwc;have lL:=aZ.out.size;go_wp2_with fail;go_loopw[12,43] (λs12 x wr=>∃(j:Nat) (v2:Value),j<=n/\x=.int .i64 (j:Int)/\v2=s12/\wr.ownsRow wc.heap.size 32 2 v2 j (zC (Z.take j))/\Bw wc wr) (λ_ x _=>n-(intOf x).toNat);case atStart=>exact⟨0,_,Nat.zero_le _,rfl,rfl,World.ownsRow_nil _ _ _ _,Below.refl _ _⟩
       case round=>
        clear hc1;obtain⟨j,v2,hj,rfl,rfl,ho,hb2⟩:=hrel;by_cases bG:j<n
        . have k1:j<p.length:=by rw[nV.out];exact bG
          obtain⟨sp,mp,ep,jh⟩:=ux (p[j]);have gy:=AO.out _ (List.getElem_mem k1);rw[jh]at gy;obtain⟨X,hX⟩:=aB (ar (sp,mp,ep));have hle:low<=dE X:=um.out X (by rw[<-hX,<-jh];exact List.mem_map_of_mem (List.getElem_mem k1));have dY:Sm B X:=by rw[<-hX];exact gy.2
          have MC:=(dY.fit zo).1;have ov:(nt (dN X).natAbs).length<=268435456:=MC.1;have hXe: -268435456<=dE X/\dE X<=268435456:=MC.2;obtain⟨Y,hY⟩:=aB (oJ low X);have hlb:=Hlb.out;have hl0:=Rf.out.1;obtain⟨t,ht⟩:∃t:Int,dE X-low=t:=⟨_,rfl⟩;have hwr:IntKind.i64.wrap (dE X-low)=t:=by rw[IntKind.wrap_i64];omega
          have hsh:∀W,Calls Tryz.prog 38 #[.agg #[.bool (ai (dN X)),.string (bs (nt (dN X).natAbs))],.int .i64 t] W λe w'=>e=.returned (cn Y)/\Bw W w':=by intro W;have h:=IH (ai (dN X)) (nt (dN X).natAbs) (dE X-low).toNat W zo zo;rw[dI,show((dE X-low).toNat:Int)=t by omega]at h;rw[<-hY];exact h
          have bX:Hid (zC (Z.take (j+1))=zC (Z.take j)++[.bool (ai Y),.string (bs (nt Y.natAbs))]):=by
           show _=_
           rw[<-HZ.out,List.take_succ_eq_append_getElem (by simpa using k1),ans];congr 1;simp only[List.getElem_map,jh,hX,hY];rfl
          obtain⟨b1,o1,gH,p0,p1,p2⟩:=(eJ.out.below hb2).num j k1 jh;have VA:=tE n c1 j (j:Int) gH bG rfl;have Hp:Hid (bO wr b1 (o1+j*3) [.bool sp,.string (bs mp),.int .i64 ep]):=oM p0 p1 p2;obtain⟨qV,HX,Ho,cE,Kt,Hwr,cP⟩:=iV gy.1 hX ho hb2 hsh hwr ((HT.out.below aZ.out).below hb2);have Zy:=hb2.size;clear ho hb2 gy hX jh gH p0 p1 p2 hle dY MC ov hXe hY hlb hl0 ht hsh hwr;have Hb:Hid (Bw wr wr):=Below.refl _ _;obtain⟨p0,p1,p2⟩:=Hp.out.w3;have P0:=p0;have P1:=p1;have P2:=p2;obtain⟨W4,ku,ae,Hc⟩:=cf wr 39 [.bool sp,.string (bs mp),.int .i64 ep];clear p0 p1 p2;replace Hp:=kW Hp ae;obtain⟨p0,p1,p2⟩:=Hp.out.w3;obtain⟨c0,c1,c2⟩:=Hc.out.c3;replace Hb:=ak Hb ae;clear ae;have HT:Hid (az W4):=cP.out.below Hb.out;go_wp2_with fail;refine(pH sp mp ep X HX.out _ qV.out HT.out).mono ?_;rintro e w5 ⟨rfl,ae⟩;clear p0 p1 p2 c0 c1 c2;replace Hp:=kW Hp ae;replace Hc:=kB Hc ae;replace HT:=kT HT ae;obtain⟨p0,p1,p2⟩:=Hp.out.w3;obtain⟨c0,c1,c2⟩:=Hc.out.c3;replace Hb:=ak Hb ae;clear ae;have ajm:=Hc.out.lt;obtain⟨W6,pO,ae,Hy⟩:=cf w5 39 [.bool (ai (dN X)),.string (bs (nt (dN X).natAbs)),.int .i64 (dE X)];clear p0 p1 p2;replace Hp:=kW Hp ae;clear c0 c1 c2;replace Hc:=kB Hc ae;replace HT:=kT HT ae;obtain⟨p0,p1,p2⟩:=Hp.out.w3;obtain⟨c0,c1,c2⟩:=Hc.out.c3;obtain⟨y0,y1,y2⟩:=Hy.out.c3;replace Hb:=ak Hb ae;clear ae;have hwr:=Hwr.out;go_wp2_with fail;refine(Kt.out _).mono ?_;rintro e w7 ⟨rfl,ae⟩;clear p0 p1 p2 c0 c1 c2 y0 y1 y2;replace Hp:=kW Hp ae;replace Hc:=kB Hc ae;replace HT:=kT HT ae;replace Hy:=kB Hy ae;obtain⟨p0,p1,p2⟩:=Hp.out.w3;obtain⟨c0,c1,c2⟩:=Hc.out.c3;obtain⟨y0,y1,y2⟩:=Hy.out.c3;replace Hb:=ak Hb ae;clear ae hwr;have apx:=Hc.out.lt;have XE:=Hy.out.lt;obtain⟨W8,Uv,ae,Hd⟩:=cf w7 32 [.bool (ai Y),.string (bs (nt Y.natAbs))];clear p0 p1 p2;replace Hp:=kW Hp ae;clear c0 c1 c2;replace Hc:=kB Hc ae;replace HT:=kT HT ae;clear y0 y1 y2;replace Hy:=kB Hy ae;obtain⟨p0,p1,p2⟩:=Hp.out.w3;obtain⟨c0,c1,c2⟩:=Hc.out.c3;obtain⟨y0,y1,y2⟩:=Hy.out.c3;obtain⟨d0,d1⟩:=Hd.out.c2;replace Hb:=ak Hb ae;clear ae;have dh:=ownsRow_below Ho.out Hb.out;have lC:=Hb.out.size;have hnews:=jK Hd.out;clear d0 d1;go_wp2_with (at_builtin;refine wpList_append_own_at _ rfl _ _ 144 rfl wc.heap.size 32 i0 _ 2 24 Tryz.underlying144 Hi.out fg.out fh.out ey.out rfl zd v2 j (zC (Z.take j)) rfl dh ⟨w7.heap.size,0,none⟩ 1 1 [.bool (ai Y),.string (bs (nt Y.natAbs))] rfl rfl hnews zy zx zo zo ?_;intro v' w9 mB Vm _ _;obtain⟨g',pC,rfl⟩:=ownsRow_succ mB);go_roundw;case rel=>
           refine⟨j+1,_,by omega,by go_num,rfl,?_,?_⟩
           . rw[bX.out];exact mB
           . exact(aH cE.out Hb.out).grown Vm zo (λj e=>eI dh j e)
          case measure=>simp[intOf];omega
        . obtain rfl:j=n:=by omega
          have uC:Z.take j=Z:=List.take_of_length_le (by rw[<-HZ.out];simp[nV.out]);rw[uC]at ho;obtain⟨a2,cap2,rfl,_,_⟩:=eH ho;have ie:=ho.lt;obtain⟨vals,hvl,hov,oD,CJ⟩:=cX.out;have pU:∀g,(Value.slice a2 j cap2).ownBlock=some g->∀m (h:m<vals.length),vals[m].ownBlock≠some g:=by intro g h1 m h2 h3;have:=(ie g h1).1;have:=((oD m h2).lt g h3).2;omega
          obtain⟨JN,oX,vV,dW,cE,KC,Ho⟩:=iV pU hvl oD hov hb2 CJ ho;have Hb:Hid (Bw wr wr):=Below.refl _ _;have Zy:=hb2.size;clear pU hvl hov oD hb2 CJ ie uC ho bG hj;obtain⟨W6,pO,ae,Hd⟩:=cf wr 144 [.slice a2 j cap2];have d0:=Hd.out.c1;replace Hb:=ak Hb ae;clear ae;have Mf:=aH cE.out Hb.out;have dh:=ownsRow_below dW.out Mf;have lC:=Hb.out.size;have hnews:∀i u,([.slice a2 j cap2]:List Value)[i]?=some u->W6.cell? ((⟨wr.heap.size,0,none⟩:Addr).add i)=some u:=jK Hd.out;clear d0;go_wp2_with (at_builtin;refine wpList_append_own_at _ rfl _ _ 170 rfl w.heap.size 144 j0 _ 1 24 Tryz.underlying170 Hj.out lW.out oZ.out pg.out rfl zd v i vals rfl dh ⟨wr.heap.size,0,none⟩ 1 1 [.slice a2 j cap2] rfl rfl hnews zy zx zo zo ?_;intro v' w7 fu gz _ _;obtain⟨g',pC,rfl⟩:=ownsRow_succ fu);go_roundw;case rel=>
           refine⟨i+1,_,by omega,by go_num,rfl,?_,?_⟩
           . refine iy.push (w:=W6) oX.out dh (λm h=>ownsRow_below (vV.out m h) Mf) KC.out ?_ JN.out fu gz;rw[xM.out];exact xt (ownsRow_below Ho.out Hb.out) zo
           . exact(aH aZ.out Mf).grown gz zo (λj e=>eI dh j e)
          case measure=>simp[intOf];omega
     . obtain rfl:i=k:=by omega
       obtain⟨aZ,cX⟩:=aI pb pv;clear pb pv;have hnl:=Ki.out;go_wp2;refine bodyPost_ret (v:=.tuple #[v,.int .i64 nl]) (by simp[results,Tryz.results142,go_sem]) rfl ⟨v,rfl,cX.out,aZ.out⟩
end Go.Proofs.YtoopepmmepmfnaaGreatDoor
namespace Go.Proofs.YtoopepmmepmfnaaGreatDoor
open Go.RowKit
theorem jk {w:World}{base:Nat}{e:TypeId}{size n cap g:Nat}{xs:List Value}(h:w.ownsRow base e size (.slice (some ⟨g,0,none⟩) n cap) n xs)(j:Nat)(hj:j<xs.length):w.cell? ⟨g,j,none⟩=some xs[j]:=by
 rcases h.2 with⟨h1,_⟩ |⟨g',cap',cur,h1,_,hg,_,_,_,hx⟩
 . simp at h1
 . simp only[Value.slice.injEq,Option.some.injEq,Addr.mk.injEq,and_true,true_and]at h1;obtain⟨rfl,rfl⟩:=h1;have h2:cur.toList.take (n*size)=xs:=hx;have h3:cur.toList[j]?=some xs[j]:=by rw[<-List.getElem?_eq_getElem hj];simp only[<-h2];rw[List.getElem?_take];rw[<-h2,List.length_take]at hj;rw[if_pos (Nat.lt_of_lt_of_le hj (Nat.min_le_left _ _))]
   have h4:aj w g e cur.toList:=by unfold aj;simpa using hg
   rw[h4.cell];exact h3
theorem jl {w:World}{base:Nat}{e:TypeId}{size n cap g:Nat}{xs:List Value}(h:w.ownsRow base e size (.slice (some ⟨g,0,none⟩) n cap) n xs)(j:Nat)(u:Value):(w.setCell ⟨g,j,none⟩ u).ownsRow base e size (.slice (some ⟨g,0,none⟩) n cap) n (xs.set j u):=by
 refine⟨by rw[List.length_set];exact h.1,?_⟩;rcases h.2 with⟨h1,_⟩ |⟨g',cap',cur,h1,hb,hg,h4,h5,h6,hx⟩
 . simp at h1
 . simp only[Value.slice.injEq,Option.some.injEq,Addr.mk.injEq,and_true,true_and]at h1;obtain⟨rfl,rfl⟩:=h1;refine .inr ⟨g,cap,cur.setIfInBounds j u,rfl,hb,?_,h4,h5,by simpa using h6,?_⟩
   . simp[World.setCell,Array.getElem?_modify,hg]
   . rw[<-hx];simp[List.take_set]
theorem anu (zs:List Int):(zC zs).length=zs.length*2:=mf iC 2 (λ_=>rfl) zs
theorem ant (zs:List Int)(j:Nat)(hj:j<zs.length):(zC zs)[j*2]?=some (.bool (ai zs[j]))/\(zC zs)[j*2+1]?=some (.string (bs (nt zs[j].natAbs))):=by
 induction zs generalizing j with
 |nil=>simp at hj
 | cons z zs ih=>
   have e:zC (z::zs)=.bool (ai z)::.string (bs (nt z.natAbs))::zC zs:=rfl;rw[e];cases j with
   |zero=>exact⟨rfl,rfl⟩
   |succ j=>have:=ih j (by simpa using hj);rw[show(j+1) *2=j*2+1+1 by omega];simpa using this
theorem anv (zs:List Int)(j:Nat)(hj:j<zs.length)(y:Int):((zC zs).set (j*2) (.bool (ai y))).set (j*2+1) (.string (bs (nt y.natAbs)))=zC (zs.set j y):=by
 induction zs generalizing j with
 |nil=>simp at hj
 | cons z zs ih=>
   have e:zC (z::zs)=.bool (ai z)::.string (bs (nt z.natAbs))::zC zs:=rfl;rw[e];cases j with
   |zero=>rfl
   |succ j=>have:=ih j (by simpa using hj);rw[show(j+1) *2=j*2+1+1 by omega];simp only[List.set_cons_succ];rw[this];rfl
theorem iy.num {w:World}{base n L:Nat}{R:List (List Int)}{v:Value}(h:iy w base n R L v)(i j:Nat)(hi:i<L)(hj:j<n)(hR:R.length=L)(hr:(R.getD i []).length=n):
 ∃go cap g c,v=.slice (some ⟨go,0,none⟩) L cap/\base<=go/\base<=g/\g≠go/\w.cell? ⟨go,i,none⟩=some (.slice (some ⟨g,0,none⟩) n c)/\
  w.cell? ⟨g,j*2,none⟩=some (.bool (ai ((R.getD i []).getD j 0)))/\w.cell? ⟨g,j*2+1,none⟩=some (.string (bs (nt ((R.getD i []).getD j 0).natAbs)))/\
  ∀y:Int,iy ((w.setCell ⟨g,j*2,none⟩ (.bool (ai y))).setCell ⟨g,j*2+1,none⟩ (.string (bs (nt y.natAbs)))) base n (R.set i ((R.getD i []).set j y)) L v:=by
 obtain⟨vals,hl,ho,hv,hd⟩:=h;have hi2:i<vals.length:=by omega
 have hrow:=hv i hi2;have hxl:(zC (R.getD i [])).length=n*2:=by rw[anu,hr]
 obtain⟨a0,cap,rfl,_,_⟩:=eH ho;obtain⟨a1,c,e1,_,hab⟩:=eH hrow;rw[e1]at hrow;rcases ho.2 with⟨h1,_⟩ |⟨go,cap',cur,h1,sY,hgo,_⟩
 . simp at h1;omega
 simp only[Value.slice.injEq,true_and]at h1;obtain⟨rfl,rfl⟩:=h1;rcases hrow.2 with⟨h1,_⟩ |⟨g,c',cur',h1,hbg,hgg,_⟩
 . simp at h1;omega
 simp only[Value.slice.injEq,true_and]at h1;obtain⟨rfl,rfl⟩:=h1;have hne:g≠go:=by rintro rfl;rw[hgo]at hgg;simp at hgg
 have hat:=ant (R.getD i []) j zo;have hg0:(R.getD i []).getD j 0=(R.getD i [])[j]'zo:=by rw[List.getD_eq_getElem?_getD,List.getElem?_eq_getElem zo];rfl
 have hc0:=jk hrow (j*2) zo;have hc1:=jk hrow (j*2+1) zo;rw[<-List.getElem?_eq_getElem]at hc0 hc1;rw[hat.1]at hc0;rw[hat.2]at hc1;refine⟨go,cap,g,c,rfl,sY,hbg,hne,?_,by rw[hg0];exact hc0,by rw[hg0];exact hc1,λy=>?_⟩
 . rw[jk ho i zo,e1]
 . refine⟨vals,hl,?_,λm hm=>?_,hd⟩
   . exact ownsRow_setCell_other (ownsRow_setCell_other ho (by simpa[Value.ownBlock]using hne.symm) _) (by simpa[Value.ownBlock]using hne.symm) _
   . by_cases jQ:m=i
     . subst jQ;have hs:(R.set m ((R.getD m []).set j y)).getD m []=(R.getD m []).set j y:=by rw[List.getD_eq_getElem?_getD,List.getElem?_set_self zo];rfl
       rw[hs,e1,<-anv _ _ zo];exact jl (jl hrow _ _) _ _
     . have hs:(R.set i ((R.getD i []).set j y)).getD m []=R.getD m []:=by rw[List.getD_eq_getElem?_getD,List.getElem?_set_ne (λe=>jQ e.symm),<-List.getD_eq_getElem?_getD]
       rw[hs];have hno:vals[m].ownBlock≠some g:=λe=>jQ (hd m i hm hi2 g e (by rw[e1];rfl));exact ownsRow_setCell_other (ownsRow_setCell_other (hv m hm) hno _) hno _
def swp (i m k:Nat):Nat:=if k=i then m else if k=m then i else k
theorem amw {i m a b:Nat}(h:swp i m a=swp i m b):a=b:=by
 unfold swp at h;repeat' split at h
 all_goals omega
theorem Iw {i m k L:Nat}(hi:i<L)(hm:m<L)(hk:k<L):swp i m k<L:=by
 unfold swp;repeat' split
 all_goals omega
theorem Ph {α:Type}(l:List α)(d:α)(i m:Nat)(hi:i<l.length)(hm:m<l.length)(k:Nat)(hk:k<l.length):((l.set i (l.getD m d)).set m (l.getD i d)).getD k d=l.getD (swp i m k) d:=by
 unfold swp;by_cases h1:k=m
 . subst h1;rw[List.getD_eq_getElem?_getD,List.getElem?_set_self (by simpa using hk)];by_cases h2:k=i
   . subst h2;simp
   . simp[h2]
 . rw[List.getD_eq_getElem?_getD,List.getElem?_set_ne (λe=>h1 e.symm)];by_cases h2:k=i
   . subst h2;rw[List.getElem?_set_self (by simpa using hk)];simp
   . rw[List.getElem?_set_ne (λe=>h2 e.symm)];simp[h1,h2]
theorem iy.swap {w:World}{base n L go cap:Nat}{R:List (List Int)}(h:iy w base n R L (.slice (some ⟨go,0,none⟩) L cap))(i m:Nat)(hi:i<L)(hm:m<L)(hR:R.length=L):
 ∃x y,w.cell? ⟨go,i,none⟩=some x/\w.cell? ⟨go,m,none⟩=some y/\iy ((w.setCell ⟨go,i,none⟩ y).setCell ⟨go,m,none⟩ x) base n ((R.set i (R.getD m [])).set m (R.getD i [])) L (.slice (some ⟨go,0,none⟩) L cap):=by
 obtain⟨vals,hl,ho,hv,hd⟩:=h;have hi2:i<vals.length:=by omega
 have hm2:m<vals.length:=by omega
 have hgo:∀k (hk:k<vals.length),vals[k].ownBlock≠some go\/vals[k].ownBlock=none:=by
  intro k hk;rcases Dk (hv k hk) ho zd with e|e
  . exact .inr e
  . exact .inl e
 have hel:∀k (hk:k<vals.length),((vals.set i vals[m]).set m vals[i])[k]'(by simpa using hk)=vals[swp i m k]'(Iw hi2 hm2 hk):=by intro k hk;have:=Ph vals (.bool false) i m hi2 hm2 k hk;have hs:=Iw hi2 hm2 hk;simpa[List.getD_eq_getElem?_getD,List.getElem?_eq_getElem,hi2,hm2,hk,hs]using this
 refine⟨vals[i],vals[m],jk ho i zo,jk ho m zo,_,by simp[hl],jl (jl ho i _) m _,λk hk=>?_,λa b ha hb g e1 e2=>?_⟩
 . have hk2:k<vals.length:=by simpa using hk
   have hs:=Iw hi2 hm2 hk2;rw[hel k hk2,Ph R [] i m zo zo k zo];have hno:vals[swp i m k].ownBlock≠some go:=by
    rcases hgo _ hs with e|e
    . exact e
    . rw[e];simp
   exact ownsRow_setCell_other (ownsRow_setCell_other (hv _ hs) hno _) hno _
 . have ha2:a<vals.length:=by simpa using ha
   have hb2:b<vals.length:=by simpa using hb
   rw[hel a ha2]at e1;rw[hel b hb2]at e2;exact amw (hd _ _ _ _ g e1 e2)
end Go.Proofs.YtoopepmmepmfnaaGreatDoor
namespace Go.Proofs.YtoopepmmepmfnaaGreatDoor
open Go.RowKit
attribute [local go_sem ↓] Go.wp_at_zero Go.wp_at_succ
def kD {α:Type}(p:α->Bool):List α->Nat->Int
 |[],_=>-1
 |v::l,k=>if p v then(k:Int)else kD p l (k+1)
theorem WU {α:Type}(p:α->Bool)(l:List α)(k n:Nat)(h:n<l.length):kD p (l.drop n) k=if p l[n]then(k:Int)else kD p (l.drop (n+1)) (k+1):=by rw[List.drop_eq_getElem_cons h];rfl
theorem WT {α:Type}(p:α->Bool)(l:List α)(k:Nat):decide (0<=kD p l k)=l.any p:=by
 induction l generalizing k with
 |nil=>rfl
 | cons v l ih=>
   unfold kD;rw[List.any_cons];by_cases h:p v=true
   . rw[if_pos h,h,Bool.true_or];simp
   . rw[if_neg h,ih];simp[h]
theorem WV {α:Type}(p:α->Bool)(l:List α)(k:Nat):(kD p l k= -1/\∀x∈l,p x=false)\/∃i,∃h:i<l.length,kD p l k=((k+i:Nat):Int)/\p l[i]=true/\∀j (hj:j<i),p (l[j]'zo)=false:=by
 induction l generalizing k with
 |nil=>exact .inl ⟨rfl,λx hx=>by cases hx⟩
 | cons v l ih=>
   unfold kD;by_cases h:p v=true
   . rw[if_pos h];exact .inr ⟨0,by simp,rfl,h,λj hj=>by omega⟩
   . rw[if_neg h];rcases ih (k+1)with⟨h1,h2⟩ |⟨i,h1,h2,h3,h4⟩
     . exact .inl ⟨h1,λx hx=>by rcases List.mem_cons.1 hx with rfl|hx;simpa using h;exact h2 x hx⟩
     . refine .inr ⟨i+1,by simpa using h1,by rw[h2];congr 1;omega,by simpa using h3,λj hj=>?_⟩;cases j with
       |zero=>simpa using h
       |succ j=>simpa using h4 j zo
structure Pv where
 V:Int
 a:Option Addr
 n:Nat
 c:Nat
def jm (p:Pv):List Value:=[.int .i64 p.V,.slice p.a p.n p.c]
theorem At.arD {w:World}{a:Option Addr}{ps:List Pv}(h:At w a (ps.flatMap jm))(k:Nat)(hk:k<ps.length){V:Int}{a':Option Addr}{n c:Nat}(hx:ps[k]=⟨V,a',n,c⟩):
 ∃b o,a=some ⟨b,o,none⟩/\bO w b (o+k*2) [.int .i64 V,.slice a' n c]:=by
 obtain⟨b,o,hab,hcs⟩:=h.elem (f:=jm) (sz:=2) (λ_=>rfl) zd k hk;refine⟨b,o,hab,λj hj=>?_⟩;have:=hcs j hj;rw[hx]at this;rw[this];unfold jm;rw[List.getElem?_eq_getElem (by simpa using hj)]
theorem NW (a:Option Addr)(n cap:Nat)(vals:List aO)(gf:Nat)(lb:Array Value)(p:aO->Bool)(w:World)(hn:vals.length=n)(hl:n<=1099511627776)(ha:At w a (vals.flatMap bf))
 (eg:∀args w,(callFunc gf args).run Tryz.prog w=.ok (.enter gf args) w)
 (hcl:∀x∈vals,∀W,Bw w W->Calls Tryz.prog gf (#[.agg #[.string (bs x.1),.bool x.2.1,.string (bs x.2.2.1),.int .i64 x.2.2.2]]++lb) W λe w'=>e=.returned (.bool (p x))/\Bw W w'):
 Calls Tryz.prog 210 #[.slice a n cap,.func (.func gf) #[] lb] w λe w'=>e=.returned (.int .i64 (kD p vals 0))/\Bw w w':=by
 obtain⟨Hn,Ha,gm,kO⟩:=cQ hn ha hcl eg;clear hn ha hcl eg;have Hb:Hid (Bw w w):=Below.refl _ _;go_enter Tryz.func210,Tryz.ntmps210;go_wp2_with fail;go_loopw[5,8] (λ_ i wr=>∃k:Nat,k<=n/\i=.int .i64 (k:Int)/\kD p vals 0=kD p (vals.drop k) k/\Bw w wr) (λ_ i _=>n-(intOf i).toNat);case atStart=>exact⟨0,Nat.zero_le _,rfl,rfl,Hb.out⟩
 case round=>
  clear Hb;obtain⟨k,hk,rfl,fX,pb⟩:=hrel;obtain⟨lR,Hb⟩:=aI fX pb;clear fX pb;by_cases hlt:k<n
  . have bG:k<vals.length:=by rw[Hn.out];exact hlt
    obtain⟨l,s,m,e,hx⟩:∃l s m e,vals[k]=(l,s,m,e):=⟨_,_,_,_,rfl⟩;obtain⟨b,o,hab,eG⟩:=(Ha.out.below Hb.out).term k bG hx;obtain⟨q0,q1,q2,q3⟩:=eG.w4;have bB:=rM n cap k (k:Int) hab hlt rfl;have hcall:=gm.out _ (List.getElem_mem bG) wr Hb.out;have hstep:=WU p vals k k bG;rw[<-lR.out]at hstep;rw[hx]at hcall hstep;obtain⟨eN,jr⟩:=aI hstep hcall;have lQ:=kO.out;clear eG hab hx hstep hcall;go_wp2_with fail;refine jr.out.mono ?_;rintro e9 w1 ⟨rfl,hb1⟩;replace Hb:=af (aH Hb.out hb1);clear hb1 q0 q1 q2 q3 bB lQ;obtain⟨t,ht⟩:=aB (p (l,s,m,e));rw[ht]at eN⊢;clear ht;cases t with
    |true=>go_wp2;refine bodyPost_ret (results_tmp rfl _ _ _) rfl ⟨?_,Hb.out⟩;have h:=eN.out;rw[if_pos (by trivial)]at h;rw[h];rfl
    | false=>
      go_wp2;go_roundw;case rel=>exact⟨k+1,by omega,by go_num,by have h:=eN.out;rw[if_neg zd]at h;exact h,Hb.out⟩
      case measure=>simp[intOf];omega
  . obtain rfl:k=n:=by omega
    go_wp2;refine bodyPost_ret (results_tmp rfl _ _ _) rfl ⟨?_,Hb.out⟩;have h:=lR.out;rw[List.drop_of_length_le (by rw[Hn.out];exact Nat.le_refl _)]at h;rw[h];rfl
theorem aft (a:Option Addr)(n cap:Nat)(vals:List aO)(gf:Nat)(lb:Array Value)(p:aO->Bool)(w:World)(hn:vals.length=n)(hl:n<=1099511627776)(ha:At w a (vals.flatMap bf))
 (eg:∀args w,(callFunc gf args).run Tryz.prog w=.ok (.enter gf args) w)
 (hcl:∀x∈vals,∀W,Bw w W->Calls Tryz.prog gf (#[.agg #[.string (bs x.1),.bool x.2.1,.string (bs x.2.2.1),.int .i64 x.2.2.2]]++lb) W λe w'=>e=.returned (.bool (p x))/\Bw W w'):
 Calls Tryz.prog 185 #[.slice a n cap,.func (.func gf) #[] lb] w λe w'=>e=.returned (.bool (vals.any p))/\Bw w w':=by
 have h1:=NW a n cap vals gf lb p w hn hl ha eg hcl;rw[<-WT p vals 0];generalize kD p vals 0=i at*;have H1:=af h1;clear h1 hcl eg ha hn;have Hb:Hid (Bw w w):=Below.refl _ _;go_enter Tryz.func185,Tryz.ntmps185;go_wp2_with fail;refine(H1.out).mono ?_;rintro e w1 ⟨rfl,ae⟩;replace Hb:=ak Hb ae;clear ae;go_wp2;refine bodyPost_ret (v:=.bool (decide (0<=i))) (by simp[results,Tryz.results185,go_sem]) rfl ⟨rfl,?_⟩;(repeat first|exact Hb.out| (refine Below.setCell ?_ (by have:=Hb.out.size;first| (dsimp only;omega) | (show _<=_;omega) | (simp<;>omega)) _) | (refine Below.alloc ?_ zt _) |refine Below.drew ?_)
theorem aip (a:Option Addr)(n cap:Nat)(vals:List Pv)(gf:Nat)(lb:Array Value)(p:Pv->Bool)(w:World)(hn:vals.length=n)(hl:n<=1099511627776)(ha:At w a (vals.flatMap jm))
 (eg:∀args w,(callFunc gf args).run Tryz.prog w=.ok (.enter gf args) w)
 (hcl:∀x∈vals,∀W,Bw w W->Calls Tryz.prog gf (#[.agg #[.int .i64 x.V,.slice x.a x.n x.c]]++lb) W λe w'=>e=.returned (.bool (p x))/\Bw W w'):
 Calls Tryz.prog 211 #[.slice a n cap,.func (.func gf) #[] lb] w λe w'=>e=.returned (.int .i64 (kD p vals 0))/\Bw w w':=by
 obtain⟨Hn,Ha,gm,kO⟩:=cQ hn ha hcl eg;clear hn ha hcl eg;have Hb:Hid (Bw w w):=Below.refl _ _;go_enter Tryz.func211,Tryz.ntmps211;go_wp2_with fail;go_loopw[5,8] (λ_ i wr=>∃k:Nat,k<=n/\i=.int .i64 (k:Int)/\kD p vals 0=kD p (vals.drop k) k/\Bw w wr) (λ_ i _=>n-(intOf i).toNat);case atStart=>exact⟨0,Nat.zero_le _,rfl,rfl,Hb.out⟩
 case round=>
  clear Hb;obtain⟨k,hk,rfl,fX,pb⟩:=hrel;obtain⟨lR,Hb⟩:=aI fX pb;clear fX pb;by_cases hlt:k<n
  . have bG:k<vals.length:=by rw[Hn.out];exact hlt
    obtain⟨V,a1,n1,c1,hx⟩:∃V a1 n1 c1,vals[k]=⟨V,a1,n1,c1⟩:=⟨_,_,_,_,rfl⟩;obtain⟨b,o,hab,eG⟩:=(Ha.out.below Hb.out).arD k bG hx;obtain⟨q0,q1⟩:=eG.w2;have bB:=wX n cap k (k:Int) hab hlt rfl;have hcall:=gm.out _ (List.getElem_mem bG) wr Hb.out;have hstep:=WU p vals k k bG;rw[<-lR.out]at hstep;rw[hx]at hcall hstep;obtain⟨eN,jr⟩:=aI hstep hcall;have lQ:=kO.out;clear eG hab hx hstep hcall;go_wp2_with fail;refine jr.out.mono ?_;rintro e9 w1 ⟨rfl,hb1⟩;replace Hb:=af (aH Hb.out hb1);clear hb1 q0 q1 bB lQ;obtain⟨t,ht⟩:=aB (p ⟨V,a1,n1,c1⟩);rw[ht]at eN⊢;clear ht;cases t with
    |true=>go_wp2;refine bodyPost_ret (results_tmp rfl _ _ _) rfl ⟨?_,Hb.out⟩;have h:=eN.out;rw[if_pos (by trivial)]at h;rw[h];rfl
    | false=>
      go_wp2;go_roundw;case rel=>exact⟨k+1,by omega,by go_num,by have h:=eN.out;rw[if_neg zd]at h;exact h,Hb.out⟩
      case measure=>simp[intOf];omega
  . obtain rfl:k=n:=by omega
    go_wp2;refine bodyPost_ret (results_tmp rfl _ _ _) rfl ⟨?_,Hb.out⟩;have h:=lR.out;rw[List.drop_of_length_le (by rw[Hn.out];exact Nat.le_refl _)]at h;rw[h];rfl
theorem afu (a:Option Addr)(n cap:Nat)(vals:List Pv)(gf:Nat)(lb:Array Value)(p:Pv->Bool)(w:World)(hn:vals.length=n)(hl:n<=1099511627776)(ha:At w a (vals.flatMap jm))
 (eg:∀args w,(callFunc gf args).run Tryz.prog w=.ok (.enter gf args) w)
 (hcl:∀x∈vals,∀W,Bw w W->Calls Tryz.prog gf (#[.agg #[.int .i64 x.V,.slice x.a x.n x.c]]++lb) W λe w'=>e=.returned (.bool (p x))/\Bw W w'):
 Calls Tryz.prog 191 #[.slice a n cap,.func (.func gf) #[] lb] w λe w'=>e=.returned (.bool (vals.any p))/\Bw w w':=by
 have h1:=aip a n cap vals gf lb p w hn hl ha eg hcl;rw[<-WT p vals 0];generalize kD p vals 0=i at*;have H1:=af h1;clear h1 hcl eg ha hn;have Hb:Hid (Bw w w):=Below.refl _ _;go_enter Tryz.func191,Tryz.ntmps191;go_wp2_with fail;refine(H1.out).mono ?_;rintro e w1 ⟨rfl,ae⟩;replace Hb:=ak Hb ae;clear ae;go_wp2;refine bodyPost_ret (v:=.bool (decide (0<=i))) (by simp[results,Tryz.results191,go_sem]) rfl ⟨rfl,?_⟩;(repeat first|exact Hb.out| (refine Below.setCell ?_ (by have:=Hb.out.size;first| (dsimp only;omega) | (show _<=_;omega) | (simp<;>omega)) _) | (refine Below.alloc ?_ zt _) |refine Below.drew ?_)
end Go.Proofs.YtoopepmmepmfnaaGreatDoor
namespace Go.Proofs.YtoopepmmepmfnaaGreatDoor
open Go.RowKit
def eU (w:World)(base n:Nat)(R:List (List Dyadic))(k:Nat)(v:Value):Prop:=
 ∃vals:List Value,vals.length=k/\w.ownsRow base 49 1 v k vals/\(∀i (h:i<vals.length),w.ownsRow base 39 3 vals[i] n (dC (R.getD i [])))/\
  ∀i j (hi:i<vals.length) (hj:j<vals.length) g,vals[i].ownBlock=some g->vals[j].ownBlock=some g->i=j
theorem eU.nil (w:World)(base n:Nat)(R:List (List Dyadic)):eU w base n R 0 (.slice none 0 0):=
 ⟨[],rfl,World.ownsRow_nil _ _ _ _,λ_ h=>absurd h (Nat.not_lt_zero _),λ_ _ h=>absurd h (Nat.not_lt_zero _)⟩
theorem eU.below {w w':World}{base n k:Nat}{R:List (List Dyadic)}{v:Value}(h:eU w base n R k v)(hb:Bw w w'):eU w' base n R k v:=by obtain⟨vals,hl,ho,hi,hd⟩:=h;exact⟨vals,hl,ownsRow_below ho hb,λi h=>ownsRow_below (hi i h) hb,hd⟩
theorem eU.push {w w':World}{base n k:Nat}{R:List (List Dyadic)}{v v' x:Value}{vals:List Value}(hl:vals.length=k)(hov:w.ownsRow base 49 1 v k vals)(hi:∀i (h:i<vals.length),w.ownsRow base 39 3 vals[i] n (dC (R.getD i [])))
 (hd:∀i j (hi:i<vals.length) (hj:j<vals.length) g,vals[i].ownBlock=some g->vals[j].ownBlock=some g->i=j)
 (hx:w.ownsRow base 39 3 x n (dC (R.getD k []))) (pU:∀g,x.ownBlock=some g->∀i (h:i<vals.length),vals[i].ownBlock≠some g)
 (ho:w'.ownsRow base 49 1 v' (k+1) (vals++[x])) (hg:w.grownBy w' v.ownBlock):eU w' base n R (k+1) v':=by
 refine⟨_,by simp[hl],ho,λi h=>?_,λi j h1 h2 g e1 e2=>?_⟩
 . by_cases hk:i<vals.length
   . rw[List.getElem_append_left hk];exact(hi i hk).kept hg (Dk (hi i hk) hov zd)
   . have hik:i=k:=by simp at h;omega
     subst hik;rw[List.getElem_append_right zo];simp only[hl,Nat.sub_self,List.getElem_cons_zero];exact hx.kept hg (Dk hx hov zd)
 . by_cases k1:i<vals.length
   . rw[List.getElem_append_left k1]at e1;by_cases k2:j<vals.length
     . rw[List.getElem_append_left k2]at e2;exact hd i j k1 k2 g e1 e2
     . have hjk:j=k:=by simp at h2;omega
       subst hjk;rw[List.getElem_append_right zo]at e2;simp only[hl,Nat.sub_self,List.getElem_cons_zero]at e2;exact absurd e1 (pU g e2 i k1)
   . have hik:i=k:=by simp at h1;omega
     subst hik;rw[List.getElem_append_right zo]at e1;simp only[hl,Nat.sub_self,List.getElem_cons_zero]at e1;by_cases k2:j<vals.length
     . rw[List.getElem_append_left k2]at e2;exact absurd e2 (pU g e1 j k2)
     . simp at h2;omega
theorem eU.tbl {w:World}{base n k:Nat}{R:List (List Dyadic)}{v:Value}(h:eU w base n R k v)(hk:R.length=k)(hn:∀r∈R,r.length=n):∃a c,v=.slice a k c/\k<=c/\cF w a (R.map λr=>r.map canon):=by
 obtain⟨vals,hl,ho,hi,hd⟩:=h;obtain⟨a,c,hv,hat,_⟩:=eH ho;subst hv;refine⟨a,c,rfl,Ik ho,vals,by simp[hl,hk],hat,λi h1 h2=>?_⟩;obtain⟨a1,c1,e1,e2,_⟩:=eH (hi i h2);have hi1:i<R.length:=by simpa using h1
 have eg:R.getD i []=R[i]:=by simp[hi1]
 rw[eg]at e2;refine⟨a1,c1,?_,?_⟩
 . rw[e1];simp[hn _ (List.getElem_mem hi1)]
 . rw[List.getElem_map,<-Bt];exact e2
theorem afC (ds:List Dyadic)(j:Nat)(hj:j<ds.length):(dC ds)[j*3]?=some (.bool (ai (dN ds[j])))/\(dC ds)[j*3+1]?=some (.string (bs (nt (dN ds[j]).natAbs)))/\(dC ds)[j*3+2]?=some (.int .i64 (dE ds[j])):=by have h:=λi (hi:i<3)=>flat_get (λd=>cg (canon d)) 3 (λ_=>rfl) ds j i hj hi;unfold dC;exact⟨(h 0 zd),(h 1 zd),(h 2 zd)⟩
theorem eU.num {w:World}{base n L:Nat}{R:List (List Dyadic)}{v:Value}(h:eU w base n R L v)(i j:Nat)(hi:i<L)(hj:j<n)(hR:R.length=L)(hr:(R.getD i []).length=n):
 ∃go cap g c,v=.slice (some ⟨go,0,none⟩) L cap/\base<=go/\base<=g/\g≠go/\w.cell? ⟨go,i,none⟩=some (.slice (some ⟨g,0,none⟩) n c)/\
  bO w g (j*3) [.bool (ai (dN ((R.getD i []).getD j 0))),.string (bs (nt (dN ((R.getD i []).getD j 0)).natAbs)),.int .i64 (dE ((R.getD i []).getD j 0))]/\(∀o,w.frozen? ⟨g,o,none⟩=false)/\
  ∀y:Dyadic,eU (((w.setCell ⟨g,j*3,none⟩ (.bool (ai (dN y)))).setCell ⟨g,j*3+1,none⟩ (.string (bs (nt (dN y).natAbs)))).setCell ⟨g,j*3+2,none⟩ (.int .i64 (dE y))) base n (R.set i ((R.getD i []).set j y)) L v:=by
 obtain⟨vals,hl,ho,hv,hd⟩:=h;have hi2:i<vals.length:=by omega
 have hrow:=hv i hi2;have hxl:(dC (R.getD i [])).length=n*3:=by rw[afD,hr]
 obtain⟨a0,cap,rfl,_,_⟩:=eH ho;obtain⟨a1,c,e1,_,hab⟩:=eH hrow;rw[e1]at hrow;rcases ho.2 with⟨h1,_⟩ |⟨go,cap',cur,h1,sY,hgo,_⟩
 . simp at h1;omega
 simp only[Value.slice.injEq,true_and]at h1;obtain⟨rfl,rfl⟩:=h1;have hrow2:=hrow;rcases hrow.2 with⟨h1,_⟩ |⟨g,c',cur',h1,hbg,hgg,_⟩
 . simp at h1;omega
 simp only[Value.slice.injEq,true_and]at h1;obtain⟨rfl,rfl⟩:=h1;have hne:g≠go:=by rintro rfl;rw[hgo]at hgg;simp at hgg
 have hat:=afC (R.getD i []) j zo;have hg0:(R.getD i []).getD j 0=(R.getD i [])[j]'zo:=by rw[List.getD_eq_getElem?_getD,List.getElem?_eq_getElem zo];rfl
 have hc0:=jk hrow (j*3) zo;have hc1:=jk hrow (j*3+1) zo;have hc2:=jk hrow (j*3+2) zo;rw[<-List.getElem?_eq_getElem]at hc0 hc1 hc2;rw[hat.1]at hc0;rw[hat.2.1]at hc1;rw[hat.2.2]at hc2;refine⟨go,cap,g,c,rfl,sY,hbg,hne,?_,by rw[hg0];exact oM hc0 hc1 hc2,λo=>?_,λy=>?_⟩
 . rw[jk ho i zo,e1]
 . have h4:aj w g 39 cur'.toList:=by unfold aj;simpa using hgg
   exact h4.free o
 . refine⟨vals,hl,?_,λm hm=>?_,hd⟩
   . have hn:∀(o:Nat) (u:Value) (W:World),W.ownsRow base 49 1 (.slice (some ⟨go,0,none⟩) L cap) L vals->(W.setCell ⟨g,o,none⟩ u).ownsRow base 49 1 (.slice (some ⟨go,0,none⟩) L cap) L vals:=λo u W h=>ownsRow_setCell_other h (by simpa[Value.ownBlock]using hne.symm) _;exact hn _ _ _ (hn _ _ _ (hn _ _ _ ho))
   . by_cases jQ:m=i
     . subst jQ;have hs:(R.set m ((R.getD m []).set j y)).getD m []=(R.getD m []).set j y:=by rw[List.getD_eq_getElem?_getD,List.getElem?_set_self zo];rfl
       rw[hs,e1,<-afE];exact jl (jl (jl hrow _ _) _ _) _ _
     . have hs:(R.set i ((R.getD i []).set j y)).getD m []=R.getD m []:=by rw[List.getD_eq_getElem?_getD,List.getElem?_set_ne (λe=>jQ e.symm),<-List.getD_eq_getElem?_getD]
       rw[hs];have hno:vals[m].ownBlock≠some g:=λe=>jQ (hd m i hm hi2 g e (by rw[e1];rfl));exact ownsRow_setCell_other (ownsRow_setCell_other (ownsRow_setCell_other (hv m hm) hno _) hno _) hno _
end Go.Proofs.YtoopepmmepmfnaaGreatDoor
namespace Go.Proofs.YtoopepmmepmfnaaGreatDoor
end Go.Proofs.YtoopepmmepmfnaaGreatDoor
