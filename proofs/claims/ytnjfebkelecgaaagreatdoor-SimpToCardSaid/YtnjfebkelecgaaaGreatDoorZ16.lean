/- Package ogeeref01: Div. -/
import Derived.Test.YtnjfebkelecgaaaGreatDoorZ12
import Derived.Laws.AppendOwnNone
import Derived.Test.YtnjfebkelecgaaaGreatDoorZ7
set_option linter.all false
set_option maxRecDepth 100000
set_option maxHeartbeats 16000000
namespace Go.Proofs.YtnjfebkelecgaaaGreatDoor
open Go.RowKit
attribute [local go_sem ↓] Go.wp_at_zero Go.wp_at_succ
def anm (r c:Nat)(hc:c<=1):bd (2*r+c) 0=c/\∀j,bd (2*r+c) (j+1)=bd r j:=by unfold bd;refine⟨by simp;omega,λj=>?_⟩;rw[Nat.pow_succ',<-Nat.div_div_eq_div_mul,show(2*r+c)/2=r by omega]
def ahT (n r c:Nat)(hc:c<=1):[.int .u8 (c:Int)]++cZ n (bd r)=cZ (1+n) (bd (2*r+c)):=by
 obtain⟨h0,h1⟩:=anm r c hc;apply List.ext_getElem?;intro j;cases j with
 |zero=>rw[mG _ _ _ zo,h0];rfl
 | succ j=>
   rw[List.getElem?_append_right zm];simp only[List.length_singleton,Nat.add_sub_cancel];by_cases hj:j<n
   . rw[mG _ _ _ hj,mG _ _ _ zo,h1]
   . rw[List.getElem?_eq_none (by rw[Kp];omega),List.getElem?_eq_none (by rw[Kp];omega)]
def aul (W:World)(base:Nat)(e:TypeId)(x:Value)(hb:base<=W.heap.size):(W.alloc (.cells #[x] e)).ownsRow base e 1 (.slice (some ⟨W.heap.size,0,none⟩) 1 1) 1 [x]:=
 ⟨rfl,.inr ⟨W.heap.size,1,#[x],rfl,hb,heap_alloc_new W _,Nat.le_refl _,by simp[maxLen],rfl,rfl⟩⟩
def aaR (S u:Nat):(0<=dH S u)↔u<=S:=by
 unfold dH;by_cases h1:S<u
 . rw[if_pos h1];omega
 . rw[if_neg h1];by_cases h2:u<S
   . rw[if_pos h2];omega
   . rw[if_neg h2];omega
def Bv.cells {w:World}{x:Value}{n v:Nat}(h:Bv w x n v)(hn:0<n):∃b o cap,x=.slice (some ⟨b,o,none⟩) n cap/\∀j,j<n->w.cell? ⟨b,o+j,none⟩=some (.int .u8 (bd v j:Int)):=by
 rcases h.2 with⟨_,h2⟩ |⟨b,o,cap,h1,_,h3⟩
 . omega
 . exact⟨b,o,cap,h1,h3⟩
def Bv.aCj {w:World}{x:Value}{n v:Nat}(h:Bv w x n v){a:Addr}(hne:∀b o n c,x=.slice (some ⟨b,o,none⟩) n c->b≠a.block)(y:Value):Bv (w.setCell a y) x n v:=by
 refine⟨h.1,?_⟩;rcases h.2 with h|⟨b,o,cap,e,h1,hc⟩
 . exact .inl h
 . exact .inr ⟨b,o,cap,e,h1,λj hj=>gN (hne b o n cap e) (hc j hj)⟩
def ayr {ops:Array Oper}{rest:List Oper}{o:Oper}{a:Act}{Q:Exit->Act->World->Prop}(hgd:o.guard=none)(s x:Operand)
 (ho:o.op=.call {callee:=.builtin .append,args:=#[s,x],argTypes:=#[84,84]}) (W:World) (z:Value) (n r c:Nat) (hc:c<=1) (hn:n<=1099511627776) (hz:Bv W z n r)
 (hs:a.eval s=.slice (some ⟨W.heap.size,0,none⟩) 1 1) (hx:a.eval x=z)
 (h:∀v' w',Bv w' v' (1+n) (2*r+c)->Gk v' W.heap.size->Bw W w'->wpList Tryz.prog ops Q rest (a.put o.dst v') w'):wpList Tryz.prog ops Q (o::rest) a (W.alloc (.cells #[.int .u8 (c:Int)] 5)):=by
 obtain⟨i0,hi,hz0,hz1,hz2⟩:=info_parts Tryz.aCr;have hlt:2*r+c<2^(1+n):=by have:=hz.1;rw[Nat.add_comm 1 n,Nat.pow_succ];omega
 have hone:=aul W W.heap.size 5 (.int .u8 (c:Int)) (Nat.le_refl _);have hb0:Bw W (W.alloc (.cells #[.int .u8 (c:Int)] 5)):=zl;rcases hz.2 with⟨rfl,rfl⟩ |⟨b,oo,cap,rfl,h1,hcs⟩
 . refine wpList_append_own_none hgd s x 84 ho W.heap.size 5 i0 1 Tryz.underlying84 hi _ 1 _ hs hone hx ?_;refine h _ _ (Bv.aCt (base:=W.heap.size) (e:=5) ?_ hlt) (λb o n c e=>by cases e;exact Nat.le_refl _) hb0;rw[<-ahT 0 r c hc];exact hone
 . refine wpList_append_own _ hgd s x 84 ho W.heap.size 5 i0 (.int .u8 0) 1 1 Tryz.underlying84 hi hz0 hz1 hz2 rfl zd _ 1 _ hs hone ⟨b,oo,none⟩ n cap (cZ n (bd r)) hx (by rw[Kp,Nat.mul_one]) ?_ ?_ zx zo zm ?_
   . intro j u hj;have fS:j<n:=by
      rcases Nat.lt_or_ge j n with h|h
      . exact h
      . rw[List.getElem?_eq_none (by rw[Kp];exact h)]at hj;cases hj
     rw[mG _ _ _ fS]at hj;cases hj
     have e2:((⟨b,oo,none⟩:Addr).add j)=⟨b,oo+j,none⟩:=by simp[Addr.add]
     rw[e2];exact bg (hcs j fS)
   . intro u hu;unfold cZ at hu;rw[List.mem_map]at hu;obtain⟨j,_,rfl⟩:=hu;rfl
   . intro v' w' ho' hg' _;refine h _ _ (Bv.aCt (base:=W.heap.size) (e:=5) ?_ hlt) (λb o n c e=>dz ho' b (by rw[e];rfl)) (hb0.grown hg' zm (λj e=>dz hone j e));rw[<-ahT n r c hc];exact ho'
def avJ (l m:List UInt8)(w:World)(hl:l.length<=68719476736)(hm:m.length<=68719476736)(h0:0<nv m):
 Cv 162 #[ai l,ai m] w (.tuple #[ai (nt (nv l/nv m)),ai (nt (nv l%nv m)),aj true]):=by
 obtain⟨i0,hi,hz0,hz1,hz2⟩:=info_parts Tryz.aCr;have hL:=Nat.le_trans (gX (qQ l)) (show 8*l.length<=549755813888 by omega);have hU:=Nat.le_trans (gX (qQ m)) (show 8*m.length<=549755813888 by omega);have hb1:=rO l w hl;have hb2:=λW=>rO m W hm;generalize nv l=v at*;generalize nv m=u at*;have hUp:=Gw h0;have hLt:=sf v;generalize hLe:bT v=L at*;generalize hUe:bT u=U at*;obtain⟨H1,H2,yh,Yq⟩:=dP hb1 hb2 hLt hUe;clear hb1 hb2 hLt hLe hUe;have hmk:=sN (L:Int) L rfl zo;have hU0:((U:Int)==0)=false:=by simp;omega
 go_enter Tryz.func162,Tryz.ntmps162;go_wp2_with fail;refine H1.out.mono ?_;rintro e w1 ⟨⟨X,rfl,hX⟩,adm⟩;go_wp2_with fail;refine(H2.out w1).mono ?_;rintro e w2 ⟨⟨Y,rfl,hY⟩,DU⟩;obtain⟨HX,HY,Hw⟩:=cE (hX.below DU) hY (aO adm DU);clear hX hY adm DU;obtain⟨ax,cx,rfl⟩:=HX.out.len;obtain⟨ay,cy,rfl⟩:=HY.out.len;go_wp2_with fail;go_loopw[10,11] (λz i wr=>∃k:Nat,k<=L/\i=ah ((k:Int)-1)/\Bv wr z (bT (v/2^k%u)) (v/2^k%u)/\Gk z (w2.heap.size+1)/\aH wr w2.heap.size 5 (cZ L (λj=>if k<=j then bd (v/u) j else 0))/\Bw w2 wr) (λ_ i _=>(intOf i+1).toNat);case atStart=>
  refine⟨L,Nat.le_refl _,by go_num,?_,(λb o n c e=>by cases e),?_,zl⟩
  . rw[Nat.div_eq_of_lt yh.out,Nat.zero_mod];exact⟨by simp[bT],.inl ⟨rfl,rfl⟩⟩
  . have e:cZ L (λj=>if L<=j then bd (v/u) j else 0)=cZ L λ_=>0:=pI λj hj=>by rw[if_neg zo]
    rw[e];exact aH.new _ _ _
 case round=>
  obtain⟨k,hk,rfl,hz,hzl,hB,hb⟩:=hrel;by_cases kY:0<k
  . obtain⟨j,rfl⟩:∃j,k=j+1:=⟨k-1,by omega⟩;obtain⟨r,c,q,e1,e2,e3,e4,e5⟩:=asT v u j h0;have e6:=asS v u j;have hr:r<u:=by rw[<-e1];exact Nat.mod_lt _ h0
    have hc1:c<=1:=by rw[<-e2];exact uX v j
    rw[e1]at hz;rw[e5]at e6;obtain⟨S,hS⟩:=aI (2*r+c);rw[hS]at e4 e6;have uo:bT r<=549755813888:=Nat.le_trans (aaG (Nat.le_of_lt hr)) (by rw[Yq.out];omega);have hSb:bT S<=549755813889:=by rw[<-hS];exact Nat.le_trans (anu r c hc1) zo
    obtain⟨bx,ox,cx',qJ,mh⟩:=HX.out.cells zo;obtain⟨rfl,rfl⟩:ax=some ⟨bx,ox,none⟩/\cx=cx':=by simp only[Value.slice.injEq]at qJ;exact⟨qJ.1,qJ.2.2⟩
    have hcell:wr.cell? ⟨bx,ox+j,none⟩=some (.int .u8 (c:Int)):=by rw[<-e2];exact cell_later hb (mh j zo)
    have bC:=rK L cx j (j:Int) (rfl:(some ⟨bx,ox,none⟩:Option Addr)=_) zo rfl;rw[Nat.mul_one]at bC;obtain⟨Hz,HB,Hb,Lg,Lh,HS⟩:=fw hz hB hb e4 e6 hS;have hs0:=hb.size;have hqb:=hB.lt;have hj:((j+1:Nat):Int)-1=(j:Int):=by omega
    rw[hj];clear hz hB hb e1 e2 e3 e4 e5 e6 hS qJ mh hj kY;go_wp2_with (first| (at_builtin;refine ayr rfl _ _ rfl _ u10 (bT r) r c hc1 zo Hz.out rfl rfl ?_;intro v' w3 hv' yZ hb3));rw[HS.out]at hv';obtain⟨Hv',Qs,eo⟩:=cE hv' yZ hb3;have hs3:=hb3.size;clear hv' yZ hb3 hzl hcell bC;refine(WA v' (1+bT r) S w3 zo Hv'.out).mono ?_;rintro e w' ⟨⟨z,rfl,hz,hzl⟩,rfl⟩;obtain⟨cC,Rt⟩:=aU hz (hzl _ Qs.out);clear hz hzl;obtain⟨Yt,lD⟩:=aU (HY.out.below (aO Hb.out eo.out)) (HB.out.below eo.out);go_wp2_with fail;refine(agK z _ (bT S) U S u w3 cC.out Yt.out zo zo).mono ?_;rintro e w' ⟨rfl,rfl⟩;by_cases hge:u<=S
    . have hc0:0<=dH S u:=(aaR S u).2 hge;generalize dH S u=ci at*;rw[if_pos hge]at Lg Lh;go_wp2_with fail;refine(agQ z _ (bT S) U S u w3 cC.out Yt.out zo zo hge).mono ?_;rintro e w4 ⟨⟨t,rfl,ht,htl⟩,hb4⟩;obtain⟨Ht,AJ,lG⟩:=cE ht htl hb4;clear ht htl hb4;go_wp2_with fail;refine(WA t (bT S) (S-u) w4 zo Ht.out).mono ?_;rintro e w' ⟨⟨t2,rfl,ht2,aeR⟩,rfl⟩;obtain⟨LC,aaa⟩:=aU ht2 (aeR _ AJ.out);clear ht2 aeR;have hB4:=lD.out.below lG.out;have q0:w4.cell? ⟨w2.heap.size,j,none⟩=some (.int .u8 0):=by rw[hB4.cell,mG _ _ _ zo,if_neg zo];rfl
      have qf:w4.frozen? ⟨w2.heap.size,j,none⟩=false:=hB4.free _;have xa:=rK L L j (j:Int) (rfl:(some ⟨w2.heap.size,0,none⟩:Option Addr)=_) zo rfl;rw[Nat.mul_one,Nat.zero_add]at xa;have SZ:=hB4.set j (.int .u8 ((1:Nat):Int))
      rw[CB,pI (g:=λi=>if j<=i then bd (v/u) i else 0) λi hi=>by
       by_cases e:i=j
       . subst e;rw[if_pos rfl,if_pos (Nat.le_refl _),Lh.out];omega
       . rw[if_neg e];by_cases e2:j+1<=i
         . rw[if_pos e2,if_pos zo]
         . rw[if_neg e2,if_neg zo]]at SZ
      have fV:=az SZ;clear hB4 SZ;go_wp2;go_roundw;case rel=>
       refine⟨j,by omega,by go_num,?_,?_,fV.out,?_⟩
       . rw[Lg.out];exact LC.out.aCj (λb o n c e=>by have:=aaa.out b o n c e;dsimp only;omega) _
       . exact λb o n c e=>by have:=aaa.out b o n c e;omega
       . exact(aO (aO Hb.out eo.out) lG.out).setCell (Nat.le_refl _) _
      case measure=>simp[intOf]
    . have hc0:¬0<=dH S u:=fun h=>hge ((aaR S u).1 h);generalize dH S u=ci at*;rw[if_neg hge]at Lg Lh;have fV:Hid (aH w3 w2.heap.size 5 (cZ L (fun i=>if j<=i then bd (v/u) i else 0))):=by
       show aH _ _ _ _
       rw[pI (g:=λi=>if j+1<=i then bd (v/u) i else 0) λi hi=>by
        by_cases e:i=j
        . subst e;rw[if_pos (Nat.le_refl _),if_neg zo,Lh.out];omega
        . by_cases e2:j+1<=i
          . rw[if_pos e2,if_pos zo]
          . rw[if_neg e2,if_neg zo]]
       exact lD.out
      go_wp2;go_roundw;case rel=>exact⟨j,by omega,by go_num,by rw[Lg.out];exact cC.out,(λb o n c e=>by have:=Rt.out b o n c e;omega),fV.out,aO Hb.out eo.out⟩
      case measure=>simp[intOf]
  . obtain rfl:k=0:=by omega
    have hq:v/u<2^L:=Nat.lt_of_le_of_lt (Nat.div_le_self v u) yh.out;rw[pI (g:=bd (v/u)) λj hj=>by rw[if_pos (Nat.zero_le _)]]at hB;have Hq:=az (Bv.aCi hB hq);have e0:v/2^0%u=v%u:=by simp
    rw[e0]at hz;have uo:bT (v%u)<=549755813888:=Nat.le_trans (aaG (Nat.le_of_lt (Nat.mod_lt v h0))) (by rw[Yq.out];omega);obtain⟨Hz,Hb⟩:=aU hz hb;clear hB hq hz hb e0 hzl;go_wp2_with fail;refine(xO _ L (v/u) wr zo Hq.out).mono ?_;rintro e w3 ⟨rfl,hb3⟩;go_wp2_with fail;refine(xO u10 (bT (v%u)) (v%u) w3 zo (Hz.out.below hb3)).mono ?_;rintro e w4 ⟨rfl,hb4⟩;have jv:=az (aO Hw.out (aO Hb.out (aO hb3 hb4)));clear hb3 hb4;go_wp2;go_ret3
    exact⟨rfl,jv.out⟩
def avM (l:List UInt8)(w:World)(hl:l.length<=68719476736):
 Cv 123 #[.agg #[aj false,ai l]] w (.agg #[aj (false),ai (nt (nv l))]):=by
 have hb:=Nat.le_trans (gX (qQ l)) (show 8*l.length<=1099511627776 by omega);have h1:=rO l;obtain⟨v,hv⟩:=aI (nv l);rw[hv]at hb⊢;simp only[hv]at h1;obtain⟨m,hm⟩:=aI (nt v);have he:=wL m;obtain⟨t,ht⟩:=aI m.isEmpty;obtain⟨H1,Hm⟩:=aU h1 hm;clear h1 hv;rw[hm];rw[ht]at he;clear hm ht;obtain⟨W,cP,ag,aC⟩:=jq w 46 [aj false,ai l] 46 [aj false,.string ⟨#[]⟩];go_enter Tryz.func123,Tryz.ntmps123;go_wp2_with fail;refine(H1.out _ zo).mono ?_;rintro e w1 ⟨⟨y,rfl,hy⟩,au⟩;obtain⟨ag,aC⟩:=qX au ag;have Hy:=az hy;clear hy;go_wp2_with fail;refine aZ ag (xO y _ _ _ hb Hy.out) λw2 ag aC=>?_;rw[Hm.out];go_wp2;refine eH (bG w2 (w.heap.size+1) 0 [aj (false),ai m]) bM ?_;intro w9 hs0;have ag:=cH hs0 ag;simp only[cB,List.set]at ag;have aC:=qC ag;refine bodyPost_ret (v:=.agg #[aj (false),ai m]) (by simp[results,Tryz.results123,go_sem,aC]) rfl ⟨rfl,ag.1.out⟩
def avN (l:List UInt8)(w:World)(hl:l.length<=68719476736):
 Cv 123 #[.agg #[aj true,ai l]] w (.agg #[aj (!(nt (nv l)).isEmpty),ai (nt (nv l))]):=by
 have hb:=Nat.le_trans (gX (qQ l)) (show 8*l.length<=1099511627776 by omega);have h1:=rO l;obtain⟨v,hv⟩:=aI (nv l);rw[hv]at hb⊢;simp only[hv]at h1;obtain⟨m,hm⟩:=aI (nt v);have he:=wL m;obtain⟨t,ht⟩:=aI m.isEmpty;obtain⟨H1,Hm⟩:=aU h1 hm;clear h1 hv;rw[hm,ht];rw[ht]at he;clear hm ht;obtain⟨W,cP,ag,aC⟩:=jq w 46 [aj true,ai l] 46 [aj false,.string ⟨#[]⟩];go_enter Tryz.func123,Tryz.ntmps123;go_wp2_with fail;refine(H1.out _ zo).mono ?_;rintro e w1 ⟨⟨y,rfl,hy⟩,au⟩;obtain⟨ag,aC⟩:=qX au ag;have Hy:=az hy;clear hy;go_wp2_with fail;refine aZ ag (xO y _ _ _ hb Hy.out) λw2 ag aC=>?_;rw[Hm.out];go_wp2;refine eH (bG w2 (w.heap.size+1) 0 [aj (!t),ai m]) bM ?_;intro w9 hs0;have ag:=cH hs0 ag;simp only[cB,List.set]at ag;have aC:=qC ag;refine bodyPost_ret (v:=.agg #[aj (!t),ai m]) (by simp[results,Tryz.results123,go_sem,aC]) rfl ⟨rfl,ag.1.out⟩
def Kh (s:Bool)(l:List UInt8)(w:World)(hl:l.length<=68719476736):
 Cv 123 #[.agg #[aj s,ai l]] w (.agg #[aj (s&& !(nt (nv l)).isEmpty),ai (nt (nv l))]):=by
 cases s
 . exact avM l w hl
 . exact avN l w hl
def WC (n:Nat)(w:World)(hn:n<=9223372036854775807):
 Cv 83 #[ah (n:Int)] w (.agg #[aj false,ai (nt n)]):=by
 have h1:=λW=>avV n W (by rw[kq];omega);have H1:=az h1;clear h1;have hw:IntKind.u64.wrap (n:Int)=(n:Int):=by rw[IntKind.wrap_u64];omega
 obtain⟨m,hm⟩:=aI (nt n);rw[hm];have Hm:=az hm;clear hm;obtain⟨W,cP,ag,aC⟩:=gz w 46 [aj false,.string ⟨#[]⟩];go_enter Tryz.func83,Tryz.ntmps83;go_wp2_with fail;refine aZ ag (H1.out _) λw1 ag aC=>?_;rw[Hm.out];go_wp2;refine eH (bG w1 (w.heap.size) 0 [aj false,ai m]) bM ?_;intro w9 hs0;have ag:=cH hs0 ag;simp only[cB,List.set]at ag;have aC:=qC ag;refine bodyPost_ret (v:=.agg #[aj false,ai m]) (by simp[results,Tryz.results83,go_sem,aC]) rfl ⟨rfl,ag.1.out⟩
def agP (l:List UInt8)(w:World)(hl:l.length<=68719476736):
 Cv 163 #[ai l] w (ah (bT (nv l):Int)):=by
 go_enter Tryz.func163,Tryz.ntmps163;go_wp2_with fail;refine(rO l w hl).mono ?_;rintro e w1 ⟨⟨y,rfl,hy⟩,au⟩;obtain⟨a,cap,rfl⟩:=hy.len;have Hb:=az au;clear hy au;go_wp2;go_ret;exact⟨rfl,Hb.out⟩
def ag1 (s:Bool)(l:List UInt8)(w:World)(hl:l.length<=68719476736)(h0:nv l=0):
 Cv 128 #[.agg #[aj s,ai l]] w (ah 0):=by
 have h1:=agP l;rw[h0]at h1;have H1:=az h1;clear h1 h0;obtain⟨W,cP,ag,aC⟩:=gz w 46 [aj s,ai l];go_enter Tryz.func128,Tryz.ntmps128;go_wp2_with fail;refine aZ ag (H1.out _ hl) λw1 ag aC=>?_;rw[anv];go_wp2;go_ret;exact⟨rfl,ag.1.out⟩
def avO (s:Bool)(n:Nat)(w:World)(h0:0<n)(hl:(nt (2*n)).length<=68719476736):
 Cv 124 #[.agg #[aj s,ai (nt (2*n))],.agg #[aj false,ai (nt 2)]] w (.tuple #[.agg #[aj s,ai (nt n)],.agg #[aj false,.string (bs [])],aj true]):=by
 have hd:=λW=>avJ (nt (2*n)) (nt 2) W hl zd (by rw[jp];decide);simp only[jp]at hd;have e1:2*n/2=n:=by omega
 have e2:2*n%2=0:=by omega
 rw[e1,e2,Cn]at hd;have Ux:(nt n).length<=68719476736:=Nat.le_trans (jo (Nat.lt_of_le_of_lt (show n<=2*n by omega) (as0 (2*n)))) hl;have hf:=λW=>Kh s (nt n) W Ux;have hg:=λW=>Kh s [] W zd;have hs:=λW=>ag1 false [] W zd rfl;simp only[jp,zV,Cn,List.isEmpty_nil,Bool.not_true,Bool.and_false]at hf hg;have e3:(nt n).isEmpty=false:=by
  have:=Ou h0;cases h:nt n with
  |nil=>exact absurd h this
  |cons a b=>rfl
 rw[e3]at hf;simp only[Bool.not_false,Bool.and_true]at hf;generalize nt (2*n)=L at*;generalize nt n=M at*;generalize nt 2=T at*;obtain⟨Hd,Hf,Hg,Hs⟩:=dP hd hf hg hs;clear hd hf hg hs e1 e2 e3 hl Ux;have hne:(s !=false)=s:=by cases s<;>rfl
 obtain⟨W,cP,ag,aC⟩:=Kg w 46 [aj s,ai L] 46 [aj false,ai T] 46 [aj false,.string ⟨#[]⟩] 46 [aj false,.string ⟨#[]⟩];go_enter Tryz.func124,Tryz.ntmps124;go_wp2_with fail;refine aZ ag (Hd.out _) λw1 ag aC=>?_;go_wp2_with fail;refine aZ ag (Hf.out _) λw2 ag aC=>?_;obtain⟨W2,nV,bi,ag,aC⟩:=cM w2 ag 46 [aj s,ai M];go_wp2_with fail;refine aZ ag (Hg.out _) λw3 ag aC=>?_;obtain⟨W3,DK,bi,ag,aC⟩:=cM w3 ag 46 [aj false,.string (bs [])];go_wp2_with fail;refine aZ ag (Hs.out _) λw4 ag aC=>?_;go_wp2_with fail;have lp:=ag.2.2.2.2.2.1.out.lt;have lq:=ag.2.2.2.2.2.2.1.out.lt;obtain⟨Hv,Hu,Hb,Hx,Hy,Hp,Hq,_⟩:=ag;obtain⟨x0,x1⟩:=Hx.out.c2;obtain⟨y0,y1⟩:=Hy.out.c2;obtain⟨p0,fp0,p1,fp1⟩:=Hp.out.g2;obtain⟨q0,ib,q1,iL⟩:=Hq.out.g2;obtain⟨u0,u1⟩:=Hu.out.c2;obtain⟨v0,v1⟩:=Hv.out.c2;refine ez (λw'=>aV w' (w2.heap.size) 0 (aj s)/\aV w' (w2.heap.size) 1 (ai M)/\aV w' (w3.heap.size) 0 (aj false)/\aV w' (w3.heap.size) 1 (.string (bs []))) (λi=>Nat.blt i 3) [(0,true),(1,true),(2,false),(3,false),(4,false)] zk zk rfl zk zc ⟨u0,u1,v0,v1⟩ ?_;iterate 2 (refine pT rfl rfl ?_ (by intro w' ⟨q0,q1,q2,q3⟩;go_simp;try with_reducible rfl))
 refine aY rfl rfl (λK hK=>?_);go_simp;refine hK _ _ (λ_=>⟨(aQ zf (aQ zf u0)),(aQ zf (aQ zf u1)),(aQ zf (aQ zf v0)),(aQ zf (aQ zf v1))⟩) ?_
 refine cL (bG w4 (w.heap.size+1+1) 0 [aj s,ai M]) bM ?_;intro w5 hs;replace Hx:=kS Hx hs zo;replace Hy:=kS Hy hs zo;replace Hp:=vH Hp hs;replace Hq:=kS Hq hs zo;replace Hu:=kS Hu hs zo;replace Hv:=kS Hv hs zo;obtain⟨x0,x1⟩:=Hx.out.c2;obtain⟨y0,y1⟩:=Hy.out.c2;obtain⟨p0,fp0,p1,fp1⟩:=Hp.out.g2;obtain⟨q0,ib,q1,iL⟩:=Hq.out.g2;obtain⟨u0,u1⟩:=Hu.out.c2;obtain⟨v0,v1⟩:=Hv.out.c2;replace Hb:=bS Hb hs ZS;clear hs;refine aY rfl rfl (λK hK=>?_);go_simp;refine hK _ _ (λh=>absurd h zd) ?_
 refine cL (bG w5 (w.heap.size+1+1+1) 0 [aj false,.string (bs [])]) bM ?_;intro w6 hs;replace Hx:=kS Hx hs zo;replace Hy:=kS Hy hs zo;replace Hp:=kS Hp hs zo;replace Hq:=vH Hq hs;replace Hu:=kS Hu hs zo;replace Hv:=kS Hv hs zo;obtain⟨x0,x1⟩:=Hx.out.c2;obtain⟨y0,y1⟩:=Hy.out.c2;obtain⟨p0,fp0,p1,fp1⟩:=Hp.out.g2;obtain⟨q0,ib,q1,iL⟩:=Hq.out.g2;obtain⟨u0,u1⟩:=Hu.out.c2;obtain⟨v0,v1⟩:=Hv.out.c2;replace Hb:=bS Hb hs ZS;clear hs;refine aY rfl rfl (λK hK=>?_);go_simp;refine hK _ _ (λh=>absurd h zd) ?_
 simp only[bP];go_wp2;refine bodyPost_ret (v:=.tuple #[.agg #[aj s,ai M],.agg #[aj false,.string (bs [])],aj true]) (by simp[results,Tryz.results124,go_sem,p0,p1,q0,q1]) rfl ⟨rfl,Hb.out⟩
def cc (v u k:Nat):Nat:=(v%2^k+u%2^k)/2^k
def anY (v u:Nat):cc v u 0=0:=by simp[cc,Nat.mod_one]
def anW (v u k:Nat):cc v u k<=1:=by unfold cc;have h:0<2^k:=Nat.pow_pos zd;have h1:=Nat.mod_lt v h;have h2:=Nat.mod_lt u h;rw[<-Nat.lt_succ_iff,Nat.div_lt_iff_lt_mul h];omega
def anX (v u k:Nat):bd (v+u) k=(bd v k+bd u k+cc v u k)%2/\cc v u (k+1)=(bd v k+bd u k+cc v u k)/2:=by
 have hM:0<2^k:=Nat.pow_pos zd;have ha:=Nat.mod_lt v hM;have hb:=Nat.mod_lt u hM;have e1:v=2^k* (v/2^k)+v%2^k:=(Nat.div_add_mod v _).symm;have e2:u=2^k* (u/2^k)+u%2^k:=(Nat.div_add_mod u _).symm;have es:(v+u)/2^k=v/2^k+u/2^k+cc v u k:=by
  unfold cc;have:v+u=(v%2^k+u%2^k)+2^k* (v/2^k+u/2^k):=by rw[Nat.mul_add];omega
  rw[this,Nat.add_mul_div_left _ _ hM];omega
 have m1:v%2^(k+1)=v%2^k+2^k*bd v k:=by rw[Nat.pow_succ,Nat.mod_mul];rfl
 have m2:u%2^(k+1)=u%2^k+2^k*bd u k:=by rw[Nat.pow_succ,Nat.mod_mul];rfl
 constructor
 . unfold bd at*;rw[es];omega
 . have e3:cc v u (k+1)=((v%2^k+u%2^k)+2^k* (bd v k+bd u k))/2^k/2:=by rw[Nat.div_div_eq_div_mul,<-Nat.pow_succ];unfold cc;rw[m1,m2,Nat.mul_add];congr 1;omega
   rw[e3,Nat.add_mul_div_left _ _ hM];show(cc v u k+_)/2=_
   congr 1;omega
def ann (u p i:Nat):bd (u*2^p) i=if p<=i then bd u (i-p)else 0:=by
 unfold bd;by_cases h:p<=i
 . rw[if_pos h];obtain⟨j,rfl⟩:∃j,i=p+j:=⟨i-p,by omega⟩;rw[Nat.pow_add,<-Nat.div_div_eq_div_mul,Nat.mul_div_cancel _ (Nat.pow_pos zd),show p+j-p=j by omega]
 . rw[if_neg h];obtain⟨j,rfl⟩:∃j,p=i+1+j:=⟨p-i-1,by omega⟩;rw[show u*2^(i+1+j)=(u*2^j*2) *2^i by rw[Nat.pow_add,Nat.pow_add,Nat.pow_one];simp only[Nat.mul_assoc,Nat.mul_comm,Nat.mul_left_comm],Nat.mul_div_cancel _ (Nat.pow_pos zd)];omega
def WJ (x y:Value)(n m v u p:Nat)(w:World)(hx:Bv w x n v)(hy:Bv w y m u)(hn:n<=1099511627775)(hm:m+p<=1099511627775):
 Cl 185 #[x,y,ah (p:Int)] w λe w'=>(∃z,e=.returned z/\Bv w' z (max n (m+p)+1) (v+u*2^p))/\Bw w w':=by
 obtain⟨a,cap,qJ⟩:=hx.len;obtain⟨a',cap',JB⟩:=hy.len;have rE:=λW (hW:Bw w W) i (hi:i<=1099511627776)=>EF x n v i W (hx.below hW) hi zo;have hby:=λW (hW:Bw w W) i (hi:i<=1099511627776)=>EF y m u i W (hy.below hW) hi zo;obtain⟨L,hL⟩:=aI (max n (m+p)+1);obtain⟨U,hU⟩:=aI (u*2^p);have wE:Hid (v+U<2^L):=by
  show _<_
  have h1:v<2^(L-1):=Nat.lt_of_lt_of_le hx.1 (Nat.pow_le_pow_right zd zo);have h2:U<2^(L-1):=by rw[<-hU];have h3:u*2^p<2^m*2^p:=Nat.mul_lt_mul_of_pos_right hy.1 (Nat.pow_pos zd);rw[<-Nat.pow_add]at h3;exact Nat.lt_of_lt_of_le h3 (Nat.pow_le_pow_right zd zo)
  rw[show L=L-1+1 by omega,Nat.pow_succ];omega
 have hbU:∀i,bd U i=if p<=i then bd u (i-p)else 0:=λi=>by rw[<-hU];exact ann u p i
 have hLI:max (n:Int) ((m:Int)+(p:Int))+1=(L:Int):=by omega
 have hLb:L<=1099511627776:=by omega
 subst qJ;subst JB;have hmk:=sN (L:Int) L rfl zo;rw[hU,hL];obtain⟨Fj,uN,HbU⟩:=cE rE hby hbU;clear rE hby hx hy hbU hU hL;go_enter Tryz.func185,Tryz.ntmps185;go_wp2_with fail;go_loopw[8,9,10] (λb i _ wr=>∃k:Nat,k<=L/\i=ah (k:Int)/\b=.int .u8 (cc v U k:Int)/\aH wr w.heap.size 5 (cZ L (λj=>if j<k then bd (v+U) j else 0))/\Bw w wr) (λ_ i _ _=>L-(intOf i).toNat);case atStart=>
  refine⟨0,Nat.zero_le _,rfl,by rw[anY];rfl,?_,zl⟩;have e:cZ L (λj=>if j<0 then bd (v+U) j else 0)=cZ L λ_=>0:=pI λj hj=>by rw[if_neg zo]
  rw[e];exact aH.new _ _ _
 case round=>
  obtain⟨k,hk,rfl,rfl,hB,hb⟩:=hrel;by_cases hlt:k<L
  . have H1:=az (Fj.out wr hb k zo);obtain⟨hs,hs2⟩:=anX v U k;have hp1:=uX v k;have hq:=uX U k;have hr:=anW v U k;have UZ:=HbU.out k;have hcell:wr.cell? ⟨w.heap.size,k,none⟩=some (.int .u8 0):=by rw[hB.cell,mG _ _ _ hlt,if_neg zo];rfl
    have hfree:wr.frozen? ⟨w.heap.size,k,none⟩=false:=hB.free _;have bX:=hB.set k (.int .u8 ((bd (v+U) k:Nat):Int))
    rw[CB,pI (g:=λj=>if j<k+1 then bd (v+U) j else 0) λj hj=>by
     by_cases e:j=k
     . subst e;rw[if_pos rfl,if_pos zo]
     . rw[if_neg e];by_cases e2:j<k
       . rw[if_pos e2,if_pos zo]
       . rw[if_neg e2,if_neg zo]]at bX
    obtain⟨fp,Hb⟩:=aU bX (hb.setCell (p:=⟨w.heap.size,k,none⟩) (Nat.le_refl _) (.int .u8 ((bd (v+U) k:Nat):Int)));have H2:p<=k->Cl 202 #[.slice a' m cap',ah ((k-p:Nat):Int)] wr λe w'=>e=.returned (.int .u8 (bd U k:Int))/\wr=w':=λh=>by rw[UZ,if_pos h];exact uN.out wr hb (k-p) zo
    have hq0:¬p<=k->bd U k=0:=λh=>by rw[UZ,if_neg h]
    have bC:=rK L L k (k:Int) (rfl:(some ⟨w.heap.size,0,none⟩:Option Addr)=_) hlt rfl;rw[Nat.mul_one,Nat.zero_add]at bC;clear hB bX hb UZ;generalize bd v k=P at*;generalize bd U k=q at*;generalize Eg:cc v U k=r at*;generalize bd (v+U) k=z at*;obtain⟨H2,LA,ru⟩:=cE H2 hq0 hs2;clear hq0 hs2 Eg;obtain⟨S,hS⟩:=aI (P+q+r);have hS3:S<=3:=by omega
    have hw1:IntKind.u8.wrap ((P:Int)+(r:Int))=(P:Int)+(r:Int):=by rw[IntKind.wrap_u8];omega
    have hw2:IntKind.u8.wrap ((P:Int)+(r:Int)+(q:Int))=(S:Int):=by rw[IntKind.wrap_u8];omega
    have hand:bits .and .u8 (S:Int) 1=(z:Int):=by rw[RU S zo,hs,<-hS]
    obtain⟨HS,Hs⟩:=aU hS hs;clear hS hs;go_wp2_with fail;refine H1.out.mono ?_;rintro e w' ⟨rfl,rfl⟩;by_cases hpk:p<=k
    . have H3:=az (H2.out hpk);have uk:((k:Int)-(p:Int))=((k-p:Nat):Int):=by omega
      go_wp2_with fail;refine H3.out.mono ?_;rintro e w' ⟨rfl,rfl⟩;go_wp2;go_roundw;case rel=>refine⟨k+1,by omega,by go_num,?_,fp.out,Hb.out⟩;have h1:=ru.out;have h2:=HS.out;rw[h1];congr 1;omega
      case measure=>exact bH
    . have hq1:=LA.out hpk;subst hq1;have hw3:IntKind.u8.wrap ((P:Int)+(r:Int))=(S:Int):=by rw[hw1];have:=HS.out;omega
      clear hw1 hw2;go_wp2;go_roundw;case rel=>refine⟨k+1,by omega,by go_num,?_,fp.out,Hb.out⟩;have h1:=ru.out;have h2:=HS.out;rw[h1];congr 1;omega
      case measure=>exact bH
  . obtain rfl:k=L:=by omega
    rw[pI (g:=bd (v+U)) λj hj=>by rw[if_pos hj]]at hB;obtain⟨Hz,Hb⟩:=aU (Bv.aCi hB wE.out) hb;clear hB hb;go_wp2;go_ret;exact⟨⟨_,rfl,Hz.out⟩,Hb.out⟩
def avF (xs:List (List UInt8))(a:Option Addr)(cap:Nat)(w:World)(hl:∀l∈xs,l.length<=68719476736)(hx:xs.length<=1048576)
 (ha:At w a (xs.map λl=>ai l)):
 Cv 165 #[.slice a xs.length cap] w (ai (nt (ij xs))):=by
 obtain⟨Hl,Ha⟩:=aU hl ha;clear hl ha;go_enter Tryz.func165,Tryz.ntmps165;go_wp2_with fail;go_loopw[3,4] (λz i wr=>∃k n:Nat,k<=xs.length/\n<=549755813888+k/\i=ah (k:Int)/\Bv wr z n (ij (xs.take k))/\Bw w wr) (λ_ i _=>xs.length-(intOf i).toNat);case atStart=>exact⟨0,0,Nat.zero_le _,Nat.zero_le _,rfl,⟨by simp[ij],.inl ⟨rfl,rfl⟩⟩,Below.refl _ _⟩
 case round=>
  obtain⟨k,n,hk,hn,rfl,hz,hb⟩:=hrel;by_cases hlt:k<xs.length
  . have hne:(xs.map λl=>Value.string (bs l))≠[]:=by intro h0;have:=congrArg List.length h0;simp at this;subst this;simp at hlt
    obtain⟨b,o,hab,hcs⟩:=(Ha.out.below hb).get hne;have hcell:wr.cell? ⟨b,o+k,none⟩=some (.string (bs xs[k])):=by rw[hcs k (by simpa using hlt)];simp[hlt]
    have bC:=uu xs.length cap k (k:Int) hab hlt rfl;rw[Nat.mul_one]at bC;clear hcs hne;have mI:Hid (xs[k].length<=68719476736):=Hl.out _ (List.getElem_mem hlt);obtain⟨cu,kJ⟩:=aU (af8 xs k hlt) hab;clear hab;generalize xs[k]=x at*;have rE:bT (nv x)<=549755813888:=Nat.le_trans (gX (qQ x)) (by have:=mI.out;omega);obtain⟨Hz,Hb⟩:=aU hz hb;clear hz hb;go_wp2_with fail;refine(rO x _ mI.out).mono ?_;rintro e w1 ⟨⟨y,rfl,hy⟩,hb1⟩;obtain⟨Hy,cm⟩:=aU hy hb1;clear hy hb1;go_wp2_with fail;refine(WJ u3 y n (bT (nv x)) (ij (xs.take k)) (nv x) 0 w1 (Hz.out.below cm.out) Hy.out zo zo).mono ?_;rintro e w2 ⟨⟨z,rfl,hz⟩,hb2⟩;obtain⟨cC,cQ⟩:=aU hz hb2;clear hz hb2;go_wp2;go_roundw;case rel=>have h:=cC.out;rw[Nat.pow_zero,Nat.mul_one,<-cu.out]at h;exact⟨k+1,_,by omega,by omega,by go_num,h,aO Hb.out (aO cm.out cQ.out)⟩
    case measure=>exact bH
  . obtain rfl:k=xs.length:=by omega
    rw[List.take_length]at hz;obtain⟨Hz,Hb⟩:=aU hz hb;clear hz hb;go_wp2_with fail;refine(xO u3 n (ij xs) wr zo Hz.out).mono ?_;rintro e w1 ⟨rfl,hb1⟩;have cm:=az hb1;clear hb1;go_wp2;go_ret;exact⟨rfl,aO Hb.out cm.out⟩
def agJ (l m:List UInt8)(w:World)(hl:l.length<=68719476736)(hm:m.length<=68719476736):
 Cv 190 #[ai l,ai m] w (ah (dH (nv l) (nv m))):=by
 have hbl:=Nat.le_trans (gX (qQ l)) (show 8*l.length<=549755813888 by omega);have Ix:=Nat.le_trans (gX (qQ m)) (show 8*m.length<=549755813888 by omega);go_enter Tryz.func190,Tryz.ntmps190;go_wp2_with fail;refine(rO l w hl).mono ?_;rintro e w1 ⟨⟨y,rfl,hy⟩,hb1⟩;obtain⟨Hy,cm⟩:=aU hy hb1;clear hy hb1;go_wp2_with fail;refine(rO m w1 hm).mono ?_;rintro e w2 ⟨⟨z,rfl,hz⟩,hb2⟩;obtain⟨Hz,cQ⟩:=aU hz hb2;clear hz hb2;go_wp2_with fail;refine(agK y z _ _ (nv l) (nv m) w2 (Hy.out.below cQ.out) Hz.out zo zo).mono ?_;rintro e w' ⟨rfl,rfl⟩;go_wp2;go_ret;exact⟨rfl,aO cm.out cQ.out⟩
def aaS (S u:Nat):dH S u<0↔S<u:=by
 unfold dH;by_cases h1:S<u
 . rw[if_pos h1];omega
 . rw[if_neg h1];by_cases h2:u<S
   . rw[if_pos h2];omega
   . rw[if_neg h2];omega
def awq (l m:List UInt8)(w:World)(hl:l.length<=68719476736)(hm:m.length<=68719476736)(h:nv l<nv m):
 Cv 166 #[ai l,ai m] w (.tuple #[.string ⟨#[]⟩,aj false]):=by
 have hc:=(aaS (nv l) (nv m)).2 h;have H1:=az (agJ l m w hl hm);clear h;generalize dH (nv l) (nv m)=c at*;go_enter Tryz.func166,Tryz.ntmps166;go_wp2_with fail;refine H1.out.mono ?_;rintro e w1 ⟨rfl,hb1⟩;have cm:=az hb1;clear hb1;go_wp2;go_ret2
 exact⟨rfl,cm.out⟩
def ag2 (l m:List UInt8)(w:World)(hl:l.length<=68719476736)(hm:m.length<=68719476736)(h:nv m<=nv l):
 Cv 166 #[ai l,ai m] w (.tuple #[ai (nt (nv l-nv m)),aj true]):=by
 have hc:¬dH (nv l) (nv m)<0:=λh2=>by have:=(aaS (nv l) (nv m)).1 h2;omega
 have hbl:=Nat.le_trans (gX (qQ l)) (show 8*l.length<=549755813888 by omega);have Ix:=Nat.le_trans (gX (qQ m)) (show 8*m.length<=549755813888 by omega);obtain⟨H1,H2,H3⟩:=cE (agJ l m w hl hm) (λW=>rO l W hl) (λW=>rO m W hm);generalize dH (nv l) (nv m)=c at*;go_enter Tryz.func166,Tryz.ntmps166;go_wp2_with fail;refine H1.out.mono ?_;rintro e w1 ⟨rfl,hb1⟩;have cm:=az hb1;clear hb1;go_wp2_with fail;refine(H2.out w1).mono ?_;rintro e w2 ⟨⟨y,rfl,hy⟩,hb2⟩;obtain⟨Hy,cQ⟩:=aU hy hb2;clear hy hb2;go_wp2_with fail;refine(H3.out w2).mono ?_;rintro e w3 ⟨⟨z,rfl,hz⟩,hb3⟩;obtain⟨Hz,eo⟩:=aU hz hb3;clear hz hb3;go_wp2_with fail;refine(agQ y z _ _ (nv l) (nv m) w3 (Hy.out.below eo.out) Hz.out zo zo h).mono ?_;rintro e w4 ⟨⟨d,rfl,hd,_⟩,hb4⟩;obtain⟨Hd,lG⟩:=aU hd hb4;clear hd hb4;go_wp2_with fail;refine(xO d _ (nv l-nv m) w4 zo Hd.out).mono ?_;rintro e w5 ⟨rfl,dK⟩;have eP:=az dK;clear dK;go_wp2;go_ret2
 exact⟨rfl,aO cm.out (aO cQ.out (aO eo.out (aO lG.out eP.out)))⟩
def EH (s:Bool)(l:List UInt8)(Z:Int)(hZ:iv s l=Z)(w:World)(hl:l.length<=68719476736):
 Cv 123 #[.agg #[aj s,ai l]] w (.agg #[aj (aK Z),ai (nt Z.natAbs)]):=by
 have h:=Kh s l w hl;rw[<-Vx,<-oh s l,hZ]at h;exact h
def awn (s:Bool)(l:List UInt8)(w:World)(hl:l.length<=68719476736):
 Cv 128 #[.agg #[aj s,ai l]] w (ah (fU (iv s l))):=by
 by_cases h0:nv l=0
 . have e:fU (iv s l)=0:=by unfold iv;rw[h0];cases s<;>rfl
   rw[e];exact ag1 s l w hl h0
 . have h1:=agP l;have hbp:=Gw (v:=nv l) zo;have e:fU (iv s l)=if s then-1 else 1:=by unfold iv fU;cases s<;>simp<;>omega
   rw[e];generalize bT (nv l)=B at*;have hB:((B:Int)==0)=false:=by simp;omega
   have H1:=az h1;clear h1 e h0;obtain⟨W,cP,ag,aC⟩:=gz w 46 [aj s,ai l];go_enter Tryz.func128,Tryz.ntmps128;go_wp2_with fail;refine aZ ag (H1.out _ hl) λw1 ag aC=>?_;cases s with
   |false=>go_wp2;go_ret;exact⟨rfl,ag.1.out⟩
   |true=>go_wp2;go_ret;exact⟨rfl,ag.1.out⟩
def awd (s:Bool)(l m:List UInt8)(Z:Int)(hZ:iv s l+iv s m=Z)(w:World)(hl:l.length<=1048576)(hm:m.length<=1048576):
 Cv 131 #[.agg #[aj s,ai l],.agg #[aj s,ai m]] w (.agg #[aj (aK Z),ai (nt Z.natAbs)]):=by
 have es:ij [l,m]=nv l+nv m:=by simp[ij]
 have ha:∀W b,At W (some ⟨b,0,none⟩) [ai l,ai m]->Cv 165 #[.slice (some ⟨b,0,none⟩) 2 2] W (ai (nt (nv l+nv m))):=by intro W b h;rw[<-es];exact avF [l,m] (some ⟨b,0,none⟩) 2 W (by intro x hx;simp at hx;rcases hx with rfl|rfl<;>omega) (by show 2<=1048576;decide) h
 have hlen:(nt (nv l+nv m)).length<=68719476736:=by have h1:=gw l;have h2:=gw m;obtain⟨N,hN⟩:=aI (max l.length m.length);refine Nat.le_trans (jo (k:=N+1) ?_) zo;have h3:256^l.length<=256^N:=Nat.pow_le_pow_right zd zo;have h4:256^m.length<=256^N:=Nat.pow_le_pow_right zd zo;rw[Nat.pow_succ];omega
 have hf:=λW=>EH s (nt (nv l+nv m)) Z (by rw[<-hZ,pu];unfold iv;cases s<;>simp<;>omega) W hlen;obtain⟨Ha,Hf⟩:=aU ha hf;clear ha hf hlen es hZ;generalize nt (nv l+nv m)=S at*;obtain⟨W,cP,ag,aC⟩:=uD w 46 [aj s,ai l] 46 [aj s,ai m] 46 [aj false,.string ⟨#[]⟩];go_enter Tryz.func131,Tryz.ntmps131;go_wp2_with fail;refine dG 10 ag (dD 11 0x1412110e0c0b0907050301) ?_;refine bU ?_;refine Aa 9 [ai l,ai m] ag λW1 bi ag=>?_;refine cz ag (Ha.out _ _ (At.aCi ag.1.out)) λw2 ag=>?_;refine bU ?_;refine cz ag (Hf.out _) λw3 ag=>?_;have aC:=qC ag;refine qOp λK hK=>?_;go_simp;refine hK _ _ (λh=>absurd h zd) ?_
 refine cL (bG w3 (w.heap.size+1+1) 0 [aj (aK Z),ai (nt Z.natAbs)]) bM ?_;intro w4 hs0;have ag:=cH hs0 ag;simp only[cB,List.set]at ag;have aC:=qC ag;refine dF ag λaC=>?_;have Hb:=ag.2.1;have r0:w4.cell? ⟨w.heap.size+1+1,0,none⟩=some (aj (aK Z)):=ag.2.2.2.2.1.out.cell 0;have r1:w4.cell? ⟨w.heap.size+1+1,1,none⟩=some (ai (nt Z.natAbs)):=ag.2.2.2.2.1.out.cell 1;go_wp2;exact bodyPost_ret (v:=.agg #[aj (aK Z),ai (nt Z.natAbs)]) (by simp[results,Tryz.results131,go_sem,r0,r1,aC]) rfl ⟨rfl,dt⟩
def awb (s:Bool)(l m:List UInt8)(Z:Int)(hZ:iv s l+iv (!s) m=Z)(h:nv m<=nv l)(w:World)(hl:l.length<=1048576)(hm:m.length<=1048576):
 Cv 131 #[.agg #[aj s,ai l],.agg #[aj (!s),ai m]] w (.agg #[aj (aK Z),ai (nt Z.natAbs)]):=by
 have ha:=λW=>ag2 l m W zo zo h;have hlen:(nt (nv l-nv m)).length<=68719476736:=by have h1:=gw l;refine Nat.le_trans (jo (k:=l.length) zo) zo
 have hf:=λW=>EH s (nt (nv l-nv m)) Z (by rw[<-hZ,pu];unfold iv;cases s<;>simp<;>omega) W hlen;obtain⟨Ha,Hf⟩:=aU ha hf;clear ha hf hlen hZ h;generalize nt (nv l-nv m)=S at*;have hne:(s== !s)=false:=by cases s<;>rfl
 obtain⟨t,ht⟩:=aI (!s);rw[ht]at hne⊢;obtain⟨W,cP,ag,aC⟩:=uD w 46 [aj s,ai l] 46 [aj t,ai m] 46 [aj false,.string ⟨#[]⟩];go_enter Tryz.func131,Tryz.ntmps131;go_wp2_with fail;refine aZ ag (Ha.out _) λw1 ag aC=>?_;go_wp2_with fail;refine aZ ag (Hf.out _) λw2 ag aC=>?_;go_wp2;refine eH (bG w2 (w.heap.size+1+1) 0 [aj (aK Z),ai (nt Z.natAbs)]) bM ?_;intro w9 hs0;have ag:=cH hs0 ag;simp only[cB,List.set]at ag;have aC:=qC ag;refine bodyPost_ret (v:=.agg #[aj (aK Z),ai (nt Z.natAbs)]) (by simp[results,Tryz.results131,go_sem,aC]) rfl ⟨rfl,ag.1.out⟩
def awc (s:Bool)(l m:List UInt8)(Z:Int)(hZ:iv s l+iv (!s) m=Z)(h:nv l<nv m)(w:World)(hl:l.length<=1048576)(hm:m.length<=1048576):
 Cv 131 #[.agg #[aj s,ai l],.agg #[aj (!s),ai m]] w (.agg #[aj (aK Z),ai (nt Z.natAbs)]):=by
 have ha:=λW=>awq l m W zo zo h;have hb:=λW=>ag2 m l W zo zo (Nat.le_of_lt h);have hlen:(nt (nv m-nv l)).length<=68719476736:=by have h1:=gw m;refine Nat.le_trans (jo (k:=m.length) zo) zo
 have hf:=λW=>EH (!s) (nt (nv m-nv l)) Z (by rw[<-hZ,pu];unfold iv;cases s<;>simp<;>omega) W hlen;obtain⟨Ha,Hs,Hf⟩:=cE ha hb hf;clear ha hb hf hlen hZ h;generalize nt (nv m-nv l)=S at*;have hne:(s== !s)=false:=by cases s<;>rfl
 obtain⟨t,ht⟩:=aI (!s);rw[ht]at hne Hf⊢;obtain⟨W,cP,ag,aC⟩:=uD w 46 [aj s,ai l] 46 [aj t,ai m] 46 [aj false,.string ⟨#[]⟩];go_enter Tryz.func131,Tryz.ntmps131;go_wp2_with fail;refine aZ ag (Ha.out _) λw1 ag aC=>?_;go_wp2_with fail;refine aZ ag (Hs.out _) λw2 ag aC=>?_;go_wp2_with fail;refine aZ ag (Hf.out _) λw3 ag aC=>?_;go_wp2;refine eH (bG w3 (w.heap.size+1+1) 0 [aj (aK Z),ai (nt Z.natAbs)]) bM ?_;intro w9 hs0;have ag:=cH hs0 ag;simp only[cB,List.set]at ag;have aC:=qC ag;refine bodyPost_ret (v:=.agg #[aj (aK Z),ai (nt Z.natAbs)]) (by simp[results,Tryz.results131,go_sem,aC]) rfl ⟨rfl,ag.1.out⟩
def awa (s:Bool)(l:List UInt8)(t:Bool)(m:List UInt8)(Z:Int)(hZ:iv s l+iv t m=Z)(w:World)(hl:l.length<=1048576)(hm:m.length<=1048576):
 Cv 131 #[.agg #[aj s,ai l],.agg #[aj t,ai m]] w (.agg #[aj (aK Z),ai (nt Z.natAbs)]):=by
 by_cases h:s=t
 . subst h;exact awd s l m Z hZ w hl hm
 . obtain rfl:t= !s:=by cases s<;>cases t<;>simp_all
   by_cases h2:nv l<nv m
   . exact awc s l m Z hZ h2 w hl hm
   . exact awb s l m Z hZ zo w hl hm
def awm (l:List UInt8)(p:Nat)(w:World)(hl:l.length<=68719476736)(hp:p<=274877906944):
 Cv 167 #[ai l,ah (p:Int)] w (ai (nt (nv l*2^p))):=by
 have rE:bT (nv l)<=549755813888:=Nat.le_trans (gX (qQ l)) zo;have hmx:max (p:Int) 0=(p:Int):=by omega
 have Hb:=hbz w;go_enter Tryz.func167,Tryz.ntmps167;go_wp2_with fail;refine(rO l _ hl).mono ?_;rintro e w1 ⟨⟨y,rfl,hy⟩,hb1⟩;obtain⟨Hy,cm⟩:=aU hy hb1;clear hy hb1;go_wp2_with fail;refine(WJ (.slice none 0 0) y 0 (bT (nv l)) 0 (nv l) p w1 ⟨by simp,.inl ⟨rfl,rfl⟩⟩ Hy.out zo zo).mono ?_;rintro e w2 ⟨⟨z,rfl,hz⟩,hb2⟩;rw[Nat.zero_add]at hz;obtain⟨Hz,cQ⟩:=aU hz hb2;clear hz hb2;go_wp2_with fail;refine(xO z _ (nv l*2^p) w2 zo Hz.out).mono ?_;rintro e w3 ⟨rfl,hb3⟩;have eo:=az hb3;clear hb3;go_wp2;go_ret;exact⟨rfl,aO cm.out (aO cQ.out eo.out)⟩
def atl (v k:Nat):v%2^(k+1)=v%2^k+bd v k*2^k:=by unfold bd;rw[Nat.pow_succ,Nat.mod_mul,Nat.mul_comm]
def avS (l m:List UInt8)(w:World)(hl:l.length<=17179869184)(hm:m.length<=17179869184):
 Cv 159 #[ai l,ai m] w (ai (nt (nv l*nv m))):=by
 have hbl:bT (nv l)<=137438953472:=Nat.le_trans (gX (qQ l)) zo;have Ix:bT (nv m)<=137438953472:=Nat.le_trans (gX (qQ m)) zo;have hvl:=sf (nv l);obtain⟨V,hV⟩:=aI (nv l);obtain⟨U,hU⟩:=aI (nv m);have h1:=λW=>rO l W zo;have h2:=λW=>rO m W zo;rw[hV]at hbl hvl h1⊢;rw[hU]at Ix h2⊢;obtain⟨N,hN⟩:=aI (bT V);obtain⟨M,hM⟩:=aI (bT U);rw[hN]at hbl hvl h1;rw[hM]at Ix h2;obtain⟨H1,H2,mP⟩:=cE h1 h2 hvl;clear h1 h2 hvl hV hU hN hM hl hm;have Hb:=hbz w;go_enter Tryz.func159,Tryz.ntmps159;go_wp2_with fail;refine(H1.out _).mono ?_;rintro e w1 ⟨⟨x,rfl,hx⟩,hb1⟩;obtain⟨Hx,cm⟩:=aU hx hb1;clear hx hb1;go_wp2_with fail;refine(H2.out _).mono ?_;rintro e w2 ⟨⟨y,rfl,hy⟩,hb2⟩;obtain⟨tG,Hy,cQ⟩:=cE (Hx.out.below hb2) hy (aO cm.out hb2);clear hy hb2 cm Hx;obtain⟨a,cap,rfl⟩:=tG.out.len;go_wp2_with fail;go_loopw[7,8] (λz i wr=>∃k n:Nat,k<=N/\n<=M+k/\i=ah (k:Int)/\Bv wr z n (V%2^k*U)/\Bw w2 wr) (λ_ i _=>N-(intOf i).toNat);case atStart=>exact⟨0,0,Nat.zero_le _,Nat.zero_le _,rfl,⟨by simp[Nat.mod_one],.inl ⟨rfl,rfl⟩⟩,Below.refl _ _⟩
 case round=>
  obtain⟨k,n,hk,hn,rfl,hz,hb⟩:=hrel;by_cases hlt:k<N
  . have hxk:=tG.out.below hb;rcases hxk.2 with⟨h,h0⟩ |⟨b,o,cap',h,hcap,hc⟩
    . omega
    simp only[Value.slice.injEq,true_and]at h;obtain⟨rfl,rfl⟩:=h;have hcell:=hc k hlt;have bC:=rK N cap k (k:Int) (rfl:(some ⟨b,o,none⟩:Option Addr)=_) hlt rfl;rw[Nat.mul_one]at bC;have hst:=atl V k;obtain⟨Hz,Hb,hyk⟩:=cE hz hb (Hy.out.below hb);clear hz hb hc hxk;rcases(show bd V k=0\/bd V k=1 by unfold bd;omega)with hd|hd
    . have hd':((bd V k:Int)==1)=false:=by simp[hd]
      rw[hd,Nat.zero_mul,Nat.add_zero]at hst;have cu:=az hst;clear hst hd;go_wp2;go_roundw;case rel=>exact⟨k+1,n,by omega,by omega,by go_num,by rw[cu.out];exact Hz.out,Hb.out⟩
      case measure=>exact bH
    . have hd':((bd V k:Int)==1)=true:=by simp[hd]
      rw[hd,Nat.one_mul]at hst;have cu:=az hst;clear hst hd;go_wp2_with fail;refine(WJ u7 y n M (V%2^k*U) U k wr Hz.out hyk.out zo zo).mono ?_;rintro e w4 ⟨⟨z,rfl,hz⟩,hb4⟩;obtain⟨Hz4,lG⟩:=aU hz hb4;clear hz hb4;go_wp2;go_roundw;case rel=>refine⟨k+1,max n (M+k)+1,by omega,by omega,by go_num,?_,aO Hb.out lG.out⟩;rw[cu.out,Nat.add_mul,Nat.mul_comm (2^k) U];exact Hz4.out
      case measure=>exact bH
  . obtain rfl:k=N:=by omega
    have Ij:V%2^k=V:=Nat.mod_eq_of_lt mP.out;rw[Ij]at hz;obtain⟨Hz,Hb⟩:=aU hz hb;clear hz hb Ij;go_wp2_with fail;refine(xO u7 n (V*U) wr zo Hz.out).mono ?_;rintro e w4 ⟨rfl,hb4⟩;have lG:=az hb4;clear hb4;go_wp2;go_ret;exact⟨rfl,aO cQ.out (aO Hb.out lG.out)⟩
def aga (l m:List UInt8):(nt (nv l*nv m)).length<=l.length+m.length:=by refine jo ?_;rw[Nat.pow_add];have h1:=gw l;have h2:=gw m;exact Nat.mul_lt_mul_of_lt_of_le h1 (Nat.le_of_lt h2) zo
def agb (l:List UInt8)(p:Nat):(nt (nv l*2^p)).length<=l.length+p:=by refine jo ?_;rw[Nat.pow_add];have h1:=gw l;have h2:2^p<=256^p:=Nat.pow_le_pow_left zd p;exact Nat.mul_lt_mul_of_lt_of_le h1 h2 (Nat.pow_pos zd)
def avT (s:Bool)(l:List UInt8)(Z:Int)(hZ: -iv s l=Z)(w:World)(hl:l.length<=1048576):
 Cv 189 #[.agg #[aj s,ai l]] w (.agg #[aj (aK Z),ai (nt Z.natAbs)]):=by
 have hf:=λW=>EH (!s) l Z (by rw[<-hZ];unfold iv;cases s<;>simp) W zo;have Hf:=az hf;clear hf hZ;generalize Z.natAbs=Y at*;generalize aK Z=t at*;obtain⟨W,cP,ag,aC⟩:=jq w 46 [aj s,ai l] 46 [aj false,.string ⟨#[]⟩];go_enter Tryz.func189,Tryz.ntmps189;go_wp2_with fail;refine aZ ag (Hf.out _) λw1 ag aC=>?_;go_wp2;refine eH (bG w1 (w.heap.size+1) 0 [aj t,ai (nt Y)]) bM ?_;intro w9 hs0;have ag:=cH hs0 ag;simp only[cB,List.set]at ag;have aC:=qC ag;refine bodyPost_ret (v:=.agg #[aj t,ai (nt Y)]) (by simp[results,Tryz.results189,go_sem,aC]) rfl ⟨rfl,ag.1.out⟩
def awu (s:Bool)(l:List UInt8)(t:Bool)(m:List UInt8)(Z:Int)(hZ:iv s l*iv t m=Z)(w:World)(hl:l.length<=524288)(hm:m.length<=524288):
 Cv 122 #[.agg #[aj s,ai l],.agg #[aj t,ai m]] w (.agg #[aj (aK Z),ai (nt Z.natAbs)]):=by
 have hf:=λW=>EH (!(s==t)) (nt (nv l*nv m)) Z (by rw[<-hZ,pu];unfold iv;cases s<;>cases t<;>simp[Int.neg_mul,Int.mul_neg]) W (by have:=aga l m;omega);have fT:=λW=>avS l m W zo zo;obtain⟨Hf,Hm⟩:=aU hf fT;clear hf fT hZ;generalize Z.natAbs=Y at*;generalize aK Z=v at*;generalize nt (nv l*nv m)=S at*;obtain⟨W,cP,ag,aC⟩:=uD w 46 [aj s,ai l] 46 [aj t,ai m] 46 [aj false,.string ⟨#[]⟩];go_enter Tryz.func122,Tryz.ntmps122;go_wp2_with fail;refine dG 12 ag (dD 13 0x18161512110f0d0b0907050301) ?_;refine bU ?_;refine cz ag (Hm.out _) λw1 ag=>?_;refine bU ?_;refine cz ag (Hf.out _) λw2 ag=>?_;have aC:=qC ag;refine qOp λK hK=>?_;go_simp;refine hK _ _ (λh=>absurd h zd) ?_
 refine cL (bG w2 (w.heap.size+1+1) 0 [aj v,ai (nt Y)]) bM ?_;intro w9 hs0;have ag:=cH hs0 ag;simp only[cB,List.set]at ag;have aC:=qC ag;refine dF ag λaC=>?_;have Hb:=ag.1;have r0:w9.cell? ⟨w.heap.size+1+1,0,none⟩=some (aj v):=ag.2.2.2.1.out.cell 0;have r1:w9.cell? ⟨w.heap.size+1+1,1,none⟩=some (ai (nt Y)):=ag.2.2.2.1.out.cell 1;go_wp2;exact bodyPost_ret (v:=.agg #[aj v,ai (nt Y)]) (by simp[results,Tryz.results122,go_sem,r0,r1,aC]) rfl ⟨rfl,dt⟩
def awl (s:Bool)(l:List UInt8)(p:Nat)(Z:Int)(hZ:iv s l*2^p=Z)(w:World)(hl:l.length<=1048576)(hp:p<=1073741824):
 Cv 132 #[.agg #[aj s,ai l],ah (p:Int)] w (.agg #[aj (aK Z),ai (nt Z.natAbs)]):=by
 have hf:=λW=>EH s (nt (nv l*2^p)) Z (by rw[<-hZ,pu];unfold iv;cases s<;>simp[Int.neg_mul]) W (by have:=agb l p;omega);have hsh:=λW=>awm l p W zo zo;have hp0:(0:Int)<=(p:Int):=by omega
 have hp1:decide ((p:Int)≥0)=true:=by simp
 obtain⟨Hf,Hm⟩:=aU hf hsh;clear hf hsh hZ;generalize Z.natAbs=Y at*;generalize aK Z=v at*;generalize nt (nv l*2^p)=S at*;obtain⟨W,cP,ag,aC⟩:=jq w 46 [aj s,ai l] 46 [aj false,.string ⟨#[]⟩];go_enter Tryz.func132,Tryz.ntmps132;go_wp2_with fail;refine dG 8 ag (dD 9 0x100e0d0a0907050301) ?_;refine bU ?_;refine cz ag (Hm.out _) λw1 ag=>?_;refine bU ?_;refine cz ag (Hf.out _) λw2 ag=>?_;have aC:=qC ag;refine qOp λK hK=>?_;go_simp;refine hK _ _ (λh=>absurd h zd) ?_
 refine cL (bG w2 (w.heap.size+1) 0 [aj v,ai (nt Y)]) bM ?_;intro w9 hs0;have ag:=cH hs0 ag;simp only[cB,List.set]at ag;have aC:=qC ag;refine dF ag λaC=>?_;have Hb:=ag.1;have r0:w9.cell? ⟨w.heap.size+1,0,none⟩=some (aj v):=ag.2.2.1.out.cell 0;have r1:w9.cell? ⟨w.heap.size+1,1,none⟩=some (ai (nt Y)):=ag.2.2.1.out.cell 1;go_wp2;exact bodyPost_ret (v:=.agg #[aj v,ai (nt Y)]) (by simp[results,Tryz.results132,go_sem,r0,r1,aC]) rfl ⟨rfl,dt⟩
end Go.Proofs.YtnjfebkelecgaaaGreatDoor
