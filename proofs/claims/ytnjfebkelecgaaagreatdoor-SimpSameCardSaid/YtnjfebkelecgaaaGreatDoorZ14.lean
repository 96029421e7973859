/- Package ogeeref01: Div. -/
import Derived.Test.YtnjfebkelecgaaaGreatDoorZ11
import Derived.Laws.AppendOwnNone
set_option linter.all false
set_option maxRecDepth 100000
set_option maxHeartbeats 16000000
namespace Go.Proofs.YtnjfebkelecgaaaGreatDoor
open Go.RowKit
attribute [local go_sem ↓] Go.wp_at_zero Go.wp_at_succ
def apc (r c:Nat)(hc:c<=1):bd (2*r+c) 0=c/\∀j,bd (2*r+c) (j+1)=bd r j:=by unfold bd;refine⟨by simp;omega,λj=>?_⟩;rw[Nat.pow_succ',<-Nat.div_div_eq_div_mul,show(2*r+c)/2=r by omega]
def ajg (n r c:Nat)(hc:c<=1):[.int .u8 (c:Int)]++dw n (bd r)=dw (1+n) (bd (2*r+c)):=by
 obtain⟨h0,h1⟩:=apc r c hc;apply List.ext_getElem?;intro j;cases j with
 |zero=>rw[mL _ _ _ zo,h0];rfl
 | succ j=>
   rw[List.getElem?_append_right zm];simp only[List.length_singleton,Nat.add_sub_cancel];by_cases hj:j<n
   . rw[mL _ _ _ hj,mL _ _ _ zo,h1]
   . rw[List.getElem?_eq_none (by rw[Ld];omega),List.getElem?_eq_none (by rw[Ld];omega)]
def awB (W:World)(base:Nat)(e:TypeId)(x:Value)(hb:base<=W.heap.size):(W.alloc (.cells #[x] e)).ownsRow base e 1 (.slice (some ⟨W.heap.size,0,none⟩) 1 1) 1 [x]:=
 ⟨rfl,.inr ⟨W.heap.size,1,#[x],rfl,hb,heap_alloc_new W _,Nat.le_refl _,by simp[maxLen],rfl,rfl⟩⟩
def acd (S u:Nat):(0<=dU S u)↔u<=S:=by
 unfold dU;by_cases h1:S<u
 . rw[if_pos h1];omega
 . rw[if_neg h1];by_cases h2:u<S
   . rw[if_pos h2];omega
   . rw[if_neg h2];omega
def Bv.cells {w:World}{x:Value}{n v:Nat}(h:Bv w x n v)(hn:0<n):∃b o cap,x=.slice (some ⟨b,o,none⟩) n cap/\∀j,j<n->w.cell? ⟨b,o+j,none⟩=some (.int .u8 (bd v j:Int)):=by
 rcases h.2 with⟨_,h2⟩ |⟨b,o,cap,h1,_,h3⟩
 . omega
 . exact⟨b,o,cap,h1,h3⟩
def Bv.aFJ {w:World}{x:Value}{n v:Nat}(h:Bv w x n v){a:Addr}(hne:∀b o n c,x=.slice (some ⟨b,o,none⟩) n c->b≠a.block)(y:Value):Bv (w.setCell a y) x n v:=by
 refine⟨h.1,?_⟩;rcases h.2 with h|⟨b,o,cap,e,h1,hc⟩
 . exact .inl h
 . exact .inr ⟨b,o,cap,e,h1,λj hj=>ij (hne b o n cap e) (hc j hj)⟩
def aAy {ops:Array Oper}{rest:List Oper}{o:Oper}{a:Act}{Q:Exit->Act->World->Prop}(hgd:o.guard=none)(s x:Operand)
 (ho:o.op=.call {callee:=.builtin .append,args:=#[s,x],argTypes:=#[84,84]}) (W:World) (z:Value) (n r c:Nat) (hc:c<=1) (hn:n<=1099511627776) (hz:Bv W z n r)
 (hs:a.eval s=.slice (some ⟨W.heap.size,0,none⟩) 1 1) (hx:a.eval x=z)
 (h:∀v' w',Bv w' v' (1+n) (2*r+c)->GK v' W.heap.size->Bw W w'->wpList Tryz.prog ops Q rest (a.put o.dst v') w'):wpList Tryz.prog ops Q (o::rest) a (W.alloc (.cells #[.int .u8 (c:Int)] 5)):=by
 obtain⟨i0,hi,hz0,hz1,hz2⟩:=info_parts Tryz.aFR;have hlt:2*r+c<2^(1+n):=by have:=hz.1;rw[Nat.add_comm 1 n,Nat.pow_succ];omega
 have hone:=awB W W.heap.size 5 (.int .u8 (c:Int)) (Nat.le_refl _);have hb0:Bw W (W.alloc (.cells #[.int .u8 (c:Int)] 5)):=zl;rcases hz.2 with⟨rfl,rfl⟩ |⟨b,oo,cap,rfl,h1,hcs⟩
 . refine wpList_append_own_none hgd s x 84 ho W.heap.size 5 i0 1 Tryz.underlying84 hi _ 1 _ hs hone hx ?_;refine h _ _ (Bv.aFT (base:=W.heap.size) (e:=5) ?_ hlt) (λb o n c e=>by cases e;exact Nat.le_refl _) hb0;rw[<-ajg 0 r c hc];exact hone
 . refine wpList_append_own _ hgd s x 84 ho W.heap.size 5 i0 (.int .u8 0) 1 1 Tryz.underlying84 hi hz0 hz1 hz2 rfl zd _ 1 _ hs hone ⟨b,oo,none⟩ n cap (dw n (bd r)) hx (by rw[Ld,Nat.mul_one]) ?_ ?_ zx zo zm ?_
   . intro j u hj;have fZ:j<n:=by
      rcases Nat.lt_or_ge j n with h|h
      . exact h
      . rw[List.getElem?_eq_none (by rw[Ld];exact h)]at hj;cases hj
     rw[mL _ _ _ fZ]at hj;cases hj
     have e2:((⟨b,oo,none⟩:Addr).add j)=⟨b,oo+j,none⟩:=by simp[Addr.add]
     rw[e2];exact aV (hcs j fZ)
   . intro u hu;unfold dw at hu;rw[List.mem_map]at hu;obtain⟨j,_,rfl⟩:=hu;rfl
   . intro v' w' ho' hg' _;refine h _ _ (Bv.aFT (base:=W.heap.size) (e:=5) ?_ hlt) (λb o n c e=>dX ho' b (by rw[e];rfl)) (hb0.grown hg' zm (λj e=>dX hone j e));rw[<-ajg n r c hc];exact ho'
def axX (l m:List UInt8)(w:World)(hl:l.length<=68719476736)(hm:m.length<=68719476736)(h0:0<nv m):
 Cv 162 #[ai l,ai m] w (.tuple #[ai (nt (nv l/nv m)),ai (nt (nv l%nv m)),aj true]):=by
 obtain⟨i0,hi,hz0,hz1,hz2⟩:=info_parts Tryz.aFR;have hL:=Nat.le_trans (iG (rE l)) (show 8*l.length<=549755813888 by omega);have hU:=Nat.le_trans (iG (rE m)) (show 8*m.length<=549755813888 by omega);have hb1:=si l w hl;have hb2:=λW=>si m W hm;generalize nv l=v at*;generalize nv m=u at*;have hUp:=GV h0;have hLt:=sJ v;generalize hLe:bT v=L at*;generalize hUe:bT u=U at*;obtain⟨H1,H2,Dq,ZP⟩:=ej hb1 hb2 hLt hUe;clear hb1 hb2 hLt hLe hUe;have hmk:=uT (L:Int) L rfl zo;have hU0:((U:Int)==0)=false:=by simp;omega
 go_enter Tryz.func162,Tryz.ntmps162;go_wp2_with fail;refine H1.out.mono ?_;rintro e w1 ⟨⟨X,rfl,hX⟩,aeI⟩;go_wp2_with fail;refine(H2.out w1).mono ?_;rintro e w2 ⟨⟨Y,rfl,hY⟩,Ex⟩;obtain⟨HX,HY,Hw⟩:=cX (hX.below Ex) hY (aO aeI Ex);clear hX hY aeI Ex;obtain⟨ax,cx,rfl⟩:=HX.out.len;obtain⟨ay,cy,rfl⟩:=HY.out.len;go_wp2_with fail;go_loopw[10,11] (λz i wr=>∃k:Nat,k<=L/\i=ah ((k:Int)-1)/\Bv wr z (bT (v/2^k%u)) (v/2^k%u)/\GK z (w2.heap.size+1)/\au wr w2.heap.size 5 (dw L (λj=>if k<=j then bd (v/u) j else 0))/\Bw w2 wr) (λ_ i _=>(intOf i+1).toNat);case atStart=>
  refine⟨L,Nat.le_refl _,by go_num,?_,(λb o n c e=>by cases e),?_,zl⟩
  . rw[Nat.div_eq_of_lt Dq.out,Nat.zero_mod];exact⟨by simp[bT],.inl ⟨rfl,rfl⟩⟩
  . have e:dw L (λj=>if L<=j then bd (v/u) j else 0)=dw L λ_=>0:=ql λj hj=>by rw[if_neg zo]
    rw[e];exact au.new _ _ _
 case round=>
  obtain⟨k,hk,rfl,hz,hzl,hB,hb⟩:=hrel;by_cases nu:0<k
  . obtain⟨j,rfl⟩:∃j,k=j+1:=⟨k-1,by omega⟩;obtain⟨r,c,q,e1,e2,e3,e4,e5⟩:=auQ v u j h0;have e6:=auP v u j;have hr:r<u:=by rw[<-e1];exact Nat.mod_lt _ h0
    have hc1:c<=1:=by rw[<-e2];exact vH v j
    rw[e1]at hz;rw[e5]at e6;obtain⟨S,hS⟩:=aK (2*r+c);rw[hS]at e4 e6;have uL:bT r<=549755813888:=Nat.le_trans (abZ (Nat.le_of_lt hr)) (by rw[ZP.out];omega);have hSb:bT S<=549755813889:=by rw[<-hS];exact Nat.le_trans (apk r c hc1) zo
    obtain⟨bx,ox,cx',rC,mB⟩:=HX.out.cells zo;obtain⟨rfl,rfl⟩:ax=some ⟨bx,ox,none⟩/\cx=cx':=by simp only[Value.slice.injEq]at rC;exact⟨rC.1,rC.2.2⟩
    have hcell:wr.cell? ⟨bx,ox+j,none⟩=some (.int .u8 (c:Int)):=by rw[<-e2];exact cell_later hb (mB j zo)
    have bD:=tq L cx j (j:Int) (rfl:(some ⟨bx,ox,none⟩:Option Addr)=_) zo rfl;rw[Nat.mul_one]at bD;obtain⟨Hz,HB,Hb,LM,LN,HS⟩:=iq hz hB hb e4 e6 hS;have hs0:=hb.size;have hqb:=hB.lt;have hj:((j+1:Nat):Int)-1=(j:Int):=by omega
    rw[hj];clear hz hB hb e1 e2 e3 e4 e5 e6 hS rC mB hj nu;go_wp2_with (first| (at_builtin;refine aAy rfl _ _ rfl _ u10 (bT r) r c hc1 zo Hz.out rfl rfl ?_;intro v' w3 hv' Jo hb3));rw[HS.out]at hv';obtain⟨Hv',Hl3,eW⟩:=cX hv' Jo hb3;have hs3:=hb3.size;clear hv' Jo hb3 hzl hcell bD;refine(XV v' (1+bT r) S w3 zo Hv'.out).mono ?_;rintro e w' ⟨⟨z,rfl,hz,hzl⟩,rfl⟩;obtain⟨di,SQ⟩:=aZ hz (hzl _ Hl3.out);clear hz hzl;obtain⟨ZT,lW⟩:=aZ (HY.out.below (aO Hb.out eW.out)) (HB.out.below eW.out);go_wp2_with fail;refine(ah8 z _ (bT S) U S u w3 di.out ZT.out zo zo).mono ?_;rintro e w' ⟨rfl,rfl⟩;by_cases hge:u<=S
    . have hc0:0<=dU S u:=(acd S u).2 hge;generalize dU S u=ci at*;rw[if_pos hge]at LM LN;go_wp2_with fail;refine(aic z _ (bT S) U S u w3 di.out ZT.out zo zo hge).mono ?_;rintro e w4 ⟨⟨t,rfl,ht,htl⟩,hb4⟩;obtain⟨Ht,Be,nZ⟩:=cX ht htl hb4;clear ht htl hb4;go_wp2_with fail;refine(XV t (bT S) (S-u) w4 zo Ht.out).mono ?_;rintro e w' ⟨⟨t2,rfl,ht2,agh⟩,rfl⟩;obtain⟨Mf,abo⟩:=aZ ht2 (agh _ Be.out);clear ht2 agh;have hB4:=lW.out.below nZ.out;have q0:w4.cell? ⟨w2.heap.size,j,none⟩=some (.int .u8 0):=by rw[hB4.cell,mL _ _ _ zo,if_neg zo];rfl
      have qf:w4.frozen? ⟨w2.heap.size,j,none⟩=false:=hB4.free _;have zY:=tq L L j (j:Int) (rfl:(some ⟨w2.heap.size,0,none⟩:Option Addr)=_) zo rfl;rw[Nat.mul_one,Nat.zero_add]at zY;have Us:=hB4.set j (.int .u8 ((1:Nat):Int))
      rw[CV,ql (g:=λi=>if j<=i then bd (v/u) i else 0) λi hi=>by
       by_cases e:i=j
       . subst e;rw[if_pos rfl,if_pos (Nat.le_refl _),LN.out];omega
       . rw[if_neg e];by_cases e2:j+1<=i
         . rw[if_pos e2,if_pos zo]
         . rw[if_neg e2,if_neg zo]]at Us
      have jI:=ar Us;clear hB4 Us;go_wp2;go_roundw;case rel=>
       refine⟨j,by omega,by go_num,?_,?_,jI.out,?_⟩
       . rw[LM.out];exact Mf.out.aFJ (λb o n c e=>by have:=abo.out b o n c e;dsimp only;omega) _
       . exact λb o n c e=>by have:=abo.out b o n c e;omega
       . exact(aO (aO Hb.out eW.out) nZ.out).setCell (Nat.le_refl _) _
      case measure=>simp[intOf]
    . have hc0:¬0<=dU S u:=fun h=>hge ((acd S u).1 h);generalize dU S u=ci at*;rw[if_neg hge]at LM LN;have jI:Hid (au w3 w2.heap.size 5 (dw L (fun i=>if j<=i then bd (v/u) i else 0))):=by
       show au _ _ _ _
       rw[ql (g:=λi=>if j+1<=i then bd (v/u) i else 0) λi hi=>by
        by_cases e:i=j
        . subst e;rw[if_pos (Nat.le_refl _),if_neg zo,LN.out];omega
        . by_cases e2:j+1<=i
          . rw[if_pos e2,if_pos zo]
          . rw[if_neg e2,if_neg zo]]
       exact lW.out
      go_wp2;go_roundw;case rel=>exact⟨j,by omega,by go_num,by rw[LM.out];exact di.out,(λb o n c e=>by have:=SQ.out b o n c e;omega),jI.out,aO Hb.out eW.out⟩
      case measure=>simp[intOf]
  . obtain rfl:k=0:=by omega
    have hq:v/u<2^L:=Nat.lt_of_le_of_lt (Nat.div_le_self v u) Dq.out;rw[ql (g:=bd (v/u)) λj hj=>by rw[if_pos (Nat.zero_le _)]]at hB;have Hq:=ar (Bv.aFK hB hq);have e0:v/2^0%u=v%u:=by simp
    rw[e0]at hz;have uL:bT (v%u)<=549755813888:=Nat.le_trans (abZ (Nat.le_of_lt (Nat.mod_lt v h0))) (by rw[ZP.out];omega);obtain⟨Hz,Hb⟩:=aZ hz hb;clear hB hq hz hb e0 hzl;go_wp2_with fail;refine(yq _ L (v/u) wr zo Hq.out).mono ?_;rintro e w3 ⟨rfl,hb3⟩;go_wp2_with fail;refine(yq u10 (bT (v%u)) (v%u) w3 zo (Hz.out.below hb3)).mono ?_;rintro e w4 ⟨rfl,hb4⟩;have jJ:=ar (aO Hw.out (aO Hb.out (aO hb3 hb4)));clear hb3 hb4;go_wp2;go_ret3
    exact⟨rfl,jJ.out⟩
def ax0 (l:List UInt8)(w:World)(hl:l.length<=68719476736):
 Cv 123 #[.agg #[aj false,ai l]] w (.agg #[aj (false),ai (nt (nv l))]):=by
 have hb:=Nat.le_trans (iG (rE l)) (show 8*l.length<=1099511627776 by omega);have h1:=si l;obtain⟨v,hv⟩:=aK (nv l);rw[hv]at hb⊢;simp only[hv]at h1;obtain⟨m,hm⟩:=aK (nt v);have he:=xx m;obtain⟨t,ht⟩:=aK m.isEmpty;obtain⟨H1,Hm⟩:=aZ h1 hm;clear h1 hv;rw[hm];rw[ht]at he;clear hm ht;obtain⟨W,dK,Hb,Hx,Hr⟩:=mG w 46 [aj false,ai l] 46 [aj false,.string ⟨#[]⟩];obtain⟨x0,x1⟩:=Hx.out.c2;obtain⟨r0,aH,r1,aI⟩:=Hr.out.g2;go_enter Tryz.func123,Tryz.ntmps123;go_wp2_with fail;refine(H1.out _ zo).mono ?_;rintro e w1 ⟨⟨y,rfl,hy⟩,ag⟩;obtain⟨Hx,x0,x1⟩:=bi Hx ag;obtain⟨Hr,r0,aH,r1,aI⟩:=bA Hr ag;replace Hb:=az Hb ag;have Hy:=ar hy;clear hy;go_wp2_with fail;refine(yq y _ _ _ hb Hy.out).mono ?_;rintro e w2 ⟨rfl,ag⟩;obtain⟨Hx,x0,x1⟩:=bi Hx ag;obtain⟨Hr,r0,aH,r1,aI⟩:=bA Hr ag;replace Hb:=az Hb ag;rw[Hm.out];go_wp2;refine fP (bY w2 (w.heap.size+1) 0 [aj (false),ai m]) cC ?_;intro w9 hs;replace Hx:=kS Hx hs zo;replace Hr:=dt Hr hs;obtain⟨x0,x1⟩:=Hx.out.c2;obtain⟨r0,aH,r1,aI⟩:=Hr.out.g2;replace Hb:=bS Hb hs ZS;clear hs;refine bodyPost_ret (v:=.agg #[aj (false),ai m]) (by simp[results,Tryz.results123,go_sem,r0,r1]) rfl ⟨rfl,Hb.out⟩
def ax1 (l:List UInt8)(w:World)(hl:l.length<=68719476736):
 Cv 123 #[.agg #[aj true,ai l]] w (.agg #[aj (!(nt (nv l)).isEmpty),ai (nt (nv l))]):=by
 have hb:=Nat.le_trans (iG (rE l)) (show 8*l.length<=1099511627776 by omega);have h1:=si l;obtain⟨v,hv⟩:=aK (nv l);rw[hv]at hb⊢;simp only[hv]at h1;obtain⟨m,hm⟩:=aK (nt v);have he:=xx m;obtain⟨t,ht⟩:=aK m.isEmpty;obtain⟨H1,Hm⟩:=aZ h1 hm;clear h1 hv;rw[hm,ht];rw[ht]at he;clear hm ht;obtain⟨W,dK,Hb,Hx,Hr⟩:=mG w 46 [aj true,ai l] 46 [aj false,.string ⟨#[]⟩];obtain⟨x0,x1⟩:=Hx.out.c2;obtain⟨r0,aH,r1,aI⟩:=Hr.out.g2;go_enter Tryz.func123,Tryz.ntmps123;go_wp2_with fail;refine(H1.out _ zo).mono ?_;rintro e w1 ⟨⟨y,rfl,hy⟩,ag⟩;obtain⟨Hx,x0,x1⟩:=bi Hx ag;obtain⟨Hr,r0,aH,r1,aI⟩:=bA Hr ag;replace Hb:=az Hb ag;have Hy:=ar hy;clear hy;go_wp2_with fail;refine(yq y _ _ _ hb Hy.out).mono ?_;rintro e w2 ⟨rfl,ag⟩;obtain⟨Hx,x0,x1⟩:=bi Hx ag;obtain⟨Hr,r0,aH,r1,aI⟩:=bA Hr ag;replace Hb:=az Hb ag;rw[Hm.out];go_wp2;refine fP (bY w2 (w.heap.size+1) 0 [aj (!t),ai m]) cC ?_;intro w9 hs;replace Hx:=kS Hx hs zo;replace Hr:=dt Hr hs;obtain⟨x0,x1⟩:=Hx.out.c2;obtain⟨r0,aH,r1,aI⟩:=Hr.out.g2;replace Hb:=bS Hb hs ZS;clear hs;refine bodyPost_ret (v:=.agg #[aj (!t),ai m]) (by simp[results,Tryz.results123,go_sem,r0,r1]) rfl ⟨rfl,Hb.out⟩
def KL (s:Bool)(l:List UInt8)(w:World)(hl:l.length<=68719476736):
 Cv 123 #[.agg #[aj s,ai l]] w (.agg #[aj (s&& !(nt (nv l)).isEmpty),ai (nt (nv l))]):=by
 cases s
 . exact ax0 l w hl
 . exact ax1 l w hl
def XX (n:Nat)(w:World)(hn:n<=9223372036854775807):
 Cv 83 #[ah (n:Int)] w (.agg #[aj false,ai (nt n)]):=by
 have h1:=λW=>ax8 n W (by rw[kF];omega);have H1:=ar h1;clear h1;have hw:IntKind.u64.wrap (n:Int)=(n:Int):=by rw[IntKind.wrap_u64];omega
 obtain⟨m,hm⟩:=aK (nt n);rw[hm];have Hm:=ar hm;clear hm;obtain⟨W,dK,Hb,Hr⟩:=jD w 46 [aj false,.string ⟨#[]⟩];obtain⟨r0,aH,r1,aI⟩:=Hr.out.g2;go_enter Tryz.func83,Tryz.ntmps83;go_wp2_with fail;refine(H1.out _).mono ?_;rintro e w1 ⟨rfl,ag⟩;obtain⟨Hr,r0,aH,r1,aI⟩:=bA Hr ag;replace Hb:=az Hb ag;rw[Hm.out];go_wp2;refine fP (bY w1 (w.heap.size) 0 [aj false,ai m]) cC ?_;intro w9 hs;replace Hr:=dt Hr hs;obtain⟨r0,aH,r1,aI⟩:=Hr.out.g2;replace Hb:=bS Hb hs ZS;clear hs;refine bodyPost_ret (v:=.agg #[aj false,ai m]) (by simp[results,Tryz.results83,go_sem,r0,r1]) rfl ⟨rfl,Hb.out⟩
def aib (l:List UInt8)(w:World)(hl:l.length<=68719476736):
 Cv 163 #[ai l] w (ah (bT (nv l):Int)):=by
 go_enter Tryz.func163,Tryz.ntmps163;go_wp2_with fail;refine(si l w hl).mono ?_;rintro e w1 ⟨⟨y,rfl,hy⟩,ag⟩;obtain⟨a,cap,rfl⟩:=hy.len;have Hb:=ar ag;clear hy ag;go_wp2;go_ret;exact⟨rfl,Hb.out⟩
def aih (s:Bool)(l:List UInt8)(w:World)(hl:l.length<=68719476736)(h0:nv l=0):
 Cv 128 #[.agg #[aj s,ai l]] w (ah 0):=by
 have h1:=aib l;rw[h0]at h1;have H1:=ar h1;clear h1 h0;obtain⟨W,dK,Hb,Hx⟩:=jD w 46 [aj s,ai l];obtain⟨x0,x1⟩:=Hx.out.c2;go_enter Tryz.func128,Tryz.ntmps128;go_wp2_with fail;refine(H1.out _ hl).mono ?_;rintro e w1 ⟨rfl,ag⟩;obtain⟨Hx,x0,x1⟩:=bi Hx ag;replace Hb:=az Hb ag;rw[apl];go_wp2;go_ret;exact⟨rfl,Hb.out⟩
def ax2 (s:Bool)(n:Nat)(w:World)(h0:0<n)(hl:(nt (2*n)).length<=68719476736):
 Cv 124 #[.agg #[aj s,ai (nt (2*n))],.agg #[aj false,ai (nt 2)]] w (.tuple #[.agg #[aj s,ai (nt n)],.agg #[aj false,.string (bs [])],aj true]):=by
 have hd:=λW=>axX (nt (2*n)) (nt 2) W hl zd (by rw[jC];decide);simp only[jC]at hd;have e1:2*n/2=n:=by omega
 have e2:2*n%2=0:=by omega
 rw[e1,e2,CJ]at hd;have VG:(nt n).length<=68719476736:=Nat.le_trans (kd (Nat.lt_of_le_of_lt (show n<=2*n by omega) (auW (2*n)))) hl;have hf:=λW=>KL s (nt n) W VG;have hg:=λW=>KL s [] W zd;have hs:=λW=>aih false [] W zd rfl;simp only[jC,Ax,CJ,List.isEmpty_nil,Bool.not_true,Bool.and_false]at hf hg;have e3:(nt n).isEmpty=false:=by
  have:=PD h0;cases h:nt n with
  |nil=>exact absurd h this
  |cons a b=>rfl
 rw[e3]at hf;simp only[Bool.not_false,Bool.and_true]at hf;generalize nt (2*n)=L at*;generalize nt n=M at*;generalize nt 2=T at*;obtain⟨Hd,Hf,Hg,Hs⟩:=ej hd hf hg hs;clear hd hf hg hs e1 e2 e3 hl VG;have hne:(s !=false)=s:=by cases s<;>rfl
 obtain⟨W,dK,Hb,Hx,Hy,Hp,Hq⟩:=Kl w 46 [aj s,ai L] 46 [aj false,ai T] 46 [aj false,.string ⟨#[]⟩] 46 [aj false,.string ⟨#[]⟩];obtain⟨x0,x1⟩:=Hx.out.c2;obtain⟨y0,y1⟩:=Hy.out.c2;obtain⟨p0,zF,p1,zG⟩:=Hp.out.g2;obtain⟨q0,fh,q1,fB⟩:=Hq.out.g2;go_enter Tryz.func124,Tryz.ntmps124;go_wp2_with fail;refine(Hd.out _).mono ?_;rintro e w1 ⟨rfl,ag⟩;obtain⟨Hx,x0,x1⟩:=bi Hx ag;obtain⟨Hy,y0,y1⟩:=bi Hy ag;obtain⟨Hp,p0,zF,p1,zG⟩:=bA Hp ag;obtain⟨Hq,q0,fh,q1,fB⟩:=bA Hq ag;replace Hb:=az Hb ag;go_wp2_with fail;refine(Hf.out _).mono ?_;rintro e w2 ⟨rfl,ag⟩;obtain⟨Hx,x0,x1⟩:=bi Hx ag;obtain⟨Hy,y0,y1⟩:=bi Hy ag;obtain⟨Hp,p0,zF,p1,zG⟩:=bA Hp ag;obtain⟨Hq,q0,fh,q1,fB⟩:=bA Hq ag;replace Hb:=az Hb ag;have avi:=Hx.out.lt;have aEU:=Hy.out.lt;have ahd:=Hp.out.lt;have ava:=Hq.out.lt;obtain⟨W2,na,ag,Hu⟩:=cE w2 46 [aj s,ai M];replace Hx:=kB Hx ag;replace Hy:=kB Hy ag;replace Hp:=kB Hp ag;obtain⟨Hq,q0,fh,q1,fB⟩:=bA Hq ag;obtain⟨x0,x1⟩:=Hx.out.c2;obtain⟨y0,y1⟩:=Hy.out.c2;obtain⟨p0,zF,p1,zG⟩:=Hp.out.g2;obtain⟨u0,u1⟩:=Hu.out.c2;replace Hb:=az Hb ag;go_wp2_with fail;refine(Hg.out _).mono ?_;rintro e w3 ⟨rfl,ag⟩;obtain⟨Hx,x0,x1⟩:=bi Hx ag;obtain⟨Hy,y0,y1⟩:=bi Hy ag;obtain⟨Hp,p0,zF,p1,zG⟩:=bA Hp ag;obtain⟨Hq,q0,fh,q1,fB⟩:=bA Hq ag;obtain⟨Hu,u0,u1⟩:=bi Hu ag;replace Hb:=az Hb ag;have Xd:=Hx.out.lt;have avl:=Hy.out.lt;have au8:=Hp.out.lt;have aEz:=Hq.out.lt;have aEM:=Hu.out.lt;obtain⟨W3,Et,ag,Hv⟩:=cE w3 46 [aj false,.string (bs [])];replace Hx:=kB Hx ag;replace Hy:=kB Hy ag;replace Hp:=kB Hp ag;replace Hq:=kB Hq ag;obtain⟨Hu,u0,u1⟩:=bi Hu ag;obtain⟨x0,x1⟩:=Hx.out.c2;obtain⟨y0,y1⟩:=Hy.out.c2;obtain⟨p0,zF,p1,zG⟩:=Hp.out.g2;obtain⟨q0,fh,q1,fB⟩:=Hq.out.g2;obtain⟨v0,v1⟩:=Hv.out.c2;replace Hb:=az Hb ag;go_wp2_with fail;refine(Hs.out _).mono ?_;rintro e w4 ⟨rfl,ag⟩;obtain⟨Hx,x0,x1⟩:=bi Hx ag;obtain⟨Hy,y0,y1⟩:=bi Hy ag;obtain⟨Hp,p0,zF,p1,zG⟩:=bA Hp ag;obtain⟨Hq,q0,fh,q1,fB⟩:=bA Hq ag;obtain⟨Hu,u0,u1⟩:=bi Hu ag;obtain⟨Hv,v0,v1⟩:=bi Hv ag;replace Hb:=az Hb ag;go_wp2_with fail;have lp:=Hp.out.lt;have lq:=Hq.out.lt;refine bV (λw'=>aF w' (w2.heap.size) 0 (aj s)/\aF w' (w2.heap.size) 1 (ai M)/\aF w' (w3.heap.size) 0 (aj false)/\aF w' (w3.heap.size) 1 (.string (bs []))) (λi=>Nat.blt i 3) [(0,true),(1,true),(2,false),(3,false),(4,false)] zk zk rfl zk zc ⟨u0,u1,v0,v1⟩ ?_;iterate 2 (refine pT rfl rfl ?_ (by intro w' ⟨q0,q1,q2,q3⟩;go_simp;try with_reducible rfl))
 refine aR rfl rfl (λK hK=>?_);go_simp;refine hK _ _ (λ_=>⟨(aU zf (aU zf u0)),(aU zf (aU zf u1)),(aU zf (aU zf v0)),(aU zf (aU zf v1))⟩) ?_
 refine bZ (bY w4 (w.heap.size+1+1) 0 [aj s,ai M]) cC ?_;intro w5 hs;replace Hx:=kS Hx hs zo;replace Hy:=kS Hy hs zo;replace Hp:=dt Hp hs;replace Hq:=kS Hq hs zo;replace Hu:=kS Hu hs zo;replace Hv:=kS Hv hs zo;obtain⟨x0,x1⟩:=Hx.out.c2;obtain⟨y0,y1⟩:=Hy.out.c2;obtain⟨p0,zF,p1,zG⟩:=Hp.out.g2;obtain⟨q0,fh,q1,fB⟩:=Hq.out.g2;obtain⟨u0,u1⟩:=Hu.out.c2;obtain⟨v0,v1⟩:=Hv.out.c2;replace Hb:=bS Hb hs ZS;clear hs;refine aR rfl rfl (λK hK=>?_);go_simp;refine hK _ _ (λh=>absurd h zd) ?_
 refine bZ (bY w5 (w.heap.size+1+1+1) 0 [aj false,.string (bs [])]) cC ?_;intro w6 hs;replace Hx:=kS Hx hs zo;replace Hy:=kS Hy hs zo;replace Hp:=kS Hp hs zo;replace Hq:=dt Hq hs;replace Hu:=kS Hu hs zo;replace Hv:=kS Hv hs zo;obtain⟨x0,x1⟩:=Hx.out.c2;obtain⟨y0,y1⟩:=Hy.out.c2;obtain⟨p0,zF,p1,zG⟩:=Hp.out.g2;obtain⟨q0,fh,q1,fB⟩:=Hq.out.g2;obtain⟨u0,u1⟩:=Hu.out.c2;obtain⟨v0,v1⟩:=Hv.out.c2;replace Hb:=bS Hb hs ZS;clear hs;refine aR rfl rfl (λK hK=>?_);go_simp;refine hK _ _ (λh=>absurd h zd) ?_
 simp only[bu];go_wp2;refine bodyPost_ret (v:=.tuple #[.agg #[aj s,ai M],.agg #[aj false,.string (bs [])],aj true]) (by simp[results,Tryz.results124,go_sem,p0,p1,q0,q1]) rfl ⟨rfl,Hb.out⟩
def cc (v u k:Nat):Nat:=(v%2^k+u%2^k)/2^k
def apM (v u:Nat):cc v u 0=0:=by simp[cc,Nat.mod_one]
def apK (v u k:Nat):cc v u k<=1:=by unfold cc;have h:0<2^k:=Nat.pow_pos zd;have h1:=Nat.mod_lt v h;have h2:=Nat.mod_lt u h;rw[<-Nat.lt_succ_iff,Nat.div_lt_iff_lt_mul h];omega
def apL (v u k:Nat):bd (v+u) k=(bd v k+bd u k+cc v u k)%2/\cc v u (k+1)=(bd v k+bd u k+cc v u k)/2:=by
 have hM:0<2^k:=Nat.pow_pos zd;have ha:=Nat.mod_lt v hM;have hb:=Nat.mod_lt u hM;have e1:v=2^k* (v/2^k)+v%2^k:=(Nat.div_add_mod v _).symm;have e2:u=2^k* (u/2^k)+u%2^k:=(Nat.div_add_mod u _).symm;have es:(v+u)/2^k=v/2^k+u/2^k+cc v u k:=by
  unfold cc;have:v+u=(v%2^k+u%2^k)+2^k* (v/2^k+u/2^k):=by rw[Nat.mul_add];omega
  rw[this,Nat.add_mul_div_left _ _ hM];omega
 have m1:v%2^(k+1)=v%2^k+2^k*bd v k:=by rw[Nat.pow_succ,Nat.mod_mul];rfl
 have m2:u%2^(k+1)=u%2^k+2^k*bd u k:=by rw[Nat.pow_succ,Nat.mod_mul];rfl
 constructor
 . unfold bd at*;rw[es];omega
 . have e3:cc v u (k+1)=((v%2^k+u%2^k)+2^k* (bd v k+bd u k))/2^k/2:=by rw[Nat.div_div_eq_div_mul,<-Nat.pow_succ];unfold cc;rw[m1,m2,Nat.mul_add];congr 1;omega
   rw[e3,Nat.add_mul_div_left _ _ hM];show(cc v u k+_)/2=_
   congr 1;omega
def apd (u p i:Nat):bd (u*2^p) i=if p<=i then bd u (i-p)else 0:=by
 unfold bd;by_cases h:p<=i
 . rw[if_pos h];obtain⟨j,rfl⟩:∃j,i=p+j:=⟨i-p,by omega⟩;rw[Nat.pow_add,<-Nat.div_div_eq_div_mul,Nat.mul_div_cancel _ (Nat.pow_pos zd),show p+j-p=j by omega]
 . rw[if_neg h];obtain⟨j,rfl⟩:∃j,p=i+1+j:=⟨p-i-1,by omega⟩;rw[show u*2^(i+1+j)=(u*2^j*2) *2^i by rw[Nat.pow_add,Nat.pow_add,Nat.pow_one];simp only[Nat.mul_assoc,Nat.mul_comm,Nat.mul_left_comm],Nat.mul_div_cancel _ (Nat.pow_pos zd)];omega
def Ya (x y:Value)(n m v u p:Nat)(w:World)(hx:Bv w x n v)(hy:Bv w y m u)(hn:n<=1099511627775)(hm:m+p<=1099511627775):
 Cl 185 #[x,y,ah (p:Int)] w λe w'=>(∃z,e=.returned z/\Bv w' z (max n (m+p)+1) (v+u*2^p))/\Bw w w':=by
 obtain⟨a,cap,rC⟩:=hx.len;obtain⟨a',cap',JU⟩:=hy.len;have rR:=λW (hW:Bw w W) i (hi:i<=1099511627776)=>Fv x n v i W (hx.below hW) hi zo;have hby:=λW (hW:Bw w W) i (hi:i<=1099511627776)=>Fv y m u i W (hy.below hW) hi zo;obtain⟨L,hL⟩:=aK (max n (m+p)+1);obtain⟨U,hU⟩:=aK (u*2^p);have xh:Hid (v+U<2^L):=by
  show _<_
  have h1:v<2^(L-1):=Nat.lt_of_lt_of_le hx.1 (Nat.pow_le_pow_right zd zo);have h2:U<2^(L-1):=by rw[<-hU];have h3:u*2^p<2^m*2^p:=Nat.mul_lt_mul_of_pos_right hy.1 (Nat.pow_pos zd);rw[<-Nat.pow_add]at h3;exact Nat.lt_of_lt_of_le h3 (Nat.pow_le_pow_right zd zo)
  rw[show L=L-1+1 by omega,Nat.pow_succ];omega
 have hbU:∀i,bd U i=if p<=i then bd u (i-p)else 0:=λi=>by rw[<-hU];exact apd u p i
 have hLI:max (n:Int) ((m:Int)+(p:Int))+1=(L:Int):=by omega
 have hLb:L<=1099511627776:=by omega
 subst rC;subst JU;have hmk:=uT (L:Int) L rfl zo;rw[hU,hL];obtain⟨FW,qG,HbU⟩:=cX rR hby hbU;clear rR hby hx hy hbU hU hL;go_enter Tryz.func185,Tryz.ntmps185;go_wp2_with fail;go_loopw[8,9,10] (λb i _ wr=>∃k:Nat,k<=L/\i=ah (k:Int)/\b=.int .u8 (cc v U k:Int)/\au wr w.heap.size 5 (dw L (λj=>if j<k then bd (v+U) j else 0))/\Bw w wr) (λ_ i _ _=>L-(intOf i).toNat);case atStart=>
  refine⟨0,Nat.zero_le _,rfl,by rw[apM];rfl,?_,zl⟩;have e:dw L (λj=>if j<0 then bd (v+U) j else 0)=dw L λ_=>0:=ql λj hj=>by rw[if_neg zo]
  rw[e];exact au.new _ _ _
 case round=>
  obtain⟨k,hk,rfl,rfl,hB,hb⟩:=hrel;by_cases hlt:k<L
  . have H1:=ar (FW.out wr hb k zo);obtain⟨hs,hs2⟩:=apL v U k;have hp1:=vH v k;have hq:=vH U k;have hr:=apK v U k;have Wh:=HbU.out k;have hcell:wr.cell? ⟨w.heap.size,k,none⟩=some (.int .u8 0):=by rw[hB.cell,mL _ _ _ hlt,if_neg zo];rfl
    have hfree:wr.frozen? ⟨w.heap.size,k,none⟩=false:=hB.free _;have bX:=hB.set k (.int .u8 ((bd (v+U) k:Nat):Int))
    rw[CV,ql (g:=λj=>if j<k+1 then bd (v+U) j else 0) λj hj=>by
     by_cases e:j=k
     . subst e;rw[if_pos rfl,if_pos zo]
     . rw[if_neg e];by_cases e2:j<k
       . rw[if_pos e2,if_pos zo]
       . rw[if_neg e2,if_neg zo]]at bX
    obtain⟨fu,Hb⟩:=aZ bX (hb.setCell (p:=⟨w.heap.size,k,none⟩) (Nat.le_refl _) (.int .u8 ((bd (v+U) k:Nat):Int)));have H2:p<=k->Cl 202 #[.slice a' m cap',ah ((k-p:Nat):Int)] wr λe w'=>e=.returned (.int .u8 (bd U k:Int))/\wr=w':=λh=>by rw[Wh,if_pos h];exact qG.out wr hb (k-p) zo
    have hq0:¬p<=k->bd U k=0:=λh=>by rw[Wh,if_neg h]
    have bD:=tq L L k (k:Int) (rfl:(some ⟨w.heap.size,0,none⟩:Option Addr)=_) hlt rfl;rw[Nat.mul_one,Nat.zero_add]at bD;clear hB bX hb Wh;generalize bd v k=P at*;generalize bd U k=q at*;generalize hrr:cc v U k=r at*;generalize bd (v+U) k=z at*;obtain⟨H2,Mc,xg⟩:=cX H2 hq0 hs2;clear hq0 hs2 hrr;obtain⟨S,hS⟩:=aK (P+q+r);have hS3:S<=3:=by omega
    have hw1:IntKind.u8.wrap ((P:Int)+(r:Int))=(P:Int)+(r:Int):=by rw[IntKind.wrap_u8];omega
    have hw2:IntKind.u8.wrap ((P:Int)+(r:Int)+(q:Int))=(S:Int):=by rw[IntKind.wrap_u8];omega
    have hand:bits .and .u8 (S:Int) 1=(z:Int):=by rw[Tv S zo,hs,<-hS]
    obtain⟨HS,Hs⟩:=aZ hS hs;clear hS hs;go_wp2_with fail;refine H1.out.mono ?_;rintro e w' ⟨rfl,rfl⟩;by_cases hpk:p<=k
    . have H3:=ar (H2.out hpk);have vQ:((k:Int)-(p:Int))=((k-p:Nat):Int):=by omega
      go_wp2_with fail;refine H3.out.mono ?_;rintro e w' ⟨rfl,rfl⟩;go_wp2;go_roundw;case rel=>refine⟨k+1,by omega,by go_num,?_,fu.out,Hb.out⟩;have h1:=xg.out;have h2:=HS.out;rw[h1];congr 1;omega
      case measure=>exact bI
    . have hq1:=Mc.out hpk;subst hq1;have hw3:IntKind.u8.wrap ((P:Int)+(r:Int))=(S:Int):=by rw[hw1];have:=HS.out;omega
      clear hw1 hw2;go_wp2;go_roundw;case rel=>refine⟨k+1,by omega,by go_num,?_,fu.out,Hb.out⟩;have h1:=xg.out;have h2:=HS.out;rw[h1];congr 1;omega
      case measure=>exact bI
  . obtain rfl:k=L:=by omega
    rw[ql (g:=bd (v+U)) λj hj=>by rw[if_pos hj]]at hB;obtain⟨Hz,Hb⟩:=aZ (Bv.aFK hB xh.out) hb;clear hB hb;go_wp2;go_ret;exact⟨⟨_,rfl,Hz.out⟩,Hb.out⟩
def axU (xs:List (List UInt8))(a:Option Addr)(cap:Nat)(w:World)(hl:∀l∈xs,l.length<=68719476736)(hx:xs.length<=1048576)
 (ha:At w a (xs.map λl=>ai l)):
 Cv 165 #[.slice a xs.length cap] w (ai (nt (iN xs))):=by
 obtain⟨Hl,Ha⟩:=aZ hl ha;clear hl ha;go_enter Tryz.func165,Tryz.ntmps165;go_wp2_with fail;go_loopw[3,4] (λz i wr=>∃k n:Nat,k<=xs.length/\n<=549755813888+k/\i=ah (k:Int)/\Bv wr z n (iN (xs.take k))/\Bw w wr) (λ_ i _=>xs.length-(intOf i).toNat);case atStart=>exact⟨0,0,Nat.zero_le _,Nat.zero_le _,rfl,⟨by simp[iN],.inl ⟨rfl,rfl⟩⟩,Below.refl _ _⟩
 case round=>
  obtain⟨k,n,hk,hn,rfl,hz,hb⟩:=hrel;by_cases hlt:k<xs.length
  . have hne:(xs.map λl=>Value.string (bs l))≠[]:=by intro h0;have:=congrArg List.length h0;simp at this;subst this;simp at hlt
    obtain⟨b,o,hab,hcs⟩:=(Ha.out.below hb).get hne;have hcell:wr.cell? ⟨b,o+k,none⟩=some (.string (bs xs[k])):=by rw[hcs k (by simpa using hlt)];simp[hlt]
    have bD:=vZ xs.length cap k (k:Int) hab hlt rfl;rw[Nat.mul_one]at bD;clear hcs hne;have mM:Hid (xs[k].length<=68719476736):=Hl.out _ (List.getElem_mem hlt);obtain⟨cn,pj⟩:=aZ (ahE xs k hlt) hab;clear hab;generalize xs[k]=x at*;have rR:bT (nv x)<=549755813888:=Nat.le_trans (iG (rE x)) (by have:=mM.out;omega);obtain⟨Hz,Hb⟩:=aZ hz hb;clear hz hb;go_wp2_with fail;refine(si x _ mM.out).mono ?_;rintro e w1 ⟨⟨y,rfl,hy⟩,hb1⟩;obtain⟨Hy,cu⟩:=aZ hy hb1;clear hy hb1;go_wp2_with fail;refine(Ya u3 y n (bT (nv x)) (iN (xs.take k)) (nv x) 0 w1 (Hz.out.below cu.out) Hy.out zo zo).mono ?_;rintro e w2 ⟨⟨z,rfl,hz⟩,hb2⟩;obtain⟨di,dD⟩:=aZ hz hb2;clear hz hb2;go_wp2;go_roundw;case rel=>have h:=di.out;rw[Nat.pow_zero,Nat.mul_one,<-cn.out]at h;exact⟨k+1,_,by omega,by omega,by go_num,h,aO Hb.out (aO cu.out dD.out)⟩
    case measure=>exact bI
  . obtain rfl:k=xs.length:=by omega
    rw[List.take_length]at hz;obtain⟨Hz,Hb⟩:=aZ hz hb;clear hz hb;go_wp2_with fail;refine(yq u3 n (iN xs) wr zo Hz.out).mono ?_;rintro e w1 ⟨rfl,hb1⟩;have cu:=ar hb1;clear hb1;go_wp2;go_ret;exact⟨rfl,aO Hb.out cu.out⟩
def ah7 (l m:List UInt8)(w:World)(hl:l.length<=68719476736)(hm:m.length<=68719476736):
 Cv 190 #[ai l,ai m] w (ah (dU (nv l) (nv m))):=by
 have hbl:=Nat.le_trans (iG (rE l)) (show 8*l.length<=549755813888 by omega);have Jc:=Nat.le_trans (iG (rE m)) (show 8*m.length<=549755813888 by omega);go_enter Tryz.func190,Tryz.ntmps190;go_wp2_with fail;refine(si l w hl).mono ?_;rintro e w1 ⟨⟨y,rfl,hy⟩,hb1⟩;obtain⟨Hy,cu⟩:=aZ hy hb1;clear hy hb1;go_wp2_with fail;refine(si m w1 hm).mono ?_;rintro e w2 ⟨⟨z,rfl,hz⟩,hb2⟩;obtain⟨Hz,dD⟩:=aZ hz hb2;clear hz hb2;go_wp2_with fail;refine(ah8 y z _ _ (nv l) (nv m) w2 (Hy.out.below dD.out) Hz.out zo zo).mono ?_;rintro e w' ⟨rfl,rfl⟩;go_wp2;go_ret;exact⟨rfl,aO cu.out dD.out⟩
def ace (S u:Nat):dU S u<0↔S<u:=by
 unfold dU;by_cases h1:S<u
 . rw[if_pos h1];omega
 . rw[if_neg h1];by_cases h2:u<S
   . rw[if_pos h2];omega
   . rw[if_neg h2];omega
def ayy (l m:List UInt8)(w:World)(hl:l.length<=68719476736)(hm:m.length<=68719476736)(h:nv l<nv m):
 Cv 166 #[ai l,ai m] w (.tuple #[.string ⟨#[]⟩,aj false]):=by
 have hc:=(ace (nv l) (nv m)).2 h;have H1:=ar (ah7 l m w hl hm);clear h;generalize dU (nv l) (nv m)=c at*;go_enter Tryz.func166,Tryz.ntmps166;go_wp2_with fail;refine H1.out.mono ?_;rintro e w1 ⟨rfl,hb1⟩;have cu:=ar hb1;clear hb1;go_wp2;go_ret2
 exact⟨rfl,cu.out⟩
def aii (l m:List UInt8)(w:World)(hl:l.length<=68719476736)(hm:m.length<=68719476736)(h:nv m<=nv l):
 Cv 166 #[ai l,ai m] w (.tuple #[ai (nt (nv l-nv m)),aj true]):=by
 have hc:¬dU (nv l) (nv m)<0:=λh2=>by have:=(ace (nv l) (nv m)).1 h2;omega
 have hbl:=Nat.le_trans (iG (rE l)) (show 8*l.length<=549755813888 by omega);have Jc:=Nat.le_trans (iG (rE m)) (show 8*m.length<=549755813888 by omega);obtain⟨H1,H2,H3⟩:=cX (ah7 l m w hl hm) (λW=>si l W hl) (λW=>si m W hm);generalize dU (nv l) (nv m)=c at*;go_enter Tryz.func166,Tryz.ntmps166;go_wp2_with fail;refine H1.out.mono ?_;rintro e w1 ⟨rfl,hb1⟩;have cu:=ar hb1;clear hb1;go_wp2_with fail;refine(H2.out w1).mono ?_;rintro e w2 ⟨⟨y,rfl,hy⟩,hb2⟩;obtain⟨Hy,dD⟩:=aZ hy hb2;clear hy hb2;go_wp2_with fail;refine(H3.out w2).mono ?_;rintro e w3 ⟨⟨z,rfl,hz⟩,hb3⟩;obtain⟨Hz,eW⟩:=aZ hz hb3;clear hz hb3;go_wp2_with fail;refine(aic y z _ _ (nv l) (nv m) w3 (Hy.out.below eW.out) Hz.out zo zo h).mono ?_;rintro e w4 ⟨⟨d,rfl,hd,_⟩,hb4⟩;obtain⟨Hd,nZ⟩:=aZ hd hb4;clear hd hb4;go_wp2_with fail;refine(yq d _ (nv l-nv m) w4 zo Hd.out).mono ?_;rintro e w5 ⟨rfl,dL⟩;have eX:=ar dL;clear dL;go_wp2;go_ret2
 exact⟨rfl,aO cu.out (aO dD.out (aO eW.out (aO nZ.out eX.out)))⟩
def KM (s:Bool)(l:List UInt8)(Z:Int)(hZ:iv s l=Z)(w:World)(hl:l.length<=68719476736):
 Cv 123 #[.agg #[aj s,ai l]] w (.agg #[aj (aC Z),ai (nt Z.natAbs)]):=by
 have h:=KL s l w hl;rw[<-WM,<-pX s l,hZ]at h;exact h
def ayx (s:Bool)(l:List UInt8)(w:World)(hl:l.length<=68719476736):
 Cv 128 #[.agg #[aj s,ai l]] w (ah (gh (iv s l))):=by
 by_cases h0:nv l=0
 . have e:gh (iv s l)=0:=by unfold iv;rw[h0];cases s<;>rfl
   rw[e];exact aih s l w hl h0
 . have h1:=aib l;have hbp:=GV (v:=nv l) zo;have e:gh (iv s l)=if s then-1 else 1:=by unfold iv gh;cases s<;>simp<;>omega
   rw[e];generalize bT (nv l)=B at*;have hB:((B:Int)==0)=false:=by simp;omega
   have H1:=ar h1;clear h1 e h0;obtain⟨W,dK,Hb,Hx⟩:=jD w 46 [aj s,ai l];obtain⟨x0,x1⟩:=Hx.out.c2;go_enter Tryz.func128,Tryz.ntmps128;go_wp2_with fail;refine(H1.out _ hl).mono ?_;rintro e w1 ⟨rfl,ag⟩;obtain⟨Hx,x0,x1⟩:=bi Hx ag;replace Hb:=az Hb ag;cases s with
   |false=>go_wp2;go_ret;exact⟨rfl,Hb.out⟩
   |true=>go_wp2;go_ret;exact⟨rfl,Hb.out⟩
def ayq (s:Bool)(l m:List UInt8)(Z:Int)(hZ:iv s l+iv s m=Z)(w:World)(hl:l.length<=1048576)(hm:m.length<=1048576):
 Cv 131 #[.agg #[aj s,ai l],.agg #[aj s,ai m]] w (.agg #[aj (aC Z),ai (nt Z.natAbs)]):=by
 have es:iN [l,m]=nv l+nv m:=by simp[iN]
 have ha:∀W b,At W (some ⟨b,0,none⟩) [ai l,ai m]->Cv 165 #[.slice (some ⟨b,0,none⟩) 2 2] W (ai (nt (nv l+nv m))):=by intro W b h;rw[<-es];exact axU [l,m] (some ⟨b,0,none⟩) 2 W (by intro x hx;simp at hx;rcases hx with rfl|rfl<;>omega) (by show 2<=1048576;decide) h
 have hlen:(nt (nv l+nv m)).length<=68719476736:=by have h1:=ib l;have h2:=ib m;obtain⟨N,hN⟩:=aK (max l.length m.length);refine Nat.le_trans (kd (k:=N+1) ?_) zo;have h3:256^l.length<=256^N:=Nat.pow_le_pow_right zd zo;have h4:256^m.length<=256^N:=Nat.pow_le_pow_right zd zo;rw[Nat.pow_succ];omega
 have hf:=λW=>KM s (nt (nv l+nv m)) Z (by rw[<-hZ,pY];unfold iv;cases s<;>simp<;>omega) W hlen;obtain⟨Ha,Hf⟩:=aZ ha hf;clear ha hf hlen es hZ;generalize nt (nv l+nv m)=S at*;obtain⟨W,dK,Hb,Hx,Hy,Hr⟩:=wu w 46 [aj s,ai l] 46 [aj s,ai m] 46 [aj false,.string ⟨#[]⟩];obtain⟨x0,x1⟩:=Hx.out.c2;obtain⟨y0,y1⟩:=Hy.out.c2;obtain⟨r0,aH,r1,aI⟩:=Hr.out.g2;go_enter Tryz.func131,Tryz.ntmps131;go_wp2_with fail;refine bV (λw'=>aF w' (w.heap.size) 0 (aj s)/\aF w' (w.heap.size) 1 (ai l)/\aF w' (w.heap.size+1) 0 (aj s)/\aF w' (w.heap.size+1) 1 (ai m)) (λi=>Nat.blt i 10) [(0,true),(1,true),(2,true),(3,true),(4,true),(5,true),(6,false),(7,false),(8,true),(9,false),(10,false)] zk zk rfl zk zc ⟨x0,x1,y0,y1⟩ ?_;iterate 6 (refine pT rfl rfl ?_ (by intro w' ⟨q0,q1,q2,q3⟩;go_simp;try with_reducible rfl))
 refine aR rfl rfl (λK hK=>?_);go_simp;refine hK _ _ (λ_=>⟨aV x0,aV x1,aV y0,aV y1⟩) ?_
 refine bZ (λW1=>au W1 (W.heap.size) 9 [ai l,ai m]/\Bw W W1) (by first|exact eo|exact eu) ?_;rintro W1 ⟨qv,ag⟩;have avh:=Hx.out.lt;have avk:=Hy.out.lt;have Kg:=Hr.out.lt;replace Hx:=kB Hx ag;replace Hy:=kB Hy ag;replace Hr:=kB Hr ag;have Hv:=ar qv;clear qv;obtain⟨x0,x1⟩:=Hx.out.c2;obtain⟨y0,y1⟩:=Hy.out.c2;obtain⟨r0,aH,r1,aI⟩:=Hr.out.g2;obtain⟨v0,v1⟩:=Hv.out.c2;replace Hb:=az Hb ag;refine aR rfl rfl (λK hK=>?_);go_simp;with_reducible refine(Ha.out _ _ (At.aFK Hv.out)).mono ?_
 rintro e w2 ⟨rfl,hq⟩;have ag:Bw W1 w2:=by first|exact hq|exact bo hq
 obtain⟨Hx,x0,x1⟩:=bi Hx ag;obtain⟨Hy,y0,y1⟩:=bi Hy ag;obtain⟨Hr,r0,aH,r1,aI⟩:=bA Hr ag;obtain⟨Hv,v0,v1⟩:=bi Hv ag;replace Hb:=az Hb ag;refine hK _ _ (λ_=>⟨x0,x1,y0,y1⟩) ?_
 refine pT rfl rfl ?_
 refine aR rfl rfl (λK hK=>?_);go_simp;with_reducible refine(Hf.out _).mono ?_
 rintro e w3 ⟨rfl,hq⟩;have ag:Bw w2 w3:=by first|exact hq|exact bo hq
 obtain⟨Hx,x0,x1⟩:=bi Hx ag;obtain⟨Hy,y0,y1⟩:=bi Hy ag;obtain⟨Hr,r0,aH,r1,aI⟩:=bA Hr ag;obtain⟨Hv,v0,v1⟩:=bi Hv ag;replace Hb:=az Hb ag;refine hK _ _ (λ_=>⟨x0,x1,y0,y1⟩) ?_
 refine aR rfl rfl (λK hK=>?_);go_simp;refine hK _ _ (λh=>absurd h zd) ?_
 refine bZ (bY w3 (w.heap.size+1+1) 0 [aj (aC Z),ai (nt Z.natAbs)]) cC ?_;intro w4 hs;replace Hx:=kS Hx hs zo;replace Hy:=kS Hy hs zo;replace Hr:=dt Hr hs;replace Hv:=kS Hv hs zo;obtain⟨x0,x1⟩:=Hx.out.c2;obtain⟨y0,y1⟩:=Hy.out.c2;obtain⟨r0,aH,r1,aI⟩:=Hr.out.g2;obtain⟨v0,v1⟩:=Hv.out.c2;replace Hb:=bS Hb hs ZS;clear hs;simp only[bu];go_wp2;exact bodyPost_ret (v:=.agg #[aj (aC Z),ai (nt Z.natAbs)]) (by simp[results,Tryz.results131,go_sem,r0,r1]) rfl ⟨rfl,dH⟩
def ayo (s:Bool)(l m:List UInt8)(Z:Int)(hZ:iv s l+iv (!s) m=Z)(h:nv m<=nv l)(w:World)(hl:l.length<=1048576)(hm:m.length<=1048576):
 Cv 131 #[.agg #[aj s,ai l],.agg #[aj (!s),ai m]] w (.agg #[aj (aC Z),ai (nt Z.natAbs)]):=by
 have ha:=λW=>aii l m W zo zo h;have hlen:(nt (nv l-nv m)).length<=68719476736:=by have h1:=ib l;refine Nat.le_trans (kd (k:=l.length) zo) zo
 have hf:=λW=>KM s (nt (nv l-nv m)) Z (by rw[<-hZ,pY];unfold iv;cases s<;>simp<;>omega) W hlen;obtain⟨Ha,Hf⟩:=aZ ha hf;clear ha hf hlen hZ h;generalize nt (nv l-nv m)=S at*;have hne:(s== !s)=false:=by cases s<;>rfl
 obtain⟨t,ht⟩:=aK (!s);rw[ht]at hne⊢;obtain⟨W,dK,Hb,Hx,Hy,Hr⟩:=wu w 46 [aj s,ai l] 46 [aj t,ai m] 46 [aj false,.string ⟨#[]⟩];obtain⟨x0,x1⟩:=Hx.out.c2;obtain⟨y0,y1⟩:=Hy.out.c2;obtain⟨r0,aH,r1,aI⟩:=Hr.out.g2;go_enter Tryz.func131,Tryz.ntmps131;go_wp2_with fail;refine(Ha.out _).mono ?_;rintro e w1 ⟨rfl,ag⟩;obtain⟨Hx,x0,x1⟩:=bi Hx ag;obtain⟨Hy,y0,y1⟩:=bi Hy ag;obtain⟨Hr,r0,aH,r1,aI⟩:=bA Hr ag;replace Hb:=az Hb ag;go_wp2_with fail;refine(Hf.out _).mono ?_;rintro e w2 ⟨rfl,ag⟩;obtain⟨Hx,x0,x1⟩:=bi Hx ag;obtain⟨Hy,y0,y1⟩:=bi Hy ag;obtain⟨Hr,r0,aH,r1,aI⟩:=bA Hr ag;replace Hb:=az Hb ag;go_wp2;refine fP (bY w2 (w.heap.size+1+1) 0 [aj (aC Z),ai (nt Z.natAbs)]) cC ?_;intro w9 hs;replace Hx:=kS Hx hs zo;replace Hy:=kS Hy hs zo;replace Hr:=dt Hr hs;obtain⟨x0,x1⟩:=Hx.out.c2;obtain⟨y0,y1⟩:=Hy.out.c2;obtain⟨r0,aH,r1,aI⟩:=Hr.out.g2;replace Hb:=bS Hb hs ZS;clear hs;refine bodyPost_ret (v:=.agg #[aj (aC Z),ai (nt Z.natAbs)]) (by simp[results,Tryz.results131,go_sem,r0,r1]) rfl ⟨rfl,Hb.out⟩
def ayp (s:Bool)(l m:List UInt8)(Z:Int)(hZ:iv s l+iv (!s) m=Z)(h:nv l<nv m)(w:World)(hl:l.length<=1048576)(hm:m.length<=1048576):
 Cv 131 #[.agg #[aj s,ai l],.agg #[aj (!s),ai m]] w (.agg #[aj (aC Z),ai (nt Z.natAbs)]):=by
 have ha:=λW=>ayy l m W zo zo h;have hb:=λW=>aii m l W zo zo (Nat.le_of_lt h);have hlen:(nt (nv m-nv l)).length<=68719476736:=by have h1:=ib m;refine Nat.le_trans (kd (k:=m.length) zo) zo
 have hf:=λW=>KM (!s) (nt (nv m-nv l)) Z (by rw[<-hZ,pY];unfold iv;cases s<;>simp<;>omega) W hlen;obtain⟨Ha,Hs,Hf⟩:=cX ha hb hf;clear ha hb hf hlen hZ h;generalize nt (nv m-nv l)=S at*;have hne:(s== !s)=false:=by cases s<;>rfl
 obtain⟨t,ht⟩:=aK (!s);rw[ht]at hne Hf⊢;obtain⟨W,dK,Hb,Hx,Hy,Hr⟩:=wu w 46 [aj s,ai l] 46 [aj t,ai m] 46 [aj false,.string ⟨#[]⟩];obtain⟨x0,x1⟩:=Hx.out.c2;obtain⟨y0,y1⟩:=Hy.out.c2;obtain⟨r0,aH,r1,aI⟩:=Hr.out.g2;go_enter Tryz.func131,Tryz.ntmps131;go_wp2_with fail;refine(Ha.out _).mono ?_;rintro e w1 ⟨rfl,ag⟩;obtain⟨Hx,x0,x1⟩:=bi Hx ag;obtain⟨Hy,y0,y1⟩:=bi Hy ag;obtain⟨Hr,r0,aH,r1,aI⟩:=bA Hr ag;replace Hb:=az Hb ag;go_wp2_with fail;refine(Hs.out _).mono ?_;rintro e w2 ⟨rfl,ag⟩;obtain⟨Hx,x0,x1⟩:=bi Hx ag;obtain⟨Hy,y0,y1⟩:=bi Hy ag;obtain⟨Hr,r0,aH,r1,aI⟩:=bA Hr ag;replace Hb:=az Hb ag;go_wp2_with fail;refine(Hf.out _).mono ?_;rintro e w3 ⟨rfl,ag⟩;obtain⟨Hx,x0,x1⟩:=bi Hx ag;obtain⟨Hy,y0,y1⟩:=bi Hy ag;obtain⟨Hr,r0,aH,r1,aI⟩:=bA Hr ag;replace Hb:=az Hb ag;go_wp2;refine fP (bY w3 (w.heap.size+1+1) 0 [aj (aC Z),ai (nt Z.natAbs)]) cC ?_;intro w9 hs;replace Hx:=kS Hx hs zo;replace Hy:=kS Hy hs zo;replace Hr:=dt Hr hs;obtain⟨x0,x1⟩:=Hx.out.c2;obtain⟨y0,y1⟩:=Hy.out.c2;obtain⟨r0,aH,r1,aI⟩:=Hr.out.g2;replace Hb:=bS Hb hs ZS;clear hs;refine bodyPost_ret (v:=.agg #[aj (aC Z),ai (nt Z.natAbs)]) (by simp[results,Tryz.results131,go_sem,r0,r1]) rfl ⟨rfl,Hb.out⟩
def aym (s:Bool)(l:List UInt8)(t:Bool)(m:List UInt8)(Z:Int)(hZ:iv s l+iv t m=Z)(w:World)(hl:l.length<=1048576)(hm:m.length<=1048576):
 Cv 131 #[.agg #[aj s,ai l],.agg #[aj t,ai m]] w (.agg #[aj (aC Z),ai (nt Z.natAbs)]):=by
 by_cases h:s=t
 . subst h;exact ayq s l m Z hZ w hl hm
 . obtain rfl:t= !s:=by cases s<;>cases t<;>simp_all
   by_cases h2:nv l<nv m
   . exact ayp s l m Z hZ h2 w hl hm
   . exact ayo s l m Z hZ zo w hl hm
def ayw (l:List UInt8)(p:Nat)(w:World)(hl:l.length<=68719476736)(hp:p<=274877906944):
 Cv 167 #[ai l,ah (p:Int)] w (ai (nt (nv l*2^p))):=by
 have rR:bT (nv l)<=549755813888:=Nat.le_trans (iG (rE l)) zo;have hmx:max (p:Int) 0=(p:Int):=by omega
 have Hb:=hbz w;go_enter Tryz.func167,Tryz.ntmps167;go_wp2_with fail;refine(si l _ hl).mono ?_;rintro e w1 ⟨⟨y,rfl,hy⟩,hb1⟩;obtain⟨Hy,cu⟩:=aZ hy hb1;clear hy hb1;go_wp2_with fail;refine(Ya (.slice none 0 0) y 0 (bT (nv l)) 0 (nv l) p w1 ⟨by simp,.inl ⟨rfl,rfl⟩⟩ Hy.out zo zo).mono ?_;rintro e w2 ⟨⟨z,rfl,hz⟩,hb2⟩;rw[Nat.zero_add]at hz;obtain⟨Hz,dD⟩:=aZ hz hb2;clear hz hb2;go_wp2_with fail;refine(yq z _ (nv l*2^p) w2 zo Hz.out).mono ?_;rintro e w3 ⟨rfl,hb3⟩;have eW:=ar hb3;clear hb3;go_wp2;go_ret;exact⟨rfl,aO cu.out (aO dD.out eW.out)⟩
def avB (v k:Nat):v%2^(k+1)=v%2^k+bd v k*2^k:=by unfold bd;rw[Nat.pow_succ,Nat.mod_mul,Nat.mul_comm]
def ax5 (l m:List UInt8)(w:World)(hl:l.length<=17179869184)(hm:m.length<=17179869184):
 Cv 159 #[ai l,ai m] w (ai (nt (nv l*nv m))):=by
 have hbl:bT (nv l)<=137438953472:=Nat.le_trans (iG (rE l)) zo;have Jc:bT (nv m)<=137438953472:=Nat.le_trans (iG (rE m)) zo;have hvl:=sJ (nv l);obtain⟨V,hV⟩:=aK (nv l);obtain⟨U,hU⟩:=aK (nv m);have h1:=λW=>si l W zo;have h2:=λW=>si m W zo;rw[hV]at hbl hvl h1⊢;rw[hU]at Jc h2⊢;obtain⟨N,hN⟩:=aK (bT V);obtain⟨M,hM⟩:=aK (bT U);rw[hN]at hbl hvl h1;rw[hM]at Jc h2;obtain⟨H1,H2,ue⟩:=cX h1 h2 hvl;clear h1 h2 hvl hV hU hN hM hl hm;have Hb:=hbz w;go_enter Tryz.func159,Tryz.ntmps159;go_wp2_with fail;refine(H1.out _).mono ?_;rintro e w1 ⟨⟨x,rfl,hx⟩,hb1⟩;obtain⟨Hx,cu⟩:=aZ hx hb1;clear hx hb1;go_wp2_with fail;refine(H2.out _).mono ?_;rintro e w2 ⟨⟨y,rfl,hy⟩,hb2⟩;obtain⟨uf,Hy,dD⟩:=cX (Hx.out.below hb2) hy (aO cu.out hb2);clear hy hb2 cu Hx;obtain⟨a,cap,rfl⟩:=uf.out.len;go_wp2_with fail;go_loopw[7,8] (λz i wr=>∃k n:Nat,k<=N/\n<=M+k/\i=ah (k:Int)/\Bv wr z n (V%2^k*U)/\Bw w2 wr) (λ_ i _=>N-(intOf i).toNat);case atStart=>exact⟨0,0,Nat.zero_le _,Nat.zero_le _,rfl,⟨by simp[Nat.mod_one],.inl ⟨rfl,rfl⟩⟩,Below.refl _ _⟩
 case round=>
  obtain⟨k,n,hk,hn,rfl,hz,hb⟩:=hrel;by_cases hlt:k<N
  . have hxk:=uf.out.below hb;rcases hxk.2 with⟨h,h0⟩ |⟨b,o,cap',h,hcap,hc⟩
    . omega
    simp only[Value.slice.injEq,true_and]at h;obtain⟨rfl,rfl⟩:=h;have hcell:=hc k hlt;have bD:=tq N cap k (k:Int) (rfl:(some ⟨b,o,none⟩:Option Addr)=_) hlt rfl;rw[Nat.mul_one]at bD;have hst:=avB V k;obtain⟨Hz,Hb,hyk⟩:=cX hz hb (Hy.out.below hb);clear hz hb hc hxk;rcases(show bd V k=0\/bd V k=1 by unfold bd;omega)with hd|hd
    . have hd':((bd V k:Int)==1)=false:=by simp[hd]
      rw[hd,Nat.zero_mul,Nat.add_zero]at hst;have cn:=ar hst;clear hst hd;go_wp2;go_roundw;case rel=>exact⟨k+1,n,by omega,by omega,by go_num,by rw[cn.out];exact Hz.out,Hb.out⟩
      case measure=>exact bI
    . have hd':((bd V k:Int)==1)=true:=by simp[hd]
      rw[hd,Nat.one_mul]at hst;have cn:=ar hst;clear hst hd;go_wp2_with fail;refine(Ya u7 y n M (V%2^k*U) U k wr Hz.out hyk.out zo zo).mono ?_;rintro e w4 ⟨⟨z,rfl,hz⟩,hb4⟩;obtain⟨Hz4,nZ⟩:=aZ hz hb4;clear hz hb4;go_wp2;go_roundw;case rel=>refine⟨k+1,max n (M+k)+1,by omega,by omega,by go_num,?_,aO Hb.out nZ.out⟩;rw[cn.out,Nat.add_mul,Nat.mul_comm (2^k) U];exact Hz4.out
      case measure=>exact bI
  . obtain rfl:k=N:=by omega
    have hVV:V%2^k=V:=Nat.mod_eq_of_lt ue.out;rw[hVV]at hz;obtain⟨Hz,Hb⟩:=aZ hz hb;clear hz hb hVV;go_wp2_with fail;refine(yq u7 n (V*U) wr zo Hz.out).mono ?_;rintro e w4 ⟨rfl,hb4⟩;have nZ:=ar hb4;clear hb4;go_wp2;go_ret;exact⟨rfl,aO dD.out (aO Hb.out nZ.out)⟩
def ahG (l m:List UInt8):(nt (nv l*nv m)).length<=l.length+m.length:=by refine kd ?_;rw[Nat.pow_add];have h1:=ib l;have h2:=ib m;exact Nat.mul_lt_mul_of_lt_of_le h1 (Nat.le_of_lt h2) zo
def ahH (l:List UInt8)(p:Nat):(nt (nv l*2^p)).length<=l.length+p:=by refine kd ?_;rw[Nat.pow_add];have h1:=ib l;have h2:2^p<=256^p:=Nat.pow_le_pow_left zd p;exact Nat.mul_lt_mul_of_lt_of_le h1 h2 (Nat.pow_pos zd)
def ayC (s:Bool)(l:List UInt8)(t:Bool)(m:List UInt8)(Z:Int)(hZ:iv s l*iv t m=Z)(w:World)(hl:l.length<=524288)(hm:m.length<=524288):
 Cv 122 #[.agg #[aj s,ai l],.agg #[aj t,ai m]] w (.agg #[aj (aC Z),ai (nt Z.natAbs)]):=by
 have hf:=λW=>KM (!(s==t)) (nt (nv l*nv m)) Z (by rw[<-hZ,pY];unfold iv;cases s<;>cases t<;>simp[Int.neg_mul,Int.mul_neg]) W (by have:=ahG l m;omega);have fw:=λW=>ax5 l m W zo zo;obtain⟨Hf,Hm⟩:=aZ hf fw;clear hf fw hZ;generalize Z.natAbs=Y at*;generalize aC Z=v at*;generalize nt (nv l*nv m)=S at*;obtain⟨W,dK,Hb,Hx,Hy,Hr⟩:=wu w 46 [aj s,ai l] 46 [aj t,ai m] 46 [aj false,.string ⟨#[]⟩];obtain⟨x0,x1⟩:=Hx.out.c2;obtain⟨y0,y1⟩:=Hy.out.c2;obtain⟨r0,aH,r1,aI⟩:=Hr.out.g2;go_enter Tryz.func122,Tryz.ntmps122;go_wp2_with fail;refine bV (λw'=>aF w' (w.heap.size) 0 (aj s)/\aF w' (w.heap.size) 1 (ai l)/\aF w' (w.heap.size+1) 0 (aj t)/\aF w' (w.heap.size+1) 1 (ai m)) (λi=>Nat.blt i 12) [(0,true),(1,true),(2,true),(3,true),(4,true),(5,true),(6,true),(7,true),(8,true),(9,false),(10,true),(11,false),(12,false)] zk zk rfl zk zc ⟨x0,x1,y0,y1⟩ ?_;iterate 9 (refine pT rfl rfl ?_ (by intro w' ⟨q0,q1,q2,q3⟩;go_simp;try with_reducible rfl))
 refine aR rfl rfl (λK hK=>?_);go_simp;with_reducible refine(Hm.out _).mono ?_
 rintro e w1 ⟨rfl,hq⟩;have ag:Bw W w1:=by first|exact hq|exact bo hq
 obtain⟨Hx,x0,x1⟩:=bi Hx ag;obtain⟨Hy,y0,y1⟩:=bi Hy ag;obtain⟨Hr,r0,aH,r1,aI⟩:=bA Hr ag;replace Hb:=az Hb ag;refine hK _ _ (λ_=>⟨x0,x1,y0,y1⟩) ?_
 refine pT rfl rfl ?_
 refine aR rfl rfl (λK hK=>?_);go_simp;with_reducible refine(Hf.out _).mono ?_
 rintro e w2 ⟨rfl,hq⟩;have ag:Bw w1 w2:=by first|exact hq|exact bo hq
 obtain⟨Hx,x0,x1⟩:=bi Hx ag;obtain⟨Hy,y0,y1⟩:=bi Hy ag;obtain⟨Hr,r0,aH,r1,aI⟩:=bA Hr ag;replace Hb:=az Hb ag;refine hK _ _ (λ_=>⟨x0,x1,y0,y1⟩) ?_
 refine aR rfl rfl (λK hK=>?_);go_simp;refine hK _ _ (λh=>absurd h zd) ?_
 refine bZ (bY w2 (w.heap.size+1+1) 0 [aj v,ai (nt Y)]) cC ?_;intro w9 hs;replace Hx:=kS Hx hs zo;replace Hy:=kS Hy hs zo;replace Hr:=dt Hr hs;obtain⟨x0,x1⟩:=Hx.out.c2;obtain⟨y0,y1⟩:=Hy.out.c2;obtain⟨r0,aH,r1,aI⟩:=Hr.out.g2;replace Hb:=bS Hb hs ZS;clear hs;simp only[bu];go_wp2;exact bodyPost_ret (v:=.agg #[aj v,ai (nt Y)]) (by simp[results,Tryz.results122,go_sem,r0,r1]) rfl ⟨rfl,dH⟩
def ayv (s:Bool)(l:List UInt8)(p:Nat)(Z:Int)(hZ:iv s l*2^p=Z)(w:World)(hl:l.length<=1048576)(hp:p<=1073741824):
 Cv 132 #[.agg #[aj s,ai l],ah (p:Int)] w (.agg #[aj (aC Z),ai (nt Z.natAbs)]):=by
 have hf:=λW=>KM s (nt (nv l*2^p)) Z (by rw[<-hZ,pY];unfold iv;cases s<;>simp[Int.neg_mul]) W (by have:=ahH l p;omega);have hsh:=λW=>ayw l p W zo zo;have hp0:(0:Int)<=(p:Int):=by omega
 have hp1:decide ((p:Int)≥0)=true:=by simp
 obtain⟨Hf,Hm⟩:=aZ hf hsh;clear hf hsh hZ;generalize Z.natAbs=Y at*;generalize aC Z=v at*;generalize nt (nv l*2^p)=S at*;obtain⟨W,dK,Hb,Hx,Hr⟩:=mG w 46 [aj s,ai l] 46 [aj false,.string ⟨#[]⟩];obtain⟨x0,x1⟩:=Hx.out.c2;obtain⟨r0,aH,r1,aI⟩:=Hr.out.g2;go_enter Tryz.func132,Tryz.ntmps132;go_wp2_with fail;refine bV (λw'=>aF w' (w.heap.size) 0 (aj s)/\aF w' (w.heap.size) 1 (ai l)) (λi=>Nat.blt i 8) [(0,true),(1,true),(2,true),(3,true),(4,true),(5,false),(6,true),(7,false),(8,false)] zk zk rfl zk zc ⟨x0,x1⟩ ?_;iterate 5 (refine pT rfl rfl ?_ (by intro w' ⟨q0,q1⟩;go_simp;try with_reducible rfl))
 refine aR rfl rfl (λK hK=>?_);go_simp;with_reducible refine(Hm.out _).mono ?_
 rintro e w1 ⟨rfl,hq⟩;have ag:Bw W w1:=by first|exact hq|exact bo hq
 obtain⟨Hx,x0,x1⟩:=bi Hx ag;obtain⟨Hr,r0,aH,r1,aI⟩:=bA Hr ag;replace Hb:=az Hb ag;refine hK _ _ (λ_=>⟨x0,x1⟩) ?_
 refine pT rfl rfl ?_
 refine aR rfl rfl (λK hK=>?_);go_simp;with_reducible refine(Hf.out _).mono ?_
 rintro e w2 ⟨rfl,hq⟩;have ag:Bw w1 w2:=by first|exact hq|exact bo hq
 obtain⟨Hx,x0,x1⟩:=bi Hx ag;obtain⟨Hr,r0,aH,r1,aI⟩:=bA Hr ag;replace Hb:=az Hb ag;refine hK _ _ (λ_=>⟨x0,x1⟩) ?_
 refine aR rfl rfl (λK hK=>?_);go_simp;refine hK _ _ (λh=>absurd h zd) ?_
 refine bZ (bY w2 (w.heap.size+1) 0 [aj v,ai (nt Y)]) cC ?_;intro w9 hs;replace Hx:=kS Hx hs zo;replace Hr:=dt Hr hs;obtain⟨x0,x1⟩:=Hx.out.c2;obtain⟨r0,aH,r1,aI⟩:=Hr.out.g2;replace Hb:=bS Hb hs ZS;clear hs;simp only[bu];go_wp2;exact bodyPost_ret (v:=.agg #[aj v,ai (nt Y)]) (by simp[results,Tryz.results132,go_sem,r0,r1]) rfl ⟨rfl,dH⟩
end Go.Proofs.YtnjfebkelecgaaaGreatDoor
