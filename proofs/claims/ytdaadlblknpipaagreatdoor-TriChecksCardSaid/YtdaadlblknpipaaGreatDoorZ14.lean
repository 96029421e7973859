/- Package ogeeref01: Div. -/
import Derived.Test.YtdaadlblknpipaaGreatDoorZ11
import Derived.Laws.AppendOwnNone
set_option linter.unusedVariables false
set_option linter.unusedSimpArgs false
set_option maxRecDepth 100000
set_option maxHeartbeats 16000000
namespace Go.Proofs.YtdaadlblknpipaaGreatDoor
open Go.RowKit
attribute [local go_sem ↓] Go.wp_at_zero Go.wp_at_succ
theorem ac8 (r c:Nat)(hc:c<=1):bd (2*r+c) 0=c/\∀j,bd (2*r+c) (j+1)=bd r j:=by unfold bd;refine⟨by simp;omega,λj=>?_⟩;rw[Nat.pow_succ',<-Nat.div_div_eq_div_mul,show(2*r+c)/2=r by omega]
theorem YQ (n r c:Nat)(hc:c<=1):[.int .u8 (c:Int)]++cQ n (bd r)=cQ (1+n) (bd (2*r+c)):=by
 obtain⟨h0,h1⟩:=ac8 r c hc;apply List.ext_getElem?;intro j;cases j with
 |zero=>rw[kZ _ _ _ zo,h0];rfl
 | succ j=>
   rw[List.getElem?_append_right zm];simp only[List.length_singleton,Nat.add_sub_cancel];by_cases hj:j<n
   . rw[kZ _ _ _ hj,kZ _ _ _ zo,h1]
   . rw[List.getElem?_eq_none (by rw[Ez];omega),List.getElem?_eq_none (by rw[Ez];omega)]
theorem aja (W:World)(base:Nat)(e:TypeId)(x:Value)(hb:base<=W.heap.size):(W.alloc (.cells #[x] e)).ownsRow base e 1 (.slice (some ⟨W.heap.size,0,none⟩) 1 1) 1 [x]:=
 ⟨rfl,.inr ⟨W.heap.size,1,#[x],rfl,hb,heap_alloc_new W _,Nat.le_refl _,by simp[maxLen],rfl,rfl⟩⟩
theorem Sz (S u:Nat):(0<=dh S u)↔u<=S:=by
 unfold dh;by_cases h1:S<u
 . rw[if_pos h1];omega
 . rw[if_neg h1];by_cases h2:u<S
   . rw[if_pos h2];omega
   . rw[if_neg h2];omega
theorem Bv.cells {w:World}{x:Value}{n v:Nat}(h:Bv w x n v)(hn:0<n):∃b o cap,x=.slice (some ⟨b,o,none⟩) n cap/\∀j,j<n->w.cell? ⟨b,o+j,none⟩=some (.int .u8 (bd v j:Int)):=by
 rcases h.2 with⟨_,h2⟩ |⟨b,o,cap,h1,_,h3⟩
 . omega
 . exact⟨b,o,cap,h1,h3⟩
theorem Bv.api {w:World}{x:Value}{n v:Nat}(h:Bv w x n v){a:Addr}(hne:∀b o n c,x=.slice (some ⟨b,o,none⟩) n c->b≠a.block)(y:Value):Bv (w.setCell a y) x n v:=by
 refine⟨h.1,?_⟩;rcases h.2 with h|⟨b,o,cap,e,h1,hc⟩
 . exact .inl h
 . exact .inr ⟨b,o,cap,e,h1,λj hj=>fC (hne b o n cap e) (hc j hj)⟩
theorem al2 {ops:Array Oper}{rest:List Oper}{o:Oper}{a:Act}{Q:Exit->Act->World->Prop}(hgd:o.guard=none)(s x:Operand)
 (ho:o.op=.call {callee:=.builtin .append,args:=#[s,x],argTypes:=#[111,111]}) (W:World) (z:Value) (n r c:Nat) (hc:c<=1) (hn:n<=1099511627776) (hz:Bv W z n r)
 (hs:a.eval s=.slice (some ⟨W.heap.size,0,none⟩) 1 1) (hx:a.eval x=z)
 (h:∀v' w',Bv w' v' (1+n) (2*r+c)->Cm v' W.heap.size->Bw W w'->wpList Tryz.prog ops Q rest (a.put o.dst v') w'):wpList Tryz.prog ops Q (o::rest) a (W.alloc (.cells #[.int .u8 (c:Int)] 5)):=by
 obtain⟨i0,hi,hz0,hz1,hz2⟩:=info_parts Tryz.apn;have hlt:2*r+c<2^(1+n):=by have:=hz.1;rw[Nat.add_comm 1 n,Nat.pow_succ];omega
 have hone:=aja W W.heap.size 5 (.int .u8 (c:Int)) (Nat.le_refl _);have hb0:Bw W (W.alloc (.cells #[.int .u8 (c:Int)] 5)):=zl;rcases hz.2 with⟨rfl,rfl⟩ |⟨b,oo,cap,rfl,h1,hcs⟩
 . refine wpList_append_own_none hgd s x 111 ho W.heap.size 5 i0 1 Tryz.underlying111 hi _ 1 _ hs hone hx ?_;refine h _ _ (Bv.apt (base:=W.heap.size) (e:=5) ?_ hlt) (λb o n c e=>by cases e;exact Nat.le_refl _) hb0;rw[<-YQ 0 r c hc];exact hone
 . refine wpList_append_own _ hgd s x 111 ho W.heap.size 5 i0 (.int .u8 0) 1 1 Tryz.underlying111 hi hz0 hz1 hz2 rfl zd _ 1 _ hs hone ⟨b,oo,none⟩ n cap (cQ n (bd r)) hx (by rw[Ez,Nat.mul_one]) ?_ ?_ zx zo zm ?_
   . intro j u hj;have kO:j<n:=by
      rcases Nat.lt_or_ge j n with h|h
      . exact h
      . rw[List.getElem?_eq_none (by rw[Ez];exact h)]at hj;cases hj
     rw[kZ _ _ _ kO]at hj;cases hj
     have e2:((⟨b,oo,none⟩:Addr).add j)=⟨b,oo+j,none⟩:=by simp[Addr.add]
     rw[e2];exact aG (hcs j kO)
   . intro u hu;unfold cQ at hu;rw[List.mem_map]at hu;obtain⟨j,_,rfl⟩:=hu;rfl
   . intro v' w' ho' hg' _;refine h _ _ (Bv.apt (base:=W.heap.size) (e:=5) ?_ hlt) (λb o n c e=>cJ ho' b (by rw[e];rfl)) (hb0.grown hg' zm (λj e=>cJ hone j e));rw[<-YQ n r c hc];exact ho'
theorem ajU (l m:List UInt8)(w:World)(hl:l.length<=68719476736)(hm:m.length<=68719476736)(h0:0<nv m):
 Calls Tryz.prog 153 #[.string (bs l),.string (bs m)] w λe w'=>e=.returned (.tuple #[.string (bs (nt (nv l/nv m))),.string (bs (nt (nv l%nv m))),.bool true])/\Bw w w':=by
 obtain⟨i0,hi,hz0,hz1,hz2⟩:=info_parts Tryz.apn;have hL:=Nat.le_trans (gG (nM l)) (show 8*l.length<=549755813888 by omega);have hU:=Nat.le_trans (gG (nM m)) (show 8*m.length<=549755813888 by omega);have hb1:=oK l w hl;have hb2:=λW=>oK m W hm;generalize nv l=v at*;generalize nv m=u at*;have hUp:=Cv h0;have TN:=pk v;generalize hLe:bA v=L at*;generalize Uh:bA u=U at*;obtain⟨H1,H2,yK,Qt⟩:=dW hb1 hb2 TN Uh;clear hb1 hb2 TN hLe Uh;have hmk:=sD (L:Int) L rfl zo;have hU0:((U:Int)==0)=false:=by simp;omega
 go_enter Tryz.func153,Tryz.ntmps153;go_wp2_with fail;refine H1.out.mono ?_;rintro e w1 ⟨⟨X,rfl,hX⟩,UC⟩;go_wp2_with fail;refine(H2.out w1).mono ?_;rintro e w2 ⟨⟨Y,rfl,hY⟩,zM⟩;obtain⟨HX,HY,Hw⟩:=cL (hX.below zM) hY (aJ UC zM);clear hX hY UC zM;obtain⟨ax,cx,rfl⟩:=HX.out.len;obtain⟨ay,cy,rfl⟩:=HY.out.len;go_wp2_with fail;go_loopw[10,11] (λz i wr=>∃k:Nat,k<=L/\i=.int .i64 ((k:Int)-1)/\Bv wr z (bA (v/2^k%u)) (v/2^k%u)/\Cm z (w2.heap.size+1)/\ak wr w2.heap.size 5 (cQ L (λj=>if k<=j then bd (v/u) j else 0))/\Bw w2 wr) (λ_ i _=>(intOf i+1).toNat);case atStart=>
  refine⟨L,Nat.le_refl _,by go_num,?_,(λb o n c e=>by cases e),?_,zl⟩
  . rw[Nat.div_eq_of_lt yK.out,Nat.zero_mod];exact⟨by simp[bA],.inl ⟨rfl,rfl⟩⟩
  . have e:cQ L (λj=>if L<=j then bd (v/u) j else 0)=cQ L λ_=>0:=mS λj hj=>by rw[if_neg zo]
    rw[e];exact ak.new _ _ _
 case round=>
  obtain⟨k,hk,rfl,hz,hzl,hB,hb⟩:=hrel;by_cases kP:0<k
  . obtain⟨j,rfl⟩:∃j,k=j+1:=⟨k-1,by omega⟩;obtain⟨r,c,q,e1,e2,e3,e4,e5⟩:=ahM v u j h0;have e6:=ahL v u j;have hr:r<u:=by rw[<-e1];exact Nat.mod_lt _ h0
    have hc1:c<=1:=by rw[<-e2];exact rK v j
    rw[e1]at hz;rw[e5]at e6;obtain⟨S,hS⟩:=aB (2*r+c);rw[hS]at e4 e6;have rh:bA r<=549755813888:=Nat.le_trans (Sq (Nat.le_of_lt hr)) (by rw[Qt.out];omega);have hSb:bA S<=549755813889:=by rw[<-hS];exact Nat.le_trans (adg r c hc1) zo
    obtain⟨bx,ox,cx',jI,kd⟩:=HX.out.cells zo;obtain⟨rfl,rfl⟩:ax=some ⟨bx,ox,none⟩/\cx=cx':=by simp only[Value.slice.injEq]at jI;exact⟨jI.1,jI.2.2⟩
    have hcell:wr.cell? ⟨bx,ox+j,none⟩=some (.int .u8 (c:Int)):=by rw[<-e2];exact cell_later hb (kd j zo)
    have bD:=vG L cx j (j:Int) (rfl:(some ⟨bx,ox,none⟩:Option Addr)=_) zo rfl;rw[Nat.mul_one]at bD;obtain⟨Hz,HB,Hb,ES,ET,HS⟩:=gN hz hB hb e4 e6 hS;have hs0:=hb.size;have hqb:=hB.lt;have hj:((j+1:Nat):Int)-1=(j:Int):=by omega
    rw[hj];clear hz hB hb e1 e2 e3 e4 e5 e6 hS jI kd hj kP;go_wp2_with (first| (at_builtin;refine al2 rfl _ _ rfl _ u10 (bA r) r c hc1 zo Hz.out rfl rfl ?_;intro v' w3 hv' Dl hb3));rw[HS.out]at hv';obtain⟨Hv',mo,ey⟩:=cL hv' Dl hb3;have hs3:=hb3.size;clear hv' Dl hb3 hzl hcell bD;refine(OL v' (1+bA r) S w3 zo Hv'.out).mono ?_;rintro e w' ⟨⟨z,rfl,hz,hzl⟩,rfl⟩;obtain⟨cE,Hzl⟩:=aL hz (hzl _ mo.out);clear hz hzl;obtain⟨uA,jP⟩:=aL (HY.out.below (aJ Hb.out ey.out)) (HB.out.below ey.out);go_wp2_with fail;refine(XZ z _ (bA S) U S u w3 cE.out uA.out zo zo).mono ?_;rintro e w' ⟨rfl,rfl⟩;by_cases hge:u<=S
    . have hc0:0<=dh S u:=(Sz S u).2 hge;generalize dh S u=ci at*;rw[if_pos hge]at ES ET;go_wp2_with fail;refine(Yg z _ (bA S) U S u w3 cE.out uA.out zo zo hge).mono ?_;rintro e w4 ⟨⟨t,rfl,ht,htl⟩,hb4⟩;obtain⟨Ht,Cf,jC⟩:=cL ht htl hb4;clear ht htl hb4;go_wp2_with fail;refine(OL t (bA S) (S-u) w4 zo Ht.out).mono ?_;rintro e w' ⟨⟨t2,rfl,ht2,Wd⟩,rfl⟩;obtain⟨Fi,RD⟩:=aL ht2 (Wd _ Cf.out);clear ht2 Wd;have hB4:=jP.out.below jC.out;have q0:w4.cell? ⟨w2.heap.size,j,none⟩=some (.int .u8 0):=by rw[hB4.cell,kZ _ _ _ zo,if_neg zo];rfl
      have qf:w4.frozen? ⟨w2.heap.size,j,none⟩=false:=hB4.free _;have kN:=vG L L j (j:Int) (rfl:(some ⟨w2.heap.size,0,none⟩:Option Addr)=_) zo rfl;rw[Nat.mul_one,Nat.zero_add]at kN;have LJ:=hB4.set j (.int .u8 ((1:Nat):Int))
      rw[yw,mS (g:=λi=>if j<=i then bd (v/u) i else 0) λi hi=>by
       by_cases e:i=j
       . subst e;rw[if_pos rfl,if_pos (Nat.le_refl _),ET.out];omega
       . rw[if_neg e];by_cases e2:j+1<=i
         . rw[if_pos e2,if_pos zo]
         . rw[if_neg e2,if_neg zo]]at LJ
      have mg:=ah LJ;clear hB4 LJ;go_wp2;go_roundw;case rel=>
       refine⟨j,by omega,by go_num,?_,?_,mg.out,?_⟩
       . rw[ES.out];exact Fi.out.api (λb o n c e=>by have:=RD.out b o n c e;dsimp only;omega) _
       . exact λb o n c e=>by have:=RD.out b o n c e;omega
       . exact(aJ (aJ Hb.out ey.out) jC.out).setCell (Nat.le_refl _) _
      case measure=>simp[intOf]
    . have hc0:¬0<=dh S u:=fun h=>hge ((Sz S u).1 h);generalize dh S u=ci at*;rw[if_neg hge]at ES ET;have mg:Hid (ak w3 w2.heap.size 5 (cQ L (fun i=>if j<=i then bd (v/u) i else 0))):=by
       show ak _ _ _ _
       rw[mS (g:=λi=>if j+1<=i then bd (v/u) i else 0) λi hi=>by
        by_cases e:i=j
        . subst e;rw[if_pos (Nat.le_refl _),if_neg zo,ET.out];omega
        . by_cases e2:j+1<=i
          . rw[if_pos e2,if_pos zo]
          . rw[if_neg e2,if_neg zo]]
       exact jP.out
      go_wp2;go_roundw;case rel=>exact⟨j,by omega,by go_num,by rw[ES.out];exact cE.out,(λb o n c e=>by have:=Hzl.out b o n c e;omega),mg.out,aJ Hb.out ey.out⟩
      case measure=>simp[intOf]
  . obtain rfl:k=0:=by omega
    have hq:v/u<2^L:=Nat.lt_of_le_of_lt (Nat.div_le_self v u) yK.out;rw[mS (g:=bd (v/u)) λj hj=>by rw[if_pos (Nat.zero_le _)]]at hB;have Hq:=ah (Bv.apk hB hq);have e0:v/2^0%u=v%u:=by simp
    rw[e0]at hz;have rh:bA (v%u)<=549755813888:=Nat.le_trans (Sq (Nat.le_of_lt (Nat.mod_lt v h0))) (by rw[Qt.out];omega);obtain⟨Hz,Hb⟩:=aL hz hb;clear hB hq hz hb e0 hzl;go_wp2_with fail;refine(ul _ L (v/u) wr zo Hq.out).mono ?_;rintro e w3 ⟨rfl,hb3⟩;go_wp2_with fail;refine(ul u10 (bA (v%u)) (v%u) w3 zo (Hz.out.below hb3)).mono ?_;rintro e w4 ⟨rfl,hb4⟩;have ml:=ah (aJ Hw.out (aJ Hb.out (aJ hb3 hb4)));clear hb3 hb4;go_wp2;go_ret3
    exact⟨rfl,ml.out⟩
theorem ajY (l:List UInt8)(w:World)(hl:l.length<=68719476736):
 Calls Tryz.prog 117 #[.agg #[.bool false,.string (bs l)]] w λe w'=>e=.returned (.agg #[.bool (false),.string (bs (nt (nv l)))])/\Bw w w':=by
 have hb:=Nat.le_trans (gG (nM l)) (show 8*l.length<=1099511627776 by omega);have h1:=oK l;obtain⟨v,hv⟩:=aB (nv l);rw[hv]at hb⊢;simp only[hv]at h1;obtain⟨m,hm⟩:=aB (nt v);have he:=tK m;obtain⟨t,ht⟩:=aB m.isEmpty;obtain⟨H1,Hm⟩:=aL h1 hm;clear h1 hv;rw[hm];rw[ht]at he;clear hm ht;obtain⟨W,dc,Hb,Hx,Hr⟩:=nO w 28 [.bool false,.string (bs l)] 28 [.bool false,.string ⟨#[]⟩];obtain⟨x0,x1⟩:=Hx.out.c2;obtain⟨r0,ai,r1,aj⟩:=Hr.out.g2;go_enter Tryz.func117,Tryz.ntmps117;go_wp2_with fail;refine(H1.out _ zo).mono ?_;rintro e w1 ⟨⟨y,rfl,hy⟩,ae⟩;clear x0 x1 r0 ai r1 aj;replace Hx:=kB Hx ae;replace Hr:=kB Hr ae;obtain⟨x0,x1⟩:=Hx.out.c2;obtain⟨r0,ai,r1,aj⟩:=Hr.out.g2;replace Hb:=au Hb ae;clear ae;have Hy:=ah hy;clear hy;go_wp2_with fail;refine(ul y _ _ _ hb Hy.out).mono ?_;rintro e w2 ⟨rfl,ae⟩;clear x0 x1 r0 ai r1 aj;replace Hx:=kB Hx ae;replace Hr:=kB Hr ae;obtain⟨x0,x1⟩:=Hx.out.c2;obtain⟨r0,ai,r1,aj⟩:=Hr.out.g2;replace Hb:=au Hb ae;clear ae;rw[Hm.out];go_wp2;clear x0 x1 r0 ai r1 aj;refine fF (bz w2 (w.heap.size+1) 0 [.bool (false),.string (bs m)]) bF ?_;intro w9 hs;replace Hx:=kS Hx hs zo;replace Hr:=bX Hr hs;obtain⟨x0,x1⟩:=Hx.out.c2;obtain⟨r0,ai,r1,aj⟩:=Hr.out.g2;replace Hb:=bS Hb hs ZS;clear hs;refine bodyPost_ret (v:=.agg #[.bool (false),.string (bs m)]) (by simp[results,Tryz.results117,go_sem,r0,r1]) rfl ⟨rfl,Hb.out⟩
theorem ajZ (l:List UInt8)(w:World)(hl:l.length<=68719476736):
 Calls Tryz.prog 117 #[.agg #[.bool true,.string (bs l)]] w λe w'=>e=.returned (.agg #[.bool (!(nt (nv l)).isEmpty),.string (bs (nt (nv l)))])/\Bw w w':=by
 have hb:=Nat.le_trans (gG (nM l)) (show 8*l.length<=1099511627776 by omega);have h1:=oK l;obtain⟨v,hv⟩:=aB (nv l);rw[hv]at hb⊢;simp only[hv]at h1;obtain⟨m,hm⟩:=aB (nt v);have he:=tK m;obtain⟨t,ht⟩:=aB m.isEmpty;obtain⟨H1,Hm⟩:=aL h1 hm;clear h1 hv;rw[hm,ht];rw[ht]at he;clear hm ht;obtain⟨W,dc,Hb,Hx,Hr⟩:=nO w 28 [.bool true,.string (bs l)] 28 [.bool false,.string ⟨#[]⟩];obtain⟨x0,x1⟩:=Hx.out.c2;obtain⟨r0,ai,r1,aj⟩:=Hr.out.g2;go_enter Tryz.func117,Tryz.ntmps117;go_wp2_with fail;refine(H1.out _ zo).mono ?_;rintro e w1 ⟨⟨y,rfl,hy⟩,ae⟩;clear x0 x1 r0 ai r1 aj;replace Hx:=kB Hx ae;replace Hr:=kB Hr ae;obtain⟨x0,x1⟩:=Hx.out.c2;obtain⟨r0,ai,r1,aj⟩:=Hr.out.g2;replace Hb:=au Hb ae;clear ae;have Hy:=ah hy;clear hy;go_wp2_with fail;refine(ul y _ _ _ hb Hy.out).mono ?_;rintro e w2 ⟨rfl,ae⟩;clear x0 x1 r0 ai r1 aj;replace Hx:=kB Hx ae;replace Hr:=kB Hr ae;obtain⟨x0,x1⟩:=Hx.out.c2;obtain⟨r0,ai,r1,aj⟩:=Hr.out.g2;replace Hb:=au Hb ae;clear ae;rw[Hm.out];go_wp2;clear x0 x1 r0 ai r1 aj;refine fF (bz w2 (w.heap.size+1) 0 [.bool (!t),.string (bs m)]) bF ?_;intro w9 hs;replace Hx:=kS Hx hs zo;replace Hr:=bX Hr hs;obtain⟨x0,x1⟩:=Hx.out.c2;obtain⟨r0,ai,r1,aj⟩:=Hr.out.g2;replace Hb:=bS Hb hs ZS;clear hs;refine bodyPost_ret (v:=.agg #[.bool (!t),.string (bs m)]) (by simp[results,Tryz.results117,go_sem,r0,r1]) rfl ⟨rfl,Hb.out⟩
theorem Et (s:Bool)(l:List UInt8)(w:World)(hl:l.length<=68719476736):
 Calls Tryz.prog 117 #[.agg #[.bool s,.string (bs l)]] w λe w'=>e=.returned (.agg #[.bool (s&& !(nt (nv l)).isEmpty),.string (bs (nt (nv l)))])/\Bw w w':=by
 cases s
 . exact ajY l w hl
 . exact ajZ l w hl
theorem OO (n:Nat)(w:World)(hn:n<=9223372036854775807):
 Calls Tryz.prog 80 #[.int .i64 (n:Int)] w λe w'=>e=.returned (.agg #[.bool false,.string (bs (nt n))])/\Bw w w':=by
 have h1:=λW=>aj9 n W (by rw[jr];omega);have H1:=ah h1;clear h1;have hw:IntKind.u64.wrap (n:Int)=(n:Int):=by rw[IntKind.wrap_u64];omega
 obtain⟨m,hm⟩:=aB (nt n);rw[hm];have Hm:=ah hm;clear hm;obtain⟨W,dc,Hb,Hr⟩:=iF w 28 [.bool false,.string ⟨#[]⟩];obtain⟨r0,ai,r1,aj⟩:=Hr.out.g2;go_enter Tryz.func80,Tryz.ntmps80;go_wp2_with fail;refine(H1.out _).mono ?_;rintro e w1 ⟨rfl,ae⟩;clear r0 ai r1 aj;replace Hr:=kB Hr ae;obtain⟨r0,ai,r1,aj⟩:=Hr.out.g2;replace Hb:=au Hb ae;clear ae;rw[Hm.out];go_wp2;clear r0 ai r1 aj;refine fF (bz w1 (w.heap.size) 0 [.bool false,.string (bs m)]) bF ?_;intro w9 hs;replace Hr:=bX Hr hs;obtain⟨r0,ai,r1,aj⟩:=Hr.out.g2;replace Hb:=bS Hb hs ZS;clear hs;refine bodyPost_ret (v:=.agg #[.bool false,.string (bs m)]) (by simp[results,Tryz.results80,go_sem,r0,r1]) rfl ⟨rfl,Hb.out⟩
theorem Ye (l:List UInt8)(w:World)(hl:l.length<=68719476736):
 Calls Tryz.prog 104 #[.string (bs l)] w λe w'=>e=.returned (.int .i64 (bA (nv l):Int))/\Bw w w':=by
 go_enter Tryz.func104,Tryz.ntmps104;go_wp2_with fail;refine(oK l w hl).mono ?_;rintro e w1 ⟨⟨y,rfl,hy⟩,ae⟩;obtain⟨a,cap,rfl⟩:=hy.len;have Hb:=ah ae;clear hy ae;go_wp2;go_ret;exact⟨rfl,Hb.out⟩
theorem Yk (s:Bool)(l:List UInt8)(w:World)(hl:l.length<=68719476736)(h0:nv l=0):
 Calls Tryz.prog 66 #[.agg #[.bool s,.string (bs l)]] w λe w'=>e=.returned (.int .i64 0)/\Bw w w':=by
 have h1:=Ye l;rw[h0]at h1;have H1:=ah h1;clear h1 h0;obtain⟨W,dc,Hb,Hx⟩:=iF w 28 [.bool s,.string (bs l)];obtain⟨x0,x1⟩:=Hx.out.c2;go_enter Tryz.func66,Tryz.ntmps66;go_wp2_with fail;refine(H1.out _ hl).mono ?_;rintro e w1 ⟨rfl,ae⟩;clear x0 x1;replace Hx:=kB Hx ae;obtain⟨x0,x1⟩:=Hx.out.c2;replace Hb:=au Hb ae;clear ae;rw[adh];go_wp2;go_ret;exact⟨rfl,Hb.out⟩
theorem aj2 (s:Bool)(n:Nat)(w:World)(h0:0<n)(hl:(nt (2*n)).length<=68719476736):
 Calls Tryz.prog 118 #[.agg #[.bool s,.string (bs (nt (2*n)))],.agg #[.bool false,.string (bs (nt 2))]] w λe w'=>e=.returned (.tuple #[.agg #[.bool s,.string (bs (nt n))],.agg #[.bool false,.string (bs [])],.bool true])/\Bw w w':=by
 have hd:=λW=>ajU (nt (2*n)) (nt 2) W hl zd (by rw[jd];decide);simp only[jd]at hd;have e1:2*n/2=n:=by omega
 have e2:2*n%2=0:=by omega
 rw[e1,e2,yh]at hd;have rV:(nt n).length<=68719476736:=Nat.le_trans (jc (Nat.lt_of_le_of_lt (show n<=2*n by omega) (ahR (2*n)))) hl;have hf:=λW=>Et s (nt n) W rV;have hg:=λW=>Et s [] W zd;have hs:=λW=>Yk false [] W zd rfl;simp only[jd,vU,yh,List.isEmpty_nil,Bool.not_true,Bool.and_false]at hf hg;have e3:(nt n).isEmpty=false:=by
  have:=IA h0;cases h:nt n with
  |nil=>exact absurd h this
  |cons a b=>rfl
 rw[e3]at hf;simp only[Bool.not_false,Bool.and_true]at hf;generalize nt (2*n)=L at*;generalize nt n=M at*;generalize nt 2=T at*;obtain⟨Hd,Hf,Hg,Hs⟩:=dW hd hf hg hs;clear hd hf hg hs e1 e2 e3 hl rV;have hne:(s !=false)=s:=by cases s<;>rfl
 obtain⟨W,dc,Hb,Hx,Hy,Hp,Hq⟩:=Ed w 28 [.bool s,.string (bs L)] 28 [.bool false,.string (bs T)] 28 [.bool false,.string ⟨#[]⟩] 28 [.bool false,.string ⟨#[]⟩];obtain⟨x0,x1⟩:=Hx.out.c2;obtain⟨y0,y1⟩:=Hy.out.c2;obtain⟨p0,lG,p1,lH⟩:=Hp.out.g2;obtain⟨q0,bL,q1,bM⟩:=Hq.out.g2;go_enter Tryz.func118,Tryz.ntmps118;go_wp2_with fail;refine(Hd.out _).mono ?_;rintro e w1 ⟨rfl,ae⟩;clear x0 x1 y0 y1 p0 lG p1 lH q0 bL q1 bM;replace Hx:=kB Hx ae;replace Hy:=kB Hy ae;replace Hp:=kB Hp ae;replace Hq:=kB Hq ae;obtain⟨x0,x1⟩:=Hx.out.c2;obtain⟨y0,y1⟩:=Hy.out.c2;obtain⟨p0,lG,p1,lH⟩:=Hp.out.g2;obtain⟨q0,bL,q1,bM⟩:=Hq.out.g2;replace Hb:=au Hb ae;clear ae;go_wp2_with fail;refine(Hf.out _).mono ?_;rintro e w2 ⟨rfl,ae⟩;clear x0 x1 y0 y1 p0 lG p1 lH q0 bL q1 bM;replace Hx:=kB Hx ae;replace Hy:=kB Hy ae;replace Hp:=kB Hp ae;replace Hq:=kB Hq ae;obtain⟨x0,x1⟩:=Hx.out.c2;obtain⟨y0,y1⟩:=Hy.out.c2;obtain⟨p0,lG,p1,lH⟩:=Hp.out.g2;obtain⟨q0,bL,q1,bM⟩:=Hq.out.g2;replace Hb:=au Hb ae;clear ae;have aoE:=Hx.out.lt;have aoH:=Hy.out.lt;have aoi:=Hp.out.lt;have aol:=Hq.out.lt;obtain⟨W2,pz,ae,Hu⟩:=cN w2 28 [.bool s,.string (bs M)];clear x0 x1;replace Hx:=kB Hx ae;clear y0 y1;replace Hy:=kB Hy ae;clear p0 lG p1 lH;replace Hp:=kB Hp ae;clear q0 bL q1 bM;replace Hq:=kB Hq ae;obtain⟨x0,x1⟩:=Hx.out.c2;obtain⟨y0,y1⟩:=Hy.out.c2;obtain⟨p0,lG,p1,lH⟩:=Hp.out.g2;obtain⟨q0,bL,q1,bM⟩:=Hq.out.g2;obtain⟨u0,u1⟩:=Hu.out.c2;replace Hb:=au Hb ae;clear ae;go_wp2_with fail;refine(Hg.out _).mono ?_;rintro e w3 ⟨rfl,ae⟩;clear x0 x1 y0 y1 p0 lG p1 lH q0 bL q1 bM u0 u1;replace Hx:=kB Hx ae;replace Hy:=kB Hy ae;replace Hp:=kB Hp ae;replace Hq:=kB Hq ae;replace Hu:=kB Hu ae;obtain⟨x0,x1⟩:=Hx.out.c2;obtain⟨y0,y1⟩:=Hy.out.c2;obtain⟨p0,lG,p1,lH⟩:=Hp.out.g2;obtain⟨q0,bL,q1,bM⟩:=Hq.out.g2;obtain⟨u0,u1⟩:=Hu.out.c2;replace Hb:=au Hb ae;clear ae;have ah4:=Hx.out.lt;have ah6:=Hy.out.lt;have ahX:=Hp.out.lt;have aom:=Hq.out.lt;have aoy:=Hu.out.lt;obtain⟨W3,CZ,ae,Hv⟩:=cN w3 28 [.bool false,.string (bs [])];clear x0 x1;replace Hx:=kB Hx ae;clear y0 y1;replace Hy:=kB Hy ae;clear p0 lG p1 lH;replace Hp:=kB Hp ae;clear q0 bL q1 bM;replace Hq:=kB Hq ae;clear u0 u1;replace Hu:=kB Hu ae;obtain⟨x0,x1⟩:=Hx.out.c2;obtain⟨y0,y1⟩:=Hy.out.c2;obtain⟨p0,lG,p1,lH⟩:=Hp.out.g2;obtain⟨q0,bL,q1,bM⟩:=Hq.out.g2;obtain⟨u0,u1⟩:=Hu.out.c2;obtain⟨v0,v1⟩:=Hv.out.c2;replace Hb:=au Hb ae;clear ae;go_wp2_with fail;refine(Hs.out _).mono ?_;rintro e w4 ⟨rfl,ae⟩;clear x0 x1 y0 y1 p0 lG p1 lH q0 bL q1 bM u0 u1 v0 v1;replace Hx:=kB Hx ae;replace Hy:=kB Hy ae;replace Hp:=kB Hp ae;replace Hq:=kB Hq ae;replace Hu:=kB Hu ae;replace Hv:=kB Hv ae;obtain⟨x0,x1⟩:=Hx.out.c2;obtain⟨y0,y1⟩:=Hy.out.c2;obtain⟨p0,lG,p1,lH⟩:=Hp.out.g2;obtain⟨q0,bL,q1,bM⟩:=Hq.out.g2;obtain⟨u0,u1⟩:=Hu.out.c2;obtain⟨v0,v1⟩:=Hv.out.c2;replace Hb:=au Hb ae;clear ae;go_wp2_with fail;have lp:=Hp.out.lt;have lq:=Hq.out.lt;refine bJ (λw'=>w'.cell? ⟨w2.heap.size,0,none⟩=some (.bool s)/\w'.cell? ⟨w2.heap.size,1,none⟩=some (.string (bs M))/\w'.cell? ⟨w3.heap.size,0,none⟩=some (.bool false)/\w'.cell? ⟨w3.heap.size,1,none⟩=some (.string (bs []))) (λi=>Nat.blt i 3) [(0,true),(1,true),(2,false),(3,false),(4,false)] zk zk rfl zk zc ⟨u0,u1,v0,v1⟩ ?_;iterate 2 (refine pT rfl rfl ?_ (by intro w' ⟨q0,q1,q2,q3⟩;go_simp;try with_reducible rfl);try simp only[UU])
 refine aI rfl rfl (λK hK=>?_);go_simp;refine hK _ _ (λ_=>⟨(aH zf (aH zf u0)),(aH zf (aH zf u1)),(aH zf (aH zf v0)),(aH zf (aH zf v1))⟩) ?_;clear hK K;try simp only[UU]
 clear x0 x1 y0 y1 p0 lG p1 lH q0 bL q1 bM u0 u1 v0 v1;refine bN (bz w4 (w.heap.size+1+1) 0 [.bool s,.string (bs M)]) bF ?_;intro w5 hs;replace Hx:=kS Hx hs zo;replace Hy:=kS Hy hs zo;replace Hp:=bX Hp hs;replace Hq:=kS Hq hs zo;replace Hu:=kS Hu hs zo;replace Hv:=kS Hv hs zo;obtain⟨x0,x1⟩:=Hx.out.c2;obtain⟨y0,y1⟩:=Hy.out.c2;obtain⟨p0,lG,p1,lH⟩:=Hp.out.g2;obtain⟨q0,bL,q1,bM⟩:=Hq.out.g2;obtain⟨u0,u1⟩:=Hu.out.c2;obtain⟨v0,v1⟩:=Hv.out.c2;replace Hb:=bS Hb hs ZS;clear hs;refine aI rfl rfl (λK hK=>?_);go_simp;refine hK _ _ (λh=>absurd h zd) ?_;clear hK K;try simp only[UU]
 clear x0 x1 y0 y1 p0 lG p1 lH q0 bL q1 bM u0 u1 v0 v1;refine bN (bz w5 (w.heap.size+1+1+1) 0 [.bool false,.string (bs [])]) bF ?_;intro w6 hs;replace Hx:=kS Hx hs zo;replace Hy:=kS Hy hs zo;replace Hp:=kS Hp hs zo;replace Hq:=bX Hq hs;replace Hu:=kS Hu hs zo;replace Hv:=kS Hv hs zo;obtain⟨x0,x1⟩:=Hx.out.c2;obtain⟨y0,y1⟩:=Hy.out.c2;obtain⟨p0,lG,p1,lH⟩:=Hp.out.g2;obtain⟨q0,bL,q1,bM⟩:=Hq.out.g2;obtain⟨u0,u1⟩:=Hu.out.c2;obtain⟨v0,v1⟩:=Hv.out.c2;replace Hb:=bS Hb hs ZS;clear hs;refine aI rfl rfl (λK hK=>?_);go_simp;refine hK _ _ (λh=>absurd h zd) ?_;clear hK K;try simp only[UU]
 simp only[aU];go_wp2;refine bodyPost_ret (v:=.tuple #[.agg #[.bool s,.string (bs M)],.agg #[.bool false,.string (bs [])],.bool true]) (by simp[results,Tryz.results118,go_sem,p0,p1,q0,q1]) rfl ⟨rfl,Hb.out⟩
def cc (v u k:Nat):Nat:=(v%2^k+u%2^k)/2^k
theorem adz (v u:Nat):cc v u 0=0:=by simp[cc,Nat.mod_one]
theorem adx (v u k:Nat):cc v u k<=1:=by unfold cc;have h:0<2^k:=Nat.pow_pos zd;have h1:=Nat.mod_lt v h;have h2:=Nat.mod_lt u h;rw[<-Nat.lt_succ_iff,Nat.div_lt_iff_lt_mul h];omega
theorem ady (v u k:Nat):bd (v+u) k=(bd v k+bd u k+cc v u k)%2/\cc v u (k+1)=(bd v k+bd u k+cc v u k)/2:=by
 have hM:0<2^k:=Nat.pow_pos zd;have ha:=Nat.mod_lt v hM;have hb:=Nat.mod_lt u hM;have e1:v=2^k* (v/2^k)+v%2^k:=(Nat.div_add_mod v _).symm;have e2:u=2^k* (u/2^k)+u%2^k:=(Nat.div_add_mod u _).symm;have es:(v+u)/2^k=v/2^k+u/2^k+cc v u k:=by
  unfold cc;have:v+u=(v%2^k+u%2^k)+2^k* (v/2^k+u/2^k):=by rw[Nat.mul_add];omega
  rw[this,Nat.add_mul_div_left _ _ hM];omega
 have m1:v%2^(k+1)=v%2^k+2^k*bd v k:=by rw[Nat.pow_succ,Nat.mod_mul];rfl
 have m2:u%2^(k+1)=u%2^k+2^k*bd u k:=by rw[Nat.pow_succ,Nat.mod_mul];rfl
 constructor
 . unfold bd at*;rw[es];omega
 . have e3:cc v u (k+1)=((v%2^k+u%2^k)+2^k* (bd v k+bd u k))/2^k/2:=by rw[Nat.div_div_eq_div_mul,<-Nat.pow_succ];unfold cc;rw[m1,m2,Nat.mul_add];congr 1;omega
   rw[e3,Nat.add_mul_div_left _ _ hM];show(cc v u k+_)/2=_
   congr 1;omega
theorem ac9 (u p i:Nat):bd (u*2^p) i=if p<=i then bd u (i-p)else 0:=by
 unfold bd;by_cases h:p<=i
 . rw[if_pos h];obtain⟨j,rfl⟩:∃j,i=p+j:=⟨i-p,by omega⟩;rw[Nat.pow_add,<-Nat.div_div_eq_div_mul,Nat.mul_div_cancel _ (Nat.pow_pos zd),show p+j-p=j by omega]
 . rw[if_neg h];obtain⟨j,rfl⟩:∃j,p=i+1+j:=⟨p-i-1,by omega⟩;rw[show u*2^(i+1+j)=(u*2^j*2) *2^i by rw[Nat.pow_add,Nat.pow_add,Nat.pow_one];simp only[Nat.mul_assoc,Nat.mul_comm,Nat.mul_left_comm],Nat.mul_div_cancel _ (Nat.pow_pos zd)];omega
theorem OP (x y:Value)(n m v u p:Nat)(w:World)(hx:Bv w x n v)(hy:Bv w y m u)(hn:n<=1099511627775)(hm:m+p<=1099511627775):
 Calls Tryz.prog 157 #[x,y,.int .i64 (p:Int)] w λe w'=>(∃z,e=.returned z/\Bv w' z (max n (m+p)+1) (v+u*2^p))/\Bw w w':=by
 obtain⟨a,cap,jI⟩:=hx.len;obtain⟨a',cap',DU⟩:=hy.len;have oz:=λW (hW:Bw w W) i (hi:i<=1099511627776)=>AB x n v i W (hx.below hW) hi zo;have hby:=λW (hW:Bw w W) i (hi:i<=1099511627776)=>AB y m u i W (hy.below hW) hi zo;obtain⟨L,hL⟩:=aB (max n (m+p)+1);obtain⟨U,hU⟩:=aB (u*2^p);have tH:Hid (v+U<2^L):=by
  show _<_
  have h1:v<2^(L-1):=Nat.lt_of_lt_of_le hx.1 (Nat.pow_le_pow_right zd zo);have h2:U<2^(L-1):=by rw[<-hU];have h3:u*2^p<2^m*2^p:=Nat.mul_lt_mul_of_pos_right hy.1 (Nat.pow_pos zd);rw[<-Nat.pow_add]at h3;exact Nat.lt_of_lt_of_le h3 (Nat.pow_le_pow_right zd zo)
  rw[show L=L-1+1 by omega,Nat.pow_succ];omega
 have Uy:∀i,bd U i=if p<=i then bd u (i-p)else 0:=λi=>by rw[<-hU];exact ac9 u p i
 have hLI:max (n:Int) ((m:Int)+(p:Int))+1=(L:Int):=by omega
 have hLb:L<=1099511627776:=by omega
 subst jI;subst DU;have hmk:=sD (L:Int) L rfl zo;rw[hU,hL];obtain⟨Bt,Bu,HbU⟩:=cL oz hby Uy;clear oz hby hx hy Uy hU hL;go_enter Tryz.func157,Tryz.ntmps157;go_wp2_with fail;go_loopw[8,9,10] (λb i _ wr=>∃k:Nat,k<=L/\i=.int .i64 (k:Int)/\b=.int .u8 (cc v U k:Int)/\ak wr w.heap.size 5 (cQ L (λj=>if j<k then bd (v+U) j else 0))/\Bw w wr) (λ_ i _ _=>L-(intOf i).toNat);case atStart=>
  refine⟨0,Nat.zero_le _,rfl,by rw[adz];rfl,?_,zl⟩;have e:cQ L (λj=>if j<0 then bd (v+U) j else 0)=cQ L λ_=>0:=mS λj hj=>by rw[if_neg zo]
  rw[e];exact ak.new _ _ _
 case round=>
  obtain⟨k,hk,rfl,rfl,hB,hb⟩:=hrel;by_cases hlt:k<L
  . have H1:=ah (Bt.out wr hb k zo);obtain⟨hs,hs2⟩:=ady v U k;have hp1:=rK v k;have hq:=rK U k;have hr:=adx v U k;have Nf:=HbU.out k;have hcell:wr.cell? ⟨w.heap.size,k,none⟩=some (.int .u8 0):=by rw[hB.cell,kZ _ _ _ hlt,if_neg zo];rfl
    have hfree:wr.frozen? ⟨w.heap.size,k,none⟩=false:=hB.free _;have bV:=hB.set k (.int .u8 ((bd (v+U) k:Nat):Int))
    rw[yw,mS (g:=λj=>if j<k+1 then bd (v+U) j else 0) λj hj=>by
     by_cases e:j=k
     . subst e;rw[if_pos rfl,if_pos zo]
     . rw[if_neg e];by_cases e2:j<k
       . rw[if_pos e2,if_pos zo]
       . rw[if_neg e2,if_neg zo]]at bV
    obtain⟨eH,Hb⟩:=aL bV (hb.setCell (p:=⟨w.heap.size,k,none⟩) (Nat.le_refl _) (.int .u8 ((bd (v+U) k:Nat):Int)));have H2:p<=k->Calls Tryz.prog 179 #[.slice a' m cap',.int .i64 ((k-p:Nat):Int)] wr λe w'=>e=.returned (.int .u8 (bd U k:Int))/\wr=w':=λh=>by rw[Nf,if_pos h];exact Bu.out wr hb (k-p) zo
    have hq0:¬p<=k->bd U k=0:=λh=>by rw[Nf,if_neg h]
    have bD:=vG L L k (k:Int) (rfl:(some ⟨w.heap.size,0,none⟩:Option Addr)=_) hlt rfl;rw[Nat.mul_one,Nat.zero_add]at bD;clear hB bV hb Nf;generalize bd v k=P at*;generalize bd U k=q at*;generalize hrr:cc v U k=r at*;generalize bd (v+U) k=z at*;obtain⟨H2,Hq0,iX⟩:=cL H2 hq0 hs2;clear hq0 hs2 hrr;obtain⟨S,hS⟩:=aB (P+q+r);have hS3:S<=3:=by omega
    have hw1:IntKind.u8.wrap ((P:Int)+(r:Int))=(P:Int)+(r:Int):=by rw[IntKind.wrap_u8];omega
    have hw2:IntKind.u8.wrap ((P:Int)+(r:Int)+(q:Int))=(S:Int):=by rw[IntKind.wrap_u8];omega
    have hand:bits .and .u8 (S:Int) 1=(z:Int):=by rw[KV S zo,hs,<-hS]
    obtain⟨HS,Hs⟩:=aL hS hs;clear hS hs;go_wp2_with fail;refine H1.out.mono ?_;rintro e w' ⟨rfl,rfl⟩;by_cases hpk:p<=k
    . have H3:=ah (H2.out hpk);have nu:((k:Int)-(p:Int))=((k-p:Nat):Int):=by omega
      go_wp2_with fail;refine H3.out.mono ?_;rintro e w' ⟨rfl,rfl⟩;go_wp2;go_roundw;case rel=>refine⟨k+1,by omega,by go_num,?_,eH.out,Hb.out⟩;have h1:=iX.out;have h2:=HS.out;rw[h1];congr 1;omega
      case measure=>simp[intOf];omega
    . have hq1:=Hq0.out hpk;subst hq1;have hw3:IntKind.u8.wrap ((P:Int)+(r:Int))=(S:Int):=by rw[hw1];have:=HS.out;omega
      clear hw1 hw2;go_wp2;go_roundw;case rel=>refine⟨k+1,by omega,by go_num,?_,eH.out,Hb.out⟩;have h1:=iX.out;have h2:=HS.out;rw[h1];congr 1;omega
      case measure=>simp[intOf];omega
  . obtain rfl:k=L:=by omega
    rw[mS (g:=bd (v+U)) λj hj=>by rw[if_pos hj]]at hB;obtain⟨Hz,Hb⟩:=aL (Bv.apk hB tH.out) hb;clear hB hb;go_wp2;go_ret;exact⟨⟨_,rfl,Hz.out⟩,Hb.out⟩
theorem ajP (xs:List (List UInt8))(a:Option Addr)(cap:Nat)(w:World)(hl:∀l∈xs,l.length<=68719476736)(hx:xs.length<=1048576)
 (ha:At w a (xs.map λl=>.string (bs l))):
 Calls Tryz.prog 129 #[.slice a xs.length cap] w λe w'=>e=.returned (.string (bs (nt (gS xs))))/\Bw w w':=by
 obtain⟨Hl,Ha⟩:=aL hl ha;clear hl ha;go_enter Tryz.func129,Tryz.ntmps129;go_wp2_with fail;go_loopw[3,4] (λz i wr=>∃k n:Nat,k<=xs.length/\n<=549755813888+k/\i=.int .i64 (k:Int)/\Bv wr z n (gS (xs.take k))/\Bw w wr) (λ_ i _=>xs.length-(intOf i).toNat);case atStart=>exact⟨0,0,Nat.zero_le _,Nat.zero_le _,rfl,⟨by simp[gS],.inl ⟨rfl,rfl⟩⟩,Below.refl _ _⟩
 case round=>
  obtain⟨k,n,hk,hn,rfl,hz,hb⟩:=hrel;by_cases hlt:k<xs.length
  . have hne:(xs.map λl=>Value.string (bs l))≠[]:=by intro h0;have:=congrArg List.length h0;simp at this;subst this;simp at hlt
    obtain⟨b,o,hab,hcs⟩:=(Ha.out.below hb).get hne;have hcell:wr.cell? ⟨b,o+k,none⟩=some (.string (bs xs[k])):=by rw[hcs k (by simpa using hlt)];simp[hlt]
    have bD:=Wx xs.length cap k (k:Int) hab hlt rfl;rw[Nat.mul_one]at bD;clear hcs hne;have ky:Hid (xs[k].length<=68719476736):=Hl.out _ (List.getElem_mem hlt);obtain⟨cd,jB⟩:=aL (Xu xs k hlt) hab;clear hab;generalize xs[k]=x at*;have oz:bA (nv x)<=549755813888:=Nat.le_trans (gG (nM x)) (by have:=ky.out;omega);obtain⟨Hz,Hb⟩:=aL hz hb;clear hz hb;go_wp2_with fail;refine(oK x _ ky.out).mono ?_;rintro e w1 ⟨⟨y,rfl,hy⟩,hb1⟩;obtain⟨Hy,bQ⟩:=aL hy hb1;clear hy hb1;go_wp2_with fail;refine(OP u3 y n (bA (nv x)) (gS (xs.take k)) (nv x) 0 w1 (Hz.out.below bQ.out) Hy.out zo zo).mono ?_;rintro e w2 ⟨⟨z,rfl,hz⟩,hb2⟩;obtain⟨cE,bP⟩:=aL hz hb2;clear hz hb2;go_wp2;go_roundw;case rel=>have h:=cE.out;rw[Nat.pow_zero,Nat.mul_one,<-cd.out]at h;exact⟨k+1,_,by omega,by omega,by go_num,h,aJ Hb.out (aJ bQ.out bP.out)⟩
    case measure=>simp[intOf];omega
  . obtain rfl:k=xs.length:=by omega
    rw[List.take_length]at hz;obtain⟨Hz,Hb⟩:=aL hz hb;clear hz hb;go_wp2_with fail;refine(ul u3 n (gS xs) wr zo Hz.out).mono ?_;rintro e w1 ⟨rfl,hb1⟩;have bQ:=ah hb1;clear hb1;go_wp2;go_ret;exact⟨rfl,aJ Hb.out bQ.out⟩
theorem XY (l m:List UInt8)(w:World)(hl:l.length<=68719476736)(hm:m.length<=68719476736):
 Calls Tryz.prog 158 #[.string (bs l),.string (bs m)] w λe w'=>e=.returned (.int .i64 (dh (nv l) (nv m)))/\Bw w w':=by
 have hbl:=Nat.le_trans (gG (nM l)) (show 8*l.length<=549755813888 by omega);have Gr:=Nat.le_trans (gG (nM m)) (show 8*m.length<=549755813888 by omega);go_enter Tryz.func158,Tryz.ntmps158;go_wp2_with fail;refine(oK l w hl).mono ?_;rintro e w1 ⟨⟨y,rfl,hy⟩,hb1⟩;obtain⟨Hy,bQ⟩:=aL hy hb1;clear hy hb1;go_wp2_with fail;refine(oK m w1 hm).mono ?_;rintro e w2 ⟨⟨z,rfl,hz⟩,hb2⟩;obtain⟨Hz,bP⟩:=aL hz hb2;clear hz hb2;go_wp2_with fail;refine(XZ y z _ _ (nv l) (nv m) w2 (Hy.out.below bP.out) Hz.out zo zo).mono ?_;rintro e w' ⟨rfl,rfl⟩;go_wp2;go_ret;exact⟨rfl,aJ bQ.out bP.out⟩
theorem SA (S u:Nat):dh S u<0↔S<u:=by
 unfold dh;by_cases h1:S<u
 . rw[if_pos h1];omega
 . rw[if_neg h1];by_cases h2:u<S
   . rw[if_pos h2];omega
   . rw[if_neg h2];omega
theorem akq (l m:List UInt8)(w:World)(hl:l.length<=68719476736)(hm:m.length<=68719476736)(h:nv l<nv m):
 Calls Tryz.prog 130 #[.string (bs l),.string (bs m)] w λe w'=>e=.returned (.tuple #[.string ⟨#[]⟩,.bool false])/\Bw w w':=by
 have hc:=(SA (nv l) (nv m)).2 h;have H1:=ah (XY l m w hl hm);clear h;generalize dh (nv l) (nv m)=c at*;go_enter Tryz.func130,Tryz.ntmps130;go_wp2_with fail;refine H1.out.mono ?_;rintro e w1 ⟨rfl,hb1⟩;have bQ:=ah hb1;clear hb1;go_wp2;go_ret2
 exact⟨rfl,bQ.out⟩
theorem Ym (l m:List UInt8)(w:World)(hl:l.length<=68719476736)(hm:m.length<=68719476736)(h:nv m<=nv l):
 Calls Tryz.prog 130 #[.string (bs l),.string (bs m)] w λe w'=>e=.returned (.tuple #[.string (bs (nt (nv l-nv m))),.bool true])/\Bw w w':=by
 have hc:¬dh (nv l) (nv m)<0:=λh2=>by have:=(SA (nv l) (nv m)).1 h2;omega
 have hbl:=Nat.le_trans (gG (nM l)) (show 8*l.length<=549755813888 by omega);have Gr:=Nat.le_trans (gG (nM m)) (show 8*m.length<=549755813888 by omega);obtain⟨H1,H2,H3⟩:=cL (XY l m w hl hm) (λW=>oK l W hl) (λW=>oK m W hm);generalize dh (nv l) (nv m)=c at*;go_enter Tryz.func130,Tryz.ntmps130;go_wp2_with fail;refine H1.out.mono ?_;rintro e w1 ⟨rfl,hb1⟩;have bQ:=ah hb1;clear hb1;go_wp2_with fail;refine(H2.out w1).mono ?_;rintro e w2 ⟨⟨y,rfl,hy⟩,hb2⟩;obtain⟨Hy,bP⟩:=aL hy hb2;clear hy hb2;go_wp2_with fail;refine(H3.out w2).mono ?_;rintro e w3 ⟨⟨z,rfl,hz⟩,hb3⟩;obtain⟨Hz,ey⟩:=aL hz hb3;clear hz hb3;go_wp2_with fail;refine(Yg y z _ _ (nv l) (nv m) w3 (Hy.out.below ey.out) Hz.out zo zo h).mono ?_;rintro e w4 ⟨⟨d,rfl,hd,_⟩,hb4⟩;obtain⟨Hd,jC⟩:=aL hd hb4;clear hd hb4;go_wp2_with fail;refine(ul d _ (nv l-nv m) w4 zo Hd.out).mono ?_;rintro e w5 ⟨rfl,dK⟩;have fL:=ah dK;clear dK;go_wp2;go_ret2
 exact⟨rfl,aJ bQ.out (aJ bP.out (aJ ey.out (aJ jC.out fL.out)))⟩
theorem AC (s:Bool)(l:List UInt8)(Z:Int)(hZ:iv s l=Z)(w:World)(hl:l.length<=68719476736):
 Calls Tryz.prog 117 #[.agg #[.bool s,.string (bs l)]] w λe w'=>e=.returned (.agg #[.bool (ar Z),.string (bs (nt Z.natAbs))])/\Bw w w':=by
 have h:=Et s l w hl;rw[<-ND,<-nE s l,hZ]at h;exact h
theorem akn (s:Bool)(l:List UInt8)(w:World)(hl:l.length<=68719476736):
 Calls Tryz.prog 66 #[.agg #[.bool s,.string (bs l)]] w λe w'=>e=.returned (.int .i64 (eu (iv s l)))/\Bw w w':=by
 by_cases h0:nv l=0
 . have e:eu (iv s l)=0:=by unfold iv;rw[h0];cases s<;>rfl
   rw[e];exact Yk s l w hl h0
 . have h1:=Ye l;have hbp:=Cv (v:=nv l) zo;have e:eu (iv s l)=if s then-1 else 1:=by unfold iv eu;cases s<;>simp<;>omega
   rw[e];generalize bA (nv l)=B at*;have hB:((B:Int)==0)=false:=by simp;omega
   have H1:=ah h1;clear h1 e h0;obtain⟨W,dc,Hb,Hx⟩:=iF w 28 [.bool s,.string (bs l)];obtain⟨x0,x1⟩:=Hx.out.c2;go_enter Tryz.func66,Tryz.ntmps66;go_wp2_with fail;refine(H1.out _ hl).mono ?_;rintro e w1 ⟨rfl,ae⟩;clear x0 x1;replace Hx:=kB Hx ae;obtain⟨x0,x1⟩:=Hx.out.c2;replace Hb:=au Hb ae;clear ae;cases s with
   |false=>go_wp2;go_ret;exact⟨rfl,Hb.out⟩
   |true=>go_wp2;go_ret;exact⟨rfl,Hb.out⟩
theorem akg (s:Bool)(l m:List UInt8)(Z:Int)(hZ:iv s l+iv s m=Z)(w:World)(hl:l.length<=1048576)(hm:m.length<=1048576):
 Calls Tryz.prog 90 #[.agg #[.bool s,.string (bs l)],.agg #[.bool s,.string (bs m)]] w λe w'=>e=.returned (.agg #[.bool (ar Z),.string (bs (nt Z.natAbs))])/\Bw w w':=by
 have es:gS [l,m]=nv l+nv m:=by simp[gS]
 have ha:∀W b,At W (some ⟨b,0,none⟩) [.string (bs l),.string (bs m)]->Calls Tryz.prog 129 #[.slice (some ⟨b,0,none⟩) 2 2] W λe w'=>e=.returned (.string (bs (nt (nv l+nv m))))/\Bw W w':=by intro W b h;rw[<-es];exact ajP [l,m] (some ⟨b,0,none⟩) 2 W (by intro x hx;simp at hx;rcases hx with rfl|rfl<;>omega) (by show 2<=1048576;decide) h
 have hlen:(nt (nv l+nv m)).length<=68719476736:=by have h1:=gb l;have h2:=gb m;obtain⟨N,hN⟩:=aB (max l.length m.length);refine Nat.le_trans (jc (k:=N+1) ?_) zo;have h3:256^l.length<=256^N:=Nat.pow_le_pow_right zd zo;have h4:256^m.length<=256^N:=Nat.pow_le_pow_right zd zo;rw[Nat.pow_succ];omega
 have hf:=λW=>AC s (nt (nv l+nv m)) Z (by rw[<-hZ,mL];unfold iv;cases s<;>simp<;>omega) W hlen;obtain⟨Ha,Hf⟩:=aL ha hf;clear ha hf hlen es hZ;generalize nt (nv l+nv m)=S at*;obtain⟨W,dc,Hb,Hx,Hy,Hr⟩:=rq w 28 [.bool s,.string (bs l)] 28 [.bool s,.string (bs m)] 28 [.bool false,.string ⟨#[]⟩];obtain⟨x0,x1⟩:=Hx.out.c2;obtain⟨y0,y1⟩:=Hy.out.c2;obtain⟨r0,ai,r1,aj⟩:=Hr.out.g2;go_enter Tryz.func90,Tryz.ntmps90;go_wp2_with fail;refine bJ (λw'=>w'.cell? ⟨w.heap.size,0,none⟩=some (.bool s)/\w'.cell? ⟨w.heap.size,1,none⟩=some (.string (bs l))/\w'.cell? ⟨w.heap.size+1,0,none⟩=some (.bool s)/\w'.cell? ⟨w.heap.size+1,1,none⟩=some (.string (bs m))) (λi=>Nat.blt i 10) [(0,true),(1,true),(2,true),(3,true),(4,true),(5,true),(6,false),(7,false),(8,true),(9,false),(10,false)] zk zk rfl zk zc ⟨x0,x1,y0,y1⟩ ?_;iterate 6 (refine pT rfl rfl ?_ (by intro w' ⟨q0,q1,q2,q3⟩;go_simp;try with_reducible rfl);try simp only[UU])
 refine aI rfl rfl (λK hK=>?_);go_simp;refine hK _ _ (λ_=>⟨aG x0,aG x1,aG y0,aG y1⟩) ?_;clear hK K;try simp only[UU]
 refine bN (λW1=>ak W1 (W.heap.size) 9 [.string (bs l),.string (bs m)]/\Bw W W1) (by first|exact dP|exact dQ) ?_;rintro W1 ⟨qv,ae⟩;clear x0 x1 y0 y1 r0 ai r1 aj;have ah3:=Hx.out.lt;have ah5:=Hy.out.lt;have DY:=Hr.out.lt;replace Hx:=kB Hx ae;replace Hy:=kB Hy ae;replace Hr:=kB Hr ae;have Hv:=ah qv;clear qv;obtain⟨x0,x1⟩:=Hx.out.c2;obtain⟨y0,y1⟩:=Hy.out.c2;obtain⟨r0,ai,r1,aj⟩:=Hr.out.g2;obtain⟨v0,v1⟩:=Hv.out.c2;replace Hb:=au Hb ae;clear ae;refine aI rfl rfl (λK hK=>?_);go_simp;with_reducible refine(Ha.out _ _ (At.apk Hv.out)).mono ?_
 rintro e w2 ⟨rfl,hq⟩;have ae:Bw W1 w2:=by first|exact hq|exact aM hq
 clear x0 x1 y0 y1 r0 ai r1 aj v0 v1;replace Hx:=kB Hx ae;replace Hy:=kB Hy ae;replace Hr:=kB Hr ae;replace Hv:=kB Hv ae;obtain⟨x0,x1⟩:=Hx.out.c2;obtain⟨y0,y1⟩:=Hy.out.c2;obtain⟨r0,ai,r1,aj⟩:=Hr.out.g2;obtain⟨v0,v1⟩:=Hv.out.c2;replace Hb:=au Hb ae;clear ae;refine hK _ _ (λ_=>⟨x0,x1,y0,y1⟩) ?_;clear hK K;try simp only[UU]
 refine pT rfl rfl ?_;try simp only[UU]
 refine aI rfl rfl (λK hK=>?_);go_simp;with_reducible refine(Hf.out _).mono ?_
 rintro e w3 ⟨rfl,hq⟩;have ae:Bw w2 w3:=by first|exact hq|exact aM hq
 clear x0 x1 y0 y1 r0 ai r1 aj v0 v1;replace Hx:=kB Hx ae;replace Hy:=kB Hy ae;replace Hr:=kB Hr ae;replace Hv:=kB Hv ae;obtain⟨x0,x1⟩:=Hx.out.c2;obtain⟨y0,y1⟩:=Hy.out.c2;obtain⟨r0,ai,r1,aj⟩:=Hr.out.g2;obtain⟨v0,v1⟩:=Hv.out.c2;replace Hb:=au Hb ae;clear ae;refine hK _ _ (λ_=>⟨x0,x1,y0,y1⟩) ?_;clear hK K;try simp only[UU]
 refine aI rfl rfl (λK hK=>?_);go_simp;refine hK _ _ (λh=>absurd h zd) ?_;clear hK K;try simp only[UU]
 clear x0 x1 y0 y1 r0 ai r1 aj v0 v1;refine bN (bz w3 (w.heap.size+1+1) 0 [.bool (ar Z),.string (bs (nt Z.natAbs))]) bF ?_;intro w4 hs;replace Hx:=kS Hx hs zo;replace Hy:=kS Hy hs zo;replace Hr:=bX Hr hs;replace Hv:=kS Hv hs zo;obtain⟨x0,x1⟩:=Hx.out.c2;obtain⟨y0,y1⟩:=Hy.out.c2;obtain⟨r0,ai,r1,aj⟩:=Hr.out.g2;obtain⟨v0,v1⟩:=Hv.out.c2;replace Hb:=bS Hb hs ZS;clear hs;simp only[aU];go_wp2;refine bodyPost_ret (v:=.agg #[.bool (ar Z),.string (bs (nt Z.natAbs))]) (by simp[results,Tryz.results90,go_sem,r0,r1]) rfl ⟨rfl,?_⟩;(repeat first|exact Hb.out| (refine Below.setCell ?_ (by have:=Hb.out.size;first| (dsimp only;omega) | (show _<=_;omega) | (simp<;>omega)) _) | (refine Below.alloc ?_ zt _) |refine Below.drew ?_)
theorem ake (s:Bool)(l m:List UInt8)(Z:Int)(hZ:iv s l+iv (!s) m=Z)(h:nv m<=nv l)(w:World)(hl:l.length<=1048576)(hm:m.length<=1048576):
 Calls Tryz.prog 90 #[.agg #[.bool s,.string (bs l)],.agg #[.bool (!s),.string (bs m)]] w λe w'=>e=.returned (.agg #[.bool (ar Z),.string (bs (nt Z.natAbs))])/\Bw w w':=by
 have ha:=λW=>Ym l m W zo zo h;have hlen:(nt (nv l-nv m)).length<=68719476736:=by have h1:=gb l;refine Nat.le_trans (jc (k:=l.length) zo) zo
 have hf:=λW=>AC s (nt (nv l-nv m)) Z (by rw[<-hZ,mL];unfold iv;cases s<;>simp<;>omega) W hlen;obtain⟨Ha,Hf⟩:=aL ha hf;clear ha hf hlen hZ h;generalize nt (nv l-nv m)=S at*;have hne:(s== !s)=false:=by cases s<;>rfl
 obtain⟨t,ht⟩:=aB (!s);rw[ht]at hne⊢;obtain⟨W,dc,Hb,Hx,Hy,Hr⟩:=rq w 28 [.bool s,.string (bs l)] 28 [.bool t,.string (bs m)] 28 [.bool false,.string ⟨#[]⟩];obtain⟨x0,x1⟩:=Hx.out.c2;obtain⟨y0,y1⟩:=Hy.out.c2;obtain⟨r0,ai,r1,aj⟩:=Hr.out.g2;go_enter Tryz.func90,Tryz.ntmps90;go_wp2_with fail;refine(Ha.out _).mono ?_;rintro e w1 ⟨rfl,ae⟩;clear x0 x1 y0 y1 r0 ai r1 aj;replace Hx:=kB Hx ae;replace Hy:=kB Hy ae;replace Hr:=kB Hr ae;obtain⟨x0,x1⟩:=Hx.out.c2;obtain⟨y0,y1⟩:=Hy.out.c2;obtain⟨r0,ai,r1,aj⟩:=Hr.out.g2;replace Hb:=au Hb ae;clear ae;go_wp2_with fail;refine(Hf.out _).mono ?_;rintro e w2 ⟨rfl,ae⟩;clear x0 x1 y0 y1 r0 ai r1 aj;replace Hx:=kB Hx ae;replace Hy:=kB Hy ae;replace Hr:=kB Hr ae;obtain⟨x0,x1⟩:=Hx.out.c2;obtain⟨y0,y1⟩:=Hy.out.c2;obtain⟨r0,ai,r1,aj⟩:=Hr.out.g2;replace Hb:=au Hb ae;clear ae;go_wp2;clear x0 x1 y0 y1 r0 ai r1 aj;refine fF (bz w2 (w.heap.size+1+1) 0 [.bool (ar Z),.string (bs (nt Z.natAbs))]) bF ?_;intro w9 hs;replace Hx:=kS Hx hs zo;replace Hy:=kS Hy hs zo;replace Hr:=bX Hr hs;obtain⟨x0,x1⟩:=Hx.out.c2;obtain⟨y0,y1⟩:=Hy.out.c2;obtain⟨r0,ai,r1,aj⟩:=Hr.out.g2;replace Hb:=bS Hb hs ZS;clear hs;refine bodyPost_ret (v:=.agg #[.bool (ar Z),.string (bs (nt Z.natAbs))]) (by simp[results,Tryz.results90,go_sem,r0,r1]) rfl ⟨rfl,Hb.out⟩
theorem akf (s:Bool)(l m:List UInt8)(Z:Int)(hZ:iv s l+iv (!s) m=Z)(h:nv l<nv m)(w:World)(hl:l.length<=1048576)(hm:m.length<=1048576):
 Calls Tryz.prog 90 #[.agg #[.bool s,.string (bs l)],.agg #[.bool (!s),.string (bs m)]] w λe w'=>e=.returned (.agg #[.bool (ar Z),.string (bs (nt Z.natAbs))])/\Bw w w':=by
 have ha:=λW=>akq l m W zo zo h;have hb:=λW=>Ym m l W zo zo (Nat.le_of_lt h);have hlen:(nt (nv m-nv l)).length<=68719476736:=by have h1:=gb m;refine Nat.le_trans (jc (k:=m.length) zo) zo
 have hf:=λW=>AC (!s) (nt (nv m-nv l)) Z (by rw[<-hZ,mL];unfold iv;cases s<;>simp<;>omega) W hlen;obtain⟨Ha,Hs,Hf⟩:=cL ha hb hf;clear ha hb hf hlen hZ h;generalize nt (nv m-nv l)=S at*;have hne:(s== !s)=false:=by cases s<;>rfl
 obtain⟨t,ht⟩:=aB (!s);rw[ht]at hne Hf⊢;obtain⟨W,dc,Hb,Hx,Hy,Hr⟩:=rq w 28 [.bool s,.string (bs l)] 28 [.bool t,.string (bs m)] 28 [.bool false,.string ⟨#[]⟩];obtain⟨x0,x1⟩:=Hx.out.c2;obtain⟨y0,y1⟩:=Hy.out.c2;obtain⟨r0,ai,r1,aj⟩:=Hr.out.g2;go_enter Tryz.func90,Tryz.ntmps90;go_wp2_with fail;refine(Ha.out _).mono ?_;rintro e w1 ⟨rfl,ae⟩;clear x0 x1 y0 y1 r0 ai r1 aj;replace Hx:=kB Hx ae;replace Hy:=kB Hy ae;replace Hr:=kB Hr ae;obtain⟨x0,x1⟩:=Hx.out.c2;obtain⟨y0,y1⟩:=Hy.out.c2;obtain⟨r0,ai,r1,aj⟩:=Hr.out.g2;replace Hb:=au Hb ae;clear ae;go_wp2_with fail;refine(Hs.out _).mono ?_;rintro e w2 ⟨rfl,ae⟩;clear x0 x1 y0 y1 r0 ai r1 aj;replace Hx:=kB Hx ae;replace Hy:=kB Hy ae;replace Hr:=kB Hr ae;obtain⟨x0,x1⟩:=Hx.out.c2;obtain⟨y0,y1⟩:=Hy.out.c2;obtain⟨r0,ai,r1,aj⟩:=Hr.out.g2;replace Hb:=au Hb ae;clear ae;go_wp2_with fail;refine(Hf.out _).mono ?_;rintro e w3 ⟨rfl,ae⟩;clear x0 x1 y0 y1 r0 ai r1 aj;replace Hx:=kB Hx ae;replace Hy:=kB Hy ae;replace Hr:=kB Hr ae;obtain⟨x0,x1⟩:=Hx.out.c2;obtain⟨y0,y1⟩:=Hy.out.c2;obtain⟨r0,ai,r1,aj⟩:=Hr.out.g2;replace Hb:=au Hb ae;clear ae;go_wp2;clear x0 x1 y0 y1 r0 ai r1 aj;refine fF (bz w3 (w.heap.size+1+1) 0 [.bool (ar Z),.string (bs (nt Z.natAbs))]) bF ?_;intro w9 hs;replace Hx:=kS Hx hs zo;replace Hy:=kS Hy hs zo;replace Hr:=bX Hr hs;obtain⟨x0,x1⟩:=Hx.out.c2;obtain⟨y0,y1⟩:=Hy.out.c2;obtain⟨r0,ai,r1,aj⟩:=Hr.out.g2;replace Hb:=bS Hb hs ZS;clear hs;refine bodyPost_ret (v:=.agg #[.bool (ar Z),.string (bs (nt Z.natAbs))]) (by simp[results,Tryz.results90,go_sem,r0,r1]) rfl ⟨rfl,Hb.out⟩
theorem akd (s:Bool)(l:List UInt8)(t:Bool)(m:List UInt8)(Z:Int)(hZ:iv s l+iv t m=Z)(w:World)(hl:l.length<=1048576)(hm:m.length<=1048576):
 Calls Tryz.prog 90 #[.agg #[.bool s,.string (bs l)],.agg #[.bool t,.string (bs m)]] w λe w'=>e=.returned (.agg #[.bool (ar Z),.string (bs (nt Z.natAbs))])/\Bw w w':=by
 by_cases h:s=t
 . subst h;exact akg s l m Z hZ w hl hm
 . obtain rfl:t= !s:=by cases s<;>cases t<;>simp_all
   by_cases h2:nv l<nv m
   . exact akf s l m Z hZ h2 w hl hm
   . exact ake s l m Z hZ zo w hl hm
theorem akm (l:List UInt8)(p:Nat)(w:World)(hl:l.length<=68719476736)(hp:p<=274877906944):
 Calls Tryz.prog 131 #[.string (bs l),.int .i64 (p:Int)] w λe w'=>e=.returned (.string (bs (nt (nv l*2^p))))/\Bw w w':=by
 have oz:bA (nv l)<=549755813888:=Nat.le_trans (gG (nM l)) zo;have hmx:max (p:Int) 0=(p:Int):=by omega
 have Hb:Hid (Bw w w):=Below.refl _ _;go_enter Tryz.func131,Tryz.ntmps131;go_wp2_with fail;refine(oK l _ hl).mono ?_;rintro e w1 ⟨⟨y,rfl,hy⟩,hb1⟩;obtain⟨Hy,bQ⟩:=aL hy hb1;clear hy hb1;go_wp2_with fail;refine(OP (.slice none 0 0) y 0 (bA (nv l)) 0 (nv l) p w1 ⟨by simp,.inl ⟨rfl,rfl⟩⟩ Hy.out zo zo).mono ?_;rintro e w2 ⟨⟨z,rfl,hz⟩,hb2⟩;rw[Nat.zero_add]at hz;obtain⟨Hz,bP⟩:=aL hz hb2;clear hz hb2;go_wp2_with fail;refine(ul z _ (nv l*2^p) w2 zo Hz.out).mono ?_;rintro e w3 ⟨rfl,hb3⟩;have ey:=ah hb3;clear hb3;go_wp2;go_ret;exact⟨rfl,aJ bQ.out (aJ bP.out ey.out)⟩
theorem aih (v k:Nat):v%2^(k+1)=v%2^k+bd v k*2^k:=by unfold bd;rw[Nat.pow_succ,Nat.mod_mul,Nat.mul_comm]
theorem aj6 (l m:List UInt8)(w:World)(hl:l.length<=17179869184)(hm:m.length<=17179869184):
 Calls Tryz.prog 154 #[.string (bs l),.string (bs m)] w λe w'=>e=.returned (.string (bs (nt (nv l*nv m))))/\Bw w w':=by
 have hbl:bA (nv l)<=137438953472:=Nat.le_trans (gG (nM l)) zo;have Gr:bA (nv m)<=137438953472:=Nat.le_trans (gG (nM m)) zo;have hvl:=pk (nv l);obtain⟨V,hV⟩:=aB (nv l);obtain⟨U,hU⟩:=aB (nv m);have h1:=λW=>oK l W zo;have h2:=λW=>oK m W zo;rw[hV]at hbl hvl h1⊢;rw[hU]at Gr h2⊢;obtain⟨N,hN⟩:=aB (bA V);obtain⟨M,hM⟩:=aB (bA U);rw[hN]at hbl hvl h1;rw[hM]at Gr h2;obtain⟨H1,H2,iK⟩:=cL h1 h2 hvl;clear h1 h2 hvl hV hU hN hM hl hm;have Hb:Hid (Bw w w):=Below.refl _ _;go_enter Tryz.func154,Tryz.ntmps154;go_wp2_with fail;refine(H1.out _).mono ?_;rintro e w1 ⟨⟨x,rfl,hx⟩,hb1⟩;obtain⟨Hx,bQ⟩:=aL hx hb1;clear hx hb1;go_wp2_with fail;refine(H2.out _).mono ?_;rintro e w2 ⟨⟨y,rfl,hy⟩,hb2⟩;obtain⟨qo,Hy,bP⟩:=cL (Hx.out.below hb2) hy (aJ bQ.out hb2);clear hy hb2 bQ Hx;obtain⟨a,cap,rfl⟩:=qo.out.len;go_wp2_with fail;go_loopw[7,8] (λz i wr=>∃k n:Nat,k<=N/\n<=M+k/\i=.int .i64 (k:Int)/\Bv wr z n (V%2^k*U)/\Bw w2 wr) (λ_ i _=>N-(intOf i).toNat);case atStart=>exact⟨0,0,Nat.zero_le _,Nat.zero_le _,rfl,⟨by simp[Nat.mod_one],.inl ⟨rfl,rfl⟩⟩,Below.refl _ _⟩
 case round=>
  obtain⟨k,n,hk,hn,rfl,hz,hb⟩:=hrel;by_cases hlt:k<N
  . have hxk:=qo.out.below hb;rcases hxk.2 with⟨h,h0⟩ |⟨b,o,cap',h,hcap,hc⟩
    . omega
    simp only[Value.slice.injEq,true_and]at h;obtain⟨rfl,rfl⟩:=h;have hcell:=hc k hlt;have bD:=vG N cap k (k:Int) (rfl:(some ⟨b,o,none⟩:Option Addr)=_) hlt rfl;rw[Nat.mul_one]at bD;have hst:=aih V k;obtain⟨Hz,Hb,hyk⟩:=cL hz hb (Hy.out.below hb);clear hz hb hc hxk;rcases(show bd V k=0\/bd V k=1 by unfold bd;omega)with hd|hd
    . have hd':((bd V k:Int)==1)=false:=by simp[hd]
      rw[hd,Nat.zero_mul,Nat.add_zero]at hst;have cd:=ah hst;clear hst hd;go_wp2;go_roundw;case rel=>exact⟨k+1,n,by omega,by omega,by go_num,by rw[cd.out];exact Hz.out,Hb.out⟩
      case measure=>simp[intOf];omega
    . have hd':((bd V k:Int)==1)=true:=by simp[hd]
      rw[hd,Nat.one_mul]at hst;have cd:=ah hst;clear hst hd;go_wp2_with fail;refine(OP u7 y n M (V%2^k*U) U k wr Hz.out hyk.out zo zo).mono ?_;rintro e w4 ⟨⟨z,rfl,hz⟩,hb4⟩;obtain⟨Hz4,jC⟩:=aL hz hb4;clear hz hb4;go_wp2;go_roundw;case rel=>refine⟨k+1,max n (M+k)+1,by omega,by omega,by go_num,?_,aJ Hb.out jC.out⟩;rw[cd.out,Nat.add_mul,Nat.mul_comm (2^k) U];exact Hz4.out
      case measure=>simp[intOf];omega
  . obtain rfl:k=N:=by omega
    have CW:V%2^k=V:=Nat.mod_eq_of_lt iK.out;rw[CW]at hz;obtain⟨Hz,Hb⟩:=aL hz hb;clear hz hb CW;go_wp2_with fail;refine(ul u7 n (V*U) wr zo Hz.out).mono ?_;rintro e w4 ⟨rfl,hb4⟩;have jC:=ah hb4;clear hb4;go_wp2;go_ret;exact⟨rfl,aJ bP.out (aJ Hb.out jC.out)⟩
theorem Xw (l m:List UInt8):(nt (nv l*nv m)).length<=l.length+m.length:=by refine jc ?_;rw[Nat.pow_add];have h1:=gb l;have h2:=gb m;exact Nat.mul_lt_mul_of_lt_of_le h1 (Nat.le_of_lt h2) zo
theorem Xx (l:List UInt8)(p:Nat):(nt (nv l*2^p)).length<=l.length+p:=by refine jc ?_;rw[Nat.pow_add];have h1:=gb l;have h2:2^p<=256^p:=Nat.pow_le_pow_left zd p;exact Nat.mul_lt_mul_of_lt_of_le h1 h2 (Nat.pow_pos zd)
theorem aj7 (s:Bool)(l:List UInt8)(Z:Int)(hZ: -iv s l=Z)(w:World)(hl:l.length<=1048576):
 Calls Tryz.prog 103 #[.agg #[.bool s,.string (bs l)]] w λe w'=>e=.returned (.agg #[.bool (ar Z),.string (bs (nt Z.natAbs))])/\Bw w w':=by
 have hf:=λW=>AC (!s) l Z (by rw[<-hZ];unfold iv;cases s<;>simp) W zo;have Hf:=ah hf;clear hf hZ;generalize Z.natAbs=Y at*;generalize ar Z=t at*;obtain⟨W,dc,Hb,Hx,Hr⟩:=nO w 28 [.bool s,.string (bs l)] 28 [.bool false,.string ⟨#[]⟩];obtain⟨x0,x1⟩:=Hx.out.c2;obtain⟨r0,ai,r1,aj⟩:=Hr.out.g2;go_enter Tryz.func103,Tryz.ntmps103;go_wp2_with fail;refine(Hf.out _).mono ?_;rintro e w1 ⟨rfl,ae⟩;clear x0 x1 r0 ai r1 aj;replace Hx:=kB Hx ae;replace Hr:=kB Hr ae;obtain⟨x0,x1⟩:=Hx.out.c2;obtain⟨r0,ai,r1,aj⟩:=Hr.out.g2;replace Hb:=au Hb ae;clear ae;go_wp2;clear x0 x1 r0 ai r1 aj;refine fF (bz w1 (w.heap.size+1) 0 [.bool t,.string (bs (nt Y))]) bF ?_;intro w9 hs;replace Hx:=kS Hx hs zo;replace Hr:=bX Hr hs;obtain⟨x0,x1⟩:=Hx.out.c2;obtain⟨r0,ai,r1,aj⟩:=Hr.out.g2;replace Hb:=bS Hb hs ZS;clear hs;refine bodyPost_ret (v:=.agg #[.bool t,.string (bs (nt Y))]) (by simp[results,Tryz.results103,go_sem,r0,r1]) rfl ⟨rfl,Hb.out⟩
theorem aku (s:Bool)(l:List UInt8)(t:Bool)(m:List UInt8)(Z:Int)(hZ:iv s l*iv t m=Z)(w:World)(hl:l.length<=524288)(hm:m.length<=524288):
 Calls Tryz.prog 122 #[.agg #[.bool s,.string (bs l)],.agg #[.bool t,.string (bs m)]] w λe w'=>e=.returned (.agg #[.bool (ar Z),.string (bs (nt Z.natAbs))])/\Bw w w':=by
 have hf:=λW=>AC (!(s==t)) (nt (nv l*nv m)) Z (by rw[<-hZ,mL];unfold iv;cases s<;>cases t<;>simp[Int.neg_mul,Int.mul_neg]) W (by have:=Xw l m;omega);have Dq:=λW=>aj6 l m W zo zo;obtain⟨Hf,Hm⟩:=aL hf Dq;clear hf Dq hZ;generalize Z.natAbs=Y at*;generalize ar Z=v at*;generalize nt (nv l*nv m)=S at*;obtain⟨W,dc,Hb,Hx,Hy,Hr⟩:=rq w 28 [.bool s,.string (bs l)] 28 [.bool t,.string (bs m)] 28 [.bool false,.string ⟨#[]⟩];obtain⟨x0,x1⟩:=Hx.out.c2;obtain⟨y0,y1⟩:=Hy.out.c2;obtain⟨r0,ai,r1,aj⟩:=Hr.out.g2;go_enter Tryz.func122,Tryz.ntmps122;go_wp2_with fail;refine bJ (λw'=>w'.cell? ⟨w.heap.size,0,none⟩=some (.bool s)/\w'.cell? ⟨w.heap.size,1,none⟩=some (.string (bs l))/\w'.cell? ⟨w.heap.size+1,0,none⟩=some (.bool t)/\w'.cell? ⟨w.heap.size+1,1,none⟩=some (.string (bs m))) (λi=>Nat.blt i 12) [(0,true),(1,true),(2,true),(3,true),(4,true),(5,true),(6,true),(7,true),(8,true),(9,false),(10,true),(11,false),(12,false)] zk zk rfl zk zc ⟨x0,x1,y0,y1⟩ ?_;iterate 9 (refine pT rfl rfl ?_ (by intro w' ⟨q0,q1,q2,q3⟩;go_simp;try with_reducible rfl);try simp only[UU])
 refine aI rfl rfl (λK hK=>?_);go_simp;with_reducible refine(Hm.out _).mono ?_
 rintro e w1 ⟨rfl,hq⟩;have ae:Bw W w1:=by first|exact hq|exact aM hq
 clear x0 x1 y0 y1 r0 ai r1 aj;replace Hx:=kB Hx ae;replace Hy:=kB Hy ae;replace Hr:=kB Hr ae;obtain⟨x0,x1⟩:=Hx.out.c2;obtain⟨y0,y1⟩:=Hy.out.c2;obtain⟨r0,ai,r1,aj⟩:=Hr.out.g2;replace Hb:=au Hb ae;clear ae;refine hK _ _ (λ_=>⟨x0,x1,y0,y1⟩) ?_;clear hK K;try simp only[UU]
 refine pT rfl rfl ?_;try simp only[UU]
 refine aI rfl rfl (λK hK=>?_);go_simp;with_reducible refine(Hf.out _).mono ?_
 rintro e w2 ⟨rfl,hq⟩;have ae:Bw w1 w2:=by first|exact hq|exact aM hq
 clear x0 x1 y0 y1 r0 ai r1 aj;replace Hx:=kB Hx ae;replace Hy:=kB Hy ae;replace Hr:=kB Hr ae;obtain⟨x0,x1⟩:=Hx.out.c2;obtain⟨y0,y1⟩:=Hy.out.c2;obtain⟨r0,ai,r1,aj⟩:=Hr.out.g2;replace Hb:=au Hb ae;clear ae;refine hK _ _ (λ_=>⟨x0,x1,y0,y1⟩) ?_;clear hK K;try simp only[UU]
 refine aI rfl rfl (λK hK=>?_);go_simp;refine hK _ _ (λh=>absurd h zd) ?_;clear hK K;try simp only[UU]
 clear x0 x1 y0 y1 r0 ai r1 aj;refine bN (bz w2 (w.heap.size+1+1) 0 [.bool v,.string (bs (nt Y))]) bF ?_;intro w9 hs;replace Hx:=kS Hx hs zo;replace Hy:=kS Hy hs zo;replace Hr:=bX Hr hs;obtain⟨x0,x1⟩:=Hx.out.c2;obtain⟨y0,y1⟩:=Hy.out.c2;obtain⟨r0,ai,r1,aj⟩:=Hr.out.g2;replace Hb:=bS Hb hs ZS;clear hs;simp only[aU];go_wp2;refine bodyPost_ret (v:=.agg #[.bool v,.string (bs (nt Y))]) (by simp[results,Tryz.results122,go_sem,r0,r1]) rfl ⟨rfl,?_⟩;(repeat first|exact Hb.out| (refine Below.setCell ?_ (by have:=Hb.out.size;first| (dsimp only;omega) | (show _<=_;omega) | (simp<;>omega)) _) | (refine Below.alloc ?_ zt _) |refine Below.drew ?_)
theorem akk (s:Bool)(l:List UInt8)(p:Nat)(Z:Int)(hZ:iv s l*2^p=Z)(w:World)(hl:l.length<=1048576)(hp:p<=1073741824):
 Calls Tryz.prog 91 #[.agg #[.bool s,.string (bs l)],.int .i64 (p:Int)] w λe w'=>e=.returned (.agg #[.bool (ar Z),.string (bs (nt Z.natAbs))])/\Bw w w':=by
 have hf:=λW=>AC s (nt (nv l*2^p)) Z (by rw[<-hZ,mL];unfold iv;cases s<;>simp[Int.neg_mul]) W (by have:=Xx l p;omega);have hsh:=λW=>akm l p W zo zo;have hp0:(0:Int)<=(p:Int):=by omega
 have hp1:decide ((p:Int)≥0)=true:=by simp
 obtain⟨Hf,Hm⟩:=aL hf hsh;clear hf hsh hZ;generalize Z.natAbs=Y at*;generalize ar Z=v at*;generalize nt (nv l*2^p)=S at*;obtain⟨W,dc,Hb,Hx,Hr⟩:=nO w 28 [.bool s,.string (bs l)] 28 [.bool false,.string ⟨#[]⟩];obtain⟨x0,x1⟩:=Hx.out.c2;obtain⟨r0,ai,r1,aj⟩:=Hr.out.g2;go_enter Tryz.func91,Tryz.ntmps91;go_wp2_with fail;refine bJ (λw'=>w'.cell? ⟨w.heap.size,0,none⟩=some (.bool s)/\w'.cell? ⟨w.heap.size,1,none⟩=some (.string (bs l))) (λi=>Nat.blt i 8) [(0,true),(1,true),(2,true),(3,true),(4,true),(5,false),(6,true),(7,false),(8,false)] zk zk rfl zk zc ⟨x0,x1⟩ ?_;iterate 5 (refine pT rfl rfl ?_ (by intro w' ⟨q0,q1⟩;go_simp;try with_reducible rfl);try simp only[UU])
 refine aI rfl rfl (λK hK=>?_);go_simp;with_reducible refine(Hm.out _).mono ?_
 rintro e w1 ⟨rfl,hq⟩;have ae:Bw W w1:=by first|exact hq|exact aM hq
 clear x0 x1 r0 ai r1 aj;replace Hx:=kB Hx ae;replace Hr:=kB Hr ae;obtain⟨x0,x1⟩:=Hx.out.c2;obtain⟨r0,ai,r1,aj⟩:=Hr.out.g2;replace Hb:=au Hb ae;clear ae;refine hK _ _ (λ_=>⟨x0,x1⟩) ?_;clear hK K;try simp only[UU]
 refine pT rfl rfl ?_;try simp only[UU]
 refine aI rfl rfl (λK hK=>?_);go_simp;with_reducible refine(Hf.out _).mono ?_
 rintro e w2 ⟨rfl,hq⟩;have ae:Bw w1 w2:=by first|exact hq|exact aM hq
 clear x0 x1 r0 ai r1 aj;replace Hx:=kB Hx ae;replace Hr:=kB Hr ae;obtain⟨x0,x1⟩:=Hx.out.c2;obtain⟨r0,ai,r1,aj⟩:=Hr.out.g2;replace Hb:=au Hb ae;clear ae;refine hK _ _ (λ_=>⟨x0,x1⟩) ?_;clear hK K;try simp only[UU]
 refine aI rfl rfl (λK hK=>?_);go_simp;refine hK _ _ (λh=>absurd h zd) ?_;clear hK K;try simp only[UU]
 clear x0 x1 r0 ai r1 aj;refine bN (bz w2 (w.heap.size+1) 0 [.bool v,.string (bs (nt Y))]) bF ?_;intro w9 hs;replace Hx:=kS Hx hs zo;replace Hr:=bX Hr hs;obtain⟨x0,x1⟩:=Hx.out.c2;obtain⟨r0,ai,r1,aj⟩:=Hr.out.g2;replace Hb:=bS Hb hs ZS;clear hs;simp only[aU];go_wp2;refine bodyPost_ret (v:=.agg #[.bool v,.string (bs (nt Y))]) (by simp[results,Tryz.results91,go_sem,r0,r1]) rfl ⟨rfl,?_⟩;(repeat first|exact Hb.out| (refine Below.setCell ?_ (by have:=Hb.out.size;first| (dsimp only;omega) | (show _<=_;omega) | (simp<;>omega)) _) | (refine Below.alloc ?_ zt _) |refine Below.drew ?_)
end Go.Proofs.YtdaadlblknpipaaGreatDoor
