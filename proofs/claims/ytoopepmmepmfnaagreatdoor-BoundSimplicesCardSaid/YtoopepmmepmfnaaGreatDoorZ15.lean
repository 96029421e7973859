/- Package ogeeref01: Div. -/
import Derived.Test.YtoopepmmepmfnaaGreatDoorZ11
import Derived.Laws.AppendOwnNone
set_option linter.unusedVariables false
set_option linter.unusedSimpArgs false
set_option maxRecDepth 100000
set_option maxHeartbeats 16000000
namespace Go.Proofs.YtoopepmmepmfnaaGreatDoor
open Go.RowKit
attribute [local go_sem ↓] Go.wp_at_zero Go.wp_at_succ
theorem aie (r c:Nat)(hc:c<=1):bd (2*r+c) 0=c/\∀j,bd (2*r+c) (j+1)=bd r j:=by unfold bd;refine⟨by simp;omega,λj=>?_⟩;rw[Nat.pow_succ',<-Nat.div_div_eq_div_mul,show(2*r+c)/2=r by omega]
theorem adq (n r c:Nat)(hc:c<=1):[.int .u8 (c:Int)]++cZ n (bd r)=cZ (1+n) (bd (2*r+c)):=by
 obtain⟨h0,h1⟩:=aie r c hc;apply List.ext_getElem?;intro j;cases j with
 |zero=>rw[mC _ _ _ zo,h0];rfl
 | succ j=>
   rw[List.getElem?_append_right zm];simp only[List.length_singleton,Nat.add_sub_cancel];by_cases hj:j<n
   . rw[mC _ _ _ hj,mC _ _ _ zo,h1]
   . rw[List.getElem?_eq_none (by rw[IG];omega),List.getElem?_eq_none (by rw[IG];omega)]
theorem aoH (W:World)(base:Nat)(e:TypeId)(x:Value)(hb:base<=W.heap.size):(W.alloc (.cells #[x] e)).ownsRow base e 1 (.slice (some ⟨W.heap.size,0,none⟩) 1 1) 1 [x]:=
 ⟨rfl,.inr ⟨W.heap.size,1,#[x],rfl,hb,heap_alloc_new W _,Nat.le_refl _,by simp[maxLen],rfl,rfl⟩⟩
theorem Wv (S u:Nat):(0<=dI S u)↔u<=S:=by
 unfold dI;by_cases h1:S<u
 . rw[if_pos h1];omega
 . rw[if_neg h1];by_cases h2:u<S
   . rw[if_pos h2];omega
   . rw[if_neg h2];omega
theorem Bv.cells {w:World}{x:Value}{n v:Nat}(h:Bv w x n v)(hn:0<n):∃b o cap,x=.slice (some ⟨b,o,none⟩) n cap/\∀j,j<n->w.cell? ⟨b,o+j,none⟩=some (.int .u8 (bd v j:Int)):=by
 rcases h.2 with⟨_,h2⟩ |⟨b,o,cap,h1,_,h3⟩
 . omega
 . exact⟨b,o,cap,h1,h3⟩
theorem Bv.aw3 {w:World}{x:Value}{n v:Nat}(h:Bv w x n v){a:Addr}(hne:∀b o n c,x=.slice (some ⟨b,o,none⟩) n c->b≠a.block)(y:Value):Bv (w.setCell a y) x n v:=by
 refine⟨h.1,?_⟩;rcases h.2 with h|⟨b,o,cap,e,h1,hc⟩
 . exact .inl h
 . exact .inr ⟨b,o,cap,e,h1,λj hj=>gG (hne b o n cap e) (hc j hj)⟩
theorem ar1 {ops:Array Oper}{rest:List Oper}{o:Oper}{a:Act}{Q:Exit->Act->World->Prop}(hgd:o.guard=none)(s x:Operand)
 (ho:o.op=.call {callee:=.builtin .append,args:=#[s,x],argTypes:=#[94,94]}) (W:World) (z:Value) (n r c:Nat) (hc:c<=1) (hn:n<=1099511627776) (hz:Bv W z n r)
 (hs:a.eval s=.slice (some ⟨W.heap.size,0,none⟩) 1 1) (hx:a.eval x=z)
 (h:∀v' w',Bv w' v' (1+n) (2*r+c)->EP v' W.heap.size->Bw W w'->wpList Tryz.prog ops Q rest (a.put o.dst v') w'):wpList Tryz.prog ops Q (o::rest) a (W.alloc (.cells #[.int .u8 (c:Int)] 5)):=by
 obtain⟨i0,hi,hz0,hz1,hz2⟩:=info_parts Tryz.aw7;have hlt:2*r+c<2^(1+n):=by have:=hz.1;rw[Nat.add_comm 1 n,Nat.pow_succ];omega
 have hone:=aoH W W.heap.size 5 (.int .u8 (c:Int)) (Nat.le_refl _);have hb0:Bw W (W.alloc (.cells #[.int .u8 (c:Int)] 5)):=zl;rcases hz.2 with⟨rfl,rfl⟩ |⟨b,oo,cap,rfl,h1,hcs⟩
 . refine wpList_append_own_none hgd s x 94 ho W.heap.size 5 i0 1 Tryz.underlying94 hi _ 1 _ hs hone hx ?_;refine h _ _ (Bv.axb (base:=W.heap.size) (e:=5) ?_ hlt) (λb o n c e=>by cases e;exact Nat.le_refl _) hb0;rw[<-adq 0 r c hc];exact hone
 . refine wpList_append_own _ hgd s x 94 ho W.heap.size 5 i0 (.int .u8 0) 1 1 Tryz.underlying94 hi hz0 hz1 hz2 rfl zd _ 1 _ hs hone ⟨b,oo,none⟩ n cap (cZ n (bd r)) hx (by rw[IG,Nat.mul_one]) ?_ ?_ zx zo zm ?_
   . intro j u hj;have oZ:j<n:=by
      rcases Nat.lt_or_ge j n with h|h
      . exact h
      . rw[List.getElem?_eq_none (by rw[IG];exact h)]at hj;cases hj
     rw[mC _ _ _ oZ]at hj;cases hj
     have e2:((⟨b,oo,none⟩:Addr).add j)=⟨b,oo+j,none⟩:=by simp[Addr.add]
     rw[e2];exact aL (hcs j oZ)
   . intro u hu;unfold cZ at hu;rw[List.mem_map]at hu;obtain⟨j,_,rfl⟩:=hu;rfl
   . intro v' w' ho' hg' _;refine h _ _ (Bv.axb (base:=W.heap.size) (e:=5) ?_ hlt) (λb o n c e=>dz ho' b (by rw[e];rfl)) (hb0.grown hg' zm (λj e=>dz hone j e));rw[<-adq n r c hc];exact ho'
theorem apz (l m:List UInt8)(w:World)(hl:l.length<=68719476736)(hm:m.length<=68719476736)(h0:0<nv m):
 Calls Tryz.prog 167 #[ah l,ah m] w λe w'=>e=.returned (.tuple #[ah (nt (nv l/nv m)),ah (nt (nv l%nv m)),ag true])/\Bw w w':=by
 obtain⟨i0,hi,hz0,hz1,hz2⟩:=info_parts Tryz.aw7;have hL:=Nat.le_trans (ia (pD l)) (show 8*l.length<=549755813888 by omega);have hU:=Nat.le_trans (ia (pD m)) (show 8*m.length<=549755813888 by omega);have hb1:=rc l w hl;have hb2:=λW=>rc m W hm;generalize nv l=v at*;generalize nv m=u at*;have hUp:=EX h0;have XT:=rF v;generalize hLe:bN v=L at*;generalize Yr:bN u=U at*;obtain⟨H1,H2,uf,Ul⟩:=dx hb1 hb2 XT Yr;clear hb1 hb2 XT hLe Yr;have hmk:=rX (L:Int) L rfl zo;have hU0:((U:Int)==0)=false:=by simp;omega
 go_enter Tryz.func167,Tryz.ntmps167;go_wp2_with fail;refine H1.out.mono ?_;rintro e w1 ⟨⟨X,rfl,hX⟩,YS⟩;go_wp2_with fail;refine(H2.out w1).mono ?_;rintro e w2 ⟨⟨Y,rfl,hY⟩,CF⟩;obtain⟨HX,HY,Hw⟩:=cL (hX.below CF) hY (aJ YS CF);clear hX hY YS CF;obtain⟨ax,cx,rfl⟩:=HX.out.len;obtain⟨ay,cy,rfl⟩:=HY.out.len;go_wp2_with fail;go_loopw[10,11] (λz i wr=>∃k:Nat,k<=L/\i=af ((k:Int)-1)/\Bv wr z (bN (v/2^k%u)) (v/2^k%u)/\EP z (w2.heap.size+1)/\ar wr w2.heap.size 5 (cZ L (λj=>if k<=j then bd (v/u) j else 0))/\Bw w2 wr) (λ_ i _=>(intOf i+1).toNat);case atStart=>
  refine⟨L,Nat.le_refl _,by go_num,?_,(λb o n c e=>by cases e),?_,zl⟩
  . rw[Nat.div_eq_of_lt uf.out,Nat.zero_mod];exact⟨by simp[bN],.inl ⟨rfl,rfl⟩⟩
  . have e:cZ L (λj=>if L<=j then bd (v/u) j else 0)=cZ L λ_=>0:=oz λj hj=>by rw[if_neg zo]
    rw[e];exact ar.new _ _ _
 case round=>
  obtain⟨k,hk,rfl,hz,hzl,hB,hb⟩:=hrel;by_cases fY:0<k
  . obtain⟨j,rfl⟩:∃j,k=j+1:=⟨k-1,by omega⟩;obtain⟨r,c,q,e1,e2,e3,e4,e5⟩:=anb v u j h0;have e6:=ana v u j;have hr:r<u:=by rw[<-e1];exact Nat.mod_lt _ h0
    have hc1:c<=1:=by rw[<-e2];exact uj v j
    rw[e1]at hz;rw[e5]at e6;obtain⟨S,hS⟩:=aG (2*r+c);rw[hS]at e4 e6;have lC:bN r<=549755813888:=Nat.le_trans (We (Nat.le_of_lt hr)) (by rw[Ul.out];omega);have hSb:bN S<=549755813889:=by rw[<-hS];exact Nat.le_trans (ail r c hc1) zo
    obtain⟨bx,ox,cx',pj,lu⟩:=HX.out.cells zo;obtain⟨rfl,rfl⟩:ax=some ⟨bx,ox,none⟩/\cx=cx':=by simp only[Value.slice.injEq]at pj;exact⟨pj.1,pj.2.2⟩
    have hcell:wr.cell? ⟨bx,ox+j,none⟩=some (.int .u8 (c:Int)):=by rw[<-e2];exact cell_later hb (lu j zo)
    have bK:=xV L cx j (j:Int) (rfl:(some ⟨bx,ox,none⟩:Option Addr)=_) zo rfl;rw[Nat.mul_one]at bK;obtain⟨Hz,HB,Hb,Jk,Jl,HS⟩:=gW hz hB hb e4 e6 hS;have hs0:=hb.size;have Rm:=hB.lt;have hj:((j+1:Nat):Int)-1=(j:Int):=by omega
    rw[hj];clear hz hB hb e1 e2 e3 e4 e5 e6 hS pj lu hj fY;go_wp2_with (first| (at_builtin;refine ar1 rfl _ _ rfl _ u10 (bN r) r c hc1 zo Hz.out rfl rfl ?_;intro v' w3 hv' Gj hb3));rw[HS.out]at hv';obtain⟨Hv',Ns,fp⟩:=cL hv' Gj hb3;have hs3:=hb3.size;clear hv' Gj hb3 hzl hcell bK;refine(SQ v' (1+bN r) S w3 zo Hv'.out).mono ?_;rintro e w' ⟨⟨z,rfl,hz,hzl⟩,rfl⟩;obtain⟨dm,Hzl⟩:=aO hz (hzl _ Ns.out);clear hz hzl;obtain⟨Uq,kV⟩:=aO (HY.out.below (aJ Hb.out fp.out)) (HB.out.below fp.out);go_wp2_with fail;refine(acm z _ (bN S) U S u w3 dm.out Uq.out zo zo).mono ?_;rintro e w' ⟨rfl,rfl⟩;by_cases hge:u<=S
    . have hc0:0<=dI S u:=(Wv S u).2 hge;generalize dI S u=ci at*;rw[if_pos hge]at Jk Jl;go_wp2_with fail;refine(acs z _ (bN S) U S u w3 dm.out Uq.out zo zo hge).mono ?_;rintro e w4 ⟨⟨t,rfl,ht,htl⟩,hb4⟩;obtain⟨Ht,NV,kx⟩:=cL ht htl hb4;clear ht htl hb4;go_wp2_with fail;refine(SQ t (bN S) (S-u) w4 zo Ht.out).mono ?_;rintro e w' ⟨⟨t2,rfl,ht2,aaA⟩,rfl⟩;obtain⟨JD,Vx⟩:=aO ht2 (aaA _ NV.out);clear ht2 aaA;have hB4:=kV.out.below kx.out;have q0:w4.cell? ⟨w2.heap.size,j,none⟩=some (.int .u8 0):=by rw[hB4.cell,mC _ _ _ zo,if_neg zo];rfl
      have qf:w4.frozen? ⟨w2.heap.size,j,none⟩=false:=hB4.free _;have kJ:=xV L L j (j:Int) (rfl:(some ⟨w2.heap.size,0,none⟩:Option Addr)=_) zo rfl;rw[Nat.mul_one,Nat.zero_add]at kJ;have PC:=hB4.set j (.int .u8 ((1:Nat):Int))
      rw[Bh,oz (g:=λi=>if j<=i then bd (v/u) i else 0) λi hi=>by
       by_cases e:i=j
       . subst e;rw[if_pos rfl,if_pos (Nat.le_refl _),Jl.out];omega
       . rw[if_neg e];by_cases e2:j+1<=i
         . rw[if_pos e2,if_pos zo]
         . rw[if_neg e2,if_neg zo]]at PC
      have nk:=ai PC;clear hB4 PC;go_wp2;go_roundw;case rel=>
       refine⟨j,by omega,by go_num,?_,?_,nk.out,?_⟩
       . rw[Jk.out];exact JD.out.aw3 (λb o n c e=>by have:=Vx.out b o n c e;dsimp only;omega) _
       . exact λb o n c e=>by have:=Vx.out b o n c e;omega
       . exact(aJ (aJ Hb.out fp.out) kx.out).setCell (Nat.le_refl _) _
      case measure=>simp[intOf]
    . have hc0:¬0<=dI S u:=fun h=>hge ((Wv S u).1 h);generalize dI S u=ci at*;rw[if_neg hge]at Jk Jl;have nk:Hid (ar w3 w2.heap.size 5 (cZ L (fun i=>if j<=i then bd (v/u) i else 0))):=by
       show ar _ _ _ _
       rw[oz (g:=λi=>if j+1<=i then bd (v/u) i else 0) λi hi=>by
        by_cases e:i=j
        . subst e;rw[if_pos (Nat.le_refl _),if_neg zo,Jl.out];omega
        . by_cases e2:j+1<=i
          . rw[if_pos e2,if_pos zo]
          . rw[if_neg e2,if_neg zo]]
       exact kV.out
      go_wp2;go_roundw;case rel=>exact⟨j,by omega,by go_num,by rw[Jk.out];exact dm.out,(λb o n c e=>by have:=Hzl.out b o n c e;omega),nk.out,aJ Hb.out fp.out⟩
      case measure=>simp[intOf]
  . obtain rfl:k=0:=by omega
    have hq:v/u<2^L:=Nat.lt_of_le_of_lt (Nat.div_le_self v u) uf.out;rw[oz (g:=bd (v/u)) λj hj=>by rw[if_pos (Nat.zero_le _)]]at hB;have Hq:=ai (Bv.aw2 hB hq);have e0:v/2^0%u=v%u:=by simp
    rw[e0]at hz;have lC:bN (v%u)<=549755813888:=Nat.le_trans (We (Nat.le_of_lt (Nat.mod_lt v h0))) (by rw[Ul.out];omega);obtain⟨Hz,Hb⟩:=aO hz hb;clear hB hq hz hb e0 hzl;go_wp2_with fail;refine(wy _ L (v/u) wr zo Hq.out).mono ?_;rintro e w3 ⟨rfl,hb3⟩;go_wp2_with fail;refine(wy u10 (bN (v%u)) (v%u) w3 zo (Hz.out.below hb3)).mono ?_;rintro e w4 ⟨rfl,hb4⟩;have nu:=ai (aJ Hw.out (aJ Hb.out (aJ hb3 hb4)));clear hb3 hb4;go_wp2;go_ret3
    exact⟨rfl,nu.out⟩
theorem apC (l:List UInt8)(w:World)(hl:l.length<=68719476736):
 Calls Tryz.prog 82 #[.agg #[ag false,ah l]] w λe w'=>e=.returned (.agg #[ag (false),ah (nt (nv l))])/\Bw w w':=by
 have hb:=Nat.le_trans (ia (pD l)) (show 8*l.length<=1099511627776 by omega);have h1:=rc l;obtain⟨v,hv⟩:=aG (nv l);rw[hv]at hb⊢;simp only[hv]at h1;obtain⟨m,hm⟩:=aG (nt v);have he:=vB m;obtain⟨t,ht⟩:=aG m.isEmpty;obtain⟨H1,Hm⟩:=aO h1 hm;clear h1 hv;rw[hm];rw[ht]at he;clear hm ht;obtain⟨W,cg,Hb,Hx,Hr⟩:=iq w 32 [ag false,ah l] 32 [ag false,.string ⟨#[]⟩];obtain⟨x0,x1⟩:=Hx.out.c2;obtain⟨r0,aj,r1,ak⟩:=Hr.out.g2;go_enter Tryz.func82,Tryz.ntmps82;go_wp2_with fail;refine(H1.out _ zo).mono ?_;rintro e w1 ⟨⟨y,rfl,hy⟩,ae⟩;clear x0 x1 r0 aj r1 ak;obtain⟨Hx,x0,x1⟩:=aR Hx ae;obtain⟨Hr,r0,aj,r1,ak⟩:=bE Hr ae;replace Hb:=aB Hb ae;clear ae;have Hy:=ai hy;clear hy;go_wp2_with fail;refine(wy y _ _ _ hb Hy.out).mono ?_;rintro e w2 ⟨rfl,ae⟩;clear x0 x1 r0 aj r1 ak;obtain⟨Hx,x0,x1⟩:=aR Hx ae;obtain⟨Hr,r0,aj,r1,ak⟩:=bE Hr ae;replace Hb:=aB Hb ae;clear ae;rw[Hm.out];go_wp2;clear x0 x1 r0 aj r1 ak;refine dW (bC w2 (w.heap.size+1) 0 [ag (false),ah m]) bJ ?_;intro w9 hs;replace Hx:=kS Hx hs zo;replace Hr:=bP Hr hs;obtain⟨x0,x1⟩:=Hx.out.c2;obtain⟨r0,aj,r1,ak⟩:=Hr.out.g2;replace Hb:=bS Hb hs ZS;clear hs;refine bodyPost_ret (v:=.agg #[ag (false),ah m]) (by simp[results,Tryz.results82,go_sem,r0,r1]) rfl ⟨rfl,Hb.out⟩
theorem apD (l:List UInt8)(w:World)(hl:l.length<=68719476736):
 Calls Tryz.prog 82 #[.agg #[ag true,ah l]] w λe w'=>e=.returned (.agg #[ag (!(nt (nv l)).isEmpty),ah (nt (nv l))])/\Bw w w':=by
 have hb:=Nat.le_trans (ia (pD l)) (show 8*l.length<=1099511627776 by omega);have h1:=rc l;obtain⟨v,hv⟩:=aG (nv l);rw[hv]at hb⊢;simp only[hv]at h1;obtain⟨m,hm⟩:=aG (nt v);have he:=vB m;obtain⟨t,ht⟩:=aG m.isEmpty;obtain⟨H1,Hm⟩:=aO h1 hm;clear h1 hv;rw[hm,ht];rw[ht]at he;clear hm ht;obtain⟨W,cg,Hb,Hx,Hr⟩:=iq w 32 [ag true,ah l] 32 [ag false,.string ⟨#[]⟩];obtain⟨x0,x1⟩:=Hx.out.c2;obtain⟨r0,aj,r1,ak⟩:=Hr.out.g2;go_enter Tryz.func82,Tryz.ntmps82;go_wp2_with fail;refine(H1.out _ zo).mono ?_;rintro e w1 ⟨⟨y,rfl,hy⟩,ae⟩;clear x0 x1 r0 aj r1 ak;obtain⟨Hx,x0,x1⟩:=aR Hx ae;obtain⟨Hr,r0,aj,r1,ak⟩:=bE Hr ae;replace Hb:=aB Hb ae;clear ae;have Hy:=ai hy;clear hy;go_wp2_with fail;refine(wy y _ _ _ hb Hy.out).mono ?_;rintro e w2 ⟨rfl,ae⟩;clear x0 x1 r0 aj r1 ak;obtain⟨Hx,x0,x1⟩:=aR Hx ae;obtain⟨Hr,r0,aj,r1,ak⟩:=bE Hr ae;replace Hb:=aB Hb ae;clear ae;rw[Hm.out];go_wp2;clear x0 x1 r0 aj r1 ak;refine dW (bC w2 (w.heap.size+1) 0 [ag (!t),ah m]) bJ ?_;intro w9 hs;replace Hx:=kS Hx hs zo;replace Hr:=bP Hr hs;obtain⟨x0,x1⟩:=Hx.out.c2;obtain⟨r0,aj,r1,ak⟩:=Hr.out.g2;replace Hb:=bS Hb hs ZS;clear hs;refine bodyPost_ret (v:=.agg #[ag (!t),ah m]) (by simp[results,Tryz.results82,go_sem,r0,r1]) rfl ⟨rfl,Hb.out⟩
theorem Iq (s:Bool)(l:List UInt8)(w:World)(hl:l.length<=68719476736):
 Calls Tryz.prog 82 #[.agg #[ag s,ah l]] w λe w'=>e=.returned (.agg #[ag (s&& !(nt (nv l)).isEmpty),ah (nt (nv l))])/\Bw w w':=by
 cases s
 . exact apC l w hl
 . exact apD l w hl
theorem Du (n:Nat)(w:World)(hn:n<=9223372036854775807):
 Calls Tryz.prog 31 #[af (n:Int)] w λe w'=>e=.returned (.agg #[ag false,ah (nt n)])/\Bw w w':=by
 have h1:=λW=>apO n W (by rw[kd];omega);have H1:=ai h1;clear h1;have hw:IntKind.u64.wrap (n:Int)=(n:Int):=by rw[IntKind.wrap_u64];omega
 obtain⟨m,hm⟩:=aG (nt n);rw[hm];have Hm:=ai hm;clear hm;obtain⟨W,cg,Hb,Hr⟩:=fJ w 32 [ag false,.string ⟨#[]⟩];obtain⟨r0,aj,r1,ak⟩:=Hr.out.g2;go_enter Tryz.func31,Tryz.ntmps31;go_wp2_with fail;refine(H1.out _).mono ?_;rintro e w1 ⟨rfl,ae⟩;clear r0 aj r1 ak;obtain⟨Hr,r0,aj,r1,ak⟩:=bE Hr ae;replace Hb:=aB Hb ae;clear ae;rw[Hm.out];go_wp2;clear r0 aj r1 ak;refine dW (bC w1 (w.heap.size) 0 [ag false,ah m]) bJ ?_;intro w9 hs;replace Hr:=bP Hr hs;obtain⟨r0,aj,r1,ak⟩:=Hr.out.g2;replace Hb:=bS Hb hs ZS;clear hs;refine bodyPost_ret (v:=.agg #[ag false,ah m]) (by simp[results,Tryz.results31,go_sem,r0,r1]) rfl ⟨rfl,Hb.out⟩
theorem acr (l:List UInt8)(w:World)(hl:l.length<=68719476736):
 Calls Tryz.prog 89 #[ah l] w λe w'=>e=.returned (af (bN (nv l):Int))/\Bw w w':=by
 go_enter Tryz.func89,Tryz.ntmps89;go_wp2_with fail;refine(rc l w hl).mono ?_;rintro e w1 ⟨⟨y,rfl,hy⟩,ae⟩;obtain⟨a,cap,rfl⟩:=hy.len;have Hb:=ai ae;clear hy ae;go_wp2;go_ret;exact⟨rfl,Hb.out⟩
theorem acx (s:Bool)(l:List UInt8)(w:World)(hl:l.length<=68719476736)(h0:nv l=0):
 Calls Tryz.prog 48 #[.agg #[ag s,ah l]] w λe w'=>e=.returned (af 0)/\Bw w w':=by
 have h1:=acr l;rw[h0]at h1;have H1:=ai h1;clear h1 h0;obtain⟨W,cg,Hb,Hx⟩:=fJ w 32 [ag s,ah l];obtain⟨x0,x1⟩:=Hx.out.c2;go_enter Tryz.func48,Tryz.ntmps48;go_wp2_with fail;refine(H1.out _ hl).mono ?_;rintro e w1 ⟨rfl,ae⟩;clear x0 x1;obtain⟨Hx,x0,x1⟩:=aR Hx ae;replace Hb:=aB Hb ae;clear ae;rw[aim];go_wp2;go_ret;exact⟨rfl,Hb.out⟩
theorem apF (s:Bool)(n:Nat)(w:World)(h0:0<n)(hl:(nt (2*n)).length<=68719476736):
 Calls Tryz.prog 118 #[.agg #[ag s,ah (nt (2*n))],.agg #[ag false,ah (nt 2)]] w λe w'=>e=.returned (.tuple #[.agg #[ag s,ah (nt n)],.agg #[ag false,.string (bs [])],ag true])/\Bw w w':=by
 have hd:=λW=>apz (nt (2*n)) (nt 2) W hl zd (by rw[jJ];decide);simp only[jJ]at hd;have e1:2*n/2=n:=by omega
 have e2:2*n%2=0:=by omega
 rw[e1,e2,AJ]at hd;have qw:(nt n).length<=68719476736:=Nat.le_trans (jr (Nat.lt_of_le_of_lt (show n<=2*n by omega) (ani (2*n)))) hl;have hf:=λW=>Iq s (nt n) W qw;have hg:=λW=>Iq s [] W zd;have hs:=λW=>acx false [] W zd rfl;simp only[jJ,ym,AJ,List.isEmpty_nil,Bool.not_true,Bool.and_false]at hf hg;have e3:(nt n).isEmpty=false:=by
  have:=LV h0;cases h:nt n with
  |nil=>exact absurd h this
  |cons a b=>rfl
 rw[e3]at hf;simp only[Bool.not_false,Bool.and_true]at hf;generalize nt (2*n)=L at*;generalize nt n=M at*;generalize nt 2=T at*;obtain⟨Hd,Hf,Hg,Hs⟩:=dx hd hf hg hs;clear hd hf hg hs e1 e2 e3 hl qw;have hne:(s !=false)=s:=by cases s<;>rfl
 obtain⟨W,cg,Hb,Hx,Hy,Hp,Hq⟩:=Ig w 32 [ag s,ah L] 32 [ag false,ah T] 32 [ag false,.string ⟨#[]⟩] 32 [ag false,.string ⟨#[]⟩];obtain⟨x0,x1⟩:=Hx.out.c2;obtain⟨y0,y1⟩:=Hy.out.c2;obtain⟨p0,jf,p1,jg⟩:=Hp.out.g2;obtain⟨q0,cJ,q1,cK⟩:=Hq.out.g2;go_enter Tryz.func118,Tryz.ntmps118;go_wp2_with fail;refine(Hd.out _).mono ?_;rintro e w1 ⟨rfl,ae⟩;clear x0 x1 y0 y1 p0 jf p1 jg q0 cJ q1 cK;obtain⟨Hx,x0,x1⟩:=aR Hx ae;obtain⟨Hy,y0,y1⟩:=aR Hy ae;obtain⟨Hp,p0,jf,p1,jg⟩:=bE Hp ae;obtain⟨Hq,q0,cJ,q1,cK⟩:=bE Hq ae;replace Hb:=aB Hb ae;clear ae;go_wp2_with fail;refine(Hf.out _).mono ?_;rintro e w2 ⟨rfl,ae⟩;clear x0 x1 y0 y1 p0 jf p1 jg q0 cJ q1 cK;obtain⟨Hx,x0,x1⟩:=aR Hx ae;obtain⟨Hy,y0,y1⟩:=aR Hy ae;obtain⟨Hp,p0,jf,p1,jg⟩:=bE Hp ae;obtain⟨Hq,q0,cJ,q1,cK⟩:=bE Hq ae;replace Hb:=aB Hb ae;clear ae;have abu:=Hx.out.lt;have av3:=Hy.out.lt;have avE:=Hp.out.lt;have avI:=Hq.out.lt;obtain⟨W2,mM,ae,Hu⟩:=cd w2 32 [ag s,ah M];clear x0 x1;replace Hx:=kB Hx ae;clear y0 y1;replace Hy:=kB Hy ae;clear p0 jf p1 jg;replace Hp:=kB Hp ae;clear q0 cJ q1 cK;obtain⟨Hq,q0,cJ,q1,cK⟩:=bE Hq ae;obtain⟨x0,x1⟩:=Hx.out.c2;obtain⟨y0,y1⟩:=Hy.out.c2;obtain⟨p0,jf,p1,jg⟩:=Hp.out.g2;obtain⟨u0,u1⟩:=Hu.out.c2;replace Hb:=aB Hb ae;clear ae;go_wp2_with fail;refine(Hg.out _).mono ?_;rintro e w3 ⟨rfl,ae⟩;clear x0 x1 y0 y1 p0 jf p1 jg q0 cJ q1 cK u0 u1;obtain⟨Hx,x0,x1⟩:=aR Hx ae;obtain⟨Hy,y0,y1⟩:=aR Hy ae;obtain⟨Hp,p0,jf,p1,jg⟩:=bE Hp ae;obtain⟨Hq,q0,cJ,q1,cK⟩:=bE Hq ae;obtain⟨Hu,u0,u1⟩:=aR Hu ae;replace Hb:=aB Hb ae;clear ae;have anz:=Hx.out.lt;have anD:=Hy.out.lt;have ano:=Hp.out.lt;have avJ:=Hq.out.lt;have avV:=Hu.out.lt;obtain⟨W3,Qh,ae,Hv⟩:=cd w3 32 [ag false,.string (bs [])];clear x0 x1;replace Hx:=kB Hx ae;clear y0 y1;replace Hy:=kB Hy ae;clear p0 jf p1 jg;replace Hp:=kB Hp ae;clear q0 cJ q1 cK;replace Hq:=kB Hq ae;clear u0 u1;obtain⟨Hu,u0,u1⟩:=aR Hu ae;obtain⟨x0,x1⟩:=Hx.out.c2;obtain⟨y0,y1⟩:=Hy.out.c2;obtain⟨p0,jf,p1,jg⟩:=Hp.out.g2;obtain⟨q0,cJ,q1,cK⟩:=Hq.out.g2;obtain⟨v0,v1⟩:=Hv.out.c2;replace Hb:=aB Hb ae;clear ae;go_wp2_with fail;refine(Hs.out _).mono ?_;rintro e w4 ⟨rfl,ae⟩;clear x0 x1 y0 y1 p0 jf p1 jg q0 cJ q1 cK u0 u1 v0 v1;obtain⟨Hx,x0,x1⟩:=aR Hx ae;obtain⟨Hy,y0,y1⟩:=aR Hy ae;obtain⟨Hp,p0,jf,p1,jg⟩:=bE Hp ae;obtain⟨Hq,q0,cJ,q1,cK⟩:=bE Hq ae;obtain⟨Hu,u0,u1⟩:=aR Hu ae;obtain⟨Hv,v0,v1⟩:=aR Hv ae;replace Hb:=aB Hb ae;clear ae;go_wp2_with fail;have lp:=Hp.out.lt;have lq:=Hq.out.lt;refine bR (λw'=>aC w' (w2.heap.size) 0 (ag s)/\aC w' (w2.heap.size) 1 (ah M)/\aC w' (w3.heap.size) 0 (ag false)/\aC w' (w3.heap.size) 1 (.string (bs []))) (λi=>Nat.blt i 3) [(0,true),(1,true),(2,false),(3,false),(4,false)] zk zk rfl zk zc ⟨u0,u1,v0,v1⟩ ?_;iterate 2 (refine pT rfl rfl ?_ (by intro w' ⟨q0,q1,q2,q3⟩;go_simp;try with_reducible rfl))
 refine aI rfl rfl (λK hK=>?_);go_simp;refine hK _ _ (λ_=>⟨(aK zf (aK zf u0)),(aK zf (aK zf u1)),(aK zf (aK zf v0)),(aK zf (aK zf v1))⟩) ?_;clear hK K
 clear x0 x1 y0 y1 p0 jf p1 jg q0 cJ q1 cK u0 u1 v0 v1;refine bV (bC w4 (w.heap.size+1+1) 0 [ag s,ah M]) bJ ?_;intro w5 hs;replace Hx:=kS Hx hs zo;replace Hy:=kS Hy hs zo;replace Hp:=bP Hp hs;replace Hq:=kS Hq hs zo;replace Hu:=kS Hu hs zo;replace Hv:=kS Hv hs zo;obtain⟨x0,x1⟩:=Hx.out.c2;obtain⟨y0,y1⟩:=Hy.out.c2;obtain⟨p0,jf,p1,jg⟩:=Hp.out.g2;obtain⟨q0,cJ,q1,cK⟩:=Hq.out.g2;obtain⟨u0,u1⟩:=Hu.out.c2;obtain⟨v0,v1⟩:=Hv.out.c2;replace Hb:=bS Hb hs ZS;clear hs;refine aI rfl rfl (λK hK=>?_);go_simp;refine hK _ _ (λh=>absurd h zd) ?_;clear hK K
 clear x0 x1 y0 y1 p0 jf p1 jg q0 cJ q1 cK u0 u1 v0 v1;refine bV (bC w5 (w.heap.size+1+1+1) 0 [ag false,.string (bs [])]) bJ ?_;intro w6 hs;replace Hx:=kS Hx hs zo;replace Hy:=kS Hy hs zo;replace Hp:=kS Hp hs zo;replace Hq:=bP Hq hs;replace Hu:=kS Hu hs zo;replace Hv:=kS Hv hs zo;obtain⟨x0,x1⟩:=Hx.out.c2;obtain⟨y0,y1⟩:=Hy.out.c2;obtain⟨p0,jf,p1,jg⟩:=Hp.out.g2;obtain⟨q0,cJ,q1,cK⟩:=Hq.out.g2;obtain⟨u0,u1⟩:=Hu.out.c2;obtain⟨v0,v1⟩:=Hv.out.c2;replace Hb:=bS Hb hs ZS;clear hs;refine aI rfl rfl (λK hK=>?_);go_simp;refine hK _ _ (λh=>absurd h zd) ?_;clear hK K
 simp only[bi];go_wp2;refine bodyPost_ret (v:=.tuple #[.agg #[ag s,ah M],.agg #[ag false,.string (bs [])],ag true]) (by simp[results,Tryz.results118,go_sem,p0,p1,q0,q1]) rfl ⟨rfl,Hb.out⟩
def cc (v u k:Nat):Nat:=(v%2^k+u%2^k)/2^k
theorem aiN (v u:Nat):cc v u 0=0:=by simp[cc,Nat.mod_one]
theorem aiL (v u k:Nat):cc v u k<=1:=by unfold cc;have h:0<2^k:=Nat.pow_pos zd;have h1:=Nat.mod_lt v h;have h2:=Nat.mod_lt u h;rw[<-Nat.lt_succ_iff,Nat.div_lt_iff_lt_mul h];omega
theorem aiM (v u k:Nat):bd (v+u) k=(bd v k+bd u k+cc v u k)%2/\cc v u (k+1)=(bd v k+bd u k+cc v u k)/2:=by
 have hM:0<2^k:=Nat.pow_pos zd;have ha:=Nat.mod_lt v hM;have hb:=Nat.mod_lt u hM;have e1:v=2^k* (v/2^k)+v%2^k:=(Nat.div_add_mod v _).symm;have e2:u=2^k* (u/2^k)+u%2^k:=(Nat.div_add_mod u _).symm;have es:(v+u)/2^k=v/2^k+u/2^k+cc v u k:=by
  unfold cc;have:v+u=(v%2^k+u%2^k)+2^k* (v/2^k+u/2^k):=by rw[Nat.mul_add];omega
  rw[this,Nat.add_mul_div_left _ _ hM];omega
 have m1:v%2^(k+1)=v%2^k+2^k*bd v k:=by rw[Nat.pow_succ,Nat.mod_mul];rfl
 have m2:u%2^(k+1)=u%2^k+2^k*bd u k:=by rw[Nat.pow_succ,Nat.mod_mul];rfl
 constructor
 . unfold bd at*;rw[es];omega
 . have e3:cc v u (k+1)=((v%2^k+u%2^k)+2^k* (bd v k+bd u k))/2^k/2:=by rw[Nat.div_div_eq_div_mul,<-Nat.pow_succ];unfold cc;rw[m1,m2,Nat.mul_add];congr 1;omega
   rw[e3,Nat.add_mul_div_left _ _ hM];show(cc v u k+_)/2=_
   congr 1;omega
theorem aif (u p i:Nat):bd (u*2^p) i=if p<=i then bd u (i-p)else 0:=by
 unfold bd;by_cases h:p<=i
 . rw[if_pos h];obtain⟨j,rfl⟩:∃j,i=p+j:=⟨i-p,by omega⟩;rw[Nat.pow_add,<-Nat.div_div_eq_div_mul,Nat.mul_div_cancel _ (Nat.pow_pos zd),show p+j-p=j by omega]
 . rw[if_neg h];obtain⟨j,rfl⟩:∃j,p=i+1+j:=⟨p-i-1,by omega⟩;rw[show u*2^(i+1+j)=(u*2^j*2) *2^i by rw[Nat.pow_add,Nat.pow_add,Nat.pow_one];simp only[Nat.mul_assoc,Nat.mul_comm,Nat.mul_left_comm],Nat.mul_div_cancel _ (Nat.pow_pos zd)];omega
theorem SU (x y:Value)(n m v u p:Nat)(w:World)(hx:Bv w x n v)(hy:Bv w y m u)(hn:n<=1099511627775)(hm:m+p<=1099511627775):
 Calls Tryz.prog 132 #[x,y,af (p:Int)] w λe w'=>(∃z,e=.returned z/\Bv w' z (max n (m+p)+1) (v+u*2^p))/\Bw w w':=by
 obtain⟨a,cap,pj⟩:=hx.len;obtain⟨a',cap',GP⟩:=hy.len;have iZ:=λW (hW:Bw w W) i (hi:i<=1099511627776)=>Ds x n v i W (hx.below hW) hi zo;have hby:=λW (hW:Bw w W) i (hi:i<=1099511627776)=>Ds y m u i W (hy.below hW) hi zo;obtain⟨L,hL⟩:=aG (max n (m+p)+1);obtain⟨U,hU⟩:=aG (u*2^p);have vr:Hid (v+U<2^L):=by
  show _<_
  have h1:v<2^(L-1):=Nat.lt_of_lt_of_le hx.1 (Nat.pow_le_pow_right zd zo);have h2:U<2^(L-1):=by rw[<-hU];have h3:u*2^p<2^m*2^p:=Nat.mul_lt_mul_of_pos_right hy.1 (Nat.pow_pos zd);rw[<-Nat.pow_add]at h3;exact Nat.lt_of_lt_of_le h3 (Nat.pow_le_pow_right zd zo)
  rw[show L=L-1+1 by omega,Nat.pow_succ];omega
 have YM:∀i,bd U i=if p<=i then bd u (i-p)else 0:=λi=>by rw[<-hU];exact aif u p i
 have hLI:max (n:Int) ((m:Int)+(p:Int))+1=(L:Int):=by omega
 have hLb:L<=1099511627776:=by omega
 subst pj;subst GP;have hmk:=rX (L:Int) L rfl zo;rw[hU,hL];obtain⟨sD,Eh,HbU⟩:=cL iZ hby YM;clear iZ hby hx hy YM hU hL;go_enter Tryz.func132,Tryz.ntmps132;go_wp2_with fail;go_loopw[8,9,10] (λb i _ wr=>∃k:Nat,k<=L/\i=af (k:Int)/\b=.int .u8 (cc v U k:Int)/\ar wr w.heap.size 5 (cZ L (λj=>if j<k then bd (v+U) j else 0))/\Bw w wr) (λ_ i _ _=>L-(intOf i).toNat);case atStart=>
  refine⟨0,Nat.zero_le _,rfl,by rw[aiN];rfl,?_,zl⟩;have e:cZ L (λj=>if j<0 then bd (v+U) j else 0)=cZ L λ_=>0:=oz λj hj=>by rw[if_neg zo]
  rw[e];exact ar.new _ _ _
 case round=>
  obtain⟨k,hk,rfl,rfl,hB,hb⟩:=hrel;by_cases hlt:k<L
  . have H1:=ai (sD.out wr hb k zo);obtain⟨hs,hs2⟩:=aiM v U k;have hp1:=uj v k;have hq:=uj U k;have hr:=aiL v U k;have Rl:=HbU.out k;have hcell:wr.cell? ⟨w.heap.size,k,none⟩=some (.int .u8 0):=by rw[hB.cell,mC _ _ _ hlt,if_neg zo];rfl
    have hfree:wr.frozen? ⟨w.heap.size,k,none⟩=false:=hB.free _;have cm:=hB.set k (.int .u8 ((bd (v+U) k:Nat):Int))
    rw[Bh,oz (g:=λj=>if j<k+1 then bd (v+U) j else 0) λj hj=>by
     by_cases e:j=k
     . subst e;rw[if_pos rfl,if_pos zo]
     . rw[if_neg e];by_cases e2:j<k
       . rw[if_pos e2,if_pos zo]
       . rw[if_neg e2,if_neg zo]]at cm
    obtain⟨ft,Hb⟩:=aO cm (hb.setCell (p:=⟨w.heap.size,k,none⟩) (Nat.le_refl _) (.int .u8 ((bd (v+U) k:Nat):Int)));have H2:p<=k->Calls Tryz.prog 175 #[.slice a' m cap',af ((k-p:Nat):Int)] wr λe w'=>e=.returned (.int .u8 (bd U k:Int))/\wr=w':=λh=>by rw[Rl,if_pos h];exact Eh.out wr hb (k-p) zo
    have hq0:¬p<=k->bd U k=0:=λh=>by rw[Rl,if_neg h]
    have bK:=xV L L k (k:Int) (rfl:(some ⟨w.heap.size,0,none⟩:Option Addr)=_) hlt rfl;rw[Nat.mul_one,Nat.zero_add]at bK;clear hB cm hb Rl;generalize bd v k=P at*;generalize bd U k=q at*;generalize hrr:cc v U k=r at*;generalize bd (v+U) k=z at*;obtain⟨H2,Hq0,mF⟩:=cL H2 hq0 hs2;clear hq0 hs2 hrr;obtain⟨S,hS⟩:=aG (P+q+r);have hS3:S<=3:=by omega
    have hw1:IntKind.u8.wrap ((P:Int)+(r:Int))=(P:Int)+(r:Int):=by rw[IntKind.wrap_u8];omega
    have hw2:IntKind.u8.wrap ((P:Int)+(r:Int)+(q:Int))=(S:Int):=by rw[IntKind.wrap_u8];omega
    have hand:bits .and .u8 (S:Int) 1=(z:Int):=by rw[OC S zo,hs,<-hS]
    obtain⟨HS,Hs⟩:=aO hS hs;clear hS hs;go_wp2_with fail;refine H1.out.mono ?_;rintro e w' ⟨rfl,rfl⟩;by_cases hpk:p<=k
    . have H3:=ai (H2.out hpk);have uE:((k:Int)-(p:Int))=((k-p:Nat):Int):=by omega
      go_wp2_with fail;refine H3.out.mono ?_;rintro e w' ⟨rfl,rfl⟩;go_wp2;go_roundw;case rel=>refine⟨k+1,by omega,by go_num,?_,ft.out,Hb.out⟩;have h1:=mF.out;have h2:=HS.out;rw[h1];congr 1;omega
      case measure=>simp[intOf];omega
    . have hq1:=Hq0.out hpk;subst hq1;have hw3:IntKind.u8.wrap ((P:Int)+(r:Int))=(S:Int):=by rw[hw1];have:=HS.out;omega
      clear hw1 hw2;go_wp2;go_roundw;case rel=>refine⟨k+1,by omega,by go_num,?_,ft.out,Hb.out⟩;have h1:=mF.out;have h2:=HS.out;rw[h1];congr 1;omega
      case measure=>simp[intOf];omega
  . obtain rfl:k=L:=by omega
    rw[oz (g:=bd (v+U)) λj hj=>by rw[if_pos hj]]at hB;obtain⟨Hz,Hb⟩:=aO (Bv.aw2 hB vr.out) hb;clear hB hb;go_wp2;go_ret;exact⟨⟨_,rfl,Hz.out⟩,Hb.out⟩
theorem apt (xs:List (List UInt8))(a:Option Addr)(cap:Nat)(w:World)(hl:∀l∈xs,l.length<=68719476736)(hx:xs.length<=1048576)
 (ha:At w a (xs.map λl=>ah l)):
 Calls Tryz.prog 83 #[.slice a xs.length cap] w λe w'=>e=.returned (ah (nt (im xs)))/\Bw w w':=by
 obtain⟨Hl,Ha⟩:=aO hl ha;clear hl ha;go_enter Tryz.func83,Tryz.ntmps83;go_wp2_with fail;go_loopw[3,4] (λz i wr=>∃k n:Nat,k<=xs.length/\n<=549755813888+k/\i=af (k:Int)/\Bv wr z n (im (xs.take k))/\Bw w wr) (λ_ i _=>xs.length-(intOf i).toNat);case atStart=>exact⟨0,0,Nat.zero_le _,Nat.zero_le _,rfl,⟨by simp[im],.inl ⟨rfl,rfl⟩⟩,Below.refl _ _⟩
 case round=>
  obtain⟨k,n,hk,hn,rfl,hz,hb⟩:=hrel;by_cases hlt:k<xs.length
  . have hne:(xs.map λl=>Value.string (bs l))≠[]:=by intro h0;have:=congrArg List.length h0;simp at this;subst this;simp at hlt
    obtain⟨b,o,hab,hcs⟩:=(Ha.out.below hb).get hne;have hcell:wr.cell? ⟨b,o+k,none⟩=some (.string (bs xs[k])):=by rw[hcs k (by simpa using hlt)];simp[hlt]
    have bK:=aaS xs.length cap k (k:Int) hab hlt rfl;rw[Nat.mul_one]at bK;clear hcs hne;have lG:Hid (xs[k].length<=68719476736):=Hl.out _ (List.getElem_mem hlt);obtain⟨bX,mD⟩:=aO (abN xs k hlt) hab;clear hab;generalize xs[k]=x at*;have iZ:bN (nv x)<=549755813888:=Nat.le_trans (ia (pD x)) (by have:=lG.out;omega);obtain⟨Hz,Hb⟩:=aO hz hb;clear hz hb;go_wp2_with fail;refine(rc x _ lG.out).mono ?_;rintro e w1 ⟨⟨y,rfl,hy⟩,hb1⟩;obtain⟨Hy,bW⟩:=aO hy hb1;clear hy hb1;go_wp2_with fail;refine(SU u3 y n (bN (nv x)) (im (xs.take k)) (nv x) 0 w1 (Hz.out.below bW.out) Hy.out zo zo).mono ?_;rintro e w2 ⟨⟨z,rfl,hz⟩,hb2⟩;obtain⟨dm,cw⟩:=aO hz hb2;clear hz hb2;go_wp2;go_roundw;case rel=>have h:=dm.out;rw[Nat.pow_zero,Nat.mul_one,<-bX.out]at h;exact⟨k+1,_,by omega,by omega,by go_num,h,aJ Hb.out (aJ bW.out cw.out)⟩
    case measure=>simp[intOf];omega
  . obtain rfl:k=xs.length:=by omega
    rw[List.take_length]at hz;obtain⟨Hz,Hb⟩:=aO hz hb;clear hz hb;go_wp2_with fail;refine(wy u3 n (im xs) wr zo Hz.out).mono ?_;rintro e w1 ⟨rfl,hb1⟩;have bW:=ai hb1;clear hb1;go_wp2;go_ret;exact⟨rfl,aJ Hb.out bW.out⟩
theorem acl (l m:List UInt8)(w:World)(hl:l.length<=68719476736)(hm:m.length<=68719476736):
 Calls Tryz.prog 133 #[ah l,ah m] w λe w'=>e=.returned (af (dI (nv l) (nv m)))/\Bw w w':=by
 have hbl:=Nat.le_trans (ia (pD l)) (show 8*l.length<=549755813888 by omega);have KI:=Nat.le_trans (ia (pD m)) (show 8*m.length<=549755813888 by omega);go_enter Tryz.func133,Tryz.ntmps133;go_wp2_with fail;refine(rc l w hl).mono ?_;rintro e w1 ⟨⟨y,rfl,hy⟩,hb1⟩;obtain⟨Hy,bW⟩:=aO hy hb1;clear hy hb1;go_wp2_with fail;refine(rc m w1 hm).mono ?_;rintro e w2 ⟨⟨z,rfl,hz⟩,hb2⟩;obtain⟨Hz,cw⟩:=aO hz hb2;clear hz hb2;go_wp2_with fail;refine(acm y z _ _ (nv l) (nv m) w2 (Hy.out.below cw.out) Hz.out zo zo).mono ?_;rintro e w' ⟨rfl,rfl⟩;go_wp2;go_ret;exact⟨rfl,aJ bW.out cw.out⟩
theorem Ww (S u:Nat):dI S u<0↔S<u:=by
 unfold dI;by_cases h1:S<u
 . rw[if_pos h1];omega
 . rw[if_neg h1];by_cases h2:u<S
   . rw[if_pos h2];omega
   . rw[if_neg h2];omega
theorem ap1 (l m:List UInt8)(w:World)(hl:l.length<=68719476736)(hm:m.length<=68719476736)(h:nv l<nv m):
 Calls Tryz.prog 84 #[ah l,ah m] w λe w'=>e=.returned (.tuple #[.string ⟨#[]⟩,ag false])/\Bw w w':=by
 have hc:=(Ww (nv l) (nv m)).2 h;have H1:=ai (acl l m w hl hm);clear h;generalize dI (nv l) (nv m)=c at*;go_enter Tryz.func84,Tryz.ntmps84;go_wp2_with fail;refine H1.out.mono ?_;rintro e w1 ⟨rfl,hb1⟩;have bW:=ai hb1;clear hb1;go_wp2;go_ret2
 exact⟨rfl,bW.out⟩
theorem acy (l m:List UInt8)(w:World)(hl:l.length<=68719476736)(hm:m.length<=68719476736)(h:nv m<=nv l):
 Calls Tryz.prog 84 #[ah l,ah m] w λe w'=>e=.returned (.tuple #[ah (nt (nv l-nv m)),ag true])/\Bw w w':=by
 have hc:¬dI (nv l) (nv m)<0:=λh2=>by have:=(Ww (nv l) (nv m)).1 h2;omega
 have hbl:=Nat.le_trans (ia (pD l)) (show 8*l.length<=549755813888 by omega);have KI:=Nat.le_trans (ia (pD m)) (show 8*m.length<=549755813888 by omega);obtain⟨H1,H2,H3⟩:=cL (acl l m w hl hm) (λW=>rc l W hl) (λW=>rc m W hm);generalize dI (nv l) (nv m)=c at*;go_enter Tryz.func84,Tryz.ntmps84;go_wp2_with fail;refine H1.out.mono ?_;rintro e w1 ⟨rfl,hb1⟩;have bW:=ai hb1;clear hb1;go_wp2_with fail;refine(H2.out w1).mono ?_;rintro e w2 ⟨⟨y,rfl,hy⟩,hb2⟩;obtain⟨Hy,cw⟩:=aO hy hb2;clear hy hb2;go_wp2_with fail;refine(H3.out w2).mono ?_;rintro e w3 ⟨⟨z,rfl,hz⟩,hb3⟩;obtain⟨Hz,fp⟩:=aO hz hb3;clear hz hb3;go_wp2_with fail;refine(acs y z _ _ (nv l) (nv m) w3 (Hy.out.below fp.out) Hz.out zo zo h).mono ?_;rintro e w4 ⟨⟨d,rfl,hd,_⟩,hb4⟩;obtain⟨Hd,kx⟩:=aO hd hb4;clear hd hb4;go_wp2_with fail;refine(wy d _ (nv l-nv m) w4 zo Hd.out).mono ?_;rintro e w5 ⟨rfl,ez⟩;have gD:=ai ez;clear ez;go_wp2;go_ret2
 exact⟨rfl,aJ bW.out (aJ cw.out (aJ fp.out (aJ kx.out gD.out)))⟩
theorem Dt (s:Bool)(l:List UInt8)(Z:Int)(hZ:iv s l=Z)(w:World)(hl:l.length<=68719476736):
 Calls Tryz.prog 82 #[.agg #[ag s,ah l]] w λe w'=>e=.returned (.agg #[ag (au Z),ah (nt Z.natAbs)])/\Bw w w':=by
 have h:=Iq s l w hl;rw[<-RL,<-pk s l,hZ]at h;exact h
theorem apY (s:Bool)(l:List UInt8)(w:World)(hl:l.length<=68719476736):
 Calls Tryz.prog 48 #[.agg #[ag s,ah l]] w λe w'=>e=.returned (af (eQ (iv s l)))/\Bw w w':=by
 by_cases h0:nv l=0
 . have e:eQ (iv s l)=0:=by unfold iv;rw[h0];cases s<;>rfl
   rw[e];exact acx s l w hl h0
 . have h1:=acr l;have hbp:=EX (v:=nv l) zo;have e:eQ (iv s l)=if s then-1 else 1:=by unfold iv eQ;cases s<;>simp<;>omega
   rw[e];generalize bN (nv l)=B at*;have hB:((B:Int)==0)=false:=by simp;omega
   have H1:=ai h1;clear h1 e h0;obtain⟨W,cg,Hb,Hx⟩:=fJ w 32 [ag s,ah l];obtain⟨x0,x1⟩:=Hx.out.c2;go_enter Tryz.func48,Tryz.ntmps48;go_wp2_with fail;refine(H1.out _ hl).mono ?_;rintro e w1 ⟨rfl,ae⟩;clear x0 x1;obtain⟨Hx,x0,x1⟩:=aR Hx ae;replace Hb:=aB Hb ae;clear ae;cases s with
   |false=>go_wp2;go_ret;exact⟨rfl,Hb.out⟩
   |true=>go_wp2;go_ret;exact⟨rfl,Hb.out⟩
theorem apT (s:Bool)(l m:List UInt8)(Z:Int)(hZ:iv s l+iv s m=Z)(w:World)(hl:l.length<=1048576)(hm:m.length<=1048576):
 Calls Tryz.prog 39 #[.agg #[ag s,ah l],.agg #[ag s,ah m]] w λe w'=>e=.returned (.agg #[ag (au Z),ah (nt Z.natAbs)])/\Bw w w':=by
 have es:im [l,m]=nv l+nv m:=by simp[im]
 have ha:∀W b,At W (some ⟨b,0,none⟩) [ah l,ah m]->Calls Tryz.prog 83 #[.slice (some ⟨b,0,none⟩) 2 2] W λe w'=>e=.returned (ah (nt (nv l+nv m)))/\Bw W w':=by intro W b h;rw[<-es];exact apt [l,m] (some ⟨b,0,none⟩) 2 W (by intro x hx;simp at hx;rcases hx with rfl|rfl<;>omega) (by show 2<=1048576;decide) h
 have hlen:(nt (nv l+nv m)).length<=68719476736:=by have h1:=gL l;have h2:=gL m;obtain⟨N,hN⟩:=aG (max l.length m.length);refine Nat.le_trans (jr (k:=N+1) ?_) zo;have h3:256^l.length<=256^N:=Nat.pow_le_pow_right zd zo;have h4:256^m.length<=256^N:=Nat.pow_le_pow_right zd zo;rw[Nat.pow_succ];omega
 have hf:=λW=>Dt s (nt (nv l+nv m)) Z (by rw[<-hZ,mU];unfold iv;cases s<;>simp<;>omega) W hlen;obtain⟨Ha,Hf⟩:=aO ha hf;clear ha hf hlen es hZ;generalize nt (nv l+nv m)=S at*;obtain⟨W,cg,Hb,Hx,Hy,Hr⟩:=qO w 32 [ag s,ah l] 32 [ag s,ah m] 32 [ag false,.string ⟨#[]⟩];obtain⟨x0,x1⟩:=Hx.out.c2;obtain⟨y0,y1⟩:=Hy.out.c2;obtain⟨r0,aj,r1,ak⟩:=Hr.out.g2;go_enter Tryz.func39,Tryz.ntmps39;go_wp2_with fail;refine bR (λw'=>aC w' (w.heap.size) 0 (ag s)/\aC w' (w.heap.size) 1 (ah l)/\aC w' (w.heap.size+1) 0 (ag s)/\aC w' (w.heap.size+1) 1 (ah m)) (λi=>Nat.blt i 10) [(0,true),(1,true),(2,true),(3,true),(4,true),(5,true),(6,false),(7,false),(8,true),(9,false),(10,false)] zk zk rfl zk zc ⟨x0,x1,y0,y1⟩ ?_;iterate 6 (refine pT rfl rfl ?_ (by intro w' ⟨q0,q1,q2,q3⟩;go_simp;try with_reducible rfl))
 refine aI rfl rfl (λK hK=>?_);go_simp;refine hK _ _ (λ_=>⟨aL x0,aL x1,aL y0,aL y1⟩) ?_;clear hK K
 refine bV (λW1=>ar W1 (W.heap.size) 9 [ah l,ah m]/\Bw W W1) (by first|exact fe|exact fg) ?_;rintro W1 ⟨qv,ae⟩;clear x0 x1 y0 y1 r0 aj r1 ak;have anx:=Hx.out.lt;have anC:=Hy.out.lt;have GX:=Hr.out.lt;replace Hx:=kB Hx ae;replace Hy:=kB Hy ae;replace Hr:=kB Hr ae;have Hv:=ai qv;clear qv;obtain⟨x0,x1⟩:=Hx.out.c2;obtain⟨y0,y1⟩:=Hy.out.c2;obtain⟨r0,aj,r1,ak⟩:=Hr.out.g2;obtain⟨v0,v1⟩:=Hv.out.c2;replace Hb:=aB Hb ae;clear ae;refine aI rfl rfl (λK hK=>?_);go_simp;with_reducible refine(Ha.out _ _ (At.aw2 Hv.out)).mono ?_
 rintro e w2 ⟨rfl,hq⟩;have ae:Bw W1 w2:=by first|exact hq|exact aW hq
 clear x0 x1 y0 y1 r0 aj r1 ak v0 v1;obtain⟨Hx,x0,x1⟩:=aR Hx ae;obtain⟨Hy,y0,y1⟩:=aR Hy ae;obtain⟨Hr,r0,aj,r1,ak⟩:=bE Hr ae;obtain⟨Hv,v0,v1⟩:=aR Hv ae;replace Hb:=aB Hb ae;clear ae;refine hK _ _ (λ_=>⟨x0,x1,y0,y1⟩) ?_;clear hK K
 refine pT rfl rfl ?_
 refine aI rfl rfl (λK hK=>?_);go_simp;with_reducible refine(Hf.out _).mono ?_
 rintro e w3 ⟨rfl,hq⟩;have ae:Bw w2 w3:=by first|exact hq|exact aW hq
 clear x0 x1 y0 y1 r0 aj r1 ak v0 v1;obtain⟨Hx,x0,x1⟩:=aR Hx ae;obtain⟨Hy,y0,y1⟩:=aR Hy ae;obtain⟨Hr,r0,aj,r1,ak⟩:=bE Hr ae;obtain⟨Hv,v0,v1⟩:=aR Hv ae;replace Hb:=aB Hb ae;clear ae;refine hK _ _ (λ_=>⟨x0,x1,y0,y1⟩) ?_;clear hK K
 refine aI rfl rfl (λK hK=>?_);go_simp;refine hK _ _ (λh=>absurd h zd) ?_;clear hK K
 clear x0 x1 y0 y1 r0 aj r1 ak v0 v1;refine bV (bC w3 (w.heap.size+1+1) 0 [ag (au Z),ah (nt Z.natAbs)]) bJ ?_;intro w4 hs;replace Hx:=kS Hx hs zo;replace Hy:=kS Hy hs zo;replace Hr:=bP Hr hs;replace Hv:=kS Hv hs zo;obtain⟨x0,x1⟩:=Hx.out.c2;obtain⟨y0,y1⟩:=Hy.out.c2;obtain⟨r0,aj,r1,ak⟩:=Hr.out.g2;obtain⟨v0,v1⟩:=Hv.out.c2;replace Hb:=bS Hb hs ZS;clear hs;simp only[bi];go_wp2;exact bodyPost_ret (v:=.agg #[ag (au Z),ah (nt Z.natAbs)]) (by simp[results,Tryz.results39,go_sem,r0,r1]) rfl ⟨rfl,df⟩
theorem apR (s:Bool)(l m:List UInt8)(Z:Int)(hZ:iv s l+iv (!s) m=Z)(h:nv m<=nv l)(w:World)(hl:l.length<=1048576)(hm:m.length<=1048576):
 Calls Tryz.prog 39 #[.agg #[ag s,ah l],.agg #[ag (!s),ah m]] w λe w'=>e=.returned (.agg #[ag (au Z),ah (nt Z.natAbs)])/\Bw w w':=by
 have ha:=λW=>acy l m W zo zo h;have hlen:(nt (nv l-nv m)).length<=68719476736:=by have h1:=gL l;refine Nat.le_trans (jr (k:=l.length) zo) zo
 have hf:=λW=>Dt s (nt (nv l-nv m)) Z (by rw[<-hZ,mU];unfold iv;cases s<;>simp<;>omega) W hlen;obtain⟨Ha,Hf⟩:=aO ha hf;clear ha hf hlen hZ h;generalize nt (nv l-nv m)=S at*;have hne:(s== !s)=false:=by cases s<;>rfl
 obtain⟨t,ht⟩:=aG (!s);rw[ht]at hne⊢;obtain⟨W,cg,Hb,Hx,Hy,Hr⟩:=qO w 32 [ag s,ah l] 32 [ag t,ah m] 32 [ag false,.string ⟨#[]⟩];obtain⟨x0,x1⟩:=Hx.out.c2;obtain⟨y0,y1⟩:=Hy.out.c2;obtain⟨r0,aj,r1,ak⟩:=Hr.out.g2;go_enter Tryz.func39,Tryz.ntmps39;go_wp2_with fail;refine(Ha.out _).mono ?_;rintro e w1 ⟨rfl,ae⟩;clear x0 x1 y0 y1 r0 aj r1 ak;obtain⟨Hx,x0,x1⟩:=aR Hx ae;obtain⟨Hy,y0,y1⟩:=aR Hy ae;obtain⟨Hr,r0,aj,r1,ak⟩:=bE Hr ae;replace Hb:=aB Hb ae;clear ae;go_wp2_with fail;refine(Hf.out _).mono ?_;rintro e w2 ⟨rfl,ae⟩;clear x0 x1 y0 y1 r0 aj r1 ak;obtain⟨Hx,x0,x1⟩:=aR Hx ae;obtain⟨Hy,y0,y1⟩:=aR Hy ae;obtain⟨Hr,r0,aj,r1,ak⟩:=bE Hr ae;replace Hb:=aB Hb ae;clear ae;go_wp2;clear x0 x1 y0 y1 r0 aj r1 ak;refine dW (bC w2 (w.heap.size+1+1) 0 [ag (au Z),ah (nt Z.natAbs)]) bJ ?_;intro w9 hs;replace Hx:=kS Hx hs zo;replace Hy:=kS Hy hs zo;replace Hr:=bP Hr hs;obtain⟨x0,x1⟩:=Hx.out.c2;obtain⟨y0,y1⟩:=Hy.out.c2;obtain⟨r0,aj,r1,ak⟩:=Hr.out.g2;replace Hb:=bS Hb hs ZS;clear hs;refine bodyPost_ret (v:=.agg #[ag (au Z),ah (nt Z.natAbs)]) (by simp[results,Tryz.results39,go_sem,r0,r1]) rfl ⟨rfl,Hb.out⟩
theorem apS (s:Bool)(l m:List UInt8)(Z:Int)(hZ:iv s l+iv (!s) m=Z)(h:nv l<nv m)(w:World)(hl:l.length<=1048576)(hm:m.length<=1048576):
 Calls Tryz.prog 39 #[.agg #[ag s,ah l],.agg #[ag (!s),ah m]] w λe w'=>e=.returned (.agg #[ag (au Z),ah (nt Z.natAbs)])/\Bw w w':=by
 have ha:=λW=>ap1 l m W zo zo h;have hb:=λW=>acy m l W zo zo (Nat.le_of_lt h);have hlen:(nt (nv m-nv l)).length<=68719476736:=by have h1:=gL m;refine Nat.le_trans (jr (k:=m.length) zo) zo
 have hf:=λW=>Dt (!s) (nt (nv m-nv l)) Z (by rw[<-hZ,mU];unfold iv;cases s<;>simp<;>omega) W hlen;obtain⟨Ha,Hs,Hf⟩:=cL ha hb hf;clear ha hb hf hlen hZ h;generalize nt (nv m-nv l)=S at*;have hne:(s== !s)=false:=by cases s<;>rfl
 obtain⟨t,ht⟩:=aG (!s);rw[ht]at hne Hf⊢;obtain⟨W,cg,Hb,Hx,Hy,Hr⟩:=qO w 32 [ag s,ah l] 32 [ag t,ah m] 32 [ag false,.string ⟨#[]⟩];obtain⟨x0,x1⟩:=Hx.out.c2;obtain⟨y0,y1⟩:=Hy.out.c2;obtain⟨r0,aj,r1,ak⟩:=Hr.out.g2;go_enter Tryz.func39,Tryz.ntmps39;go_wp2_with fail;refine(Ha.out _).mono ?_;rintro e w1 ⟨rfl,ae⟩;clear x0 x1 y0 y1 r0 aj r1 ak;obtain⟨Hx,x0,x1⟩:=aR Hx ae;obtain⟨Hy,y0,y1⟩:=aR Hy ae;obtain⟨Hr,r0,aj,r1,ak⟩:=bE Hr ae;replace Hb:=aB Hb ae;clear ae;go_wp2_with fail;refine(Hs.out _).mono ?_;rintro e w2 ⟨rfl,ae⟩;clear x0 x1 y0 y1 r0 aj r1 ak;obtain⟨Hx,x0,x1⟩:=aR Hx ae;obtain⟨Hy,y0,y1⟩:=aR Hy ae;obtain⟨Hr,r0,aj,r1,ak⟩:=bE Hr ae;replace Hb:=aB Hb ae;clear ae;go_wp2_with fail;refine(Hf.out _).mono ?_;rintro e w3 ⟨rfl,ae⟩;clear x0 x1 y0 y1 r0 aj r1 ak;obtain⟨Hx,x0,x1⟩:=aR Hx ae;obtain⟨Hy,y0,y1⟩:=aR Hy ae;obtain⟨Hr,r0,aj,r1,ak⟩:=bE Hr ae;replace Hb:=aB Hb ae;clear ae;go_wp2;clear x0 x1 y0 y1 r0 aj r1 ak;refine dW (bC w3 (w.heap.size+1+1) 0 [ag (au Z),ah (nt Z.natAbs)]) bJ ?_;intro w9 hs;replace Hx:=kS Hx hs zo;replace Hy:=kS Hy hs zo;replace Hr:=bP Hr hs;obtain⟨x0,x1⟩:=Hx.out.c2;obtain⟨y0,y1⟩:=Hy.out.c2;obtain⟨r0,aj,r1,ak⟩:=Hr.out.g2;replace Hb:=bS Hb hs ZS;clear hs;refine bodyPost_ret (v:=.agg #[ag (au Z),ah (nt Z.natAbs)]) (by simp[results,Tryz.results39,go_sem,r0,r1]) rfl ⟨rfl,Hb.out⟩
theorem apQ (s:Bool)(l:List UInt8)(t:Bool)(m:List UInt8)(Z:Int)(hZ:iv s l+iv t m=Z)(w:World)(hl:l.length<=1048576)(hm:m.length<=1048576):
 Calls Tryz.prog 39 #[.agg #[ag s,ah l],.agg #[ag t,ah m]] w λe w'=>e=.returned (.agg #[ag (au Z),ah (nt Z.natAbs)])/\Bw w w':=by
 by_cases h:s=t
 . subst h;exact apT s l m Z hZ w hl hm
 . obtain rfl:t= !s:=by cases s<;>cases t<;>simp_all
   by_cases h2:nv l<nv m
   . exact apS s l m Z hZ h2 w hl hm
   . exact apR s l m Z hZ zo w hl hm
theorem apX (l:List UInt8)(p:Nat)(w:World)(hl:l.length<=68719476736)(hp:p<=274877906944):
 Calls Tryz.prog 137 #[ah l,af (p:Int)] w λe w'=>e=.returned (ah (nt (nv l*2^p)))/\Bw w w':=by
 have iZ:bN (nv l)<=549755813888:=Nat.le_trans (ia (pD l)) zo;have hmx:max (p:Int) 0=(p:Int):=by omega
 have Hb:Hid (Bw w w):=Below.refl _ _;go_enter Tryz.func137,Tryz.ntmps137;go_wp2_with fail;refine(rc l _ hl).mono ?_;rintro e w1 ⟨⟨y,rfl,hy⟩,hb1⟩;obtain⟨Hy,bW⟩:=aO hy hb1;clear hy hb1;go_wp2_with fail;refine(SU (.slice none 0 0) y 0 (bN (nv l)) 0 (nv l) p w1 ⟨by simp,.inl ⟨rfl,rfl⟩⟩ Hy.out zo zo).mono ?_;rintro e w2 ⟨⟨z,rfl,hz⟩,hb2⟩;rw[Nat.zero_add]at hz;obtain⟨Hz,cw⟩:=aO hz hb2;clear hz hb2;go_wp2_with fail;refine(wy z _ (nv l*2^p) w2 zo Hz.out).mono ?_;rintro e w3 ⟨rfl,hb3⟩;have fp:=ai hb3;clear hb3;go_wp2;go_ret;exact⟨rfl,aJ bW.out (aJ cw.out fp.out)⟩
theorem anU (v k:Nat):v%2^(k+1)=v%2^k+bd v k*2^k:=by unfold bd;rw[Nat.pow_succ,Nat.mod_mul,Nat.mul_comm]
theorem apL (l m:List UInt8)(w:World)(hl:l.length<=17179869184)(hm:m.length<=17179869184):
 Calls Tryz.prog 138 #[ah l,ah m] w λe w'=>e=.returned (ah (nt (nv l*nv m)))/\Bw w w':=by
 have hbl:bN (nv l)<=137438953472:=Nat.le_trans (ia (pD l)) zo;have KI:bN (nv m)<=137438953472:=Nat.le_trans (ia (pD m)) zo;have hvl:=rF (nv l);obtain⟨V,hV⟩:=aG (nv l);obtain⟨U,hU⟩:=aG (nv m);have h1:=λW=>rc l W zo;have h2:=λW=>rc m W zo;rw[hV]at hbl hvl h1⊢;rw[hU]at KI h2⊢;obtain⟨N,hN⟩:=aG (bN V);obtain⟨M,hM⟩:=aG (bN U);rw[hN]at hbl hvl h1;rw[hM]at KI h2;obtain⟨H1,H2,lK⟩:=cL h1 h2 hvl;clear h1 h2 hvl hV hU hN hM hl hm;have Hb:Hid (Bw w w):=Below.refl _ _;go_enter Tryz.func138,Tryz.ntmps138;go_wp2_with fail;refine(H1.out _).mono ?_;rintro e w1 ⟨⟨x,rfl,hx⟩,hb1⟩;obtain⟨Hx,bW⟩:=aO hx hb1;clear hx hb1;go_wp2_with fail;refine(H2.out _).mono ?_;rintro e w2 ⟨⟨y,rfl,hy⟩,hb2⟩;obtain⟨oN,Hy,cw⟩:=cL (Hx.out.below hb2) hy (aJ bW.out hb2);clear hy hb2 bW Hx;obtain⟨a,cap,rfl⟩:=oN.out.len;go_wp2_with fail;go_loopw[7,8] (λz i wr=>∃k n:Nat,k<=N/\n<=M+k/\i=af (k:Int)/\Bv wr z n (V%2^k*U)/\Bw w2 wr) (λ_ i _=>N-(intOf i).toNat);case atStart=>exact⟨0,0,Nat.zero_le _,Nat.zero_le _,rfl,⟨by simp[Nat.mod_one],.inl ⟨rfl,rfl⟩⟩,Below.refl _ _⟩
 case round=>
  obtain⟨k,n,hk,hn,rfl,hz,hb⟩:=hrel;by_cases hlt:k<N
  . have hxk:=oN.out.below hb;rcases hxk.2 with⟨h,h0⟩ |⟨b,o,cap',h,hcap,hc⟩
    . omega
    simp only[Value.slice.injEq,true_and]at h;obtain⟨rfl,rfl⟩:=h;have hcell:=hc k hlt;have bK:=xV N cap k (k:Int) (rfl:(some ⟨b,o,none⟩:Option Addr)=_) hlt rfl;rw[Nat.mul_one]at bK;have hst:=anU V k;obtain⟨Hz,Hb,hyk⟩:=cL hz hb (Hy.out.below hb);clear hz hb hc hxk;rcases(show bd V k=0\/bd V k=1 by unfold bd;omega)with hd|hd
    . have hd':((bd V k:Int)==1)=false:=by simp[hd]
      rw[hd,Nat.zero_mul,Nat.add_zero]at hst;have bX:=ai hst;clear hst hd;go_wp2;go_roundw;case rel=>exact⟨k+1,n,by omega,by omega,by go_num,by rw[bX.out];exact Hz.out,Hb.out⟩
      case measure=>simp[intOf];omega
    . have hd':((bd V k:Int)==1)=true:=by simp[hd]
      rw[hd,Nat.one_mul]at hst;have bX:=ai hst;clear hst hd;go_wp2_with fail;refine(SU u7 y n M (V%2^k*U) U k wr Hz.out hyk.out zo zo).mono ?_;rintro e w4 ⟨⟨z,rfl,hz⟩,hb4⟩;obtain⟨Hz4,kx⟩:=aO hz hb4;clear hz hb4;go_wp2;go_roundw;case rel=>refine⟨k+1,max n (M+k)+1,by omega,by omega,by go_num,?_,aJ Hb.out kx.out⟩;rw[bX.out,Nat.add_mul,Nat.mul_comm (2^k) U];exact Hz4.out
      case measure=>simp[intOf];omega
  . obtain rfl:k=N:=by omega
    have FO:V%2^k=V:=Nat.mod_eq_of_lt lK.out;rw[FO]at hz;obtain⟨Hz,Hb⟩:=aO hz hb;clear hz hb FO;go_wp2_with fail;refine(wy u7 n (V*U) wr zo Hz.out).mono ?_;rintro e w4 ⟨rfl,hb4⟩;have kx:=ai hb4;clear hb4;go_wp2;go_ret;exact⟨rfl,aJ cw.out (aJ Hb.out kx.out)⟩
theorem abP (l m:List UInt8):(nt (nv l*nv m)).length<=l.length+m.length:=by refine jr ?_;rw[Nat.pow_add];have h1:=gL l;have h2:=gL m;exact Nat.mul_lt_mul_of_lt_of_le h1 (Nat.le_of_lt h2) zo
theorem abQ (l:List UInt8)(p:Nat):(nt (nv l*2^p)).length<=l.length+p:=by refine jr ?_;rw[Nat.pow_add];have h1:=gL l;have h2:2^p<=256^p:=Nat.pow_le_pow_left zd p;exact Nat.mul_lt_mul_of_lt_of_le h1 h2 (Nat.pow_pos zd)
theorem apM (s:Bool)(l:List UInt8)(Z:Int)(hZ: -iv s l=Z)(w:World)(hl:l.length<=1048576):
 Calls Tryz.prog 171 #[.agg #[ag s,ah l]] w λe w'=>e=.returned (.agg #[ag (au Z),ah (nt Z.natAbs)])/\Bw w w':=by
 have hf:=λW=>Dt (!s) l Z (by rw[<-hZ];unfold iv;cases s<;>simp) W zo;have Hf:=ai hf;clear hf hZ;generalize Z.natAbs=Y at*;generalize au Z=t at*;obtain⟨W,cg,Hb,Hx,Hr⟩:=iq w 32 [ag s,ah l] 32 [ag false,.string ⟨#[]⟩];obtain⟨x0,x1⟩:=Hx.out.c2;obtain⟨r0,aj,r1,ak⟩:=Hr.out.g2;go_enter Tryz.func171,Tryz.ntmps171;go_wp2_with fail;refine(Hf.out _).mono ?_;rintro e w1 ⟨rfl,ae⟩;clear x0 x1 r0 aj r1 ak;obtain⟨Hx,x0,x1⟩:=aR Hx ae;obtain⟨Hr,r0,aj,r1,ak⟩:=bE Hr ae;replace Hb:=aB Hb ae;clear ae;go_wp2;clear x0 x1 r0 aj r1 ak;refine dW (bC w1 (w.heap.size+1) 0 [ag t,ah (nt Y)]) bJ ?_;intro w9 hs;replace Hx:=kS Hx hs zo;replace Hr:=bP Hr hs;obtain⟨x0,x1⟩:=Hx.out.c2;obtain⟨r0,aj,r1,ak⟩:=Hr.out.g2;replace Hb:=bS Hb hs ZS;clear hs;refine bodyPost_ret (v:=.agg #[ag t,ah (nt Y)]) (by simp[results,Tryz.results171,go_sem,r0,r1]) rfl ⟨rfl,Hb.out⟩
theorem ap4 (s:Bool)(l:List UInt8)(t:Bool)(m:List UInt8)(Z:Int)(hZ:iv s l*iv t m=Z)(w:World)(hl:l.length<=524288)(hm:m.length<=524288):
 Calls Tryz.prog 92 #[.agg #[ag s,ah l],.agg #[ag t,ah m]] w λe w'=>e=.returned (.agg #[ag (au Z),ah (nt Z.natAbs)])/\Bw w w':=by
 have hf:=λW=>Dt (!(s==t)) (nt (nv l*nv m)) Z (by rw[<-hZ,mU];unfold iv;cases s<;>cases t<;>simp[Int.neg_mul,Int.mul_neg]) W (by have:=abP l m;omega);have xK:=λW=>apL l m W zo zo;obtain⟨Hf,Hm⟩:=aO hf xK;clear hf xK hZ;generalize Z.natAbs=Y at*;generalize au Z=v at*;generalize nt (nv l*nv m)=S at*;obtain⟨W,cg,Hb,Hx,Hy,Hr⟩:=qO w 32 [ag s,ah l] 32 [ag t,ah m] 32 [ag false,.string ⟨#[]⟩];obtain⟨x0,x1⟩:=Hx.out.c2;obtain⟨y0,y1⟩:=Hy.out.c2;obtain⟨r0,aj,r1,ak⟩:=Hr.out.g2;go_enter Tryz.func92,Tryz.ntmps92;go_wp2_with fail;refine bR (λw'=>aC w' (w.heap.size) 0 (ag s)/\aC w' (w.heap.size) 1 (ah l)/\aC w' (w.heap.size+1) 0 (ag t)/\aC w' (w.heap.size+1) 1 (ah m)) (λi=>Nat.blt i 12) [(0,true),(1,true),(2,true),(3,true),(4,true),(5,true),(6,true),(7,true),(8,true),(9,false),(10,true),(11,false),(12,false)] zk zk rfl zk zc ⟨x0,x1,y0,y1⟩ ?_;iterate 9 (refine pT rfl rfl ?_ (by intro w' ⟨q0,q1,q2,q3⟩;go_simp;try with_reducible rfl))
 refine aI rfl rfl (λK hK=>?_);go_simp;with_reducible refine(Hm.out _).mono ?_
 rintro e w1 ⟨rfl,hq⟩;have ae:Bw W w1:=by first|exact hq|exact aW hq
 clear x0 x1 y0 y1 r0 aj r1 ak;obtain⟨Hx,x0,x1⟩:=aR Hx ae;obtain⟨Hy,y0,y1⟩:=aR Hy ae;obtain⟨Hr,r0,aj,r1,ak⟩:=bE Hr ae;replace Hb:=aB Hb ae;clear ae;refine hK _ _ (λ_=>⟨x0,x1,y0,y1⟩) ?_;clear hK K
 refine pT rfl rfl ?_
 refine aI rfl rfl (λK hK=>?_);go_simp;with_reducible refine(Hf.out _).mono ?_
 rintro e w2 ⟨rfl,hq⟩;have ae:Bw w1 w2:=by first|exact hq|exact aW hq
 clear x0 x1 y0 y1 r0 aj r1 ak;obtain⟨Hx,x0,x1⟩:=aR Hx ae;obtain⟨Hy,y0,y1⟩:=aR Hy ae;obtain⟨Hr,r0,aj,r1,ak⟩:=bE Hr ae;replace Hb:=aB Hb ae;clear ae;refine hK _ _ (λ_=>⟨x0,x1,y0,y1⟩) ?_;clear hK K
 refine aI rfl rfl (λK hK=>?_);go_simp;refine hK _ _ (λh=>absurd h zd) ?_;clear hK K
 clear x0 x1 y0 y1 r0 aj r1 ak;refine bV (bC w2 (w.heap.size+1+1) 0 [ag v,ah (nt Y)]) bJ ?_;intro w9 hs;replace Hx:=kS Hx hs zo;replace Hy:=kS Hy hs zo;replace Hr:=bP Hr hs;obtain⟨x0,x1⟩:=Hx.out.c2;obtain⟨y0,y1⟩:=Hy.out.c2;obtain⟨r0,aj,r1,ak⟩:=Hr.out.g2;replace Hb:=bS Hb hs ZS;clear hs;simp only[bi];go_wp2;exact bodyPost_ret (v:=.agg #[ag v,ah (nt Y)]) (by simp[results,Tryz.results92,go_sem,r0,r1]) rfl ⟨rfl,df⟩
theorem apW (s:Bool)(l:List UInt8)(p:Nat)(Z:Int)(hZ:iv s l*2^p=Z)(w:World)(hl:l.length<=1048576)(hp:p<=1073741824):
 Calls Tryz.prog 91 #[.agg #[ag s,ah l],af (p:Int)] w λe w'=>e=.returned (.agg #[ag (au Z),ah (nt Z.natAbs)])/\Bw w w':=by
 have hf:=λW=>Dt s (nt (nv l*2^p)) Z (by rw[<-hZ,mU];unfold iv;cases s<;>simp[Int.neg_mul]) W (by have:=abQ l p;omega);have hsh:=λW=>apX l p W zo zo;have hp0:(0:Int)<=(p:Int):=by omega
 have hp1:decide ((p:Int)≥0)=true:=by simp
 obtain⟨Hf,Hm⟩:=aO hf hsh;clear hf hsh hZ;generalize Z.natAbs=Y at*;generalize au Z=v at*;generalize nt (nv l*2^p)=S at*;obtain⟨W,cg,Hb,Hx,Hr⟩:=iq w 32 [ag s,ah l] 32 [ag false,.string ⟨#[]⟩];obtain⟨x0,x1⟩:=Hx.out.c2;obtain⟨r0,aj,r1,ak⟩:=Hr.out.g2;go_enter Tryz.func91,Tryz.ntmps91;go_wp2_with fail;refine bR (λw'=>aC w' (w.heap.size) 0 (ag s)/\aC w' (w.heap.size) 1 (ah l)) (λi=>Nat.blt i 8) [(0,true),(1,true),(2,true),(3,true),(4,true),(5,false),(6,true),(7,false),(8,false)] zk zk rfl zk zc ⟨x0,x1⟩ ?_;iterate 5 (refine pT rfl rfl ?_ (by intro w' ⟨q0,q1⟩;go_simp;try with_reducible rfl))
 refine aI rfl rfl (λK hK=>?_);go_simp;with_reducible refine(Hm.out _).mono ?_
 rintro e w1 ⟨rfl,hq⟩;have ae:Bw W w1:=by first|exact hq|exact aW hq
 clear x0 x1 r0 aj r1 ak;obtain⟨Hx,x0,x1⟩:=aR Hx ae;obtain⟨Hr,r0,aj,r1,ak⟩:=bE Hr ae;replace Hb:=aB Hb ae;clear ae;refine hK _ _ (λ_=>⟨x0,x1⟩) ?_;clear hK K
 refine pT rfl rfl ?_
 refine aI rfl rfl (λK hK=>?_);go_simp;with_reducible refine(Hf.out _).mono ?_
 rintro e w2 ⟨rfl,hq⟩;have ae:Bw w1 w2:=by first|exact hq|exact aW hq
 clear x0 x1 r0 aj r1 ak;obtain⟨Hx,x0,x1⟩:=aR Hx ae;obtain⟨Hr,r0,aj,r1,ak⟩:=bE Hr ae;replace Hb:=aB Hb ae;clear ae;refine hK _ _ (λ_=>⟨x0,x1⟩) ?_;clear hK K
 refine aI rfl rfl (λK hK=>?_);go_simp;refine hK _ _ (λh=>absurd h zd) ?_;clear hK K
 clear x0 x1 r0 aj r1 ak;refine bV (bC w2 (w.heap.size+1) 0 [ag v,ah (nt Y)]) bJ ?_;intro w9 hs;replace Hx:=kS Hx hs zo;replace Hr:=bP Hr hs;obtain⟨x0,x1⟩:=Hx.out.c2;obtain⟨r0,aj,r1,ak⟩:=Hr.out.g2;replace Hb:=bS Hb hs ZS;clear hs;simp only[bi];go_wp2;exact bodyPost_ret (v:=.agg #[ag v,ah (nt Y)]) (by simp[results,Tryz.results91,go_sem,r0,r1]) rfl ⟨rfl,df⟩
end Go.Proofs.YtoopepmmepmfnaaGreatDoor
