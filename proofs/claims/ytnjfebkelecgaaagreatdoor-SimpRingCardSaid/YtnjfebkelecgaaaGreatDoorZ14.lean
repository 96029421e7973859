/- Package ogeeref01: Div. -/
import Derived.Test.YtnjfebkelecgaaaGreatDoorZ11
import Derived.Laws.AppendOwnNone
set_option linter.unusedVariables false
set_option linter.unusedSimpArgs false
set_option maxRecDepth 100000
set_option maxHeartbeats 16000000
namespace Go.Proofs.YtnjfebkelecgaaaGreatDoor
open Go.RowKit
attribute [local go_sem ↓] Go.wp_at_zero Go.wp_at_succ
theorem alQ (r c:Nat)(hc:c<=1):bd (2*r+c) 0=c/\∀j,bd (2*r+c) (j+1)=bd r j:=by unfold bd;refine⟨by simp;omega,λj=>?_⟩;rw[Nat.pow_succ',<-Nat.div_div_eq_div_mul,show(2*r+c)/2=r by omega]
theorem ago (n r c:Nat)(hc:c<=1):[.int .u8 (c:Int)]++cW n (bd r)=cW (1+n) (bd (2*r+c)):=by
 obtain⟨h0,h1⟩:=alQ r c hc;apply List.ext_getElem?;intro j;cases j with
 |zero=>rw[lM _ _ _ zo,h0];rfl
 | succ j=>
   rw[List.getElem?_append_right zm];simp only[List.length_singleton,Nat.add_sub_cancel];by_cases hj:j<n
   . rw[lM _ _ _ hj,lM _ _ _ zo,h1]
   . rw[List.getElem?_eq_none (by rw[JH];omega),List.getElem?_eq_none (by rw[JH];omega)]
theorem asP (W:World)(base:Nat)(e:TypeId)(x:Value)(hb:base<=W.heap.size):(W.alloc (.cells #[x] e)).ownsRow base e 1 (.slice (some ⟨W.heap.size,0,none⟩) 1 1) 1 [x]:=
 ⟨rfl,.inr ⟨W.heap.size,1,#[x],rfl,hb,heap_alloc_new W _,Nat.le_refl _,by simp[maxLen],rfl,rfl⟩⟩
theorem ZG (S u:Nat):(0<=dx S u)↔u<=S:=by
 unfold dx;by_cases h1:S<u
 . rw[if_pos h1];omega
 . rw[if_neg h1];by_cases h2:u<S
   . rw[if_pos h2];omega
   . rw[if_neg h2];omega
theorem Bv.cells {w:World}{x:Value}{n v:Nat}(h:Bv w x n v)(hn:0<n):∃b o cap,x=.slice (some ⟨b,o,none⟩) n cap/\∀j,j<n->w.cell? ⟨b,o+j,none⟩=some (.int .u8 (bd v j:Int)):=by
 rcases h.2 with⟨_,h2⟩ |⟨b,o,cap,h1,_,h3⟩
 . omega
 . exact⟨b,o,cap,h1,h3⟩
theorem Bv.aBg {w:World}{x:Value}{n v:Nat}(h:Bv w x n v){a:Addr}(hne:∀b o n c,x=.slice (some ⟨b,o,none⟩) n c->b≠a.block)(y:Value):Bv (w.setCell a y) x n v:=by
 refine⟨h.1,?_⟩;rcases h.2 with h|⟨b,o,cap,e,h1,hc⟩
 . exact .inl h
 . exact .inr ⟨b,o,cap,e,h1,λj hj=>ie (hne b o n cap e) (hc j hj)⟩
theorem awu {ops:Array Oper}{rest:List Oper}{o:Oper}{a:Act}{Q:Exit->Act->World->Prop}(hgd:o.guard=none)(s x:Operand)
 (ho:o.op=.call {callee:=.builtin .append,args:=#[s,x],argTypes:=#[84,84]}) (W:World) (z:Value) (n r c:Nat) (hc:c<=1) (hn:n<=1099511627776) (hz:Bv W z n r)
 (hs:a.eval s=.slice (some ⟨W.heap.size,0,none⟩) 1 1) (hx:a.eval x=z)
 (h:∀v' w',Bv w' v' (1+n) (2*r+c)->FL v' W.heap.size->Bw W w'->wpList Tryz.prog ops Q rest (a.put o.dst v') w'):wpList Tryz.prog ops Q (o::rest) a (W.alloc (.cells #[.int .u8 (c:Int)] 5)):=by
 obtain⟨i0,hi,hz0,hz1,hz2⟩:=info_parts Tryz.aBn;have hlt:2*r+c<2^(1+n):=by have:=hz.1;rw[Nat.add_comm 1 n,Nat.pow_succ];omega
 have hone:=asP W W.heap.size 5 (.int .u8 (c:Int)) (Nat.le_refl _);have hb0:Bw W (W.alloc (.cells #[.int .u8 (c:Int)] 5)):=zl;rcases hz.2 with⟨rfl,rfl⟩ |⟨b,oo,cap,rfl,h1,hcs⟩
 . refine wpList_append_own_none hgd s x 84 ho W.heap.size 5 i0 1 Tryz.underlying84 hi _ 1 _ hs hone hx ?_;refine h _ _ (Bv.aBp (base:=W.heap.size) (e:=5) ?_ hlt) (λb o n c e=>by cases e;exact Nat.le_refl _) hb0;rw[<-ago 0 r c hc];exact hone
 . refine wpList_append_own _ hgd s x 84 ho W.heap.size 5 i0 (.int .u8 0) 1 1 Tryz.underlying84 hi hz0 hz1 hz2 rfl zd _ 1 _ hs hone ⟨b,oo,none⟩ n cap (cW n (bd r)) hx (by rw[JH,Nat.mul_one]) ?_ ?_ zx zo zm ?_
   . intro j u hj;have gK:j<n:=by
      rcases Nat.lt_or_ge j n with h|h
      . exact h
      . rw[List.getElem?_eq_none (by rw[JH];exact h)]at hj;cases hj
     rw[lM _ _ _ gK]at hj;cases hj
     have e2:((⟨b,oo,none⟩:Addr).add j)=⟨b,oo+j,none⟩:=by simp[Addr.add]
     rw[e2];exact aX (hcs j gK)
   . intro u hu;unfold cW at hu;rw[List.mem_map]at hu;obtain⟨j,_,rfl⟩:=hu;rfl
   . intro v' w' ho' hg' _;refine h _ _ (Bv.aBp (base:=W.heap.size) (e:=5) ?_ hlt) (λb o n c e=>dL ho' b (by rw[e];rfl)) (hb0.grown hg' zm (λj e=>dL hone j e));rw[<-ago n r c hc];exact ho'
theorem at5 (l m:List UInt8)(w:World)(hl:l.length<=68719476736)(hm:m.length<=68719476736)(h0:0<nv m):
 Calls Tryz.prog 162 #[ai l,ai m] w λe w'=>e=.returned (.tuple #[ai (nt (nv l/nv m)),ai (nt (nv l%nv m)),ar true])/\Bw w w':=by
 obtain⟨i0,hi,hz0,hz1,hz2⟩:=info_parts Tryz.aBn;have hL:=Nat.le_trans (ib (qA l)) (show 8*l.length<=549755813888 by omega);have hU:=Nat.le_trans (ib (qA m)) (show 8*m.length<=549755813888 by omega);have hb1:=rM l w hl;have hb2:=λW=>rM m W hm;generalize nv l=v at*;generalize nv m=u at*;have hUp:=FV h0;have hLt:=rX v;generalize hLe:bV v=L at*;generalize hUe:bV u=U at*;obtain⟨H1,H2,Co,Xh⟩:=eN hb1 hb2 hLt hUe;clear hb1 hb2 hLt hLe hUe;have hmk:=uw (L:Int) L rfl zo;have hU0:((U:Int)==0)=false:=by simp;omega
 go_enter Tryz.func162,Tryz.ntmps162;go_wp2_with fail;refine H1.out.mono ?_;rintro e w1 ⟨⟨X,rfl,hX⟩,aca⟩;go_wp2_with fail;refine(H2.out w1).mono ?_;rintro e w2 ⟨⟨Y,rfl,hY⟩,Dn⟩;obtain⟨HX,HY,Hw⟩:=dc (hX.below Dn) hY (aV aca Dn);clear hX hY aca Dn;obtain⟨ax,cx,rfl⟩:=HX.out.len;obtain⟨ay,cy,rfl⟩:=HY.out.len;go_wp2_with fail;go_loopw[10,11] (λz i wr=>∃k:Nat,k<=L/\i=ah ((k:Int)-1)/\Bv wr z (bV (v/2^k%u)) (v/2^k%u)/\FL z (w2.heap.size+1)/\aC wr w2.heap.size 5 (cW L (λj=>if k<=j then bd (v/u) j else 0))/\Bw w2 wr) (λ_ i _=>(intOf i+1).toNat);case atStart=>
  refine⟨L,Nat.le_refl _,by go_num,?_,(λb o n c e=>by cases e),?_,zl⟩
  . rw[Nat.div_eq_of_lt Co.out,Nat.zero_mod];exact⟨by simp[bV],.inl ⟨rfl,rfl⟩⟩
  . have e:cW L (λj=>if L<=j then bd (v/u) j else 0)=cW L λ_=>0:=pq λj hj=>by rw[if_neg zo]
    rw[e];exact aC.new _ _ _
 case round=>
  obtain⟨k,hk,rfl,hz,hzl,hB,hb⟩:=hrel;by_cases mB:0<k
  . obtain⟨j,rfl⟩:∃j,k=j+1:=⟨k-1,by omega⟩;obtain⟨r,c,q,e1,e2,e3,e4,e5⟩:=aq4 v u j h0;have e6:=aq3 v u j;have hr:r<u:=by rw[<-e1];exact Nat.mod_lt _ h0
    have hc1:c<=1:=by rw[<-e2];exact uN v j
    rw[e1]at hz;rw[e5]at e6;obtain⟨S,hS⟩:=aK (2*r+c);rw[hS]at e4 e6;have un:bV r<=549755813888:=Nat.le_trans (Zv (Nat.le_of_lt hr)) (by rw[Xh.out];omega);have hSb:bV S<=549755813889:=by rw[<-hS];exact Nat.le_trans (alY r c hc1) zo
    obtain⟨bx,ox,cx',qj,lC⟩:=HX.out.cells zo;obtain⟨rfl,rfl⟩:ax=some ⟨bx,ox,none⟩/\cx=cx':=by simp only[Value.slice.injEq]at qj;exact⟨qj.1,qj.2.2⟩
    have hcell:wr.cell? ⟨bx,ox+j,none⟩=some (.int .u8 (c:Int)):=by rw[<-e2];exact cell_later hb (lC j zo)
    have bK:=sF L cx j (j:Int) (rfl:(some ⟨bx,ox,none⟩:Option Addr)=_) zo rfl;rw[Nat.mul_one]at bK;obtain⟨Hz,HB,Hb,Kh,Ki,HS⟩:=gP hz hB hb e4 e6 hS;have hs0:=hb.size;have hqb:=hB.lt;have hj:((j+1:Nat):Int)-1=(j:Int):=by omega
    rw[hj];clear hz hB hb e1 e2 e3 e4 e5 e6 hS qj lC hj mB;go_wp2_with (first| (at_builtin;refine awu rfl _ _ rfl _ u10 (bV r) r c hc1 zo Hz.out rfl rfl ?_;intro v' w3 hv' GR hb3));rw[HS.out]at hv';obtain⟨Hv',Hl3,eJ⟩:=dc hv' GR hb3;have hs3:=hb3.size;clear hv' GR hb3 hzl hcell bK;refine(Vt v' (1+bV r) S w3 zo Hv'.out).mono ?_;rintro e w' ⟨⟨z,rfl,hz,hzl⟩,rfl⟩;obtain⟨dh,QC⟩:=aZ hz (hzl _ Hl3.out);clear hz hzl;obtain⟨Xk,kZ⟩:=aZ (HY.out.below (aV Hb.out eJ.out)) (HB.out.below eJ.out);go_wp2_with fail;refine(afm z _ (bV S) U S u w3 dh.out Xk.out zo zo).mono ?_;rintro e w' ⟨rfl,rfl⟩;by_cases hge:u<=S
    . have hc0:0<=dx S u:=(ZG S u).2 hge;generalize dx S u=ci at*;rw[if_pos hge]at Kh Ki;go_wp2_with fail;refine(afq z _ (bV S) U S u w3 dh.out Xk.out zo zo hge).mono ?_;rintro e w4 ⟨⟨t,rfl,ht,htl⟩,hb4⟩;obtain⟨Ht,Ac,mV⟩:=dc ht htl hb4;clear ht htl hb4;go_wp2_with fail;refine(Vt t (bV S) (S-u) w4 zo Ht.out).mono ?_;rintro e w' ⟨⟨t2,rfl,ht2,adD⟩,rfl⟩;obtain⟨Kz,YK⟩:=aZ ht2 (adD _ Ac.out);clear ht2 adD;have hB4:=kZ.out.below mV.out;have q0:w4.cell? ⟨w2.heap.size,j,none⟩=some (.int .u8 0):=by rw[hB4.cell,lM _ _ _ zo,if_neg zo];rfl
      have qf:w4.frozen? ⟨w2.heap.size,j,none⟩=false:=hB4.free _;have yH:=sF L L j (j:Int) (rfl:(some ⟨w2.heap.size,0,none⟩:Option Addr)=_) zo rfl;rw[Nat.mul_one,Nat.zero_add]at yH;have RS:=hB4.set j (.int .u8 ((1:Nat):Int))
      rw[BP,pq (g:=λi=>if j<=i then bd (v/u) i else 0) λi hi=>by
       by_cases e:i=j
       . subst e;rw[if_pos rfl,if_pos (Nat.le_refl _),Ki.out];omega
       . rw[if_neg e];by_cases e2:j+1<=i
         . rw[if_pos e2,if_pos zo]
         . rw[if_neg e2,if_neg zo]]at RS
      have gD:=aj RS;clear hB4 RS;go_wp2;go_roundw;case rel=>
       refine⟨j,by omega,by go_num,?_,?_,gD.out,?_⟩
       . rw[Kh.out];exact Kz.out.aBg (λb o n c e=>by have:=YK.out b o n c e;dsimp only;omega) _
       . exact λb o n c e=>by have:=YK.out b o n c e;omega
       . exact(aV (aV Hb.out eJ.out) mV.out).setCell (Nat.le_refl _) _
      case measure=>simp[intOf]
    . have hc0:¬0<=dx S u:=fun h=>hge ((ZG S u).1 h);generalize dx S u=ci at*;rw[if_neg hge]at Kh Ki;have gD:Hid (aC w3 w2.heap.size 5 (cW L (fun i=>if j<=i then bd (v/u) i else 0))):=by
       show aC _ _ _ _
       rw[pq (g:=λi=>if j+1<=i then bd (v/u) i else 0) λi hi=>by
        by_cases e:i=j
        . subst e;rw[if_pos (Nat.le_refl _),if_neg zo,Ki.out];omega
        . by_cases e2:j+1<=i
          . rw[if_pos e2,if_pos zo]
          . rw[if_neg e2,if_neg zo]]
       exact kZ.out
      go_wp2;go_roundw;case rel=>exact⟨j,by omega,by go_num,by rw[Kh.out];exact dh.out,(λb o n c e=>by have:=QC.out b o n c e;omega),gD.out,aV Hb.out eJ.out⟩
      case measure=>simp[intOf]
  . obtain rfl:k=0:=by omega
    have hq:v/u<2^L:=Nat.lt_of_le_of_lt (Nat.div_le_self v u) Co.out;rw[pq (g:=bd (v/u)) λj hj=>by rw[if_pos (Nat.zero_le _)]]at hB;have Hq:=aj (Bv.aBf hB hq);have e0:v/2^0%u=v%u:=by simp
    rw[e0]at hz;have un:bV (v%u)<=549755813888:=Nat.le_trans (Zv (Nat.le_of_lt (Nat.mod_lt v h0))) (by rw[Xh.out];omega);obtain⟨Hz,Hb⟩:=aZ hz hb;clear hB hq hz hb e0 hzl;go_wp2_with fail;refine(xE _ L (v/u) wr zo Hq.out).mono ?_;rintro e w3 ⟨rfl,hb3⟩;go_wp2_with fail;refine(xE u10 (bV (v%u)) (v%u) w3 zo (Hz.out.below hb3)).mono ?_;rintro e w4 ⟨rfl,hb4⟩;have jC:=aj (aV Hw.out (aV Hb.out (aV hb3 hb4)));clear hb3 hb4;go_wp2;go_ret3
    exact⟨rfl,jC.out⟩
theorem aua (l:List UInt8)(w:World)(hl:l.length<=68719476736):
 Calls Tryz.prog 123 #[.agg #[ar false,ai l]] w λe w'=>e=.returned (.agg #[ar (false),ai (nt (nv l))])/\Bw w w':=by
 have hb:=Nat.le_trans (ib (qA l)) (show 8*l.length<=1099511627776 by omega);have h1:=rM l;obtain⟨v,hv⟩:=aK (nv l);rw[hv]at hb⊢;simp only[hv]at h1;obtain⟨m,hm⟩:=aK (nt v);have he:=wI m;obtain⟨t,ht⟩:=aK m.isEmpty;obtain⟨H1,Hm⟩:=aZ h1 hm;clear h1 hv;rw[hm];rw[ht]at he;clear hm ht;obtain⟨W,dw,Hb,Hx,Hr⟩:=mK w 46 [ar false,ai l] 46 [ar false,.string ⟨#[]⟩];obtain⟨x0,x1⟩:=Hx.out.c2;obtain⟨r0,au,r1,az⟩:=Hr.out.g2;go_enter Tryz.func123,Tryz.ntmps123;go_wp2_with fail;refine(H1.out _ zo).mono ?_;rintro e w1 ⟨⟨y,rfl,hy⟩,ag⟩;clear x0 x1 r0 au r1 az;obtain⟨Hx,x0,x1⟩:=bi Hx ag;obtain⟨Hr,r0,au,r1,az⟩:=bE Hr ag;replace Hb:=aF Hb ag;clear ag;have Hy:=aj hy;clear hy;go_wp2_with fail;refine(xE y _ _ _ hb Hy.out).mono ?_;rintro e w2 ⟨rfl,ag⟩;clear x0 x1 r0 au r1 az;obtain⟨Hx,x0,x1⟩:=bi Hx ag;obtain⟨Hr,r0,au,r1,az⟩:=bE Hr ag;replace Hb:=aF Hb ag;clear ag;rw[Hm.out];go_wp2;clear x0 x1 r0 au r1 az;refine fJ (cm w2 (w.heap.size+1) 0 [ar (false),ai m]) cC ?_;intro w9 hs;replace Hx:=kS Hx hs zo;replace Hr:=cX Hr hs;obtain⟨x0,x1⟩:=Hx.out.c2;obtain⟨r0,au,r1,az⟩:=Hr.out.g2;replace Hb:=bS Hb hs ZS;clear hs;refine bodyPost_ret (v:=.agg #[ar (false),ai m]) (by simp[results,Tryz.results123,go_sem,r0,r1]) rfl ⟨rfl,Hb.out⟩
theorem aub (l:List UInt8)(w:World)(hl:l.length<=68719476736):
 Calls Tryz.prog 123 #[.agg #[ar true,ai l]] w λe w'=>e=.returned (.agg #[ar (!(nt (nv l)).isEmpty),ai (nt (nv l))])/\Bw w w':=by
 have hb:=Nat.le_trans (ib (qA l)) (show 8*l.length<=1099511627776 by omega);have h1:=rM l;obtain⟨v,hv⟩:=aK (nv l);rw[hv]at hb⊢;simp only[hv]at h1;obtain⟨m,hm⟩:=aK (nt v);have he:=wI m;obtain⟨t,ht⟩:=aK m.isEmpty;obtain⟨H1,Hm⟩:=aZ h1 hm;clear h1 hv;rw[hm,ht];rw[ht]at he;clear hm ht;obtain⟨W,dw,Hb,Hx,Hr⟩:=mK w 46 [ar true,ai l] 46 [ar false,.string ⟨#[]⟩];obtain⟨x0,x1⟩:=Hx.out.c2;obtain⟨r0,au,r1,az⟩:=Hr.out.g2;go_enter Tryz.func123,Tryz.ntmps123;go_wp2_with fail;refine(H1.out _ zo).mono ?_;rintro e w1 ⟨⟨y,rfl,hy⟩,ag⟩;clear x0 x1 r0 au r1 az;obtain⟨Hx,x0,x1⟩:=bi Hx ag;obtain⟨Hr,r0,au,r1,az⟩:=bE Hr ag;replace Hb:=aF Hb ag;clear ag;have Hy:=aj hy;clear hy;go_wp2_with fail;refine(xE y _ _ _ hb Hy.out).mono ?_;rintro e w2 ⟨rfl,ag⟩;clear x0 x1 r0 au r1 az;obtain⟨Hx,x0,x1⟩:=bi Hx ag;obtain⟨Hr,r0,au,r1,az⟩:=bE Hr ag;replace Hb:=aF Hb ag;clear ag;rw[Hm.out];go_wp2;clear x0 x1 r0 au r1 az;refine fJ (cm w2 (w.heap.size+1) 0 [ar (!t),ai m]) cC ?_;intro w9 hs;replace Hx:=kS Hx hs zo;replace Hr:=cX Hr hs;obtain⟨x0,x1⟩:=Hx.out.c2;obtain⟨r0,au,r1,az⟩:=Hr.out.g2;replace Hb:=bS Hb hs ZS;clear hs;refine bodyPost_ret (v:=.agg #[ar (!t),ai m]) (by simp[results,Tryz.results123,go_sem,r0,r1]) rfl ⟨rfl,Hb.out⟩
theorem Jw (s:Bool)(l:List UInt8)(w:World)(hl:l.length<=68719476736):
 Calls Tryz.prog 123 #[.agg #[ar s,ai l]] w λe w'=>e=.returned (.agg #[ar (s&& !(nt (nv l)).isEmpty),ai (nt (nv l))])/\Bw w w':=by
 cases s
 . exact aua l w hl
 . exact aub l w hl
theorem Vv (n:Nat)(w:World)(hn:n<=9223372036854775807):
 Calls Tryz.prog 83 #[ah (n:Int)] w λe w'=>e=.returned (.agg #[ar false,ai (nt n)])/\Bw w w':=by
 have h1:=λW=>aul n W (by rw[ki];omega);have H1:=aj h1;clear h1;have hw:IntKind.u64.wrap (n:Int)=(n:Int):=by rw[IntKind.wrap_u64];omega
 obtain⟨m,hm⟩:=aK (nt n);rw[hm];have Hm:=aj hm;clear hm;obtain⟨W,dw,Hb,Hr⟩:=jT w 46 [ar false,.string ⟨#[]⟩];obtain⟨r0,au,r1,az⟩:=Hr.out.g2;go_enter Tryz.func83,Tryz.ntmps83;go_wp2_with fail;refine(H1.out _).mono ?_;rintro e w1 ⟨rfl,ag⟩;clear r0 au r1 az;obtain⟨Hr,r0,au,r1,az⟩:=bE Hr ag;replace Hb:=aF Hb ag;clear ag;rw[Hm.out];go_wp2;clear r0 au r1 az;refine fJ (cm w1 (w.heap.size) 0 [ar false,ai m]) cC ?_;intro w9 hs;replace Hr:=cX Hr hs;obtain⟨r0,au,r1,az⟩:=Hr.out.g2;replace Hb:=bS Hb hs ZS;clear hs;refine bodyPost_ret (v:=.agg #[ar false,ai m]) (by simp[results,Tryz.results83,go_sem,r0,r1]) rfl ⟨rfl,Hb.out⟩
theorem afp (l:List UInt8)(w:World)(hl:l.length<=68719476736):
 Calls Tryz.prog 163 #[ai l] w λe w'=>e=.returned (ah (bV (nv l):Int))/\Bw w w':=by
 go_enter Tryz.func163,Tryz.ntmps163;go_wp2_with fail;refine(rM l w hl).mono ?_;rintro e w1 ⟨⟨y,rfl,hy⟩,ag⟩;obtain⟨a,cap,rfl⟩:=hy.len;have Hb:=aj ag;clear hy ag;go_wp2;go_ret;exact⟨rfl,Hb.out⟩
theorem afv (s:Bool)(l:List UInt8)(w:World)(hl:l.length<=68719476736)(h0:nv l=0):
 Calls Tryz.prog 128 #[.agg #[ar s,ai l]] w λe w'=>e=.returned (ah 0)/\Bw w w':=by
 have h1:=afp l;rw[h0]at h1;have H1:=aj h1;clear h1 h0;obtain⟨W,dw,Hb,Hx⟩:=jT w 46 [ar s,ai l];obtain⟨x0,x1⟩:=Hx.out.c2;go_enter Tryz.func128,Tryz.ntmps128;go_wp2_with fail;refine(H1.out _ hl).mono ?_;rintro e w1 ⟨rfl,ag⟩;clear x0 x1;obtain⟨Hx,x0,x1⟩:=bi Hx ag;replace Hb:=aF Hb ag;clear ag;rw[alZ];go_wp2;go_ret;exact⟨rfl,Hb.out⟩
theorem auc (s:Bool)(n:Nat)(w:World)(h0:0<n)(hl:(nt (2*n)).length<=68719476736):
 Calls Tryz.prog 124 #[.agg #[ar s,ai (nt (2*n))],.agg #[ar false,ai (nt 2)]] w λe w'=>e=.returned (.tuple #[.agg #[ar s,ai (nt n)],.agg #[ar false,.string (bs [])],ar true])/\Bw w w':=by
 have hd:=λW=>at5 (nt (2*n)) (nt 2) W hl zd (by rw[jz];decide);simp only[jz]at hd;have e1:2*n/2=n:=by omega
 have e2:2*n%2=0:=by omega
 rw[e1,e2,BC]at hd;have Tq:(nt n).length<=68719476736:=Nat.le_trans (jR (Nat.lt_of_le_of_lt (show n<=2*n by omega) (ara (2*n)))) hl;have hf:=λW=>Jw s (nt n) W Tq;have hg:=λW=>Jw s [] W zd;have hs:=λW=>afv false [] W zd rfl;simp only[jz,zh,BC,List.isEmpty_nil,Bool.not_true,Bool.and_false]at hf hg;have e3:(nt n).isEmpty=false:=by
  have:=Nz h0;cases h:nt n with
  |nil=>exact absurd h this
  |cons a b=>rfl
 rw[e3]at hf;simp only[Bool.not_false,Bool.and_true]at hf;generalize nt (2*n)=L at*;generalize nt n=M at*;generalize nt 2=T at*;obtain⟨Hd,Hf,Hg,Hs⟩:=eN hd hf hg hs;clear hd hf hg hs e1 e2 e3 hl Tq;have hne:(s !=false)=s:=by cases s<;>rfl
 obtain⟨W,dw,Hb,Hx,Hy,Hp,Hq⟩:=Jd w 46 [ar s,ai L] 46 [ar false,ai T] 46 [ar false,.string ⟨#[]⟩] 46 [ar false,.string ⟨#[]⟩];obtain⟨x0,x1⟩:=Hx.out.c2;obtain⟨y0,y1⟩:=Hy.out.c2;obtain⟨p0,mZ,p1,na⟩:=Hp.out.g2;obtain⟨q0,cH,q1,cL⟩:=Hq.out.g2;go_enter Tryz.func124,Tryz.ntmps124;go_wp2_with fail;refine(Hd.out _).mono ?_;rintro e w1 ⟨rfl,ag⟩;clear x0 x1 y0 y1 p0 mZ p1 na q0 cH q1 cL;obtain⟨Hx,x0,x1⟩:=bi Hx ag;obtain⟨Hy,y0,y1⟩:=bi Hy ag;obtain⟨Hp,p0,mZ,p1,na⟩:=bE Hp ag;obtain⟨Hq,q0,cH,q1,cL⟩:=bE Hq ag;replace Hb:=aF Hb ag;clear ag;go_wp2_with fail;refine(Hf.out _).mono ?_;rintro e w2 ⟨rfl,ag⟩;clear x0 x1 y0 y1 p0 mZ p1 na q0 cH q1 cL;obtain⟨Hx,x0,x1⟩:=bi Hx ag;obtain⟨Hy,y0,y1⟩:=bi Hy ag;obtain⟨Hp,p0,mZ,p1,na⟩:=bE Hp ag;obtain⟨Hq,q0,cH,q1,cL⟩:=bE Hq ag;replace Hb:=aF Hb ag;clear ag;have arD:=Hx.out.lt;have aAw:=Hy.out.lt;have aro:=Hp.out.lt;have aru:=Hq.out.lt;obtain⟨W2,nk,ag,Hu⟩:=cF w2 46 [ar s,ai M];clear x0 x1;replace Hx:=kB Hx ag;clear y0 y1;replace Hy:=kB Hy ag;clear p0 mZ p1 na;replace Hp:=kB Hp ag;clear q0 cH q1 cL;obtain⟨Hq,q0,cH,q1,cL⟩:=bE Hq ag;obtain⟨x0,x1⟩:=Hx.out.c2;obtain⟨y0,y1⟩:=Hy.out.c2;obtain⟨p0,mZ,p1,na⟩:=Hp.out.g2;obtain⟨u0,u1⟩:=Hu.out.c2;replace Hb:=aF Hb ag;clear ag;go_wp2_with fail;refine(Hg.out _).mono ?_;rintro e w3 ⟨rfl,ag⟩;clear x0 x1 y0 y1 p0 mZ p1 na q0 cH q1 cL u0 u1;obtain⟨Hx,x0,x1⟩:=bi Hx ag;obtain⟨Hy,y0,y1⟩:=bi Hy ag;obtain⟨Hp,p0,mZ,p1,na⟩:=bE Hp ag;obtain⟨Hq,q0,cH,q1,cL⟩:=bE Hq ag;obtain⟨Hu,u0,u1⟩:=bi Hu ag;replace Hb:=aF Hb ag;clear ag;have UD:=Hx.out.lt;have arF:=Hy.out.lt;have arp:=Hp.out.lt;have aAd:=Hq.out.lt;have aAn:=Hu.out.lt;obtain⟨W3,Dl,ag,Hv⟩:=cF w3 46 [ar false,.string (bs [])];clear x0 x1;replace Hx:=kB Hx ag;clear y0 y1;replace Hy:=kB Hy ag;clear p0 mZ p1 na;replace Hp:=kB Hp ag;clear q0 cH q1 cL;replace Hq:=kB Hq ag;clear u0 u1;obtain⟨Hu,u0,u1⟩:=bi Hu ag;obtain⟨x0,x1⟩:=Hx.out.c2;obtain⟨y0,y1⟩:=Hy.out.c2;obtain⟨p0,mZ,p1,na⟩:=Hp.out.g2;obtain⟨q0,cH,q1,cL⟩:=Hq.out.g2;obtain⟨v0,v1⟩:=Hv.out.c2;replace Hb:=aF Hb ag;clear ag;go_wp2_with fail;refine(Hs.out _).mono ?_;rintro e w4 ⟨rfl,ag⟩;clear x0 x1 y0 y1 p0 mZ p1 na q0 cH q1 cL u0 u1 v0 v1;obtain⟨Hx,x0,x1⟩:=bi Hx ag;obtain⟨Hy,y0,y1⟩:=bi Hy ag;obtain⟨Hp,p0,mZ,p1,na⟩:=bE Hp ag;obtain⟨Hq,q0,cH,q1,cL⟩:=bE Hq ag;obtain⟨Hu,u0,u1⟩:=bi Hu ag;obtain⟨Hv,v0,v1⟩:=bi Hv ag;replace Hb:=aF Hb ag;clear ag;go_wp2_with fail;have lp:=Hp.out.lt;have lq:=Hq.out.lt;refine cg (λw'=>aH w' (w2.heap.size) 0 (ar s)/\aH w' (w2.heap.size) 1 (ai M)/\aH w' (w3.heap.size) 0 (ar false)/\aH w' (w3.heap.size) 1 (.string (bs []))) (λi=>Nat.blt i 3) [(0,true),(1,true),(2,false),(3,false),(4,false)] zk zk rfl zk zc ⟨u0,u1,v0,v1⟩ ?_;iterate 2 (refine pT rfl rfl ?_ (by intro w' ⟨q0,q1,q2,q3⟩;go_simp;try with_reducible rfl))
 refine aW rfl rfl (λK hK=>?_);go_simp;refine hK _ _ (λ_=>⟨(aU zf (aU zf u0)),(aU zf (aU zf u1)),(aU zf (aU zf v0)),(aU zf (aU zf v1))⟩) ?_;clear hK K
 clear x0 x1 y0 y1 p0 mZ p1 na q0 cH q1 cL u0 u1 v0 v1;refine cn (cm w4 (w.heap.size+1+1) 0 [ar s,ai M]) cC ?_;intro w5 hs;replace Hx:=kS Hx hs zo;replace Hy:=kS Hy hs zo;replace Hp:=cX Hp hs;replace Hq:=kS Hq hs zo;replace Hu:=kS Hu hs zo;replace Hv:=kS Hv hs zo;obtain⟨x0,x1⟩:=Hx.out.c2;obtain⟨y0,y1⟩:=Hy.out.c2;obtain⟨p0,mZ,p1,na⟩:=Hp.out.g2;obtain⟨q0,cH,q1,cL⟩:=Hq.out.g2;obtain⟨u0,u1⟩:=Hu.out.c2;obtain⟨v0,v1⟩:=Hv.out.c2;replace Hb:=bS Hb hs ZS;clear hs;refine aW rfl rfl (λK hK=>?_);go_simp;refine hK _ _ (λh=>absurd h zd) ?_;clear hK K
 clear x0 x1 y0 y1 p0 mZ p1 na q0 cH q1 cL u0 u1 v0 v1;refine cn (cm w5 (w.heap.size+1+1+1) 0 [ar false,.string (bs [])]) cC ?_;intro w6 hs;replace Hx:=kS Hx hs zo;replace Hy:=kS Hy hs zo;replace Hp:=kS Hp hs zo;replace Hq:=cX Hq hs;replace Hu:=kS Hu hs zo;replace Hv:=kS Hv hs zo;obtain⟨x0,x1⟩:=Hx.out.c2;obtain⟨y0,y1⟩:=Hy.out.c2;obtain⟨p0,mZ,p1,na⟩:=Hp.out.g2;obtain⟨q0,cH,q1,cL⟩:=Hq.out.g2;obtain⟨u0,u1⟩:=Hu.out.c2;obtain⟨v0,v1⟩:=Hv.out.c2;replace Hb:=bS Hb hs ZS;clear hs;refine aW rfl rfl (λK hK=>?_);go_simp;refine hK _ _ (λh=>absurd h zd) ?_;clear hK K
 simp only[bD];go_wp2;refine bodyPost_ret (v:=.tuple #[.agg #[ar s,ai M],.agg #[ar false,.string (bs [])],ar true]) (by simp[results,Tryz.results124,go_sem,p0,p1,q0,q1]) rfl ⟨rfl,Hb.out⟩
def cc (v u k:Nat):Nat:=(v%2^k+u%2^k)/2^k
theorem amo (v u:Nat):cc v u 0=0:=by simp[cc,Nat.mod_one]
theorem amm (v u k:Nat):cc v u k<=1:=by unfold cc;have h:0<2^k:=Nat.pow_pos zd;have h1:=Nat.mod_lt v h;have h2:=Nat.mod_lt u h;rw[<-Nat.lt_succ_iff,Nat.div_lt_iff_lt_mul h];omega
theorem amn (v u k:Nat):bd (v+u) k=(bd v k+bd u k+cc v u k)%2/\cc v u (k+1)=(bd v k+bd u k+cc v u k)/2:=by
 have hM:0<2^k:=Nat.pow_pos zd;have ha:=Nat.mod_lt v hM;have hb:=Nat.mod_lt u hM;have e1:v=2^k* (v/2^k)+v%2^k:=(Nat.div_add_mod v _).symm;have e2:u=2^k* (u/2^k)+u%2^k:=(Nat.div_add_mod u _).symm;have es:(v+u)/2^k=v/2^k+u/2^k+cc v u k:=by
  unfold cc;have:v+u=(v%2^k+u%2^k)+2^k* (v/2^k+u/2^k):=by rw[Nat.mul_add];omega
  rw[this,Nat.add_mul_div_left _ _ hM];omega
 have m1:v%2^(k+1)=v%2^k+2^k*bd v k:=by rw[Nat.pow_succ,Nat.mod_mul];rfl
 have m2:u%2^(k+1)=u%2^k+2^k*bd u k:=by rw[Nat.pow_succ,Nat.mod_mul];rfl
 constructor
 . unfold bd at*;rw[es];omega
 . have e3:cc v u (k+1)=((v%2^k+u%2^k)+2^k* (bd v k+bd u k))/2^k/2:=by rw[Nat.div_div_eq_div_mul,<-Nat.pow_succ];unfold cc;rw[m1,m2,Nat.mul_add];congr 1;omega
   rw[e3,Nat.add_mul_div_left _ _ hM];show(cc v u k+_)/2=_
   congr 1;omega
theorem alR (u p i:Nat):bd (u*2^p) i=if p<=i then bd u (i-p)else 0:=by
 unfold bd;by_cases h:p<=i
 . rw[if_pos h];obtain⟨j,rfl⟩:∃j,i=p+j:=⟨i-p,by omega⟩;rw[Nat.pow_add,<-Nat.div_div_eq_div_mul,Nat.mul_div_cancel _ (Nat.pow_pos zd),show p+j-p=j by omega]
 . rw[if_neg h];obtain⟨j,rfl⟩:∃j,p=i+1+j:=⟨p-i-1,by omega⟩;rw[show u*2^(i+1+j)=(u*2^j*2) *2^i by rw[Nat.pow_add,Nat.pow_add,Nat.pow_one];simp only[Nat.mul_assoc,Nat.mul_comm,Nat.mul_left_comm],Nat.mul_div_cancel _ (Nat.pow_pos zd)];omega
theorem Vz (x y:Value)(n m v u p:Nat)(w:World)(hx:Bv w x n v)(hy:Bv w y m u)(hn:n<=1099511627775)(hm:m+p<=1099511627775):
 Calls Tryz.prog 185 #[x,y,ah (p:Int)] w λe w'=>(∃z,e=.returned z/\Bv w' z (max n (m+p)+1) (v+u*2^p))/\Bw w w':=by
 obtain⟨a,cap,qj⟩:=hx.len;obtain⟨a',cap',IL⟩:=hy.len;have rz:=λW (hW:Bw w W) i (hi:i<=1099511627776)=>Em x n v i W (hx.below hW) hi zo;have hby:=λW (hW:Bw w W) i (hi:i<=1099511627776)=>Em y m u i W (hy.below hW) hi zo;obtain⟨L,hL⟩:=aK (max n (m+p)+1);obtain⟨U,hU⟩:=aK (u*2^p);have wz:Hid (v+U<2^L):=by
  show _<_
  have h1:v<2^(L-1):=Nat.lt_of_lt_of_le hx.1 (Nat.pow_le_pow_right zd zo);have h2:U<2^(L-1):=by rw[<-hU];have h3:u*2^p<2^m*2^p:=Nat.mul_lt_mul_of_pos_right hy.1 (Nat.pow_pos zd);rw[<-Nat.pow_add]at h3;exact Nat.lt_of_lt_of_le h3 (Nat.pow_le_pow_right zd zo)
  rw[show L=L-1+1 by omega,Nat.pow_succ];omega
 have hbU:∀i,bd U i=if p<=i then bd u (i-p)else 0:=λi=>by rw[<-hU];exact alR u p i
 have hLI:max (n:Int) ((m:Int)+(p:Int))+1=(L:Int):=by omega
 have hLb:L<=1099511627776:=by omega
 subst qj;subst IL;have hmk:=uw (L:Int) L rfl zo;rw[hU,hL];obtain⟨EM,uF,HbU⟩:=dc rz hby hbU;clear rz hby hx hy hbU hU hL;go_enter Tryz.func185,Tryz.ntmps185;go_wp2_with fail;go_loopw[8,9,10] (λb i _ wr=>∃k:Nat,k<=L/\i=ah (k:Int)/\b=.int .u8 (cc v U k:Int)/\aC wr w.heap.size 5 (cW L (λj=>if j<k then bd (v+U) j else 0))/\Bw w wr) (λ_ i _ _=>L-(intOf i).toNat);case atStart=>
  refine⟨0,Nat.zero_le _,rfl,by rw[amo];rfl,?_,zl⟩;have e:cW L (λj=>if j<0 then bd (v+U) j else 0)=cW L λ_=>0:=pq λj hj=>by rw[if_neg zo]
  rw[e];exact aC.new _ _ _
 case round=>
  obtain⟨k,hk,rfl,rfl,hB,hb⟩:=hrel;by_cases hlt:k<L
  . have H1:=aj (EM.out wr hb k zo);obtain⟨hs,hs2⟩:=amn v U k;have hp1:=uN v k;have hq:=uN U k;have hr:=amm v U k;have TR:=HbU.out k;have hcell:wr.cell? ⟨w.heap.size,k,none⟩=some (.int .u8 0):=by rw[hB.cell,lM _ _ _ hlt,if_neg zo];rfl
    have hfree:wr.frozen? ⟨w.heap.size,k,none⟩=false:=hB.free _;have cd:=hB.set k (.int .u8 ((bd (v+U) k:Nat):Int))
    rw[BP,pq (g:=λj=>if j<k+1 then bd (v+U) j else 0) λj hj=>by
     by_cases e:j=k
     . subst e;rw[if_pos rfl,if_pos zo]
     . rw[if_neg e];by_cases e2:j<k
       . rw[if_pos e2,if_pos zo]
       . rw[if_neg e2,if_neg zo]]at cd
    obtain⟨fh,Hb⟩:=aZ cd (hb.setCell (p:=⟨w.heap.size,k,none⟩) (Nat.le_refl _) (.int .u8 ((bd (v+U) k:Nat):Int)));have H2:p<=k->Calls Tryz.prog 202 #[.slice a' m cap',ah ((k-p:Nat):Int)] wr λe w'=>e=.returned (.int .u8 (bd U k:Int))/\wr=w':=λh=>by rw[TR,if_pos h];exact uF.out wr hb (k-p) zo
    have hq0:¬p<=k->bd U k=0:=λh=>by rw[TR,if_neg h]
    have bK:=sF L L k (k:Int) (rfl:(some ⟨w.heap.size,0,none⟩:Option Addr)=_) hlt rfl;rw[Nat.mul_one,Nat.zero_add]at bK;clear hB cd hb TR;generalize bd v k=P at*;generalize bd U k=q at*;generalize hrr:cc v U k=r at*;generalize bd (v+U) k=z at*;obtain⟨H2,Kw,wy⟩:=dc H2 hq0 hs2;clear hq0 hs2 hrr;obtain⟨S,hS⟩:=aK (P+q+r);have hS3:S<=3:=by omega
    have hw1:IntKind.u8.wrap ((P:Int)+(r:Int))=(P:Int)+(r:Int):=by rw[IntKind.wrap_u8];omega
    have hw2:IntKind.u8.wrap ((P:Int)+(r:Int)+(q:Int))=(S:Int):=by rw[IntKind.wrap_u8];omega
    have hand:bits .and .u8 (S:Int) 1=(z:Int):=by rw[QU S zo,hs,<-hS]
    obtain⟨HS,Hs⟩:=aZ hS hs;clear hS hs;go_wp2_with fail;refine H1.out.mono ?_;rintro e w' ⟨rfl,rfl⟩;by_cases hpk:p<=k
    . have H3:=aj (H2.out hpk);have vz:((k:Int)-(p:Int))=((k-p:Nat):Int):=by omega
      go_wp2_with fail;refine H3.out.mono ?_;rintro e w' ⟨rfl,rfl⟩;go_wp2;go_roundw;case rel=>refine⟨k+1,by omega,by go_num,?_,fh.out,Hb.out⟩;have h1:=wy.out;have h2:=HS.out;rw[h1];congr 1;omega
      case measure=>simp[intOf];omega
    . have hq1:=Kw.out hpk;subst hq1;have hw3:IntKind.u8.wrap ((P:Int)+(r:Int))=(S:Int):=by rw[hw1];have:=HS.out;omega
      clear hw1 hw2;go_wp2;go_roundw;case rel=>refine⟨k+1,by omega,by go_num,?_,fh.out,Hb.out⟩;have h1:=wy.out;have h2:=HS.out;rw[h1];congr 1;omega
      case measure=>simp[intOf];omega
  . obtain rfl:k=L:=by omega
    rw[pq (g:=bd (v+U)) λj hj=>by rw[if_pos hj]]at hB;obtain⟨Hz,Hb⟩:=aZ (Bv.aBf hB wz.out) hb;clear hB hb;go_wp2;go_ret;exact⟨⟨_,rfl,Hz.out⟩,Hb.out⟩
theorem atZ (xs:List (List UInt8))(a:Option Addr)(cap:Nat)(w:World)(hl:∀l∈xs,l.length<=68719476736)(hx:xs.length<=1048576)
 (ha:At w a (xs.map λl=>ai l)):
 Calls Tryz.prog 165 #[.slice a xs.length cap] w λe w'=>e=.returned (ai (nt (iq xs)))/\Bw w w':=by
 obtain⟨Hl,Ha⟩:=aZ hl ha;clear hl ha;go_enter Tryz.func165,Tryz.ntmps165;go_wp2_with fail;go_loopw[3,4] (λz i wr=>∃k n:Nat,k<=xs.length/\n<=549755813888+k/\i=ah (k:Int)/\Bv wr z n (iq (xs.take k))/\Bw w wr) (λ_ i _=>xs.length-(intOf i).toNat);case atStart=>exact⟨0,0,Nat.zero_le _,Nat.zero_le _,rfl,⟨by simp[iq],.inl ⟨rfl,rfl⟩⟩,Below.refl _ _⟩
 case round=>
  obtain⟨k,n,hk,hn,rfl,hz,hb⟩:=hrel;by_cases hlt:k<xs.length
  . have hne:(xs.map λl=>Value.string (bs l))≠[]:=by intro h0;have:=congrArg List.length h0;simp at this;subst this;simp at hlt
    obtain⟨b,o,hab,hcs⟩:=(Ha.out.below hb).get hne;have hcell:wr.cell? ⟨b,o+k,none⟩=some (.string (bs xs[k])):=by rw[hcs k (by simpa using hlt)];simp[hlt]
    have bK:=xo xs.length cap k (k:Int) hab hlt rfl;rw[Nat.mul_one]at bK;clear hcs hne;have lQ:Hid (xs[k].length<=68719476736):=Hl.out _ (List.getElem_mem hlt);obtain⟨cB,qJ⟩:=aZ (aeR xs k hlt) hab;clear hab;generalize xs[k]=x at*;have rz:bV (nv x)<=549755813888:=Nat.le_trans (ib (qA x)) (by have:=lQ.out;omega);obtain⟨Hz,Hb⟩:=aZ hz hb;clear hz hb;go_wp2_with fail;refine(rM x _ lQ.out).mono ?_;rintro e w1 ⟨⟨y,rfl,hy⟩,hb1⟩;obtain⟨Hy,cE⟩:=aZ hy hb1;clear hy hb1;go_wp2_with fail;refine(Vz u3 y n (bV (nv x)) (iq (xs.take k)) (nv x) 0 w1 (Hz.out.below cE.out) Hy.out zo zo).mono ?_;rintro e w2 ⟨⟨z,rfl,hz⟩,hb2⟩;obtain⟨dh,df⟩:=aZ hz hb2;clear hz hb2;go_wp2;go_roundw;case rel=>have h:=dh.out;rw[Nat.pow_zero,Nat.mul_one,<-cB.out]at h;exact⟨k+1,_,by omega,by omega,by go_num,h,aV Hb.out (aV cE.out df.out)⟩
    case measure=>simp[intOf];omega
  . obtain rfl:k=xs.length:=by omega
    rw[List.take_length]at hz;obtain⟨Hz,Hb⟩:=aZ hz hb;clear hz hb;go_wp2_with fail;refine(xE u3 n (iq xs) wr zo Hz.out).mono ?_;rintro e w1 ⟨rfl,hb1⟩;have cE:=aj hb1;clear hb1;go_wp2;go_ret;exact⟨rfl,aV Hb.out cE.out⟩
theorem afl (l m:List UInt8)(w:World)(hl:l.length<=68719476736)(hm:m.length<=68719476736):
 Calls Tryz.prog 190 #[ai l,ai m] w λe w'=>e=.returned (ah (dx (nv l) (nv m)))/\Bw w w':=by
 have hbl:=Nat.le_trans (ib (qA l)) (show 8*l.length<=549755813888 by omega);have GD:=Nat.le_trans (ib (qA m)) (show 8*m.length<=549755813888 by omega);go_enter Tryz.func190,Tryz.ntmps190;go_wp2_with fail;refine(rM l w hl).mono ?_;rintro e w1 ⟨⟨y,rfl,hy⟩,hb1⟩;obtain⟨Hy,cE⟩:=aZ hy hb1;clear hy hb1;go_wp2_with fail;refine(rM m w1 hm).mono ?_;rintro e w2 ⟨⟨z,rfl,hz⟩,hb2⟩;obtain⟨Hz,df⟩:=aZ hz hb2;clear hz hb2;go_wp2_with fail;refine(afm y z _ _ (nv l) (nv m) w2 (Hy.out.below df.out) Hz.out zo zo).mono ?_;rintro e w' ⟨rfl,rfl⟩;go_wp2;go_ret;exact⟨rfl,aV cE.out df.out⟩
theorem ZH (S u:Nat):dx S u<0↔S<u:=by
 unfold dx;by_cases h1:S<u
 . rw[if_pos h1];omega
 . rw[if_neg h1];by_cases h2:u<S
   . rw[if_pos h2];omega
   . rw[if_neg h2];omega
theorem auJ (l m:List UInt8)(w:World)(hl:l.length<=68719476736)(hm:m.length<=68719476736)(h:nv l<nv m):
 Calls Tryz.prog 166 #[ai l,ai m] w λe w'=>e=.returned (.tuple #[.string ⟨#[]⟩,ar false])/\Bw w w':=by
 have hc:=(ZH (nv l) (nv m)).2 h;have H1:=aj (afl l m w hl hm);clear h;generalize dx (nv l) (nv m)=c at*;go_enter Tryz.func166,Tryz.ntmps166;go_wp2_with fail;refine H1.out.mono ?_;rintro e w1 ⟨rfl,hb1⟩;have cE:=aj hb1;clear hb1;go_wp2;go_ret2
 exact⟨rfl,cE.out⟩
theorem afw (l m:List UInt8)(w:World)(hl:l.length<=68719476736)(hm:m.length<=68719476736)(h:nv m<=nv l):
 Calls Tryz.prog 166 #[ai l,ai m] w λe w'=>e=.returned (.tuple #[ai (nt (nv l-nv m)),ar true])/\Bw w w':=by
 have hc:¬dx (nv l) (nv m)<0:=λh2=>by have:=(ZH (nv l) (nv m)).1 h2;omega
 have hbl:=Nat.le_trans (ib (qA l)) (show 8*l.length<=549755813888 by omega);have GD:=Nat.le_trans (ib (qA m)) (show 8*m.length<=549755813888 by omega);obtain⟨H1,H2,H3⟩:=dc (afl l m w hl hm) (λW=>rM l W hl) (λW=>rM m W hm);generalize dx (nv l) (nv m)=c at*;go_enter Tryz.func166,Tryz.ntmps166;go_wp2_with fail;refine H1.out.mono ?_;rintro e w1 ⟨rfl,hb1⟩;have cE:=aj hb1;clear hb1;go_wp2_with fail;refine(H2.out w1).mono ?_;rintro e w2 ⟨⟨y,rfl,hy⟩,hb2⟩;obtain⟨Hy,df⟩:=aZ hy hb2;clear hy hb2;go_wp2_with fail;refine(H3.out w2).mono ?_;rintro e w3 ⟨⟨z,rfl,hz⟩,hb3⟩;obtain⟨Hz,eJ⟩:=aZ hz hb3;clear hz hb3;go_wp2_with fail;refine(afq y z _ _ (nv l) (nv m) w3 (Hy.out.below eJ.out) Hz.out zo zo h).mono ?_;rintro e w4 ⟨⟨d,rfl,hd,_⟩,hb4⟩;obtain⟨Hd,mV⟩:=aZ hd hb4;clear hd hb4;go_wp2_with fail;refine(xE d _ (nv l-nv m) w4 zo Hd.out).mono ?_;rintro e w5 ⟨rfl,dm⟩;have eX:=aj dm;clear dm;go_wp2;go_ret2
 exact⟨rfl,aV cE.out (aV df.out (aV eJ.out (aV mV.out eX.out)))⟩
theorem Jx (s:Bool)(l:List UInt8)(Z:Int)(hZ:iv s l=Z)(w:World)(hl:l.length<=68719476736):
 Calls Tryz.prog 123 #[.agg #[ar s,ai l]] w λe w'=>e=.returned (.agg #[ar (aI Z),ai (nt Z.natAbs)])/\Bw w w':=by
 have h:=Jw s l w hl;rw[<-Uo,<-oX s l,hZ]at h;exact h
theorem auI (s:Bool)(l:List UInt8)(w:World)(hl:l.length<=68719476736):
 Calls Tryz.prog 128 #[.agg #[ar s,ai l]] w λe w'=>e=.returned (ah (fH (iv s l)))/\Bw w w':=by
 by_cases h0:nv l=0
 . have e:fH (iv s l)=0:=by unfold iv;rw[h0];cases s<;>rfl
   rw[e];exact afv s l w hl h0
 . have h1:=afp l;have hbp:=FV (v:=nv l) zo;have e:fH (iv s l)=if s then-1 else 1:=by unfold iv fH;cases s<;>simp<;>omega
   rw[e];generalize bV (nv l)=B at*;have hB:((B:Int)==0)=false:=by simp;omega
   have H1:=aj h1;clear h1 e h0;obtain⟨W,dw,Hb,Hx⟩:=jT w 46 [ar s,ai l];obtain⟨x0,x1⟩:=Hx.out.c2;go_enter Tryz.func128,Tryz.ntmps128;go_wp2_with fail;refine(H1.out _ hl).mono ?_;rintro e w1 ⟨rfl,ag⟩;clear x0 x1;obtain⟨Hx,x0,x1⟩:=bi Hx ag;replace Hb:=aF Hb ag;clear ag;cases s with
   |false=>go_wp2;go_ret;exact⟨rfl,Hb.out⟩
   |true=>go_wp2;go_ret;exact⟨rfl,Hb.out⟩
theorem auB (s:Bool)(l m:List UInt8)(Z:Int)(hZ:iv s l+iv s m=Z)(w:World)(hl:l.length<=1048576)(hm:m.length<=1048576):
 Calls Tryz.prog 131 #[.agg #[ar s,ai l],.agg #[ar s,ai m]] w λe w'=>e=.returned (.agg #[ar (aI Z),ai (nt Z.natAbs)])/\Bw w w':=by
 have es:iq [l,m]=nv l+nv m:=by simp[iq]
 have ha:∀W b,At W (some ⟨b,0,none⟩) [ai l,ai m]->Calls Tryz.prog 165 #[.slice (some ⟨b,0,none⟩) 2 2] W λe w'=>e=.returned (ai (nt (nv l+nv m)))/\Bw W w':=by intro W b h;rw[<-es];exact atZ [l,m] (some ⟨b,0,none⟩) 2 W (by intro x hx;simp at hx;rcases hx with rfl|rfl<;>omega) (by show 2<=1048576;decide) h
 have hlen:(nt (nv l+nv m)).length<=68719476736:=by have h1:=gz l;have h2:=gz m;obtain⟨N,hN⟩:=aK (max l.length m.length);refine Nat.le_trans (jR (k:=N+1) ?_) zo;have h3:256^l.length<=256^N:=Nat.pow_le_pow_right zd zo;have h4:256^m.length<=256^N:=Nat.pow_le_pow_right zd zo;rw[Nat.pow_succ];omega
 have hf:=λW=>Jx s (nt (nv l+nv m)) Z (by rw[<-hZ,oY];unfold iv;cases s<;>simp<;>omega) W hlen;obtain⟨Ha,Hf⟩:=aZ ha hf;clear ha hf hlen es hZ;generalize nt (nv l+nv m)=S at*;obtain⟨W,dw,Hb,Hx,Hy,Hr⟩:=vI w 46 [ar s,ai l] 46 [ar s,ai m] 46 [ar false,.string ⟨#[]⟩];obtain⟨x0,x1⟩:=Hx.out.c2;obtain⟨y0,y1⟩:=Hy.out.c2;obtain⟨r0,au,r1,az⟩:=Hr.out.g2;go_enter Tryz.func131,Tryz.ntmps131;go_wp2_with fail;refine cg (λw'=>aH w' (w.heap.size) 0 (ar s)/\aH w' (w.heap.size) 1 (ai l)/\aH w' (w.heap.size+1) 0 (ar s)/\aH w' (w.heap.size+1) 1 (ai m)) (λi=>Nat.blt i 10) [(0,true),(1,true),(2,true),(3,true),(4,true),(5,true),(6,false),(7,false),(8,true),(9,false),(10,false)] zk zk rfl zk zc ⟨x0,x1,y0,y1⟩ ?_;iterate 6 (refine pT rfl rfl ?_ (by intro w' ⟨q0,q1,q2,q3⟩;go_simp;try with_reducible rfl))
 refine aW rfl rfl (λK hK=>?_);go_simp;refine hK _ _ (λ_=>⟨aX x0,aX x1,aX y0,aX y1⟩) ?_;clear hK K
 refine cn (λW1=>aC W1 (W.heap.size) 9 [ai l,ai m]/\Bw W W1) (by first|exact dZ|exact ej) ?_;rintro W1 ⟨qv,ag⟩;clear x0 x1 y0 y1 r0 au r1 az;have arC:=Hx.out.lt;have arE:=Hy.out.lt;have IY:=Hr.out.lt;replace Hx:=kB Hx ag;replace Hy:=kB Hy ag;replace Hr:=kB Hr ag;have Hv:=aj qv;clear qv;obtain⟨x0,x1⟩:=Hx.out.c2;obtain⟨y0,y1⟩:=Hy.out.c2;obtain⟨r0,au,r1,az⟩:=Hr.out.g2;obtain⟨v0,v1⟩:=Hv.out.c2;replace Hb:=aF Hb ag;clear ag;refine aW rfl rfl (λK hK=>?_);go_simp;with_reducible refine(Ha.out _ _ (At.aBf Hv.out)).mono ?_
 rintro e w2 ⟨rfl,hq⟩;have ag:Bw W1 w2:=by first|exact hq|exact bo hq
 clear x0 x1 y0 y1 r0 au r1 az v0 v1;obtain⟨Hx,x0,x1⟩:=bi Hx ag;obtain⟨Hy,y0,y1⟩:=bi Hy ag;obtain⟨Hr,r0,au,r1,az⟩:=bE Hr ag;obtain⟨Hv,v0,v1⟩:=bi Hv ag;replace Hb:=aF Hb ag;clear ag;refine hK _ _ (λ_=>⟨x0,x1,y0,y1⟩) ?_;clear hK K
 refine pT rfl rfl ?_
 refine aW rfl rfl (λK hK=>?_);go_simp;with_reducible refine(Hf.out _).mono ?_
 rintro e w3 ⟨rfl,hq⟩;have ag:Bw w2 w3:=by first|exact hq|exact bo hq
 clear x0 x1 y0 y1 r0 au r1 az v0 v1;obtain⟨Hx,x0,x1⟩:=bi Hx ag;obtain⟨Hy,y0,y1⟩:=bi Hy ag;obtain⟨Hr,r0,au,r1,az⟩:=bE Hr ag;obtain⟨Hv,v0,v1⟩:=bi Hv ag;replace Hb:=aF Hb ag;clear ag;refine hK _ _ (λ_=>⟨x0,x1,y0,y1⟩) ?_;clear hK K
 refine aW rfl rfl (λK hK=>?_);go_simp;refine hK _ _ (λh=>absurd h zd) ?_;clear hK K
 clear x0 x1 y0 y1 r0 au r1 az v0 v1;refine cn (cm w3 (w.heap.size+1+1) 0 [ar (aI Z),ai (nt Z.natAbs)]) cC ?_;intro w4 hs;replace Hx:=kS Hx hs zo;replace Hy:=kS Hy hs zo;replace Hr:=cX Hr hs;replace Hv:=kS Hv hs zo;obtain⟨x0,x1⟩:=Hx.out.c2;obtain⟨y0,y1⟩:=Hy.out.c2;obtain⟨r0,au,r1,az⟩:=Hr.out.g2;obtain⟨v0,v1⟩:=Hv.out.c2;replace Hb:=bS Hb hs ZS;clear hs;simp only[bD];go_wp2;exact bodyPost_ret (v:=.agg #[ar (aI Z),ai (nt Z.natAbs)]) (by simp[results,Tryz.results131,go_sem,r0,r1]) rfl ⟨rfl,di⟩
theorem auz (s:Bool)(l m:List UInt8)(Z:Int)(hZ:iv s l+iv (!s) m=Z)(h:nv m<=nv l)(w:World)(hl:l.length<=1048576)(hm:m.length<=1048576):
 Calls Tryz.prog 131 #[.agg #[ar s,ai l],.agg #[ar (!s),ai m]] w λe w'=>e=.returned (.agg #[ar (aI Z),ai (nt Z.natAbs)])/\Bw w w':=by
 have ha:=λW=>afw l m W zo zo h;have hlen:(nt (nv l-nv m)).length<=68719476736:=by have h1:=gz l;refine Nat.le_trans (jR (k:=l.length) zo) zo
 have hf:=λW=>Jx s (nt (nv l-nv m)) Z (by rw[<-hZ,oY];unfold iv;cases s<;>simp<;>omega) W hlen;obtain⟨Ha,Hf⟩:=aZ ha hf;clear ha hf hlen hZ h;generalize nt (nv l-nv m)=S at*;have hne:(s== !s)=false:=by cases s<;>rfl
 obtain⟨t,ht⟩:=aK (!s);rw[ht]at hne⊢;obtain⟨W,dw,Hb,Hx,Hy,Hr⟩:=vI w 46 [ar s,ai l] 46 [ar t,ai m] 46 [ar false,.string ⟨#[]⟩];obtain⟨x0,x1⟩:=Hx.out.c2;obtain⟨y0,y1⟩:=Hy.out.c2;obtain⟨r0,au,r1,az⟩:=Hr.out.g2;go_enter Tryz.func131,Tryz.ntmps131;go_wp2_with fail;refine(Ha.out _).mono ?_;rintro e w1 ⟨rfl,ag⟩;clear x0 x1 y0 y1 r0 au r1 az;obtain⟨Hx,x0,x1⟩:=bi Hx ag;obtain⟨Hy,y0,y1⟩:=bi Hy ag;obtain⟨Hr,r0,au,r1,az⟩:=bE Hr ag;replace Hb:=aF Hb ag;clear ag;go_wp2_with fail;refine(Hf.out _).mono ?_;rintro e w2 ⟨rfl,ag⟩;clear x0 x1 y0 y1 r0 au r1 az;obtain⟨Hx,x0,x1⟩:=bi Hx ag;obtain⟨Hy,y0,y1⟩:=bi Hy ag;obtain⟨Hr,r0,au,r1,az⟩:=bE Hr ag;replace Hb:=aF Hb ag;clear ag;go_wp2;clear x0 x1 y0 y1 r0 au r1 az;refine fJ (cm w2 (w.heap.size+1+1) 0 [ar (aI Z),ai (nt Z.natAbs)]) cC ?_;intro w9 hs;replace Hx:=kS Hx hs zo;replace Hy:=kS Hy hs zo;replace Hr:=cX Hr hs;obtain⟨x0,x1⟩:=Hx.out.c2;obtain⟨y0,y1⟩:=Hy.out.c2;obtain⟨r0,au,r1,az⟩:=Hr.out.g2;replace Hb:=bS Hb hs ZS;clear hs;refine bodyPost_ret (v:=.agg #[ar (aI Z),ai (nt Z.natAbs)]) (by simp[results,Tryz.results131,go_sem,r0,r1]) rfl ⟨rfl,Hb.out⟩
theorem auA (s:Bool)(l m:List UInt8)(Z:Int)(hZ:iv s l+iv (!s) m=Z)(h:nv l<nv m)(w:World)(hl:l.length<=1048576)(hm:m.length<=1048576):
 Calls Tryz.prog 131 #[.agg #[ar s,ai l],.agg #[ar (!s),ai m]] w λe w'=>e=.returned (.agg #[ar (aI Z),ai (nt Z.natAbs)])/\Bw w w':=by
 have ha:=λW=>auJ l m W zo zo h;have hb:=λW=>afw m l W zo zo (Nat.le_of_lt h);have hlen:(nt (nv m-nv l)).length<=68719476736:=by have h1:=gz m;refine Nat.le_trans (jR (k:=m.length) zo) zo
 have hf:=λW=>Jx (!s) (nt (nv m-nv l)) Z (by rw[<-hZ,oY];unfold iv;cases s<;>simp<;>omega) W hlen;obtain⟨Ha,Hs,Hf⟩:=dc ha hb hf;clear ha hb hf hlen hZ h;generalize nt (nv m-nv l)=S at*;have hne:(s== !s)=false:=by cases s<;>rfl
 obtain⟨t,ht⟩:=aK (!s);rw[ht]at hne Hf⊢;obtain⟨W,dw,Hb,Hx,Hy,Hr⟩:=vI w 46 [ar s,ai l] 46 [ar t,ai m] 46 [ar false,.string ⟨#[]⟩];obtain⟨x0,x1⟩:=Hx.out.c2;obtain⟨y0,y1⟩:=Hy.out.c2;obtain⟨r0,au,r1,az⟩:=Hr.out.g2;go_enter Tryz.func131,Tryz.ntmps131;go_wp2_with fail;refine(Ha.out _).mono ?_;rintro e w1 ⟨rfl,ag⟩;clear x0 x1 y0 y1 r0 au r1 az;obtain⟨Hx,x0,x1⟩:=bi Hx ag;obtain⟨Hy,y0,y1⟩:=bi Hy ag;obtain⟨Hr,r0,au,r1,az⟩:=bE Hr ag;replace Hb:=aF Hb ag;clear ag;go_wp2_with fail;refine(Hs.out _).mono ?_;rintro e w2 ⟨rfl,ag⟩;clear x0 x1 y0 y1 r0 au r1 az;obtain⟨Hx,x0,x1⟩:=bi Hx ag;obtain⟨Hy,y0,y1⟩:=bi Hy ag;obtain⟨Hr,r0,au,r1,az⟩:=bE Hr ag;replace Hb:=aF Hb ag;clear ag;go_wp2_with fail;refine(Hf.out _).mono ?_;rintro e w3 ⟨rfl,ag⟩;clear x0 x1 y0 y1 r0 au r1 az;obtain⟨Hx,x0,x1⟩:=bi Hx ag;obtain⟨Hy,y0,y1⟩:=bi Hy ag;obtain⟨Hr,r0,au,r1,az⟩:=bE Hr ag;replace Hb:=aF Hb ag;clear ag;go_wp2;clear x0 x1 y0 y1 r0 au r1 az;refine fJ (cm w3 (w.heap.size+1+1) 0 [ar (aI Z),ai (nt Z.natAbs)]) cC ?_;intro w9 hs;replace Hx:=kS Hx hs zo;replace Hy:=kS Hy hs zo;replace Hr:=cX Hr hs;obtain⟨x0,x1⟩:=Hx.out.c2;obtain⟨y0,y1⟩:=Hy.out.c2;obtain⟨r0,au,r1,az⟩:=Hr.out.g2;replace Hb:=bS Hb hs ZS;clear hs;refine bodyPost_ret (v:=.agg #[ar (aI Z),ai (nt Z.natAbs)]) (by simp[results,Tryz.results131,go_sem,r0,r1]) rfl ⟨rfl,Hb.out⟩
theorem aux (s:Bool)(l:List UInt8)(t:Bool)(m:List UInt8)(Z:Int)(hZ:iv s l+iv t m=Z)(w:World)(hl:l.length<=1048576)(hm:m.length<=1048576):
 Calls Tryz.prog 131 #[.agg #[ar s,ai l],.agg #[ar t,ai m]] w λe w'=>e=.returned (.agg #[ar (aI Z),ai (nt Z.natAbs)])/\Bw w w':=by
 by_cases h:s=t
 . subst h;exact auB s l m Z hZ w hl hm
 . obtain rfl:t= !s:=by cases s<;>cases t<;>simp_all
   by_cases h2:nv l<nv m
   . exact auA s l m Z hZ h2 w hl hm
   . exact auz s l m Z hZ zo w hl hm
theorem auH (l:List UInt8)(p:Nat)(w:World)(hl:l.length<=68719476736)(hp:p<=274877906944):
 Calls Tryz.prog 167 #[ai l,ah (p:Int)] w λe w'=>e=.returned (ai (nt (nv l*2^p)))/\Bw w w':=by
 have rz:bV (nv l)<=549755813888:=Nat.le_trans (ib (qA l)) zo;have hmx:max (p:Int) 0=(p:Int):=by omega
 have Hb:Hid (Bw w w):=Below.refl _ _;go_enter Tryz.func167,Tryz.ntmps167;go_wp2_with fail;refine(rM l _ hl).mono ?_;rintro e w1 ⟨⟨y,rfl,hy⟩,hb1⟩;obtain⟨Hy,cE⟩:=aZ hy hb1;clear hy hb1;go_wp2_with fail;refine(Vz (.slice none 0 0) y 0 (bV (nv l)) 0 (nv l) p w1 ⟨by simp,.inl ⟨rfl,rfl⟩⟩ Hy.out zo zo).mono ?_;rintro e w2 ⟨⟨z,rfl,hz⟩,hb2⟩;rw[Nat.zero_add]at hz;obtain⟨Hz,df⟩:=aZ hz hb2;clear hz hb2;go_wp2_with fail;refine(xE z _ (nv l*2^p) w2 zo Hz.out).mono ?_;rintro e w3 ⟨rfl,hb3⟩;have eJ:=aj hb3;clear hb3;go_wp2;go_ret;exact⟨rfl,aV cE.out (aV df.out eJ.out)⟩
theorem arU (v k:Nat):v%2^(k+1)=v%2^k+bd v k*2^k:=by unfold bd;rw[Nat.pow_succ,Nat.mod_mul,Nat.mul_comm]
theorem aui (l m:List UInt8)(w:World)(hl:l.length<=17179869184)(hm:m.length<=17179869184):
 Calls Tryz.prog 159 #[ai l,ai m] w λe w'=>e=.returned (ai (nt (nv l*nv m)))/\Bw w w':=by
 have hbl:bV (nv l)<=137438953472:=Nat.le_trans (ib (qA l)) zo;have GD:bV (nv m)<=137438953472:=Nat.le_trans (ib (qA m)) zo;have hvl:=rX (nv l);obtain⟨V,hV⟩:=aK (nv l);obtain⟨U,hU⟩:=aK (nv m);have h1:=λW=>rM l W zo;have h2:=λW=>rM m W zo;rw[hV]at hbl hvl h1⊢;rw[hU]at GD h2⊢;obtain⟨N,hN⟩:=aK (bV V);obtain⟨M,hM⟩:=aK (bV U);rw[hN]at hbl hvl h1;rw[hM]at GD h2;obtain⟨H1,H2,tB⟩:=dc h1 h2 hvl;clear h1 h2 hvl hV hU hN hM hl hm;have Hb:Hid (Bw w w):=Below.refl _ _;go_enter Tryz.func159,Tryz.ntmps159;go_wp2_with fail;refine(H1.out _).mono ?_;rintro e w1 ⟨⟨x,rfl,hx⟩,hb1⟩;obtain⟨Hx,cE⟩:=aZ hx hb1;clear hx hb1;go_wp2_with fail;refine(H2.out _).mono ?_;rintro e w2 ⟨⟨y,rfl,hy⟩,hb2⟩;obtain⟨tC,Hy,df⟩:=dc (Hx.out.below hb2) hy (aV cE.out hb2);clear hy hb2 cE Hx;obtain⟨a,cap,rfl⟩:=tC.out.len;go_wp2_with fail;go_loopw[7,8] (λz i wr=>∃k n:Nat,k<=N/\n<=M+k/\i=ah (k:Int)/\Bv wr z n (V%2^k*U)/\Bw w2 wr) (λ_ i _=>N-(intOf i).toNat);case atStart=>exact⟨0,0,Nat.zero_le _,Nat.zero_le _,rfl,⟨by simp[Nat.mod_one],.inl ⟨rfl,rfl⟩⟩,Below.refl _ _⟩
 case round=>
  obtain⟨k,n,hk,hn,rfl,hz,hb⟩:=hrel;by_cases hlt:k<N
  . have hxk:=tC.out.below hb;rcases hxk.2 with⟨h,h0⟩ |⟨b,o,cap',h,hcap,hc⟩
    . omega
    simp only[Value.slice.injEq,true_and]at h;obtain⟨rfl,rfl⟩:=h;have hcell:=hc k hlt;have bK:=sF N cap k (k:Int) (rfl:(some ⟨b,o,none⟩:Option Addr)=_) hlt rfl;rw[Nat.mul_one]at bK;have hst:=arU V k;obtain⟨Hz,Hb,hyk⟩:=dc hz hb (Hy.out.below hb);clear hz hb hc hxk;rcases(show bd V k=0\/bd V k=1 by unfold bd;omega)with hd|hd
    . have hd':((bd V k:Int)==1)=false:=by simp[hd]
      rw[hd,Nat.zero_mul,Nat.add_zero]at hst;have cB:=aj hst;clear hst hd;go_wp2;go_roundw;case rel=>exact⟨k+1,n,by omega,by omega,by go_num,by rw[cB.out];exact Hz.out,Hb.out⟩
      case measure=>simp[intOf];omega
    . have hd':((bd V k:Int)==1)=true:=by simp[hd]
      rw[hd,Nat.one_mul]at hst;have cB:=aj hst;clear hst hd;go_wp2_with fail;refine(Vz u7 y n M (V%2^k*U) U k wr Hz.out hyk.out zo zo).mono ?_;rintro e w4 ⟨⟨z,rfl,hz⟩,hb4⟩;obtain⟨Hz4,mV⟩:=aZ hz hb4;clear hz hb4;go_wp2;go_roundw;case rel=>refine⟨k+1,max n (M+k)+1,by omega,by omega,by go_num,?_,aV Hb.out mV.out⟩;rw[cB.out,Nat.add_mul,Nat.mul_comm (2^k) U];exact Hz4.out
      case measure=>simp[intOf];omega
  . obtain rfl:k=N:=by omega
    have hVV:V%2^k=V:=Nat.mod_eq_of_lt tB.out;rw[hVV]at hz;obtain⟨Hz,Hb⟩:=aZ hz hb;clear hz hb hVV;go_wp2_with fail;refine(xE u7 n (V*U) wr zo Hz.out).mono ?_;rintro e w4 ⟨rfl,hb4⟩;have mV:=aj hb4;clear hb4;go_wp2;go_ret;exact⟨rfl,aV df.out (aV Hb.out mV.out)⟩
theorem aeT (l m:List UInt8):(nt (nv l*nv m)).length<=l.length+m.length:=by refine jR ?_;rw[Nat.pow_add];have h1:=gz l;have h2:=gz m;exact Nat.mul_lt_mul_of_lt_of_le h1 (Nat.le_of_lt h2) zo
theorem aeU (l:List UInt8)(p:Nat):(nt (nv l*2^p)).length<=l.length+p:=by refine jR ?_;rw[Nat.pow_add];have h1:=gz l;have h2:2^p<=256^p:=Nat.pow_le_pow_left zd p;exact Nat.mul_lt_mul_of_lt_of_le h1 h2 (Nat.pow_pos zd)
theorem auN (s:Bool)(l:List UInt8)(t:Bool)(m:List UInt8)(Z:Int)(hZ:iv s l*iv t m=Z)(w:World)(hl:l.length<=524288)(hm:m.length<=524288):
 Calls Tryz.prog 122 #[.agg #[ar s,ai l],.agg #[ar t,ai m]] w λe w'=>e=.returned (.agg #[ar (aI Z),ai (nt Z.natAbs)])/\Bw w w':=by
 have hf:=λW=>Jx (!(s==t)) (nt (nv l*nv m)) Z (by rw[<-hZ,oY];unfold iv;cases s<;>cases t<;>simp[Int.neg_mul,Int.mul_neg]) W (by have:=aeT l m;omega);have fG:=λW=>aui l m W zo zo;obtain⟨Hf,Hm⟩:=aZ hf fG;clear hf fG hZ;generalize Z.natAbs=Y at*;generalize aI Z=v at*;generalize nt (nv l*nv m)=S at*;obtain⟨W,dw,Hb,Hx,Hy,Hr⟩:=vI w 46 [ar s,ai l] 46 [ar t,ai m] 46 [ar false,.string ⟨#[]⟩];obtain⟨x0,x1⟩:=Hx.out.c2;obtain⟨y0,y1⟩:=Hy.out.c2;obtain⟨r0,au,r1,az⟩:=Hr.out.g2;go_enter Tryz.func122,Tryz.ntmps122;go_wp2_with fail;refine cg (λw'=>aH w' (w.heap.size) 0 (ar s)/\aH w' (w.heap.size) 1 (ai l)/\aH w' (w.heap.size+1) 0 (ar t)/\aH w' (w.heap.size+1) 1 (ai m)) (λi=>Nat.blt i 12) [(0,true),(1,true),(2,true),(3,true),(4,true),(5,true),(6,true),(7,true),(8,true),(9,false),(10,true),(11,false),(12,false)] zk zk rfl zk zc ⟨x0,x1,y0,y1⟩ ?_;iterate 9 (refine pT rfl rfl ?_ (by intro w' ⟨q0,q1,q2,q3⟩;go_simp;try with_reducible rfl))
 refine aW rfl rfl (λK hK=>?_);go_simp;with_reducible refine(Hm.out _).mono ?_
 rintro e w1 ⟨rfl,hq⟩;have ag:Bw W w1:=by first|exact hq|exact bo hq
 clear x0 x1 y0 y1 r0 au r1 az;obtain⟨Hx,x0,x1⟩:=bi Hx ag;obtain⟨Hy,y0,y1⟩:=bi Hy ag;obtain⟨Hr,r0,au,r1,az⟩:=bE Hr ag;replace Hb:=aF Hb ag;clear ag;refine hK _ _ (λ_=>⟨x0,x1,y0,y1⟩) ?_;clear hK K
 refine pT rfl rfl ?_
 refine aW rfl rfl (λK hK=>?_);go_simp;with_reducible refine(Hf.out _).mono ?_
 rintro e w2 ⟨rfl,hq⟩;have ag:Bw w1 w2:=by first|exact hq|exact bo hq
 clear x0 x1 y0 y1 r0 au r1 az;obtain⟨Hx,x0,x1⟩:=bi Hx ag;obtain⟨Hy,y0,y1⟩:=bi Hy ag;obtain⟨Hr,r0,au,r1,az⟩:=bE Hr ag;replace Hb:=aF Hb ag;clear ag;refine hK _ _ (λ_=>⟨x0,x1,y0,y1⟩) ?_;clear hK K
 refine aW rfl rfl (λK hK=>?_);go_simp;refine hK _ _ (λh=>absurd h zd) ?_;clear hK K
 clear x0 x1 y0 y1 r0 au r1 az;refine cn (cm w2 (w.heap.size+1+1) 0 [ar v,ai (nt Y)]) cC ?_;intro w9 hs;replace Hx:=kS Hx hs zo;replace Hy:=kS Hy hs zo;replace Hr:=cX Hr hs;obtain⟨x0,x1⟩:=Hx.out.c2;obtain⟨y0,y1⟩:=Hy.out.c2;obtain⟨r0,au,r1,az⟩:=Hr.out.g2;replace Hb:=bS Hb hs ZS;clear hs;simp only[bD];go_wp2;exact bodyPost_ret (v:=.agg #[ar v,ai (nt Y)]) (by simp[results,Tryz.results122,go_sem,r0,r1]) rfl ⟨rfl,di⟩
theorem auG (s:Bool)(l:List UInt8)(p:Nat)(Z:Int)(hZ:iv s l*2^p=Z)(w:World)(hl:l.length<=1048576)(hp:p<=1073741824):
 Calls Tryz.prog 132 #[.agg #[ar s,ai l],ah (p:Int)] w λe w'=>e=.returned (.agg #[ar (aI Z),ai (nt Z.natAbs)])/\Bw w w':=by
 have hf:=λW=>Jx s (nt (nv l*2^p)) Z (by rw[<-hZ,oY];unfold iv;cases s<;>simp[Int.neg_mul]) W (by have:=aeU l p;omega);have hsh:=λW=>auH l p W zo zo;have hp0:(0:Int)<=(p:Int):=by omega
 have hp1:decide ((p:Int)≥0)=true:=by simp
 obtain⟨Hf,Hm⟩:=aZ hf hsh;clear hf hsh hZ;generalize Z.natAbs=Y at*;generalize aI Z=v at*;generalize nt (nv l*2^p)=S at*;obtain⟨W,dw,Hb,Hx,Hr⟩:=mK w 46 [ar s,ai l] 46 [ar false,.string ⟨#[]⟩];obtain⟨x0,x1⟩:=Hx.out.c2;obtain⟨r0,au,r1,az⟩:=Hr.out.g2;go_enter Tryz.func132,Tryz.ntmps132;go_wp2_with fail;refine cg (λw'=>aH w' (w.heap.size) 0 (ar s)/\aH w' (w.heap.size) 1 (ai l)) (λi=>Nat.blt i 8) [(0,true),(1,true),(2,true),(3,true),(4,true),(5,false),(6,true),(7,false),(8,false)] zk zk rfl zk zc ⟨x0,x1⟩ ?_;iterate 5 (refine pT rfl rfl ?_ (by intro w' ⟨q0,q1⟩;go_simp;try with_reducible rfl))
 refine aW rfl rfl (λK hK=>?_);go_simp;with_reducible refine(Hm.out _).mono ?_
 rintro e w1 ⟨rfl,hq⟩;have ag:Bw W w1:=by first|exact hq|exact bo hq
 clear x0 x1 r0 au r1 az;obtain⟨Hx,x0,x1⟩:=bi Hx ag;obtain⟨Hr,r0,au,r1,az⟩:=bE Hr ag;replace Hb:=aF Hb ag;clear ag;refine hK _ _ (λ_=>⟨x0,x1⟩) ?_;clear hK K
 refine pT rfl rfl ?_
 refine aW rfl rfl (λK hK=>?_);go_simp;with_reducible refine(Hf.out _).mono ?_
 rintro e w2 ⟨rfl,hq⟩;have ag:Bw w1 w2:=by first|exact hq|exact bo hq
 clear x0 x1 r0 au r1 az;obtain⟨Hx,x0,x1⟩:=bi Hx ag;obtain⟨Hr,r0,au,r1,az⟩:=bE Hr ag;replace Hb:=aF Hb ag;clear ag;refine hK _ _ (λ_=>⟨x0,x1⟩) ?_;clear hK K
 refine aW rfl rfl (λK hK=>?_);go_simp;refine hK _ _ (λh=>absurd h zd) ?_;clear hK K
 clear x0 x1 r0 au r1 az;refine cn (cm w2 (w.heap.size+1) 0 [ar v,ai (nt Y)]) cC ?_;intro w9 hs;replace Hx:=kS Hx hs zo;replace Hr:=cX Hr hs;obtain⟨x0,x1⟩:=Hx.out.c2;obtain⟨r0,au,r1,az⟩:=Hr.out.g2;replace Hb:=bS Hb hs ZS;clear hs;simp only[bD];go_wp2;exact bodyPost_ret (v:=.agg #[ar v,ai (nt Y)]) (by simp[results,Tryz.results132,go_sem,r0,r1]) rfl ⟨rfl,di⟩
end Go.Proofs.YtnjfebkelecgaaaGreatDoor
