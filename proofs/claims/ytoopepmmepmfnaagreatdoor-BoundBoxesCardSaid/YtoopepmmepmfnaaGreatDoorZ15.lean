/- Package ogeeref01: Div. -/
import Derived.Test.YtoopepmmepmfnaaGreatDoorZ11
import Derived.Laws.AppendOwnNone
set_option linter.unusedVariables false
set_option linter.unusedSimpArgs false
set_option maxRecDepth 100000
set_option maxHeartbeats 16000000
namespace Go.Proofs.YtoopepmmepmfnaaGreatDoor
open Go.RowKit
attribute [local go_sem ↓] Go.wp_at_zero Go.wp_at_succ
theorem aeA (r c:Nat)(hc:c<=1):bd (2*r+c) 0=c/\∀j,bd (2*r+c) (j+1)=bd r j:=by unfold bd;refine⟨by simp;omega,λj=>?_⟩;rw[Nat.pow_succ',<-Nat.div_div_eq_div_mul,show(2*r+c)/2=r by omega]
theorem ZO (n r c:Nat)(hc:c<=1):[.int .u8 (c:Int)]++cN n (bd r)=cN (1+n) (bd (2*r+c)):=by
 obtain⟨h0,h1⟩:=aeA r c hc;apply List.ext_getElem?;intro j;cases j with
 |zero=>rw[kJ _ _ _ zo,h0];rfl
 | succ j=>
   rw[List.getElem?_append_right zm];simp only[List.length_singleton,Nat.add_sub_cancel];by_cases hj:j<n
   . rw[kJ _ _ _ hj,kJ _ _ _ zo,h1]
   . rw[List.getElem?_eq_none (by rw[Du];omega),List.getElem?_eq_none (by rw[Du];omega)]
theorem akH (W:World)(base:Nat)(e:TypeId)(x:Value)(hb:base<=W.heap.size):(W.alloc (.cells #[x] e)).ownsRow base e 1 (.slice (some ⟨W.heap.size,0,none⟩) 1 1) 1 [x]:=
 ⟨rfl,.inr ⟨W.heap.size,1,#[x],rfl,hb,heap_alloc_new W _,Nat.le_refl _,by simp[maxLen],rfl,rfl⟩⟩
theorem SN (S u:Nat):(0<=cJ S u)↔u<=S:=by
 unfold cJ;by_cases h1:S<u
 . rw[if_pos h1];omega
 . rw[if_neg h1];by_cases h2:u<S
   . rw[if_pos h2];omega
   . rw[if_neg h2];omega
theorem Bv.cells {w:World}{x:Value}{n v:Nat}(h:Bv w x n v)(hn:0<n):∃b o cap,x=.slice (some ⟨b,o,none⟩) n cap/\∀j,j<n->w.cell? ⟨b,o+j,none⟩=some (.int .u8 (bd v j:Int)):=by
 rcases h.2 with⟨_,h2⟩ |⟨b,o,cap,h1,_,h3⟩
 . omega
 . exact⟨b,o,cap,h1,h3⟩
theorem Bv.arB {w:World}{x:Value}{n v:Nat}(h:Bv w x n v){a:Addr}(hne:∀b o n c,x=.slice (some ⟨b,o,none⟩) n c->b≠a.block)(y:Value):Bv (w.setCell a y) x n v:=by
 refine⟨h.1,?_⟩;rcases h.2 with h|⟨b,o,cap,e,h1,hc⟩
 . exact .inl h
 . exact .inr ⟨b,o,cap,e,h1,λj hj=>fp (hne b o n cap e) (hc j hj)⟩
theorem ann {ops:Array Oper}{rest:List Oper}{o:Oper}{a:Act}{Q:Exit->Act->World->Prop}(hgd:o.guard=none)(s x:Operand)
 (ho:o.op=.call {callee:=.builtin .append,args:=#[s,x],argTypes:=#[94,94]}) (W:World) (z:Value) (n r c:Nat) (hc:c<=1) (hn:n<=1099511627776) (hz:Bv W z n r)
 (hs:a.eval s=.slice (some ⟨W.heap.size,0,none⟩) 1 1) (hx:a.eval x=z)
 (h:∀v' w',Bv w' v' (1+n) (2*r+c)->Ba v' W.heap.size->Bw W w'->wpList Tryz.prog ops Q rest (a.put o.dst v') w'):wpList Tryz.prog ops Q (o::rest) a (W.alloc (.cells #[.int .u8 (c:Int)] 5)):=by
 obtain⟨i0,hi,hz0,hz1,hz2⟩:=info_parts Tryz.arE;have hlt:2*r+c<2^(1+n):=by have:=hz.1;rw[Nat.add_comm 1 n,Nat.pow_succ];omega
 have hone:=akH W W.heap.size 5 (.int .u8 (c:Int)) (Nat.le_refl _);have hb0:Bw W (W.alloc (.cells #[.int .u8 (c:Int)] 5)):=zl;rcases hz.2 with⟨rfl,rfl⟩ |⟨b,oo,cap,rfl,h1,hcs⟩
 . refine wpList_append_own_none hgd s x 94 ho W.heap.size 5 i0 1 Tryz.underlying94 hi _ 1 _ hs hone hx ?_;refine h _ _ (Bv.arH (base:=W.heap.size) (e:=5) ?_ hlt) (λb o n c e=>by cases e;exact Nat.le_refl _) hb0;rw[<-ZO 0 r c hc];exact hone
 . refine wpList_append_own _ hgd s x 94 ho W.heap.size 5 i0 (.int .u8 0) 1 1 Tryz.underlying94 hi hz0 hz1 hz2 rfl zd _ 1 _ hs hone ⟨b,oo,none⟩ n cap (cN n (bd r)) hx (by rw[Du,Nat.mul_one]) ?_ ?_ zx zo zm ?_
   . intro j u hj;have nj:j<n:=by
      rcases Nat.lt_or_ge j n with h|h
      . exact h
      . rw[List.getElem?_eq_none (by rw[Du];exact h)]at hj;cases hj
     rw[kJ _ _ _ nj]at hj;cases hj
     have e2:((⟨b,oo,none⟩:Addr).add j)=⟨b,oo+j,none⟩:=by simp[Addr.add]
     rw[e2];exact aJ (hcs j nj)
   . intro u hu;unfold cN at hu;rw[List.mem_map]at hu;obtain⟨j,_,rfl⟩:=hu;rfl
   . intro v' w' ho' hg' _;refine h _ _ (Bv.arH (base:=W.heap.size) (e:=5) ?_ hlt) (λb o n c e=>eI ho' b (by rw[e];rfl)) (hb0.grown hg' zm (λj e=>eI hone j e));rw[<-ZO n r c hc];exact ho'
theorem alq (l m:List UInt8)(w:World)(hl:l.length<=68719476736)(hm:m.length<=68719476736)(h0:0<nv m):
 Calls Tryz.prog 167 #[.string (bs l),.string (bs m)] w λe w'=>e=.returned (.tuple #[.string (bs (nt (nv l/nv m))),.string (bs (nt (nv l%nv m))),.bool true])/\Bw w w':=by
 obtain⟨i0,hi,hz0,hz1,hz2⟩:=info_parts Tryz.arE;have hL:=Nat.le_trans (fH (mK l)) (show 8*l.length<=549755813888 by omega);have hU:=Nat.le_trans (fH (mK m)) (show 8*m.length<=549755813888 by omega);have hb1:=nO l w hl;have hb2:=λW=>nO m W hm;generalize nv l=v at*;generalize nv m=u at*;have hUp:=Bj h0;have Uc:=nZ v;generalize hLe:bA v=L at*;generalize Us:bA u=U at*;obtain⟨H1,H2,rc,Qu⟩:=cQ hb1 hb2 Uc Us;clear hb1 hb2 Uc hLe Us;have hmk:=tK (L:Int) L rfl zo;have hU0:((U:Int)==0)=false:=by simp;omega
 go_enter Tryz.func167,Tryz.ntmps167;go_wp2_with fail;refine H1.out.mono ?_;rintro e w1 ⟨⟨X,rfl,hX⟩,UW⟩;go_wp2_with fail;refine(H2.out w1).mono ?_;rintro e w2 ⟨⟨Y,rfl,hY⟩,yM⟩;obtain⟨HX,HY,Hw⟩:=cG (hX.below yM) hY (aH UW yM);clear hX hY UW yM;obtain⟨ax,cx,rfl⟩:=HX.out.len;obtain⟨ay,cy,rfl⟩:=HY.out.len;go_wp2_with fail;go_loopw[10,11] (λz i wr=>∃k:Nat,k<=L/\i=.int .i64 ((k:Int)-1)/\Bv wr z (bA (v/2^k%u)) (v/2^k%u)/\Ba z (w2.heap.size+1)/\aj wr w2.heap.size 5 (cN L (λj=>if k<=j then bd (v/u) j else 0))/\Bw w2 wr) (λ_ i _=>(intOf i+1).toNat);case atStart=>
  refine⟨L,Nat.le_refl _,by go_num,?_,(λb o n c e=>by cases e),?_,zl⟩
  . rw[Nat.div_eq_of_lt rc.out,Nat.zero_mod];exact⟨by simp[bA],.inl ⟨rfl,rfl⟩⟩
  . have e:cN L (λj=>if L<=j then bd (v/u) j else 0)=cN L λ_=>0:=lM λj hj=>by rw[if_neg zo]
    rw[e];exact aj.new _ _ _
 case round=>
  obtain⟨k,hk,rfl,hz,hzl,hB,hb⟩:=hrel;by_cases ft:0<k
  . obtain⟨j,rfl⟩:∃j,k=j+1:=⟨k-1,by omega⟩;obtain⟨r,c,q,e1,e2,e3,e4,e5⟩:=ai9 v u j h0;have e6:=ai8 v u j;have hr:r<u:=by rw[<-e1];exact Nat.mod_lt _ h0
    have hc1:c<=1:=by rw[<-e2];exact ry v j
    rw[e1]at hz;rw[e5]at e6;obtain⟨S,hS⟩:=aB (2*r+c);rw[hS]at e4 e6;have jy:bA r<=549755813888:=Nat.le_trans (Sv (Nat.le_of_lt hr)) (by rw[Qu.out];omega);have hSb:bA S<=549755813889:=by rw[<-hS];exact Nat.le_trans (aeH r c hc1) zo
    obtain⟨bx,ox,cx',mE,jv⟩:=HX.out.cells zo;obtain⟨rfl,rfl⟩:ax=some ⟨bx,ox,none⟩/\cx=cx':=by simp only[Value.slice.injEq]at mE;exact⟨mE.1,mE.2.2⟩
    have hcell:wr.cell? ⟨bx,ox+j,none⟩=some (.int .u8 (c:Int)):=by rw[<-e2];exact cell_later hb (jv j zo)
    have bB:=wY L cx j (j:Int) (rfl:(some ⟨bx,ox,none⟩:Option Addr)=_) zo rfl;rw[Nat.mul_one]at bB;obtain⟨Hz,HB,Hb,DZ,Ea,HS⟩:=iD hz hB hb e4 e6 hS;have hs0:=hb.size;have CG:=hB.lt;have hj:((j+1:Nat):Int)-1=(j:Int):=by omega
    rw[hj];clear hz hB hb e1 e2 e3 e4 e5 e6 hS mE jv hj ft;go_wp2_with (first| (at_builtin;refine ann rfl _ _ rfl _ u10 (bA r) r c hc1 zo Hz.out rfl rfl ?_;intro v' w3 hv' VE hb3));rw[HS.out]at hv';obtain⟨Hv',Hl3,dG⟩:=cG hv' VE hb3;have hs3:=hb3.size;clear hv' VE hb3 hzl hcell bB;refine(OZ v' (1+bA r) S w3 zo Hv'.out).mono ?_;rintro e w' ⟨⟨z,rfl,hz,hzl⟩,rfl⟩;obtain⟨ey,Hzl⟩:=aI hz (hzl _ Hl3.out);clear hz hzl;obtain⟨Qx,jp⟩:=aI (HY.out.below (aH Hb.out dG.out)) (HB.out.below dG.out);go_wp2_with fail;refine(YB z _ (bA S) U S u w3 ey.out Qx.out zo zo).mono ?_;rintro e w' ⟨rfl,rfl⟩;by_cases hge:u<=S
    . have hc0:0<=cJ S u:=(SN S u).2 hge;generalize cJ S u=ci at*;rw[if_pos hge]at DZ Ea;go_wp2_with fail;refine(YF z _ (bA S) U S u w3 ey.out Qx.out zo zo hge).mono ?_;rintro e w4 ⟨⟨t,rfl,ht,htl⟩,hb4⟩;obtain⟨Ht,yg,jZ⟩:=cG ht htl hb4;clear ht htl hb4;go_wp2_with fail;refine(OZ t (bA S) (S-u) w4 zo Ht.out).mono ?_;rintro e w' ⟨⟨t2,rfl,ht2,WC⟩,rfl⟩;obtain⟨En,RI⟩:=aI ht2 (WC _ yg.out);clear ht2 WC;have hB4:=jp.out.below jZ.out;have q0:w4.cell? ⟨w2.heap.size,j,none⟩=some (.int .u8 0):=by rw[hB4.cell,kJ _ _ _ zo,if_neg zo];rfl
      have qf:w4.frozen? ⟨w2.heap.size,j,none⟩=false:=hB4.free _;have jg:=wY L L j (j:Int) (rfl:(some ⟨w2.heap.size,0,none⟩:Option Addr)=_) zo rfl;rw[Nat.mul_one,Nat.zero_add]at jg;have Me:=hB4.set j (.int .u8 ((1:Nat):Int))
      rw[zS,lM (g:=λi=>if j<=i then bd (v/u) i else 0) λi hi=>by
       by_cases e:i=j
       . subst e;rw[if_pos rfl,if_pos (Nat.le_refl _),Ea.out];omega
       . rw[if_neg e];by_cases e2:j+1<=i
         . rw[if_pos e2,if_pos zo]
         . rw[if_neg e2,if_neg zo]]at Me
      have kM:=af Me;clear hB4 Me;go_wp2;go_roundw;case rel=>
       refine⟨j,by omega,by go_num,?_,?_,kM.out,?_⟩
       . rw[DZ.out];exact En.out.arB (λb o n c e=>by have:=RI.out b o n c e;dsimp only;omega) _
       . exact λb o n c e=>by have:=RI.out b o n c e;omega
       . exact(aH (aH Hb.out dG.out) jZ.out).setCell (Nat.le_refl _) _
      case measure=>simp[intOf]
    . have hc0:¬0<=cJ S u:=fun h=>hge ((SN S u).1 h);generalize cJ S u=ci at*;rw[if_neg hge]at DZ Ea;have kM:Hid (aj w3 w2.heap.size 5 (cN L (fun i=>if j<=i then bd (v/u) i else 0))):=by
       show aj _ _ _ _
       rw[lM (g:=λi=>if j+1<=i then bd (v/u) i else 0) λi hi=>by
        by_cases e:i=j
        . subst e;rw[if_pos (Nat.le_refl _),if_neg zo,Ea.out];omega
        . by_cases e2:j+1<=i
          . rw[if_pos e2,if_pos zo]
          . rw[if_neg e2,if_neg zo]]
       exact jp.out
      go_wp2;go_roundw;case rel=>exact⟨j,by omega,by go_num,by rw[DZ.out];exact ey.out,(λb o n c e=>by have:=Hzl.out b o n c e;omega),kM.out,aH Hb.out dG.out⟩
      case measure=>simp[intOf]
  . obtain rfl:k=0:=by omega
    have hq:v/u<2^L:=Nat.lt_of_le_of_lt (Nat.div_le_self v u) rc.out;rw[lM (g:=bd (v/u)) λj hj=>by rw[if_pos (Nat.zero_le _)]]at hB;have Hq:=af (Bv.arA hB hq);have e0:v/2^0%u=v%u:=by simp
    rw[e0]at hz;have jy:bA (v%u)<=549755813888:=Nat.le_trans (Sv (Nat.le_of_lt (Nat.mod_lt v h0))) (by rw[Qu.out];omega);obtain⟨Hz,Hb⟩:=aI hz hb;clear hB hq hz hb e0 hzl;go_wp2_with fail;refine(tW _ L (v/u) wr zo Hq.out).mono ?_;rintro e w3 ⟨rfl,hb3⟩;go_wp2_with fail;refine(tW u10 (bA (v%u)) (v%u) w3 zo (Hz.out.below hb3)).mono ?_;rintro e w4 ⟨rfl,hb4⟩;have kN:=af (aH Hw.out (aH Hb.out (aH hb3 hb4)));clear hb3 hb4;go_wp2;go_ret3
    exact⟨rfl,kN.out⟩
theorem alu (l:List UInt8)(w:World)(hl:l.length<=68719476736):
 Calls Tryz.prog 82 #[.agg #[.bool false,.string (bs l)]] w λe w'=>e=.returned (.agg #[.bool (false),.string (bs (nt (nv l)))])/\Bw w w':=by
 have hb:=Nat.le_trans (fH (mK l)) (show 8*l.length<=1099511627776 by omega);have h1:=nO l;obtain⟨v,hv⟩:=aB (nv l);rw[hv]at hb⊢;simp only[hv]at h1;obtain⟨m,hm⟩:=aB (nt v);have he:=sL m;obtain⟨t,ht⟩:=aB m.isEmpty;obtain⟨H1,Hm⟩:=aI h1 hm;clear h1 hv;rw[hm];rw[ht]at he;clear hm ht;obtain⟨W,bU,Hb,Hx,Hr⟩:=fw w 32 [.bool false,.string (bs l)] 32 [.bool false,.string ⟨#[]⟩];obtain⟨x0,x1⟩:=Hx.out.c2;obtain⟨r0,ag,r1,ah⟩:=Hr.out.g2;go_enter Tryz.func82,Tryz.ntmps82;go_wp2_with fail;refine(H1.out _ zo).mono ?_;rintro e w1 ⟨⟨y,rfl,hy⟩,ae⟩;clear x0 x1 r0 ag r1 ah;replace Hx:=kB Hx ae;replace Hr:=kB Hr ae;obtain⟨x0,x1⟩:=Hx.out.c2;obtain⟨r0,ag,r1,ah⟩:=Hr.out.g2;replace Hb:=ak Hb ae;clear ae;have Hy:=af hy;clear hy;go_wp2_with fail;refine(tW y _ _ _ hb Hy.out).mono ?_;rintro e w2 ⟨rfl,ae⟩;clear x0 x1 r0 ag r1 ah;replace Hx:=kB Hx ae;replace Hr:=kB Hr ae;obtain⟨x0,x1⟩:=Hx.out.c2;obtain⟨r0,ag,r1,ah⟩:=Hr.out.g2;replace Hb:=ak Hb ae;clear ae;rw[Hm.out];go_wp2;clear x0 x1 r0 ag r1 ah;refine dx (aY w2 (w.heap.size+1) 0 [.bool (false),.string (bs m)]) bg ?_;intro w9 hs;replace Hx:=kS Hx hs zo;replace Hr:=bE Hr hs;obtain⟨x0,x1⟩:=Hx.out.c2;obtain⟨r0,ag,r1,ah⟩:=Hr.out.g2;replace Hb:=bS Hb hs ZS;clear hs;refine bodyPost_ret (v:=.agg #[.bool (false),.string (bs m)]) (by simp[results,Tryz.results82,go_sem,r0,r1]) rfl ⟨rfl,Hb.out⟩
theorem alv (l:List UInt8)(w:World)(hl:l.length<=68719476736):
 Calls Tryz.prog 82 #[.agg #[.bool true,.string (bs l)]] w λe w'=>e=.returned (.agg #[.bool (!(nt (nv l)).isEmpty),.string (bs (nt (nv l)))])/\Bw w w':=by
 have hb:=Nat.le_trans (fH (mK l)) (show 8*l.length<=1099511627776 by omega);have h1:=nO l;obtain⟨v,hv⟩:=aB (nv l);rw[hv]at hb⊢;simp only[hv]at h1;obtain⟨m,hm⟩:=aB (nt v);have he:=sL m;obtain⟨t,ht⟩:=aB m.isEmpty;obtain⟨H1,Hm⟩:=aI h1 hm;clear h1 hv;rw[hm,ht];rw[ht]at he;clear hm ht;obtain⟨W,bU,Hb,Hx,Hr⟩:=fw w 32 [.bool true,.string (bs l)] 32 [.bool false,.string ⟨#[]⟩];obtain⟨x0,x1⟩:=Hx.out.c2;obtain⟨r0,ag,r1,ah⟩:=Hr.out.g2;go_enter Tryz.func82,Tryz.ntmps82;go_wp2_with fail;refine(H1.out _ zo).mono ?_;rintro e w1 ⟨⟨y,rfl,hy⟩,ae⟩;clear x0 x1 r0 ag r1 ah;replace Hx:=kB Hx ae;replace Hr:=kB Hr ae;obtain⟨x0,x1⟩:=Hx.out.c2;obtain⟨r0,ag,r1,ah⟩:=Hr.out.g2;replace Hb:=ak Hb ae;clear ae;have Hy:=af hy;clear hy;go_wp2_with fail;refine(tW y _ _ _ hb Hy.out).mono ?_;rintro e w2 ⟨rfl,ae⟩;clear x0 x1 r0 ag r1 ah;replace Hx:=kB Hx ae;replace Hr:=kB Hr ae;obtain⟨x0,x1⟩:=Hx.out.c2;obtain⟨r0,ag,r1,ah⟩:=Hr.out.g2;replace Hb:=ak Hb ae;clear ae;rw[Hm.out];go_wp2;clear x0 x1 r0 ag r1 ah;refine dx (aY w2 (w.heap.size+1) 0 [.bool (!t),.string (bs m)]) bg ?_;intro w9 hs;replace Hx:=kS Hx hs zo;replace Hr:=bE Hr hs;obtain⟨x0,x1⟩:=Hx.out.c2;obtain⟨r0,ag,r1,ah⟩:=Hr.out.g2;replace Hb:=bS Hb hs ZS;clear hs;refine bodyPost_ret (v:=.agg #[.bool (!t),.string (bs m)]) (by simp[results,Tryz.results82,go_sem,r0,r1]) rfl ⟨rfl,Hb.out⟩
theorem Di (s:Bool)(l:List UInt8)(w:World)(hl:l.length<=68719476736):
 Calls Tryz.prog 82 #[.agg #[.bool s,.string (bs l)]] w λe w'=>e=.returned (.agg #[.bool (s&& !(nt (nv l)).isEmpty),.string (bs (nt (nv l)))])/\Bw w w':=by
 cases s
 . exact alu l w hl
 . exact alv l w hl
theorem Dj (n:Nat)(w:World)(hn:n<=9223372036854775807):
 Calls Tryz.prog 31 #[.int .i64 (n:Int)] w λe w'=>e=.returned (.agg #[.bool false,.string (bs (nt n))])/\Bw w w':=by
 have h1:=λW=>alF n W (by rw[iL];omega);have H1:=af h1;clear h1;have hw:IntKind.u64.wrap (n:Int)=(n:Int):=by rw[IntKind.wrap_u64];omega
 obtain⟨m,hm⟩:=aB (nt n);rw[hm];have Hm:=af hm;clear hm;obtain⟨W,bU,Hb,Hr⟩:=gL w 32 [.bool false,.string ⟨#[]⟩];obtain⟨r0,ag,r1,ah⟩:=Hr.out.g2;go_enter Tryz.func31,Tryz.ntmps31;go_wp2_with fail;refine(H1.out _).mono ?_;rintro e w1 ⟨rfl,ae⟩;clear r0 ag r1 ah;replace Hr:=kB Hr ae;obtain⟨r0,ag,r1,ah⟩:=Hr.out.g2;replace Hb:=ak Hb ae;clear ae;rw[Hm.out];go_wp2;clear r0 ag r1 ah;refine dx (aY w1 (w.heap.size) 0 [.bool false,.string (bs m)]) bg ?_;intro w9 hs;replace Hr:=bE Hr hs;obtain⟨r0,ag,r1,ah⟩:=Hr.out.g2;replace Hb:=bS Hb hs ZS;clear hs;refine bodyPost_ret (v:=.agg #[.bool false,.string (bs m)]) (by simp[results,Tryz.results31,go_sem,r0,r1]) rfl ⟨rfl,Hb.out⟩
theorem YE (l:List UInt8)(w:World)(hl:l.length<=68719476736):
 Calls Tryz.prog 89 #[.string (bs l)] w λe w'=>e=.returned (.int .i64 (bA (nv l):Int))/\Bw w w':=by
 go_enter Tryz.func89,Tryz.ntmps89;go_wp2_with fail;refine(nO l w hl).mono ?_;rintro e w1 ⟨⟨y,rfl,hy⟩,ae⟩;obtain⟨a,cap,rfl⟩:=hy.len;have Hb:=af ae;clear hy ae;go_wp2;go_ret;exact⟨rfl,Hb.out⟩
theorem YI (s:Bool)(l:List UInt8)(w:World)(hl:l.length<=68719476736)(h0:nv l=0):
 Calls Tryz.prog 48 #[.agg #[.bool s,.string (bs l)]] w λe w'=>e=.returned (.int .i64 0)/\Bw w w':=by
 have h1:=YE l;rw[h0]at h1;have H1:=af h1;clear h1 h0;obtain⟨W,bU,Hb,Hx⟩:=gL w 32 [.bool s,.string (bs l)];obtain⟨x0,x1⟩:=Hx.out.c2;go_enter Tryz.func48,Tryz.ntmps48;go_wp2_with fail;refine(H1.out _ hl).mono ?_;rintro e w1 ⟨rfl,ae⟩;clear x0 x1;replace Hx:=kB Hx ae;obtain⟨x0,x1⟩:=Hx.out.c2;replace Hb:=ak Hb ae;clear ae;rw[aeI];go_wp2;go_ret;exact⟨rfl,Hb.out⟩
theorem alx (s:Bool)(n:Nat)(w:World)(h0:0<n)(hl:(nt (2*n)).length<=68719476736):
 Calls Tryz.prog 118 #[.agg #[.bool s,.string (bs (nt (2*n)))],.agg #[.bool false,.string (bs (nt 2))]] w λe w'=>e=.returned (.tuple #[.agg #[.bool s,.string (bs (nt n))],.agg #[.bool false,.string (bs [])],.bool true])/\Bw w w':=by
 have hd:=λW=>alq (nt (2*n)) (nt 2) W hl zd (by rw[ir];decide);simp only[ir]at hd;have e1:2*n/2=n:=by omega
 have e2:2*n%2=0:=by omega
 rw[e1,e2,xn]at hd;have wK:(nt n).length<=68719476736:=Nat.le_trans (iq (Nat.lt_of_le_of_lt (show n<=2*n by omega) (aji (2*n)))) hl;have hf:=λW=>Di s (nt n) W wK;have hg:=λW=>Di s [] W zd;have hs:=λW=>YI false [] W zd rfl;simp only[ir,vt,xn,List.isEmpty_nil,Bool.not_true,Bool.and_false]at hf hg;have e3:(nt n).isEmpty=false:=by
  have:=Ic h0;cases h:nt n with
  |nil=>exact absurd h this
  |cons a b=>rfl
 rw[e3]at hf;simp only[Bool.not_false,Bool.and_true]at hf;generalize nt (2*n)=L at*;generalize nt n=M at*;generalize nt 2=T at*;obtain⟨Hd,Hf,Hg,Hs⟩:=cQ hd hf hg hs;clear hd hf hg hs e1 e2 e3 hl wK;have hne:(s !=false)=s:=by cases s<;>rfl
 obtain⟨W,bU,Hb,Hx,Hy,Hp,Hq⟩:=CX w 32 [.bool s,.string (bs L)] 32 [.bool false,.string (bs T)] 32 [.bool false,.string ⟨#[]⟩] 32 [.bool false,.string ⟨#[]⟩];obtain⟨x0,x1⟩:=Hx.out.c2;obtain⟨y0,y1⟩:=Hy.out.c2;obtain⟨p0,kj,p1,ko⟩:=Hp.out.g2;obtain⟨q0,bZ,q1,cd⟩:=Hq.out.g2;go_enter Tryz.func118,Tryz.ntmps118;go_wp2_with fail;refine(Hd.out _).mono ?_;rintro e w1 ⟨rfl,ae⟩;clear x0 x1 y0 y1 p0 kj p1 ko q0 bZ q1 cd;replace Hx:=kB Hx ae;replace Hy:=kB Hy ae;replace Hp:=kB Hp ae;replace Hq:=kB Hq ae;obtain⟨x0,x1⟩:=Hx.out.c2;obtain⟨y0,y1⟩:=Hy.out.c2;obtain⟨p0,kj,p1,ko⟩:=Hp.out.g2;obtain⟨q0,bZ,q1,cd⟩:=Hq.out.g2;replace Hb:=ak Hb ae;clear ae;go_wp2_with fail;refine(Hf.out _).mono ?_;rintro e w2 ⟨rfl,ae⟩;clear x0 x1 y0 y1 p0 kj p1 ko q0 bZ q1 cd;replace Hx:=kB Hx ae;replace Hy:=kB Hy ae;replace Hp:=kB Hp ae;replace Hq:=kB Hq ae;obtain⟨x0,x1⟩:=Hx.out.c2;obtain⟨y0,y1⟩:=Hy.out.c2;obtain⟨p0,kj,p1,ko⟩:=Hp.out.g2;obtain⟨q0,bZ,q1,cd⟩:=Hq.out.g2;replace Hb:=ak Hb ae;clear ae;have XB:=Hx.out.lt;have aqE:=Hy.out.lt;have aqf:=Hp.out.lt;have aqj:=Hq.out.lt;obtain⟨W2,lu,ae,Hu⟩:=cf w2 32 [.bool s,.string (bs M)];clear x0 x1;replace Hx:=kB Hx ae;clear y0 y1;replace Hy:=kB Hy ae;clear p0 kj p1 ko;replace Hp:=kB Hp ae;clear q0 bZ q1 cd;replace Hq:=kB Hq ae;obtain⟨x0,x1⟩:=Hx.out.c2;obtain⟨y0,y1⟩:=Hy.out.c2;obtain⟨p0,kj,p1,ko⟩:=Hp.out.g2;obtain⟨q0,bZ,q1,cd⟩:=Hq.out.g2;obtain⟨u0,u1⟩:=Hu.out.c2;replace Hb:=ak Hb ae;clear ae;go_wp2_with fail;refine(Hg.out _).mono ?_;rintro e w3 ⟨rfl,ae⟩;clear x0 x1 y0 y1 p0 kj p1 ko q0 bZ q1 cd u0 u1;replace Hx:=kB Hx ae;replace Hy:=kB Hy ae;replace Hp:=kB Hp ae;replace Hq:=kB Hq ae;replace Hu:=kB Hu ae;obtain⟨x0,x1⟩:=Hx.out.c2;obtain⟨y0,y1⟩:=Hy.out.c2;obtain⟨p0,kj,p1,ko⟩:=Hp.out.g2;obtain⟨q0,bZ,q1,cd⟩:=Hq.out.g2;obtain⟨u0,u1⟩:=Hu.out.c2;replace Hb:=ak Hb ae;clear ae;have ajy:=Hx.out.lt;have ajD:=Hy.out.lt;have ajr:=Hp.out.lt;have aqk:=Hq.out.lt;have aqz:=Hu.out.lt;obtain⟨W3,Mx,ae,Hv⟩:=cf w3 32 [.bool false,.string (bs [])];clear x0 x1;replace Hx:=kB Hx ae;clear y0 y1;replace Hy:=kB Hy ae;clear p0 kj p1 ko;replace Hp:=kB Hp ae;clear q0 bZ q1 cd;replace Hq:=kB Hq ae;clear u0 u1;replace Hu:=kB Hu ae;obtain⟨x0,x1⟩:=Hx.out.c2;obtain⟨y0,y1⟩:=Hy.out.c2;obtain⟨p0,kj,p1,ko⟩:=Hp.out.g2;obtain⟨q0,bZ,q1,cd⟩:=Hq.out.g2;obtain⟨u0,u1⟩:=Hu.out.c2;obtain⟨v0,v1⟩:=Hv.out.c2;replace Hb:=ak Hb ae;clear ae;go_wp2_with fail;refine(Hs.out _).mono ?_;rintro e w4 ⟨rfl,ae⟩;clear x0 x1 y0 y1 p0 kj p1 ko q0 bZ q1 cd u0 u1 v0 v1;replace Hx:=kB Hx ae;replace Hy:=kB Hy ae;replace Hp:=kB Hp ae;replace Hq:=kB Hq ae;replace Hu:=kB Hu ae;replace Hv:=kB Hv ae;obtain⟨x0,x1⟩:=Hx.out.c2;obtain⟨y0,y1⟩:=Hy.out.c2;obtain⟨p0,kj,p1,ko⟩:=Hp.out.g2;obtain⟨q0,bZ,q1,cd⟩:=Hq.out.g2;obtain⟨u0,u1⟩:=Hu.out.c2;obtain⟨v0,v1⟩:=Hv.out.c2;replace Hb:=ak Hb ae;clear ae;go_wp2_with fail;have lp:=Hp.out.lt;have lq:=Hq.out.lt;refine bW (λw'=>w'.cell? ⟨w2.heap.size,0,none⟩=some (.bool s)/\w'.cell? ⟨w2.heap.size,1,none⟩=some (.string (bs M))/\w'.cell? ⟨w3.heap.size,0,none⟩=some (.bool false)/\w'.cell? ⟨w3.heap.size,1,none⟩=some (.string (bs []))) (λi=>Nat.blt i 3) [(0,true),(1,true),(2,false),(3,false),(4,false)] zk zk rfl zk zc ⟨u0,u1,v0,v1⟩ ?_;iterate 2 (refine pT rfl rfl ?_ (by intro w' ⟨q0,q1,q2,q3⟩;go_simp;try with_reducible rfl);try simp only[UU])
 refine aC rfl rfl (λK hK=>?_);go_simp;refine hK _ _ (λ_=>⟨(aG zf (aG zf u0)),(aG zf (aG zf u1)),(aG zf (aG zf v0)),(aG zf (aG zf v1))⟩) ?_;clear hK K;try simp only[UU]
 clear x0 x1 y0 y1 p0 kj p1 ko q0 bZ q1 cd u0 u1 v0 v1;refine bI (aY w4 (w.heap.size+1+1) 0 [.bool s,.string (bs M)]) bg ?_;intro w5 hs;replace Hx:=kS Hx hs zo;replace Hy:=kS Hy hs zo;replace Hp:=bE Hp hs;replace Hq:=kS Hq hs zo;replace Hu:=kS Hu hs zo;replace Hv:=kS Hv hs zo;obtain⟨x0,x1⟩:=Hx.out.c2;obtain⟨y0,y1⟩:=Hy.out.c2;obtain⟨p0,kj,p1,ko⟩:=Hp.out.g2;obtain⟨q0,bZ,q1,cd⟩:=Hq.out.g2;obtain⟨u0,u1⟩:=Hu.out.c2;obtain⟨v0,v1⟩:=Hv.out.c2;replace Hb:=bS Hb hs ZS;clear hs;refine aC rfl rfl (λK hK=>?_);go_simp;refine hK _ _ (λh=>absurd h zd) ?_;clear hK K;try simp only[UU]
 clear x0 x1 y0 y1 p0 kj p1 ko q0 bZ q1 cd u0 u1 v0 v1;refine bI (aY w5 (w.heap.size+1+1+1) 0 [.bool false,.string (bs [])]) bg ?_;intro w6 hs;replace Hx:=kS Hx hs zo;replace Hy:=kS Hy hs zo;replace Hp:=kS Hp hs zo;replace Hq:=bE Hq hs;replace Hu:=kS Hu hs zo;replace Hv:=kS Hv hs zo;obtain⟨x0,x1⟩:=Hx.out.c2;obtain⟨y0,y1⟩:=Hy.out.c2;obtain⟨p0,kj,p1,ko⟩:=Hp.out.g2;obtain⟨q0,bZ,q1,cd⟩:=Hq.out.g2;obtain⟨u0,u1⟩:=Hu.out.c2;obtain⟨v0,v1⟩:=Hv.out.c2;replace Hb:=bS Hb hs ZS;clear hs;refine aC rfl rfl (λK hK=>?_);go_simp;refine hK _ _ (λh=>absurd h zd) ?_;clear hK K;try simp only[UU]
 simp only[aV];go_wp2;refine bodyPost_ret (v:=.tuple #[.agg #[.bool s,.string (bs M)],.agg #[.bool false,.string (bs [])],.bool true]) (by simp[results,Tryz.results118,go_sem,p0,p1,q0,q1]) rfl ⟨rfl,Hb.out⟩
def cc (v u k:Nat):Nat:=(v%2^k+u%2^k)/2^k
theorem ae6 (v u:Nat):cc v u 0=0:=by simp[cc,Nat.mod_one]
theorem ae4 (v u k:Nat):cc v u k<=1:=by unfold cc;have h:0<2^k:=Nat.pow_pos zd;have h1:=Nat.mod_lt v h;have h2:=Nat.mod_lt u h;rw[<-Nat.lt_succ_iff,Nat.div_lt_iff_lt_mul h];omega
theorem ae5 (v u k:Nat):bd (v+u) k=(bd v k+bd u k+cc v u k)%2/\cc v u (k+1)=(bd v k+bd u k+cc v u k)/2:=by
 have hM:0<2^k:=Nat.pow_pos zd;have ha:=Nat.mod_lt v hM;have hb:=Nat.mod_lt u hM;have e1:v=2^k* (v/2^k)+v%2^k:=(Nat.div_add_mod v _).symm;have e2:u=2^k* (u/2^k)+u%2^k:=(Nat.div_add_mod u _).symm;have es:(v+u)/2^k=v/2^k+u/2^k+cc v u k:=by
  unfold cc;have:v+u=(v%2^k+u%2^k)+2^k* (v/2^k+u/2^k):=by rw[Nat.mul_add];omega
  rw[this,Nat.add_mul_div_left _ _ hM];omega
 have m1:v%2^(k+1)=v%2^k+2^k*bd v k:=by rw[Nat.pow_succ,Nat.mod_mul];rfl
 have m2:u%2^(k+1)=u%2^k+2^k*bd u k:=by rw[Nat.pow_succ,Nat.mod_mul];rfl
 constructor
 . unfold bd at*;rw[es];omega
 . have e3:cc v u (k+1)=((v%2^k+u%2^k)+2^k* (bd v k+bd u k))/2^k/2:=by rw[Nat.div_div_eq_div_mul,<-Nat.pow_succ];unfold cc;rw[m1,m2,Nat.mul_add];congr 1;omega
   rw[e3,Nat.add_mul_div_left _ _ hM];show(cc v u k+_)/2=_
   congr 1;omega
theorem aeB (u p i:Nat):bd (u*2^p) i=if p<=i then bd u (i-p)else 0:=by
 unfold bd;by_cases h:p<=i
 . rw[if_pos h];obtain⟨j,rfl⟩:∃j,i=p+j:=⟨i-p,by omega⟩;rw[Nat.pow_add,<-Nat.div_div_eq_div_mul,Nat.mul_div_cancel _ (Nat.pow_pos zd),show p+j-p=j by omega]
 . rw[if_neg h];obtain⟨j,rfl⟩:∃j,p=i+1+j:=⟨p-i-1,by omega⟩;rw[show u*2^(i+1+j)=(u*2^j*2) *2^i by rw[Nat.pow_add,Nat.pow_add,Nat.pow_one];simp only[Nat.mul_assoc,Nat.mul_comm,Nat.mul_left_comm],Nat.mul_div_cancel _ (Nat.pow_pos zd)];omega
theorem Pd (x y:Value)(n m v u p:Nat)(w:World)(hx:Bv w x n v)(hy:Bv w y m u)(hn:n<=1099511627775)(hm:m+p<=1099511627775):
 Calls Tryz.prog 132 #[x,y,.int .i64 (p:Int)] w λe w'=>(∃z,e=.returned z/\Bv w' z (max n (m+p)+1) (v+u*2^p))/\Bw w w':=by
 obtain⟨a,cap,mE⟩:=hx.len;obtain⟨a',cap',CM⟩:=hy.len;have gJ:=λW (hW:Bw w W) i (hi:i<=1099511627776)=>zJ x n v i W (hx.below hW) hi zo;have hby:=λW (hW:Bw w W) i (hi:i<=1099511627776)=>zJ y m u i W (hy.below hW) hi zo;obtain⟨L,hL⟩:=aB (max n (m+p)+1);obtain⟨U,hU⟩:=aB (u*2^p);have sH:Hid (v+U<2^L):=by
  show _<_
  have h1:v<2^(L-1):=Nat.lt_of_lt_of_le hx.1 (Nat.pow_le_pow_right zd zo);have h2:U<2^(L-1):=by rw[<-hU];have h3:u*2^p<2^m*2^p:=Nat.mul_lt_mul_of_pos_right hy.1 (Nat.pow_pos zd);rw[<-Nat.pow_add]at h3;exact Nat.lt_of_lt_of_le h3 (Nat.pow_le_pow_right zd zo)
  rw[show L=L-1+1 by omega,Nat.pow_succ];omega
 have UN:∀i,bd U i=if p<=i then bd u (i-p)else 0:=λi=>by rw[<-hU];exact aeB u p i
 have hLI:max (n:Int) ((m:Int)+(p:Int))+1=(L:Int):=by omega
 have hLb:L<=1099511627776:=by omega
 subst mE;subst CM;have hmk:=tK (L:Int) L rfl zo;rw[hU,hL];obtain⟨oO,Ap,HbU⟩:=cG gJ hby UN;clear gJ hby hx hy UN hU hL;go_enter Tryz.func132,Tryz.ntmps132;go_wp2_with fail;go_loopw[8,9,10] (λb i _ wr=>∃k:Nat,k<=L/\i=.int .i64 (k:Int)/\b=.int .u8 (cc v U k:Int)/\aj wr w.heap.size 5 (cN L (λj=>if j<k then bd (v+U) j else 0))/\Bw w wr) (λ_ i _ _=>L-(intOf i).toNat);case atStart=>
  refine⟨0,Nat.zero_le _,rfl,by rw[ae6];rfl,?_,zl⟩;have e:cN L (λj=>if j<0 then bd (v+U) j else 0)=cN L λ_=>0:=lM λj hj=>by rw[if_neg zo]
  rw[e];exact aj.new _ _ _
 case round=>
  obtain⟨k,hk,rfl,rfl,hB,hb⟩:=hrel;by_cases hlt:k<L
  . have H1:=af (oO.out wr hb k zo);obtain⟨hs,hs2⟩:=ae5 v U k;have hp1:=ry v k;have hq:=ry U k;have hr:=ae4 v U k;have Nv:=HbU.out k;have hcell:wr.cell? ⟨w.heap.size,k,none⟩=some (.int .u8 0):=by rw[hB.cell,kJ _ _ _ hlt,if_neg zo];rfl
    have hfree:wr.frozen? ⟨w.heap.size,k,none⟩=false:=hB.free _;have bR:=hB.set k (.int .u8 ((bd (v+U) k:Nat):Int))
    rw[zS,lM (g:=λj=>if j<k+1 then bd (v+U) j else 0) λj hj=>by
     by_cases e:j=k
     . subst e;rw[if_pos rfl,if_pos zo]
     . rw[if_neg e];by_cases e2:j<k
       . rw[if_pos e2,if_pos zo]
       . rw[if_neg e2,if_neg zo]]at bR
    obtain⟨dR,Hb⟩:=aI bR (hb.setCell (p:=⟨w.heap.size,k,none⟩) (Nat.le_refl _) (.int .u8 ((bd (v+U) k:Nat):Int)));have H2:p<=k->Calls Tryz.prog 175 #[.slice a' m cap',.int .i64 ((k-p:Nat):Int)] wr λe w'=>e=.returned (.int .u8 (bd U k:Int))/\wr=w':=λh=>by rw[Nv,if_pos h];exact Ap.out wr hb (k-p) zo
    have hq0:¬p<=k->bd U k=0:=λh=>by rw[Nv,if_neg h]
    have bB:=wY L L k (k:Int) (rfl:(some ⟨w.heap.size,0,none⟩:Option Addr)=_) hlt rfl;rw[Nat.mul_one,Nat.zero_add]at bB;clear hB bR hb Nv;generalize bd v k=P at*;generalize bd U k=q at*;generalize hrr:cc v U k=r at*;generalize bd (v+U) k=z at*;obtain⟨H2,Hq0,sG⟩:=cG H2 hq0 hs2;clear hq0 hs2 hrr;obtain⟨S,hS⟩:=aB (P+q+r);have hS3:S<=3:=by omega
    have hw1:IntKind.u8.wrap ((P:Int)+(r:Int))=(P:Int)+(r:Int):=by rw[IntKind.wrap_u8];omega
    have hw2:IntKind.u8.wrap ((P:Int)+(r:Int)+(q:Int))=(S:Int):=by rw[IntKind.wrap_u8];omega
    have hand:bits .and .u8 (S:Int) 1=(z:Int):=by rw[KS S zo,hs,<-hS]
    obtain⟨HS,Hs⟩:=aI hS hs;clear hS hs;go_wp2_with fail;refine H1.out.mono ?_;rintro e w' ⟨rfl,rfl⟩;by_cases hpk:p<=k
    . have H3:=af (H2.out hpk);have wJ:((k:Int)-(p:Int))=((k-p:Nat):Int):=by omega
      go_wp2_with fail;refine H3.out.mono ?_;rintro e w' ⟨rfl,rfl⟩;go_wp2;go_roundw;case rel=>refine⟨k+1,by omega,by go_num,?_,dR.out,Hb.out⟩;have h1:=sG.out;have h2:=HS.out;rw[h1];congr 1;omega
      case measure=>simp[intOf];omega
    . have hq1:=Hq0.out hpk;subst hq1;have hw3:IntKind.u8.wrap ((P:Int)+(r:Int))=(S:Int):=by rw[hw1];have:=HS.out;omega
      clear hw1 hw2;go_wp2;go_roundw;case rel=>refine⟨k+1,by omega,by go_num,?_,dR.out,Hb.out⟩;have h1:=sG.out;have h2:=HS.out;rw[h1];congr 1;omega
      case measure=>simp[intOf];omega
  . obtain rfl:k=L:=by omega
    rw[lM (g:=bd (v+U)) λj hj=>by rw[if_pos hj]]at hB;obtain⟨Hz,Hb⟩:=aI (Bv.arA hB sH.out) hb;clear hB hb;go_wp2;go_ret;exact⟨⟨_,rfl,Hz.out⟩,Hb.out⟩
theorem alo (xs:List (List UInt8))(a:Option Addr)(cap:Nat)(w:World)(hl:∀l∈xs,l.length<=68719476736)(hx:xs.length<=1048576)
 (ha:At w a (xs.map λl=>.string (bs l))):
 Calls Tryz.prog 83 #[.slice a xs.length cap] w λe w'=>e=.returned (.string (bs (nt (fT xs))))/\Bw w w':=by
 obtain⟨Hl,Ha⟩:=aI hl ha;clear hl ha;go_enter Tryz.func83,Tryz.ntmps83;go_wp2_with fail;go_loopw[3,4] (λz i wr=>∃k n:Nat,k<=xs.length/\n<=549755813888+k/\i=.int .i64 (k:Int)/\Bv wr z n (fT (xs.take k))/\Bw w wr) (λ_ i _=>xs.length-(intOf i).toNat);case atStart=>exact⟨0,0,Nat.zero_le _,Nat.zero_le _,rfl,⟨by simp[fT],.inl ⟨rfl,rfl⟩⟩,Below.refl _ _⟩
 case round=>
  obtain⟨k,n,hk,hn,rfl,hz,hb⟩:=hrel;by_cases hlt:k<xs.length
  . have hne:(xs.map λl=>Value.string (bs l))≠[]:=by intro h0;have:=congrArg List.length h0;simp at this;subst this;simp at hlt
    obtain⟨b,o,hab,hcs⟩:=(Ha.out.below hb).get hne;have hcell:wr.cell? ⟨b,o+k,none⟩=some (.string (bs xs[k])):=by rw[hcs k (by simpa using hlt)];simp[hlt]
    have bB:=WR xs.length cap k (k:Int) hab hlt rfl;rw[Nat.mul_one]at bB;clear hcs hne;have jD:Hid (xs[k].length<=68719476736):=Hl.out _ (List.getElem_mem hlt);obtain⟨bX,jY⟩:=aI (XW xs k hlt) hab;clear hab;generalize xs[k]=x at*;have gJ:bA (nv x)<=549755813888:=Nat.le_trans (fH (mK x)) (by have:=jD.out;omega);obtain⟨Hz,Hb⟩:=aI hz hb;clear hz hb;go_wp2_with fail;refine(nO x _ jD.out).mono ?_;rintro e w1 ⟨⟨y,rfl,hy⟩,hb1⟩;obtain⟨Hy,bN⟩:=aI hy hb1;clear hy hb1;go_wp2_with fail;refine(Pd u3 y n (bA (nv x)) (fT (xs.take k)) (nv x) 0 w1 (Hz.out.below bN.out) Hy.out zo zo).mono ?_;rintro e w2 ⟨⟨z,rfl,hz⟩,hb2⟩;obtain⟨ey,cE⟩:=aI hz hb2;clear hz hb2;go_wp2;go_roundw;case rel=>have h:=ey.out;rw[Nat.pow_zero,Nat.mul_one,<-bX.out]at h;exact⟨k+1,_,by omega,by omega,by go_num,h,aH Hb.out (aH bN.out cE.out)⟩
    case measure=>simp[intOf];omega
  . obtain rfl:k=xs.length:=by omega
    rw[List.take_length]at hz;obtain⟨Hz,Hb⟩:=aI hz hb;clear hz hb;go_wp2_with fail;refine(tW u3 n (fT xs) wr zo Hz.out).mono ?_;rintro e w1 ⟨rfl,hb1⟩;have bN:=af hb1;clear hb1;go_wp2;go_ret;exact⟨rfl,aH Hb.out bN.out⟩
theorem YA (l m:List UInt8)(w:World)(hl:l.length<=68719476736)(hm:m.length<=68719476736):
 Calls Tryz.prog 133 #[.string (bs l),.string (bs m)] w λe w'=>e=.returned (.int .i64 (cJ (nv l) (nv m)))/\Bw w w':=by
 have hbl:=Nat.le_trans (fH (mK l)) (show 8*l.length<=549755813888 by omega);have FJ:=Nat.le_trans (fH (mK m)) (show 8*m.length<=549755813888 by omega);go_enter Tryz.func133,Tryz.ntmps133;go_wp2_with fail;refine(nO l w hl).mono ?_;rintro e w1 ⟨⟨y,rfl,hy⟩,hb1⟩;obtain⟨Hy,bN⟩:=aI hy hb1;clear hy hb1;go_wp2_with fail;refine(nO m w1 hm).mono ?_;rintro e w2 ⟨⟨z,rfl,hz⟩,hb2⟩;obtain⟨Hz,cE⟩:=aI hz hb2;clear hz hb2;go_wp2_with fail;refine(YB y z _ _ (nv l) (nv m) w2 (Hy.out.below cE.out) Hz.out zo zo).mono ?_;rintro e w' ⟨rfl,rfl⟩;go_wp2;go_ret;exact⟨rfl,aH bN.out cE.out⟩
theorem SP (S u:Nat):cJ S u<0↔S<u:=by
 unfold cJ;by_cases h1:S<u
 . rw[if_pos h1];omega
 . rw[if_neg h1];by_cases h2:u<S
   . rw[if_pos h2];omega
   . rw[if_neg h2];omega
theorem alN (l m:List UInt8)(w:World)(hl:l.length<=68719476736)(hm:m.length<=68719476736)(h:nv l<nv m):
 Calls Tryz.prog 84 #[.string (bs l),.string (bs m)] w λe w'=>e=.returned (.tuple #[.string ⟨#[]⟩,.bool false])/\Bw w w':=by
 have hc:=(SP (nv l) (nv m)).2 h;have H1:=af (YA l m w hl hm);clear h;generalize cJ (nv l) (nv m)=c at*;go_enter Tryz.func84,Tryz.ntmps84;go_wp2_with fail;refine H1.out.mono ?_;rintro e w1 ⟨rfl,hb1⟩;have bN:=af hb1;clear hb1;go_wp2;go_ret2
 exact⟨rfl,bN.out⟩
theorem YK (l m:List UInt8)(w:World)(hl:l.length<=68719476736)(hm:m.length<=68719476736)(h:nv m<=nv l):
 Calls Tryz.prog 84 #[.string (bs l),.string (bs m)] w λe w'=>e=.returned (.tuple #[.string (bs (nt (nv l-nv m))),.bool true])/\Bw w w':=by
 have hc:¬cJ (nv l) (nv m)<0:=λh2=>by have:=(SP (nv l) (nv m)).1 h2;omega
 have hbl:=Nat.le_trans (fH (mK l)) (show 8*l.length<=549755813888 by omega);have FJ:=Nat.le_trans (fH (mK m)) (show 8*m.length<=549755813888 by omega);obtain⟨H1,H2,H3⟩:=cG (YA l m w hl hm) (λW=>nO l W hl) (λW=>nO m W hm);generalize cJ (nv l) (nv m)=c at*;go_enter Tryz.func84,Tryz.ntmps84;go_wp2_with fail;refine H1.out.mono ?_;rintro e w1 ⟨rfl,hb1⟩;have bN:=af hb1;clear hb1;go_wp2_with fail;refine(H2.out w1).mono ?_;rintro e w2 ⟨⟨y,rfl,hy⟩,hb2⟩;obtain⟨Hy,cE⟩:=aI hy hb2;clear hy hb2;go_wp2_with fail;refine(H3.out w2).mono ?_;rintro e w3 ⟨⟨z,rfl,hz⟩,hb3⟩;obtain⟨Hz,dG⟩:=aI hz hb3;clear hz hb3;go_wp2_with fail;refine(YF y z _ _ (nv l) (nv m) w3 (Hy.out.below dG.out) Hz.out zo zo h).mono ?_;rintro e w4 ⟨⟨d,rfl,hd,_⟩,hb4⟩;obtain⟨Hd,jZ⟩:=aI hd hb4;clear hd hb4;go_wp2_with fail;refine(tW d _ (nv l-nv m) w4 zo Hd.out).mono ?_;rintro e w5 ⟨rfl,df⟩;have fB:=af df;clear df;go_wp2;go_ret2
 exact⟨rfl,aH bN.out (aH cE.out (aH dG.out (aH jZ.out fB.out)))⟩
theorem zM (s:Bool)(l:List UInt8)(Z:Int)(hZ:iv s l=Z)(w:World)(hl:l.length<=68719476736):
 Calls Tryz.prog 82 #[.agg #[.bool s,.string (bs l)]] w λe w'=>e=.returned (.agg #[.bool (ai Z),.string (bs (nt Z.natAbs))])/\Bw w w':=by
 have h:=Di s l w hl;rw[<-NY,<-mF s l,hZ]at h;exact h
theorem alM (s:Bool)(l:List UInt8)(w:World)(hl:l.length<=68719476736):
 Calls Tryz.prog 48 #[.agg #[.bool s,.string (bs l)]] w λe w'=>e=.returned (.int .i64 (dD (iv s l)))/\Bw w w':=by
 by_cases h0:nv l=0
 . have e:dD (iv s l)=0:=by unfold iv;rw[h0];cases s<;>rfl
   rw[e];exact YI s l w hl h0
 . have h1:=YE l;have hbp:=Bj (v:=nv l) zo;have e:dD (iv s l)=if s then-1 else 1:=by unfold iv dD;cases s<;>simp<;>omega
   rw[e];generalize bA (nv l)=B at*;have hB:((B:Int)==0)=false:=by simp;omega
   have H1:=af h1;clear h1 e h0;obtain⟨W,bU,Hb,Hx⟩:=gL w 32 [.bool s,.string (bs l)];obtain⟨x0,x1⟩:=Hx.out.c2;go_enter Tryz.func48,Tryz.ntmps48;go_wp2_with fail;refine(H1.out _ hl).mono ?_;rintro e w1 ⟨rfl,ae⟩;clear x0 x1;replace Hx:=kB Hx ae;obtain⟨x0,x1⟩:=Hx.out.c2;replace Hb:=ak Hb ae;clear ae;cases s with
   |false=>go_wp2;go_ret;exact⟨rfl,Hb.out⟩
   |true=>go_wp2;go_ret;exact⟨rfl,Hb.out⟩
theorem alJ (s:Bool)(l m:List UInt8)(Z:Int)(hZ:iv s l+iv s m=Z)(w:World)(hl:l.length<=1048576)(hm:m.length<=1048576):
 Calls Tryz.prog 39 #[.agg #[.bool s,.string (bs l)],.agg #[.bool s,.string (bs m)]] w λe w'=>e=.returned (.agg #[.bool (ai Z),.string (bs (nt Z.natAbs))])/\Bw w w':=by
 have es:fT [l,m]=nv l+nv m:=by simp[fT]
 have ha:∀W b,At W (some ⟨b,0,none⟩) [.string (bs l),.string (bs m)]->Calls Tryz.prog 83 #[.slice (some ⟨b,0,none⟩) 2 2] W λe w'=>e=.returned (.string (bs (nt (nv l+nv m))))/\Bw W w':=by intro W b h;rw[<-es];exact alo [l,m] (some ⟨b,0,none⟩) 2 W (by intro x hx;simp at hx;rcases hx with rfl|rfl<;>omega) (by show 2<=1048576;decide) h
 have hlen:(nt (nv l+nv m)).length<=68719476736:=by have h1:=eY l;have h2:=eY m;obtain⟨N,hN⟩:=aB (max l.length m.length);refine Nat.le_trans (iq (k:=N+1) ?_) zo;have h3:256^l.length<=256^N:=Nat.pow_le_pow_right zd zo;have h4:256^m.length<=256^N:=Nat.pow_le_pow_right zd zo;rw[Nat.pow_succ];omega
 have hf:=λW=>zM s (nt (nv l+nv m)) Z (by rw[<-hZ,lF];unfold iv;cases s<;>simp<;>omega) W hlen;obtain⟨Ha,Hf⟩:=aI ha hf;clear ha hf hlen es hZ;generalize nt (nv l+nv m)=S at*;obtain⟨W,bU,Hb,Hx,Hy,Hr⟩:=nz w 32 [.bool s,.string (bs l)] 32 [.bool s,.string (bs m)] 32 [.bool false,.string ⟨#[]⟩];obtain⟨x0,x1⟩:=Hx.out.c2;obtain⟨y0,y1⟩:=Hy.out.c2;obtain⟨r0,ag,r1,ah⟩:=Hr.out.g2;go_enter Tryz.func39,Tryz.ntmps39;go_wp2_with fail;refine bW (λw'=>w'.cell? ⟨w.heap.size,0,none⟩=some (.bool s)/\w'.cell? ⟨w.heap.size,1,none⟩=some (.string (bs l))/\w'.cell? ⟨w.heap.size+1,0,none⟩=some (.bool s)/\w'.cell? ⟨w.heap.size+1,1,none⟩=some (.string (bs m))) (λi=>Nat.blt i 10) [(0,true),(1,true),(2,true),(3,true),(4,true),(5,true),(6,false),(7,false),(8,true),(9,false),(10,false)] zk zk rfl zk zc ⟨x0,x1,y0,y1⟩ ?_;iterate 6 (refine pT rfl rfl ?_ (by intro w' ⟨q0,q1,q2,q3⟩;go_simp;try with_reducible rfl);try simp only[UU])
 refine aC rfl rfl (λK hK=>?_);go_simp;refine hK _ _ (λ_=>⟨aJ x0,aJ x1,aJ y0,aJ y1⟩) ?_;clear hK K;try simp only[UU]
 refine bI (λW1=>aj W1 (W.heap.size) 9 [.string (bs l),.string (bs m)]/\Bw W W1) (by first|exact cS|exact cV) ?_;rintro W1 ⟨qv,ae⟩;clear x0 x1 y0 y1 r0 ag r1 ah;have ajx:=Hx.out.lt;have ajC:=Hy.out.lt;have CU:=Hr.out.lt;replace Hx:=kB Hx ae;replace Hy:=kB Hy ae;replace Hr:=kB Hr ae;have Hv:=af qv;clear qv;obtain⟨x0,x1⟩:=Hx.out.c2;obtain⟨y0,y1⟩:=Hy.out.c2;obtain⟨r0,ag,r1,ah⟩:=Hr.out.g2;obtain⟨v0,v1⟩:=Hv.out.c2;replace Hb:=ak Hb ae;clear ae;refine aC rfl rfl (λK hK=>?_);go_simp;with_reducible refine(Ha.out _ _ (At.arA Hv.out)).mono ?_
 rintro e w2 ⟨rfl,hq⟩;have ae:Bw W1 w2:=by first|exact hq|exact aM hq
 clear x0 x1 y0 y1 r0 ag r1 ah v0 v1;replace Hx:=kB Hx ae;replace Hy:=kB Hy ae;replace Hr:=kB Hr ae;replace Hv:=kB Hv ae;obtain⟨x0,x1⟩:=Hx.out.c2;obtain⟨y0,y1⟩:=Hy.out.c2;obtain⟨r0,ag,r1,ah⟩:=Hr.out.g2;obtain⟨v0,v1⟩:=Hv.out.c2;replace Hb:=ak Hb ae;clear ae;refine hK _ _ (λ_=>⟨x0,x1,y0,y1⟩) ?_;clear hK K;try simp only[UU]
 refine pT rfl rfl ?_;try simp only[UU]
 refine aC rfl rfl (λK hK=>?_);go_simp;with_reducible refine(Hf.out _).mono ?_
 rintro e w3 ⟨rfl,hq⟩;have ae:Bw w2 w3:=by first|exact hq|exact aM hq
 clear x0 x1 y0 y1 r0 ag r1 ah v0 v1;replace Hx:=kB Hx ae;replace Hy:=kB Hy ae;replace Hr:=kB Hr ae;replace Hv:=kB Hv ae;obtain⟨x0,x1⟩:=Hx.out.c2;obtain⟨y0,y1⟩:=Hy.out.c2;obtain⟨r0,ag,r1,ah⟩:=Hr.out.g2;obtain⟨v0,v1⟩:=Hv.out.c2;replace Hb:=ak Hb ae;clear ae;refine hK _ _ (λ_=>⟨x0,x1,y0,y1⟩) ?_;clear hK K;try simp only[UU]
 refine aC rfl rfl (λK hK=>?_);go_simp;refine hK _ _ (λh=>absurd h zd) ?_;clear hK K;try simp only[UU]
 clear x0 x1 y0 y1 r0 ag r1 ah v0 v1;refine bI (aY w3 (w.heap.size+1+1) 0 [.bool (ai Z),.string (bs (nt Z.natAbs))]) bg ?_;intro w4 hs;replace Hx:=kS Hx hs zo;replace Hy:=kS Hy hs zo;replace Hr:=bE Hr hs;replace Hv:=kS Hv hs zo;obtain⟨x0,x1⟩:=Hx.out.c2;obtain⟨y0,y1⟩:=Hy.out.c2;obtain⟨r0,ag,r1,ah⟩:=Hr.out.g2;obtain⟨v0,v1⟩:=Hv.out.c2;replace Hb:=bS Hb hs ZS;clear hs;simp only[aV];go_wp2;refine bodyPost_ret (v:=.agg #[.bool (ai Z),.string (bs (nt Z.natAbs))]) (by simp[results,Tryz.results39,go_sem,r0,r1]) rfl ⟨rfl,?_⟩;(repeat first|exact Hb.out| (refine Below.setCell ?_ (by have:=Hb.out.size;first| (dsimp only;omega) | (show _<=_;omega) | (simp<;>omega)) _) | (refine Below.alloc ?_ zt _) |refine Below.drew ?_)
theorem alH (s:Bool)(l m:List UInt8)(Z:Int)(hZ:iv s l+iv (!s) m=Z)(h:nv m<=nv l)(w:World)(hl:l.length<=1048576)(hm:m.length<=1048576):
 Calls Tryz.prog 39 #[.agg #[.bool s,.string (bs l)],.agg #[.bool (!s),.string (bs m)]] w λe w'=>e=.returned (.agg #[.bool (ai Z),.string (bs (nt Z.natAbs))])/\Bw w w':=by
 have ha:=λW=>YK l m W zo zo h;have hlen:(nt (nv l-nv m)).length<=68719476736:=by have h1:=eY l;refine Nat.le_trans (iq (k:=l.length) zo) zo
 have hf:=λW=>zM s (nt (nv l-nv m)) Z (by rw[<-hZ,lF];unfold iv;cases s<;>simp<;>omega) W hlen;obtain⟨Ha,Hf⟩:=aI ha hf;clear ha hf hlen hZ h;generalize nt (nv l-nv m)=S at*;have hne:(s== !s)=false:=by cases s<;>rfl
 obtain⟨t,ht⟩:=aB (!s);rw[ht]at hne⊢;obtain⟨W,bU,Hb,Hx,Hy,Hr⟩:=nz w 32 [.bool s,.string (bs l)] 32 [.bool t,.string (bs m)] 32 [.bool false,.string ⟨#[]⟩];obtain⟨x0,x1⟩:=Hx.out.c2;obtain⟨y0,y1⟩:=Hy.out.c2;obtain⟨r0,ag,r1,ah⟩:=Hr.out.g2;go_enter Tryz.func39,Tryz.ntmps39;go_wp2_with fail;refine(Ha.out _).mono ?_;rintro e w1 ⟨rfl,ae⟩;clear x0 x1 y0 y1 r0 ag r1 ah;replace Hx:=kB Hx ae;replace Hy:=kB Hy ae;replace Hr:=kB Hr ae;obtain⟨x0,x1⟩:=Hx.out.c2;obtain⟨y0,y1⟩:=Hy.out.c2;obtain⟨r0,ag,r1,ah⟩:=Hr.out.g2;replace Hb:=ak Hb ae;clear ae;go_wp2_with fail;refine(Hf.out _).mono ?_;rintro e w2 ⟨rfl,ae⟩;clear x0 x1 y0 y1 r0 ag r1 ah;replace Hx:=kB Hx ae;replace Hy:=kB Hy ae;replace Hr:=kB Hr ae;obtain⟨x0,x1⟩:=Hx.out.c2;obtain⟨y0,y1⟩:=Hy.out.c2;obtain⟨r0,ag,r1,ah⟩:=Hr.out.g2;replace Hb:=ak Hb ae;clear ae;go_wp2;clear x0 x1 y0 y1 r0 ag r1 ah;refine dx (aY w2 (w.heap.size+1+1) 0 [.bool (ai Z),.string (bs (nt Z.natAbs))]) bg ?_;intro w9 hs;replace Hx:=kS Hx hs zo;replace Hy:=kS Hy hs zo;replace Hr:=bE Hr hs;obtain⟨x0,x1⟩:=Hx.out.c2;obtain⟨y0,y1⟩:=Hy.out.c2;obtain⟨r0,ag,r1,ah⟩:=Hr.out.g2;replace Hb:=bS Hb hs ZS;clear hs;refine bodyPost_ret (v:=.agg #[.bool (ai Z),.string (bs (nt Z.natAbs))]) (by simp[results,Tryz.results39,go_sem,r0,r1]) rfl ⟨rfl,Hb.out⟩
theorem alI (s:Bool)(l m:List UInt8)(Z:Int)(hZ:iv s l+iv (!s) m=Z)(h:nv l<nv m)(w:World)(hl:l.length<=1048576)(hm:m.length<=1048576):
 Calls Tryz.prog 39 #[.agg #[.bool s,.string (bs l)],.agg #[.bool (!s),.string (bs m)]] w λe w'=>e=.returned (.agg #[.bool (ai Z),.string (bs (nt Z.natAbs))])/\Bw w w':=by
 have ha:=λW=>alN l m W zo zo h;have hb:=λW=>YK m l W zo zo (Nat.le_of_lt h);have hlen:(nt (nv m-nv l)).length<=68719476736:=by have h1:=eY m;refine Nat.le_trans (iq (k:=m.length) zo) zo
 have hf:=λW=>zM (!s) (nt (nv m-nv l)) Z (by rw[<-hZ,lF];unfold iv;cases s<;>simp<;>omega) W hlen;obtain⟨Ha,Hs,Hf⟩:=cG ha hb hf;clear ha hb hf hlen hZ h;generalize nt (nv m-nv l)=S at*;have hne:(s== !s)=false:=by cases s<;>rfl
 obtain⟨t,ht⟩:=aB (!s);rw[ht]at hne Hf⊢;obtain⟨W,bU,Hb,Hx,Hy,Hr⟩:=nz w 32 [.bool s,.string (bs l)] 32 [.bool t,.string (bs m)] 32 [.bool false,.string ⟨#[]⟩];obtain⟨x0,x1⟩:=Hx.out.c2;obtain⟨y0,y1⟩:=Hy.out.c2;obtain⟨r0,ag,r1,ah⟩:=Hr.out.g2;go_enter Tryz.func39,Tryz.ntmps39;go_wp2_with fail;refine(Ha.out _).mono ?_;rintro e w1 ⟨rfl,ae⟩;clear x0 x1 y0 y1 r0 ag r1 ah;replace Hx:=kB Hx ae;replace Hy:=kB Hy ae;replace Hr:=kB Hr ae;obtain⟨x0,x1⟩:=Hx.out.c2;obtain⟨y0,y1⟩:=Hy.out.c2;obtain⟨r0,ag,r1,ah⟩:=Hr.out.g2;replace Hb:=ak Hb ae;clear ae;go_wp2_with fail;refine(Hs.out _).mono ?_;rintro e w2 ⟨rfl,ae⟩;clear x0 x1 y0 y1 r0 ag r1 ah;replace Hx:=kB Hx ae;replace Hy:=kB Hy ae;replace Hr:=kB Hr ae;obtain⟨x0,x1⟩:=Hx.out.c2;obtain⟨y0,y1⟩:=Hy.out.c2;obtain⟨r0,ag,r1,ah⟩:=Hr.out.g2;replace Hb:=ak Hb ae;clear ae;go_wp2_with fail;refine(Hf.out _).mono ?_;rintro e w3 ⟨rfl,ae⟩;clear x0 x1 y0 y1 r0 ag r1 ah;replace Hx:=kB Hx ae;replace Hy:=kB Hy ae;replace Hr:=kB Hr ae;obtain⟨x0,x1⟩:=Hx.out.c2;obtain⟨y0,y1⟩:=Hy.out.c2;obtain⟨r0,ag,r1,ah⟩:=Hr.out.g2;replace Hb:=ak Hb ae;clear ae;go_wp2;clear x0 x1 y0 y1 r0 ag r1 ah;refine dx (aY w3 (w.heap.size+1+1) 0 [.bool (ai Z),.string (bs (nt Z.natAbs))]) bg ?_;intro w9 hs;replace Hx:=kS Hx hs zo;replace Hy:=kS Hy hs zo;replace Hr:=bE Hr hs;obtain⟨x0,x1⟩:=Hx.out.c2;obtain⟨y0,y1⟩:=Hy.out.c2;obtain⟨r0,ag,r1,ah⟩:=Hr.out.g2;replace Hb:=bS Hb hs ZS;clear hs;refine bodyPost_ret (v:=.agg #[.bool (ai Z),.string (bs (nt Z.natAbs))]) (by simp[results,Tryz.results39,go_sem,r0,r1]) rfl ⟨rfl,Hb.out⟩
theorem alG (s:Bool)(l:List UInt8)(t:Bool)(m:List UInt8)(Z:Int)(hZ:iv s l+iv t m=Z)(w:World)(hl:l.length<=1048576)(hm:m.length<=1048576):
 Calls Tryz.prog 39 #[.agg #[.bool s,.string (bs l)],.agg #[.bool t,.string (bs m)]] w λe w'=>e=.returned (.agg #[.bool (ai Z),.string (bs (nt Z.natAbs))])/\Bw w w':=by
 by_cases h:s=t
 . subst h;exact alJ s l m Z hZ w hl hm
 . obtain rfl:t= !s:=by cases s<;>cases t<;>simp_all
   by_cases h2:nv l<nv m
   . exact alI s l m Z hZ h2 w hl hm
   . exact alH s l m Z hZ zo w hl hm
theorem alL (l:List UInt8)(p:Nat)(w:World)(hl:l.length<=68719476736)(hp:p<=274877906944):
 Calls Tryz.prog 137 #[.string (bs l),.int .i64 (p:Int)] w λe w'=>e=.returned (.string (bs (nt (nv l*2^p))))/\Bw w w':=by
 have gJ:bA (nv l)<=549755813888:=Nat.le_trans (fH (mK l)) zo;have hmx:max (p:Int) 0=(p:Int):=by omega
 have Hb:Hid (Bw w w):=Below.refl _ _;go_enter Tryz.func137,Tryz.ntmps137;go_wp2_with fail;refine(nO l _ hl).mono ?_;rintro e w1 ⟨⟨y,rfl,hy⟩,hb1⟩;obtain⟨Hy,bN⟩:=aI hy hb1;clear hy hb1;go_wp2_with fail;refine(Pd (.slice none 0 0) y 0 (bA (nv l)) 0 (nv l) p w1 ⟨by simp,.inl ⟨rfl,rfl⟩⟩ Hy.out zo zo).mono ?_;rintro e w2 ⟨⟨z,rfl,hz⟩,hb2⟩;rw[Nat.zero_add]at hz;obtain⟨Hz,cE⟩:=aI hz hb2;clear hz hb2;go_wp2_with fail;refine(tW z _ (nv l*2^p) w2 zo Hz.out).mono ?_;rintro e w3 ⟨rfl,hb3⟩;have dG:=af hb3;clear hb3;go_wp2;go_ret;exact⟨rfl,aH bN.out (aH cE.out dG.out)⟩
theorem ajS (v k:Nat):v%2^(k+1)=v%2^k+bd v k*2^k:=by unfold bd;rw[Nat.pow_succ,Nat.mod_mul,Nat.mul_comm]
theorem alA (l m:List UInt8)(w:World)(hl:l.length<=17179869184)(hm:m.length<=17179869184):
 Calls Tryz.prog 138 #[.string (bs l),.string (bs m)] w λe w'=>e=.returned (.string (bs (nt (nv l*nv m))))/\Bw w w':=by
 have hbl:bA (nv l)<=137438953472:=Nat.le_trans (fH (mK l)) zo;have FJ:bA (nv m)<=137438953472:=Nat.le_trans (fH (mK m)) zo;have hvl:=nZ (nv l);obtain⟨V,hV⟩:=aB (nv l);obtain⟨U,hU⟩:=aB (nv m);have h1:=λW=>nO l W zo;have h2:=λW=>nO m W zo;rw[hV]at hbl hvl h1⊢;rw[hU]at FJ h2⊢;obtain⟨N,hN⟩:=aB (bA V);obtain⟨M,hM⟩:=aB (bA U);rw[hN]at hbl hvl h1;rw[hM]at FJ h2;obtain⟨H1,H2,oX⟩:=cG h1 h2 hvl;clear h1 h2 hvl hV hU hN hM hl hm;have Hb:Hid (Bw w w):=Below.refl _ _;go_enter Tryz.func138,Tryz.ntmps138;go_wp2_with fail;refine(H1.out _).mono ?_;rintro e w1 ⟨⟨x,rfl,hx⟩,hb1⟩;obtain⟨Hx,bN⟩:=aI hx hb1;clear hx hb1;go_wp2_with fail;refine(H2.out _).mono ?_;rintro e w2 ⟨⟨y,rfl,hy⟩,hb2⟩;obtain⟨oY,Hy,cE⟩:=cG (Hx.out.below hb2) hy (aH bN.out hb2);clear hy hb2 bN Hx;obtain⟨a,cap,rfl⟩:=oY.out.len;go_wp2_with fail;go_loopw[7,8] (λz i wr=>∃k n:Nat,k<=N/\n<=M+k/\i=.int .i64 (k:Int)/\Bv wr z n (V%2^k*U)/\Bw w2 wr) (λ_ i _=>N-(intOf i).toNat);case atStart=>exact⟨0,0,Nat.zero_le _,Nat.zero_le _,rfl,⟨by simp[Nat.mod_one],.inl ⟨rfl,rfl⟩⟩,Below.refl _ _⟩
 case round=>
  obtain⟨k,n,hk,hn,rfl,hz,hb⟩:=hrel;by_cases hlt:k<N
  . have hxk:=oY.out.below hb;rcases hxk.2 with⟨h,h0⟩ |⟨b,o,cap',h,hcap,hc⟩
    . omega
    simp only[Value.slice.injEq,true_and]at h;obtain⟨rfl,rfl⟩:=h;have hcell:=hc k hlt;have bB:=wY N cap k (k:Int) (rfl:(some ⟨b,o,none⟩:Option Addr)=_) hlt rfl;rw[Nat.mul_one]at bB;have hst:=ajS V k;obtain⟨Hz,Hb,hyk⟩:=cG hz hb (Hy.out.below hb);clear hz hb hc hxk;rcases(show bd V k=0\/bd V k=1 by unfold bd;omega)with hd|hd
    . have hd':((bd V k:Int)==1)=false:=by simp[hd]
      rw[hd,Nat.zero_mul,Nat.add_zero]at hst;have bX:=af hst;clear hst hd;go_wp2;go_roundw;case rel=>exact⟨k+1,n,by omega,by omega,by go_num,by rw[bX.out];exact Hz.out,Hb.out⟩
      case measure=>simp[intOf];omega
    . have hd':((bd V k:Int)==1)=true:=by simp[hd]
      rw[hd,Nat.one_mul]at hst;have bX:=af hst;clear hst hd;go_wp2_with fail;refine(Pd u7 y n M (V%2^k*U) U k wr Hz.out hyk.out zo zo).mono ?_;rintro e w4 ⟨⟨z,rfl,hz⟩,hb4⟩;obtain⟨Hz4,jZ⟩:=aI hz hb4;clear hz hb4;go_wp2;go_roundw;case rel=>refine⟨k+1,max n (M+k)+1,by omega,by omega,by go_num,?_,aH Hb.out jZ.out⟩;rw[bX.out,Nat.add_mul,Nat.mul_comm (2^k) U];exact Hz4.out
      case measure=>simp[intOf];omega
  . obtain rfl:k=N:=by omega
    have Ut:V%2^k=V:=Nat.mod_eq_of_lt oX.out;rw[Ut]at hz;obtain⟨Hz,Hb⟩:=aI hz hb;clear hz hb Ut;go_wp2_with fail;refine(tW u7 n (V*U) wr zo Hz.out).mono ?_;rintro e w4 ⟨rfl,hb4⟩;have jZ:=af hb4;clear hb4;go_wp2;go_ret;exact⟨rfl,aH cE.out (aH Hb.out jZ.out)⟩
theorem XY (l m:List UInt8):(nt (nv l*nv m)).length<=l.length+m.length:=by refine iq ?_;rw[Nat.pow_add];have h1:=eY l;have h2:=eY m;exact Nat.mul_lt_mul_of_lt_of_le h1 (Nat.le_of_lt h2) zo
theorem XZ (l:List UInt8)(p:Nat):(nt (nv l*2^p)).length<=l.length+p:=by refine iq ?_;rw[Nat.pow_add];have h1:=eY l;have h2:2^p<=256^p:=Nat.pow_le_pow_left zd p;exact Nat.mul_lt_mul_of_lt_of_le h1 h2 (Nat.pow_pos zd)
theorem alB (s:Bool)(l:List UInt8)(Z:Int)(hZ: -iv s l=Z)(w:World)(hl:l.length<=1048576):
 Calls Tryz.prog 171 #[.agg #[.bool s,.string (bs l)]] w λe w'=>e=.returned (.agg #[.bool (ai Z),.string (bs (nt Z.natAbs))])/\Bw w w':=by
 have hf:=λW=>zM (!s) l Z (by rw[<-hZ];unfold iv;cases s<;>simp) W zo;have Hf:=af hf;clear hf hZ;generalize Z.natAbs=Y at*;generalize ai Z=t at*;obtain⟨W,bU,Hb,Hx,Hr⟩:=fw w 32 [.bool s,.string (bs l)] 32 [.bool false,.string ⟨#[]⟩];obtain⟨x0,x1⟩:=Hx.out.c2;obtain⟨r0,ag,r1,ah⟩:=Hr.out.g2;go_enter Tryz.func171,Tryz.ntmps171;go_wp2_with fail;refine(Hf.out _).mono ?_;rintro e w1 ⟨rfl,ae⟩;clear x0 x1 r0 ag r1 ah;replace Hx:=kB Hx ae;replace Hr:=kB Hr ae;obtain⟨x0,x1⟩:=Hx.out.c2;obtain⟨r0,ag,r1,ah⟩:=Hr.out.g2;replace Hb:=ak Hb ae;clear ae;go_wp2;clear x0 x1 r0 ag r1 ah;refine dx (aY w1 (w.heap.size+1) 0 [.bool t,.string (bs (nt Y))]) bg ?_;intro w9 hs;replace Hx:=kS Hx hs zo;replace Hr:=bE Hr hs;obtain⟨x0,x1⟩:=Hx.out.c2;obtain⟨r0,ag,r1,ah⟩:=Hr.out.g2;replace Hb:=bS Hb hs ZS;clear hs;refine bodyPost_ret (v:=.agg #[.bool t,.string (bs (nt Y))]) (by simp[results,Tryz.results171,go_sem,r0,r1]) rfl ⟨rfl,Hb.out⟩
theorem alQ (s:Bool)(l:List UInt8)(t:Bool)(m:List UInt8)(Z:Int)(hZ:iv s l*iv t m=Z)(w:World)(hl:l.length<=524288)(hm:m.length<=524288):
 Calls Tryz.prog 92 #[.agg #[.bool s,.string (bs l)],.agg #[.bool t,.string (bs m)]] w λe w'=>e=.returned (.agg #[.bool (ai Z),.string (bs (nt Z.natAbs))])/\Bw w w':=by
 have hf:=λW=>zM (!(s==t)) (nt (nv l*nv m)) Z (by rw[<-hZ,lF];unfold iv;cases s<;>cases t<;>simp[Int.neg_mul,Int.mul_neg]) W (by have:=XY l m;omega);have Cv:=λW=>alA l m W zo zo;obtain⟨Hf,Hm⟩:=aI hf Cv;clear hf Cv hZ;generalize Z.natAbs=Y at*;generalize ai Z=v at*;generalize nt (nv l*nv m)=S at*;obtain⟨W,bU,Hb,Hx,Hy,Hr⟩:=nz w 32 [.bool s,.string (bs l)] 32 [.bool t,.string (bs m)] 32 [.bool false,.string ⟨#[]⟩];obtain⟨x0,x1⟩:=Hx.out.c2;obtain⟨y0,y1⟩:=Hy.out.c2;obtain⟨r0,ag,r1,ah⟩:=Hr.out.g2;go_enter Tryz.func92,Tryz.ntmps92;go_wp2_with fail;refine bW (λw'=>w'.cell? ⟨w.heap.size,0,none⟩=some (.bool s)/\w'.cell? ⟨w.heap.size,1,none⟩=some (.string (bs l))/\w'.cell? ⟨w.heap.size+1,0,none⟩=some (.bool t)/\w'.cell? ⟨w.heap.size+1,1,none⟩=some (.string (bs m))) (λi=>Nat.blt i 12) [(0,true),(1,true),(2,true),(3,true),(4,true),(5,true),(6,true),(7,true),(8,true),(9,false),(10,true),(11,false),(12,false)] zk zk rfl zk zc ⟨x0,x1,y0,y1⟩ ?_;iterate 9 (refine pT rfl rfl ?_ (by intro w' ⟨q0,q1,q2,q3⟩;go_simp;try with_reducible rfl);try simp only[UU])
 refine aC rfl rfl (λK hK=>?_);go_simp;with_reducible refine(Hm.out _).mono ?_
 rintro e w1 ⟨rfl,hq⟩;have ae:Bw W w1:=by first|exact hq|exact aM hq
 clear x0 x1 y0 y1 r0 ag r1 ah;replace Hx:=kB Hx ae;replace Hy:=kB Hy ae;replace Hr:=kB Hr ae;obtain⟨x0,x1⟩:=Hx.out.c2;obtain⟨y0,y1⟩:=Hy.out.c2;obtain⟨r0,ag,r1,ah⟩:=Hr.out.g2;replace Hb:=ak Hb ae;clear ae;refine hK _ _ (λ_=>⟨x0,x1,y0,y1⟩) ?_;clear hK K;try simp only[UU]
 refine pT rfl rfl ?_;try simp only[UU]
 refine aC rfl rfl (λK hK=>?_);go_simp;with_reducible refine(Hf.out _).mono ?_
 rintro e w2 ⟨rfl,hq⟩;have ae:Bw w1 w2:=by first|exact hq|exact aM hq
 clear x0 x1 y0 y1 r0 ag r1 ah;replace Hx:=kB Hx ae;replace Hy:=kB Hy ae;replace Hr:=kB Hr ae;obtain⟨x0,x1⟩:=Hx.out.c2;obtain⟨y0,y1⟩:=Hy.out.c2;obtain⟨r0,ag,r1,ah⟩:=Hr.out.g2;replace Hb:=ak Hb ae;clear ae;refine hK _ _ (λ_=>⟨x0,x1,y0,y1⟩) ?_;clear hK K;try simp only[UU]
 refine aC rfl rfl (λK hK=>?_);go_simp;refine hK _ _ (λh=>absurd h zd) ?_;clear hK K;try simp only[UU]
 clear x0 x1 y0 y1 r0 ag r1 ah;refine bI (aY w2 (w.heap.size+1+1) 0 [.bool v,.string (bs (nt Y))]) bg ?_;intro w9 hs;replace Hx:=kS Hx hs zo;replace Hy:=kS Hy hs zo;replace Hr:=bE Hr hs;obtain⟨x0,x1⟩:=Hx.out.c2;obtain⟨y0,y1⟩:=Hy.out.c2;obtain⟨r0,ag,r1,ah⟩:=Hr.out.g2;replace Hb:=bS Hb hs ZS;clear hs;simp only[aV];go_wp2;refine bodyPost_ret (v:=.agg #[.bool v,.string (bs (nt Y))]) (by simp[results,Tryz.results92,go_sem,r0,r1]) rfl ⟨rfl,?_⟩;(repeat first|exact Hb.out| (refine Below.setCell ?_ (by have:=Hb.out.size;first| (dsimp only;omega) | (show _<=_;omega) | (simp<;>omega)) _) | (refine Below.alloc ?_ zt _) |refine Below.drew ?_)
theorem alK (s:Bool)(l:List UInt8)(p:Nat)(Z:Int)(hZ:iv s l*2^p=Z)(w:World)(hl:l.length<=1048576)(hp:p<=1073741824):
 Calls Tryz.prog 91 #[.agg #[.bool s,.string (bs l)],.int .i64 (p:Int)] w λe w'=>e=.returned (.agg #[.bool (ai Z),.string (bs (nt Z.natAbs))])/\Bw w w':=by
 have hf:=λW=>zM s (nt (nv l*2^p)) Z (by rw[<-hZ,lF];unfold iv;cases s<;>simp[Int.neg_mul]) W (by have:=XZ l p;omega);have hsh:=λW=>alL l p W zo zo;have hp0:(0:Int)<=(p:Int):=by omega
 have hp1:decide ((p:Int)≥0)=true:=by simp
 obtain⟨Hf,Hm⟩:=aI hf hsh;clear hf hsh hZ;generalize Z.natAbs=Y at*;generalize ai Z=v at*;generalize nt (nv l*2^p)=S at*;obtain⟨W,bU,Hb,Hx,Hr⟩:=fw w 32 [.bool s,.string (bs l)] 32 [.bool false,.string ⟨#[]⟩];obtain⟨x0,x1⟩:=Hx.out.c2;obtain⟨r0,ag,r1,ah⟩:=Hr.out.g2;go_enter Tryz.func91,Tryz.ntmps91;go_wp2_with fail;refine bW (λw'=>w'.cell? ⟨w.heap.size,0,none⟩=some (.bool s)/\w'.cell? ⟨w.heap.size,1,none⟩=some (.string (bs l))) (λi=>Nat.blt i 8) [(0,true),(1,true),(2,true),(3,true),(4,true),(5,false),(6,true),(7,false),(8,false)] zk zk rfl zk zc ⟨x0,x1⟩ ?_;iterate 5 (refine pT rfl rfl ?_ (by intro w' ⟨q0,q1⟩;go_simp;try with_reducible rfl);try simp only[UU])
 refine aC rfl rfl (λK hK=>?_);go_simp;with_reducible refine(Hm.out _).mono ?_
 rintro e w1 ⟨rfl,hq⟩;have ae:Bw W w1:=by first|exact hq|exact aM hq
 clear x0 x1 r0 ag r1 ah;replace Hx:=kB Hx ae;replace Hr:=kB Hr ae;obtain⟨x0,x1⟩:=Hx.out.c2;obtain⟨r0,ag,r1,ah⟩:=Hr.out.g2;replace Hb:=ak Hb ae;clear ae;refine hK _ _ (λ_=>⟨x0,x1⟩) ?_;clear hK K;try simp only[UU]
 refine pT rfl rfl ?_;try simp only[UU]
 refine aC rfl rfl (λK hK=>?_);go_simp;with_reducible refine(Hf.out _).mono ?_
 rintro e w2 ⟨rfl,hq⟩;have ae:Bw w1 w2:=by first|exact hq|exact aM hq
 clear x0 x1 r0 ag r1 ah;replace Hx:=kB Hx ae;replace Hr:=kB Hr ae;obtain⟨x0,x1⟩:=Hx.out.c2;obtain⟨r0,ag,r1,ah⟩:=Hr.out.g2;replace Hb:=ak Hb ae;clear ae;refine hK _ _ (λ_=>⟨x0,x1⟩) ?_;clear hK K;try simp only[UU]
 refine aC rfl rfl (λK hK=>?_);go_simp;refine hK _ _ (λh=>absurd h zd) ?_;clear hK K;try simp only[UU]
 clear x0 x1 r0 ag r1 ah;refine bI (aY w2 (w.heap.size+1) 0 [.bool v,.string (bs (nt Y))]) bg ?_;intro w9 hs;replace Hx:=kS Hx hs zo;replace Hr:=bE Hr hs;obtain⟨x0,x1⟩:=Hx.out.c2;obtain⟨r0,ag,r1,ah⟩:=Hr.out.g2;replace Hb:=bS Hb hs ZS;clear hs;simp only[aV];go_wp2;refine bodyPost_ret (v:=.agg #[.bool v,.string (bs (nt Y))]) (by simp[results,Tryz.results91,go_sem,r0,r1]) rfl ⟨rfl,?_⟩;(repeat first|exact Hb.out| (refine Below.setCell ?_ (by have:=Hb.out.size;first| (dsimp only;omega) | (show _<=_;omega) | (simp<;>omega)) _) | (refine Below.alloc ?_ zt _) |refine Below.drew ?_)
end Go.Proofs.YtoopepmmepmfnaaGreatDoor
