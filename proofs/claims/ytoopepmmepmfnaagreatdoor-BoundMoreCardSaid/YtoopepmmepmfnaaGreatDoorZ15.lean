/- Package ogeeref01: Div. -/
import Derived.Test.YtoopepmmepmfnaaGreatDoorZ11
import Derived.Laws.AppendOwnNone
set_option linter.unusedVariables false
set_option linter.unusedSimpArgs false
set_option maxRecDepth 100000
set_option maxHeartbeats 16000000
namespace Go.Proofs.YtoopepmmepmfnaaGreatDoor
open Go.RowKit
attribute [local go_sem ↓] Go.wp_at_zero Go.wp_at_succ
theorem adf (r c:Nat)(hc:c<=1):bd (2*r+c) 0=c/\∀j,bd (2*r+c) (j+1)=bd r j:=by unfold bd;refine⟨by simp;omega,λj=>?_⟩;rw[Nat.pow_succ',<-Nat.div_div_eq_div_mul,show(2*r+c)/2=r by omega]
theorem Yq (n r c:Nat)(hc:c<=1):[.int .u8 (c:Int)]++cG n (bd r)=cG (1+n) (bd (2*r+c)):=by
 obtain⟨h0,h1⟩:=adf r c hc;apply List.ext_getElem?;intro j;cases j with
 |zero=>rw[kM _ _ _ zo,h0];rfl
 | succ j=>
   rw[List.getElem?_append_right zm];simp only[List.length_singleton,Nat.add_sub_cancel];by_cases hj:j<n
   . rw[kM _ _ _ hj,kM _ _ _ zo,h1]
   . rw[List.getElem?_eq_none (by rw[Co];omega),List.getElem?_eq_none (by rw[Co];omega)]
theorem ajs (W:World)(base:Nat)(e:TypeId)(x:Value)(hb:base<=W.heap.size):(W.alloc (.cells #[x] e)).ownsRow base e 1 (.slice (some ⟨W.heap.size,0,none⟩) 1 1) 1 [x]:=
 ⟨rfl,.inr ⟨W.heap.size,1,#[x],rfl,hb,heap_alloc_new W _,Nat.le_refl _,by simp[maxLen],rfl,rfl⟩⟩
theorem Ra (S u:Nat):(0<=cJ S u)↔u<=S:=by
 unfold cJ;by_cases h1:S<u
 . rw[if_pos h1];omega
 . rw[if_neg h1];by_cases h2:u<S
   . rw[if_pos h2];omega
   . rw[if_neg h2];omega
theorem Bv.cells {w:World}{x:Value}{n v:Nat}(h:Bv w x n v)(hn:0<n):∃b o cap,x=.slice (some ⟨b,o,none⟩) n cap/\∀j,j<n->w.cell? ⟨b,o+j,none⟩=some (.int .u8 (bd v j:Int)):=by
 rcases h.2 with⟨_,h2⟩ |⟨b,o,cap,h1,_,h3⟩
 . omega
 . exact⟨b,o,cap,h1,h3⟩
theorem Bv.aqG {w:World}{x:Value}{n v:Nat}(h:Bv w x n v){a:Addr}(hne:∀b o n c,x=.slice (some ⟨b,o,none⟩) n c->b≠a.block)(y:Value):Bv (w.setCell a y) x n v:=by
 refine⟨h.1,?_⟩;rcases h.2 with h|⟨b,o,cap,e,h1,hc⟩
 . exact .inl h
 . exact .inr ⟨b,o,cap,e,h1,λj hj=>eW (hne b o n cap e) (hc j hj)⟩
theorem al2 {ops:Array Oper}{rest:List Oper}{o:Oper}{a:Act}{Q:Exit->Act->World->Prop}(hgd:o.guard=none)(s x:Operand)
 (ho:o.op=.call {callee:=.builtin .append,args:=#[s,x],argTypes:=#[94,94]}) (W:World) (z:Value) (n r c:Nat) (hc:c<=1) (hn:n<=1099511627776) (hz:Bv W z n r)
 (hs:a.eval s=.slice (some ⟨W.heap.size,0,none⟩) 1 1) (hx:a.eval x=z)
 (h:∀v' w',Bv w' v' (1+n) (2*r+c)->zZ v' W.heap.size->Bw W w'->wpList Tryz.prog ops Q rest (a.put o.dst v') w'):wpList Tryz.prog ops Q (o::rest) a (W.alloc (.cells #[.int .u8 (c:Int)] 5)):=by
 obtain⟨i0,hi,hz0,hz1,hz2⟩:=info_parts Tryz.aqI;have hlt:2*r+c<2^(1+n):=by have:=hz.1;rw[Nat.add_comm 1 n,Nat.pow_succ];omega
 have hone:=ajs W W.heap.size 5 (.int .u8 (c:Int)) (Nat.le_refl _);have hb0:Bw W (W.alloc (.cells #[.int .u8 (c:Int)] 5)):=zl;rcases hz.2 with⟨rfl,rfl⟩ |⟨b,oo,cap,rfl,h1,hcs⟩
 . refine wpList_append_own_none hgd s x 94 ho W.heap.size 5 i0 1 Tryz.underlying94 hi _ 1 _ hs hone hx ?_;refine h _ _ (Bv.aqL (base:=W.heap.size) (e:=5) ?_ hlt) (λb o n c e=>by cases e;exact Nat.le_refl _) hb0;rw[<-Yq 0 r c hc];exact hone
 . refine wpList_append_own _ hgd s x 94 ho W.heap.size 5 i0 (.int .u8 0) 1 1 Tryz.underlying94 hi hz0 hz1 hz2 rfl zd _ 1 _ hs hone ⟨b,oo,none⟩ n cap (cG n (bd r)) hx (by rw[Co,Nat.mul_one]) ?_ ?_ zx zo zm ?_
   . intro j u hj;have mr:j<n:=by
      rcases Nat.lt_or_ge j n with h|h
      . exact h
      . rw[List.getElem?_eq_none (by rw[Co];exact h)]at hj;cases hj
     rw[kM _ _ _ mr]at hj;cases hj
     have e2:((⟨b,oo,none⟩:Addr).add j)=⟨b,oo+j,none⟩:=by simp[Addr.add]
     rw[e2];exact aH (hcs j mr)
   . intro u hu;unfold cG at hu;rw[List.mem_map]at hu;obtain⟨j,_,rfl⟩:=hu;rfl
   . intro v' w' ho' hg' _;refine h _ _ (Bv.aqL (base:=W.heap.size) (e:=5) ?_ hlt) (λb o n c e=>eJ ho' b (by rw[e];rfl)) (hb0.grown hg' zm (λj e=>eJ hone j e));rw[<-Yq n r c hc];exact ho'
theorem aj2 (l m:List UInt8)(w:World)(hl:l.length<=68719476736)(hm:m.length<=68719476736)(h0:0<nv m):
 Calls Tryz.prog 167 #[.string (bs l),.string (bs m)] w λe w'=>e=.returned (.tuple #[.string (bs (nt (nv l/nv m))),.string (bs (nt (nv l%nv m))),.bool true])/\Bw w w':=by
 obtain⟨i0,hi,hz0,hz1,hz2⟩:=info_parts Tryz.aqI;have hL:=Nat.le_trans (iJ (yu l)) (show 8*l.length<=549755813888 by omega);have hU:=Nat.le_trans (iJ (yu m)) (show 8*m.length<=549755813888 by omega);have hb1:=Ch l w hl;have hb2:=λW=>Ch m W hm;generalize nv l=v at*;generalize nv m=u at*;have hUp:=Dp h0;have SE:=oz v;generalize hLe:aU v=L at*;generalize Tb:aU u=U at*;obtain⟨H1,H2,pK,OM⟩:=dt hb1 hb2 SE Tb;clear hb1 hb2 SE hLe Tb;have hmk:=ut (L:Int) L rfl zo;have hU0:((U:Int)==0)=false:=by simp;omega
 go_enter Tryz.func167,Tryz.ntmps167;go_wp2_with fail;refine H1.out.mono ?_;rintro e w1 ⟨⟨X,rfl,hX⟩,TF⟩;go_wp2_with fail;refine(H2.out w1).mono ?_;rintro e w2 ⟨⟨Y,rfl,hY⟩,xX⟩;obtain⟨HX,HY,Hw⟩:=cP (hX.below xX) hY (aG TF xX);clear hX hY TF xX;obtain⟨ax,cx,rfl⟩:=HX.out.len;obtain⟨ay,cy,rfl⟩:=HY.out.len;go_wp2_with fail;go_loopw[10,11] (λz i wr=>∃k:Nat,k<=L/\i=.int .i64 ((k:Int)-1)/\Bv wr z (aU (v/2^k%u)) (v/2^k%u)/\zZ z (w2.heap.size+1)/\ag wr w2.heap.size 5 (cG L (λj=>if k<=j then bd (v/u) j else 0))/\Bw w2 wr) (λ_ i _=>(intOf i+1).toNat);case atStart=>
  refine⟨L,Nat.le_refl _,by go_num,?_,(λb o n c e=>by cases e),?_,zl⟩
  . rw[Nat.div_eq_of_lt pK.out,Nat.zero_mod];exact⟨by simp[aU],.inl ⟨rfl,rfl⟩⟩
  . have e:cG L (λj=>if L<=j then bd (v/u) j else 0)=cG L λ_=>0:=nR λj hj=>by rw[if_neg zo]
    rw[e];exact ag.new _ _ _
 case round=>
  obtain⟨k,hk,rfl,hz,hzl,hB,hb⟩:=hrel;by_cases eY:0<k
  . obtain⟨j,rfl⟩:∃j,k=j+1:=⟨k-1,by omega⟩;obtain⟨r,c,q,e1,e2,e3,e4,e5⟩:=ahW v u j h0;have e6:=ahV v u j;have hr:r<u:=by rw[<-e1];exact Nat.mod_lt _ h0
    have hc1:c<=1:=by rw[<-e2];exact tE v j
    rw[e1]at hz;rw[e5]at e6;obtain⟨S,hS⟩:=az (2*r+c);rw[hS]at e4 e6;have pj:aU r<=549755813888:=Nat.le_trans (QL (Nat.le_of_lt hr)) (by rw[OM.out];omega);have hSb:aU S<=549755813889:=by rw[<-hS];exact Nat.le_trans (adl r c hc1) zo
    obtain⟨bx,ox,cx',nK,jb⟩:=HX.out.cells zo;obtain⟨rfl,rfl⟩:ax=some ⟨bx,ox,none⟩/\cx=cx':=by simp only[Value.slice.injEq]at nK;exact⟨nK.1,nK.2.2⟩
    have hcell:wr.cell? ⟨bx,ox+j,none⟩=some (.int .u8 (c:Int)):=by rw[<-e2];exact cell_later hb (jb j zo)
    have aX:=BN L cx j (j:Int) (rfl:(some ⟨bx,ox,none⟩:Option Addr)=_) zo rfl;rw[Nat.mul_one]at aX;obtain⟨Hz,HB,Hb,CM,CN,HS⟩:=iB hz hB hb e4 e6 hS;have hs0:=hb.size;have LZ:=hB.lt;have hj:((j+1:Nat):Int)-1=(j:Int):=by omega
    rw[hj];clear hz hB hb e1 e2 e3 e4 e5 e6 hS nK jb hj eY;go_wp2_with (first| (at_builtin;refine al2 rfl _ _ rfl _ u10 (aU r) r c hc1 zo Hz.out rfl rfl ?_;intro v' w3 hv' Uq hb3));rw[HS.out]at hv';obtain⟨Hv',Hl3,eo⟩:=cP hv' Uq hb3;have hs3:=hb3.size;clear hv' Uq hb3 hzl hcell aX;refine(Nq v' (1+aU r) S w3 zo Hv'.out).mono ?_;rintro e w' ⟨⟨z,rfl,hz,hzl⟩,rfl⟩;obtain⟨eF,Hzl⟩:=aJ hz (hzl _ Hl3.out);clear hz hzl;obtain⟨OQ,iV⟩:=aJ (HY.out.below (aG Hb.out eo.out)) (HB.out.below eo.out);go_wp2_with fail;refine(aj1 z _ (aU S) U S u w3 eF.out OQ.out zo zo).mono ?_;rintro e w' ⟨rfl,rfl⟩;by_cases hge:u<=S
    . have hc0:0<=cJ S u:=(Ra S u).2 hge;generalize cJ S u=ci at*;rw[if_pos hge]at CM CN;go_wp2_with fail;refine(akc z _ (aU S) U S u w3 eF.out OQ.out zo zo hge).mono ?_;rintro e w4 ⟨⟨t,rfl,ht,htl⟩,hb4⟩;obtain⟨Ht,Jb,pG⟩:=cP ht htl hb4;clear ht htl hb4;go_wp2_with fail;refine(Nq t (aU S) (S-u) w4 zo Ht.out).mono ?_;rintro e w' ⟨⟨t2,rfl,ht2,Vt⟩,rfl⟩;obtain⟨CZ,Qe⟩:=aJ ht2 (Vt _ Jb.out);clear ht2 Vt;have hB4:=iV.out.below pG.out;have q0:w4.cell? ⟨w2.heap.size,j,none⟩=some (.int .u8 0):=by rw[hB4.cell,kM _ _ _ zo,if_neg zo];rfl
      have qf:w4.frozen? ⟨w2.heap.size,j,none⟩=false:=hB4.free _;have lD:=BN L L j (j:Int) (rfl:(some ⟨w2.heap.size,0,none⟩:Option Addr)=_) zo rfl;rw[Nat.mul_one,Nat.zero_add]at lD;have Ks:=hB4.set j (.int .u8 ((1:Nat):Int))
      rw[Cq,nR (g:=λi=>if j<=i then bd (v/u) i else 0) λi hi=>by
       by_cases e:i=j
       . subst e;rw[if_pos rfl,if_pos (Nat.le_refl _),CN.out];omega
       . rw[if_neg e];by_cases e2:j+1<=i
         . rw[if_pos e2,if_pos zo]
         . rw[if_neg e2,if_neg zo]]at Ks
      have ko:=af Ks;clear hB4 Ks;go_wp2;go_roundw;case rel=>
       refine⟨j,by omega,by go_num,?_,?_,ko.out,?_⟩
       . rw[CM.out];exact CZ.out.aqG (λb o n c e=>by have:=Qe.out b o n c e;dsimp only;omega) _
       . exact λb o n c e=>by have:=Qe.out b o n c e;omega
       . exact(aG (aG Hb.out eo.out) pG.out).setCell (Nat.le_refl _) _
      case measure=>simp[intOf]
    . have hc0:¬0<=cJ S u:=fun h=>hge ((Ra S u).1 h);generalize cJ S u=ci at*;rw[if_neg hge]at CM CN;have ko:Hid (ag w3 w2.heap.size 5 (cG L (fun i=>if j<=i then bd (v/u) i else 0))):=by
       show ag _ _ _ _
       rw[nR (g:=λi=>if j+1<=i then bd (v/u) i else 0) λi hi=>by
        by_cases e:i=j
        . subst e;rw[if_pos (Nat.le_refl _),if_neg zo,CN.out];omega
        . by_cases e2:j+1<=i
          . rw[if_pos e2,if_pos zo]
          . rw[if_neg e2,if_neg zo]]
       exact iV.out
      go_wp2;go_roundw;case rel=>exact⟨j,by omega,by go_num,by rw[CM.out];exact eF.out,(λb o n c e=>by have:=Hzl.out b o n c e;omega),ko.out,aG Hb.out eo.out⟩
      case measure=>simp[intOf]
  . obtain rfl:k=0:=by omega
    have hq:v/u<2^L:=Nat.lt_of_le_of_lt (Nat.div_le_self v u) pK.out;rw[nR (g:=bd (v/u)) λj hj=>by rw[if_pos (Nat.zero_le _)]]at hB;have Hq:=af (Bv.aqF hB hq);have e0:v/2^0%u=v%u:=by simp
    rw[e0]at hz;have pj:aU (v%u)<=549755813888:=Nat.le_trans (QL (Nat.le_of_lt (Nat.mod_lt v h0))) (by rw[OM.out];omega);obtain⟨Hz,Hb⟩:=aJ hz hb;clear hB hq hz hb e0 hzl;go_wp2_with fail;refine(Cj _ L (v/u) wr zo Hq.out).mono ?_;rintro e w3 ⟨rfl,hb3⟩;go_wp2_with fail;refine(Cj u10 (aU (v%u)) (v%u) w3 zo (Hz.out.below hb3)).mono ?_;rintro e w4 ⟨rfl,hb4⟩;have gZ:=af (aG Hw.out (aG Hb.out (aG hb3 hb4)));clear hb3 hb4;go_wp2;go_ret3
    exact⟨rfl,gZ.out⟩
theorem aj5 (l:List UInt8)(w:World)(hl:l.length<=68719476736):
 Calls Tryz.prog 82 #[.agg #[.bool false,.string (bs l)]] w λe w'=>e=.returned (.agg #[.bool (false),.string (bs (nt (nv l)))])/\Bw w w':=by
 have hb:=Nat.le_trans (iJ (yu l)) (show 8*l.length<=1099511627776 by omega);have h1:=Ch l;obtain⟨v,hv⟩:=az (nv l);rw[hv]at hb⊢;simp only[hv]at h1;obtain⟨m,hm⟩:=az (nt v);have he:=rG m;obtain⟨t,ht⟩:=az m.isEmpty;obtain⟨H1,Hm⟩:=aJ h1 hm;clear h1 hv;rw[hm];rw[ht]at he;clear hm ht;obtain⟨W,cL,Hb,Hx,Hr⟩:=jF w 32 [.bool false,.string (bs l)] 32 [.bool false,.string ⟨#[]⟩];obtain⟨x0,x1⟩:=Hx.out.c2;obtain⟨r0,ah,r1,ai⟩:=Hr.out.g2;go_enter Tryz.func82,Tryz.ntmps82;go_wp2_with fail;refine(H1.out _ zo).mono ?_;rintro e w1 ⟨⟨y,rfl,hy⟩,ae⟩;clear x0 x1 r0 ah r1 ai;replace Hx:=kB Hx ae;replace Hr:=kB Hr ae;obtain⟨x0,x1⟩:=Hx.out.c2;obtain⟨r0,ah,r1,ai⟩:=Hr.out.g2;replace Hb:=ak Hb ae;clear ae;have Hy:=af hy;clear hy;go_wp2_with fail;refine(Cj y _ _ _ hb Hy.out).mono ?_;rintro e w2 ⟨rfl,ae⟩;clear x0 x1 r0 ah r1 ai;replace Hx:=kB Hx ae;replace Hr:=kB Hr ae;obtain⟨x0,x1⟩:=Hx.out.c2;obtain⟨r0,ah,r1,ai⟩:=Hr.out.g2;replace Hb:=ak Hb ae;clear ae;rw[Hm.out];go_wp2;clear x0 x1 r0 ah r1 ai;refine eK (bf w2 (w.heap.size+1) 0 [.bool (false),.string (bs m)]) bI ?_;intro w9 hs;replace Hx:=kS Hx hs zo;replace Hr:=cp Hr hs;obtain⟨x0,x1⟩:=Hx.out.c2;obtain⟨r0,ah,r1,ai⟩:=Hr.out.g2;replace Hb:=bS Hb hs ZS;clear hs;refine bodyPost_ret (v:=.agg #[.bool (false),.string (bs m)]) (by simp[results,Tryz.results82,go_sem,r0,r1]) rfl ⟨rfl,Hb.out⟩
theorem aj6 (l:List UInt8)(w:World)(hl:l.length<=68719476736):
 Calls Tryz.prog 82 #[.agg #[.bool true,.string (bs l)]] w λe w'=>e=.returned (.agg #[.bool (!(nt (nv l)).isEmpty),.string (bs (nt (nv l)))])/\Bw w w':=by
 have hb:=Nat.le_trans (iJ (yu l)) (show 8*l.length<=1099511627776 by omega);have h1:=Ch l;obtain⟨v,hv⟩:=az (nv l);rw[hv]at hb⊢;simp only[hv]at h1;obtain⟨m,hm⟩:=az (nt v);have he:=rG m;obtain⟨t,ht⟩:=az m.isEmpty;obtain⟨H1,Hm⟩:=aJ h1 hm;clear h1 hv;rw[hm,ht];rw[ht]at he;clear hm ht;obtain⟨W,cL,Hb,Hx,Hr⟩:=jF w 32 [.bool true,.string (bs l)] 32 [.bool false,.string ⟨#[]⟩];obtain⟨x0,x1⟩:=Hx.out.c2;obtain⟨r0,ah,r1,ai⟩:=Hr.out.g2;go_enter Tryz.func82,Tryz.ntmps82;go_wp2_with fail;refine(H1.out _ zo).mono ?_;rintro e w1 ⟨⟨y,rfl,hy⟩,ae⟩;clear x0 x1 r0 ah r1 ai;replace Hx:=kB Hx ae;replace Hr:=kB Hr ae;obtain⟨x0,x1⟩:=Hx.out.c2;obtain⟨r0,ah,r1,ai⟩:=Hr.out.g2;replace Hb:=ak Hb ae;clear ae;have Hy:=af hy;clear hy;go_wp2_with fail;refine(Cj y _ _ _ hb Hy.out).mono ?_;rintro e w2 ⟨rfl,ae⟩;clear x0 x1 r0 ah r1 ai;replace Hx:=kB Hx ae;replace Hr:=kB Hr ae;obtain⟨x0,x1⟩:=Hx.out.c2;obtain⟨r0,ah,r1,ai⟩:=Hr.out.g2;replace Hb:=ak Hb ae;clear ae;rw[Hm.out];go_wp2;clear x0 x1 r0 ah r1 ai;refine eK (bf w2 (w.heap.size+1) 0 [.bool (!t),.string (bs m)]) bI ?_;intro w9 hs;replace Hx:=kS Hx hs zo;replace Hr:=cp Hr hs;obtain⟨x0,x1⟩:=Hx.out.c2;obtain⟨r0,ah,r1,ai⟩:=Hr.out.g2;replace Hb:=bS Hb hs ZS;clear hs;refine bodyPost_ret (v:=.agg #[.bool (!t),.string (bs m)]) (by simp[results,Tryz.results82,go_sem,r0,r1]) rfl ⟨rfl,Hb.out⟩
theorem FO (s:Bool)(l:List UInt8)(w:World)(hl:l.length<=68719476736):
 Calls Tryz.prog 82 #[.agg #[.bool s,.string (bs l)]] w λe w'=>e=.returned (.agg #[.bool (s&& !(nt (nv l)).isEmpty),.string (bs (nt (nv l)))])/\Bw w w':=by
 cases s
 . exact aj5 l w hl
 . exact aj6 l w hl
theorem FQ (n:Nat)(w:World)(hn:n<=9223372036854775807):
 Calls Tryz.prog 31 #[.int .i64 (n:Int)] w λe w'=>e=.returned (.agg #[.bool false,.string (bs (nt n))])/\Bw w w':=by
 have h1:=λW=>ake n W (by rw[il];omega);have H1:=af h1;clear h1;have hw:IntKind.u64.wrap (n:Int)=(n:Int):=by rw[IntKind.wrap_u64];omega
 obtain⟨m,hm⟩:=az (nt n);rw[hm];have Hm:=af hm;clear hm;obtain⟨W,cL,Hb,Hr⟩:=gX w 32 [.bool false,.string ⟨#[]⟩];obtain⟨r0,ah,r1,ai⟩:=Hr.out.g2;go_enter Tryz.func31,Tryz.ntmps31;go_wp2_with fail;refine(H1.out _).mono ?_;rintro e w1 ⟨rfl,ae⟩;clear r0 ah r1 ai;replace Hr:=kB Hr ae;obtain⟨r0,ah,r1,ai⟩:=Hr.out.g2;replace Hb:=ak Hb ae;clear ae;rw[Hm.out];go_wp2;clear r0 ah r1 ai;refine eK (bf w1 (w.heap.size) 0 [.bool false,.string (bs m)]) bI ?_;intro w9 hs;replace Hr:=cp Hr hs;obtain⟨r0,ah,r1,ai⟩:=Hr.out.g2;replace Hb:=bS Hb hs ZS;clear hs;refine bodyPost_ret (v:=.agg #[.bool false,.string (bs m)]) (by simp[results,Tryz.results31,go_sem,r0,r1]) rfl ⟨rfl,Hb.out⟩
theorem aj8 (l:List UInt8)(w:World)(hl:l.length<=68719476736):
 Calls Tryz.prog 89 #[.string (bs l)] w λe w'=>e=.returned (.int .i64 (aU (nv l):Int))/\Bw w w':=by
 go_enter Tryz.func89,Tryz.ntmps89;go_wp2_with fail;refine(Ch l w hl).mono ?_;rintro e w1 ⟨⟨y,rfl,hy⟩,ae⟩;obtain⟨a,cap,rfl⟩:=hy.len;have Hb:=af ae;clear hy ae;go_wp2;go_ret;exact⟨rfl,Hb.out⟩
theorem akf (s:Bool)(l:List UInt8)(w:World)(hl:l.length<=68719476736)(h0:nv l=0):
 Calls Tryz.prog 48 #[.agg #[.bool s,.string (bs l)]] w λe w'=>e=.returned (.int .i64 0)/\Bw w w':=by
 have h1:=aj8 l;rw[h0]at h1;have H1:=af h1;clear h1 h0;obtain⟨W,cL,Hb,Hx⟩:=gX w 32 [.bool s,.string (bs l)];obtain⟨x0,x1⟩:=Hx.out.c2;go_enter Tryz.func48,Tryz.ntmps48;go_wp2_with fail;refine(H1.out _ hl).mono ?_;rintro e w1 ⟨rfl,ae⟩;clear x0 x1;replace Hx:=kB Hx ae;obtain⟨x0,x1⟩:=Hx.out.c2;replace Hb:=ak Hb ae;clear ae;rw[adm];go_wp2;go_ret;exact⟨rfl,Hb.out⟩
theorem aj7 (s:Bool)(n:Nat)(w:World)(h0:0<n)(hl:(nt (2*n)).length<=68719476736):
 Calls Tryz.prog 118 #[.agg #[.bool s,.string (bs (nt (2*n)))],.agg #[.bool false,.string (bs (nt 2))]] w λe w'=>e=.returned (.tuple #[.agg #[.bool s,.string (bs (nt n))],.agg #[.bool false,.string (bs [])],.bool true])/\Bw w w':=by
 have hd:=λW=>aj2 (nt (2*n)) (nt 2) W hl zd (by rw[iG];decide);simp only[iG]at hd;have e1:2*n/2=n:=by omega
 have e2:2*n%2=0:=by omega
 rw[e1,e2,wA]at hd;have vN:(nt n).length<=68719476736:=Nat.le_trans (lL (Nat.lt_of_le_of_lt (show n<=2*n by omega) (ah6 (2*n)))) hl;have hf:=λW=>FO s (nt n) W vN;have hg:=λW=>FO s [] W zd;have hs:=λW=>akf false [] W zd rfl;simp only[iG,ux,wA,List.isEmpty_nil,Bool.not_true,Bool.and_false]at hf hg;have e3:(nt n).isEmpty=false:=by
  have:=Fz h0;cases h:nt n with
  |nil=>exact absurd h this
  |cons a b=>rfl
 rw[e3]at hf;simp only[Bool.not_false,Bool.and_true]at hf;generalize nt (2*n)=L at*;generalize nt n=M at*;generalize nt 2=T at*;obtain⟨Hd,Hf,Hg,Hs⟩:=dt hd hf hg hs;clear hd hf hg hs e1 e2 e3 hl vN;have hne:(s !=false)=s:=by cases s<;>rfl
 obtain⟨W,cL,Hb,Hx,Hy,Hp,Hq⟩:=BV w 32 [.bool s,.string (bs L)] 32 [.bool false,.string (bs T)] 32 [.bool false,.string ⟨#[]⟩] 32 [.bool false,.string ⟨#[]⟩];obtain⟨x0,x1⟩:=Hx.out.c2;obtain⟨y0,y1⟩:=Hy.out.c2;obtain⟨p0,jM,p1,jN⟩:=Hp.out.g2;obtain⟨q0,bF,q1,bG⟩:=Hq.out.g2;go_enter Tryz.func118,Tryz.ntmps118;go_wp2_with fail;refine(Hd.out _).mono ?_;rintro e w1 ⟨rfl,ae⟩;clear x0 x1 y0 y1 p0 jM p1 jN q0 bF q1 bG;replace Hx:=kB Hx ae;replace Hy:=kB Hy ae;replace Hp:=kB Hp ae;replace Hq:=kB Hq ae;obtain⟨x0,x1⟩:=Hx.out.c2;obtain⟨y0,y1⟩:=Hy.out.c2;obtain⟨p0,jM,p1,jN⟩:=Hp.out.g2;obtain⟨q0,bF,q1,bG⟩:=Hq.out.g2;replace Hb:=ak Hb ae;clear ae;go_wp2_with fail;refine(Hf.out _).mono ?_;rintro e w2 ⟨rfl,ae⟩;clear x0 x1 y0 y1 p0 jM p1 jN q0 bF q1 bG;replace Hx:=kB Hx ae;replace Hy:=kB Hy ae;replace Hp:=kB Hp ae;replace Hq:=kB Hq ae;obtain⟨x0,x1⟩:=Hx.out.c2;obtain⟨y0,y1⟩:=Hy.out.c2;obtain⟨p0,jM,p1,jN⟩:=Hp.out.g2;obtain⟨q0,bF,q1,bG⟩:=Hq.out.g2;replace Hb:=ak Hb ae;clear ae;have Ws:=Hx.out.lt;have apL:=Hy.out.lt;have apg:=Hp.out.lt;have apm:=Hq.out.lt;obtain⟨W2,kz,ae,Hu⟩:=bH w2 32 [.bool s,.string (bs M)];clear x0 x1;replace Hx:=kB Hx ae;clear y0 y1;replace Hy:=kB Hy ae;clear p0 jM p1 jN;replace Hp:=kB Hp ae;clear q0 bF q1 bG;replace Hq:=kB Hq ae;obtain⟨x0,x1⟩:=Hx.out.c2;obtain⟨y0,y1⟩:=Hy.out.c2;obtain⟨p0,jM,p1,jN⟩:=Hp.out.g2;obtain⟨q0,bF,q1,bG⟩:=Hq.out.g2;obtain⟨u0,u1⟩:=Hu.out.c2;replace Hb:=ak Hb ae;clear ae;go_wp2_with fail;refine(Hg.out _).mono ?_;rintro e w3 ⟨rfl,ae⟩;clear x0 x1 y0 y1 p0 jM p1 jN q0 bF q1 bG u0 u1;replace Hx:=kB Hx ae;replace Hy:=kB Hy ae;replace Hp:=kB Hp ae;replace Hq:=kB Hq ae;replace Hu:=kB Hu ae;obtain⟨x0,x1⟩:=Hx.out.c2;obtain⟨y0,y1⟩:=Hy.out.c2;obtain⟨p0,jM,p1,jN⟩:=Hp.out.g2;obtain⟨q0,bF,q1,bG⟩:=Hq.out.g2;obtain⟨u0,u1⟩:=Hu.out.c2;replace Hb:=ak Hb ae;clear ae;have aij:=Hx.out.lt;have ain:=Hy.out.lt;have aie:=Hp.out.lt;have apn:=Hq.out.lt;have apC:=Hu.out.lt;obtain⟨W3,KV,ae,Hv⟩:=bH w3 32 [.bool false,.string (bs [])];clear x0 x1;replace Hx:=kB Hx ae;clear y0 y1;replace Hy:=kB Hy ae;clear p0 jM p1 jN;replace Hp:=kB Hp ae;clear q0 bF q1 bG;replace Hq:=kB Hq ae;clear u0 u1;replace Hu:=kB Hu ae;obtain⟨x0,x1⟩:=Hx.out.c2;obtain⟨y0,y1⟩:=Hy.out.c2;obtain⟨p0,jM,p1,jN⟩:=Hp.out.g2;obtain⟨q0,bF,q1,bG⟩:=Hq.out.g2;obtain⟨u0,u1⟩:=Hu.out.c2;obtain⟨v0,v1⟩:=Hv.out.c2;replace Hb:=ak Hb ae;clear ae;go_wp2_with fail;refine(Hs.out _).mono ?_;rintro e w4 ⟨rfl,ae⟩;clear x0 x1 y0 y1 p0 jM p1 jN q0 bF q1 bG u0 u1 v0 v1;replace Hx:=kB Hx ae;replace Hy:=kB Hy ae;replace Hp:=kB Hp ae;replace Hq:=kB Hq ae;replace Hu:=kB Hu ae;replace Hv:=kB Hv ae;obtain⟨x0,x1⟩:=Hx.out.c2;obtain⟨y0,y1⟩:=Hy.out.c2;obtain⟨p0,jM,p1,jN⟩:=Hp.out.g2;obtain⟨q0,bF,q1,bG⟩:=Hq.out.g2;obtain⟨u0,u1⟩:=Hu.out.c2;obtain⟨v0,v1⟩:=Hv.out.c2;replace Hb:=ak Hb ae;clear ae;go_wp2_with fail;have lp:=Hp.out.lt;have lq:=Hq.out.lt;refine cf (λw'=>w'.cell? ⟨w2.heap.size,0,none⟩=some (.bool s)/\w'.cell? ⟨w2.heap.size,1,none⟩=some (.string (bs M))/\w'.cell? ⟨w3.heap.size,0,none⟩=some (.bool false)/\w'.cell? ⟨w3.heap.size,1,none⟩=some (.string (bs []))) (λi=>Nat.blt i 3) [(0,true),(1,true),(2,false),(3,false),(4,false)] zk zk rfl zk zc ⟨u0,u1,v0,v1⟩ ?_;iterate 2 (refine pT rfl rfl ?_ (by intro w' ⟨q0,q1,q2,q3⟩;go_simp;try with_reducible rfl);try simp only[UU])
 refine aF rfl rfl (λK hK=>?_);go_simp;refine hK _ _ (λ_=>⟨(aC zf (aC zf u0)),(aC zf (aC zf u1)),(aC zf (aC zf v0)),(aC zf (aC zf v1))⟩) ?_;clear hK K;try simp only[UU]
 clear x0 x1 y0 y1 p0 jM p1 jN q0 bF q1 bG u0 u1 v0 v1;refine cj (bf w4 (w.heap.size+1+1) 0 [.bool s,.string (bs M)]) bI ?_;intro w5 hs;replace Hx:=kS Hx hs zo;replace Hy:=kS Hy hs zo;replace Hp:=cp Hp hs;replace Hq:=kS Hq hs zo;replace Hu:=kS Hu hs zo;replace Hv:=kS Hv hs zo;obtain⟨x0,x1⟩:=Hx.out.c2;obtain⟨y0,y1⟩:=Hy.out.c2;obtain⟨p0,jM,p1,jN⟩:=Hp.out.g2;obtain⟨q0,bF,q1,bG⟩:=Hq.out.g2;obtain⟨u0,u1⟩:=Hu.out.c2;obtain⟨v0,v1⟩:=Hv.out.c2;replace Hb:=bS Hb hs ZS;clear hs;refine aF rfl rfl (λK hK=>?_);go_simp;refine hK _ _ (λh=>absurd h zd) ?_;clear hK K;try simp only[UU]
 clear x0 x1 y0 y1 p0 jM p1 jN q0 bF q1 bG u0 u1 v0 v1;refine cj (bf w5 (w.heap.size+1+1+1) 0 [.bool false,.string (bs [])]) bI ?_;intro w6 hs;replace Hx:=kS Hx hs zo;replace Hy:=kS Hy hs zo;replace Hp:=kS Hp hs zo;replace Hq:=cp Hq hs;replace Hu:=kS Hu hs zo;replace Hv:=kS Hv hs zo;obtain⟨x0,x1⟩:=Hx.out.c2;obtain⟨y0,y1⟩:=Hy.out.c2;obtain⟨p0,jM,p1,jN⟩:=Hp.out.g2;obtain⟨q0,bF,q1,bG⟩:=Hq.out.g2;obtain⟨u0,u1⟩:=Hu.out.c2;obtain⟨v0,v1⟩:=Hv.out.c2;replace Hb:=bS Hb hs ZS;clear hs;refine aF rfl rfl (λK hK=>?_);go_simp;refine hK _ _ (λh=>absurd h zd) ?_;clear hK K;try simp only[UU]
 simp only[aN];go_wp2;refine bodyPost_ret (v:=.tuple #[.agg #[.bool s,.string (bs M)],.agg #[.bool false,.string (bs [])],.bool true]) (by simp[results,Tryz.results118,go_sem,p0,p1,q0,q1]) rfl ⟨rfl,Hb.out⟩
def cc (v u k:Nat):Nat:=(v%2^k+u%2^k)/2^k
end Go.Proofs.YtoopepmmepmfnaaGreatDoor
