/- Package ogeeref01: Div. -/
import Derived.Test.YtdaadlblknpipaaGreatDoorZ12
import Derived.Laws.AppendOwnNone
set_option linter.unusedVariables false
set_option linter.unusedSimpArgs false
set_option maxRecDepth 100000
set_option maxHeartbeats 16000000
namespace Go.Proofs.YtdaadlblknpipaaGreatDoor
open Go.RowKit
attribute [local go_sem ↓] Go.wp_at_zero Go.wp_at_succ
theorem abX (r c:Nat)(hc:c<=1):bd (2*r+c) 0=c/\∀j,bd (2*r+c) (j+1)=bd r j:=by unfold bd;refine⟨by simp;omega,λj=>?_⟩;rw[Nat.pow_succ',<-Nat.div_div_eq_div_mul,show(2*r+c)/2=r by omega]
theorem XA (n r c:Nat)(hc:c<=1):[.int .u8 (c:Int)]++cn n (bd r)=cn (1+n) (bd (2*r+c)):=by
 obtain⟨h0,h1⟩:=abX r c hc;apply List.ext_getElem?;intro j;cases j with
 |zero=>rw[kg _ _ _ zo,h0];rfl
 | succ j=>
   rw[List.getElem?_append_right zm];simp only[List.length_singleton,Nat.add_sub_cancel];by_cases hj:j<n
   . rw[kg _ _ _ hj,kg _ _ _ zo,h1]
   . rw[List.getElem?_eq_none (by rw[Dn];omega),List.getElem?_eq_none (by rw[Dn];omega)]
theorem ahV (W:World)(base:Nat)(e:TypeId)(x:Value)(hb:base<=W.heap.size):(W.alloc (.cells #[x] e)).ownsRow base e 1 (.slice (some ⟨W.heap.size,0,none⟩) 1 1) 1 [x]:=
 ⟨rfl,.inr ⟨W.heap.size,1,#[x],rfl,hb,heap_alloc_new W _,Nat.le_refl _,by simp[maxLen],rfl,rfl⟩⟩
theorem QR (S u:Nat):(0<=cK S u)↔u<=S:=by
 unfold cK;by_cases h1:S<u
 . rw[if_pos h1];omega
 . rw[if_neg h1];by_cases h2:u<S
   . rw[if_pos h2];omega
   . rw[if_neg h2];omega
theorem Bv.cells {w:World}{x:Value}{n v:Nat}(h:Bv w x n v)(hn:0<n):∃b o cap,x=.slice (some ⟨b,o,none⟩) n cap/\∀j,j<n->w.cell? ⟨b,o+j,none⟩=some (.int .u8 (bd v j:Int)):=by
 rcases h.2 with⟨_,h2⟩ |⟨b,o,cap,h1,_,h3⟩
 . omega
 . exact⟨b,o,cap,h1,h3⟩
theorem Bv.an5 {w:World}{x:Value}{n v:Nat}(h:Bv w x n v){a:Addr}(hne:∀b o n c,x=.slice (some ⟨b,o,none⟩) n c->b≠a.block)(y:Value):Bv (w.setCell a y) x n v:=by
 refine⟨h.1,?_⟩;rcases h.2 with h|⟨b,o,cap,e,h1,hc⟩
 . exact .inl h
 . exact .inr ⟨b,o,cap,e,h1,λj hj=>fc (hne b o n cap e) (hc j hj)⟩
theorem akK {ops:Array Oper}{rest:List Oper}{o:Oper}{a:Act}{Q:Exit->Act->World->Prop}(hgd:o.guard=none)(s x:Operand)
 (ho:o.op=.call {callee:=.builtin .append,args:=#[s,x],argTypes:=#[111,111]}) (W:World) (z:Value) (n r c:Nat) (hc:c<=1) (hn:n<=1099511627776) (hz:Bv W z n r)
 (hs:a.eval s=.slice (some ⟨W.heap.size,0,none⟩) 1 1) (hx:a.eval x=z)
 (h:∀v' w',Bv w' v' (1+n) (2*r+c)->AW v' W.heap.size->Bw W w'->wpList Tryz.prog ops Q rest (a.put o.dst v') w'):wpList Tryz.prog ops Q (o::rest) a (W.alloc (.cells #[.int .u8 (c:Int)] 5)):=by
 obtain⟨i0,hi,hz0,hz1,hz2⟩:=info_parts Tryz.aoa;have hlt:2*r+c<2^(1+n):=by have:=hz.1;rw[Nat.add_comm 1 n,Nat.pow_succ];omega
 have hone:=ahV W W.heap.size 5 (.int .u8 (c:Int)) (Nat.le_refl _);have hb0:Bw W (W.alloc (.cells #[.int .u8 (c:Int)] 5)):=zl;rcases hz.2 with⟨rfl,rfl⟩ |⟨b,oo,cap,rfl,h1,hcs⟩
 . refine wpList_append_own_none hgd s x 111 ho W.heap.size 5 i0 1 Tryz.underlying111 hi _ 1 _ hs hone hx ?_;refine h _ _ (Bv.aod (base:=W.heap.size) (e:=5) ?_ hlt) (λb o n c e=>by cases e;exact Nat.le_refl _) hb0;rw[<-XA 0 r c hc];exact hone
 . refine wpList_append_own _ hgd s x 111 ho W.heap.size 5 i0 (.int .u8 0) 1 1 Tryz.underlying111 hi hz0 hz1 hz2 rfl zd _ 1 _ hs hone ⟨b,oo,none⟩ n cap (cn n (bd r)) hx (by rw[Dn,Nat.mul_one]) ?_ ?_ zx zo zm ?_
   . intro j u hj;have jT:j<n:=by
      rcases Nat.lt_or_ge j n with h|h
      . exact h
      . rw[List.getElem?_eq_none (by rw[Dn];exact h)]at hj;cases hj
     rw[kg _ _ _ jT]at hj;cases hj
     have e2:((⟨b,oo,none⟩:Addr).add j)=⟨b,oo+j,none⟩:=by simp[Addr.add]
     rw[e2];exact aI (hcs j jT)
   . intro u hu;unfold cn at hu;rw[List.mem_map]at hu;obtain⟨j,_,rfl⟩:=hu;rfl
   . intro v' w' ho' hg' _;refine h _ _ (Bv.aod (base:=W.heap.size) (e:=5) ?_ hlt) (λb o n c e=>cL ho' b (by rw[e];rfl)) (hb0.grown hg' zm (λj e=>cL hone j e));rw[<-XA n r c hc];exact ho'
theorem aiM (l m:List UInt8)(w:World)(hl:l.length<=68719476736)(hm:m.length<=68719476736)(h0:0<nv m):
 Calls Tryz.prog 153 #[.string (bs l),.string (bs m)] w λe w'=>e=.returned (.tuple #[.string (bs (nt (nv l/nv m))),.string (bs (nt (nv l%nv m))),.bool true])/\Bw w w':=by
 obtain⟨i0,hi,hz0,hz1,hz2⟩:=info_parts Tryz.aoa;have hL:=Nat.le_trans (fO (mA l)) (show 8*l.length<=549755813888 by omega);have hU:=Nat.le_trans (fO (mA m)) (show 8*m.length<=549755813888 by omega);have hb1:=nk l w hl;have hb2:=λW=>nk m W hm;generalize nv l=v at*;generalize nv m=u at*;have hUp:=Bf h0;have Sd:=nS v;generalize hLe:bu v=L at*;generalize SD:bu u=U at*;obtain⟨H1,H2,xO,OX⟩:=dO hb1 hb2 Sd SD;clear hb1 hb2 Sd hLe SD;have hmk:=qR (L:Int) L rfl zo;have hU0:((U:Int)==0)=false:=by simp;omega
 go_enter Tryz.func153,Tryz.ntmps153;go_wp2_with fail;refine H1.out.mono ?_;rintro e w1 ⟨⟨X,rfl,hX⟩,Td⟩;go_wp2_with fail;refine(H2.out w1).mono ?_;rintro e w2 ⟨⟨Y,rfl,hY⟩,yw⟩;obtain⟨HX,HY,Hw⟩:=cH (hX.below yw) hY (aK Td yw);clear hX hY Td yw;obtain⟨ax,cx,rfl⟩:=HX.out.len;obtain⟨ay,cy,rfl⟩:=HY.out.len;go_wp2_with fail;go_loopw[10,11] (λz i wr=>∃k:Nat,k<=L/\i=.int .i64 ((k:Int)-1)/\Bv wr z (bu (v/2^k%u)) (v/2^k%u)/\AW z (w2.heap.size+1)/\ai wr w2.heap.size 5 (cn L (λj=>if k<=j then bd (v/u) j else 0))/\Bw w2 wr) (λ_ i _=>(intOf i+1).toNat);case atStart=>
  refine⟨L,Nat.le_refl _,by go_num,?_,(λb o n c e=>by cases e),?_,zl⟩
  . rw[Nat.div_eq_of_lt xO.out,Nat.zero_mod];exact⟨by simp[bu],.inl ⟨rfl,rfl⟩⟩
  . have e:cn L (λj=>if L<=j then bd (v/u) j else 0)=cn L λ_=>0:=lL λj hj=>by rw[if_neg zo]
    rw[e];exact ai.new _ _ _
 case round=>
  obtain⟨k,hk,rfl,hz,hzl,hB,hb⟩:=hrel;by_cases jU:0<k
  . obtain⟨j,rfl⟩:∃j,k=j+1:=⟨k-1,by omega⟩;obtain⟨r,c,q,e1,e2,e3,e4,e5⟩:=agz v u j h0;have e6:=agy v u j;have hr:r<u:=by rw[<-e1];exact Nat.mod_lt _ h0
    have hc1:c<=1:=by rw[<-e2];exact pY v j
    rw[e1]at hz;rw[e5]at e6;obtain⟨S,hS⟩:=aC (2*r+c);rw[hS]at e4 e6;have pJ:bu r<=549755813888:=Nat.le_trans (QJ (Nat.le_of_lt hr)) (by rw[OX.out];omega);have hSb:bu S<=549755813889:=by rw[<-hS];exact Nat.le_trans (ab6 r c hc1) zo
    obtain⟨bx,ox,cx',jk,jy⟩:=HX.out.cells zo;obtain⟨rfl,rfl⟩:ax=some ⟨bx,ox,none⟩/\cx=cx':=by simp only[Value.slice.injEq]at jk;exact⟨jk.1,jk.2.2⟩
    have hcell:wr.cell? ⟨bx,ox+j,none⟩=some (.int .u8 (c:Int)):=by rw[<-e2];exact cell_later hb (jy j zo)
    have bA:=ut L cx j (j:Int) (rfl:(some ⟨bx,ox,none⟩:Option Addr)=_) zo rfl;rw[Nat.mul_one]at bA;obtain⟨Hz,HB,Hb,DR,DT,HS⟩:=gJ hz hB hb e4 e6 hS;have hs0:=hb.size;have hqb:=hB.lt;have hj:((j+1:Nat):Int)-1=(j:Int):=by omega
    rw[hj];clear hz hB hb e1 e2 e3 e4 e5 e6 hS jk jy hj jU;go_wp2_with (first| (at_builtin;refine akK rfl _ _ rfl _ u10 (bu r) r c hc1 zo Hz.out rfl rfl ?_;intro v' w3 hv' TP hb3));rw[HS.out]at hv';obtain⟨Hv',mF,dQ⟩:=cH hv' TP hb3;have hs3:=hb3.size;clear hv' TP hb3 hzl hcell bA;refine(Nw v' (1+bu r) S w3 zo Hv'.out).mono ?_;rintro e w' ⟨⟨z,rfl,hz,hzl⟩,rfl⟩;obtain⟨cJ,Hzl⟩:=aM hz (hzl _ mF.out);clear hz hzl;obtain⟨tj,jr⟩:=aM (HY.out.below (aK Hb.out dQ.out)) (HB.out.below dQ.out);go_wp2_with fail;refine(WJ z _ (bu S) U S u w3 cJ.out tj.out zo zo).mono ?_;rintro e w' ⟨rfl,rfl⟩;by_cases hge:u<=S
    . have hc0:0<=cK S u:=(QR S u).2 hge;generalize cK S u=ci at*;rw[if_pos hge]at DR DT;go_wp2_with fail;refine(WO z _ (bu S) U S u w3 cJ.out tj.out zo zo hge).mono ?_;rintro e w4 ⟨⟨t,rfl,ht,htl⟩,hb4⟩;obtain⟨Ht,AO,iJ⟩:=cH ht htl hb4;clear ht htl hb4;go_wp2_with fail;refine(Nw t (bu S) (S-u) w4 zo Ht.out).mono ?_;rintro e w' ⟨⟨t2,rfl,ht2,UK⟩,rfl⟩;obtain⟨xW,Qk⟩:=aM ht2 (UK _ AO.out);clear ht2 UK;have hB4:=jr.out.below iJ.out;have q0:w4.cell? ⟨w2.heap.size,j,none⟩=some (.int .u8 0):=by rw[hB4.cell,kg _ _ _ zo,if_neg zo];rfl
      have qf:w4.frozen? ⟨w2.heap.size,j,none⟩=false:=hB4.free _;have mg:=ut L L j (j:Int) (rfl:(some ⟨w2.heap.size,0,none⟩:Option Addr)=_) zo rfl;rw[Nat.mul_one,Nat.zero_add]at mg;have KL:=hB4.set j (.int .u8 ((1:Nat):Int))
      rw[xy,lL (g:=λi=>if j<=i then bd (v/u) i else 0) λi hi=>by
       by_cases e:i=j
       . subst e;rw[if_pos rfl,if_pos (Nat.le_refl _),DT.out];omega
       . rw[if_neg e];by_cases e2:j+1<=i
         . rw[if_pos e2,if_pos zo]
         . rw[if_neg e2,if_neg zo]]at KL
      have kP:=ah KL;clear hB4 KL;go_wp2;go_roundw;case rel=>
       refine⟨j,by omega,by go_num,?_,?_,kP.out,?_⟩
       . rw[DR.out];exact xW.out.an5 (λb o n c e=>by have:=Qk.out b o n c e;dsimp only;omega) _
       . exact λb o n c e=>by have:=Qk.out b o n c e;omega
       . exact(aK (aK Hb.out dQ.out) iJ.out).setCell (Nat.le_refl _) _
      case measure=>simp[intOf]
    . have hc0:¬0<=cK S u:=fun h=>hge ((QR S u).1 h);generalize cK S u=ci at*;rw[if_neg hge]at DR DT;have kP:Hid (ai w3 w2.heap.size 5 (cn L (fun i=>if j<=i then bd (v/u) i else 0))):=by
       show ai _ _ _ _
       rw[lL (g:=λi=>if j+1<=i then bd (v/u) i else 0) λi hi=>by
        by_cases e:i=j
        . subst e;rw[if_pos (Nat.le_refl _),if_neg zo,DT.out];omega
        . by_cases e2:j+1<=i
          . rw[if_pos e2,if_pos zo]
          . rw[if_neg e2,if_neg zo]]
       exact jr.out
      go_wp2;go_roundw;case rel=>exact⟨j,by omega,by go_num,by rw[DR.out];exact cJ.out,(λb o n c e=>by have:=Hzl.out b o n c e;omega),kP.out,aK Hb.out dQ.out⟩
      case measure=>simp[intOf]
  . obtain rfl:k=0:=by omega
    have hq:v/u<2^L:=Nat.lt_of_le_of_lt (Nat.div_le_self v u) xO.out;rw[lL (g:=bd (v/u)) λj hj=>by rw[if_pos (Nat.zero_le _)]]at hB;have Hq:=ah (Bv.an6 hB hq);have e0:v/2^0%u=v%u:=by simp
    rw[e0]at hz;have pJ:bu (v%u)<=549755813888:=Nat.le_trans (QJ (Nat.le_of_lt (Nat.mod_lt v h0))) (by rw[OX.out];omega);obtain⟨Hz,Hb⟩:=aM hz hb;clear hB hq hz hb e0 hzl;go_wp2_with fail;refine(sS _ L (v/u) wr zo Hq.out).mono ?_;rintro e w3 ⟨rfl,hb3⟩;go_wp2_with fail;refine(sS u10 (bu (v%u)) (v%u) w3 zo (Hz.out.below hb3)).mono ?_;rintro e w4 ⟨rfl,hb4⟩;have kQ:=ah (aK Hw.out (aK Hb.out (aK hb3 hb4)));clear hb3 hb4;go_wp2;go_ret3
    exact⟨rfl,kQ.out⟩
theorem aiQ (l:List UInt8)(w:World)(hl:l.length<=68719476736):
 Calls Tryz.prog 117 #[.agg #[.bool false,.string (bs l)]] w λe w'=>e=.returned (.agg #[.bool (false),.string (bs (nt (nv l)))])/\Bw w w':=by
 have hb:=Nat.le_trans (fO (mA l)) (show 8*l.length<=1099511627776 by omega);have h1:=nk l;obtain⟨v,hv⟩:=aC (nv l);rw[hv]at hb⊢;simp only[hv]at h1;obtain⟨m,hm⟩:=aC (nt v);have he:=rR m;obtain⟨t,ht⟩:=aC m.isEmpty;obtain⟨H1,Hm⟩:=aM h1 hm;clear h1 hv;rw[hm];rw[ht]at he;clear hm ht;obtain⟨W,cO,Hb,Hx,Hr⟩:=ni w 28 [.bool false,.string (bs l)] 28 [.bool false,.string ⟨#[]⟩];obtain⟨x0,x1⟩:=Hx.out.c2;obtain⟨r0,aj,r1,ar⟩:=Hr.out.g2;go_enter Tryz.func117,Tryz.ntmps117;go_wp2_with fail;refine(H1.out _ zo).mono ?_;rintro e w1 ⟨⟨y,rfl,hy⟩,ae⟩;clear x0 x1 r0 aj r1 ar;replace Hx:=kB Hx ae;replace Hr:=kB Hr ae;obtain⟨x0,x1⟩:=Hx.out.c2;obtain⟨r0,aj,r1,ar⟩:=Hr.out.g2;replace Hb:=az Hb ae;clear ae;have Hy:=ah hy;clear hy;go_wp2_with fail;refine(sS y _ _ _ hb Hy.out).mono ?_;rintro e w2 ⟨rfl,ae⟩;clear x0 x1 r0 aj r1 ar;replace Hx:=kB Hx ae;replace Hr:=kB Hr ae;obtain⟨x0,x1⟩:=Hx.out.c2;obtain⟨r0,aj,r1,ar⟩:=Hr.out.g2;replace Hb:=az Hb ae;clear ae;rw[Hm.out];go_wp2;clear x0 x1 r0 aj r1 ar;refine gu (λw9=>ai w9 (w.heap.size) 28 [.bool false,.string (bs l)]/\ai w9 (w.heap.size+1) 28 [.bool (false),.string (bs m)]/\Bw w w9) ⟨((Hx.out.so (w.heap.size+1) 0 zo _).so (w.heap.size+1) 1 zo _),((Hr.out.set 0 _).set 1 _),((Hb.out.sc (w.heap.size+1) 0 ZS _).sc (w.heap.size+1) 1 ZS _)⟩ ?_;rintro w9 ⟨qx,qr,ae⟩;replace Hx:=ah qx;clear qx;replace Hr:=ah qr;clear qr;obtain⟨x0,x1⟩:=Hx.out.c2;obtain⟨r0,aj,r1,ar⟩:=Hr.out.g2;replace Hb:=ah ae;clear ae;refine bodyPost_ret (v:=.agg #[.bool (false),.string (bs m)]) (by simp[results,Tryz.results117,go_sem,r0,r1]) rfl ⟨rfl,Hb.out⟩
theorem aiR (l:List UInt8)(w:World)(hl:l.length<=68719476736):
 Calls Tryz.prog 117 #[.agg #[.bool true,.string (bs l)]] w λe w'=>e=.returned (.agg #[.bool (!(nt (nv l)).isEmpty),.string (bs (nt (nv l)))])/\Bw w w':=by
 have hb:=Nat.le_trans (fO (mA l)) (show 8*l.length<=1099511627776 by omega);have h1:=nk l;obtain⟨v,hv⟩:=aC (nv l);rw[hv]at hb⊢;simp only[hv]at h1;obtain⟨m,hm⟩:=aC (nt v);have he:=rR m;obtain⟨t,ht⟩:=aC m.isEmpty;obtain⟨H1,Hm⟩:=aM h1 hm;clear h1 hv;rw[hm,ht];rw[ht]at he;clear hm ht;obtain⟨W,cO,Hb,Hx,Hr⟩:=ni w 28 [.bool true,.string (bs l)] 28 [.bool false,.string ⟨#[]⟩];obtain⟨x0,x1⟩:=Hx.out.c2;obtain⟨r0,aj,r1,ar⟩:=Hr.out.g2;go_enter Tryz.func117,Tryz.ntmps117;go_wp2_with fail;refine(H1.out _ zo).mono ?_;rintro e w1 ⟨⟨y,rfl,hy⟩,ae⟩;clear x0 x1 r0 aj r1 ar;replace Hx:=kB Hx ae;replace Hr:=kB Hr ae;obtain⟨x0,x1⟩:=Hx.out.c2;obtain⟨r0,aj,r1,ar⟩:=Hr.out.g2;replace Hb:=az Hb ae;clear ae;have Hy:=ah hy;clear hy;go_wp2_with fail;refine(sS y _ _ _ hb Hy.out).mono ?_;rintro e w2 ⟨rfl,ae⟩;clear x0 x1 r0 aj r1 ar;replace Hx:=kB Hx ae;replace Hr:=kB Hr ae;obtain⟨x0,x1⟩:=Hx.out.c2;obtain⟨r0,aj,r1,ar⟩:=Hr.out.g2;replace Hb:=az Hb ae;clear ae;rw[Hm.out];go_wp2;clear x0 x1 r0 aj r1 ar;refine gu (λw9=>ai w9 (w.heap.size) 28 [.bool true,.string (bs l)]/\ai w9 (w.heap.size+1) 28 [.bool (!t),.string (bs m)]/\Bw w w9) ⟨((Hx.out.so (w.heap.size+1) 0 zo _).so (w.heap.size+1) 1 zo _),((Hr.out.set 0 _).set 1 _),((Hb.out.sc (w.heap.size+1) 0 ZS _).sc (w.heap.size+1) 1 ZS _)⟩ ?_;rintro w9 ⟨qx,qr,ae⟩;replace Hx:=ah qx;clear qx;replace Hr:=ah qr;clear qr;obtain⟨x0,x1⟩:=Hx.out.c2;obtain⟨r0,aj,r1,ar⟩:=Hr.out.g2;replace Hb:=ah ae;clear ae;refine bodyPost_ret (v:=.agg #[.bool (!t),.string (bs m)]) (by simp[results,Tryz.results117,go_sem,r0,r1]) rfl ⟨rfl,Hb.out⟩
theorem Dh (s:Bool)(l:List UInt8)(w:World)(hl:l.length<=68719476736):
 Calls Tryz.prog 117 #[.agg #[.bool s,.string (bs l)]] w λe w'=>e=.returned (.agg #[.bool (s&& !(nt (nv l)).isEmpty),.string (bs (nt (nv l)))])/\Bw w w':=by
 cases s
 . exact aiQ l w hl
 . exact aiR l w hl
theorem Nz (n:Nat)(w:World)(hn:n<=9223372036854775807):
 Calls Tryz.prog 80 #[.int .i64 (n:Int)] w λe w'=>e=.returned (.agg #[.bool false,.string (bs (nt n))])/\Bw w w':=by
 have h1:=λW=>ai4 n W (by rw[iN];omega);have H1:=ah h1;clear h1;have hw:IntKind.u64.wrap (n:Int)=(n:Int):=by rw[IntKind.wrap_u64];omega
 obtain⟨m,hm⟩:=aC (nt n);rw[hm];have Hm:=ah hm;clear hm;obtain⟨W,cO,Hb,Hr⟩:=iF w 28 [.bool false,.string ⟨#[]⟩];obtain⟨r0,aj,r1,ar⟩:=Hr.out.g2;go_enter Tryz.func80,Tryz.ntmps80;go_wp2_with fail;refine(H1.out _).mono ?_;rintro e w1 ⟨rfl,ae⟩;clear r0 aj r1 ar;replace Hr:=kB Hr ae;obtain⟨r0,aj,r1,ar⟩:=Hr.out.g2;replace Hb:=az Hb ae;clear ae;rw[Hm.out];go_wp2;clear r0 aj r1 ar;refine gu (λw9=>ai w9 (w.heap.size) 28 [.bool false,.string (bs m)]/\Bw w w9) ⟨((Hr.out.set 0 _).set 1 _),((Hb.out.sc (w.heap.size) 0 ZS _).sc (w.heap.size) 1 ZS _)⟩ ?_;rintro w9 ⟨qr,ae⟩;replace Hr:=ah qr;clear qr;obtain⟨r0,aj,r1,ar⟩:=Hr.out.g2;replace Hb:=ah ae;clear ae;refine bodyPost_ret (v:=.agg #[.bool false,.string (bs m)]) (by simp[results,Tryz.results80,go_sem,r0,r1]) rfl ⟨rfl,Hb.out⟩
theorem WN (l:List UInt8)(w:World)(hl:l.length<=68719476736):
 Calls Tryz.prog 104 #[.string (bs l)] w λe w'=>e=.returned (.int .i64 (bu (nv l):Int))/\Bw w w':=by
 go_enter Tryz.func104,Tryz.ntmps104;go_wp2_with fail;refine(nk l w hl).mono ?_;rintro e w1 ⟨⟨y,rfl,hy⟩,ae⟩;obtain⟨a,cap,rfl⟩:=hy.len;have Hb:=ah ae;clear hy ae;go_wp2;go_ret;exact⟨rfl,Hb.out⟩
theorem WQ (s:Bool)(l:List UInt8)(w:World)(hl:l.length<=68719476736)(h0:nv l=0):
 Calls Tryz.prog 66 #[.agg #[.bool s,.string (bs l)]] w λe w'=>e=.returned (.int .i64 0)/\Bw w w':=by
 have h1:=WN l;rw[h0]at h1;have H1:=ah h1;clear h1 h0;obtain⟨W,cO,Hb,Hx⟩:=iF w 28 [.bool s,.string (bs l)];obtain⟨x0,x1⟩:=Hx.out.c2;go_enter Tryz.func66,Tryz.ntmps66;go_wp2_with fail;refine(H1.out _ hl).mono ?_;rintro e w1 ⟨rfl,ae⟩;clear x0 x1;replace Hx:=kB Hx ae;obtain⟨x0,x1⟩:=Hx.out.c2;replace Hb:=az Hb ae;clear ae;rw[ab7];go_wp2;go_ret;exact⟨rfl,Hb.out⟩
theorem aiU (s:Bool)(n:Nat)(w:World)(h0:0<n)(hl:(nt (2*n)).length<=68719476736):
 Calls Tryz.prog 118 #[.agg #[.bool s,.string (bs (nt (2*n)))],.agg #[.bool false,.string (bs (nt 2))]] w λe w'=>e=.returned (.tuple #[.agg #[.bool s,.string (bs (nt n))],.agg #[.bool false,.string (bs [])],.bool true])/\Bw w w':=by
 have hd:=λW=>aiM (nt (2*n)) (nt 2) W hl zd (by rw[iq];decide);simp only[iq]at hd;have e1:2*n/2=n:=by omega
 have e2:2*n%2=0:=by omega
 rw[e1,e2,xe]at hd;have LR:(nt n).length<=68719476736:=Nat.le_trans (il (Nat.lt_of_le_of_lt (show n<=2*n by omega) (agD (2*n)))) hl;have hf:=λW=>Dh s (nt n) W LR;have hg:=λW=>Dh s [] W zd;have hs:=λW=>WQ false [] W zd rfl;simp only[iq,uH,xe,List.isEmpty_nil,Bool.not_true,Bool.and_false]at hf hg;have e3:(nt n).isEmpty=false:=by
  have:=Gm h0;cases h:nt n with
  |nil=>exact absurd h this
  |cons a b=>rfl
 rw[e3]at hf;simp only[Bool.not_false,Bool.and_true]at hf;generalize nt (2*n)=L at*;generalize nt n=M at*;generalize nt 2=T at*;obtain⟨Hd,Hf,Hg,Hs⟩:=dO hd hf hg hs;clear hd hf hg hs e1 e2 e3 hl LR;have hne:(s !=false)=s:=by cases s<;>rfl
 obtain⟨W,cO,Hb,Hx,Hy,Hp,Hq⟩:=CP w 28 [.bool s,.string (bs L)] 28 [.bool false,.string (bs T)] 28 [.bool false,.string ⟨#[]⟩] 28 [.bool false,.string ⟨#[]⟩];obtain⟨x0,x1⟩:=Hx.out.c2;obtain⟨y0,y1⟩:=Hy.out.c2;obtain⟨p0,kw,p1,kx⟩:=Hp.out.g2;obtain⟨q0,bT,q1,bU⟩:=Hq.out.g2;go_enter Tryz.func118,Tryz.ntmps118;go_wp2_with fail;refine(Hd.out _).mono ?_;rintro e w1 ⟨rfl,ae⟩;clear x0 x1 y0 y1 p0 kw p1 kx q0 bT q1 bU;replace Hx:=kB Hx ae;replace Hy:=kB Hy ae;replace Hp:=kB Hp ae;replace Hq:=kB Hq ae;obtain⟨x0,x1⟩:=Hx.out.c2;obtain⟨y0,y1⟩:=Hy.out.c2;obtain⟨p0,kw,p1,kx⟩:=Hp.out.g2;obtain⟨q0,bT,q1,bU⟩:=Hq.out.g2;replace Hb:=az Hb ae;clear ae;go_wp2_with fail;refine(Hf.out _).mono ?_;rintro e w2 ⟨rfl,ae⟩;clear x0 x1 y0 y1 p0 kw p1 kx q0 bT q1 bU;replace Hx:=kB Hx ae;replace Hy:=kB Hy ae;replace Hp:=kB Hp ae;replace Hq:=kB Hq ae;obtain⟨x0,x1⟩:=Hx.out.c2;obtain⟨y0,y1⟩:=Hy.out.c2;obtain⟨p0,kw,p1,kx⟩:=Hp.out.g2;obtain⟨q0,bT,q1,bU⟩:=Hq.out.g2;replace Hb:=az Hb ae;clear ae;have ann:=Hx.out.lt;have anq:=Hy.out.lt;have am1:=Hp.out.lt;have am3:=Hq.out.lt;obtain⟨W2,nX,ae,Hu⟩:=cQ w2 28 [.bool s,.string (bs M)];clear x0 x1;replace Hx:=kB Hx ae;clear y0 y1;replace Hy:=kB Hy ae;clear p0 kw p1 kx;replace Hp:=kB Hp ae;clear q0 bT q1 bU;replace Hq:=kB Hq ae;obtain⟨x0,x1⟩:=Hx.out.c2;obtain⟨y0,y1⟩:=Hy.out.c2;obtain⟨p0,kw,p1,kx⟩:=Hp.out.g2;obtain⟨q0,bT,q1,bU⟩:=Hq.out.g2;obtain⟨u0,u1⟩:=Hu.out.c2;replace Hb:=az Hb ae;clear ae;go_wp2_with fail;refine(Hg.out _).mono ?_;rintro e w3 ⟨rfl,ae⟩;clear x0 x1 y0 y1 p0 kw p1 kx q0 bT q1 bU u0 u1;replace Hx:=kB Hx ae;replace Hy:=kB Hy ae;replace Hp:=kB Hp ae;replace Hq:=kB Hq ae;replace Hu:=kB Hu ae;obtain⟨x0,x1⟩:=Hx.out.c2;obtain⟨y0,y1⟩:=Hy.out.c2;obtain⟨p0,kw,p1,kx⟩:=Hp.out.g2;obtain⟨q0,bT,q1,bU⟩:=Hq.out.g2;obtain⟨u0,u1⟩:=Hu.out.c2;replace Hb:=az Hb ae;clear ae;have agP:=Hx.out.lt;have agR:=Hy.out.lt;have agK:=Hp.out.lt;have am4:=Hq.out.lt;have anh:=Hu.out.lt;obtain⟨W3,Lh,ae,Hv⟩:=cQ w3 28 [.bool false,.string (bs [])];clear x0 x1;replace Hx:=kB Hx ae;clear y0 y1;replace Hy:=kB Hy ae;clear p0 kw p1 kx;replace Hp:=kB Hp ae;clear q0 bT q1 bU;replace Hq:=kB Hq ae;clear u0 u1;replace Hu:=kB Hu ae;obtain⟨x0,x1⟩:=Hx.out.c2;obtain⟨y0,y1⟩:=Hy.out.c2;obtain⟨p0,kw,p1,kx⟩:=Hp.out.g2;obtain⟨q0,bT,q1,bU⟩:=Hq.out.g2;obtain⟨u0,u1⟩:=Hu.out.c2;obtain⟨v0,v1⟩:=Hv.out.c2;replace Hb:=az Hb ae;clear ae;go_wp2_with fail;refine(Hs.out _).mono ?_;rintro e w4 ⟨rfl,ae⟩;clear x0 x1 y0 y1 p0 kw p1 kx q0 bT q1 bU u0 u1 v0 v1;replace Hx:=kB Hx ae;replace Hy:=kB Hy ae;replace Hp:=kB Hp ae;replace Hq:=kB Hq ae;replace Hu:=kB Hu ae;replace Hv:=kB Hv ae;obtain⟨x0,x1⟩:=Hx.out.c2;obtain⟨y0,y1⟩:=Hy.out.c2;obtain⟨p0,kw,p1,kx⟩:=Hp.out.g2;obtain⟨q0,bT,q1,bU⟩:=Hq.out.g2;obtain⟨u0,u1⟩:=Hu.out.c2;obtain⟨v0,v1⟩:=Hv.out.c2;replace Hb:=az Hb ae;clear ae;go_wp2_with fail;have lp:=Hp.out.lt;have lq:=Hq.out.lt;refine bD (λw'=>w'.cell? ⟨w2.heap.size,0,none⟩=some (.bool s)/\w'.cell? ⟨w2.heap.size,1,none⟩=some (.string (bs M))/\w'.cell? ⟨w3.heap.size,0,none⟩=some (.bool false)/\w'.cell? ⟨w3.heap.size,1,none⟩=some (.string (bs []))) (λi=>Nat.blt i 3) [(0,true),(1,true),(2,false),(3,false),(4,false)] zk zk rfl zk zc ⟨u0,u1,v0,v1⟩ ?_;iterate 2 (refine pT rfl rfl ?_ (by intro w' ⟨q0,q1,q2,q3⟩;go_simp;try with_reducible rfl);try simp only[UU])
 refine aJ rfl rfl (λK hK=>?_);go_simp;refine hK _ _ (λ_=>⟨(aH zf (aH zf u0)),(aH zf (aH zf u1)),(aH zf (aH zf v0)),(aH zf (aH zf v1))⟩) ?_;clear hK K;try simp only[UU]
 clear x0 x1 y0 y1 p0 kw p1 kx q0 bT q1 bU u0 u1 v0 v1;refine bE (λw5=>ai w5 (w.heap.size) 28 [.bool s,.string (bs L)]/\ai w5 (w.heap.size+1) 28 [.bool false,.string (bs T)]/\ai w5 (w.heap.size+1+1) 28 [.bool s,.string (bs M)]/\ai w5 (w.heap.size+1+1+1) 28 [.bool false,.string ⟨#[]⟩]/\ai w5 (w2.heap.size) 28 [.bool s,.string (bs M)]/\ai w5 (w3.heap.size) 28 [.bool false,.string (bs [])]/\Bw w w5) ⟨((Hx.out.so (w.heap.size+1+1) 0 zo _).so (w.heap.size+1+1) 1 zo _),((Hy.out.so (w.heap.size+1+1) 0 zo _).so (w.heap.size+1+1) 1 zo _),((Hp.out.set 0 _).set 1 _),((Hq.out.so (w.heap.size+1+1) 0 zo _).so (w.heap.size+1+1) 1 zo _),((Hu.out.so (w.heap.size+1+1) 0 zo _).so (w.heap.size+1+1) 1 zo _),((Hv.out.so (w.heap.size+1+1) 0 zo _).so (w.heap.size+1+1) 1 zo _),by first|exact((Hb.out.sc (w.heap.size+1+1) 0 ZS _).sc (w.heap.size+1+1) 1 ZS _) |exact Below.drew ((Hb.out.sc (w.heap.size+1+1) 0 ZS _).sc (w.heap.size+1+1) 1 ZS _)⟩ ?_;rintro w5 ⟨qx,qy,qp,qq,qu,qv,ae⟩;replace Hx:=ah qx;clear qx;replace Hy:=ah qy;clear qy;replace Hp:=ah qp;clear qp;replace Hq:=ah qq;clear qq;replace Hu:=ah qu;clear qu;replace Hv:=ah qv;clear qv;obtain⟨x0,x1⟩:=Hx.out.c2;obtain⟨y0,y1⟩:=Hy.out.c2;obtain⟨p0,kw,p1,kx⟩:=Hp.out.g2;obtain⟨q0,bT,q1,bU⟩:=Hq.out.g2;obtain⟨u0,u1⟩:=Hu.out.c2;obtain⟨v0,v1⟩:=Hv.out.c2;replace Hb:=ah ae;clear ae;refine aJ rfl rfl (λK hK=>?_);go_simp;refine hK _ _ (λh=>absurd h zd) ?_;clear hK K;try simp only[UU]
 clear x0 x1 y0 y1 p0 kw p1 kx q0 bT q1 bU u0 u1 v0 v1;refine bE (λw6=>ai w6 (w.heap.size) 28 [.bool s,.string (bs L)]/\ai w6 (w.heap.size+1) 28 [.bool false,.string (bs T)]/\ai w6 (w.heap.size+1+1) 28 [.bool s,.string (bs M)]/\ai w6 (w.heap.size+1+1+1) 28 [.bool false,.string (bs [])]/\ai w6 (w2.heap.size) 28 [.bool s,.string (bs M)]/\ai w6 (w3.heap.size) 28 [.bool false,.string (bs [])]/\Bw w w6) ⟨((Hx.out.so (w.heap.size+1+1+1) 0 zo _).so (w.heap.size+1+1+1) 1 zo _),((Hy.out.so (w.heap.size+1+1+1) 0 zo _).so (w.heap.size+1+1+1) 1 zo _),((Hp.out.so (w.heap.size+1+1+1) 0 zo _).so (w.heap.size+1+1+1) 1 zo _),((Hq.out.set 0 _).set 1 _),((Hu.out.so (w.heap.size+1+1+1) 0 zo _).so (w.heap.size+1+1+1) 1 zo _),((Hv.out.so (w.heap.size+1+1+1) 0 zo _).so (w.heap.size+1+1+1) 1 zo _),by first|exact((Hb.out.sc (w.heap.size+1+1+1) 0 ZS _).sc (w.heap.size+1+1+1) 1 ZS _) |exact Below.drew ((Hb.out.sc (w.heap.size+1+1+1) 0 ZS _).sc (w.heap.size+1+1+1) 1 ZS _)⟩ ?_;rintro w6 ⟨qx,qy,qp,qq,qu,qv,ae⟩;replace Hx:=ah qx;clear qx;replace Hy:=ah qy;clear qy;replace Hp:=ah qp;clear qp;replace Hq:=ah qq;clear qq;replace Hu:=ah qu;clear qu;replace Hv:=ah qv;clear qv;obtain⟨x0,x1⟩:=Hx.out.c2;obtain⟨y0,y1⟩:=Hy.out.c2;obtain⟨p0,kw,p1,kx⟩:=Hp.out.g2;obtain⟨q0,bT,q1,bU⟩:=Hq.out.g2;obtain⟨u0,u1⟩:=Hu.out.c2;obtain⟨v0,v1⟩:=Hv.out.c2;replace Hb:=ah ae;clear ae;refine aJ rfl rfl (λK hK=>?_);go_simp;refine hK _ _ (λh=>absurd h zd) ?_;clear hK K;try simp only[UU]
 simp only[aU];go_wp2;refine bodyPost_ret (v:=.tuple #[.agg #[.bool s,.string (bs M)],.agg #[.bool false,.string (bs [])],.bool true]) (by simp[results,Tryz.results118,go_sem,p0,p1,q0,q1]) rfl ⟨rfl,Hb.out⟩
def cc (v u k:Nat):Nat:=(v%2^k+u%2^k)/2^k
theorem acr (v u:Nat):cc v u 0=0:=by simp[cc,Nat.mod_one]
theorem aco (v u k:Nat):cc v u k<=1:=by unfold cc;have h:0<2^k:=Nat.pow_pos zd;have h1:=Nat.mod_lt v h;have h2:=Nat.mod_lt u h;rw[<-Nat.lt_succ_iff,Nat.div_lt_iff_lt_mul h];omega
theorem acp (v u k:Nat):bd (v+u) k=(bd v k+bd u k+cc v u k)%2/\cc v u (k+1)=(bd v k+bd u k+cc v u k)/2:=by
 have hM:0<2^k:=Nat.pow_pos zd;have ha:=Nat.mod_lt v hM;have hb:=Nat.mod_lt u hM;have e1:v=2^k* (v/2^k)+v%2^k:=(Nat.div_add_mod v _).symm;have e2:u=2^k* (u/2^k)+u%2^k:=(Nat.div_add_mod u _).symm;have es:(v+u)/2^k=v/2^k+u/2^k+cc v u k:=by
  unfold cc;have:v+u=(v%2^k+u%2^k)+2^k* (v/2^k+u/2^k):=by rw[Nat.mul_add];omega
  rw[this,Nat.add_mul_div_left _ _ hM];omega
 have m1:v%2^(k+1)=v%2^k+2^k*bd v k:=by rw[Nat.pow_succ,Nat.mod_mul];rfl
 have m2:u%2^(k+1)=u%2^k+2^k*bd u k:=by rw[Nat.pow_succ,Nat.mod_mul];rfl
 constructor
 . unfold bd at*;rw[es];omega
 . have e3:cc v u (k+1)=((v%2^k+u%2^k)+2^k* (bd v k+bd u k))/2^k/2:=by rw[Nat.div_div_eq_div_mul,<-Nat.pow_succ];unfold cc;rw[m1,m2,Nat.mul_add];congr 1;omega
   rw[e3,Nat.add_mul_div_left _ _ hM];show(cc v u k+_)/2=_
   congr 1;omega
theorem abY (u p i:Nat):bd (u*2^p) i=if p<=i then bd u (i-p)else 0:=by
 unfold bd;by_cases h:p<=i
 . rw[if_pos h];obtain⟨j,rfl⟩:∃j,i=p+j:=⟨i-p,by omega⟩;rw[Nat.pow_add,<-Nat.div_div_eq_div_mul,Nat.mul_div_cancel _ (Nat.pow_pos zd),show p+j-p=j by omega]
 . rw[if_neg h];obtain⟨j,rfl⟩:∃j,p=i+1+j:=⟨p-i-1,by omega⟩;rw[show u*2^(i+1+j)=(u*2^j*2) *2^i by rw[Nat.pow_add,Nat.pow_add,Nat.pow_one];simp only[Nat.mul_assoc,Nat.mul_comm,Nat.mul_left_comm],Nat.mul_div_cancel _ (Nat.pow_pos zd)];omega
theorem NA (x y:Value)(n m v u p:Nat)(w:World)(hx:Bv w x n v)(hy:Bv w y m u)(hn:n<=1099511627775)(hm:m+p<=1099511627775):
 Calls Tryz.prog 157 #[x,y,.int .i64 (p:Int)] w λe w'=>(∃z,e=.returned z/\Bv w' z (max n (m+p)+1) (v+u*2^p))/\Bw w w':=by
 obtain⟨a,cap,jk⟩:=hx.len;obtain⟨a',cap',CI⟩:=hy.len;have mP:=λW (hW:Bw w W) i (hi:i<=1099511627776)=>zz x n v i W (hx.below hW) hi zo;have hby:=λW (hW:Bw w W) i (hi:i<=1099511627776)=>zz y m u i W (hy.below hW) hi zo;obtain⟨L,hL⟩:=aC (max n (m+p)+1);obtain⟨U,hU⟩:=aC (u*2^p);have rO:Hid (v+U<2^L):=by
  show _<_
  have h1:v<2^(L-1):=Nat.lt_of_lt_of_le hx.1 (Nat.pow_le_pow_right zd zo);have h2:U<2^(L-1):=by rw[<-hU];have h3:u*2^p<2^m*2^p:=Nat.mul_lt_mul_of_pos_right hy.1 (Nat.pow_pos zd);rw[<-Nat.pow_add]at h3;exact Nat.lt_of_lt_of_le h3 (Nat.pow_le_pow_right zd zo)
  rw[show L=L-1+1 by omega,Nat.pow_succ];omega
 have SZ:∀i,bd U i=if p<=i then bd u (i-p)else 0:=λi=>by rw[<-hU];exact abY u p i
 have hLI:max (n:Int) ((m:Int)+(p:Int))+1=(L:Int):=by omega
 have hLb:L<=1099511627776:=by omega
 subst jk;subst CI;have hmk:=qR (L:Int) L rfl zo;rw[hU,hL];obtain⟨Ae,Af,YE⟩:=cH mP hby SZ;clear mP hby hx hy SZ hU hL;go_enter Tryz.func157,Tryz.ntmps157;go_wp2_with fail;go_loopw[8,9,10] (λb i _ wr=>∃k:Nat,k<=L/\i=.int .i64 (k:Int)/\b=.int .u8 (cc v U k:Int)/\ai wr w.heap.size 5 (cn L (λj=>if j<k then bd (v+U) j else 0))/\Bw w wr) (λ_ i _ _=>L-(intOf i).toNat);case atStart=>
  refine⟨0,Nat.zero_le _,rfl,by rw[acr];rfl,?_,zl⟩;have e:cn L (λj=>if j<0 then bd (v+U) j else 0)=cn L λ_=>0:=lL λj hj=>by rw[if_neg zo]
  rw[e];exact ai.new _ _ _
 case round=>
  obtain⟨k,hk,rfl,rfl,hB,hb⟩:=hrel;by_cases hlt:k<L
  . have H1:=ah (Ae.out wr hb k zo);obtain⟨hs,hs2⟩:=acp v U k;have hp1:=pY v k;have hq:=pY U k;have hr:=aco v U k;have Mj:=YE.out k;have hcell:wr.cell? ⟨w.heap.size,k,none⟩=some (.int .u8 0):=by rw[hB.cell,kg _ _ _ hlt,if_neg zo];rfl
    have hfree:wr.frozen? ⟨w.heap.size,k,none⟩=false:=hB.free _;have bK:=hB.set k (.int .u8 ((bd (v+U) k:Nat):Int))
    rw[xy,lL (g:=λj=>if j<k+1 then bd (v+U) j else 0) λj hj=>by
     by_cases e:j=k
     . subst e;rw[if_pos rfl,if_pos zo]
     . rw[if_neg e];by_cases e2:j<k
       . rw[if_pos e2,if_pos zo]
       . rw[if_neg e2,if_neg zo]]at bK
    obtain⟨dU,Hb⟩:=aM bK (hb.setCell (p:=⟨w.heap.size,k,none⟩) (Nat.le_refl _) (.int .u8 ((bd (v+U) k:Nat):Int)));have H2:p<=k->Calls Tryz.prog 179 #[.slice a' m cap',.int .i64 ((k-p:Nat):Int)] wr λe w'=>e=.returned (.int .u8 (bd U k:Int))/\wr=w':=λh=>by rw[Mj,if_pos h];exact Af.out wr hb (k-p) zo
    have hq0:¬p<=k->bd U k=0:=λh=>by rw[Mj,if_neg h]
    have bA:=ut L L k (k:Int) (rfl:(some ⟨w.heap.size,0,none⟩:Option Addr)=_) hlt rfl;rw[Nat.mul_one,Nat.zero_add]at bA;clear hB bK hb Mj;generalize bd v k=P at*;generalize bd U k=q at*;generalize hrr:cc v U k=r at*;generalize bd (v+U) k=z at*;obtain⟨H2,Hq0,mJ⟩:=cH H2 hq0 hs2;clear hq0 hs2 hrr;obtain⟨S,hS⟩:=aC (P+q+r);have hS3:S<=3:=by omega
    have hw1:IntKind.u8.wrap ((P:Int)+(r:Int))=(P:Int)+(r:Int):=by rw[IntKind.wrap_u8];omega
    have hw2:IntKind.u8.wrap ((P:Int)+(r:Int)+(q:Int))=(S:Int):=by rw[IntKind.wrap_u8];omega
    have hand:bits .and .u8 (S:Int) 1=(z:Int):=by rw[JY S zo,hs,<-hS]
    obtain⟨HS,Hs⟩:=aM hS hs;clear hS hs;go_wp2_with fail;refine H1.out.mono ?_;rintro e w' ⟨rfl,rfl⟩;by_cases hpk:p<=k
    . have H3:=ah (H2.out hpk);have mh:((k:Int)-(p:Int))=((k-p:Nat):Int):=by omega
      go_wp2_with fail;refine H3.out.mono ?_;rintro e w' ⟨rfl,rfl⟩;go_wp2;go_roundw;case rel=>refine⟨k+1,by omega,by go_num,?_,dU.out,Hb.out⟩;have h1:=mJ.out;have h2:=HS.out;rw[h1];congr 1;omega
      case measure=>simp[intOf];omega
    . have hq1:=Hq0.out hpk;subst hq1;have hw3:IntKind.u8.wrap ((P:Int)+(r:Int))=(S:Int):=by rw[hw1];have:=HS.out;omega
      clear hw1 hw2;go_wp2;go_roundw;case rel=>refine⟨k+1,by omega,by go_num,?_,dU.out,Hb.out⟩;have h1:=mJ.out;have h2:=HS.out;rw[h1];congr 1;omega
      case measure=>simp[intOf];omega
  . obtain rfl:k=L:=by omega
    rw[lL (g:=bd (v+U)) λj hj=>by rw[if_pos hj]]at hB;obtain⟨Hz,Hb⟩:=aM (Bv.an6 hB rO.out) hb;clear hB hb;go_wp2;go_ret;exact⟨⟨_,rfl,Hz.out⟩,Hb.out⟩
theorem aiJ (xs:List (List UInt8))(a:Option Addr)(cap:Nat)(w:World)(hl:∀l∈xs,l.length<=68719476736)(hx:xs.length<=1048576)
 (ha:At w a (xs.map λl=>.string (bs l))):
 Calls Tryz.prog 129 #[.slice a xs.length cap] w λe w'=>e=.returned (.string (bs (nt (fU xs))))/\Bw w w':=by
 obtain⟨Hl,Ha⟩:=aM hl ha;clear hl ha;go_enter Tryz.func129,Tryz.ntmps129;go_wp2_with fail;go_loopw[3,4] (λz i wr=>∃k n:Nat,k<=xs.length/\n<=549755813888+k/\i=.int .i64 (k:Int)/\Bv wr z n (fU (xs.take k))/\Bw w wr) (λ_ i _=>xs.length-(intOf i).toNat);case atStart=>exact⟨0,0,Nat.zero_le _,Nat.zero_le _,rfl,⟨by simp[fU],.inl ⟨rfl,rfl⟩⟩,Below.refl _ _⟩
 case round=>
  obtain⟨k,n,hk,hn,rfl,hz,hb⟩:=hrel;by_cases hlt:k<xs.length
  . have hne:(xs.map λl=>Value.string (bs l))≠[]:=by intro h0;have:=congrArg List.length h0;simp at this;subst this;simp at hlt
    obtain⟨b,o,hab,hcs⟩:=(Ha.out.below hb).get hne;have hcell:wr.cell? ⟨b,o+k,none⟩=some (.string (bs xs[k])):=by rw[hcs k (by simpa using hlt)];simp[hlt]
    have bA:=Vd xs.length cap k (k:Int) hab hlt rfl;rw[Nat.mul_one]at bA;clear hcs hne;have jH:Hid (xs[k].length<=68719476736):=Hl.out _ (List.getElem_mem hlt);obtain⟨bS,jI⟩:=aM (Wa xs k hlt) hab;clear hab;generalize xs[k]=x at*;have mP:bu (nv x)<=549755813888:=Nat.le_trans (fO (mA x)) (by have:=jH.out;omega);obtain⟨Hz,Hb⟩:=aM hz hb;clear hz hb;go_wp2_with fail;refine(nk x _ jH.out).mono ?_;rintro e w1 ⟨⟨y,rfl,hy⟩,hb1⟩;obtain⟨Hy,bL⟩:=aM hy hb1;clear hy hb1;go_wp2_with fail;refine(NA u3 y n (bu (nv x)) (fU (xs.take k)) (nv x) 0 w1 (Hz.out.below bL.out) Hy.out zo zo).mono ?_;rintro e w2 ⟨⟨z,rfl,hz⟩,hb2⟩;obtain⟨cJ,bV⟩:=aM hz hb2;clear hz hb2;go_wp2;go_roundw;case rel=>have h:=cJ.out;rw[Nat.pow_zero,Nat.mul_one,<-bS.out]at h;exact⟨k+1,_,by omega,by omega,by go_num,h,aK Hb.out (aK bL.out bV.out)⟩
    case measure=>simp[intOf];omega
  . obtain rfl:k=xs.length:=by omega
    rw[List.take_length]at hz;obtain⟨Hz,Hb⟩:=aM hz hb;clear hz hb;go_wp2_with fail;refine(sS u3 n (fU xs) wr zo Hz.out).mono ?_;rintro e w1 ⟨rfl,hb1⟩;have bL:=ah hb1;clear hb1;go_wp2;go_ret;exact⟨rfl,aK Hb.out bL.out⟩
theorem WI (l m:List UInt8)(w:World)(hl:l.length<=68719476736)(hm:m.length<=68719476736):
 Calls Tryz.prog 158 #[.string (bs l),.string (bs m)] w λe w'=>e=.returned (.int .i64 (cK (nv l) (nv m)))/\Bw w w':=by
 have hbl:=Nat.le_trans (fO (mA l)) (show 8*l.length<=549755813888 by omega);have Fl:=Nat.le_trans (fO (mA m)) (show 8*m.length<=549755813888 by omega);go_enter Tryz.func158,Tryz.ntmps158;go_wp2_with fail;refine(nk l w hl).mono ?_;rintro e w1 ⟨⟨y,rfl,hy⟩,hb1⟩;obtain⟨Hy,bL⟩:=aM hy hb1;clear hy hb1;go_wp2_with fail;refine(nk m w1 hm).mono ?_;rintro e w2 ⟨⟨z,rfl,hz⟩,hb2⟩;obtain⟨Hz,bV⟩:=aM hz hb2;clear hz hb2;go_wp2_with fail;refine(WJ y z _ _ (nv l) (nv m) w2 (Hy.out.below bV.out) Hz.out zo zo).mono ?_;rintro e w' ⟨rfl,rfl⟩;go_wp2;go_ret;exact⟨rfl,aK bL.out bV.out⟩
theorem QS (S u:Nat):cK S u<0↔S<u:=by
 unfold cK;by_cases h1:S<u
 . rw[if_pos h1];omega
 . rw[if_neg h1];by_cases h2:u<S
   . rw[if_pos h2];omega
   . rw[if_neg h2];omega
theorem ajj (l m:List UInt8)(w:World)(hl:l.length<=68719476736)(hm:m.length<=68719476736)(h:nv l<nv m):
 Calls Tryz.prog 130 #[.string (bs l),.string (bs m)] w λe w'=>e=.returned (.tuple #[.string ⟨#[]⟩,.bool false])/\Bw w w':=by
 have hc:=(QS (nv l) (nv m)).2 h;have H1:=ah (WI l m w hl hm);clear h;generalize cK (nv l) (nv m)=c at*;go_enter Tryz.func130,Tryz.ntmps130;go_wp2_with fail;refine H1.out.mono ?_;rintro e w1 ⟨rfl,hb1⟩;have bL:=ah hb1;clear hb1;go_wp2;go_ret2
 exact⟨rfl,bL.out⟩
theorem WR (l m:List UInt8)(w:World)(hl:l.length<=68719476736)(hm:m.length<=68719476736)(h:nv m<=nv l):
 Calls Tryz.prog 130 #[.string (bs l),.string (bs m)] w λe w'=>e=.returned (.tuple #[.string (bs (nt (nv l-nv m))),.bool true])/\Bw w w':=by
 have hc:¬cK (nv l) (nv m)<0:=λh2=>by have:=(QS (nv l) (nv m)).1 h2;omega
 have hbl:=Nat.le_trans (fO (mA l)) (show 8*l.length<=549755813888 by omega);have Fl:=Nat.le_trans (fO (mA m)) (show 8*m.length<=549755813888 by omega);obtain⟨H1,H2,H3⟩:=cH (WI l m w hl hm) (λW=>nk l W hl) (λW=>nk m W hm);generalize cK (nv l) (nv m)=c at*;go_enter Tryz.func130,Tryz.ntmps130;go_wp2_with fail;refine H1.out.mono ?_;rintro e w1 ⟨rfl,hb1⟩;have bL:=ah hb1;clear hb1;go_wp2_with fail;refine(H2.out w1).mono ?_;rintro e w2 ⟨⟨y,rfl,hy⟩,hb2⟩;obtain⟨Hy,bV⟩:=aM hy hb2;clear hy hb2;go_wp2_with fail;refine(H3.out w2).mono ?_;rintro e w3 ⟨⟨z,rfl,hz⟩,hb3⟩;obtain⟨Hz,dQ⟩:=aM hz hb3;clear hz hb3;go_wp2_with fail;refine(WO y z _ _ (nv l) (nv m) w3 (Hy.out.below dQ.out) Hz.out zo zo h).mono ?_;rintro e w4 ⟨⟨d,rfl,hd,_⟩,hb4⟩;obtain⟨Hd,iJ⟩:=aM hd hb4;clear hd hb4;go_wp2_with fail;refine(sS d _ (nv l-nv m) w4 zo Hd.out).mono ?_;rintro e w5 ⟨rfl,dm⟩;have fq:=ah dm;clear dm;go_wp2;go_ret2
 exact⟨rfl,aK bL.out (aK bV.out (aK dQ.out (aK iJ.out fq.out)))⟩
theorem zD (s:Bool)(l:List UInt8)(Z:Int)(hZ:iv s l=Z)(w:World)(hl:l.length<=68719476736):
 Calls Tryz.prog 117 #[.agg #[.bool s,.string (bs l)]] w λe w'=>e=.returned (.agg #[.bool (au Z),.string (bs (nt Z.natAbs))])/\Bw w w':=by
 have h:=Dh s l w hl;rw[<-My,<-mr s l,hZ]at h;exact h
theorem ajg (s:Bool)(l:List UInt8)(w:World)(hl:l.length<=68719476736):
 Calls Tryz.prog 66 #[.agg #[.bool s,.string (bs l)]] w λe w'=>e=.returned (.int .i64 (dP (iv s l)))/\Bw w w':=by
 by_cases h0:nv l=0
 . have e:dP (iv s l)=0:=by unfold iv;rw[h0];cases s<;>rfl
   rw[e];exact WQ s l w hl h0
 . have h1:=WN l;have hbp:=Bf (v:=nv l) zo;have e:dP (iv s l)=if s then-1 else 1:=by unfold iv dP;cases s<;>simp<;>omega
   rw[e];generalize bu (nv l)=B at*;have hB:((B:Int)==0)=false:=by simp;omega
   have H1:=ah h1;clear h1 e h0;obtain⟨W,cO,Hb,Hx⟩:=iF w 28 [.bool s,.string (bs l)];obtain⟨x0,x1⟩:=Hx.out.c2;go_enter Tryz.func66,Tryz.ntmps66;go_wp2_with fail;refine(H1.out _ hl).mono ?_;rintro e w1 ⟨rfl,ae⟩;clear x0 x1;replace Hx:=kB Hx ae;obtain⟨x0,x1⟩:=Hx.out.c2;replace Hb:=az Hb ae;clear ae;cases s with
   |false=>go_wp2;go_ret;exact⟨rfl,Hb.out⟩
   |true=>go_wp2;go_ret;exact⟨rfl,Hb.out⟩
theorem ai9 (s:Bool)(l m:List UInt8)(Z:Int)(hZ:iv s l+iv s m=Z)(w:World)(hl:l.length<=1048576)(hm:m.length<=1048576):
 Calls Tryz.prog 90 #[.agg #[.bool s,.string (bs l)],.agg #[.bool s,.string (bs m)]] w λe w'=>e=.returned (.agg #[.bool (au Z),.string (bs (nt Z.natAbs))])/\Bw w w':=by
 have es:fU [l,m]=nv l+nv m:=by simp[fU]
 have ha:∀W b,At W (some ⟨b,0,none⟩) [.string (bs l),.string (bs m)]->Calls Tryz.prog 129 #[.slice (some ⟨b,0,none⟩) 2 2] W λe w'=>e=.returned (.string (bs (nt (nv l+nv m))))/\Bw W w':=by intro W b h;rw[<-es];exact aiJ [l,m] (some ⟨b,0,none⟩) 2 W (by intro x hx;simp at hx;rcases hx with rfl|rfl<;>omega) (by show 2<=1048576;decide) h
 have hlen:(nt (nv l+nv m)).length<=68719476736:=by have h1:=fD l;have h2:=fD m;obtain⟨N,hN⟩:=aC (max l.length m.length);refine Nat.le_trans (il (k:=N+1) ?_) zo;have h3:256^l.length<=256^N:=Nat.pow_le_pow_right zd zo;have h4:256^m.length<=256^N:=Nat.pow_le_pow_right zd zo;rw[Nat.pow_succ];omega
 have hf:=λW=>zD s (nt (nv l+nv m)) Z (by rw[<-hZ,lF];unfold iv;cases s<;>simp<;>omega) W hlen;obtain⟨Ha,Hf⟩:=aM ha hf;clear ha hf hlen es hZ;generalize nt (nv l+nv m)=S at*;obtain⟨W,cO,Hb,Hx,Hy,Hr⟩:=pM w 28 [.bool s,.string (bs l)] 28 [.bool s,.string (bs m)] 28 [.bool false,.string ⟨#[]⟩];obtain⟨x0,x1⟩:=Hx.out.c2;obtain⟨y0,y1⟩:=Hy.out.c2;obtain⟨r0,aj,r1,ar⟩:=Hr.out.g2;go_enter Tryz.func90,Tryz.ntmps90;go_wp2_with fail;refine bD (λw'=>w'.cell? ⟨w.heap.size,0,none⟩=some (.bool s)/\w'.cell? ⟨w.heap.size,1,none⟩=some (.string (bs l))/\w'.cell? ⟨w.heap.size+1,0,none⟩=some (.bool s)/\w'.cell? ⟨w.heap.size+1,1,none⟩=some (.string (bs m))) (λi=>Nat.blt i 10) [(0,true),(1,true),(2,true),(3,true),(4,true),(5,true),(6,false),(7,false),(8,true),(9,false),(10,false)] zk zk rfl zk zc ⟨x0,x1,y0,y1⟩ ?_;iterate 6 (refine pT rfl rfl ?_ (by intro w' ⟨q0,q1,q2,q3⟩;go_simp;try with_reducible rfl);try simp only[UU])
 refine aJ rfl rfl (λK hK=>?_);go_simp;refine hK _ _ (λ_=>⟨aI x0,aI x1,aI y0,aI y1⟩) ?_;clear hK K;try simp only[UU]
 refine bE (λW1=>ai W1 (W.heap.size) 9 [.string (bs l),.string (bs m)]/\Bw W W1) (by first|exact dW|exact dX) ?_;rintro W1 ⟨qv,ae⟩;clear x0 x1 y0 y1 r0 aj r1 ar;have agO:=Hx.out.lt;have agQ:=Hy.out.lt;have CM:=Hr.out.lt;replace Hx:=kB Hx ae;replace Hy:=kB Hy ae;replace Hr:=kB Hr ae;have Hv:=ah qv;clear qv;obtain⟨x0,x1⟩:=Hx.out.c2;obtain⟨y0,y1⟩:=Hy.out.c2;obtain⟨r0,aj,r1,ar⟩:=Hr.out.g2;obtain⟨v0,v1⟩:=Hv.out.c2;replace Hb:=az Hb ae;clear ae;refine aJ rfl rfl (λK hK=>?_);go_simp;with_reducible refine(Ha.out _ _ (At.an6 Hv.out)).mono ?_
 rintro e w2 ⟨rfl,hq⟩;have ae:Bw W1 w2:=by first|exact hq|exact aO hq
 clear x0 x1 y0 y1 r0 aj r1 ar v0 v1;replace Hx:=kB Hx ae;replace Hy:=kB Hy ae;replace Hr:=kB Hr ae;replace Hv:=kB Hv ae;obtain⟨x0,x1⟩:=Hx.out.c2;obtain⟨y0,y1⟩:=Hy.out.c2;obtain⟨r0,aj,r1,ar⟩:=Hr.out.g2;obtain⟨v0,v1⟩:=Hv.out.c2;replace Hb:=az Hb ae;clear ae;refine hK _ _ (λ_=>⟨x0,x1,y0,y1⟩) ?_;clear hK K;try simp only[UU]
 refine pT rfl rfl ?_;try simp only[UU]
 refine aJ rfl rfl (λK hK=>?_);go_simp;with_reducible refine(Hf.out _).mono ?_
 rintro e w3 ⟨rfl,hq⟩;have ae:Bw w2 w3:=by first|exact hq|exact aO hq
 clear x0 x1 y0 y1 r0 aj r1 ar v0 v1;replace Hx:=kB Hx ae;replace Hy:=kB Hy ae;replace Hr:=kB Hr ae;replace Hv:=kB Hv ae;obtain⟨x0,x1⟩:=Hx.out.c2;obtain⟨y0,y1⟩:=Hy.out.c2;obtain⟨r0,aj,r1,ar⟩:=Hr.out.g2;obtain⟨v0,v1⟩:=Hv.out.c2;replace Hb:=az Hb ae;clear ae;refine hK _ _ (λ_=>⟨x0,x1,y0,y1⟩) ?_;clear hK K;try simp only[UU]
 refine aJ rfl rfl (λK hK=>?_);go_simp;refine hK _ _ (λh=>absurd h zd) ?_;clear hK K;try simp only[UU]
 clear x0 x1 y0 y1 r0 aj r1 ar v0 v1;refine bE (λw4=>ai w4 (w.heap.size) 28 [.bool s,.string (bs l)]/\ai w4 (w.heap.size+1) 28 [.bool s,.string (bs m)]/\ai w4 (w.heap.size+1+1) 28 [.bool (au Z),.string (bs (nt Z.natAbs))]/\ai w4 (W.heap.size) 9 [.string (bs l),.string (bs m)]/\Bw w w4) ⟨((Hx.out.so (w.heap.size+1+1) 0 zo _).so (w.heap.size+1+1) 1 zo _),((Hy.out.so (w.heap.size+1+1) 0 zo _).so (w.heap.size+1+1) 1 zo _),((Hr.out.set 0 _).set 1 _),((Hv.out.so (w.heap.size+1+1) 0 zo _).so (w.heap.size+1+1) 1 zo _),by first|exact((Hb.out.sc (w.heap.size+1+1) 0 ZS _).sc (w.heap.size+1+1) 1 ZS _) |exact Below.drew ((Hb.out.sc (w.heap.size+1+1) 0 ZS _).sc (w.heap.size+1+1) 1 ZS _)⟩ ?_;rintro w4 ⟨qx,qy,qr,qv,ae⟩;replace Hx:=ah qx;clear qx;replace Hy:=ah qy;clear qy;replace Hr:=ah qr;clear qr;replace Hv:=ah qv;clear qv;obtain⟨x0,x1⟩:=Hx.out.c2;obtain⟨y0,y1⟩:=Hy.out.c2;obtain⟨r0,aj,r1,ar⟩:=Hr.out.g2;obtain⟨v0,v1⟩:=Hv.out.c2;replace Hb:=ah ae;clear ae;simp only[aU];go_wp2;refine bodyPost_ret (v:=.agg #[.bool (au Z),.string (bs (nt Z.natAbs))]) (by simp[results,Tryz.results90,go_sem,r0,r1]) rfl ⟨rfl,?_⟩;(repeat first|exact Hb.out| (refine Below.setCell ?_ (by have:=Hb.out.size;first| (dsimp only;omega) | (show _<=_;omega) | (simp<;>omega)) _) | (refine Below.alloc ?_ zt _) |refine Below.drew ?_)
theorem ai7 (s:Bool)(l m:List UInt8)(Z:Int)(hZ:iv s l+iv (!s) m=Z)(h:nv m<=nv l)(w:World)(hl:l.length<=1048576)(hm:m.length<=1048576):
 Calls Tryz.prog 90 #[.agg #[.bool s,.string (bs l)],.agg #[.bool (!s),.string (bs m)]] w λe w'=>e=.returned (.agg #[.bool (au Z),.string (bs (nt Z.natAbs))])/\Bw w w':=by
 have ha:=λW=>WR l m W zo zo h;have hlen:(nt (nv l-nv m)).length<=68719476736:=by have h1:=fD l;refine Nat.le_trans (il (k:=l.length) zo) zo
 have hf:=λW=>zD s (nt (nv l-nv m)) Z (by rw[<-hZ,lF];unfold iv;cases s<;>simp<;>omega) W hlen;obtain⟨Ha,Hf⟩:=aM ha hf;clear ha hf hlen hZ h;generalize nt (nv l-nv m)=S at*;have hne:(s== !s)=false:=by cases s<;>rfl
 obtain⟨t,ht⟩:=aC (!s);rw[ht]at hne⊢;obtain⟨W,cO,Hb,Hx,Hy,Hr⟩:=pM w 28 [.bool s,.string (bs l)] 28 [.bool t,.string (bs m)] 28 [.bool false,.string ⟨#[]⟩];obtain⟨x0,x1⟩:=Hx.out.c2;obtain⟨y0,y1⟩:=Hy.out.c2;obtain⟨r0,aj,r1,ar⟩:=Hr.out.g2;go_enter Tryz.func90,Tryz.ntmps90;go_wp2_with fail;refine(Ha.out _).mono ?_;rintro e w1 ⟨rfl,ae⟩;clear x0 x1 y0 y1 r0 aj r1 ar;replace Hx:=kB Hx ae;replace Hy:=kB Hy ae;replace Hr:=kB Hr ae;obtain⟨x0,x1⟩:=Hx.out.c2;obtain⟨y0,y1⟩:=Hy.out.c2;obtain⟨r0,aj,r1,ar⟩:=Hr.out.g2;replace Hb:=az Hb ae;clear ae;go_wp2_with fail;refine(Hf.out _).mono ?_;rintro e w2 ⟨rfl,ae⟩;clear x0 x1 y0 y1 r0 aj r1 ar;replace Hx:=kB Hx ae;replace Hy:=kB Hy ae;replace Hr:=kB Hr ae;obtain⟨x0,x1⟩:=Hx.out.c2;obtain⟨y0,y1⟩:=Hy.out.c2;obtain⟨r0,aj,r1,ar⟩:=Hr.out.g2;replace Hb:=az Hb ae;clear ae;go_wp2;clear x0 x1 y0 y1 r0 aj r1 ar;refine gu (λw9=>ai w9 (w.heap.size) 28 [.bool s,.string (bs l)]/\ai w9 (w.heap.size+1) 28 [.bool t,.string (bs m)]/\ai w9 (w.heap.size+1+1) 28 [.bool (au Z),.string (bs (nt Z.natAbs))]/\Bw w w9) ⟨((Hx.out.so (w.heap.size+1+1) 0 zo _).so (w.heap.size+1+1) 1 zo _),((Hy.out.so (w.heap.size+1+1) 0 zo _).so (w.heap.size+1+1) 1 zo _),((Hr.out.set 0 _).set 1 _),((Hb.out.sc (w.heap.size+1+1) 0 ZS _).sc (w.heap.size+1+1) 1 ZS _)⟩ ?_;rintro w9 ⟨qx,qy,qr,ae⟩;replace Hx:=ah qx;clear qx;replace Hy:=ah qy;clear qy;replace Hr:=ah qr;clear qr;obtain⟨x0,x1⟩:=Hx.out.c2;obtain⟨y0,y1⟩:=Hy.out.c2;obtain⟨r0,aj,r1,ar⟩:=Hr.out.g2;replace Hb:=ah ae;clear ae;refine bodyPost_ret (v:=.agg #[.bool (au Z),.string (bs (nt Z.natAbs))]) (by simp[results,Tryz.results90,go_sem,r0,r1]) rfl ⟨rfl,Hb.out⟩
theorem ai8 (s:Bool)(l m:List UInt8)(Z:Int)(hZ:iv s l+iv (!s) m=Z)(h:nv l<nv m)(w:World)(hl:l.length<=1048576)(hm:m.length<=1048576):
 Calls Tryz.prog 90 #[.agg #[.bool s,.string (bs l)],.agg #[.bool (!s),.string (bs m)]] w λe w'=>e=.returned (.agg #[.bool (au Z),.string (bs (nt Z.natAbs))])/\Bw w w':=by
 have ha:=λW=>ajj l m W zo zo h;have hb:=λW=>WR m l W zo zo (Nat.le_of_lt h);have hlen:(nt (nv m-nv l)).length<=68719476736:=by have h1:=fD m;refine Nat.le_trans (il (k:=m.length) zo) zo
 have hf:=λW=>zD (!s) (nt (nv m-nv l)) Z (by rw[<-hZ,lF];unfold iv;cases s<;>simp<;>omega) W hlen;obtain⟨Ha,Hs,Hf⟩:=cH ha hb hf;clear ha hb hf hlen hZ h;generalize nt (nv m-nv l)=S at*;have hne:(s== !s)=false:=by cases s<;>rfl
 obtain⟨t,ht⟩:=aC (!s);rw[ht]at hne Hf⊢;obtain⟨W,cO,Hb,Hx,Hy,Hr⟩:=pM w 28 [.bool s,.string (bs l)] 28 [.bool t,.string (bs m)] 28 [.bool false,.string ⟨#[]⟩];obtain⟨x0,x1⟩:=Hx.out.c2;obtain⟨y0,y1⟩:=Hy.out.c2;obtain⟨r0,aj,r1,ar⟩:=Hr.out.g2;go_enter Tryz.func90,Tryz.ntmps90;go_wp2_with fail;refine(Ha.out _).mono ?_;rintro e w1 ⟨rfl,ae⟩;clear x0 x1 y0 y1 r0 aj r1 ar;replace Hx:=kB Hx ae;replace Hy:=kB Hy ae;replace Hr:=kB Hr ae;obtain⟨x0,x1⟩:=Hx.out.c2;obtain⟨y0,y1⟩:=Hy.out.c2;obtain⟨r0,aj,r1,ar⟩:=Hr.out.g2;replace Hb:=az Hb ae;clear ae;go_wp2_with fail;refine(Hs.out _).mono ?_;rintro e w2 ⟨rfl,ae⟩;clear x0 x1 y0 y1 r0 aj r1 ar;replace Hx:=kB Hx ae;replace Hy:=kB Hy ae;replace Hr:=kB Hr ae;obtain⟨x0,x1⟩:=Hx.out.c2;obtain⟨y0,y1⟩:=Hy.out.c2;obtain⟨r0,aj,r1,ar⟩:=Hr.out.g2;replace Hb:=az Hb ae;clear ae;go_wp2_with fail;refine(Hf.out _).mono ?_;rintro e w3 ⟨rfl,ae⟩;clear x0 x1 y0 y1 r0 aj r1 ar;replace Hx:=kB Hx ae;replace Hy:=kB Hy ae;replace Hr:=kB Hr ae;obtain⟨x0,x1⟩:=Hx.out.c2;obtain⟨y0,y1⟩:=Hy.out.c2;obtain⟨r0,aj,r1,ar⟩:=Hr.out.g2;replace Hb:=az Hb ae;clear ae;go_wp2;clear x0 x1 y0 y1 r0 aj r1 ar;refine gu (λw9=>ai w9 (w.heap.size) 28 [.bool s,.string (bs l)]/\ai w9 (w.heap.size+1) 28 [.bool t,.string (bs m)]/\ai w9 (w.heap.size+1+1) 28 [.bool (au Z),.string (bs (nt Z.natAbs))]/\Bw w w9) ⟨((Hx.out.so (w.heap.size+1+1) 0 zo _).so (w.heap.size+1+1) 1 zo _),((Hy.out.so (w.heap.size+1+1) 0 zo _).so (w.heap.size+1+1) 1 zo _),((Hr.out.set 0 _).set 1 _),((Hb.out.sc (w.heap.size+1+1) 0 ZS _).sc (w.heap.size+1+1) 1 ZS _)⟩ ?_;rintro w9 ⟨qx,qy,qr,ae⟩;replace Hx:=ah qx;clear qx;replace Hy:=ah qy;clear qy;replace Hr:=ah qr;clear qr;obtain⟨x0,x1⟩:=Hx.out.c2;obtain⟨y0,y1⟩:=Hy.out.c2;obtain⟨r0,aj,r1,ar⟩:=Hr.out.g2;replace Hb:=ah ae;clear ae;refine bodyPost_ret (v:=.agg #[.bool (au Z),.string (bs (nt Z.natAbs))]) (by simp[results,Tryz.results90,go_sem,r0,r1]) rfl ⟨rfl,Hb.out⟩
theorem ai6 (s:Bool)(l:List UInt8)(t:Bool)(m:List UInt8)(Z:Int)(hZ:iv s l+iv t m=Z)(w:World)(hl:l.length<=1048576)(hm:m.length<=1048576):
 Calls Tryz.prog 90 #[.agg #[.bool s,.string (bs l)],.agg #[.bool t,.string (bs m)]] w λe w'=>e=.returned (.agg #[.bool (au Z),.string (bs (nt Z.natAbs))])/\Bw w w':=by
 by_cases h:s=t
 . subst h;exact ai9 s l m Z hZ w hl hm
 . obtain rfl:t= !s:=by cases s<;>cases t<;>simp_all
   by_cases h2:nv l<nv m
   . exact ai8 s l m Z hZ h2 w hl hm
   . exact ai7 s l m Z hZ zo w hl hm
theorem ajf (l:List UInt8)(p:Nat)(w:World)(hl:l.length<=68719476736)(hp:p<=274877906944):
 Calls Tryz.prog 131 #[.string (bs l),.int .i64 (p:Int)] w λe w'=>e=.returned (.string (bs (nt (nv l*2^p))))/\Bw w w':=by
 have mP:bu (nv l)<=549755813888:=Nat.le_trans (fO (mA l)) zo;have hmx:max (p:Int) 0=(p:Int):=by omega
 have Hb:Hid (Bw w w):=Below.refl _ _;go_enter Tryz.func131,Tryz.ntmps131;go_wp2_with fail;refine(nk l _ hl).mono ?_;rintro e w1 ⟨⟨y,rfl,hy⟩,hb1⟩;obtain⟨Hy,bL⟩:=aM hy hb1;clear hy hb1;go_wp2_with fail;refine(NA (.slice none 0 0) y 0 (bu (nv l)) 0 (nv l) p w1 ⟨by simp,.inl ⟨rfl,rfl⟩⟩ Hy.out zo zo).mono ?_;rintro e w2 ⟨⟨z,rfl,hz⟩,hb2⟩;rw[Nat.zero_add]at hz;obtain⟨Hz,bV⟩:=aM hz hb2;clear hz hb2;go_wp2_with fail;refine(sS z _ (nv l*2^p) w2 zo Hz.out).mono ?_;rintro e w3 ⟨rfl,hb3⟩;have dQ:=ah hb3;clear hb3;go_wp2;go_ret;exact⟨rfl,aK bL.out (aK bV.out dQ.out)⟩
theorem ag3 (v k:Nat):v%2^(k+1)=v%2^k+bd v k*2^k:=by unfold bd;rw[Nat.pow_succ,Nat.mod_mul,Nat.mul_comm]
theorem aiZ (l m:List UInt8)(w:World)(hl:l.length<=17179869184)(hm:m.length<=17179869184):
 Calls Tryz.prog 154 #[.string (bs l),.string (bs m)] w λe w'=>e=.returned (.string (bs (nt (nv l*nv m))))/\Bw w w':=by
 have hbl:bu (nv l)<=137438953472:=Nat.le_trans (fO (mA l)) zo;have Fl:bu (nv m)<=137438953472:=Nat.le_trans (fO (mA m)) zo;have hvl:=nS (nv l);obtain⟨V,hV⟩:=aC (nv l);obtain⟨U,hU⟩:=aC (nv m);have h1:=λW=>nk l W zo;have h2:=λW=>nk m W zo;rw[hV]at hbl hvl h1⊢;rw[hU]at Fl h2⊢;obtain⟨N,hN⟩:=aC (bu V);obtain⟨M,hM⟩:=aC (bu U);rw[hN]at hbl hvl h1;rw[hM]at Fl h2;obtain⟨H1,H2,kV⟩:=cH h1 h2 hvl;clear h1 h2 hvl hV hU hN hM hl hm;have Hb:Hid (Bw w w):=Below.refl _ _;go_enter Tryz.func154,Tryz.ntmps154;go_wp2_with fail;refine(H1.out _).mono ?_;rintro e w1 ⟨⟨x,rfl,hx⟩,hb1⟩;obtain⟨Hx,bL⟩:=aM hx hb1;clear hx hb1;go_wp2_with fail;refine(H2.out _).mono ?_;rintro e w2 ⟨⟨y,rfl,hy⟩,hb2⟩;obtain⟨oP,Hy,bV⟩:=cH (Hx.out.below hb2) hy (aK bL.out hb2);clear hy hb2 bL Hx;obtain⟨a,cap,rfl⟩:=oP.out.len;go_wp2_with fail;go_loopw[7,8] (λz i wr=>∃k n:Nat,k<=N/\n<=M+k/\i=.int .i64 (k:Int)/\Bv wr z n (V%2^k*U)/\Bw w2 wr) (λ_ i _=>N-(intOf i).toNat);case atStart=>exact⟨0,0,Nat.zero_le _,Nat.zero_le _,rfl,⟨by simp[Nat.mod_one],.inl ⟨rfl,rfl⟩⟩,Below.refl _ _⟩
 case round=>
  obtain⟨k,n,hk,hn,rfl,hz,hb⟩:=hrel;by_cases hlt:k<N
  . have hxk:=oP.out.below hb;rcases hxk.2 with⟨h,h0⟩ |⟨b,o,cap',h,hcap,hc⟩
    . omega
    simp only[Value.slice.injEq,true_and]at h;obtain⟨rfl,rfl⟩:=h;have hcell:=hc k hlt;have bA:=ut N cap k (k:Int) (rfl:(some ⟨b,o,none⟩:Option Addr)=_) hlt rfl;rw[Nat.mul_one]at bA;have hst:=ag3 V k;obtain⟨Hz,Hb,hyk⟩:=cH hz hb (Hy.out.below hb);clear hz hb hc hxk;rcases(show bd V k=0\/bd V k=1 by unfold bd;omega)with hd|hd
    . have hd':((bd V k:Int)==1)=false:=by simp[hd]
      rw[hd,Nat.zero_mul,Nat.add_zero]at hst;have bS:=ah hst;clear hst hd;go_wp2;go_roundw;case rel=>exact⟨k+1,n,by omega,by omega,by go_num,by rw[bS.out];exact Hz.out,Hb.out⟩
      case measure=>simp[intOf];omega
    . have hd':((bd V k:Int)==1)=true:=by simp[hd]
      rw[hd,Nat.one_mul]at hst;have bS:=ah hst;clear hst hd;go_wp2_with fail;refine(NA u7 y n M (V%2^k*U) U k wr Hz.out hyk.out zo zo).mono ?_;rintro e w4 ⟨⟨z,rfl,hz⟩,hb4⟩;obtain⟨Hz4,iJ⟩:=aM hz hb4;clear hz hb4;go_wp2;go_roundw;case rel=>refine⟨k+1,max n (M+k)+1,by omega,by omega,by go_num,?_,aK Hb.out iJ.out⟩;rw[bS.out,Nat.add_mul,Nat.mul_comm (2^k) U];exact Hz4.out
      case measure=>simp[intOf];omega
  . obtain rfl:k=N:=by omega
    have SE:V%2^k=V:=Nat.mod_eq_of_lt kV.out;rw[SE]at hz;obtain⟨Hz,Hb⟩:=aM hz hb;clear hz hb SE;go_wp2_with fail;refine(sS u7 n (V*U) wr zo Hz.out).mono ?_;rintro e w4 ⟨rfl,hb4⟩;have iJ:=ah hb4;clear hb4;go_wp2;go_ret;exact⟨rfl,aK bV.out (aK Hb.out iJ.out)⟩
theorem Wc (l m:List UInt8):(nt (nv l*nv m)).length<=l.length+m.length:=by refine il ?_;rw[Nat.pow_add];have h1:=fD l;have h2:=fD m;exact Nat.mul_lt_mul_of_lt_of_le h1 (Nat.le_of_lt h2) zo
theorem Wd (l:List UInt8)(p:Nat):(nt (nv l*2^p)).length<=l.length+p:=by refine il ?_;rw[Nat.pow_add];have h1:=fD l;have h2:2^p<=256^p:=Nat.pow_le_pow_left zd p;exact Nat.mul_lt_mul_of_lt_of_le h1 h2 (Nat.pow_pos zd)
theorem ai0 (s:Bool)(l:List UInt8)(Z:Int)(hZ: -iv s l=Z)(w:World)(hl:l.length<=1048576):
 Calls Tryz.prog 103 #[.agg #[.bool s,.string (bs l)]] w λe w'=>e=.returned (.agg #[.bool (au Z),.string (bs (nt Z.natAbs))])/\Bw w w':=by
 have hf:=λW=>zD (!s) l Z (by rw[<-hZ];unfold iv;cases s<;>simp) W zo;have Hf:=ah hf;clear hf hZ;generalize Z.natAbs=Y at*;generalize au Z=t at*;obtain⟨W,cO,Hb,Hx,Hr⟩:=ni w 28 [.bool s,.string (bs l)] 28 [.bool false,.string ⟨#[]⟩];obtain⟨x0,x1⟩:=Hx.out.c2;obtain⟨r0,aj,r1,ar⟩:=Hr.out.g2;go_enter Tryz.func103,Tryz.ntmps103;go_wp2_with fail;refine(Hf.out _).mono ?_;rintro e w1 ⟨rfl,ae⟩;clear x0 x1 r0 aj r1 ar;replace Hx:=kB Hx ae;replace Hr:=kB Hr ae;obtain⟨x0,x1⟩:=Hx.out.c2;obtain⟨r0,aj,r1,ar⟩:=Hr.out.g2;replace Hb:=az Hb ae;clear ae;go_wp2;clear x0 x1 r0 aj r1 ar;refine gu (λw9=>ai w9 (w.heap.size) 28 [.bool s,.string (bs l)]/\ai w9 (w.heap.size+1) 28 [.bool t,.string (bs (nt Y))]/\Bw w w9) ⟨((Hx.out.so (w.heap.size+1) 0 zo _).so (w.heap.size+1) 1 zo _),((Hr.out.set 0 _).set 1 _),((Hb.out.sc (w.heap.size+1) 0 ZS _).sc (w.heap.size+1) 1 ZS _)⟩ ?_;rintro w9 ⟨qx,qr,ae⟩;replace Hx:=ah qx;clear qx;replace Hr:=ah qr;clear qr;obtain⟨x0,x1⟩:=Hx.out.c2;obtain⟨r0,aj,r1,ar⟩:=Hr.out.g2;replace Hb:=ah ae;clear ae;refine bodyPost_ret (v:=.agg #[.bool t,.string (bs (nt Y))]) (by simp[results,Tryz.results103,go_sem,r0,r1]) rfl ⟨rfl,Hb.out⟩
theorem ajn (s:Bool)(l:List UInt8)(t:Bool)(m:List UInt8)(Z:Int)(hZ:iv s l*iv t m=Z)(w:World)(hl:l.length<=524288)(hm:m.length<=524288):
 Calls Tryz.prog 122 #[.agg #[.bool s,.string (bs l)],.agg #[.bool t,.string (bs m)]] w λe w'=>e=.returned (.agg #[.bool (au Z),.string (bs (nt Z.natAbs))])/\Bw w w':=by
 have hf:=λW=>zD (!(s==t)) (nt (nv l*nv m)) Z (by rw[<-hZ,lF];unfold iv;cases s<;>cases t<;>simp[Int.neg_mul,Int.mul_neg]) W (by have:=Wc l m;omega);have TY:=λW=>aiZ l m W zo zo;obtain⟨Hf,Hm⟩:=aM hf TY;clear hf TY hZ;generalize Z.natAbs=Y at*;generalize au Z=v at*;generalize nt (nv l*nv m)=S at*;obtain⟨W,cO,Hb,Hx,Hy,Hr⟩:=pM w 28 [.bool s,.string (bs l)] 28 [.bool t,.string (bs m)] 28 [.bool false,.string ⟨#[]⟩];obtain⟨x0,x1⟩:=Hx.out.c2;obtain⟨y0,y1⟩:=Hy.out.c2;obtain⟨r0,aj,r1,ar⟩:=Hr.out.g2;go_enter Tryz.func122,Tryz.ntmps122;go_wp2_with fail;refine bD (λw'=>w'.cell? ⟨w.heap.size,0,none⟩=some (.bool s)/\w'.cell? ⟨w.heap.size,1,none⟩=some (.string (bs l))/\w'.cell? ⟨w.heap.size+1,0,none⟩=some (.bool t)/\w'.cell? ⟨w.heap.size+1,1,none⟩=some (.string (bs m))) (λi=>Nat.blt i 12) [(0,true),(1,true),(2,true),(3,true),(4,true),(5,true),(6,true),(7,true),(8,true),(9,false),(10,true),(11,false),(12,false)] zk zk rfl zk zc ⟨x0,x1,y0,y1⟩ ?_;iterate 9 (refine pT rfl rfl ?_ (by intro w' ⟨q0,q1,q2,q3⟩;go_simp;try with_reducible rfl);try simp only[UU])
 refine aJ rfl rfl (λK hK=>?_);go_simp;with_reducible refine(Hm.out _).mono ?_
 rintro e w1 ⟨rfl,hq⟩;have ae:Bw W w1:=by first|exact hq|exact aO hq
 clear x0 x1 y0 y1 r0 aj r1 ar;replace Hx:=kB Hx ae;replace Hy:=kB Hy ae;replace Hr:=kB Hr ae;obtain⟨x0,x1⟩:=Hx.out.c2;obtain⟨y0,y1⟩:=Hy.out.c2;obtain⟨r0,aj,r1,ar⟩:=Hr.out.g2;replace Hb:=az Hb ae;clear ae;refine hK _ _ (λ_=>⟨x0,x1,y0,y1⟩) ?_;clear hK K;try simp only[UU]
 refine pT rfl rfl ?_;try simp only[UU]
 refine aJ rfl rfl (λK hK=>?_);go_simp;with_reducible refine(Hf.out _).mono ?_
 rintro e w2 ⟨rfl,hq⟩;have ae:Bw w1 w2:=by first|exact hq|exact aO hq
 clear x0 x1 y0 y1 r0 aj r1 ar;replace Hx:=kB Hx ae;replace Hy:=kB Hy ae;replace Hr:=kB Hr ae;obtain⟨x0,x1⟩:=Hx.out.c2;obtain⟨y0,y1⟩:=Hy.out.c2;obtain⟨r0,aj,r1,ar⟩:=Hr.out.g2;replace Hb:=az Hb ae;clear ae;refine hK _ _ (λ_=>⟨x0,x1,y0,y1⟩) ?_;clear hK K;try simp only[UU]
 refine aJ rfl rfl (λK hK=>?_);go_simp;refine hK _ _ (λh=>absurd h zd) ?_;clear hK K;try simp only[UU]
 clear x0 x1 y0 y1 r0 aj r1 ar;refine bE (λw9=>ai w9 (w.heap.size) 28 [.bool s,.string (bs l)]/\ai w9 (w.heap.size+1) 28 [.bool t,.string (bs m)]/\ai w9 (w.heap.size+1+1) 28 [.bool v,.string (bs (nt Y))]/\Bw w w9) ⟨((Hx.out.so (w.heap.size+1+1) 0 zo _).so (w.heap.size+1+1) 1 zo _),((Hy.out.so (w.heap.size+1+1) 0 zo _).so (w.heap.size+1+1) 1 zo _),((Hr.out.set 0 _).set 1 _),by first|exact((Hb.out.sc (w.heap.size+1+1) 0 ZS _).sc (w.heap.size+1+1) 1 ZS _) |exact Below.drew ((Hb.out.sc (w.heap.size+1+1) 0 ZS _).sc (w.heap.size+1+1) 1 ZS _)⟩ ?_;rintro w9 ⟨qx,qy,qr,ae⟩;replace Hx:=ah qx;clear qx;replace Hy:=ah qy;clear qy;replace Hr:=ah qr;clear qr;obtain⟨x0,x1⟩:=Hx.out.c2;obtain⟨y0,y1⟩:=Hy.out.c2;obtain⟨r0,aj,r1,ar⟩:=Hr.out.g2;replace Hb:=ah ae;clear ae;simp only[aU];go_wp2;refine bodyPost_ret (v:=.agg #[.bool v,.string (bs (nt Y))]) (by simp[results,Tryz.results122,go_sem,r0,r1]) rfl ⟨rfl,?_⟩;(repeat first|exact Hb.out| (refine Below.setCell ?_ (by have:=Hb.out.size;first| (dsimp only;omega) | (show _<=_;omega) | (simp<;>omega)) _) | (refine Below.alloc ?_ zt _) |refine Below.drew ?_)
theorem ajd (s:Bool)(l:List UInt8)(p:Nat)(Z:Int)(hZ:iv s l*2^p=Z)(w:World)(hl:l.length<=1048576)(hp:p<=1073741824):
 Calls Tryz.prog 91 #[.agg #[.bool s,.string (bs l)],.int .i64 (p:Int)] w λe w'=>e=.returned (.agg #[.bool (au Z),.string (bs (nt Z.natAbs))])/\Bw w w':=by
 have hf:=λW=>zD s (nt (nv l*2^p)) Z (by rw[<-hZ,lF];unfold iv;cases s<;>simp[Int.neg_mul]) W (by have:=Wd l p;omega);have hsh:=λW=>ajf l p W zo zo;have hp0:(0:Int)<=(p:Int):=by omega
 have hp1:decide ((p:Int)≥0)=true:=by simp
 obtain⟨Hf,Hm⟩:=aM hf hsh;clear hf hsh hZ;generalize Z.natAbs=Y at*;generalize au Z=v at*;generalize nt (nv l*2^p)=S at*;obtain⟨W,cO,Hb,Hx,Hr⟩:=ni w 28 [.bool s,.string (bs l)] 28 [.bool false,.string ⟨#[]⟩];obtain⟨x0,x1⟩:=Hx.out.c2;obtain⟨r0,aj,r1,ar⟩:=Hr.out.g2;go_enter Tryz.func91,Tryz.ntmps91;go_wp2_with fail;refine bD (λw'=>w'.cell? ⟨w.heap.size,0,none⟩=some (.bool s)/\w'.cell? ⟨w.heap.size,1,none⟩=some (.string (bs l))) (λi=>Nat.blt i 8) [(0,true),(1,true),(2,true),(3,true),(4,true),(5,false),(6,true),(7,false),(8,false)] zk zk rfl zk zc ⟨x0,x1⟩ ?_;iterate 5 (refine pT rfl rfl ?_ (by intro w' ⟨q0,q1⟩;go_simp;try with_reducible rfl);try simp only[UU])
 refine aJ rfl rfl (λK hK=>?_);go_simp;with_reducible refine(Hm.out _).mono ?_
 rintro e w1 ⟨rfl,hq⟩;have ae:Bw W w1:=by first|exact hq|exact aO hq
 clear x0 x1 r0 aj r1 ar;replace Hx:=kB Hx ae;replace Hr:=kB Hr ae;obtain⟨x0,x1⟩:=Hx.out.c2;obtain⟨r0,aj,r1,ar⟩:=Hr.out.g2;replace Hb:=az Hb ae;clear ae;refine hK _ _ (λ_=>⟨x0,x1⟩) ?_;clear hK K;try simp only[UU]
 refine pT rfl rfl ?_;try simp only[UU]
 refine aJ rfl rfl (λK hK=>?_);go_simp;with_reducible refine(Hf.out _).mono ?_
 rintro e w2 ⟨rfl,hq⟩;have ae:Bw w1 w2:=by first|exact hq|exact aO hq
 clear x0 x1 r0 aj r1 ar;replace Hx:=kB Hx ae;replace Hr:=kB Hr ae;obtain⟨x0,x1⟩:=Hx.out.c2;obtain⟨r0,aj,r1,ar⟩:=Hr.out.g2;replace Hb:=az Hb ae;clear ae;refine hK _ _ (λ_=>⟨x0,x1⟩) ?_;clear hK K;try simp only[UU]
 refine aJ rfl rfl (λK hK=>?_);go_simp;refine hK _ _ (λh=>absurd h zd) ?_;clear hK K;try simp only[UU]
 clear x0 x1 r0 aj r1 ar;refine bE (λw9=>ai w9 (w.heap.size) 28 [.bool s,.string (bs l)]/\ai w9 (w.heap.size+1) 28 [.bool v,.string (bs (nt Y))]/\Bw w w9) ⟨((Hx.out.so (w.heap.size+1) 0 zo _).so (w.heap.size+1) 1 zo _),((Hr.out.set 0 _).set 1 _),by first|exact((Hb.out.sc (w.heap.size+1) 0 ZS _).sc (w.heap.size+1) 1 ZS _) |exact Below.drew ((Hb.out.sc (w.heap.size+1) 0 ZS _).sc (w.heap.size+1) 1 ZS _)⟩ ?_;rintro w9 ⟨qx,qr,ae⟩;replace Hx:=ah qx;clear qx;replace Hr:=ah qr;clear qr;obtain⟨x0,x1⟩:=Hx.out.c2;obtain⟨r0,aj,r1,ar⟩:=Hr.out.g2;replace Hb:=ah ae;clear ae;simp only[aU];go_wp2;refine bodyPost_ret (v:=.agg #[.bool v,.string (bs (nt Y))]) (by simp[results,Tryz.results91,go_sem,r0,r1]) rfl ⟨rfl,?_⟩;(repeat first|exact Hb.out| (refine Below.setCell ?_ (by have:=Hb.out.size;first| (dsimp only;omega) | (show _<=_;omega) | (simp<;>omega)) _) | (refine Below.alloc ?_ zt _) |refine Below.drew ?_)
end Go.Proofs.YtdaadlblknpipaaGreatDoor
