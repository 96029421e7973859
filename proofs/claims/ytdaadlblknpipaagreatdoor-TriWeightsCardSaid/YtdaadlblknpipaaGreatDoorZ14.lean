/- Package ogeeref01: Div. -/
import Derived.Test.YtdaadlblknpipaaGreatDoorZ11
import Derived.Laws.AppendOwnNone
set_option linter.unusedVariables false
set_option linter.unusedSimpArgs false
set_option maxRecDepth 100000
set_option maxHeartbeats 16000000
namespace Go.Proofs.YtdaadlblknpipaaGreatDoor
open Go.RowKit
attribute [local go_sem ↓] Go.wp_at_zero Go.wp_at_succ
theorem aep (r c:Nat)(hc:c<=1):bd (2*r+c) 0=c/\∀j,bd (2*r+c) (j+1)=bd r j:=by unfold bd;refine⟨by simp;omega,λj=>?_⟩;rw[Nat.pow_succ',<-Nat.div_div_eq_div_mul,show(2*r+c)/2=r by omega]
theorem ZJ (n r c:Nat)(hc:c<=1):[.int .u8 (c:Int)]++cK n (bd r)=cK (1+n) (bd (2*r+c)):=by
 obtain⟨h0,h1⟩:=aep r c hc;apply List.ext_getElem?;intro j;cases j with
 |zero=>rw[kY _ _ _ zo,h0];rfl
 | succ j=>
   rw[List.getElem?_append_right zm];simp only[List.length_singleton,Nat.add_sub_cancel];by_cases hj:j<n
   . rw[kY _ _ _ hj,kY _ _ _ zo,h1]
   . rw[List.getElem?_eq_none (by rw[EF];omega),List.getElem?_eq_none (by rw[EF];omega)]
theorem akt (W:World)(base:Nat)(e:TypeId)(x:Value)(hb:base<=W.heap.size):(W.alloc (.cells #[x] e)).ownsRow base e 1 (.slice (some ⟨W.heap.size,0,none⟩) 1 1) 1 [x]:=
 ⟨rfl,.inr ⟨W.heap.size,1,#[x],rfl,hb,heap_alloc_new W _,Nat.le_refl _,by simp[maxLen],rfl,rfl⟩⟩
theorem SS (S u:Nat):(0<=dm S u)↔u<=S:=by
 unfold dm;by_cases h1:S<u
 . rw[if_pos h1];omega
 . rw[if_neg h1];by_cases h2:u<S
   . rw[if_pos h2];omega
   . rw[if_neg h2];omega
theorem Bv.cells {w:World}{x:Value}{n v:Nat}(h:Bv w x n v)(hn:0<n):∃b o cap,x=.slice (some ⟨b,o,none⟩) n cap/\∀j,j<n->w.cell? ⟨b,o+j,none⟩=some (.int .u8 (bd v j:Int)):=by
 rcases h.2 with⟨_,h2⟩ |⟨b,o,cap,h1,_,h3⟩
 . omega
 . exact⟨b,o,cap,h1,h3⟩
theorem Bv.aqR {w:World}{x:Value}{n v:Nat}(h:Bv w x n v){a:Addr}(hne:∀b o n c,x=.slice (some ⟨b,o,none⟩) n c->b≠a.block)(y:Value):Bv (w.setCell a y) x n v:=by
 refine⟨h.1,?_⟩;rcases h.2 with h|⟨b,o,cap,e,h1,hc⟩
 . exact .inl h
 . exact .inr ⟨b,o,cap,e,h1,λj hj=>fF (hne b o n cap e) (hc j hj)⟩
theorem anr {ops:Array Oper}{rest:List Oper}{o:Oper}{a:Act}{Q:Exit->Act->World->Prop}(hgd:o.guard=none)(s x:Operand)
 (ho:o.op=.call {callee:=.builtin .append,args:=#[s,x],argTypes:=#[111,111]}) (W:World) (z:Value) (n r c:Nat) (hc:c<=1) (hn:n<=1099511627776) (hz:Bv W z n r)
 (hs:a.eval s=.slice (some ⟨W.heap.size,0,none⟩) 1 1) (hx:a.eval x=z)
 (h:∀v' w',Bv w' v' (1+n) (2*r+c)->Cl v' W.heap.size->Bw W w'->wpList Tryz.prog ops Q rest (a.put o.dst v') w'):wpList Tryz.prog ops Q (o::rest) a (W.alloc (.cells #[.int .u8 (c:Int)] 5)):=by
 obtain⟨i0,hi,hz0,hz1,hz2⟩:=info_parts Tryz.aqX;have hlt:2*r+c<2^(1+n):=by have:=hz.1;rw[Nat.add_comm 1 n,Nat.pow_succ];omega
 have hone:=akt W W.heap.size 5 (.int .u8 (c:Int)) (Nat.le_refl _);have hb0:Bw W (W.alloc (.cells #[.int .u8 (c:Int)] 5)):=zl;rcases hz.2 with⟨rfl,rfl⟩ |⟨b,oo,cap,rfl,h1,hcs⟩
 . refine wpList_append_own_none hgd s x 111 ho W.heap.size 5 i0 1 Tryz.underlying111 hi _ 1 _ hs hone hx ?_;refine h _ _ (Bv.aq0 (base:=W.heap.size) (e:=5) ?_ hlt) (λb o n c e=>by cases e;exact Nat.le_refl _) hb0;rw[<-ZJ 0 r c hc];exact hone
 . refine wpList_append_own _ hgd s x 111 ho W.heap.size 5 i0 (.int .u8 0) 1 1 Tryz.underlying111 hi hz0 hz1 hz2 rfl zd _ 1 _ hs hone ⟨b,oo,none⟩ n cap (cK n (bd r)) hx (by rw[EF,Nat.mul_one]) ?_ ?_ zx zo zm ?_
   . intro j u hj;have kK:j<n:=by
      rcases Nat.lt_or_ge j n with h|h
      . exact h
      . rw[List.getElem?_eq_none (by rw[EF];exact h)]at hj;cases hj
     rw[kY _ _ _ kK]at hj;cases hj
     have e2:((⟨b,oo,none⟩:Addr).add j)=⟨b,oo+j,none⟩:=by simp[Addr.add]
     rw[e2];exact aJ (hcs j kK)
   . intro u hu;unfold cK at hu;rw[List.mem_map]at hu;obtain⟨j,_,rfl⟩:=hu;rfl
   . intro v' w' ho' hg' _;refine h _ _ (Bv.aq0 (base:=W.heap.size) (e:=5) ?_ hlt) (λb o n c e=>cZ ho' b (by rw[e];rfl)) (hb0.grown hg' zm (λj e=>cZ hone j e));rw[<-ZJ n r c hc];exact ho'
theorem ale (l m:List UInt8)(w:World)(hl:l.length<=68719476736)(hm:m.length<=68719476736)(h0:0<nv m):
 Calls Tryz.prog 153 #[.string (bs l),.string (bs m)] w λe w'=>e=.returned (.tuple #[.string (bs (nt (nv l/nv m))),.string (bs (nt (nv l%nv m))),.bool true])/\Bw w w':=by
 obtain⟨i0,hi,hz0,hz1,hz2⟩:=info_parts Tryz.aqX;have hL:=Nat.le_trans (gw (nJ l)) (show 8*l.length<=549755813888 by omega);have hU:=Nat.le_trans (gw (nJ m)) (show 8*m.length<=549755813888 by omega);have hb1:=oK l w hl;have hb2:=λW=>oK m W hm;generalize nv l=v at*;generalize nv m=u at*;have hUp:=Cu h0;have Ul:=pp v;generalize hLe:bC v=L at*;generalize UF:bC u=U at*;obtain⟨H1,H2,yZ,QJ⟩:=dS hb1 hb2 Ul UF;clear hb1 hb2 Ul hLe UF;have hmk:=rB (L:Int) L rfl zo;have hU0:((U:Int)==0)=false:=by simp;omega
 go_enter Tryz.func153,Tryz.ntmps153;go_wp2_with fail;refine H1.out.mono ?_;rintro e w1 ⟨⟨X,rfl,hX⟩,Vk⟩;go_wp2_with fail;refine(H2.out w1).mono ?_;rintro e w2 ⟨⟨Y,rfl,hY⟩,zZ⟩;obtain⟨HX,HY,Hw⟩:=cX (hX.below zZ) hY (aK Vk zZ);clear hX hY Vk zZ;obtain⟨ax,cx,rfl⟩:=HX.out.len;obtain⟨ay,cy,rfl⟩:=HY.out.len;go_wp2_with fail;go_loopw[10,11] (λz i wr=>∃k:Nat,k<=L/\i=.int .i64 ((k:Int)-1)/\Bv wr z (bC (v/2^k%u)) (v/2^k%u)/\Cl z (w2.heap.size+1)/\ak wr w2.heap.size 5 (cK L (λj=>if k<=j then bd (v/u) j else 0))/\Bw w2 wr) (λ_ i _=>(intOf i+1).toNat);case atStart=>
  refine⟨L,Nat.le_refl _,by go_num,?_,(λb o n c e=>by cases e),?_,zl⟩
  . rw[Nat.div_eq_of_lt yZ.out,Nat.zero_mod];exact⟨by simp[bC],.inl ⟨rfl,rfl⟩⟩
  . have e:cK L (λj=>if L<=j then bd (v/u) j else 0)=cK L λ_=>0:=mQ λj hj=>by rw[if_neg zo]
    rw[e];exact ak.new _ _ _
 case round=>
  obtain⟨k,hk,rfl,hz,hzl,hB,hb⟩:=hrel;by_cases kM:0<k
  . obtain⟨j,rfl⟩:∃j,k=j+1:=⟨k-1,by omega⟩;obtain⟨r,c,q,e1,e2,e3,e4,e5⟩:=ai2 v u j h0;have e6:=ai1 v u j;have hr:r<u:=by rw[<-e1];exact Nat.mod_lt _ h0
    have hc1:c<=1:=by rw[<-e2];exact rL v j
    rw[e1]at hz;rw[e5]at e6;obtain⟨S,hS⟩:=aB (2*r+c);rw[hS]at e4 e6;have rp:bC r<=549755813888:=Nat.le_trans (SI (Nat.le_of_lt hr)) (by rw[QJ.out];omega);have hSb:bC S<=549755813889:=by rw[<-hS];exact Nat.le_trans (aew r c hc1) zo
    obtain⟨bx,ox,cx',jM,jY⟩:=HX.out.cells zo;obtain⟨rfl,rfl⟩:ax=some ⟨bx,ox,none⟩/\cx=cx':=by simp only[Value.slice.injEq]at jM;exact⟨jM.1,jM.2.2⟩
    have hcell:wr.cell? ⟨bx,ox+j,none⟩=some (.int .u8 (c:Int)):=by rw[<-e2];exact cell_later hb (jY j zo)
    have bE:=vJ L cx j (j:Int) (rfl:(some ⟨bx,ox,none⟩:Option Addr)=_) zo rfl;rw[Nat.mul_one]at bE;obtain⟨Hz,HB,Hb,Fg,Fh,HS⟩:=gF hz hB hb e4 e6 hS;have hs0:=hb.size;have Wy:=hB.lt;have hj:((j+1:Nat):Int)-1=(j:Int):=by omega
    rw[hj];clear hz hB hb e1 e2 e3 e4 e5 e6 hS jM jY hj kM;go_wp2_with (first| (at_builtin;refine anr rfl _ _ rfl _ u10 (bC r) r c hc1 zo Hz.out rfl rfl ?_;intro v' w3 hv' Dq hb3));rw[HS.out]at hv';obtain⟨Hv',mo,ey⟩:=cX hv' Dq hb3;have hs3:=hb3.size;clear hv' Dq hb3 hzl hcell bE;refine(OZ v' (1+bC r) S w3 zo Hv'.out).mono ?_;rintro e w' ⟨⟨z,rfl,hz,hzl⟩,rfl⟩;obtain⟨cH,Hzl⟩:=aM hz (hzl _ mo.out);clear hz hzl;obtain⟨uw,jR⟩:=aM (HY.out.below (aK Hb.out ey.out)) (HB.out.below ey.out);go_wp2_with fail;refine(YK z _ (bC S) U S u w3 cH.out uw.out zo zo).mono ?_;rintro e w' ⟨rfl,rfl⟩;by_cases hge:u<=S
    . have hc0:0<=dm S u:=(SS S u).2 hge;generalize dm S u=ci at*;rw[if_pos hge]at Fg Fh;go_wp2_with fail;refine(YP z _ (bC S) U S u w3 cH.out uw.out zo zo hge).mono ?_;rintro e w4 ⟨⟨t,rfl,ht,htl⟩,hb4⟩;obtain⟨Ht,Cg,lf⟩:=cX ht htl hb4;clear ht htl hb4;go_wp2_with fail;refine(OZ t (bC S) (S-u) w4 zo Ht.out).mono ?_;rintro e w' ⟨⟨t2,rfl,ht2,WQ⟩,rfl⟩;obtain⟨FD,RY⟩:=aM ht2 (WQ _ Cg.out);clear ht2 WQ;have hB4:=jR.out.below lf.out;have q0:w4.cell? ⟨w2.heap.size,j,none⟩=some (.int .u8 0):=by rw[hB4.cell,kY _ _ _ zo,if_neg zo];rfl
      have qf:w4.frozen? ⟨w2.heap.size,j,none⟩=false:=hB4.free _;have ov:=vJ L L j (j:Int) (rfl:(some ⟨w2.heap.size,0,none⟩:Option Addr)=_) zo rfl;rw[Nat.mul_one,Nat.zero_add]at ov;have LS:=hB4.set j (.int .u8 ((1:Nat):Int))
      rw[yL,mQ (g:=λi=>if j<=i then bd (v/u) i else 0) λi hi=>by
       by_cases e:i=j
       . subst e;rw[if_pos rfl,if_pos (Nat.le_refl _),Fh.out];omega
       . rw[if_neg e];by_cases e2:j+1<=i
         . rw[if_pos e2,if_pos zo]
         . rw[if_neg e2,if_neg zo]]at LS
      have ma:=ah LS;clear hB4 LS;go_wp2;go_roundw;case rel=>
       refine⟨j,by omega,by go_num,?_,?_,ma.out,?_⟩
       . rw[Fg.out];exact FD.out.aqR (λb o n c e=>by have:=RY.out b o n c e;dsimp only;omega) _
       . exact λb o n c e=>by have:=RY.out b o n c e;omega
       . exact(aK (aK Hb.out ey.out) lf.out).setCell (Nat.le_refl _) _
      case measure=>simp[intOf]
    . have hc0:¬0<=dm S u:=fun h=>hge ((SS S u).1 h);generalize dm S u=ci at*;rw[if_neg hge]at Fg Fh;have ma:Hid (ak w3 w2.heap.size 5 (cK L (fun i=>if j<=i then bd (v/u) i else 0))):=by
       show ak _ _ _ _
       rw[mQ (g:=λi=>if j+1<=i then bd (v/u) i else 0) λi hi=>by
        by_cases e:i=j
        . subst e;rw[if_pos (Nat.le_refl _),if_neg zo,Fh.out];omega
        . by_cases e2:j+1<=i
          . rw[if_pos e2,if_pos zo]
          . rw[if_neg e2,if_neg zo]]
       exact jR.out
      go_wp2;go_roundw;case rel=>exact⟨j,by omega,by go_num,by rw[Fg.out];exact cH.out,(λb o n c e=>by have:=Hzl.out b o n c e;omega),ma.out,aK Hb.out ey.out⟩
      case measure=>simp[intOf]
  . obtain rfl:k=0:=by omega
    have hq:v/u<2^L:=Nat.lt_of_le_of_lt (Nat.div_le_self v u) yZ.out;rw[mQ (g:=bd (v/u)) λj hj=>by rw[if_pos (Nat.zero_le _)]]at hB;have Hq:=ah (Bv.aqS hB hq);have e0:v/2^0%u=v%u:=by simp
    rw[e0]at hz;have rp:bC (v%u)<=549755813888:=Nat.le_trans (SI (Nat.le_of_lt (Nat.mod_lt v h0))) (by rw[QJ.out];omega);obtain⟨Hz,Hb⟩:=aM hz hb;clear hB hq hz hb e0 hzl;go_wp2_with fail;refine(uj _ L (v/u) wr zo Hq.out).mono ?_;rintro e w3 ⟨rfl,hb3⟩;go_wp2_with fail;refine(uj u10 (bC (v%u)) (v%u) w3 zo (Hz.out.below hb3)).mono ?_;rintro e w4 ⟨rfl,hb4⟩;have ml:=ah (aK Hw.out (aK Hb.out (aK hb3 hb4)));clear hb3 hb4;go_wp2;go_ret3
    exact⟨rfl,ml.out⟩
theorem ali (l:List UInt8)(w:World)(hl:l.length<=68719476736):
 Calls Tryz.prog 117 #[.agg #[.bool false,.string (bs l)]] w λe w'=>e=.returned (.agg #[.bool (false),.string (bs (nt (nv l)))])/\Bw w w':=by
 have hb:=Nat.le_trans (gw (nJ l)) (show 8*l.length<=1099511627776 by omega);have h1:=oK l;obtain⟨v,hv⟩:=aB (nv l);rw[hv]at hb⊢;simp only[hv]at h1;obtain⟨m,hm⟩:=aB (nt v);have he:=tu m;obtain⟨t,ht⟩:=aB m.isEmpty;obtain⟨H1,Hm⟩:=aM h1 hm;clear h1 hv;rw[hm];rw[ht]at he;clear hm ht;obtain⟨W,dw,Hb,Hx,Hr⟩:=pW w 28 [.bool false,.string (bs l)] 28 [.bool false,.string ⟨#[]⟩];obtain⟨x0,x1⟩:=Hx.out.c2;obtain⟨r0,ai,r1,aj⟩:=Hr.out.g2;go_enter Tryz.func117,Tryz.ntmps117;go_wp2_with fail;refine(H1.out _ zo).mono ?_;rintro e w1 ⟨⟨y,rfl,hy⟩,ae⟩;clear x0 x1 r0 ai r1 aj;replace Hx:=kB Hx ae;replace Hr:=kB Hr ae;obtain⟨x0,x1⟩:=Hx.out.c2;obtain⟨r0,ai,r1,aj⟩:=Hr.out.g2;replace Hb:=az Hb ae;clear ae;have Hy:=ah hy;clear hy;go_wp2_with fail;refine(uj y _ _ _ hb Hy.out).mono ?_;rintro e w2 ⟨rfl,ae⟩;clear x0 x1 r0 ai r1 aj;replace Hx:=kB Hx ae;replace Hr:=kB Hr ae;obtain⟨x0,x1⟩:=Hx.out.c2;obtain⟨r0,ai,r1,aj⟩:=Hr.out.g2;replace Hb:=az Hb ae;clear ae;rw[Hm.out];go_wp2;clear x0 x1 r0 ai r1 aj;refine fy (bK w2 (w.heap.size+1) 0 [.bool (false),.string (bs m)]) bV ?_;intro w9 hs;replace Hx:=kS Hx hs zo;replace Hr:=cF Hr hs;obtain⟨x0,x1⟩:=Hx.out.c2;obtain⟨r0,ai,r1,aj⟩:=Hr.out.g2;replace Hb:=bS Hb hs ZS;clear hs;refine bodyPost_ret (v:=.agg #[.bool (false),.string (bs m)]) (by simp[results,Tryz.results117,go_sem,r0,r1]) rfl ⟨rfl,Hb.out⟩
theorem alj (l:List UInt8)(w:World)(hl:l.length<=68719476736):
 Calls Tryz.prog 117 #[.agg #[.bool true,.string (bs l)]] w λe w'=>e=.returned (.agg #[.bool (!(nt (nv l)).isEmpty),.string (bs (nt (nv l)))])/\Bw w w':=by
 have hb:=Nat.le_trans (gw (nJ l)) (show 8*l.length<=1099511627776 by omega);have h1:=oK l;obtain⟨v,hv⟩:=aB (nv l);rw[hv]at hb⊢;simp only[hv]at h1;obtain⟨m,hm⟩:=aB (nt v);have he:=tu m;obtain⟨t,ht⟩:=aB m.isEmpty;obtain⟨H1,Hm⟩:=aM h1 hm;clear h1 hv;rw[hm,ht];rw[ht]at he;clear hm ht;obtain⟨W,dw,Hb,Hx,Hr⟩:=pW w 28 [.bool true,.string (bs l)] 28 [.bool false,.string ⟨#[]⟩];obtain⟨x0,x1⟩:=Hx.out.c2;obtain⟨r0,ai,r1,aj⟩:=Hr.out.g2;go_enter Tryz.func117,Tryz.ntmps117;go_wp2_with fail;refine(H1.out _ zo).mono ?_;rintro e w1 ⟨⟨y,rfl,hy⟩,ae⟩;clear x0 x1 r0 ai r1 aj;replace Hx:=kB Hx ae;replace Hr:=kB Hr ae;obtain⟨x0,x1⟩:=Hx.out.c2;obtain⟨r0,ai,r1,aj⟩:=Hr.out.g2;replace Hb:=az Hb ae;clear ae;have Hy:=ah hy;clear hy;go_wp2_with fail;refine(uj y _ _ _ hb Hy.out).mono ?_;rintro e w2 ⟨rfl,ae⟩;clear x0 x1 r0 ai r1 aj;replace Hx:=kB Hx ae;replace Hr:=kB Hr ae;obtain⟨x0,x1⟩:=Hx.out.c2;obtain⟨r0,ai,r1,aj⟩:=Hr.out.g2;replace Hb:=az Hb ae;clear ae;rw[Hm.out];go_wp2;clear x0 x1 r0 ai r1 aj;refine fy (bK w2 (w.heap.size+1) 0 [.bool (!t),.string (bs m)]) bV ?_;intro w9 hs;replace Hx:=kS Hx hs zo;replace Hr:=cF Hr hs;obtain⟨x0,x1⟩:=Hx.out.c2;obtain⟨r0,ai,r1,aj⟩:=Hr.out.g2;replace Hb:=bS Hb hs ZS;clear hs;refine bodyPost_ret (v:=.agg #[.bool (!t),.string (bs m)]) (by simp[results,Tryz.results117,go_sem,r0,r1]) rfl ⟨rfl,Hb.out⟩
theorem Ez (s:Bool)(l:List UInt8)(w:World)(hl:l.length<=68719476736):
 Calls Tryz.prog 117 #[.agg #[.bool s,.string (bs l)]] w λe w'=>e=.returned (.agg #[.bool (s&& !(nt (nv l)).isEmpty),.string (bs (nt (nv l)))])/\Bw w w':=by
 cases s
 . exact ali l w hl
 . exact alj l w hl
theorem Pf (n:Nat)(w:World)(hn:n<=9223372036854775807):
 Calls Tryz.prog 80 #[.int .i64 (n:Int)] w λe w'=>e=.returned (.agg #[.bool false,.string (bs (nt n))])/\Bw w w':=by
 have h1:=λW=>alv n W (by rw[jq];omega);have H1:=ah h1;clear h1;have hw:IntKind.u64.wrap (n:Int)=(n:Int):=by rw[IntKind.wrap_u64];omega
 obtain⟨m,hm⟩:=aB (nt n);rw[hm];have Hm:=ah hm;clear hm;obtain⟨W,dw,Hb,Hr⟩:=iP w 28 [.bool false,.string ⟨#[]⟩];obtain⟨r0,ai,r1,aj⟩:=Hr.out.g2;go_enter Tryz.func80,Tryz.ntmps80;go_wp2_with fail;refine(H1.out _).mono ?_;rintro e w1 ⟨rfl,ae⟩;clear r0 ai r1 aj;replace Hr:=kB Hr ae;obtain⟨r0,ai,r1,aj⟩:=Hr.out.g2;replace Hb:=az Hb ae;clear ae;rw[Hm.out];go_wp2;clear r0 ai r1 aj;refine fy (bK w1 (w.heap.size) 0 [.bool false,.string (bs m)]) bV ?_;intro w9 hs;replace Hr:=cF Hr hs;obtain⟨r0,ai,r1,aj⟩:=Hr.out.g2;replace Hb:=bS Hb hs ZS;clear hs;refine bodyPost_ret (v:=.agg #[.bool false,.string (bs m)]) (by simp[results,Tryz.results80,go_sem,r0,r1]) rfl ⟨rfl,Hb.out⟩
theorem YO (l:List UInt8)(w:World)(hl:l.length<=68719476736):
 Calls Tryz.prog 104 #[.string (bs l)] w λe w'=>e=.returned (.int .i64 (bC (nv l):Int))/\Bw w w':=by
 go_enter Tryz.func104,Tryz.ntmps104;go_wp2_with fail;refine(oK l w hl).mono ?_;rintro e w1 ⟨⟨y,rfl,hy⟩,ae⟩;obtain⟨a,cap,rfl⟩:=hy.len;have Hb:=ah ae;clear hy ae;go_wp2;go_ret;exact⟨rfl,Hb.out⟩
theorem YU (s:Bool)(l:List UInt8)(w:World)(hl:l.length<=68719476736)(h0:nv l=0):
 Calls Tryz.prog 66 #[.agg #[.bool s,.string (bs l)]] w λe w'=>e=.returned (.int .i64 0)/\Bw w w':=by
 have h1:=YO l;rw[h0]at h1;have H1:=ah h1;clear h1 h0;obtain⟨W,dw,Hb,Hx⟩:=iP w 28 [.bool s,.string (bs l)];obtain⟨x0,x1⟩:=Hx.out.c2;go_enter Tryz.func66,Tryz.ntmps66;go_wp2_with fail;refine(H1.out _ hl).mono ?_;rintro e w1 ⟨rfl,ae⟩;clear x0 x1;replace Hx:=kB Hx ae;obtain⟨x0,x1⟩:=Hx.out.c2;replace Hb:=az Hb ae;clear ae;rw[aex];go_wp2;go_ret;exact⟨rfl,Hb.out⟩
theorem alm (s:Bool)(n:Nat)(w:World)(h0:0<n)(hl:(nt (2*n)).length<=68719476736):
 Calls Tryz.prog 118 #[.agg #[.bool s,.string (bs (nt (2*n)))],.agg #[.bool false,.string (bs (nt 2))]] w λe w'=>e=.returned (.tuple #[.agg #[.bool s,.string (bs (nt n))],.agg #[.bool false,.string (bs [])],.bool true])/\Bw w w':=by
 have hd:=λW=>ale (nt (2*n)) (nt 2) W hl zd (by rw[jb];decide);simp only[jb]at hd;have e1:2*n/2=n:=by omega
 have e2:2*n%2=0:=by omega
 rw[e1,e2,yw]at hd;have Ag:(nt n).length<=68719476736:=Nat.le_trans (ja (Nat.lt_of_le_of_lt (show n<=2*n by omega) (ai7 (2*n)))) hl;have hf:=λW=>Ez s (nt n) W Ag;have hg:=λW=>Ez s [] W zd;have hs:=λW=>YU false [] W zd rfl;simp only[jb,vV,yw,List.isEmpty_nil,Bool.not_true,Bool.and_false]at hf hg;have e3:(nt n).isEmpty=false:=by
  have:=IP h0;cases h:nt n with
  |nil=>exact absurd h this
  |cons a b=>rfl
 rw[e3]at hf;simp only[Bool.not_false,Bool.and_true]at hf;generalize nt (2*n)=L at*;generalize nt n=M at*;generalize nt 2=T at*;obtain⟨Hd,Hf,Hg,Hs⟩:=dS hd hf hg hs;clear hd hf hg hs e1 e2 e3 hl Ag;have hne:(s !=false)=s:=by cases s<;>rfl
 obtain⟨W,dw,Hb,Hx,Hy,Hp,Hq⟩:=Ei w 28 [.bool s,.string (bs L)] 28 [.bool false,.string (bs T)] 28 [.bool false,.string ⟨#[]⟩] 28 [.bool false,.string ⟨#[]⟩];obtain⟨x0,x1⟩:=Hx.out.c2;obtain⟨y0,y1⟩:=Hy.out.c2;obtain⟨p0,iG,p1,iH⟩:=Hp.out.g2;obtain⟨q0,cn,q1,cw⟩:=Hq.out.g2;go_enter Tryz.func118,Tryz.ntmps118;go_wp2_with fail;refine(Hd.out _).mono ?_;rintro e w1 ⟨rfl,ae⟩;clear x0 x1 y0 y1 p0 iG p1 iH q0 cn q1 cw;replace Hx:=kB Hx ae;replace Hy:=kB Hy ae;replace Hp:=kB Hp ae;replace Hq:=kB Hq ae;obtain⟨x0,x1⟩:=Hx.out.c2;obtain⟨y0,y1⟩:=Hy.out.c2;obtain⟨p0,iG,p1,iH⟩:=Hp.out.g2;obtain⟨q0,cn,q1,cw⟩:=Hq.out.g2;replace Hb:=az Hb ae;clear ae;go_wp2_with fail;refine(Hf.out _).mono ?_;rintro e w2 ⟨rfl,ae⟩;clear x0 x1 y0 y1 p0 iG p1 iH q0 cn q1 cw;replace Hx:=kB Hx ae;replace Hy:=kB Hy ae;replace Hp:=kB Hp ae;replace Hq:=kB Hq ae;obtain⟨x0,x1⟩:=Hx.out.c2;obtain⟨y0,y1⟩:=Hy.out.c2;obtain⟨p0,iG,p1,iH⟩:=Hp.out.g2;obtain⟨q0,cn,q1,cw⟩:=Hq.out.g2;replace Hb:=az Hb ae;clear ae;have ap8:=Hx.out.lt;have aqb:=Hy.out.lt;have apM:=Hp.out.lt;have apP:=Hq.out.lt;obtain⟨W2,mH,ae,Hu⟩:=cS w2 28 [.bool s,.string (bs M)];clear x0 x1;replace Hx:=kB Hx ae;clear y0 y1;replace Hy:=kB Hy ae;clear p0 iG p1 iH;replace Hp:=kB Hp ae;clear q0 cn q1 cw;replace Hq:=kB Hq ae;obtain⟨x0,x1⟩:=Hx.out.c2;obtain⟨y0,y1⟩:=Hy.out.c2;obtain⟨p0,iG,p1,iH⟩:=Hp.out.g2;obtain⟨q0,cn,q1,cw⟩:=Hq.out.g2;obtain⟨u0,u1⟩:=Hu.out.c2;replace Hb:=az Hb ae;clear ae;go_wp2_with fail;refine(Hg.out _).mono ?_;rintro e w3 ⟨rfl,ae⟩;clear x0 x1 y0 y1 p0 iG p1 iH q0 cn q1 cw u0 u1;replace Hx:=kB Hx ae;replace Hy:=kB Hy ae;replace Hp:=kB Hp ae;replace Hq:=kB Hq ae;replace Hu:=kB Hu ae;obtain⟨x0,x1⟩:=Hx.out.c2;obtain⟨y0,y1⟩:=Hy.out.c2;obtain⟨p0,iG,p1,iH⟩:=Hp.out.g2;obtain⟨q0,cn,q1,cw⟩:=Hq.out.g2;obtain⟨u0,u1⟩:=Hu.out.c2;replace Hb:=az Hb ae;clear ae;have aji:=Hx.out.lt;have ajl:=Hy.out.lt;have ajd:=Hp.out.lt;have apQ:=Hq.out.lt;have ap1:=Hu.out.lt;obtain⟨W3,Mu,ae,Hv⟩:=cS w3 28 [.bool false,.string (bs [])];clear x0 x1;replace Hx:=kB Hx ae;clear y0 y1;replace Hy:=kB Hy ae;clear p0 iG p1 iH;replace Hp:=kB Hp ae;clear q0 cn q1 cw;replace Hq:=kB Hq ae;clear u0 u1;replace Hu:=kB Hu ae;obtain⟨x0,x1⟩:=Hx.out.c2;obtain⟨y0,y1⟩:=Hy.out.c2;obtain⟨p0,iG,p1,iH⟩:=Hp.out.g2;obtain⟨q0,cn,q1,cw⟩:=Hq.out.g2;obtain⟨u0,u1⟩:=Hu.out.c2;obtain⟨v0,v1⟩:=Hv.out.c2;replace Hb:=az Hb ae;clear ae;go_wp2_with fail;refine(Hs.out _).mono ?_;rintro e w4 ⟨rfl,ae⟩;clear x0 x1 y0 y1 p0 iG p1 iH q0 cn q1 cw u0 u1 v0 v1;replace Hx:=kB Hx ae;replace Hy:=kB Hy ae;replace Hp:=kB Hp ae;replace Hq:=kB Hq ae;replace Hu:=kB Hu ae;replace Hv:=kB Hv ae;obtain⟨x0,x1⟩:=Hx.out.c2;obtain⟨y0,y1⟩:=Hy.out.c2;obtain⟨p0,iG,p1,iH⟩:=Hp.out.g2;obtain⟨q0,cn,q1,cw⟩:=Hq.out.g2;obtain⟨u0,u1⟩:=Hu.out.c2;obtain⟨v0,v1⟩:=Hv.out.c2;replace Hb:=az Hb ae;clear ae;go_wp2_with fail;have lp:=Hp.out.lt;have lq:=Hq.out.lt;refine bM (λw'=>w'.cell? ⟨w2.heap.size,0,none⟩=some (.bool s)/\w'.cell? ⟨w2.heap.size,1,none⟩=some (.string (bs M))/\w'.cell? ⟨w3.heap.size,0,none⟩=some (.bool false)/\w'.cell? ⟨w3.heap.size,1,none⟩=some (.string (bs []))) (λi=>Nat.blt i 3) [(0,true),(1,true),(2,false),(3,false),(4,false)] zk zk rfl zk zc ⟨u0,u1,v0,v1⟩ ?_;iterate 2 (refine pT rfl rfl ?_ (by intro w' ⟨q0,q1,q2,q3⟩;go_simp;try with_reducible rfl);try simp only[UU])
 refine aI rfl rfl (λK hK=>?_);go_simp;refine hK _ _ (λ_=>⟨(aH zf (aH zf u0)),(aH zf (aH zf u1)),(aH zf (aH zf v0)),(aH zf (aH zf v1))⟩) ?_;clear hK K;try simp only[UU]
 clear x0 x1 y0 y1 p0 iG p1 iH q0 cn q1 cw u0 u1 v0 v1;refine bO (bK w4 (w.heap.size+1+1) 0 [.bool s,.string (bs M)]) bV ?_;intro w5 hs;replace Hx:=kS Hx hs zo;replace Hy:=kS Hy hs zo;replace Hp:=cF Hp hs;replace Hq:=kS Hq hs zo;replace Hu:=kS Hu hs zo;replace Hv:=kS Hv hs zo;obtain⟨x0,x1⟩:=Hx.out.c2;obtain⟨y0,y1⟩:=Hy.out.c2;obtain⟨p0,iG,p1,iH⟩:=Hp.out.g2;obtain⟨q0,cn,q1,cw⟩:=Hq.out.g2;obtain⟨u0,u1⟩:=Hu.out.c2;obtain⟨v0,v1⟩:=Hv.out.c2;replace Hb:=bS Hb hs ZS;clear hs;refine aI rfl rfl (λK hK=>?_);go_simp;refine hK _ _ (λh=>absurd h zd) ?_;clear hK K;try simp only[UU]
 clear x0 x1 y0 y1 p0 iG p1 iH q0 cn q1 cw u0 u1 v0 v1;refine bO (bK w5 (w.heap.size+1+1+1) 0 [.bool false,.string (bs [])]) bV ?_;intro w6 hs;replace Hx:=kS Hx hs zo;replace Hy:=kS Hy hs zo;replace Hp:=kS Hp hs zo;replace Hq:=cF Hq hs;replace Hu:=kS Hu hs zo;replace Hv:=kS Hv hs zo;obtain⟨x0,x1⟩:=Hx.out.c2;obtain⟨y0,y1⟩:=Hy.out.c2;obtain⟨p0,iG,p1,iH⟩:=Hp.out.g2;obtain⟨q0,cn,q1,cw⟩:=Hq.out.g2;obtain⟨u0,u1⟩:=Hu.out.c2;obtain⟨v0,v1⟩:=Hv.out.c2;replace Hb:=bS Hb hs ZS;clear hs;refine aI rfl rfl (λK hK=>?_);go_simp;refine hK _ _ (λh=>absurd h zd) ?_;clear hK K;try simp only[UU]
 simp only[aZ];go_wp2;refine bodyPost_ret (v:=.tuple #[.agg #[.bool s,.string (bs M)],.agg #[.bool false,.string (bs [])],.bool true]) (by simp[results,Tryz.results118,go_sem,p0,p1,q0,q1]) rfl ⟨rfl,Hb.out⟩
def cc (v u k:Nat):Nat:=(v%2^k+u%2^k)/2^k
theorem aeP (v u:Nat):cc v u 0=0:=by simp[cc,Nat.mod_one]
theorem aeN (v u k:Nat):cc v u k<=1:=by unfold cc;have h:0<2^k:=Nat.pow_pos zd;have h1:=Nat.mod_lt v h;have h2:=Nat.mod_lt u h;rw[<-Nat.lt_succ_iff,Nat.div_lt_iff_lt_mul h];omega
theorem aeO (v u k:Nat):bd (v+u) k=(bd v k+bd u k+cc v u k)%2/\cc v u (k+1)=(bd v k+bd u k+cc v u k)/2:=by
 have hM:0<2^k:=Nat.pow_pos zd;have ha:=Nat.mod_lt v hM;have hb:=Nat.mod_lt u hM;have e1:v=2^k* (v/2^k)+v%2^k:=(Nat.div_add_mod v _).symm;have e2:u=2^k* (u/2^k)+u%2^k:=(Nat.div_add_mod u _).symm;have es:(v+u)/2^k=v/2^k+u/2^k+cc v u k:=by
  unfold cc;have:v+u=(v%2^k+u%2^k)+2^k* (v/2^k+u/2^k):=by rw[Nat.mul_add];omega
  rw[this,Nat.add_mul_div_left _ _ hM];omega
 have m1:v%2^(k+1)=v%2^k+2^k*bd v k:=by rw[Nat.pow_succ,Nat.mod_mul];rfl
 have m2:u%2^(k+1)=u%2^k+2^k*bd u k:=by rw[Nat.pow_succ,Nat.mod_mul];rfl
 constructor
 . unfold bd at*;rw[es];omega
 . have e3:cc v u (k+1)=((v%2^k+u%2^k)+2^k* (bd v k+bd u k))/2^k/2:=by rw[Nat.div_div_eq_div_mul,<-Nat.pow_succ];unfold cc;rw[m1,m2,Nat.mul_add];congr 1;omega
   rw[e3,Nat.add_mul_div_left _ _ hM];show(cc v u k+_)/2=_
   congr 1;omega
theorem aeq (u p i:Nat):bd (u*2^p) i=if p<=i then bd u (i-p)else 0:=by
 unfold bd;by_cases h:p<=i
 . rw[if_pos h];obtain⟨j,rfl⟩:∃j,i=p+j:=⟨i-p,by omega⟩;rw[Nat.pow_add,<-Nat.div_div_eq_div_mul,Nat.mul_div_cancel _ (Nat.pow_pos zd),show p+j-p=j by omega]
 . rw[if_neg h];obtain⟨j,rfl⟩:∃j,p=i+1+j:=⟨p-i-1,by omega⟩;rw[show u*2^(i+1+j)=(u*2^j*2) *2^i by rw[Nat.pow_add,Nat.pow_add,Nat.pow_one];simp only[Nat.mul_assoc,Nat.mul_comm,Nat.mul_left_comm],Nat.mul_div_cancel _ (Nat.pow_pos zd)];omega
theorem Pi (x y:Value)(n m v u p:Nat)(w:World)(hx:Bv w x n v)(hy:Bv w y m u)(hn:n<=1099511627775)(hm:m+p<=1099511627775):
 Calls Tryz.prog 157 #[x,y,.int .i64 (p:Int)] w λe w'=>(∃z,e=.returned z/\Bv w' z (max n (m+p)+1) (v+u*2^p))/\Bw w w':=by
 obtain⟨a,cap,jM⟩:=hx.len;obtain⟨a',cap',DW⟩:=hy.len;have ot:=λW (hW:Bw w W) i (hi:i<=1099511627776)=>AV x n v i W (hx.below hW) hi zo;have hby:=λW (hW:Bw w W) i (hi:i<=1099511627776)=>AV y m u i W (hy.below hW) hi zo;obtain⟨L,hL⟩:=aB (max n (m+p)+1);obtain⟨U,hU⟩:=aB (u*2^p);have tj:Hid (v+U<2^L):=by
  show _<_
  have h1:v<2^(L-1):=Nat.lt_of_lt_of_le hx.1 (Nat.pow_le_pow_right zd zo);have h2:U<2^(L-1):=by rw[<-hU];have h3:u*2^p<2^m*2^p:=Nat.mul_lt_mul_of_pos_right hy.1 (Nat.pow_pos zd);rw[<-Nat.pow_add]at h3;exact Nat.lt_of_lt_of_le h3 (Nat.pow_le_pow_right zd zo)
  rw[show L=L-1+1 by omega,Nat.pow_succ];omega
 have Vg:∀i,bd U i=if p<=i then bd u (i-p)else 0:=λi=>by rw[<-hU];exact aeq u p i
 have hLI:max (n:Int) ((m:Int)+(p:Int))+1=(L:Int):=by omega
 have hLb:L<=1099511627776:=by omega
 subst jM;subst DW;have hmk:=rB (L:Int) L rfl zo;rw[hU,hL];obtain⟨BB,BC,HbU⟩:=cX ot hby Vg;clear ot hby hx hy Vg hU hL;go_enter Tryz.func157,Tryz.ntmps157;go_wp2_with fail;go_loopw[8,9,10] (λb i _ wr=>∃k:Nat,k<=L/\i=.int .i64 (k:Int)/\b=.int .u8 (cc v U k:Int)/\ak wr w.heap.size 5 (cK L (λj=>if j<k then bd (v+U) j else 0))/\Bw w wr) (λ_ i _ _=>L-(intOf i).toNat);case atStart=>
  refine⟨0,Nat.zero_le _,rfl,by rw[aeP];rfl,?_,zl⟩;have e:cK L (λj=>if j<0 then bd (v+U) j else 0)=cK L λ_=>0:=mQ λj hj=>by rw[if_neg zo]
  rw[e];exact ak.new _ _ _
 case round=>
  obtain⟨k,hk,rfl,rfl,hB,hb⟩:=hrel;by_cases hlt:k<L
  . have H1:=ah (BB.out wr hb k zo);obtain⟨hs,hs2⟩:=aeO v U k;have hp1:=rL v k;have hq:=rL U k;have hr:=aeN v U k;have Nz:=HbU.out k;have hcell:wr.cell? ⟨w.heap.size,k,none⟩=some (.int .u8 0):=by rw[hB.cell,kY _ _ _ hlt,if_neg zo];rfl
    have hfree:wr.frozen? ⟨w.heap.size,k,none⟩=false:=hB.free _;have bT:=hB.set k (.int .u8 ((bd (v+U) k:Nat):Int))
    rw[yL,mQ (g:=λj=>if j<k+1 then bd (v+U) j else 0) λj hj=>by
     by_cases e:j=k
     . subst e;rw[if_pos rfl,if_pos zo]
     . rw[if_neg e];by_cases e2:j<k
       . rw[if_pos e2,if_pos zo]
       . rw[if_neg e2,if_neg zo]]at bT
    obtain⟨eG,Hb⟩:=aM bT (hb.setCell (p:=⟨w.heap.size,k,none⟩) (Nat.le_refl _) (.int .u8 ((bd (v+U) k:Nat):Int)));have H2:p<=k->Calls Tryz.prog 179 #[.slice a' m cap',.int .i64 ((k-p:Nat):Int)] wr λe w'=>e=.returned (.int .u8 (bd U k:Int))/\wr=w':=λh=>by rw[Nz,if_pos h];exact BC.out wr hb (k-p) zo
    have hq0:¬p<=k->bd U k=0:=λh=>by rw[Nz,if_neg h]
    have bE:=vJ L L k (k:Int) (rfl:(some ⟨w.heap.size,0,none⟩:Option Addr)=_) hlt rfl;rw[Nat.mul_one,Nat.zero_add]at bE;clear hB bT hb Nz;generalize bd v k=P at*;generalize bd U k=q at*;generalize hrr:cc v U k=r at*;generalize bd (v+U) k=z at*;obtain⟨H2,Hq0,mB⟩:=cX H2 hq0 hs2;clear hq0 hs2 hrr;obtain⟨S,hS⟩:=aB (P+q+r);have hS3:S<=3:=by omega
    have hw1:IntKind.u8.wrap ((P:Int)+(r:Int))=(P:Int)+(r:Int):=by rw[IntKind.wrap_u8];omega
    have hw2:IntKind.u8.wrap ((P:Int)+(r:Int)+(q:Int))=(S:Int):=by rw[IntKind.wrap_u8];omega
    have hand:bits .and .u8 (S:Int) 1=(z:Int):=by rw[Lf S zo,hs,<-hS]
    obtain⟨HS,Hs⟩:=aM hS hs;clear hS hs;go_wp2_with fail;refine H1.out.mono ?_;rintro e w' ⟨rfl,rfl⟩;by_cases hpk:p<=k
    . have H3:=ah (H2.out hpk);have nD:((k:Int)-(p:Int))=((k-p:Nat):Int):=by omega
      go_wp2_with fail;refine H3.out.mono ?_;rintro e w' ⟨rfl,rfl⟩;go_wp2;go_roundw;case rel=>refine⟨k+1,by omega,by go_num,?_,eG.out,Hb.out⟩;have h1:=mB.out;have h2:=HS.out;rw[h1];congr 1;omega
      case measure=>simp[intOf];omega
    . have hq1:=Hq0.out hpk;subst hq1;have hw3:IntKind.u8.wrap ((P:Int)+(r:Int))=(S:Int):=by rw[hw1];have:=HS.out;omega
      clear hw1 hw2;go_wp2;go_roundw;case rel=>refine⟨k+1,by omega,by go_num,?_,eG.out,Hb.out⟩;have h1:=mB.out;have h2:=HS.out;rw[h1];congr 1;omega
      case measure=>simp[intOf];omega
  . obtain rfl:k=L:=by omega
    rw[mQ (g:=bd (v+U)) λj hj=>by rw[if_pos hj]]at hB;obtain⟨Hz,Hb⟩:=aM (Bv.aqS hB tj.out) hb;clear hB hb;go_wp2;go_ret;exact⟨⟨_,rfl,Hz.out⟩,Hb.out⟩
theorem ak8 (xs:List (List UInt8))(a:Option Addr)(cap:Nat)(w:World)(hl:∀l∈xs,l.length<=68719476736)(hx:xs.length<=1048576)
 (ha:At w a (xs.map λl=>.string (bs l))):
 Calls Tryz.prog 129 #[.slice a xs.length cap] w λe w'=>e=.returned (.string (bs (nt (gH xs))))/\Bw w w':=by
 obtain⟨Hl,Ha⟩:=aM hl ha;clear hl ha;go_enter Tryz.func129,Tryz.ntmps129;go_wp2_with fail;go_loopw[3,4] (λz i wr=>∃k n:Nat,k<=xs.length/\n<=549755813888+k/\i=.int .i64 (k:Int)/\Bv wr z n (gH (xs.take k))/\Bw w wr) (λ_ i _=>xs.length-(intOf i).toNat);case atStart=>exact⟨0,0,Nat.zero_le _,Nat.zero_le _,rfl,⟨by simp[gH],.inl ⟨rfl,rfl⟩⟩,Below.refl _ _⟩
 case round=>
  obtain⟨k,n,hk,hn,rfl,hz,hb⟩:=hrel;by_cases hlt:k<xs.length
  . have hne:(xs.map λl=>Value.string (bs l))≠[]:=by intro h0;have:=congrArg List.length h0;simp at this;subst this;simp at hlt
    obtain⟨b,o,hab,hcs⟩:=(Ha.out.below hb).get hne;have hcell:wr.cell? ⟨b,o+k,none⟩=some (.string (bs xs[k])):=by rw[hcs k (by simpa using hlt)];simp[hlt]
    have bE:=Xg xs.length cap k (k:Int) hab hlt rfl;rw[Nat.mul_one]at bE;clear hcs hne;have kx:Hid (xs[k].length<=68719476736):=Hl.out _ (List.getElem_mem hlt);obtain⟨cE,ky⟩:=aM (Yd xs k hlt) hab;clear hab;generalize xs[k]=x at*;have ot:bC (nv x)<=549755813888:=Nat.le_trans (gw (nJ x)) (by have:=kx.out;omega);obtain⟨Hz,Hb⟩:=aM hz hb;clear hz hb;go_wp2_with fail;refine(oK x _ kx.out).mono ?_;rintro e w1 ⟨⟨y,rfl,hy⟩,hb1⟩;obtain⟨Hy,bU⟩:=aM hy hb1;clear hy hb1;go_wp2_with fail;refine(Pi u3 y n (bC (nv x)) (gH (xs.take k)) (nv x) 0 w1 (Hz.out.below bU.out) Hy.out zo zo).mono ?_;rintro e w2 ⟨⟨z,rfl,hz⟩,hb2⟩;obtain⟨cH,bQ⟩:=aM hz hb2;clear hz hb2;go_wp2;go_roundw;case rel=>have h:=cH.out;rw[Nat.pow_zero,Nat.mul_one,<-cE.out]at h;exact⟨k+1,_,by omega,by omega,by go_num,h,aK Hb.out (aK bU.out bQ.out)⟩
    case measure=>simp[intOf];omega
  . obtain rfl:k=xs.length:=by omega
    rw[List.take_length]at hz;obtain⟨Hz,Hb⟩:=aM hz hb;clear hz hb;go_wp2_with fail;refine(uj u3 n (gH xs) wr zo Hz.out).mono ?_;rintro e w1 ⟨rfl,hb1⟩;have bU:=ah hb1;clear hb1;go_wp2;go_ret;exact⟨rfl,aK Hb.out bU.out⟩
theorem YJ (l m:List UInt8)(w:World)(hl:l.length<=68719476736)(hm:m.length<=68719476736):
 Calls Tryz.prog 158 #[.string (bs l),.string (bs m)] w λe w'=>e=.returned (.int .i64 (dm (nv l) (nv m)))/\Bw w w':=by
 have hbl:=Nat.le_trans (gw (nJ l)) (show 8*l.length<=549755813888 by omega);have GG:=Nat.le_trans (gw (nJ m)) (show 8*m.length<=549755813888 by omega);go_enter Tryz.func158,Tryz.ntmps158;go_wp2_with fail;refine(oK l w hl).mono ?_;rintro e w1 ⟨⟨y,rfl,hy⟩,hb1⟩;obtain⟨Hy,bU⟩:=aM hy hb1;clear hy hb1;go_wp2_with fail;refine(oK m w1 hm).mono ?_;rintro e w2 ⟨⟨z,rfl,hz⟩,hb2⟩;obtain⟨Hz,bQ⟩:=aM hz hb2;clear hz hb2;go_wp2_with fail;refine(YK y z _ _ (nv l) (nv m) w2 (Hy.out.below bQ.out) Hz.out zo zo).mono ?_;rintro e w' ⟨rfl,rfl⟩;go_wp2;go_ret;exact⟨rfl,aK bU.out bQ.out⟩
theorem SU (S u:Nat):dm S u<0↔S<u:=by
 unfold dm;by_cases h1:S<u
 . rw[if_pos h1];omega
 . rw[if_neg h1];by_cases h2:u<S
   . rw[if_pos h2];omega
   . rw[if_neg h2];omega
theorem alG (l m:List UInt8)(w:World)(hl:l.length<=68719476736)(hm:m.length<=68719476736)(h:nv l<nv m):
 Calls Tryz.prog 130 #[.string (bs l),.string (bs m)] w λe w'=>e=.returned (.tuple #[.string ⟨#[]⟩,.bool false])/\Bw w w':=by
 have hc:=(SU (nv l) (nv m)).2 h;have H1:=ah (YJ l m w hl hm);clear h;generalize dm (nv l) (nv m)=c at*;go_enter Tryz.func130,Tryz.ntmps130;go_wp2_with fail;refine H1.out.mono ?_;rintro e w1 ⟨rfl,hb1⟩;have bU:=ah hb1;clear hb1;go_wp2;go_ret2
 exact⟨rfl,bU.out⟩
theorem YW (l m:List UInt8)(w:World)(hl:l.length<=68719476736)(hm:m.length<=68719476736)(h:nv m<=nv l):
 Calls Tryz.prog 130 #[.string (bs l),.string (bs m)] w λe w'=>e=.returned (.tuple #[.string (bs (nt (nv l-nv m))),.bool true])/\Bw w w':=by
 have hc:¬dm (nv l) (nv m)<0:=λh2=>by have:=(SU (nv l) (nv m)).1 h2;omega
 have hbl:=Nat.le_trans (gw (nJ l)) (show 8*l.length<=549755813888 by omega);have GG:=Nat.le_trans (gw (nJ m)) (show 8*m.length<=549755813888 by omega);obtain⟨H1,H2,H3⟩:=cX (YJ l m w hl hm) (λW=>oK l W hl) (λW=>oK m W hm);generalize dm (nv l) (nv m)=c at*;go_enter Tryz.func130,Tryz.ntmps130;go_wp2_with fail;refine H1.out.mono ?_;rintro e w1 ⟨rfl,hb1⟩;have bU:=ah hb1;clear hb1;go_wp2_with fail;refine(H2.out w1).mono ?_;rintro e w2 ⟨⟨y,rfl,hy⟩,hb2⟩;obtain⟨Hy,bQ⟩:=aM hy hb2;clear hy hb2;go_wp2_with fail;refine(H3.out w2).mono ?_;rintro e w3 ⟨⟨z,rfl,hz⟩,hb3⟩;obtain⟨Hz,ey⟩:=aM hz hb3;clear hz hb3;go_wp2_with fail;refine(YP y z _ _ (nv l) (nv m) w3 (Hy.out.below ey.out) Hz.out zo zo h).mono ?_;rintro e w4 ⟨⟨d,rfl,hd,_⟩,hb4⟩;obtain⟨Hd,lf⟩:=aM hd hb4;clear hd hb4;go_wp2_with fail;refine(uj d _ (nv l-nv m) w4 zo Hd.out).mono ?_;rintro e w5 ⟨rfl,dA⟩;have fB:=ah dA;clear dA;go_wp2;go_ret2
 exact⟨rfl,aK bU.out (aK bQ.out (aK ey.out (aK lf.out fB.out)))⟩
theorem AW (s:Bool)(l:List UInt8)(Z:Int)(hZ:iv s l=Z)(w:World)(hl:l.length<=68719476736):
 Calls Tryz.prog 117 #[.agg #[.bool s,.string (bs l)]] w λe w'=>e=.returned (.agg #[.bool (ar Z),.string (bs (nt Z.natAbs))])/\Bw w w':=by
 have h:=Ez s l w hl;rw[<-NS,<-nH s l,hZ]at h;exact h
theorem alF (s:Bool)(l:List UInt8)(w:World)(hl:l.length<=68719476736):
 Calls Tryz.prog 66 #[.agg #[.bool s,.string (bs l)]] w λe w'=>e=.returned (.int .i64 (ej (iv s l)))/\Bw w w':=by
 by_cases h0:nv l=0
 . have e:ej (iv s l)=0:=by unfold iv;rw[h0];cases s<;>rfl
   rw[e];exact YU s l w hl h0
 . have h1:=YO l;have hbp:=Cu (v:=nv l) zo;have e:ej (iv s l)=if s then-1 else 1:=by unfold iv ej;cases s<;>simp<;>omega
   rw[e];generalize bC (nv l)=B at*;have hB:((B:Int)==0)=false:=by simp;omega
   have H1:=ah h1;clear h1 e h0;obtain⟨W,dw,Hb,Hx⟩:=iP w 28 [.bool s,.string (bs l)];obtain⟨x0,x1⟩:=Hx.out.c2;go_enter Tryz.func66,Tryz.ntmps66;go_wp2_with fail;refine(H1.out _ hl).mono ?_;rintro e w1 ⟨rfl,ae⟩;clear x0 x1;replace Hx:=kB Hx ae;obtain⟨x0,x1⟩:=Hx.out.c2;replace Hb:=az Hb ae;clear ae;cases s with
   |false=>go_wp2;go_ret;exact⟨rfl,Hb.out⟩
   |true=>go_wp2;go_ret;exact⟨rfl,Hb.out⟩
theorem alB (s:Bool)(l m:List UInt8)(Z:Int)(hZ:iv s l+iv s m=Z)(w:World)(hl:l.length<=1048576)(hm:m.length<=1048576):
 Calls Tryz.prog 90 #[.agg #[.bool s,.string (bs l)],.agg #[.bool s,.string (bs m)]] w λe w'=>e=.returned (.agg #[.bool (ar Z),.string (bs (nt Z.natAbs))])/\Bw w w':=by
 have es:gH [l,m]=nv l+nv m:=by simp[gH]
 have ha:∀W b,At W (some ⟨b,0,none⟩) [.string (bs l),.string (bs m)]->Calls Tryz.prog 129 #[.slice (some ⟨b,0,none⟩) 2 2] W λe w'=>e=.returned (.string (bs (nt (nv l+nv m))))/\Bw W w':=by intro W b h;rw[<-es];exact ak8 [l,m] (some ⟨b,0,none⟩) 2 W (by intro x hx;simp at hx;rcases hx with rfl|rfl<;>omega) (by show 2<=1048576;decide) h
 have hlen:(nt (nv l+nv m)).length<=68719476736:=by have h1:=fT l;have h2:=fT m;obtain⟨N,hN⟩:=aB (max l.length m.length);refine Nat.le_trans (ja (k:=N+1) ?_) zo;have h3:256^l.length<=256^N:=Nat.pow_le_pow_right zd zo;have h4:256^m.length<=256^N:=Nat.pow_le_pow_right zd zo;rw[Nat.pow_succ];omega
 have hf:=λW=>AW s (nt (nv l+nv m)) Z (by rw[<-hZ,mL];unfold iv;cases s<;>simp<;>omega) W hlen;obtain⟨Ha,Hf⟩:=aM ha hf;clear ha hf hlen es hZ;generalize nt (nv l+nv m)=S at*;obtain⟨W,dw,Hb,Hx,Hy,Hr⟩:=rC w 28 [.bool s,.string (bs l)] 28 [.bool s,.string (bs m)] 28 [.bool false,.string ⟨#[]⟩];obtain⟨x0,x1⟩:=Hx.out.c2;obtain⟨y0,y1⟩:=Hy.out.c2;obtain⟨r0,ai,r1,aj⟩:=Hr.out.g2;go_enter Tryz.func90,Tryz.ntmps90;go_wp2_with fail;refine bM (λw'=>w'.cell? ⟨w.heap.size,0,none⟩=some (.bool s)/\w'.cell? ⟨w.heap.size,1,none⟩=some (.string (bs l))/\w'.cell? ⟨w.heap.size+1,0,none⟩=some (.bool s)/\w'.cell? ⟨w.heap.size+1,1,none⟩=some (.string (bs m))) (λi=>Nat.blt i 10) [(0,true),(1,true),(2,true),(3,true),(4,true),(5,true),(6,false),(7,false),(8,true),(9,false),(10,false)] zk zk rfl zk zc ⟨x0,x1,y0,y1⟩ ?_;iterate 6 (refine pT rfl rfl ?_ (by intro w' ⟨q0,q1,q2,q3⟩;go_simp;try with_reducible rfl);try simp only[UU])
 refine aI rfl rfl (λK hK=>?_);go_simp;refine hK _ _ (λ_=>⟨aJ x0,aJ x1,aJ y0,aJ y1⟩) ?_;clear hK K;try simp only[UU]
 refine bO (λW1=>ak W1 (W.heap.size) 9 [.string (bs l),.string (bs m)]/\Bw W W1) (by first|exact dU|exact dV) ?_;rintro W1 ⟨qv,ae⟩;clear x0 x1 y0 y1 r0 ai r1 aj;have ajh:=Hx.out.lt;have ajk:=Hy.out.lt;have Ec:=Hr.out.lt;replace Hx:=kB Hx ae;replace Hy:=kB Hy ae;replace Hr:=kB Hr ae;have Hv:=ah qv;clear qv;obtain⟨x0,x1⟩:=Hx.out.c2;obtain⟨y0,y1⟩:=Hy.out.c2;obtain⟨r0,ai,r1,aj⟩:=Hr.out.g2;obtain⟨v0,v1⟩:=Hv.out.c2;replace Hb:=az Hb ae;clear ae;refine aI rfl rfl (λK hK=>?_);go_simp;with_reducible refine(Ha.out _ _ (At.aqS Hv.out)).mono ?_
 rintro e w2 ⟨rfl,hq⟩;have ae:Bw W1 w2:=by first|exact hq|exact aV hq
 clear x0 x1 y0 y1 r0 ai r1 aj v0 v1;replace Hx:=kB Hx ae;replace Hy:=kB Hy ae;replace Hr:=kB Hr ae;replace Hv:=kB Hv ae;obtain⟨x0,x1⟩:=Hx.out.c2;obtain⟨y0,y1⟩:=Hy.out.c2;obtain⟨r0,ai,r1,aj⟩:=Hr.out.g2;obtain⟨v0,v1⟩:=Hv.out.c2;replace Hb:=az Hb ae;clear ae;refine hK _ _ (λ_=>⟨x0,x1,y0,y1⟩) ?_;clear hK K;try simp only[UU]
 refine pT rfl rfl ?_;try simp only[UU]
 refine aI rfl rfl (λK hK=>?_);go_simp;with_reducible refine(Hf.out _).mono ?_
 rintro e w3 ⟨rfl,hq⟩;have ae:Bw w2 w3:=by first|exact hq|exact aV hq
 clear x0 x1 y0 y1 r0 ai r1 aj v0 v1;replace Hx:=kB Hx ae;replace Hy:=kB Hy ae;replace Hr:=kB Hr ae;replace Hv:=kB Hv ae;obtain⟨x0,x1⟩:=Hx.out.c2;obtain⟨y0,y1⟩:=Hy.out.c2;obtain⟨r0,ai,r1,aj⟩:=Hr.out.g2;obtain⟨v0,v1⟩:=Hv.out.c2;replace Hb:=az Hb ae;clear ae;refine hK _ _ (λ_=>⟨x0,x1,y0,y1⟩) ?_;clear hK K;try simp only[UU]
 refine aI rfl rfl (λK hK=>?_);go_simp;refine hK _ _ (λh=>absurd h zd) ?_;clear hK K;try simp only[UU]
 clear x0 x1 y0 y1 r0 ai r1 aj v0 v1;refine bO (bK w3 (w.heap.size+1+1) 0 [.bool (ar Z),.string (bs (nt Z.natAbs))]) bV ?_;intro w4 hs;replace Hx:=kS Hx hs zo;replace Hy:=kS Hy hs zo;replace Hr:=cF Hr hs;replace Hv:=kS Hv hs zo;obtain⟨x0,x1⟩:=Hx.out.c2;obtain⟨y0,y1⟩:=Hy.out.c2;obtain⟨r0,ai,r1,aj⟩:=Hr.out.g2;obtain⟨v0,v1⟩:=Hv.out.c2;replace Hb:=bS Hb hs ZS;clear hs;simp only[aZ];go_wp2;refine bodyPost_ret (v:=.agg #[.bool (ar Z),.string (bs (nt Z.natAbs))]) (by simp[results,Tryz.results90,go_sem,r0,r1]) rfl ⟨rfl,?_⟩;(repeat first|exact Hb.out| (refine Below.setCell ?_ (by have:=Hb.out.size;first| (dsimp only;omega) | (show _<=_;omega) | (simp<;>omega)) _) | (refine Below.alloc ?_ zt _) |refine Below.drew ?_)
theorem alz (s:Bool)(l m:List UInt8)(Z:Int)(hZ:iv s l+iv (!s) m=Z)(h:nv m<=nv l)(w:World)(hl:l.length<=1048576)(hm:m.length<=1048576):
 Calls Tryz.prog 90 #[.agg #[.bool s,.string (bs l)],.agg #[.bool (!s),.string (bs m)]] w λe w'=>e=.returned (.agg #[.bool (ar Z),.string (bs (nt Z.natAbs))])/\Bw w w':=by
 have ha:=λW=>YW l m W zo zo h;have hlen:(nt (nv l-nv m)).length<=68719476736:=by have h1:=fT l;refine Nat.le_trans (ja (k:=l.length) zo) zo
 have hf:=λW=>AW s (nt (nv l-nv m)) Z (by rw[<-hZ,mL];unfold iv;cases s<;>simp<;>omega) W hlen;obtain⟨Ha,Hf⟩:=aM ha hf;clear ha hf hlen hZ h;generalize nt (nv l-nv m)=S at*;have hne:(s== !s)=false:=by cases s<;>rfl
 obtain⟨t,ht⟩:=aB (!s);rw[ht]at hne⊢;obtain⟨W,dw,Hb,Hx,Hy,Hr⟩:=rC w 28 [.bool s,.string (bs l)] 28 [.bool t,.string (bs m)] 28 [.bool false,.string ⟨#[]⟩];obtain⟨x0,x1⟩:=Hx.out.c2;obtain⟨y0,y1⟩:=Hy.out.c2;obtain⟨r0,ai,r1,aj⟩:=Hr.out.g2;go_enter Tryz.func90,Tryz.ntmps90;go_wp2_with fail;refine(Ha.out _).mono ?_;rintro e w1 ⟨rfl,ae⟩;clear x0 x1 y0 y1 r0 ai r1 aj;replace Hx:=kB Hx ae;replace Hy:=kB Hy ae;replace Hr:=kB Hr ae;obtain⟨x0,x1⟩:=Hx.out.c2;obtain⟨y0,y1⟩:=Hy.out.c2;obtain⟨r0,ai,r1,aj⟩:=Hr.out.g2;replace Hb:=az Hb ae;clear ae;go_wp2_with fail;refine(Hf.out _).mono ?_;rintro e w2 ⟨rfl,ae⟩;clear x0 x1 y0 y1 r0 ai r1 aj;replace Hx:=kB Hx ae;replace Hy:=kB Hy ae;replace Hr:=kB Hr ae;obtain⟨x0,x1⟩:=Hx.out.c2;obtain⟨y0,y1⟩:=Hy.out.c2;obtain⟨r0,ai,r1,aj⟩:=Hr.out.g2;replace Hb:=az Hb ae;clear ae;go_wp2;clear x0 x1 y0 y1 r0 ai r1 aj;refine fy (bK w2 (w.heap.size+1+1) 0 [.bool (ar Z),.string (bs (nt Z.natAbs))]) bV ?_;intro w9 hs;replace Hx:=kS Hx hs zo;replace Hy:=kS Hy hs zo;replace Hr:=cF Hr hs;obtain⟨x0,x1⟩:=Hx.out.c2;obtain⟨y0,y1⟩:=Hy.out.c2;obtain⟨r0,ai,r1,aj⟩:=Hr.out.g2;replace Hb:=bS Hb hs ZS;clear hs;refine bodyPost_ret (v:=.agg #[.bool (ar Z),.string (bs (nt Z.natAbs))]) (by simp[results,Tryz.results90,go_sem,r0,r1]) rfl ⟨rfl,Hb.out⟩
theorem alA (s:Bool)(l m:List UInt8)(Z:Int)(hZ:iv s l+iv (!s) m=Z)(h:nv l<nv m)(w:World)(hl:l.length<=1048576)(hm:m.length<=1048576):
 Calls Tryz.prog 90 #[.agg #[.bool s,.string (bs l)],.agg #[.bool (!s),.string (bs m)]] w λe w'=>e=.returned (.agg #[.bool (ar Z),.string (bs (nt Z.natAbs))])/\Bw w w':=by
 have ha:=λW=>alG l m W zo zo h;have hb:=λW=>YW m l W zo zo (Nat.le_of_lt h);have hlen:(nt (nv m-nv l)).length<=68719476736:=by have h1:=fT m;refine Nat.le_trans (ja (k:=m.length) zo) zo
 have hf:=λW=>AW (!s) (nt (nv m-nv l)) Z (by rw[<-hZ,mL];unfold iv;cases s<;>simp<;>omega) W hlen;obtain⟨Ha,Hs,Hf⟩:=cX ha hb hf;clear ha hb hf hlen hZ h;generalize nt (nv m-nv l)=S at*;have hne:(s== !s)=false:=by cases s<;>rfl
 obtain⟨t,ht⟩:=aB (!s);rw[ht]at hne Hf⊢;obtain⟨W,dw,Hb,Hx,Hy,Hr⟩:=rC w 28 [.bool s,.string (bs l)] 28 [.bool t,.string (bs m)] 28 [.bool false,.string ⟨#[]⟩];obtain⟨x0,x1⟩:=Hx.out.c2;obtain⟨y0,y1⟩:=Hy.out.c2;obtain⟨r0,ai,r1,aj⟩:=Hr.out.g2;go_enter Tryz.func90,Tryz.ntmps90;go_wp2_with fail;refine(Ha.out _).mono ?_;rintro e w1 ⟨rfl,ae⟩;clear x0 x1 y0 y1 r0 ai r1 aj;replace Hx:=kB Hx ae;replace Hy:=kB Hy ae;replace Hr:=kB Hr ae;obtain⟨x0,x1⟩:=Hx.out.c2;obtain⟨y0,y1⟩:=Hy.out.c2;obtain⟨r0,ai,r1,aj⟩:=Hr.out.g2;replace Hb:=az Hb ae;clear ae;go_wp2_with fail;refine(Hs.out _).mono ?_;rintro e w2 ⟨rfl,ae⟩;clear x0 x1 y0 y1 r0 ai r1 aj;replace Hx:=kB Hx ae;replace Hy:=kB Hy ae;replace Hr:=kB Hr ae;obtain⟨x0,x1⟩:=Hx.out.c2;obtain⟨y0,y1⟩:=Hy.out.c2;obtain⟨r0,ai,r1,aj⟩:=Hr.out.g2;replace Hb:=az Hb ae;clear ae;go_wp2_with fail;refine(Hf.out _).mono ?_;rintro e w3 ⟨rfl,ae⟩;clear x0 x1 y0 y1 r0 ai r1 aj;replace Hx:=kB Hx ae;replace Hy:=kB Hy ae;replace Hr:=kB Hr ae;obtain⟨x0,x1⟩:=Hx.out.c2;obtain⟨y0,y1⟩:=Hy.out.c2;obtain⟨r0,ai,r1,aj⟩:=Hr.out.g2;replace Hb:=az Hb ae;clear ae;go_wp2;clear x0 x1 y0 y1 r0 ai r1 aj;refine fy (bK w3 (w.heap.size+1+1) 0 [.bool (ar Z),.string (bs (nt Z.natAbs))]) bV ?_;intro w9 hs;replace Hx:=kS Hx hs zo;replace Hy:=kS Hy hs zo;replace Hr:=cF Hr hs;obtain⟨x0,x1⟩:=Hx.out.c2;obtain⟨y0,y1⟩:=Hy.out.c2;obtain⟨r0,ai,r1,aj⟩:=Hr.out.g2;replace Hb:=bS Hb hs ZS;clear hs;refine bodyPost_ret (v:=.agg #[.bool (ar Z),.string (bs (nt Z.natAbs))]) (by simp[results,Tryz.results90,go_sem,r0,r1]) rfl ⟨rfl,Hb.out⟩
theorem aly (s:Bool)(l:List UInt8)(t:Bool)(m:List UInt8)(Z:Int)(hZ:iv s l+iv t m=Z)(w:World)(hl:l.length<=1048576)(hm:m.length<=1048576):
 Calls Tryz.prog 90 #[.agg #[.bool s,.string (bs l)],.agg #[.bool t,.string (bs m)]] w λe w'=>e=.returned (.agg #[.bool (ar Z),.string (bs (nt Z.natAbs))])/\Bw w w':=by
 by_cases h:s=t
 . subst h;exact alB s l m Z hZ w hl hm
 . obtain rfl:t= !s:=by cases s<;>cases t<;>simp_all
   by_cases h2:nv l<nv m
   . exact alA s l m Z hZ h2 w hl hm
   . exact alz s l m Z hZ zo w hl hm
theorem alE (l:List UInt8)(p:Nat)(w:World)(hl:l.length<=68719476736)(hp:p<=274877906944):
 Calls Tryz.prog 131 #[.string (bs l),.int .i64 (p:Int)] w λe w'=>e=.returned (.string (bs (nt (nv l*2^p))))/\Bw w w':=by
 have ot:bC (nv l)<=549755813888:=Nat.le_trans (gw (nJ l)) zo;have hmx:max (p:Int) 0=(p:Int):=by omega
 have Hb:Hid (Bw w w):=Below.refl _ _;go_enter Tryz.func131,Tryz.ntmps131;go_wp2_with fail;refine(oK l _ hl).mono ?_;rintro e w1 ⟨⟨y,rfl,hy⟩,hb1⟩;obtain⟨Hy,bU⟩:=aM hy hb1;clear hy hb1;go_wp2_with fail;refine(Pi (.slice none 0 0) y 0 (bC (nv l)) 0 (nv l) p w1 ⟨by simp,.inl ⟨rfl,rfl⟩⟩ Hy.out zo zo).mono ?_;rintro e w2 ⟨⟨z,rfl,hz⟩,hb2⟩;rw[Nat.zero_add]at hz;obtain⟨Hz,bQ⟩:=aM hz hb2;clear hz hb2;go_wp2_with fail;refine(uj z _ (nv l*2^p) w2 zo Hz.out).mono ?_;rintro e w3 ⟨rfl,hb3⟩;have ey:=ah hb3;clear hb3;go_wp2;go_ret;exact⟨rfl,aK bU.out (aK bQ.out ey.out)⟩
theorem ajB (v k:Nat):v%2^(k+1)=v%2^k+bd v k*2^k:=by unfold bd;rw[Nat.pow_succ,Nat.mod_mul,Nat.mul_comm]
theorem alr (l m:List UInt8)(w:World)(hl:l.length<=17179869184)(hm:m.length<=17179869184):
 Calls Tryz.prog 154 #[.string (bs l),.string (bs m)] w λe w'=>e=.returned (.string (bs (nt (nv l*nv m))))/\Bw w w':=by
 have hbl:bC (nv l)<=137438953472:=Nat.le_trans (gw (nJ l)) zo;have GG:bC (nv m)<=137438953472:=Nat.le_trans (gw (nJ m)) zo;have hvl:=pp (nv l);obtain⟨V,hV⟩:=aB (nv l);obtain⟨U,hU⟩:=aB (nv m);have h1:=λW=>oK l W zo;have h2:=λW=>oK m W zo;rw[hV]at hbl hvl h1⊢;rw[hU]at GG h2⊢;obtain⟨N,hN⟩:=aB (bC V);obtain⟨M,hM⟩:=aB (bC U);rw[hN]at hbl hvl h1;rw[hM]at GG h2;obtain⟨H1,H2,jF⟩:=cX h1 h2 hvl;clear h1 h2 hvl hV hU hN hM hl hm;have Hb:Hid (Bw w w):=Below.refl _ _;go_enter Tryz.func154,Tryz.ntmps154;go_wp2_with fail;refine(H1.out _).mono ?_;rintro e w1 ⟨⟨x,rfl,hx⟩,hb1⟩;obtain⟨Hx,bU⟩:=aM hx hb1;clear hx hb1;go_wp2_with fail;refine(H2.out _).mono ?_;rintro e w2 ⟨⟨y,rfl,hy⟩,hb2⟩;obtain⟨qC,Hy,bQ⟩:=cX (Hx.out.below hb2) hy (aK bU.out hb2);clear hy hb2 bU Hx;obtain⟨a,cap,rfl⟩:=qC.out.len;go_wp2_with fail;go_loopw[7,8] (λz i wr=>∃k n:Nat,k<=N/\n<=M+k/\i=.int .i64 (k:Int)/\Bv wr z n (V%2^k*U)/\Bw w2 wr) (λ_ i _=>N-(intOf i).toNat);case atStart=>exact⟨0,0,Nat.zero_le _,Nat.zero_le _,rfl,⟨by simp[Nat.mod_one],.inl ⟨rfl,rfl⟩⟩,Below.refl _ _⟩
 case round=>
  obtain⟨k,n,hk,hn,rfl,hz,hb⟩:=hrel;by_cases hlt:k<N
  . have hxk:=qC.out.below hb;rcases hxk.2 with⟨h,h0⟩ |⟨b,o,cap',h,hcap,hc⟩
    . omega
    simp only[Value.slice.injEq,true_and]at h;obtain⟨rfl,rfl⟩:=h;have hcell:=hc k hlt;have bE:=vJ N cap k (k:Int) (rfl:(some ⟨b,o,none⟩:Option Addr)=_) hlt rfl;rw[Nat.mul_one]at bE;have hst:=ajB V k;obtain⟨Hz,Hb,hyk⟩:=cX hz hb (Hy.out.below hb);clear hz hb hc hxk;rcases(show bd V k=0\/bd V k=1 by unfold bd;omega)with hd|hd
    . have hd':((bd V k:Int)==1)=false:=by simp[hd]
      rw[hd,Nat.zero_mul,Nat.add_zero]at hst;have cE:=ah hst;clear hst hd;go_wp2;go_roundw;case rel=>exact⟨k+1,n,by omega,by omega,by go_num,by rw[cE.out];exact Hz.out,Hb.out⟩
      case measure=>simp[intOf];omega
    . have hd':((bd V k:Int)==1)=true:=by simp[hd]
      rw[hd,Nat.one_mul]at hst;have cE:=ah hst;clear hst hd;go_wp2_with fail;refine(Pi u7 y n M (V%2^k*U) U k wr Hz.out hyk.out zo zo).mono ?_;rintro e w4 ⟨⟨z,rfl,hz⟩,hb4⟩;obtain⟨Hz4,lf⟩:=aM hz hb4;clear hz hb4;go_wp2;go_roundw;case rel=>refine⟨k+1,max n (M+k)+1,by omega,by omega,by go_num,?_,aK Hb.out lf.out⟩;rw[cE.out,Nat.add_mul,Nat.mul_comm (2^k) U];exact Hz4.out
      case measure=>simp[intOf];omega
  . obtain rfl:k=N:=by omega
    have CY:V%2^k=V:=Nat.mod_eq_of_lt jF.out;rw[CY]at hz;obtain⟨Hz,Hb⟩:=aM hz hb;clear hz hb CY;go_wp2_with fail;refine(uj u7 n (V*U) wr zo Hz.out).mono ?_;rintro e w4 ⟨rfl,hb4⟩;have lf:=ah hb4;clear hb4;go_wp2;go_ret;exact⟨rfl,aK bQ.out (aK Hb.out lf.out)⟩
theorem Yf (l m:List UInt8):(nt (nv l*nv m)).length<=l.length+m.length:=by refine ja ?_;rw[Nat.pow_add];have h1:=fT l;have h2:=fT m;exact Nat.mul_lt_mul_of_lt_of_le h1 (Nat.le_of_lt h2) zo
theorem Yg (l:List UInt8)(p:Nat):(nt (nv l*2^p)).length<=l.length+p:=by refine ja ?_;rw[Nat.pow_add];have h1:=fT l;have h2:2^p<=256^p:=Nat.pow_le_pow_left zd p;exact Nat.mul_lt_mul_of_lt_of_le h1 h2 (Nat.pow_pos zd)
theorem als (s:Bool)(l:List UInt8)(Z:Int)(hZ: -iv s l=Z)(w:World)(hl:l.length<=1048576):
 Calls Tryz.prog 103 #[.agg #[.bool s,.string (bs l)]] w λe w'=>e=.returned (.agg #[.bool (ar Z),.string (bs (nt Z.natAbs))])/\Bw w w':=by
 have hf:=λW=>AW (!s) l Z (by rw[<-hZ];unfold iv;cases s<;>simp) W zo;have Hf:=ah hf;clear hf hZ;generalize Z.natAbs=Y at*;generalize ar Z=t at*;obtain⟨W,dw,Hb,Hx,Hr⟩:=pW w 28 [.bool s,.string (bs l)] 28 [.bool false,.string ⟨#[]⟩];obtain⟨x0,x1⟩:=Hx.out.c2;obtain⟨r0,ai,r1,aj⟩:=Hr.out.g2;go_enter Tryz.func103,Tryz.ntmps103;go_wp2_with fail;refine(Hf.out _).mono ?_;rintro e w1 ⟨rfl,ae⟩;clear x0 x1 r0 ai r1 aj;replace Hx:=kB Hx ae;replace Hr:=kB Hr ae;obtain⟨x0,x1⟩:=Hx.out.c2;obtain⟨r0,ai,r1,aj⟩:=Hr.out.g2;replace Hb:=az Hb ae;clear ae;go_wp2;clear x0 x1 r0 ai r1 aj;refine fy (bK w1 (w.heap.size+1) 0 [.bool t,.string (bs (nt Y))]) bV ?_;intro w9 hs;replace Hx:=kS Hx hs zo;replace Hr:=cF Hr hs;obtain⟨x0,x1⟩:=Hx.out.c2;obtain⟨r0,ai,r1,aj⟩:=Hr.out.g2;replace Hb:=bS Hb hs ZS;clear hs;refine bodyPost_ret (v:=.agg #[.bool t,.string (bs (nt Y))]) (by simp[results,Tryz.results103,go_sem,r0,r1]) rfl ⟨rfl,Hb.out⟩
theorem alK (s:Bool)(l:List UInt8)(t:Bool)(m:List UInt8)(Z:Int)(hZ:iv s l*iv t m=Z)(w:World)(hl:l.length<=524288)(hm:m.length<=524288):
 Calls Tryz.prog 122 #[.agg #[.bool s,.string (bs l)],.agg #[.bool t,.string (bs m)]] w λe w'=>e=.returned (.agg #[.bool (ar Z),.string (bs (nt Z.natAbs))])/\Bw w w':=by
 have hf:=λW=>AW (!(s==t)) (nt (nv l*nv m)) Z (by rw[<-hZ,mL];unfold iv;cases s<;>cases t<;>simp[Int.neg_mul,Int.mul_neg]) W (by have:=Yf l m;omega);have Du:=λW=>alr l m W zo zo;obtain⟨Hf,Hm⟩:=aM hf Du;clear hf Du hZ;generalize Z.natAbs=Y at*;generalize ar Z=v at*;generalize nt (nv l*nv m)=S at*;obtain⟨W,dw,Hb,Hx,Hy,Hr⟩:=rC w 28 [.bool s,.string (bs l)] 28 [.bool t,.string (bs m)] 28 [.bool false,.string ⟨#[]⟩];obtain⟨x0,x1⟩:=Hx.out.c2;obtain⟨y0,y1⟩:=Hy.out.c2;obtain⟨r0,ai,r1,aj⟩:=Hr.out.g2;go_enter Tryz.func122,Tryz.ntmps122;go_wp2_with fail;refine bM (λw'=>w'.cell? ⟨w.heap.size,0,none⟩=some (.bool s)/\w'.cell? ⟨w.heap.size,1,none⟩=some (.string (bs l))/\w'.cell? ⟨w.heap.size+1,0,none⟩=some (.bool t)/\w'.cell? ⟨w.heap.size+1,1,none⟩=some (.string (bs m))) (λi=>Nat.blt i 12) [(0,true),(1,true),(2,true),(3,true),(4,true),(5,true),(6,true),(7,true),(8,true),(9,false),(10,true),(11,false),(12,false)] zk zk rfl zk zc ⟨x0,x1,y0,y1⟩ ?_;iterate 9 (refine pT rfl rfl ?_ (by intro w' ⟨q0,q1,q2,q3⟩;go_simp;try with_reducible rfl);try simp only[UU])
 refine aI rfl rfl (λK hK=>?_);go_simp;with_reducible refine(Hm.out _).mono ?_
 rintro e w1 ⟨rfl,hq⟩;have ae:Bw W w1:=by first|exact hq|exact aV hq
 clear x0 x1 y0 y1 r0 ai r1 aj;replace Hx:=kB Hx ae;replace Hy:=kB Hy ae;replace Hr:=kB Hr ae;obtain⟨x0,x1⟩:=Hx.out.c2;obtain⟨y0,y1⟩:=Hy.out.c2;obtain⟨r0,ai,r1,aj⟩:=Hr.out.g2;replace Hb:=az Hb ae;clear ae;refine hK _ _ (λ_=>⟨x0,x1,y0,y1⟩) ?_;clear hK K;try simp only[UU]
 refine pT rfl rfl ?_;try simp only[UU]
 refine aI rfl rfl (λK hK=>?_);go_simp;with_reducible refine(Hf.out _).mono ?_
 rintro e w2 ⟨rfl,hq⟩;have ae:Bw w1 w2:=by first|exact hq|exact aV hq
 clear x0 x1 y0 y1 r0 ai r1 aj;replace Hx:=kB Hx ae;replace Hy:=kB Hy ae;replace Hr:=kB Hr ae;obtain⟨x0,x1⟩:=Hx.out.c2;obtain⟨y0,y1⟩:=Hy.out.c2;obtain⟨r0,ai,r1,aj⟩:=Hr.out.g2;replace Hb:=az Hb ae;clear ae;refine hK _ _ (λ_=>⟨x0,x1,y0,y1⟩) ?_;clear hK K;try simp only[UU]
 refine aI rfl rfl (λK hK=>?_);go_simp;refine hK _ _ (λh=>absurd h zd) ?_;clear hK K;try simp only[UU]
 clear x0 x1 y0 y1 r0 ai r1 aj;refine bO (bK w2 (w.heap.size+1+1) 0 [.bool v,.string (bs (nt Y))]) bV ?_;intro w9 hs;replace Hx:=kS Hx hs zo;replace Hy:=kS Hy hs zo;replace Hr:=cF Hr hs;obtain⟨x0,x1⟩:=Hx.out.c2;obtain⟨y0,y1⟩:=Hy.out.c2;obtain⟨r0,ai,r1,aj⟩:=Hr.out.g2;replace Hb:=bS Hb hs ZS;clear hs;simp only[aZ];go_wp2;refine bodyPost_ret (v:=.agg #[.bool v,.string (bs (nt Y))]) (by simp[results,Tryz.results122,go_sem,r0,r1]) rfl ⟨rfl,?_⟩;(repeat first|exact Hb.out| (refine Below.setCell ?_ (by have:=Hb.out.size;first| (dsimp only;omega) | (show _<=_;omega) | (simp<;>omega)) _) | (refine Below.alloc ?_ zt _) |refine Below.drew ?_)
theorem alD (s:Bool)(l:List UInt8)(p:Nat)(Z:Int)(hZ:iv s l*2^p=Z)(w:World)(hl:l.length<=1048576)(hp:p<=1073741824):
 Calls Tryz.prog 91 #[.agg #[.bool s,.string (bs l)],.int .i64 (p:Int)] w λe w'=>e=.returned (.agg #[.bool (ar Z),.string (bs (nt Z.natAbs))])/\Bw w w':=by
 have hf:=λW=>AW s (nt (nv l*2^p)) Z (by rw[<-hZ,mL];unfold iv;cases s<;>simp[Int.neg_mul]) W (by have:=Yg l p;omega);have hsh:=λW=>alE l p W zo zo;have hp0:(0:Int)<=(p:Int):=by omega
 have hp1:decide ((p:Int)≥0)=true:=by simp
 obtain⟨Hf,Hm⟩:=aM hf hsh;clear hf hsh hZ;generalize Z.natAbs=Y at*;generalize ar Z=v at*;generalize nt (nv l*2^p)=S at*;obtain⟨W,dw,Hb,Hx,Hr⟩:=pW w 28 [.bool s,.string (bs l)] 28 [.bool false,.string ⟨#[]⟩];obtain⟨x0,x1⟩:=Hx.out.c2;obtain⟨r0,ai,r1,aj⟩:=Hr.out.g2;go_enter Tryz.func91,Tryz.ntmps91;go_wp2_with fail;refine bM (λw'=>w'.cell? ⟨w.heap.size,0,none⟩=some (.bool s)/\w'.cell? ⟨w.heap.size,1,none⟩=some (.string (bs l))) (λi=>Nat.blt i 8) [(0,true),(1,true),(2,true),(3,true),(4,true),(5,false),(6,true),(7,false),(8,false)] zk zk rfl zk zc ⟨x0,x1⟩ ?_;iterate 5 (refine pT rfl rfl ?_ (by intro w' ⟨q0,q1⟩;go_simp;try with_reducible rfl);try simp only[UU])
 refine aI rfl rfl (λK hK=>?_);go_simp;with_reducible refine(Hm.out _).mono ?_
 rintro e w1 ⟨rfl,hq⟩;have ae:Bw W w1:=by first|exact hq|exact aV hq
 clear x0 x1 r0 ai r1 aj;replace Hx:=kB Hx ae;replace Hr:=kB Hr ae;obtain⟨x0,x1⟩:=Hx.out.c2;obtain⟨r0,ai,r1,aj⟩:=Hr.out.g2;replace Hb:=az Hb ae;clear ae;refine hK _ _ (λ_=>⟨x0,x1⟩) ?_;clear hK K;try simp only[UU]
 refine pT rfl rfl ?_;try simp only[UU]
 refine aI rfl rfl (λK hK=>?_);go_simp;with_reducible refine(Hf.out _).mono ?_
 rintro e w2 ⟨rfl,hq⟩;have ae:Bw w1 w2:=by first|exact hq|exact aV hq
 clear x0 x1 r0 ai r1 aj;replace Hx:=kB Hx ae;replace Hr:=kB Hr ae;obtain⟨x0,x1⟩:=Hx.out.c2;obtain⟨r0,ai,r1,aj⟩:=Hr.out.g2;replace Hb:=az Hb ae;clear ae;refine hK _ _ (λ_=>⟨x0,x1⟩) ?_;clear hK K;try simp only[UU]
 refine aI rfl rfl (λK hK=>?_);go_simp;refine hK _ _ (λh=>absurd h zd) ?_;clear hK K;try simp only[UU]
 clear x0 x1 r0 ai r1 aj;refine bO (bK w2 (w.heap.size+1) 0 [.bool v,.string (bs (nt Y))]) bV ?_;intro w9 hs;replace Hx:=kS Hx hs zo;replace Hr:=cF Hr hs;obtain⟨x0,x1⟩:=Hx.out.c2;obtain⟨r0,ai,r1,aj⟩:=Hr.out.g2;replace Hb:=bS Hb hs ZS;clear hs;simp only[aZ];go_wp2;refine bodyPost_ret (v:=.agg #[.bool v,.string (bs (nt Y))]) (by simp[results,Tryz.results91,go_sem,r0,r1]) rfl ⟨rfl,?_⟩;(repeat first|exact Hb.out| (refine Below.setCell ?_ (by have:=Hb.out.size;first| (dsimp only;omega) | (show _<=_;omega) | (simp<;>omega)) _) | (refine Below.alloc ?_ zt _) |refine Below.drew ?_)
end Go.Proofs.YtdaadlblknpipaaGreatDoor
