/- Package ogeeref01: Div. -/
import Derived.Test.YtpfgffadgkkedaaGreatDoorZ13
import Derived.Laws.AppendOwnNone
import Derived.Test.YtpfgffadgkkedaaGreatDoorZ7
set_option linter.all false
set_option maxRecDepth 100000
set_option maxHeartbeats 16000000
namespace Go.Proofs.YtpfgffadgkkedaaGreatDoor
open Go.RowKit
attribute [local go_sem ↓] Go.wp_at_zero Go.wp_at_succ
def akU (r c:Nat)(hc:c<=1):bd (2*r+c) 0=c/\∀j,bd (2*r+c) (j+1)=bd r j:=by unfold bd;refine⟨by simp;omega,λj=>?_⟩;rw[Nat.pow_succ',<-Nat.div_div_eq_div_mul,show(2*r+c)/2=r by omega]
def af5 (n r c:Nat)(hc:c<=1):[.int .u8 (c:Int)]++dt n (bd r)=dt (1+n) (bd (2*r+c)):=by
 obtain⟨h0,h1⟩:=akU r c hc;apply List.ext_getElem?;intro j;cases j with
 |zero=>rw[nH _ _ _ zo,h0];rfl
 | succ j=>
   rw[List.getElem?_append_right zm];simp only[List.length_singleton,Nat.add_sub_cancel];by_cases hj:j<n
   . rw[nH _ _ _ hj,nH _ _ _ zo,h1]
   . rw[List.getElem?_eq_none (by rw[Jy];omega),List.getElem?_eq_none (by rw[Jy];omega)]
def atd (W:World)(base:Nat)(e:TypeId)(x:Value)(hb:base<=W.heap.size):(W.alloc (.cells #[x] e)).ownsRow base e 1 (.slice (some ⟨W.heap.size,0,none⟩) 1 1) 1 [x]:=
 ⟨rfl,.inr ⟨W.heap.size,1,#[x],rfl,hb,heap_alloc_new W _,Nat.le_refl _,by simp[maxLen],rfl,rfl⟩⟩
def Zg (S u:Nat):(0<=di S u)↔u<=S:=by
 unfold di;by_cases h1:S<u
 . rw[if_pos h1];omega
 . rw[if_neg h1];by_cases h2:u<S
   . rw[if_pos h2];omega
   . rw[if_neg h2];omega
def Bv.cells {w:World}{x:Value}{n v:Nat}(h:Bv w x n v)(hn:0<n):∃b o cap,x=.slice (some ⟨b,o,none⟩) n cap/\∀j,j<n->w.cell? ⟨b,o+j,none⟩=some (.int .u8 (bd v j:Int)):=by
 rcases h.2 with⟨_,h2⟩ |⟨b,o,cap,h1,_,h3⟩
 . omega
 . exact⟨b,o,cap,h1,h3⟩
def Bv.azV {w:World}{x:Value}{n v:Nat}(h:Bv w x n v){a:Addr}(hne:∀b o n c,x=.slice (some ⟨b,o,none⟩) n c->b≠a.block)(y:Value):Bv (w.setCell a y) x n v:=by
 refine⟨h.1,?_⟩;rcases h.2 with h|⟨b,o,cap,e,h1,hc⟩
 . exact .inl h
 . exact .inr ⟨b,o,cap,e,h1,λj hj=>gG (hne b o n cap e) (hc j hj)⟩
def awD {ops:Array Oper}{rest:List Oper}{o:Oper}{a:Act}{Q:Exit->Act->World->Prop}(hgd:o.guard=none)(s x:Operand)
 (ho:o.op=.call {callee:=.builtin .append,args:=#[s,x],argTypes:=#[59,59]}) (W:World) (z:Value) (n r c:Nat) (hc:c<=1) (hn:n<=1099511627776) (hz:Bv W z n r)
 (hs:a.eval s=.slice (some ⟨W.heap.size,0,none⟩) 1 1) (hx:a.eval x=z)
 (h:∀v' w',Bv w' v' (1+n) (2*r+c)->FL v' W.heap.size->Bw W w'->wpList Tryz.prog ops Q rest (a.put o.dst v') w'):wpList Tryz.prog ops Q (o::rest) a (W.alloc (.cells #[.int .u8 (c:Int)] 5)):=by
 obtain⟨i0,hi,hz0,hz1,hz2⟩:=info_parts Tryz.az2;have hlt:2*r+c<2^(1+n):=by have:=hz.1;rw[Nat.add_comm 1 n,Nat.pow_succ];omega
 have hone:=atd W W.heap.size 5 (.int .u8 (c:Int)) (Nat.le_refl _);have hb0:Bw W (W.alloc (.cells #[.int .u8 (c:Int)] 5)):=zl;rcases hz.2 with⟨rfl,rfl⟩ |⟨b,oo,cap,rfl,h1,hcs⟩
 . refine wpList_append_own_none hgd s x 59 ho W.heap.size 5 i0 1 Tryz.underlying59 hi _ 1 _ hs hone hx ?_;refine h _ _ (Bv.azY (base:=W.heap.size) (e:=5) ?_ hlt) (λb o n c e=>by cases e;exact Nat.le_refl _) hb0;rw[<-af5 0 r c hc];exact hone
 . refine wpList_append_own _ hgd s x 59 ho W.heap.size 5 i0 (.int .u8 0) 1 1 Tryz.underlying59 hi hz0 hz1 hz2 rfl zd _ 1 _ hs hone ⟨b,oo,none⟩ n cap (dt n (bd r)) hx (by rw[Jy,Nat.mul_one]) ?_ ?_ zx zo zm ?_
   . intro j u hj;have jP:j<n:=by
      rcases Nat.lt_or_ge j n with h|h
      . exact h
      . rw[List.getElem?_eq_none (by rw[Jy];exact h)]at hj;cases hj
     rw[nH _ _ _ jP]at hj;cases hj
     have e2:((⟨b,oo,none⟩:Addr).add j)=⟨b,oo+j,none⟩:=by simp[Addr.add]
     rw[e2];exact aM (hcs j jP)
   . intro u hu;unfold dt at hu;rw[List.mem_map]at hu;obtain⟨j,_,rfl⟩:=hu;rfl
   . intro v' w' ho' hg' _;refine h _ _ (Bv.azY (base:=W.heap.size) (e:=5) ?_ hlt) (λb o n c e=>cE ho' b (by rw[e];rfl)) (hb0.grown hg' zm (λj e=>cE hone j e));rw[<-af5 n r c hc];exact ho'
def aug (l m:List UInt8)(w:World)(hl:l.length<=68719476736)(hm:m.length<=68719476736)(h0:0<nv m):
 Cv 265 #[ah l,ah m] w (.tuple #[ah (nt (nv l/nv m)),ah (nt (nv l%nv m)),ag true]):=by
 obtain⟨i0,hi,hz0,hz1,hz2⟩:=info_parts Tryz.az2;have hL:=Nat.le_trans (im (rQ l)) (show 8*l.length<=549755813888 by omega);have hU:=Nat.le_trans (im (rQ m)) (show 8*m.length<=549755813888 by omega);have hb1:=ul l w hl;have hb2:=λW=>ul m W hm;generalize nv l=v at*;generalize nv m=u at*;have hUp:=FV h0;have hLt:=sQ v;generalize hLe:bF v=L at*;generalize hUe:bF u=U at*;obtain⟨H1,H2,uy,WP⟩:=cG hb1 hb2 hLt hUe;clear hb1 hb2 hLt hLe hUe;have hmk:=xh (L:Int) L rfl zo;have hU0:((U:Int)==0)=false:=by simp;omega
 go_enter Tryz.func265,Tryz.ntmps265;go_wp2_with fail;refine H1.out.mono ?_;rintro e w1 ⟨⟨X,rfl,hX⟩,abN⟩;go_wp2_with fail;refine(H2.out w1).mono ?_;rintro e w2 ⟨⟨Y,rfl,hY⟩,Dm⟩;obtain⟨HX,HY,Hw⟩:=bM (hX.below Dm) hY (aF abN Dm);clear hX hY abN Dm;obtain⟨ax,cx,rfl⟩:=HX.out.len;obtain⟨ay,cy,rfl⟩:=HY.out.len;go_wp2_with fail;go_loopw[10,11] (λz i wr=>∃k:Nat,k<=L/\i=af ((k:Int)-1)/\Bv wr z (bF (v/2^k%u)) (v/2^k%u)/\FL z (w2.heap.size+1)/\ar wr w2.heap.size 5 (dt L (λj=>if k<=j then bd (v/u) j else 0))/\Bw w2 wr) (λ_ i _=>(intOf i+1).toNat);case atStart=>
  refine⟨L,Nat.le_refl _,by go_num,?_,(λb o n c e=>by cases e),?_,zl⟩
  . rw[Nat.div_eq_of_lt uy.out,Nat.zero_mod];exact⟨by simp[bF],.inl ⟨rfl,rfl⟩⟩
  . have e:dt L (λj=>if L<=j then bd (v/u) j else 0)=dt L λ_=>0:=oD λj hj=>by rw[if_neg zo]
    rw[e];exact ar.new _ _ _
 case round=>
  obtain⟨k,hk,rfl,hz,hzl,hB,hb⟩:=hrel;by_cases fG:0<k
  . obtain⟨j,rfl⟩:∃j,k=j+1:=⟨k-1,by omega⟩;obtain⟨r,c,q,e1,e2,e3,e4,e5⟩:=arv v u j h0;have e6:=aru v u j;have hr:r<u:=by rw[<-e1];exact Nat.mod_lt _ h0
    have hc1:c<=1:=by rw[<-e2];exact uJ v j
    rw[e1]at hz;rw[e5]at e6;obtain⟨S,hS⟩:=au (2*r+c);rw[hS]at e4 e6;have tY:bF r<=549755813888:=Nat.le_trans (YP (Nat.le_of_lt hr)) (by rw[WP.out];omega);have hSb:bF S<=549755813889:=by rw[<-hS];exact Nat.le_trans (ak5 r c hc1) zo
    obtain⟨bx,ox,cx',ky,lh⟩:=HX.out.cells zo;obtain⟨rfl,rfl⟩:ax=some ⟨bx,ox,none⟩/\cx=cx':=by simp only[Value.slice.injEq]at ky;exact⟨ky.1,ky.2.2⟩
    have hcell:wr.cell? ⟨bx,ox+j,none⟩=some (.int .u8 (c:Int)):=by rw[<-e2];exact cell_later hb (lh j zo)
    have aX:=yL L cx j (j:Int) (rfl:(some ⟨bx,ox,none⟩:Option Addr)=_) zo rfl;rw[Nat.mul_one]at aX;obtain⟨Hz,HB,Hb,Kf,Kg,HS⟩:=fZ hz hB hb e4 e6 hS;have hs0:=hb.size;have hqb:=hB.lt;have hj:((j+1:Nat):Int)-1=(j:Int):=by omega
    rw[hj];clear hz hB hb e1 e2 e3 e4 e5 e6 hS ky lh hj fG;go_wp2_with (first| (at_builtin;refine awD rfl _ _ rfl _ u10 (bF r) r c hc1 zo Hz.out rfl rfl ?_;intro v' w3 hv' Ms hb3));rw[HS.out]at hv';obtain⟨Hv',Hl3,dW⟩:=bM hv' Ms hb3;have hs3:=hb3.size;clear hv' Ms hb3 hzl hcell aX;refine(Vg v' (1+bF r) S w3 zo Hv'.out).mono ?_;rintro e w' ⟨⟨z,rfl,hz,hzl⟩,rfl⟩;obtain⟨bX,Hzl⟩:=aH hz (hzl _ Hl3.out);clear hz hzl;obtain⟨WT,kK⟩:=aH (HY.out.below (aF Hb.out dW.out)) (HB.out.below dW.out);go_wp2_with fail;refine(afa z _ (bF S) U S u w3 bX.out WT.out zo zo).mono ?_;rintro e w' ⟨rfl,rfl⟩;by_cases hge:u<=S
    . have hc0:0<=di S u:=(Zg S u).2 hge;generalize di S u=ci at*;rw[if_pos hge]at Kf Kg;go_wp2_with fail;refine(afe z _ (bF S) U S u w3 bX.out WT.out zo zo hge).mono ?_;rintro e w4 ⟨⟨t,rfl,ht,htl⟩,hb4⟩;obtain⟨Ht,Ac,qW⟩:=bM ht htl hb4;clear ht htl hb4;go_wp2_with fail;refine(Vg t (bF S) (S-u) w4 zo Ht.out).mono ?_;rintro e w' ⟨⟨t2,rfl,ht2,adr⟩,rfl⟩;obtain⟨Kt,Ym⟩:=aH ht2 (adr _ Ac.out);clear ht2 adr;have hB4:=kK.out.below qW.out;have q0:w4.cell? ⟨w2.heap.size,j,none⟩=some (.int .u8 0):=by rw[hB4.cell,nH _ _ _ zo,if_neg zo];rfl
      have qf:w4.frozen? ⟨w2.heap.size,j,none⟩=false:=hB4.free _;have rH:=yL L L j (j:Int) (rfl:(some ⟨w2.heap.size,0,none⟩:Option Addr)=_) zo rfl;rw[Nat.mul_one,Nat.zero_add]at rH;have Rx:=hB4.set j (.int .u8 ((1:Nat):Int))
      rw[Et,oD (g:=λi=>if j<=i then bd (v/u) i else 0) λi hi=>by
       by_cases e:i=j
       . subst e;rw[if_pos rfl,if_pos (Nat.le_refl _),Kg.out];omega
       . rw[if_neg e];by_cases e2:j+1<=i
         . rw[if_pos e2,if_pos zo]
         . rw[if_neg e2,if_neg zo]]at Rx
      have lG:=aj Rx;clear hB4 Rx;go_wp2;go_roundw;case rel=>
       refine⟨j,by omega,by go_num,?_,?_,lG.out,?_⟩
       . rw[Kf.out];exact Kt.out.azV (λb o n c e=>by have:=Ym.out b o n c e;dsimp only;omega) _
       . exact λb o n c e=>by have:=Ym.out b o n c e;omega
       . exact(aF (aF Hb.out dW.out) qW.out).setCell (Nat.le_refl _) _
      case measure=>simp[intOf]
    . have hc0:¬0<=di S u:=fun h=>hge ((Zg S u).1 h);generalize di S u=ci at*;rw[if_neg hge]at Kf Kg;have lG:Hid (ar w3 w2.heap.size 5 (dt L (fun i=>if j<=i then bd (v/u) i else 0))):=by
       show ar _ _ _ _
       rw[oD (g:=λi=>if j+1<=i then bd (v/u) i else 0) λi hi=>by
        by_cases e:i=j
        . subst e;rw[if_pos (Nat.le_refl _),if_neg zo,Kg.out];omega
        . by_cases e2:j+1<=i
          . rw[if_pos e2,if_pos zo]
          . rw[if_neg e2,if_neg zo]]
       exact kK.out
      go_wp2;go_roundw;case rel=>exact⟨j,by omega,by go_num,by rw[Kf.out];exact bX.out,(λb o n c e=>by have:=Hzl.out b o n c e;omega),lG.out,aF Hb.out dW.out⟩
      case measure=>simp[intOf]
  . obtain rfl:k=0:=by omega
    have hq:v/u<2^L:=Nat.lt_of_le_of_lt (Nat.div_le_self v u) uy.out;rw[oD (g:=bd (v/u)) λj hj=>by rw[if_pos (Nat.zero_le _)]]at hB;have Hq:=aj (Bv.azW hB hq);have e0:v/2^0%u=v%u:=by simp
    rw[e0]at hz;have tY:bF (v%u)<=549755813888:=Nat.le_trans (YP (Nat.le_of_lt (Nat.mod_lt v h0))) (by rw[WP.out];omega);obtain⟨Hz,Hb⟩:=aH hz hb;clear hB hq hz hb e0 hzl;go_wp2_with fail;refine(ze _ L (v/u) wr zo Hq.out).mono ?_;rintro e w3 ⟨rfl,hb3⟩;go_wp2_with fail;refine(ze u10 (bF (v%u)) (v%u) w3 zo (Hz.out.below hb3)).mono ?_;rintro e w4 ⟨rfl,hb4⟩;have nO:=aj (aF Hw.out (aF Hb.out (aF hb3 hb4)));clear hb3 hb4;go_wp2;go_ret3
    exact⟨rfl,nO.out⟩
def auk (l:List UInt8)(w:World)(hl:l.length<=68719476736):
 Cv 216 #[.agg #[ag false,ah l]] w (.agg #[ag (false),ah (nt (nv l))]):=by
 have hb:=Nat.le_trans (im (rQ l)) (show 8*l.length<=1099511627776 by omega);have h1:=ul l;obtain⟨v,hv⟩:=au (nv l);rw[hv]at hb⊢;simp only[hv]at h1;obtain⟨m,hm⟩:=au (nt v);have he:=wj m;obtain⟨t,ht⟩:=au m.isEmpty;obtain⟨H1,Hm⟩:=aH h1 hm;clear h1 hv;rw[hm];rw[ht]at he;clear hm ht;obtain⟨W,cd,ae,ai⟩:=kF w 43 [ag false,ah l] 43 [ag false,.string ⟨#[]⟩];go_enter Tryz.func216,Tryz.ntmps216;go_wp2_with fail;refine(H1.out _ zo).mono ?_;rintro e w1 ⟨⟨y,rfl,hy⟩,ak⟩;obtain⟨ae,ai⟩:=qX ak ae;have Hy:=aj hy;clear hy;go_wp2_with fail;refine aK ae (ze y _ _ _ hb Hy.out) λw2 ae ai=>?_;rw[Hm.out];go_wp2;refine dI (aN w2 (w.heap.size+1) 0 [ag (false),ah m]) aR ?_;intro w9 hs0;have ae:=bC hs0 ae;simp only[bD,List.set]at ae;have ai:=qC ae;refine bodyPost_ret (v:=.agg #[ag (false),ah m]) (by simp[results,Tryz.results216,go_sem,ai]) rfl ⟨rfl,ae.1.out⟩
def aul (l:List UInt8)(w:World)(hl:l.length<=68719476736):
 Cv 216 #[.agg #[ag true,ah l]] w (.agg #[ag (!(nt (nv l)).isEmpty),ah (nt (nv l))]):=by
 have hb:=Nat.le_trans (im (rQ l)) (show 8*l.length<=1099511627776 by omega);have h1:=ul l;obtain⟨v,hv⟩:=au (nv l);rw[hv]at hb⊢;simp only[hv]at h1;obtain⟨m,hm⟩:=au (nt v);have he:=wj m;obtain⟨t,ht⟩:=au m.isEmpty;obtain⟨H1,Hm⟩:=aH h1 hm;clear h1 hv;rw[hm,ht];rw[ht]at he;clear hm ht;obtain⟨W,cd,ae,ai⟩:=kF w 43 [ag true,ah l] 43 [ag false,.string ⟨#[]⟩];go_enter Tryz.func216,Tryz.ntmps216;go_wp2_with fail;refine(H1.out _ zo).mono ?_;rintro e w1 ⟨⟨y,rfl,hy⟩,ak⟩;obtain⟨ae,ai⟩:=qX ak ae;have Hy:=aj hy;clear hy;go_wp2_with fail;refine aK ae (ze y _ _ _ hb Hy.out) λw2 ae ai=>?_;rw[Hm.out];go_wp2;refine dI (aN w2 (w.heap.size+1) 0 [ag (!t),ah m]) aR ?_;intro w9 hs0;have ae:=bC hs0 ae;simp only[bD,List.set]at ae;have ai:=qC ae;refine bodyPost_ret (v:=.agg #[ag (!t),ah m]) (by simp[results,Tryz.results216,go_sem,ai]) rfl ⟨rfl,ae.1.out⟩
def Jr (s:Bool)(l:List UInt8)(w:World)(hl:l.length<=68719476736):
 Cv 216 #[.agg #[ag s,ah l]] w (.agg #[ag (s&& !(nt (nv l)).isEmpty),ah (nt (nv l))]):=by
 cases s
 . exact auk l w hl
 . exact aul l w hl
def aff (n:Nat)(w:World)(hn:n<=9223372036854775807):
 Cv 135 #[af (n:Int)] w (.agg #[ag false,ah (nt n)]):=by
 have h1:=λW=>afg n W (by rw[jr];omega);have H1:=aj h1;clear h1;have hw:IntKind.u64.wrap (n:Int)=(n:Int):=by rw[IntKind.wrap_u64];omega
 obtain⟨m,hm⟩:=au (nt n);rw[hm];have Hm:=aj hm;clear hm;obtain⟨W,cd,ae,ai⟩:=fJ w 43 [ag false,.string ⟨#[]⟩];go_enter Tryz.func135,Tryz.ntmps135;go_wp2_with fail;refine aK ae (H1.out _) λw1 ae ai=>?_;rw[Hm.out];go_wp2;refine dI (aN w1 (w.heap.size) 0 [ag false,ah m]) aR ?_;intro w9 hs0;have ae:=bC hs0 ae;simp only[bD,List.set]at ae;have ai:=qC ae;refine bodyPost_ret (v:=.agg #[ag false,ah m]) (by simp[results,Tryz.results135,go_sem,ai]) rfl ⟨rfl,ae.1.out⟩
def afd (l:List UInt8)(w:World)(hl:l.length<=68719476736):
 Cv 219 #[ah l] w (af (bF (nv l):Int)):=by
 go_enter Tryz.func219,Tryz.ntmps219;go_wp2_with fail;refine(ul l w hl).mono ?_;rintro e w1 ⟨⟨y,rfl,hy⟩,ak⟩;obtain⟨a,cap,rfl⟩:=hy.len;have Hb:=aj ak;clear hy ak;go_wp2;go_ret;exact⟨rfl,Hb.out⟩
def afk (s:Bool)(l:List UInt8)(w:World)(hl:l.length<=68719476736)(h0:nv l=0):
 Cv 137 #[.agg #[ag s,ah l]] w (af 0):=by
 have h1:=afd l;rw[h0]at h1;have H1:=aj h1;clear h1 h0;obtain⟨W,cd,ae,ai⟩:=fJ w 43 [ag s,ah l];go_enter Tryz.func137,Tryz.ntmps137;go_wp2_with fail;refine aK ae (H1.out _ hl) λw1 ae ai=>?_;rw[ak6];go_wp2;go_ret;exact⟨rfl,ae.1.out⟩
def aun (s:Bool)(n:Nat)(w:World)(h0:0<n)(hl:(nt (2*n)).length<=68719476736):
 Cv 217 #[.agg #[ag s,ah (nt (2*n))],.agg #[ag false,ah (nt 2)]] w (.tuple #[.agg #[ag s,ah (nt n)],.agg #[ag false,.string (bs [])],ag true]):=by
 have hd:=λW=>aug (nt (2*n)) (nt 2) W hl zd (by rw[jl];decide);simp only[jl]at hd;have e1:2*n/2=n:=by omega
 have e2:2*n%2=0:=by omega
 rw[e1,e2,BJ]at hd;have SX:(nt n).length<=68719476736:=Nat.le_trans (kC (Nat.lt_of_le_of_lt (show n<=2*n by omega) (arC (2*n)))) hl;have hf:=λW=>Jr s (nt n) W SX;have hg:=λW=>Jr s [] W zd;have hs:=λW=>afk false [] W zd rfl;simp only[jl,yU,BJ,List.isEmpty_nil,Bool.not_true,Bool.and_false]at hf hg;have e3:(nt n).isEmpty=false:=by
  have:=Nf h0;cases h:nt n with
  |nil=>exact absurd h this
  |cons a b=>rfl
 rw[e3]at hf;simp only[Bool.not_false,Bool.and_true]at hf;generalize nt (2*n)=L at*;generalize nt n=M at*;generalize nt 2=T at*;obtain⟨Hd,Hf,Hg,Hs⟩:=cG hd hf hg hs;clear hd hf hg hs e1 e2 e3 hl SX;have hne:(s !=false)=s:=by cases s<;>rfl
 obtain⟨W,cd,ae,ai⟩:=Jp w 43 [ag s,ah L] 43 [ag false,ah T] 43 [ag false,.string ⟨#[]⟩] 43 [ag false,.string ⟨#[]⟩];go_enter Tryz.func217,Tryz.ntmps217;go_wp2_with fail;refine aK ae (Hd.out _) λw1 ae ai=>?_;go_wp2_with fail;refine aK ae (Hf.out _) λw2 ae ai=>?_;obtain⟨W2,ke,aG,ae,ai⟩:=bO w2 ae 43 [ag s,ah M];go_wp2_with fail;refine aK ae (Hg.out _) λw3 ae ai=>?_;obtain⟨W3,Di,aG,ae,ai⟩:=bO w3 ae 43 [ag false,.string (bs [])];go_wp2_with fail;refine aK ae (Hs.out _) λw4 ae ai=>?_;go_wp2_with fail;have lp:=ae.2.2.2.2.2.1.out.lt;have lq:=ae.2.2.2.2.2.2.1.out.lt;obtain⟨Hv,Hu,Hb,Hx,Hy,Hp,Hq,_⟩:=ae;obtain⟨x0,x1⟩:=Hx.out.c2;obtain⟨y0,y1⟩:=Hy.out.c2;obtain⟨p0,fp0,p1,fp1⟩:=Hp.out.g2;obtain⟨q0,jv,q1,kd⟩:=Hq.out.g2;obtain⟨u0,u1⟩:=Hu.out.c2;obtain⟨v0,v1⟩:=Hv.out.c2;refine fx (λw'=>aJ w' (w2.heap.size) 0 (ag s)/\aJ w' (w2.heap.size) 1 (ah M)/\aJ w' (w3.heap.size) 0 (ag false)/\aJ w' (w3.heap.size) 1 (.string (bs []))) (λi=>Nat.blt i 3) [(0,true),(1,true),(2,false),(3,false),(4,false)] zk zk rfl zk zc ⟨u0,u1,v0,v1⟩ ?_;iterate 2 (refine pT rfl rfl ?_ (by intro w' ⟨q0,q1,q2,q3⟩;go_simp;try with_reducible rfl))
 refine aO rfl rfl (λK hK=>?_);go_simp;refine hK _ _ (λ_=>⟨(aC zf (aC zf u0)),(aC zf (aC zf u1)),(aC zf (aC zf v0)),(aC zf (aC zf v1))⟩) ?_
 refine cg (aN w4 (w.heap.size+1+1) 0 [ag s,ah M]) aR ?_;intro w5 hs;replace Hx:=kS Hx hs zo;replace Hy:=kS Hy hs zo;replace Hp:=rO Hp hs;replace Hq:=kS Hq hs zo;replace Hu:=kS Hu hs zo;replace Hv:=kS Hv hs zo;obtain⟨x0,x1⟩:=Hx.out.c2;obtain⟨y0,y1⟩:=Hy.out.c2;obtain⟨p0,fp0,p1,fp1⟩:=Hp.out.g2;obtain⟨q0,jv,q1,kd⟩:=Hq.out.g2;obtain⟨u0,u1⟩:=Hu.out.c2;obtain⟨v0,v1⟩:=Hv.out.c2;replace Hb:=bS Hb hs ZS;clear hs;refine aO rfl rfl (λK hK=>?_);go_simp;refine hK _ _ (λh=>absurd h zd) ?_
 refine cg (aN w5 (w.heap.size+1+1+1) 0 [ag false,.string (bs [])]) aR ?_;intro w6 hs;replace Hx:=kS Hx hs zo;replace Hy:=kS Hy hs zo;replace Hp:=kS Hp hs zo;replace Hq:=rO Hq hs;replace Hu:=kS Hu hs zo;replace Hv:=kS Hv hs zo;obtain⟨x0,x1⟩:=Hx.out.c2;obtain⟨y0,y1⟩:=Hy.out.c2;obtain⟨p0,fp0,p1,fp1⟩:=Hp.out.g2;obtain⟨q0,jv,q1,kd⟩:=Hq.out.g2;obtain⟨u0,u1⟩:=Hu.out.c2;obtain⟨v0,v1⟩:=Hv.out.c2;replace Hb:=bS Hb hs ZS;clear hs;refine aO rfl rfl (λK hK=>?_);go_simp;refine hK _ _ (λh=>absurd h zd) ?_
 simp only[bH];go_wp2;refine bodyPost_ret (v:=.tuple #[.agg #[ag s,ah M],.agg #[ag false,.string (bs [])],ag true]) (by simp[results,Tryz.results217,go_sem,p0,p1,q0,q1]) rfl ⟨rfl,Hb.out⟩
def cc (v u k:Nat):Nat:=(v%2^k+u%2^k)/2^k
def alG (v u:Nat):cc v u 0=0:=by simp[cc,Nat.mod_one]
def alE (v u k:Nat):cc v u k<=1:=by unfold cc;have h:0<2^k:=Nat.pow_pos zd;have h1:=Nat.mod_lt v h;have h2:=Nat.mod_lt u h;rw[<-Nat.lt_succ_iff,Nat.div_lt_iff_lt_mul h];omega
def alF (v u k:Nat):bd (v+u) k=(bd v k+bd u k+cc v u k)%2/\cc v u (k+1)=(bd v k+bd u k+cc v u k)/2:=by
 have hM:0<2^k:=Nat.pow_pos zd;have ha:=Nat.mod_lt v hM;have hb:=Nat.mod_lt u hM;have e1:v=2^k* (v/2^k)+v%2^k:=(Nat.div_add_mod v _).symm;have e2:u=2^k* (u/2^k)+u%2^k:=(Nat.div_add_mod u _).symm;have es:(v+u)/2^k=v/2^k+u/2^k+cc v u k:=by
  unfold cc;have:v+u=(v%2^k+u%2^k)+2^k* (v/2^k+u/2^k):=by rw[Nat.mul_add];omega
  rw[this,Nat.add_mul_div_left _ _ hM];omega
 have m1:v%2^(k+1)=v%2^k+2^k*bd v k:=by rw[Nat.pow_succ,Nat.mod_mul];rfl
 have m2:u%2^(k+1)=u%2^k+2^k*bd u k:=by rw[Nat.pow_succ,Nat.mod_mul];rfl
 constructor
 . unfold bd at*;rw[es];omega
 . have e3:cc v u (k+1)=((v%2^k+u%2^k)+2^k* (bd v k+bd u k))/2^k/2:=by rw[Nat.div_div_eq_div_mul,<-Nat.pow_succ];unfold cc;rw[m1,m2,Nat.mul_add];congr 1;omega
   rw[e3,Nat.add_mul_div_left _ _ hM];show(cc v u k+_)/2=_
   congr 1;omega
def akV (u p i:Nat):bd (u*2^p) i=if p<=i then bd u (i-p)else 0:=by
 unfold bd;by_cases h:p<=i
 . rw[if_pos h];obtain⟨j,rfl⟩:∃j,i=p+j:=⟨i-p,by omega⟩;rw[Nat.pow_add,<-Nat.div_div_eq_div_mul,Nat.mul_div_cancel _ (Nat.pow_pos zd),show p+j-p=j by omega]
 . rw[if_neg h];obtain⟨j,rfl⟩:∃j,p=i+1+j:=⟨p-i-1,by omega⟩;rw[show u*2^(i+1+j)=(u*2^j*2) *2^i by rw[Nat.pow_add,Nat.pow_add,Nat.pow_one];simp only[Nat.mul_assoc,Nat.mul_comm,Nat.mul_left_comm],Nat.mul_div_cancel _ (Nat.pow_pos zd)];omega
def afj (x y:Value)(n m v u p:Nat)(w:World)(hx:Bv w x n v)(hy:Bv w y m u)(hn:n<=1099511627775)(hm:m+p<=1099511627775):
 Cl 266 #[x,y,af (p:Int)] w λe w'=>(∃z,e=.returned z/\Bv w' z (max n (m+p)+1) (v+u*2^p))/\Bw w w':=by
 obtain⟨a,cap,ky⟩:=hx.len;obtain⟨a',cap',IU⟩:=hy.len;have iQ:=λW (hW:Bw w W) i (hi:i<=1099511627776)=>Eo x n v i W (hx.below hW) hi zo;have hby:=λW (hW:Bw w W) i (hi:i<=1099511627776)=>Eo y m u i W (hy.below hW) hi zo;obtain⟨L,hL⟩:=au (max n (m+p)+1);obtain⟨U,hU⟩:=au (u*2^p);have rh:Hid (v+U<2^L):=by
  show _<_
  have h1:v<2^(L-1):=Nat.lt_of_lt_of_le hx.1 (Nat.pow_le_pow_right zd zo);have h2:U<2^(L-1):=by rw[<-hU];have h3:u*2^p<2^m*2^p:=Nat.mul_lt_mul_of_pos_right hy.1 (Nat.pow_pos zd);rw[<-Nat.pow_add]at h3;exact Nat.lt_of_lt_of_le h3 (Nat.pow_le_pow_right zd zo)
  rw[show L=L-1+1 by omega,Nat.pow_succ];omega
 have hbU:∀i,bd U i=if p<=i then bd u (i-p)else 0:=λi=>by rw[<-hU];exact akV u p i
 have hLI:max (n:Int) ((m:Int)+(p:Int))+1=(L:Int):=by omega
 have hLb:L<=1099511627776:=by omega
 subst ky;subst IU;have hmk:=xh (L:Int) L rfl zo;rw[hU,hL];obtain⟨EO,EP,HbU⟩:=bM iQ hby hbU;clear iQ hby hx hy hbU hU hL;go_enter Tryz.func266,Tryz.ntmps266;go_wp2_with fail;go_loopw[8,9,10] (λb i _ wr=>∃k:Nat,k<=L/\i=af (k:Int)/\b=.int .u8 (cc v U k:Int)/\ar wr w.heap.size 5 (dt L (λj=>if j<k then bd (v+U) j else 0))/\Bw w wr) (λ_ i _ _=>L-(intOf i).toNat);case atStart=>
  refine⟨0,Nat.zero_le _,rfl,by rw[alG];rfl,?_,zl⟩;have e:dt L (λj=>if j<0 then bd (v+U) j else 0)=dt L λ_=>0:=oD λj hj=>by rw[if_neg zo]
  rw[e];exact ar.new _ _ _
 case round=>
  obtain⟨k,hk,rfl,rfl,hB,hb⟩:=hrel;by_cases hlt:k<L
  . have H1:=aj (EO.out wr hb k zo);obtain⟨hs,hs2⟩:=alF v U k;have hp1:=uJ v k;have hq:=uJ U k;have hr:=alE v U k;have Tx:=HbU.out k;have hcell:wr.cell? ⟨w.heap.size,k,none⟩=some (.int .u8 0):=by rw[hB.cell,nH _ _ _ hlt,if_neg zo];rfl
    have hfree:wr.frozen? ⟨w.heap.size,k,none⟩=false:=hB.free _;have bQ:=hB.set k (.int .u8 ((bd (v+U) k:Nat):Int))
    rw[Et,oD (g:=λj=>if j<k+1 then bd (v+U) j else 0) λj hj=>by
     by_cases e:j=k
     . subst e;rw[if_pos rfl,if_pos zo]
     . rw[if_neg e];by_cases e2:j<k
       . rw[if_pos e2,if_pos zo]
       . rw[if_neg e2,if_neg zo]]at bQ
    obtain⟨eH,Hb⟩:=aH bQ (hb.setCell (p:=⟨w.heap.size,k,none⟩) (Nat.le_refl _) (.int .u8 ((bd (v+U) k:Nat):Int)));have H2:p<=k->Cl 290 #[.slice a' m cap',af ((k-p:Nat):Int)] wr λe w'=>e=.returned (.int .u8 (bd U k:Int))/\wr=w':=λh=>by rw[Tx,if_pos h];exact EP.out wr hb (k-p) zo
    have hq0:¬p<=k->bd U k=0:=λh=>by rw[Tx,if_neg h]
    have aX:=yL L L k (k:Int) (rfl:(some ⟨w.heap.size,0,none⟩:Option Addr)=_) hlt rfl;rw[Nat.mul_one,Nat.zero_add]at aX;clear hB bQ hb Tx;generalize bd v k=P at*;generalize bd U k=q at*;generalize hrr:cc v U k=r at*;generalize bd (v+U) k=z at*;obtain⟨H2,Hq0,sJ⟩:=bM H2 hq0 hs2;clear hq0 hs2 hrr;obtain⟨S,hS⟩:=au (P+q+r);have hS3:S<=3:=by omega
    have hw1:IntKind.u8.wrap ((P:Int)+(r:Int))=(P:Int)+(r:Int):=by rw[IntKind.wrap_u8];omega
    have hw2:IntKind.u8.wrap ((P:Int)+(r:Int)+(q:Int))=(S:Int):=by rw[IntKind.wrap_u8];omega
    have hand:bits .and .u8 (S:Int) 1=(z:Int):=by rw[QD S zo,hs,<-hS]
    obtain⟨HS,Hs⟩:=aH hS hs;clear hS hs;go_wp2_with fail;refine H1.out.mono ?_;rintro e w' ⟨rfl,rfl⟩;by_cases hpk:p<=k
    . have H3:=aj (H2.out hpk);have tP:((k:Int)-(p:Int))=((k-p:Nat):Int):=by omega
      go_wp2_with fail;refine H3.out.mono ?_;rintro e w' ⟨rfl,rfl⟩;go_wp2;go_roundw;case rel=>refine⟨k+1,by omega,by go_num,?_,eH.out,Hb.out⟩;have h1:=sJ.out;have h2:=HS.out;rw[h1];congr 1;omega
      case measure=>exact bi
    . have hq1:=Hq0.out hpk;subst hq1;have hw3:IntKind.u8.wrap ((P:Int)+(r:Int))=(S:Int):=by rw[hw1];have:=HS.out;omega
      clear hw1 hw2;go_wp2;go_roundw;case rel=>refine⟨k+1,by omega,by go_num,?_,eH.out,Hb.out⟩;have h1:=sJ.out;have h2:=HS.out;rw[h1];congr 1;omega
      case measure=>exact bi
  . obtain rfl:k=L:=by omega
    rw[oD (g:=bd (v+U)) λj hj=>by rw[if_pos hj]]at hB;obtain⟨Hz,Hb⟩:=aH (Bv.azW hB rh.out) hb;clear hB hb;go_wp2;go_ret;exact⟨⟨_,rfl,Hz.out⟩,Hb.out⟩
def aue (xs:List (List UInt8))(a:Option Addr)(cap:Nat)(w:World)(hl:∀l∈xs,l.length<=68719476736)(hx:xs.length<=1048576)
 (ha:At w a (xs.map λl=>ah l)):
 Cv 267 #[.slice a xs.length cap] w (ah (nt (gM xs))):=by
 obtain⟨Hl,Ha⟩:=aH hl ha;clear hl ha;go_enter Tryz.func267,Tryz.ntmps267;go_wp2_with fail;go_loopw[3,4] (λz i wr=>∃k n:Nat,k<=xs.length/\n<=549755813888+k/\i=af (k:Int)/\Bv wr z n (gM (xs.take k))/\Bw w wr) (λ_ i _=>xs.length-(intOf i).toNat);case atStart=>exact⟨0,0,Nat.zero_le _,Nat.zero_le _,rfl,⟨by simp[gM],.inl ⟨rfl,rfl⟩⟩,Below.refl _ _⟩
 case round=>
  obtain⟨k,n,hk,hn,rfl,hz,hb⟩:=hrel;by_cases hlt:k<xs.length
  . have hne:(xs.map λl=>Value.string (bs l))≠[]:=by intro h0;have:=congrArg List.length h0;simp at this;subst this;simp at hlt
    obtain⟨b,o,hab,hcs⟩:=(Ha.out.below hb).get hne;have hcell:wr.cell? ⟨b,o+k,none⟩=some (.string (bs xs[k])):=by rw[hcs k (by simpa using hlt)];simp[hlt]
    have aX:=adL xs.length cap k (k:Int) hab hlt rfl;rw[Nat.mul_one]at aX;clear hcs hne;have lI:Hid (xs[k].length<=68719476736):=Hl.out _ (List.getElem_mem hlt);obtain⟨bN,kM⟩:=aH (aeJ xs k hlt) hab;clear hab;generalize xs[k]=x at*;have iQ:bF (nv x)<=549755813888:=Nat.le_trans (im (rQ x)) (by have:=lI.out;omega);obtain⟨Hz,Hb⟩:=aH hz hb;clear hz hb;go_wp2_with fail;refine(ul x _ lI.out).mono ?_;rintro e w1 ⟨⟨y,rfl,hy⟩,hb1⟩;obtain⟨Hy,bI⟩:=aH hy hb1;clear hy hb1;go_wp2_with fail;refine(afj u3 y n (bF (nv x)) (gM (xs.take k)) (nv x) 0 w1 (Hz.out.below bI.out) Hy.out zo zo).mono ?_;rintro e w2 ⟨⟨z,rfl,hz⟩,hb2⟩;obtain⟨bX,bW⟩:=aH hz hb2;clear hz hb2;go_wp2;go_roundw;case rel=>have h:=bX.out;rw[Nat.pow_zero,Nat.mul_one,<-bN.out]at h;exact⟨k+1,_,by omega,by omega,by go_num,h,aF Hb.out (aF bI.out bW.out)⟩
    case measure=>exact bi
  . obtain rfl:k=xs.length:=by omega
    rw[List.take_length]at hz;obtain⟨Hz,Hb⟩:=aH hz hb;clear hz hb;go_wp2_with fail;refine(ze u3 n (gM xs) wr zo Hz.out).mono ?_;rintro e w1 ⟨rfl,hb1⟩;have bI:=aj hb1;clear hb1;go_wp2;go_ret;exact⟨rfl,aF Hb.out bI.out⟩
def ae9 (l m:List UInt8)(w:World)(hl:l.length<=68719476736)(hm:m.length<=68719476736):
 Cv 291 #[ah l,ah m] w (af (di (nv l) (nv m))):=by
 have hbl:=Nat.le_trans (im (rQ l)) (show 8*l.length<=549755813888 by omega);have hbm:=Nat.le_trans (im (rQ m)) (show 8*m.length<=549755813888 by omega);go_enter Tryz.func291,Tryz.ntmps291;go_wp2_with fail;refine(ul l w hl).mono ?_;rintro e w1 ⟨⟨y,rfl,hy⟩,hb1⟩;obtain⟨Hy,bI⟩:=aH hy hb1;clear hy hb1;go_wp2_with fail;refine(ul m w1 hm).mono ?_;rintro e w2 ⟨⟨z,rfl,hz⟩,hb2⟩;obtain⟨Hz,bW⟩:=aH hz hb2;clear hz hb2;go_wp2_with fail;refine(afa y z _ _ (nv l) (nv m) w2 (Hy.out.below bW.out) Hz.out zo zo).mono ?_;rintro e w' ⟨rfl,rfl⟩;go_wp2;go_ret;exact⟨rfl,aF bI.out bW.out⟩
def Zh (S u:Nat):di S u<0↔S<u:=by
 unfold di;by_cases h1:S<u
 . rw[if_pos h1];omega
 . rw[if_neg h1];by_cases h2:u<S
   . rw[if_pos h2];omega
   . rw[if_neg h2];omega
def auC (l m:List UInt8)(w:World)(hl:l.length<=68719476736)(hm:m.length<=68719476736)(h:nv l<nv m):
 Cv 268 #[ah l,ah m] w (.tuple #[.string ⟨#[]⟩,ag false]):=by
 have hc:=(Zh (nv l) (nv m)).2 h;have H1:=aj (ae9 l m w hl hm);clear h;generalize di (nv l) (nv m)=c at*;go_enter Tryz.func268,Tryz.ntmps268;go_wp2_with fail;refine H1.out.mono ?_;rintro e w1 ⟨rfl,hb1⟩;have bI:=aj hb1;clear hb1;go_wp2;go_ret2
 exact⟨rfl,bI.out⟩
def afl (l m:List UInt8)(w:World)(hl:l.length<=68719476736)(hm:m.length<=68719476736)(h:nv m<=nv l):
 Cv 268 #[ah l,ah m] w (.tuple #[ah (nt (nv l-nv m)),ag true]):=by
 have hc:¬di (nv l) (nv m)<0:=λh2=>by have:=(Zh (nv l) (nv m)).1 h2;omega
 have hbl:=Nat.le_trans (im (rQ l)) (show 8*l.length<=549755813888 by omega);have hbm:=Nat.le_trans (im (rQ m)) (show 8*m.length<=549755813888 by omega);obtain⟨H1,H2,H3⟩:=bM (ae9 l m w hl hm) (λW=>ul l W hl) (λW=>ul m W hm);generalize di (nv l) (nv m)=c at*;go_enter Tryz.func268,Tryz.ntmps268;go_wp2_with fail;refine H1.out.mono ?_;rintro e w1 ⟨rfl,hb1⟩;have bI:=aj hb1;clear hb1;go_wp2_with fail;refine(H2.out w1).mono ?_;rintro e w2 ⟨⟨y,rfl,hy⟩,hb2⟩;obtain⟨Hy,bW⟩:=aH hy hb2;clear hy hb2;go_wp2_with fail;refine(H3.out w2).mono ?_;rintro e w3 ⟨⟨z,rfl,hz⟩,hb3⟩;obtain⟨Hz,dW⟩:=aH hz hb3;clear hz hb3;go_wp2_with fail;refine(afe y z _ _ (nv l) (nv m) w3 (Hy.out.below dW.out) Hz.out zo zo h).mono ?_;rintro e w4 ⟨⟨d,rfl,hd,_⟩,hb4⟩;obtain⟨Hd,qW⟩:=aH hd hb4;clear hd hb4;go_wp2_with fail;refine(ze d _ (nv l-nv m) w4 zo Hd.out).mono ?_;rintro e w5 ⟨rfl,dv⟩;have eu:=aj dv;clear dv;go_wp2;go_ret2
 exact⟨rfl,aF bI.out (aF bW.out (aF dW.out (aF qW.out eu.out)))⟩
def Nl (s:Bool)(l:List UInt8)(Z:Int)(hZ:iv s l=Z)(w:World)(hl:l.length<=68719476736):
 Cv 216 #[.agg #[ag s,ah l]] w (.agg #[ag (az Z),ah (nt Z.natAbs)]):=by
 have h:=Jr s l w hl;rw[<-TZ,<-uf s l,hZ]at h;exact h
def auB (s:Bool)(l:List UInt8)(w:World)(hl:l.length<=68719476736):
 Cv 137 #[.agg #[ag s,ah l]] w (af (eF (iv s l))):=by
 by_cases h0:nv l=0
 . have e:eF (iv s l)=0:=by unfold iv;rw[h0];cases s<;>rfl
   rw[e];exact afk s l w hl h0
 . have h1:=afd l;have hbp:=FV (v:=nv l) zo;have e:eF (iv s l)=if s then-1 else 1:=by unfold iv eF;cases s<;>simp<;>omega
   rw[e];generalize bF (nv l)=B at*;have hB:((B:Int)==0)=false:=by simp;omega
   have H1:=aj h1;clear h1 e h0;obtain⟨W,cd,ae,ai⟩:=fJ w 43 [ag s,ah l];go_enter Tryz.func137,Tryz.ntmps137;go_wp2_with fail;refine aK ae (H1.out _ hl) λw1 ae ai=>?_;cases s with
   |false=>go_wp2;go_ret;exact⟨rfl,ae.1.out⟩
   |true=>go_wp2;go_ret;exact⟨rfl,ae.1.out⟩
def aux (s:Bool)(l m:List UInt8)(Z:Int)(hZ:iv s l+iv s m=Z)(w:World)(hl:l.length<=1048576)(hm:m.length<=1048576):
 Cv 222 #[.agg #[ag s,ah l],.agg #[ag s,ah m]] w (.agg #[ag (az Z),ah (nt Z.natAbs)]):=by
 have es:gM [l,m]=nv l+nv m:=by simp[gM]
 have ha:∀W b,At W (some ⟨b,0,none⟩) [ah l,ah m]->Cv 267 #[.slice (some ⟨b,0,none⟩) 2 2] W (ah (nt (nv l+nv m))):=by intro W b h;rw[<-es];exact aue [l,m] (some ⟨b,0,none⟩) 2 W (by intro x hx;simp at hx;rcases hx with rfl|rfl<;>omega) (by show 2<=1048576;decide) h
 have hlen:(nt (nv l+nv m)).length<=68719476736:=by have h1:=ia l;have h2:=ia m;obtain⟨N,hN⟩:=au (max l.length m.length);refine Nat.le_trans (kC (k:=N+1) ?_) zo;have h3:256^l.length<=256^N:=Nat.pow_le_pow_right zd zo;have h4:256^m.length<=256^N:=Nat.pow_le_pow_right zd zo;rw[Nat.pow_succ];omega
 have hf:=λW=>Nl s (nt (nv l+nv m)) Z (by rw[<-hZ,rN];unfold iv;cases s<;>simp<;>omega) W hlen;obtain⟨Ha,Hf⟩:=aH ha hf;clear ha hf hlen es hZ;generalize nt (nv l+nv m)=S at*;obtain⟨W,cd,ae,ai⟩:=za w 43 [ag s,ah l] 43 [ag s,ah m] 43 [ag false,.string ⟨#[]⟩];go_enter Tryz.func222,Tryz.ntmps222;go_wp2_with fail;refine cQ 10 ae (cJ 11 0x1412110e0c0b0907050301) ?_;refine bo ?_;refine nC 9 [ah l,ah m] ae λW1 aG ae=>?_;refine bP ae (Ha.out _ _ (At.azW ae.1.out)) λw2 ae=>?_;refine bo ?_;refine bP ae (Hf.out _) λw3 ae=>?_;have ai:=qC ae;refine qOp λK hK=>?_;go_simp;refine hK _ _ (λh=>absurd h zd) ?_
 refine cg (aN w3 (w.heap.size+1+1) 0 [ag (az Z),ah (nt Z.natAbs)]) aR ?_;intro w4 hs0;have ae:=bC hs0 ae;simp only[bD,List.set]at ae;have ai:=qC ae;refine cP ae λai=>?_;have Hb:=ae.2.1;have r0:w4.cell? ⟨w.heap.size+1+1,0,none⟩=some (ag (az Z)):=ae.2.2.2.2.1.out.cell 0;have r1:w4.cell? ⟨w.heap.size+1+1,1,none⟩=some (ah (nt Z.natAbs)):=ae.2.2.2.2.1.out.cell 1;go_wp2;exact bodyPost_ret (v:=.agg #[ag (az Z),ah (nt Z.natAbs)]) (by simp[results,Tryz.results222,go_sem,r0,r1,ai]) rfl ⟨rfl,cK⟩
def auv (s:Bool)(l m:List UInt8)(Z:Int)(hZ:iv s l+iv (!s) m=Z)(h:nv m<=nv l)(w:World)(hl:l.length<=1048576)(hm:m.length<=1048576):
 Cv 222 #[.agg #[ag s,ah l],.agg #[ag (!s),ah m]] w (.agg #[ag (az Z),ah (nt Z.natAbs)]):=by
 have ha:=λW=>afl l m W zo zo h;have hlen:(nt (nv l-nv m)).length<=68719476736:=by have h1:=ia l;refine Nat.le_trans (kC (k:=l.length) zo) zo
 have hf:=λW=>Nl s (nt (nv l-nv m)) Z (by rw[<-hZ,rN];unfold iv;cases s<;>simp<;>omega) W hlen;obtain⟨Ha,Hf⟩:=aH ha hf;clear ha hf hlen hZ h;generalize nt (nv l-nv m)=S at*;have hne:(s== !s)=false:=by cases s<;>rfl
 obtain⟨t,ht⟩:=au (!s);rw[ht]at hne⊢;obtain⟨W,cd,ae,ai⟩:=za w 43 [ag s,ah l] 43 [ag t,ah m] 43 [ag false,.string ⟨#[]⟩];go_enter Tryz.func222,Tryz.ntmps222;go_wp2_with fail;refine aK ae (Ha.out _) λw1 ae ai=>?_;go_wp2_with fail;refine aK ae (Hf.out _) λw2 ae ai=>?_;go_wp2;refine dI (aN w2 (w.heap.size+1+1) 0 [ag (az Z),ah (nt Z.natAbs)]) aR ?_;intro w9 hs0;have ae:=bC hs0 ae;simp only[bD,List.set]at ae;have ai:=qC ae;refine bodyPost_ret (v:=.agg #[ag (az Z),ah (nt Z.natAbs)]) (by simp[results,Tryz.results222,go_sem,ai]) rfl ⟨rfl,ae.1.out⟩
def auw (s:Bool)(l m:List UInt8)(Z:Int)(hZ:iv s l+iv (!s) m=Z)(h:nv l<nv m)(w:World)(hl:l.length<=1048576)(hm:m.length<=1048576):
 Cv 222 #[.agg #[ag s,ah l],.agg #[ag (!s),ah m]] w (.agg #[ag (az Z),ah (nt Z.natAbs)]):=by
 have ha:=λW=>auC l m W zo zo h;have hb:=λW=>afl m l W zo zo (Nat.le_of_lt h);have hlen:(nt (nv m-nv l)).length<=68719476736:=by have h1:=ia m;refine Nat.le_trans (kC (k:=m.length) zo) zo
 have hf:=λW=>Nl (!s) (nt (nv m-nv l)) Z (by rw[<-hZ,rN];unfold iv;cases s<;>simp<;>omega) W hlen;obtain⟨Ha,Hs,Hf⟩:=bM ha hb hf;clear ha hb hf hlen hZ h;generalize nt (nv m-nv l)=S at*;have hne:(s== !s)=false:=by cases s<;>rfl
 obtain⟨t,ht⟩:=au (!s);rw[ht]at hne Hf⊢;obtain⟨W,cd,ae,ai⟩:=za w 43 [ag s,ah l] 43 [ag t,ah m] 43 [ag false,.string ⟨#[]⟩];go_enter Tryz.func222,Tryz.ntmps222;go_wp2_with fail;refine aK ae (Ha.out _) λw1 ae ai=>?_;go_wp2_with fail;refine aK ae (Hs.out _) λw2 ae ai=>?_;go_wp2_with fail;refine aK ae (Hf.out _) λw3 ae ai=>?_;go_wp2;refine dI (aN w3 (w.heap.size+1+1) 0 [ag (az Z),ah (nt Z.natAbs)]) aR ?_;intro w9 hs0;have ae:=bC hs0 ae;simp only[bD,List.set]at ae;have ai:=qC ae;refine bodyPost_ret (v:=.agg #[ag (az Z),ah (nt Z.natAbs)]) (by simp[results,Tryz.results222,go_sem,ai]) rfl ⟨rfl,ae.1.out⟩
def aut (s:Bool)(l:List UInt8)(t:Bool)(m:List UInt8)(Z:Int)(hZ:iv s l+iv t m=Z)(w:World)(hl:l.length<=1048576)(hm:m.length<=1048576):
 Cv 222 #[.agg #[ag s,ah l],.agg #[ag t,ah m]] w (.agg #[ag (az Z),ah (nt Z.natAbs)]):=by
 by_cases h:s=t
 . subst h;exact aux s l m Z hZ w hl hm
 . obtain rfl:t= !s:=by cases s<;>cases t<;>simp_all
   by_cases h2:nv l<nv m
   . exact auw s l m Z hZ h2 w hl hm
   . exact auv s l m Z hZ zo w hl hm
def auA (l:List UInt8)(p:Nat)(w:World)(hl:l.length<=68719476736)(hp:p<=274877906944):
 Cv 269 #[ah l,af (p:Int)] w (ah (nt (nv l*2^p))):=by
 have iQ:bF (nv l)<=549755813888:=Nat.le_trans (im (rQ l)) zo;have hmx:max (p:Int) 0=(p:Int):=by omega
 have Hb:=hbz w;go_enter Tryz.func269,Tryz.ntmps269;go_wp2_with fail;refine(ul l _ hl).mono ?_;rintro e w1 ⟨⟨y,rfl,hy⟩,hb1⟩;obtain⟨Hy,bI⟩:=aH hy hb1;clear hy hb1;go_wp2_with fail;refine(afj (.slice none 0 0) y 0 (bF (nv l)) 0 (nv l) p w1 ⟨by simp,.inl ⟨rfl,rfl⟩⟩ Hy.out zo zo).mono ?_;rintro e w2 ⟨⟨z,rfl,hz⟩,hb2⟩;rw[Nat.zero_add]at hz;obtain⟨Hz,bW⟩:=aH hz hb2;clear hz hb2;go_wp2_with fail;refine(ze z _ (nv l*2^p) w2 zo Hz.out).mono ?_;rintro e w3 ⟨rfl,hb3⟩;have dW:=aj hb3;clear hb3;go_wp2;go_ret;exact⟨rfl,aF bI.out (aF bW.out dW.out)⟩
def aeL (l:List UInt8)(p:Nat):(nt (nv l*2^p)).length<=l.length+p:=by refine kC ?_;rw[Nat.pow_add];have h1:=ia l;have h2:2^p<=256^p:=Nat.pow_le_pow_left zd p;exact Nat.mul_lt_mul_of_lt_of_le h1 h2 (Nat.pow_pos zd)
def auz (s:Bool)(l:List UInt8)(p:Nat)(Z:Int)(hZ:iv s l*2^p=Z)(w:World)(hl:l.length<=1048576)(hp:p<=1073741824):
 Cv 223 #[.agg #[ag s,ah l],af (p:Int)] w (.agg #[ag (az Z),ah (nt Z.natAbs)]):=by
 have hf:=λW=>Nl s (nt (nv l*2^p)) Z (by rw[<-hZ,rN];unfold iv;cases s<;>simp[Int.neg_mul]) W (by have:=aeL l p;omega);have hsh:=λW=>auA l p W zo zo;have hp0:(0:Int)<=(p:Int):=by omega
 have hp1:decide ((p:Int)≥0)=true:=by simp
 obtain⟨Hf,Hm⟩:=aH hf hsh;clear hf hsh hZ;generalize Z.natAbs=Y at*;generalize az Z=v at*;generalize nt (nv l*2^p)=S at*;obtain⟨W,cd,ae,ai⟩:=kF w 43 [ag s,ah l] 43 [ag false,.string ⟨#[]⟩];go_enter Tryz.func223,Tryz.ntmps223;go_wp2_with fail;refine cQ 8 ae (cJ 9 0x100e0d0a0907050301) ?_;refine bo ?_;refine bP ae (Hm.out _) λw1 ae=>?_;refine bo ?_;refine bP ae (Hf.out _) λw2 ae=>?_;have ai:=qC ae;refine qOp λK hK=>?_;go_simp;refine hK _ _ (λh=>absurd h zd) ?_
 refine cg (aN w2 (w.heap.size+1) 0 [ag v,ah (nt Y)]) aR ?_;intro w9 hs0;have ae:=bC hs0 ae;simp only[bD,List.set]at ae;have ai:=qC ae;refine cP ae λai=>?_;have Hb:=ae.1;have r0:w9.cell? ⟨w.heap.size+1,0,none⟩=some (ag v):=ae.2.2.1.out.cell 0;have r1:w9.cell? ⟨w.heap.size+1,1,none⟩=some (ah (nt Y)):=ae.2.2.1.out.cell 1;go_wp2;exact bodyPost_ret (v:=.agg #[ag v,ah (nt Y)]) (by simp[results,Tryz.results223,go_sem,r0,r1,ai]) rfl ⟨rfl,cK⟩
end Go.Proofs.YtpfgffadgkkedaaGreatDoor
