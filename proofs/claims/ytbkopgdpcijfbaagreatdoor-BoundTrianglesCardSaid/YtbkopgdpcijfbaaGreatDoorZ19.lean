/- Package ogeeref01: Div. -/
import Derived.Test.YtbkopgdpcijfbaaGreatDoorZ12
import Derived.Laws.AppendOwnNone
import Derived.Test.YtbkopgdpcijfbaaGreatDoorZ7
set_option linter.all false
set_option maxRecDepth 100000
set_option maxHeartbeats 16000000
namespace Go.Proofs.YtbkopgdpcijfbaaGreatDoor
open Go.RowKit
attribute [local go_sem ↓] Go.wp_at_zero Go.wp_at_succ
def apc (r c:Nat)(hc:c<=1):bd (2*r+c) 0=c/\∀j,bd (2*r+c) (j+1)=bd r j:=by unfold bd;refine⟨by simp;omega,λj=>?_⟩;rw[Nat.pow_succ',<-Nat.div_div_eq_div_mul,show(2*r+c)/2=r by omega]
def ajJ (n r c:Nat)(hc:c<=1):[.int .u8 (c:Int)]++cM n (bd r)=cM (1+n) (bd (2*r+c)):=by
 obtain⟨h0,h1⟩:=apc r c hc;apply List.ext_getElem?;intro j;cases j with
 |zero=>rw[oJ _ _ _ zo,h0];rfl
 | succ j=>
   rw[List.getElem?_append_right zm];simp only[List.length_singleton,Nat.add_sub_cancel];by_cases hj:j<n
   . rw[oJ _ _ _ hj,oJ _ _ _ zo,h1]
   . rw[List.getElem?_eq_none (by rw[Db];omega),List.getElem?_eq_none (by rw[Db];omega)]
def axA (W:World)(base:Nat)(e:TypeId)(x:Value)(hb:base<=W.heap.size):(W.alloc (.cells #[x] e)).ownsRow base e 1 (.slice (some ⟨W.heap.size,0,none⟩) 1 1) 1 [x]:=
 ⟨rfl,.inr ⟨W.heap.size,1,#[x],rfl,hb,heap_alloc_new W _,Nat.le_refl _,by simp[maxLen],rfl,rfl⟩⟩
def abU (S u:Nat):(0<=dx S u)↔u<=S:=by
 unfold dx;by_cases h1:S<u
 . rw[if_pos h1];omega
 . rw[if_neg h1];by_cases h2:u<S
   . rw[if_pos h2];omega
   . rw[if_neg h2];omega
def Bv.cells {w:World}{x:Value}{n v:Nat}(h:Bv w x n v)(hn:0<n):∃b o cap,x=.slice (some ⟨b,o,none⟩) n cap/\∀j,j<n->w.cell? ⟨b,o+j,none⟩=some (.int .u8 (bd v j:Int)):=by
 rcases h.2 with⟨_,h2⟩ |⟨b,o,cap,h1,_,h3⟩
 . omega
 . exact⟨b,o,cap,h1,h3⟩
def Bv.aGq {w:World}{x:Value}{n v:Nat}(h:Bv w x n v){a:Addr}(hne:∀b o n c,x=.slice (some ⟨b,o,none⟩) n c->b≠a.block)(y:Value):Bv (w.setCell a y) x n v:=by
 refine⟨h.1,?_⟩;rcases h.2 with h|⟨b,o,cap,e,h1,hc⟩
 . exact .inl h
 . exact .inr ⟨b,o,cap,e,h1,λj hj=>gZ (hne b o n cap e) (hc j hj)⟩
def aBx {ops:Array Oper}{rest:List Oper}{o:Oper}{a:Act}{Q:Exit->Act->World->Prop}(hgd:o.guard=none)(s x:Operand)
 (ho:o.op=.call {callee:=.builtin .append,args:=#[s,x],argTypes:=#[172,172]}) (W:World) (z:Value) (n r c:Nat) (hc:c<=1) (hn:n<=1099511627776) (hz:Bv W z n r)
 (hs:a.eval s=.slice (some ⟨W.heap.size,0,none⟩) 1 1) (hx:a.eval x=z)
 (h:∀v' w',Bv w' v' (1+n) (2*r+c)->Ii v' W.heap.size->Bw W w'->wpList Tryz.prog ops Q rest (a.put o.dst v') w'):wpList Tryz.prog ops Q (o::rest) a (W.alloc (.cells #[.int .u8 (c:Int)] 5)):=by
 obtain⟨i0,hi,hz0,hz1,hz2⟩:=info_parts Tryz.aGw;have hlt:2*r+c<2^(1+n):=by have:=hz.1;rw[Nat.add_comm 1 n,Nat.pow_succ];omega
 have hone:=axA W W.heap.size 5 (.int .u8 (c:Int)) (Nat.le_refl _);have hb0:Bw W (W.alloc (.cells #[.int .u8 (c:Int)] 5)):=zl;rcases hz.2 with⟨rfl,rfl⟩ |⟨b,oo,cap,rfl,h1,hcs⟩
 . refine wpList_append_own_none hgd s x 172 ho W.heap.size 5 i0 1 Tryz.underlying172 hi _ 1 _ hs hone hx ?_;refine h _ _ (Bv.aGy (base:=W.heap.size) (e:=5) ?_ hlt) (λb o n c e=>by cases e;exact Nat.le_refl _) hb0;rw[<-ajJ 0 r c hc];exact hone
 . refine wpList_append_own _ hgd s x 172 ho W.heap.size 5 i0 (.int .u8 0) 1 1 Tryz.underlying172 hi hz0 hz1 hz2 rfl zd _ 1 _ hs hone ⟨b,oo,none⟩ n cap (cM n (bd r)) hx (by rw[Db,Nat.mul_one]) ?_ ?_ zx zo zm ?_
   . intro j u hj;have wK:j<n:=by
      rcases Nat.lt_or_ge j n with h|h
      . exact h
      . rw[List.getElem?_eq_none (by rw[Db];exact h)]at hj;cases hj
     rw[oJ _ _ _ wK]at hj;cases hj
     have e2:((⟨b,oo,none⟩:Addr).add j)=⟨b,oo+j,none⟩:=by simp[Addr.add]
     rw[e2];exact aU (hcs j wK)
   . intro u hu;unfold cM at hu;rw[List.mem_map]at hu;obtain⟨j,_,rfl⟩:=hu;rfl
   . intro v' w' ho' hg' _;refine h _ _ (Bv.aGy (base:=W.heap.size) (e:=5) ?_ hlt) (λb o n c e=>eo ho' b (by rw[e];rfl)) (hb0.grown hg' zm (λj e=>eo hone j e));rw[<-ajJ n r c hc];exact ho'
def ayF (l m:List UInt8)(w:World)(hl:l.length<=68719476736)(hm:m.length<=68719476736)(h0:0<nv m):
 Cv 259 #[ah l,ah m] w (.tuple #[ah (nt (nv l/nv m)),ah (nt (nv l%nv m)),ag true]):=by
 obtain⟨i0,hi,hz0,hz1,hz2⟩:=info_parts Tryz.aGw;have hL:=Nat.le_trans (kK (Fq l)) (show 8*l.length<=549755813888 by omega);have hU:=Nat.le_trans (kK (Fq m)) (show 8*m.length<=549755813888 by omega);have hb1:=KI l w hl;have hb2:=λW=>KI m W hm;generalize nv l=v at*;generalize nv m=u at*;have hUp:=My h0;have hLt:=uL v;generalize hLe:bQ v=L at*;generalize hUe:bQ u=U at*;obtain⟨H1,H2,tj,Zp⟩:=dv hb1 hb2 hLt hUe;clear hb1 hb2 hLt hLe hUe;have hmk:=yH (L:Int) L rfl zo;have hU0:((U:Int)==0)=false:=by simp;omega
 go_enter Tryz.func259,Tryz.ntmps259;go_wp2_with fail;refine H1.out.mono ?_;rintro e w1 ⟨⟨X,rfl,hX⟩,aez⟩;go_wp2_with fail;refine(H2.out w1).mono ?_;rintro e w2 ⟨⟨Y,rfl,hY⟩,Ey⟩;obtain⟨HX,HY,Hw⟩:=cw (hX.below Ey) hY (aI aez Ey);clear hX hY aez Ey;obtain⟨ax,cx,rfl⟩:=HX.out.len;obtain⟨ay,cy,rfl⟩:=HY.out.len;go_wp2_with fail;go_loopw[10,11] (λz i wr=>∃k:Nat,k<=L/\i=af ((k:Int)-1)/\Bv wr z (bQ (v/2^k%u)) (v/2^k%u)/\Ii z (w2.heap.size+1)/\ar wr w2.heap.size 5 (cM L (λj=>if k<=j then bd (v/u) j else 0))/\Bw w2 wr) (λ_ i _=>(intOf i+1).toNat);case atStart=>
  refine⟨L,Nat.le_refl _,by go_num,?_,(λb o n c e=>by cases e),?_,zl⟩
  . rw[Nat.div_eq_of_lt tj.out,Nat.zero_mod];exact⟨by simp[bQ],.inl ⟨rfl,rfl⟩⟩
  . have e:cM L (λj=>if L<=j then bd (v/u) j else 0)=cM L λ_=>0:=uo λj hj=>by rw[if_neg zo]
    rw[e];exact ar.new _ _ _
 case round=>
  obtain⟨k,hk,rfl,hz,hzl,hB,hb⟩:=hrel;by_cases fN:0<k
  . obtain⟨j,rfl⟩:∃j,k=j+1:=⟨k-1,by omega⟩;obtain⟨r,c,q,e1,e2,e3,e4,e5⟩:=avH v u j h0;have e6:=avG v u j;have hr:r<u:=by rw[<-e1];exact Nat.mod_lt _ h0
    have hc1:c<=1:=by rw[<-e2];exact zI v j
    rw[e1]at hz;rw[e5]at e6;obtain⟨S,hS⟩:=aB (2*r+c);rw[hS]at e4 e6;have vz:bQ r<=549755813888:=Nat.le_trans (abw (Nat.le_of_lt hr)) (by rw[Zp.out];omega);have hSb:bQ S<=549755813889:=by rw[<-hS];exact Nat.le_trans (apj r c hc1) zo
    obtain⟨bx,ox,cx',tZ,lT⟩:=HX.out.cells zo;obtain⟨rfl,rfl⟩:ax=some ⟨bx,ox,none⟩/\cx=cx':=by simp only[Value.slice.injEq]at tZ;exact⟨tZ.1,tZ.2.2⟩
    have hcell:wr.cell? ⟨bx,ox+j,none⟩=some (.int .u8 (c:Int)):=by rw[<-e2];exact cell_later hb (lT j zo)
    have bD:=yw L cx j (j:Int) (rfl:(some ⟨bx,ox,none⟩:Option Addr)=_) zo rfl;rw[Nat.mul_one]at bD;obtain⟨Hz,HB,Hb,LN,LO,HS⟩:=gU hz hB hb e4 e6 hS;have hs0:=hb.size;have VF:=hB.lt;have hj:((j+1:Nat):Int)-1=(j:Int):=by omega
    rw[hj];clear hz hB hb e1 e2 e3 e4 e5 e6 hS tZ lT hj fN;go_wp2_with (first| (at_builtin;refine aBx rfl _ _ rfl _ u10 (bQ r) r c hc1 zo Hz.out rfl rfl ?_;intro v' w3 hv' Ju hb3));rw[HS.out]at hv';obtain⟨Hv',Hl3,fV⟩:=cw hv' Ju hb3;have hs3:=hb3.size;clear hv' Ju hb3 hzl hcell bD;refine(Xv v' (1+bQ r) S w3 zo Hv'.out).mono ?_;rintro e w' ⟨⟨z,rfl,hz,hzl⟩,rfl⟩;obtain⟨dM,Su⟩:=aK hz (hzl _ Hl3.out);clear hz hzl;obtain⟨Zu,lG⟩:=aK (HY.out.below (aI Hb.out fV.out)) (HB.out.below fV.out);go_wp2_with fail;refine(ayE z _ (bQ S) U S u w3 dM.out Zu.out zo zo).mono ?_;rintro e w' ⟨rfl,rfl⟩;by_cases hge:u<=S
    . have hc0:0<=dx S u:=(abU S u).2 hge;generalize dx S u=ci at*;rw[if_pos hge]at LN LO;go_wp2_with fail;refine(ayP z _ (bQ S) U S u w3 dM.out Zu.out zo zo hge).mono ?_;rintro e w4 ⟨⟨t,rfl,ht,htl⟩,hb4⟩;obtain⟨Ht,Ia,vQ⟩:=cw ht htl hb4;clear ht htl hb4;go_wp2_with fail;refine(Xv t (bQ S) (S-u) w4 zo Ht.out).mono ?_;rintro e w' ⟨⟨t2,rfl,ht2,agB⟩,rfl⟩;obtain⟨DV,aaS⟩:=aK ht2 (agB _ Ia.out);clear ht2 agB;have hB4:=lG.out.below vQ.out;have q0:w4.cell? ⟨w2.heap.size,j,none⟩=some (.int .u8 0):=by rw[hB4.cell,oJ _ _ _ zo,if_neg zo];rfl
      have qf:w4.frozen? ⟨w2.heap.size,j,none⟩=false:=hB4.free _;have kv:=yw L L j (j:Int) (rfl:(some ⟨w2.heap.size,0,none⟩:Option Addr)=_) zo rfl;rw[Nat.mul_one,Nat.zero_add]at kv;have TQ:=hB4.set j (.int .u8 ((1:Nat):Int))
      rw[KV,uo (g:=λi=>if j<=i then bd (v/u) i else 0) λi hi=>by
       by_cases e:i=j
       . subst e;rw[if_pos rfl,if_pos (Nat.le_refl _),LO.out];omega
       . rw[if_neg e];by_cases e2:j+1<=i
         . rw[if_pos e2,if_pos zo]
         . rw[if_neg e2,if_neg zo]]at TQ
      have oM:=aj TQ;clear hB4 TQ;go_wp2;go_roundw;case rel=>
       refine⟨j,by omega,by go_num,?_,?_,oM.out,?_⟩
       . rw[LN.out];exact DV.out.aGq (λb o n c e=>by have:=aaS.out b o n c e;dsimp only;omega) _
       . exact λb o n c e=>by have:=aaS.out b o n c e;omega
       . exact(aI (aI Hb.out fV.out) vQ.out).setCell (Nat.le_refl _) _
      case measure=>simp[intOf]
    . have hc0:¬0<=dx S u:=fun h=>hge ((abU S u).1 h);generalize dx S u=ci at*;rw[if_neg hge]at LN LO;have oM:Hid (ar w3 w2.heap.size 5 (cM L (fun i=>if j<=i then bd (v/u) i else 0))):=by
       show ar _ _ _ _
       rw[uo (g:=λi=>if j+1<=i then bd (v/u) i else 0) λi hi=>by
        by_cases e:i=j
        . subst e;rw[if_pos (Nat.le_refl _),if_neg zo,LO.out];omega
        . by_cases e2:j+1<=i
          . rw[if_pos e2,if_pos zo]
          . rw[if_neg e2,if_neg zo]]
       exact lG.out
      go_wp2;go_roundw;case rel=>exact⟨j,by omega,by go_num,by rw[LN.out];exact dM.out,(λb o n c e=>by have:=Su.out b o n c e;omega),oM.out,aI Hb.out fV.out⟩
      case measure=>simp[intOf]
  . obtain rfl:k=0:=by omega
    have hq:v/u<2^L:=Nat.lt_of_le_of_lt (Nat.div_le_self v u) tj.out;rw[uo (g:=bd (v/u)) λj hj=>by rw[if_pos (Nat.zero_le _)]]at hB;have Hq:=aj (Bv.aGr hB hq);have e0:v/2^0%u=v%u:=by simp
    rw[e0]at hz;have vz:bQ (v%u)<=549755813888:=Nat.le_trans (abw (Nat.le_of_lt (Nat.mod_lt v h0))) (by rw[Zp.out];omega);obtain⟨Hz,Hb⟩:=aK hz hb;clear hB hq hz hb e0 hzl;go_wp2_with fail;refine(KL _ L (v/u) wr zo Hq.out).mono ?_;rintro e w3 ⟨rfl,hb3⟩;go_wp2_with fail;refine(KL u10 (bQ (v%u)) (v%u) w3 zo (Hz.out.below hb3)).mono ?_;rintro e w4 ⟨rfl,hb4⟩;have je:=aj (aI Hw.out (aI Hb.out (aI hb3 hb4)));clear hb3 hb4;go_wp2;go_ret3
    exact⟨rfl,je.out⟩
def ayI (l:List UInt8)(w:World)(hl:l.length<=68719476736):
 Cv 204 #[.agg #[ag false,ah l]] w (.agg #[ag (false),ah (nt (nv l))]):=by
 have hb:=Nat.le_trans (kK (Fq l)) (show 8*l.length<=1099511627776 by omega);have h1:=KI l;obtain⟨v,hv⟩:=aB (nv l);rw[hv]at hb⊢;simp only[hv]at h1;obtain⟨m,hm⟩:=aB (nt v);have he:=vZ m;obtain⟨t,ht⟩:=aB m.isEmpty;obtain⟨H1,Hm⟩:=aK h1 hm;clear h1 hv;rw[hm];rw[ht]at he;clear hm ht;obtain⟨W,cE,ae,ak⟩:=lA w 28 [ag false,ah l] 28 [ag false,.string ⟨#[]⟩];go_enter Tryz.func204,Tryz.ntmps204;go_wp2_with fail;refine(H1.out _ zo).mono ?_;rintro e w1 ⟨⟨y,rfl,hy⟩,ai⟩;obtain⟨ae,ak⟩:=qX ai ae;have Hy:=aj hy;clear hy;go_wp2_with fail;refine aJ ae (KL y _ _ _ hb Hy.out) λw2 ae ak=>?_;rw[Hm.out];go_wp2;refine dX (aV w2 (w.heap.size+1) 0 [ag (false),ah m]) aX ?_;intro w9 hs0;have ae:=bU hs0 ae;simp only[bV,List.set]at ae;have ak:=qC ae;refine bodyPost_ret (v:=.agg #[ag (false),ah m]) (by simp[results,Tryz.results204,go_sem,ak]) rfl ⟨rfl,ae.1.out⟩
def ayJ (l:List UInt8)(w:World)(hl:l.length<=68719476736):
 Cv 204 #[.agg #[ag true,ah l]] w (.agg #[ag (!(nt (nv l)).isEmpty),ah (nt (nv l))]):=by
 have hb:=Nat.le_trans (kK (Fq l)) (show 8*l.length<=1099511627776 by omega);have h1:=KI l;obtain⟨v,hv⟩:=aB (nv l);rw[hv]at hb⊢;simp only[hv]at h1;obtain⟨m,hm⟩:=aB (nt v);have he:=vZ m;obtain⟨t,ht⟩:=aB m.isEmpty;obtain⟨H1,Hm⟩:=aK h1 hm;clear h1 hv;rw[hm,ht];rw[ht]at he;clear hm ht;obtain⟨W,cE,ae,ak⟩:=lA w 28 [ag true,ah l] 28 [ag false,.string ⟨#[]⟩];go_enter Tryz.func204,Tryz.ntmps204;go_wp2_with fail;refine(H1.out _ zo).mono ?_;rintro e w1 ⟨⟨y,rfl,hy⟩,ai⟩;obtain⟨ae,ak⟩:=qX ai ae;have Hy:=aj hy;clear hy;go_wp2_with fail;refine aJ ae (KL y _ _ _ hb Hy.out) λw2 ae ak=>?_;rw[Hm.out];go_wp2;refine dX (aV w2 (w.heap.size+1) 0 [ag (!t),ah m]) aX ?_;intro w9 hs0;have ae:=bU hs0 ae;simp only[bV,List.set]at ae;have ak:=qC ae;refine bodyPost_ret (v:=.agg #[ag (!t),ah m]) (by simp[results,Tryz.results204,go_sem,ak]) rfl ⟨rfl,ae.1.out⟩
def PD (s:Bool)(l:List UInt8)(w:World)(hl:l.length<=68719476736):
 Cv 204 #[.agg #[ag s,ah l]] w (.agg #[ag (s&& !(nt (nv l)).isEmpty),ah (nt (nv l))]):=by
 cases s
 . exact ayI l w hl
 . exact ayJ l w hl
def PE (n:Nat)(w:World)(hn:n<=9223372036854775807):
 Cv 47 #[af (n:Int)] w (.agg #[ag false,ah (nt n)]):=by
 have h1:=λW=>ayR n W (by rw[ke];omega);have H1:=aj h1;clear h1;have hw:IntKind.u64.wrap (n:Int)=(n:Int):=by rw[IntKind.wrap_u64];omega
 obtain⟨m,hm⟩:=aB (nt n);rw[hm];have Hm:=aj hm;clear hm;obtain⟨W,cE,ae,ak⟩:=il w 28 [ag false,.string ⟨#[]⟩];go_enter Tryz.func47,Tryz.ntmps47;go_wp2_with fail;refine aJ ae (H1.out _) λw1 ae ak=>?_;rw[Hm.out];go_wp2;refine dX (aV w1 (w.heap.size) 0 [ag false,ah m]) aX ?_;intro w9 hs0;have ae:=bU hs0 ae;simp only[bV,List.set]at ae;have ak:=qC ae;refine bodyPost_ret (v:=.agg #[ag false,ah m]) (by simp[results,Tryz.results47,go_sem,ak]) rfl ⟨rfl,ae.1.out⟩
def ayL (l:List UInt8)(w:World)(hl:l.length<=68719476736):
 Cv 247 #[ah l] w (af (bQ (nv l):Int)):=by
 go_enter Tryz.func247,Tryz.ntmps247;go_wp2_with fail;refine(KI l w hl).mono ?_;rintro e w1 ⟨⟨y,rfl,hy⟩,ai⟩;obtain⟨a,cap,rfl⟩:=hy.len;have Hb:=aj ai;clear hy ai;go_wp2;go_ret;exact⟨rfl,Hb.out⟩
def ay1 (s:Bool)(l:List UInt8)(w:World)(hl:l.length<=68719476736)(h0:nv l=0):
 Cv 185 #[.agg #[ag s,ah l]] w (af 0):=by
 have h1:=ayL l;rw[h0]at h1;have H1:=aj h1;clear h1 h0;obtain⟨W,cE,ae,ak⟩:=il w 28 [ag s,ah l];go_enter Tryz.func185,Tryz.ntmps185;go_wp2_with fail;refine aJ ae (H1.out _ hl) λw1 ae ak=>?_;rw[apk];go_wp2;go_ret;exact⟨rfl,ae.1.out⟩
def ayK (s:Bool)(n:Nat)(w:World)(h0:0<n)(hl:(nt (2*n)).length<=68719476736):
 Cv 205 #[.agg #[ag s,ah (nt (2*n))],.agg #[ag false,ah (nt 2)]] w (.tuple #[.agg #[ag s,ah (nt n)],.agg #[ag false,.string (bs [])],ag true]):=by
 have hd:=λW=>ayF (nt (2*n)) (nt 2) W hl zd (by rw[jP];decide);simp only[jP]at hd;have e1:2*n/2=n:=by omega
 have e2:2*n%2=0:=by omega
 rw[e1,e2,AP]at hd;have Co:(nt n).length<=68719476736:=Nat.le_trans (oz (Nat.lt_of_le_of_lt (show n<=2*n by omega) (avN (2*n)))) hl;have hf:=λW=>PD s (nt n) W Co;have hg:=λW=>PD s [] W zd;have hs:=λW=>ay1 false [] W zd rfl;simp only[jP,AQ,AP,List.isEmpty_nil,Bool.not_true,Bool.and_false]at hf hg;have e3:(nt n).isEmpty=false:=by
  have:=Pb h0;cases h:nt n with
  |nil=>exact absurd h this
  |cons a b=>rfl
 rw[e3]at hf;simp only[Bool.not_false,Bool.and_true]at hf;generalize nt (2*n)=L at*;generalize nt n=M at*;generalize nt 2=T at*;obtain⟨Hd,Hf,Hg,Hs⟩:=dv hd hf hg hs;clear hd hf hg hs e1 e2 e3 hl Co;have hne:(s !=false)=s:=by cases s<;>rfl
 obtain⟨W,cE,ae,ak⟩:=AV w 28 [ag s,ah L] 28 [ag false,ah T] 28 [ag false,.string ⟨#[]⟩] 28 [ag false,.string ⟨#[]⟩];go_enter Tryz.func205,Tryz.ntmps205;go_wp2_with fail;refine aJ ae (Hd.out _) λw1 ae ak=>?_;go_wp2_with fail;refine aJ ae (Hf.out _) λw2 ae ak=>?_;obtain⟨W2,nV,aR,ae,ak⟩:=bX w2 ae 28 [ag s,ah M];go_wp2_with fail;refine aJ ae (Hg.out _) λw3 ae ak=>?_;obtain⟨W3,Uv,aR,ae,ak⟩:=bX w3 ae 28 [ag false,.string (bs [])];go_wp2_with fail;refine aJ ae (Hs.out _) λw4 ae ak=>?_;go_wp2_with fail;have lp:=ae.2.2.2.2.2.1.out.lt;have lq:=ae.2.2.2.2.2.2.1.out.lt;obtain⟨Hv,Hu,Hb,Hx,Hy,Hp,Hq,_⟩:=ae;obtain⟨x0,x1⟩:=Hx.out.c2;obtain⟨y0,y1⟩:=Hy.out.c2;obtain⟨p0,fp0,p1,fp1⟩:=Hp.out.g2;obtain⟨q0,gp,q1,gq⟩:=Hq.out.g2;obtain⟨u0,u1⟩:=Hu.out.c2;obtain⟨v0,v1⟩:=Hv.out.c2;refine fh (λw'=>aH w' (w2.heap.size) 0 (ag s)/\aH w' (w2.heap.size) 1 (ah M)/\aH w' (w3.heap.size) 0 (ag false)/\aH w' (w3.heap.size) 1 (.string (bs []))) (λi=>Nat.blt i 3) [(0,true),(1,true),(2,false),(3,false),(4,false)] zk zk rfl zk zc ⟨u0,u1,v0,v1⟩ ?_;iterate 2 (refine pT rfl rfl ?_ (by intro w' ⟨q0,q1,q2,q3⟩;go_simp;try with_reducible rfl))
 refine aM rfl rfl (λK hK=>?_);go_simp;refine hK _ _ (λ_=>⟨(aF zf (aF zf u0)),(aF zf (aF zf u1)),(aF zf (aF zf v0)),(aF zf (aF zf v1))⟩) ?_
 refine cB (aV w4 (w.heap.size+1+1) 0 [ag s,ah M]) aX ?_;intro w5 hs;replace Hx:=kS Hx hs zo;replace Hy:=kS Hy hs zo;replace Hp:=jJ Hp hs;replace Hq:=kS Hq hs zo;replace Hu:=kS Hu hs zo;replace Hv:=kS Hv hs zo;obtain⟨x0,x1⟩:=Hx.out.c2;obtain⟨y0,y1⟩:=Hy.out.c2;obtain⟨p0,fp0,p1,fp1⟩:=Hp.out.g2;obtain⟨q0,gp,q1,gq⟩:=Hq.out.g2;obtain⟨u0,u1⟩:=Hu.out.c2;obtain⟨v0,v1⟩:=Hv.out.c2;replace Hb:=bS Hb hs ZS;clear hs;refine aM rfl rfl (λK hK=>?_);go_simp;refine hK _ _ (λh=>absurd h zd) ?_
 refine cB (aV w5 (w.heap.size+1+1+1) 0 [ag false,.string (bs [])]) aX ?_;intro w6 hs;replace Hx:=kS Hx hs zo;replace Hy:=kS Hy hs zo;replace Hp:=kS Hp hs zo;replace Hq:=jJ Hq hs;replace Hu:=kS Hu hs zo;replace Hv:=kS Hv hs zo;obtain⟨x0,x1⟩:=Hx.out.c2;obtain⟨y0,y1⟩:=Hy.out.c2;obtain⟨p0,fp0,p1,fp1⟩:=Hp.out.g2;obtain⟨q0,gp,q1,gq⟩:=Hq.out.g2;obtain⟨u0,u1⟩:=Hu.out.c2;obtain⟨v0,v1⟩:=Hv.out.c2;replace Hb:=bS Hb hs ZS;clear hs;refine aM rfl rfl (λK hK=>?_);go_simp;refine hK _ _ (λh=>absurd h zd) ?_
 simp only[bH];go_wp2;refine bodyPost_ret (v:=.tuple #[.agg #[ag s,ah M],.agg #[ag false,.string (bs [])],ag true]) (by simp[results,Tryz.results205,go_sem,p0,p1,q0,q1]) rfl ⟨rfl,Hb.out⟩
def cc (v u k:Nat):Nat:=(v%2^k+u%2^k)/2^k
end Go.Proofs.YtbkopgdpcijfbaaGreatDoor
