/- Package mono: Exps. -/
import Derived.Test.YtnjfebkelecgaaaGreatDoorZ9
import Derived.Test.YtnjfebkelecgaaaGreatDoorZ11
import Derived.Lib.OthersKept
set_option linter.all false
set_option maxRecDepth 100000
set_option maxHeartbeats 16000000
namespace Go.Proofs.YtnjfebkelecgaaaGreatDoor
open Go.RowKit
attribute [local go_sem ↓] Go.wp_at_zero Go.wp_at_succ
def Tryz.aFY :(Tryz.prog.info? 3).map (λi=>(i.zero,i.size,i.bytes))=some (some (ah 0),1,8):=by kernel_rfl
def arY (w:World)(k:Nat)(s:ByteArray)(pos:Nat):w.grownBy (w.iterAt k s pos) (some k):=
 ⟨rfl,rfl,rfl,by rw[Lib.iterAt_size];exact Nat.le_refl _,λi _ hne=>Lib.iterAt_other w k i s pos (λh=>hne (by rw[h]))⟩
def row_ne_iter {w:World}{B e size n:Nat}{v:Value}{xs:List Value}{k:Nat}{s:ByteArray}{pos:Nat}(h:w.ownsRow B e size v n xs)(hk:w.heap[k]?=some (.stringIter s pos)):v.ownBlock=none\/v.ownBlock≠some k:=by
 rcases h.2 with⟨rfl,_⟩ |⟨g,cap,cur,rfl,_,hg,_⟩
 . exact .inl rfl
 . refine .inr λe=>?_;simp only[Value.ownBlock,Option.some.injEq]at e;subst e;rw[hg]at hk;simp at hk
def iJ (l:List UInt8):List Value:=l.map λc=>ah (c.toNat:Int)
def acX (a b:List UInt8):iJ (a++b)=iJ a++iJ b:=by simp[iJ]
def Uc (l:List UInt8)(w:World)(hl:l.length<=1048576)(hall:∀c∈l,c.toNat<=127):
 Cl 126 #[.string (bs l)] w λe w'=>∃v,e=.returned v/\w'.ownsRow w.heap.size 3 1 v l.length (iJ l)/\Bw w w':=by
 obtain⟨i0,hi,hz0,hz1,hz2⟩:=info_parts Tryz.aFY;obtain⟨n,hn⟩:=aK l.length;have hsz:(bs l).size=n:=by rw[iH,hn]
 have pQ:=λW=>Fe l (n:Int) W zo;have hm:eQ l (n:Int)=true:=by unfold eQ;rw[hn];simp only[Bool.and_eq_true,List.all_eq_true,decide_eq_true_eq,and_true];exact hall
 rw[hm]at pQ;have hget:∀k (h:k<(bs l).size) (h2:k<l.length),((bs l)[k]'h).toNat=l[k].toNat:=λk h h2=>by simp[bs,ByteArray.getElem_eq_getElem_data]
 rw[hn]at hl⊢;obtain⟨Hi,dF,dv,di,Hn,mO,pn,alM,mS⟩:=Pf hi hz0 hz1 hz2 hn pQ hall hget hsz;clear hi hz0 hz1 hz2 hn pQ hm hall hget;go_enter Tryz.func126,Tryz.ntmps126;have Hb:=hbz w;go_wp2_with fail;refine(mO.out _).mono ?_;rintro e w1 ⟨rfl,ag⟩;replace Hb:=az Hb ag;have sk:=Hb.out.size;have cu:Hid (Bw w (w1.iter (bs l) 0)):=Hb.out.alloc zo _;have Hk0:Hid ((w1.iter (bs l) 0).heap[w1.heap.size]?=some (.stringIter (bs l) 0)):=World.iter_heap w1 (bs l) 0;clear Hb;go_wp2_with fail;go_loopw[3] (λs3 wr=>∃(k:Nat) (v:Value),k<=n/\v=s3/\wr.heap[w1.heap.size]?=some (.stringIter (bs l) k)/\wr.ownsRow w.heap.size 3 1 v k (iJ (l.take k))/\Bw w wr) (λ_ wr=>n-wr.iterPos w1.heap.size);case atStart=>exact⟨0,_,Nat.zero_le _,rfl,Hk0.out,World.ownsRow_nil _ _ _ _,cu.out⟩
 case round=>
  clear cu Hk0;obtain⟨k,v,hk,rfl,hit,ho,hb⟩:=hrel;by_cases hlt:k<n
  . have hp:k<(bs l).size:=by rw[mS.out];exact hlt
    have h1:k<l.length:=by rw[Hn.out];exact hlt
    have hc:=pn.out _ (List.getElem_mem h1);have hg:=alM.out k hp h1;obtain⟨c,hcc⟩:∃c:Nat,l[k].toNat=c:=⟨_,rfl⟩;rw[hcc]at hc hg;have sZ:∀ty,(Instr.next (.pointer (some ⟨w1.heap.size,0,none⟩)) true ty).run Tryz.prog wr=_:=λty=>Lib.run_next_ascii_at wr w1.heap.size (bs l) k ty hit hp (by rw[hg];omega);rw[hg]at sZ;have rS:IntKind.i64.wrap (c:Int)=(c:Int):=by rw[IntKind.wrap_i64];omega
    have cn:Hid (iJ (l.take (k+1))=iJ (l.take k)++[ah (c:Int)]):=by
     show _=_
     rw[List.take_succ_eq_append_getElem h1,acX,<-hcc];rfl
    have hgr:=arY wr w1.heap.size (bs l) (k+1);obtain⟨qJ,cu,ml⟩:=cX (Lib.iterAt_heap wr w1.heap.size (bs l) k (k+1) hit) (Lib.below_iterAt hb sk (bs l) (k+1)) (ho.kept hgr (row_ne_iter ho hit));have fw:wr.iterPos w1.heap.size=k:=by simp[World.iterPos,hit]
    have pp:=ar fw;clear hgr fw hit ho hb hc hg hcc;generalize wr.iterAt w1.heap.size (bs l) (k+1)=W1 at sZ qJ cu ml;have Hb:=hbz W1;obtain⟨cc,hcc⟩:∃cc:Int,(c:Int)=cc:=⟨_,rfl⟩;rw[hcc]at rS;simp only[hcc]at sZ;rw[hcc]at cn;clear hcc;obtain⟨W2,na,ag,Hd⟩:=cE W1 3 [ah cc];have d0:=Hd.out.c1;replace Hb:=az Hb ag;have hv:=ownsRow_below ml.out Hb.out;have hs2:=Hb.out.size;have hs1:=cu.out.size;have hnews:=gW Hd.out;go_wp2_with (at_builtin;refine wpList_append_own_at _ rfl _ _ 154 rfl w.heap.size 3 i0 _ 1 8 Tryz.underlying154 Hi.out dF.out dv.out di.out rfl zd v k (iJ (l.take k)) rfl hv ⟨W1.heap.size,0,none⟩ 1 1 [ah cc] rfl rfl hnews zy zx zo zo ?_;intro v' w3 uK hg3 _ _;obtain⟨g',cq,rfl⟩:=ownsRow_succ uK);have hlK:w1.heap.size<W1.heap.size:=(Array.getElem?_eq_some_iff.1 qJ.out).1;have hk2:W2.heap[w1.heap.size]?=some (.stringIter (bs l) (k+1)):=(Hb.out.block _ hlK).trans qJ.out;have hk3:w3.heap[w1.heap.size]?=some (.stringIter (bs l) (k+1)):=by
     rw[hg3.block _ zo (by
      rcases row_ne_iter hv hk2 with h|h
      . rw[h];simp
      . exact λe=>h e.symm)]
     exact hk2
    have Hk3:=ar hk3;clear hk2 hk3;go_roundw;case rel=>
     refine⟨k+1,_,by omega,rfl,Hk3.out,?_,?_⟩
     . rw[cn.out];exact uK
     . exact(cu.out.trans (Hb.out.mono hs1)).grown hg3 zo (λj e=>dX hv j e)
    case measure=>
     have VI:w3.iterPos w1.heap.size=k+1:=by simp[World.iterPos,Hk3.out]
     rw[pp.out,VI];omega
  . obtain rfl:k=n:=by omega
    have sZ:∀ty,(Instr.next (.pointer (some ⟨w1.heap.size,0,none⟩)) true ty).run Tryz.prog wr=_:=λty=>Lib.run_next_end_at wr w1.heap.size (bs l) k ty hit (by rw[mS.out];omega);have ht:l.take k=l:=List.take_of_length_le (by rw[Hn.out];exact Nat.le_refl _);rw[ht]at ho;obtain⟨Ho,Hb⟩:=aZ ho hb;clear ho hb ht hit;go_wp2;refine bodyPost_ret (results_tmp rfl _ _ _) rfl ⟨v,rfl,Ho.out,Hb.out⟩
def Nj (l:List UInt8):(l.flatMap λc=>[Value.int .i64 (c.toNat:Int)])=iJ l:=by
 induction l with
 |nil=>rfl
 |cons c cs ih=>rw[List.flatMap_cons,ih];rfl
def jP (l:List UInt8):Nat:=(l.map λc=>c.toNat).sum
def aqy (l:List UInt8)(k:Nat)(h:k<l.length):jP (l.take (k+1))=jP (l.take k)+l[k].toNat:=by unfold jP;rw[List.take_succ_eq_append_getElem h,List.map_append,List.sum_append];simp
def aqw (l:List UInt8):jP l<=255*l.length:=by
 induction l with
 |nil=>simp[jP]
 | cons c cs ih=>
   have h:jP (c::cs)=c.toNat+jP cs:=by simp[jP]
   have h2:c.toNat<=255:=by have:=c.toNat_lt;omega
   rw[h,List.length_cons];omega
def aqz (l:List UInt8)(w:World)(hl:l.length<=1048576)(hall:∀c∈l,c.toNat<=127):
 Cv 86 #[ai l] w (ah (jP l:Int)):=by
 have Vt:=λW=>Uc l W hl hall;obtain⟨n,hn⟩:=aK l.length;obtain⟨D,hD⟩:=aK (jP l);rw[hD];have hle:∀k,jP (l.take k)<=267386880:=by
  intro k;have h1:=aqw (l.take k);have h2:(l.take k).length<=l.length:=by rw[List.length_take];exact Nat.min_le_right _ _
  omega
 rw[hn]at hl;simp only[hn]at Vt;obtain⟨alq,Hn,HD,Dp⟩:=ej Vt hn hD hle;clear Vt hn hD hall hle;go_enter Tryz.func86,Tryz.ntmps86;have Hb:=hbz w;go_wp2_with fail;refine(alq.out _).mono ?_;rintro e w1 ⟨v,rfl,ho,ag⟩;obtain⟨a,cap,rfl,hat,_⟩:=dS ho;have jR:At w1 a (l.flatMap λc=>[Value.int .i64 (c.toNat:Int)]):=by rw[Nj];exact hat
 have fW:=ar jR;replace Hb:=ar (aO Hb.out ag);clear ho hat jR ag;go_wp2_with fail;go_loopw[3,9] (λs3 x wr=>∃k:Nat,k<=n/\x=ah (k:Int)/\s3=ah (jP (l.take k):Int)/\wr=w1) (λ_ x _=>n-(intOf x).toNat);case atStart=>exact⟨0,Nat.zero_le _,rfl,rfl,rfl⟩
 case round=>
  obtain⟨k,hk,rfl,rfl,hw⟩:=hrel;subst hw;by_cases hlt:k<n
  . have h1:k<l.length:=by rw[Hn.out];exact hlt
    obtain⟨b,o,hab,hc⟩:=fW.out.elem (f:=λc:UInt8=>[Value.int .i64 (c.toNat:Int)]) (sz:=1) (λ_=>rfl) zd k h1;have p0:wr.cell? ⟨b,o+k,none⟩=some (ah (l[k].toNat:Int)):=by simpa using hc 0 zd
    have bD:=JW n cap k (k:Int) hab hlt rfl;rw[Nat.mul_one]at bD;have hs:=aqy l k h1;have hb1:=Dp.out k;have hb2:=Dp.out (k+1);obtain⟨x,hx⟩:∃x:Int,(l[k].toNat:Int)=x:=⟨_,rfl⟩;obtain⟨y,hy⟩:∃y:Int,(jP (l.take k):Int)=y:=⟨_,rfl⟩;obtain⟨z,hz⟩:∃z:Int,(jP (l.take (k+1)):Int)=z:=⟨_,rfl⟩;have hadd:IntKind.i64.wrap (y+x)=z:=by rw[IntKind.wrap_i64];omega
    rw[hx]at p0;rw[hy];have Hz:=ar hz;clear hx hy hz hs hb1 hb2 hc hab;go_wp2;go_roundw;case rel=>exact⟨k+1,by omega,by go_num,by rw[Hz.out],trivial⟩
    case measure=>exact bI
  . obtain rfl:k=n:=by omega
    have ht:l.take k=l:=List.take_of_length_le (by rw[Hn.out];exact Nat.le_refl _);rw[ht,HD.out];clear ht;go_wp2;refine bodyPost_ret (results_tmp rfl _ _ _) rfl ⟨rfl,Hb.out⟩
def oV (ts:List aQ):Nat:=ts.foldl (λn t=>max n (jP t.1)) 0
def azO (ts:List aQ)(k:Nat)(hk:k<ts.length):oV (ts.take (k+1))=max (oV (ts.take k)) (jP ts[k].1):=by unfold oV;rw[List.take_succ_eq_append_getElem hk,List.foldl_append];rfl
def ai0 (V:Int)(a:Option Addr)(cap N:Nat)(ts:List aQ)(w:World)(hN:ts.length=N)(hn:N<=1048576)(ha:At w a (ts.flatMap aY))(hl:∀t∈ts,t.1.length<=12/\∀c∈t.1,c.toNat<=127):
 Cv 42 #[.agg #[ah V,.slice a N cap]] w (ah (oV ts:Int)):=by
 obtain⟨Ha,Hl,HN⟩:=cX ha hl hN;clear ha hl hN;obtain⟨W,dK,Hb,Hp⟩:=jD w 24 [ah V,.slice a N cap];obtain⟨p0,p1⟩:=Hp.out.c2;go_enter Tryz.func42,Tryz.ntmps42;go_wp2_with fail;go_loopw[3,9] (λs3 x wr=>∃k:Nat,k<=N/\x=ah (k:Int)/\s3=ah (oV (ts.take k):Int)/\Bw w wr) (λ_ x _=>N-(intOf x).toNat);case atStart=>exact⟨0,Nat.zero_le _,rfl,rfl,Hb.out⟩
 case round=>
  clear Hb Hp p0 p1;obtain⟨k,hk,rfl,rfl,pb⟩:=hrel;by_cases hlt:k<N
  . have hk2:k<ts.length:=by rw[HN.out];exact hlt
    obtain⟨l,s,m,e,hx⟩:∃l s m e,ts[k]=(l,s,m,e):=⟨_,_,_,_,rfl⟩;obtain⟨b,o,hab,cj⟩:=(Ha.out.below pb).term k hk2 hx;have hl2:=Hl.out _ (List.getElem_mem hk2);have hst:=azO ts k hk2;rw[hx]at hl2 hst;have bD:=gJ N cap k (k:Int) hab hlt rfl;obtain⟨u,hu⟩:=aK (oV (ts.take k));rw[hu]at hst⊢;obtain⟨Hp,cn,od,bj⟩:=ej cj hst hl2 pb;clear cj hst hl2 pb hx hab hu;have Hb:=hbz wr;obtain⟨p0,p1,p2,p3⟩:=Hp.out.w4;have P0:=p0;have P1:=p1;have P2:=p2;have P3:=p3;obtain⟨W4,ov,ag,Ht⟩:=cE wr 67 [ai l,aj s,ai m,ah e];replace Hp:=kW Hp ag;obtain⟨p0,p1,p2,p3⟩:=Hp.out.w4;obtain⟨t0,t1,t2,t3⟩:=Ht.out.c4;replace Hb:=az Hb ag;go_wp2_with fail;refine(aqz l _ (by have:=od.out.1;omega) od.out.2).mono ?_;rintro e w5 ⟨rfl,ag⟩;replace Hp:=kW Hp ag;obtain⟨Ht,t0,t1,t2,t3⟩:=dZ Ht ag;obtain⟨p0,p1,p2,p3⟩:=Hp.out.w4;replace Hb:=az Hb ag;go_wp2;go_roundw;case rel=>exact⟨k+1,by omega,by go_num,by rw[cn.out];simp;omega,aO bj.out Hb.out⟩
    case measure=>exact bI
  . obtain rfl:k=N:=by omega
    have hpt:ts.take k=ts:=List.take_of_length_le (by rw[HN.out];exact Nat.le_refl _);rw[hpt];go_wp2;refine bodyPost_ret (results_tmp rfl _ _ _) rfl ⟨rfl,pb⟩
end Go.Proofs.YtnjfebkelecgaaaGreatDoor
