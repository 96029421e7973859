/- Package mono: Exps. -/
import Derived.Test.YtnjfebkelecgaaaGreatDoorZ9
import Derived.Test.YtnjfebkelecgaaaGreatDoorZ11
import Derived.Lib.OthersKept
import Derived.Test.YtnjfebkelecgaaaGreatDoorZ12
set_option linter.unusedVariables false
set_option linter.unusedSimpArgs false
set_option maxRecDepth 100000
set_option maxHeartbeats 16000000
namespace Go.Proofs.YtnjfebkelecgaaaGreatDoor
open Go.RowKit
attribute [local go_sem ↓] Go.wp_at_zero Go.wp_at_succ
theorem Tryz.aBu :(Tryz.prog.info? 3).map (λi=>(i.zero,i.size,i.bytes))=some (some (ah 0),1,8):=by kernel_rfl
theorem aow (w:World)(k:Nat)(s:ByteArray)(pos:Nat):w.grownBy (w.iterAt k s pos) (some k):=
 ⟨rfl,rfl,rfl,by rw[Lib.iterAt_size];exact Nat.le_refl _,λi _ hne=>Lib.iterAt_other w k i s pos (λh=>hne (by rw[h]))⟩
theorem row_ne_iter {w:World}{B e size n:Nat}{v:Value}{xs:List Value}{k:Nat}{s:ByteArray}{pos:Nat}(h:w.ownsRow B e size v n xs)(hk:w.heap[k]?=some (.stringIter s pos)):v.ownBlock=none\/v.ownBlock≠some k:=by
 rcases h.2 with⟨rfl,_⟩ |⟨g,cap,cur,rfl,_,hg,_⟩
 . exact .inl rfl
 . refine .inr λe=>?_;simp only[Value.ownBlock,Option.some.injEq]at e;subst e;rw[hg]at hk;simp at hk
def ij (l:List UInt8):List Value:=l.map λc=>ah (c.toNat:Int)
theorem aar (a b:List UInt8):ij (a++b)=ij a++ij b:=by simp[ij]
theorem Rx (l:List UInt8)(w:World)(hl:l.length<=1048576)(hall:∀c∈l,c.toNat<=127):
 Calls Tryz.prog 126 #[.string (bs l)] w λe w'=>∃v,e=.returned v/\w'.ownsRow w.heap.size 3 1 v l.length (ij l)/\Bw w w':=by
 obtain⟨i0,hi,hz0,hz1,hz2⟩:=info_parts Tryz.aBu;obtain⟨n,hn⟩:=aK l.length;have hsz:(bs l).size=n:=by rw[jd,hn]
 have oV:=λW=>Ea l (n:Int) W zo;have hm:eU l (n:Int)=true:=by unfold eU;rw[hn];simp only[Bool.and_eq_true,List.all_eq_true,decide_eq_true_eq,and_true];exact hall
 rw[hm]at oV;have hget:∀k (h:k<(bs l).size) (h2:k<l.length),((bs l)[k]'h).toNat=l[k].toNat:=λk h h2=>by simp[bs,ByteArray.getElem_eq_getElem_data]
 rw[hn]at hl⊢;obtain⟨Hi,dz,dA,dh,Hn,lU,ov,aiE,tA⟩:=DZ hi hz0 hz1 hz2 hn oV hall hget hsz;clear hi hz0 hz1 hz2 hn oV hm hall hget;go_enter Tryz.func126,Tryz.ntmps126;have Hb:Hid (Bw w w):=Below.refl _ _;go_wp2_with fail;refine(lU.out _).mono ?_;rintro e w1 ⟨rfl,ag⟩;replace Hb:=aF Hb ag;clear ag;have zE:=Hb.out.size;have cE:Hid (Bw w (w1.iter (bs l) 0)):=Hb.out.alloc zo _;have XV:Hid ((w1.iter (bs l) 0).heap[w1.heap.size]?=some (.stringIter (bs l) 0)):=World.iter_heap w1 (bs l) 0;clear Hb;go_wp2_with fail;go_loopw[3] (λs3 wr=>∃(k:Nat) (v:Value),k<=n/\v=s3/\wr.heap[w1.heap.size]?=some (.stringIter (bs l) k)/\wr.ownsRow w.heap.size 3 1 v k (ij (l.take k))/\Bw w wr) (λ_ wr=>n-wr.iterPos w1.heap.size);case atStart=>exact⟨0,_,Nat.zero_le _,rfl,XV.out,World.ownsRow_nil _ _ _ _,cE.out⟩
 case round=>
  clear cE XV;obtain⟨k,v,hk,rfl,hit,ho,hb⟩:=hrel;by_cases hlt:k<n
  . have hp:k<(bs l).size:=by rw[tA.out];exact hlt
    have h1:k<l.length:=by rw[Hn.out];exact hlt
    have hc:=ov.out _ (List.getElem_mem h1);have hg:=aiE.out k hp h1;obtain⟨c,hcc⟩:∃c:Nat,l[k].toNat=c:=⟨_,rfl⟩;rw[hcc]at hc hg;have Bb:∀ty,(Instr.next (.pointer (some ⟨w1.heap.size,0,none⟩)) true ty).run Tryz.prog wr=_:=λty=>Lib.run_next_ascii_at wr w1.heap.size (bs l) k ty hit hp (by rw[hg];omega);rw[hg]at Bb;have ub:IntKind.i64.wrap (c:Int)=(c:Int):=by rw[IntKind.wrap_i64];omega
    have cB:Hid (ij (l.take (k+1))=ij (l.take k)++[ah (c:Int)]):=by
     show _=_
     rw[List.take_succ_eq_append_getElem h1,aar,<-hcc];rfl
    have hgr:=aow wr w1.heap.size (bs l) (k+1);obtain⟨Po,cE,rS⟩:=dc (Lib.iterAt_heap wr w1.heap.size (bs l) k (k+1) hit) (Lib.below_iterAt hb zE (bs l) (k+1)) (ho.kept hgr (row_ne_iter ho hit));have fG:wr.iterPos w1.heap.size=k:=by simp[World.iterPos,hit]
    have sZ:=aj fG;clear hgr fG hit ho hb hc hg hcc;generalize wr.iterAt w1.heap.size (bs l) (k+1)=W1 at Bb Po cE rS;have Hb:Hid (Bw W1 W1):=Below.refl _ _;obtain⟨cc,hcc⟩:∃cc:Int,(c:Int)=cc:=⟨_,rfl⟩;rw[hcc]at ub;simp only[hcc]at Bb;rw[hcc]at cB;clear hcc;obtain⟨W2,nk,ag,Hd⟩:=cF W1 3 [ah cc];have d0:=Hd.out.c1;replace Hb:=aF Hb ag;clear ag;have hv:=ownsRow_below rS.out Hb.out;have hs2:=Hb.out.size;have hs1:=cE.out.size;have hnews:=iz Hd.out;clear d0;go_wp2_with (at_builtin;refine wpList_append_own_at _ rfl _ _ 154 rfl w.heap.size 3 i0 _ 1 8 Tryz.underlying154 Hi.out dz.out dA.out dh.out rfl zd v k (ij (l.take k)) rfl hv ⟨W1.heap.size,0,none⟩ 1 1 [ah cc] rfl rfl hnews zy zx zo zo ?_;intro v' w3 uk hg3 _ _;obtain⟨g',cq,rfl⟩:=ownsRow_succ uk);have hlK:w1.heap.size<W1.heap.size:=(Array.getElem?_eq_some_iff.1 Po.out).1;have hk2:W2.heap[w1.heap.size]?=some (.stringIter (bs l) (k+1)):=(Hb.out.block _ hlK).trans Po.out;have hk3:w3.heap[w1.heap.size]?=some (.stringIter (bs l) (k+1)):=by
     rw[hg3.block _ zo (by
      rcases row_ne_iter hv hk2 with h|h
      . rw[h];simp
      . exact λe=>h e.symm)]
     exact hk2
    have XW:=aj hk3;clear hk2 hk3;go_roundw;case rel=>
     refine⟨k+1,_,by omega,rfl,XW.out,?_,?_⟩
     . rw[cB.out];exact uk
     . exact(cE.out.trans (Hb.out.mono hs1)).grown hg3 zo (λj e=>dL hv j e)
    case measure=>
     have apF:w3.iterPos w1.heap.size=k+1:=by simp[World.iterPos,XW.out]
     rw[sZ.out,apF];omega
  . obtain rfl:k=n:=by omega
    have Bb:∀ty,(Instr.next (.pointer (some ⟨w1.heap.size,0,none⟩)) true ty).run Tryz.prog wr=_:=λty=>Lib.run_next_end_at wr w1.heap.size (bs l) k ty hit (by rw[tA.out];omega);have ht:l.take k=l:=List.take_of_length_le (by rw[Hn.out];exact Nat.le_refl _);rw[ht]at ho;obtain⟨Ho,Hb⟩:=aZ ho hb;clear ho hb ht hit;go_wp2;refine bodyPost_ret (results_tmp rfl _ _ _) rfl ⟨v,rfl,Ho.out,Hb.out⟩
theorem LH (l:List UInt8):(l.flatMap λc=>[Value.int .i64 (c.toNat:Int)])=ij l:=by
 induction l with
 |nil=>rfl
 |cons c cs ih=>rw[List.flatMap_cons,ih];rfl
def ji (l:List UInt8):Nat:=(l.map λc=>c.toNat).sum
theorem anb (l:List UInt8)(k:Nat)(h:k<l.length):ji (l.take (k+1))=ji (l.take k)+l[k].toNat:=by unfold ji;rw[List.take_succ_eq_append_getElem h,List.map_append,List.sum_append];simp
theorem am9 (l:List UInt8):ji l<=255*l.length:=by
 induction l with
 |nil=>simp[ji]
 | cons c cs ih=>
   have h:ji (c::cs)=c.toNat+ji cs:=by simp[ji]
   have h2:c.toNat<=255:=by have:=c.toNat_lt;omega
   rw[h,List.length_cons];omega
theorem anc (l:List UInt8)(w:World)(hl:l.length<=1048576)(hall:∀c∈l,c.toNat<=127):
 Calls Tryz.prog 86 #[ai l] w λe w'=>e=.returned (ah (ji l:Int))/\Bw w w':=by
 have Ta:=λW=>Rx l W hl hall;obtain⟨n,hn⟩:=aK l.length;obtain⟨D,hD⟩:=aK (ji l);rw[hD];have hle:∀k,ji (l.take k)<=267386880:=by
  intro k;have h1:=am9 (l.take k);have h2:(l.take k).length<=l.length:=by rw[List.length_take];exact Nat.min_le_right _ _
  omega
 rw[hn]at hl;simp only[hn]at Ta;obtain⟨aij,Hn,HD,Cn⟩:=eN Ta hn hD hle;clear Ta hn hD hall hle;go_enter Tryz.func86,Tryz.ntmps86;have Hb:Hid (Bw w w):=Below.refl _ _;go_wp2_with fail;refine(aij.out _).mono ?_;rintro e w1 ⟨v,rfl,ho,ag⟩;obtain⟨a,cap,rfl,hat,_⟩:=dU ho;have iI:At w1 a (l.flatMap λc=>[Value.int .i64 (c.toNat:Int)]):=by rw[LH];exact hat
 have gF:=aj iI;replace Hb:=aj (aV Hb.out ag);clear ho hat iI ag;go_wp2_with fail;go_loopw[3,9] (λs3 x wr=>∃k:Nat,k<=n/\x=ah (k:Int)/\s3=ah (ji (l.take k):Int)/\wr=w1) (λ_ x _=>n-(intOf x).toNat);case atStart=>exact⟨0,Nat.zero_le _,rfl,rfl,rfl⟩
 case round=>
  obtain⟨k,hk,rfl,rfl,hw⟩:=hrel;subst hw;by_cases hlt:k<n
  . have h1:k<l.length:=by rw[Hn.out];exact hlt
    obtain⟨b,o,hab,hc⟩:=gF.out.elem (f:=λc:UInt8=>[Value.int .i64 (c.toNat:Int)]) (sz:=1) (λ_=>rfl) zd k h1;have p0:wr.cell? ⟨b,o+k,none⟩=some (ah (l[k].toNat:Int)):=by simpa using hc 0 zd
    have bK:=IP n cap k (k:Int) hab hlt rfl;rw[Nat.mul_one]at bK;have hs:=anb l k h1;have hb1:=Cn.out k;have hb2:=Cn.out (k+1);obtain⟨x,hx⟩:∃x:Int,(l[k].toNat:Int)=x:=⟨_,rfl⟩;obtain⟨y,hy⟩:∃y:Int,(ji (l.take k):Int)=y:=⟨_,rfl⟩;obtain⟨z,hz⟩:∃z:Int,(ji (l.take (k+1)):Int)=z:=⟨_,rfl⟩;have hadd:IntKind.i64.wrap (y+x)=z:=by rw[IntKind.wrap_i64];omega
    rw[hx]at p0;rw[hy];have Hz:=aj hz;clear hx hy hz hs hb1 hb2 hc hab;go_wp2;go_roundw;case rel=>exact⟨k+1,by omega,by go_num,by rw[Hz.out],trivial⟩
    case measure=>simp[intOf];omega
  . obtain rfl:k=n:=by omega
    have ht:l.take k=l:=List.take_of_length_le (by rw[Hn.out];exact Nat.le_refl _);rw[ht,HD.out];clear ht;go_wp2;refine bodyPost_ret (results_tmp rfl _ _ _) rfl ⟨rfl,Hb.out⟩
def mQ (ts:List aR):Nat:=ts.foldl (λn t=>max n (ji t.1)) 0
theorem avR (ts:List aR)(k:Nat)(hk:k<ts.length):mQ (ts.take (k+1))=max (mQ (ts.take k)) (ji ts[k].1):=by unfold mQ;rw[List.take_succ_eq_append_getElem hk,List.foldl_append];rfl
theorem af9 (V:Int)(a:Option Addr)(cap N:Nat)(ts:List aR)(w:World)(hN:ts.length=N)(hn:N<=1048576)(ha:At w a (ts.flatMap aY))(hl:∀t∈ts,t.1.length<=12/\∀c∈t.1,c.toNat<=127):
 Calls Tryz.prog 42 #[.agg #[ah V,.slice a N cap]] w λe w'=>e=.returned (ah (mQ ts:Int))/\Bw w w':=by
 obtain⟨Ha,Hl,HN⟩:=dc ha hl hN;clear ha hl hN;obtain⟨W,dw,Hb,Hp⟩:=jT w 24 [ah V,.slice a N cap];obtain⟨p0,p1⟩:=Hp.out.c2;go_enter Tryz.func42,Tryz.ntmps42;go_wp2_with fail;go_loopw[3,9] (λs3 x wr=>∃k:Nat,k<=N/\x=ah (k:Int)/\s3=ah (mQ (ts.take k):Int)/\Bw w wr) (λ_ x _=>N-(intOf x).toNat);case atStart=>exact⟨0,Nat.zero_le _,rfl,rfl,Hb.out⟩
 case round=>
  clear Hb Hp p0 p1;obtain⟨k,hk,rfl,rfl,pb⟩:=hrel;by_cases hlt:k<N
  . have hk2:k<ts.length:=by rw[HN.out];exact hlt
    obtain⟨l,s,m,e,hx⟩:∃l s m e,ts[k]=(l,s,m,e):=⟨_,_,_,_,rfl⟩;obtain⟨b,o,hab,cw⟩:=(Ha.out.below pb).term k hk2 hx;have hl2:=Hl.out _ (List.getElem_mem hk2);have hst:=avR ts k hk2;rw[hx]at hl2 hst;have bK:=im N cap k (k:Int) hab hlt rfl;obtain⟨u,hu⟩:=aK (mQ (ts.take k));rw[hu]at hst⊢;obtain⟨Hp,cB,mX,bj⟩:=eN cw hst hl2 pb;clear cw hst hl2 pb hx hab hu;have Hb:Hid (Bw wr wr):=Below.refl _ _;obtain⟨p0,p1,p2,p3⟩:=Hp.out.w4;have P0:=p0;have P1:=p1;have P2:=p2;have P3:=p3;obtain⟨W4,rp,ag,Ht⟩:=cF wr 67 [ai l,ar s,ai m,ah e];clear p0 p1 p2 p3;replace Hp:=kW Hp ag;obtain⟨p0,p1,p2,p3⟩:=Hp.out.w4;obtain⟨t0,t1,t2,t3⟩:=Ht.out.c4;replace Hb:=aF Hb ag;clear ag;go_wp2_with fail;refine(anc l _ (by have:=mX.out.1;omega) mX.out.2).mono ?_;rintro e w5 ⟨rfl,ag⟩;clear p0 p1 p2 p3 t0 t1 t2 t3;replace Hp:=kW Hp ag;obtain⟨Ht,t0,t1,t2,t3⟩:=dK Ht ag;obtain⟨p0,p1,p2,p3⟩:=Hp.out.w4;replace Hb:=aF Hb ag;clear ag;go_wp2;go_roundw;case rel=>exact⟨k+1,by omega,by go_num,by rw[cB.out];simp;omega,aV bj.out Hb.out⟩
    case measure=>simp[intOf];omega
  . obtain rfl:k=N:=by omega
    have hpt:ts.take k=ts:=List.take_of_length_le (by rw[HN.out];exact Nat.le_refl _);rw[hpt];go_wp2;refine bodyPost_ret (results_tmp rfl _ _ _) rfl ⟨rfl,pb⟩
end Go.Proofs.YtnjfebkelecgaaaGreatDoor
