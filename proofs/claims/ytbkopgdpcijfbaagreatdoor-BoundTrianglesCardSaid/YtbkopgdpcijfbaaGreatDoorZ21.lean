/- Package mono: Exps. -/
import Derived.Test.YtbkopgdpcijfbaaGreatDoorZ7
import Derived.Test.YtbkopgdpcijfbaaGreatDoorZ10
import Derived.Test.YtbkopgdpcijfbaaGreatDoorZ12
import Derived.Lib.OthersKept
set_option linter.all false
set_option maxRecDepth 100000
set_option maxHeartbeats 16000000
namespace Go.Proofs.YtbkopgdpcijfbaaGreatDoor
open Go.RowKit
attribute [local go_sem ↓] Go.wp_at_zero Go.wp_at_succ
def Tryz.aGI :(Tryz.prog.info? 3).map (λi=>(i.zero,i.size,i.bytes))=some (some (af 0),1,8):=by kernel_rfl
def asH (w:World)(k:Nat)(s:ByteArray)(pos:Nat):w.grownBy (w.iterAt k s pos) (some k):=
 ⟨rfl,rfl,rfl,by rw[Lib.iterAt_size];exact Nat.le_refl _,λi _ hne=>Lib.iterAt_other w k i s pos (λh=>hne (by rw[h]))⟩
def row_ne_iter {w:World}{B e size n:Nat}{v:Value}{xs:List Value}{k:Nat}{s:ByteArray}{pos:Nat}(h:w.ownsRow B e size v n xs)(hk:w.heap[k]?=some (.stringIter s pos)):v.ownBlock=none\/v.ownBlock≠some k:=by
 rcases h.2 with⟨rfl,_⟩ |⟨g,cap,cur,rfl,_,hg,_⟩
 . exact .inl rfl
 . refine .inr λe=>?_;simp only[Value.ownBlock,Option.some.injEq]at e;subst e;rw[hg]at hk;simp at hk
def wA (l:List UInt8):List Value:=l.map λc=>af (c.toNat:Int)
def arQ (a b:List UInt8):wA (a++b)=wA a++wA b:=by simp[wA]
def arS (l:List UInt8)(w:World)(hl:l.length<=1048576)(hall:∀c∈l,c.toNat<=127):
 Cl 83 #[.string (bs l)] w λe w'=>∃v,e=.returned v/\w'.ownsRow w.heap.size 3 1 v l.length (wA l)/\Bw w w':=by
 obtain⟨i0,hi,hz0,hz1,hz2⟩:=info_parts Tryz.aGI;obtain⟨n,hn⟩:=aB l.length;have hsz:(bs l).size=n:=by rw[jB,hn]
 have lV:=λW=>OW l (n:Int) W zo;have hm:fQ l (n:Int)=true:=by unfold fQ;rw[hn];simp only[Bool.and_eq_true,List.all_eq_true,decide_eq_true_eq,and_true];exact hall
 rw[hm]at lV;have hget:∀k (h:k<(bs l).size) (h2:k<l.length),((bs l)[k]'h).toNat=l[k].toNat:=λk h h2=>by simp[bs,ByteArray.getElem_eq_getElem_data]
 rw[hn]at hl⊢;obtain⟨Hi,eu,ey,dM,Hn,oQ,sX,GJ,qR⟩:=CG hi hz0 hz1 hz2 hn lV hall hget hsz;clear hi hz0 hz1 hz2 hn lV hm hall hget;go_enter Tryz.func83,Tryz.ntmps83;have Hb:=hbz w;go_wp2_with fail;refine aJ (Hb.an trivial) (oQ.out _) λw1 ae ak=>?_;have xh:=ae.1.out.size;have cj:Hid (Bw w (w1.iter (bs l) 0)):=ae.1.out.alloc zo _;have Br:Hid ((w1.iter (bs l) 0).heap[w1.heap.size]?=some (.stringIter (bs l) 0)):=World.iter_heap w1 (bs l) 0;skip
 go_wp2_with fail;go_loopw[3] (λs3 wr=>∃(k:Nat) (v:Value),k<=n/\v=s3/\wr.heap[w1.heap.size]?=some (.stringIter (bs l) k)/\wr.ownsRow w.heap.size 3 1 v k (wA (l.take k))/\Bw w wr) (λ_ wr=>n-wr.iterPos w1.heap.size);case atStart=>exact⟨0,_,Nat.zero_le _,rfl,Br.out,World.ownsRow_nil _ _ _ _,cj.out⟩
 case round=>
  clear cj Br;obtain⟨k,v,hk,rfl,hit,ho,hb⟩:=hrel;by_cases hlt:k<n
  . have hp:k<(bs l).size:=by rw[qR.out];exact hlt
    have h1:k<l.length:=by rw[Hn.out];exact hlt
    have hc:=sX.out _ (List.getElem_mem h1);have hg:=GJ.out k hp h1;obtain⟨c,hcc⟩:∃c:Nat,l[k].toNat=c:=⟨_,rfl⟩;rw[hcc]at hc hg;have Cw:∀ty,(Instr.next (.pointer (some ⟨w1.heap.size,0,none⟩)) true ty).run Tryz.prog wr=_:=λty=>Lib.run_next_ascii_at wr w1.heap.size (bs l) k ty hit hp (by rw[hg];omega);rw[hg]at Cw;have tO:IntKind.i64.wrap (c:Int)=(c:Int):=by rw[IntKind.wrap_i64];omega
    have bR:Hid (wA (l.take (k+1))=wA (l.take k)++[af (c:Int)]):=by
     show _=_
     rw[List.take_succ_eq_append_getElem h1,arQ,<-hcc];rfl
    have hgr:=asH wr w1.heap.size (bs l) (k+1);obtain⟨Rh,cj,GQ⟩:=cw (Lib.iterAt_heap wr w1.heap.size (bs l) k (k+1) hit) (Lib.below_iterAt hb xh (bs l) (k+1)) (ho.kept hgr (row_ne_iter ho hit));have hmu:wr.iterPos w1.heap.size=k:=by simp[World.iterPos,hit]
    have Hmu:=aj hmu;clear hgr hmu hit ho hb hc hg hcc;generalize wr.iterAt w1.heap.size (bs l) (k+1)=W1 at Cw Rh cj GQ;have Hb:=hbz W1;obtain⟨cc,hcc⟩:∃cc:Int,(c:Int)=cc:=⟨_,rfl⟩;rw[hcc]at tO;simp only[hcc]at Cw;rw[hcc]at bR;clear hcc;obtain⟨W2,nV,aR,ae,ak⟩:=bX W1 (Hb.an trivial) 3 [af cc];have hv:=ownsRow_below GQ.out ae.2.1.out;have hs2:=ae.2.1.out.size;have hs1:=cj.out.size;have hnews:=ji ae.1.out;skip
    go_wp2_with (at_builtin;refine wpList_append_own_at _ rfl _ _ 60 rfl w.heap.size 3 i0 _ 1 8 Tryz.underlying60 Hi.out eu.out ey.out dM.out rfl zd v k (wA (l.take k)) rfl hv ⟨W1.heap.size,0,none⟩ 1 1 [af cc] rfl rfl hnews zy zx zo zo ?_;intro v' w3 EG hg3 _ _;obtain⟨g',cq,rfl⟩:=ownsRow_succ EG);have hlK:w1.heap.size<W1.heap.size:=(Array.getElem?_eq_some_iff.1 Rh.out).1;have hk2:W2.heap[w1.heap.size]?=some (.stringIter (bs l) (k+1)):=(ae.2.1.out.block _ hlK).trans Rh.out;have hk3:w3.heap[w1.heap.size]?=some (.stringIter (bs l) (k+1)):=by
     rw[hg3.block _ zo (by
      rcases row_ne_iter hv hk2 with h|h
      . rw[h];simp
      . exact λe=>h e.symm)]
     exact hk2
    have Hk3:=aj hk3;clear hk2 hk3;go_roundw;case rel=>
     refine⟨k+1,_,by omega,rfl,Hk3.out,?_,?_⟩
     . rw[bR.out];exact EG
     . exact(cj.out.trans (ae.2.1.out.mono hs1)).grown hg3 zo (λj e=>eo hv j e)
    case measure=>
     have aub:w3.iterPos w1.heap.size=k+1:=by simp[World.iterPos,Hk3.out]
     rw[Hmu.out,aub];omega
  . obtain rfl:k=n:=by omega
    have Cw:∀ty,(Instr.next (.pointer (some ⟨w1.heap.size,0,none⟩)) true ty).run Tryz.prog wr=_:=λty=>Lib.run_next_end_at wr w1.heap.size (bs l) k ty hit (by rw[qR.out];omega);have ht:l.take k=l:=List.take_of_length_le (by rw[Hn.out];exact Nat.le_refl _);rw[ht]at ho;obtain⟨Ho,Hb⟩:=aK ho hb;clear ho hb ht hit;go_wp2;refine bodyPost_ret (results_tmp rfl _ _ _) rfl ⟨v,rfl,Ho.out,Hb.out⟩
def arR (l:List UInt8):(l.flatMap λc=>[Value.int .i64 (c.toNat:Int)])=wA l:=by
 induction l with
 |nil=>rfl
 |cons c cs ih=>rw[List.flatMap_cons,ih];rfl
def gN (l:List UInt8):Nat:=(l.map λc=>c.toNat).sum
def aqO (l:List UInt8)(k:Nat)(h:k<l.length):gN (l.take (k+1))=gN (l.take k)+l[k].toNat:=by unfold gN;rw[List.take_succ_eq_append_getElem h,List.map_append,List.sum_append];simp
def aqM (l:List UInt8):gN l<=255*l.length:=by
 induction l with
 |nil=>simp[gN]
 | cons c cs ih=>
   have h:gN (c::cs)=c.toNat+gN cs:=by simp[gN]
   have h2:c.toNat<=255:=by have:=c.toNat_lt;omega
   rw[h,List.length_cons];omega
def acl (l:List UInt8)(w:World)(hl:l.length<=1048576)(hall:∀c∈l,c.toNat<=127):
 Cv 42 #[ah l] w (af (gN l:Int)):=by
 have UX:=λW=>arS l W hl hall;obtain⟨n,hn⟩:=aB l.length;obtain⟨D,hD⟩:=aB (gN l);rw[hD];have hle:∀k,gN (l.take k)<=267386880:=by
  intro k;have h1:=aqM (l.take k);have h2:(l.take k).length<=l.length:=by rw[List.length_take];exact Nat.min_le_right _ _
  omega
 rw[hn]at hl;simp only[hn]at UX;obtain⟨alM,Hn,HD,Dz⟩:=dv UX hn hD hle;clear UX hn hD hall hle;go_enter Tryz.func42,Tryz.ntmps42;have Hb:=hbz w;go_wp2_with fail;refine(alM.out _).mono ?_;rintro e w1 ⟨v,rfl,ho,ai⟩;obtain⟨a,cap,rfl,hat,_⟩:=dZ ho;have jD:At w1 a (l.flatMap λc=>[Value.int .i64 (c.toNat:Int)]):=by rw[arR];exact hat
 have dL:=aj jD;replace Hb:=aj (aI Hb.out ai);clear ho hat jD ai;go_wp2_with fail;go_loopw[3,9] (λs3 x wr=>∃k:Nat,k<=n/\x=af (k:Int)/\s3=af (gN (l.take k):Int)/\wr=w1) (λ_ x _=>n-(intOf x).toNat);case atStart=>exact⟨0,Nat.zero_le _,rfl,rfl,rfl⟩
 case round=>
  obtain⟨k,hk,rfl,rfl,hw⟩:=hrel;subst hw;by_cases hlt:k<n
  . have h1:k<l.length:=by rw[Hn.out];exact hlt
    obtain⟨b,o,hab,hc⟩:=dL.out.elem (f:=λc:UInt8=>[Value.int .i64 (c.toNat:Int)]) (sz:=1) (λ_=>rfl) zd k h1;have p0:wr.cell? ⟨b,o+k,none⟩=some (af (l[k].toNat:Int)):=by simpa using hc 0 zd
    have bD:=Av n cap k (k:Int) hab hlt rfl;rw[Nat.mul_one]at bD;have hs:=aqO l k h1;have hb1:=Dz.out k;have hb2:=Dz.out (k+1);obtain⟨x,hx⟩:∃x:Int,(l[k].toNat:Int)=x:=⟨_,rfl⟩;obtain⟨y,hy⟩:∃y:Int,(gN (l.take k):Int)=y:=⟨_,rfl⟩;obtain⟨z,hz⟩:∃z:Int,(gN (l.take (k+1)):Int)=z:=⟨_,rfl⟩;have hadd:IntKind.i64.wrap (y+x)=z:=by rw[IntKind.wrap_i64];omega
    rw[hx]at p0;rw[hy];have Hz:=aj hz;clear hx hy hz hs hb1 hb2 hc hab;go_wp2;go_roundw;case rel=>exact⟨k+1,by omega,by go_num,by rw[Hz.out],trivial⟩
    case measure=>exact bC
  . obtain rfl:k=n:=by omega
    have ht:l.take k=l:=List.take_of_length_le (by rw[Hn.out];exact Nat.le_refl _);rw[ht,HD.out];clear ht;go_wp2;refine bodyPost_ret (results_tmp rfl _ _ _) rfl ⟨rfl,Hb.out⟩
def nE (ts:List Trm):Nat:=ts.foldl (λn t=>max n (gN t.1)) 0
def aAH (ts:List Trm)(k:Nat)(hk:k<ts.length):nE (ts.take (k+1))=max (nE (ts.take k)) (gN ts[k].1):=by unfold nE;rw[List.take_succ_eq_append_getElem hk,List.foldl_append];rfl
def Yd (V:Int)(a:Option Addr)(cap N:Nat)(ts:List Trm)(w:World)(hN:ts.length=N)(hn:N<=1048576)(ha:At w a (ts.flatMap aY))(hl:∀t∈ts,t.1.length<=12/\∀c∈t.1,c.toNat<=127):
 Cv 9 #[.agg #[af V,.slice a N cap]] w (af (nE ts:Int)):=by
 obtain⟨Ha,Hl,HN⟩:=cw ha hl hN;clear ha hl hN;obtain⟨W,cE,ae,ak⟩:=il w 24 [af V,.slice a N cap];go_enter Tryz.func9,Tryz.ntmps9;go_wp2_with fail;go_loopw[3,9] (λs3 x wr=>∃k:Nat,k<=N/\x=af (k:Int)/\s3=af (nE (ts.take k):Int)/\Bw w wr) (λ_ x _=>N-(intOf x).toNat);case atStart=>exact⟨0,Nat.zero_le _,rfl,rfl,ae.1.out⟩
 case round=>
  skip
  obtain⟨k,hk,rfl,rfl,pb⟩:=hrel;by_cases hlt:k<N
  . have hk2:k<ts.length:=by rw[HN.out];exact hlt
    obtain⟨l,s,m,e,hx⟩:∃l s m e,ts[k]=(l,s,m,e):=⟨_,_,_,_,rfl⟩;obtain⟨b,o,hab,eG⟩:=(Ha.out.below pb).term k hk2 hx;have hl2:=Hl.out _ (List.getElem_mem hk2);have hst:=aAH ts k hk2;rw[hx]at hl2 hst;have bD:=sI N cap k (k:Int) hab hlt rfl;obtain⟨u,hu⟩:=aB (nE (ts.take k));rw[hu]at hst⊢;obtain⟨Hp,bR,qG,bo⟩:=dv eG hst hl2 pb;clear eG hst hl2 pb hx hab hu;have Hb:=hbz wr;obtain⟨ae,ak⟩:=qZ (Hp.an trivial);have p1:wr.cell? ⟨b,o+k*4+1,none⟩=some (ag s):=ae.1.out.cell 1 zm;have p0:wr.cell? ⟨b,o+k*4,none⟩=some (ah l):=ae.1.out.cell 0 zm;have p3:wr.cell? ⟨b,o+k*4+3,none⟩=some (af e):=ae.1.out.cell 3 zm;have p2:wr.cell? ⟨b,o+k*4+2,none⟩=some (ah m):=ae.1.out.cell 2 zm;have P0:=p0;have P1:=p1;have P2:=p2;have P3:=p3;obtain⟨W4,kV,aR,ae,ak⟩:=bX wr (Hb.an ae) 90 [ah l,ag s,ah m,af e];go_wp2_with fail;refine aJ ae (acl l _ (by have:=qG.out.1;omega) qG.out.2) λw5 ae ak=>?_;go_wp2;go_roundw;case rel=>exact⟨k+1,by omega,by go_num,by rw[bR.out];simp;omega,aI bo.out ae.2.1.out⟩
    case measure=>exact bC
  . obtain rfl:k=N:=by omega
    have hpt:ts.take k=ts:=List.take_of_length_le (by rw[HN.out];exact Nat.le_refl _);rw[hpt];go_wp2;refine bodyPost_ret (results_tmp rfl _ _ _) rfl ⟨rfl,pb⟩
end Go.Proofs.YtbkopgdpcijfbaaGreatDoor
