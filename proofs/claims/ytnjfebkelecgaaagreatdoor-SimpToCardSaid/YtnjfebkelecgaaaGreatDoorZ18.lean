/- Package mono: Exps. -/
import Derived.Test.YtnjfebkelecgaaaGreatDoorZ7
import Derived.Test.YtnjfebkelecgaaaGreatDoorZ9
import Derived.Test.YtnjfebkelecgaaaGreatDoorZ11
import Derived.Lib.OthersKept
import Derived.Test.YtnjfebkelecgaaaGreatDoorZ12
set_option linter.all false
set_option maxRecDepth 100000
set_option maxHeartbeats 16000000
namespace Go.Proofs.YtnjfebkelecgaaaGreatDoor
open Go.RowKit
attribute [local go_sem ↓] Go.wp_at_zero Go.wp_at_succ
def Tryz.aCy :(Tryz.prog.info? 3).map (λi=>(i.zero,i.size,i.bytes))=some (some (ah 0),1,8):=by kernel_rfl
def aqa (w:World)(k:Nat)(s:ByteArray)(pos:Nat):w.grownBy (w.iterAt k s pos) (some k):=
 ⟨rfl,rfl,rfl,by rw[Lib.iterAt_size];exact Nat.le_refl _,λi _ hne=>Lib.iterAt_other w k i s pos (λh=>hne (by rw[h]))⟩
def row_ne_iter {w:World}{B e size n:Nat}{v:Value}{xs:List Value}{k:Nat}{s:ByteArray}{pos:Nat}(h:w.ownsRow B e size v n xs)(hk:w.heap[k]?=some (.stringIter s pos)):v.ownBlock=none\/v.ownBlock≠some k:=by
 rcases h.2 with⟨rfl,_⟩ |⟨g,cap,cur,rfl,_,hg,_⟩
 . exact .inl rfl
 . refine .inr λe=>?_;simp only[Value.ownBlock,Option.some.injEq]at e;subst e;rw[hg]at hk;simp at hk
def ia (l:List UInt8):List Value:=l.map λc=>ah (c.toNat:Int)
def abu (a b:List UInt8):ia (a++b)=ia a++ia b:=by simp[ia]
def SD (l:List UInt8)(w:World)(hl:l.length<=1048576)(hall:∀c∈l,c.toNat<=127):
 Cl 126 #[.string (bs l)] w λe w'=>∃v,e=.returned v/\w'.ownsRow w.heap.size 3 1 v l.length (ia l)/\Bw w w':=by
 obtain⟨i0,hi,hz0,hz1,hz2⟩:=info_parts Tryz.aCy;obtain⟨n,hn⟩:=aI l.length;have hsz:(bs l).size=n:=by rw[gY,hn]
 have pj:=λW=>Eo l (n:Int) W zo;have hm:eN l (n:Int)=true:=by unfold eN;rw[hn];simp only[Bool.and_eq_true,List.all_eq_true,decide_eq_true_eq,and_true];exact hall
 rw[hm]at pj;have hget:∀k (h:k<(bs l).size) (h2:k<l.length),((bs l)[k]'h).toNat=l[k].toNat:=λk h h2=>by simp[bs,ByteArray.getElem_eq_getElem_data]
 rw[hn]at hl⊢;obtain⟨Hi,cV,cW,cC,Hn,kg,mJ,akf,pV⟩:=En hi hz0 hz1 hz2 hn pj hall hget hsz;clear hi hz0 hz1 hz2 hn pj hm hall hget;go_enter Tryz.func126,Tryz.ntmps126;have Hb:=hbz w;go_wp2_with fail;refine aZ (Hb.an trivial) (kg.out _) λw1 ag aC=>?_;have vN:=ag.1.out.size;have cm:Hid (Bw w (w1.iter (bs l) 0)):=ag.1.out.alloc zo _;have Zc:Hid ((w1.iter (bs l) 0).heap[w1.heap.size]?=some (.stringIter (bs l) 0)):=World.iter_heap w1 (bs l) 0;skip
 go_wp2_with fail;go_loopw[3] (λs3 wr=>∃(k:Nat) (v:Value),k<=n/\v=s3/\wr.heap[w1.heap.size]?=some (.stringIter (bs l) k)/\wr.ownsRow w.heap.size 3 1 v k (ia (l.take k))/\Bw w wr) (λ_ wr=>n-wr.iterPos w1.heap.size);case atStart=>exact⟨0,_,Nat.zero_le _,rfl,Zc.out,World.ownsRow_nil _ _ _ _,cm.out⟩
 case round=>
  clear cm Zc;obtain⟨k,v,hk,rfl,hit,ho,hb⟩:=hrel;by_cases hlt:k<n
  . have hp:k<(bs l).size:=by rw[pV.out];exact hlt
    have h1:k<l.length:=by rw[Hn.out];exact hlt
    have hc:=mJ.out _ (List.getElem_mem h1);have hg:=akf.out k hp h1;obtain⟨c,hcc⟩:∃c:Nat,l[k].toNat=c:=⟨_,rfl⟩;rw[hcc]at hc hg;have BO:∀ty,(Instr.next (.pointer (some ⟨w1.heap.size,0,none⟩)) true ty).run Tryz.prog wr=_:=λty=>Lib.run_next_ascii_at wr w1.heap.size (bs l) k ty hit hp (by rw[hg];omega);rw[hg]at BO;have uf:IntKind.i64.wrap (c:Int)=(c:Int):=by rw[IntKind.wrap_i64];omega
    have cu:Hid (ia (l.take (k+1))=ia (l.take k)++[ah (c:Int)]):=by
     show _=_
     rw[List.take_succ_eq_append_getElem h1,abu,<-hcc];rfl
    have hgr:=aqa wr w1.heap.size (bs l) (k+1);obtain⟨Qr,cm,lL⟩:=cE (Lib.iterAt_heap wr w1.heap.size (bs l) k (k+1) hit) (Lib.below_iterAt hb vN (bs l) (k+1)) (ho.kept hgr (row_ne_iter ho hit));have fT:wr.iterPos w1.heap.size=k:=by simp[World.iterPos,hit]
    have tB:=az fT;clear hgr fT hit ho hb hc hg hcc;generalize wr.iterAt w1.heap.size (bs l) (k+1)=W1 at BO Qr cm lL;have Hb:=hbz W1;obtain⟨cc,hcc⟩:∃cc:Int,(c:Int)=cc:=⟨_,rfl⟩;rw[hcc]at uf;simp only[hcc]at BO;rw[hcc]at cu;clear hcc;obtain⟨W2,nV,bi,ag,aC⟩:=cM W1 (Hb.an trivial) 3 [ah cc];have hv:=ownsRow_below lL.out ag.2.1.out;have hs2:=ag.2.1.out.size;have hs1:=cm.out.size;have hnews:=gK ag.1.out;skip
    go_wp2_with (at_builtin;refine wpList_append_own_at _ rfl _ _ 154 rfl w.heap.size 3 i0 _ 1 8 Tryz.underlying154 Hi.out cV.out cW.out cC.out rfl zd v k (ia (l.take k)) rfl hv ⟨W1.heap.size,0,none⟩ 1 1 [ah cc] rfl rfl hnews zy zx zo zo ?_;intro v' w3 nu hg3 _ _;obtain⟨g',cq,rfl⟩:=ownsRow_succ nu);have hlK:w1.heap.size<W1.heap.size:=(Array.getElem?_eq_some_iff.1 Qr.out).1;have hk2:W2.heap[w1.heap.size]?=some (.stringIter (bs l) (k+1)):=(ag.2.1.out.block _ hlK).trans Qr.out;have hk3:w3.heap[w1.heap.size]?=some (.stringIter (bs l) (k+1)):=by
     rw[hg3.block _ zo (by
      rcases row_ne_iter hv hk2 with h|h
      . rw[h];simp
      . exact λe=>h e.symm)]
     exact hk2
    have Zd:=az hk3;clear hk2 hk3;go_roundw;case rel=>
     refine⟨k+1,_,by omega,rfl,Zd.out,?_,?_⟩
     . rw[cu.out];exact nu
     . exact(cm.out.trans (ag.2.1.out.mono hs1)).grown hg3 zo (λj e=>dz hv j e)
    case measure=>
     have arq:w3.iterPos w1.heap.size=k+1:=by simp[World.iterPos,Zd.out]
     rw[tB.out,arq];omega
  . obtain rfl:k=n:=by omega
    have BO:∀ty,(Instr.next (.pointer (some ⟨w1.heap.size,0,none⟩)) true ty).run Tryz.prog wr=_:=λty=>Lib.run_next_end_at wr w1.heap.size (bs l) k ty hit (by rw[pV.out];omega);have ht:l.take k=l:=List.take_of_length_le (by rw[Hn.out];exact Nat.le_refl _);rw[ht]at ho;obtain⟨Ho,Hb⟩:=aU ho hb;clear ho hb ht hit;go_wp2;refine bodyPost_ret (results_tmp rfl _ _ _) rfl ⟨v,rfl,Ho.out,Hb.out⟩
def Mv (l:List UInt8):(l.flatMap λc=>[Value.int .i64 (c.toNat:Int)])=ia l:=by
 induction l with
 |nil=>rfl
 |cons c cs ih=>rw[List.flatMap_cons,ih];rfl
def iu (l:List UInt8):Nat:=(l.map λc=>c.toNat).sum
def abb (l:List UInt8)(k:Nat)(h:k<l.length):iu (l.take (k+1))=iu (l.take k)+l[k].toNat:=by unfold iu;rw[List.take_succ_eq_append_getElem h,List.map_append,List.sum_append];simp
def aa9 (l:List UInt8):iu l<=255*l.length:=by
 induction l with
 |nil=>simp[iu]
 | cons c cs ih=>
   have h:iu (c::cs)=c.toNat+iu cs:=by simp[iu]
   have h2:c.toNat<=255:=by have:=c.toNat_lt;omega
   rw[h,List.length_cons];omega
def aoN (l:List UInt8)(w:World)(hl:l.length<=1048576)(hall:∀c∈l,c.toNat<=127):
 Cv 86 #[ai l] w (ah (iu l:Int)):=by
 have Ud:=λW=>SD l W hl hall;obtain⟨n,hn⟩:=aI l.length;obtain⟨D,hD⟩:=aI (iu l);rw[hD];have hle:∀k,iu (l.take k)<=267386880:=by
  intro k;have h1:=aa9 (l.take k);have h2:(l.take k).length<=l.length:=by rw[List.length_take];exact Nat.min_le_right _ _
  omega
 rw[hn]at hl;simp only[hn]at Ud;obtain⟨ajU,Hn,HD,CS⟩:=dP Ud hn hD hle;clear Ud hn hD hall hle;go_enter Tryz.func86,Tryz.ntmps86;have Hb:=hbz w;go_wp2_with fail;refine(ajU.out _).mono ?_;rintro e w1 ⟨v,rfl,ho,au⟩;obtain⟨a,cap,rfl,hat,_⟩:=dm ho;have jT:At w1 a (l.flatMap λc=>[Value.int .i64 (c.toNat:Int)]):=by rw[Mv];exact hat
 have eZ:=az jT;replace Hb:=az (aO Hb.out au);clear ho hat jT au;go_wp2_with fail;go_loopw[3,9] (λs3 x wr=>∃k:Nat,k<=n/\x=ah (k:Int)/\s3=ah (iu (l.take k):Int)/\wr=w1) (λ_ x _=>n-(intOf x).toNat);case atStart=>exact⟨0,Nat.zero_le _,rfl,rfl,rfl⟩
 case round=>
  obtain⟨k,hk,rfl,rfl,hw⟩:=hrel;subst hw;by_cases hlt:k<n
  . have h1:k<l.length:=by rw[Hn.out];exact hlt
    obtain⟨b,o,hab,hc⟩:=eZ.out.elem (f:=λc:UInt8=>[Value.int .i64 (c.toNat:Int)]) (sz:=1) (λ_=>rfl) zd k h1;have p0:wr.cell? ⟨b,o+k,none⟩=some (ah (l[k].toNat:Int)):=by simpa using hc 0 zd
    have bC:=xx n cap k (k:Int) hab hlt rfl;rw[Nat.mul_one]at bC;have hs:=abb l k h1;have hb1:=CS.out k;have hb2:=CS.out (k+1);obtain⟨x,hx⟩:∃x:Int,(l[k].toNat:Int)=x:=⟨_,rfl⟩;obtain⟨y,hy⟩:∃y:Int,(iu (l.take k):Int)=y:=⟨_,rfl⟩;obtain⟨z,hz⟩:∃z:Int,(iu (l.take (k+1)):Int)=z:=⟨_,rfl⟩;have hadd:IntKind.i64.wrap (y+x)=z:=by rw[IntKind.wrap_i64];omega
    rw[hx]at p0;rw[hy];have Hz:=az hz;clear hx hy hz hs hb1 hb2 hc hab;go_wp2;go_roundw;case rel=>exact⟨k+1,by omega,by go_num,by rw[Hz.out],trivial⟩
    case measure=>exact bH
  . obtain rfl:k=n:=by omega
    have ht:l.take k=l:=List.take_of_length_le (by rw[Hn.out];exact Nat.le_refl _);rw[ht,HD.out];clear ht;go_wp2;refine bodyPost_ret (results_tmp rfl _ _ _) rfl ⟨rfl,Hb.out⟩
def iq (ts:List aM):Nat:=ts.foldl (λn t=>max n (iu t.1)) 0
def ahF (ts:List aM)(k:Nat)(hk:k<ts.length):iq (ts.take (k+1))=max (iq (ts.take k)) (iu ts[k].1):=by unfold iq;rw[List.take_succ_eq_append_getElem hk,List.foldl_append];rfl
def Xl (V:Int)(a:Option Addr)(cap N:Nat)(ts:List aM)(w:World)(hN:ts.length=N)(hn:N<=1048576)(ha:At w a (ts.flatMap aW))(hl:∀t∈ts,t.1.length<=12/\∀c∈t.1,c.toNat<=127):
 Cv 42 #[.agg #[ah V,.slice a N cap]] w (ah (iq ts:Int)):=by
 obtain⟨Ha,Hl,HN⟩:=cE ha hl hN;clear ha hl hN;obtain⟨W,cP,ag,aC⟩:=gz w 24 [ah V,.slice a N cap];go_enter Tryz.func42,Tryz.ntmps42;go_wp2_with fail;go_loopw[3,9] (λs3 x wr=>∃k:Nat,k<=N/\x=ah (k:Int)/\s3=ah (iq (ts.take k):Int)/\Bw w wr) (λ_ x _=>N-(intOf x).toNat);case atStart=>exact⟨0,Nat.zero_le _,rfl,rfl,ag.1.out⟩
 case round=>
  skip
  obtain⟨k,hk,rfl,rfl,pb⟩:=hrel;by_cases hlt:k<N
  . have hk2:k<ts.length:=by rw[HN.out];exact hlt
    obtain⟨l,s,m,e,hx⟩:∃l s m e,ts[k]=(l,s,m,e):=⟨_,_,_,_,rfl⟩;obtain⟨b,o,hab,cn⟩:=(Ha.out.below pb).term k hk2 hx;have hl2:=Hl.out _ (List.getElem_mem hk2);have hst:=ahF ts k hk2;rw[hx]at hl2 hst;have bC:=gQ N cap k (k:Int) hab hlt rfl;obtain⟨u,hu⟩:=aI (iq (ts.take k));rw[hu]at hst⊢;obtain⟨Hp,cu,lJ,aX⟩:=dP cn hst hl2 pb;clear cn hst hl2 pb hx hab hu;have Hb:=hbz wr;obtain⟨ag,aC⟩:=qZ (Hp.an trivial);have p1:wr.cell? ⟨b,o+k*4+1,none⟩=some (aj s):=ag.1.out.cell 1 zm;have p3:wr.cell? ⟨b,o+k*4+3,none⟩=some (ah e):=ag.1.out.cell 3 zm;have p2:wr.cell? ⟨b,o+k*4+2,none⟩=some (ai m):=ag.1.out.cell 2 zm;have p0:wr.cell? ⟨b,o+k*4,none⟩=some (ai l):=ag.1.out.cell 0 zm;have P0:=p0;have P1:=p1;have P2:=p2;have P3:=p3;obtain⟨W4,rD,bi,ag,aC⟩:=cM wr (Hb.an ag) 67 [ai l,aj s,ai m,ah e];go_wp2_with fail;refine aZ ag (aoN l _ (by have:=lJ.out.1;omega) lJ.out.2) λw5 ag aC=>?_;go_wp2;go_roundw;case rel=>exact⟨k+1,by omega,by go_num,by rw[cu.out];simp;omega,aO aX.out ag.2.1.out⟩
    case measure=>exact bH
  . obtain rfl:k=N:=by omega
    have hpt:ts.take k=ts:=List.take_of_length_le (by rw[HN.out];exact Nat.le_refl _);rw[hpt];go_wp2;refine bodyPost_ret (results_tmp rfl _ _ _) rfl ⟨rfl,pb⟩
def okW (x:Raw):Prop:=x.2.1.length<=12/\ -60<=x.2.2/\x.2.2<=60
def We {x:Raw}(h:okW x):Fit 192 x:=by obtain⟨h1,h2,h3⟩:=h;exact⟨⟨by omega,by omega,by omega⟩,Sm.raw (B:=96) zo zo zo⟩
def RV {α:Type}{cd:List α}{Q:α->Prop}{k:Nat}(hk:k<cd.length)(h:∀x∈cd.take k,Q x)(hx:Q cd[k]):∀x∈cd.take (k+1),Q x:=by
 intro x hm;rw[List.take_succ_eq_append_getElem hk,List.mem_append]at hm;rcases hm with hm|hm
 . exact h x hm
 . simp at hm;rw[hm];exact hx
def Ru (Q:Prop)(e:Ending):Prop:=∃b,e=.returned (aj b)/\(b=false->Q)
def abz (c:List Raw)(n:Nat)(a:Option Addr)(cv:Nat)(w:World)(hn:c.length=n)(hl:n<=1099511627776)(ha:At w a (c.flatMap bK)):
 Cl 16 #[.slice a n cv] w λe w'=>Ru (∀x∈c,okW x) e/\Bw w w':=by
 obtain⟨eZ,Hn⟩:=aU ha hn;clear ha hn;go_enter Tryz.func16,Tryz.ntmps16;go_wp2_with fail;go_loopw[3] (λx wr=>∃j:Nat,j<=n/\x=ah (j:Int)/\(∀y∈c.take j,okW y)/\Bw w wr) (λx _=>n-(intOf x).toNat);case atStart=>exact⟨0,Nat.zero_le _,rfl,(λy hy=>by simp at hy),Below.refl _ _⟩
 case round=>
  obtain⟨j,hj,rfl,hok,qb⟩:=hrel;by_cases bj:j<n
  . have fS:j<c.length:=by rw[Hn.out];exact bj
    obtain⟨s,m,e,hx⟩:=na (c[j]);obtain⟨b1,o1,rfl,p0,p1,p2⟩:=(eZ.out.below qb).num j fS hx;have sI:=nD n cv j (j:Int) (rfl:(some ⟨b1,o1,none⟩:Option Addr)=_) bj rfl;have hsz:(bs m).size=m.length:=gY m;obtain⟨fA,FQ,uV⟩:=cE qb hok hx;clear qb hok hx;by_cases g:m.length<=12/\ -60<=e/\e<=60
    . obtain⟨g1,g2,g3⟩:=g;have g4:¬(12:Int)<(m.length:Int):=by omega
      have g5:¬e< -60:=by omega
      have g6:¬60<e:=by omega
      go_wp2;go_roundw;case rel=>exact⟨j+1,by omega,by go_num,RV fS FQ.out (by rw[uV.out];exact⟨g1,g2,g3⟩),fA.out⟩
      case measure=>exact bH
    . rcases (show(12:Int)<(m.length:Int)\/(¬(12:Int)<(m.length:Int)/\e< -60)\/(¬(12:Int)<(m.length:Int)/\¬e< -60/\60<e)by omega)with g1|⟨g1,g2⟩ |⟨g1,g2,g3⟩;all_goals
       clear g
       go_wp2
       refine bodyPost_ret (results_tmp rfl _ _ _) rfl ⟨⟨true,rfl,λh=>by cases h⟩,fA.out⟩
  . obtain rfl:j=n:=by omega
    have hall:∀y∈c,okW y:=by have:=hok;rwa [<-Hn.out,List.take_length]at this
    obtain⟨mJ,fA⟩:=aU hall qb;clear hok hall qb;go_wp2;refine bodyPost_ret (results_tmp rfl _ _ _) rfl ⟨⟨false,rfl,λ_=>mJ.out⟩,fA.out⟩
def LJ (rows:List (List Raw)):Prop:=rows.length<=4/\∀r∈rows,r.length<=4/\∀x∈r,okW x
def ax5 (rows:List (List Raw))(L:Nat)(a:Option Addr)(cap:Nat)(w:World)(hL:rows.length=L)(ha:bQ w a rows):
 Cl 7 #[.slice a L cap] w λe w'=>Ru (LJ rows) e/\Bw w w':=by
 obtain⟨Ha,HL⟩:=aU ha hL;clear ha hL;have Hb:=hbz w;by_cases h5:4<L
 . have SU:(4:Int)<(L:Int):=by omega
   go_enter Tryz.func7,Tryz.ntmps7;go_wp2;refine bodyPost_ret (results_tmp rfl _ _ _) rfl ⟨⟨true,rfl,λh=>by cases h⟩,Hb.out⟩
 have SU:¬(4:Int)<(L:Int):=by omega
 go_enter Tryz.func7,Tryz.ntmps7;go_wp2_with fail;go_loopw[3] (λx wr=>∃j:Nat,j<=L/\x=ah (j:Int)/\(∀y∈rows.take j,y.length<=4/\∀x∈y,okW x)/\Bw w wr) (λx _=>L-(intOf x).toNat);case atStart=>exact⟨0,Nat.zero_le _,rfl,(λy hy=>by simp at hy),Hb.out⟩
 case round=>
  clear Hb;obtain⟨k,hk,rfl,hok,qb⟩:=hrel;by_cases hlt:k<L
  . have hk2:k<rows.length:=by rw[HL.out];exact hlt
    obtain⟨b,o,a1,c1,rfl,hcell,hat⟩:=Ha.out.row k hk2;have bC:=rJ L cap k (k:Int) (rfl:(some ⟨b,o,none⟩:Option Addr)=_) hlt rfl;rw[Nat.mul_one]at bC;obtain⟨R,hR⟩:=aI (rows[k]);rw[hR]at hcell hat;obtain⟨n,hn⟩:=aI R.length;rw[hn]at hcell;have TS:=cell_later qb hcell;obtain⟨fA,FQ,eZ,Hn,HR⟩:=fH qb hok hat hn hR;clear qb hok hat hn hR hcell;by_cases g:4<n
    . have gi:(4:Int)<(n:Int):=by omega
      go_wp2;refine bodyPost_ret (results_tmp rfl _ _ _) rfl ⟨⟨true,rfl,λh=>by cases h⟩,fA.out⟩
    . have gi:¬(4:Int)<(n:Int):=by omega
      go_wp2_with fail;refine(abz R n a1 c1 _ Hn.out zo (eZ.out.below fA.out)).mono ?_;rintro e w5 ⟨⟨v,rfl,hv⟩,au⟩;obtain⟨Hv,eP⟩:=aU hv (aO fA.out au);clear hv au TS;cases v with
      |true=>go_wp2;refine bodyPost_ret (results_tmp rfl _ _ _) rfl ⟨⟨true,rfl,λh=>by cases h⟩,eP.out⟩
      | false=>
        have oK:Hid (rows[k].length<=4/\∀x∈rows[k],okW x):=by show _/\_;rw[HR.out];exact⟨by rw[Hn.out];omega,Hv.out rfl⟩
        go_wp2;go_roundw;case rel=>exact⟨k+1,by omega,by go_num,RV hk2 FQ.out oK.out,eP.out⟩
        case measure=>exact bH
  . obtain rfl:k=L:=by omega
    have hall:∀y∈rows,y.length<=4/\∀x∈y,okW x:=by have:=hok;rwa [<-HL.out,List.take_length]at this
    have QI:Hid (LJ rows):=⟨by rw[HL.out];omega,hall⟩;have fA:=az qb;clear hok hall qb;go_wp2;refine bodyPost_ret (results_tmp rfl _ _ _) rfl ⟨⟨false,rfl,λ_=>QI.out⟩,fA.out⟩
def Xk (V:Int)(a:Option Addr)(cap N:Nat)(ts:List aM)(w:World)(hN:ts.length=N)(hn:N<=1000)(hl:∀t∈ts,t.1.length<=1000)(ha:At w a (ts.flatMap aW)):
 Cv 32 #[.agg #[ah V,.slice a N cap]] w (ah (iq ts:Int)):=by
 obtain⟨Ha,HN,Hl⟩:=cE ha hN hl;clear ha hN hl;have Hb:=hbz w;go_enter Tryz.func32,Tryz.ntmps32;go_wp2_with fail;refine il w (Hb.an trivial) 24 [ah V,.slice a N cap] λW bi ag aC=>?_;have mN:=ag.1;have dM:=ag.2.1;go_wp2_with fail;go_loopw[3,4] (λs3 x wr=>∃(k:Nat) (v:Value) (z:Nat),k<=N/\x=ah (k:Int)/\v=s3/\v=ah (z:Int)/\iq (ts.take k)=z/\wr=W) (λ_ x _=>N-(intOf x).toNat);case atStart=>exact⟨0,_,0,Nat.zero_le _,rfl,rfl,rfl,rfl,rfl⟩
 case round=>
  obtain⟨k,v,z,hk,rfl,rfl,rfl,hz,hw⟩:=hrel;subst hw;have Hz:=az hz;clear hz;by_cases hlt:k<N
  . have hk2:k<ts.length:=by rw[HN.out];exact hlt
    obtain⟨l,s,m,e,hx⟩:∃l s m e,ts[k]=(l,s,m,e):=⟨_,_,_,_,rfl⟩;obtain⟨b,o,rfl,cn⟩:=(Ha.out.below ag.2.1.out).term k hk2 hx;have hl2:=Hl.out _ (List.getElem_mem hk2);rw[hx]at hl2;have bC:=gQ N cap k (k:Int) (rfl:(some ⟨b,o,none⟩:Option Addr)=_) hlt rfl;obtain⟨n,iO⟩:=aI l.length;have hsz:(bs l).size=n:=by rw[gY,iO]
    have t0:wr.cell? ⟨b,o+k*4,none⟩=some (ai l):=cn.cell 0 zm;have Cf:=ahF ts k hk2;rw[hx,Hz.out]at Cf;obtain⟨lJ,Ay,Hzk⟩:=cE hl2 iO Cf;clear hl2 iO cn hx Cf;obtain⟨wo,hwo⟩:∃wo,wo=wr:=⟨_,rfl⟩;subst hwo;go_wp2_with fail;go_loopw[5,6] (λs5 x wr=>∃(j:Nat) (v:Value) (y:Nat),j<=n/\x=ah (j:Int)/\v=s5/\v=ah (y:Int)/\iu (l.take j)=y/\wr=wo) (λ_ x _=>n-(intOf x).toNat);case atStart=>exact⟨0,_,0,Nat.zero_le _,rfl,rfl,rfl,rfl,rfl⟩
    case round=>
     obtain⟨j,v,y,hj,rfl,rfl,rfl,hy,hw⟩:=hrel;subst hw;by_cases bj:j<n
     . have fS:j<l.length:=by rw[Ay.out];exact bj
       have ix:=uv l (j:Int) j fS rfl;have hnl:n<=1000:=by rw[<-Ay.out];exact lJ.out
       have rI:iu (l.take (j+1))=y+(l[j]).toNat:=by rw[abb l j fS,hy]
       have hy9:y<=255*1000:=by rw[<-hy];exact Nat.le_trans (aa9 _) (Nat.mul_le_mul_left _ (by rw[List.length_take];omega))
       obtain⟨c,hc⟩:=aI ((l[j]).toNat);rw[hc]at ix rI;have Iz:c<=255:=by rw[<-hc];have:=(l[j]).toNat_lt;omega
       have hwy:IntKind.i64.wrap ((y:Int)+(c:Int))=((y+c:Nat):Int):=by rw[IntKind.wrap_i64];omega
       have gg:=az rI;clear hy rI hc;go_wp2;go_roundw;case rel=>exact⟨j+1,_,y+c,by omega,by go_num,rfl,rfl,gg.out,by first|trivial|rfl⟩
       case measure=>exact bH
     . obtain rfl:j=n:=by omega
       rw[List.take_of_length_le (by rw[Ay.out];exact Nat.le_refl _)]at hy;have hmx:max (z:Int) (y:Int)=((max z y:Nat):Int):=by omega
       have Hy:=az hy;clear hy;go_wp2;go_roundw;case rel=>exact⟨k+1,_,max z y,by omega,by go_num,rfl,rfl,by rw[Hzk.out];show max z (iu l)=_;rw[Hy.out],by first|trivial|rfl⟩
       case measure=>exact bH
  . obtain rfl:k=N:=by omega
    have hz2:=Hz.out;rw[List.take_of_length_le (by rw[HN.out];exact Nat.le_refl _)]at hz2;have cC:=az hz2;clear hz2;go_wp2;refine bodyPost_ret (results_tmp rfl _ _ _) rfl ⟨by rw[cC.out];rfl,dM.out⟩
def LK (ts:List aM):Prop:=ts.length<=12/\∀t∈ts,t.1.length<=12/\okW t.2
def ayk (V:Int)(a:Option Addr)(cap N:Nat)(ts:List aM)(w:World)(hN:ts.length=N)(ha:At w a (ts.flatMap aW)):
 Cl 6 #[.agg #[ah V,.slice a N cap]] w λe w'=>Ru (LK ts) e/\Bw w w':=by
 obtain⟨Ha,HN⟩:=aU ha hN;clear ha hN;obtain⟨W,cP,ag,aC⟩:=gz w 24 [ah V,.slice a N cap];have mN:=ag.2.1;have dM:=ag.1;by_cases h5:12<N
 . have SU:(12:Int)<(N:Int):=by omega
   go_enter Tryz.func6,Tryz.ntmps6;go_wp2;refine bodyPost_ret (results_tmp rfl _ _ _) rfl ⟨⟨true,rfl,λh=>by cases h⟩,ag.1.out⟩
 have SU:¬(12:Int)<(N:Int):=by omega
 go_enter Tryz.func6,Tryz.ntmps6;go_wp2_with fail;go_loopw[3] (λx wr=>∃k:Nat,k<=N/\x=ah (k:Int)/\(∀y∈ts.take k,y.1.length<=12/\okW y.2)/\Bw W wr) (λx _=>N-(intOf x).toNat);case atStart=>exact⟨0,Nat.zero_le _,rfl,(λy hy=>by simp at hy),Below.refl _ _⟩
 case round=>
  skip
  obtain⟨k,hk,rfl,hok,qb⟩:=hrel;have bE:=aO dM.out qb;have Hp:=az (mN.out.below qb);by_cases hlt:k<N
  . have hk2:k<ts.length:=by rw[HN.out];exact hlt
    obtain⟨l,s,m,e,hx⟩:∃l s m e,ts[k]=(l,s,m,e):=⟨_,_,_,_,rfl⟩;obtain⟨b,o,rfl,cn⟩:=(Ha.out.below bE).term k hk2 hx;have bC:=gQ N cap k (k:Int) (rfl:(some ⟨b,o,none⟩:Option Addr)=_) hlt rfl;obtain⟨n,iO⟩:=aI l.length;have hsz:(bs l).size=n:=by rw[gY,iO]
    obtain⟨fA,LA,FQ,uV,Ay⟩:=fH bE qb hok hx iO;have Ht:Hid (bA wr b (o+k*4) [ai l,aj s,ai m,ah e]):=cn;clear qb hok hx bE iO cn;have Hb:=hbz wr;obtain⟨ag,aC⟩:=qZ (Hp.an<|Ht.an trivial);by_cases g:12<n
    . have gi:(12:Int)<(n:Int):=by omega
      go_wp2;refine bodyPost_ret (results_tmp rfl _ _ _) rfl ⟨⟨true,rfl,λh=>by cases h⟩,fA.out⟩
    . have gi:¬(12:Int)<(n:Int):=by omega
      obtain⟨W4,rD,bi,ag,aC⟩:=cM wr (Hb.an ag) 48 [aj s,ai m,ah e];go_wp2_with fail;refine(abz [(s,m,e)] 1 (some ⟨wr.heap.size,0,none⟩) 1 _ rfl zd (At.aCi ag.1.out)).mono ?_;rintro e w5 ⟨⟨v,rfl,hv⟩,au⟩;obtain⟨ag,aC⟩:=qX au ag;obtain⟨Hv,eP⟩:=aU hv (LA.out.trans (ag.2.1.out.mono LA.out.size));clear hv;cases v with
      |true=>go_wp2;refine bodyPost_ret (results_tmp rfl _ _ _) rfl ⟨⟨true,rfl,λh=>by cases h⟩,aO dM.out eP.out⟩
      | false=>
        have oK:Hid (ts[k].1.length<=12/\okW ts[k].2):=by show _/\_;rw[uV.out];exact⟨by show l.length<=12;rw[Ay.out];omega,Hv.out rfl _ zm⟩
        go_wp2;go_roundw;case rel=>exact⟨k+1,by omega,by go_num,RV hk2 FQ.out oK.out,eP.out⟩
        case measure=>exact bH
  . obtain rfl:k=N:=by omega
    have hall:∀y∈ts,y.1.length<=12/\okW y.2:=by have:=hok;rwa [<-HN.out,List.take_length]at this
    have QI:Hid (LK ts):=⟨by rw[HN.out];omega,hall⟩;have jJ:=λW (hW:Bw w W)=>(Xk V a cap k ts W HN.out zo (λt ht=>by have:=(hall t ht).1;omega) (Ha.out.below hW)).mono (λe w9 h=>(⟨⟨_,h.1⟩,h.2⟩:(∃z:Int,e=.returned (ah z))/\Bw W w9));have uU:=az jJ;have Hb:Hid (Bw w wr):=bE;clear hok hall qb jJ bE;obtain⟨ag,aC⟩:=qZ (Hp.an trivial);go_wp2_with fail;refine(uU.out _ Hb.out).mono ?_;rintro e w6 ⟨⟨z,rfl⟩,au⟩;obtain⟨ag,aC⟩:=qX au (Hb.an ag);go_wp2;refine bodyPost_ret (results_tmp rfl _ _ _) rfl ⟨⟨decide (5<z),rfl,λ_=>QI.out⟩,ag.1.out⟩
end Go.Proofs.YtnjfebkelecgaaaGreatDoor
