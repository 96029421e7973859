/- Package whole,on: Sub,Cmp,Mul,Shift. -/
import Derived.Test.YtdaadlblknpipaaGreatDoorZ6
import Derived.Deep.DeepCutAuto
set_option linter.unusedVariables false
set_option linter.unusedSimpArgs false
set_option maxRecDepth 100000
set_option maxHeartbeats 16000000
namespace Go.Proofs.YtdaadlblknpipaaGreatDoor
open Go.RowKit
attribute [local go_sem ↓] Go.wp_at_zero Go.wp_at_succ
theorem ZM (s:Bool)(l:List UInt8)(t:Bool)(m:List UInt8)(b cap:Nat)(ty:TypeId)(w:World)(hl:l.length<=34359738368)(hm:m.length<=34359738368)
 (ha:ai w b ty [.bool s,.string (bs l),.bool t,.string (bs m)]):
 Calls Tryz.prog 76 #[.slice (some ⟨b,0,none⟩) 2 cap] w λe w'=>e=.returned (cE (iv s l+iv t m))/\Bw w w':=by
 have:=anD [(s,l),(t,m)] (some ⟨b,0,none⟩) cap w (by simp[hl,hm]) zm (At.arG ha);have e:kx [(s,l),(t,m)]=iv s l+iv t m:=by simp[kx]
 rw[e]at this;exact this
theorem Di (s:Bool)(m:List UInt8)(B:Nat)(hm:m.length<=B):(nt (-(iv s m)).natAbs).length<=B:=by rw[Int.natAbs_neg,nO];exact iQ (Nat.lt_of_lt_of_le (fW m) (Nat.pow_le_pow_right zd hm))
theorem IC (s:Bool)(l:List UInt8)(N:Int)(hN: -(iv s l)=N)(w:World)(hl:l.length<=1099511627776):
 Calls Tryz.prog 107 #[.agg #[.bool s,.string (bs l)]] w λe w'=>e=.returned (cE N)/\Bw w w':=by
 subst hN;exact ZQ s l w hl
theorem Pk (s:Bool)(l:List UInt8)(t:Bool)(m:List UInt8)(w:World)(hl:l.length<=34359738368)(hm:m.length<=34359738368):
 Calls Tryz.prog 109 #[.agg #[.bool s,.string (bs l)],.agg #[.bool t,.string (bs m)]] w λe w'=>e=.returned (cE (iv s l-iv t m))/\Bw w w':=by
 have hm2:=Di t m 34359738368 hm;have He:Hid (iv s l+iv (ar (-(iv t m))) (nt (-(iv t m)).natAbs)=iv s l-iv t m):=by show _=_;rw[fc];omega
 generalize hN: -(iv t m)=N at*;have HN:=ah hN;clear hN;go_enter Tryz.func109,Tryz.ntmps109;have Hb:Hid (Bw w w):=Below.refl _ _;go_wp2_with fail;obtain⟨R,hR⟩:∃R:World->Prop,(λW=>ai W (w.heap.size) 28 [.bool s,.string (bs l)]/\ai W (w.heap.size+1) 28 [.bool t,.string (bs m)]/\ai W (w.heap.size+1+1) 28 [.bool false,.string (bs [])]/\Bw w W)=R:=⟨_,rfl⟩;first|refine bE R ?hR ?_|refine bD R ?hR ?_
 case hR=>subst hR;exact⟨(((ai.newAt w _ _ (b:=w.heap.size) rfl).alloc _).alloc _),((ai.newAt (w.alloc _) _ _ (b:=w.heap.size+1) zm).alloc _),(ai.newAt ((w.alloc _).alloc _) _ _ (b:=w.heap.size+1+1) zm),((zl.alloc zj _).alloc zj _)⟩
 subst hR;rintro W ⟨qx,qy,qr,ae⟩;have Hx:=ah qx;clear qx;have Hy:=ah qy;clear qy;have Hr:=ah qr;clear qr;obtain⟨x0,x1⟩:=Hx.out.c2;obtain⟨y0,y1⟩:=Hy.out.c2;obtain⟨r0,aj,r1,ak⟩:=Hr.out.g2;replace Hb:=au Hb ae;clear ae;have NP:w.heap.size≠w.heap.size+1+1:=by omega
 have Yk:w.heap.size+1≠w.heap.size+1+1:=by omega
 go_region_held3 (λw'=>w'.cell? ⟨w.heap.size,0,none⟩=some (.bool s)/\w'.cell? ⟨w.heap.size,1,none⟩=some (.string (bs l))/\w'.cell? ⟨w.heap.size+1,0,none⟩=some (.bool t)/\w'.cell? ⟨w.heap.size+1,1,none⟩=some (.string (bs m))) (((try dsimp only);go_split_ands;(repeat' apply And.intro)<;>(first|exact True.intro|with_reducible assumption| ((with_reducible refine ft zg ?_);(repeat(with_reducible refine ft zg ?_));with_reducible assumption) |exact cell_later (by with_reducible assumption) (by with_reducible assumption) |exact aG (by with_reducible assumption) |go_keep))) (first| (go_at_call 107;(with_reducible refine(IC t m N HN.out _ zo).mono ?_);rintro e w1 ⟨rfl,hq⟩;have hw1:Bw W w1:=(by first|exact aN hq|exact hq|exact pF hq|exact pE hq|exact sB hq);clear hq;have jY:=ah (Hx.out.below hw1);have yc:w1.cell? ⟨w.heap.size,0,none⟩=some (.bool s):=jY.out.cell 0;have ye:w1.cell? ⟨w.heap.size,1,none⟩=some (.string (bs l)):=jY.out.cell 1;have nZ:=ah (Hy.out.below hw1);have Ef:w1.cell? ⟨w.heap.size+1,0,none⟩=some (.bool t):=nZ.out.cell 0;have Eg:w1.cell? ⟨w.heap.size+1,1,none⟩=some (.string (bs m)):=nZ.out.cell 1;have gG:=ah (Hr.out.below hw1);have xW:w1.cell? ⟨w.heap.size+1+1,0,none⟩=some (.bool false):=gG.out.cell 0;have wM:w1.frozen? ⟨w.heap.size+1+1,0,none⟩=false:=gG.out.free 0;have xX:w1.cell? ⟨w.heap.size+1+1,1,none⟩=some (.string (bs [])):=gG.out.cell 1;have wN:w1.frozen? ⟨w.heap.size+1+1,1,none⟩=false:=gG.out.free 1) | (go_at_call 76;(with_reducible refine(ZM s l (ar N) (nt N.natAbs) w1.heap.size 2 28 _ hl hm2 (by first|exact ai.drew (ai.new _ _ _) |exact ai.new _ _ _)).mono ?_);rintro e w2 ⟨rfl,hq⟩;have hw2:Bw w1 w2:=(by first|exact aN hq|exact hq|exact pF hq|exact pE hq|exact sB hq);clear hq;have wz:=ah (jY.out.below hw2);have Px:w2.cell? ⟨w.heap.size,0,none⟩=some (.bool s):=wz.out.cell 0;have Py:w2.cell? ⟨w.heap.size,1,none⟩=some (.string (bs l)):=wz.out.cell 1;have Kw:=ah (nZ.out.below hw2);have an8:w2.cell? ⟨w.heap.size+1,0,none⟩=some (.bool t):=Kw.out.cell 0;have an9:w2.cell? ⟨w.heap.size+1,1,none⟩=some (.string (bs m)):=Kw.out.cell 1;have pq:=ah (gG.out.below hw2);have Oq:w2.cell? ⟨w.heap.size+1+1,0,none⟩=some (.bool false):=pq.out.cell 0;have Lj:w2.frozen? ⟨w.heap.size+1+1,0,none⟩=false:=pq.out.free 0;have Ot:w2.cell? ⟨w.heap.size+1+1,1,none⟩=some (.string (bs [])):=pq.out.cell 1;have Ll:w2.frozen? ⟨w.heap.size+1+1,1,none⟩=false:=pq.out.free 1))
 replace Hb:=ah (aJ Hb.out hw1);clear hw1;replace Hb:=ah (aJ Hb.out hw2);clear hw2 x0 x1 y0 y1 r0 aj r1 ak;replace Hx:=wz;clear jY yc ye Px Py;replace Hy:=Kw;clear nZ Ef Eg an8 an9;replace Hr:=pq;clear gG xW wM xX wN Oq Lj Ot Ll;obtain⟨x0,x1⟩:=Hx.out.c2;obtain⟨y0,y1⟩:=Hy.out.c2;obtain⟨r0,aj,r1,ak⟩:=Hr.out.g2;rw[He.out];go_wp2;refine bodyPost_ret (v:=cE (iv s l-iv t m)) (by simp[results,Tryz.results109,go_sem,r0,r1]) rfl ⟨rfl,?_⟩;(repeat first|exact Hb.out| (refine Below.setCell ?_ (by have:=Hb.out.size;first| (dsimp only;omega) | (show _<=_;omega) | (simp<;>omega)) _) | (refine Below.alloc ?_ zt _) |refine Below.drew ?_)
theorem anG (s:Bool)(l:List UInt8)(t:Bool)(m:List UInt8)(w:World)(hl:l.length<=34359738368)(hm:m.length<=34359738368)(hd:(nt (iv s l-iv t m).natAbs).length<=1099511627776):
 Calls Tryz.prog 72 #[.agg #[.bool s,.string (bs l)],.agg #[.bool t,.string (bs m)]] w λe w'=>e=.returned (.int .i64 (dW (iv s l-iv t m)))/\Bw w w':=by
 have Hi:=ah (fc (iv s l-iv t m));go_enter Tryz.func72,Tryz.ntmps72;have Hb:Hid (Bw w w):=Below.refl _ _;go_wp2_with fail;obtain⟨R,hR⟩:∃R:World->Prop,(λW=>ai W (w.heap.size) 28 [.bool s,.string (bs l)]/\ai W (w.heap.size+1) 28 [.bool t,.string (bs m)]/\Bw w W)=R:=⟨_,rfl⟩;first|refine bE R ?hR ?_|refine bD R ?hR ?_
 case hR=>subst hR;exact⟨((ai.newAt w _ _ (b:=w.heap.size) rfl).alloc _),(ai.newAt (w.alloc _) _ _ (b:=w.heap.size+1) zm),(zl.alloc zj _)⟩
 subst hR;rintro W ⟨qx,qy,ae⟩;have Hx:=ah qx;clear qx;have Hy:=ah qy;clear qy;obtain⟨x0,x1⟩:=Hx.out.c2;obtain⟨y0,y1⟩:=Hy.out.c2;replace Hb:=au Hb ae;clear ae;go_wp2_with fail;refine(Pk s l t m _ hl hm).mono ?_;rintro e w1 ⟨rfl,ae⟩;clear x0 x1 y0 y1;replace Hx:=kB Hx ae;replace Hy:=kB Hy ae;obtain⟨x0,x1⟩:=Hx.out.c2;obtain⟨y0,y1⟩:=Hy.out.c2;replace Hb:=au Hb ae;clear ae;go_wp2_with fail;refine(DZ (ar (iv s l-iv t m)) (nt (iv s l-iv t m).natAbs) _ hd).mono ?_;rintro e w2 ⟨rfl,ae⟩;clear x0 x1 y0 y1;replace Hx:=kB Hx ae;replace Hy:=kB Hy ae;obtain⟨x0,x1⟩:=Hx.out.c2;obtain⟨y0,y1⟩:=Hy.out.c2;replace Hb:=au Hb ae;clear ae;rw[Hi.out];go_wp2;go_ret;exact⟨rfl,Hb.out⟩
theorem Pj (s:Bool)(l:List UInt8)(n:Nat)(w:World)(hl:l.length<=68719476736)(hn:n<=549755813888):
 Calls Tryz.prog 106 #[.agg #[.bool s,.string (bs l)],.int .i64 (n:Int)] w λe w'=>e=.returned (cE (iv s l*2^n))/\Bw w w':=by
 have hlen:(nt (nv l*2^n)).length<=1099511627776:=by
  have h1:nv l*2^n<2^(8*l.length+n):=by rw[Nat.pow_add,Nat.pow_mul];exact Nat.mul_lt_mul_of_pos_right (fW l) (Nat.pow_pos zd)
  have h2:=gh h1;rw[akQ];omega
 have He:Hid (iv s (nt (nv l*2^n))=iv s l*2^n):=by
  show _=_
  rw[lU];unfold iv;cases s<;>simp[Int.natCast_mul,Int.natCast_pow,Int.neg_mul]
 go_enter Tryz.func106,Tryz.ntmps106;have Hb:Hid (Bw w w):=Below.refl _ _;go_wp2_with fail;obtain⟨R,hR⟩:∃R:World->Prop,(λW=>ai W (w.heap.size) 28 [.bool s,.string (bs l)]/\ai W (w.heap.size+1) 28 [.bool false,.string (bs [])]/\Bw w W)=R:=⟨_,rfl⟩;first|refine bE R ?hR ?_|refine bD R ?hR ?_
 case hR=>subst hR;exact⟨((ai.newAt w _ _ (b:=w.heap.size) rfl).alloc _),(ai.newAt (w.alloc _) _ _ (b:=w.heap.size+1) zm),(zl.alloc zj _)⟩
 subst hR;rintro W ⟨qx,qr,ae⟩;have Hx:=ah qx;clear qx;have Hr:=ah qr;clear qr;obtain⟨x0,x1⟩:=Hx.out.c2;obtain⟨r0,aj,r1,ak⟩:=Hr.out.g2;replace Hb:=au Hb ae;clear ae;have NP:w.heap.size≠w.heap.size+1:=by omega
 go_region_held3 (λw'=>w'.cell? ⟨w.heap.size,0,none⟩=some (.bool s)/\w'.cell? ⟨w.heap.size,1,none⟩=some (.string (bs l))) (((try dsimp only);go_split_ands;(repeat' apply And.intro)<;>(first|exact True.intro|with_reducible assumption| ((with_reducible refine ft zg ?_);(repeat(with_reducible refine ft zg ?_));with_reducible assumption) |exact cell_later (by with_reducible assumption) (by with_reducible assumption) |exact aG (by with_reducible assumption) |go_keep))) (first| (go_at_call 143;(with_reducible refine(akE l n _ hl hn).mono ?_);rintro e w1 ⟨rfl,hq⟩;have hw1:Bw W w1:=(by first|exact aN hq|exact hq|exact pF hq|exact pE hq|exact sB hq);clear hq;have jY:=ah (Hx.out.below hw1);have yc:w1.cell? ⟨w.heap.size,0,none⟩=some (.bool s):=jY.out.cell 0;have ye:w1.cell? ⟨w.heap.size,1,none⟩=some (.string (bs l)):=jY.out.cell 1;have gG:=ah (Hr.out.below hw1);have xW:w1.cell? ⟨w.heap.size+1,0,none⟩=some (.bool false):=gG.out.cell 0;have wM:w1.frozen? ⟨w.heap.size+1,0,none⟩=false:=gG.out.free 0;have xX:w1.cell? ⟨w.heap.size+1,1,none⟩=some (.string (bs [])):=gG.out.cell 1;have wN:w1.frozen? ⟨w.heap.size+1,1,none⟩=false:=gG.out.free 1) | (go_at_call 112;(with_reducible refine(vr (nt (nv l*2^n)) s _ hlen).mono ?_);rintro e w2 ⟨rfl,hq⟩;have hw2:Bw w1 w2:=(by first|exact aN hq|exact hq|exact pF hq|exact pE hq|exact sB hq);clear hq;have wz:=ah (jY.out.below hw2);have Px:w2.cell? ⟨w.heap.size,0,none⟩=some (.bool s):=wz.out.cell 0;have Py:w2.cell? ⟨w.heap.size,1,none⟩=some (.string (bs l)):=wz.out.cell 1;have pq:=ah (gG.out.below hw2);have Oq:w2.cell? ⟨w.heap.size+1,0,none⟩=some (.bool false):=pq.out.cell 0;have Lj:w2.frozen? ⟨w.heap.size+1,0,none⟩=false:=pq.out.free 0;have Ot:w2.cell? ⟨w.heap.size+1,1,none⟩=some (.string (bs [])):=pq.out.cell 1;have Ll:w2.frozen? ⟨w.heap.size+1,1,none⟩=false:=pq.out.free 1))
 replace Hb:=ah (aJ Hb.out hw1);clear hw1;replace Hb:=ah (aJ Hb.out hw2);clear hw2 x0 x1 r0 aj r1 ak;replace Hx:=wz;clear jY yc ye Px Py;replace Hr:=pq;clear gG xW wM xX wN Oq Lj Ot Ll;obtain⟨x0,x1⟩:=Hx.out.c2;obtain⟨r0,aj,r1,ak⟩:=Hr.out.g2;rw[He.out];go_wp2;refine bodyPost_ret (v:=cE (iv s l*2^n)) (by simp[results,Tryz.results106,go_sem,r0,r1]) rfl ⟨rfl,?_⟩;(repeat first|exact Hb.out| (refine Below.setCell ?_ (by have:=Hb.out.size;first| (dsimp only;omega) | (show _<=_;omega) | (simp<;>omega)) _) | (refine Below.alloc ?_ zt _) |refine Below.drew ?_)
theorem Pi (n N:Int)(hN:n=N)(w:World)(h0: -9223372036854775808<=n)(h1:n<=9223372036854775807):
 Calls Tryz.prog 74 #[.int .i64 n] w λe w'=>e=.returned (cE N)/\Bw w w':=by
 subst hN;exact Ph n w h0 h1
def gD :List (Bool×List UInt8)->Int
 |[]=>1
 |x::xs=>iv x.1 x.2*gD xs
theorem aiZ (xs ys:List (Bool×List UInt8)):gD (xs++ys)=gD xs*gD ys:=by
 induction xs with
 |nil=>simp[gD]
 |cons x xs ih=>simp[gD,ih,Int.mul_assoc]
theorem ai2 (xs:List (Bool×List UInt8))(k:Nat)(hk:k<xs.length):gD (xs.take (k+1))=gD (xs.take k) *iv xs[k].1 xs[k].2:=by rw[List.take_succ_eq_append_getElem hk,aiZ];simp[gD]
def nM (xs:List (Bool×List UInt8)):Nat:=(xs.map λx=>x.2.length).sum
theorem aiX (xs:List (Bool×List UInt8))(k:Nat):nM (xs.take k)<=nM xs:=by
 unfold nM;induction xs generalizing k with
 |nil=>simp
 | cons x xs ih=>cases k with
   |zero=>simp
   |succ k=>simp only[List.take_succ_cons,List.map_cons,List.sum_cons];have:=ih k;omega
theorem aiW (xs:List (Bool×List UInt8))(x)(h:x∈xs):x.2.length<=nM xs:=by
 unfold nM;induction xs with
 |nil=>simp at h
 | cons y xs ih=>
   simp at h⊢;rcases h with h|h
   . subst h;omega
   . have:=ih h;omega
theorem ai1 (xs:List (Bool×List UInt8)):(gD xs).natAbs<=256^nM xs:=by
 induction xs with
 |nil=>simp[gD,nM]
 | cons x xs ih=>
   simp only[gD,Int.natAbs_mul,nO];have h1:=fW x.2;have:nM (x::xs)=x.2.length+nM xs:=by simp[nM]
   rw[this,Nat.pow_add];exact Nat.mul_le_mul (Nat.le_of_lt h1) ih
theorem ai0 (xs:List (Bool×List UInt8))(N:Nat)(h:nM xs+1<=N):(nt (gD xs).natAbs).length<=N:=by refine iQ (Nat.lt_of_le_of_lt (ai1 xs) ?_);exact Nat.pow_lt_pow_right zd zo
theorem anJ (xs:List (Bool×List UInt8))(a:Option Addr)(cap:Nat)(w:World)(hl:nM xs<=34359738368)(hx:xs.length<=1048576)
 (ha:At w a (xs.flatMap GW)):
 Calls Tryz.prog 73 #[.slice a xs.length cap] w λe w'=>e=.returned (cE (gD xs))/\Bw w w':=by
 have Hl:=ah hl;clear hl;have Ha:=ah ha;clear ha;have AA:Hid (∀k,(nt (gD (xs.take k)).natAbs).length<=68719476736):=λk=>ai0 _ _ (by have:=aiX xs k;have:=Hl.out;omega);obtain⟨one,hone⟩:∃one:Int,1=one:=⟨_,rfl⟩;have Bi:=ah hone;clear hone;go_enter Tryz.func73,Tryz.ntmps73;have Hb:Hid (Bw w w):=Below.refl _ _;go_wp2_with fail;obtain⟨R,hR⟩:∃R:World->Prop,(λW=>ai W (w.heap.size) 28 [.bool false,.string (bs [])]/\Bw w W)=R:=⟨_,rfl⟩;first|refine bE R ?hR ?_|refine bD R ?hR ?_
 case hR=>subst hR;exact⟨(ai.newAt w _ _ (b:=w.heap.size) rfl),zl⟩
 subst hR;rintro W ⟨qr,ae⟩;have Hr:=ah qr;clear qr;obtain⟨r0,aj,r1,ak⟩:=Hr.out.g2;replace Hb:=au Hb ae;clear ae;go_wp2_with fail;refine(Pi 1 one Bi.out _ zo zo).mono ?_;rintro e w1 ⟨rfl,ae⟩;clear r0 aj r1 ak;replace Hr:=kB Hr ae;obtain⟨r0,aj,r1,ak⟩:=Hr.out.g2;replace Hb:=au Hb ae;clear ae;go_wp2_with fail;refine(IG (nt one.natAbs) (ar one) _).mono ?_;rintro e w2 ⟨rfl,ae⟩;clear r0 aj r1 ak;replace Hr:=kB Hr ae;obtain⟨r0,aj,r1,ak⟩:=Hr.out.g2;replace Hb:=au Hb ae;clear ae;have apS:w.heap.size<w2.heap.size:=Hr.out.lt;have vq:=Hr.out.lt;go_wp2_with fail;obtain⟨R,hR⟩:∃R:World->Prop,(λW2=>ai W2 (w2.heap.size) 137 [.string (bs (nt one.natAbs)),.bool (ar one)]/\Bw w2 W2)=R:=⟨_,rfl⟩;first|refine bE R ?hR ?_|refine bD R ?hR ?_
 case hR=>subst hR;exact⟨(ai.newAt w2 _ _ (b:=w2.heap.size) rfl),zl⟩
 subst hR;rintro W2 ⟨qs,ae⟩;have Hs:=ah qs;clear qs r0 aj r1 ak;replace Hr:=kB Hr ae;obtain⟨r0,aj,r1,ak⟩:=Hr.out.g2;obtain⟨s0,cm,s1,cn⟩:=Hs.out.g2;replace Hb:=au Hb ae;clear ae
 go_loopw[5,10] (λ_ i wr=>∃(k:Nat) (t:Bool),k<=xs.length/\i=.int .i64 k/\iv t (nt (gD (xs.take k)).natAbs)=gD (xs.take k)/\ai wr w.heap.size 28 [.bool false,.string (bs [])]/\
  ai wr w2.heap.size 137 [.string (bs (nt (gD (xs.take k)).natAbs)),.bool t]/\Bw w wr) (λ_ i _=>xs.length-(intOf i).toNat)
 case atStart=>
  have e:gD (xs.take 0)=one:=by rw[<-Bi.out];simp[gD]
  refine⟨0,ar one,Nat.zero_le _,rfl,?_,Hr.out,?_,Hb.out⟩
  . rw[e];exact fc one
  . rw[e];exact Hs.out
 case round=>
  obtain⟨k,t,hk,rfl,fy,qr,qs,hb⟩:=hrel;replace Hr:=ah qr;replace Hs:=ah qs;replace Hb:=ah hb;have gw:=ah fy;clear qr qs hb fy r0 r1 aj ak s0 s1 cm cn;by_cases hlt:k<xs.length
  . obtain⟨b,o,hab,hcs⟩:=(Ha.out.below Hb.out).elem (f:=GW) (sz:=2) (λ_=>rfl) zd k hlt;have hc0:wr.cell? ⟨b,o+k*2,none⟩=some (.bool xs[k].1):=hcs 0 zd;have hc1:wr.cell? ⟨b,o+k*2+1,none⟩=some (.string (bs xs[k].2)):=hcs 1 zd;have bB:=tA xs.length cap k (k:Int) hab hlt rfl;have bX:=ah (ai2 xs k hlt);have jT:Hid (xs[k].2.length<=34359738368):=by have:=aiW xs _ (List.getElem_mem hlt);have:=Hl.out;show _<=_;omega
    have jD:=ah (AA.out k);clear hcs hab;generalize xs[k]=x at*;obtain⟨t1,l1⟩:=x;generalize hS:gD (xs.take k)=S at*;have HS:=ah hS;clear hS;obtain⟨r0,aj,r1,ak⟩:=Hr.out.g2;obtain⟨s0,cm,s1,cn⟩:=Hs.out.g2;have Dh:=Hr.out.lt;have NH:=Hs.out.lt;go_wp2_with fail;obtain⟨R,hR⟩:∃R:World->Prop,(λW1=>ai W1 (wr.heap.size) 28 [.bool t1,.string (bs l1)]/\Bw wr W1)=R:=⟨_,rfl⟩;first|refine bE R ?hR ?_|refine bD R ?hR ?_
    case hR=>subst hR;exact⟨(ai.newAt wr _ _ (b:=wr.heap.size) rfl),zl⟩
    subst hR;rintro W1 ⟨qa,ae⟩;have Ha:=ah qa;clear qa r0 aj r1 ak;replace Hr:=kB Hr ae;obtain⟨r0,aj,r1,ak⟩:=Hr.out.g2;clear s0 cm s1 cn;replace Hs:=kB Hs ae;obtain⟨s0,cm,s1,cn⟩:=Hs.out.g2;obtain⟨a0,a1⟩:=Ha.out.c2;replace Hb:=au Hb ae;clear ae;go_region_with (first| (go_at_call 110;refine(IG l1 t1 _).mono ?_;rintro e w3 ⟨rfl,hq⟩;have hw3:Bw W1 w3:=aN hq;clear hq;have OH:=cell_later hw3 s0;have OI:=cell_later hw3 s1;have ag5:=(Hs.out.below hw3).free 0;have ag7:=(Hs.out.below hw3).free 1) | (go_at_call 111;refine(anj (nt S.natAbs) l1 t t1 _ jD.out (by have:=jT.out;omega)).mono ?_;rintro e w4 ⟨rfl,hw4⟩;have amv:=cell_later hw4 OH;have amy:=cell_later hw4 OI;have ag6:=((Hs.out.below hw3).below hw4).free 0;have ag8:=((Hs.out.below hw3).below hw4).free 1))
    all_goals
     go_wp2
     go_roundw
     case rel=>
      have hq:=ai7 t (nt S.natAbs) t1 l1;rw[gw.out,<-bX.out]at hq;have hq2:nv (nt S.natAbs) *nv l1=(gD (xs.take (k+1))).natAbs:=by rw[bX.out,Int.natAbs_mul,nO,iF]
      rw[hq2]at hq⊢;refine⟨k+1,_,by omega,by go_num,hq,((((Hr.out.below hw3).below hw4).arF ⟨w2.heap.size,0,none⟩ zp _).arF ⟨w2.heap.size,1,none⟩ zp _),((((Hs.out.below hw3).below hw4).set 0 _).set 1 _),?_⟩;exact((aJ (aJ Hb.out hw3) hw4).setCell zp _).setCell zp _
     case measure=>simp[intOf];omega
  . obtain rfl:k=xs.length:=by omega
    rw[List.take_length]at Hs gw;have jD:=AA.out xs.length;rw[List.take_length]at jD;obtain⟨r0,aj,r1,ak⟩:=Hr.out.g2;obtain⟨s0,cm,s1,cn⟩:=Hs.out.g2;go_wp2_with fail;refine(vr (nt (gD xs).natAbs) t _ zo).mono ?_;rintro e w3 ⟨rfl,ae⟩;clear r0 aj r1 ak s0 cm s1 cn;replace Hr:=kB Hr ae;replace Hs:=kB Hs ae;obtain⟨r0,aj,r1,ak⟩:=Hr.out.g2;obtain⟨s0,cm,s1,cn⟩:=Hs.out.g2;replace Hb:=au Hb ae;clear ae;rw[gw.out];go_wp2;refine bodyPost_ret (v:=cE (gD xs)) (by simp[results,Tryz.results73,go_sem,r0,r1]) rfl ⟨rfl,?_⟩;(repeat first|exact Hb.out| (refine Below.setCell ?_ (by have:=Hb.out.size;first| (dsimp only;omega) | (show _<=_;omega) | (simp<;>omega)) _) | (refine Below.alloc ?_ zt _) |refine Below.drew ?_)
theorem ZC (v:Nat)(h:0<v):∃m,v=2^tz v* (2*m+1):=by
 induction v using Nat.strongRecOn with
 | _ v ih=>
   by_cases he:v%2=0
   . obtain⟨u,rfl⟩:∃u,v=2*u:=⟨v/2,by omega⟩;obtain⟨m,hm⟩:=ih u zo zo;refine⟨m,?_⟩;have e:tz (2*u)=tz u+1:=by unfold tz;rw[show((2*u:Nat):Int)=2* (u:Int)by omega];exact Int.trailingZeros_two_mul zo
     rw[e,Nat.pow_succ];conv=>lhs;rw[hm]
     rw[Nat.mul_comm (2^tz u) 2,Nat.mul_assoc]
   . refine⟨v/2,?_⟩;have e:tz v=0:=by unfold tz;exact Int.trailingZeros_eq_zero_of_mod_eq zo
     rw[e];omega
theorem ZA (v k:Nat)(h:0<v):tz v<k↔v%2^k≠0:=by
 obtain⟨m,hm⟩:=ZC v h;generalize tz v=c at*;constructor
 . intro hc h0;have hd:2^k∣v:=Nat.dvd_of_mod_eq_zero h0;have hd2:2^(c+1)∣v:=Nat.dvd_trans (Nat.pow_dvd_pow 2 hc) hd;rw[hm,Nat.pow_succ]at hd2;have:=Nat.dvd_of_mul_dvd_mul_left (Nat.pow_pos zd) hd2;omega
 . intro hne;rcases Nat.lt_or_ge c k with h1|h1
   . exact h1
   . exfalso;apply hne
     rw[hm];exact Nat.mod_eq_zero_of_dvd (Nat.dvd_trans (Nat.pow_dvd_pow 2 h1) (Nat.dvd_mul_right _ _))
theorem akG (v k:Nat)(h:v%2^k=0): -(v:Int)/2^k= -((v/2^k:Nat):Int):=by
 obtain⟨q,rfl⟩:=Nat.dvd_of_mod_eq_zero h;have hp:=Nat.pow_pos (n:=k) (show 0<2 by decide);rw[Nat.mul_div_cancel_left _ hp];have e: -((2^k*q:Nat):Int)=2^k* (-(q:Int)):=by simp[Int.natCast_mul,Int.natCast_pow,Int.mul_neg]
 rw[e,Int.mul_ediv_cancel_left];have:((2^k:Nat):Int)≠0:=by omega
 simpa[Int.natCast_pow]using this
theorem akH (v k:Nat)(h:v%2^k≠0): -(v:Int)/2^k= -((v/2^k:Nat):Int)-1:=by
 have hp:=Nat.pow_pos (n:=k) (show 0<2 by decide);have e:=(Nat.mod_add_div v (2^k)).symm;have hr:=Nat.mod_lt v hp;rw[show((2:Int)^k)=((2^k:Nat):Int)by simp[Int.natCast_pow]];generalize v%2^k=r at*;generalize v/2^k=q at*;generalize 2^k=p at*;subst e;have e2: -((r+p*q:Nat):Int)=((p:Int)-r)+p* (-(q:Int)-1):=by rw[Int.natCast_add,Int.natCast_mul,Int.mul_sub,Int.mul_neg,Int.mul_one];omega
 rw[e2,Int.add_mul_ediv_left _ _ zo,Int.ediv_eq_zero_of_lt zo zo];omega
theorem akP (l:List UInt8)(k B:Nat)(hl:l.length<=B):(nt (nv l/2^k)).length<=B:=iQ (Nat.lt_of_le_of_lt (Nat.div_le_self _ _) (Nat.lt_of_lt_of_le (fW l) (Nat.pow_le_pow_right zd hl)))
theorem ZT (s:Bool)(l:List UInt8)(k:Nat)(w:World)(hl:l.length<=34359738368)(hk:0<k)(hk2:k<=1099511627776)(hT:az w):
 Calls Tryz.prog 106 #[.agg #[.bool s,.string (bs l)],.int .i64 (-(k:Int))] w λe w'=>e=.returned (cE (iv s l/2^k))/\Bw w w':=by
 have hmax:max (-(k:Int)) (-1099511627776)= -(k:Int):=by omega
 have hlen:(nt (nv l/2^k)).length<=34359738368:=akP l k _ hl;obtain⟨Z,hZ⟩:=aB (nv l/2^k);have GN:∀W,Calls Tryz.prog 144 #[.string (bs l),.int .i64 (k:Int)] W λe w'=>e=.returned (.string (bs (nt Z)))/\Bw W w':=λW=>by rw[<-hZ];exact akF l k W zo hk2
 rw[hZ]at hlen;have HZ:=ah hZ;clear hZ;have acU:=ah GN;clear GN;obtain⟨M,hM⟩:=aB (iv s (nt Z));have HM:=ah hM;clear hM;have VX:∀W,Calls Tryz.prog 112 #[.agg #[.string (bs (nt Z)),.bool s]] W λe w'=>e=.returned (cE M)/\Bw W w':=λW=>by have:=vr (nt Z) s W zo;rw[HM.out]at this;exact this
 have acd:=ah VX;clear VX;go_enter Tryz.func106,Tryz.ntmps106;have Hb:Hid (Bw w w):=Below.refl _ _;go_upto_region 4 with fail
 go_wp2_with fail;obtain⟨R,hR⟩:∃R:World->Prop,(λW=>ai W (w.heap.size) 28 [.bool s,.string (bs l)]/\ai W (w.heap.size+1) 28 [.bool false,.string (bs [])]/\Bw w W)=R:=⟨_,rfl⟩;first|refine bE R ?hR ?_|refine bD R ?hR ?_
 case hR=>subst hR;exact⟨((ai.newAt w _ _ (b:=w.heap.size) rfl).alloc _),(ai.newAt (w.alloc _) _ _ (b:=w.heap.size+1) zm),(zl.alloc zj _)⟩
 subst hR;rintro W ⟨qx,qr,ae⟩;have Hx:=ah qx;clear qx;have Hr:=ah qr;clear qr;obtain⟨x0,x1⟩:=Hx.out.c2;obtain⟨r0,aj,r1,ak⟩:=Hr.out.g2;replace Hb:=au Hb ae;clear ae;go_cut[5] (λs5 wx=>∃g:Nat,s5=.pointer (some ⟨g,0,none⟩)/\w.heap.size+1<g/\ai wx w.heap.size 28 [.bool s,.string (bs l)]/\ai wx (w.heap.size+1) 28 [.bool false,.string (bs [])]/\ai wx g 28 [.bool (ar M),.string (bs (nt M.natAbs))]/\Bw w wx);case first=>
  have hxW:w.heap.size<W.heap.size:=Hx.out.lt;have hrW:w.heap.size+1<W.heap.size:=Hr.out.lt;have hwk:IntKind.i64.wrap (k:Int)=(k:Int):=by rw[IntKind.wrap_i64];omega
  go_region_held3 (λw'=>w'.cell? ⟨w.heap.size,0,none⟩=some (.bool s)/\w'.cell? ⟨w.heap.size,1,none⟩=some (.string (bs l))) (((try dsimp only);go_split_ands;(repeat' apply And.intro)<;>(first|with_reducible assumption|exact aG (by with_reducible assumption) |exact KO (by with_reducible assumption) |exact KO (aG (by with_reducible assumption)) | ((with_reducible refine ft zf ?_);(repeat(with_reducible refine ft zf ?_));first|with_reducible assumption|exact aG (by with_reducible assumption) |exact KO (by with_reducible assumption)) |go_keep))) (first| (go_at_call 144;(with_reducible refine(acU.out _).mono ?_);rintro e w1 ⟨rfl,hq⟩;(first| (have hw1:Bw W w1:=aN hq) | (have hw1:Bw W w1:=sB hq;have Bf:=ah (ai.below (ai.drew (ai.new W 28 [.bool false,.string (bs [])])) hq);have aq8:w1.cell? ⟨W.heap.size,0,none⟩=some (.bool false):=Bf.out.cell 0;have aq9:w1.cell? ⟨W.heap.size,1,none⟩=some (.string (bs [])):=Bf.out.cell 1;have aoN:=Bf.out.free 0;have aoO:=Bf.out.free 1));clear hq;have zs1:=hw1.size;obtain⟨Ks,acP⟩:=aL (Hx.out.below hw1) (Hr.out.below hw1);have arq:w1.cell? ⟨w.heap.size,0,none⟩=some (.bool s):=Ks.out.cell 0;have art:w1.cell? ⟨w.heap.size,1,none⟩=some (.string (bs l)):=Ks.out.cell 1) | (go_at_call 112;(with_reducible refine(acd.out _).mono ?_);rintro e w2 ⟨rfl,hq⟩;(first| (have hw2:Bw w1 w2:=hq;(try(have pj:=ah (ai.below Bf.out hq);have akr:w2.cell? ⟨W.heap.size,0,none⟩=some (.bool false):=pj.out.cell 0;have aku:w2.cell? ⟨W.heap.size,1,none⟩=some (.string (bs [])):=pj.out.cell 1;have agU:=pj.out.free 0;have agV:=pj.out.free 1))) | (have hw2:Bw w1 w2:=pE hq;have pj:=ah (ai.below (ai.new w1 28 [.bool false,.string (bs [])]) hq);have akr:w2.cell? ⟨w1.heap.size,0,none⟩=some (.bool false):=pj.out.cell 0;have aku:w2.cell? ⟨w1.heap.size,1,none⟩=some (.string (bs [])):=pj.out.cell 1;have agU:=pj.out.free 0;have agV:=pj.out.free 1));clear hq;have zs2:=hw2.size;obtain⟨BB,Ka⟩:=aL (Ks.out.below hw2) (acP.out.below hw2);have ars:w2.cell? ⟨w.heap.size,0,none⟩=some (.bool s):=BB.out.cell 0;have aru:w2.cell? ⟨w.heap.size,1,none⟩=some (.string (bs l)):=BB.out.cell 1))
  all_goals(go_wp2_with fail;go_meet)
  . exact⟨w2.heap.size,rfl,by omega,BB.out.alloc _,Ka.out.alloc _,ai.new _ _ _,(aJ (aJ Hb.out hw1) hw2).alloc zo _⟩
  . exact⟨w1.heap.size,rfl,by omega,((BB.out.arF ⟨w1.heap.size,0,none⟩ (by first| (dsimp only;omega) |omega| (simp<;>omega)) _).arF ⟨w1.heap.size,1,none⟩ (by first| (dsimp only;omega) |omega| (simp<;>omega)) _),((Ka.out.arF ⟨w1.heap.size,0,none⟩ (by first| (dsimp only;omega) |omega| (simp<;>omega)) _).arF ⟨w1.heap.size,1,none⟩ (by first| (dsimp only;omega) |omega| (simp<;>omega)) _),((pj.out.set 0 _).set 1 _),((aJ (aJ Hb.out hw1) hw2).setCell (by first| (dsimp only;omega) |omega| (simp<;>omega)) _).setCell (by first| (dsimp only;omega) |omega| (simp<;>omega)) _⟩
  . exact⟨W.heap.size,rfl,hrW,((BB.out.arF ⟨W.heap.size,0,none⟩ (by first| (dsimp only;omega) |omega| (simp<;>omega)) _).arF ⟨W.heap.size,1,none⟩ (by first| (dsimp only;omega) |omega| (simp<;>omega)) _),((Ka.out.arF ⟨W.heap.size,0,none⟩ (by first| (dsimp only;omega) |omega| (simp<;>omega)) _).arF ⟨W.heap.size,1,none⟩ (by first| (dsimp only;omega) |omega| (simp<;>omega)) _),((pj.out.set 0 _).set 1 _),((aJ (aJ Hb.out hw1) hw2).setCell (by first| (dsimp only;omega) |omega| (simp<;>omega)) _).setCell (by first| (dsimp only;omega) |omega| (simp<;>omega)) _⟩
 case rest=>
  obtain⟨g,rfl,hg,qx,qr,qn,qb⟩:=hcut;replace Hx:=ah qx;replace Hr:=ah qr;have Hn:=ah qn;replace Hb:=ah qb;clear qx qr qn qb x0 x1 r0 r1 aj ak;cases s
  . obtain ⟨x0,x1⟩:=Hx.out.c2;obtain⟨r0,aj,r1,ak⟩:=Hr.out.g2;obtain⟨n0,n1⟩:=Hn.out.c2;have gg:Hid (iv false l/2^k=M):=by
     show _=_
     rw[<-HM.out,<-HZ.out,lU];unfold iv;simp[Int.natCast_pow]
    go_wp2;refine bodyPost_ret (v:=cE M) (by simp[results,Tryz.results106,go_sem,r0,r1]) rfl ⟨by rw[gg.out],?_⟩;(repeat first|exact Hb.out| (refine Below.setCell ?_ (by have:=Hb.out.size;first| (dsimp only;omega) | (show _<=_;omega) | (simp<;>omega)) _) | (refine Below.alloc ?_ zt _) |refine Below.drew ?_)
  . obtain⟨x0,x1⟩:=Hx.out.c2;obtain⟨r0,aj,r1,ak⟩:=Hr.out.g2;obtain⟨n0,n1⟩:=Hn.out.c2;have nX:Hid (l.length<=68719476736):=by show _<=_;omega
    by_cases h0:nv l=0
    . have hb0:bo (nv l)=0:=by rw[h0];rfl
      have gg:Hid (iv true l/2^k=M):=by
       show _=_
       rw[<-HM.out,<-HZ.out,lU,h0];unfold iv;simp[h0]
      have jV:=ah hb0;clear hb0;go_wp2_with fail;refine(NM l _ nX.out).mono ?_;rintro e w3 ⟨rfl,ae⟩;clear x0 x1 r0 aj r1 ak n0 n1;replace Hx:=kB Hx ae;replace Hr:=kB Hr ae;replace Hn:=kB Hn ae;obtain⟨x0,x1⟩:=Hx.out.c2;obtain⟨r0,aj,r1,ak⟩:=Hr.out.g2;obtain⟨n0,n1⟩:=Hn.out.c2;replace Hb:=au Hb ae;clear ae;rw[jV.out];go_wp2;refine bodyPost_ret (v:=cE M) (by simp[results,Tryz.results106,go_sem,r0,r1]) rfl ⟨by rw[gg.out],?_⟩;(repeat first|exact Hb.out| (refine Below.setCell ?_ (by have:=Hb.out.size;first| (dsimp only;omega) | (show _<=_;omega) | (simp<;>omega)) _) | (refine Below.alloc ?_ zt _) |refine Below.drew ?_)
    . have hbp:0<bo (nv l):=BL zo;have AG:Hid (az wc):=hT.below Hb.out;by_cases hz:tz (nv l)<k
      . have gg:Hid (iv true l/2^k=M-1):=by
         show _=_
         rw[<-HM.out,<-HZ.out,lU];have:=(ZA (nv l) k zo).1 hz;unfold iv;simp only[if_true];exact akH _ _ this
        have HMl:Hid ((nt M.natAbs).length<=34359738368):=by show _<=_;rw[<-HM.out,nO,iF];exact hlen
        obtain⟨one,hone⟩:∃one:Int,1=one:=⟨_,rfl⟩;have Hol:Hid ((nt one.natAbs).length<=34359738368):=by show _<=_;rw[<-hone];exact Nat.le_trans (iQ (k:=1) zd) zd
        have Bi:=ah hone;clear hone;have acX:Hid (iv (ar M) (nt M.natAbs)-iv (ar one) (nt one.natAbs)=M-1):=by show _=_;rw[fc,fc,<-Bi.out]
        go_wp2_with fail;refine(NM l _ nX.out).mono ?_;rintro e w3 ⟨rfl,ae⟩;clear x0 x1 r0 aj r1 ak n0 n1;replace Hx:=kB Hx ae;replace Hr:=kB Hr ae;replace Hn:=kB Hn ae;obtain⟨x0,x1⟩:=Hx.out.c2;obtain⟨r0,aj,r1,ak⟩:=Hr.out.g2;obtain⟨n0,n1⟩:=Hn.out.c2;replace Hb:=au Hb ae;clear ae;replace AG:=ah (hT.below Hb.out);go_wp2_with fail;refine(NN l _ nX.out AG.out).mono ?_;rintro e w4 ⟨rfl,ae⟩;clear x0 x1 r0 aj r1 ak n0 n1;replace Hx:=kB Hx ae;replace Hr:=kB Hr ae;replace Hn:=kB Hn ae;obtain⟨x0,x1⟩:=Hx.out.c2;obtain⟨r0,aj,r1,ak⟩:=Hr.out.g2;obtain⟨n0,n1⟩:=Hn.out.c2;replace Hb:=au Hb ae;clear ae;go_wp2_with fail;have nen:g≠w.heap.size+1:=by omega
        go_region_held3 (λw'=>w'.cell? ⟨g,0,none⟩=some (.bool (ar M))/\w'.cell? ⟨g,1,none⟩=some (.string (bs (nt M.natAbs)))) (((try dsimp only);go_split_ands;(repeat' apply And.intro)<;>(first|exact True.intro|with_reducible assumption| ((with_reducible refine ft zg ?_);(repeat(with_reducible refine ft zg ?_));with_reducible assumption) |exact cell_later (by with_reducible assumption) (by with_reducible assumption) |exact aG (by with_reducible assumption) |go_keep))) (first| (go_at_call 74;(with_reducible refine(Pi 1 one Bi.out _ zo zo).mono ?_);rintro e w5 ⟨rfl,hq⟩;have cM:Bw w4 w5:=(by first|exact aN hq|exact hq|exact pF hq|exact pE hq|exact sB hq);clear hq;obtain⟨RO,yC⟩:=aL (Hx.out.below cM) (Hr.out.below cM);have alQ:w5.cell? ⟨w.heap.size+1,0,none⟩=some (.bool false):=yC.out.cell 0;have agZ:w5.frozen? ⟨w.heap.size+1,0,none⟩=false:=yC.out.free 0;have alS:w5.cell? ⟨w.heap.size+1,1,none⟩=some (.string (bs [])):=yC.out.cell 1;have ag1:w5.frozen? ⟨w.heap.size+1,1,none⟩=false:=yC.out.free 1;have EK:=ah (Hn.out.below cM);have aks:w5.cell? ⟨g,0,none⟩=some (.bool (ar M)):=EK.out.cell 0;have akv:w5.cell? ⟨g,1,none⟩=some (.string (bs (nt M.natAbs))):=EK.out.cell 1) | (go_at_call 109;(with_reducible refine(Pk (ar M) (nt M.natAbs) (ar one) (nt one.natAbs) _ HMl.out Hol.out).mono ?_);rintro e w6 ⟨rfl,hq⟩;have CX:Bw w5 w6:=(by first|exact aN hq|exact hq|exact pF hq|exact pE hq|exact sB hq);clear hq;obtain⟨adm,Bp⟩:=aL (RO.out.below CX) (yC.out.below CX);have alR:w6.cell? ⟨w.heap.size+1,0,none⟩=some (.bool false):=Bp.out.cell 0;have ag0:w6.frozen? ⟨w.heap.size+1,0,none⟩=false:=Bp.out.free 0;have alT:w6.cell? ⟨w.heap.size+1,1,none⟩=some (.string (bs [])):=Bp.out.cell 1;have ag2:w6.frozen? ⟨w.heap.size+1,1,none⟩=false:=Bp.out.free 1;have JP:=ah (EK.out.below CX);have akt:w6.cell? ⟨g,0,none⟩=some (.bool (ar M)):=JP.out.cell 0;have akw:w6.cell? ⟨g,1,none⟩=some (.string (bs (nt M.natAbs))):=JP.out.cell 1))
        replace Hb:=ah (aJ Hb.out cM);clear cM;replace Hb:=ah (aJ Hb.out CX);clear CX x0 x1 r0 aj r1 ak n0 n1;replace Hx:=adm;clear RO;replace Hr:=Bp;clear yC alQ agZ alS ag1 alR ag0 alT ag2;replace Hn:=JP;clear EK aks akv akt akw;obtain⟨x0,x1⟩:=Hx.out.c2;obtain⟨r0,aj,r1,ak⟩:=Hr.out.g2;obtain⟨n0,n1⟩:=Hn.out.c2;rw[acX.out];go_wp2;refine bodyPost_ret (v:=cE (M-1)) (by simp[results,Tryz.results106,go_sem,r0,r1]) rfl ⟨by rw[gg.out],?_⟩;(repeat first|exact Hb.out| (refine Below.setCell ?_ (by have:=Hb.out.size;first| (dsimp only;omega) | (show _<=_;omega) | (simp<;>omega)) _) | (refine Below.alloc ?_ zt _) |refine Below.drew ?_)
      . have gg:Hid (iv true l/2^k=M):=by
         show _=_
         rw[<-HM.out,<-HZ.out,lU];have h2:nv l%2^k=0:=by
          rcases Nat.eq_zero_or_pos (nv l%2^k)with h|h
          . exact h
          . exact absurd ((ZA (nv l) k zo).2 zo) hz
         unfold iv;simp only[if_true];exact akG _ _ h2
        go_wp2_with fail;refine(NM l _ nX.out).mono ?_;rintro e w3 ⟨rfl,ae⟩;clear x0 x1 r0 aj r1 ak n0 n1;replace Hx:=kB Hx ae;replace Hr:=kB Hr ae;replace Hn:=kB Hn ae;obtain⟨x0,x1⟩:=Hx.out.c2;obtain⟨r0,aj,r1,ak⟩:=Hr.out.g2;obtain⟨n0,n1⟩:=Hn.out.c2;replace Hb:=au Hb ae;clear ae;replace AG:=ah (hT.below Hb.out);go_wp2_with fail;refine(NN l _ nX.out AG.out).mono ?_;rintro e w4 ⟨rfl,ae⟩;clear x0 x1 r0 aj r1 ak n0 n1;replace Hx:=kB Hx ae;replace Hr:=kB Hr ae;replace Hn:=kB Hn ae;obtain⟨x0,x1⟩:=Hx.out.c2;obtain⟨r0,aj,r1,ak⟩:=Hr.out.g2;obtain⟨n0,n1⟩:=Hn.out.c2;replace Hb:=au Hb ae;clear ae;go_wp2;refine bodyPost_ret (v:=cE M) (by simp[results,Tryz.results106,go_sem,r0,r1]) rfl ⟨by rw[gg.out],?_⟩;(repeat first|exact Hb.out| (refine Below.setCell ?_ (by have:=Hb.out.size;first| (dsimp only;omega) | (show _<=_;omega) | (simp<;>omega)) _) | (refine Below.alloc ?_ zt _) |refine Below.drew ?_)
end Go.Proofs.YtdaadlblknpipaaGreatDoor
