/- Package dyad: Make,Form,Sign,Shift,Of,Neg,Abs. -/
import Derived.Test.YtnjfebkelecgaaaGreatDoorZ7
import Derived.Test.YtnjfebkelecgaaaGreatDoorZ8
import Derived.Test.YtnjfebkelecgaaaGreatDoorZ6
import Derived.Test.YtnjfebkelecgaaaGreatDoorZ1
set_option linter.all false
set_option maxRecDepth 100000
set_option maxHeartbeats 16000000
namespace Go.Proofs.YtnjfebkelecgaaaGreatDoor
open Go.RowKit
attribute [local go_sem ↓] Go.wp_at_zero Go.wp_at_succ
abbrev cw (d:Dyadic):Value:=.agg #[aj (aK (dN d)),ai (nt (dN d).natAbs),ah (dE d)]
def anE :(⟨#[]⟩:ByteArray)=bs []:=rfl
def awO (s:Bool)(l:List UInt8)(n:Nat)(Z:Int)(hZ:iv s l/2^n=Z)(w:World)(hl:l.length<=34359738368)(hn:n<=549755813888)(hT:aR w):
 Cv 103 #[.agg #[aj s,ai l],ah (-(n:Int))] w (dx Z):=by
 rcases Nat.eq_zero_or_pos n with h|h
 . subst h;subst hZ;have:=XB s l 0 w zo zo;simpa using this
 . subst hZ;exact ah6 s l n w hl h zo hT
def axT (v k:Nat)(h:v<2^k):tz v<=k:=by
 rcases Nat.eq_zero_or_pos v with h0|h0
 . subst h0;exact Nat.zero_le _
 . obtain⟨m,hm⟩:=ahK v h0;rcases Nat.lt_or_ge k (tz v)with h1|h1
   . exfalso
     have h2:=Nat.pow_le_pow_right (show 0<2 by decide) (Nat.le_of_lt h1);have h3:2^tz v<=2^tz v* (2*m+1):=Nat.le_mul_of_pos_right _ zo;omega
   . exact h1
def ahH (n:Int):tz n.natAbs=n.trailingZeros:=by
 unfold tz;rcases Int.natAbs_eq n with h|h
 . rw[<-h]
 . conv=>rhs;rw[h]
   rw[Int.trailingZeros_neg]
def SB (s:Bool)(l:List UInt8)(e:Int)(h:iv s l=0):aJ (s,l,e)=0:=by unfold aJ;simp only[h];exact zX _
def SA (s:Bool)(l:List UInt8)(e:Int)(h:iv s l≠0):dN (aJ (s,l,e))=iv s l/2^tz (nv l)/\dE (aJ (s,l,e))=e+(tz (nv l):Int):=by have:=aa6 (k:=-e) h;unfold aJ;rw[show tz (nv l)=(iv s l).trailingZeros by rw[<-oh s l];exact ahH _];exact⟨this.1,by rw[this.2];omega⟩
def zL (s:Bool)(l:List UInt8)(e:Int)(D:Dyadic)(hD:aJ (s,l,e)=D)(w:World)(hl:l.length<=34359738368)(he: -1099511627776<=e/\e<=1099511627776)(hT:aR w):
 Cv 59 #[.agg #[aj s,ai l],ah e] w (cw D):=by
 have rU:Hid (l.length<=1099511627776):=by show _<=_;omega
 have FC:Hid (l.length<=68719476736):=by show _<=_;omega
 by_cases h0:iv s l=0
 . have h1:=SB s l e h0;rw[hD]at h1;subst h1;clear hD;have h2:fU (iv s l)=0:=by rw[h0];rfl
   have H2:=az h2;clear h2;have Hv:Hid (cw 0=.agg #[aj false,.string (bs []),ah 0]):=rfl;go_enter Tryz.func59,Tryz.ntmps59;have Hb:=hbz w;go_wp2_with fail;refine mC w (Hb.an trivial) 46 [aj s,ai l] 48 [aj false,.string (bs []),ah 0] λW bi ag aC=>?_;go_wp2_with fail;refine aZ ag (Pn s l _ rU.out) λw1 ag aC=>?_;rw[H2.out];have Hb:=ag.2.2.1;have r0:w1.cell? ⟨w.heap.size+1,0,none⟩=some (aj false):=ag.2.1.out.cell 0;have r1:w1.cell? ⟨w.heap.size+1,1,none⟩=some (.string (bs [])):=ag.2.1.out.cell 1;have r2:w1.cell? ⟨w.heap.size+1,2,none⟩=some (ah 0):=ag.2.1.out.cell 2;go_wp2;exact bodyPost_ret (v:=.agg #[aj false,.string (bs []),ah 0]) (by simp[results,Tryz.results59,go_sem,r0,r1,r2,anE,aC]) rfl ⟨by rw[Hv.out],dt⟩
 . obtain⟨h1,h2⟩:=SA s l e h0;rw[hD]at h1 h2;clear hD;have hg0:fU (iv s l)≠0:=by unfold fU;split<;>(try split)<;>omega
   have Hg:Hid (∃g,fU (iv s l)=g/\g≠0):=⟨_,rfl,hg0⟩;obtain⟨g,hg,hg0⟩:=Hg.out;have Hg:=az hg;clear hg;have hn:tz (nv l)<=549755813888:=Nat.le_trans (axT (nv l) (8*l.length) (by have:=gw l;rwa [show(256:Nat)=2^8 by rfl,<-Nat.pow_mul]at this)) zo;obtain⟨n,hn0⟩:=aI (tz (nv l));rw[hn0]at h1 h2 hn;have nS:=az hn0;clear hn0;obtain⟨Z,hZ⟩:=aI (dN D);obtain⟨E,hE⟩:=aI (dE D);rw[hZ]at h1;rw[hE]at h2;obtain⟨HZ,HE⟩:=aU hZ hE;clear hZ hE;have H1:=az h1.symm;clear h1;have hwn:IntKind.i64.wrap (-(n:Int))= -(n:Int):=by rw[IntKind.wrap_i64];omega
   have hwe:IntKind.i64.wrap (e+(n:Int))=E:=by rw[IntKind.wrap_i64];omega
   clear h0 h2;go_enter Tryz.func59,Tryz.ntmps59;have Hb:=hbz w;go_wp2_with fail;refine mC w (Hb.an trivial) 46 [aj s,ai l] 48 [aj false,.string (bs []),ah 0] λW bi ag aC=>?_;go_wp2_with fail;refine aZ ag (Pn s l _ rU.out) λw1 ag aC=>?_;rw[Hg.out];have HT:=az (hT.below ag.2.2.1.out);go_wp2_with fail;refine aZ ag (VV l _ FC.out HT.out) λw2 ag aC=>?_;rw[nS.out];replace HT:=az (hT.below ag.2.2.1.out);go_wp2_with fail;refine aZ ag (awO s l n Z H1.out _ hl hn HT.out) λw3 ag aC=>?_;have Hb:=ag.2.2.1;have r0:w3.cell? ⟨w.heap.size+1,0,none⟩=some (aj false):=ag.2.1.out.cell 0;have r1:w3.cell? ⟨w.heap.size+1,1,none⟩=some (.string (bs [])):=ag.2.1.out.cell 1;have r2:w3.cell? ⟨w.heap.size+1,2,none⟩=some (ah 0):=ag.2.1.out.cell 2;go_wp2;exact bodyPost_ret (v:=.agg #[aj (aK Z),ai (nt Z.natAbs),ah E]) (by simp[results,Tryz.results59,go_sem,r0,r1,r2,aC]) rfl ⟨by rw[<-HZ.out,<-HE.out],dt⟩
def Ok.len {s:Bool}{l:List UInt8}{e:Int}(h:Ok (s,l,e)):l.length<=268435456:=h.1
def Ok.exp {s:Bool}{l:List UInt8}{e:Int}(h:Ok (s,l,e)): -268435456<=e/\e<=268435456:=h.2
def sw (s:Bool)(l:List UInt8)(e:Int)(D:Dyadic)(hD:aJ (s,l,e)=D)(w:World)(hx:Ok (s,l,e))(hT:aR w):
 Cv 70 #[.agg #[aj s,ai l,ah e]] w (cw D):=by
 have HD:=az hD;clear hD;have h1:=hx.len;have h2:=hx.exp;clear hx;have Hl:Hid (l.length<=34359738368):=by show _<=_;omega
 have He:Hid (-1099511627776<=e/\e<=1099511627776):=by show _/\_;omega
 go_enter Tryz.func70,Tryz.ntmps70;have Hb:=hbz w;go_wp2_with fail;refine mC w (Hb.an trivial) 48 [aj s,ai l,ah e] 48 [aj false,.string (bs []),ah 0] λW bi ag aC=>?_;have HT:=az (hT.below ag.2.2.1.out);go_wp2_with fail;refine aZ ag (zL s l e D HD.out _ Hl.out He.out HT.out) λw1 ag aC=>?_;have Hb:=ag.2.2.1;have r0:w1.cell? ⟨w.heap.size+1,0,none⟩=some (aj false):=ag.2.1.out.cell 0;have r1:w1.cell? ⟨w.heap.size+1,1,none⟩=some (.string (bs [])):=ag.2.1.out.cell 1;have r2:w1.cell? ⟨w.heap.size+1,2,none⟩=some (ah 0):=ag.2.1.out.cell 2;go_wp2;exact bodyPost_ret (v:=cw D) (by simp[results,Tryz.results70,go_sem,r0,r1,r2,aC]) rfl ⟨rfl,dt⟩
def aha (s:Bool)(l:List UInt8)(e:Int):fU (iv s l)=fU (dN (aJ (s,l,e))):=by
 by_cases h0:iv s l=0
 . rw[SB s l e h0,h0,Sp]
 . rw[(SA s l e h0).1];obtain⟨q,hq⟩:(2:Int)^tz (nv l)∣iv s l:=by rw[show tz (nv l)=(iv s l).trailingZeros by rw[<-oh s l];exact ahH _];exact Int.two_pow_trailingZeros_dvd h0
   have hp:(0:Int)<2^tz (nv l):=by
    have:((2^tz (nv l):Nat):Int)>0:=by have:=Nat.pow_pos (n:=tz (nv l)) (show 0<2 by decide);omega
    simpa[Int.natCast_pow]using this
   generalize (2:Int)^tz (nv l)=p at*;rw[hq,Int.mul_ediv_cancel_left _ zo];unfold fU;rcases Int.lt_trichotomy q 0 with h|h|h
   . have:=Int.mul_neg_of_pos_of_neg hp h;simp only[h,this,if_true]
   . subst h;simp
   . have:=Int.mul_pos hp h;rw[if_neg zo,if_neg zo,if_neg zo,if_neg zo]
abbrev dR (d:Dyadic):Int:=fU (dN d)
def vg (s:Bool)(l:List UInt8)(e:Int)(g:Int)(hg:dR (aJ (s,l,e))=g)(w:World)(hx:Ok (s,l,e)):
 Cv 72 #[.agg #[aj s,ai l,ah e]] w (ah g):=by
 have h1:=hx.len;clear hx;have Hg:Hid (fU (iv s l)=g):=by show _=_;rw[<-hg];exact aha s l e
 have Hl:Hid (l.length<=1099511627776):=by show _<=_;omega
 clear hg;go_enter Tryz.func72,Tryz.ntmps72;have Hb:=hbz w;go_wp2_with fail;refine il w (Hb.an trivial) 48 [aj s,ai l,ah e] λW bi ag aC=>?_;go_wp2_with fail;refine aZ ag (Pn s l _ Hl.out) λw1 ag aC=>?_;rw[Hg.out];go_wp2;go_ret;exact⟨rfl,ag.2.1.out⟩
def yH (n e:Int):aJ (aK n,nt n.natAbs,e)=Dyadic.ofIntWithPrec n (-e):=by unfold aJ;simp only[gu]
def GA (n:Int)(D:Dyadic)(hD:Dyadic.ofIntWithPrec n 0=D)(w:World)(hn: -9223372036854775808<=n/\n<=9223372036854775807)(hT:aR w):
 Cv 30 #[ah n] w (cw D):=by
 obtain⟨N,hN⟩:=aI n;have HD:Hid (aJ (aK N,nt N.natAbs,0)=D):=by show _=_;rw[yH,<-hN];exact hD
 have Hl:Hid ((nt N.natAbs).length<=34359738368):=by
  show _<=_
  exact Nat.le_trans (jo (k:=8) zo) zd
 have HN:=az hN;clear hN hD;go_enter Tryz.func30,Tryz.ntmps30;have Hb:=hbz w;go_wp2_with fail;refine il w (Hb.an trivial) 48 [aj false,.string (bs []),ah 0] λW bi ag aC=>?_;go_wp2_with fail;refine aZ ag (Pm n N HN.out _ hn.1 hn.2) λw1 ag aC=>?_;have HT:=az (hT.below ag.2.1.out);go_wp2_with fail;refine aZ ag (zL (aK N) (nt N.natAbs) 0 D HD.out _ Hl.out zo HT.out) λw2 ag aC=>?_;have Hb:=ag.2.1;have r0:w2.cell? ⟨w.heap.size,0,none⟩=some (aj false):=ag.1.out.cell 0;have r1:w2.cell? ⟨w.heap.size,1,none⟩=some (.string (bs [])):=ag.1.out.cell 1;have r2:w2.cell? ⟨w.heap.size,2,none⟩=some (ah 0):=ag.1.out.cell 2;go_wp2;exact bodyPost_ret (v:=cw D) (by simp[results,Tryz.results30,go_sem,r0,r1,r2,aC]) rfl ⟨rfl,dt⟩
def Sq (s:Bool)(l:List UInt8)(e:Int)(D:Dyadic)(hD: -aJ (s,l,e)=D)(w:World)(hx:Ok (s,l,e))(hT:aR w):
 Cv 73 #[.agg #[aj s,ai l,ah e]] w (cw D):=by
 have h1:=hx.len;have h2:=hx.exp;clear hx;obtain⟨N,hN⟩:=aI (-(iv s l));have HD:Hid (aJ (aK N,nt N.natAbs,e)=D):=by
  show _=_
  rw[yH,<-hN,<-hD];unfold aJ;rw[OB]
 have Hl:Hid ((nt N.natAbs).length<=34359738368):=by show _<=_;rw[<-hN];exact JQ s l _ zo
 have rU:Hid (l.length<=1099511627776):=by show _<=_;omega
 have He:Hid (-1099511627776<=e/\e<=1099511627776):=by show _/\_;omega
 have HN:=az hN;clear hN hD;go_enter Tryz.func73,Tryz.ntmps73;have Hb:=hbz w;go_wp2_with fail;refine mC w (Hb.an trivial) 48 [aj s,ai l,ah e] 48 [aj false,.string (bs []),ah 0] λW bi ag aC=>?_;refine dG 6 ag (dD 7 0xc0a0409070301) ?_;refine bU ?_;refine cz ag (Pk s l N HN.out _ rU.out) λw1 ag=>?_;refine cz ag (zL (aK N) (nt N.natAbs) e D HD.out _ Hl.out He.out (hT.below ag.2.2.1.out)) λw2 ag=>?_;have aC:=qC ag;refine qOp λK hK=>?_;go_simp;refine hK _ _ (λh=>absurd h zd) ?_
 refine cL (bG w2 (w.heap.size+1) 0 (bY D)) bM ?_;intro w3 hs0;have ag:=cH hs0 ag;simp only[cB,List.set]at ag;have aC:=qC ag;refine dF ag λaC=>?_;have Hb:=ag.2.2.1;have r0:w3.cell? ⟨w.heap.size+1,0,none⟩=some (aj (aK (dN D))):=ag.2.1.out.cell 0;have r1:w3.cell? ⟨w.heap.size+1,1,none⟩=some (ai (nt (dN D).natAbs)):=ag.2.1.out.cell 1;have r2:w3.cell? ⟨w.heap.size+1,2,none⟩=some (ah (dE D)):=ag.2.1.out.cell 2;go_wp2;exact bodyPost_ret (v:=cw D) (by simp[results,Tryz.results73,go_sem,r0,r1,r2,aC]) rfl ⟨rfl,dt⟩
def aR.drew {w:World}(h:aR w):aR w.drew:=h
def aR.alloc {w:World}(h:aR w)(o:Obj):aR (w.alloc o):=λj hj=>bg (h j hj)
def pH (v k:Int):Int:=if 0<=k then v*2^k.toNat else v/2^(-k).toNat
def ayg (s:Bool)(l:List UInt8)(k Z:Int)(hZ:pH (iv s l) k=Z)(w:World)(hl:l.length<=34359738368)(hk: -549755813888<=k/\k<=549755813888)(hT:aR w):
 Cv 103 #[.agg #[aj s,ai l],ah k] w (dx Z):=by
 subst hZ;unfold pH;split
 . rename_i h
   have:=XB s l k.toNat w zo zo;rw[Int.toNat_of_nonneg h]at this;exact this
 . rename_i h
   have:=ah6 s l (-k).toNat w hl zo zo hT;rw[Int.toNat_of_nonneg zo,Int.neg_neg]at this;exact this
def Ew (s:Bool)(l:List UInt8)(e g Z:Int)(hZ:pH (iv s l) (e-g)=Z)(w:World)(hl:l.length<=34359738368)(hk: -549755813888<=e-g/\e-g<=549755813888)(hT:aR w):
 Cv 100 #[ah g,.agg #[aj s,ai l,ah e]] w (dx Z):=by
 obtain⟨k,kY⟩:=aI (e-g);have hwe:IntKind.i64.wrap (e-g)=k:=by rw[IntKind.wrap_i64];omega
 rw[kY]at hZ hk;have HZ:=az hZ;clear hZ kY;go_enter Tryz.func100,Tryz.ntmps100;have Hb:=hbz w;go_wp2_with fail;refine mC w (Hb.an trivial) 48 [aj s,ai l,ah e] 46 [aj false,.string (bs [])] λW bi ag aC=>?_;have HT:=az (hT.below ag.2.2.1.out);go_wp2_with fail;refine aZ ag (ayg s l k Z HZ.out _ hl hk HT.out) λw1 ag aC=>?_;have Hb:=ag.2.2.1;have r0:w1.cell? ⟨w.heap.size+1,0,none⟩=some (aj false):=ag.2.1.out.cell 0;have r1:w1.cell? ⟨w.heap.size+1,1,none⟩=some (.string (bs [])):=ag.2.1.out.cell 1;go_wp2;exact bodyPost_ret (v:=dx Z) (by simp[results,Tryz.results100,go_sem,r0,r1,aC]) rfl ⟨rfl,dt⟩
def vI (A B:Dyadic):Int:=if A=0 then dE B else if B=0 then dE A else min (dE A) (dE B)
def uA (A:Dyadic):A=Dyadic.ofIntWithPrec (dN A) (-(dE A)):=by have:=cJ A;unfold aJ canon at this;simp only[gu]at this;exact this.symm
def ago (A:Dyadic)(g:Int)(h:A=0\/g<=dE A):A=Dyadic.ofIntWithPrec (pH (dN A) (dE A-g)) (-g):=by
 rcases h with h|h
 . subst h;have:pH (dN 0) (dE 0-g)=0:=by unfold pH;rw[Sp];split<;>simp
   rw[this,zX]
 . unfold pH;rw[if_pos zo];have:=xL (dN A) (dE A-g).toNat (-(dE A));rw[show-(dE A)+((dE A-g).toNat:Int)= -g by omega]at this;rw[this];exact uA A
def as1 (A B:Dyadic):(A=0\/vI A B<=dE A)/\(B=0\/vI A B<=dE B):=by
 unfold vI;split
 . exact⟨.inl ‹_›,.inr zo⟩
 . split
   . exact⟨.inr zo,.inl ‹_›⟩
   . exact⟨.inr zo,.inr zo⟩
def agf {A:Dyadic}:A=0\/((nt (dN A).natAbs)≠[]/\A≠0):=by
 by_cases h:A=0
 . exact .inl h
 . refine .inr ⟨?_,h⟩;intro h2;apply h;have:(dN A).natAbs=0:=by rw[<-jp (dN A).natAbs,h2];rfl
   rw[uA A,show dN A=0 by omega,zX]
def Ok.parts {x:Raw}(h:Ok x):(nt (dN (aJ x)).natAbs).length<=1073741824/\ -4294967296<=dE (aJ x)/\dE (aJ x)<=4294967296:=by obtain⟨B,hB,hs⟩:∃B,B<=4294967296/\Sm B (aJ x):=⟨4294967296,Nat.le_refl _,h.sm⟩;obtain⟨h1,h2,h3⟩:=hs.parts;exact⟨ll h1 zo,by clear h1;omega,by clear h1;omega⟩
def asC (s:Bool)(l:List UInt8)(e:Int)(t:Bool)(m:List UInt8)(f:Int)(A B:Dyadic)(hA:aJ (s,l,e)=A)(hB:aJ (t,m,f)=B)(g X Y:Int)(hg:vI A B=g)(hX:pH (dN A) (dE A-g)=X)(hY:pH (dN B) (dE B-g)=Y)
 (w:World) (hx:Ok (s,l,e)) (hy:Ok (t,m,f)) (hT:aR w):
 Cv 58 #[.agg #[aj s,ai l,ah e],.agg #[aj t,ai m,ah f]] w (.agg #[ah g,aj (aK X),ai (nt X.natAbs),aj (aK Y),ai (nt Y.natAbs)]):=by
 have pA:=hx.parts;rw[hA]at pA;have pB:=hy.parts;rw[hB]at pB;obtain⟨HA,HB⟩:=aU hA hB;clear hA hB;obtain⟨a,ha⟩:=aI (nt (dN A).natAbs);obtain⟨p,hp⟩:=aI (aK (dN A));obtain⟨i,hi⟩:=aI (dE A);obtain⟨b,hb⟩:=aI (nt (dN B).natAbs);obtain⟨q,hq⟩:=aI (aK (dN B));obtain⟨j,hj⟩:=aI (dE B);have DN:pH (iv p a) (i-g)=X:=by rw[<-hp,<-ha,gu,<-hi];exact hX
 have hY2:pH (iv q b) (j-g)=Y:=by rw[<-hq,<-hb,gu,<-hj];exact hY
 have YQ:Hid (∀W,aR W->Cv 70 #[.agg #[aj s,ai l,ah e]] W (.agg #[aj p,ai a,ah i])):=by intro W hW;rw[<-hp,<-ha,<-hi];exact sw s l e A HA.out W hx hW
 have YR:Hid (∀W,aR W->Cv 70 #[.agg #[aj t,ai m,ah f]] W (.agg #[aj q,ai b,ah j])):=by intro W hW;rw[<-hq,<-hb,<-hj];exact sw t m f B HB.out W hy hW
 have hlv:(A=0/\g=j)\/(A≠0/\B=0/\g=i)\/(A≠0/\B≠0/\g=min i j):=by
  rw[<-hg];unfold vI;by_cases h1:A=0
  . simp[h1,hj]
  . by_cases h2:B=0<;>simp[h1,h2,hi,hj]
 rw[ha,hi]at pA;rw[hb,hj]at pB;have zA:A=0->(p=false/\a=[]/\i=0):=by rintro rfl;exact⟨hp.symm,ha.symm,hi.symm⟩
 have zB:B=0->(q=false/\b=[]/\j=0):=by rintro rfl;exact⟨hq.symm,hb.symm,hj.symm⟩
 have nA:A≠0->a≠[]:=by intro h;rw[<-ha];rcases agf (A:=A)with h2|h2;exact absurd h2 h;exact h2.1
 have nB:B≠0->b≠[]:=by intro h;rw[<-hb];rcases agf (A:=B)with h2|h2;exact absurd h2 h;exact h2.1
 have II: -549755813888<=i-g/\i-g<=549755813888:=by rcases hlv with⟨_,h⟩ |⟨_,_,h⟩ |⟨_,_,h⟩<;>omega
 have hgj: -549755813888<=j-g/\j-g<=549755813888:=by rcases hlv with⟨_,h⟩ |⟨_,_,h⟩ |⟨_,_,h⟩<;>omega
 obtain⟨HX,HY⟩:=aU DN hY2;have La:Hid (a.length<=34359738368):=by show _<=_;omega
 have Lb:Hid (b.length<=34359738368):=by show _<=_;omega
 obtain⟨Qo,Qp⟩:=aU II hgj;clear DN hY2 hX hY hg ha hp hi hb hq hj II hgj HA HB hx hy;go_enter Tryz.func58,Tryz.ntmps58;have Hb:=hbz w;go_wp2_with fail;refine EE w (Hb.an trivial) 48 [aj s,ai l,ah e] 48 [aj t,ai m,ah f] 94 [ah 0,aj false,.string (bs []),aj false,.string (bs [])] λW bi ag aC=>?_;have HT:=az (hT.below ag.2.2.2.1.out);refine dG 4 ag (dD 6 0xa0806020501) ?_;refine bU ?_;refine cz ag (YQ.out _ (qU HT.out)) λw1 ag=>?_;refine cz ag (YR.out _ (qU (hT.below ag.2.2.2.1.out))) λw2 ag=>?_;have aC:=qC ag;refine qOp λK hK=>?_;go_simp;refine hK _ _ (λh=>absurd h zd) ?_
 refine cL (bG w2 (w.heap.size) 0 [aj p,ai a,ah i]) bM ?_;intro w3 hs0;have ag:=cH hs0 ag;simp only[cB,List.set]at ag;have aC:=qC ag;have aC:=qC ag;refine qOp λK hK=>?_;go_simp;refine hK _ _ (λh=>absurd h zd) ?_
 refine cL (bG w3 (w.heap.size+1) 0 [aj q,ai b,ah j]) bM ?_;intro w4 hs0;have ag:=cH hs0 ag;simp only[cB,List.set]at ag;have aC:=qC ag;refine dF ag λaC=>?_;have FW:=ag.2.2.1;clear HT YQ YR;rcases hlv with⟨h1,h2⟩ |⟨h1,h3,h2⟩ |⟨h1,h3,h2⟩
 . obtain⟨rfl,rfl,rfl⟩:=zA h1;subst h2;have z1:(bs []).toList=[]:=fL _;clear zA zB nA nB pA pB;have Hx:=ag.1;have Hy:=ag.2.1;have Hr:=ag.2.2.1;have Hb:=ag.2.2.2.1;obtain⟨ag,aC⟩:=qZ (Hx.an<|Hy.an<|Hr.an trivial);have bi:=qL (Hb.an ag);go_wp2_with fail;refine il w4 (Hb.an ag) 94 [ah g,aj false,.string (bs []),aj false,.string (bs [])] λW5 bi ag aC=>?_;have hns:w.heap.size+1+1<w4.heap.size:=FW.out.lt;obtain⟨Hn,Hb,Hx,Hy,Hr,_⟩:=ag;obtain⟨x0,lT,x1,lU,x2,qw⟩:=Hx.out.g3;obtain⟨y0,jA,y1,jB,y2,lV⟩:=Hy.out.g3;obtain⟨r0,bo,r1,bz,r2,lS,r3,qp,r4,qu⟩:=Hr.out.g5;obtain⟨n0,pZ,n1,qh,n2,qi,n3,qj,n4,ql⟩:=Hn.out.g5;refine ez (λw'=>aV w' (w.heap.size) 0 (aj false)/\aV w' (w.heap.size) 1 (.string (bs []))/\aV w' (w.heap.size) 2 (ah 0)/\aV w' (w.heap.size+1) 0 (aj q)/\aV w' (w.heap.size+1) 1 (ai b)/\aV w' (w.heap.size+1) 2 (ah g)/\aV w' (w4.heap.size) 0 (ah g)) (λi=>Nat.blt i 11) [(0,true),(1,true),(2,true),(4,true),(5,true),(6,true),(3,false),(8,true),(7,false),(9,false),(10,true),(11,false)] zk zk rfl zk zc ⟨x0,x1,x2,y0,y1,y2,n0⟩ ?_;iterate 6 (refine pT rfl rfl ?_ (by intro w' ⟨q0,q1,q2,q3,q4,q5,q6⟩;go_simp;try with_reducible rfl))
   refine aY rfl rfl (λK hK=>?_);go_simp;with_reducible refine(Ew false [] 0 g X HX.out _ La.out Qo.out (by first|exact(hT.below Hb.out) |exact aR.drew (hT.below Hb.out) |exact aR.alloc (hT.below Hb.out) _|exact aR.drew (aR.alloc (hT.below Hb.out) _) |exact aR.alloc (aR.drew (hT.below Hb.out)) _)).mono ?_
   rintro e w6 ⟨rfl,hq⟩;have au:Bw W5 w6:=by first|exact hq|exact df hq
   obtain⟨Hx,x0,lT,x1,lU,x2,qw⟩:=nH Hx au;obtain⟨Hy,y0,jA,y1,jB,y2,lV⟩:=nH Hy au;replace Hr:=kB Hr au;replace Hn:=kB Hn au;obtain⟨r0,bo,r1,bz,r2,lS,r3,qp,r4,qu⟩:=Hr.out.g5;obtain⟨n0,pZ,n1,qh,n2,qi,n3,qj,n4,ql⟩:=Hn.out.g5;replace Hb:=bD Hb au;refine hK _ _ (λ_=>⟨x0,x1,x2,y0,y1,y2,n0⟩) ?_
   refine pT rfl rfl ?_
   refine aY rfl rfl (λK hK=>?_);go_simp;with_reducible refine(Ew q b g g Y HY.out _ Lb.out Qp.out (by first|exact(hT.below Hb.out) |exact aR.drew (hT.below Hb.out) |exact aR.alloc (hT.below Hb.out) _|exact aR.drew (aR.alloc (hT.below Hb.out) _) |exact aR.alloc (aR.drew (hT.below Hb.out)) _)).mono ?_
   rintro e w7 ⟨rfl,hq⟩;have au:Bw w6 w7:=by first|exact hq|exact df hq
   obtain⟨Hx,x0,lT,x1,lU,x2,qw⟩:=nH Hx au;obtain⟨Hy,y0,jA,y1,jB,y2,lV⟩:=nH Hy au;replace Hr:=kB Hr au;replace Hn:=kB Hn au;obtain⟨r0,bo,r1,bz,r2,lS,r3,qp,r4,qu⟩:=Hr.out.g5;obtain⟨n0,pZ,n1,qh,n2,qi,n3,qj,n4,ql⟩:=Hn.out.g5;replace Hb:=bD Hb au;refine hK _ _ (λ_=>⟨x0,x1,x2,y0,y1,y2,n0⟩) ?_
   refine aY rfl rfl (λK hK=>?_);go_simp;refine hK _ _ (λ_=>⟨(aQ zf (aQ zf x0)),(aQ zf (aQ zf x1)),(aQ zf (aQ zf x2)),(aQ zf (aQ zf y0)),(aQ zf (aQ zf y1)),(aQ zf (aQ zf y2)),(aQ zf (aQ zf n0))⟩) ?_
   refine cL (bG w7 (w4.heap.size) 1 [aj (aK X),ai (nt X.natAbs)]) bM ?_;intro w8 hs;replace Hx:=kS Hx hs zo;replace Hy:=kS Hy hs zo;replace Hr:=kS Hr hs zo;replace Hn:Hid (aH w8 (w4.heap.size) 94 [ah g,aj (aK X),ai (nt X.natAbs),aj false,.string (bs [])]):=zJ Hn hs;obtain⟨x0,lT,x1,lU,x2,qw⟩:=Hx.out.g3;obtain⟨y0,jA,y1,jB,y2,lV⟩:=Hy.out.g3;obtain⟨r0,bo,r1,bz,r2,lS,r3,qp,r4,qu⟩:=Hr.out.g5;obtain⟨n0,pZ,n1,qh,n2,qi,n3,qj,n4,ql⟩:=Hn.out.g5;replace Hb:=bS Hb hs ZS;clear hs;refine pT rfl rfl ?_
   refine aY rfl rfl (λK hK=>?_);go_simp;refine hK _ _ (λh=>absurd h zd) ?_
   refine cL (bG w8 (w4.heap.size) 3 [aj (aK Y),ai (nt Y.natAbs)]) bM ?_;intro w9 hs;replace Hx:=kS Hx hs zo;replace Hy:=kS Hy hs zo;replace Hr:=kS Hr hs zo;replace Hn:Hid (aH w9 (w4.heap.size) 94 [ah g,aj (aK X),ai (nt X.natAbs),aj (aK Y),ai (nt Y.natAbs)]):=zJ Hn hs;obtain⟨x0,lT,x1,lU,x2,qw⟩:=Hx.out.g3;obtain⟨y0,jA,y1,jB,y2,lV⟩:=Hy.out.g3;obtain⟨r0,bo,r1,bz,r2,lS,r3,qp,r4,qu⟩:=Hr.out.g5;obtain⟨n0,pZ,n1,qh,n2,qi,n3,qj,n4,ql⟩:=Hn.out.g5;replace Hb:=bS Hb hs ZS;clear hs;simp only[bP];go_wp2;exact bodyPost_ret (v:=.agg #[ah g,aj (aK X),ai (nt X.natAbs),aj (aK Y),ai (nt Y.natAbs)]) (by simp[results,Tryz.results58,go_sem,r0,r1,r2,r3,r4]) rfl ⟨rfl,dt⟩
 . obtain⟨rfl,rfl,rfl⟩:=zB h3;subst h2;have z1:(bs []).toList=[]:=fL _;have z2:¬(bs a).toList=[]:=by rw[fL];exact nA h1
   clear zA zB nA nB pA pB;have Hx:=ag.1;have Hy:=ag.2.1;have Hr:=ag.2.2.1;have Hb:=ag.2.2.2.1;obtain⟨ag,aC⟩:=qZ (Hx.an<|Hy.an<|Hr.an trivial);have bi:=qL (Hb.an ag);go_wp2_with fail;refine il w4 (Hb.an ag) 94 [ah g,aj false,.string (bs []),aj false,.string (bs [])] λW5 bi ag aC=>?_;have hns:w.heap.size+1+1<w4.heap.size:=FW.out.lt;obtain⟨Hn,Hb,Hx,Hy,Hr,_⟩:=ag;obtain⟨x0,lT,x1,lU,x2,qw⟩:=Hx.out.g3;obtain⟨y0,jA,y1,jB,y2,lV⟩:=Hy.out.g3;obtain⟨r0,bo,r1,bz,r2,lS,r3,qp,r4,qu⟩:=Hr.out.g5;obtain⟨n0,pZ,n1,qh,n2,qi,n3,qj,n4,ql⟩:=Hn.out.g5;refine ez (λw'=>aV w' (w.heap.size) 0 (aj p)/\aV w' (w.heap.size) 1 (ai a)/\aV w' (w.heap.size) 2 (ah g)/\aV w' (w.heap.size+1) 0 (aj false)/\aV w' (w.heap.size+1) 1 (.string (bs []))/\aV w' (w.heap.size+1) 2 (ah 0)/\aV w' (w4.heap.size) 0 (ah g)) (λi=>Nat.blt i 11) [(0,true),(1,true),(2,true),(4,true),(5,true),(6,true),(3,false),(8,true),(7,false),(9,false),(10,true),(11,false)] zk zk rfl zk zc ⟨x0,x1,x2,y0,y1,y2,n0⟩ ?_;iterate 6 (refine pT rfl rfl ?_ (by intro w' ⟨q0,q1,q2,q3,q4,q5,q6⟩;go_simp;try with_reducible rfl))
   refine aY rfl rfl (λK hK=>?_);go_simp;with_reducible refine(Ew p a g g X HX.out _ La.out Qo.out (by first|exact(hT.below Hb.out) |exact aR.drew (hT.below Hb.out) |exact aR.alloc (hT.below Hb.out) _|exact aR.drew (aR.alloc (hT.below Hb.out) _) |exact aR.alloc (aR.drew (hT.below Hb.out)) _)).mono ?_
   rintro e w6 ⟨rfl,hq⟩;have au:Bw W5 w6:=by first|exact hq|exact df hq
   obtain⟨Hx,x0,lT,x1,lU,x2,qw⟩:=nH Hx au;obtain⟨Hy,y0,jA,y1,jB,y2,lV⟩:=nH Hy au;replace Hr:=kB Hr au;replace Hn:=kB Hn au;obtain⟨r0,bo,r1,bz,r2,lS,r3,qp,r4,qu⟩:=Hr.out.g5;obtain⟨n0,pZ,n1,qh,n2,qi,n3,qj,n4,ql⟩:=Hn.out.g5;replace Hb:=bD Hb au;refine hK _ _ (λ_=>⟨x0,x1,x2,y0,y1,y2,n0⟩) ?_
   refine pT rfl rfl ?_
   refine aY rfl rfl (λK hK=>?_);go_simp;with_reducible refine(Ew false [] 0 g Y HY.out _ Lb.out Qp.out (by first|exact(hT.below Hb.out) |exact aR.drew (hT.below Hb.out) |exact aR.alloc (hT.below Hb.out) _|exact aR.drew (aR.alloc (hT.below Hb.out) _) |exact aR.alloc (aR.drew (hT.below Hb.out)) _)).mono ?_
   rintro e w7 ⟨rfl,hq⟩;have au:Bw w6 w7:=by first|exact hq|exact df hq
   obtain⟨Hx,x0,lT,x1,lU,x2,qw⟩:=nH Hx au;obtain⟨Hy,y0,jA,y1,jB,y2,lV⟩:=nH Hy au;replace Hr:=kB Hr au;replace Hn:=kB Hn au;obtain⟨r0,bo,r1,bz,r2,lS,r3,qp,r4,qu⟩:=Hr.out.g5;obtain⟨n0,pZ,n1,qh,n2,qi,n3,qj,n4,ql⟩:=Hn.out.g5;replace Hb:=bD Hb au;refine hK _ _ (λ_=>⟨x0,x1,x2,y0,y1,y2,n0⟩) ?_
   refine aY rfl rfl (λK hK=>?_);go_simp;refine hK _ _ (λ_=>⟨(aQ zf (aQ zf x0)),(aQ zf (aQ zf x1)),(aQ zf (aQ zf x2)),(aQ zf (aQ zf y0)),(aQ zf (aQ zf y1)),(aQ zf (aQ zf y2)),(aQ zf (aQ zf n0))⟩) ?_
   refine cL (bG w7 (w4.heap.size) 1 [aj (aK X),ai (nt X.natAbs)]) bM ?_;intro w8 hs;replace Hx:=kS Hx hs zo;replace Hy:=kS Hy hs zo;replace Hr:=kS Hr hs zo;replace Hn:Hid (aH w8 (w4.heap.size) 94 [ah g,aj (aK X),ai (nt X.natAbs),aj false,.string (bs [])]):=zJ Hn hs;obtain⟨x0,lT,x1,lU,x2,qw⟩:=Hx.out.g3;obtain⟨y0,jA,y1,jB,y2,lV⟩:=Hy.out.g3;obtain⟨r0,bo,r1,bz,r2,lS,r3,qp,r4,qu⟩:=Hr.out.g5;obtain⟨n0,pZ,n1,qh,n2,qi,n3,qj,n4,ql⟩:=Hn.out.g5;replace Hb:=bS Hb hs ZS;clear hs;refine pT rfl rfl ?_
   refine aY rfl rfl (λK hK=>?_);go_simp;refine hK _ _ (λh=>absurd h zd) ?_
   refine cL (bG w8 (w4.heap.size) 3 [aj (aK Y),ai (nt Y.natAbs)]) bM ?_;intro w9 hs;replace Hx:=kS Hx hs zo;replace Hy:=kS Hy hs zo;replace Hr:=kS Hr hs zo;replace Hn:Hid (aH w9 (w4.heap.size) 94 [ah g,aj (aK X),ai (nt X.natAbs),aj (aK Y),ai (nt Y.natAbs)]):=zJ Hn hs;obtain⟨x0,lT,x1,lU,x2,qw⟩:=Hx.out.g3;obtain⟨y0,jA,y1,jB,y2,lV⟩:=Hy.out.g3;obtain⟨r0,bo,r1,bz,r2,lS,r3,qp,r4,qu⟩:=Hr.out.g5;obtain⟨n0,pZ,n1,qh,n2,qi,n3,qj,n4,ql⟩:=Hn.out.g5;replace Hb:=bS Hb hs ZS;clear hs;simp only[bP];go_wp2;exact bodyPost_ret (v:=.agg #[ah g,aj (aK X),ai (nt X.natAbs),aj (aK Y),ai (nt Y.natAbs)]) (by simp[results,Tryz.results58,go_sem,r0,r1,r2,r3,r4]) rfl ⟨rfl,dt⟩
 . have z1:¬(bs b).toList=[]:=by rw[fL];exact nB h3
   have z2:¬(bs a).toList=[]:=by rw[fL];exact nA h1
   have z3:min i j=g:=h2.symm;clear zA zB nA nB pA pB h2;have Hx:=ag.1;have Hy:=ag.2.1;have Hr:=ag.2.2.1;have Hb:=ag.2.2.2.1;obtain⟨ag,aC⟩:=qZ (Hx.an<|Hy.an<|Hr.an trivial);have bi:=qL (Hb.an ag);go_wp2_with fail;refine il w4 (Hb.an ag) 94 [ah g,aj false,.string (bs []),aj false,.string (bs [])] λW5 bi ag aC=>?_;have hns:w.heap.size+1+1<w4.heap.size:=FW.out.lt;obtain⟨Hn,Hb,Hx,Hy,Hr,_⟩:=ag;obtain⟨x0,lT,x1,lU,x2,qw⟩:=Hx.out.g3;obtain⟨y0,jA,y1,jB,y2,lV⟩:=Hy.out.g3;obtain⟨r0,bo,r1,bz,r2,lS,r3,qp,r4,qu⟩:=Hr.out.g5;obtain⟨n0,pZ,n1,qh,n2,qi,n3,qj,n4,ql⟩:=Hn.out.g5;refine ez (λw'=>aV w' (w.heap.size) 0 (aj p)/\aV w' (w.heap.size) 1 (ai a)/\aV w' (w.heap.size) 2 (ah i)/\aV w' (w.heap.size+1) 0 (aj q)/\aV w' (w.heap.size+1) 1 (ai b)/\aV w' (w.heap.size+1) 2 (ah j)/\aV w' (w4.heap.size) 0 (ah g)) (λi=>Nat.blt i 11) [(0,true),(1,true),(2,true),(4,true),(5,true),(6,true),(3,false),(8,true),(7,false),(9,false),(10,true),(11,false)] zk zk rfl zk zc ⟨x0,x1,x2,y0,y1,y2,n0⟩ ?_;iterate 6 (refine pT rfl rfl ?_ (by intro w' ⟨q0,q1,q2,q3,q4,q5,q6⟩;go_simp;try with_reducible rfl))
   refine aY rfl rfl (λK hK=>?_);go_simp;with_reducible refine(Ew p a i g X HX.out _ La.out Qo.out (by first|exact(hT.below Hb.out) |exact aR.drew (hT.below Hb.out) |exact aR.alloc (hT.below Hb.out) _|exact aR.drew (aR.alloc (hT.below Hb.out) _) |exact aR.alloc (aR.drew (hT.below Hb.out)) _)).mono ?_
   rintro e w6 ⟨rfl,hq⟩;have au:Bw W5 w6:=by first|exact hq|exact df hq
   obtain⟨Hx,x0,lT,x1,lU,x2,qw⟩:=nH Hx au;obtain⟨Hy,y0,jA,y1,jB,y2,lV⟩:=nH Hy au;replace Hr:=kB Hr au;replace Hn:=kB Hn au;obtain⟨r0,bo,r1,bz,r2,lS,r3,qp,r4,qu⟩:=Hr.out.g5;obtain⟨n0,pZ,n1,qh,n2,qi,n3,qj,n4,ql⟩:=Hn.out.g5;replace Hb:=bD Hb au;refine hK _ _ (λ_=>⟨x0,x1,x2,y0,y1,y2,n0⟩) ?_
   refine pT rfl rfl ?_
   refine aY rfl rfl (λK hK=>?_);go_simp;with_reducible refine(Ew q b j g Y HY.out _ Lb.out Qp.out (by first|exact(hT.below Hb.out) |exact aR.drew (hT.below Hb.out) |exact aR.alloc (hT.below Hb.out) _|exact aR.drew (aR.alloc (hT.below Hb.out) _) |exact aR.alloc (aR.drew (hT.below Hb.out)) _)).mono ?_
   rintro e w7 ⟨rfl,hq⟩;have au:Bw w6 w7:=by first|exact hq|exact df hq
   obtain⟨Hx,x0,lT,x1,lU,x2,qw⟩:=nH Hx au;obtain⟨Hy,y0,jA,y1,jB,y2,lV⟩:=nH Hy au;replace Hr:=kB Hr au;replace Hn:=kB Hn au;obtain⟨r0,bo,r1,bz,r2,lS,r3,qp,r4,qu⟩:=Hr.out.g5;obtain⟨n0,pZ,n1,qh,n2,qi,n3,qj,n4,ql⟩:=Hn.out.g5;replace Hb:=bD Hb au;refine hK _ _ (λ_=>⟨x0,x1,x2,y0,y1,y2,n0⟩) ?_
   refine aY rfl rfl (λK hK=>?_);go_simp;refine hK _ _ (λ_=>⟨(aQ zf (aQ zf x0)),(aQ zf (aQ zf x1)),(aQ zf (aQ zf x2)),(aQ zf (aQ zf y0)),(aQ zf (aQ zf y1)),(aQ zf (aQ zf y2)),(aQ zf (aQ zf n0))⟩) ?_
   refine cL (bG w7 (w4.heap.size) 1 [aj (aK X),ai (nt X.natAbs)]) bM ?_;intro w8 hs;replace Hx:=kS Hx hs zo;replace Hy:=kS Hy hs zo;replace Hr:=kS Hr hs zo;replace Hn:Hid (aH w8 (w4.heap.size) 94 [ah g,aj (aK X),ai (nt X.natAbs),aj false,.string (bs [])]):=zJ Hn hs;obtain⟨x0,lT,x1,lU,x2,qw⟩:=Hx.out.g3;obtain⟨y0,jA,y1,jB,y2,lV⟩:=Hy.out.g3;obtain⟨r0,bo,r1,bz,r2,lS,r3,qp,r4,qu⟩:=Hr.out.g5;obtain⟨n0,pZ,n1,qh,n2,qi,n3,qj,n4,ql⟩:=Hn.out.g5;replace Hb:=bS Hb hs ZS;clear hs;refine pT rfl rfl ?_
   refine aY rfl rfl (λK hK=>?_);go_simp;refine hK _ _ (λh=>absurd h zd) ?_
   refine cL (bG w8 (w4.heap.size) 3 [aj (aK Y),ai (nt Y.natAbs)]) bM ?_;intro w9 hs;replace Hx:=kS Hx hs zo;replace Hy:=kS Hy hs zo;replace Hr:=kS Hr hs zo;replace Hn:Hid (aH w9 (w4.heap.size) 94 [ah g,aj (aK X),ai (nt X.natAbs),aj (aK Y),ai (nt Y.natAbs)]):=zJ Hn hs;obtain⟨x0,lT,x1,lU,x2,qw⟩:=Hx.out.g3;obtain⟨y0,jA,y1,jB,y2,lV⟩:=Hy.out.g3;obtain⟨r0,bo,r1,bz,r2,lS,r3,qp,r4,qu⟩:=Hr.out.g5;obtain⟨n0,pZ,n1,qh,n2,qi,n3,qj,n4,ql⟩:=Hn.out.g5;replace Hb:=bS Hb hs ZS;clear hs;simp only[bP];go_wp2;exact bodyPost_ret (v:=.agg #[ah g,aj (aK X),ai (nt X.natAbs),aj (aK Y),ai (nt Y.natAbs)]) (by simp[results,Tryz.results58,go_sem,r0,r1,r2,r3,r4]) rfl ⟨rfl,dt⟩
def amr (X Y:Int)(n:Nat)(hX:(nt X.natAbs).length<=n)(hY:(nt Y.natAbs).length<=n):(nt (X+Y).natAbs).length<=n+1:=by have h1:=gw (nt X.natAbs);have h2:=gw (nt Y.natAbs);rw[jp]at h1 h2;have h3:=Nat.lt_of_lt_of_le h1 (Nat.pow_le_pow_right (show 0<256 by decide) hX);have h4:=Nat.lt_of_lt_of_le h2 (Nat.pow_le_pow_right (show 0<256 by decide) hY);refine jo ?_;rw[Nat.pow_succ];omega
def atp (X Y:Int)(m n:Nat)(hX:(nt X.natAbs).length<=m)(hY:(nt Y.natAbs).length<=n):(nt (X*Y).natAbs).length<=m+n:=by have h1:=gw (nt X.natAbs);have h2:=gw (nt Y.natAbs);rw[jp]at h1 h2;have h3:=Nat.lt_of_lt_of_le h1 (Nat.pow_le_pow_right (show 0<256 by decide) hX);have h4:=Nat.lt_of_lt_of_le h2 (Nat.pow_le_pow_right (show 0<256 by decide) hY);refine jo ?_;rw[Int.natAbs_mul,Nat.pow_add];exact Nat.mul_lt_mul'' h3 h4
def ahb (v k:Int)(a b:Nat)(hv:v.natAbs<2^a)(hk:k<=b):(pH v k).natAbs<2^(a+b):=by
 have h0:v.natAbs<2^(a+b):=Nat.lt_of_lt_of_le hv (Nat.pow_le_pow_right zd zo);unfold pH;split
 . rw[Int.natAbs_mul,Int.natAbs_pow,Nat.pow_add];refine Nat.lt_of_le_of_lt (Nat.mul_le_mul_left _ (Nat.pow_le_pow_right zd (show k.toNat<=b by omega))) ?_;exact Nat.mul_lt_mul_of_pos_right hv (Nat.pow_pos zd)
 . have hp:(0:Int)<2^(-k).toNat:=by
    have:((2^(-k).toNat:Nat):Int)>0:=by have:=Nat.pow_pos (n:=(-k).toNat) (show 0<2 by decide);omega
    simpa[Int.natCast_pow]using this
   generalize (2:Int)^(-k).toNat=p at*;have:(v/p).natAbs<=v.natAbs:=by
    rcases Int.le_total 0 v with h|h
    . have h1:=Int.ediv_nonneg h (by omega:(0:Int)<=p);have h2:=Int.ediv_le_self p h;omega
    . have h1:v<=v/p:=by rw[Int.le_ediv_iff_mul_le hp];have:=Int.mul_le_mul_of_nonpos_left h (show(1:Int)<=p by omega);omega
      have h2:v/p<=0:=by have:=Int.ediv_le_ediv hp h;simpa using this
      omega
   omega
def as2 {x y:Raw}(hx:Ok x)(hy:Ok y)(A B:Dyadic)(hA:aJ x=A)(hB:aJ y=B):∃g X Y,vI A B=g/\pH (dN A) (dE A-g)=X/\pH (dN B) (dE B-g)=Y/\A=Dyadic.ofIntWithPrec X (-g)/\B=Dyadic.ofIntWithPrec Y (-g)/\
 (nt X.natAbs).length<=17179869183/\(nt Y.natAbs).length<=17179869183/\ -1099511627776<=g/\g<=1099511627776:=by
 subst hA hB;obtain⟨M,hM,sx,sy⟩:∃M,M<=4294967296/\Sm M (aJ x)/\Sm M (aJ y):=⟨4294967296,Nat.le_refl _,hx.sm,hy.sm⟩;obtain⟨a1,a2,a3⟩:=sx.parts;obtain⟨b1,b2,b3⟩:=sy.parts;generalize aJ x=A at*;generalize aJ y=B at*;obtain⟨h1,h2⟩:=as1 A B;have hg: -(M:Int)<=vI A B/\vI A B<=M:=by
  clear a1 b1;unfold vI;split
  . omega
  . split<;>omega
 refine⟨vI A B,_,_,rfl,rfl,rfl,ago A _ h1,ago B _ h2,?_,?_,?_,?_⟩
 . exact ll (ahb _ _ _ (2*M) a1 (by clear a1 b1;omega)) zo
 . exact ll (ahb _ _ _ (2*M) b1 (by clear a1 b1;omega)) zo
 . clear a1 b1;omega
 . clear a1 b1;omega
def bK (x:Raw):List Value:=[aj x.1,ai x.2.1,ah x.2.2]
def mY :List Raw->Dyadic
 |[]=>0
 |x::xs=>aJ x+mY xs
def ape (xs ys:List Raw):mY (xs++ys)=mY xs+mY ys:=by
 induction xs with
 |nil=>simp only[List.nil_append,mY];grind
 |cons x xs ih=>simp only[List.cons_append,mY,ih];grind
def apg (xs:List Raw)(k:Nat)(hk:k<xs.length):mY (xs.take (k+1))=mY (xs.take k)+aJ xs[k]:=by rw[List.take_succ_eq_append_getElem hk,ape];simp only[mY];grind
def lR :List Raw->Dyadic
 |[]=>1
 |x::xs=>aJ x*lR xs
def apa (xs ys:List Raw):lR (xs++ys)=lR xs*lR ys:=by
 induction xs with
 |nil=>simp only[List.nil_append,lR];grind
 |cons x xs ih=>simp only[List.cons_append,lR,ih];grind
def apc (xs:List Raw)(k:Nat)(hk:k<xs.length):lR (xs.take (k+1))=lR (xs.take k) *aJ xs[k]:=by rw[List.take_succ_eq_append_getElem hk,apa];simp only[lR];grind
def ax9 (X Y N:Int)(hN:X+Y=N)(b cap:Nat)(ty:TypeId)(w:World)(hl:(nt X.natAbs).length<=34359738368)(hm:(nt Y.natAbs).length<=34359738368)
 (ha:aH w b ty [aj (aK X),ai (nt X.natAbs),aj (aK Y),ai (nt Y.natAbs)]):
 Cv 60 #[.slice (some ⟨b,0,none⟩) 2 cap] w (dx N):=by
 have:=ah0 (aK X) (nt X.natAbs) (aK Y) (nt Y.natAbs) b cap ty w hl hm ha;rw[gu,gu,hN]at this;exact this
def ah3 (s:Bool)(l:List UInt8)(t:Bool)(m:List UInt8)(N:Int)(hN:iv s l*iv t m=N)(b cap:Nat)(ty:TypeId)(w:World)(hl:l.length<=17179869184)(hm:m.length<=17179869184)
 (ha:aH w b ty [aj s,ai l,aj t,ai m]):
 Cv 62 #[.slice (some ⟨b,0,none⟩) 2 cap] w (dx N):=by
 have:=ayd [(s,l),(t,m)] (some ⟨b,0,none⟩) cap w (by simp[rL];omega) zm (At.aCi ha);have e:iD [(s,l),(t,m)]=N:=by rw[<-hN];simp[iD]
 rw[e]at this;exact this
def aoE (xs:List Raw)(a:Option Addr)(cap:Nat)(w:World)(hl:∀x∈xs,Ok x)(hS:∀k,Ok (canon (mY (xs.take k))))(hx:xs.length<=1048576)
 (ha:At w a (xs.flatMap bK)) (hT:aR w):
 Cv 18 #[.slice a xs.length cap] w (cw (mY xs)):=by
 have Hl:=az hl;clear hl;have HS:=az hS;clear hS;have Ha:=az ha;clear ha;have js:=az hT;clear hT;go_enter Tryz.func18,Tryz.ntmps18;have Hb:=hbz w;go_wp2_with fail;refine mC w (Hb.an trivial) 48 [aj false,.string (bs []),ah 0] 48 [aj false,.string (bs []),ah 0] λW bi ag aC=>?_
 go_loopw[5,6,9] (λ_ _ i wr=>∃(k:Nat),k<=xs.length/\i=ah k/\aH wr w.heap.size 48 [aj false,.string (bs []),ah 0]/\
  aH wr (w.heap.size+1) 48 (bK (canon (mY (xs.take k))))/\Bw w wr) (λ_ _ i _=>xs.length-(intOf i).toNat)
 case atStart=>exact⟨0,Nat.zero_le _,rfl,ag.1.out,ag.2.1.out,ag.2.2.1.out⟩
 case round=>
  obtain⟨k,hk,rfl,qr,qs,hb⟩:=hrel;obtain⟨Hr,Hs,Hb⟩:=cE qr qs hb;clear qr qs hb;by_cases hlt:k<xs.length
  . obtain ⟨b,o,hab,hcs⟩:=(Ha.out.below Hb.out).elem (f:=bK) (sz:=3) (fun _=>rfl) zd k hlt;have hc0:wr.cell? ⟨b,o+k*3,none⟩=some (aj xs[k].1):=hcs 0 zd;have hc1:wr.cell? ⟨b,o+k*3+1,none⟩=some (.string (bs xs[k].2.1)):=hcs 1 zd;have hc2:wr.cell? ⟨b,o+k*3+2,none⟩=some (ah xs[k].2.2):=hcs 2 zd;have bC:=nD xs.length cap k (k:Int) hab hlt rfl;have cu:=az (apg xs k hlt);have mI:Hid (Ok xs[k]):=Hl.out _ (List.getElem_mem hlt);have gU:=az (HS.out k);clear hcs hab;generalize xs[k]=x at*;obtain⟨t1,l1,e1⟩:=x;generalize hS:mY (xs.take k)=S at*;clear hS;obtain⟨g,X,Y,hg,hX,hY,eA,eB,lX,lY,hg1,hg2⟩:=as2 gU.out mI.out S (aJ (t1,l1,e1)) (cJ S) rfl;obtain⟨N,hN⟩:=aI (X+Y);obtain⟨D,hD⟩:=aI (S+aJ (t1,l1,e1));have HD:Hid (aJ (aK N,nt N.natAbs,g)=D):=by
     show _=_
     rw[yH,<-hD,<-hN,<-EB,<-eA,<-eB]
    have Qu:Hid ((nt N.natAbs).length<=34359738368):=by show _<=_;rw[<-hN];exact Nat.le_trans (amr X Y _ lX lY) zd
    rw[hD]at cu;have Ls:Hid (∀W,aR W->Cv 58 #[cw S,.agg #[aj t1,ai l1,ah e1]] W (.agg #[ah g,aj (aK X),ai (nt X.natAbs),aj (aK Y),ai (nt Y.natAbs)])):=λW hW=>
     asC _ _ _ t1 l1 e1 S (aJ (t1,l1,e1)) (cJ S) rfl g X Y hg hX hY W gU.out mI.out hW
    have LX:Hid ((nt X.natAbs).length<=34359738368):=by show _<=_;omega
    have LY:Hid ((nt Y.natAbs).length<=34359738368):=by show _<=_;omega
    have Hg:Hid (-1099511627776<=g/\g<=1099511627776):=⟨hg1,hg2⟩;have HN:=az hN;clear eA eB hg hX hY lX lY hN hD hg1 hg2 gU mI;unfold bK canon at Hs;simp only at Hs;obtain⟨ag,aC⟩:=qZ (Hr.an<|Hs.an trivial);have bi:=qL (Hb.an ag);go_wp2_with fail;refine il wr (Hb.an ag) 48 [aj t1,ai l1,ah e1] λW1 bi ag aC=>?_;have HT:=az (js.out.below ag.2.1.out);go_wp2_with fail;refine aZ ag (Ls.out _ HT.out) λw1 ag aC=>?_;have bi:=qL ag;go_wp2_with fail;refine il w1 ag 94 [ah g,aj (aK X),ai (nt X.natAbs),aj (aK Y),ai (nt Y.natAbs)] λW2 bi ag aC=>?_;refine dG 9 ag (dD 10 0x12100a080f0d07050301) ?_;refine bU ?_;refine Aa 46 [aj (aK X),ai (nt X.natAbs),aj (aK Y),ai (nt Y.natAbs)] ag λW3 bi ag=>?_;refine cz ag (ax9 X Y N HN.out W2.heap.size 2 46 _ LX.out LY.out ag.1.out) λw3 ag=>?_;refine cz ag (zL (aK N) (nt N.natAbs) g D HD.out _ Qu.out Hg.out (qU (js.out.below ag.2.2.2.1.out))) λw4 ag=>?_;have aC:=qC ag;refine qOp λK hK=>?_;go_simp;refine hK _ _ (λh=>absurd h zd) ?_
    refine cL (bG w4 (w.heap.size+1) 0 [aj (aK (dN D)),ai (nt (dN D).natAbs),ah (dE D)]) bM ?_;intro w5 hs0;have ag:=cH hs0 ag;simp only[cB,List.set]at ag;have aC:=qC ag;refine dF ag λaC=>?_;go_wp2;go_roundw;case rel=>
     refine⟨k+1,by omega,by go_num,ag.2.2.2.2.1.out,?_,ag.2.2.2.1.out⟩;rw[cu.out];exact ag.2.2.2.2.2.1.out
    case measure=>exact bH
  . obtain rfl:k=xs.length:=by omega
    rw[List.take_length]at Hs;unfold bK canon at Hs;simp only at Hs;obtain⟨ag,aC⟩:=qZ (Hr.an<|Hs.an trivial);have r0:wr.cell? ⟨w.heap.size,0,none⟩=some (aj false):=ag.1.out.cell 0;have r1:wr.cell? ⟨w.heap.size,1,none⟩=some (.string (bs [])):=ag.1.out.cell 1;have r2:wr.cell? ⟨w.heap.size,2,none⟩=some (ah 0):=ag.1.out.cell 2;go_wp2;exact bodyPost_ret (v:=cw (mY xs)) (by simp[results,Tryz.results18,go_sem,r0,r1,r2,aC]) rfl ⟨rfl,dt⟩
def Sm.one :Sm 1 1:=⟨2,by rfl,by decide⟩
def apf {B:Nat}(xs:List Raw)(h:∀x∈xs,Sm B (aJ x)):Sm (B+xs.length) (mY xs):=by
 induction xs with
 |nil=>exact Sm.zero _
 |cons x xs ih=>have h1:=h x zm;have h2:=ih (λy hy=>h y (by simp[hy]));exact(Sm.add (h1.mono (by omega:B<=B+xs.length)) h2)
def apb {B:Nat}(xs:List Raw)(h:∀x∈xs,Sm B (aJ x)):Sm (B*xs.length+1) (lR xs):=by
 induction xs with
 |nil=>exact Sm.one
 |cons x xs ih=>have h1:=h x zm;have h2:=ih (λy hy=>h y (by simp[hy]));have:=Sm.mul h1 h2;rw[show B* (x::xs).length+1=B+(B*xs.length+1)by rw[List.length_cons,Nat.mul_add];omega];exact this
def Fit (B:Nat)(x:Raw):Prop:=Ok x/\Sm B (aJ x)
def Fit.mono {A B:Nat}{x:Raw}(h:Fit A x)(SV:A<=B):Fit B x:=⟨h.1,h.2.mono SV⟩
def Sm.fit {B:Nat}{d:Dyadic}(h:Sm B d)(hB:B<=268435456):Fit B (canon d):=⟨h.ok hB,by rw[cJ];exact h⟩
def aoF (xs:List Raw)(B:Nat)(S:Dyadic)(hS:mY xs=S)(a:Option Addr)(cap:Nat)(w:World)(hl:∀x∈xs,Fit B x)(hB:B+xs.length<=268435456)(hx:xs.length<=1048576)
 (ha:At w a (xs.flatMap bK)) (hT:aR w):
 Cv 18 #[.slice a xs.length cap] w (cw S):=by
 subst hS;refine aoE xs a cap w (λx h=>(hl x h).1) (λk=>?_) hx ha hT;refine Sm.ok (B:=B+xs.length) (Sm.mono (apf (B:=B) _ (λx h=>(hl x (List.mem_of_mem_take h)).2)) ?_) hB;rw[List.length_take];omega
def aoJ (xs:List Raw)(a:Option Addr)(cap:Nat)(w:World)(hl:∀x∈xs,Ok x)(hS:∀k,Ok (canon (lR (xs.take k))))(hx:xs.length<=1048576)
 (ha:At w a (xs.flatMap bK)) (hT:aR w):
 Cv 20 #[.slice a xs.length cap] w (cw (lR xs)):=by
 have Hl:=az hl;clear hl;have HS:=az hS;clear hS;have Ha:=az ha;clear ha;have js:=az hT;clear hT;obtain⟨I,hI⟩:∃I:Dyadic,1=I:=⟨_,rfl⟩;have HI:Hid (Dyadic.ofIntWithPrec 1 0=I):=by show _=_;rw[<-hI];rfl
 have HI1:=az hI;clear hI;go_enter Tryz.func20,Tryz.ntmps20;have Hb:=hbz w;go_wp2_with fail;refine il w (Hb.an trivial) 48 [aj false,.string (bs []),ah 0] λW bi ag aC=>?_;have HT:=az (js.out.below ag.2.1.out);go_wp2_with fail;refine aZ ag (GA 1 I HI.out _ zo HT.out) λw2 ag aC=>?_;have bi:=qL ag;go_wp2_with fail;refine il w2 ag 48 [aj (aK (dN I)),ai (nt (dN I).natAbs),ah (dE I)] λW2 bi ag aC=>?_
 go_loopw[5,9] (λ_ i wr=>∃(k:Nat),k<=xs.length/\i=ah k/\aH wr w.heap.size 48 [aj false,.string (bs []),ah 0]/\
  aH wr w2.heap.size 48 (bK (canon (lR (xs.take k))))/\Bw w wr) (λ_ i _=>xs.length-(intOf i).toNat)
 case atStart=>
  refine⟨0,Nat.zero_le _,rfl,ag.2.1.out,?_,ag.2.2.1.out⟩;have e:lR (xs.take 0)=I:=by rw[<-HI1.out];rfl
  rw[e];exact ag.1.out
 case round=>
  obtain⟨k,hk,rfl,qr,qs,hb⟩:=hrel;obtain⟨Hr,Hs,Hb⟩:=cE qr qs hb;clear qr qs hb HT;by_cases hlt:k<xs.length
  . obtain ⟨b,o,hab,hcs⟩:=(Ha.out.below Hb.out).elem (f:=bK) (sz:=3) (fun _=>rfl) zd k hlt;have hc0:wr.cell? ⟨b,o+k*3,none⟩=some (aj xs[k].1):=hcs 0 zd;have hc1:wr.cell? ⟨b,o+k*3+1,none⟩=some (.string (bs xs[k].2.1)):=hcs 1 zd;have hc2:wr.cell? ⟨b,o+k*3+2,none⟩=some (ah xs[k].2.2):=hcs 2 zd;have bC:=nD xs.length cap k (k:Int) hab hlt rfl;have cu:=az (apc xs k hlt);have mI:Hid (Ok xs[k]):=Hl.out _ (List.getElem_mem hlt);have gU:=az (HS.out k);clear hcs hab;generalize xs[k]=x at*;obtain⟨t1,l1,e1⟩:=x;generalize hS:lR (xs.take k)=S at*;clear hS;obtain⟨N,hN⟩:=aI (dN S*iv t1 l1);obtain⟨D,hD⟩:=aI (S*aJ (t1,l1,e1));obtain⟨g,hg⟩:=aI (dE S+e1);have HD:Hid (aJ (aK N,nt N.natAbs,g)=D):=by
     show _=_
     rw[yH,<-hD,<-hN];conv=>rhs;rw[uA S]
     unfold aJ;rw[zW];congr 1;simp only;omega
    have o1:=gU.out.exp;have o2:=mI.out.exp;have o3:=gU.out.len;have o4:=mI.out.len;have Qu:Hid ((nt N.natAbs).length<=34359738368):=by
     show _<=_
     have h2:=JQ t1 l1 268435456 o4;rw[Int.natAbs_neg]at h2;rw[<-hN];exact Nat.le_trans (atp (dN S) (iv t1 l1) _ _ o3 h2) zd
    rw[hD]at cu;have LX:Hid ((nt (dN S).natAbs).length<=17179869184):=by show _<=_;omega
    have LY:Hid (l1.length<=17179869184):=by show _<=_;omega
    have Hg:Hid (-1099511627776<=g/\g<=1099511627776):=by show _/\_;omega
    have hwg:IntKind.i64.wrap (dE S+e1)=g:=by rw[IntKind.wrap_i64];omega
    have HN:Hid (iv (aK (dN S)) (nt (dN S).natAbs) *iv t1 l1=N):=by show _=_;rw[gu];exact hN
    clear hg hN hD gU mI o1 o2 o3 o4;unfold bK canon at Hs;simp only at Hs;have hrs:w.heap.size<w2.heap.size:=zo;obtain⟨ag,aC⟩:=qZ (Hr.an<|Hs.an trivial);have bi:=qL (Hb.an ag);go_wp2_with fail;refine il wr (Hb.an ag) 48 [aj t1,ai l1,ah e1] λW1 bi ag aC=>?_;refine dG 12 ag (dD 13 0x18160a081513110f0d07050301) ?_;refine bU ?_;refine Aa 46 [aj (aK (dN S)),ai (nt (dN S).natAbs),aj t1,ai l1] ag λW3 bi ag=>?_;refine cz ag (ah3 (aK (dN S)) (nt (dN S).natAbs) t1 l1 N HN.out W1.heap.size 2 46 _ LX.out LY.out ag.1.out) λw3 ag=>?_;refine cz ag (zL (aK N) (nt N.natAbs) g D HD.out _ Qu.out Hg.out (qU (js.out.below ag.2.2.1.out))) λw4 ag=>?_;have aC:=qC ag;refine qOp λK hK=>?_;go_simp;refine hK _ _ (λh=>absurd h zd) ?_
    refine cL (bG w4 (w2.heap.size) 0 [aj (aK (dN D)),ai (nt (dN D).natAbs),ah (dE D)]) bM ?_;intro w5 hs0;have ag:=cH hs0 ag;simp only[cB,List.set]at ag;have aC:=qC ag;refine dF ag λaC=>?_;go_wp2;go_roundw;case rel=>
     refine⟨k+1,by omega,by go_num,ag.2.2.2.1.out,?_,ag.2.2.1.out⟩;rw[cu.out];exact ag.2.2.2.2.1.out
    case measure=>exact bH
  . obtain rfl:k=xs.length:=by omega
    rw[List.take_length]at Hs;unfold bK canon at Hs;simp only at Hs;obtain⟨ag,aC⟩:=qZ (Hr.an<|Hs.an trivial);have r0:wr.cell? ⟨w.heap.size,0,none⟩=some (aj false):=ag.1.out.cell 0;have r1:wr.cell? ⟨w.heap.size,1,none⟩=some (.string (bs [])):=ag.1.out.cell 1;have r2:wr.cell? ⟨w.heap.size,2,none⟩=some (ah 0):=ag.1.out.cell 2;go_wp2;exact bodyPost_ret (v:=cw (lR xs)) (by simp[results,Tryz.results20,go_sem,r0,r1,r2,aC]) rfl ⟨rfl,dt⟩
def aoK (xs:List Raw)(B:Nat)(S:Dyadic)(hS:lR xs=S)(a:Option Addr)(cap:Nat)(w:World)(hl:∀x∈xs,Fit B x)(hB:B*xs.length+1<=268435456)(hx:xs.length<=1048576)
 (ha:At w a (xs.flatMap bK)) (hT:aR w):
 Cv 20 #[.slice a xs.length cap] w (cw S):=by
 subst hS;refine aoJ xs a cap w (λx h=>(hl x h).1) (λk=>?_) hx ha hT;refine Sm.ok (B:=B*xs.length+1) (Sm.mono (apb (B:=B) _ (λx h=>(hl x (List.mem_of_mem_take h)).2)) ?_) hB;rw[List.length_take];have:B*min k xs.length<=B*xs.length:=Nat.mul_le_mul_left _ zo;omega
def Ml (s:Bool)(l:List UInt8)(e:Int)(t:Bool)(m:List UInt8)(f:Int)(S:Dyadic)(B:Nat)(hS:aJ (s,l,e)+aJ (t,m,f)=S)(b cap:Nat)(ty:TypeId)(w:World)(hx:Fit B (s,l,e))(hy:Fit B (t,m,f))(hB:B+2<=268435456)
 (ha:aH w b ty [aj s,ai l,ah e,aj t,ai m,ah f]) (hT:aR w):
 Cv 18 #[.slice (some ⟨b,0,none⟩) 2 cap] w (cw S):=
 aoF [(s,l,e),(t,m,f)] B S (by rw[<-hS];simp only[mY];grind) _ cap w (by intro x h;simp at h;rcases h with rfl|rfl;exact hx;exact hy) hB zm (At.aCi ha) hT
def Dq (s:Bool)(l:List UInt8)(e:Int)(t:Bool)(m:List UInt8)(f:Int)(S:Dyadic)(B:Nat)(hS:aJ (s,l,e) *aJ (t,m,f)=S)(b cap:Nat)(ty:TypeId)(w:World)(hx:Fit B (s,l,e))(hy:Fit B (t,m,f))(hB:2*B+1<=268435456)
 (ha:aH w b ty [aj s,ai l,ah e,aj t,ai m,ah f]) (hT:aR w):
 Cv 20 #[.slice (some ⟨b,0,none⟩) 2 cap] w (cw S):=
 aoK [(s,l,e),(t,m,f)] B S (by rw[<-hS];simp only[lR];grind) _ cap w (by intro x h;simp at h;rcases h with rfl|rfl;exact hx;exact hy) zi zm (At.aCi ha) hT
def aa7 (s:Bool)(l:List UInt8)(e:Int)(t:Bool)(m:List UInt8)(f:Int)(S:Dyadic)(B:Nat)(hS:aJ (s,l,e)-aJ (t,m,f)=S)(w:World)(hx:Fit B (s,l,e))(hy:Fit B (t,m,f))(hB:B+2<=268435456)(hT:aR w):
 Cv 29 #[.agg #[aj s,ai l,ah e],.agg #[aj t,ai m,ah f]] w (cw S):=by
 obtain⟨D,hD⟩:=aI (-aJ (t,m,f));have Hn:Hid (Fit B (jP D)):=by rw[<-hD];exact(hy.2.neg).fit zo
 have HS:Hid (aJ (s,l,e)+aJ (jP D)=S):=by show _+aJ (canon D)=_;rw[cJ,<-hD,<-hS];grind
 obtain⟨Hyo,HD,uV,kP⟩:=dP hy.1 hD hx hy;clear hD hx hy hS;go_enter Tryz.func29,Tryz.ntmps29;have Hb:=hbz w;go_wp2_with fail;refine EE w (Hb.an trivial) 48 [aj s,ai l,ah e] 48 [aj t,ai m,ah f] 48 [aj false,.string (bs []),ah 0] λW bi ag aC=>?_;refine dG 5 ag (dD 6 0xa0806040301) ?_;refine bU ?_;refine cz ag (Sq t m f D HD.out _ Hyo.out (qU (hT.below ag.2.2.2.1.out))) λw1 ag=>?_;refine Aa 48 [aj s,ai l,ah e,aj (aK (dN D)),ai (nt (dN D).natAbs),ah (dE D)] ag λW1 bi ag=>?_;refine cz ag (Ml s l e (aK (dN D)) (nt (dN D).natAbs) (dE D) S B HS.out w1.heap.size 2 48 _ uV.out Hn.out hB ag.1.out (qU (hT.below ag.2.2.2.2.1.out))) λw2 ag=>?_;have aC:=qC ag;refine qOp λK hK=>?_;go_simp;refine hK _ _ (λh=>absurd h zd) ?_
 refine cL (bG w2 (w.heap.size+1+1) 0 (bY S)) bM ?_;intro w3 hs0;have ag:=cH hs0 ag;simp only[cB,List.set]at ag;have aC:=qC ag;refine dF ag λaC=>?_;have Hb:=ag.2.2.2.2.1;have r0:w3.cell? ⟨w.heap.size+1+1,0,none⟩=some (aj (aK (dN S))):=ag.2.2.2.1.out.cell 0;have r1:w3.cell? ⟨w.heap.size+1+1,1,none⟩=some (ai (nt (dN S).natAbs)):=ag.2.2.2.1.out.cell 1;have r2:w3.cell? ⟨w.heap.size+1+1,2,none⟩=some (ah (dE S)):=ag.2.2.2.1.out.cell 2;go_wp2;exact bodyPost_ret (v:=cw S) (by simp[results,Tryz.results29,go_sem,r0,r1,r2,aC]) rfl ⟨rfl,dt⟩
def aoD (s:Bool)(l:List UInt8)(e:Int)(D:Dyadic)(hD:(if dR (aJ (s,l,e))<0 then-aJ (s,l,e)else aJ (s,l,e))=D)(w:World)(hx:Ok (s,l,e))(hT:aR w):
 Cv 26 #[.agg #[aj s,ai l,ah e]] w (cw D):=by
 obtain⟨u,hu⟩:=aI (dR (aJ (s,l,e)));have uV:=az hx;clear hx;have Hu:=az hu;rw[hu]at hD;clear hu;by_cases h:u<0
 . rw[if_pos h]at hD;have HD:=az hD;clear hD;go_enter Tryz.func26,Tryz.ntmps26;have Hb:=hbz w;go_wp2_with fail;refine mC w (Hb.an trivial) 48 [aj s,ai l,ah e] 48 [aj false,.string (bs []),ah 0] λW bi ag aC=>?_;go_wp2_with fail;refine aZ ag (vg s l e u Hu.out _ uV.out) λw1 ag aC=>?_;have HT:=az (hT.below ag.2.2.1.out);go_wp2_with fail;refine aZ ag (Sq s l e D HD.out _ uV.out HT.out) λw2 ag aC=>?_;have Hb:=ag.2.2.1;have r0:w2.cell? ⟨w.heap.size+1,0,none⟩=some (aj false):=ag.2.1.out.cell 0;have r1:w2.cell? ⟨w.heap.size+1,1,none⟩=some (.string (bs [])):=ag.2.1.out.cell 1;have r2:w2.cell? ⟨w.heap.size+1,2,none⟩=some (ah 0):=ag.2.1.out.cell 2;go_wp2;exact bodyPost_ret (v:=cw D) (by simp[results,Tryz.results26,go_sem,r0,r1,r2,aC]) rfl ⟨rfl,dt⟩
 . rw[if_neg h]at hD;have HD:=az hD;clear hD;have h2:0<=u:=by omega
   go_enter Tryz.func26,Tryz.ntmps26;have Hb:=hbz w;go_wp2_with fail;refine mC w (Hb.an trivial) 48 [aj s,ai l,ah e] 48 [aj false,.string (bs []),ah 0] λW bi ag aC=>?_;go_wp2_with fail;refine aZ ag (vg s l e u Hu.out _ uV.out) λw1 ag aC=>?_;have HT:=az (hT.below ag.2.2.1.out);go_wp2_with fail;refine aZ ag (sw s l e D HD.out _ uV.out HT.out) λw2 ag aC=>?_;have Hb:=ag.2.2.1;have r0:w2.cell? ⟨w.heap.size+1,0,none⟩=some (aj false):=ag.2.1.out.cell 0;have r1:w2.cell? ⟨w.heap.size+1,1,none⟩=some (.string (bs [])):=ag.2.1.out.cell 1;have r2:w2.cell? ⟨w.heap.size+1,2,none⟩=some (ah 0):=ag.2.1.out.cell 2;go_wp2;exact bodyPost_ret (v:=cw D) (by simp[results,Tryz.results26,go_sem,r0,r1,r2,aC]) rfl ⟨rfl,dt⟩
end Go.Proofs.YtnjfebkelecgaaaGreatDoor
namespace Go.Proofs.YtnjfebkelecgaaaGreatDoor
open Go.RowKit
def atD (l m:List UInt8)(w:World)(hl:l.length<=68719476736)(hm:m.length<=68719476736)(hlt:nv l<nv m):
 Cv 180 #[ai l,ai m] w (.tuple #[.string (bs []),ai (nt (nv l)),aj true]):=by
 have h1:=λW=>ov l W zo;have h2:=λW=>ov m W zo;have IW:=Oi (show 0<nv m by omega);have NJ:=jL (LM l);have NK:=jL (LM m);have sG:=fg (nv l);have wU:=fg (nv m);obtain⟨X,hX⟩:=aI (nv l);obtain⟨Y,hY⟩:=aI (nv m);rw[hX]at h1 hlt NJ sG⊢;rw[hY]at h2 hlt NK wU IW;obtain⟨lx,BJ⟩:=aI (ln X);obtain⟨ly,BK⟩:=aI (ln Y);obtain⟨cx,mh⟩:=aI ((l.length+7)/8);obtain⟨cy,yT⟩:=aI ((m.length+7)/8);rw[BJ]at h1 NJ sG;rw[BK]at h2 NK wU IW;rw[mh]at h1 NJ;rw[yT]at h2 NK;have aqZ:cx<=8589934593:=by omega
 have Nj:cy<=8589934593:=by omega
 have nY:dH X Y= -1:=by unfold dH;rw[if_pos hlt]
 obtain⟨H1,H2,KM,PH⟩:=dP h1 h2 sG wU;clear h1 h2 sG wU hX hY BJ BK mh yT hlt;have arp:((ly:Int)==0)=false:=by simp;omega
 go_enter Tryz.func180,Tryz.ntmps180;go_wp2_with fail;refine(H1.out w).mono ?_;rintro e w1 ⟨rfl,bX,hb1,fX⟩;obtain⟨eW,cm⟩:=aU bX hb1;clear bX hb1;go_wp2_with fail;refine(H2.out w1).mono ?_;rintro e w2 ⟨rfl,eF,hb2,Ec⟩;obtain⟨fK,cQ⟩:=aU eF (aO cm.out hb2);replace eW:=az (eW.out.below hb2);clear eF hb2;go_wp2_with fail;refine(Ch w.heap.size 0 lx cx X w1.heap.size 0 ly cy Y w2 zo fX (eW.out.lim _ fX) KM.out zo Ec (fK.out.lim _ Ec) PH.out).mono ?_;rintro e w3 ⟨rfl,hb3⟩;replace eW:=az (eW.out.below hb3);have eo:=az (aO cQ.out hb3);clear hb3;rw[nY];go_wp2_with fail;refine(Ad w.heap.size 0 lx cx X w3 zo fX (eW.out.lim _ fX) KM.out).mono ?_;rintro e w4 ⟨rfl,hb4⟩;have lG:=az (aO eo.out hb4);clear hb4;go_wp2;refine bodyPost_ret (v:=.tuple #[.string (bs []),ai (nt X),aj true]) (by simp[results,Tryz.results180,go_sem];rfl) rfl ⟨rfl,lG.out⟩
def atB (l m:List UInt8)(w:World)(hl:l.length<=68719476736)(hm:m.length<=68719476736)(hm0:0<nv m):
 Cv 180 #[ai l,ai m] w (.tuple #[ai (nt (nv l/nv m)),ai (nt (nv l%nv m)),aj true]):=by
 rcases Nat.lt_or_ge (nv l) (nv m)with h|h
 . have:=atD l m w hl hm h;rw[Nat.div_eq_of_lt h,Nat.mod_eq_of_lt h,Cn];exact this
 . exact atC l m w hl hm hm0 h
def apl (s t:Bool)(l m:List UInt8)(hm:0<nv m)(hd:nv l%nv m=0):iv s l/iv t m=if s=t then iv false (nt (nv l/nv m))else-iv false (nt (nv l/nv m)):=by
 obtain⟨q,hq⟩:=Nat.dvd_of_mod_eq_zero hd;have e:nv l/nv m=q:=by rw[hq];exact Nat.mul_div_cancel_left _ hm
 have mn:(nv m:Int)≠0:=by omega
 rw[e,pu];unfold iv;rw[hq];simp only[Bool.false_eq_true,if_false,Int.natCast_mul];cases s<;>cases t<;>simp only[Bool.false_eq_true,if_false,if_true,reduceCtorEq]
 . exact Int.mul_ediv_cancel_left _ mn
 . rw[Int.ediv_neg,Int.mul_ediv_cancel_left _ mn]
 . rw[Int.neg_ediv_of_dvd ⟨_,rfl⟩,Int.mul_ediv_cancel_left _ mn]
 . rw[Int.ediv_neg,Int.neg_ediv_of_dvd ⟨_,rfl⟩,Int.mul_ediv_cancel_left _ mn,Int.neg_neg]
def ayc (s t:Bool)(l m:List UInt8)(w:World)(hl:l.length<=34359738368)(hm:m.length<=34359738368)(hm0:0<nv m)(hd:nv l%nv m=0):
 Cl 152 #[.agg #[aj s,ai l],.agg #[aj t,ai m]] w λe w'=>∃r,e=.returned (.tuple #[dx (iv s l/iv t m),r,aj true])/\Bw w w':=by
 have h1:=λW=>atB l m W zo zo hm0;have hq:=apl s t l m hm0 hd;have hlen:(nt (nv l/nv m)).length<=34359738368:=by obtain⟨B,hB⟩:=aI (34359738368);rw[hB]at hl⊢;exact jo (Nat.lt_of_le_of_lt (Nat.div_le_self _ _) (Nat.lt_of_lt_of_le (gw l) (Nat.pow_le_pow_right zd hl)))
 rw[hd,Cn]at h1;obtain⟨Q,hQ⟩:=aI (nt (nv l/nv m));rw[hQ]at h1 hq hlen;obtain⟨N,hN⟩:=aI (iv s l/iv t m);rw[hN]at hq⊢;obtain⟨H1,HQ⟩:=aU h1 hq;have hem:(bs []).toList.isEmpty=true:=by rw[wL];rfl
 clear h1 hq hQ hN hd hm0;cases s with
 | false=>
   cases t with
   | false=>
     have hN:=HQ.out;rw[if_pos rfl]at hN;have HN:=az hN;clear hN;obtain⟨W,cP,ag,aC⟩:=Kg w 46 [aj false,ai l] 46 [aj false,ai m] 46 [aj false,.string ⟨#[]⟩] 46 [aj false,.string ⟨#[]⟩];go_enter Tryz.func152,Tryz.ntmps152;go_wp2_with fail;refine aZ ag (H1.out _) λw1 ag aC=>?_;go_wp2_with fail;first|refine eO (λkQ=>∃gJ,bG w1 (w.heap.size+1+1) 0 [aj false,ai Q] gJ/\bG gJ (w.heap.size+1+1+1) 0 [aj false,.string (bs [])] kQ) ⟨_,bM,bM⟩ ?_|refine fB (λkQ=>∃gJ,bG w1 (w.heap.size+1+1) 0 [aj false,ai Q] gJ/\bG gJ (w.heap.size+1+1+1) 0 [aj false,.string (bs [])] kQ) ⟨_,bM,bM⟩ ?_
     rintro w2 ⟨_,hs0,hs1⟩;have ag:=cH hs1 (cH hs0 ag);simp only[cB,List.set]at ag;have aC:=qC ag;have hF:=λW=>CC false Q W (Nat.le_trans hlen zd);rw[<-HN.out]at hF;have HF:=az hF;clear hF;obtain⟨Hb,Ha,Hc,Hq,Hr,_⟩:=ag;obtain⟨a0,a1⟩:=Ha.out.c2;obtain⟨c0,c1⟩:=Hc.out.c2;obtain⟨q0,ib,q1,iL⟩:=Hq.out.g2;obtain⟨r0,bo,r1,bz⟩:=Hr.out.g2;refine ez (λw'=>aV w' (w.heap.size+1+1+1) 0 (aj false)/\aV w' (w.heap.size+1+1+1) 1 (.string (bs []))) (λi=>Nat.blt i 4) [(2,true),(0,false),(1,false),(3,false),(4,false),(5,false)] zk zk rfl zk zc ⟨r0,r1⟩ ?_;refine pT rfl rfl ?_ (by intro w' ⟨q0,q1⟩;go_simp;try with_reducible rfl)
     refine aY rfl rfl (λK hK=>?_);go_simp;refine hK _ _ (λ_=>⟨r0,r1⟩) ?_
     refine aY rfl rfl (λK hK=>?_);go_simp;with_reducible refine(HF.out _).mono ?_
     rintro e w5 ⟨rfl,hq⟩;have au:Bw w2 w5:=by first|exact hq|exact df hq
     obtain⟨Ha,a0,a1⟩:=fP Ha au;obtain⟨Hc,c0,c1⟩:=fP Hc au;obtain⟨Hq,q0,ib,q1,iL⟩:=dZ Hq au;obtain⟨Hr,r0,bo,r1,bz⟩:=dZ Hr au;replace Hb:=bD Hb au;refine hK _ _ (λ_=>⟨r0,r1⟩) ?_
     refine aY rfl rfl (λK hK=>?_);go_simp;refine hK _ _ (λ_=>⟨(aQ zf (aQ zf r0)),(aQ zf (aQ zf r1))⟩) ?_
     refine cL (bG w5 (w.heap.size+1+1) 0 [aj (aK N),ai (nt N.natAbs)]) bM ?_;intro w6 hs;replace Ha:=kS Ha hs zo;replace Hc:=kS Hc hs zo;replace Hq:=vH Hq hs;replace Hr:=kS Hr hs zo;obtain⟨a0,a1⟩:=Ha.out.c2;obtain⟨c0,c1⟩:=Hc.out.c2;obtain⟨q0,ib,q1,iL⟩:=Hq.out.g2;obtain⟨r0,bo,r1,bz⟩:=Hr.out.g2;replace Hb:=bS Hb hs ZS;clear hs;refine aY rfl rfl (λK hK=>?_);go_simp;refine hK _ _ (λh=>absurd h zd) ?_
     refine cL (bG w6 (w.heap.size+1+1+1) 0 [aj false,.string (bs [])]) bM ?_;intro w7 hs;replace Ha:=kS Ha hs zo;replace Hc:=kS Hc hs zo;replace Hq:=kS Hq hs zo;replace Hr:=vH Hr hs;obtain⟨a0,a1⟩:=Ha.out.c2;obtain⟨c0,c1⟩:=Hc.out.c2;obtain⟨q0,ib,q1,iL⟩:=Hq.out.g2;obtain⟨r0,bo,r1,bz⟩:=Hr.out.g2;replace Hb:=bS Hb hs ZS;clear hs;refine aY rfl rfl (λK hK=>?_);go_simp;refine hK _ _ (λh=>absurd h zd) ?_
     simp only[bP];go_wp2;refine bodyPost_ret (v:=.tuple #[dx N,.agg #[aj false,.string (bs [])],aj true]) (by simp[results,Tryz.results152,go_sem,q0,q1,r0,r1]) rfl ⟨_,rfl,Hb.out⟩
   | true=>
     have hN:=HQ.out;rw[if_neg zd]at hN;have HN:=az hN;clear hN;obtain⟨W,cP,ag,aC⟩:=Kg w 46 [aj false,ai l] 46 [aj true,ai m] 46 [aj false,.string ⟨#[]⟩] 46 [aj false,.string ⟨#[]⟩];go_enter Tryz.func152,Tryz.ntmps152;go_wp2_with fail;refine aZ ag (H1.out _) λw1 ag aC=>?_;go_wp2_with fail;first|refine eO (λkQ=>∃gJ,bG w1 (w.heap.size+1+1) 0 [aj false,ai Q] gJ/\bG gJ (w.heap.size+1+1+1) 0 [aj false,.string (bs [])] kQ) ⟨_,bM,bM⟩ ?_|refine fB (λkQ=>∃gJ,bG w1 (w.heap.size+1+1) 0 [aj false,ai Q] gJ/\bG gJ (w.heap.size+1+1+1) 0 [aj false,.string (bs [])] kQ) ⟨_,bM,bM⟩ ?_
     rintro w2 ⟨_,hs0,hs1⟩;have ag:=cH hs1 (cH hs0 ag);simp only[cB,List.set]at ag;have aC:=qC ag;have hG:=λW=>Pk false Q N HN.out.symm W (Nat.le_trans hlen zd);have hF:=λW=>CC (aK N) (nt N.natAbs) W (by rw[HN.out];exact Nat.le_trans (JQ false Q 34359738368 hlen) zd);have e:iv (aK N) (nt N.natAbs)=N:=gu N;rw[e]at hF;obtain⟨HG,HF⟩:=aU hG hF;clear hG hF e;go_wp2_with fail;refine aZ ag (HG.out _) λw3 ag aC=>?_;go_wp2_with fail;first|refine eO (bG w3 (w.heap.size+1+1) 0 [aj (aK N),ai (nt N.natAbs)]) bM ?_|refine fB (bG w3 (w.heap.size+1+1) 0 [aj (aK N),ai (nt N.natAbs)]) bM ?_
     intro w4 hs0;have ag:=cH hs0 ag;simp only[cB,List.set]at ag;have aC:=qC ag;obtain⟨Hb,Ha,Hc,Hq,Hr,_⟩:=ag;obtain⟨a0,a1⟩:=Ha.out.c2;obtain⟨c0,c1⟩:=Hc.out.c2;obtain⟨q0,ib,q1,iL⟩:=Hq.out.g2;obtain⟨r0,bo,r1,bz⟩:=Hr.out.g2;refine ez (λw'=>aV w' (w.heap.size+1+1+1) 0 (aj false)/\aV w' (w.heap.size+1+1+1) 1 (.string (bs []))) (λi=>Nat.blt i 4) [(2,true),(0,false),(1,false),(3,false),(4,false),(5,false)] zk zk rfl zk zc ⟨r0,r1⟩ ?_;refine pT rfl rfl ?_ (by intro w' ⟨q0,q1⟩;go_simp;try with_reducible rfl)
     refine aY rfl rfl (λK hK=>?_);go_simp;refine hK _ _ (λ_=>⟨r0,r1⟩) ?_
     refine aY rfl rfl (λK hK=>?_);go_simp;with_reducible refine(HF.out _).mono ?_
     rintro e w5 ⟨rfl,hq⟩;have au:Bw w4 w5:=by first|exact hq|exact df hq
     obtain⟨Ha,a0,a1⟩:=fP Ha au;obtain⟨Hc,c0,c1⟩:=fP Hc au;obtain⟨Hq,q0,ib,q1,iL⟩:=dZ Hq au;obtain⟨Hr,r0,bo,r1,bz⟩:=dZ Hr au;replace Hb:=bD Hb au;refine hK _ _ (λ_=>⟨r0,r1⟩) ?_
     refine aY rfl rfl (λK hK=>?_);go_simp;refine hK _ _ (λ_=>⟨(aQ zf (aQ zf r0)),(aQ zf (aQ zf r1))⟩) ?_
     refine cL (bG w5 (w.heap.size+1+1) 0 [aj (aK N),ai (nt N.natAbs)]) bM ?_;intro w6 hs;replace Ha:=kS Ha hs zo;replace Hc:=kS Hc hs zo;replace Hq:=vH Hq hs;replace Hr:=kS Hr hs zo;obtain⟨a0,a1⟩:=Ha.out.c2;obtain⟨c0,c1⟩:=Hc.out.c2;obtain⟨q0,ib,q1,iL⟩:=Hq.out.g2;obtain⟨r0,bo,r1,bz⟩:=Hr.out.g2;replace Hb:=bS Hb hs ZS;clear hs;refine aY rfl rfl (λK hK=>?_);go_simp;refine hK _ _ (λh=>absurd h zd) ?_
     refine cL (bG w6 (w.heap.size+1+1+1) 0 [aj false,.string (bs [])]) bM ?_;intro w7 hs;replace Ha:=kS Ha hs zo;replace Hc:=kS Hc hs zo;replace Hq:=kS Hq hs zo;replace Hr:=vH Hr hs;obtain⟨a0,a1⟩:=Ha.out.c2;obtain⟨c0,c1⟩:=Hc.out.c2;obtain⟨q0,ib,q1,iL⟩:=Hq.out.g2;obtain⟨r0,bo,r1,bz⟩:=Hr.out.g2;replace Hb:=bS Hb hs ZS;clear hs;refine aY rfl rfl (λK hK=>?_);go_simp;refine hK _ _ (λh=>absurd h zd) ?_
     simp only[bP];go_wp2;refine bodyPost_ret (v:=.tuple #[dx N,.agg #[aj false,.string (bs [])],aj true]) (by simp[results,Tryz.results152,go_sem,q0,q1,r0,r1]) rfl ⟨_,rfl,Hb.out⟩
 | true=>
   cases t with
   | false=>
     have hN:=HQ.out;rw[if_neg zd]at hN;have HN:=az hN;clear hN;obtain⟨W,cP,ag,aC⟩:=Kg w 46 [aj true,ai l] 46 [aj false,ai m] 46 [aj false,.string ⟨#[]⟩] 46 [aj false,.string ⟨#[]⟩];go_enter Tryz.func152,Tryz.ntmps152;go_wp2_with fail;refine aZ ag (H1.out _) λw1 ag aC=>?_;go_wp2_with fail;first|refine eO (λkQ=>∃gJ,bG w1 (w.heap.size+1+1) 0 [aj false,ai Q] gJ/\bG gJ (w.heap.size+1+1+1) 0 [aj false,.string (bs [])] kQ) ⟨_,bM,bM⟩ ?_|refine fB (λkQ=>∃gJ,bG w1 (w.heap.size+1+1) 0 [aj false,ai Q] gJ/\bG gJ (w.heap.size+1+1+1) 0 [aj false,.string (bs [])] kQ) ⟨_,bM,bM⟩ ?_
     rintro w2 ⟨_,hs0,hs1⟩;have ag:=cH hs1 (cH hs0 ag);simp only[cB,List.set]at ag;have aC:=qC ag;have hG:=λW=>Pk false Q N HN.out.symm W (Nat.le_trans hlen zd);have hF:=λW=>CC (aK N) (nt N.natAbs) W (by rw[HN.out];exact Nat.le_trans (JQ false Q 34359738368 hlen) zd);have e:iv (aK N) (nt N.natAbs)=N:=gu N;rw[e]at hF;obtain⟨HG,HF⟩:=aU hG hF;clear hG hF e;go_wp2_with fail;refine aZ ag (HG.out _) λw3 ag aC=>?_;go_wp2_with fail;first|refine eO (bG w3 (w.heap.size+1+1) 0 [aj (aK N),ai (nt N.natAbs)]) bM ?_|refine fB (bG w3 (w.heap.size+1+1) 0 [aj (aK N),ai (nt N.natAbs)]) bM ?_
     intro w4 hs0;have ag:=cH hs0 ag;simp only[cB,List.set]at ag;have aC:=qC ag;obtain⟨Hb,Ha,Hc,Hq,Hr,_⟩:=ag;obtain⟨a0,a1⟩:=Ha.out.c2;obtain⟨c0,c1⟩:=Hc.out.c2;obtain⟨q0,ib,q1,iL⟩:=Hq.out.g2;obtain⟨r0,bo,r1,bz⟩:=Hr.out.g2;refine ez (λw'=>aV w' (w.heap.size+1+1+1) 0 (aj false)/\aV w' (w.heap.size+1+1+1) 1 (.string (bs []))) (λi=>Nat.blt i 4) [(2,true),(0,false),(1,false),(3,false),(4,false),(5,false)] zk zk rfl zk zc ⟨r0,r1⟩ ?_;refine pT rfl rfl ?_ (by intro w' ⟨q0,q1⟩;go_simp;try with_reducible rfl)
     refine aY rfl rfl (λK hK=>?_);go_simp;refine hK _ _ (λ_=>⟨r0,r1⟩) ?_
     refine aY rfl rfl (λK hK=>?_);go_simp;with_reducible refine(HF.out _).mono ?_
     rintro e w5 ⟨rfl,hq⟩;have au:Bw w4 w5:=by first|exact hq|exact df hq
     obtain⟨Ha,a0,a1⟩:=fP Ha au;obtain⟨Hc,c0,c1⟩:=fP Hc au;obtain⟨Hq,q0,ib,q1,iL⟩:=dZ Hq au;obtain⟨Hr,r0,bo,r1,bz⟩:=dZ Hr au;replace Hb:=bD Hb au;refine hK _ _ (λ_=>⟨r0,r1⟩) ?_
     refine aY rfl rfl (λK hK=>?_);go_simp;refine hK _ _ (λ_=>⟨(aQ zf (aQ zf r0)),(aQ zf (aQ zf r1))⟩) ?_
     refine cL (bG w5 (w.heap.size+1+1) 0 [aj (aK N),ai (nt N.natAbs)]) bM ?_;intro w6 hs;replace Ha:=kS Ha hs zo;replace Hc:=kS Hc hs zo;replace Hq:=vH Hq hs;replace Hr:=kS Hr hs zo;obtain⟨a0,a1⟩:=Ha.out.c2;obtain⟨c0,c1⟩:=Hc.out.c2;obtain⟨q0,ib,q1,iL⟩:=Hq.out.g2;obtain⟨r0,bo,r1,bz⟩:=Hr.out.g2;replace Hb:=bS Hb hs ZS;clear hs;refine aY rfl rfl (λK hK=>?_);go_simp;refine hK _ _ (λh=>absurd h zd) ?_
     refine cL (bG w6 (w.heap.size+1+1+1) 0 [aj false,.string (bs [])]) bM ?_;intro w7 hs;replace Ha:=kS Ha hs zo;replace Hc:=kS Hc hs zo;replace Hq:=kS Hq hs zo;replace Hr:=vH Hr hs;obtain⟨a0,a1⟩:=Ha.out.c2;obtain⟨c0,c1⟩:=Hc.out.c2;obtain⟨q0,ib,q1,iL⟩:=Hq.out.g2;obtain⟨r0,bo,r1,bz⟩:=Hr.out.g2;replace Hb:=bS Hb hs ZS;clear hs;refine aY rfl rfl (λK hK=>?_);go_simp;refine hK _ _ (λh=>absurd h zd) ?_
     simp only[bP];go_wp2;refine bodyPost_ret (v:=.tuple #[dx N,.agg #[aj false,.string (bs [])],aj true]) (by simp[results,Tryz.results152,go_sem,q0,q1,r0,r1]) rfl ⟨_,rfl,Hb.out⟩
   | true=>
     have hN:=HQ.out;rw[if_pos rfl]at hN;have HN:=az hN;clear hN;obtain⟨W,cP,ag,aC⟩:=Kg w 46 [aj true,ai l] 46 [aj true,ai m] 46 [aj false,.string ⟨#[]⟩] 46 [aj false,.string ⟨#[]⟩];go_enter Tryz.func152,Tryz.ntmps152;go_wp2_with fail;refine aZ ag (H1.out _) λw1 ag aC=>?_;go_wp2_with fail;first|refine eO (λkQ=>∃gJ,bG w1 (w.heap.size+1+1) 0 [aj false,ai Q] gJ/\bG gJ (w.heap.size+1+1+1) 0 [aj false,.string (bs [])] kQ) ⟨_,bM,bM⟩ ?_|refine fB (λkQ=>∃gJ,bG w1 (w.heap.size+1+1) 0 [aj false,ai Q] gJ/\bG gJ (w.heap.size+1+1+1) 0 [aj false,.string (bs [])] kQ) ⟨_,bM,bM⟩ ?_
     rintro w2 ⟨_,hs0,hs1⟩;have ag:=cH hs1 (cH hs0 ag);simp only[cB,List.set]at ag;have aC:=qC ag;have hF:=λW=>CC false Q W (Nat.le_trans hlen zd);rw[<-HN.out]at hF;have HF:=az hF;clear hF;obtain⟨Hb,Ha,Hc,Hq,Hr,_⟩:=ag;obtain⟨a0,a1⟩:=Ha.out.c2;obtain⟨c0,c1⟩:=Hc.out.c2;obtain⟨q0,ib,q1,iL⟩:=Hq.out.g2;obtain⟨r0,bo,r1,bz⟩:=Hr.out.g2;refine ez (λw'=>aV w' (w.heap.size+1+1+1) 0 (aj false)/\aV w' (w.heap.size+1+1+1) 1 (.string (bs []))) (λi=>Nat.blt i 4) [(2,true),(0,false),(1,false),(3,false),(4,false),(5,false)] zk zk rfl zk zc ⟨r0,r1⟩ ?_;refine pT rfl rfl ?_ (by intro w' ⟨q0,q1⟩;go_simp;try with_reducible rfl)
     refine aY rfl rfl (λK hK=>?_);go_simp;refine hK _ _ (λ_=>⟨r0,r1⟩) ?_
     refine aY rfl rfl (λK hK=>?_);go_simp;with_reducible refine(HF.out _).mono ?_
     rintro e w5 ⟨rfl,hq⟩;have au:Bw w2 w5:=by first|exact hq|exact df hq
     obtain⟨Ha,a0,a1⟩:=fP Ha au;obtain⟨Hc,c0,c1⟩:=fP Hc au;obtain⟨Hq,q0,ib,q1,iL⟩:=dZ Hq au;obtain⟨Hr,r0,bo,r1,bz⟩:=dZ Hr au;replace Hb:=bD Hb au;refine hK _ _ (λ_=>⟨r0,r1⟩) ?_
     refine aY rfl rfl (λK hK=>?_);go_simp;refine hK _ _ (λ_=>⟨(aQ zf (aQ zf r0)),(aQ zf (aQ zf r1))⟩) ?_
     refine cL (bG w5 (w.heap.size+1+1) 0 [aj (aK N),ai (nt N.natAbs)]) bM ?_;intro w6 hs;replace Ha:=kS Ha hs zo;replace Hc:=kS Hc hs zo;replace Hq:=vH Hq hs;replace Hr:=kS Hr hs zo;obtain⟨a0,a1⟩:=Ha.out.c2;obtain⟨c0,c1⟩:=Hc.out.c2;obtain⟨q0,ib,q1,iL⟩:=Hq.out.g2;obtain⟨r0,bo,r1,bz⟩:=Hr.out.g2;replace Hb:=bS Hb hs ZS;clear hs;refine aY rfl rfl (λK hK=>?_);go_simp;refine hK _ _ (λh=>absurd h zd) ?_
     refine cL (bG w6 (w.heap.size+1+1+1) 0 [aj false,.string (bs [])]) bM ?_;intro w7 hs;replace Ha:=kS Ha hs zo;replace Hc:=kS Hc hs zo;replace Hq:=kS Hq hs zo;replace Hr:=vH Hr hs;obtain⟨a0,a1⟩:=Ha.out.c2;obtain⟨c0,c1⟩:=Hc.out.c2;obtain⟨q0,ib,q1,iL⟩:=Hq.out.g2;obtain⟨r0,bo,r1,bz⟩:=Hr.out.g2;replace Hb:=bS Hb hs ZS;clear hs;refine aY rfl rfl (λK hK=>?_);go_simp;refine hK _ _ (λh=>absurd h zd) ?_
     simp only[bP];go_wp2;refine bodyPost_ret (v:=.tuple #[dx N,.agg #[aj false,.string (bs [])],aj true]) (by simp[results,Tryz.results152,go_sem,q0,q1,r0,r1]) rfl ⟨_,rfl,Hb.out⟩
end Go.Proofs.YtnjfebkelecgaaaGreatDoor
namespace Go.Proofs.YtnjfebkelecgaaaGreatDoor
def aum (n k:Int):Dyadic.ofIntWithPrec n k<0↔n<0:=by
 rw[<-Dyadic.toRat_lt_toRat_iff,Dyadic.toRat_ofIntWithPrec_eq_mul_two_pow,Dyadic.toRat_zero];have h2:(0:Rat)<2^(-k):=Rat.zpow_pos zd;constructor
 . intro h;by_cases h3:n<0
   . exact h3
   . exfalso
     have h4:(0:Rat)<=(n:Rat):=by exact_mod_cast Int.not_lt.1 h3
     have h5:=Rat.mul_nonneg h4 (Rat.le_of_lt h2);grind
 . intro h;have h4:(n:Rat)<0:=by exact_mod_cast h
   have:=Rat.mul_lt_mul_of_pos_right h4 h2;grind
def Sy (X:Dyadic):dR X<0↔X<0:=by
 conv=>rhs;rw[uA X]
 rw[aum];unfold dR fU;split
 . rename_i h;simp[h]
 . rename_i h
   split<;>simp<;>omega
def apd (X:Dyadic):dR X=0↔X=0:=by
 constructor
 . intro h;have h1:dN X=0:=by
    unfold dR fU at h;by_cases h1:dN X<0
    . rw[if_pos h1]at h;cases h
    . rw[if_neg h1]at h;by_cases h2:dN X=0
      . exact h2
      . rw[if_neg h2]at h;cases h
   have h2:=uA X;rw[h1,zX]at h2;exact h2
 . rintro rfl;rfl
def rP (X:Dyadic):Dyadic:=Dyadic.ofIntWithPrec (dR X) 0
def ag9 (X:Dyadic):rP X=if X<0 then-1 else if X=0 then 0 else 1:=by
 unfold rP;have h1:=Sy X;have h2:=apd X;have h3:dR X= -1\/dR X=0\/dR X=1:=by
  unfold dR fU;split
  . exact .inl rfl
  . split
    . exact .inr (.inl rfl)
    . exact .inr (.inr rfl)
 rcases h3 with h|h|h
 . rw[if_pos (h1.1 zo),h];rfl
 . rw[if_neg (λh4=>by have:=h1.2 h4;omega),if_pos (h2.1 h),h];rfl
 . rw[if_neg (λh4=>by have:=h1.2 h4;omega),if_neg (λh4=>by have:=h2.2 h4;omega),h];rfl
def Pq (n:Nat)(p:Nat->Nat->Dyadic)(x:Nat->Dyadic)(k:Nat):Dyadic:=rP (jd n p) *jd n (Xw p k x)
def gL (e:Nat->Nat->Dyadic)(r c:Nat):Nat->Nat->Dyadic:=λa b=>e (if a<r then a else a+1) (if b<c then b else b+1)
def Em (n:Nat)(e:Nat->Nat->Dyadic)(y:Nat->Dyadic)(i:Nat):Nat->Dyadic
 |0=>0
 |k+1=>Em n e y i k+y k* (if(k+i)%2=1 then-cX (n-1) (gL e i k)else cX (n-1) (gL e i k))
def asv (n:Nat)(hn:1<=n)(dv:n<=4)(e:Nat->Nat->Dyadic)(y:Nat->Dyadic)(i:Nat)(hi:i<n):Em n e y i n=cX n λa b=>if a=i then y b else e a b:=by
 have hc:(n=1/\i=0)\/(n=2/\i=0)\/(n=2/\i=1)\/(n=3/\i=0)\/(n=3/\i=1)\/(n=3/\i=2)\/(n=4/\i=0)\/(n=4/\i=1)\/(n=4/\i=2)\/(n=4/\i=3):=by omega
 rcases hc with⟨rfl,rfl⟩ |⟨rfl,rfl⟩ |⟨rfl,rfl⟩ |⟨rfl,rfl⟩ |⟨rfl,rfl⟩ |⟨rfl,rfl⟩ |⟨rfl,rfl⟩ |⟨rfl,rfl⟩ |⟨rfl,rfl⟩ |⟨rfl,rfl⟩<;>(simp[Em,cX,gL];try grind)
def aph (n:Nat)(p:Nat->Nat->Dyadic)(x:Nat->Dyadic)(i:Nat):jd n (Xw p (i+1) x)=cX n λa b=>if a=i then x b-p 0 b else p (a+1) b-p 0 b:=by
 unfold jd Xw;congr 1;funext a b
 by_cases h:a=i
 . rw[if_pos h,if_pos zo,if_neg zo]
 . rw[if_neg h,if_neg zo,if_neg zo]
end Go.Proofs.YtnjfebkelecgaaaGreatDoor
namespace Go.Proofs.YtnjfebkelecgaaaGreatDoor
open Go.RowKit
attribute [local go_sem ↓] Go.wp_at_zero Go.wp_at_succ
def eN (l:List UInt8)(v:Int):Bool:=(l.all λc=>decide (c.toNat<=127))&&decide ((l.length:Int)=v)
def Eo (l:List UInt8)(v:Int)(w:World)(hl:l.length<=9223372036854775807):
 Cv 85 #[ai l,ah v] w (aj (eN l v)):=by
 obtain⟨n,hn⟩:=aI l.length;have hsz:(bs l).size=n:=by rw[gY,hn]
 obtain⟨M,hM⟩:=aI (eN l v);rw[hM];obtain⟨HM,Hn⟩:=aU hM hn;rw[hn]at hl;clear hM hn;go_enter Tryz.func85,Tryz.ntmps85;have Hb:=hbz w;go_wp2_with fail;go_loopw[8] (λx wr=>∃k:Nat,k<=n/\x=ah (k:Int)/\((l.take k).all λc=>decide (c.toNat<=127))=true/\Bw w wr) (λx _=>n-(intOf x).toNat);case atStart=>exact⟨0,Nat.zero_le _,rfl,rfl,Hb.out⟩
 case round=>
  clear Hb;obtain⟨k,hk,rfl,hall,pb⟩:=hrel;obtain⟨mJ,Hb⟩:=aU hall pb;clear hall pb;by_cases hlt:k<n
  . have hk2:k<l.length:=by rw[Hn.out];exact hlt
    have ix:=uv l (k:Int) k hk2 rfl;obtain⟨c,hc⟩:∃c:Nat,(l[k]).toNat=c:=⟨_,rfl⟩;rw[hc]at ix;by_cases h1:127<c
    . have h2:(127:Int)<(c:Int):=by omega
      have rG:M=false:=by
       rw[<-HM.out];unfold eN;have:(l.all λc=>decide (c.toNat<=127))=false:=by rw[List.all_eq_false];exact⟨l[k],List.getElem_mem hk2,by simp;omega⟩
       rw[this];rfl
      subst rG;go_wp2;exact bodyPost_ret (v:=aj false) (by simp[results,Tryz.results85,go_sem]) rfl ⟨rfl,dt⟩
    . have h2:¬(127:Int)<(c:Int):=by omega
      have cu:Hid (((l.take (k+1)).all λc=>decide (c.toNat<=127))=true):=by
       show _=_
       rw[List.take_succ_eq_append_getElem hk2,List.all_append,mJ.out];simp;omega
      clear hc;go_wp2;go_roundw;case rel=>exact⟨k+1,by omega,by go_num,cu.out,Hb.out⟩
      case measure=>exact bH
  . obtain rfl:k=n:=by omega
    have hme:M=decide ((k:Int)=v):=by rw[<-HM.out];have h:=mJ.out;rw[List.take_of_length_le (by rw[Hn.out];exact Nat.le_refl _)]at h;unfold eN;rw[h,Hn.out,Bool.true_and]
    have Qz:=az hme;clear hme;go_wp2;refine bodyPost_ret (results_tmp rfl _ _ _) rfl ⟨?_,Hb.out⟩;rw[Qz.out];by_cases h:(k:Int)=v<;>simp[h]
def Mx (v:Int)(w:World):
 Cv 84 #[ah v] w (aj (decide (0<=v/\v<=12))):=by
 have Hb:=hbz w;go_enter Tryz.func84,Tryz.ntmps84;by_cases h1:0<=v
 . by_cases h2:v<=12
   . go_wp2;refine bodyPost_ret (results_tmp rfl _ _ _) rfl ⟨?_,Hb.out⟩;simp[h2];omega
   . go_wp2;refine bodyPost_ret (results_tmp rfl _ _ _) rfl ⟨?_,Hb.out⟩;simp[h2]
 . go_wp2;refine bodyPost_ret (results_tmp rfl _ _ _) rfl ⟨?_,Hb.out⟩;simp;omega
end Go.Proofs.YtnjfebkelecgaaaGreatDoor
namespace Go.Proofs.YtnjfebkelecgaaaGreatDoor
def oz (d:(Nat->Nat->Dyadic)->Dyadic)(e:Nat->Nat->Dyadic):Nat->Dyadic
 |0=>0
 |k+1=>oz d e k+(if k%2=1 then-(e 0 k*d (gL e 0 k))else e 0 k*d (gL e 0 k))
def pE :Nat->(Nat->Nat->Dyadic)->Dyadic
 |0,_=>1
 |n+1,e=>oz (pE n) e (n+1)
def agN (n:Nat)(hn:n<=4)(e:Nat->Nat->Dyadic):pE n e=cX n e:=by
 have h0:∀e,pE 0 e=cX 0 e:=λe=>rfl;have h1:∀e,pE 1 e=cX 1 e:=λe=>by simp[pE,oz,cX];grind
 have h2:∀e,pE 2 e=cX 2 e:=λe=>by
  show oz (pE 1) e 2=_
  rw[show pE 1=cX 1 from funext h1];simp[oz,cX,gL];grind
 have h3:∀e,pE 3 e=cX 3 e:=λe=>by
  show oz (pE 2) e 3=_
  rw[show pE 2=cX 2 from funext h2];simp[oz,cX,gL];grind
 have h4:∀e,pE 4 e=cX 4 e:=λe=>by
  show oz (pE 3) e 4=_
  rw[show pE 3=cX 3 from funext h3];simp[oz,cX,gL];grind
 have hc:n=0\/n=1\/n=2\/n=3\/n=4:=by omega
 rcases hc with rfl|rfl|rfl|rfl|rfl
 . exact h0 e
 . exact h1 e
 . exact h2 e
 . exact h3 e
 . exact h4 e
end Go.Proofs.YtnjfebkelecgaaaGreatDoor
