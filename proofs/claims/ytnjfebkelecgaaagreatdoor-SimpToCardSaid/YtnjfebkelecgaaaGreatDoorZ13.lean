/- Package poly: Check. -/
import Derived.Test.YtnjfebkelecgaaaGreatDoorZ7
import Derived.Test.YtnjfebkelecgaaaGreatDoorZ12
import Derived.Test.YtnjfebkelecgaaaGreatDoorZ11
set_option linter.all false
set_option maxRecDepth 100000
set_option maxHeartbeats 16000000
namespace Go.Proofs.YtnjfebkelecgaaaGreatDoor
open Go.RowKit
attribute [local go_sem ↓] Go.wp_at_zero Go.wp_at_succ
def Wa (X:Dyadic)(s:Bool)(m:List UInt8)(e:Int)(b:Bool)(h:(canon X==(s,m,e))= !b)(w':World):
 (if aK (dN X)=s then if(bs (nt (dN X).natAbs)).toList=(bs m).toList then if dE X=e then Result.ok (Next.value (Value.bool false)) w' else Result.ok (Next.value (Value.bool true)) w' else Result.ok (Next.value (Value.bool true)) w' else Result.ok (Next.value (Value.bool true)) w')=Result.ok (Next.value (Value.bool b)) w':=by
 have ht:∀x y:List UInt8,(bs x).toList=(bs y).toList↔x=y:=λx y=>by rw[fL,fL]
 have hc:(canon X==(s,m,e))=decide (aK (dN X)=s/\nt (dN X).natAbs=m/\dE X=e):=by rw[Bool.eq_iff_iff];simp[canon]
 rw[hc]at h;simp only[ht];cases b with
 | false=>
   have h2:aK (dN X)=s/\nt (dN X).natAbs=m/\dE X=e:=by simpa using h
   rw[if_pos h2.1,if_pos h2.2.1,if_pos h2.2.2]
 | true=>
   have h2:¬(aK (dN X)=s/\nt (dN X).natAbs=m/\dE X=e):=by intro h3;rw[decide_eq_true h3]at h;cases h
   by_cases h3:aK (dN X)=s
   . rw[if_pos h3];by_cases h4:nt (dN X).natAbs=m
     . rw[if_pos h4,if_neg (λh5=>h2 ⟨h3,h4,h5⟩)]
     . rw[if_neg h4]
   . rw[if_neg h3]
def JV (V:Int)(a:Option Addr)(cap N:Nat)(ts:List aM)(w:World)(hN:ts.length=N)(hn:N<=1048576)(ha:At w a (ts.flatMap aW))(hl:∀t∈ts,t.1.length<=9223372036854775807/\Ok t.2)(hT:aR w):
 Cv 41 #[.agg #[ah V,.slice a N cap]] w (ah (fx V ts)):=by
 obtain⟨Ha,Hl,HN,js⟩:=dP ha hl hN hT;obtain⟨R,hR⟩:=aI (fx V ts);unfold fx at hR;rw[hN]at hR;rw[show fx V ts=R by unfold fx;rw[hN];exact hR];have HR:=az hR;clear ha hl hN hR hT;obtain⟨W,cP,ag,aC⟩:=gz w 24 [ah V,.slice a N cap];go_enter Tryz.func41,Tryz.ntmps41;go_wp2_with fail;refine aZ ag (Mx V _) λw1 ag aC=>?_;by_cases h1:0<=V/\V<=12
 . by_cases h2:4096<N
   . have h3:(4096:Int)<(N:Int):=by omega
     have hR:=HR.out;rw[if_neg (λh=>h h1),if_pos h2]at hR;clear HR;subst hR;have Hb:=ag.1;go_wp2;exact bodyPost_ret (v:=ah 3) (by simp[results,Tryz.results41,go_sem,aC]) rfl ⟨rfl,dt⟩
   . have h3:¬(4096:Int)<(N:Int):=by omega
     have h3d:decide ((4096:Int)<(N:Int))=false:=by simp;omega
     have hR:Hid ((if(List.range N).all (je V ts)then(0:Int)else 1)=R):=by
      show _=_
      have hR:=HR.out;rw[if_neg (λh=>h h1),if_neg h2]at hR;exact hR
     clear HR;obtain⟨cm,kK⟩:=aU ag.1.out ag.2.1.out;skip
     have p0:w1.cell? ⟨w.heap.size,0,none⟩=some (ah V):=kK.out.cell 0;have p1:w1.cell? ⟨w.heap.size,1,none⟩=some (.slice a N cap):=kK.out.cell 1;go_wp2_with fail;go_loopw[16] (λx wr=>∃k:Nat,k<=N/\x=ah (k:Int)/\(List.range k).all (je V ts)=true/\aH wr w.heap.size 24 [ah V,.slice a N cap]/\Bw w wr) (λx _=>N-(intOf x).toNat);case atStart=>exact⟨0,Nat.zero_le _,rfl,rfl,kK.out,cm.out⟩
     case round=>
      clear cm kK p0 p1;obtain⟨k,hk,rfl,iz,fO,pb⟩:=hrel;by_cases hlt:k<N
      . have hk2:k<ts.length:=by rw[HN.out];exact hlt
        obtain⟨l,s,m,e,hx⟩:∃l s m e,ts[k]=(l,s,m,e):=⟨_,_,_,_,rfl⟩;obtain⟨b,o,hab,cn⟩:=(Ha.out.below pb).term k hk2 hx;have hl2:l.length<=9223372036854775807/\Ok (s,m,e):=by have:=Hl.out _ (List.getElem_mem hk2);rw[hx]at this;exact this
        have egd:ts.getD k default=(l,s,m,e):=by simp[hk2,hx]
        have hgn:(List.range (k+1)).all (je V ts)=je V ts k:=by rw[List.range_succ,List.all_append,iz];simp
        have hbad:je V ts k=false->R=1:=by intro h;rw[<-hR.out,if_neg];intro h5;rw[List.all_eq_true]at h5;have:=h5 k (List.mem_range.2 hlt);rw[h]at this;cases this
        have iZ:je V ts k=(wO V l (s,m,e)&&(k==0||Op.bytesLess (bs (ts.getD (k-1) default).1).toList (bs l).toList)):=by unfold je;rw[egd]
        have bC:=gQ N cap k (k:Int) hab hlt rfl;obtain⟨X,hX⟩:=aI (aJ (s,m,e));obtain⟨sg,jI⟩:=aI (dR X);have hgt:wO V l (s,m,e)=(eN l V&& !(sg==0)&&(canon X==(s,m,e))):=by unfold wO;rw[hX,jI]
        rw[hgt]at iZ;obtain⟨Hwn,lJ,aX,lH,YY,CK,HX⟩:=kH cn hl2 pb iZ hgn hbad hX;have oO:Hid (dR (aJ (s,m,e))=sg):=by show _=_;rw[hX];exact jI
        have Hp:=az fO;have HU:Hid (aR wr):=js.out.below pb;clear cn hl2 iZ hgn hbad hX jI hgt egd fO hx;have kJ:=az hab;clear hab;have Hb:=hbz wr;have sz:=pb.size;have jy:Hid (bA wr b (o+k*4) [ai l,aj s,ai m,ah e]):=Hwn.out;obtain⟨ag,aC⟩:=qZ (Hp.an<|jy.an trivial);have HU:Hid (aR wr):=HU.out;have xW:wr.cell? ⟨b,o+k*4+3,none⟩=some (ah e):=ag.2.1.out.cell 3 zm;have xV:wr.cell? ⟨b,o+k*4+2,none⟩=some (ai m):=ag.2.1.out.cell 2 zm;have xS:wr.cell? ⟨b,o+k*4,none⟩=some (ai l):=ag.2.1.out.cell 0 zm;have xU:wr.cell? ⟨b,o+k*4+1,none⟩=some (aj s):=ag.2.1.out.cell 1 zm;have P0:=xS;have P1:=xU;have P2:=xV;have P3:=xW;obtain⟨W4,rD,bi,ag,aC⟩:=cM wr (Hb.an<|HU.an ag) 67 [ai l,aj s,ai m,ah e];clear Hwn;cases hmv:eN l V with
        |false=>have hr:=CK.out (by rw[lH.out,hmv];rfl);subst hr;have pj:=λW=>Eo l V W (by have:=lJ.out.1;omega);rw[hmv]at pj;have kg:=az pj;clear pj;go_wp2_with fail;refine dG 999 ag (dD 36 0x474543413f3d3b39373533312f2d2b2927251e23211d1b19171512110f0d0b0807050301) ?_;refine bU ?_;refine cz ag (kg.out _) λw5 ag=>?_;refine bU ?_;refine dF ag λaC=>?_;go_wp2;refine bodyPost_ret (results_tmp rfl _ _ _) rfl ⟨rfl,aO aX.out ag.2.1.out⟩
        | true=>
          have pj:=λW=>Eo l V W (by have:=lJ.out.1;omega);rw[hmv]at pj;have kg:=az pj;clear pj;by_cases hs0:sg=0
          . have hr:=CK.out (by rw[lH.out,hmv,hs0];rfl);subst hr hs0;go_wp2_with fail;refine dG 999 ag (dD 36 0x474543413f3d3b39373533312f2d2b2927251e23211d1b19171512110f0d0b0807050301) ?_;refine bU ?_;refine cz ag (kg.out _) λw5 ag=>?_;refine bU ?_;refine cz ag (vg s m e 0 oO.out _ lJ.out.2) λw6 ag=>?_;refine bU ?_;refine dF ag λaC=>?_;go_wp2;refine bodyPost_ret (results_tmp rfl _ _ _) rfl ⟨rfl,aO aX.out ag.2.1.out⟩
          . have hs1:(sg==0)=false:=by simpa using hs0
            by_cases hc:canon X=(s,m,e)
            . have hcb:(canon X==(s,m,e))=true:=by simpa using hc
              have hne:=Wa X s m e false hcb;clear hc;by_cases kY:k=0
              . have hg:=lH.out;rw[hmv,hs1,hcb,kY]at hg;have Fx:Hid ((List.range (k+1)).all (je V ts)=true):=by show _=_;rw[YY.out,kY,hg];rfl
                have hk1:decide (0<k)=false:=by simp;omega
                clear hg hcb kY;go_wp2_with fail;refine dG 999 ag (dD 36 0x474543413f3d3b39373533312f2d2b2927251e23211d1b19171512110f0d0b0807050301) ?_;refine bU ?_;refine cz ag (kg.out _) λw5 ag=>?_;refine bU ?_;refine cz ag (vg s m e sg oO.out _ lJ.out.2) λw6 ag=>?_;refine bU ?_;refine cz ag (sw s m e X HX.out _ lJ.out.2 (qU ag.2.2.1.out)) λw7 ag=>?_;refine bU ?_;refine dF ag λaC=>?_;go_wp2;go_roundw;case rel=>exact⟨k+1,by omega,by go_num,Fx.out,ag.2.2.2.1.out,aO aX.out ag.2.1.out⟩
                case measure=>exact bH
              . have uk:k-1<ts.length:=by omega
                obtain⟨l',s',m',e',hx'⟩:∃l s m e,ts[k-1]=(l,s,m,e):=⟨_,_,_,_,rfl⟩;obtain⟨b',o',nW,nC⟩:=(Ha.out.below (aO aX.out ag.2.1.out)).term (k-1) uk hx';have hab:=kJ.out;rw[hab]at nW;simp only[Option.some.injEq,Addr.mk.injEq,and_true]at nW;obtain⟨rfl,rfl⟩:=nW;have egp:ts.getD (k-1) default=(l',s',m',e'):=by simp[uk,hx']
                have hg:=lH.out;rw[egp,hmv,hs1,hcb]at hg;have adV:(k==0)=false:=by simpa using kY
                rw[adV]at hg;have hk1:decide (0<k)=true:=by simp;omega
                have Uu:IntKind.i64.wrap ((k:Int)-1)=((k-1:Nat):Int):=by rw[IntKind.wrap_i64];omega
                have Uo:=gQ N cap (k-1) ((k-1:Nat):Int) hab zo rfl;obtain⟨kp,Eb⟩:=aI (k-1);rw[Eb]at Uo Uu nC;have ark:kp<N:=by omega
                have eV:Hid (bA W4 b (o+kp*4) [ai l',aj s',ai m',ah e']):=nC;have ay1:=az Eb;clear nC kY adV hcb egp hx' Eb hab;cases IV:Op.bytesLess (bs l').toList (bs l).toList with
                | true=>
                  have Fx:Hid ((List.range (k+1)).all (je V ts)=true):=by show _=_;rw[YY.out,hg];simpa using IV
                  clear hg;go_wp2_with fail;have Hp:=ag.2.2.2.1;have Ht:=ag.1;have Hb:=ag.2.1;have HU:=ag.2.2.1;obtain⟨ag,aC⟩:=qZ (Hp.an<|Ht.an<|eV.an trivial);have HU:Hid (aR W4):=HU.out;have ag:=Hb.an<|HU.an ag
                  refine dG 999 ag (dD 36 0x474543413f3d3b39373533312f2d2b2927251e23211d1b19171512110f0d0b0807050301) ?_;refine bU ?_;refine cz ag (kg.out _) λw5 ag=>?_;refine bU ?_;refine cz ag (vg s m e sg oO.out _ lJ.out.2) λw6 ag=>?_;refine bU ?_;refine cz ag (sw s m e X HX.out _ lJ.out.2 (qU ag.2.1.out)) λw7 ag=>?_;refine bU ?_;refine dF ag λaC=>?_;go_wp2;go_roundw;case rel=>exact⟨k+1,by omega,by go_num,Fx.out,ag.2.2.1.out,aO aX.out ag.1.out⟩
                  case measure=>exact bH
                | false=>
                  have hr:=CK.out (by rw[hg];simpa using IV);subst hr;clear hg;go_wp2_with fail;have Hp:=ag.2.2.2.1;have Ht:=ag.1;have Hb:=ag.2.1;have HU:=ag.2.2.1;obtain⟨ag,aC⟩:=qZ (Hp.an<|Ht.an<|eV.an trivial);have HU:Hid (aR W4):=HU.out;have ag:=Hb.an<|HU.an ag
                  refine dG 999 ag (dD 36 0x474543413f3d3b39373533312f2d2b2927251e23211d1b19171512110f0d0b0807050301) ?_;refine bU ?_;refine cz ag (kg.out _) λw5 ag=>?_;refine bU ?_;refine cz ag (vg s m e sg oO.out _ lJ.out.2) λw6 ag=>?_;refine bU ?_;refine cz ag (sw s m e X HX.out _ lJ.out.2 (qU ag.2.1.out)) λw7 ag=>?_;refine bU ?_;refine dF ag λaC=>?_;go_wp2;refine bodyPost_ret (results_tmp rfl _ _ _) rfl ⟨rfl,aO aX.out ag.1.out⟩
            . have hr:=CK.out (by
               rw[lH.out,hmv,hs1];have:(canon X==(s,m,e))=false:=by simpa using hc
               rw[this];rfl)
              subst hr;have hne:=Wa X s m e true (by simpa using hc);clear hc;go_wp2_with fail;refine dG 999 ag (dD 36 0x474543413f3d3b39373533312f2d2b2927251e23211d1b19171512110f0d0b0807050301) ?_;refine bU ?_;refine cz ag (kg.out _) λw5 ag=>?_;refine bU ?_;refine cz ag (vg s m e sg oO.out _ lJ.out.2) λw6 ag=>?_;refine bU ?_;refine cz ag (sw s m e X HX.out _ lJ.out.2 (qU ag.2.2.1.out)) λw7 ag=>?_;refine bU ?_;refine dF ag λaC=>?_;go_wp2;refine bodyPost_ret (results_tmp rfl _ _ _) rfl ⟨rfl,aO aX.out ag.2.1.out⟩
      . obtain rfl:k=N:=by omega
        have hr:R=0:=by rw[<-hR.out,if_pos iz]
        subst hr;go_wp2;refine bodyPost_ret (results_tmp rfl _ _ _) rfl ⟨rfl,pb⟩
 . have hR:=HR.out;rw[if_pos h1]at hR;clear HR;subst hR;have Hb:=ag.1;go_wp2;exact bodyPost_ret (v:=ah 1) (by simp[results,Tryz.results41,go_sem,aC]) rfl ⟨rfl,dt⟩
end Go.Proofs.YtnjfebkelecgaaaGreatDoor
namespace Go.Proofs.YtnjfebkelecgaaaGreatDoor
def Dg (a:List UInt8):Op.bytesLess a a=false:=by
 induction a with
 |nil=>rfl
 |cons x a ih=>simp[Op.bytesLess,ih]
def Dh {a b c:List UInt8}(h:Op.bytesLess a b=true)(k:Op.bytesLess b c=true):Op.bytesLess a c=true:=by
 induction a generalizing b c with
 | nil=>
   cases c with
   |nil=>cases b<;>simp[Op.bytesLess]at k
   |cons z c=>simp[Op.bytesLess]
 | cons x a ih=>
   cases b with
   |nil=>simp[Op.bytesLess]at h
   | cons y b=>
     cases c with
     |nil=>simp[Op.bytesLess]at k
     | cons z c=>
       simp only[Op.bytesLess,Bool.or_eq_true,Bool.and_eq_true,decide_eq_true_eq,beq_iff_eq]at h k⊢;rcases h with h|⟨rfl,h⟩
       . rcases k with k|⟨rfl,k⟩
         . exact .inl (UInt8.lt_trans h k)
         . exact .inl h
       . rcases k with k|⟨rfl,k⟩
         . exact .inl k
         . exact .inr ⟨rfl,ih h k⟩
def Gu {a b:List UInt8}(h:Op.bytesLess a b=false)(k:Op.bytesLess b a=false):a=b:=by
 induction a generalizing b with
 | nil=>cases b with
   |nil=>rfl
   |cons y b=>simp[Op.bytesLess]at h
 | cons x a ih=>cases b with
   |nil=>simp[Op.bytesLess]at k
   | cons y b=>
     simp only[Op.bytesLess,Bool.or_eq_false_iff,Bool.and_eq_false_iff,decide_eq_false_iff_not,beq_eq_false_iff_ne]at h k;have e:x=y:=by have h1:=UInt8.not_lt.1 h.1;have h2:=UInt8.not_lt.1 k.1;exact UInt8.le_antisymm h2 h1
     subst e;rw[ih (by rcases h.2 with h|h;exact absurd rfl h;exact h) (by rcases k.2 with h|h;exact absurd rfl h;exact h)]
def Xb (x y:aM):aM:=(x.1,canon (aJ x.2+aJ y.2))
def zN :Nat->List aM->List aM->List aM
 |0,a,b=>a++b
 |_+1,[],b=>b
 |_+1,x::a,[]=>x::a
 |k+1,x::a,y::b=>if Op.bytesLess x.1 y.1 then x::zN k a (y::b)else if Op.bytesLess y.1 x.1 then y::zN k (x::a) b else Xb x y::zN k a b
def VR (a b:List aM)(j k:Nat)(hj:a.length+b.length<=j)(hk:a.length+b.length<=k):zN j a b=zN k a b:=by
 induction j generalizing k a b with
 |zero=>have ha:a=[]:=List.length_eq_zero_iff.1 zo;have hb:b=[]:=List.length_eq_zero_iff.1 zo;subst ha;subst hb;cases k<;>rfl
 | succ j ih=>
   cases k with
   |zero=>have ha:a=[]:=List.length_eq_zero_iff.1 zo;have hb:b=[]:=List.length_eq_zero_iff.1 zo;subst ha;subst hb;rfl
   | succ k=>
     cases a with
     |nil=>rfl
     | cons x a=>cases b with
       |nil=>rfl
       |cons y b=>simp only[List.length_cons]at hj hk;simp only[zN];rw[ih a (y::b) k zi zi,ih (x::a) b k zi zi,ih a b k zo zo]
def ig (a b:List aM):List aM:=zN (a.length+b.length) a b
def Ep (b:List aM):ig [] b=b:=by
 unfold ig;cases b with
 |nil=>rfl
 |cons y b=>rfl
def Er (a:List aM):ig a []=a:=by
 unfold ig;cases a with
 |nil=>rfl
 |cons y b=>rfl
def zO (x y:aM)(a b:List aM):ig (x::a) (y::b)=if Op.bytesLess x.1 y.1 then x::ig a (y::b)else if Op.bytesLess y.1 x.1 then y::ig (x::a) b else Xb x y::ig a b:=by
 unfold ig;rw[show(x::a).length+(y::b).length=(a.length+b.length+1)+1 by simp;omega];simp only[zN]
 rw[VR a (y::b) (a.length+b.length+1) (a.length+(y::b).length) zi zm,VR (x::a) b (a.length+b.length+1) ((x::a).length+b.length) zi zm,
  VR a b (a.length+b.length+1) (a.length+b.length) zo zo]
def af0 (a b:List aM):(ig a b).length<=a.length+b.length:=by
 obtain⟨n,hn⟩:=aI (a.length+b.length);induction n using Nat.strongRecOn generalizing a b with
 | _ n ih=>
   cases a with
   |nil=>rw[Ep];simp
   | cons x a=>cases b with
     |nil=>rw[Er];simp
     | cons y b=>
       rw[zO];simp only[List.length_cons]at hn⊢;split
       . have:=ih _ (by simp only[List.length_cons];omega) a (y::b) rfl;simp only[List.length_cons]at this⊢;omega
       . split
         . have:=ih _ (by simp only[List.length_cons];omega) (x::a) b rfl;simp only[List.length_cons]at this⊢;omega
         . have:=ih _ zo a b rfl;simp only[List.length_cons]at this⊢;omega
def cO :List aM->List UInt8->Dyadic
 |[],_=>0
 |x::l,m=>(if x.1=m then aJ x.2 else 0)+cO l m
def AZ (a b:List aM)(m:List UInt8):cO (a++b) m=cO a m+cO b m:=by
 induction a with
 |nil=>simp[cO]
 |cons x a ih=>simp only[List.cons_append,cO,ih];grind
def aaX (a b:List aM)(m:List UInt8):cO (ig a b) m=cO a m+cO b m:=by
 obtain⟨n,hn⟩:=aI (a.length+b.length);induction n using Nat.strongRecOn generalizing a b with
 | _ n ih=>
   cases a with
   |nil=>rw[Ep];simp[cO]
   | cons x a=>cases b with
     |nil=>rw[Er];simp[cO]
     | cons y b=>
       rw[zO];simp only[List.length_cons]at hn;split
       . have:=ih _ (by simp only[List.length_cons];omega) a (y::b) rfl;simp only[cO]at this⊢;rw[this];grind
       . split
         . have:=ih _ (by simp only[List.length_cons];omega) (x::a) b rfl;simp only[cO]at this⊢;rw[this];grind
         . rename_i h1 h2
           have:=ih _ zo a b rfl;have e:x.1=y.1:=Gu (by simpa using h1) (by simpa using h2);simp only[cO,Xb,cJ]at this⊢;rw[this,e];split<;>grind
def Up (l:List aM):Prop:=l.Pairwise λx y=>Op.bytesLess x.1 y.1=true
def Oq (a b:List aM):∀x∈ig a b,∃y∈a++b,y.1=x.1:=by
 obtain⟨n,hn⟩:=aI (a.length+b.length);induction n using Nat.strongRecOn generalizing a b with
 | _ n ih=>
   intro z hz;cases a with
   |nil=>rw[Ep]at hz;exact⟨z,by simp[hz],rfl⟩
   | cons x a=>cases b with
     |nil=>rw[Er]at hz;exact⟨z,by simpa using hz,rfl⟩
     | cons y b=>
       rw[zO]at hz;simp only[List.length_cons]at hn;split at hz
       . rcases List.mem_cons.1 hz with rfl|hz
         . exact⟨z,by simp,rfl⟩
         . obtain⟨u,hu,e⟩:=ih _ (by simp only[List.length_cons];omega) a (y::b) rfl z hz;exact⟨u,by simp at hu⊢;rcases hu with h|h|h<;>simp[h],e⟩
       . split at hz
         . rcases List.mem_cons.1 hz with rfl|hz
           . exact⟨z,by simp,rfl⟩
           . obtain⟨u,hu,e⟩:=ih _ (by simp only[List.length_cons];omega) (x::a) b rfl z hz;exact⟨u,by simp at hu⊢;rcases hu with h|h|h<;>simp[h],e⟩
         . rcases List.mem_cons.1 hz with rfl|hz
           . exact⟨x,by simp,rfl⟩
           . obtain⟨u,hu,e⟩:=ih _ zo a b rfl z hz;exact⟨u,by simp at hu⊢;rcases hu with h|h<;>simp[h],e⟩
def atm (a b:List aM)(ha:Up a)(hb:Up b):Up (ig a b):=by
 obtain⟨n,hn⟩:=aI (a.length+b.length);induction n using Nat.strongRecOn generalizing a b with
 | _ n ih=>
   cases a with
   |nil=>rw[Ep];exact hb
   | cons x a=>cases b with
     |nil=>rw[Er];exact ha
     | cons y b=>
       rw[zO];simp only[List.length_cons]at hn;obtain⟨ha1,ha2⟩:=List.pairwise_cons.1 ha;obtain⟨hb1,hb2⟩:=List.pairwise_cons.1 hb;split
       . rename_i h
         refine List.pairwise_cons.2 ⟨λz hz=>?_,ih _ (by simp only[List.length_cons];omega) a (y::b) ha2 hb rfl⟩;obtain⟨u,hu,e⟩:=Oq _ _ z hz;rw[<-e];rcases List.mem_append.1 hu with h2|h2
         . exact ha1 u h2
         . rcases List.mem_cons.1 h2 with rfl|h2
           . exact h
           . exact Dh h (hb1 u h2)
       . split
         . rename_i h0 h
           refine List.pairwise_cons.2 ⟨λz hz=>?_,ih _ (by simp only[List.length_cons];omega) (x::a) b ha hb2 rfl⟩;obtain⟨u,hu,e⟩:=Oq _ _ z hz;rw[<-e];rcases List.mem_append.1 hu with h2|h2
           . rcases List.mem_cons.1 h2 with rfl|h2
             . exact h
             . exact Dh h (ha1 u h2)
           . exact hb1 u h2
         . rename_i h1 h2
           have e:x.1=y.1:=Gu (by simpa using h1) (by simpa using h2);refine List.pairwise_cons.2 ⟨λz hz=>?_,ih _ zo a b ha2 hb2 rfl⟩;obtain⟨u,hu,e2⟩:=Oq _ _ z hz;rw[<-e2];show Op.bytesLess x.1 u.1=true
           rcases List.mem_append.1 hu with h3|h3
           . exact ha1 u h3
           . rw[e];exact hb1 u h3
def vM :Nat->List aM->List aM
 |0,l=>l
 |k+1,l=>if l.length<2 then l else ig (vM k (l.take (l.length/2))) (vM k (l.drop (l.length/2)))
def ahi (l:List aM)(j k:Nat)(hj:l.length<=j)(hk:l.length<=k):vM j l=vM k l:=by
 induction j generalizing k l with
 |zero=>have h:l=[]:=List.length_eq_zero_iff.1 zo;subst h;cases k<;>simp[vM]
 | succ j ih=>
   cases k with
   |zero=>have h:l=[]:=List.length_eq_zero_iff.1 zo;subst h;simp[vM]
   | succ k=>
     simp only[vM];split
     . rfl
     . rw[ih (l.take (l.length/2)) k zi zi,ih (l.drop (l.length/2)) k zi zi]
def im (l:List aM):List aM:=vM l.length l
def OU (l:List aM)(h:l.length<2):im l=l:=by
 unfold im;cases l with
 |nil=>rfl
 |cons x l=>simp only[List.length_cons,vM];rw[if_pos (by simpa using h)]
def Xa (l:List aM)(h:2<=l.length):im l=ig (im (l.take (l.length/2))) (im (l.drop (l.length/2))):=by obtain⟨k,hk⟩:∃k,l.length=k+1:=⟨l.length-1,by omega⟩;unfold im;rw[hk];simp only[vM];rw[if_neg zo,hk,ahi (l.take ((k+1)/2)) k ((l.take ((k+1)/2)).length) zi (Nat.le_refl _),ahi (l.drop ((k+1)/2)) k ((l.drop ((k+1)/2)).length) zi (Nat.le_refl _)]
def OS {Q:List aM->List aM->Prop}(h0:∀l,l.length<2->Q l l)(h1:∀a b c d,Q a c->Q b d->Q (a++b) (ig c d))(l:List aM):Q l (im l):=by
 obtain⟨n,hn⟩:=aI l.length;induction n using Nat.strongRecOn generalizing l with
 | _ n ih=>
   by_cases h:l.length<2
   . rw[OU l h];exact h0 l h
   . rw[Xa l zo];have:=h1 _ _ _ _ (ih (l.take (l.length/2)).length zi (l.take (l.length/2)) rfl) (ih (l.drop (l.length/2)).length zi (l.drop (l.length/2)) rfl);rwa [List.take_append_drop]at this
def aon (l:List aM)(m:List UInt8):cO (im l) m=cO l m:=
 OS (Q:=λl r=>cO r m=cO l m) (λ_ _=>rfl) (λa b c d h1 h2=>by rw[aaX,AZ,h1,h2]) l
def axa (l:List aM):Up (im l):=
 OS (Q:=λ_ r=>Up r) (λl h=>by
  cases l with
  |nil=>exact List.Pairwise.nil
  | cons x l=>cases l with
    |nil=>exact List.pairwise_singleton _ _
    |cons y l=>simp at h;omega) (λa b c d h1 h2=>atm c d h1 h2) l
def OT (l:List aM):(im l).length<=l.length:=
 OS (Q:=λl r=>r.length<=l.length) (λ_ _=>Nat.le_refl _) (λa b c d h1 h2=>by have:=af0 c d;simp;omega) l
def aw9 (l:List aM):∀x∈im l,∃y∈l,y.1=x.1:=
 OS (Q:=λl r=>∀x∈r,∃y∈l,y.1=x.1) (λl _ x hx=>⟨x,hx,rfl⟩) (λa b c d h1 h2 x hx=>by
  obtain⟨y,hy,e⟩:=Oq c d x hx;rcases List.mem_append.1 hy with h|h
  . obtain⟨z,hz,e2⟩:=h1 y h;exact⟨z,by simp[hz],e2.trans e⟩
  . obtain⟨z,hz,e2⟩:=h2 y h;exact⟨z,by simp[hz],e2.trans e⟩) l
def iG (x:aM):Bool:=!(dR (aJ x.2)==0)
def bW (l:List aM):List aM:=((im l).filter iG).map λx=>(x.1,canon (aJ x.2))
def Good (l:List aM):Prop:=Up l/\∀x∈l,aJ x.2≠0/\x.2=canon (aJ x.2)
def Bc (X:Dyadic):(dR X==0)=false↔X≠0:=by
 have h:dR X=0↔X=0:=by
  constructor
  . intro h;have h1:dN X=0:=by
     unfold dR fU at h;by_cases h1:dN X<0
     . rw[if_pos h1]at h;cases h
     . rw[if_neg h1]at h;by_cases h2:dN X=0
       . exact h2
       . rw[if_neg h2]at h;cases h
    have h2:=uA X;rw[h1,zX]at h2;exact h2
  . rintro rfl;rfl
 rw[beq_eq_false_iff_ne];exact not_congr h
def aaW (l:List aM)(m:List UInt8):cO (l.filter iG) m=cO l m:=by
 induction l with
 |nil=>rfl
 | cons x l ih=>
   rw[List.filter_cons];split
   . simp only[cO,ih]
   . rename_i h
     have h0:aJ x.2=0:=Classical.byContradiction λhc=>h (by unfold iG;rw[(Bc _).2 hc];rfl);simp only[cO,ih,h0];split<;>grind
def aoi (l:List aM)(m:List UInt8):cO (l.map λx=>(x.1,canon (aJ x.2))) m=cO l m:=by
 induction l with
 |nil=>rfl
 |cons x l ih=>simp only[List.map_cons,cO,ih,cJ]
def uZ (l:List aM)(m:List UInt8):cO (bW l) m=cO l m:=by unfold bW;rw[aoi,aaW,aon]
def axZ {l:List aM}(h:Up l):Up (l.map λx=>(x.1,canon (aJ x.2))):=List.Pairwise.map _ (λ_ _ h=>h) h
def ap7 (l:List aM)(h:Up l):Good ((l.filter iG).map λx=>(x.1,canon (aJ x.2))):=by
 refine⟨axZ (List.Pairwise.filter _ h),λx hx=>?_⟩;obtain⟨y,hy,rfl⟩:=List.mem_map.1 hx;have h2:=(List.mem_filter.1 hy).2;unfold iG at h2;refine⟨?_,?_⟩
 . show aJ (canon (aJ y.2))≠0
   rw[cJ];exact(Bc _).1 (by simpa using h2)
 . show canon (aJ y.2)=canon (aJ (canon (aJ y.2)))
   rw[cJ]
def Dl (l:List aM):Good (bW l):=ap7 _ (axa l)
def Dm (l:List aM):(bW l).length<=l.length:=by unfold bW;rw[List.length_map];exact Nat.le_trans (List.length_filter_le _ _) (OT l)
def aaY (l:List aM)(m:List UInt8)(h:∀x∈l,x.1≠m):cO l m=0:=by
 induction l with
 |nil=>rfl
 |cons x l ih=>simp only[cO];rw[if_neg (h x zm),ih (λy hy=>h y (by simp[hy]))];grind
def Good.tail {x:aM}{l:List aM}(h:Good (x::l)):Good l:=⟨(List.pairwise_cons.1 h.1).2,λy hy=>h.2 y (by simp[hy])⟩
def Good.off {x:aM}{l:List aM}(h:Good (x::l)):cO l x.1=0:=by refine aaY _ _ (λy hy e=>?_);have:=(List.pairwise_cons.1 h.1).1 y hy;rw[e,Dg]at this;cases this
def Good.head {x:aM}{l:List aM}(h:Good (x::l)):cO (x::l) x.1=aJ x.2:=by simp only[cO,if_pos,h.off];grind
def Good.before {x y:aM}{l:List aM}(h:Good (y::l))(hx:Op.bytesLess x.1 y.1=true):cO (y::l) x.1=0:=by
 refine aaY _ _ (λz hz e=>?_);rcases List.mem_cons.1 hz with rfl|hz
 . rw[e,Dg]at hx;cases hx
 . have:=Dh hx ((List.pairwise_cons.1 h.1).1 z hz);rw[e,Dg]at this;cases this
def abL {a b:List aM}(ha:Good a)(hb:Good b)(h:∀m,cO a m=cO b m):a=b:=by
 induction a generalizing b with
 | nil=>
   cases b with
   |nil=>rfl
   |cons y b=>have:=h y.1;rw[hb.head]at this;exact absurd this.symm (hb.2 y zm).1
 | cons x a ih=>
   cases b with
   |nil=>have:=h x.1;rw[ha.head]at this;exact absurd this (ha.2 x zm).1
   | cons y b=>
     have h1:Op.bytesLess x.1 y.1=false:=by
      cases hc:Op.bytesLess x.1 y.1 with
      |false=>rfl
      |true=>have:=h x.1;rw[ha.head,hb.before hc]at this;exact absurd this (ha.2 x zm).1
     have h2:Op.bytesLess y.1 x.1=false:=by
      cases hc:Op.bytesLess y.1 x.1 with
      |false=>rfl
      |true=>have:=h y.1;rw[hb.head,ha.before hc]at this;exact absurd this.symm (hb.2 y zm).1
     have e1:x.1=y.1:=Gu h1 h2;have e2:aJ x.2=aJ y.2:=by have:=h x.1;rw[ha.head]at this;rw[this,e1,hb.head]
     have e3:x=y:=by refine Prod.ext e1 ?_;rw[(ha.2 x zm).2,(hb.2 y zm).2,e2]
     subst e3
     rw[ih ha.tail hb.tail (λm=>by
      have:=h m;simp only[cO]at this;generalize (if x.1=m then aJ x.2 else 0)=u at this
      grind)]
def Gl (V:Nat)(ts:List aM):Prop:=Good ts/\(∀t∈ts,eN t.1 V=true)/\ts.length<=4096/\V<=12
def OD {V:Nat}{ts:List aM}(h:Gl V ts):fx V ts=0:=by
 obtain⟨⟨h1,h2⟩,h3,h4,h5⟩:=h;unfold fx;rw[if_neg zo,if_neg zo,if_pos];rw[List.all_eq_true];intro k hk;have hk:k<ts.length:=by simpa using hk
 have e:ts.getD k default=ts[k]:=by simp[hk]
 have hm:=List.getElem_mem hk;unfold je wO;rw[e,h3 _ hm,(Bc _).2 (h2 _ hm).1];have e2:(canon (aJ ts[k].2)==ts[k].2)=true:=by rw[beq_iff_eq];exact(h2 _ hm).2.symm
 rw[e2];by_cases h0:k=0
 . simp[h0]
 . have hk1:k-1<ts.length:=by omega
   have e3:ts.getD (k-1) default=ts[k-1]:=by simp[hk1]
   have:=List.pairwise_iff_getElem.1 h1 (k-1) k hk1 hk zo;rw[e3,fL,fL,this];simp
def Good.coef {l:List aM}(h:Good l):∀t∈l,aJ t.2=cO l t.1:=by
 induction l with
 |nil=>intro t ht;cases ht
 | cons x l ih=>
   intro t ht;rcases List.mem_cons.1 ht with rfl|ht
   . exact h.head.symm
   . have hne:¬x.1=t.1:=λe=>by have:=(List.pairwise_cons.1 h.1).1 t ht;rw[e,Dg]at this;cases this
     simp only[cO,if_neg hne,ih h.tail t ht];grind
def aom {B:Nat}{l:List aM}(h:∀x∈l,Sm B (aJ x.2))(m:List UInt8):Sm (B+l.length) (cO l m):=by
 induction l with
 |nil=>exact Sm.zero _
 | cons x l ih=>
   have h1:=ih (λy hy=>h y (by simp[hy]));have h2:Sm B (if x.1=m then aJ x.2 else 0):=by
    split
    . exact h x zm
    . exact Sm.zero _
   exact((h2.mono (show B<=B+l.length by omega)).add h1).mono zi
def aob {B:Nat}{l:List aM}(h:∀x∈l,Sm B (aJ x.2)):∀t∈bW l,Sm (B+l.length) (aJ t.2):=by intro t ht;rw[(Dl l).coef t ht,uZ];exact aom h _
def aaQ (l:List aM):∀x∈bW l,∃y∈l,y.1=x.1:=by intro x hx;unfold bW at hx;obtain⟨y,hy,rfl⟩:=List.mem_map.1 hx;exact aw9 l y (List.mem_filter.1 hy).1
def aoa {V:Nat}{l:List aM}(hV:V<=12)(hm:∀t∈l,eN t.1 V=true)(hl:l.length<=4096):Gl V (bW l):=
 ⟨Dl l,λt ht=>by obtain⟨y,hy,e⟩:=aaQ l t ht;rw[<-e];exact hm y hy,Nat.le_trans (Dm l) hl,hV⟩
def Dk {a b:List aM}(h:∀m,cO a m=cO b m):bW a=bW b:=abL (Dl a) (Dl b) (λm=>by rw[uZ,uZ,h m])
def an9 (a b:List aM):bW (bW a++bW b)=bW (a++b):=Dk (λm=>by rw[AZ,AZ,uZ,uZ])
def eu (c:Dyadic)(l:List aM):List aM:=l.map λx=>(x.1,canon (aJ x.2*c))
def aaZ (c:Dyadic)(l:List aM)(m:List UInt8):cO (eu c l) m=cO l m*c:=by
 induction l with
 |nil=>simp[eu,cO]
 |cons x l ih=>simp only[eu,List.map_cons,cO]at ih⊢;rw[ih,cJ];split<;>grind
def lC (n:Nat):List UInt8:=List.replicate n 0
def dV (n k:Nat):List UInt8:=(List.replicate n 0).set k 1
def aid (n:Nat):eN (lC n) n=true:=by unfold eN lC;rw[Bool.and_eq_true];refine⟨?_,by simp⟩;rw[List.all_eq_true];intro c hc;rw[(List.mem_replicate.1 hc).2];rfl
def Kq (n k:Nat):eN (dV n k) n=true:=by
 unfold eN dV;rw[Bool.and_eq_true];refine⟨?_,by simp⟩;rw[List.all_eq_true];intro c hc;rcases List.mem_or_eq_of_mem_set hc with h|h
 . rw[(List.mem_replicate.1 h).2];rfl
 . rw[h];rfl
def gS (n:Nat)(c:Dyadic)(l:Nat->Dyadic)(k:Nat):List aM:=(lC n,canon c)::(List.range k).map λj=>(dV n j,canon (l j))
def dL (n:Nat)(c:Dyadic)(l:Nat->Dyadic)(k:Nat):List aM:=bW (gS n c l k)
def JL (n:Nat)(c:Dyadic)(l:Nat->Dyadic)(k:Nat):(gS n c l k).length=k+1:=by simp[gS]
def VE (n:Nat)(c:Dyadic)(l:Nat->Dyadic)(k:Nat):∀t∈gS n c l k,eN t.1 n=true:=by
 intro t ht;unfold gS at ht;rcases List.mem_cons.1 ht with rfl|ht
 . exact aid n
 . obtain⟨j,_,rfl⟩:=List.mem_map.1 ht;exact Kq n j
def asG {B:Nat}(n:Nat)(c:Dyadic)(l:Nat->Dyadic)(k:Nat)(hc:Sm B c)(hl:∀j,j<k->Sm B (l j)):∀t∈gS n c l k,Sm B (aJ t.2):=by
 intro t ht;unfold gS at ht;rcases List.mem_cons.1 ht with rfl|ht
 . show Sm B (aJ (canon c));rw[cJ];exact hc
 . obtain⟨j,hj,rfl⟩:=List.mem_map.1 ht;show Sm B (aJ (canon (l j)));rw[cJ];exact hl j (by simpa using hj)
def afx (n:Nat)(c:Dyadic)(l:Nat->Dyadic)(k:Nat):gS n c l (k+1)=gS n c l k++[(dV n k,canon (l k))]:=by unfold gS;rw[List.range_succ,List.map_append];rfl
def Mi (n:Nat)(c:Dyadic)(l:Nat->Dyadic)(k:Nat)(m:List UInt8):cO (gS n c l (k+1)) m=cO (gS n c l k) m+if dV n k=m then l k else 0:=by rw[afx,AZ];simp only[cO,cJ];grind
def asI (n:Nat)(c:Dyadic)(l:Nat->Dyadic)(k:Nat):bW (dL n c l k++bW [(dV n k,canon (l k))])=dL n c l (k+1):=by unfold dL;rw[an9,afx]
def aoh (n:Nat)(c d:Dyadic)(l r:Nat->Dyadic)(u v:Dyadic)(k:Nat)(m:List UInt8):cO (gS n (c*u+d*v) (λj=>l j*u+r j*v) k) m=cO (gS n c l k) m*u+cO (gS n d r k) m*v:=by
 induction k with
 |zero=>simp[gS,cO,cJ];split<;>grind
 |succ k ih=>rw[Mi,ih,Mi,Mi];split<;>grind
def asF {n:Nat}{c d:Dyadic}{l r:Nat->Dyadic}(k:Nat)(hc:c=d)(h:∀j,j<k->l j=r j):gS n c l k=gS n d r k:=by unfold gS;rw[hc];congr 1;refine List.map_congr_left λj hj=>?_;rw[h j (by simpa using hj)]
def asJ (n:Nat)(c d:Dyadic)(l r:Nat->Dyadic)(k:Nat):bW (dL n c l k++bW (eu (-1) (dL n d r k)))=dL n (c-d) (λj=>l j-r j) k:=by unfold dL;refine Dk (λm=>?_);rw[AZ,uZ,uZ,aaZ,uZ];have h:=aoh n c d l r 1 (-1) k m;rw[asF (d:=c-d) (r:=λj=>l j-r j) k (by grind) (λj _=>by grind)]at h;rw[h];grind
def zZ (x:Dyadic):Nat->Dyadic
 |0=>1
 |n+1=>zZ x n*x
def ahe :Sm 1 (1:Dyadic):=by
 have e:(1:Dyadic)=Dyadic.ofIntWithPrec 1 0:=by decide+kernel
 rw[e];exact⟨1*2^1,(xL 1 1 0).symm,by decide⟩
def agC {B:Nat}{x:Dyadic}(h:Sm B x)(n:Nat):Sm (B*n+1) (zZ x n):=by
 induction n with
 |zero=>exact ahe
 |succ n ih=>exact(Sm.mul ih h).mono (by rw[Nat.mul_succ];omega)
def zT :aM:=([],false,[],0)
def fq (a b:List UInt8):List UInt8:=List.zipWith (λx y=>UInt8.ofNat (x.toNat+y.toNat)) a b
def Df (a b:List UInt8)(n:Nat)(ha:a.length=n)(hb:b.length=n):(fq a b).length=n:=by simp[fq,ha,hb]
def RL (a b:List UInt8)(i:Nat)(h:i<(fq a b).length)(hs:(a.getD i 0).toNat+(b.getD i 0).toNat<=255):((fq a b)[i]).toNat=(a.getD i 0).toNat+(b.getD i 0).toNat:=by
 have h1:i<a.length:=by simp[fq]at h;omega
 have h2:i<b.length:=by simp[fq]at h;omega
 simp only[fq,List.getElem_zipWith];simp only[List.getD_eq_getElem?_getD,List.getElem?_eq_getElem h1,List.getElem?_eq_getElem h2,Option.getD_some]at hs⊢;simp;omega
def RN (a b:List UInt8)(n:Nat)(ha:a.length=n)(hb:b.length=n)(hs:∀i,i<n->(a.getD i 0).toNat+(b.getD i 0).toNat<=127):∀c∈fq a b,c.toNat<=127:=λc hc=>by
 obtain⟨i,hi,rfl⟩:=List.mem_iff_getElem.1 hc;have hi':i<n:=by rw[Df a b n ha hb]at hi;exact hi
 rw[RL a b i hi (by have:=hs i hi';omega)];exact hs i hi'
abbrev iH (l:List UInt8):Nat:=(l.map UInt8.toNat).sum
def Cz (l:List UInt8)(i:Nat):(l.getD i 0).toNat<=iH l:=by
 induction l generalizing i with
 |nil=>simp
 | cons c l ih=>
   unfold iH;rw[List.map_cons,List.sum_cons];cases i with
   |zero=>simp
   |succ i=>have:=ih i;unfold iH at this;simp only[List.getD_cons_succ];omega
def amq (a b:List UInt8)(n:Nat)(ha:a.length=n)(hb:b.length=n)(h:iH a+iH b<=127):iH (fq a b)=iH a+iH b:=by
 induction a generalizing b n with
 | nil=>
   obtain rfl:n=0:=by simpa using ha.symm
   obtain rfl:b=[]:=List.eq_nil_of_length_eq_zero hb;rfl
 | cons x a ih=>cases b with
   |nil=>simp at ha hb;omega
   | cons y b=>
     simp only[iH,List.map_cons,List.sum_cons]at h;have h1:=ih b a.length rfl (by simp at ha hb;omega) (by unfold iH;omega);unfold iH at h1⊢;have e:fq (x::a) (y::b)=UInt8.ofNat (x.toNat+y.toNat)::fq a b:=rfl;have e2:(UInt8.ofNat (x.toNat+y.toNat)).toNat=x.toNat+y.toNat:=by simp;omega
     rw[e,List.map_cons,List.sum_cons,h1,e2,List.map_cons,List.sum_cons,List.map_cons,List.sum_cons];omega
def iE (ta tb:List aM):List aM:=ta.flatMap λx=>tb.map λy=>(fq x.1 y.1,canon (aJ x.2*aJ y.2))
def VS (ta tb:List aM):(iE ta tb).length=ta.length*tb.length:=by
 unfold iE;rw[List.length_flatMap];induction ta with
 |nil=>simp
 |cons x ta ih=>rw[List.map_cons,List.sum_cons,ih,List.length_map,List.length_cons,Nat.succ_mul];omega
def Ot {ta tb:List aM}{t:aM}(h:t∈iE ta tb):∃x∈ta,∃y∈tb,t=(fq x.1 y.1,canon (aJ x.2*aJ y.2)):=by unfold iE at h;obtain⟨x,hx,h⟩:=List.mem_flatMap.1 h;obtain⟨y,hy,e⟩:=List.mem_map.1 h;exact⟨x,hx,y,hy,e.symm⟩
def VT {A B:Nat}{ta tb:List aM}(ha:∀t∈ta,Sm A (aJ t.2))(hb:∀t∈tb,Sm B (aJ t.2)):∀t∈iE ta tb,Sm (A+B) (aJ t.2):=λt ht=>by obtain⟨x,hx,y,hy,rfl⟩:=Ot ht;rw[cJ];exact Sm.mul (ha x hx) (hb y hy)
def xE {l:List UInt8}{V:Nat}(h:eN l (V:Int)=true):l.length=V/\∀c∈l,c.toNat<=127:=by unfold eN at h;simp only[Bool.and_eq_true,List.all_eq_true,decide_eq_true_eq]at h;exact⟨by have:=h.2;omega,h.1⟩
def VN {l:List UInt8}{V:Nat}(h1:l.length=V)(h2:∀c∈l,c.toNat<=127):eN l (V:Int)=true:=by unfold eN;simp only[Bool.and_eq_true,List.all_eq_true,decide_eq_true_eq];exact⟨h2,by omega⟩
def gB (V d:Nat)(ts:List aM):Prop:=∀t∈ts,eN t.1 (V:Int)=true/\iH t.1<=d
def gB.mul {V d e:Nat}{ta tb:List aM}(ha:gB V d ta)(hb:gB V e tb)(h:d+e<=127):gB V (d+e) (iE ta tb):=λt ht=>by
 obtain⟨x,hx,y,hy,rfl⟩:=Ot ht;obtain⟨h1,h2⟩:=ha x hx;obtain⟨h3,h4⟩:=hb y hy;have l1:=(xE h1).1;have l2:=(xE h3).1;refine⟨VN (Df _ _ V l1 l2) (RN _ _ V l1 l2 (λi _=>?_)),?_⟩
 . have:=Cz x.1 i;have:=Cz y.1 i;omega
 . have:=amq x.1 y.1 V l1 l2 zo;show iH (fq x.1 y.1)<=_;omega
def gB.clean {V d:Nat}{ts:List aM}(h:gB V d ts):gB V d (bW ts):=λt ht=>by obtain⟨y,hy,e⟩:=aaQ _ t ht;rw[<-e];exact h y hy
def gB.append {V d:Nat}{a b:List aM}(ha:gB V d a)(hb:gB V d b):gB V d (a++b):=λt ht=>by
 rcases List.mem_append.1 ht with h|h
 . exact ha t h
 . exact hb t h
def gB.mono {V d e:Nat}{a:List aM}(ha:gB V d a)(h:d<=e):gB V e a:=λt ht=>⟨(ha t ht).1,Nat.le_trans (ha t ht).2 h⟩
end Go.Proofs.YtnjfebkelecgaaaGreatDoor
namespace Go.Proofs.YtnjfebkelecgaaaGreatDoor
open Go.RowKit
attribute [local go_sem ↓] Go.wp_at_zero Go.wp_at_succ
def xP (a b:List UInt8):Int:=if Op.bytesLess a b then-1 else if Op.bytesLess b a then 1 else 0
def awQ (l:List UInt8)(s:Bool)(m:List UInt8)(e:Int)(l':List UInt8)(s':Bool)(m':List UInt8)(e':Int)(w:World):
 Cv 55 #[.agg #[ai l,aj s,ai m,ah e],.agg #[ai l',aj s',ai m',ah e']] w (ah (xP l l')):=by
 obtain⟨R,hR⟩:=aI (xP l l');unfold xP at hR;rw[show xP l l'=R from hR];obtain⟨W,cP,ag,aC⟩:=jq w 67 [ai l,aj s,ai m,ah e] 67 [ai l',aj s',ai m',ah e'];cases h1:Op.bytesLess l l' with
 | true=>
   rw[h1]at hR;simp only[if_true]at hR;subst hR;have h2:Op.bytesLess (bs l).toList (bs l').toList=true:=by rw[fL,fL];exact h1
   clear h1;go_enter Tryz.func55,Tryz.ntmps55;go_wp2;go_ret;exact⟨rfl,ag.1.out⟩
 | false=>
   rw[h1]at hR;simp only[Bool.false_eq_true,if_false]at hR;have h2:Op.bytesLess (bs l).toList (bs l').toList=false:=by rw[fL,fL];exact h1
   cases h3:Op.bytesLess l' l with
   | true=>
     rw[h3]at hR;simp only[if_true]at hR;subst hR;have hne:¬l=l':=by rintro rfl;rw[Dg]at h3;cases h3
     have h4:((bs l).toList==(bs l').toList)=false:=by rw[fL,fL];simpa using hne
     have h5:¬(bs l).toList=(bs l').toList:=by rw[fL,fL];exact hne
     clear h1 h3 hne;go_enter Tryz.func55,Tryz.ntmps55;go_wp2;go_ret;exact⟨rfl,ag.1.out⟩
   |false=>rw[h3]at hR;simp only[Bool.false_eq_true,if_false]at hR;subst hR;obtain rfl:=Gu h1 h3;clear h1 h3;go_enter Tryz.func55,Tryz.ntmps55;go_wp2;go_ret;exact⟨rfl,ag.1.out⟩
def axh (l:List UInt8)(s:Bool)(m:List UInt8)(e:Int)(l':List UInt8)(s':Bool)(m':List UInt8)(e':Int)(S:Dyadic)(B:Nat)(hS:aJ (s,m,e)+aJ (s',m',e')=S)(w:World)(hx:Fit B (s,m,e))(hy:Fit B (s',m',e'))(hB:B+2<=268435456)(hT:aR w):
 Cv 56 #[.agg #[ai l,aj s,ai m,ah e],.agg #[ai l',aj s',ai m',ah e']] w (.agg #[ai l,aj (aK (dN S)),ai (nt (dN S).natAbs),ah (dE S)]):=by
 obtain⟨gF,mL,HS,HT⟩:=dP hx hy hS hT;clear hx hy hS hT;obtain⟨W,cP,ag,aC⟩:=uD w 67 [ai l,aj s,ai m,ah e] 67 [ai l',aj s',ai m',ah e'] 67 [.string ⟨#[]⟩,aj false,.string ⟨#[]⟩,ah 0];go_enter Tryz.func56,Tryz.ntmps56;go_wp2_with fail;refine dG 9 ag (dD 10 0x12110e0c0b0907050301) ?_;refine bU ?_;refine Aa 48 [aj s,ai m,ah e,aj s',ai m',ah e'] ag λW3 bi ag=>?_;refine cz ag (Ml s m e s' m' e' S B HS.out W.heap.size _ 48 _ gF.out mL.out hB ag.1.out ((HT.out.below ag.2.1.out))) λw4 ag=>?_;refine bU ?_;have aC:=qC ag;refine qOp λK hK=>?_;go_simp;refine hK _ _ (λh=>absurd h zd) ?_
 refine cL (bG w4 (w.heap.size+1+1) 0 [ai l,aj (aK (dN S)),ai (nt (dN S).natAbs),ah (dE S)]) bM ?_;intro w5 hs0;have ag:=cH hs0 ag;simp only[cB,List.set]at ag;have aC:=qC ag;refine dF ag λaC=>?_;have Hb:=ag.2.1;have r0:w5.cell? ⟨w.heap.size+1+1,0,none⟩=some (ai l):=ag.2.2.2.2.1.out.cell 0;have r1:w5.cell? ⟨w.heap.size+1+1,1,none⟩=some (aj (aK (dN S))):=ag.2.2.2.2.1.out.cell 1;have r2:w5.cell? ⟨w.heap.size+1+1,2,none⟩=some (ai (nt (dN S).natAbs)):=ag.2.2.2.2.1.out.cell 2;have r3:w5.cell? ⟨w.heap.size+1+1,3,none⟩=some (ah (dE S)):=ag.2.2.2.2.1.out.cell 3;go_wp2;exact bodyPost_ret (v:=.agg #[ai l,aj (aK (dN S)),ai (nt (dN S).natAbs),ah (dE S)]) (by simp[results,Tryz.results56,go_sem,r0,r1,r2,r3,aC]) rfl ⟨rfl,dt⟩
def an7 (l:List UInt8)(s:Bool)(m:List UInt8)(e:Int)(w:World)(hx:Ok (s,m,e)):
 Cv 99 #[.agg #[ai l,aj s,ai m,ah e]] w (aj (!iG (l,s,m,e))):=by
 obtain⟨g,hg⟩:=aI (dR (aJ (s,m,e)));have hs:=λW=>vg s m e g hg W hx;have hz:(!iG (l,s,m,e))=decide (g=0):=by unfold iG;rw[hg];by_cases h:g=0<;>simp[h]
 rw[hz];have Hs:=az hs;clear hs hz hg hx;obtain⟨W,cP,ag,aC⟩:=gz w 67 [ai l,aj s,ai m,ah e];go_enter Tryz.func99,Tryz.ntmps99;go_wp2_with fail;refine aZ ag (Hs.out _) λw1 ag aC=>?_;go_wp2;refine bodyPost_ret (results_tmp rfl _ _ _) rfl ⟨?_,ag.1.out⟩;by_cases h:g=0<;>simp[h]
def ate (l:List UInt8)(s:Bool)(m:List UInt8)(e:Int)(V:Int)(bv:Nat)(w:World)(hv:w.cell? ⟨bv,0,none⟩=some (ah V))(hl:l.length<=9223372036854775807):
 Cv 156 #[.agg #[ai l,aj s,ai m,ah e],.pointer (some ⟨bv,0,none⟩)] w (aj (!eN l V)):=by
 have hm:=λW=>Eo l V W hl;obtain⟨t,ht⟩:=aI (eN l V);rw[ht]at hm⊢;obtain⟨Hm,Hv⟩:=aU hm hv;clear hm ht hv;obtain⟨W,cP,ag,aC⟩:=gz w 67 [ai l,aj s,ai m,ah e];have hv2:=cell_later ag.1.out Hv.out;go_enter Tryz.func156,Tryz.ntmps156;go_wp2_with fail;refine aZ ag (Hm.out _) λw1 ag aC=>?_;clear hv2;go_wp2;refine bodyPost_ret (results_tmp rfl _ _ _) rfl ⟨rfl,ag.1.out⟩
def og {α:Type}(p:α->Bool):List α->Nat->Int
 |[],_=>-1
 |v::l,k=>if p v then(k:Int)else og p l (k+1)
def afe {α:Type}(p:α->Bool)(l:List α)(k n:Nat)(h:n<l.length):og p (l.drop n) k=if p l[n]then(k:Int)else og p (l.drop (n+1)) (k+1):=by rw[List.drop_eq_getElem_cons h];rfl
def afd {α:Type}(p:α->Bool)(l:List α)(k:Nat):decide (0<=og p l k)=l.any p:=by
 induction l generalizing k with
 |nil=>rfl
 | cons v l ih=>
   unfold og;rw[List.any_cons];by_cases h:p v=true
   . rw[if_pos h,h,Bool.true_or];simp
   . rw[if_neg h,ih];simp[h]
def aff {α:Type}(p:α->Bool)(l:List α)(k:Nat):(og p l k= -1/\∀x∈l,p x=false)\/∃i,∃h:i<l.length,og p l k=((k+i:Nat):Int)/\p l[i]=true/\∀j (hj:j<i),p (l[j]'zo)=false:=by
 induction l generalizing k with
 |nil=>exact .inl ⟨rfl,λx hx=>by cases hx⟩
 | cons v l ih=>
   unfold og;by_cases h:p v=true
   . rw[if_pos h];exact .inr ⟨0,by simp,rfl,h,λj hj=>by omega⟩
   . rw[if_neg h];rcases ih (k+1)with⟨h1,h2⟩ |⟨i,h1,h2,h3,h4⟩
     . exact .inl ⟨h1,λx hx=>by rcases List.mem_cons.1 hx with rfl|hx;simpa using h;exact h2 x hx⟩
     . refine .inr ⟨i+1,by simpa using h1,by rw[h2];congr 1;omega,by simpa using h3,λj hj=>?_⟩;cases j with
       |zero=>simpa using h
       |succ j=>simpa using h4 j zo
structure Pv where
 V:Int
 a:Option Addr
 n:Nat
 c:Nat
def nQ (p:Pv):List Value:=[ah p.V,.slice p.a p.n p.c]
def At.aCp {w:World}{a:Option Addr}{ps:List Pv}(h:At w a (ps.flatMap nQ))(k:Nat)(hk:k<ps.length){V:Int}{a':Option Addr}{n c:Nat}(hx:ps[k]=⟨V,a',n,c⟩):
 ∃b o,a=some ⟨b,o,none⟩/\bA w b (o+k*2) [ah V,.slice a' n c]:=by
 obtain⟨b,o,hab,hcs⟩:=h.elem (f:=nQ) (sz:=2) (λ_=>rfl) zd k hk;refine⟨b,o,hab,λj hj=>?_⟩;have:=hcs j hj;rw[hx]at this;rw[this];unfold nQ;rw[List.getElem?_eq_getElem (by simpa using hj)]
def Vv (a:Option Addr)(n cap:Nat)(vals:List aM)(gf:Nat)(lb:Array Value)(p:aM->Bool)(w:World)(hn:vals.length=n)(hl:n<=1099511627776)(ha:At w a (vals.flatMap aW))
 (eg:∀args w,(callFunc gf args).run Tryz.prog w=.ok (.enter gf args) w)
 (hcl:∀x∈vals,∀W,Bw w W->Cl gf (#[.agg #[ai x.1,aj x.2.1,ai x.2.2.1,ah x.2.2.2]]++lb) W λe w'=>e=.returned (aj (p x))/\Bw W w'):
 Cv 134 #[.slice a n cap,.func (.func gf) #[] lb] w (ah (og p vals 0)):=by
 obtain⟨Hn,Ha,gD,tv⟩:=dP hn ha hcl eg;clear hn ha hcl eg;have Hb:=hbz w;go_enter Tryz.func134,Tryz.ntmps134;go_wp2_with fail;go_loopw[5,8] (λ_ i wr=>∃k:Nat,k<=n/\i=ah (k:Int)/\og p vals 0=og p (vals.drop k) k/\Bw w wr) (λ_ i _=>n-(intOf i).toNat);case atStart=>exact⟨0,Nat.zero_le _,rfl,rfl,Hb.out⟩
 case round=>
  clear Hb;obtain⟨k,hk,rfl,iA,pb⟩:=hrel;obtain⟨pQ,Hb⟩:=aU iA pb;clear iA pb;by_cases hlt:k<n
  . have bj:k<vals.length:=by rw[Hn.out];exact hlt
    obtain⟨l,s,m,e,hx⟩:∃l s m e,vals[k]=(l,s,m,e):=⟨_,_,_,_,rfl⟩;obtain⟨b,o,hab,cn⟩:=(Ha.out.below Hb.out).term k bj hx;obtain⟨q0,q1,q2,q3⟩:=cn.w4;have bC:=gQ n cap k (k:Int) hab hlt rfl;have hcall:=gD.out _ (List.getElem_mem bj) wr Hb.out;have hstep:=afe p vals k k bj;rw[<-pQ.out]at hstep;rw[hx]at hcall hstep;obtain⟨kO,rc⟩:=aU hstep hcall;have vZ:=tv.out;clear cn hab hx hstep hcall;go_wp2_with fail;refine rc.out.mono ?_;rintro e9 w1 ⟨rfl,hb1⟩;replace Hb:=az (aO Hb.out hb1);clear hb1 q0 q1 q2 q3 bC vZ;obtain⟨t,ht⟩:=aI (p (l,s,m,e));rw[ht]at kO⊢;clear ht;cases t with
    |true=>go_wp2;refine bodyPost_ret (results_tmp rfl _ _ _) rfl ⟨?_,Hb.out⟩;have h:=kO.out;rw[if_pos (by trivial)]at h;rw[h];rfl
    | false=>
      go_wp2;go_roundw;case rel=>exact⟨k+1,by omega,by go_num,by have h:=kO.out;rw[if_neg zd]at h;exact h,Hb.out⟩
      case measure=>exact bH
  . obtain rfl:k=n:=by omega
    go_wp2;refine bodyPost_ret (results_tmp rfl _ _ _) rfl ⟨?_,Hb.out⟩;have h:=pQ.out;rw[List.drop_of_length_le (by rw[Hn.out];exact Nat.le_refl _)]at h;rw[h];rfl
def aox (a:Option Addr)(n cap:Nat)(vals:List aM)(gf:Nat)(lb:Array Value)(p:aM->Bool)(w:World)(hn:vals.length=n)(hl:n<=1099511627776)(ha:At w a (vals.flatMap aW))
 (eg:∀args w,(callFunc gf args).run Tryz.prog w=.ok (.enter gf args) w)
 (hcl:∀x∈vals,∀W,Bw w W->Cl gf (#[.agg #[ai x.1,aj x.2.1,ai x.2.2.1,ah x.2.2.2]]++lb) W λe w'=>e=.returned (aj (p x))/\Bw W w'):
 Cv 155 #[.slice a n cap,.func (.func gf) #[] lb] w (aj (vals.any p)):=by
 have h1:=Vv a n cap vals gf lb p w hn hl ha eg hcl;rw[<-afd p vals 0];generalize og p vals 0=i at*;have H1:=az h1;clear h1 hcl eg ha hn;have Hb:=hbz w;go_enter Tryz.func155,Tryz.ntmps155;go_wp2_with fail;refine aZ (Hb.an trivial) (H1.out) λw1 ag aC=>?_;have Hb:=ag.1;go_wp2;exact bodyPost_ret (v:=aj (decide (0<=i))) (by simp[results,Tryz.results155,go_sem,aC]) rfl ⟨rfl,dt⟩
def ar1 (a:Option Addr)(n cap:Nat)(vals:List Pv)(gf:Nat)(lb:Array Value)(p:Pv->Bool)(w:World)(hn:vals.length=n)(hl:n<=1099511627776)(ha:At w a (vals.flatMap nQ))
 (eg:∀args w,(callFunc gf args).run Tryz.prog w=.ok (.enter gf args) w)
 (hcl:∀x∈vals,∀W,Bw w W->Cl gf (#[.agg #[ah x.V,.slice x.a x.n x.c]]++lb) W λe w'=>e=.returned (aj (p x))/\Bw W w'):
 Cv 133 #[.slice a n cap,.func (.func gf) #[] lb] w (ah (og p vals 0)):=by
 obtain⟨Hn,Ha,gD,tv⟩:=dP hn ha hcl eg;clear hn ha hcl eg;have Hb:=hbz w;go_enter Tryz.func133,Tryz.ntmps133;go_wp2_with fail;go_loopw[5,8] (λ_ i wr=>∃k:Nat,k<=n/\i=ah (k:Int)/\og p vals 0=og p (vals.drop k) k/\Bw w wr) (λ_ i _=>n-(intOf i).toNat);case atStart=>exact⟨0,Nat.zero_le _,rfl,rfl,Hb.out⟩
 case round=>
  clear Hb;obtain⟨k,hk,rfl,iA,pb⟩:=hrel;obtain⟨pQ,Hb⟩:=aU iA pb;clear iA pb;by_cases hlt:k<n
  . have bj:k<vals.length:=by rw[Hn.out];exact hlt
    obtain⟨V,a1,n1,c1,hx⟩:∃V a1 n1 c1,vals[k]=⟨V,a1,n1,c1⟩:=⟨_,_,_,_,rfl⟩;obtain⟨b,o,hab,cn⟩:=(Ha.out.below Hb.out).aCp k bj hx;obtain⟨q0,q1⟩:=cn.w2;have bC:=zI n cap k (k:Int) hab hlt rfl;have hcall:=gD.out _ (List.getElem_mem bj) wr Hb.out;have hstep:=afe p vals k k bj;rw[<-pQ.out]at hstep;rw[hx]at hcall hstep;obtain⟨kO,rc⟩:=aU hstep hcall;have vZ:=tv.out;clear cn hab hx hstep hcall;go_wp2_with fail;refine rc.out.mono ?_;rintro e9 w1 ⟨rfl,hb1⟩;replace Hb:=az (aO Hb.out hb1);clear hb1 q0 q1 bC vZ;obtain⟨t,ht⟩:=aI (p ⟨V,a1,n1,c1⟩);rw[ht]at kO⊢;clear ht;cases t with
    |true=>go_wp2;refine bodyPost_ret (results_tmp rfl _ _ _) rfl ⟨?_,Hb.out⟩;have h:=kO.out;rw[if_pos (by trivial)]at h;rw[h];rfl
    | false=>
      go_wp2;go_roundw;case rel=>exact⟨k+1,by omega,by go_num,by have h:=kO.out;rw[if_neg zd]at h;exact h,Hb.out⟩
      case measure=>exact bH
  . obtain rfl:k=n:=by omega
    go_wp2;refine bodyPost_ret (results_tmp rfl _ _ _) rfl ⟨?_,Hb.out⟩;have h:=pQ.out;rw[List.drop_of_length_le (by rw[Hn.out];exact Nat.le_refl _)]at h;rw[h];rfl
def aoy (a:Option Addr)(n cap:Nat)(vals:List Pv)(gf:Nat)(lb:Array Value)(p:Pv->Bool)(w:World)(hn:vals.length=n)(hl:n<=1099511627776)(ha:At w a (vals.flatMap nQ))
 (eg:∀args w,(callFunc gf args).run Tryz.prog w=.ok (.enter gf args) w)
 (hcl:∀x∈vals,∀W,Bw w W->Cl gf (#[.agg #[ah x.V,.slice x.a x.n x.c]]++lb) W λe w'=>e=.returned (aj (p x))/\Bw W w'):
 Cv 95 #[.slice a n cap,.func (.func gf) #[] lb] w (aj (vals.any p)):=by
 have h1:=ar1 a n cap vals gf lb p w hn hl ha eg hcl;rw[<-afd p vals 0];generalize og p vals 0=i at*;have H1:=az h1;clear h1 hcl eg ha hn;have Hb:=hbz w;go_enter Tryz.func95,Tryz.ntmps95;go_wp2_with fail;refine aZ (Hb.an trivial) (H1.out) λw1 ag aC=>?_;have Hb:=ag.1;go_wp2;exact bodyPost_ret (v:=aj (decide (0<=i))) (by simp[results,Tryz.results95,go_sem,aC]) rfl ⟨rfl,dt⟩
end Go.Proofs.YtnjfebkelecgaaaGreatDoor
namespace Go.Proofs.YtnjfebkelecgaaaGreatDoor
def iX (m:List UInt8):List aM->Nat
 |[]=>0
 |x::l=>if Op.bytesLess x.1 m then iX m l+1 else 0
def amR (m:List UInt8)(l:List aM):iX m l<=l.length:=by
 induction l with
 |nil=>exact Nat.le_refl _
 |cons x l ih=>unfold iX;split<;>simp<;>omega
def ik (l:List aM)(x:aM):List aM:=match l with
 |[]=>[(x.1,canon (aJ x.2))]
 |y::l=>if Op.bytesLess y.1 x.1 then y::ik l x else if y.1=x.1 then(x.1,canon (aJ y.2+aJ x.2))::l else(x.1,canon (aJ x.2))::y::l
def agw (l:List aM)(x:aM):ik l x=l.take (iX x.1 l)++(if(l.drop (iX x.1 l)).head?.map (·.1)=some x.1 then(x.1,canon (aJ ((l.drop (iX x.1 l)).headD default).2+aJ x.2))::l.drop (iX x.1 l+1)else(x.1,canon (aJ x.2))::l.drop (iX x.1 l)):=by
 induction l with
 |nil=>simp[ik,iX]
 | cons y l ih=>
   unfold ik iX;by_cases h:Op.bytesLess y.1 x.1=true
   . rw[if_pos h,if_pos h,ih,show List.drop (iX x.1 l+1) (y::l)=List.drop (iX x.1 l) l from rfl,show List.drop (iX x.1 l+1+1) (y::l)=List.drop (iX x.1 l+1) l from rfl,List.take_succ_cons,List.cons_append]
   . rw[if_neg h,if_neg h];by_cases e:y.1=x.1
     . rw[if_pos e];simp[e]
     . rw[if_neg e];simp[e]
def aok (l:List aM)(x:aM)(m:List UInt8):cO (ik l x) m=cO l m+if x.1=m then aJ x.2 else 0:=by
 induction l with
 |nil=>simp only[ik,cO,cJ];grind
 | cons y l ih=>
   unfold ik;split
   . simp only[cO,ih];grind
   . split
     . rename_i h e
       simp only[cO,cJ,e];split<;>grind
     . simp only[cO,cJ];grind
def avd (l:List aM)(x:aM):∀y∈ik l x,y.1=x.1\/∃z∈l,z.1=y.1:=by
 induction l with
 |nil=>intro y hy;simp only[ik,List.mem_singleton]at hy;rw[hy];exact .inl rfl
 | cons z l ih=>
   intro y hy;unfold ik at hy;split at hy
   . rcases List.mem_cons.1 hy with rfl|hy
     . exact .inr ⟨y,by simp,rfl⟩
     . rcases ih y hy with h|⟨u,hu,e⟩
       . exact .inl h
       . exact .inr ⟨u,by simp[hu],e⟩
   . split at hy
     . rcases List.mem_cons.1 hy with rfl|hy
       . exact .inl rfl
       . exact .inr ⟨y,by simp[hy],rfl⟩
     . rcases List.mem_cons.1 hy with rfl|hy
       . exact .inl rfl
       . exact .inr ⟨y,hy,rfl⟩
def avg (l:List aM)(x:aM)(h:Up l):Up (ik l x):=by
 induction l with
 |nil=>exact List.pairwise_singleton _ _
 | cons y l ih=>
   obtain⟨h1,h2⟩:=List.pairwise_cons.1 h;unfold ik;split
   . rename_i hy
     refine List.pairwise_cons.2 ⟨λz hz=>?_,ih h2⟩;rcases avd l x z hz with e|⟨u,hu,e⟩
     . rw[e];exact hy
     . rw[<-e];exact h1 u hu
   . rename_i hy
     split
     . rename_i e
       refine List.pairwise_cons.2 ⟨λz hz=>?_,h2⟩;show Op.bytesLess x.1 z.1=true
       rw[<-e];exact h1 z hz
     . rename_i e
       have hlt:Op.bytesLess x.1 y.1=true:=by
        cases hc:Op.bytesLess x.1 y.1 with
        |true=>rfl
        |false=>exact absurd (Gu (by simpa using hy) hc) e
       refine List.pairwise_cons.2 ⟨λz hz=>?_,h⟩;show Op.bytesLess x.1 z.1=true
       rcases List.mem_cons.1 hz with rfl|hz
       . exact hlt
       . exact Dh hlt (h1 z hz)
def avc (l:List aM)(x:aM):(ik l x).length<=l.length+1:=by
 induction l with
 |nil=>exact Nat.le_refl _
 | cons y l ih=>
   unfold ik;split
   . simp only[List.length_cons];omega
   . split<;>simp
def iQ (l:List aM):List aM:=l.foldl ik []
def ED (l:List aM)(x:aM):iQ (l++[x])=ik (iQ l) x:=by unfold iQ;rw[List.foldl_append];rfl
def Kn {Q:List aM->Prop}(h0:Q [])(h1:∀l x,Q l->Q (l++[x]))(l:List aM):Q l:=by
 have h:∀r:List aM,Q r.reverse:=by
  intro r;induction r with
  |nil=>exact h0
  |cons x r ih=>rw[List.reverse_cons];exact h1 _ _ ih
 have:=h l.reverse;rwa [List.reverse_reverse]at this
def avk (l:List aM):Up (iQ l):=Kn (Q:=λl=>Up (iQ l)) List.Pairwise.nil (λl x ih=>by rw[ED];exact avg _ _ ih) l
def aol (l:List aM)(m:List UInt8):cO (iQ l) m=cO l m:=Kn (Q:=λl=>cO (iQ l) m=cO l m) rfl (λl x ih=>by rw[ED,aok,ih,AZ];simp only[cO];grind) l
def avi (l:List aM):(iQ l).length<=l.length:=Kn (Q:=λl=>(iQ l).length<=l.length) (Nat.le_refl _) (λl x ih=>by rw[ED];have:=avc (iQ l) x;simp;omega) l
def avb (l:List aM)(x:aM)(h:∀t∈l,t.2=canon (aJ t.2)):∀t∈ik l x,t.2=canon (aJ t.2):=by
 have hc:∀X:Dyadic,canon X=canon (aJ (canon X)):=λX=>by rw[cJ]
 induction l with
 |nil=>intro t ht;simp only[ik,List.mem_singleton]at ht;rw[ht];exact hc _
 | cons y l ih=>
   intro t ht;unfold ik at ht;split at ht
   . rcases List.mem_cons.1 ht with rfl|ht
     . exact h _ zm
     . exact ih (λt ht=>h t (by simp[ht])) t ht
   . split at ht
     . rcases List.mem_cons.1 ht with rfl|ht
       . exact hc _
       . exact h t (by simp[ht])
     . rcases List.mem_cons.1 ht with rfl|ht
       . exact hc _
       . exact h t ht
def agA (l:List aM):∀t∈iQ l,t.2=canon (aJ t.2):=Kn (Q:=λl=>∀t∈iQ l,t.2=canon (aJ t.2)) (λt ht=>by cases ht) (λl x ih=>by rw[ED];exact avb _ _ ih) l
def ap1 (l:List aM):(iQ l).filter iG=bW l:=by refine abL ⟨List.Pairwise.filter _ (avk l),λx hx=>?_⟩ (Dl l) (λm=>by rw[aaW,aol,uZ]);obtain⟨h1,h2⟩:=List.mem_filter.1 hx;refine⟨(Bc _).1 ?_,agA l x h1⟩;unfold iG at h2;simpa using h2
end Go.Proofs.YtnjfebkelecgaaaGreatDoor
namespace Go.Proofs.YtnjfebkelecgaaaGreatDoor
open Go.RowKit
attribute [local go_sem ↓] Go.wp_at_zero Go.wp_at_succ
def afl (s:Bool)(l:List UInt8)(k:Nat):(nt (iv s l^k).natAbs).length<=l.length*k+1:=by refine jo (Nat.lt_of_le_of_lt (m:=256^(l.length*k)) ?_ (Nat.pow_lt_pow_right zd (Nat.lt_succ_self _)));rw[Int.natAbs_pow,oh,Nat.pow_mul];exact Nat.pow_le_pow_left (Nat.le_of_lt (gw l)) k
def aye (s:Bool)(l:List UInt8)(n:Nat)(Z:Int)(hZ:iv s l^n=Z)(w:World)(hl:l.length*n<=1000000000)(hl':l.length<=1000000000)(hn:n<=1000000):
 Cv 71 #[.agg #[aj s,ai l],ah (n:Int)] w (dx Z):=by
 have HZ:=az hZ;clear hZ;have ya:Hid (∀k,k<=n->(nt (iv s l^k).natAbs).length<=1000000001):=λk hk=>by have:=afl s l k;have:=Nat.mul_le_mul_left l.length hk;omega
 clear hl;obtain⟨one,hone⟩:∃one:Int,1=one:=⟨_,rfl⟩;have rV:=az hone;clear hone;obtain⟨W,cP,ag,aC⟩:=jq w 46 [aj s,ai l] 46 [aj false,.string ⟨#[]⟩];go_enter Tryz.func71,Tryz.ntmps71;go_wp2_with fail;refine aZ ag (Pm 1 one rV.out _ zo zo) λw1 ag aC=>?_;go_wp2_with fail;refine aZ ag (EN (nt one.natAbs) (aK one) _) λw2 ag aC=>?_;have arP:w.heap.size+1<w2.heap.size:=ag.2.2.1.out.lt;have hmx:max (n:Int) 0=n:=by omega
 have bi:=qL ag;go_wp2_with fail;refine il w2 ag 133 [ai (nt one.natAbs),aj (aK one)] λW2 bi ag aC=>?_
 go_loopw[10] (λi wr=>∃(k:Nat) (t:Bool),k<=n/\i=ah k/\iv t (nt (iv s l^k).natAbs)=iv s l^k/\aH wr w.heap.size 46 [aj s,ai l]/\aH wr (w.heap.size+1) 46 [aj false,.string ⟨#[]⟩]/\
  aH wr w2.heap.size 133 [ai (nt (iv s l^k).natAbs),aj t]/\Bw w wr) (λi _=>n-(intOf i).toNat)
 case atStart=>
  have e:iv s l^0=one:=by rw[Int.pow_zero];exact rV.out
  refine⟨0,aK one,Nat.zero_le _,rfl,?_,ag.2.2.1.out,ag.2.2.2.1.out,?_,ag.2.1.out⟩
  . rw[e];exact gu one
  . rw[e];exact ag.1.out
 case round=>
  obtain⟨k,t,hk,rfl,rF,qa,qr,qo,hb⟩:=hrel;obtain⟨Ha,Hr,Ho,Hb,lI⟩:=fH qa qr qo hb rF;clear qa qr qo hb rF;by_cases hlt:k<n
  . have cu:Hid (iv s l^(k+1)=iv s l^k*iv s l):=Int.pow_succ ..;have gU:=az (ya.out k hk);generalize hS:iv s l^k=S at*;have HS:=az hS;clear hS;obtain⟨ag,aC⟩:=qZ (Ha.an<|Hr.an<|Ho.an trivial);go_wp2_with fail;have ag:=Hb.an ag;refine dG 4 ag (dD 5 0x806040301) ?_;refine bU ?_;refine cz ag (EN l s _) λw3 ag=>?_;refine cz ag (ahA (nt S.natAbs) l t s _ (by have:=gU.out;omega) zo) λw4 ag=>?_;have aC:=qC ag;refine qOp λK hK=>?_;go_simp;refine hK _ _ (λh=>absurd h zd) ?_;try simp only[UU]
    refine cL (bG w4 (w2.heap.size) 0 [ai (nt (nv (nt S.natAbs) *nv l)),aj (!(t==s))]) bM ?_;intro W5 hs0;have ag:=cH hs0 ag;simp only[cB,List.set]at ag;have aC:=qC ag;refine dF ag λaC=>?_;have hq:=afm t (nt S.natAbs) s l;rw[lI.out,<-cu.out]at hq;have hq2:nv (nt S.natAbs) *nv l=(iv s l^(k+1)).natAbs:=by rw[cu.out,Int.natAbs_mul,oh,jp]
    have Ho:=ag.2.2.2.1;rw[hq2]at hq Ho;have Hq:=az hq;clear hq hq2;skip
    go_wp2;go_roundw;case rel=>exact⟨k+1,_,by omega,by go_num,Hq.out,ag.2.1.out,ag.2.2.1.out,Ho.out,ag.1.out⟩
    case measure=>exact bH
  . obtain rfl:k=n:=by omega
    have gU:=ya.out k hk;rw[HZ.out]at Ho lI gU;obtain⟨ag,aC⟩:=qZ (Ha.an<|Hr.an<|Ho.an trivial);go_wp2_with fail;refine aZ (Hb.an ag) (xD (nt Z.natAbs) t _ zo) λw3 ag aC=>?_;rw[lI.out];have Hb:=ag.1;have r0:w3.cell? ⟨w.heap.size+1,0,none⟩=some (aj false):=ag.2.2.1.out.cell 0;have r1:w3.cell? ⟨w.heap.size+1,1,none⟩=some (.string ⟨#[]⟩):=ag.2.2.1.out.cell 1;go_wp2;exact bodyPost_ret (v:=dx Z) (by simp[results,Tryz.results71,go_sem,r0,r1,aC]) rfl ⟨rfl,dt⟩
def avm (D:Dyadic)(n:Nat):aJ (aK (dN D^n),nt (dN D^n).natAbs,dE D* (n:Int))=zZ D n:=by
 rw[yH];induction n with
 |zero=>rw[Int.pow_zero,Int.natCast_zero,Int.mul_zero];show Dyadic.ofIntWithPrec 1 (-0)=1;decide+kernel
 |succ n ih=>rw[zZ,<-ih];have h:=uA D;rw[show Dyadic.ofIntWithPrec (dN D^n) (-(dE D*n)) *D=Dyadic.ofIntWithPrec (dN D^n) (-(dE D*n)) *Dyadic.ofIntWithPrec (dN D) (-(dE D))by rw[<-h],zW,Int.pow_succ];congr 1;rw[Int.natCast_add,Int.mul_add];omega
def aoL (s:Bool)(l:List UInt8)(e:Int)(n:Nat)(D D':Dyadic)(B:Nat)(hD:aJ (s,l,e)=D)(hD':zZ D n=D')(w:World)(hx:Fit B (s,l,e))(hB:B<=100000)(hn:n<=1000)(hT:aR w):
 Cv 25 #[.agg #[aj s,ai l,ah e],ah (n:Int)] w (cw D'):=by
 have hsm:=hx.2;rw[hD]at hsm;obtain⟨p1,p2,p3⟩:=hsm.parts;have hlen:(nt (dN D).natAbs).length<=B:=ll p1 zo;have BC:aJ (aK (dN D^n),nt (dN D^n).natAbs,dE D* (n:Int))=D':=by rw[avm,hD']
 have au:B*n<=100000*1000:=Nat.mul_le_mul hB hn;obtain⟨Z,hZ⟩:=aI (dN D^n);have vq:(nt Z.natAbs).length<=1000000001:=by have:=afl (aK (dN D)) (nt (dN D).natAbs) n;rw[gu,hZ]at this;have:=Nat.mul_le_mul_right n hlen;omega
 have he: -1099511627776<=dE D* (n:Int)/\dE D* (n:Int)<=1099511627776:=by
  have h1:(dE D* (n:Int)).natAbs<=100000*1000:=by rw[Int.natAbs_mul];exact Nat.mul_le_mul zo zo
  omega
 rw[hZ]at BC;obtain⟨E,hE⟩:=aI (dE D* (n:Int));rw[hE]at BC he;have hpw:=λW=>aye (aK (dN D)) (nt (dN D).natAbs) n Z (by rw[gu];exact hZ) W (by have:=Nat.mul_le_mul_right n hlen;omega) zo zo;have QP:=az hpw;have lK:Hid (∀W,aR W->Cv 59 #[.agg #[aj (aK Z),ai (nt Z.natAbs)],ah E] W (cw D')):=λW hW=>zL (aK Z) (nt Z.natAbs) E D' BC W zo he hW;obtain⟨HD,Hx⟩:=aU hD hx.1;have hwr:IntKind.i64.wrap (dE D*max (n:Int) 0)=E:=by rw[show max (n:Int) 0=n by omega,hE,IntKind.wrap_i64];omega
 have hmx:max (n:Int) 0=n:=by omega
 have aAG:IntKind.i64.wrap (dE D* (n:Int))=E:=by rw[hE,IntKind.wrap_i64];omega
 clear hpw BC vq he hE hlen p1 p2 p3 hsm hx hD hD' au hZ;obtain⟨W,cP,ag,aC⟩:=jq w 48 [aj s,ai l,ah e] 48 [aj false,.string ⟨#[]⟩,ah 0];go_enter Tryz.func25,Tryz.ntmps25;go_wp2_with fail;refine aZ ag (sw s l e D HD.out _ Hx.out (qU (hT.below ag.1.out))) λw1 ag aC=>?_;go_wp2_with fail;first|refine eO (bG w1 (w.heap.size) 0 (bY D)) bM ?_|refine fB (bG w1 (w.heap.size) 0 (bY D)) bM ?_
 intro W1 hs0;have ag:=cH hs0 ag;simp only[cB,List.set]at ag;have aC:=qC ag;refine dG 10 ag (dD 11 0x141206110f0d0b09050301) ?_;refine bU ?_;refine cz ag (QP.out _) λw2 ag=>?_;refine cz ag (lK.out _ (qU (hT.below ag.1.out))) λw3 ag=>?_;have aC:=qC ag;refine qOp λK hK=>?_;go_simp;refine hK _ _ (λh=>absurd h zd) ?_;try simp only[UU]
 refine cL (bG w3 (w.heap.size+1) 0 [aj (aK (dN D')),ai (nt (dN D').natAbs),ah (dE D')]) bM ?_;intro W4 hs0;have ag:=cH hs0 ag;simp only[cB,List.set]at ag;have aC:=qC ag;refine dF ag λaC=>?_;have Hb:=ag.1;have r0:W4.cell? ⟨w.heap.size+1,0,none⟩=some (aj (aK (dN D'))):=ag.2.2.1.out.cell 0;have r1:W4.cell? ⟨w.heap.size+1,1,none⟩=some (ai (nt (dN D').natAbs)):=ag.2.2.1.out.cell 1;have r2:W4.cell? ⟨w.heap.size+1,2,none⟩=some (ah (dE D')):=ag.2.2.1.out.cell 2;go_wp2;exact bodyPost_ret (v:=cw D') (by simp[results,Tryz.results25,go_sem,r0,r1,r2,aC]) rfl ⟨rfl,dt⟩
end Go.Proofs.YtnjfebkelecgaaaGreatDoor
