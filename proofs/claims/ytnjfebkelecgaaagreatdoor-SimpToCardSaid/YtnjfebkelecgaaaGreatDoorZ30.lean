/- Package tri: linear. -/
import Derived.Test.YtnjfebkelecgaaaGreatDoorZ7
import Derived.Test.YtnjfebkelecgaaaGreatDoorZ29
import Derived.Test.YtnjfebkelecgaaaGreatDoorZ15
set_option linter.all false
set_option maxRecDepth 100000
set_option maxHeartbeats 16000000
namespace Go.Proofs.YtnjfebkelecgaaaGreatDoor
open Go.RowKit
attribute [local go_sem ↓] Go.wp_at_zero Go.wp_at_succ
def GJ {V B:Nat}{l:List aM}(hV:V<=12)(hm:∀t∈l,eN t.1 V=true)(hl:l.length<=4096)(hs:∀x∈l,Sm B (aJ x.2))(hB:B+l.length<=268435456):ir V (B+l.length) (bW l):=by refine⟨aoa hV hm hl,λt ht=>?_⟩;have h1:=aob hs t ht;have h2:=((Dl l).2 t ht).2;rw[h2];exact h1.fit hB
def ir.mono {V B B':Nat}{ts:List aM}(h:ir V B ts)(hB:B<=B'):ir V B' ts:=⟨h.1,λt ht=>(h.2 t ht).mono hB⟩
def Oh {V B:Nat}{c:Dyadic}{l:Nat->Dyadic}{k:Nat}(hV:V<=12)(hk:k<=V)(hc:Sm B c)(hl:∀j,j<k->Sm B (l j))(hB:B+13<=268435456):ir V (B+13) (dL V c l k):=by have h:=GJ (B:=B) hV (VE V c l k) (by rw[JL];omega) (asG V c l k hc hl) (by rw[JL];omega);rw[JL]at h;exact h.mono zo
def Ph {V B:Nat}{k:Nat}{x:Dyadic}(hV:V<=12)(hx:Sm B x)(hB:B+1<=268435456):ir V (B+1) (bW [(dV V k,canon x)]):=
 GJ (l:=[(dV V k,canon x)]) hV (by intro t ht;simp at ht;subst ht;exact Kq V k) zm (by intro t ht;simp at ht;subst ht;show Sm B (aJ (canon x));rw[cJ];exact hx) (by simpa using hB)
def awI (V k:Nat)(x:Dyadic):bW (eu x (bW [(dV V k,canon 1)]))=bW [(dV V k,canon x)]:=by refine Dk (λm=>?_);rw[aaZ,uZ];simp only[cO,cJ];split<;>grind
def amn (V B:Nat)(A D C:List aM)(aA aD:Option Addr)(cA cD:Nat)(w:World)(b:Nat)(hb:aH w b 24 [ah (V:Int),.slice aA A.length cA,ah (V:Int),.slice aD D.length cD])(hA:yw w aA cA A)(hD:yw w aD cD D)(Ue:ir V B A)(Uf:ir V B D)(hn:A.length+D.length<=4096)(hB:B+2+8192<=268435456)(hT:aR w)(hC:bW (A++D)=C):
 Cl 17 #[.slice (some ⟨b,0,none⟩) 2 2] w λex w'=>∃a' c',ex=.returned (.tuple #[.agg #[ah (V:Int),.slice a' C.length c'],ah 0])/\bI w' a' c' C/\Bw w w':=by
 refine aun V B b 0 2 2 [⟨V,aA,A.length,cA⟩,⟨V,aD,D.length,cD⟩] (λk=>if k=0 then A else D) C w rfl zd zd (At.aCi hb) ?_ ?_ hB hT ?_
 . intro k hk;rcases k with _|k
   . exact⟨aA,cA,rfl,hA,Ue⟩
   . obtain rfl:k=0:=by simp at hk;omega
     exact⟨aD,cD,rfl,hD,Uf⟩
 . simp[oQ];omega
 . simpa[oQ]using hC
def RI (V B:Nat)(A D C:List aM)(aA aD:Option Addr)(cA cD:Nat)(w:World)(b:Nat)(hb:aH w b 24 [ah (V:Int),.slice aA A.length cA,ah (V:Int),.slice aD D.length cD])(hA:bI w aA cA A)(hD:bI w aD cD D)(Ue:ir V B A)(Uf:ir V B D)(hn:A.length+D.length<=4096)(hB:B+2+8192<=268435456)(hT:aR w)(hC:bW (A++D)=C):
 Cl 17 #[.slice (some ⟨b,0,none⟩) 2 2] w λex w'=>∃a' c',ex=.returned (.tuple #[.agg #[ah (V:Int),.slice a' C.length c'],ah 0])/\bI w' a' c' C/\Bw w w':=amn V B A D C aA aD cA cD w b hb hA.w hD.w Ue Uf hn hB hT hC
def asK (V B:Nat)(c:Dyadic)(L:List Dyadic)(l:Nat->Dyadic)(a:Option Addr)(cap:Nat)(w:World)(hV:V<=12)(hL:L.length=V)(hl:∀k (h:k<L.length),l k=L[k])(hcs:Sm B c)(hls:∀x∈L,Sm B x)(hB:B<=100000000)(ha:At w a (dC L))(hT:aR w):
 Cl 116 #[.agg #[aj (aK (dN c)),ai (nt (dN c).natAbs),ah (dE c)],.slice a V cap] w λex w'=>∃a' c',ex=.returned (.tuple #[.agg #[ah (V:Int),.slice a' (dL V c l V).length c'],ah 0])/\bI w' a' c' (dL V c l V)/\Bw w w':=by
 have hcn:=λW (hW:Bw w W)=>Mj V (aK (dN c)) (nt (dN c).natAbs) (dE c) c B l W hV (hcs.fit zo) zo (hT.below hW) (cJ c);have Ei:=λk (hk:k<V) W (hW:Bw w W)=>ax1 V k W hV hk (hT.below hW);have hlk:∀k,k<V->Sm B (l k):=λk hk=>by rw[hl k zo];exact hls _ (List.getElem_mem _)
 have hsc:=λk (hk:k<V) a' c' (W:World) (hW:Bw w W) (hp:bI W a' c' (bW [(dV V k,canon 1)]))=>ag6 V a' c' (bW [(dV V k,canon 1)]) (aK (dN (l k))) (nt (dN (l k)).natAbs) (dE (l k)) (l k) (B+2) W (Ph (B:=B+1) hV (Sm.one.mono zo) zo) hp (((hlk k hk).mono zo).fit zo) zo (hT.below hW) (cJ _);simp only[awI]at hsc;have had:=λk (hk:k<V) aA cA aD cD (W:World) (hW:Bw w W) b (hb:aH W b 24 [ah (V:Int),.slice aA (dL V c l k).length cA,ah (V:Int),.slice aD (bW [(dV V k,canon (l k))]).length cD]) (hA:bI W aA cA (dL V c l k)) (hD:bI W aD cD (bW [(dV V k,canon (l k))]))=>RI V (B+13) (dL V c l k) (bW [(dV V k,canon (l k))]) (dL V c l (k+1)) aA aD cA cD W b hb hA hD (Oh hV zo hcs (λj hj=>hlk j zo) zo) ((Ph (B:=B) hV (hlk k hk) zo).mono zo) (by have h1:=Dm (gS V c l k);have h2:=Dm [(dV V k,canon (l k))];rw[JL]at h1;simp at h2;unfold dL;omega) zo (hT.below hW) (asI V c l k);obtain⟨n0,hn0⟩:=aI ((dL V c l 0).length);rw[hn0]at hcn;obtain⟨rf,Hvr,kN,qW,Hl,HL,Ha,nS⟩:=om hcn Ei hsc had hl hL ha hn0;clear hcn Ei hsc had hl hL ha hT hlk hls hcs hn0;have Hb:=hbz w;go_enter Tryz.func116,Tryz.ntmps116;go_wp2_with fail;refine mC w (Hb.an trivial) 48 (bY c) 24 [ah 0,.slice none 0 0] λW bi ag aC=>?_;go_wp2_with fail;refine(rf.out _ ag.2.2.1.out).mono ?_;rintro e w1 ⟨a1,d1,rfl,hp1,au⟩;obtain⟨ag,aC⟩:=qX au ag;obtain⟨Hc,Hr,Hb,_⟩:=ag;obtain⟨c0,c1,c2⟩:=Hc.out.c3;obtain⟨r0,bo,r1,bz⟩:=Hr.out.g2;have CN:=Hc;have jw:=Hr;have dM:=Hb;have kK:=az hp1;clear hp1;obtain⟨W2,nV,bi,ag,aC⟩:=cM w1 (Hb.an<|Hc.an<|Hr.an trivial) 24 [ah (V:Int),.slice a1 n0 d1];have yi:Hid (bI W2 a1 d1 (dL V c l 0)):=kK.out.below (by first|exact zl| (rw[<-nV];exact zl));have XI:Hid (Bw w1 W2):=by rw[<-nV];exact zl
 go_wp2_with fail;go_loopw[7,8] (λs7 x wr=>∃(k:Nat) (a':Option Addr) (n' c':Nat),k<=V/\x=ah (k:Int)/\s7=ah 0/\(dL V c l k).length=n'/\aH wr w1.heap.size 24 [ah (V:Int),.slice a' n' c']/\bI wr a' c' (dL V c l k)/\Bw w1 wr) (λ_ x _=>V-(intOf x).toNat);case atStart=>exact⟨0,a1,n0,d1,Nat.zero_le _,rfl,rfl,nS.out,ag.1.out,yi.out,XI.out⟩
 case round=>
  clear yi XI kK;obtain⟨k,a',n',c',hk,rfl,rfl,hn,ho,hp,pb⟩:=hrel;obtain⟨Ho,Hp,aX,Hn⟩:=dP ho hp pb hn;have bE:=dM.out;have fQ:=pb.size;have vN:=bE.size;by_cases hlt:k<V
  . have Ut:k<(L.map canon).length:=by rw[List.length_map,HL.out];exact hlt
    have hat':=Ha.out.below (aO dM.out pb);rw[sk]at hat';obtain⟨X,hX⟩:=aI (l k);obtain⟨bx,ox,rfl,p0,p1,p2⟩:=hat'.num k Ut (show(L.map canon)[k]=(jP X)by rw[<-hX,Hl.out k (by simpa using Ut)];simp;rfl);have ixx:=nD V cap k (k:Int) (rfl:(some ⟨bx,ox,none⟩:Option Addr)=_) hlt rfl;have lbx:bx<wr.heap.size:=World.block_lt_of_cell? wr _ p0;have Ei:=Hvr.out k hlt;have hsc:=kN.out k hlt;have had:=qW.out k hlt;rw[hn,hX]at had;rw[hX]at hsc;obtain⟨n1,iB⟩:∃n,(bW [(dV V k,canon 1)]).length=n:=⟨_,rfl⟩;obtain⟨n2,iO⟩:∃n,(bW [(dV V k,canon X)]).length=n:=⟨_,rfl⟩;obtain⟨n3,BN⟩:∃n,(dL V c l (k+1)).length=n:=⟨_,rfl⟩;rw[iO,BN]at had;rw[iB,iO]at hsc;rw[iB]at Ei;obtain⟨pW,Rb,PN,Hn3⟩:=dP Ei hsc had BN;have Hx:Hid (bA wr bx (ox+k*3) (bY X)):=iR p0 p1 p2;have dO:=az (aO dM.out pb);clear Ei hsc had iB iO BN hat' Ut hX p0 p1 p2 ho hp pb hn bE;have Hb:=hbz wr;have hlo:=Ho.out.lt;obtain⟨ag,aC⟩:=qZ (Ho.an<|Hx.an trivial);go_wp2_with fail;refine(pW.out _ (aO dO.out Hb.out)).mono ?_;rintro e w3 ⟨a3,d3,rfl,sJ,au⟩;obtain⟨ag,aC⟩:=qX au (Hb.an ag);have rX:=az sJ;have EJ:=ag.1.out.size;clear sJ;obtain⟨W4,rD,bi,ag,aC⟩:=cM w3 ag 24 [ah (V:Int),.slice a3 n1 d3];have HQ:Hid (bI W4 a3 d3 (bW [(dV V k,canon 1)])):=rX.out.below (by first|exact zl| (rw[<-rD];exact zl));go_wp2_with fail;obtain⟨Hv,Hb,Ho,Hx,_⟩:=ag;obtain⟨o0,Be,o1,Bf⟩:=Ho.out.g2;obtain⟨x0,x1,x2⟩:=Hx.out.w3;obtain⟨v0,fv0,v1,fv1⟩:=Hv.out.g2;refine ez (λw'=>aV w' bx (ox+k*3) (aj (aK (dN X)))/\aV w' bx (ox+k*3+1) (ai (nt (dN X).natAbs))/\aV w' bx (ox+k*3+2) (ah (dE X))) (λi=>Nat.blt i 100000) [(1,true),(2,true),(3,true),(4,true),(0,false),(5,false),(6,true),(7,true),(8,true),(9,false)] zk zk rfl zk zc ⟨x0,x1,x2⟩ ?_;iterate 4 (refine pT rfl rfl ?_ (by intro w' ⟨q0,q1,q2⟩;go_simp;try with_reducible rfl);try simp only[UU])
    refine aY rfl rfl (λK hK=>?_);go_simp;refine hK _ _ (λ_=>⟨x0,x1,x2⟩) ?_;try simp only[UU]
    refine aY rfl rfl (λK hK=>?_);go_simp;with_reducible refine(Rb.out a3 d3 _ (by first|exact aO dO.out Hb.out|exact aO dO.out Hb.out.drew) (by first|exact HQ.out|exact HQ.out.below (Below.refl _ _).drew)).mono ?_
    rintro e w5 ⟨a5,d5,rfl,UO,hq⟩;have au:Bw W4 w5:=by first|exact hq|exact df hq
    replace Ho:=kB Ho au;replace Hx:=kW Hx au;replace Hv:=kB Hv au;replace HQ:=az (HQ.out.below au);obtain⟨o0,Be,o1,Bf⟩:=Ho.out.g2;obtain⟨x0,x1,x2⟩:=Hx.out.w3;obtain⟨v0,fv0,v1,fv1⟩:=Hv.out.g2;replace Hb:=bD Hb au;refine hK _ _ (λ_=>⟨x0,x1,x2⟩) ?_;try simp only[UU]
    iterate 3 (refine pT rfl rfl ?_;try simp only[UU])
    refine aY rfl rfl (λK hK=>?_);go_simp;refine hK _ _ (by first|exact λh=>absurd h zd|exact λ_=>⟨x0,x1,x2⟩ |exact λ_=>⟨(by first|exact x0|exact aQ zf x0|exact aQ zf (aQ zf x0) |exact aQ zf (aQ zf (aQ zf x0))),(by first|exact x1|exact aQ zf x1|exact aQ zf (aQ zf x1) |exact aQ zf (aQ zf (aQ zf x1))),(by first|exact x2|exact aQ zf x2|exact aQ zf (aQ zf x2) |exact aQ zf (aQ zf (aQ zf x2)))⟩) ?_;try simp only[UU]
    simp only[bP];have BZ:=Hv.out;generalize Il:(w5.setCell ⟨w3.heap.size,0,none⟩ (ah (V:Int))).setCell ⟨w3.heap.size,1,none⟩ (.slice a5 n2 d5)=W6;have hp6:bI W6 a5 d5 (bW [(dV V k,canon X)]):=by rw[<-Il];exact UO.store BZ zd _ _
    have Jd:aH W6 w1.heap.size 24 [ah (V:Int),.slice a' n' c']:=by rw[<-Il];exact(Ho.out.so w3.heap.size 0 zo _).so w3.heap.size 1 zo _
    have dw:aH W6 w3.heap.size 24 [ah (V:Int),.slice a5 n2 d5]:=by rw[<-Il];exact(BZ.set 0 _).set 1 _
    have wY:Bw wr W6:=by rw[<-Il];exact(Hb.out.setCell EJ _).setCell EJ _
    replace Ho:=az Jd;replace Hv:=az dw;replace Hb:=az wY;have Hp6:=az hp6;clear Jd dw wY hp6 UO BZ Il o0 o1 Be Bf v0 v1 fv0 fv1 x0 x1 x2;obtain⟨ag,aC⟩:=qZ (Ho.an<|Hv.an trivial);have v0:W6.cell? ⟨w3.heap.size,0,none⟩=some (ah (V:Int)):=ag.2.1.out.cell 0;have o1:W6.cell? ⟨w1.heap.size,1,none⟩=some (.slice a' n' c'):=ag.1.out.cell 1;have o0:W6.cell? ⟨w1.heap.size,0,none⟩=some (ah (V:Int)):=ag.1.out.cell 0;have v1:W6.cell? ⟨w3.heap.size,1,none⟩=some (.slice a5 n2 d5):=ag.2.1.out.cell 1;have P0:=o0;have P1:=o1;have Q0:=v0;have Q1:=v1;obtain⟨W7,DL,bi,ag,aC⟩:=cM W6 (Hb.an ag) 24 [ah (V:Int),.slice a' n' c',ah (V:Int),.slice a5 n2 d5];have HP:Hid (bI W7 a' c' (dL V c l k)):=Hp.out.below ag.2.1.out;have HS:Hid (bI W7 a5 d5 (bW [(dV V k,canon X)])):=Hp6.out.below (by first|exact zl| (rw[<-DL];exact zl));go_wp2_with fail;go_wp2_with fail;refine(PN.out _ _ _ _ _ (aO dO.out ag.2.1.out) _ ag.1.out HP.out HS.out).mono ?_;rintro e w8 ⟨a8,d8,rfl,zz,au⟩;obtain⟨ag,aC⟩:=qX au (HP.an<|HS.an ag);have jX:=bI.store zz ag.2.2.2.2.1.out zd (ah (V:Int)) (.slice a8 n3 d8);obtain⟨Lm,iU⟩:=aU jX (aO aX.out ag.2.2.2.1.out);clear zz jX;go_wp2;go_roundw;case rel=>exact⟨k+1,a8,n3,d8,by omega,by go_num,rfl,Hn3.out,(ag.2.2.2.2.1.out.set 0 _).set 1 _,Lm.out,(iU.out.setCell (Nat.le_refl _) _).setCell (Nat.le_refl _) _⟩
    case measure=>exact bH
  . obtain rfl:k=V:=by omega
    have Hr:=az (jw.out.below aX.out);have Hb:Hid (Bw w wr):=aO dM.out aX.out;have hsz:=jw.out.lt;obtain⟨ag,aC⟩:=qZ (Ho.an<|Hr.an trivial);go_wp2;have dS:=Hp.out.store ag.2.1.out zd (ah (k:Int)) (.slice a' n' c');refine eH (λw9=>bI w9 a' c' (dL k c l k)/\aH w9 (w.heap.size+1) 24 [ah (k:Int),.slice a' n' c']/\Bw w w9) ⟨dS,(ag.2.1.out.set 0 _).set 1 _,(Hb.out.setCell zp _).setCell zp _⟩ ?_;rintro w9 ⟨q1,q2,q3⟩;obtain⟨x0,x1⟩:=q2.c2;exact bodyPost_ret (v:=.tuple #[.agg #[ah (k:Int),.slice a' n' c'],ah 0]) (by simp[results,Tryz.results116,go_sem,x0,x1]) rfl ⟨a',c',by rw[hn],q1,q3⟩
end Go.Proofs.YtnjfebkelecgaaaGreatDoor
namespace Go.Proofs.YtnjfebkelecgaaaGreatDoor
open Go.RowKit
def sM (n:Nat)(P:Nat->Nat->Dyadic)(i:Nat):List aM:=dL n (wC n P i) (λk=>mV n P k i) n
def Cm (n:Nat)(P:Nat->Nat->Dyadic)(i:Nat):List aM:=bW (eu (-1) (sM n P i))
def oV (n:Nat)(P:Nat->Nat->Dyadic)(i:Nat):List aM:=dL n (wZ n P (λ_=>0) i) (λb=>lZ n P b i) n
def jz (n:Nat)(P:Nat->Nat->Dyadic)(i j:Nat):List aM:=if j=0 then oV n P i else sM n P (j-1)
def oU (n:Nat)(P:Nat->Nat->Dyadic)(i k:Nat):List Dyadic:=(List.range k).map λk=>mV n P k i
def an5 (n:Nat)(P:Nat->Nat->Dyadic)(i k:Nat):(oU n P i k).length=k:=by simp[oU]
def an4 (n:Nat)(P:Nat->Nat->Dyadic)(i k j:Nat)(h:j<(oU n P i k).length):(oU n P i k)[j]=mV n P j i:=by simp[oU]
def an6 (n:Nat)(P:Nat->Nat->Dyadic)(i k:Nat):oU n P i (k+1)=oU n P i k++[mV n P k i]:=by unfold oU;rw[List.range_succ,List.map_append];rfl
def aya (n:Nat)(P:Nat->Nat->Dyadic)(i k:Nat):wS n P (λ_=>0) i k-P 0 k*mV n P k i=wS n P (λ_=>0) i (k+1):=by
 show _=wS n P (λ_=>0) i k+(0-P 0 k) *mV n P k i
 grind
def apC (n:Nat)(P:Nat->Nat->Dyadic)(l:Nat->Dyadic):dL n (wZ n P (λ_=>0) 0) l 0=oV n P 0:=by
 unfold oV dL;refine Dk (λm=>?_);have h:∀k,cO (gS n (wZ n P (λ_=>0) 0) (λb=>lZ n P b 0) k) m=cO (gS n (wZ n P (λ_=>0) 0) l 0) m:=by
  intro k;induction k with
  |zero=>rfl
  |succ k ih=>rw[Mi,ih];simp[lZ]
 exact(h n).symm
def apB (n:Nat)(hn:1<=n)(dv:n<=4)(P:Nat->Nat->Dyadic)(i:Nat)(hi:i<n):bW (oV n P i++Cm n P i)=oV n P (i+1):=by
 unfold oV Cm sM;rw[asJ];have:wZ n P (λ_=>0) i-wC n P i=wZ n P (λ_=>0) (i+1):=by unfold wC;rw[ah5 n hn dv P _ i hi];rfl
 rw[this];rfl
def XG {B n:Nat}:∀b,b<n->Sm B ((λ_=>0:Nat->Dyadic) b):=λ_ _=>Sm.zero _
def ah1 {B n:Nat}{P:Nat->Nat->Dyadic}(hn:1<=n)(dv:n<=4)(h:∀a b,a<=n->b<n->Sm B (P a b))(i:Nat):Sm (5*B+20) (wC n P i):=(XA hn dv h XG i n (Nat.le_refl _)).mono zo
def ast {B n:Nat}{P:Nat->Nat->Dyadic}(hn:1<=n)(dv:n<=4)(h:∀a b,a<=n->b<n->Sm B (P a b))(b i:Nat):Sm (4*B+11+i) (lZ n P b i):=by
 induction i with
 |zero=>exact Sm.zero _
 |succ i ih=>exact(Sm.sub ih ((LR hn dv h b i).mono zo)).mono zo
def VC {B n:Nat}{P:Nat->Nat->Dyadic}(hn:1<=n)(dv:n<=4)(h:∀a b,a<=n->b<n->Sm B (P a b))(hB:B<=1000000)(i:Nat):ir n (5*B+33) (sM n P i):=
 Oh (B:=5*B+20) zo (Nat.le_refl _) (ah1 hn dv h i) (λj _=>(LR hn dv h j i).mono zo) zo
def abA {B n:Nat}{P:Nat->Nat->Dyadic}(hn:1<=n)(dv:n<=4)(h:∀a b,a<=n->b<n->Sm B (P a b))(hB:B<=1000000)(i:Nat)(hi:i<=n):ir n (5*B+33) (oV n P i):=
 Oh (B:=5*B+20) zo (Nat.le_refl _) ((ayi hn dv h XG i hi).mono zo) (λj _=>(ast hn dv h j i).mono zo) zo
def afz (n:Nat)(c:Dyadic)(l:Nat->Dyadic)(k:Nat):(dL n c l k).length<=k+1:=by have:=Dm (gS n c l k);rw[JL]at this;exact this
def VD (n:Nat)(P:Nat->Nat->Dyadic)(i:Nat):(sM n P i).length<=n+1:=afz _ _ _ _
def abB (n:Nat)(P:Nat->Nat->Dyadic)(i:Nat):(oV n P i).length<=n+1:=afz _ _ _ _
def atK (n:Nat)(P:Nat->Nat->Dyadic)(i:Nat):(Cm n P i).length<=n+1:=by have h:=Dm (eu (-1) (sM n P i));have h2:=VD n P i;unfold eu at h;rw[List.length_map]at h;unfold Cm eu;omega
def atJ {B n:Nat}{P:Nat->Nat->Dyadic}(hn:1<=n)(dv:n<=4)(h:∀a b,a<=n->b<n->Sm B (P a b))(hB:B<=1000000)(i:Nat):ir n (5*B+40) (Cm n P i):=by
 have hf:=VC hn dv h hB i;have hl:=VD n P i;have hsl:(eu (-1) (sM n P i)).length=(sM n P i).length:=by unfold eu;rw[List.length_map]
 refine(GJ (V:=n) (B:=5*B+35) (l:=eu (-1) (sM n P i)) zo ?_ zo ?_ zo).mono zo
 . intro t ht;unfold eu at ht;obtain⟨x,hx,rfl⟩:=List.mem_map.1 ht;exact hf.1.2.1 x hx
 . intro t ht;unfold eu at ht;obtain⟨x,hx,rfl⟩:=List.mem_map.1 ht;show Sm _ (aJ (canon (aJ x.2* -1)))
   rw[cJ];exact(Sm.mul (hf.2 x hx).2 (Sm.neg Sm.one)).mono zo
def apK {B n:Nat}{P:Nat->Nat->Dyadic}(hn:1<=n)(dv:n<=4)(h:∀a b,a<=n->b<n->Sm B (P a b))(hB:B<=1000000)(i:Nat)(hi:i<=n)(j:Nat):ir n (5*B+33) (jz n P i j):=by
 unfold jz;split
 . exact abA hn dv h hB i hi
 . exact VC hn dv h hB _
def avl (ps:List Pv)(V:Int)(a:Option Addr)(n c:Nat):(((ps.flatMap nQ).set 0 (ah V)).set 1 (.slice a n c))=(ps.set 0 ⟨V,a,n,c⟩).flatMap nQ:=by
 cases ps with
 |nil=>rfl
 |cons p ps=>rfl
def auR {W:World}{V B:Nat}{ps:List Pv}{Ts:Nat->List aM}{a:Option Addr}{c:Nat}{C:List aM}(h:iW W V B ps Ts)(hT:Ts ps.length=C)(hp:bI W a c C)(hf:ir V B C):iW W V B (ps++[⟨(V:Int),a,C.length,c⟩]) Ts:=by
 intro k hk;by_cases hl:k<ps.length
 . obtain⟨a',c',h1,h2,h3⟩:=h k hl;exact⟨a',c',by rw[List.getElem_append_left hl];exact h1,h2,h3⟩
 . have e:k=ps.length:=by simp at hk;omega
   subst e;exact⟨a,c,by simp[hT],by rw[hT];exact hp,by rw[hT];exact hf⟩
def auS {W:World}{V B:Nat}{ps:List Pv}{Ts Ts':Nat->List aM}{a:Option Addr}{c:Nat}{C:List aM}(h:iW W V B ps Ts)(hs:∀j,0<j->Ts' j=Ts j)(h0:Ts' 0=C)(hp:bI W a c C)(hf:ir V B C):iW W V B (ps.set 0 ⟨(V:Int),a,C.length,c⟩) Ts':=by
 intro k hk;rw[List.length_set]at hk;rcases k with _|k
 . exact⟨a,c,by simp[h0],by rw[h0];exact hp,by rw[h0];exact hf⟩
 . obtain⟨a',c',h1,h2,h3⟩:=h (k+1) hk;rw[<-hs (k+1) zo]at h1 h2 h3;exact⟨a',c',by simp[h1],h2,h3⟩
def iW.off {W:World}{V B:Nat}{ps:List Pv}{Ts:Nat->List aM}{g:Nat}{cur:Array Value}{t:TypeId}(h:iW W V B ps Ts)(hg:W.heap[g]?=some (.cells cur t))(ht:t≠67)(i:Nat)(u:Value):iW (W.setCell ⟨g,i,none⟩ u) V B ps Ts:=λk hk=>by obtain⟨a,c,h1,h2,h3⟩:=h k hk;exact⟨a,c,h1,h2.off hg ht i u,h3⟩
def agk {w:World}{base:Nat}{e:TypeId}{size n cap g:Nat}{xs:List Value}(h:w.ownsRow base e size (.slice (some ⟨g,0,none⟩) n cap) n xs):∃cur,w.heap[g]?=some (.cells cur e):=by
 rcases h.2 with⟨h1,_⟩ |⟨g',cap',cur,h1,hb,hg,_⟩
 . simp at h1
 . simp only[Value.slice.injEq,Option.some.injEq,Addr.mk.injEq,and_true,true_and]at h1;obtain⟨rfl,rfl⟩:=h1;exact⟨cur,hg⟩
def bI.grown {w w':World}{r:Option Nat}{a:Option Addr}{c:Nat}{C:List aM}(h:bI w a c C)(hg:w.grownBy w' r)(hr:∀g,r=some g->∃cur t,w.heap[g]?=some (.cells cur t)/\t≠67):bI w' a c C:=by
 refine⟨?_,h.2.1,?_⟩
 . rcases h.2.2 with h'|⟨b,o,cur',rfl,h2⟩
   . subst h';exact .inl rfl
   . have hne:some b≠r:=λe=>by obtain⟨cur,t,h3,h4⟩:=hr b e.symm;rw[h3]at h2;simp at h2;exact h4 h2.2
     rcases h.1 with h1|⟨b1,o1,e1,hc⟩
     . exact .inl h1
     . simp only[Option.some.injEq,Addr.mk.injEq,and_true]at e1;obtain⟨rfl,rfl⟩:=e1;refine .inr ⟨b,o,rfl,λj hj=>?_⟩;have h9:=hc j hj;rw[<-h9];have hk:=hg.block b (Array.getElem?_eq_some_iff.1 h2).1 hne;simp only[World.cell?,hk]
 . rcases h.2.2 with h'|⟨b,o,cur',rfl,h2⟩
   . exact .inl h'
   . have hne:some b≠r:=λe=>by obtain⟨cur,t,h3,h4⟩:=hr b e.symm;rw[h3]at h2;simp at h2;exact h4 h2.2
     exact .inr ⟨b,o,cur',rfl,by rw[hg.block b (Array.getElem?_eq_some_iff.1 h2).1 hne];exact h2⟩
def iW.grown {W w':World}{V B:Nat}{ps:List Pv}{Ts:Nat->List aM}{r:Option Nat}(h:iW W V B ps Ts)(hg:W.grownBy w' r)(hr:∀g,r=some g->∃cur t,W.heap[g]?=some (.cells cur t)/\t≠67):iW w' V B ps Ts:=λk hk=>by obtain⟨a,c,h1,h2,h3⟩:=h k hk;exact⟨a,c,h1,h2.grown hg hr,h3⟩
def auk {w:World}{base:Nat}{e:TypeId}{size n:Nat}{v:Value}{xs:List Value}(h:w.ownsRow base e size v n xs):∀g,v.ownBlock=some g->∃cur t,w.heap[g]?=some (.cells cur t)/\t=e:=by
 intro g hg;rcases h.2 with⟨rfl,_⟩ |⟨g',cap',cur,rfl,_,hg2,_⟩
 . simp[Value.ownBlock]at hg
 . have:g'=g:=by simpa[Value.ownBlock]using hg
   subst this;exact⟨cur,e,hg2,rfl⟩
def Tryz.aCN :(Tryz.prog.info? 24).map (λi=>(i.zero,i.size,i.bytes))=some (some (.agg #[ah 0,.slice none 0 0]),2,32):=by kernel_rfl
end Go.Proofs.YtnjfebkelecgaaaGreatDoor
namespace Go.Proofs.YtnjfebkelecgaaaGreatDoor
open Go.RowKit
attribute [local go_sem ↓] Go.wp_at_zero Go.wp_at_succ
def aii (w:World)(n B:Nat)(P:Nat->Nat->Dyadic)(e:Ending)(w':World):Prop:=
 ∃a' c' ps,e=.returned (.tuple #[.slice a' (n+1) c',ah 0])/\n+1<=c'/\ps.length=n+1/\At w' a' (ps.flatMap nQ)/\iW w' n (5*B+33) ps (jz n P n)/\Bw w w'
def apR (a:Option Addr)(cap m:Nat)(rows:List (List Raw))(B:Nat)(w:World)(hm:m+1<=4)(hr:Rw (m+1) B rows)(hcap:m+1+1<=cap)(ha:bQ w a rows)(hB:B<=200000)(hT:aR w)(h0:eU rows=0):
 Cl 74 #[.slice a (m+1+1) cap] w (aii w (m+1) B (gy rows)):=by
 obtain⟨n,hn⟩:=aI (m+1);obtain⟨i0,hi,hz0,hz1,hz2⟩:=info_parts Tryz.aCm;obtain⟨j0,hj,hy0,hy1,hy2⟩:=info_parts Tryz.aCN;have hL:=hr.1;have hrow:=hr.2.1;have hfit:=hr.2.2;have rF:=λW (hW:Bw w W)=>asa a cap m rows B W hm hr hcap (ha.below hW) hB (hT.below hW) h0;have hps:∀a b,a<=m+1->b<m+1->Sm B (gy rows a b):=au4 hr;have h00:0<rows.length:=by omega
 obtain⟨b,o,a0,c0,hab,hc0,nX⟩:=ha.row 0 h00;have Jh:rows[0].length=m+1:=hrow _ (List.getElem_mem h00);have UM:∀x∈rows[0],Fit B x:=hfit _ (List.getElem_mem h00);obtain⟨p0,UL⟩:=aI (rows[0]);rw[UL]at hc0 nX Jh UM;have hp0:∀k (h:k<p0.length),gy rows 0 k=aJ p0[k]:=λk h=>by subst UL;exact xN rows 0 k h00 h
 rw[Jh,Nat.add_zero]at hc0;subst hab;obtain⟨P,hP⟩:=aI (gy rows);rw[hP]at rF hps hp0⊢;have Vi:=λi k (hk:k<=m+1)=>XA (x:=λ_=>0) zo hm hps XG i k hk;have wW:=λk i=>LR zo hm hps k i;have zG:=aau (m+1) P;have htl:=RO (m+1) P;have htr:=RP (m+1) P;have Nt:=λi (hi:i<=m+1)=>abA (n:=m+1) zo hm hps zo i hi;have vE:=λi=>VC (n:=m+1) zo hm hps zo i;have Jb:=λi=>atJ (n:=m+1) zo hm hps zo i;have hcn:=λW (hW:Bw w W)=>Mj (m+1) _ _ _ _ (4*B+11) (λ_=>0) W zo ((ahc hm hps).fit zo) zo (hT.below hW) (cJ (wZ (m+1) P (λ_=>0) 0));rw[apC]at hcn;have zh:=λi a' c' (W:World) (hW:Bw w W) (h:At W a' (dC (oU (m+1) P i (m+1))))=>asK (m+1) (5*B+20) (wC (m+1) P i) (oU (m+1) P i (m+1)) (λk=>mV (m+1) P k i) a' c' W zo (an5 _ _ _ _) (λk hk=>(an4 _ _ _ _ _ hk).symm) (ah1 zo hm hps i) (λx hx=>by unfold oU at hx;obtain⟨k,_,rfl⟩:=List.mem_map.1 hx;exact(wW k i).mono zo) zo h (hT.below hW);have hsc:=λi a' c' (W:World) (hW:Bw w W) (h:bI W a' c' (sM (m+1) P i))=>ag6 (m+1) a' c' (sM (m+1) P i) _ _ _ (-1) (5*B+33) W (vE i) h ((Sm.neg Sm.one).fit zo|>λ(h:Fit 1 (canon (-1)))=>h.mono zo) zo (hT.below hW) (cJ (-1));have had:=λi (hi:i<m+1) aA cA aD cD (W:World) (hW:Bw w W) b hb hA hD=>RI (m+1) (5*B+40) (oV (m+1) P i) (Cm (m+1) P i) (oV (m+1) P (i+1)) aA aD cA cD W b hb hA hD ((Nt i zo).mono zo) (Jb i) (by have:=abB (m+1) P i;have:=atK (m+1) P i;omega) zo (hT.below hW) (apB (m+1) zo hm P i hi);have hof:=λW (hW:Bw w W)=>GA (-1) (-1) rfl W zd (hT.below hW);rw[hn]at rF hps hcn zh hsc had hc0 Jh Vi wW zG htl htr Nt vE⊢;have dv:n<=4:=by omega
 have iB:1<=n:=by omega
 have JJ:b<w.heap.size:=World.block_lt_of_cell? w _ hc0;have VB:=rJ (n+1) cap 0 0 (show some (⟨b,o,none⟩:Addr)=some ⟨b,o,none⟩from rfl) zo rfl;rw[Nat.zero_mul,Nat.add_zero]at VB;obtain⟨Hi,cV,cW,cC,Hj,kP,lN,kj,lI,HT,uS,rf⟩:=fu hi hz0 hz1 hz2 hj hy0 hy1 hy2 rF hT hps hcn;obtain⟨Hli,kN,qW,mM,YO,Lp,uO,td,ak6,ak5,rW,HwS⟩:=fu zh hsc had hof Nt vE hc0 nX Jh UM hp0 Vi;obtain⟨PM,alL,AJ,jy,Qq⟩:=fH wW zG htl htr VB;clear hi hz0 hz1 hz2 hj hy0 hy1 hy2 rF hT hps hcn zh hsc had hof Nt vE Jb hc0 nX Jh UM hp0 Vi wW zG htl htr VB hP UL h00 ha hr hL hrow hfit h0 hn;have Hb:=hbz w;go_enter Tryz.func74,Tryz.ntmps74;go_wp2_with fail;refine(lI.out _ Hb.out).mono ?_;rintro e w1 ⟨a1,c1,rfl,hc1,ht1,au⟩;have ZV:=az ht1;replace Hb:=bD Hb au;clear au ht1;obtain⟨dd,hdd⟩:=aI (rP (jd n P) *jd n P);rw[hdd]at rf⊢;clear hdd;obtain⟨W2,nV,bi,ag,aC⟩:=cM w1 (Hb.an trivial) 48 (bY dd);have HA:Hid (bQ W2 a1 ((tK n P).map λr=>r.map canon)):=ZV.out.below (by first|exact zl| (rw[<-nV];exact zl));clear ZV;obtain⟨n3,BN⟩:=aI ((oV n P 0).length);rw[BN]at rf;go_wp2_with fail;refine(rf.out _ ag.2.1.out).mono ?_;rintro e w3 ⟨a3,d3,rfl,sJ,au⟩;obtain⟨ag,aC⟩:=qX au (HA.an ag);have rX:=az sJ;clear sJ;obtain⟨W4,rD,bi,ag,aC⟩:=cM w3 ag 24 [ah (n:Int),.slice a3 n3 d3];have zw:bI W4 a3 d3 (oV n P 0):=rX.out.below (by first|exact zl| (rw[<-rD];exact zl));have CZ:=az zw;clear zw rX;obtain⟨Hq,HA,Hd,Hb,_⟩:=ag;obtain⟨d0,d1,d2⟩:=Hd.out.c3;obtain⟨q0,q1⟩:=Hq.out.c2;have YH:=Hd;have aik:=HA;have yl:=Hq;have dM:=Hb;have P0:=q0;have P1:=q1;obtain⟨W5,yN,bi,ag,aC⟩:=cM W4 (Hb.an<|Hd.an<|HA.an<|Hq.an trivial) 24 [ah (n:Int),.slice a3 n3 d3];go_wp2_with fail;have Pr:Hid (Bw W4 W5):=by rw[<-yN];exact zl
 have hst:W5.ownsRow W4.heap.size 24 2 (.slice (some ⟨W4.heap.size,0,none⟩) 1 1) 1 ([(⟨(n:Int),a3,n3,d3⟩:Pv)].flatMap nQ):=agl (xs:=[ah (n:Int),.slice a3 n3 d3]) ag.1.out (Nat.le_refl _) rfl zo;have hpo:iW W5 n (5*B+33) [(⟨(n:Int),a3,n3,d3⟩:Pv)] (jz n P 0):=by
  intro k hk;obtain rfl:k=0:=by simp at hk;omega
  exact⟨a3,d3,by show(⟨(n:Int),a3,n3,d3⟩:Pv)=⟨(n:Int),a3,(oV n P 0).length,d3⟩;rw[BN],CZ.out.below Pr.out,YO.out 0 zo⟩
 obtain⟨cu,Lz⟩:=aU hst hpo;clear hst hpo BN;go_loopw[10,40] (λpF x wr=>∃(i:Nat) (v:Value) (ps:List Pv),i<=n/\x=ah (i:Int)/\v=pF/\ps.length=i+1/\wr.ownsRow W4.heap.size 24 2 v (i+1) (ps.flatMap nQ)/\iW wr n (5*B+33) ps (jz n P i)/\Bw W4 wr) (λ_ x _=>n-(intOf x).toNat);case atStart=>exact⟨0,_,_,Nat.zero_le _,rfl,rfl,rfl,cu.out,Lz.out,Pr.out⟩
 case round=>
  clear cu Lz Pr CZ;obtain⟨i,v,ps,hi,rfl,rfl,hpl,ho,hpo,pb⟩:=hrel;by_cases hlt:i<n
  . obtain⟨wo,hwo⟩:∃wo,wo=wr:=⟨_,rfl⟩;subst hwo;have hvl:=ho.lt;obtain⟨Ho,aX,Lz,oM⟩:=dP ho pb hpo hpl;have fQ:=pb.size;have EJ:=dM.out.size;clear ho pb hpo hpl;have Hb:=hbz wo;have xd:decide ((i:Int)<(n:Int))=true:=by simp;omega
    obtain⟨W5,yN,bi,ag,aC⟩:=cM wo (Hb.an trivial) 48 [aj false,.string ⟨#[]⟩,ah 0];have Hy5:=ag.1;have CH:Hid (Bw wo W5):=ag.2.1;go_wp2_with fail;clear xd;go_loopw[13,46] (λWN x wr=>∃(k:Nat) (v2:Value),k<=n/\x=ah (k:Int)/\v2=WN/\wr.ownsRow (wo.heap.size+1) 48 3 v2 k (dC (oU n P i k))/\aH wr wo.heap.size 48 [aj (aK (dN (wS n P (λ_=>0) i k))),ai (nt (dN (wS n P (λ_=>0) i k)).natAbs),ah (dE (wS n P (λ_=>0) i k))]/\Bw wo wr) (λ_ x _=>n-(intOf x).toNat);case atStart=>exact⟨0,_,Nat.zero_le _,rfl,rfl,World.ownsRow_nil _ _ _ _,((Hy5.out.set 0 _).set 1 _).set 2 _,((CH.out.setCell (Nat.le_refl _) _).setCell (Nat.le_refl _) _).setCell (Nat.le_refl _) _⟩
    case round=>
     clear Hy5 CH;obtain⟨k,v2,hk,rfl,rfl,hv2,hy,qb⟩:=hrel;by_cases bj:k<n
     . have Nc:=aO dM.out aX.out;have adn:=aO Nc qb;have uk:k<p0.length:=by rw[ak6.out];exact bj
       obtain⟨sp,mp,ep,hpe⟩:=na (p0[k]);have ic:=ak5.out _ (List.getElem_mem uk);rw[hpe]at ic;obtain⟨bp,op,ac2,p1,p2,p3⟩:=(td.out.below Nc).num k uk hpe;obtain⟨ba,oa,bq,oq,cq,acZ,Nh,hq⟩:=(aik.out.below aX.out).aCB AJ.out jy.out k i bj hlt;rw[alL.out k i bj hlt]at hq;have hPx:P 0 k=aJ (sp,mp,ep):=by rw[rW.out k uk,hpe]
       obtain⟨Q,hQ⟩:=aI (mV n P k i);obtain⟨Z,hZ⟩:=aI (aJ (sp,mp,ep) *Q);obtain⟨S0,sF⟩:=aI (wS n P (λ_=>0) i k);obtain⟨S1,hS1⟩:=aI (wS n P (λ_=>0) i (k+1));have MW:S0-Z=S1:=by rw[<-hS1,<-hZ,<-hPx,<-hQ,<-sF];exact aya n P i k
       have hcl:=an6 n P i k;have MU:=PM.out k i;rw[hQ]at MU hq hcl;have Tx:=HwS.out i k zo;rw[sF]at Tx hy;have Io:Sm (5*B+12) Z:=by rw[<-hZ];exact(Sm.mul ic.2 MU).mono zo
       have HfP:Hid (Fit (4*B+11) (sp,mp,ep)):=ic.mono zo;have HfQ:Hid (Fit (4*B+11) (jP Q)):=MU.fit zo;have HfS:Hid (Fit (5*B+16) (jP S0)):=(Tx.mono zo).fit zo;have HfZ:Hid (Fit (5*B+16) (jP Z)):=(Io.mono zo).fit zo;have HZ:Hid (aJ (sp,mp,ep) *aJ (jP Q)=Z):=by show _*aJ (canon Q)=_;rw[cJ];exact hZ
       have HSS:Hid (aJ (jP S0)-aJ (jP Z)=S1):=by show aJ (canon S0)-aJ (canon Z)=_;rw[cJ,cJ];exact MW
       have ixp:=xy n c0 k (k:Int) ac2 bj rfl;have Vz:=xz n c1 k (k:Int) acZ bj rfl;rw[Nat.mul_one]at Vz;have ixq:=nD n cq i (i:Int) (rfl:(some ⟨bq,oq,none⟩:Option Addr)=_) hlt rfl;have JE:=Qq.out;obtain⟨aqC,gD⟩:=aU hS1 hcl;have HpO:Hid (bA wo bp (op+k*3) [aj sp,ai mp,ah ep]):=iR p1 p2 p3;have HTk:=az (HT.out.below adn);have Hy:Hid (aH wr wo.heap.size 48 (bY S0)):=hy;have ZI:Hid (bA wo ba (oa+k) [.slice (some ⟨bq,oq,none⟩) n cq]):=λj hj=>by
        obtain rfl:j=0:=by simp at hj;omega
        exact Nh
       have HsO:Hid (bA wo b o [.slice a0 n c0]):=λj hj=>by
        obtain rfl:j=0:=by simp at hj;omega
        exact cell_later Nc uO.out
       have ZG:Hid (bA wo bq (oq+i*3) (bY Q)):=hq;obtain⟨Hr,Hq,fA,LH⟩:=dP (ZI.out.below qb) (ZG.out.below qb) qb hv2;have Cx:=qb.size;have Vq:=Hy.out.lt;have hvb:∀g,v2.ownBlock=some g->wo.heap.size+1<=g/\g<wr.heap.size:=λg e=>hv2.lt g e;clear p1 p2 p3 Nh hq hy hpe ic ac2 acZ hQ hZ sF hS1 MW MU Tx Io qb Nc adn hv2 hcl hPx;have Hb:=hbz wr;obtain⟨ag,aC⟩:=qZ (Hy.an<|Hr.an<|Hq.an trivial);have r0:wr.cell? ⟨ba,oa+k,none⟩=some (.slice (some ⟨bq,oq,none⟩) n cq):=ag.2.1.out.cell 0 zm;have q1:wr.cell? ⟨bq,oq+i*3+1,none⟩=some (ai (nt (dN Q).natAbs)):=ag.2.2.1.out.cell 1 zm;have q0:wr.cell? ⟨bq,oq+i*3,none⟩=some (aj (aK (dN Q))):=ag.2.2.1.out.cell 0 zm;have q2:wr.cell? ⟨bq,oq+i*3+2,none⟩=some (ah (dE Q)):=ag.2.2.1.out.cell 2 zm;have P0:=r0;have P1:=q0;have P2:=q1;have P3:=q2;obtain⟨W6,tZ,bi,ag,aC⟩:=cM wr (Hb.an ag) 48 (bY Q);have dw:=ownsRow_below LH.out ag.2.1.out;have jH:=ag.2.1.out.size;go_wp2_with (at_builtin;refine wpList_append_own_at _ rfl _ _ 32 rfl (wo.heap.size+1) 48 i0 _ 3 32 Tryz.underlying32 Hi.out cV.out cW.out cC.out rfl zd v2 k (dC (oU n P i k)) rfl dw ⟨wr.heap.size,0,none⟩ 1 1 (bY Q) rfl rfl (gK ag.1.out) zy zx zo zo ?_;intro v' w7 ey eT _ eY;obtain⟨g',sj,rfl⟩:=ownsRow_succ ey);have Jz:some wo.heap.size≠v2.ownBlock:=λe=>by have:=hvb _ e.symm;omega
       have hy7:=ag.2.2.1.out.grown eT Jz;have kX:=(aO fA.out ag.2.1.out).grown eT zo (λj e=>by have:=dz dw j e;omega);have e7:dC (oU n P i k)++(bY Q)=dC (oU n P i (k+1)):=by rw[gD.out,Dn];rfl
       rw[e7]at ey;obtain⟨FO,Fg,ai7,Hr,Hq,Hp,Hs⟩:=kH ey kX (HT.out.below (aO dM.out (aO aX.out kX))) (ZI.out.below kX) (ZG.out.below kX) (HpO.out.below kX) (HsO.out.below kX);have Hy:Hid (aH w7 wo.heap.size 48 (bY S0)):=hy7;have sz7:=kX.size;clear P0 P1 P2 P3 ey kX hy7 eY Jz e7 dw eT HTk hvb;have Hb:=hbz w7;obtain⟨ag,aC⟩:=qZ (Hy.an<|Hr.an<|Hq.an<|Hp.an<|Hs.an trivial);have HU:Hid (aR w7):=ai7.out;have lby:=ag.1.out.lt;obtain⟨Hy,Hr,Hq,Hp,Hs,_⟩:=ag;obtain⟨y0,jA,y1,jB,y2,lV⟩:=Hy.out.g3;have r0:=Hr.out.w1;obtain⟨q0,q1,q2⟩:=Hq.out.w3;obtain⟨p0,p1,p2⟩:=Hp.out.w3;have s0:=Hs.out.w1;refine ez (λw'=>aV w' (wo.heap.size) 0 (aj (aK (dN S0)))/\aV w' (wo.heap.size) 1 (ai (nt (dN S0).natAbs))/\aV w' (wo.heap.size) 2 (ah (dE S0))/\aV w' bp (op+k*3) (aj sp)/\aV w' bp (op+k*3+1) (ai mp)/\aV w' bp (op+k*3+2) (ah ep)/\aV w' b o (.slice a0 n c0)/\aV w' ba (oa+k) (.slice (some ⟨bq,oq,none⟩) n cq)/\aV w' bq (oq+i*3) (aj (aK (dN Q)))/\aV w' bq (oq+i*3+1) (ai (nt (dN Q).natAbs))/\aV w' bq (oq+i*3+2) (ah (dE Q))) (λi=>Nat.blt i 17) [(0,true),(1,true),(2,true),(3,true),(4,true),(5,true),(6,true),(7,true),(8,true),(9,true),(10,true),(11,true),(12,true),(13,true),(14,false),(15,false),(16,false),(17,false)] zk zk rfl zk zc ⟨y0,y1,y2,p0,p1,p2,s0,r0,q0,q1,q2⟩ ?_;iterate 14 (refine pT rfl rfl ?_ (by intro w' ⟨q0,q1,q2,q3,q4,q5,q6,q7,q8,q9,q10⟩;go_simp;try with_reducible rfl);try simp only[UU])
       refine aY rfl rfl (λK hK=>?_);go_simp;refine hK _ _ (λ_=>⟨bg y0,bg y1,bg y2,bg p0,bg p1,bg p2,bg s0,bg r0,bg q0,bg q1,bg q2⟩) ?_;try simp only[UU]
       refine cL (λW8=>aH W8 (w7.heap.size) 48 [aj sp,ai mp,ah ep,aj (aK (dN Q)),ai (nt (dN Q).natAbs),ah (dE Q)]/\Bw w7 W8) (by first|exact fI|exact fJ) ?_;rintro W8 ⟨qz,au⟩;have aBv:=Hy.out.lt;replace Hy:=kB Hy au;replace Hr:=kW Hr au;replace Hq:=kW Hq au;replace Hp:=kW Hp au;replace Hs:=kW Hs au;replace HU:=kT HU au;have Hz:=az qz;clear qz;obtain⟨y0,jA,y1,jB,y2,lV⟩:=Hy.out.g3;have r0:=Hr.out.w1;obtain⟨q0,q1,q2⟩:=Hq.out.w3;obtain⟨p0,p1,p2⟩:=Hp.out.w3;have s0:=Hs.out.w1;obtain⟨z0,z1,z2,z3,z4,z5⟩:=Hz.out.c6;replace Hb:=bD Hb au;refine aY rfl rfl (λK hK=>?_);go_simp;with_reducible refine(Dq sp mp ep (aK (dN Q)) (nt (dN Q).natAbs) (dE Q) Z (4*B+11) HZ.out w7.heap.size _ 48 _ HfP.out HfQ.out zo Hz.out (by first|exact HU.out|exact aR.drew HU.out|exact aR.alloc HU.out _|exact aR.drew (aR.alloc HU.out _) |exact aR.alloc (aR.drew HU.out) _)).mono ?_
       rintro e w9 ⟨rfl,hq⟩;have au:Bw W8 w9:=by first|exact hq|exact df hq
       obtain⟨Hy,y0,jA,y1,jB,y2,lV⟩:=nH Hy au;replace Hr:=kW Hr au;replace Hq:=kW Hq au;replace Hp:=kW Hp au;replace Hs:=kW Hs au;replace HU:=kT HU au;replace Hz:=kB Hz au;have r0:=Hr.out.w1;obtain⟨q0,q1,q2⟩:=Hq.out.w3;obtain⟨p0,p1,p2⟩:=Hp.out.w3;have s0:=Hs.out.w1;obtain⟨z0,z1,z2,z3,z4,z5⟩:=Hz.out.c6;replace Hb:=bD Hb au;refine hK _ _ (λ_=>⟨y0,y1,y2,p0,p1,p2,s0,r0,q0,q1,q2⟩) ?_;try simp only[UU]
       refine aY rfl rfl (λK hK=>?_);go_simp;with_reducible refine(aa7 (aK (dN S0)) (nt (dN S0).natAbs) (dE S0) (aK (dN Z)) (nt (dN Z).natAbs) (dE Z) S1 (5*B+16) HSS.out _ HfS.out HfZ.out zo (by first|exact HU.out|exact aR.drew HU.out|exact aR.alloc HU.out _|exact aR.drew (aR.alloc HU.out _) |exact aR.alloc (aR.drew HU.out) _)).mono ?_
       rintro e iI ⟨rfl,hq⟩;have au:Bw w9 iI:=by first|exact hq|exact df hq
       obtain⟨Hy,y0,jA,y1,jB,y2,lV⟩:=nH Hy au;replace Hr:=kW Hr au;replace Hq:=kW Hq au;replace Hp:=kW Hp au;replace Hs:=kW Hs au;replace HU:=kT HU au;replace Hz:=kB Hz au;have r0:=Hr.out.w1;obtain⟨q0,q1,q2⟩:=Hq.out.w3;obtain⟨p0,p1,p2⟩:=Hp.out.w3;have s0:=Hs.out.w1;obtain⟨z0,z1,z2,z3,z4,z5⟩:=Hz.out.c6;replace Hb:=bD Hb au;refine hK _ _ (λ_=>⟨y0,y1,y2,p0,p1,p2,s0,r0,q0,q1,q2⟩) ?_;try simp only[UU]
       refine aY rfl rfl (λK hK=>?_);go_simp;refine hK _ _ (by first|exact λh=>absurd h zd|exact λ_=>⟨y0,y1,y2,p0,p1,p2,s0,r0,q0,q1,q2⟩ |exact λ_=>⟨(by first|exact y0|exact aQ zf y0|exact aQ zf (aQ zf y0) |exact aQ zf (aQ zf (aQ zf y0))),(by first|exact y1|exact aQ zf y1|exact aQ zf (aQ zf y1) |exact aQ zf (aQ zf (aQ zf y1))),(by first|exact y2|exact aQ zf y2|exact aQ zf (aQ zf y2) |exact aQ zf (aQ zf (aQ zf y2))),(by first|exact p0|exact aQ zf p0|exact aQ zf (aQ zf p0) |exact aQ zf (aQ zf (aQ zf p0))),(by first|exact p1|exact aQ zf p1|exact aQ zf (aQ zf p1) |exact aQ zf (aQ zf (aQ zf p1))),(by first|exact p2|exact aQ zf p2|exact aQ zf (aQ zf p2) |exact aQ zf (aQ zf (aQ zf p2))),(by first|exact s0|exact aQ zf s0|exact aQ zf (aQ zf s0) |exact aQ zf (aQ zf (aQ zf s0))),(by first|exact r0|exact aQ zf r0|exact aQ zf (aQ zf r0) |exact aQ zf (aQ zf (aQ zf r0))),(by first|exact q0|exact aQ zf q0|exact aQ zf (aQ zf q0) |exact aQ zf (aQ zf (aQ zf q0))),(by first|exact q1|exact aQ zf q1|exact aQ zf (aQ zf q1) |exact aQ zf (aQ zf (aQ zf q1))),(by first|exact q2|exact aQ zf q2|exact aQ zf (aQ zf q2) |exact aQ zf (aQ zf (aQ zf q2)))⟩) ?_;try simp only[UU]
       simp only[bP];have hov:=ownsRow_below FO.out Hb.out;have wX:=aO Fg.out Hb.out;obtain⟨dA,mK⟩:=aU hov wX;clear hov wX;go_wp2;go_roundw;case rel=>
        refine⟨k+1,_,by omega,by go_num,rfl,?_,?_,?_⟩
        . have sH:=Cq dA.out;have hne:wo.heap.size≠g':=by omega
          exact ownsRow_setCell_other (ownsRow_setCell_other (ownsRow_setCell_other dA.out (by simp[Value.ownBlock];omega) _) (by simp[Value.ownBlock];omega) _) (by simp[Value.ownBlock];omega) _
        . rw[aqC.out];exact((Hy.out.set 0 _).set 1 _).set 2 _
        . exact((mK.out.setCell (Nat.le_refl _) _).setCell (Nat.le_refl _) _).setCell (Nat.le_refl _) _
       case measure=>exact bH
     . obtain rfl:k=n:=by omega
       obtain⟨al,cl,rfl,hal,_⟩:=dm hv2;obtain⟨C0,rA⟩:=aI (wS k P (λ_=>0) i k);rw[rA]at hy;have jE:=aO dM.out aX.out;have zh:=λW (hW:Bw wr W)=>Hli.out i al cl W (aO (aO jE qb) hW) (hal.below hW);have hwC:wC k P i=C0:=rA;obtain⟨LF,DC⟩:=aI (sM k P i);obtain⟨NF,Tm⟩:=aI (Cm k P i);obtain⟨FF,Te⟩:=aI (oV k P i);obtain⟨FN,MN⟩:=aI (oV k P (i+1));rw[show dL k (wC k P i) (λj=>mV k P j i) k=LF from DC,hwC]at zh;have hsc:=kN.out i;have had:=qW.out i hlt;rw[DC]at hsc;rw[show bW (eu (-1) LF)=NF by rw[<-DC];exact Tm]at hsc;rw[Tm,Te,MN]at had;have Nr:=Lp.out i;have Ns:=YO.out (i+1) zo;rw[DC]at Nr;rw[MN]at Ns;obtain⟨nL,UC⟩:∃x,LF.length=x:=⟨_,rfl⟩;obtain⟨nN,UD⟩:∃x,NF.length=x:=⟨_,rfl⟩;obtain⟨nF,hnF⟩:∃x,FF.length=x:=⟨_,rfl⟩;obtain⟨nG,UA⟩:∃x,FN.length=x:=⟨_,rfl⟩;rw[UC]at zh hsc;rw[UD]at hsc;rw[UD,hnF,UA]at had;have UV:=λ(W:World) a c (h:iW W k (5*B+33) ps (jz k P i)) (hp:bI W a c LF)=>auR h (show jz k P i ps.length=LF by rw[oM.out];exact DC) hp Nr;have qH:=λ(W:World) (qs:List Pv) a c (h:iW W k (5*B+33) qs (jz k P i)) (hp:bI W a c FN)=>auS (Ts':=jz k P (i+1)) h (λj hj=>by unfold jz;rw[if_neg zo,if_neg zo]) MN hp Ns;rw[UC]at UV;rw[UA]at qH;have ui:jz k P i 0=FF:=Te;have Hy:Hid (aH wr wo.heap.size 48 (bY C0)):=hy;obtain⟨akv,Rb,PN,HfL,HfN,Hap,cu,fA,Fv,HnF⟩:=JK zh hsc had Nr Ns UV qH qb ui hnF;clear zh hsc had Nr Ns UV qH qb DC Tm Te MN rA hwC hv2 hal hy ui UC UD hnF UA jE;have Cx:=fA.out.size;have Vq:=Hy.out.lt;have Hb:=hbz wr;obtain⟨ag,aC⟩:=qZ (Hy.an trivial);go_wp2_with fail;refine(akv.out _ Hb.out).mono ?_;rintro e w7 ⟨a7,d7,rfl,hp7,au⟩;obtain⟨ag,aC⟩:=qX au (Hb.an ag);have Hp7:=az hp7;clear hp7;have sz7:=ag.1.out.size;obtain⟨W8,TA,bi,ag,aC⟩:=cM w7 ag 24 [ah (k:Int),.slice a7 nL d7];have HL:Hid (bI W8 a7 d7 LF):=Hp7.out.below (by first|exact zl| (rw[<-TA];exact zl));go_upto_region 21 with fail
       have t1:W8.cell? ⟨w7.heap.size,1,none⟩=some (.slice a7 nL d7):=ag.1.out.cell 1;have t0:W8.cell? ⟨w7.heap.size,0,none⟩=some (ah (k:Int)):=ag.1.out.cell 0;have P0:=t0;have P1:=t1;obtain⟨W9,TB,bi,ag,aC⟩:=cM W8 (HL.an ag) 24 [ah (k:Int),.slice a7 nL d7];have uq:=ownsRow_below Ho.out (aO fA.out ag.2.2.2.1.out);have hs9:=ag.2.2.2.1.out.size;go_wp2_with (at_builtin;refine wpList_append_own_at _ rfl _ _ 86 rfl W4.heap.size 24 j0 _ 2 32 Tryz.underlying86 Hj.out kP.out lN.out kj.out rfl zd v (i+1) (ps.flatMap nQ) rfl uq ⟨W8.heap.size,0,none⟩ 1 1 [ah (k:Int),.slice a7 nL d7] rfl rfl (gK ag.1.out) zy zx zo zo ?_;intro v' iI Jc DZ _ eY;obtain⟨g',sj,rfl⟩:=ownsRow_succ Jc);have hvb:∀g,v.ownBlock=some g->g<wo.heap.size:=λg e=>(hvl g e).2;have aAe:g'≠w7.heap.size:=by
        rcases eY with h|h
        . have:=hvb g' h.symm;omega
        . have h9:g'=W9.heap.size:=Option.some.inj h;have:=ag.2.2.1.out.lt;omega
       have Jz:some w7.heap.size≠v.ownBlock:=λe=>by have:=hvb _ e.symm;omega
       have Ve:∀g,v.ownBlock=some g->∃cur t,W9.heap[g]?=some (.cells cur t)/\t≠67:=λg e=>by obtain⟨cur,t,h1,h2⟩:=auk uq g e;exact⟨cur,t,h1,by rw[h2];decide⟩
       have aeQ:=ag.2.2.1.out.grown DZ Jz;have Uw:=ag.2.1.out.grown DZ Ve;have aeq:=(Lz.out.below (aO fA.out ag.2.2.2.1.out)).grown DZ Ve;have aer:=Hap.out _ _ _ aeq Uw;have wX:=(aO aX.out (aO fA.out ag.2.2.2.1.out)).grown DZ zo (λj e=>dz uq j e);have e10:ps.flatMap nQ++[ah (k:Int),.slice a7 nL d7]=(ps++[(⟨(k:Int),a7,nL,d7⟩:Pv)]).flatMap nQ:=by rw[List.flatMap_append];rfl
       rw[e10]at Jc;have hwk:Bw w iI:=aO dM.out wX;have hlg:g'<iI.heap.size:=(Cq Jc).2;obtain⟨Zz,mK,QN,LI,akr,ai6⟩:=fw Jc wX aer hwk Uw (HT.out.below hwk);have aBK:=DZ.size;have Ht:Hid (aH iI w7.heap.size 24 [ah (k:Int),.slice a7 nL d7]):=aeQ;clear P0 P1 Jc wX aeq aer hwk aeQ Uw eY Jz e10 uq DZ Ve hvb;have Hb:=hbz iI;obtain⟨ag,aC⟩:=qZ (Ht.an trivial);have HL:Hid (bI iI a7 d7 LF):=akr.out;have aBb:=ag.1.out.lt;go_upto_region 22 with fail
       go_cut[17] (λWO wx=>∃(g:Nat) (a:Option Addr) (d:Nat),WO=.pointer (some ⟨g,0,none⟩)/\iI.heap.size<=g/\aH wx g 24 [ah (k:Int),.slice a nN d]/\bI wx a d NF/\Bw iI wx);case first=>
        have HL0:=HL;obtain⟨Ht,_⟩:=ag;obtain⟨t0,t1⟩:=Ht.out.c2;have fy:∀w',dJ iI w'->aV w' (w7.heap.size) 0 (ah (k:Int))/\aV w' (w7.heap.size) 1 (.slice a7 nL d7):=λw' h=>⟨cell_later h t0,cell_later h t1⟩;refine uI (λw'=>dJ iI w') (λi=>Nat.blt i 8) 6 24 [ah 0,.slice none 0 0] [(0,true),(1,false),(2,false),(3,true),(4,true),(5,true)] [(7,false),(8,false)] zk zk rfl rfl rfl zk zk zc zc (λK a w h=>uy rfl rfl (λK' hK=>by go_simp;exact hK _ _ h)) ?_;clear t0 t1 Ht HL;intro ax6 au;replace Hb:=az (aO Hb.out au);refine⟨Hb.out,?_⟩;refine jZ rfl rfl (v:=?_) (λw' hw'=>?_) ?_;rotate_left;(focus have hw':=fy w' hw';obtain⟨q0,q1⟩:=hw';go_simp;try with_reducible rfl);try simp only[UU]
        refine jN rfl rfl (λK hK=>?_);go_simp;with_reducible refine(mM.out _ (aO LI.out Hb.out)).mono ?_
        rintro e w9 ⟨rfl,hq⟩;refine hK _ _ hq (λPj au hb2=>?_);replace Hb:=az (aO Hb.out au);refine⟨Hb.out,?_⟩;clear au hb2 hq hK K;try simp only[UU]
        refine jN rfl rfl (λK hK=>?_);go_simp;with_reducible refine(Rb.out a7 d7 _ (aO LI.out Hb.out) (HL0.out.below Hb.out)).mono ?_
        rintro e w9 ⟨a12,d12,rfl,UN,hq⟩;refine hK _ _ hq (λsQ au hb2=>?_);have qX:=az (UN.below hb2);clear UN;replace Hb:=az (aO Hb.out au);refine⟨Hb.out,?_⟩;clear au hb2 hq hK K;have HX:=qX;clear qX;try simp only[UU]
        iterate 3 (refine jZ rfl rfl (v:=?_) (λw' hw'=>?_) ?_;rotate_left;(focus go_simp;try with_reducible rfl);try simp only[UU])
        intro XF hb0 qx;have Hz:=az qx;clear qx;obtain⟨z0,GM,z1,Bj⟩:=Hz.out.g2;try simp only[U1]
        try simp only[Act.put,U2,U3]
        refine aY rfl rfl (λK hK=>?_);go_simp;refine hK _ _ (λ_=>by first|exact((Hb.out.setCell zp _).setCell zp _) |exact(((Hb.out.setCell zp _).setCell zp _).setCell zp _)) ?_;try simp only[UU]
        refine aY rfl rfl (λK hK=>?_);go_simp;refine hK _ _ (λh=>absurd h zd) ?_;try simp only[UU]
        simp only[bP];go_wp2_with fail;go_meet;exact⟨XF,_,_,rfl,hb0,(Hz.out.set 0 _).set 1 _,HX.out.store Hz.out zd _ _,(Hb.out.setCell zp _).setCell zp _⟩
       case rest=>
        obtain⟨g17,Gp,Gz,rfl,aAd,ac7,aet,hbc⟩:=hcut;have hov:=ownsRow_below Zz.out hbc;obtain⟨AQ,Ba,ky,UX,_⟩:=(QN.out.below hbc) 0 zm;rw[Fv.out]at ky UX;rw[HnF.out]at ky;obtain⟨aa,ca,uq,DR,_⟩:=dm hov;simp only[Value.slice.injEq,true_and]at uq;obtain⟨rfl,rfl⟩:=uq;obtain⟨b9,o9,e9,pq⟩:=DR.aCp 0 zm ky;simp only[Option.some.injEq,Addr.mk.injEq,and_true]at e9;obtain⟨rfl,rfl⟩:=e9;rw[Nat.zero_mul,Nat.zero_add]at pq;have hgb:=Cq hov;have hpc:=QN.out.below hbc;obtain⟨dA,kL⟩:=aU hov hpc;have Hx:Hid (bA wc g' 0 [ah (k:Int),.slice AQ nF Ba]):=pq;have Hz:Hid (aH wc g17 24 [ah (k:Int),.slice Gp nN Gz]):=ac7;obtain⟨ye,Rn,alo,alp,EZ⟩:=fH (aO mK.out hbc) (aO LI.out hbc) UX aet (HT.out.below (aO LI.out hbc));have szc:=hbc.size;clear hov DR ky pq hpc ac7 UX aet hbc Zz QN HL Hb ai6;have VA:=zI (i+1+1) sj 0 0 (rfl:(some ⟨g',0,none⟩:Option Addr)=_) zo rfl;rw[Nat.zero_mul,Nat.add_zero]at VA;have Hb:=hbz wc;obtain⟨ag,aC⟩:=qZ (Hx.an<|Hz.an trivial);have HF:Hid (bI wc AQ Ba FF):=alo.out;have HN:Hid (bI wc Gp Gz NF):=alp.out;go_wp2_with fail;obtain⟨Hx,Hz,_⟩:=ag;have x0:wc.cell? ⟨g',0,none⟩=some (ah (k:Int)):=Hx.out.cell 0 zm;have x1:wc.cell? ⟨g',1,none⟩=some (.slice AQ nF Ba):=Hx.out.cell 1 zm;obtain⟨z0,z1⟩:=Hz.out.c2;refine ez (λw'=>aV w' g17 0 (ah (k:Int))/\aV w' g17 1 (.slice Gp nN Gz)) (λi=>Nat.blt i 100000) [(0,true),(1,true),(2,true),(4,true),(3,false),(5,false),(6,false),(7,true),(8,true),(9,true),(10,true),(11,false)] zk zk rfl zk zc ⟨z0,z1⟩ ?_;iterate 4 (refine pT rfl rfl ?_ (by intro w' ⟨q0,q1⟩;go_simp;try with_reducible rfl);try simp only[UU])
        refine aY rfl rfl (λK hK=>?_);go_simp;refine hK _ _ (λ_=>⟨z0,z1⟩) ?_;try simp only[UU]
        refine aY rfl rfl (λK hK=>?_);go_simp;refine hK _ _ (λ_=>⟨bg z0,bg z1⟩) ?_;try simp only[UU]
        refine cL (λyx=>aH yx (wc.heap.size) 24 [ah (k:Int),.slice AQ nF Ba,ah (k:Int),.slice Gp nN Gz]/\Bw wc yx) (by first|exact fI|exact fJ) ?_;rintro yx ⟨qc,au⟩;have aBw:=Hz.out.lt;replace Hx:=kW Hx au;replace Hz:=kB Hz au;replace HF:=az (HF.out.below au);replace HN:=az (HN.out.below au);have Hc:=az qc;clear qc;have x0:yx.cell? ⟨g',0,none⟩=some (ah (k:Int)):=Hx.out.cell 0 zm;have x1:yx.cell? ⟨g',1,none⟩=some (.slice AQ nF Ba):=Hx.out.cell 1 zm;obtain⟨z0,z1⟩:=Hz.out.c2;obtain⟨c0,c1,c2,c3⟩:=Hc.out.c4;replace Hb:=bD Hb au;refine aY rfl rfl (λK hK=>?_);go_simp;with_reducible refine(PN.out AQ Ba Gp Gz _ (by first|exact aO Rn.out Hb.out|exact aO Rn.out Hb.out.drew) _ Hc.out HF.out HN.out).mono ?_
        rintro e Kr ⟨RF,Sk,rfl,aes,hq⟩;have au:Bw yx Kr:=by first|exact hq|exact df hq
        replace Hx:=kW Hx au;replace Hz:=kB Hz au;replace HF:=az (HF.out.below au);replace HN:=az (HN.out.below au);replace Hc:=kB Hc au;have x0:Kr.cell? ⟨g',0,none⟩=some (ah (k:Int)):=Hx.out.cell 0 zm;have x1:Kr.cell? ⟨g',1,none⟩=some (.slice AQ nF Ba):=Hx.out.cell 1 zm;obtain⟨z0,z1⟩:=Hz.out.c2;obtain⟨c0,c1,c2,c3⟩:=Hc.out.c4;replace Hb:=bD Hb au;refine hK _ _ (λ_=>⟨z0,z1⟩) ?_;try simp only[UU]
        iterate 4 (refine pT rfl rfl ?_;try simp only[UU])
        refine aY rfl rfl (λK hK=>?_);have NR:=ownsRow_below dA.out Hb.out;have GM:=pz NR 0;have Bj:=pz NR 1;have ac6:=aO ye.out Hb.out;obtain⟨ZB,ajp,alf,ak7⟩:=dP NR ac6 (kL.out.below Hb.out) aes;clear NR ac6 aes;go_simp;refine hK _ _ (λ_=>⟨aQ (.inl zp) (aQ (.inl zp) z0),aQ (.inl zp) (aQ (.inl zp) z1)⟩) ?_;try simp only[UU]
        iterate 0 skip
        simp only[bP];go_wp2;go_roundw;case rel=>
         obtain⟨cur,IG⟩:=agk ZB.out;have dh:=mr ZB.out 0 (ah (k:Int));obtain⟨azh,ads⟩:=agk dh;have dX:=mr dh 1 (.slice RF nG Sk);rw[avl]at dX;refine⟨i+1,_,(ps++[(⟨(k:Int),a7,nL,d7⟩:Pv)]).set 0 ⟨(k:Int),RF,nG,Sk⟩,by omega,by go_num,rfl,by simp[oM.out],dX,?_,?_⟩
         . exact cu.out _ _ RF Sk ((alf.out.off IG zd 0 _).off ads zd 1 _) ((ak7.out.off IG zd 0 _).off ads zd 1 _)
         . exact(ajp.out.setCell hgb.1 _).setCell hgb.1 _
        case measure=>exact bH
  . obtain rfl:i=n:=by omega
    obtain⟨ary,ho',arx,aX⟩:=dP hpo ho hpl (aO dM.out pb);clear ho pb hpo hpl;go_wp2;obtain⟨a',c',e1,h1,h2⟩:=dm ho'.out;subst e1;have hcc:i+1<=c':=by
     rcases ho'.out.2 with⟨h,h0⟩ |⟨g9,azg,azj,h,_,_,h6,_⟩
     . omega
     . simp only[Value.slice.injEq,true_and]at h;omega
    exact bodyPost_ret (v:=.tuple #[.slice a' (i+1) c',ah 0]) (by simp[results,Tryz.results74,go_sem]) rfl ⟨a',c',ps,rfl,hcc,arx.out,h1,ary.out,aX.out⟩
end Go.Proofs.YtnjfebkelecgaaaGreatDoor
