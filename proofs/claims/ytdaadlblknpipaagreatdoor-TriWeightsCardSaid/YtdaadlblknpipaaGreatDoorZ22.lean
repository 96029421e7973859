/- Package tri: Weights,where there are none;Has. -/
import Derived.Test.YtdaadlblknpipaaGreatDoorZ21
import Derived.Test.YtdaadlblknpipaaGreatDoorZ17
set_option linter.unusedVariables false
set_option linter.unusedSimpArgs false
set_option maxRecDepth 100000
set_option maxHeartbeats 16000000
namespace Go.Proofs.YtdaadlblknpipaaGreatDoor
open Go.RowKit
attribute [local go_sem ↓] Go.wp_at_zero Go.wp_at_succ
theorem NQ (a:Option Addr)(L cap:Nat)(rows:List (List Raw))(B:Nat)(w:World)(hL:rows.length=L)(lF:L<=5)(hcap:L<=cap)(ha:bo w a rows)(hfit:∀r∈rows,∀c∈r,Fit B c)(hB:B<=200000)(hT:aF w):
 Calls Tryz.prog 55 #[.slice a L cap] w λe w'=>(∃X a' n' c',e=.returned (.tuple #[bH X,.slice a' n' c',.int .i64 (fD rows)]))/\Bw w w':=by
 by_cases h0:fD rows=0
 . have hv:eo rows≠0:=λh=>by unfold fD at h0;rw[if_pos h]at h0;omega
   obtain⟨c1,c2,c3,c4⟩:=wy rfl hv;obtain⟨m,hm⟩:∃m:Nat,eo rows=(m:Int)+1:=⟨(eo rows-1).toNat,by omega⟩;have mF:L=m+1+1:=by omega
   subst mF;refine(NR a cap m rows B w zo ⟨by omega,λr hr=>by have:=c4 r hr;omega,hfit⟩ hcap ha hB hT h0).mono ?_;rintro e w1 ⟨a1,c1,rfl,hc1,ht1,ae⟩;exact⟨⟨_,_,_,_,by rw[h0]⟩,ae⟩
 . refine(aim a L cap rows B (fD rows) w hL lF hcap ha hfit zo hT rfl h0).mono ?_;rintro e w1 ⟨rfl,ae⟩;exact⟨⟨0,_,_,_,rfl⟩,ae⟩
theorem ZX (a:Option Addr)(L cap:Nat)(rows:List (List Raw))(B:Nat)(xa:Option Addr)(xn xc:Nat)(w:World)(hL:rows.length=L)(lF:L<=5)(hcap:L<=cap)(ha:bo w a rows)(hfit:∀r∈rows,∀c∈r,Fit B c)(hB:B<=200000)(hT:aF w)(h0:eo rows=0\/(xn:Int)≠(L:Int)-1):
 Calls Tryz.prog 22 #[.slice a L cap,.slice xa xn xc] w λe w'=>e=.returned (.tuple #[.slice none 0 0,.int .i64 1])/\Bw w w':=by
 have gB:=λW (hW:Bw w W)=>NQ a L cap rows B W hL lF hcap (ha.below hW) hfit hB (hT.below hW);have lK:=λW (hW:Bw w W)=>Bb a L cap rows W hL zo (ha.below hW);obtain⟨v,hv⟩:=aB (eo rows);obtain⟨c,hc⟩:=aB (fD rows);rw[hv]at lK h0;rw[hc]at gB;have hz:((v==0)=true)\/((v==0)=false/\((xn:Int) !=(L:Int)-1)=true):=by
  by_cases h:v=0
  . exact .inl (by simpa using h)
  . refine .inr ⟨by simpa using h,?_⟩;rcases h0 with h1|h1
    . exact absurd h1 h
    . simpa using h1
 obtain⟨iU,wY⟩:=aM gB lK;clear gB lK ha hT hfit hL hv hc h0;have Hb:Hid (Bw w w):=Below.refl _ _;go_enter Tryz.func22,Tryz.ntmps22;go_wp2_with fail;refine(iU.out _ Hb.out).mono ?_;rintro e w1 ⟨⟨X,a1,n1,c1,rfl⟩,ae⟩;replace Hb:=az Hb ae;clear ae;obtain⟨W2,mH,ae,Hd⟩:=cS w1 30 [.bool (ar (dN X)),.string (bs (nt (dN X).natAbs)),.int .i64 (dE X)];obtain⟨d0,d1,d2⟩:=Hd.out.c3;replace Hb:=az Hb ae;clear ae;go_wp2_with fail;refine(wY.out _ Hb.out).mono ?_;rintro e w3 ⟨rfl,ae⟩;clear d0 d1 d2;replace Hd:=kB Hd ae;obtain⟨d0,d1,d2⟩:=Hd.out.c3;replace Hb:=az Hb ae;clear ae;rcases hz with hz|⟨hz,hz2⟩
 . go_wp2;clear d0 d1 d2;refine fy (λw9=>ak w9 (w1.heap.size) 30 [.bool (ar (dN X)),.string (bs (nt (dN X).natAbs)),.int .i64 (dE X)]/\Bw w w9) ⟨Hd.out,Hb.out⟩ ?_;rintro w9 ⟨qd,ae⟩;replace Hd:=ah qd;clear qd;obtain⟨d0,d1,d2⟩:=Hd.out.c3;replace Hb:=ah ae;clear ae;refine bodyPost_ret (v:=.tuple #[.slice none 0 0,.int .i64 1]) (by simp[results,Tryz.results22,go_sem]) rfl ⟨rfl,Hb.out⟩
 . go_wp2;clear d0 d1 d2;refine fy (λw9=>ak w9 (w1.heap.size) 30 [.bool (ar (dN X)),.string (bs (nt (dN X).natAbs)),.int .i64 (dE X)]/\Bw w w9) ⟨Hd.out,Hb.out⟩ ?_;rintro w9 ⟨qd,ae⟩;replace Hd:=ah qd;clear qd;obtain⟨d0,d1,d2⟩:=Hd.out.c3;replace Hb:=ah ae;clear ae;refine bodyPost_ret (v:=.tuple #[.slice none 0 0,.int .i64 1]) (by simp[results,Tryz.results22,go_sem]) rfl ⟨rfl,Hb.out⟩
theorem anh (a:Option Addr)(n cap:Nat)(rows:List (List Raw))(B:Nat)(c:Int)(xa:Option Addr)(xc:Nat)(w:World)(hL:rows.length=n+1)(lF:n+1<=5)(hcap:n+1<=cap)(ha:bo w a rows)(hfit:∀r∈rows,∀c∈r,Fit B c)(hB:B<=200000)(hT:aF w)(hv:eo rows=(n:Int))(hn:1<=n)(hc:fD rows=c)(h0:c≠0):
 Calls Tryz.prog 22 #[.slice a (n+1) cap,.slice xa n xc] w λe w'=>e=.returned (.tuple #[.slice none 0 0,.int .i64 c])/\Bw w w':=by
 have gB:=λW (hW:Bw w W)=>NQ a (n+1) cap rows B W hL lF hcap (ha.below hW) hfit hB (hT.below hW);have lK:=λW (hW:Bw w W)=>Bb a (n+1) cap rows W hL zo (ha.below hW);rw[hv]at lK;rw[hc]at gB;have hz:((n:Int)==0)=false:=by simp;omega
 have hz2:((n:Int) !=(n:Int)+1-1)=false:=by simp
 have hz3:(c !=0)=true:=by simpa using h0
 obtain⟨iU,wY⟩:=aM gB lK;clear gB lK ha hT hfit hL hv hc h0;have Hb:Hid (Bw w w):=Below.refl _ _;go_enter Tryz.func22,Tryz.ntmps22;go_wp2_with fail;refine(iU.out _ Hb.out).mono ?_;rintro e w1 ⟨⟨X,a1,n1,c1,rfl⟩,ae⟩;replace Hb:=az Hb ae;clear ae;obtain⟨W2,mH,ae,Hd⟩:=cS w1 30 [.bool (ar (dN X)),.string (bs (nt (dN X).natAbs)),.int .i64 (dE X)];obtain⟨d0,d1,d2⟩:=Hd.out.c3;replace Hb:=az Hb ae;clear ae;go_wp2_with fail;refine(wY.out _ Hb.out).mono ?_;rintro e w3 ⟨rfl,ae⟩;clear d0 d1 d2;replace Hd:=kB Hd ae;obtain⟨d0,d1,d2⟩:=Hd.out.c3;replace Hb:=az Hb ae;clear ae;go_wp2;clear d0 d1 d2;refine fy (λw9=>ak w9 (w1.heap.size) 30 [.bool (ar (dN X)),.string (bs (nt (dN X).natAbs)),.int .i64 (dE X)]/\Bw w w9) ⟨Hd.out,Hb.out⟩ ?_;rintro w9 ⟨qd,ae⟩;replace Hd:=ah qd;clear qd;obtain⟨d0,d1,d2⟩:=Hd.out.c3;replace Hb:=ah ae;clear ae;refine bodyPost_ret (v:=.tuple #[.slice none 0 0,.int .i64 c]) (by simp[results,Tryz.results22,go_sem]) rfl ⟨rfl,Hb.out⟩
noncomputable def Bd (rows:List (List Raw)) (xn:Nat):Int:=if eo rows=0\/(xn:Int)≠eo rows then 1 else fD rows
theorem ZW (a:Option Addr)(L cap:Nat)(rows:List (List Raw))(B:Nat)(c:Int)(xa:Option Addr)(xn xc:Nat)(w:World)(hL:rows.length=L)(lF:L<=5)(hcap:L<=cap)(ha:bo w a rows)(hfit:∀r∈rows,∀c∈r,Fit B c)(hB:B<=200000)(hT:aF w)(hc:Bd rows xn=c)(h0:c≠0):
 Calls Tryz.prog 22 #[.slice a L cap,.slice xa xn xc] w λe w'=>e=.returned (.tuple #[.slice none 0 0,.int .i64 c])/\Bw w w':=by
 unfold Bd at hc;by_cases hv:eo rows=0
 . rw[if_pos (.inl hv)]at hc;subst hc;exact ZX a L cap rows B xa xn xc w hL lF hcap ha hfit hB hT (.inl hv)
 . obtain⟨c1,c2,c3,c4⟩:=wy rfl hv;by_cases hx:(xn:Int)=eo rows
   . rw[if_neg zo]at hc;have e:L=xn+1:=by omega
     subst e;exact anh a xn cap rows B c xa xc w hL lF hcap ha hfit hB hT hx.symm zo hc h0
   . rw[if_pos (.inr hx)]at hc;subst hc;exact ZX a L cap rows B xa xn xc w hL lF hcap ha hfit hB hT (.inr zo)
def kQ (ds:List Dyadic):Bool:=ds.all λd=>decide (0<=bZ d)
theorem aj3 (D:List Dyadic)(k:Nat)(hk:k<D.length)(h:kQ (D.take k)=true)(h2:0<=bZ D[k]):kQ (D.take (k+1))=true:=by unfold kQ at h⊢;rw[List.take_add_one,List.all_append,h];simp[hk,h2]
theorem aj2 (D:List Dyadic)(k:Nat)(hk:k<D.length)(h2:¬0<=bZ D[k]):kQ D=false:=by unfold kQ;rw[Bool.eq_false_iff];intro h;have:=List.all_eq_true.1 h _ (List.getElem_mem hk);simp at this;exact h2 this
theorem UT (s x:Value)(D:List Dyadic)(B:Nat)(c:Int)(w:World)(hD:∀d∈D,Sm B d)(hB:B<=268435456)(hD6:D.length<=60)(hw:∀W,Bw w W->Calls Tryz.prog 22 #[s,x] W λe w'=>∃a' c',e=.returned (.tuple #[.slice a' D.length c',.int .i64 c])/\At w' a' (dC D)/\Bw W w'):
 Calls Tryz.prog 26 #[s,x] w λe w'=>e=.returned (.bool (kQ D&&c==0))/\Bw w w':=by
 obtain⟨N,hN⟩:=aB D.length;rw[hN]at hw hD6;obtain⟨Hw,HN,HD⟩:=cX hw hN hD;clear hw hN hD;have Hb:Hid (Bw w w):=Below.refl _ _;go_enter Tryz.func26,Tryz.ntmps26;go_wp2_with fail;refine(Hw.out _ Hb.out).mono ?_;rintro e w1 ⟨a1,c1,rfl,hat,ae⟩;obtain⟨fx,bU⟩:=aM hat (aK Hb.out ae);clear ae hat Hb;go_wp2_with fail;go_loopw[17] (λu wr=>∃k:Nat,k<=N/\u=.int .i64 (k:Int)/\kQ (D.take k)=true/\Bw w1 wr) (λu _=>N-(intOf u).toNat);case atStart=>exact⟨0,Nat.zero_le _,rfl,rfl,Below.refl _ _⟩
 case round=>
  obtain⟨k,hk,rfl,pn,pb⟩:=hrel;obtain⟨lu,aQ⟩:=aM pn pb;clear pn;by_cases hlt:k<N
  . have Nf:k<D.length:=by rw[HN.out];exact hlt
    have VS:k<(D.map canon).length:=by rw[List.length_map];exact Nf
    obtain⟨d,hd⟩:=aB (D[k]);have hat':=fx.out.below pb;rw[pq]at hat';obtain⟨bx,ox,rfl,p0,p1,p2⟩:=hat'.num k VS (show(D.map canon)[k]=(ar (dN d),nt (dN d).natAbs,dE d)by rw[<-hd];simp;rfl);have Xo:=jC N c1 k (k:Int) (rfl:(some ⟨bx,ox,none⟩:Option Addr)=_) hlt rfl;have fH:∀W,Calls Tryz.prog 37 #[.agg #[.bool (ar (dN d)),.string (bs (nt (dN d).natAbs)),.int .i64 (dE d)]] W λex w'=>ex=.returned (.int .i64 (bZ d))/\Bw W w':=λW=>nU _ _ _ (bZ d) (by show bZ (aC (canon d))=_;rw[bP]) W ((HD.out d (by rw[<-hd];exact List.getElem_mem _)).ok hB);obtain⟨Hd,iV⟩:=aM hd fH;obtain⟨g,hg⟩:=aB (bZ d);rw[hg]at iV;have Hg:=ah hg;have NW:bx<wr.heap.size:=World.block_lt_of_cell? wr _ p0;have Hb:Hid (Bw wr wr):=Below.refl _ _;clear hd fH hg pb hat' VS;have P0:=p0;have P1:=p1;have P2:=p2;obtain⟨W2,mH,ae,Hy⟩:=cS wr 30 [.bool (ar (dN d)),.string (bs (nt (dN d).natAbs)),.int .i64 (dE d)];obtain⟨y0,y1,y2⟩:=Hy.out.c3;replace Hb:=az Hb ae;clear ae;go_wp2_with fail;refine(iV.out _).mono ?_;rintro e w3 ⟨rfl,ae⟩;clear y0 y1 y2;replace Hy:=kB Hy ae;obtain⟨y0,y1,y2⟩:=Hy.out.c3;replace Hb:=az Hb ae;clear ae;have ey:=ah (aK aQ.out Hb.out);by_cases MR:g<0
    . go_wp2;go_ret;refine⟨by rw[aj2 D k Nf (by rw[Hd.out,Hg.out];omega)];rfl,aK bU.out ey.out⟩
    . go_wp2;go_roundw;case rel=>exact⟨k+1,by omega,by go_num,aj3 D k Nf lu.out (by rw[Hd.out,Hg.out];omega),ey.out⟩
      case measure=>simp[intOf];omega
  . obtain rfl:k=N:=by omega
    have hall:kQ D=true:=by have:=lu.out;rwa [<-HN.out,List.take_length]at this
    have wG:=ah hall;clear hall pb;go_wp2;go_ret;exact⟨by rw[wG.out];rfl,aK bU.out aQ.out⟩
theorem Qg {n B:Nat}{p:Nat->Nat->Dyadic}{x:Nat->Dyadic}(hn:1<=n)(bI:n<=4)(h:∀a b,a<=n->b<n->Sm B (p a b))(hx:∀b,b<n->Sm B (x b)):∀d∈gX n p x,Sm (5*B+20) d:=by
 intro d hd;unfold gX at hd;obtain⟨i,hi,rfl⟩:=List.mem_map.1 hd;rw[List.mem_range]at hi;rcases i with _|i
 . rw[<-Qc n hn bI];exact(Qb hn bI h hx n (Nat.le_refl _)).mono zo
 . exact(aab hn bI h hx i zo).mono zo
theorem OS {n B:Nat}{rows:List (List Raw)}(hr:Rw n B rows)(a b:Nat)(ha:a<=n)(hb:b<n):Sm B (bJ rows a b):=by have hL:=hr.1;rw[sH rows a b zo (by rw[hr.2.1 _ (List.getElem_mem _)];exact hb)];exact(hr.2.2 _ (List.getElem_mem _) _ (List.getElem_mem _)).2
theorem aac {n B:Nat}{xs:List Raw}(hxl:xs.length=n)(vI:∀x∈xs,Fit B x)(b:Nat)(hb:b<n):Sm B (fE xs b):=by rw[Jh xs b zo];exact(vI _ (List.getElem_mem _)).2
theorem UR (a:Option Addr)(cap m:Nat)(rows:List (List Raw))(B:Nat)(xa:Option Addr)(xc:Nat)(xs:List Raw)(w:World)(hm:m+1<=4)(hr:Rw (m+1) B rows)(hcap:m+1+1<=cap)(ha:bo w a rows)(hx:At w xa (xs.flatMap bA))(hxl:xs.length=m+1)(vI:∀x∈xs,Fit B x)(hB:B<=200000)(hT:aF w)(h0:fD rows=0):
 Calls Tryz.prog 26 #[.slice a (m+1+1) cap,.slice xa (m+1) xc] w λe w'=>e=.returned (.bool (kQ (gX (m+1) (bJ rows) (fE xs))))/\Bw w w':=by
 have h:=UT (.slice a (m+1+1) cap) (.slice xa (m+1) xc) (gX (m+1) (bJ rows) (fE xs)) (5*B+20) 0 w (Qg zo hm (OS hr) (aac hxl vI)) zo (by simp[gX];omega) (λW hW=>by
  refine(Qd a cap m rows B xa xc xs W hm hr hcap (ha.below hW) (hx.below hW) hxl vI hB (hT.below hW) h0).mono ?_;rintro e w1 ⟨a1,c1,rfl,hc1,ht1,ae⟩
  exact⟨a1,c1,by simp[gX],ht1,ae⟩)
 simpa using h
theorem aha (a:Option Addr)(L cap:Nat)(rows:List (List Raw))(B:Nat)(xa:Option Addr)(xn xc:Nat)(w:World)(hL:rows.length=L)(lF:L<=5)(hcap:L<=cap)(ha:bo w a rows)(hfit:∀r∈rows,∀c∈r,Fit B c)(hB:B<=200000)(hT:aF w)(h0:Bd rows xn≠0):
 Calls Tryz.prog 26 #[.slice a L cap,.slice xa xn xc] w λe w'=>e=.returned (.bool false)/\Bw w w':=by
 have h:=UT (.slice a L cap) (.slice xa xn xc) [] 0 (Bd rows xn) w zm zo zm (λW hW=>by
  refine(ZW a L cap rows B _ xa xn xc W hL lF hcap (ha.below hW) hfit hB (hT.below hW) rfl h0).mono ?_;rintro e w1 ⟨rfl,ae⟩
  exact⟨none,0,rfl,.inl rfl,ae⟩)
 have hz:(Bd rows xn==0)=false:=by simpa using h0
 rw[hz,Bool.and_false]at h;exact h
theorem LL {V B:Nat}{l:List aL}(hV:V<=12)(hm:∀t∈l,gj t.1 V=true)(hl:l.length<=4096)(hs:∀x∈l,Sm B (aC x.2))(hB:B+l.length<=268435456):gZ V (B+l.length) (bF l):=by refine⟨ae2 hV hm hl,λt ht=>?_⟩;have h1:=ae3 hs t ht;have h2:=((zJ l).2 t ht).2;rw[h2];exact h1.fit hB
theorem gZ.mono {V B B':Nat}{ts:List aL}(h:gZ V B ts)(hB:B<=B'):gZ V B' ts:=⟨h.1,λt ht=>(h.2 t ht).mono hB⟩
theorem IB {V B:Nat}{c:Dyadic}{l:Nat->Dyadic}{k:Nat}(hV:V<=12)(hk:k<=V)(hc:Sm B c)(hl:∀j,j<k->Sm B (l j))(hB:B+13<=268435456):gZ V (B+13) (dD V c l k):=by have h:=LL (B:=B) hV (aiO V c l k) (by rw[DZ];omega) (aiP V c l k hc hl) (by rw[DZ];omega);rw[DZ]at h;exact h.mono zo
theorem EG {V B:Nat}{k:Nat}{x:Dyadic}(hV:V<=12)(hx:Sm B x)(hB:B+1<=268435456):gZ V (B+1) (bF [(cL V k,canon x)]):=
 LL (l:=[(cL V k,canon x)]) hV (by intro t ht;simp at ht;subst ht;exact PU V k) zm (by intro t ht;simp at ht;subst ht;show Sm B (aC (canon x));rw[bP];exact hx) (by simpa using hB)
theorem Ze (V k:Nat)(x:Dyadic):bF (dX x (bF [(cL V k,canon 1)]))=bF [(cL V k,canon x)]:=by refine zI (λm=>?_);rw[SZ,rM];simp only[cj,bP];split<;>grind
theorem Sv (V B:Nat)(A D C:List aL)(aA aD:Option Addr)(cA cD:Nat)(w:World)(b:Nat)(hb:ak w b 57 [.int .i64 (V:Int),.slice aA A.length cA,.int .i64 (V:Int),.slice aD D.length cD])(hA:bR w aA cA A)(hD:bR w aD cD D)(hfA:gZ V B A)(hfD:gZ V B D)(hn:A.length+D.length<=4096)(hB:B+2+8192<=268435456)(hT:aF w)(hC:bF (A++D)=C):
 Calls Tryz.prog 60 #[.slice (some ⟨b,0,none⟩) 2 2] w λex w'=>∃a' c',ex=.returned (.tuple #[.agg #[.int .i64 (V:Int),.slice a' C.length c'],.int .i64 0])/\bR w' a' c' C/\Bw w w':=by
 refine adx V B b 0 2 2 [⟨V,aA,A.length,cA⟩,⟨V,aD,D.length,cD⟩] (λk=>if k=0 then A else D) C w rfl zd zd (At.aqS hb) ?_ ?_ hB hT ?_
 . intro k hk;rcases k with _|k
   . exact⟨aA,cA,rfl,hA,hfA⟩
   . obtain rfl:k=0:=by simp at hk;omega
     exact⟨aD,cD,rfl,hD,hfD⟩
 . simp[lA];omega
 . simpa[lA]using hC
theorem aiR (V B:Nat)(c:Dyadic)(L:List Dyadic)(l:Nat->Dyadic)(a:Option Addr)(cap:Nat)(w:World)(hV:V<=12)(hL:L.length=V)(hl:∀k (h:k<L.length),l k=L[k])(hcs:Sm B c)(hls:∀x∈L,Sm B x)(hB:B<=100000000)(ha:At w a (dC L))(hT:aF w):
 Calls Tryz.prog 58 #[.agg #[.bool (ar (dN c)),.string (bs (nt (dN c).natAbs)),.int .i64 (dE c)],.slice a V cap] w λex w'=>∃a' c',ex=.returned (.tuple #[.agg #[.int .i64 (V:Int),.slice a' (dD V c l V).length c'],.int .i64 0])/\bR w' a' c' (dD V c l V)/\Bw w w':=by
 have hcn:=λW (hW:Bw w W)=>Ta V (ar (dN c)) (nt (dN c).natAbs) (dE c) c B l W hV (hcs.fit zo) zo (hT.below hW) (bP c);have oD:=λk (hk:k<V) W (hW:Bw w W)=>amS V k W hV hk (hT.below hW);have hlk:∀k,k<V->Sm B (l k):=λk hk=>by rw[hl k zo];exact hls _ (List.getElem_mem _)
 have hsc:=λk (hk:k<V) a' c' (W:World) (hW:Bw w W) (hp:bR W a' c' (bF [(cL V k,canon 1)]))=>Zc V a' c' (bF [(cL V k,canon 1)]) (ar (dN (l k))) (nt (dN (l k)).natAbs) (dE (l k)) (l k) (B+2) W (EG (B:=B+1) hV (Sm.one.mono zo) zo) hp (((hlk k hk).mono zo).fit zo) zo (hT.below hW) (bP _);simp only[Ze]at hsc;have had:=λk (hk:k<V) aA cA aD cD (W:World) (hW:Bw w W) b (hb:ak W b 57 [.int .i64 (V:Int),.slice aA (dD V c l k).length cA,.int .i64 (V:Int),.slice aD (bF [(cL V k,canon (l k))]).length cD]) (hA:bR W aA cA (dD V c l k)) (hD:bR W aD cD (bF [(cL V k,canon (l k))]))=>Sv V (B+13) (dD V c l k) (bF [(cL V k,canon (l k))]) (dD V c l (k+1)) aA aD cA cD W b hb hA hD (IB hV zo hcs (λj hj=>hlk j zo) zo) ((EG (B:=B) hV (hlk k hk) zo).mono zo) (by have h1:=xk (iA V c l k);have h2:=xk [(cL V k,canon (l k))];rw[DZ]at h1;simp at h2;unfold dD;omega) zo (hT.below hW) (Xx V c l k);obtain⟨n0,hn0⟩:=aB ((dD V c l 0).length);rw[hn0]at hcn;obtain⟨sO,zu,gM,sL,Hl,HL,Ha,rJ⟩:=oI hcn oD hsc had hl hL ha hn0;clear hcn oD hsc had hl hL ha hT hlk hls hcs hn0;have Hb:Hid (Bw w w):=Below.refl _ _;go_enter Tryz.func58,Tryz.ntmps58;go_wp2_with fail;obtain⟨R,hR⟩:∃R:World->Prop,(λW=>ak W (w.heap.size) 30 [.bool (ar (dN c)),.string (bs (nt (dN c).natAbs)),.int .i64 (dE c)]/\ak W (w.heap.size+1) 57 [.int .i64 0,.slice none 0 0]/\Bw w W)=R:=⟨_,rfl⟩;first|refine bN R ?hR ?_|refine bL R ?hR ?_
 case hR=>subst hR;exact⟨((ak.newAt w _ _ (b:=w.heap.size) rfl).alloc _),(ak.newAt (w.alloc _) _ _ (b:=w.heap.size+1) zm),(zl.alloc zj _)⟩
 subst hR;rintro W ⟨qc,qr,ae⟩;have Hc:=ah qc;clear qc;have Hr:=ah qr;clear qr;obtain⟨c0,c1,c2⟩:=Hc.out.c3;obtain⟨r0,ai,r1,aj⟩:=Hr.out.g2;replace Hb:=az Hb ae;clear ae;go_wp2_with fail;refine(sO.out _ Hb.out).mono ?_;rintro e w1 ⟨a1,d1,rfl,hp1,ae⟩;clear c0 c1 c2 r0 ai r1 aj;replace Hc:=kB Hc ae;replace Hr:=kB Hr ae;obtain⟨c0,c1,c2⟩:=Hc.out.c3;obtain⟨r0,ai,r1,aj⟩:=Hr.out.g2;replace Hb:=az Hb ae;clear ae;have yX:=Hc;have jE:=Hr;have dK:=Hb;have wR:=ah hp1;clear hp1;have ai9:=Hc.out.lt;have ym:=Hr.out.lt;obtain⟨W2,mH,ae,Ho⟩:=cS w1 57 [.int .i64 (V:Int),.slice a1 n0 d1];clear c0 c1 c2;replace Hc:=kB Hc ae;clear r0 ai r1 aj;replace Hr:=kB Hr ae;obtain⟨c0,c1,c2⟩:=Hc.out.c3;obtain⟨r0,ai,r1,aj⟩:=Hr.out.g2;obtain⟨o0,nj,o1,nk⟩:=Ho.out.g2;replace Hb:=az Hb ae;clear ae;have eH:Hid (bR W2 a1 d1 (dD V c l 0)):=wR.out.below (by first|exact zl| (rw[<-mH];exact zl));have Ql:Hid (Bw w1 W2):=by rw[<-mH];exact zl
 go_wp2_with fail;go_loopw[7,8] (λs7 x wr=>∃(k:Nat) (a':Option Addr) (n' c':Nat),k<=V/\x=.int .i64 (k:Int)/\s7=.int .i64 0/\(dD V c l k).length=n'/\ak wr w1.heap.size 57 [.int .i64 (V:Int),.slice a' n' c']/\bR wr a' c' (dD V c l k)/\Bw w1 wr) (λ_ x _=>V-(intOf x).toNat);case atStart=>exact⟨0,a1,n0,d1,Nat.zero_le _,rfl,rfl,rJ.out,Ho.out,eH.out,Ql.out⟩
 case round=>
  clear c0 c1 c2 o0 o1 r0 r1 nj nk ai aj eH Ql wR Ho Hc Hr Hb;obtain⟨k,a',n',c',hk,rfl,rfl,hn,ho,hp,pb⟩:=hrel;obtain⟨Ho,Hp,aQ,Hn⟩:=dS ho hp pb hn;have dt:=dK.out;have gm:=pb.size;have yJ:=dt.size;by_cases hlt:k<V
  . have Dm:k<(L.map canon).length:=by rw[List.length_map,HL.out];exact hlt
    have hat':=Ha.out.below (aK dK.out pb);rw[pq]at hat';obtain⟨X,hX⟩:=aB (l k);obtain⟨bx,ox,rfl,p0,p1,p2⟩:=hat'.num k Dm (show(L.map canon)[k]=(ar (dN X),nt (dN X).natAbs,dE X)by rw[<-hX,Hl.out k (by simpa using Dm)];simp;rfl);have Xo:=jC V cap k (k:Int) (rfl:(some ⟨bx,ox,none⟩:Option Addr)=_) hlt rfl;have NW:bx<wr.heap.size:=World.block_lt_of_cell? wr _ p0;have oD:=zu.out k hlt;have hsc:=gM.out k hlt;have had:=sL.out k hlt;rw[hn,hX]at had;rw[hX]at hsc;obtain⟨n1,fh⟩:∃n,(bF [(cL V k,canon 1)]).length=n:=⟨_,rfl⟩;obtain⟨n2,lI⟩:∃n,(bF [(cL V k,canon X)]).length=n:=⟨_,rfl⟩;obtain⟨n3,xU⟩:∃n,(dD V c l (k+1)).length=n:=⟨_,rfl⟩;rw[lI,xU]at had;rw[fh,lI]at hsc;rw[fh]at oD;obtain⟨na,uH,JD,Hn3⟩:=dS oD hsc had xU;have Hx:Hid (bB wr bx (ox+k*3) [.bool (ar (dN X)),.string (bs (nt (dN X).natAbs)),.int .i64 (dE X)]):=iB p0 p1 p2;have gu:=ah (aK dK.out pb);clear oD hsc had fh lI xU hat' Dm hX p0 p1 p2 ho hp pb hn dt;have Hb:Hid (Bw wr wr):=Below.refl _ _;have hlo:=Ho.out.lt;obtain⟨o0,nj,o1,nk⟩:=Ho.out.g2;obtain⟨x0,x1,x2⟩:=Hx.out.w3;go_wp2_with fail;refine(na.out _ (aK gu.out Hb.out)).mono ?_;rintro e w3 ⟨a3,d3,rfl,Dy,ae⟩;clear o0 nj o1 nk x0 x1 x2;replace Ho:=kB Ho ae;replace Hx:=kW Hx ae;obtain⟨o0,nj,o1,nk⟩:=Ho.out.g2;obtain⟨x0,x1,x2⟩:=Hx.out.w3;replace Hb:=az Hb ae;clear ae;have oW:=ah Dy;have yK:=Hb.out.size;clear Dy;have apH:=Ho.out.lt;obtain⟨W4,pH,ae,Hv⟩:=cS w3 57 [.int .i64 (V:Int),.slice a3 n1 d3];clear o0 nj o1 nk;replace Ho:=kB Ho ae;clear x0 x1 x2;replace Hx:=kW Hx ae;obtain⟨o0,nj,o1,nk⟩:=Ho.out.g2;obtain⟨x0,x1,x2⟩:=Hx.out.w3;obtain⟨v0,pE,v1,pF⟩:=Hv.out.g2;replace Hb:=az Hb ae;clear ae;have HQ:Hid (bR W4 a3 d3 (bF [(cL V k,canon 1)])):=oW.out.below (by first|exact zl| (rw[<-pH];exact zl));go_wp2_with fail;refine bM (λw'=>w'.cell? ⟨bx,ox+k*3,none⟩=some (.bool (ar (dN X)))/\w'.cell? ⟨bx,ox+k*3+1,none⟩=some (.string (bs (nt (dN X).natAbs)))/\w'.cell? ⟨bx,ox+k*3+2,none⟩=some (.int .i64 (dE X))) (λi=>Nat.blt i 100000) [(1,true),(2,true),(3,true),(4,true),(0,false),(5,false),(6,true),(7,true),(8,true),(9,false)] zk zk rfl zk zc ⟨x0,x1,x2⟩ ?_;iterate 4 (refine pT rfl rfl ?_ (by intro w' ⟨q0,q1,q2⟩;go_simp;try with_reducible rfl);try simp only[UU])
    refine aI rfl rfl (λK hK=>?_);go_simp;refine hK _ _ (λ_=>⟨x0,x1,x2⟩) ?_;clear hK K;try simp only[UU]
    refine aI rfl rfl (λK hK=>?_);go_simp;with_reducible refine(uH.out a3 d3 _ (by first|exact aK gu.out Hb.out|exact aK gu.out Hb.out.drew) (by first|exact HQ.out|exact HQ.out.below (Below.refl _ _).drew)).mono ?_
    rintro e w5 ⟨a5,d5,rfl,Ws,hq⟩;have ae:Bw W4 w5:=by first|exact hq|exact aV hq
    clear o0 nj o1 nk x0 x1 x2 v0 pE v1 pF;replace Ho:=kB Ho ae;replace Hx:=kW Hx ae;replace Hv:=kB Hv ae;replace HQ:=ah (HQ.out.below ae);obtain⟨o0,nj,o1,nk⟩:=Ho.out.g2;obtain⟨x0,x1,x2⟩:=Hx.out.w3;obtain⟨v0,pE,v1,pF⟩:=Hv.out.g2;replace Hb:=az Hb ae;clear ae;refine hK _ _ (λ_=>⟨x0,x1,x2⟩) ?_;clear hK K;try simp only[UU]
    iterate 3 (refine pT rfl rfl ?_;try simp only[UU])
    refine aI rfl rfl (λK hK=>?_);go_simp;refine hK _ _ (by first|exact λh=>absurd h zd|exact λ_=>⟨x0,x1,x2⟩ |exact λ_=>⟨(by first|exact x0|exact aH zf x0|exact aH zf (aH zf x0) |exact aH zf (aH zf (aH zf x0))),(by first|exact x1|exact aH zf x1|exact aH zf (aH zf x1) |exact aH zf (aH zf (aH zf x1))),(by first|exact x2|exact aH zf x2|exact aH zf (aH zf x2) |exact aH zf (aH zf (aH zf x2)))⟩) ?_;clear hK K;try simp only[UU]
    simp only[aZ];have yb:=Hv.out;generalize Da:(w5.setCell ⟨w3.heap.size,0,none⟩ (.int .i64 (V:Int))).setCell ⟨w3.heap.size,1,none⟩ (.slice a5 n2 d5)=W6;have Wt:bR W6 a5 d5 (bF [(cL V k,canon X)]):=by rw[<-Da];exact Ws.store yb zd _ _
    have Dx:ak W6 w1.heap.size 57 [.int .i64 (V:Int),.slice a' n' c']:=by rw[<-Da];exact(Ho.out.so w3.heap.size 0 zo _).so w3.heap.size 1 zo _
    have cG:ak W6 w3.heap.size 57 [.int .i64 (V:Int),.slice a5 n2 d5]:=by rw[<-Da];exact(yb.set 0 _).set 1 _
    have Vd:Bw wr W6:=by rw[<-Da];exact(Hb.out.setCell yK _).setCell yK _
    replace Ho:=ah Dx;replace Hv:=ah cG;replace Hb:=ah Vd;have Hp6:=ah Wt;clear Dx cG Vd Wt Ws yb Da o0 o1 nj nk v0 v1 pE pF x0 x1 x2;obtain⟨o0,nj,o1,nk⟩:=Ho.out.g2;obtain⟨v0,v1⟩:=Hv.out.c2;have P0:=o0;have P1:=o1;have Q0:=v0;have Q1:=v1;have apI:=Ho.out.lt;have ap2:=Hv.out.lt;obtain⟨W7,ag6,ae,Hz⟩:=cS W6 57 [.int .i64 (V:Int),.slice a' n' c',.int .i64 (V:Int),.slice a5 n2 d5];clear o0 nj o1 nk;replace Ho:=kB Ho ae;clear v0 v1;replace Hv:=kB Hv ae;obtain⟨o0,nj,o1,nk⟩:=Ho.out.g2;obtain⟨v0,v1⟩:=Hv.out.c2;obtain⟨z0,z1,z2,z3⟩:=Hz.out.c4;replace Hb:=az Hb ae;clear ae;have HP:Hid (bR W7 a' c' (dD V c l k)):=Hp.out.below Hb.out;have HS:Hid (bR W7 a5 d5 (bF [(cL V k,canon X)])):=Hp6.out.below (by first|exact zl| (rw[<-ag6];exact zl));go_wp2_with fail;clear P0 P1 Q0 Q1;go_wp2_with fail;refine(JD.out _ _ _ _ _ (aK gu.out Hb.out) _ Hz.out HP.out HS.out).mono ?_;rintro e w8 ⟨a8,d8,rfl,Wv,ae⟩;clear o0 nj o1 nk v0 v1 z0 z1 z2 z3;replace Ho:=kB Ho ae;replace Hv:=kB Hv ae;replace Hz:=kB Hz ae;replace HP:=ah (HP.out.below ae);replace HS:=ah (HS.out.below ae);obtain⟨o0,nj,o1,nk⟩:=Ho.out.g2;obtain⟨v0,v1⟩:=Hv.out.c2;obtain⟨z0,z1,z2,z3⟩:=Hz.out.c4;replace Hb:=az Hb ae;clear ae;have VR:=bR.store Wv Ho.out zd (.int .i64 (V:Int)) (.slice a8 n3 d8);obtain⟨Hl8,ia⟩:=aM VR (aK aQ.out Hb.out);clear Wv VR;go_wp2;go_roundw;case rel=>exact⟨k+1,a8,n3,d8,by omega,by go_num,rfl,Hn3.out,(Ho.out.set 0 _).set 1 _,Hl8.out,(ia.out.setCell (Nat.le_refl _) _).setCell (Nat.le_refl _) _⟩
    case measure=>simp[intOf];omega
  . obtain rfl:k=V:=by omega
    have Hr:=ah (jE.out.below aQ.out);have Hb:Hid (Bw w wr):=aK dK.out aQ.out;have hsz:=jE.out.lt;obtain⟨o0,o1⟩:=Ho.out.c2;obtain⟨r0,ai,r1,aj⟩:=Hr.out.g2;go_wp2;have jX:=Hp.out.store Hr.out zd (.int .i64 (k:Int)) (.slice a' n' c');refine fy (λw9=>bR w9 a' c' (dD k c l k)/\ak w9 (w.heap.size+1) 57 [.int .i64 (k:Int),.slice a' n' c']/\Bw w w9) ⟨jX,(Hr.out.set 0 _).set 1 _,(Hb.out.setCell zp _).setCell zp _⟩ ?_;rintro w9 ⟨q1,q2,q3⟩;obtain⟨x0,x1⟩:=q2.c2;exact bodyPost_ret (v:=.tuple #[.agg #[.int .i64 (k:Int),.slice a' n' c'],.int .i64 0]) (by simp[results,Tryz.results58,go_sem,x0,x1]) rfl ⟨a',c',by rw[hn],q1,q3⟩
end Go.Proofs.YtdaadlblknpipaaGreatDoor
namespace Go.Proofs.YtdaadlblknpipaaGreatDoor
open Go.RowKit
def oG (n:Nat)(P:Nat->Nat->Dyadic)(i:Nat):List aL:=dD n (wC n P i) (λk=>js n P k i) n
def yu (n:Nat)(P:Nat->Nat->Dyadic)(i:Nat):List aL:=bF (dX (-1) (oG n P i))
def lD (n:Nat)(P:Nat->Nat->Dyadic)(i:Nat):List aL:=dD n (wZ n P (λ_=>0) i) (λb=>lZ n P b i) n
def fQ (n:Nat)(P:Nat->Nat->Dyadic)(i j:Nat):List aL:=if j=0 then lD n P i else oG n P (j-1)
def mE (n:Nat)(P:Nat->Nat->Dyadic)(i k:Nat):List Dyadic:=(List.range k).map λk=>js n P k i
theorem afd (n:Nat)(P:Nat->Nat->Dyadic)(i k:Nat):(mE n P i k).length=k:=by simp[mE]
theorem afc (n:Nat)(P:Nat->Nat->Dyadic)(i k j:Nat)(h:j<(mE n P i k).length):(mE n P i k)[j]=js n P j i:=by simp[mE]
theorem afe (n:Nat)(P:Nat->Nat->Dyadic)(i k:Nat):mE n P i (k+1)=mE n P i k++[js n P k i]:=by unfold mE;rw[List.range_succ,List.map_append];rfl
theorem am1 (n:Nat)(P:Nat->Nat->Dyadic)(i k:Nat):wS n P (λ_=>0) i k-P 0 k*js n P k i=wS n P (λ_=>0) i (k+1):=by
 show _=wS n P (λ_=>0) i k+(0-P 0 k) *js n P k i
 grind
theorem age (n:Nat)(P:Nat->Nat->Dyadic)(l:Nat->Dyadic):dD n (wZ n P (λ_=>0) 0) l 0=lD n P 0:=by
 unfold lD dD;refine zI (λm=>?_);have h:∀k,cj (iA n (wZ n P (λ_=>0) 0) (λb=>lZ n P b 0) k) m=cj (iA n (wZ n P (λ_=>0) 0) l 0) m:=by
  intro k;induction k with
  |zero=>rfl
  |succ k ih=>rw[Gd,ih];simp[lZ]
 exact(h n).symm
theorem agd (n:Nat)(hn:1<=n)(bI:n<=4)(P:Nat->Nat->Dyadic)(i:Nat)(hi:i<n):bF (lD n P i++yu n P i)=lD n P (i+1):=by
 unfold lD yu oG;rw[aiQ];have:wZ n P (λ_=>0) i-wC n P i=wZ n P (λ_=>0) (i+1):=by unfold wC;rw[Bc n hn bI P _ i hi];rfl
 rw[this];rfl
theorem Qj {B n:Nat}:∀b,b<n->Sm B ((λ_=>0:Nat->Dyadic) b):=λ_ _=>Sm.zero _
theorem ZP {B n:Nat}{P:Nat->Nat->Dyadic}(hn:1<=n)(bI:n<=4)(h:∀a b,a<=n->b<n->Sm B (P a b))(i:Nat):Sm (5*B+20) (wC n P i):=(Jf hn bI h Qj i n (Nat.le_refl _)).mono zo
theorem aiD {B n:Nat}{P:Nat->Nat->Dyadic}(hn:1<=n)(bI:n<=4)(h:∀a b,a<=n->b<n->Sm B (P a b))(b i:Nat):Sm (4*B+11+i) (lZ n P b i):=by
 induction i with
 |zero=>exact Sm.zero _
 |succ i ih=>exact(Sm.sub ih ((Co hn bI h b i).mono zo)).mono zo
theorem NY {B n:Nat}{P:Nat->Nat->Dyadic}(hn:1<=n)(bI:n<=4)(h:∀a b,a<=n->b<n->Sm B (P a b))(hB:B<=1000000)(i:Nat):gZ n (5*B+33) (oG n P i):=
 IB (B:=5*B+20) zo (Nat.le_refl _) (ZP hn bI h i) (λj _=>(Co hn bI h j i).mono zo) zo
theorem TH {B n:Nat}{P:Nat->Nat->Dyadic}(hn:1<=n)(bI:n<=4)(h:∀a b,a<=n->b<n->Sm B (P a b))(hB:B<=1000000)(i:Nat)(hi:i<=n):gZ n (5*B+33) (lD n P i):=
 IB (B:=5*B+20) zo (Nat.le_refl _) ((Qb hn bI h Qj i hi).mono zo) (λj _=>(aiD hn bI h j i).mono zo) zo
theorem NZ (n:Nat)(c:Dyadic)(l:Nat->Dyadic)(k:Nat):(dD n c l k).length<=k+1:=by have:=xk (iA n c l k);rw[DZ]at this;exact this
theorem Xt (n:Nat)(P:Nat->Nat->Dyadic)(i:Nat):(oG n P i).length<=n+1:=NZ _ _ _ _
theorem agc (n:Nat)(P:Nat->Nat->Dyadic)(i:Nat):(lD n P i).length<=n+1:=NZ _ _ _ _
theorem aj0 (n:Nat)(P:Nat->Nat->Dyadic)(i:Nat):(yu n P i).length<=n+1:=by have h:=xk (dX (-1) (oG n P i));have h2:=Xt n P i;unfold dX at h;rw[List.length_map]at h;unfold yu dX;omega
theorem ajZ {B n:Nat}{P:Nat->Nat->Dyadic}(hn:1<=n)(bI:n<=4)(h:∀a b,a<=n->b<n->Sm B (P a b))(hB:B<=1000000)(i:Nat):gZ n (5*B+40) (yu n P i):=by
 have hf:=NY hn bI h hB i;have hl:=Xt n P i;have hsl:(dX (-1) (oG n P i)).length=(oG n P i).length:=by unfold dX;rw[List.length_map]
 refine(LL (V:=n) (B:=5*B+35) (l:=dX (-1) (oG n P i)) zo ?_ zo ?_ zo).mono zo
 . intro t ht;unfold dX at ht;obtain⟨x,hx,rfl⟩:=List.mem_map.1 ht;exact hf.1.2.1 x hx
 . intro t ht;unfold dX at ht;obtain⟨x,hx,rfl⟩:=List.mem_map.1 ht;show Sm _ (aC (canon (aC x.2* -1)))
   rw[bP];exact(Sm.mul (hf.2 x hx).2 (Sm.neg Sm.one)).mono zo
theorem agq {B n:Nat}{P:Nat->Nat->Dyadic}(hn:1<=n)(bI:n<=4)(h:∀a b,a<=n->b<n->Sm B (P a b))(hB:B<=1000000)(i:Nat)(hi:i<=n)(j:Nat):gZ n (5*B+33) (fQ n P i j):=by
 unfold fQ;split
 . exact TH hn bI h hB i hi
 . exact NY hn bI h hB _
theorem ak3 (ps:List Pv)(V:Int)(a:Option Addr)(n c:Nat):(((ps.flatMap iR).set 0 (.int .i64 V)).set 1 (.slice a n c))=(ps.set 0 ⟨V,a,n,c⟩).flatMap iR:=by
 cases ps with
 |nil=>rfl
 |cons p ps=>rfl
theorem Yy {W:World}{V B:Nat}{ps:List Pv}{Ts:Nat->List aL}{a:Option Addr}{c:Nat}{C:List aL}(h:ic W V B ps Ts)(hT:Ts ps.length=C)(hp:bR W a c C)(hf:gZ V B C):ic W V B (ps++[⟨(V:Int),a,C.length,c⟩]) Ts:=by
 intro k hk;by_cases hl:k<ps.length
 . obtain⟨a',c',h1,h2,h3⟩:=h k hl;exact⟨a',c',by rw[List.getElem_append_left hl];exact h1,h2,h3⟩
 . have e:k=ps.length:=by simp at hk;omega
   subst e;exact⟨a,c,by simp[hT],by rw[hT];exact hp,by rw[hT];exact hf⟩
theorem akP {W:World}{V B:Nat}{ps:List Pv}{Ts Ts':Nat->List aL}{a:Option Addr}{c:Nat}{C:List aL}(h:ic W V B ps Ts)(hs:∀j,0<j->Ts' j=Ts j)(h0:Ts' 0=C)(hp:bR W a c C)(hf:gZ V B C):ic W V B (ps.set 0 ⟨(V:Int),a,C.length,c⟩) Ts':=by
 intro k hk;rw[List.length_set]at hk;rcases k with _|k
 . exact⟨a,c,by simp[h0],by rw[h0];exact hp,by rw[h0];exact hf⟩
 . obtain⟨a',c',h1,h2,h3⟩:=h (k+1) hk;rw[<-hs (k+1) zo]at h1 h2 h3;exact⟨a',c',by simp[h1],h2,h3⟩
theorem ic.off {W:World}{V B:Nat}{ps:List Pv}{Ts:Nat->List aL}{g:Nat}{cur:Array Value}{t:TypeId}(h:ic W V B ps Ts)(hg:W.heap[g]?=some (.cells cur t))(ht:t≠107)(i:Nat)(u:Value):ic (W.setCell ⟨g,i,none⟩ u) V B ps Ts:=λk hk=>by obtain⟨a,c,h1,h2,h3⟩:=h k hk;exact⟨a,c,h1,h2.off hg ht i u,h3⟩
theorem Yo {w:World}{base:Nat}{e:TypeId}{size n cap g:Nat}{xs:List Value}(h:w.ownsRow base e size (.slice (some ⟨g,0,none⟩) n cap) n xs):∃cur,w.heap[g]?=some (.cells cur e):=by
 rcases h.2 with⟨h1,_⟩ |⟨g',cap',cur,h1,hb,hg,_⟩
 . simp at h1
 . simp only[Value.slice.injEq,Option.some.injEq,Addr.mk.injEq,and_true,true_and]at h1;obtain⟨rfl,rfl⟩:=h1;exact⟨cur,hg⟩
theorem bR.grown {w w':World}{r:Option Nat}{a:Option Addr}{c:Nat}{C:List aL}(h:bR w a c C)(hg:w.grownBy w' r)(hr:∀g,r=some g->∃cur t,w.heap[g]?=some (.cells cur t)/\t≠107):bR w' a c C:=by
 refine⟨?_,h.2.1,?_⟩
 . rcases h.2.2 with h'|⟨b,o,cur',rfl,h2⟩
   . subst h';exact .inl rfl
   . have hne:some b≠r:=λe=>by obtain⟨cur,t,h3,h4⟩:=hr b e.symm;rw[h3]at h2;simp at h2;exact h4 h2.2
     rcases h.1 with h1|⟨b1,o1,e1,hc⟩
     . exact .inl h1
     . simp only[Option.some.injEq,Addr.mk.injEq,and_true]at e1;obtain⟨rfl,rfl⟩:=e1;refine .inr ⟨b,o,rfl,λj hj=>?_⟩;have h9:=hc j hj;rw[<-h9];have hk:=hg.block b (Array.getElem?_eq_some_iff.1 h2).1 hne;simp only[World.cell?,hk]
 . rcases h.2.2 with h'|⟨b,o,cur',rfl,h2⟩
   . exact .inl h'
   . have hne:some b≠r:=λe=>by obtain⟨cur,t,h3,h4⟩:=hr b e.symm;rw[h3]at h2;simp at h2;exact h4 h2.2
     exact .inr ⟨b,o,cur',rfl,by rw[hg.block b (Array.getElem?_eq_some_iff.1 h2).1 hne];exact h2⟩
theorem ic.grown {W w':World}{V B:Nat}{ps:List Pv}{Ts:Nat->List aL}{r:Option Nat}(h:ic W V B ps Ts)(hg:W.grownBy w' r)(hr:∀g,r=some g->∃cur t,W.heap[g]?=some (.cells cur t)/\t≠107):ic w' V B ps Ts:=λk hk=>by obtain⟨a,c,h1,h2,h3⟩:=h k hk;exact⟨a,c,h1,h2.grown hg hr,h3⟩
theorem Yt {w:World}{base:Nat}{e:TypeId}{size n:Nat}{v:Value}{xs:List Value}(h:w.ownsRow base e size v n xs):∀g,v.ownBlock=some g->∃cur t,w.heap[g]?=some (.cells cur t)/\t=e:=by
 intro g hg;rcases h.2 with⟨rfl,_⟩ |⟨g',cap',cur,rfl,_,hg2,_⟩
 . simp[Value.ownBlock]at hg
 . have:g'=g:=by simpa[Value.ownBlock]using hg
   subst this;exact⟨cur,e,hg2,rfl⟩
theorem Tryz.aq6 :(Tryz.prog.info? 57).map (λi=>(i.zero,i.size,i.bytes))=some (some (.agg #[.int .i64 0,.slice none 0 0]),2,32):=by kernel_rfl
end Go.Proofs.YtdaadlblknpipaaGreatDoor
namespace Go.Proofs.YtdaadlblknpipaaGreatDoor
open Go.RowKit
attribute [local go_sem ↓] Go.wp_at_zero Go.wp_at_succ
def Qk (w:World)(n B:Nat)(P:Nat->Nat->Dyadic)(e:Ending)(w':World):Prop:=
 ∃a' c' ps,e=.returned (.tuple #[.slice a' (n+1) c',.int .i64 0])/\n+1<=c'/\ps.length=n+1/\At w' a' (ps.flatMap iR)/\ic w' n (5*B+33) ps (fQ n P n)/\Bw w w'
theorem TL (a:Option Addr)(cap m:Nat)(rows:List (List Raw))(B:Nat)(w:World)(hm:m+1<=4)(hr:Rw (m+1) B rows)(hcap:m+1+1<=cap)(ha:bo w a rows)(hB:B<=200000)(hT:aF w)(h0:fD rows=0):
 Calls Tryz.prog 23 #[.slice a (m+1+1) cap] w (Qk w (m+1) B (bJ rows)):=by
 obtain⟨n,hn⟩:=aB (m+1);obtain⟨i0,hi,hz0,hz1,hz2⟩:=info_parts Tryz.aqU;obtain⟨j0,hj,hy0,hy1,hy2⟩:=info_parts Tryz.aq6;have hL:=hr.1;have hrow:=hr.2.1;have hfit:=hr.2.2;have gB:=λW (hW:Bw w W)=>NR a cap m rows B W hm hr hcap (ha.below hW) hB (hT.below hW) h0;have hps:∀a b,a<=m+1->b<m+1->Sm B (bJ rows a b):=OS hr;have h00:0<rows.length:=by omega
 obtain⟨b,o,a0,c0,hab,hc0,gQ⟩:=ha.row 0 h00;have rf:rows[0].length=m+1:=hrow _ (List.getElem_mem h00);have xX:∀x∈rows[0],Fit B x:=hfit _ (List.getElem_mem h00);obtain⟨p0,xW⟩:=aB (rows[0]);rw[xW]at hc0 gQ rf xX;have hp0:∀k (h:k<p0.length),bJ rows 0 k=aC p0[k]:=λk h=>by subst xW;exact sH rows 0 k h00 h
 rw[rf,Nat.add_zero]at hc0;subst hab;obtain⟨P,hP⟩:=aB (bJ rows);rw[hP]at gB hps hp0⊢;have yc:=λi k (hk:k<=m+1)=>Jf (x:=λ_=>0) zo hm hps Qj i k hk;have ol:=λk i=>Co zo hm hps k i;have pM:=Lc (m+1) P;have htl:=FT (m+1) P;have htr:=FU (m+1) P;have vp:=λi (hi:i<=m+1)=>TH (n:=m+1) zo hm hps zo i hi;have HJ:=λi=>NY (n:=m+1) zo hm hps zo i;have Wc:=λi=>ajZ (n:=m+1) zo hm hps zo i;have hcn:=λW (hW:Bw w W)=>Ta (m+1) _ _ _ _ (4*B+11) (λ_=>0) W zo ((Zi hm hps).fit zo) zo (hT.below hW) (bP (wZ (m+1) P (λ_=>0) 0));rw[age]at hcn;have vv:=λi a' c' (W:World) (hW:Bw w W) (h:At W a' (dC (mE (m+1) P i (m+1))))=>aiR (m+1) (5*B+20) (wC (m+1) P i) (mE (m+1) P i (m+1)) (λk=>js (m+1) P k i) a' c' W zo (afd _ _ _ _) (λk hk=>(afc _ _ _ _ _ hk).symm) (ZP zo hm hps i) (λx hx=>by unfold mE at hx;obtain⟨k,_,rfl⟩:=List.mem_map.1 hx;exact(ol k i).mono zo) zo h (hT.below hW);have hsc:=λi a' c' (W:World) (hW:Bw w W) (h:bR W a' c' (oG (m+1) P i))=>Zc (m+1) a' c' (oG (m+1) P i) _ _ _ (-1) (5*B+33) W (HJ i) h ((Sm.neg Sm.one).fit zo|>λ(h:Fit 1 (canon (-1)))=>h.mono zo) zo (hT.below hW) (bP (-1));have had:=λi (hi:i<m+1) aA cA aD cD (W:World) (hW:Bw w W) b hb hA hD=>Sv (m+1) (5*B+40) (lD (m+1) P i) (yu (m+1) P i) (lD (m+1) P (i+1)) aA aD cA cD W b hb hA hD ((vp i zo).mono zo) (Wc i) (by have:=agc (m+1) P i;have:=aj0 (m+1) P i;omega) zo (hT.below hW) (agd (m+1) zo hm P i hi);have hof:=λW (hW:Bw w W)=>Ge (-1) (-1) rfl W zd (hT.below hW);rw[hn]at gB hps hcn vv hsc had hc0 rf yc ol pM htl htr vp HJ⊢;have bI:n<=4:=by omega
 have fh:1<=n:=by omega
 have se:b<w.heap.size:=World.block_lt_of_cell? w _ hc0;have yg:=jN (n+1) cap 0 0 (show some (⟨b,o,none⟩:Addr)=some ⟨b,o,none⟩from rfl) zo rfl;rw[Nat.zero_mul,Nat.add_zero]at yg;obtain⟨Hi,cN,cO,cH,Hj,ir,jd,je,iU,HT,mA,sO⟩:=gh hi hz0 hz1 hz2 hj hy0 hy1 hy2 gB hT hps hcn;obtain⟨Hli,gM,sL,oV,Rh,Hlf,oQ,im,Kt,Ks,Kr,FH⟩:=gh vv hsc had hof vp HJ hc0 gQ rf xX hp0 yc;obtain⟨Bt,KL,Cg,mC,BN⟩:=fC ol pM htl htr yg;clear hi hz0 hz1 hz2 hj hy0 hy1 hy2 gB hT hps hcn vv hsc had hof vp HJ Wc hc0 gQ rf xX hp0 yc ol pM htl htr yg hP xW h00 ha hr hL hrow hfit h0 hn;have Hb:Hid (Bw w w):=Below.refl _ _;go_enter Tryz.func23,Tryz.ntmps23;go_wp2_with fail;refine(iU.out _ Hb.out).mono ?_;rintro e w1 ⟨a1,c1,rfl,hc1,ht1,ae⟩;have Cf:=ah ht1;replace Hb:=az Hb ae;clear ae ht1;obtain⟨dd,hdd⟩:=aB (lU (dz n P) *dz n P);rw[hdd]at sO⊢;clear hdd;obtain⟨W2,mH,ae,Hd⟩:=cS w1 30 [.bool (ar (dN dd)),.string (bs (nt (dN dd).natAbs)),.int .i64 (dE dd)];obtain⟨d0,d1,d2⟩:=Hd.out.c3;replace Hb:=az Hb ae;clear ae;have HA:Hid (bo W2 a1 ((pk n P).map λr=>r.map canon)):=Cf.out.below (by first|exact zl| (rw[<-mH];exact zl));clear Cf;obtain⟨n3,xU⟩:=aB ((lD n P 0).length);rw[xU]at sO;go_wp2_with fail;refine(sO.out _ Hb.out).mono ?_;rintro e w3 ⟨a3,d3,rfl,Dy,ae⟩;clear d0 d1 d2;replace Hd:=kB Hd ae;replace HA:=kL HA ae;obtain⟨d0,d1,d2⟩:=Hd.out.c3;replace Hb:=az Hb ae;clear ae;have oW:=ah Dy;clear Dy;have ajb:=Hd.out.lt;obtain⟨W4,pH,ae,Hq⟩:=cS w3 57 [.int .i64 (n:Int),.slice a3 n3 d3];clear d0 d1 d2;replace Hd:=kB Hd ae;replace HA:=kL HA ae;obtain⟨d0,d1,d2⟩:=Hd.out.c3;obtain⟨q0,q1⟩:=Hq.out.c2;replace Hb:=az Hb ae;clear ae;have Dz:bR W4 a3 d3 (lD n P 0):=oW.out.below (by first|exact zl| (rw[<-pH];exact zl));have RI:=ah Dz;clear Dz oW;have JQ:=Hd;have Jj:=HA;have anZ:=Hq;have dK:=Hb;have P0:=q0;have P1:=q1;have apr:=Hd.out.lt;have apR:=Hq.out.lt;obtain⟨W5,xH,ae,Hz⟩:=cS W4 57 [.int .i64 (n:Int),.slice a3 n3 d3];clear d0 d1 d2;replace Hd:=kB Hd ae;replace HA:=kL HA ae;clear q0 q1;replace Hq:=kB Hq ae;obtain⟨d0,d1,d2⟩:=Hd.out.c3;obtain⟨q0,q1⟩:=Hq.out.c2;obtain⟨z0,z1⟩:=Hz.out.c2;replace Hb:=az Hb ae;clear ae;go_wp2_with fail;clear P0 P1;have Ji:Hid (Bw W4 W5):=by rw[<-xH];exact zl
 have hst:W5.ownsRow W4.heap.size 57 2 (.slice (some ⟨W4.heap.size,0,none⟩) 1 1) 1 ([(⟨(n:Int),a3,n3,d3⟩:Pv)].flatMap iR):=Yp (xs:=[.int .i64 (n:Int),.slice a3 n3 d3]) Hz.out (Nat.le_refl _) rfl zo;have hpo:ic W5 n (5*B+33) [(⟨(n:Int),a3,n3,d3⟩:Pv)] (fQ n P 0):=by
  intro k hk;obtain rfl:k=0:=by simp at hk;omega
  exact⟨a3,d3,by show(⟨(n:Int),a3,n3,d3⟩:Pv)=⟨(n:Int),a3,(lD n P 0).length,d3⟩;rw[xU],RI.out.below Ji.out,Rh.out 0 zo⟩
 obtain⟨cE,wT⟩:=aM hst hpo;clear hst hpo xU;go_loopw[10,40] (λyI x wr=>∃(i:Nat) (v:Value) (ps:List Pv),i<=n/\x=.int .i64 (i:Int)/\v=yI/\ps.length=i+1/\wr.ownsRow W4.heap.size 57 2 v (i+1) (ps.flatMap iR)/\ic wr n (5*B+33) ps (fQ n P i)/\Bw W4 wr) (λ_ x _=>n-(intOf x).toNat);case atStart=>exact⟨0,_,_,Nat.zero_le _,rfl,rfl,rfl,cE.out,wT.out,Ji.out⟩
 case round=>
  clear cE wT Ji RI d0 d1 d2 q0 q1 z0 z1 Hd Hq Hz HA Hb;obtain⟨i,v,ps,hi,rfl,rfl,hpl,ho,hpo,pb⟩:=hrel;by_cases hlt:i<n
  . obtain⟨wo,hwo⟩:∃wo,wo=wr:=⟨_,rfl⟩;subst hwo;have hvl:=ho.lt;obtain⟨Ho,aQ,wT,ll⟩:=dS ho pb hpo hpl;have gm:=pb.size;have yK:=dK.out.size;clear ho pb hpo hpl;have Hb:Hid (Bw wo wo):=Below.refl _ _;have lH:decide ((i:Int)<(n:Int))=true:=by simp;omega
    obtain⟨W5,xH,ae,Hy⟩:=cS wo 30 [.bool false,.string ⟨#[]⟩,.int .i64 0];obtain⟨y0,aR,y1,aS,y2,aW⟩:=Hy.out.g3;replace Hb:=az Hb ae;clear ae;have Ck:=Hy;have yP:Hid (Bw wo W5):=Hb;go_wp2_with fail;clear lH y0 aR y1 aS y2 aW Hy Hb;go_loopw[13,46] (λPy x wr=>∃(k:Nat) (v2:Value),k<=n/\x=.int .i64 (k:Int)/\v2=Py/\wr.ownsRow (wo.heap.size+1) 30 3 v2 k (dC (mE n P i k))/\ak wr wo.heap.size 30 [.bool (ar (dN (wS n P (λ_=>0) i k))),.string (bs (nt (dN (wS n P (λ_=>0) i k)).natAbs)),.int .i64 (dE (wS n P (λ_=>0) i k))]/\Bw wo wr) (λ_ x _=>n-(intOf x).toNat);case atStart=>exact⟨0,_,Nat.zero_le _,rfl,rfl,World.ownsRow_nil _ _ _ _,((Ck.out.set 0 _).set 1 _).set 2 _,((yP.out.setCell (Nat.le_refl _) _).setCell (Nat.le_refl _) _).setCell (Nat.le_refl _) _⟩
    case round=>
     clear Ck yP;obtain⟨k,v2,hk,rfl,rfl,hv2,hy,qb⟩:=hrel;by_cases bj:k<n
     . have GH:=aK dK.out aQ.out;have vd:=aK GH qb;have nD:k<p0.length:=by rw[Kt.out];exact bj
       obtain⟨sp,mp,ep,hpe⟩:=kI (p0[k]);have eJ:=Ks.out _ (List.getElem_mem nD);rw[hpe]at eJ;obtain⟨bp,op,Dc,p1,p2,p3⟩:=(im.out.below GH).num k nD hpe;obtain⟨ba,oa,bq,oq,cq,Db,Dh,hq⟩:=(Jj.out.below aQ.out).aq5 Cg.out mC.out k i bj hlt;rw[KL.out k i bj hlt]at hq;have Uv:P 0 k=aC (sp,mp,ep):=by rw[Kr.out k nD,hpe]
       obtain⟨Q,hQ⟩:=aB (js n P k i);obtain⟨Z,hZ⟩:=aB (aC (sp,mp,ep) *Q);obtain⟨S0,nX⟩:=aB (wS n P (λ_=>0) i k);obtain⟨S1,hS1⟩:=aB (wS n P (λ_=>0) i (k+1));have CU:S0-Z=S1:=by rw[<-hS1,<-hZ,<-Uv,<-hQ,<-nX];exact am1 n P i k
       have hcl:=afe n P i k;have mG:=Bt.out k i;rw[hQ]at mG hq hcl;have xE:=FH.out i k zo;rw[nX]at xE hy;have ny:Sm (5*B+12) Z:=by rw[<-hZ];exact(Sm.mul eJ.2 mG).mono zo
       have JW:Hid (Fit (4*B+11) (sp,mp,ep)):=eJ.mono zo;have BF:Hid (Fit (4*B+11) (ar (dN Q),nt (dN Q).natAbs,dE Q)):=mG.fit zo;have BG:Hid (Fit (5*B+16) (ar (dN S0),nt (dN S0).natAbs,dE S0)):=(xE.mono zo).fit zo;have uC:Hid (Fit (5*B+16) (ar (dN Z),nt (dN Z).natAbs,dE Z)):=(ny.mono zo).fit zo;have HZ:Hid (aC (sp,mp,ep) *aC (ar (dN Q),nt (dN Q).natAbs,dE Q)=Z):=by show _*aC (canon Q)=_;rw[bP];exact hZ
       have Jv:Hid (aC (ar (dN S0),nt (dN S0).natAbs,dE S0)-aC (ar (dN Z),nt (dN Z).natAbs,dE Z)=S1):=by show aC (canon S0)-aC (canon Z)=_;rw[bP,bP];exact CU
       have ixp:=lM n c0 k (k:Int) Dc bj rfl;have NU:=tZ n c1 k (k:Int) Db bj rfl;rw[Nat.mul_one]at NU;have ixq:=jC n cq i (i:Int) (rfl:(some ⟨bq,oq,none⟩:Option Addr)=_) hlt rfl;have ua:=BN.out;obtain⟨Mp,iD⟩:=aM hS1 hcl;have HpO:Hid (bB wo bp (op+k*3) [.bool sp,.string (bs mp),.int .i64 ep]):=iB p1 p2 p3;have Br:=ah (HT.out.below vd);have Hy:Hid (ak wr wo.heap.size 30 [.bool (ar (dN S0)),.string (bs (nt (dN S0).natAbs)),.int .i64 (dE S0)]):=hy;have RL:Hid (bB wo ba (oa+k) [.slice (some ⟨bq,oq,none⟩) n cq]):=λj hj=>by
        obtain rfl:j=0:=by simp at hj;omega
        exact Dh
       have HsO:Hid (bB wo b o [.slice a0 n c0]):=λj hj=>by
        obtain rfl:j=0:=by simp at hj;omega
        exact cell_later GH oQ.out
       have BX:Hid (bB wo bq (oq+i*3) [.bool (ar (dN Q)),.string (bs (nt (dN Q).natAbs)),.int .i64 (dE Q)]):=hq;obtain⟨Hr,Hq,jm,Hv2⟩:=dS (RL.out.below qb) (BX.out.below qb) qb hv2;have PQ:=qb.size;have DV:=Hy.out.lt;have hvb:∀g,v2.ownBlock=some g->wo.heap.size+1<=g/\g<wr.heap.size:=λg e=>hv2.lt g e;clear p1 p2 p3 Dh hq hy hpe eJ Dc Db hQ hZ nX hS1 CU mG xE ny qb GH vd hv2 hcl Uv;have Hb:Hid (Bw wr wr):=Below.refl _ _;obtain⟨y0,aR,y1,aS,y2,aW⟩:=Hy.out.g3;have r0:=Hr.out.w1;obtain⟨q0,q1,q2⟩:=Hq.out.w3;have P0:=r0;have P1:=q0;have P2:=q1;have P3:=q2;have ajm:=Hy.out.lt;obtain⟨W6,od,ae,Hc⟩:=cS wr 30 [.bool (ar (dN Q)),.string (bs (nt (dN Q).natAbs)),.int .i64 (dE Q)];clear y0 aR y1 aS y2 aW;replace Hy:=kB Hy ae;clear r0;replace Hr:=kW Hr ae;clear q0 q1 q2;replace Hq:=kW Hq ae;obtain⟨y0,aR,y1,aS,y2,aW⟩:=Hy.out.g3;have r0:=Hr.out.w1;obtain⟨q0,q1,q2⟩:=Hq.out.w3;obtain⟨c0,c1,c2⟩:=Hc.out.c3;replace Hb:=az Hb ae;clear ae;have cG:=ownsRow_below Hv2.out Hb.out;have iz:=Hb.out.size;go_wp2_with (at_builtin;refine wpList_append_own_at _ rfl _ _ 45 rfl (wo.heap.size+1) 30 i0 _ 3 32 Tryz.underlying45 Hi.out cN.out cO.out cH.out rfl zd v2 k (dC (mE n P i k)) rfl cG ⟨wr.heap.size,0,none⟩ 1 1 [.bool (ar (dN Q)),.string (bs (nt (dN Q).natAbs)),.int .i64 (dE Q)] rfl rfl (fX Hc.out) zy zx zo zo ?_;intro v' w7 dQ eT _ fq;obtain⟨g',lC,rfl⟩:=ownsRow_succ dQ);have vG:some wo.heap.size≠v2.ownBlock:=λe=>by have:=hvb _ e.symm;omega
       have DU:=Hy.out.grown eT vG;have jy:=(aK jm.out Hb.out).grown eT zo (λj e=>by have:=cZ cG j e;omega);have e7:dC (mE n P i k)++[.bool (ar (dN Q)),.string (bs (nt (dN Q).natAbs)),.int .i64 (dE Q)]=dC (mE n P i (k+1)):=by rw[iD.out,rN];rfl
       rw[e7]at dQ;obtain⟨BR,oP,Jy,Hr,Hq,Hp,Hs⟩:=oH dQ jy (HT.out.below (aK dK.out (aK aQ.out jy))) (RL.out.below jy) (BX.out.below jy) (HpO.out.below jy) (HsO.out.below jy);replace Hy:Hid (ak w7 wo.heap.size 30 [.bool (ar (dN S0)),.string (bs (nt (dN S0).natAbs)),.int .i64 (dE S0)]):=DU;have sz7:=jy.size;clear P0 P1 P2 P3 y0 y1 y2 aR aS aW r0 q0 q1 q2 c0 c1 c2 dQ jy DU fq vG e7 Hb Hc cG eT Br hvb;have Hb:Hid (Bw w7 w7):=Below.refl _ _;obtain⟨y0,aR,y1,aS,y2,aW⟩:=Hy.out.g3;have r0:=Hr.out.w1;obtain⟨q0,q1,q2⟩:=Hq.out.w3;obtain⟨p0,p1,p2⟩:=Hp.out.w3;have s0:=Hs.out.w1;have HU:Hid (aF w7):=Jy.out;have lby:=Hy.out.lt;refine bM (λw'=>w'.cell? ⟨wo.heap.size,0,none⟩=some (.bool (ar (dN S0)))/\w'.cell? ⟨wo.heap.size,1,none⟩=some (.string (bs (nt (dN S0).natAbs)))/\w'.cell? ⟨wo.heap.size,2,none⟩=some (.int .i64 (dE S0))/\w'.cell? ⟨bp,op+k*3,none⟩=some (.bool sp)/\w'.cell? ⟨bp,op+k*3+1,none⟩=some (.string (bs mp))/\w'.cell? ⟨bp,op+k*3+2,none⟩=some (.int .i64 ep)/\w'.cell? ⟨b,o,none⟩=some (.slice a0 n c0)/\w'.cell? ⟨ba,oa+k,none⟩=some (.slice (some ⟨bq,oq,none⟩) n cq)/\w'.cell? ⟨bq,oq+i*3,none⟩=some (.bool (ar (dN Q)))/\w'.cell? ⟨bq,oq+i*3+1,none⟩=some (.string (bs (nt (dN Q).natAbs)))/\w'.cell? ⟨bq,oq+i*3+2,none⟩=some (.int .i64 (dE Q))) (λi=>Nat.blt i 17) [(0,true),(1,true),(2,true),(3,true),(4,true),(5,true),(6,true),(7,true),(8,true),(9,true),(10,true),(11,true),(12,true),(13,true),(14,false),(15,false),(16,false),(17,false)] zk zk rfl zk zc ⟨y0,y1,y2,p0,p1,p2,s0,r0,q0,q1,q2⟩ ?_;iterate 14 (refine pT rfl rfl ?_ (by intro w' ⟨q0,q1,q2,q3,q4,q5,q6,q7,q8,q9,vY⟩;go_simp;try with_reducible rfl);try simp only[UU])
       refine aI rfl rfl (λK hK=>?_);go_simp;refine hK _ _ (λ_=>⟨aJ y0,aJ y1,aJ y2,aJ p0,aJ p1,aJ p2,aJ s0,aJ r0,aJ q0,aJ q1,aJ q2⟩) ?_;clear hK K;try simp only[UU]
       refine bO (λW8=>ak W8 (w7.heap.size) 30 [.bool sp,.string (bs mp),.int .i64 ep,.bool (ar (dN Q)),.string (bs (nt (dN Q).natAbs)),.int .i64 (dE Q)]/\Bw w7 W8) (by first|exact dU|exact dV) ?_;rintro W8 ⟨qz,ae⟩;clear y0 aR y1 aS y2 aW r0 q0 q1 q2 p0 p1 p2 s0;have XP:=Hy.out.lt;replace Hy:=kB Hy ae;replace Hr:=kW Hr ae;replace Hq:=kW Hq ae;replace Hp:=kW Hp ae;replace Hs:=kW Hs ae;replace HU:=kT HU ae;have Hz:=ah qz;clear qz;obtain⟨y0,aR,y1,aS,y2,aW⟩:=Hy.out.g3;have r0:=Hr.out.w1;obtain⟨q0,q1,q2⟩:=Hq.out.w3;obtain⟨p0,p1,p2⟩:=Hp.out.w3;have s0:=Hs.out.w1;obtain⟨z0,z1,z2,z3,z4,z5⟩:=Hz.out.c6;replace Hb:=az Hb ae;clear ae;refine aI rfl rfl (λK hK=>?_);go_simp;with_reducible refine(Cx sp mp ep (ar (dN Q)) (nt (dN Q).natAbs) (dE Q) Z (4*B+11) HZ.out w7.heap.size _ 30 _ JW.out BF.out zo Hz.out (by first|exact HU.out|exact aF.drew HU.out|exact aF.alloc HU.out _|exact aF.drew (aF.alloc HU.out _) |exact aF.alloc (aF.drew HU.out) _)).mono ?_
       rintro e w9 ⟨rfl,hq⟩;have ae:Bw W8 w9:=by first|exact hq|exact aV hq
       clear y0 aR y1 aS y2 aW r0 q0 q1 q2 p0 p1 p2 s0 z0 z1 z2 z3 z4 z5;replace Hy:=kB Hy ae;replace Hr:=kW Hr ae;replace Hq:=kW Hq ae;replace Hp:=kW Hp ae;replace Hs:=kW Hs ae;replace HU:=kT HU ae;replace Hz:=kB Hz ae;obtain⟨y0,aR,y1,aS,y2,aW⟩:=Hy.out.g3;have r0:=Hr.out.w1;obtain⟨q0,q1,q2⟩:=Hq.out.w3;obtain⟨p0,p1,p2⟩:=Hp.out.w3;have s0:=Hs.out.w1;obtain⟨z0,z1,z2,z3,z4,z5⟩:=Hz.out.c6;replace Hb:=az Hb ae;clear ae;refine hK _ _ (λ_=>⟨y0,y1,y2,p0,p1,p2,s0,r0,q0,q1,q2⟩) ?_;clear hK K;try simp only[UU]
       refine aI rfl rfl (λK hK=>?_);go_simp;with_reducible refine(zM (ar (dN S0)) (nt (dN S0).natAbs) (dE S0) (ar (dN Z)) (nt (dN Z).natAbs) (dE Z) S1 (5*B+16) Jv.out _ BG.out uC.out zo (by first|exact HU.out|exact aF.drew HU.out|exact aF.alloc HU.out _|exact aF.drew (aF.alloc HU.out _) |exact aF.alloc (aF.drew HU.out) _)).mono ?_
       rintro e fI ⟨rfl,hq⟩;have ae:Bw w9 fI:=by first|exact hq|exact aV hq
       clear y0 aR y1 aS y2 aW r0 q0 q1 q2 p0 p1 p2 s0 z0 z1 z2 z3 z4 z5;replace Hy:=kB Hy ae;replace Hr:=kW Hr ae;replace Hq:=kW Hq ae;replace Hp:=kW Hp ae;replace Hs:=kW Hs ae;replace HU:=kT HU ae;replace Hz:=kB Hz ae;obtain⟨y0,aR,y1,aS,y2,aW⟩:=Hy.out.g3;have r0:=Hr.out.w1;obtain⟨q0,q1,q2⟩:=Hq.out.w3;obtain⟨p0,p1,p2⟩:=Hp.out.w3;have s0:=Hs.out.w1;obtain⟨z0,z1,z2,z3,z4,z5⟩:=Hz.out.c6;replace Hb:=az Hb ae;clear ae;refine hK _ _ (λ_=>⟨y0,y1,y2,p0,p1,p2,s0,r0,q0,q1,q2⟩) ?_;clear hK K;try simp only[UU]
       refine aI rfl rfl (λK hK=>?_);go_simp;refine hK _ _ (by first|exact λh=>absurd h zd|exact λ_=>⟨y0,y1,y2,p0,p1,p2,s0,r0,q0,q1,q2⟩ |exact λ_=>⟨(by first|exact y0|exact aH zf y0|exact aH zf (aH zf y0) |exact aH zf (aH zf (aH zf y0))),(by first|exact y1|exact aH zf y1|exact aH zf (aH zf y1) |exact aH zf (aH zf (aH zf y1))),(by first|exact y2|exact aH zf y2|exact aH zf (aH zf y2) |exact aH zf (aH zf (aH zf y2))),(by first|exact p0|exact aH zf p0|exact aH zf (aH zf p0) |exact aH zf (aH zf (aH zf p0))),(by first|exact p1|exact aH zf p1|exact aH zf (aH zf p1) |exact aH zf (aH zf (aH zf p1))),(by first|exact p2|exact aH zf p2|exact aH zf (aH zf p2) |exact aH zf (aH zf (aH zf p2))),(by first|exact s0|exact aH zf s0|exact aH zf (aH zf s0) |exact aH zf (aH zf (aH zf s0))),(by first|exact r0|exact aH zf r0|exact aH zf (aH zf r0) |exact aH zf (aH zf (aH zf r0))),(by first|exact q0|exact aH zf q0|exact aH zf (aH zf q0) |exact aH zf (aH zf (aH zf q0))),(by first|exact q1|exact aH zf q1|exact aH zf (aH zf q1) |exact aH zf (aH zf (aH zf q1))),(by first|exact q2|exact aH zf q2|exact aH zf (aH zf q2) |exact aH zf (aH zf (aH zf q2)))⟩) ?_;clear hK K;try simp only[UU]
       simp only[aZ];have hov:=ownsRow_below BR.out Hb.out;have qX:=aK oP.out Hb.out;obtain⟨cM,jc⟩:=aM hov qX;clear hov qX;go_wp2;go_roundw;case rel=>
        refine⟨k+1,_,by omega,by go_num,rfl,?_,?_,?_⟩
        . have pJ:=yA cM.out;have hne:wo.heap.size≠g':=by omega
          exact ownsRow_setCell_other (ownsRow_setCell_other (ownsRow_setCell_other cM.out (by simp[Value.ownBlock];omega) _) (by simp[Value.ownBlock];omega) _) (by simp[Value.ownBlock];omega) _
        . rw[Mp.out];exact((Hy.out.set 0 _).set 1 _).set 2 _
        . exact((jc.out.setCell (Nat.le_refl _) _).setCell (Nat.le_refl _) _).setCell (Nat.le_refl _) _
       case measure=>simp[intOf];omega
     . obtain rfl:k=n:=by omega
       obtain⟨al,cl,rfl,hal,_⟩:=dG hv2;obtain⟨C0,nW⟩:=aB (wS k P (λ_=>0) i k);rw[nW]at hy;have om:=aK dK.out aQ.out;have vv:=λW (hW:Bw wr W)=>Hli.out i al cl W (aK (aK om qb) hW) (hal.below hW);have WU:wC k P i=C0:=nW;obtain⟨LF,zV⟩:=aB (oG k P i);obtain⟨NF,Mj⟩:=aB (yu k P i);obtain⟨FF,Mb⟩:=aB (lD k P i);obtain⟨FN,Gx⟩:=aB (lD k P (i+1));rw[show dD k (wC k P i) (λj=>js k P j i) k=LF from zV,WU]at vv;have hsc:=gM.out i;have had:=sL.out i hlt;rw[zV]at hsc;rw[show bF (dX (-1) LF)=NF by rw[<-zV];exact Mj]at hsc;rw[Mj,Mb,Gx]at had;have GP:=Hlf.out i;have GQ:=Rh.out (i+1) zo;rw[zV]at GP;rw[Gx]at GQ;obtain⟨nL,Nj⟩:∃x,LF.length=x:=⟨_,rfl⟩;obtain⟨nN,Nk⟩:∃x,NF.length=x:=⟨_,rfl⟩;obtain⟨nF,hnF⟩:∃x,FF.length=x:=⟨_,rfl⟩;obtain⟨nG,Nh⟩:∃x,FN.length=x:=⟨_,rfl⟩;rw[Nj]at vv hsc;rw[Nk]at hsc;rw[Nk,hnF,Nh]at had;have Nv:=λ(W:World) a c (h:ic W k (5*B+33) ps (fQ k P i)) (hp:bR W a c LF)=>Yy h (show fQ k P i ps.length=LF by rw[ll.out];exact zV) hp GP;have kg:=λ(W:World) (qs:List Pv) a c (h:ic W k (5*B+33) qs (fQ k P i)) (hp:bR W a c FN)=>akP (Ts':=fQ k P (i+1)) h (λj hj=>by unfold fQ;rw[if_neg zo,if_neg zo]) Gx hp GQ;rw[Nj]at Nv;rw[Nh]at kg;have vg:fQ k P i 0=FF:=Mb;have Hy:Hid (ak wr wo.heap.size 30 [.bool (ar (dN C0)),.string (bs (nt (dN C0).natAbs)),.int .i64 (dE C0)]):=hy;obtain⟨abP,uH,JD,HfL,HfN,Hap,cE,jm,uB,HnF⟩:=yj vv hsc had GP GQ Nv kg qb vg hnF;clear vv hsc had GP GQ Nv kg qb zV Mj Mb Gx nW WU hv2 hal hy vg Nj Nk hnF Nh om;have PQ:=jm.out.size;have DV:=Hy.out.lt;have Hb:Hid (Bw wr wr):=Below.refl _ _;obtain⟨y0,y1,y2⟩:=Hy.out.c3;go_wp2_with fail;refine(abP.out _ Hb.out).mono ?_;rintro e w7 ⟨a7,d7,rfl,Wu,ae⟩;clear y0 y1 y2;replace Hy:=kB Hy ae;obtain⟨y0,y1,y2⟩:=Hy.out.c3;replace Hb:=az Hb ae;clear ae;have Hp7:=ah Wu;clear Wu;have sz7:=Hb.out.size;have XP:=Hy.out.lt;obtain⟨W8,UK,ae,Ht⟩:=cS w7 57 [.int .i64 (k:Int),.slice a7 nL d7];clear y0 y1 y2;replace Hy:=kB Hy ae;obtain⟨y0,y1,y2⟩:=Hy.out.c3;obtain⟨t0,t1⟩:=Ht.out.c2;replace Hb:=az Hb ae;clear ae;have HL:Hid (bR W8 a7 d7 LF):=Hp7.out.below (by first|exact zl| (rw[<-UK];exact zl));go_upto_region 21 with fail
       have P0:=t0;have P1:=t1;have ajn:=Hy.out.lt;have ap0:=Ht.out.lt;obtain⟨W9,UL,ae,Hc⟩:=cS W8 57 [.int .i64 (k:Int),.slice a7 nL d7];clear y0 y1 y2;replace Hy:=kB Hy ae;clear t0 t1;replace Ht:=kB Ht ae;replace HL:=ah (HL.out.below ae);obtain⟨y0,y1,y2⟩:=Hy.out.c3;obtain⟨t0,t1⟩:=Ht.out.c2;obtain⟨c0,c1⟩:=Hc.out.c2;replace Hb:=az Hb ae;clear ae;have oC:=ownsRow_below Ho.out (aK jm.out Hb.out);have hs9:=Hb.out.size;go_wp2_with (at_builtin;refine wpList_append_own_at _ rfl _ _ 50 rfl W4.heap.size 57 j0 _ 2 32 Tryz.underlying50 Hj.out ir.out jd.out je.out rfl zd v (i+1) (ps.flatMap iR) rfl oC ⟨W8.heap.size,0,none⟩ 1 1 [.int .i64 (k:Int),.slice a7 nL d7] rfl rfl (fX Hc.out) zy zx zo zo ?_;intro v' fI tM rT _ fq;obtain⟨g',lC,rfl⟩:=ownsRow_succ tM);have hvb:∀g,v.ownBlock=some g->g<wo.heap.size:=λg e=>(hvl g e).2;have ahr:g'≠w7.heap.size:=by
        rcases fq with h|h
        . have:=hvb g' h.symm;omega
        . have h9:g'=W9.heap.size:=Option.some.inj h;have:=Ht.out.lt;omega
       have vG:some w7.heap.size≠v.ownBlock:=λe=>by have:=hvb _ e.symm;omega
       have Aj:∀g,v.ownBlock=some g->∃cur t,W9.heap[g]?=some (.cells cur t)/\t≠107:=λg e=>by obtain⟨cur,t,h1,h2⟩:=Yt oC g e;exact⟨cur,t,h1,by rw[h2];decide⟩
       have WN:=Ht.out.grown rT vG;have Dp:=HL.out.grown rT Aj;have Il:=(wT.out.below (aK jm.out Hb.out)).grown rT Aj;have Wo:=Hap.out _ _ _ Il Dp;have qX:=(aK aQ.out (aK jm.out Hb.out)).grown rT zo (λj e=>cZ oC j e);have e10:ps.flatMap iR++[.int .i64 (k:Int),.slice a7 nL d7]=(ps++[(⟨(k:Int),a7,nL,d7⟩:Pv)]).flatMap iR:=by rw[List.flatMap_append];rfl
       rw[e10]at tM;have hwk:Bw w fI:=aK dK.out qX;have hlg:g'<fI.heap.size:=(yA tM).2;obtain⟨RF,jc,Ky,pg,abI,aaO⟩:=gF tM qX Wo hwk Dp (HT.out.below hwk);have aqy:=rT.size;replace Ht:Hid (ak fI w7.heap.size 57 [.int .i64 (k:Int),.slice a7 nL d7]):=WN;clear P0 P1 t0 t1 c0 c1 tM qX Il Wo hwk WN Dp fq vG e10 Hc oC rT Aj Hb HL hvb;have Hb:Hid (Bw fI fI):=Below.refl _ _;obtain⟨t0,t1⟩:=Ht.out.c2;have HL:Hid (bR fI a7 d7 LF):=abI.out;have apk:=Ht.out.lt;go_upto_region 22 with fail
       go_cut[17] (λs17 wx=>∃(g:Nat) (a:Option Addr) (d:Nat),s17=.pointer (some ⟨g,0,none⟩)/\fI.heap.size<=g/\ak wx g 57 [.int .i64 (k:Int),.slice a nN d]/\bR wx a d NF/\Bw fI wx);case first=>
        have mf:∀w',gN fI w'->w'.cell? ⟨w7.heap.size,0,none⟩=some (.int .i64 (k:Int))/\w'.cell? ⟨w7.heap.size,1,none⟩=some (.slice a7 nL d7):=λw' h=>⟨cell_later h t0,cell_later h t1⟩;have aN:Hid (gN fI fI):=Below.refl _ _;refine EM (λw'=>gN fI w') (λi=>Nat.blt i 100000) (.rd 0 (.br 1 6 (.br 2 6 (.lin [(3,true),(4,true),(5,true),(6,false),(7,false),(8,true)]) (.lin [(2,false),(3,true),(4,true),(5,true),(7,false),(8,true)])) (.lin [(1,false),(2,false),(3,true),(4,true),(5,true),(7,false),(8,true)]))) zk zk rfl zk zc aN.out.drew ?_;iterate 1 (refine Ep rfl rfl (v:=?_) (λw' hw'=>?_) ?_;rotate_left;(focus have hw':=mf w' hw';obtain⟨q0,q1⟩:=hw';go_simp;try with_reducible rfl);try simp only[UU])
        clear  mf;refine uh rfl rfl rfl rfl rfl rfl  (λK hK=>?_) (λK hK=>?_) 
        . go_simp;with_reducible refine(oV.out _ (by first|exact aK pg.out Hb.out|exact aK pg.out Hb.out.drew)).mono ?_
          rintro e il ⟨rfl,hq⟩;have ae:Bw fI il:=by first|exact hq|exact aV hq
          clear t0 t1;replace aN:=ah (aN.out.below ae);replace Ht:=kB Ht ae;replace HL:=ah (HL.out.below ae);obtain⟨t0,t1⟩:=Ht.out.c2;replace Hb:=az Hb ae;clear ae;refine hK _ _ (λ_=>aN.out) ?_;clear hK K;try simp only[UU]
          refine uh rfl rfl rfl rfl rfl rfl  (λK hK=>?_) (λK hK=>?_) 
          . go_simp;with_reducible refine(uH.out a7 d7 _ (by first|exact aK pg.out Hb.out|exact aK pg.out Hb.out.drew) (by first|exact HL.out|exact HL.out.below (Below.refl _ _).drew)).mono ?_
            rintro e gW ⟨Su,Tf,rfl,vB,hq⟩;have ae:Bw il gW:=by first|exact hq|exact aV hq
            clear t0 t1;replace aN:=ah (aN.out.below ae);replace Ht:=kB Ht ae;replace HL:=ah (HL.out.below ae);obtain⟨t0,t1⟩:=Ht.out.c2;replace Hb:=az Hb ae;clear ae;have HX:=ah vB;clear vB;refine hK _ _ (λ_=>aN.out) ?_;clear hK K;try simp only[UU]
            refine nK ?_;iterate 3 (refine pT rfl rfl ?_;try simp only[UU])
            refine aI rfl rfl (λK hK=>?_);go_simp;have Ee:=Hb.out.size;refine hK _ _ (λ_=>by first|exact aN.out.alloc _|exact(aN.out.alloc _).drew|exact(aN.out.drew).alloc _) ?_;clear hK K;try simp only[UU]
            refine bO (λjp=>ak jp (gW.heap.size) 57 [.int .i64 0,.slice none 0 0]/\Bw gW jp) (by first|exact dU|exact dV) ?_;rintro jp ⟨qz,ae⟩;clear t0 t1;have XN:=Ht.out.lt;replace aN:=ah (aN.out.below ae);replace Ht:=kB Ht ae;replace HL:=ah (HL.out.below ae);replace HX:=ah (HX.out.below ae);have Hz:=ah qz;clear qz;obtain⟨t0,t1⟩:=Ht.out.c2;obtain⟨z0,jg,z1,iI⟩:=Hz.out.g2;replace Hb:=az Hb ae;clear ae;refine aI rfl rfl (λK hK=>?_);go_simp;refine hK _ _ (by first|exact λh=>absurd h zd|exact λ_=>aN.out|exact λ_=>(by first|exact aN.out.setCell zp _|exact(aN.out.setCell zp _).setCell zp _|exact((aN.out.setCell zp _).setCell zp _).setCell zp _)) ?_;clear hK K;try simp only[UU]
            refine pT rfl rfl ?_;try simp only[UU]
            simp only[aZ];go_wp2_with fail;go_meet;exact⟨_,_,_,rfl,by omega,(Hz.out.set 0 _).set 1 _,HX.out.store Hz.out zd _ _,(Hb.out.setCell zp _).setCell zp _⟩
          . go_simp;have Ee:=Hb.out.size;refine hK _ _ (λ_=>by first|exact aN.out.alloc _|exact(aN.out.alloc _).drew|exact(aN.out.drew).alloc _) ?_;clear hK K;try simp only[UU]
            refine IU (λjp=>ak jp (il.heap.size) 57 [.int .i64 0,.slice none 0 0]/\Bw il jp) (by first|exact dU|exact dV) ?_;rintro jp ⟨qz,ae⟩;clear t0 t1;have XN:=Ht.out.lt;replace aN:=ah (aN.out.below ae);replace Ht:=kB Ht ae;replace HL:=ah (HL.out.below ae);have Hz:=ah qz;clear qz;obtain⟨t0,t1⟩:=Ht.out.c2;obtain⟨z0,jg,z1,iI⟩:=Hz.out.g2;replace Hb:=az Hb ae;clear ae;refine nK ?_;refine aI rfl rfl (λK hK=>?_);go_simp;with_reducible refine(uH.out a7 d7 _ (by first|exact aK pg.out Hb.out|exact aK pg.out Hb.out.drew) (by first|exact HL.out|exact HL.out.below (Below.refl _ _).drew)).mono ?_
            rintro e gW ⟨Su,Tf,rfl,vB,hq⟩;have ae:Bw jp gW:=by first|exact hq|exact aV hq
            clear t0 t1 z0 jg z1 iI;replace aN:=ah (aN.out.below ae);replace Ht:=kB Ht ae;replace HL:=ah (HL.out.below ae);replace Hz:=kB Hz ae;obtain⟨t0,t1⟩:=Ht.out.c2;obtain⟨z0,jg,z1,iI⟩:=Hz.out.g2;replace Hb:=az Hb ae;clear ae;have HX:=ah vB;clear vB;refine hK _ _ (λ_=>aN.out) ?_;clear hK K;try simp only[UU]
            iterate 3 (refine pT rfl rfl ?_;try simp only[UU])
            refine aI rfl rfl (λK hK=>?_);go_simp;refine hK _ _ (by first|exact λh=>absurd h zd|exact λ_=>aN.out|exact λ_=>(by first|exact aN.out.setCell zp _|exact(aN.out.setCell zp _).setCell zp _|exact((aN.out.setCell zp _).setCell zp _).setCell zp _)) ?_;clear hK K;try simp only[UU]
            refine pT rfl rfl ?_;try simp only[UU]
            simp only[aZ];go_wp2_with fail;go_meet;exact⟨_,_,_,rfl,by omega,(Hz.out.set 0 _).set 1 _,HX.out.store Hz.out zd _ _,(Hb.out.setCell zp _).setCell zp _⟩
        . go_simp;have Ee:=Hb.out.size;refine hK _ _ (λ_=>by first|exact aN.out.alloc _|exact(aN.out.alloc _).drew|exact(aN.out.drew).alloc _) ?_;clear hK K;try simp only[UU]
          refine IU (λjp=>ak jp (fI.heap.size) 57 [.int .i64 0,.slice none 0 0]/\Bw fI jp) (by first|exact dU|exact dV) ?_;rintro jp ⟨qz,ae⟩;clear t0 t1;have XN:=Ht.out.lt;replace aN:=ah (aN.out.below ae);replace Ht:=kB Ht ae;replace HL:=ah (HL.out.below ae);have Hz:=ah qz;clear qz;obtain⟨t0,t1⟩:=Ht.out.c2;obtain⟨z0,jg,z1,iI⟩:=Hz.out.g2;replace Hb:=az Hb ae;clear ae;refine nK ?_;refine aI rfl rfl (λK hK=>?_);go_simp;with_reducible refine(oV.out _ (by first|exact aK pg.out Hb.out|exact aK pg.out Hb.out.drew)).mono ?_
          rintro e il ⟨rfl,hq⟩;have ae:Bw jp il:=by first|exact hq|exact aV hq
          clear t0 t1 z0 jg z1 iI;replace aN:=ah (aN.out.below ae);replace Ht:=kB Ht ae;replace HL:=ah (HL.out.below ae);replace Hz:=kB Hz ae;obtain⟨t0,t1⟩:=Ht.out.c2;obtain⟨z0,jg,z1,iI⟩:=Hz.out.g2;replace Hb:=az Hb ae;clear ae;refine hK _ _ (λ_=>aN.out) ?_;clear hK K;try simp only[UU]
          refine aI rfl rfl (λK hK=>?_);go_simp;with_reducible refine(uH.out a7 d7 _ (by first|exact aK pg.out Hb.out|exact aK pg.out Hb.out.drew) (by first|exact HL.out|exact HL.out.below (Below.refl _ _).drew)).mono ?_
          rintro e gW ⟨Su,Tf,rfl,vB,hq⟩;have ae:Bw il gW:=by first|exact hq|exact aV hq
          clear t0 t1 z0 jg z1 iI;replace aN:=ah (aN.out.below ae);replace Ht:=kB Ht ae;replace HL:=ah (HL.out.below ae);replace Hz:=kB Hz ae;obtain⟨t0,t1⟩:=Ht.out.c2;obtain⟨z0,jg,z1,iI⟩:=Hz.out.g2;replace Hb:=az Hb ae;clear ae;have HX:=ah vB;clear vB;refine hK _ _ (λ_=>aN.out) ?_;clear hK K;try simp only[UU]
          iterate 3 (refine pT rfl rfl ?_;try simp only[UU])
          refine aI rfl rfl (λK hK=>?_);go_simp;refine hK _ _ (by first|exact λh=>absurd h zd|exact λ_=>aN.out|exact λ_=>(by first|exact aN.out.setCell zp _|exact(aN.out.setCell zp _).setCell zp _|exact((aN.out.setCell zp _).setCell zp _).setCell zp _)) ?_;clear hK K;try simp only[UU]
          refine pT rfl rfl ?_;try simp only[UU]
          simp only[aZ];go_wp2_with fail;go_meet;exact⟨_,_,_,rfl,by omega,(Hz.out.set 0 _).set 1 _,HX.out.store Hz.out zd _ _,(Hb.out.setCell zp _).setCell zp _⟩
       case rest=>
        obtain⟨g17,Cn,Cv,rfl,aoL,UZ,Wq,hbc⟩:=hcut;have hov:=ownsRow_below RF.out hbc;obtain⟨xh,xo,jv,Nw,_⟩:=(Ky.out.below hbc) 0 zm;rw[uB.out]at jv Nw;rw[HnF.out]at jv;obtain⟨aa,ca,oC,qV,_⟩:=dG hov;simp only[Value.slice.injEq,true_and]at oC;obtain⟨rfl,rfl⟩:=oC;obtain⟨b9,o9,e9,rY⟩:=qV.aqV 0 zm jv;simp only[Option.some.injEq,Addr.mk.injEq,and_true]at e9;obtain⟨rfl,rfl⟩:=e9;rw[Nat.zero_mul,Nat.zero_add]at rY;have hgb:=yA hov;have hpc:=Ky.out.below hbc;obtain⟨cM,Hpc⟩:=aM hov hpc;have Hx:Hid (bB wc g' 0 [.int .i64 (k:Int),.slice xh nF xo]):=rY;have Hz:Hid (ak wc g17 57 [.int .i64 (k:Int),.slice Cn nN Cv]):=UZ;obtain⟨wH,KQ,acx,acA,Bq⟩:=fC (aK jc.out hbc) (aK pg.out hbc) Nw Wq (HT.out.below (aK pg.out hbc));have Zv:=hbc.size;clear hov qV jv rY hpc UZ Nw Wq hbc RF Ky HL Ht Hb t0 t1 aaO;have NV:=rA (i+1+1) lC 0 0 (rfl:(some ⟨g',0,none⟩:Option Addr)=_) zo rfl;rw[Nat.zero_mul,Nat.add_zero]at NV;have Hb:Hid (Bw wc wc):=Below.refl _ _;have x0:wc.cell? ⟨g',0,none⟩=some (.int .i64 (k:Int)):=Hx.out.cell 0 zm;have x1:wc.cell? ⟨g',1,none⟩=some (.slice xh nF xo):=Hx.out.cell 1 zm;obtain⟨z0,z1⟩:=Hz.out.c2;have HF:Hid (bR wc xh xo FF):=acx.out;have HN:Hid (bR wc Cn Cv NF):=acA.out;go_wp2_with fail;refine bM (λw'=>w'.cell? ⟨g17,0,none⟩=some (.int .i64 (k:Int))/\w'.cell? ⟨g17,1,none⟩=some (.slice Cn nN Cv)) (λi=>Nat.blt i 100000) [(0,true),(1,true),(2,true),(4,true),(3,false),(5,false),(6,false),(7,true),(8,true),(9,true),(10,true),(11,false)] zk zk rfl zk zc ⟨z0,z1⟩ ?_;iterate 4 (refine pT rfl rfl ?_ (by intro w' ⟨q0,q1⟩;go_simp;try with_reducible rfl);try simp only[UU])
        refine aI rfl rfl (λK hK=>?_);go_simp;refine hK _ _ (λ_=>⟨z0,z1⟩) ?_;clear hK K;try simp only[UU]
        refine aI rfl rfl (λK hK=>?_);go_simp;refine hK _ _ (λ_=>⟨aJ z0,aJ z1⟩) ?_;clear hK K;try simp only[UU]
        refine bO (λjp=>ak jp (wc.heap.size) 57 [.int .i64 (k:Int),.slice xh nF xo,.int .i64 (k:Int),.slice Cn nN Cv]/\Bw wc jp) (by first|exact dU|exact dV) ?_;rintro jp ⟨qc,ae⟩;clear x0 x1 z0 z1;have aqe:=Hz.out.lt;replace Hx:=kW Hx ae;replace Hz:=kB Hz ae;replace HF:=ah (HF.out.below ae);replace HN:=ah (HN.out.below ae);have Hc:=ah qc;clear qc;have x0:jp.cell? ⟨g',0,none⟩=some (.int .i64 (k:Int)):=Hx.out.cell 0 zm;have x1:jp.cell? ⟨g',1,none⟩=some (.slice xh nF xo):=Hx.out.cell 1 zm;obtain⟨z0,z1⟩:=Hz.out.c2;obtain⟨c0,c1,c2,c3⟩:=Hc.out.c4;replace Hb:=az Hb ae;clear ae;refine aI rfl rfl (λK hK=>?_);go_simp;with_reducible refine(JD.out xh xo Cn Cv _ (by first|exact aK KQ.out Hb.out|exact aK KQ.out Hb.out.drew) _ Hc.out HF.out HN.out).mono ?_
        rintro e PW ⟨KY,Lv,rfl,Wp,hq⟩;have ae:Bw jp PW:=by first|exact hq|exact aV hq
        clear x0 x1 z0 z1 c0 c1 c2 c3;replace Hx:=kW Hx ae;replace Hz:=kB Hz ae;replace HF:=ah (HF.out.below ae);replace HN:=ah (HN.out.below ae);replace Hc:=kB Hc ae;have x0:PW.cell? ⟨g',0,none⟩=some (.int .i64 (k:Int)):=Hx.out.cell 0 zm;have x1:PW.cell? ⟨g',1,none⟩=some (.slice xh nF xo):=Hx.out.cell 1 zm;obtain⟨z0,z1⟩:=Hz.out.c2;obtain⟨c0,c1,c2,c3⟩:=Hc.out.c4;replace Hb:=az Hb ae;clear ae;refine hK _ _ (λ_=>⟨z0,z1⟩) ?_;clear hK K;try simp only[UU]
        iterate 4 (refine pT rfl rfl ?_;try simp only[UU])
        refine aI rfl rfl (λK hK=>?_);have Ik:=ownsRow_below cM.out Hb.out;have jg:=mM Ik 0;have iI:=mM Ik 1;have UY:=aK wH.out Hb.out;obtain⟨RH,aa3,acn,acf⟩:=dS Ik UY (Hpc.out.below Hb.out) Wp;clear Ik UY Wp;go_simp;refine hK _ _ (λ_=>⟨aH (.inl zp) (aH (.inl zp) z0),aH (.inl zp) (aH (.inl zp) z1)⟩) ?_;clear hK K;try simp only[UU]
        iterate 0 skip
        simp only[aZ];go_wp2;go_roundw;case rel=>
         obtain⟨cur,Di⟩:=Yo RH.out;have dv:=jP RH.out 0 (.int .i64 (k:Int));obtain⟨an6,Vm⟩:=Yo dv;have dP:=jP dv 1 (.slice KY nG Lv);rw[ak3]at dP;refine⟨i+1,_,(ps++[(⟨(k:Int),a7,nL,d7⟩:Pv)]).set 0 ⟨(k:Int),KY,nG,Lv⟩,by omega,by go_num,rfl,by simp[ll.out],dP,?_,?_⟩
         . exact cE.out _ _ KY Lv ((acn.out.off Di zd 0 _).off Vm zd 1 _) ((acf.out.off Di zd 0 _).off Vm zd 1 _)
         . exact(aa3.out.setCell hgb.1 _).setCell hgb.1 _
        case measure=>simp[intOf];omega
  . obtain rfl:i=n:=by omega
    obtain⟨ahQ,ho',ahP,aQ⟩:=dS hpo ho hpl (aK dK.out pb);clear ho pb hpo hpl;go_wp2;obtain⟨a',c',e1,h1,h2⟩:=dG ho'.out;subst e1;have hcc:i+1<=c':=by
     rcases ho'.out.2 with⟨h,h0⟩ |⟨g9,aeM,afj,h,_,_,h6,_⟩
     . omega
     . simp only[Value.slice.injEq,true_and]at h;omega
    exact bodyPost_ret (v:=.tuple #[.slice a' (i+1) c',.int .i64 0]) (by simp[results,Tryz.results23,go_sem]) rfl ⟨a',c',ps,rfl,hcc,ahP.out,h1,ahQ.out,aQ.out⟩
theorem ags (a:Option Addr)(L cap:Nat)(rows:List (List Raw))(B:Nat)(c:Int)(w:World)(hL:rows.length=L)(lF:L<=5)(hcap:L<=cap)(ha:bo w a rows)(hfit:∀r∈rows,∀c∈r,Fit B c)(hB:B<=200000)(hT:aF w)(hc:fD rows=c)(h0:c≠0):
 Calls Tryz.prog 23 #[.slice a L cap] w λe w'=>e=.returned (.tuple #[.slice none 0 0,.int .i64 c])/\Bw w w':=by
 have gB:=λW (hW:Bw w W)=>NQ a L cap rows B W hL lF hcap (ha.below hW) hfit hB (hT.below hW);rw[hc]at gB;have hz3:(c !=0)=true:=by simpa using h0
 have iU:=ah gB;clear gB ha hT hfit hL hc h0;have Hb:Hid (Bw w w):=Below.refl _ _;go_enter Tryz.func23,Tryz.ntmps23;go_wp2_with fail;refine(iU.out _ Hb.out).mono ?_;rintro e w1 ⟨⟨X,a1,n1,c1,rfl⟩,ae⟩;replace Hb:=az Hb ae;clear ae;obtain⟨W2,mH,ae,Hd⟩:=cS w1 30 [.bool (ar (dN X)),.string (bs (nt (dN X).natAbs)),.int .i64 (dE X)];obtain⟨d0,d1,d2⟩:=Hd.out.c3;replace Hb:=az Hb ae;clear ae;go_wp2;clear d0 d1 d2;refine fy (λw9=>ak w9 (w1.heap.size) 30 [.bool (ar (dN X)),.string (bs (nt (dN X).natAbs)),.int .i64 (dE X)]/\Bw w w9) ⟨Hd.out,Hb.out⟩ ?_;rintro w9 ⟨qd,ae⟩;replace Hd:=ah qd;clear qd;obtain⟨d0,d1,d2⟩:=Hd.out.c3;replace Hb:=ah ae;clear ae;refine bodyPost_ret (v:=.tuple #[.slice none 0 0,.int .i64 c]) (by simp[results,Tryz.results23,go_sem]) rfl ⟨rfl,Hb.out⟩
end Go.Proofs.YtdaadlblknpipaaGreatDoor
