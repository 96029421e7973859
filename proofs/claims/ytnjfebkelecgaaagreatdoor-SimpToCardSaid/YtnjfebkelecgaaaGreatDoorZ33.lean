/- Package simp: To,of whatever small arguments;what a polynomial is that Check lets by. -/
import Derived.Test.YtnjfebkelecgaaaGreatDoorZ12
import Derived.Test.YtnjfebkelecgaaaGreatDoorZ24
import Derived.Test.YtnjfebkelecgaaaGreatDoorZ32
import Derived.Test.YtnjfebkelecgaaaGreatDoorZ7
import Derived.Test.YtnjfebkelecgaaaGreatDoorZ26
import Derived.Test.YtnjfebkelecgaaaGreatDoorZ30
import Derived.Test.YtnjfebkelecgaaaGreatDoorZ25
import Derived.Test.YtnjfebkelecgaaaGreatDoorZ18
import Derived.Test.YtnjfebkelecgaaaGreatDoorZ19
import Derived.Test.YtnjfebkelecgaaaGreatDoorZ22
import Derived.Test.YtnjfebkelecgaaaGreatDoorZ11
import Derived.Test.YtnjfebkelecgaaaGreatDoorZ31
set_option linter.all false
set_option maxRecDepth 100000
set_option maxHeartbeats 16000000
namespace Go.Proofs.YtnjfebkelecgaaaGreatDoor
open Go.RowKit
def ax0 (ts:List aM)(h:∀k (h:k+1<ts.length),Op.bytesLess (ts[k]'zo).1 ts[k+1].1=true):Up ts:=by
 unfold Up;rw[List.pairwise_iff_getElem];intro i j hi hj hij;obtain⟨d,rfl⟩:∃d,j=i+1+d:=⟨j-(i+1),by omega⟩;induction d with
 |zero=>exact h i hj
 |succ d ih=>exact Dh (ih zo zo) (h (i+1+d) hj)
def aux {V:Nat}{ts:List aM}(h:fx (V:Int) ts=0):Gl V ts:=by
 obtain⟨h1,h2,h3,h4⟩:=OE h;have hall:(List.range ts.length).all (je (V:Int) ts)=true:=by
  unfold fx at h;rw[if_neg zo,if_neg zo]at h;by_cases h9:(List.range ts.length).all (je (V:Int) ts)=true
  . exact h9
  . rw[if_neg h9]at h;cases h
 rw[List.all_eq_true]at hall;have hg:∀k (hk:k<ts.length),wO (V:Int) ts[k].1 ts[k].2=true/\(0<k->Op.bytesLess (ts[k-1]'zo).1 ts[k].1=true):=λk hk=>by
  have h5:=hall k (List.mem_range.2 hk);unfold je at h5;rw[show ts.getD k default=ts[k]by simp[List.getD_eq_getElem?_getD,hk],show ts.getD (k-1) default=ts[k-1]'zo by simp[List.getD_eq_getElem?_getD,show k-1<ts.length by omega]]at h5;simp only[Bool.and_eq_true,Bool.or_eq_true,beq_iff_eq,fL]at h5;refine⟨h5.1,λh0=>?_⟩;rcases h5.2 with h6|h6
  . omega
  . exact h6
 refine⟨⟨ax0 ts (λk hk=>by have:=(hg (k+1) hk).2 zo;simpa using this),λt ht=>?_⟩,λt ht=>?_,h3,by omega⟩;all_goals
  obtain⟨k,hk,rfl⟩:=List.mem_iff_getElem.1 ht
  have h5:=(hg k hk).1
  unfold wO at h5
  simp only[Bool.and_eq_true,Bool.not_eq_true',beq_iff_eq]at h5
 . exact⟨(Bc _).1 h5.1.2,h5.2.symm⟩
 . exact h5.1.1
def axO (ts:List aM)(n:Nat)(h:∀t∈ts,iH t.1<=n):iq ts<=n:=by
 have gen:∀(ts:List aM) (a:Nat),a<=n->(∀t∈ts,iH t.1<=n)->ts.foldl (λn t=>max n (iu t.1)) a<=n:=by
  intro ts;induction ts with
  |nil=>intro a ha _;exact ha
  |cons t ts ih=>intro a ha h;exact ih _ (Nat.max_le.2 ⟨ha,h t zm⟩) (λu hu=>h u (by simp[hu]))
 exact gen ts 0 (Nat.zero_le _) h
def ahB {PV d:Int}{ts:List aM}{rows:List (List Raw)}{B:Nat}(h4:rows.length<=4)(hf:∀r∈rows,∀c∈r,Fit B c)(hts:∀t∈ts,Fit B t.2)(h:mF PV ts rows d=0):
 ∃V:Nat,1<=V/\V<=3/\PV=(V:Int)/\rows.length=V+1/\eU rows=0/\Rw V B rows/\0<=d/\dW V B d.toNat ts:=by
 unfold mF at h;by_cases hb:eU rows=1\/fx PV ts≠0\/PV≠(rows.length:Int)-1\/d<(iq ts:Int)
 . rw[if_pos hb]at h;cases h
 . rw[if_neg hb]at h;have h1:¬eU rows=1:=λe=>hb (.inl e);have h2:fx PV ts=0:=Classical.byContradiction λe=>hb (.inr (.inl e));have h3:PV=(rows.length:Int)-1:=Classical.byContradiction λe=>hb (.inr (.inr (.inl e)));have h5:¬d<(iq ts:Int):=λe=>hb (.inr (.inr (.inr e)));obtain⟨m,hm,hr⟩:=axy zo hf h;have hl:=hr.1;have hV:PV=((m+1:Nat):Int):=by omega
   rw[hV]at h2;have hp:=aux h2;exact⟨m+1,by omega,by omega,hV,hl,h,hr,by omega,⟨hp,hts⟩,λt ht=>⟨hp.2.1 t ht,by have:iH t.1<=iq ts:=aba ts t ht;omega⟩⟩
end Go.Proofs.YtnjfebkelecgaaaGreatDoor
namespace Go.Proofs.YtnjfebkelecgaaaGreatDoor
open Go.RowKit
attribute [local go_sem ↓] Go.wp_at_zero Go.wp_at_succ
noncomputable def toC (PV:Int) (ts:List aM) (rows:List (List Raw)) (d:Int):Int:=if 20<d then 1 else mF PV ts rows d
def axJ (PV:Int)(aP:Option Addr)(nT di:Nat)(ts:List aM)(a:Option Addr)(L cap:Nat)(rows:List (List Raw))(B:Nat)(d:Int)(w:World)(dQ:ts.length=nT)(hn:nT<=1048576)(iy:At w aP (ts.flatMap aW))(hts:∀t∈ts,t.1.length<=9223372036854775807/\Ok t.2)
 (hL:rows.length=L) (hL4:L<=4) (hcap:L<=cap) (ha:bQ w a rows) (hfit:∀r∈rows,∀c∈r,Fit B c) (hB:B<=900000) (hT:aR w) (hd:20<d) (h1:¬eU rows=1) (h2:fx PV ts=0) (h3:PV=(L:Int)-1) (h4:¬d<(iq ts:Int)):
 Cv 11 #[.agg #[ah PV,.slice aP nT di],.slice a L cap,ah d] w (.tuple #[.agg #[ah 0,ah 0,.slice none 0 0],ah 1]):=by
 have nz:=λW=>λ(h:bQ W a rows) (hT:aR W)=>Pg a L cap rows B W hL zo hcap h hfit hB hT;have hpc:=λW=>λ(h:At W aP (ts.flatMap aW)) (hT:aR W)=>JV PV aP di nT ts W dQ hn h hts hT;rw[h2]at hpc
 have jJ:=λW=>λ(h:At W aP (ts.flatMap aW))=>Xl PV aP di nT ts W dQ hn h (λt ht=>by
  obtain⟨q1,q2,q3,q4⟩:=OE h2;obtain⟨q5,q6⟩:=q4 t ht
  exact⟨by omega,q6⟩)
 obtain⟨tc,xn⟩:=aI (eU rows);obtain⟨tt,xq⟩:∃tt:Int,(iq ts:Int)=tt:=⟨_,rfl⟩;rw[xn]at nz h1;rw[xq]at jJ h4;obtain⟨wD,kL,uU,oJ,Ha,HT⟩:=fw nz hpc jJ iy ha hT;have h1b:(tc==1)=false:=by simpa using h1
 have Ob:IntKind.i64.wrap ((L:Int)-1)=PV:=by rw[IntKind.wrap_i64];omega
 clear nz hpc jJ iy ha hT xn xq hfit hts dQ hL h1 h2 h3;obtain⟨W,cP,ag,aC⟩:=jq w 24 [ah PV,.slice aP nT di] 34 [ah 0,ah 0,.slice none 0 0];have lF:Hid (At W aP (ts.flatMap aW)):=oJ.out.below ag.1.out;have fE:Hid (bQ W a rows):=Ha.out.below ag.1.out;have eG:Hid (aR W):=HT.out.below ag.1.out;go_enter Tryz.func11,Tryz.ntmps11;go_wp2_with fail;refine aZ (lF.an<|fE.an<|eG.an ag) (wD.out _ fE.out eG.out) λw1 ag aC=>?_;go_wp2_with fail;refine aZ ag (kL.out _ ag.1.out ag.2.2.1.out) λw2 ag aC=>?_;go_wp2_with fail;refine aZ ag (uU.out _ ag.1.out) λw3 ag aC=>?_;go_wp2;refine eH (bG w3 (w.heap.size+1) 0 [ah 0,ah 0,.slice none 0 0]) bM ?_;intro w9 hs0;have ag:=cH hs0 ag;simp only[cB,List.set]at ag;have aC:=qC ag;refine bodyPost_ret (v:=.tuple #[.agg #[ah 0,ah 0,.slice none 0 0],ah 1]) (by simp[results,Tryz.results11,go_sem,aC]) rfl ⟨rfl,ag.2.2.2.1.out⟩
def RB (PV d:Int)(ts:List aM)(rows:List (List Raw))(N k:Nat)(e:Ending)(w':World):Prop:=
 (toC PV ts rows d≠0/\e=.returned (.tuple #[.agg #[ah 0,ah 0,.slice none 0 0],ah (toC PV ts rows d)]))\/
 (toC PV ts rows d=0/\∃b:Nat,k<=b/\e=.returned (.tuple #[.agg #[ah PV,ah d,.slice (some ⟨b,0,none⟩) N N],ah 0])/\aH w' b 48 (dC (fD (rows.length-1) d.toNat (rows.map λr=>r.map aJ) (fR ts))))
def axH (PV:Int)(aP:Option Addr)(nT di:Nat)(ts:List aM)(a:Option Addr)(L cap:Nat)(rows:List (List Raw))(B N:Nat)(d:Int)(w:World)(dQ:ts.length=nT)(hn:nT<=4096)(iy:At w aP (ts.flatMap aW))(hts:∀t∈ts,Fit B t.2)(hlm:∀t∈ts,t.1.length<=9223372036854775807)
 (hL:rows.length=L) (hL4:L<=4) (hcap:L<=cap) (ha:bQ w a rows) (hfit:∀r∈rows,∀c∈r,Fit B c) (bX:1<=B) (hB:B<=100000) (hT:aR w) (hd:d<=5\/20<d) (hN:cnt (L-1) d.toNat=N):
 Cl 11 #[.agg #[ah PV,.slice aP nT di],.slice a L cap,ah d] w λe w'=>RB PV d ts rows N w.heap.size e w'/\Bw w w':=by
 have adz:=λc hd hc hc0=>axI PV aP nT di ts a L cap rows B d w dQ zo iy (λt ht=>⟨hlm t ht,(hts t ht).1⟩) hL hL4 hcap ha hfit zo hT c hd hc hc0;rcases hd with hd|hd
 . have e:toC PV ts rows d=mF PV ts rows d:=by unfold toC;rw[if_neg zo]
   unfold RB;rw[e];by_cases h0:mF PV ts rows d=0
   . obtain⟨V,hV1,jD,rfl,hl,h9,hr,hd0,hp⟩:=ahB zo hfit hts h0;have Ti:L-1=V:=by omega
     have aqu:rows.length-1=V:=by omega
     rw[Ti]at hN;refine(ahC V d.toNat (V:Int) rfl aP nT di ts a L cap rows B N d zo w dQ hn iy hts hL hL4 hcap ha hfit bX hB hT zo h0 hN).mono ?_;rintro e w' ⟨b,hbb,rfl,hat,au⟩;exact⟨.inr ⟨h0,b,hbb,rfl,by rw[aqu];exact hat⟩,au⟩
   . refine(adz _ (.inl zo) rfl h0).mono ?_;rintro e w' ⟨rfl,au⟩;exact⟨.inl ⟨h0,rfl⟩,au⟩
 . have e:toC PV ts rows d=1:=by unfold toC;rw[if_pos hd]
   unfold RB;rw[e];by_cases hb:eU rows=1\/fx PV ts≠0\/PV≠(rows.length:Int)-1\/d<(iq ts:Int)
   . refine(adz 1 (.inr rfl) (by unfold mF;rw[if_pos hb]) zd).mono ?_;rintro e w' ⟨rfl,au⟩;exact⟨.inl ⟨by decide,rfl⟩,au⟩
   . have q1:¬eU rows=1:=λh=>hb (.inl h);have q2:fx PV ts=0:=Classical.byContradiction λh=>hb (.inr (.inl h));have q3:PV=(rows.length:Int)-1:=Classical.byContradiction λh=>hb (.inr (.inr (.inl h)));refine(axJ PV aP nT di ts a L cap rows B d w dQ zo iy (λt ht=>⟨hlm t ht,(hts t ht).1⟩) hL hL4 hcap ha hfit zo hT hd q1 q2 (by rw[<-hL];exact q3) (λh=>hb (.inr (.inr (.inr h))))).mono ?_;rintro e w' ⟨rfl,au⟩;exact⟨.inl ⟨by decide,rfl⟩,au⟩
def OC {V:Int}{ts:List aM}(k:Nat)(hk:k<ts.length)(h:je V ts k=false):¬fx V ts=0:=by
 unfold fx;split
 . decide
 . split
   . decide
   . rw[if_neg]
     . decide
     . intro h2;rw[List.all_eq_true]at h2;have:=h2 k (List.mem_range.2 hk);rw[h]at this;cases this
def auw {V:Int}{ts:List aM}(h1:0<=V/\V<=12)(h2:ts.length<=4096)(h:∀k,k<ts.length->je V ts k=true):fx V ts=0:=by unfold fx;rw[if_neg (λh=>h h1),if_neg zo,if_pos];rw[List.all_eq_true];exact λk hk=>h k (List.mem_range.1 hk)
def ap5 {V:Int}{ts:List aM}{k:Nat}(hk:k<ts.length){l:List UInt8}{s:Bool}{m:List UInt8}{e:Int}(hx:ts[k]=(l,s,m,e)){b4:Bool}(h4:(k==0||Op.bytesLess (ts.getD (k-1) default).1 l)=b4):
 je V ts k=(eN l V&& !(dR (aJ (s,m,e))==0)&&(canon (aJ (s,m,e))==(s,m,e))&&b4):=by
 unfold je wO;rw[show ts.getD k default=(l,s,m,e)by simp[List.getD_eq_getElem?_getD,hk,hx],fL,fL,<-h4]
def WI (V:Int)(a:Option Addr)(cap N:Nat)(ts:List aM)(w:World)(hN:ts.length=N)(ha:At w a (ts.flatMap aW))(hn:N<=4096)(hf:∀t∈ts,eI t.2/\t.1.length<=1000000):
 Cl 47 #[.agg #[ah V,.slice a N cap]] w λe w'=>(∃c:Int,e=.returned (ah c)/\(c=0↔fx V ts=0))/\Bw w w':=by
 obtain⟨Ha,HN,Hf⟩:=cE ha hN hf;clear ha hN hf;have dv:¬(4096:Int)<(N:Int):=by omega
 have aAp:decide ((4096:Int)<(N:Int))=false:=by simp;omega
 by_cases hV1:V<0
 . have hV2:¬fx V ts=0:=by unfold fx;rw[if_pos zo];decide
   have PF:=az hV2;clear hV2;obtain⟨W,cP,ag,aC⟩:=gz w 24 [ah V,.slice a N cap];go_enter Tryz.func47,Tryz.ntmps47;go_wp2;refine bodyPost_ret (results_tmp rfl _ _ _) rfl ⟨⟨1,rfl,λh=>(by cases h),λh=>absurd h PF.out⟩,ag.1.out⟩
 . by_cases hV12:12<V
   . have hV2:¬fx V ts=0:=by unfold fx;rw[if_pos zo];decide
     have PF:=az hV2;clear hV2;obtain⟨W,cP,ag,aC⟩:=gz w 24 [ah V,.slice a N cap];go_enter Tryz.func47,Tryz.ntmps47;go_wp2;refine bodyPost_ret (results_tmp rfl _ _ _) rfl ⟨⟨1,rfl,λh=>(by cases h),λh=>absurd h PF.out⟩,ag.1.out⟩
   . skip
     obtain⟨W,cP,ag,aC⟩:=gz w 24 [ah V,.slice a N cap];go_enter Tryz.func47,Tryz.ntmps47;go_wp2_with fail;go_loopw[3] (λx wr=>∃k:Nat,k<=N/\x=ah (k:Int)/\aH wr w.heap.size 24 [ah V,.slice a N cap]/\(∀j,j<k->je V ts j=true)/\Bw w wr) (λx _=>N-(intOf x).toNat);case atStart=>exact⟨0,Nat.zero_le _,rfl,ag.2.1.out,λj hj=>absurd hj (Nat.not_lt_zero _),ag.1.out⟩
     case round=>
      skip
      obtain⟨k,hk,rfl,fO,hgd,pb⟩:=hrel;have Qn:=az hgd;clear hgd;by_cases hlt:k<N
      . have hk2:k<ts.length:=by rw[HN.out];exact hlt
        obtain⟨l,s,m,e,hx⟩:∃l s m e,ts[k]=(l,s,m,e):=⟨_,_,_,_,rfl⟩;obtain⟨b,o,hab,cn⟩:=(Ha.out.below pb).term k hk2 hx;have hfl:eI (s,m,e)/\l.length<=1000000:=by have h:=Hf.out _ (List.getElem_mem hk2);rw[hx]at h;exact h
        obtain⟨b4,h4⟩:=aI (k==0||Op.bytesLess (ts.getD (k-1) default).1 l);have iZ:je V ts k=_:=ap5 hk2 hx h4;obtain⟨X,hX⟩:=aI (aJ (s,m,e));rw[hX]at iZ;obtain⟨sg,jI⟩:=aI (dR X);rw[jI]at iZ;obtain⟨b1,hb1⟩:=aI (eN l V);obtain⟨b3,hb3⟩:=aI (canon X==(s,m,e));rw[hb1,hb3]at iZ;have hne:=Wa X s m e (!b3) (by rw[hb3];simp);have pj:=λW=>WB l V W (by have:=hfl.2;omega);rw[hb1]at pj;have bC:=gQ N cap k (k:Int) hab hlt rfl;have vF:=λW=>Kk s m e sg (by rw[hX];exact jI) W (by have h:m.length<=16384:=hfl.1.1;omega);have hfo:=λW=>EG s m e X hX W hfl.1;obtain⟨kg,wB,Lj,aX,lH,H4,oK,kJ,Hp⟩:=En pj vF hfo pb iZ h4 hk2 hab fO;have jy:Hid (bA wr b (o+k*4) [ai l,aj s,ai m,ah e]):=cn;have sz:=pb.size;clear pj vF hfo pb fO cn hX jI hb1 hb3 hfl hab iZ h4 hk2 hx;have Hb:=hbz wr;obtain⟨ag,aC⟩:=qZ (Hp.an<|jy.an trivial);have p1:wr.cell? ⟨w.heap.size,1,none⟩=some (.slice a N cap):=ag.1.out.cell 1;have xW:wr.cell? ⟨b,o+k*4+3,none⟩=some (ah e):=ag.2.1.out.cell 3 zm;have xV:wr.cell? ⟨b,o+k*4+2,none⟩=some (ai m):=ag.2.1.out.cell 2 zm;have xS:wr.cell? ⟨b,o+k*4,none⟩=some (ai l):=ag.2.1.out.cell 0 zm;have xU:wr.cell? ⟨b,o+k*4+1,none⟩=some (aj s):=ag.2.1.out.cell 1 zm;have P0:=xS;have P1:=xU;have P2:=xV;have P3:=xW;have Q1:=p1;obtain⟨W4,rD,bi,ag,aC⟩:=cM wr (Hb.an ag) 67 [ai l,aj s,ai m,ah e];go_wp2_with fail;clear P0 P1 P2 P3 Q1;cases b1 with
        |false=>refine dG 999 ag (dD 20 0x27251e23211d1b19171512110f0d0b0807050301) ?_;refine bU ?_;refine cz ag (kg.out _) λw5 ag=>?_;refine bU ?_;refine dF ag λaC=>?_;go_wp2;refine bodyPost_ret (results_tmp rfl _ _ _) rfl ⟨⟨1,rfl,λh=>(by cases h),λh=>absurd h (OC k oK.out (by rw[lH.out];rfl))⟩,aO aX.out ag.2.1.out⟩
        | true=>
          by_cases h2:sg=0
          . have hs1:(sg==0)=true:=by simpa using h2
            refine dG 999 ag (dD 20 0x27251e23211d1b19171512110f0d0b0807050301) ?_;refine bU ?_;refine cz ag (kg.out _) λw5 ag=>?_;refine bU ?_;refine cz ag (wB.out _) λw6 ag=>?_;refine bU ?_;refine dF ag λaC=>?_;go_wp2;refine bodyPost_ret (results_tmp rfl _ _ _) rfl ⟨⟨1,rfl,λh=>(by cases h),λh=>absurd h (OC k oK.out (by rw[lH.out,hs1];rfl))⟩,aO aX.out ag.2.1.out⟩
          . have hs1:(sg==0)=false:=by simpa using h2
            clear h2;cases b3 with
            |false=>refine dG 999 ag (dD 20 0x27251e23211d1b19171512110f0d0b0807050301) ?_;refine bU ?_;refine cz ag (kg.out _) λw5 ag=>?_;refine bU ?_;refine cz ag (wB.out _) λw6 ag=>?_;refine bU ?_;refine cz ag (Lj.out _) λw7 ag=>?_;refine bU ?_;refine dF ag λaC=>?_;go_wp2;refine bodyPost_ret (results_tmp rfl _ _ _) rfl ⟨⟨1,rfl,λh=>(by cases h),λh=>absurd h (OC k oK.out (by rw[lH.out,hs1];rfl))⟩,aO aX.out ag.2.1.out⟩
            | true=>
              refine dG 999 ag (dD 20 0x27251e23211d1b19171512110f0d0b0807050301) ?_;refine bU ?_;refine cz ag (kg.out _) λw5 ag=>?_;refine bU ?_;refine cz ag (wB.out _) λw6 ag=>?_;refine bU ?_;refine cz ag (Lj.out _) λw7 ag=>?_;refine bU ?_;refine dF ag λaC=>?_;have iz:je V ts k=b4:=by rw[lH.out,hs1];simp
              have rT:=az iz;clear iz;by_cases kY:k=0
              . have hb4:b4=true:=by rw[<-H4.out,kY];rfl
                have hk1:decide (0<k)=false:=by simp;omega
                have ari:decide ((0:Int)<(k:Int))=false:=by simp;omega
                have lG:=az hb4;clear hb4 kY;go_wp2_with fail;refine dG 999 ag (dD 14 0x1b19171513110f0d0b0907050301) ?_;refine bU ?_;refine dF ag λaC=>?_;go_wp2;go_roundw;case rel=>exact⟨k+1,by omega,by go_num,ag.2.2.1.out,λj hj=>by rcases Nat.lt_succ_iff_lt_or_eq.1 hj with h|rfl;exact Qn.out j h;rw[rT.out,lG.out],(aO aX.out ag.2.1.out).drew⟩
                case measure=>exact bH
              . have uk:k-1<ts.length:=by have:=oK.out;omega
                obtain⟨l',s',m',e',hx'⟩:∃l s m e,ts[k-1]=(l,s,m,e):=⟨_,_,_,_,rfl⟩;obtain⟨b',o',nW,nC⟩:=(Ha.out.below (aO aX.out ag.2.1.out)).term (k-1) uk hx';have hab:=kJ.out;rw[hab]at nW;simp only[Option.some.injEq,Addr.mk.injEq,and_true]at nW;obtain⟨rfl,rfl⟩:=nW;have hb4:Op.bytesLess l' l=b4:=by have h:=H4.out;rw[show ts.getD (k-1) default=(l',s',m',e')by simp[List.getD_eq_getElem?_getD,uk,hx'],show(k==0)=false by simpa using kY,Bool.false_or]at h;exact h
                have dS:Op.bytesLess (bs l').toList (bs l).toList=b4:=by rw[fL,fL];exact hb4
                have ari:decide ((0:Int)<(k:Int))=true:=by simp;omega
                have hk1:decide (0<k)=true:=by simp;omega
                have Uu:IntKind.i64.wrap ((k:Int)-1)=((k-1:Nat):Int):=by rw[IntKind.wrap_i64];omega
                have Uo:=gQ N cap (k-1) ((k-1:Nat):Int) hab zo rfl;obtain⟨kp,Eb⟩:=aI (k-1);rw[Eb]at Uo Uu nC;have ark:kp<N:=by omega
                have eV:Hid (bA w7 b (o+kp*4) [ai l',aj s',ai m',ah e']):=nC;clear nC kY hx' Eb hab uk;have Hp:=ag.2.2.1;have Ht:=ag.1;have Hb:=ag.2.1;obtain⟨ag,aC⟩:=qZ (Hp.an<|Ht.an<|eV.an trivial);cases b4 with
                | true=>
                  have hge:Op.bytesLess (bs l).toList (bs l').toList=false:=by
                   rw[fL,fL];cases hc:Op.bytesLess l l' with
                   |false=>rfl
                   |true=>have:=Dh hb4 hc;rw[Dg]at this;cases this
                  clear hb4;go_wp2_with fail;refine dG 999 ag (dD 14 0x1b19171513110f0d0b0907050301) ?_;refine bU ?_;refine dF ag λaC=>?_;go_wp2;go_roundw;case rel=>exact⟨k+1,by omega,by go_num,ag.1.out,λj hj=>by rcases Nat.lt_succ_iff_lt_or_eq.1 hj with h|rfl;exact Qn.out j h;exact rT.out,(aO aX.out Hb.out).drew⟩
                  case measure=>exact bH
                |false=>clear hb4;go_wp2_with fail;refine dG 999 ag (dD 14 0x1b19171513110f0d0b0907050301) ?_;refine bU ?_;refine dF ag λaC=>?_;go_wp2;refine bodyPost_ret (results_tmp rfl _ _ _) rfl ⟨⟨1,rfl,λh=>(by cases h),λh=>absurd h (OC k oK.out rT.out)⟩,(aO aX.out Hb.out).drew⟩
      . obtain rfl:k=N:=by omega
        obtain⟨Hp,aX⟩:=aU fO pb;have hall:fx V ts=0:=auw zo (by rw[HN.out];omega) (λj hj=>Qn.out j (by rw[<-HN.out];exact hj));have mJ:=az hall;clear hall fO pb;obtain⟨ag,aC⟩:=qZ (Hp.an trivial);go_wp2;refine bodyPost_ret (results_tmp rfl _ _ _) rfl ⟨⟨0,rfl,λ_=>mJ.out,λ_=>rfl⟩,aX.out⟩
def axF {PV:Int}{ts:List aM}{rows:List (List Raw)}{d:Int}:toC PV ts rows d=if ¬fx PV ts=0\/gA rows=0\/¬PV=gA rows\/d<(iq ts:Int)\/20<d then 1 else eU rows:=by
 unfold toC;by_cases h20:20<d
 . rw[if_pos h20,if_pos (.inr (.inr (.inr (.inr h20))))]
 . rw[if_neg h20];unfold mF;by_cases h0:gA rows=0
   . have h1:eU rows=1:=by unfold eU;rw[if_pos h0]
     rw[if_pos (.inl h1),if_pos (.inr (.inl h0))]
   . obtain⟨c1,c2,c3,c4⟩:=EM rfl h0;have h1:¬eU rows=1:=by unfold eU;rw[if_neg h0];split<;>decide
     by_cases hb:¬fx PV ts=0\/¬PV=gA rows\/d<(iq ts:Int)
     . rw[if_pos (by rcases hb with h|h|h;exact .inr (.inl h);exact .inr (.inr (.inl zo));exact .inr (.inr (.inr h))),if_pos (by rcases hb with h|h|h;exact .inl h;exact .inr (.inr (.inl h));exact .inr (.inr (.inr (.inl h))))]
     . rw[if_neg (by rintro(h|h|h|h);exact h1 h;exact hb (.inl h);exact hb (.inr (.inl zo));exact hb (.inr (.inr h))),if_neg (by rintro(h|h|h|h|h);exact hb (.inl h);exact h0 h;exact hb (.inr (.inl h));exact hb (.inr (.inr h));exact h20 h)]
def aww (PV:Int)(aP:Option Addr)(nT di:Nat)(ts:List aM)(a:Option Addr)(L cap:Nat)(rows:List (List Raw))(d:Int)(w:World)(dQ:ts.length=nT)(hn:nT<=1000)(iy:At w aP (ts.flatMap aW))(hts:∀t∈ts,eI t.2/\t.1.length<=1000)
 (hL:rows.length=L) (hL4:L<=4) (ha:bQ w a rows) (hfit:∀r∈rows,∀c∈r,ke 192 c) (c:Int) (hc:toC PV ts rows d=c) (hc0:c≠0):
 Cv 12 #[.agg #[ah PV,.slice aP nT di],.slice a L cap,ah d] w (.tuple #[.agg #[ah 0,ah 0,.slice none 0 0],ah c]):=by
 obtain⟨V,hV⟩:=aI (gA rows);obtain⟨tc,nz⟩:=aI (eU rows);obtain⟨tt,jJ⟩:∃tt:Int,(iq ts:Int)=tt:=⟨_,rfl⟩;have Jw:=λW (h:bQ W a rows)=>WL a L cap rows V W hL zo h hV;have hpc:=λW (h:At W aP (ts.flatMap aW))=>WI PV aP di nT ts W dQ h zo (λt ht=>⟨(hts t ht).1,by have:=(hts t ht).2;omega⟩);have pp:=λW (h:At W aP (ts.flatMap aW))=>Xk PV aP di nT ts W dQ hn (λt ht=>(hts t ht).2) h;have hch:=λW (h:bQ W a rows)=>agI a L cap 192 rows W hL zo hfit zd h;rw[nz]at hch;simp only[jJ]at pp;rw[axF,hV,jJ,nz]at hc;have hcs:=ahv rows;rw[nz]at hcs;have hv1:tc=1->V=0:=λh=>by rw[<-nz]at h;rw[<-hV];refine Classical.byContradiction λh0=>?_;unfold eU at h;rw[if_neg h0]at h;split at h<;>cases h
 obtain⟨vX,yq⟩:=aU hcs hv1;clear hcs hv1;obtain⟨yr,kL,uT,tq,oJ,Ha⟩:=fw Jw hpc pp hch iy ha;clear Jw hpc pp hch iy ha hV nz jJ hts hfit dQ hL;obtain⟨W,cP,ag,aC⟩:=jq w 24 [ah PV,.slice aP nT di] 34 [ah 0,ah 0,.slice none 0 0];have lF:Hid (At W aP (ts.flatMap aW)):=oJ.out.below ag.1.out;have fE:Hid (bQ W a rows):=Ha.out.below ag.1.out;by_cases h1:fx PV ts=0
 . by_cases h2:V=0
   . rw[if_pos (.inr (.inl h2))]at hc;subst hc h2;go_enter Tryz.func12,Tryz.ntmps12;go_wp2_with fail;refine aZ (lF.an<|fE.an ag) (yr.out _ fE.out) λw1 ag aC=>?_;go_wp2_with fail;refine(kL.out _ ag.1.out).mono ?_;rintro e w2 ⟨⟨c1,rfl,hc1⟩,au⟩;obtain⟨ag,aC⟩:=qX au ag;obtain rfl:=hc1.2 h1;clear hc1;go_wp2;refine eH (bG w2 (w.heap.size+1) 0 [ah 0,ah 0,.slice none 0 0]) bM ?_;intro w9 hs0;have ag:=cH hs0 ag;simp only[cB,List.set]at ag;have aC:=qC ag;refine bodyPost_ret (v:=.tuple #[.agg #[ah 0,ah 0,.slice none 0 0],ah 1]) (by simp[results,Tryz.results12,go_sem,aC]) rfl ⟨rfl,ag.2.2.1.out⟩
   . have h2b:(V==0)=false:=by simpa using h2
     by_cases h3:PV=V
     . by_cases h4:d<tt
       . rw[if_pos (.inr (.inr (.inr (.inl h4))))]at hc;subst hc h3;go_enter Tryz.func12,Tryz.ntmps12;go_wp2_with fail;refine aZ (lF.an<|fE.an ag) (yr.out _ fE.out) λw1 ag aC=>?_;go_wp2_with fail;refine(kL.out _ ag.1.out).mono ?_;rintro e w2 ⟨⟨c1,rfl,hc1⟩,au⟩;obtain⟨ag,aC⟩:=qX au ag;obtain rfl:=hc1.2 h1;clear hc1;go_wp2_with fail;refine aZ ag (uT.out _ ag.1.out) λw3 ag aC=>?_;go_wp2;refine eH (bG w3 (w.heap.size+1) 0 [ah 0,ah 0,.slice none 0 0]) bM ?_;intro w9 hs0;have ag:=cH hs0 ag;simp only[cB,List.set]at ag;have aC:=qC ag;refine bodyPost_ret (v:=.tuple #[.agg #[ah 0,ah 0,.slice none 0 0],ah 1]) (by simp[results,Tryz.results12,go_sem,aC]) rfl ⟨rfl,ag.2.2.1.out⟩
       . by_cases h5:20<d
         . rw[if_pos (.inr (.inr (.inr (.inr h5))))]at hc;subst hc h3;go_enter Tryz.func12,Tryz.ntmps12;go_wp2_with fail;refine aZ (lF.an<|fE.an ag) (yr.out _ fE.out) λw1 ag aC=>?_;go_wp2_with fail;refine(kL.out _ ag.1.out).mono ?_;rintro e w2 ⟨⟨c1,rfl,hc1⟩,au⟩;obtain⟨ag,aC⟩:=qX au ag;obtain rfl:=hc1.2 h1;clear hc1;go_wp2_with fail;refine aZ ag (uT.out _ ag.1.out) λw3 ag aC=>?_;go_wp2;refine eH (bG w3 (w.heap.size+1) 0 [ah 0,ah 0,.slice none 0 0]) bM ?_;intro w9 hs0;have ag:=cH hs0 ag;simp only[cB,List.set]at ag;have aC:=qC ag;refine bodyPost_ret (v:=.tuple #[.agg #[ah 0,ah 0,.slice none 0 0],ah 1]) (by simp[results,Tryz.results12,go_sem,aC]) rfl ⟨rfl,ag.2.2.1.out⟩
         . have TQ:tc=5:=by
            rw[if_neg (by rintro(h|h|h|h|h);exact h h1;exact h2 h;exact h h3;exact h4 h;exact h5 h)]at hc;rcases vX.out with h|h|h
            . exact absurd (hc.symm.trans h) hc0
            . exact absurd h (λh=>h2 (yq.out h))
            . exact h
           have hcc:c=5:=by rw[if_neg (by rintro(h|h|h|h|h);exact h h1;exact h2 h;exact h h3;exact h4 h;exact h5 h)]at hc;omega
           clear hc;subst TQ hcc h3;go_enter Tryz.func12,Tryz.ntmps12;go_wp2_with fail;refine aZ (lF.an<|fE.an ag) (yr.out _ fE.out) λw1 ag aC=>?_;go_wp2_with fail;refine(kL.out _ ag.1.out).mono ?_;rintro e w2 ⟨⟨c1,rfl,hc1⟩,au⟩;obtain⟨ag,aC⟩:=qX au ag;obtain rfl:=hc1.2 h1;clear hc1;go_wp2_with fail;refine aZ ag (uT.out _ ag.1.out) λw3 ag aC=>?_;go_wp2_with fail;refine aZ ag (tq.out _ ag.2.1.out) λw4 ag aC=>?_;go_wp2;refine eH (bG w4 (w.heap.size+1) 0 [ah 0,ah 0,.slice none 0 0]) bM ?_;intro w9 hs0;have ag:=cH hs0 ag;simp only[cB,List.set]at ag;have aC:=qC ag;refine bodyPost_ret (v:=.tuple #[.agg #[ah 0,ah 0,.slice none 0 0],ah 5]) (by simp[results,Tryz.results12,go_sem,aC]) rfl ⟨rfl,ag.2.2.1.out⟩
     . have h3b:(PV==V)=false:=by simpa using h3
       rw[if_pos (.inr (.inr (.inl h3)))]at hc;subst hc;go_enter Tryz.func12,Tryz.ntmps12;go_wp2_with fail;refine aZ (lF.an<|fE.an ag) (yr.out _ fE.out) λw1 ag aC=>?_;go_wp2_with fail;refine(kL.out _ ag.1.out).mono ?_;rintro e w2 ⟨⟨c1,rfl,hc1⟩,au⟩;obtain⟨ag,aC⟩:=qX au ag;obtain rfl:=hc1.2 h1;clear hc1;go_wp2;refine eH (bG w2 (w.heap.size+1) 0 [ah 0,ah 0,.slice none 0 0]) bM ?_;intro w9 hs0;have ag:=cH hs0 ag;simp only[cB,List.set]at ag;have aC:=qC ag;refine bodyPost_ret (v:=.tuple #[.agg #[ah 0,ah 0,.slice none 0 0],ah 1]) (by simp[results,Tryz.results12,go_sem,aC]) rfl ⟨rfl,ag.2.2.1.out⟩
 . rw[if_pos (.inl h1)]at hc;subst hc;go_enter Tryz.func12,Tryz.ntmps12;go_wp2_with fail;refine aZ (lF.an<|fE.an ag) (yr.out _ fE.out) λw1 ag aC=>?_;go_wp2_with fail;refine(kL.out _ ag.1.out).mono ?_;rintro e w2 ⟨⟨c1,rfl,hc1⟩,au⟩;obtain⟨ag,aC⟩:=qX au ag;have hcb:¬c1=0:=λh=>h1 (hc1.1 h);clear hc1;go_wp2;refine eH (bG w2 (w.heap.size+1) 0 [ah 0,ah 0,.slice none 0 0]) bM ?_;intro w9 hs0;have ag:=cH hs0 ag;simp only[cB,List.set]at ag;have aC:=qC ag;refine bodyPost_ret (v:=.tuple #[.agg #[ah 0,ah 0,.slice none 0 0],ah 1]) (by simp[results,Tryz.results12,go_sem,aC]) rfl ⟨rfl,ag.2.2.1.out⟩
def ag3 (V k:Nat)(w:World)(hV:V<=12)(hk:k<V):
 Cl 33 #[ah (V:Int),ah (k:Int)] w λex w'=>∃a' c',ex=.returned (.tuple #[.agg #[ah (V:Int),.slice a' (bW [(dV V k,canon 1)]).length c'],ah 0])/\bI w' a' c' (bW [(dV V k,canon 1)])/\Bw w w':=by
 obtain⟨C,hC⟩:=aI (bW [(dV V k,canon 1)]);rw[hC];obtain⟨O,hO⟩:∃O:Dyadic,(1:Dyadic)=O:=⟨_,rfl⟩;have hmk:=λW b (hb:aH W b 67 [ai (dV V k),aj (aK (dN O)),ai (nt (dN O).natAbs),ah (dE O)])=>OJ V (some ⟨b,0,none⟩) 1 1 [(dV V k,canon 1)] 1 W rfl zo (by rw[hO];exact At.aCi hb) (by intro t ht;simp at ht;subst ht;exact Sm.aCl Sm.one zd) (by intro t ht;simp at ht;subst ht;show Sm 1 (aJ (canon 1));rw[cJ];exact Sm.one) zo;rw[hC]at hmk;have hof:∀W,Cv 50 #[ah 1] W (cw O):=λW=>WE 1 O hO W zd;have hmb:=λW=>sN (V:Int) V rfl zo W;have hcv:∀W b,Hid (aH W b 5 (cZ V λj=>if j=k then 1 else 0))->(convert 84 9 (.slice (some ⟨b,0,none⟩) V V)).run Tryz.prog W=.ok (ai (dV V k)) W:=λW b h=>by rw[<-ahU V k];exact uH h.out V
 have bC:=λb=>rK V V k (k:Int) (rfl:(some ⟨b,0,none⟩:Option Addr)=_) hk rfl;simp only[Nat.zero_add,Nat.mul_one]at bC;have hget:(cZ V λ_=>0)[k]?=some (.int .u8 0):=mG _ _ _ hk;have qH:(cZ V λ_=>0).set k (.int .u8 1)=cZ V λj=>if j=k then 1 else 0:=CB V _ k 1
 obtain⟨lK,mM⟩:=aU hmk hof;clear hmk hof hC hO;have IP:¬(k:Int)<0:=by omega
 have hVi:¬(V:Int)<0:=by omega
 have hV2:¬(12:Int)<(V:Int):=by omega
 have hkV:¬(V:Int)<=(k:Int):=by omega
 obtain⟨W,cP,ag,aC⟩:=gz w 24 [ah 0,.slice none 0 0];go_enter Tryz.func33,Tryz.ntmps33;go_wp2_with fail;have hrl:=ag.2.1.out.lt;obtain⟨R,hR⟩:∃R:World->Prop,(λW3=>aH W3 W.heap.size 5 (cZ V λj=>if j=k then 1 else 0)/\Bw W W3)=R:=⟨_,rfl⟩;first|refine eO R ?hR ?_|refine fB R ?hR ?_
 case hR=>subst hR;exact⟨aH.newAt W _ _ (b:=W.heap.size) rfl,zl⟩
 subst hR;intro W3 ⟨qm,au⟩;obtain⟨ag,aC⟩:=qX au ag;skip
 have Hm:=az qm;clear qm au hget qH bC hmb;obtain⟨Hb,Hr,_⟩:=ag;obtain⟨r0,bo,r1,bz⟩:=Hr.out.g2;have fy:∀w',dJ W3 w'->(convert 84 9 (.slice (some ⟨W.heap.size,0,none⟩) V V)).run Tryz.prog w'=.ok (ai (dV V k)) w':=λw' h=>hcv w' _ (az (Hm.out.below h));have cg:Hid (dJ W3 W3):=Below.refl _ _;refine ez (λw'=>dJ W3 w') (λi=>Nat.blt i 9) [(0,true),(1,true),(2,true),(3,false),(4,true),(5,false),(6,false),(7,true),(8,true),(9,false),(10,false)] zk zk rfl zk zc cg.out.drew ?_;iterate 3 (refine JZ rfl rfl (v:=?_) (λw' hw'=>?_) ?_;rotate_left;(focus have hw':=fy w' hw';go_simp;try with_reducible rfl);try simp only[UU])
 refine aY rfl rfl (λK hK=>?_);go_simp;with_reducible refine(mM.out _).mono ?_
 rintro e w4 ⟨rfl,hq⟩;have au:Bw W3 w4:=by first|exact hq|exact df hq
 replace cg:=az (cg.out.below au);obtain⟨Hr,r0,bo,r1,bz⟩:=dZ Hr au;replace Hb:=bD Hb au;refine hK _ _ (λ_=>cg.out) ?_;try simp only[UU]
 refine pT rfl rfl ?_;try simp only[UU]
 refine aY rfl rfl (λK hK=>?_);go_simp;refine hK _ _ (λ_=>by first|exact cg.out.alloc _|exact(cg.out.alloc _).drew|exact(cg.out.drew).alloc _) ?_;try simp only[UU]
 refine cL (λW5=>aH W5 (w4.heap.size) 67 [ai (dV V k),aj (aK (dN O)),ai (nt (dN O).natAbs),ah (dE O)]/\Bw w4 W5) (by first|exact fI|exact fJ) ?_;rintro W5 ⟨qz,au⟩;have as7:=Hr.out.lt;replace cg:=az (cg.out.below au);replace Hr:=kB Hr au;have Hz:=az qz;clear qz;obtain⟨r0,bo,r1,bz⟩:=Hr.out.g2;obtain⟨z0,z1,z2,z3⟩:=Hz.out.c4;replace Hb:=bD Hb au;refine aY rfl rfl (λK hK=>?_);go_simp;with_reducible refine(lK.out _ _ Hz.out).mono ?_
 rintro e w6 ⟨a2,d2,rfl,dX,hq⟩;have au:Bw W5 w6:=by first|exact hq|exact df hq
 replace cg:=az (cg.out.below au);obtain⟨Hr,r0,bo,r1,bz⟩:=dZ Hr au;obtain⟨Hz,z0,z1,z2,z3⟩:=xC Hz au;replace Hb:=bD Hb au;refine hK _ _ (λ_=>cg.out) ?_;try simp only[UU]
 iterate 2 (refine pT rfl rfl ?_;try simp only[UU])
 refine aY rfl rfl (λK hK=>?_);go_simp;refine hK _ _ (by first|exact λh=>absurd h zd|exact λ_=>cg.out|exact λ_=>gN zg cg.out) ?_;try simp only[UU]
 refine aY rfl rfl (λK hK=>?_);go_simp;refine hK _ _ (λh=>absurd h zd) ?_;try simp only[UU]
 simp only[bP];go_wp2;have h9:=dX.store Hr.out zd (ah (V:Int)) (.slice a2 C.length d2);refine eH (λw9=>bI w9 a2 d2 C/\aH w9 w.heap.size 24 [ah (V:Int),.slice a2 C.length d2]/\Bw w w9) ⟨h9,(Hr.out.set 0 _).set 1 _,(Hb.out.setCell (Nat.le_refl _) _).setCell (Nat.le_refl _) _⟩ ?_;rintro w9 ⟨q1,q2,q3⟩;obtain⟨p0,p1⟩:=q2.c2;exact bodyPost_ret (v:=.tuple #[.agg #[ah (V:Int),.slice a2 C.length d2],ah 0]) (by simp[results,Tryz.results33,go_sem,p0,p1]) rfl ⟨_,_,rfl,q1,q3⟩
def av9 (V:Nat)(a:Option Addr)(cap N:Nat)(ts:List aM)(w:World)(hN:ts.length=N)(ha:At w a (ts.flatMap aW))(hp:Gl V ts)(hf:∀t∈ts,eI t.2):
 Cv 47 #[.agg #[ah (V:Int),.slice a N cap]] w (ah 0):=
 (WI (V:Int) a cap N ts w hN ha (by rw[<-hN];exact hp.2.2.1) (λt ht=>⟨hf t ht,by have:=VM (hp.2.1 t ht);have:=hp.2.2.2;omega⟩)).mono λ_ _ ⟨⟨c,h1,h2⟩,hb⟩=>⟨by rw[h1,h2.2 (OD hp)],hb⟩
def awk (V:Nat)(a:Option Addr)(cap:Nat)(ts:List aM)(s:Bool)(m:List UInt8)(e:Int)(D:Dyadic)(B:Nat)(w:World)(hp:ir V B ts)(ha:bI w a cap ts)(eK:eI (s,m,e))(Vd:Sm B (aJ (s,m,e)))(hB:2*B+4096<=16384)(hD:aJ (s,m,e)=D):
 Cl 37 #[.agg #[ah (V:Int),.slice a ts.length cap],.agg #[aj s,ai m,ah e]] w λex w'=>∃a' c',ex=.returned (.tuple #[.agg #[ah (V:Int),.slice a' (bW (eu D ts)).length c'],ah 0])/\bI w' a' c' (bW (eu D ts))/\Bw w w':=by
 obtain⟨i0,hi,hz0,hz1,hz2⟩:=info_parts Tryz.aCo;obtain⟨n,hn⟩:=aI ts.length;have hnl:n<=4096:=by have:=hp.1.2.2.1;omega
 have iM:(eu D ts).length=n:=by unfold eu;rw[List.length_map,hn]
 have hsm:∀t∈ts,Sm B (aJ t.2):=λt ht=>(hp.2 t ht).2;have jh:∀t∈ts,eI t.2:=λt ht=>by rw[(hp.1.1.2 t ht).2];exact(hsm t ht).aCl zo
 rw[hD]at Vd;have kC:∀t∈eu D ts,Sm (2*B) (aJ t.2):=by
  intro t ht;unfold eu at ht;obtain⟨x,hx,rfl⟩:=List.mem_map.1 ht;show Sm _ (aJ (canon _))
  rw[cJ];exact(Sm.mul (hsm x hx) Vd).mono zo
 have yM:∀t∈eu D ts,eI t.2:=by
  intro t ht;have h1:=kC t ht;unfold eu at ht;obtain⟨x,hx,rfl⟩:=List.mem_map.1 ht;have h2:Sm (2*B) (aJ x.2*D):=by have h3:aJ (canon (aJ x.2*D))=aJ x.2*D:=cJ _;rw[<-h3];exact h1
  exact h2.aCl zo
 have eX:=λW (hW:Bw w W)=>av9 V a cap n ts W hn (ha.1.below hW) hp.1 jh;have iZ:=λW a' c' (h:At W a' ((eu D ts).flatMap aW))=>OJ V a' n c' (eu D ts) (2*B) W iM hnl h yM kC zo;obtain⟨C,hC⟩:=aI (bW (eu D ts));obtain⟨Q,hQ⟩:=aI (eu D ts);rw[hC]at iZ⊢;have hQg:∀k (h:k<ts.length) (h2:k<Q.length),Q[k]=(ts[k].1,canon (aJ ts[k].2*D)):=λk h h2=>by subst hQ;simp[eu]
 rw[hQ]at iZ iM;rw[hn];obtain⟨Hi,cV,cW,cC,nR,lH,Aw,Hn,gF,HD,Ha,HQg⟩:=fu hi hz0 hz1 hz2 eX iZ jh hn eK hD ha.1 hQg;have Yi:=az iM;clear hi hz0 hz1 hz2 eX iZ jh hn eK hD hC hQ iM kC yM hsm ha hp Vd hQg;have Hb:=hbz w;go_enter Tryz.func37,Tryz.ntmps37;go_wp2_with fail;refine EE w (Hb.an trivial) 24 [ah (V:Int),.slice a n cap] 48 [aj s,ai m,ah e] 24 [ah 0,.slice none 0 0] λW bi ag aC=>?_;go_wp2_with fail;refine aZ ag (nR.out _ ag.2.2.2.1.out) λw1 ag aC=>?_;obtain⟨Hp,Hc,Hr,Hb,_⟩:=ag;obtain⟨p0,p1⟩:=Hp.out.c2;obtain⟨c0,c1,c2⟩:=Hc.out.c3;obtain⟨r0,bo,r1,bz⟩:=Hr.out.g2;have mN:=Hp;have CN:=Hc;have jw:=Hr;have dM:=Hb;go_wp2_with fail;go_loopw[7,8] (λs7 x wr=>∃(k:Nat) (v:Value),k<=n/\x=ah (k:Int)/\v=s7/\wr.ownsRow w1.heap.size 67 4 v k ((Q.take k).flatMap aW)/\Bw w1 wr) (λ_ x _=>n-(intOf x).toNat);case atStart=>exact⟨0,_,Nat.zero_le _,rfl,rfl,World.ownsRow_nil _ _ _ _,Below.refl _ _⟩
 case round=>
  clear p0 p1 c0 c1 c2 r0 bo r1 bz Hp Hc Hr Hb;obtain⟨k,v,hk,rfl,rfl,ho,pb⟩:=hrel;obtain⟨Hp,Hc,Hr⟩:=cE (mN.out.below pb) (CN.out.below pb) (jw.out.below pb);have bE:=aO dM.out pb;have vN:=dM.out.size;have lc1:=CN.out.lt;have lr1:=jw.out.lt;by_cases hlt:k<n
  . have hk2:k<ts.length:=by rw[Hn.out];exact hlt
    have hkQ:k<Q.length:=by rw[Yi.out];exact hlt
    obtain⟨l,s1,q1,e1,hx⟩:∃l s m e,ts[k]=(l,s,m,e):=⟨_,_,_,_,rfl⟩;obtain⟨b,o,rfl,cn⟩:=(Ha.out.below bE).term k hk2 hx;have lbt:b<w.heap.size:=by obtain⟨b3,o3,h3,hw3⟩:=Ha.out.term k hk2 hx;simp only[Option.some.injEq,Addr.mk.injEq,and_true]at h3;obtain⟨rfl,rfl⟩:=h3;exact World.block_lt_of_cell? w _ (hw3.cell 0 zm)
    have bC:=gQ n cap k (k:Int) (rfl:(some ⟨b,o,none⟩:Option Addr)=_) hlt rfl;have gP:eI (s1,q1,e1):=by have:=Aw.out _ (List.getElem_mem hk2);rw[hx]at this;exact this
    obtain⟨X,hX⟩:=aI (aJ (s1,q1,e1) *D);have hQk:(Q.take (k+1)).flatMap aW=(Q.take k).flatMap aW++[ai l,aj (aK (dN X)),ai (nt (dN X).natAbs),ah (dE X)]:=by
     rw[List.take_succ_eq_append_getElem hkQ,List.flatMap_append,HQg.out k hk2 hkQ,hx];show _++[Value.string (bs l),Value.bool (aK (dN (aJ (s1,q1,e1) *D))),_,_]=_
     rw[hX];rfl
    have HX:Hid (aJ (s1,q1,e1) *aJ (s,m,e)=X):=by show _=_;rw[HD.out];exact hX
    have Ht:Hid (bA wr b (o+k*4) [ai l,aj s1,ai q1,ah e1]):=cn;obtain⟨dA,aX,HQk,mL⟩:=dP ho pb hQk gP;have fQ:=pb.size;clear ho pb hQk gP hX hx cn bE;have Hb:=hbz wr;obtain⟨ag,aC⟩:=qZ (Hp.an<|Hc.an<|Ht.an trivial);go_wp2_with fail;obtain⟨Hp,Hc,Ht,_⟩:=ag;obtain⟨p0,p1⟩:=Hp.out.c2;obtain⟨c0,c1,c2⟩:=Hc.out.c3;obtain⟨t0,t1,t2,t3⟩:=Ht.out.w4;refine ez (λw'=>aV w' (w.heap.size) 1 (.slice (some ⟨b,o,none⟩) n cap)/\aV w' (w.heap.size+1) 0 (aj s)/\aV w' (w.heap.size+1) 1 (ai m)/\aV w' (w.heap.size+1) 2 (ah e)/\aV w' b (o+k*4) (ai l)/\aV w' b (o+k*4+1) (aj s1)/\aV w' b (o+k*4+2) (ai q1)/\aV w' b (o+k*4+3) (ah e1)) (λi=>Nat.blt i 100000) [(0,true),(1,true),(2,true),(3,true),(4,true),(5,true),(6,true),(7,true),(8,true),(9,true),(10,true),(11,true),(12,true),(13,true),(14,false),(15,true),(16,false),(17,false),(18,true)] zk zk rfl zk zc ⟨p1,c0,c1,c2,t0,t1,t2,t3⟩ ?_;iterate 14 (refine pT rfl rfl ?_ (by intro w' ⟨q0,q1,q2,q3,q4,q5,q6,q7⟩;go_simp;try with_reducible rfl);try simp only[UU])
    refine aY rfl rfl (λK hK=>?_);go_simp;with_reducible refine(OO s1 q1 e1 s m e X HX.out _ mL.out gF.out).mono ?_
    rintro e w4 ⟨rfl,hq⟩;have au:Bw wr w4:=by first|exact hq|exact df hq
    obtain⟨Hp,p0,p1⟩:=fP Hp au;obtain⟨Hc,c0,c1,c2⟩:=uw Hc au;replace Ht:=kW Ht au;obtain⟨t0,t1,t2,t3⟩:=Ht.out.w4;replace Hb:=bD Hb au;refine hK _ _ (λ_=>⟨p1,c0,c1,c2,t0,t1,t2,t3⟩) ?_;try simp only[UU]
    refine pT rfl rfl ?_;try simp only[UU]
    refine aY rfl rfl (λK hK=>?_);go_simp;refine hK _ _ (λ_=>⟨bg p1,bg c0,bg c1,bg c2,bg t0,bg t1,bg t2,bg t3⟩) ?_;try simp only[UU]
    refine cL (λW5=>aH W5 (w4.heap.size) 67 [ai l,aj (aK (dN X)),ai (nt (dN X).natAbs),ah (dE X)]/\Bw w4 W5) (by first|exact fI|exact fJ) ?_;rintro W5 ⟨qd,au⟩;have aBn:=Hp.out.lt;have aBf:=Hc.out.lt;replace Hp:=kB Hp au;replace Hc:=kB Hc au;replace Ht:=kW Ht au;have Hd:=az qd;clear qd;obtain⟨p0,p1⟩:=Hp.out.c2;obtain⟨c0,c1,c2⟩:=Hc.out.c3;obtain⟨t0,t1,t2,t3⟩:=Ht.out.w4;obtain⟨d0,d1,d2,d3⟩:=Hd.out.c4;replace Hb:=bD Hb au;refine aY rfl rfl (λK hK=>?_);have dU:=ownsRow_below dA.out Hb.out;have hs3:=Hb.out.size;refine wp_append_own _ _ _ 22 rfl w1.heap.size 67 i0 _ 4 48 Tryz.underlying22 Hi.out cV.out cW.out cC.out rfl zd v k ((Q.take k).flatMap aW) rfl dU ⟨w4.heap.size,0,none⟩ 1 1 [ai l,aj (aK (dN X)),ai (nt (dN X).natAbs),ah (dE X)] rfl rfl (gK Hd.out) zy zx zo zo ?_;intro v' w8 dY bJ _;have nb:∀b,b<w1.heap.size->some b≠v.ownBlock:=λb hb e=>by have:=dz dU b e.symm;omega
    refine hK _ _ (λ_=>⟨cK bJ p1 (nb _ zp),cK bJ c0 (nb _ zp),cK bJ c1 (nb _ zp),cK bJ c2 (nb _ zp),cK bJ t0 (nb _ zp),cK bJ t1 (nb _ zp),cK bJ t2 (nb _ zp),cK bJ t3 (nb _ zp)⟩) ?_;try simp only[UU]
    have fG:=(aO aX.out Hb.out).grown bJ zo (λj e=>dz dU j e);rw[<-HQk.out]at dY;obtain⟨iU,fZ⟩:=aU fG dY;refine pT rfl rfl ?_;try simp only[UU]
    simp only[bP];clear nb dU dY bJ fG p0 p1 c0 c1 c2 t0 t1 t2 t3 d0 d1 d2 d3;go_wp2;go_roundw;case rel=>exact⟨k+1,v',by omega,by go_num,rfl,fZ.out,iU.out⟩
    case measure=>exact bH
  . obtain rfl:k=n:=by omega
    have htk:Q.take k=Q:=List.take_of_length_le (by rw[Yi.out];exact Nat.le_refl _);rw[htk]at ho;obtain⟨a2,c2,rfl,hat,_⟩:=dm ho;have eZ:=az hat;have Hb:Hid (Bw w wr):=bE;have Ql:=az (lH.out wr a2 c2 hat);clear ho pb bE htk hat Hc;obtain⟨ag,aC⟩:=qZ (Hp.an<|Hr.an trivial);go_wp2_with fail;refine(Ql.out).mono ?_;rintro e w6 ⟨a9,d9,rfl,jm,au⟩;obtain⟨ag,aC⟩:=qX au (Hb.an ag);have uQ:=az jm;clear jm;go_wp2;have h9:=uQ.out.store ag.2.2.1.out zd (ah (V:Int)) (.slice a9 C.length d9);refine eH (λw9=>bI w9 a9 d9 C/\aH w9 (w.heap.size+1+1) 24 [ah (V:Int),.slice a9 C.length d9]/\Bw w w9) ⟨h9,(ag.2.2.1.out.set 0 _).set 1 _,(ag.1.out.setCell zp _).setCell zp _⟩ ?_;rintro w9 ⟨q1,q2,q3⟩;obtain⟨x0,x1⟩:=q2.c2;exact bodyPost_ret (v:=.tuple #[.agg #[ah (V:Int),.slice a9 C.length d9],ah 0]) (by simp[results,Tryz.results37,go_sem,x0,x1]) rfl ⟨_,_,rfl,q1,q3⟩
def awr (ts:List aM)(a a':Option Addr)(n cap cap':Nat)(w:World)(hn:ts.length=n)(hl:n<=65536)(ha:At w a (ts.flatMap aW))(ha':At w a' (ts.flatMap aW)):
 Cv 52 #[.slice a n cap,.slice a' n cap'] w (aj true):=by
 obtain⟨Ha,pL,Hn⟩:=cE ha ha' hn;clear ha ha' hn;have Hb:=hbz w;go_enter Tryz.func52,Tryz.ntmps52;go_wp2_with fail;go_loopw[5] (λx wr=>∃k:Nat,k<=n/\x=ah (k:Int)/\Bw w wr) (λx _=>n-(intOf x).toNat);case atStart=>exact⟨0,Nat.zero_le _,rfl,Hb.out⟩
 case round=>
  clear Hb;obtain⟨k,hk,rfl,pb⟩:=hrel;by_cases hlt:k<n
  . have hk2:k<ts.length:=by rw[Hn.out];exact hlt
    obtain⟨l,s,m,e,hx⟩:∃l s m e,ts[k]=(l,s,m,e):=⟨_,_,_,_,rfl⟩;obtain⟨b,o,rfl,cn⟩:=(Ha.out.below pb).term k hk2 hx;obtain⟨b',o',rfl,nC⟩:=(pL.out.below pb).term k hk2 hx;have bC:=gQ n cap k (k:Int) (rfl:(some ⟨b,o,none⟩:Option Addr)=_) hlt rfl;have IK:=gQ n cap' k (k:Int) (rfl:(some ⟨b',o',none⟩:Option Addr)=_) hlt rfl;have Hx:Hid (bA wr b (o+k*4) [ai l,aj s,ai m,ah e]):=cn;have Hy:Hid (bA wr b' (o'+k*4) [ai l,aj s,ai m,ah e]):=nC;have aX:=az pb;clear pb cn nC hx;have Hb:=hbz wr;obtain⟨ag,aC⟩:=qZ (Hx.an<|Hy.an trivial);go_wp2_with fail;refine dG 999 ag (dD 9 0x110f0d0b0907050301) ?_;refine bU ?_;refine dF ag λaC=>?_;go_wp2;go_roundw;case rel=>exact⟨k+1,by omega,by go_num,aX.out.drew⟩
    case measure=>exact bH
  . obtain rfl:k=n:=by omega
    have aX:=az pb;go_wp2;refine bodyPost_ret (results_tmp rfl _ _ _) rfl ⟨rfl,aX.out⟩
def agZ (V:Int)(ts:List aM)(a a':Option Addr)(cap cap':Nat)(w:World)(hl:ts.length<=65536)(ha:At w a (ts.flatMap aW))(ha':At w a' (ts.flatMap aW)):
 Cv 15 #[.agg #[ah V,.slice a ts.length cap],.agg #[ah V,.slice a' ts.length cap']] w (aj true):=by
 obtain⟨n,hn⟩:=aI ts.length;have h1:=λW (hW:Bw w W)=>awr ts a a' n cap cap' W hn zo (ha.below hW) (ha'.below hW);rw[hn];have H1:=az h1;clear h1 ha ha' hn hl;have Hb:=hbz w;go_enter Tryz.func15,Tryz.ntmps15;go_wp2_with fail;refine mC w (Hb.an trivial) 24 [ah V,.slice a n cap] 24 [ah V,.slice a' n cap'] λW bi ag aC=>?_;go_wp2_with fail;refine aZ ag (H1.out _ ag.2.2.1.out) λw1 ag aC=>?_;go_wp2;go_ret;exact⟨rfl,ag.2.2.1.out⟩
def zS (n:Nat)(x:Int)(D:Dyadic)(hD:Dyadic.ofIntWithPrec (n:Int) (-x)=D)(w:World)(hn:n<=1000000)(hx: -1000<=x/\x<=1000):
 Cv 36 #[ah (n:Int),ah x] w (cw D):=by
 have h1:=λW=>WC n W zo;have h2:=λW=>EI false (nt n) x D (by unfold aJ;simp only[pu];exact hD) W (Nat.le_trans (jo (k:=4) zo) zd) zo;clear hD;generalize nt n=m at*;obtain⟨H1,H2⟩:=aU h1 h2;clear h1 h2;obtain⟨W,cP,ag,aC⟩:=gz w 48 [aj false,.string ⟨#[]⟩,ah 0];go_enter Tryz.func36,Tryz.ntmps36;go_wp2_with fail;refine aZ ag (H1.out _) λw1 ag aC=>?_;go_wp2_with fail;refine aZ ag (H2.out _) λw2 ag aC=>?_;go_wp2;refine eH (bG w2 (w.heap.size) 0 (bY D)) bM ?_;intro w9 hs0;have ag:=cH hs0 ag;simp only[cB,List.set]at ag;have aC:=qC ag;refine bodyPost_ret (v:=cw D) (by simp[results,Tryz.results36,go_sem,aC]) rfl ⟨rfl,ag.1.out⟩
def aoz (A B C:Dyadic)(hA:dI 0=A)(hB:dI 4=B)(hC:dI 2=C)(w:World):
 Cl 38 #[] w λe w'=>∃a c,e=.returned (.slice a 3 c)/\3<=c/\bQ w' a [[canon A,canon A],[canon B,canon A],[canon A,canon C]]/\Bw w w':=by
 have h0:=λW=>zS 0 0 A hA W zd zd;have h4:=λW=>zS 4 0 B hB W zd zd;have h2:=λW=>zS 2 0 C hC W zd zd;obtain⟨H0,H4,H2⟩:=cE h0 h4 h2;clear h0 h4 h2 hA hB hC;have Hb:=hbz w;go_enter Tryz.func38,Tryz.ntmps38;go_wp2_with fail;refine aZ (Hb.an trivial) (H0.out _) λw1 ag aC=>?_;go_wp2_with fail;refine aZ ag (H0.out _) λw2 ag aC=>?_;obtain⟨W3,DK,bi,ag,aC⟩:=cM w2 ag 48 [aj (aK (dN A)),ai (nt (dN A).natAbs),ah (dE A),aj (aK (dN A)),ai (nt (dN A).natAbs),ah (dE A)];go_wp2_with fail;refine aZ ag (H4.out _) λw4 ag aC=>?_;go_wp2_with fail;refine aZ ag (H0.out _) λw5 ag aC=>?_;obtain⟨W6,tZ,bi,ag,aC⟩:=cM w5 ag 48 [aj (aK (dN B)),ai (nt (dN B).natAbs),ah (dE B),aj (aK (dN A)),ai (nt (dN A).natAbs),ah (dE A)];go_wp2_with fail;refine aZ ag (H0.out _) λw7 ag aC=>?_;go_wp2_with fail;refine aZ ag (H2.out _) λw8 ag aC=>?_;obtain⟨W9,TB,bi,ag,aC⟩:=cM w8 ag 48 [aj (aK (dN A)),ai (nt (dN A).natAbs),ah (dE A),aj (aK (dN C)),ai (nt (dN C).natAbs),ah (dE C)];obtain⟨W10,az0,bi,ag,aC⟩:=cM W9 ag 56 [.slice (some ⟨w2.heap.size,0,none⟩) 2 2,.slice (some ⟨w5.heap.size,0,none⟩) 2 2,.slice (some ⟨w8.heap.size,0,none⟩) 2 2];go_wp2;refine bodyPost_ret (results_tmp rfl _ _ _) rfl ⟨_,_,rfl,by decide,⟨_,rfl,At.aCi ag.1.out,λi h h'=>?_⟩,ag.2.2.2.2.1.out⟩;have hi:i=0\/i=1\/i=2:=by simp at h;omega
 rcases hi with rfl|rfl|rfl
 . exact⟨_,_,rfl,At.aCi ag.2.2.2.1.out⟩
 . exact⟨_,_,rfl,At.aCi ag.2.2.1.out⟩
 . exact⟨_,_,rfl,At.aCi ag.2.1.out⟩
def ag0 (V D:Int)(a a':Option Addr)(n cap cap':Nat)(cd:List Raw)(w:World)(hn:cd.length=n)(hl:n<=1000)(ha:At w a (cd.flatMap bK))(ha':At w a' (cd.flatMap bK)):
 Cv 13 #[.agg #[ah V,ah D,.slice a n cap],.agg #[ah V,ah D,.slice a' n cap']] w (aj true):=by
 obtain⟨Ha,pL,Hn⟩:=cE ha ha' hn;clear ha ha' hn;have Hb:=hbz w;go_enter Tryz.func13,Tryz.ntmps13;go_wp2_with fail;refine mC w (Hb.an trivial) 34 [ah V,ah D,.slice a n cap] 34 [ah V,ah D,.slice a' n cap'] λW bi ag aC=>?_;obtain⟨Hp,Hq,Hb,_⟩:=ag;obtain⟨p0,p1,p2⟩:=Hp.out.c3;obtain⟨q0,q1,q2⟩:=Hq.out.c3;have mN:=Hp;have yl:=Hq;have dM:=Hb;go_wp2_with fail;go_loopw[5] (λx wr=>∃k:Nat,k<=n/\x=ah (k:Int)/\Bw W wr) (λx _=>n-(intOf x).toNat);case atStart=>exact⟨0,Nat.zero_le _,rfl,Below.refl _ _⟩
 case round=>
  clear Hb Hp Hq p0 p1 p2 q0 q1 q2;obtain⟨k,hk,rfl,pb⟩:=hrel;have bE:=aO dM.out pb;obtain⟨Hp,Hq⟩:=aU (mN.out.below pb) (yl.out.below pb);by_cases hlt:k<n
  . have hk2:k<cd.length:=by rw[Hn.out];exact hlt
    obtain⟨s,m,e,hx⟩:=na (cd[k]);obtain⟨b,o,rfl,n0,n1,n2⟩:=(Ha.out.below bE).num k hk2 hx;obtain⟨b',o',rfl,m0,m1,m2⟩:=(pL.out.below bE).num k hk2 hx;have bC:=nD n cap k (k:Int) (rfl:(some ⟨b,o,none⟩:Option Addr)=_) hlt rfl;have IK:=nD n cap' k (k:Int) (rfl:(some ⟨b',o',none⟩:Option Addr)=_) hlt rfl;have Hx:Hid (bA wr b (o+k*3) [aj s,ai m,ah e]):=iR n0 n1 n2;have Hy:Hid (bA wr b' (o'+k*3) [aj s,ai m,ah e]):=iR m0 m1 m2;have aX:=az pb;clear pb n0 n1 n2 m0 m1 m2 hx bE;have Hb:=hbz wr;obtain⟨ag,aC⟩:=qZ (Hp.an<|Hq.an<|Hx.an<|Hy.an trivial);go_wp2_with fail;refine dG 999 ag (dD 11 0x1513110f0d0b0907050301) ?_;refine bU ?_;refine dF ag λaC=>?_;go_wp2;go_roundw;case rel=>exact⟨k+1,by omega,by go_num,aX.out.drew⟩
    case measure=>exact bH
  . obtain rfl:k=n:=by omega
    have dO:=az bE;clear pb bE;obtain⟨ag,aC⟩:=qZ (Hp.an<|Hq.an trivial);go_wp2;refine bodyPost_ret (results_tmp rfl _ _ _) rfl ⟨rfl,dO.out⟩
def is16 (D:Int)(a:Option Addr)(ns:List Nat)(N cap:Nat)(al:Option Addr)(aaL:Nat)(w:World)(hN:ns.length=N)(hl:N<=1000)(hn:∀n∈ns,n<=1000000)(hf:At w a (dC (ns.map dI)))(ha:At w al (ns.map λ(n:Nat)=>Value.int .i64 (n:Int))):
 Cv 39 #[.agg #[ah 2,ah D,.slice a N cap],ah 0,ah D,.slice al N aaL] w (aj true):=by
 obtain⟨i0,hi,hz0,hz1,hz2⟩:=info_parts Tryz.aCm;have hsm:=λa' c' W (hW:Bw w W) (h:At W a' (dC (ns.map dI)))=>ag0 2 D a a' N cap c' ((ns.map dI).map canon) W (by simp[hN]) hl (by rw[<-sk];exact hf.below hW) (by rw[<-sk];exact h);obtain⟨HN,HA,Hn,Hi,cV,cW,cC⟩:=kH hN ha hn hi hz0 hz1 hz2;obtain⟨Z,hZ⟩:=aI (ns.map dI);rw[hZ]at hsm;obtain⟨HZ,wA⟩:=aU hZ hsm;clear hN ha hn hi hz0 hz1 hz2 hZ hsm hf;obtain⟨W,cP,ag,aC⟩:=jq w 34 [ah 2,ah D,.slice a N cap] 34 [ah 2,ah D,.slice none 0 0];go_enter Tryz.func39,Tryz.ntmps39;go_wp2_with fail;first|refine eO (bG W (w.heap.size+1) 2 [.slice none 0 0]) bM ?_|refine fB (bG W (w.heap.size+1) 2 [.slice none 0 0]) bM ?_
 intro w1 hs0;have ag:=cH hs0 ag;simp only[cB,List.set]at ag;have aC:=qC ag;have lf:=ag.2.1.out.lt;have lo:=ag.2.2.1.out.lt;go_loopw[10] (λi wr=>∃k:Nat,k<=N/\i=ah (k:Int)/\∃v,wr.ownsRow w.heap.size 48 3 v k (dC (Z.take k))/\aH wr w.heap.size 34 [ah 2,ah D,.slice a N cap]/\aH wr (w.heap.size+1) 34 [ah 2,ah D,v]/\Bw w wr) (λi _=>N-(intOf i).toNat);case atStart=>exact⟨0,Nat.zero_le _,rfl,_,World.ownsRow_nil _ _ _ _,ag.2.1.out,ag.2.2.1.out,ag.1.out⟩
 case round=>
  skip
  obtain⟨k,hk,rfl,v,pv,pR,pO,pb⟩:=hrel;by_cases hlt:k<N
  . have h1:k<ns.length:=by rw[HN.out];exact hlt
    obtain⟨n,hx⟩:=aI (ns[k]);have hnn:n<=1000000:=by rw[<-hx];exact Hn.out _ (List.getElem_mem h1)
    obtain⟨X,hX⟩:=aI (dI n);have UG:=λW=>zS n 0 X hX W hnn zd;have cu:Hid (dC (Z.take (k+1))=dC (Z.take k)++(bY X)):=by
     show _=_
     rw[<-HZ.out,List.take_succ_eq_append_getElem (by simpa using h1),Dn];congr 1;simp only[List.getElem_map,hx,hX];rfl
    have hat:At w al (ns.flatMap λ(n:Nat)=>[Value.int .i64 (n:Int)]):=by rw[Bd];exact HA.out
    obtain⟨b1,oa,kV,hcs⟩:=hat.elem (f:=λ(n:Nat)=>[Value.int .i64 (n:Int)]) (sz:=1) (λ_=>rfl) zd k h1;have p0:w.cell? ⟨b1,oa+k,none⟩=some (ah (n:Int)):=by rw[<-hx];simpa using hcs 0 zd
    have mo:b1<w.heap.size:=World.block_lt_of_cell? w _ p0;replace p0:=cell_later pb p0;have sI:=arX N aaL k (k:Int) kV hlt rfl;rw[Nat.mul_one]at sI;have Hp:Hid (bA wr b1 (oa+k) [ah (n:Int)]):=λj hj=>by
     obtain rfl:j=0:=by simp at hj;omega
     exact p0
    obtain⟨Hf,Ho,Hv,vW⟩:=dP pR pO pv pb;have aAB:w.heap.size<=wr.heap.size:=pb.size;obtain⟨y,hy⟩:∃y:Int,(n:Int)=y:=⟨_,rfl⟩;rw[hy]at Hp UG;have akV:=az UG;clear pR pO pv hx hX kV p0 pb hat hcs UG hnn hy;have Hb:=hbz wr;go_wp2_with fail;obtain⟨ag,aC⟩:=qZ (Ho.an<|Hp.an trivial);obtain⟨Ho,Hp,_⟩:=ag;obtain⟨o0,Be,o1,Bf,o2,MA⟩:=Ho.out.g3;have p0:=Hp.out.w1;refine ez (λw'=>aV w' (w.heap.size+1) 2 (v)/\aV w' b1 (oa+k) (ah y)) (λi=>Nat.blt i 10) [(0,true),(1,true),(2,true),(3,true),(4,true),(5,true),(6,false),(7,false),(8,false),(9,true),(10,false)] zk zk rfl zk zc ⟨o2,p0⟩ ?_;iterate 6 (refine pT rfl rfl ?_ (by intro w' ⟨q0,q1⟩;go_simp;try with_reducible rfl);try simp only[UU])
    refine aY rfl rfl (λK hK=>?_);go_simp;with_reducible refine(akV.out _).mono ?_
    rintro e w5 ⟨rfl,hq⟩;have au:Bw wr w5:=by first|exact hq|exact df hq
    obtain⟨Ho,o0,Be,o1,Bf,o2,MA⟩:=nH Ho au;replace Hp:=kW Hp au;have p0:=Hp.out.w1;replace Hb:=bD Hb au;refine hK _ _ (λ_=>⟨o2,p0⟩) ?_;try simp only[UU]
    refine aY rfl rfl (λK hK=>?_);go_simp;refine hK _ _ (λ_=>⟨bg o2,bg p0⟩) ?_;try simp only[UU]
    refine cL (λw6=>aH w6 (w5.heap.size) 48 (bY X)/\Bw w5 w6) (by first|exact fI|exact fJ) ?_;rintro w6 ⟨qc,au⟩;have aBm:=Ho.out.lt;replace Ho:=kB Ho au;replace Hp:=kW Hp au;have Hc:=az qc;clear qc;obtain⟨o0,Be,o1,Bf,o2,MA⟩:=Ho.out.g3;have p0:=Hp.out.w1;obtain⟨c0,c1,c2⟩:=Hc.out.c3;replace Hb:=bD Hb au;refine aY rfl rfl (λK hK=>?_);have dw:=ownsRow_below Hv.out Hb.out;have jH:=Hb.out.size;refine wp_append_own _ _ _ 32 rfl w.heap.size 48 i0 _ 3 32 Tryz.underlying32 Hi.out cV.out cW.out cC.out rfl zd v k (dC (Z.take k)) rfl dw ⟨w5.heap.size,0,none⟩ 1 1 (bY X) rfl rfl (gK Hc.out) zy zx zo zo ?_;intro v' w7 ey eT _;obtain⟨g',cq,rfl⟩:=ownsRow_succ ey;have nb:∀b,b<w.heap.size->some b≠v.ownBlock:=λb hb e=>by have:=dz dw b e.symm;omega
    have dX:=Ho.out.row zd dw eT;have hr2:=(Hf.out.below Hb.out).row zd dw eT;refine hK _ _ (λ_=>⟨dX.cell 2,cK eT p0 (nb _ mo)⟩) ?_;clear hK K o0 o1 o2 Be Bf MA p0 c0 c1 c2;try simp only[UU]
    refine pT rfl rfl ?_;try simp only[UU]
    refine aY rfl rfl (λK hK=>?_);have o2:w7.cell? ⟨w.heap.size+1,2,none⟩=some v:=dX.cell 2;have MA:w7.frozen? ⟨w.heap.size+1,2,none⟩=false:=dX.free 2;obtain⟨Hnr,H1,H4,H5,H6,H7⟩:=fw (dX.not_row zd ey) dX hr2 ey eT dw;clear dX hr2 ey eT dw;go_simp;refine hK _ _ (λh=>absurd h zd) ?_;simp only[bP];go_wp2;go_roundw;case rel=>
     refine⟨k+1,by omega,by go_num,.slice (some ⟨g',0,none⟩) (k+1) cq,?_,?_,?_,?_⟩
     . rw[cu.out];exact H5.out.kept (grownBy_set (w:=w7) (a:=⟨w.heap.size+1,2,none⟩) (w.heap.size+1) rfl _) (.inr Hnr.out.symm)
     . exact H4.out.aCj ⟨w.heap.size+1,2,none⟩ zp _
     . exact H1.out.set 2 _
     . refine Below.setCell ?_ zp _;exact(aO vW.out Hb.out).grown H6.out zo (λj e=>dz H7.out j e)
    case measure=>exact bH
  . obtain rfl:k=N:=by omega
    have vq:Z.take k=Z:=by rw[List.take_of_length_le];rw[<-HZ.out];simp[HN.out]
    rw[vq]at pv;obtain⟨a2,cap2,rfl,hat,hab⟩:=dm pv;obtain⟨HSm,Hf,Ho,Hb⟩:=dP (wA.out a2 cap2 wr pb hat) pR pO pb;clear pv pR pO pb hat hab vq;obtain⟨ag,aC⟩:=qZ (Hf.an<|Ho.an trivial);go_wp2_with fail;refine aZ (Hb.an ag) (HSm.out) λw8 ag aC=>?_;go_wp2;refine bodyPost_ret (results_tmp rfl _ _ _) rfl ⟨rfl,ag.1.out⟩
def auQ (V B d e n n':Nat)(b:Nat)(a a':Option Addr)(cap cap':Nat)(ta tb C:List aM)(w:World)(hV:0<V)(hn:ta.length=n)(hn':tb.length=n')(jF:ir V B ta)(jW:ir V B tb)(yU:gB V d ta)(yV:gB V e tb)(Nl:d+e<=127)(hl:n*n'<=4096)(hB:B<=100000000)(hb:aH w b 24 [ah (V:Int),.slice a n cap,ah (V:Int),.slice a' n' cap'])(ha:bI w a cap ta)(ha':bI w a' cap' tb)(hT:aR w)(hC:bW (iE ta tb)=C):
 Cl 76 #[.slice (some ⟨b,0,none⟩) 2 2] w λex w'=>∃a9 c9,ex=.returned (.tuple #[.agg #[ah (V:Int),.slice a9 C.length c9],ah 0])/\bI w' a9 c9 C/\Bw w w':=by
 have hV2:V<=12:=jF.1.2.2.2;have nk:n<=4096:=by have:=jF.1.2.2.1;omega
 have hl2:n'<=4096:=by have:=jW.1.2.2.1;omega
 have hlk:=λW (hW:Bw w W)=>afw V B b 0 2 2 [⟨V,a,ta.length,cap⟩,⟨V,a',tb.length,cap'⟩] (λk=>if k=0 then ta else tb) W rfl zd zd (by rw[hn,hn'];exact At.aCi (hb.below hW)) (by
  intro k hk;rcases k with _|k
  . exact⟨a,cap,rfl,(ha.below hW).w,jF⟩
  . obtain rfl:k=0:=by simp at hk;omega
    exact⟨a',cap',rfl,(ha'.below hW).w,jW⟩) (hT.below hW)
 have hcn:∀W (hW:Bw w W),Cl 69 #[.slice a n cap] W λe w'=>∃a1 d1,e=.returned (.slice a1 n d1)/\bI w' a1 d1 ta/\Bw W w':=λW hW=>(Sc a n cap ta W hn zo (by rw[<-hn];exact ha.2.1) (ha.1.below hW)).mono (by
  rintro e w' ⟨v',rfl,ho,hb⟩;obtain⟨a1,d1,rfl,_⟩:=dm ho;rw[<-hn]at ho
  exact⟨a1,d1,rfl,Cr ho,hb⟩)
 have qI:=λa1 d1 W (hW:Bw w W) (hp:bI W a1 d1 ta)=>au5 V B d e n n' a1 a' d1 cap' ta tb C W hV hV2 hn hn' yU yV Nl (λt ht=>jF.2 t ht) (λt ht=>jW.2 t ht) hl nk hl2 hB hp.1 (ha'.1.below hW) (hT.below hW) hC;obtain⟨m,hm⟩:=aI C.length;rw[hm]at qI⊢;obtain⟨Qv,rf,Gb,H0⟩:=dP hlk hcn qI hb;clear hlk hcn qI hn hn' jF jW yU yV hb ha ha' hT hC hm;obtain⟨W,cP,ag,aC⟩:=gz w 24 [ah 0,.slice none 0 0];have Hz:Hid (aH W b 24 [ah (V:Int),.slice a n cap,ah (V:Int),.slice a' n' cap']):=H0.out.below ag.1.out;have hbl:=H0.out.lt;go_enter Tryz.func76,Tryz.ntmps76;go_wp2_with fail;refine aZ ag (Qv.out _ ag.1.out) λw1 ag aC=>?_;replace Hz:=az (H0.out.below ag.1.out);have wF:=ag.1;have ZH:=ag.2.1;skip
 have Hb:=hbz w1;have hs1:=wF.out.size;have lr1:=ZH.out.lt;obtain⟨ag,aC⟩:=qZ (Hz.an trivial);go_upto_region 4 with fail
 go_cut[5] (λs5 wx=>∃(g:Nat) (a1:Option Addr) (d1:Nat),s5=.pointer (some ⟨g,0,none⟩)/\w1.heap.size<=g/\aH wx g 24 [ah (V:Int),.slice a1 n d1]/\bI wx a1 d1 ta/\Bw w1 wx);case first=>
  obtain⟨Hz,_⟩:=ag;obtain⟨z0,z1,z2,z3⟩:=Hz.out.c4;have fy:∀w',dJ w1 w'->aV w' b 0 (ah (V:Int))/\aV w' b 1 (.slice a n cap)/\aV w' b 2 (ah (V:Int))/\aV w' b 3 (.slice a' n' cap'):=λw' h=>⟨cell_later h z0,cell_later h z1,cell_later h z2,cell_later h z3⟩;refine uI (λw'=>dJ w1 w') (λi=>Nat.blt i 11) 10 24 [ah 0,.slice none 0 0] [(0,true),(1,true),(2,true),(3,true),(4,true),(5,true),(6,true),(7,true),(8,false),(9,true)] [(11,false)] zk zk rfl rfl rfl zk zk zc zc (λK a w h=>uy rfl rfl (λK' hK=>by go_simp;exact hK _ _ h)) ?_;clear z0 z1 z2 z3 Hz;intro w1f au;replace Hb:=az (aO Hb.out au);refine⟨Hb.out,?_⟩;iterate 8 (refine jZ rfl rfl (v:=?_) (λw' hw'=>?_) ?_;rotate_left;(focus have hw':=fy w' hw';obtain⟨q0,q1,q2,q3⟩:=hw';go_simp;try with_reducible rfl);try simp only[UU])
  refine jN rfl rfl (λK hK=>?_);go_simp;with_reducible refine(rf.out _ (aO wF.out Hb.out)).mono ?_
  rintro e w9 ⟨a1,d1,rfl,hp1,hq⟩;refine hK _ _ hq (λw2 au hb2=>?_);have qX:=az (hp1.below hb2);clear hp1;replace Hb:=az (aO Hb.out au);refine⟨Hb.out,?_⟩;clear au hb2 hq hK K;have HX:=qX;clear qX;try simp only[UU]
  refine jZ rfl rfl (v:=?_) (λw' hw'=>?_) ?_;rotate_left;(focus go_simp;try with_reducible rfl);try simp only[UU]
  intro o_b hb0 qx;have Ho:=az qx;clear qx;obtain⟨o0,Be,o1,Bf⟩:=Ho.out.g2;try simp only[U1]
  try simp only[Act.put,U2,U3]
  refine aY rfl rfl (λK hK=>?_);go_simp;refine hK _ _ (λh=>absurd h zd) ?_;try simp only[UU]
  simp only[bP];go_wp2_with fail;go_meet;exact⟨o_b,_,_,rfl,hb0,(Ho.out.set 0 _).set 1 _,HX.out.store Ho.out zd _ _,(Hb.out.setCell zp _).setCell zp _⟩
 case rest=>
  obtain⟨g,a1,d1,rfl,hg,jE,hp1,hbc⟩:=hcut;have bE:=aO wF.out hbc;obtain⟨KR,kK,ye⟩:=cE jE hp1 hbc;have wz:=ZH;have szc:=hbc.size;have bC:=zI 1 1 0 0 (rfl:(some ⟨b,2,none⟩:Option Addr)=_) zo rfl;rw[Nat.zero_mul,Nat.add_zero]at bC;clear jE hp1 hbc bE Hb;go_wp2_with fail;go_loopw[29] (λx wr=>∃(a2:Option Addr) (d2:Nat),((x=ah 0/\aH wr g 24 [ah (V:Int),.slice a2 n d2]/\bI wr a2 d2 ta)\/(x=ah 1/\aH wr g 24 [ah (V:Int),.slice a2 m d2]/\bI wr a2 d2 C))/\Bw w1 wr) (λx _=>1-(intOf x).toNat);case atStart=>exact⟨a1,d1,.inl ⟨rfl,KR.out,kK.out⟩,ye.out⟩
  case round=>
   clear KR kK ye;obtain⟨a2,d2,⟨rfl,jE,hp2⟩ |⟨rfl,jE,hp2⟩,pb⟩:=hrel
   . have Ho:Hid (aH wr g 24 [ah (V:Int),.slice a2 n d2]):=jE;have Hz:Hid (aH wr b 24 [ah (V:Int),.slice a n cap,ah (V:Int),.slice a' n' cap']):=H0.out.below (aO wF.out pb);obtain⟨aX,yi⟩:=aU pb hp2;have fQ:=pb.size;clear pb hp2 jE;have Hb:=hbz wr;obtain⟨ag,aC⟩:=qZ (Hz.an<|Ho.an trivial);have HP:Hid (bI wr a2 d2 ta):=yi.out;obtain⟨W5,yN,bi,ag,aC⟩:=cM wr (Hb.an<|HP.an ag) 24 [ah (V:Int),.slice a' n' cap'];go_wp2_with fail;refine(Gb.out a2 d2 _ (aO (aO wF.out aX.out) ag.2.1.out) ag.2.2.1.out).mono ?_;rintro e w6 ⟨a9,d9,rfl,jm,au⟩;obtain⟨ag,aC⟩:=qX au ag;have uQ:=az jm;clear jm;have HX:Hid (bI w6 a9 d9 C):=uQ.out;obtain⟨W7,DL,bi,ag,aC⟩:=cM w6 (HX.an ag) 24 [ah (V:Int),.slice a9 m d9];go_wp2;go_roundw;case rel=>exact⟨a9,d9,.inr ⟨rfl,(ag.2.2.2.2.2.2.1.out.set 0 _).set 1 _,ag.2.1.out.store ag.2.2.2.2.2.2.1.out zd _ _⟩,(((aX.out.trans (ag.2.2.2.1.out.mono fQ)).setCell zp _).setCell zp _)⟩
     case measure=>simp[intOf]
   . have Ho:Hid (aH wr g 24 [ah (V:Int),.slice a2 m d2]):=jE;have Hr:Hid (aH wr w.heap.size 24 [ah 0,.slice none 0 0]):=wz.out.below pb;have Hb:Hid (Bw w wr):=aO wF.out pb;have yi:=az hp2;clear pb hp2 jE;obtain⟨ag,aC⟩:=qZ (Ho.an<|Hr.an trivial);go_wp2;have h9:=yi.out.store ag.2.1.out zd (ah (V:Int)) (.slice a2 m d2);refine eH (λw9=>bI w9 a2 d2 C/\aH w9 w.heap.size 24 [ah (V:Int),.slice a2 m d2]/\Bw w w9) ⟨h9,(ag.2.1.out.set 0 _).set 1 _,(Hb.out.setCell zp _).setCell zp _⟩ ?_;rintro w9 ⟨q1,q2,q3⟩;obtain⟨x0,x1⟩:=q2.c2;exact bodyPost_ret (v:=.tuple #[.agg #[ah (V:Int),.slice a2 m d2],ah 0]) (by simp[results,Tryz.results76,go_sem,x0,x1]) rfl ⟨_,_,rfl,q1,q3⟩
def awF (V D N v1 A B:Nat)(aB:Option Addr)(si:Nat)(cd:List Raw)(cs:List Dyadic)(aS:Option Addr)(AX:Nat)(rows:List (List Raw))(C:List aM)(w:World)(hV:1<=V)(jD:V<=3)(hv1:V+1=v1)(hD:D<=5)(hN:cnt V D=N)(wR:N<=512)(Jl:cd.length=N)(hcs:cd.map aJ=cs)(jh:∀x∈cd,Fit A x)(hA:A<=10000000)(hB:B<=200000)(hr:Rw V B rows)(hcap:v1<=AX)(ha:bQ w aS rows)(h0:eU rows=0)(Ip:At w aB (cd.flatMap bK))(hT:aR w)(hC:wK V (jz V (gy rows) V) (bZ (V+1) D) cs N=C):
 Cl 27 #[.agg #[ah (V:Int),ah (D:Int),.slice aB N si],.slice aS v1 AX] w λex w'=>∃a9 c9,ex=.returned (.tuple #[.agg #[ah (V:Int),.slice a9 C.length c9],ah 0])/\bI w' a9 c9 C/\Bw w w':=by
 have eX:=λW=>aaP (V:Int) (D:Int) aB N si 0 (by
  unfold Gx
  rw[if_neg zo,if_neg (by rw[Int.toNat_natCast,Int.toNat_natCast];omega),if_pos (by rw[Int.toNat_natCast,Int.toNat_natCast];omega)]) W
 have sK:=λW=>Ke V D N hV zo zo hN wR W;have hfo:∀W,Bw w W->Cl 74 #[.slice aS v1 AX] W λe w'=>∃a' c' ps,e=.returned (.tuple #[.slice a' v1 c',ah 0])/\v1<=c'/\ps.length=v1/\At w' a' (ps.flatMap nQ)/\iW w' V (5*B+33) ps (jz V (gy rows) V)/\Bw W w':=λW hW=>by obtain⟨m,rfl⟩:∃m,V=m+1:=⟨V-1,by omega⟩;subst hv1;exact apR aS AX m rows B W zo hr hcap (ha.below hW) hB (hT.below hW) h0
 have Ie:∀a b,a<=V->b<V->Sm B (gy rows a b):=λa b ha hb=>by rw[xN rows a b (by rw[hr.1];omega) (by rw[hr.2.1 _ (List.getElem_mem _)];exact hb)];exact(hr.2.2 _ (List.getElem_mem _) _ (List.getElem_mem _)).2
 have hF:∀j,j<=V->dW V (5*B+33) 1 (jz V (gy rows) V j)/\(jz V (gy rows) V j).length<=8:=λj hj=>by
  refine⟨⟨apK hV zo Ie zo V (Nat.le_refl _) j,apJ V _ V j⟩,?_⟩;unfold jz;split
  . exact Nat.le_trans (abB V _ V) zo
  . exact Nat.le_trans (VD V _ _) zo
 have ug:∀c∈cs,Sm A c:=λc hc=>by rw[<-hcs]at hc;obtain⟨x,hx,rfl⟩:=List.mem_map.1 hc;exact(jh x hx).2
 obtain⟨Fs,sB⟩:=aI (jz V (gy rows) V);obtain⟨R,hR⟩:=aI (bZ (V+1) D);have iw:R.length=N:=by rw[<-hR,lv,hN]
 have hrow:∀k (h:k<R.length),R[k].length=v1/\(∀a∈R[k],a<=20)/\R[k].sum=D/\R.getD k []=R[k]:=λk h=>by
  have hm:R[k]∈bZ (V+1) D:=by rw[hR];exact List.getElem_mem h
  have h1:=(qP V D _).1 hm;exact⟨by rw[h1.1,hv1],λa ha=>by have:=JO ha;omega,h1.2,by simp[h]⟩
 rw[sB]at hF hC;rw[hR]at sK hC;have MV:∀k,k<R.length->(R.getD k []).sum<=D:=λk h=>by rw[(hrow k h).2.2.2,(hrow k h).2.2.1];exact Nat.le_refl _
 have hbk:=λk (hk:k<=N)=>ans (D:=D) hF ug jD MV hD zo k zo zo;have hbk2:=λk (hk:k<=N)=>dW.mono (hbk k hk) (show _<=30000000 by omega) (Nat.le_refl D);have hcon:=λk=>Mk (V:=V) jD (sA ug k) zo;have aez:=λk (hk:k<N) j (hj:j<=V+1)=>agv (x:=R.getD k []) hF (hcon k) jD (MV k zo) hD zo j hj;have hst:=λk=>(rfl:wK V Fs R cs (k+1)=bW (wK V Fs R cs k++zY Fs (dL V (cs.getD k 0) oI 0) (R.getD k []) (V+1)));obtain⟨S,hS⟩:∃S:Nat->List aM,wK V Fs R cs=S:=⟨_,rfl⟩;obtain⟨PP,DI⟩:∃PP:Nat->Nat->Nat->List aM,(λk j kk=>OI (Fs j) (zY Fs (dL V (cs.getD k 0) oI 0) (R.getD k []) j) kk)=PP:=⟨_,rfl⟩;have HJ:∀k,PP k 0 0=dL V (cs.getD k 0) oI 0:=λk=>by rw[<-DI];rfl
 have MS:∀k j,PP k j ((R.getD k []).getD j 0)=PP k (j+1) 0:=λk j=>by rw[<-DI];rfl
 have acv:∀k j kk,PP k j (kk+1)=bW (iE (PP k j kk) (Fs j)):=λk j kk=>by rw[<-DI];rfl
 have Tq:∀k,k<N->∀j,j<=V+1->∀kk,(j<=V/\kk<=(R.getD k []).getD j 0\/kk=0)->dW V 30000000 5 (PP k j kk)/\(PP k j kk).length<=216:=λk hk j hj kk h=>by
  have h1:=aez k hk j hj;have h2:=Xc (R.getD k []) (j+1);have h3:=ahq (R.getD k []) j;have h4:=MV k zo;have h9:((R.getD k []).take j).sum* (5*B+33+2000)<=5* (5*B+33+2000):=Nat.mul_le_mul_right _ zo;have h8:dW V 30000000 5 (PP k j kk):=by
   rw[<-DI];rcases h with⟨fS,hkk⟩ |rfl
   . obtain⟨h5,h6⟩:=hF j fS;have h7:kk* (5*B+33+2000)<=5* (5*B+33+2000):=Nat.mul_le_mul_right _ zo;have h5':=agD h5 h6 h1 jD kk zo zo;exact dW.mono h5' zo zo
   . exact dW.mono h1 zo zo
  exact⟨h8,h8.len jD (Nat.le_refl _)⟩
 have hS1:∀k,S (k+1)=bW (S k++PP k (V+1) 0):=λk=>by rw[<-hS,<-DI];rfl
 have yM:∀k,k<=N->dW V 30000000 5 (S k)/\(S k).length<=216:=λk hk=>by have h:=dW.mono (hbk2 k hk) (Nat.le_refl _) hD;rw[hS]at h;exact⟨h,h.len jD (Nat.le_refl _)⟩
 have sF:dL V 0 oI 0=S 0:=by rw[<-hS];rfl
 rw[hS]at hC;have hF2:∀j,j<=V->dW V 30000000 1 (Fs j)/\(Fs j).length<=8:=λj hj=>⟨dW.mono (hF j hj).1 zo (Nat.le_refl _),(hF j hj).2⟩;have hc0:∀W,Bw w W->Cl 75 #[ah (V:Int),.agg #[aj false,.string ⟨#[]⟩,ah 0]] W λex w'=>∃a' c',ex=.returned (.tuple #[.agg #[ah (V:Int),.slice a' (S 0).length c'],ah 0])/\bI w' a' c' (S 0)/\Bw W w':=λW hW=>by rw[<-sF];exact Mj V false [] 0 0 100 oI W zo ⟨⟨by decide,by decide,by decide⟩,by rw[show aJ (false,[],0)=0 from by decide+kernel];exact Sm.zero _⟩ zo (hT.below hW) (by decide+kernel)
 have hcn:∀k (h:k<cd.length) s m e,cd[k]=(s,m,e)->∀W,Bw w W->Cl 75 #[ah (V:Int),.agg #[aj s,ai m,ah e]] W λex w'=>∃a' c',ex=.returned (.tuple #[.agg #[ah (V:Int),.slice a' (PP k 0 0).length c'],ah 0])/\bI w' a' c' (PP k 0 0)/\Bw W w':=λk h s m e hx W hW=>by rw[HJ];have hf:=jh _ (List.getElem_mem h);rw[hx]at hf;refine Mj V s m e (cs.getD k 0) A oI W zo hf zo (hT.below hW) ?_;rw[<-hcs,<-hx];simp[List.getD_eq_getElem?_getD,h]
 have fT:∀k,k<N->∀j,j<=V->∀kk,kk<(R.getD k []).getD j 0->∀n n' m,(PP k j kk).length=n->(Fs j).length=n'->(PP k j (kk+1)).length=m->∀a1 c1 a2 c2 b W,aH W b 24 [ah (V:Int),.slice a1 n c1,ah (V:Int),.slice a2 n' c2]->bI W a1 c1 (PP k j kk)->bI W a2 c2 (Fs j)->aR W->Cl 76 #[.slice (some ⟨b,0,none⟩) 2 2] W λex w'=>∃a9 c9,ex=.returned (.tuple #[.agg #[ah (V:Int),.slice a9 m c9],ah 0])/\bI w' a9 c9 (PP k j (kk+1))/\Bw W w':=λk hk j hj kk hkk n n' m hn hn' hm a1 c1 a2 c2 b W hb h1 h2 hT=>by obtain⟨hp1,hp2⟩:=Tq k hk j zo kk (.inl ⟨hj,by omega⟩);obtain⟨hq1,hq2⟩:=hF2 j hj;rw[<-hm];exact auQ V 30000000 5 1 n n' b a1 a2 c1 c2 (PP k j kk) (Fs j) _ W zo hn hn' hp1.1 hq1.1 hp1.2 hq1.2 zd (Nat.le_trans (Nat.mul_le_mul (show n<=216 by omega) (show n'<=8 by omega)) zd) zd hb h1 h2 hT (acv k j kk).symm
 have had:∀k,k<N->∀n n' m,(S k).length=n->(PP k (V+1) 0).length=n'->(S (k+1)).length=m->∀a1 c1 a2 c2 b W,aH W b 24 [ah (V:Int),.slice a1 n c1,ah (V:Int),.slice a2 n' c2]->bI W a1 c1 (S k)->bI W a2 c2 (PP k (V+1) 0)->aR W->Cl 17 #[.slice (some ⟨b,0,none⟩) 2 2] W λex w'=>∃a9 c9,ex=.returned (.tuple #[.agg #[ah (V:Int),.slice a9 m c9],ah 0])/\bI w' a9 c9 (S (k+1))/\Bw W w':=λk hk n n' m hn hn' hm a1 c1 a2 c2 b W hb h1 h2 hT=>by obtain⟨hp1,hp2⟩:=yM k zo;obtain⟨hq1,hq2⟩:=Tq k hk (V+1) (Nat.le_refl _) 0 (.inr rfl);rw[<-hm];exact RI V 30000000 (S k) (PP k (V+1) 0) _ a1 a2 c1 c2 W b (by rw[hn,hn'];exact hb) h1 h2 hp1.1 hq1.1 zo zd hT (hS1 k).symm
 rw[hv1]at had;have ic:∀W ps,iW W V (5*B+33) ps (jz V (gy rows) V)->∀j (h:j<ps.length),∃a c,ps[j]=⟨(V:Int),a,(Fs j).length,c⟩/\bI W a c (Fs j):=λW ps h j hj=>by rw[sB]at h;obtain⟨a,c,h1,h2,_⟩:=h j hj;exact⟨a,c,h1,h2⟩
 obtain⟨nR,FU,Lj,tA,sX,mO,HPn,uO,rf,tB,qW,XT⟩:=fu eX sK hfo ic iw hrow MS hc0 hcn fT had sB;obtain⟨QW,PK,HT,yq,HC⟩:=fH Jl Ip hT hv1 hC;clear eX sK hfo ic iw hrow MS hc0 hcn fT had sB Jl Ip hT hC HJ acv Tq hS1 yM sF hF2 hS DI hbk hbk2 hcon aez hst MV hR hF Ie ug hN hcs jh hA hB hr ha h0;have dQ:0<w.heap.size:=HT.out.lt;have hvI:IntKind.i64.wrap ((v1:Int)-1)=(V:Int):=by rw[IntKind.wrap_i64];omega
 have hv4:v1<=4:=by omega
 clear hv1;obtain⟨n0,hn0⟩:∃n,(S 0).length=n:=⟨_,rfl⟩;have nS:=az hn0;rw[hn0]at uO;clear hn0;obtain⟨W,cP,ag,aC⟩:=jq w 34 [ah (V:Int),ah (D:Int),.slice aB N si] 24 [ah 0,.slice none 0 0];go_enter Tryz.func27,Tryz.ntmps27;go_wp2_with fail;refine aZ ag (nR.out _) λw1 ag aC=>?_;go_wp2_with fail;refine(Lj.out _ ag.1.out).mono ?_;rintro e w2 ⟨af,cf,ps,rfl,TT,aAx,ac4,aey,au⟩;obtain⟨ag,aC⟩:=qX au ag;have HA:Hid (At w2 af (ps.flatMap nQ)):=ac4;have HP:Hid (iW w2 V (5*B+33) ps (jz V (gy rows) V)):=aey;clear ac4 aey;go_wp2_with fail;refine(uO.out _ ag.1.out).mono ?_;rintro e w3 ⟨a0,c0,rfl,hp0,au⟩;obtain⟨ag,aC⟩:=qX au (HA.an<|HP.an ag);have HS:Hid (bI w3 a0 c0 (S 0)):=hp0;clear hp0;obtain⟨E0,E1,E2,EA,EP⟩:=fH ag.2.2.2.1.out ag.2.2.2.2.1.out ag.2.2.1.out ag.1.out ag.2.1.out;have lf:=ag.2.2.2.1.out.lt;have lr:=ag.2.2.2.2.1.out.lt;have EJ:=ag.2.2.1.out.size;have Hb:=hbz w3;obtain⟨W4,rD,bi,ag,aC⟩:=cM w3 (HS.an<|Hb.an ag) 24 [ah (V:Int),.slice a0 n0 c0];have lsm:=ag.1.out.lt;go_wp2_with fail;refine(FU.out _).mono ?_;rintro e w5 ⟨aq,cq,rfl,ac5,adi,au⟩;obtain⟨ag,aC⟩:=qX au ag;have ajn:=az ac5;have Hnq:Hid (∀b o,aq=some ⟨b,o,none⟩->¬b=w3.heap.size):=λb o e h=>by have:=adi b o e;omega
 obtain⟨Ao,ZR,ajr⟩:=cE ag.2.1.out ag.1.out ag.2.2.1.out;have OZ:=ag.2.2.1.out.size;have aBa:=ag.1.out.lt;clear ac5 adi;go_wp2_with fail;go_loopw[59] (λx wr=>∃(k n9:Nat) (a9:Option Addr) (d9:Nat),k<=N/\x=ah (k:Int)/\(S k).length=n9/\aH wr w3.heap.size 24 [ah (V:Int),.slice a9 n9 d9]/\bI wr a9 d9 (S k)/\Chg (λb=>b=w3.heap.size) w5 wr) (λx _=>N-(intOf x).toNat);case atStart=>exact⟨0,n0,a0,c0,Nat.zero_le _,rfl,nS.out,ZR.out,Ao.out,Chg.refl _ _⟩
 case round=>
  clear Ao ZR;obtain⟨k,n9,a9,d9,hk,rfl,IZ,pS,pP,pg⟩:=hrel;obtain⟨wk,hwk⟩:∃wk,wk=wr:=⟨_,rfl⟩;subst hwk;have hb3:=ajr.out.trans (pg.below (n:=w3.heap.size) zo (λb e=>by omega));have bE:=aO E2.out hb3;by_cases hlt:k<N
  . have hk2:k<R.length:=by rw[sX.out];exact hlt
    have El:k<cd.length:=by rw[QW.out];exact hlt
    obtain⟨xk,hxk⟩:∃x,R[k]=x:=⟨_,rfl⟩;obtain⟨hxl,ut,_,jK⟩:=mO.out k hk2;rw[hxk]at hxl ut jK;have hat:=ajn.out.chg pg (λb o e=>Hnq.out b o e);have vt:At wk aq (R.flatMap λx=>[Value.string (bs (x.map UInt8.ofNat))]):=by rw[Bd];exact hat
    obtain⟨b0,o0,hab,yS⟩:=vt.elem (f:=λx=>[Value.string (bs (x.map UInt8.ofNat))]) (sz:=1) (λ_=>rfl) zd k hk2;obtain⟨l8,jX⟩:∃l,xk.map UInt8.ofNat=l:=⟨_,rfl⟩;have hs0:wk.cell? ⟨b0,o0+k,none⟩=some (ai l8):=by have:=yS 0 zd;rw[hxk,jX]at this;simpa using this
    have bC:=uu N cq k (k:Int) hab hlt rfl;rw[Nat.mul_one]at bC;have ze:l8.length=v1:=by rw[<-jX,List.length_map];exact hxl
    have Iy:∀j (h:j<l8.length),l8[j].toNat=xk.getD j 0/\xk.getD j 0<=20:=λj h=>by
     have jx:j<xk.length:=by omega
     have e8:l8[j]=UInt8.ofNat xk[j]:=by
      have:l8[j]?=(xk.map UInt8.ofNat)[j]?:=by rw[jX]
      rw[List.getElem?_eq_getElem h,List.getElem?_eq_getElem (by simpa using jx)]at this;simpa using this
     have h20:=ut _ (List.getElem_mem jx);rw[e8,show xk.getD j 0=xk[j]by simp[jx]];exact⟨by simp;omega,h20⟩
    obtain⟨s,m,e,hx⟩:=na (cd[k]);obtain⟨bR,oR,Iq,n0',zP,zQ⟩:=(PK.out.below bE).num k El hx;have Vy:=nD N si k (k:Int) Iq hlt rfl;have hcn:=rf.out k El s m e hx;have fT:=tB.out k hlt;have ie:=HPn.out k;rw[jK]at fT ie;obtain⟨Q,hQ⟩:∃Q:Nat->Nat->List aM,PP k=Q:=⟨_,rfl⟩;have had:=qW.out k hlt;rw[hQ]at hcn fT ie had;obtain⟨nq,UF⟩:∃n,(Q 0 0).length=n:=⟨_,rfl⟩;rw[UF]at hcn;obtain⟨gV,yj,tE,dO,eo,wy,uN,ajC,akJ,alm,ajk,akT⟩:=fu pg pS pP bE hb3 ze Iy hcn fT ie had UF;have QD:=az IZ;have Hn:Hid (bA wk bR (oR+k*3) [aj s,ai m,ah e]):=iR n0' zP zQ;have Hf:Hid (aH wk w.heap.size 34 [ah (V:Int),ah (D:Int),.slice aB N si]):=E0.out.below hb3;have Cx:=pg.size;have lsk:=pS.lt;clear pg pS pP bE hb3 hxl ut jK hat vt yS jX ze Iy n0' zP zQ Iq hcn fT ie had UF hx hab hxk hQ IZ;have Hb:=hbz wk;go_wp2_with fail;obtain⟨ag,aC⟩:=qZ (Hf.an<|Hn.an trivial);obtain⟨Hf,Hn,_⟩:=ag;obtain⟨f0,f1,f2⟩:=Hf.out.c3;obtain⟨n0,n1,n2⟩:=Hn.out.w3;have fy:∀w',dJ wk w'->aV w' (w.heap.size) 0 (ah (V:Int))/\aV w' (w.heap.size) 2 (.slice aB N si)/\aV w' bR (oR+k*3) (aj s)/\aV w' bR (oR+k*3+1) (ai m)/\aV w' bR (oR+k*3+2) (ah e):=λw' h=>⟨cell_later h f0,cell_later h f2,cell_later h n0,cell_later h n1,cell_later h n2⟩;refine uI (λw'=>dJ wk w') (λi=>Nat.blt i 13) 11 24 [ah 0,.slice none 0 0] [(0,true),(1,true),(2,true),(3,true),(4,true),(5,true),(6,true),(7,false),(8,true),(9,true),(10,true)] [(12,false),(13,false)] zk zk rfl rfl rfl zk zk zc zc (λK a w h=>uy rfl rfl (λK' hK=>by go_simp;exact hK _ _ h)) ?_;clear f0 f1 f2 n0 n1 n2 Hf Hn;intro wkf au;replace Hb:=az (aO Hb.out au);refine⟨Hb.out,?_⟩;iterate 7 (refine jZ rfl rfl (v:=?_) (λw' hw'=>?_) ?_;rotate_left;(focus have hw':=fy w' hw';obtain⟨q0,q1,q2,q3,q4⟩:=hw';go_simp;try with_reducible rfl);try simp only[UU])
    refine jN rfl rfl (λK hK=>?_);go_simp;with_reducible refine(ajC.out _ (aO dO.out Hb.out)).mono ?_
    rintro e w9 ⟨a1,c1,rfl,hp1,hq⟩;refine hK _ _ hq (λw7 au hb2=>?_);have qY:=az (hp1.below hb2);clear hp1;replace Hb:=az (aO Hb.out au);refine⟨Hb.out,?_⟩;clear au hb2 hq hK K;have HY:=qY;clear qY;try simp only[UU]
    iterate 3 (refine jZ rfl rfl (v:=?_) (λw' hw'=>?_) ?_;rotate_left;(focus go_simp;try with_reducible rfl);try simp only[UU])
    intro vL hb0 qx;have ki:=az qx;clear qx;obtain⟨OG,MB,OH,MC⟩:=ki.out.g2;try simp only[U1]
    try simp only[Act.put,U2,U3]
    refine aY rfl rfl (λK hK=>?_);go_simp;refine hK _ _ (λ_=>by first|exact((Hb.out.setCell zp _).setCell zp _) |exact(((Hb.out.setCell zp _).setCell zp _).setCell zp _)) ?_;try simp only[UU]
    refine aY rfl rfl (λK hK=>?_);go_simp;refine hK _ _ (λh=>absurd h zd) ?_;try simp only[UU]
    simp only[bP];clear hs0 bC Vy fy;obtain⟨W8,wT⟩:=aI ((w7.setCell ⟨vL,0,none⟩ (ah (V:Int))).setCell ⟨vL,1,none⟩ (.slice a1 nq c1));have UW:aH W8 vL 24 [ah (V:Int),.slice a1 nq c1]:=by rw[<-wT];exact(ki.out.set 0 _).set 1 _
    have hY8:bI W8 a1 c1 (Q 0 0):=by rw[<-wT];exact HY.out.store ki.out zd _ _
    have fG:Bw wk W8:=by rw[<-wT];exact(Hb.out.setCell zp _).setCell zp _
    rw[wT];obtain⟨cb,W9,hcv,dS,hs9,jU⟩:=OV l8 W8;rw[wy.out]at hcv;have lpt:=UW.lt;obtain⟨ZF,Yu,Aq,pN⟩:=dP (UW.below dS) (hY8.below dS) (aO fG dS) jU;have sz9:=(aO fG dS).size;clear UW hY8 fG dS jU hs9 ki HY Hb OG MB OH MC wT;go_wp2_with fail;go_loopw[14,78] (λKl x wr=>∃(j np:Nat) (ap:Option Addr) (dp:Nat) (v:Value),j<=v1/\x=ah (j:Int)/\v=Kl/\v=ah 0/\(Q j 0).length=np/\aH wr vL 24 [ah (V:Int),.slice ap np dp]/\bI wr ap dp (Q j 0)/\Chg (λb=>b=vL) W9 wr) (λ_ x _=>v1-(intOf x).toNat);case atStart=>exact⟨0,nq,a1,c1,_,Nat.zero_le _,rfl,rfl,rfl,akT.out,ZF.out,Yu.out,Chg.refl _ _⟩
    case round=>
     clear Yu ZF hcv;obtain⟨j,np,ap,dp,v,hj,rfl,rfl,rfl,qG,pB,pP,pg⟩:=hrel;by_cases bj:j<v1
     . have j8:j<l8.length:=by rw[wy.out];exact bj
       have jV:j<=V:=by have:=yq.out;omega
       obtain⟨hq1,hq2⟩:=uN.out j j8;have ie:=alm.out j;have fT:=akJ.out j jV;obtain⟨q,hq⟩:=aI (xk.getD j 0);rw[hq]at hq1 hq2 ie fT;have m0:wr.cell? ⟨W8.heap.size,j,none⟩=some (.int .u8 (q:Int)):=pg.cell (by rw[(pN.out j j8).1,hq1]) (by show ¬W8.heap.size=vL;omega);have xB:=rK v1 cb j (j:Int) (rfl:(some ⟨W8.heap.size,0,none⟩:Option Addr)=_) bj rfl;rw[Nat.zero_add,Nat.mul_one]at xB;have jps:j<ps.length:=by omega
       obtain⟨a2,c2,UR,hp2⟩:=tA.out w3 ps EP.out j jps;obtain⟨n2,iO⟩:∃n,(Fs j).length=n:=⟨_,rfl⟩;rw[iO]at UR;obtain⟨akH,alk,yi,Ay,Hpj,eQ,tE,gV,Lv⟩:=En fT ie hp2 iO UR pB pP pg qG;clear fT ie hp2 iO UR pB pP pg qG hq hq1;go_wp2_with fail;go_loopw[14,17] (λKl x wr=>∃(kk np:Nat) (ap:Option Addr) (dp:Nat) (v:Value),kk<=q/\x=.int .u8 (kk:Int)/\v=Kl/\v=ah 0/\(Q j kk).length=np/\aH wr vL 24 [ah (V:Int),.slice ap np dp]/\bI wr ap dp (Q j kk)/\Chg (λb=>b=vL) W9 wr) (λ_ x _=>q-(intOf x).toNat);case atStart=>exact⟨0,np,ap,dp,_,Nat.zero_le _,rfl,rfl,rfl,Lv.out,eQ.out,tE.out,gV.out⟩
       case round=>
        clear eQ tE gV Lv m0 xB;obtain⟨kk,np,ap,dp,v,hkk,rfl,rfl,rfl,qG,pB,pP,pg⟩:=hrel;by_cases fY:kk<q
        . have hbk:=Aq.out.trans (pg.below (n:=wk.heap.size) zo (λb e=>by omega));have Bu:=aO eo.out hbk;obtain⟨bF,oF,hab,Vk⟩:=EA.out.aCp j jps Hpj.out;have lbF:bF<w3.heap.size:=World.block_lt_of_cell? w3 _ (Vk.cell 0 zm);have cn:=(show bA w3 bF (oF+j*2) [ah (V:Int),.slice a2 n2 c2]from Vk).below Bu;have ixF:=zI v1 cf j (j:Int) hab bj rfl;obtain⟨mq,Ed⟩:∃n,(Q j (kk+1)).length=n:=⟨_,rfl⟩;have fT:=akH.out kk fY np n2 mq qG Ay.out Ed ap dp a2 c2;have qE:=HT.out.below (aO E2.out Bu);have hG:=yi.out.below Bu;have hwu:IntKind.u8.wrap ((kk:Int)+1)=((kk+1:Nat):Int):=by rw[IntKind.wrap_u8];omega
          have hkq:(kk:Int)<(q:Int):=by omega
          obtain⟨akI,Hmq,gV,iT,tE⟩:=fH fT Ed pg qE pP;have iV:Hid (bA wr bF (oF+j*2) [ah (V:Int),.slice a2 n2 c2]):=cn;have ki:Hid (aH wr vL 24 [ah (V:Int),.slice ap np dp]):=pB;have fQ:=pg.size;have Py:=az hG;clear fT Ed pg qE pP cn Vk pB hbk Bu hab qG hG;have Hb:=hbz wr;obtain⟨ag,aC⟩:=qZ (ki.an<|iV.an trivial);have HO:Hid (bI wr ap dp (Q j kk)):=tE.out;have HG:Hid (bI wr a2 c2 (Fs j)):=Py.out;have HU:Hid (aR wr):=iT.out;go_wp2_with fail;obtain⟨ki,iV,_⟩:=ag;obtain⟨OG,MB,OH,MC⟩:=ki.out.g2;obtain⟨rz,oW⟩:=iV.out.w2;refine ez (λw'=>aV w' bF (oF+j*2) (ah (V:Int))/\aV w' bF (oF+j*2+1) (.slice a2 n2 c2)) (λi=>Nat.blt i 11) [(1,true),(2,true),(3,true),(4,true),(0,false),(5,false),(6,false),(7,true),(8,true),(9,true),(10,false),(11,false)] zk zk rfl zk zc ⟨rz,oW⟩ ?_;iterate 4 (refine pT rfl rfl ?_ (by intro w' ⟨q0,q1⟩;go_simp;try with_reducible rfl);try simp only[UU])
          refine aY rfl rfl (λK hK=>?_);go_simp;refine hK _ _ (λ_=>⟨rz,oW⟩) ?_;try simp only[UU]
          refine aY rfl rfl (λK hK=>?_);go_simp;refine hK _ _ (λ_=>⟨bg rz,bg oW⟩) ?_;try simp only[UU]
          refine cL (λGn=>aH Gn (wr.heap.size) 24 [ah (V:Int),.slice ap np dp,ah (V:Int),.slice a2 n2 c2]/\Bw wr Gn) (by first|exact fI|exact fJ) ?_;rintro Gn ⟨qd,au⟩;have aBq:=ki.out.lt;replace ki:=kB ki au;replace iV:=kW iV au;replace HO:=az (HO.out.below au);replace HG:=az (HG.out.below au);replace HU:=kT HU au;have Hd:=az qd;clear qd;obtain⟨OG,MB,OH,MC⟩:=ki.out.g2;obtain⟨rz,oW⟩:=iV.out.w2;obtain⟨d0,d1,d2,d3⟩:=Hd.out.c4;replace Hb:=bD Hb au;refine aY rfl rfl (λK hK=>?_);go_simp;with_reducible refine(akI.out _ _ Hd.out HO.out HG.out HU.out).mono ?_
          rintro e sQ ⟨a9,d9,rfl,jm,hq⟩;have au:Bw Gn sQ:=by first|exact hq|exact df hq
          replace ki:=kB ki au;replace iV:=kW iV au;replace HO:=az (HO.out.below au);replace HG:=az (HG.out.below au);replace HU:=kT HU au;obtain⟨Hd,d0,d1,d2,d3⟩:=xC Hd au;obtain⟨OG,MB,OH,MC⟩:=ki.out.g2;obtain⟨rz,oW⟩:=iV.out.w2;replace Hb:=bD Hb au;have HZ:=az jm;clear jm;refine hK _ _ (λ_=>⟨rz,oW⟩) ?_;try simp only[UU]
          iterate 3 (refine pT rfl rfl ?_;try simp only[UU])
          refine aY rfl rfl (λK hK=>?_);go_simp;refine hK _ _ (by first|exact λh=>absurd h zd|exact λ_=>⟨rz,oW⟩ |exact λ_=>⟨(by first|exact rz|exact aQ zf rz|exact aQ zf (aQ zf rz) |exact aQ zf (aQ zf (aQ zf rz))),(by first|exact oW|exact aQ zf oW|exact aQ zf (aQ zf oW) |exact aQ zf (aQ zf (aQ zf oW)))⟩) ?_;try simp only[UU]
          refine aY rfl rfl (λK hK=>?_);go_simp;refine hK _ _ (λh=>absurd h zd) ?_;try simp only[UU]
          simp only[bP];go_wp2;go_roundw;case rel=>exact⟨kk+1,mq,a9,d9,_,by omega,by go_num,rfl,rfl,Hmq.out,(ki.out.set 0 _).set 1 _,HZ.out.store ki.out zd _ _,((gV.out.aCk Hb.out).set rfl _).set rfl _⟩
          case measure=>exact bH
        . obtain rfl:kk=q:=by omega
          rw[alk.out]at qG pP;obtain⟨eQ,tE,gV,Lv⟩:=dP pB pP pg qG;clear pB pP pg qG;go_wp2;go_roundw;case rel=>exact⟨j+1,np,ap,dp,_,by omega,by go_num,rfl,rfl,Lv.out,eQ.out,tE.out,gV.out⟩
          case measure=>exact bH
     . obtain rfl:j=v1:=by omega
       have hbk:=Aq.out.trans (pg.below (n:=wk.heap.size) zo (λb e=>by omega));have Bu:=aO eo.out hbk;obtain⟨ms,BM⟩:∃n,(S (k+1)).length=n:=⟨_,rfl⟩;have had:=ajk.out n9 np ms QD.out qG BM a9 d9 ap dp;have qE:=HT.out.below (aO E2.out Bu);have Ib:=tE.out.below hbk;have wA:Hid (aH wr w3.heap.size 24 [ah (V:Int),.slice a9 n9 d9]):=yj.out.below hbk;have ki:Hid (aH wr vL 24 [ah (V:Int),.slice ap np dp]):=pB;obtain⟨ajj,Hms,iT,HP9,HPp,tj⟩:=fw had BM qE Ib pP hbk;clear had BM qE Ib pP pB hbk Bu qG pg tE yj;have Hb:=hbz wr;obtain⟨ag,aC⟩:=qZ (wA.an<|ki.an trivial);have HO:Hid (bI wr a9 d9 (S k)):=HP9.out;have HG:Hid (bI wr ap dp (Q j 0)):=HPp.out;have HU:Hid (aR wr):=iT.out;obtain⟨W12,aqJ,bi,ag,aC⟩:=cM wr (Hb.an<|HO.an<|HG.an<|HU.an ag) 24 [ah (V:Int),.slice a9 n9 d9,ah (V:Int),.slice ap np dp];go_wp2_with fail;refine(ajj.out _ _ ag.1.out ag.2.2.1.out ag.2.2.2.1.out ag.2.2.2.2.1.out).mono ?_;rintro e sS ⟨a8,d8,rfl,zz,au⟩;obtain⟨ag,aC⟩:=qX au ag;have Qk:Hid (Chg (λb=>b=w3.heap.size) w5 sS):=gV.out.aCk (aO tj.out ag.2.1.out);have QL:=az zz;clear zz;go_wp2;go_roundw;case rel=>exact⟨k+1,ms,a8,d8,by omega,by go_num,Hms.out,(ag.2.2.2.2.2.1.out.set 0 _).set 1 _,QL.out.store ag.2.2.2.2.2.1.out zd _ _,(Qk.out.set rfl _).set rfl _⟩
       case measure=>exact bH
  . obtain rfl:k=N:=by omega
    rw[HC.out]at IZ pP;have wA:Hid (aH wk w3.heap.size 24 [ah (V:Int),.slice a9 n9 d9]):=pS;have Hr:Hid (aH wk (w.heap.size+1) 24 [ah 0,.slice none 0 0]):=E1.out.below hb3;have Hb:Hid (Bw w wk):=bE;obtain⟨tE,QD⟩:=aU pP IZ;clear pS pg bE hb3 pP IZ;obtain⟨ag,aC⟩:=qZ (wA.an<|Hr.an trivial);go_wp2;have h9:=tE.out.store ag.2.1.out zd (ah (V:Int)) (.slice a9 n9 d9);refine eH (λw9=>bI w9 a9 d9 C/\aH w9 (w.heap.size+1) 24 [ah (V:Int),.slice a9 n9 d9]/\Bw w w9) ⟨h9,(ag.2.1.out.set 0 _).set 1 _,(Hb.out.setCell zp _).setCell zp _⟩ ?_;rintro w9 ⟨q1,q2,q3⟩;obtain⟨x0,x1⟩:=q2.c2;exact bodyPost_ret (v:=.tuple #[.agg #[ah (V:Int),.slice a9 n9 d9],ah 0]) (by simp[results,Tryz.results27,go_sem,x0,x1]) rfl ⟨a9,d9,by rw[QD.out],q1,q3⟩
def anG (l:List UInt8)(c:UInt8):bs l++bs [c]=bs (l++[c]):=by unfold bs;apply ByteArray.ext;simp
def avE (l:List UInt8)(a:Option Addr)(cap n:Nat)(w:World)(hn:l.length=n)(hl:n<=1048576)(hall:∀c∈l,c.toNat<=127)(ha:At w a (ia l)):
 Cv 121 #[.slice a n cap] w (.tuple #[ai l,ah 0]):=by
 rw[<-Mv]at ha;obtain⟨Hn,mJ,Ha⟩:=cE hn hall ha;clear hn hall ha;have Hb:=hbz w;go_enter Tryz.func121,Tryz.ntmps121;go_wp2_with fail;go_loopw[4,5] (λs4 x wr=>∃(k:Nat) (v:Value),k<=n/\x=ah (k:Int)/\v=s4/\v=ai (l.take k)/\Bw w wr) (λ_ x _=>n-(intOf x).toNat);case atStart=>exact⟨0,_,Nat.zero_le _,rfl,rfl,rfl,Hb.out⟩
 case round=>
  clear Hb;obtain⟨k,v,hk,rfl,rfl,rfl,pb⟩:=hrel;by_cases hlt:k<n
  . have h1:k<l.length:=by rw[Hn.out];exact hlt
    have hc:=mJ.out _ (List.getElem_mem h1);obtain⟨b,o,hab,hce⟩:=(Ha.out.below pb).elem (f:=λc:UInt8=>[Value.int .i64 (c.toNat:Int)]) (sz:=1) (λ_=>rfl) zd k h1;have bC:=xx n cap k (k:Int) hab hlt rfl;rw[Nat.mul_one]at bC;obtain⟨c,hcc⟩:=aI (l[k]);rw[hcc]at hc hce;obtain⟨cc,TR⟩:∃cc:Int,(c.toNat:Int)=cc:=⟨_,rfl⟩;have Hp:Hid (bA wr b (o+k) [ah cc]):=λj hj=>by
     obtain rfl:j=0:=by simp at hj;omega
     have:=hce 0 zd;rw[Nat.mul_one]at this;simpa[TR]using this
    obtain⟨u,hu⟩:=aI (bs (l.take k));obtain⟨y,hy⟩:=aI (bs [c]);have adp:u++y=bs (l.take (k+1)):=by rw[<-hu,<-hy,anG,List.take_succ_eq_append_getElem h1,hcc]
    have aeP:¬9223372036854775807<u.size+y.size:=by rw[<-hu,<-hy,gY,gY,List.length_take];simp;omega
    have h0:¬cc<0:=by omega
    have aqd:¬127<cc:=by omega
    have uf:IntKind.u8.wrap cc=cc:=by rw[IntKind.wrap_u8];omega
    unfold ai;rw[hu];obtain⟨aX,Hy,CM⟩:=cE pb hy TR;have fQ:=pb.size;clear pb hc hce hcc TR hab hu hy;have Hb:=hbz wr;obtain⟨ag,aC⟩:=qZ (Hp.an trivial);obtain⟨W2,nV,bi,ag,aC⟩:=cM wr (Hb.an ag) 5 [.int .u8 cc];have hcv:(convert 84 9 (.slice (some ⟨wr.heap.size,0,none⟩) 1 1)).run Tryz.prog W2=.ok (.string y) W2:=by rw[<-Hy.out];exact axM (l:=[c]) (by rw[show fF [c]=[.int .u8 cc]by rw[<-CM.out];rfl];exact ag.1.out) 1
    go_wp2;go_roundw;case rel=>exact⟨k+1,_,by omega,by go_num,rfl,rfl,(aX.out.trans (ag.2.1.out.mono fQ))⟩
    case measure=>exact bH
  . obtain rfl:k=n:=by omega
    rw[List.take_of_length_le (by rw[Hn.out];exact Nat.le_refl _)];have aX:=az pb;clear pb;go_wp2;refine bodyPost_ret (v:=.tuple #[ai l,ah 0]) (by simp[results,Tryz.results121,go_sem]) rfl ⟨rfl,aX.out⟩
def avD (a b:List UInt8)(n:Nat)(w:World)(jG:a.length=n)(hlb:b.length=n)(hl:n<=1048576)(ha:∀c∈a,c.toNat<=127)(hb:∀c∈b,c.toNat<=127)(hs:∀i,i<n->(a.getD i 0).toNat+(b.getD i 0).toNat<=127):
 Cv 80 #[ai a,ai b] w (.tuple #[ai (fq a b),ah 0]):=by
 obtain⟨i0,hi,hz0,hz1,hz2⟩:=info_parts Tryz.aCy;have BL:=λW=>WB a (n:Int) W zo;have hmb:=λW=>WB b (n:Int) W zo;rw[VN jG ha]at BL;rw[VN hlb hb]at hmb;have hsz:(bs a).size=n:=by rw[gY,jG]
 have hof:=λ(A:Option Addr) (c:Nat) (W:World) (h:At W A (ia (fq a b)))=>avE (fq a b) A c n W (Df a b n jG hlb) hl (RN a b n jG hlb hs) h;have hlM:=Df a b n jG hlb;have hgM:∀k (h:k<a.length) (h2:k<b.length) (h3:k<(fq a b).length),((fq a b)[k]).toNat=a[k].toNat+b[k].toNat/\a[k].toNat+b[k].toNat<=127:=λk h h2 h3=>by have h4:=hs k zo;have h5:=RL a b k h3 zo;rw[show a.getD k 0=a[k]by simp[h],show b.getD k 0=b[k]by simp[h2]]at h4 h5;exact⟨h5,h4⟩
 obtain⟨Hi,cV,cW,cC,Qx,Qy,mM,Zf,HgM,FD,FE⟩:=afv hi hz0 hz1 hz2 BL hmb hof hlM hgM jG hlb;clear hi hz0 hz1 hz2 BL hmb hof hlM hgM jG hlb ha hb hs;have Hb:=hbz w;go_enter Tryz.func80,Tryz.ntmps80;go_wp2_with fail;refine aZ (Hb.an trivial) (Qx.out _) λw1 ag aC=>?_;go_wp2_with fail;refine aZ ag (Qy.out _) λw2 ag aC=>?_;go_wp2_with fail;go_loopw[6,7] (λs6 x wr=>∃(k:Nat) (v:Value),k<=n/\x=ah (k:Int)/\v=s6/\wr.ownsRow w.heap.size 3 1 v k (ia ((fq a b).take k))/\Bw w wr) (λ_ x _=>n-(intOf x).toNat);case atStart=>exact⟨0,_,Nat.zero_le _,rfl,rfl,World.ownsRow_nil _ _ _ _,ag.1.out⟩
 case round=>
  skip
  obtain⟨k,v,hk,rfl,rfl,ho,pb⟩:=hrel;by_cases hlt:k<n
  . have h1:k<a.length:=by rw[FD.out];exact hlt
    have h2:k<b.length:=by rw[FE.out];exact hlt
    have h3:k<(fq a b).length:=by rw[Zf.out];exact hlt
    obtain⟨hg,hg2⟩:=HgM.out k h1 h2 h3;have ix:=uv a (k:Int) k h1 rfl;have xA:=uv b (k:Int) k h2 rfl;obtain⟨x,hx⟩:∃x:Int,(a[k].toNat:Int)=x:=⟨_,rfl⟩;obtain⟨y,hy⟩:∃y:Int,(b[k].toNat:Int)=y:=⟨_,rfl⟩;obtain⟨Z,hZ⟩:∃Z:Int,(((fq a b)[k]).toNat:Int)=Z:=⟨_,rfl⟩;have hwx:IntKind.i64.wrap x=x:=by rw[IntKind.wrap_i64];omega
    have hwy:IntKind.i64.wrap y=y:=by rw[IntKind.wrap_i64];omega
    have hwz:IntKind.i64.wrap (x+y)=Z:=by rw[IntKind.wrap_i64];omega
    have cu:Hid (ia ((fq a b).take (k+1))=ia ((fq a b).take k)++[ah Z]):=by
     show _=_
     rw[List.take_succ_eq_append_getElem h3,abu,<-hZ];rfl
    rw[hx]at ix;rw[hy]at xA;obtain⟨Ho,aX⟩:=aU ho pb;have fQ:=pb.size;clear ho pb hg hg2 hx hy hZ;have Hb:=hbz wr;go_wp2_with fail;refine ez (λw'=>True) (λi=>Nat.blt i 100000) [(0,true),(1,true),(2,true),(3,true),(4,true),(5,true),(6,true),(7,true),(8,true),(9,true),(10,false),(11,false),(12,true)] zk zk rfl zk zc True.intro ?_;iterate 10 (refine pT rfl rfl ?_;try simp only[UU])
    refine aY rfl rfl (λK hK=>?_);go_simp;refine hK _ _ (λ_=>True.intro) ?_;try simp only[UU]
    refine cL (λW5=>aH W5 (wr.heap.size) 3 [ah Z]/\Bw wr W5) (by first|exact fI|exact fJ) ?_;rintro W5 ⟨qd,au⟩;have Hd:=az qd;clear qd;have d0:=Hd.out.c1;replace Hb:=bD Hb au;refine aY rfl rfl (λK hK=>?_);have dU:=ownsRow_below Ho.out Hb.out;have hs3:=Hb.out.size;refine wp_append_own _ _ _ 154 rfl w.heap.size 3 i0 _ 1 8 Tryz.underlying154 Hi.out cV.out cW.out cC.out rfl zd v k (ia ((fq a b).take k)) rfl dU ⟨wr.heap.size,0,none⟩ 1 1 [ah Z] rfl rfl (gK Hd.out) zy zx zo zo ?_;intro v' w8 dY bJ _;refine hK _ _ (λ_=>True.intro) ?_;try simp only[UU]
    have fG:=(aO aX.out Hb.out).grown bJ zo (λj e=>dz dU j e);rw[<-cu.out]at dY;obtain⟨iU,fZ⟩:=aU fG dY;refine pT rfl rfl ?_;try simp only[UU]
    simp only[bP];clear dU dY bJ fG d0;go_wp2;go_roundw;case rel=>exact⟨k+1,v',by omega,by go_num,rfl,fZ.out,iU.out⟩
    case measure=>exact bH
  . obtain rfl:k=n:=by omega
    rw[List.take_of_length_le (by rw[Zf.out];exact Nat.le_refl _)]at ho;obtain⟨A,c,rfl,hat,_⟩:=dm ho;obtain⟨eZ,Hb⟩:=aU hat pb;clear ho hat pb;go_wp2_with fail;refine aZ (Hb.an trivial) (mM.out A c _ eZ.out) λw6 ag aC=>?_;go_wp2;refine bodyPost_ret (v:=.tuple #[ai (fq a b),ah 0]) (by simp[results,Tryz.results80,go_sem]) rfl ⟨rfl,ag.1.out⟩
end Go.Proofs.YtnjfebkelecgaaaGreatDoor
