/- Package cert: Shape. -/
import Derived.Test.YtpfgffadgkkedaaGreatDoorZ7
import Derived.Test.YtpfgffadgkkedaaGreatDoorZ40
import Derived.Test.YtpfgffadgkkedaaGreatDoorZ32
set_option linter.all false
set_option maxRecDepth 100000
set_option maxHeartbeats 16000000
namespace Go.Proofs.YtpfgffadgkkedaaGreatDoor
open Go.RowKit
attribute [local go_sem ↓] Go.wp_at_zero Go.wp_at_succ
def uL (S:Nat->Bool):Nat->Nat
 |0=>0
 |i+1=>max (uL S i) ((cC S i).getLastD 0)
def Zx (S:Nat->Bool)(i:Nat):uL S i<=i-1:=by
 induction i with
 |zero=>exact Nat.le_refl _
 |succ i ih=>have:=(Lj S i).2.2;rw[uL];omega
def xX (w0:World)(cb lb db:Nat)(a:Option Addr)(n cap L M:Nat)(W:World):Prop:=
 ar W cb 69 [.slice a n cap]/\ar W lb 3 [af (L:Int)]/\ar W db 3 [af (M:Int)]/\Bw w0 W
def xX.kw {w0 W W':World}{N cb lb db:Nat}{a:Option Addr}{n cap L M:Nat}(h:xX w0 cb lb db a n cap L M W)(k:KW N W W')(hN:w0.heap.size<=N)(h1:cb<N)(h2:lb<N)(h3:db<N):xX w0 cb lb db a n cap L M W':=by obtain⟨g1,g2,g3,g4⟩:=h;exact⟨Chg.blk k g1 λhy=>by have:=hy.1;omega,Chg.blk k g2 λhy=>by have:=hy.1;omega,Chg.blk k g3 λhy=>by have:=hy.1;omega,Below.chg g4 k λb hb=>Nat.le_trans hN hb.1⟩
def auV (w0:World)(N cb lb db:Nat)(a:Option Addr)(n cap:Nat)(ns:List Nd)(i dd L M:Nat)(w:World)(hc:xX w0 cb lb db a n cap L M w)(hat:At w0 a (ns.flatMap mF))(hn:ns.length=n)(hi:i<ns.length)(hL:L<=5000)(hM:M<=5000)(hd:dd<=5000)
 (hne:cb≠lb/\cb≠db/\lb≠db) (hlo:w0.heap.size<=lb/\w0.heap.size<=db) (hN:lb<N/\db<N):
 Cl 96 #[af (i:Int),af (dd:Int),.pointer (some ⟨cb,0,none⟩),.pointer (some ⟨lb,0,none⟩),.pointer (some ⟨db,0,none⟩)] w λe w'=>e=.returned (ag true)/\DW N w w'/\xX w0 cb lb db a n cap (if ns[i].sp=0 then L+1 else L) (max M dd) w':=by
 obtain⟨g1,g2,g3,g4⟩:=hc;obtain⟨sp,s,m,e,V,a1,n1,c1,hx⟩:∃sp s m e V a1 n1 c1,ns[i]=⟨sp,(s,m,e),V,a1,n1,c1⟩:=⟨_,_,_,_,_,_,_,_,rfl⟩;obtain⟨b,o,hab,hp⟩:=(hat.below g4).node i hi hx;have aX:=IY n cap i (i:Int) hab zo rfl;rw[hx];have acG:=hne.1;have Io:=hne.2.1;have ap0:=hne.2.2;have hk1:∀u,DW N w (w.setCell ⟨db,0,none⟩ u):=λu=>Le (Chg.refl _ w) db 0 u λh=>by have:=h.1;omega
 have hk2:∀u v,DW N w ((w.setCell ⟨lb,0,none⟩ v).setCell ⟨db,0,none⟩ u):=λu v=>Le (Le (Chg.refl _ w) lb 0 v λh=>by have:=h.1;omega) db 0 u λh=>by have:=h.1;omega
 have MP:IntKind.i64.wrap ((L:Int)+1)=((L+1:Nat):Int):=by rw[IntKind.wrap_i64];omega
 have hmx:((max M dd:Nat):Int)=max (M:Int) (dd:Int):=by omega
 obtain⟨Hp,Hc,Hl,Hd,Hg,Ff,vQ⟩:=iX hp g1 g2 g3 g4 hk1 hk2;obtain⟨gq,hl2⟩:=hlo;clear hp g1 g2 g3 g4 hat hab hx hk1 hk2 hne hN hn;have Hb:=hbz w;obtain⟨ae,ai⟩:=qZ (Hc.an<|Hl.an<|Hd.an<|Hp.an trivial);by_cases hsp:sp=0
 . subst hsp;rw[if_pos rfl];go_enter Tryz.func96,Tryz.ntmps96;go_wp2;refine bodyPost_ret (results_tmp rfl _ _ _) rfl ⟨rfl,vQ.out _ _,(ae.1.out.azV ⟨lb,0,none⟩ zp _).azV ⟨db,0,none⟩ zp _,(ae.2.1.out.set 0 _).azV ⟨db,0,none⟩ zp _,?_,(Hg.out.setCell zp _).setCell zp _⟩;rw[hmx];exact(ae.2.2.1.out.azV ⟨lb,0,none⟩ zp _).set 0 _
 . have gu:(sp==0)=false:=by simpa using hsp
   rw[if_neg hsp];go_enter Tryz.func96,Tryz.ntmps96;go_wp2;refine bodyPost_ret (results_tmp rfl _ _ _) rfl ⟨rfl,Ff.out _,ae.1.out.azV ⟨db,0,none⟩ zp _,ae.2.1.out.azV ⟨db,0,none⟩ zp _,?_,Hg.out.setCell zp _⟩;rw[hmx];exact ae.2.2.1.out.set 0 _
def YD (F:Bool)(L M:Nat)(w:World)(e:Ending)(w':World):Prop:=∃l m:Int,e=.returned (.tuple #[af l,af m,ag F])/\(F=true->l=(L:Int)/\m=(M:Int))/\Bw w w'
def auU (S:Nat->Bool)(ns:List Nd)(n cap:Nat)(a:Option Addr)(D:DmR)(w:World)(hn:ns.length=n)(hS:∀k (h:k<ns.length),S k=(ns[k].sp !=0))(hat:At w a (ns.flatMap mF)):
 Cl 35 #[.slice a n cap] w (YD (pC S n) (bJ S D n).2.length (uL S n) w):=by
 have eg:∀args w,(callFunc 96 args).run Tryz.prog w=.ok (.enter 96 args) w:=enters_of Tryz.func96 zk rfl;have uF:=aj λ(W:World) (hW:w.heap.size+2<W.heap.size) (h0:xX w w.heap.size (w.heap.size+1) (w.heap.size+2) a n cap 0 0 W)=>
  agk S ns n cap a 96 #[.pointer (some ⟨w.heap.size,0,none⟩),.pointer (some ⟨w.heap.size+1,0,none⟩),.pointer (some ⟨w.heap.size+2,0,none⟩)] (λi W=>xX w w.heap.size (w.heap.size+1) (w.heap.size+2) a n cap (bJ S D i).2.length (uL S i) W) W hn hS
   (λi W2 h=>hat.below h.2.2.2)
   (λi W2 W3 h k=>h.kw k zo zo zo hW) eg
   (λh4 i hi hne W2 _ h=>by
    have hi2:i<ns.length:=by omega
    have hle:=(Lj S i).2.2;refine(auV w W.heap.size w.heap.size (w.heap.size+1) (w.heap.size+2) a n cap ns i _ _ _ W2 h hat hn hi2 (by have:=(sS S D i).2;omega) (by have:=Zx S i;omega) zo zo zo zo).mono ?_;rintro e w' ⟨h1,h2,h3⟩;refine⟨h1,?_,h2⟩;have e1:=hS i hi2;rw[bJ,uL];by_cases hsp:ns[i].sp=0
    . rw[if_pos hsp]at h3;rw[if_neg (by rw[e1,hsp];decide),List.length_append];exact h3
    . rw[if_neg hsp]at h3;rw[if_pos (by rw[e1];simpa using hsp)]
      exact h3)
   h0
 obtain⟨F,hF⟩:=au (pC S n);unfold YE at uF;rw[hF];simp only[hF]at uF;obtain⟨L,hL⟩:=au ((bJ S D n).2.length);obtain⟨M,hM⟩:=au (uL S n);simp only[hL,hM]at*;clear hn hS hat eg hF hL hM;have Hb:=hbz w;go_enter Tryz.func35,Tryz.ntmps35;go_wp2_with fail;refine yZ w (Hb.an trivial) 69 [.slice a n cap] 3 [af 0] 3 [af 0] λW aG ae ai=>?_;have hsz:=ae.2.2.1.out.lt;have hsh:xX w w.heap.size (w.heap.size+1) (w.heap.size+2) a n cap 0 0 W:=⟨ae.1.out,ae.2.1.out,ae.2.2.1.out,ae.2.2.2.1.out⟩;have xR:=aj hsh;clear hsh;go_wp2_with fail;refine(uF.out W hsz xR.out).mono ?_;rintro e5 w5 ⟨rfl,qH,i9,kx⟩;cases F with
 |false=>obtain⟨h1,h2,h3,h4⟩:=kx;generalize (bJ S D i9).2.length=x at*;generalize uL S i9=y at*;obtain⟨Hl,Hd,Hb⟩:=bM h2 h3 h4;clear uF qH h1 h2 h3 h4 ae ai;obtain⟨ae,ai⟩:=qZ (Hl.an<|Hd.an trivial);go_wp2;refine dI (λil=>∃eI,aN w5 (w.heap.size+1) 0 [af 0] eI/\aN eI (w.heap.size+2) 0 [af 0] il) ⟨_,aR,aR⟩ ?_;rintro w9 ⟨_,hs0,hs1⟩;have ae:=bC hs1 (bC hs0 (Hb.an ae));simp only[bD,List.set]at ae;have ai:=qC ae;refine bodyPost_ret (v:=.tuple #[af 0,af 0,ag false]) (by simp[results,Tryz.results35,go_sem,ai]) rfl ⟨0,0,rfl,λh=>(by cases h),ae.1.out⟩
 | true=>
   obtain⟨h1,h2,h3,h4⟩:=qH rfl;obtain⟨Hl,Hd,Hb⟩:=bM h2 h3 h4;clear uF kx qH h1 h2 h3 h4 ae ai;obtain⟨ae,ai⟩:=qZ (Hl.an<|Hd.an trivial);go_upto_region 4 with fail
   obtain⟨Hl,Hd,_⟩:=ae;obtain⟨l0,Rm⟩:=Hl.out.g1;obtain⟨d0,fd0⟩:=Hd.out.g1;refine fx (λw'=>aJ w' (w.heap.size+2) 0 (af (M:Int))) (λi=>Nat.blt i 3) [(1,true),(0,false),(2,false),(3,false),(4,false)] zk zk rfl zk zc d0 ?_;refine pT rfl rfl ?_;try simp only[UU]
   refine aO rfl rfl (λK hK=>?_);go_simp;refine hK _ _ (λ_=>d0) ?_;try simp only[UU]
   refine aO rfl rfl (λK hK=>?_);go_simp;refine hK _ _ (λ_=>(aC zf d0)) ?_;try simp only[UU]
   refine cg (aN w5 (w.heap.size+1) 0 [af (L:Int)]) aR ?_;intro w6 hs;replace Hl:=rO Hl hs;replace Hd:=kS Hd hs zo;obtain⟨l0,Rm⟩:=Hl.out.g1;obtain⟨d0,fd0⟩:=Hd.out.g1;replace Hb:=bS Hb hs ZS;clear hs;refine aO rfl rfl (λK hK=>?_);go_simp;refine hK _ _ (λh=>absurd h zd) ?_;try simp only[UU]
   refine cg (aN w6 (w.heap.size+2) 0 [af (M:Int)]) aR ?_;intro w7 hs;replace Hl:=kS Hl hs zo;replace Hd:=rO Hd hs;obtain⟨l0,Rm⟩:=Hl.out.g1;obtain⟨d0,fd0⟩:=Hd.out.g1;replace Hb:=bS Hb hs ZS;clear hs;refine aO rfl rfl (λK hK=>?_);go_simp;refine hK _ _ (λh=>absurd h zd) ?_;try simp only[UU]
   simp only[bH];go_wp2;exact bodyPost_ret (v:=.tuple #[af (L:Int),af (M:Int),ag true]) (by simp[results,Tryz.results35,l0,d0,go_sem]) rfl ⟨_,_,rfl,λ_=>⟨rfl,rfl⟩,Hb.out⟩
def alC {S:Nat->Bool}{D:DmR}{B:Nat}{X:Nat->Dyadic}(hk:fR D)(hf:iy B D)(h5:D.2.length<=5)(i:Nat)(hB:B+3*i<=200000)(hne:∀j,j<i->cC S j≠[]):∀d∈(bJ S D i).1++(bJ S D i).2,eO d X->eO D X:=by
 induction i with
 | zero=>
   intro d hd h;have e:d=D:=by simpa[bJ]using hd
   rw[<-e];exact h
 | succ i ih=>
   have ih:=ih zo (λj hj=>hne j zo);have hinv:=FX hk hf h5 i zo (λj hj=>hne j zo);have h0:(bJ S D i).1≠[]:=λh=>by have h1:=(sS S D i).1;rw[h]at h1;exact hne i zo (List.length_eq_zero_iff.1 h1.symm)
   have hm:=List.mem_append_left (bJ S D i).2 (Ja h0);obtain⟨g1,g2,g3,g4⟩:=hinv _ hm;have hh:=adu g1 g2 zo zo X;intro d hd hX;rw[bJ]at hd;split at hd
   . simp only[List.mem_append,List.mem_cons,List.not_mem_nil,or_false]at hd;rcases hd with(hd|rfl|rfl) |hd
     . exact ih d (List.mem_append_left _ (List.dropLast_subset _ hd)) hX
     . exact ih _ hm (hh.2 (.inr hX))
     . exact ih _ hm (hh.2 (.inl hX))
     . exact ih d (List.mem_append_right _ hd) hX
   . simp only[List.mem_append,List.mem_cons,List.not_mem_nil,or_false]at hd;rcases hd with hd|hd|rfl
     . exact ih d (List.mem_append_left _ (List.dropLast_subset _ hd)) hX
     . exact ih d (List.mem_append_right _ hd) hX
     . exact ih _ hm hX
def alI (ns:List Nd)(qs:Nat->List Trm)(n cap:Nat)(a:Option Addr)(D:DmR)(dn dm:Nat)(da gH:Option Addr)(dc gJ:Nat)(tb:List UInt8)(ta:Option Addr)(tn tc:Nat)(w:World)
 (hn:ns.length=n) (hat:At w a (ns.flatMap mF)) (vd:vV w ns qs) (fe:D.1.length=dn) (fc:D.2.length=dm) (hs:Sl da dn dc) (hb:At w da (D.1.flatMap spC)) (ha:Tbl w gH D.2) (hcap:dm<=gJ) (ht:tb.length=tn) (iV:At w ta (mJ tb)) (hT:aB w):
 Cv 7 #[.slice a n cap,.agg #[.slice da dn dc,.slice gH dm gJ],.slice ta tn tc] w (ag true):=by
 have KF:=aj λW (hW:Bw w W)=>akA W (hT.below hW);have Yz:=aj λW (hW:Bw w W)=>art ns qs n a cap W hn (hat.below hW) (vd.below hW);have YA:=aj λW (hW:Bw w W)=>awd D.1 D.2 dn dm da gH dc gJ W fe fc (hb.below hW) (ha.below hW);obtain⟨S,hS⟩:∃S:Nat->Bool,∀k (h:k<ns.length),S k=(ns[k].sp !=0):=⟨λk=>if h:k<ns.length then ns[k].sp !=0 else false,λk h=>dif_pos h⟩;obtain⟨c,hc⟩:=au (rC dn dm (iL (D.1.map aY)) (jb D.2));obtain⟨dk,tK⟩:=au (sW S n c);obtain⟨F,hF⟩:=au (pC S n);have hfit:NotVastD D.1 D.2->iy 192 D/\dm<=5/\dn<=1000:=λh2=>by have h5:=h2.five;have hfw:=h2.few;exact⟨⟨λx hx=>⟨UA (h2.box x hx).1,UA (h2.box x hx).2⟩,λr hr c hc=>UA ((h2.row r hr).2 c hc)⟩,by omega,by omega⟩
 have vU:=aj λ(h1:NotLong ns qs) (h2:NotVastD D.1 D.2) W (hW:Bw w W)=>ZK S ns n cap a D dn dm 192 da gH dc gJ c W hn hS (by have:=h1.few;omega) (hat.below hW) fe fc hs (hb.below hW) (ha.below hW) (hfit h2).1 zd zd (hfit h2).2.2 (hfit h2).2.1 hcap (hT.below hW) hc;have FK:=aj λW (hW:Bw w W)=>auU S ns n cap a D W hn hS (hat.below hW);have Qi:=aj λ(d:DmR) (h5:dm<=5) (hd:rZ 312 D d) (x:Dv) W (hW:Bw w W) (hx:DT W x d)=>adV d x.n x.m x.a x.a' x.c x.c' tb ta tn tc W hx.n hx.m hx.dat.box hx.dat.row hd.2.1 (by have:=hd.2.2.2;have:=hx.m;omega) ht (iV.below hW) (hT.below hW) hd.1;have Yx:=aj λ(d:DmR) (h5:dm<=5) (hd:rZ 312 D d) (x:Dv) (xs:List Raw) (xa:Option Addr) (xc:Nat) W (hW:Bw w W) (hx:DT W x d) (hxl:xs.length=cH dn dm) (gW:∀x∈xs,Fit 2000 x) (h4:At W xa (xs.flatMap aV))=>abz d x.n x.m x.a x.a' x.c x.c' xa xc xs W hx.n hx.m hx.cap hx.dat.box hx.dat.row hd.2.1 (by have:=hd.2.2.2;have:=hx.m;omega) hd.1 (by rw[hxl,<-fe,<-fc,<-hx.n,<-hx.m,hd.2.2.1,hd.2.2.2]) gW h4 (hT.below hW);have KG:=aj λ(h5:dm<=5) (hd:rZ 312 D D) W (hW:Bw w W)=>adV D dn dm da gH dc gJ tb ta tn tc W fe fc (hb.below hW) (ha.below hW) hd.2.1 h5 ht (iV.below hW) (hT.below hW) hd.1;have Yy:=aj λ(h5:dm<=5) (hd:rZ 312 D D) (xs:List Raw) (xa:Option Addr) (xc:Nat) W (hW:Bw w W) (hxl:xs.length=cH dn dm) (gW:∀x∈xs,Fit 2000 x) (h4:At W xa (xs.flatMap aV))=>abz D dn dm da gH dc gJ xa xc xs W fe fc hcap (hb.below hW) (ha.below hW) hd.2.1 h5 hd.1 hxl gW h4 (hT.below hW);have II:dk=0->NotLong ns qs->NotVastD D.1 D.2->F=true/\(bJ S D n).2.length<=40/\uL S n<n/\0<dn+dm/\rZ 312 D D/\(∀d∈(bJ S D n).2,rZ 312 D d)/\(∀X,eO D X->∃d∈(bJ S D n).2,eO d X)/\∀X,∀d∈(bJ S D n).2,eO d X->eO D X:=λh0 h1 h2=>by
  obtain⟨rfl,hwk⟩:=ZJ (tK.trans h0);obtain⟨aS,hne,hend⟩:=VW hwk;have apX:n<=40:=by have:=h1.few;omega
  have hk:fR D:=by unfold fR;rw[fe,fc];exact hc
  obtain⟨hf,h5,_⟩:=hfit h2;have e:(bJ S D n).1=[]:=List.length_eq_zero_iff.1 (by rw[(sS S D n).1,hend];rfl);have hcv:=λX (hX:eO D X)=>YU hk hf (by omega:D.2.length<=5) n zo hne hX;have gu:=λX=>alC (X:=X) hk hf (by omega:D.2.length<=5) n zo hne;have lu:=FX hk hf (by omega:D.2.length<=5) n zo hne;simp only[e,List.nil_append]at hcv gu lu;refine⟨hF.symm.trans hwk,by have:=(sS S D n).2;omega,?_,?_,⟨hk,hf.mono zd,rfl,rfl⟩,λd hd=>?_,hcv,gu⟩
  . have:=Zx S n;have:n≠0:=λh=>by rw[h]at hend;cases hend
    omega
  . rcases QT hc with⟨_,h,_⟩ |⟨_,h,_⟩<;>omega
  . obtain⟨g1,g2,g3⟩:=lu d hd;exact⟨g1,g2.mono zo,g3⟩
 unfold NM at vU;unfold YD at FK;unfold Yv at Qi KG;rw[fe,fc]at KG;simp only[tK]at vU;simp only[hF]at FK;obtain⟨Yi,ES,Hdm⟩:=bM II fe fc;have Xn:=aj λh2=>(hfit h2).2.1;have Xo:=aj λh2=>(hfit h2).2.2;clear hn hat vd fe fc hs hb ha hcap ht iV hT hS hc tK hF hfit II;have Hb:=hbz w;go_enter Tryz.func7,Tryz.ntmps7;go_wp2_with fail;refine cF w (Hb.an trivial) 27 [.slice da dn dc,.slice gH dm gJ] λW aG ae ai=>?_;go_wp2_with fail;refine(Yz.out _ ae.2.1.out).mono ?_;rintro e w1 ⟨⟨v,rfl,hv⟩,ak⟩;obtain⟨ae,ai⟩:=qX ak ae;cases v with
 |true=>go_wp2_with fail;refine aK ae (KF.out _ ae.2.1.out) λw2 ae ai=>?_;go_wp2;refine bodyPost_ret (results_tmp rfl _ _ _) rfl ⟨rfl,ae.2.1.out⟩
 | false=>
   have h1:NotLong ns qs:=hv rfl;clear hv;go_wp2_with fail;refine(YA.out _ ae.2.1.out).mono ?_;rintro e w2 ⟨⟨v,rfl,hv⟩,ak⟩;obtain⟨ae,ai⟩:=qX ak ae;cases v with
   |true=>go_wp2_with fail;refine aK ae (KF.out _ ae.2.1.out) λw3 ae ai=>?_;go_wp2;refine bodyPost_ret (results_tmp rfl _ _ _) rfl ⟨rfl,ae.2.1.out⟩
   | false=>
     have h2:NotVastD D.1 D.2:=hv rfl;clear hv;have h5:=Xn.out h2;have h6:=Xo.out h2;have Ke:=aj (vU.out h1 h2);have Ks:=aj λh0=>Yi.out h0 h1 h2;clear h1 h2 vU Yi Yz YA Xn Xo;go_wp2_with fail;refine(Ke.out _ ae.2.1.out).mono ?_;rintro e w3 ⟨va,k9,vc,rfl,hne,heq,ak⟩;obtain⟨ae,ai⟩:=qX ak ae;by_cases h0:dk=0
     rotate_left
     . obtain rfl:=hne h0;have uR:(dk !=0)=true:=by simpa using h0
       clear hne heq;go_wp2_with fail;refine(FK.out _ ae.2.1.out).mono ?_;rintro e w4 ⟨l,m,rfl,_,ak⟩;obtain⟨ae,ai⟩:=qX ak ae;go_wp2_with fail;refine aK ae (KF.out _ ae.2.1.out) λw5 ae ai=>?_;go_wp2;refine bodyPost_ret (results_tmp rfl _ _ _) rfl ⟨rfl,ae.2.1.out⟩
     subst h0;obtain⟨q,pp,rJ,GI,mn⟩:=heq rfl;obtain⟨hF,aoP,hM,hpo,RB,AH,hcv,gu⟩:=Ks.out (by trivial);subst hF;obtain⟨Ls,hLs⟩:=au ((bJ S D n).2);simp only[hLs]at*;obtain⟨M,Az⟩:=au (uL S n);simp only[Az]at*;subst rJ;obtain⟨N,hN⟩:=au q.length;rw[hN]at pp⊢;rw[<-pp]at aoP;rw[<-pp]at FK;obtain⟨HN,rh,JZ,Hcv,Fu,Hi2,Hh2⟩:=iX hN pp AH hcv gu (KG.out h5 RB) (Yy.out h5 RB);have HA:Hid (At w3 va (q.flatMap iN)):=GI;have HB:Hid (fy w3 q Ls):=mn;clear hne heq pp GI mn hN hLs AH hcv gu RB Ks Az KG Yy Ke;go_wp2_with fail;refine(FK.out _ ae.2.1.out).mono ?_;rintro e w4 ⟨l,m,rfl,hlm,ak⟩;obtain⟨ae,ai⟩:=qX ak (HA.an<|HB.an ae);obtain⟨rfl,rfl⟩:=hlm (by trivial);clear hlm;have Ay:¬(n:Int)<=(M:Int):=by omega
     have hws:IntKind.i64.wrap ((dn:Int)+(dm:Int))=(dn:Int)+(dm:Int):=by rw[IntKind.wrap_i64];omega
     have hz:((dn:Int)+(dm:Int)==0)=false:=by simp;omega
     go_wp2_with fail;refine(Hi2.out _ ae.2.2.2.1.out).mono ?_;rintro e w5 ⟨a2,c2,xs,rfl,hxl,gW,hin,h4,ak⟩;obtain⟨ae,ai⟩:=qX ak ae;have GV:=λ(d:DmR) (hd:d∈Ls) (x:Dv) W hW hx h9=>Yx.out d h5 (JZ.out d hd) x xs a2 c2 W hW hx hxl gW h9;have hhi:=λ(d:DmR) (hd:d∈Ls) (x:Dv) W hW hx=>Qi.out d h5 (JZ.out d hd) x W hW hx;have abT:=Hcv.out (dG xs) hin;obtain⟨XF,Hhi,ahL⟩:=bM GV hhi abT;have HC:Hid (At w5 a2 (xs.flatMap aV)):=h4;have HA5:=ae.1;have lG:=ae.2.1;have HC5:=HC;have Oz:=ae.2.2.1;have eu:=ae.2.2.2.1;have hlen:∀d∈Ls,d.1.length=dn/\d.2.length=dm:=λd hd=>by obtain⟨_,_,g3,g4⟩:=JZ.out d hd;exact⟨g3.trans ES.out,g4.trans Hdm.out⟩
     have jE:=aj hlen;clear h4 hxl gW hin GV hhi abT Qi Yx hlen;go_wp2_with fail;go_loopw[13,14] (λBU x wr=>∃(k:Nat) (b:Bool),k<=N/\x=af (k:Int)/\BU=ag b/\(b=true↔∃j,∃h:j<Ls.length,j<k/\eO Ls[j] (dG xs))/\ar wr w.heap.size 27 [.slice da dn dc,.slice gH dm gJ]/\Bw w5 wr) (λ_ x _=>N-(intOf x).toNat);case atStart=>exact⟨0,false,Nat.zero_le _,rfl,rfl,⟨λh=>(by cases h),λ⟨j,_,h,_⟩=>absurd h (Nat.not_lt_zero _)⟩,Oz.out,Below.refl _ _⟩
     case round=>
      obtain⟨k,b,hk,rfl,rfl,hbk,hd,pb⟩:=hrel;obtain⟨uw,Hd,Hb⟩:=bM hbk hd pb;clear hbk hd pb;by_cases hlt:k<N
      . have Ib:k<q.length:=by rw[HN.out];exact hlt
        have jx:k<Ls.length:=by rw[<-rh.out];exact hlt
        have hmem:Ls[k]∈Ls:=List.getElem_mem jx;have mn:=(lG.out.2 k Ib jx).below Hb.out;obtain⟨xa,xn,xc,ie,xm,ig,vg⟩:∃xa xn xc ie xm ig,q[k]=⟨xa,xn,xc,ie,xm,ig⟩:=⟨_,_,_,_,_,_,rfl⟩;obtain⟨b3,o3,tF,hw3⟩:=(HA5.out.below Hb.out).dom k Ib vg;rw[vg]at mn;have e1:dn=xn:=by rw[<-(jE.out _ hmem).1];exact mn.n
        have e2:dm=xm:=by rw[<-(jE.out _ hmem).2];exact mn.m
        subst e1 e2;have aX:=TV N vc k (k:Int) tF hlt rfl;have GV:=λW hW (h:DT W _ _) h9=>XF.out _ hmem ⟨xa,dn,xc,ie,dm,ig⟩ W hW h h9;have hhi:=λW hW (h:DT W _ _)=>Hhi.out _ hmem ⟨xa,dn,xc,ie,dm,ig⟩ W hW h;rw[(jE.out _ hmem).1,(jE.out _ hmem).2]at hhi;dsimp only at hhi;have gu:=λX=>Fu.out X _ hmem;have ak:∀b':Bool,(b'=true↔(b=true\/eO Ls[k] (dG xs)))->(b'=true↔∃j,∃h:j<Ls.length,j<k+1/\eO Ls[j] (dG xs)):=λb' h=>by
         rw[h,uw.out];constructor
         . rintro(⟨j,h1,h2,h3⟩ |h3)
           . exact⟨j,h1,by omega,h3⟩
           . exact⟨k,jx,by omega,h3⟩
         . rintro⟨j,h1,h2,h3⟩;by_cases hjk:j=k
           . subst hjk;exact .inr h3
           . exact .inl ⟨j,h1,by omega,h3⟩
        generalize Ls[k]=E at*;have Hy:Hid (aQ wr b3 (o3+k*2) [.slice xa dn xc,.slice ie dm ig]):=hw3;obtain⟨OD,ais,aip,ajz,Hbn⟩:=eD mn GV hhi gu ak;clear hmem mn vg tF hw3 GV hhi gu ak;obtain⟨ae,ai⟩:=qZ (Hd.an<|Hy.an trivial);have HZ:Hid (DT wr ⟨xa,dn,xc,ie,dm,ig⟩ E):=OD.out;have WV:=HZ;have Oy:=ae.1;have jF:=ae.2.1;have bI:=Hb;go_upto_region 14 with fail
        go_cut[13] (λBU wx=>∃b',BU=ag b'/\(b'=true↔(b=true\/eO E (dG xs)))/\Bw wr wx);case first=>
         cases b with
         |true=>go_wp2_with fail;go_meet;exact⟨true,rfl,⟨λ_=>.inl (by trivial),λ_=>by trivial⟩,Below.refl _ _⟩
         |false=>go_wp2_with fail;refine(ais.out _ (aF eu.out bI.out) WV.out (HC5.out.below bI.out)).mono ?_;rintro e w6 ⟨F,rfl,hF,ak⟩;obtain⟨HF,ahA⟩:=aH hF ak;clear hF ak;go_wp2_with fail;go_meet;exact⟨F,rfl,⟨λh=>.inr (HF.out.1 h),λh=>by rcases h with h|h;cases h;exact HF.out.2 h⟩,ahA.out⟩
        case rest=>
         obtain⟨b',rfl,hb',rb⟩:=hcut;obtain⟨w6,Bi⟩:∃u,u=wc:=⟨_,rfl⟩;subst Bi;obtain⟨Oj,Hd,Hy,Hb,Hz6⟩:=eD (Hbn.out b' hb') (Oy.out.below rb) (jF.out.below rb) (aF bI.out rb) (WV.out.below rb);clear hb' rb;obtain⟨ae,ai⟩:=qZ (Hd.an<|Hy.an trivial);have HZ:Hid (DT w6 ⟨xa,dn,xc,ie,dm,ig⟩ E):=Hz6.out;go_upto_region 15 with fail
         have ae:=Hb.an<|HZ.an ae
         refine cQ 999 ae (cJ 9 0x110e0c0b0907050301) ?_;refine bo ?_;refine qOp λK hK=>?_;go_simp;with_reducible refine(aip.out _ (aF eu.out ae.1.out.drew) (ae.2.1.out.below ((Below.refl _ _).drew))).mono ?_
         rintro e w7 ⟨a6,c6,ys,rfl,IV,hyf,ub,h6,hq⟩;refine kE hK hq ae λae=>?_;clear hK K hq;have HPZ:=aj h6;clear h6;have ae:=HPZ.an ae;refine qOp λK hK=>?_;go_simp;with_reducible refine(Hh2.out ys a6 c6 _ (aF eu.out ae.2.1.out) IV hyf ae.1.out).mono ?_
         rintro e w8 ⟨F,rfl,hF,hq⟩;refine kE hK hq ae λae=>?_;clear hK K hq;refine bo ?_;refine cP ae λai=>?_;obtain rfl:F=true:=hF.2 (ajz.out _ ub);clear hF IV hyf ub;go_wp2;go_roundw;case rel=>exact⟨k+1,b',by omega,by go_num,rfl,Oj.out,ae.2.2.2.1.out,ae.2.1.out⟩
         case measure=>exact bi
      . obtain rfl:k=N:=by omega
        have hb1:b=true:=by obtain⟨d,hd,hX⟩:=ahL.out;obtain⟨j,hj,rfl⟩:=List.mem_iff_getElem.1 hd;exact uw.out.2 ⟨j,hj,by rw[rh.out];exact hj,hX⟩
        subst hb1;obtain⟨ae,ai⟩:=qZ (Hd.an trivial);go_wp2_with fail;refine aK (Hb.an ae) (KF.out _ (aF eu.out Hb.out)) λw8 ae ai=>?_;go_wp2;refine bodyPost_ret (results_tmp rfl _ _ _) rfl ⟨rfl,aF eu.out ae.1.out⟩
end Go.Proofs.YtpfgffadgkkedaaGreatDoor
