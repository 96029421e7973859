/- Package calc: Eval. -/
import Derived.Test.YtpfgffadgkkedaaGreatDoorZ7
import Derived.Test.YtpfgffadgkkedaaGreatDoorZ15
import Derived.Test.YtpfgffadgkkedaaGreatDoorZ16
import Derived.Lib.OthersKept
import Derived.Test.YtpfgffadgkkedaaGreatDoorZ23
import Derived.Test.YtpfgffadgkkedaaGreatDoorZ9
import Derived.Test.YtpfgffadgkkedaaGreatDoorZ19
import Derived.Test.YtpfgffadgkkedaaGreatDoorZ12
import Derived.Test.YtpfgffadgkkedaaGreatDoorZ21
set_option linter.all false
set_option maxRecDepth 100000
set_option maxHeartbeats 16000000
namespace Go.Proofs.YtpfgffadgkkedaaGreatDoor
open Go.RowKit
attribute [local go_sem ↓] Go.wp_at_zero Go.wp_at_succ
def apr (w:World)(k:Nat)(s:ByteArray)(pos:Nat):w.grownBy (w.iterAt k s pos) (some k):=
 ⟨rfl,rfl,rfl,by rw[Lib.iterAt_size];exact Nat.le_refl _,λi _ hne=>Lib.iterAt_other w k i s pos (λh=>hne (by rw[h]))⟩
def Tryz.aBA :(Tryz.prog.info? 124).map (λi=>(i.zero,i.size,i.bytes))=some (some (.agg #[.slice none 0 0]),1,24):=by kernel_rfl
def as5 (c:Int)(n:Nat)(hc:c=n)(h:n<=1048576)(w:World):
 (Instr.makeSlice 122 (af c) (af c)).run Tryz.prog w=.ok (.slice (some ⟨w.heap.size,0,none⟩) n n) (w.alloc (.cells (List.replicate n (.slice none 0 0)).toArray 124)):=by
 subst hc;obtain⟨i0,hi,hz0,hz1,hz2⟩:=info_parts Tryz.aBA;rw[run_make (P:=Tryz.prog) w 122 124 i0 _ Tryz.underlying122 hi hz0 .i64 .i64 n n zo zo (by rw[hz2];omega) zo];simp only[Int.toNat_natCast,hz1];congr 3;apply Array.ext';refine List.ext_getElem (by simp[madeCells]) (λi h1 h2=>?_);simp[madeCells];rw[show i% (Value.agg #[Value.slice none 0 0]).cells.size=0 from Nat.mod_one i];rfl
def gT.new {W:World}{kb n:Nat}(X:Nat->Dyadic)(Z:Nat->Prop)(h:ar W kb 124 (List.replicate n (.slice none 0 0))):gT W kb n X Z:=
 ⟨_,λ_=>0,List.length_replicate,h,λi hi=>⟨Nat.zero_le _,by rw[List.getElem_replicate];exact World.ownsRow_nil _ _ _ _⟩,λi j hi _ g e=>(by rw[List.getElem_replicate]at e;cases e),λi hi g e=>(by rw[List.getElem_replicate]at e;cases e)⟩
def aoI (V:Nat)(a:Option Addr)(cap N:Nat)(ts:List Trm)(xa:Option Addr)(xc:Nat)(xs:List Raw)(B C:Nat)(w:World)(hN:ts.length=N)(hX:xs.length=V)(hf:dL V C ts)(ha:At w a (ts.flatMap aH))(hx:At w xa (xs.flatMap aV))(dz:∀x∈xs,Fit B x)(hB:B<=20000)(hC:C<=10000000)(hT:aB w):
 Cv 26 #[.agg #[af (V:Int),.slice a N cap],.slice xa V xc] w (.tuple #[bN (ml (eH xs) V ts N),af 0]):=by
 obtain⟨⟨hg,hm,hl4,hV⟩,hfit⟩:=hf
 have hpc:=λW (hW:Bw w W)=>BK (V:Int) a cap N ts W hN zo (ha.below hW) (λt ht=>⟨by
  have h:=hm t ht;unfold cJ at h;simp only[Bool.and_eq_true,decide_eq_true_eq]at h
  omega,(hfit t ht).1⟩) (hT.below hW)
 rw[Nl ⟨hg,hm,hl4,hV⟩]at hpc;have hby:∀t∈ts,t.1.length=V/\∀c∈t.1,c.toNat<=127:=λt ht=>by have h:=hm t ht;unfold cJ at h;simp only[Bool.and_eq_true,decide_eq_true_eq,List.all_eq_true]at h;exact⟨by omega,h.1⟩
 have dR:∀j,j<V->Sm B (eH xs j):=λj hj=>agR hX dz j hj;obtain⟨D,hD⟩:=az (C+V* (127*B+1));have hD9:D<=60000000:=by have h1:V* (127*B+1)<=12* (127*20000+1):=Nat.mul_le_mul hV zo;omega
 have yr:∀(k:Nat) (hk:k<ts.length) j,j<=V->Sm D (fU (eH xs) (dval ts[k].2) ts[k].1 j):=λk hk j hj=>by refine(aeZ (hfit _ (List.getElem_mem hk)).2 (hby _ (List.getElem_mem hk)).2 j (λi hi=>dR i zo)).mono ?_;have h1:j* (127*B+1)<=V* (127*B+1):=Nat.mul_le_mul_right _ hj;omega
 have hgd:∀(k:Nat) (hk:k<ts.length),ts.getD k zT=ts[k]:=λk hk=>by simp[List.getD_eq_getElem?_getD,hk]
 have hes:=λk (hk:k<=ts.length)=>aab (X:=eH xs) (n:=V) (ts:=ts) (λk hk=>by rw[hgd k hk];exact yr k hk V (Nat.le_refl _)) k hk;have hst:∀(k:Nat) (hk:k<ts.length),ml (eH xs) V ts (k+1)=ml (eH xs) V ts k+fU (eH xs) (dval ts[k].2) ts[k].1 V:=λk hk=>by rw[ml,hgd k hk]
 have TW:∀j (hj:j<xs.length),dval xs[j]=eH xs j:=λj hj=>(BW xs j hj).symm;have hgo:∀(k:Nat) (hk:k<ts.length),ts[k].2=canon (dval ts[k].2):=λk hk=>(hg.2 _ (List.getElem_mem hk)).2;have hmk:=as5 (V:Int) V rfl zo;have hN4:N<=4096:=by omega
 obtain⟨X,hXX⟩:=az (eH xs);obtain⟨E,hE⟩:=az (ml X V ts);have hE0:E 0=0:=by rw[<-hE];rfl
 rw[hXX]at yr hst TW hes⊢;rw[hE]at hst hes⊢;obtain⟨HN,HX,xz,Ha,Hx,iU,jB,Fj,zI,Hms,JY,bK⟩:=gL hN hX hfit ha hx dz hT hpc hby yr hes hst;obtain⟨Hxr,HE0,OU⟩:=bL TW hE0 hgo;clear hN hX hfit ha hx dz hT hpc hby yr hes hst TW hE0 hgo hgd dR hD hE hXX hm hg hl4;obtain⟨W,bX,ae,ai⟩:=jz w 41 [af (V:Int),.slice a N cap] 45 [ag false,.string ⟨#[]⟩,af 0];go_enter Tryz.func26,Tryz.ntmps26;go_wp2_with fail;refine aK ae (Fj.out _ ae.1.out) λw1 ae ai=>?_;have p1:w1.cell? ⟨w.heap.size,1,none⟩=some (.slice a N cap):=ae.2.1.out.cell 1;have p0:w1.cell? ⟨w.heap.size,0,none⟩=some (af (V:Int)):=ae.2.1.out.cell 0;have P0:=p0;have P1:=p1;have szw:=ae.1.out.size;have bJ:=ae.1;have sD:=ae.2.2.1;have HK:Hid (gF w1 w1):=Below.refl _ _;obtain⟨Wq,Sc⟩:=az (w1.alloc (.cells (Array.replicate V (.slice none 0 0)) 124));have Hq:Hid (ar Wq w1.heap.size 124 (List.replicate V (.slice none 0 0))):=by have h:=ar.new w1 124 (List.replicate V (.slice none 0 0));rw[List.toArray_replicate,Sc]at h;exact h
 have hbq:Bw w1 Wq:=by rw[<-Sc];exact zl
 have qF:Wq.heap.size=w1.heap.size+1:=by rw[<-Sc];simp
 obtain⟨ae,ai⟩:=qX hbq (HK.an ae);skip
 have Ko:=aj qF;clear hbq qF;have HL:Hid (gF Wq Wq):=Below.refl _ _;obtain⟨W2,ng,aG,ae,ai⟩:=bO Wq (HL.an ae) 45 [ag false,.string ⟨#[]⟩,af 0];replace Hq:=aj (Hq.out.below ae.2.1.out);have Wu:Hid (Bw w1 W2):=ae.2.2.1.out;go_wp2_with fail;have iH:=ae.2.2.2.1;have hkz:w1.heap.size≠Wq.heap.size:=by have:=Ko.out;omega
 have hwk:w.heap.size<=w1.heap.size:=by omega
 have sB:=ae.2.2.2.2.1;have Py:=ae.2.2.2.2.2.1;go_loopw[32] (λx wr=>∃k:Nat,k<=N/\x=af (k:Int)/\gT wr w1.heap.size V X (λb=>b=Wq.heap.size)/\ar wr Wq.heap.size 45 (aV (canon (E k)))/\Bw w1 wr) (λx _=>N-(intOf x).toNat);case atStart=>exact⟨0,Nat.zero_le _,rfl,gT.new X _ Hq.out,by rw[HE0.out];exact ae.1.out,Wu.out⟩
 case round=>
  clear Hq Wu;obtain⟨k,hk,rfl,hP,hz,pb⟩:=hrel;obtain⟨HP,aP,eW⟩:=bL hP pb (aC bJ.out pb);clear hP pb;obtain⟨Ek,RD⟩:=az (E k);rw[RD]at hz;have Hz:Hid (ar wr Wq.heap.size 45 (bu Ek)):=hz;have Wl:=aj RD;clear hz RD;have ie:=aP.out.size;have hzl:=Hz.out.lt;by_cases hlt:k<N
  . have hk2:k<ts.length:=by rw[HN.out];exact hlt
    obtain⟨l,cf,hx⟩:∃l cf,ts[k]=(l,au (dN cf),nt (dN cf).natAbs,dE cf):=⟨ts[k].1,dval ts[k].2,by rw[Prod.ext_iff];exact⟨rfl,OU.out k hk2⟩⟩;have hc0:dval ts[k].2=cf:=by rw[hx];exact bA cf
    obtain⟨b,o,hab,bW⟩:=(Ha.out.below eW.out).term k hk2 hx;have aU:=gK N cap k (k:Int) hab hlt rfl;have hby:=zI.out _ (List.getElem_mem hk2);have yr:=λj (hj:j<=V)=>Hms.out k hk2 j hj;have hst:=bK.out k hk2;have hes:=JY.out k zo;rw[hx]at hby;rw[hc0,hx]at yr hst;rw[Wl.out]at hes hst;have Ht:Hid (aQ wr b (o+k*4) [.string (bs l),ag (au (dN cf)),.string (bs (nt (dN cf).natAbs)),af (dE cf)]):=bW;obtain⟨Oj,XM,kL,aiM⟩:=cE hby yr hst hes;clear bW hby yr hst hes hx hc0 hab;have Hb:=hbz wr;obtain⟨ae,ai⟩:=qZ (Ht.an<|Hz.an trivial);have t0:wr.cell? ⟨b,o+k*4,none⟩=some (.string (bs l)):=ae.1.out.cell 0 zm;have t1:wr.cell? ⟨b,o+k*4+1,none⟩=some (ag (au (dN cf))):=ae.1.out.cell 1 zm;have t2:wr.cell? ⟨b,o+k*4+2,none⟩=some (.string (bs (nt (dN cf).natAbs))):=ae.1.out.cell 2 zm;have t3:wr.cell? ⟨b,o+k*4+3,none⟩=some (af (dE cf)):=ae.1.out.cell 3 zm;have T0:=t0;have T1:=t1;have T2:=t2;have T3:=t3;obtain⟨W4,ke,aG,ae,ai⟩:=bO wr (Hb.an ae) 111 [.string (bs l),ag (au (dN cf)),.string (bs (nt (dN cf).natAbs)),af (dE cf)];have u0:W4.cell? ⟨wr.heap.size,0,none⟩=some (.string (bs l)):=ae.1.out.cell 0;have u1:W4.cell? ⟨wr.heap.size,1,none⟩=some (ag (au (dN cf))):=ae.1.out.cell 1;have u2:W4.cell? ⟨wr.heap.size,2,none⟩=some (.string (bs (nt (dN cf).natAbs))):=ae.1.out.cell 2;have u3:W4.cell? ⟨wr.heap.size,3,none⟩=some (af (dE cf)):=ae.1.out.cell 3;have V0:=u0;have V1:=u1;have V2:=u2;have V3:=u3;have hs4:=ae.2.1.out.size;obtain⟨W5,wm,aG,ae,ai⟩:=bO W4 ae 45 (bu cf);have hs5:=ae.2.2.1.out.size;have hcl:=ae.1.out.lt;have XA:Hid ((W5.iter (bs l) 0).heap[W5.heap.size]?=some (.stringIter (bs l) 0)):=World.iter_heap W5 (bs l) 0;have uR:Bw W5 (W5.iter (bs l) 0):=zl
    have WG:Hid (gT (W5.iter (bs l) 0) w1.heap.size V X (λb=>b=Wq.heap.size\/b=W4.heap.size\/b=W5.heap.size)):=((HP.out.re (Z':=λb=>b=Wq.heap.size\/b=W4.heap.size\/b=W5.heap.size) (λb h=>by
     rcases h with h|h|h
     . exact .inl h
     . right;omega
     . right;omega)).below (ae.2.2.1.out.mono (Nat.le_refl _))).below uR
    obtain⟨Yz,JR⟩:=aI (ae.2.2.2.2.1.out.below uR) (ae.1.out.below uR);have CB:Hid (Bw w1 (W5.iter (bs l) 0)):=(aC aP.out ae.2.2.1.out).trans (uR.mono zo);clear uR;obtain⟨fP,acF⟩:∃i,W5.heap.size=i:=⟨_,rfl⟩;obtain⟨cB,hcB⟩:∃i,W4.heap.size=i:=⟨_,rfl⟩;obtain⟨Z,hZ⟩:∃Z:Nat->Prop,(λb=>b=Wq.heap.size\/b=cB\/b=fP)=Z:=⟨_,rfl⟩;have hzz:Z Wq.heap.size:=by rw[<-hZ];exact .inl rfl
    have hzc:Z cB:=by rw[<-hZ];exact .inr (.inl rfl)
    have hzi:Z fP:=by rw[<-hZ];exact .inr (.inr rfl)
    have hzo:∀b,Z b->b=Wq.heap.size\/b=cB\/b=fP:=λb h=>by rw[<-hZ]at h;exact h
    have cH:w1.heap.size<cB:=by have:=aP.out.size;omega
    have hcz:cB≠Wq.heap.size:=by omega
    have hik:w1.heap.size<fP:=by omega
    have hic:cB<fP:=by omega
    have SJ:Wq.heap.size<fP:=by omega
    obtain⟨HZo,Kz,Yx,Yy⟩:=cE hzo hzz hzc hzi;have RP:=WG.out;have pj:=JR.out;have SH:=XA.out;rw[hcB,acF,hZ]at RP;rw[hcB]at pj;rw[acF]at SH;obtain⟨WH,WZ,XB⟩:=bL RP pj SH;clear WG JR XA RP pj SH hZ hzo hzz hzc hzi;go_wp2_with fail;obtain⟨wo,hwo⟩:∃wo,wo=wr:=⟨_,rfl⟩;subst hwo;go_loopw[] (λwr=>∃j:Nat,j<=V/\wr.heap[fP]?=some (.stringIter (bs l) j)/\gT wr w1.heap.size V X Z/\ar wr cB 45 (aV (canon (fU X cf l j)))/\ar wr Wq.heap.size 45 (bu Ek)/\Bw w1 wr) (λwr=>V-wr.iterPos fP);case atStart=>exact⟨0,Nat.zero_le _,XB.out,WH.out,WZ.out,Yz.out,CB.out⟩
    case round=>
     clear XB WH WZ Yz CB HP;obtain⟨j,hj,hit,hP,hc,hz,Ep⟩:=hrel;have hsw:=Ep.size;have hil:fP<wr.heap.size:=(Array.getElem?_eq_some_iff.1 hit).1;by_cases bB:j<V
     . have iG:j<l.length:=by rw[Oj.out.1];exact bB
       have hjb:j<(bs l).size:=by rw[kP];exact iG
       have ab2:l[j].toNat<=127:=Oj.out.2 _ (List.getElem_mem iG);have hg:((bs l)[j]'hjb).toNat=l[j].toNat:=by simp[bs,ByteArray.getElem_eq_getElem_data];rfl
       obtain⟨cc,hcc⟩:∃cc:Nat,l[j].toNat=cc:=⟨_,rfl⟩;rw[hcc]at ab2 hg;have hgd:(l.getD j 0).toNat=cc:=by rw[<-hcc];simp[List.getD_eq_getElem?_getD,iG];rfl
       have rH:∀ty,(Instr.next (.pointer (some ⟨fP,0,none⟩)) true ty).run Tryz.prog wr=_:=λty=>Lib.run_next_ascii_at wr fP (bs l) j ty hit hjb (by rw[hg];omega);rw[hg]at rH;have rF:IntKind.i64.wrap (cc:Int)=(cc:Int):=by rw[IntKind.wrap_i64];omega
       have hgr:=apr wr fP (bs l) (j+1);have hch:=Chg.aBi (Y:=λb=>b=fP) hgr (λb e=>(Option.some.inj e).symm);have hk1:=Lib.iterAt_heap wr fP (bs l) j (j+1) hit;have Di:=hP.chg hch zo (λb h _=>by subst h;exact Yy.out);have hc1:=hch.blk hc zo;have hz1:=hch.blk hz zo;have hb1:=Lib.below_iterAt Ep (by omega:w1.heap.size<=fP) (bs l) (j+1);have tT:wr.iterPos fP=j:=by simp[World.iterPos,hit]
       obtain⟨M,hM⟩:=az (fU X cf l j);obtain⟨Q,hQ⟩:=az (fU X cf l (j+1));obtain⟨P,LR⟩:=az (fc (X j) cc);have hMQ:M*P=Q:=by rw[<-hQ,<-hM,<-LR,<-hgd];rfl
       have uN:=XM.out j zo;rw[hM]at uN hc1;have TV:j<xs.length:=by rw[HX.out];exact bB
       obtain⟨sx,mx,ex,mJ⟩:=oP (xs[j]);have dz:=iU.out _ (List.getElem_mem TV);have hxv:=Hxr.out j TV;rw[mJ]at dz hxv;have Gs:Sm (127*B+1) P:=by rw[<-LR,<-hxv];exact(UV dz.2 cc).mono (by have:=Nat.mul_le_mul_left B ab2;omega)
       have nz:Fit 60000001 (dF M):=(uN.mono zo).fit zd;have iQ:Fit 60000001 (dF P):=(Gs.mono zo).fit zd;have qA:=λb W9 (hbl:ar W9 b 45 [ag (au (dN M)),.string (bs (nt (dN M).natAbs)),af (dE M),ag (au (dN P)),.string (bs (nt (dN P).natAbs)),af (dE P)]) (Gv:aB W9)=>xR (au (dN M)) (nt (dN M).natAbs) (dE M) (au (dN P)) (nt (dN P).natAbs) (dE P) Q 60000001 (by show dval (canon M) *dval (canon P)=Q;rw[bA,bA];exact hMQ) b 2 45 W9 nz iQ zd hbl Gv;have Dk:∀W,Bw w1 W->aB W:=λW h=>jB.out.below (aC bJ.out h);have Bd:=λW9 (hp:gT W9 w1.heap.size V X Z) (hz9:∀b,Z b->b<W9.heap.size/\b≠w1.heap.size) (iu:Bw w1 W9)=>auJ w1.heap.size j V cc B X Z sx mx ex W9 bB zo hxv dz zo hp hz9 (λW h=>Dk W (iu.trans h));rw[LR]at Bd;obtain⟨Fb,aj8,HTx,Cb,bR,oM,zR,HQ⟩:=lC qA Bd Dk Di hz1 hk1 tT hQ;have Cf:Hid (Bw w1 (wr.iterAt fP (bs l) (j+1))):=hb1;have Hc:Hid (ar (wr.iterAt fP (bs l) (j+1)) cB 45 (bu M)):=hc1;have hsi:wr.heap.size=(wr.iterAt fP (bs l) (j+1)).heap.size:=(Lib.iterAt_size wr fP (bs l) (j+1)).symm;obtain⟨bx,ox,LZ,x0,x1,x2⟩:=(Hx.out.below (aC bJ.out hb1)).num j TV mJ;have lbx:bx<w.heap.size:=(by subst LZ;exact Hx.out.lt (by intro h0;have:=congrArg List.length h0;rw[iE aV 3 (λ_=>rfl)]at this;simp at this;omega));have azx:=qI V xc j (j:Int) LZ bB rfl;have azy:=ud V xc j (j:Int) LZ bB rfl;have aqH:=aru V V j (j:Int) (rfl:(some ⟨w1.heap.size,0,none⟩:Option Addr)=_) bB rfl;rw[Nat.mul_one,Nat.zero_add]at aqH;have FC:Hid (aQ (wr.iterAt fP (bs l) (j+1)) bx (ox+j*3) [ag sx,.string (bs mx),af ex]):=jm x0 x1 x2;clear qA Bd Dk Di hz1 hk1 tT hQ hM LR hMQ uN Gs nz iQ hxv dz mJ hgr hch hc1 hb1 hg hgd hcc hP hc hz Ep hit LZ x0 x1 x2;generalize wr.iterAt fP (bs l) (j+1)=W7 at rH oM Cf Cb bR Hc FC hsi;have Hb:=hbz W7;obtain⟨ci,pj⟩:∃ci:Int,(cc:Int)=ci:=⟨_,rfl⟩;have JR:=aj pj;rw[pj]at rF;simp only[pj]at rH;have Tq:=aj8.out;simp only[pj]at Tq;have aj9:=aj Tq;clear pj Tq;obtain⟨ae,ai⟩:=qZ (Hc.an<|FC.an trivial);go_wp2_with fail;have hzd:∀b,Z b->b<W7.heap.size/\b≠w1.heap.size:=λb h=>by rcases HZo.out b h with h|h|h<;>omega
       obtain⟨Hc,FC,_⟩:=ae;obtain⟨c0,Rj,c1,Rk,c2,Rl⟩:=Hc.out.g3;obtain⟨xw0,xw1,xw2⟩:=FC.out.w3;refine fx (λw'=>aJ w' cB 0 (ag (au (dN M)))/\aJ w' cB 1 (.string (bs (nt (dN M).natAbs)))/\aJ w' cB 2 (af (dE M))/\aJ w' bx (ox+j*3) (ag sx)/\aJ w' bx (ox+j*3+1) (.string (bs mx))/\aJ w' bx (ox+j*3+2) (af ex)) (λi=>Nat.blt i 13) [(0,true),(1,true),(2,true),(3,true),(4,true),(5,true),(6,true),(7,true),(8,true),(9,true),(10,false),(11,false),(12,false),(13,false)] zk zk rfl zk zc ⟨c0,c1,c2,xw0,xw1,xw2⟩ ?_;iterate 10 (refine pT rfl rfl ?_ (by intro w' ⟨q0,q1,q2,q3,q4,q5⟩;go_simp;try with_reducible rfl);try simp only[UU])
       refine aN rfl rfl (λK hK=>?_);go_simp;with_reducible refine(aj9.out _ (Cb.out.below (Below.refl _ _).drew) (λb h=>(by simpa using hzd b h:b<W7.drew.heap.size/\b≠w1.heap.size)) Cf.out.drew).mono ?_
       rintro ex9 w8 ⟨rfl,Dj,vY⟩;have yz:=vY.size;have azS:W7.heap.size<=w8.heap.size:=yz;have AB:ar w8 cB 45 (bu M):=vY.blk (Hc.out.drew) (λh=>h.2 Yx.out);have hz8:=vY.blk bR.out.drew (λh=>h.2 Kz.out);have AP:=(vY.block fP (by show fP<W7.heap.size;omega) (λh=>h.2 Yy.out)).trans oM.out;have gg:=Cf.out.drew.trans (vY.below (by show w1.heap.size<=W7.heap.size;omega) (λb h=>h.1));have y0:=vY.cell (A:=W7.drew) xw0 (λh=>absurd h.1 zp);have y1:=vY.cell (A:=W7.drew) xw1 (λh=>absurd h.1 zp);have y2:=vY.cell (A:=W7.drew) xw2 (λh=>absurd h.1 zp);obtain⟨c0,Rj,c1,Rk,c2,Rl⟩:=AB.g3;obtain⟨JD,Ch,Yw,XE,gS⟩:=dY Dj AB hz8 AP gg;clear Dj AB hz8 AP gg vY Hc FC bR Cb Cf oM yz;refine hK _ _ (λ_=>⟨c0,c1,c2,y0,y1,y2⟩) ?_;try simp only[UU]
       refine aN rfl rfl (λK hK=>?_);go_simp;refine hK _ _ (λ_=>⟨aM c0,aM c1,aM c2,aM y0,aM y1,aM y2⟩) ?_;try simp only[UU]
       refine cg (λw9=>ar w9 w8.heap.size 45 [ag (au (dN M)),.string (bs (nt (dN M).natAbs)),af (dE M),ag (au (dN P)),.string (bs (nt (dN P).natAbs)),af (dE P)]/\Bw w8 w9) (by first|exact iw|exact iy) ?_;rintro w9 ⟨AG,iu⟩;have y0':=cell_later iu y0;have y1':=cell_later iu y1;have y2':=cell_later iu y2;obtain⟨zJ,Oh⟩:=aI AG iu;clear AG iu;refine aN rfl rfl (λK hK=>?_);go_simp;with_reducible refine(Fb.out _ _ zJ.out ((HTx.out _ gS.out).below Oh.out)).mono ?_
       rintro ex2 jl ⟨rfl,hq⟩;have mB:=aC Oh.out hq;have Su:=Ch.out.below mB;have z0':=cell_later hq y0';have z1':=cell_later hq y1';have z2':=cell_later hq y2';clear y0' y1' y2' hq;obtain⟨c0,Rj,c1,Rk,c2,Rl⟩:=Su.g3;have azU:=mB.size;obtain⟨aim,ahC,ak3⟩:=bL Su (JD.out.below mB) (Yw.out.below mB);have ajh:Hid (jl.heap[fP]?=some (.stringIter (bs l) (j+1))):=(mB.block fP zo).trans XE.out;have jU:Hid (Bw w1 jl):=gS.out.trans (mB.mono zo);clear Su mB JD Ch Yw XE gS zJ Oh;refine hK _ _ (λ_=>⟨c0,c1,c2,z0',z1',z2'⟩) ?_;try simp only[UU]
       refine aN rfl rfl (λK hK=>?_);go_simp;refine hK _ _ (λh=>absurd h zd) ?_;try simp only[UU]
       clear c0 c1 c2 Rj Rk Rl z0' z1' z2';have wy:=λu1 u2 u3=>rp (Y:=λb=>b=cB) (rp (Y:=λb=>b=cB) (rp (Y:=λb=>b=cB) (Chg.refl _ jl) cB 0 u1 rfl) cB 1 u2 rfl) cB 2 u3 rfl;refine cg (λmV=>mV.heap[fP]?=some (.stringIter (bs l) (j+1))/\gT mV w1.heap.size V X Z/\ar mV cB 45 (aV (canon Q))/\ar mV Wq.heap.size 45 (bu Ek)/\Bw w1 mV)
        ⟨((wy _ _ _).block fP zo zo).trans ajh.out,ahC.out.chg (wy _ _ _) zo (λb h _=>by subst h;exact Yx.out),((aim.out.set 0 _).set 1 _).set 2 _,(wy _ _ _).blk ak3.out zo,jU.out.trans ((wy _ _ _).below zo (λb h=>by omega))⟩ ?_
       rintro mV ⟨acL,aa3,abX,ad6,abH⟩;obtain⟨XC,ahD,ain,ak4,aid⟩:=dY acL aa3 abX ad6 abH;clear acL aa3 abX ad6 abH wy;simp only[bE];go_wp2_with fail;go_roundw;case rel=>exact⟨j+1,by omega,XC.out,ahD.out,by rw[HQ.out];exact ain.out,ak4.out,aid.out⟩
       case measure=>
        have SZ:mV.iterPos fP=j+1:=by simp[World.iterPos,XC.out]
        rw[zR.out,SZ];omega
     . obtain rfl:j=V:=by omega
       have hll:=Oj.out.1;have rH:∀ty,(Instr.next (.pointer (some ⟨fP,0,none⟩)) true ty).run Tryz.prog wr=_:=λty=>Lib.run_next_end_at wr fP (bs l) j ty hit (by rw[kP];have h:l.length=j:=hll;omega);obtain⟨M,hM⟩:=az (fU X cf l j);obtain⟨S,hS⟩:=az (E (k+1));have hst:=kL.out;have uN:=XM.out j (Nat.le_refl _);rw[hM]at uN hc;have Iq:Ek+M=S:=by rw[<-hS,hst,<-hM]
       have hes:=aiM.out;have nz:Fit 60005000 (dF M):=(uN.mono zo).fit zd;have hef:Fit 60005000 (dF Ek):=(hes.mono (by have:=HN.out;omega)).fit zd;have hadd:=λb W9 (hbl:ar W9 b 45 [ag (au (dN Ek)),.string (bs (nt (dN Ek).natAbs)),af (dE Ek),ag (au (dN M)),.string (bs (nt (dN M).natAbs)),af (dE M)]) (Gv:aB W9)=>xQ (au (dN Ek)) (nt (dN Ek).natAbs) (dE Ek) (au (dN M)) (nt (dN M).natAbs) (dE M) S 60005000 (by show dval (canon Ek)+dval (canon M)=S;rw[bA,bA];exact Iq) b 2 45 W9 hef nz zd hbl Gv;have Dk:∀W,Bw w1 W->aB W:=λW h=>jB.out.below (aC bJ.out h);obtain⟨ah5,rW,HS,HP0,Pq⟩:=dY hadd (Dk _ Ep) hS (hP.re (Z':=λb=>b=Wq.heap.size) (λb h=>.inl (by subst h;exact Kz.out))) Ep;have Hc:Hid (ar wr cB 45 (bu M)):=hc;have Hz:Hid (ar wr Wq.heap.size 45 (bu Ek)):=hz;have TZ:=Hz.out.lt;clear hadd Dk hS Iq hes nz hef hst uN hM hll hP hc hz Ep hit;have Hb:=hbz wr;obtain⟨ae,ai⟩:=qZ (Hz.an<|Hc.an trivial);have z1:wr.cell? ⟨Wq.heap.size,1,none⟩=some (.string (bs (nt (dN Ek).natAbs))):=ae.1.out.cell 1;have c1:wr.cell? ⟨cB,1,none⟩=some (.string (bs (nt (dN M).natAbs))):=ae.2.1.out.cell 1;have c2:wr.cell? ⟨cB,2,none⟩=some (af (dE M)):=ae.2.1.out.cell 2;have z2:wr.cell? ⟨Wq.heap.size,2,none⟩=some (af (dE Ek)):=ae.1.out.cell 2;have z0:wr.cell? ⟨Wq.heap.size,0,none⟩=some (ag (au (dN Ek))):=ae.1.out.cell 0;have c0:wr.cell? ⟨cB,0,none⟩=some (ag (au (dN M))):=ae.2.1.out.cell 0;have Z0:=z0;have Z1:=z1;have Z2:=z2;have D0:=c0;have D1:=c1;have D2:=c2;obtain⟨W4,ke,aG,ae,ai⟩:=bO wr (Hb.an ae) 45 [ag (au (dN Ek)),.string (bs (nt (dN Ek).natAbs)),af (dE Ek),ag (au (dN M)),.string (bs (nt (dN M).natAbs)),af (dE M)];go_wp2_with fail;refine aK ae (ah5.out _ _ ae.1.out (rW.out.below ae.2.1.out)) λw7 ae ai=>?_;have hs7:=ae.2.1.out.size;have ard:=Ko.out;have HP7:=aj (HP0.out.below ae.2.1.out);have rY:Hid (Bw w1 w7):=Pq.out.trans (ae.2.1.out.mono zo);have wy:=λu1 u2 u3=>rp (Y:=λb=>b=Wq.heap.size) (rp (Y:=λb=>b=Wq.heap.size) (rp (Y:=λb=>b=Wq.heap.size) (Chg.refl _ w7) Wq.heap.size 0 u1 rfl) Wq.heap.size 1 u2 rfl) Wq.heap.size 2 u3 rfl;have Dj:=λu1 u2 u3=>HP7.out.chg (wy u1 u2 u3) hkz (λb h _=>h);have gg:=λu1 u2 u3=>rY.out.trans ((wy u1 u2 u3).below zo (λb h=>by subst h;omega));obtain⟨JD,gS⟩:=aI Dj gg;clear wy Dj gg ard;go_wp2;go_roundw;case rel=>exact⟨k+1,by omega,by go_num,JD.out _ _ _,by rw[HS.out];exact((ae.2.2.1.out.set 0 _).set 1 _).set 2 _,gS.out _ _ _⟩
       case measure=>exact bf
  . obtain rfl:k=N:=by omega
    have Hr:Hid (ar wr (w.heap.size+1) 45 [ag false,.string ⟨#[]⟩,af 0]):=sD.out.below aP.out;have Hb:=eW;have hrl:=sD.out.lt;obtain⟨ae,ai⟩:=qZ (Hz.an<|Hr.an trivial);go_wp2;refine dG (aO wr (w.heap.size+1) 0 (bu Ek)) aR ?_;intro w9 hs0;have ae:=bD hs0 (Hb.an ae);simp only[bz,List.set]at ae;have ai:=qC ae;refine bodyPost_ret (v:=.tuple #[bN Ek,af 0]) (by simp[results,Tryz.results26,go_sem,ai]) rfl ⟨by rw[Wl.out],ae.1.out⟩
end Go.Proofs.YtpfgffadgkkedaaGreatDoor
namespace Go.Proofs.YtpfgffadgkkedaaGreatDoor
def Au (X:Nat->Dyadic)(n:Nat)(c:Dyadic)(l:Nat->Dyadic)(k:Nat)(hk:k<=n):bG (fp X n) (cW n c l k)=c+dI (λb=>l b*X b) k:=by
 unfold cW;rw[xU];induction k with
 | zero=>
   show dval (canon c) *fU X 1 (lJ n) n+0=c+dI _ 0
   rw[bA,as9];show c*1+0=c+0;grind
 | succ k ih=>
   rw[Uh,Ar,ih zo];show _+(dval (canon (l k)) *fU X 1 (cF n k) n+0)=_
   rw[bA,ae0 X n k n (Nat.le_refl _) zo,if_pos zo];show c+dI _ k+(l k*X k+0)=c+(dI _ k+l k*X k)
   grind
def Ro (n:Nat)(hn:1<=n)(aZ:n<=4)(P:Nat->Nat->Dyadic)(X:Nat->Dyadic)(j:Nat)(hj:j<=n):ml X n (jL n P n j) (jL n P n j).length=ig n P X j:=by
 rw[Lu X n _ _ (Nat.le_refl _),List.take_length];unfold jL;by_cases h:j=0
 . subst h;rw[if_pos rfl];unfold mn;rw[Au X n _ _ n (Nat.le_refl _),<-axq n hn aZ P X n (Nat.le_refl _),axt n hn aZ]
 . rw[if_neg h];unfold pI;rw[Au X n _ _ n (Nat.le_refl _)];have h1:=agM n P X (j-1) n;have h2:=Jp n hn aZ P X (j-1) zo;rw[show j-1+1=j by omega]at h2;rw[<-h2,h1];rfl
end Go.Proofs.YtpfgffadgkkedaaGreatDoor
namespace Go.Proofs.YtpfgffadgkkedaaGreatDoor
open Go.RowKit
attribute [local go_sem ↓] Go.wp_at_zero Go.wp_at_succ
def cN (S:Nat->Bool):Nat->List Nat
 |0=>[0]
 |i+1=>if S i then(cN S i).dropLast++[(cN S i).getLastD 0+1,(cN S i).getLastD 0+1]else(cN S i).dropLast
def un (S:Nat->Bool)(n:Nat):Bool:=decide (n<=4096)&&((List.range n).all (λi=>decide (cN S i≠[]))&&decide (cN S n=[]))
def axz {S:Nat->Bool}{n:Nat}(h0:n<=4096)(h1:∀i,i<n->cN S i≠[])(h2:cN S n=[]):un S n=true:=by unfold un;simp only[Bool.and_eq_true,decide_eq_true_eq,List.all_eq_true,List.mem_range];exact⟨h0,h1,h2⟩
def agP {S:Nat->Bool}{n:Nat}(h:un S n=true):n<=4096/\(∀i,i<n->cN S i≠[])/\cN S n=[]:=by unfold un at h;simp only[Bool.and_eq_true,decide_eq_true_eq,List.all_eq_true,List.mem_range]at h;exact h
def axy {S:Nat->Bool}{n:Nat}(h:4096<n\/(∃i,i<n/\cN S i=[])\/cN S n≠[]):un S n=false:=by
 rw[Bool.eq_false_iff];intro h2;obtain⟨h3,h4,h5⟩:=agP h2;rcases h with h|⟨i,h6,h7⟩ |h
 . omega
 . exact h4 i h6 h7
 . exact h h5
def ZB (S:Nat->Bool)(i:Nat):(cN S i).length<=i+1/\(∀d∈cN S i,d<=i)/\(cN S i).getLastD 0<=i:=by
 induction i with
 |zero=>exact⟨Nat.le_refl _,λd hd=>by simp[cN]at hd;omega,Nat.le_refl _⟩
 | succ i ih=>
   obtain⟨h1,h2,h3⟩:=ih;have hm:(cN S (i+1)).length<=i+1+1/\∀d∈cN S (i+1),d<=i+1:=by
    rw[cN];split
    . refine⟨by simp;omega,λd hd=>?_⟩;rw[List.mem_append]at hd;rcases hd with hd|hd
      . have:=h2 d (List.dropLast_subset _ hd);omega
      . simp only[List.mem_cons,List.not_mem_nil,or_false,or_self]at hd;omega
    . exact⟨by simp;omega,λd hd=>by have:=h2 d (List.dropLast_subset _ hd);omega⟩
   refine⟨hm.1,hm.2,?_⟩;rw[List.getLastD_eq_getLast?];cases hg:(cN S (i+1)).getLast? with
   |none=>simp
   |some d=>exact hm.2 d (List.mem_of_getLast? hg)
def pX (l:List Nat):List Value:=l.map λd:Nat=>af (d:Int)
def an4 {l:List Nat}{L:Nat}(hl:l.length=L+1):(pX l)[L]?=some (af (l.getLastD 0:Nat)):=by
 have e:l.getLastD 0=l[L]'zo:=by
  have e0:l.length-1=L:=by omega
  rw[List.getLastD_eq_getLast?,List.getLast?_eq_getElem?,e0,List.getElem?_eq_getElem zo];rfl
 rw[e];unfold pX;rw[List.getElem?_map,List.getElem?_eq_getElem zo];rfl
def an3 {l:List Nat}{L:Nat}(hl:l.length=L+1):(pX l).take (L*1)=pX l.dropLast:=by unfold pX;rw[Nat.mul_one,<-List.map_take,List.dropLast_eq_take,hl,Nat.add_sub_cancel]
def KW (N:Nat)(w w':World):Prop:=Chg (λb=>N<=b/\∃cur,w.heap[b]?=some (.cells cur 3)) w w'
def DW (N:Nat)(w w':World):Prop:=Chg (λb=>¬(N<=b/\((∃cur,w.heap[b]?=some (.cells cur 3))\/∃cur,w.heap[b]?=some (.cells cur 127)))) w w'
def KW.of_below {N:Nat}{w w':World}(h:Bw w w'):KW N w w':=Chg.of_below h
def KW.trans {N:Nat}{A B C:World}(h:KW N A B)(k:KW N B C):KW N A C:=by
 refine Chg.trans h k ?_;rintro b ⟨h1,cur,h2⟩;by_cases hb:b<A.heap.size
 . by_cases hy:N<=b/\∃cur,A.heap[b]?=some (.cells cur 3)
   . exact .inl hy
   . rw[Chg.block h b hb hy]at h2;exact .inl ⟨h1,cur,h2⟩
 . exact .inr zo
def KW.aBc {N n:Nat}{w w':World}{v:Value}{xs:List Value}(h:w.ownsRow N 3 1 v n xs)(hg:w.grownBy w' v.ownBlock):KW N w w':=
 Chg.aBi hg λb hb=>by obtain⟨cur,t,h1,rfl⟩:=vd h b hb;exact⟨cK h b hb,cur,h1⟩
def DW.own {N n:Nat}{w w':World}{v:Value}{xs:List Value}(h:w.ownsRow N 3 1 v n xs)(k:DW N w w'):w'.ownsRow N 3 1 v n xs:=
 BI h k λb hb hy=>by obtain⟨cur,t,h1,rfl⟩:=vd h b hb;exact hy ⟨cK h b hb,.inl ⟨cur,h1⟩⟩
def DW.node {N b:Nat}{w w':World}{cs:List Value}(h:ar w b 127 cs)(hb:N<=b)(k:DW N w w'):ar w' b 127 cs:=
 Chg.blk k h λhy=>hy ⟨hb,.inr ⟨_,h⟩⟩
def WkP (R:Nat->World->Prop)(n:Nat)(F:Bool)(e:Ending)(w':World):Prop:=e=.returned (ag F)/\(F=true->R n w')/\∃i,R i w'
def axv (S:Nat->Bool)(ns:List Nd)(n cap:Nat)(a:Option Addr)(gf:Nat)(lb:Array Value)(R:Nat->World->Prop)(w:World)(hn:ns.length=n)(hS:∀k (h:k<ns.length),S k=(ns[k].sp !=0))
 (hAt:∀i W,R i W->At W a (ns.flatMap oD))
 (hR:∀i W W',R i W->KW w.heap.size W W'->R i W')
 (eg:∀args w,(callFunc gf args).run Tryz.prog w=.ok (.enter gf args) w)
 (hdo:n<=4096->∀i,i<n->cN S i≠[]->∀W,w.heap.size<=W.heap.size->R i W->Cl gf (#[af (i:Int),af ((cN S i).getLastD 0:Nat)]++lb) W λe w'=>e=.returned (ag true)/\R (i+1) w'/\DW w.heap.size W w')
 (h0:R 0 w):
 Cl 94 #[.slice a n cap,.func (.func gf) #[] lb] w (WkP R n (un S n)):=by
 obtain⟨i0,hi,hz0,hz1,hz2⟩:=info_parts (show(Tryz.prog.info? 3).map (λi=>(i.zero,i.size,i.bytes))=some (some (af 0),1,8)by kernel_rfl);obtain⟨Hi,cm,bR,bZ,Hn,HS,HAt,HR,lN,Hdo,H0⟩:=aev hi hz0 hz1 hz2 hn hS hAt hR eg hdo h0;clear hi hz0 hz1 hz2 hn hS hAt hR eg hdo h0;obtain⟨F,hF⟩:=az (un S n);have pR:Hid ((4096<n\/(∃i,i<n/\cN S i=[])\/cN S n≠[])->F=false):=λh=>by rw[<-hF];exact axy h
 have Ae:Hid (n<=4096->(∀i,i<n->cN S i≠[])->cN S n=[]->F=true):=λh1 h2 h3=>by rw[<-hF];exact axz h1 h2 h3
 rw[hF];clear hF;have Hb:=hbz w;by_cases g:4096<n
 . have gi:(4096:Int)<(n:Int):=by omega
   obtain rfl:=pR.out (.inl g);go_enter Tryz.func94,Tryz.ntmps94;go_wp2;refine bodyPost_ret (results_tmp rfl _ _ _) rfl ⟨rfl,λh=>(by cases h),0,H0.out⟩
 have gi:¬(4096:Int)<(n:Int):=by omega
 go_enter Tryz.func94,Tryz.ntmps94;obtain⟨W,bX,aG,ae,ai⟩:=bO w (Hb.an trivial) 3 [af 0];have hW0:=HR.out 0 w W H0.out (KW.of_below ae.2.1.out);have ho0:=Ni (base:=w.heap.size) (n:=1) (size:=1) ae.1.out (Nat.le_refl _) rfl zd;have adE:=ae.2.1.out.size;clear ae;go_wp2_with fail;go_loopw[5,15] (λs5 x wr=>∃(k:Nat) (v:Value),k<=n/\x=af (k:Int)/\v=s5/\wr.ownsRow w.heap.size 3 1 v (cN S k).length (pX (cN S k))/\(∀j,j<k->cN S j≠[])/\R k wr/\w.heap.size<=wr.heap.size) (λ_ x _=>n-(intOf x).toNat);case atStart=>exact⟨0,_,Nat.zero_le _,rfl,rfl,ho0,λj h=>absurd h (Nat.not_lt_zero _),hW0,adE⟩
 case round=>
  clear hW0 ho0 adE;obtain⟨k,v,hk,rfl,rfl,ho,hne,hr,hsz⟩:=hrel;obtain⟨Ho,pQ,Hr⟩:=bL ho hne hr;clear ho hne hr;by_cases hlt:k<n
  . have eY:k<ns.length:=by rw[Hn.out];exact hlt
    obtain⟨sp,s,m,e,V,a1,n1,c1,hx⟩:∃sp s m e V a1 n1 c1,ns[k]=⟨sp,(s,m,e),V,a1,n1,c1⟩:=⟨_,_,_,_,_,_,_,_,rfl⟩;obtain⟨b,o,hab,hp⟩:=(HAt.out k wr Hr.out).node k eY hx;have oX:=HS.out k eY;rw[hx]at oX;have vD:Hid (S k=(sp !=0)):=oX;have aU:=MQ n cap k (k:Int) hab hlt rfl;have Hp:=aj hp;have hle:=ZB S k;have sw:=aj hle;clear hp hx hab oX hle;by_cases hD0:cN S k=[]
    . obtain rfl:=pR.out (.inr (.inl ⟨k,hlt,hD0⟩));have jR:=Ho.out;rw[hD0]at jR;obtain⟨a5,c5,rfl,_,_⟩:=cz jR;simp only[List.length_nil]at Ho;clear jR Ho;have Hb:=hbz wr;obtain⟨ae,ai⟩:=qZ (Hp.an trivial);go_wp2;refine bodyPost_ret (results_tmp rfl _ _ _) rfl ⟨rfl,λh=>(by cases h),k,HR.out k wr _ Hr.out (KW.of_below zl)⟩
    . obtain⟨L,hL⟩:∃L,(cN S k).length=L+1:=⟨(cN S k).length-1,by have:=List.length_pos_iff.2 hD0;omega⟩;have xB:=Ho;rw[hL]at xB;have hlast:=an4 hL;have hdrop:=an3 hL;have hst:cN S (k+1)=if S k then(cN S k).dropLast++[(cN S k).getLastD 0+1,(cN S k).getLastD 0+1]else(cN S k).dropLast:=by rw[cN]
      have Mx:∀j,j<k+1->cN S j≠[]:=λj hj=>by
       by_cases hjk:j=k
       . rw[hjk];exact hD0
       . exact pQ.out j zo
      have hll:(cN S k).dropLast.length=L:=by rw[List.length_dropLast,hL,Nat.add_sub_cancel]
      have tK:=sw.out.2.2;have hLk:L+1<=k+1:=by rw[<-hL];exact sw.out.1
      have abZ:=λW hW hr=>Hdo.out zo k hlt hD0 W hW hr;have SU:L<(pX (cN S k)).length:=by unfold pX;rw[List.length_map,hL];omega
      generalize (cN S k).getLastD 0=d at*;generalize LJ:(cN S k).dropLast=DL at*;obtain⟨g5,c5,rfl,iN,hgW,hLc⟩:=rO xB.out (Nat.succ_pos L);have hcm:c5<=9223372036854775807:=by
       rcases xB.out.2 with⟨h1,_⟩ |⟨g',cap',cur,h1,hb,hg,h4,h5,_⟩
       . simp at h1
       . simp only[Value.slice.injEq]at h1;obtain⟨_,_,rfl⟩:=h1;unfold maxLen at h5;omega
      have hcl:=mO xB.out L SU;rw[List.getElem?_eq_getElem SU]at hlast;rw[Option.some.inj hlast]at hcl;have aqE:=ID (L+1) c5 L (L:Int) (rfl:(some ⟨g5,0,none⟩:Option Addr)=_) zo rfl;simp only[Nat.mul_one,Nat.zero_add]at aqE;have TP:IntKind.i64.wrap ((L:Int)+1-1)=(L:Int):=by rw[IntKind.wrap_i64];omega
      have arl:IntKind.i64.wrap (L:Int)=(L:Int):=by rw[IntKind.wrap_i64];omega
      have hwd:IntKind.i64.wrap ((d:Int)+1)=(d:Int)+1:=by rw[IntKind.wrap_i64];omega
      have pZ:((L:Int)+1==0)=false:=by simp;omega
      have Hy:Hid (aQ wr g5 L [af (d:Int)]):=λj hj=>by
       obtain rfl:j=0:=by simp at hj;omega
       exact hcl
      obtain⟨aip,bK,XN,Kb,aiF⟩:=dY abZ hst Mx hll hdrop;have pN:=lN.out;clear abZ hst Mx hll hlast hdrop SU Ho LJ hL hD0 hcl;have Hb:=hbz wr;obtain⟨ae,ai⟩:=qZ (Hp.an<|Hy.an trivial);have aG:=qL (Hb.an ae);go_wp2_with fail;refine cX wr (Hb.an ae) 127 [af sp,ag s,ah m,af e,af V,.slice a1 n1 c1] λW4 aG ae ai=>?_;have zZ:=aj (HR.out k wr W4 Hr.out (KW.of_below ae.2.1.out));have jR:=ownsRow_below xB.out ae.2.1.out;have qD:=Nj jR L zo;rw[aiF.out]at qD;have Fg:=aj qD;have Yn:=ae.1;have TE:=ae.2.1.out.size;clear qD jR xB;go_wp2_with fail;refine(aip.out W4 zo zZ.out).mono ?_;rintro e9 w5 ⟨rfl,DV,Mg⟩;have adb:=DW.own Fg.out Mg;have ML:=DW.node Yn.out zo Mg;have hs5:=Mg.size;obtain⟨Ct,XT,Hu⟩:=bL DV adb ML;clear DV Mg adb ML Fg Yn ae ai;have Hb:=hbz w5;obtain⟨ae,ai⟩:=qZ (Hu.an trivial);by_cases hsp:sp=0
      . have lu:(sp==0)=true:=by simpa using hsp
        have MI:(sp !=0)=false:=by simpa using hsp
        have hst:=bK.out;rw[vD.out,MI,if_neg zd]at hst;have kL:=aj hst;clear hst;go_wp2;go_roundw;case rel=>exact⟨k+1,_,by omega,by go_num,rfl,by rw[kL.out,Kb.out];exact XT.out,XN.out,Ct.out,by omega⟩
        case measure=>exact bf
      . have lu:(sp==0)=false:=by simpa using hsp
        have MI:(sp !=0)=true:=by simpa using hsp
        have hst:=bK.out;rw[vD.out,MI,if_pos rfl]at hst;have kL:=aj hst;clear hst;obtain⟨W7,Ay,aG,ae,ai⟩:=bO w5 (Hb.an ae) 3 [af ((d:Int)+1),af ((d:Int)+1)];have cj:=ownsRow_below XT.out ae.2.1.out;have jd:=ae.2.1.out.size;have hnews:=fN ae.1.out;have Ip:=HR.out (k+1) w5 W7 Ct.out (KW.of_below ae.2.1.out);go_wp2_with (at_builtin;refine wpList_append_own_at _ rfl _ _ 28 rfl w.heap.size 3 i0 _ 1 8 Tryz.underlying28 Hi.out cm.out bR.out bZ.out rfl zd (.slice (some ⟨g5,0,none⟩) L c5) L (pX DL) rfl cj ⟨w5.heap.size,0,none⟩ 2 2 [af ((d:Int)+1),af ((d:Int)+1)] rfl rfl hnews zy zx zo zo ?_;intro v' w8 dX bj _ _);have hr8:=HR.out (k+1) W7 w8 Ip (KW.aBc cj bj);have yz:=bj.size;have eZ:w8.ownsRow w.heap.size 3 1 v' (cN S (k+1)).length (pX (cN S (k+1))):=by
         rw[kL.out,List.length_append,Kb.out];have e9:pX (DL++[d+1,d+1])=pX DL++[af ((d:Int)+1),af ((d:Int)+1)]:=by unfold pX;rw[List.map_append];simp
         rw[e9];exact dX
        obtain⟨Aa,Cr⟩:=aI hr8 eZ;clear cj hnews Ip dX bj hr8 eZ;go_wp2;go_roundw;case rel=>exact⟨k+1,_,by omega,by go_num,rfl,Cr.out,XN.out,Aa.out,by omega⟩
        case measure=>exact bf
  . obtain rfl:k=n:=by omega
    by_cases hD0:cN S k=[]
    . obtain rfl:=Ae.out zo pQ.out hD0;have jR:=Ho.out;rw[hD0]at jR;obtain⟨a5,c5,rfl,_,_⟩:=cz jR;clear jR;go_wp2;refine bodyPost_ret (results_tmp rfl _ _ _) rfl ⟨rfl,λ_=>Hr.out,k,Hr.out⟩
    . obtain rfl:=pR.out (.inr (.inr hD0));obtain⟨L,hL⟩:∃L,(cN S k).length=L+1:=⟨(cN S k).length-1,by have:=List.length_pos_iff.2 hD0;omega⟩;have jR:=Ho.out;rw[hL]at jR;obtain⟨a5,c5,rfl,_,_⟩:=cz jR;have pZ:((L:Int)+1==0)=false:=by simp;omega
      clear jR;go_wp2;refine bodyPost_ret (results_tmp rfl _ _ _) rfl ⟨rfl,λh=>(by cases h),k,Hr.out⟩
end Go.Proofs.YtpfgffadgkkedaaGreatDoor
