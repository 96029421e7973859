/- Package calc: Eval. -/
import Derived.Test.YtpfgffadgkkedaaGreatDoorZ7
import Derived.Test.YtpfgffadgkkedaaGreatDoorZ15
import Derived.Test.YtpfgffadgkkedaaGreatDoorZ16
import Derived.Test.YtpfgffadgkkedaaGreatDoorZ14
import Derived.Lib.OthersKept
import Derived.Test.YtpfgffadgkkedaaGreatDoorZ21
import Derived.Test.YtpfgffadgkkedaaGreatDoorZ9
set_option linter.all false
set_option maxRecDepth 100000
set_option maxHeartbeats 16000000
namespace Go.Proofs.YtpfgffadgkkedaaGreatDoor
open Go.RowKit
attribute [local go_sem ↓] Go.wp_at_zero Go.wp_at_succ
def alF (w:World)(k:Nat)(s:ByteArray)(pos:Nat):w.grownBy (w.iterAt k s pos) (some k):=
 ⟨rfl,rfl,rfl,by rw[Lib.iterAt_size];exact Nat.le_refl _,λi _ hne=>Lib.iterAt_other w k i s pos (λh=>hne (by rw[h]))⟩
def Tryz.axb :(Tryz.prog.info? 124).map (λi=>(i.zero,i.size,i.bytes))=some (some (.agg #[.slice none 0 0]),1,24):=by kernel_rfl
def aoD (c:Int)(n:Nat)(hc:c=n)(h:n<=1048576)(w:World):
 (Instr.makeSlice 122 (af c) (af c)).run Tryz.prog w=.ok (.slice (some ⟨w.heap.size,0,none⟩) n n) (w.alloc (.cells (List.replicate n (.slice none 0 0)).toArray 124)):=by
 subst hc;obtain⟨i0,hi,hz0,hz1,hz2⟩:=info_parts Tryz.axb;rw[run_make (P:=Tryz.prog) w 122 124 i0 _ Tryz.underlying122 hi hz0 .i64 .i64 n n zo zo (by rw[hz2];omega) zo];simp only[Int.toNat_natCast,hz1];congr 3;apply Array.ext';refine List.ext_getElem (by simp[madeCells]) (λi h1 h2=>?_);simp[madeCells];rw[show i% (Value.agg #[Value.slice none 0 0]).cells.size=0 from Nat.mod_one i];rfl
def gj.new {W:World}{kb n:Nat}(X:Nat->Dyadic)(Z:Nat->Prop)(h:ar W kb 124 (List.replicate n (.slice none 0 0))):gj W kb n X Z:=
 ⟨_,λ_=>0,List.length_replicate,h,λi hi=>⟨Nat.zero_le _,by rw[List.getElem_replicate];exact World.ownsRow_nil _ _ _ _⟩,λi j hi _ g e=>(by rw[List.getElem_replicate]at e;cases e),λi hi g e=>(by rw[List.getElem_replicate]at e;cases e)⟩
def akW (V:Nat)(a:Option Addr)(cap N:Nat)(ts:List Trm)(xa:Option Addr)(xc:Nat)(xs:List Raw)(B C:Nat)(w:World)(hN:ts.length=N)(hX:xs.length=V)(hf:dJ V C ts)(ha:At w a (ts.flatMap aH))(hx:At w xa (xs.flatMap aY))(cS:∀x∈xs,Fit B x)(hB:B<=20000)(hC:C<=10000000)(hT:aB w):
 Cv 26 #[.agg #[af (V:Int),.slice a N cap],.slice xa V xc] w (.tuple #[bK (mH (eT xs) V ts N),af 0]):=by
 obtain⟨⟨hg,hm,hl4,hV⟩,hfit⟩:=hf
 have hpc:=λW (hW:Bw w W)=>Ba (V:Int) a cap N ts W hN zo (ha.below hW) (λt ht=>⟨by
  have h:=hm t ht;unfold bZ at h;simp only[Bool.and_eq_true,decide_eq_true_eq]at h
  omega,(hfit t ht).1⟩) (hT.below hW)
 rw[JI ⟨hg,hm,hl4,hV⟩]at hpc;have hby:∀t∈ts,t.1.length=V/\∀c∈t.1,c.toNat<=127:=λt ht=>by have h:=hm t ht;unfold bZ at h;simp only[Bool.and_eq_true,decide_eq_true_eq,List.all_eq_true]at h;exact⟨by omega,h.1⟩
 have dR:∀j,j<V->Sm B (eT xs j):=λj hj=>ads hX cS j hj;obtain⟨D,hD⟩:=az (C+V* (127*B+1));have hD9:D<=60000000:=by have h1:V* (127*B+1)<=12* (127*20000+1):=Nat.mul_le_mul hV zo;omega
 have vz:∀(k:Nat) (hk:k<ts.length) j,j<=V->Sm D (fx (eT xs) (dval ts[k].2) ts[k].1 j):=λk hk j hj=>by refine(abn (hfit _ (List.getElem_mem hk)).2 (hby _ (List.getElem_mem hk)).2 j (λi hi=>dR i zo)).mono ?_;have h1:j* (127*B+1)<=V* (127*B+1):=Nat.mul_le_mul_right _ hj;omega
 have hgd:∀(k:Nat) (hk:k<ts.length),ts.getD k zT=ts[k]:=λk hk=>by simp[List.getD_eq_getElem?_getD,hk]
 have hes:=λk (hk:k<=ts.length)=>Wh (X:=eT xs) (n:=V) (ts:=ts) (λk hk=>by rw[hgd k hk];exact vz k hk V (Nat.le_refl _)) k hk;have hst:∀(k:Nat) (hk:k<ts.length),mH (eT xs) V ts (k+1)=mH (eT xs) V ts k+fx (eT xs) (dval ts[k].2) ts[k].1 V:=λk hk=>by rw[mH,hgd k hk]
 have PQ:∀j (hj:j<xs.length),dval xs[j]=eT xs j:=λj hj=>(yA xs j hj).symm;have hgo:∀(k:Nat) (hk:k<ts.length),ts[k].2=canon (dval ts[k].2):=λk hk=>(hg.2 _ (List.getElem_mem hk)).2;have hmk:=aoD (V:Int) V rfl zo;have Xa:N<=4096:=by omega
 obtain⟨X,XA⟩:=az (eT xs);obtain⟨E,hE⟩:=az (mH X V ts);have WO:E 0=0:=by rw[<-hE];rfl
 rw[XA]at vz hst PQ hes⊢;rw[hE]at hst hes⊢;obtain⟨HN,HX,sF,Ha,Hx,ie,kK,LL,su,Hms,Hes,bE⟩:=gN hN hX hfit ha hx cS hT hpc hby vz hes hst;obtain⟨Hxr,HE0,Lq⟩:=bM PQ WO hgo;clear hN hX hfit ha hx cS hT hpc hby vz hes hst PQ WO hgo hgd dR hD hE XA hm hg hl4;obtain⟨W,bX,ae,ai⟩:=jR w 41 [af (V:Int),.slice a N cap] 45 [ag false,.string ⟨#[]⟩,af 0];go_enter Tryz.func26,Tryz.ntmps26;go_wp2_with fail;refine aJ ae (LL.out _ ae.1.out) λw1 ae ai=>?_;have p1:w1.cell? ⟨w.heap.size,1,none⟩=some (.slice a N cap):=ae.2.1.out.cell 1;have p0:w1.cell? ⟨w.heap.size,0,none⟩=some (af (V:Int)):=ae.2.1.out.cell 0;have P0:=p0;have P1:=p1;have szw:=ae.1.out.size;have bB:=ae.1;have yY:=ae.2.2.1;have HK:Hid (gU w1 w1):=Below.refl _ _;obtain⟨Wq,Og⟩:=az (w1.alloc (.cells (Array.replicate V (.slice none 0 0)) 124));have Hq:Hid (ar Wq w1.heap.size 124 (List.replicate V (.slice none 0 0))):=by have h:=ar.new w1 124 (List.replicate V (.slice none 0 0));rw[List.toArray_replicate,Og]at h;exact h
 have XZ:Bw w1 Wq:=by rw[<-Og];exact zl
 have xV:Wq.heap.size=w1.heap.size+1:=by rw[<-Og];simp
 obtain⟨ae,ai⟩:=qX XZ (HK.an ae);skip
 have FT:=aj xV;clear XZ xV;have HL:Hid (gU Wq Wq):=Below.refl _ _;obtain⟨W2,kP,aG,ae,ai⟩:=cg Wq (HL.an ae) 45 [ag false,.string ⟨#[]⟩,af 0];replace Hq:=aj (Hq.out.below ae.2.1.out);have Sq:Hid (Bw w1 W2):=ae.2.2.1.out;go_wp2_with fail;have jC:=ae.2.2.2.1;have hkz:w1.heap.size≠Wq.heap.size:=by have:=FT.out;omega
 have hwk:w.heap.size<=w1.heap.size:=by omega
 have pI:=ae.2.2.2.2.1;have LQ:=ae.2.2.2.2.2.1;go_loopw[32] (λx wr=>∃k:Nat,k<=N/\x=af (k:Int)/\gj wr w1.heap.size V X (λb=>b=Wq.heap.size)/\ar wr Wq.heap.size 45 (aY (canon (E k)))/\Bw w1 wr) (λx _=>N-(intOf x).toNat);case atStart=>exact⟨0,Nat.zero_le _,rfl,gj.new X _ Hq.out,by rw[HE0.out];exact ae.1.out,Sq.out⟩
 case round=>
  clear Hq Sq;obtain⟨k,hk,rfl,hP,hz,pb⟩:=hrel;obtain⟨HP,aO,dG⟩:=bM hP pb (aC bB.out pb);clear hP pb;obtain⟨Ek,NI⟩:=az (E k);rw[NI]at hz;have Hz:Hid (ar wr Wq.heap.size 45 (bo Ek)):=hz;have Sk:=aj NI;clear hz NI;have gQ:=aO.out.size;have hzl:=Hz.out.lt;by_cases hlt:k<N
  . have hk2:k<ts.length:=by rw[HN.out];exact hlt
    obtain⟨l,cf,hx⟩:∃l cf,ts[k]=(l,au (dN cf),nt (dN cf).natAbs,dE cf):=⟨ts[k].1,dval ts[k].2,by rw[Prod.ext_iff];exact⟨rfl,Lq.out k hk2⟩⟩;have hc0:dval ts[k].2=cf:=by rw[hx];exact bD cf
    obtain⟨b,o,hab,bJ⟩:=(Ha.out.below dG.out).term k hk2 hx;have aQ:=fW N cap k (k:Int) hab hlt rfl;have hby:=su.out _ (List.getElem_mem hk2);have vz:=λj (hj:j<=V)=>Hms.out k hk2 j hj;have hst:=bE.out k hk2;have hes:=Hes.out k zo;rw[hx]at hby;rw[hc0,hx]at vz hst;rw[Sk.out]at hes hst;have Ht:Hid (aR wr b (o+k*4) [.string (bs l),ag (au (dN cf)),.string (bs (nt (dN cf).natAbs)),af (dE cf)]):=bJ;obtain⟨KG,TR,nQ,afe⟩:=bU hby vz hst hes;clear bJ hby vz hst hes hx hc0 hab;have Hb:=hbz wr;obtain⟨ae,ai⟩:=qZ (Ht.an<|Hz.an trivial);have t3:wr.cell? ⟨b,o+k*4+3,none⟩=some (af (dE cf)):=ae.1.out.cell 3 zm;have t2:wr.cell? ⟨b,o+k*4+2,none⟩=some (.string (bs (nt (dN cf).natAbs))):=ae.1.out.cell 2 zm;have t1:wr.cell? ⟨b,o+k*4+1,none⟩=some (ag (au (dN cf))):=ae.1.out.cell 1 zm;have t0:wr.cell? ⟨b,o+k*4,none⟩=some (.string (bs l)):=ae.1.out.cell 0 zm;have T0:=t0;have T1:=t1;have T2:=t2;have T3:=t3;obtain⟨W4,mR,aG,ae,ai⟩:=cg wr (Hb.an ae) 111 [.string (bs l),ag (au (dN cf)),.string (bs (nt (dN cf).natAbs)),af (dE cf)];have u1:W4.cell? ⟨wr.heap.size,1,none⟩=some (ag (au (dN cf))):=ae.1.out.cell 1;have u0:W4.cell? ⟨wr.heap.size,0,none⟩=some (.string (bs l)):=ae.1.out.cell 0;have u3:W4.cell? ⟨wr.heap.size,3,none⟩=some (af (dE cf)):=ae.1.out.cell 3;have u2:W4.cell? ⟨wr.heap.size,2,none⟩=some (.string (bs (nt (dN cf).natAbs))):=ae.1.out.cell 2;have V0:=u0;have V1:=u1;have V2:=u2;have V3:=u3;have hs4:=ae.2.1.out.size;obtain⟨W5,uW,aG,ae,ai⟩:=cg W4 ae 45 (bo cf);have hs5:=ae.2.2.1.out.size;have hcl:=ae.1.out.lt;have TD:Hid ((W5.iter (bs l) 0).heap[W5.heap.size]?=some (.stringIter (bs l) 0)):=World.iter_heap W5 (bs l) 0;have rM:Bw W5 (W5.iter (bs l) 0):=zl
    have SF:Hid (gj (W5.iter (bs l) 0) w1.heap.size V X (λb=>b=Wq.heap.size\/b=W4.heap.size\/b=W5.heap.size)):=((HP.out.re (Z':=λb=>b=Wq.heap.size\/b=W4.heap.size\/b=W5.heap.size) (λb h=>by
     rcases h with h|h|h
     . exact .inl h
     . right;omega
     . right;omega)).below (ae.2.2.1.out.mono (Nat.le_refl _))).below rM
    obtain⟨UF,Fp⟩:=aI (ae.2.2.2.2.1.out.below rM) (ae.1.out.below rM);have Ut:Hid (Bw w1 (W5.iter (bs l) 0)):=(aC aO.out ae.2.2.1.out).trans (rM.mono zo);clear rM;obtain⟨fh,YO⟩:∃i,W5.heap.size=i:=⟨_,rfl⟩;obtain⟨cB,hcB⟩:∃i,W4.heap.size=i:=⟨_,rfl⟩;obtain⟨Z,hZ⟩:∃Z:Nat->Prop,(λb=>b=Wq.heap.size\/b=cB\/b=fh)=Z:=⟨_,rfl⟩;have hzz:Z Wq.heap.size:=by rw[<-hZ];exact .inl rfl
    have hzc:Z cB:=by rw[<-hZ];exact .inr (.inl rfl)
    have hzi:Z fh:=by rw[<-hZ];exact .inr (.inr rfl)
    have hzo:∀b,Z b->b=Wq.heap.size\/b=cB\/b=fh:=λb h=>by rw[<-hZ]at h;exact h
    have cF:w1.heap.size<cB:=by have:=aO.out.size;omega
    have hcz:cB≠Wq.heap.size:=by omega
    have hik:w1.heap.size<fh:=by omega
    have hic:cB<fh:=by omega
    have hiz:Wq.heap.size<fh:=by omega
    obtain⟨HZo,UG,UD,UE⟩:=bU hzo hzz hzc hzi;have NR:=SF.out;have mS:=Fp.out;have OE:=TD.out;rw[hcB,YO,hZ]at NR;rw[hcB]at mS;rw[YO]at OE;obtain⟨SG,Ta,TE⟩:=bM NR mS OE;clear SF Fp TD NR mS OE hZ hzo hzz hzc hzi;go_wp2_with fail;obtain⟨wo,hwo⟩:∃wo,wo=wr:=⟨_,rfl⟩;subst hwo;go_loopw[] (λwr=>∃j:Nat,j<=V/\wr.heap[fh]?=some (.stringIter (bs l) j)/\gj wr w1.heap.size V X Z/\ar wr cB 45 (aY (canon (fx X cf l j)))/\ar wr Wq.heap.size 45 (bo Ek)/\Bw w1 wr) (λwr=>V-wr.iterPos fh);case atStart=>exact⟨0,Nat.zero_le _,TE.out,SG.out,Ta.out,UF.out,Ut.out⟩
    case round=>
     clear TE SG Ta UF Ut HP;obtain⟨j,hj,hit,hP,hc,hz,AZ⟩:=hrel;have hsw:=AZ.size;have hil:fh<wr.heap.size:=(Array.getElem?_eq_some_iff.1 hit).1;by_cases bi:j<V
     . have gL:j<l.length:=by rw[KG.out.1];exact bi
       have hjb:j<(bs l).size:=by rw[jh];exact gL
       have Yd:l[j].toNat<=127:=KG.out.2 _ (List.getElem_mem gL);have hg:((bs l)[j]'hjb).toNat=l[j].toNat:=by simp[bs,ByteArray.getElem_eq_getElem_data];rfl
       obtain⟨cc,hcc⟩:∃cc:Nat,l[j].toNat=cc:=⟨_,rfl⟩;rw[hcc]at Yd hg;have hgd:(l.getD j 0).toNat=cc:=by rw[<-hcc];simp[List.getD_eq_getElem?_getD,gL];rfl
       have oQ:∀ty,(Instr.next (.pointer (some ⟨fh,0,none⟩)) true ty).run Tryz.prog wr=_:=λty=>Lib.run_next_ascii_at wr fh (bs l) j ty hit hjb (by rw[hg];omega);rw[hg]at oQ;have oM:IntKind.i64.wrap (cc:Int)=(cc:Int):=by rw[IntKind.wrap_i64];omega
       have hgr:=alF wr fh (bs l) (j+1);have hch:=Chg.awV (Y:=λb=>b=fh) hgr (λb e=>(Option.some.inj e).symm);have hk1:=Lib.iterAt_heap wr fh (bs l) j (j+1) hit;have uV:=hP.chg hch zo (λb h _=>by subst h;exact UE.out);have hc1:=hch.blk hc zo;have hz1:=hch.blk hz zo;have hb1:=Lib.below_iterAt AZ (by omega:w1.heap.size<=fh) (bs l) (j+1);have qw:wr.iterPos fh=j:=by simp[World.iterPos,hit]
       obtain⟨M,hM⟩:=az (fx X cf l j);obtain⟨Q,hQ⟩:=az (fx X cf l (j+1));obtain⟨P,Ik⟩:=az (dF (X j) cc);have WY:M*P=Q:=by rw[<-hQ,<-hM,<-Ik,<-hgd];rfl
       have rJ:=TR.out j zo;rw[hM]at rJ hc1;have PP:j<xs.length:=by rw[HX.out];exact bi
       obtain⟨sx,mx,ex,om⟩:=pU (xs[j]);have cS:=ie.out _ (List.getElem_mem PP);have hxv:=Hxr.out j PP;rw[om]at cS hxv;have CX:Sm (127*B+1) P:=by rw[<-Ik,<-hxv];exact(JJ cS.2 cc).mono (by have:=Nat.mul_le_mul_left B Yd;omega)
       have kX:Fit 60000001 (gg M):=(rJ.mono zo).fit zd;have fu:Fit 60000001 (gg P):=(CX.mono zo).fit zd;have og:=λb W9 (hbl:ar W9 b 45 [ag (au (dN M)),.string (bs (nt (dN M).natAbs)),af (dE M),ag (au (dN P)),.string (bs (nt (dN P).natAbs)),af (dE P)]) (Da:aB W9)=>uP (au (dN M)) (nt (dN M).natAbs) (dE M) (au (dN P)) (nt (dN P).natAbs) (dE P) Q 60000001 (by show dval (canon M) *dval (canon P)=Q;rw[bD,bD];exact WY) b 2 45 W9 kX fu zd hbl Da;have Ac:∀W,Bw w1 W->aB W:=λW h=>kK.out.below (aC bB.out h);have xP:=λW9 (hp:gj W9 w1.heap.size V X Z) (hz9:∀b,Z b->b<W9.heap.size/\b≠w1.heap.size) (gm:Bw w1 W9)=>ap8 w1.heap.size j V cc B X Z sx mx ex W9 bi zo hxv cS zo hp hz9 (λW h=>Ac W (gm.trans h));rw[Ik]at xP;obtain⟨BQ,agy,HTx,yE,bR,mC,wF,HQ⟩:=nk og xP Ac uV hz1 hk1 qw hQ;have ut:Hid (Bw w1 (wr.iterAt fh (bs l) (j+1))):=hb1;have Hc:Hid (ar (wr.iterAt fh (bs l) (j+1)) cB 45 (bo M)):=hc1;have Jf:wr.heap.size=(wr.iterAt fh (bs l) (j+1)).heap.size:=(Lib.iterAt_size wr fh (bs l) (j+1)).symm;obtain⟨bx,ox,Iy,x0,x1,x2⟩:=(Hx.out.below (aC bB.out hb1)).num j PP om;have lbx:bx<w.heap.size:=(by subst Iy;exact Hx.out.lt (by intro h0;have:=congrArg List.length h0;rw[jJ aY 3 (λ_=>rfl)]at this;simp at this;omega));have auX:=vK V xc j (j:Int) Iy bi rfl;have auY:=ot V xc j (j:Int) Iy bi rfl;have amz:=anh V V j (j:Int) (rfl:(some ⟨w1.heap.size,0,none⟩:Option Addr)=_) bi rfl;rw[Nat.mul_one,Nat.zero_add]at amz;have Co:Hid (aR (wr.iterAt fh (bs l) (j+1)) bx (ox+j*3) [ag sx,.string (bs mx),af ex]):=jA x0 x1 x2;clear og xP Ac uV hz1 hk1 qw hQ hM Ik WY rJ CX kX fu hxv cS om hgr hch hc1 hb1 hg hgd hcc hP hc hz AZ hit Iy x0 x1 x2;generalize wr.iterAt fh (bs l) (j+1)=W7 at oQ mC ut yE bR Hc Co Jf;have Hb:=hbz W7;obtain⟨ci,mS⟩:∃ci:Int,(cc:Int)=ci:=⟨_,rfl⟩;have Fp:=aj mS;rw[mS]at oM;simp only[mS]at oQ;have Pn:=agy.out;simp only[mS]at Pn;have agz:=aj Pn;clear mS Pn;obtain⟨ae,ai⟩:=qZ (Hc.an<|Co.an trivial);go_wp2_with fail;have hzd:∀b,Z b->b<W7.heap.size/\b≠w1.heap.size:=λb h=>by rcases HZo.out b h with h|h|h<;>omega
       obtain⟨Hc,Co,_⟩:=ae;obtain⟨c0,Np,c1,Nq,c2,Nr⟩:=Hc.out.g3;obtain⟨xw0,xw1,xw2⟩:=Co.out.w3;refine eW (λw'=>aK w' cB 0 (ag (au (dN M)))/\aK w' cB 1 (.string (bs (nt (dN M).natAbs)))/\aK w' cB 2 (af (dE M))/\aK w' bx (ox+j*3) (ag sx)/\aK w' bx (ox+j*3+1) (.string (bs mx))/\aK w' bx (ox+j*3+2) (af ex)) (λi=>Nat.blt i 13) [(0,true),(1,true),(2,true),(3,true),(4,true),(5,true),(6,true),(7,true),(8,true),(9,true),(10,false),(11,false),(12,false),(13,false)] zk zk rfl zk zc ⟨c0,c1,c2,xw0,xw1,xw2⟩ ?_;iterate 10 (refine pT rfl rfl ?_ (by intro w' ⟨q0,q1,q2,q3,q4,q5⟩;go_simp;try with_reducible rfl);try simp only[UU])
       refine aP rfl rfl (λK hK=>?_);go_simp;with_reducible refine(agz.out _ (yE.out.below (Below.refl _ _).drew) (λb h=>(by simpa using hzd b h:b<W7.drew.heap.size/\b≠w1.heap.size)) ut.out.drew).mono ?_
       rintro ex9 w8 ⟨rfl,CV,sY⟩;have xS:=sY.size;have avj:W7.heap.size<=w8.heap.size:=xS;have xt:ar w8 cB 45 (bo M):=sY.blk (Hc.out.drew) (λh=>h.2 UD.out);have hz8:=sY.blk bR.out.drew (λh=>h.2 UG.out);have xz:=(sY.block fh (by show fh<W7.heap.size;omega) (λh=>h.2 UE.out)).trans mC.out;have fF:=ut.out.drew.trans (sY.below (by show w1.heap.size<=W7.heap.size;omega) (λb h=>h.1));have y0:=sY.cell (A:=W7.drew) xw0 (λh=>absurd h.1 zp);have y1:=sY.cell (A:=W7.drew) xw1 (λh=>absurd h.1 zp);have y2:=sY.cell (A:=W7.drew) xw2 (λh=>absurd h.1 zp);obtain⟨c0,Np,c1,Nq,c2,Nr⟩:=xt.g3;obtain⟨Fa,yK,UB,TH,gh⟩:=eV CV xt hz8 xz fF;clear CV xt hz8 xz fF sY Hc Co bR yE ut mC xS;refine hK _ _ (λ_=>⟨c0,c1,c2,y0,y1,y2⟩) ?_;try simp only[UU]
       refine aP rfl rfl (λK hK=>?_);go_simp;refine hK _ _ (λ_=>⟨aV c0,aV c1,aV c2,aV y0,aV y1,aV y2⟩) ?_;try simp only[UU]
       refine bY (λw9=>ar w9 w8.heap.size 45 [ag (au (dN M)),.string (bs (nt (dN M).natAbs)),af (dE M),ag (au (dN P)),.string (bs (nt (dN P).natAbs)),af (dE P)]/\Bw w8 w9) (by first|exact iA|exact iB) ?_;rintro w9 ⟨Dl,gm⟩;have y0':=cell_later gm y0;have y1':=cell_later gm y1;have y2':=cell_later gm y2;obtain⟨BG,Kz⟩:=aI Dl gm;clear Dl gm;refine aP rfl rfl (λK hK=>?_);go_simp;with_reducible refine(BQ.out _ _ BG.out ((HTx.out _ gh.out).below Kz.out)).mono ?_
       rintro ex2 fB ⟨rfl,hq⟩;have kv:=aC Kz.out hq;have Dg:=yK.out.below kv;have z0':=cell_later hq y0';have z1':=cell_later hq y1';have z2':=cell_later hq y2';clear y0' y1' y2' hq;obtain⟨c0,Np,c1,Nq,c2,Nr⟩:=Dg.g3;have avl:=kv.size;obtain⟨aeT,aeg,ahp⟩:=bM Dg (Fa.out.below kv) (UB.out.below kv);have afH:Hid (fB.heap[fh]?=some (.stringIter (bs l) (j+1))):=(kv.block fh zo).trans TH.out;have jb:Hid (Bw w1 fB):=gh.out.trans (kv.mono zo);clear Dg kv Fa yK UB TH gh BG Kz;refine hK _ _ (λ_=>⟨c0,c1,c2,z0',z1',z2'⟩) ?_;try simp only[UU]
       refine aP rfl rfl (λK hK=>?_);go_simp;refine hK _ _ (λh=>absurd h zd) ?_;try simp only[UU]
       clear c0 c1 c2 Np Nq Nr z0' z1' z2';have tA:=λu1 u2 u3=>pQ (Y:=λb=>b=cB) (pQ (Y:=λb=>b=cB) (pQ (Y:=λb=>b=cB) (Chg.refl _ fB) cB 0 u1 rfl) cB 1 u2 rfl) cB 2 u3 rfl;refine bY (λjz=>jz.heap[fh]?=some (.stringIter (bs l) (j+1))/\gj jz w1.heap.size V X Z/\ar jz cB 45 (aY (canon Q))/\ar jz Wq.heap.size 45 (bo Ek)/\Bw w1 jz)
        ⟨((tA _ _ _).block fh zo zo).trans afH.out,aeg.out.chg (tA _ _ _) zo (λb h _=>by subst h;exact UD.out),((aeT.out.set 0 _).set 1 _).set 2 _,(tA _ _ _).blk ahp.out zo,jb.out.trans ((tA _ _ _).below zo (λb h=>by omega))⟩ ?_
       rintro jz ⟨YT,Xf,Dh,aaA,XM⟩;obtain⟨TF,aeh,KH,ahq,aeL⟩:=eV YT Xf Dh aaA XM;clear YT Xf Dh aaA XM tA;simp only[bI];go_wp2_with fail;go_roundw;case rel=>exact⟨j+1,by omega,TF.out,aeh.out,by rw[HQ.out];exact KH.out,ahq.out,aeL.out⟩
       case measure=>
        have OS:jz.iterPos fh=j+1:=by simp[World.iterPos,TF.out]
        rw[wF.out,OS];omega
     . obtain rfl:j=V:=by omega
       have hll:=KG.out.1;have oQ:∀ty,(Instr.next (.pointer (some ⟨fh,0,none⟩)) true ty).run Tryz.prog wr=_:=λty=>Lib.run_next_end_at wr fh (bs l) j ty hit (by rw[jh];have h:l.length=j:=hll;omega);obtain⟨M,hM⟩:=az (fx X cf l j);obtain⟨S,hS⟩:=az (E (k+1));have hst:=nQ.out;have rJ:=TR.out j (Nat.le_refl _);rw[hM]at rJ hc;have Ed:Ek+M=S:=by rw[<-hS,hst,<-hM]
       have hes:=afe.out;have kX:Fit 60005000 (gg M):=(rJ.mono zo).fit zd;have Yt:Fit 60005000 (gg Ek):=(hes.mono (by have:=HN.out;omega)).fit zd;have hadd:=λb W9 (hbl:ar W9 b 45 [ag (au (dN Ek)),.string (bs (nt (dN Ek).natAbs)),af (dE Ek),ag (au (dN M)),.string (bs (nt (dN M).natAbs)),af (dE M)]) (Da:aB W9)=>CE (au (dN Ek)) (nt (dN Ek).natAbs) (dE Ek) (au (dN M)) (nt (dN M).natAbs) (dE M) S 60005000 (by show dval (canon Ek)+dval (canon M)=S;rw[bD,bD];exact Ed) b 2 45 W9 Yt kX zd hbl Da;have Ac:∀W,Bw w1 W->aB W:=λW h=>kK.out.below (aC bB.out h);obtain⟨aeB,pz,HS,HP0,LK⟩:=eV hadd (Ac _ AZ) hS (hP.re (Z':=λb=>b=Wq.heap.size) (λb h=>.inl (by subst h;exact UG.out))) AZ;have Hc:Hid (ar wr cB 45 (bo M)):=hc;have Hz:Hid (ar wr Wq.heap.size 45 (bo Ek)):=hz;have PU:=Hz.out.lt;clear hadd Ac hS Ed hes kX Yt hst rJ hM hll hP hc hz AZ hit;have Hb:=hbz wr;obtain⟨ae,ai⟩:=qZ (Hz.an<|Hc.an trivial);have c2:wr.cell? ⟨cB,2,none⟩=some (af (dE M)):=ae.2.1.out.cell 2;have z0:wr.cell? ⟨Wq.heap.size,0,none⟩=some (ag (au (dN Ek))):=ae.1.out.cell 0;have z2:wr.cell? ⟨Wq.heap.size,2,none⟩=some (af (dE Ek)):=ae.1.out.cell 2;have z1:wr.cell? ⟨Wq.heap.size,1,none⟩=some (.string (bs (nt (dN Ek).natAbs))):=ae.1.out.cell 1;have c0:wr.cell? ⟨cB,0,none⟩=some (ag (au (dN M))):=ae.2.1.out.cell 0;have c1:wr.cell? ⟨cB,1,none⟩=some (.string (bs (nt (dN M).natAbs))):=ae.2.1.out.cell 1;have Z0:=z0;have Z1:=z1;have Z2:=z2;have D0:=c0;have D1:=c1;have D2:=c2;obtain⟨W4,mR,aG,ae,ai⟩:=cg wr (Hb.an ae) 45 [ag (au (dN Ek)),.string (bs (nt (dN Ek).natAbs)),af (dE Ek),ag (au (dN M)),.string (bs (nt (dN M).natAbs)),af (dE M)];go_wp2_with fail;refine aJ ae (aeB.out _ _ ae.1.out (pz.out.below ae.2.1.out)) λw7 ae ai=>?_;have hs7:=ae.2.1.out.size;have am5:=FT.out;have HP7:=aj (HP0.out.below ae.2.1.out);have kM:Hid (Bw w1 w7):=LK.out.trans (ae.2.1.out.mono zo);have tA:=λu1 u2 u3=>pQ (Y:=λb=>b=Wq.heap.size) (pQ (Y:=λb=>b=Wq.heap.size) (pQ (Y:=λb=>b=Wq.heap.size) (Chg.refl _ w7) Wq.heap.size 0 u1 rfl) Wq.heap.size 1 u2 rfl) Wq.heap.size 2 u3 rfl;have CV:=λu1 u2 u3=>HP7.out.chg (tA u1 u2 u3) hkz (λb h _=>h);have fF:=λu1 u2 u3=>kM.out.trans ((tA u1 u2 u3).below zo (λb h=>by subst h;omega));obtain⟨Fa,gh⟩:=aI CV fF;clear tA CV fF am5;go_wp2;go_roundw;case rel=>exact⟨k+1,by omega,by go_num,Fa.out _ _ _,by rw[HS.out];exact((ae.2.2.1.out.set 0 _).set 1 _).set 2 _,gh.out _ _ _⟩
       case measure=>exact bf
  . obtain rfl:k=N:=by omega
    have Hr:Hid (ar wr (w.heap.size+1) 45 [ag false,.string ⟨#[]⟩,af 0]):=yY.out.below aO.out;have Hb:=dG;have hrl:=yY.out.lt;obtain⟨ae,ai⟩:=qZ (Hz.an<|Hr.an trivial);go_wp2;refine dA (aN wr (w.heap.size+1) 0 (bo Ek)) aU ?_;intro w9 hs0;have ae:=bG hs0 (Hb.an ae);simp only[bA,List.set]at ae;have ai:=qC ae;refine bodyPost_ret (v:=.tuple #[bK Ek,af 0]) (by simp[results,Tryz.results26,go_sem,ai]) rfl ⟨by rw[Sk.out],ae.1.out⟩
end Go.Proofs.YtpfgffadgkkedaaGreatDoor
namespace Go.Proofs.YtpfgffadgkkedaaGreatDoor
def xg (X:Nat->Dyadic)(n:Nat)(c:Dyadic)(l:Nat->Dyadic)(k:Nat)(hk:k<=n):bz (fw X n) (cE n c l k)=c+df (λb=>l b*X b) k:=by
 unfold cE;rw[xf];induction k with
 | zero=>
   show dval (canon c) *fx X 1 (jS n) n+0=c+df _ 0
   rw[bD,aoG];show c*1+0=c+0;grind
 | succ k ih=>
   rw[Qe,xe,ih zo];show _+(dval (canon (l k)) *fx X 1 (cj n k) n+0)=_
   rw[bD,abo X n k n (Nat.le_refl _) zo,if_pos zo];show c+df _ k+(l k*X k+0)=c+(df _ k+l k*X k)
   grind
def Nv (n:Nat)(hn:1<=n)(bH:n<=4)(P:Nat->Nat->Dyadic)(X:Nat->Dyadic)(j:Nat)(hj:j<=n):mH X n (ij n P n j) (ij n P n j).length=pq n P X j:=by
 rw[GN X n _ _ (Nat.le_refl _),List.take_length];unfold ij;by_cases h:j=0
 . subst h;rw[if_pos rfl];unfold ko;rw[xg X n _ _ n (Nat.le_refl _),<-asY n hn bH P X n (Nat.le_refl _),as1 n hn bH]
 . rw[if_neg h];unfold nj;rw[xg X n _ _ n (Nat.le_refl _)];have h1:=adp n P X (j-1) n;have h2:=EP n hn bH P X (j-1) zo;rw[show j-1+1=j by omega]at h2;rw[<-h2,h1];rfl
end Go.Proofs.YtpfgffadgkkedaaGreatDoor
