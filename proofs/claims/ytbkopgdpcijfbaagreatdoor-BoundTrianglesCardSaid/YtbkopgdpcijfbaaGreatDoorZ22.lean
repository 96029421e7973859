/- Package simp: rows,as an iterator. -/
import Derived.Test.YtbkopgdpcijfbaaGreatDoorZ11
import Derived.Test.YtbkopgdpcijfbaaGreatDoorZ5
import Derived.Shelf.Abstract
import Derived.Shelf.RegionOpen
import Derived.WalkKit
import Derived.OwnWalkIn
import Derived.TacticsInMore
import Derived.LoopNIn
import Derived.LoopIn
set_option linter.all false
set_option maxRecDepth 100000
set_option maxHeartbeats 16000000
namespace Go.Proofs.YtbkopgdpcijfbaaGreatDoor
open Go.RowKit Go.Shelf
def bz :Nat->Nat->List (List Nat)
 |0,_=>[]
 |1,s=>[[s]]
 |n+2,s=>(List.range (s+1)).flatMap λi=>(bz (n+1) i).map ((s-i)::·)
abbrev ex (x:List Nat):ByteArray:=bs (x.map UInt8.ofNat)
def aiF (n s:Int)(w:World):
 Cl 55 #[af n,af s] w λe w'=>e=.returned (.func (.func 142) #[] #[.pointer (some ⟨w.heap.size,0,none⟩),.pointer (some ⟨w.heap.size+1,0,none⟩)])/\
  ar w' w.heap.size 3 [af n]/\ar w' (w.heap.size+1) 3 [af s]/\Bw w w':=by
 go_enter Tryz.func55,Tryz.ntmps55;go_wp2;go_ret;exact⟨rfl,(ar.new w 3 [af n]).alloc _,ar.newAt _ 3 [af s] zm,zl.alloc zm _⟩
attribute [local go_sem] Oper.semAt_some
def Steps.later {J:(Nat->Prop)->World->Prop}{Y:Nat->Prop}{A B C:World}(h:Steps J Y B C)(hc:Chg Y A B):Steps J Y A C:=by
 obtain⟨Z,hj,hc2,hz⟩:=h;refine⟨Z,hj,hc.trans hc2 (λb h=>.inl h),λb hb=>?_⟩;rcases hz b hb with h1|h1
 . exact .inl h1
 . exact .inr (Nat.le_trans hc.size h1)
def Ph (bn bs' n s:Nat)(Y:Nat->Prop)(W:World):Prop:=ar W bn 3 [af (n:Int)]/\ar W bs' 3 [af (s:Int)]/\¬Y bn/\¬Y bs'
def ayZ (bn b2 s:Nat)(hs:s<=255):FV Tryz.prog 142 #[.pointer (some ⟨bn,0,none⟩),.pointer (some ⟨b2,0,none⟩)] (λx=>#[.string (ex x)]) (Ph bn b2 1 s) (bz 1 s):=by
 intro l J hJ hL hY m Y W h0 ⟨q1,q2,y1,y2⟩;have c1:W.cell? ⟨bn,0,none⟩=some (af 1):=q1.cell 0;have c2:W.cell? ⟨b2,0,none⟩=some (af s):=q2.cell 0;have l1:=q1.lt;have l2:=q2.lt;have hcv:IntKind.u8.wrap (s:Int)=s:=by rw[IntKind.wrap_u8];omega
 obtain⟨W2,hW2⟩:=aB ((W.alloc (.cells #[.func (.yield l) #[] #[]] 191)).alloc (.cells #[.int .u8 (s:Int)] 5));obtain⟨x,hx⟩:=aB (ex [s]);have hb2:Bw W W2:=by rw[<-hW2];exact zl.alloc zm _
 have atF:(convert 172 9 (.slice (some ⟨W.heap.size+1,0,none⟩) 1 1)).run Tryz.prog W2=.ok (.string x) W2:=by
  have hB:ar W2 (W.heap.size+1) 5 (cM 1 (λ_=>s)):=by rw[<-hW2];exact ar.newAt _ _ _ zm
  rw[<-hx];exact yP hB 1
 obtain⟨fn,tmps,assign,body,hy,hR⟩:=hY (m-1) [] [s] Y W2 ((hJ []).below h0 hb2) (by simp[bz]);dsimp only at hy;rw[hx]at hy;refine callsIn_of_wp Tryz.func142 rfl trivial ?_ rfl;simp only[Tryz.ntmps142,List.size_toArray,List.length_cons,List.length_nil,Nat.reduceAdd,Nat.reduceSub,Array.replicate_succ,Array.replicate_zero,List.push_toArray,List.append_toArray,List.nil_append,List.cons_append];gi_wp2
 refine⟨λh=>(by cases h),?_⟩;refine hR.mono ?_;rintro e W3 ⟨rfl,hst⟩;gi_wp2
 refine bodyPost_ret (results_none rfl _ _ _) rfl ⟨⟨_,rfl⟩,?_⟩;exact hst.later (Chg.of_below hb2)
end Go.Proofs.YtbkopgdpcijfbaaGreatDoor
namespace Go.Proofs.YtbkopgdpcijfbaaGreatDoor
open Go.RowKit Go.Shelf
attribute [local go_sem] Oper.semAt_some
def ul (n s k:Nat):List (List Nat):=(List.range k).flatMap λi=>(bz n i).map ((s-i)::·)
def Xx (n s k:Nat):ul n s (k+1)=ul n s k++(bz n k).map ((s-k)::·):=by unfold ul;rw[List.range_succ,List.flatMap_append];simp
def ayV (n s:Nat):ul (n+1) s (s+1)=bz (n+2) s:=rfl
def ayW (n s k:Nat)(hk:k<=s+1):ul n s k<+:ul n s (s+1):=by
 obtain⟨j,hj⟩:∃j,s+1=k+j:=⟨s+1-k,by omega⟩;rw[hj];clear hj hk;induction j with
 |zero=>exact List.prefix_refl _
 |succ j ih=>rw[<-Nat.add_assoc,Xx];exact ih.trans (List.prefix_append _ _)
def ayX (n s k:Nat)(hk:k<=s)(pre:List (List Nat))(x:List Nat)(h:(pre++[x])<+:bz n k):
 (ul n s k++pre.map ((s-k)::·))++[(s-k)::x]<+:ul n s (s+1):=by
 refine List.IsPrefix.trans ?_ (ayW n s (k+1) zo);rw[Xx,List.append_assoc,List.prefix_append_right_inj];have:=h.map ((s-k)::·);simpa using this
def Xw (J:List (List Nat)->(Nat->Prop)->World->Prop)(l t3 b4 n s k:Nat)(pre:List (List Nat))(Z:Nat->Prop)(W:World):Prop:=
 ∃Zj:Nat->Prop,Z=(λb=>Zj b\/b=t3\/b=b4)/\J (ul n s k++pre.map ((s-k)::·)) Zj W/\ar W t3 191 [.func (.yield l) #[] #[]]/\ar W b4 3 [af ((s-k:Nat):Int)]/\¬Zj t3/\¬Zj b4
def ayT {J:List (List Nat)->(Nat->Prop)->World->Prop}(hJ:∀pre,xM (J pre))(l t3 b4 n s k:Nat)(pre:List (List Nat)):xM (Xw J l t3 b4 n s k pre):=by rintro Z W W' ⟨Zj,rfl,hj,q3,q4,n3,n4⟩ hc;exact⟨Zj,rfl,hJ _ Zj W W' hj (hc.mono (λb _ h h2=>h (.inl h2))),hc.blk q3 (λh=>h (.inr (.inl rfl))),hc.blk q4 (λh=>h (.inr (.inr rfl))),n3,n4⟩
def ayS {J:List (List Nat)->(Nat->Prop)->World->Prop}(hL:∀pre,Ih (J pre))(l t3 b4 n s k:Nat)(pre:List (List Nat)):Ih (Xw J l t3 b4 n s k pre):=by
 rintro Z W ⟨Zj,rfl,hj,q3,q4,n3,n4⟩ b (h|rfl|rfl)
 . exact hL _ Zj W hj b h
 . exact q3.lt
 . exact q4.lt
def aiE (a:Act)(wr:World):Nat:=match (a.tmps.getD 4 undef:Value)with
 | Value.pointer (some p)=>(match (wr.cell? p:Option Value)with
   |some (Value.int _ v)=>(v+1).toNat
   |_=>0)
 |_=>0
def arK (a:Nat)(x:List Nat):ex (a::x)=ex [a]++ex x:=by unfold ex bs;apply ByteArray.ext;simp
def aiD (n s:Nat)(x:List Nat)(h:x∈bz n s):x.length=n:=by
 induction n using Nat.strongRecOn generalizing s x with
 | _ n ih=>
   match n,h with
   |0,h=>cases h
   |1,h=>simp[bz]at h;subst h;rfl
   |n+2,h=>simp only[bz,List.mem_flatMap,List.mem_map]at h;obtain⟨i,_,y,hy,rfl⟩:=h;simp[ih (n+1) zo i y hy]
def mark (D:Nat):Deferred:={target:=.collected D,args:=#[]}
def ayU (J:List (List Nat)->(Nat->Prop)->World->Prop)(l bn b2 n s:Nat)(N:Int)(W:World)(Y:Nat->Prop)(a:Act)(wr:World):Prop:=
 ∃(k:Nat) (Ds:List Nat) (b4:Nat) (Z:Nat->Prop) (u5 u15 u16 Yj Yk u19 u20 u21 u22 u23 u24 u25 u26 Yl u28 Ym Yn Yo u32 u33 Yp Yq:Value),a={tmps:=#[.func (.yield l) #[] #[],.pointer (some ⟨bn,0,none⟩),.pointer (some ⟨b2,0,none⟩),.pointer (some ⟨W.heap.size,0,none⟩),.pointer (some ⟨b4,0,none⟩),u5,af N,ag false,undef,undef,undef,undef,undef,undef,af (s:Int),u15,u16,Yj,Yk,u19,u20,u21,u22,u23,u24,u25,u26,Yl,u28,Ym,Yn,Yo,u32,u33,Yp,Yq],defers:=Ds.map mark}/\
  k<=s+1/\J (ul (n+1) s k) Z wr/\ar wr W.heap.size 191 [.func (.yield l) #[] #[]]/\ar wr b4 3 [af ((s:Int)-k)]/\¬Z W.heap.size/\¬Z b4/\W.heap.size<b4/\Ds.Nodup/\
  (∀D∈Ds,wr.heap[D]?=some (.deferred (some []))/\¬Z D/\W.heap.size<=D)/\Chg Y W wr/\(∀b,Z b->Y b\/W.heap.size<=b)
def ay0 (n:Nat)(hn:n+2<=255)(ih:∀bn b2 i,i<=255->FV Tryz.prog 142 #[.pointer (some ⟨bn,0,none⟩),.pointer (some ⟨b2,0,none⟩)] (λx=>#[.string (ex x)]) (Ph bn b2 (n+1) i) (bz (n+1) i))
 (bn b2 s:Nat) (hs:s<=255):FV Tryz.prog 142 #[.pointer (some ⟨bn,0,none⟩),.pointer (some ⟨b2,0,none⟩)] (λx=>#[.string (ex x)]) (Ph bn b2 (n+2) s) (bz (n+2) s):=by
 intro l J hJ hL hY m Y W h0 ⟨q1,q2,y1,y2⟩;rw[<-ayV]at hY⊢;have c1:W.cell? ⟨bn,0,none⟩=some (af ((n+2:Nat):Int)):=q1.cell 0;have c2:W.cell? ⟨b2,0,none⟩=some (af s):=q2.cell 0;have l1:=q1.lt;have l2:=q2.lt;generalize hN:((n+2:Nat):Int)=N at*;have Nv:¬N=1:=by omega
 have Uc:IntKind.i64.wrap (N-1)=((n+1:Nat):Int):=by rw[IntKind.wrap_i64];omega
 generalize hM:((n+1:Nat):Int)=M at Uc;refine callsIn_of_wp_marks Tryz.func142 rfl trivial ?_ rfl;simp only[Tryz.ntmps142,List.size_toArray,List.length_cons,List.length_nil,Nat.reduceAdd,Nat.reduceSub,Array.replicate_succ,Array.replicate_zero,List.push_toArray,List.append_toArray,List.nil_append,List.cons_append];gi_wp2
 refine wpIn_loop (ayU J l bn b2 n s N W Y) aiE ?start ?round;case start=>
  refine⟨0,[],W.heap.size+1,Y,_,_,_,_,_,_,_,_,_,_,_,_,_,_,_,_,_,_,_,_,_,_,rfl,by omega,?_,(ar.new W 191 _).alloc _,?_,λh=>?_,λh=>?_,by omega,List.nodup_nil,(λD h=>by cases h),?_,λb h=>.inl h⟩
  . exact(hJ []).below h0 (zl.alloc zm _)
  . have:=ar.newAt (W.alloc (.cells #[.func (.yield l) #[] #[]] 191)) 3 [af (s:Int)] (b:=W.heap.size+1) zm;simpa using this
  . have:=hL _ _ _ h0 _ h;omega
  . have:=hL _ _ _ h0 _ h;omega
  . exact Chg.of_below (zl.alloc zm _)
 case round=>
  rintro a wr ⟨k,Ds,b4,Z,u5,u15,u16,Yj,Yk,u19,u20,u21,u22,u23,u24,u25,u26,Yl,u28,Ym,Yn,Yo,u32,u33,Yp,Yq,rfl,hk,hj,p3,p4,z3,z4,hb4,hnd,iU,NP,hz⟩;have d1:wr.cell? ⟨bn,0,none⟩=some (af N):=NP.cell c1 y1;have d2:wr.cell? ⟨b2,0,none⟩=some (af s):=NP.cell c2 y2;have d3:wr.cell? ⟨W.heap.size,0,none⟩=some (.func (.yield l) #[] #[]):=p3.cell 0;have d4:wr.cell? ⟨b4,0,none⟩=some (af ((s:Int)-k)):=p4.cell 0;have e4:wr.frozen? ⟨b4,0,none⟩=false:=p4.free 0;have hlb:=p4.lt;generalize hV:(s:Int)-k=V at*;by_cases hks:k<=s
  . have hV0:0<=V:=by omega
    have hV1:IntKind.i64.wrap ((s:Int)-V)=(k:Int):=by rw[IntKind.wrap_i64];omega
    gi_wp2
    refine⟨trivial,λh=>(by cases h),?_⟩;refine(callsIn_wide.2 (aiF M k wr)).mono ?_;rintro e w1 ⟨rfl,bP,dF,wH⟩;have NB:Hid (V=((s-k:Nat):Int)):=by show _=_;omega
    have hsz:wr.heap.size<=w1.heap.size:=wH.size;have aCZ:wr.heap.size+1<w1.heap.size:=dF.lt;have og:J (ul (n+1) s k) Z w1:=(hJ _).below hj wH;have p31:=p3.below wH;have p41:=p4.below wH;have YH:∀b,Z b->b<wr.heap.size:=hL _ _ _ hj;gi_wp2
    refine ajZ (gf:=142) (lb:=#[.pointer (some ⟨wr.heap.size,0,none⟩),.pointer (some ⟨wr.heap.size+1,0,none⟩)]) rfl (enters_of Tryz.func142 zk rfl)
     (ih wr.heap.size (wr.heap.size+1) k zo) (λ_=>rfl) (Xw J l W.heap.size b4 (n+1) s k) (ayT hJ _ _ _ _ _ _) (ayS hL _ _ _ _ _ _)
     (λb=>Z b\/b=W.heap.size\/b=b4) ?h0 ?hok (λx=>{tmps:=#[.func (.yield l) #[] #[],.pointer (some ⟨bn,0,none⟩),.pointer (some ⟨b2,0,none⟩),.pointer (some ⟨W.heap.size,0,none⟩),.pointer (some ⟨b4,0,none⟩),.string (ex x),af N,ag false,undef,undef,undef,undef,undef,undef,af (s:Int),af V,ag true,Yj,Yk,af N,af M,af (s:Int),af V,af (k:Int),.func (.func 142) #[] #[.pointer (some ⟨wr.heap.size,0,none⟩),.pointer (some ⟨wr.heap.size+1,0,none⟩)],.string (ex x),u26,Yl,u28,Ym,Yn,Yo,u32,u33,Yp,Yq],defers:=[]}) ?assign ?body ?done
    case h0=>exact⟨Z,rfl,by simpa using og,p31,by rw[<-NB.out];exact p41,z3,z4⟩
    case hok=>
     intro W1 hg;have hbb:Bw w1 W1:=⟨hg.os,hg.tape,hg.output,hg.size,λk hk=>hg.block k hk (λe=>by cases e)⟩;refine⟨by rw[hM];exact bP.below hbb,dF.below hbb,?_,?_⟩
     . rintro((h|h|h) |h|h)
       . have:=YH _ h;omega
       . have:=p3.lt;omega
       . omega
       . omega
       . omega
     . rintro((h|h|h) |h|h)
       . have:=YH _ h;omega
       . have:=p3.lt;omega
       . omega
       . omega
       . omega
    case assign=>
     intro m' l' x W' K hK;gi_wp2
     exact hK
    case body=>
     rintro m' l' pre x Zb Wb ⟨Zj,rfl,hjb,r3,r4,n3,n4⟩ hpre hzb auu;have f3:Wb.cell? ⟨W.heap.size,0,none⟩=some (.func (.yield l) #[] #[]):=r3.cell 0;have f4:Wb.cell? ⟨b4,0,none⟩=some (af V):=by rw[NB.out];exact r4.cell 0
     have g3:=r3.lt;have g4:=r4.lt;obtain⟨W2,hW2⟩:=aB (Wb.alloc (.cells #[.int .u8 V] 5));have hb2:Bw Wb W2:=by rw[<-hW2];exact zl
     have hcu:IntKind.u8.wrap V=V:=by rw[IntKind.wrap_u8];omega
     obtain⟨y,hy0⟩:=aB (ex [s-k]);have atF:(convert 172 9 (.slice (some ⟨Wb.heap.size,0,none⟩) 1 1)).run Tryz.prog W2=.ok (.string y) W2:=by
      have hB:ar W2 Wb.heap.size 5 (cM 1 (λ_=>s-k)):=by rw[<-hW2,NB.out];exact ar.new _ _ _
      rw[<-hy0];exact yP hB 1
     obtain⟨v,hv⟩:=aB (ex x);obtain⟨z,hz0⟩:=aB (ex ((s-k)::x));have aDG:y++v=z:=by rw[<-hy0,<-hv,<-hz0];exact(arK _ _).symm
     have hxl:x.length=n+1:=aiD _ _ _ (List.IsPrefix.subset hpre zm);have aEk:¬9223372036854775807<y.size+v.size:=by rw[<-hy0,<-hv,jB,jB];simp;omega
     obtain⟨fn,tmps,assign,body,hy,hR⟩:=hY (m'-1) (ul (n+1) s k++pre.map ((s-k)::·)) ((s-k)::x) Zj W2 ((hJ _).below hjb hb2) (ayX _ _ _ hks _ _ hpre);rw[hz0]at hy;rw[hv];clear hxl;gi_wp2
     refine⟨λh=>(by cases h),?_⟩;refine RoundIn.mono (F:=Fence.wide.inRound l') hR ?_;rintro e W4 ⟨rfl,Zk,hjk,dm,Wl⟩;gi_wp2
     have afp:=hb2.size;have r32:=r3.below hb2;have r42:=r4.below hb2;have tb3:¬Zk W.heap.size:=λh=>by rcases Wl _ h with h1|h1;exact n3 h1;omega
     have tb4:¬Zk b4:=λh=>by rcases Wl _ h with h1|h1;exact n4 h1;omega
     refine⟨(λb=>Zk b\/b=W.heap.size\/b=b4),⟨Zk,rfl,by simpa using hjk,dm.blk r32 n3,dm.blk r42 n4,tb3,tb4⟩,?_,?_⟩
     . exact((Chg.of_below hb2).trans dm (λb h=>.inl h)).mono (λb _ h=>.inl h)
     . rintro b (h|h|h)
       . rcases Wl b h with h1|h1
         . exact .inl (.inl h1)
         . exact .inr zo
       . exact .inl (.inr (.inl h))
       . exact .inl (.inr (.inr h))
    case done=>
     rintro W3 ⟨Z3,⟨⟨Zj,rfl,Ol,s3,s4,n3,n4⟩,BX,hz3⟩,hc3,Wj⟩;have f4:W3.cell? ⟨b4,0,none⟩=some (af V):=by rw[NB.out];exact s4.cell 0
     have g4:=s4.lt;have hdec:IntKind.i64.wrap (V-1)=V-1:=by rw[IntKind.wrap_i64];omega
     gi_wp2
     refine⟨⟨k+1,w1.heap.size::Ds,W3.heap.size,Zj,_,_,_,_,_,_,_,_,_,_,_,_,_,_,_,_,_,_,_,_,_,_,rfl,by omega,?_,?_,?_,?_,?_,?_,?_,?_,?_,?_⟩,?_⟩
     . rw[Xx];exact(hJ _).below Ol zl
     . exact s3.alloc _
     . rw[show(s:Int)-((k+1:Nat):Int)=V-1 by omega];exact ar.new _ _ _
     . exact n3
     . exact λh=>by have:=hL _ _ _ Ol _ h;omega
     . exact s3.lt
     . rw[List.nodup_cons];refine⟨λh=>?_,hnd⟩;have:=(Array.getElem?_eq_some_iff.1 (iU _ h).1).1;omega
     . intro D hD;have hW3:w1.heap.size<W3.heap.size:=(Array.getElem?_eq_some_iff.1 BX).1;have NG:=p3.lt;rcases List.mem_cons.1 hD with rfl|hD
       . refine⟨(Below.heap_alloc _ _ _ hW3).trans BX,λh=>?_,by omega⟩;rcases hz3 _ (.inl h)with(h1|h1|h1) |h1
         . have:=YH _ h1;omega
         . omega
         . omega
         . omega
       . obtain⟨e1,e2,e3⟩:=iU D hD;have hDl:D<wr.heap.size:=(Array.getElem?_eq_some_iff.1 e1).1;have nd3:D≠W.heap.size:=by rintro rfl;have:wr.heap[W.heap.size]?=_:=p3;rw[e1]at this;cases this
         have nd4:D≠b4:=by rintro rfl;have:wr.heap[D]?=_:=p4;rw[e1]at this;cases this
         refine⟨?_,λh=>?_,e3⟩
         . refine(Below.heap_alloc _ _ _ zo).trans ((hc3.block D zo ?_).trans ((wH.block D hDl).trans e1));rintro(h|h|h)
           . exact e2 h
           . exact nd3 h
           . exact nd4 h
         . rcases hz3 _ (.inl h)with(h1|h1|h1) |h1
           . exact e2 h1
           . exact nd3 h1
           . exact nd4 h1
           . omega
     . refine((NP.trans (Chg.of_below (Y:=Y) wH) (λb h=>.inl h)).trans hc3 ?_).trans (Chg.of_below (Y:=Y) zl) (λb h=>.inl h);rintro b (h|h|h)
       . exact hz b h
       . exact .inr zo
       . exact .inr zo
     . intro b h;have NG:=p3.lt;rcases hz3 _ (.inl h)with(h1|h1|h1) |h1
       . exact hz b h1
       . exact .inr zo
       . exact .inr zo
       . exact .inr zo
     . have v1:(W3.alloc (Obj.cells #[Value.int IntKind.i64 (V-1)] 3)).cell? ⟨W3.heap.size,0,none⟩=some (af (V-1)):=(ar.new W3 3 [af (V-1)]).cell 0;simp only[aiE,Array.getD_eq_getD_getElem?];simp[v1,d4];omega
  . have hV0:¬0<=V:=by omega
    obtain rfl:k=s+1:=by omega
    gi_wp2
    refine ahd Ds wr hnd (λD hD=>(iU D hD).1) (λw' hc=>?_);refine⟨_,results_none rfl _ _ _,⟨_,rfl⟩,Z,hJ _ _ _ _ hj (hc.mono (λb _ hb hZ=>(iU b hb).2.1 hZ)),NP.trans hc (λb hb=>.inr (iU b hb).2.2),?_⟩;intro b hb;exact hz b hb
def ayY (n:Nat)(hn:n+1<=255):∀(bn b2 s:Nat),s<=255->FV Tryz.prog 142 #[.pointer (some ⟨bn,0,none⟩),.pointer (some ⟨b2,0,none⟩)] (λx=>#[.string (ex x)]) (Ph bn b2 (n+1) s) (bz (n+1) s):=by
 induction n with
 |zero=>intro bn b2 s hs;exact ayZ bn b2 s hs
 |succ n ih=>intro bn b2 s hs;exact ay0 n zo (λbn b2 i hi=>ih zo bn b2 i hi) bn b2 s hs
end Go.Proofs.YtbkopgdpcijfbaaGreatDoor
namespace Go.Proofs.YtbkopgdpcijfbaaGreatDoor
open Go.RowKit
attribute [local go_sem ↓] Go.wp_at_zero Go.wp_at_succ
def cnt :Nat->Nat->Nat
 |0,_=>1
 |_+1,0=>1
 |i+1,s+1=>cnt (i+1) s+cnt i (s+1)
 termination_by i s=>i+s
def zN (s:Nat):cnt 0 s=1:=by unfold cnt;rfl
def zM (i:Nat):cnt i 0=1:=by cases i<;>(unfold cnt;rfl)
def Ef (i s:Nat):cnt (i+1) (s+1)=cnt (i+1) s+cnt i (s+1):=by rw[cnt]
def aqh (N:Nat):∀i s,i+s<=N->(i+1) *cnt (i+1) s=(s+i+1) *cnt i s/\(s+1) *cnt i (s+1)=(s+i+1) *cnt i s:=by
 induction N with
 | zero=>
   intro i s h;obtain rfl:i=0:=by omega
   obtain rfl:s=0:=by omega
   simp[zN,zM]
 | succ N ih=>
   intro i s h;have h2:(s+1) *cnt i (s+1)=(s+i+1) *cnt i s:=by
    cases i with
    |zero=>simp[zN]
    |succ i=>obtain⟨a,b⟩:=ih i s zo;rw[Ef];grind
   refine⟨?_,h2⟩;cases s with
   |zero=>simp[zM]
   |succ s=>obtain⟨a,b⟩:=ih i s zo;rw[Ef];grind
def aqj (i s:Nat):cnt i s* (s+(i+1))/(i+1)=cnt (i+1) s:=by have:=(aqh (i+s) i s (Nat.le_refl _)).1;rw[Nat.mul_comm,<-Nat.add_assoc,<-this,Nat.mul_div_cancel_left _ zo]
def aqi (i s:Nat):0<cnt i s:=by
 induction i generalizing s with
 |zero=>rw[zN];decide
 | succ i ih=>
   induction s with
   |zero=>rw[zM];decide
   |succ s ih2=>rw[Ef];omega
def abV (i s:Nat):cnt i s<=(s+1)^i:=by
 induction i with
 |zero=>rw[zN];simp
 | succ i ih=>
   have h:∀t,t<=s->cnt (i+1) t<=(t+1) * (s+1)^i:=by
    intro t;induction t with
    |zero=>intro _;rw[zM,Nat.zero_add,Nat.one_mul];exact Nat.pow_pos (n:=i) (by omega:0<s+1)
    | succ t iht=>
      intro ht;have h1:=iht zo;have h2:cnt i (t+1)<=cnt i s:=by
       clear iht h1 ih;obtain⟨d,rfl⟩:∃d,s=t+1+d:=⟨s-(t+1),by omega⟩;clear ht;induction d with
       |zero=>exact Nat.le_refl _
       | succ d ihd=>
         refine Nat.le_trans ihd ?_;cases i with
         |zero=>rw[zN,zN];exact Nat.le_refl _
         |succ i=>rw[<-Nat.add_assoc (t+1) d 1,Ef];omega
      rw[Ef,Nat.add_mul (t+1) 1];omega
   have:=h s (Nat.le_refl _);rw[Nat.pow_succ,Nat.mul_comm];exact this
def pQ (i s:Nat):(bz (i+1) s).length=cnt i s:=by
 induction i generalizing s with
 |zero=>rw[zN];rfl
 | succ i ih=>
   have h:∀k t,((List.range k).flatMap λj=>(bz (i+1) j).map ((t-j)::·)).length=((List.range k).map (cnt i)).sum:=by
    intro k t;induction k with
    |zero=>rfl
    |succ k ihk=>rw[List.range_succ,List.flatMap_append,List.length_append,ihk,List.map_append,List.sum_append];simp[ih]
   have h2:∀s,((List.range (s+1)).map (cnt i)).sum=cnt (i+1) s:=by
    intro s;induction s with
    |zero=>simp[zM]
    |succ s ihs=>rw[List.range_succ,List.map_append,List.sum_append,ihs,Ef];simp
   rw[bz,h,h2]
def abW {i s:Nat}(hi:i<=8)(hs:s<=20):cnt i s<=37822859361:=by refine Nat.le_trans (abV i s) (Nat.le_trans (Nat.pow_le_pow_left (show s+1<=21 by omega) i) ?_);exact Nat.le_trans (Nat.pow_le_pow_right zd hi) zd
def aj3 (n:Int)(h: -9223372036854775808<=n/\n<=9223372036854775807):wrap64 n=n:=by unfold wrap64;omega
def OV (n s:Nat)(w:World)(hn:1<=n)(oh:n<=9)(hs:s<=20):
 Cl 50 #[af (n:Int),af (s:Int)] w λe w'=>e=.returned (af ((min (cnt (n-1) s) 513:Nat):Int))/\w'=w:=by
 go_enter Tryz.func50,Tryz.ntmps50;go_wp2;go_loopw[5,6] (λc i wr=>∃k:Nat,1<=k/\k<=n/\i=af (k:Int)/\c=af (cnt (k-1) s:Int)/\wr=w) (λ_ i _=>n-(intOf i).toNat);case atStart=>exact⟨1,by omega,by omega,rfl,by rw[zN];rfl,rfl⟩
 case round=>
  obtain⟨k,hk1,hk2,rfl,rfl,rfl⟩:=hrel;by_cases hlt:k<n
  . have hb:=abW (i:=k-1) (s:=s) zo hs;have hst:=aqj (k-1) s;rw[show k-1+1=k by omega]at hst;have hb2:=abW (i:=k) (s:=s) zo hs;generalize hC:cnt (k-1) s=C at*;have hw1:IntKind.i64.wrap ((s:Int)+(k:Int))=((s+k:Nat):Int):=by rw[IntKind.wrap_i64];omega
    have hm:C* (s+k)<=37822859361*29:=Nat.mul_le_mul hb zo;have hval:min (wrap64 ((wrap64 ((C:Int) * ((s:Int)+(k:Int)))).tdiv (k:Int))) 1099511627776=(cnt k s:Int):=by rw[show(C:Int) * ((s:Int)+(k:Int))=((C* (s+k):Nat):Int)by rw[Int.natCast_mul,Int.natCast_add]];generalize hE:cnt k s=E at hst hb2⊢;generalize C* (s+k)=t at hst hm⊢;clear hE hC;rw[aj3 (t:Int) zo,Int.tdiv_eq_ediv_of_nonneg zo,<-Int.natCast_ediv,hst,aj3 (E:Int) zo];omega
    go_wp2;refine⟨⟨k+1,by omega,by omega,by simp,?_,trivial⟩,by simp[intOf];omega⟩;rfl
  . obtain rfl:k=n:=by omega
    go_wp2;go_ret;have hm:min ((cnt (k-1) s:Nat):Int) 513=((min (cnt (k-1) s) 513:Nat):Int):=by omega
    exact⟨by show Ending.returned (Value.int _ _)=_;rw[hm],rfl⟩
def Kp (v d:Int)(w:World):
 Cl 54 #[af v,af d] w λe w'=>e=.returned (ag (decide (1<=v/\v<=8/\0<=d/\d<=20)))/\w'=w:=by
 go_enter Tryz.func54,Tryz.ntmps54;by_cases h1:1<=v
 . by_cases h2:v<=8
   . by_cases h3:0<=d
     . by_cases h4:d<=20
       . go_wp2;go_ret;exact⟨by simp[*],rfl⟩
       . go_wp2;go_ret;exact⟨by simp[*],rfl⟩
     . go_wp2;go_ret;exact⟨by simp[*];omega,rfl⟩
   . go_wp2;go_ret;exact⟨by simp[*];omega,rfl⟩
 . go_wp2;go_ret;exact⟨by simp[*];omega,rfl⟩
end Go.Proofs.YtbkopgdpcijfbaaGreatDoor
