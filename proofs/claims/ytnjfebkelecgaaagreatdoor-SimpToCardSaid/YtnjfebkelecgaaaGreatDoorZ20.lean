/- Package simp: rows,as an iterator. -/
import Derived.Test.YtnjfebkelecgaaaGreatDoorZ10
import Derived.Test.YtnjfebkelecgaaaGreatDoorZ5
import Derived.Shelf.Abstract
import Derived.Shelf.RegionOpen
import Derived.WalkKit
import Derived.OwnWalkIn
import Derived.TacticsInMore
import Derived.LoopNIn
import Derived.LoopIn
set_option linter.all false
set_option maxRecDepth 100000
set_option maxHeartbeats 16000000
namespace Go.Proofs.YtnjfebkelecgaaaGreatDoor
open Go.RowKit Go.Shelf
def bZ :Nat->Nat->List (List Nat)
 |0,_=>[]
 |1,s=>[[s]]
 |n+2,s=>(List.range (s+1)).flatMap λi=>(bZ (n+1) i).map ((s-i)::·)
abbrev ex (x:List Nat):ByteArray:=bs (x.map UInt8.ofNat)
def agV (n s:Int)(w:World):
 Cl 64 #[ah n,ah s] w λe w'=>e=.returned (.func (.func 108) #[] #[.pointer (some ⟨w.heap.size,0,none⟩),.pointer (some ⟨w.heap.size+1,0,none⟩)])/\
  aH w' w.heap.size 3 [ah n]/\aH w' (w.heap.size+1) 3 [ah s]/\Bw w w':=by
 go_enter Tryz.func64,Tryz.ntmps64;go_wp2;go_ret;exact⟨rfl,(aH.new w 3 [ah n]).alloc _,aH.newAt _ 3 [ah s] zm,zl.alloc zm _⟩
attribute [local go_sem] Oper.semAt_some
def Steps.later {J:(Nat->Prop)->World->Prop}{Y:Nat->Prop}{A B C:World}(h:Steps J Y B C)(hc:Chg Y A B):Steps J Y A C:=by
 obtain⟨Z,hj,hc2,hz⟩:=h;refine⟨Z,hj,hc.trans hc2 (λb h=>.inl h),λb hb=>?_⟩;rcases hz b hb with h1|h1
 . exact .inl h1
 . exact .inr (Nat.le_trans hc.size h1)
def Oy (bn bs' n s:Nat)(Y:Nat->Prop)(W:World):Prop:=aH W bn 3 [ah (n:Int)]/\aH W bs' 3 [ah (s:Int)]/\¬Y bn/\¬Y bs'
def av7 (bn b2 s:Nat)(hs:s<=255):EQ Tryz.prog 108 #[.pointer (some ⟨bn,0,none⟩),.pointer (some ⟨b2,0,none⟩)] (λx=>#[.string (ex x)]) (Oy bn b2 1 s) (bZ 1 s):=by
 intro l J hJ hL hY m Y W h0 ⟨q1,q2,y1,y2⟩;have c1:W.cell? ⟨bn,0,none⟩=some (ah 1):=q1.cell 0;have c2:W.cell? ⟨b2,0,none⟩=some (ah s):=q2.cell 0;have l1:=q1.lt;have l2:=q2.lt;have hcv:IntKind.u8.wrap (s:Int)=s:=by rw[IntKind.wrap_u8];omega
 obtain⟨W2,hW2⟩:=aI ((W.alloc (.cells #[.func (.yield l) #[] #[]] 137)).alloc (.cells #[.int .u8 (s:Int)] 5));obtain⟨x,hx⟩:=aI (ex [s]);have hb2:Bw W W2:=by rw[<-hW2];exact zl.alloc zm _
 have Ni:(convert 84 9 (.slice (some ⟨W.heap.size+1,0,none⟩) 1 1)).run Tryz.prog W2=.ok (.string x) W2:=by
  have hB:aH W2 (W.heap.size+1) 5 (cZ 1 (λ_=>s)):=by rw[<-hW2];exact aH.newAt _ _ _ zm
  rw[<-hx];exact uH hB 1
 obtain⟨fn,tmps,assign,body,hy,hR⟩:=hY (m-1) [] [s] Y W2 ((hJ []).below h0 hb2) (by simp[bZ]);dsimp only at hy;rw[hx]at hy;refine callsIn_of_wp Tryz.func108 rfl trivial ?_ rfl;simp only[Tryz.ntmps108,List.size_toArray,List.length_cons,List.length_nil,Nat.reduceAdd,Nat.reduceSub,Array.replicate_succ,Array.replicate_zero,List.push_toArray,List.append_toArray,List.nil_append,List.cons_append];gi_wp2
 refine⟨λh=>(by cases h),?_⟩;refine hR.mono ?_;rintro e W3 ⟨rfl,hst⟩;gi_wp2
 refine bodyPost_ret (results_none rfl _ _ _) rfl ⟨⟨_,rfl⟩,?_⟩;exact hst.later (Chg.of_below hb2)
end Go.Proofs.YtnjfebkelecgaaaGreatDoor
namespace Go.Proofs.YtnjfebkelecgaaaGreatDoor
open Go.RowKit Go.Shelf
attribute [local go_sem] Oper.semAt_some
def kd (n s k:Nat):List (List Nat):=(List.range k).flatMap λi=>(bZ n i).map ((s-i)::·)
def Kj (n s k:Nat):kd n s (k+1)=kd n s k++(bZ n k).map ((s-k)::·):=by unfold kd;rw[List.range_succ,List.flatMap_append];simp
def WG (n s:Nat):kd (n+1) s (s+1)=bZ (n+2) s:=rfl
def av4 (n s k:Nat)(hk:k<=s+1):kd n s k<+:kd n s (s+1):=by
 obtain⟨j,hj⟩:∃j,s+1=k+j:=⟨s+1-k,by omega⟩;rw[hj];clear hj hk;induction j with
 |zero=>exact List.prefix_refl _
 |succ j ih=>rw[<-Nat.add_assoc,Kj];exact ih.trans (List.prefix_append _ _)
def av5 (n s k:Nat)(hk:k<=s)(pre:List (List Nat))(x:List Nat)(h:(pre++[x])<+:bZ n k):
 (kd n s k++pre.map ((s-k)::·))++[(s-k)::x]<+:kd n s (s+1):=by
 refine List.IsPrefix.trans ?_ (av4 n s (k+1) zo);rw[Kj,List.append_assoc,List.prefix_append_right_inj];have:=h.map ((s-k)::·);simpa using this
def WF (J:List (List Nat)->(Nat->Prop)->World->Prop)(l t3 b4 n s k:Nat)(pre:List (List Nat))(Z:Nat->Prop)(W:World):Prop:=
 ∃Zj:Nat->Prop,Z=(λb=>Zj b\/b=t3\/b=b4)/\J (kd n s k++pre.map ((s-k)::·)) Zj W/\aH W t3 137 [.func (.yield l) #[] #[]]/\aH W b4 3 [ah ((s-k:Nat):Int)]/\¬Zj t3/\¬Zj b4
def av0 {J:List (List Nat)->(Nat->Prop)->World->Prop}(hJ:∀pre,wH (J pre))(l t3 b4 n s k:Nat)(pre:List (List Nat)):wH (WF J l t3 b4 n s k pre):=by rintro Z W W' ⟨Zj,rfl,hj,q3,q4,n3,n4⟩ hc;exact⟨Zj,rfl,hJ _ Zj W W' hj (hc.mono (λb _ h h2=>h (.inl h2))),hc.blk q3 (λh=>h (.inr (.inl rfl))),hc.blk q4 (λh=>h (.inr (.inr rfl))),n3,n4⟩
def avZ {J:List (List Nat)->(Nat->Prop)->World->Prop}(hL:∀pre,Gj (J pre))(l t3 b4 n s k:Nat)(pre:List (List Nat)):Gj (WF J l t3 b4 n s k pre):=by
 rintro Z W ⟨Zj,rfl,hj,q3,q4,n3,n4⟩ b (h|rfl|rfl)
 . exact hL _ Zj W hj b h
 . exact q3.lt
 . exact q4.lt
def agU (a:Act)(wr:World):Nat:=match (a.tmps.getD 4 undef:Value)with
 | Value.pointer (some p)=>(match (wr.cell? p:Option Value)with
   |some (Value.int _ v)=>(v+1).toNat
   |_=>0)
 |_=>0
def abr (a:Nat)(x:List Nat):ex (a::x)=ex [a]++ex x:=by unfold ex bs;apply ByteArray.ext;simp
def agT (n s:Nat)(x:List Nat)(h:x∈bZ n s):x.length=n:=by
 induction n using Nat.strongRecOn generalizing s x with
 | _ n ih=>
   match n,h with
   |0,h=>cases h
   |1,h=>simp[bZ]at h;subst h;rfl
   |n+2,h=>simp only[bZ,List.mem_flatMap,List.mem_map]at h;obtain⟨i,_,y,hy,rfl⟩:=h;simp[ih (n+1) zo i y hy]
def mark (D:Nat):Deferred:={target:=.collected D,args:=#[]}
def av2 (J:List (List Nat)->(Nat->Prop)->World->Prop)(l bn b2 n s:Nat)(N:Int)(W:World)(Y:Nat->Prop)(a:Act)(wr:World):Prop:=
 ∃(k:Nat) (Ds:List Nat) (b4:Nat) (Z:Nat->Prop) (u5 u15 u16 Xn Xo u19 u20 u21 u22 u23 u24 u25 u26 Xp u28 Xq Xr Xt u32 u33 Xu Xv:Value),a={tmps:=#[.func (.yield l) #[] #[],.pointer (some ⟨bn,0,none⟩),.pointer (some ⟨b2,0,none⟩),.pointer (some ⟨W.heap.size,0,none⟩),.pointer (some ⟨b4,0,none⟩),u5,ah N,aj false,undef,undef,undef,undef,undef,undef,ah (s:Int),u15,u16,Xn,Xo,u19,u20,u21,u22,u23,u24,u25,u26,Xp,u28,Xq,Xr,Xt,u32,u33,Xu,Xv],defers:=Ds.map mark}/\
  k<=s+1/\J (kd (n+1) s k) Z wr/\aH wr W.heap.size 137 [.func (.yield l) #[] #[]]/\aH wr b4 3 [ah ((s:Int)-k)]/\¬Z W.heap.size/\¬Z b4/\W.heap.size<b4/\Ds.Nodup/\
  (∀D∈Ds,wr.heap[D]?=some (.deferred (some []))/\¬Z D/\W.heap.size<=D)/\Chg Y W wr/\(∀b,Z b->Y b\/W.heap.size<=b)
def av8 (n:Nat)(hn:n+2<=255)(ih:∀bn b2 i,i<=255->EQ Tryz.prog 108 #[.pointer (some ⟨bn,0,none⟩),.pointer (some ⟨b2,0,none⟩)] (λx=>#[.string (ex x)]) (Oy bn b2 (n+1) i) (bZ (n+1) i))
 (bn b2 s:Nat) (hs:s<=255):EQ Tryz.prog 108 #[.pointer (some ⟨bn,0,none⟩),.pointer (some ⟨b2,0,none⟩)] (λx=>#[.string (ex x)]) (Oy bn b2 (n+2) s) (bZ (n+2) s):=by
 intro l J hJ hL hY m Y W h0 ⟨q1,q2,y1,y2⟩;rw[<-WG]at hY⊢;have c1:W.cell? ⟨bn,0,none⟩=some (ah ((n+2:Nat):Int)):=q1.cell 0;have c2:W.cell? ⟨b2,0,none⟩=some (ah s):=q2.cell 0;have l1:=q1.lt;have l2:=q2.lt;generalize hN:((n+2:Nat):Int)=N at*;have Tj:¬N=1:=by omega
 have Tk:IntKind.i64.wrap (N-1)=((n+1:Nat):Int):=by rw[IntKind.wrap_i64];omega
 generalize hM:((n+1:Nat):Int)=M at Tk;refine callsIn_of_wp_marks Tryz.func108 rfl trivial ?_ rfl;simp only[Tryz.ntmps108,List.size_toArray,List.length_cons,List.length_nil,Nat.reduceAdd,Nat.reduceSub,Array.replicate_succ,Array.replicate_zero,List.push_toArray,List.append_toArray,List.nil_append,List.cons_append];gi_wp2
 refine wpIn_loop (av2 J l bn b2 n s N W Y) agU ?start ?round;case start=>
  refine⟨0,[],W.heap.size+1,Y,_,_,_,_,_,_,_,_,_,_,_,_,_,_,_,_,_,_,_,_,_,_,rfl,by omega,?_,(aH.new W 137 _).alloc _,?_,λh=>?_,λh=>?_,by omega,List.nodup_nil,(λD h=>by cases h),?_,λb h=>.inl h⟩
  . exact(hJ []).below h0 (zl.alloc zm _)
  . have:=aH.newAt (W.alloc (.cells #[.func (.yield l) #[] #[]] 137)) 3 [ah (s:Int)] (b:=W.heap.size+1) zm;simpa using this
  . have:=hL _ _ _ h0 _ h;omega
  . have:=hL _ _ _ h0 _ h;omega
  . exact Chg.of_below (zl.alloc zm _)
 case round=>
  rintro a wr ⟨k,Ds,b4,Z,u5,u15,u16,Xn,Xo,u19,u20,u21,u22,u23,u24,u25,u26,Xp,u28,Xq,Xr,Xt,u32,u33,Xu,Xv,rfl,hk,hj,p3,p4,z3,z4,hb4,hnd,mg,vw,hz⟩;have d1:wr.cell? ⟨bn,0,none⟩=some (ah N):=vw.cell c1 y1;have d2:wr.cell? ⟨b2,0,none⟩=some (ah s):=vw.cell c2 y2;have d3:wr.cell? ⟨W.heap.size,0,none⟩=some (.func (.yield l) #[] #[]):=p3.cell 0;have d4:wr.cell? ⟨b4,0,none⟩=some (ah ((s:Int)-k)):=p4.cell 0;have e4:wr.frozen? ⟨b4,0,none⟩=false:=p4.free 0;have hlb:=p4.lt;generalize hV:(s:Int)-k=V at*;by_cases hks:k<=s
  . have hV0:0<=V:=by omega
    have hV1:IntKind.i64.wrap ((s:Int)-V)=(k:Int):=by rw[IntKind.wrap_i64];omega
    gi_wp2
    refine⟨trivial,λh=>(by cases h),?_⟩;refine(callsIn_wide.2 (agV M k wr)).mono ?_;rintro e w1 ⟨rfl,bX,eF,vv⟩;have MX:Hid (V=((s-k:Nat):Int)):=by show _=_;omega
    have hsz:wr.heap.size<=w1.heap.size:=vv.size;have azG:wr.heap.size+1<w1.heap.size:=eF.lt;have oc:J (kd (n+1) s k) Z w1:=(hJ _).below hj vv;have p31:=p3.below vv;have p41:=p4.below vv;have XH:∀b,Z b->b<wr.heap.size:=hL _ _ _ hj;gi_wp2
    refine ah8 (gf:=108) (lb:=#[.pointer (some ⟨wr.heap.size,0,none⟩),.pointer (some ⟨wr.heap.size+1,0,none⟩)]) rfl (enters_of Tryz.func108 zk rfl)
     (ih wr.heap.size (wr.heap.size+1) k zo) (λ_=>rfl) (WF J l W.heap.size b4 (n+1) s k) (av0 hJ _ _ _ _ _ _) (avZ hL _ _ _ _ _ _)
     (λb=>Z b\/b=W.heap.size\/b=b4) ?h0 ?hok (λx=>{tmps:=#[.func (.yield l) #[] #[],.pointer (some ⟨bn,0,none⟩),.pointer (some ⟨b2,0,none⟩),.pointer (some ⟨W.heap.size,0,none⟩),.pointer (some ⟨b4,0,none⟩),.string (ex x),ah N,aj false,undef,undef,undef,undef,undef,undef,ah (s:Int),ah V,aj true,Xn,Xo,ah N,ah M,ah (s:Int),ah V,ah (k:Int),.func (.func 108) #[] #[.pointer (some ⟨wr.heap.size,0,none⟩),.pointer (some ⟨wr.heap.size+1,0,none⟩)],.string (ex x),u26,Xp,u28,Xq,Xr,Xt,u32,u33,Xu,Xv],defers:=[]}) ?assign ?body ?done
    case h0=>exact⟨Z,rfl,by simpa using oc,p31,by rw[<-MX.out];exact p41,z3,z4⟩
    case hok=>
     intro W1 hg;have hbb:Bw w1 W1:=⟨hg.os,hg.tape,hg.output,hg.size,λk hk=>hg.block k hk (λe=>by cases e)⟩;refine⟨by rw[hM];exact bX.below hbb,eF.below hbb,?_,?_⟩
     . rintro((h|h|h) |h|h)
       . have:=XH _ h;omega
       . have:=p3.lt;omega
       . omega
       . omega
       . omega
     . rintro((h|h|h) |h|h)
       . have:=XH _ h;omega
       . have:=p3.lt;omega
       . omega
       . omega
       . omega
    case assign=>
     intro m' l' x W' K hK;gi_wp2
     exact hK
    case body=>
     rintro m' l' pre x Zb Wb ⟨Zj,rfl,hjb,r3,r4,n3,n4⟩ hpre hzb arJ;have f3:Wb.cell? ⟨W.heap.size,0,none⟩=some (.func (.yield l) #[] #[]):=r3.cell 0;have f4:Wb.cell? ⟨b4,0,none⟩=some (ah V):=by rw[MX.out];exact r4.cell 0
     have g3:=r3.lt;have g4:=r4.lt;obtain⟨W2,hW2⟩:=aI (Wb.alloc (.cells #[.int .u8 V] 5));have hb2:Bw Wb W2:=by rw[<-hW2];exact zl
     have hcu:IntKind.u8.wrap V=V:=by rw[IntKind.wrap_u8];omega
     obtain⟨y,hy0⟩:=aI (ex [s-k]);have Ni:(convert 84 9 (.slice (some ⟨Wb.heap.size,0,none⟩) 1 1)).run Tryz.prog W2=.ok (.string y) W2:=by
      have hB:aH W2 Wb.heap.size 5 (cZ 1 (λ_=>s-k)):=by rw[<-hW2,MX.out];exact aH.new _ _ _
      rw[<-hy0];exact uH hB 1
     obtain⟨v,hv⟩:=aI (ex x);obtain⟨z,hz0⟩:=aI (ex ((s-k)::x));have adp:y++v=z:=by rw[<-hy0,<-hv,<-hz0];exact(abr _ _).symm
     have hxl:x.length=n+1:=agT _ _ _ (List.IsPrefix.subset hpre zm);have aeP:¬9223372036854775807<y.size+v.size:=by rw[<-hy0,<-hv,gY,gY];simp;omega
     obtain⟨fn,tmps,assign,body,hy,hR⟩:=hY (m'-1) (kd (n+1) s k++pre.map ((s-k)::·)) ((s-k)::x) Zj W2 ((hJ _).below hjb hb2) (av5 _ _ _ hks _ _ hpre);rw[hz0]at hy;rw[hv];clear hxl;gi_wp2
     refine⟨λh=>(by cases h),?_⟩;refine RoundIn.mono (F:=Fence.wide.inRound l') hR ?_;rintro e W4 ⟨rfl,Zk,hjk,eX,Cf⟩;gi_wp2
     have aAi:=hb2.size;have r32:=r3.below hb2;have r42:=r4.below hb2;have tb3:¬Zk W.heap.size:=λh=>by rcases Cf _ h with h1|h1;exact n3 h1;omega
     have tb4:¬Zk b4:=λh=>by rcases Cf _ h with h1|h1;exact n4 h1;omega
     refine⟨(λb=>Zk b\/b=W.heap.size\/b=b4),⟨Zk,rfl,by simpa using hjk,eX.blk r32 n3,eX.blk r42 n4,tb3,tb4⟩,?_,?_⟩
     . exact((Chg.of_below hb2).trans eX (λb h=>.inl h)).mono (λb _ h=>.inl h)
     . rintro b (h|h|h)
       . rcases Cf b h with h1|h1
         . exact .inl (.inl h1)
         . exact .inr zo
       . exact .inl (.inr (.inl h))
       . exact .inl (.inr (.inr h))
    case done=>
     rintro W3 ⟨Z3,⟨⟨Zj,rfl,Nz,s3,s4,n3,n4⟩,hD3,hz3⟩,hc3,hz4⟩;have f4:W3.cell? ⟨b4,0,none⟩=some (ah V):=by rw[MX.out];exact s4.cell 0
     have g4:=s4.lt;have hdec:IntKind.i64.wrap (V-1)=V-1:=by rw[IntKind.wrap_i64];omega
     gi_wp2
     refine⟨⟨k+1,w1.heap.size::Ds,W3.heap.size,Zj,_,_,_,_,_,_,_,_,_,_,_,_,_,_,_,_,_,_,_,_,_,_,rfl,by omega,?_,?_,?_,?_,?_,?_,?_,?_,?_,?_⟩,?_⟩
     . rw[Kj];exact(hJ _).below Nz zl
     . exact s3.alloc _
     . rw[show(s:Int)-((k+1:Nat):Int)=V-1 by omega];exact aH.new _ _ _
     . exact n3
     . exact λh=>by have:=hL _ _ _ Nz _ h;omega
     . exact s3.lt
     . rw[List.nodup_cons];refine⟨λh=>?_,hnd⟩;have:=(Array.getElem?_eq_some_iff.1 (mg _ h).1).1;omega
     . intro D hD;have hW3:w1.heap.size<W3.heap.size:=(Array.getElem?_eq_some_iff.1 hD3).1;have hWl:=p3.lt;rcases List.mem_cons.1 hD with rfl|hD
       . refine⟨(Below.heap_alloc _ _ _ hW3).trans hD3,λh=>?_,by omega⟩;rcases hz3 _ (.inl h)with(h1|h1|h1) |h1
         . have:=XH _ h1;omega
         . omega
         . omega
         . omega
       . obtain⟨e1,e2,e3⟩:=mg D hD;have hDl:D<wr.heap.size:=(Array.getElem?_eq_some_iff.1 e1).1;have nd3:D≠W.heap.size:=by rintro rfl;have:wr.heap[W.heap.size]?=_:=p3;rw[e1]at this;cases this
         have nd4:D≠b4:=by rintro rfl;have:wr.heap[D]?=_:=p4;rw[e1]at this;cases this
         refine⟨?_,λh=>?_,e3⟩
         . refine(Below.heap_alloc _ _ _ zo).trans ((hc3.block D zo ?_).trans ((vv.block D hDl).trans e1));rintro(h|h|h)
           . exact e2 h
           . exact nd3 h
           . exact nd4 h
         . rcases hz3 _ (.inl h)with(h1|h1|h1) |h1
           . exact e2 h1
           . exact nd3 h1
           . exact nd4 h1
           . omega
     . refine((vw.trans (Chg.of_below (Y:=Y) vv) (λb h=>.inl h)).trans hc3 ?_).trans (Chg.of_below (Y:=Y) zl) (λb h=>.inl h);rintro b (h|h|h)
       . exact hz b h
       . exact .inr zo
       . exact .inr zo
     . intro b h;have hWl:=p3.lt;rcases hz3 _ (.inl h)with(h1|h1|h1) |h1
       . exact hz b h1
       . exact .inr zo
       . exact .inr zo
       . exact .inr zo
     . have v1:(W3.alloc (Obj.cells #[Value.int IntKind.i64 (V-1)] 3)).cell? ⟨W3.heap.size,0,none⟩=some (ah (V-1)):=(aH.new W3 3 [ah (V-1)]).cell 0;simp only[agU,Array.getD_eq_getD_getElem?];simp[v1,d4];omega
  . have hV0:¬0<=V:=by omega
    obtain rfl:k=s+1:=by omega
    gi_wp2
    refine aft Ds wr hnd (λD hD=>(mg D hD).1) (λw' hc=>?_);refine⟨_,results_none rfl _ _ _,⟨_,rfl⟩,Z,hJ _ _ _ _ hj (hc.mono (λb _ hb hZ=>(mg b hb).2.1 hZ)),vw.trans hc (λb hb=>.inr (mg b hb).2.2),?_⟩;intro b hb;exact hz b hb
def av6 (n:Nat)(hn:n+1<=255):∀(bn b2 s:Nat),s<=255->EQ Tryz.prog 108 #[.pointer (some ⟨bn,0,none⟩),.pointer (some ⟨b2,0,none⟩)] (λx=>#[.string (ex x)]) (Oy bn b2 (n+1) s) (bZ (n+1) s):=by
 induction n with
 |zero=>intro bn b2 s hs;exact av7 bn b2 s hs
 |succ n ih=>intro bn b2 s hs;exact av8 n zo (λbn b2 i hi=>ih zo bn b2 i hi) bn b2 s hs
end Go.Proofs.YtnjfebkelecgaaaGreatDoor
namespace Go.Proofs.YtnjfebkelecgaaaGreatDoor
open Go.RowKit
attribute [local go_sem ↓] Go.wp_at_zero Go.wp_at_succ
def cnt :Nat->Nat->Nat
 |0,_=>1
 |_+1,0=>1
 |i+1,s+1=>cnt (i+1) s+cnt i (s+1)
 termination_by i s=>i+s
def wM (s:Nat):cnt 0 s=1:=by unfold cnt;rfl
def ry (i:Nat):cnt i 0=1:=by cases i<;>(unfold cnt;rfl)
def AY (i s:Nat):cnt (i+1) (s+1)=cnt (i+1) s+cnt i (s+1):=by rw[cnt]
def aoe (N:Nat):∀i s,i+s<=N->(i+1) *cnt (i+1) s=(s+i+1) *cnt i s/\(s+1) *cnt i (s+1)=(s+i+1) *cnt i s:=by
 induction N with
 | zero=>
   intro i s h;obtain rfl:i=0:=by omega
   obtain rfl:s=0:=by omega
   simp[wM,ry]
 | succ N ih=>
   intro i s h;have h2:(s+1) *cnt i (s+1)=(s+i+1) *cnt i s:=by
    cases i with
    |zero=>simp[wM]
    |succ i=>obtain⟨a,b⟩:=ih i s zo;rw[AY];grind
   refine⟨?_,h2⟩;cases s with
   |zero=>simp[ry]
   |succ s=>obtain⟨a,b⟩:=ih i s zo;rw[AY];grind
def aof (i s:Nat):cnt i s* (s+(i+1))/(i+1)=cnt (i+1) s:=by have:=(aoe (i+s) i s (Nat.le_refl _)).1;rw[Nat.mul_comm,<-Nat.add_assoc,<-this,Nat.mul_div_cancel_left _ zo]
def aaT (i s:Nat):0<cnt i s:=by
 induction i generalizing s with
 |zero=>rw[wM];decide
 | succ i ih=>
   induction s with
   |zero=>rw[ry];decide
   |succ s ih2=>rw[AY];omega
def Mh (i s:Nat):cnt i s<=(s+1)^i:=by
 induction i with
 |zero=>rw[wM];simp
 | succ i ih=>
   have h:∀t,t<=s->cnt (i+1) t<=(t+1) * (s+1)^i:=by
    intro t;induction t with
    |zero=>intro _;rw[ry,Nat.zero_add,Nat.one_mul];exact Nat.pow_pos (n:=i) (by omega:0<s+1)
    | succ t iht=>
      intro ht;have h1:=iht zo;have h2:cnt i (t+1)<=cnt i s:=by
       clear iht h1 ih;obtain⟨d,rfl⟩:∃d,s=t+1+d:=⟨s-(t+1),by omega⟩;clear ht;induction d with
       |zero=>exact Nat.le_refl _
       | succ d ihd=>
         refine Nat.le_trans ihd ?_;cases i with
         |zero=>rw[wM,wM];exact Nat.le_refl _
         |succ i=>rw[<-Nat.add_assoc (t+1) d 1,AY];omega
      rw[AY,Nat.add_mul (t+1) 1];omega
   have:=h s (Nat.le_refl _);rw[Nat.pow_succ,Nat.mul_comm];exact this
def lv (i s:Nat):(bZ (i+1) s).length=cnt i s:=by
 induction i generalizing s with
 |zero=>rw[wM];rfl
 | succ i ih=>
   have h:∀k t,((List.range k).flatMap λj=>(bZ (i+1) j).map ((t-j)::·)).length=((List.range k).map (cnt i)).sum:=by
    intro k t;induction k with
    |zero=>rfl
    |succ k ihk=>rw[List.range_succ,List.flatMap_append,List.length_append,ihk,List.map_append,List.sum_append];simp[ih]
   have h2:∀s,((List.range (s+1)).map (cnt i)).sum=cnt (i+1) s:=by
    intro s;induction s with
    |zero=>simp[ry]
    |succ s ihs=>rw[List.range_succ,List.map_append,List.sum_append,ihs,AY];simp
   rw[bZ,h,h2]
def aaU {i s:Nat}(hi:i<=8)(hs:s<=20):cnt i s<=37822859361:=by refine Nat.le_trans (Mh i s) (Nat.le_trans (Nat.pow_le_pow_left (show s+1<=21 by omega) i) ?_);exact Nat.le_trans (Nat.pow_le_pow_right zd hi) zd
def aic (n:Int)(h: -9223372036854775808<=n/\n<=9223372036854775807):wrap64 n=n:=by unfold wrap64;omega
def Oo (n s:Nat)(w:World)(hn:1<=n)(iO:n<=9)(hs:s<=20):
 Cl 43 #[ah (n:Int),ah (s:Int)] w λe w'=>e=.returned (ah ((min (cnt (n-1) s) 513:Nat):Int))/\w'=w:=by
 go_enter Tryz.func43,Tryz.ntmps43;go_wp2;go_loopw[5,6] (λc i wr=>∃k:Nat,1<=k/\k<=n/\i=ah (k:Int)/\c=ah (cnt (k-1) s:Int)/\wr=w) (λ_ i _=>n-(intOf i).toNat);case atStart=>exact⟨1,by omega,by omega,rfl,by rw[wM];rfl,rfl⟩
 case round=>
  obtain⟨k,hk1,hk2,rfl,rfl,rfl⟩:=hrel;by_cases hlt:k<n
  . have hb:=aaU (i:=k-1) (s:=s) zo hs;have hst:=aof (k-1) s;rw[show k-1+1=k by omega]at hst;have hb2:=aaU (i:=k) (s:=s) zo hs;generalize hC:cnt (k-1) s=C at*;have hw1:IntKind.i64.wrap ((s:Int)+(k:Int))=((s+k:Nat):Int):=by rw[IntKind.wrap_i64];omega
    have hm:C* (s+k)<=37822859361*29:=Nat.mul_le_mul hb zo;have hval:min (wrap64 ((wrap64 ((C:Int) * ((s:Int)+(k:Int)))).tdiv (k:Int))) 1099511627776=(cnt k s:Int):=by rw[show(C:Int) * ((s:Int)+(k:Int))=((C* (s+k):Nat):Int)by rw[Int.natCast_mul,Int.natCast_add]];generalize hE:cnt k s=E at hst hb2⊢;generalize C* (s+k)=t at hst hm⊢;clear hE hC;rw[aic (t:Int) zo,Int.tdiv_eq_ediv_of_nonneg zo,<-Int.natCast_ediv,hst,aic (E:Int) zo];omega
    go_wp2;refine⟨⟨k+1,by omega,by omega,by simp,?_,trivial⟩,by simp[intOf];omega⟩;rfl
  . obtain rfl:k=n:=by omega
    go_wp2;go_ret;have hm:min ((cnt (k-1) s:Nat):Int) 513=((min (cnt (k-1) s) 513:Nat):Int):=by omega
    exact⟨by show Ending.returned (Value.int _ _)=_;rw[hm],rfl⟩
def JN (v d:Int)(w:World):
 Cl 63 #[ah v,ah d] w λe w'=>e=.returned (aj (decide (1<=v/\v<=8/\0<=d/\d<=20)))/\w'=w:=by
 go_enter Tryz.func63,Tryz.ntmps63;by_cases h1:1<=v
 . by_cases h2:v<=8
   . by_cases h3:0<=d
     . by_cases h4:d<=20
       . go_wp2;go_ret;exact⟨by simp[*],rfl⟩
       . go_wp2;go_ret;exact⟨by simp[*],rfl⟩
     . go_wp2;go_ret;exact⟨by simp[*];omega,rfl⟩
   . go_wp2;go_ret;exact⟨by simp[*];omega,rfl⟩
 . go_wp2;go_ret;exact⟨by simp[*];omega,rfl⟩
end Go.Proofs.YtnjfebkelecgaaaGreatDoor
