/- Package poly: merged. -/
import Derived.Test.YtbkopgdpcijfbaaGreatDoorZ7
import Derived.Test.YtbkopgdpcijfbaaGreatDoorZ13
import Derived.Test.YtbkopgdpcijfbaaGreatDoorZ15
import Derived.Test.YtbkopgdpcijfbaaGreatDoorZ14
set_option linter.all false
set_option maxRecDepth 100000
set_option maxHeartbeats 16000000
namespace Go.Proofs.YtbkopgdpcijfbaaGreatDoor
open Go.RowKit
attribute [local go_sem ↓] Go.wp_at_zero Go.wp_at_succ
def Tryz.aGC :(Tryz.prog.info? 90).map (λi=>(i.zero,i.size,i.bytes))=some (some (.agg #[.string (bs []),ag false,.string (bs []),af 0]),4,48):=by kernel_rfl
def FB (ts:List Trm):(ts.flatMap aY).length=ts.length*4:=kQ aY 4 (λ_=>rfl) ts
def Ya (ts:List Trm):∀u∈ts.flatMap aY,u.oneCell'=true:=by intro u hu;obtain⟨r,_,hr⟩:=List.mem_flatMap.1 hu;simp only[aY,List.mem_cons,List.not_mem_nil,or_false]at hr;rcases hr with rfl|rfl|rfl|rfl<;>rfl
def XZ (t:Trm)(ts:List Trm):(t::ts).flatMap aY=aY t++ts.flatMap aY:=List.flatMap_cons
def At.tail {w:World}{b o c:Nat}{x:Trm}{ts:List Trm}(h:At w (some ⟨b,o,none⟩) ((x::ts).flatMap aY))(hc:ts.length+1<=c):At w (if c=1 then some ⟨b,o,none⟩else some ⟨b,o+4,none⟩) (ts.flatMap aY):=by
 have hk:=At.cut (k:=1) (size:=4) (n:=ts.length+1) (cap:=c) h (by rw[FB];rfl) zo hc;have e:((x::ts).flatMap aY).drop (1*4)=ts.flatMap aY:=by rw[XZ];rfl
 rw[e]at hk;exact hk
def Sl.tail {b o c n:Nat}(h:Sl (Option.some ⟨b,o,none⟩) (n+1) c):Sl (if c=1 then Option.some (⟨b,o,none⟩:Addr)else Option.some ⟨b,o+4,none⟩) n (c-1):=by refine⟨by have:=h.1;omega,λe=>?_⟩;split at e<;>cases e
def azq (l l':List UInt8):(yM l l'= -1/\Op.bytesLess l l'=true)\/(yM l l'=1/\Op.bytesLess l l'=false/\Op.bytesLess l' l=true)\/(yM l l'=0/\Op.bytesLess l l'=false/\Op.bytesLess l' l=false):=by
 unfold yM;cases h1:Op.bytesLess l l' with
 |true=>exact .inl ⟨by simp,rfl⟩
 | false=>
   cases h2:Op.bytesLess l' l with
   |true=>exact .inr (.inl ⟨by simp,rfl,rfl⟩)
   |false=>exact .inr (.inr ⟨by simp,rfl,rfl⟩)
def ahG (a:Option Addr)(n cap:Nat)(ta:List Trm)(a':Option Addr)(n' cap':Nat)(tb:List Trm)(B:Nat)(w:World)(hn:ta.length=n)(hn':tb.length=n')(hs:Sl a n cap)(hs':Sl a' n' cap')(hl:n<=65536)(hl':n'<=65536)(ha:At w a (ta.flatMap aY))(ha':At w a' (tb.flatMap aY))
 (ve:∀t∈ta,Fit B t.2) (Ag:∀t∈tb,Fit B t.2) (hB:B+2<=268435456) (hT:aC w):
 Cl 224 #[.slice a n cap,.slice a' n' cap',.func (.func 225) #[] #[],.func (.func 226) #[] #[]] w λe w'=>∃v',e=.returned v'/\w'.ownsRow w.heap.size 90 4 v' (ij ta tb).length ((ij ta tb).flatMap aY)/\Bw w w':=by
 obtain⟨i0,hi,hz0,hz1,hz2⟩:=info_parts Tryz.aGC;obtain⟨M,hM⟩:=aB (ij ta tb);have IE:=enters_of Tryz.func225 zk rfl;have ID:=enters_of Tryz.func226 zk rfl;rw[hM];obtain⟨Hi,eu,ey,dM,HM,QQ,QP,Hs,Hs',Ha,yU,GD⟩:=ie hi hz0 hz1 hz2 hM IE ID hs hs' ha ha' ve;obtain⟨GF,HT,Hn,Hn'⟩:=dv Ag hT hn hn';obtain⟨N,hN⟩:=aB (n+n');have hNI:(n:Int)+(n':Int)=(N:Int):=by omega
 have HN:=aj hN;clear hi hz0 hz1 hz2 hM IE ID hs hs' ha ha' ve Ag hT hn hn' hN;have Nv:N<=131072:=by have:=HN.out;omega
 go_enter Tryz.func224,Tryz.ntmps224;go_wp2_with (at_make;refine wpList_make_own _ rfl _ _ 22 rfl w.heap.size 90 i0 _ 4 Tryz.underlying22 Hi.out eu.out ey.out _ _ _ N rfl rfl (by first|exact hNI|rfl) (by rw[dM.out];omega) zx (Nat.le_refl _) ?_;intro w1 hown hgrow);obtain⟨hb1,rT⟩:=aK ((Below.refl w.heap.size w).grown hgrow (Nat.le_refl _) (by intro k hk;cases hk)) hown;clear hown hgrow hNI
 go_loopw[0,1,9] (λva vb vo wr=>∃(ra rb acc:List Trm) (p q ca cb:Nat) (aa ab:Option Addr) (v:Value),v=vo/\va=.slice aa p ca/\vb=.slice ab q cb/\ra.length=p/\rb.length=q/\Sl aa p ca/\Sl ab q cb/\At w aa (ra.flatMap aY)/\At w ab (rb.flatMap aY)/\
  (∀t∈ra,Fit B t.2)/\(∀t∈rb,Fit B t.2)/\wr.ownsRow w.heap.size 90 4 v acc.length (acc.flatMap aY)/\acc.length+p+q<=N/\acc++ij ra rb=M/\Bw w wr) (λva vb _ _=>(AB va+AB vb).toNat)
 case atStart=>exact⟨ta,tb,[],n,n',cap,cap',a,a',_,rfl,rfl,rfl,Hn.out,Hn'.out,Hs.out,Hs'.out,Ha.out,yU.out,GD.out,GF.out,rT.out,by rw[<-HN.out];simp,by simpa using HM.out,hb1.out⟩
 case round=>
  clear hb1 rT Ha yU Hs Hs' GD GF Hn Hn' HM;obtain⟨ra,rb,acc,p,q,ca,cb,aa,ab,v,rfl,rfl,rfl,yo,vz,hsa,wO,hat,hat',ve,Ag,hov,hlen,hM,pb⟩:=hrel;by_cases Cx:0<p/\0<q
  . obtain ⟨hp,hq⟩:=Cx;obtain⟨x,ra,rfl⟩:∃x l,ra=x::l:=by cases ra with
     |nil=>simp at yo;omega
     |cons x l=>exact⟨x,l,rfl⟩
    obtain⟨y,rb,rfl⟩:∃x l,rb=x::l:=by cases rb with
     |nil=>simp at vz;omega
     |cons x l=>exact⟨x,l,rfl⟩
    obtain⟨l,s,m,e⟩:=x;obtain⟨l',s',m',e'⟩:=y;obtain⟨p,rfl⟩:∃p',p=p'+1:=⟨p-1,by omega⟩;obtain⟨q,rfl⟩:∃q',q=q'+1:=⟨q-1,by omega⟩;have mY:=ve (l,s,m,e) zm;have hfy:=Ag (l',s',m',e') zm;have aeT:∀t∈ra,Fit B t.2:=λt ht=>ve t (by simp[ht]);have aeU:∀t∈rb,Fit B t.2:=λt ht=>Ag t (by simp[ht]);obtain⟨b1,o1,rfl,hw1⟩:=(hat.below pb).term 0 zm rfl;obtain⟨b2,o2,rfl,hw2⟩:=(hat'.below pb).term 0 zm rfl;simp only[Nat.zero_mul,Nat.add_zero]at hw1 hw2;have ou:b1<w.heap.size:=hat.lt (by rw[XZ];simp[aY]);have lu:b2<w.heap.size:=hat'.lt (by rw[XZ];simp[aY]);have EM:=hat.tail (c:=ca) (by have:=hsa.1;simp at yo;omega);have ky:=hat'.tail (c:=cb) (by have:=wO.1;simp at vz;omega);have agu:=hsa.tail;have agv:=wO.tail;have ub:=sI (p+1) ca 0 0 (rfl:(some ⟨b1,o1,none⟩:Option Addr)=_) zo rfl;have Ay:=sI (q+1) cb 0 0 (rfl:(some ⟨b2,o2,none⟩:Option Addr)=_) zo rfl;rw[Nat.zero_mul,Nat.add_zero]at ub Ay;have hca:p+1<=ca:=hsa.1;have hcb:q+1<=cb:=wO.1;have RO:Hid (ra.length=p):=by show _=_;simpa using yo
    have RP:Hid (rb.length=q):=by show _=_;simpa using vz
    obtain⟨RR,DR,aaN,aaO,Hta,rV,dL,Qq,td,GI,GD,GF⟩:=ie hsa wO agu agv EM ky hat hat' mY hfy aeT aeU;obtain⟨alR,alS,eN,HM,bo,fU⟩:=gU ve Ag hov hM pb (HT.out.below pb);have Hx:Hid (aZ wr b1 o1 [ah l,ag s,ah m,af e]):=hw1;have Hy:Hid (aZ wr b2 o2 [ah l',ag s',ah m',af e']):=hw2;have agb:=yo;have agc:=vz;simp only[List.length_cons]at agb agc;clear yo vz hsa wO hat hat' ve Ag hov hM pb mY hfy aeT aeU hw1 hw2 EM ky agu agv agb agc;have Hb:=hbz wr;have Tv:=QQ.out;have kD:=bo.out.size;obtain⟨gs,vk⟩:∃g,yM l l'=g:=⟨_,rfl⟩;have VJ:=λW=>azr l s m e l' s' m' e' W;have hcs:=azq l l';rw[vk]at VJ hcs;obtain⟨Hsd,Bq⟩:=aK VJ hcs;clear VJ hcs vk;go_wp2_with fail;obtain⟨ae,ak⟩:=qZ (Hx.an<|Hy.an trivial);have HU:Hid (aC wr):=fU.out;have ae:=Hb.an<|HU.an ae
    refine fT 999 ae (fH 9 0x110e0d0b0907050301) ?_;refine cG ?_;refine cV ae (Hsd.out _) λw2 ae=>?_;refine cG ?_;refine fR ae λak=>?_;have hcs:=Bq.out;have hp1:(1:Int)<=(p:Int)+1:=by omega
    have hq1:(1:Int)<=(q:Int)+1:=by omega
    clear Bq Hsd Tv;rcases hcs with⟨rfl,h1⟩ |⟨rfl,h1,h2⟩ |⟨rfl,h1,h2⟩
    . have Bl:Hid ((acc++[(l,s,m,e)])++ij ra ((l',s',m',e')::rb)=M):=by
       show _=_
       rw[<-HM.out,yI,if_pos h1];simp
      have Bf:Hid ((acc++[(l,s,m,e)]).flatMap aY=acc.flatMap aY++[ah l,ag s,ah m,af e]):=by
       show _=_
       rw[List.flatMap_append];rfl
      clear h1;go_wp2_with fail;obtain⟨Hb,HU,Hx,Hy,_⟩:=ae;obtain⟨x0,x1,x2,x3⟩:=Hx.out.w4;obtain⟨y0,y1,y2,y3⟩:=Hy.out.w4;refine fh (λw'=>aH w' b1 o1 (ah l)/\aH w' b1 (o1+1) (ag s)/\aH w' b1 (o1+2) (ah m)/\aH w' b1 (o1+3) (af e)) (λi=>Nat.blt i 100000) [(0,true),(1,true),(2,true),(3,true),(6,true),(7,true),(4,false),(5,false),(8,true),(9,true)] zk zk rfl zk zc ⟨x0,x1,x2,x3⟩ ?_;iterate 6 (refine pT rfl rfl ?_ (by intro w' ⟨q0,q1,q2,q3⟩;go_simp;try with_reducible rfl);try simp only[UU])
      refine aM rfl rfl (λK hK=>?_);go_simp;refine hK _ _ (λ_=>⟨aU x0,aU x1,aU x2,aU x3⟩) ?_;try simp only[UU]
      refine cB (λW3=>ar W3 (w2.heap.size) 90 [ah l,ag s,ah m,af e]/\Bw w2 W3) (by first|exact iX|exact iY) ?_;rintro W3 ⟨qc,ai⟩;replace Hx:=kW Hx ai;replace Hy:=kW Hy ai;replace HU:=kT HU ai;have Hc:=aj qc;clear qc;obtain⟨x0,x1,x2,x3⟩:=Hx.out.w4;obtain⟨y0,y1,y2,y3⟩:=Hy.out.w4;obtain⟨c0,c1,c2,c3⟩:=Hc.out.c4;replace Hb:=aW Hb ai;refine aM rfl rfl (λK hK=>?_);have rH:=ownsRow_below eN.out Hb.out;have hs3:=Hb.out.size;refine wp_append_own _ _ _ 22 rfl w.heap.size 90 i0 _ 4 48 Tryz.underlying22 Hi.out eu.out ey.out dM.out rfl zd v acc.length (acc.flatMap aY) rfl rH ⟨w2.heap.size,0,none⟩ 1 1 [ah l,ag s,ah m,af e] rfl rfl (ji Hc.out) zy zx zo zo ?_;intro v' w8 gm cF _;have nb:∀b,b<w.heap.size->some b≠v.ownBlock:=λb hb e=>by have:=eo rH b e.symm;omega
      refine hK _ _ (λ_=>⟨eF cF x0 (nb _ ou),eF cF x1 (nb _ ou),eF cF x2 (nb _ ou),eF cF x3 (nb _ ou)⟩) ?_;try simp only[UU]
      iterate 2 (refine pT rfl rfl ?_;try simp only[UU])
      simp only[bH];have Gt:=aj ((aI bo.out Hb.out).grown cF zo (λj e=>eo rH j e));have rS:Hid (w8.ownsRow w.heap.size 90 4 v' (acc++[(l,s,m,e)]).length ((acc++[(l,s,m,e)]).flatMap aY)):=by
       show w8.ownsRow _ _ _ _ _ _
       rw[Bf.out,List.length_append];exact gm
      clear nb rH gm cF x0 x1 x2 x3 y0 y1 y2 y3 c0 c1 c2 c3 ub Ay;go_wp2;go_roundw;case rel=>exact⟨ra,((l',s',m',e')::rb),acc++[(l,s,m,e)],p,(q+1),_,_,_,_,v',rfl,rfl,rfl,RO.out,(by have:=RP.out;simp;exact this),aaN.out,DR.out,Hta.out,Qq.out,GD.out,alS.out,rS.out,by simp;omega,Bl.out,Gt.out⟩
      case measure=>simp[AB];omega
    ·
     have Bl:Hid ((acc++[(l',s',m',e')])++ij ((l,s,m,e)::ra) rb=M):=by
      show _=_
      rw[<-HM.out,yI,if_neg (by rw[h1];decide),if_pos h2];simp
     have Bf:Hid ((acc++[(l',s',m',e')]).flatMap aY=acc.flatMap aY++[ah l',ag s',ah m',af e']):=by
      show _=_
      rw[List.flatMap_append];rfl
     clear h1 h2
     go_wp2_with fail
     obtain⟨Hb,HU,Hx,Hy,_⟩:=ae
     obtain⟨x0,x1,x2,x3⟩:=Hx.out.w4
     obtain⟨y0,y1,y2,y3⟩:=Hy.out.w4
     refine fh (λw'=>aH w' b2 o2 (ah l')/\aH w' b2 (o2+1) (ag s')/\aH w' b2 (o2+2) (ah m')/\aH w' b2 (o2+3) (af e')) (λi=>Nat.blt i 100000) [(0,true),(1,true),(2,true),(3,true),(6,true),(7,true),(4,false),(5,false),(8,true),(9,true)] zk zk rfl zk zc ⟨y0,y1,y2,y3⟩ ?_
     iterate 6 (refine pT rfl rfl ?_ (by intro w' ⟨q0,q1,q2,q3⟩;go_simp;try with_reducible rfl);try simp only[UU])
     refine aM rfl rfl (λK hK=>?_)
     go_simp
     refine hK _ _ (λ_=>⟨aU y0,aU y1,aU y2,aU y3⟩) ?_
     try simp only[UU]
     refine cB (λW3=>ar W3 (w2.heap.size) 90 [ah l',ag s',ah m',af e']/\Bw w2 W3) (by first|exact iX|exact iY) ?_
     rintro W3 ⟨qc,ai⟩
     clear x0 x1 x2 x3
     clear y0 y1 y2 y3
     replace Hx:=kW Hx ai
     replace Hy:=kW Hy ai
     replace HU:=kT HU ai
     have Hc:=aj qc;clear qc
     obtain⟨x0,x1,x2,x3⟩:=Hx.out.w4
     obtain⟨y0,y1,y2,y3⟩:=Hy.out.w4
     obtain⟨c0,c1,c2,c3⟩:=Hc.out.c4
     replace Hb:=aW Hb ai
     refine aM rfl rfl (λK hK=>?_)
     have rH:=ownsRow_below eN.out Hb.out
     have hs3:=Hb.out.size
     refine wp_append_own _ _ _ 22 rfl w.heap.size 90 i0 _ 4 48 Tryz.underlying22 Hi.out eu.out ey.out dM.out rfl zd v acc.length (acc.flatMap aY) rfl rH ⟨w2.heap.size,0,none⟩ 1 1 [ah l',ag s',ah m',af e'] rfl rfl (ji Hc.out) zy zx zo zo ?_
     intro v' w8 gm cF _
     have nb:∀b,b<w.heap.size->some b≠v.ownBlock:=λb hb e=>by have:=eo rH b e.symm;omega
     refine hK _ _ (λ_=>⟨eF cF y0 (nb _ lu),eF cF y1 (nb _ lu),eF cF y2 (nb _ lu),eF cF y3 (nb _ lu)⟩) ?_
     try simp only[UU]
     iterate 2 (refine pT rfl rfl ?_;try simp only[UU])
     simp only[bH]
     have Gt:=aj ((aI bo.out Hb.out).grown cF zo (λj e=>eo rH j e))
     have rS:Hid (w8.ownsRow w.heap.size 90 4 v' (acc++[(l',s',m',e')]).length ((acc++[(l',s',m',e')]).flatMap aY)):=by
      show w8.ownsRow _ _ _ _ _ _
      rw[Bf.out,List.length_append];exact gm
     clear nb rH gm cF x0 x1 x2 x3 y0 y1 y2 y3 c0 c1 c2 c3 ub Ay
     go_wp2
     go_roundw
     case rel=>exact⟨((l,s,m,e)::ra),rb,acc++[(l',s',m',e')],(p+1),q,_,_,_,_,v',rfl,rfl,rfl,(by have:=RO.out;simp;exact this),RP.out,RR.out,aaO.out,dL.out,rV.out,alR.out,GF.out,rS.out,by simp;omega,Bl.out,Gt.out⟩
     case measure=>simp[AB];omega
    ·
     obtain⟨S,hS⟩:=aB (au (s,m,e)+au (s',m',e'))
     have HS:=aj hS
     have Bl:Hid ((acc++[(l,canon S)])++ij ra rb=M):=by
      show _=_
      rw[<-HM.out,yI,if_neg (by rw[h1];decide),if_neg (by rw[h2];decide)];simp;rw[<-hS];rfl
     have Bf:Hid ((acc++[(l,canon S)]).flatMap aY=acc.flatMap aY++[ah l,ag (az (dN S)),ah (nt (dN S).natAbs),af (dE S)]):=by
      show _=_
      rw[List.flatMap_append];rfl
     clear h1 h2 hS
     have MS:=QP.out
     go_wp2_with fail
     obtain⟨Hb,HU,Hx,Hy,_⟩:=ae
     obtain⟨x0,x1,x2,x3⟩:=Hx.out.w4
     obtain⟨y0,y1,y2,y3⟩:=Hy.out.w4
     refine fh (λw'=>aH w' b1 o1 (ah l)/\aH w' b1 (o1+1) (ag s)/\aH w' b1 (o1+2) (ah m)/\aH w' b1 (o1+3) (af e)/\aH w' b2 o2 (ah l')/\aH w' b2 (o2+1) (ag s')/\aH w' b2 (o2+2) (ah m')/\aH w' b2 (o2+3) (af e')) (λi=>Nat.blt i 100000) [(0,true),(1,true),(2,true),(3,true),(4,true),(5,true),(6,true),(7,true),(11,true),(12,true),(13,true),(14,true),(8,false),(9,false),(10,false),(15,true),(16,true),(17,true)] zk zk rfl zk zc ⟨x0,x1,x2,x3,y0,y1,y2,y3⟩ ?_
     iterate 12 (refine pT rfl rfl ?_ (by intro w' ⟨q0,q1,q2,q3,q4,q5,q6,q7⟩;go_simp;try with_reducible rfl);try simp only[UU])
     refine aM rfl rfl (λK hK=>?_)
     go_simp
     with_reducible refine(az7 l s m e l' s' m' e' S B HS.out _ td.out GI.out hB (by first|exact HU.out|exact aC.drew HU.out|exact aC.alloc HU.out _|exact aC.drew (aC.alloc HU.out _) |exact aC.alloc (aC.drew HU.out) _)).mono ?_
     rintro e w4 ⟨rfl,hq⟩
     have ai:Bw w2 w4:=by first|exact hq|exact cu hq
     clear x0 x1 x2 x3
     clear y0 y1 y2 y3
     replace Hx:=kW Hx ai
     replace Hy:=kW Hy ai
     replace HU:=kT HU ai
     obtain⟨x0,x1,x2,x3⟩:=Hx.out.w4
     obtain⟨y0,y1,y2,y3⟩:=Hy.out.w4
     replace Hb:=aW Hb ai
     refine hK _ _ (λ_=>⟨x0,x1,x2,x3,y0,y1,y2,y3⟩) ?_
     try simp only[UU]
     refine aM rfl rfl (λK hK=>?_)
     go_simp
     refine hK _ _ (λ_=>⟨aU x0,aU x1,aU x2,aU x3,aU y0,aU y1,aU y2,aU y3⟩) ?_
     try simp only[UU]
     refine cB (λW5=>ar W5 (w4.heap.size) 90 [ah l,ag (az (dN S)),ah (nt (dN S).natAbs),af (dE S)]/\Bw w4 W5) (by first|exact iX|exact iY) ?_
     rintro W5 ⟨qc,ai⟩
     clear x0 x1 x2 x3
     clear y0 y1 y2 y3
     replace Hx:=kW Hx ai
     replace Hy:=kW Hy ai
     replace HU:=kT HU ai
     have Hc:=aj qc;clear qc
     obtain⟨x0,x1,x2,x3⟩:=Hx.out.w4
     obtain⟨y0,y1,y2,y3⟩:=Hy.out.w4
     obtain⟨c0,c1,c2,c3⟩:=Hc.out.c4
     replace Hb:=aW Hb ai
     refine aM rfl rfl (λK hK=>?_)
     have rH:=ownsRow_below eN.out Hb.out
     have hs3:=Hb.out.size
     refine wp_append_own _ _ _ 22 rfl w.heap.size 90 i0 _ 4 48 Tryz.underlying22 Hi.out eu.out ey.out dM.out rfl zd v acc.length (acc.flatMap aY) rfl rH ⟨w4.heap.size,0,none⟩ 1 1 [ah l,ag (az (dN S)),ah (nt (dN S).natAbs),af (dE S)] rfl rfl (ji Hc.out) zy zx zo zo ?_
     intro v' w8 gm cF _
     have nb:∀b,b<w.heap.size->some b≠v.ownBlock:=λb hb e=>by have:=eo rH b e.symm;omega
     refine hK _ _ (λ_=>⟨eF cF x0 (nb _ ou),eF cF x1 (nb _ ou),eF cF x2 (nb _ ou),eF cF x3 (nb _ ou),eF cF y0 (nb _ lu),eF cF y1 (nb _ lu),eF cF y2 (nb _ lu),eF cF y3 (nb _ lu)⟩) ?_
     try simp only[UU]
     iterate 3 (refine pT rfl rfl ?_;try simp only[UU])
     simp only[bH]
     have Gt:=aj ((aI bo.out Hb.out).grown cF zo (λj e=>eo rH j e))
     have rS:Hid (w8.ownsRow w.heap.size 90 4 v' (acc++[(l,canon S)]).length ((acc++[(l,canon S)]).flatMap aY)):=by
      show w8.ownsRow _ _ _ _ _ _
      rw[Bf.out,List.length_append];exact gm
     clear nb rH gm cF x0 x1 x2 x3 y0 y1 y2 y3 c0 c1 c2 c3 ub Ay
     go_wp2
     go_roundw
     case rel=>exact⟨ra,rb,acc++[(l,canon S)],p,q,_,_,_,_,v',rfl,rfl,rfl,RO.out,RP.out,aaN.out,aaO.out,Hta.out,rV.out,GD.out,GF.out,rS.out,by simp;omega,Bl.out,Gt.out⟩
     case measure=>simp[AB];omega
  . have hmr:ij ra rb=ra++rb:=by
     have:p=0\/q=0:=by omega
     rcases this with rfl|rfl
     . rw[List.eq_nil_of_length_eq_zero yo,CK];rfl
     . rw[List.eq_nil_of_length_eq_zero vz,CL];simp
    have hML:M.length=acc.length+p+q:=by rw[<-hM,hmr];simp[yo,vz];omega
    have Bf:Hid (M.flatMap aY=(acc.flatMap aY++ra.flatMap aY)++rb.flatMap aY):=by
     show _=_
     rw[<-hM,hmr,<-List.append_assoc,List.flatMap_append,List.flatMap_append]
    have hlr:(ra.flatMap aY).length=p*4:=by rw[FB,yo]
    have afs:(rb.flatMap aY).length=q*4:=by rw[FB,vz]
    have kY:=hat.below pb;have aD0:=hlen;obtain⟨Ma,amn,mE,dL,eN,bo,RR,DR,HML⟩:=CG hlr afs kY hat' hov pb hsa wO hML;clear yo vz hmr hlr afs hat hat' kY hov pb hsa wO hM ve Ag hML;have hsz:=bo.out.size;by_cases h0:0<p
    all_goals
     go_wp2_with (first| (at_builtin;refine YA rfl (.tmp 70) (.tmp 71) 22 rfl w.heap.size 90 i0 _ 4 48 Tryz.underlying22 Hi.out eu.out ey.out dM.out rfl zd v acc.length (acc.flatMap aY) rfl eN.out aa p ca (ra.flatMap aY) rfl RR.out Ma.out mE.out (Ya ra) zx zo hsz ?_;intro v1 w2 iA hg1 hb1) | (at_builtin;refine YA rfl (.tmp 72) (.tmp 73) 22 rfl w.heap.size 90 i0 _ 4 48 Tryz.underlying22 Hi.out eu.out ey.out dM.out rfl zd v1 (acc.length+p) (acc.flatMap aY++ra.flatMap aY) rfl iA ab q cb (rb.flatMap aY) rfl DR.out amn.out (dL.out.below (bo.out.grown hg1 hsz (λj e=>eo eN.out j e))) (Ya rb) zx zo (Nat.le_trans hsz hg1.size) ?_;intro v2 w3 gS hg2 hb2))
     go_ret
     refine⟨v2,rfl,?_,(bo.out.grown hg1 hsz (λj e=>eo eN.out j e)).grown hg2 (Nat.le_trans hsz hg1.size) (λj e=>eo iA j e)⟩
     rw[HML.out,Bf.out];exact gS
end Go.Proofs.YtbkopgdpcijfbaaGreatDoor
namespace Go.Proofs.YtbkopgdpcijfbaaGreatDoor
open Go.RowKit
def aAq (ts:List Trm)(i:Nat)(hi:i<ts.length)(t:Trm):(((((ts.flatMap aY).set (i*4) (ah t.1)).set (i*4+1) (ag t.2.1)).set (i*4+2) (ah t.2.2.1)).set (i*4+3) (af t.2.2.2))=(ts.set i t).flatMap aY:=by
 induction ts generalizing i with
 |nil=>simp at hi
 | cons x ts ih=>
   have e:∀(y:Trm) zs,(y::zs).flatMap aY=ah y.1::ag y.2.1::ah y.2.2.1::af y.2.2.2::zs.flatMap aY:=λy zs=>rfl;cases i with
   |zero=>rw[e];rfl
   |succ i=>rw[List.set_cons_succ,e,e,<-ih i (by simpa using hi),show(i+1) *4=i*4+1+1+1+1 by omega];rfl
def aAp (ts:List Trm)(i:Nat)(hi:i<ts.length)(r:Raw):((((ts.flatMap aY).set (i*4+1) (ag r.1)).set (i*4+2) (ah r.2.1)).set (i*4+3) (af r.2.2))=(ts.set i (ts[i].1,r)).flatMap aY:=by
 induction ts generalizing i with
 |nil=>simp at hi
 | cons x ts ih=>
   have e:∀(y:Trm) zs,(y::zs).flatMap aY=ah y.1::ag y.2.1::ah y.2.2.1::af y.2.2.2::zs.flatMap aY:=λy zs=>rfl;cases i with
   |zero=>rw[e];rfl
   |succ i=>rw[List.set_cons_succ,e,e,List.getElem_cons_succ,<-ih i (by simpa using hi),show(i+1) *4=i*4+1+1+1+1 by omega];rfl
def ug {w:World}{base:Nat}{e:TypeId}{size n cap g:Nat}{xs:List Value}(h:w.ownsRow base e size (.slice (some ⟨g,0,none⟩) n cap) n xs)(o:Nat):w.frozen? ⟨g,o,none⟩=false:=by
 rcases h.2 with⟨h1,_⟩ |⟨g',cap',cur,h1,hb,hg,_⟩
 . simp at h1
 . simp only[Value.slice.injEq,Option.some.injEq,Addr.mk.injEq,and_true,true_and]at h1;obtain⟨rfl,rfl⟩:=h1;have h4:ar w g e cur.toList:=by unfold ar;simpa using hg
   exact h4.free o
def Fv {w:World}{base:Nat}{e:TypeId}{size n cap g:Nat}{xs:List Value}(h:w.ownsRow base e size (.slice (some ⟨g,0,none⟩) n cap) n xs):base<=g/\g<w.heap.size:=by
 rcases h.2 with⟨h1,_⟩ |⟨g',cap',cur,h1,hb,hg,_⟩
 . simp at h1
 . simp only[Value.slice.injEq,Option.some.injEq,Addr.mk.injEq,and_true,true_and]at h1;obtain⟨rfl,rfl⟩:=h1;exact⟨hb,(Array.getElem?_eq_some_iff.1 hg).1⟩
def Pj {w:World}{base n cap g:Nat}{e:TypeId}{ts:List Trm}(h:w.ownsRow base e 4 (.slice (some ⟨g,0,none⟩) n cap) n (ts.flatMap aY))(k:Nat)(hk:k<ts.length){l:List UInt8}{s:Bool}{m:List UInt8}{ex:Int}(hx:ts[k]=(l,s,m,ex)):
 aZ w g (k*4) [ah l,ag s,ah m,af ex]:=by
 obtain⟨a,c,hv,hat,_⟩:=dZ h;simp only[Value.slice.injEq,true_and]at hv;obtain⟨rfl,rfl⟩:=hv;obtain⟨b,o,hab,hw⟩:=hat.term k hk hx;simp only[Option.some.injEq,Addr.mk.injEq,and_true]at hab;obtain⟨rfl,rfl⟩:=hab;rwa [Nat.zero_add]at hw
def axy {w:World}{base n cap g:Nat}{e:TypeId}{ts:List Trm}(h:w.ownsRow base e 4 (.slice (some ⟨g,0,none⟩) n cap) n (ts.flatMap aY))(i:Nat)(hi:i<ts.length)(l:List UInt8)(s:Bool)(m:List UInt8)(ex:Int):
 ((((w.setCell ⟨g,i*4,none⟩ (ah l)).setCell ⟨g,i*4+1,none⟩ (ag s)).setCell ⟨g,i*4+2,none⟩ (ah m)).setCell ⟨g,i*4+3,none⟩ (af ex)).ownsRow base e 4 (.slice (some ⟨g,0,none⟩) n cap) n ((ts.set i (l,s,m,ex)).flatMap aY):=by
 rw[<-aAq ts i hi (l,s,m,ex)];exact oF (oF (oF (oF h _ _) _ _) _ _) _ _
def aie {w:World}{base n cap g:Nat}{e:TypeId}{ts:List Trm}(h:w.ownsRow base e 4 (.slice (some ⟨g,0,none⟩) n cap) n (ts.flatMap aY))(i:Nat)(hi:i<ts.length)(s:Bool)(m:List UInt8)(ex:Int):
 (((w.setCell ⟨g,i*4+1,none⟩ (ag s)).setCell ⟨g,i*4+2,none⟩ (ah m)).setCell ⟨g,i*4+3,none⟩ (af ex)).ownsRow base e 4 (.slice (some ⟨g,0,none⟩) n cap) n ((ts.set i (ts[i].1,s,m,ex)).flatMap aY):=by
 rw[<-aAp ts i hi (s,m,ex)];exact oF (oF (oF h _ _) _ _) _ _
def Nh {w w':World}(r:Option Nat)(h:Bw w w'):w.grownBy w' r:=⟨h.os,h.tape,h.output,h.size,λk hk _=>h.block k hk⟩
def Ni {w w':World}{g:Nat}(h:w.grownBy w' (some g))(a:Nat)(v:Value):w.grownBy (w'.setCell ⟨g,a,none⟩ v) (some g):=grownBy_trans h (grownBy_set g rfl v)
def ape {n:Nat}{w w':World}{r:Option Nat}(h:w.grownBy w' r)(hn:n<=w.heap.size)(hr:∀g,r=some g->n<=g):Below n w w':=((Below.refl _ _).mono hn).grown h hn hr
def ahQ {B:Nat}(a b:List Trm)(ha:∀t∈a,Fit B t.2)(hb:∀t∈b,Fit B t.2)(hB:B+1<=268435456):∀t∈ij a b,Fit (B+1) t.2:=by
 obtain⟨n,hn⟩:=aB (a.length+b.length);induction n using Nat.strongRecOn generalizing a b with
 | _ n ih=>
   cases a with
   |nil=>rw[CK];exact λt ht=>(hb t ht).mono zo
   | cons x a=>cases b with
     |nil=>rw[CL];exact λt ht=>(ha t ht).mono zo
     | cons y b=>
       rw[yI];simp only[List.length_cons]at hn;have ha2:∀t∈a,Fit B t.2:=λt ht=>ha t (by simp[ht]);have hb2:∀t∈b,Fit B t.2:=λt ht=>hb t (by simp[ht]);split
       . intro t ht;rcases List.mem_cons.1 ht with rfl|ht
         . exact(ha _ zm).mono zo
         . exact ih _ (by simp only[List.length_cons];omega) a (y::b) ha2 hb rfl t ht
       . split
         . intro t ht;rcases List.mem_cons.1 ht with rfl|ht
           . exact(hb _ zm).mono zo
           . exact ih _ (by simp only[List.length_cons];omega) (x::a) b ha hb2 rfl t ht
         . intro t ht;rcases List.mem_cons.1 ht with rfl|ht
           . exact((ha x zm).2.add (hb y zm).2).fit hB
           . exact ih _ zo a b ha2 hb2 rfl t ht
def XN {B:Nat}(l:List Trm)(h:∀t∈l,Fit B t.2)(hB:B+l.length<=268435456):∀t∈im l,Fit (B+l.length) t.2:=by
 obtain⟨n,hn⟩:=aB l.length;induction n using Nat.strongRecOn generalizing l with
 | _ n ih=>
   by_cases h2:l.length<2
   . rw[PG l h2];exact λt ht=>(h t ht).mono zo
   . rw[XO l zo];have l1:(l.take (l.length/2)).length=l.length/2:=by rw[List.length_take];omega
     have l2:(l.drop (l.length/2)).length=l.length-l.length/2:=List.length_drop;have h3:=ih _ (by rw[<-hn,l1];omega) (l.take (l.length/2)) (λt ht=>h t (List.mem_of_mem_take ht)) (by rw[l1];omega) rfl;have h4:=ih _ (by rw[<-hn,l2];omega) (l.drop (l.length/2)) (λt ht=>h t (List.mem_of_mem_drop ht)) (by rw[l2];omega) rfl;have:=ahQ (B:=B+(l.length-1)) _ _ (λt ht=>(h3 t ht).mono (by rw[l1];omega)) (λt ht=>(h4 t ht).mono (by rw[l2];omega)) zo;rwa [show B+(l.length-1)+1=B+l.length by omega]at this
end Go.Proofs.YtbkopgdpcijfbaaGreatDoor
namespace Go.Proofs.YtbkopgdpcijfbaaGreatDoor
open Go.RowKit
attribute [local go_sem ↓] Go.wp_at_zero Go.wp_at_succ
def ar3 {α:Type}(p:α->Bool)(l:List α)(i:Nat)(hi:i<=l.length)(h:∀j (hj:j<i),p (l[j]'zo)=false):(l.take i).filter (λx=>!p x)=l.take i:=by
 rw[List.filter_eq_self];intro x hx;obtain⟨j,hj,rfl⟩:=List.mem_iff_getElem.1 hx;rw[List.getElem_take];have wK:j<i:=by rw[List.length_take]at hj;omega
 simp[h j wK]
def take_set {α:Type}(l:List α)(a:Nat)(x:α)(h:a<l.length):(l.set a x).take (a+1)=l.take a++[x]:=by rw[List.take_succ_eq_append_getElem (by simpa using h),List.getElem_set_self,List.take_set_of_le (Nat.le_refl _)]
def Tm {α:Type}(l:List α)(a b:Nat)(x:α)(h:a<b):(l.set a x).drop b=l.drop b:=by rw[List.drop_set];rw[if_pos h]
def Tryz.aGQ (w:World):(zeroValue 90).run Tryz.prog w=.ok (.agg #[.string ⟨#[]⟩,ag false,.string ⟨#[]⟩,af 0]) w:=by kernel_rfl
def acO (ts:List Trm)(k:Nat)(hk:k<=ts.length):(ts.flatMap aY).take (k*4)=(ts.take k).flatMap aY:=by
 have e:ts=ts.take k++ts.drop k:=(List.take_append_drop _ _).symm;conv=>lhs;rw[e]
 rw[List.flatMap_append,List.take_left' (by rw[FB,List.length_take,Nat.min_eq_left hk])]
def aqR (a:Option Addr)(n cap:Nat)(ts:List Trm)(gf:Nat)(p:Trm->Bool)(w:World)(hn:ts.length=n)(hl:n<=65536)(ha:At w a (ts.flatMap aY))
 (eg:∀args w,(callFunc gf args).run Tryz.prog w=.ok (.enter gf args) w) (h2:∀x∈ts,p x=false)
 (hcl:∀x∈ts,∀W,Cl gf #[.agg #[ah x.1,ag x.2.1,ah x.2.2.1,af x.2.2.2]] W λe w'=>e=.returned (ag (p x))/\Bw W w'):
 Cv 273 #[.slice a n cap,.func (.func gf) #[] #[]] w (.slice a n cap):=by
 have bD:=Wp a n cap ts gf #[] p w hn zo ha eg (λx hx W _=>by simpa using hcl x hx W);rcases agY p ts 0 with⟨h1,_⟩ |⟨i,hi,_,h3,_⟩
 . rw[h1]at bD;have GK:=aj bD;clear bD h1 h2 hn hcl eg ha;have Hb:=hbz w;go_enter Tryz.func273,Tryz.ntmps273;go_wp2_with fail;refine aJ (Hb.an trivial) (GK.out) λw1 ae ak=>?_;go_wp2;go_ret;exact⟨rfl,ae.1.out⟩
 . rw[h2 _ (List.getElem_mem hi)]at h3;cases h3
def aqQ (g n cap base:Nat)(ts:List Trm)(gf:Nat)(p:Trm->Bool)(w:World)(hn:ts.length=n)(hl:n<=65536)(hn0:0<n)(ho:w.ownsRow base 90 4 (.slice (some ⟨g,0,none⟩) n cap) n (ts.flatMap aY))
 (eg:∀args w,(callFunc gf args).run Tryz.prog w=.ok (.enter gf args) w)
 (hcl:∀x∈ts,∀W,Cl gf #[.agg #[ah x.1,ag x.2.1,ah x.2.2.1,af x.2.2.2]] W λe w'=>e=.returned (ag (p x))/\Bw W w'):
 Cl 273 #[.slice (some ⟨g,0,none⟩) n cap,.func (.func gf) #[] #[]] w λe w'=>∃k,k=(ts.filter λx=>!p x).length/\e=.returned (.slice (some ⟨g,0,none⟩) k cap)/\
  w'.ownsRow base 90 4 (.slice (some ⟨g,0,none⟩) k cap) k ((ts.filter λx=>!p x).flatMap aY)/\w.grownBy w' (some g):=by
 have hat:At w (some ⟨g,0,none⟩) (ts.flatMap aY):=by obtain⟨a,c,hv,hat,_⟩:=dZ ho;simp only[Value.slice.injEq,true_and]at hv;rw[hv.1];exact hat
 have hcap:=(CV ho).1;have bD:=Wp (some ⟨g,0,none⟩) n cap ts gf #[] p w hn zo hat eg (λx hx W _=>by simpa using hcl x hx W);have hcm:cap<=9223372036854775807:=by
  rcases ho.2 with⟨h1,_⟩ |⟨g',cap',cur,h1,hb,hg,h4,h5,_⟩
  . simp at h1
  . simp only[Value.slice.injEq]at h1;obtain⟨_,_,rfl⟩:=h1;unfold maxLen at h5;omega
 obtain⟨Ho,fJ,Hn,mF,dL⟩:=gT ho hcl hn eg hat;clear ho hcl hn eg hat;rcases agY p ts 0 with⟨h1,h2⟩ |⟨i,hi,h1,h2,h3⟩
 . rw[h1]at bD;have hK:(ts.filter λx=>!p x)=ts:=List.filter_eq_self.2 (λx hx=>by simp[h2 x hx]);rw[hK,Hn.out];have GK:=aj bD;clear bD h1 h2 hK;have Hb:=hbz w;go_enter Tryz.func273,Tryz.ntmps273;go_wp2_with fail;refine aJ (Hb.an trivial) (GK.out) λw1 ae ak=>?_;go_wp2;go_ret;exact⟨n,rfl,rfl,ownsRow_below Ho.out ae.1.out,Nh _ ae.1.out⟩
 . rw[h1,Nat.zero_add]at bD;have hin:i<n:=by rw[<-Hn.out];exact hi
   obtain⟨K,hK⟩:=aB (ts.filter λx=>!p x);rw[hK];have hst:(ts.take (i+1)).filter (λx=>!p x)=ts.take i:=by rw[List.take_succ_eq_append_getElem hi,List.filter_append,ar3 p ts i zo h3];simp[h2]
   have jX:((i:Int)== -1)=false:=by simp
   obtain⟨GK,HK,bR⟩:=cw bD hK hst;clear bD h1 h2 h3 hK hst;have Hb:=hbz w;go_enter Tryz.func273,Tryz.ntmps273;go_wp2_with fail;refine aJ (Hb.an trivial) (GK.out) λw1 ae ak=>?_;go_wp2_with fail;go_loopw[5,6] (λs5 s6 wr=>∃(x y:Nat) (C:List Trm),s5=af (x:Int)/\s6=af (y:Int)/\x<y/\y<=n/\C.length=n/\C.take x=(ts.take y).filter (λx=>!p x)/\C.drop y=ts.drop y/\wr.ownsRow base 90 4 (.slice (some ⟨g,0,none⟩) n cap) n (C.flatMap aY)/\w.grownBy wr (some g)) (λ_ s6 _=>n-(intOf s6).toNat);case atStart=>exact⟨i,i+1,ts,rfl,by go_num,by omega,by omega,Hn.out,bR.out.symm,rfl,ownsRow_below Ho.out ae.1.out,Nh _ ae.1.out⟩
   case round=>
    clear jX;obtain⟨x,y,C,rfl,rfl,hxy,Kf,hC,htk,hdr,hov,hg⟩:=hrel;by_cases hlt:y<n
    . have Wi:y<ts.length:=by rw[Hn.out];exact hlt
      have hyC:y<C.length:=by omega
      have hel:C[y]=ts[y]:=by
       have e1:C[y]?=ts[y]?:=by rw[<-Nat.add_zero y,<-List.getElem?_drop,<-List.getElem?_drop,hdr]
       rw[List.getElem?_eq_getElem hyC,List.getElem?_eq_getElem Wi]at e1;exact Option.some.inj e1
      obtain⟨l,s,m,e,hx⟩:∃l s m e,ts[y]=(l,s,m,e):=⟨_,_,_,_,rfl⟩;have hw:=Pj hov y hyC (hel.trans hx);have hcl:=fJ.out _ (List.getElem_mem Wi);rw[hx]at hcl;have hnx:(ts.take (y+1)).filter (λx=>!p x)=(ts.take y).filter (λx=>!p x)++if p (l,s,m,e)then[]else[(l,s,m,e)]:=by rw[List.take_succ_eq_append_getElem Wi,List.filter_append,hx];by_cases hp:p (l,s,m,e)=true<;>simp[hp]
      have hd2:C.drop (y+1)=ts.drop (y+1):=by rw[<-List.drop_drop,<-List.drop_drop,hdr]
      have bD:=sI n cap y (y:Int) (rfl:(some ⟨g,0,none⟩:Option Addr)=_) hlt rfl;rw[Nat.zero_add]at bD;obtain⟨hgb,vk⟩:=Fv hov;obtain⟨eN,Hg,Mj,Dr,uy,HC,ZG⟩:=jL hov hg htk hd2 hnx hC hcl;have Hz:Hid (aZ wr g (y*4) [ah l,ag s,ah m,af e]):=hw;clear hov hg htk hd2 hnx hC hcl hw hdr hel hx;have Hb:=hbz wr;obtain⟨ae,ak⟩:=qZ (Hz.an trivial);have z1:wr.cell? ⟨g,y*4+1,none⟩=some (ag s):=ae.1.out.cell 1 zm;have z2:wr.cell? ⟨g,y*4+2,none⟩=some (ah m):=ae.1.out.cell 2 zm;have z3:wr.cell? ⟨g,y*4+3,none⟩=some (af e):=ae.1.out.cell 3 zm;have z0:wr.cell? ⟨g,y*4,none⟩=some (ah l):=ae.1.out.cell 0 zm;have P0:=z0;have P1:=z1;have P2:=z2;have P3:=z3;have MS:=mF.out;obtain⟨W4,kV,aR,ae,ak⟩:=bX wr (Hb.an ae) 90 [ah l,ag s,ah m,af e];obtain⟨t,ht⟩:=aB (p (l,s,m,e));rw[ht]at ZG uy;clear ht;go_wp2_with fail;refine aJ ae (ZG.out _) λw5 ae ak=>?_;have jF:=ownsRow_below eN.out ae.2.1.out;have Oe:=grownBy_trans Hg.out (Nh _ ae.2.1.out);clear MS;cases t with
      | true=>
        obtain⟨BC,Ra⟩:=aK jF Oe;clear jF Oe;go_wp2;go_roundw;case rel=>exact⟨x,y+1,C,rfl,by go_num,by omega,by omega,HC.out,by rw[uy.out,Mj.out];simp,Dr.out,BC.out,Ra.out⟩
        case measure=>exact bC
      | false=>
        have Wc:x<C.length:=by have:=HC.out;omega
        obtain⟨lx,sx,mx,ex,hxx⟩:∃l s m e,C[x]=(l,s,m,e):=⟨_,_,_,_,rfl⟩;obtain⟨u0,u1,u2,u3⟩:=(Pj jF x Wc hxx).w4;have TG:=ug jF (x*4);have II:=ug jF (x*4+1);have TH:=ug jF (x*4+2);have fz3:=ug jF (x*4+3);have kv:=sI n cap x (x:Int) (rfl:(some ⟨g,0,none⟩:Option Addr)=_) zo rfl;rw[Nat.zero_add]at kv;obtain⟨BC,Ra,HxC⟩:=cw jF Oe Wc;clear jF Oe hxx Wc;go_wp2;refine⟨⟨x+1,y+1,C.set x (l,s,m,e),by go_num,by go_num,by omega,by omega,by rw[List.length_set];exact HC.out,?_,?_,axy BC.out x HxC.out l s m e,?_⟩,by simp[intOf];omega⟩
        . rw[take_set _ _ _ HxC.out,Mj.out,uy.out];simp
        . rw[Tm _ _ _ _ zo];exact Dr.out
        . exact Ni (Ni (Ni (Ni Ra.out _ _) _ _) _ _) _ _
    . obtain rfl:y=n:=by omega
      have hK:C.take x=K:=by rw[htk,<-HK.out,List.take_of_length_le (by rw[Hn.out];exact Nat.le_refl _)]
      have Nr:K.length=x:=by rw[<-hK,List.length_take,hC];omega
      have EH:=aif hov x zo;rw[acO C x zo,hK]at EH;obtain⟨w6,aDI,JK,hg6⟩:=aiK wr 22 90 _ 4 Tryz.underlying22 Tryz.aGQ rfl (by intro v hv;simp[Value.cells]at hv;rcases hv with rfl|rfl|rfl|rfl<;>rfl) g x (y-x) cap (cap-x) base (K.flatMap aY) EH zo;have lT:¬cap=x:=by omega
      obtain⟨Ho6,xG,HKl⟩:=cw JK (grownBy_trans hg hg6) Nr;clear htk hdr hC hK Nr EH hov hg JK hg6;go_wp2;go_ret;exact⟨x,HKl.out.symm,rfl,Ho6.out,xG.out⟩
def At.first {w:World}{a:Option Addr}{xs:List Value}(h:At w a xs)(k:Nat):At w a (xs.take k):=by
 rcases h with rfl|⟨b,o,rfl,hc⟩
 . exact .inl zm
 . refine .inr ⟨b,o,rfl,λj hj=>?_⟩;rw[List.length_take]at hj;rw[hc j zo,List.getElem?_take_of_lt zo]
def Sz (w:World)(a:Option Addr)(n cap:Nat)(ts:List Trm)(e:Ending)(w':World):Prop:=
 ∃v',e=.returned v'/\((n<2/\v'=.slice a n cap)\/(2<=n/\w'.ownsRow w.heap.size 90 4 v' (im ts).length ((im ts).flatMap aY)))/\Bw w w'
def Sz.at {w:World}{a:Option Addr}{n cap:Nat}{ts:List Trm}{e:Ending}{w':World}(h:Sz w a n cap ts e w')(hn:ts.length=n)(hs:Sl a n cap)(ha:At w a (ts.flatMap aY)):
 ∃a' c',e=.returned (.slice a' (im ts).length c')/\At w' a' ((im ts).flatMap aY)/\Sl a' (im ts).length c'/\Bw w w':=by
 obtain⟨v',rfl,h1,hb⟩:=h;rcases h1 with⟨h2,rfl⟩ |⟨h2,ho⟩
 . rw[PG ts zo,hn];exact⟨a,cap,rfl,ha.below hb,hs,hb⟩
 . obtain⟨a',c',rfl,hat,_⟩:=dZ ho;exact⟨a',c',rfl,hat,CV ho,hb⟩
def azw (n:Nat):∀(a:Option Addr) (cap:Nat) (ts:List Trm) (B:Nat) (w:World),ts.length=n->Sl a n cap->n<=65536->At w a (ts.flatMap aY)->(∀t∈ts,Fit B t.2)->B+n+2<=268435456->aC w->
 Cl 274 #[.slice a n cap,.func (.func 225) #[] #[],.func (.func 226) #[] #[]] w (Sz w a n cap ts):=by
 induction n using Nat.strongRecOn with
 | _ n ih=>
   intro a cap ts B w hn hs hl ha hf hB hT;by_cases h2:n<2
   . have h2i:(n:Int)<2:=by omega
     clear ih hn hs ha hf hT;have Hb:=hbz w;go_enter Tryz.func274,Tryz.ntmps274;go_wp2;go_ret;exact⟨_,rfl,.inl ⟨h2,rfl⟩,Hb.out⟩
   . obtain⟨k,hk⟩:=aB (n/2);have hk1:1<=k:=by omega
     have hk2:k<n:=by omega
     have Oo:(n:Int)/2=(k:Int):=by omega
     have l1:(ts.take k).length=k:=by rw[List.length_take];omega
     have l2:(ts.drop k).length=n-k:=by rw[List.length_drop];omega
     have hcn:=hs.1;have s1:Sl a k cap:=⟨by omega,hs.2⟩;have s2:Sl (if cap=k then a else a.map (·.add (k*4))) (n-k) (cap-k):=hs.cut zo;have a1:=ha.first (k*4);rw[acO ts k zo]at a1;have a2:=ha.cut (k:=k) (size:=4) (by rw[FB,hn]) zo hcn;have ed:(ts.flatMap aY).drop (k*4)=(ts.drop k).flatMap aY:=by
      have e:ts=ts.take k++ts.drop k:=(List.take_append_drop _ _).symm;conv=>lhs;rw[e]
      rw[List.flatMap_append,List.drop_left' (by rw[FB,l1])]
     rw[ed]at a2;obtain⟨a',ha'⟩:=aB (if cap=k then a else a.map (·.add (k*4)));rw[ha']at s2 a2;have f1:∀t∈ts.take k,Fit B t.2:=λt ht=>hf t (List.mem_of_mem_take ht);have f2:∀t∈ts.drop k,Fit B t.2:=λt ht=>hf t (List.mem_of_mem_drop ht);have c1:=λW (hW:Bw w W) (Jb:aC W)=>(ih k hk2 a cap (ts.take k) B W l1 s1 zo (a1.below hW) f1 zo Jb).mono (λe w' h=>h.at l1 s1 (a1.below hW));have c2:=λW (hW:Bw w W) (Jb:aC W)=>(ih (n-k) zo a' (cap-k) (ts.drop k) B W l2 s2 zo (a2.below hW) f2 zo Jb).mono (λe w' h=>by obtain⟨x1,x2,x3,x4,x5,x6⟩:=h.at l2 s2 (a2.below hW);exact(⟨x1,x2,x3,x4,x5,Nat.le_trans hW.size x6.size,x6,x6⟩:∃a1 c1,e=.returned (.slice a1 (im (ts.drop k)).length c1)/\At w' a1 ((im (ts.drop k)).flatMap aY)/\Sl a1 (im (ts.drop k)).length c1/\w.heap.size<=w'.heap.size/\Bw W w'/\Bw W w'));have g1:=XN (B:=B) (ts.take k) f1 zo;have g2:=XN (B:=B) (ts.drop k) f2 zo;have e1:=KQ (ts.take k);have e2:=KQ (ts.drop k);have hst:im ts=ij (im (ts.take k)) (im (ts.drop k)):=by rw[XO ts zo,hn,hk]
     obtain⟨L,hL⟩:=aB (im (ts.take k));obtain⟨R,hR⟩:=aB (im (ts.drop k));rw[hL]at c1 g1 e1 hst;rw[hR]at c2 g2 e2 hst;have h2i:¬(n:Int)<2:=by omega
     have h2n:2<=n:=by omega
     obtain⟨C1,C2,G1,G2,bR,HT⟩:=gU c1 c2 (λt ht=>(g1 t ht).mono (show B+(ts.take k).length<=B+n by omega)) (λt ht=>(g2 t ht).mono (show B+(ts.drop k).length<=B+n by omega)) hst hT;have Ma:Hid (L.length<=65536/\R.length<=65536):=⟨by omega,by omega⟩;have DT:=ha';clear ih hn hs ha hf hT a1 a2 s1 s2 f1 f2 c1 c2 g1 g2 e1 e2 hst ed l1 l2 hL hR hk ha';have Hb:=hbz w;go_enter Tryz.func274,Tryz.ntmps274;go_wp2_with fail;have hkn:k<=n:=by omega
     have hkc:k<=cap:=by omega
     have ae:=Hb.an trivial;refine fT 999 ae (fH 16 0x1f1c160a1b191513110f0d0907050301) ?_;refine cG ?_;refine qOp λK hK=>?_;go_simp;with_reducible refine(C1.out _ (qU ae.1.out) (qU (HT.out.below ae.1.out))).mono ?_
     rintro e w1 ⟨b1,d1,rfl,kY,hs1,hq⟩;refine xc hK hq ae λae=>?_;clear hK K hq;refine qOp λK hK=>?_;go_simp;with_reducible refine(C2.out _ (qU ae.1.out) (qU (HT.out.below ae.1.out))).mono ?_
     rintro e w2 ⟨b2,d2,rfl,jD,hs2,aut,Ac,hq⟩;refine xc hK hq ae λae=>?_;clear hK K hq;refine qOp λK hK=>?_;go_simp;with_reducible refine(ahG b1 L.length d1 L b2 R.length d2 R (B+n) _ rfl rfl hs1 hs2 Ma.out.1 Ma.out.2 (by first|exact kY.below Ac|exact(kY.below Ac).drew) (qU jD) G1.out G2.out zo (qU (HT.out.below ae.1.out))).mono ?_
     rintro e w3 ⟨v',rfl,ho,hq⟩;refine xc hK hq ae λae=>?_;clear hK K hq;refine cG ?_;refine fR ae λak=>?_;go_wp2;go_ret;exact⟨v',rfl,.inr ⟨h2n,by rw[bR.out];exact CW ho aut⟩,ae.1.out⟩
def Eb (x:Trm):Trm:=(x.1,canon (au x.2))
def ahD (f:Trm->Trm)(K C:List Trm)(k:Nat)(hk:k<C.length)(hl:C.length=K.length)(ht:C.take k=(K.map f).take k)(hx:C[k]=K[k]'zo):(C.set k (f C[k])).take (k+1)=(K.map f).take (k+1):=by rw[take_set _ _ _ hk,ht,List.take_succ_eq_append_getElem zi,List.getElem_map,hx]
def acy {K C:List Trm}{k:Nat}(hd:C.drop k=K.drop k)(h1:k<C.length)(h2:k<K.length):C[k]=K[k]:=by
 have e1:C[k]?=K[k]?:=by rw[<-Nat.add_zero k,<-List.getElem?_drop,<-List.getElem?_drop,hd]
 rw[List.getElem?_eq_getElem h1,List.getElem?_eq_getElem h2]at e1;exact Option.some.inj e1
def aqb (V:Int)(v:Value)(n:Nat)(ts:List Trm)(B:Nat)(w0 w:World)(hb0:Bw w0 w)(hn:ts.length=n)(hl:n<=4096)(ho:w.ownsRow w0.heap.size 90 4 v n (ts.flatMap aY))(hf:∀t∈ts,Fit B t.2)(hB:B+n+2<=268435456)(hT:aC w0):
 Cl 222 #[af V,v] w λe w'=>∃v',e=.returned (.tuple #[.agg #[af V,v'],af 0])/\w'.ownsRow w0.heap.size 90 4 v' (cg ts).length ((cg ts).flatMap aY)/\Bw w0 w':=by
 obtain⟨a,cap,rfl,hat,_⟩:=dZ ho;have hs:=CV ho;have Oj:=XN ts hf zo;have hsl:=KQ ts;have eg:∀args w,(callFunc 275 args).run Tryz.prog w=.ok (.enter 275 args) w:=enters_of Tryz.func275 zk rfl;obtain⟨S,hS⟩:=aB (im ts);have c1:∀W,Bw w W->Cl 274 #[.slice a n cap,.func (.func 225) #[] #[],.func (.func 226) #[] #[]] W λe w'=>∃v1,e=.returned v1/\w'.ownsRow w0.heap.size 90 4 v1 S.length (S.flatMap aY)/\Bw W w':=by
  intro W hW;refine(azw n a cap ts B W hn hs zo (hat.below hW) hf hB (hT.below (aI hb0 hW))).mono ?_;rintro e w' ⟨v1,rfl,h1,hb⟩;refine⟨v1,rfl,?_,hb⟩;rcases h1 with⟨h2,rfl⟩ |⟨h2,iA⟩
  . rw[<-hS,PG ts zo,hn];exact ownsRow_below ho (aI hW hb)
  . rw[<-hS];exact CW iA (by have:=hW.size;have:=hb0.size;omega)
 obtain⟨K,hK⟩:=aB (S.filter pO);have Nr:K.length<=4096:=by have:=List.length_filter_le pO S;rw[hK]at this;rw[hS]at hsl;omega
 rw[hS]at Oj hsl;have c2:∀W v1,Bw w0 W->W.ownsRow w0.heap.size 90 4 v1 S.length (S.flatMap aY)->Cl 273 #[v1,.func (.func 275) #[] #[]] W λe w'=>∃v2,e=.returned v2/\w'.ownsRow w0.heap.size 90 4 v2 K.length (K.flatMap aY)/\W.grownBy w' v1.ownBlock:=by
  intro W v1 hW iA;have hcl:∀x∈S,∀W,Cv 275 #[.agg #[ah x.1,ag x.2.1,ah x.2.2.1,af x.2.2.2]] W (ag (!pO x)):=λx hx W=>aqa x.1 x.2.1 x.2.2.1 x.2.2.2 W (Oj x hx).1;by_cases h0:0<S.length
  . obtain⟨g,c,rfl,_,_,_⟩:=Fw iA h0;refine(aqQ g S.length c w0.heap.size S _ (λx=>!pO x) W rfl zo h0 iA eg hcl).mono ?_;rintro e w' ⟨k,hk,rfl,gS,hg2⟩;simp only[Bool.not_not]at hk gS;rw[hK]at hk gS;subst hk;exact⟨_,rfl,gS,hg2⟩
  . have sA:S=[]:=List.eq_nil_of_length_eq_zero zo;obtain⟨a1,c,rfl,kY,_⟩:=dZ iA;refine(aqR a1 S.length c S _ (λx=>!pO x) W rfl zo kY eg (λx hx=>by rw[sA]at hx;cases hx) hcl).mono ?_;rintro e w' ⟨rfl,hb⟩;have mU:K=S:=by rw[<-hK,sA];rfl
    rw[mU];exact⟨_,rfl,ownsRow_below iA hb,Nh _ hb⟩
 have hKf:∀t∈K,Fit (B+ts.length) t.2:=λt ht=>by rw[<-hK]at ht;exact Oj t (List.mem_filter.1 ht).1
 have hcl:cg ts=K.map Eb:=by unfold cg;rw[hS,hK];rfl
 rw[hcl,List.length_map];have hz:=hb0.size;obtain⟨m,hm⟩:=aB K.length;rw[hm]at Nr c2⊢;obtain⟨Hm,C1,C2,HKf,Hw0,HT⟩:=gU hm c1 c2 hKf hb0 hT;clear c1 c2 hm hKf hcl hb0 hT Oj hS hK ho hat hs hf eg hsl;have Hb:=hbz w;go_enter Tryz.func222,Tryz.ntmps222;go_wp2_with fail;refine ik w (Hb.an trivial) 24 [af 0,.slice none 0 0] λW aR ae ak=>?_;go_wp2_with fail;refine(C1.out _ ae.2.1.out).mono ?_;rintro e w1 ⟨v1,rfl,iA,ai⟩;obtain⟨ae,ak⟩:=qX ai ae;have hw1:=aI Hw0.out ae.2.1.out;go_wp2_with fail;refine(C2.out _ v1 hw1 iA).mono ?_;rintro e w2 ⟨v2,rfl,gS,hg2⟩;have hr2:=ae.1.out.row zd iA hg2;have hw2:=ape (hg2) (Nat.le_trans hz ae.2.1.out.size) (λg e=>eo iA g e);obtain⟨Hw2,GR,Hr⟩:=cw (hw1.trans hw2) gS hr2;clear C1 C2 iA hg2 hw1 hw2 hr2 gS;have hKi:¬(4096:Int)<(m:Int):=by omega
 obtain⟨a2,cap2,rfl,_,_⟩:=dZ GR.out;go_wp2_with fail;go_loopw[16] (λx wr=>∃(k:Nat) (C:List Trm),k<=m/\x=af (k:Int)/\C.length=m/\C.take k=(K.map Eb).take k/\C.drop k=K.drop k/\wr.ownsRow w0.heap.size 90 4 (.slice a2 m cap2) m (C.flatMap aY)/\ar wr w.heap.size 24 [af 0,.slice none 0 0]/\Bw w0 wr) (λx _=>m-(intOf x).toNat);case atStart=>exact⟨0,K,Nat.zero_le _,rfl,Hm.out,rfl,rfl,GR.out,Hr.out,Hw2.out⟩
 case round=>
  clear Hr GR Hw2;obtain⟨k,C,hk,rfl,hC,htk,hdr,hov,hr,pb⟩:=hrel;by_cases hlt:k<m
  . obtain⟨g,cc,he,hg1,hg2,hg3⟩:=Fw hov zo;simp only[Value.slice.injEq,true_and]at he;obtain⟨rfl,rfl⟩:=he;have yl:k<C.length:=by omega
    have Cj:k<K.length:=by have:=Hm.out;omega
    have hel:=acy hdr yl Cj;obtain⟨l,s,q,e,hx⟩:∃l s m e,C[k]=(l,s,m,e):=⟨_,_,_,_,rfl⟩;have mY:=HKf.out _ (List.getElem_mem Cj);rw[<-hel,hx]at mY;obtain⟨D,hD⟩:=aB (au (s,q,e));have lW:=ahD Eb K C k yl (by rw[hC,Hm.out]) htk hel;have Jk:Eb C[k]=(l,canon D):=by rw[hx,<-hD];rfl
    rw[Jk]at lW;have lT:C[k].1=l:=by rw[hx]
    have hw:=Pj hov k yl hx;have hd2:C.drop (k+1)=K.drop (k+1):=by rw[<-List.drop_drop,<-List.drop_drop,hdr]
    have bD:=sI m cap2 k (k:Int) (rfl:(some ⟨g,0,none⟩:Option Addr)=_) hlt rfl;rw[Nat.zero_add]at bD;have Hfm:Hid (∀W,aC W->Cv 139 #[.agg #[ag s,ah q,af e]] W (bT D)):=λW Jb=>pq s q e D hD W mY.1 Jb;obtain⟨eN,bo,GZ,Dr,HC,QG,fU⟩:=jL hov pb lW hd2 hC lT (HT.out.below pb);have Hr:Hid (ar wr w.heap.size 24 [af 0,.slice none 0 0]):=hr;have Hz:Hid (aZ wr g (k*4) [ah l,ag s,ah q,af e]):=hw;clear hov pb lW hd2 hC hr hw htk hdr hel hx mY hD Jk lT Cj;have Hb:=hbz wr;obtain⟨ae,ak⟩:=qZ (Hz.an trivial);have z2:wr.cell? ⟨g,k*4+2,none⟩=some (ah q):=ae.1.out.cell 2 zm;have y2:wr.cell? ⟨g,k*4+1+1,none⟩=some (ah q):=z2;have z3:wr.cell? ⟨g,k*4+3,none⟩=some (af e):=ae.1.out.cell 3 zm;have y3:wr.cell? ⟨g,k*4+1+2,none⟩=some (af e):=z3;go_wp2_with fail;refine aJ (Hb.an ae) (Hfm.out _ fU.out) λw5 ae ak=>?_;have jF:=ownsRow_below eN.out ae.1.out;clear y2 y3;have z2:w5.cell? ⟨g,k*4+2,none⟩=some (ah q):=ae.2.1.out.cell 2 zm;have y2:w5.cell? ⟨g,k*4+1+1,none⟩=some (ah q):=z2;have z3:w5.cell? ⟨g,k*4+3,none⟩=some (af e):=ae.2.1.out.cell 3 zm;have y3:w5.cell? ⟨g,k*4+1+2,none⟩=some (af e):=z3;have II:=ug jF (k*4+1);have TH:=ug jF (k*4+1+1);have fz3:=ug jF (k*4+1+2);have hgb:=(Fv jF).2;have VI:=Hr.out.below ae.1.out;have di:=aI bo.out ae.1.out;have Vf:g≠w.heap.size:=λe=>VI.not_row zd jF (by rw[e];rfl);obtain⟨BC,Hr5,gW⟩:=cw jF VI di;clear jF VI di;go_wp2;refine⟨⟨k+1,C.set k (l,canon D),by omega,by go_num,by rw[List.length_set];exact HC.out,GZ.out,by rw[Tm _ _ _ _ zo];exact Dr.out,?_,?_,?_⟩,by simp[intOf];omega⟩
    . have h:=aie BC.out k yl (az (dN D)) (nt (dN D).natAbs) (dE D);rw[QG.out]at h;exact h
    . exact((Hr5.out.aGq _ Vf _).aGq _ Vf _).aGq _ Vf _
    . exact((gW.out.setCell zp _).setCell zp _).setCell zp _
  . obtain rfl:k=m:=by omega
    have IL:C=K.map Eb:=by rw[List.take_of_length_le zo,List.take_of_length_le (by rw[List.length_map];have:=Hm.out;omega)]at htk;exact htk
    rw[IL]at hov;obtain⟨eN,bo⟩:=aK hov pb;have Hr:Hid (ar wr w.heap.size 24 [af 0,.slice none 0 0]):=hr;clear hov pb hr htk hdr hC IL;obtain⟨r0,aO,r1,aQ⟩:=Hr.out.g2;go_wp2;have hne:=(Hr.out.not_row zd eN.out).symm;have hrs:=Hr.out.lt;refine dX (λw9=>ar w9 w.heap.size 24 [af V,.slice a2 k cap2]/\w9.ownsRow w0.heap.size 90 4 (.slice a2 k cap2) k ((K.map Eb).flatMap aY)/\Bw w0 w9) ⟨(Hr.out.set 0 _).set 1 _,ownsRow_setCell_other (ownsRow_setCell_other eN.out hne _) hne _,(bo.out.setCell hz _).setCell hz _⟩ ?_;rintro w9 ⟨gB,na,ku⟩;obtain⟨q0,q1⟩:=gB.c2;exact bodyPost_ret (v:=.tuple #[.agg #[af V,.slice a2 k cap2],af 0]) (by simp[results,Tryz.results222,go_sem,q0,q1]) rfl ⟨_,rfl,na,ku⟩
def SY (V:Int)(v:Value)(n:Nat)(ts C:List Trm)(B:Nat)(w0 w:World)(hb0:Bw w0 w)(hn:ts.length=n)(hl:n<=4096)(ho:w.ownsRow w0.heap.size 90 4 v n (ts.flatMap aY))(hf:∀t∈ts,Fit B t.2)(hB:B+n+2<=268435456)(hT:aC w0)(hC:cg ts=C):
 Cl 222 #[af V,v] w λe w'=>∃a c,e=.returned (.tuple #[.agg #[af V,.slice a C.length c],af 0])/\w'.ownsRow w0.heap.size 90 4 (.slice a C.length c) C.length (C.flatMap aY)/\Bw w0 w':=by
 subst hC;refine(aqb V v n ts B w0 w hb0 hn hl ho hf hB hT).mono ?_;rintro e w' ⟨v',rfl,h1,h2⟩;obtain⟨a,c,rfl,_,_⟩:=dZ h1;exact⟨a,c,rfl,h1,h2⟩
def axv {w W:World}{b base k:Nat}{v x0 x1:Value}{xs:List Value}(hr:ar W b 24 [x0,x1])(ho:W.ownsRow base 90 4 v k xs)(hb:Bw w W)(hbs:w.heap.size<=b)(y0 y1:Value):
 ar ((W.setCell ⟨b,0,none⟩ y0).setCell ⟨b,1,none⟩ y1) b 24 [y0,y1]/\((W.setCell ⟨b,0,none⟩ y0).setCell ⟨b,1,none⟩ y1).ownsRow base 90 4 v k xs/\Bw w ((W.setCell ⟨b,0,none⟩ y0).setCell ⟨b,1,none⟩ y1):=by
 have hne:=(hr.not_row zd ho).symm;exact⟨(hr.set 0 _).set 1 _,ownsRow_setCell_other (ownsRow_setCell_other ho hne _) hne _,(hb.setCell hbs _).setCell hbs _⟩
def Ip {P:Program}{fn:Func}{R:Ending->World->Prop}{e:Exit}{a:Act}{w W:World}{b base k:Nat}{v x0 x1 y0 y1:Value}{xs:List Value}(hr:ar W b 24 [x0,x1])(ho:W.ownsRow base 90 4 v k xs)(hb:Bw w W)(hbs:w.heap.size<=b)
 (h:∀W',ar W' b 24 [y0,y1]->W'.ownsRow base 90 4 v k xs->Bw w W'->bodyPost P fn R e a W'):bodyPost P fn R e a ((W.setCell ⟨b,0,none⟩ y0).setCell ⟨b,1,none⟩ y1):=by
 obtain⟨h1,h2,h3⟩:=axv hr ho hb hbs y0 y1;exact h _ h1 h2 h3
def abT (a:Option Addr)(n cap:Nat)(ts:List Trm)(w:World)(hn:ts.length=n)(hl:n<=1048576)(hs:Sl a n cap)(ha:At w a (ts.flatMap aY)):
 Cl 221 #[.slice a n cap] w λe w'=>∃v',e=.returned v'/\w'.ownsRow w.heap.size 90 4 v' n (ts.flatMap aY)/\Bw w w':=by
 obtain⟨i0,hi,hz0,hz1,hz2⟩:=info_parts Tryz.aGC;have q:=λ(w:World) (a:Option Addr) (n c n' c':Nat)=>Lib.run_eql_slice_nil (P:=Tryz.prog) w 22 90 a n c n' c' Tryz.underlying22;have hlen:(ts.flatMap aY).length=n*4:=by rw[kQ aY 4 (λ_=>rfl),hn]
 obtain⟨cs,hcs⟩:=aB (ts.flatMap aY);have h1:=Ya ts;rw[hcs]at hlen ha h1⊢;obtain⟨jA,Ha,H1,Hs,Hi,eu,ey,dM⟩:=jZ hlen ha h1 hs hi hz0 hz1 hz2;clear hlen ha h1 hs hi hz0 hz1 hz2 hn hcs;cases a with
 | none=>
   have hc:=Hs.out.2 rfl;have hn0:n=0:=by have:=Hs.out.1;omega
   subst hc;subst hn0;go_enter Tryz.func221,Tryz.ntmps221;go_wp2;go_ret;refine⟨_,rfl,?_,Below.refl _ _⟩;have e:cs=[]:=List.eq_nil_of_length_eq_zero (by have:=jA.out;omega);rw[e];exact World.ownsRow_nil _ _ _ _
 |some ad=>go_enter Tryz.func221,Tryz.ntmps221;go_wp2_with (at_builtin;refine YA rfl _ _ 22 rfl w.heap.size 90 i0 _ 4 48 Tryz.underlying22 Hi.out eu.out ey.out dM.out rfl zd _ 0 [] rfl (World.ownsRow_made w #[] 0 (Nat.le_refl _) (Nat.zero_le _) zm) (some ad) n cap cs rfl Hs.out jA.out (Ha.out.below ((Below.refl _ w).alloc (Nat.le_refl _) _)) H1.out zx zo zm ?_;intro v' w1 hown hgrow kx);go_ret;refine⟨v',rfl,by simpa using hown,?_⟩;exact((Below.refl _ w).alloc (Nat.le_refl _) _).grown hgrow zm (λk hk=>by have h9:w.heap.size=k:=Option.some.inj hk;omega)
def aoB (V:Int)(ts:List Trm)(h:∀t∈ts,fQ t.1 V=true):(ts.any λt=>!fQ t.1 V)=false:=by rw[List.any_eq_false];intro t ht;rw[h t ht];simp
def ahC (V:Nat)(a:Option Addr)(n cap:Nat)(ts:List Trm)(B:Nat)(w:World)(hV:V<=12)(hn:ts.length=n)(hl:n<=4096)(hs:Sl a n cap)(ha:At w a (ts.flatMap aY))(hm:∀t∈ts,fQ t.1 V=true)(hl2:∀t∈ts,t.1.length<=9223372036854775807)
 (hf:∀t∈ts,Fit B t.2) (hB:B+n+2<=268435456) (hT:aC w):
 Cl 187 #[af (V:Int),.slice a n cap] w λe w'=>∃a' c',e=.returned (.tuple #[.agg #[af (V:Int),.slice a' (cg ts).length c'],af 0])/\w'.ownsRow w.heap.size 90 4 (.slice a' (cg ts).length c') (cg ts).length ((cg ts).flatMap aY)/\Bw w w':=by
 have eg:∀args w,(callFunc 249 args).run Tryz.prog w=.ok (.enter 249 args) w:=enters_of Tryz.func249 zk rfl;have hct:∀W bv,Bw w W->W.cell? ⟨bv,0,none⟩=some (af (V:Int))->Cv 248 #[.slice a n cap,.func (.func 249) #[] #[.pointer (some ⟨bv,0,none⟩)]] W (ag false):=by intro W bv hW hc;have h:=aqx a n cap ts 249 #[.pointer (some ⟨bv,0,none⟩)] (λt=>!fQ t.1 V) W hn zo (ha.below hW) eg (λx hx W2 hW2=>by simpa using av5 x.1 x.2.1 x.2.2.1 x.2.2.2 V bv W2 (cell_later hW2 hc) (hl2 x hx));rwa [aoB V ts hm]at h
 obtain⟨C,hC⟩:=aB (cg ts);have hcn:=λW (hW:Bw w W)=>(abT a n cap ts W hn zo hs (ha.below hW)).mono (λe w' h=>(match h with|⟨v,h1,h2,h3⟩=>⟨v,h1,h2,h3,h3⟩:∃v',e=.returned v'/\w'.ownsRow W.heap.size 90 4 v' n (ts.flatMap aY)/\Bw W w'/\Bw W w'));have hcl:=λw0 W v (hw0:Bw w w0) (hb0:Bw w0 W) (ho:W.ownsRow w0.heap.size 90 4 v n (ts.flatMap aY))=>SY (V:Int) v n ts C B w0 W hb0 hn hl ho hf hB (hT.below hw0) hC;rw[hC];obtain⟨QE,xC,fJ⟩:=cw hct hcn hcl;clear hct hcn hcl hC ha hT hf hm hl2 hs hn eg;have vg:=λW=>Na (V:Int) W;have hd:decide (0<=(V:Int)/\(V:Int)<=12)=true:=by simp;omega
 rw[hd]at vg;have GG:=aj vg;clear vg hd;have hni:¬(65536:Int)<(n:Int):=by omega
 have Hb:=hbz w;go_enter Tryz.func187,Tryz.ntmps187;go_wp2_with fail;refine lw w (Hb.an trivial) 3 [af (V:Int)] 24 [af 0,.slice none 0 0] λW aR ae ak=>?_;go_wp2_with fail;refine aJ ae (GG.out _) λw1 ae ak=>?_;have v0:w1.cell? ⟨w.heap.size,0,none⟩=some (af (V:Int)):=ae.1.out.cell 0;go_wp2_with fail;refine aJ ae (QE.out _ _ ae.2.2.1.out v0) λw2 ae ak=>?_;go_wp2_with fail;obtain⟨Hv,Hr,Hb,_⟩:=ae;have v0:=Hv.out.c1;obtain⟨r0,aO,r1,aQ⟩:=Hr.out.g2;refine fh (λw'=>aH w' (w.heap.size) 0 (af (V:Int))) (λi=>Nat.blt i 6) [(0,true),(1,true),(2,false),(3,false),(4,true),(5,true),(6,false),(7,false)] zk zk rfl zk zc v0 ?_;iterate 2 (refine pT rfl rfl ?_;try simp only[UU])
 have anH:=Hv;have qP:=Hr;have fW:=Hb;refine aM rfl rfl (λK hK=>?_);go_simp;with_reducible refine(xC.out _ (by first|exact Hb.out|exact Hb.out.drew)).mono ?_
 rintro e w3 ⟨v1,rfl,iA,atw,hq⟩;have ai:Bw w2 w3:=by first|exact hq|exact cu hq
 replace Hv:=kB Hv ai;replace Hr:=kB Hr ai;have v0:=Hv.out.c1;obtain⟨r0,aO,r1,aQ⟩:=Hr.out.g2;replace Hb:=aW Hb ai;refine hK _ _ (λ_=>v0) ?_;try simp only[UU]
 refine aM rfl rfl (λK hK=>?_);go_simp;with_reducible refine(fJ.out _ _ v1 (by first|exact fW.out|exact fW.out.drew) atw iA).mono ?_
 rintro e w4 ⟨a2,c2,rfl,gS,hq⟩;have ai:Bw w2 w4:=by first|exact hq|exact cu hq
 replace Hv:=aj (anH.out.below ai);replace Hr:=aj (qP.out.below ai);have v0:=Hv.out.c1;obtain⟨r0,aO,r1,aQ⟩:=Hr.out.g2;replace Hb:=aj (aI fW.out ai);refine hK _ _ (λ_=>v0) ?_;try simp only[UU]
 iterate 2 (refine pT rfl rfl ?_;try simp only[UU])
 refine aM rfl rfl (λK hK=>?_);go_simp;refine hK _ _ (by first|exact λh=>absurd h zd|exact λ_=>v0|exact λ_=>gZ zg v0) ?_;try simp only[UU]
 refine aM rfl rfl (λK hK=>?_);go_simp;refine hK _ _ (λh=>absurd h zd) ?_;try simp only[UU]
 simp only[bH];go_wp2;refine Ip (Hr.out) gS Hb.out zo ?_;intro w9 gB na ku;obtain⟨p0,p1⟩:=gB.c2;exact bodyPost_ret (v:=.tuple #[.agg #[af (V:Int),.slice a2 C.length c2],af 0]) (by simp[results,Tryz.results187,go_sem,p0,p1]) rfl ⟨_,_,rfl,CW na (by have:=fW.out.size;exact this),ku⟩
def BJ (w:World)(a:Option Addr)(C:List Trm):Prop:=C=[]\/∃b o cur,a=some ⟨b,o,none⟩/\w.heap[b]?=some (.cells cur 90)
def BJ.below {w w':World}{a:Option Addr}{C:List Trm}(h:BJ w a C)(hb:Bw w w'):BJ w' a C:=by
 rcases h with h|⟨b,o,cur,h1,h2⟩
 . exact .inl h
 . exact .inr ⟨b,o,cur,h1,by rw[hb.block b (Array.getElem?_eq_some_iff.1 h2).1];exact h2⟩
def BJ.off {w:World}{a:Option Addr}{C:List Trm}{g:Nat}{cur:Array Value}{t:TypeId}(h:BJ w a C)(hg:w.heap[g]?=some (.cells cur t))(ht:t≠90)(i:Nat)(u:Value):BJ (w.setCell ⟨g,i,none⟩ u) a C:=by
 rcases h with h|⟨b,o,cur',h1,h2⟩
 . exact .inl h
 . refine .inr ⟨b,o,cur',h1,?_⟩;have hne:b≠g:=λe=>by subst e;rw[hg]at h2;simp at h2;exact ht h2.2
   rw[Below.heap_setCell _ _ _ _ hne];exact h2
def cW (w:World)(a:Option Addr)(c:Nat)(C:List Trm):Prop:=At w a (C.flatMap aY)/\Sl a C.length c/\BJ w a C
def cW.below {w w':World}{a:Option Addr}{c:Nat}{C:List Trm}(h:cW w a c C)(hb:Bw w w'):cW w' a c C:=⟨h.1.below hb,h.2.1,h.2.2.below hb⟩
instance {w :World} {a:Option Addr} {c:Nat} {C:List Trm}:QTr (cW w a c C) w (λW=>cW W a c C):=⟨λh _ k=>cW.below h k⟩
def zw (w:World)(a:Option Addr)(c:Nat)(C:List Trm):Prop:=At w a (C.flatMap aY)/\Sl a C.length c
def zw.below {w w':World}{a:Option Addr}{c:Nat}{C:List Trm}(h:zw w a c C)(hb:Bw w w'):zw w' a c C:=⟨h.1.below hb,h.2⟩
def cW.w {w:World}{a:Option Addr}{c:Nat}{C:List Trm}(h:cW w a c C):zw w a c C:=⟨h.1,h.2.1⟩
def cW.off {w:World}{a:Option Addr}{c:Nat}{C:List Trm}{g:Nat}{cur:Array Value}{t:TypeId}(h:cW w a c C)(hg:w.heap[g]?=some (.cells cur t))(ht:t≠90)(i:Nat)(u:Value):cW (w.setCell ⟨g,i,none⟩ u) a c C:=by
 refine⟨?_,h.2.1,h.2.2.off hg ht i u⟩;rcases h.2.2 with h'|⟨b,o,cur',rfl,h2⟩
 . subst h';exact .inl rfl
 . have hne:b≠g:=λe=>by subst e;rw[hg]at h2;simp at h2;exact ht h2.2
   rcases h.1 with h1|⟨b1,o1,e1,hc⟩
   . exact .inl h1
   . simp only[Option.some.injEq,Addr.mk.injEq,and_true]at e1;obtain⟨rfl,rfl⟩:=e1;refine .inr ⟨b,o,rfl,λj hj=>?_⟩;have h9:=hc j hj;rw[List.getElem?_eq_getElem hj]at h9⊢;exact aF (.inl hne) h9
def cW.store {w:World}{a:Option Addr}{c b:Nat}{t:TypeId}{C:List Trm}{cs:List Value}(h:cW w a c C)(hb:ar w b t cs)(ht:t≠90)(u v:Value):cW ((w.setCell ⟨b,0,none⟩ u).setCell ⟨b,1,none⟩ v) a c C:=
 (h.off hb ht 0 u).off (hb.set 0 u) ht 1 v
def Pi {w:World}{base c:Nat}{a:Option Addr}{C:List Trm}(h:w.ownsRow base 90 4 (.slice a C.length c) C.length (C.flatMap aY)):cW w a c C:=by
 obtain⟨a',c',hv,hat,_⟩:=dZ h;have hs:=CV h;simp only[Value.slice.injEq,true_and]at hv;obtain⟨rfl,rfl⟩:=hv;refine⟨hat,hs,?_⟩;rcases h.2 with⟨_,h2⟩ |⟨g,cap,cur,hv,hb,hg,_⟩
 . exact .inl (List.length_eq_zero_iff.1 h2)
 . simp only[Value.slice.injEq,true_and]at hv;exact .inr ⟨g,0,cur,hv.1,hg⟩
def aBQ (V:Nat):((List.range V).map λ_=>UInt8.ofNat 0)=iN V:=by
 unfold iN;apply List.ext_getElem
 . simp
 . intro i h1 h2;simp
def avt (V:Nat)(D:Dyadic)(x:Raw)(l:Nat->Dyadic)(h:au x=D):cg [(iN V,x)]=eD V D l 0:=by unfold eD;refine Ee (λm=>?_);simp only[iW,List.range_zero,List.map_nil,cJ,bF,h]
def ab5 (V:Nat)(s:Bool)(m:List UInt8)(e:Int)(D:Dyadic)(B:Nat)(l:Nat->Dyadic)(w:World)(hV:V<=12)(hf:Fit B (s,m,e))(hB:B+3<=268435456)(hT:aC w)(hD:au (s,m,e)=D):
 Cl 149 #[af (V:Int),.agg #[ag s,ah m,af e]] w λex w'=>∃a' c',ex=.returned (.tuple #[.agg #[af (V:Int),.slice a' (eD V D l 0).length c'],af 0])/\cW w' a' c' (eD V D l 0)/\Bw w w':=by
 have hC:=avt V D (s,m,e) l hD;obtain⟨C,TT⟩:=aB (eD V D l 0);rw[TT]at hC⊢;have hmk:=λW (hW:Bw w W) b (hb:ar W b 90 [ah (iN V),ag s,ah m,af e])=>ahC V (some ⟨b,0,none⟩) 1 1 [(iN V,(s,m,e))] B W hV rfl zo (Sl.some _ _ _ (Nat.le_refl _)) (At.aGr hb) (by intro t ht;simp at ht;subst ht;exact aj9 V) (by intro t ht;simp at ht;subst ht;simp[iN];omega) (by intro t ht;simp at ht;subst ht;exact hf) zo (hT.below hW);rw[hC]at hmk;have vg:=λW=>Na (V:Int) W;have hd:decide (0<=(V:Int)/\(V:Int)<=12)=true:=by simp;omega
 rw[hd]at vg;have hmb:=λW=>yH (V:Int) V rfl zo W;have hcv:∀W b,Hid (ar W b 5 (cM V λ_=>0))->(convert 172 9 (.slice (some ⟨b,0,none⟩) V V)).run Tryz.prog W=.ok (ah (iN V)) W:=λW b h=>by rw[<-aBQ];exact yP h.out V
 obtain⟨mG,GG⟩:=aK hmk vg;clear hmk vg hd hC TT hT hf hD;have Hb:=hbz w;go_enter Tryz.func149,Tryz.ntmps149;go_wp2_with fail;refine lw w (Hb.an trivial) 30 [ag s,ah m,af e] 24 [af 0,.slice none 0 0] λW aR ae ak=>?_;go_wp2_with fail;refine aJ ae (GG.out _) λw1 ae ak=>?_;go_wp2_with fail;obtain⟨Hc,Hr,Hb,_⟩:=ae;obtain⟨c0,c1,c2⟩:=Hc.out.c3;obtain⟨r0,aO,r1,aQ⟩:=Hr.out.g2;refine fh (λw'=>aH w' (w.heap.size) 0 (ag s)/\aH w' (w.heap.size) 1 (ah m)/\aH w' (w.heap.size) 2 (af e)) (λi=>Nat.blt i 10) [(0,true),(1,true),(4,true),(2,false),(3,false),(5,true),(6,false),(7,false),(8,true),(9,true),(10,false),(11,false)] zk zk rfl zk zc ⟨c0,c1,c2⟩ ?_;iterate 3 (refine pT rfl rfl ?_ (by intro w' ⟨q0,q1,q2⟩;go_simp;try with_reducible rfl);try simp only[UU])
 refine aM rfl rfl (λK hK=>?_);go_simp;refine hK _ _ (λ_=>⟨aU c0,aU c1,aU c2⟩) ?_;try simp only[UU]
 refine cB (λW3=>ar W3 (w1.heap.size) 5 (cM V (λ_=>0))/\Bw w1 W3) (by first|exact iX|exact iY) ?_;rintro W3 ⟨qq,ai⟩;have ahv:=Hc.out.lt;have ahw:=Hr.out.lt;replace Hc:=kB Hc ai;replace Hr:=kB Hr ai;have Hq:=aj qq;clear qq;obtain⟨c0,c1,c2⟩:=Hc.out.c3;obtain⟨r0,aO,r1,aQ⟩:=Hr.out.g2;replace Hb:=aW Hb ai;refine aM rfl rfl (λK hK=>?_);go_simp;refine hK _ _ (λ_=>⟨c0,c1,c2⟩) ?_;try simp only[UU]
 refine pT rfl rfl ?_;try simp only[UU]
 refine aM rfl rfl (λK hK=>?_);go_simp;refine hK _ _ (λ_=>⟨aU c0,aU c1,aU c2⟩) ?_;try simp only[UU]
 refine cB (λW4=>ar W4 (W3.heap.size) 90 [ah (iN V),ag s,ah m,af e]/\Bw W3 W4) (by first|exact iX|exact iY) ?_;rintro W4 ⟨qz,ai⟩;have avS:=Hc.out.lt;have avW:=Hr.out.lt;have aFg:=Hq.out.lt;replace Hc:=kB Hc ai;replace Hr:=kB Hr ai;replace Hq:=kB Hq ai;have Hz:=aj qz;clear qz;obtain⟨c0,c1,c2⟩:=Hc.out.c3;obtain⟨r0,aO,r1,aQ⟩:=Hr.out.g2;obtain⟨z0,z1,z2,z3⟩:=Hz.out.c4;replace Hb:=aW Hb ai;refine aM rfl rfl (λK hK=>?_);go_simp;with_reducible refine(mG.out _ Hb.out _ Hz.out).mono ?_
 rintro e w5 ⟨a2,d2,rfl,gS,hq⟩;have ai:Bw W4 w5:=by first|exact hq|exact cu hq
 obtain⟨Hc,c0,c1,c2⟩:=gD Hc ai;obtain⟨Hr,r0,aO,r1,aQ⟩:=dt Hr ai;replace Hq:=kB Hq ai;obtain⟨Hz,z0,z1,z2,z3⟩:=wR Hz ai;replace Hb:=aW Hb ai;refine hK _ _ (λ_=>⟨c0,c1,c2⟩) ?_;try simp only[UU]
 iterate 2 (refine pT rfl rfl ?_;try simp only[UU])
 refine aM rfl rfl (λK hK=>?_);go_simp;refine hK _ _ (by first|exact λh=>absurd h zd|exact λ_=>⟨c0,c1,c2⟩ |exact λ_=>⟨(by first|exact c0|exact aF zf c0|exact aF zf (aF zf c0) |exact aF zf (aF zf (aF zf c0))),(by first|exact c1|exact aF zf c1|exact aF zf (aF zf c1) |exact aF zf (aF zf (aF zf c1))),(by first|exact c2|exact aF zf c2|exact aF zf (aF zf c2) |exact aF zf (aF zf (aF zf c2)))⟩) ?_;try simp only[UU]
 refine aM rfl rfl (λK hK=>?_);go_simp;refine hK _ _ (λh=>absurd h zd) ?_;try simp only[UU]
 simp only[bH];go_wp2;refine Ip (Hr.out) gS Hb.out zo ?_;intro w9 gB na ku;obtain⟨p0,p1⟩:=gB.c2;exact bodyPost_ret (v:=.tuple #[.agg #[af (V:Int),.slice a2 C.length d2],af 0]) (by simp[results,Tryz.results149,go_sem,p0,p1]) rfl ⟨_,_,rfl,Pi na,ku⟩
def aAT (V k:Nat):((List.range V).map λj=>UInt8.ofNat (if j=k then 1 else 0))=cN V k:=by
 unfold cN;apply List.ext_getElem
 . simp
 . intro i h1 h2;rw[List.getElem_map,List.getElem_range,List.getElem_set];by_cases h:k=i
   . subst h;simp
   . rw[if_neg (λe=>h e.symm),if_neg h];simp
def aAU :Fit 1 (canon (1:Dyadic)):=Sm.one.fit zd
def aAZ (V k:Nat)(w:World)(hV:V<=12)(hk:k<V)(hT:aC w):
 Cl 168 #[af (V:Int),af (k:Int)] w λex w'=>∃a' c',ex=.returned (.tuple #[.agg #[af (V:Int),.slice a' (cg [(cN V k,canon 1)]).length c'],af 0])/\cW w' a' c' (cg [(cN V k,canon 1)])/\Bw w w':=by
 obtain⟨C,hC⟩:=aB (cg [(cN V k,canon 1)]);rw[hC];obtain⟨O,hO⟩:∃O:Dyadic,(1:Dyadic)=O:=⟨_,rfl⟩;have hmk:=λW (hW:Bw w W) b (hb:ar W b 90 [ah (cN V k),ag (az (dN O)),ah (nt (dN O).natAbs),af (dE O)])=>ahC V (some ⟨b,0,none⟩) 1 1 [(cN V k,canon 1)] 1 W hV rfl zo (Sl.some _ _ _ (Nat.le_refl _)) (by rw[hO];exact At.aGr hb) (by intro t ht;simp at ht;subst ht;exact Yr V k) (by intro t ht;simp at ht;subst ht;simp[cN];omega) (by intro t ht;simp at ht;subst ht;exact aAU) zo (hT.below hW);rw[hC]at hmk;have hof:=λW (hW:Bw w W)=>uP 1 O hO W zd (hT.below hW);have vg:=λW=>Na (V:Int) W;have hd:decide (0<=(V:Int)/\(V:Int)<=12)=true:=by simp;omega
 rw[hd]at vg;have hmb:=λW=>yH (V:Int) V rfl zo W;have hcv:∀W b,Hid (ar W b 5 (cM V λj=>if j=k then 1 else 0))->(convert 172 9 (.slice (some ⟨b,0,none⟩) V V)).run Tryz.prog W=.ok (ah (cN V k)) W:=λW b h=>by rw[<-aAT V k];exact yP h.out V
 have bD:=λb=>yw V V k (k:Int) (rfl:(some ⟨b,0,none⟩:Option Addr)=_) hk rfl;simp only[Nat.zero_add,Nat.mul_one]at bD;have hget:(cM V λ_=>0)[k]?=some (.int .u8 0):=oJ _ _ _ hk;have lW:(cM V λ_=>0).set k (.int .u8 1)=cM V λj=>if j=k then 1 else 0:=KV V _ k 1
 obtain⟨mG,uz,GG⟩:=cw hmk hof vg;clear hmk hof vg hd hC hT hO;have Oo:¬(k:Int)<0:=by omega
 have Hb:=hbz w;go_enter Tryz.func168,Tryz.ntmps168;go_wp2_with fail;refine ik w (Hb.an trivial) 24 [af 0,.slice none 0 0] λW aR ae ak=>?_;go_wp2_with fail;refine aJ ae (GG.out _) λw1 ae ak=>?_;go_wp2_with fail;obtain⟨R,hR⟩:∃R:World->Prop,(λW3=>ar W3 w1.heap.size 5 (cM V λj=>if j=k then 1 else 0)/\Bw w1 W3)=R:=⟨_,rfl⟩;first|refine dA R ?hR ?_|refine dV R ?hR ?_
 case hR=>subst hR;exact⟨ar.newAt w1 _ _ (b:=w1.heap.size) rfl,zl⟩
 subst hR;intro W3 ⟨qm,ai⟩;obtain⟨ae,ak⟩:=qX ai ae;skip
 have Hm:=aj qm;clear qm ai hget lW bD hmb;obtain⟨Hr,Hb,_⟩:=ae;obtain⟨r0,aO,r1,aQ⟩:=Hr.out.g2;have gJ:∀w',ez W3 w'->(convert 172 9 (.slice (some ⟨w1.heap.size,0,none⟩) V V)).run Tryz.prog w'=.ok (ah (cN V k)) w':=λw' h=>hcv w' _ (aj (Hm.out.below h));have cf:Hid (ez W3 W3):=Below.refl _ _;refine fh (λw'=>ez W3 w') (λi=>Nat.blt i 9) [(0,true),(1,true),(2,true),(3,false),(4,true),(5,false),(6,false),(7,true),(8,true),(9,false),(10,false)] zk zk rfl zk zc cf.out.drew ?_;iterate 3 (refine Ps rfl rfl (v:=?_) (λw' hw'=>?_) ?_;rotate_left;(focus have hw':=gJ w' hw';go_simp;try with_reducible rfl);try simp only[UU])
 refine aM rfl rfl (λK hK=>?_);go_simp;with_reducible refine(uz.out _ (by first|exact Hb.out|exact Hb.out.drew)).mono ?_
 rintro e w4 ⟨rfl,hq⟩;have ai:Bw W3 w4:=by first|exact hq|exact cu hq
 replace cf:=aj (cf.out.below ai);obtain⟨Hr,r0,aO,r1,aQ⟩:=dt Hr ai;replace Hb:=aW Hb ai;refine hK _ _ (λ_=>cf.out) ?_;try simp only[UU]
 refine pT rfl rfl ?_;try simp only[UU]
 refine aM rfl rfl (λK hK=>?_);go_simp;refine hK _ _ (λ_=>by first|exact cf.out.alloc _|exact(cf.out.alloc _).drew|exact(cf.out.drew).alloc _) ?_;try simp only[UU]
 refine cB (λW5=>ar W5 (w4.heap.size) 90 [ah (cN V k),ag (az (dN O)),ah (nt (dN O).natAbs),af (dE O)]/\Bw w4 W5) (by first|exact iX|exact iY) ?_;rintro W5 ⟨qz,ai⟩;have avX:=Hr.out.lt;replace cf:=aj (cf.out.below ai);replace Hr:=kB Hr ai;have Hz:=aj qz;clear qz;obtain⟨r0,aO,r1,aQ⟩:=Hr.out.g2;obtain⟨z0,z1,z2,z3⟩:=Hz.out.c4;replace Hb:=aW Hb ai;refine aM rfl rfl (λK hK=>?_);go_simp;with_reducible refine(mG.out _ Hb.out _ Hz.out).mono ?_
 rintro e w6 ⟨a2,d2,rfl,gS,hq⟩;have ai:Bw W5 w6:=by first|exact hq|exact cu hq
 replace cf:=aj (cf.out.below ai);obtain⟨Hr,r0,aO,r1,aQ⟩:=dt Hr ai;obtain⟨Hz,z0,z1,z2,z3⟩:=wR Hz ai;replace Hb:=aW Hb ai;refine hK _ _ (λ_=>cf.out) ?_;try simp only[UU]
 iterate 2 (refine pT rfl rfl ?_;try simp only[UU])
 refine aM rfl rfl (λK hK=>?_);go_simp;refine hK _ _ (by first|exact λh=>absurd h zd|exact λ_=>cf.out|exact λ_=>gZ zg cf.out) ?_;try simp only[UU]
 refine aM rfl rfl (λK hK=>?_);go_simp;refine hK _ _ (λh=>absurd h zd) ?_;try simp only[UU]
 simp only[bH];go_wp2;refine Ip (Hr.out) gS Hb.out zo ?_;intro w9 gB na ku;obtain⟨p0,p1⟩:=gB.c2;exact bodyPost_ret (v:=.tuple #[.agg #[af (V:Int),.slice a2 C.length d2],af 0]) (by simp[results,Tryz.results168,go_sem,p0,p1]) rfl ⟨_,_,rfl,Pi na,ku⟩
def av8 {l:List UInt8}{V:Nat}(h:fQ l (V:Int)=true):l.length=V:=by unfold fQ at h;rw[Bool.and_eq_true]at h;have:=h.2;simp at this;omega
def jI (V B:Nat)(ts:List Trm):Prop:=Ml V ts/\∀t∈ts,Fit B t.2
def jI.chk {V B:Nat}{ts:List Trm}(h:jI V B ts):∀t∈ts,t.1.length<=9223372036854775807/\Ok t.2:=λt ht=>⟨by have:=av8 (h.1.2.1 t ht);have:=h.1.2.2.2;omega,(h.2 t ht).1⟩
def azf (V:Nat)(a:Option Addr)(cap:Nat)(ts:List Trm)(s:Bool)(m:List UInt8)(e:Int)(D:Dyadic)(B:Nat)(w:World)(hp:jI V B ts)(ha:zw w a cap ts)(hf:Fit B (s,m,e))(hB:2*B+8192<=268435456)(hT:aC w)(hD:au (s,m,e)=D):
 Cl 151 #[.agg #[af (V:Int),.slice a ts.length cap],.agg #[ag s,ah m,af e]] w λex w'=>∃a' c',ex=.returned (.tuple #[.agg #[af (V:Int),.slice a' (cg (gG D ts)).length c'],af 0])/\cW w' a' c' (cg (gG D ts))/\Bw w w':=by
 obtain⟨n,hn⟩:=aB ts.length;have hnl:n<=4096:=by have:=hp.1.2.2.1;omega
 have hV:V<=12:=hp.1.2.2.2;obtain⟨C,hC⟩:=aB (cg (gG D ts));have nU:(gG D ts).length=n:=by unfold gG;rw[List.length_map,hn]
 have hSf:∀t∈gG D ts,Fit (2*B) t.2:=by intro t ht;unfold gG at ht;obtain⟨x,hx,rfl⟩:=List.mem_map.1 ht;refine Sm.fit ?_ zo;have:=Sm.mul (hp.2 x hx).2 hf.2;rw[hD]at this;exact this.mono zo
 have dm:=λW (hW:Bw w W)=>Pq (V:Int) a cap n ts W hn zo (ha.1.below hW) hp.chk (hT.below hW);rw[aik hp.1]at dm;have hs:=ha.2;rw[hn]at hs;have hcn:=λW (hW:Bw w W)=>(abT a n cap ts W hn zo hs (ha.1.below hW)).mono (λe w' h=>(match h with|⟨v,h1,h2,h3⟩=>⟨v,h1,h2,h3,h3⟩:∃v',e=.returned v'/\w'.ownsRow W.heap.size 90 4 v' n (ts.flatMap aY)/\Bw W w'/\Bw W w'));have hcl:=λw0 W v (hw0:Bw w w0) (hb0:Bw w0 W) (ho:W.ownsRow w0.heap.size 90 4 v n ((gG D ts).flatMap aY))=>SY (V:Int) v n (gG D ts) C (2*B) w0 W hb0 nU hnl ho hSf zo (hT.below hw0) hC;have gy:=hp.2;rw[hn,hC];obtain⟨kH,xC,fJ,sZ,HT,Hn,QX,HD⟩:=jZ dm hcn hcl gy hT hn hf hD;clear dm hcn hcl gy hT hn hf hD hC nU hSf hs ha hp;have Hb:=hbz w;go_enter Tryz.func151,Tryz.ntmps151;go_wp2_with fail;refine Py w (Hb.an trivial) 24 [af (V:Int),.slice a n cap] 30 [ag s,ah m,af e] 24 [af 0,.slice none 0 0] λW aR ae ak=>?_;go_wp2_with fail;refine aJ ae (kH.out _ ae.2.2.2.1.out) λw1 ae ak=>?_;obtain⟨Hp,Hc,Hr,Hb,_⟩:=ae;obtain⟨p0,p1⟩:=Hp.out.c2;obtain⟨c0,c1,c2⟩:=Hc.out.c3;obtain⟨r0,aO,r1,aQ⟩:=Hr.out.g2;have RB:=Hp;have QA:=Hc;have qP:=Hr;have fW:=Hb;go_wp2_with fail;refine(xC.out _ Hb.out).mono ?_;rintro e w2 ⟨v1,rfl,iA,Ac,ai⟩;obtain⟨ae,ak⟩:=qX ai (Hb.an<|Hp.an<|Hc.an<|Hr.an trivial);obtain⟨a1,d1,rfl,_,_⟩:=dZ iA;obtain⟨GQ,Zz⟩:=aK iA Ac;clear iA Ac;go_wp2_with fail;go_loopw[20] (λx wr=>∃(k:Nat) (C:List Trm),k<=n/\x=af (k:Int)/\C.length=n/\C.take k=(gG D ts).take k/\C.drop k=ts.drop k/\wr.ownsRow w1.heap.size 90 4 (.slice a1 n d1) n (C.flatMap aY)/\Bw w1 wr) (λx _=>n-(intOf x).toNat);case atStart=>exact⟨0,ts,Nat.zero_le _,rfl,Hn.out,rfl,rfl,GQ.out,Zz.out⟩
 case round=>
  clear GQ Zz;obtain⟨k,C',hk,rfl,hC,htk,hdr,hov,pb⟩:=hrel;obtain⟨Hp,Hc,Hr⟩:=cw (RB.out.below pb) (QA.out.below pb) (qP.out.below pb);have dY:=aI fW.out pb;have xh:=fW.out.size;by_cases hlt:k<n
  . obtain⟨g,cc,he,hg1,hg2,hg3⟩:=Fw hov zo;simp only[Value.slice.injEq,true_and]at he;obtain⟨rfl,rfl⟩:=he;have yl:k<C'.length:=by omega
    have Cj:k<ts.length:=by have:=Hn.out;omega
    have hel:=acy hdr yl Cj;obtain⟨l,s1,q1,e1,hx⟩:∃l s m e,C'[k]=(l,s,m,e):=⟨_,_,_,_,rfl⟩;have mY:=sZ.out _ (List.getElem_mem Cj);rw[<-hel,hx]at mY;obtain⟨X,hX⟩:=aB (au (s1,q1,e1) *D);have lW:=ahD (λx=>(x.1,canon (au x.2*D))) ts C' k yl (by rw[hC,Hn.out]) htk hel;have Jk:(C'[k].1,canon (au C'[k].2*D))=(l,canon X):=by rw[hx,<-hX]
    have agi:(C'.set k (l,canon X)).take (k+1)=(gG D ts).take (k+1):=by rw[<-Jk];exact lW
    have lT:C'[k].1=l:=by rw[hx]
    obtain⟨_,y1,y2,y3⟩:=(Pj hov k yl hx).w4;have hd2:C'.drop (k+1)=ts.drop (k+1):=by rw[<-List.drop_drop,<-List.drop_drop,hdr]
    have bD:=sI n d1 k (k:Int) (rfl:(some ⟨g,0,none⟩:Option Addr)=_) hlt rfl;rw[Nat.zero_add]at bD;have Hz:Hid (aZ wr g (k*4+1) [ag s1,ah q1,af e1]):=kE y1 y2 y3;have HX:Hid (au (s1,q1,e1) *au (s,m,e)=X):=by show _=_;rw[HD.out];exact hX
    obtain⟨eN,bo,GZ,Dr,HC,QG,td,fU⟩:=jZ hov pb agi hd2 hC lT mY (HT.out.below dY);have kD:=pb.size;clear hov pb lW agi hd2 hC htk hdr hel hx hX Jk lT mY Cj y1 y2 y3 dY RB QA qP Hp Hr;have Hb:=hbz wr;go_wp2_with fail;obtain⟨ae,ak⟩:=qZ (Hc.an<|Hz.an trivial);have HU:Hid (aC wr):=fU.out;obtain⟨Hc,Hz,_⟩:=ae;obtain⟨c0,c1,c2⟩:=Hc.out.c3;obtain⟨z0,z1,z2⟩:=Hz.out.w3;refine fh (λw'=>aH w' (w.heap.size+1) 0 (ag s)/\aH w' (w.heap.size+1) 1 (ah m)/\aH w' (w.heap.size+1) 2 (af e)/\aH w' g (k*4+1) (ag s1)/\aH w' g (k*4+1+1) (ah q1)/\aH w' g (k*4+1+2) (af e1)) (λi=>Nat.blt i 12) [(0,true),(1,true),(2,true),(3,true),(4,true),(5,true),(6,true),(7,true),(8,false),(9,false),(10,true),(11,true),(12,false)] zk zk rfl zk zc ⟨c0,c1,c2,z0,z1,z2⟩ ?_;iterate 8 (refine pT rfl rfl ?_ (by intro w' ⟨q0,q1,q2,q3,q4,q5⟩;go_simp;try with_reducible rfl);try simp only[UU])
    refine aM rfl rfl (λK hK=>?_);go_simp;refine hK _ _ (λ_=>⟨aU c0,aU c1,aU c2,aU z0,aU z1,aU z2⟩) ?_;try simp only[UU]
    refine cB (λW4=>ar W4 (wr.heap.size) 30 [ag s1,ah q1,af e1,ag s,ah m,af e]/\Bw wr W4) (by first|exact iX|exact iY) ?_;rintro W4 ⟨qv,ai⟩;have avS:=Hc.out.lt;replace Hc:=kB Hc ai;replace Hz:=kW Hz ai;replace HU:=kT HU ai;have Hv:=aj qv;clear qv;obtain⟨c0,c1,c2⟩:=Hc.out.c3;obtain⟨z0,z1,z2⟩:=Hz.out.w3;obtain⟨v0,v1,v2,v3,v4,v5⟩:=Hv.out.c6;replace Hb:=aW Hb ai;refine aM rfl rfl (λK hK=>?_);go_simp;with_reducible refine(tB s1 q1 e1 s m e X B HX.out wr.heap.size _ 30 _ td.out QX.out zo Hv.out (by first|exact HU.out|exact aC.drew HU.out|exact aC.alloc HU.out _|exact aC.drew (aC.alloc HU.out _) |exact aC.alloc (aC.drew HU.out) _)).mono ?_
    rintro e w5 ⟨rfl,hq⟩;have ai:Bw W4 w5:=by first|exact hq|exact cu hq
    obtain⟨Hc,c0,c1,c2⟩:=gD Hc ai;replace Hz:=kW Hz ai;replace HU:=kT HU ai;obtain⟨Hv,v0,v1,v2,v3,v4,v5⟩:=AA Hv ai;obtain⟨z0,z1,z2⟩:=Hz.out.w3;replace Hb:=aW Hb ai;refine hK _ _ (λ_=>⟨c0,c1,c2,z0,z1,z2⟩) ?_;try simp only[UU]
    iterate 2 (refine pT rfl rfl ?_;try simp only[UU])
    refine aM rfl rfl (λK hK=>?_);have jF:=ownsRow_below eN.out Hb.out;have II:=ug jF (k*4+1);have TH:=ug jF (k*4+1+1);have fz3:=ug jF (k*4+1+2);have di:=aI bo.out Hb.out;obtain⟨BC,gW⟩:=aK jF di;clear jF di;go_simp;refine hK _ _ (λh=>absurd h zd) ?_;try simp only[UU]
    simp only[bH];go_wp2;refine⟨⟨k+1,C'.set k (l,canon X),by omega,by go_num,by rw[List.length_set];exact HC.out,GZ.out,by rw[Tm _ _ _ _ zo];exact Dr.out,?_,?_⟩,by simp[intOf];omega⟩
    . have h:=aie BC.out k yl (az (dN X)) (nt (dN X).natAbs) (dE X);rw[QG.out]at h;exact h
    . exact((gW.out.setCell hg1 _).setCell hg1 _).setCell hg1 _
  . obtain rfl:k=n:=by omega
    have IL:C'=gG D ts:=by rw[List.take_of_length_le zo,List.take_of_length_le (by unfold gG;rw[List.length_map];have:=Hn.out;omega)]at htk;exact htk
    rw[IL]at hov;obtain⟨eN,bo⟩:=aK hov pb;have Hb:Hid (Bw w wr):=dY;clear hov pb htk hdr hC IL dY;obtain⟨ae,ak⟩:=qZ (Hp.an<|Hr.an trivial);obtain⟨Hp,Hr,_⟩:=ae;obtain⟨p0,p1⟩:=Hp.out.c2;obtain⟨r0,aO,r1,aQ⟩:=Hr.out.g2;go_wp2_with fail;refine(fJ.out w1 _ _ fW.out bo.out eN.out).mono ?_;rintro e w6 ⟨a2,d2,rfl,gS,ai⟩;replace Hp:=aj (RB.out.below ai);replace Hr:=aj (qP.out.below ai);obtain⟨p0,p1⟩:=Hp.out.c2;obtain⟨r0,aO,r1,aQ⟩:=Hr.out.g2;replace Hb:=aj (aI fW.out ai);go_wp2;refine Ip (Hr.out) gS Hb.out zo ?_;intro w9 gB na ku;obtain⟨q0,q1⟩:=gB.c2;exact bodyPost_ret (v:=.tuple #[.agg #[af (V:Int),.slice a2 C.length d2],af 0]) (by simp[results,Tryz.results151,go_sem,q0,q1]) rfl ⟨_,_,rfl,Pi na,ku⟩
def aiN (V:Nat)(a:Option Addr)(cap:Nat)(ts:List Trm)(s:Bool)(m:List UInt8)(e:Int)(D:Dyadic)(B:Nat)(w:World)(hp:jI V B ts)(ha:cW w a cap ts)(hf:Fit B (s,m,e))(hB:2*B+8192<=268435456)(hT:aC w)(hD:au (s,m,e)=D):
 Cl 151 #[.agg #[af (V:Int),.slice a ts.length cap],.agg #[ag s,ah m,af e]] w λex w'=>∃a' c',ex=.returned (.tuple #[.agg #[af (V:Int),.slice a' (cg (gG D ts)).length c'],af 0])/\cW w' a' c' (cg (gG D ts))/\Bw w w':=azf V a cap ts s m e D B w hp ha.w hf hB hT hD
def jg (w:World)(V B:Nat)(ps:List Pv)(Ts:Nat->List Trm):Prop:=∀k (h:k<ps.length),∃a c,ps[k]=⟨(V:Int),a,(Ts k).length,c⟩/\cW w a c (Ts k)/\jI V B (Ts k)
def jg.below {w w':World}{V B:Nat}{ps:List Pv}{Ts:Nat->List Trm}(h:jg w V B ps Ts)(hb:Bw w w'):jg w' V B ps Ts:=λk hk=>by obtain⟨a,c,h1,h2,h3⟩:=h k hk;exact⟨a,c,h1,h2.below hb,h3⟩
instance {w :World} {V B:Nat} {ps:List Pv} {Ts:Nat->List Trm}:QTr (jg w V B ps Ts) w (λW=>jg W V B ps Ts):=⟨λh _ k=>jg.below h k⟩
def zz (w:World)(V B:Nat)(ps:List Pv)(Ts:Nat->List Trm):Prop:=∀k (h:k<ps.length),∃a c,ps[k]=⟨(V:Int),a,(Ts k).length,c⟩/\zw w a c (Ts k)/\jI V B (Ts k)
def zz.below {w w':World}{V B:Nat}{ps:List Pv}{Ts:Nat->List Trm}(h:zz w V B ps Ts)(hb:Bw w w'):zz w' V B ps Ts:=λk hk=>by obtain⟨a,c,h1,h2,h3⟩:=h k hk;exact⟨a,c,h1,h2.below hb,h3⟩
instance {w :World} {V B:Nat} {ps:List Pv} {Ts:Nat->List Trm}:QTr (zz w V B ps Ts) w (λW=>zz W V B ps Ts):=⟨λh _ k=>zz.below h k⟩
def below_drewN {n:Nat}{w w':World}(h:Below n w w')(k:Nat):Below n w (w'.drewN k):=by
 induction k with
 |zero=>exact h
 |succ k ih=>exact ih.drew
def avm (V V':Int)(aT:Option Addr)(nT cT:Nat)(bl:Nat)(b o L cap:Nat)(q:Value)(w:World)(hc:w.cell? ⟨bl,0,none⟩=some (.slice (some ⟨b,o,none⟩) L cap))(hL:0<L)(hw:aZ w b o [af V,q]):
 Cv 276 #[.agg #[af V',.slice aT nT cT],.pointer (some ⟨bl,0,none⟩)] w (ag (V' !=V)):=by
 have bD:=CC L cap 0 0 (rfl:(some ⟨b,o,none⟩:Option Addr)=_) hL rfl;rw[Nat.zero_mul,Nat.add_zero]at bD;have h0:w.cell? ⟨b,o,none⟩=some (af V):=by have:=hw.w2.1;exact this
 obtain⟨Hc,H0⟩:=aK hc h0;clear hc h0 hw;obtain⟨W,cE,ae,ak⟩:=il w 24 [af V',.slice aT nT cT];have k1:=cell_later ae.1.out Hc.out;have k2:=cell_later ae.1.out H0.out;go_enter Tryz.func276,Tryz.ntmps276;go_wp2_with fail;go_quiet (fail)
 go_wp2;refine bodyPost_ret (results_tmp rfl _ _ _) rfl ⟨rfl,(below_drewN ae.1.out _)⟩
def avn (V B:Nat)(b o L cap:Nat)(ps:List Pv)(Ts:Nat->List Trm)(w:World)(hL:ps.length=L)(Ns:0<L)(kR:L<=65536)(ha:At w (some ⟨b,o,none⟩) (ps.flatMap mD))(hp:zz w V B ps Ts)(hT:aC w):
 Cv 223 #[.slice (some ⟨b,o,none⟩) L cap] w (af 0):=by
 have eg:∀args w,(callFunc 276 args).run Tryz.prog w=.ok (.enter 276 args) w:=enters_of Tryz.func276 zk rfl;have hct:∀W bl,Bw w W->W.cell? ⟨bl,0,none⟩=some (.slice (some ⟨b,o,none⟩) L cap)->Cv 177 #[.slice (some ⟨b,o,none⟩) L cap,.func (.func 276) #[] #[.pointer (some ⟨bl,0,none⟩)]] W (ag false):=by
  intro W bl hW hc;obtain⟨a0,c0,e0,_,_⟩:=hp 0 zo;obtain⟨b',o',hab,eG⟩:=(ha.below hW).aGv 0 zo e0;simp only[Option.some.injEq,Addr.mk.injEq,and_true]at hab;obtain⟨rfl,rfl⟩:=hab;rw[Nat.zero_mul,Nat.add_zero]at eG;have h:=aqy (some ⟨b,o,none⟩) L cap ps 276 #[.pointer (some ⟨bl,0,none⟩)] (λp=>p.V !=(V:Int)) W hL zo (ha.below hW) eg (λx hx W2 hW2=>by simpa using avm (V:Int) x.V x.a x.n x.c bl b o L cap _ W2 (cell_later hW2 hc) Ns (eG.below hW2));have hf:(ps.any λp=>p.V !=(V:Int))=false:=by rw[List.any_eq_false];intro p OB;obtain⟨k,hk,rfl⟩:=List.mem_iff_getElem.1 OB;obtain⟨a,c,e1,_,_⟩:=hp k hk;rw[e1];simp
  rwa [hf]at h
 have dm:=λW (hW:Bw w W) k (hk:k<ps.length)=>(show ∃a c,ps[k]=⟨(V:Int),a,(Ts k).length,c⟩/\Cv 49 #[.agg #[af (V:Int),.slice a (Ts k).length c]] W (af 0)from by
  obtain⟨a,c,e1,h1,h2⟩:=hp k hk;refine⟨a,c,e1,?_⟩;have h:=Pq (V:Int) a c (Ts k).length (Ts k) W rfl (by have:=h2.1.2.2.1;omega) (h1.1.below hW) h2.chk (hT.below hW)
  rwa [aik h2.1]at h)
 obtain⟨QE,kH,Ha,HL⟩:=dv hct dm ha hL;clear hct dm ha hL hp hT eg;have hLn:((L:Int)==0)=false:=by simp;omega
 have Hb:=hbz w;go_enter Tryz.func223,Tryz.ntmps223;go_wp2_with fail;refine ik w (Hb.an trivial) 72 [.slice (some ⟨b,o,none⟩) L cap] λW aR ae ak=>?_;go_loopw[8] (λx wr=>∃k:Nat,k<=L/\x=af (k:Int)/\Bw W wr) (λx _=>L-(intOf x).toNat);case atStart=>exact⟨0,Nat.zero_le _,rfl,Below.refl _ _⟩
 case round=>
  skip
  obtain⟨k,hk,rfl,pb⟩:=hrel;obtain⟨dY,hl,bo⟩:=cw (aI ae.2.1.out pb) (ae.1.out.below pb) pb;clear pb;by_cases hlt:k<L
  . have hk2:k<ps.length:=by rw[HL.out];exact hlt
    obtain⟨a1,c1,e1,hcall⟩:=kH.out wr dY.out k hk2;obtain⟨b',o',hab,eG⟩:=(Ha.out.below dY.out).aGv k hk2 e1;obtain⟨rfl,rfl⟩:b=b'/\o=o':=by simp at hab;exact hab
    have hcall:=λW (hW:Bw w W)=>(kH.out W hW k hk2);have bD:=CC L cap k (k:Int) (rfl:(some ⟨b,o,none⟩:Option Addr)=_) hlt rfl;obtain⟨nT,fO⟩:=aB ((Ts k).length);have atB:Hid (∀W,Bw w W->Cv 49 #[.agg #[af (V:Int),.slice a1 nT c1]] W (af 0)):=by intro W hW;obtain⟨a2,c2,e2,h2⟩:=hcall W hW;rw[e1]at e2;simp only[Pv.mk.injEq,true_and]at e2;obtain⟨rfl,rfl⟩:=e2;rw[fO]at h2;exact h2
    rw[fO]at eG;have Hx:Hid (aZ wr b (o+k*2) [af (V:Int),.slice a1 nT c1]):=eG;clear eG hcall hab e1 fO;have Hb:=hbz wr;obtain⟨ae,ak⟩:=qZ (Hx.an trivial);have x0:wr.cell? ⟨b,o+k*2,none⟩=some (af (V:Int)):=ae.1.out.cell 0 zm;have x1:wr.cell? ⟨b,o+k*2+1,none⟩=some (.slice a1 nT c1):=ae.1.out.cell 1 zm;have P0:=x0;have P1:=x1;obtain⟨W3,Uv,aR,ae,ak⟩:=bX wr (Hb.an ae) 24 [af (V:Int),.slice a1 nT c1];go_wp2_with fail;refine aJ ae (atB.out _ (aI dY.out ae.2.1.out)) λw4 ae ak=>?_;go_wp2;go_roundw;case rel=>exact⟨k+1,by omega,by go_num,aI bo.out ae.2.1.out⟩
    case measure=>exact bC
  . obtain rfl:k=L:=by omega
    have Hb:=dY;have Hl:=hl;obtain⟨ae,ak⟩:=qZ (Hl.an trivial);have l0:wr.cell? ⟨w.heap.size,0,none⟩=some (.slice (some ⟨b,o,none⟩) k cap):=ae.1.out.cell 0;go_wp2_with fail;refine aJ (Hb.an ae) (QE.out _ _ Hb.out l0) λw6 ae ak=>?_;go_wp2;go_ret;exact⟨rfl,ae.1.out⟩
def jO (Ts:Nat->List Trm):Nat->List Trm
 |0=>[]
 |k+1=>ij (jO Ts k) (Ts k)
def oW (Ts:Nat->List Trm):Nat->List Trm
 |0=>[]
 |k+1=>oW Ts k++Ts k
def aqo (Ts:Nat->List Trm)(k:Nat)(m:List UInt8):cJ (jO Ts k) m=cJ (oW Ts k) m:=by
 induction k with
 |zero=>rfl
 |succ k ih=>unfold jO oW;rw[abY,Eg,ih]
def ahS (Ts:Nat->List Trm)(k:Nat):(jO Ts k).length<=(oW Ts k).length:=by
 induction k with
 |zero=>exact Nat.le_refl _
 |succ k ih=>unfold jO oW;have:=ahR (jO Ts k) (Ts k);rw[List.length_append];omega
def abK (Ts:Nat->List Trm)(j k:Nat)(h:j<=k):(oW Ts j).length<=(oW Ts k).length:=by
 induction k with
 | zero => obtain rfl:j=0:=by omega
           exact Nat.le_refl _
 | succ k ih=>
   by_cases e:j=k+1
   . subst e;exact Nat.le_refl _
   . have:=ih zo;rw[show oW Ts (k+1)=oW Ts k++Ts k from rfl,List.length_append];omega
def awr {B:Nat}(Ts:Nat->List Trm)(k:Nat)(h:∀j,j<k->∀t∈Ts j,Fit B t.2)(hB:B+k<=268435456):∀t∈jO Ts k,Fit (B+k) t.2:=by
 induction k with
 |zero=>intro t ht;cases ht
 |succ k ih=>unfold jO;have:=ahQ (B:=B+k) (jO Ts k) (Ts k) (ih (λj hj=>h j zo) zo) (λt ht=>(h k zo t ht).mono zo) zo;exact this
def axB (V B:Nat)(b o L cap:Nat)(ps:List Pv)(Ts:Nat->List Trm)(C:List Trm)(w:World)(hL:ps.length=L)(Ns:0<L)(kR:L<=65536)(ha:At w (some ⟨b,o,none⟩) (ps.flatMap mD))(hp:zz w V B ps Ts)(hn:(oW Ts L).length<=4096)(hB:B+L+8192<=268435456)(hT:aC w)(hC:cg (oW Ts L)=C):
 Cl 152 #[.slice (some ⟨b,o,none⟩) L cap] w λex w'=>∃a' c',ex=.returned (.tuple #[.agg #[af (V:Int),.slice a' C.length c'],af 0])/\cW w' a' c' C/\Bw w w':=by
 have IE:=enters_of Tryz.func225 zk rfl;have ID:=enters_of Tryz.func226 zk rfl;have hlk:=λW (hW:Bw w W)=>avn V B b o L cap ps Ts W hL Ns kR (ha.below hW) (hp.below hW) (hT.below hW);have hCm:cg (jO Ts L)=C:=by rw[<-hC];exact Ee (aqo Ts L)
 have Am:(jO Ts L).length<=4096:=Nat.le_trans (ahS Ts L) hn;have Vd:∀j,j<L->∀t∈Ts j,Fit B t.2:=λj hj=>by obtain⟨a,c,_,_,h⟩:=hp j zo;exact h.2
 have JG:=λk (hk:k<=L)=>awr (B:=B) Ts k (λj hj=>Vd j zo) zo;have hcl:=λw0 W v (hw0:Bw w w0) (hb0:Bw w0 W) (ho:W.ownsRow w0.heap.size 90 4 v (jO Ts L).length ((jO Ts L).flatMap aY))=>SY (V:Int) v _ (jO Ts L) C (B+L) w0 W hb0 rfl Am ho (JG L (Nat.le_refl _)) zo (hT.below hw0) hCm;obtain⟨a0,c0,e0,_,_⟩:=hp 0 zo;obtain⟨b',o',hab,eG⟩:=ha.aGv 0 zo e0;obtain⟨rfl,rfl⟩:b=b'/\o=o':=by simp at hab;exact hab
 rw[Nat.zero_mul,Nat.add_zero]at eG;have tQ:=CC L cap 0 0 (rfl:(some ⟨b,o,none⟩:Option Addr)=_) Ns rfl;rw[Nat.zero_mul,Nat.add_zero]at tQ;obtain⟨n0,hn0⟩:=aB ((Ts 0).length);rw[hn0]at eG;have hlb:b<w.heap.size:=World.block_lt_of_cell? w _ eG.w2.1;obtain⟨Hlk,fJ,Hmf,Hp,Ha,HT,HL,QQ,QP,HfT,Hw,Rf⟩:=ie hlk hcl JG hp ha hT hL IE ID Vd eG tQ
 have jA:Hid (∀k,k<L->(jO Ts k).length<=4096/\(Ts k).length<=4096):=λk hk=>⟨Nat.le_trans (Nat.le_trans (ahS Ts k) (abK Ts k L zo)) hn,by
  have h1:=abK Ts (k+1) L zo
  rw[show oW Ts (k+1)=oW Ts k++Ts k from rfl,List.length_append]at h1;omega⟩
 clear hlk hcl JG hp ha hT hL IE ID Vd eG tQ hC hCm hn Am hab e0 hn0;have Hb:=hbz w;go_enter Tryz.func152,Tryz.ntmps152;go_wp2_with fail;refine ik w (Hb.an trivial) 24 [af 0,.slice none 0 0] λW aR ae ak=>?_;go_wp2_with fail;refine aJ ae (Hlk.out _ ae.2.1.out) λw1 ae ak=>?_;obtain⟨Hr,Hb,_⟩:=ae;obtain⟨r0,aO,r1,aQ⟩:=Hr.out.g2;have qP:=Hr;have fW:=Hb;go_wp2_with fail;go_loopw[5,16] (λs5 x wr=>∃(k:Nat) (v:Value),k<=L/\x=af (k:Int)/\v=s5/\wr.ownsRow w1.heap.size 90 4 v (jO Ts k).length ((jO Ts k).flatMap aY)/\Bw w1 wr) (λ_ x _=>L-(intOf x).toNat);case atStart=>exact⟨0,_,Nat.zero_le _,rfl,rfl,World.ownsRow_nil _ _ _ _,Below.refl _ _⟩
 case round=>
  clear r0 aO r1 aQ Hr Hb;obtain⟨k,v,hk,rfl,rfl,ho,pb⟩:=hrel;have dY:=aI fW.out pb;have xh:=fW.out.size;have kD:=pb.size;by_cases hlt:k<L
  . have hk2:k<ps.length:=by rw[HL.out];exact hlt
    obtain⟨a1,c1,e1,hpl,hft⟩:=Hp.out k hk2;obtain⟨b',o',hab,eG⟩:=(Ha.out.below dY).aGv k hk2 e1;obtain⟨rfl,rfl⟩:b=b'/\o=o':=by simp at hab;exact hab
    have bD:=CC L cap k (k:Int) (rfl:(some ⟨b,o,none⟩:Option Addr)=_) hlt rfl;obtain⟨av,cv,rfl,hav,_⟩:=dZ ho;have hsv:=CV ho;have sF:=jA.out k hlt;have hfm:=Hmf.out k zo;have mX:=HfT.out k hlt;have hsk:=hpl.2;have Hm:Hid (∀W,Bw wr W->Cl 224 #[.slice av (jO Ts k).length cv,.slice a1 (Ts k).length c1,.func (.func 225) #[] #[],.func (.func 226) #[] #[]] W λe w'=>∃v',e=.returned v'/\w'.ownsRow w1.heap.size 90 4 v' (jO Ts (k+1)).length ((jO Ts (k+1)).flatMap aY)/\Bw W w'):=by intro W hW;refine(ahG av _ cv (jO Ts k) a1 _ c1 (Ts k) (B+L) W rfl rfl hsv hsk zo zo (hav.below hW) (hpl.1.below (aI dY hW)) (λt ht=>(hfm t ht).mono zo) (λt ht=>(mX t ht).mono zo) zo (HT.out.below (aI dY hW))).mono ?_;rintro e w' ⟨v',rfl,h1,h2⟩;exact⟨v',rfl,CW h1 (by have:=hW.size;omega),h2⟩
    obtain⟨nv,vv⟩:=aB ((jO Ts k).length);obtain⟨nT,fO⟩:=aB ((Ts k).length);rw[vv,fO]at Hm;rw[fO]at eG;have Hx:Hid (aZ wr b (o+k*2) [af (V:Int),.slice a1 nT c1]):=eG;have bo:=aj pb;rw[vv];clear eG hab e1 fO vv hpl hft ho hav hsv sF hfm mX hsk pb dY;have Hb:=hbz wr;obtain⟨ae,ak⟩:=qZ (Hx.an trivial);have x0:wr.cell? ⟨b,o+k*2,none⟩=some (af (V:Int)):=ae.1.out.cell 0 zm;have x1:wr.cell? ⟨b,o+k*2+1,none⟩=some (.slice a1 nT c1):=ae.1.out.cell 1 zm;have P0:=x0;have P1:=x1;obtain⟨W3,Uv,aR,ae,ak⟩:=bX wr (Hb.an ae) 24 [af (V:Int),.slice a1 nT c1];have Tv:=QQ.out;have MS:=QP.out;go_wp2_with fail;refine(Hm.out _ ae.2.1.out).mono ?_;rintro e w4 ⟨v',rfl,ho4,hb4⟩;have di:=aI bo.out (aI ae.2.1.out hb4);obtain⟨Ho4,gW⟩:=aK ho4 di;clear Tv MS ho4 di hb4;go_wp2;go_roundw;case rel=>exact⟨k+1,v',by omega,by go_num,rfl,Ho4.out,gW.out⟩
    case measure=>exact bC
  . obtain rfl:k=L:=by omega
    obtain⟨av,cv,rfl,_,_⟩:=dZ ho;have Hx:=aj (Hw.out.below dY);have Hb:Hid (Bw w wr):=dY;obtain⟨eN,bo,Hr⟩:=cw ho pb (qP.out.below pb);have bD:=Rf.out;clear ho pb dY;obtain⟨ae,ak⟩:=qZ (Hx.an<|Hr.an trivial);have anS:Hid (aZ w1 b o [af (V:Int),.slice a0 n0 c0]):=Hw.out.below fW.out;obtain⟨Hx,Hr,_⟩:=ae;obtain⟨x0,x1⟩:=Hx.out.w2;obtain⟨r0,aO,r1,aQ⟩:=Hr.out.g2;go_wp2_with fail;refine(fJ.out w1 _ _ fW.out bo.out eN.out).mono ?_;rintro e w6 ⟨a2,d2,rfl,gS,ai⟩;replace Hx:=aj (anS.out.below ai);replace Hr:=aj (qP.out.below ai);obtain⟨x0,x1⟩:=Hx.out.w2;obtain⟨r0,aO,r1,aQ⟩:=Hr.out.g2;replace Hb:=aj (aI fW.out ai);go_wp2;refine Ip (Hr.out) gS Hb.out zo ?_;intro w9 gB na ku;obtain⟨q0,q1⟩:=gB.c2;exact bodyPost_ret (v:=.tuple #[.agg #[af (V:Int),.slice a2 C.length d2],af 0]) (by simp[results,Tryz.results152,go_sem,q0,q1]) rfl ⟨_,_,rfl,Pi na,ku⟩
def ap1 {Y:Nat->Prop}{w W:World}(h:Chg Y w W)(b i:Nat)(v:Value)(hy:Y b):Chg Y w (W.setCell ⟨b,i,none⟩ v):=
 ⟨h.os,h.tape,h.output,by have:=h.size;simp[World.setCell];exact this,λk hk hky=>by rw[Below.heap_setCell _ _ _ _ (λe=>hky (by rw[e];exact hy))];exact h.block k hk hky⟩
end Go.Proofs.YtbkopgdpcijfbaaGreatDoor
