/- BoundTriangles: the law's own walk. -/
import Derived.Test.YtbkopgdpcijfbaaGreatDoorZ7
import Derived.Test.YtbkopgdpcijfbaaGreatDoorZ35
import Derived.Test.YtbkopgdpcijfbaaGreatDoorZ37
import Derived.Test.YtbkopgdpcijfbaaGreatDoorZ39
import Derived.Test.YtbkopgdpcijfbaaGreatDoorZ32
import Derived.Test.YtbkopgdpcijfbaaGreatDoorZ25
import Derived.Test.YtbkopgdpcijfbaaGreatDoorZ13
set_option linter.all false
set_option maxRecDepth 100000
set_option maxHeartbeats 16000000
namespace Go.Proofs.YtbkopgdpcijfbaaGreatDoor
open Go.RowKit
attribute [local go_sem ↓] Go.wp_at_zero Go.wp_at_succ
def aoQ (PV:Int)(aP:Option Addr)(nT cP:Nat)(ts:List Trm)(a:Option Addr)(L cap:Nat)(rows:List (List Raw))(ms:Bool)(ml:List UInt8)(me sd:Int)(w:World)(fO:ts.length=nT)(aue:nT<=9223372036854775807)(nX:At w aP (ts.flatMap aY))(hls:∀t∈ts,t.1.length<=9223372036854775807)(hL:rows.length=L)(hsl:Sl a L cap)(ha:xO w a rows)(hT:aC w):
 Cv 3 #[.agg #[af PV,.slice aP nT cP],.slice a L cap,.agg #[ag ms,ah ml,af me],af sd] w (ag true):=by
 obtain⟨i0,hi,hz0,hz1,hz2⟩:=info_parts Tryz.aGt;obtain⟨Hi,eu,ey,dM⟩:=dv hi hz0 hz1 hz2;clear hi hz0 hz1 hz2;have hwd:=λW (hW:Bw w W)=>aBn PV ts nT aP cP W fO (nX.below hW) aue hls;obtain⟨Ha,eK,HL,QB,zn,Bo,Bz,rR⟩:=jZ ha hT hL hsl.1 hwd nX fO hls;clear ha hT hL hsl hwd nX fO hls;obtain⟨W,cE,ae,ak⟩:=lA w 24 [af PV,.slice aP nT cP] 30 [ag ms,ah ml,af me];go_enter Tryz.func3,Tryz.ntmps3;by_cases h3:3<L
 . have h3i:(3:Int)<(L:Int):=by omega
   go_wp2_with fail;refine aJ ae (uI _ (eK.out.below ae.1.out)) λw2 ae ak=>?_;go_wp2;refine bodyPost_ret (results_tmp rfl _ _ _) rfl ⟨rfl,ae.1.out⟩
 . have h3i:¬(3:Int)<(L:Int):=by omega
   go_wp2_with fail;refine(zn.out _ ae.1.out).mono ?_;rintro e w1 ⟨⟨v,rfl,hv⟩,ai⟩;obtain⟨ae,ak⟩:=qX ai ae;cases v with
   |true=>clear hv;go_wp2_with fail;refine aJ ae (uI _ (eK.out.below ae.1.out)) λw4 ae ak=>?_;go_wp2;refine bodyPost_ret (results_tmp rfl _ _ _) rfl ⟨rfl,ae.1.out⟩
   | false=>
     have yY:=aj (hv rfl);clear hv;obtain⟨W2,nV,aR,ae,ak⟩:=bX w1 ae 30 [ag ms,ah ml,af me];go_wp2_with fail;refine(Tx [(ms,ml,me)] 1 (some ⟨w1.heap.size,0,none⟩) 1 _ rfl zd (At.aGr ae.1.out)).mono ?_;rintro e w3 ⟨⟨v,rfl,hv⟩,ai⟩;obtain⟨ae,ak⟩:=qX ai ae;cases v with
     |true=>clear hv;go_wp2_with fail;refine aJ ae (uI _ (eK.out.below ae.2.1.out)) λw4 ae ak=>?_;go_wp2;refine bodyPost_ret (results_tmp rfl _ _ _) rfl ⟨rfl,ae.2.1.out⟩
     | false=>
       have Ry:=aj (WU (hv rfl (ms,ml,me) zm));clear hv;obtain⟨d,hd⟩:=aB (nE ts);have tY:=λW (hW:Bw w W)=>Yd PV aP cP nT ts W Bz.out (by have:=yY.out.few;rw[Bz.out]at this;omega) (Bo.out.below hW) (λt ht=>⟨by have:=(yY.out.all t ht).2.1;omega,λc hc=>by have:=(yY.out.all t ht).2.2 c hc;omega⟩);simp only[hd]at tY;obtain⟨vX,Hd⟩:=aK tY hd;clear tY hd;go_wp2_with fail;refine aJ ae (vX.out _ ae.2.1.out) λw5 ae ak=>?_;by_cases h4:4<d
       . have h4i:(4:Int)<(d:Int):=by omega
         go_wp2_with fail;refine aJ ae (uI _ (eK.out.below ae.2.1.out)) λw6 ae ak=>?_;go_wp2;refine bodyPost_ret (results_tmp rfl _ _ _) rfl ⟨rfl,ae.2.1.out⟩
       . skip
         have h4i:¬(4:Int)<(d:Int):=by omega
         have Bp:=ae.2.2.1;have Bm:=ae.2.2.2.1;have cj:=ae.2.1;go_wp2_with fail;skip
         go_loopw[9] (λx wr=>∃k:Nat,k<=L/\x=af (k:Int)/\(∀r∈rows.take k,∀x∈r,okN x)/\Bw w5 wr) (λx _=>L-(intOf x).toNat);case atStart=>exact⟨0,Nat.zero_le _,rfl,(λy hy=>by simp at hy),Below.refl _ _⟩
         case round=>
          skip
          obtain⟨k,hk,rfl,hok,pb⟩:=hrel;obtain⟨Hb,qN,vV,xH,bo⟩:=gT (aI cj.out pb) (Bp.out.below pb) (Bm.out.below pb) hok pb;clear pb hok;by_cases hlt:k<L
          . have hk2:k<rows.length:=by rw[HL.out];exact hlt
            obtain⟨b,o,a',c',rfl,hcell,hat,hsl⟩:=(Ha.out.below Hb.out).row k hk2;have bD:=sJ L cap k (k:Int) (rfl:(some ⟨b,o,none⟩:Option Addr)=_) hlt rfl;rw[Nat.mul_one]at bD;obtain⟨R,hR⟩:=aB (rows[k]);obtain⟨n,hn⟩:=aB R.length;rw[hR]at hcell hat;rw[hn]at hcell;obtain⟨HR,Hn,dL⟩:=cw hR hn hat;clear hR hn hat hsl;by_cases sG:3<n
            . have auc:(3:Int)<(n:Int):=by omega
              go_wp2_with fail;refine aJ (Hb.an trivial) (uI _ (eK.out.below Hb.out)) λw6 ae ak=>?_;go_wp2;refine bodyPost_ret (results_tmp rfl _ _ _) rfl ⟨rfl,ae.1.out⟩
            . have auc:¬(3:Int)<(n:Int):=by omega
              go_wp2_with fail;refine(Tx R n a' c' _ Hn.out zo dL.out).mono ?_;rintro e w6 ⟨⟨v,rfl,hv⟩,ai⟩;have amZ:=aj (aI bo.out ai);replace Hb:=aj (aI Hb.out ai);clear ai hcell;cases v with
              |true=>clear hv;go_wp2_with fail;refine aJ (Hb.an trivial) (uI _ (eK.out.below Hb.out)) λw7 ae ak=>?_;go_wp2;refine bodyPost_ret (results_tmp rfl _ _ _) rfl ⟨rfl,ae.1.out⟩
              | false=>
                have Hv:=aj (hv rfl);clear hv;go_wp2;go_roundw;case rel=>exact⟨k+1,by omega,by go_num,SI hk2 xH.out (by rw[HR.out];exact Hv.out),amZ.out⟩
                case measure=>exact bC
          . obtain rfl:k=L:=by omega
            have hall:∀r∈rows,∀x∈r,okN x:=by have:=xH.out;rwa [<-HL.out,List.take_length]at this
            have hf:∀r∈rows,∀x∈r,Fit 192 x:=λr h x hx=>WU (hall r h x hx);have hts:∀t∈ts,Fit 192 t.2:=λt ht=>WU (yY.out.all t ht).1;have tG:=Ha.out.tbl;obtain⟨N,hN⟩:=aB (cnt (k-1) ((d:Nat):Int).toNat);have OH:=λW (hW:Bw w W)=>aAB PV aP nT cP ts a k cap rows 192 N (d:Int) W Bz.out (by have:=yY.out.few;rw[Bz.out]at this;omega) (Bo.out.below hW) hts rR.out HL.out zo QB.out (tG.below hW) hf zd zd (eK.out.below hW) zo hN;by_cases h0:vL PV ts rows (d:Int)=0
            . obtain⟨V,hV1,hV3,Er,Vm,dm,EK,hd0,hpl⟩:=aju (by rw[HL.out];omega) hf hts h0;obtain rfl:k=V+1:=by rw[<-HL.out];exact Vm
              subst Er;have hV2:V<=2:=by omega
              have hd4:d<=4:=by omega
              have rE:∀e,e<=4->cnt V e<=512:=λe he=>by
               have h1:V=1\/V=2:=by omega
               have h2:e=0\/e=1\/e=2\/e=3\/e=4:=by omega
               rcases h1 with rfl|rfl<;>rcases h2 with rfl|rfl|rfl|rfl|rfl<;>decide+kernel
              have wE:cnt V d=N:=hN;have Nv:1<=N:=by
               have h1:V=1\/V=2:=by omega
               have h2:d=0\/d=1\/d=2\/d=3\/d=4:=by omega
               rw[<-wE];rcases h1 with rfl|rfl<;>rcases h2 with rfl|rfl|rfl|rfl|rfl<;>decide+kernel
              have uV:N<=500:=by
               have h1:V=1\/V=2:=by omega
               have h2:d=0\/d=1\/d=2\/d=3\/d=4:=by omega
               rw[<-wE];rcases h1 with rfl|rfl<;>rcases h2 with rfl|rfl|rfl|rfl|rfl<;>decide+kernel
              have jW:∀r∈rows.map (λr=>r.map au),∀x∈r,Sm 192 x:=λr hr x hx=>by obtain⟨q,hq,rfl⟩:=List.mem_map.1 hr;obtain⟨y,hy,rfl⟩:=List.mem_map.1 hx;exact(hf q hq y hy).2
              have Vz:=acV V d 192 N (rows.map λr=>r.map au) ts wE zo zo (λe he=>rE e zo) jW zd (λt ht=>⟨(hts t ht).2,(hpl.2 t ht).2⟩) ts.length (Nat.le_refl _);rw[List.take_length]at Vz;obtain⟨cs0,hcs⟩:∃c,pp V d (rows.map λr=>r.map au) (pY ts)=c:=⟨_,rfl⟩;rw[hcs]at Vz;obtain⟨hcl,yi⟩:=Vz;have NS:∀c∈cs0,Sm 96300 c:=λc hc=>(yi c hc).mono (by have:=yY.out.few;omega)
              have JX:=λW (hW:Bw w W)=>(show Cl 11 #[.agg #[af (V:Int),.slice aP nT cP],.slice a (V+1) cap,af (d:Int)] W (λe w'=>∃b:Nat,e=.returned (.tuple #[.agg #[af (V:Int),af (d:Int),.slice (some ⟨b,0,none⟩) N N],af 0])/\At w' (some ⟨b,0,none⟩) (dC cs0)/\Bw W w')from(OH W hW).mono (λe w' ⟨h,hb⟩=>by
               rcases h with⟨h,_⟩ |⟨_,b,h1,h2⟩
               . exact absurd h0 h
               . refine⟨b,h1,?_,hb⟩;rw[Vm]at h2;have e9:((d:Nat):Int).toNat=d:=rfl;rw[e9,Nat.add_sub_cancel,hcs]at h2
                 exact h2))
              have hdt:bK V (cm rows)≠0:=λh9=>by have hv:=PQ EK.1 EK.2.1 hV1 zo;have NR:=dm;unfold jy at NR;rw[hv,if_neg zo]at NR;rw[if_pos (by simpa using h9)]at NR;cases NR
              have Kc:=aBD wE;have ma:=aBC (V:=V) (d:=d) zo;have Kb:=λq (h:q<(bz (V+1) d).length)=>aBB (V:=V) (d:=d) h;obtain⟨ws,hws⟩:=aB (xq V d);obtain⟨F,hF⟩:∃F:Dyadic->Option Nat,(λG=>un (d:Int) G (au (ms,ml,me)) V (stA (fe V) (dP V (cm rows) V) (V+1)) (cZ (cH rows V) (V+1)).2.2 (bK V (cm rows)))=F:=⟨_,rfl⟩;obtain⟨M,hM⟩:=aB (au (ms,ml,me));obtain⟨gM,Oi⟩:∃g,bg (au (ms,ml,me))=g:=⟨_,rfl⟩;obtain⟨nF,hnF⟩:∃f:Dyadic->Int,(λG=>(((F G).getD 0:Nat):Int))=f:=⟨_,rfl⟩;obtain⟨gF,Oh⟩:∃f:Dyadic->Int,(λG=>if F G=none then(3:Int)else 0)=f:=⟨_,rfl⟩;have hng:∀G,(F G=none/\gF G=3)\/∃x:Nat,F G=some x/\nF G=(x:Int)/\gF G=0:=λG=>by
               cases h:F G with
               |none=>exact .inl ⟨rfl,by rw[<-Oh];simp[h]⟩
               |some x=>exact .inr ⟨x,rfl,by rw[<-hnF];simp[h],by rw[<-Oh];simp[h]⟩
              have ago:=λ(G:Dyadic) W (hm0:0<gM) (h0:0<=G) (hG:Sm 96322 G) (hW:Bw w W)=>(show Cl 15 #[.slice a (V+1) cap,af (d:Int),.agg #[ag (az (dN G)),ah (nt (dN G).natAbs),af (dE G)],.agg #[ag ms,ah ml,af me]] W (λe w'=>e=.returned (.tuple #[af (nF G),af (gF G)])/\Bw W w')from(aiW (C:=97000) a cap V rows 192 (d:Int) (az (dN G)) (nt (dN G).natAbs) (dE G) ms ml me W hV1 zo EK QB.out (tG.below hW) zd (eK.out.below hW) ((hG.fit zd).mono zd) (Ry.out.mono zd) dm (by
               show 0<=bg (au (canon G))
               rw[bF];have:¬bg G<0:=λh=>by have:=(uQ G).1 h;grind
               omega) (by rw[Oi];exact hm0) zo zo).mono (λe w' ⟨h1,h2⟩=>⟨by
               rw[h1];have e1:au (bE G)=G:=bF G
               rw[e1,<-Oh,<-hnF,<-hF],h2⟩))
              have htl:∀lo hi:Dyadic,∀x:Nat,F (hi-lo)=some x->0<gM->lo<=hi->(∀k,k<N->lo*ws.getD k 0<=cs0.getD k 0/\cs0.getD k 0<=hi*ws.getD k 0)->∀ss:List Bool,ss.length=x->x<=24->∀q r,q<N->r<N->(gL V d ss (rows,cs0)).2.getD q 0*ws.getD r 0-(gL V d ss (rows,cs0)).2.getD r 0*ws.getD q 0<M* (ws.getD q 0*ws.getD r 0):=λlo hi x hx hm0 vq hin ss yr Wa q r hq hr=>by
               have ia:(bz (V+1) d).length=N:=by rw[pQ,wE]
               have h9:=aAJ (m:=M) hV1 zo EK hdt vq (by rw[<-hM];rw[<-Oi]at hm0;exact(BQ _).1 hm0) (λq hq=>by rw[<-Kb q hq,hws];exact hin q zo) (N:=x) (by rw[<-hM];rw[<-hF]at hx;exact hx) ss yr zo q r zo zo;rw[<-Kb q zo,<-Kb r zo,hws]at h9;exact h9
              have hbf:=λss (h:ss.length<=24)=>apE (V:=V) (D:=d) hV1 zo wE zo EK NS hcl ss zo;have agt:=λ(b:Nat) (wa:Option Addr) (wc:Nat) W (hW:Bw w W) (h1:At W (some ⟨b,0,none⟩) (dC cs0)) (h2:At W wa (dC ws))=>azK cs0 ws N 96300 (some ⟨b,0,none⟩) wa N wc W hcl (by rw[<-hws];exact Kc) Nv uV NS zd (by rw[<-hws];exact ma) h1 h2 (eK.out.below hW);rw[hws]at Kc;have hpk:=λW=>Xk V d N hV1 zo zo wE zo W;have aeD:wn (V:Int) (d:Int) N=0:=by
               unfold wn;rw[if_neg zo,if_neg,if_pos]
               . exact wE.symm
               . show ¬512<cnt V d
                 omega
              obtain⟨RZ,anr,Hng,ano,Ia,Hbf,RD,als,Qk,HgM,HM,Sn⟩:=ie JX agt hng ago htl hbf hpk aeD tG Oi hM Kc;obtain⟨aCa,fJ,HNV,Hws⟩:=dv NS hcl wE hws;have zn:Hid (∀x∈ws,1<=x/\Sm 40 x):=by rw[<-hws];exact ma
              clear OH JX hng ago htl hbf hpk aeD hall hf hts tG hN h0 dm EK hpl rE wE jW hcs hcl yi NS hdt Kc ma Kb hws hF hnF Oh hM Oi agt Vm;have lH:=Hb;have Pp:=qN;have Pm:=vV;clear Hb;have Hb:=hbz wr;go_upto_region 8 with fail
              go_cut[10,11] (λyL KM wx=>∃(g b:Nat),yL=.pointer (some ⟨g,0,none⟩)/\KM=af 0/\wr.heap.size<=g/\ar wx g 38 [af (V:Int),af (d:Int),.slice (some ⟨b,0,none⟩) N N]/\At wx (some ⟨b,0,none⟩) (dC cs0)/\Bw wr wx);case first=>
               obtain⟨ae,ak⟩:=qZ (qN.an trivial);obtain⟨qN,_⟩:=ae;obtain⟨KE,KF⟩:=qN.out.c2;have gJ:∀w',ez wr w'->aH w' (w.heap.size) 0 (af (V:Int))/\aH w' (w.heap.size) 1 (.slice aP nT cP):=λw' h=>⟨cell_later h KE,cell_later h KF⟩;refine Bd (λw'=>ez wr w') (λi=>Nat.blt i 10) 8 38 [af 0,af 0,.slice none 0 0] [(0,true),(1,true),(2,true),(3,false),(4,false),(5,true),(6,true),(7,true)] [(9,false),(10,false)] zk zk rfl rfl rfl zk zk zc zc (λK a w h=>AR rfl rfl (λK' hK=>by go_simp;exact hK _ _ h)) ?_;clear KE KF qN;intro wrf ai;replace Hb:=aj (aI Hb.out ai);refine⟨Hb.out,?_⟩;iterate 3 (refine rK rfl rfl (v:=?_) (λw' hw'=>?_) ?_;rotate_left;(focus have hw':=gJ w' hw';obtain⟨q0,q1⟩:=hw';go_simp;try with_reducible rfl);try simp only[UU])
               refine oH rfl rfl (λK hK=>?_);go_simp;with_reducible refine(vX.out _ (aI lH.out Hb.out)).mono ?_
               rintro e w9 ⟨rfl,hq⟩;refine hK _ _ hq (λw6 ai hb2=>?_);replace Hb:=aj (aI Hb.out ai);refine⟨Hb.out,?_⟩;clear ai hb2 hq hK K;try simp only[UU]
               refine oH rfl rfl (λK hK=>?_);go_simp;with_reducible refine(RZ.out _ (aI lH.out Hb.out)).mono ?_
               rintro e w9 ⟨b,rfl,hat,hq⟩;refine hK _ _ hq (λw7 ai hb2=>?_);have qX:=aj (hat.below hb2);clear hat;replace Hb:=aj (aI Hb.out ai);refine⟨Hb.out,?_⟩;clear ai hb2 hq hK K;have HX:=qX;clear qX;try simp only[UU]
               iterate 3 (refine rK rfl rfl (v:=?_) (λw' hw'=>?_) ?_;rotate_left;(focus go_simp;try with_reducible rfl);try simp only[UU])
               intro iI hb0 qx;have Hh:=aj qx;clear qx;obtain⟨h0,Ty,h1,Tz,h2,TA⟩:=Hh.out.g3;try simp only[U1]
               try simp only[Act.put,U2,U3]
               refine aM rfl rfl (λK hK=>?_);go_simp;refine hK _ _ (λ_=>(((Hb.out.setCell zp _).setCell zp _).setCell zp _)) ?_;try simp only[UU]
               refine aM rfl rfl (λK hK=>?_);go_simp;refine hK _ _ (λh=>absurd h zd) ?_;try simp only[UU]
               simp only[bH];go_wp2_with fail;go_meet;exact⟨iI,b,rfl,rfl,hb0,((Hh.out.set 0 _).set 1 _).set 2 _,Ei (g:=iI) (o:=0) (vs:=[af (V:Int),af (d:Int),.slice (some ⟨b,0,none⟩) N N]) HX.out Hh.out (.inl rfl),((Hb.out.setCell zp _).setCell zp _).setCell zp _⟩
              case rest=>
               obtain⟨g,b,rfl,rfl,hg,qf,qat,qb⟩:=hcut;obtain⟨Hf,vV,HX⟩:=cw qf (Pm.out.below qb) qat;clear Hb;have Hb:=aj (aI lH.out qb);have kD:=lH.out.size;have Hgm:Hid (w.heap.size+1<g):=by have:=Pm.out.lt;show _<_;omega
               clear qf qat qb Pp Pm qN lH;obtain⟨ae,ak⟩:=qZ (Hf.an<|vV.an trivial);have HX:Hid (At wc (some ⟨b,0,none⟩) (dC cs0)):=HX.out;go_wp2_with fail;refine aJ (Hb.an<|HX.an ae) (nR ms ml me gM HgM.out _ Ry.out.1) λw8 ae ak=>?_;by_cases hm0:gM<=0
               . go_wp2_with fail;refine aJ ae (uI _ (eK.out.below ae.1.out)) λw9 ae ak=>?_;go_wp2;refine bodyPost_ret (results_tmp rfl _ _ _) rfl ⟨rfl,ae.1.out⟩
               . skip
                 go_wp2_with fail;refine(RD.out _).mono ?_;rintro e w9 ⟨ap,cp,rfl,Cm,_,ai⟩;obtain⟨ae,ak⟩:=qX ai ae;have Hk:=aj Cm;clear Cm;have LQ:=ae.2.2.1;have Hm9:=ae.2.2.2.1;have Zr:=ae.2.1;have Dl:=ae.1;have ia:(bz (V+1) d).length=N:=by rw[pQ];exact HNV.out
                 have sV:=aj ia;clear ia;go_wp2_with fail;skip
                 go_loopw[13,14] (λKN x wr=>∃(k:Nat) (v:Value),k<=N/\x=af (k:Int)/\v=KN/\wr.ownsRow w9.heap.size 30 3 v k (dC (ws.take k))/\Bw w9 wr) (λ_ x _=>N-(intOf x).toNat);case atStart=>exact⟨0,_,Nat.zero_le _,rfl,rfl,World.ownsRow_nil _ _ _ _,Below.refl _ _⟩
                 case round=>
                  skip
                  obtain⟨k,v,hk,rfl,rfl,ho,pb⟩:=hrel;obtain⟨Ho,bo⟩:=aK ho pb;clear ho pb;by_cases bA:k<N
                  . have hkr:k<(bz (V+1) d).length:=by rw[sV.out];exact bA
                    have hat:=Hk.out.below bo.out;obtain⟨b1,o1,dh,aeG⟩:=hat.get (by intro h;rw[List.map_eq_nil_iff]at h;rw[h]at hkr;simp at hkr);have hcell:=aeG k (by rw[List.length_map];exact hkr);rw[List.getElem?_map,List.getElem?_eq_getElem hkr]at hcell;have bD:=ET N cp k (k:Int) dh bA rfl;rw[Nat.mul_one]at bD;have hmem:=xd _ (List.getElem_mem hkr);obtain⟨y,hy⟩:=aB ((bz (V+1) d)[k]);obtain⟨D,hD⟩:=aB (nD (jd y));have hwk:k<ws.length:=by rw[Sn.out];exact bA
                    have hst:dC (ws.take (k+1))=dC (ws.take k)++(bG D):=by
                     have e1:ws[k]=D:=by have e2:=Hws.out;subst e2;rw[aBA _ hkr,hy];exact hD
                     rw[List.take_succ_eq_append_getElem hwk,e1,sf,sf,List.map_append,List.flatMap_append];rfl
                    rw[hy]at hmem hcell;simp only[Option.map_some]at hcell;have hwy:=λW (hW:Bw w W)=>aBk y (y.map UInt8.ofNat) rfl zo zo D hD W (eK.out.below hW);obtain⟨bR,Hwy⟩:=aK hst hwy;have Hy:Hid (aZ wr b1 (o1+k) [ah (y.map UInt8.ofNat)]):=λj hj=>by
                     obtain rfl:j=0:=by simp at hj;omega
                     exact hcell
                    clear hst hwy hcell aeG dh hat hmem hD hwk hy;have Hb:Hid (Bw w wr):=aI Dl.out bo.out;obtain⟨ae,ak⟩:=qZ (Hy.an trivial);have kD:=bo.out.size;have aaA:=bo;have hb0:Hid (Bw wr wr):=Below.refl _ _;clear Hb;have Hb:=hb0;clear hb0;go_wp2_with fail;refine aJ (Hb.an ae) (Hwy.out _ (aI (aI Dl.out aaA.out) Hb.out)) λdw ae ak=>?_;obtain⟨W11,aDg,aR,ae,ak⟩:=bX dw ae 30 (bG D);have bW:=ownsRow_below Ho.out ae.2.1.out;have jq:=ae.2.1.out.size;have hnews:=ji ae.1.out;go_wp2_with (at_builtin;refine wpList_append_own_at _ rfl _ _ 35 rfl w9.heap.size 30 i0 _ 3 32 Tryz.underlying35 Hi.out eu.out ey.out dM.out rfl zd v k (dC (ws.take k)) rfl bW ⟨dw.heap.size,0,none⟩ 1 1 (bG D) rfl rfl hnews zy zx zo zo ?_;intro v' Bc gm cF _ _);have mW:=(aI aaA.out ae.2.1.out).grown cF zo (λj e=>eo bW j e);rw[<-bR.out]at gm;obtain⟨rS,nI⟩:=aK gm mW;clear gm mW cF bW hnews;go_wp2;go_roundw;case rel=>exact⟨k+1,_,by omega,by go_num,rfl,rS.out,nI.out⟩
                    case measure=>exact bC
                  . obtain rfl:N=k:=by omega
                    have ho:=Ho.out;rw[List.take_of_length_le (by rw[Sn.out];exact Nat.le_refl _)]at ho;obtain⟨wa,wc2,rfl,hat,_⟩:=dZ ho;obtain⟨HW,Hf,vV,HX,Hb⟩:=gT hat (LQ.out.below bo.out) (Hm9.out.below bo.out) (Zr.out.below bo.out) (aI Dl.out bo.out);clear ho hat Ho LQ Hm9 Zr Dl Hk;obtain⟨ae,ak⟩:=qZ (Hf.an<|vV.an trivial);have HX:Hid (At wr (some ⟨b,0,none⟩) (dC cs0)):=HX.out;have HY:Hid (At wr (wa) (dC ws)):=HW.out;clear HW;go_wp2_with fail;have ae:=Hb.an<|HX.an<|HY.an ae
                    refine fT 999 ae (fH 14 0x1b19171513100c0f0b0907050301) ?_;refine cG ?_;refine qOp λK hK=>?_;go_simp;with_reducible refine(anr.out b wa wc2 _ ae.1.out.drew (At.drew ae.2.1.out) (At.drew ae.2.2.1.out)).mono ?_
                    rintro e dw ⟨⟨lo,hi,rfl,vq,hsm,hin⟩,hq⟩;refine xc hK hq ae λae=>?_;clear hK K hq;refine cV ae (ano.out (hi-lo) _ zo (by grind) hsm ae.1.out) λir ae=>?_;refine cG ?_;refine fR ae λak=>?_;have Vs:=Hng.out (hi-lo);have agA:=λx (hx:F (hi-lo)=some x)=>Ia.out lo hi x hx zo vq hin;have xI:=aj agA;clear agA hsm hin;generalize nF (hi-lo)=n9 at Vs⊢;generalize gF (hi-lo)=g9 at Vs⊢;rcases Vs with⟨_,rfl⟩ |⟨x,hx,rfl,rfl⟩
                    . go_wp2_with fail;refine aJ ae (uI _ (eK.out.below ae.1.out)) λBc ae ak=>?_;go_wp2;refine bodyPost_ret (results_tmp rfl _ _ _) rfl ⟨rfl,ae.1.out⟩
                    . skip
                      have ht2:=xI.out x hx;have DV:=aj ht2;clear ht2 xI hx;by_cases h24:24<x
                      . have asL:(24:Int)<(x:Int):=by omega
                        go_wp2_with fail;refine aJ ae (uI _ (eK.out.below ae.1.out)) λBc ae ak=>?_;go_wp2;refine bodyPost_ret (results_tmp rfl _ _ _) rfl ⟨rfl,ae.1.out⟩
                      . skip
                        have asL:¬(24:Int)<(x:Int):=by omega
                        have hgm:w.heap.size+1<g:=Hgm.out;go_wp2_with fail;skip
                        go_loopw[1,17] (λs1 xk wr=>∃(k:Nat) (ss:List Bool) (as':Option Addr) (cc bf:Nat),k<=x/\ss.length=k/\xk=af (k:Int)/\s1=.slice as' (V+1) cc/\V+1<=cc/\bJ wr as' (gL V d ss (rows,cs0)).1/\ar wr g 38 [af (V:Int),af (d:Int),.slice (some ⟨bf,0,none⟩) N N]/\At wr (some ⟨bf,0,none⟩) (dC (gL V d ss (rows,cs0)).2)/\At wr wa (dC ws)/\ar wr (w.heap.size+1) 30 [ag ms,ah ml,af me]/\Bw w wr) (λ_ xk _=>x-(intOf xk).toNat);case atStart=>exact⟨0,[],a,cap,b,Nat.zero_le _,rfl,rfl,rfl,QB.out,Qk.out.below ae.1.out,ae.2.2.2.1.out,ae.2.1.out,ae.2.2.1.out,ae.2.2.2.2.1.out,ae.1.out⟩
                        case round=>
                         skip
                         obtain⟨k,ss,as',cc,bf,hk,yr,rfl,rfl,hcc,qt,qf,qx,qy,qm,pb⟩:=hrel;obtain⟨HS,Hf,HX,HY,vV,Hb⟩:=gU qt qf qx qy qm pb;obtain⟨gB,EL,wL⟩:=Hbf.out ss zo;clear qt qf qx qy qm pb;by_cases gz:k<x
                         . have agq:=abC V d ss false (rows,cs0);have agr:=abC V d ss true (rows,cs0);generalize (gL V d ss (rows,cs0)).1=R at*;generalize (gL V d ss (rows,cs0)).2=C at*;rw[yr]at gB EL;obtain⟨i,j,Y,hF⟩:∃i j Y,cZ (cH R V) (V+1)=(i,j,Y):=⟨_,_,_,rfl⟩;have hij:=yD (cH R V) (V+1) zo;rw[hF]at hij;obtain⟨afd,afe,-⟩:=hij;simp only at afd afe;have hv:=PQ gB.1 gB.2.1 hV1 zo;have hh0:tM V false R=(R.set j (ow (R.getD i []) (R.getD j []))).map lR:=by unfold tM tL;rw[hF];rfl
                           have Vg:tM V true R=(R.set i (ow (R.getD i []) (R.getD j []))).map lR:=by unfold tM tL;rw[hF];rfl
                           have Af:uS V d false R C=rB V d i j C:=by unfold uS;rw[hF];rfl
                           have od:uS V d true R C=rB V d j i C:=by unfold uS;rw[hF];rfl
                           have hlo:=λW (hW:Bw w W) (h:bJ W as' R)=>Wz as' (V+1) cc V R (192+3*k) W gB.1 hv hV1 h gB.2.2 zo (eK.out.below hW);simp only[hF]at hlo;have hsp:=λW (hW:Bw w W) (h:At W (some ⟨bf,0,none⟩) (dC C))=>azG V d (V:Int) (d:Int) rfl rfl (some ⟨bf,0,none⟩) N N C wL i j (i:Int) (j:Int) rfl rfl (96300+10794*k) W als.out zo zo zo EL zo h (eK.out.below hW);have tP:=λW (hW:Bw w W) (h:bJ W as' R)=>att as' (V+1) cc V R (192+3*k) i j Y W gB.1 hv hV1 h gB.2.2 zo (eK.out.below hW) hF;have hl0:=(Ew gB hV1 zo false).1;have sF:=(Ew gB hV1 zo true).1;simp only[<-hh0,<-Vg]at tP;simp only[<-Af,<-od]at hsp;generalize tM V false R=R0 at*;generalize tM V true R=R1 at*;generalize uS V d false R C=C0 at*;generalize uS V d true R C=C1 at*;obtain⟨LZ,Hsp,Dx,qE,Dy,qH,DI,Hss⟩:=jZ hlo hsp tP hl0 sF agq agr yr;clear hlo hsp tP hl0 sF agq agr hh0 Vg Af od gB EL wL hv afd afe hF yr;have lg:=Hf.out.lt;obtain⟨ae,ak⟩:=qZ (Hf.an<|vV.an trivial);have HS:Hid (bJ wr (as') R):=HS.out;have HX:Hid (At wr (some ⟨bf,0,none⟩) (dC C)):=HX.out;have HY:Hid (At wr (wa) (dC ws)):=HY.out;go_wp2_with fail;refine aJ (Hb.an<|HS.an<|HX.an<|HY.an ae) (LZ.out _ Hb.out HS.out) λBc ae ak=>?_;obtain⟨BK,aDi,aR,ae,ak⟩:=bX Bc ae 30 (bG Y);go_wp2_with fail;refine(Hsp.out _ ae.2.1.out ae.2.2.2.1.out).mono ?_;rintro e Dc ⟨r1,r2,rfl,hr1,hr2,ai⟩;obtain⟨ae,ak⟩:=qX ai ae;have HP:Hid (At Dc (some ⟨r1,0,none⟩) (dC C0)):=hr1;have HQ:Hid (At Dc (some ⟨r2,0,none⟩) (dC C1)):=hr2;clear hr1 hr2;obtain⟨W15,aDj,aR,ae,ak⟩:=KH Dc (HP.an<|HQ.an ae) 38 [af (V:Int),af (d:Int),.slice (some ⟨r1,0,none⟩) N N] 38 [af (V:Int),af (d:Int),.slice (some ⟨r2,0,none⟩) N N];go_wp2_with fail;refine(Dx.out _ ae.2.2.2.2.2.1.out ae.2.2.2.2.2.2.1.out).mono ?_;rintro e PR ⟨a1,c1,a2,c2,rfl,hc1,hc2,ht1,ht2,ai⟩;obtain⟨ae,ak⟩:=qX ai ae;have HT:Hid (bJ PR (a1) R0):=ht1;have HW:Hid (bJ PR (a2) R1):=ht2;clear ht1 ht2;go_upto_region 31 with fail
                           have Gn:=ae.2.2.2.2.2.2.2.2.1;have Lq:=ae.2.2.1;have Gg:=ae.2.2.2.1;have dD:=HT;have Gl:=HW;first|refine dA (aV PR (g) 0 [af (V:Int),af (d:Int),.slice (some ⟨r1,0,none⟩) N N]) aX ?_|refine dV (aV PR (g) 0 [af (V:Int),af (d:Int),.slice (some ⟨r1,0,none⟩) N N]) aX ?_
                           intro zD hs0;have rW:=ae;have ae:=bU hs0 rW;simp only[bV,List.set]at ae;have ak:=qC ae;have HY:Hid (At zD (wa) (dC ws)):=Ei Gn.out rW.2.2.2.2.2.2.2.2.2.1.out hs0;have HP:Hid (At zD (some ⟨r1,0,none⟩) (dC C0)):=Ei Lq.out rW.2.2.2.2.2.2.2.2.2.1.out hs0;have HQ:Hid (At zD (some ⟨r2,0,none⟩) (dC C1)):=Ei Gg.out rW.2.2.2.2.2.2.2.2.2.1.out hs0;have HT:Hid (bJ zD (a1) R0):=XY dD.out (by rw[qE.out];omega) rW.2.2.2.2.2.2.2.2.2.1.out hs0;have HW:Hid (bJ zD (a2) R1):=XY Gl.out (by rw[Dy.out];omega) rW.2.2.2.2.2.2.2.2.2.1.out hs0;clear Gn Lq Gg dD Gl hs0;go_cut[176] (λaza wx=>∃bt:Bool,aza=ag bt/\zD=wx);case first=>go_wp2_with fail;go_meet;exact⟨_,rfl,rfl⟩
                           case rest=>
                            obtain⟨bt,rfl,rfl⟩:=hcut;cases bt with
                            | false=>
                              go_wp2;go_roundw;case rel=>exact⟨k+1,ss++[false],a1,c1,r1,by omega,by rw[List.length_append,Hss.out];rfl,by go_num,rfl,hc1,by rw[qH.out];exact HT.out,ae.2.2.2.2.2.2.2.2.2.1.out,by rw[qH.out];exact HP.out,HY.out,ae.2.2.2.2.2.2.2.2.2.2.1.out,ae.2.2.2.2.2.1.out⟩
                              case measure=>exact bC
                            | true=>
                              go_upto_region 24 with fail
                              have Gn:=HY;have Gg:=HQ;have Gl:=HW;first|refine dA (aV zD (g) 0 [af (V:Int),af (d:Int),.slice (some ⟨r2,0,none⟩) N N]) aX ?_|refine dV (aV zD (g) 0 [af (V:Int),af (d:Int),.slice (some ⟨r2,0,none⟩) N N]) aX ?_
                              intro SA hs0;have rW:=ae;have ae:=bU hs0 rW;simp only[bV,List.set]at ae;have ak:=qC ae;have HY:Hid (At SA (wa) (dC ws)):=Ei Gn.out rW.2.2.2.2.2.2.2.2.2.1.out hs0;have HQ:Hid (At SA (some ⟨r2,0,none⟩) (dC C1)):=Ei Gg.out rW.2.2.2.2.2.2.2.2.2.1.out hs0;have HW:Hid (bJ SA (a2) R1):=XY Gl.out (by rw[Dy.out];omega) rW.2.2.2.2.2.2.2.2.2.1.out hs0;clear Gn Gg Gl hs0;go_wp2;go_roundw;case rel=>exact⟨k+1,ss++[true],a2,c2,r2,by omega,by rw[List.length_append,Hss.out];rfl,by go_num,rfl,hc2,by rw[DI.out];exact HW.out,ae.2.2.2.2.2.2.2.2.2.1.out,by rw[DI.out];exact HQ.out,HY.out,ae.2.2.2.2.2.2.2.2.2.2.1.out,ae.2.2.2.2.2.1.out⟩
                              case measure=>exact bC
                         . obtain rfl:x=k:=by omega
                           have Jy:=DV.out ss yr zo;generalize (gL V d ss (rows,cs0)).1=R at*;generalize (gL V d ss (rows,cs0)).2=C at*;have hcl:=λW (hW:Bw w W) (h1:At W (some ⟨bf,0,none⟩) (dC C)) (h2:At W wa (dC ws))=>aqg C ws ms ml me M N 400000 (some ⟨bf,0,none⟩) wa N wc2 W wL Sn.out uV (λy hy=>(EL y hy).mono zo) zd zd (λy hy=>(zn.out y hy).2) Ry.out HM.out Jy h1 h2 (eK.out.below hW);have QC:=aj hcl;clear Jy hcl gB EL wL yr HS;obtain⟨ae,ak⟩:=qZ (Hf.an<|vV.an trivial);have HX:Hid (At wr (some ⟨bf,0,none⟩) (dC C)):=HX.out;have HY:Hid (At wr (wa) (dC ws)):=HY.out;go_wp2_with fail;refine aJ (Hb.an<|HX.an<|HY.an ae) (QC.out _ Hb.out HX.out HY.out) λw20 ae ak=>?_;go_wp2_with fail;refine aJ ae (uI _ (eK.out.below ae.1.out)) λw21 ae ak=>?_;go_wp2;refine bodyPost_ret (results_tmp rfl _ _ _) rfl ⟨rfl,ae.1.out⟩
            . have JX:=fun W (hW:Bw w W)=>(show Cl 11 #[.agg #[af PV,.slice aP nT cP],.slice a k cap,af (d:Int)] W (fun e w'=>(∃c:Int,c≠0/\e=.returned (.tuple #[.agg #[af 0,af 0,.slice none 0 0],af c]))/\Bw W w')from(OH W hW).mono (fun e w' ⟨h,hb⟩=>⟨by
               rcases h with⟨_,h⟩ |⟨h,_⟩
               . exact h
               . exact absurd h h0,hb⟩))
              have RZ:=aj JX;clear OH JX hall hf hts tG hN h0;have lH:=Hb;have Pp:=qN;have Pm:=vV;clear Hb;have Hb:=hbz wr;go_upto_region 8 with fail
              go_cut[10,11] (λyL KM wx=>∃(g:Nat) (c:Int),yL=.pointer (some ⟨g,0,none⟩)/\KM=af c/\c≠0/\wr.heap.size<=g/\Bw wr wx);case first=>
               obtain⟨ae,ak⟩:=qZ (qN.an trivial);obtain⟨qN,_⟩:=ae;obtain⟨KE,KF⟩:=qN.out.c2;have gJ:∀w',ez wr w'->aH w' (w.heap.size) 0 (af PV)/\aH w' (w.heap.size) 1 (.slice aP nT cP):=λw' h=>⟨cell_later h KE,cell_later h KF⟩;refine Bd (λw'=>ez wr w') (λi=>Nat.blt i 10) 8 38 [af 0,af 0,.slice none 0 0] [(0,true),(1,true),(2,true),(3,false),(4,false),(5,true),(6,true),(7,true)] [(9,false),(10,false)] zk zk rfl rfl rfl zk zk zc zc (λK a w h=>AR rfl rfl (λK' hK=>by go_simp;exact hK _ _ h)) ?_;clear KE KF qN;intro wrf ai;replace Hb:=aj (aI Hb.out ai);refine⟨Hb.out,?_⟩;iterate 3 (refine rK rfl rfl (v:=?_) (λw' hw'=>?_) ?_;rotate_left;(focus have hw':=gJ w' hw';obtain⟨q0,q1⟩:=hw';go_simp;try with_reducible rfl);try simp only[UU])
               refine oH rfl rfl (λK hK=>?_);go_simp;with_reducible refine(vX.out _ (aI lH.out Hb.out)).mono ?_
               rintro e w9 ⟨rfl,hq⟩;refine hK _ _ hq (λw6 ai hb2=>?_);replace Hb:=aj (aI Hb.out ai);refine⟨Hb.out,?_⟩;clear ai hb2 hq hK K;try simp only[UU]
               refine oH rfl rfl (λK hK=>?_);go_simp;with_reducible refine(RZ.out _ (aI lH.out Hb.out)).mono ?_
               rintro e w9 ⟨⟨c,hc0,rfl⟩,hq⟩;refine hK _ _ hq (λw7 ai hb2=>?_);replace Hb:=aj (aI Hb.out ai);refine⟨Hb.out,?_⟩;clear ai hb2 hq hK K;try simp only[UU]
               iterate 3 (refine rK rfl rfl (v:=?_) (λw' hw'=>?_) ?_;rotate_left;(focus go_simp;try with_reducible rfl);try simp only[UU])
               intro iI hb0 qx;have Hh:=aj qx;clear qx;obtain⟨h0,Ty,h1,Tz,h2,TA⟩:=Hh.out.g3;try simp only[U1]
               try simp only[Act.put,U2,U3]
               refine aM rfl rfl (λK hK=>?_);go_simp;refine hK _ _ (λ_=>(((Hb.out.setCell zp _).setCell zp _).setCell zp _)) ?_;try simp only[UU]
               refine aM rfl rfl (λK hK=>?_);go_simp;refine hK _ _ (λh=>absurd h zd) ?_;try simp only[UU]
               simp only[bH];go_wp2_with fail;go_meet;exact⟨iI,_,rfl,rfl,hc0,hb0,((Hb.out.setCell zp _).setCell zp _).setCell zp _⟩
              case rest=>obtain⟨g,c,rfl,rfl,hc0,hg,qb⟩:=hcut;clear Hb;have Hb:=aj (aI lH.out qb);clear qb Pp Pm qN vV hg lH;go_wp2_with fail;refine aJ (Hb.an trivial) (uI _ (eK.out.below Hb.out)) λw8 ae ak=>?_;go_wp2;refine bodyPost_ret (results_tmp rfl _ _ _) rfl ⟨rfl,ae.1.out⟩
end Go.Proofs.YtbkopgdpcijfbaaGreatDoor
