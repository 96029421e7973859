/- Package tri: linear. -/
import Derived.Test.YtpfgffadgkkedaaGreatDoorZ7
import Derived.Test.YtpfgffadgkkedaaGreatDoorZ15
import Derived.Test.YtpfgffadgkkedaaGreatDoorZ16
set_option linter.all false
set_option maxRecDepth 100000
set_option maxHeartbeats 16000000
namespace Go.Proofs.YtpfgffadgkkedaaGreatDoor
open Go.RowKit
attribute [local go_sem ↓] Go.wp_at_zero Go.wp_at_succ
def Rl {V B:Nat}{l:List Trm}(hV:V<=12)(hm:∀t∈l,df t.1 V=true)(hl:l.length<=4096)(hs:∀x∈l,Sm B (dval x.2))(hB:B+l.length<=268435456):dU V (B+l.length) (aU l):=by refine⟨al6 hV hm hl,λt ht=>?_⟩;have h1:=al7 hs t ht;have h2:=((jJ l).2 t ht).2;rw[h2];exact h1.fit hB
def dU.mono {V B B':Nat}{ts:List Trm}(h:dU V B ts)(hB:B<=B'):dU V B' ts:=⟨h.1,λt ht=>(h.2 t ht).mono hB⟩
def Uh {V B:Nat}{c:Dyadic}{l:Nat->Dyadic}{k:Nat}(hV:V<=12)(hk:k<=V)(hc:Sm B c)(hl:∀j,j<k->Sm B (l j))(hB:B+13<=268435456):dU V (B+13) (cZ V c l k):=by have h:=Rl (B:=B) hV (aea V c l k) (by rw[Ec];omega) (aq9 V c l k hc hl) (by rw[Ec];omega);rw[Ec]at h;exact h.mono zo
def af8 {V B:Nat}{k:Nat}{x:Dyadic}(hV:V<=12)(hx:Sm B x)(hB:B+1<=268435456):dU V (B+1) (aU [(cB V k,canon x)]):=
 Rl (l:=[(cB V k,canon x)]) hV (by intro t ht;simp at ht;subst ht;exact ND V k) zm (by intro t ht;simp at ht;subst ht;show Sm B (dval (canon x));rw[bu];exact hx) (by simpa using hB)
def auP (V k:Nat)(x:Dyadic):aU (cz x (aU [(cB V k,canon 1)]))=aU [(cB V k,canon x)]:=by refine CR (λm=>?_);rw[Zm,rA];simp only[bR,bu];split<;>grind
def akp (V B:Nat)(A D C:List Trm)(aA aD:Option Addr)(cA cD:Nat)(w:World)(b:Nat)(hb:ar w b 41 [af (V:Int),.slice aA A.length cA,af (V:Int),.slice aD D.length cD])(hA:vW w aA cA A)(hD:vW w aD cD D)(SC:dU V B A)(SD:dU V B D)(hn:A.length+D.length<=4096)(hB:B+2+8192<=268435456)(hT:aB w)(hC:aU (A++D)=C):
 Cl 160 #[.slice (some ⟨b,0,none⟩) 2 2] w λex w'=>∃a' c',ex=.returned (.tuple #[.agg #[af (V:Int),.slice a' C.length c'],af 0])/\aW w' a' c' C/\Bw w w':=by
 refine ate V B b 0 2 2 [⟨V,aA,A.length,cA⟩,⟨V,aD,D.length,cD⟩] (λk=>if k=0 then A else D) C w rfl zd zd (At.azW hb) ?_ ?_ hB hT ?_
 . intro k hk;rcases k with _|k
   . exact⟨aA,cA,rfl,hA,SC⟩
   . obtain rfl:k=0:=by simp at hk;omega
     exact⟨aD,cD,rfl,hD,SD⟩
 . simp[nS];omega
 . simpa[nS]using hC
def FP (V B:Nat)(A D C:List Trm)(aA aD:Option Addr)(cA cD:Nat)(w:World)(b:Nat)(hb:ar w b 41 [af (V:Int),.slice aA A.length cA,af (V:Int),.slice aD D.length cD])(hA:aW w aA cA A)(hD:aW w aD cD D)(SC:dU V B A)(SD:dU V B D)(hn:A.length+D.length<=4096)(hB:B+2+8192<=268435456)(hT:aB w)(hC:aU (A++D)=C):
 Cl 160 #[.slice (some ⟨b,0,none⟩) 2 2] w λex w'=>∃a' c',ex=.returned (.tuple #[.agg #[af (V:Int),.slice a' C.length c'],af 0])/\aW w' a' c' C/\Bw w w':=akp V B A D C aA aD cA cD w b hb hA.w hD.w SC SD hn hB hT hC
def arc (V B:Nat)(c:Dyadic)(L:List Dyadic)(l:Nat->Dyadic)(a:Option Addr)(cap:Nat)(w:World)(hV:V<=12)(hL:L.length=V)(hl:∀k (h:k<L.length),l k=L[k])(hcs:Sm B c)(hls:∀x∈L,Sm B x)(hB:B<=100000000)(ha:At w a (dC L))(hT:aB w):
 Cl 158 #[.agg #[ag (az (dN c)),ah (nt (dN c).natAbs),af (dE c)],.slice a V cap] w λex w'=>∃a' c',ex=.returned (.tuple #[.agg #[af (V:Int),.slice a' (cZ V c l V).length c'],af 0])/\aW w' a' c' (cZ V c l V)/\Bw w w':=by
 have hcn:=λW (hW:Bw w W)=>CS V (az (dN c)) (nt (dN c).natAbs) (dE c) c B l W hV (hcs.fit zo) zo (hT.below hW) (bu c);have qE:=λk (hk:k<V) W (hW:Bw w W)=>agb V k W hV hk (hT.below hW);have hlk:∀k,k<V->Sm B (l k):=λk hk=>by rw[hl k zo];exact hls _ (List.getElem_mem _)
 have hsc:=λk (hk:k<V) a' c' (W:World) (hW:Bw w W) (hp:aW W a' c' (aU [(cB V k,canon 1)]))=>Vr V a' c' (aU [(cB V k,canon 1)]) (az (dN (l k))) (nt (dN (l k)).natAbs) (dE (l k)) (l k) (B+2) W (af8 (B:=B+1) hV (Sm.one.mono zo) zo) hp (((hlk k hk).mono zo).fit zo) zo (hT.below hW) (bu _);simp only[auP]at hsc;have had:=λk (hk:k<V) aA cA aD cD (W:World) (hW:Bw w W) b (hb:ar W b 41 [af (V:Int),.slice aA (cZ V c l k).length cA,af (V:Int),.slice aD (aU [(cB V k,canon (l k))]).length cD]) (hA:aW W aA cA (cZ V c l k)) (hD:aW W aD cD (aU [(cB V k,canon (l k))]))=>FP V (B+13) (cZ V c l k) (aU [(cB V k,canon (l k))]) (cZ V c l (k+1)) aA aD cA cD W b hb hA hD (Uh hV zo hcs (λj hj=>hlk j zo) zo) ((af8 (B:=B) hV (hlk k hk) zo).mono zo) (by have h1:=kV (fw V c l k);have h2:=kV [(cB V k,canon (l k))];rw[Ec]at h1;simp at h2;unfold cZ;omega) zo (hT.below hW) (ara V c l k);obtain⟨n0,hn0⟩:=au ((cZ V c l 0).length);rw[hn0]at hcn;obtain⟨jD,PZ,lO,sf,Hl,HL,Ha,zS⟩:=nk hcn qE hsc had hl hL ha hn0;clear hcn qE hsc had hl hL ha hT hlk hls hcs hn0;have Hb:=hbz w;go_enter Tryz.func158,Tryz.ntmps158;go_wp2_with fail;refine gP w (Hb.an trivial) 45 (bE c) 41 [af 0,.slice none 0 0] λW aG ae ai=>?_;go_wp2_with fail;refine(jD.out _ ae.2.2.1.out).mono ?_;rintro e w1 ⟨a1,d1,rfl,hp1,ak⟩;obtain⟨ae,ai⟩:=qX ak ae;obtain⟨Hc,Hr,Hb,_⟩:=ae;obtain⟨c0,c1,c2⟩:=Hc.out.c3;obtain⟨r0,aZ,r1,bf⟩:=Hr.out.g2;have Oq:=Hc;have lN:=Hr;have dQ:=Hb;have uz:=aj hp1;clear hp1;obtain⟨W2,ke,aG,ae,ai⟩:=bO w1 (Hb.an<|Hc.an<|Hr.an trivial) 41 [af (V:Int),.slice a1 n0 d1];have xN:Hid (aW W2 a1 d1 (cZ V c l 0)):=uz.out.below (by first|exact zl| (rw[<-ke];exact zl));have Wh:Hid (Bw w1 W2):=by rw[<-ke];exact zl
 go_wp2_with fail;go_loopw[7,8] (λs7 x wr=>∃(k:Nat) (a':Option Addr) (n' c':Nat),k<=V/\x=af (k:Int)/\s7=af 0/\(cZ V c l k).length=n'/\ar wr w1.heap.size 41 [af (V:Int),.slice a' n' c']/\aW wr a' c' (cZ V c l k)/\Bw w1 wr) (λ_ x _=>V-(intOf x).toNat);case atStart=>exact⟨0,a1,n0,d1,Nat.zero_le _,rfl,rfl,zS.out,ae.1.out,xN.out,Wh.out⟩
 case round=>
  clear xN Wh uz;obtain⟨k,a',n',c',hk,rfl,rfl,hn,ho,hp,pb⟩:=hrel;obtain⟨Ho,Hp,aP,Hn⟩:=cG ho hp pb hn;have dM:=dQ.out;have ic:=pb.size;have BV:=dM.size;by_cases hlt:k<V
  . have jx:k<(L.map canon).length:=by rw[List.length_map,HL.out];exact hlt
    have hat':=Ha.out.below (aF dQ.out pb);rw[yc]at hat';obtain⟨X,hX⟩:=au (l k);obtain⟨bx,ox,rfl,p0,p1,p2⟩:=hat'.num k jx (show(L.map canon)[k]=(dx X)by rw[<-hX,Hl.out k (by simpa using jx)];simp;rfl);have ixx:=ud V cap k (k:Int) (rfl:(some ⟨bx,ox,none⟩:Option Addr)=_) hlt rfl;have Ud:bx<wr.heap.size:=World.block_lt_of_cell? wr _ p0;have qE:=PZ.out k hlt;have hsc:=lO.out k hlt;have had:=sf.out k hlt;rw[hn,hX]at had;rw[hX]at hsc;obtain⟨n1,dK⟩:∃n,(aU [(cB V k,canon 1)]).length=n:=⟨_,rfl⟩;obtain⟨n2,wN⟩:∃n,(aU [(cB V k,canon X)]).length=n:=⟨_,rfl⟩;obtain⟨n3,wO⟩:∃n,(cZ V c l (k+1)).length=n:=⟨_,rfl⟩;rw[wN,wO]at had;rw[dK,wN]at hsc;rw[dK]at qE;obtain⟨oK,sK,Og,Hn3⟩:=cG qE hsc had wO;have Hx:Hid (aQ wr bx (ox+k*3) (bE X)):=iI p0 p1 p2;have fB:=aj (aF dQ.out pb);clear qE hsc had dK wN wO hat' jx hX p0 p1 p2 ho hp pb hn dM;have Hb:=hbz wr;have hlo:=Ho.out.lt;obtain⟨ae,ai⟩:=qZ (Ho.an<|Hx.an trivial);go_wp2_with fail;refine(oK.out _ (aF fB.out Hb.out)).mono ?_;rintro e w3 ⟨a3,d3,rfl,Iz,ak⟩;obtain⟨ae,ai⟩:=qX ak (Hb.an ae);have rf:=aj Iz;have Ep:=ae.1.out.size;clear Iz;obtain⟨W4,kg,aG,ae,ai⟩:=bO w3 ae 41 [af (V:Int),.slice a3 n1 d3];have HQ:Hid (aW W4 a3 d3 (aU [(cB V k,canon 1)])):=rf.out.below (by first|exact zl| (rw[<-kg];exact zl));go_wp2_with fail;obtain⟨Hv,Hb,Ho,Hx,_⟩:=ae;obtain⟨o0,Gi,o1,Gj⟩:=Ho.out.g2;obtain⟨x0,x1,x2⟩:=Hx.out.w3;obtain⟨v0,fv0,v1,fv1⟩:=Hv.out.g2;refine fx (λw'=>aJ w' bx (ox+k*3) (ag (az (dN X)))/\aJ w' bx (ox+k*3+1) (ah (nt (dN X).natAbs))/\aJ w' bx (ox+k*3+2) (af (dE X))) (λi=>Nat.blt i 100000) [(1,true),(2,true),(3,true),(4,true),(0,false),(5,false),(6,true),(7,true),(8,true),(9,false)] zk zk rfl zk zc ⟨x0,x1,x2⟩ ?_;iterate 4 (refine pT rfl rfl ?_ (by intro w' ⟨q0,q1,q2⟩;go_simp;try with_reducible rfl);try simp only[UU])
    refine aO rfl rfl (λK hK=>?_);go_simp;refine hK _ _ (λ_=>⟨x0,x1,x2⟩) ?_;try simp only[UU]
    refine aO rfl rfl (λK hK=>?_);go_simp;with_reducible refine(sK.out a3 d3 _ (by first|exact aF fB.out Hb.out|exact aF fB.out Hb.out.drew) (by first|exact HQ.out|exact HQ.out.below (Below.refl _ _).drew)).mono ?_
    rintro e w5 ⟨a5,d5,rfl,IA,hq⟩;have ak:Bw W4 w5:=by first|exact hq|exact cM hq
    replace Ho:=kB Ho ak;replace Hx:=kW Hx ak;replace Hv:=kB Hv ak;replace HQ:=aj (HQ.out.below ak);obtain⟨o0,Gi,o1,Gj⟩:=Ho.out.g2;obtain⟨x0,x1,x2⟩:=Hx.out.w3;obtain⟨v0,fv0,v1,fv1⟩:=Hv.out.g2;replace Hb:=bj Hb ak;refine hK _ _ (λ_=>⟨x0,x1,x2⟩) ?_;try simp only[UU]
    iterate 3 (refine pT rfl rfl ?_;try simp only[UU])
    refine aO rfl rfl (λK hK=>?_);go_simp;refine hK _ _ (by first|exact λh=>absurd h zd|exact λ_=>⟨x0,x1,x2⟩ |exact λ_=>⟨(by first|exact x0|exact aC zf x0|exact aC zf (aC zf x0) |exact aC zf (aC zf (aC zf x0))),(by first|exact x1|exact aC zf x1|exact aC zf (aC zf x1) |exact aC zf (aC zf (aC zf x1))),(by first|exact x2|exact aC zf x2|exact aC zf (aC zf x2) |exact aC zf (aC zf (aC zf x2)))⟩) ?_;try simp only[UU]
    simp only[bH];have ua:=Hv.out;generalize GC:(w5.setCell ⟨w3.heap.size,0,none⟩ (af (V:Int))).setCell ⟨w3.heap.size,1,none⟩ (.slice a5 n2 d5)=W6;have yE:aW W6 a5 d5 (aU [(cB V k,canon X)]):=by rw[<-GC];exact IA.store ua zd _ _
    have Iq:ar W6 w1.heap.size 41 [af (V:Int),.slice a' n' c']:=by rw[<-GC];exact(Ho.out.so w3.heap.size 0 zo _).so w3.heap.size 1 zo _
    have cf:ar W6 w3.heap.size 41 [af (V:Int),.slice a5 n2 d5]:=by rw[<-GC];exact(ua.set 0 _).set 1 _
    have wG:Bw wr W6:=by rw[<-GC];exact(Hb.out.setCell Ep _).setCell Ep _
    replace Ho:=aj Iq;replace Hv:=aj cf;replace Hb:=aj wG;have Hp6:=aj yE;clear Iq cf wG yE IA ua GC o0 o1 Gi Gj v0 v1 fv0 fv1 x0 x1 x2;obtain⟨ae,ai⟩:=qZ (Ho.an<|Hv.an trivial);have o1:W6.cell? ⟨w1.heap.size,1,none⟩=some (.slice a' n' c'):=ae.1.out.cell 1;have v1:W6.cell? ⟨w3.heap.size,1,none⟩=some (.slice a5 n2 d5):=ae.2.1.out.cell 1;have v0:W6.cell? ⟨w3.heap.size,0,none⟩=some (af (V:Int)):=ae.2.1.out.cell 0;have o0:W6.cell? ⟨w1.heap.size,0,none⟩=some (af (V:Int)):=ae.1.out.cell 0;have P0:=o0;have P1:=o1;have Q0:=v0;have Q1:=v1;obtain⟨W7,AB,aG,ae,ai⟩:=bO W6 (Hb.an ae) 41 [af (V:Int),.slice a' n' c',af (V:Int),.slice a5 n2 d5];have HP:Hid (aW W7 a' c' (cZ V c l k)):=Hp.out.below ae.2.1.out;have HS:Hid (aW W7 a5 d5 (aU [(cB V k,canon X)])):=Hp6.out.below (by first|exact zl| (rw[<-AB];exact zl));go_wp2_with fail;go_wp2_with fail;refine(Og.out _ _ _ _ _ (aF fB.out ae.2.1.out) _ ae.1.out HP.out HS.out).mono ?_;rintro e w8 ⟨a8,d8,rfl,kv,ak⟩;obtain⟨ae,ai⟩:=qX ak (HP.an<|HS.an ae);have hl8:=aW.store kv ae.2.2.2.2.1.out zd (af (V:Int)) (.slice a8 n3 d8);obtain⟨Hl8,jc⟩:=aH hl8 (aF aP.out ae.2.2.2.1.out);clear kv hl8;go_wp2;go_roundw;case rel=>exact⟨k+1,a8,n3,d8,by omega,by go_num,rfl,Hn3.out,(ae.2.2.2.2.1.out.set 0 _).set 1 _,Hl8.out,(jc.out.setCell (Nat.le_refl _) _).setCell (Nat.le_refl _) _⟩
    case measure=>exact bi
  . obtain rfl:k=V:=by omega
    have Hr:=aj (lN.out.below aP.out);have Hb:Hid (Bw w wr):=aF dQ.out aP.out;have hsz:=lN.out.lt;obtain⟨ae,ai⟩:=qZ (Ho.an<|Hr.an trivial);go_wp2;have ml:=Hp.out.store ae.2.1.out zd (af (k:Int)) (.slice a' n' c');refine dI (λw9=>aW w9 a' c' (cZ k c l k)/\ar w9 (w.heap.size+1) 41 [af (k:Int),.slice a' n' c']/\Bw w w9) ⟨ml,(ae.2.1.out.set 0 _).set 1 _,(Hb.out.setCell zp _).setCell zp _⟩ ?_;rintro w9 ⟨q1,q2,q3⟩;obtain⟨x0,x1⟩:=q2.c2;exact bodyPost_ret (v:=.tuple #[.agg #[af (k:Int),.slice a' n' c'],af 0]) (by simp[results,Tryz.results158,go_sem,x0,x1]) rfl ⟨a',c',by rw[hn],q1,q3⟩
end Go.Proofs.YtpfgffadgkkedaaGreatDoor
namespace Go.Proofs.YtpfgffadgkkedaaGreatDoor
open Go.RowKit
def pu (n:Nat)(P:Nat->Nat->Dyadic)(i:Nat):List Trm:=cZ n (wC n P i) (λk=>js n P k i) n
def BI (n:Nat)(P:Nat->Nat->Dyadic)(i:Nat):List Trm:=aU (cz (-1) (pu n P i))
def ma (n:Nat)(P:Nat->Nat->Dyadic)(i:Nat):List Trm:=cZ n (wZ n P (λ_=>0) i) (λb=>lZ n P b i) n
def jL (n:Nat)(P:Nat->Nat->Dyadic)(i j:Nat):List Trm:=if j=0 then ma n P i else pu n P (j-1)
def nU (n:Nat)(P:Nat->Nat->Dyadic)(i k:Nat):List Dyadic:=(List.range k).map λk=>js n P k i
def al1 (n:Nat)(P:Nat->Nat->Dyadic)(i k:Nat):(nU n P i k).length=k:=by simp[nU]
def al0 (n:Nat)(P:Nat->Nat->Dyadic)(i k j:Nat)(h:j<(nU n P i k).length):(nU n P i k)[j]=js n P j i:=by simp[nU]
def al2 (n:Nat)(P:Nat->Nat->Dyadic)(i k:Nat):nU n P i (k+1)=nU n P i k++[js n P k i]:=by unfold nU;rw[List.range_succ,List.map_append];rfl
def awh (n:Nat)(P:Nat->Nat->Dyadic)(i k:Nat):wS n P (λ_=>0) i k-P 0 k*js n P k i=wS n P (λ_=>0) i (k+1):=by
 show _=wS n P (λ_=>0) i k+(0-P 0 k) *js n P k i
 grind
def an0 (n:Nat)(P:Nat->Nat->Dyadic)(l:Nat->Dyadic):cZ n (wZ n P (λ_=>0) 0) l 0=ma n P 0:=by
 unfold ma cZ;refine CR (λm=>?_);have h:∀k,bR (fw n (wZ n P (λ_=>0) 0) (λb=>lZ n P b 0) k) m=bR (fw n (wZ n P (λ_=>0) 0) l 0) m:=by
  intro k;induction k with
  |zero=>rfl
  |succ k ih=>rw[Lg,ih];simp[lZ]
 exact(h n).symm
def anZ (n:Nat)(hn:1<=n)(aS:n<=4)(P:Nat->Nat->Dyadic)(i:Nat)(hi:i<n):aU (ma n P i++BI n P i)=ma n P (i+1):=by
 unfold ma BI pu;rw[arb];have:wZ n P (λ_=>0) i-wC n P i=wZ n P (λ_=>0) (i+1):=by unfold wC;rw[Ev n hn aS P _ i hi];rfl
 rw[this];rfl
def Wd {B n:Nat}:∀b,b<n->Sm B ((λ_=>0:Nat->Dyadic) b):=λ_ _=>Sm.zero _
def agd {B n:Nat}{P:Nat->Nat->Dyadic}(hn:1<=n)(aS:n<=4)(h:∀a b,a<=n->b<n->Sm B (P a b))(i:Nat):Sm (5*B+20) (wC n P i):=(NJ hn aS h Wd i n (Nat.le_refl _)).mono zo
def aqV {B n:Nat}{P:Nat->Nat->Dyadic}(hn:1<=n)(aS:n<=4)(h:∀a b,a<=n->b<n->Sm B (P a b))(b i:Nat):Sm (4*B+11+i) (lZ n P b i):=by
 induction i with
 |zero=>exact Sm.zero _
 |succ i ih=>exact(Sm.sub ih ((FQ hn aS h b i).mono zo)).mono zo
def ad6 {B n:Nat}{P:Nat->Nat->Dyadic}(hn:1<=n)(aS:n<=4)(h:∀a b,a<=n->b<n->Sm B (P a b))(hB:B<=1000000)(i:Nat):dU n (5*B+33) (pu n P i):=
 Uh (B:=5*B+20) zo (Nat.le_refl _) (agd hn aS h i) (λj _=>(FQ hn aS h j i).mono zo) zo
def anY {B n:Nat}{P:Nat->Nat->Dyadic}(hn:1<=n)(aS:n<=4)(h:∀a b,a<=n->b<n->Sm B (P a b))(hB:B<=1000000)(i:Nat)(hi:i<=n):dU n (5*B+33) (ma n P i):=
 Uh (B:=5*B+20) zo (Nat.le_refl _) ((VS hn aS h Wd i hi).mono zo) (λj _=>(aqV hn aS h j i).mono zo) zo
def aec (n:Nat)(c:Dyadic)(l:Nat->Dyadic)(k:Nat):(cZ n c l k).length<=k+1:=by have:=kV (fw n c l k);rw[Ec]at this;exact this
def Ue (n:Nat)(P:Nat->Nat->Dyadic)(i:Nat):(pu n P i).length<=n+1:=aec _ _ _ _
def aaf (n:Nat)(P:Nat->Nat->Dyadic)(i:Nat):(ma n P i).length<=n+1:=aec _ _ _ _
def asx (n:Nat)(P:Nat->Nat->Dyadic)(i:Nat):(BI n P i).length<=n+1:=by have h:=kV (cz (-1) (pu n P i));have h2:=Ue n P i;unfold cz at h;rw[List.length_map]at h;unfold BI cz;omega
def asw {B n:Nat}{P:Nat->Nat->Dyadic}(hn:1<=n)(aS:n<=4)(h:∀a b,a<=n->b<n->Sm B (P a b))(hB:B<=1000000)(i:Nat):dU n (5*B+40) (BI n P i):=by
 have hf:=ad6 hn aS h hB i;have hl:=Ue n P i;have hsl:(cz (-1) (pu n P i)).length=(pu n P i).length:=by unfold cz;rw[List.length_map]
 refine(Rl (V:=n) (B:=5*B+35) (l:=cz (-1) (pu n P i)) zo ?_ zo ?_ zo).mono zo
 . intro t ht;unfold cz at ht;obtain⟨x,hx,rfl⟩:=List.mem_map.1 ht;exact hf.1.2.1 x hx
 . intro t ht;unfold cz at ht;obtain⟨x,hx,rfl⟩:=List.mem_map.1 ht;show Sm _ (dval (canon (dval x.2* -1)))
   rw[bu];exact(Sm.mul (hf.2 x hx).2 (Sm.neg Sm.one)).mono zo
def atU (ps:List Pv)(V:Int)(a:Option Addr)(n c:Nat):(((ps.flatMap ib).set 0 (af V)).set 1 (.slice a n c))=(ps.set 0 ⟨V,a,n,c⟩).flatMap ib:=by
 cases ps with
 |nil=>rfl
 |cons p ps=>rfl
def UW {W:World}{V B:Nat}{ps:List Pv}{Ts:Nat->List Trm}{a:Option Addr}{c:Nat}{C:List Trm}(h:fE W V B ps Ts)(hT:Ts ps.length=C)(hp:aW W a c C)(hf:dU V B C):fE W V B (ps++[⟨(V:Int),a,C.length,c⟩]) Ts:=by
 intro k hk;by_cases hl:k<ps.length
 . obtain⟨a',c',h1,h2,h3⟩:=h k hl;exact⟨a',c',by rw[List.getElem_append_left hl];exact h1,h2,h3⟩
 . have e:k=ps.length:=by simp at hk;omega
   subst e;exact⟨a,c,by simp[hT],by rw[hT];exact hp,by rw[hT];exact hf⟩
def atE {W:World}{V B:Nat}{ps:List Pv}{Ts Ts':Nat->List Trm}{a:Option Addr}{c:Nat}{C:List Trm}(h:fE W V B ps Ts)(hs:∀j,0<j->Ts' j=Ts j)(h0:Ts' 0=C)(hp:aW W a c C)(hf:dU V B C):fE W V B (ps.set 0 ⟨(V:Int),a,C.length,c⟩) Ts':=by
 intro k hk;rw[List.length_set]at hk;rcases k with _|k
 . exact⟨a,c,by simp[h0],by rw[h0];exact hp,by rw[h0];exact hf⟩
 . obtain⟨a',c',h1,h2,h3⟩:=h (k+1) hk;rw[<-hs (k+1) zo]at h1 h2 h3;exact⟨a',c',by simp[h1],h2,h3⟩
def fE.off {W:World}{V B:Nat}{ps:List Pv}{Ts:Nat->List Trm}{g:Nat}{cur:Array Value}{t:TypeId}(h:fE W V B ps Ts)(hg:W.heap[g]?=some (.cells cur t))(ht:t≠111)(i:Nat)(u:Value):fE (W.setCell ⟨g,i,none⟩ u) V B ps Ts:=λk hk=>by obtain⟨a,c,h1,h2,h3⟩:=h k hk;exact⟨a,c,h1,h2.off hg ht i u,h3⟩
def aeW {w:World}{base:Nat}{e:TypeId}{size n cap g:Nat}{xs:List Value}(h:w.ownsRow base e size (.slice (some ⟨g,0,none⟩) n cap) n xs):∃cur,w.heap[g]?=some (.cells cur e):=by
 rcases h.2 with⟨h1,_⟩ |⟨g',cap',cur,h1,hb,hg,_⟩
 . simp at h1
 . simp only[Value.slice.injEq,Option.some.injEq,Addr.mk.injEq,and_true,true_and]at h1;obtain⟨rfl,rfl⟩:=h1;exact⟨cur,hg⟩
def aW.grown {w w':World}{r:Option Nat}{a:Option Addr}{c:Nat}{C:List Trm}(h:aW w a c C)(hg:w.grownBy w' r)(hr:∀g,r=some g->∃cur t,w.heap[g]?=some (.cells cur t)/\t≠111):aW w' a c C:=by
 refine⟨?_,h.2.1,?_⟩
 . rcases h.2.2 with h'|⟨b,o,cur',rfl,h2⟩
   . subst h';exact .inl rfl
   . have hne:some b≠r:=λe=>by obtain⟨cur,t,h3,h4⟩:=hr b e.symm;rw[h3]at h2;simp at h2;exact h4 h2.2
     rcases h.1 with h1|⟨b1,o1,e1,hc⟩
     . exact .inl h1
     . simp only[Option.some.injEq,Addr.mk.injEq,and_true]at e1;obtain⟨rfl,rfl⟩:=e1;refine .inr ⟨b,o,rfl,λj hj=>?_⟩;have h9:=hc j hj;rw[<-h9];have hk:=hg.block b (Array.getElem?_eq_some_iff.1 h2).1 hne;simp only[World.cell?,hk]
 . rcases h.2.2 with h'|⟨b,o,cur',rfl,h2⟩
   . exact .inl h'
   . have hne:some b≠r:=λe=>by obtain⟨cur,t,h3,h4⟩:=hr b e.symm;rw[h3]at h2;simp at h2;exact h4 h2.2
     exact .inr ⟨b,o,cur',rfl,by rw[hg.block b (Array.getElem?_eq_some_iff.1 h2).1 hne];exact h2⟩
def fE.grown {W w':World}{V B:Nat}{ps:List Pv}{Ts:Nat->List Trm}{r:Option Nat}(h:fE W V B ps Ts)(hg:W.grownBy w' r)(hr:∀g,r=some g->∃cur t,W.heap[g]?=some (.cells cur t)/\t≠111):fE w' V B ps Ts:=λk hk=>by obtain⟨a,c,h1,h2,h3⟩:=h k hk;exact⟨a,c,h1,h2.grown hg hr,h3⟩
def vt {w:World}{base:Nat}{e:TypeId}{size n:Nat}{v:Value}{xs:List Value}(h:w.ownsRow base e size v n xs):∀g,v.ownBlock=some g->∃cur t,w.heap[g]?=some (.cells cur t)/\t=e:=by
 intro g hg;rcases h.2 with⟨rfl,_⟩ |⟨g',cap',cur,rfl,_,hg2,_⟩
 . simp[Value.ownBlock]at hg
 . have:g'=g:=by simpa[Value.ownBlock]using hg
   subst this;exact⟨cur,e,hg2,rfl⟩
def Tryz.aAd :(Tryz.prog.info? 41).map (λi=>(i.zero,i.size,i.bytes))=some (some (.agg #[af 0,.slice none 0 0]),2,32):=by kernel_rfl
end Go.Proofs.YtpfgffadgkkedaaGreatDoor
namespace Go.Proofs.YtpfgffadgkkedaaGreatDoor
open Go.RowKit
attribute [local go_sem ↓] Go.wp_at_zero Go.wp_at_succ
def ago (w:World)(n B:Nat)(P:Nat->Nat->Dyadic)(e:Ending)(w':World):Prop:=
 ∃a' c' ps,e=.returned (.tuple #[.slice a' (n+1) c',af 0])/\n+1<=c'/\ps.length=n+1/\At w' a' (ps.flatMap ib)/\fE w' n (5*B+33) ps (jL n P n)/\Bw w w'
def aob (a:Option Addr)(cap m:Nat)(rows:List (List Raw))(B:Nat)(w:World)(hm:m+1<=4)(hr:Rw (m+1) B rows)(hcap:m+1+1<=cap)(ha:Tbl w a rows)(hB:B<=200000)(hT:aB w)(h0:jb rows=0):
 Cl 81 #[.slice a (m+1+1) cap] w (ago w (m+1) B (cO rows)):=by
 obtain⟨n,hn⟩:=au (m+1);obtain⟨i0,hi,hz0,hz1,hz2⟩:=info_parts Tryz.azX;obtain⟨j0,hj,hy0,hy1,hy2⟩:=info_parts Tryz.aAd;have hL:=hr.1;have hrow:=hr.2.1;have hfit:=hr.2.2;have lu:=λW (hW:Bw w W)=>adW a cap m rows B W hm hr hcap (ha.below hW) hB (hT.below hW) h0;have hps:∀a b,a<=m+1->b<m+1->Sm B (cO rows a b):=ae4 hr;have h00:0<rows.length:=by omega
 obtain⟨b,o,a0,c0,hab,hc0,iG⟩:=ha.row 0 h00;have tW:rows[0].length=m+1:=hrow _ (List.getElem_mem h00);have Bd:∀x∈rows[0],Fit B x:=hfit _ (List.getElem_mem h00);obtain⟨p0,Bc⟩:=au (rows[0]);rw[Bc]at hc0 iG tW Bd;have hp0:∀k (h:k<p0.length),cO rows 0 k=dval p0[k]:=λk h=>by subst Bc;exact vA rows 0 k h00 h
 rw[tW,Nat.add_zero]at hc0;subst hab;obtain⟨P,hP⟩:=au (cO rows);rw[hP]at lu hps hp0⊢;have Bj:=λi k (hk:k<=m+1)=>NJ (x:=λ_=>0) zo hm hps Wd i k hk;have pX:=λk i=>FQ zo hm hps k i;have rK:=Qz (m+1) P;have htl:=KS (m+1) P;have htr:=KU (m+1) P;have Ml:=λi (hi:i<=m+1)=>anY (n:=m+1) zo hm hps zo i hi;have AU:=λi=>ad6 (n:=m+1) zo hm hps zo i;have hnf:=λi=>asw (n:=m+1) zo hm hps zo i;have hcn:=λW (hW:Bw w W)=>CS (m+1) _ _ _ _ (4*B+11) (λ_=>0) W zo ((afz hm hps).fit zo) zo (hT.below hW) (bu (wZ (m+1) P (λ_=>0) 0));rw[an0]at hcn;have oZ:=λi a' c' (W:World) (hW:Bw w W) (h:At W a' (dC (nU (m+1) P i (m+1))))=>arc (m+1) (5*B+20) (wC (m+1) P i) (nU (m+1) P i (m+1)) (λk=>js (m+1) P k i) a' c' W zo (al1 _ _ _ _) (λk hk=>(al0 _ _ _ _ _ hk).symm) (agd zo hm hps i) (λx hx=>by unfold nU at hx;obtain⟨k,_,rfl⟩:=List.mem_map.1 hx;exact(pX k i).mono zo) zo h (hT.below hW);have hsc:=λi a' c' (W:World) (hW:Bw w W) (h:aW W a' c' (pu (m+1) P i))=>Vr (m+1) a' c' (pu (m+1) P i) _ _ _ (-1) (5*B+33) W (AU i) h ((Sm.neg Sm.one).fit zo|>λ(h:Fit 1 (canon (-1)))=>h.mono zo) zo (hT.below hW) (bu (-1));have had:=λi (hi:i<m+1) aA cA aD cD (W:World) (hW:Bw w W) b hb hA hD=>FP (m+1) (5*B+40) (ma (m+1) P i) (BI (m+1) P i) (ma (m+1) P (i+1)) aA aD cA cD W b hb hA hD ((Ml i zo).mono zo) (hnf i) (by have:=aaf (m+1) P i;have:=asx (m+1) P i;omega) zo (hT.below hW) (anZ (m+1) zo hm P i hi);have hof:=λW (hW:Bw w W)=>CV (-1) (-1) rfl W zd (hT.below hW);rw[hn]at lu hps hcn oZ hsc had hc0 tW Bj pX rK htl htr Ml AU⊢;have aS:n<=4:=by omega
 have dK:1<=n:=by omega
 have ug:b<w.heap.size:=World.block_lt_of_cell? w _ hc0;have Bq:=ng (n+1) cap 0 0 (show some (⟨b,o,none⟩:Addr)=some ⟨b,o,none⟩from rfl) zo rfl;rw[Nat.zero_mul,Nat.add_zero]at Bq;obtain⟨Hi,cu,bV,bX,Hj,kR,jF,kU,mM,HT,uB,jD⟩:=gL hi hz0 hz1 hz2 hj hy0 hy1 hy2 lu hT hps hcn;obtain⟨Hli,lO,sf,nR,Xp,OZ,ux,jo,Py,Px,Pw,KB⟩:=gL oZ hsc had hof Ml AU hc0 iG tW Bd hp0 Bj;obtain⟨EK,PU,Ac,Fy,Fe⟩:=eD pX rK htl htr Bq;clear hi hz0 hz1 hz2 hj hy0 hy1 hy2 lu hT hps hcn oZ hsc had hof Ml AU hnf hc0 iG tW Bd hp0 Bj pX rK htl htr Bq hP Bc h00 ha hr hL hrow hfit h0 hn;have Hb:=hbz w;go_enter Tryz.func81,Tryz.ntmps81;go_wp2_with fail;refine(mM.out _ Hb.out).mono ?_;rintro e w1 ⟨a1,c1,rfl,hc1,ht1,ak⟩;have Fw:=aj ht1;replace Hb:=bj Hb ak;clear ak ht1;obtain⟨dd,hdd⟩:=au (lD (bL n P) *bL n P);rw[hdd]at jD⊢;clear hdd;obtain⟨W2,ke,aG,ae,ai⟩:=bO w1 (Hb.an trivial) 45 (bE dd);have HA:Hid (Tbl W2 a1 ((rz n P).map λr=>r.map canon)):=Fw.out.below (by first|exact zl| (rw[<-ke];exact zl));clear Fw;obtain⟨n3,wO⟩:=au ((ma n P 0).length);rw[wO]at jD;go_wp2_with fail;refine(jD.out _ ae.2.1.out).mono ?_;rintro e w3 ⟨a3,d3,rfl,Iz,ak⟩;obtain⟨ae,ai⟩:=qX ak (HA.an ae);have rf:=aj Iz;clear Iz;obtain⟨W4,kg,aG,ae,ai⟩:=bO w3 ae 41 [af (n:Int),.slice a3 n3 d3];have tX:aW W4 a3 d3 (ma n P 0):=rf.out.below (by first|exact zl| (rw[<-kg];exact zl));have XV:=aj tX;clear tX rf;obtain⟨Hq,HA,Hd,Hb,_⟩:=ae;obtain⟨d0,d1,d2⟩:=Hd.out.c3;obtain⟨q0,q1⟩:=Hq.out.c2;have OA:=Hd;have NP:=HA;have XY:=Hq;have dQ:=Hb;have P0:=q0;have P1:=q1;obtain⟨W5,wB,aG,ae,ai⟩:=bO W4 (Hb.an<|Hd.an<|HA.an<|Hq.an trivial) 41 [af (n:Int),.slice a3 n3 d3];go_wp2_with fail;have NN:Hid (Bw W4 W5):=by rw[<-wB];exact zl
 have hst:W5.ownsRow W4.heap.size 41 2 (.slice (some ⟨W4.heap.size,0,none⟩) 1 1) 1 ([(⟨(n:Int),a3,n3,d3⟩:Pv)].flatMap ib):=Jh (xs:=[af (n:Int),.slice a3 n3 d3]) ae.1.out (Nat.le_refl _) rfl zo;have hpo:fE W5 n (5*B+33) [(⟨(n:Int),a3,n3,d3⟩:Pv)] (jL n P 0):=by
  intro k hk;obtain rfl:k=0:=by simp at hk;omega
  exact⟨a3,d3,by show(⟨(n:Int),a3,n3,d3⟩:Pv)=⟨(n:Int),a3,(ma n P 0).length,d3⟩;rw[wO],XV.out.below NN.out,Xp.out 0 zo⟩
 obtain⟨bN,xO⟩:=aH hst hpo;clear hst hpo wO;go_loopw[10,40] (λJs x wr=>∃(i:Nat) (v:Value) (ps:List Pv),i<=n/\x=af (i:Int)/\v=Js/\ps.length=i+1/\wr.ownsRow W4.heap.size 41 2 v (i+1) (ps.flatMap ib)/\fE wr n (5*B+33) ps (jL n P i)/\Bw W4 wr) (λ_ x _=>n-(intOf x).toNat);case atStart=>exact⟨0,_,_,Nat.zero_le _,rfl,rfl,rfl,bN.out,xO.out,NN.out⟩
 case round=>
  clear bN xO NN XV;obtain⟨i,v,ps,hi,rfl,rfl,hpl,ho,hpo,pb⟩:=hrel;by_cases hlt:i<n
  . obtain⟨wo,hwo⟩:∃wo,wo=wr:=⟨_,rfl⟩;subst hwo;have hvl:=ho.lt;obtain⟨Ho,aP,xO,lM⟩:=cG ho pb hpo hpl;have ic:=pb.size;have Ep:=dQ.out.size;clear ho pb hpo hpl;have Hb:=hbz wo;have wL:decide ((i:Int)<(n:Int))=true:=by simp;omega
    obtain⟨W5,wB,aG,ae,ai⟩:=bO wo (Hb.an trivial) 45 [ag false,.string ⟨#[]⟩,af 0];have FH:=ae.1;have Cb:Hid (Bw wo W5):=ae.2.1;go_wp2_with fail;clear wL;go_loopw[13,46] (λBU x wr=>∃(k:Nat) (v2:Value),k<=n/\x=af (k:Int)/\v2=BU/\wr.ownsRow (wo.heap.size+1) 45 3 v2 k (dC (nU n P i k))/\ar wr wo.heap.size 45 [ag (az (dN (wS n P (λ_=>0) i k))),ah (nt (dN (wS n P (λ_=>0) i k)).natAbs),af (dE (wS n P (λ_=>0) i k))]/\Bw wo wr) (λ_ x _=>n-(intOf x).toNat);case atStart=>exact⟨0,_,Nat.zero_le _,rfl,rfl,World.ownsRow_nil _ _ _ _,((FH.out.set 0 _).set 1 _).set 2 _,((Cb.out.setCell (Nat.le_refl _) _).setCell (Nat.le_refl _) _).setCell (Nat.le_refl _) _⟩
    case round=>
     clear FH Cb;obtain⟨k,v2,hk,rfl,rfl,hv2,hy,qb⟩:=hrel;by_cases bB:k<n
     . have Me:=aF dQ.out aP.out;have yt:=aF Me qb;have tP:k<p0.length:=by rw[Py.out];exact bB
       obtain⟨sp,mp,ep,hpe⟩:=nY (p0[k]);have fp:=Px.out _ (List.getElem_mem tP);rw[hpe]at fp;obtain⟨bp,op,GH,p1,p2,p3⟩:=(jo.out.below Me).num k tP hpe;obtain⟨ba,oa,bq,oq,cq,GG,GL,hq⟩:=(NP.out.below aP.out).aAa Ac.out Fy.out k i bB hlt;rw[PU.out k i bB hlt]at hq;have hPx:P 0 k=dval (sp,mp,ep):=by rw[Pw.out k tP,hpe]
       obtain⟨Q,hQ⟩:=au (js n P k i);obtain⟨Z,hZ⟩:=au (dval (sp,mp,ep) *Q);obtain⟨S0,lf⟩:=au (wS n P (λ_=>0) i k);obtain⟨S1,hS1⟩:=au (wS n P (λ_=>0) i (k+1));have Gz:S0-Z=S1:=by rw[<-hS1,<-hZ,<-hPx,<-hQ,<-lf];exact awh n P i k
       have hcl:=al2 n P i k;have wz:=EK.out k i;rw[hQ]at wz hq hcl;have AA:=KB.out i k zo;rw[lf]at AA hy;have wE:Sm (5*B+12) Z:=by rw[<-hZ];exact(Sm.mul fp.2 wz).mono zo
       have OM:Hid (Fit (4*B+11) (sp,mp,ep)):=fp.mono zo;have EU:Hid (Fit (4*B+11) (dx Q)):=wz.fit zo;have EW:Hid (Fit (5*B+16) (dx S0)):=(AA.mono zo).fit zo;have xI:Hid (Fit (5*B+16) (dx Z)):=(wE.mono zo).fit zo;have HZ:Hid (dval (sp,mp,ep) *dval (dx Q)=Z):=by show _*dval (canon Q)=_;rw[bu];exact hZ
       have NY:Hid (dval (dx S0)-dval (dx Z)=S1):=by show dval (canon S0)-dval (canon Z)=_;rw[bu,bu];exact Gz
       have ixp:=ot n c0 k (k:Int) GH bB rfl;have Ua:=Bo n c1 k (k:Int) GG bB rfl;rw[Nat.mul_one]at Ua;have ixq:=ud n cq i (i:Int) (rfl:(some ⟨bq,oq,none⟩:Option Addr)=_) hlt rfl;have DZ:=Fe.out;obtain⟨RY,fV⟩:=aH hS1 hcl;have HpO:Hid (aQ wo bp (op+k*3) [ag sp,ah mp,af ep]):=iI p1 p2 p3;have EI:=aj (HT.out.below yt);have Hy:Hid (ar wr wo.heap.size 45 (bE S0)):=hy;have Ya:Hid (aQ wo ba (oa+k) [.slice (some ⟨bq,oq,none⟩) n cq]):=λj hj=>by
        obtain rfl:j=0:=by simp at hj;omega
        exact GL
       have HsO:Hid (aQ wo b o [.slice a0 n c0]):=λj hj=>by
        obtain rfl:j=0:=by simp at hj;omega
        exact cell_later Me ux.out
       have XX:Hid (aQ wo bq (oq+i*3) (bE Q)):=hq;obtain⟨Hr,Hq,pM,FA⟩:=cG (Ya.out.below qb) (XX.out.below qb) qb hv2;have VG:=qb.size;have IR:=Hy.out.lt;have hvb:∀g,v2.ownBlock=some g->wo.heap.size+1<=g/\g<wr.heap.size:=λg e=>hv2.lt g e;clear p1 p2 p3 GL hq hy hpe fp GH GG hQ hZ lf hS1 Gz wz AA wE qb Me yt hv2 hcl hPx;have Hb:=hbz wr;obtain⟨ae,ai⟩:=qZ (Hy.an<|Hr.an<|Hq.an trivial);have q2:wr.cell? ⟨bq,oq+i*3+2,none⟩=some (af (dE Q)):=ae.2.2.1.out.cell 2 zm;have r0:wr.cell? ⟨ba,oa+k,none⟩=some (.slice (some ⟨bq,oq,none⟩) n cq):=ae.2.1.out.cell 0 zm;have q0:wr.cell? ⟨bq,oq+i*3,none⟩=some (ag (az (dN Q))):=ae.2.2.1.out.cell 0 zm;have q1:wr.cell? ⟨bq,oq+i*3+1,none⟩=some (ah (nt (dN Q).natAbs)):=ae.2.2.1.out.cell 1 zm;have P0:=r0;have P1:=q0;have P2:=q1;have P3:=q2;obtain⟨W6,pW,aG,ae,ai⟩:=bO wr (Hb.an ae) 45 (bE Q);have cf:=ownsRow_below FA.out ae.2.1.out;have jS:=ae.2.1.out.size;go_wp2_with (at_builtin;refine wpList_append_own_at _ rfl _ _ 29 rfl (wo.heap.size+1) 45 i0 _ 3 32 Tryz.underlying29 Hi.out cu.out bV.out bX.out rfl zd v2 k (dC (nU n P i k)) rfl cf ⟨wr.heap.size,0,none⟩ 1 1 (bE Q) rfl rfl (fM ae.1.out) zy zx zo zo ?_;intro v' w7 dA eo _ fD;obtain⟨g',oL,rfl⟩:=ownsRow_succ dA);have yJ:some wo.heap.size≠v2.ownBlock:=λe=>by have:=hvb _ e.symm;omega
       have IQ:=ae.2.2.1.out.grown eo yJ;have gS:=(aF pM.out ae.2.1.out).grown eo zo (λj e=>by have:=cE cf j e;omega);have e7:dC (nU n P i k)++(bE Q)=dC (nU n P i (k+1)):=by rw[fV.out,CU];rfl
       rw[e7]at dA;obtain⟨vS,sk,Oa,Hr,Hq,Hp,Hs⟩:=iX dA gS (HT.out.below (aF dQ.out (aF aP.out gS))) (Ya.out.below gS) (XX.out.below gS) (HpO.out.below gS) (HsO.out.below gS);have Hy:Hid (ar w7 wo.heap.size 45 (bE S0)):=IQ;have sz7:=gS.size;clear P0 P1 P2 P3 dA gS IQ fD yJ e7 cf eo EI hvb;have Hb:=hbz w7;obtain⟨ae,ai⟩:=qZ (Hy.an<|Hr.an<|Hq.an<|Hp.an<|Hs.an trivial);have HU:Hid (aB w7):=Oa.out;have lby:=ae.1.out.lt;obtain⟨Hy,Hr,Hq,Hp,Hs,_⟩:=ae;obtain⟨y0,gm,y1,gp,y2,iE⟩:=Hy.out.g3;have r0:=Hr.out.w1;obtain⟨q0,q1,q2⟩:=Hq.out.w3;obtain⟨p0,p1,p2⟩:=Hp.out.w3;have s0:=Hs.out.w1;refine fx (λw'=>aJ w' (wo.heap.size) 0 (ag (az (dN S0)))/\aJ w' (wo.heap.size) 1 (ah (nt (dN S0).natAbs))/\aJ w' (wo.heap.size) 2 (af (dE S0))/\aJ w' bp (op+k*3) (ag sp)/\aJ w' bp (op+k*3+1) (ah mp)/\aJ w' bp (op+k*3+2) (af ep)/\aJ w' b o (.slice a0 n c0)/\aJ w' ba (oa+k) (.slice (some ⟨bq,oq,none⟩) n cq)/\aJ w' bq (oq+i*3) (ag (az (dN Q)))/\aJ w' bq (oq+i*3+1) (ah (nt (dN Q).natAbs))/\aJ w' bq (oq+i*3+2) (af (dE Q))) (λi=>Nat.blt i 17) [(0,true),(1,true),(2,true),(3,true),(4,true),(5,true),(6,true),(7,true),(8,true),(9,true),(10,true),(11,true),(12,true),(13,true),(14,false),(15,false),(16,false),(17,false)] zk zk rfl zk zc ⟨y0,y1,y2,p0,p1,p2,s0,r0,q0,q1,q2⟩ ?_;iterate 14 (refine pT rfl rfl ?_ (by intro w' ⟨q0,q1,q2,q3,q4,q5,q6,q7,q8,q9,q10⟩;go_simp;try with_reducible rfl);try simp only[UU])
       refine aO rfl rfl (λK hK=>?_);go_simp;refine hK _ _ (λ_=>⟨aM y0,aM y1,aM y2,aM p0,aM p1,aM p2,aM s0,aM r0,aM q0,aM q1,aM q2⟩) ?_;try simp only[UU]
       refine cg (λW8=>ar W8 (w7.heap.size) 45 [ag sp,ah mp,af ep,ag (az (dN Q)),ah (nt (dN Q).natAbs),af (dE Q)]/\Bw w7 W8) (by first|exact iY|exact iZ) ?_;rintro W8 ⟨qz,ak⟩;have azb:=Hy.out.lt;replace Hy:=kB Hy ak;replace Hr:=kW Hr ak;replace Hq:=kW Hq ak;replace Hp:=kW Hp ak;replace Hs:=kW Hs ak;replace HU:=kT HU ak;have Hz:=aj qz;clear qz;obtain⟨y0,gm,y1,gp,y2,iE⟩:=Hy.out.g3;have r0:=Hr.out.w1;obtain⟨q0,q1,q2⟩:=Hq.out.w3;obtain⟨p0,p1,p2⟩:=Hp.out.w3;have s0:=Hs.out.w1;obtain⟨z0,z1,z2,z3,z4,z5⟩:=Hz.out.c6;replace Hb:=bj Hb ak;refine aO rfl rfl (λK hK=>?_);go_simp;with_reducible refine(Am sp mp ep (az (dN Q)) (nt (dN Q).natAbs) (dE Q) Z (4*B+11) HZ.out w7.heap.size _ 45 _ OM.out EU.out zo Hz.out (by first|exact HU.out|exact aB.drew HU.out|exact aB.alloc HU.out _|exact aB.drew (aB.alloc HU.out _) |exact aB.alloc (aB.drew HU.out) _)).mono ?_
       rintro e w9 ⟨rfl,hq⟩;have ak:Bw W8 w9:=by first|exact hq|exact cM hq
       obtain⟨Hy,y0,gm,y1,gp,y2,iE⟩:=mC Hy ak;replace Hr:=kW Hr ak;replace Hq:=kW Hq ak;replace Hp:=kW Hp ak;replace Hs:=kW Hs ak;replace HU:=kT HU ak;replace Hz:=kB Hz ak;have r0:=Hr.out.w1;obtain⟨q0,q1,q2⟩:=Hq.out.w3;obtain⟨p0,p1,p2⟩:=Hp.out.w3;have s0:=Hs.out.w1;obtain⟨z0,z1,z2,z3,z4,z5⟩:=Hz.out.c6;replace Hb:=bj Hb ak;refine hK _ _ (λ_=>⟨y0,y1,y2,p0,p1,p2,s0,r0,q0,q1,q2⟩) ?_;try simp only[UU]
       refine aO rfl rfl (λK hK=>?_);go_simp;with_reducible refine(Ao (az (dN S0)) (nt (dN S0).natAbs) (dE S0) (az (dN Z)) (nt (dN Z).natAbs) (dE Z) S1 (5*B+16) NY.out _ EW.out xI.out zo (by first|exact HU.out|exact aB.drew HU.out|exact aB.alloc HU.out _|exact aB.drew (aB.alloc HU.out _) |exact aB.alloc (aB.drew HU.out) _)).mono ?_
       rintro e jU ⟨rfl,hq⟩;have ak:Bw w9 jU:=by first|exact hq|exact cM hq
       obtain⟨Hy,y0,gm,y1,gp,y2,iE⟩:=mC Hy ak;replace Hr:=kW Hr ak;replace Hq:=kW Hq ak;replace Hp:=kW Hp ak;replace Hs:=kW Hs ak;replace HU:=kT HU ak;replace Hz:=kB Hz ak;have r0:=Hr.out.w1;obtain⟨q0,q1,q2⟩:=Hq.out.w3;obtain⟨p0,p1,p2⟩:=Hp.out.w3;have s0:=Hs.out.w1;obtain⟨z0,z1,z2,z3,z4,z5⟩:=Hz.out.c6;replace Hb:=bj Hb ak;refine hK _ _ (λ_=>⟨y0,y1,y2,p0,p1,p2,s0,r0,q0,q1,q2⟩) ?_;try simp only[UU]
       refine aO rfl rfl (λK hK=>?_);go_simp;refine hK _ _ (by first|exact λh=>absurd h zd|exact λ_=>⟨y0,y1,y2,p0,p1,p2,s0,r0,q0,q1,q2⟩ |exact λ_=>⟨(by first|exact y0|exact aC zf y0|exact aC zf (aC zf y0) |exact aC zf (aC zf (aC zf y0))),(by first|exact y1|exact aC zf y1|exact aC zf (aC zf y1) |exact aC zf (aC zf (aC zf y1))),(by first|exact y2|exact aC zf y2|exact aC zf (aC zf y2) |exact aC zf (aC zf (aC zf y2))),(by first|exact p0|exact aC zf p0|exact aC zf (aC zf p0) |exact aC zf (aC zf (aC zf p0))),(by first|exact p1|exact aC zf p1|exact aC zf (aC zf p1) |exact aC zf (aC zf (aC zf p1))),(by first|exact p2|exact aC zf p2|exact aC zf (aC zf p2) |exact aC zf (aC zf (aC zf p2))),(by first|exact s0|exact aC zf s0|exact aC zf (aC zf s0) |exact aC zf (aC zf (aC zf s0))),(by first|exact r0|exact aC zf r0|exact aC zf (aC zf r0) |exact aC zf (aC zf (aC zf r0))),(by first|exact q0|exact aC zf q0|exact aC zf (aC zf q0) |exact aC zf (aC zf (aC zf q0))),(by first|exact q1|exact aC zf q1|exact aC zf (aC zf q1) |exact aC zf (aC zf (aC zf q1))),(by first|exact q2|exact aC zf q2|exact aC zf (aC zf q2) |exact aC zf (aC zf (aC zf q2)))⟩) ?_;try simp only[UU]
       simp only[bH];have hov:=ownsRow_below vS.out Hb.out;have wF:=aF sk.out Hb.out;obtain⟨cV,lK⟩:=aH hov wF;clear hov wF;go_wp2;go_roundw;case rel=>
        refine⟨k+1,_,by omega,by go_num,rfl,?_,?_,?_⟩
        . have qi:=vr cV.out;have hne:wo.heap.size≠g':=by omega
          exact ownsRow_setCell_other (ownsRow_setCell_other (ownsRow_setCell_other cV.out (by simp[Value.ownBlock];omega) _) (by simp[Value.ownBlock];omega) _) (by simp[Value.ownBlock];omega) _
        . rw[RY.out];exact((Hy.out.set 0 _).set 1 _).set 2 _
        . exact((lK.out.setCell (Nat.le_refl _) _).setCell (Nat.le_refl _) _).setCell (Nat.le_refl _) _
       case measure=>exact bi
     . obtain rfl:k=n:=by omega
       obtain⟨al,cl,rfl,hal,_⟩:=cw hv2;obtain⟨C0,pR⟩:=au (wS k P (λ_=>0) i k);rw[pR]at hy;have fT:=aF dQ.out aP.out;have oZ:=λW (hW:Bw wr W)=>Hli.out i al cl W (aF (aF fT qb) hW) (hal.below hW);have hwC:wC k P i=C0:=pR;obtain⟨LF,Df⟩:=au (pu k P i);obtain⟨NF,RO⟩:=au (BI k P i);obtain⟨FF,RG⟩:=au (ma k P i);obtain⟨FN,LS⟩:=au (ma k P (i+1));rw[show cZ k (wC k P i) (λj=>js k P j i) k=LF from Df,hwC]at oZ;have hsc:=lO.out i;have had:=sf.out i hlt;rw[Df]at hsc;rw[show aU (cz (-1) LF)=NF by rw[<-Df];exact RO]at hsc;rw[RO,RG,LS]at had;have Mj:=OZ.out i;have Mk:=Xp.out (i+1) zo;rw[Df]at Mj;rw[LS]at Mk;obtain⟨nL,Td⟩:∃x,LF.length=x:=⟨_,rfl⟩;obtain⟨nN,Te⟩:∃x,NF.length=x:=⟨_,rfl⟩;obtain⟨nF,hnF⟩:∃x,FF.length=x:=⟨_,rfl⟩;obtain⟨nG,Tb⟩:∃x,FN.length=x:=⟨_,rfl⟩;rw[Td]at oZ hsc;rw[Te]at hsc;rw[Te,hnF,Tb]at had;have Tt:=λ(W:World) a c (h:fE W k (5*B+33) ps (jL k P i)) (hp:aW W a c LF)=>UW h (show jL k P i ps.length=LF by rw[lM.out];exact Df) hp Mj;have mZ:=λ(W:World) (qs:List Pv) a c (h:fE W k (5*B+33) qs (jL k P i)) (hp:aW W a c FN)=>atE (Ts':=jL k P (i+1)) h (λj hj=>by unfold jL;rw[if_neg zo,if_neg zo]) LS hp Mk;rw[Td]at Tt;rw[Tb]at mZ;have ko:jL k P i 0=FF:=RG;have Hy:Hid (ar wr wo.heap.size 45 (bE C0)):=hy;obtain⟨aiH,sK,Og,HfL,HfN,Hap,bN,pM,ET,HnF⟩:=Bt oZ hsc had Mj Mk Tt mZ qb ko hnF;clear oZ hsc had Mj Mk Tt mZ qb Df RO RG LS pR hwC hv2 hal hy ko Td Te hnF Tb fT;have VG:=pM.out.size;have IR:=Hy.out.lt;have Hb:=hbz wr;obtain⟨ae,ai⟩:=qZ (Hy.an trivial);go_wp2_with fail;refine(aiH.out _ Hb.out).mono ?_;rintro e w7 ⟨a7,d7,rfl,hp7,ak⟩;obtain⟨ae,ai⟩:=qX ak (Hb.an ae);have Hp7:=aj hp7;clear hp7;have sz7:=ae.1.out.size;obtain⟨W8,abn,aG,ae,ai⟩:=bO w7 ae 41 [af (k:Int),.slice a7 nL d7];have HL:Hid (aW W8 a7 d7 LF):=Hp7.out.below (by first|exact zl| (rw[<-abn];exact zl));go_upto_region 21 with fail
       have t0:W8.cell? ⟨w7.heap.size,0,none⟩=some (af (k:Int)):=ae.1.out.cell 0;have t1:W8.cell? ⟨w7.heap.size,1,none⟩=some (.slice a7 nL d7):=ae.1.out.cell 1;have P0:=t0;have P1:=t1;obtain⟨W9,abo,aG,ae,ai⟩:=bO W8 (HL.an ae) 41 [af (k:Int),.slice a7 nL d7];have jz:=ownsRow_below Ho.out (aF pM.out ae.2.2.2.1.out);have hs9:=ae.2.2.2.1.out.size;go_wp2_with (at_builtin;refine wpList_append_own_at _ rfl _ _ 51 rfl W4.heap.size 41 j0 _ 2 32 Tryz.underlying51 Hj.out kR.out jF.out kU.out rfl zd v (i+1) (ps.flatMap ib) rfl jz ⟨W8.heap.size,0,none⟩ 1 1 [af (k:Int),.slice a7 nL d7] rfl rfl (fM ae.1.out) zy zx zo zo ?_;intro v' jU Ip Dt _ fD;obtain⟨g',oL,rfl⟩:=ownsRow_succ Ip);have hvb:∀g,v.ownBlock=some g->g<wo.heap.size:=λg e=>(hvl g e).2;have apC:g'≠w7.heap.size:=by
        rcases fD with h|h
        . have:=hvb g' h.symm;omega
        . have h9:g'=W9.heap.size:=Option.some.inj h;have:=ae.2.2.1.out.lt;omega
       have yJ:some w7.heap.size≠v.ownBlock:=λe=>by have:=hvb _ e.symm;omega
       have yI:∀g,v.ownBlock=some g->∃cur t,W9.heap[g]?=some (.cells cur t)/\t≠111:=λg e=>by obtain⟨cur,t,h1,h2⟩:=vt jz g e;exact⟨cur,t,h1,by rw[h2];decide⟩
       have adm:=ae.2.2.1.out.grown Dt yJ;have SS:=ae.2.1.out.grown Dt yI;have Iu:=(xO.out.below (aF pM.out ae.2.2.2.1.out)).grown Dt yI;have acV:=Hap.out _ _ _ Iu SS;have wF:=(aF aP.out (aF pM.out ae.2.2.2.1.out)).grown Dt zo (λj e=>cE jz j e);have e10:ps.flatMap ib++[af (k:Int),.slice a7 nL d7]=(ps++[(⟨(k:Int),a7,nL,d7⟩:Pv)]).flatMap ib:=by rw[List.flatMap_append];rfl
       rw[e10]at Ip;have hwk:Bw w jU:=aF dQ.out wF;have hlg:g'<jU.heap.size:=(vr Ip).2;obtain⟨XR,lK,PF,Cz,aiy,aha⟩:=fZ Ip wF acV hwk SS (HT.out.below hwk);have azr:=Dt.size;have Ht:Hid (ar jU w7.heap.size 41 [af (k:Int),.slice a7 nL d7]):=adm;clear P0 P1 Ip wF Iu acV hwk adm SS fD yJ e10 jz Dt yI hvb;have Hb:=hbz jU;obtain⟨ae,ai⟩:=qZ (Ht.an trivial);have HL:Hid (aW jU a7 d7 LF):=aiy.out;have ayW:=ae.1.out.lt;go_upto_region 22 with fail
       go_cut[17] (λs17 wx=>∃(g:Nat) (a:Option Addr) (d:Nat),s17=.pointer (some ⟨g,0,none⟩)/\jU.heap.size<=g/\ar wx g 41 [af (k:Int),.slice a nN d]/\aW wx a d NF/\Bw jU wx);case first=>
        have HL0:=HL;obtain⟨Ht,_⟩:=ae;obtain⟨t0,t1⟩:=Ht.out.c2;have qT:∀w',iK jU w'->aJ w' (w7.heap.size) 0 (af (k:Int))/\aJ w' (w7.heap.size) 1 (.slice a7 nL d7):=λw' h=>⟨cell_later h t0,cell_later h t1⟩;refine NL (λw'=>iK jU w') (λi=>Nat.blt i 8) 6 41 [af 0,.slice none 0 0] [(0,true),(1,false),(2,false),(3,true),(4,true),(5,true)] [(7,false),(8,false)] zk zk rfl rfl rfl zk zk zc zc (λK a w h=>Nh rfl rfl (λK' hK=>by go_simp;exact hK _ _ h)) ?_;clear t0 t1 Ht HL;intro azv ak;replace Hb:=aj (aF Hb.out ak);refine⟨Hb.out,?_⟩;refine yY rfl rfl (v:=?_) (λw' hw'=>?_) ?_;rotate_left;(focus have hw':=qT w' hw';obtain⟨q0,q1⟩:=hw';go_simp;try with_reducible rfl);try simp only[UU]
        refine El rfl rfl (λK hK=>?_);go_simp;with_reducible refine(nR.out _ (aF Cz.out Hb.out)).mono ?_
        rintro e w9 ⟨rfl,hq⟩;refine hK _ _ hq (λxz ak hb2=>?_);replace Hb:=aj (aF Hb.out ak);refine⟨Hb.out,?_⟩;clear ak hb2 hq hK K;try simp only[UU]
        refine El rfl rfl (λK hK=>?_);go_simp;with_reducible refine(sK.out a7 d7 _ (aF Cz.out Hb.out) (HL0.out.below Hb.out)).mono ?_
        rintro e w9 ⟨a12,d12,rfl,acW,hq⟩;refine hK _ _ hq (λVM ak hb2=>?_);have qX:=aj (acW.below hb2);clear acW;replace Hb:=aj (aF Hb.out ak);refine⟨Hb.out,?_⟩;clear ak hb2 hq hK K;have HX:=qX;clear qX;try simp only[UU]
        iterate 3 (refine yY rfl rfl (v:=?_) (λw' hw'=>?_) ?_;rotate_left;(focus go_simp;try with_reducible rfl);try simp only[UU])
        intro Wb hb0 qx;have Hz:=aj qx;clear qx;obtain⟨z0,Da,z1,yg⟩:=Hz.out.g2;try simp only[U1]
        try simp only[Act.put,U2,U3]
        refine aO rfl rfl (λK hK=>?_);go_simp;refine hK _ _ (λ_=>by first|exact((Hb.out.setCell zp _).setCell zp _) |exact(((Hb.out.setCell zp _).setCell zp _).setCell zp _)) ?_;try simp only[UU]
        refine aO rfl rfl (λK hK=>?_);go_simp;refine hK _ _ (λh=>absurd h zd) ?_;try simp only[UU]
        simp only[bH];go_wp2_with fail;go_meet;exact⟨Wb,_,_,rfl,hb0,(Hz.out.set 0 _).set 1 _,HX.out.store Hz.out zd _ _,(Hb.out.setCell zp _).setCell zp _⟩
       case rest=>
        obtain⟨g17,FO,FZ,rfl,aym,abB,acY,hbc⟩:=hcut;have hov:=ownsRow_below XR.out hbc;obtain⟨Ag,Ak,nW,Tv,_⟩:=(PF.out.below hbc) 0 zm;rw[ET.out]at nW Tv;rw[HnF.out]at nW;obtain⟨aa,ca,jz,pY,_⟩:=cw hov;simp only[Value.slice.injEq,true_and]at jz;obtain⟨rfl,rfl⟩:=jz;obtain⟨b9,o9,e9,TK⟩:=pY.azZ 0 zm nW;simp only[Option.some.injEq,Addr.mk.injEq,and_true]at e9;obtain⟨rfl,rfl⟩:=e9;rw[Nat.zero_mul,Nat.zero_add]at TK;have hgb:=vr hov;have hpc:=PF.out.below hbc;obtain⟨cV,PC⟩:=aH hov hpc;have Hx:Hid (aQ wc g' 0 [af (k:Int),.slice Ag nF Ak]):=TK;have Hz:Hid (ar wc g17 41 [af (k:Int),.slice FO nN FZ]):=abB;obtain⟨sw,Qc,ajk,ajl,EH⟩:=eD (aF lK.out hbc) (aF Cz.out hbc) Tv acY (HT.out.below (aF Cz.out hbc));have szc:=hbc.size;clear hov pY nW TK hpc abB Tv acY hbc XR PF HL Hb aha;have Ub:=ue (i+1+1) oL 0 0 (rfl:(some ⟨g',0,none⟩:Option Addr)=_) zo rfl;rw[Nat.zero_mul,Nat.add_zero]at Ub;have Hb:=hbz wc;obtain⟨ae,ai⟩:=qZ (Hx.an<|Hz.an trivial);have HF:Hid (aW wc Ag Ak FF):=ajk.out;have HN:Hid (aW wc FO FZ NF):=ajl.out;go_wp2_with fail;obtain⟨Hx,Hz,_⟩:=ae;have x0:wc.cell? ⟨g',0,none⟩=some (af (k:Int)):=Hx.out.cell 0 zm;have x1:wc.cell? ⟨g',1,none⟩=some (.slice Ag nF Ak):=Hx.out.cell 1 zm;obtain⟨z0,z1⟩:=Hz.out.c2;refine fx (λw'=>aJ w' g17 0 (af (k:Int))/\aJ w' g17 1 (.slice FO nN FZ)) (λi=>Nat.blt i 100000) [(0,true),(1,true),(2,true),(4,true),(3,false),(5,false),(6,false),(7,true),(8,true),(9,true),(10,true),(11,false)] zk zk rfl zk zc ⟨z0,z1⟩ ?_;iterate 4 (refine pT rfl rfl ?_ (by intro w' ⟨q0,q1⟩;go_simp;try with_reducible rfl);try simp only[UU])
        refine aO rfl rfl (λK hK=>?_);go_simp;refine hK _ _ (λ_=>⟨z0,z1⟩) ?_;try simp only[UU]
        refine aO rfl rfl (λK hK=>?_);go_simp;refine hK _ _ (λ_=>⟨aM z0,aM z1⟩) ?_;try simp only[UU]
        refine cg (λCF=>ar CF (wc.heap.size) 41 [af (k:Int),.slice Ag nF Ak,af (k:Int),.slice FO nN FZ]/\Bw wc CF) (by first|exact iY|exact iZ) ?_;rintro CF ⟨qc,ak⟩;have azd:=Hz.out.lt;replace Hx:=kW Hx ak;replace Hz:=kB Hz ak;replace HF:=aj (HF.out.below ak);replace HN:=aj (HN.out.below ak);have Hc:=aj qc;clear qc;have x0:CF.cell? ⟨g',0,none⟩=some (af (k:Int)):=Hx.out.cell 0 zm;have x1:CF.cell? ⟨g',1,none⟩=some (.slice Ag nF Ak):=Hx.out.cell 1 zm;obtain⟨z0,z1⟩:=Hz.out.c2;obtain⟨c0,c1,c2,c3⟩:=Hc.out.c4;replace Hb:=bj Hb ak;refine aO rfl rfl (λK hK=>?_);go_simp;with_reducible refine(Og.out Ag Ak FO FZ _ (by first|exact aF Qc.out Hb.out|exact aF Qc.out Hb.out.drew) _ Hc.out HF.out HN.out).mono ?_
        rintro e NH ⟨Ah,QR,rfl,Ix,hq⟩;have ak:Bw CF NH:=by first|exact hq|exact cM hq
        replace Hx:=kW Hx ak;replace Hz:=kB Hz ak;replace HF:=aj (HF.out.below ak);replace HN:=aj (HN.out.below ak);replace Hc:=kB Hc ak;have x0:NH.cell? ⟨g',0,none⟩=some (af (k:Int)):=Hx.out.cell 0 zm;have x1:NH.cell? ⟨g',1,none⟩=some (.slice Ag nF Ak):=Hx.out.cell 1 zm;obtain⟨z0,z1⟩:=Hz.out.c2;obtain⟨c0,c1,c2,c3⟩:=Hc.out.c4;replace Hb:=bj Hb ak;refine hK _ _ (λ_=>⟨z0,z1⟩) ?_;try simp only[UU]
        iterate 4 (refine pT rfl rfl ?_;try simp only[UU])
        refine aO rfl rfl (λK hK=>?_);have MC:=ownsRow_below cV.out Hb.out;have Da:=jT MC 0;have yg:=jT MC 1;have abA:=aF sw.out Hb.out;obtain⟨XU,aht,ajf,ai9⟩:=cG MC abA (PC.out.below Hb.out) Ix;clear MC abA Ix;go_simp;refine hK _ _ (λ_=>⟨aC (.inl zp) (aC (.inl zp) z0),aC (.inl zp) (aC (.inl zp) z1)⟩) ?_;try simp only[UU]
        iterate 0 skip
        simp only[bH];go_wp2;go_roundw;case rel=>
         obtain⟨cur,Dp⟩:=aeW XU.out;have cX:=ja XU.out 0 (af (k:Int));obtain⟨axu,abU⟩:=aeW cX;have fH:=ja cX 1 (.slice Ah nG QR);rw[atU]at fH;refine⟨i+1,_,(ps++[(⟨(k:Int),a7,nL,d7⟩:Pv)]).set 0 ⟨(k:Int),Ah,nG,QR⟩,by omega,by go_num,rfl,by simp[lM.out],fH,?_,?_⟩
         . exact bN.out _ _ Ah QR ((ajf.out.off Dp zd 0 _).off abU zd 1 _) ((ai9.out.off Dp zd 0 _).off abU zd 1 _)
         . exact(aht.out.setCell hgb.1 _).setCell hgb.1 _
        case measure=>exact bi
  . obtain rfl:i=n:=by omega
    obtain⟨Tp,ho',Tn,aP⟩:=cG hpo ho hpl (aF dQ.out pb);clear ho pb hpo hpl;go_wp2;obtain⟨a',c',e1,h1,h2⟩:=cw ho'.out;subst e1;have hcc:i+1<=c':=by
     rcases ho'.out.2 with⟨h,h0⟩ |⟨g9,YX,Zq,h,_,_,h6,_⟩
     . omega
     . simp only[Value.slice.injEq,true_and]at h;omega
    exact bodyPost_ret (v:=.tuple #[.slice a' (i+1) c',af 0]) (by simp[results,Tryz.results81,go_sem]) rfl ⟨a',c',ps,rfl,hcc,Tn.out,h1,Tp.out,aP.out⟩
end Go.Proofs.YtpfgffadgkkedaaGreatDoor
