/- Plain: Back gives the polynomial times a power of the size. -/
import Derived.Test.YtnjfebkelecgaaaGreatDoorZ29
import Derived.Test.YtnjfebkelecgaaaGreatDoorZ32
set_option linter.all false
set_option maxRecDepth 100000
set_option maxHeartbeats 16000000
namespace Go.Proofs.YtnjfebkelecgaaaGreatDoor
def aiI (f:Nat->Dyadic)(n:Nat):dM f n=sumTo f n:=by
 induction n with
 |zero=>rfl
 |succ n ih=>rw[dM,sumTo,ih]
def acm (rows:List (List Raw))(k j:Nat):(mo (rows.map λr=>r.map aJ) k).getD j 0=cF rows j k:=by unfold mo cF dx;rw[List.getD_eq_getElem?_getD,List.map_map,List.getElem?_map,List.getD_eq_getElem?_getD (l:=rows.map _),List.getElem?_map];rcases rows[j]? with _|r<;>simp
def aoT (Y:Nat->Dyadic){V A B D:Nat}{rows:List (List Raw)}{ts:List aQ}{cs:List Dyadic}(hV:1<=V)(kN:V<=3)(hF:∀j,j<=V->dJ V B 1 (fA V (cF rows) V j)/\(fA V (cF rows) V j).length<=8)(hc:∀c∈cs,Sm A c)(hD:D<=5)(hB:A+10* (B+2000)+300013<=268435456)(hd:fy V D ts)(hcs:cs=fQ V D (rows.map λr=>r.map aJ) (ts.map λt=>(aJ t.2,t.1.map UInt8.toNat))):
 df (fD Y V) (pD V (fA V (cF rows) V) (bK (V+1) D) cs (cnt V D))=cP (gL (dz V (cF rows)) *dz V (cF rows)) D*df (fD Y V) ts:=by
 have gy:(bK (V+1) D).length=cnt V D:=nS V D;have hR:∀k,k<(bK (V+1) D).length->((bK (V+1) D).getD k []).sum<=D:=λk hk=>by
  have:(bK (V+1) D).getD k []∈bK (V+1) D:=by rw[List.getD_eq_getElem?_getD,List.getElem?_eq_getElem hk];exact List.getElem_mem hk
  exact Nat.le_of_eq ((kV V D _).1 this).2
 have hval:∀j,j<V+1->df (fD Y V) (fA V (cF rows) V j)=oZ V (cF rows) Y j:=λj hj=>by rw[<-arD V hV zo (cF rows) Y j zo,Ub Y V _ _ (Nat.le_refl _),List.take_length]
 rw[api Y hF hc kN hR hD hB _ zo,sumTo_congr (g:=λk=>cs.getD k 0*eZ (oZ V (cF rows) Y) ((bK (V+1) D).getD k []) (V+1)) _ (λk hk=>by rw[Xh _ _ hval])]
 have:=aip (oZ V (cF rows) Y) Y (gL (dz V (cF rows)) *dz V (cF rows)) V D (rows.map λr=>r.map aJ) ts hd (by
  rw[<-aiI];exact aAE V hV zo _ _) (λk hk=>by
  unfold yb;rw[<-aAF V hV zo (cF rows) Y k hk,aiI]
  exact sumTo_congr _ (λj _=>by rw[acm];grind))
 rw[<-hcs]at this;rw[<-this,<-gy];rfl
def aoS {V A B C D:Nat}{rows:List (List Raw)}{ts:List aQ}{cs:List Dyadic}(hV:1<=V)(kN:V<=3)(hF:∀j,j<=V->dJ V B 1 (fA V (cF rows) V j)/\(fA V (cF rows) V j).length<=8)(hc:∀c∈cs,Sm A c)(hD:D<=5)(hB:A+10* (B+2000)+300013<=268435456)(hd:fy V D ts)(hcs:cs=fQ V D (rows.map λr=>r.map aJ) (ts.map λt=>(aJ t.2,t.1.map UInt8.toNat)))(hbk:gj V C (pD V (fA V (cF rows) V) (bK (V+1) D) cs (cnt V D)))(hs:gj V C (bP (dA (cP (gL (dz V (cF rows)) *dz V (cF rows)) D) ts))):
 pD V (fA V (cF rows) V) (bK (V+1) D) cs (cnt V D)=bP (dA (cP (gL (dz V (cF rows)) *dz V (cF rows)) D) ts):=by
 refine arW hbk.1 hs.1 (λt ht=>(hbk.2 t ht).2) (λt ht=>(hs.2 t ht).2) (λY=>?_);rw[aoT Y hV kN hF hc hD hB hd hcs,Ea,acU]
end Go.Proofs.YtnjfebkelecgaaaGreatDoor
