/- Package simp: To,of whatever small arguments;what a polynomial is that Check lets by. -/
import Derived.Test.YtbkopgdpcijfbaaGreatDoorZ17
import Derived.Test.YtbkopgdpcijfbaaGreatDoorZ27
import Derived.Test.YtbkopgdpcijfbaaGreatDoorZ38
import Derived.Test.YtbkopgdpcijfbaaGreatDoorZ14
set_option linter.all false
set_option maxRecDepth 100000
set_option maxHeartbeats 16000000
namespace Go.Proofs.YtbkopgdpcijfbaaGreatDoor
open Go.RowKit
def aju {PV d:Int}{ts:List Trm}{rows:List (List Raw)}{B:Nat}(h4:rows.length<=4)(hf:∀r∈rows,∀c∈r,Fit B c)(hts:∀t∈ts,Fit B t.2)(h:vL PV ts rows d=0):
 ∃V:Nat,1<=V/\V<=3/\PV=(V:Int)/\rows.length=V+1/\jy rows=0/\Rw V B rows/\0<=d/\qW V B d.toNat ts:=by
 unfold vL at h;by_cases hb:jy rows=1\/mC PV ts≠0\/PV≠(rows.length:Int)-1\/d<(nE ts:Int)
 . rw[if_pos hb]at h;cases h
 . rw[if_neg hb]at h;have h1:¬jy rows=1:=λe=>hb (.inl e);have h2:mC PV ts=0:=Classical.byContradiction λe=>hb (.inr (.inl e));have h3:PV=(rows.length:Int)-1:=Classical.byContradiction λe=>hb (.inr (.inr (.inl e)));have h5:¬d<(nE ts:Int):=λe=>hb (.inr (.inr (.inr e)));obtain⟨m,hm,hr⟩:=aAo zo hf h;have hl:=hr.1;have hV:PV=((m+1:Nat):Int):=by omega
   rw[hV]at h2;have hp:=axN h2;exact⟨m+1,by omega,by omega,hV,hl,h,hr,by omega,⟨hp,hts⟩,λt ht=>⟨hp.2.1 t ht,by have:rM t.1<=nE ts:=aci ts t ht;omega⟩⟩
def ToR (PV d:Int)(ts:List Trm)(rows:List (List Raw))(N:Nat)(e:Ending)(w':World):Prop:=
 (vL PV ts rows d≠0/\∃c:Int,c≠0/\e=.returned (.tuple #[.agg #[af 0,af 0,.slice none 0 0],af c]))\/
 (vL PV ts rows d=0/\∃b:Nat,e=.returned (.tuple #[.agg #[af PV,af d,.slice (some ⟨b,0,none⟩) N N],af 0])/\At w' (some ⟨b,0,none⟩) (dC (pp (rows.length-1) d.toNat (rows.map λr=>r.map au) (pY ts))))
def aAB (PV:Int)(aP:Option Addr)(nT kL:Nat)(ts:List Trm)(a:Option Addr)(L cap:Nat)(rows:List (List Raw))(B N:Nat)(d:Int)(w:World)(fO:ts.length=nT)(hn:nT<=4096)(nX:At w aP (ts.flatMap aY))(hts:∀t∈ts,Fit B t.2)(hlm:∀t∈ts,t.1.length<=9223372036854775807)
 (hL:rows.length=L) (hL4:L<=4) (hcap:L<=cap) (ha:bJ w a rows) (hfit:∀r∈rows,∀c∈r,Fit B c) (bP:1<=B) (hB:B<=100000) (hT:aC w) (hd:d<=5) (hN:cnt (L-1) d.toNat=N):
 Cl 11 #[.agg #[af PV,.slice aP nT kL],.slice a L cap,af d] w λe w'=>ToR PV d ts rows N e w'/\Bw w w':=by
 by_cases h0:vL PV ts rows d=0
 . obtain⟨V,hV1,hV3,rfl,hl,h9,hr,hd0,hp⟩:=aju zo hfit hts h0;have hLV:L-1=V:=by omega
   have asZ:rows.length-1=V:=by omega
   rw[hLV]at hN;refine(aAE V d.toNat (V:Int) rfl aP nT kL ts a L cap rows B N d zo w fO hn nX hts hL hL4 hcap ha hfit bP hB hT zo h0 hN).mono ?_;rintro e w' ⟨b,rfl,hat,ai⟩;exact⟨.inr ⟨h0,b,rfl,by rw[asZ];exact hat⟩,ai⟩
 . refine(aAD PV aP nT kL ts a L cap rows B d w fO zo nX (λt ht=>⟨hlm t ht,(hts t ht).1⟩) hL hL4 hcap ha hfit zo hT _ (.inl zo) rfl h0).mono ?_;rintro e w' ⟨rfl,ai⟩;exact⟨.inl ⟨h0,_,h0,rfl⟩,ai⟩
end Go.Proofs.YtbkopgdpcijfbaaGreatDoor
