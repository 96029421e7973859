/- Package simp: a form times a sum of shares. -/
import Derived.Test.YtpfgffadgkkedaaGreatDoorZ22
import Derived.Test.YtpfgffadgkkedaaGreatDoorZ23
import Derived.Test.YtpfgffadgkkedaaGreatDoorZ7
import Derived.Laws.IdiomStrings
import Derived.Test.YtpfgffadgkkedaaGreatDoorZ11
set_option linter.all false
set_option maxRecDepth 100000
set_option maxHeartbeats 16000000
namespace Go.Proofs.YtpfgffadgkkedaaGreatDoor
open Go.RowKit
attribute [local go_sem ↓] Go.wp_at_zero Go.wp_at_succ
def vG (w:World)(b:Nat)(l:List UInt8):Prop:=∀j (hj:j<l.length),w.cell? ⟨b,j,none⟩=some (.int .u8 (l[j].toNat:Int))/\w.frozen? ⟨b,j,none⟩=false
def vG.below {w w':World}{b:Nat}{l:List UInt8}(h:vG w b l)(hb:Bw w w'):vG w' b l:=λj hj=>⟨cell_later hb (h j hj).1,by
 have h1:=World.block_lt_of_cell? w _ (h j hj).1;rw[World.frozen?_of_block (a:=⟨b,j,none⟩) (w:=w) (hb.block b h1)]
 exact(h j hj).2⟩
def vG.back {w:World}{b:Nat}{l:List UInt8}(h:vG w b l)(cap:Nat):(convert 59 9 (.slice (some ⟨b,0,none⟩) l.length cap)).run Tryz.prog w=.ok (ah l) w:=
 run_convert_bytes_back (P:=Tryz.prog) w 59 9 5 ⟨b,0,none⟩ cap l Tryz.underlying59 Tryz.underlying5 Tryz.underlying9 (λj hj=>by
  have:=(h j hj).1;rw[show(⟨b,0,none⟩:Addr).add j=⟨b,j,none⟩by simp[Addr.add];intro h;exact h.symm]
  exact this)
def vG.set {w:World}{b:Nat}{l:List UInt8}(h:vG w b l)(j:Nat)(hj:j<l.length)(u:UInt8):vG (w.setCell ⟨b,j,none⟩ (.int .u8 (u.toNat:Int))) b (l.set j u):=by
 intro i hi;have hi2:i<l.length:=by simpa using hi
 by_cases e:j=i
 . subst e;refine⟨?_,?_⟩
   . rw[World.cell?_setCell_same _ _ _ (h j hj).1];simp
   . rw[World.frozen?_setCell];exact(h j hj).2
 . refine⟨?_,?_⟩
   . rw[World.cell?_setCell_other _ _ _ _ (show(⟨b,j,none⟩:Addr)≠⟨b,i,none⟩from λh=>e (Addr.mk.inj h).2.1),(h i hi2).1];simp[e]
   . rw[World.frozen?_setCell];exact(h i hi2).2
end Go.Proofs.YtpfgffadgkkedaaGreatDoor
