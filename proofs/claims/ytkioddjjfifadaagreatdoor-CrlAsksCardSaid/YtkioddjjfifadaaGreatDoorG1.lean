/- law13's 'live' in the printed form. -/
import Derived.Test.YtkioddjjfifadaaGreatDoorHc3
namespace Go.Proofs.YtkioddjjfifadaaGreatDoor.P
open Go.RowKit Go.Proofs.YtkioddjjfifadaaGreatDoorW.PrintWords Go.Proofs.YtkioddjjfifadaaGreatDoorW.PrintLast Go.Proofs.YtkioddjjfifadaaGreatDoorW.PrintMore
def chirographlaw13_live.f : Option Bool := some true
theorem chirographlaw13_live.calls (r : Bool) (w : World) (h : chirographlaw13_live.f = some r) :
    Calls Tryz.prog 19 #[] w fun e w' => e = .returned (.bool r) ∧ Below w.heap.size w w' := by
  obtain rfl := Option.some.inj h
  exact law13_live w
end Go.Proofs.YtkioddjjfifadaaGreatDoor.P
