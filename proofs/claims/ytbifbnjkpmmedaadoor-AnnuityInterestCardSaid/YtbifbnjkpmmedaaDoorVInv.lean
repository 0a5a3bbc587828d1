import Derived.Test.YtbifbnjkpmmedaaDoorVTab
namespace Go.Proofs.YtbifbnjkpmmedaaDoorW.PrintLast
/-- Number i is listed too. -/
def up (b : Nat → Bool) (i : Nat) : Nat → Bool := fun j => if j = i then true else b j
end Go.Proofs.YtbifbnjkpmmedaaDoorW.PrintLast
