/- Helper texts of this seat; nothing is claimed here. -/
import Derived.Test.YtljpfogplcdcjaaVWTab
import Derived.Test.YtljpfogplcdcjaaVWN
import Derived.Test.YtljpfogplcdcjaaVWWords
import Derived.Test.YtljpfogplcdcjaaVWLast
namespace Go.Proofs.YtljpfogplcdcjaaW.PrintLast
section
variable {P : Program} {ops : Array Oper} {Q : Exit → Act → World → Prop} {md : Region.Mode} {S : World → Prop} {ds : List Nat} {T : Bool × List (List Nat × List Nat)}
end
end Go.Proofs.YtljpfogplcdcjaaW.PrintLast
namespace Go.Proofs.YtljpfogplcdcjaaW.PrintWords
open Go.RowKit
namespace Kd
section
variable {α : Type} {d : Kd α} {W : World} {g n : Nat} {S ok : Nat → Prop} {A : Option Addr} {ad : Addr} {xs : List α}
end
end Kd
end Go.Proofs.YtljpfogplcdcjaaW.PrintWords
namespace Go.Proofs.YtljpfogplcdcjaaW.PrintLast
section
variable {P : Program} {ops : Array Oper} {Q : Exit → Act → World → Prop} {md : Region.Mode} {T : Bool × List (List Nat × List Nat)} {B : List Nat} {O : List Nat} {b : Nat → Bool} {i j n : Nat}
end
end Go.Proofs.YtljpfogplcdcjaaW.PrintLast
namespace Go.Proofs.YtljpfogplcdcjaaW.PrintWords
open Go.RowKit
end Go.Proofs.YtljpfogplcdcjaaW.PrintWords
namespace Go.Proofs.YtljpfogplcdcjaaW.PrintLast
section
variable {ops : Array Oper} {a : Act} {o og : Oper} {g : Nat} {t : Tmp} {u : Bool}
end
end Go.Proofs.YtljpfogplcdcjaaW.PrintLast
namespace Go.Proofs.YtljpfogplcdcjaaW.PrintWords
open Go.RowKit
namespace Kd
section
variable {α : Type} {d : Kd α} {e base g o n cap : Nat} {ok okp : Nat → Prop} {w W : World} {v : Value} {xs : List α}
end
section
variable {α : Type} {enc : α → Value} {h1 : ∀ x, (enc x).oneCell' = true} {e base g o n cap : Nat} {ok : Nat → Prop} {W : World} {xs : List α}
end
end Kd
end Go.Proofs.YtljpfogplcdcjaaW.PrintWords
namespace Go.Proofs.YtljpfogplcdcjaaW.PrintWords
open Go.RowKit
section
variable {w w' u : World} {m B g : Nat} {o : Obj} {row : Option Nat} {S : Nat → Prop} {a : Addr} {v : Value}
end
namespace Kd
section
variable {α : Type} {d : Kd α} {e base n m : Nat} {ok : Nat → Prop} {w w' : World} {v : Value} {A : Option Addr} {xs : List α}
end
end Kd
end Go.Proofs.YtljpfogplcdcjaaW.PrintWords
