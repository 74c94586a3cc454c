
/-
  A region that draws its order, where a late store may come up ahead of some loads that it does not touch: two facts are carried, S through every operation, T through all but those of ds. Loads under S may be taken first always, loads under T where each of ds waits for them. No condition.
-/
import Derived.Test.YtellpkihlbbnhaaGreatWTab
namespace Go.Proofs.YtellpkihlbbnhaaGreatTwo
open Go Go.RowKit Go.Proofs.YtellpkihlbbnhaaGreatW.PrintLast Go.Proofs.YtellpkihlbbnhaaGreatW.PrintWords
section
variable {P : Program} {ops : Array Oper} {Q : Exit → Act → World → Prop} {md : Region.Mode} {S T : World → Prop} {ds : List Nat}
end
end Go.Proofs.YtellpkihlbbnhaaGreatTwo
