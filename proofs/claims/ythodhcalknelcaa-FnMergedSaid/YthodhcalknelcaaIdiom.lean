/-
  What walks over '[]byte(s)' need of the library, by name. No condition.
-/
import Derived.Laws.IdiomStrings
import Derived.Laws.BytesArg
namespace Go.Proofs.YthodhcalknelcaaIdiom
end Go.Proofs.YthodhcalknelcaaIdiom
