import Derived.Test.YtfimffgfnhplkaaGreatDoorS5
set_option maxRecDepth 100000
set_option linter.unusedVariables false
set_option linter.unusedSimpArgs false
namespace Go.Proofs.YtfimffgfnhplkaaGreatDoor.F
open Go Go.RowKit
structure Pat where
 lang : Int
 ops : List Opn
 value : Tree
 mask : List (List ByteArray)
def Pat.zero : Pat := ⟨0, [], Tree.zero, []⟩
def encP (p : Pat) : List AV := vi p.lang :: .row .opn p.ops :: encTree p.value ++ [.row .strs p.mask]
end Go.Proofs.YtfimffgfnhplkaaGreatDoor.F
