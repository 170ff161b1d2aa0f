import Derived.Test.YtnlgilmbmoiniaaWWords
namespace Go.Proofs.YtnlgilmbmoiniaaW.PrintWords
open Go.RowKit
section
variable {P : Program} {ops : Array Oper} {rest : List Oper} {o : Oper} {a : Act} {Q : Exit → Act → World → Prop} {W : World}
end
end Go.Proofs.YtnlgilmbmoiniaaW.PrintWords

