import Derived.Test.YtglpmjcknhcjcaaWTab
namespace Go.Proofs.YtglpmjcknhcjcaaW.PrintLast
section
variable {P : Program} {ops : Array Oper} {Q : Exit → Act → World → Prop} {md : Region.Mode} {S : World → Prop} {ds : List Nat} {T : Bool × List (List Nat × List Nat)}
end
end Go.Proofs.YtglpmjcknhcjcaaW.PrintLast

