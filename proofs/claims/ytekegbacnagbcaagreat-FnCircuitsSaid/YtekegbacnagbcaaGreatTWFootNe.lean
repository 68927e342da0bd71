/- The print's words, cut down to what the laws' proofs use. -/
import Derived.Test.YtekegbacnagbcaaGreatTWN
namespace Go.Proofs.YtekegbacnagbcaaGreatW.PrintWords
open Go.RowKit
namespace Kd
section
variable {α:Type} {d:Kd α} {W:World} {g n:Nat} {S ok:Nat→Prop} {A:Option Addr} {ad:Addr} {xs:List α}
end
end Kd
end Go.Proofs.YtekegbacnagbcaaGreatW.PrintWords
