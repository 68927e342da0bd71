/- The print's words, cut down to what the laws' proofs use. -/
import Derived.Test.YthpocifdejedpaaTWWords
namespace Go.Proofs.YthpocifdejedpaaW.PrintWords
end Go.Proofs.YthpocifdejedpaaW.PrintWords
