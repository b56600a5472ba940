import Derived.Test.Qxb6500835aW5
namespace Go.Proofs.Qxb6500835a
end Go.Proofs.Qxb6500835a

