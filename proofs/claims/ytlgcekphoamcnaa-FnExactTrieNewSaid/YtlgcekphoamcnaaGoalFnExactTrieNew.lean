/- The pure statement of FnExactTrieNew: over numbers and lists alone. -/
import Derived.Test.YtlgcekphoamcnaaPFnExactTrieNewx2
namespace Go.Proofs.Ytlgcekphoamcnaa.PFnExactTrieNew
open Go.RowKit Go.Proofs.YtlgcekphoamcnaaW.PrintWords Go.Proofs.YtlgcekphoamcnaaW.PrintLast Go.Proofs.YtlgcekphoamcnaaW.PrintMore
def laws_FnExactTrieNew.Goal : Prop := ∃ k, laws_FnExactTrieNew.f k = some true
end Go.Proofs.Ytlgcekphoamcnaa.PFnExactTrieNew
