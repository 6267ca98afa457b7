/- All that the functions are told by holds. -/
import Derived.Test.YtcffalienbbohaaOk
import Derived.Test.YtcffalienbbohaaShelf
import Derived.Test.YtcffalienbbohaaNum
import Derived.KernelRfl
namespace Go.Proofs.Ytcffalienbbohaa.VS
set_option linter.unusedVariables false
open Go.Proofs
theorem says_106 : NatOK Try.prog fid 106 (natV numAddD) := numAdd_ok ⟨Try.f54, Try.func54, by kernel_rfl, by kernel_rfl⟩ numAdd_says
theorem says_93 : NatOK Try.prog fid 93 (natV joinD) := join_ok ⟨Try.f81, Try.func81, by kernel_rfl, by kernel_rfl⟩ ⟨Try.strings_Join_none, Try.strings_Join⟩
theorem nats_ok : ∀ q, q ∈ nats → NatOK Try.prog fid q.1 (natV q.2) := List.forall_mem_cons.2 ⟨says_106, List.forall_mem_cons.2 ⟨says_93, List.forall_mem_nil _⟩⟩
theorem env_ok : EnvOK Try.prog fid E := ⟨fun k vf _ h => codes_ok (k, vf) (look_mem h), fun k f h => by
  obtain ⟨g, hg, rfl⟩ := Option.map_eq_some_iff.1 (show (lookN nats k).map natV = some f from h)
  exact nats_ok (k, g) (lookN_mem hg), by kernel_rfl⟩
end Go.Proofs.Ytcffalienbbohaa.VS
