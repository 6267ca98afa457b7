/- All that the functions are told by holds. -/
import Derived.Test.YtidlpcgcolcfgaaOk
import Derived.Test.YtidlpcgcolcfgaaShelf
import Derived.Test.YtidlpcgcolcfgaaNum
import Derived.KernelRfl
namespace Go.Proofs.Ytidlpcgcolcfgaa.VS
set_option linter.unusedVariables false
open Go.Proofs
theorem says_106 : NatOK Try.prog fid 106 (natV numAddD) := numAdd_ok ⟨Try.f63, Try.func63, by kernel_rfl, by kernel_rfl⟩ numAdd_says
theorem nats_ok : ∀ q, q ∈ nats → NatOK Try.prog fid q.1 (natV q.2) := List.forall_mem_cons.2 ⟨says_106, List.forall_mem_nil _⟩
theorem specs_ok : ∀ q, q ∈ specs → SpecOK Try.prog fid q.1 q.2 := List.forall_mem_nil _
theorem env_ok : EnvOK Try.prog fid E := ⟨fun k vf _ h => codes_ok (k, vf) (look_mem h), fun k f h => by
  obtain ⟨g, hg, rfl⟩ := Option.map_eq_some_iff.1 (show (lookN nats k).map natV = some f from h)
  exact nats_ok (k, g) (lookN_mem hg), fun k sf h => specs_ok (k, sf) (lookS_mem h), by kernel_rfl, fun k vf h => List.all_eq_true.1 bases_ok (k, vf) (look_mem h)⟩
end Go.Proofs.Ytidlpcgcolcfgaa.VS
