/- All that the functions are told by holds. -/
import Derived.Test.YtfiakfiocdfpbaaOk
import Derived.KernelRfl
namespace Go.Proofs.Ytfiakfiocdfpbaa.VS
set_option linter.unusedVariables false
open Go.Proofs
theorem nats_ok : ∀ q, q ∈ nats → NatOK Try.prog fid q.1 (natV q.2) := List.forall_mem_nil _
theorem spec_169 : SpecOK Try.prog fid 169 s169 := by
  obtain ⟨fn, h1, h2⟩ := ok_169
  rw [s169_of] at h2
  exact spec_ok (by kernel_rfl) h1 h2 (by kernel_rfl)
theorem specs_ok : ∀ q, q ∈ specs → SpecOK Try.prog fid q.1 q.2 := List.forall_mem_cons.2 ⟨spec_169, List.forall_mem_nil _⟩
theorem env_ok : EnvOK Try.prog fid E := ⟨fun k vf _ h => codes_ok (k, vf) (look_mem h), fun k f h => by
  obtain ⟨g, hg, rfl⟩ := Option.map_eq_some_iff.1 (show (lookN nats k).map natV = some f from h)
  exact nats_ok (k, g) (lookN_mem hg), fun k sf h => specs_ok (k, sf) (lookS_mem h), by kernel_rfl, fun k vf h => List.all_eq_true.1 bases_ok (k, vf) (look_mem h)⟩
end Go.Proofs.Ytfiakfiocdfpbaa.VS
