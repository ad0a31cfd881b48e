/- num.product: the two words of the product of two factors up to 2^50. -/
import Derived.Test.YthbfkmgcomomfaaPx0
import Derived.Test.YthbfkmgcomomfaaBits
namespace Go.Proofs.Ythbfkmgcomomfaa.P
open Go.RowKit Go.Proofs.YthbfkmgcomomfaaW.PrintWords Go.Proofs.YthbfkmgcomomfaaW.PrintLast Go.Proofs.YthbfkmgcomomfaaW.PrintMore Go.Proofs.Ythbfkmgcomomfaa.Math
set_option linter.unusedVariables false

def num_product.f (a0 a1 : Int) : Option (Int × Int) :=
  if 0 ≤ a0 ∧ a0 ≤ 1125899906842624 ∧ 0 ≤ a1 ∧ a1 ≤ 1125899906842624 then some (pHi a0 a1, pLo a0 a1) else none

set_option maxHeartbeats 1000000 in
theorem num_product.calls (a0 a1 r1 r2 : Int) (w : World) (h : num_product.f a0 a1 = some (r1, r2)) :
    Calls Try.prog 11 #[.int .u64 a0, .int .u64 a1] w fun e w' => e = .returned (.agg #[.int .u64 r1, .int .u64 r2]) ∧ Below w.heap.size w w' := by
  unfold num_product.f at h
  split at h
  · rename_i hc
    obtain ⟨ha, ha', hb, hb'⟩ := hc
    obtain ⟨rfl, rfl⟩ := Prod.mk.inj (Option.some.inj h)
    clear h
    go_enter Try.func11, Try.ntmps11
    go_wp2
    exact bodyPost_ret (v := .agg #[.int .u64 (pHi a0 a1), .int .u64 (pLo a0 a1)]) (by simp [results, Try.results11, go_sem]; exact ⟨rfl, rfl⟩) rfl ⟨rfl, below_alloc (Below.refl _ _) _⟩
  · cases h
end Go.Proofs.Ythbfkmgcomomfaa.P
