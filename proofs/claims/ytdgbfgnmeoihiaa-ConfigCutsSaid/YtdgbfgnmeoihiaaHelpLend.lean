/- A lent row: the value that a law holds is the whole row, cut by its two spare cells. -/
import Derived.Test.YtdgbfgnmeoihiaaWLast
import Derived.Test.YtdgbfgnmeoihiaaWMore
namespace Go.Proofs.Ytdgbfgnmeoihiaa.Ld
open Go Go.RowKit Go.Proofs.YtdgbfgnmeoihiaaW.PrintWords Go.Proofs.YtdgbfgnmeoihiaaW.PrintLast Go.Proofs.YtdgbfgnmeoihiaaW.PrintMore
def cut2 : Value → Value
  | .slice A n c => .slice A (n - 2) c
  | v => v
theorem cut2_slice (A : Option Addr) (n c : Nat) : cut2 (.slice A n c) = .slice A (n - 2) c := rfl
variable {P : Program}
theorem cut_cap (t e : TypeId) (kh : IntKind) {i : TypeInfo} (ht : P.underlying t = some (.slice e)) (hi : P.info? e = some i) (A : Option Addr) (n c : Nat) (j : Int) (h0 : 0 ≤ j) (hc : j ≤ c) :
    ∀ W : World, (Instr.slice t (.slice A n c) none (some (.int kh j)) none).run P W = .ok (.slice A j.toNat c) W := by
  intro W
  have hel : P.elem t = e := by simp [Program.elem, ht]
  have hu : P.underlying t = some (.slice (P.elem t)) := by rw [hel]; exact ht
  have ha : (A.map fun x => x.add 0) = A := by cases A <;> simp [Addr.add]
  rw [run_slice_h W t A n c hu kh j h0 (by omega), hel]
  simp [sizeOf, typeInfo, hi, sliced, Result.andThen, ha]
end Go.Proofs.Ytdgbfgnmeoihiaa.Ld
