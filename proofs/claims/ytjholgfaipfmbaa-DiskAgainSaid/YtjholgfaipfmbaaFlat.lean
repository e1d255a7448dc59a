/- Flat kinds. -/
import Derived.Test.YtjholgfaipfmbaaZs0
set_option linter.unusedVariables false
set_option linter.unusedSimpArgs false
namespace Go.Proofs.Ytjholgfaipfmbaa
open Go.RowKit Go.Proofs.YtjholgfaipfmbaaW.PrintWords Go.Proofs.YtjholgfaipfmbaaW.PrintLast
/-- A kind of flat elements. -/
def flatK {α : Type} (sz : Nat) (p : α → List Value → Prop) (hl : ∀ x cs, p x cs → cs.length = sz) (h1 : ∀ x cs, p x cs → ∀ u ∈ cs, u.oneCell' = true) : Kd α where
  sz := sz
  E := []
  K := fun _ x cs => p x cs
  M := fun _ _ _ x cs => p x cs
  K_len := fun h => hl _ _ h
  K_one := fun h => h1 _ _ h
  K_below := fun _ h => h
  K_of_M := fun h => h
  M_mono := fun _ h => h
  M_bound := fun h => h
  M_move := fun _ h => h
  M_lower := fun _ h => h
theorem nums_mem {k : IntKind} {xs : List Int} {u : Value} (h : u ∈ nums k xs) : u.oneCell' = true := by
  unfold nums at h
  obtain ⟨x, -, rfl⟩ := List.mem_map.1 h
  rfl
end Go.Proofs.Ytjholgfaipfmbaa
