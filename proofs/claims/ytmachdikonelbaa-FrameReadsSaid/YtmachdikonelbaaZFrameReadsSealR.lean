/- Seal as walks want it. -/
import Derived.Test.YtmachdikonelbaaZFrameReadsByWO
import Derived.Test.YtmachdikonelbaaZFrameReadsCrcS
set_option linter.unusedVariables false
namespace Go.Proofs.Ytmachdikonelbaa
open Go.RowKit Go.Proofs.YtmachdikonelbaaW.PrintWords Go.Proofs.YtmachdikonelbaaW.PrintLast Crc
section
variable {w0 W : World} {F : Nat → Prop} {L : List Res}
theorem rds_one {w : World} {q t n c : Nat} {A : Option Addr} {xs : List UInt8} (h : (blk q [.slice A n c] t).holds w) (hn : n = xs.length) (hc : n ≤ c) (hx : Rd w A xs) : Rds w (some ⟨q, 0, none⟩) [xs] := by
  subst hn
  refine ⟨rfl, by simp, fun _ => ⟨_, rfl, fun j p hj => ?_⟩⟩
  match j, hj with
  | 0, hj =>
    obtain rfl : xs = p := by simpa using hj
    refine ⟨[.slice A xs.length c], rfl, ⟨A, c, rfl, hc, hx⟩, fun i u hu => ?_⟩
    match i, hu with
    | 0, hu =>
      obtain rfl : _ = u := by simpa using hu
      have := bkCell h 0 _ rfl
      simpa [kBytes, Kd.slice, Addr.add] using this
theorem sealR_any (HS : St w0 F W L) (A : Option Addr) (n c m : Nat) (l : List (List UInt8)) (hn : n = l.length) (hr : Rds W A l) (hm : (sealB l.flatten).length = m) (hl : m ≤ 140737488355000) :
    Calls Try.prog 21 #[.slice A n c] W fun e w' => ∃ A c, e = .returned (.slice A m c) ∧ St w0 F w' (row kByte rfl 5 (.slice A m c) (sealB l.flatten) :: L) := by
  subst hn
  have h1 := sealB_length l.flatten
  refine (seal_any A c l W hr (by omega)).mono ?_
  rintro e w' ⟨v, rfl, ho, hb⟩
  obtain ⟨A', c', rfl, _⟩ := ho.reads
  rw [hm] at ho ⊢
  exact ⟨A', c', rfl, HS.made hb ho⟩
end
end Go.Proofs.Ytmachdikonelbaa
