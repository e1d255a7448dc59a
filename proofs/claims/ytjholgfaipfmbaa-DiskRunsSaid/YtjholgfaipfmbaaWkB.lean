/- Rows of bytes that begin anywhere in a block. -/
import Derived.Test.YtjholgfaipfmbaaWkA
set_option linter.unusedVariables false
set_option linter.unusedSimpArgs false
namespace Go.Proofs.Ytjholgfaipfmbaa
open Go.RowKit Go.Proofs.YtjholgfaipfmbaaW.PrintWords Go.Proofs.YtjholgfaipfmbaaW.PrintLast
section
variable {w0 w : World} {F : Nat → Prop} {L : List Res} {r s : Res}
theorem St.alter (h : St w0 F w (r :: L)) (hs : s.holds w) (hf : ∀ b, s.foot b → r.foot b) : St w0 F w (s :: L) := h.turn rfl rfl rfl (Kept.refl _ _) hs (fun b hb => .inl (hf b hb))
end
/-- A row of bytes that begins anywhere in its block. -/
def orow (e : TypeId) (v : Value) (xs : List Int) : Res where
  foot b := v.ownBlock = some b
  holds w := ∃ g k c cs, v = .slice (some ⟨g, k, none⟩) xs.length c ∧ w.heap[g]? = some (.cells (List.toArray cs) e (0, 0)) ∧ xs.length ≤ c ∧ k + c ≤ cs.length ∧ c ≤ maxLen ∧ (cs.drop k).take xs.length = nums .u8 xs
  keep := fun {w w'} hk ⟨g, k, c, cs, hv, hg, h⟩ => by
    have hlt := (Array.getElem?_eq_some_iff.1 hg).1
    exact ⟨g, k, c, cs, hv, (hk g (by rw [hv]; rfl) hlt).trans hg, h⟩
  lt := fun {w} ⟨g, k, c, cs, hv, hg, h⟩ b hb => by
    have hlt := (Array.getElem?_eq_some_iff.1 hg).1
    rw [hv] at hb
    have : g = b := Option.some.inj hb
    omega
section
variable {w0 w : World} {F : Nat → Prop} {L : List Res} {e g k n c : Nat} {v : Value} {xs ys : List Int} {cs : List Value}
theorem orow_open (h : (orow e v xs).holds w) : ∃ g k c, v = .slice (some ⟨g, k, none⟩) xs.length c ∧ xs.length ≤ c ∧ (Kd.int .u8).C w (some ⟨g, k, none⟩) xs.length xs := by
  obtain ⟨g, k, c, cs, hv, hg, h1, h2, h3, h4⟩ := h
  unfold maxLen at h3
  refine ⟨g, k, c, hv, h1, rfl, by omega, fun _ => ⟨_, rfl, fun j p hj => ⟨[.int .u8 p], rfl, rfl, fun i u hu => ?_⟩⟩⟩
  have hi : i = 0 := by
    rcases i with _ | i
    · rfl
    · simp at hu
  subst hi
  have hu' : u = .int .u8 p := by simpa using hu.symm
  subst hu'
  have hsz : (Kd.int .u8).sz = 1 := rfl
  rw [hsz, Nat.mul_one, Nat.add_zero]
  exact bkCells (cs := cs) (t0 := e) (show (blk g cs e).holds w from hg) k (nums .u8 xs) (by rw [nums_length]; exact h4) j (.int .u8 p) (by unfold nums; rw [List.getElem?_map, hj]; rfl)
theorem orow_one (h : (orow e v xs).holds w) : v.oneCell' = true := by
  obtain ⟨g, k, c, cs, rfl, -⟩ := h
  rfl
theorem orow_blk (h : (blk g (nums .u8 xs) e).holds w) (hm : xs.length ≤ 9223372036854775807) : (orow e (.slice (some ⟨g, 0, none⟩) xs.length xs.length) xs).holds w :=
  ⟨g, 0, xs.length, nums .u8 xs, rfl, h, Nat.le_refl _, by rw [nums_length]; omega, by unfold maxLen; omega, by rw [List.drop_zero, List.take_of_length_le (by rw [nums_length]; omega)]⟩
/-- The row from its q-th element on. -/
theorem orow_from {q : Nat} (h : (orow e (.slice (some ⟨g, k, none⟩) n c) xs).holds w) (hq : q ≤ n) : n = xs.length ∧ (orow e (.slice (some ⟨g, k + q, none⟩) (n - q) (c - q)) (xs.drop q)).holds w := by
  obtain ⟨g', k', c', cs, hv, hg, h1, h2, h3, h4⟩ := h
  injection hv with hv hn hc
  injection hv with hv
  injection hv with hv hk
  subst hv hk hn hc
  refine ⟨rfl, g, k + q, c - q, cs, by rw [List.length_drop], hg, by rw [List.length_drop]; omega, by omega, by omega, ?_⟩
  have : ((cs.drop k).take xs.length).drop q = (nums .u8 xs).drop q := by rw [h4]
  rw [List.drop_take, List.drop_drop] at this
  rw [List.length_drop, this]
  simp [nums, List.map_drop]
variable {P : Program} {ops : Array Oper} {Q : Exit → Act → World → Prop} {rest : List Oper} {l : List Value} {d ty t m : Nat} {pos : String} {after : Array Edge} {x y : Operand}
/-- append(v, ys...) -/
theorem St.wAppO {A : Option Addr} (HS : St w0 F w (orow e v xs :: L)) (ht : P.underlying t = some (.slice e)) (hinfo : (P.info? e).map (fun i => (i.zero, i.size, i.bytes)) = some (some (.int .u8 0), 1, 1)) (hs : evl l x = v) (hx : evl l y = .slice A m c) (ys : List Int) (hy : ys ≠ []) (hr : (Kd.int .u8).C w A m ys) (hl : xs.length + ys.length ≤ 140737488355328)
    (hk : ∀ v' w', St w0 F w' (orow e v' (xs ++ ys) :: L) → wpList P ops Q rest (fr (l.set d v')) w') : wpList P ops Q (⟨some d, .call { callee := .builtin .append, args := #[x, y], argTypes := #[t, t] }, ty, pos, after, none⟩ :: rest) (fr l) w := by
  obtain ⟨g, k, c0, cs, rfl, hg, h1, h2, h3, h4⟩ := HS.hs.head
  have hm : m = ys.length := hr.1.symm
  have hy0 : ys.length ≠ 0 := fun h => hy (List.eq_nil_of_length_eq_zero h)
  obtain ⟨ad, rfl, hc⟩ := hr.2.2 (by omega)
  have HB : St w0 F w (blk g cs e :: L) := HS.alter (show (blk g cs e).holds w from hg) (fun b hb => by have : b = g := hb; subst this; rfl)
  have hlen : (nums .u8 (xs ++ ys)).length = xs.length + ys.length := by rw [nums_length, List.length_append]
  refine St.wApp2 HB (.int .u8 0) 1 1 ht hinfo rfl (by decide) (nums .u8 xs) (nums .u8 ys) hs hx (by rw [nums_length]; omega) (by rw [nums_length]; exact h4) (by rw [nums_length]; omega) (fun j u hu => ?_) (nums_one _ _) (by omega) (by omega) (by omega) (fun hroom w' h => ?_) (fun hgrow v' w' ho hb => ?_)
  · unfold nums at hu
    rw [List.getElem?_map] at hu
    obtain ⟨p, hp, rfl⟩ := Option.map_eq_some_iff.1 hu
    obtain ⟨c', hs', hr', hcell⟩ := hc j p hp
    have := hcell 0 (.int .u8 p) (by rw [show c' = [.int .u8 p] from hr']; rfl)
    have hsz : (Kd.int .u8).sz = 1 := rfl
    rwa [hsz, Nat.mul_one, Nat.add_zero] at this
  · refine hk _ _ (h.alter ⟨g, k, c0, lay cs (k + xs.length * 1) (nums .u8 ys), by rw [List.length_append, hm], h.hs.head, by rw [List.length_append]; omega, by rw [lay_length _ _ _ (by rw [nums_length]; omega)]; exact h2, h3, ?_⟩ (fun b hb => (Option.some.inj hb).symm))
    unfold lay
    rw [Nat.mul_one, List.append_assoc, List.drop_append_of_le_length (by rw [List.length_take]; omega), List.drop_take, Nat.add_sub_cancel_left, h4, ← List.append_assoc, List.length_append]
    have e2 : nums .u8 xs ++ nums .u8 ys = nums .u8 (xs ++ ys) := by simp [nums]
    rw [e2, ← List.length_append, List.take_left' (by rw [nums_length])]
  · rcases ho.2 with ⟨-, h0⟩ | ⟨g', cap', cur, rfl, hge, hg', hnc, hcm, hcs, htake⟩
    · omega
    · have e2 : nums .u8 xs ++ nums .u8 ys = nums .u8 (xs ++ ys) := by simp [nums]
      refine hk _ _ (HS.drop.fresh hb ⟨g', 0, cap', cur.toList, by rw [List.length_append, hm], by simpa using hg', by rw [List.length_append]; omega, by show 0 + cap' ≤ cur.toList.length; rw [Array.length_toList, hcs]; omega, hcm, ?_⟩ (fun b hb => by have h5 : some g' = some b := hb; injection h5 with h5; omega))
      rw [List.drop_zero, List.length_append, ← hm, ← e2]
      rw [Nat.mul_one] at htake
      exact htake
end
end Go.Proofs.Ytjholgfaipfmbaa
