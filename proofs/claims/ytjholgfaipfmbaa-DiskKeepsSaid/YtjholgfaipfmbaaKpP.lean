/- DiskKeeps, plain: what each page may have. -/
import Derived.Test.YtjholgfaipfmbaaL4b
set_option linter.unusedVariables false
set_option linter.unusedSimpArgs false
namespace Go.Proofs.Ytjholgfaipfmbaa
open Go.RowKit Go.Proofs.YtjholgfaipfmbaaW.PrintWords Go.Proofs.YtjholgfaipfmbaaW.PrintLast
/-- What pends for a page. -/
def pend (l : List (Int × List Int)) (i : Nat) : List (List Int) := (l.filter (fun x => x.1 == (i : Int))).map (·.2)
/-- The last of some. -/
def lst (xs : List Int) : List Int := xs.drop (xs.length - 1)
theorem lst_cons (c : Int) (l : List Int) : lst (c :: l) = [l.getLast?.getD c] := by
  unfold lst
  induction l generalizing c with
  | nil => rfl
  | cons d l ih =>
    have := ih d
    simp only [List.length_cons] at this ⊢
    rw [show l.length + 1 + 1 - 1 = (l.length + 1 - 1) + 1 by omega, List.drop_succ_cons, this]
    cases l with
    | nil => rfl
    | cons e l =>
      rw [List.getLast?_cons_cons]
      cases h : (e :: l).getLast? with
      | none => simp at h
      | some q => rfl
theorem pend_cons (x : Int × List Int) (l : List (Int × List Int)) (i : Nat) : pend (x :: l) i = if x.1 = (i : Int) then x.2 :: pend l i else pend l i := by
  unfold pend
  rw [List.filter_cons]
  by_cases h : x.1 = (i : Int)
  · rw [if_pos h, if_pos (by simpa using h)]; rfl
  · rw [if_neg h, if_neg (by simpa using h)]
theorem pend_snoc (x : Int × List Int) (l : List (Int × List Int)) (i : Nat) : pend (l ++ [x]) i = if x.1 = (i : Int) then pend l i ++ [x.2] else pend l i := by
  unfold pend
  rw [List.filter_append, List.map_append]
  by_cases h : x.1 = (i : Int)
  · rw [if_pos h]; simp [h]
  · rw [if_neg h]; simp [h]
/-- All sectors stay: the last one of each page. -/
theorem set_sync : ∀ (l : List (Int × List Int)) (k : Nat) (T : List (List Int)) (i : Nat) (c : Int) (ys : List Int), (∀ p ∈ T, p.length = 256) → (∀ x ∈ l, 0 ≤ x.1 ∧ x.1 < T.length ∧ x.2.length = 256) → T[i]? = some (rep c) → pend l i = ys.map rep →
    (settleL (fun _ => 255) k l T)[i]? = some (rep (ys.getLast?.getD c))
  | [], k, T, i, c, ys, _, _, hT, hp => by
    have : ys = [] := by
      have : ys.map rep = [] := hp.symm
      simpa using this
    subst this
    exact hT
  | x :: l, k, T, i, c, ys, h1, h2, hT, hp => by
    have hx := h2 x List.mem_cons_self
    have ho : (T.getD x.1.toNat zpg).length = 256 := by
      rw [List.getD_eq_getElem?_getD, List.getElem?_eq_getElem (by omega)]
      exact h1 _ (List.getElem_mem _)
    unfold settleL
    rw [mix_all ho hx.2.2]
    have h1' : ∀ p ∈ T.set x.1.toNat x.2, p.length = 256 := set_len h1 hx.2.2
    have h2' : ∀ y ∈ l, 0 ≤ y.1 ∧ y.1 < (T.set x.1.toNat x.2).length ∧ y.2.length = 256 := fun y hy => by rw [List.length_set]; exact h2 y (List.mem_cons_of_mem _ hy)
    rw [pend_cons] at hp
    have hi : i < T.length := (List.getElem?_eq_some_iff.1 hT).1
    by_cases e : x.1 = (i : Int)
    · rw [if_pos e] at hp
      cases ys with
      | nil => cases hp
      | cons y ys =>
        simp only [List.map_cons, List.cons.injEq] at hp
        have := set_sync l (k + 1) (T.set x.1.toNat x.2) i y ys h1' h2' (by rw [e, Int.toNat_natCast, List.getElem?_set_self hi, hp.1]) hp.2
        rw [this]
        cases ys with
        | nil => rfl
        | cons z ys => simp [List.getLast?_cons_cons]; cases h : (z :: ys).getLast? with
          | none => simp at h
          | some q => rfl
    · rw [if_neg e] at hp
      exact set_sync l (k + 1) (T.set x.1.toNat x.2) i c ys h1' h2' (by rw [List.getElem?_set_ne (by omega)]; exact hT) hp
/-- Each sector of a page has one of these. -/
def Sect (xs : List Int) (P : List Int) : Prop := P.length = 256 ∧ ∃ f : Nat → Int, (∀ s, s < 8 → f s ∈ xs) ∧ ∀ k, k < 256 → P[k]? = some (f (k / 32))
theorem sect_rep {xs : List Int} {c : Int} (h : c ∈ xs) : Sect xs (rep c) := ⟨rep_len c, fun _ => c, fun _ _ => h, fun k hk => by unfold rep; rw [List.getElem?_replicate, if_pos hk]⟩
theorem sect_mono {xs ys : List Int} {P : List Int} (h : Sect xs P) (hs : ∀ x ∈ xs, x ∈ ys) : Sect ys P := by
  obtain ⟨h1, f, h2, h3⟩ := h
  exact ⟨h1, f, fun s hs' => hs _ (h2 s hs'), h3⟩
theorem sect_mix {xs : List Int} {o : List Int} {y : Int} (m : Int) (ho : Sect xs o) (hy : y ∈ xs) : ∀ q, q ≤ 8 → Sect xs (mixS m o (rep y) q)
  | 0, _ => ho
  | q + 1, hq => by
    have ih := sect_mix m ho hy q (by omega)
    unfold mixS
    split
    · obtain ⟨h1, f, h2, h3⟩ := ih
      generalize hA : mixS m o (rep y) q = A at h1 h3 ⊢
      have e1 : (A.take (q * 32)).length = q * 32 := by rw [List.length_take]; omega
      have e2 : (((rep y).drop (q * 32)).take 32).length = 32 := by rw [List.length_take, List.length_drop, rep_len]; omega
      refine ⟨by rw [List.length_append, List.length_append, e1, e2, List.length_drop]; omega, fun s => if s = q then y else f s, fun s hs => ?_, fun k hk => ?_⟩
      · dsimp only
        split
        · exact hy
        · exact h2 s hs
      · dsimp only
        by_cases c1 : k < q * 32
        · rw [List.append_assoc, List.getElem?_append_left (by omega), List.getElem?_take, if_pos c1, h3 k hk, if_neg (by omega)]
        · by_cases c2 : k < q * 32 + 32
          · rw [List.append_assoc, List.getElem?_append_right (by omega), List.getElem?_append_left (by omega), e1, List.getElem?_take, if_pos (by omega), List.getElem?_drop, if_pos (by omega)]
            unfold rep
            rw [List.getElem?_replicate, if_pos (by omega)]
          · rw [List.getElem?_append_right (by rw [List.length_append]; omega), List.length_append, e1, e2, List.getElem?_drop, show q * 32 + 32 + (k - (q * 32 + 32)) = k by omega, h3 k hk, if_neg (by omega)]
    · exact ih
theorem sect_settle (mask : Nat → Int) : ∀ (l : List (Int × List Int)) (k : Nat) (T : List (List Int)) (i : Nat) (xs : List Int) (o : List Int), (∀ x ∈ l, 0 ≤ x.1) → T[i]? = some o → Sect xs o → (∀ p ∈ pend l i, ∃ y ∈ xs, p = rep y) → ∃ P, (settleL mask k l T)[i]? = some P ∧ Sect xs P
  | [], k, T, i, xs, o, _, hT, ho, _ => ⟨o, hT, ho⟩
  | x :: l, k, T, i, xs, o, h0, hT, ho, hp => by
    have hx := h0 x List.mem_cons_self
    unfold settleL
    rw [pend_cons] at hp
    have hi : i < T.length := (List.getElem?_eq_some_iff.1 hT).1
    by_cases e : x.1 = (i : Int)
    · rw [if_pos e] at hp
      obtain ⟨y, hy, hxy⟩ := hp x.2 List.mem_cons_self
      refine sect_settle mask l (k + 1) _ i xs _ (fun z hz => h0 z (List.mem_cons_of_mem _ hz)) (by rw [e, Int.toNat_natCast, List.getElem?_set_self hi]) ?_ (fun p hp' => hp p (List.mem_cons_of_mem _ hp'))
      rw [List.getD_eq_getElem?_getD, hT, hxy]
      exact sect_mix _ ho hy 8 (Nat.le_refl _)
    · rw [if_neg e] at hp
      exact sect_settle mask l (k + 1) _ i xs o (fun z hz => h0 z (List.mem_cons_of_mem _ hz)) (by rw [List.getElem?_set_ne (by omega)]; exact hT) ho hp
/-- What each page may have. -/
structure KI (np n : Nat) (S : Dk) (M : List (List Int)) : Prop where
  gd : S.good n
  bad : ∀ j, S.bad j = 0
  sl : S.stable.length = np
  ml : M.length = np
  at_ : ∀ (i : Nat) (xs : List Int), M[i]? = some xs → ∃ c l, xs = c :: l ∧ S.stable[i]? = some (rep c) ∧ pend S.pending i = l.map rep
section
variable {np n : Nat} {S : Dk} {M : List (List Int)}
theorem ki_start (hn : np ≤ 60) : KI np 0 (Dk.new (np : Int)) (List.replicate np [0]) := by
  have e : nOf (np : Int) = np := by unfold nOf; split <;> (try split) <;> omega
  refine ⟨good_new _, fun _ => rfl, ?_, List.length_replicate, fun i xs h => ?_⟩
  · show (List.replicate (nOf (np : Int)) zpg).length = np
    rw [List.length_replicate, e]
  · rw [List.getElem?_replicate] at h
    split at h
    · rename_i hi
      obtain rfl : [0] = xs := Option.some.inj h
      refine ⟨0, [], rfl, ?_, rfl⟩
      show (List.replicate (nOf (np : Int)) zpg)[i]? = some (rep 0)
      rw [List.getElem?_replicate, if_pos (by omega)]
      rfl
    · cases h
theorem ki_more (h : KI np n S M) : KI np (n + 1) S M := ⟨h.gd.mono (Nat.le_succ _), h.bad, h.sl, h.ml, h.at_⟩
theorem ki_same (h : KI np n S M) {T : Dk} (hg : T.good n) (hb : T.bad = S.bad) (hs : T.stable = S.stable) (hp : T.pending = S.pending) : KI np n T M := ⟨hg, fun j => by rw [hb]; exact h.bad j, by rw [hs]; exact h.sl, h.ml, fun i xs hx => by rw [hs, hp]; exact h.at_ i xs hx⟩
theorem ki_act (h : KI np n S M) : KI np n S.act M := ki_same h (good_act h.gd) act_bad act_stable act_pending
theorem ki_cut (h : KI np n S M) (a : Int) (ha : a < 9223372036854775808) : KI np n (S.cut a) M := ki_same h (good_cut h.gd a ha) rfl rfl rfl
theorem writeE_zero {a : Int} (h : S.writeE a = 0) : S.there a = true ∧ S.acts = true := by
  unfold Dk.writeE at h
  split at h
  · rename_i ht
    refine ⟨ht, ?_⟩
    rw [actE_eq] at h
    split at h
    · assumption
    · cases h
  · cases h
theorem kw_split (kd aa : Int) (S : Dk) : (kd = 0 ∧ S.writeE aa = 0 ∧ ∃ q : Nat, aa = (q : Int) ∧ q < S.stable.length) ∨ (kd = 0 ∧ S.writeE aa ≠ 0) ∨ kd ≠ 0 := by
  by_cases h : kd = 0
  · by_cases h2 : S.writeE aa = 0
    · have ht := there_in (writeE_zero h2).1
      exact .inl ⟨h, h2, aa.toNat, by omega, by omega⟩
    · exact .inr (.inl ⟨h, h2⟩)
  · exact .inr (.inr h)
theorem ki_write (h : KI np n S M) {q : Nat} (he : S.writeE (q : Int) = 0) (b : Int) {xs : List Int} (hx : M[q]? = some xs) : KI np (n + 1) (S.write (q : Int) (rep b)) (M.set q (xs ++ [b])) := by
  obtain ⟨ht, ha⟩ := writeE_zero he
  have hq : q < M.length := (List.getElem?_eq_some_iff.1 hx).1
  have hg := good_write h.gd (q : Int) (rep_len b)
  have e : S.write (q : Int) (rep b) = { S.act with pending := S.act.pending ++ [((q : Int), rep b)] } := by unfold Dk.write; rw [if_pos ht, if_pos ha]
  refine ⟨hg, fun j => ?_, ?_, by rw [List.length_set]; exact h.ml, fun i ys hy => ?_⟩
  · rw [e]; show S.act.bad j = 0; rw [act_bad]; exact h.bad j
  · rw [wr_stable]; exact h.sl
  · rw [wr_stable, e]
    show ∃ c l, ys = c :: l ∧ S.stable[i]? = some (rep c) ∧ pend (S.act.pending ++ [((q : Int), rep b)]) i = l.map rep
    rw [act_pending, pend_snoc]
    by_cases c : q = i
    · subst c
      rw [List.getElem?_set_self hq] at hy
      obtain rfl : xs ++ [b] = ys := Option.some.inj hy
      obtain ⟨c, l, rfl, h2, h3⟩ := h.at_ q xs hx
      refine ⟨c, l ++ [b], rfl, h2, ?_⟩
      rw [if_pos rfl, h3, List.map_append]
      rfl
    · rw [List.getElem?_set_ne c] at hy
      obtain ⟨c', l, h1, h2, h3⟩ := h.at_ i ys hy
      exact ⟨c', l, h1, h2, by rw [if_neg (by show ¬ (q : Int) = (i : Int); omega)]; exact h3⟩
theorem ki_nowrite (h : KI np n S M) {a : Int} (he : S.writeE a ≠ 0) (p : List Int) : KI np (n + 1) (S.write a p) M := by
  refine ki_more ?_
  unfold Dk.write
  split
  · rename_i ht
    split
    · rename_i ha
      exact absurd (by unfold Dk.writeE; rw [if_pos ht, actE_eq, if_pos ha]) he
    · exact ki_act h
  · exact h
theorem ki_sync (h : KI np n S M) (he : S.actE = 0) : KI np n S.sync (M.map lst) := by
  have ha : S.acts = true := by
    rw [actE_eq] at he
    split at he
    · assumption
    · cases he
  have e : S.sync = S.act.settle (fun _ => 255) := by unfold Dk.sync; rw [if_pos ha]
  have hg := good_act h.gd
  refine ⟨good_sync h.gd, fun j => ?_, by rw [sy_length h.gd]; exact h.sl, by rw [List.length_map]; exact h.ml, fun i ys hy => ?_⟩
  · rw [e]; show S.act.bad j = 0; rw [act_bad]; exact h.bad j
  · rw [List.getElem?_map] at hy
    obtain ⟨xs, hx, rfl⟩ := Option.map_eq_some_iff.1 hy
    obtain ⟨c, l, rfl, h2, h3⟩ := h.at_ i xs hx
    refine ⟨l.getLast?.getD c, [], lst_cons c l, ?_, by rw [e]; rfl⟩
    rw [e]
    show (settleL (fun _ => 255) 0 S.act.pending S.act.stable)[i]? = _
    exact set_sync _ _ _ i c l hg.ok.1 hg.ok.2.2.2.2 (by rw [act_stable]; exact h2) (by rw [act_pending]; exact h3)
theorem ki_nosync (h : KI np n S M) (he : S.actE ≠ 0) : KI np n S.sync M := by
  have ha : ¬ S.acts = true := fun ha => he (by rw [actE_eq, if_pos ha])
  unfold Dk.sync
  rw [if_neg ha]
  exact ki_act h
/-- Behind the crash. -/
theorem ki_crash (h : KI np n S M) (keep : List Int) {i : Nat} {xs : List Int} (hx : M[i]? = some xs) : (S.crash keep).readE (i : Int) = 0 ∧ Sect xs ((S.crash keep).readP (i : Int)) := by
  obtain ⟨c, l, rfl, h2, h3⟩ := h.at_ i xs hx
  obtain ⟨P, hP, hs⟩ := sect_settle (maskOf keep) S.pending 0 S.stable i (c :: l) (rep c) (fun x hx => (h.gd.ok.2.2.2.2 x hx).1) h2 (sect_rep List.mem_cons_self) (fun p hp => by
    rw [h3] at hp
    obtain ⟨y, hy, rfl⟩ := List.mem_map.1 hp
    exact ⟨y, List.mem_cons_of_mem _ hy, rfl⟩)
  have hP' : (S.crash keep).stable[i]? = some P := hP
  have hlt := (List.getElem?_eq_some_iff.1 hP').1
  have ht : (S.crash keep).there (i : Int) = true := by unfold Dk.there; exact decide_eq_true ⟨by omega, by omega⟩
  have hb : ¬ 0 < (S.crash keep).bad (i : Int) := by
    show ¬ 0 < S.bad (i : Int)
    rw [h.bad]; decide
  unfold Dk.readE Dk.readP
  rw [if_pos ht, if_pos ht, if_neg hb, if_neg hb]
  refine ⟨rfl, ?_⟩
  show Sect (c :: l) ((S.crash keep).at (i : Int))
  unfold Dk.at
  rw [Int.toNat_natCast, List.getD_eq_getElem?_getD, hP']
  exact hs
theorem sect_at {xs P : List Int} (h : Sect xs P) {k : Nat} (hk : k < 256) : P.getD k 0 ∈ xs ∧ P.getD (k / 32 * 32) 0 = P.getD k 0 := by
  obtain ⟨h1, f, h2, h3⟩ := h
  have e1 : P.getD k 0 = f (k / 32) := by rw [List.getD_eq_getElem?_getD, h3 k hk]; rfl
  have e2 : P.getD (k / 32 * 32) 0 = f (k / 32) := by rw [List.getD_eq_getElem?_getD, h3 (k / 32 * 32) (by omega), show k / 32 * 32 / 32 = k / 32 by omega]; rfl
  exact ⟨by rw [e1]; exact h2 _ (by omega), by rw [e1, e2]⟩
end
end Go.Proofs.Ytjholgfaipfmbaa
