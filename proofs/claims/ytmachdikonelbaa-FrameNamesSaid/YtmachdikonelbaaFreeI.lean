/- A region whose order is open, by one relation over what has come up so far. -/
import Derived.Test.YtmachdikonelbaaFreeW
namespace Go.Proofs.Ytmachdikonelbaa
open Go.RowKit Go.Proofs.YtmachdikonelbaaW.PrintWords Go.Proofs.YtmachdikonelbaaW.PrintLast

/-- Each operation's destination stands in the list, or it has none. -/
def dstOk (ops : Array Oper) (D : List (Nat × Tmp)) (n : Nat) : Bool := (D.all fun e => Nat.blt e.1 n) && (List.range n).all fun i => match (ops[i]?).map (·.dst) with
  | some (some t) => D.contains (i, t)
  | some none => D.all fun e => !(e.1 == i)
  | none => false
section
variable {P : Program} {ops : Array Oper} {Q : Exit → Act → World → Prop}
theorem free_inv {id n : Nat} {a0 : Act} {w0 : World} {T : Bool × List (List Nat × List Nat)} (B : List Nat) (D : List (Nat × Tmp)) (G : (Nat → Bool) → (Nat → Value) → World → Prop) (hm : P.follows .mixedOrders = true) (hn : ops.size = n)
    (hT : rtab .any ops = T) (hw : waitsOk T.2 B = true) (hk : baseOk T.2 (List.range n) = true) (hl : T.2.length = n) (hD : dstOk ops D n = true) (hfree : freeOk D a0.tmps.size = true)
    (h0 : G (fun _ => false) (fun _ => undef) w0.drew)
    (hstep : ∀ i ∈ List.range n, ∀ b vs a w, G b vs w → b i = false → (∀ j, ((List.range n).contains j && (B.getD i 0).testBit j) = true → b j = true) → (∀ j, ((List.range n).contains j && (B.getD j 0).testBit i) = true → b j = false) →
      (∀ t, (D.all fun e => !(e.2 == t)) = true → a.tmps[t]? = a0.tmps[t]?) → (∀ e ∈ D, b e.1 = true → a.tmps[e.2]? = some (vs e.1)) →
      ∃ oi, ops[i]? = some oi ∧ ∀ K : Act → World → Prop, (∀ v w', G (up b i) (fun j => if j = i then v else vs j) w' → K (a.put oi.dst v) w') → if Region.wanted oi (yielded ops a.tmps) = true then Oper.wp P oi a w K Q else K (a.put oi.dst undef) w)
    (hend : ∀ b (vs : Nat → Value) w, (∀ j, (List.range n).contains j = true → b j = true) → G b vs w → Q .normal (putSel a0 (fun _ => true) (tells D vs)) w) : (Code.region id ops true).wp P Q a0 w0 := by
  simp only [freeOk, Bool.and_eq_true, decide_eq_true_eq] at hfree
  obtain ⟨⟨hn1, hn2⟩, hsz⟩ := hfree
  unfold dstOk at hD
  rw [Bool.and_eq_true] at hD
  obtain ⟨hDn, hD⟩ := hD
  have hsz' : ∀ e ∈ D, e.2 < a0.tmps.size := fun e he => Nat.le_of_ble_eq_true (List.all_eq_true.1 hsz e he)
  refine start_ (n := n) (S := fun _ => True) (ds := []) (Array.replicate n false) hm hn rfl trivial (fun _ => ?_)
  refine inv_ (T := T) (B := B) (List.range n) (fun b a w => ∃ vs : Nat → Value, a = putSel a0 b (tells D vs) ∧ G b vs w) hT hw hk ?_ ?_ ?_ ?_
  · rw [hl]
    rw [Bool.and_eq_true]
    constructor
    · rw [beq_iff_eq]
      apply List.ext_getElem?
      intro j
      simp only [lof]
      by_cases hj : j < n
      · simp [hj]
      · simp [hj]
    · simp
  · refine ⟨fun _ => undef, ?_, h0⟩
    have : ∀ (L : List (Nat × Tmp × Value)) (a : Act), putSel a (fun _ => false) L = a := by
      intro L
      induction L with
      | nil => intro a; rfl
      | cons x L ih => intro a; show putSel (if (false : Bool) = true then _ else a) _ L = a; exact ih a
    exact (this _ _).symm
  · intro i hi b a w hI hb hon hoff
    obtain ⟨vs, rfl, hG⟩ := hI
    obtain ⟨oi, ho, hok⟩ := hstep i hi b vs (putSel a0 b (tells D vs)) w hG hb hon hoff (fun t h => putSel_elder h) (fun e he hbe => putSel_val hn2 e he (hsz' e he) hbe)
    refine ⟨oi, ho, fun K hK => hok K (fun v w' hG' => hK _ _ ⟨_, ?_, hG'⟩)⟩
    have h1 := List.all_eq_true.1 hD i hi
    rw [ho] at h1
    simp only [Option.map_some] at h1
    cases hd : oi.dst with
    | some t =>
      rw [hd] at h1
      exact tells_up hn1 hn2 (List.contains_iff_mem.1 h1) hb
    | none =>
      rw [hd] at h1
      have h2 : ∀ e ∈ D, e.1 ≠ i := fun e he => by have := List.all_eq_true.1 h1 e he; simpa using this
      show putSel a0 b (tells D vs) = _
      have h3 : tells D (fun j => if j = i then v else vs j) = tells D vs := by
        unfold tells
        refine List.map_congr_left (fun e he => ?_)
        simp [h2 e he]
      rw [h3]
      refine (putSel_same ?_).symm
      rw [List.all_eq_true]
      intro y hy
      obtain ⟨z, hz, rfl⟩ := List.mem_map.1 hy
      simpa using h2 z hz
  · intro b a w hall hI
    obtain ⟨vs, rfl, hG⟩ := hI
    have hb : ∀ e ∈ D, b e.1 = true := fun e he => by
      refine hall e.1 ?_
      have := List.all_eq_true.1 hDn e he
      have h5 : e.1 + 1 ≤ n := by simpa [Nat.blt] using this
      have h4 : e.1 < n := h5
      simpa using h4
    have hall2 : ∀ (L : List (Nat × Tmp)) (a : Act), (∀ e ∈ L, b e.1 = true) → putSel a b (tells L vs) = putSel a (fun _ => true) (tells L vs) := by
      intro L
      induction L with
      | nil => intro a _; rfl
      | cons x L ih =>
        intro a h
        show putSel (if b x.1 = true then _ else a) b (tells L vs) = putSel (if true = true then _ else a) _ (tells L vs)
        rw [if_pos (h x List.mem_cons_self), if_pos rfl]
        exact ih _ (fun e he => h e (List.mem_cons_of_mem _ he))
    rw [hall2 D a0 hb]
    exact hend b vs w hall hG
end
end Go.Proofs.Ytmachdikonelbaa
