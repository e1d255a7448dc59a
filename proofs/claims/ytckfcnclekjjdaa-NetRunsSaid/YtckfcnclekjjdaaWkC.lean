/- xs[i:j:k]; clear; a row of flat elements as a block. -/
import Derived.Test.YtckfcnclekjjdaaWkB
set_option linter.unusedVariables false
set_option linter.unusedSimpArgs false
namespace Go.Proofs.Ytckfcnclekjjdaa
open Go.RowKit Go.Proofs.YtckfcnclekjjdaaW.PrintWords Go.Proofs.YtckfcnclekjjdaaW.PrintLast
/-- xs[lo:hi:mx] of a slice. -/
theorem x_slice3 {P : Program} {w : World} {ρ : Operand → Value} {o : Oper} {x yl yh ym : Operand} {t e n c sz lo hi mx : Nat} {A : Option Addr} (A' : Option Addr) (ho : o.op = .slice t x (some yl) (some yh) (some ym)) (hx : ρ x = .slice A n c) (hu : P.underlying t = some (.slice e)) (hz : (P.info? e).map (·.size) = some sz)
    {k1 k2 k3 : IntKind} (hL : ρ yl = .int k1 (lo : Int)) (hH : ρ yh = .int k2 (hi : Int)) (hM : ρ ym = .int k3 (mx : Int)) (h1 : lo ≤ hi) (h2 : hi ≤ mx) (h3 : mx ≤ c) (hA : (if mx = lo then A else A.map (·.add (lo * sz))) = A') : (execOp ρ o).run P w = .ok (.value (.slice A' (hi - lo) (mx - lo))) w := by
  subst hA
  cases hq : P.info? e with
  | none => simp [hq] at hz
  | some i' =>
    have hs : i'.size = sz := by simpa [hq] using hz
    have key : ∀ (y : Operand) (k : IntKind) (m b : Nat) (code : BoundsCode), ρ y = .int k (m : Int) → m ≤ b → (Instr.sliceBound (ρ y) b code).run P w = .ok m w := by
      intro y k m b code e1 e4
      have h5 : (m : Int) ≤ (b : Int) := by omega
      have h6 : (0 : Int) ≤ (m : Int) := by omega
      simp [Instr.sliceBound, e1, asIntOf, Sem.run_bind, h5, h6, e4]
    simp [execOp, ho, hx, Instr.sliceAt, Instr.slice, underlying, hu, Sem.run_bind, Instr.sliceBounds, sizeOf, typeInfo, hq, hs, key _ _ lo _ _ hL h1, key _ _ hi _ _ hH h2, key _ _ mx _ _ hM h3]
section
variable {P : Program} {ops : Array Oper} {Q : Exit → Act → World → Prop} {rest : List Oper} {l : List Value} {w w0 : World} {F : Nat → Prop} {L : List Res} {d ty g k : Nat} {pos : String} {after : Array Edge} {x y : Operand} {t t0 e : TypeId} {cs : List Value}
/-- clear(xs), xs in a block of the walk's own. -/
theorem St.wClear (HS : St w0 F w (blk g cs t0 :: L)) (z : Value) (sz : Nat) (ht : P.underlying t = some (.slice e)) (hinfo : (P.info? e).map (fun i => (i.zero, i.size)) = some (some z, sz)) (hz : z.cells.size = sz) (h1 : z.cells.toList.all (·.oneCell') = true)
    {n c : Nat} (hx : evl l x = .slice (some ⟨g, k, none⟩) n c) (hn : n ≠ 0) (hfit : k + n * sz ≤ cs.length) {dd : Option Nat}
    (hk : ∀ w', St w0 F w' (blk g (lay cs k (Builtin.zeroCells z.cells n).toList) t0 :: L) → wpList P ops Q rest ((fr l).put dd (.tuple #[])) w') :
    wpList P ops Q (⟨dd, .call { callee := .builtin .clear, args := #[x], argTypes := #[t] }, ty, pos, after, none⟩ :: rest) (fr l) w := by
  have hg : w.heap[g]? = some (.cells cs.toArray t0 (0, 0)) := HS.hs.head
  cases hq : P.info? e with
  | none => simp [hq] at hinfo
  | some i =>
    have hi' : i.zero = some z ∧ i.size = sz := by simpa [hq] using hinfo
    obtain ⟨i1, i2⟩ := hi'
    have hxE : (fr l).eval x = _ := (evl_eq _ _).trans hx
    have hlen : (Builtin.zeroCells z.cells n).toList.length = n * sz := by rw [Array.length_toList, size_zeroCells, hz]
    have hone : ∀ v ∈ (Builtin.zeroCells z.cells n).toList, v.oneCell' = true := by
      intro v hv
      unfold Builtin.zeroCells at hv
      simp only [Array.toList_map, List.mem_map] at hv
      obtain ⟨j, hj, rfl⟩ := hv
      have hj' : j < n * z.cells.size := by simpa using hj
      have hpos : 0 < z.cells.size := by
        rcases Nat.eq_zero_or_pos z.cells.size with h | h
        · rw [h] at hj'; omega
        · exact h
      have hlt : j % z.cells.size < z.cells.size := Nat.mod_lt _ hpos
      rw [getElem!_pos z.cells _ hlt]
      exact List.all_eq_true.1 h1 _ (by simp)
    have hst := run_storeCells_at (P := P) g k t0 (Builtin.zeroCells z.cells n).toList 0 cs w hg (by rw [hlen]; omega) hone
    rw [Nat.add_zero] at hst
    have hzv : (zeroValue e).run P w = .ok z w := by simp [zeroValue, typeInfo, hq, i1, Sem.run_bind]
    have hr : (Builtin.clear_ #[t] ty #[.slice (some ⟨g, k, none⟩) n c]).run P w = .ok (.tuple #[]) (w.setRow g (lay cs k (Builtin.zeroCells z.cells n).toList).toArray) := by
      cases n with
      | zero => exact absurd rfl hn
      | succ n => simp [Builtin.clear_, run_underlying ht, Sem.run_bind, hzv, hst]
    refine wpList_plain rfl fun K hK' => ?_
    unfold Oper.wp
    simp [execOp, resolve, invoke, builtin, hxE, hr, Result.andThen]
    exact hK' _ _ (hk _ (HS.setRow _))
end
section
variable {w0 w : World} {F : Nat → Prop} {L : List Res} {α : Type} {D : Kd α} {hE : D.E = []} {e g n c : Nat} {xs : List α}
/-- A row of flat elements that isn't empty: its block. -/
theorem row_blk (hM : ∀ {w base ok x cs}, D.M w base ok x cs → D.M w base (fun _ => False) x cs) (h : (row D hE e (.slice (some ⟨g, 0, none⟩) n c) xs).holds w) : ∃ cs, (blk g cs e).holds w ∧ cs.length = c * D.sz ∧ n = xs.length ∧ n ≤ c ∧ c ≤ maxLen ∧ (cs.take (n * D.sz)).length = n * D.sz ∧ Reps (D.M w 0 (fun _ => False)) D.sz xs (cs.take (n * D.sz)) := by
  obtain ⟨h0, inner, ho, hr⟩ := h
  rcases ho.2 with ⟨h2, _⟩ | ⟨g', cap', cur, h2, hge, hg', hnc, hcm, hcs, htake⟩
  · injection h2 with h2; cases h2
  · injection h2 with h2 h3 h4
    injection h2 with h2
    injection h2 with h2
    subst h2 h3 h4
    have hl := ho.1
    refine ⟨cur.toList, by show w.heap[g]? = _; simpa using hg', by rw [Array.length_toList, hcs], rfl, hnc, hcm, ?_, ?_⟩
    · rw [htake]; exact hl
    · rw [htake]; exact hr.imp_ (fun _ _ hp => hM hp)
end
section
variable {P : Program} {ops : Array Oper} {Q : Exit → Act → World → Prop} {K : Act → World → Prop} {w : World} {o : Oper} {a : Act}
/-- free_frame, where a slot is written that elder operations read. -/
theorem free_frame2 {id n : Nat} {l0 : List Value} {w0 : World} {T : Bool × List (List Nat × List Nat)} (B : List Nat) (D : List (Nat × Tmp)) (G : (Nat → Bool) → (Nat → Value) → World → Prop) (hm : P.follows .mixedOrders = true) (hn : ops.size = n)
    (hT : rtab .any ops = T) (hw : waitsOk T.2 B = true) (hk : baseOk T.2 (List.range n) = true) (hl : T.2.length = n) (hD : dstOk ops D n = true) (hfree : freeOk D (fr l0).tmps.size = true)
    (h0 : G (fun _ => false) (fun _ => undef) w0.drew)
    (hstep : ∀ i ∈ List.range n, ∀ b vs a w, G b vs w → b i = false → (∀ j, ((List.range n).contains j && (B.getD i 0).testBit j) = true → b j = true) → (∀ j, ((List.range n).contains j && (B.getD j 0).testBit i) = true → b j = false) →
      (∃ l, a = fr l) → (∀ t, (D.all fun e => !(e.2 == t)) = true → a.tmps[t]? = (fr l0).tmps[t]?) → (∀ e ∈ D, b e.1 = true → a.tmps[e.2]? = some (vs e.1)) → (∀ j t, b j = false → (D.all fun e => !(e.2 == t) || e.1 == j) = true → a.tmps[t]? = (fr l0).tmps[t]?) →
      ∃ oi, ops[i]? = some oi ∧ ∀ K : Act → World → Prop, (∀ v w', G (up b i) (fun j => if j = i then v else vs j) w' → K (a.put oi.dst v) w') → if Region.wanted oi (yielded ops a.tmps) = true then Oper.wp P oi a w K Q else K (a.put oi.dst undef) w)
    (hend : ∀ b (vs : Nat → Value) w, (∀ j, (List.range n).contains j = true → b j = true) → G b vs w → Q .normal (putSel (fr l0) (fun _ => true) (tells D vs)) w) : (Code.region id ops true).wp P Q (fr l0) w0 := by
  simp only [freeOk, Bool.and_eq_true, decide_eq_true_eq] at hfree
  obtain ⟨⟨hn1, hn2⟩, hsz⟩ := hfree
  unfold dstOk at hD
  rw [Bool.and_eq_true] at hD
  obtain ⟨hDn, hD⟩ := hD
  have hsz' : ∀ e ∈ D, e.2 < (fr l0).tmps.size := fun e he => Nat.le_of_ble_eq_true (List.all_eq_true.1 hsz e he)
  refine start_ (n := n) (S := fun _ => True) (ds := []) (Array.replicate n false) hm hn rfl trivial (fun _ => ?_)
  refine inv_ (T := T) (B := B) (List.range n) (fun b a w => ∃ vs : Nat → Value, a = putSel (fr l0) b (tells D vs) ∧ G b vs w) hT hw hk ?_ ?_ ?_ ?_
  · rw [hl]
    rw [Bool.and_eq_true]
    constructor
    · rw [beq_iff_eq]
      apply List.ext_getElem?
      intro j
      simp only [lof]
      by_cases hj : j < n
      · simp [hj]
      · simp [hj]
    · simp
  · refine ⟨fun _ => undef, ?_, h0⟩
    have : ∀ (L : List (Nat × Tmp × Value)) (a : Act), putSel a (fun _ => false) L = a := by
      intro L
      induction L with
      | nil => intro a; rfl
      | cons x L ih => intro a; show putSel (if (false : Bool) = true then _ else a) _ L = a; exact ih a
    exact (this _ _).symm
  · intro i hi b a w hI hb hon hoff
    obtain ⟨vs, rfl, hG⟩ := hI
    obtain ⟨oi, ho, hok⟩ := hstep i hi b vs (putSel (fr l0) b (tells D vs)) w hG hb hon hoff (putSel_isfr _ _ _) (fun t h => putSel_elder h) (fun e he hbe => putSel_val hn2 e he (hsz' e he) hbe) (fun j t hj ht => putSel_not hj (by unfold tells; rw [List.all_map]; exact ht))
    refine ⟨oi, ho, fun K hK => hok K (fun v w' hG' => hK _ _ ⟨_, ?_, hG'⟩)⟩
    have h1 := List.all_eq_true.1 hD i hi
    rw [ho] at h1
    simp only [Option.map_some] at h1
    cases hd : oi.dst with
    | some t =>
      rw [hd] at h1
      exact tells_up hn1 hn2 (List.contains_iff_mem.1 h1) hb
    | none =>
      rw [hd] at h1
      have h2 : ∀ e ∈ D, e.1 ≠ i := fun e he => by have := List.all_eq_true.1 h1 e he; simpa using this
      show putSel (fr l0) b (tells D vs) = _
      have h3 : tells D (fun j => if j = i then v else vs j) = tells D vs := by
        unfold tells
        refine List.map_congr_left (fun e he => ?_)
        simp [h2 e he]
      rw [h3]
      refine (putSel_same ?_).symm
      rw [List.all_eq_true]
      intro y hy
      obtain ⟨z, hz, rfl⟩ := List.mem_map.1 hy
      simpa using h2 z hz
  · intro b a w hall hI
    obtain ⟨vs, rfl, hG⟩ := hI
    have hb : ∀ e ∈ D, b e.1 = true := fun e he => by
      refine hall e.1 ?_
      have := List.all_eq_true.1 hDn e he
      have h5 : e.1 + 1 ≤ n := by simpa [Nat.blt] using this
      have h4 : e.1 < n := h5
      simpa using h4
    have hall2 : ∀ (L : List (Nat × Tmp)) (a : Act), (∀ e ∈ L, b e.1 = true) → putSel a b (tells L vs) = putSel a (fun _ => true) (tells L vs) := by
      intro L
      induction L with
      | nil => intro a _; rfl
      | cons x L ih =>
        intro a h
        show putSel (if b x.1 = true then _ else a) b (tells L vs) = putSel (if true = true then _ else a) _ (tells L vs)
        rw [if_pos (h x List.mem_cons_self), if_pos rfl]
        exact ih _ (fun e he => h e (List.mem_cons_of_mem _ he))
    rw [hall2 D (fr l0) hb]
    exact hend b vs w hall hG
end
end Go.Proofs.Ytckfcnclekjjdaa
