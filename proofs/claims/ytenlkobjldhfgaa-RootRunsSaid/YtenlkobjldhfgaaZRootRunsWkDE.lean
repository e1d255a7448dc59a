/- Several texts in one: WkD, WkE. -/
import Derived.Test.YtenlkobjldhfgaaZRootRunsWkM
import Derived.Test.YtenlkobjldhfgaaZRootRunsFreeWI
import Derived.Test.YtenlkobjldhfgaaZRootRunsWds0
import Derived.ChangeKeysEq
import Derived.Laws.StructEq
set_option linter.unusedVariables false
set_option linter.unusedSimpArgs false
namespace Go.Proofs.Ytenlkobjldhfgaa
open Go.RowKit Go.Proofs.YtenlkobjldhfgaaW.PrintWords Go.Proofs.YtenlkobjldhfgaaW.PrintLast
section
variable {P : Program} {ops : Array Oper} {Q : Exit → Act → World → Prop} {K : Act → World → Prop} {w : World} {o : Oper} {a : Act}
def QK (K : Act → World → Prop) (Q : Exit → Act → World → Prop) : Exit → Act → World → Prop
 | .normal, a, w => K a w
 | .outgrown, _, _ => False
 | e, a, w => Q e a w
theorem oper_mono {N N' : Act → World → Prop} {Q Q' : Exit → Act → World → Prop} (h : Oper.wp P o a w N Q) (hn : ∀ a w, N a w → N' a w) (hp : ∀ c a w, Q (.panic c) a w → Q' (.panic c) a w) (ho : LetsOut Q → LetsOut Q') : Oper.wp P o a w N' Q' := by
 unfold Oper.wp at h ⊢
 generalize (execOp a.eval o).run P w = r at h ⊢
 cases r with
 | ok n w' =>
  cases n <;> unfold Oper.upon at h ⊢ <;> first | exact hn _ _ h | exact h.elim | skip
  ·refine Calls.mono h ?_
   intro e w'' he
   cases e with
   | returned v => exact hn _ _ he
   | panicked c => exact hp _ _ _ he
   | outgrown => exact ho he
  ·exact Rows.mono h (fun v w' h => hn _ _ h)
 | halt hh w' =>
  cases hh <;> unfold Oper.upon at h ⊢ <;> first | exact h.elim | exact hp _ _ _ h
theorem wp_of_list (hg : o.guard = none) (h : ∀ ops', wpList P ops' (QK K Q) [o] a w) : if Region.wanted o (yielded ops a.tmps) = true then Oper.wp P o a w K Q else K (a.put o.dst undef) w := by
 have hw : ∀ ops', Region.wanted o (yielded ops' a.tmps) = true := fun ops' => by simp [Region.wanted, hg]
 rw [if_pos (hw ops)]
 have h1 := h #[]
 unfold wpList at h1
 rw [if_pos (hw #[])] at h1
 rcases h1 with h1 | ⟨-, a', w', hf⟩
 ·refine oper_mono h1 (fun a w h => h) (fun c a w h => h) ?_
  rintro ⟨a', w', hf⟩
  exact hf.elim
 ·exact hf.elim
def qv (val : Nat → Option Value) (b : Nat → Bool) (vs : Nat → Value) : Prop := ∀ i v, val i = some v → b i = true → vs i = v
theorem qv_none {val : Nat → Option Value} {vs : Nat → Value} : qv val (fun _ => false) vs := fun _ _ _ h => by cases h
theorem qv_up {val : Nat → Option Value} {b : Nat → Bool} {vs : Nat → Value} {i : Nat} {v : Value} (h : qv val b vs) (hv : ∀ v', val i = some v' → v = v') : qv val (up b i) (fun j => if j = i then v else vs j) := by
 intro j v' hj hb
 by_cases e : j = i
 ·subst e
  simp only [if_true]
  exact hv v' hj
 ·simp only [if_neg e]
  rw [up_ne e] at hb
  exact h j v' hj hb
def setAll (l : List Value) : List (Nat × Tmp × Value) → List Value
 | [] => l
 | e :: r => setAll (l.set e.2.1 e.2.2) r
theorem putSel_fr : ∀ (X : List (Nat × Tmp × Value)) (l : List Value), putSel (fr l) (fun _ => true) X = fr (setAll l X)
 | [], l => rfl
 | e :: X, l => by
  show putSel (if true = true then (fr l).put (some e.2.1) e.2.2 else fr l) _ X = _
  rw [if_pos rfl, fr_put]
  exact putSel_fr X _
theorem putSel_isfr (b : Nat → Bool) : ∀ (X : List (Nat × Tmp × Value)) (l : List Value), ∃ l', putSel (fr l) b X = fr l'
 | [], l => ⟨l, rfl⟩
 | e :: X, l => by
  show ∃ l', putSel (if b e.1 = true then (fr l).put (some e.2.1) e.2.2 else fr l) b X = fr l'
  split
  ·rw [fr_put]; exact putSel_isfr b X _
  ·exact putSel_isfr b X _
theorem norm_put {l : List Value} {d : Nat} {v : Value} (h : K ((fr l).put (some d) v) w) : QK K Q .normal (fr (l.set d v)) w := by rw [fr_put] at h; exact h
theorem norm_none {l : List Value} (h : K (fr l) w) : QK K Q .normal (fr l) w := h
theorem evl_of {l : List Value} {t : Nat} {v : Value} (h : (fr l).tmps[t]? = some v) : evl l (.tmp t) = v := by
 rw [← evl_eq]
 show (fr l).tmps.getD t undef = v
 simp only [Array.getD_eq_getD_getElem?, h, Option.getD_some]
theorem free_frame {id n : Nat} {l0 : List Value} {w0 : World} {T : Bool × List (List Nat × List Nat)} (B : List Nat) (D : List (Nat × Tmp)) (G : (Nat → Bool) → (Nat → Value) → World → Prop) (hm : P.follows .mixedOrders = true) (hn : ops.size = n)
  (hT : rtab .any ops = T) (hw : waitsOk T.2 B = true) (hk : baseOk T.2 (List.range n) = true) (hl : T.2.length = n) (hD : dstOk ops D n = true) (hfree : freeOk D (fr l0).tmps.size = true)
  (h0 : G (fun _ => false) (fun _ => undef) w0.drew)
  (hstep : ∀ i ∈ List.range n, ∀ b vs a w, G b vs w → b i = false → (∀ j, ((List.range n).contains j && (B.getD i 0).testBit j) = true → b j = true) → (∀ j, ((List.range n).contains j && (B.getD j 0).testBit i) = true → b j = false) →
   (∃ l, a = fr l) → (∀ t, (D.all fun e => !(e.2 == t)) = true → a.tmps[t]? = (fr l0).tmps[t]?) → (∀ e ∈ D, b e.1 = true → a.tmps[e.2]? = some (vs e.1)) →
   ∃ oi, ops[i]? = some oi ∧ ∀ K : Act → World → Prop, (∀ v w', G (up b i) (fun j => if j = i then v else vs j) w' → K (a.put oi.dst v) w') → if Region.wanted oi (yielded ops a.tmps) = true then Oper.wp P oi a w K Q else K (a.put oi.dst undef) w)
  (hend : ∀ b (vs : Nat → Value) w, (∀ j, (List.range n).contains j = true → b j = true) → G b vs w → Q .normal (putSel (fr l0) (fun _ => true) (tells D vs)) w) : (Code.region id ops true).wp P Q (fr l0) w0 := by
 simp only [freeOk, Bool.and_eq_true, decide_eq_true_eq] at hfree
 obtain ⟨⟨hn1, hn2⟩, hsz⟩ := hfree
 unfold dstOk at hD
 rw [Bool.and_eq_true] at hD
 obtain ⟨hDn, hD⟩ := hD
 have hsz' : ∀ e ∈ D, e.2 < (fr l0).tmps.size := fun e he => Nat.le_of_ble_eq_true (List.all_eq_true.1 hsz e he)
 refine start_ (n := n) (S := fun _ => True) (ds := []) (Array.replicate n false) hm hn rfl trivial (fun _ => ?_)
 refine inv_ (T := T) (B := B) (List.range n) (fun b a w => ∃ vs : Nat → Value, a = putSel (fr l0) b (tells D vs) ∧ G b vs w) hT hw hk ?_ ?_ ?_ ?_
 ·rw [hl]
  rw [Bool.and_eq_true]
  constructor
  ·rw [beq_iff_eq]
   apply List.ext_getElem?
   intro j
   simp only [lof]
   by_cases hj : j < n
   ·simp [hj]
   ·simp [hj]
  ·simp
 ·refine ⟨fun _ => undef, ?_, h0⟩
  have : ∀ (L : List (Nat × Tmp × Value)) (a : Act), putSel a (fun _ => false) L = a := by
   intro L
   induction L with
   | nil => intro a; rfl
   | cons x L ih => intro a; show putSel (if (false : Bool) = true then _ else a) _ L = a; exact ih a
  exact (this _ _).symm
 ·intro i hi b a w hI hb hon hoff
  obtain ⟨vs, rfl, hG⟩ := hI
  obtain ⟨oi, ho, hok⟩ := hstep i hi b vs (putSel (fr l0) b (tells D vs)) w hG hb hon hoff (putSel_isfr _ _ _) (fun t h => putSel_elder h) (fun e he hbe => putSel_val hn2 e he (hsz' e he) hbe)
  refine ⟨oi, ho, fun K hK => hok K (fun v w' hG' => hK _ _ ⟨_, ?_, hG'⟩)⟩
  have h1 := List.all_eq_true.1 hD i hi
  rw [ho] at h1
  simp only [Option.map_some] at h1
  cases hd : oi.dst with
  | some t =>
   rw [hd] at h1
   exact tells_up hn1 hn2 (List.contains_iff_mem.1 h1) hb
  | none =>
   rw [hd] at h1
   have h2 : ∀ e ∈ D, e.1 ≠ i := fun e he => by have := List.all_eq_true.1 h1 e he; simpa using this
   show putSel (fr l0) b (tells D vs) = _
   have h3 : tells D (fun j => if j = i then v else vs j) = tells D vs := by
    unfold tells
    refine List.map_congr_left (fun e he => ?_)
    simp [h2 e he]
   rw [h3]
   refine (putSel_same ?_).symm
   rw [List.all_eq_true]
   intro y hy
   obtain ⟨z, hz, rfl⟩ := List.mem_map.1 hy
   simpa using h2 z hz
 ·intro b a w hall hI
  obtain ⟨vs, rfl, hG⟩ := hI
  have hb : ∀ e ∈ D, b e.1 = true := fun e he => by
   refine hall e.1 ?_
   have := List.all_eq_true.1 hDn e he
   have h5 : e.1 + 1 ≤ n := by simpa [Nat.blt] using this
   have h4 : e.1 < n := h5
   simpa using h4
  have hall2 : ∀ (L : List (Nat × Tmp)) (a : Act), (∀ e ∈ L, b e.1 = true) → putSel a b (tells L vs) = putSel a (fun _ => true) (tells L vs) := by
   intro L
   induction L with
   | nil => intro a _; rfl
   | cons x L ih =>
    intro a h
    show putSel (if b x.1 = true then _ else a) b (tells L vs) = putSel (if true = true then _ else a) _ (tells L vs)
    rw [if_pos (h x List.mem_cons_self), if_pos rfl]
    exact ih _ (fun e he => h e (List.mem_cons_of_mem _ he))
  rw [hall2 D (fr l0) hb]
  exact hend b vs w hall hG
end
end Go.Proofs.Ytenlkobjldhfgaa
set_option linter.unusedVariables false
set_option linter.unusedSimpArgs false
namespace Go.Proofs.Ytenlkobjldhfgaa
open Go.RowKit Go.Proofs.YtenlkobjldhfgaaW.PrintWords Go.Proofs.YtenlkobjldhfgaaW.PrintLast
section
variable {P : Program} {w : World} {t n e : Nat} {k : IntKind}
theorem nums_at (k : IntKind) (xs : List Int) (i : Nat) (h : i < xs.length) : (nums k xs).toArray[i]? = some (.int k xs[i]) := by
 simp [nums, h]
theorem eqItems_nums (he : P.underlying e = some (.int k)) (hna : oneT P e = true) (xs ys : List Int) (hl : xs.length = ys.length) (n d : Nat) : ∀ j, j + n = xs.length → (Op.eqItems (d + 1) e 1 (nums k xs).toArray (nums k ys).toArray (List.range' j n)).run P w = .ok (decide (xs.drop j = ys.drop j)) w := by
 induction n with
 | zero =>
  intro j hj
  have h1 : xs.drop j = [] := List.drop_eq_nil_of_le (by omega)
  have h2 : ys.drop j = [] := List.drop_eq_nil_of_le (by omega)
  rw [h1, h2]; simp [Op.eqItems]
 | succ n ih =>
  intro j hj
  have k1 : j < xs.length := by omega
  have k2 : j < ys.length := by omega
  have ih := ih (j + 1) (by omega)
  have hp : ∀ (zs : List Int) (hz : j < zs.length), (part e (nums k zs).toArray (j * 1)).run P w = .ok (.int k zs[j]) w := by
   intro zs hz
   rw [Nat.mul_one]
   simp only [part, Sem.run_bind, run_oneT hna, Result.andThen_ok, nums_at k zs j hz]
   simp
  rw [List.range'_succ]
  have he2 : (Op.equalIn (d + 1) e (.int k xs[j]) (.int k ys[j])).run P w = .ok (xs[j] == ys[j]) w := by
   simp [Op.equalIn, run_underlying he]
  simp only [Op.eqItems, Sem.run_bind, hp xs k1, hp ys k2, Result.andThen_ok, he2]
  rw [List.drop_eq_getElem_cons k1, List.drop_eq_getElem_cons k2]
  by_cases hb : xs[j] = ys[j]
  ·have : (xs[j] == ys[j]) = true := by rw [hb]; simp
   rw [this]
   simp only [Bool.not_true, Bool.false_eq_true, if_false]
   rw [ih, hb]
   simp only [List.cons.injEq, true_and]
  ·have : (xs[j] == ys[j]) = false := by rw [beq_eq_false_iff_ne]; exact hb
   rw [this]
   simp only [Bool.not_false, if_true, Sem.run_pure, List.cons.injEq, hb, false_and, decide_false]
theorem equalIn_nums (ht : P.underlying t = some (.array n e)) (he : P.underlying e = some (.int k)) (hc : P.cellsOf e = 1) (hi : (P.info? e).isSome = true) (xs ys : List Int) (h1 : xs.length = n) (h2 : ys.length = n) (d : Nat) :
  (Op.equalIn (d + 2) t (.agg (nums k xs).toArray) (.agg (nums k ys).toArray)).run P w = .ok (decide (xs = ys)) w := by
 obtain ⟨i, hi⟩ := Option.isSome_iff_exists.1 hi
 have hna : oneT P e = true := by unfold oneT; rw [he]
 rw [run_equalIn_array w (d + 1) (nums k xs).toArray (nums k ys).toArray ht hi, hc, List.range_eq_range', eqItems_nums he hna xs ys (by omega) n d 0 (by omega)]
 simp
theorem equal_nums (ht : P.underlying t = some (.array n e)) (he : P.underlying e = some (.int k)) (hc : P.cellsOf e = 1) (hi : (P.info? e).isSome = true) (xs ys : List Int) (h1 : xs.length = n) (h2 : ys.length = n) :
  (Op.equal t (.agg (nums k xs).toArray) (.agg (nums k ys).toArray)).run P w = .ok (decide (xs = ys)) w := equalIn_nums ht he hc hi xs ys h1 h2 9998
theorem guard_agg {op : BinOp} {x y : Operand} {xs ys : Array Value} (hm : P.eqGuardType P.depth t = false) : (eqGuard op t x y (.agg xs) (.agg ys)).run P w = .ok () w := run_eqGuard_agg w op t x y xs ys hm
end
theorem equal_ptrnil {P : Program} {w : World} {t e : Nat} {a : Addr} (hu : P.underlying t = some (.pointer e)) : (Op.equal t (.pointer (some a)) (.pointer none)).run P w = .ok false w := by
 have key : ∀ n, (Op.equalIn (n + 1) t (.pointer (some a)) (.pointer none)).run P w = .ok false w := fun n => by
  unfold Op.equalIn
  simp [underlying, hu, Sem.run_bind]
 exact key 9999
theorem nums_set (k : IntKind) (xs : List Int) (i : Nat) (x : Int) : (nums k xs).set i (.int k x) = nums k (xs.set i x) := by simp [nums]
theorem nums_getD {k : IntKind} {xs : List Int} {i : Nat} (h : i < xs.length) : (nums k xs)[i]? = some (.int k (xs.getD i 0)) := by simp [nums, h]
end Go.Proofs.Ytenlkobjldhfgaa
