/- DiskKeeps. -/
import Derived.Test.YtjholgfaipfmbaaKpP
import Derived.Test.YtjholgfaipfmbaaArgsD
import Derived.Test.YtjholgfaipfmbaaWkB
set_option linter.unusedVariables false
set_option linter.unusedSimpArgs false
namespace Go.Proofs.Ytjholgfaipfmbaa
open Go.RowKit Go.Proofs.YtjholgfaipfmbaaW.PrintWords Go.Proofs.YtjholgfaipfmbaaW.PrintLast
abbrev u_ : Value := undef
/-- The slices of the rows; nil behind them. -/
def mv (np : Nat) (rs : List (Value × List Int)) : List Value := rs.map (·.1) ++ List.replicate (np - rs.length) (.slice none 0 0)
def mr (rs : List (Value × List Int)) : List Res := rs.map (fun r => orow 5 r.1 r.2)
section
variable {w0 w : World} {F : Nat → Prop} {L : List Res} {np j : Nat} {rs : List (Value × List Int)} {v v' : Value} {xs ys : List Int}
theorem mv_length (h : rs.length ≤ np) : (mv np rs).length = np := by unfold mv; simp; omega
theorem mv_put (h : rs.length = j) (hj : j < np) (v : Value) (xs : List Int) : (mv np rs).set j v = mv np (rs ++ [(v, xs)]) := by
  subst h
  unfold mv
  rw [List.set_append, if_neg (by simp), List.length_map, Nat.sub_self]
  have e : np - rs.length = (np - (rs ++ [(v, xs)]).length) + 1 := by simp; omega
  rw [e, List.replicate_succ, List.set_cons_zero, List.map_append, List.append_assoc]
  rfl
theorem mv_get (h : rs[j]? = some (v, xs)) : (mv np rs)[j]? = some v := by
  unfold mv
  rw [List.getElem?_append_left (by rw [List.length_map]; exact (List.getElem?_eq_some_iff.1 h).1), List.getElem?_map, h]
  rfl
theorem mv_set (h : rs[j]? = some (v, xs)) (v' : Value) (ys : List Int) : (mv np rs).set j v' = mv np (rs.set j (v', ys)) := by
  have hj := (List.getElem?_eq_some_iff.1 h).1
  unfold mv
  rw [List.set_append, if_pos (by rw [List.length_map]; exact hj), List.length_set, List.map_set]
theorem mr_get (h : rs[j]? = some (v, xs)) : (mr rs)[j]? = some (orow 5 v xs) := by
  unfold mr
  rw [List.getElem?_map, h]
  rfl
theorem St.pushM (h : St w0 F w (orow 5 v xs :: allR (mr rs) :: L)) : St w0 F w (allR (mr (rs ++ [(v, xs)])) :: L) := by
  have := h.pushNew
  unfold mr at this ⊢
  rw [List.map_append]
  exact this
theorem St.pullM (h : St w0 F w (allR (mr rs) :: L)) (hr : rs[j]? = some (v, xs)) : St w0 F w (orow 5 v xs :: allR ((mr rs).eraseIdx j) :: L) := h.pull j (mr_get hr)
theorem St.backM (h : St w0 F w (orow 5 v' ys :: allR ((mr rs).eraseIdx j) :: L)) (hr : rs[j]? = some (v, xs)) : St w0 F w (allR (mr (rs.set j (v', ys))) :: L) := by
  have := h.push (mr_get hr)
  unfold mr at this ⊢
  rw [List.map_set]
  exact this
theorem made_mv (np : Nat) : (madeCells (Value.slice none 0 0).cells (np * 1)).toList = mv np [] := by
  have h : (madeCells (Value.slice none 0 0).cells (np * 1)).toList = List.replicate np (Value.slice none 0 0) := by
    rw [List.eq_replicate_iff]
    refine ⟨by simp [size_madeCells], fun x hx => ?_⟩
    unfold madeCells at hx
    simp only [Array.toList_map, List.mem_map] at hx
    obtain ⟨i, -, rfl⟩ := hx
    have : (Value.slice none 0 0).cells = #[Value.slice none 0 0] := rfl
    rw [this]
    simp [Nat.mod_one]
  rw [h]
  unfold mv
  simp
theorem orow_C {e n c : Nat} {a : Addr} (h : (orow e (.slice (some a) n c) xs).holds w) : n = xs.length ∧ (Kd.int .u8).C w (some a) xs.length xs := by
  obtain ⟨g, k, c', hv, -, hC⟩ := orow_open h
  injection hv with h1 h2 h3
  injection h1 with h1
  subst h1
  exact ⟨h2, hC⟩
theorem lst_step {M : List (List Int)} {p : Nat} (h : rs.map (·.2) = (M.take p).map lst ++ M.drop p) (hr : rs[p]? = some (v, xs)) (hM : p < M.length) (v' : Value) : (rs.set p (v', xs.drop (xs.length - 1))).map (·.2) = (M.take (p + 1)).map lst ++ M.drop (p + 1) := by
  have hl : ((M.take p).map lst).length = p := by rw [List.length_map, List.length_take]; omega
  have hx : M[p] = xs := by
    have h1 : (rs.map (·.2))[p]? = some xs := by rw [List.getElem?_map, hr]; rfl
    rw [h, List.getElem?_append_right (by omega), hl, Nat.sub_self, List.getElem?_drop, Nat.add_zero, List.getElem?_eq_getElem hM] at h1
    exact Option.some.inj h1
  rw [List.map_set, h, List.set_append, if_neg (by omega), hl, Nat.sub_self, List.drop_eq_getElem_cons hM, List.set_cons_zero, List.take_succ_eq_append_getElem hM, List.map_append, List.append_assoc, hx]
  rfl
theorem fsp (b : Bool) (x c : Int) : b = true ∨ (b = false ∧ x = c) ∨ (b = false ∧ x ≠ c) := by
  cases b
  · by_cases h : x = c
    · exact .inr (.inl ⟨rfl, h⟩)
    · exact .inr (.inr ⟨rfl, h⟩)
  · exact .inl rfl
theorem take_mem {q : Nat} {c : Int} (hq : q < xs.length) : (c ∈ xs.take (q + 1)) ↔ (c ∈ xs.take q ∨ maskOf xs q = c) := by
  rw [List.take_succ_eq_append_getElem hq, List.mem_append, List.mem_singleton]
  unfold maskOf
  rw [List.getD_eq_getElem?_getD, List.getElem?_eq_getElem hq]
  exact ⟨fun h => h.imp id Eq.symm, fun h => h.imp id Eq.symm⟩
theorem set_ne (hn : ∀ r ∈ rs, r.2 ≠ []) (hy : ys ≠ []) : ∀ r ∈ rs.set j (v', ys), r.2 ≠ [] := by
  intro r hr
  rcases List.mem_or_eq_of_mem_set hr with h | h
  · exact hn r h
  · subst h; exact hy
end

theorem cmpz_yes {a : Int} (h : a = 0) : (a == 0) = true := by rw [h]; rfl
theorem cmpz_no {a : Int} (h : a ≠ 0) : (a == 0) = false := by simpa using h
theorem sy_split (kd : Int) (S : Dk) : (kd = 1 ∧ S.actE = 0) ∨ (kd = 1 ∧ S.actE ≠ 0) ∨ kd ≠ 1 := by
  by_cases h : kd = 1
  · by_cases h2 : S.actE = 0
    · exact .inl ⟨h, h2⟩
    · exact .inr (.inl ⟨h, h2⟩)
  · exact .inr (.inr h)
theorem ki_len {np n : Nat} {S : Dk} {M : List (List Int)} {q : Nat} {xs : List Int} (h : KI np n S M) (hx : M[q]? = some xs) : xs.length ≤ n + 1 := by
  obtain ⟨c, l, rfl, -, h3⟩ := h.at_ q xs hx
  have h1 : (pend S.pending q).length ≤ S.pending.length := by unfold pend; rw [List.length_map]; exact List.length_filter_le _ _
  rw [h3, List.length_map] at h1
  have := h.gd.pn
  simp
  omega
theorem ki_ne {np n : Nat} {S : Dk} {rs : List (Value × List Int)} (h : KI np n S (rs.map (·.2))) : ∀ r ∈ rs, r.2 ≠ [] := by
  intro r hr
  obtain ⟨i, hi, rfl⟩ := List.mem_iff_getElem.1 hr
  obtain ⟨c, l, hx, -⟩ := h.at_ i rs[i].2 (by rw [List.getElem?_map, List.getElem?_eq_getElem hi]; rfl)
  rw [hx]
  exact List.cons_ne_nil _ _

set_option maxRecDepth 10000 in
set_option maxHeartbeats 40000000 in
theorem keeps_law (w : World) (pages : Int) (A1 : Option Addr) (c1 : Nat) (l1 : List dAT) (hr1 : kdA.C w A1 l1.length l1) (hg1 : ∀ y ∈ l1, dAG y) (A2 : Option Addr) (c2 : Nat) (l2 : List Int) (hr2 : (Kd.int .u8).C w A2 l2.length l2) (hk2 : ∀ z ∈ l2, 0 ≤ z ∧ z < 256) : Calls Try.prog 5 #[.int .i64 pages, .slice A1 l1.length c1, .slice A2 l2.length c2] w fun e w' => e = .returned (.bool true) ∧ Below w.heap.size w w' := by
  have HS := St.empty w
  · skip
    by_cases h0 : pages < 0
    · skip
      have h0d := decide_eq_true h0
      refine c_enter Try.func5 rfl 180 rfl [.int .i64 pages, .slice A1 l1.length c1, .slice A2 l2.length c2, u_, u_, u_, u_, u_, u_, u_, u_, u_, u_, u_, u_, u_, u_, u_, u_, u_, u_, u_, u_, u_, u_, u_, u_, u_, u_, u_, u_, u_, u_, u_, u_, u_, u_, u_, u_, u_, u_, u_, u_, u_, u_, u_, u_, u_, u_, u_, u_, u_, u_, u_, u_, u_, u_, u_, u_, u_, u_, u_, u_, u_, u_, u_, u_, u_, u_, u_, u_, u_, u_, u_, u_, u_, u_, u_, u_, u_, u_, u_, u_, u_, u_, u_, u_, u_, u_, u_, u_, u_, u_, u_, u_, u_, u_, u_, u_, u_, u_, u_, u_, u_, u_, u_, u_, u_, u_, u_, u_, u_, u_, u_, u_, u_, u_, u_, u_, u_, u_, u_, u_, u_, u_, u_, u_, u_, u_, u_, u_, u_, u_, u_, u_, u_, u_, u_, u_, u_, u_, u_, u_, u_, u_, u_, u_, u_, u_, u_, u_, u_, u_, u_, u_, u_, u_, u_, u_, u_, u_, u_, u_, u_, u_, u_, u_, u_, u_, u_, u_, u_, u_, u_, u_, u_, u_, u_, u_, u_] rfl ?_
      refine wp_seq_k (fun K1 hK2 => ?_)
      refine c_region (fun ops4 hops3 => ?_)
      clear hops3
      refine p_run (l' := _) _ (x_assign (.bool false) rfl rfl) rfl ?_
      refine wpList_nil ?_
      refine hK2 _ _ ?_
      refine wp_seq_k (fun K5 hK6 => ?_)
      refine wp_seq_k (fun K7 hK8 => ?_)
      refine c_region (fun ops10 hops9 => ?_)
      clear hops9
      refine w_call [] Try.func9 (by kernel_rfl) (by rfl) rfl ?_
      refine (alive_any HS).mono ?_
      clear HS
      rintro e w11 ⟨rfl, HS⟩
      refine ⟨_, rfl, ?_⟩
      refine p_run (l' := _) _ (x_not true rfl rfl) rfl ?_
      refine wpList_nil ?_
      refine hK8 _ _ ?_
      refine c_false rfl ?_
      refine wp_skip ?_
      refine hK6 _ _ ?_
      refine wp_seq_k (fun K12 hK13 => ?_)
      refine wp_seq_k (fun K14 hK15 => ?_)
      refine c_region (fun ops17 hops16 => ?_)
      refine p_run (l' := _) _ (x_move (.int .i64 pages) rfl rfl) rfl ?_
      refine p_run (l' := _) _ (x_cmp (k := .i64) (m := pages) (n := 0) .lss true rfl rfl rfl h0d rfl) rfl ?_
      refine p_run (l' := _) _ (x_move (.bool true) rfl rfl) rfl ?_
      refine p_off (l' := _) (by rw [hops16]; rfl) rfl ?_
      refine p_off (l' := _) (by rw [hops16]; rfl) rfl ?_
      refine p_run (l' := _) _ (x_pick true (.bool true) (u_) (.bool true) rfl rfl rfl rfl rfl) rfl ?_
      refine p_run (l' := [.int .i64 pages, .slice A1 l1.length c1, .slice A2 l2.length c2, u_, u_, u_, .bool false, u_, u_, u_, u_, u_, u_, u_, u_, u_, u_, u_, u_, u_, u_, u_, .bool true, .bool false, .int .i64 pages, .bool true, .bool true, u_, u_, .bool true, .bool true, u_, u_, u_, u_, u_, u_, u_, u_, u_, u_, u_, u_, u_, u_, u_, u_, u_, u_, u_, u_, u_, u_, u_, u_, u_, u_, u_, u_, u_, u_, u_, u_, u_, u_, u_, u_, u_, u_, u_, u_, u_, u_, u_, u_, u_, u_, u_, u_, u_, u_, u_, u_, u_, u_, u_, u_, u_, u_, u_, u_, u_, u_, u_, u_, u_, u_, u_, u_, u_, u_, u_, u_, u_, u_, u_, u_, u_, u_, u_, u_, u_, u_, u_, u_, u_, u_, u_, u_, u_, u_, u_, u_, u_, u_, u_, u_, u_, u_, u_, u_, u_, u_, u_, u_, u_, u_, u_, u_, u_, u_, u_, u_, u_, u_, u_, u_, u_, u_, u_, u_, u_, u_, u_, u_, u_, u_, u_, u_, u_, u_, u_, u_, u_, u_, u_, u_, u_, u_, u_, u_, u_, u_, u_, u_, u_, u_, u_, u_, u_]) _ (x_move (.bool true) rfl rfl) rfl ?_
      refine p_off (l' := _) (by rw [hops16]; rfl) rfl ?_
      refine p_off (l' := _) (by rw [hops16]; rfl) rfl ?_
      refine p_off (l' := _) (by rw [hops16]; rfl) rfl ?_
      refine p_run (l' := _) _ (x_pick true (.bool true) (u_) (.bool true) rfl rfl rfl rfl rfl) rfl ?_
      refine p_run (l' := _) _ (x_move (.bool true) rfl rfl) rfl ?_
      refine p_off (l' := _) (by rw [hops16]; rfl) rfl ?_
      refine p_off (l' := _) (by rw [hops16]; rfl) rfl ?_
      refine p_off (l' := _) (by rw [hops16]; rfl) rfl ?_
      refine p_run (l' := _) _ (x_pick true (.bool true) (u_) (.bool true) rfl rfl rfl rfl rfl) rfl ?_
      clear hops16
      refine wpList_nil ?_
      refine fr_at (l' := [.int .i64 pages, .slice A1 l1.length c1, .slice A2 l2.length c2, u_, u_, u_, .bool false, u_, u_, u_, u_, u_, u_, u_, u_, u_, u_, u_, u_, u_, u_, u_, .bool true, .bool false, .int .i64 pages, .bool true, .bool true, u_, u_, .bool true, .bool true, u_, u_, u_, .bool true, .bool true, u_, u_, u_, .bool true, u_, u_, u_, u_, u_, u_, u_, u_, u_, u_, u_, u_, u_, u_, u_, u_, u_, u_, u_, u_, u_, u_, u_, u_, u_, u_, u_, u_, u_, u_, u_, u_, u_, u_, u_, u_, u_, u_, u_, u_, u_, u_, u_, u_, u_, u_, u_, u_, u_, u_, u_, u_, u_, u_, u_, u_, u_, u_, u_, u_, u_, u_, u_, u_, u_, u_, u_, u_, u_, u_, u_, u_, u_, u_, u_, u_, u_, u_, u_, u_, u_, u_, u_, u_, u_, u_, u_, u_, u_, u_, u_, u_, u_, u_, u_, u_, u_, u_, u_, u_, u_, u_, u_, u_, u_, u_, u_, u_, u_, u_, u_, u_, u_, u_, u_, u_, u_, u_, u_, u_, u_, u_, u_, u_, u_, u_, u_, u_, u_, u_, u_, u_, u_, u_, u_, u_, u_, u_, u_, u_]) rfl ?_
      refine hK15 _ _ ?_
      refine c_true rfl ?_
      refine wp_seq_k (fun K18 hK19 => ?_)
      refine c_region (fun ops21 hops20 => ?_)
      clear hops20
      refine p_run (l' := _) _ (x_assign (.bool true) rfl rfl) rfl ?_
      refine wpList_nil ?_
      refine hK19 _ _ ?_
      refine wp_ret ?_
      try simp only [Exit.inBlock, Exit.then]
      refine c_ret (.bool true) (r_tmp rfl rfl) ?_
      exact ⟨rfl, HS.belowOf⟩
    · skip
      have h0d := decide_eq_false h0
      by_cases h1 : pages > 60
      · skip
        have h1d := decide_eq_true h1
        refine c_enter Try.func5 rfl 180 rfl [.int .i64 pages, .slice A1 l1.length c1, .slice A2 l2.length c2, u_, u_, u_, u_, u_, u_, u_, u_, u_, u_, u_, u_, u_, u_, u_, u_, u_, u_, u_, u_, u_, u_, u_, u_, u_, u_, u_, u_, u_, u_, u_, u_, u_, u_, u_, u_, u_, u_, u_, u_, u_, u_, u_, u_, u_, u_, u_, u_, u_, u_, u_, u_, u_, u_, u_, u_, u_, u_, u_, u_, u_, u_, u_, u_, u_, u_, u_, u_, u_, u_, u_, u_, u_, u_, u_, u_, u_, u_, u_, u_, u_, u_, u_, u_, u_, u_, u_, u_, u_, u_, u_, u_, u_, u_, u_, u_, u_, u_, u_, u_, u_, u_, u_, u_, u_, u_, u_, u_, u_, u_, u_, u_, u_, u_, u_, u_, u_, u_, u_, u_, u_, u_, u_, u_, u_, u_, u_, u_, u_, u_, u_, u_, u_, u_, u_, u_, u_, u_, u_, u_, u_, u_, u_, u_, u_, u_, u_, u_, u_, u_, u_, u_, u_, u_, u_, u_, u_, u_, u_, u_, u_, u_, u_, u_, u_, u_, u_, u_, u_, u_, u_, u_, u_, u_, u_, u_, u_] rfl ?_
        refine wp_seq_k (fun K1 hK2 => ?_)
        refine c_region (fun ops4 hops3 => ?_)
        clear hops3
        refine p_run (l' := _) _ (x_assign (.bool false) rfl rfl) rfl ?_
        refine wpList_nil ?_
        refine hK2 _ _ ?_
        refine wp_seq_k (fun K5 hK6 => ?_)
        refine wp_seq_k (fun K7 hK8 => ?_)
        refine c_region (fun ops10 hops9 => ?_)
        clear hops9
        refine w_call [] Try.func9 (by kernel_rfl) (by rfl) rfl ?_
        refine (alive_any HS).mono ?_
        clear HS
        rintro e w11 ⟨rfl, HS⟩
        refine ⟨_, rfl, ?_⟩
        refine p_run (l' := _) _ (x_not true rfl rfl) rfl ?_
        refine wpList_nil ?_
        refine hK8 _ _ ?_
        refine c_false rfl ?_
        refine wp_skip ?_
        refine hK6 _ _ ?_
        refine wp_seq_k (fun K12 hK13 => ?_)
        refine wp_seq_k (fun K14 hK15 => ?_)
        refine c_region (fun ops17 hops16 => ?_)
        refine p_run (l' := _) _ (x_move (.int .i64 pages) rfl rfl) rfl ?_
        refine p_run (l' := _) _ (x_cmp (k := .i64) (m := pages) (n := 0) .lss false rfl rfl rfl h0d rfl) rfl ?_
        refine p_run (l' := _) _ (x_move (.bool false) rfl rfl) rfl ?_
        refine p_on rfl (by rw [hops16]; rfl) ?_
        refine p_run (l' := _) _ (x_move (.int .i64 pages) rfl rfl) rfl ?_
        refine p_on rfl (by rw [hops16]; rfl) ?_
        refine p_run (l' := _) _ (x_cmp (k := .i64) (m := pages) (n := 60) .gtr true rfl rfl rfl h1d rfl) rfl ?_
        refine p_run (l' := _) _ (x_pick false (.bool true) (.bool true) (.bool true) rfl rfl rfl rfl rfl) rfl ?_
        refine p_run (l' := [.int .i64 pages, .slice A1 l1.length c1, .slice A2 l2.length c2, u_, u_, u_, .bool false, u_, u_, u_, u_, u_, u_, u_, u_, u_, u_, u_, u_, u_, u_, u_, .bool true, .bool false, .int .i64 pages, .bool false, .bool false, .int .i64 pages, .bool true, .bool true, .bool true, u_, u_, u_, u_, u_, u_, u_, u_, u_, u_, u_, u_, u_, u_, u_, u_, u_, u_, u_, u_, u_, u_, u_, u_, u_, u_, u_, u_, u_, u_, u_, u_, u_, u_, u_, u_, u_, u_, u_, u_, u_, u_, u_, u_, u_, u_, u_, u_, u_, u_, u_, u_, u_, u_, u_, u_, u_, u_, u_, u_, u_, u_, u_, u_, u_, u_, u_, u_, u_, u_, u_, u_, u_, u_, u_, u_, u_, u_, u_, u_, u_, u_, u_, u_, u_, u_, u_, u_, u_, u_, u_, u_, u_, u_, u_, u_, u_, u_, u_, u_, u_, u_, u_, u_, u_, u_, u_, u_, u_, u_, u_, u_, u_, u_, u_, u_, u_, u_, u_, u_, u_, u_, u_, u_, u_, u_, u_, u_, u_, u_, u_, u_, u_, u_, u_, u_, u_, u_, u_, u_, u_, u_, u_, u_, u_, u_, u_, u_, u_]) _ (x_move (.bool true) rfl rfl) rfl ?_
        refine p_off (l' := _) (by rw [hops16]; rfl) rfl ?_
        refine p_off (l' := _) (by rw [hops16]; rfl) rfl ?_
        refine p_off (l' := _) (by rw [hops16]; rfl) rfl ?_
        refine p_run (l' := _) _ (x_pick true (.bool true) (u_) (.bool true) rfl rfl rfl rfl rfl) rfl ?_
        refine p_run (l' := _) _ (x_move (.bool true) rfl rfl) rfl ?_
        refine p_off (l' := _) (by rw [hops16]; rfl) rfl ?_
        refine p_off (l' := _) (by rw [hops16]; rfl) rfl ?_
        refine p_off (l' := _) (by rw [hops16]; rfl) rfl ?_
        refine p_run (l' := _) _ (x_pick true (.bool true) (u_) (.bool true) rfl rfl rfl rfl rfl) rfl ?_
        clear hops16
        refine wpList_nil ?_
        refine fr_at (l' := [.int .i64 pages, .slice A1 l1.length c1, .slice A2 l2.length c2, u_, u_, u_, .bool false, u_, u_, u_, u_, u_, u_, u_, u_, u_, u_, u_, u_, u_, u_, u_, .bool true, .bool false, .int .i64 pages, .bool false, .bool false, .int .i64 pages, .bool true, .bool true, .bool true, u_, u_, u_, .bool true, .bool true, u_, u_, u_, .bool true, u_, u_, u_, u_, u_, u_, u_, u_, u_, u_, u_, u_, u_, u_, u_, u_, u_, u_, u_, u_, u_, u_, u_, u_, u_, u_, u_, u_, u_, u_, u_, u_, u_, u_, u_, u_, u_, u_, u_, u_, u_, u_, u_, u_, u_, u_, u_, u_, u_, u_, u_, u_, u_, u_, u_, u_, u_, u_, u_, u_, u_, u_, u_, u_, u_, u_, u_, u_, u_, u_, u_, u_, u_, u_, u_, u_, u_, u_, u_, u_, u_, u_, u_, u_, u_, u_, u_, u_, u_, u_, u_, u_, u_, u_, u_, u_, u_, u_, u_, u_, u_, u_, u_, u_, u_, u_, u_, u_, u_, u_, u_, u_, u_, u_, u_, u_, u_, u_, u_, u_, u_, u_, u_, u_, u_, u_, u_, u_, u_, u_, u_, u_, u_, u_, u_, u_, u_, u_, u_, u_]) rfl ?_
        refine hK15 _ _ ?_
        refine c_true rfl ?_
        refine wp_seq_k (fun K18 hK19 => ?_)
        refine c_region (fun ops21 hops20 => ?_)
        clear hops20
        refine p_run (l' := _) _ (x_assign (.bool true) rfl rfl) rfl ?_
        refine wpList_nil ?_
        refine hK19 _ _ ?_
        refine wp_ret ?_
        try simp only [Exit.inBlock, Exit.then]
        refine c_ret (.bool true) (r_tmp rfl rfl) ?_
        exact ⟨rfl, HS.belowOf⟩
      · skip
        have h1d := decide_eq_false h1
        by_cases h2 : (l1.length : Int) > 80
        · skip
          have h2d := decide_eq_true h2
          refine c_enter Try.func5 rfl 180 rfl [.int .i64 pages, .slice A1 l1.length c1, .slice A2 l2.length c2, u_, u_, u_, u_, u_, u_, u_, u_, u_, u_, u_, u_, u_, u_, u_, u_, u_, u_, u_, u_, u_, u_, u_, u_, u_, u_, u_, u_, u_, u_, u_, u_, u_, u_, u_, u_, u_, u_, u_, u_, u_, u_, u_, u_, u_, u_, u_, u_, u_, u_, u_, u_, u_, u_, u_, u_, u_, u_, u_, u_, u_, u_, u_, u_, u_, u_, u_, u_, u_, u_, u_, u_, u_, u_, u_, u_, u_, u_, u_, u_, u_, u_, u_, u_, u_, u_, u_, u_, u_, u_, u_, u_, u_, u_, u_, u_, u_, u_, u_, u_, u_, u_, u_, u_, u_, u_, u_, u_, u_, u_, u_, u_, u_, u_, u_, u_, u_, u_, u_, u_, u_, u_, u_, u_, u_, u_, u_, u_, u_, u_, u_, u_, u_, u_, u_, u_, u_, u_, u_, u_, u_, u_, u_, u_, u_, u_, u_, u_, u_, u_, u_, u_, u_, u_, u_, u_, u_, u_, u_, u_, u_, u_, u_, u_, u_, u_, u_, u_, u_, u_, u_, u_, u_, u_, u_, u_, u_] rfl ?_
          refine wp_seq_k (fun K1 hK2 => ?_)
          refine c_region (fun ops4 hops3 => ?_)
          clear hops3
          refine p_run (l' := _) _ (x_assign (.bool false) rfl rfl) rfl ?_
          refine wpList_nil ?_
          refine hK2 _ _ ?_
          refine wp_seq_k (fun K5 hK6 => ?_)
          refine wp_seq_k (fun K7 hK8 => ?_)
          refine c_region (fun ops10 hops9 => ?_)
          clear hops9
          refine w_call [] Try.func9 (by kernel_rfl) (by rfl) rfl ?_
          refine (alive_any HS).mono ?_
          clear HS
          rintro e w11 ⟨rfl, HS⟩
          refine ⟨_, rfl, ?_⟩
          refine p_run (l' := _) _ (x_not true rfl rfl) rfl ?_
          refine wpList_nil ?_
          refine hK8 _ _ ?_
          refine c_false rfl ?_
          refine wp_skip ?_
          refine hK6 _ _ ?_
          refine wp_seq_k (fun K12 hK13 => ?_)
          refine wp_seq_k (fun K14 hK15 => ?_)
          refine c_region (fun ops17 hops16 => ?_)
          refine p_run (l' := _) _ (x_move (.int .i64 pages) rfl rfl) rfl ?_
          refine p_run (l' := _) _ (x_cmp (k := .i64) (m := pages) (n := 0) .lss false rfl rfl rfl h0d rfl) rfl ?_
          refine p_run (l' := _) _ (x_move (.bool false) rfl rfl) rfl ?_
          refine p_on rfl (by rw [hops16]; rfl) ?_
          refine p_run (l' := _) _ (x_move (.int .i64 pages) rfl rfl) rfl ?_
          refine p_on rfl (by rw [hops16]; rfl) ?_
          refine p_run (l' := _) _ (x_cmp (k := .i64) (m := pages) (n := 60) .gtr false rfl rfl rfl h1d rfl) rfl ?_
          refine p_run (l' := _) _ (x_pick false (.bool true) (.bool false) (.bool false) rfl rfl rfl rfl rfl) rfl ?_
          refine p_run (l' := [.int .i64 pages, .slice A1 l1.length c1, .slice A2 l2.length c2, u_, u_, u_, .bool false, u_, u_, u_, u_, u_, u_, u_, u_, u_, u_, u_, u_, u_, u_, u_, .bool true, .bool false, .int .i64 pages, .bool false, .bool false, .int .i64 pages, .bool false, .bool false, .bool false, u_, u_, u_, u_, u_, u_, u_, u_, u_, u_, u_, u_, u_, u_, u_, u_, u_, u_, u_, u_, u_, u_, u_, u_, u_, u_, u_, u_, u_, u_, u_, u_, u_, u_, u_, u_, u_, u_, u_, u_, u_, u_, u_, u_, u_, u_, u_, u_, u_, u_, u_, u_, u_, u_, u_, u_, u_, u_, u_, u_, u_, u_, u_, u_, u_, u_, u_, u_, u_, u_, u_, u_, u_, u_, u_, u_, u_, u_, u_, u_, u_, u_, u_, u_, u_, u_, u_, u_, u_, u_, u_, u_, u_, u_, u_, u_, u_, u_, u_, u_, u_, u_, u_, u_, u_, u_, u_, u_, u_, u_, u_, u_, u_, u_, u_, u_, u_, u_, u_, u_, u_, u_, u_, u_, u_, u_, u_, u_, u_, u_, u_, u_, u_, u_, u_, u_, u_, u_, u_, u_, u_, u_, u_, u_, u_, u_, u_, u_, u_]) _ (x_move (.bool false) rfl rfl) rfl ?_
          refine p_on rfl (by rw [hops16]; rfl) ?_
          refine p_run (l' := _) _ (x_move (.slice A1 l1.length c1) rfl rfl) rfl ?_
          refine p_on rfl (by rw [hops16]; rfl) ?_
          refine p_run (l' := _) _ (x_len rfl rfl Try.underlying35) rfl ?_
          refine p_on rfl (by rw [hops16]; rfl) ?_
          refine p_run (l' := _) _ (x_cmp (k := .i64) (m := (l1.length : Int)) (n := 80) .gtr true rfl rfl rfl h2d rfl) rfl ?_
          refine p_run (l' := _) _ (x_pick false (.bool true) (.bool true) (.bool true) rfl rfl rfl rfl rfl) rfl ?_
          refine p_run (l' := _) _ (x_move (.bool true) rfl rfl) rfl ?_
          refine p_off (l' := _) (by rw [hops16]; rfl) rfl ?_
          refine p_off (l' := _) (by rw [hops16]; rfl) rfl ?_
          refine p_off (l' := _) (by rw [hops16]; rfl) rfl ?_
          refine p_run (l' := _) _ (x_pick true (.bool true) (u_) (.bool true) rfl rfl rfl rfl rfl) rfl ?_
          clear hops16
          refine wpList_nil ?_
          refine fr_at (l' := [.int .i64 pages, .slice A1 l1.length c1, .slice A2 l2.length c2, u_, u_, u_, .bool false, u_, u_, u_, u_, u_, u_, u_, u_, u_, u_, u_, u_, u_, u_, u_, .bool true, .bool false, .int .i64 pages, .bool false, .bool false, .int .i64 pages, .bool false, .bool false, .bool false, .slice A1 l1.length c1, .int .i64 (l1.length : Int), .bool true, .bool true, .bool true, u_, u_, u_, .bool true, u_, u_, u_, u_, u_, u_, u_, u_, u_, u_, u_, u_, u_, u_, u_, u_, u_, u_, u_, u_, u_, u_, u_, u_, u_, u_, u_, u_, u_, u_, u_, u_, u_, u_, u_, u_, u_, u_, u_, u_, u_, u_, u_, u_, u_, u_, u_, u_, u_, u_, u_, u_, u_, u_, u_, u_, u_, u_, u_, u_, u_, u_, u_, u_, u_, u_, u_, u_, u_, u_, u_, u_, u_, u_, u_, u_, u_, u_, u_, u_, u_, u_, u_, u_, u_, u_, u_, u_, u_, u_, u_, u_, u_, u_, u_, u_, u_, u_, u_, u_, u_, u_, u_, u_, u_, u_, u_, u_, u_, u_, u_, u_, u_, u_, u_, u_, u_, u_, u_, u_, u_, u_, u_, u_, u_, u_, u_, u_, u_, u_, u_, u_, u_, u_, u_, u_, u_, u_, u_, u_]) rfl ?_
          refine hK15 _ _ ?_
          refine c_true rfl ?_
          refine wp_seq_k (fun K18 hK19 => ?_)
          refine c_region (fun ops21 hops20 => ?_)
          clear hops20
          refine p_run (l' := _) _ (x_assign (.bool true) rfl rfl) rfl ?_
          refine wpList_nil ?_
          refine hK19 _ _ ?_
          refine wp_ret ?_
          try simp only [Exit.inBlock, Exit.then]
          refine c_ret (.bool true) (r_tmp rfl rfl) ?_
          exact ⟨rfl, HS.belowOf⟩
        · skip
          have h2d := decide_eq_false h2
          by_cases h3 : (l2.length : Int) > 200
          · skip
            have h3d := decide_eq_true h3
            refine c_enter Try.func5 rfl 180 rfl [.int .i64 pages, .slice A1 l1.length c1, .slice A2 l2.length c2, u_, u_, u_, u_, u_, u_, u_, u_, u_, u_, u_, u_, u_, u_, u_, u_, u_, u_, u_, u_, u_, u_, u_, u_, u_, u_, u_, u_, u_, u_, u_, u_, u_, u_, u_, u_, u_, u_, u_, u_, u_, u_, u_, u_, u_, u_, u_, u_, u_, u_, u_, u_, u_, u_, u_, u_, u_, u_, u_, u_, u_, u_, u_, u_, u_, u_, u_, u_, u_, u_, u_, u_, u_, u_, u_, u_, u_, u_, u_, u_, u_, u_, u_, u_, u_, u_, u_, u_, u_, u_, u_, u_, u_, u_, u_, u_, u_, u_, u_, u_, u_, u_, u_, u_, u_, u_, u_, u_, u_, u_, u_, u_, u_, u_, u_, u_, u_, u_, u_, u_, u_, u_, u_, u_, u_, u_, u_, u_, u_, u_, u_, u_, u_, u_, u_, u_, u_, u_, u_, u_, u_, u_, u_, u_, u_, u_, u_, u_, u_, u_, u_, u_, u_, u_, u_, u_, u_, u_, u_, u_, u_, u_, u_, u_, u_, u_, u_, u_, u_, u_, u_, u_, u_, u_, u_, u_, u_] rfl ?_
            refine wp_seq_k (fun K1 hK2 => ?_)
            refine c_region (fun ops4 hops3 => ?_)
            clear hops3
            refine p_run (l' := _) _ (x_assign (.bool false) rfl rfl) rfl ?_
            refine wpList_nil ?_
            refine hK2 _ _ ?_
            refine wp_seq_k (fun K5 hK6 => ?_)
            refine wp_seq_k (fun K7 hK8 => ?_)
            refine c_region (fun ops10 hops9 => ?_)
            clear hops9
            refine w_call [] Try.func9 (by kernel_rfl) (by rfl) rfl ?_
            refine (alive_any HS).mono ?_
            clear HS
            rintro e w11 ⟨rfl, HS⟩
            refine ⟨_, rfl, ?_⟩
            refine p_run (l' := _) _ (x_not true rfl rfl) rfl ?_
            refine wpList_nil ?_
            refine hK8 _ _ ?_
            refine c_false rfl ?_
            refine wp_skip ?_
            refine hK6 _ _ ?_
            refine wp_seq_k (fun K12 hK13 => ?_)
            refine wp_seq_k (fun K14 hK15 => ?_)
            refine c_region (fun ops17 hops16 => ?_)
            refine p_run (l' := _) _ (x_move (.int .i64 pages) rfl rfl) rfl ?_
            refine p_run (l' := _) _ (x_cmp (k := .i64) (m := pages) (n := 0) .lss false rfl rfl rfl h0d rfl) rfl ?_
            refine p_run (l' := _) _ (x_move (.bool false) rfl rfl) rfl ?_
            refine p_on rfl (by rw [hops16]; rfl) ?_
            refine p_run (l' := _) _ (x_move (.int .i64 pages) rfl rfl) rfl ?_
            refine p_on rfl (by rw [hops16]; rfl) ?_
            refine p_run (l' := _) _ (x_cmp (k := .i64) (m := pages) (n := 60) .gtr false rfl rfl rfl h1d rfl) rfl ?_
            refine p_run (l' := _) _ (x_pick false (.bool true) (.bool false) (.bool false) rfl rfl rfl rfl rfl) rfl ?_
            refine p_run (l' := [.int .i64 pages, .slice A1 l1.length c1, .slice A2 l2.length c2, u_, u_, u_, .bool false, u_, u_, u_, u_, u_, u_, u_, u_, u_, u_, u_, u_, u_, u_, u_, .bool true, .bool false, .int .i64 pages, .bool false, .bool false, .int .i64 pages, .bool false, .bool false, .bool false, u_, u_, u_, u_, u_, u_, u_, u_, u_, u_, u_, u_, u_, u_, u_, u_, u_, u_, u_, u_, u_, u_, u_, u_, u_, u_, u_, u_, u_, u_, u_, u_, u_, u_, u_, u_, u_, u_, u_, u_, u_, u_, u_, u_, u_, u_, u_, u_, u_, u_, u_, u_, u_, u_, u_, u_, u_, u_, u_, u_, u_, u_, u_, u_, u_, u_, u_, u_, u_, u_, u_, u_, u_, u_, u_, u_, u_, u_, u_, u_, u_, u_, u_, u_, u_, u_, u_, u_, u_, u_, u_, u_, u_, u_, u_, u_, u_, u_, u_, u_, u_, u_, u_, u_, u_, u_, u_, u_, u_, u_, u_, u_, u_, u_, u_, u_, u_, u_, u_, u_, u_, u_, u_, u_, u_, u_, u_, u_, u_, u_, u_, u_, u_, u_, u_, u_, u_, u_, u_, u_, u_, u_, u_, u_, u_, u_, u_, u_, u_]) _ (x_move (.bool false) rfl rfl) rfl ?_
            refine p_on rfl (by rw [hops16]; rfl) ?_
            refine p_run (l' := _) _ (x_move (.slice A1 l1.length c1) rfl rfl) rfl ?_
            refine p_on rfl (by rw [hops16]; rfl) ?_
            refine p_run (l' := _) _ (x_len rfl rfl Try.underlying35) rfl ?_
            refine p_on rfl (by rw [hops16]; rfl) ?_
            refine p_run (l' := _) _ (x_cmp (k := .i64) (m := (l1.length : Int)) (n := 80) .gtr false rfl rfl rfl h2d rfl) rfl ?_
            refine p_run (l' := _) _ (x_pick false (.bool true) (.bool false) (.bool false) rfl rfl rfl rfl rfl) rfl ?_
            refine p_run (l' := _) _ (x_move (.bool false) rfl rfl) rfl ?_
            refine p_on rfl (by rw [hops16]; rfl) ?_
            refine p_run (l' := _) _ (x_move (.slice A2 l2.length c2) rfl rfl) rfl ?_
            refine p_on rfl (by rw [hops16]; rfl) ?_
            refine p_run (l' := _) _ (x_len rfl rfl Try.underlying36) rfl ?_
            refine p_on rfl (by rw [hops16]; rfl) ?_
            refine p_run (l' := _) _ (x_cmp (k := .i64) (m := (l2.length : Int)) (n := 200) .gtr true rfl rfl rfl h3d rfl) rfl ?_
            refine p_run (l' := _) _ (x_pick false (.bool true) (.bool true) (.bool true) rfl rfl rfl rfl rfl) rfl ?_
            clear hops16
            refine wpList_nil ?_
            refine fr_at (l' := [.int .i64 pages, .slice A1 l1.length c1, .slice A2 l2.length c2, u_, u_, u_, .bool false, u_, u_, u_, u_, u_, u_, u_, u_, u_, u_, u_, u_, u_, u_, u_, .bool true, .bool false, .int .i64 pages, .bool false, .bool false, .int .i64 pages, .bool false, .bool false, .bool false, .slice A1 l1.length c1, .int .i64 (l1.length : Int), .bool false, .bool false, .bool false, .slice A2 l2.length c2, .int .i64 (l2.length : Int), .bool true, .bool true, u_, u_, u_, u_, u_, u_, u_, u_, u_, u_, u_, u_, u_, u_, u_, u_, u_, u_, u_, u_, u_, u_, u_, u_, u_, u_, u_, u_, u_, u_, u_, u_, u_, u_, u_, u_, u_, u_, u_, u_, u_, u_, u_, u_, u_, u_, u_, u_, u_, u_, u_, u_, u_, u_, u_, u_, u_, u_, u_, u_, u_, u_, u_, u_, u_, u_, u_, u_, u_, u_, u_, u_, u_, u_, u_, u_, u_, u_, u_, u_, u_, u_, u_, u_, u_, u_, u_, u_, u_, u_, u_, u_, u_, u_, u_, u_, u_, u_, u_, u_, u_, u_, u_, u_, u_, u_, u_, u_, u_, u_, u_, u_, u_, u_, u_, u_, u_, u_, u_, u_, u_, u_, u_, u_, u_, u_, u_, u_, u_, u_, u_, u_, u_, u_, u_, u_, u_, u_, u_, u_]) rfl ?_
            refine hK15 _ _ ?_
            refine c_true rfl ?_
            refine wp_seq_k (fun K18 hK19 => ?_)
            refine c_region (fun ops21 hops20 => ?_)
            clear hops20
            refine p_run (l' := _) _ (x_assign (.bool true) rfl rfl) rfl ?_
            refine wpList_nil ?_
            refine hK19 _ _ ?_
            refine wp_ret ?_
            try simp only [Exit.inBlock, Exit.then]
            refine c_ret (.bool true) (r_tmp rfl rfl) ?_
            exact ⟨rfl, HS.belowOf⟩
          · skip
            have h3d := decide_eq_false h3
            · skip
              obtain ⟨np, rfl⟩ : ∃ np : Nat, pages = (np : Int) := ⟨pages.toNat, by omega⟩
              refine c_enter Try.func5 rfl 180 rfl [.int .i64 (np : Int), .slice A1 l1.length c1, .slice A2 l2.length c2, u_, u_, u_, u_, u_, u_, u_, u_, u_, u_, u_, u_, u_, u_, u_, u_, u_, u_, u_, u_, u_, u_, u_, u_, u_, u_, u_, u_, u_, u_, u_, u_, u_, u_, u_, u_, u_, u_, u_, u_, u_, u_, u_, u_, u_, u_, u_, u_, u_, u_, u_, u_, u_, u_, u_, u_, u_, u_, u_, u_, u_, u_, u_, u_, u_, u_, u_, u_, u_, u_, u_, u_, u_, u_, u_, u_, u_, u_, u_, u_, u_, u_, u_, u_, u_, u_, u_, u_, u_, u_, u_, u_, u_, u_, u_, u_, u_, u_, u_, u_, u_, u_, u_, u_, u_, u_, u_, u_, u_, u_, u_, u_, u_, u_, u_, u_, u_, u_, u_, u_, u_, u_, u_, u_, u_, u_, u_, u_, u_, u_, u_, u_, u_, u_, u_, u_, u_, u_, u_, u_, u_, u_, u_, u_, u_, u_, u_, u_, u_, u_, u_, u_, u_, u_, u_, u_, u_, u_, u_, u_, u_, u_, u_, u_, u_, u_, u_, u_, u_, u_, u_, u_, u_, u_, u_, u_, u_] rfl ?_
              refine wp_seq_k (fun K1 hK2 => ?_)
              refine c_region (fun ops4 hops3 => ?_)
              clear hops3
              refine p_run (l' := _) _ (x_assign (.bool false) rfl rfl) rfl ?_
              refine wpList_nil ?_
              refine hK2 _ _ ?_
              refine wp_seq_k (fun K5 hK6 => ?_)
              refine wp_seq_k (fun K7 hK8 => ?_)
              refine c_region (fun ops10 hops9 => ?_)
              clear hops9
              refine w_call [] Try.func9 (by kernel_rfl) (by rfl) rfl ?_
              refine (alive_any HS).mono ?_
              clear HS
              rintro e w11 ⟨rfl, HS⟩
              refine ⟨_, rfl, ?_⟩
              refine p_run (l' := _) _ (x_not true rfl rfl) rfl ?_
              refine wpList_nil ?_
              refine hK8 _ _ ?_
              refine c_false rfl ?_
              refine wp_skip ?_
              refine hK6 _ _ ?_
              refine wp_seq_k (fun K12 hK13 => ?_)
              refine wp_seq_k (fun K14 hK15 => ?_)
              refine c_region (fun ops17 hops16 => ?_)
              refine p_run (l' := _) _ (x_move (.int .i64 (np : Int)) rfl rfl) rfl ?_
              refine p_run (l' := _) _ (x_cmp (k := .i64) (m := (np : Int)) (n := 0) .lss false rfl rfl rfl h0d rfl) rfl ?_
              refine p_run (l' := _) _ (x_move (.bool false) rfl rfl) rfl ?_
              refine p_on rfl (by rw [hops16]; rfl) ?_
              refine p_run (l' := _) _ (x_move (.int .i64 (np : Int)) rfl rfl) rfl ?_
              refine p_on rfl (by rw [hops16]; rfl) ?_
              refine p_run (l' := _) _ (x_cmp (k := .i64) (m := (np : Int)) (n := 60) .gtr false rfl rfl rfl h1d rfl) rfl ?_
              refine p_run (l' := _) _ (x_pick false (.bool true) (.bool false) (.bool false) rfl rfl rfl rfl rfl) rfl ?_
              refine p_run (l' := [.int .i64 (np : Int), .slice A1 l1.length c1, .slice A2 l2.length c2, u_, u_, u_, .bool false, u_, u_, u_, u_, u_, u_, u_, u_, u_, u_, u_, u_, u_, u_, u_, .bool true, .bool false, .int .i64 (np : Int), .bool false, .bool false, .int .i64 (np : Int), .bool false, .bool false, .bool false, u_, u_, u_, u_, u_, u_, u_, u_, u_, u_, u_, u_, u_, u_, u_, u_, u_, u_, u_, u_, u_, u_, u_, u_, u_, u_, u_, u_, u_, u_, u_, u_, u_, u_, u_, u_, u_, u_, u_, u_, u_, u_, u_, u_, u_, u_, u_, u_, u_, u_, u_, u_, u_, u_, u_, u_, u_, u_, u_, u_, u_, u_, u_, u_, u_, u_, u_, u_, u_, u_, u_, u_, u_, u_, u_, u_, u_, u_, u_, u_, u_, u_, u_, u_, u_, u_, u_, u_, u_, u_, u_, u_, u_, u_, u_, u_, u_, u_, u_, u_, u_, u_, u_, u_, u_, u_, u_, u_, u_, u_, u_, u_, u_, u_, u_, u_, u_, u_, u_, u_, u_, u_, u_, u_, u_, u_, u_, u_, u_, u_, u_, u_, u_, u_, u_, u_, u_, u_, u_, u_, u_, u_, u_, u_, u_, u_, u_, u_, u_]) _ (x_move (.bool false) rfl rfl) rfl ?_
              refine p_on rfl (by rw [hops16]; rfl) ?_
              refine p_run (l' := _) _ (x_move (.slice A1 l1.length c1) rfl rfl) rfl ?_
              refine p_on rfl (by rw [hops16]; rfl) ?_
              refine p_run (l' := _) _ (x_len rfl rfl Try.underlying35) rfl ?_
              refine p_on rfl (by rw [hops16]; rfl) ?_
              refine p_run (l' := _) _ (x_cmp (k := .i64) (m := (l1.length : Int)) (n := 80) .gtr false rfl rfl rfl h2d rfl) rfl ?_
              refine p_run (l' := _) _ (x_pick false (.bool true) (.bool false) (.bool false) rfl rfl rfl rfl rfl) rfl ?_
              refine p_run (l' := _) _ (x_move (.bool false) rfl rfl) rfl ?_
              refine p_on rfl (by rw [hops16]; rfl) ?_
              refine p_run (l' := _) _ (x_move (.slice A2 l2.length c2) rfl rfl) rfl ?_
              refine p_on rfl (by rw [hops16]; rfl) ?_
              refine p_run (l' := _) _ (x_len rfl rfl Try.underlying36) rfl ?_
              refine p_on rfl (by rw [hops16]; rfl) ?_
              refine p_run (l' := _) _ (x_cmp (k := .i64) (m := (l2.length : Int)) (n := 200) .gtr false rfl rfl rfl h3d rfl) rfl ?_
              refine p_run (l' := _) _ (x_pick false (.bool true) (.bool false) (.bool false) rfl rfl rfl rfl rfl) rfl ?_
              clear hops16
              refine wpList_nil ?_
              refine fr_at (l' := [.int .i64 (np : Int), .slice A1 l1.length c1, .slice A2 l2.length c2, u_, u_, u_, .bool false, u_, u_, u_, u_, u_, u_, u_, u_, u_, u_, u_, u_, u_, u_, u_, .bool true, .bool false, .int .i64 (np : Int), .bool false, .bool false, .int .i64 (np : Int), .bool false, .bool false, .bool false, .slice A1 l1.length c1, .int .i64 (l1.length : Int), .bool false, .bool false, .bool false, .slice A2 l2.length c2, .int .i64 (l2.length : Int), .bool false, .bool false, u_, u_, u_, u_, u_, u_, u_, u_, u_, u_, u_, u_, u_, u_, u_, u_, u_, u_, u_, u_, u_, u_, u_, u_, u_, u_, u_, u_, u_, u_, u_, u_, u_, u_, u_, u_, u_, u_, u_, u_, u_, u_, u_, u_, u_, u_, u_, u_, u_, u_, u_, u_, u_, u_, u_, u_, u_, u_, u_, u_, u_, u_, u_, u_, u_, u_, u_, u_, u_, u_, u_, u_, u_, u_, u_, u_, u_, u_, u_, u_, u_, u_, u_, u_, u_, u_, u_, u_, u_, u_, u_, u_, u_, u_, u_, u_, u_, u_, u_, u_, u_, u_, u_, u_, u_, u_, u_, u_, u_, u_, u_, u_, u_, u_, u_, u_, u_, u_, u_, u_, u_, u_, u_, u_, u_, u_, u_, u_, u_, u_, u_, u_, u_, u_, u_, u_, u_, u_, u_, u_]) rfl ?_
              refine hK15 _ _ ?_
              refine c_false rfl ?_
              refine wp_skip ?_
              refine hK13 _ _ ?_
              refine wp_seq_k (fun K18 hK19 => ?_)
              refine c_region (fun ops21 hops20 => ?_)
              clear hops20
              refine p_run (l' := _) _ (x_move (.int .i64 (np : Int)) rfl rfl) rfl ?_
              refine w_call [.int .i64 (np : Int)] Try.func10 (by kernel_rfl) (by rfl) rfl ?_
              refine (new_any HS (np : Int)).mono ?_
              clear HS
              rintro e w25 ⟨D22, gs23, gm24, rfl, HS⟩
              have hgd26 := good_new (np : Int)
              refine ⟨_, rfl, ?_⟩
              refine p_run (l' := _) _ (x_assign (.pointer (some ⟨D22, 0, none⟩)) rfl rfl) rfl ?_
              refine wpList_nil ?_
              refine hK19 _ _ ?_
              refine wp_seq_k (fun K27 hK28 => ?_)
              refine c_region (fun ops30 hops29 => ?_)
              clear hops29
              refine p_run (l' := _) _ (x_move (.int .i64 (np : Int)) rfl rfl) rfl ?_
              refine St.wMake HS (n := np) (bytes := 24) (.slice none 0 0) 1 Try.underlying44 (by kernel_rfl) rfl rfl (by omega) (by omega) ?_
              clear HS
              intro g31 w32 hg33 HS
              rw [made_mv] at HS
              refine p_run (l' := _) _ (x_assign (.slice (some ⟨g31, 0, none⟩) np np) rfl rfl) rfl ?_
              refine wpList_nil ?_
              refine hK28 _ _ ?_
              refine wp_seq_k (fun K34 hK35 => ?_)
              refine wp_seq_k (fun K36 hK37 => ?_)
              refine c_region (fun ops39 hops38 => ?_)
              clear hops38
              refine p_run (l' := _) _ (x_move (.slice (some ⟨g31, 0, none⟩) np np) rfl rfl) rfl ?_
              refine p_run (l' := _) _ (x_len rfl rfl Try.underlying44) rfl ?_
              refine p_run (l' := _) _ (x_move (.int .i64 0) rfl rfl) rfl ?_
              refine wpList_nil ?_
              refine fr_at (l' := [.int .i64 (np : Int), .slice A1 l1.length c1, .slice A2 l2.length c2, u_, u_, u_, .bool false, .pointer (some ⟨D22, 0, none⟩), .slice (some ⟨g31, 0, none⟩) np np, u_, u_, u_, u_, u_, u_, u_, u_, u_, u_, u_, u_, u_, .bool true, .bool false, .int .i64 (np : Int), .bool false, .bool false, .int .i64 (np : Int), .bool false, .bool false, .bool false, .slice A1 l1.length c1, .int .i64 (l1.length : Int), .bool false, .bool false, .bool false, .slice A2 l2.length c2, .int .i64 (l2.length : Int), .bool false, .bool false, .int .i64 (np : Int), .pointer (some ⟨D22, 0, none⟩), .int .i64 (np : Int), .slice (some ⟨g31, 0, none⟩) np np, .slice (some ⟨g31, 0, none⟩) np np, .int .i64 (np : Int), .int .i64 0, u_, u_, u_, u_, u_, u_, u_, u_, u_, u_, u_, u_, u_, u_, u_, u_, u_, u_, u_, u_, u_, u_, u_, u_, u_, u_, u_, u_, u_, u_, u_, u_, u_, u_, u_, u_, u_, u_, u_, u_, u_, u_, u_, u_, u_, u_, u_, u_, u_, u_, u_, u_, u_, u_, u_, u_, u_, u_, u_, u_, u_, u_, u_, u_, u_, u_, u_, u_, u_, u_, u_, u_, u_, u_, u_, u_, u_, u_, u_, u_, u_, u_, u_, u_, u_, u_, u_, u_, u_, u_, u_, u_, u_, u_, u_, u_, u_, u_, u_, u_, u_, u_, u_, u_, u_, u_, u_, u_, u_, u_, u_, u_, u_, u_, u_, u_, u_, u_, u_, u_, u_, u_, u_, u_, u_, u_, u_, u_, u_, u_, u_, u_, u_]) rfl ?_
              refine hK37 _ _ ?_
              refine wp_block ?_
              replace HS := HS.pushNil
              refine c_loop (ι := Nat × List (Value × List Int)) (fun i_ a_ w_ => match i_ with | (j, rs) => ∃ (u9 : Value) (u47 : Value) (u48 : Value) (u49 : Value) (u50 : Value) (u51 : Value) (u52 : Value) (u53 : Value), a_ = fr [.int .i64 (np : Int), .slice A1 l1.length c1, .slice A2 l2.length c2, u_, u_, u_, .bool false, .pointer (some ⟨D22, 0, none⟩), .slice (some ⟨g31, 0, none⟩) np np, u9, u_, u_, u_, u_, u_, u_, u_, u_, u_, u_, u_, u_, .bool true, .bool false, .int .i64 (np : Int), .bool false, .bool false, .int .i64 (np : Int), .bool false, .bool false, .bool false, .slice A1 l1.length c1, .int .i64 (l1.length : Int), .bool false, .bool false, .bool false, .slice A2 l2.length c2, .int .i64 (l2.length : Int), .bool false, .bool false, .int .i64 (np : Int), .pointer (some ⟨D22, 0, none⟩), .int .i64 (np : Int), .slice (some ⟨g31, 0, none⟩) np np, .slice (some ⟨g31, 0, none⟩) np np, .int .i64 (np : Int), .int .i64 (j : Int), u47, u48, u49, u50, u51, u52, u53, u_, u_, u_, u_, u_, u_, u_, u_, u_, u_, u_, u_, u_, u_, u_, u_, u_, u_, u_, u_, u_, u_, u_, u_, u_, u_, u_, u_, u_, u_, u_, u_, u_, u_, u_, u_, u_, u_, u_, u_, u_, u_, u_, u_, u_, u_, u_, u_, u_, u_, u_, u_, u_, u_, u_, u_, u_, u_, u_, u_, u_, u_, u_, u_, u_, u_, u_, u_, u_, u_, u_, u_, u_, u_, u_, u_, u_, u_, u_, u_, u_, u_, u_, u_, u_, u_, u_, u_, u_, u_, u_, u_, u_, u_, u_, u_, u_, u_, u_, u_, u_, u_, u_, u_, u_, u_, u_, u_, u_, u_, u_, u_, u_, u_, u_, u_, u_, u_, u_, u_, u_, u_, u_, u_, u_, u_] ∧ St w (fun _ => False) w_ ([blk D22 (dskC gs23 gm24 (.slice none 0 0) (Dk.new (np : Int))) 66, blk gs23 (pgs (Dk.new (np : Int)).stable) 31, mapR gm24 (Dk.new (np : Int)).cnt (Dk.new (np : Int)).bad, row kWr rfl 71 (.slice none 0 0) (Dk.new (np : Int)).pending, blk g31 ((mv np rs)) 36, allR (mr rs)]) ∧ (rs.length = j ∧ rs.map (·.2) = List.replicate j [0] ∧ j ≤ np)) (fun i_ => match i_ with | (j, rs) => np - j) (0, []) ?_ ?_
              · exact ⟨_, _, _, _, _, _, _, _, rfl, (((((HS.front 1 rfl).front 5 rfl).front 5 rfl).front 5 rfl).front 5 rfl), ⟨rfl, rfl, Nat.zero_le _⟩⟩
              · clear HS
                rintro ⟨j, rs⟩ a_ w42 ⟨u9, u47, u48, u49, u50, u51, u52, u53, rfl, HS, hI⟩ J40 hJ41
                obtain ⟨hrl, hrs, hjl⟩ := hI
                refine wp_seq_k (fun K43 hK44 => ?_)
                refine c_region (fun ops46 hops45 => ?_)
                clear hops45
                refine p_run (l' := _) _ (x_cmp (k := .i64) (m := (j : Int)) (n := (np : Int)) .lss (decide ((j : Int) < (np : Int))) rfl rfl rfl rfl rfl) rfl ?_
                refine wpList_nil ?_
                refine hK44 _ _ ?_
                refine wp_seq_k (fun K47 hK48 => ?_)
                refine c_cond (t := decide ((j : Int) < (np : Int))) rfl (fun hc49 => ?_) (fun hc49 => ?_)
                · have hlt : j < np := by have := of_decide_eq_true hc49; omega
                  refine wp_skip ?_
                  refine hK48 _ _ ?_
                  refine wp_seq_k (fun K50 hK51 => ?_)
                  refine wp_block ?_
                  refine wp_seq_k (fun K52 hK53 => ?_)
                  refine c_region (fun ops55 hops54 => ?_)
                  clear hops54
                  refine p_run (l' := _) _ (x_move (.int .i64 (j : Int)) rfl rfl) rfl ?_
                  refine p_run (l' := _) _ (x_assign (.int .i64 (j : Int)) rfl rfl) rfl ?_
                  refine wpList_nil ?_
                  refine hK53 _ _ ?_
                  refine c_region (fun ops57 hops56 => ?_)
                  clear hops56
                  refine p_run (l' := _) _ (x_move (.slice (some ⟨g31, 0, none⟩) np np) rfl rfl) rfl ?_
                  refine p_run (l' := _) _ (x_move (.int .i64 (j : Int)) rfl rfl) rfl ?_
                  refine St.wLit1 HS [.int .u8 0] 1 (.int .u8 0) (.int .u8 0) Try.underlying36 (by kernel_rfl) (by decide) rfl rfl rfl ?_
                  clear HS
                  intro g58 w59 hg60 HS
                  refine p_run (l' := _) (.pointer (some ⟨g31, j * 1, none⟩)) ((x_index (A := ⟨g31, 0, none⟩) (j := j * 1) (sz := 1) rfl rfl rfl Try.underlying44 (by kernel_rfl) (by omega) rfl).trans (by rw [add_mk, Nat.zero_add])) rfl ?_
                  refine St.store (cs' := (mv np (rs ++ [(.slice (some ⟨g58, 0, none⟩) 1 1, [0])]))) (HS.front 5 rfl) (.slice (some ⟨g58, 0, none⟩) 1 1) rfl rfl rfl (by kernel_rfl) (decide_eq_true (by rw [mv_length (by omega)]; omega)) ((congrArg (fun m => (mv np rs).set m _) (Nat.mul_one j)).trans (mv_put hrl hlt _ _)) ?_
                  clear HS
                  intro w61 HS
                  refine wpList_nil ?_
                  refine hK51 _ _ ?_
                  refine c_region (fun ops63 hops62 => ?_)
                  clear hops62
                  refine p_run (l' := _) _ (x_arith (k := .i64) (m := (j : Int)) (n := 1) .add (((j + 1 : Nat) : Int)) rfl rfl rfl (show IntKind.i64.wrap ((j : Int) + 1) = ((j + 1 : Nat) : Int) from ((wr64 (by omega)).trans (by omega))) rfl) rfl ?_
                  refine p_run (l' := _) _ (x_move (.int .i64 ((j + 1 : Nat) : Int)) rfl rfl) rfl ?_
                  refine wpList_nil ?_
                  refine fr_at (l' := [.int .i64 (np : Int), .slice A1 l1.length c1, .slice A2 l2.length c2, u_, u_, u_, .bool false, .pointer (some ⟨D22, 0, none⟩), .slice (some ⟨g31, 0, none⟩) np np, .int .i64 (j : Int), u_, u_, u_, u_, u_, u_, u_, u_, u_, u_, u_, u_, .bool true, .bool false, .int .i64 (np : Int), .bool false, .bool false, .int .i64 (np : Int), .bool false, .bool false, .bool false, .slice A1 l1.length c1, .int .i64 (l1.length : Int), .bool false, .bool false, .bool false, .slice A2 l2.length c2, .int .i64 (l2.length : Int), .bool false, .bool false, .int .i64 (np : Int), .pointer (some ⟨D22, 0, none⟩), .int .i64 (np : Int), .slice (some ⟨g31, 0, none⟩) np np, .slice (some ⟨g31, 0, none⟩) np np, .int .i64 (np : Int), .int .i64 ((j + 1 : Nat) : Int), .bool (decide ((j : Int) < (np : Int))), .int .i64 (j : Int), .slice (some ⟨g31, 0, none⟩) np np, .int .i64 (j : Int), .slice (some ⟨g58, 0, none⟩) 1 1, .pointer (some ⟨g31, j * 1, none⟩), .int .i64 ((j + 1 : Nat) : Int), u_, u_, u_, u_, u_, u_, u_, u_, u_, u_, u_, u_, u_, u_, u_, u_, u_, u_, u_, u_, u_, u_, u_, u_, u_, u_, u_, u_, u_, u_, u_, u_, u_, u_, u_, u_, u_, u_, u_, u_, u_, u_, u_, u_, u_, u_, u_, u_, u_, u_, u_, u_, u_, u_, u_, u_, u_, u_, u_, u_, u_, u_, u_, u_, u_, u_, u_, u_, u_, u_, u_, u_, u_, u_, u_, u_, u_, u_, u_, u_, u_, u_, u_, u_, u_, u_, u_, u_, u_, u_, u_, u_, u_, u_, u_, u_, u_, u_, u_, u_, u_, u_, u_, u_, u_, u_, u_, u_, u_, u_, u_, u_, u_, u_, u_, u_, u_, u_, u_, u_, u_, u_, u_, u_, u_, u_]) rfl ?_
                  replace HS := ((HS.front 6 rfl).front 2 rfl)
                  replace HS := HS.alter (orow_blk (xs := [0]) (e := 5) (g := g58) HS.hs.head (by decide)) (fun b hb => (Option.some.inj hb).symm)
                  replace HS := HS.pushM
                  refine hJ41 (j + 1, (rs ++ [(Value.slice (some ⟨g58, 0, none⟩) 1 1, [0])])) _ _ ?_ ?_
                  · show np - (j + 1) < np - j; omega
                  · exact ⟨_, _, _, _, _, _, _, _, rfl, (((((HS.front 1 rfl).front 5 rfl).front 5 rfl).front 5 rfl).front 5 rfl), ⟨by rw [List.length_append, hrl]; rfl, by rw [List.map_append, hrs, List.replicate_succ']; rfl, by omega⟩⟩
                · obtain rfl : np = j := by have := of_decide_eq_false hc49; omega
                  have hrl0 := hrl
                  have hrs0 := hrs
                  skip
                  refine wp_exit ?_
                  refine hK35 _ _ ?_
                  refine wp_seq_k (fun K64 hK65 => ?_)
                  refine wp_seq_k (fun K66 hK67 => ?_)
                  refine c_region (fun ops69 hops68 => ?_)
                  clear hops68
                  refine p_run (l' := _) _ (x_move (.slice A1 l1.length c1) rfl rfl) rfl ?_
                  refine p_run (l' := _) _ (x_len rfl rfl Try.underlying35) rfl ?_
                  refine p_run (l' := _) _ (x_move (.int .i64 0) rfl rfl) rfl ?_
                  refine wpList_nil ?_
                  refine fr_at (l' := [.int .i64 (np : Int), .slice A1 l1.length c1, .slice A2 l2.length c2, u_, u_, u_, .bool false, .pointer (some ⟨D22, 0, none⟩), .slice (some ⟨g31, 0, none⟩) np np, u9, u_, u_, u_, u_, u_, u_, u_, u_, u_, u_, u_, u_, .bool true, .bool false, .int .i64 (np : Int), .bool false, .bool false, .int .i64 (np : Int), .bool false, .bool false, .bool false, .slice A1 l1.length c1, .int .i64 (l1.length : Int), .bool false, .bool false, .bool false, .slice A2 l2.length c2, .int .i64 (l2.length : Int), .bool false, .bool false, .int .i64 (np : Int), .pointer (some ⟨D22, 0, none⟩), .int .i64 (np : Int), .slice (some ⟨g31, 0, none⟩) np np, .slice (some ⟨g31, 0, none⟩) np np, .int .i64 (np : Int), .int .i64 (np : Int), .bool (decide ((np : Int) < (np : Int))), u48, u49, u50, u51, u52, u53, .slice A1 l1.length c1, .int .i64 (l1.length : Int), .int .i64 0, u_, u_, u_, u_, u_, u_, u_, u_, u_, u_, u_, u_, u_, u_, u_, u_, u_, u_, u_, u_, u_, u_, u_, u_, u_, u_, u_, u_, u_, u_, u_, u_, u_, u_, u_, u_, u_, u_, u_, u_, u_, u_, u_, u_, u_, u_, u_, u_, u_, u_, u_, u_, u_, u_, u_, u_, u_, u_, u_, u_, u_, u_, u_, u_, u_, u_, u_, u_, u_, u_, u_, u_, u_, u_, u_, u_, u_, u_, u_, u_, u_, u_, u_, u_, u_, u_, u_, u_, u_, u_, u_, u_, u_, u_, u_, u_, u_, u_, u_, u_, u_, u_, u_, u_, u_, u_, u_, u_, u_, u_, u_, u_, u_, u_, u_, u_, u_, u_, u_, u_, u_, u_, u_]) rfl ?_
                  refine hK67 _ _ ?_
                  refine wp_block ?_
                  refine c_loop (ι := Nat × Dk × Value × List (Value × List Int)) (fun i_ a_ w_ => match i_ with | (i, S, v1, ro) => ∃ (uq70 : Value × Value × Value × Value × Value × Value) (uq71 : Value × Value × Value × Value × Value × Value) (uq72 : Value × Value × Value × Value × Value × Value) (uq73 : Value × Value × Value × Value × Value × Value) (uq74 : Value × Value × Value × Value × Value × Value) (uq75 : Value × Value × Value × Value × Value × Value) (uq76 : Value × Value × Value × Value × Value × Value) (uq77 : Value × Value × Value × Value × Value × Value) (uq78 : Value × Value × Value × Value × Value × Value) (uq79 : Value × Value × Value × Value × Value × Value) (uq80 : Value × Value × Value × Value × Value × Value) (uq81 : Value), a_ = fr [.int .i64 (np : Int), .slice A1 l1.length c1, .slice A2 l2.length c2, u_, u_, u_, .bool false, .pointer (some ⟨D22, 0, none⟩), .slice (some ⟨g31, 0, none⟩) np np, u9, u_, uq70.1, uq70.2.1, u_, u_, u_, u_, u_, u_, u_, u_, u_, .bool true, .bool false, .int .i64 (np : Int), .bool false, .bool false, .int .i64 (np : Int), .bool false, .bool false, .bool false, .slice A1 l1.length c1, .int .i64 (l1.length : Int), .bool false, .bool false, .bool false, .slice A2 l2.length c2, .int .i64 (l2.length : Int), .bool false, .bool false, .int .i64 (np : Int), .pointer (some ⟨D22, 0, none⟩), .int .i64 (np : Int), .slice (some ⟨g31, 0, none⟩) np np, .slice (some ⟨g31, 0, none⟩) np np, .int .i64 (np : Int), .int .i64 (np : Int), .bool (decide ((np : Int) < (np : Int))), u48, u49, u50, u51, u52, u53, .slice A1 l1.length c1, .int .i64 (l1.length : Int), .int .i64 (i : Int), uq70.2.2.1, uq70.2.2.2.1, uq70.2.2.2.2.1, uq70.2.2.2.2.2, uq71.1, uq71.2.1, uq71.2.2.1, uq71.2.2.2.1, uq71.2.2.2.2.1, uq71.2.2.2.2.2, uq72.1, uq72.2.1, uq72.2.2.1, uq72.2.2.2.1, uq72.2.2.2.2.1, uq72.2.2.2.2.2, uq73.1, uq73.2.1, uq73.2.2.1, uq73.2.2.2.1, uq73.2.2.2.2.1, uq73.2.2.2.2.2, uq74.1, uq74.2.1, uq74.2.2.1, uq74.2.2.2.1, uq74.2.2.2.2.1, uq74.2.2.2.2.2, uq75.1, uq75.2.1, uq75.2.2.1, uq75.2.2.2.1, uq75.2.2.2.2.1, uq75.2.2.2.2.2, uq76.1, uq76.2.1, uq76.2.2.1, uq76.2.2.2.1, uq76.2.2.2.2.1, uq76.2.2.2.2.2, uq77.1, uq77.2.1, uq77.2.2.1, uq77.2.2.2.1, uq77.2.2.2.2.1, uq77.2.2.2.2.2, uq78.1, uq78.2.1, uq78.2.2.1, uq78.2.2.2.1, uq78.2.2.2.2.1, uq78.2.2.2.2.2, uq79.1, uq79.2.1, uq79.2.2.1, uq79.2.2.2.1, uq79.2.2.2.2.1, uq79.2.2.2.2.2, uq80.1, uq80.2.1, uq80.2.2.1, uq80.2.2.2.1, uq80.2.2.2.2.1, uq80.2.2.2.2.2, uq81, u_, u_, u_, u_, u_, u_, u_, u_, u_, u_, u_, u_, u_, u_, u_, u_, u_, u_, u_, u_, u_, u_, u_, u_, u_, u_, u_, u_, u_, u_, u_, u_, u_, u_, u_, u_, u_, u_, u_, u_, u_, u_, u_, u_, u_, u_, u_, u_, u_, u_, u_, u_, u_, u_, u_, u_, u_, u_] ∧ St w (fun _ => False) w_ ([blk D22 (dskC gs23 gm24 v1 S) 66, blk gs23 (pgs S.stable) 31, mapR gm24 S.cnt S.bad, row kWr rfl 71 v1 S.pending, blk g31 ((mv np ro)) 36, allR (mr ro)]) ∧ (KI np i S (ro.map (·.2)) ∧ ro.length = np ∧ i ≤ l1.length)) (fun i_ => match i_ with | (i, S, v1, ro) => l1.length - i) (0, (Dk.new (np : Int)), .slice none 0 0, rs) ?_ ?_
                  · exact ⟨(u_, u_, u_, u_, u_, u_), (u_, u_, u_, u_, u_, u_), (u_, u_, u_, u_, u_, u_), (u_, u_, u_, u_, u_, u_), (u_, u_, u_, u_, u_, u_), (u_, u_, u_, u_, u_, u_), (u_, u_, u_, u_, u_, u_), (u_, u_, u_, u_, u_, u_), (u_, u_, u_, u_, u_, u_), (u_, u_, u_, u_, u_, u_), (u_, u_, u_, u_, u_, u_), u_, rfl, ((((((HS.front 5 rfl).front 5 rfl).front 5 rfl).front 5 rfl).front 5 rfl).front 5 rfl), ⟨by rw [hrs0]; exact ki_start (by omega), hrl0, Nat.zero_le _⟩⟩
                  · clear HS
                    rintro ⟨i, S, v1, ro⟩ a_ w84 ⟨uq70, uq71, uq72, uq73, uq74, uq75, uq76, uq77, uq78, uq79, uq80, uq81, rfl, HS, hI⟩ J82 hJ83
                    obtain ⟨hK, hol, hil⟩ := hI
                    refine wp_seq_k (fun K85 hK86 => ?_)
                    refine c_region (fun ops88 hops87 => ?_)
                    clear hops87
                    refine p_run (l' := _) _ (x_cmp (k := .i64) (m := (i : Int)) (n := (l1.length : Int)) .lss (decide ((i : Int) < (l1.length : Int))) rfl rfl rfl rfl rfl) rfl ?_
                    refine wpList_nil ?_
                    refine hK86 _ _ ?_
                    refine wp_seq_k (fun K89 hK90 => ?_)
                    refine c_cond (t := decide ((i : Int) < (l1.length : Int))) rfl (fun hc91 => ?_) (fun hc91 => ?_)
                    · have hlt : i < l1.length := by have := of_decide_eq_true hc91; omega
                      obtain ⟨ad, ⟨kd, aa, bb, kp⟩, A3, c3, rfl, hy, hl3, hC3, hcell⟩ := dA_get (Kd.C_below hr1 HS.belowOf) i hlt
                      have haa : -9223372036854775808 ≤ aa ∧ aa ≤ 9223372036854775807 := (hg1 _ (List.mem_of_getElem? hy)).2.1
                      refine wp_skip ?_
                      refine hK90 _ _ ?_
                      refine wp_seq_k (fun K92 hK93 => ?_)
                      refine wp_block ?_
                      refine wp_seq_k (fun K94 hK95 => ?_)
                      refine c_region (fun ops97 hops96 => ?_)
                      clear hops96
                      refine p_run (l' := _) _ (x_index (A := ad) (j := i * 4) (sz := 4) rfl rfl rfl Try.underlying35 (by kernel_rfl) (by omega) rfl) rfl ?_
                      refine p_run (l' := _) _ (x_loads [.int .i64 kd, .int .i64 aa, .int .u8 bb, .slice A3 kp.length c3] 4 rfl rfl hcell (by rfl) (by kernel_rfl) rfl) rfl ?_
                      refine St.wAlloc HS (cs := [.int .i64 0, .int .i64 0, .int .u8 0, .slice none 0 0]) (.agg [.int .i64 0, .int .i64 0, .int .u8 0, .slice none 0 0].toArray) (by kernel_rfl) rfl ?_
                      clear HS
                      intro g98 w99 hg100 HS
                      refine St.stores (cs' := [.int .i64 kd, .int .i64 aa, .int .u8 bb, .slice A3 kp.length c3]) HS [.int .i64 kd, .int .i64 aa, .int .u8 bb, .slice A3 kp.length c3] 4 rfl rfl (by rfl) (by kernel_rfl) rfl (by simp) rfl ?_
                      clear HS
                      intro w101 HS
                      refine wpList_nil ?_
                      refine hK95 _ _ ?_
                      refine wp_seq_k (fun K102 hK103 => ?_)
                      refine wp_seq_k (fun K104 hK105 => ?_)
                      rcases kw_split kd aa S with ⟨hk, he, q, rfl, hq⟩ | ⟨hk, he⟩ | hk
                      · skip
                        have hqn : q < np := by rw [← hK.sl]; exact hq
                        obtain ⟨⟨vq, xq⟩, hr⟩ : ∃ r, ro[q]? = some r := ⟨_, List.getElem?_eq_getElem (by omega)⟩
                        have hx : (ro.map (·.2))[q]? = some xq := by rw [List.getElem?_map, hr]; rfl
                        have hxs := ki_len hK hx
                        replace HS := (HS.front 6 rfl)
                        replace HS := HS.pullM hr
                        obtain ⟨gq, kq, cq, hv, hcq, hCq⟩ := orow_open (HS.get (.head _))
                        subst hv
                        have hxl := hCq.2.1
                        refine free_frame (n := 13) (T := _) [0, 1, 3, 7, 15, 15, 47, 15, 143, 399, 1023, 2047, 4095] [(0, 60), (1, 61), (2, 62), (3, 63), (4, 64), (5, 65), (6, 66), (7, 67), (8, 68), (9, 69), (10, 70), (11, 71), (12, 72)] (fun bq_ vq_ w_ => qv ((fun i_ => match i_ with | 0 => some (.pointer (some ⟨g98, 0, none⟩)) | 1 => some (.int .i64 kd) | 2 => some (.bool true) | 3 => some (.bool true) | 4 => some (.pointer (some ⟨D22, 0, none⟩)) | 5 => some (.pointer (some ⟨g98, 1, none⟩)) | 6 => some (.int .i64 (q : Int)) | 7 => some (.pointer (some ⟨g98, 2, none⟩)) | 8 => some (.int .u8 bb) | 11 => some (.bool true) | 12 => some (.bool true) | _ => none) : Nat → Option Value) bq_ vq_ ∧ cond (bq_ 10) (∃ (v109 : Value), vq_ 9 = .agg ((nums .u8 (rep bb))).toArray ∧ vq_ 10 = .int .i64 (S.writeE (q : Int)) ∧ St w (fun _ => False) w_ ([blk D22 (dskC gs23 gm24 v109 (S.write (q : Int) (rep bb))) 66, blk gs23 (pgs (S.write (q : Int) (rep bb)).stable) 31, mapR gm24 (S.write (q : Int) (rep bb)).cnt (S.write (q : Int) (rep bb)).bad, row kWr rfl 71 v109 (S.write (q : Int) (rep bb)).pending, orow 5 (.slice (some ⟨gq, kq, none⟩) xq.length cq) xq, allR ((mr ro).eraseIdx q), blk g98 [.int .i64 kd, .int .i64 (q : Int), .int .u8 bb, .slice A3 kp.length c3] 38, blk g31 ((mv np ro)) 36])) (cond (bq_ 9) (vq_ 9 = .agg ((nums .u8 (rep bb))).toArray ∧ St w (fun _ => False) w_ ([orow 5 (.slice (some ⟨gq, kq, none⟩) xq.length cq) xq, allR ((mr ro).eraseIdx q), blk g98 [.int .i64 kd, .int .i64 (q : Int), .int .u8 bb, .slice A3 kp.length c3] 38, blk D22 (dskC gs23 gm24 v1 S) 66, blk gs23 (pgs S.stable) 31, mapR gm24 S.cnt S.bad, row kWr rfl 71 v1 S.pending, blk g31 ((mv np ro)) 36])) ((St w (fun _ => False) w_ ([orow 5 (.slice (some ⟨gq, kq, none⟩) xq.length cq) xq, allR ((mr ro).eraseIdx q), blk g98 [.int .i64 kd, .int .i64 (q : Int), .int .u8 bb, .slice A3 kp.length c3] 38, blk D22 (dskC gs23 gm24 v1 S) 66, blk gs23 (pgs S.stable) 31, mapR gm24 S.cnt S.bad, row kWr rfl 71 v1 S.pending, blk g31 ((mv np ro)) 36]))))) (by kernel_rfl) rfl rfl (by kernel_rfl) (by kernel_rfl) rfl (by kernel_rfl) (by kernel_rfl) ⟨qv_none, HS.draw⟩ ?_ ?_
                        · clear HS
                          intro i_ hi_ bq_ vq_ a_ w_ hG hb_ hon hoff hfr hel hval
                          obtain ⟨hV, hE⟩ := hG
                          have hi_ := List.mem_range.1 hi_
                          obtain ⟨l_, rfl⟩ := hfr
                          have hv_ := fun (j t : Nat) (v : Value) (h1 : (j, t) ∈ [(0, 60), (1, 61), (2, 62), (3, 63), (4, 64), (5, 65), (6, 66), (7, 67), (8, 68), (9, 69), (10, 70), (11, 71), (12, 72)]) h2 h3 => (hval (j, t) h1 h3).trans (congrArg some (hV j v h2 h3))
                          have hcs : i_ = 0 ∨ i_ = 1 ∨ i_ = 2 ∨ i_ = 3 ∨ i_ = 4 ∨ i_ = 5 ∨ i_ = 6 ∨ i_ = 7 ∨ i_ = 8 ∨ i_ = 9 ∨ i_ = 10 ∨ i_ = 11 ∨ i_ = 12 := by omega
                          rcases hcs with rfl | rfl | rfl | rfl | rfl | rfl | rfl | rfl | rfl | rfl | rfl | rfl | rfl
                          · have e11 : evl l_ (.tmp 11) = .pointer (some ⟨g98, 0, none⟩) := evl_of ((hel 11 (by decide)).trans rfl)
                            exact ⟨_, rfl, fun K_ hK_ => q_op _ (x_field (j := 0) _ _ rfl e11 Try.underlying38 rfl (by rfl) rfl) (hK_ _ _ ⟨qv_up hV (fun _ h => Option.some.inj h), hE⟩)⟩
                          · have hE0 := hE
                            rw [show bq_ 10 = false from (hoff 10 (by decide))] at hE0
                            rw [show bq_ 9 = false from (hoff 9 (by decide))] at hE0
                            simp only [cond_true, cond_false] at hE0
                            have HS := hE0
                            have e60 : evl l_ (.tmp 60) = .pointer (some ⟨g98, 0, none⟩) := evl_of (hv_ 0 60 _ (by decide) rfl (hon 0 (by decide)))
                            exact ⟨_, rfl, fun K_ hK_ => q_op _ (x_load (.int .i64 kd) rfl e60 (bkCell (HS.get (.tail _ (.tail _ (.head _)))) 0 _ rfl) (by rfl)) (hK_ _ _ ⟨qv_up hV (fun _ h => Option.some.inj h), hE⟩)⟩
                          · have e61 : evl l_ (.tmp 61) = .int .i64 kd := evl_of (hv_ 1 61 _ (by decide) rfl (hon 1 (by decide)))
                            exact ⟨_, rfl, fun K_ hK_ => q_op _ (x_cmp (k := .i64) (m := kd) (n := 0) .eql true rfl e61 rfl (beq_iff_eq.2 hk) rfl) (hK_ _ _ ⟨qv_up hV (fun _ h => Option.some.inj h), hE⟩)⟩
                          · have e62 : evl l_ (.tmp 62) = .bool true := evl_of (hv_ 2 62 _ (by decide) rfl (hon 2 (by decide)))
                            exact ⟨_, rfl, fun K_ hK_ => q_op _ (x_move (.bool true) rfl e62) (hK_ _ _ ⟨qv_up hV (fun _ h => Option.some.inj h), hE⟩)⟩
                          · have h63 : (fr l_).tmps[63]? = some (.bool true) := hv_ 3 63 _ (by decide) rfl (hon 3 (by decide))
                            have e7 : evl l_ (.tmp 7) = .pointer (some ⟨D22, 0, none⟩) := evl_of ((hel 7 (by decide)).trans rfl)
                            have e63 : evl l_ (.tmp 63) = .bool true := evl_of h63
                            exact ⟨_, rfl, fun K_ hK_ => q_opG (wanted_on (t := 63) rfl rfl rfl h63) _ (x_move (.pointer (some ⟨D22, 0, none⟩)) rfl e7) (hK_ _ _ ⟨qv_up hV (fun _ h => Option.some.inj h), hE⟩)⟩
                          · have h63 : (fr l_).tmps[63]? = some (.bool true) := hv_ 3 63 _ (by decide) rfl (hon 3 (by decide))
                            have e11 : evl l_ (.tmp 11) = .pointer (some ⟨g98, 0, none⟩) := evl_of ((hel 11 (by decide)).trans rfl)
                            have e63 : evl l_ (.tmp 63) = .bool true := evl_of h63
                            exact ⟨_, rfl, fun K_ hK_ => q_opG (wanted_on (t := 63) rfl rfl rfl h63) _ (x_field (j := 1) _ _ rfl e11 Try.underlying38 rfl (by rfl) rfl) (hK_ _ _ ⟨qv_up hV (fun _ h => Option.some.inj h), hE⟩)⟩
                          · have h63 : (fr l_).tmps[63]? = some (.bool true) := hv_ 3 63 _ (by decide) rfl (hon 3 (by decide))
                            rcases hq9 : bq_ 9 with _ | _
                            · skip
                              have hE0 := hE
                              rw [show bq_ 10 = false from (hoff 10 (by decide))] at hE0
                              rw [show bq_ 9 = false from hq9] at hE0
                              simp only [cond_true, cond_false] at hE0
                              have HS := hE0
                              have e63 : evl l_ (.tmp 63) = .bool true := evl_of h63
                              have e65 : evl l_ (.tmp 65) = .pointer (some ⟨g98, 1, none⟩) := evl_of (hv_ 5 65 _ (by decide) rfl (hon 5 (by decide)))
                              exact ⟨_, rfl, fun K_ hK_ => q_opG (wanted_on (t := 63) rfl rfl rfl h63) _ (x_load (.int .i64 (q : Int)) rfl e65 (bkCell (HS.get (.tail _ (.tail _ (.head _)))) 1 _ rfl) (by rfl)) (hK_ _ _ ⟨qv_up hV (fun _ h => Option.some.inj h), hE⟩)⟩
                            · have hE0 := hE
                              rw [show bq_ 10 = false from (hoff 10 (by decide))] at hE0
                              rw [show bq_ 9 = true from hq9] at hE0
                              simp only [cond_true, cond_false] at hE0
                              obtain ⟨hv9, HS⟩ := hE0
                              have e63 : evl l_ (.tmp 63) = .bool true := evl_of h63
                              have e65 : evl l_ (.tmp 65) = .pointer (some ⟨g98, 1, none⟩) := evl_of (hv_ 5 65 _ (by decide) rfl (hon 5 (by decide)))
                              exact ⟨_, rfl, fun K_ hK_ => q_opG (wanted_on (t := 63) rfl rfl rfl h63) _ (x_load (.int .i64 (q : Int)) rfl e65 (bkCell (HS.get (.tail _ (.tail _ (.head _)))) 1 _ rfl) (by rfl)) (hK_ _ _ ⟨qv_up hV (fun _ h => Option.some.inj h), hE⟩)⟩
                          · have h63 : (fr l_).tmps[63]? = some (.bool true) := hv_ 3 63 _ (by decide) rfl (hon 3 (by decide))
                            have e11 : evl l_ (.tmp 11) = .pointer (some ⟨g98, 0, none⟩) := evl_of ((hel 11 (by decide)).trans rfl)
                            have e63 : evl l_ (.tmp 63) = .bool true := evl_of h63
                            exact ⟨_, rfl, fun K_ hK_ => q_opG (wanted_on (t := 63) rfl rfl rfl h63) _ (x_field (j := 2) _ _ rfl e11 Try.underlying38 rfl (by rfl) rfl) (hK_ _ _ ⟨qv_up hV (fun _ h => Option.some.inj h), hE⟩)⟩
                          · have h63 : (fr l_).tmps[63]? = some (.bool true) := hv_ 3 63 _ (by decide) rfl (hon 3 (by decide))
                            have hE0 := hE
                            rw [show bq_ 10 = false from (hoff 10 (by decide))] at hE0
                            rw [show bq_ 9 = false from (hoff 9 (by decide))] at hE0
                            simp only [cond_true, cond_false] at hE0
                            have HS := hE0
                            have e63 : evl l_ (.tmp 63) = .bool true := evl_of h63
                            have e67 : evl l_ (.tmp 67) = .pointer (some ⟨g98, 2, none⟩) := evl_of (hv_ 7 67 _ (by decide) rfl (hon 7 (by decide)))
                            exact ⟨_, rfl, fun K_ hK_ => q_opG (wanted_on (t := 63) rfl rfl rfl h63) _ (x_load (.int .u8 bb) rfl e67 (bkCell (HS.get (.tail _ (.tail _ (.head _)))) 2 _ rfl) (by rfl)) (hK_ _ _ ⟨qv_up hV (fun _ h => Option.some.inj h), hE⟩)⟩
                          · have h63 : (fr l_).tmps[63]? = some (.bool true) := hv_ 3 63 _ (by decide) rfl (hon 3 (by decide))
                            have h68 : (fr l_).tmps[68]? = some (.int .u8 bb) := hv_ 8 68 _ (by decide) rfl (hon 8 (by decide))
                            have hE0 := hE
                            rw [show bq_ 10 = false from (hoff 10 (by decide))] at hE0
                            rw [show bq_ 9 = false from hb_] at hE0
                            simp only [cond_true, cond_false] at hE0
                            have HS := hE0
                            have e63 : evl l_ (.tmp 63) = .bool true := evl_of h63
                            have e68 : evl l_ (.tmp 68) = .int .u8 bb := evl_of h68
                            refine ⟨_, rfl, fun K_ hK_ => wp_of_listG rfl (wanted_on (t := 63) rfl rfl rfl h63) ?_⟩
                            intro ops_
                            refine w_call [.int .u8 bb] Try.func14 (by kernel_rfl) (by rfl) (by simp only [List.map_cons, List.map_nil, e68] <;> rfl) ?_
                            refine (full_any HS bb).mono ?_
                            clear HS
                            rintro e w900901 ⟨rfl, HS⟩
                            refine ⟨_, rfl, ?_⟩
                            refine wpList_nil ?_
                            refine norm_put (hK_ (.agg ((nums .u8 (rep bb))).toArray) _ ⟨qv_up hV (by intro _ h; cases h), ?_⟩)
                            show cond (bq_ 10) _ _
                            rw [show bq_ 10 = false from hoff 10 (by decide), cond_false]
                            show cond true _ _
                            rw [cond_true]
                            exact ⟨rfl, ((((((((HS.front 7 rfl).front 7 rfl).front 7 rfl).front 7 rfl).front 7 rfl).front 7 rfl).front 7 rfl).front 7 rfl)⟩
                          · have h63 : (fr l_).tmps[63]? = some (.bool true) := hv_ 3 63 _ (by decide) rfl (hon 3 (by decide))
                            have h64 : (fr l_).tmps[64]? = some (.pointer (some ⟨D22, 0, none⟩)) := hv_ 4 64 _ (by decide) rfl (hon 4 (by decide))
                            have h66 : (fr l_).tmps[66]? = some (.int .i64 (q : Int)) := hv_ 6 66 _ (by decide) rfl (hon 6 (by decide))
                            have h69 := hval (9, 69) (by decide) (hon 9 (by decide))
                            have hE0 := hE
                            rw [show bq_ 10 = false from hb_] at hE0
                            rw [show bq_ 9 = true from (hon 9 (by decide))] at hE0
                            simp only [cond_true, cond_false] at hE0
                            obtain ⟨hv9, HS⟩ := hE0
                            rw [hv9] at h69
                            have e63 : evl l_ (.tmp 63) = .bool true := evl_of h63
                            have e64 : evl l_ (.tmp 64) = .pointer (some ⟨D22, 0, none⟩) := evl_of h64
                            have e66 : evl l_ (.tmp 66) = .int .i64 (q : Int) := evl_of h66
                            have e69 : evl l_ (.tmp 69) = .agg ((nums .u8 (rep bb))).toArray := evl_of h69
                            refine ⟨_, rfl, fun K_ hK_ => wp_of_listG rfl (wanted_on (t := 63) rfl rfl rfl h63) ?_⟩
                            intro ops_
                            refine w_call [.pointer (some ⟨D22, 0, none⟩), .int .i64 (q : Int), .agg ((nums .u8 (rep bb))).toArray] Try.func13 (by kernel_rfl) (by rfl) (by simp only [List.map_cons, List.map_nil, e64, e66, e69] <;> rfl) ?_
                            replace HS := ((((HS.front 6 rfl).front 6 rfl).front 6 rfl).front 6 rfl)
                            refine (write_any HS hK.gd.lft (by have := hK.gd.pn; omega) (q : Int) (rep bb) (rep_len _)).mono ?_
                            clear HS
                            rintro e w901002 ⟨v901001, rfl, HS⟩
                            refine ⟨_, rfl, ?_⟩
                            refine wpList_nil ?_
                            refine norm_put (hK_ (.int .i64 (S.writeE (q : Int))) _ ⟨qv_up hV (by intro _ h; cases h), ?_⟩)
                            show cond true _ _
                            rw [cond_true]
                            exact ⟨v901001, hv9, rfl, ((((((((HS.front 7 rfl).front 7 rfl).front 7 rfl).front 7 rfl).front 7 rfl).front 7 rfl).front 7 rfl).front 7 rfl)⟩
                          · have h63 : (fr l_).tmps[63]? = some (.bool true) := hv_ 3 63 _ (by decide) rfl (hon 3 (by decide))
                            have h70 := hval (10, 70) (by decide) (hon 10 (by decide))
                            have hE0 := hE
                            rw [show bq_ 10 = true from (hon 10 (by decide))] at hE0
                            simp only [cond_true, cond_false] at hE0
                            obtain ⟨v109, hv9, hv10, HS⟩ := hE0
                            rw [hv10] at h70
                            have e63 : evl l_ (.tmp 63) = .bool true := evl_of h63
                            have e70 : evl l_ (.tmp 70) = .int .i64 (S.writeE (q : Int)) := evl_of h70
                            exact ⟨_, rfl, fun K_ hK_ => q_opG (wanted_on (t := 63) rfl rfl rfl h63) _ (x_cmp (k := .i64) (m := (S.writeE (q : Int))) (n := 0) .eql true rfl e70 rfl (cmpz_yes he) rfl) (hK_ _ _ ⟨qv_up hV (fun _ h => Option.some.inj h), hE⟩)⟩
                          · have e63 : evl l_ (.tmp 63) = .bool true := evl_of (hv_ 3 63 _ (by decide) rfl (hon 3 (by decide)))
                            have e71 : evl l_ (.tmp 71) = .bool true := evl_of (hv_ 11 71 _ (by decide) rfl (hon 11 (by decide)))
                            exact ⟨_, rfl, fun K_ hK_ => q_op _ (x_pick true (.bool true) (.bool false) (.bool true) rfl e63 e71 rfl rfl) (hK_ _ _ ⟨qv_up hV (fun _ h => Option.some.inj h), hE⟩)⟩
                        intro bq_ vq_ w_ hall hG
                        obtain ⟨hV, hE⟩ := hG
                        clear HS
                        rw [show bq_ 10 = true from hall 10 (by decide)] at hE
                        simp only [cond_true] at hE
                        obtain ⟨v109, hv9, hv10, HS⟩ := hE
                        have hv0 := hV 0 _ rfl (hall 0 (by decide))
                        have hv1 := hV 1 _ rfl (hall 1 (by decide))
                        have hv2 := hV 2 _ rfl (hall 2 (by decide))
                        have hv3 := hV 3 _ rfl (hall 3 (by decide))
                        have hv4 := hV 4 _ rfl (hall 4 (by decide))
                        have hv5 := hV 5 _ rfl (hall 5 (by decide))
                        have hv6 := hV 6 _ rfl (hall 6 (by decide))
                        have hv7 := hV 7 _ rfl (hall 7 (by decide))
                        have hv8 := hV 8 _ rfl (hall 8 (by decide))
                        have hv11 := hV 11 _ rfl (hall 11 (by decide))
                        have hv12 := hV 12 _ rfl (hall 12 (by decide))
                        clear hV hall
                        rw [putSel_fr]
                        simp only [tells, List.map_cons, List.map_nil, setAll, List.set_cons_succ, List.set_cons_zero, hv0, hv1, hv2, hv3, hv4, hv5, hv6, hv7, hv8, hv9, hv10, hv11, hv12]
                        clear hv0 hv1 hv2 hv3 hv4 hv5 hv6 hv7 hv8 hv9 hv10 hv11 hv12
                        generalize w_ = w901101 at HS ⊢
                        refine fr_at (l' := [.int .i64 (np : Int), .slice (some ad) l1.length c1, .slice A2 l2.length c2, u_, u_, u_, .bool false, .pointer (some ⟨D22, 0, none⟩), .slice (some ⟨g31, 0, none⟩) np np, u9, u_, .pointer (some ⟨g98, 0, none⟩), uq70.2.1, u_, u_, u_, u_, u_, u_, u_, u_, u_, .bool true, .bool false, .int .i64 (np : Int), .bool false, .bool false, .int .i64 (np : Int), .bool false, .bool false, .bool false, .slice (some ad) l1.length c1, .int .i64 (l1.length : Int), .bool false, .bool false, .bool false, .slice A2 l2.length c2, .int .i64 (l2.length : Int), .bool false, .bool false, .int .i64 (np : Int), .pointer (some ⟨D22, 0, none⟩), .int .i64 (np : Int), .slice (some ⟨g31, 0, none⟩) np np, .slice (some ⟨g31, 0, none⟩) np np, .int .i64 (np : Int), .int .i64 (np : Int), .bool (decide ((np : Int) < (np : Int))), u48, u49, u50, u51, u52, u53, .slice (some ad) l1.length c1, .int .i64 (l1.length : Int), .int .i64 (i : Int), .bool (decide ((i : Int) < (l1.length : Int))), .pointer (some ((ad).add (i * 4))), .agg ([.int .i64 kd, .int .i64 (q : Int), .int .u8 bb, .slice A3 kp.length c3] : List Value).toArray, .pointer (some ⟨g98, 0, none⟩), .int .i64 kd, .bool true, .bool true, .pointer (some ⟨D22, 0, none⟩), .pointer (some ⟨g98, 1, none⟩), .int .i64 (q : Int), .pointer (some ⟨g98, 2, none⟩), .int .u8 bb, .agg ((nums .u8 (rep bb))).toArray, .int .i64 (S.writeE (q : Int)), .bool true, .bool true, uq73.1, uq73.2.1, uq73.2.2.1, uq73.2.2.2.1, uq73.2.2.2.2.1, uq73.2.2.2.2.2, uq74.1, uq74.2.1, uq74.2.2.1, uq74.2.2.2.1, uq74.2.2.2.2.1, uq74.2.2.2.2.2, uq75.1, uq75.2.1, uq75.2.2.1, uq75.2.2.2.1, uq75.2.2.2.2.1, uq75.2.2.2.2.2, uq76.1, uq76.2.1, uq76.2.2.1, uq76.2.2.2.1, uq76.2.2.2.2.1, uq76.2.2.2.2.2, uq77.1, uq77.2.1, uq77.2.2.1, uq77.2.2.2.1, uq77.2.2.2.2.1, uq77.2.2.2.2.2, uq78.1, uq78.2.1, uq78.2.2.1, uq78.2.2.2.1, uq78.2.2.2.2.1, uq78.2.2.2.2.2, uq79.1, uq79.2.1, uq79.2.2.1, uq79.2.2.2.1, uq79.2.2.2.2.1, uq79.2.2.2.2.2, uq80.1, uq80.2.1, uq80.2.2.1, uq80.2.2.2.1, uq80.2.2.2.2.1, uq80.2.2.2.2.2, uq81, u_, u_, u_, u_, u_, u_, u_, u_, u_, u_, u_, u_, u_, u_, u_, u_, u_, u_, u_, u_, u_, u_, u_, u_, u_, u_, u_, u_, u_, u_, u_, u_, u_, u_, u_, u_, u_, u_, u_, u_, u_, u_, u_, u_, u_, u_, u_, u_, u_, u_, u_, u_, u_, u_, u_, u_, u_, u_]) rfl ?_
                        refine hK105 _ _ ?_
                        refine c_true rfl ?_
                        refine free_frame (n := 14) (T := _) [0, 0, 2, 0, 0, 16, 56, 120, 0, 256, 768, 2040, 4095, 8191] [(0, 73), (1, 74), (2, 75), (3, 76), (4, 77), (5, 78), (6, 79), (7, 80), (8, 81), (9, 82), (10, 83), (11, 84), (12, 85)] (fun bq_ vq_ w_ => qv ((fun i_ => match i_ with | 0 => some (.slice (some ⟨g31, 0, none⟩) np np) | 1 => some (.pointer (some ⟨g98, 1, none⟩)) | 2 => some (.int .i64 (q : Int)) | 3 => some (.slice (some ⟨g31, 0, none⟩) np np) | 4 => some (.pointer (some ⟨g98, 1, none⟩)) | 5 => some (.int .i64 (q : Int)) | 6 => some (.pointer (some ⟨g31, q * 1, none⟩)) | 7 => some (.slice (some ⟨gq, kq, none⟩) xq.length cq) | 8 => some (.pointer (some ⟨g98, 2, none⟩)) | 9 => some (.int .u8 bb) | 12 => some (.pointer (some ⟨g31, q * 1, none⟩)) | _ => none) : Nat → Option Value) bq_ vq_ ∧ cond (bq_ 13) (∃ (g901104 : Nat) (v901107 : Value), vq_ 10 = .slice (some ⟨g901104, 0, none⟩) 1 1 ∧ vq_ 11 = v901107 ∧ St w (fun _ => False) w_ ([blk g31 (((mv np ro).set q v901107)) 36, orow 5 v901107 (xq ++ [bb]), blk g901104 [.int .u8 bb] 5, blk D22 (dskC gs23 gm24 v109 (S.write (q : Int) (rep bb))) 66, blk gs23 (pgs (S.write (q : Int) (rep bb)).stable) 31, mapR gm24 (S.write (q : Int) (rep bb)).cnt (S.write (q : Int) (rep bb)).bad, row kWr rfl 71 v109 (S.write (q : Int) (rep bb)).pending, allR ((mr ro).eraseIdx q), blk g98 [.int .i64 kd, .int .i64 (q : Int), .int .u8 bb, .slice A3 kp.length c3] 38])) (cond (bq_ 11) (∃ (g901104 : Nat) (v901107 : Value), vq_ 10 = .slice (some ⟨g901104, 0, none⟩) 1 1 ∧ vq_ 11 = v901107 ∧ St w (fun _ => False) w_ ([orow 5 v901107 (xq ++ [bb]), blk g901104 [.int .u8 bb] 5, blk D22 (dskC gs23 gm24 v109 (S.write (q : Int) (rep bb))) 66, blk gs23 (pgs (S.write (q : Int) (rep bb)).stable) 31, mapR gm24 (S.write (q : Int) (rep bb)).cnt (S.write (q : Int) (rep bb)).bad, row kWr rfl 71 v109 (S.write (q : Int) (rep bb)).pending, allR ((mr ro).eraseIdx q), blk g98 [.int .i64 kd, .int .i64 (q : Int), .int .u8 bb, .slice A3 kp.length c3] 38, blk g31 ((mv np ro)) 36])) (cond (bq_ 10) (∃ (g901104 : Nat), vq_ 10 = .slice (some ⟨g901104, 0, none⟩) 1 1 ∧ St w (fun _ => False) w_ ([blk g901104 [.int .u8 bb] 5, blk D22 (dskC gs23 gm24 v109 (S.write (q : Int) (rep bb))) 66, blk gs23 (pgs (S.write (q : Int) (rep bb)).stable) 31, mapR gm24 (S.write (q : Int) (rep bb)).cnt (S.write (q : Int) (rep bb)).bad, row kWr rfl 71 v109 (S.write (q : Int) (rep bb)).pending, orow 5 (.slice (some ⟨gq, kq, none⟩) xq.length cq) xq, allR ((mr ro).eraseIdx q), blk g98 [.int .i64 kd, .int .i64 (q : Int), .int .u8 bb, .slice A3 kp.length c3] 38, blk g31 ((mv np ro)) 36])) ((St w (fun _ => False) w_ ([blk D22 (dskC gs23 gm24 v109 (S.write (q : Int) (rep bb))) 66, blk gs23 (pgs (S.write (q : Int) (rep bb)).stable) 31, mapR gm24 (S.write (q : Int) (rep bb)).cnt (S.write (q : Int) (rep bb)).bad, row kWr rfl 71 v109 (S.write (q : Int) (rep bb)).pending, orow 5 (.slice (some ⟨gq, kq, none⟩) xq.length cq) xq, allR ((mr ro).eraseIdx q), blk g98 [.int .i64 kd, .int .i64 (q : Int), .int .u8 bb, .slice A3 kp.length c3] 38, blk g31 ((mv np ro)) 36])))))) (by kernel_rfl) rfl rfl (by kernel_rfl) (by kernel_rfl) rfl (by kernel_rfl) (by kernel_rfl) ⟨qv_none, HS.draw⟩ ?_ ?_
                        · clear HS
                          intro i_ hi_ bq_ vq_ a_ w_ hG hb_ hon hoff hfr hel hval
                          obtain ⟨hV, hE⟩ := hG
                          have hi_ := List.mem_range.1 hi_
                          obtain ⟨l_, rfl⟩ := hfr
                          have hv_ := fun (j t : Nat) (v : Value) (h1 : (j, t) ∈ [(0, 73), (1, 74), (2, 75), (3, 76), (4, 77), (5, 78), (6, 79), (7, 80), (8, 81), (9, 82), (10, 83), (11, 84), (12, 85)]) h2 h3 => (hval (j, t) h1 h3).trans (congrArg some (hV j v h2 h3))
                          have hcs : i_ = 0 ∨ i_ = 1 ∨ i_ = 2 ∨ i_ = 3 ∨ i_ = 4 ∨ i_ = 5 ∨ i_ = 6 ∨ i_ = 7 ∨ i_ = 8 ∨ i_ = 9 ∨ i_ = 10 ∨ i_ = 11 ∨ i_ = 12 ∨ i_ = 13 := by omega
                          rcases hcs with rfl | rfl | rfl | rfl | rfl | rfl | rfl | rfl | rfl | rfl | rfl | rfl | rfl | rfl
                          · have e8 : evl l_ (.tmp 8) = .slice (some ⟨g31, 0, none⟩) np np := evl_of ((hel 8 (by decide)).trans rfl)
                            exact ⟨_, rfl, fun K_ hK_ => q_op _ (x_move (.slice (some ⟨g31, 0, none⟩) np np) rfl e8) (hK_ _ _ ⟨qv_up hV (fun _ h => Option.some.inj h), hE⟩)⟩
                          · have e11 : evl l_ (.tmp 11) = .pointer (some ⟨g98, 0, none⟩) := evl_of ((hel 11 (by decide)).trans rfl)
                            exact ⟨_, rfl, fun K_ hK_ => q_op _ (x_field (j := 1) _ _ rfl e11 Try.underlying38 rfl (by rfl) rfl) (hK_ _ _ ⟨qv_up hV (fun _ h => Option.some.inj h), hE⟩)⟩
                          · rcases hq11 : bq_ 11 with _ | _
                            · skip
                              rcases hq10 : bq_ 10 with _ | _
                              · skip
                                have hE0 := hE
                                rw [show bq_ 13 = false from (hoff 13 (by decide))] at hE0
                                rw [show bq_ 11 = false from hq11] at hE0
                                rw [show bq_ 10 = false from hq10] at hE0
                                simp only [cond_true, cond_false] at hE0
                                have HS := hE0
                                have e74 : evl l_ (.tmp 74) = .pointer (some ⟨g98, 1, none⟩) := evl_of (hv_ 1 74 _ (by decide) rfl (hon 1 (by decide)))
                                exact ⟨_, rfl, fun K_ hK_ => q_op _ (x_load (.int .i64 (q : Int)) rfl e74 (bkCell (HS.get (.tail _ (.tail _ (.tail _ (.tail _ (.tail _ (.tail _ (.head _)))))))) 1 _ rfl) (by rfl)) (hK_ _ _ ⟨qv_up hV (fun _ h => Option.some.inj h), hE⟩)⟩
                              · have hE0 := hE
                                rw [show bq_ 13 = false from (hoff 13 (by decide))] at hE0
                                rw [show bq_ 11 = false from hq11] at hE0
                                rw [show bq_ 10 = true from hq10] at hE0
                                simp only [cond_true, cond_false] at hE0
                                obtain ⟨g901104, hv10, HS⟩ := hE0
                                have e74 : evl l_ (.tmp 74) = .pointer (some ⟨g98, 1, none⟩) := evl_of (hv_ 1 74 _ (by decide) rfl (hon 1 (by decide)))
                                exact ⟨_, rfl, fun K_ hK_ => q_op _ (x_load (.int .i64 (q : Int)) rfl e74 (bkCell (HS.get (.tail _ (.tail _ (.tail _ (.tail _ (.tail _ (.tail _ (.tail _ (.head _))))))))) 1 _ rfl) (by rfl)) (hK_ _ _ ⟨qv_up hV (fun _ h => Option.some.inj h), hE⟩)⟩
                            · have hE0 := hE
                              rw [show bq_ 13 = false from (hoff 13 (by decide))] at hE0
                              rw [show bq_ 11 = true from hq11] at hE0
                              simp only [cond_true, cond_false] at hE0
                              obtain ⟨g901104, v901107, hv10, hv11, HS⟩ := hE0
                              have e74 : evl l_ (.tmp 74) = .pointer (some ⟨g98, 1, none⟩) := evl_of (hv_ 1 74 _ (by decide) rfl (hon 1 (by decide)))
                              exact ⟨_, rfl, fun K_ hK_ => q_op _ (x_load (.int .i64 (q : Int)) rfl e74 (bkCell (HS.get (.tail _ (.tail _ (.tail _ (.tail _ (.tail _ (.tail _ (.tail _ (.head _))))))))) 1 _ rfl) (by rfl)) (hK_ _ _ ⟨qv_up hV (fun _ h => Option.some.inj h), hE⟩)⟩
                          · have e8 : evl l_ (.tmp 8) = .slice (some ⟨g31, 0, none⟩) np np := evl_of ((hel 8 (by decide)).trans rfl)
                            exact ⟨_, rfl, fun K_ hK_ => q_op _ (x_move (.slice (some ⟨g31, 0, none⟩) np np) rfl e8) (hK_ _ _ ⟨qv_up hV (fun _ h => Option.some.inj h), hE⟩)⟩
                          · have e11 : evl l_ (.tmp 11) = .pointer (some ⟨g98, 0, none⟩) := evl_of ((hel 11 (by decide)).trans rfl)
                            exact ⟨_, rfl, fun K_ hK_ => q_op _ (x_field (j := 1) _ _ rfl e11 Try.underlying38 rfl (by rfl) rfl) (hK_ _ _ ⟨qv_up hV (fun _ h => Option.some.inj h), hE⟩)⟩
                          · rcases hq10 : bq_ 10 with _ | _
                            · skip
                              have hE0 := hE
                              rw [show bq_ 13 = false from (hoff 13 (by decide))] at hE0
                              rw [show bq_ 11 = false from (hoff 11 (by decide))] at hE0
                              rw [show bq_ 10 = false from hq10] at hE0
                              simp only [cond_true, cond_false] at hE0
                              have HS := hE0
                              have e77 : evl l_ (.tmp 77) = .pointer (some ⟨g98, 1, none⟩) := evl_of (hv_ 4 77 _ (by decide) rfl (hon 4 (by decide)))
                              exact ⟨_, rfl, fun K_ hK_ => q_op _ (x_load (.int .i64 (q : Int)) rfl e77 (bkCell (HS.get (.tail _ (.tail _ (.tail _ (.tail _ (.tail _ (.tail _ (.head _)))))))) 1 _ rfl) (by rfl)) (hK_ _ _ ⟨qv_up hV (fun _ h => Option.some.inj h), hE⟩)⟩
                            · have hE0 := hE
                              rw [show bq_ 13 = false from (hoff 13 (by decide))] at hE0
                              rw [show bq_ 11 = false from (hoff 11 (by decide))] at hE0
                              rw [show bq_ 10 = true from hq10] at hE0
                              simp only [cond_true, cond_false] at hE0
                              obtain ⟨g901104, hv10, HS⟩ := hE0
                              have e77 : evl l_ (.tmp 77) = .pointer (some ⟨g98, 1, none⟩) := evl_of (hv_ 4 77 _ (by decide) rfl (hon 4 (by decide)))
                              exact ⟨_, rfl, fun K_ hK_ => q_op _ (x_load (.int .i64 (q : Int)) rfl e77 (bkCell (HS.get (.tail _ (.tail _ (.tail _ (.tail _ (.tail _ (.tail _ (.tail _ (.head _))))))))) 1 _ rfl) (by rfl)) (hK_ _ _ ⟨qv_up hV (fun _ h => Option.some.inj h), hE⟩)⟩
                          · have e76 : evl l_ (.tmp 76) = .slice (some ⟨g31, 0, none⟩) np np := evl_of (hv_ 3 76 _ (by decide) rfl (hon 3 (by decide)))
                            have e78 : evl l_ (.tmp 78) = .int .i64 (q : Int) := evl_of (hv_ 5 78 _ (by decide) rfl (hon 5 (by decide)))
                            exact ⟨_, rfl, fun K_ hK_ => q_op (.pointer (some ⟨g31, q * 1, none⟩)) ((x_index (A := ⟨g31, 0, none⟩) (j := q * 1) (sz := 1) rfl e76 e78 Try.underlying44 (by kernel_rfl) (by omega) rfl).trans (by rw [add_mk, Nat.zero_add])) (hK_ _ _ ⟨qv_up hV (fun _ h => Option.some.inj h), hE⟩)⟩
                          · rcases hq10 : bq_ 10 with _ | _
                            · skip
                              have hE0 := hE
                              rw [show bq_ 13 = false from (hoff 13 (by decide))] at hE0
                              rw [show bq_ 11 = false from (hoff 11 (by decide))] at hE0
                              rw [show bq_ 10 = false from hq10] at hE0
                              simp only [cond_true, cond_false] at hE0
                              have HS := hE0
                              have e79 : evl l_ (.tmp 79) = .pointer (some ⟨g31, q * 1, none⟩) := evl_of (hv_ 6 79 _ (by decide) rfl (hon 6 (by decide)))
                              exact ⟨_, rfl, fun K_ hK_ => q_op _ (x_load (.slice (some ⟨gq, kq, none⟩) xq.length cq) rfl e79 (bkCell (HS.get (.tail _ (.tail _ (.tail _ (.tail _ (.tail _ (.tail _ (.tail _ (.head _))))))))) (q * 1) _ ((congrArg (fun m => (mv np ro)[m]? ) (Nat.mul_one _)).trans (mv_get hr))) (by rfl)) (hK_ _ _ ⟨qv_up hV (fun _ h => Option.some.inj h), hE⟩)⟩
                            · have hE0 := hE
                              rw [show bq_ 13 = false from (hoff 13 (by decide))] at hE0
                              rw [show bq_ 11 = false from (hoff 11 (by decide))] at hE0
                              rw [show bq_ 10 = true from hq10] at hE0
                              simp only [cond_true, cond_false] at hE0
                              obtain ⟨g901104, hv10, HS⟩ := hE0
                              have e79 : evl l_ (.tmp 79) = .pointer (some ⟨g31, q * 1, none⟩) := evl_of (hv_ 6 79 _ (by decide) rfl (hon 6 (by decide)))
                              exact ⟨_, rfl, fun K_ hK_ => q_op _ (x_load (.slice (some ⟨gq, kq, none⟩) xq.length cq) rfl e79 (bkCell (HS.get (.tail _ (.tail _ (.tail _ (.tail _ (.tail _ (.tail _ (.tail _ (.tail _ (.head _)))))))))) (q * 1) _ ((congrArg (fun m => (mv np ro)[m]? ) (Nat.mul_one _)).trans (mv_get hr))) (by rfl)) (hK_ _ _ ⟨qv_up hV (fun _ h => Option.some.inj h), hE⟩)⟩
                          · have e11 : evl l_ (.tmp 11) = .pointer (some ⟨g98, 0, none⟩) := evl_of ((hel 11 (by decide)).trans rfl)
                            exact ⟨_, rfl, fun K_ hK_ => q_op _ (x_field (j := 2) _ _ rfl e11 Try.underlying38 rfl (by rfl) rfl) (hK_ _ _ ⟨qv_up hV (fun _ h => Option.some.inj h), hE⟩)⟩
                          · have hE0 := hE
                            rw [show bq_ 13 = false from (hoff 13 (by decide))] at hE0
                            rw [show bq_ 11 = false from (hoff 11 (by decide))] at hE0
                            rw [show bq_ 10 = false from (hoff 10 (by decide))] at hE0
                            simp only [cond_true, cond_false] at hE0
                            have HS := hE0
                            have e81 : evl l_ (.tmp 81) = .pointer (some ⟨g98, 2, none⟩) := evl_of (hv_ 8 81 _ (by decide) rfl (hon 8 (by decide)))
                            exact ⟨_, rfl, fun K_ hK_ => q_op _ (x_load (.int .u8 bb) rfl e81 (bkCell (HS.get (.tail _ (.tail _ (.tail _ (.tail _ (.tail _ (.tail _ (.head _)))))))) 2 _ rfl) (by rfl)) (hK_ _ _ ⟨qv_up hV (fun _ h => Option.some.inj h), hE⟩)⟩
                          · have h82 : (fr l_).tmps[82]? = some (.int .u8 bb) := hv_ 9 82 _ (by decide) rfl (hon 9 (by decide))
                            have hE0 := hE
                            rw [show bq_ 13 = false from (hoff 13 (by decide))] at hE0
                            rw [show bq_ 11 = false from (hoff 11 (by decide))] at hE0
                            rw [show bq_ 10 = false from hb_] at hE0
                            simp only [cond_true, cond_false] at hE0
                            have HS := hE0
                            have e82 : evl l_ (.tmp 82) = .int .u8 bb := evl_of h82
                            refine ⟨_, rfl, fun K_ hK_ => wp_of_list rfl ?_⟩
                            intro ops_
                            refine St.wLit1 HS [.int .u8 bb] 1 (.int .u8 0) (.int .u8 bb) Try.underlying36 (by kernel_rfl) (by decide) e82 rfl rfl ?_
                            clear HS
                            intro g901001 w901002 hg901003 HS
                            refine wpList_nil ?_
                            refine norm_put (hK_ (.slice (some ⟨g901001, 0, none⟩) 1 1) _ ⟨qv_up hV (by intro _ h; cases h), ?_⟩)
                            show cond (bq_ 13) _ _
                            rw [show bq_ 13 = false from hoff 13 (by decide), cond_false]
                            show cond (bq_ 11) _ _
                            rw [show bq_ 11 = false from hoff 11 (by decide), cond_false]
                            show cond true _ _
                            rw [cond_true]
                            exact ⟨g901001, rfl, (((((((((HS.front 8 rfl).front 8 rfl).front 8 rfl).front 8 rfl).front 8 rfl).front 8 rfl).front 8 rfl).front 8 rfl).front 8 rfl)⟩
                          · have h80 : (fr l_).tmps[80]? = some (.slice (some ⟨gq, kq, none⟩) xq.length cq) := hv_ 7 80 _ (by decide) rfl (hon 7 (by decide))
                            have h83 := hval (10, 83) (by decide) (hon 10 (by decide))
                            have hE0 := hE
                            rw [show bq_ 13 = false from (hoff 13 (by decide))] at hE0
                            rw [show bq_ 11 = false from hb_] at hE0
                            rw [show bq_ 10 = true from (hon 10 (by decide))] at hE0
                            simp only [cond_true, cond_false] at hE0
                            obtain ⟨g901104, hv10, HS⟩ := hE0
                            rw [hv10] at h83
                            have e80 : evl l_ (.tmp 80) = .slice (some ⟨gq, kq, none⟩) xq.length cq := evl_of h80
                            have e83 : evl l_ (.tmp 83) = .slice (some ⟨g901104, 0, none⟩) 1 1 := evl_of h83
                            refine ⟨_, rfl, fun K_ hK_ => wp_of_list rfl ?_⟩
                            intro ops_
                            replace HS := (HS.front 5 rfl)
                            refine St.wAppO HS Try.underlying36 (by kernel_rfl) e80 e83 [bb] (List.cons_ne_nil _ _) (ints_reads (HS.get (.tail _ (.head _))) rfl (by simp)) (by simp; omega) ?_
                            clear HS
                            intro v901101 w901102 HS
                            refine wpList_nil ?_
                            refine norm_put (hK_ (v901101) _ ⟨qv_up hV (by intro _ h; cases h), ?_⟩)
                            show cond (bq_ 13) _ _
                            rw [show bq_ 13 = false from hoff 13 (by decide), cond_false]
                            show cond true _ _
                            rw [cond_true]
                            exact ⟨g901104, v901101, hv10, rfl, (((((((((HS.front 8 rfl).front 8 rfl).front 8 rfl).front 8 rfl).front 8 rfl).front 8 rfl).front 8 rfl).front 8 rfl).front 8 rfl)⟩
                          · have e73 : evl l_ (.tmp 73) = .slice (some ⟨g31, 0, none⟩) np np := evl_of (hv_ 0 73 _ (by decide) rfl (hon 0 (by decide)))
                            have e75 : evl l_ (.tmp 75) = .int .i64 (q : Int) := evl_of (hv_ 2 75 _ (by decide) rfl (hon 2 (by decide)))
                            exact ⟨_, rfl, fun K_ hK_ => q_op (.pointer (some ⟨g31, q * 1, none⟩)) ((x_index (A := ⟨g31, 0, none⟩) (j := q * 1) (sz := 1) rfl e73 e75 Try.underlying44 (by kernel_rfl) (by omega) rfl).trans (by rw [add_mk, Nat.zero_add])) (hK_ _ _ ⟨qv_up hV (fun _ h => Option.some.inj h), hE⟩)⟩
                          · have h84 := hval (11, 84) (by decide) (hon 11 (by decide))
                            have h85 : (fr l_).tmps[85]? = some (.pointer (some ⟨g31, q * 1, none⟩)) := hv_ 12 85 _ (by decide) rfl (hon 12 (by decide))
                            have hE0 := hE
                            rw [show bq_ 13 = false from hb_] at hE0
                            rw [show bq_ 11 = true from (hon 11 (by decide))] at hE0
                            simp only [cond_true, cond_false] at hE0
                            obtain ⟨g901104, v901107, hv10, hv11, HS⟩ := hE0
                            rw [hv11] at h84
                            have e84 : evl l_ (.tmp 84) = v901107 := evl_of h84
                            have e85 : evl l_ (.tmp 85) = .pointer (some ⟨g31, q * 1, none⟩) := evl_of h85
                            refine ⟨_, rfl, fun K_ hK_ => wp_of_list rfl ?_⟩
                            intro ops_
                            refine St.store (cs' := ((mv np ro).set q v901107)) (HS.front 8 rfl) (v901107) e85 e84 (orow_one (HS.get (.head _))) (by kernel_rfl) (decide_eq_true (by rw [mv_length (by omega)]; omega)) (congrArg (fun m => (mv np ro).set m _) (Nat.mul_one q)) ?_
                            clear HS
                            intro w901301 HS
                            refine wpList_nil ?_
                            refine norm_none (hK_ undef _ ⟨qv_up hV (by intro _ h; cases h), ?_⟩)
                            show cond true _ _
                            rw [cond_true]
                            exact ⟨g901104, v901107, hv10, hv11, (((((((((HS.front 8 rfl).front 8 rfl).front 8 rfl).front 8 rfl).front 8 rfl).front 8 rfl).front 8 rfl).front 8 rfl).front 8 rfl)⟩
                        intro bq_ vq_ w_ hall hG
                        obtain ⟨hV, hE⟩ := hG
                        clear HS
                        rw [show bq_ 13 = true from hall 13 (by decide)] at hE
                        simp only [cond_true] at hE
                        obtain ⟨g901104, v901107, hv10, hv11, HS⟩ := hE
                        have hv0 := hV 0 _ rfl (hall 0 (by decide))
                        have hv1 := hV 1 _ rfl (hall 1 (by decide))
                        have hv2 := hV 2 _ rfl (hall 2 (by decide))
                        have hv3 := hV 3 _ rfl (hall 3 (by decide))
                        have hv4 := hV 4 _ rfl (hall 4 (by decide))
                        have hv5 := hV 5 _ rfl (hall 5 (by decide))
                        have hv6 := hV 6 _ rfl (hall 6 (by decide))
                        have hv7 := hV 7 _ rfl (hall 7 (by decide))
                        have hv8 := hV 8 _ rfl (hall 8 (by decide))
                        have hv9 := hV 9 _ rfl (hall 9 (by decide))
                        have hv12 := hV 12 _ rfl (hall 12 (by decide))
                        clear hV hall
                        rw [putSel_fr]
                        simp only [tells, List.map_cons, List.map_nil, setAll, List.set_cons_succ, List.set_cons_zero, hv0, hv1, hv2, hv3, hv4, hv5, hv6, hv7, hv8, hv9, hv10, hv11, hv12]
                        clear hv0 hv1 hv2 hv3 hv4 hv5 hv6 hv7 hv8 hv9 hv10 hv11 hv12
                        generalize w_ = w901302 at HS ⊢
                        refine fr_at (l' := [.int .i64 (np : Int), .slice (some ad) l1.length c1, .slice A2 l2.length c2, u_, u_, u_, .bool false, .pointer (some ⟨D22, 0, none⟩), .slice (some ⟨g31, 0, none⟩) np np, u9, u_, .pointer (some ⟨g98, 0, none⟩), uq70.2.1, u_, u_, u_, u_, u_, u_, u_, u_, u_, .bool true, .bool false, .int .i64 (np : Int), .bool false, .bool false, .int .i64 (np : Int), .bool false, .bool false, .bool false, .slice (some ad) l1.length c1, .int .i64 (l1.length : Int), .bool false, .bool false, .bool false, .slice A2 l2.length c2, .int .i64 (l2.length : Int), .bool false, .bool false, .int .i64 (np : Int), .pointer (some ⟨D22, 0, none⟩), .int .i64 (np : Int), .slice (some ⟨g31, 0, none⟩) np np, .slice (some ⟨g31, 0, none⟩) np np, .int .i64 (np : Int), .int .i64 (np : Int), .bool (decide ((np : Int) < (np : Int))), u48, u49, u50, u51, u52, u53, .slice (some ad) l1.length c1, .int .i64 (l1.length : Int), .int .i64 (i : Int), .bool (decide ((i : Int) < (l1.length : Int))), .pointer (some ((ad).add (i * 4))), .agg ([.int .i64 kd, .int .i64 (q : Int), .int .u8 bb, .slice A3 kp.length c3] : List Value).toArray, .pointer (some ⟨g98, 0, none⟩), .int .i64 kd, .bool true, .bool true, .pointer (some ⟨D22, 0, none⟩), .pointer (some ⟨g98, 1, none⟩), .int .i64 (q : Int), .pointer (some ⟨g98, 2, none⟩), .int .u8 bb, .agg ((nums .u8 (rep bb))).toArray, .int .i64 (S.writeE (q : Int)), .bool true, .bool true, .slice (some ⟨g31, 0, none⟩) np np, .pointer (some ⟨g98, 1, none⟩), .int .i64 (q : Int), .slice (some ⟨g31, 0, none⟩) np np, .pointer (some ⟨g98, 1, none⟩), .int .i64 (q : Int), .pointer (some ⟨g31, q * 1, none⟩), .slice (some ⟨gq, kq, none⟩) xq.length cq, .pointer (some ⟨g98, 2, none⟩), .int .u8 bb, .slice (some ⟨g901104, 0, none⟩) 1 1, v901107, .pointer (some ⟨g31, q * 1, none⟩), uq75.2.1, uq75.2.2.1, uq75.2.2.2.1, uq75.2.2.2.2.1, uq75.2.2.2.2.2, uq76.1, uq76.2.1, uq76.2.2.1, uq76.2.2.2.1, uq76.2.2.2.2.1, uq76.2.2.2.2.2, uq77.1, uq77.2.1, uq77.2.2.1, uq77.2.2.2.1, uq77.2.2.2.2.1, uq77.2.2.2.2.2, uq78.1, uq78.2.1, uq78.2.2.1, uq78.2.2.2.1, uq78.2.2.2.2.1, uq78.2.2.2.2.2, uq79.1, uq79.2.1, uq79.2.2.1, uq79.2.2.2.1, uq79.2.2.2.2.1, uq79.2.2.2.2.2, uq80.1, uq80.2.1, uq80.2.2.1, uq80.2.2.2.1, uq80.2.2.2.2.1, uq80.2.2.2.2.2, uq81, u_, u_, u_, u_, u_, u_, u_, u_, u_, u_, u_, u_, u_, u_, u_, u_, u_, u_, u_, u_, u_, u_, u_, u_, u_, u_, u_, u_, u_, u_, u_, u_, u_, u_, u_, u_, u_, u_, u_, u_, u_, u_, u_, u_, u_, u_, u_, u_, u_, u_, u_, u_, u_, u_, u_, u_, u_, u_]) rfl ?_
                        replace HS := ((HS.front 7 rfl).front 2 rfl)
                        replace HS := HS.backM hr
                        rw [mv_set hr _ (xq ++ [bb])] at HS
                        have hol1 : (ro.set q (v901107, xq ++ [bb])).length = np := by rw [List.length_set]; exact hol
                        refine hK103 _ _ ?_
                        refine wp_seq_k (fun K901303 hK901304 => ?_)
                        refine wp_seq_k (fun K901305 hK901306 => ?_)
                        refine c_region (fun ops901308 hops901307 => ?_)
                        refine p_run (l' := _) _ (x_field (j := 0) _ _ rfl rfl Try.underlying38 rfl (by rfl) rfl) rfl ?_
                        refine p_run (l' := _) _ (x_load (.int .i64 kd) rfl rfl (bkCell (HS.get (.tail _ (.tail _ (.tail _ (.tail _ (.tail _ (.tail _ (.tail _ (.head _))))))))) 0 _ rfl) (by rfl)) rfl ?_
                        refine p_run (l' := _) _ (x_cmp (k := .i64) (m := kd) (n := 1) .eql false rfl rfl rfl (by rw [hk]; rfl) rfl) rfl ?_
                        refine p_run (l' := _) _ (x_move (.bool false) rfl rfl) rfl ?_
                        refine p_off (l' := _) (by rw [hops901307]; rfl) rfl ?_
                        refine p_off (l' := _) (by rw [hops901307]; rfl) rfl ?_
                        refine p_off (l' := _) (by rw [hops901307]; rfl) rfl ?_
                        refine p_run (l' := _) _ (x_pick false (u_) (.bool false) (.bool false) rfl rfl rfl rfl rfl) rfl ?_
                        clear hops901307
                        refine wpList_nil ?_
                        refine fr_at (l' := [.int .i64 (np : Int), .slice (some ad) l1.length c1, .slice A2 l2.length c2, u_, u_, u_, .bool false, .pointer (some ⟨D22, 0, none⟩), .slice (some ⟨g31, 0, none⟩) np np, u9, u_, .pointer (some ⟨g98, 0, none⟩), uq70.2.1, u_, u_, u_, u_, u_, u_, u_, u_, u_, .bool true, .bool false, .int .i64 (np : Int), .bool false, .bool false, .int .i64 (np : Int), .bool false, .bool false, .bool false, .slice (some ad) l1.length c1, .int .i64 (l1.length : Int), .bool false, .bool false, .bool false, .slice A2 l2.length c2, .int .i64 (l2.length : Int), .bool false, .bool false, .int .i64 (np : Int), .pointer (some ⟨D22, 0, none⟩), .int .i64 (np : Int), .slice (some ⟨g31, 0, none⟩) np np, .slice (some ⟨g31, 0, none⟩) np np, .int .i64 (np : Int), .int .i64 (np : Int), .bool (decide ((np : Int) < (np : Int))), u48, u49, u50, u51, u52, u53, .slice (some ad) l1.length c1, .int .i64 (l1.length : Int), .int .i64 (i : Int), .bool (decide ((i : Int) < (l1.length : Int))), .pointer (some ((ad).add (i * 4))), .agg ([.int .i64 kd, .int .i64 (q : Int), .int .u8 bb, .slice A3 kp.length c3] : List Value).toArray, .pointer (some ⟨g98, 0, none⟩), .int .i64 kd, .bool true, .bool true, .pointer (some ⟨D22, 0, none⟩), .pointer (some ⟨g98, 1, none⟩), .int .i64 (q : Int), .pointer (some ⟨g98, 2, none⟩), .int .u8 bb, .agg ((nums .u8 (rep bb))).toArray, .int .i64 (S.writeE (q : Int)), .bool true, .bool true, .slice (some ⟨g31, 0, none⟩) np np, .pointer (some ⟨g98, 1, none⟩), .int .i64 (q : Int), .slice (some ⟨g31, 0, none⟩) np np, .pointer (some ⟨g98, 1, none⟩), .int .i64 (q : Int), .pointer (some ⟨g31, q * 1, none⟩), .slice (some ⟨gq, kq, none⟩) xq.length cq, .pointer (some ⟨g98, 2, none⟩), .int .u8 bb, .slice (some ⟨g901104, 0, none⟩) 1 1, v901107, .pointer (some ⟨g31, q * 1, none⟩), .pointer (some ⟨g98, 0, none⟩), .int .i64 kd, .bool false, .bool false, u_, u_, u_, .bool false, uq76.2.2.2.1, uq76.2.2.2.2.1, uq76.2.2.2.2.2, uq77.1, uq77.2.1, uq77.2.2.1, uq77.2.2.2.1, uq77.2.2.2.2.1, uq77.2.2.2.2.2, uq78.1, uq78.2.1, uq78.2.2.1, uq78.2.2.2.1, uq78.2.2.2.2.1, uq78.2.2.2.2.2, uq79.1, uq79.2.1, uq79.2.2.1, uq79.2.2.2.1, uq79.2.2.2.2.1, uq79.2.2.2.2.2, uq80.1, uq80.2.1, uq80.2.2.1, uq80.2.2.2.1, uq80.2.2.2.2.1, uq80.2.2.2.2.2, uq81, u_, u_, u_, u_, u_, u_, u_, u_, u_, u_, u_, u_, u_, u_, u_, u_, u_, u_, u_, u_, u_, u_, u_, u_, u_, u_, u_, u_, u_, u_, u_, u_, u_, u_, u_, u_, u_, u_, u_, u_, u_, u_, u_, u_, u_, u_, u_, u_, u_, u_, u_, u_, u_, u_, u_, u_, u_, u_]) rfl ?_
                        refine hK901306 _ _ ?_
                        refine c_false rfl ?_
                        refine wp_skip ?_
                        refine hK901304 _ _ ?_
                        refine wp_seq_k (fun K901309 hK901310 => ?_)
                        refine c_region (fun ops901312 hops901311 => ?_)
                        clear hops901311
                        refine p_run (l' := _) _ (x_field (j := 0) _ _ rfl rfl Try.underlying38 rfl (by rfl) rfl) rfl ?_
                        refine p_run (l' := _) _ (x_load (.int .i64 kd) rfl rfl (bkCell (HS.get (.tail _ (.tail _ (.tail _ (.tail _ (.tail _ (.tail _ (.tail _ (.head _))))))))) 0 _ rfl) (by rfl)) rfl ?_
                        refine p_run (l' := _) _ (x_cmp (k := .i64) (m := kd) (n := 2) .eql false rfl rfl rfl (by rw [hk]; rfl) rfl) rfl ?_
                        refine wpList_nil ?_
                        refine hK901310 _ _ ?_
                        refine c_false rfl ?_
                        refine wp_skip ?_
                        refine hK93 _ _ ?_
                        refine c_region (fun ops901314 hops901313 => ?_)
                        clear hops901313
                        refine p_run (l' := _) _ (x_arith (k := .i64) (m := (i : Int)) (n := 1) .add (((i + 1 : Nat) : Int)) rfl rfl rfl (show IntKind.i64.wrap ((i : Int) + 1) = ((i + 1 : Nat) : Int) from ((wr64 (by omega)).trans (by omega))) rfl) rfl ?_
                        refine p_run (l' := _) _ (x_move (.int .i64 ((i + 1 : Nat) : Int)) rfl rfl) rfl ?_
                        refine wpList_nil ?_
                        refine fr_at (l' := [.int .i64 (np : Int), .slice (some ad) l1.length c1, .slice A2 l2.length c2, u_, u_, u_, .bool false, .pointer (some ⟨D22, 0, none⟩), .slice (some ⟨g31, 0, none⟩) np np, u9, u_, .pointer (some ⟨g98, 0, none⟩), uq70.2.1, u_, u_, u_, u_, u_, u_, u_, u_, u_, .bool true, .bool false, .int .i64 (np : Int), .bool false, .bool false, .int .i64 (np : Int), .bool false, .bool false, .bool false, .slice (some ad) l1.length c1, .int .i64 (l1.length : Int), .bool false, .bool false, .bool false, .slice A2 l2.length c2, .int .i64 (l2.length : Int), .bool false, .bool false, .int .i64 (np : Int), .pointer (some ⟨D22, 0, none⟩), .int .i64 (np : Int), .slice (some ⟨g31, 0, none⟩) np np, .slice (some ⟨g31, 0, none⟩) np np, .int .i64 (np : Int), .int .i64 (np : Int), .bool (decide ((np : Int) < (np : Int))), u48, u49, u50, u51, u52, u53, .slice (some ad) l1.length c1, .int .i64 (l1.length : Int), .int .i64 ((i + 1 : Nat) : Int), .bool (decide ((i : Int) < (l1.length : Int))), .pointer (some ((ad).add (i * 4))), .agg ([.int .i64 kd, .int .i64 (q : Int), .int .u8 bb, .slice A3 kp.length c3] : List Value).toArray, .pointer (some ⟨g98, 0, none⟩), .int .i64 kd, .bool true, .bool true, .pointer (some ⟨D22, 0, none⟩), .pointer (some ⟨g98, 1, none⟩), .int .i64 (q : Int), .pointer (some ⟨g98, 2, none⟩), .int .u8 bb, .agg ((nums .u8 (rep bb))).toArray, .int .i64 (S.writeE (q : Int)), .bool true, .bool true, .slice (some ⟨g31, 0, none⟩) np np, .pointer (some ⟨g98, 1, none⟩), .int .i64 (q : Int), .slice (some ⟨g31, 0, none⟩) np np, .pointer (some ⟨g98, 1, none⟩), .int .i64 (q : Int), .pointer (some ⟨g31, q * 1, none⟩), .slice (some ⟨gq, kq, none⟩) xq.length cq, .pointer (some ⟨g98, 2, none⟩), .int .u8 bb, .slice (some ⟨g901104, 0, none⟩) 1 1, v901107, .pointer (some ⟨g31, q * 1, none⟩), .pointer (some ⟨g98, 0, none⟩), .int .i64 kd, .bool false, .bool false, u_, u_, u_, .bool false, uq76.2.2.2.1, uq76.2.2.2.2.1, uq76.2.2.2.2.2, uq77.1, uq77.2.1, uq77.2.2.1, uq77.2.2.2.1, uq77.2.2.2.2.1, uq77.2.2.2.2.2, uq78.1, uq78.2.1, uq78.2.2.1, uq78.2.2.2.1, uq78.2.2.2.2.1, uq78.2.2.2.2.2, uq79.1, uq79.2.1, uq79.2.2.1, uq79.2.2.2.1, uq79.2.2.2.2.1, .pointer (some ⟨g98, 0, none⟩), .int .i64 kd, .bool false, uq80.2.2.1, uq80.2.2.2.1, uq80.2.2.2.2.1, uq80.2.2.2.2.2, .int .i64 ((i + 1 : Nat) : Int), u_, u_, u_, u_, u_, u_, u_, u_, u_, u_, u_, u_, u_, u_, u_, u_, u_, u_, u_, u_, u_, u_, u_, u_, u_, u_, u_, u_, u_, u_, u_, u_, u_, u_, u_, u_, u_, u_, u_, u_, u_, u_, u_, u_, u_, u_, u_, u_, u_, u_, u_, u_, u_, u_, u_, u_, u_, u_]) rfl ?_
                        refine hJ83 (i + 1, (S.write (q : Int) (rep bb)), v109, (ro.set q (v901107, xq ++ [bb]))) _ _ ?_ ?_
                        · show l1.length - (i + 1) < l1.length - i; omega
                        · exact ⟨(.pointer (some ⟨g98, 0, none⟩), uq70.2.1, .bool (decide ((i : Int) < (l1.length : Int))), .pointer (some ((ad).add (i * 4))), .agg ([.int .i64 kd, .int .i64 (q : Int), .int .u8 bb, .slice A3 kp.length c3] : List Value).toArray, .pointer (some ⟨g98, 0, none⟩)), (.int .i64 kd, .bool true, .bool true, .pointer (some ⟨D22, 0, none⟩), .pointer (some ⟨g98, 1, none⟩), .int .i64 (q : Int)), (.pointer (some ⟨g98, 2, none⟩), .int .u8 bb, .agg ((nums .u8 (rep bb))).toArray, .int .i64 (S.writeE (q : Int)), .bool true, .bool true), (.slice (some ⟨g31, 0, none⟩) np np, .pointer (some ⟨g98, 1, none⟩), .int .i64 (q : Int), .slice (some ⟨g31, 0, none⟩) np np, .pointer (some ⟨g98, 1, none⟩), .int .i64 (q : Int)), (.pointer (some ⟨g31, q * 1, none⟩), .slice (some ⟨gq, kq, none⟩) xq.length cq, .pointer (some ⟨g98, 2, none⟩), .int .u8 bb, .slice (some ⟨g901104, 0, none⟩) 1 1, v901107), (.pointer (some ⟨g31, q * 1, none⟩), .pointer (some ⟨g98, 0, none⟩), .int .i64 kd, .bool false, .bool false, u_), (u_, u_, .bool false, uq76.2.2.2.1, uq76.2.2.2.2.1, uq76.2.2.2.2.2), uq77, uq78, (uq79.1, uq79.2.1, uq79.2.2.1, uq79.2.2.2.1, uq79.2.2.2.2.1, .pointer (some ⟨g98, 0, none⟩)), (.int .i64 kd, .bool false, uq80.2.2.1, uq80.2.2.2.1, uq80.2.2.2.2.1, uq80.2.2.2.2.2), .int .i64 ((i + 1 : Nat) : Int), rfl, (((((((HS.front 2 rfl).drop.front 6 rfl).drop.front 1 rfl).front 5 rfl).front 5 rfl).front 5 rfl).front 5 rfl), ⟨by rw [List.map_set]; exact ki_write hK he bb hx, hol1, by omega⟩⟩
                      · skip
                        refine free_frame (n := 13) (T := _) [0, 1, 3, 7, 15, 15, 47, 15, 143, 399, 1023, 2047, 4095] [(0, 60), (1, 61), (2, 62), (3, 63), (4, 64), (5, 65), (6, 66), (7, 67), (8, 68), (9, 69), (10, 70), (11, 71), (12, 72)] (fun bq_ vq_ w_ => qv ((fun i_ => match i_ with | 0 => some (.pointer (some ⟨g98, 0, none⟩)) | 1 => some (.int .i64 kd) | 2 => some (.bool true) | 3 => some (.bool true) | 4 => some (.pointer (some ⟨D22, 0, none⟩)) | 5 => some (.pointer (some ⟨g98, 1, none⟩)) | 6 => some (.int .i64 aa) | 7 => some (.pointer (some ⟨g98, 2, none⟩)) | 8 => some (.int .u8 bb) | 11 => some (.bool false) | 12 => some (.bool false) | _ => none) : Nat → Option Value) bq_ vq_ ∧ cond (bq_ 10) (∃ (v901318 : Value), vq_ 9 = .agg ((nums .u8 (rep bb))).toArray ∧ vq_ 10 = .int .i64 (S.writeE aa) ∧ St w (fun _ => False) w_ ([blk D22 (dskC gs23 gm24 v901318 (S.write aa (rep bb))) 66, blk gs23 (pgs (S.write aa (rep bb)).stable) 31, mapR gm24 (S.write aa (rep bb)).cnt (S.write aa (rep bb)).bad, row kWr rfl 71 v901318 (S.write aa (rep bb)).pending, blk g98 [.int .i64 kd, .int .i64 aa, .int .u8 bb, .slice A3 kp.length c3] 38, blk g31 ((mv np ro)) 36, allR (mr ro)])) (cond (bq_ 9) (vq_ 9 = .agg ((nums .u8 (rep bb))).toArray ∧ St w (fun _ => False) w_ ([blk g98 [.int .i64 kd, .int .i64 aa, .int .u8 bb, .slice A3 kp.length c3] 38, blk D22 (dskC gs23 gm24 v1 S) 66, blk gs23 (pgs S.stable) 31, mapR gm24 S.cnt S.bad, row kWr rfl 71 v1 S.pending, blk g31 ((mv np ro)) 36, allR (mr ro)])) ((St w (fun _ => False) w_ ([blk g98 [.int .i64 kd, .int .i64 aa, .int .u8 bb, .slice A3 kp.length c3] 38, blk D22 (dskC gs23 gm24 v1 S) 66, blk gs23 (pgs S.stable) 31, mapR gm24 S.cnt S.bad, row kWr rfl 71 v1 S.pending, blk g31 ((mv np ro)) 36, allR (mr ro)]))))) (by kernel_rfl) rfl rfl (by kernel_rfl) (by kernel_rfl) rfl (by kernel_rfl) (by kernel_rfl) ⟨qv_none, HS.draw⟩ ?_ ?_
                        · clear HS
                          intro i_ hi_ bq_ vq_ a_ w_ hG hb_ hon hoff hfr hel hval
                          obtain ⟨hV, hE⟩ := hG
                          have hi_ := List.mem_range.1 hi_
                          obtain ⟨l_, rfl⟩ := hfr
                          have hv_ := fun (j t : Nat) (v : Value) (h1 : (j, t) ∈ [(0, 60), (1, 61), (2, 62), (3, 63), (4, 64), (5, 65), (6, 66), (7, 67), (8, 68), (9, 69), (10, 70), (11, 71), (12, 72)]) h2 h3 => (hval (j, t) h1 h3).trans (congrArg some (hV j v h2 h3))
                          have hcs : i_ = 0 ∨ i_ = 1 ∨ i_ = 2 ∨ i_ = 3 ∨ i_ = 4 ∨ i_ = 5 ∨ i_ = 6 ∨ i_ = 7 ∨ i_ = 8 ∨ i_ = 9 ∨ i_ = 10 ∨ i_ = 11 ∨ i_ = 12 := by omega
                          rcases hcs with rfl | rfl | rfl | rfl | rfl | rfl | rfl | rfl | rfl | rfl | rfl | rfl | rfl
                          · have e11 : evl l_ (.tmp 11) = .pointer (some ⟨g98, 0, none⟩) := evl_of ((hel 11 (by decide)).trans rfl)
                            exact ⟨_, rfl, fun K_ hK_ => q_op _ (x_field (j := 0) _ _ rfl e11 Try.underlying38 rfl (by rfl) rfl) (hK_ _ _ ⟨qv_up hV (fun _ h => Option.some.inj h), hE⟩)⟩
                          · have hE0 := hE
                            rw [show bq_ 10 = false from (hoff 10 (by decide))] at hE0
                            rw [show bq_ 9 = false from (hoff 9 (by decide))] at hE0
                            simp only [cond_true, cond_false] at hE0
                            have HS := hE0
                            have e60 : evl l_ (.tmp 60) = .pointer (some ⟨g98, 0, none⟩) := evl_of (hv_ 0 60 _ (by decide) rfl (hon 0 (by decide)))
                            exact ⟨_, rfl, fun K_ hK_ => q_op _ (x_load (.int .i64 kd) rfl e60 (bkCell (HS.get (.head _)) 0 _ rfl) (by rfl)) (hK_ _ _ ⟨qv_up hV (fun _ h => Option.some.inj h), hE⟩)⟩
                          · have e61 : evl l_ (.tmp 61) = .int .i64 kd := evl_of (hv_ 1 61 _ (by decide) rfl (hon 1 (by decide)))
                            exact ⟨_, rfl, fun K_ hK_ => q_op _ (x_cmp (k := .i64) (m := kd) (n := 0) .eql true rfl e61 rfl (beq_iff_eq.2 hk) rfl) (hK_ _ _ ⟨qv_up hV (fun _ h => Option.some.inj h), hE⟩)⟩
                          · have e62 : evl l_ (.tmp 62) = .bool true := evl_of (hv_ 2 62 _ (by decide) rfl (hon 2 (by decide)))
                            exact ⟨_, rfl, fun K_ hK_ => q_op _ (x_move (.bool true) rfl e62) (hK_ _ _ ⟨qv_up hV (fun _ h => Option.some.inj h), hE⟩)⟩
                          · have h63 : (fr l_).tmps[63]? = some (.bool true) := hv_ 3 63 _ (by decide) rfl (hon 3 (by decide))
                            have e7 : evl l_ (.tmp 7) = .pointer (some ⟨D22, 0, none⟩) := evl_of ((hel 7 (by decide)).trans rfl)
                            have e63 : evl l_ (.tmp 63) = .bool true := evl_of h63
                            exact ⟨_, rfl, fun K_ hK_ => q_opG (wanted_on (t := 63) rfl rfl rfl h63) _ (x_move (.pointer (some ⟨D22, 0, none⟩)) rfl e7) (hK_ _ _ ⟨qv_up hV (fun _ h => Option.some.inj h), hE⟩)⟩
                          · have h63 : (fr l_).tmps[63]? = some (.bool true) := hv_ 3 63 _ (by decide) rfl (hon 3 (by decide))
                            have e11 : evl l_ (.tmp 11) = .pointer (some ⟨g98, 0, none⟩) := evl_of ((hel 11 (by decide)).trans rfl)
                            have e63 : evl l_ (.tmp 63) = .bool true := evl_of h63
                            exact ⟨_, rfl, fun K_ hK_ => q_opG (wanted_on (t := 63) rfl rfl rfl h63) _ (x_field (j := 1) _ _ rfl e11 Try.underlying38 rfl (by rfl) rfl) (hK_ _ _ ⟨qv_up hV (fun _ h => Option.some.inj h), hE⟩)⟩
                          · have h63 : (fr l_).tmps[63]? = some (.bool true) := hv_ 3 63 _ (by decide) rfl (hon 3 (by decide))
                            rcases hq9 : bq_ 9 with _ | _
                            · skip
                              have hE0 := hE
                              rw [show bq_ 10 = false from (hoff 10 (by decide))] at hE0
                              rw [show bq_ 9 = false from hq9] at hE0
                              simp only [cond_true, cond_false] at hE0
                              have HS := hE0
                              have e63 : evl l_ (.tmp 63) = .bool true := evl_of h63
                              have e65 : evl l_ (.tmp 65) = .pointer (some ⟨g98, 1, none⟩) := evl_of (hv_ 5 65 _ (by decide) rfl (hon 5 (by decide)))
                              exact ⟨_, rfl, fun K_ hK_ => q_opG (wanted_on (t := 63) rfl rfl rfl h63) _ (x_load (.int .i64 aa) rfl e65 (bkCell (HS.get (.head _)) 1 _ rfl) (by rfl)) (hK_ _ _ ⟨qv_up hV (fun _ h => Option.some.inj h), hE⟩)⟩
                            · have hE0 := hE
                              rw [show bq_ 10 = false from (hoff 10 (by decide))] at hE0
                              rw [show bq_ 9 = true from hq9] at hE0
                              simp only [cond_true, cond_false] at hE0
                              obtain ⟨hv9, HS⟩ := hE0
                              have e63 : evl l_ (.tmp 63) = .bool true := evl_of h63
                              have e65 : evl l_ (.tmp 65) = .pointer (some ⟨g98, 1, none⟩) := evl_of (hv_ 5 65 _ (by decide) rfl (hon 5 (by decide)))
                              exact ⟨_, rfl, fun K_ hK_ => q_opG (wanted_on (t := 63) rfl rfl rfl h63) _ (x_load (.int .i64 aa) rfl e65 (bkCell (HS.get (.head _)) 1 _ rfl) (by rfl)) (hK_ _ _ ⟨qv_up hV (fun _ h => Option.some.inj h), hE⟩)⟩
                          · have h63 : (fr l_).tmps[63]? = some (.bool true) := hv_ 3 63 _ (by decide) rfl (hon 3 (by decide))
                            have e11 : evl l_ (.tmp 11) = .pointer (some ⟨g98, 0, none⟩) := evl_of ((hel 11 (by decide)).trans rfl)
                            have e63 : evl l_ (.tmp 63) = .bool true := evl_of h63
                            exact ⟨_, rfl, fun K_ hK_ => q_opG (wanted_on (t := 63) rfl rfl rfl h63) _ (x_field (j := 2) _ _ rfl e11 Try.underlying38 rfl (by rfl) rfl) (hK_ _ _ ⟨qv_up hV (fun _ h => Option.some.inj h), hE⟩)⟩
                          · have h63 : (fr l_).tmps[63]? = some (.bool true) := hv_ 3 63 _ (by decide) rfl (hon 3 (by decide))
                            have hE0 := hE
                            rw [show bq_ 10 = false from (hoff 10 (by decide))] at hE0
                            rw [show bq_ 9 = false from (hoff 9 (by decide))] at hE0
                            simp only [cond_true, cond_false] at hE0
                            have HS := hE0
                            have e63 : evl l_ (.tmp 63) = .bool true := evl_of h63
                            have e67 : evl l_ (.tmp 67) = .pointer (some ⟨g98, 2, none⟩) := evl_of (hv_ 7 67 _ (by decide) rfl (hon 7 (by decide)))
                            exact ⟨_, rfl, fun K_ hK_ => q_opG (wanted_on (t := 63) rfl rfl rfl h63) _ (x_load (.int .u8 bb) rfl e67 (bkCell (HS.get (.head _)) 2 _ rfl) (by rfl)) (hK_ _ _ ⟨qv_up hV (fun _ h => Option.some.inj h), hE⟩)⟩
                          · have h63 : (fr l_).tmps[63]? = some (.bool true) := hv_ 3 63 _ (by decide) rfl (hon 3 (by decide))
                            have h68 : (fr l_).tmps[68]? = some (.int .u8 bb) := hv_ 8 68 _ (by decide) rfl (hon 8 (by decide))
                            have hE0 := hE
                            rw [show bq_ 10 = false from (hoff 10 (by decide))] at hE0
                            rw [show bq_ 9 = false from hb_] at hE0
                            simp only [cond_true, cond_false] at hE0
                            have HS := hE0
                            have e63 : evl l_ (.tmp 63) = .bool true := evl_of h63
                            have e68 : evl l_ (.tmp 68) = .int .u8 bb := evl_of h68
                            refine ⟨_, rfl, fun K_ hK_ => wp_of_listG rfl (wanted_on (t := 63) rfl rfl rfl h63) ?_⟩
                            intro ops_
                            refine w_call [.int .u8 bb] Try.func14 (by kernel_rfl) (by rfl) (by simp only [List.map_cons, List.map_nil, e68] <;> rfl) ?_
                            refine (full_any HS bb).mono ?_
                            clear HS
                            rintro e w900901 ⟨rfl, HS⟩
                            refine ⟨_, rfl, ?_⟩
                            refine wpList_nil ?_
                            refine norm_put (hK_ (.agg ((nums .u8 (rep bb))).toArray) _ ⟨qv_up hV (by intro _ h; cases h), ?_⟩)
                            show cond (bq_ 10) _ _
                            rw [show bq_ 10 = false from hoff 10 (by decide), cond_false]
                            show cond true _ _
                            rw [cond_true]
                            exact ⟨rfl, (((((((HS.front 6 rfl).front 6 rfl).front 6 rfl).front 6 rfl).front 6 rfl).front 6 rfl).front 6 rfl)⟩
                          · have h63 : (fr l_).tmps[63]? = some (.bool true) := hv_ 3 63 _ (by decide) rfl (hon 3 (by decide))
                            have h64 : (fr l_).tmps[64]? = some (.pointer (some ⟨D22, 0, none⟩)) := hv_ 4 64 _ (by decide) rfl (hon 4 (by decide))
                            have h66 : (fr l_).tmps[66]? = some (.int .i64 aa) := hv_ 6 66 _ (by decide) rfl (hon 6 (by decide))
                            have h69 := hval (9, 69) (by decide) (hon 9 (by decide))
                            have hE0 := hE
                            rw [show bq_ 10 = false from hb_] at hE0
                            rw [show bq_ 9 = true from (hon 9 (by decide))] at hE0
                            simp only [cond_true, cond_false] at hE0
                            obtain ⟨hv9, HS⟩ := hE0
                            rw [hv9] at h69
                            have e63 : evl l_ (.tmp 63) = .bool true := evl_of h63
                            have e64 : evl l_ (.tmp 64) = .pointer (some ⟨D22, 0, none⟩) := evl_of h64
                            have e66 : evl l_ (.tmp 66) = .int .i64 aa := evl_of h66
                            have e69 : evl l_ (.tmp 69) = .agg ((nums .u8 (rep bb))).toArray := evl_of h69
                            refine ⟨_, rfl, fun K_ hK_ => wp_of_listG rfl (wanted_on (t := 63) rfl rfl rfl h63) ?_⟩
                            intro ops_
                            refine w_call [.pointer (some ⟨D22, 0, none⟩), .int .i64 aa, .agg ((nums .u8 (rep bb))).toArray] Try.func13 (by kernel_rfl) (by rfl) (by simp only [List.map_cons, List.map_nil, e64, e66, e69] <;> rfl) ?_
                            replace HS := ((((HS.front 4 rfl).front 4 rfl).front 4 rfl).front 4 rfl)
                            refine (write_any HS hK.gd.lft (by have := hK.gd.pn; omega) aa (rep bb) (rep_len _)).mono ?_
                            clear HS
                            rintro e w901002 ⟨v901001, rfl, HS⟩
                            refine ⟨_, rfl, ?_⟩
                            refine wpList_nil ?_
                            refine norm_put (hK_ (.int .i64 (S.writeE aa)) _ ⟨qv_up hV (by intro _ h; cases h), ?_⟩)
                            show cond true _ _
                            rw [cond_true]
                            exact ⟨v901001, hv9, rfl, (((((((HS.front 6 rfl).front 6 rfl).front 6 rfl).front 6 rfl).front 6 rfl).front 6 rfl).front 6 rfl)⟩
                          · have h63 : (fr l_).tmps[63]? = some (.bool true) := hv_ 3 63 _ (by decide) rfl (hon 3 (by decide))
                            have h70 := hval (10, 70) (by decide) (hon 10 (by decide))
                            have hE0 := hE
                            rw [show bq_ 10 = true from (hon 10 (by decide))] at hE0
                            simp only [cond_true, cond_false] at hE0
                            obtain ⟨v901318, hv9, hv10, HS⟩ := hE0
                            rw [hv10] at h70
                            have e63 : evl l_ (.tmp 63) = .bool true := evl_of h63
                            have e70 : evl l_ (.tmp 70) = .int .i64 (S.writeE aa) := evl_of h70
                            exact ⟨_, rfl, fun K_ hK_ => q_opG (wanted_on (t := 63) rfl rfl rfl h63) _ (x_cmp (k := .i64) (m := (S.writeE aa)) (n := 0) .eql false rfl e70 rfl (cmpz_no he) rfl) (hK_ _ _ ⟨qv_up hV (fun _ h => Option.some.inj h), hE⟩)⟩
                          · have e63 : evl l_ (.tmp 63) = .bool true := evl_of (hv_ 3 63 _ (by decide) rfl (hon 3 (by decide)))
                            have e71 : evl l_ (.tmp 71) = .bool false := evl_of (hv_ 11 71 _ (by decide) rfl (hon 11 (by decide)))
                            exact ⟨_, rfl, fun K_ hK_ => q_op _ (x_pick true (.bool false) (.bool false) (.bool false) rfl e63 e71 rfl rfl) (hK_ _ _ ⟨qv_up hV (fun _ h => Option.some.inj h), hE⟩)⟩
                        intro bq_ vq_ w_ hall hG
                        obtain ⟨hV, hE⟩ := hG
                        clear HS
                        rw [show bq_ 10 = true from hall 10 (by decide)] at hE
                        simp only [cond_true] at hE
                        obtain ⟨v901318, hv9, hv10, HS⟩ := hE
                        have hv0 := hV 0 _ rfl (hall 0 (by decide))
                        have hv1 := hV 1 _ rfl (hall 1 (by decide))
                        have hv2 := hV 2 _ rfl (hall 2 (by decide))
                        have hv3 := hV 3 _ rfl (hall 3 (by decide))
                        have hv4 := hV 4 _ rfl (hall 4 (by decide))
                        have hv5 := hV 5 _ rfl (hall 5 (by decide))
                        have hv6 := hV 6 _ rfl (hall 6 (by decide))
                        have hv7 := hV 7 _ rfl (hall 7 (by decide))
                        have hv8 := hV 8 _ rfl (hall 8 (by decide))
                        have hv11 := hV 11 _ rfl (hall 11 (by decide))
                        have hv12 := hV 12 _ rfl (hall 12 (by decide))
                        clear hV hall
                        rw [putSel_fr]
                        simp only [tells, List.map_cons, List.map_nil, setAll, List.set_cons_succ, List.set_cons_zero, hv0, hv1, hv2, hv3, hv4, hv5, hv6, hv7, hv8, hv9, hv10, hv11, hv12]
                        clear hv0 hv1 hv2 hv3 hv4 hv5 hv6 hv7 hv8 hv9 hv10 hv11 hv12
                        generalize w_ = w901101 at HS ⊢
                        refine fr_at (l' := [.int .i64 (np : Int), .slice (some ad) l1.length c1, .slice A2 l2.length c2, u_, u_, u_, .bool false, .pointer (some ⟨D22, 0, none⟩), .slice (some ⟨g31, 0, none⟩) np np, u9, u_, .pointer (some ⟨g98, 0, none⟩), uq70.2.1, u_, u_, u_, u_, u_, u_, u_, u_, u_, .bool true, .bool false, .int .i64 (np : Int), .bool false, .bool false, .int .i64 (np : Int), .bool false, .bool false, .bool false, .slice (some ad) l1.length c1, .int .i64 (l1.length : Int), .bool false, .bool false, .bool false, .slice A2 l2.length c2, .int .i64 (l2.length : Int), .bool false, .bool false, .int .i64 (np : Int), .pointer (some ⟨D22, 0, none⟩), .int .i64 (np : Int), .slice (some ⟨g31, 0, none⟩) np np, .slice (some ⟨g31, 0, none⟩) np np, .int .i64 (np : Int), .int .i64 (np : Int), .bool (decide ((np : Int) < (np : Int))), u48, u49, u50, u51, u52, u53, .slice (some ad) l1.length c1, .int .i64 (l1.length : Int), .int .i64 (i : Int), .bool (decide ((i : Int) < (l1.length : Int))), .pointer (some ((ad).add (i * 4))), .agg ([.int .i64 kd, .int .i64 aa, .int .u8 bb, .slice A3 kp.length c3] : List Value).toArray, .pointer (some ⟨g98, 0, none⟩), .int .i64 kd, .bool true, .bool true, .pointer (some ⟨D22, 0, none⟩), .pointer (some ⟨g98, 1, none⟩), .int .i64 aa, .pointer (some ⟨g98, 2, none⟩), .int .u8 bb, .agg ((nums .u8 (rep bb))).toArray, .int .i64 (S.writeE aa), .bool false, .bool false, uq73.1, uq73.2.1, uq73.2.2.1, uq73.2.2.2.1, uq73.2.2.2.2.1, uq73.2.2.2.2.2, uq74.1, uq74.2.1, uq74.2.2.1, uq74.2.2.2.1, uq74.2.2.2.2.1, uq74.2.2.2.2.2, uq75.1, uq75.2.1, uq75.2.2.1, uq75.2.2.2.1, uq75.2.2.2.2.1, uq75.2.2.2.2.2, uq76.1, uq76.2.1, uq76.2.2.1, uq76.2.2.2.1, uq76.2.2.2.2.1, uq76.2.2.2.2.2, uq77.1, uq77.2.1, uq77.2.2.1, uq77.2.2.2.1, uq77.2.2.2.2.1, uq77.2.2.2.2.2, uq78.1, uq78.2.1, uq78.2.2.1, uq78.2.2.2.1, uq78.2.2.2.2.1, uq78.2.2.2.2.2, uq79.1, uq79.2.1, uq79.2.2.1, uq79.2.2.2.1, uq79.2.2.2.2.1, uq79.2.2.2.2.2, uq80.1, uq80.2.1, uq80.2.2.1, uq80.2.2.2.1, uq80.2.2.2.2.1, uq80.2.2.2.2.2, uq81, u_, u_, u_, u_, u_, u_, u_, u_, u_, u_, u_, u_, u_, u_, u_, u_, u_, u_, u_, u_, u_, u_, u_, u_, u_, u_, u_, u_, u_, u_, u_, u_, u_, u_, u_, u_, u_, u_, u_, u_, u_, u_, u_, u_, u_, u_, u_, u_, u_, u_, u_, u_, u_, u_, u_, u_, u_, u_]) rfl ?_
                        refine hK105 _ _ ?_
                        refine c_false rfl ?_
                        refine wp_skip ?_
                        refine hK103 _ _ ?_
                        refine wp_seq_k (fun K901102 hK901103 => ?_)
                        refine wp_seq_k (fun K901104 hK901105 => ?_)
                        refine c_region (fun ops901107 hops901106 => ?_)
                        refine p_run (l' := _) _ (x_field (j := 0) _ _ rfl rfl Try.underlying38 rfl (by rfl) rfl) rfl ?_
                        refine p_run (l' := _) _ (x_load (.int .i64 kd) rfl rfl (bkCell (HS.get (.tail _ (.tail _ (.tail _ (.tail _ (.head _)))))) 0 _ rfl) (by rfl)) rfl ?_
                        refine p_run (l' := _) _ (x_cmp (k := .i64) (m := kd) (n := 1) .eql false rfl rfl rfl (by rw [hk]; rfl) rfl) rfl ?_
                        refine p_run (l' := _) _ (x_move (.bool false) rfl rfl) rfl ?_
                        refine p_off (l' := _) (by rw [hops901106]; rfl) rfl ?_
                        refine p_off (l' := _) (by rw [hops901106]; rfl) rfl ?_
                        refine p_off (l' := _) (by rw [hops901106]; rfl) rfl ?_
                        refine p_run (l' := _) _ (x_pick false (u_) (.bool false) (.bool false) rfl rfl rfl rfl rfl) rfl ?_
                        clear hops901106
                        refine wpList_nil ?_
                        refine fr_at (l' := [.int .i64 (np : Int), .slice (some ad) l1.length c1, .slice A2 l2.length c2, u_, u_, u_, .bool false, .pointer (some ⟨D22, 0, none⟩), .slice (some ⟨g31, 0, none⟩) np np, u9, u_, .pointer (some ⟨g98, 0, none⟩), uq70.2.1, u_, u_, u_, u_, u_, u_, u_, u_, u_, .bool true, .bool false, .int .i64 (np : Int), .bool false, .bool false, .int .i64 (np : Int), .bool false, .bool false, .bool false, .slice (some ad) l1.length c1, .int .i64 (l1.length : Int), .bool false, .bool false, .bool false, .slice A2 l2.length c2, .int .i64 (l2.length : Int), .bool false, .bool false, .int .i64 (np : Int), .pointer (some ⟨D22, 0, none⟩), .int .i64 (np : Int), .slice (some ⟨g31, 0, none⟩) np np, .slice (some ⟨g31, 0, none⟩) np np, .int .i64 (np : Int), .int .i64 (np : Int), .bool (decide ((np : Int) < (np : Int))), u48, u49, u50, u51, u52, u53, .slice (some ad) l1.length c1, .int .i64 (l1.length : Int), .int .i64 (i : Int), .bool (decide ((i : Int) < (l1.length : Int))), .pointer (some ((ad).add (i * 4))), .agg ([.int .i64 kd, .int .i64 aa, .int .u8 bb, .slice A3 kp.length c3] : List Value).toArray, .pointer (some ⟨g98, 0, none⟩), .int .i64 kd, .bool true, .bool true, .pointer (some ⟨D22, 0, none⟩), .pointer (some ⟨g98, 1, none⟩), .int .i64 aa, .pointer (some ⟨g98, 2, none⟩), .int .u8 bb, .agg ((nums .u8 (rep bb))).toArray, .int .i64 (S.writeE aa), .bool false, .bool false, uq73.1, uq73.2.1, uq73.2.2.1, uq73.2.2.2.1, uq73.2.2.2.2.1, uq73.2.2.2.2.2, uq74.1, uq74.2.1, uq74.2.2.1, uq74.2.2.2.1, uq74.2.2.2.2.1, uq74.2.2.2.2.2, uq75.1, .pointer (some ⟨g98, 0, none⟩), .int .i64 kd, .bool false, .bool false, u_, u_, u_, .bool false, uq76.2.2.2.1, uq76.2.2.2.2.1, uq76.2.2.2.2.2, uq77.1, uq77.2.1, uq77.2.2.1, uq77.2.2.2.1, uq77.2.2.2.2.1, uq77.2.2.2.2.2, uq78.1, uq78.2.1, uq78.2.2.1, uq78.2.2.2.1, uq78.2.2.2.2.1, uq78.2.2.2.2.2, uq79.1, uq79.2.1, uq79.2.2.1, uq79.2.2.2.1, uq79.2.2.2.2.1, uq79.2.2.2.2.2, uq80.1, uq80.2.1, uq80.2.2.1, uq80.2.2.2.1, uq80.2.2.2.2.1, uq80.2.2.2.2.2, uq81, u_, u_, u_, u_, u_, u_, u_, u_, u_, u_, u_, u_, u_, u_, u_, u_, u_, u_, u_, u_, u_, u_, u_, u_, u_, u_, u_, u_, u_, u_, u_, u_, u_, u_, u_, u_, u_, u_, u_, u_, u_, u_, u_, u_, u_, u_, u_, u_, u_, u_, u_, u_, u_, u_, u_, u_, u_, u_]) rfl ?_
                        refine hK901105 _ _ ?_
                        refine c_false rfl ?_
                        refine wp_skip ?_
                        refine hK901103 _ _ ?_
                        refine wp_seq_k (fun K901108 hK901109 => ?_)
                        refine c_region (fun ops901111 hops901110 => ?_)
                        clear hops901110
                        refine p_run (l' := _) _ (x_field (j := 0) _ _ rfl rfl Try.underlying38 rfl (by rfl) rfl) rfl ?_
                        refine p_run (l' := _) _ (x_load (.int .i64 kd) rfl rfl (bkCell (HS.get (.tail _ (.tail _ (.tail _ (.tail _ (.head _)))))) 0 _ rfl) (by rfl)) rfl ?_
                        refine p_run (l' := _) _ (x_cmp (k := .i64) (m := kd) (n := 2) .eql false rfl rfl rfl (by rw [hk]; rfl) rfl) rfl ?_
                        refine wpList_nil ?_
                        refine hK901109 _ _ ?_
                        refine c_false rfl ?_
                        refine wp_skip ?_
                        refine hK93 _ _ ?_
                        refine c_region (fun ops901113 hops901112 => ?_)
                        clear hops901112
                        refine p_run (l' := _) _ (x_arith (k := .i64) (m := (i : Int)) (n := 1) .add (((i + 1 : Nat) : Int)) rfl rfl rfl (show IntKind.i64.wrap ((i : Int) + 1) = ((i + 1 : Nat) : Int) from ((wr64 (by omega)).trans (by omega))) rfl) rfl ?_
                        refine p_run (l' := _) _ (x_move (.int .i64 ((i + 1 : Nat) : Int)) rfl rfl) rfl ?_
                        refine wpList_nil ?_
                        refine fr_at (l' := [.int .i64 (np : Int), .slice (some ad) l1.length c1, .slice A2 l2.length c2, u_, u_, u_, .bool false, .pointer (some ⟨D22, 0, none⟩), .slice (some ⟨g31, 0, none⟩) np np, u9, u_, .pointer (some ⟨g98, 0, none⟩), uq70.2.1, u_, u_, u_, u_, u_, u_, u_, u_, u_, .bool true, .bool false, .int .i64 (np : Int), .bool false, .bool false, .int .i64 (np : Int), .bool false, .bool false, .bool false, .slice (some ad) l1.length c1, .int .i64 (l1.length : Int), .bool false, .bool false, .bool false, .slice A2 l2.length c2, .int .i64 (l2.length : Int), .bool false, .bool false, .int .i64 (np : Int), .pointer (some ⟨D22, 0, none⟩), .int .i64 (np : Int), .slice (some ⟨g31, 0, none⟩) np np, .slice (some ⟨g31, 0, none⟩) np np, .int .i64 (np : Int), .int .i64 (np : Int), .bool (decide ((np : Int) < (np : Int))), u48, u49, u50, u51, u52, u53, .slice (some ad) l1.length c1, .int .i64 (l1.length : Int), .int .i64 ((i + 1 : Nat) : Int), .bool (decide ((i : Int) < (l1.length : Int))), .pointer (some ((ad).add (i * 4))), .agg ([.int .i64 kd, .int .i64 aa, .int .u8 bb, .slice A3 kp.length c3] : List Value).toArray, .pointer (some ⟨g98, 0, none⟩), .int .i64 kd, .bool true, .bool true, .pointer (some ⟨D22, 0, none⟩), .pointer (some ⟨g98, 1, none⟩), .int .i64 aa, .pointer (some ⟨g98, 2, none⟩), .int .u8 bb, .agg ((nums .u8 (rep bb))).toArray, .int .i64 (S.writeE aa), .bool false, .bool false, uq73.1, uq73.2.1, uq73.2.2.1, uq73.2.2.2.1, uq73.2.2.2.2.1, uq73.2.2.2.2.2, uq74.1, uq74.2.1, uq74.2.2.1, uq74.2.2.2.1, uq74.2.2.2.2.1, uq74.2.2.2.2.2, uq75.1, .pointer (some ⟨g98, 0, none⟩), .int .i64 kd, .bool false, .bool false, u_, u_, u_, .bool false, uq76.2.2.2.1, uq76.2.2.2.2.1, uq76.2.2.2.2.2, uq77.1, uq77.2.1, uq77.2.2.1, uq77.2.2.2.1, uq77.2.2.2.2.1, uq77.2.2.2.2.2, uq78.1, uq78.2.1, uq78.2.2.1, uq78.2.2.2.1, uq78.2.2.2.2.1, uq78.2.2.2.2.2, uq79.1, uq79.2.1, uq79.2.2.1, uq79.2.2.2.1, uq79.2.2.2.2.1, .pointer (some ⟨g98, 0, none⟩), .int .i64 kd, .bool false, uq80.2.2.1, uq80.2.2.2.1, uq80.2.2.2.2.1, uq80.2.2.2.2.2, .int .i64 ((i + 1 : Nat) : Int), u_, u_, u_, u_, u_, u_, u_, u_, u_, u_, u_, u_, u_, u_, u_, u_, u_, u_, u_, u_, u_, u_, u_, u_, u_, u_, u_, u_, u_, u_, u_, u_, u_, u_, u_, u_, u_, u_, u_, u_, u_, u_, u_, u_, u_, u_, u_, u_, u_, u_, u_, u_, u_, u_, u_, u_, u_, u_]) rfl ?_
                        refine hJ83 (i + 1, (S.write aa (rep bb)), v901318, ro) _ _ ?_ ?_
                        · show l1.length - (i + 1) < l1.length - i; omega
                        · exact ⟨(.pointer (some ⟨g98, 0, none⟩), uq70.2.1, .bool (decide ((i : Int) < (l1.length : Int))), .pointer (some ((ad).add (i * 4))), .agg ([.int .i64 kd, .int .i64 aa, .int .u8 bb, .slice A3 kp.length c3] : List Value).toArray, .pointer (some ⟨g98, 0, none⟩)), (.int .i64 kd, .bool true, .bool true, .pointer (some ⟨D22, 0, none⟩), .pointer (some ⟨g98, 1, none⟩), .int .i64 aa), (.pointer (some ⟨g98, 2, none⟩), .int .u8 bb, .agg ((nums .u8 (rep bb))).toArray, .int .i64 (S.writeE aa), .bool false, .bool false), uq73, uq74, (uq75.1, .pointer (some ⟨g98, 0, none⟩), .int .i64 kd, .bool false, .bool false, u_), (u_, u_, .bool false, uq76.2.2.2.1, uq76.2.2.2.2.1, uq76.2.2.2.2.2), uq77, uq78, (uq79.1, uq79.2.1, uq79.2.2.1, uq79.2.2.2.1, uq79.2.2.2.2.1, .pointer (some ⟨g98, 0, none⟩)), (.int .i64 kd, .bool false, uq80.2.2.1, uq80.2.2.2.1, uq80.2.2.2.2.1, uq80.2.2.2.2.2), .int .i64 ((i + 1 : Nat) : Int), rfl, (((((((HS.front 4 rfl).drop.front 5 rfl).front 5 rfl).front 5 rfl).front 5 rfl).front 5 rfl).front 5 rfl), ⟨ki_nowrite hK he _, hol, by omega⟩⟩
                      · skip
                        refine free_frame (n := 13) (T := _) [0, 1, 3, 7, 15, 15, 47, 15, 143, 399, 1023, 2047, 4095] [(0, 60), (1, 61), (2, 62), (3, 63), (4, 64), (5, 65), (6, 66), (7, 67), (8, 68), (9, 69), (10, 70), (11, 71), (12, 72)] (fun bq_ vq_ w_ => qv ((fun i_ => match i_ with | 0 => some (.pointer (some ⟨g98, 0, none⟩)) | 1 => some (.int .i64 kd) | 2 => some (.bool false) | 3 => some (.bool false) | 4 => some (u_) | 5 => some (u_) | 6 => some (u_) | 7 => some (u_) | 8 => some (u_) | 9 => some (u_) | 10 => some (u_) | 11 => some (u_) | 12 => some (.bool false) | _ => none) : Nat → Option Value) bq_ vq_ ∧ (St w (fun _ => False) w_ ([blk g98 [.int .i64 kd, .int .i64 aa, .int .u8 bb, .slice A3 kp.length c3] 38, blk D22 (dskC gs23 gm24 v1 S) 66, blk gs23 (pgs S.stable) 31, mapR gm24 S.cnt S.bad, row kWr rfl 71 v1 S.pending, blk g31 ((mv np ro)) 36, allR (mr ro)]))) (by kernel_rfl) rfl rfl (by kernel_rfl) (by kernel_rfl) rfl (by kernel_rfl) (by kernel_rfl) ⟨qv_none, HS.draw⟩ ?_ ?_
                        · clear HS
                          intro i_ hi_ bq_ vq_ a_ w_ hG hb_ hon hoff hfr hel hval
                          obtain ⟨hV, hE⟩ := hG
                          have hi_ := List.mem_range.1 hi_
                          obtain ⟨l_, rfl⟩ := hfr
                          have hv_ := fun (j t : Nat) (v : Value) (h1 : (j, t) ∈ [(0, 60), (1, 61), (2, 62), (3, 63), (4, 64), (5, 65), (6, 66), (7, 67), (8, 68), (9, 69), (10, 70), (11, 71), (12, 72)]) h2 h3 => (hval (j, t) h1 h3).trans (congrArg some (hV j v h2 h3))
                          have hcs : i_ = 0 ∨ i_ = 1 ∨ i_ = 2 ∨ i_ = 3 ∨ i_ = 4 ∨ i_ = 5 ∨ i_ = 6 ∨ i_ = 7 ∨ i_ = 8 ∨ i_ = 9 ∨ i_ = 10 ∨ i_ = 11 ∨ i_ = 12 := by omega
                          rcases hcs with rfl | rfl | rfl | rfl | rfl | rfl | rfl | rfl | rfl | rfl | rfl | rfl | rfl
                          · have e11 : evl l_ (.tmp 11) = .pointer (some ⟨g98, 0, none⟩) := evl_of ((hel 11 (by decide)).trans rfl)
                            exact ⟨_, rfl, fun K_ hK_ => q_op _ (x_field (j := 0) _ _ rfl e11 Try.underlying38 rfl (by rfl) rfl) (hK_ _ _ ⟨qv_up hV (fun _ h => Option.some.inj h), hE⟩)⟩
                          · have hE0 := hE
                            have HS := hE0
                            have e60 : evl l_ (.tmp 60) = .pointer (some ⟨g98, 0, none⟩) := evl_of (hv_ 0 60 _ (by decide) rfl (hon 0 (by decide)))
                            exact ⟨_, rfl, fun K_ hK_ => q_op _ (x_load (.int .i64 kd) rfl e60 (bkCell (HS.get (.head _)) 0 _ rfl) (by rfl)) (hK_ _ _ ⟨qv_up hV (fun _ h => Option.some.inj h), hE⟩)⟩
                          · have e61 : evl l_ (.tmp 61) = .int .i64 kd := evl_of (hv_ 1 61 _ (by decide) rfl (hon 1 (by decide)))
                            exact ⟨_, rfl, fun K_ hK_ => q_op _ (x_cmp (k := .i64) (m := kd) (n := 0) .eql false rfl e61 rfl (beq_eq_false_iff_ne.2 hk) rfl) (hK_ _ _ ⟨qv_up hV (fun _ h => Option.some.inj h), hE⟩)⟩
                          · have e62 : evl l_ (.tmp 62) = .bool false := evl_of (hv_ 2 62 _ (by decide) rfl (hon 2 (by decide)))
                            exact ⟨_, rfl, fun K_ hK_ => q_op _ (x_move (.bool false) rfl e62) (hK_ _ _ ⟨qv_up hV (fun _ h => Option.some.inj h), hE⟩)⟩
                          · have h63 : (fr l_).tmps[63]? = some (.bool false) := hv_ 3 63 _ (by decide) rfl (hon 3 (by decide))
                            exact ⟨_, rfl, fun K_ hK_ => wp_offG (wanted_off (t := 63) rfl rfl rfl h63) (hK_ undef _ ⟨qv_up hV (fun _ h => Option.some.inj h), hE⟩)⟩
                          · have h63 : (fr l_).tmps[63]? = some (.bool false) := hv_ 3 63 _ (by decide) rfl (hon 3 (by decide))
                            exact ⟨_, rfl, fun K_ hK_ => wp_offG (wanted_off (t := 63) rfl rfl rfl h63) (hK_ undef _ ⟨qv_up hV (fun _ h => Option.some.inj h), hE⟩)⟩
                          · have h63 : (fr l_).tmps[63]? = some (.bool false) := hv_ 3 63 _ (by decide) rfl (hon 3 (by decide))
                            exact ⟨_, rfl, fun K_ hK_ => wp_offG (wanted_off (t := 63) rfl rfl rfl h63) (hK_ undef _ ⟨qv_up hV (fun _ h => Option.some.inj h), hE⟩)⟩
                          · have h63 : (fr l_).tmps[63]? = some (.bool false) := hv_ 3 63 _ (by decide) rfl (hon 3 (by decide))
                            exact ⟨_, rfl, fun K_ hK_ => wp_offG (wanted_off (t := 63) rfl rfl rfl h63) (hK_ undef _ ⟨qv_up hV (fun _ h => Option.some.inj h), hE⟩)⟩
                          · have h63 : (fr l_).tmps[63]? = some (.bool false) := hv_ 3 63 _ (by decide) rfl (hon 3 (by decide))
                            exact ⟨_, rfl, fun K_ hK_ => wp_offG (wanted_off (t := 63) rfl rfl rfl h63) (hK_ undef _ ⟨qv_up hV (fun _ h => Option.some.inj h), hE⟩)⟩
                          · have h63 : (fr l_).tmps[63]? = some (.bool false) := hv_ 3 63 _ (by decide) rfl (hon 3 (by decide))
                            exact ⟨_, rfl, fun K_ hK_ => wp_offG (wanted_off (t := 63) rfl rfl rfl h63) (hK_ undef _ ⟨qv_up hV (fun _ h => Option.some.inj h), hE⟩)⟩
                          · have h63 : (fr l_).tmps[63]? = some (.bool false) := hv_ 3 63 _ (by decide) rfl (hon 3 (by decide))
                            exact ⟨_, rfl, fun K_ hK_ => wp_offG (wanted_off (t := 63) rfl rfl rfl h63) (hK_ undef _ ⟨qv_up hV (fun _ h => Option.some.inj h), hE⟩)⟩
                          · have h63 : (fr l_).tmps[63]? = some (.bool false) := hv_ 3 63 _ (by decide) rfl (hon 3 (by decide))
                            exact ⟨_, rfl, fun K_ hK_ => wp_offG (wanted_off (t := 63) rfl rfl rfl h63) (hK_ undef _ ⟨qv_up hV (fun _ h => Option.some.inj h), hE⟩)⟩
                          · have e63 : evl l_ (.tmp 63) = .bool false := evl_of (hv_ 3 63 _ (by decide) rfl (hon 3 (by decide)))
                            have e71 : evl l_ (.tmp 71) = u_ := evl_of (hv_ 11 71 _ (by decide) rfl (hon 11 (by decide)))
                            exact ⟨_, rfl, fun K_ hK_ => q_op _ (x_pick false (u_) (.bool false) (.bool false) rfl e63 e71 rfl rfl) (hK_ _ _ ⟨qv_up hV (fun _ h => Option.some.inj h), hE⟩)⟩
                        intro bq_ vq_ w_ hall hG
                        obtain ⟨hV, hE⟩ := hG
                        clear HS
                        have HS := hE
                        have hv0 := hV 0 _ rfl (hall 0 (by decide))
                        have hv1 := hV 1 _ rfl (hall 1 (by decide))
                        have hv2 := hV 2 _ rfl (hall 2 (by decide))
                        have hv3 := hV 3 _ rfl (hall 3 (by decide))
                        have hv4 := hV 4 _ rfl (hall 4 (by decide))
                        have hv5 := hV 5 _ rfl (hall 5 (by decide))
                        have hv6 := hV 6 _ rfl (hall 6 (by decide))
                        have hv7 := hV 7 _ rfl (hall 7 (by decide))
                        have hv8 := hV 8 _ rfl (hall 8 (by decide))
                        have hv9 := hV 9 _ rfl (hall 9 (by decide))
                        have hv10 := hV 10 _ rfl (hall 10 (by decide))
                        have hv11 := hV 11 _ rfl (hall 11 (by decide))
                        have hv12 := hV 12 _ rfl (hall 12 (by decide))
                        clear hV hall
                        rw [putSel_fr]
                        simp only [tells, List.map_cons, List.map_nil, setAll, List.set_cons_succ, List.set_cons_zero, hv0, hv1, hv2, hv3, hv4, hv5, hv6, hv7, hv8, hv9, hv10, hv11, hv12]
                        clear hv0 hv1 hv2 hv3 hv4 hv5 hv6 hv7 hv8 hv9 hv10 hv11 hv12
                        generalize w_ = w900101 at HS ⊢
                        refine fr_at (l' := [.int .i64 (np : Int), .slice (some ad) l1.length c1, .slice A2 l2.length c2, u_, u_, u_, .bool false, .pointer (some ⟨D22, 0, none⟩), .slice (some ⟨g31, 0, none⟩) np np, u9, u_, .pointer (some ⟨g98, 0, none⟩), uq70.2.1, u_, u_, u_, u_, u_, u_, u_, u_, u_, .bool true, .bool false, .int .i64 (np : Int), .bool false, .bool false, .int .i64 (np : Int), .bool false, .bool false, .bool false, .slice (some ad) l1.length c1, .int .i64 (l1.length : Int), .bool false, .bool false, .bool false, .slice A2 l2.length c2, .int .i64 (l2.length : Int), .bool false, .bool false, .int .i64 (np : Int), .pointer (some ⟨D22, 0, none⟩), .int .i64 (np : Int), .slice (some ⟨g31, 0, none⟩) np np, .slice (some ⟨g31, 0, none⟩) np np, .int .i64 (np : Int), .int .i64 (np : Int), .bool (decide ((np : Int) < (np : Int))), u48, u49, u50, u51, u52, u53, .slice (some ad) l1.length c1, .int .i64 (l1.length : Int), .int .i64 (i : Int), .bool (decide ((i : Int) < (l1.length : Int))), .pointer (some ((ad).add (i * 4))), .agg ([.int .i64 kd, .int .i64 aa, .int .u8 bb, .slice A3 kp.length c3] : List Value).toArray, .pointer (some ⟨g98, 0, none⟩), .int .i64 kd, .bool false, .bool false, u_, u_, u_, u_, u_, u_, u_, u_, .bool false, uq73.1, uq73.2.1, uq73.2.2.1, uq73.2.2.2.1, uq73.2.2.2.2.1, uq73.2.2.2.2.2, uq74.1, uq74.2.1, uq74.2.2.1, uq74.2.2.2.1, uq74.2.2.2.2.1, uq74.2.2.2.2.2, uq75.1, uq75.2.1, uq75.2.2.1, uq75.2.2.2.1, uq75.2.2.2.2.1, uq75.2.2.2.2.2, uq76.1, uq76.2.1, uq76.2.2.1, uq76.2.2.2.1, uq76.2.2.2.2.1, uq76.2.2.2.2.2, uq77.1, uq77.2.1, uq77.2.2.1, uq77.2.2.2.1, uq77.2.2.2.2.1, uq77.2.2.2.2.2, uq78.1, uq78.2.1, uq78.2.2.1, uq78.2.2.2.1, uq78.2.2.2.2.1, uq78.2.2.2.2.2, uq79.1, uq79.2.1, uq79.2.2.1, uq79.2.2.2.1, uq79.2.2.2.2.1, uq79.2.2.2.2.2, uq80.1, uq80.2.1, uq80.2.2.1, uq80.2.2.2.1, uq80.2.2.2.2.1, uq80.2.2.2.2.2, uq81, u_, u_, u_, u_, u_, u_, u_, u_, u_, u_, u_, u_, u_, u_, u_, u_, u_, u_, u_, u_, u_, u_, u_, u_, u_, u_, u_, u_, u_, u_, u_, u_, u_, u_, u_, u_, u_, u_, u_, u_, u_, u_, u_, u_, u_, u_, u_, u_, u_, u_, u_, u_, u_, u_, u_, u_, u_, u_]) rfl ?_
                        refine hK105 _ _ ?_
                        refine c_false rfl ?_
                        refine wp_skip ?_
                        refine hK103 _ _ ?_
                        refine wp_seq_k (fun K900102 hK900103 => ?_)
                        refine wp_seq_k (fun K900104 hK900105 => ?_)
                        rcases sy_split kd S with ⟨hs, hs2⟩ | ⟨hs, hs2⟩ | hs
                        · skip
                          refine c_region (fun ops900107 hops900106 => ?_)
                          refine p_run (l' := _) _ (x_field (j := 0) _ _ rfl rfl Try.underlying38 rfl (by rfl) rfl) rfl ?_
                          refine p_run (l' := _) _ (x_load (.int .i64 kd) rfl rfl (bkCell (HS.get (.head _)) 0 _ rfl) (by rfl)) rfl ?_
                          refine p_run (l' := _) _ (x_cmp (k := .i64) (m := kd) (n := 1) .eql true rfl rfl rfl (beq_iff_eq.2 hs) rfl) rfl ?_
                          refine p_run (l' := _) _ (x_move (.bool true) rfl rfl) rfl ?_
                          refine p_on rfl (by rw [hops900106]; rfl) ?_
                          refine p_run (l' := _) _ (x_move (.pointer (some ⟨D22, 0, none⟩)) rfl rfl) rfl ?_
                          refine p_on rfl (by rw [hops900106]; rfl) ?_
                          refine w_call [.pointer (some ⟨D22, 0, none⟩)] Try.func12 (by kernel_rfl) (by rfl) rfl ?_
                          replace HS := ((((HS.front 4 rfl).front 4 rfl).front 4 rfl).front 4 rfl)
                          refine (sync_any HS hK.gd.ok (by have := hK.gd.pn; omega)).mono ?_
                          clear HS
                          rintro e w900109 ⟨v900108, rfl, HS⟩
                          have hgd900110 : Dk.good S.sync (i) := good_sync hK.gd
                          refine ⟨_, rfl, ?_⟩
                          refine p_on rfl (by rw [hops900106]; rfl) ?_
                          refine p_run (l' := _) _ (x_cmp (k := .i64) (m := S.actE) (n := 0) .eql true rfl rfl rfl (cmpz_yes hs2) rfl) rfl ?_
                          refine p_run (l' := _) _ (x_pick true (.bool true) (.bool false) (.bool true) rfl rfl rfl rfl rfl) rfl ?_
                          clear hops900106
                          refine wpList_nil ?_
                          refine fr_at (l' := [.int .i64 (np : Int), .slice (some ad) l1.length c1, .slice A2 l2.length c2, u_, u_, u_, .bool false, .pointer (some ⟨D22, 0, none⟩), .slice (some ⟨g31, 0, none⟩) np np, u9, u_, .pointer (some ⟨g98, 0, none⟩), uq70.2.1, u_, u_, u_, u_, u_, u_, u_, u_, u_, .bool true, .bool false, .int .i64 (np : Int), .bool false, .bool false, .int .i64 (np : Int), .bool false, .bool false, .bool false, .slice (some ad) l1.length c1, .int .i64 (l1.length : Int), .bool false, .bool false, .bool false, .slice A2 l2.length c2, .int .i64 (l2.length : Int), .bool false, .bool false, .int .i64 (np : Int), .pointer (some ⟨D22, 0, none⟩), .int .i64 (np : Int), .slice (some ⟨g31, 0, none⟩) np np, .slice (some ⟨g31, 0, none⟩) np np, .int .i64 (np : Int), .int .i64 (np : Int), .bool (decide ((np : Int) < (np : Int))), u48, u49, u50, u51, u52, u53, .slice (some ad) l1.length c1, .int .i64 (l1.length : Int), .int .i64 (i : Int), .bool (decide ((i : Int) < (l1.length : Int))), .pointer (some ((ad).add (i * 4))), .agg ([.int .i64 kd, .int .i64 aa, .int .u8 bb, .slice A3 kp.length c3] : List Value).toArray, .pointer (some ⟨g98, 0, none⟩), .int .i64 kd, .bool false, .bool false, u_, u_, u_, u_, u_, u_, u_, u_, .bool false, uq73.1, uq73.2.1, uq73.2.2.1, uq73.2.2.2.1, uq73.2.2.2.2.1, uq73.2.2.2.2.2, uq74.1, uq74.2.1, uq74.2.2.1, uq74.2.2.2.1, uq74.2.2.2.2.1, uq74.2.2.2.2.2, uq75.1, .pointer (some ⟨g98, 0, none⟩), .int .i64 kd, .bool true, .bool true, .pointer (some ⟨D22, 0, none⟩), .int .i64 S.actE, .bool true, .bool true, uq76.2.2.2.1, uq76.2.2.2.2.1, uq76.2.2.2.2.2, uq77.1, uq77.2.1, uq77.2.2.1, uq77.2.2.2.1, uq77.2.2.2.2.1, uq77.2.2.2.2.2, uq78.1, uq78.2.1, uq78.2.2.1, uq78.2.2.2.1, uq78.2.2.2.2.1, uq78.2.2.2.2.2, uq79.1, uq79.2.1, uq79.2.2.1, uq79.2.2.2.1, uq79.2.2.2.2.1, uq79.2.2.2.2.2, uq80.1, uq80.2.1, uq80.2.2.1, uq80.2.2.2.1, uq80.2.2.2.2.1, uq80.2.2.2.2.2, uq81, u_, u_, u_, u_, u_, u_, u_, u_, u_, u_, u_, u_, u_, u_, u_, u_, u_, u_, u_, u_, u_, u_, u_, u_, u_, u_, u_, u_, u_, u_, u_, u_, u_, u_, u_, u_, u_, u_, u_, u_, u_, u_, u_, u_, u_, u_, u_, u_, u_, u_, u_, u_, u_, u_, u_, u_, u_, u_]) rfl ?_
                          refine hK900105 _ _ ?_
                          refine c_true rfl ?_
                          refine wp_seq_k (fun K900111 hK900112 => ?_)
                          refine c_region (fun ops900114 hops900113 => ?_)
                          clear hops900113
                          refine p_run (l' := _) _ (x_move (.slice (some ⟨g31, 0, none⟩) np np) rfl rfl) rfl ?_
                          refine p_run (l' := _) _ (x_len rfl rfl Try.underlying44) rfl ?_
                          refine p_run (l' := _) _ (x_move (.int .i64 0) rfl rfl) rfl ?_
                          refine wpList_nil ?_
                          refine fr_at (l' := [.int .i64 (np : Int), .slice (some ad) l1.length c1, .slice A2 l2.length c2, u_, u_, u_, .bool false, .pointer (some ⟨D22, 0, none⟩), .slice (some ⟨g31, 0, none⟩) np np, u9, u_, .pointer (some ⟨g98, 0, none⟩), uq70.2.1, u_, u_, u_, u_, u_, u_, u_, u_, u_, .bool true, .bool false, .int .i64 (np : Int), .bool false, .bool false, .int .i64 (np : Int), .bool false, .bool false, .bool false, .slice (some ad) l1.length c1, .int .i64 (l1.length : Int), .bool false, .bool false, .bool false, .slice A2 l2.length c2, .int .i64 (l2.length : Int), .bool false, .bool false, .int .i64 (np : Int), .pointer (some ⟨D22, 0, none⟩), .int .i64 (np : Int), .slice (some ⟨g31, 0, none⟩) np np, .slice (some ⟨g31, 0, none⟩) np np, .int .i64 (np : Int), .int .i64 (np : Int), .bool (decide ((np : Int) < (np : Int))), u48, u49, u50, u51, u52, u53, .slice (some ad) l1.length c1, .int .i64 (l1.length : Int), .int .i64 (i : Int), .bool (decide ((i : Int) < (l1.length : Int))), .pointer (some ((ad).add (i * 4))), .agg ([.int .i64 kd, .int .i64 aa, .int .u8 bb, .slice A3 kp.length c3] : List Value).toArray, .pointer (some ⟨g98, 0, none⟩), .int .i64 kd, .bool false, .bool false, u_, u_, u_, u_, u_, u_, u_, u_, .bool false, uq73.1, uq73.2.1, uq73.2.2.1, uq73.2.2.2.1, uq73.2.2.2.2.1, uq73.2.2.2.2.2, uq74.1, uq74.2.1, uq74.2.2.1, uq74.2.2.2.1, uq74.2.2.2.2.1, uq74.2.2.2.2.2, uq75.1, .pointer (some ⟨g98, 0, none⟩), .int .i64 kd, .bool true, .bool true, .pointer (some ⟨D22, 0, none⟩), .int .i64 S.actE, .bool true, .bool true, .slice (some ⟨g31, 0, none⟩) np np, .int .i64 (np : Int), .int .i64 0, uq77.1, uq77.2.1, uq77.2.2.1, uq77.2.2.2.1, uq77.2.2.2.2.1, uq77.2.2.2.2.2, uq78.1, uq78.2.1, uq78.2.2.1, uq78.2.2.2.1, uq78.2.2.2.2.1, uq78.2.2.2.2.2, uq79.1, uq79.2.1, uq79.2.2.1, uq79.2.2.2.1, uq79.2.2.2.2.1, uq79.2.2.2.2.2, uq80.1, uq80.2.1, uq80.2.2.1, uq80.2.2.2.1, uq80.2.2.2.2.1, uq80.2.2.2.2.2, uq81, u_, u_, u_, u_, u_, u_, u_, u_, u_, u_, u_, u_, u_, u_, u_, u_, u_, u_, u_, u_, u_, u_, u_, u_, u_, u_, u_, u_, u_, u_, u_, u_, u_, u_, u_, u_, u_, u_, u_, u_, u_, u_, u_, u_, u_, u_, u_, u_, u_, u_, u_, u_, u_, u_, u_, u_, u_, u_]) rfl ?_
                          refine hK900112 _ _ ?_
                          refine wp_block ?_
                          have hL0 : ro.length = np := hol
                          have hN0 : ∀ r ∈ ro, r.2 ≠ [] := ki_ne hK
                          refine c_loop (ι := Nat × List (Value × List Int)) (fun i_ a_ w_ => match i_ with | (p, rq) => ∃ (u12 : Value) (u97 : Value) (u98 : Value) (u99 : Value) (u100 : Value) (u101 : Value) (u102 : Value) (u103 : Value) (u104 : Value) (u105 : Value) (u106 : Value) (u107 : Value) (u108 : Value) (u109 : Value) (u110 : Value) (u111 : Value) (u112 : Value) (u113 : Value), a_ = fr [.int .i64 (np : Int), .slice (some ad) l1.length c1, .slice A2 l2.length c2, u_, u_, u_, .bool false, .pointer (some ⟨D22, 0, none⟩), .slice (some ⟨g31, 0, none⟩) np np, u9, u_, .pointer (some ⟨g98, 0, none⟩), u12, u_, u_, u_, u_, u_, u_, u_, u_, u_, .bool true, .bool false, .int .i64 (np : Int), .bool false, .bool false, .int .i64 (np : Int), .bool false, .bool false, .bool false, .slice (some ad) l1.length c1, .int .i64 (l1.length : Int), .bool false, .bool false, .bool false, .slice A2 l2.length c2, .int .i64 (l2.length : Int), .bool false, .bool false, .int .i64 (np : Int), .pointer (some ⟨D22, 0, none⟩), .int .i64 (np : Int), .slice (some ⟨g31, 0, none⟩) np np, .slice (some ⟨g31, 0, none⟩) np np, .int .i64 (np : Int), .int .i64 (np : Int), .bool (decide ((np : Int) < (np : Int))), u48, u49, u50, u51, u52, u53, .slice (some ad) l1.length c1, .int .i64 (l1.length : Int), .int .i64 (i : Int), .bool (decide ((i : Int) < (l1.length : Int))), .pointer (some ((ad).add (i * 4))), .agg ([.int .i64 kd, .int .i64 aa, .int .u8 bb, .slice A3 kp.length c3] : List Value).toArray, .pointer (some ⟨g98, 0, none⟩), .int .i64 kd, .bool false, .bool false, u_, u_, u_, u_, u_, u_, u_, u_, .bool false, uq73.1, uq73.2.1, uq73.2.2.1, uq73.2.2.2.1, uq73.2.2.2.2.1, uq73.2.2.2.2.2, uq74.1, uq74.2.1, uq74.2.2.1, uq74.2.2.2.1, uq74.2.2.2.2.1, uq74.2.2.2.2.2, uq75.1, .pointer (some ⟨g98, 0, none⟩), .int .i64 kd, .bool true, .bool true, .pointer (some ⟨D22, 0, none⟩), .int .i64 S.actE, .bool true, .bool true, .slice (some ⟨g31, 0, none⟩) np np, .int .i64 (np : Int), .int .i64 (p : Int), u97, u98, u99, u100, u101, u102, u103, u104, u105, u106, u107, u108, u109, u110, u111, u112, u113, uq79.2.2.2.2.2, uq80.1, uq80.2.1, uq80.2.2.1, uq80.2.2.2.1, uq80.2.2.2.2.1, uq80.2.2.2.2.2, uq81, u_, u_, u_, u_, u_, u_, u_, u_, u_, u_, u_, u_, u_, u_, u_, u_, u_, u_, u_, u_, u_, u_, u_, u_, u_, u_, u_, u_, u_, u_, u_, u_, u_, u_, u_, u_, u_, u_, u_, u_, u_, u_, u_, u_, u_, u_, u_, u_, u_, u_, u_, u_, u_, u_, u_, u_, u_, u_] ∧ St w (fun _ => False) w_ ([blk D22 (dskC gs23 gm24 v900108 S.sync) 66, blk gs23 (pgs S.sync.stable) 31, mapR gm24 S.sync.cnt S.sync.bad, row kWr rfl 71 v900108 S.sync.pending, blk g98 [.int .i64 kd, .int .i64 aa, .int .u8 bb, .slice A3 kp.length c3] 38, blk g31 ((mv np rq)) 36, allR (mr rq)]) ∧ (rq.length = np ∧ (∀ r ∈ rq, r.2 ≠ []) ∧ rq.map (·.2) = ((ro.map (·.2)).take p).map lst ++ (ro.map (·.2)).drop p ∧ p ≤ np)) (fun i_ => match i_ with | (p, rq) => np - p) (0, ro) ?_ ?_
                          · exact ⟨_, _, _, _, _, _, _, _, _, _, _, _, _, _, _, _, _, _, rfl, (((((((HS.front 6 rfl).front 6 rfl).front 6 rfl).front 6 rfl).front 6 rfl).front 6 rfl).front 6 rfl), ⟨hL0, hN0, by rw [List.take_zero, List.drop_zero]; rfl, Nat.zero_le _⟩⟩
                          · clear HS
                            rintro ⟨p, rq⟩ a_ w900117 ⟨u12, u97, u98, u99, u100, u101, u102, u103, u104, u105, u106, u107, u108, u109, u110, u111, u112, u113, rfl, HS, hI⟩ J900115 hJ900116
                            obtain ⟨hql, hqn, hqm, hpl⟩ := hI
                            refine wp_seq_k (fun K900118 hK900119 => ?_)
                            refine c_region (fun ops900121 hops900120 => ?_)
                            clear hops900120
                            refine p_run (l' := _) _ (x_cmp (k := .i64) (m := (p : Int)) (n := (np : Int)) .lss (decide ((p : Int) < (np : Int))) rfl rfl rfl rfl rfl) rfl ?_
                            refine wpList_nil ?_
                            refine hK900119 _ _ ?_
                            refine wp_seq_k (fun K900122 hK900123 => ?_)
                            refine c_cond (t := decide ((p : Int) < (np : Int))) rfl (fun hc900124 => ?_) (fun hc900124 => ?_)
                            · have hlp : p < np := by have := of_decide_eq_true hc900124; omega
                              obtain ⟨⟨vq, xq⟩, hr⟩ : ∃ r, rq[p]? = some r := ⟨_, List.getElem?_eq_getElem (by omega)⟩
                              replace HS := (HS.front 6 rfl)
                              replace HS := HS.pullM hr
                              obtain ⟨gq, kq, cq, hv, hcq, hCq⟩ := orow_open (HS.get (.head _))
                              subst hv
                              have hxl := hCq.2.1
                              have hxn : 1 ≤ xq.length := by have := hqn _ (List.mem_of_getElem? hr); cases xq with
                                | nil => exact absurd rfl this
                                | cons a l => simp
                              refine wp_skip ?_
                              refine hK900123 _ _ ?_
                              refine wp_seq_k (fun K900125 hK900126 => ?_)
                              refine wp_block ?_
                              refine wp_seq_k (fun K900127 hK900128 => ?_)
                              refine c_region (fun ops900130 hops900129 => ?_)
                              clear hops900129
                              refine p_run (l' := _) _ (x_move (.int .i64 (p : Int)) rfl rfl) rfl ?_
                              refine p_run (l' := _) _ (x_assign (.int .i64 (p : Int)) rfl rfl) rfl ?_
                              refine wpList_nil ?_
                              refine hK900128 _ _ ?_
                              refine free_frame (n := 15) (T := _) [0, 0, 0, 0, 12, 28, 0, 0, 192, 448, 960, 1984, 4092, 8191, 16383] [(0, 99), (1, 100), (2, 101), (3, 102), (4, 103), (5, 104), (6, 105), (7, 106), (8, 107), (9, 108), (10, 109), (11, 110), (12, 111), (13, 112)] (fun bq_ vq_ w_ => qv ((fun i_ => match i_ with | 0 => some (.slice (some ⟨g31, 0, none⟩) np np) | 1 => some (.int .i64 (p : Int)) | 2 => some (.slice (some ⟨g31, 0, none⟩) np np) | 3 => some (.int .i64 (p : Int)) | 4 => some (.pointer (some ⟨g31, p * 1, none⟩)) | 5 => some (.slice (some ⟨gq, kq, none⟩) xq.length cq) | 6 => some (.slice (some ⟨g31, 0, none⟩) np np) | 7 => some (.int .i64 (p : Int)) | 8 => some (.pointer (some ⟨g31, p * 1, none⟩)) | 9 => some (.slice (some ⟨gq, kq, none⟩) xq.length cq) | 10 => some (.int .i64 (xq.length : Int)) | 11 => some (.int .i64 ((xq.length - 1 : Nat) : Int)) | 12 => some (.slice (some ⟨gq, kq + (xq.length - 1), none⟩) (xq.length - (xq.length - 1)) (cq - (xq.length - 1))) | 13 => some (.pointer (some ⟨g31, p * 1, none⟩)) | _ => none) : Nat → Option Value) bq_ vq_ ∧ cond (bq_ 14) (St w (fun _ => False) w_ ([blk g31 (((mv np rq).set p (.slice (some ⟨gq, kq + (xq.length - 1), none⟩) (xq.length - (xq.length - 1)) (cq - (xq.length - 1))))) 36, orow 5 (.slice (some ⟨gq, kq, none⟩) xq.length cq) xq, allR ((mr rq).eraseIdx p), blk D22 (dskC gs23 gm24 v900108 S.sync) 66, blk gs23 (pgs S.sync.stable) 31, mapR gm24 S.sync.cnt S.sync.bad, row kWr rfl 71 v900108 S.sync.pending, blk g98 [.int .i64 kd, .int .i64 aa, .int .u8 bb, .slice A3 kp.length c3] 38])) ((St w (fun _ => False) w_ ([orow 5 (.slice (some ⟨gq, kq, none⟩) xq.length cq) xq, allR ((mr rq).eraseIdx p), blk D22 (dskC gs23 gm24 v900108 S.sync) 66, blk gs23 (pgs S.sync.stable) 31, mapR gm24 S.sync.cnt S.sync.bad, row kWr rfl 71 v900108 S.sync.pending, blk g98 [.int .i64 kd, .int .i64 aa, .int .u8 bb, .slice A3 kp.length c3] 38, blk g31 ((mv np rq)) 36])))) (by kernel_rfl) rfl rfl (by kernel_rfl) (by kernel_rfl) rfl (by kernel_rfl) (by kernel_rfl) ⟨qv_none, HS.draw⟩ ?_ ?_
                              · clear HS
                                intro i_ hi_ bq_ vq_ a_ w_ hG hb_ hon hoff hfr hel hval
                                obtain ⟨hV, hE⟩ := hG
                                have hi_ := List.mem_range.1 hi_
                                obtain ⟨l_, rfl⟩ := hfr
                                have hv_ := fun (j t : Nat) (v : Value) (h1 : (j, t) ∈ [(0, 99), (1, 100), (2, 101), (3, 102), (4, 103), (5, 104), (6, 105), (7, 106), (8, 107), (9, 108), (10, 109), (11, 110), (12, 111), (13, 112)]) h2 h3 => (hval (j, t) h1 h3).trans (congrArg some (hV j v h2 h3))
                                have hcs : i_ = 0 ∨ i_ = 1 ∨ i_ = 2 ∨ i_ = 3 ∨ i_ = 4 ∨ i_ = 5 ∨ i_ = 6 ∨ i_ = 7 ∨ i_ = 8 ∨ i_ = 9 ∨ i_ = 10 ∨ i_ = 11 ∨ i_ = 12 ∨ i_ = 13 ∨ i_ = 14 := by omega
                                rcases hcs with rfl | rfl | rfl | rfl | rfl | rfl | rfl | rfl | rfl | rfl | rfl | rfl | rfl | rfl | rfl
                                · have e8 : evl l_ (.tmp 8) = .slice (some ⟨g31, 0, none⟩) np np := evl_of ((hel 8 (by decide)).trans rfl)
                                  exact ⟨_, rfl, fun K_ hK_ => q_op _ (x_move (.slice (some ⟨g31, 0, none⟩) np np) rfl e8) (hK_ _ _ ⟨qv_up hV (fun _ h => Option.some.inj h), hE⟩)⟩
                                · have e12 : evl l_ (.tmp 12) = .int .i64 (p : Int) := evl_of ((hel 12 (by decide)).trans rfl)
                                  exact ⟨_, rfl, fun K_ hK_ => q_op _ (x_move (.int .i64 (p : Int)) rfl e12) (hK_ _ _ ⟨qv_up hV (fun _ h => Option.some.inj h), hE⟩)⟩
                                · have e8 : evl l_ (.tmp 8) = .slice (some ⟨g31, 0, none⟩) np np := evl_of ((hel 8 (by decide)).trans rfl)
                                  exact ⟨_, rfl, fun K_ hK_ => q_op _ (x_move (.slice (some ⟨g31, 0, none⟩) np np) rfl e8) (hK_ _ _ ⟨qv_up hV (fun _ h => Option.some.inj h), hE⟩)⟩
                                · have e12 : evl l_ (.tmp 12) = .int .i64 (p : Int) := evl_of ((hel 12 (by decide)).trans rfl)
                                  exact ⟨_, rfl, fun K_ hK_ => q_op _ (x_move (.int .i64 (p : Int)) rfl e12) (hK_ _ _ ⟨qv_up hV (fun _ h => Option.some.inj h), hE⟩)⟩
                                · have e101 : evl l_ (.tmp 101) = .slice (some ⟨g31, 0, none⟩) np np := evl_of (hv_ 2 101 _ (by decide) rfl (hon 2 (by decide)))
                                  have e102 : evl l_ (.tmp 102) = .int .i64 (p : Int) := evl_of (hv_ 3 102 _ (by decide) rfl (hon 3 (by decide)))
                                  exact ⟨_, rfl, fun K_ hK_ => q_op (.pointer (some ⟨g31, p * 1, none⟩)) ((x_index (A := ⟨g31, 0, none⟩) (j := p * 1) (sz := 1) rfl e101 e102 Try.underlying44 (by kernel_rfl) (by omega) rfl).trans (by rw [add_mk, Nat.zero_add])) (hK_ _ _ ⟨qv_up hV (fun _ h => Option.some.inj h), hE⟩)⟩
                                · have hE0 := hE
                                  rw [show bq_ 14 = false from (hoff 14 (by decide))] at hE0
                                  simp only [cond_true, cond_false] at hE0
                                  have HS := hE0
                                  have e103 : evl l_ (.tmp 103) = .pointer (some ⟨g31, p * 1, none⟩) := evl_of (hv_ 4 103 _ (by decide) rfl (hon 4 (by decide)))
                                  exact ⟨_, rfl, fun K_ hK_ => q_op _ (x_load (.slice (some ⟨gq, kq, none⟩) xq.length cq) rfl e103 (bkCell (HS.get (.tail _ (.tail _ (.tail _ (.tail _ (.tail _ (.tail _ (.tail _ (.head _))))))))) (p * 1) _ ((congrArg (fun m => (mv np rq)[m]? ) (Nat.mul_one _)).trans (mv_get hr))) (by rfl)) (hK_ _ _ ⟨qv_up hV (fun _ h => Option.some.inj h), hE⟩)⟩
                                · have e8 : evl l_ (.tmp 8) = .slice (some ⟨g31, 0, none⟩) np np := evl_of ((hel 8 (by decide)).trans rfl)
                                  exact ⟨_, rfl, fun K_ hK_ => q_op _ (x_move (.slice (some ⟨g31, 0, none⟩) np np) rfl e8) (hK_ _ _ ⟨qv_up hV (fun _ h => Option.some.inj h), hE⟩)⟩
                                · have e12 : evl l_ (.tmp 12) = .int .i64 (p : Int) := evl_of ((hel 12 (by decide)).trans rfl)
                                  exact ⟨_, rfl, fun K_ hK_ => q_op _ (x_move (.int .i64 (p : Int)) rfl e12) (hK_ _ _ ⟨qv_up hV (fun _ h => Option.some.inj h), hE⟩)⟩
                                · have e105 : evl l_ (.tmp 105) = .slice (some ⟨g31, 0, none⟩) np np := evl_of (hv_ 6 105 _ (by decide) rfl (hon 6 (by decide)))
                                  have e106 : evl l_ (.tmp 106) = .int .i64 (p : Int) := evl_of (hv_ 7 106 _ (by decide) rfl (hon 7 (by decide)))
                                  exact ⟨_, rfl, fun K_ hK_ => q_op (.pointer (some ⟨g31, p * 1, none⟩)) ((x_index (A := ⟨g31, 0, none⟩) (j := p * 1) (sz := 1) rfl e105 e106 Try.underlying44 (by kernel_rfl) (by omega) rfl).trans (by rw [add_mk, Nat.zero_add])) (hK_ _ _ ⟨qv_up hV (fun _ h => Option.some.inj h), hE⟩)⟩
                                · have hE0 := hE
                                  rw [show bq_ 14 = false from (hoff 14 (by decide))] at hE0
                                  simp only [cond_true, cond_false] at hE0
                                  have HS := hE0
                                  have e107 : evl l_ (.tmp 107) = .pointer (some ⟨g31, p * 1, none⟩) := evl_of (hv_ 8 107 _ (by decide) rfl (hon 8 (by decide)))
                                  exact ⟨_, rfl, fun K_ hK_ => q_op _ (x_load (.slice (some ⟨gq, kq, none⟩) xq.length cq) rfl e107 (bkCell (HS.get (.tail _ (.tail _ (.tail _ (.tail _ (.tail _ (.tail _ (.tail _ (.head _))))))))) (p * 1) _ ((congrArg (fun m => (mv np rq)[m]? ) (Nat.mul_one _)).trans (mv_get hr))) (by rfl)) (hK_ _ _ ⟨qv_up hV (fun _ h => Option.some.inj h), hE⟩)⟩
                                · have hE0 := hE
                                  rw [show bq_ 14 = false from (hoff 14 (by decide))] at hE0
                                  simp only [cond_true, cond_false] at hE0
                                  have HS := hE0
                                  have e108 : evl l_ (.tmp 108) = .slice (some ⟨gq, kq, none⟩) xq.length cq := evl_of (hv_ 9 108 _ (by decide) rfl (hon 9 (by decide)))
                                  exact ⟨_, rfl, fun K_ hK_ => q_op _ (x_len rfl e108 Try.underlying36) (hK_ _ _ ⟨qv_up hV (fun _ h => Option.some.inj h), hE⟩)⟩
                                · have e109 : evl l_ (.tmp 109) = .int .i64 (xq.length : Int) := evl_of (hv_ 10 109 _ (by decide) rfl (hon 10 (by decide)))
                                  exact ⟨_, rfl, fun K_ hK_ => q_op _ (x_arith (k := .i64) (m := (xq.length : Int)) (n := 1) .sub (((xq.length - 1 : Nat) : Int)) rfl e109 rfl (show IntKind.i64.wrap ((xq.length : Int) - 1) = ((xq.length - 1 : Nat) : Int) from ((wr64 (by omega)).trans (by omega))) rfl) (hK_ _ _ ⟨qv_up hV (fun _ h => Option.some.inj h), hE⟩)⟩
                                · have e104 : evl l_ (.tmp 104) = .slice (some ⟨gq, kq, none⟩) xq.length cq := evl_of (hv_ 5 104 _ (by decide) rfl (hon 5 (by decide)))
                                  have e110 : evl l_ (.tmp 110) = .int .i64 ((xq.length - 1 : Nat) : Int) := evl_of (hv_ 11 110 _ (by decide) rfl (hon 11 (by decide)))
                                  exact ⟨_, rfl, fun K_ hK_ => q_op (.slice (some ⟨gq, kq + (xq.length - 1), none⟩) (xq.length - (xq.length - 1)) (cq - (xq.length - 1))) ((x_slice (sz := 1) (L := (some (.tmp 110))) (H := none) (lo := (xq.length - 1 : Nat)) (hi := xq.length) (some ⟨gq, kq + (xq.length - 1), none⟩) rfl e104 Try.underlying36 (by kernel_rfl) ⟨_, _, e110, (by omega), rfl⟩ rfl (by omega) (by omega) (by rw [if_neg (by omega)]; simp only [Option.map_some, add_mk, Nat.mul_one])).trans (by first | rfl | (rw [show xq.length - (xq.length - 1 : Nat) = xq.length - (xq.length - 1) from (by omega), show cq - (xq.length - 1 : Nat) = cq - (xq.length - 1) from (by omega)]))) (hK_ _ _ ⟨qv_up hV (fun _ h => Option.some.inj h), hE⟩)⟩
                                · have e99 : evl l_ (.tmp 99) = .slice (some ⟨g31, 0, none⟩) np np := evl_of (hv_ 0 99 _ (by decide) rfl (hon 0 (by decide)))
                                  have e100 : evl l_ (.tmp 100) = .int .i64 (p : Int) := evl_of (hv_ 1 100 _ (by decide) rfl (hon 1 (by decide)))
                                  exact ⟨_, rfl, fun K_ hK_ => q_op (.pointer (some ⟨g31, p * 1, none⟩)) ((x_index (A := ⟨g31, 0, none⟩) (j := p * 1) (sz := 1) rfl e99 e100 Try.underlying44 (by kernel_rfl) (by omega) rfl).trans (by rw [add_mk, Nat.zero_add])) (hK_ _ _ ⟨qv_up hV (fun _ h => Option.some.inj h), hE⟩)⟩
                                · have h111 : (fr l_).tmps[111]? = some (.slice (some ⟨gq, kq + (xq.length - 1), none⟩) (xq.length - (xq.length - 1)) (cq - (xq.length - 1))) := hv_ 12 111 _ (by decide) rfl (hon 12 (by decide))
                                  have h112 : (fr l_).tmps[112]? = some (.pointer (some ⟨g31, p * 1, none⟩)) := hv_ 13 112 _ (by decide) rfl (hon 13 (by decide))
                                  have hE0 := hE
                                  rw [show bq_ 14 = false from hb_] at hE0
                                  simp only [cond_true, cond_false] at hE0
                                  have HS := hE0
                                  have e111 : evl l_ (.tmp 111) = .slice (some ⟨gq, kq + (xq.length - 1), none⟩) (xq.length - (xq.length - 1)) (cq - (xq.length - 1)) := evl_of h111
                                  have e112 : evl l_ (.tmp 112) = .pointer (some ⟨g31, p * 1, none⟩) := evl_of h112
                                  refine ⟨_, rfl, fun K_ hK_ => wp_of_list rfl ?_⟩
                                  intro ops_
                                  refine St.store (cs' := ((mv np rq).set p (.slice (some ⟨gq, kq + (xq.length - 1), none⟩) (xq.length - (xq.length - 1)) (cq - (xq.length - 1))))) (HS.front 7 rfl) (.slice (some ⟨gq, kq + (xq.length - 1), none⟩) (xq.length - (xq.length - 1)) (cq - (xq.length - 1))) e112 e111 rfl (by kernel_rfl) (decide_eq_true (by rw [mv_length (by omega)]; omega)) (congrArg (fun m => (mv np rq).set m _) (Nat.mul_one p)) ?_
                                  clear HS
                                  intro w901401 HS
                                  refine wpList_nil ?_
                                  refine norm_none (hK_ undef _ ⟨qv_up hV (by intro _ h; cases h), ?_⟩)
                                  show cond true _ _
                                  rw [cond_true]
                                  exact ((((((((HS.front 7 rfl).front 7 rfl).front 7 rfl).front 7 rfl).front 7 rfl).front 7 rfl).front 7 rfl).front 7 rfl)
                              intro bq_ vq_ w_ hall hG
                              obtain ⟨hV, hE⟩ := hG
                              clear HS
                              rw [show bq_ 14 = true from hall 14 (by decide)] at hE
                              simp only [cond_true] at hE
                              have HS := hE
                              have hv0 := hV 0 _ rfl (hall 0 (by decide))
                              have hv1 := hV 1 _ rfl (hall 1 (by decide))
                              have hv2 := hV 2 _ rfl (hall 2 (by decide))
                              have hv3 := hV 3 _ rfl (hall 3 (by decide))
                              have hv4 := hV 4 _ rfl (hall 4 (by decide))
                              have hv5 := hV 5 _ rfl (hall 5 (by decide))
                              have hv6 := hV 6 _ rfl (hall 6 (by decide))
                              have hv7 := hV 7 _ rfl (hall 7 (by decide))
                              have hv8 := hV 8 _ rfl (hall 8 (by decide))
                              have hv9 := hV 9 _ rfl (hall 9 (by decide))
                              have hv10 := hV 10 _ rfl (hall 10 (by decide))
                              have hv11 := hV 11 _ rfl (hall 11 (by decide))
                              have hv12 := hV 12 _ rfl (hall 12 (by decide))
                              have hv13 := hV 13 _ rfl (hall 13 (by decide))
                              clear hV hall
                              rw [putSel_fr]
                              simp only [tells, List.map_cons, List.map_nil, setAll, List.set_cons_succ, List.set_cons_zero, hv0, hv1, hv2, hv3, hv4, hv5, hv6, hv7, hv8, hv9, hv10, hv11, hv12, hv13]
                              clear hv0 hv1 hv2 hv3 hv4 hv5 hv6 hv7 hv8 hv9 hv10 hv11 hv12 hv13
                              generalize w_ = w901402 at HS ⊢
                              refine fr_at (l' := [.int .i64 (np : Int), .slice (some ad) l1.length c1, .slice A2 l2.length c2, u_, u_, u_, .bool false, .pointer (some ⟨D22, 0, none⟩), .slice (some ⟨g31, 0, none⟩) np np, u9, u_, .pointer (some ⟨g98, 0, none⟩), .int .i64 (p : Int), u_, u_, u_, u_, u_, u_, u_, u_, u_, .bool true, .bool false, .int .i64 (np : Int), .bool false, .bool false, .int .i64 (np : Int), .bool false, .bool false, .bool false, .slice (some ad) l1.length c1, .int .i64 (l1.length : Int), .bool false, .bool false, .bool false, .slice A2 l2.length c2, .int .i64 (l2.length : Int), .bool false, .bool false, .int .i64 (np : Int), .pointer (some ⟨D22, 0, none⟩), .int .i64 (np : Int), .slice (some ⟨g31, 0, none⟩) np np, .slice (some ⟨g31, 0, none⟩) np np, .int .i64 (np : Int), .int .i64 (np : Int), .bool (decide ((np : Int) < (np : Int))), u48, u49, u50, u51, u52, u53, .slice (some ad) l1.length c1, .int .i64 (l1.length : Int), .int .i64 (i : Int), .bool (decide ((i : Int) < (l1.length : Int))), .pointer (some ((ad).add (i * 4))), .agg ([.int .i64 kd, .int .i64 aa, .int .u8 bb, .slice A3 kp.length c3] : List Value).toArray, .pointer (some ⟨g98, 0, none⟩), .int .i64 kd, .bool false, .bool false, u_, u_, u_, u_, u_, u_, u_, u_, .bool false, uq73.1, uq73.2.1, uq73.2.2.1, uq73.2.2.2.1, uq73.2.2.2.2.1, uq73.2.2.2.2.2, uq74.1, uq74.2.1, uq74.2.2.1, uq74.2.2.2.1, uq74.2.2.2.2.1, uq74.2.2.2.2.2, uq75.1, .pointer (some ⟨g98, 0, none⟩), .int .i64 kd, .bool true, .bool true, .pointer (some ⟨D22, 0, none⟩), .int .i64 S.actE, .bool true, .bool true, .slice (some ⟨g31, 0, none⟩) np np, .int .i64 (np : Int), .int .i64 (p : Int), .bool (decide ((p : Int) < (np : Int))), .int .i64 (p : Int), .slice (some ⟨g31, 0, none⟩) np np, .int .i64 (p : Int), .slice (some ⟨g31, 0, none⟩) np np, .int .i64 (p : Int), .pointer (some ⟨g31, p * 1, none⟩), .slice (some ⟨gq, kq, none⟩) xq.length cq, .slice (some ⟨g31, 0, none⟩) np np, .int .i64 (p : Int), .pointer (some ⟨g31, p * 1, none⟩), .slice (some ⟨gq, kq, none⟩) xq.length cq, .int .i64 (xq.length : Int), .int .i64 ((xq.length - 1 : Nat) : Int), .slice (some ⟨gq, kq + (xq.length - 1), none⟩) (xq.length - (xq.length - 1)) (cq - (xq.length - 1)), .pointer (some ⟨g31, p * 1, none⟩), u113, uq79.2.2.2.2.2, uq80.1, uq80.2.1, uq80.2.2.1, uq80.2.2.2.1, uq80.2.2.2.2.1, uq80.2.2.2.2.2, uq81, u_, u_, u_, u_, u_, u_, u_, u_, u_, u_, u_, u_, u_, u_, u_, u_, u_, u_, u_, u_, u_, u_, u_, u_, u_, u_, u_, u_, u_, u_, u_, u_, u_, u_, u_, u_, u_, u_, u_, u_, u_, u_, u_, u_, u_, u_, u_, u_, u_, u_, u_, u_, u_, u_, u_, u_, u_, u_]) rfl ?_
                              replace HS := (HS.front 1 rfl)
                              replace HS := HS.alter (orow_from (q := xq.length - 1) HS.hs.head (by omega)).2 (fun _ h => h)
                              replace HS := ((HS.front 2 rfl).front 1 rfl)
                              replace HS := HS.backM hr
                              rw [mv_set hr _ (xq.drop (xq.length - 1))] at HS
                              refine hK900126 _ _ ?_
                              refine c_region (fun ops901404 hops901403 => ?_)
                              clear hops901403
                              refine p_run (l' := _) _ (x_arith (k := .i64) (m := (p : Int)) (n := 1) .add (((p + 1 : Nat) : Int)) rfl rfl rfl (show IntKind.i64.wrap ((p : Int) + 1) = ((p + 1 : Nat) : Int) from ((wr64 (by omega)).trans (by omega))) rfl) rfl ?_
                              refine p_run (l' := _) _ (x_move (.int .i64 ((p + 1 : Nat) : Int)) rfl rfl) rfl ?_
                              refine wpList_nil ?_
                              refine fr_at (l' := [.int .i64 (np : Int), .slice (some ad) l1.length c1, .slice A2 l2.length c2, u_, u_, u_, .bool false, .pointer (some ⟨D22, 0, none⟩), .slice (some ⟨g31, 0, none⟩) np np, u9, u_, .pointer (some ⟨g98, 0, none⟩), .int .i64 (p : Int), u_, u_, u_, u_, u_, u_, u_, u_, u_, .bool true, .bool false, .int .i64 (np : Int), .bool false, .bool false, .int .i64 (np : Int), .bool false, .bool false, .bool false, .slice (some ad) l1.length c1, .int .i64 (l1.length : Int), .bool false, .bool false, .bool false, .slice A2 l2.length c2, .int .i64 (l2.length : Int), .bool false, .bool false, .int .i64 (np : Int), .pointer (some ⟨D22, 0, none⟩), .int .i64 (np : Int), .slice (some ⟨g31, 0, none⟩) np np, .slice (some ⟨g31, 0, none⟩) np np, .int .i64 (np : Int), .int .i64 (np : Int), .bool (decide ((np : Int) < (np : Int))), u48, u49, u50, u51, u52, u53, .slice (some ad) l1.length c1, .int .i64 (l1.length : Int), .int .i64 (i : Int), .bool (decide ((i : Int) < (l1.length : Int))), .pointer (some ((ad).add (i * 4))), .agg ([.int .i64 kd, .int .i64 aa, .int .u8 bb, .slice A3 kp.length c3] : List Value).toArray, .pointer (some ⟨g98, 0, none⟩), .int .i64 kd, .bool false, .bool false, u_, u_, u_, u_, u_, u_, u_, u_, .bool false, uq73.1, uq73.2.1, uq73.2.2.1, uq73.2.2.2.1, uq73.2.2.2.2.1, uq73.2.2.2.2.2, uq74.1, uq74.2.1, uq74.2.2.1, uq74.2.2.2.1, uq74.2.2.2.2.1, uq74.2.2.2.2.2, uq75.1, .pointer (some ⟨g98, 0, none⟩), .int .i64 kd, .bool true, .bool true, .pointer (some ⟨D22, 0, none⟩), .int .i64 S.actE, .bool true, .bool true, .slice (some ⟨g31, 0, none⟩) np np, .int .i64 (np : Int), .int .i64 ((p + 1 : Nat) : Int), .bool (decide ((p : Int) < (np : Int))), .int .i64 (p : Int), .slice (some ⟨g31, 0, none⟩) np np, .int .i64 (p : Int), .slice (some ⟨g31, 0, none⟩) np np, .int .i64 (p : Int), .pointer (some ⟨g31, p * 1, none⟩), .slice (some ⟨gq, kq, none⟩) xq.length cq, .slice (some ⟨g31, 0, none⟩) np np, .int .i64 (p : Int), .pointer (some ⟨g31, p * 1, none⟩), .slice (some ⟨gq, kq, none⟩) xq.length cq, .int .i64 (xq.length : Int), .int .i64 ((xq.length - 1 : Nat) : Int), .slice (some ⟨gq, kq + (xq.length - 1), none⟩) (xq.length - (xq.length - 1)) (cq - (xq.length - 1)), .pointer (some ⟨g31, p * 1, none⟩), .int .i64 ((p + 1 : Nat) : Int), uq79.2.2.2.2.2, uq80.1, uq80.2.1, uq80.2.2.1, uq80.2.2.2.1, uq80.2.2.2.2.1, uq80.2.2.2.2.2, uq81, u_, u_, u_, u_, u_, u_, u_, u_, u_, u_, u_, u_, u_, u_, u_, u_, u_, u_, u_, u_, u_, u_, u_, u_, u_, u_, u_, u_, u_, u_, u_, u_, u_, u_, u_, u_, u_, u_, u_, u_, u_, u_, u_, u_, u_, u_, u_, u_, u_, u_, u_, u_, u_, u_, u_, u_, u_, u_]) rfl ?_
                              refine hJ900116 (p + 1, (rq.set p (Value.slice (some ⟨gq, kq + (xq.length - 1), none⟩) (xq.length - (xq.length - 1)) (cq - (xq.length - 1)), xq.drop (xq.length - 1)))) _ _ ?_ ?_
                              · show np - (p + 1) < np - p; omega
                              · exact ⟨_, _, _, _, _, _, _, _, _, _, _, _, _, _, _, _, _, _, rfl, ((((((HS.front 1 rfl).front 6 rfl).front 6 rfl).front 6 rfl).front 6 rfl).front 6 rfl), ⟨by rw [List.length_set]; exact hql, set_ne hqn (fun h => by have := congrArg List.length h; rw [List.length_drop] at this; simp at this; omega), lst_step hqm hr (by rw [List.length_map, hL0]; exact hlp) _, by omega⟩⟩
                            · obtain rfl : np = p := by have := of_decide_eq_false hc900124; omega
                              have hq3 : rq.map (·.2) = (ro.map (·.2)).map lst := by rw [hqm, List.take_of_length_le (by rw [List.length_map]; exact Nat.le_of_eq hL0), List.drop_of_length_le (by rw [List.length_map]; exact Nat.le_of_eq hL0), List.append_nil]
                              refine wp_exit ?_
                              refine hK900103 _ _ ?_
                              refine wp_seq_k (fun K901405 hK901406 => ?_)
                              refine c_region (fun ops901408 hops901407 => ?_)
                              clear hops901407
                              refine p_run (l' := _) _ (x_field (j := 0) _ _ rfl rfl Try.underlying38 rfl (by rfl) rfl) rfl ?_
                              refine p_run (l' := _) _ (x_load (.int .i64 kd) rfl rfl (bkCell (HS.get (.tail _ (.tail _ (.tail _ (.tail _ (.head _)))))) 0 _ rfl) (by rfl)) rfl ?_
                              refine p_run (l' := _) _ (x_cmp (k := .i64) (m := kd) (n := 2) .eql false rfl rfl rfl (by rw [hs]; rfl) rfl) rfl ?_
                              refine wpList_nil ?_
                              refine hK901406 _ _ ?_
                              refine c_false rfl ?_
                              refine wp_skip ?_
                              refine hK93 _ _ ?_
                              refine c_region (fun ops901410 hops901409 => ?_)
                              clear hops901409
                              refine p_run (l' := _) _ (x_arith (k := .i64) (m := (i : Int)) (n := 1) .add (((i + 1 : Nat) : Int)) rfl rfl rfl (show IntKind.i64.wrap ((i : Int) + 1) = ((i + 1 : Nat) : Int) from ((wr64 (by omega)).trans (by omega))) rfl) rfl ?_
                              refine p_run (l' := _) _ (x_move (.int .i64 ((i + 1 : Nat) : Int)) rfl rfl) rfl ?_
                              refine wpList_nil ?_
                              refine fr_at (l' := [.int .i64 (np : Int), .slice (some ad) l1.length c1, .slice A2 l2.length c2, u_, u_, u_, .bool false, .pointer (some ⟨D22, 0, none⟩), .slice (some ⟨g31, 0, none⟩) np np, u9, u_, .pointer (some ⟨g98, 0, none⟩), u12, u_, u_, u_, u_, u_, u_, u_, u_, u_, .bool true, .bool false, .int .i64 (np : Int), .bool false, .bool false, .int .i64 (np : Int), .bool false, .bool false, .bool false, .slice (some ad) l1.length c1, .int .i64 (l1.length : Int), .bool false, .bool false, .bool false, .slice A2 l2.length c2, .int .i64 (l2.length : Int), .bool false, .bool false, .int .i64 (np : Int), .pointer (some ⟨D22, 0, none⟩), .int .i64 (np : Int), .slice (some ⟨g31, 0, none⟩) np np, .slice (some ⟨g31, 0, none⟩) np np, .int .i64 (np : Int), .int .i64 (np : Int), .bool (decide ((np : Int) < (np : Int))), u48, u49, u50, u51, u52, u53, .slice (some ad) l1.length c1, .int .i64 (l1.length : Int), .int .i64 ((i + 1 : Nat) : Int), .bool (decide ((i : Int) < (l1.length : Int))), .pointer (some ((ad).add (i * 4))), .agg ([.int .i64 kd, .int .i64 aa, .int .u8 bb, .slice A3 kp.length c3] : List Value).toArray, .pointer (some ⟨g98, 0, none⟩), .int .i64 kd, .bool false, .bool false, u_, u_, u_, u_, u_, u_, u_, u_, .bool false, uq73.1, uq73.2.1, uq73.2.2.1, uq73.2.2.2.1, uq73.2.2.2.2.1, uq73.2.2.2.2.2, uq74.1, uq74.2.1, uq74.2.2.1, uq74.2.2.2.1, uq74.2.2.2.2.1, uq74.2.2.2.2.2, uq75.1, .pointer (some ⟨g98, 0, none⟩), .int .i64 kd, .bool true, .bool true, .pointer (some ⟨D22, 0, none⟩), .int .i64 S.actE, .bool true, .bool true, .slice (some ⟨g31, 0, none⟩) np np, .int .i64 (np : Int), .int .i64 (np : Int), .bool (decide ((np : Int) < (np : Int))), u98, u99, u100, u101, u102, u103, u104, u105, u106, u107, u108, u109, u110, u111, u112, u113, .pointer (some ⟨g98, 0, none⟩), .int .i64 kd, .bool false, uq80.2.2.1, uq80.2.2.2.1, uq80.2.2.2.2.1, uq80.2.2.2.2.2, .int .i64 ((i + 1 : Nat) : Int), u_, u_, u_, u_, u_, u_, u_, u_, u_, u_, u_, u_, u_, u_, u_, u_, u_, u_, u_, u_, u_, u_, u_, u_, u_, u_, u_, u_, u_, u_, u_, u_, u_, u_, u_, u_, u_, u_, u_, u_, u_, u_, u_, u_, u_, u_, u_, u_, u_, u_, u_, u_, u_, u_, u_, u_, u_, u_]) rfl ?_
                              refine hJ83 (i + 1, S.sync, v900108, rq) _ _ ?_ ?_
                              · show l1.length - (i + 1) < l1.length - i; omega
                              · exact ⟨(.pointer (some ⟨g98, 0, none⟩), u12, .bool (decide ((i : Int) < (l1.length : Int))), .pointer (some ((ad).add (i * 4))), .agg ([.int .i64 kd, .int .i64 aa, .int .u8 bb, .slice A3 kp.length c3] : List Value).toArray, .pointer (some ⟨g98, 0, none⟩)), (.int .i64 kd, .bool false, .bool false, u_, u_, u_), (u_, u_, u_, u_, u_, .bool false), uq73, uq74, (uq75.1, .pointer (some ⟨g98, 0, none⟩), .int .i64 kd, .bool true, .bool true, .pointer (some ⟨D22, 0, none⟩)), (.int .i64 S.actE, .bool true, .bool true, .slice (some ⟨g31, 0, none⟩) np np, .int .i64 (np : Int), .int .i64 (np : Int)), (.bool (decide ((np : Int) < (np : Int))), u98, u99, u100, u101, u102), (u103, u104, u105, u106, u107, u108), (u109, u110, u111, u112, u113, .pointer (some ⟨g98, 0, none⟩)), (.int .i64 kd, .bool false, uq80.2.2.1, uq80.2.2.2.1, uq80.2.2.2.2.1, uq80.2.2.2.2.2), .int .i64 ((i + 1 : Nat) : Int), rfl, (((((((HS.front 4 rfl).drop.front 5 rfl).front 5 rfl).front 5 rfl).front 5 rfl).front 5 rfl).front 5 rfl), ⟨by rw [hq3]; exact ki_more (ki_sync hK hs2), hql, by omega⟩⟩
                        · skip
                          refine c_region (fun ops901412 hops901411 => ?_)
                          refine p_run (l' := _) _ (x_field (j := 0) _ _ rfl rfl Try.underlying38 rfl (by rfl) rfl) rfl ?_
                          refine p_run (l' := _) _ (x_load (.int .i64 kd) rfl rfl (bkCell (HS.get (.head _)) 0 _ rfl) (by rfl)) rfl ?_
                          refine p_run (l' := _) _ (x_cmp (k := .i64) (m := kd) (n := 1) .eql true rfl rfl rfl (beq_iff_eq.2 hs) rfl) rfl ?_
                          refine p_run (l' := _) _ (x_move (.bool true) rfl rfl) rfl ?_
                          refine p_on rfl (by rw [hops901411]; rfl) ?_
                          refine p_run (l' := _) _ (x_move (.pointer (some ⟨D22, 0, none⟩)) rfl rfl) rfl ?_
                          refine p_on rfl (by rw [hops901411]; rfl) ?_
                          refine w_call [.pointer (some ⟨D22, 0, none⟩)] Try.func12 (by kernel_rfl) (by rfl) rfl ?_
                          replace HS := ((((HS.front 4 rfl).front 4 rfl).front 4 rfl).front 4 rfl)
                          refine (sync_any HS hK.gd.ok (by have := hK.gd.pn; omega)).mono ?_
                          clear HS
                          rintro e w901414 ⟨v901413, rfl, HS⟩
                          have hgd901415 : Dk.good S.sync (i) := good_sync hK.gd
                          refine ⟨_, rfl, ?_⟩
                          refine p_on rfl (by rw [hops901411]; rfl) ?_
                          refine p_run (l' := _) _ (x_cmp (k := .i64) (m := S.actE) (n := 0) .eql false rfl rfl rfl (cmpz_no hs2) rfl) rfl ?_
                          refine p_run (l' := _) _ (x_pick true (.bool false) (.bool false) (.bool false) rfl rfl rfl rfl rfl) rfl ?_
                          clear hops901411
                          refine wpList_nil ?_
                          refine fr_at (l' := [.int .i64 (np : Int), .slice (some ad) l1.length c1, .slice A2 l2.length c2, u_, u_, u_, .bool false, .pointer (some ⟨D22, 0, none⟩), .slice (some ⟨g31, 0, none⟩) np np, u9, u_, .pointer (some ⟨g98, 0, none⟩), uq70.2.1, u_, u_, u_, u_, u_, u_, u_, u_, u_, .bool true, .bool false, .int .i64 (np : Int), .bool false, .bool false, .int .i64 (np : Int), .bool false, .bool false, .bool false, .slice (some ad) l1.length c1, .int .i64 (l1.length : Int), .bool false, .bool false, .bool false, .slice A2 l2.length c2, .int .i64 (l2.length : Int), .bool false, .bool false, .int .i64 (np : Int), .pointer (some ⟨D22, 0, none⟩), .int .i64 (np : Int), .slice (some ⟨g31, 0, none⟩) np np, .slice (some ⟨g31, 0, none⟩) np np, .int .i64 (np : Int), .int .i64 (np : Int), .bool (decide ((np : Int) < (np : Int))), u48, u49, u50, u51, u52, u53, .slice (some ad) l1.length c1, .int .i64 (l1.length : Int), .int .i64 (i : Int), .bool (decide ((i : Int) < (l1.length : Int))), .pointer (some ((ad).add (i * 4))), .agg ([.int .i64 kd, .int .i64 aa, .int .u8 bb, .slice A3 kp.length c3] : List Value).toArray, .pointer (some ⟨g98, 0, none⟩), .int .i64 kd, .bool false, .bool false, u_, u_, u_, u_, u_, u_, u_, u_, .bool false, uq73.1, uq73.2.1, uq73.2.2.1, uq73.2.2.2.1, uq73.2.2.2.2.1, uq73.2.2.2.2.2, uq74.1, uq74.2.1, uq74.2.2.1, uq74.2.2.2.1, uq74.2.2.2.2.1, uq74.2.2.2.2.2, uq75.1, .pointer (some ⟨g98, 0, none⟩), .int .i64 kd, .bool true, .bool true, .pointer (some ⟨D22, 0, none⟩), .int .i64 S.actE, .bool false, .bool false, uq76.2.2.2.1, uq76.2.2.2.2.1, uq76.2.2.2.2.2, uq77.1, uq77.2.1, uq77.2.2.1, uq77.2.2.2.1, uq77.2.2.2.2.1, uq77.2.2.2.2.2, uq78.1, uq78.2.1, uq78.2.2.1, uq78.2.2.2.1, uq78.2.2.2.2.1, uq78.2.2.2.2.2, uq79.1, uq79.2.1, uq79.2.2.1, uq79.2.2.2.1, uq79.2.2.2.2.1, uq79.2.2.2.2.2, uq80.1, uq80.2.1, uq80.2.2.1, uq80.2.2.2.1, uq80.2.2.2.2.1, uq80.2.2.2.2.2, uq81, u_, u_, u_, u_, u_, u_, u_, u_, u_, u_, u_, u_, u_, u_, u_, u_, u_, u_, u_, u_, u_, u_, u_, u_, u_, u_, u_, u_, u_, u_, u_, u_, u_, u_, u_, u_, u_, u_, u_, u_, u_, u_, u_, u_, u_, u_, u_, u_, u_, u_, u_, u_, u_, u_, u_, u_, u_, u_]) rfl ?_
                          refine hK900105 _ _ ?_
                          refine c_false rfl ?_
                          refine wp_skip ?_
                          refine hK900103 _ _ ?_
                          refine wp_seq_k (fun K901416 hK901417 => ?_)
                          refine c_region (fun ops901419 hops901418 => ?_)
                          clear hops901418
                          refine p_run (l' := _) _ (x_field (j := 0) _ _ rfl rfl Try.underlying38 rfl (by rfl) rfl) rfl ?_
                          refine p_run (l' := _) _ (x_load (.int .i64 kd) rfl rfl (bkCell (HS.get (.tail _ (.tail _ (.tail _ (.tail _ (.head _)))))) 0 _ rfl) (by rfl)) rfl ?_
                          refine p_run (l' := _) _ (x_cmp (k := .i64) (m := kd) (n := 2) .eql false rfl rfl rfl (by rw [hs]; rfl) rfl) rfl ?_
                          refine wpList_nil ?_
                          refine hK901417 _ _ ?_
                          refine c_false rfl ?_
                          refine wp_skip ?_
                          refine hK93 _ _ ?_
                          refine c_region (fun ops901421 hops901420 => ?_)
                          clear hops901420
                          refine p_run (l' := _) _ (x_arith (k := .i64) (m := (i : Int)) (n := 1) .add (((i + 1 : Nat) : Int)) rfl rfl rfl (show IntKind.i64.wrap ((i : Int) + 1) = ((i + 1 : Nat) : Int) from ((wr64 (by omega)).trans (by omega))) rfl) rfl ?_
                          refine p_run (l' := _) _ (x_move (.int .i64 ((i + 1 : Nat) : Int)) rfl rfl) rfl ?_
                          refine wpList_nil ?_
                          refine fr_at (l' := [.int .i64 (np : Int), .slice (some ad) l1.length c1, .slice A2 l2.length c2, u_, u_, u_, .bool false, .pointer (some ⟨D22, 0, none⟩), .slice (some ⟨g31, 0, none⟩) np np, u9, u_, .pointer (some ⟨g98, 0, none⟩), uq70.2.1, u_, u_, u_, u_, u_, u_, u_, u_, u_, .bool true, .bool false, .int .i64 (np : Int), .bool false, .bool false, .int .i64 (np : Int), .bool false, .bool false, .bool false, .slice (some ad) l1.length c1, .int .i64 (l1.length : Int), .bool false, .bool false, .bool false, .slice A2 l2.length c2, .int .i64 (l2.length : Int), .bool false, .bool false, .int .i64 (np : Int), .pointer (some ⟨D22, 0, none⟩), .int .i64 (np : Int), .slice (some ⟨g31, 0, none⟩) np np, .slice (some ⟨g31, 0, none⟩) np np, .int .i64 (np : Int), .int .i64 (np : Int), .bool (decide ((np : Int) < (np : Int))), u48, u49, u50, u51, u52, u53, .slice (some ad) l1.length c1, .int .i64 (l1.length : Int), .int .i64 ((i + 1 : Nat) : Int), .bool (decide ((i : Int) < (l1.length : Int))), .pointer (some ((ad).add (i * 4))), .agg ([.int .i64 kd, .int .i64 aa, .int .u8 bb, .slice A3 kp.length c3] : List Value).toArray, .pointer (some ⟨g98, 0, none⟩), .int .i64 kd, .bool false, .bool false, u_, u_, u_, u_, u_, u_, u_, u_, .bool false, uq73.1, uq73.2.1, uq73.2.2.1, uq73.2.2.2.1, uq73.2.2.2.2.1, uq73.2.2.2.2.2, uq74.1, uq74.2.1, uq74.2.2.1, uq74.2.2.2.1, uq74.2.2.2.2.1, uq74.2.2.2.2.2, uq75.1, .pointer (some ⟨g98, 0, none⟩), .int .i64 kd, .bool true, .bool true, .pointer (some ⟨D22, 0, none⟩), .int .i64 S.actE, .bool false, .bool false, uq76.2.2.2.1, uq76.2.2.2.2.1, uq76.2.2.2.2.2, uq77.1, uq77.2.1, uq77.2.2.1, uq77.2.2.2.1, uq77.2.2.2.2.1, uq77.2.2.2.2.2, uq78.1, uq78.2.1, uq78.2.2.1, uq78.2.2.2.1, uq78.2.2.2.2.1, uq78.2.2.2.2.2, uq79.1, uq79.2.1, uq79.2.2.1, uq79.2.2.2.1, uq79.2.2.2.2.1, .pointer (some ⟨g98, 0, none⟩), .int .i64 kd, .bool false, uq80.2.2.1, uq80.2.2.2.1, uq80.2.2.2.2.1, uq80.2.2.2.2.2, .int .i64 ((i + 1 : Nat) : Int), u_, u_, u_, u_, u_, u_, u_, u_, u_, u_, u_, u_, u_, u_, u_, u_, u_, u_, u_, u_, u_, u_, u_, u_, u_, u_, u_, u_, u_, u_, u_, u_, u_, u_, u_, u_, u_, u_, u_, u_, u_, u_, u_, u_, u_, u_, u_, u_, u_, u_, u_, u_, u_, u_, u_, u_, u_, u_]) rfl ?_
                          refine hJ83 (i + 1, S.sync, v901413, ro) _ _ ?_ ?_
                          · show l1.length - (i + 1) < l1.length - i; omega
                          · exact ⟨(.pointer (some ⟨g98, 0, none⟩), uq70.2.1, .bool (decide ((i : Int) < (l1.length : Int))), .pointer (some ((ad).add (i * 4))), .agg ([.int .i64 kd, .int .i64 aa, .int .u8 bb, .slice A3 kp.length c3] : List Value).toArray, .pointer (some ⟨g98, 0, none⟩)), (.int .i64 kd, .bool false, .bool false, u_, u_, u_), (u_, u_, u_, u_, u_, .bool false), uq73, uq74, (uq75.1, .pointer (some ⟨g98, 0, none⟩), .int .i64 kd, .bool true, .bool true, .pointer (some ⟨D22, 0, none⟩)), (.int .i64 S.actE, .bool false, .bool false, uq76.2.2.2.1, uq76.2.2.2.2.1, uq76.2.2.2.2.2), uq77, uq78, (uq79.1, uq79.2.1, uq79.2.2.1, uq79.2.2.2.1, uq79.2.2.2.2.1, .pointer (some ⟨g98, 0, none⟩)), (.int .i64 kd, .bool false, uq80.2.2.1, uq80.2.2.2.1, uq80.2.2.2.2.1, uq80.2.2.2.2.2), .int .i64 ((i + 1 : Nat) : Int), rfl, (((((((HS.front 4 rfl).drop.front 5 rfl).front 5 rfl).front 5 rfl).front 5 rfl).front 5 rfl).front 5 rfl), ⟨ki_more (ki_nosync hK hs2), hol, by omega⟩⟩
                        · skip
                          refine c_region (fun ops901423 hops901422 => ?_)
                          refine p_run (l' := _) _ (x_field (j := 0) _ _ rfl rfl Try.underlying38 rfl (by rfl) rfl) rfl ?_
                          refine p_run (l' := _) _ (x_load (.int .i64 kd) rfl rfl (bkCell (HS.get (.head _)) 0 _ rfl) (by rfl)) rfl ?_
                          refine p_run (l' := _) _ (x_cmp (k := .i64) (m := kd) (n := 1) .eql false rfl rfl rfl (beq_eq_false_iff_ne.2 hs) rfl) rfl ?_
                          refine p_run (l' := _) _ (x_move (.bool false) rfl rfl) rfl ?_
                          refine p_off (l' := _) (by rw [hops901422]; rfl) rfl ?_
                          refine p_off (l' := _) (by rw [hops901422]; rfl) rfl ?_
                          refine p_off (l' := _) (by rw [hops901422]; rfl) rfl ?_
                          refine p_run (l' := _) _ (x_pick false (u_) (.bool false) (.bool false) rfl rfl rfl rfl rfl) rfl ?_
                          clear hops901422
                          refine wpList_nil ?_
                          refine fr_at (l' := [.int .i64 (np : Int), .slice (some ad) l1.length c1, .slice A2 l2.length c2, u_, u_, u_, .bool false, .pointer (some ⟨D22, 0, none⟩), .slice (some ⟨g31, 0, none⟩) np np, u9, u_, .pointer (some ⟨g98, 0, none⟩), uq70.2.1, u_, u_, u_, u_, u_, u_, u_, u_, u_, .bool true, .bool false, .int .i64 (np : Int), .bool false, .bool false, .int .i64 (np : Int), .bool false, .bool false, .bool false, .slice (some ad) l1.length c1, .int .i64 (l1.length : Int), .bool false, .bool false, .bool false, .slice A2 l2.length c2, .int .i64 (l2.length : Int), .bool false, .bool false, .int .i64 (np : Int), .pointer (some ⟨D22, 0, none⟩), .int .i64 (np : Int), .slice (some ⟨g31, 0, none⟩) np np, .slice (some ⟨g31, 0, none⟩) np np, .int .i64 (np : Int), .int .i64 (np : Int), .bool (decide ((np : Int) < (np : Int))), u48, u49, u50, u51, u52, u53, .slice (some ad) l1.length c1, .int .i64 (l1.length : Int), .int .i64 (i : Int), .bool (decide ((i : Int) < (l1.length : Int))), .pointer (some ((ad).add (i * 4))), .agg ([.int .i64 kd, .int .i64 aa, .int .u8 bb, .slice A3 kp.length c3] : List Value).toArray, .pointer (some ⟨g98, 0, none⟩), .int .i64 kd, .bool false, .bool false, u_, u_, u_, u_, u_, u_, u_, u_, .bool false, uq73.1, uq73.2.1, uq73.2.2.1, uq73.2.2.2.1, uq73.2.2.2.2.1, uq73.2.2.2.2.2, uq74.1, uq74.2.1, uq74.2.2.1, uq74.2.2.2.1, uq74.2.2.2.2.1, uq74.2.2.2.2.2, uq75.1, .pointer (some ⟨g98, 0, none⟩), .int .i64 kd, .bool false, .bool false, u_, u_, u_, .bool false, uq76.2.2.2.1, uq76.2.2.2.2.1, uq76.2.2.2.2.2, uq77.1, uq77.2.1, uq77.2.2.1, uq77.2.2.2.1, uq77.2.2.2.2.1, uq77.2.2.2.2.2, uq78.1, uq78.2.1, uq78.2.2.1, uq78.2.2.2.1, uq78.2.2.2.2.1, uq78.2.2.2.2.2, uq79.1, uq79.2.1, uq79.2.2.1, uq79.2.2.2.1, uq79.2.2.2.2.1, uq79.2.2.2.2.2, uq80.1, uq80.2.1, uq80.2.2.1, uq80.2.2.2.1, uq80.2.2.2.2.1, uq80.2.2.2.2.2, uq81, u_, u_, u_, u_, u_, u_, u_, u_, u_, u_, u_, u_, u_, u_, u_, u_, u_, u_, u_, u_, u_, u_, u_, u_, u_, u_, u_, u_, u_, u_, u_, u_, u_, u_, u_, u_, u_, u_, u_, u_, u_, u_, u_, u_, u_, u_, u_, u_, u_, u_, u_, u_, u_, u_, u_, u_, u_, u_]) rfl ?_
                          refine hK900105 _ _ ?_
                          refine c_false rfl ?_
                          refine wp_skip ?_
                          refine hK900103 _ _ ?_
                          refine wp_seq_k (fun K901424 hK901425 => ?_)
                          refine c_region (fun ops901427 hops901426 => ?_)
                          clear hops901426
                          refine p_run (l' := _) _ (x_field (j := 0) _ _ rfl rfl Try.underlying38 rfl (by rfl) rfl) rfl ?_
                          refine p_run (l' := _) _ (x_load (.int .i64 kd) rfl rfl (bkCell (HS.get (.head _)) 0 _ rfl) (by rfl)) rfl ?_
                          refine p_run (l' := _) _ (x_cmp (k := .i64) (m := kd) (n := 2) .eql (kd == 2) rfl rfl rfl rfl rfl) rfl ?_
                          refine wpList_nil ?_
                          refine hK901425 _ _ ?_
                          refine c_cond (t := (kd == 2)) rfl (fun hc901428 => ?_) (fun hc901428 => ?_)
                          · refine c_region (fun ops901430 hops901429 => ?_)
                            clear hops901429
                            refine p_run (l' := _) _ (x_move (.pointer (some ⟨D22, 0, none⟩)) rfl rfl) rfl ?_
                            refine p_run (l' := _) _ (x_field (j := 1) _ _ rfl rfl Try.underlying38 rfl (by rfl) rfl) rfl ?_
                            refine p_run (l' := _) _ (x_load (.int .i64 aa) rfl rfl (bkCell (HS.get (.head _)) 1 _ rfl) (by rfl)) rfl ?_
                            refine w_call [.pointer (some ⟨D22, 0, none⟩), .int .i64 aa] Try.func11 (by kernel_rfl) (by rfl) rfl ?_
                            replace HS := ((((HS.front 4 rfl).front 4 rfl).front 4 rfl).front 4 rfl)
                            refine (cut_any HS aa).mono ?_
                            clear HS
                            rintro e w901431 ⟨rfl, HS⟩
                            have hgd901432 : Dk.good (S.cut aa) (i) := good_cut hK.gd aa (by omega)
                            refine ⟨_, rfl, ?_⟩
                            refine wpList_nil ?_
                            refine hK93 _ _ ?_
                            refine c_region (fun ops901434 hops901433 => ?_)
                            clear hops901433
                            refine p_run (l' := _) _ (x_arith (k := .i64) (m := (i : Int)) (n := 1) .add (((i + 1 : Nat) : Int)) rfl rfl rfl (show IntKind.i64.wrap ((i : Int) + 1) = ((i + 1 : Nat) : Int) from ((wr64 (by omega)).trans (by omega))) rfl) rfl ?_
                            refine p_run (l' := _) _ (x_move (.int .i64 ((i + 1 : Nat) : Int)) rfl rfl) rfl ?_
                            refine wpList_nil ?_
                            refine fr_at (l' := [.int .i64 (np : Int), .slice (some ad) l1.length c1, .slice A2 l2.length c2, u_, u_, u_, .bool false, .pointer (some ⟨D22, 0, none⟩), .slice (some ⟨g31, 0, none⟩) np np, u9, u_, .pointer (some ⟨g98, 0, none⟩), uq70.2.1, u_, u_, u_, u_, u_, u_, u_, u_, u_, .bool true, .bool false, .int .i64 (np : Int), .bool false, .bool false, .int .i64 (np : Int), .bool false, .bool false, .bool false, .slice (some ad) l1.length c1, .int .i64 (l1.length : Int), .bool false, .bool false, .bool false, .slice A2 l2.length c2, .int .i64 (l2.length : Int), .bool false, .bool false, .int .i64 (np : Int), .pointer (some ⟨D22, 0, none⟩), .int .i64 (np : Int), .slice (some ⟨g31, 0, none⟩) np np, .slice (some ⟨g31, 0, none⟩) np np, .int .i64 (np : Int), .int .i64 (np : Int), .bool (decide ((np : Int) < (np : Int))), u48, u49, u50, u51, u52, u53, .slice (some ad) l1.length c1, .int .i64 (l1.length : Int), .int .i64 ((i + 1 : Nat) : Int), .bool (decide ((i : Int) < (l1.length : Int))), .pointer (some ((ad).add (i * 4))), .agg ([.int .i64 kd, .int .i64 aa, .int .u8 bb, .slice A3 kp.length c3] : List Value).toArray, .pointer (some ⟨g98, 0, none⟩), .int .i64 kd, .bool false, .bool false, u_, u_, u_, u_, u_, u_, u_, u_, .bool false, uq73.1, uq73.2.1, uq73.2.2.1, uq73.2.2.2.1, uq73.2.2.2.2.1, uq73.2.2.2.2.2, uq74.1, uq74.2.1, uq74.2.2.1, uq74.2.2.2.1, uq74.2.2.2.2.1, uq74.2.2.2.2.2, uq75.1, .pointer (some ⟨g98, 0, none⟩), .int .i64 kd, .bool false, .bool false, u_, u_, u_, .bool false, uq76.2.2.2.1, uq76.2.2.2.2.1, uq76.2.2.2.2.2, uq77.1, uq77.2.1, uq77.2.2.1, uq77.2.2.2.1, uq77.2.2.2.2.1, uq77.2.2.2.2.2, uq78.1, uq78.2.1, uq78.2.2.1, uq78.2.2.2.1, uq78.2.2.2.2.1, uq78.2.2.2.2.2, uq79.1, uq79.2.1, uq79.2.2.1, uq79.2.2.2.1, uq79.2.2.2.2.1, .pointer (some ⟨g98, 0, none⟩), .int .i64 kd, .bool (kd == 2), .pointer (some ⟨D22, 0, none⟩), .pointer (some ⟨g98, 1, none⟩), .int .i64 aa, .tuple [].toArray, .int .i64 ((i + 1 : Nat) : Int), u_, u_, u_, u_, u_, u_, u_, u_, u_, u_, u_, u_, u_, u_, u_, u_, u_, u_, u_, u_, u_, u_, u_, u_, u_, u_, u_, u_, u_, u_, u_, u_, u_, u_, u_, u_, u_, u_, u_, u_, u_, u_, u_, u_, u_, u_, u_, u_, u_, u_, u_, u_, u_, u_, u_, u_, u_, u_]) rfl ?_
                            refine hJ83 (i + 1, (S.cut aa), v1, ro) _ _ ?_ ?_
                            · show l1.length - (i + 1) < l1.length - i; omega
                            · exact ⟨(.pointer (some ⟨g98, 0, none⟩), uq70.2.1, .bool (decide ((i : Int) < (l1.length : Int))), .pointer (some ((ad).add (i * 4))), .agg ([.int .i64 kd, .int .i64 aa, .int .u8 bb, .slice A3 kp.length c3] : List Value).toArray, .pointer (some ⟨g98, 0, none⟩)), (.int .i64 kd, .bool false, .bool false, u_, u_, u_), (u_, u_, u_, u_, u_, .bool false), uq73, uq74, (uq75.1, .pointer (some ⟨g98, 0, none⟩), .int .i64 kd, .bool false, .bool false, u_), (u_, u_, .bool false, uq76.2.2.2.1, uq76.2.2.2.2.1, uq76.2.2.2.2.2), uq77, uq78, (uq79.1, uq79.2.1, uq79.2.2.1, uq79.2.2.2.1, uq79.2.2.2.2.1, .pointer (some ⟨g98, 0, none⟩)), (.int .i64 kd, .bool (kd == 2), .pointer (some ⟨D22, 0, none⟩), .pointer (some ⟨g98, 1, none⟩), .int .i64 aa, .tuple [].toArray), .int .i64 ((i + 1 : Nat) : Int), rfl, (((((((HS.front 4 rfl).drop.front 5 rfl).front 5 rfl).front 5 rfl).front 5 rfl).front 5 rfl).front 5 rfl), ⟨ki_more (ki_cut hK _ (by omega)), hol, by omega⟩⟩
                          · refine wp_skip ?_
                            refine hK93 _ _ ?_
                            refine c_region (fun ops901436 hops901435 => ?_)
                            clear hops901435
                            refine p_run (l' := _) _ (x_arith (k := .i64) (m := (i : Int)) (n := 1) .add (((i + 1 : Nat) : Int)) rfl rfl rfl (show IntKind.i64.wrap ((i : Int) + 1) = ((i + 1 : Nat) : Int) from ((wr64 (by omega)).trans (by omega))) rfl) rfl ?_
                            refine p_run (l' := _) _ (x_move (.int .i64 ((i + 1 : Nat) : Int)) rfl rfl) rfl ?_
                            refine wpList_nil ?_
                            refine fr_at (l' := [.int .i64 (np : Int), .slice (some ad) l1.length c1, .slice A2 l2.length c2, u_, u_, u_, .bool false, .pointer (some ⟨D22, 0, none⟩), .slice (some ⟨g31, 0, none⟩) np np, u9, u_, .pointer (some ⟨g98, 0, none⟩), uq70.2.1, u_, u_, u_, u_, u_, u_, u_, u_, u_, .bool true, .bool false, .int .i64 (np : Int), .bool false, .bool false, .int .i64 (np : Int), .bool false, .bool false, .bool false, .slice (some ad) l1.length c1, .int .i64 (l1.length : Int), .bool false, .bool false, .bool false, .slice A2 l2.length c2, .int .i64 (l2.length : Int), .bool false, .bool false, .int .i64 (np : Int), .pointer (some ⟨D22, 0, none⟩), .int .i64 (np : Int), .slice (some ⟨g31, 0, none⟩) np np, .slice (some ⟨g31, 0, none⟩) np np, .int .i64 (np : Int), .int .i64 (np : Int), .bool (decide ((np : Int) < (np : Int))), u48, u49, u50, u51, u52, u53, .slice (some ad) l1.length c1, .int .i64 (l1.length : Int), .int .i64 ((i + 1 : Nat) : Int), .bool (decide ((i : Int) < (l1.length : Int))), .pointer (some ((ad).add (i * 4))), .agg ([.int .i64 kd, .int .i64 aa, .int .u8 bb, .slice A3 kp.length c3] : List Value).toArray, .pointer (some ⟨g98, 0, none⟩), .int .i64 kd, .bool false, .bool false, u_, u_, u_, u_, u_, u_, u_, u_, .bool false, uq73.1, uq73.2.1, uq73.2.2.1, uq73.2.2.2.1, uq73.2.2.2.2.1, uq73.2.2.2.2.2, uq74.1, uq74.2.1, uq74.2.2.1, uq74.2.2.2.1, uq74.2.2.2.2.1, uq74.2.2.2.2.2, uq75.1, .pointer (some ⟨g98, 0, none⟩), .int .i64 kd, .bool false, .bool false, u_, u_, u_, .bool false, uq76.2.2.2.1, uq76.2.2.2.2.1, uq76.2.2.2.2.2, uq77.1, uq77.2.1, uq77.2.2.1, uq77.2.2.2.1, uq77.2.2.2.2.1, uq77.2.2.2.2.2, uq78.1, uq78.2.1, uq78.2.2.1, uq78.2.2.2.1, uq78.2.2.2.2.1, uq78.2.2.2.2.2, uq79.1, uq79.2.1, uq79.2.2.1, uq79.2.2.2.1, uq79.2.2.2.2.1, .pointer (some ⟨g98, 0, none⟩), .int .i64 kd, .bool (kd == 2), uq80.2.2.1, uq80.2.2.2.1, uq80.2.2.2.2.1, uq80.2.2.2.2.2, .int .i64 ((i + 1 : Nat) : Int), u_, u_, u_, u_, u_, u_, u_, u_, u_, u_, u_, u_, u_, u_, u_, u_, u_, u_, u_, u_, u_, u_, u_, u_, u_, u_, u_, u_, u_, u_, u_, u_, u_, u_, u_, u_, u_, u_, u_, u_, u_, u_, u_, u_, u_, u_, u_, u_, u_, u_, u_, u_, u_, u_, u_, u_, u_, u_]) rfl ?_
                            refine hJ83 (i + 1, S, v1, ro) _ _ ?_ ?_
                            · show l1.length - (i + 1) < l1.length - i; omega
                            · exact ⟨(.pointer (some ⟨g98, 0, none⟩), uq70.2.1, .bool (decide ((i : Int) < (l1.length : Int))), .pointer (some ((ad).add (i * 4))), .agg ([.int .i64 kd, .int .i64 aa, .int .u8 bb, .slice A3 kp.length c3] : List Value).toArray, .pointer (some ⟨g98, 0, none⟩)), (.int .i64 kd, .bool false, .bool false, u_, u_, u_), (u_, u_, u_, u_, u_, .bool false), uq73, uq74, (uq75.1, .pointer (some ⟨g98, 0, none⟩), .int .i64 kd, .bool false, .bool false, u_), (u_, u_, .bool false, uq76.2.2.2.1, uq76.2.2.2.2.1, uq76.2.2.2.2.2), uq77, uq78, (uq79.1, uq79.2.1, uq79.2.2.1, uq79.2.2.2.1, uq79.2.2.2.2.1, .pointer (some ⟨g98, 0, none⟩)), (.int .i64 kd, .bool (kd == 2), uq80.2.2.1, uq80.2.2.2.1, uq80.2.2.2.2.1, uq80.2.2.2.2.2), .int .i64 ((i + 1 : Nat) : Int), rfl, ((((((HS.drop.front 5 rfl).front 5 rfl).front 5 rfl).front 5 rfl).front 5 rfl).front 5 rfl), ⟨ki_more hK, hol, by omega⟩⟩
                    · have hlt : ¬ i < l1.length := by have := of_decide_eq_false hc91; omega
                      have hK0 := hK
                      have hil0 := hil
                      have hol0 := hol
                      refine wp_exit ?_
                      refine hK65 _ _ ?_
                      refine wp_seq_k (fun K901437 hK901438 => ?_)
                      refine c_region (fun ops901440 hops901439 => ?_)
                      clear hops901439
                      refine p_run (l' := _) _ (x_move (.pointer (some ⟨D22, 0, none⟩)) rfl rfl) rfl ?_
                      refine p_run (l' := _) _ (x_move (.slice A2 l2.length c2) rfl rfl) rfl ?_
                      refine w_call [.pointer (some ⟨D22, 0, none⟩), .slice A2 l2.length c2] Try.func16 (by kernel_rfl) (by rfl) rfl ?_
                      replace HS := ((((HS.front 3 rfl).front 3 rfl).front 3 rfl).front 3 rfl)
                      refine (crash_any HS hK0.gd.ok (by have := hK0.gd.pn; omega) l2 hk2 (fun w X hx => Kd.C_below hr2 hx.belowOf)).mono ?_
                      clear HS
                      rintro e w901442 ⟨v901441, rfl, HS⟩
                      have hgd901443 : Dk.good (S.crash l2) (i) := good_crash hK0.gd _
                      refine ⟨_, rfl, ?_⟩
                      refine wpList_nil ?_
                      refine hK901438 _ _ ?_
                      refine wp_seq_k (fun K901444 hK901445 => ?_)
                      refine wp_seq_k (fun K901446 hK901447 => ?_)
                      refine c_region (fun ops901449 hops901448 => ?_)
                      clear hops901448
                      refine p_run (l' := _) _ (x_move (.slice (some ⟨g31, 0, none⟩) np np) rfl rfl) rfl ?_
                      refine p_run (l' := _) _ (x_len rfl rfl Try.underlying44) rfl ?_
                      refine p_run (l' := _) _ (x_move (.int .i64 0) rfl rfl) rfl ?_
                      refine wpList_nil ?_
                      refine fr_at (l' := [.int .i64 (np : Int), .slice A1 l1.length c1, .slice A2 l2.length c2, u_, u_, u_, .bool false, .pointer (some ⟨D22, 0, none⟩), .slice (some ⟨g31, 0, none⟩) np np, u9, u_, uq70.1, uq70.2.1, u_, u_, u_, u_, u_, u_, u_, u_, u_, .bool true, .bool false, .int .i64 (np : Int), .bool false, .bool false, .int .i64 (np : Int), .bool false, .bool false, .bool false, .slice A1 l1.length c1, .int .i64 (l1.length : Int), .bool false, .bool false, .bool false, .slice A2 l2.length c2, .int .i64 (l2.length : Int), .bool false, .bool false, .int .i64 (np : Int), .pointer (some ⟨D22, 0, none⟩), .int .i64 (np : Int), .slice (some ⟨g31, 0, none⟩) np np, .slice (some ⟨g31, 0, none⟩) np np, .int .i64 (np : Int), .int .i64 (np : Int), .bool (decide ((np : Int) < (np : Int))), u48, u49, u50, u51, u52, u53, .slice A1 l1.length c1, .int .i64 (l1.length : Int), .int .i64 (i : Int), .bool (decide ((i : Int) < (l1.length : Int))), uq70.2.2.2.1, uq70.2.2.2.2.1, uq70.2.2.2.2.2, uq71.1, uq71.2.1, uq71.2.2.1, uq71.2.2.2.1, uq71.2.2.2.2.1, uq71.2.2.2.2.2, uq72.1, uq72.2.1, uq72.2.2.1, uq72.2.2.2.1, uq72.2.2.2.2.1, uq72.2.2.2.2.2, uq73.1, uq73.2.1, uq73.2.2.1, uq73.2.2.2.1, uq73.2.2.2.2.1, uq73.2.2.2.2.2, uq74.1, uq74.2.1, uq74.2.2.1, uq74.2.2.2.1, uq74.2.2.2.2.1, uq74.2.2.2.2.2, uq75.1, uq75.2.1, uq75.2.2.1, uq75.2.2.2.1, uq75.2.2.2.2.1, uq75.2.2.2.2.2, uq76.1, uq76.2.1, uq76.2.2.1, uq76.2.2.2.1, uq76.2.2.2.2.1, uq76.2.2.2.2.2, uq77.1, uq77.2.1, uq77.2.2.1, uq77.2.2.2.1, uq77.2.2.2.2.1, uq77.2.2.2.2.2, uq78.1, uq78.2.1, uq78.2.2.1, uq78.2.2.2.1, uq78.2.2.2.2.1, uq78.2.2.2.2.2, uq79.1, uq79.2.1, uq79.2.2.1, uq79.2.2.2.1, uq79.2.2.2.2.1, uq79.2.2.2.2.2, uq80.1, uq80.2.1, uq80.2.2.1, uq80.2.2.2.1, uq80.2.2.2.2.1, uq80.2.2.2.2.2, uq81, .pointer (some ⟨D22, 0, none⟩), .slice A2 l2.length c2, .tuple [].toArray, .slice (some ⟨g31, 0, none⟩) np np, .int .i64 (np : Int), .int .i64 0, u_, u_, u_, u_, u_, u_, u_, u_, u_, u_, u_, u_, u_, u_, u_, u_, u_, u_, u_, u_, u_, u_, u_, u_, u_, u_, u_, u_, u_, u_, u_, u_, u_, u_, u_, u_, u_, u_, u_, u_, u_, u_, u_, u_, u_, u_, u_, u_, u_, u_, u_, u_]) rfl ?_
                      refine hK901447 _ _ ?_
                      refine wp_block ?_
                      obtain ⟨Sc, hSc⟩ : ∃ Sc, S.crash l2 = Sc := ⟨_, rfl⟩
                      rw [hSc] at HS hgd901443
                      have hSp : Sc.pending = [] := by rw [← hSc]; rfl
                      have hSd : Sc.down = false := by rw [← hSc]; rfl
                      refine c_loop (ι := Nat) (fun i_ a_ w_ => match i_ with | jj => ∃ (uq901450 : Value × Value × Value × Value × Value × Value) (uq901451 : Value × Value × Value × Value × Value × Value) (uq901452 : Value × Value × Value × Value × Value × Value) (uq901453 : Value × Value × Value × Value × Value × Value) (uq901454 : Value × Value × Value × Value × Value × Value) (uq901455 : Value × Value × Value × Value × Value × Value) (uq901456 : Value × Value × Value × Value × Value × Value) (uq901457 : Value × Value × Value × Value × Value × Value) (uq901458 : Value × Value × Value × Value), a_ = fr [.int .i64 (np : Int), .slice A1 l1.length c1, .slice A2 l2.length c2, u_, u_, u_, uq901450.1, .pointer (some ⟨D22, 0, none⟩), .slice (some ⟨g31, 0, none⟩) np np, u9, u_, uq70.1, uq70.2.1, uq901450.2.1, uq901450.2.2.1, uq901450.2.2.2.1, uq901450.2.2.2.2.1, uq901450.2.2.2.2.2, uq901451.1, uq901451.2.1, u_, uq901451.2.2.1, .bool true, .bool false, .int .i64 (np : Int), .bool false, .bool false, .int .i64 (np : Int), .bool false, .bool false, .bool false, .slice A1 l1.length c1, .int .i64 (l1.length : Int), .bool false, .bool false, .bool false, .slice A2 l2.length c2, .int .i64 (l2.length : Int), .bool false, .bool false, .int .i64 (np : Int), .pointer (some ⟨D22, 0, none⟩), .int .i64 (np : Int), .slice (some ⟨g31, 0, none⟩) np np, .slice (some ⟨g31, 0, none⟩) np np, .int .i64 (np : Int), .int .i64 (np : Int), .bool (decide ((np : Int) < (np : Int))), u48, u49, u50, u51, u52, u53, .slice A1 l1.length c1, .int .i64 (l1.length : Int), .int .i64 (i : Int), .bool (decide ((i : Int) < (l1.length : Int))), uq70.2.2.2.1, uq70.2.2.2.2.1, uq70.2.2.2.2.2, uq71.1, uq71.2.1, uq71.2.2.1, uq71.2.2.2.1, uq71.2.2.2.2.1, uq71.2.2.2.2.2, uq72.1, uq72.2.1, uq72.2.2.1, uq72.2.2.2.1, uq72.2.2.2.2.1, uq72.2.2.2.2.2, uq73.1, uq73.2.1, uq73.2.2.1, uq73.2.2.2.1, uq73.2.2.2.2.1, uq73.2.2.2.2.2, uq74.1, uq74.2.1, uq74.2.2.1, uq74.2.2.2.1, uq74.2.2.2.2.1, uq74.2.2.2.2.2, uq75.1, uq75.2.1, uq75.2.2.1, uq75.2.2.2.1, uq75.2.2.2.2.1, uq75.2.2.2.2.2, uq76.1, uq76.2.1, uq76.2.2.1, uq76.2.2.2.1, uq76.2.2.2.2.1, uq76.2.2.2.2.2, uq77.1, uq77.2.1, uq77.2.2.1, uq77.2.2.2.1, uq77.2.2.2.2.1, uq77.2.2.2.2.2, uq78.1, uq78.2.1, uq78.2.2.1, uq78.2.2.2.1, uq78.2.2.2.2.1, uq78.2.2.2.2.2, uq79.1, uq79.2.1, uq79.2.2.1, uq79.2.2.2.1, uq79.2.2.2.2.1, uq79.2.2.2.2.2, uq80.1, uq80.2.1, uq80.2.2.1, uq80.2.2.2.1, uq80.2.2.2.2.1, uq80.2.2.2.2.2, uq81, .pointer (some ⟨D22, 0, none⟩), .slice A2 l2.length c2, .tuple [].toArray, .slice (some ⟨g31, 0, none⟩) np np, .int .i64 (np : Int), .int .i64 (jj : Int), uq901451.2.2.2.1, uq901451.2.2.2.2.1, uq901451.2.2.2.2.2, uq901452.1, uq901452.2.1, uq901452.2.2.1, uq901452.2.2.2.1, uq901452.2.2.2.2.1, uq901452.2.2.2.2.2, uq901453.1, uq901453.2.1, uq901453.2.2.1, uq901453.2.2.2.1, uq901453.2.2.2.2.1, uq901453.2.2.2.2.2, uq901454.1, uq901454.2.1, uq901454.2.2.1, uq901454.2.2.2.1, uq901454.2.2.2.2.1, uq901454.2.2.2.2.2, uq901455.1, uq901455.2.1, uq901455.2.2.1, uq901455.2.2.2.1, uq901455.2.2.2.2.1, uq901455.2.2.2.2.2, uq901456.1, uq901456.2.1, uq901456.2.2.1, uq901456.2.2.2.1, uq901456.2.2.2.2.1, uq901456.2.2.2.2.2, uq901457.1, uq901457.2.1, uq901457.2.2.1, uq901457.2.2.2.1, uq901457.2.2.2.2.1, uq901457.2.2.2.2.2, uq901458.1, uq901458.2.1, uq901458.2.2.1, uq901458.2.2.2, u_, u_, u_, u_, u_, u_, u_, u_, u_] ∧ St w (fun _ => False) w_ ([blk D22 (dskC gs23 gm24 v901441 Sc) 66, blk gs23 (pgs Sc.stable) 31, mapR gm24 Sc.cnt Sc.bad, row kWr rfl 71 v901441 Sc.pending, blk g31 ((mv np ro)) 36, allR (mr ro)]) ∧ (True)) (fun i_ => match i_ with | jj => np - jj) 0 ?_ ?_
                      · exact ⟨(.bool false, u_, u_, u_, u_, u_), (u_, u_, u_, u_, u_, u_), (u_, u_, u_, u_, u_, u_), (u_, u_, u_, u_, u_, u_), (u_, u_, u_, u_, u_, u_), (u_, u_, u_, u_, u_, u_), (u_, u_, u_, u_, u_, u_), (u_, u_, u_, u_, u_, u_), (u_, u_, u_, u_), rfl, ((((((HS.front 5 rfl).front 5 rfl).front 5 rfl).front 5 rfl).front 5 rfl).front 5 rfl), trivial⟩
                      · clear HS
                        rintro jj a_ w901461 ⟨uq901450, uq901451, uq901452, uq901453, uq901454, uq901455, uq901456, uq901457, uq901458, rfl, HS, hI⟩ J901459 hJ901460
                        refine wp_seq_k (fun K901462 hK901463 => ?_)
                        refine c_region (fun ops901465 hops901464 => ?_)
                        clear hops901464
                        refine p_run (l' := _) _ (x_cmp (k := .i64) (m := (jj : Int)) (n := (np : Int)) .lss (decide ((jj : Int) < (np : Int))) rfl rfl rfl rfl rfl) rfl ?_
                        refine wpList_nil ?_
                        refine hK901463 _ _ ?_
                        refine wp_seq_k (fun K901466 hK901467 => ?_)
                        refine c_cond (t := decide ((jj : Int) < (np : Int))) rfl (fun hc901468 => ?_) (fun hc901468 => ?_)
                        · have hlj : jj < np := by have := of_decide_eq_true hc901468; omega
                          obtain ⟨⟨vq, xq⟩, hr⟩ : ∃ r, ro[jj]? = some r := ⟨_, List.getElem?_eq_getElem (by omega)⟩
                          have hx : (ro.map (·.2))[jj]? = some xq := by rw [List.getElem?_map, hr]; rfl
                          have hrd := ki_crash hK0 l2 hx
                          rw [hSc] at hrd
                          obtain ⟨gq, kq, cq, hv, hcq, hCq⟩ := orow_open (HS.allGet (.tail _ (.tail _ (.tail _ (.tail _ (.tail _ (.head _)))))) (mr_get hr))
                          subst hv
                          have hxl := hCq.2.1
                          refine wp_skip ?_
                          refine hK901467 _ _ ?_
                          refine wp_seq_k (fun K901469 hK901470 => ?_)
                          refine wp_block ?_
                          refine wp_seq_k (fun K901471 hK901472 => ?_)
                          refine c_region (fun ops901474 hops901473 => ?_)
                          clear hops901473
                          refine p_run (l' := _) _ (x_move (.int .i64 (jj : Int)) rfl rfl) rfl ?_
                          refine p_run (l' := _) (.pointer (some ⟨g31, jj * 1, none⟩)) ((x_index (A := ⟨g31, 0, none⟩) (j := jj * 1) (sz := 1) rfl rfl rfl Try.underlying44 (by kernel_rfl) (by omega) rfl).trans (by rw [add_mk, Nat.zero_add])) rfl ?_
                          refine p_run (l' := _) _ (x_load (.slice (some ⟨gq, kq, none⟩) xq.length cq) rfl rfl (bkCell (HS.get (.tail _ (.tail _ (.tail _ (.tail _ (.head _)))))) (jj * 1) _ ((congrArg (fun m => (mv np ro)[m]? ) (Nat.mul_one _)).trans (mv_get hr))) (by rfl)) rfl ?_
                          refine p_run (l' := _) _ (x_assign (.int .i64 (jj : Int)) rfl rfl) rfl ?_
                          refine p_run (l' := _) _ (x_assign (.slice (some ⟨gq, kq, none⟩) xq.length cq) rfl rfl) rfl ?_
                          refine wpList_nil ?_
                          refine hK901472 _ _ ?_
                          refine wp_seq_k (fun K901475 hK901476 => ?_)
                          refine c_region (fun ops901478 hops901477 => ?_)
                          clear hops901477
                          refine p_run (l' := _) _ (x_move (.pointer (some ⟨D22, 0, none⟩)) rfl rfl) rfl ?_
                          refine p_run (l' := _) _ (x_move (.int .i64 (jj : Int)) rfl rfl) rfl ?_
                          refine w_call [.pointer (some ⟨D22, 0, none⟩), .int .i64 (jj : Int)] Try.func19 (by kernel_rfl) (by rfl) rfl ?_
                          replace HS := ((((HS.front 3 rfl).front 3 rfl).front 3 rfl).front 3 rfl)
                          refine (read_any HS hgd901443.ok (by have := hgd901443.pn; omega) (jj : Int)).mono ?_
                          clear HS
                          rintro e w901479 ⟨rfl, HS⟩
                          refine ⟨_, rfl, ?_⟩
                          refine p_run (l' := [.int .i64 (np : Int), .slice A1 l1.length c1, .slice A2 l2.length c2, u_, u_, u_, uq901450.1, .pointer (some ⟨D22, 0, none⟩), .slice (some ⟨g31, 0, none⟩) np np, u9, u_, uq70.1, uq70.2.1, .int .i64 (jj : Int), .slice (some ⟨gq, kq, none⟩) xq.length cq, uq901450.2.2.2.1, uq901450.2.2.2.2.1, uq901450.2.2.2.2.2, uq901451.1, uq901451.2.1, u_, uq901451.2.2.1, .bool true, .bool false, .int .i64 (np : Int), .bool false, .bool false, .int .i64 (np : Int), .bool false, .bool false, .bool false, .slice A1 l1.length c1, .int .i64 (l1.length : Int), .bool false, .bool false, .bool false, .slice A2 l2.length c2, .int .i64 (l2.length : Int), .bool false, .bool false, .int .i64 (np : Int), .pointer (some ⟨D22, 0, none⟩), .int .i64 (np : Int), .slice (some ⟨g31, 0, none⟩) np np, .slice (some ⟨g31, 0, none⟩) np np, .int .i64 (np : Int), .int .i64 (np : Int), .bool (decide ((np : Int) < (np : Int))), u48, u49, u50, u51, u52, u53, .slice A1 l1.length c1, .int .i64 (l1.length : Int), .int .i64 (i : Int), .bool (decide ((i : Int) < (l1.length : Int))), uq70.2.2.2.1, uq70.2.2.2.2.1, uq70.2.2.2.2.2, uq71.1, uq71.2.1, uq71.2.2.1, uq71.2.2.2.1, uq71.2.2.2.2.1, uq71.2.2.2.2.2, uq72.1, uq72.2.1, uq72.2.2.1, uq72.2.2.2.1, uq72.2.2.2.2.1, uq72.2.2.2.2.2, uq73.1, uq73.2.1, uq73.2.2.1, uq73.2.2.2.1, uq73.2.2.2.2.1, uq73.2.2.2.2.2, uq74.1, uq74.2.1, uq74.2.2.1, uq74.2.2.2.1, uq74.2.2.2.2.1, uq74.2.2.2.2.2, uq75.1, uq75.2.1, uq75.2.2.1, uq75.2.2.2.1, uq75.2.2.2.2.1, uq75.2.2.2.2.2, uq76.1, uq76.2.1, uq76.2.2.1, uq76.2.2.2.1, uq76.2.2.2.2.1, uq76.2.2.2.2.2, uq77.1, uq77.2.1, uq77.2.2.1, uq77.2.2.2.1, uq77.2.2.2.2.1, uq77.2.2.2.2.2, uq78.1, uq78.2.1, uq78.2.2.1, uq78.2.2.2.1, uq78.2.2.2.2.1, uq78.2.2.2.2.2, uq79.1, uq79.2.1, uq79.2.2.1, uq79.2.2.2.1, uq79.2.2.2.2.1, uq79.2.2.2.2.2, uq80.1, uq80.2.1, uq80.2.2.1, uq80.2.2.2.1, uq80.2.2.2.2.1, uq80.2.2.2.2.2, uq81, .pointer (some ⟨D22, 0, none⟩), .slice A2 l2.length c2, .tuple [].toArray, .slice (some ⟨g31, 0, none⟩) np np, .int .i64 (np : Int), .int .i64 (jj : Int), .bool (decide ((jj : Int) < (np : Int))), .int .i64 (jj : Int), .pointer (some ⟨g31, jj * 1, none⟩), .slice (some ⟨gq, kq, none⟩) xq.length cq, .tuple [.agg ((nums .u8 (Sc.readP (jj : Int)))).toArray, .int .i64 (Sc.readE (jj : Int))].toArray, .pointer (some ⟨D22, 0, none⟩), .int .i64 (jj : Int), .tuple [.agg ((nums .u8 (Sc.readP (jj : Int)))).toArray, .int .i64 (Sc.readE (jj : Int))].toArray, uq901452.2.2.2.2.2, uq901453.1, uq901453.2.1, uq901453.2.2.1, uq901453.2.2.2.1, uq901453.2.2.2.2.1, uq901453.2.2.2.2.2, uq901454.1, uq901454.2.1, uq901454.2.2.1, uq901454.2.2.2.1, uq901454.2.2.2.2.1, uq901454.2.2.2.2.2, uq901455.1, uq901455.2.1, uq901455.2.2.1, uq901455.2.2.2.1, uq901455.2.2.2.2.1, uq901455.2.2.2.2.2, uq901456.1, uq901456.2.1, uq901456.2.2.1, uq901456.2.2.2.1, uq901456.2.2.2.2.1, uq901456.2.2.2.2.2, uq901457.1, uq901457.2.1, uq901457.2.2.1, uq901457.2.2.2.1, uq901457.2.2.2.2.1, uq901457.2.2.2.2.2, uq901458.1, uq901458.2.1, uq901458.2.2.1, uq901458.2.2.2, u_, u_, u_, u_, u_, u_, u_, u_, u_]) _ (x_move (.tuple [.agg ((nums .u8 (Sc.readP (jj : Int)))).toArray, .int .i64 (Sc.readE (jj : Int))].toArray) rfl rfl) rfl ?_
                          refine p_run (l' := _) _ (x_extract (vs := [.agg ((nums .u8 (Sc.readP (jj : Int)))).toArray, .int .i64 (Sc.readE (jj : Int))]) 0 (.agg ((nums .u8 (Sc.readP (jj : Int)))).toArray) rfl rfl rfl) rfl ?_
                          refine p_run (l' := _) _ (x_extract (vs := [.agg ((nums .u8 (Sc.readP (jj : Int)))).toArray, .int .i64 (Sc.readE (jj : Int))]) 1 (.int .i64 (Sc.readE (jj : Int))) rfl rfl rfl) rfl ?_
                          refine St.wAlloc HS (cs := ((nums .u8 zpg))) (.agg ((nums .u8 zpg)).toArray) (by kernel_rfl) rfl ?_
                          clear HS
                          intro g901480 w901481 hg901482 HS
                          refine St.stores (cs' := ((nums .u8 (Sc.readP (jj : Int))))) HS ((nums .u8 (Sc.readP (jj : Int)))) 256 rfl rfl (nums_one _ _) (by kernel_rfl) (by simp [nums_length, readP_len hgd901443.ok]) (by simp [nums_length, readP_len hgd901443.ok, zlen]) (lay_all _ _ (by simp [nums_length, readP_len hgd901443.ok, zlen])) ?_
                          clear HS
                          intro w901483 HS
                          refine p_run (l' := _) _ (x_assign (.int .i64 (Sc.readE (jj : Int))) rfl rfl) rfl ?_
                          refine wpList_nil ?_
                          refine hK901476 _ _ ?_
                          refine wp_seq_k (fun K901484 hK901485 => ?_)
                          refine wp_seq_k (fun K901486 hK901487 => ?_)
                          refine c_region (fun ops901489 hops901488 => ?_)
                          clear hops901488
                          refine p_run (l' := _) _ (x_move (.int .i64 (Sc.readE (jj : Int))) rfl rfl) rfl ?_
                          refine p_run (l' := _) _ (x_cmp (k := .i64) (m := (Sc.readE (jj : Int))) (n := 0) .neq false rfl rfl rfl (by unfold cmpB; rw [hrd.1]; rfl) rfl) rfl ?_
                          refine wpList_nil ?_
                          refine hK901487 _ _ ?_
                          refine c_false rfl ?_
                          refine wp_skip ?_
                          refine hK901485 _ _ ?_
                          refine wp_seq_k (fun K901490 hK901491 => ?_)
                          refine c_region (fun ops901493 hops901492 => ?_)
                          clear hops901492
                          refine p_run (l' := _) _ (x_loads ((nums .u8 (Sc.readP (jj : Int)))) 256 rfl rfl (bkCells (HS.get (.head _)) 0 _ (whole _)) (by rfl) (by kernel_rfl) (by simp [nums_length, readP_len hgd901443.ok])) rfl ?_
                          refine p_run (l' := _) _ (x_move (.int .i64 0) rfl rfl) rfl ?_
                          refine wpList_nil ?_
                          refine fr_at (l' := [.int .i64 (np : Int), .slice A1 l1.length c1, .slice A2 l2.length c2, u_, u_, u_, uq901450.1, .pointer (some ⟨D22, 0, none⟩), .slice (some ⟨g31, 0, none⟩) np np, u9, u_, uq70.1, uq70.2.1, .int .i64 (jj : Int), .slice (some ⟨gq, kq, none⟩) xq.length cq, .pointer (some ⟨g901480, 0, none⟩), .int .i64 (Sc.readE (jj : Int)), uq901450.2.2.2.2.2, uq901451.1, uq901451.2.1, u_, uq901451.2.2.1, .bool true, .bool false, .int .i64 (np : Int), .bool false, .bool false, .int .i64 (np : Int), .bool false, .bool false, .bool false, .slice A1 l1.length c1, .int .i64 (l1.length : Int), .bool false, .bool false, .bool false, .slice A2 l2.length c2, .int .i64 (l2.length : Int), .bool false, .bool false, .int .i64 (np : Int), .pointer (some ⟨D22, 0, none⟩), .int .i64 (np : Int), .slice (some ⟨g31, 0, none⟩) np np, .slice (some ⟨g31, 0, none⟩) np np, .int .i64 (np : Int), .int .i64 (np : Int), .bool (decide ((np : Int) < (np : Int))), u48, u49, u50, u51, u52, u53, .slice A1 l1.length c1, .int .i64 (l1.length : Int), .int .i64 (i : Int), .bool (decide ((i : Int) < (l1.length : Int))), uq70.2.2.2.1, uq70.2.2.2.2.1, uq70.2.2.2.2.2, uq71.1, uq71.2.1, uq71.2.2.1, uq71.2.2.2.1, uq71.2.2.2.2.1, uq71.2.2.2.2.2, uq72.1, uq72.2.1, uq72.2.2.1, uq72.2.2.2.1, uq72.2.2.2.2.1, uq72.2.2.2.2.2, uq73.1, uq73.2.1, uq73.2.2.1, uq73.2.2.2.1, uq73.2.2.2.2.1, uq73.2.2.2.2.2, uq74.1, uq74.2.1, uq74.2.2.1, uq74.2.2.2.1, uq74.2.2.2.2.1, uq74.2.2.2.2.2, uq75.1, uq75.2.1, uq75.2.2.1, uq75.2.2.2.1, uq75.2.2.2.2.1, uq75.2.2.2.2.2, uq76.1, uq76.2.1, uq76.2.2.1, uq76.2.2.2.1, uq76.2.2.2.2.1, uq76.2.2.2.2.2, uq77.1, uq77.2.1, uq77.2.2.1, uq77.2.2.2.1, uq77.2.2.2.2.1, uq77.2.2.2.2.2, uq78.1, uq78.2.1, uq78.2.2.1, uq78.2.2.2.1, uq78.2.2.2.2.1, uq78.2.2.2.2.2, uq79.1, uq79.2.1, uq79.2.2.1, uq79.2.2.2.1, uq79.2.2.2.2.1, uq79.2.2.2.2.2, uq80.1, uq80.2.1, uq80.2.2.1, uq80.2.2.2.1, uq80.2.2.2.2.1, uq80.2.2.2.2.2, uq81, .pointer (some ⟨D22, 0, none⟩), .slice A2 l2.length c2, .tuple [].toArray, .slice (some ⟨g31, 0, none⟩) np np, .int .i64 (np : Int), .int .i64 (jj : Int), .bool (decide ((jj : Int) < (np : Int))), .int .i64 (jj : Int), .pointer (some ⟨g31, jj * 1, none⟩), .slice (some ⟨gq, kq, none⟩) xq.length cq, .tuple [.agg ((nums .u8 (Sc.readP (jj : Int)))).toArray, .int .i64 (Sc.readE (jj : Int))].toArray, .pointer (some ⟨D22, 0, none⟩), .int .i64 (jj : Int), .tuple [.agg ((nums .u8 (Sc.readP (jj : Int)))).toArray, .int .i64 (Sc.readE (jj : Int))].toArray, .agg ((nums .u8 (Sc.readP (jj : Int)))).toArray, .int .i64 (Sc.readE (jj : Int)), .int .i64 (Sc.readE (jj : Int)), .bool false, .agg ((nums .u8 (Sc.readP (jj : Int)))).toArray, .int .i64 0, uq901453.2.2.2.2.2, uq901454.1, uq901454.2.1, uq901454.2.2.1, uq901454.2.2.2.1, uq901454.2.2.2.2.1, uq901454.2.2.2.2.2, uq901455.1, uq901455.2.1, uq901455.2.2.1, uq901455.2.2.2.1, uq901455.2.2.2.2.1, uq901455.2.2.2.2.2, uq901456.1, uq901456.2.1, uq901456.2.2.1, uq901456.2.2.2.1, uq901456.2.2.2.2.1, uq901456.2.2.2.2.2, uq901457.1, uq901457.2.1, uq901457.2.2.1, uq901457.2.2.2.1, uq901457.2.2.2.2.1, uq901457.2.2.2.2.2, uq901458.1, uq901458.2.1, uq901458.2.2.1, uq901458.2.2.2, u_, u_, u_, u_, u_, u_, u_, u_, u_]) rfl ?_
                          refine hK901491 _ _ ?_
                          refine wp_block ?_
                          refine c_loop (ι := Nat) (fun i_ a_ w_ => match i_ with | k => ∃ (uq901494 : Value × Value × Value × Value × Value × Value) (uq901495 : Value × Value × Value × Value × Value × Value) (uq901496 : Value × Value × Value × Value × Value × Value) (uq901497 : Value × Value × Value × Value × Value × Value) (uq901498 : Value × Value × Value × Value × Value × Value) (uq901499 : Value × Value × Value), a_ = fr [.int .i64 (np : Int), .slice A1 l1.length c1, .slice A2 l2.length c2, u_, u_, u_, uq901494.1, .pointer (some ⟨D22, 0, none⟩), .slice (some ⟨g31, 0, none⟩) np np, u9, u_, uq70.1, uq70.2.1, .int .i64 (jj : Int), .slice (some ⟨gq, kq, none⟩) xq.length cq, .pointer (some ⟨g901480, 0, none⟩), .int .i64 (Sc.readE (jj : Int)), uq901494.2.1, uq901494.2.2.1, uq901494.2.2.2.1, u_, uq901494.2.2.2.2.1, .bool true, .bool false, .int .i64 (np : Int), .bool false, .bool false, .int .i64 (np : Int), .bool false, .bool false, .bool false, .slice A1 l1.length c1, .int .i64 (l1.length : Int), .bool false, .bool false, .bool false, .slice A2 l2.length c2, .int .i64 (l2.length : Int), .bool false, .bool false, .int .i64 (np : Int), .pointer (some ⟨D22, 0, none⟩), .int .i64 (np : Int), .slice (some ⟨g31, 0, none⟩) np np, .slice (some ⟨g31, 0, none⟩) np np, .int .i64 (np : Int), .int .i64 (np : Int), .bool (decide ((np : Int) < (np : Int))), u48, u49, u50, u51, u52, u53, .slice A1 l1.length c1, .int .i64 (l1.length : Int), .int .i64 (i : Int), .bool (decide ((i : Int) < (l1.length : Int))), uq70.2.2.2.1, uq70.2.2.2.2.1, uq70.2.2.2.2.2, uq71.1, uq71.2.1, uq71.2.2.1, uq71.2.2.2.1, uq71.2.2.2.2.1, uq71.2.2.2.2.2, uq72.1, uq72.2.1, uq72.2.2.1, uq72.2.2.2.1, uq72.2.2.2.2.1, uq72.2.2.2.2.2, uq73.1, uq73.2.1, uq73.2.2.1, uq73.2.2.2.1, uq73.2.2.2.2.1, uq73.2.2.2.2.2, uq74.1, uq74.2.1, uq74.2.2.1, uq74.2.2.2.1, uq74.2.2.2.2.1, uq74.2.2.2.2.2, uq75.1, uq75.2.1, uq75.2.2.1, uq75.2.2.2.1, uq75.2.2.2.2.1, uq75.2.2.2.2.2, uq76.1, uq76.2.1, uq76.2.2.1, uq76.2.2.2.1, uq76.2.2.2.2.1, uq76.2.2.2.2.2, uq77.1, uq77.2.1, uq77.2.2.1, uq77.2.2.2.1, uq77.2.2.2.2.1, uq77.2.2.2.2.2, uq78.1, uq78.2.1, uq78.2.2.1, uq78.2.2.2.1, uq78.2.2.2.2.1, uq78.2.2.2.2.2, uq79.1, uq79.2.1, uq79.2.2.1, uq79.2.2.2.1, uq79.2.2.2.2.1, uq79.2.2.2.2.2, uq80.1, uq80.2.1, uq80.2.2.1, uq80.2.2.2.1, uq80.2.2.2.2.1, uq80.2.2.2.2.2, uq81, .pointer (some ⟨D22, 0, none⟩), .slice A2 l2.length c2, .tuple [].toArray, .slice (some ⟨g31, 0, none⟩) np np, .int .i64 (np : Int), .int .i64 (jj : Int), .bool (decide ((jj : Int) < (np : Int))), .int .i64 (jj : Int), .pointer (some ⟨g31, jj * 1, none⟩), .slice (some ⟨gq, kq, none⟩) xq.length cq, .tuple [.agg ((nums .u8 (Sc.readP (jj : Int)))).toArray, .int .i64 (Sc.readE (jj : Int))].toArray, .pointer (some ⟨D22, 0, none⟩), .int .i64 (jj : Int), .tuple [.agg ((nums .u8 (Sc.readP (jj : Int)))).toArray, .int .i64 (Sc.readE (jj : Int))].toArray, .agg ((nums .u8 (Sc.readP (jj : Int)))).toArray, .int .i64 (Sc.readE (jj : Int)), .int .i64 (Sc.readE (jj : Int)), .bool false, .agg ((nums .u8 (Sc.readP (jj : Int)))).toArray, .int .i64 (k : Int), uq901494.2.2.2.2.2, uq901495.1, uq901495.2.1, uq901495.2.2.1, uq901495.2.2.2.1, uq901495.2.2.2.2.1, uq901495.2.2.2.2.2, uq901496.1, uq901496.2.1, uq901496.2.2.1, uq901496.2.2.2.1, uq901496.2.2.2.2.1, uq901496.2.2.2.2.2, uq901497.1, uq901497.2.1, uq901497.2.2.1, uq901497.2.2.2.1, uq901497.2.2.2.2.1, uq901497.2.2.2.2.2, uq901498.1, uq901498.2.1, uq901498.2.2.1, uq901498.2.2.2.1, uq901498.2.2.2.2.1, uq901498.2.2.2.2.2, uq901499.1, uq901499.2.1, uq901499.2.2, uq901458.2.2.2, u_, u_, u_, u_, u_, u_, u_, u_, u_] ∧ St w (fun _ => False) w_ ([blk g901480 ((nums .u8 (Sc.readP (jj : Int)))) 31, blk D22 (dskC gs23 gm24 v901441 Sc) 66, blk gs23 (pgs Sc.stable) 31, mapR gm24 Sc.cnt Sc.bad, row kWr rfl 71 v901441 Sc.pending, blk g31 ((mv np ro)) 36, allR (mr ro)]) ∧ (True)) (fun i_ => match i_ with | k => 256 - k) 0 ?_ ?_
                          · exact ⟨(uq901450.1, uq901450.2.2.2.2.2, uq901451.1, uq901451.2.1, uq901451.2.2.1, uq901453.2.2.2.2.2), (uq901454.1, uq901454.2.1, uq901454.2.2.1, uq901454.2.2.2.1, uq901454.2.2.2.2.1, uq901454.2.2.2.2.2), (uq901455.1, uq901455.2.1, uq901455.2.2.1, uq901455.2.2.2.1, uq901455.2.2.2.2.1, uq901455.2.2.2.2.2), (uq901456.1, uq901456.2.1, uq901456.2.2.1, uq901456.2.2.2.1, uq901456.2.2.2.2.1, uq901456.2.2.2.2.2), (uq901457.1, uq901457.2.1, uq901457.2.2.1, uq901457.2.2.2.1, uq901457.2.2.2.2.1, uq901457.2.2.2.2.2), (uq901458.1, uq901458.2.1, uq901458.2.2.1), rfl, (((((((HS.front 6 rfl).front 6 rfl).front 6 rfl).front 6 rfl).front 6 rfl).front 6 rfl).front 6 rfl), trivial⟩
                          · clear HS
                            rintro k a_ w901502 ⟨uq901494, uq901495, uq901496, uq901497, uq901498, uq901499, rfl, HS, hI⟩ J901500 hJ901501
                            refine wp_seq_k (fun K901503 hK901504 => ?_)
                            refine c_region (fun ops901506 hops901505 => ?_)
                            clear hops901505
                            refine p_run (l' := _) _ (x_cmp (k := .i64) (m := (k : Int)) (n := 256) .lss (decide ((k : Int) < 256)) rfl rfl rfl rfl rfl) rfl ?_
                            refine wpList_nil ?_
                            refine hK901504 _ _ ?_
                            refine wp_seq_k (fun K901507 hK901508 => ?_)
                            refine c_cond (t := decide ((k : Int) < 256)) rfl (fun hc901509 => ?_) (fun hc901509 => ?_)
                            · have hlk : k < 256 := by have := of_decide_eq_true hc901509; omega
                              have hsa := sect_at hrd.2 hlk
                              refine wp_skip ?_
                              refine hK901508 _ _ ?_
                              refine wp_seq_k (fun K901510 hK901511 => ?_)
                              refine wp_block ?_
                              refine wp_seq_k (fun K901512 hK901513 => ?_)
                              refine c_region (fun ops901515 hops901514 => ?_)
                              clear hops901514
                              refine p_run (l' := _) _ (x_move (.int .i64 (k : Int)) rfl rfl) rfl ?_
                              refine p_run (l' := _) _ (x_idx (xs := (Sc.readP (jj : Int))) (i := (k : Int)) k rfl rfl rfl Try.underlying31 (by kernel_rfl) (by rfl) (by first | rfl | omega) (by omega) (by simp [readP_len hgd901443.ok])) rfl ?_
                              refine p_run (l' := _) _ (x_assign (.int .i64 (k : Int)) rfl rfl) rfl ?_
                              refine p_run (l' := _) _ (x_assign (.int .u8 ((Sc.readP (jj : Int)).getD k 0)) rfl rfl) rfl ?_
                              refine wpList_nil ?_
                              refine hK901513 _ _ ?_
                              refine wp_seq_k (fun K901516 hK901517 => ?_)
                              refine c_region (fun ops901519 hops901518 => ?_)
                              clear hops901518
                              refine p_run (l' := _) _ (x_assign (.bool false) rfl rfl) rfl ?_
                              refine wpList_nil ?_
                              refine hK901517 _ _ ?_
                              refine wp_seq_k (fun K901520 hK901521 => ?_)
                              refine wp_seq_k (fun K901522 hK901523 => ?_)
                              refine c_region (fun ops901525 hops901524 => ?_)
                              clear hops901524
                              refine p_run (l' := _) _ (x_move (.slice (some ⟨gq, kq, none⟩) xq.length cq) rfl rfl) rfl ?_
                              refine p_run (l' := _) _ (x_len rfl rfl Try.underlying36) rfl ?_
                              refine p_run (l' := _) _ (x_move (.int .i64 0) rfl rfl) rfl ?_
                              refine wpList_nil ?_
                              refine fr_at (l' := [.int .i64 (np : Int), .slice A1 l1.length c1, .slice A2 l2.length c2, u_, u_, u_, uq901494.1, .pointer (some ⟨D22, 0, none⟩), .slice (some ⟨g31, 0, none⟩) np np, u9, u_, uq70.1, uq70.2.1, .int .i64 (jj : Int), .slice (some ⟨gq, kq, none⟩) xq.length cq, .pointer (some ⟨g901480, 0, none⟩), .int .i64 (Sc.readE (jj : Int)), .int .i64 (k : Int), .int .u8 ((Sc.readP (jj : Int)).getD k 0), .bool false, u_, uq901494.2.2.2.2.1, .bool true, .bool false, .int .i64 (np : Int), .bool false, .bool false, .int .i64 (np : Int), .bool false, .bool false, .bool false, .slice A1 l1.length c1, .int .i64 (l1.length : Int), .bool false, .bool false, .bool false, .slice A2 l2.length c2, .int .i64 (l2.length : Int), .bool false, .bool false, .int .i64 (np : Int), .pointer (some ⟨D22, 0, none⟩), .int .i64 (np : Int), .slice (some ⟨g31, 0, none⟩) np np, .slice (some ⟨g31, 0, none⟩) np np, .int .i64 (np : Int), .int .i64 (np : Int), .bool (decide ((np : Int) < (np : Int))), u48, u49, u50, u51, u52, u53, .slice A1 l1.length c1, .int .i64 (l1.length : Int), .int .i64 (i : Int), .bool (decide ((i : Int) < (l1.length : Int))), uq70.2.2.2.1, uq70.2.2.2.2.1, uq70.2.2.2.2.2, uq71.1, uq71.2.1, uq71.2.2.1, uq71.2.2.2.1, uq71.2.2.2.2.1, uq71.2.2.2.2.2, uq72.1, uq72.2.1, uq72.2.2.1, uq72.2.2.2.1, uq72.2.2.2.2.1, uq72.2.2.2.2.2, uq73.1, uq73.2.1, uq73.2.2.1, uq73.2.2.2.1, uq73.2.2.2.2.1, uq73.2.2.2.2.2, uq74.1, uq74.2.1, uq74.2.2.1, uq74.2.2.2.1, uq74.2.2.2.2.1, uq74.2.2.2.2.2, uq75.1, uq75.2.1, uq75.2.2.1, uq75.2.2.2.1, uq75.2.2.2.2.1, uq75.2.2.2.2.2, uq76.1, uq76.2.1, uq76.2.2.1, uq76.2.2.2.1, uq76.2.2.2.2.1, uq76.2.2.2.2.2, uq77.1, uq77.2.1, uq77.2.2.1, uq77.2.2.2.1, uq77.2.2.2.2.1, uq77.2.2.2.2.2, uq78.1, uq78.2.1, uq78.2.2.1, uq78.2.2.2.1, uq78.2.2.2.2.1, uq78.2.2.2.2.2, uq79.1, uq79.2.1, uq79.2.2.1, uq79.2.2.2.1, uq79.2.2.2.2.1, uq79.2.2.2.2.2, uq80.1, uq80.2.1, uq80.2.2.1, uq80.2.2.2.1, uq80.2.2.2.2.1, uq80.2.2.2.2.2, uq81, .pointer (some ⟨D22, 0, none⟩), .slice A2 l2.length c2, .tuple [].toArray, .slice (some ⟨g31, 0, none⟩) np np, .int .i64 (np : Int), .int .i64 (jj : Int), .bool (decide ((jj : Int) < (np : Int))), .int .i64 (jj : Int), .pointer (some ⟨g31, jj * 1, none⟩), .slice (some ⟨gq, kq, none⟩) xq.length cq, .tuple [.agg ((nums .u8 (Sc.readP (jj : Int)))).toArray, .int .i64 (Sc.readE (jj : Int))].toArray, .pointer (some ⟨D22, 0, none⟩), .int .i64 (jj : Int), .tuple [.agg ((nums .u8 (Sc.readP (jj : Int)))).toArray, .int .i64 (Sc.readE (jj : Int))].toArray, .agg ((nums .u8 (Sc.readP (jj : Int)))).toArray, .int .i64 (Sc.readE (jj : Int)), .int .i64 (Sc.readE (jj : Int)), .bool false, .agg ((nums .u8 (Sc.readP (jj : Int)))).toArray, .int .i64 (k : Int), .bool (decide ((k : Int) < 256)), .int .i64 (k : Int), .int .u8 ((Sc.readP (jj : Int)).getD k 0), .slice (some ⟨gq, kq, none⟩) xq.length cq, .int .i64 (xq.length : Int), .int .i64 0, uq901495.2.2.2.2.2, uq901496.1, uq901496.2.1, uq901496.2.2.1, uq901496.2.2.2.1, uq901496.2.2.2.2.1, uq901496.2.2.2.2.2, uq901497.1, uq901497.2.1, uq901497.2.2.1, uq901497.2.2.2.1, uq901497.2.2.2.2.1, uq901497.2.2.2.2.2, uq901498.1, uq901498.2.1, uq901498.2.2.1, uq901498.2.2.2.1, uq901498.2.2.2.2.1, uq901498.2.2.2.2.2, uq901499.1, uq901499.2.1, uq901499.2.2, uq901458.2.2.2, u_, u_, u_, u_, u_, u_, u_, u_, u_]) rfl ?_
                              refine hK901523 _ _ ?_
                              refine wp_block ?_
                              refine c_loop (ι := Nat × Bool) (fun i_ a_ w_ => match i_ with | (q, fb) => ∃ (u21 : Value) (u148 : Value) (u149 : Value) (u150 : Value) (u151 : Value) (u152 : Value) (u153 : Value) (u154 : Value) (u155 : Value) (u156 : Value) (u157 : Value), a_ = fr [.int .i64 (np : Int), .slice A1 l1.length c1, .slice A2 l2.length c2, u_, u_, u_, uq901494.1, .pointer (some ⟨D22, 0, none⟩), .slice (some ⟨g31, 0, none⟩) np np, u9, u_, uq70.1, uq70.2.1, .int .i64 (jj : Int), .slice (some ⟨gq, kq, none⟩) xq.length cq, .pointer (some ⟨g901480, 0, none⟩), .int .i64 (Sc.readE (jj : Int)), .int .i64 (k : Int), .int .u8 ((Sc.readP (jj : Int)).getD k 0), .bool fb, u_, u21, .bool true, .bool false, .int .i64 (np : Int), .bool false, .bool false, .int .i64 (np : Int), .bool false, .bool false, .bool false, .slice A1 l1.length c1, .int .i64 (l1.length : Int), .bool false, .bool false, .bool false, .slice A2 l2.length c2, .int .i64 (l2.length : Int), .bool false, .bool false, .int .i64 (np : Int), .pointer (some ⟨D22, 0, none⟩), .int .i64 (np : Int), .slice (some ⟨g31, 0, none⟩) np np, .slice (some ⟨g31, 0, none⟩) np np, .int .i64 (np : Int), .int .i64 (np : Int), .bool (decide ((np : Int) < (np : Int))), u48, u49, u50, u51, u52, u53, .slice A1 l1.length c1, .int .i64 (l1.length : Int), .int .i64 (i : Int), .bool (decide ((i : Int) < (l1.length : Int))), uq70.2.2.2.1, uq70.2.2.2.2.1, uq70.2.2.2.2.2, uq71.1, uq71.2.1, uq71.2.2.1, uq71.2.2.2.1, uq71.2.2.2.2.1, uq71.2.2.2.2.2, uq72.1, uq72.2.1, uq72.2.2.1, uq72.2.2.2.1, uq72.2.2.2.2.1, uq72.2.2.2.2.2, uq73.1, uq73.2.1, uq73.2.2.1, uq73.2.2.2.1, uq73.2.2.2.2.1, uq73.2.2.2.2.2, uq74.1, uq74.2.1, uq74.2.2.1, uq74.2.2.2.1, uq74.2.2.2.2.1, uq74.2.2.2.2.2, uq75.1, uq75.2.1, uq75.2.2.1, uq75.2.2.2.1, uq75.2.2.2.2.1, uq75.2.2.2.2.2, uq76.1, uq76.2.1, uq76.2.2.1, uq76.2.2.2.1, uq76.2.2.2.2.1, uq76.2.2.2.2.2, uq77.1, uq77.2.1, uq77.2.2.1, uq77.2.2.2.1, uq77.2.2.2.2.1, uq77.2.2.2.2.2, uq78.1, uq78.2.1, uq78.2.2.1, uq78.2.2.2.1, uq78.2.2.2.2.1, uq78.2.2.2.2.2, uq79.1, uq79.2.1, uq79.2.2.1, uq79.2.2.2.1, uq79.2.2.2.2.1, uq79.2.2.2.2.2, uq80.1, uq80.2.1, uq80.2.2.1, uq80.2.2.2.1, uq80.2.2.2.2.1, uq80.2.2.2.2.2, uq81, .pointer (some ⟨D22, 0, none⟩), .slice A2 l2.length c2, .tuple [].toArray, .slice (some ⟨g31, 0, none⟩) np np, .int .i64 (np : Int), .int .i64 (jj : Int), .bool (decide ((jj : Int) < (np : Int))), .int .i64 (jj : Int), .pointer (some ⟨g31, jj * 1, none⟩), .slice (some ⟨gq, kq, none⟩) xq.length cq, .tuple [.agg ((nums .u8 (Sc.readP (jj : Int)))).toArray, .int .i64 (Sc.readE (jj : Int))].toArray, .pointer (some ⟨D22, 0, none⟩), .int .i64 (jj : Int), .tuple [.agg ((nums .u8 (Sc.readP (jj : Int)))).toArray, .int .i64 (Sc.readE (jj : Int))].toArray, .agg ((nums .u8 (Sc.readP (jj : Int)))).toArray, .int .i64 (Sc.readE (jj : Int)), .int .i64 (Sc.readE (jj : Int)), .bool false, .agg ((nums .u8 (Sc.readP (jj : Int)))).toArray, .int .i64 (k : Int), .bool (decide ((k : Int) < 256)), .int .i64 (k : Int), .int .u8 ((Sc.readP (jj : Int)).getD k 0), .slice (some ⟨gq, kq, none⟩) xq.length cq, .int .i64 (xq.length : Int), .int .i64 (q : Int), u148, u149, u150, u151, u152, u153, u154, u155, u156, u157, uq901497.2.2.2.1, uq901497.2.2.2.2.1, uq901497.2.2.2.2.2, uq901498.1, uq901498.2.1, uq901498.2.2.1, uq901498.2.2.2.1, uq901498.2.2.2.2.1, uq901498.2.2.2.2.2, uq901499.1, uq901499.2.1, uq901499.2.2, uq901458.2.2.2, u_, u_, u_, u_, u_, u_, u_, u_, u_] ∧ St w (fun _ => False) w_ ([blk g901480 ((nums .u8 (Sc.readP (jj : Int)))) 31, blk D22 (dskC gs23 gm24 v901441 Sc) 66, blk gs23 (pgs Sc.stable) 31, mapR gm24 Sc.cnt Sc.bad, row kWr rfl 71 v901441 Sc.pending, blk g31 ((mv np ro)) 36, allR (mr ro)]) ∧ (fb = decide (((Sc.readP (jj : Int)).getD k 0) ∈ xq.take q) ∧ q ≤ xq.length)) (fun i_ => match i_ with | (q, fb) => xq.length - q) (0, false) ?_ ?_
                              · exact ⟨_, _, _, _, _, _, _, _, _, _, _, rfl, (((((((HS.front 6 rfl).front 6 rfl).front 6 rfl).front 6 rfl).front 6 rfl).front 6 rfl).front 6 rfl), ⟨by simp, Nat.zero_le _⟩⟩
                              · clear HS
                                rintro ⟨q, fb⟩ a_ w901528 ⟨u21, u148, u149, u150, u151, u152, u153, u154, u155, u156, u157, rfl, HS, hI⟩ J901526 hJ901527
                                obtain ⟨hfb, hql⟩ := hI
                                refine wp_seq_k (fun K901529 hK901530 => ?_)
                                refine c_region (fun ops901532 hops901531 => ?_)
                                clear hops901531
                                refine p_run (l' := _) _ (x_cmp (k := .i64) (m := (q : Int)) (n := (xq.length : Int)) .lss (decide ((q : Int) < (xq.length : Int))) rfl rfl rfl rfl rfl) rfl ?_
                                refine wpList_nil ?_
                                refine hK901530 _ _ ?_
                                refine wp_seq_k (fun K901533 hK901534 => ?_)
                                refine c_cond (t := decide ((q : Int) < (xq.length : Int))) rfl (fun hc901535 => ?_) (fun hc901535 => ?_)
                                · have hlq : q < xq.length := by have := of_decide_eq_true hc901535; omega
                                  obtain ⟨ad, had, hcell⟩ := keep_get (orow_C (HS.allGet (.tail _ (.tail _ (.tail _ (.tail _ (.tail _ (.tail _ (.head _))))))) (mr_get hr))).2 q hlq
                                  obtain rfl := Option.some.inj had
                                  refine wp_skip ?_
                                  refine hK901534 _ _ ?_
                                  refine wp_seq_k (fun K901536 hK901537 => ?_)
                                  refine wp_block ?_
                                  refine wp_seq_k (fun K901538 hK901539 => ?_)
                                  refine c_region (fun ops901541 hops901540 => ?_)
                                  clear hops901540
                                  refine p_run (l' := _) _ (x_index (A := ⟨gq, kq, none⟩) (j := q * 1) (sz := 1) rfl rfl rfl Try.underlying36 (by kernel_rfl) (by omega) rfl) rfl ?_
                                  refine p_run (l' := _) _ (x_load (.int .u8 (maskOf xq q)) rfl rfl hcell (by rfl)) rfl ?_
                                  refine p_run (l' := _) _ (x_assign (.int .u8 (maskOf xq q)) rfl rfl) rfl ?_
                                  refine wpList_nil ?_
                                  refine hK901539 _ _ ?_
                                  rcases fsp fb (maskOf xq q) ((Sc.readP (jj : Int)).getD k 0) with rfl | ⟨rfl, hfe⟩ | ⟨rfl, hfe⟩
                                  · skip
                                    refine c_region (fun ops901543 hops901542 => ?_)
                                    refine p_run (l' := _) _ (x_move (.bool true) rfl rfl) rfl ?_
                                    refine p_run (l' := _) _ (x_move (.bool true) rfl rfl) rfl ?_
                                    refine p_off (l' := _) (by rw [hops901542]; rfl) rfl ?_
                                    refine p_off (l' := _) (by rw [hops901542]; rfl) rfl ?_
                                    refine p_off (l' := _) (by rw [hops901542]; rfl) rfl ?_
                                    refine p_run (l' := [.int .i64 (np : Int), .slice A1 l1.length c1, .slice A2 l2.length c2, u_, u_, u_, uq901494.1, .pointer (some ⟨D22, 0, none⟩), .slice (some ⟨g31, 0, none⟩) np np, u9, u_, uq70.1, uq70.2.1, .int .i64 (jj : Int), .slice (some ⟨gq, kq, none⟩) xq.length cq, .pointer (some ⟨g901480, 0, none⟩), .int .i64 (Sc.readE (jj : Int)), .int .i64 (k : Int), .int .u8 ((Sc.readP (jj : Int)).getD k 0), .bool true, u_, .int .u8 (maskOf xq q), .bool true, .bool false, .int .i64 (np : Int), .bool false, .bool false, .int .i64 (np : Int), .bool false, .bool false, .bool false, .slice A1 l1.length c1, .int .i64 (l1.length : Int), .bool false, .bool false, .bool false, .slice A2 l2.length c2, .int .i64 (l2.length : Int), .bool false, .bool false, .int .i64 (np : Int), .pointer (some ⟨D22, 0, none⟩), .int .i64 (np : Int), .slice (some ⟨g31, 0, none⟩) np np, .slice (some ⟨g31, 0, none⟩) np np, .int .i64 (np : Int), .int .i64 (np : Int), .bool (decide ((np : Int) < (np : Int))), u48, u49, u50, u51, u52, u53, .slice A1 l1.length c1, .int .i64 (l1.length : Int), .int .i64 (i : Int), .bool (decide ((i : Int) < (l1.length : Int))), uq70.2.2.2.1, uq70.2.2.2.2.1, uq70.2.2.2.2.2, uq71.1, uq71.2.1, uq71.2.2.1, uq71.2.2.2.1, uq71.2.2.2.2.1, uq71.2.2.2.2.2, uq72.1, uq72.2.1, uq72.2.2.1, uq72.2.2.2.1, uq72.2.2.2.2.1, uq72.2.2.2.2.2, uq73.1, uq73.2.1, uq73.2.2.1, uq73.2.2.2.1, uq73.2.2.2.2.1, uq73.2.2.2.2.2, uq74.1, uq74.2.1, uq74.2.2.1, uq74.2.2.2.1, uq74.2.2.2.2.1, uq74.2.2.2.2.2, uq75.1, uq75.2.1, uq75.2.2.1, uq75.2.2.2.1, uq75.2.2.2.2.1, uq75.2.2.2.2.2, uq76.1, uq76.2.1, uq76.2.2.1, uq76.2.2.2.1, uq76.2.2.2.2.1, uq76.2.2.2.2.2, uq77.1, uq77.2.1, uq77.2.2.1, uq77.2.2.2.1, uq77.2.2.2.2.1, uq77.2.2.2.2.2, uq78.1, uq78.2.1, uq78.2.2.1, uq78.2.2.2.1, uq78.2.2.2.2.1, uq78.2.2.2.2.2, uq79.1, uq79.2.1, uq79.2.2.1, uq79.2.2.2.1, uq79.2.2.2.2.1, uq79.2.2.2.2.2, uq80.1, uq80.2.1, uq80.2.2.1, uq80.2.2.2.1, uq80.2.2.2.2.1, uq80.2.2.2.2.2, uq81, .pointer (some ⟨D22, 0, none⟩), .slice A2 l2.length c2, .tuple [].toArray, .slice (some ⟨g31, 0, none⟩) np np, .int .i64 (np : Int), .int .i64 (jj : Int), .bool (decide ((jj : Int) < (np : Int))), .int .i64 (jj : Int), .pointer (some ⟨g31, jj * 1, none⟩), .slice (some ⟨gq, kq, none⟩) xq.length cq, .tuple [.agg ((nums .u8 (Sc.readP (jj : Int)))).toArray, .int .i64 (Sc.readE (jj : Int))].toArray, .pointer (some ⟨D22, 0, none⟩), .int .i64 (jj : Int), .tuple [.agg ((nums .u8 (Sc.readP (jj : Int)))).toArray, .int .i64 (Sc.readE (jj : Int))].toArray, .agg ((nums .u8 (Sc.readP (jj : Int)))).toArray, .int .i64 (Sc.readE (jj : Int)), .int .i64 (Sc.readE (jj : Int)), .bool false, .agg ((nums .u8 (Sc.readP (jj : Int)))).toArray, .int .i64 (k : Int), .bool (decide ((k : Int) < 256)), .int .i64 (k : Int), .int .u8 ((Sc.readP (jj : Int)).getD k 0), .slice (some ⟨gq, kq, none⟩) xq.length cq, .int .i64 (xq.length : Int), .int .i64 (q : Int), .bool (decide ((q : Int) < (xq.length : Int))), .pointer (some (((⟨gq, kq, none⟩ : Addr)).add (q * 1))), .int .u8 (maskOf xq q), .bool true, .bool true, u_, u_, u_, .bool true, u157, uq901497.2.2.2.1, uq901497.2.2.2.2.1, uq901497.2.2.2.2.2, uq901498.1, uq901498.2.1, uq901498.2.2.1, uq901498.2.2.2.1, uq901498.2.2.2.2.1, uq901498.2.2.2.2.2, uq901499.1, uq901499.2.1, uq901499.2.2, uq901458.2.2.2, u_, u_, u_, u_, u_, u_, u_, u_, u_]) _ (x_pick true (.bool true) (u_) (.bool true) rfl rfl rfl rfl rfl) rfl ?_
                                    refine p_run (l' := _) _ (x_assign (.bool true) rfl rfl) rfl ?_
                                    clear hops901542
                                    refine wpList_nil ?_
                                    refine hK901537 _ _ ?_
                                    refine c_region (fun ops901545 hops901544 => ?_)
                                    clear hops901544
                                    refine p_run (l' := _) _ (x_arith (k := .i64) (m := (q : Int)) (n := 1) .add (((q + 1 : Nat) : Int)) rfl rfl rfl (show IntKind.i64.wrap ((q : Int) + 1) = ((q + 1 : Nat) : Int) from ((wr64 (by omega)).trans (by omega))) rfl) rfl ?_
                                    refine p_run (l' := _) _ (x_move (.int .i64 ((q + 1 : Nat) : Int)) rfl rfl) rfl ?_
                                    refine wpList_nil ?_
                                    refine fr_at (l' := [.int .i64 (np : Int), .slice A1 l1.length c1, .slice A2 l2.length c2, u_, u_, u_, uq901494.1, .pointer (some ⟨D22, 0, none⟩), .slice (some ⟨g31, 0, none⟩) np np, u9, u_, uq70.1, uq70.2.1, .int .i64 (jj : Int), .slice (some ⟨gq, kq, none⟩) xq.length cq, .pointer (some ⟨g901480, 0, none⟩), .int .i64 (Sc.readE (jj : Int)), .int .i64 (k : Int), .int .u8 ((Sc.readP (jj : Int)).getD k 0), .bool true, u_, .int .u8 (maskOf xq q), .bool true, .bool false, .int .i64 (np : Int), .bool false, .bool false, .int .i64 (np : Int), .bool false, .bool false, .bool false, .slice A1 l1.length c1, .int .i64 (l1.length : Int), .bool false, .bool false, .bool false, .slice A2 l2.length c2, .int .i64 (l2.length : Int), .bool false, .bool false, .int .i64 (np : Int), .pointer (some ⟨D22, 0, none⟩), .int .i64 (np : Int), .slice (some ⟨g31, 0, none⟩) np np, .slice (some ⟨g31, 0, none⟩) np np, .int .i64 (np : Int), .int .i64 (np : Int), .bool (decide ((np : Int) < (np : Int))), u48, u49, u50, u51, u52, u53, .slice A1 l1.length c1, .int .i64 (l1.length : Int), .int .i64 (i : Int), .bool (decide ((i : Int) < (l1.length : Int))), uq70.2.2.2.1, uq70.2.2.2.2.1, uq70.2.2.2.2.2, uq71.1, uq71.2.1, uq71.2.2.1, uq71.2.2.2.1, uq71.2.2.2.2.1, uq71.2.2.2.2.2, uq72.1, uq72.2.1, uq72.2.2.1, uq72.2.2.2.1, uq72.2.2.2.2.1, uq72.2.2.2.2.2, uq73.1, uq73.2.1, uq73.2.2.1, uq73.2.2.2.1, uq73.2.2.2.2.1, uq73.2.2.2.2.2, uq74.1, uq74.2.1, uq74.2.2.1, uq74.2.2.2.1, uq74.2.2.2.2.1, uq74.2.2.2.2.2, uq75.1, uq75.2.1, uq75.2.2.1, uq75.2.2.2.1, uq75.2.2.2.2.1, uq75.2.2.2.2.2, uq76.1, uq76.2.1, uq76.2.2.1, uq76.2.2.2.1, uq76.2.2.2.2.1, uq76.2.2.2.2.2, uq77.1, uq77.2.1, uq77.2.2.1, uq77.2.2.2.1, uq77.2.2.2.2.1, uq77.2.2.2.2.2, uq78.1, uq78.2.1, uq78.2.2.1, uq78.2.2.2.1, uq78.2.2.2.2.1, uq78.2.2.2.2.2, uq79.1, uq79.2.1, uq79.2.2.1, uq79.2.2.2.1, uq79.2.2.2.2.1, uq79.2.2.2.2.2, uq80.1, uq80.2.1, uq80.2.2.1, uq80.2.2.2.1, uq80.2.2.2.2.1, uq80.2.2.2.2.2, uq81, .pointer (some ⟨D22, 0, none⟩), .slice A2 l2.length c2, .tuple [].toArray, .slice (some ⟨g31, 0, none⟩) np np, .int .i64 (np : Int), .int .i64 (jj : Int), .bool (decide ((jj : Int) < (np : Int))), .int .i64 (jj : Int), .pointer (some ⟨g31, jj * 1, none⟩), .slice (some ⟨gq, kq, none⟩) xq.length cq, .tuple [.agg ((nums .u8 (Sc.readP (jj : Int)))).toArray, .int .i64 (Sc.readE (jj : Int))].toArray, .pointer (some ⟨D22, 0, none⟩), .int .i64 (jj : Int), .tuple [.agg ((nums .u8 (Sc.readP (jj : Int)))).toArray, .int .i64 (Sc.readE (jj : Int))].toArray, .agg ((nums .u8 (Sc.readP (jj : Int)))).toArray, .int .i64 (Sc.readE (jj : Int)), .int .i64 (Sc.readE (jj : Int)), .bool false, .agg ((nums .u8 (Sc.readP (jj : Int)))).toArray, .int .i64 (k : Int), .bool (decide ((k : Int) < 256)), .int .i64 (k : Int), .int .u8 ((Sc.readP (jj : Int)).getD k 0), .slice (some ⟨gq, kq, none⟩) xq.length cq, .int .i64 (xq.length : Int), .int .i64 ((q + 1 : Nat) : Int), .bool (decide ((q : Int) < (xq.length : Int))), .pointer (some (((⟨gq, kq, none⟩ : Addr)).add (q * 1))), .int .u8 (maskOf xq q), .bool true, .bool true, u_, u_, u_, .bool true, .int .i64 ((q + 1 : Nat) : Int), uq901497.2.2.2.1, uq901497.2.2.2.2.1, uq901497.2.2.2.2.2, uq901498.1, uq901498.2.1, uq901498.2.2.1, uq901498.2.2.2.1, uq901498.2.2.2.2.1, uq901498.2.2.2.2.2, uq901499.1, uq901499.2.1, uq901499.2.2, uq901458.2.2.2, u_, u_, u_, u_, u_, u_, u_, u_, u_]) rfl ?_
                                    refine hJ901527 (q + 1, true) _ _ ?_ ?_
                                    · show xq.length - (q + 1) < xq.length - q; omega
                                    · exact ⟨_, _, _, _, _, _, _, _, _, _, _, rfl, (((((((HS.front 6 rfl).front 6 rfl).front 6 rfl).front 6 rfl).front 6 rfl).front 6 rfl).front 6 rfl), ⟨(decide_eq_true ((take_mem hlq).2 (.inl (of_decide_eq_true hfb.symm)))).symm, by omega⟩⟩
                                  · skip
                                    refine c_region (fun ops901547 hops901546 => ?_)
                                    refine p_run (l' := _) _ (x_move (.bool false) rfl rfl) rfl ?_
                                    refine p_run (l' := _) _ (x_move (.bool false) rfl rfl) rfl ?_
                                    refine p_on rfl (by rw [hops901546]; rfl) ?_
                                    refine p_run (l' := _) _ (x_move (.int .u8 (maskOf xq q)) rfl rfl) rfl ?_
                                    refine p_on rfl (by rw [hops901546]; rfl) ?_
                                    refine p_run (l' := _) _ (x_move (.int .u8 ((Sc.readP (jj : Int)).getD k 0)) rfl rfl) rfl ?_
                                    refine p_on rfl (by rw [hops901546]; rfl) ?_
                                    refine p_run (l' := _) _ (x_cmp (k := .u8) (m := (maskOf xq q)) (n := ((Sc.readP (jj : Int)).getD k 0)) .eql true rfl rfl rfl (by unfold cmpB; rw [hfe]; simp) rfl) rfl ?_
                                    refine p_run (l' := _) _ (x_pick false (.bool true) (.bool true) (.bool true) rfl rfl rfl rfl rfl) rfl ?_
                                    refine p_run (l' := _) _ (x_assign (.bool true) rfl rfl) rfl ?_
                                    clear hops901546
                                    refine wpList_nil ?_
                                    refine hK901537 _ _ ?_
                                    refine c_region (fun ops901549 hops901548 => ?_)
                                    clear hops901548
                                    refine p_run (l' := _) _ (x_arith (k := .i64) (m := (q : Int)) (n := 1) .add (((q + 1 : Nat) : Int)) rfl rfl rfl (show IntKind.i64.wrap ((q : Int) + 1) = ((q + 1 : Nat) : Int) from ((wr64 (by omega)).trans (by omega))) rfl) rfl ?_
                                    refine p_run (l' := _) _ (x_move (.int .i64 ((q + 1 : Nat) : Int)) rfl rfl) rfl ?_
                                    refine wpList_nil ?_
                                    refine fr_at (l' := [.int .i64 (np : Int), .slice A1 l1.length c1, .slice A2 l2.length c2, u_, u_, u_, uq901494.1, .pointer (some ⟨D22, 0, none⟩), .slice (some ⟨g31, 0, none⟩) np np, u9, u_, uq70.1, uq70.2.1, .int .i64 (jj : Int), .slice (some ⟨gq, kq, none⟩) xq.length cq, .pointer (some ⟨g901480, 0, none⟩), .int .i64 (Sc.readE (jj : Int)), .int .i64 (k : Int), .int .u8 ((Sc.readP (jj : Int)).getD k 0), .bool true, u_, .int .u8 (maskOf xq q), .bool true, .bool false, .int .i64 (np : Int), .bool false, .bool false, .int .i64 (np : Int), .bool false, .bool false, .bool false, .slice A1 l1.length c1, .int .i64 (l1.length : Int), .bool false, .bool false, .bool false, .slice A2 l2.length c2, .int .i64 (l2.length : Int), .bool false, .bool false, .int .i64 (np : Int), .pointer (some ⟨D22, 0, none⟩), .int .i64 (np : Int), .slice (some ⟨g31, 0, none⟩) np np, .slice (some ⟨g31, 0, none⟩) np np, .int .i64 (np : Int), .int .i64 (np : Int), .bool (decide ((np : Int) < (np : Int))), u48, u49, u50, u51, u52, u53, .slice A1 l1.length c1, .int .i64 (l1.length : Int), .int .i64 (i : Int), .bool (decide ((i : Int) < (l1.length : Int))), uq70.2.2.2.1, uq70.2.2.2.2.1, uq70.2.2.2.2.2, uq71.1, uq71.2.1, uq71.2.2.1, uq71.2.2.2.1, uq71.2.2.2.2.1, uq71.2.2.2.2.2, uq72.1, uq72.2.1, uq72.2.2.1, uq72.2.2.2.1, uq72.2.2.2.2.1, uq72.2.2.2.2.2, uq73.1, uq73.2.1, uq73.2.2.1, uq73.2.2.2.1, uq73.2.2.2.2.1, uq73.2.2.2.2.2, uq74.1, uq74.2.1, uq74.2.2.1, uq74.2.2.2.1, uq74.2.2.2.2.1, uq74.2.2.2.2.2, uq75.1, uq75.2.1, uq75.2.2.1, uq75.2.2.2.1, uq75.2.2.2.2.1, uq75.2.2.2.2.2, uq76.1, uq76.2.1, uq76.2.2.1, uq76.2.2.2.1, uq76.2.2.2.2.1, uq76.2.2.2.2.2, uq77.1, uq77.2.1, uq77.2.2.1, uq77.2.2.2.1, uq77.2.2.2.2.1, uq77.2.2.2.2.2, uq78.1, uq78.2.1, uq78.2.2.1, uq78.2.2.2.1, uq78.2.2.2.2.1, uq78.2.2.2.2.2, uq79.1, uq79.2.1, uq79.2.2.1, uq79.2.2.2.1, uq79.2.2.2.2.1, uq79.2.2.2.2.2, uq80.1, uq80.2.1, uq80.2.2.1, uq80.2.2.2.1, uq80.2.2.2.2.1, uq80.2.2.2.2.2, uq81, .pointer (some ⟨D22, 0, none⟩), .slice A2 l2.length c2, .tuple [].toArray, .slice (some ⟨g31, 0, none⟩) np np, .int .i64 (np : Int), .int .i64 (jj : Int), .bool (decide ((jj : Int) < (np : Int))), .int .i64 (jj : Int), .pointer (some ⟨g31, jj * 1, none⟩), .slice (some ⟨gq, kq, none⟩) xq.length cq, .tuple [.agg ((nums .u8 (Sc.readP (jj : Int)))).toArray, .int .i64 (Sc.readE (jj : Int))].toArray, .pointer (some ⟨D22, 0, none⟩), .int .i64 (jj : Int), .tuple [.agg ((nums .u8 (Sc.readP (jj : Int)))).toArray, .int .i64 (Sc.readE (jj : Int))].toArray, .agg ((nums .u8 (Sc.readP (jj : Int)))).toArray, .int .i64 (Sc.readE (jj : Int)), .int .i64 (Sc.readE (jj : Int)), .bool false, .agg ((nums .u8 (Sc.readP (jj : Int)))).toArray, .int .i64 (k : Int), .bool (decide ((k : Int) < 256)), .int .i64 (k : Int), .int .u8 ((Sc.readP (jj : Int)).getD k 0), .slice (some ⟨gq, kq, none⟩) xq.length cq, .int .i64 (xq.length : Int), .int .i64 ((q + 1 : Nat) : Int), .bool (decide ((q : Int) < (xq.length : Int))), .pointer (some (((⟨gq, kq, none⟩ : Addr)).add (q * 1))), .int .u8 (maskOf xq q), .bool false, .bool false, .int .u8 (maskOf xq q), .int .u8 ((Sc.readP (jj : Int)).getD k 0), .bool true, .bool true, .int .i64 ((q + 1 : Nat) : Int), uq901497.2.2.2.1, uq901497.2.2.2.2.1, uq901497.2.2.2.2.2, uq901498.1, uq901498.2.1, uq901498.2.2.1, uq901498.2.2.2.1, uq901498.2.2.2.2.1, uq901498.2.2.2.2.2, uq901499.1, uq901499.2.1, uq901499.2.2, uq901458.2.2.2, u_, u_, u_, u_, u_, u_, u_, u_, u_]) rfl ?_
                                    refine hJ901527 (q + 1, true) _ _ ?_ ?_
                                    · show xq.length - (q + 1) < xq.length - q; omega
                                    · exact ⟨_, _, _, _, _, _, _, _, _, _, _, rfl, (((((((HS.front 6 rfl).front 6 rfl).front 6 rfl).front 6 rfl).front 6 rfl).front 6 rfl).front 6 rfl), ⟨(decide_eq_true ((take_mem hlq).2 (.inr hfe))).symm, by omega⟩⟩
                                  · skip
                                    refine c_region (fun ops901551 hops901550 => ?_)
                                    refine p_run (l' := _) _ (x_move (.bool false) rfl rfl) rfl ?_
                                    refine p_run (l' := _) _ (x_move (.bool false) rfl rfl) rfl ?_
                                    refine p_on rfl (by rw [hops901550]; rfl) ?_
                                    refine p_run (l' := _) _ (x_move (.int .u8 (maskOf xq q)) rfl rfl) rfl ?_
                                    refine p_on rfl (by rw [hops901550]; rfl) ?_
                                    refine p_run (l' := _) _ (x_move (.int .u8 ((Sc.readP (jj : Int)).getD k 0)) rfl rfl) rfl ?_
                                    refine p_on rfl (by rw [hops901550]; rfl) ?_
                                    refine p_run (l' := _) _ (x_cmp (k := .u8) (m := (maskOf xq q)) (n := ((Sc.readP (jj : Int)).getD k 0)) .eql false rfl rfl rfl (by unfold cmpB; simpa using hfe) rfl) rfl ?_
                                    refine p_run (l' := _) _ (x_pick false (.bool true) (.bool false) (.bool false) rfl rfl rfl rfl rfl) rfl ?_
                                    refine p_run (l' := _) _ (x_assign (.bool false) rfl rfl) rfl ?_
                                    clear hops901550
                                    refine wpList_nil ?_
                                    refine hK901537 _ _ ?_
                                    refine c_region (fun ops901553 hops901552 => ?_)
                                    clear hops901552
                                    refine p_run (l' := _) _ (x_arith (k := .i64) (m := (q : Int)) (n := 1) .add (((q + 1 : Nat) : Int)) rfl rfl rfl (show IntKind.i64.wrap ((q : Int) + 1) = ((q + 1 : Nat) : Int) from ((wr64 (by omega)).trans (by omega))) rfl) rfl ?_
                                    refine p_run (l' := _) _ (x_move (.int .i64 ((q + 1 : Nat) : Int)) rfl rfl) rfl ?_
                                    refine wpList_nil ?_
                                    refine fr_at (l' := [.int .i64 (np : Int), .slice A1 l1.length c1, .slice A2 l2.length c2, u_, u_, u_, uq901494.1, .pointer (some ⟨D22, 0, none⟩), .slice (some ⟨g31, 0, none⟩) np np, u9, u_, uq70.1, uq70.2.1, .int .i64 (jj : Int), .slice (some ⟨gq, kq, none⟩) xq.length cq, .pointer (some ⟨g901480, 0, none⟩), .int .i64 (Sc.readE (jj : Int)), .int .i64 (k : Int), .int .u8 ((Sc.readP (jj : Int)).getD k 0), .bool false, u_, .int .u8 (maskOf xq q), .bool true, .bool false, .int .i64 (np : Int), .bool false, .bool false, .int .i64 (np : Int), .bool false, .bool false, .bool false, .slice A1 l1.length c1, .int .i64 (l1.length : Int), .bool false, .bool false, .bool false, .slice A2 l2.length c2, .int .i64 (l2.length : Int), .bool false, .bool false, .int .i64 (np : Int), .pointer (some ⟨D22, 0, none⟩), .int .i64 (np : Int), .slice (some ⟨g31, 0, none⟩) np np, .slice (some ⟨g31, 0, none⟩) np np, .int .i64 (np : Int), .int .i64 (np : Int), .bool (decide ((np : Int) < (np : Int))), u48, u49, u50, u51, u52, u53, .slice A1 l1.length c1, .int .i64 (l1.length : Int), .int .i64 (i : Int), .bool (decide ((i : Int) < (l1.length : Int))), uq70.2.2.2.1, uq70.2.2.2.2.1, uq70.2.2.2.2.2, uq71.1, uq71.2.1, uq71.2.2.1, uq71.2.2.2.1, uq71.2.2.2.2.1, uq71.2.2.2.2.2, uq72.1, uq72.2.1, uq72.2.2.1, uq72.2.2.2.1, uq72.2.2.2.2.1, uq72.2.2.2.2.2, uq73.1, uq73.2.1, uq73.2.2.1, uq73.2.2.2.1, uq73.2.2.2.2.1, uq73.2.2.2.2.2, uq74.1, uq74.2.1, uq74.2.2.1, uq74.2.2.2.1, uq74.2.2.2.2.1, uq74.2.2.2.2.2, uq75.1, uq75.2.1, uq75.2.2.1, uq75.2.2.2.1, uq75.2.2.2.2.1, uq75.2.2.2.2.2, uq76.1, uq76.2.1, uq76.2.2.1, uq76.2.2.2.1, uq76.2.2.2.2.1, uq76.2.2.2.2.2, uq77.1, uq77.2.1, uq77.2.2.1, uq77.2.2.2.1, uq77.2.2.2.2.1, uq77.2.2.2.2.2, uq78.1, uq78.2.1, uq78.2.2.1, uq78.2.2.2.1, uq78.2.2.2.2.1, uq78.2.2.2.2.2, uq79.1, uq79.2.1, uq79.2.2.1, uq79.2.2.2.1, uq79.2.2.2.2.1, uq79.2.2.2.2.2, uq80.1, uq80.2.1, uq80.2.2.1, uq80.2.2.2.1, uq80.2.2.2.2.1, uq80.2.2.2.2.2, uq81, .pointer (some ⟨D22, 0, none⟩), .slice A2 l2.length c2, .tuple [].toArray, .slice (some ⟨g31, 0, none⟩) np np, .int .i64 (np : Int), .int .i64 (jj : Int), .bool (decide ((jj : Int) < (np : Int))), .int .i64 (jj : Int), .pointer (some ⟨g31, jj * 1, none⟩), .slice (some ⟨gq, kq, none⟩) xq.length cq, .tuple [.agg ((nums .u8 (Sc.readP (jj : Int)))).toArray, .int .i64 (Sc.readE (jj : Int))].toArray, .pointer (some ⟨D22, 0, none⟩), .int .i64 (jj : Int), .tuple [.agg ((nums .u8 (Sc.readP (jj : Int)))).toArray, .int .i64 (Sc.readE (jj : Int))].toArray, .agg ((nums .u8 (Sc.readP (jj : Int)))).toArray, .int .i64 (Sc.readE (jj : Int)), .int .i64 (Sc.readE (jj : Int)), .bool false, .agg ((nums .u8 (Sc.readP (jj : Int)))).toArray, .int .i64 (k : Int), .bool (decide ((k : Int) < 256)), .int .i64 (k : Int), .int .u8 ((Sc.readP (jj : Int)).getD k 0), .slice (some ⟨gq, kq, none⟩) xq.length cq, .int .i64 (xq.length : Int), .int .i64 ((q + 1 : Nat) : Int), .bool (decide ((q : Int) < (xq.length : Int))), .pointer (some (((⟨gq, kq, none⟩ : Addr)).add (q * 1))), .int .u8 (maskOf xq q), .bool false, .bool false, .int .u8 (maskOf xq q), .int .u8 ((Sc.readP (jj : Int)).getD k 0), .bool false, .bool false, .int .i64 ((q + 1 : Nat) : Int), uq901497.2.2.2.1, uq901497.2.2.2.2.1, uq901497.2.2.2.2.2, uq901498.1, uq901498.2.1, uq901498.2.2.1, uq901498.2.2.2.1, uq901498.2.2.2.2.1, uq901498.2.2.2.2.2, uq901499.1, uq901499.2.1, uq901499.2.2, uq901458.2.2.2, u_, u_, u_, u_, u_, u_, u_, u_, u_]) rfl ?_
                                    refine hJ901527 (q + 1, false) _ _ ?_ ?_
                                    · show xq.length - (q + 1) < xq.length - q; omega
                                    · exact ⟨_, _, _, _, _, _, _, _, _, _, _, rfl, (((((((HS.front 6 rfl).front 6 rfl).front 6 rfl).front 6 rfl).front 6 rfl).front 6 rfl).front 6 rfl), ⟨(decide_eq_false (fun h => ((take_mem hlq).1 h).elim (of_decide_eq_false hfb.symm) hfe)).symm, by omega⟩⟩
                                · obtain rfl : q = xq.length := by have := of_decide_eq_false hc901535; omega
                                  rw [List.take_length, decide_eq_true hsa.1] at hfb
                                  subst hfb
                                  refine wp_exit ?_
                                  refine hK901521 _ _ ?_
                                  refine wp_seq_k (fun K901554 hK901555 => ?_)
                                  refine c_region (fun ops901557 hops901556 => ?_)
                                  refine p_run (l' := _) _ (x_move (.bool true) rfl rfl) rfl ?_
                                  refine p_run (l' := _) _ (x_not true rfl rfl) rfl ?_
                                  refine p_run (l' := _) _ (x_move (.bool false) rfl rfl) rfl ?_
                                  refine p_on rfl (by rw [hops901556]; rfl) ?_
                                  refine p_run (l' := _) _ (x_move (.int .u8 ((Sc.readP (jj : Int)).getD k 0)) rfl rfl) rfl ?_
                                  refine p_on rfl (by rw [hops901556]; rfl) ?_
                                  refine p_run (l' := _) _ (x_move (.int .i64 (k : Int)) rfl rfl) rfl ?_
                                  refine p_on rfl (by rw [hops901556]; rfl) ?_
                                  refine p_run (l' := _) _ (x_quo (k := .i64) (m := (k : Int)) (n := 32) (((k / 32 : Nat) : Int)) rfl rfl rfl (by decide) ((wr64 (by rw [show (k : Int).tdiv 32 = ((k / 32 : Nat) : Int) from by rw [Int.tdiv_eq_ediv_of_nonneg (by omega)]; omega]; omega)).trans (by rw [Int.tdiv_eq_ediv_of_nonneg (by omega)]; omega))) rfl ?_
                                  refine p_on rfl (by rw [hops901556]; rfl) ?_
                                  refine p_run (l' := _) _ (x_arith (k := .i64) (m := ((k / 32 : Nat) : Int)) (n := 32) .mul (((k / 32 * 32 : Nat) : Int)) rfl rfl rfl (show IntKind.i64.wrap (((k / 32 : Nat) : Int) * 32) = ((k / 32 * 32 : Nat) : Int) from ((wr64 (by omega)).trans (by omega))) rfl) rfl ?_
                                  refine p_on rfl (by rw [hops901556]; rfl) ?_
                                  refine p_run (l' := _) _ (x_indexArr (sz := 1) (j := (k / 32 * 32 : Nat)) rfl rfl rfl Try.underlying31 (by kernel_rfl) (by omega) (by first | rfl | (simp; done) | (simp <;> omega) | omega)) rfl ?_
                                  refine p_on rfl (by rw [hops901556]; rfl) ?_
                                  refine p_run (l' := _) _ (x_load (.int .u8 ((Sc.readP (jj : Int)).getD (k / 32 * 32 : Nat) 0)) rfl rfl (bkCell (HS.get (.head _)) (k / 32 * 32 : Nat) _ (nums_getD (by simp only [readP_len hgd901443.ok]; omega))) (by rfl)) rfl ?_
                                  refine p_on rfl (by rw [hops901556]; rfl) ?_
                                  refine p_run (l' := [.int .i64 (np : Int), .slice A1 l1.length c1, .slice A2 l2.length c2, u_, u_, u_, uq901494.1, .pointer (some ⟨D22, 0, none⟩), .slice (some ⟨g31, 0, none⟩) np np, u9, u_, uq70.1, uq70.2.1, .int .i64 (jj : Int), .slice (some ⟨gq, kq, none⟩) xq.length cq, .pointer (some ⟨g901480, 0, none⟩), .int .i64 (Sc.readE (jj : Int)), .int .i64 (k : Int), .int .u8 ((Sc.readP (jj : Int)).getD k 0), .bool true, u_, u21, .bool true, .bool false, .int .i64 (np : Int), .bool false, .bool false, .int .i64 (np : Int), .bool false, .bool false, .bool false, .slice A1 l1.length c1, .int .i64 (l1.length : Int), .bool false, .bool false, .bool false, .slice A2 l2.length c2, .int .i64 (l2.length : Int), .bool false, .bool false, .int .i64 (np : Int), .pointer (some ⟨D22, 0, none⟩), .int .i64 (np : Int), .slice (some ⟨g31, 0, none⟩) np np, .slice (some ⟨g31, 0, none⟩) np np, .int .i64 (np : Int), .int .i64 (np : Int), .bool (decide ((np : Int) < (np : Int))), u48, u49, u50, u51, u52, u53, .slice A1 l1.length c1, .int .i64 (l1.length : Int), .int .i64 (i : Int), .bool (decide ((i : Int) < (l1.length : Int))), uq70.2.2.2.1, uq70.2.2.2.2.1, uq70.2.2.2.2.2, uq71.1, uq71.2.1, uq71.2.2.1, uq71.2.2.2.1, uq71.2.2.2.2.1, uq71.2.2.2.2.2, uq72.1, uq72.2.1, uq72.2.2.1, uq72.2.2.2.1, uq72.2.2.2.2.1, uq72.2.2.2.2.2, uq73.1, uq73.2.1, uq73.2.2.1, uq73.2.2.2.1, uq73.2.2.2.2.1, uq73.2.2.2.2.2, uq74.1, uq74.2.1, uq74.2.2.1, uq74.2.2.2.1, uq74.2.2.2.2.1, uq74.2.2.2.2.2, uq75.1, uq75.2.1, uq75.2.2.1, uq75.2.2.2.1, uq75.2.2.2.2.1, uq75.2.2.2.2.2, uq76.1, uq76.2.1, uq76.2.2.1, uq76.2.2.2.1, uq76.2.2.2.2.1, uq76.2.2.2.2.2, uq77.1, uq77.2.1, uq77.2.2.1, uq77.2.2.2.1, uq77.2.2.2.2.1, uq77.2.2.2.2.2, uq78.1, uq78.2.1, uq78.2.2.1, uq78.2.2.2.1, uq78.2.2.2.2.1, uq78.2.2.2.2.2, uq79.1, uq79.2.1, uq79.2.2.1, uq79.2.2.2.1, uq79.2.2.2.2.1, uq79.2.2.2.2.2, uq80.1, uq80.2.1, uq80.2.2.1, uq80.2.2.2.1, uq80.2.2.2.2.1, uq80.2.2.2.2.2, uq81, .pointer (some ⟨D22, 0, none⟩), .slice A2 l2.length c2, .tuple [].toArray, .slice (some ⟨g31, 0, none⟩) np np, .int .i64 (np : Int), .int .i64 (jj : Int), .bool (decide ((jj : Int) < (np : Int))), .int .i64 (jj : Int), .pointer (some ⟨g31, jj * 1, none⟩), .slice (some ⟨gq, kq, none⟩) xq.length cq, .tuple [.agg ((nums .u8 (Sc.readP (jj : Int)))).toArray, .int .i64 (Sc.readE (jj : Int))].toArray, .pointer (some ⟨D22, 0, none⟩), .int .i64 (jj : Int), .tuple [.agg ((nums .u8 (Sc.readP (jj : Int)))).toArray, .int .i64 (Sc.readE (jj : Int))].toArray, .agg ((nums .u8 (Sc.readP (jj : Int)))).toArray, .int .i64 (Sc.readE (jj : Int)), .int .i64 (Sc.readE (jj : Int)), .bool false, .agg ((nums .u8 (Sc.readP (jj : Int)))).toArray, .int .i64 (k : Int), .bool (decide ((k : Int) < 256)), .int .i64 (k : Int), .int .u8 ((Sc.readP (jj : Int)).getD k 0), .slice (some ⟨gq, kq, none⟩) xq.length cq, .int .i64 (xq.length : Int), .int .i64 (xq.length : Int), .bool (decide ((xq.length : Int) < (xq.length : Int))), u149, u150, u151, u152, u153, u154, u155, u156, u157, .bool true, .bool false, .bool false, .int .u8 ((Sc.readP (jj : Int)).getD k 0), .int .i64 (k : Int), .int .i64 ((k / 32 : Nat) : Int), .int .i64 ((k / 32 * 32 : Nat) : Int), .pointer (some ⟨g901480, (k / 32 * 32 : Nat), none⟩), .int .u8 ((Sc.readP (jj : Int)).getD (k / 32 * 32 : Nat) 0), .bool false, uq901499.2.1, uq901499.2.2, uq901458.2.2.2, u_, u_, u_, u_, u_, u_, u_, u_, u_]) _ (x_cmp (k := .u8) (m := ((Sc.readP (jj : Int)).getD k 0)) (n := ((Sc.readP (jj : Int)).getD (k / 32 * 32 : Nat) 0)) .neq false rfl rfl rfl (by unfold cmpB; rw [hsa.2]; simp) rfl) rfl ?_
                                  refine p_run (l' := _) _ (x_pick false (.bool true) (.bool false) (.bool false) rfl rfl rfl rfl rfl) rfl ?_
                                  clear hops901556
                                  refine wpList_nil ?_
                                  refine hK901555 _ _ ?_
                                  refine c_false rfl ?_
                                  refine wp_skip ?_
                                  refine hK901511 _ _ ?_
                                  refine c_region (fun ops901559 hops901558 => ?_)
                                  clear hops901558
                                  refine p_run (l' := _) _ (x_arith (k := .i64) (m := (k : Int)) (n := 1) .add (((k + 1 : Nat) : Int)) rfl rfl rfl (show IntKind.i64.wrap ((k : Int) + 1) = ((k + 1 : Nat) : Int) from ((wr64 (by omega)).trans (by omega))) rfl) rfl ?_
                                  refine p_run (l' := _) _ (x_move (.int .i64 ((k + 1 : Nat) : Int)) rfl rfl) rfl ?_
                                  refine wpList_nil ?_
                                  refine fr_at (l' := [.int .i64 (np : Int), .slice A1 l1.length c1, .slice A2 l2.length c2, u_, u_, u_, uq901494.1, .pointer (some ⟨D22, 0, none⟩), .slice (some ⟨g31, 0, none⟩) np np, u9, u_, uq70.1, uq70.2.1, .int .i64 (jj : Int), .slice (some ⟨gq, kq, none⟩) xq.length cq, .pointer (some ⟨g901480, 0, none⟩), .int .i64 (Sc.readE (jj : Int)), .int .i64 (k : Int), .int .u8 ((Sc.readP (jj : Int)).getD k 0), .bool true, u_, u21, .bool true, .bool false, .int .i64 (np : Int), .bool false, .bool false, .int .i64 (np : Int), .bool false, .bool false, .bool false, .slice A1 l1.length c1, .int .i64 (l1.length : Int), .bool false, .bool false, .bool false, .slice A2 l2.length c2, .int .i64 (l2.length : Int), .bool false, .bool false, .int .i64 (np : Int), .pointer (some ⟨D22, 0, none⟩), .int .i64 (np : Int), .slice (some ⟨g31, 0, none⟩) np np, .slice (some ⟨g31, 0, none⟩) np np, .int .i64 (np : Int), .int .i64 (np : Int), .bool (decide ((np : Int) < (np : Int))), u48, u49, u50, u51, u52, u53, .slice A1 l1.length c1, .int .i64 (l1.length : Int), .int .i64 (i : Int), .bool (decide ((i : Int) < (l1.length : Int))), uq70.2.2.2.1, uq70.2.2.2.2.1, uq70.2.2.2.2.2, uq71.1, uq71.2.1, uq71.2.2.1, uq71.2.2.2.1, uq71.2.2.2.2.1, uq71.2.2.2.2.2, uq72.1, uq72.2.1, uq72.2.2.1, uq72.2.2.2.1, uq72.2.2.2.2.1, uq72.2.2.2.2.2, uq73.1, uq73.2.1, uq73.2.2.1, uq73.2.2.2.1, uq73.2.2.2.2.1, uq73.2.2.2.2.2, uq74.1, uq74.2.1, uq74.2.2.1, uq74.2.2.2.1, uq74.2.2.2.2.1, uq74.2.2.2.2.2, uq75.1, uq75.2.1, uq75.2.2.1, uq75.2.2.2.1, uq75.2.2.2.2.1, uq75.2.2.2.2.2, uq76.1, uq76.2.1, uq76.2.2.1, uq76.2.2.2.1, uq76.2.2.2.2.1, uq76.2.2.2.2.2, uq77.1, uq77.2.1, uq77.2.2.1, uq77.2.2.2.1, uq77.2.2.2.2.1, uq77.2.2.2.2.2, uq78.1, uq78.2.1, uq78.2.2.1, uq78.2.2.2.1, uq78.2.2.2.2.1, uq78.2.2.2.2.2, uq79.1, uq79.2.1, uq79.2.2.1, uq79.2.2.2.1, uq79.2.2.2.2.1, uq79.2.2.2.2.2, uq80.1, uq80.2.1, uq80.2.2.1, uq80.2.2.2.1, uq80.2.2.2.2.1, uq80.2.2.2.2.2, uq81, .pointer (some ⟨D22, 0, none⟩), .slice A2 l2.length c2, .tuple [].toArray, .slice (some ⟨g31, 0, none⟩) np np, .int .i64 (np : Int), .int .i64 (jj : Int), .bool (decide ((jj : Int) < (np : Int))), .int .i64 (jj : Int), .pointer (some ⟨g31, jj * 1, none⟩), .slice (some ⟨gq, kq, none⟩) xq.length cq, .tuple [.agg ((nums .u8 (Sc.readP (jj : Int)))).toArray, .int .i64 (Sc.readE (jj : Int))].toArray, .pointer (some ⟨D22, 0, none⟩), .int .i64 (jj : Int), .tuple [.agg ((nums .u8 (Sc.readP (jj : Int)))).toArray, .int .i64 (Sc.readE (jj : Int))].toArray, .agg ((nums .u8 (Sc.readP (jj : Int)))).toArray, .int .i64 (Sc.readE (jj : Int)), .int .i64 (Sc.readE (jj : Int)), .bool false, .agg ((nums .u8 (Sc.readP (jj : Int)))).toArray, .int .i64 ((k + 1 : Nat) : Int), .bool (decide ((k : Int) < 256)), .int .i64 (k : Int), .int .u8 ((Sc.readP (jj : Int)).getD k 0), .slice (some ⟨gq, kq, none⟩) xq.length cq, .int .i64 (xq.length : Int), .int .i64 (xq.length : Int), .bool (decide ((xq.length : Int) < (xq.length : Int))), u149, u150, u151, u152, u153, u154, u155, u156, u157, .bool true, .bool false, .bool false, .int .u8 ((Sc.readP (jj : Int)).getD k 0), .int .i64 (k : Int), .int .i64 ((k / 32 : Nat) : Int), .int .i64 ((k / 32 * 32 : Nat) : Int), .pointer (some ⟨g901480, (k / 32 * 32 : Nat), none⟩), .int .u8 ((Sc.readP (jj : Int)).getD (k / 32 * 32 : Nat) 0), .bool false, .bool false, .int .i64 ((k + 1 : Nat) : Int), uq901458.2.2.2, u_, u_, u_, u_, u_, u_, u_, u_, u_]) rfl ?_
                                  refine hJ901501 (k + 1) _ _ ?_ ?_
                                  · show 256 - (k + 1) < 256 - k; omega
                                  · exact ⟨(uq901494.1, .int .i64 (k : Int), .int .u8 ((Sc.readP (jj : Int)).getD k 0), .bool true, u21, .bool (decide ((k : Int) < 256))), (.int .i64 (k : Int), .int .u8 ((Sc.readP (jj : Int)).getD k 0), .slice (some ⟨gq, kq, none⟩) xq.length cq, .int .i64 (xq.length : Int), .int .i64 (xq.length : Int), .bool (decide ((xq.length : Int) < (xq.length : Int)))), (u149, u150, u151, u152, u153, u154), (u155, u156, u157, .bool true, .bool false, .bool false), (.int .u8 ((Sc.readP (jj : Int)).getD k 0), .int .i64 (k : Int), .int .i64 ((k / 32 : Nat) : Int), .int .i64 ((k / 32 * 32 : Nat) : Int), .pointer (some ⟨g901480, (k / 32 * 32 : Nat), none⟩), .int .u8 ((Sc.readP (jj : Int)).getD (k / 32 * 32 : Nat) 0)), (.bool false, .bool false, .int .i64 ((k + 1 : Nat) : Int)), rfl, (((((((HS.front 6 rfl).front 6 rfl).front 6 rfl).front 6 rfl).front 6 rfl).front 6 rfl).front 6 rfl), trivial⟩
                            · skip
                              refine wp_exit ?_
                              refine hK901470 _ _ ?_
                              refine c_region (fun ops901561 hops901560 => ?_)
                              clear hops901560
                              refine p_run (l' := _) _ (x_arith (k := .i64) (m := (jj : Int)) (n := 1) .add (((jj + 1 : Nat) : Int)) rfl rfl rfl (show IntKind.i64.wrap ((jj : Int) + 1) = ((jj + 1 : Nat) : Int) from ((wr64 (by omega)).trans (by omega))) rfl) rfl ?_
                              refine p_run (l' := _) _ (x_move (.int .i64 ((jj + 1 : Nat) : Int)) rfl rfl) rfl ?_
                              refine wpList_nil ?_
                              refine fr_at (l' := [.int .i64 (np : Int), .slice A1 l1.length c1, .slice A2 l2.length c2, u_, u_, u_, uq901494.1, .pointer (some ⟨D22, 0, none⟩), .slice (some ⟨g31, 0, none⟩) np np, u9, u_, uq70.1, uq70.2.1, .int .i64 (jj : Int), .slice (some ⟨gq, kq, none⟩) xq.length cq, .pointer (some ⟨g901480, 0, none⟩), .int .i64 (Sc.readE (jj : Int)), uq901494.2.1, uq901494.2.2.1, uq901494.2.2.2.1, u_, uq901494.2.2.2.2.1, .bool true, .bool false, .int .i64 (np : Int), .bool false, .bool false, .int .i64 (np : Int), .bool false, .bool false, .bool false, .slice A1 l1.length c1, .int .i64 (l1.length : Int), .bool false, .bool false, .bool false, .slice A2 l2.length c2, .int .i64 (l2.length : Int), .bool false, .bool false, .int .i64 (np : Int), .pointer (some ⟨D22, 0, none⟩), .int .i64 (np : Int), .slice (some ⟨g31, 0, none⟩) np np, .slice (some ⟨g31, 0, none⟩) np np, .int .i64 (np : Int), .int .i64 (np : Int), .bool (decide ((np : Int) < (np : Int))), u48, u49, u50, u51, u52, u53, .slice A1 l1.length c1, .int .i64 (l1.length : Int), .int .i64 (i : Int), .bool (decide ((i : Int) < (l1.length : Int))), uq70.2.2.2.1, uq70.2.2.2.2.1, uq70.2.2.2.2.2, uq71.1, uq71.2.1, uq71.2.2.1, uq71.2.2.2.1, uq71.2.2.2.2.1, uq71.2.2.2.2.2, uq72.1, uq72.2.1, uq72.2.2.1, uq72.2.2.2.1, uq72.2.2.2.2.1, uq72.2.2.2.2.2, uq73.1, uq73.2.1, uq73.2.2.1, uq73.2.2.2.1, uq73.2.2.2.2.1, uq73.2.2.2.2.2, uq74.1, uq74.2.1, uq74.2.2.1, uq74.2.2.2.1, uq74.2.2.2.2.1, uq74.2.2.2.2.2, uq75.1, uq75.2.1, uq75.2.2.1, uq75.2.2.2.1, uq75.2.2.2.2.1, uq75.2.2.2.2.2, uq76.1, uq76.2.1, uq76.2.2.1, uq76.2.2.2.1, uq76.2.2.2.2.1, uq76.2.2.2.2.2, uq77.1, uq77.2.1, uq77.2.2.1, uq77.2.2.2.1, uq77.2.2.2.2.1, uq77.2.2.2.2.2, uq78.1, uq78.2.1, uq78.2.2.1, uq78.2.2.2.1, uq78.2.2.2.2.1, uq78.2.2.2.2.2, uq79.1, uq79.2.1, uq79.2.2.1, uq79.2.2.2.1, uq79.2.2.2.2.1, uq79.2.2.2.2.2, uq80.1, uq80.2.1, uq80.2.2.1, uq80.2.2.2.1, uq80.2.2.2.2.1, uq80.2.2.2.2.2, uq81, .pointer (some ⟨D22, 0, none⟩), .slice A2 l2.length c2, .tuple [].toArray, .slice (some ⟨g31, 0, none⟩) np np, .int .i64 (np : Int), .int .i64 ((jj + 1 : Nat) : Int), .bool (decide ((jj : Int) < (np : Int))), .int .i64 (jj : Int), .pointer (some ⟨g31, jj * 1, none⟩), .slice (some ⟨gq, kq, none⟩) xq.length cq, .tuple [.agg ((nums .u8 (Sc.readP (jj : Int)))).toArray, .int .i64 (Sc.readE (jj : Int))].toArray, .pointer (some ⟨D22, 0, none⟩), .int .i64 (jj : Int), .tuple [.agg ((nums .u8 (Sc.readP (jj : Int)))).toArray, .int .i64 (Sc.readE (jj : Int))].toArray, .agg ((nums .u8 (Sc.readP (jj : Int)))).toArray, .int .i64 (Sc.readE (jj : Int)), .int .i64 (Sc.readE (jj : Int)), .bool false, .agg ((nums .u8 (Sc.readP (jj : Int)))).toArray, .int .i64 (k : Int), .bool (decide ((k : Int) < 256)), uq901495.1, uq901495.2.1, uq901495.2.2.1, uq901495.2.2.2.1, uq901495.2.2.2.2.1, uq901495.2.2.2.2.2, uq901496.1, uq901496.2.1, uq901496.2.2.1, uq901496.2.2.2.1, uq901496.2.2.2.2.1, uq901496.2.2.2.2.2, uq901497.1, uq901497.2.1, uq901497.2.2.1, uq901497.2.2.2.1, uq901497.2.2.2.2.1, uq901497.2.2.2.2.2, uq901498.1, uq901498.2.1, uq901498.2.2.1, uq901498.2.2.2.1, uq901498.2.2.2.2.1, uq901498.2.2.2.2.2, uq901499.1, uq901499.2.1, uq901499.2.2, .int .i64 ((jj + 1 : Nat) : Int), u_, u_, u_, u_, u_, u_, u_, u_, u_]) rfl ?_
                              refine hJ901460 (jj + 1) _ _ ?_ ?_
                              · show np - (jj + 1) < np - jj; omega
                              · exact ⟨(uq901494.1, .int .i64 (jj : Int), .slice (some ⟨gq, kq, none⟩) xq.length cq, .pointer (some ⟨g901480, 0, none⟩), .int .i64 (Sc.readE (jj : Int)), uq901494.2.1), (uq901494.2.2.1, uq901494.2.2.2.1, uq901494.2.2.2.2.1, .bool (decide ((jj : Int) < (np : Int))), .int .i64 (jj : Int), .pointer (some ⟨g31, jj * 1, none⟩)), (.slice (some ⟨gq, kq, none⟩) xq.length cq, .tuple [.agg ((nums .u8 (Sc.readP (jj : Int)))).toArray, .int .i64 (Sc.readE (jj : Int))].toArray, .pointer (some ⟨D22, 0, none⟩), .int .i64 (jj : Int), .tuple [.agg ((nums .u8 (Sc.readP (jj : Int)))).toArray, .int .i64 (Sc.readE (jj : Int))].toArray, .agg ((nums .u8 (Sc.readP (jj : Int)))).toArray), (.int .i64 (Sc.readE (jj : Int)), .int .i64 (Sc.readE (jj : Int)), .bool false, .agg ((nums .u8 (Sc.readP (jj : Int)))).toArray, .int .i64 (k : Int), .bool (decide ((k : Int) < 256))), (uq901495.1, uq901495.2.1, uq901495.2.2.1, uq901495.2.2.2.1, uq901495.2.2.2.2.1, uq901495.2.2.2.2.2), (uq901496.1, uq901496.2.1, uq901496.2.2.1, uq901496.2.2.2.1, uq901496.2.2.2.2.1, uq901496.2.2.2.2.2), (uq901497.1, uq901497.2.1, uq901497.2.2.1, uq901497.2.2.2.1, uq901497.2.2.2.2.1, uq901497.2.2.2.2.2), (uq901498.1, uq901498.2.1, uq901498.2.2.1, uq901498.2.2.2.1, uq901498.2.2.2.2.1, uq901498.2.2.2.2.2), (uq901499.1, uq901499.2.1, uq901499.2.2, .int .i64 ((jj + 1 : Nat) : Int)), rfl, ((((((HS.drop.front 5 rfl).front 5 rfl).front 5 rfl).front 5 rfl).front 5 rfl).front 5 rfl), trivial⟩
                        · refine wp_exit ?_
                          refine hK901445 _ _ ?_
                          refine wp_seq_k (fun K901562 hK901563 => ?_)
                          refine c_region (fun ops901565 hops901564 => ?_)
                          refine p_run (l' := _) _ (x_move (.pointer (some ⟨D22, 0, none⟩)) rfl rfl) rfl ?_
                          refine w_call [.pointer (some ⟨D22, 0, none⟩)] Try.func17 (by kernel_rfl) (by rfl) rfl ?_
                          replace HS := ((((HS.front 3 rfl).front 3 rfl).front 3 rfl).front 3 rfl)
                          refine (pending_any HS (by have := hgd901443.pn; omega)).mono ?_
                          clear HS
                          rintro e w901567 ⟨v901566, rfl, HS⟩
                          obtain ⟨A901568, c901569, hv901570, hcp901571, -⟩ := row_reads (HS.get (.head _))
                          rw [List.length_map] at hv901570 hcp901571
                          subst hv901570
                          refine ⟨_, rfl, ?_⟩
                          refine p_run (l' := _) _ (x_len rfl rfl Try.underlying39) rfl ?_
                          refine p_run (l' := _) _ (x_cmp (k := .i64) (m := (Sc.pending.length : Int)) (n := 0) .eql true rfl rfl rfl (by unfold cmpB; rw [hSp]; rfl) rfl) rfl ?_
                          refine p_run (l' := _) _ (x_move (.bool true) rfl rfl) rfl ?_
                          refine p_on rfl (by rw [hops901564]; rfl) ?_
                          refine p_run (l' := _) _ (x_move (.pointer (some ⟨D22, 0, none⟩)) rfl rfl) rfl ?_
                          refine p_on rfl (by rw [hops901564]; rfl) ?_
                          refine w_call [.pointer (some ⟨D22, 0, none⟩)] Try.func15 (by kernel_rfl) (by rfl) rfl ?_
                          replace HS := ((((HS.front 4 rfl).front 4 rfl).front 4 rfl).front 4 rfl)
                          refine (down_any HS).mono ?_
                          rintro e w' ⟨he_, rfl⟩
                          rw [show Sc.down = false from hSd] at he_
                          subst he_
                          refine ⟨_, rfl, ?_⟩
                          refine p_on rfl (by rw [hops901564]; rfl) ?_
                          refine p_run (l' := _) _ (x_not false rfl rfl) rfl ?_
                          refine p_run (l' := _) _ (x_pick true (.bool true) (.bool false) (.bool true) rfl rfl rfl rfl rfl) rfl ?_
                          refine p_run (l' := [.int .i64 (np : Int), .slice A1 l1.length c1, .slice A2 l2.length c2, u_, u_, u_, .bool true, .pointer (some ⟨D22, 0, none⟩), .slice (some ⟨g31, 0, none⟩) np np, u9, u_, uq70.1, uq70.2.1, uq901450.2.1, uq901450.2.2.1, uq901450.2.2.2.1, uq901450.2.2.2.2.1, uq901450.2.2.2.2.2, uq901451.1, uq901451.2.1, u_, uq901451.2.2.1, .bool true, .bool false, .int .i64 (np : Int), .bool false, .bool false, .int .i64 (np : Int), .bool false, .bool false, .bool false, .slice A1 l1.length c1, .int .i64 (l1.length : Int), .bool false, .bool false, .bool false, .slice A2 l2.length c2, .int .i64 (l2.length : Int), .bool false, .bool false, .int .i64 (np : Int), .pointer (some ⟨D22, 0, none⟩), .int .i64 (np : Int), .slice (some ⟨g31, 0, none⟩) np np, .slice (some ⟨g31, 0, none⟩) np np, .int .i64 (np : Int), .int .i64 (np : Int), .bool (decide ((np : Int) < (np : Int))), u48, u49, u50, u51, u52, u53, .slice A1 l1.length c1, .int .i64 (l1.length : Int), .int .i64 (i : Int), .bool (decide ((i : Int) < (l1.length : Int))), uq70.2.2.2.1, uq70.2.2.2.2.1, uq70.2.2.2.2.2, uq71.1, uq71.2.1, uq71.2.2.1, uq71.2.2.2.1, uq71.2.2.2.2.1, uq71.2.2.2.2.2, uq72.1, uq72.2.1, uq72.2.2.1, uq72.2.2.2.1, uq72.2.2.2.2.1, uq72.2.2.2.2.2, uq73.1, uq73.2.1, uq73.2.2.1, uq73.2.2.2.1, uq73.2.2.2.2.1, uq73.2.2.2.2.2, uq74.1, uq74.2.1, uq74.2.2.1, uq74.2.2.2.1, uq74.2.2.2.2.1, uq74.2.2.2.2.2, uq75.1, uq75.2.1, uq75.2.2.1, uq75.2.2.2.1, uq75.2.2.2.2.1, uq75.2.2.2.2.2, uq76.1, uq76.2.1, uq76.2.2.1, uq76.2.2.2.1, uq76.2.2.2.2.1, uq76.2.2.2.2.2, uq77.1, uq77.2.1, uq77.2.2.1, uq77.2.2.2.1, uq77.2.2.2.2.1, uq77.2.2.2.2.2, uq78.1, uq78.2.1, uq78.2.2.1, uq78.2.2.2.1, uq78.2.2.2.2.1, uq78.2.2.2.2.2, uq79.1, uq79.2.1, uq79.2.2.1, uq79.2.2.2.1, uq79.2.2.2.2.1, uq79.2.2.2.2.2, uq80.1, uq80.2.1, uq80.2.2.1, uq80.2.2.2.1, uq80.2.2.2.2.1, uq80.2.2.2.2.2, uq81, .pointer (some ⟨D22, 0, none⟩), .slice A2 l2.length c2, .tuple [].toArray, .slice (some ⟨g31, 0, none⟩) np np, .int .i64 (np : Int), .int .i64 (jj : Int), .bool (decide ((jj : Int) < (np : Int))), uq901451.2.2.2.2.1, uq901451.2.2.2.2.2, uq901452.1, uq901452.2.1, uq901452.2.2.1, uq901452.2.2.2.1, uq901452.2.2.2.2.1, uq901452.2.2.2.2.2, uq901453.1, uq901453.2.1, uq901453.2.2.1, uq901453.2.2.2.1, uq901453.2.2.2.2.1, uq901453.2.2.2.2.2, uq901454.1, uq901454.2.1, uq901454.2.2.1, uq901454.2.2.2.1, uq901454.2.2.2.2.1, uq901454.2.2.2.2.2, uq901455.1, uq901455.2.1, uq901455.2.2.1, uq901455.2.2.2.1, uq901455.2.2.2.2.1, uq901455.2.2.2.2.2, uq901456.1, uq901456.2.1, uq901456.2.2.1, uq901456.2.2.2.1, uq901456.2.2.2.2.1, uq901456.2.2.2.2.2, uq901457.1, uq901457.2.1, uq901457.2.2.1, uq901457.2.2.2.1, uq901457.2.2.2.2.1, uq901457.2.2.2.2.2, uq901458.1, uq901458.2.1, uq901458.2.2.1, uq901458.2.2.2, .pointer (some ⟨D22, 0, none⟩), .slice A901568 Sc.pending.length c901569, .int .i64 (Sc.pending.length : Int), .bool true, .bool true, .pointer (some ⟨D22, 0, none⟩), .bool false, .bool true, .bool true]) _ (x_assign (.bool true) rfl rfl) rfl ?_
                          clear hops901564
                          refine wpList_nil ?_
                          refine hK901563 _ _ ?_
                          refine wp_ret ?_
                          try simp only [Exit.inBlock, Exit.then]
                          refine c_ret (.bool true) (r_tmp rfl rfl) ?_
                          exact ⟨rfl, HS.belowOf⟩

theorem keeps_any (pages : Int) (A1 : Option Addr) (c1 : Nat) (l1 : List dAT) (A2 : Option Addr) (c2 : Nat) (l2 : List Int) (w : World) (hr1 : kdA.C w A1 l1.length l1) (hg1 : ∀ y ∈ l1, dAG y) (hr2 : (Kd.int .u8).C w A2 l2.length l2) (hk2 : ∀ z ∈ l2, 0 ≤ z ∧ z < 256) : Calls Try.prog 5 #[.int .i64 pages, .slice A1 l1.length c1, .slice A2 l2.length c2] w fun e w' => e = .returned (.bool true) ∧ Below w.heap.size w w' := keeps_law w pages A1 c1 l1 hr1 hg1 A2 c2 l2 hr2 hk2
end Go.Proofs.Ytjholgfaipfmbaa
