/- LeafPlaces. -/
import Derived.Test.YtiokdpnhaemciaaL8a
set_option linter.unusedVariables false
set_option linter.unusedSimpArgs false
namespace Go.Proofs.Ytiokdpnhaemciaa
open Go.RowKit Go.Proofs.YtiokdpnhaemciaaW.PrintWords Go.Proofs.YtiokdpnhaemciaaW.PrintLast Crc
theorem nd_sorted {k : Int} {b : List UInt8} {es : List (Int × Int)} (h : ndOk k b es = true) : sorted es := by
  rcases nd_kind h with ⟨-, rfl⟩ | ⟨-, -, -, hr⟩
  · intro a b x y _ hx; simp at hx
  · exact fun a b x y hab hx hy => (rise_sorted hr a b x y hab hx hy).1
theorem nd_strict {k : Int} {b : List UInt8} {es : List (Int × Int)} (h : ndOk k b es = true) {i : Nat} {x y : Int × Int} (hx : es[i]? = some x) (hy : es[i + 1]? = some y) : x.1 < y.1 := by
  rcases nd_kind h with ⟨-, rfl⟩ | ⟨-, -, -, hr⟩
  · simp at hx
  · exact (rise_sorted hr i (i + 1) x y (Nat.le_succ _) hx hy).2 (Nat.lt_succ_self _)
theorem place_cases {k key r : Int} {b : List UInt8} {es : List (Int × Int)} {i : Nat} (h : ndOk k b es = true) (hp : placed es key i) (hc : (r = (i : Int) ∧ ∃ x, es[i]? = some x ∧ x.1 = key) ∨ (r = (i : Int) - 1 ∧ ¬ ∃ x, es[i]? = some x ∧ x.1 = key)) :
    (∃ (p : Nat) (x : Int × Int), r = (p : Int) ∧ es[p]? = some x ∧ x.1 ≤ key ∧ ∀ y, es[p + 1]? = some y → key < y.1) ∨ (r = -1 ∧ ∀ y, es[0]? = some y → key < y.1) := by
  have hlt : ∀ y, (¬ ∃ x, es[i]? = some x ∧ x.1 = key) → es[i]? = some y → key < y.1 := fun y hn hy => by
    have h1 := hp.2.2 i y (Nat.le_refl _) hy
    rcases Int.lt_or_eq_of_le h1 with h2 | h2
    · exact h2
    · exact absurd ⟨y, hy, h2.symm⟩ hn
  rcases hc with ⟨rfl, x, hx, rfl⟩ | ⟨rfl, hn⟩
  · exact .inl ⟨i, x, rfl, hx, Int.le_refl _, fun y hy => nd_strict h hx hy⟩
  · rcases i with _ | m
    · exact .inr ⟨rfl, fun y hy => hlt y hn hy⟩
    · obtain ⟨x, hx⟩ : ∃ x, es[m]? = some x := ⟨_, List.getElem?_eq_getElem (by have := hp.1; omega)⟩
      exact .inl ⟨m, x, by omega, hx, Int.le_of_lt (hp.2.1 m x (Nat.lt_succ_self _) hx), fun y hy => hlt y hn hy⟩
theorem en_old {w : World} {ad : Addr} {n : Nat} {es : List (Int × Int)} {j : Nat} {x : Int × Int} (h : kEn.C w (some ad) n es) (hx : es[j]? = some x) : w.cell? ((ad.add (j * 2)).add 0) = some (.int .i64 x.1) := by
  obtain ⟨ad', x', e, hx', hc⟩ := en_get h j (List.getElem?_eq_some_iff.1 hx).1
  injection e with e
  subst e
  rw [hx] at hx'
  injection hx' with hx'
  subst hx'
  exact hc 0 _ rfl
theorem bee (n : Nat) (a : Int) : cmpB .eql a (n : Int) = decide (a = (n : Int)) := by
  by_cases h : a = (n : Int)
  · rw [cmp_yes h, decide_eq_true h]
  · rw [cmp_not h, decide_eq_false h]

set_option maxRecDepth 10000 in
set_option maxHeartbeats 2000000 in
theorem places_law (w : World) (k : Int) (b : List UInt8) (hb : b.length = 16) (A : Option Addr) (c : Nat) (es : List (Int × Int)) (hr : kEn.C w A es.length es) (key : Int) : Calls Try.prog 10 #[.agg (Value.int .i64 k :: ((nums .u8 (b.map bv)) ++ ([Value.slice A es.length c]))).toArray, .int .i64 key] w fun e w' => e = .returned (.bool true) ∧ Below w.heap.size w w' := by
  have HS := St.empty w
  by_cases h50 : 50 < es.length
  · skip
    refine c_enter Try.func10 rfl 61 rfl [.agg (Value.int .i64 k :: ((nums .u8 (b.map bv)) ++ ([Value.slice A es.length c]))).toArray, .int .i64 key, undef, undef, undef, undef, undef, undef, undef, undef, undef, undef, undef, undef, undef, undef, undef, undef, undef, undef, undef, undef, undef, undef, undef, undef, undef, undef, undef, undef, undef, undef, undef, undef, undef, undef, undef, undef, undef, undef, undef, undef, undef, undef, undef, undef, undef, undef, undef, undef, undef, undef, undef, undef, undef, undef, undef, undef, undef, undef, undef] rfl ?_
    refine wp_seq_k (fun K1 hK2 => ?_)
    refine c_region (fun ops4 hops3 => ?_)
    clear hops3
    refine St.wBox HS (cs := (Value.int .i64 k :: ((nums .u8 (b.map bv)) ++ ([Value.slice A es.length c])))) (.agg (Value.int .i64 k :: ((nums .u8 (b.map bv)) ++ ([Value.slice A es.length c]))).toArray) rfl rfl ?_
    clear HS
    intro g5 w6 hg7 HS
    refine p_run (l' := _) _ (x_assign (.bool false) rfl rfl) rfl ?_
    refine wpList_nil ?_
    refine fr_at (l' := [.agg (Value.int .i64 k :: ((nums .u8 (b.map bv)) ++ ([Value.slice A es.length c]))).toArray, .int .i64 key, .pointer (some ⟨g5, 0, none⟩), undef, .bool false, undef, undef, undef, undef, undef, undef, undef, undef, undef, undef, undef, undef, undef, undef, undef, undef, undef, undef, undef, undef, undef, undef, undef, undef, undef, undef, undef, undef, undef, undef, undef, undef, undef, undef, undef, undef, undef, undef, undef, undef, undef, undef, undef, undef, undef, undef, undef, undef, undef, undef, undef, undef, undef, undef, undef, undef]) rfl ?_
    refine hK2 _ _ ?_
    refine wp_seq_k (fun K8 hK9 => ?_)
    refine wp_seq_k (fun K10 hK11 => ?_)
    refine c_region (fun ops13 hops12 => ?_)
    clear hops12
    refine w_call [] Try.func25 (by kernel_rfl) (by rfl) rfl ?_
    refine (lalive_any _).mono ?_
    rintro e w14 ⟨rfl, hb_⟩
    replace HS := HS.here hb_
    clear hb_
    refine ⟨_, rfl, ?_⟩
    refine p_run (l' := _) _ (x_not true rfl rfl) rfl ?_
    refine wpList_nil ?_
    refine fr_at (l' := [.agg (Value.int .i64 k :: ((nums .u8 (b.map bv)) ++ ([Value.slice A es.length c]))).toArray, .int .i64 key, .pointer (some ⟨g5, 0, none⟩), undef, .bool false, undef, .bool true, .bool false, undef, undef, undef, undef, undef, undef, undef, undef, undef, undef, undef, undef, undef, undef, undef, undef, undef, undef, undef, undef, undef, undef, undef, undef, undef, undef, undef, undef, undef, undef, undef, undef, undef, undef, undef, undef, undef, undef, undef, undef, undef, undef, undef, undef, undef, undef, undef, undef, undef, undef, undef, undef, undef]) rfl ?_
    refine hK11 _ _ ?_
    refine c_false rfl ?_
    refine wp_skip ?_
    refine hK9 _ _ ?_
    refine wp_seq_k (fun K15 hK16 => ?_)
    refine wp_seq_k (fun K17 hK18 => ?_)
    refine c_region (fun ops20 hops19 => ?_)
    refine p_run (l' := _) _ (x_field (j := 17) _ _ rfl rfl Try.underlying52 rfl (by rfl) rfl) rfl ?_
    refine p_run (l' := _) _ (x_load (.slice A es.length c) rfl rfl (bkCell (HS.get (.head _)) 17 _ (by simp [List.getElem?_append, List.length_map, hb, nums_length])) (by rfl)) rfl ?_
    refine p_run (l' := _) _ (x_len rfl rfl Try.underlying50) rfl ?_
    refine p_run (l' := [.agg (Value.int .i64 k :: ((nums .u8 (b.map bv)) ++ ([Value.slice A es.length c]))).toArray, .int .i64 key, .pointer (some ⟨g5, 0, none⟩), undef, .bool false, undef, .bool true, .bool false, .pointer (some ⟨g5, 17, none⟩), .slice A es.length c, .int .i64 (es.length : Int), .bool true, undef, undef, undef, undef, undef, undef, undef, undef, undef, undef, undef, undef, undef, undef, undef, undef, undef, undef, undef, undef, undef, undef, undef, undef, undef, undef, undef, undef, undef, undef, undef, undef, undef, undef, undef, undef, undef, undef, undef, undef, undef, undef, undef, undef, undef, undef, undef, undef, undef]) _ (x_cmp (k := .i64) (m := (es.length : Int)) (n := 50) .gtr true rfl rfl rfl (decide_eq_true (by omega)) rfl) rfl ?_
    refine p_run (l' := _) _ (x_move (.bool true) rfl rfl) rfl ?_
    refine p_off (l' := _) (by rw [hops19]; rfl) rfl ?_
    refine p_off (l' := _) (by rw [hops19]; rfl) rfl ?_
    refine p_off (l' := [.agg (Value.int .i64 k :: ((nums .u8 (b.map bv)) ++ ([Value.slice A es.length c]))).toArray, .int .i64 key, .pointer (some ⟨g5, 0, none⟩), undef, .bool false, undef, .bool true, .bool false, .pointer (some ⟨g5, 17, none⟩), .slice A es.length c, .int .i64 (es.length : Int), .bool true, .bool true, undef, undef, undef, undef, undef, undef, undef, undef, undef, undef, undef, undef, undef, undef, undef, undef, undef, undef, undef, undef, undef, undef, undef, undef, undef, undef, undef, undef, undef, undef, undef, undef, undef, undef, undef, undef, undef, undef, undef, undef, undef, undef, undef, undef, undef, undef, undef, undef]) (by rw [hops19]; rfl) rfl ?_
    refine p_run (l' := _) _ (x_pick true (.bool true) (undef) (.bool true) rfl rfl rfl rfl rfl) rfl ?_
    clear hops19
    refine wpList_nil ?_
    refine fr_at (l' := [.agg (Value.int .i64 k :: ((nums .u8 (b.map bv)) ++ ([Value.slice A es.length c]))).toArray, .int .i64 key, .pointer (some ⟨g5, 0, none⟩), undef, .bool false, undef, .bool true, .bool false, .pointer (some ⟨g5, 17, none⟩), .slice A es.length c, .int .i64 (es.length : Int), .bool true, .bool true, undef, undef, undef, .bool true, undef, undef, undef, undef, undef, undef, undef, undef, undef, undef, undef, undef, undef, undef, undef, undef, undef, undef, undef, undef, undef, undef, undef, undef, undef, undef, undef, undef, undef, undef, undef, undef, undef, undef, undef, undef, undef, undef, undef, undef, undef, undef, undef, undef]) rfl ?_
    refine hK18 _ _ ?_
    refine c_true rfl ?_
    refine wp_seq_k (fun K21 hK22 => ?_)
    refine c_region (fun ops24 hops23 => ?_)
    clear hops23
    refine p_run (l' := _) _ (x_assign (.bool true) rfl rfl) rfl ?_
    refine wpList_nil ?_
    refine fr_at (l' := [.agg (Value.int .i64 k :: ((nums .u8 (b.map bv)) ++ ([Value.slice A es.length c]))).toArray, .int .i64 key, .pointer (some ⟨g5, 0, none⟩), undef, .bool true, undef, .bool true, .bool false, .pointer (some ⟨g5, 17, none⟩), .slice A es.length c, .int .i64 (es.length : Int), .bool true, .bool true, undef, undef, undef, .bool true, undef, undef, undef, undef, undef, undef, undef, undef, undef, undef, undef, undef, undef, undef, undef, undef, undef, undef, undef, undef, undef, undef, undef, undef, undef, undef, undef, undef, undef, undef, undef, undef, undef, undef, undef, undef, undef, undef, undef, undef, undef, undef, undef, undef]) rfl ?_
    refine hK22 _ _ ?_
    refine wp_ret ?_
    try simp only [Exit.inBlock, Exit.then]
    refine c_ret (.bool true) (r_tmp rfl rfl) ?_
    exact ⟨rfl, HS.belowOf⟩
  · skip
    have hl : es.length ≤ 1000 := by omega
    rcases hok : ndOk k b es with _ | _
    · skip
      refine c_enter Try.func10 rfl 61 rfl [.agg (Value.int .i64 k :: ((nums .u8 (b.map bv)) ++ ([Value.slice A es.length c]))).toArray, .int .i64 key, undef, undef, undef, undef, undef, undef, undef, undef, undef, undef, undef, undef, undef, undef, undef, undef, undef, undef, undef, undef, undef, undef, undef, undef, undef, undef, undef, undef, undef, undef, undef, undef, undef, undef, undef, undef, undef, undef, undef, undef, undef, undef, undef, undef, undef, undef, undef, undef, undef, undef, undef, undef, undef, undef, undef, undef, undef, undef, undef] rfl ?_
      refine wp_seq_k (fun K1 hK2 => ?_)
      refine c_region (fun ops4 hops3 => ?_)
      clear hops3
      refine St.wBox HS (cs := (Value.int .i64 k :: ((nums .u8 (b.map bv)) ++ ([Value.slice A es.length c])))) (.agg (Value.int .i64 k :: ((nums .u8 (b.map bv)) ++ ([Value.slice A es.length c]))).toArray) rfl rfl ?_
      clear HS
      intro g5 w6 hg7 HS
      refine p_run (l' := _) _ (x_assign (.bool false) rfl rfl) rfl ?_
      refine wpList_nil ?_
      refine fr_at (l' := [.agg (Value.int .i64 k :: ((nums .u8 (b.map bv)) ++ ([Value.slice A es.length c]))).toArray, .int .i64 key, .pointer (some ⟨g5, 0, none⟩), undef, .bool false, undef, undef, undef, undef, undef, undef, undef, undef, undef, undef, undef, undef, undef, undef, undef, undef, undef, undef, undef, undef, undef, undef, undef, undef, undef, undef, undef, undef, undef, undef, undef, undef, undef, undef, undef, undef, undef, undef, undef, undef, undef, undef, undef, undef, undef, undef, undef, undef, undef, undef, undef, undef, undef, undef, undef, undef]) rfl ?_
      refine hK2 _ _ ?_
      refine wp_seq_k (fun K8 hK9 => ?_)
      refine wp_seq_k (fun K10 hK11 => ?_)
      refine c_region (fun ops13 hops12 => ?_)
      clear hops12
      refine w_call [] Try.func25 (by kernel_rfl) (by rfl) rfl ?_
      refine (lalive_any _).mono ?_
      rintro e w14 ⟨rfl, hb_⟩
      replace HS := HS.here hb_
      clear hb_
      refine ⟨_, rfl, ?_⟩
      refine p_run (l' := _) _ (x_not true rfl rfl) rfl ?_
      refine wpList_nil ?_
      refine fr_at (l' := [.agg (Value.int .i64 k :: ((nums .u8 (b.map bv)) ++ ([Value.slice A es.length c]))).toArray, .int .i64 key, .pointer (some ⟨g5, 0, none⟩), undef, .bool false, undef, .bool true, .bool false, undef, undef, undef, undef, undef, undef, undef, undef, undef, undef, undef, undef, undef, undef, undef, undef, undef, undef, undef, undef, undef, undef, undef, undef, undef, undef, undef, undef, undef, undef, undef, undef, undef, undef, undef, undef, undef, undef, undef, undef, undef, undef, undef, undef, undef, undef, undef, undef, undef, undef, undef, undef, undef]) rfl ?_
      refine hK11 _ _ ?_
      refine c_false rfl ?_
      refine wp_skip ?_
      refine hK9 _ _ ?_
      refine wp_seq_k (fun K15 hK16 => ?_)
      refine wp_seq_k (fun K17 hK18 => ?_)
      refine c_region (fun ops20 hops19 => ?_)
      refine p_run (l' := _) _ (x_field (j := 17) _ _ rfl rfl Try.underlying52 rfl (by rfl) rfl) rfl ?_
      refine p_run (l' := _) _ (x_load (.slice A es.length c) rfl rfl (bkCell (HS.get (.head _)) 17 _ (by simp [List.getElem?_append, List.length_map, hb, nums_length])) (by rfl)) rfl ?_
      refine p_run (l' := _) _ (x_len rfl rfl Try.underlying50) rfl ?_
      refine p_run (l' := [.agg (Value.int .i64 k :: ((nums .u8 (b.map bv)) ++ ([Value.slice A es.length c]))).toArray, .int .i64 key, .pointer (some ⟨g5, 0, none⟩), undef, .bool false, undef, .bool true, .bool false, .pointer (some ⟨g5, 17, none⟩), .slice A es.length c, .int .i64 (es.length : Int), .bool false, undef, undef, undef, undef, undef, undef, undef, undef, undef, undef, undef, undef, undef, undef, undef, undef, undef, undef, undef, undef, undef, undef, undef, undef, undef, undef, undef, undef, undef, undef, undef, undef, undef, undef, undef, undef, undef, undef, undef, undef, undef, undef, undef, undef, undef, undef, undef, undef, undef]) _ (x_cmp (k := .i64) (m := (es.length : Int)) (n := 50) .gtr false rfl rfl rfl (decide_eq_false (by omega)) rfl) rfl ?_
      refine p_run (l' := _) _ (x_move (.bool false) rfl rfl) rfl ?_
      refine p_on rfl (by rw [hops19]; rfl) ?_
      refine p_run (l' := _) _ (x_loads (Value.int .i64 k :: ((nums .u8 (b.map bv)) ++ ([Value.slice A es.length c]))) 18 rfl rfl (bkCells (HS.get (.head _)) 0 _ (whole _)) (by rfl) (by kernel_rfl) (by simp [List.length_map, hb, nums_length])) rfl ?_
      refine p_on rfl (by rw [hops19]; rfl) ?_
      refine w_call [.agg (Value.int .i64 k :: ((nums .u8 (b.map bv)) ++ ([Value.slice A es.length c]))).toArray] Try.func28 (by kernel_rfl) (by rfl) rfl ?_
      refine (right_node _ k b hb A c es (Kd.C_below hr HS.belowOf) hl).mono ?_
      rw [hok]
      rintro e w21 ⟨rfl, hb_⟩
      replace HS := HS.here hb_
      clear hb_
      refine ⟨_, rfl, ?_⟩
      refine p_on rfl (by rw [hops19]; rfl) ?_
      refine p_run (l' := [.agg (Value.int .i64 k :: ((nums .u8 (b.map bv)) ++ ([Value.slice A es.length c]))).toArray, .int .i64 key, .pointer (some ⟨g5, 0, none⟩), undef, .bool false, undef, .bool true, .bool false, .pointer (some ⟨g5, 17, none⟩), .slice A es.length c, .int .i64 (es.length : Int), .bool false, .bool false, .agg (Value.int .i64 k :: ((nums .u8 (b.map bv)) ++ ([Value.slice A es.length c]))).toArray, .bool false, .bool true, undef, undef, undef, undef, undef, undef, undef, undef, undef, undef, undef, undef, undef, undef, undef, undef, undef, undef, undef, undef, undef, undef, undef, undef, undef, undef, undef, undef, undef, undef, undef, undef, undef, undef, undef, undef, undef, undef, undef, undef, undef, undef, undef, undef, undef]) _ (x_not false rfl rfl) rfl ?_
      refine p_run (l' := _) _ (x_pick false (.bool true) (.bool true) (.bool true) rfl rfl rfl rfl rfl) rfl ?_
      clear hops19
      refine wpList_nil ?_
      refine fr_at (l' := [.agg (Value.int .i64 k :: ((nums .u8 (b.map bv)) ++ ([Value.slice A es.length c]))).toArray, .int .i64 key, .pointer (some ⟨g5, 0, none⟩), undef, .bool false, undef, .bool true, .bool false, .pointer (some ⟨g5, 17, none⟩), .slice A es.length c, .int .i64 (es.length : Int), .bool false, .bool false, .agg (Value.int .i64 k :: ((nums .u8 (b.map bv)) ++ ([Value.slice A es.length c]))).toArray, .bool false, .bool true, .bool true, undef, undef, undef, undef, undef, undef, undef, undef, undef, undef, undef, undef, undef, undef, undef, undef, undef, undef, undef, undef, undef, undef, undef, undef, undef, undef, undef, undef, undef, undef, undef, undef, undef, undef, undef, undef, undef, undef, undef, undef, undef, undef, undef, undef]) rfl ?_
      refine hK18 _ _ ?_
      refine c_true rfl ?_
      refine wp_seq_k (fun K22 hK23 => ?_)
      refine c_region (fun ops25 hops24 => ?_)
      clear hops24
      refine p_run (l' := _) _ (x_assign (.bool true) rfl rfl) rfl ?_
      refine wpList_nil ?_
      refine fr_at (l' := [.agg (Value.int .i64 k :: ((nums .u8 (b.map bv)) ++ ([Value.slice A es.length c]))).toArray, .int .i64 key, .pointer (some ⟨g5, 0, none⟩), undef, .bool true, undef, .bool true, .bool false, .pointer (some ⟨g5, 17, none⟩), .slice A es.length c, .int .i64 (es.length : Int), .bool false, .bool false, .agg (Value.int .i64 k :: ((nums .u8 (b.map bv)) ++ ([Value.slice A es.length c]))).toArray, .bool false, .bool true, .bool true, undef, undef, undef, undef, undef, undef, undef, undef, undef, undef, undef, undef, undef, undef, undef, undef, undef, undef, undef, undef, undef, undef, undef, undef, undef, undef, undef, undef, undef, undef, undef, undef, undef, undef, undef, undef, undef, undef, undef, undef, undef, undef, undef, undef]) rfl ?_
      refine hK23 _ _ ?_
      refine wp_ret ?_
      try simp only [Exit.inBlock, Exit.then]
      refine c_ret (.bool true) (r_tmp rfl rfl) ?_
      exact ⟨rfl, HS.belowOf⟩
    · skip
      refine c_enter Try.func10 rfl 61 rfl [.agg (Value.int .i64 k :: ((nums .u8 (b.map bv)) ++ ([Value.slice A es.length c]))).toArray, .int .i64 key, undef, undef, undef, undef, undef, undef, undef, undef, undef, undef, undef, undef, undef, undef, undef, undef, undef, undef, undef, undef, undef, undef, undef, undef, undef, undef, undef, undef, undef, undef, undef, undef, undef, undef, undef, undef, undef, undef, undef, undef, undef, undef, undef, undef, undef, undef, undef, undef, undef, undef, undef, undef, undef, undef, undef, undef, undef, undef, undef] rfl ?_
      refine wp_seq_k (fun K1 hK2 => ?_)
      refine c_region (fun ops4 hops3 => ?_)
      clear hops3
      refine St.wBox HS (cs := (Value.int .i64 k :: ((nums .u8 (b.map bv)) ++ ([Value.slice A es.length c])))) (.agg (Value.int .i64 k :: ((nums .u8 (b.map bv)) ++ ([Value.slice A es.length c]))).toArray) rfl rfl ?_
      clear HS
      intro g5 w6 hg7 HS
      refine p_run (l' := _) _ (x_assign (.bool false) rfl rfl) rfl ?_
      refine wpList_nil ?_
      refine fr_at (l' := [.agg (Value.int .i64 k :: ((nums .u8 (b.map bv)) ++ ([Value.slice A es.length c]))).toArray, .int .i64 key, .pointer (some ⟨g5, 0, none⟩), undef, .bool false, undef, undef, undef, undef, undef, undef, undef, undef, undef, undef, undef, undef, undef, undef, undef, undef, undef, undef, undef, undef, undef, undef, undef, undef, undef, undef, undef, undef, undef, undef, undef, undef, undef, undef, undef, undef, undef, undef, undef, undef, undef, undef, undef, undef, undef, undef, undef, undef, undef, undef, undef, undef, undef, undef, undef, undef]) rfl ?_
      refine hK2 _ _ ?_
      refine wp_seq_k (fun K8 hK9 => ?_)
      refine wp_seq_k (fun K10 hK11 => ?_)
      refine c_region (fun ops13 hops12 => ?_)
      clear hops12
      refine w_call [] Try.func25 (by kernel_rfl) (by rfl) rfl ?_
      refine (lalive_any _).mono ?_
      rintro e w14 ⟨rfl, hb_⟩
      replace HS := HS.here hb_
      clear hb_
      refine ⟨_, rfl, ?_⟩
      refine p_run (l' := _) _ (x_not true rfl rfl) rfl ?_
      refine wpList_nil ?_
      refine fr_at (l' := [.agg (Value.int .i64 k :: ((nums .u8 (b.map bv)) ++ ([Value.slice A es.length c]))).toArray, .int .i64 key, .pointer (some ⟨g5, 0, none⟩), undef, .bool false, undef, .bool true, .bool false, undef, undef, undef, undef, undef, undef, undef, undef, undef, undef, undef, undef, undef, undef, undef, undef, undef, undef, undef, undef, undef, undef, undef, undef, undef, undef, undef, undef, undef, undef, undef, undef, undef, undef, undef, undef, undef, undef, undef, undef, undef, undef, undef, undef, undef, undef, undef, undef, undef, undef, undef, undef, undef]) rfl ?_
      refine hK11 _ _ ?_
      refine c_false rfl ?_
      refine wp_skip ?_
      refine hK9 _ _ ?_
      refine wp_seq_k (fun K15 hK16 => ?_)
      refine wp_seq_k (fun K17 hK18 => ?_)
      refine c_region (fun ops20 hops19 => ?_)
      refine p_run (l' := _) _ (x_field (j := 17) _ _ rfl rfl Try.underlying52 rfl (by rfl) rfl) rfl ?_
      refine p_run (l' := _) _ (x_load (.slice A es.length c) rfl rfl (bkCell (HS.get (.head _)) 17 _ (by simp [List.getElem?_append, List.length_map, hb, nums_length])) (by rfl)) rfl ?_
      refine p_run (l' := _) _ (x_len rfl rfl Try.underlying50) rfl ?_
      refine p_run (l' := [.agg (Value.int .i64 k :: ((nums .u8 (b.map bv)) ++ ([Value.slice A es.length c]))).toArray, .int .i64 key, .pointer (some ⟨g5, 0, none⟩), undef, .bool false, undef, .bool true, .bool false, .pointer (some ⟨g5, 17, none⟩), .slice A es.length c, .int .i64 (es.length : Int), .bool false, undef, undef, undef, undef, undef, undef, undef, undef, undef, undef, undef, undef, undef, undef, undef, undef, undef, undef, undef, undef, undef, undef, undef, undef, undef, undef, undef, undef, undef, undef, undef, undef, undef, undef, undef, undef, undef, undef, undef, undef, undef, undef, undef, undef, undef, undef, undef, undef, undef]) _ (x_cmp (k := .i64) (m := (es.length : Int)) (n := 50) .gtr false rfl rfl rfl (decide_eq_false (by omega)) rfl) rfl ?_
      refine p_run (l' := _) _ (x_move (.bool false) rfl rfl) rfl ?_
      refine p_on rfl (by rw [hops19]; rfl) ?_
      refine p_run (l' := _) _ (x_loads (Value.int .i64 k :: ((nums .u8 (b.map bv)) ++ ([Value.slice A es.length c]))) 18 rfl rfl (bkCells (HS.get (.head _)) 0 _ (whole _)) (by rfl) (by kernel_rfl) (by simp [List.length_map, hb, nums_length])) rfl ?_
      refine p_on rfl (by rw [hops19]; rfl) ?_
      refine w_call [.agg (Value.int .i64 k :: ((nums .u8 (b.map bv)) ++ ([Value.slice A es.length c]))).toArray] Try.func28 (by kernel_rfl) (by rfl) rfl ?_
      refine (right_node _ k b hb A c es (Kd.C_below hr HS.belowOf) hl).mono ?_
      rw [hok]
      rintro e w21 ⟨rfl, hb_⟩
      replace HS := HS.here hb_
      clear hb_
      refine ⟨_, rfl, ?_⟩
      refine p_on rfl (by rw [hops19]; rfl) ?_
      refine p_run (l' := [.agg (Value.int .i64 k :: ((nums .u8 (b.map bv)) ++ ([Value.slice A es.length c]))).toArray, .int .i64 key, .pointer (some ⟨g5, 0, none⟩), undef, .bool false, undef, .bool true, .bool false, .pointer (some ⟨g5, 17, none⟩), .slice A es.length c, .int .i64 (es.length : Int), .bool false, .bool false, .agg (Value.int .i64 k :: ((nums .u8 (b.map bv)) ++ ([Value.slice A es.length c]))).toArray, .bool true, .bool false, undef, undef, undef, undef, undef, undef, undef, undef, undef, undef, undef, undef, undef, undef, undef, undef, undef, undef, undef, undef, undef, undef, undef, undef, undef, undef, undef, undef, undef, undef, undef, undef, undef, undef, undef, undef, undef, undef, undef, undef, undef, undef, undef, undef, undef]) _ (x_not true rfl rfl) rfl ?_
      refine p_run (l' := _) _ (x_pick false (.bool true) (.bool false) (.bool false) rfl rfl rfl rfl rfl) rfl ?_
      clear hops19
      refine wpList_nil ?_
      refine fr_at (l' := [.agg (Value.int .i64 k :: ((nums .u8 (b.map bv)) ++ ([Value.slice A es.length c]))).toArray, .int .i64 key, .pointer (some ⟨g5, 0, none⟩), undef, .bool false, undef, .bool true, .bool false, .pointer (some ⟨g5, 17, none⟩), .slice A es.length c, .int .i64 (es.length : Int), .bool false, .bool false, .agg (Value.int .i64 k :: ((nums .u8 (b.map bv)) ++ ([Value.slice A es.length c]))).toArray, .bool true, .bool false, .bool false, undef, undef, undef, undef, undef, undef, undef, undef, undef, undef, undef, undef, undef, undef, undef, undef, undef, undef, undef, undef, undef, undef, undef, undef, undef, undef, undef, undef, undef, undef, undef, undef, undef, undef, undef, undef, undef, undef, undef, undef, undef, undef, undef, undef]) rfl ?_
      refine hK18 _ _ ?_
      refine c_false rfl ?_
      refine wp_skip ?_
      refine hK16 _ _ ?_
      refine wp_seq_k (fun K22 hK23 => ?_)
      refine c_region (fun ops25 hops24 => ?_)
      clear hops24
      refine p_run (l' := _) _ (x_field (j := 17) _ _ rfl rfl Try.underlying52 rfl (by rfl) rfl) rfl ?_
      refine p_run (l' := _) _ (x_load (.slice A es.length c) rfl rfl (bkCell (HS.get (.head _)) 17 _ (by simp [List.getElem?_append, List.length_map, hb, nums_length])) (by rfl)) rfl ?_
      refine p_run (l' := _) _ (x_move (.int .i64 key) rfl rfl) rfl ?_
      refine w_call [.slice A es.length c, .int .i64 key] Try.func29 (by kernel_rfl) (by rfl) rfl ?_
      refine (lat_any _ A c es key (Kd.C_below hr HS.belowOf) (by omega) (nd_sorted hok)).mono ?_
      rintro e w26 ⟨r, rfl, i, hp, hc_, hb_⟩
      replace HS := HS.here hb_
      clear hb_
      refine ⟨_, rfl, ?_⟩
      refine fr_to (l' := [.agg (Value.int .i64 k :: ((nums .u8 (b.map bv)) ++ ([Value.slice A es.length c]))).toArray, .int .i64 key, .pointer (some ⟨g5, 0, none⟩), undef, .bool false, undef, .bool true, .bool false, .pointer (some ⟨g5, 17, none⟩), .slice A es.length c, .int .i64 (es.length : Int), .bool false, .bool false, .agg (Value.int .i64 k :: ((nums .u8 (b.map bv)) ++ ([Value.slice A es.length c]))).toArray, .bool true, .bool false, .bool false, .pointer (some ⟨g5, 17, none⟩), .slice A es.length c, .int .i64 key, .int .i64 r, undef, undef, undef, undef, undef, undef, undef, undef, undef, undef, undef, undef, undef, undef, undef, undef, undef, undef, undef, undef, undef, undef, undef, undef, undef, undef, undef, undef, undef, undef, undef, undef, undef, undef, undef, undef, undef, undef, undef, undef]) rfl ?_
      refine p_run (l' := _) _ (x_assign (.int .i64 r) rfl rfl) rfl ?_
      refine wpList_nil ?_
      refine fr_at (l' := [.agg (Value.int .i64 k :: ((nums .u8 (b.map bv)) ++ ([Value.slice A es.length c]))).toArray, .int .i64 key, .pointer (some ⟨g5, 0, none⟩), undef, .bool false, .int .i64 r, .bool true, .bool false, .pointer (some ⟨g5, 17, none⟩), .slice A es.length c, .int .i64 (es.length : Int), .bool false, .bool false, .agg (Value.int .i64 k :: ((nums .u8 (b.map bv)) ++ ([Value.slice A es.length c]))).toArray, .bool true, .bool false, .bool false, .pointer (some ⟨g5, 17, none⟩), .slice A es.length c, .int .i64 key, .int .i64 r, undef, undef, undef, undef, undef, undef, undef, undef, undef, undef, undef, undef, undef, undef, undef, undef, undef, undef, undef, undef, undef, undef, undef, undef, undef, undef, undef, undef, undef, undef, undef, undef, undef, undef, undef, undef, undef, undef, undef, undef]) rfl ?_
      refine hK23 _ _ ?_
      refine wp_seq_k (fun K27 hK28 => ?_)
      refine wp_seq_k (fun K29 hK30 => ?_)
      rcases place_cases hok hp hc_ with ⟨p, x, rfl, hx, hxk, hyk⟩ | ⟨rfl, hyk⟩
      · skip
        have hpl := (List.getElem?_eq_some_iff.1 hx).1
        obtain ⟨ad, x_, hA_, -, -⟩ := en_get hr p hpl
        subst hA_
        refine c_region (fun ops32 hops31 => ?_)
        refine p_run (l' := _) _ (x_move (.int .i64 (p : Int)) rfl rfl) rfl ?_
        refine p_run (l' := _) _ (x_cmp (k := .i64) (m := (p : Int)) (n := -1) .lss false rfl rfl rfl (show decide ((p : Int) < (-1)) = false from decide_eq_false (by omega)) rfl) rfl ?_
        refine p_run (l' := _) _ (x_move (.bool false) rfl rfl) rfl ?_
        refine p_on rfl (by rw [hops31]; rfl) ?_
        refine p_run (l' := [.agg (Value.int .i64 k :: ((nums .u8 (b.map bv)) ++ ([Value.slice (some ad) es.length c]))).toArray, .int .i64 key, .pointer (some ⟨g5, 0, none⟩), undef, .bool false, .int .i64 (p : Int), .bool true, .bool false, .pointer (some ⟨g5, 17, none⟩), .slice (some ad) es.length c, .int .i64 (es.length : Int), .bool false, .bool false, .agg (Value.int .i64 k :: ((nums .u8 (b.map bv)) ++ ([Value.slice (some ad) es.length c]))).toArray, .bool true, .bool false, .bool false, .pointer (some ⟨g5, 17, none⟩), .slice (some ad) es.length c, .int .i64 key, .int .i64 (p : Int), .int .i64 (p : Int), .bool false, .bool false, .int .i64 (p : Int), undef, undef, undef, undef, undef, undef, undef, undef, undef, undef, undef, undef, undef, undef, undef, undef, undef, undef, undef, undef, undef, undef, undef, undef, undef, undef, undef, undef, undef, undef, undef, undef, undef, undef, undef, undef]) _ (x_move (.int .i64 (p : Int)) rfl rfl) rfl ?_
        refine p_on rfl (by rw [hops31]; rfl) ?_
        refine p_run (l' := _) _ (x_field (j := 17) _ _ rfl rfl Try.underlying52 rfl (by rfl) rfl) rfl ?_
        refine p_on rfl (by rw [hops31]; rfl) ?_
        refine p_run (l' := _) _ (x_load (.slice (some ad) es.length c) rfl rfl (bkCell (HS.get (.head _)) 17 _ (by simp [List.getElem?_append, List.length_map, hb, nums_length])) (by rfl)) rfl ?_
        refine p_on rfl (by rw [hops31]; rfl) ?_
        refine p_run (l' := _) _ (x_len rfl rfl Try.underlying50) rfl ?_
        refine p_on rfl (by rw [hops31]; rfl) ?_
        refine p_run (l' := [.agg (Value.int .i64 k :: ((nums .u8 (b.map bv)) ++ ([Value.slice (some ad) es.length c]))).toArray, .int .i64 key, .pointer (some ⟨g5, 0, none⟩), undef, .bool false, .int .i64 (p : Int), .bool true, .bool false, .pointer (some ⟨g5, 17, none⟩), .slice (some ad) es.length c, .int .i64 (es.length : Int), .bool false, .bool false, .agg (Value.int .i64 k :: ((nums .u8 (b.map bv)) ++ ([Value.slice (some ad) es.length c]))).toArray, .bool true, .bool false, .bool false, .pointer (some ⟨g5, 17, none⟩), .slice (some ad) es.length c, .int .i64 key, .int .i64 (p : Int), .int .i64 (p : Int), .bool false, .bool false, .int .i64 (p : Int), .pointer (some ⟨g5, 17, none⟩), .slice (some ad) es.length c, .int .i64 (es.length : Int), .bool false, undef, undef, undef, undef, undef, undef, undef, undef, undef, undef, undef, undef, undef, undef, undef, undef, undef, undef, undef, undef, undef, undef, undef, undef, undef, undef, undef, undef, undef, undef, undef, undef]) _ (x_cmp (k := .i64) (m := (p : Int)) (n := (es.length : Int)) .geq false rfl rfl rfl (show decide _ = false from decide_eq_false (by omega)) rfl) rfl ?_
        refine p_run (l' := _) _ (x_pick false (.bool true) (.bool false) (.bool false) rfl rfl rfl rfl rfl) rfl ?_
        clear hops31
        refine wpList_nil ?_
        refine fr_at (l' := [.agg (Value.int .i64 k :: ((nums .u8 (b.map bv)) ++ ([Value.slice (some ad) es.length c]))).toArray, .int .i64 key, .pointer (some ⟨g5, 0, none⟩), undef, .bool false, .int .i64 (p : Int), .bool true, .bool false, .pointer (some ⟨g5, 17, none⟩), .slice (some ad) es.length c, .int .i64 (es.length : Int), .bool false, .bool false, .agg (Value.int .i64 k :: ((nums .u8 (b.map bv)) ++ ([Value.slice (some ad) es.length c]))).toArray, .bool true, .bool false, .bool false, .pointer (some ⟨g5, 17, none⟩), .slice (some ad) es.length c, .int .i64 key, .int .i64 (p : Int), .int .i64 (p : Int), .bool false, .bool false, .int .i64 (p : Int), .pointer (some ⟨g5, 17, none⟩), .slice (some ad) es.length c, .int .i64 (es.length : Int), .bool false, .bool false, undef, undef, undef, undef, undef, undef, undef, undef, undef, undef, undef, undef, undef, undef, undef, undef, undef, undef, undef, undef, undef, undef, undef, undef, undef, undef, undef, undef, undef, undef, undef]) rfl ?_
        refine hK30 _ _ ?_
        refine c_false rfl ?_
        refine wp_skip ?_
        refine hK28 _ _ ?_
        refine wp_seq_k (fun K33 hK34 => ?_)
        by_cases hN : p + 1 = es.length
        · skip
          refine c_region (fun ops36 hops35 => ?_)
          refine p_run (l' := _) _ (x_move (.int .i64 (p : Int)) rfl rfl) rfl ?_
          refine p_run (l' := _) _ (x_cmp (k := .i64) (m := (p : Int)) (n := 0) .lss false rfl rfl rfl (show decide ((p : Int) < 0) = false from decide_eq_false (by omega)) rfl) rfl ?_
          refine p_run (l' := _) _ (x_move (.bool false) rfl rfl) rfl ?_
          refine p_on rfl (by rw [hops35]; rfl) ?_
          refine p_run (l' := [.agg (Value.int .i64 k :: ((nums .u8 (b.map bv)) ++ ([Value.slice (some ad) es.length c]))).toArray, .int .i64 key, .pointer (some ⟨g5, 0, none⟩), undef, .bool false, .int .i64 (p : Int), .bool true, .bool false, .pointer (some ⟨g5, 17, none⟩), .slice (some ad) es.length c, .int .i64 (es.length : Int), .bool false, .bool false, .agg (Value.int .i64 k :: ((nums .u8 (b.map bv)) ++ ([Value.slice (some ad) es.length c]))).toArray, .bool true, .bool false, .bool false, .pointer (some ⟨g5, 17, none⟩), .slice (some ad) es.length c, .int .i64 key, .int .i64 (p : Int), .int .i64 (p : Int), .bool false, .bool false, .int .i64 (p : Int), .pointer (some ⟨g5, 17, none⟩), .slice (some ad) es.length c, .int .i64 (es.length : Int), .bool false, .bool false, .int .i64 (p : Int), .bool false, .bool false, .pointer (some ⟨g5, 17, none⟩), undef, undef, undef, undef, undef, undef, undef, undef, undef, undef, undef, undef, undef, undef, undef, undef, undef, undef, undef, undef, undef, undef, undef, undef, undef, undef, undef]) _ (x_field (j := 17) _ _ rfl rfl Try.underlying52 rfl (by rfl) rfl) rfl ?_
          refine p_on rfl (by rw [hops35]; rfl) ?_
          refine p_run (l' := _) _ (x_load (.slice (some ad) es.length c) rfl rfl (bkCell (HS.get (.head _)) 17 _ (by simp [List.getElem?_append, List.length_map, hb, nums_length])) (by rfl)) rfl ?_
          refine p_on rfl (by rw [hops35]; rfl) ?_
          refine p_run (l' := _) _ (x_move (.int .i64 (p : Int)) rfl rfl) rfl ?_
          refine p_on rfl (by rw [hops35]; rfl) ?_
          refine p_run (l' := _) _ (x_index (A := ad) (j := p * 2) (sz := 2) rfl rfl rfl Try.underlying50 (by kernel_rfl) (by omega) rfl) rfl ?_
          refine p_on rfl (by rw [hops35]; rfl) ?_
          refine p_run (l' := [.agg (Value.int .i64 k :: ((nums .u8 (b.map bv)) ++ ([Value.slice (some ad) es.length c]))).toArray, .int .i64 key, .pointer (some ⟨g5, 0, none⟩), undef, .bool false, .int .i64 (p : Int), .bool true, .bool false, .pointer (some ⟨g5, 17, none⟩), .slice (some ad) es.length c, .int .i64 (es.length : Int), .bool false, .bool false, .agg (Value.int .i64 k :: ((nums .u8 (b.map bv)) ++ ([Value.slice (some ad) es.length c]))).toArray, .bool true, .bool false, .bool false, .pointer (some ⟨g5, 17, none⟩), .slice (some ad) es.length c, .int .i64 key, .int .i64 (p : Int), .int .i64 (p : Int), .bool false, .bool false, .int .i64 (p : Int), .pointer (some ⟨g5, 17, none⟩), .slice (some ad) es.length c, .int .i64 (es.length : Int), .bool false, .bool false, .int .i64 (p : Int), .bool false, .bool false, .pointer (some ⟨g5, 17, none⟩), .slice (some ad) es.length c, .int .i64 (p : Int), .pointer (some ((ad).add (p * 2))), .pointer (some (((ad).add (p * 2)).add 0)), undef, undef, undef, undef, undef, undef, undef, undef, undef, undef, undef, undef, undef, undef, undef, undef, undef, undef, undef, undef, undef, undef, undef]) _ (x_fieldA _ _ rfl rfl Try.underlying62 rfl (by rfl)) rfl ?_
          refine p_on rfl (by rw [hops35]; rfl) ?_
          refine p_run (l' := _) _ (x_load (.int .i64 x.1) rfl rfl (en_old (Kd.C_below hr HS.belowOf) hx) (by rfl)) rfl ?_
          refine p_on rfl (by rw [hops35]; rfl) ?_
          refine p_run (l' := _) _ (x_move (.int .i64 key) rfl rfl) rfl ?_
          refine p_on rfl (by rw [hops35]; rfl) ?_
          refine p_run (l' := _) _ (x_cmp (k := .i64) (m := x.1) (n := key) .leq true rfl rfl rfl (show decide _ = true from decide_eq_true hxk) rfl) rfl ?_
          refine p_run (l' := [.agg (Value.int .i64 k :: ((nums .u8 (b.map bv)) ++ ([Value.slice (some ad) es.length c]))).toArray, .int .i64 key, .pointer (some ⟨g5, 0, none⟩), undef, .bool false, .int .i64 (p : Int), .bool true, .bool false, .pointer (some ⟨g5, 17, none⟩), .slice (some ad) es.length c, .int .i64 (es.length : Int), .bool false, .bool false, .agg (Value.int .i64 k :: ((nums .u8 (b.map bv)) ++ ([Value.slice (some ad) es.length c]))).toArray, .bool true, .bool false, .bool false, .pointer (some ⟨g5, 17, none⟩), .slice (some ad) es.length c, .int .i64 key, .int .i64 (p : Int), .int .i64 (p : Int), .bool false, .bool false, .int .i64 (p : Int), .pointer (some ⟨g5, 17, none⟩), .slice (some ad) es.length c, .int .i64 (es.length : Int), .bool false, .bool false, .int .i64 (p : Int), .bool false, .bool false, .pointer (some ⟨g5, 17, none⟩), .slice (some ad) es.length c, .int .i64 (p : Int), .pointer (some ((ad).add (p * 2))), .pointer (some (((ad).add (p * 2)).add 0)), .int .i64 x.1, .int .i64 key, .bool true, .bool true, undef, undef, undef, undef, undef, undef, undef, undef, undef, undef, undef, undef, undef, undef, undef, undef, undef, undef, undef]) _ (x_pick false (.bool true) (.bool true) (.bool true) rfl rfl rfl rfl rfl) rfl ?_
          refine p_run (l' := _) _ (x_move (.bool true) rfl rfl) rfl ?_
          refine p_on rfl (by rw [hops35]; rfl) ?_
          refine p_run (l' := _) _ (x_move (.int .i64 (p : Int)) rfl rfl) rfl ?_
          refine p_on rfl (by rw [hops35]; rfl) ?_
          refine p_run (l' := _) _ (x_arith (k := .i64) (m := (p : Int)) (n := 1) .add (((p + 1 : Nat) : Int)) rfl rfl rfl (show IntKind.i64.wrap ((p : Int) + 1) = ((p + 1 : Nat) : Int) from ((wr64' (by omega)).trans (by omega))) rfl) rfl ?_
          refine p_on rfl (by rw [hops35]; rfl) ?_
          refine p_run (l' := [.agg (Value.int .i64 k :: ((nums .u8 (b.map bv)) ++ ([Value.slice (some ad) es.length c]))).toArray, .int .i64 key, .pointer (some ⟨g5, 0, none⟩), undef, .bool false, .int .i64 (p : Int), .bool true, .bool false, .pointer (some ⟨g5, 17, none⟩), .slice (some ad) es.length c, .int .i64 (es.length : Int), .bool false, .bool false, .agg (Value.int .i64 k :: ((nums .u8 (b.map bv)) ++ ([Value.slice (some ad) es.length c]))).toArray, .bool true, .bool false, .bool false, .pointer (some ⟨g5, 17, none⟩), .slice (some ad) es.length c, .int .i64 key, .int .i64 (p : Int), .int .i64 (p : Int), .bool false, .bool false, .int .i64 (p : Int), .pointer (some ⟨g5, 17, none⟩), .slice (some ad) es.length c, .int .i64 (es.length : Int), .bool false, .bool false, .int .i64 (p : Int), .bool false, .bool false, .pointer (some ⟨g5, 17, none⟩), .slice (some ad) es.length c, .int .i64 (p : Int), .pointer (some ((ad).add (p * 2))), .pointer (some (((ad).add (p * 2)).add 0)), .int .i64 x.1, .int .i64 key, .bool true, .bool true, .bool true, .int .i64 (p : Int), .int .i64 ((p + 1 : Nat) : Int), .pointer (some ⟨g5, 17, none⟩), undef, undef, undef, undef, undef, undef, undef, undef, undef, undef, undef, undef, undef, undef, undef]) _ (x_field (j := 17) _ _ rfl rfl Try.underlying52 rfl (by rfl) rfl) rfl ?_
          refine p_on rfl (by rw [hops35]; rfl) ?_
          refine p_run (l' := _) _ (x_load (.slice (some ad) es.length c) rfl rfl (bkCell (HS.get (.head _)) 17 _ (by simp [List.getElem?_append, List.length_map, hb, nums_length])) (by rfl)) rfl ?_
          refine p_on rfl (by rw [hops35]; rfl) ?_
          refine p_run (l' := _) _ (x_len rfl rfl Try.underlying50) rfl ?_
          refine p_on rfl (by rw [hops35]; rfl) ?_
          refine p_run (l' := _) _ (x_cmp (k := .i64) (m := ((p + 1 : Nat) : Int)) (n := (es.length : Int)) .eql true rfl rfl rfl (cmp_yes (by omega)) rfl) rfl ?_
          refine p_on rfl (by rw [hops35]; rfl) ?_
          refine p_run (l' := [.agg (Value.int .i64 k :: ((nums .u8 (b.map bv)) ++ ([Value.slice (some ad) es.length c]))).toArray, .int .i64 key, .pointer (some ⟨g5, 0, none⟩), undef, .bool false, .int .i64 (p : Int), .bool true, .bool false, .pointer (some ⟨g5, 17, none⟩), .slice (some ad) es.length c, .int .i64 (es.length : Int), .bool false, .bool false, .agg (Value.int .i64 k :: ((nums .u8 (b.map bv)) ++ ([Value.slice (some ad) es.length c]))).toArray, .bool true, .bool false, .bool false, .pointer (some ⟨g5, 17, none⟩), .slice (some ad) es.length c, .int .i64 key, .int .i64 (p : Int), .int .i64 (p : Int), .bool false, .bool false, .int .i64 (p : Int), .pointer (some ⟨g5, 17, none⟩), .slice (some ad) es.length c, .int .i64 (es.length : Int), .bool false, .bool false, .int .i64 (p : Int), .bool false, .bool false, .pointer (some ⟨g5, 17, none⟩), .slice (some ad) es.length c, .int .i64 (p : Int), .pointer (some ((ad).add (p * 2))), .pointer (some (((ad).add (p * 2)).add 0)), .int .i64 x.1, .int .i64 key, .bool true, .bool true, .bool true, .int .i64 (p : Int), .int .i64 ((p + 1 : Nat) : Int), .pointer (some ⟨g5, 17, none⟩), .slice (some ad) es.length c, .int .i64 (es.length : Int), .bool true, .bool true, undef, undef, undef, undef, undef, undef, undef, undef, undef, undef, undef]) _ (x_move (.bool true) rfl rfl) rfl ?_
          refine p_off (l' := _) (by rw [hops35]; rfl) rfl ?_
          refine p_off (l' := _) (by rw [hops35]; rfl) rfl ?_
          refine p_off (l' := _) (by rw [hops35]; rfl) rfl ?_
          refine p_off (l' := [.agg (Value.int .i64 k :: ((nums .u8 (b.map bv)) ++ ([Value.slice (some ad) es.length c]))).toArray, .int .i64 key, .pointer (some ⟨g5, 0, none⟩), undef, .bool false, .int .i64 (p : Int), .bool true, .bool false, .pointer (some ⟨g5, 17, none⟩), .slice (some ad) es.length c, .int .i64 (es.length : Int), .bool false, .bool false, .agg (Value.int .i64 k :: ((nums .u8 (b.map bv)) ++ ([Value.slice (some ad) es.length c]))).toArray, .bool true, .bool false, .bool false, .pointer (some ⟨g5, 17, none⟩), .slice (some ad) es.length c, .int .i64 key, .int .i64 (p : Int), .int .i64 (p : Int), .bool false, .bool false, .int .i64 (p : Int), .pointer (some ⟨g5, 17, none⟩), .slice (some ad) es.length c, .int .i64 (es.length : Int), .bool false, .bool false, .int .i64 (p : Int), .bool false, .bool false, .pointer (some ⟨g5, 17, none⟩), .slice (some ad) es.length c, .int .i64 (p : Int), .pointer (some ((ad).add (p * 2))), .pointer (some (((ad).add (p * 2)).add 0)), .int .i64 x.1, .int .i64 key, .bool true, .bool true, .bool true, .int .i64 (p : Int), .int .i64 ((p + 1 : Nat) : Int), .pointer (some ⟨g5, 17, none⟩), .slice (some ad) es.length c, .int .i64 (es.length : Int), .bool true, .bool true, undef, undef, undef, undef, undef, undef, undef, undef, undef, undef, undef]) (by rw [hops35]; rfl) rfl ?_
          refine p_off (l' := _) (by rw [hops35]; rfl) rfl ?_
          refine p_off (l' := _) (by rw [hops35]; rfl) rfl ?_
          refine p_off (l' := _) (by rw [hops35]; rfl) rfl ?_
          refine p_off (l' := [.agg (Value.int .i64 k :: ((nums .u8 (b.map bv)) ++ ([Value.slice (some ad) es.length c]))).toArray, .int .i64 key, .pointer (some ⟨g5, 0, none⟩), undef, .bool false, .int .i64 (p : Int), .bool true, .bool false, .pointer (some ⟨g5, 17, none⟩), .slice (some ad) es.length c, .int .i64 (es.length : Int), .bool false, .bool false, .agg (Value.int .i64 k :: ((nums .u8 (b.map bv)) ++ ([Value.slice (some ad) es.length c]))).toArray, .bool true, .bool false, .bool false, .pointer (some ⟨g5, 17, none⟩), .slice (some ad) es.length c, .int .i64 key, .int .i64 (p : Int), .int .i64 (p : Int), .bool false, .bool false, .int .i64 (p : Int), .pointer (some ⟨g5, 17, none⟩), .slice (some ad) es.length c, .int .i64 (es.length : Int), .bool false, .bool false, .int .i64 (p : Int), .bool false, .bool false, .pointer (some ⟨g5, 17, none⟩), .slice (some ad) es.length c, .int .i64 (p : Int), .pointer (some ((ad).add (p * 2))), .pointer (some (((ad).add (p * 2)).add 0)), .int .i64 x.1, .int .i64 key, .bool true, .bool true, .bool true, .int .i64 (p : Int), .int .i64 ((p + 1 : Nat) : Int), .pointer (some ⟨g5, 17, none⟩), .slice (some ad) es.length c, .int .i64 (es.length : Int), .bool true, .bool true, undef, undef, undef, undef, undef, undef, undef, undef, undef, undef, undef]) (by rw [hops35]; rfl) rfl ?_
          refine p_off (l' := _) (by rw [hops35]; rfl) rfl ?_
          refine p_on rfl (by rw [hops35]; rfl) ?_
          refine p_run (l' := _) _ (x_pick true (.bool true) (undef) (.bool true) rfl rfl rfl rfl rfl) rfl ?_
          refine p_run (l' := _) _ (x_pick true (.bool true) (.bool false) (.bool true) rfl rfl rfl rfl rfl) rfl ?_
          refine p_run (l' := [.agg (Value.int .i64 k :: ((nums .u8 (b.map bv)) ++ ([Value.slice (some ad) es.length c]))).toArray, .int .i64 key, .pointer (some ⟨g5, 0, none⟩), undef, .bool true, .int .i64 (p : Int), .bool true, .bool false, .pointer (some ⟨g5, 17, none⟩), .slice (some ad) es.length c, .int .i64 (es.length : Int), .bool false, .bool false, .agg (Value.int .i64 k :: ((nums .u8 (b.map bv)) ++ ([Value.slice (some ad) es.length c]))).toArray, .bool true, .bool false, .bool false, .pointer (some ⟨g5, 17, none⟩), .slice (some ad) es.length c, .int .i64 key, .int .i64 (p : Int), .int .i64 (p : Int), .bool false, .bool false, .int .i64 (p : Int), .pointer (some ⟨g5, 17, none⟩), .slice (some ad) es.length c, .int .i64 (es.length : Int), .bool false, .bool false, .int .i64 (p : Int), .bool false, .bool false, .pointer (some ⟨g5, 17, none⟩), .slice (some ad) es.length c, .int .i64 (p : Int), .pointer (some ((ad).add (p * 2))), .pointer (some (((ad).add (p * 2)).add 0)), .int .i64 x.1, .int .i64 key, .bool true, .bool true, .bool true, .int .i64 (p : Int), .int .i64 ((p + 1 : Nat) : Int), .pointer (some ⟨g5, 17, none⟩), .slice (some ad) es.length c, .int .i64 (es.length : Int), .bool true, .bool true, undef, undef, undef, undef, undef, undef, undef, undef, undef, .bool true, .bool true]) _ (x_assign (.bool true) rfl rfl) rfl ?_
          clear hops35
          refine wpList_nil ?_
          refine hK34 _ _ ?_
          refine wp_ret ?_
          try simp only [Exit.inBlock, Exit.then]
          refine c_ret (.bool true) (r_tmp rfl rfl) ?_
          exact ⟨rfl, HS.belowOf⟩
        · skip
          obtain ⟨y, hy⟩ : ∃ y, es[p + 1]? = some y := ⟨_, List.getElem?_eq_getElem (by omega)⟩
          have hky := hyk y hy
          refine c_region (fun ops38 hops37 => ?_)
          refine p_run (l' := _) _ (x_move (.int .i64 (p : Int)) rfl rfl) rfl ?_
          refine p_run (l' := _) _ (x_cmp (k := .i64) (m := (p : Int)) (n := 0) .lss false rfl rfl rfl (show decide ((p : Int) < 0) = false from decide_eq_false (by omega)) rfl) rfl ?_
          refine p_run (l' := _) _ (x_move (.bool false) rfl rfl) rfl ?_
          refine p_on rfl (by rw [hops37]; rfl) ?_
          refine p_run (l' := [.agg (Value.int .i64 k :: ((nums .u8 (b.map bv)) ++ ([Value.slice (some ad) es.length c]))).toArray, .int .i64 key, .pointer (some ⟨g5, 0, none⟩), undef, .bool false, .int .i64 (p : Int), .bool true, .bool false, .pointer (some ⟨g5, 17, none⟩), .slice (some ad) es.length c, .int .i64 (es.length : Int), .bool false, .bool false, .agg (Value.int .i64 k :: ((nums .u8 (b.map bv)) ++ ([Value.slice (some ad) es.length c]))).toArray, .bool true, .bool false, .bool false, .pointer (some ⟨g5, 17, none⟩), .slice (some ad) es.length c, .int .i64 key, .int .i64 (p : Int), .int .i64 (p : Int), .bool false, .bool false, .int .i64 (p : Int), .pointer (some ⟨g5, 17, none⟩), .slice (some ad) es.length c, .int .i64 (es.length : Int), .bool false, .bool false, .int .i64 (p : Int), .bool false, .bool false, .pointer (some ⟨g5, 17, none⟩), undef, undef, undef, undef, undef, undef, undef, undef, undef, undef, undef, undef, undef, undef, undef, undef, undef, undef, undef, undef, undef, undef, undef, undef, undef, undef, undef]) _ (x_field (j := 17) _ _ rfl rfl Try.underlying52 rfl (by rfl) rfl) rfl ?_
          refine p_on rfl (by rw [hops37]; rfl) ?_
          refine p_run (l' := _) _ (x_load (.slice (some ad) es.length c) rfl rfl (bkCell (HS.get (.head _)) 17 _ (by simp [List.getElem?_append, List.length_map, hb, nums_length])) (by rfl)) rfl ?_
          refine p_on rfl (by rw [hops37]; rfl) ?_
          refine p_run (l' := _) _ (x_move (.int .i64 (p : Int)) rfl rfl) rfl ?_
          refine p_on rfl (by rw [hops37]; rfl) ?_
          refine p_run (l' := _) _ (x_index (A := ad) (j := p * 2) (sz := 2) rfl rfl rfl Try.underlying50 (by kernel_rfl) (by omega) rfl) rfl ?_
          refine p_on rfl (by rw [hops37]; rfl) ?_
          refine p_run (l' := [.agg (Value.int .i64 k :: ((nums .u8 (b.map bv)) ++ ([Value.slice (some ad) es.length c]))).toArray, .int .i64 key, .pointer (some ⟨g5, 0, none⟩), undef, .bool false, .int .i64 (p : Int), .bool true, .bool false, .pointer (some ⟨g5, 17, none⟩), .slice (some ad) es.length c, .int .i64 (es.length : Int), .bool false, .bool false, .agg (Value.int .i64 k :: ((nums .u8 (b.map bv)) ++ ([Value.slice (some ad) es.length c]))).toArray, .bool true, .bool false, .bool false, .pointer (some ⟨g5, 17, none⟩), .slice (some ad) es.length c, .int .i64 key, .int .i64 (p : Int), .int .i64 (p : Int), .bool false, .bool false, .int .i64 (p : Int), .pointer (some ⟨g5, 17, none⟩), .slice (some ad) es.length c, .int .i64 (es.length : Int), .bool false, .bool false, .int .i64 (p : Int), .bool false, .bool false, .pointer (some ⟨g5, 17, none⟩), .slice (some ad) es.length c, .int .i64 (p : Int), .pointer (some ((ad).add (p * 2))), .pointer (some (((ad).add (p * 2)).add 0)), undef, undef, undef, undef, undef, undef, undef, undef, undef, undef, undef, undef, undef, undef, undef, undef, undef, undef, undef, undef, undef, undef, undef]) _ (x_fieldA _ _ rfl rfl Try.underlying62 rfl (by rfl)) rfl ?_
          refine p_on rfl (by rw [hops37]; rfl) ?_
          refine p_run (l' := _) _ (x_load (.int .i64 x.1) rfl rfl (en_old (Kd.C_below hr HS.belowOf) hx) (by rfl)) rfl ?_
          refine p_on rfl (by rw [hops37]; rfl) ?_
          refine p_run (l' := _) _ (x_move (.int .i64 key) rfl rfl) rfl ?_
          refine p_on rfl (by rw [hops37]; rfl) ?_
          refine p_run (l' := _) _ (x_cmp (k := .i64) (m := x.1) (n := key) .leq true rfl rfl rfl (show decide _ = true from decide_eq_true hxk) rfl) rfl ?_
          refine p_run (l' := [.agg (Value.int .i64 k :: ((nums .u8 (b.map bv)) ++ ([Value.slice (some ad) es.length c]))).toArray, .int .i64 key, .pointer (some ⟨g5, 0, none⟩), undef, .bool false, .int .i64 (p : Int), .bool true, .bool false, .pointer (some ⟨g5, 17, none⟩), .slice (some ad) es.length c, .int .i64 (es.length : Int), .bool false, .bool false, .agg (Value.int .i64 k :: ((nums .u8 (b.map bv)) ++ ([Value.slice (some ad) es.length c]))).toArray, .bool true, .bool false, .bool false, .pointer (some ⟨g5, 17, none⟩), .slice (some ad) es.length c, .int .i64 key, .int .i64 (p : Int), .int .i64 (p : Int), .bool false, .bool false, .int .i64 (p : Int), .pointer (some ⟨g5, 17, none⟩), .slice (some ad) es.length c, .int .i64 (es.length : Int), .bool false, .bool false, .int .i64 (p : Int), .bool false, .bool false, .pointer (some ⟨g5, 17, none⟩), .slice (some ad) es.length c, .int .i64 (p : Int), .pointer (some ((ad).add (p * 2))), .pointer (some (((ad).add (p * 2)).add 0)), .int .i64 x.1, .int .i64 key, .bool true, .bool true, undef, undef, undef, undef, undef, undef, undef, undef, undef, undef, undef, undef, undef, undef, undef, undef, undef, undef, undef]) _ (x_pick false (.bool true) (.bool true) (.bool true) rfl rfl rfl rfl rfl) rfl ?_
          refine p_run (l' := _) _ (x_move (.bool true) rfl rfl) rfl ?_
          refine p_on rfl (by rw [hops37]; rfl) ?_
          refine p_run (l' := _) _ (x_move (.int .i64 (p : Int)) rfl rfl) rfl ?_
          refine p_on rfl (by rw [hops37]; rfl) ?_
          refine p_run (l' := _) _ (x_arith (k := .i64) (m := (p : Int)) (n := 1) .add (((p + 1 : Nat) : Int)) rfl rfl rfl (show IntKind.i64.wrap ((p : Int) + 1) = ((p + 1 : Nat) : Int) from ((wr64' (by omega)).trans (by omega))) rfl) rfl ?_
          refine p_on rfl (by rw [hops37]; rfl) ?_
          refine p_run (l' := [.agg (Value.int .i64 k :: ((nums .u8 (b.map bv)) ++ ([Value.slice (some ad) es.length c]))).toArray, .int .i64 key, .pointer (some ⟨g5, 0, none⟩), undef, .bool false, .int .i64 (p : Int), .bool true, .bool false, .pointer (some ⟨g5, 17, none⟩), .slice (some ad) es.length c, .int .i64 (es.length : Int), .bool false, .bool false, .agg (Value.int .i64 k :: ((nums .u8 (b.map bv)) ++ ([Value.slice (some ad) es.length c]))).toArray, .bool true, .bool false, .bool false, .pointer (some ⟨g5, 17, none⟩), .slice (some ad) es.length c, .int .i64 key, .int .i64 (p : Int), .int .i64 (p : Int), .bool false, .bool false, .int .i64 (p : Int), .pointer (some ⟨g5, 17, none⟩), .slice (some ad) es.length c, .int .i64 (es.length : Int), .bool false, .bool false, .int .i64 (p : Int), .bool false, .bool false, .pointer (some ⟨g5, 17, none⟩), .slice (some ad) es.length c, .int .i64 (p : Int), .pointer (some ((ad).add (p * 2))), .pointer (some (((ad).add (p * 2)).add 0)), .int .i64 x.1, .int .i64 key, .bool true, .bool true, .bool true, .int .i64 (p : Int), .int .i64 ((p + 1 : Nat) : Int), .pointer (some ⟨g5, 17, none⟩), undef, undef, undef, undef, undef, undef, undef, undef, undef, undef, undef, undef, undef, undef, undef]) _ (x_field (j := 17) _ _ rfl rfl Try.underlying52 rfl (by rfl) rfl) rfl ?_
          refine p_on rfl (by rw [hops37]; rfl) ?_
          refine p_run (l' := _) _ (x_load (.slice (some ad) es.length c) rfl rfl (bkCell (HS.get (.head _)) 17 _ (by simp [List.getElem?_append, List.length_map, hb, nums_length])) (by rfl)) rfl ?_
          refine p_on rfl (by rw [hops37]; rfl) ?_
          refine p_run (l' := _) _ (x_len rfl rfl Try.underlying50) rfl ?_
          refine p_on rfl (by rw [hops37]; rfl) ?_
          refine p_run (l' := _) _ (x_cmp (k := .i64) (m := ((p + 1 : Nat) : Int)) (n := (es.length : Int)) .eql false rfl rfl rfl (cmp_not (by omega)) rfl) rfl ?_
          refine p_on rfl (by rw [hops37]; rfl) ?_
          refine p_run (l' := [.agg (Value.int .i64 k :: ((nums .u8 (b.map bv)) ++ ([Value.slice (some ad) es.length c]))).toArray, .int .i64 key, .pointer (some ⟨g5, 0, none⟩), undef, .bool false, .int .i64 (p : Int), .bool true, .bool false, .pointer (some ⟨g5, 17, none⟩), .slice (some ad) es.length c, .int .i64 (es.length : Int), .bool false, .bool false, .agg (Value.int .i64 k :: ((nums .u8 (b.map bv)) ++ ([Value.slice (some ad) es.length c]))).toArray, .bool true, .bool false, .bool false, .pointer (some ⟨g5, 17, none⟩), .slice (some ad) es.length c, .int .i64 key, .int .i64 (p : Int), .int .i64 (p : Int), .bool false, .bool false, .int .i64 (p : Int), .pointer (some ⟨g5, 17, none⟩), .slice (some ad) es.length c, .int .i64 (es.length : Int), .bool false, .bool false, .int .i64 (p : Int), .bool false, .bool false, .pointer (some ⟨g5, 17, none⟩), .slice (some ad) es.length c, .int .i64 (p : Int), .pointer (some ((ad).add (p * 2))), .pointer (some (((ad).add (p * 2)).add 0)), .int .i64 x.1, .int .i64 key, .bool true, .bool true, .bool true, .int .i64 (p : Int), .int .i64 ((p + 1 : Nat) : Int), .pointer (some ⟨g5, 17, none⟩), .slice (some ad) es.length c, .int .i64 (es.length : Int), .bool false, .bool false, undef, undef, undef, undef, undef, undef, undef, undef, undef, undef, undef]) _ (x_move (.bool false) rfl rfl) rfl ?_
          refine p_on rfl (by rw [hops37]; rfl) ?_
          refine p_run (l' := _) _ (x_field (j := 17) _ _ rfl rfl Try.underlying52 rfl (by rfl) rfl) rfl ?_
          refine p_on rfl (by rw [hops37]; rfl) ?_
          refine p_run (l' := _) _ (x_load (.slice (some ad) es.length c) rfl rfl (bkCell (HS.get (.head _)) 17 _ (by simp [List.getElem?_append, List.length_map, hb, nums_length])) (by rfl)) rfl ?_
          refine p_on rfl (by rw [hops37]; rfl) ?_
          refine p_run (l' := _) _ (x_move (.int .i64 (p : Int)) rfl rfl) rfl ?_
          refine p_on rfl (by rw [hops37]; rfl) ?_
          refine p_run (l' := [.agg (Value.int .i64 k :: ((nums .u8 (b.map bv)) ++ ([Value.slice (some ad) es.length c]))).toArray, .int .i64 key, .pointer (some ⟨g5, 0, none⟩), undef, .bool false, .int .i64 (p : Int), .bool true, .bool false, .pointer (some ⟨g5, 17, none⟩), .slice (some ad) es.length c, .int .i64 (es.length : Int), .bool false, .bool false, .agg (Value.int .i64 k :: ((nums .u8 (b.map bv)) ++ ([Value.slice (some ad) es.length c]))).toArray, .bool true, .bool false, .bool false, .pointer (some ⟨g5, 17, none⟩), .slice (some ad) es.length c, .int .i64 key, .int .i64 (p : Int), .int .i64 (p : Int), .bool false, .bool false, .int .i64 (p : Int), .pointer (some ⟨g5, 17, none⟩), .slice (some ad) es.length c, .int .i64 (es.length : Int), .bool false, .bool false, .int .i64 (p : Int), .bool false, .bool false, .pointer (some ⟨g5, 17, none⟩), .slice (some ad) es.length c, .int .i64 (p : Int), .pointer (some ((ad).add (p * 2))), .pointer (some (((ad).add (p * 2)).add 0)), .int .i64 x.1, .int .i64 key, .bool true, .bool true, .bool true, .int .i64 (p : Int), .int .i64 ((p + 1 : Nat) : Int), .pointer (some ⟨g5, 17, none⟩), .slice (some ad) es.length c, .int .i64 (es.length : Int), .bool false, .bool false, .pointer (some ⟨g5, 17, none⟩), .slice (some ad) es.length c, .int .i64 (p : Int), .int .i64 ((p + 1 : Nat) : Int), undef, undef, undef, undef, undef, undef, undef]) _ (x_arith (k := .i64) (m := (p : Int)) (n := 1) .add (((p + 1 : Nat) : Int)) rfl rfl rfl (show IntKind.i64.wrap ((p : Int) + 1) = ((p + 1 : Nat) : Int) from ((wr64' (by omega)).trans (by omega))) rfl) rfl ?_
          refine p_on rfl (by rw [hops37]; rfl) ?_
          refine p_run (l' := _) _ (x_index (A := ad) (j := (p + 1 : Nat) * 2) (sz := 2) rfl rfl rfl Try.underlying50 (by kernel_rfl) (by omega) rfl) rfl ?_
          refine p_on rfl (by rw [hops37]; rfl) ?_
          refine p_run (l' := _) _ (x_fieldA _ _ rfl rfl Try.underlying62 rfl (by rfl)) rfl ?_
          refine p_on rfl (by rw [hops37]; rfl) ?_
          refine p_run (l' := _) _ (x_load (.int .i64 y.1) rfl rfl (en_old (Kd.C_below hr HS.belowOf) hy) (by rfl)) rfl ?_
          refine p_on rfl (by rw [hops37]; rfl) ?_
          refine p_run (l' := [.agg (Value.int .i64 k :: ((nums .u8 (b.map bv)) ++ ([Value.slice (some ad) es.length c]))).toArray, .int .i64 key, .pointer (some ⟨g5, 0, none⟩), undef, .bool false, .int .i64 (p : Int), .bool true, .bool false, .pointer (some ⟨g5, 17, none⟩), .slice (some ad) es.length c, .int .i64 (es.length : Int), .bool false, .bool false, .agg (Value.int .i64 k :: ((nums .u8 (b.map bv)) ++ ([Value.slice (some ad) es.length c]))).toArray, .bool true, .bool false, .bool false, .pointer (some ⟨g5, 17, none⟩), .slice (some ad) es.length c, .int .i64 key, .int .i64 (p : Int), .int .i64 (p : Int), .bool false, .bool false, .int .i64 (p : Int), .pointer (some ⟨g5, 17, none⟩), .slice (some ad) es.length c, .int .i64 (es.length : Int), .bool false, .bool false, .int .i64 (p : Int), .bool false, .bool false, .pointer (some ⟨g5, 17, none⟩), .slice (some ad) es.length c, .int .i64 (p : Int), .pointer (some ((ad).add (p * 2))), .pointer (some (((ad).add (p * 2)).add 0)), .int .i64 x.1, .int .i64 key, .bool true, .bool true, .bool true, .int .i64 (p : Int), .int .i64 ((p + 1 : Nat) : Int), .pointer (some ⟨g5, 17, none⟩), .slice (some ad) es.length c, .int .i64 (es.length : Int), .bool false, .bool false, .pointer (some ⟨g5, 17, none⟩), .slice (some ad) es.length c, .int .i64 (p : Int), .int .i64 ((p + 1 : Nat) : Int), .pointer (some ((ad).add ((p + 1 : Nat) * 2))), .pointer (some (((ad).add ((p + 1 : Nat) * 2)).add 0)), .int .i64 y.1, .int .i64 key, undef, undef, undef]) _ (x_move (.int .i64 key) rfl rfl) rfl ?_
          refine p_on rfl (by rw [hops37]; rfl) ?_
          refine p_run (l' := _) _ (x_cmp (k := .i64) (m := y.1) (n := key) .gtr true rfl rfl rfl (show decide _ = true from decide_eq_true hky) rfl) rfl ?_
          refine p_on rfl (by rw [hops37]; rfl) ?_
          refine p_run (l' := _) _ (x_pick false (.bool true) (.bool true) (.bool true) rfl rfl rfl rfl rfl) rfl ?_
          refine p_run (l' := _) _ (x_pick true (.bool true) (.bool false) (.bool true) rfl rfl rfl rfl rfl) rfl ?_
          refine p_run (l' := [.agg (Value.int .i64 k :: ((nums .u8 (b.map bv)) ++ ([Value.slice (some ad) es.length c]))).toArray, .int .i64 key, .pointer (some ⟨g5, 0, none⟩), undef, .bool true, .int .i64 (p : Int), .bool true, .bool false, .pointer (some ⟨g5, 17, none⟩), .slice (some ad) es.length c, .int .i64 (es.length : Int), .bool false, .bool false, .agg (Value.int .i64 k :: ((nums .u8 (b.map bv)) ++ ([Value.slice (some ad) es.length c]))).toArray, .bool true, .bool false, .bool false, .pointer (some ⟨g5, 17, none⟩), .slice (some ad) es.length c, .int .i64 key, .int .i64 (p : Int), .int .i64 (p : Int), .bool false, .bool false, .int .i64 (p : Int), .pointer (some ⟨g5, 17, none⟩), .slice (some ad) es.length c, .int .i64 (es.length : Int), .bool false, .bool false, .int .i64 (p : Int), .bool false, .bool false, .pointer (some ⟨g5, 17, none⟩), .slice (some ad) es.length c, .int .i64 (p : Int), .pointer (some ((ad).add (p * 2))), .pointer (some (((ad).add (p * 2)).add 0)), .int .i64 x.1, .int .i64 key, .bool true, .bool true, .bool true, .int .i64 (p : Int), .int .i64 ((p + 1 : Nat) : Int), .pointer (some ⟨g5, 17, none⟩), .slice (some ad) es.length c, .int .i64 (es.length : Int), .bool false, .bool false, .pointer (some ⟨g5, 17, none⟩), .slice (some ad) es.length c, .int .i64 (p : Int), .int .i64 ((p + 1 : Nat) : Int), .pointer (some ((ad).add ((p + 1 : Nat) * 2))), .pointer (some (((ad).add ((p + 1 : Nat) * 2)).add 0)), .int .i64 y.1, .int .i64 key, .bool true, .bool true, .bool true]) _ (x_assign (.bool true) rfl rfl) rfl ?_
          clear hops37
          refine wpList_nil ?_
          refine hK34 _ _ ?_
          refine wp_ret ?_
          try simp only [Exit.inBlock, Exit.then]
          refine c_ret (.bool true) (r_tmp rfl rfl) ?_
          exact ⟨rfl, HS.belowOf⟩
      · skip
        refine c_region (fun ops40 hops39 => ?_)
        refine p_run (l' := _) _ (x_move (.int .i64 (-1)) rfl rfl) rfl ?_
        refine p_run (l' := _) _ (x_cmp (k := .i64) (m := (-1)) (n := -1) .lss false rfl rfl rfl (by decide) rfl) rfl ?_
        refine p_run (l' := _) _ (x_move (.bool false) rfl rfl) rfl ?_
        refine p_on rfl (by rw [hops39]; rfl) ?_
        refine p_run (l' := [.agg (Value.int .i64 k :: ((nums .u8 (b.map bv)) ++ ([Value.slice A es.length c]))).toArray, .int .i64 key, .pointer (some ⟨g5, 0, none⟩), undef, .bool false, .int .i64 (-1), .bool true, .bool false, .pointer (some ⟨g5, 17, none⟩), .slice A es.length c, .int .i64 (es.length : Int), .bool false, .bool false, .agg (Value.int .i64 k :: ((nums .u8 (b.map bv)) ++ ([Value.slice A es.length c]))).toArray, .bool true, .bool false, .bool false, .pointer (some ⟨g5, 17, none⟩), .slice A es.length c, .int .i64 key, .int .i64 (-1), .int .i64 (-1), .bool false, .bool false, .int .i64 (-1), undef, undef, undef, undef, undef, undef, undef, undef, undef, undef, undef, undef, undef, undef, undef, undef, undef, undef, undef, undef, undef, undef, undef, undef, undef, undef, undef, undef, undef, undef, undef, undef, undef, undef, undef, undef]) _ (x_move (.int .i64 (-1)) rfl rfl) rfl ?_
        refine p_on rfl (by rw [hops39]; rfl) ?_
        refine p_run (l' := _) _ (x_field (j := 17) _ _ rfl rfl Try.underlying52 rfl (by rfl) rfl) rfl ?_
        refine p_on rfl (by rw [hops39]; rfl) ?_
        refine p_run (l' := _) _ (x_load (.slice A es.length c) rfl rfl (bkCell (HS.get (.head _)) 17 _ (by simp [List.getElem?_append, List.length_map, hb, nums_length])) (by rfl)) rfl ?_
        refine p_on rfl (by rw [hops39]; rfl) ?_
        refine p_run (l' := _) _ (x_len rfl rfl Try.underlying50) rfl ?_
        refine p_on rfl (by rw [hops39]; rfl) ?_
        refine p_run (l' := [.agg (Value.int .i64 k :: ((nums .u8 (b.map bv)) ++ ([Value.slice A es.length c]))).toArray, .int .i64 key, .pointer (some ⟨g5, 0, none⟩), undef, .bool false, .int .i64 (-1), .bool true, .bool false, .pointer (some ⟨g5, 17, none⟩), .slice A es.length c, .int .i64 (es.length : Int), .bool false, .bool false, .agg (Value.int .i64 k :: ((nums .u8 (b.map bv)) ++ ([Value.slice A es.length c]))).toArray, .bool true, .bool false, .bool false, .pointer (some ⟨g5, 17, none⟩), .slice A es.length c, .int .i64 key, .int .i64 (-1), .int .i64 (-1), .bool false, .bool false, .int .i64 (-1), .pointer (some ⟨g5, 17, none⟩), .slice A es.length c, .int .i64 (es.length : Int), .bool false, undef, undef, undef, undef, undef, undef, undef, undef, undef, undef, undef, undef, undef, undef, undef, undef, undef, undef, undef, undef, undef, undef, undef, undef, undef, undef, undef, undef, undef, undef, undef, undef]) _ (x_cmp (k := .i64) (m := (-1)) (n := (es.length : Int)) .geq false rfl rfl rfl (show decide _ = false from decide_eq_false (by omega)) rfl) rfl ?_
        refine p_run (l' := _) _ (x_pick false (.bool true) (.bool false) (.bool false) rfl rfl rfl rfl rfl) rfl ?_
        clear hops39
        refine wpList_nil ?_
        refine fr_at (l' := [.agg (Value.int .i64 k :: ((nums .u8 (b.map bv)) ++ ([Value.slice A es.length c]))).toArray, .int .i64 key, .pointer (some ⟨g5, 0, none⟩), undef, .bool false, .int .i64 (-1), .bool true, .bool false, .pointer (some ⟨g5, 17, none⟩), .slice A es.length c, .int .i64 (es.length : Int), .bool false, .bool false, .agg (Value.int .i64 k :: ((nums .u8 (b.map bv)) ++ ([Value.slice A es.length c]))).toArray, .bool true, .bool false, .bool false, .pointer (some ⟨g5, 17, none⟩), .slice A es.length c, .int .i64 key, .int .i64 (-1), .int .i64 (-1), .bool false, .bool false, .int .i64 (-1), .pointer (some ⟨g5, 17, none⟩), .slice A es.length c, .int .i64 (es.length : Int), .bool false, .bool false, undef, undef, undef, undef, undef, undef, undef, undef, undef, undef, undef, undef, undef, undef, undef, undef, undef, undef, undef, undef, undef, undef, undef, undef, undef, undef, undef, undef, undef, undef, undef]) rfl ?_
        refine hK30 _ _ ?_
        refine c_false rfl ?_
        refine wp_skip ?_
        refine hK28 _ _ ?_
        refine wp_seq_k (fun K41 hK42 => ?_)
        by_cases hN : 0 = es.length
        · skip
          refine c_region (fun ops44 hops43 => ?_)
          refine p_run (l' := _) _ (x_move (.int .i64 (-1)) rfl rfl) rfl ?_
          refine p_run (l' := _) _ (x_cmp (k := .i64) (m := (-1)) (n := 0) .lss true rfl rfl rfl (by decide) rfl) rfl ?_
          refine p_run (l' := _) _ (x_move (.bool true) rfl rfl) rfl ?_
          refine p_off (l' := [.agg (Value.int .i64 k :: ((nums .u8 (b.map bv)) ++ ([Value.slice A es.length c]))).toArray, .int .i64 key, .pointer (some ⟨g5, 0, none⟩), undef, .bool false, .int .i64 (-1), .bool true, .bool false, .pointer (some ⟨g5, 17, none⟩), .slice A es.length c, .int .i64 (es.length : Int), .bool false, .bool false, .agg (Value.int .i64 k :: ((nums .u8 (b.map bv)) ++ ([Value.slice A es.length c]))).toArray, .bool true, .bool false, .bool false, .pointer (some ⟨g5, 17, none⟩), .slice A es.length c, .int .i64 key, .int .i64 (-1), .int .i64 (-1), .bool false, .bool false, .int .i64 (-1), .pointer (some ⟨g5, 17, none⟩), .slice A es.length c, .int .i64 (es.length : Int), .bool false, .bool false, .int .i64 (-1), .bool true, .bool true, undef, undef, undef, undef, undef, undef, undef, undef, undef, undef, undef, undef, undef, undef, undef, undef, undef, undef, undef, undef, undef, undef, undef, undef, undef, undef, undef, undef]) (by rw [hops43]; rfl) rfl ?_
          refine p_off (l' := _) (by rw [hops43]; rfl) rfl ?_
          refine p_off (l' := _) (by rw [hops43]; rfl) rfl ?_
          refine p_off (l' := _) (by rw [hops43]; rfl) rfl ?_
          refine p_off (l' := [.agg (Value.int .i64 k :: ((nums .u8 (b.map bv)) ++ ([Value.slice A es.length c]))).toArray, .int .i64 key, .pointer (some ⟨g5, 0, none⟩), undef, .bool false, .int .i64 (-1), .bool true, .bool false, .pointer (some ⟨g5, 17, none⟩), .slice A es.length c, .int .i64 (es.length : Int), .bool false, .bool false, .agg (Value.int .i64 k :: ((nums .u8 (b.map bv)) ++ ([Value.slice A es.length c]))).toArray, .bool true, .bool false, .bool false, .pointer (some ⟨g5, 17, none⟩), .slice A es.length c, .int .i64 key, .int .i64 (-1), .int .i64 (-1), .bool false, .bool false, .int .i64 (-1), .pointer (some ⟨g5, 17, none⟩), .slice A es.length c, .int .i64 (es.length : Int), .bool false, .bool false, .int .i64 (-1), .bool true, .bool true, undef, undef, undef, undef, undef, undef, undef, undef, undef, undef, undef, undef, undef, undef, undef, undef, undef, undef, undef, undef, undef, undef, undef, undef, undef, undef, undef, undef]) (by rw [hops43]; rfl) rfl ?_
          refine p_off (l' := _) (by rw [hops43]; rfl) rfl ?_
          refine p_off (l' := _) (by rw [hops43]; rfl) rfl ?_
          refine p_off (l' := _) (by rw [hops43]; rfl) rfl ?_
          refine p_run (l' := [.agg (Value.int .i64 k :: ((nums .u8 (b.map bv)) ++ ([Value.slice A es.length c]))).toArray, .int .i64 key, .pointer (some ⟨g5, 0, none⟩), undef, .bool false, .int .i64 (-1), .bool true, .bool false, .pointer (some ⟨g5, 17, none⟩), .slice A es.length c, .int .i64 (es.length : Int), .bool false, .bool false, .agg (Value.int .i64 k :: ((nums .u8 (b.map bv)) ++ ([Value.slice A es.length c]))).toArray, .bool true, .bool false, .bool false, .pointer (some ⟨g5, 17, none⟩), .slice A es.length c, .int .i64 key, .int .i64 (-1), .int .i64 (-1), .bool false, .bool false, .int .i64 (-1), .pointer (some ⟨g5, 17, none⟩), .slice A es.length c, .int .i64 (es.length : Int), .bool false, .bool false, .int .i64 (-1), .bool true, .bool true, undef, undef, undef, undef, undef, undef, undef, undef, .bool true, undef, undef, undef, undef, undef, undef, undef, undef, undef, undef, undef, undef, undef, undef, undef, undef, undef, undef, undef]) _ (x_pick true (.bool true) (undef) (.bool true) rfl rfl rfl rfl rfl) rfl ?_
          refine p_run (l' := _) _ (x_move (.bool true) rfl rfl) rfl ?_
          refine p_on rfl (by rw [hops43]; rfl) ?_
          refine p_run (l' := _) _ (x_move (.int .i64 (-1)) rfl rfl) rfl ?_
          refine p_on rfl (by rw [hops43]; rfl) ?_
          refine p_run (l' := _) _ (x_arith (k := .i64) (m := (-1)) (n := 1) .add (0) rfl rfl rfl (by decide) rfl) rfl ?_
          refine p_on rfl (by rw [hops43]; rfl) ?_
          refine p_run (l' := [.agg (Value.int .i64 k :: ((nums .u8 (b.map bv)) ++ ([Value.slice A es.length c]))).toArray, .int .i64 key, .pointer (some ⟨g5, 0, none⟩), undef, .bool false, .int .i64 (-1), .bool true, .bool false, .pointer (some ⟨g5, 17, none⟩), .slice A es.length c, .int .i64 (es.length : Int), .bool false, .bool false, .agg (Value.int .i64 k :: ((nums .u8 (b.map bv)) ++ ([Value.slice A es.length c]))).toArray, .bool true, .bool false, .bool false, .pointer (some ⟨g5, 17, none⟩), .slice A es.length c, .int .i64 key, .int .i64 (-1), .int .i64 (-1), .bool false, .bool false, .int .i64 (-1), .pointer (some ⟨g5, 17, none⟩), .slice A es.length c, .int .i64 (es.length : Int), .bool false, .bool false, .int .i64 (-1), .bool true, .bool true, undef, undef, undef, undef, undef, undef, undef, undef, .bool true, .bool true, .int .i64 (-1), .int .i64 0, .pointer (some ⟨g5, 17, none⟩), undef, undef, undef, undef, undef, undef, undef, undef, undef, undef, undef, undef, undef, undef, undef]) _ (x_field (j := 17) _ _ rfl rfl Try.underlying52 rfl (by rfl) rfl) rfl ?_
          refine p_on rfl (by rw [hops43]; rfl) ?_
          refine p_run (l' := _) _ (x_load (.slice A es.length c) rfl rfl (bkCell (HS.get (.head _)) 17 _ (by simp [List.getElem?_append, List.length_map, hb, nums_length])) (by rfl)) rfl ?_
          refine p_on rfl (by rw [hops43]; rfl) ?_
          refine p_run (l' := _) _ (x_len rfl rfl Try.underlying50) rfl ?_
          refine p_on rfl (by rw [hops43]; rfl) ?_
          refine p_run (l' := _) _ (x_cmp (k := .i64) (m := 0) (n := (es.length : Int)) .eql true rfl rfl rfl (cmp_yes (by omega)) rfl) rfl ?_
          refine p_on rfl (by rw [hops43]; rfl) ?_
          refine p_run (l' := [.agg (Value.int .i64 k :: ((nums .u8 (b.map bv)) ++ ([Value.slice A es.length c]))).toArray, .int .i64 key, .pointer (some ⟨g5, 0, none⟩), undef, .bool false, .int .i64 (-1), .bool true, .bool false, .pointer (some ⟨g5, 17, none⟩), .slice A es.length c, .int .i64 (es.length : Int), .bool false, .bool false, .agg (Value.int .i64 k :: ((nums .u8 (b.map bv)) ++ ([Value.slice A es.length c]))).toArray, .bool true, .bool false, .bool false, .pointer (some ⟨g5, 17, none⟩), .slice A es.length c, .int .i64 key, .int .i64 (-1), .int .i64 (-1), .bool false, .bool false, .int .i64 (-1), .pointer (some ⟨g5, 17, none⟩), .slice A es.length c, .int .i64 (es.length : Int), .bool false, .bool false, .int .i64 (-1), .bool true, .bool true, undef, undef, undef, undef, undef, undef, undef, undef, .bool true, .bool true, .int .i64 (-1), .int .i64 0, .pointer (some ⟨g5, 17, none⟩), .slice A es.length c, .int .i64 (es.length : Int), .bool true, .bool true, undef, undef, undef, undef, undef, undef, undef, undef, undef, undef, undef]) _ (x_move (.bool true) rfl rfl) rfl ?_
          refine p_off (l' := _) (by rw [hops43]; rfl) rfl ?_
          refine p_off (l' := _) (by rw [hops43]; rfl) rfl ?_
          refine p_off (l' := _) (by rw [hops43]; rfl) rfl ?_
          refine p_off (l' := [.agg (Value.int .i64 k :: ((nums .u8 (b.map bv)) ++ ([Value.slice A es.length c]))).toArray, .int .i64 key, .pointer (some ⟨g5, 0, none⟩), undef, .bool false, .int .i64 (-1), .bool true, .bool false, .pointer (some ⟨g5, 17, none⟩), .slice A es.length c, .int .i64 (es.length : Int), .bool false, .bool false, .agg (Value.int .i64 k :: ((nums .u8 (b.map bv)) ++ ([Value.slice A es.length c]))).toArray, .bool true, .bool false, .bool false, .pointer (some ⟨g5, 17, none⟩), .slice A es.length c, .int .i64 key, .int .i64 (-1), .int .i64 (-1), .bool false, .bool false, .int .i64 (-1), .pointer (some ⟨g5, 17, none⟩), .slice A es.length c, .int .i64 (es.length : Int), .bool false, .bool false, .int .i64 (-1), .bool true, .bool true, undef, undef, undef, undef, undef, undef, undef, undef, .bool true, .bool true, .int .i64 (-1), .int .i64 0, .pointer (some ⟨g5, 17, none⟩), .slice A es.length c, .int .i64 (es.length : Int), .bool true, .bool true, undef, undef, undef, undef, undef, undef, undef, undef, undef, undef, undef]) (by rw [hops43]; rfl) rfl ?_
          refine p_off (l' := _) (by rw [hops43]; rfl) rfl ?_
          refine p_off (l' := _) (by rw [hops43]; rfl) rfl ?_
          refine p_off (l' := _) (by rw [hops43]; rfl) rfl ?_
          refine p_off (l' := [.agg (Value.int .i64 k :: ((nums .u8 (b.map bv)) ++ ([Value.slice A es.length c]))).toArray, .int .i64 key, .pointer (some ⟨g5, 0, none⟩), undef, .bool false, .int .i64 (-1), .bool true, .bool false, .pointer (some ⟨g5, 17, none⟩), .slice A es.length c, .int .i64 (es.length : Int), .bool false, .bool false, .agg (Value.int .i64 k :: ((nums .u8 (b.map bv)) ++ ([Value.slice A es.length c]))).toArray, .bool true, .bool false, .bool false, .pointer (some ⟨g5, 17, none⟩), .slice A es.length c, .int .i64 key, .int .i64 (-1), .int .i64 (-1), .bool false, .bool false, .int .i64 (-1), .pointer (some ⟨g5, 17, none⟩), .slice A es.length c, .int .i64 (es.length : Int), .bool false, .bool false, .int .i64 (-1), .bool true, .bool true, undef, undef, undef, undef, undef, undef, undef, undef, .bool true, .bool true, .int .i64 (-1), .int .i64 0, .pointer (some ⟨g5, 17, none⟩), .slice A es.length c, .int .i64 (es.length : Int), .bool true, .bool true, undef, undef, undef, undef, undef, undef, undef, undef, undef, undef, undef]) (by rw [hops43]; rfl) rfl ?_
          refine p_off (l' := _) (by rw [hops43]; rfl) rfl ?_
          refine p_on rfl (by rw [hops43]; rfl) ?_
          refine p_run (l' := _) _ (x_pick true (.bool true) (undef) (.bool true) rfl rfl rfl rfl rfl) rfl ?_
          refine p_run (l' := _) _ (x_pick true (.bool true) (.bool false) (.bool true) rfl rfl rfl rfl rfl) rfl ?_
          refine p_run (l' := [.agg (Value.int .i64 k :: ((nums .u8 (b.map bv)) ++ ([Value.slice A es.length c]))).toArray, .int .i64 key, .pointer (some ⟨g5, 0, none⟩), undef, .bool true, .int .i64 (-1), .bool true, .bool false, .pointer (some ⟨g5, 17, none⟩), .slice A es.length c, .int .i64 (es.length : Int), .bool false, .bool false, .agg (Value.int .i64 k :: ((nums .u8 (b.map bv)) ++ ([Value.slice A es.length c]))).toArray, .bool true, .bool false, .bool false, .pointer (some ⟨g5, 17, none⟩), .slice A es.length c, .int .i64 key, .int .i64 (-1), .int .i64 (-1), .bool false, .bool false, .int .i64 (-1), .pointer (some ⟨g5, 17, none⟩), .slice A es.length c, .int .i64 (es.length : Int), .bool false, .bool false, .int .i64 (-1), .bool true, .bool true, undef, undef, undef, undef, undef, undef, undef, undef, .bool true, .bool true, .int .i64 (-1), .int .i64 0, .pointer (some ⟨g5, 17, none⟩), .slice A es.length c, .int .i64 (es.length : Int), .bool true, .bool true, undef, undef, undef, undef, undef, undef, undef, undef, undef, .bool true, .bool true]) _ (x_assign (.bool true) rfl rfl) rfl ?_
          clear hops43
          refine wpList_nil ?_
          refine hK42 _ _ ?_
          refine wp_ret ?_
          try simp only [Exit.inBlock, Exit.then]
          refine c_ret (.bool true) (r_tmp rfl rfl) ?_
          exact ⟨rfl, HS.belowOf⟩
        · skip
          obtain ⟨y, hy⟩ : ∃ y, es[0]? = some y := ⟨_, List.getElem?_eq_getElem (by omega)⟩
          have hky := hyk y hy
          obtain ⟨ad, x_, hA_, -, -⟩ := en_get hr 0 (by omega)
          subst hA_
          refine c_region (fun ops46 hops45 => ?_)
          refine p_run (l' := _) _ (x_move (.int .i64 (-1)) rfl rfl) rfl ?_
          refine p_run (l' := _) _ (x_cmp (k := .i64) (m := (-1)) (n := 0) .lss true rfl rfl rfl (by decide) rfl) rfl ?_
          refine p_run (l' := _) _ (x_move (.bool true) rfl rfl) rfl ?_
          refine p_off (l' := [.agg (Value.int .i64 k :: ((nums .u8 (b.map bv)) ++ ([Value.slice (some ad) es.length c]))).toArray, .int .i64 key, .pointer (some ⟨g5, 0, none⟩), undef, .bool false, .int .i64 (-1), .bool true, .bool false, .pointer (some ⟨g5, 17, none⟩), .slice (some ad) es.length c, .int .i64 (es.length : Int), .bool false, .bool false, .agg (Value.int .i64 k :: ((nums .u8 (b.map bv)) ++ ([Value.slice (some ad) es.length c]))).toArray, .bool true, .bool false, .bool false, .pointer (some ⟨g5, 17, none⟩), .slice (some ad) es.length c, .int .i64 key, .int .i64 (-1), .int .i64 (-1), .bool false, .bool false, .int .i64 (-1), .pointer (some ⟨g5, 17, none⟩), .slice (some ad) es.length c, .int .i64 (es.length : Int), .bool false, .bool false, .int .i64 (-1), .bool true, .bool true, undef, undef, undef, undef, undef, undef, undef, undef, undef, undef, undef, undef, undef, undef, undef, undef, undef, undef, undef, undef, undef, undef, undef, undef, undef, undef, undef, undef]) (by rw [hops45]; rfl) rfl ?_
          refine p_off (l' := _) (by rw [hops45]; rfl) rfl ?_
          refine p_off (l' := _) (by rw [hops45]; rfl) rfl ?_
          refine p_off (l' := _) (by rw [hops45]; rfl) rfl ?_
          refine p_off (l' := [.agg (Value.int .i64 k :: ((nums .u8 (b.map bv)) ++ ([Value.slice (some ad) es.length c]))).toArray, .int .i64 key, .pointer (some ⟨g5, 0, none⟩), undef, .bool false, .int .i64 (-1), .bool true, .bool false, .pointer (some ⟨g5, 17, none⟩), .slice (some ad) es.length c, .int .i64 (es.length : Int), .bool false, .bool false, .agg (Value.int .i64 k :: ((nums .u8 (b.map bv)) ++ ([Value.slice (some ad) es.length c]))).toArray, .bool true, .bool false, .bool false, .pointer (some ⟨g5, 17, none⟩), .slice (some ad) es.length c, .int .i64 key, .int .i64 (-1), .int .i64 (-1), .bool false, .bool false, .int .i64 (-1), .pointer (some ⟨g5, 17, none⟩), .slice (some ad) es.length c, .int .i64 (es.length : Int), .bool false, .bool false, .int .i64 (-1), .bool true, .bool true, undef, undef, undef, undef, undef, undef, undef, undef, undef, undef, undef, undef, undef, undef, undef, undef, undef, undef, undef, undef, undef, undef, undef, undef, undef, undef, undef, undef]) (by rw [hops45]; rfl) rfl ?_
          refine p_off (l' := _) (by rw [hops45]; rfl) rfl ?_
          refine p_off (l' := _) (by rw [hops45]; rfl) rfl ?_
          refine p_off (l' := _) (by rw [hops45]; rfl) rfl ?_
          refine p_run (l' := [.agg (Value.int .i64 k :: ((nums .u8 (b.map bv)) ++ ([Value.slice (some ad) es.length c]))).toArray, .int .i64 key, .pointer (some ⟨g5, 0, none⟩), undef, .bool false, .int .i64 (-1), .bool true, .bool false, .pointer (some ⟨g5, 17, none⟩), .slice (some ad) es.length c, .int .i64 (es.length : Int), .bool false, .bool false, .agg (Value.int .i64 k :: ((nums .u8 (b.map bv)) ++ ([Value.slice (some ad) es.length c]))).toArray, .bool true, .bool false, .bool false, .pointer (some ⟨g5, 17, none⟩), .slice (some ad) es.length c, .int .i64 key, .int .i64 (-1), .int .i64 (-1), .bool false, .bool false, .int .i64 (-1), .pointer (some ⟨g5, 17, none⟩), .slice (some ad) es.length c, .int .i64 (es.length : Int), .bool false, .bool false, .int .i64 (-1), .bool true, .bool true, undef, undef, undef, undef, undef, undef, undef, undef, .bool true, undef, undef, undef, undef, undef, undef, undef, undef, undef, undef, undef, undef, undef, undef, undef, undef, undef, undef, undef]) _ (x_pick true (.bool true) (undef) (.bool true) rfl rfl rfl rfl rfl) rfl ?_
          refine p_run (l' := _) _ (x_move (.bool true) rfl rfl) rfl ?_
          refine p_on rfl (by rw [hops45]; rfl) ?_
          refine p_run (l' := _) _ (x_move (.int .i64 (-1)) rfl rfl) rfl ?_
          refine p_on rfl (by rw [hops45]; rfl) ?_
          refine p_run (l' := _) _ (x_arith (k := .i64) (m := (-1)) (n := 1) .add (0) rfl rfl rfl (by decide) rfl) rfl ?_
          refine p_on rfl (by rw [hops45]; rfl) ?_
          refine p_run (l' := [.agg (Value.int .i64 k :: ((nums .u8 (b.map bv)) ++ ([Value.slice (some ad) es.length c]))).toArray, .int .i64 key, .pointer (some ⟨g5, 0, none⟩), undef, .bool false, .int .i64 (-1), .bool true, .bool false, .pointer (some ⟨g5, 17, none⟩), .slice (some ad) es.length c, .int .i64 (es.length : Int), .bool false, .bool false, .agg (Value.int .i64 k :: ((nums .u8 (b.map bv)) ++ ([Value.slice (some ad) es.length c]))).toArray, .bool true, .bool false, .bool false, .pointer (some ⟨g5, 17, none⟩), .slice (some ad) es.length c, .int .i64 key, .int .i64 (-1), .int .i64 (-1), .bool false, .bool false, .int .i64 (-1), .pointer (some ⟨g5, 17, none⟩), .slice (some ad) es.length c, .int .i64 (es.length : Int), .bool false, .bool false, .int .i64 (-1), .bool true, .bool true, undef, undef, undef, undef, undef, undef, undef, undef, .bool true, .bool true, .int .i64 (-1), .int .i64 0, .pointer (some ⟨g5, 17, none⟩), undef, undef, undef, undef, undef, undef, undef, undef, undef, undef, undef, undef, undef, undef, undef]) _ (x_field (j := 17) _ _ rfl rfl Try.underlying52 rfl (by rfl) rfl) rfl ?_
          refine p_on rfl (by rw [hops45]; rfl) ?_
          refine p_run (l' := _) _ (x_load (.slice (some ad) es.length c) rfl rfl (bkCell (HS.get (.head _)) 17 _ (by simp [List.getElem?_append, List.length_map, hb, nums_length])) (by rfl)) rfl ?_
          refine p_on rfl (by rw [hops45]; rfl) ?_
          refine p_run (l' := _) _ (x_len rfl rfl Try.underlying50) rfl ?_
          refine p_on rfl (by rw [hops45]; rfl) ?_
          refine p_run (l' := _) _ (x_cmp (k := .i64) (m := 0) (n := (es.length : Int)) .eql false rfl rfl rfl (cmp_not (by omega)) rfl) rfl ?_
          refine p_on rfl (by rw [hops45]; rfl) ?_
          refine p_run (l' := [.agg (Value.int .i64 k :: ((nums .u8 (b.map bv)) ++ ([Value.slice (some ad) es.length c]))).toArray, .int .i64 key, .pointer (some ⟨g5, 0, none⟩), undef, .bool false, .int .i64 (-1), .bool true, .bool false, .pointer (some ⟨g5, 17, none⟩), .slice (some ad) es.length c, .int .i64 (es.length : Int), .bool false, .bool false, .agg (Value.int .i64 k :: ((nums .u8 (b.map bv)) ++ ([Value.slice (some ad) es.length c]))).toArray, .bool true, .bool false, .bool false, .pointer (some ⟨g5, 17, none⟩), .slice (some ad) es.length c, .int .i64 key, .int .i64 (-1), .int .i64 (-1), .bool false, .bool false, .int .i64 (-1), .pointer (some ⟨g5, 17, none⟩), .slice (some ad) es.length c, .int .i64 (es.length : Int), .bool false, .bool false, .int .i64 (-1), .bool true, .bool true, undef, undef, undef, undef, undef, undef, undef, undef, .bool true, .bool true, .int .i64 (-1), .int .i64 0, .pointer (some ⟨g5, 17, none⟩), .slice (some ad) es.length c, .int .i64 (es.length : Int), .bool false, .bool false, undef, undef, undef, undef, undef, undef, undef, undef, undef, undef, undef]) _ (x_move (.bool false) rfl rfl) rfl ?_
          refine p_on rfl (by rw [hops45]; rfl) ?_
          refine p_run (l' := _) _ (x_field (j := 17) _ _ rfl rfl Try.underlying52 rfl (by rfl) rfl) rfl ?_
          refine p_on rfl (by rw [hops45]; rfl) ?_
          refine p_run (l' := _) _ (x_load (.slice (some ad) es.length c) rfl rfl (bkCell (HS.get (.head _)) 17 _ (by simp [List.getElem?_append, List.length_map, hb, nums_length])) (by rfl)) rfl ?_
          refine p_on rfl (by rw [hops45]; rfl) ?_
          refine p_run (l' := _) _ (x_move (.int .i64 (-1)) rfl rfl) rfl ?_
          refine p_on rfl (by rw [hops45]; rfl) ?_
          refine p_run (l' := [.agg (Value.int .i64 k :: ((nums .u8 (b.map bv)) ++ ([Value.slice (some ad) es.length c]))).toArray, .int .i64 key, .pointer (some ⟨g5, 0, none⟩), undef, .bool false, .int .i64 (-1), .bool true, .bool false, .pointer (some ⟨g5, 17, none⟩), .slice (some ad) es.length c, .int .i64 (es.length : Int), .bool false, .bool false, .agg (Value.int .i64 k :: ((nums .u8 (b.map bv)) ++ ([Value.slice (some ad) es.length c]))).toArray, .bool true, .bool false, .bool false, .pointer (some ⟨g5, 17, none⟩), .slice (some ad) es.length c, .int .i64 key, .int .i64 (-1), .int .i64 (-1), .bool false, .bool false, .int .i64 (-1), .pointer (some ⟨g5, 17, none⟩), .slice (some ad) es.length c, .int .i64 (es.length : Int), .bool false, .bool false, .int .i64 (-1), .bool true, .bool true, undef, undef, undef, undef, undef, undef, undef, undef, .bool true, .bool true, .int .i64 (-1), .int .i64 0, .pointer (some ⟨g5, 17, none⟩), .slice (some ad) es.length c, .int .i64 (es.length : Int), .bool false, .bool false, .pointer (some ⟨g5, 17, none⟩), .slice (some ad) es.length c, .int .i64 (-1), .int .i64 0, undef, undef, undef, undef, undef, undef, undef]) _ (x_arith (k := .i64) (m := (-1)) (n := 1) .add (0) rfl rfl rfl (by decide) rfl) rfl ?_
          refine p_on rfl (by rw [hops45]; rfl) ?_
          refine p_run (l' := _) _ (x_index (A := ad) (j := 0) (sz := 2) rfl rfl rfl Try.underlying50 (by kernel_rfl) (by omega) rfl) rfl ?_
          refine p_on rfl (by rw [hops45]; rfl) ?_
          refine p_run (l' := _) _ (x_fieldA _ _ rfl rfl Try.underlying62 rfl (by rfl)) rfl ?_
          refine p_on rfl (by rw [hops45]; rfl) ?_
          refine p_run (l' := _) _ (x_load (.int .i64 y.1) rfl rfl (en_old (j := 0) (Kd.C_below hr HS.belowOf) hy) (by rfl)) rfl ?_
          refine p_on rfl (by rw [hops45]; rfl) ?_
          refine p_run (l' := [.agg (Value.int .i64 k :: ((nums .u8 (b.map bv)) ++ ([Value.slice (some ad) es.length c]))).toArray, .int .i64 key, .pointer (some ⟨g5, 0, none⟩), undef, .bool false, .int .i64 (-1), .bool true, .bool false, .pointer (some ⟨g5, 17, none⟩), .slice (some ad) es.length c, .int .i64 (es.length : Int), .bool false, .bool false, .agg (Value.int .i64 k :: ((nums .u8 (b.map bv)) ++ ([Value.slice (some ad) es.length c]))).toArray, .bool true, .bool false, .bool false, .pointer (some ⟨g5, 17, none⟩), .slice (some ad) es.length c, .int .i64 key, .int .i64 (-1), .int .i64 (-1), .bool false, .bool false, .int .i64 (-1), .pointer (some ⟨g5, 17, none⟩), .slice (some ad) es.length c, .int .i64 (es.length : Int), .bool false, .bool false, .int .i64 (-1), .bool true, .bool true, undef, undef, undef, undef, undef, undef, undef, undef, .bool true, .bool true, .int .i64 (-1), .int .i64 0, .pointer (some ⟨g5, 17, none⟩), .slice (some ad) es.length c, .int .i64 (es.length : Int), .bool false, .bool false, .pointer (some ⟨g5, 17, none⟩), .slice (some ad) es.length c, .int .i64 (-1), .int .i64 0, .pointer (some ((ad).add (0))), .pointer (some (((ad).add (0)).add 0)), .int .i64 y.1, .int .i64 key, undef, undef, undef]) _ (x_move (.int .i64 key) rfl rfl) rfl ?_
          refine p_on rfl (by rw [hops45]; rfl) ?_
          refine p_run (l' := _) _ (x_cmp (k := .i64) (m := y.1) (n := key) .gtr true rfl rfl rfl (show decide _ = true from decide_eq_true hky) rfl) rfl ?_
          refine p_on rfl (by rw [hops45]; rfl) ?_
          refine p_run (l' := _) _ (x_pick false (.bool true) (.bool true) (.bool true) rfl rfl rfl rfl rfl) rfl ?_
          refine p_run (l' := _) _ (x_pick true (.bool true) (.bool false) (.bool true) rfl rfl rfl rfl rfl) rfl ?_
          refine p_run (l' := [.agg (Value.int .i64 k :: ((nums .u8 (b.map bv)) ++ ([Value.slice (some ad) es.length c]))).toArray, .int .i64 key, .pointer (some ⟨g5, 0, none⟩), undef, .bool true, .int .i64 (-1), .bool true, .bool false, .pointer (some ⟨g5, 17, none⟩), .slice (some ad) es.length c, .int .i64 (es.length : Int), .bool false, .bool false, .agg (Value.int .i64 k :: ((nums .u8 (b.map bv)) ++ ([Value.slice (some ad) es.length c]))).toArray, .bool true, .bool false, .bool false, .pointer (some ⟨g5, 17, none⟩), .slice (some ad) es.length c, .int .i64 key, .int .i64 (-1), .int .i64 (-1), .bool false, .bool false, .int .i64 (-1), .pointer (some ⟨g5, 17, none⟩), .slice (some ad) es.length c, .int .i64 (es.length : Int), .bool false, .bool false, .int .i64 (-1), .bool true, .bool true, undef, undef, undef, undef, undef, undef, undef, undef, .bool true, .bool true, .int .i64 (-1), .int .i64 0, .pointer (some ⟨g5, 17, none⟩), .slice (some ad) es.length c, .int .i64 (es.length : Int), .bool false, .bool false, .pointer (some ⟨g5, 17, none⟩), .slice (some ad) es.length c, .int .i64 (-1), .int .i64 0, .pointer (some ((ad).add (0))), .pointer (some (((ad).add (0)).add 0)), .int .i64 y.1, .int .i64 key, .bool true, .bool true, .bool true]) _ (x_assign (.bool true) rfl rfl) rfl ?_
          clear hops45
          refine wpList_nil ?_
          refine hK42 _ _ ?_
          refine wp_ret ?_
          try simp only [Exit.inBlock, Exit.then]
          refine c_ret (.bool true) (r_tmp rfl rfl) ?_
          exact ⟨rfl, HS.belowOf⟩

theorem leafPlaces_any (k : Int) (b : List UInt8) (A : Option Addr) (c : Nat) (es : List (Int × Int)) (key : Int) (w : World) (hb : b.length = 16) (hr : kEn.C w A es.length es) : Calls Try.prog 10 #[.agg (Value.int .i64 k :: (nums .u8 (b.map bv) ++ [Value.slice A es.length c])).toArray, .int .i64 key] w fun e w' => e = .returned (.bool true) ∧ Below w.heap.size w w' := places_law w k b hb A c es hr key
end Go.Proofs.Ytiokdpnhaemciaa
