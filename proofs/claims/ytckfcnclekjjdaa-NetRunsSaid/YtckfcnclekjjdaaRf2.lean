/- The reference of net: Turn. -/
import Derived.Test.YtckfcnclekjjdaaRf1
import Derived.Test.YtckfcnclekjjdaaLnB
set_option linter.unusedVariables false
set_option linter.unusedSimpArgs false
namespace Go.Proofs.Ytckfcnclekjjdaa
open Go.RowKit Go.Proofs.YtckfcnclekjjdaaW.PrintWords Go.Proofs.YtckfcnclekjjdaaW.PrintLast Crc
section
variable {w0 W : World} {F : Nat → Prop} {L : List Res} {v : Value} {N : List (Int × List UInt8)}
/-- A block that bears a mark behind its cells. -/
def mbk (g : Nat) (cs : List Value) (t : TypeId) : Res where
  foot b := b = g
  holds w := ∃ n, w.heap[g]? = some (.cells cs.toArray t (n, n + 1)) ∧ cs.length ≤ n
  keep := fun hk ⟨n, h, hn⟩ => by
    have hlt := (Array.getElem?_eq_some_iff.1 h).1
    exact ⟨n, (hk g rfl hlt).trans h, hn⟩
  lt := fun ⟨n, h, hn⟩ b hb => by
    have hlt := (Array.getElem?_eq_some_iff.1 h).1
    have : b = g := hb
    omega
section
variable {w : World} {ops : Array Oper} {Q : Exit → Act → World → Prop} {rest : List Oper} {l : List Value} {d ty t t0 g k : Nat} {pos : String} {after : Array Edge} {x y : Operand} {cs cs' : List Value} {xs : List UInt8} {P : Program}
theorem mb_cell (h : (mbk g cs t).holds w) (k : Nat) (u : Value) (hk : cs[k]? = some u) : w.cell? ⟨g, k, none⟩ = some u := by
  obtain ⟨n, h, -⟩ := h
  unfold World.cell?
  rw [h]
  simpa using hk
theorem St.mbStore (HS : St w0 F w (mbk g cs t0 :: L)) (u : Value) (hx : evl l x = .pointer (some ⟨g, k, none⟩)) (hy : evl l y = u) (h1 : u.oneCell' = true) (hz : (P.info? t).map (·.size) = some 1) (hk : k < cs.length) (hs : cs.set k u = cs')
    (h : ∀ w', St w0 F w' (mbk g cs' t0 :: L) → wpList P ops Q rest (fr l) w') : wpList P ops Q (⟨none, .store t x y, ty, pos, after, none⟩ :: rest) (fr l) w := by
  refine wpList_plain rfl (fun K hK => ?_)
  unfold Oper.wp
  obtain ⟨n, hg, hn⟩ := HS.hs.head
  have hcell : w.cell? ⟨g, k, none⟩ = some cs[k] := by simp [World.cell?, hg, hk]
  have hfro : w.frozen? ⟨g, k, none⟩ = false := by simp [World.frozen?, hg]; omega
  have hadd : (⟨g, k, none⟩ : Addr).add 0 = ⟨g, k, none⟩ := by unfold Addr.add; simp
  have hst : (storeVar t ⟨g, k, none⟩ u).run P w = .ok () (w.setCell ⟨g, k, none⟩ u) := by
    cases hq : P.info? t with
    | none => simp [hq] at hz
    | some i =>
      have hs' : i.size = 1 := by simpa [hq] using hz
      simp [storeVar, sizeOf, typeInfo, hq, hs', value_one h1, storeCells, hadd, run_store P w _ u _ h1, hcell, hfro]
  have hr : (execOp (fr l).eval ⟨none, .store t x y, ty, pos, after, none⟩).run P w = .ok .skip (w.setCell ⟨g, k, none⟩ u) := by
    rw [evl_fun]
    simp [execOp, hx, hy, Instr.storeAt, Instr.sureAddr, Sem.run_bind, hst]
  rw [hr, Oper.upon_skip]
  refine hK _ _ (h _ ?_)
  rw [← hs]
  have hse : w.setCell ⟨g, k, none⟩ u = w.setRow g (cs.set k u).toArray := by
    have := setCell_eq_setRow w g k cs.toArray t0 (n, n + 1) u hg
    simpa using this
  rw [hse]
  exact HS.turn rfl rfl rfl ⟨by simp, fun b _ hb => setRow_other w g b _ (fun e => hb e)⟩ ⟨n, setRow_heap w g _ _ t0 _ hg, by rw [List.length_set]; exact hn⟩ (fun b hb => .inl hb)
theorem mb_rd {sp : List Value} (h : (mbk g (nums .u8 (xs.map bv) ++ sp) t).holds w) (hm : xs.length ≤ 1000000) : Rd w (some ⟨g, 0, none⟩) xs := by
  refine ⟨rfl, by omega, fun h0 => ⟨_, rfl, fun j p hj => ⟨[.int .u8 (bv p)], rfl, rfl, fun i u hu => ?_⟩⟩⟩
  have hi : i = 0 := by
    rcases i with _ | i
    · rfl
    · simp at hu
  subst hi
  obtain rfl : Value.int .u8 (bv p) = u := by simpa using hu
  have hsz : kByte.sz = 1 := rfl
  rw [hsz, Nat.mul_one, Nat.add_zero, add_mk, Nat.zero_add]
  have hj2 := (List.getElem?_eq_some_iff.1 hj).1
  refine mb_cell h j _ ?_
  rw [List.getElem?_append_left (by rw [nums_length, List.length_map]; exact hj2)]
  unfold nums
  rw [List.getElem?_map, List.getElem?_map, hj]
  rfl
/-- []byte of a string. -/
theorem St.wBytesOf (HS : St w0 F w L) (hx : evl l x = .string (strB xs))
    (h : ∀ g c sp w', w0.heap.size ≤ g → St w0 F w' (mbk g (nums .u8 (xs.map bv) ++ sp) 5 :: L) → wpList Try.prog ops Q rest (fr (l.set d (.slice (some ⟨g, 0, none⟩) xs.length c))) w') : wpList Try.prog ops Q (⟨some d, .convert 9 24 x, ty, pos, after, none⟩ :: rest) (fr l) w := by
  have hr := run_bytes_of_string (P := Try.prog) w 9 24 5 (strB xs) Try.underlying9 Try.underlying24 Try.underlying5
  have hsz : (strB xs).size = xs.length := by unfold strB; simp [ByteArray.size]
  rw [hsz] at hr
  obtain ⟨sp, hrow⟩ : ∃ sp, (bytesRow (strB xs) (grownCap w xs.length 0 5)).toList = nums .u8 (xs.map bv) ++ sp := by
    refine ⟨List.replicate (grownCap w xs.length 0 5 - (strB xs).size) (.int .u8 0), ?_⟩
    unfold bytesRow strB nums
    simp [bv, Function.comp_def]
  refine m_make (v := .slice (some ⟨w.heap.size, 0, none⟩) xs.length (grownCap w xs.length 0 5)) (w' := w.drew.alloc (.cells (bytesRow (strB xs) (grownCap w xs.length 0 5)) 5 ((bytesRow (strB xs) (grownCap w xs.length 0 5)).size, (bytesRow (strB xs) (grownCap w xs.length 0 5)).size + 1))) (by simp [execOp, hx, hr, Sem.run_bind]) (h _ _ sp _ HS.size ?_)
  have hh : (mbk w.heap.size (nums .u8 (xs.map bv) ++ sp) 5).holds (w.drew.alloc (.cells (bytesRow (strB xs) (grownCap w xs.length 0 5)) 5 ((bytesRow (strB xs) (grownCap w xs.length 0 5)).size, (bytesRow (strB xs) (grownCap w xs.length 0 5)).size + 1))) :=
    ⟨(bytesRow (strB xs) (grownCap w xs.length 0 5)).size, (heap_alloc_new w.drew _).trans (by rw [← hrow, Array.toArray_toList]), by rw [← hrow, Array.length_toList]; exact Nat.le_refl _⟩
  exact (HS.draw).fresh (below_alloc (Below.refl _ _) _) hh (fun b hb => Nat.le_of_eq (Eq.symm hb))
end

theorem rp_ne {i : Nat} {x : Int × List UInt8} (h : N[i]? = some x) : rp N ≠ [] := fun e => by have := rp_get h; rw [e] at this; simp at this
theorem rp_set (i : Nat) (x : Int × List UInt8) : (rp N).set i (x.1, .string (strB x.2)) = rp (N.set i x) := by unfold rp; rw [List.map_set]
theorem mb_at {xs : List UInt8} {q : Nat} {y : UInt8} {sp : List Value} (h : xs[q]? = some y) : (nums .u8 (xs.map bv) ++ sp)[q * 1]? = some (.int .u8 (bv y)) := by
  have hq := (List.getElem?_eq_some_iff.1 h).1
  rw [Nat.mul_one, List.getElem?_append_left (by rw [nums_length, List.length_map]; exact hq)]
  unfold nums
  rw [List.getElem?_map, List.getElem?_map, h]
  rfl
theorem mb_set {xs : List UInt8} {q : Nat} {sp : List Value} (hq : q < xs.length) (z : UInt8) : (nums .u8 (xs.map bv) ++ sp).set (q * 1) (.int .u8 (bv z)) = nums .u8 ((xs.set q z).map bv) ++ sp := by
  rw [Nat.mul_one, List.set_append, if_pos (by rw [nums_length, List.length_map]; exact hq)]
  unfold nums
  rw [List.map_set, List.map_set]
theorem turn_out {xs : List UInt8} {p : Int} {m : UInt8} (h0 : 0 ≤ p) (h1 : ¬ p < (xs.length : Int)) : turnB xs p m = xs := by
  unfold turnB
  rw [if_pos h0]
  exact List.modify_eq_self (by omega)
theorem turn_in {xs : List UInt8} {q : Nat} {m y : UInt8} (h : xs[q]? = some y) : turnB xs (q : Int) m = xs.set q (y ^^^ m) := by
  have hq := (List.getElem?_eq_some_iff.1 h).1
  have hy := (List.getElem?_eq_some_iff.1 h).2
  unfold turnB
  rw [if_pos (by omega), Int.toNat_natCast]
  apply List.ext_getElem?
  intro i
  rw [List.getElem?_modify, List.getElem?_set]
  by_cases hi : q = i
  · subst hi
    simp [hq, h, hy]
  · simp [hi]

set_option maxRecDepth 10000 in
set_option maxHeartbeats 1000000 in
theorem rTurn_any (HS : St w0 F W (row kPk rfl 58 v (rp N) :: L)) {i : Nat} {x : Int × List UInt8} (hx : N[i]? = some x) (hxl : x.2.length ≤ 1000000) (p : Int) (m : UInt8) (hN : N.length ≤ 1000) : Calls Try.prog 34 #[v, .int .i64 (i : Int), .int .i64 p, .int .u8 (bv m)] W fun e w' => ∃ v', e = .returned v' ∧ St w0 F w' (row kPk rfl 58 v' (rp (N.set i (x.1, turnB x.2 p m))) :: L) := by
  obtain ⟨A, c, hv, hcap, -⟩ := row_reads (HS.get (.head _))
  rw [rp_length] at hv hcap
  subst hv
  have hi := (List.getElem?_eq_some_iff.1 hx).1
  by_cases h00 : 0 ≤ p
  · skip
    have h0 : decide (p ≥ 0) = true := decide_eq_true h00
    by_cases h11 : p < (x.2.length : Int)
    · skip
      obtain ⟨q, rfl⟩ : ∃ q : Nat, p = (q : Int) := ⟨p.toNat, by omega⟩
      have h1 : decide ((q : Int) < (x.2.length : Int)) = true := decide_eq_true h11
      obtain ⟨y, hy⟩ : ∃ y, x.2[q]? = some y := ⟨_, List.getElem?_eq_getElem (by omega)⟩
      replace h0 : decide ((q : Int) ≥ 0) = true := h0
      refine c_enter Try.func34 rfl 42 rfl [.slice A N.length c, .int .i64 (i : Int), .int .i64 (q : Int), .int .u8 (bv m), undef, undef, undef, undef, undef, undef, undef, undef, undef, undef, undef, undef, undef, undef, undef, undef, undef, undef, undef, undef, undef, undef, undef, undef, undef, undef, undef, undef, undef, undef, undef, undef, undef, undef, undef, undef, undef, undef] rfl ?_
      refine wp_seq_k (fun K1 hK2 => ?_)
      refine c_region (fun ops4 hops3 => ?_)
      clear hops3
      refine p_run (l' := _) _ (x_assign (.slice none 0 0) rfl rfl) rfl ?_
      refine wpList_nil ?_
      refine fr_at (l' := [.slice A N.length c, .int .i64 (i : Int), .int .i64 (q : Int), .int .u8 (bv m), undef, undef, undef, undef, .slice none 0 0, undef, undef, undef, undef, undef, undef, undef, undef, undef, undef, undef, undef, undef, undef, undef, undef, undef, undef, undef, undef, undef, undef, undef, undef, undef, undef, undef, undef, undef, undef, undef, undef, undef]) rfl ?_
      refine hK2 _ _ ?_
      refine wp_seq_k (fun K5 hK6 => ?_)
      refine c_region (fun ops8 hops7 => ?_)
      clear hops7
      refine St.wLit0 HS kPk rfl 2 (.agg [.int .i64 0, .string ByteArray.empty].toArray) Try.underlying52 (by kernel_rfl) ?_
      clear HS
      intro v9 w10 HS
      refine p_run (l' := _) _ (x_move (.slice A N.length c) rfl rfl) rfl ?_
      refine St.wAppend HS ((.agg #[.int .i64 0, .string ByteArray.empty])) 24 Try.underlying52 (by kernel_rfl) rfl (by decide) (by decide) (rp N) _ _ _ rfl rfl (by have := (row_C (HS.get (.tail _ (.head _)))).2.2; rw [rp_length] at this; exact this) (fun _ _ h => h) (by simp [rp_length]; omega) ?_
      clear HS
      intro v11 w12 HS
      refine p_run (l' := [.slice A N.length c, .int .i64 (i : Int), .int .i64 (q : Int), .int .u8 (bv m), undef, undef, undef, undef, .slice none 0 0, v11, undef, v9, .slice A N.length c, v11, undef, undef, undef, undef, undef, undef, undef, undef, undef, undef, undef, undef, undef, undef, undef, undef, undef, undef, undef, undef, undef, undef, undef, undef, undef, undef, undef, undef]) _ (x_assign (v11) rfl rfl) rfl ?_
      refine wpList_nil ?_
      refine hK6 _ _ ?_
      refine wp_seq_k (fun K13 hK14 => ?_)
      skip
      · skip
        rw [List.nil_append] at HS
        obtain ⟨g, c2, sp, hv2, hb, hc1, hc2, hc3, hone⟩ := row_pk HS.hs.head (rp_ne hx)
        rw [rp_length] at hv2 hc1
        subst hv2
        replace HS := HS.alter hb (fun b h => (congrArg some (show b = g from h)).symm)
        refine c_region (fun ops16 hops15 => ?_)
        clear hops15
        refine p_run (l' := _) _ (x_move (.slice (some ⟨g, 0, none⟩) N.length c2) rfl rfl) rfl ?_
        refine p_run (l' := _) _ (x_move (.int .i64 (i : Int)) rfl rfl) rfl ?_
        refine p_run (l' := _) (.pointer (some ⟨g, i * 2, none⟩)) ((x_index (A := ⟨g, 0, none⟩) (j := i * 2) (sz := 2) rfl rfl rfl Try.underlying52 (by kernel_rfl) (by omega) rfl).trans (by rw [add_mk, Nat.zero_add])) rfl ?_
        refine p_run (l' := [.slice A N.length c, .int .i64 (i : Int), .int .i64 (q : Int), .int .u8 (bv m), undef, undef, undef, undef, .slice none 0 0, .slice (some ⟨g, 0, none⟩) N.length c2, undef, v9, .slice A N.length c, .slice (some ⟨g, 0, none⟩) N.length c2, .slice (some ⟨g, 0, none⟩) N.length c2, .int .i64 (i : Int), .pointer (some ⟨g, i * 2, none⟩), .pointer (some ⟨g, i * 2 + 1, none⟩), undef, undef, undef, undef, undef, undef, undef, undef, undef, undef, undef, undef, undef, undef, undef, undef, undef, undef, undef, undef, undef, undef, undef, undef]) _ (x_field (j := i * 2 + 1) _ _ rfl rfl Try.underlying58 rfl (by rfl) rfl) rfl ?_
        refine p_run (l' := _) _ (x_load (.string (strB x.2)) rfl rfl (bkCell (HS.get (.head _)) (i * 2 + 1) _ (pk_at1 (rp_get hx))) (by rfl)) rfl ?_
        refine St.wBytesOf (xs := x.2) HS rfl ?_
        clear HS
        intro gm17 cm18 spm w19 _ HS
        refine p_run (l' := _) _ (x_assign (.slice (some ⟨gm17, 0, none⟩) x.2.length cm18) rfl rfl) rfl ?_
        refine wpList_nil ?_
        refine fr_at (l' := [.slice A N.length c, .int .i64 (i : Int), .int .i64 (q : Int), .int .u8 (bv m), undef, undef, undef, undef, .slice none 0 0, .slice (some ⟨g, 0, none⟩) N.length c2, .slice (some ⟨gm17, 0, none⟩) x.2.length cm18, v9, .slice A N.length c, .slice (some ⟨g, 0, none⟩) N.length c2, .slice (some ⟨g, 0, none⟩) N.length c2, .int .i64 (i : Int), .pointer (some ⟨g, i * 2, none⟩), .pointer (some ⟨g, i * 2 + 1, none⟩), .string (strB x.2), .slice (some ⟨gm17, 0, none⟩) x.2.length cm18, undef, undef, undef, undef, undef, undef, undef, undef, undef, undef, undef, undef, undef, undef, undef, undef, undef, undef, undef, undef, undef, undef]) rfl ?_
        refine hK14 _ _ ?_
        refine wp_seq_k (fun K20 hK21 => ?_)
        refine wp_seq_k (fun K22 hK23 => ?_)
        refine c_region (fun ops25 hops24 => ?_)
        refine p_run (l' := _) _ (x_move (.int .i64 (q : Int)) rfl rfl) rfl ?_
        refine p_run (l' := _) _ (x_cmp (k := .i64) (m := (q : Int)) (n := 0) .geq true rfl rfl rfl h0 rfl) rfl ?_
        refine p_run (l' := _) _ (x_move (.bool true) rfl rfl) rfl ?_
        refine p_on rfl (by rw [hops24]; rfl) ?_
        refine p_run (l' := [.slice A N.length c, .int .i64 (i : Int), .int .i64 (q : Int), .int .u8 (bv m), undef, undef, undef, undef, .slice none 0 0, .slice (some ⟨g, 0, none⟩) N.length c2, .slice (some ⟨gm17, 0, none⟩) x.2.length cm18, v9, .slice A N.length c, .slice (some ⟨g, 0, none⟩) N.length c2, .slice (some ⟨g, 0, none⟩) N.length c2, .int .i64 (i : Int), .pointer (some ⟨g, i * 2, none⟩), .pointer (some ⟨g, i * 2 + 1, none⟩), .string (strB x.2), .slice (some ⟨gm17, 0, none⟩) x.2.length cm18, .int .i64 (q : Int), .bool true, .bool true, .int .i64 (q : Int), undef, undef, undef, undef, undef, undef, undef, undef, undef, undef, undef, undef, undef, undef, undef, undef, undef, undef]) _ (x_move (.int .i64 (q : Int)) rfl rfl) rfl ?_
        refine p_on rfl (by rw [hops24]; rfl) ?_
        refine p_run (l' := _) _ (x_move (.slice (some ⟨gm17, 0, none⟩) x.2.length cm18) rfl rfl) rfl ?_
        refine p_on rfl (by rw [hops24]; rfl) ?_
        refine p_run (l' := _) _ (x_len rfl rfl Try.underlying24) rfl ?_
        refine p_on rfl (by rw [hops24]; rfl) ?_
        refine p_run (l' := _) _ (x_cmp (k := .i64) (m := (q : Int)) (n := (x.2.length : Int)) .lss true rfl rfl rfl h1 rfl) rfl ?_
        refine p_run (l' := [.slice A N.length c, .int .i64 (i : Int), .int .i64 (q : Int), .int .u8 (bv m), undef, undef, undef, undef, .slice none 0 0, .slice (some ⟨g, 0, none⟩) N.length c2, .slice (some ⟨gm17, 0, none⟩) x.2.length cm18, v9, .slice A N.length c, .slice (some ⟨g, 0, none⟩) N.length c2, .slice (some ⟨g, 0, none⟩) N.length c2, .int .i64 (i : Int), .pointer (some ⟨g, i * 2, none⟩), .pointer (some ⟨g, i * 2 + 1, none⟩), .string (strB x.2), .slice (some ⟨gm17, 0, none⟩) x.2.length cm18, .int .i64 (q : Int), .bool true, .bool true, .int .i64 (q : Int), .slice (some ⟨gm17, 0, none⟩) x.2.length cm18, .int .i64 (x.2.length : Int), .bool true, .bool true, undef, undef, undef, undef, undef, undef, undef, undef, undef, undef, undef, undef, undef, undef]) _ (x_pick true (.bool true) (.bool false) (.bool true) rfl rfl rfl rfl rfl) rfl ?_
        clear hops24
        refine wpList_nil ?_
        refine hK23 _ _ ?_
        refine c_true rfl ?_
        refine c_region (fun ops27 hops26 => ?_)
        clear hops26
        refine p_run (l' := _) _ (x_move (.slice (some ⟨gm17, 0, none⟩) x.2.length cm18) rfl rfl) rfl ?_
        refine p_run (l' := _) _ (x_move (.int .i64 (q : Int)) rfl rfl) rfl ?_
        refine p_run (l' := _) (.pointer (some ⟨gm17, q * 1, none⟩)) ((x_index (A := ⟨gm17, 0, none⟩) (j := q * 1) (sz := 1) rfl rfl rfl Try.underlying24 (by kernel_rfl) (by omega) rfl).trans (by rw [add_mk, Nat.zero_add])) rfl ?_
        refine p_run (l' := [.slice A N.length c, .int .i64 (i : Int), .int .i64 (q : Int), .int .u8 (bv m), undef, undef, undef, undef, .slice none 0 0, .slice (some ⟨g, 0, none⟩) N.length c2, .slice (some ⟨gm17, 0, none⟩) x.2.length cm18, v9, .slice A N.length c, .slice (some ⟨g, 0, none⟩) N.length c2, .slice (some ⟨g, 0, none⟩) N.length c2, .int .i64 (i : Int), .pointer (some ⟨g, i * 2, none⟩), .pointer (some ⟨g, i * 2 + 1, none⟩), .string (strB x.2), .slice (some ⟨gm17, 0, none⟩) x.2.length cm18, .int .i64 (q : Int), .bool true, .bool true, .int .i64 (q : Int), .slice (some ⟨gm17, 0, none⟩) x.2.length cm18, .int .i64 (x.2.length : Int), .bool true, .bool true, .slice (some ⟨gm17, 0, none⟩) x.2.length cm18, .int .i64 (q : Int), .pointer (some ⟨gm17, q * 1, none⟩), .int .u8 (bv y), undef, undef, undef, undef, undef, undef, undef, undef, undef, undef]) _ (x_load (.int .u8 (bv y)) rfl rfl (mb_cell (HS.get (.head _)) _ _ (mb_at hy)) (by rfl)) rfl ?_
        refine p_run (l' := _) _ (x_move (.int .u8 (bv m)) rfl rfl) rfl ?_
        refine p_run (l' := _) _ (x_xor (k := .u8) (m := (bv y)) (n := (bv m)) ((bv (y ^^^ m))) rfl rfl rfl (xor_k y m)) rfl ?_
        refine p_run (l' := _) (.pointer (some ⟨gm17, q * 1, none⟩)) ((x_index (A := ⟨gm17, 0, none⟩) (j := q * 1) (sz := 1) rfl rfl rfl Try.underlying24 (by kernel_rfl) (by omega) rfl).trans (by rw [add_mk, Nat.zero_add])) rfl ?_
        refine St.mbStore (cs' := nums .u8 ((x.2.set q (y ^^^ m)).map bv) ++ spm) HS (.int .u8 (bv (y ^^^ m))) rfl rfl rfl (by kernel_rfl) (by rw [List.length_append, nums_length, List.length_map]; omega) (mb_set (by omega) _) ?_
        clear HS
        intro w28 HS
        refine wpList_nil ?_
        refine fr_at (l' := [.slice A N.length c, .int .i64 (i : Int), .int .i64 (q : Int), .int .u8 (bv m), undef, undef, undef, undef, .slice none 0 0, .slice (some ⟨g, 0, none⟩) N.length c2, .slice (some ⟨gm17, 0, none⟩) x.2.length cm18, v9, .slice A N.length c, .slice (some ⟨g, 0, none⟩) N.length c2, .slice (some ⟨g, 0, none⟩) N.length c2, .int .i64 (i : Int), .pointer (some ⟨g, i * 2, none⟩), .pointer (some ⟨g, i * 2 + 1, none⟩), .string (strB x.2), .slice (some ⟨gm17, 0, none⟩) x.2.length cm18, .int .i64 (q : Int), .bool true, .bool true, .int .i64 (q : Int), .slice (some ⟨gm17, 0, none⟩) x.2.length cm18, .int .i64 (x.2.length : Int), .bool true, .bool true, .slice (some ⟨gm17, 0, none⟩) x.2.length cm18, .int .i64 (q : Int), .pointer (some ⟨gm17, q * 1, none⟩), .int .u8 (bv y), .int .u8 (bv m), .int .u8 (bv (y ^^^ m)), .pointer (some ⟨gm17, q * 1, none⟩), undef, undef, undef, undef, undef, undef, undef]) rfl ?_
        refine hK21 _ _ ?_
        refine wp_seq_k (fun K29 hK30 => ?_)
        refine c_region (fun ops32 hops31 => ?_)
        clear hops31
        refine p_run (l' := _) _ (x_move (.slice (some ⟨g, 0, none⟩) N.length c2) rfl rfl) rfl ?_
        refine p_run (l' := _) _ (x_move (.int .i64 (i : Int)) rfl rfl) rfl ?_
        refine p_run (l' := _) _ (x_move (.slice (some ⟨gm17, 0, none⟩) x.2.length cm18) rfl rfl) rfl ?_
        refine p_run (l' := [.slice A N.length c, .int .i64 (i : Int), .int .i64 (q : Int), .int .u8 (bv m), undef, undef, undef, undef, .slice none 0 0, .slice (some ⟨g, 0, none⟩) N.length c2, .slice (some ⟨gm17, 0, none⟩) x.2.length cm18, v9, .slice A N.length c, .slice (some ⟨g, 0, none⟩) N.length c2, .slice (some ⟨g, 0, none⟩) N.length c2, .int .i64 (i : Int), .pointer (some ⟨g, i * 2, none⟩), .pointer (some ⟨g, i * 2 + 1, none⟩), .string (strB x.2), .slice (some ⟨gm17, 0, none⟩) x.2.length cm18, .int .i64 (q : Int), .bool true, .bool true, .int .i64 (q : Int), .slice (some ⟨gm17, 0, none⟩) x.2.length cm18, .int .i64 (x.2.length : Int), .bool true, .bool true, .slice (some ⟨gm17, 0, none⟩) x.2.length cm18, .int .i64 (q : Int), .pointer (some ⟨gm17, q * 1, none⟩), .int .u8 (bv y), .int .u8 (bv m), .int .u8 (bv (y ^^^ m)), .pointer (some ⟨gm17, q * 1, none⟩), .slice (some ⟨g, 0, none⟩) N.length c2, .int .i64 (i : Int), .slice (some ⟨gm17, 0, none⟩) x.2.length cm18, .string (strB (x.2.set q (y ^^^ m))), undef, undef, undef]) _ (x_str (xs := (x.2.set q (y ^^^ m))) (mb_rd (HS.get (.head _)) (by rw [List.length_set]; omega)) (by first | rfl | simp) rfl rfl) rfl ?_
        refine p_run (l' := _) (.pointer (some ⟨g, i * 2, none⟩)) ((x_index (A := ⟨g, 0, none⟩) (j := i * 2) (sz := 2) rfl rfl rfl Try.underlying52 (by kernel_rfl) (by omega) rfl).trans (by rw [add_mk, Nat.zero_add])) rfl ?_
        refine p_run (l' := _) _ (x_field (j := i * 2 + 1) _ _ rfl rfl Try.underlying58 rfl (by rfl) rfl) rfl ?_
        refine St.store (cs' := ((pkC (rp N) ++ sp).set (i * 2 + 1) (.string (strB (x.2.set q (y ^^^ m)))))) (HS.front 1 rfl) (.string (strB (x.2.set q (y ^^^ m)))) rfl rfl rfl (by kernel_rfl) (decide_eq_true (by rw [hc3]; omega)) rfl ?_
        clear HS
        intro w33 HS
        refine wpList_nil ?_
        refine fr_at (l' := [.slice A N.length c, .int .i64 (i : Int), .int .i64 (q : Int), .int .u8 (bv m), undef, undef, undef, undef, .slice none 0 0, .slice (some ⟨g, 0, none⟩) N.length c2, .slice (some ⟨gm17, 0, none⟩) x.2.length cm18, v9, .slice A N.length c, .slice (some ⟨g, 0, none⟩) N.length c2, .slice (some ⟨g, 0, none⟩) N.length c2, .int .i64 (i : Int), .pointer (some ⟨g, i * 2, none⟩), .pointer (some ⟨g, i * 2 + 1, none⟩), .string (strB x.2), .slice (some ⟨gm17, 0, none⟩) x.2.length cm18, .int .i64 (q : Int), .bool true, .bool true, .int .i64 (q : Int), .slice (some ⟨gm17, 0, none⟩) x.2.length cm18, .int .i64 (x.2.length : Int), .bool true, .bool true, .slice (some ⟨gm17, 0, none⟩) x.2.length cm18, .int .i64 (q : Int), .pointer (some ⟨gm17, q * 1, none⟩), .int .u8 (bv y), .int .u8 (bv m), .int .u8 (bv (y ^^^ m)), .pointer (some ⟨gm17, q * 1, none⟩), .slice (some ⟨g, 0, none⟩) N.length c2, .int .i64 (i : Int), .slice (some ⟨gm17, 0, none⟩) x.2.length cm18, .string (strB (x.2.set q (y ^^^ m))), .pointer (some ⟨g, i * 2, none⟩), .pointer (some ⟨g, i * 2 + 1, none⟩), undef]) rfl ?_
        refine hK30 _ _ ?_
        refine wp_seq_k (fun K34 hK35 => ?_)
        refine c_region (fun ops37 hops36 => ?_)
        clear hops36
        refine p_run (l' := _) _ (x_move (.slice (some ⟨g, 0, none⟩) N.length c2) rfl rfl) rfl ?_
        refine p_run (l' := _) _ (x_assign (.slice (some ⟨g, 0, none⟩) N.length c2) rfl rfl) rfl ?_
        refine wpList_nil ?_
        refine fr_at (l' := [.slice A N.length c, .int .i64 (i : Int), .int .i64 (q : Int), .int .u8 (bv m), undef, undef, undef, undef, .slice (some ⟨g, 0, none⟩) N.length c2, .slice (some ⟨g, 0, none⟩) N.length c2, .slice (some ⟨gm17, 0, none⟩) x.2.length cm18, v9, .slice A N.length c, .slice (some ⟨g, 0, none⟩) N.length c2, .slice (some ⟨g, 0, none⟩) N.length c2, .int .i64 (i : Int), .pointer (some ⟨g, i * 2, none⟩), .pointer (some ⟨g, i * 2 + 1, none⟩), .string (strB x.2), .slice (some ⟨gm17, 0, none⟩) x.2.length cm18, .int .i64 (q : Int), .bool true, .bool true, .int .i64 (q : Int), .slice (some ⟨gm17, 0, none⟩) x.2.length cm18, .int .i64 (x.2.length : Int), .bool true, .bool true, .slice (some ⟨gm17, 0, none⟩) x.2.length cm18, .int .i64 (q : Int), .pointer (some ⟨gm17, q * 1, none⟩), .int .u8 (bv y), .int .u8 (bv m), .int .u8 (bv (y ^^^ m)), .pointer (some ⟨gm17, q * 1, none⟩), .slice (some ⟨g, 0, none⟩) N.length c2, .int .i64 (i : Int), .slice (some ⟨gm17, 0, none⟩) x.2.length cm18, .string (strB (x.2.set q (y ^^^ m))), .pointer (some ⟨g, i * 2, none⟩), .pointer (some ⟨g, i * 2 + 1, none⟩), .slice (some ⟨g, 0, none⟩) N.length c2]) rfl ?_
        refine hK35 _ _ ?_
        refine wp_ret ?_
        try simp only [Exit.inBlock, Exit.then]
        refine c_ret (.slice (some ⟨g, 0, none⟩) N.length c2) (r_tmp rfl rfl) ?_
        rw [pk_set1 (rp_get hx), show (rp N).set i (x.1, Value.string (strB (x.2.set q (y ^^^ m)))) = rp (N.set i (x.1, (x.2.set q (y ^^^ m)))) from rp_set i (x.1, (x.2.set q (y ^^^ m)))] at HS
        have hle : (rp (N.set i (x.1, (x.2.set q (y ^^^ m))))).length = N.length := by rw [rp_length, List.length_set]
        have hc3' : (pkC (rp (N.set i (x.1, (x.2.set q (y ^^^ m))))) ++ sp).length = c2 * 2 := by rw [← hc3, List.length_append, List.length_append, pkC_length, pkC_length, hle, rp_length]
        replace HS := HS.alter (pk_row (hE := rfl) (ps := rp (N.set i (x.1, (x.2.set q (y ^^^ m))))) HS.hs.head (by rw [hle]; omega) hc2 hc3' rp_one) (fun b h => (Option.some.inj (show some g = some b from h)).symm)
        rw [hle] at HS
        rw [show turnB x.2 (q : Int) m = (x.2.set q (y ^^^ m)) from turn_in hy]
        exact ⟨_, rfl, ((HS.front 1 rfl).drop.front 1 rfl).drop⟩
    · skip
      have h1 : decide (p < (x.2.length : Int)) = false := decide_eq_false h11
      refine c_enter Try.func34 rfl 42 rfl [.slice A N.length c, .int .i64 (i : Int), .int .i64 p, .int .u8 (bv m), undef, undef, undef, undef, undef, undef, undef, undef, undef, undef, undef, undef, undef, undef, undef, undef, undef, undef, undef, undef, undef, undef, undef, undef, undef, undef, undef, undef, undef, undef, undef, undef, undef, undef, undef, undef, undef, undef] rfl ?_
      refine wp_seq_k (fun K1 hK2 => ?_)
      refine c_region (fun ops4 hops3 => ?_)
      clear hops3
      refine p_run (l' := _) _ (x_assign (.slice none 0 0) rfl rfl) rfl ?_
      refine wpList_nil ?_
      refine fr_at (l' := [.slice A N.length c, .int .i64 (i : Int), .int .i64 p, .int .u8 (bv m), undef, undef, undef, undef, .slice none 0 0, undef, undef, undef, undef, undef, undef, undef, undef, undef, undef, undef, undef, undef, undef, undef, undef, undef, undef, undef, undef, undef, undef, undef, undef, undef, undef, undef, undef, undef, undef, undef, undef, undef]) rfl ?_
      refine hK2 _ _ ?_
      refine wp_seq_k (fun K5 hK6 => ?_)
      refine c_region (fun ops8 hops7 => ?_)
      clear hops7
      refine St.wLit0 HS kPk rfl 2 (.agg [.int .i64 0, .string ByteArray.empty].toArray) Try.underlying52 (by kernel_rfl) ?_
      clear HS
      intro v9 w10 HS
      refine p_run (l' := _) _ (x_move (.slice A N.length c) rfl rfl) rfl ?_
      refine St.wAppend HS ((.agg #[.int .i64 0, .string ByteArray.empty])) 24 Try.underlying52 (by kernel_rfl) rfl (by decide) (by decide) (rp N) _ _ _ rfl rfl (by have := (row_C (HS.get (.tail _ (.head _)))).2.2; rw [rp_length] at this; exact this) (fun _ _ h => h) (by simp [rp_length]; omega) ?_
      clear HS
      intro v11 w12 HS
      refine p_run (l' := [.slice A N.length c, .int .i64 (i : Int), .int .i64 p, .int .u8 (bv m), undef, undef, undef, undef, .slice none 0 0, v11, undef, v9, .slice A N.length c, v11, undef, undef, undef, undef, undef, undef, undef, undef, undef, undef, undef, undef, undef, undef, undef, undef, undef, undef, undef, undef, undef, undef, undef, undef, undef, undef, undef, undef]) _ (x_assign (v11) rfl rfl) rfl ?_
      refine wpList_nil ?_
      refine hK6 _ _ ?_
      refine wp_seq_k (fun K13 hK14 => ?_)
      skip
      · skip
        rw [List.nil_append] at HS
        obtain ⟨g, c2, sp, hv2, hb, hc1, hc2, hc3, hone⟩ := row_pk HS.hs.head (rp_ne hx)
        rw [rp_length] at hv2 hc1
        subst hv2
        replace HS := HS.alter hb (fun b h => (congrArg some (show b = g from h)).symm)
        refine c_region (fun ops16 hops15 => ?_)
        clear hops15
        refine p_run (l' := _) _ (x_move (.slice (some ⟨g, 0, none⟩) N.length c2) rfl rfl) rfl ?_
        refine p_run (l' := _) _ (x_move (.int .i64 (i : Int)) rfl rfl) rfl ?_
        refine p_run (l' := _) (.pointer (some ⟨g, i * 2, none⟩)) ((x_index (A := ⟨g, 0, none⟩) (j := i * 2) (sz := 2) rfl rfl rfl Try.underlying52 (by kernel_rfl) (by omega) rfl).trans (by rw [add_mk, Nat.zero_add])) rfl ?_
        refine p_run (l' := [.slice A N.length c, .int .i64 (i : Int), .int .i64 p, .int .u8 (bv m), undef, undef, undef, undef, .slice none 0 0, .slice (some ⟨g, 0, none⟩) N.length c2, undef, v9, .slice A N.length c, .slice (some ⟨g, 0, none⟩) N.length c2, .slice (some ⟨g, 0, none⟩) N.length c2, .int .i64 (i : Int), .pointer (some ⟨g, i * 2, none⟩), .pointer (some ⟨g, i * 2 + 1, none⟩), undef, undef, undef, undef, undef, undef, undef, undef, undef, undef, undef, undef, undef, undef, undef, undef, undef, undef, undef, undef, undef, undef, undef, undef]) _ (x_field (j := i * 2 + 1) _ _ rfl rfl Try.underlying58 rfl (by rfl) rfl) rfl ?_
        refine p_run (l' := _) _ (x_load (.string (strB x.2)) rfl rfl (bkCell (HS.get (.head _)) (i * 2 + 1) _ (pk_at1 (rp_get hx))) (by rfl)) rfl ?_
        refine St.wBytesOf (xs := x.2) HS rfl ?_
        clear HS
        intro gm17 cm18 spm w19 _ HS
        refine p_run (l' := _) _ (x_assign (.slice (some ⟨gm17, 0, none⟩) x.2.length cm18) rfl rfl) rfl ?_
        refine wpList_nil ?_
        refine fr_at (l' := [.slice A N.length c, .int .i64 (i : Int), .int .i64 p, .int .u8 (bv m), undef, undef, undef, undef, .slice none 0 0, .slice (some ⟨g, 0, none⟩) N.length c2, .slice (some ⟨gm17, 0, none⟩) x.2.length cm18, v9, .slice A N.length c, .slice (some ⟨g, 0, none⟩) N.length c2, .slice (some ⟨g, 0, none⟩) N.length c2, .int .i64 (i : Int), .pointer (some ⟨g, i * 2, none⟩), .pointer (some ⟨g, i * 2 + 1, none⟩), .string (strB x.2), .slice (some ⟨gm17, 0, none⟩) x.2.length cm18, undef, undef, undef, undef, undef, undef, undef, undef, undef, undef, undef, undef, undef, undef, undef, undef, undef, undef, undef, undef, undef, undef]) rfl ?_
        refine hK14 _ _ ?_
        refine wp_seq_k (fun K20 hK21 => ?_)
        refine wp_seq_k (fun K22 hK23 => ?_)
        refine c_region (fun ops25 hops24 => ?_)
        refine p_run (l' := _) _ (x_move (.int .i64 p) rfl rfl) rfl ?_
        refine p_run (l' := _) _ (x_cmp (k := .i64) (m := p) (n := 0) .geq true rfl rfl rfl h0 rfl) rfl ?_
        refine p_run (l' := _) _ (x_move (.bool true) rfl rfl) rfl ?_
        refine p_on rfl (by rw [hops24]; rfl) ?_
        refine p_run (l' := [.slice A N.length c, .int .i64 (i : Int), .int .i64 p, .int .u8 (bv m), undef, undef, undef, undef, .slice none 0 0, .slice (some ⟨g, 0, none⟩) N.length c2, .slice (some ⟨gm17, 0, none⟩) x.2.length cm18, v9, .slice A N.length c, .slice (some ⟨g, 0, none⟩) N.length c2, .slice (some ⟨g, 0, none⟩) N.length c2, .int .i64 (i : Int), .pointer (some ⟨g, i * 2, none⟩), .pointer (some ⟨g, i * 2 + 1, none⟩), .string (strB x.2), .slice (some ⟨gm17, 0, none⟩) x.2.length cm18, .int .i64 p, .bool true, .bool true, .int .i64 p, undef, undef, undef, undef, undef, undef, undef, undef, undef, undef, undef, undef, undef, undef, undef, undef, undef, undef]) _ (x_move (.int .i64 p) rfl rfl) rfl ?_
        refine p_on rfl (by rw [hops24]; rfl) ?_
        refine p_run (l' := _) _ (x_move (.slice (some ⟨gm17, 0, none⟩) x.2.length cm18) rfl rfl) rfl ?_
        refine p_on rfl (by rw [hops24]; rfl) ?_
        refine p_run (l' := _) _ (x_len rfl rfl Try.underlying24) rfl ?_
        refine p_on rfl (by rw [hops24]; rfl) ?_
        refine p_run (l' := _) _ (x_cmp (k := .i64) (m := p) (n := (x.2.length : Int)) .lss false rfl rfl rfl h1 rfl) rfl ?_
        refine p_run (l' := [.slice A N.length c, .int .i64 (i : Int), .int .i64 p, .int .u8 (bv m), undef, undef, undef, undef, .slice none 0 0, .slice (some ⟨g, 0, none⟩) N.length c2, .slice (some ⟨gm17, 0, none⟩) x.2.length cm18, v9, .slice A N.length c, .slice (some ⟨g, 0, none⟩) N.length c2, .slice (some ⟨g, 0, none⟩) N.length c2, .int .i64 (i : Int), .pointer (some ⟨g, i * 2, none⟩), .pointer (some ⟨g, i * 2 + 1, none⟩), .string (strB x.2), .slice (some ⟨gm17, 0, none⟩) x.2.length cm18, .int .i64 p, .bool true, .bool true, .int .i64 p, .slice (some ⟨gm17, 0, none⟩) x.2.length cm18, .int .i64 (x.2.length : Int), .bool false, .bool false, undef, undef, undef, undef, undef, undef, undef, undef, undef, undef, undef, undef, undef, undef]) _ (x_pick true (.bool false) (.bool false) (.bool false) rfl rfl rfl rfl rfl) rfl ?_
        clear hops24
        refine wpList_nil ?_
        refine hK23 _ _ ?_
        refine c_false rfl ?_
        refine wp_skip ?_
        refine hK21 _ _ ?_
        refine wp_seq_k (fun K26 hK27 => ?_)
        refine c_region (fun ops29 hops28 => ?_)
        clear hops28
        refine p_run (l' := _) _ (x_move (.slice (some ⟨g, 0, none⟩) N.length c2) rfl rfl) rfl ?_
        refine p_run (l' := _) _ (x_move (.int .i64 (i : Int)) rfl rfl) rfl ?_
        refine p_run (l' := _) _ (x_move (.slice (some ⟨gm17, 0, none⟩) x.2.length cm18) rfl rfl) rfl ?_
        refine p_run (l' := [.slice A N.length c, .int .i64 (i : Int), .int .i64 p, .int .u8 (bv m), undef, undef, undef, undef, .slice none 0 0, .slice (some ⟨g, 0, none⟩) N.length c2, .slice (some ⟨gm17, 0, none⟩) x.2.length cm18, v9, .slice A N.length c, .slice (some ⟨g, 0, none⟩) N.length c2, .slice (some ⟨g, 0, none⟩) N.length c2, .int .i64 (i : Int), .pointer (some ⟨g, i * 2, none⟩), .pointer (some ⟨g, i * 2 + 1, none⟩), .string (strB x.2), .slice (some ⟨gm17, 0, none⟩) x.2.length cm18, .int .i64 p, .bool true, .bool true, .int .i64 p, .slice (some ⟨gm17, 0, none⟩) x.2.length cm18, .int .i64 (x.2.length : Int), .bool false, .bool false, undef, undef, undef, undef, undef, undef, undef, .slice (some ⟨g, 0, none⟩) N.length c2, .int .i64 (i : Int), .slice (some ⟨gm17, 0, none⟩) x.2.length cm18, .string (strB x.2), undef, undef, undef]) _ (x_str (xs := x.2) (mb_rd (HS.get (.head _)) (by omega)) (by first | rfl | simp) rfl rfl) rfl ?_
        refine p_run (l' := _) (.pointer (some ⟨g, i * 2, none⟩)) ((x_index (A := ⟨g, 0, none⟩) (j := i * 2) (sz := 2) rfl rfl rfl Try.underlying52 (by kernel_rfl) (by omega) rfl).trans (by rw [add_mk, Nat.zero_add])) rfl ?_
        refine p_run (l' := _) _ (x_field (j := i * 2 + 1) _ _ rfl rfl Try.underlying58 rfl (by rfl) rfl) rfl ?_
        refine St.store (cs' := ((pkC (rp N) ++ sp).set (i * 2 + 1) (.string (strB x.2)))) (HS.front 1 rfl) (.string (strB x.2)) rfl rfl rfl (by kernel_rfl) (decide_eq_true (by rw [hc3]; omega)) rfl ?_
        clear HS
        intro w30 HS
        refine wpList_nil ?_
        refine fr_at (l' := [.slice A N.length c, .int .i64 (i : Int), .int .i64 p, .int .u8 (bv m), undef, undef, undef, undef, .slice none 0 0, .slice (some ⟨g, 0, none⟩) N.length c2, .slice (some ⟨gm17, 0, none⟩) x.2.length cm18, v9, .slice A N.length c, .slice (some ⟨g, 0, none⟩) N.length c2, .slice (some ⟨g, 0, none⟩) N.length c2, .int .i64 (i : Int), .pointer (some ⟨g, i * 2, none⟩), .pointer (some ⟨g, i * 2 + 1, none⟩), .string (strB x.2), .slice (some ⟨gm17, 0, none⟩) x.2.length cm18, .int .i64 p, .bool true, .bool true, .int .i64 p, .slice (some ⟨gm17, 0, none⟩) x.2.length cm18, .int .i64 (x.2.length : Int), .bool false, .bool false, undef, undef, undef, undef, undef, undef, undef, .slice (some ⟨g, 0, none⟩) N.length c2, .int .i64 (i : Int), .slice (some ⟨gm17, 0, none⟩) x.2.length cm18, .string (strB x.2), .pointer (some ⟨g, i * 2, none⟩), .pointer (some ⟨g, i * 2 + 1, none⟩), undef]) rfl ?_
        refine hK27 _ _ ?_
        refine wp_seq_k (fun K31 hK32 => ?_)
        refine c_region (fun ops34 hops33 => ?_)
        clear hops33
        refine p_run (l' := _) _ (x_move (.slice (some ⟨g, 0, none⟩) N.length c2) rfl rfl) rfl ?_
        refine p_run (l' := _) _ (x_assign (.slice (some ⟨g, 0, none⟩) N.length c2) rfl rfl) rfl ?_
        refine wpList_nil ?_
        refine fr_at (l' := [.slice A N.length c, .int .i64 (i : Int), .int .i64 p, .int .u8 (bv m), undef, undef, undef, undef, .slice (some ⟨g, 0, none⟩) N.length c2, .slice (some ⟨g, 0, none⟩) N.length c2, .slice (some ⟨gm17, 0, none⟩) x.2.length cm18, v9, .slice A N.length c, .slice (some ⟨g, 0, none⟩) N.length c2, .slice (some ⟨g, 0, none⟩) N.length c2, .int .i64 (i : Int), .pointer (some ⟨g, i * 2, none⟩), .pointer (some ⟨g, i * 2 + 1, none⟩), .string (strB x.2), .slice (some ⟨gm17, 0, none⟩) x.2.length cm18, .int .i64 p, .bool true, .bool true, .int .i64 p, .slice (some ⟨gm17, 0, none⟩) x.2.length cm18, .int .i64 (x.2.length : Int), .bool false, .bool false, undef, undef, undef, undef, undef, undef, undef, .slice (some ⟨g, 0, none⟩) N.length c2, .int .i64 (i : Int), .slice (some ⟨gm17, 0, none⟩) x.2.length cm18, .string (strB x.2), .pointer (some ⟨g, i * 2, none⟩), .pointer (some ⟨g, i * 2 + 1, none⟩), .slice (some ⟨g, 0, none⟩) N.length c2]) rfl ?_
        refine hK32 _ _ ?_
        refine wp_ret ?_
        try simp only [Exit.inBlock, Exit.then]
        refine c_ret (.slice (some ⟨g, 0, none⟩) N.length c2) (r_tmp rfl rfl) ?_
        rw [pk_set1 (rp_get hx), show (rp N).set i (x.1, Value.string (strB x.2)) = rp (N.set i (x.1, x.2)) from rp_set i (x.1, x.2)] at HS
        have hle : (rp (N.set i (x.1, x.2))).length = N.length := by rw [rp_length, List.length_set]
        have hc3' : (pkC (rp (N.set i (x.1, x.2))) ++ sp).length = c2 * 2 := by rw [← hc3, List.length_append, List.length_append, pkC_length, pkC_length, hle, rp_length]
        replace HS := HS.alter (pk_row (hE := rfl) (ps := rp (N.set i (x.1, x.2))) HS.hs.head (by rw [hle]; omega) hc2 hc3' rp_one) (fun b h => (Option.some.inj (show some g = some b from h)).symm)
        rw [hle] at HS
        rw [show turnB x.2 p m = x.2 from turn_out h00 h11]
        exact ⟨_, rfl, ((HS.front 1 rfl).drop.front 1 rfl).drop⟩
  · skip
    have h0 : decide (p ≥ 0) = false := decide_eq_false h00
    refine c_enter Try.func34 rfl 42 rfl [.slice A N.length c, .int .i64 (i : Int), .int .i64 p, .int .u8 (bv m), undef, undef, undef, undef, undef, undef, undef, undef, undef, undef, undef, undef, undef, undef, undef, undef, undef, undef, undef, undef, undef, undef, undef, undef, undef, undef, undef, undef, undef, undef, undef, undef, undef, undef, undef, undef, undef, undef] rfl ?_
    refine wp_seq_k (fun K1 hK2 => ?_)
    refine c_region (fun ops4 hops3 => ?_)
    clear hops3
    refine p_run (l' := _) _ (x_assign (.slice none 0 0) rfl rfl) rfl ?_
    refine wpList_nil ?_
    refine fr_at (l' := [.slice A N.length c, .int .i64 (i : Int), .int .i64 p, .int .u8 (bv m), undef, undef, undef, undef, .slice none 0 0, undef, undef, undef, undef, undef, undef, undef, undef, undef, undef, undef, undef, undef, undef, undef, undef, undef, undef, undef, undef, undef, undef, undef, undef, undef, undef, undef, undef, undef, undef, undef, undef, undef]) rfl ?_
    refine hK2 _ _ ?_
    refine wp_seq_k (fun K5 hK6 => ?_)
    refine c_region (fun ops8 hops7 => ?_)
    clear hops7
    refine St.wLit0 HS kPk rfl 2 (.agg [.int .i64 0, .string ByteArray.empty].toArray) Try.underlying52 (by kernel_rfl) ?_
    clear HS
    intro v9 w10 HS
    refine p_run (l' := _) _ (x_move (.slice A N.length c) rfl rfl) rfl ?_
    refine St.wAppend HS ((.agg #[.int .i64 0, .string ByteArray.empty])) 24 Try.underlying52 (by kernel_rfl) rfl (by decide) (by decide) (rp N) _ _ _ rfl rfl (by have := (row_C (HS.get (.tail _ (.head _)))).2.2; rw [rp_length] at this; exact this) (fun _ _ h => h) (by simp [rp_length]; omega) ?_
    clear HS
    intro v11 w12 HS
    refine p_run (l' := [.slice A N.length c, .int .i64 (i : Int), .int .i64 p, .int .u8 (bv m), undef, undef, undef, undef, .slice none 0 0, v11, undef, v9, .slice A N.length c, v11, undef, undef, undef, undef, undef, undef, undef, undef, undef, undef, undef, undef, undef, undef, undef, undef, undef, undef, undef, undef, undef, undef, undef, undef, undef, undef, undef, undef]) _ (x_assign (v11) rfl rfl) rfl ?_
    refine wpList_nil ?_
    refine hK6 _ _ ?_
    refine wp_seq_k (fun K13 hK14 => ?_)
    skip
    · skip
      rw [List.nil_append] at HS
      obtain ⟨g, c2, sp, hv2, hb, hc1, hc2, hc3, hone⟩ := row_pk HS.hs.head (rp_ne hx)
      rw [rp_length] at hv2 hc1
      subst hv2
      replace HS := HS.alter hb (fun b h => (congrArg some (show b = g from h)).symm)
      refine c_region (fun ops16 hops15 => ?_)
      clear hops15
      refine p_run (l' := _) _ (x_move (.slice (some ⟨g, 0, none⟩) N.length c2) rfl rfl) rfl ?_
      refine p_run (l' := _) _ (x_move (.int .i64 (i : Int)) rfl rfl) rfl ?_
      refine p_run (l' := _) (.pointer (some ⟨g, i * 2, none⟩)) ((x_index (A := ⟨g, 0, none⟩) (j := i * 2) (sz := 2) rfl rfl rfl Try.underlying52 (by kernel_rfl) (by omega) rfl).trans (by rw [add_mk, Nat.zero_add])) rfl ?_
      refine p_run (l' := [.slice A N.length c, .int .i64 (i : Int), .int .i64 p, .int .u8 (bv m), undef, undef, undef, undef, .slice none 0 0, .slice (some ⟨g, 0, none⟩) N.length c2, undef, v9, .slice A N.length c, .slice (some ⟨g, 0, none⟩) N.length c2, .slice (some ⟨g, 0, none⟩) N.length c2, .int .i64 (i : Int), .pointer (some ⟨g, i * 2, none⟩), .pointer (some ⟨g, i * 2 + 1, none⟩), undef, undef, undef, undef, undef, undef, undef, undef, undef, undef, undef, undef, undef, undef, undef, undef, undef, undef, undef, undef, undef, undef, undef, undef]) _ (x_field (j := i * 2 + 1) _ _ rfl rfl Try.underlying58 rfl (by rfl) rfl) rfl ?_
      refine p_run (l' := _) _ (x_load (.string (strB x.2)) rfl rfl (bkCell (HS.get (.head _)) (i * 2 + 1) _ (pk_at1 (rp_get hx))) (by rfl)) rfl ?_
      refine St.wBytesOf (xs := x.2) HS rfl ?_
      clear HS
      intro gm17 cm18 spm w19 _ HS
      refine p_run (l' := _) _ (x_assign (.slice (some ⟨gm17, 0, none⟩) x.2.length cm18) rfl rfl) rfl ?_
      refine wpList_nil ?_
      refine fr_at (l' := [.slice A N.length c, .int .i64 (i : Int), .int .i64 p, .int .u8 (bv m), undef, undef, undef, undef, .slice none 0 0, .slice (some ⟨g, 0, none⟩) N.length c2, .slice (some ⟨gm17, 0, none⟩) x.2.length cm18, v9, .slice A N.length c, .slice (some ⟨g, 0, none⟩) N.length c2, .slice (some ⟨g, 0, none⟩) N.length c2, .int .i64 (i : Int), .pointer (some ⟨g, i * 2, none⟩), .pointer (some ⟨g, i * 2 + 1, none⟩), .string (strB x.2), .slice (some ⟨gm17, 0, none⟩) x.2.length cm18, undef, undef, undef, undef, undef, undef, undef, undef, undef, undef, undef, undef, undef, undef, undef, undef, undef, undef, undef, undef, undef, undef]) rfl ?_
      refine hK14 _ _ ?_
      refine wp_seq_k (fun K20 hK21 => ?_)
      refine wp_seq_k (fun K22 hK23 => ?_)
      refine c_region (fun ops25 hops24 => ?_)
      refine p_run (l' := _) _ (x_move (.int .i64 p) rfl rfl) rfl ?_
      refine p_run (l' := _) _ (x_cmp (k := .i64) (m := p) (n := 0) .geq false rfl rfl rfl h0 rfl) rfl ?_
      refine p_run (l' := _) _ (x_move (.bool false) rfl rfl) rfl ?_
      refine p_off (l' := [.slice A N.length c, .int .i64 (i : Int), .int .i64 p, .int .u8 (bv m), undef, undef, undef, undef, .slice none 0 0, .slice (some ⟨g, 0, none⟩) N.length c2, .slice (some ⟨gm17, 0, none⟩) x.2.length cm18, v9, .slice A N.length c, .slice (some ⟨g, 0, none⟩) N.length c2, .slice (some ⟨g, 0, none⟩) N.length c2, .int .i64 (i : Int), .pointer (some ⟨g, i * 2, none⟩), .pointer (some ⟨g, i * 2 + 1, none⟩), .string (strB x.2), .slice (some ⟨gm17, 0, none⟩) x.2.length cm18, .int .i64 p, .bool false, .bool false, undef, undef, undef, undef, undef, undef, undef, undef, undef, undef, undef, undef, undef, undef, undef, undef, undef, undef, undef]) (by rw [hops24]; rfl) rfl ?_
      refine p_off (l' := _) (by rw [hops24]; rfl) rfl ?_
      refine p_off (l' := _) (by rw [hops24]; rfl) rfl ?_
      refine p_off (l' := _) (by rw [hops24]; rfl) rfl ?_
      refine p_run (l' := [.slice A N.length c, .int .i64 (i : Int), .int .i64 p, .int .u8 (bv m), undef, undef, undef, undef, .slice none 0 0, .slice (some ⟨g, 0, none⟩) N.length c2, .slice (some ⟨gm17, 0, none⟩) x.2.length cm18, v9, .slice A N.length c, .slice (some ⟨g, 0, none⟩) N.length c2, .slice (some ⟨g, 0, none⟩) N.length c2, .int .i64 (i : Int), .pointer (some ⟨g, i * 2, none⟩), .pointer (some ⟨g, i * 2 + 1, none⟩), .string (strB x.2), .slice (some ⟨gm17, 0, none⟩) x.2.length cm18, .int .i64 p, .bool false, .bool false, undef, undef, undef, undef, .bool false, undef, undef, undef, undef, undef, undef, undef, undef, undef, undef, undef, undef, undef, undef]) _ (x_pick false (undef) (.bool false) (.bool false) rfl rfl rfl rfl rfl) rfl ?_
      clear hops24
      refine wpList_nil ?_
      refine hK23 _ _ ?_
      refine c_false rfl ?_
      refine wp_skip ?_
      refine hK21 _ _ ?_
      refine wp_seq_k (fun K26 hK27 => ?_)
      refine c_region (fun ops29 hops28 => ?_)
      clear hops28
      refine p_run (l' := _) _ (x_move (.slice (some ⟨g, 0, none⟩) N.length c2) rfl rfl) rfl ?_
      refine p_run (l' := _) _ (x_move (.int .i64 (i : Int)) rfl rfl) rfl ?_
      refine p_run (l' := _) _ (x_move (.slice (some ⟨gm17, 0, none⟩) x.2.length cm18) rfl rfl) rfl ?_
      refine p_run (l' := [.slice A N.length c, .int .i64 (i : Int), .int .i64 p, .int .u8 (bv m), undef, undef, undef, undef, .slice none 0 0, .slice (some ⟨g, 0, none⟩) N.length c2, .slice (some ⟨gm17, 0, none⟩) x.2.length cm18, v9, .slice A N.length c, .slice (some ⟨g, 0, none⟩) N.length c2, .slice (some ⟨g, 0, none⟩) N.length c2, .int .i64 (i : Int), .pointer (some ⟨g, i * 2, none⟩), .pointer (some ⟨g, i * 2 + 1, none⟩), .string (strB x.2), .slice (some ⟨gm17, 0, none⟩) x.2.length cm18, .int .i64 p, .bool false, .bool false, undef, undef, undef, undef, .bool false, undef, undef, undef, undef, undef, undef, undef, .slice (some ⟨g, 0, none⟩) N.length c2, .int .i64 (i : Int), .slice (some ⟨gm17, 0, none⟩) x.2.length cm18, .string (strB x.2), undef, undef, undef]) _ (x_str (xs := x.2) (mb_rd (HS.get (.head _)) (by omega)) (by first | rfl | simp) rfl rfl) rfl ?_
      refine p_run (l' := _) (.pointer (some ⟨g, i * 2, none⟩)) ((x_index (A := ⟨g, 0, none⟩) (j := i * 2) (sz := 2) rfl rfl rfl Try.underlying52 (by kernel_rfl) (by omega) rfl).trans (by rw [add_mk, Nat.zero_add])) rfl ?_
      refine p_run (l' := _) _ (x_field (j := i * 2 + 1) _ _ rfl rfl Try.underlying58 rfl (by rfl) rfl) rfl ?_
      refine St.store (cs' := ((pkC (rp N) ++ sp).set (i * 2 + 1) (.string (strB x.2)))) (HS.front 1 rfl) (.string (strB x.2)) rfl rfl rfl (by kernel_rfl) (decide_eq_true (by rw [hc3]; omega)) rfl ?_
      clear HS
      intro w30 HS
      refine wpList_nil ?_
      refine fr_at (l' := [.slice A N.length c, .int .i64 (i : Int), .int .i64 p, .int .u8 (bv m), undef, undef, undef, undef, .slice none 0 0, .slice (some ⟨g, 0, none⟩) N.length c2, .slice (some ⟨gm17, 0, none⟩) x.2.length cm18, v9, .slice A N.length c, .slice (some ⟨g, 0, none⟩) N.length c2, .slice (some ⟨g, 0, none⟩) N.length c2, .int .i64 (i : Int), .pointer (some ⟨g, i * 2, none⟩), .pointer (some ⟨g, i * 2 + 1, none⟩), .string (strB x.2), .slice (some ⟨gm17, 0, none⟩) x.2.length cm18, .int .i64 p, .bool false, .bool false, undef, undef, undef, undef, .bool false, undef, undef, undef, undef, undef, undef, undef, .slice (some ⟨g, 0, none⟩) N.length c2, .int .i64 (i : Int), .slice (some ⟨gm17, 0, none⟩) x.2.length cm18, .string (strB x.2), .pointer (some ⟨g, i * 2, none⟩), .pointer (some ⟨g, i * 2 + 1, none⟩), undef]) rfl ?_
      refine hK27 _ _ ?_
      refine wp_seq_k (fun K31 hK32 => ?_)
      refine c_region (fun ops34 hops33 => ?_)
      clear hops33
      refine p_run (l' := _) _ (x_move (.slice (some ⟨g, 0, none⟩) N.length c2) rfl rfl) rfl ?_
      refine p_run (l' := _) _ (x_assign (.slice (some ⟨g, 0, none⟩) N.length c2) rfl rfl) rfl ?_
      refine wpList_nil ?_
      refine fr_at (l' := [.slice A N.length c, .int .i64 (i : Int), .int .i64 p, .int .u8 (bv m), undef, undef, undef, undef, .slice (some ⟨g, 0, none⟩) N.length c2, .slice (some ⟨g, 0, none⟩) N.length c2, .slice (some ⟨gm17, 0, none⟩) x.2.length cm18, v9, .slice A N.length c, .slice (some ⟨g, 0, none⟩) N.length c2, .slice (some ⟨g, 0, none⟩) N.length c2, .int .i64 (i : Int), .pointer (some ⟨g, i * 2, none⟩), .pointer (some ⟨g, i * 2 + 1, none⟩), .string (strB x.2), .slice (some ⟨gm17, 0, none⟩) x.2.length cm18, .int .i64 p, .bool false, .bool false, undef, undef, undef, undef, .bool false, undef, undef, undef, undef, undef, undef, undef, .slice (some ⟨g, 0, none⟩) N.length c2, .int .i64 (i : Int), .slice (some ⟨gm17, 0, none⟩) x.2.length cm18, .string (strB x.2), .pointer (some ⟨g, i * 2, none⟩), .pointer (some ⟨g, i * 2 + 1, none⟩), .slice (some ⟨g, 0, none⟩) N.length c2]) rfl ?_
      refine hK32 _ _ ?_
      refine wp_ret ?_
      try simp only [Exit.inBlock, Exit.then]
      refine c_ret (.slice (some ⟨g, 0, none⟩) N.length c2) (r_tmp rfl rfl) ?_
      rw [pk_set1 (rp_get hx), show (rp N).set i (x.1, Value.string (strB x.2)) = rp (N.set i (x.1, x.2)) from rp_set i (x.1, x.2)] at HS
      have hle : (rp (N.set i (x.1, x.2))).length = N.length := by rw [rp_length, List.length_set]
      have hc3' : (pkC (rp (N.set i (x.1, x.2))) ++ sp).length = c2 * 2 := by rw [← hc3, List.length_append, List.length_append, pkC_length, pkC_length, hle, rp_length]
      replace HS := HS.alter (pk_row (hE := rfl) (ps := rp (N.set i (x.1, x.2))) HS.hs.head (by rw [hle]; omega) hc2 hc3' rp_one) (fun b h => (Option.some.inj (show some g = some b from h)).symm)
      rw [hle] at HS
      rw [show turnB x.2 p m = x.2 from if_neg h00]
      exact ⟨_, rfl, ((HS.front 1 rfl).drop.front 1 rfl).drop⟩
end
end Go.Proofs.Ytckfcnclekjjdaa
