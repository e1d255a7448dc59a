/- NetOwn. -/
import Derived.Test.YtckfcnclekjjdaaLn1
import Derived.Test.YtckfcnclekjjdaaArgsE
set_option linter.unusedVariables false
set_option linter.unusedSimpArgs false
namespace Go.Proofs.Ytckfcnclekjjdaa
open Go.RowKit Go.Proofs.YtckfcnclekjjdaaW.PrintWords Go.Proofs.YtckfcnclekjjdaaW.PrintLast Crc
section
variable {w : World} {e g : Nat} {v : Value} {xs b : List UInt8} {ys : List Int} {sp : List Value} {j : Nat}
theorem row_bytes {hE : kByte.E = []} (h : (row kByte hE e v xs).holds w) (hn : xs ≠ []) : ∃ g c sp, v = .slice (some ⟨g, 0, none⟩) xs.length c ∧ (blk g (nums .u8 (xs.map bv) ++ sp) e).holds w := by
  have hpos : 0 < xs.length := by
    cases xs with
    | nil => exact absurd rfl hn
    | cons => simp
  have ho := Kd.own_of_R (row_own h)
  rcases ho.2 with ⟨-, h0⟩ | ⟨g', cap', cur, rfl, hge, hg', hnc, hcm, hcs, htake⟩
  · omega
  · have e1 : nums .u8 (xs.map bv) = cur.toList.take (xs.length * 1) := by rw [htake]; simp [nums, encs]
    refine ⟨g', cap', cur.toList.drop (xs.length * 1), rfl, ?_⟩
    rw [e1, List.take_append_drop]
    show w.heap[g']? = _
    simpa using hg'
theorem by_get (h : j < ys.length) : (nums .u8 ys ++ sp)[j]? = some (.int .u8 (ys.getD j 0)) := by
  rw [List.getElem?_append_left (by rw [nums_length]; exact h)]
  exact nums_getD h
theorem by_set (h : j < ys.length) (z : Int) : (nums .u8 ys ++ sp).set j (.int .u8 z) = nums .u8 (ys.set j z) ++ sp := by
  rw [List.set_append, if_pos (by rw [nums_length]; exact h), nums_set]
theorem xor_k (x y : UInt8) : IntKind.u8.wrap (((((bv x) % 2 ^ IntKind.u8.bits).toNat ^^^ ((bv y) % 2 ^ IntKind.u8.bits).toNat : Nat)) : Int) = bv (x ^^^ y) := by
  have hx := x.toNat_lt
  have hy := y.toNat_lt
  have hxy := (x ^^^ y).toNat_lt
  have e1 : ((bv x) % 2 ^ IntKind.u8.bits).toNat = x.toNat := by unfold bv; show ((x.toNat : Int) % 256).toNat = _; omega
  have e2 : ((bv y) % 2 ^ IntKind.u8.bits).toNat = y.toNat := by unfold bv; show ((y.toNat : Int) % 256).toNat = _; omega
  rw [e1, e2, ← UInt8.toNat_xor, IntKind.wrap_u8]
  unfold bv
  omega
theorem turn_head (h : 0 < b.length) (m : UInt8) : ∃ x, b[0]? = some x ∧ (turnB b 0 m)[0]? = some (x ^^^ m) := by
  refine ⟨b[0], List.getElem?_eq_getElem h, ?_⟩
  unfold turnB
  rw [if_pos (by decide)]
  show (b.modify 0 (· ^^^ m))[0]? = _
  rw [List.getElem?_modify]
  simp [List.getElem?_eq_getElem h]
theorem two_set (f0 f1 x : Fr_) : ([f0, f1] : List Fr_).set 1 x = [f0, x] := rfl
theorem sl_head {A : Option Addr} {c : Nat} (h : Rd w A xs) {x : UInt8} (hx : xs[0]? = some x) : ∃ a, A = some a ∧ w.cell? (a.add 0) = some (.int .u8 (bv x)) := by
  have h0 := (List.getElem?_eq_some_iff.1 hx).1
  obtain ⟨ad, e, hc⟩ := h.2.2 h0
  obtain ⟨cs, h1, h2, h3⟩ := hc 0 x hx
  refine ⟨ad, e, ?_⟩
  have := h3 0 (.int .u8 (bv x)) (by rw [show cs = [.int .u8 (bv x)] from h2]; rfl)
  have hsz : kByte.sz = 1 := rfl
  rwa [hsz, Nat.mul_one, Nat.add_zero] at this
end

set_option maxRecDepth 10000 in
set_option maxHeartbeats 2000000 in
theorem own_law (w : World) (A0 : Option Addr) (c0 : Nat) (b : List UInt8) (hs0 : Sl w A0 c0 b) : Calls Try.prog 10 #[.slice A0 b.length c0] w fun e w' => e = .returned (.bool true) ∧ Below w.heap.size w w' := by
  have HS := St.empty w
  · skip
    by_cases h0 : (b.length : Int) > 300
    · skip
      have h0d := decide_eq_true h0
      refine c_enter Try.func10 rfl 82 rfl [.slice A0 b.length c0, undef, undef, undef, undef, undef, undef, undef, undef, undef, undef, undef, undef, undef, undef, undef, undef, undef, undef, undef, undef, undef, undef, undef, undef, undef, undef, undef, undef, undef, undef, undef, undef, undef, undef, undef, undef, undef, undef, undef, undef, undef, undef, undef, undef, undef, undef, undef, undef, undef, undef, undef, undef, undef, undef, undef, undef, undef, undef, undef, undef, undef, undef, undef, undef, undef, undef, undef, undef, undef, undef, undef, undef, undef, undef, undef, undef, undef, undef, undef, undef, undef] rfl ?_
      refine wp_seq_k (fun K1 hK2 => ?_)
      refine c_region (fun ops4 hops3 => ?_)
      clear hops3
      refine p_run (l' := _) _ (x_assign (.bool false) rfl rfl) rfl ?_
      refine wpList_nil ?_
      refine fr_at (l' := [.slice A0 b.length c0, undef, .bool false, undef, undef, undef, undef, undef, undef, undef, undef, undef, undef, undef, undef, undef, undef, undef, undef, undef, undef, undef, undef, undef, undef, undef, undef, undef, undef, undef, undef, undef, undef, undef, undef, undef, undef, undef, undef, undef, undef, undef, undef, undef, undef, undef, undef, undef, undef, undef, undef, undef, undef, undef, undef, undef, undef, undef, undef, undef, undef, undef, undef, undef, undef, undef, undef, undef, undef, undef, undef, undef, undef, undef, undef, undef, undef, undef, undef, undef, undef, undef]) rfl ?_
      refine hK2 _ _ ?_
      refine wp_seq_k (fun K5 hK6 => ?_)
      refine wp_seq_k (fun K7 hK8 => ?_)
      refine c_region (fun ops10 hops9 => ?_)
      clear hops9
      refine w_call [] Try.func21 (by kernel_rfl) (by rfl) rfl ?_
      refine (nAlive_any HS).mono ?_
      clear HS
      rintro e w11 ⟨rfl, HS⟩
      refine ⟨_, rfl, ?_⟩
      refine p_run (l' := _) _ (x_not true rfl rfl) rfl ?_
      refine wpList_nil ?_
      refine fr_at (l' := [.slice A0 b.length c0, undef, .bool false, undef, undef, undef, undef, undef, undef, undef, .bool true, .bool false, undef, undef, undef, undef, undef, undef, undef, undef, undef, undef, undef, undef, undef, undef, undef, undef, undef, undef, undef, undef, undef, undef, undef, undef, undef, undef, undef, undef, undef, undef, undef, undef, undef, undef, undef, undef, undef, undef, undef, undef, undef, undef, undef, undef, undef, undef, undef, undef, undef, undef, undef, undef, undef, undef, undef, undef, undef, undef, undef, undef, undef, undef, undef, undef, undef, undef, undef, undef, undef, undef]) rfl ?_
      refine hK8 _ _ ?_
      refine c_false rfl ?_
      refine wp_skip ?_
      refine hK6 _ _ ?_
      refine wp_seq_k (fun K12 hK13 => ?_)
      refine wp_seq_k (fun K14 hK15 => ?_)
      refine c_region (fun ops17 hops16 => ?_)
      clear hops16
      refine p_run (l' := _) _ (x_move (.slice A0 b.length c0) rfl rfl) rfl ?_
      refine p_run (l' := _) _ (x_len rfl rfl Try.underlying24) rfl ?_
      refine p_run (l' := _) _ (x_cmp (k := .i64) (m := (b.length : Int)) (n := 300) .gtr true rfl rfl rfl h0d rfl) rfl ?_
      refine wpList_nil ?_
      refine fr_at (l' := [.slice A0 b.length c0, undef, .bool false, undef, undef, undef, undef, undef, undef, undef, .bool true, .bool false, .slice A0 b.length c0, .int .i64 (b.length : Int), .bool true, undef, undef, undef, undef, undef, undef, undef, undef, undef, undef, undef, undef, undef, undef, undef, undef, undef, undef, undef, undef, undef, undef, undef, undef, undef, undef, undef, undef, undef, undef, undef, undef, undef, undef, undef, undef, undef, undef, undef, undef, undef, undef, undef, undef, undef, undef, undef, undef, undef, undef, undef, undef, undef, undef, undef, undef, undef, undef, undef, undef, undef, undef, undef, undef, undef, undef, undef]) rfl ?_
      refine hK15 _ _ ?_
      refine c_true rfl ?_
      refine wp_seq_k (fun K18 hK19 => ?_)
      refine c_region (fun ops21 hops20 => ?_)
      clear hops20
      refine p_run (l' := _) _ (x_assign (.bool true) rfl rfl) rfl ?_
      refine wpList_nil ?_
      refine fr_at (l' := [.slice A0 b.length c0, undef, .bool true, undef, undef, undef, undef, undef, undef, undef, .bool true, .bool false, .slice A0 b.length c0, .int .i64 (b.length : Int), .bool true, undef, undef, undef, undef, undef, undef, undef, undef, undef, undef, undef, undef, undef, undef, undef, undef, undef, undef, undef, undef, undef, undef, undef, undef, undef, undef, undef, undef, undef, undef, undef, undef, undef, undef, undef, undef, undef, undef, undef, undef, undef, undef, undef, undef, undef, undef, undef, undef, undef, undef, undef, undef, undef, undef, undef, undef, undef, undef, undef, undef, undef, undef, undef, undef, undef, undef, undef]) rfl ?_
      refine hK19 _ _ ?_
      refine wp_ret ?_
      try simp only [Exit.inBlock, Exit.then]
      refine c_ret (.bool true) (r_tmp rfl rfl) ?_
      exact ⟨rfl, HS.belowOf⟩
    · skip
      have h0d := decide_eq_false h0
      · skip
        by_cases hb0 : b = []
        · skip
          refine c_enter Try.func10 rfl 82 rfl [.slice A0 b.length c0, undef, undef, undef, undef, undef, undef, undef, undef, undef, undef, undef, undef, undef, undef, undef, undef, undef, undef, undef, undef, undef, undef, undef, undef, undef, undef, undef, undef, undef, undef, undef, undef, undef, undef, undef, undef, undef, undef, undef, undef, undef, undef, undef, undef, undef, undef, undef, undef, undef, undef, undef, undef, undef, undef, undef, undef, undef, undef, undef, undef, undef, undef, undef, undef, undef, undef, undef, undef, undef, undef, undef, undef, undef, undef, undef, undef, undef, undef, undef, undef, undef] rfl ?_
          refine wp_seq_k (fun K1 hK2 => ?_)
          refine c_region (fun ops4 hops3 => ?_)
          clear hops3
          refine p_run (l' := _) _ (x_assign (.bool false) rfl rfl) rfl ?_
          refine wpList_nil ?_
          refine fr_at (l' := [.slice A0 b.length c0, undef, .bool false, undef, undef, undef, undef, undef, undef, undef, undef, undef, undef, undef, undef, undef, undef, undef, undef, undef, undef, undef, undef, undef, undef, undef, undef, undef, undef, undef, undef, undef, undef, undef, undef, undef, undef, undef, undef, undef, undef, undef, undef, undef, undef, undef, undef, undef, undef, undef, undef, undef, undef, undef, undef, undef, undef, undef, undef, undef, undef, undef, undef, undef, undef, undef, undef, undef, undef, undef, undef, undef, undef, undef, undef, undef, undef, undef, undef, undef, undef, undef]) rfl ?_
          refine hK2 _ _ ?_
          refine wp_seq_k (fun K5 hK6 => ?_)
          refine wp_seq_k (fun K7 hK8 => ?_)
          refine c_region (fun ops10 hops9 => ?_)
          clear hops9
          refine w_call [] Try.func21 (by kernel_rfl) (by rfl) rfl ?_
          refine (nAlive_any HS).mono ?_
          clear HS
          rintro e w11 ⟨rfl, HS⟩
          refine ⟨_, rfl, ?_⟩
          refine p_run (l' := _) _ (x_not true rfl rfl) rfl ?_
          refine wpList_nil ?_
          refine fr_at (l' := [.slice A0 b.length c0, undef, .bool false, undef, undef, undef, undef, undef, undef, undef, .bool true, .bool false, undef, undef, undef, undef, undef, undef, undef, undef, undef, undef, undef, undef, undef, undef, undef, undef, undef, undef, undef, undef, undef, undef, undef, undef, undef, undef, undef, undef, undef, undef, undef, undef, undef, undef, undef, undef, undef, undef, undef, undef, undef, undef, undef, undef, undef, undef, undef, undef, undef, undef, undef, undef, undef, undef, undef, undef, undef, undef, undef, undef, undef, undef, undef, undef, undef, undef, undef, undef, undef, undef]) rfl ?_
          refine hK8 _ _ ?_
          refine c_false rfl ?_
          refine wp_skip ?_
          refine hK6 _ _ ?_
          refine wp_seq_k (fun K12 hK13 => ?_)
          refine wp_seq_k (fun K14 hK15 => ?_)
          refine c_region (fun ops17 hops16 => ?_)
          clear hops16
          refine p_run (l' := _) _ (x_move (.slice A0 b.length c0) rfl rfl) rfl ?_
          refine p_run (l' := _) _ (x_len rfl rfl Try.underlying24) rfl ?_
          refine p_run (l' := _) _ (x_cmp (k := .i64) (m := (b.length : Int)) (n := 300) .gtr false rfl rfl rfl h0d rfl) rfl ?_
          refine wpList_nil ?_
          refine fr_at (l' := [.slice A0 b.length c0, undef, .bool false, undef, undef, undef, undef, undef, undef, undef, .bool true, .bool false, .slice A0 b.length c0, .int .i64 (b.length : Int), .bool false, undef, undef, undef, undef, undef, undef, undef, undef, undef, undef, undef, undef, undef, undef, undef, undef, undef, undef, undef, undef, undef, undef, undef, undef, undef, undef, undef, undef, undef, undef, undef, undef, undef, undef, undef, undef, undef, undef, undef, undef, undef, undef, undef, undef, undef, undef, undef, undef, undef, undef, undef, undef, undef, undef, undef, undef, undef, undef, undef, undef, undef, undef, undef, undef, undef, undef, undef]) rfl ?_
          refine hK15 _ _ ?_
          refine c_false rfl ?_
          refine wp_skip ?_
          refine hK13 _ _ ?_
          refine wp_seq_k (fun K18 hK19 => ?_)
          refine c_region (fun ops21 hops20 => ?_)
          clear hops20
          refine w_call [] Try.func22 (by kernel_rfl) (by rfl) rfl ?_
          refine (nNew_any HS).mono ?_
          clear HS
          rintro e w23 ⟨G22, rfl, HS⟩
          refine ⟨_, rfl, ?_⟩
          refine p_run (l' := _) _ (x_assign (.pointer (some ⟨G22, 0, none⟩)) rfl rfl) rfl ?_
          refine wpList_nil ?_
          refine fr_at (l' := [.slice A0 b.length c0, undef, .bool false, .pointer (some ⟨G22, 0, none⟩), undef, undef, undef, undef, undef, undef, .bool true, .bool false, .slice A0 b.length c0, .int .i64 (b.length : Int), .bool false, .pointer (some ⟨G22, 0, none⟩), undef, undef, undef, undef, undef, undef, undef, undef, undef, undef, undef, undef, undef, undef, undef, undef, undef, undef, undef, undef, undef, undef, undef, undef, undef, undef, undef, undef, undef, undef, undef, undef, undef, undef, undef, undef, undef, undef, undef, undef, undef, undef, undef, undef, undef, undef, undef, undef, undef, undef, undef, undef, undef, undef, undef, undef, undef, undef, undef, undef, undef, undef, undef, undef, undef, undef]) rfl ?_
          refine hK19 _ _ ?_
          refine wp_seq_k (fun K24 hK25 => ?_)
          refine c_region (fun ops27 hops26 => ?_)
          clear hops26
          refine p_run (l' := _) _ (x_move (.pointer (some ⟨G22, 0, none⟩)) rfl rfl) rfl ?_
          refine p_run (l' := _) _ (x_move (.slice A0 b.length c0) rfl rfl) rfl ?_
          refine w_call [.pointer (some ⟨G22, 0, none⟩), .int .i64 0, .slice A0 b.length c0] Try.func23 (by kernel_rfl) (by rfl) rfl ?_
          replace HS := (((HS.front 2 rfl).front 2 rfl).front 2 rfl)
          refine (nSend_any HS 0 (xs := b) (fun w hw => hs0.below hw.belowOf) (by omega) (by simp)).mono ?_
          clear HS
          rintro e w30 ⟨v28, v29, rfl, HS⟩
          rw [send_nil 0 (by decide)] at HS
          refine ⟨_, rfl, ?_⟩
          refine wpList_nil ?_
          refine fr_at (l' := [.slice A0 b.length c0, undef, .bool false, .pointer (some ⟨G22, 0, none⟩), undef, undef, undef, undef, undef, undef, .bool true, .bool false, .slice A0 b.length c0, .int .i64 (b.length : Int), .bool false, .pointer (some ⟨G22, 0, none⟩), .pointer (some ⟨G22, 0, none⟩), .slice A0 b.length c0, .tuple [].toArray, undef, undef, undef, undef, undef, undef, undef, undef, undef, undef, undef, undef, undef, undef, undef, undef, undef, undef, undef, undef, undef, undef, undef, undef, undef, undef, undef, undef, undef, undef, undef, undef, undef, undef, undef, undef, undef, undef, undef, undef, undef, undef, undef, undef, undef, undef, undef, undef, undef, undef, undef, undef, undef, undef, undef, undef, undef, undef, undef, undef, undef, undef, undef]) rfl ?_
          refine hK25 _ _ ?_
          refine wp_seq_k (fun K31 hK32 => ?_)
          refine c_region (fun ops34 hops33 => ?_)
          clear hops33
          refine p_run (l' := _) _ (x_move (.pointer (some ⟨G22, 0, none⟩)) rfl rfl) rfl ?_
          refine w_call [.pointer (some ⟨G22, 0, none⟩), .int .i64 0] Try.func27 (by kernel_rfl) (by rfl) rfl ?_
          replace HS := (((HS.front 2 rfl).front 2 rfl).front 2 rfl)
          refine (nTwice_yes (i := 0) HS (show ([(0, v29, b)] : List Fr_)[0]? = some (0, v29, b) from rfl) (by simp) (by omega)).mono ?_
          clear HS
          rintro e w37 ⟨v35, v36, rfl, HS⟩
          rw [send_one 0 (by decide)] at HS
          refine ⟨_, rfl, ?_⟩
          refine wpList_nil ?_
          refine fr_at (l' := [.slice A0 b.length c0, undef, .bool false, .pointer (some ⟨G22, 0, none⟩), undef, undef, undef, undef, undef, undef, .bool true, .bool false, .slice A0 b.length c0, .int .i64 (b.length : Int), .bool false, .pointer (some ⟨G22, 0, none⟩), .pointer (some ⟨G22, 0, none⟩), .slice A0 b.length c0, .tuple [].toArray, .pointer (some ⟨G22, 0, none⟩), .int .i64 0, undef, undef, undef, undef, undef, undef, undef, undef, undef, undef, undef, undef, undef, undef, undef, undef, undef, undef, undef, undef, undef, undef, undef, undef, undef, undef, undef, undef, undef, undef, undef, undef, undef, undef, undef, undef, undef, undef, undef, undef, undef, undef, undef, undef, undef, undef, undef, undef, undef, undef, undef, undef, undef, undef, undef, undef, undef, undef, undef, undef, undef]) rfl ?_
          refine hK32 _ _ ?_
          refine wp_seq_k (fun K38 hK39 => ?_)
          refine c_region (fun ops41 hops40 => ?_)
          clear hops40
          refine p_run (l' := _) _ (x_move (.pointer (some ⟨G22, 0, none⟩)) rfl rfl) rfl ?_
          refine w_call [.pointer (some ⟨G22, 0, none⟩), .int .i64 0] Try.func28 (by kernel_rfl) (by rfl) rfl ?_
          replace HS := (((HS.front 2 rfl).front 2 rfl).front 2 rfl)
          refine (nPeek_yes (i := 0) HS (show ([(0, v29, b), (0, v36, b)] : List Fr_)[0]? = some (0, v29, b) from rfl) (by simp) (by omega)).mono ?_
          clear HS
          rintro e w44 ⟨oa42, nc43, rfl, HS⟩
          refine ⟨_, rfl, ?_⟩
          refine p_run (l' := _) _ (x_assign (.slice oa42 b.length nc43) rfl rfl) rfl ?_
          refine wpList_nil ?_
          refine fr_at (l' := [.slice A0 b.length c0, undef, .bool false, .pointer (some ⟨G22, 0, none⟩), .slice oa42 b.length nc43, undef, undef, undef, undef, undef, .bool true, .bool false, .slice A0 b.length c0, .int .i64 (b.length : Int), .bool false, .pointer (some ⟨G22, 0, none⟩), .pointer (some ⟨G22, 0, none⟩), .slice A0 b.length c0, .tuple [].toArray, .pointer (some ⟨G22, 0, none⟩), .int .i64 0, .pointer (some ⟨G22, 0, none⟩), .slice oa42 b.length nc43, undef, undef, undef, undef, undef, undef, undef, undef, undef, undef, undef, undef, undef, undef, undef, undef, undef, undef, undef, undef, undef, undef, undef, undef, undef, undef, undef, undef, undef, undef, undef, undef, undef, undef, undef, undef, undef, undef, undef, undef, undef, undef, undef, undef, undef, undef, undef, undef, undef, undef, undef, undef, undef, undef, undef, undef, undef, undef, undef]) rfl ?_
          refine hK39 _ _ ?_
          refine wp_seq_k (fun K45 hK46 => ?_)
          refine wp_seq_k (fun K47 hK48 => ?_)
          refine c_region (fun ops50 hops49 => ?_)
          clear hops49
          refine p_run (l' := _) _ (x_move (.slice oa42 b.length nc43) rfl rfl) rfl ?_
          refine p_run (l' := _) _ (x_len rfl rfl Try.underlying24) rfl ?_
          refine p_run (l' := _) _ (x_move (.int .i64 0) rfl rfl) rfl ?_
          refine wpList_nil ?_
          refine fr_at (l' := [.slice A0 b.length c0, undef, .bool false, .pointer (some ⟨G22, 0, none⟩), .slice oa42 b.length nc43, undef, undef, undef, undef, undef, .bool true, .bool false, .slice A0 b.length c0, .int .i64 (b.length : Int), .bool false, .pointer (some ⟨G22, 0, none⟩), .pointer (some ⟨G22, 0, none⟩), .slice A0 b.length c0, .tuple [].toArray, .pointer (some ⟨G22, 0, none⟩), .int .i64 0, .pointer (some ⟨G22, 0, none⟩), .slice oa42 b.length nc43, .slice oa42 b.length nc43, .int .i64 (b.length : Int), .int .i64 0, undef, undef, undef, undef, undef, undef, undef, undef, undef, undef, undef, undef, undef, undef, undef, undef, undef, undef, undef, undef, undef, undef, undef, undef, undef, undef, undef, undef, undef, undef, undef, undef, undef, undef, undef, undef, undef, undef, undef, undef, undef, undef, undef, undef, undef, undef, undef, undef, undef, undef, undef, undef, undef, undef, undef, undef]) rfl ?_
          refine hK48 _ _ ?_
          refine wp_block ?_
          refine c_loop (ι := Nat) (fun i_ a_ w_ => match i_ with | j => ∃ (u5 : Value) (u26 : Value) (u27 : Value) (u28 : Value) (u29 : Value) (u30 : Value) (u31 : Value) (u32 : Value) (u33 : Value) (u34 : Value), a_ = fr [.slice A0 b.length c0, undef, .bool false, .pointer (some ⟨G22, 0, none⟩), .slice oa42 b.length nc43, u5, undef, undef, undef, undef, .bool true, .bool false, .slice A0 b.length c0, .int .i64 (b.length : Int), .bool false, .pointer (some ⟨G22, 0, none⟩), .pointer (some ⟨G22, 0, none⟩), .slice A0 b.length c0, .tuple [].toArray, .pointer (some ⟨G22, 0, none⟩), .int .i64 0, .pointer (some ⟨G22, 0, none⟩), .slice oa42 b.length nc43, .slice oa42 b.length nc43, .int .i64 (b.length : Int), .int .i64 (j : Int), u26, u27, u28, u29, u30, u31, u32, u33, u34, undef, undef, undef, undef, undef, undef, undef, undef, undef, undef, undef, undef, undef, undef, undef, undef, undef, undef, undef, undef, undef, undef, undef, undef, undef, undef, undef, undef, undef, undef, undef, undef, undef, undef, undef, undef, undef, undef, undef, undef, undef, undef, undef, undef, undef, undef, undef] ∧ St w (fun _ => False) w_ ([row kByte rfl 5 (.slice oa42 b.length nc43) b, blk G22 [v35] 72, row kPk rfl 75 v35 (pk [(0, v29, b), (0, v36, b)]), allR (frs [(0, v29, b), (0, v36, b)])]) ∧ (True)) (fun i_ => match i_ with | j => b.length - j) 0 ?_ ?_
          · exact ⟨_, _, _, _, _, _, _, _, _, _, rfl, ((((HS.front 3 rfl).front 3 rfl).front 3 rfl).front 3 rfl), trivial⟩
          · clear HS
            rintro j a_ w53 ⟨u5, u26, u27, u28, u29, u30, u31, u32, u33, u34, rfl, HS, hI⟩ J51 hJ52
            skip
            refine wp_seq_k (fun K54 hK55 => ?_)
            refine c_region (fun ops57 hops56 => ?_)
            clear hops56
            refine p_run (l' := _) _ (x_cmp (k := .i64) (m := (j : Int)) (n := (b.length : Int)) .lss (decide ((j : Int) < (b.length : Int))) rfl rfl rfl rfl rfl) rfl ?_
            refine wpList_nil ?_
            refine fr_at (l' := [.slice A0 b.length c0, undef, .bool false, .pointer (some ⟨G22, 0, none⟩), .slice oa42 b.length nc43, u5, undef, undef, undef, undef, .bool true, .bool false, .slice A0 b.length c0, .int .i64 (b.length : Int), .bool false, .pointer (some ⟨G22, 0, none⟩), .pointer (some ⟨G22, 0, none⟩), .slice A0 b.length c0, .tuple [].toArray, .pointer (some ⟨G22, 0, none⟩), .int .i64 0, .pointer (some ⟨G22, 0, none⟩), .slice oa42 b.length nc43, .slice oa42 b.length nc43, .int .i64 (b.length : Int), .int .i64 (j : Int), .bool (decide ((j : Int) < (b.length : Int))), u27, u28, u29, u30, u31, u32, u33, u34, undef, undef, undef, undef, undef, undef, undef, undef, undef, undef, undef, undef, undef, undef, undef, undef, undef, undef, undef, undef, undef, undef, undef, undef, undef, undef, undef, undef, undef, undef, undef, undef, undef, undef, undef, undef, undef, undef, undef, undef, undef, undef, undef, undef, undef, undef, undef]) rfl ?_
            refine hK55 _ _ ?_
            refine wp_seq_k (fun K58 hK59 => ?_)
            refine c_cond (t := decide ((j : Int) < (b.length : Int))) rfl (fun hc60 => ?_) (fun hc60 => ?_)
            · have hlt : j < b.length := by have := of_decide_eq_true hc60; omega
              exact absurd hlt (by rw [hb0]; exact Nat.not_lt_zero _)
            · skip
              refine wp_exit ?_
              refine hK46 _ _ ?_
              refine wp_seq_k (fun K61 hK62 => ?_)
              refine c_region (fun ops64 hops63 => ?_)
              clear hops63
              refine p_run (l' := _) _ (x_move (.pointer (some ⟨G22, 0, none⟩)) rfl rfl) rfl ?_
              refine w_call [.pointer (some ⟨G22, 0, none⟩), .int .i64 1, .int .i64 0, .int .u8 255] Try.func29 (by kernel_rfl) (by rfl) rfl ?_
              replace HS := (((HS.front 3 rfl).front 3 rfl).front 3 rfl)
              refine (nTurn_yes (i := 1) HS (show ([(0, v29, b), (0, v36, b)] : List Fr_)[1]? = some (0, v36, b) from rfl) (by simp) (by omega) 0 (255 : UInt8)).mono ?_
              clear HS
              rintro e w67 ⟨v65, v66, rfl, HS⟩
              rw [two_set] at HS
              refine ⟨_, rfl, ?_⟩
              refine wpList_nil ?_
              refine fr_at (l' := [.slice A0 b.length c0, undef, .bool false, .pointer (some ⟨G22, 0, none⟩), .slice oa42 b.length nc43, u5, undef, undef, undef, undef, .bool true, .bool false, .slice A0 b.length c0, .int .i64 (b.length : Int), .bool false, .pointer (some ⟨G22, 0, none⟩), .pointer (some ⟨G22, 0, none⟩), .slice A0 b.length c0, .tuple [].toArray, .pointer (some ⟨G22, 0, none⟩), .int .i64 0, .pointer (some ⟨G22, 0, none⟩), .slice oa42 b.length nc43, .slice oa42 b.length nc43, .int .i64 (b.length : Int), .int .i64 (j : Int), .bool (decide ((j : Int) < (b.length : Int))), u27, u28, u29, u30, u31, u32, u33, u34, .pointer (some ⟨G22, 0, none⟩), .int .i64 0, undef, undef, undef, undef, undef, undef, undef, undef, undef, undef, undef, undef, undef, undef, undef, undef, undef, undef, undef, undef, undef, undef, undef, undef, undef, undef, undef, undef, undef, undef, undef, undef, undef, undef, undef, undef, undef, undef, undef, undef, undef, undef, undef, undef, undef]) rfl ?_
              refine hK62 _ _ ?_
              refine wp_seq_k (fun K68 hK69 => ?_)
              refine c_region (fun ops71 hops70 => ?_)
              clear hops70
              refine p_run (l' := _) _ (x_move (.pointer (some ⟨G22, 0, none⟩)) rfl rfl) rfl ?_
              refine w_call [.pointer (some ⟨G22, 0, none⟩), .int .i64 0] Try.func24 (by kernel_rfl) (by rfl) rfl ?_
              replace HS := (((HS.front 2 rfl).front 2 rfl).front 2 rfl)
              refine (nTake_yes (i := 0) HS (show ([(0, v29, b), (0, v66, turnB b 0 (255 : UInt8))] : List Fr_)[0]? = some (0, v29, b) from rfl) (by simp)).mono ?_
              clear HS
              rintro e w73 ⟨v72, rfl, HS⟩
              rw [show ([(0, v29, b), (0, v66, turnB b 0 (255 : UInt8))] : List Fr_).eraseIdx 0 = [(0, v66, turnB b 0 (255 : UInt8))] from rfl] at HS
              obtain ⟨A74, c75, hv76, hcp77, -⟩ := row_reads (HS.get (.head _))
              subst hv76
              refine ⟨_, rfl, ?_⟩
              refine p_run (l' := _) _ (x_move (.tuple [.slice A74 b.length c75, .int .i64 0].toArray) rfl rfl) rfl ?_
              refine p_run (l' := [.slice A0 b.length c0, undef, .bool false, .pointer (some ⟨G22, 0, none⟩), .slice oa42 b.length nc43, u5, undef, undef, undef, undef, .bool true, .bool false, .slice A0 b.length c0, .int .i64 (b.length : Int), .bool false, .pointer (some ⟨G22, 0, none⟩), .pointer (some ⟨G22, 0, none⟩), .slice A0 b.length c0, .tuple [].toArray, .pointer (some ⟨G22, 0, none⟩), .int .i64 0, .pointer (some ⟨G22, 0, none⟩), .slice oa42 b.length nc43, .slice oa42 b.length nc43, .int .i64 (b.length : Int), .int .i64 (j : Int), .bool (decide ((j : Int) < (b.length : Int))), u27, u28, u29, u30, u31, u32, u33, u34, .pointer (some ⟨G22, 0, none⟩), .int .i64 0, .tuple [.slice A74 b.length c75, .int .i64 0].toArray, .pointer (some ⟨G22, 0, none⟩), .tuple [.slice A74 b.length c75, .int .i64 0].toArray, .slice A74 b.length c75, undef, undef, undef, undef, undef, undef, undef, undef, undef, undef, undef, undef, undef, undef, undef, undef, undef, undef, undef, undef, undef, undef, undef, undef, undef, undef, undef, undef, undef, undef, undef, undef, undef, undef, undef, undef, undef, undef, undef, undef, undef]) _ (x_extract (vs := [.slice A74 b.length c75, .int .i64 0]) 0 (.slice A74 b.length c75) rfl rfl rfl) rfl ?_
              refine p_run (l' := _) _ (x_extract (vs := [.slice A74 b.length c75, .int .i64 0]) 1 (.int .i64 0) rfl rfl rfl) rfl ?_
              refine p_run (l' := _) _ (x_assign (.slice A74 b.length c75) rfl rfl) rfl ?_
              refine p_run (l' := _) _ (x_assign (.int .i64 0) rfl rfl) rfl ?_
              refine wpList_nil ?_
              refine fr_at (l' := [.slice A0 b.length c0, undef, .bool false, .pointer (some ⟨G22, 0, none⟩), .slice oa42 b.length nc43, u5, .slice A74 b.length c75, .int .i64 0, undef, undef, .bool true, .bool false, .slice A0 b.length c0, .int .i64 (b.length : Int), .bool false, .pointer (some ⟨G22, 0, none⟩), .pointer (some ⟨G22, 0, none⟩), .slice A0 b.length c0, .tuple [].toArray, .pointer (some ⟨G22, 0, none⟩), .int .i64 0, .pointer (some ⟨G22, 0, none⟩), .slice oa42 b.length nc43, .slice oa42 b.length nc43, .int .i64 (b.length : Int), .int .i64 (j : Int), .bool (decide ((j : Int) < (b.length : Int))), u27, u28, u29, u30, u31, u32, u33, u34, .pointer (some ⟨G22, 0, none⟩), .int .i64 0, .tuple [.slice A74 b.length c75, .int .i64 0].toArray, .pointer (some ⟨G22, 0, none⟩), .tuple [.slice A74 b.length c75, .int .i64 0].toArray, .slice A74 b.length c75, .int .i64 0, undef, undef, undef, undef, undef, undef, undef, undef, undef, undef, undef, undef, undef, undef, undef, undef, undef, undef, undef, undef, undef, undef, undef, undef, undef, undef, undef, undef, undef, undef, undef, undef, undef, undef, undef, undef, undef, undef, undef, undef]) rfl ?_
              refine hK69 _ _ ?_
              refine wp_seq_k (fun K78 hK79 => ?_)
              refine c_region (fun ops81 hops80 => ?_)
              clear hops80
              refine p_run (l' := _) _ (x_move (.pointer (some ⟨G22, 0, none⟩)) rfl rfl) rfl ?_
              refine w_call [.pointer (some ⟨G22, 0, none⟩), .int .i64 0] Try.func24 (by kernel_rfl) (by rfl) rfl ?_
              replace HS := (((HS.front 3 rfl).front 3 rfl).front 3 rfl)
              refine (nTake_yes (i := 0) HS (show ([(0, v66, turnB b 0 (255 : UInt8))] : List Fr_)[0]? = some (0, v66, turnB b 0 (255 : UInt8)) from rfl) (by simp)).mono ?_
              clear HS
              rintro e w83 ⟨v82, rfl, HS⟩
              rw [show ([(0, v66, turnB b 0 (255 : UInt8))] : List Fr_).eraseIdx 0 = [] from rfl] at HS
              obtain ⟨A84, c85, hv86, hcp87, -⟩ := row_reads (HS.get (.head _))
              subst hv86
              refine ⟨_, rfl, ?_⟩
              refine p_run (l' := _) _ (x_move (.tuple [.slice A84 ((turnB b 0 (255 : UInt8)).length) c85, .int .i64 0].toArray) rfl rfl) rfl ?_
              refine p_run (l' := [.slice A0 b.length c0, undef, .bool false, .pointer (some ⟨G22, 0, none⟩), .slice oa42 b.length nc43, u5, .slice A74 b.length c75, .int .i64 0, undef, undef, .bool true, .bool false, .slice A0 b.length c0, .int .i64 (b.length : Int), .bool false, .pointer (some ⟨G22, 0, none⟩), .pointer (some ⟨G22, 0, none⟩), .slice A0 b.length c0, .tuple [].toArray, .pointer (some ⟨G22, 0, none⟩), .int .i64 0, .pointer (some ⟨G22, 0, none⟩), .slice oa42 b.length nc43, .slice oa42 b.length nc43, .int .i64 (b.length : Int), .int .i64 (j : Int), .bool (decide ((j : Int) < (b.length : Int))), u27, u28, u29, u30, u31, u32, u33, u34, .pointer (some ⟨G22, 0, none⟩), .int .i64 0, .tuple [.slice A74 b.length c75, .int .i64 0].toArray, .pointer (some ⟨G22, 0, none⟩), .tuple [.slice A74 b.length c75, .int .i64 0].toArray, .slice A74 b.length c75, .int .i64 0, .tuple [.slice A84 ((turnB b 0 (255 : UInt8)).length) c85, .int .i64 0].toArray, .pointer (some ⟨G22, 0, none⟩), .tuple [.slice A84 ((turnB b 0 (255 : UInt8)).length) c85, .int .i64 0].toArray, .slice A84 ((turnB b 0 (255 : UInt8)).length) c85, undef, undef, undef, undef, undef, undef, undef, undef, undef, undef, undef, undef, undef, undef, undef, undef, undef, undef, undef, undef, undef, undef, undef, undef, undef, undef, undef, undef, undef, undef, undef, undef, undef, undef, undef, undef]) _ (x_extract (vs := [.slice A84 ((turnB b 0 (255 : UInt8)).length) c85, .int .i64 0]) 0 (.slice A84 ((turnB b 0 (255 : UInt8)).length) c85) rfl rfl rfl) rfl ?_
              refine p_run (l' := _) _ (x_extract (vs := [.slice A84 ((turnB b 0 (255 : UInt8)).length) c85, .int .i64 0]) 1 (.int .i64 0) rfl rfl rfl) rfl ?_
              refine p_run (l' := _) _ (x_assign (.slice A84 ((turnB b 0 (255 : UInt8)).length) c85) rfl rfl) rfl ?_
              refine p_run (l' := _) _ (x_assign (.int .i64 0) rfl rfl) rfl ?_
              refine wpList_nil ?_
              refine fr_at (l' := [.slice A0 b.length c0, undef, .bool false, .pointer (some ⟨G22, 0, none⟩), .slice oa42 b.length nc43, u5, .slice A74 b.length c75, .int .i64 0, .slice A84 ((turnB b 0 (255 : UInt8)).length) c85, .int .i64 0, .bool true, .bool false, .slice A0 b.length c0, .int .i64 (b.length : Int), .bool false, .pointer (some ⟨G22, 0, none⟩), .pointer (some ⟨G22, 0, none⟩), .slice A0 b.length c0, .tuple [].toArray, .pointer (some ⟨G22, 0, none⟩), .int .i64 0, .pointer (some ⟨G22, 0, none⟩), .slice oa42 b.length nc43, .slice oa42 b.length nc43, .int .i64 (b.length : Int), .int .i64 (j : Int), .bool (decide ((j : Int) < (b.length : Int))), u27, u28, u29, u30, u31, u32, u33, u34, .pointer (some ⟨G22, 0, none⟩), .int .i64 0, .tuple [.slice A74 b.length c75, .int .i64 0].toArray, .pointer (some ⟨G22, 0, none⟩), .tuple [.slice A74 b.length c75, .int .i64 0].toArray, .slice A74 b.length c75, .int .i64 0, .tuple [.slice A84 ((turnB b 0 (255 : UInt8)).length) c85, .int .i64 0].toArray, .pointer (some ⟨G22, 0, none⟩), .tuple [.slice A84 ((turnB b 0 (255 : UInt8)).length) c85, .int .i64 0].toArray, .slice A84 ((turnB b 0 (255 : UInt8)).length) c85, .int .i64 0, undef, undef, undef, undef, undef, undef, undef, undef, undef, undef, undef, undef, undef, undef, undef, undef, undef, undef, undef, undef, undef, undef, undef, undef, undef, undef, undef, undef, undef, undef, undef, undef, undef, undef, undef]) rfl ?_
              refine hK79 _ _ ?_
              refine wp_seq_k (fun K88 hK89 => ?_)
              refine free_frame (n := 36) (T := _) [0, 1, 3, 7, 15, 31, 63, 127, 255, 127, 639, 2047, 4095, 8191, 16383, 32767, 16383, 81919, 262143, 524287, 1048575, 2097151, 4194303, 8388607, 16777215, 33554431, 67108863, 134217727, 33554431, 301989887, 838860799, 1912602623, 4294967295, 8589934591, 17179869183, 34359738367] [(0, 47), (1, 48), (2, 49), (3, 50), (4, 51), (5, 52), (6, 53), (7, 54), (8, 55), (9, 56), (10, 57), (11, 58), (12, 59), (13, 60), (14, 61), (15, 62), (16, 63), (17, 64), (18, 65), (19, 66), (20, 67), (21, 68), (22, 69), (23, 70), (24, 71), (25, 72), (26, 73), (27, 74), (28, 75), (29, 76), (30, 77), (31, 78), (32, 79), (33, 80), (34, 81), (35, 2)] (fun bq_ vq_ w_ => qv ((fun i_ => match i_ with | 0 => some (.int .i64 0) | 1 => some (.bool true) | 2 => some (.bool true) | 3 => some (.int .i64 0) | 4 => some (.bool true) | 5 => some (.bool true) | 6 => some (.bool true) | 7 => some (.slice A74 b.length c75) | 8 => some (.string (strB b)) | 9 => some (.slice A0 b.length c0) | 10 => some (.string (strB b)) | 11 => some (.bool true) | 12 => some (.bool true) | 13 => some (.bool true) | 14 => some (.slice A84 ((turnB b 0 (255 : UInt8)).length) c85) | 15 => some (.int .i64 ((turnB b 0 (255 : UInt8)).length : Int)) | 16 => some (.slice A0 b.length c0) | 17 => some (.int .i64 (b.length : Int)) | 18 => some (.bool true) | 19 => some (.bool true) | 20 => some (.bool true) | 21 => some (.slice A0 b.length c0) | 22 => some (.int .i64 (b.length : Int)) | 23 => some (.bool true) | 24 => some (.bool true) | 25 => some (undef) | 26 => some (undef) | 27 => some (undef) | 28 => some (undef) | 29 => some (undef) | 30 => some (undef) | 31 => some (undef) | 32 => some (undef) | 33 => some (.bool true) | 34 => some (.bool true) | 35 => some (.bool true) | _ => none) : Nat → Option Value) bq_ vq_ ∧ (St w (fun _ => False) w_ ([row kByte rfl 5 (.slice A84 ((turnB b 0 (255 : UInt8)).length) c85) (turnB b 0 (255 : UInt8)), blk G22 [v82] 72, row kPk rfl 75 v82 (pk []), allR (frs []), row kByte rfl 5 (.slice A74 b.length c75) b, row kByte rfl 5 (.slice oa42 b.length nc43) b]))) (by kernel_rfl) rfl rfl (by kernel_rfl) (by kernel_rfl) rfl (by kernel_rfl) (by kernel_rfl) ⟨qv_none, HS.draw⟩ ?_ ?_
              · clear HS
                intro i_ hi_ bq_ vq_ a_ w_ hG hb_ hon hoff hfr hel hval
                obtain ⟨hV, hE⟩ := hG
                have hi_ := List.mem_range.1 hi_
                have hcs : i_ = 0 ∨ i_ = 1 ∨ i_ = 2 ∨ i_ = 3 ∨ i_ = 4 ∨ i_ = 5 ∨ i_ = 6 ∨ i_ = 7 ∨ i_ = 8 ∨ i_ = 9 ∨ i_ = 10 ∨ i_ = 11 ∨ i_ = 12 ∨ i_ = 13 ∨ i_ = 14 ∨ i_ = 15 ∨ i_ = 16 ∨ i_ = 17 ∨ i_ = 18 ∨ i_ = 19 ∨ i_ = 20 ∨ i_ = 21 ∨ i_ = 22 ∨ i_ = 23 ∨ i_ = 24 ∨ i_ = 25 ∨ i_ = 26 ∨ i_ = 27 ∨ i_ = 28 ∨ i_ = 29 ∨ i_ = 30 ∨ i_ = 31 ∨ i_ = 32 ∨ i_ = 33 ∨ i_ = 34 ∨ i_ = 35 := by omega
                rcases hcs with rfl | rfl | rfl | rfl | rfl | rfl | rfl | rfl | rfl | rfl | rfl | rfl | rfl | rfl | rfl | rfl | rfl | rfl | rfl | rfl | rfl | rfl | rfl | rfl | rfl | rfl | rfl | rfl | rfl | rfl | rfl | rfl | rfl | rfl | rfl | rfl
                · have h7 : a_.tmps[7]? = some (.int .i64 0) := (hel 7 (by decide)).trans rfl
                  obtain ⟨l_, rfl⟩ := hfr
                  have e7 : evl l_ (.tmp 7) = .int .i64 0 := evl_of h7
                  refine ⟨_, rfl, fun K_ hK_ => wp_of_list rfl ?_⟩
                  intro ops_
                  refine p_run (l' := _) _ (x_move (.int .i64 0) rfl e7) rfl ?_
                  refine wpList_nil ?_
                  exact norm_put (hK_ (.int .i64 0) _ ⟨qv_up hV (fun _ h => Option.some.inj h), hE⟩)
                · have h47 : a_.tmps[47]? = some (.int .i64 0) := (hval (0, 47) (by decide) (hon 0 (by decide))).trans (congrArg some (hV 0 _ rfl (hon 0 (by decide))))
                  obtain ⟨l_, rfl⟩ := hfr
                  have e47 : evl l_ (.tmp 47) = .int .i64 0 := evl_of h47
                  refine ⟨_, rfl, fun K_ hK_ => wp_of_list rfl ?_⟩
                  intro ops_
                  refine p_run (l' := _) _ (x_cmp (k := .i64) (m := 0) (n := 0) .eql true rfl e47 rfl (by decide) rfl) rfl ?_
                  refine wpList_nil ?_
                  exact norm_put (hK_ (.bool true) _ ⟨qv_up hV (fun _ h => Option.some.inj h), hE⟩)
                · have h48 : a_.tmps[48]? = some (.bool true) := (hval (1, 48) (by decide) (hon 1 (by decide))).trans (congrArg some (hV 1 _ rfl (hon 1 (by decide))))
                  obtain ⟨l_, rfl⟩ := hfr
                  have e48 : evl l_ (.tmp 48) = .bool true := evl_of h48
                  refine ⟨_, rfl, fun K_ hK_ => wp_of_list rfl ?_⟩
                  intro ops_
                  refine p_run (l' := _) _ (x_move (.bool true) rfl e48) rfl ?_
                  refine wpList_nil ?_
                  exact norm_put (hK_ (.bool true) _ ⟨qv_up hV (fun _ h => Option.some.inj h), hE⟩)
                · have h9 : a_.tmps[9]? = some (.int .i64 0) := (hel 9 (by decide)).trans rfl
                  have h49 : a_.tmps[49]? = some (.bool true) := (hval (2, 49) (by decide) (hon 2 (by decide))).trans (congrArg some (hV 2 _ rfl (hon 2 (by decide))))
                  obtain ⟨l_, rfl⟩ := hfr
                  have e9 : evl l_ (.tmp 9) = .int .i64 0 := evl_of h9
                  have e49 : evl l_ (.tmp 49) = .bool true := evl_of h49
                  refine ⟨_, rfl, fun K_ hK_ => wp_of_listG rfl (wanted_on (t := 49) rfl rfl rfl h49) ?_⟩
                  intro ops_
                  refine p_run (l' := _) _ (x_move (.int .i64 0) rfl e9) rfl ?_
                  refine wpList_nil ?_
                  exact norm_put (hK_ (.int .i64 0) _ ⟨qv_up hV (fun _ h => Option.some.inj h), hE⟩)
                · have h49 : a_.tmps[49]? = some (.bool true) := (hval (2, 49) (by decide) (hon 2 (by decide))).trans (congrArg some (hV 2 _ rfl (hon 2 (by decide))))
                  have h50 : a_.tmps[50]? = some (.int .i64 0) := (hval (3, 50) (by decide) (hon 3 (by decide))).trans (congrArg some (hV 3 _ rfl (hon 3 (by decide))))
                  obtain ⟨l_, rfl⟩ := hfr
                  have e49 : evl l_ (.tmp 49) = .bool true := evl_of h49
                  have e50 : evl l_ (.tmp 50) = .int .i64 0 := evl_of h50
                  refine ⟨_, rfl, fun K_ hK_ => wp_of_listG rfl (wanted_on (t := 49) rfl rfl rfl h49) ?_⟩
                  intro ops_
                  refine p_run (l' := _) _ (x_cmp (k := .i64) (m := 0) (n := 0) .eql true rfl e50 rfl (by decide) rfl) rfl ?_
                  refine wpList_nil ?_
                  exact norm_put (hK_ (.bool true) _ ⟨qv_up hV (fun _ h => Option.some.inj h), hE⟩)
                · have h49 : a_.tmps[49]? = some (.bool true) := (hval (2, 49) (by decide) (hon 2 (by decide))).trans (congrArg some (hV 2 _ rfl (hon 2 (by decide))))
                  have h51 : a_.tmps[51]? = some (.bool true) := (hval (4, 51) (by decide) (hon 4 (by decide))).trans (congrArg some (hV 4 _ rfl (hon 4 (by decide))))
                  obtain ⟨l_, rfl⟩ := hfr
                  have e49 : evl l_ (.tmp 49) = .bool true := evl_of h49
                  have e51 : evl l_ (.tmp 51) = .bool true := evl_of h51
                  refine ⟨_, rfl, fun K_ hK_ => wp_of_list rfl ?_⟩
                  intro ops_
                  refine p_run (l' := _) _ (x_pick true (.bool true) (.bool false) (.bool true) rfl e49 e51 rfl rfl) rfl ?_
                  refine wpList_nil ?_
                  exact norm_put (hK_ (.bool true) _ ⟨qv_up hV (fun _ h => Option.some.inj h), hE⟩)
                · have h52 : a_.tmps[52]? = some (.bool true) := (hval (5, 52) (by decide) (hon 5 (by decide))).trans (congrArg some (hV 5 _ rfl (hon 5 (by decide))))
                  obtain ⟨l_, rfl⟩ := hfr
                  have e52 : evl l_ (.tmp 52) = .bool true := evl_of h52
                  refine ⟨_, rfl, fun K_ hK_ => wp_of_list rfl ?_⟩
                  intro ops_
                  refine p_run (l' := _) _ (x_move (.bool true) rfl e52) rfl ?_
                  refine wpList_nil ?_
                  exact norm_put (hK_ (.bool true) _ ⟨qv_up hV (fun _ h => Option.some.inj h), hE⟩)
                · have h6 : a_.tmps[6]? = some (.slice A74 b.length c75) := (hel 6 (by decide)).trans rfl
                  have h53 : a_.tmps[53]? = some (.bool true) := (hval (6, 53) (by decide) (hon 6 (by decide))).trans (congrArg some (hV 6 _ rfl (hon 6 (by decide))))
                  obtain ⟨l_, rfl⟩ := hfr
                  have e6 : evl l_ (.tmp 6) = .slice A74 b.length c75 := evl_of h6
                  have e53 : evl l_ (.tmp 53) = .bool true := evl_of h53
                  refine ⟨_, rfl, fun K_ hK_ => wp_of_listG rfl (wanted_on (t := 53) rfl rfl rfl h53) ?_⟩
                  intro ops_
                  refine p_run (l' := _) _ (x_move (.slice A74 b.length c75) rfl e6) rfl ?_
                  refine wpList_nil ?_
                  exact norm_put (hK_ (.slice A74 b.length c75) _ ⟨qv_up hV (fun _ h => Option.some.inj h), hE⟩)
                · have h53 : a_.tmps[53]? = some (.bool true) := (hval (6, 53) (by decide) (hon 6 (by decide))).trans (congrArg some (hV 6 _ rfl (hon 6 (by decide))))
                  have h54 : a_.tmps[54]? = some (.slice A74 b.length c75) := (hval (7, 54) (by decide) (hon 7 (by decide))).trans (congrArg some (hV 7 _ rfl (hon 7 (by decide))))
                  obtain ⟨l_, rfl⟩ := hfr
                  have hE0 := hE
                  have HS := hE0
                  have e53 : evl l_ (.tmp 53) = .bool true := evl_of h53
                  have e54 : evl l_ (.tmp 54) = .slice A74 b.length c75 := evl_of h54
                  refine ⟨_, rfl, fun K_ hK_ => wp_of_listG rfl (wanted_on (t := 53) rfl rfl rfl h53) ?_⟩
                  intro ops_
                  refine p_run (l' := _) _ (x_str (xs := b) (row_rd (HS.get (.tail _ (.tail _ (.tail _ (.tail _ (.head _))))))).2.2 rfl rfl e54) rfl ?_
                  refine wpList_nil ?_
                  exact norm_put (hK_ (.string (strB b)) _ ⟨qv_up hV (fun _ h => Option.some.inj h), hE⟩)
                · have h0 : a_.tmps[0]? = some (.slice A0 b.length c0) := (hel 0 (by decide)).trans rfl
                  have h53 : a_.tmps[53]? = some (.bool true) := (hval (6, 53) (by decide) (hon 6 (by decide))).trans (congrArg some (hV 6 _ rfl (hon 6 (by decide))))
                  obtain ⟨l_, rfl⟩ := hfr
                  have e0 : evl l_ (.tmp 0) = .slice A0 b.length c0 := evl_of h0
                  have e53 : evl l_ (.tmp 53) = .bool true := evl_of h53
                  refine ⟨_, rfl, fun K_ hK_ => wp_of_listG rfl (wanted_on (t := 53) rfl rfl rfl h53) ?_⟩
                  intro ops_
                  refine p_run (l' := _) _ (x_move (.slice A0 b.length c0) rfl e0) rfl ?_
                  refine wpList_nil ?_
                  exact norm_put (hK_ (.slice A0 b.length c0) _ ⟨qv_up hV (fun _ h => Option.some.inj h), hE⟩)
                · have h53 : a_.tmps[53]? = some (.bool true) := (hval (6, 53) (by decide) (hon 6 (by decide))).trans (congrArg some (hV 6 _ rfl (hon 6 (by decide))))
                  have h56 : a_.tmps[56]? = some (.slice A0 b.length c0) := (hval (9, 56) (by decide) (hon 9 (by decide))).trans (congrArg some (hV 9 _ rfl (hon 9 (by decide))))
                  obtain ⟨l_, rfl⟩ := hfr
                  have hE0 := hE
                  have HS := hE0
                  have e53 : evl l_ (.tmp 53) = .bool true := evl_of h53
                  have e56 : evl l_ (.tmp 56) = .slice A0 b.length c0 := evl_of h56
                  refine ⟨_, rfl, fun K_ hK_ => wp_of_listG rfl (wanted_on (t := 53) rfl rfl rfl h53) ?_⟩
                  intro ops_
                  refine p_run (l' := _) _ (x_str (xs := b) (hs0.below HS.belowOf).rd rfl rfl e56) rfl ?_
                  refine wpList_nil ?_
                  exact norm_put (hK_ (.string (strB b)) _ ⟨qv_up hV (fun _ h => Option.some.inj h), hE⟩)
                · have h53 : a_.tmps[53]? = some (.bool true) := (hval (6, 53) (by decide) (hon 6 (by decide))).trans (congrArg some (hV 6 _ rfl (hon 6 (by decide))))
                  have h55 : a_.tmps[55]? = some (.string (strB b)) := (hval (8, 55) (by decide) (hon 8 (by decide))).trans (congrArg some (hV 8 _ rfl (hon 8 (by decide))))
                  have h57 : a_.tmps[57]? = some (.string (strB b)) := (hval (10, 57) (by decide) (hon 10 (by decide))).trans (congrArg some (hV 10 _ rfl (hon 10 (by decide))))
                  obtain ⟨l_, rfl⟩ := hfr
                  have e53 : evl l_ (.tmp 53) = .bool true := evl_of h53
                  have e55 : evl l_ (.tmp 55) = .string (strB b) := evl_of h55
                  have e57 : evl l_ (.tmp 57) = .string (strB b) := evl_of h57
                  refine ⟨_, rfl, fun K_ hK_ => wp_of_listG rfl (wanted_on (t := 53) rfl rfl rfl h53) ?_⟩
                  intro ops_
                  refine p_run (l' := _) _ (x_streq .eql (strB b) (strB b) true rfl e55 e57 (str_yes rfl) rfl) rfl ?_
                  refine wpList_nil ?_
                  exact norm_put (hK_ (.bool true) _ ⟨qv_up hV (fun _ h => Option.some.inj h), hE⟩)
                · have h53 : a_.tmps[53]? = some (.bool true) := (hval (6, 53) (by decide) (hon 6 (by decide))).trans (congrArg some (hV 6 _ rfl (hon 6 (by decide))))
                  have h58 : a_.tmps[58]? = some (.bool true) := (hval (11, 58) (by decide) (hon 11 (by decide))).trans (congrArg some (hV 11 _ rfl (hon 11 (by decide))))
                  obtain ⟨l_, rfl⟩ := hfr
                  have e53 : evl l_ (.tmp 53) = .bool true := evl_of h53
                  have e58 : evl l_ (.tmp 58) = .bool true := evl_of h58
                  refine ⟨_, rfl, fun K_ hK_ => wp_of_list rfl ?_⟩
                  intro ops_
                  refine p_run (l' := _) _ (x_pick true (.bool true) (.bool false) (.bool true) rfl e53 e58 rfl rfl) rfl ?_
                  refine wpList_nil ?_
                  exact norm_put (hK_ (.bool true) _ ⟨qv_up hV (fun _ h => Option.some.inj h), hE⟩)
                · have h59 : a_.tmps[59]? = some (.bool true) := (hval (12, 59) (by decide) (hon 12 (by decide))).trans (congrArg some (hV 12 _ rfl (hon 12 (by decide))))
                  obtain ⟨l_, rfl⟩ := hfr
                  have e59 : evl l_ (.tmp 59) = .bool true := evl_of h59
                  refine ⟨_, rfl, fun K_ hK_ => wp_of_list rfl ?_⟩
                  intro ops_
                  refine p_run (l' := _) _ (x_move (.bool true) rfl e59) rfl ?_
                  refine wpList_nil ?_
                  exact norm_put (hK_ (.bool true) _ ⟨qv_up hV (fun _ h => Option.some.inj h), hE⟩)
                · have h8 : a_.tmps[8]? = some (.slice A84 ((turnB b 0 (255 : UInt8)).length) c85) := (hel 8 (by decide)).trans rfl
                  have h60 : a_.tmps[60]? = some (.bool true) := (hval (13, 60) (by decide) (hon 13 (by decide))).trans (congrArg some (hV 13 _ rfl (hon 13 (by decide))))
                  obtain ⟨l_, rfl⟩ := hfr
                  have e8 : evl l_ (.tmp 8) = .slice A84 ((turnB b 0 (255 : UInt8)).length) c85 := evl_of h8
                  have e60 : evl l_ (.tmp 60) = .bool true := evl_of h60
                  refine ⟨_, rfl, fun K_ hK_ => wp_of_listG rfl (wanted_on (t := 60) rfl rfl rfl h60) ?_⟩
                  intro ops_
                  refine p_run (l' := _) _ (x_move (.slice A84 ((turnB b 0 (255 : UInt8)).length) c85) rfl e8) rfl ?_
                  refine wpList_nil ?_
                  exact norm_put (hK_ (.slice A84 ((turnB b 0 (255 : UInt8)).length) c85) _ ⟨qv_up hV (fun _ h => Option.some.inj h), hE⟩)
                · have h60 : a_.tmps[60]? = some (.bool true) := (hval (13, 60) (by decide) (hon 13 (by decide))).trans (congrArg some (hV 13 _ rfl (hon 13 (by decide))))
                  have h61 : a_.tmps[61]? = some (.slice A84 ((turnB b 0 (255 : UInt8)).length) c85) := (hval (14, 61) (by decide) (hon 14 (by decide))).trans (congrArg some (hV 14 _ rfl (hon 14 (by decide))))
                  obtain ⟨l_, rfl⟩ := hfr
                  have hE0 := hE
                  have HS := hE0
                  have e60 : evl l_ (.tmp 60) = .bool true := evl_of h60
                  have e61 : evl l_ (.tmp 61) = .slice A84 ((turnB b 0 (255 : UInt8)).length) c85 := evl_of h61
                  refine ⟨_, rfl, fun K_ hK_ => wp_of_listG rfl (wanted_on (t := 60) rfl rfl rfl h60) ?_⟩
                  intro ops_
                  refine p_run (l' := _) _ (x_len rfl e61 Try.underlying24) rfl ?_
                  refine wpList_nil ?_
                  exact norm_put (hK_ (.int .i64 ((turnB b 0 (255 : UInt8)).length : Int)) _ ⟨qv_up hV (fun _ h => Option.some.inj h), hE⟩)
                · have h0 : a_.tmps[0]? = some (.slice A0 b.length c0) := (hel 0 (by decide)).trans rfl
                  have h60 : a_.tmps[60]? = some (.bool true) := (hval (13, 60) (by decide) (hon 13 (by decide))).trans (congrArg some (hV 13 _ rfl (hon 13 (by decide))))
                  obtain ⟨l_, rfl⟩ := hfr
                  have e0 : evl l_ (.tmp 0) = .slice A0 b.length c0 := evl_of h0
                  have e60 : evl l_ (.tmp 60) = .bool true := evl_of h60
                  refine ⟨_, rfl, fun K_ hK_ => wp_of_listG rfl (wanted_on (t := 60) rfl rfl rfl h60) ?_⟩
                  intro ops_
                  refine p_run (l' := _) _ (x_move (.slice A0 b.length c0) rfl e0) rfl ?_
                  refine wpList_nil ?_
                  exact norm_put (hK_ (.slice A0 b.length c0) _ ⟨qv_up hV (fun _ h => Option.some.inj h), hE⟩)
                · have h60 : a_.tmps[60]? = some (.bool true) := (hval (13, 60) (by decide) (hon 13 (by decide))).trans (congrArg some (hV 13 _ rfl (hon 13 (by decide))))
                  have h63 : a_.tmps[63]? = some (.slice A0 b.length c0) := (hval (16, 63) (by decide) (hon 16 (by decide))).trans (congrArg some (hV 16 _ rfl (hon 16 (by decide))))
                  obtain ⟨l_, rfl⟩ := hfr
                  have hE0 := hE
                  have HS := hE0
                  have e60 : evl l_ (.tmp 60) = .bool true := evl_of h60
                  have e63 : evl l_ (.tmp 63) = .slice A0 b.length c0 := evl_of h63
                  refine ⟨_, rfl, fun K_ hK_ => wp_of_listG rfl (wanted_on (t := 60) rfl rfl rfl h60) ?_⟩
                  intro ops_
                  refine p_run (l' := _) _ (x_len rfl e63 Try.underlying24) rfl ?_
                  refine wpList_nil ?_
                  exact norm_put (hK_ (.int .i64 (b.length : Int)) _ ⟨qv_up hV (fun _ h => Option.some.inj h), hE⟩)
                · have h60 : a_.tmps[60]? = some (.bool true) := (hval (13, 60) (by decide) (hon 13 (by decide))).trans (congrArg some (hV 13 _ rfl (hon 13 (by decide))))
                  have h62 : a_.tmps[62]? = some (.int .i64 ((turnB b 0 (255 : UInt8)).length : Int)) := (hval (15, 62) (by decide) (hon 15 (by decide))).trans (congrArg some (hV 15 _ rfl (hon 15 (by decide))))
                  have h64 : a_.tmps[64]? = some (.int .i64 (b.length : Int)) := (hval (17, 64) (by decide) (hon 17 (by decide))).trans (congrArg some (hV 17 _ rfl (hon 17 (by decide))))
                  obtain ⟨l_, rfl⟩ := hfr
                  have e60 : evl l_ (.tmp 60) = .bool true := evl_of h60
                  have e62 : evl l_ (.tmp 62) = .int .i64 ((turnB b 0 (255 : UInt8)).length : Int) := evl_of h62
                  have e64 : evl l_ (.tmp 64) = .int .i64 (b.length : Int) := evl_of h64
                  refine ⟨_, rfl, fun K_ hK_ => wp_of_listG rfl (wanted_on (t := 60) rfl rfl rfl h60) ?_⟩
                  intro ops_
                  refine p_run (l' := _) _ (x_cmp (k := .i64) (m := ((turnB b 0 (255 : UInt8)).length : Int)) (n := (b.length : Int)) .eql true rfl e62 e64 (by unfold cmpB; rw [turnB_length]; simp) rfl) rfl ?_
                  refine wpList_nil ?_
                  exact norm_put (hK_ (.bool true) _ ⟨qv_up hV (fun _ h => Option.some.inj h), hE⟩)
                · have h60 : a_.tmps[60]? = some (.bool true) := (hval (13, 60) (by decide) (hon 13 (by decide))).trans (congrArg some (hV 13 _ rfl (hon 13 (by decide))))
                  have h65 : a_.tmps[65]? = some (.bool true) := (hval (18, 65) (by decide) (hon 18 (by decide))).trans (congrArg some (hV 18 _ rfl (hon 18 (by decide))))
                  obtain ⟨l_, rfl⟩ := hfr
                  have e60 : evl l_ (.tmp 60) = .bool true := evl_of h60
                  have e65 : evl l_ (.tmp 65) = .bool true := evl_of h65
                  refine ⟨_, rfl, fun K_ hK_ => wp_of_list rfl ?_⟩
                  intro ops_
                  refine p_run (l' := _) _ (x_pick true (.bool true) (.bool false) (.bool true) rfl e60 e65 rfl rfl) rfl ?_
                  refine wpList_nil ?_
                  exact norm_put (hK_ (.bool true) _ ⟨qv_up hV (fun _ h => Option.some.inj h), hE⟩)
                · have h66 : a_.tmps[66]? = some (.bool true) := (hval (19, 66) (by decide) (hon 19 (by decide))).trans (congrArg some (hV 19 _ rfl (hon 19 (by decide))))
                  obtain ⟨l_, rfl⟩ := hfr
                  have e66 : evl l_ (.tmp 66) = .bool true := evl_of h66
                  refine ⟨_, rfl, fun K_ hK_ => wp_of_list rfl ?_⟩
                  intro ops_
                  refine p_run (l' := _) _ (x_move (.bool true) rfl e66) rfl ?_
                  refine wpList_nil ?_
                  exact norm_put (hK_ (.bool true) _ ⟨qv_up hV (fun _ h => Option.some.inj h), hE⟩)
                · have h0 : a_.tmps[0]? = some (.slice A0 b.length c0) := (hel 0 (by decide)).trans rfl
                  have h67 : a_.tmps[67]? = some (.bool true) := (hval (20, 67) (by decide) (hon 20 (by decide))).trans (congrArg some (hV 20 _ rfl (hon 20 (by decide))))
                  obtain ⟨l_, rfl⟩ := hfr
                  have e0 : evl l_ (.tmp 0) = .slice A0 b.length c0 := evl_of h0
                  have e67 : evl l_ (.tmp 67) = .bool true := evl_of h67
                  refine ⟨_, rfl, fun K_ hK_ => wp_of_listG rfl (wanted_on (t := 67) rfl rfl rfl h67) ?_⟩
                  intro ops_
                  refine p_run (l' := _) _ (x_move (.slice A0 b.length c0) rfl e0) rfl ?_
                  refine wpList_nil ?_
                  exact norm_put (hK_ (.slice A0 b.length c0) _ ⟨qv_up hV (fun _ h => Option.some.inj h), hE⟩)
                · have h67 : a_.tmps[67]? = some (.bool true) := (hval (20, 67) (by decide) (hon 20 (by decide))).trans (congrArg some (hV 20 _ rfl (hon 20 (by decide))))
                  have h68 : a_.tmps[68]? = some (.slice A0 b.length c0) := (hval (21, 68) (by decide) (hon 21 (by decide))).trans (congrArg some (hV 21 _ rfl (hon 21 (by decide))))
                  obtain ⟨l_, rfl⟩ := hfr
                  have hE0 := hE
                  have HS := hE0
                  have e67 : evl l_ (.tmp 67) = .bool true := evl_of h67
                  have e68 : evl l_ (.tmp 68) = .slice A0 b.length c0 := evl_of h68
                  refine ⟨_, rfl, fun K_ hK_ => wp_of_listG rfl (wanted_on (t := 67) rfl rfl rfl h67) ?_⟩
                  intro ops_
                  refine p_run (l' := _) _ (x_len rfl e68 Try.underlying24) rfl ?_
                  refine wpList_nil ?_
                  exact norm_put (hK_ (.int .i64 (b.length : Int)) _ ⟨qv_up hV (fun _ h => Option.some.inj h), hE⟩)
                · have h67 : a_.tmps[67]? = some (.bool true) := (hval (20, 67) (by decide) (hon 20 (by decide))).trans (congrArg some (hV 20 _ rfl (hon 20 (by decide))))
                  have h69 : a_.tmps[69]? = some (.int .i64 (b.length : Int)) := (hval (22, 69) (by decide) (hon 22 (by decide))).trans (congrArg some (hV 22 _ rfl (hon 22 (by decide))))
                  obtain ⟨l_, rfl⟩ := hfr
                  have e67 : evl l_ (.tmp 67) = .bool true := evl_of h67
                  have e69 : evl l_ (.tmp 69) = .int .i64 (b.length : Int) := evl_of h69
                  refine ⟨_, rfl, fun K_ hK_ => wp_of_listG rfl (wanted_on (t := 67) rfl rfl rfl h67) ?_⟩
                  intro ops_
                  refine p_run (l' := _) _ (x_cmp (k := .i64) (m := (b.length : Int)) (n := 0) .eql true rfl e69 rfl (by rw [hb0]; rfl) rfl) rfl ?_
                  refine wpList_nil ?_
                  exact norm_put (hK_ (.bool true) _ ⟨qv_up hV (fun _ h => Option.some.inj h), hE⟩)
                · have h67 : a_.tmps[67]? = some (.bool true) := (hval (20, 67) (by decide) (hon 20 (by decide))).trans (congrArg some (hV 20 _ rfl (hon 20 (by decide))))
                  have h70 : a_.tmps[70]? = some (.bool true) := (hval (23, 70) (by decide) (hon 23 (by decide))).trans (congrArg some (hV 23 _ rfl (hon 23 (by decide))))
                  obtain ⟨l_, rfl⟩ := hfr
                  have e67 : evl l_ (.tmp 67) = .bool true := evl_of h67
                  have e70 : evl l_ (.tmp 70) = .bool true := evl_of h70
                  refine ⟨_, rfl, fun K_ hK_ => wp_of_listG rfl (wanted_on (t := 67) rfl rfl rfl h67) ?_⟩
                  intro ops_
                  refine p_run (l' := _) _ (x_move (.bool true) rfl e70) rfl ?_
                  refine wpList_nil ?_
                  exact norm_put (hK_ (.bool true) _ ⟨qv_up hV (fun _ h => Option.some.inj h), hE⟩)
                · have h71 : a_.tmps[71]? = some (.bool true) := (hval (24, 71) (by decide) (hon 24 (by decide))).trans (congrArg some (hV 24 _ rfl (hon 24 (by decide))))
                  obtain ⟨l_, rfl⟩ := hfr
                  refine ⟨_, rfl, fun K_ hK_ => wp_offG (wanted_off (t := 71) rfl rfl rfl h71) ?_⟩
                  exact hK_ undef _ ⟨qv_up hV (fun _ h => Option.some.inj h), hE⟩
                · have h71 : a_.tmps[71]? = some (.bool true) := (hval (24, 71) (by decide) (hon 24 (by decide))).trans (congrArg some (hV 24 _ rfl (hon 24 (by decide))))
                  obtain ⟨l_, rfl⟩ := hfr
                  refine ⟨_, rfl, fun K_ hK_ => wp_offG (wanted_off (t := 71) rfl rfl rfl h71) ?_⟩
                  exact hK_ undef _ ⟨qv_up hV (fun _ h => Option.some.inj h), hE⟩
                · have h71 : a_.tmps[71]? = some (.bool true) := (hval (24, 71) (by decide) (hon 24 (by decide))).trans (congrArg some (hV 24 _ rfl (hon 24 (by decide))))
                  obtain ⟨l_, rfl⟩ := hfr
                  refine ⟨_, rfl, fun K_ hK_ => wp_offG (wanted_off (t := 71) rfl rfl rfl h71) ?_⟩
                  exact hK_ undef _ ⟨qv_up hV (fun _ h => Option.some.inj h), hE⟩
                · have h71 : a_.tmps[71]? = some (.bool true) := (hval (24, 71) (by decide) (hon 24 (by decide))).trans (congrArg some (hV 24 _ rfl (hon 24 (by decide))))
                  obtain ⟨l_, rfl⟩ := hfr
                  refine ⟨_, rfl, fun K_ hK_ => wp_offG (wanted_off (t := 71) rfl rfl rfl h71) ?_⟩
                  exact hK_ undef _ ⟨qv_up hV (fun _ h => Option.some.inj h), hE⟩
                · have h71 : a_.tmps[71]? = some (.bool true) := (hval (24, 71) (by decide) (hon 24 (by decide))).trans (congrArg some (hV 24 _ rfl (hon 24 (by decide))))
                  obtain ⟨l_, rfl⟩ := hfr
                  refine ⟨_, rfl, fun K_ hK_ => wp_offG (wanted_off (t := 71) rfl rfl rfl h71) ?_⟩
                  exact hK_ undef _ ⟨qv_up hV (fun _ h => Option.some.inj h), hE⟩
                · have h71 : a_.tmps[71]? = some (.bool true) := (hval (24, 71) (by decide) (hon 24 (by decide))).trans (congrArg some (hV 24 _ rfl (hon 24 (by decide))))
                  obtain ⟨l_, rfl⟩ := hfr
                  refine ⟨_, rfl, fun K_ hK_ => wp_offG (wanted_off (t := 71) rfl rfl rfl h71) ?_⟩
                  exact hK_ undef _ ⟨qv_up hV (fun _ h => Option.some.inj h), hE⟩
                · have h71 : a_.tmps[71]? = some (.bool true) := (hval (24, 71) (by decide) (hon 24 (by decide))).trans (congrArg some (hV 24 _ rfl (hon 24 (by decide))))
                  obtain ⟨l_, rfl⟩ := hfr
                  refine ⟨_, rfl, fun K_ hK_ => wp_offG (wanted_off (t := 71) rfl rfl rfl h71) ?_⟩
                  exact hK_ undef _ ⟨qv_up hV (fun _ h => Option.some.inj h), hE⟩
                · have h71 : a_.tmps[71]? = some (.bool true) := (hval (24, 71) (by decide) (hon 24 (by decide))).trans (congrArg some (hV 24 _ rfl (hon 24 (by decide))))
                  obtain ⟨l_, rfl⟩ := hfr
                  refine ⟨_, rfl, fun K_ hK_ => wp_offG (wanted_off (t := 71) rfl rfl rfl h71) ?_⟩
                  exact hK_ undef _ ⟨qv_up hV (fun _ h => Option.some.inj h), hE⟩
                · have h67 : a_.tmps[67]? = some (.bool true) := (hval (20, 67) (by decide) (hon 20 (by decide))).trans (congrArg some (hV 20 _ rfl (hon 20 (by decide))))
                  have h71 : a_.tmps[71]? = some (.bool true) := (hval (24, 71) (by decide) (hon 24 (by decide))).trans (congrArg some (hV 24 _ rfl (hon 24 (by decide))))
                  have h79 : a_.tmps[79]? = some (undef) := (hval (32, 79) (by decide) (hon 32 (by decide))).trans (congrArg some (hV 32 _ rfl (hon 32 (by decide))))
                  obtain ⟨l_, rfl⟩ := hfr
                  have e67 : evl l_ (.tmp 67) = .bool true := evl_of h67
                  have e71 : evl l_ (.tmp 71) = .bool true := evl_of h71
                  have e79 : evl l_ (.tmp 79) = undef := evl_of h79
                  refine ⟨_, rfl, fun K_ hK_ => wp_of_listG rfl (wanted_on (t := 67) rfl rfl rfl h67) ?_⟩
                  intro ops_
                  refine p_run (l' := _) _ (x_pick true (.bool true) (undef) (.bool true) rfl e71 rfl e79 rfl) rfl ?_
                  refine wpList_nil ?_
                  exact norm_put (hK_ (.bool true) _ ⟨qv_up hV (fun _ h => Option.some.inj h), hE⟩)
                · have h67 : a_.tmps[67]? = some (.bool true) := (hval (20, 67) (by decide) (hon 20 (by decide))).trans (congrArg some (hV 20 _ rfl (hon 20 (by decide))))
                  have h80 : a_.tmps[80]? = some (.bool true) := (hval (33, 80) (by decide) (hon 33 (by decide))).trans (congrArg some (hV 33 _ rfl (hon 33 (by decide))))
                  obtain ⟨l_, rfl⟩ := hfr
                  have e67 : evl l_ (.tmp 67) = .bool true := evl_of h67
                  have e80 : evl l_ (.tmp 80) = .bool true := evl_of h80
                  refine ⟨_, rfl, fun K_ hK_ => wp_of_list rfl ?_⟩
                  intro ops_
                  refine p_run (l' := _) _ (x_pick true (.bool true) (.bool false) (.bool true) rfl e67 e80 rfl rfl) rfl ?_
                  refine wpList_nil ?_
                  exact norm_put (hK_ (.bool true) _ ⟨qv_up hV (fun _ h => Option.some.inj h), hE⟩)
                · have h81 : a_.tmps[81]? = some (.bool true) := (hval (34, 81) (by decide) (hon 34 (by decide))).trans (congrArg some (hV 34 _ rfl (hon 34 (by decide))))
                  obtain ⟨l_, rfl⟩ := hfr
                  have e81 : evl l_ (.tmp 81) = .bool true := evl_of h81
                  refine ⟨_, rfl, fun K_ hK_ => wp_of_list rfl ?_⟩
                  intro ops_
                  refine p_run (l' := _) _ (x_assign (.bool true) rfl e81) rfl ?_
                  refine wpList_nil ?_
                  exact norm_put (hK_ (.bool true) _ ⟨qv_up hV (fun _ h => Option.some.inj h), hE⟩)
              intro bq_ vq_ w_ hall hG
              obtain ⟨hV, hE⟩ := hG
              clear HS
              have HS := hE
              have hv0 := hV 0 _ rfl (hall 0 (by decide))
              have hv1 := hV 1 _ rfl (hall 1 (by decide))
              have hv2 := hV 2 _ rfl (hall 2 (by decide))
              have hv3 := hV 3 _ rfl (hall 3 (by decide))
              have hv4 := hV 4 _ rfl (hall 4 (by decide))
              have hv5 := hV 5 _ rfl (hall 5 (by decide))
              have hv6 := hV 6 _ rfl (hall 6 (by decide))
              have hv7 := hV 7 _ rfl (hall 7 (by decide))
              have hv8 := hV 8 _ rfl (hall 8 (by decide))
              have hv9 := hV 9 _ rfl (hall 9 (by decide))
              have hv10 := hV 10 _ rfl (hall 10 (by decide))
              have hv11 := hV 11 _ rfl (hall 11 (by decide))
              have hv12 := hV 12 _ rfl (hall 12 (by decide))
              have hv13 := hV 13 _ rfl (hall 13 (by decide))
              have hv14 := hV 14 _ rfl (hall 14 (by decide))
              have hv15 := hV 15 _ rfl (hall 15 (by decide))
              have hv16 := hV 16 _ rfl (hall 16 (by decide))
              have hv17 := hV 17 _ rfl (hall 17 (by decide))
              have hv18 := hV 18 _ rfl (hall 18 (by decide))
              have hv19 := hV 19 _ rfl (hall 19 (by decide))
              have hv20 := hV 20 _ rfl (hall 20 (by decide))
              have hv21 := hV 21 _ rfl (hall 21 (by decide))
              have hv22 := hV 22 _ rfl (hall 22 (by decide))
              have hv23 := hV 23 _ rfl (hall 23 (by decide))
              have hv24 := hV 24 _ rfl (hall 24 (by decide))
              have hv25 := hV 25 _ rfl (hall 25 (by decide))
              have hv26 := hV 26 _ rfl (hall 26 (by decide))
              have hv27 := hV 27 _ rfl (hall 27 (by decide))
              have hv28 := hV 28 _ rfl (hall 28 (by decide))
              have hv29 := hV 29 _ rfl (hall 29 (by decide))
              have hv30 := hV 30 _ rfl (hall 30 (by decide))
              have hv31 := hV 31 _ rfl (hall 31 (by decide))
              have hv32 := hV 32 _ rfl (hall 32 (by decide))
              have hv33 := hV 33 _ rfl (hall 33 (by decide))
              have hv34 := hV 34 _ rfl (hall 34 (by decide))
              have hv35 := hV 35 _ rfl (hall 35 (by decide))
              clear hV hall
              rw [putSel_fr]
              simp only [tells, List.map_cons, List.map_nil, setAll, List.set_cons_succ, List.set_cons_zero, hv0, hv1, hv2, hv3, hv4, hv5, hv6, hv7, hv8, hv9, hv10, hv11, hv12, hv13, hv14, hv15, hv16, hv17, hv18, hv19, hv20, hv21, hv22, hv23, hv24, hv25, hv26, hv27, hv28, hv29, hv30, hv31, hv32, hv33, hv34, hv35]
              clear hv0 hv1 hv2 hv3 hv4 hv5 hv6 hv7 hv8 hv9 hv10 hv11 hv12 hv13 hv14 hv15 hv16 hv17 hv18 hv19 hv20 hv21 hv22 hv23 hv24 hv25 hv26 hv27 hv28 hv29 hv30 hv31 hv32 hv33 hv34 hv35
              generalize w_ = w902201 at HS ⊢
              refine fr_at (l' := [.slice A0 b.length c0, undef, .bool true, .pointer (some ⟨G22, 0, none⟩), .slice oa42 b.length nc43, u5, .slice A74 b.length c75, .int .i64 0, .slice A84 ((turnB b 0 (255 : UInt8)).length) c85, .int .i64 0, .bool true, .bool false, .slice A0 b.length c0, .int .i64 (b.length : Int), .bool false, .pointer (some ⟨G22, 0, none⟩), .pointer (some ⟨G22, 0, none⟩), .slice A0 b.length c0, .tuple [].toArray, .pointer (some ⟨G22, 0, none⟩), .int .i64 0, .pointer (some ⟨G22, 0, none⟩), .slice oa42 b.length nc43, .slice oa42 b.length nc43, .int .i64 (b.length : Int), .int .i64 (j : Int), .bool (decide ((j : Int) < (b.length : Int))), u27, u28, u29, u30, u31, u32, u33, u34, .pointer (some ⟨G22, 0, none⟩), .int .i64 0, .tuple [.slice A74 b.length c75, .int .i64 0].toArray, .pointer (some ⟨G22, 0, none⟩), .tuple [.slice A74 b.length c75, .int .i64 0].toArray, .slice A74 b.length c75, .int .i64 0, .tuple [.slice A84 ((turnB b 0 (255 : UInt8)).length) c85, .int .i64 0].toArray, .pointer (some ⟨G22, 0, none⟩), .tuple [.slice A84 ((turnB b 0 (255 : UInt8)).length) c85, .int .i64 0].toArray, .slice A84 ((turnB b 0 (255 : UInt8)).length) c85, .int .i64 0, .int .i64 0, .bool true, .bool true, .int .i64 0, .bool true, .bool true, .bool true, .slice A74 b.length c75, .string (strB b), .slice A0 b.length c0, .string (strB b), .bool true, .bool true, .bool true, .slice A84 ((turnB b 0 (255 : UInt8)).length) c85, .int .i64 ((turnB b 0 (255 : UInt8)).length : Int), .slice A0 b.length c0, .int .i64 (b.length : Int), .bool true, .bool true, .bool true, .slice A0 b.length c0, .int .i64 (b.length : Int), .bool true, .bool true, undef, undef, undef, undef, undef, undef, undef, undef, .bool true, .bool true]) rfl ?_
              refine hK89 _ _ ?_
              refine wp_ret ?_
              try simp only [Exit.inBlock, Exit.then]
              refine c_ret (.bool true) (r_tmp rfl rfl) ?_
              exact ⟨rfl, HS.belowOf⟩
        · skip
          have hne := hb0
          refine c_enter Try.func10 rfl 82 rfl [.slice A0 b.length c0, undef, undef, undef, undef, undef, undef, undef, undef, undef, undef, undef, undef, undef, undef, undef, undef, undef, undef, undef, undef, undef, undef, undef, undef, undef, undef, undef, undef, undef, undef, undef, undef, undef, undef, undef, undef, undef, undef, undef, undef, undef, undef, undef, undef, undef, undef, undef, undef, undef, undef, undef, undef, undef, undef, undef, undef, undef, undef, undef, undef, undef, undef, undef, undef, undef, undef, undef, undef, undef, undef, undef, undef, undef, undef, undef, undef, undef, undef, undef, undef, undef] rfl ?_
          refine wp_seq_k (fun K1 hK2 => ?_)
          refine c_region (fun ops4 hops3 => ?_)
          clear hops3
          refine p_run (l' := _) _ (x_assign (.bool false) rfl rfl) rfl ?_
          refine wpList_nil ?_
          refine fr_at (l' := [.slice A0 b.length c0, undef, .bool false, undef, undef, undef, undef, undef, undef, undef, undef, undef, undef, undef, undef, undef, undef, undef, undef, undef, undef, undef, undef, undef, undef, undef, undef, undef, undef, undef, undef, undef, undef, undef, undef, undef, undef, undef, undef, undef, undef, undef, undef, undef, undef, undef, undef, undef, undef, undef, undef, undef, undef, undef, undef, undef, undef, undef, undef, undef, undef, undef, undef, undef, undef, undef, undef, undef, undef, undef, undef, undef, undef, undef, undef, undef, undef, undef, undef, undef, undef, undef]) rfl ?_
          refine hK2 _ _ ?_
          refine wp_seq_k (fun K5 hK6 => ?_)
          refine wp_seq_k (fun K7 hK8 => ?_)
          refine c_region (fun ops10 hops9 => ?_)
          clear hops9
          refine w_call [] Try.func21 (by kernel_rfl) (by rfl) rfl ?_
          refine (nAlive_any HS).mono ?_
          clear HS
          rintro e w11 ⟨rfl, HS⟩
          refine ⟨_, rfl, ?_⟩
          refine p_run (l' := _) _ (x_not true rfl rfl) rfl ?_
          refine wpList_nil ?_
          refine fr_at (l' := [.slice A0 b.length c0, undef, .bool false, undef, undef, undef, undef, undef, undef, undef, .bool true, .bool false, undef, undef, undef, undef, undef, undef, undef, undef, undef, undef, undef, undef, undef, undef, undef, undef, undef, undef, undef, undef, undef, undef, undef, undef, undef, undef, undef, undef, undef, undef, undef, undef, undef, undef, undef, undef, undef, undef, undef, undef, undef, undef, undef, undef, undef, undef, undef, undef, undef, undef, undef, undef, undef, undef, undef, undef, undef, undef, undef, undef, undef, undef, undef, undef, undef, undef, undef, undef, undef, undef]) rfl ?_
          refine hK8 _ _ ?_
          refine c_false rfl ?_
          refine wp_skip ?_
          refine hK6 _ _ ?_
          refine wp_seq_k (fun K12 hK13 => ?_)
          refine wp_seq_k (fun K14 hK15 => ?_)
          refine c_region (fun ops17 hops16 => ?_)
          clear hops16
          refine p_run (l' := _) _ (x_move (.slice A0 b.length c0) rfl rfl) rfl ?_
          refine p_run (l' := _) _ (x_len rfl rfl Try.underlying24) rfl ?_
          refine p_run (l' := _) _ (x_cmp (k := .i64) (m := (b.length : Int)) (n := 300) .gtr false rfl rfl rfl h0d rfl) rfl ?_
          refine wpList_nil ?_
          refine fr_at (l' := [.slice A0 b.length c0, undef, .bool false, undef, undef, undef, undef, undef, undef, undef, .bool true, .bool false, .slice A0 b.length c0, .int .i64 (b.length : Int), .bool false, undef, undef, undef, undef, undef, undef, undef, undef, undef, undef, undef, undef, undef, undef, undef, undef, undef, undef, undef, undef, undef, undef, undef, undef, undef, undef, undef, undef, undef, undef, undef, undef, undef, undef, undef, undef, undef, undef, undef, undef, undef, undef, undef, undef, undef, undef, undef, undef, undef, undef, undef, undef, undef, undef, undef, undef, undef, undef, undef, undef, undef, undef, undef, undef, undef, undef, undef]) rfl ?_
          refine hK15 _ _ ?_
          refine c_false rfl ?_
          refine wp_skip ?_
          refine hK13 _ _ ?_
          refine wp_seq_k (fun K18 hK19 => ?_)
          refine c_region (fun ops21 hops20 => ?_)
          clear hops20
          refine w_call [] Try.func22 (by kernel_rfl) (by rfl) rfl ?_
          refine (nNew_any HS).mono ?_
          clear HS
          rintro e w23 ⟨G22, rfl, HS⟩
          refine ⟨_, rfl, ?_⟩
          refine p_run (l' := _) _ (x_assign (.pointer (some ⟨G22, 0, none⟩)) rfl rfl) rfl ?_
          refine wpList_nil ?_
          refine fr_at (l' := [.slice A0 b.length c0, undef, .bool false, .pointer (some ⟨G22, 0, none⟩), undef, undef, undef, undef, undef, undef, .bool true, .bool false, .slice A0 b.length c0, .int .i64 (b.length : Int), .bool false, .pointer (some ⟨G22, 0, none⟩), undef, undef, undef, undef, undef, undef, undef, undef, undef, undef, undef, undef, undef, undef, undef, undef, undef, undef, undef, undef, undef, undef, undef, undef, undef, undef, undef, undef, undef, undef, undef, undef, undef, undef, undef, undef, undef, undef, undef, undef, undef, undef, undef, undef, undef, undef, undef, undef, undef, undef, undef, undef, undef, undef, undef, undef, undef, undef, undef, undef, undef, undef, undef, undef, undef, undef]) rfl ?_
          refine hK19 _ _ ?_
          refine wp_seq_k (fun K24 hK25 => ?_)
          refine c_region (fun ops27 hops26 => ?_)
          clear hops26
          refine p_run (l' := _) _ (x_move (.pointer (some ⟨G22, 0, none⟩)) rfl rfl) rfl ?_
          refine p_run (l' := _) _ (x_move (.slice A0 b.length c0) rfl rfl) rfl ?_
          refine w_call [.pointer (some ⟨G22, 0, none⟩), .int .i64 0, .slice A0 b.length c0] Try.func23 (by kernel_rfl) (by rfl) rfl ?_
          replace HS := (((HS.front 2 rfl).front 2 rfl).front 2 rfl)
          refine (nSend_any HS 0 (xs := b) (fun w hw => hs0.below hw.belowOf) (by omega) (by simp)).mono ?_
          clear HS
          rintro e w30 ⟨v28, v29, rfl, HS⟩
          rw [send_nil 0 (by decide)] at HS
          refine ⟨_, rfl, ?_⟩
          refine wpList_nil ?_
          refine fr_at (l' := [.slice A0 b.length c0, undef, .bool false, .pointer (some ⟨G22, 0, none⟩), undef, undef, undef, undef, undef, undef, .bool true, .bool false, .slice A0 b.length c0, .int .i64 (b.length : Int), .bool false, .pointer (some ⟨G22, 0, none⟩), .pointer (some ⟨G22, 0, none⟩), .slice A0 b.length c0, .tuple [].toArray, undef, undef, undef, undef, undef, undef, undef, undef, undef, undef, undef, undef, undef, undef, undef, undef, undef, undef, undef, undef, undef, undef, undef, undef, undef, undef, undef, undef, undef, undef, undef, undef, undef, undef, undef, undef, undef, undef, undef, undef, undef, undef, undef, undef, undef, undef, undef, undef, undef, undef, undef, undef, undef, undef, undef, undef, undef, undef, undef, undef, undef, undef, undef]) rfl ?_
          refine hK25 _ _ ?_
          refine wp_seq_k (fun K31 hK32 => ?_)
          refine c_region (fun ops34 hops33 => ?_)
          clear hops33
          refine p_run (l' := _) _ (x_move (.pointer (some ⟨G22, 0, none⟩)) rfl rfl) rfl ?_
          refine w_call [.pointer (some ⟨G22, 0, none⟩), .int .i64 0] Try.func27 (by kernel_rfl) (by rfl) rfl ?_
          replace HS := (((HS.front 2 rfl).front 2 rfl).front 2 rfl)
          refine (nTwice_yes (i := 0) HS (show ([(0, v29, b)] : List Fr_)[0]? = some (0, v29, b) from rfl) (by simp) (by omega)).mono ?_
          clear HS
          rintro e w37 ⟨v35, v36, rfl, HS⟩
          rw [send_one 0 (by decide)] at HS
          refine ⟨_, rfl, ?_⟩
          refine wpList_nil ?_
          refine fr_at (l' := [.slice A0 b.length c0, undef, .bool false, .pointer (some ⟨G22, 0, none⟩), undef, undef, undef, undef, undef, undef, .bool true, .bool false, .slice A0 b.length c0, .int .i64 (b.length : Int), .bool false, .pointer (some ⟨G22, 0, none⟩), .pointer (some ⟨G22, 0, none⟩), .slice A0 b.length c0, .tuple [].toArray, .pointer (some ⟨G22, 0, none⟩), .int .i64 0, undef, undef, undef, undef, undef, undef, undef, undef, undef, undef, undef, undef, undef, undef, undef, undef, undef, undef, undef, undef, undef, undef, undef, undef, undef, undef, undef, undef, undef, undef, undef, undef, undef, undef, undef, undef, undef, undef, undef, undef, undef, undef, undef, undef, undef, undef, undef, undef, undef, undef, undef, undef, undef, undef, undef, undef, undef, undef, undef, undef, undef]) rfl ?_
          refine hK32 _ _ ?_
          refine wp_seq_k (fun K38 hK39 => ?_)
          refine c_region (fun ops41 hops40 => ?_)
          clear hops40
          refine p_run (l' := _) _ (x_move (.pointer (some ⟨G22, 0, none⟩)) rfl rfl) rfl ?_
          refine w_call [.pointer (some ⟨G22, 0, none⟩), .int .i64 0] Try.func28 (by kernel_rfl) (by rfl) rfl ?_
          replace HS := (((HS.front 2 rfl).front 2 rfl).front 2 rfl)
          refine (nPeek_yes (i := 0) HS (show ([(0, v29, b), (0, v36, b)] : List Fr_)[0]? = some (0, v29, b) from rfl) (by simp) (by omega)).mono ?_
          clear HS
          rintro e w44 ⟨oa42, nc43, rfl, HS⟩
          obtain ⟨gp, cp, spp, hvp, hbp⟩ := row_bytes (HS.get (.head _)) hne
          injection hvp with hv1 hv2 hv3
          subst hv1 hv3
          replace HS := HS.alter hbp (fun b' h => (congrArg some (show b' = gp from h)).symm)
          refine ⟨_, rfl, ?_⟩
          refine p_run (l' := _) _ (x_assign (.slice (some ⟨gp, 0, none⟩) b.length nc43) rfl rfl) rfl ?_
          refine wpList_nil ?_
          refine fr_at (l' := [.slice A0 b.length c0, undef, .bool false, .pointer (some ⟨G22, 0, none⟩), .slice (some ⟨gp, 0, none⟩) b.length nc43, undef, undef, undef, undef, undef, .bool true, .bool false, .slice A0 b.length c0, .int .i64 (b.length : Int), .bool false, .pointer (some ⟨G22, 0, none⟩), .pointer (some ⟨G22, 0, none⟩), .slice A0 b.length c0, .tuple [].toArray, .pointer (some ⟨G22, 0, none⟩), .int .i64 0, .pointer (some ⟨G22, 0, none⟩), .slice (some ⟨gp, 0, none⟩) b.length nc43, undef, undef, undef, undef, undef, undef, undef, undef, undef, undef, undef, undef, undef, undef, undef, undef, undef, undef, undef, undef, undef, undef, undef, undef, undef, undef, undef, undef, undef, undef, undef, undef, undef, undef, undef, undef, undef, undef, undef, undef, undef, undef, undef, undef, undef, undef, undef, undef, undef, undef, undef, undef, undef, undef, undef, undef, undef, undef, undef]) rfl ?_
          refine hK39 _ _ ?_
          refine wp_seq_k (fun K45 hK46 => ?_)
          refine wp_seq_k (fun K47 hK48 => ?_)
          refine c_region (fun ops50 hops49 => ?_)
          clear hops49
          refine p_run (l' := _) _ (x_move (.slice (some ⟨gp, 0, none⟩) b.length nc43) rfl rfl) rfl ?_
          refine p_run (l' := _) _ (x_len rfl rfl Try.underlying24) rfl ?_
          refine p_run (l' := _) _ (x_move (.int .i64 0) rfl rfl) rfl ?_
          refine wpList_nil ?_
          refine fr_at (l' := [.slice A0 b.length c0, undef, .bool false, .pointer (some ⟨G22, 0, none⟩), .slice (some ⟨gp, 0, none⟩) b.length nc43, undef, undef, undef, undef, undef, .bool true, .bool false, .slice A0 b.length c0, .int .i64 (b.length : Int), .bool false, .pointer (some ⟨G22, 0, none⟩), .pointer (some ⟨G22, 0, none⟩), .slice A0 b.length c0, .tuple [].toArray, .pointer (some ⟨G22, 0, none⟩), .int .i64 0, .pointer (some ⟨G22, 0, none⟩), .slice (some ⟨gp, 0, none⟩) b.length nc43, .slice (some ⟨gp, 0, none⟩) b.length nc43, .int .i64 (b.length : Int), .int .i64 0, undef, undef, undef, undef, undef, undef, undef, undef, undef, undef, undef, undef, undef, undef, undef, undef, undef, undef, undef, undef, undef, undef, undef, undef, undef, undef, undef, undef, undef, undef, undef, undef, undef, undef, undef, undef, undef, undef, undef, undef, undef, undef, undef, undef, undef, undef, undef, undef, undef, undef, undef, undef, undef, undef, undef, undef]) rfl ?_
          refine hK48 _ _ ?_
          refine wp_block ?_
          refine c_loop (ι := Nat × List Int) (fun i_ a_ w_ => match i_ with | (j, ys) => ∃ (u5 : Value) (u26 : Value) (u27 : Value) (u28 : Value) (u29 : Value) (u30 : Value) (u31 : Value) (u32 : Value) (u33 : Value) (u34 : Value), a_ = fr [.slice A0 b.length c0, undef, .bool false, .pointer (some ⟨G22, 0, none⟩), .slice (some ⟨gp, 0, none⟩) b.length nc43, u5, undef, undef, undef, undef, .bool true, .bool false, .slice A0 b.length c0, .int .i64 (b.length : Int), .bool false, .pointer (some ⟨G22, 0, none⟩), .pointer (some ⟨G22, 0, none⟩), .slice A0 b.length c0, .tuple [].toArray, .pointer (some ⟨G22, 0, none⟩), .int .i64 0, .pointer (some ⟨G22, 0, none⟩), .slice (some ⟨gp, 0, none⟩) b.length nc43, .slice (some ⟨gp, 0, none⟩) b.length nc43, .int .i64 (b.length : Int), .int .i64 (j : Int), u26, u27, u28, u29, u30, u31, u32, u33, u34, undef, undef, undef, undef, undef, undef, undef, undef, undef, undef, undef, undef, undef, undef, undef, undef, undef, undef, undef, undef, undef, undef, undef, undef, undef, undef, undef, undef, undef, undef, undef, undef, undef, undef, undef, undef, undef, undef, undef, undef, undef, undef, undef, undef, undef, undef, undef] ∧ St w (fun _ => False) w_ ([blk gp ((nums .u8 ys ++ spp)) 5, blk G22 [v35] 72, row kPk rfl 75 v35 (pk [(0, v29, b), (0, v36, b)]), allR (frs [(0, v29, b), (0, v36, b)])]) ∧ (ys.length = b.length)) (fun i_ => match i_ with | (j, ys) => b.length - j) (0, b.map bv) ?_ ?_
          · exact ⟨_, _, _, _, _, _, _, _, _, _, rfl, ((((HS.front 3 rfl).front 3 rfl).front 3 rfl).front 3 rfl), (List.length_map _)⟩
          · clear HS
            rintro ⟨j, ys⟩ a_ w53 ⟨u5, u26, u27, u28, u29, u30, u31, u32, u33, u34, rfl, HS, hI⟩ J51 hJ52
            have hys := hI
            refine wp_seq_k (fun K54 hK55 => ?_)
            refine c_region (fun ops57 hops56 => ?_)
            clear hops56
            refine p_run (l' := _) _ (x_cmp (k := .i64) (m := (j : Int)) (n := (b.length : Int)) .lss (decide ((j : Int) < (b.length : Int))) rfl rfl rfl rfl rfl) rfl ?_
            refine wpList_nil ?_
            refine fr_at (l' := [.slice A0 b.length c0, undef, .bool false, .pointer (some ⟨G22, 0, none⟩), .slice (some ⟨gp, 0, none⟩) b.length nc43, u5, undef, undef, undef, undef, .bool true, .bool false, .slice A0 b.length c0, .int .i64 (b.length : Int), .bool false, .pointer (some ⟨G22, 0, none⟩), .pointer (some ⟨G22, 0, none⟩), .slice A0 b.length c0, .tuple [].toArray, .pointer (some ⟨G22, 0, none⟩), .int .i64 0, .pointer (some ⟨G22, 0, none⟩), .slice (some ⟨gp, 0, none⟩) b.length nc43, .slice (some ⟨gp, 0, none⟩) b.length nc43, .int .i64 (b.length : Int), .int .i64 (j : Int), .bool (decide ((j : Int) < (b.length : Int))), u27, u28, u29, u30, u31, u32, u33, u34, undef, undef, undef, undef, undef, undef, undef, undef, undef, undef, undef, undef, undef, undef, undef, undef, undef, undef, undef, undef, undef, undef, undef, undef, undef, undef, undef, undef, undef, undef, undef, undef, undef, undef, undef, undef, undef, undef, undef, undef, undef, undef, undef, undef, undef, undef, undef]) rfl ?_
            refine hK55 _ _ ?_
            refine wp_seq_k (fun K58 hK59 => ?_)
            refine c_cond (t := decide ((j : Int) < (b.length : Int))) rfl (fun hc60 => ?_) (fun hc60 => ?_)
            · have hlt : j < b.length := by have := of_decide_eq_true hc60; omega
              refine wp_skip ?_
              refine hK59 _ _ ?_
              refine wp_seq_k (fun K61 hK62 => ?_)
              refine wp_block ?_
              refine wp_seq_k (fun K63 hK64 => ?_)
              refine c_region (fun ops66 hops65 => ?_)
              clear hops65
              refine p_run (l' := _) _ (x_move (.int .i64 (j : Int)) rfl rfl) rfl ?_
              refine p_run (l' := _) _ (x_assign (.int .i64 (j : Int)) rfl rfl) rfl ?_
              refine wpList_nil ?_
              refine fr_at (l' := [.slice A0 b.length c0, undef, .bool false, .pointer (some ⟨G22, 0, none⟩), .slice (some ⟨gp, 0, none⟩) b.length nc43, .int .i64 (j : Int), undef, undef, undef, undef, .bool true, .bool false, .slice A0 b.length c0, .int .i64 (b.length : Int), .bool false, .pointer (some ⟨G22, 0, none⟩), .pointer (some ⟨G22, 0, none⟩), .slice A0 b.length c0, .tuple [].toArray, .pointer (some ⟨G22, 0, none⟩), .int .i64 0, .pointer (some ⟨G22, 0, none⟩), .slice (some ⟨gp, 0, none⟩) b.length nc43, .slice (some ⟨gp, 0, none⟩) b.length nc43, .int .i64 (b.length : Int), .int .i64 (j : Int), .bool (decide ((j : Int) < (b.length : Int))), .int .i64 (j : Int), u28, u29, u30, u31, u32, u33, u34, undef, undef, undef, undef, undef, undef, undef, undef, undef, undef, undef, undef, undef, undef, undef, undef, undef, undef, undef, undef, undef, undef, undef, undef, undef, undef, undef, undef, undef, undef, undef, undef, undef, undef, undef, undef, undef, undef, undef, undef, undef, undef, undef, undef, undef, undef, undef]) rfl ?_
              refine hK64 _ _ ?_
              refine c_region (fun ops68 hops67 => ?_)
              clear hops67
              refine p_run (l' := _) _ (x_move (.slice (some ⟨gp, 0, none⟩) b.length nc43) rfl rfl) rfl ?_
              refine p_run (l' := _) _ (x_move (.int .i64 (j : Int)) rfl rfl) rfl ?_
              refine p_run (l' := _) (.pointer (some ⟨gp, j * 1, none⟩)) ((x_index (A := ⟨gp, 0, none⟩) (j := j * 1) (sz := 1) rfl rfl rfl Try.underlying24 (by kernel_rfl) (by omega) rfl).trans (by rw [add_mk, Nat.zero_add])) rfl ?_
              refine p_run (l' := [.slice A0 b.length c0, undef, .bool false, .pointer (some ⟨G22, 0, none⟩), .slice (some ⟨gp, 0, none⟩) b.length nc43, .int .i64 (j : Int), undef, undef, undef, undef, .bool true, .bool false, .slice A0 b.length c0, .int .i64 (b.length : Int), .bool false, .pointer (some ⟨G22, 0, none⟩), .pointer (some ⟨G22, 0, none⟩), .slice A0 b.length c0, .tuple [].toArray, .pointer (some ⟨G22, 0, none⟩), .int .i64 0, .pointer (some ⟨G22, 0, none⟩), .slice (some ⟨gp, 0, none⟩) b.length nc43, .slice (some ⟨gp, 0, none⟩) b.length nc43, .int .i64 (b.length : Int), .int .i64 (j : Int), .bool (decide ((j : Int) < (b.length : Int))), .int .i64 (j : Int), .slice (some ⟨gp, 0, none⟩) b.length nc43, .int .i64 (j : Int), .pointer (some ⟨gp, j * 1, none⟩), .int .u8 (ys.getD j 0), u32, u33, u34, undef, undef, undef, undef, undef, undef, undef, undef, undef, undef, undef, undef, undef, undef, undef, undef, undef, undef, undef, undef, undef, undef, undef, undef, undef, undef, undef, undef, undef, undef, undef, undef, undef, undef, undef, undef, undef, undef, undef, undef, undef, undef, undef, undef, undef, undef, undef]) _ (x_load (.int .u8 (ys.getD j 0)) rfl rfl (bkCell (HS.get (.head _)) (j * 1) _ ((congrArg (fun m => (nums .u8 ys ++ spp)[m]?) (Nat.mul_one j)).trans (by_get (by omega)))) (by rfl)) rfl ?_
              refine p_run (l' := _) _ (x_arith (k := .u8) (m := (ys.getD j 0)) (n := 1) .add (IntKind.u8.wrap ((ys.getD j 0) + 1)) rfl rfl rfl rfl rfl) rfl ?_
              refine p_run (l' := _) (.pointer (some ⟨gp, j * 1, none⟩)) ((x_index (A := ⟨gp, 0, none⟩) (j := j * 1) (sz := 1) rfl rfl rfl Try.underlying24 (by kernel_rfl) (by omega) rfl).trans (by rw [add_mk, Nat.zero_add])) rfl ?_
              refine St.store (cs' := (nums .u8 (ys.set j (IntKind.u8.wrap ((ys.getD j 0) + 1))) ++ spp)) HS (.int .u8 (IntKind.u8.wrap ((ys.getD j 0) + 1))) rfl rfl rfl (by kernel_rfl) (decide_eq_true (by rw [List.length_append, nums_length]; omega)) ((congrArg (fun m => (nums .u8 ys ++ spp).set m _) (Nat.mul_one j)).trans (by_set (by omega) _)) ?_
              clear HS
              intro w69 HS
              refine wpList_nil ?_
              refine fr_at (l' := [.slice A0 b.length c0, undef, .bool false, .pointer (some ⟨G22, 0, none⟩), .slice (some ⟨gp, 0, none⟩) b.length nc43, .int .i64 (j : Int), undef, undef, undef, undef, .bool true, .bool false, .slice A0 b.length c0, .int .i64 (b.length : Int), .bool false, .pointer (some ⟨G22, 0, none⟩), .pointer (some ⟨G22, 0, none⟩), .slice A0 b.length c0, .tuple [].toArray, .pointer (some ⟨G22, 0, none⟩), .int .i64 0, .pointer (some ⟨G22, 0, none⟩), .slice (some ⟨gp, 0, none⟩) b.length nc43, .slice (some ⟨gp, 0, none⟩) b.length nc43, .int .i64 (b.length : Int), .int .i64 (j : Int), .bool (decide ((j : Int) < (b.length : Int))), .int .i64 (j : Int), .slice (some ⟨gp, 0, none⟩) b.length nc43, .int .i64 (j : Int), .pointer (some ⟨gp, j * 1, none⟩), .int .u8 (ys.getD j 0), .int .u8 (IntKind.u8.wrap ((ys.getD j 0) + 1)), .pointer (some ⟨gp, j * 1, none⟩), u34, undef, undef, undef, undef, undef, undef, undef, undef, undef, undef, undef, undef, undef, undef, undef, undef, undef, undef, undef, undef, undef, undef, undef, undef, undef, undef, undef, undef, undef, undef, undef, undef, undef, undef, undef, undef, undef, undef, undef, undef, undef, undef, undef, undef, undef, undef, undef]) rfl ?_
              refine hK62 _ _ ?_
              refine c_region (fun ops71 hops70 => ?_)
              clear hops70
              refine p_run (l' := _) _ (x_arith (k := .i64) (m := (j : Int)) (n := 1) .add (((j + 1 : Nat) : Int)) rfl rfl rfl (show IntKind.i64.wrap ((j : Int) + 1) = ((j + 1 : Nat) : Int) from ((wr64 (by omega)).trans (by omega))) rfl) rfl ?_
              refine p_run (l' := _) _ (x_move (.int .i64 ((j + 1 : Nat) : Int)) rfl rfl) rfl ?_
              refine wpList_nil ?_
              refine fr_at (l' := [.slice A0 b.length c0, undef, .bool false, .pointer (some ⟨G22, 0, none⟩), .slice (some ⟨gp, 0, none⟩) b.length nc43, .int .i64 (j : Int), undef, undef, undef, undef, .bool true, .bool false, .slice A0 b.length c0, .int .i64 (b.length : Int), .bool false, .pointer (some ⟨G22, 0, none⟩), .pointer (some ⟨G22, 0, none⟩), .slice A0 b.length c0, .tuple [].toArray, .pointer (some ⟨G22, 0, none⟩), .int .i64 0, .pointer (some ⟨G22, 0, none⟩), .slice (some ⟨gp, 0, none⟩) b.length nc43, .slice (some ⟨gp, 0, none⟩) b.length nc43, .int .i64 (b.length : Int), .int .i64 ((j + 1 : Nat) : Int), .bool (decide ((j : Int) < (b.length : Int))), .int .i64 (j : Int), .slice (some ⟨gp, 0, none⟩) b.length nc43, .int .i64 (j : Int), .pointer (some ⟨gp, j * 1, none⟩), .int .u8 (ys.getD j 0), .int .u8 (IntKind.u8.wrap ((ys.getD j 0) + 1)), .pointer (some ⟨gp, j * 1, none⟩), .int .i64 ((j + 1 : Nat) : Int), undef, undef, undef, undef, undef, undef, undef, undef, undef, undef, undef, undef, undef, undef, undef, undef, undef, undef, undef, undef, undef, undef, undef, undef, undef, undef, undef, undef, undef, undef, undef, undef, undef, undef, undef, undef, undef, undef, undef, undef, undef, undef, undef, undef, undef, undef, undef]) rfl ?_
              refine hJ52 (j + 1, (ys.set j (IntKind.u8.wrap ((ys.getD j 0) + 1)))) _ _ ?_ ?_
              · show b.length - (j + 1) < b.length - j; omega
              · exact ⟨_, _, _, _, _, _, _, _, _, _, rfl, ((((HS.front 3 rfl).front 3 rfl).front 3 rfl).front 3 rfl), (by rw [List.length_set]; exact hys)⟩
            · skip
              refine wp_exit ?_
              refine hK46 _ _ ?_
              refine wp_seq_k (fun K72 hK73 => ?_)
              refine c_region (fun ops75 hops74 => ?_)
              clear hops74
              refine p_run (l' := _) _ (x_move (.pointer (some ⟨G22, 0, none⟩)) rfl rfl) rfl ?_
              refine w_call [.pointer (some ⟨G22, 0, none⟩), .int .i64 1, .int .i64 0, .int .u8 255] Try.func29 (by kernel_rfl) (by rfl) rfl ?_
              replace HS := (((HS.front 3 rfl).front 3 rfl).front 3 rfl)
              refine (nTurn_yes (i := 1) HS (show ([(0, v29, b), (0, v36, b)] : List Fr_)[1]? = some (0, v36, b) from rfl) (by simp) (by omega) 0 (255 : UInt8)).mono ?_
              clear HS
              rintro e w78 ⟨v76, v77, rfl, HS⟩
              rw [two_set] at HS
              refine ⟨_, rfl, ?_⟩
              refine wpList_nil ?_
              refine fr_at (l' := [.slice A0 b.length c0, undef, .bool false, .pointer (some ⟨G22, 0, none⟩), .slice (some ⟨gp, 0, none⟩) b.length nc43, u5, undef, undef, undef, undef, .bool true, .bool false, .slice A0 b.length c0, .int .i64 (b.length : Int), .bool false, .pointer (some ⟨G22, 0, none⟩), .pointer (some ⟨G22, 0, none⟩), .slice A0 b.length c0, .tuple [].toArray, .pointer (some ⟨G22, 0, none⟩), .int .i64 0, .pointer (some ⟨G22, 0, none⟩), .slice (some ⟨gp, 0, none⟩) b.length nc43, .slice (some ⟨gp, 0, none⟩) b.length nc43, .int .i64 (b.length : Int), .int .i64 (j : Int), .bool (decide ((j : Int) < (b.length : Int))), u27, u28, u29, u30, u31, u32, u33, u34, .pointer (some ⟨G22, 0, none⟩), .int .i64 0, undef, undef, undef, undef, undef, undef, undef, undef, undef, undef, undef, undef, undef, undef, undef, undef, undef, undef, undef, undef, undef, undef, undef, undef, undef, undef, undef, undef, undef, undef, undef, undef, undef, undef, undef, undef, undef, undef, undef, undef, undef, undef, undef, undef, undef]) rfl ?_
              refine hK73 _ _ ?_
              refine wp_seq_k (fun K79 hK80 => ?_)
              refine c_region (fun ops82 hops81 => ?_)
              clear hops81
              refine p_run (l' := _) _ (x_move (.pointer (some ⟨G22, 0, none⟩)) rfl rfl) rfl ?_
              refine w_call [.pointer (some ⟨G22, 0, none⟩), .int .i64 0] Try.func24 (by kernel_rfl) (by rfl) rfl ?_
              replace HS := (((HS.front 2 rfl).front 2 rfl).front 2 rfl)
              refine (nTake_yes (i := 0) HS (show ([(0, v29, b), (0, v77, turnB b 0 (255 : UInt8))] : List Fr_)[0]? = some (0, v29, b) from rfl) (by simp)).mono ?_
              clear HS
              rintro e w84 ⟨v83, rfl, HS⟩
              rw [show ([(0, v29, b), (0, v77, turnB b 0 (255 : UInt8))] : List Fr_).eraseIdx 0 = [(0, v77, turnB b 0 (255 : UInt8))] from rfl] at HS
              obtain ⟨A85, c86, hv87, hcp88, -⟩ := row_reads (HS.get (.head _))
              subst hv87
              refine ⟨_, rfl, ?_⟩
              refine p_run (l' := _) _ (x_move (.tuple [.slice A85 b.length c86, .int .i64 0].toArray) rfl rfl) rfl ?_
              refine p_run (l' := [.slice A0 b.length c0, undef, .bool false, .pointer (some ⟨G22, 0, none⟩), .slice (some ⟨gp, 0, none⟩) b.length nc43, u5, undef, undef, undef, undef, .bool true, .bool false, .slice A0 b.length c0, .int .i64 (b.length : Int), .bool false, .pointer (some ⟨G22, 0, none⟩), .pointer (some ⟨G22, 0, none⟩), .slice A0 b.length c0, .tuple [].toArray, .pointer (some ⟨G22, 0, none⟩), .int .i64 0, .pointer (some ⟨G22, 0, none⟩), .slice (some ⟨gp, 0, none⟩) b.length nc43, .slice (some ⟨gp, 0, none⟩) b.length nc43, .int .i64 (b.length : Int), .int .i64 (j : Int), .bool (decide ((j : Int) < (b.length : Int))), u27, u28, u29, u30, u31, u32, u33, u34, .pointer (some ⟨G22, 0, none⟩), .int .i64 0, .tuple [.slice A85 b.length c86, .int .i64 0].toArray, .pointer (some ⟨G22, 0, none⟩), .tuple [.slice A85 b.length c86, .int .i64 0].toArray, .slice A85 b.length c86, undef, undef, undef, undef, undef, undef, undef, undef, undef, undef, undef, undef, undef, undef, undef, undef, undef, undef, undef, undef, undef, undef, undef, undef, undef, undef, undef, undef, undef, undef, undef, undef, undef, undef, undef, undef, undef, undef, undef, undef, undef]) _ (x_extract (vs := [.slice A85 b.length c86, .int .i64 0]) 0 (.slice A85 b.length c86) rfl rfl rfl) rfl ?_
              refine p_run (l' := _) _ (x_extract (vs := [.slice A85 b.length c86, .int .i64 0]) 1 (.int .i64 0) rfl rfl rfl) rfl ?_
              refine p_run (l' := _) _ (x_assign (.slice A85 b.length c86) rfl rfl) rfl ?_
              refine p_run (l' := _) _ (x_assign (.int .i64 0) rfl rfl) rfl ?_
              refine wpList_nil ?_
              refine fr_at (l' := [.slice A0 b.length c0, undef, .bool false, .pointer (some ⟨G22, 0, none⟩), .slice (some ⟨gp, 0, none⟩) b.length nc43, u5, .slice A85 b.length c86, .int .i64 0, undef, undef, .bool true, .bool false, .slice A0 b.length c0, .int .i64 (b.length : Int), .bool false, .pointer (some ⟨G22, 0, none⟩), .pointer (some ⟨G22, 0, none⟩), .slice A0 b.length c0, .tuple [].toArray, .pointer (some ⟨G22, 0, none⟩), .int .i64 0, .pointer (some ⟨G22, 0, none⟩), .slice (some ⟨gp, 0, none⟩) b.length nc43, .slice (some ⟨gp, 0, none⟩) b.length nc43, .int .i64 (b.length : Int), .int .i64 (j : Int), .bool (decide ((j : Int) < (b.length : Int))), u27, u28, u29, u30, u31, u32, u33, u34, .pointer (some ⟨G22, 0, none⟩), .int .i64 0, .tuple [.slice A85 b.length c86, .int .i64 0].toArray, .pointer (some ⟨G22, 0, none⟩), .tuple [.slice A85 b.length c86, .int .i64 0].toArray, .slice A85 b.length c86, .int .i64 0, undef, undef, undef, undef, undef, undef, undef, undef, undef, undef, undef, undef, undef, undef, undef, undef, undef, undef, undef, undef, undef, undef, undef, undef, undef, undef, undef, undef, undef, undef, undef, undef, undef, undef, undef, undef, undef, undef, undef, undef]) rfl ?_
              refine hK80 _ _ ?_
              refine wp_seq_k (fun K89 hK90 => ?_)
              refine c_region (fun ops92 hops91 => ?_)
              clear hops91
              refine p_run (l' := _) _ (x_move (.pointer (some ⟨G22, 0, none⟩)) rfl rfl) rfl ?_
              refine w_call [.pointer (some ⟨G22, 0, none⟩), .int .i64 0] Try.func24 (by kernel_rfl) (by rfl) rfl ?_
              replace HS := (((HS.front 3 rfl).front 3 rfl).front 3 rfl)
              refine (nTake_yes (i := 0) HS (show ([(0, v77, turnB b 0 (255 : UInt8))] : List Fr_)[0]? = some (0, v77, turnB b 0 (255 : UInt8)) from rfl) (by simp)).mono ?_
              clear HS
              rintro e w94 ⟨v93, rfl, HS⟩
              rw [show ([(0, v77, turnB b 0 (255 : UInt8))] : List Fr_).eraseIdx 0 = [] from rfl] at HS
              obtain ⟨A95, c96, hv97, hcp98, -⟩ := row_reads (HS.get (.head _))
              subst hv97
              refine ⟨_, rfl, ?_⟩
              refine p_run (l' := _) _ (x_move (.tuple [.slice A95 ((turnB b 0 (255 : UInt8)).length) c96, .int .i64 0].toArray) rfl rfl) rfl ?_
              refine p_run (l' := [.slice A0 b.length c0, undef, .bool false, .pointer (some ⟨G22, 0, none⟩), .slice (some ⟨gp, 0, none⟩) b.length nc43, u5, .slice A85 b.length c86, .int .i64 0, undef, undef, .bool true, .bool false, .slice A0 b.length c0, .int .i64 (b.length : Int), .bool false, .pointer (some ⟨G22, 0, none⟩), .pointer (some ⟨G22, 0, none⟩), .slice A0 b.length c0, .tuple [].toArray, .pointer (some ⟨G22, 0, none⟩), .int .i64 0, .pointer (some ⟨G22, 0, none⟩), .slice (some ⟨gp, 0, none⟩) b.length nc43, .slice (some ⟨gp, 0, none⟩) b.length nc43, .int .i64 (b.length : Int), .int .i64 (j : Int), .bool (decide ((j : Int) < (b.length : Int))), u27, u28, u29, u30, u31, u32, u33, u34, .pointer (some ⟨G22, 0, none⟩), .int .i64 0, .tuple [.slice A85 b.length c86, .int .i64 0].toArray, .pointer (some ⟨G22, 0, none⟩), .tuple [.slice A85 b.length c86, .int .i64 0].toArray, .slice A85 b.length c86, .int .i64 0, .tuple [.slice A95 ((turnB b 0 (255 : UInt8)).length) c96, .int .i64 0].toArray, .pointer (some ⟨G22, 0, none⟩), .tuple [.slice A95 ((turnB b 0 (255 : UInt8)).length) c96, .int .i64 0].toArray, .slice A95 ((turnB b 0 (255 : UInt8)).length) c96, undef, undef, undef, undef, undef, undef, undef, undef, undef, undef, undef, undef, undef, undef, undef, undef, undef, undef, undef, undef, undef, undef, undef, undef, undef, undef, undef, undef, undef, undef, undef, undef, undef, undef, undef, undef]) _ (x_extract (vs := [.slice A95 ((turnB b 0 (255 : UInt8)).length) c96, .int .i64 0]) 0 (.slice A95 ((turnB b 0 (255 : UInt8)).length) c96) rfl rfl rfl) rfl ?_
              refine p_run (l' := _) _ (x_extract (vs := [.slice A95 ((turnB b 0 (255 : UInt8)).length) c96, .int .i64 0]) 1 (.int .i64 0) rfl rfl rfl) rfl ?_
              refine p_run (l' := _) _ (x_assign (.slice A95 ((turnB b 0 (255 : UInt8)).length) c96) rfl rfl) rfl ?_
              refine p_run (l' := _) _ (x_assign (.int .i64 0) rfl rfl) rfl ?_
              refine wpList_nil ?_
              refine fr_at (l' := [.slice A0 b.length c0, undef, .bool false, .pointer (some ⟨G22, 0, none⟩), .slice (some ⟨gp, 0, none⟩) b.length nc43, u5, .slice A85 b.length c86, .int .i64 0, .slice A95 ((turnB b 0 (255 : UInt8)).length) c96, .int .i64 0, .bool true, .bool false, .slice A0 b.length c0, .int .i64 (b.length : Int), .bool false, .pointer (some ⟨G22, 0, none⟩), .pointer (some ⟨G22, 0, none⟩), .slice A0 b.length c0, .tuple [].toArray, .pointer (some ⟨G22, 0, none⟩), .int .i64 0, .pointer (some ⟨G22, 0, none⟩), .slice (some ⟨gp, 0, none⟩) b.length nc43, .slice (some ⟨gp, 0, none⟩) b.length nc43, .int .i64 (b.length : Int), .int .i64 (j : Int), .bool (decide ((j : Int) < (b.length : Int))), u27, u28, u29, u30, u31, u32, u33, u34, .pointer (some ⟨G22, 0, none⟩), .int .i64 0, .tuple [.slice A85 b.length c86, .int .i64 0].toArray, .pointer (some ⟨G22, 0, none⟩), .tuple [.slice A85 b.length c86, .int .i64 0].toArray, .slice A85 b.length c86, .int .i64 0, .tuple [.slice A95 ((turnB b 0 (255 : UInt8)).length) c96, .int .i64 0].toArray, .pointer (some ⟨G22, 0, none⟩), .tuple [.slice A95 ((turnB b 0 (255 : UInt8)).length) c96, .int .i64 0].toArray, .slice A95 ((turnB b 0 (255 : UInt8)).length) c96, .int .i64 0, undef, undef, undef, undef, undef, undef, undef, undef, undef, undef, undef, undef, undef, undef, undef, undef, undef, undef, undef, undef, undef, undef, undef, undef, undef, undef, undef, undef, undef, undef, undef, undef, undef, undef, undef]) rfl ?_
              refine hK90 _ _ ?_
              refine wp_seq_k (fun K99 hK100 => ?_)
              have hb1 : 0 < b.length := by cases b with | nil => exact absurd rfl hne | cons => simp
              have ht1 : (turnB b 0 (255 : UInt8)).length = b.length := turnB_length _ _ _
              obtain ⟨x0, hx0, hx1⟩ := turn_head (b := b) (by cases b with | nil => exact absurd rfl hne | cons => simp) 255
              obtain ⟨az, hza, hzc⟩ := sl_head (c := 0) (row_rd (HS.get (.head _))).2.2 hx1
              subst hza
              obtain ⟨ab, hba, hbc⟩ := sl_head (c := 0) (hs0.below HS.belowOf).rd hx0
              subst hba
              refine free_frame (n := 36) (T := _) [0, 1, 3, 7, 15, 31, 63, 127, 255, 127, 639, 2047, 4095, 8191, 16383, 32767, 16383, 81919, 262143, 524287, 1048575, 2097151, 4194303, 8388607, 16777215, 33554431, 67108863, 134217727, 33554431, 301989887, 838860799, 1912602623, 4294967295, 8589934591, 17179869183, 34359738367] [(0, 47), (1, 48), (2, 49), (3, 50), (4, 51), (5, 52), (6, 53), (7, 54), (8, 55), (9, 56), (10, 57), (11, 58), (12, 59), (13, 60), (14, 61), (15, 62), (16, 63), (17, 64), (18, 65), (19, 66), (20, 67), (21, 68), (22, 69), (23, 70), (24, 71), (25, 72), (26, 73), (27, 74), (28, 75), (29, 76), (30, 77), (31, 78), (32, 79), (33, 80), (34, 81), (35, 2)] (fun bq_ vq_ w_ => qv ((fun i_ => match i_ with | 0 => some (.int .i64 0) | 1 => some (.bool true) | 2 => some (.bool true) | 3 => some (.int .i64 0) | 4 => some (.bool true) | 5 => some (.bool true) | 6 => some (.bool true) | 7 => some (.slice A85 b.length c86) | 8 => some (.string (strB b)) | 9 => some (.slice (some ab) b.length c0) | 10 => some (.string (strB b)) | 11 => some (.bool true) | 12 => some (.bool true) | 13 => some (.bool true) | 14 => some (.slice (some az) ((turnB b 0 (255 : UInt8)).length) c96) | 15 => some (.int .i64 ((turnB b 0 (255 : UInt8)).length : Int)) | 16 => some (.slice (some ab) b.length c0) | 17 => some (.int .i64 (b.length : Int)) | 18 => some (.bool true) | 19 => some (.bool true) | 20 => some (.bool true) | 21 => some (.slice (some ab) b.length c0) | 22 => some (.int .i64 (b.length : Int)) | 23 => some (.bool false) | 24 => some (.bool false) | 25 => some (.slice (some az) ((turnB b 0 (255 : UInt8)).length) c96) | 26 => some (.pointer (some ((az).add (0)))) | 27 => some (.int .u8 (bv (x0 ^^^ 255))) | 28 => some (.slice (some ab) b.length c0) | 29 => some (.pointer (some ((ab).add (0)))) | 30 => some (.int .u8 (bv x0)) | 31 => some (.int .u8 (bv (x0 ^^^ 255))) | 32 => some (.bool true) | 33 => some (.bool true) | 34 => some (.bool true) | 35 => some (.bool true) | _ => none) : Nat → Option Value) bq_ vq_ ∧ (St w (fun _ => False) w_ ([row kByte rfl 5 (.slice (some az) ((turnB b 0 (255 : UInt8)).length) c96) (turnB b 0 (255 : UInt8)), blk G22 [v93] 72, row kPk rfl 75 v93 (pk []), allR (frs []), row kByte rfl 5 (.slice A85 b.length c86) b, blk gp ((nums .u8 ys ++ spp)) 5]))) (by kernel_rfl) rfl rfl (by kernel_rfl) (by kernel_rfl) rfl (by kernel_rfl) (by kernel_rfl) ⟨qv_none, HS.draw⟩ ?_ ?_
              · clear HS
                intro i_ hi_ bq_ vq_ a_ w_ hG hb_ hon hoff hfr hel hval
                obtain ⟨hV, hE⟩ := hG
                have hi_ := List.mem_range.1 hi_
                have hcs : i_ = 0 ∨ i_ = 1 ∨ i_ = 2 ∨ i_ = 3 ∨ i_ = 4 ∨ i_ = 5 ∨ i_ = 6 ∨ i_ = 7 ∨ i_ = 8 ∨ i_ = 9 ∨ i_ = 10 ∨ i_ = 11 ∨ i_ = 12 ∨ i_ = 13 ∨ i_ = 14 ∨ i_ = 15 ∨ i_ = 16 ∨ i_ = 17 ∨ i_ = 18 ∨ i_ = 19 ∨ i_ = 20 ∨ i_ = 21 ∨ i_ = 22 ∨ i_ = 23 ∨ i_ = 24 ∨ i_ = 25 ∨ i_ = 26 ∨ i_ = 27 ∨ i_ = 28 ∨ i_ = 29 ∨ i_ = 30 ∨ i_ = 31 ∨ i_ = 32 ∨ i_ = 33 ∨ i_ = 34 ∨ i_ = 35 := by omega
                rcases hcs with rfl | rfl | rfl | rfl | rfl | rfl | rfl | rfl | rfl | rfl | rfl | rfl | rfl | rfl | rfl | rfl | rfl | rfl | rfl | rfl | rfl | rfl | rfl | rfl | rfl | rfl | rfl | rfl | rfl | rfl | rfl | rfl | rfl | rfl | rfl | rfl
                · have h7 : a_.tmps[7]? = some (.int .i64 0) := (hel 7 (by decide)).trans rfl
                  obtain ⟨l_, rfl⟩ := hfr
                  have e7 : evl l_ (.tmp 7) = .int .i64 0 := evl_of h7
                  refine ⟨_, rfl, fun K_ hK_ => wp_of_list rfl ?_⟩
                  intro ops_
                  refine p_run (l' := _) _ (x_move (.int .i64 0) rfl e7) rfl ?_
                  refine wpList_nil ?_
                  exact norm_put (hK_ (.int .i64 0) _ ⟨qv_up hV (fun _ h => Option.some.inj h), hE⟩)
                · have h47 : a_.tmps[47]? = some (.int .i64 0) := (hval (0, 47) (by decide) (hon 0 (by decide))).trans (congrArg some (hV 0 _ rfl (hon 0 (by decide))))
                  obtain ⟨l_, rfl⟩ := hfr
                  have e47 : evl l_ (.tmp 47) = .int .i64 0 := evl_of h47
                  refine ⟨_, rfl, fun K_ hK_ => wp_of_list rfl ?_⟩
                  intro ops_
                  refine p_run (l' := _) _ (x_cmp (k := .i64) (m := 0) (n := 0) .eql true rfl e47 rfl (by decide) rfl) rfl ?_
                  refine wpList_nil ?_
                  exact norm_put (hK_ (.bool true) _ ⟨qv_up hV (fun _ h => Option.some.inj h), hE⟩)
                · have h48 : a_.tmps[48]? = some (.bool true) := (hval (1, 48) (by decide) (hon 1 (by decide))).trans (congrArg some (hV 1 _ rfl (hon 1 (by decide))))
                  obtain ⟨l_, rfl⟩ := hfr
                  have e48 : evl l_ (.tmp 48) = .bool true := evl_of h48
                  refine ⟨_, rfl, fun K_ hK_ => wp_of_list rfl ?_⟩
                  intro ops_
                  refine p_run (l' := _) _ (x_move (.bool true) rfl e48) rfl ?_
                  refine wpList_nil ?_
                  exact norm_put (hK_ (.bool true) _ ⟨qv_up hV (fun _ h => Option.some.inj h), hE⟩)
                · have h9 : a_.tmps[9]? = some (.int .i64 0) := (hel 9 (by decide)).trans rfl
                  have h49 : a_.tmps[49]? = some (.bool true) := (hval (2, 49) (by decide) (hon 2 (by decide))).trans (congrArg some (hV 2 _ rfl (hon 2 (by decide))))
                  obtain ⟨l_, rfl⟩ := hfr
                  have e9 : evl l_ (.tmp 9) = .int .i64 0 := evl_of h9
                  have e49 : evl l_ (.tmp 49) = .bool true := evl_of h49
                  refine ⟨_, rfl, fun K_ hK_ => wp_of_listG rfl (wanted_on (t := 49) rfl rfl rfl h49) ?_⟩
                  intro ops_
                  refine p_run (l' := _) _ (x_move (.int .i64 0) rfl e9) rfl ?_
                  refine wpList_nil ?_
                  exact norm_put (hK_ (.int .i64 0) _ ⟨qv_up hV (fun _ h => Option.some.inj h), hE⟩)
                · have h49 : a_.tmps[49]? = some (.bool true) := (hval (2, 49) (by decide) (hon 2 (by decide))).trans (congrArg some (hV 2 _ rfl (hon 2 (by decide))))
                  have h50 : a_.tmps[50]? = some (.int .i64 0) := (hval (3, 50) (by decide) (hon 3 (by decide))).trans (congrArg some (hV 3 _ rfl (hon 3 (by decide))))
                  obtain ⟨l_, rfl⟩ := hfr
                  have e49 : evl l_ (.tmp 49) = .bool true := evl_of h49
                  have e50 : evl l_ (.tmp 50) = .int .i64 0 := evl_of h50
                  refine ⟨_, rfl, fun K_ hK_ => wp_of_listG rfl (wanted_on (t := 49) rfl rfl rfl h49) ?_⟩
                  intro ops_
                  refine p_run (l' := _) _ (x_cmp (k := .i64) (m := 0) (n := 0) .eql true rfl e50 rfl (by decide) rfl) rfl ?_
                  refine wpList_nil ?_
                  exact norm_put (hK_ (.bool true) _ ⟨qv_up hV (fun _ h => Option.some.inj h), hE⟩)
                · have h49 : a_.tmps[49]? = some (.bool true) := (hval (2, 49) (by decide) (hon 2 (by decide))).trans (congrArg some (hV 2 _ rfl (hon 2 (by decide))))
                  have h51 : a_.tmps[51]? = some (.bool true) := (hval (4, 51) (by decide) (hon 4 (by decide))).trans (congrArg some (hV 4 _ rfl (hon 4 (by decide))))
                  obtain ⟨l_, rfl⟩ := hfr
                  have e49 : evl l_ (.tmp 49) = .bool true := evl_of h49
                  have e51 : evl l_ (.tmp 51) = .bool true := evl_of h51
                  refine ⟨_, rfl, fun K_ hK_ => wp_of_list rfl ?_⟩
                  intro ops_
                  refine p_run (l' := _) _ (x_pick true (.bool true) (.bool false) (.bool true) rfl e49 e51 rfl rfl) rfl ?_
                  refine wpList_nil ?_
                  exact norm_put (hK_ (.bool true) _ ⟨qv_up hV (fun _ h => Option.some.inj h), hE⟩)
                · have h52 : a_.tmps[52]? = some (.bool true) := (hval (5, 52) (by decide) (hon 5 (by decide))).trans (congrArg some (hV 5 _ rfl (hon 5 (by decide))))
                  obtain ⟨l_, rfl⟩ := hfr
                  have e52 : evl l_ (.tmp 52) = .bool true := evl_of h52
                  refine ⟨_, rfl, fun K_ hK_ => wp_of_list rfl ?_⟩
                  intro ops_
                  refine p_run (l' := _) _ (x_move (.bool true) rfl e52) rfl ?_
                  refine wpList_nil ?_
                  exact norm_put (hK_ (.bool true) _ ⟨qv_up hV (fun _ h => Option.some.inj h), hE⟩)
                · have h6 : a_.tmps[6]? = some (.slice A85 b.length c86) := (hel 6 (by decide)).trans rfl
                  have h53 : a_.tmps[53]? = some (.bool true) := (hval (6, 53) (by decide) (hon 6 (by decide))).trans (congrArg some (hV 6 _ rfl (hon 6 (by decide))))
                  obtain ⟨l_, rfl⟩ := hfr
                  have e6 : evl l_ (.tmp 6) = .slice A85 b.length c86 := evl_of h6
                  have e53 : evl l_ (.tmp 53) = .bool true := evl_of h53
                  refine ⟨_, rfl, fun K_ hK_ => wp_of_listG rfl (wanted_on (t := 53) rfl rfl rfl h53) ?_⟩
                  intro ops_
                  refine p_run (l' := _) _ (x_move (.slice A85 b.length c86) rfl e6) rfl ?_
                  refine wpList_nil ?_
                  exact norm_put (hK_ (.slice A85 b.length c86) _ ⟨qv_up hV (fun _ h => Option.some.inj h), hE⟩)
                · have h53 : a_.tmps[53]? = some (.bool true) := (hval (6, 53) (by decide) (hon 6 (by decide))).trans (congrArg some (hV 6 _ rfl (hon 6 (by decide))))
                  have h54 : a_.tmps[54]? = some (.slice A85 b.length c86) := (hval (7, 54) (by decide) (hon 7 (by decide))).trans (congrArg some (hV 7 _ rfl (hon 7 (by decide))))
                  obtain ⟨l_, rfl⟩ := hfr
                  have hE0 := hE
                  have HS := hE0
                  have e53 : evl l_ (.tmp 53) = .bool true := evl_of h53
                  have e54 : evl l_ (.tmp 54) = .slice A85 b.length c86 := evl_of h54
                  refine ⟨_, rfl, fun K_ hK_ => wp_of_listG rfl (wanted_on (t := 53) rfl rfl rfl h53) ?_⟩
                  intro ops_
                  refine p_run (l' := _) _ (x_str (xs := b) (row_rd (HS.get (.tail _ (.tail _ (.tail _ (.tail _ (.head _))))))).2.2 rfl rfl e54) rfl ?_
                  refine wpList_nil ?_
                  exact norm_put (hK_ (.string (strB b)) _ ⟨qv_up hV (fun _ h => Option.some.inj h), hE⟩)
                · have h0 : a_.tmps[0]? = some (.slice (some ab) b.length c0) := (hel 0 (by decide)).trans rfl
                  have h53 : a_.tmps[53]? = some (.bool true) := (hval (6, 53) (by decide) (hon 6 (by decide))).trans (congrArg some (hV 6 _ rfl (hon 6 (by decide))))
                  obtain ⟨l_, rfl⟩ := hfr
                  have e0 : evl l_ (.tmp 0) = .slice (some ab) b.length c0 := evl_of h0
                  have e53 : evl l_ (.tmp 53) = .bool true := evl_of h53
                  refine ⟨_, rfl, fun K_ hK_ => wp_of_listG rfl (wanted_on (t := 53) rfl rfl rfl h53) ?_⟩
                  intro ops_
                  refine p_run (l' := _) _ (x_move (.slice (some ab) b.length c0) rfl e0) rfl ?_
                  refine wpList_nil ?_
                  exact norm_put (hK_ (.slice (some ab) b.length c0) _ ⟨qv_up hV (fun _ h => Option.some.inj h), hE⟩)
                · have h53 : a_.tmps[53]? = some (.bool true) := (hval (6, 53) (by decide) (hon 6 (by decide))).trans (congrArg some (hV 6 _ rfl (hon 6 (by decide))))
                  have h56 : a_.tmps[56]? = some (.slice (some ab) b.length c0) := (hval (9, 56) (by decide) (hon 9 (by decide))).trans (congrArg some (hV 9 _ rfl (hon 9 (by decide))))
                  obtain ⟨l_, rfl⟩ := hfr
                  have hE0 := hE
                  have HS := hE0
                  have e53 : evl l_ (.tmp 53) = .bool true := evl_of h53
                  have e56 : evl l_ (.tmp 56) = .slice (some ab) b.length c0 := evl_of h56
                  refine ⟨_, rfl, fun K_ hK_ => wp_of_listG rfl (wanted_on (t := 53) rfl rfl rfl h53) ?_⟩
                  intro ops_
                  refine p_run (l' := _) _ (x_str (xs := b) (hs0.below HS.belowOf).rd rfl rfl e56) rfl ?_
                  refine wpList_nil ?_
                  exact norm_put (hK_ (.string (strB b)) _ ⟨qv_up hV (fun _ h => Option.some.inj h), hE⟩)
                · have h53 : a_.tmps[53]? = some (.bool true) := (hval (6, 53) (by decide) (hon 6 (by decide))).trans (congrArg some (hV 6 _ rfl (hon 6 (by decide))))
                  have h55 : a_.tmps[55]? = some (.string (strB b)) := (hval (8, 55) (by decide) (hon 8 (by decide))).trans (congrArg some (hV 8 _ rfl (hon 8 (by decide))))
                  have h57 : a_.tmps[57]? = some (.string (strB b)) := (hval (10, 57) (by decide) (hon 10 (by decide))).trans (congrArg some (hV 10 _ rfl (hon 10 (by decide))))
                  obtain ⟨l_, rfl⟩ := hfr
                  have e53 : evl l_ (.tmp 53) = .bool true := evl_of h53
                  have e55 : evl l_ (.tmp 55) = .string (strB b) := evl_of h55
                  have e57 : evl l_ (.tmp 57) = .string (strB b) := evl_of h57
                  refine ⟨_, rfl, fun K_ hK_ => wp_of_listG rfl (wanted_on (t := 53) rfl rfl rfl h53) ?_⟩
                  intro ops_
                  refine p_run (l' := _) _ (x_streq .eql (strB b) (strB b) true rfl e55 e57 (str_yes rfl) rfl) rfl ?_
                  refine wpList_nil ?_
                  exact norm_put (hK_ (.bool true) _ ⟨qv_up hV (fun _ h => Option.some.inj h), hE⟩)
                · have h53 : a_.tmps[53]? = some (.bool true) := (hval (6, 53) (by decide) (hon 6 (by decide))).trans (congrArg some (hV 6 _ rfl (hon 6 (by decide))))
                  have h58 : a_.tmps[58]? = some (.bool true) := (hval (11, 58) (by decide) (hon 11 (by decide))).trans (congrArg some (hV 11 _ rfl (hon 11 (by decide))))
                  obtain ⟨l_, rfl⟩ := hfr
                  have e53 : evl l_ (.tmp 53) = .bool true := evl_of h53
                  have e58 : evl l_ (.tmp 58) = .bool true := evl_of h58
                  refine ⟨_, rfl, fun K_ hK_ => wp_of_list rfl ?_⟩
                  intro ops_
                  refine p_run (l' := _) _ (x_pick true (.bool true) (.bool false) (.bool true) rfl e53 e58 rfl rfl) rfl ?_
                  refine wpList_nil ?_
                  exact norm_put (hK_ (.bool true) _ ⟨qv_up hV (fun _ h => Option.some.inj h), hE⟩)
                · have h59 : a_.tmps[59]? = some (.bool true) := (hval (12, 59) (by decide) (hon 12 (by decide))).trans (congrArg some (hV 12 _ rfl (hon 12 (by decide))))
                  obtain ⟨l_, rfl⟩ := hfr
                  have e59 : evl l_ (.tmp 59) = .bool true := evl_of h59
                  refine ⟨_, rfl, fun K_ hK_ => wp_of_list rfl ?_⟩
                  intro ops_
                  refine p_run (l' := _) _ (x_move (.bool true) rfl e59) rfl ?_
                  refine wpList_nil ?_
                  exact norm_put (hK_ (.bool true) _ ⟨qv_up hV (fun _ h => Option.some.inj h), hE⟩)
                · have h8 : a_.tmps[8]? = some (.slice (some az) ((turnB b 0 (255 : UInt8)).length) c96) := (hel 8 (by decide)).trans rfl
                  have h60 : a_.tmps[60]? = some (.bool true) := (hval (13, 60) (by decide) (hon 13 (by decide))).trans (congrArg some (hV 13 _ rfl (hon 13 (by decide))))
                  obtain ⟨l_, rfl⟩ := hfr
                  have e8 : evl l_ (.tmp 8) = .slice (some az) ((turnB b 0 (255 : UInt8)).length) c96 := evl_of h8
                  have e60 : evl l_ (.tmp 60) = .bool true := evl_of h60
                  refine ⟨_, rfl, fun K_ hK_ => wp_of_listG rfl (wanted_on (t := 60) rfl rfl rfl h60) ?_⟩
                  intro ops_
                  refine p_run (l' := _) _ (x_move (.slice (some az) ((turnB b 0 (255 : UInt8)).length) c96) rfl e8) rfl ?_
                  refine wpList_nil ?_
                  exact norm_put (hK_ (.slice (some az) ((turnB b 0 (255 : UInt8)).length) c96) _ ⟨qv_up hV (fun _ h => Option.some.inj h), hE⟩)
                · have h60 : a_.tmps[60]? = some (.bool true) := (hval (13, 60) (by decide) (hon 13 (by decide))).trans (congrArg some (hV 13 _ rfl (hon 13 (by decide))))
                  have h61 : a_.tmps[61]? = some (.slice (some az) ((turnB b 0 (255 : UInt8)).length) c96) := (hval (14, 61) (by decide) (hon 14 (by decide))).trans (congrArg some (hV 14 _ rfl (hon 14 (by decide))))
                  obtain ⟨l_, rfl⟩ := hfr
                  have hE0 := hE
                  have HS := hE0
                  have e60 : evl l_ (.tmp 60) = .bool true := evl_of h60
                  have e61 : evl l_ (.tmp 61) = .slice (some az) ((turnB b 0 (255 : UInt8)).length) c96 := evl_of h61
                  refine ⟨_, rfl, fun K_ hK_ => wp_of_listG rfl (wanted_on (t := 60) rfl rfl rfl h60) ?_⟩
                  intro ops_
                  refine p_run (l' := _) _ (x_len rfl e61 Try.underlying24) rfl ?_
                  refine wpList_nil ?_
                  exact norm_put (hK_ (.int .i64 ((turnB b 0 (255 : UInt8)).length : Int)) _ ⟨qv_up hV (fun _ h => Option.some.inj h), hE⟩)
                · have h0 : a_.tmps[0]? = some (.slice (some ab) b.length c0) := (hel 0 (by decide)).trans rfl
                  have h60 : a_.tmps[60]? = some (.bool true) := (hval (13, 60) (by decide) (hon 13 (by decide))).trans (congrArg some (hV 13 _ rfl (hon 13 (by decide))))
                  obtain ⟨l_, rfl⟩ := hfr
                  have e0 : evl l_ (.tmp 0) = .slice (some ab) b.length c0 := evl_of h0
                  have e60 : evl l_ (.tmp 60) = .bool true := evl_of h60
                  refine ⟨_, rfl, fun K_ hK_ => wp_of_listG rfl (wanted_on (t := 60) rfl rfl rfl h60) ?_⟩
                  intro ops_
                  refine p_run (l' := _) _ (x_move (.slice (some ab) b.length c0) rfl e0) rfl ?_
                  refine wpList_nil ?_
                  exact norm_put (hK_ (.slice (some ab) b.length c0) _ ⟨qv_up hV (fun _ h => Option.some.inj h), hE⟩)
                · have h60 : a_.tmps[60]? = some (.bool true) := (hval (13, 60) (by decide) (hon 13 (by decide))).trans (congrArg some (hV 13 _ rfl (hon 13 (by decide))))
                  have h63 : a_.tmps[63]? = some (.slice (some ab) b.length c0) := (hval (16, 63) (by decide) (hon 16 (by decide))).trans (congrArg some (hV 16 _ rfl (hon 16 (by decide))))
                  obtain ⟨l_, rfl⟩ := hfr
                  have hE0 := hE
                  have HS := hE0
                  have e60 : evl l_ (.tmp 60) = .bool true := evl_of h60
                  have e63 : evl l_ (.tmp 63) = .slice (some ab) b.length c0 := evl_of h63
                  refine ⟨_, rfl, fun K_ hK_ => wp_of_listG rfl (wanted_on (t := 60) rfl rfl rfl h60) ?_⟩
                  intro ops_
                  refine p_run (l' := _) _ (x_len rfl e63 Try.underlying24) rfl ?_
                  refine wpList_nil ?_
                  exact norm_put (hK_ (.int .i64 (b.length : Int)) _ ⟨qv_up hV (fun _ h => Option.some.inj h), hE⟩)
                · have h60 : a_.tmps[60]? = some (.bool true) := (hval (13, 60) (by decide) (hon 13 (by decide))).trans (congrArg some (hV 13 _ rfl (hon 13 (by decide))))
                  have h62 : a_.tmps[62]? = some (.int .i64 ((turnB b 0 (255 : UInt8)).length : Int)) := (hval (15, 62) (by decide) (hon 15 (by decide))).trans (congrArg some (hV 15 _ rfl (hon 15 (by decide))))
                  have h64 : a_.tmps[64]? = some (.int .i64 (b.length : Int)) := (hval (17, 64) (by decide) (hon 17 (by decide))).trans (congrArg some (hV 17 _ rfl (hon 17 (by decide))))
                  obtain ⟨l_, rfl⟩ := hfr
                  have e60 : evl l_ (.tmp 60) = .bool true := evl_of h60
                  have e62 : evl l_ (.tmp 62) = .int .i64 ((turnB b 0 (255 : UInt8)).length : Int) := evl_of h62
                  have e64 : evl l_ (.tmp 64) = .int .i64 (b.length : Int) := evl_of h64
                  refine ⟨_, rfl, fun K_ hK_ => wp_of_listG rfl (wanted_on (t := 60) rfl rfl rfl h60) ?_⟩
                  intro ops_
                  refine p_run (l' := _) _ (x_cmp (k := .i64) (m := ((turnB b 0 (255 : UInt8)).length : Int)) (n := (b.length : Int)) .eql true rfl e62 e64 (by unfold cmpB; rw [turnB_length]; simp) rfl) rfl ?_
                  refine wpList_nil ?_
                  exact norm_put (hK_ (.bool true) _ ⟨qv_up hV (fun _ h => Option.some.inj h), hE⟩)
                · have h60 : a_.tmps[60]? = some (.bool true) := (hval (13, 60) (by decide) (hon 13 (by decide))).trans (congrArg some (hV 13 _ rfl (hon 13 (by decide))))
                  have h65 : a_.tmps[65]? = some (.bool true) := (hval (18, 65) (by decide) (hon 18 (by decide))).trans (congrArg some (hV 18 _ rfl (hon 18 (by decide))))
                  obtain ⟨l_, rfl⟩ := hfr
                  have e60 : evl l_ (.tmp 60) = .bool true := evl_of h60
                  have e65 : evl l_ (.tmp 65) = .bool true := evl_of h65
                  refine ⟨_, rfl, fun K_ hK_ => wp_of_list rfl ?_⟩
                  intro ops_
                  refine p_run (l' := _) _ (x_pick true (.bool true) (.bool false) (.bool true) rfl e60 e65 rfl rfl) rfl ?_
                  refine wpList_nil ?_
                  exact norm_put (hK_ (.bool true) _ ⟨qv_up hV (fun _ h => Option.some.inj h), hE⟩)
                · have h66 : a_.tmps[66]? = some (.bool true) := (hval (19, 66) (by decide) (hon 19 (by decide))).trans (congrArg some (hV 19 _ rfl (hon 19 (by decide))))
                  obtain ⟨l_, rfl⟩ := hfr
                  have e66 : evl l_ (.tmp 66) = .bool true := evl_of h66
                  refine ⟨_, rfl, fun K_ hK_ => wp_of_list rfl ?_⟩
                  intro ops_
                  refine p_run (l' := _) _ (x_move (.bool true) rfl e66) rfl ?_
                  refine wpList_nil ?_
                  exact norm_put (hK_ (.bool true) _ ⟨qv_up hV (fun _ h => Option.some.inj h), hE⟩)
                · have h0 : a_.tmps[0]? = some (.slice (some ab) b.length c0) := (hel 0 (by decide)).trans rfl
                  have h67 : a_.tmps[67]? = some (.bool true) := (hval (20, 67) (by decide) (hon 20 (by decide))).trans (congrArg some (hV 20 _ rfl (hon 20 (by decide))))
                  obtain ⟨l_, rfl⟩ := hfr
                  have e0 : evl l_ (.tmp 0) = .slice (some ab) b.length c0 := evl_of h0
                  have e67 : evl l_ (.tmp 67) = .bool true := evl_of h67
                  refine ⟨_, rfl, fun K_ hK_ => wp_of_listG rfl (wanted_on (t := 67) rfl rfl rfl h67) ?_⟩
                  intro ops_
                  refine p_run (l' := _) _ (x_move (.slice (some ab) b.length c0) rfl e0) rfl ?_
                  refine wpList_nil ?_
                  exact norm_put (hK_ (.slice (some ab) b.length c0) _ ⟨qv_up hV (fun _ h => Option.some.inj h), hE⟩)
                · have h67 : a_.tmps[67]? = some (.bool true) := (hval (20, 67) (by decide) (hon 20 (by decide))).trans (congrArg some (hV 20 _ rfl (hon 20 (by decide))))
                  have h68 : a_.tmps[68]? = some (.slice (some ab) b.length c0) := (hval (21, 68) (by decide) (hon 21 (by decide))).trans (congrArg some (hV 21 _ rfl (hon 21 (by decide))))
                  obtain ⟨l_, rfl⟩ := hfr
                  have hE0 := hE
                  have HS := hE0
                  have e67 : evl l_ (.tmp 67) = .bool true := evl_of h67
                  have e68 : evl l_ (.tmp 68) = .slice (some ab) b.length c0 := evl_of h68
                  refine ⟨_, rfl, fun K_ hK_ => wp_of_listG rfl (wanted_on (t := 67) rfl rfl rfl h67) ?_⟩
                  intro ops_
                  refine p_run (l' := _) _ (x_len rfl e68 Try.underlying24) rfl ?_
                  refine wpList_nil ?_
                  exact norm_put (hK_ (.int .i64 (b.length : Int)) _ ⟨qv_up hV (fun _ h => Option.some.inj h), hE⟩)
                · have h67 : a_.tmps[67]? = some (.bool true) := (hval (20, 67) (by decide) (hon 20 (by decide))).trans (congrArg some (hV 20 _ rfl (hon 20 (by decide))))
                  have h69 : a_.tmps[69]? = some (.int .i64 (b.length : Int)) := (hval (22, 69) (by decide) (hon 22 (by decide))).trans (congrArg some (hV 22 _ rfl (hon 22 (by decide))))
                  obtain ⟨l_, rfl⟩ := hfr
                  have e67 : evl l_ (.tmp 67) = .bool true := evl_of h67
                  have e69 : evl l_ (.tmp 69) = .int .i64 (b.length : Int) := evl_of h69
                  refine ⟨_, rfl, fun K_ hK_ => wp_of_listG rfl (wanted_on (t := 67) rfl rfl rfl h67) ?_⟩
                  intro ops_
                  refine p_run (l' := _) _ (x_cmp (k := .i64) (m := (b.length : Int)) (n := 0) .eql false rfl e69 rfl (by unfold cmpB; have h0 : b.length ≠ 0 := fun h => hne (List.eq_nil_of_length_eq_zero h); simp; exact hne) rfl) rfl ?_
                  refine wpList_nil ?_
                  exact norm_put (hK_ (.bool false) _ ⟨qv_up hV (fun _ h => Option.some.inj h), hE⟩)
                · have h67 : a_.tmps[67]? = some (.bool true) := (hval (20, 67) (by decide) (hon 20 (by decide))).trans (congrArg some (hV 20 _ rfl (hon 20 (by decide))))
                  have h70 : a_.tmps[70]? = some (.bool false) := (hval (23, 70) (by decide) (hon 23 (by decide))).trans (congrArg some (hV 23 _ rfl (hon 23 (by decide))))
                  obtain ⟨l_, rfl⟩ := hfr
                  have e67 : evl l_ (.tmp 67) = .bool true := evl_of h67
                  have e70 : evl l_ (.tmp 70) = .bool false := evl_of h70
                  refine ⟨_, rfl, fun K_ hK_ => wp_of_listG rfl (wanted_on (t := 67) rfl rfl rfl h67) ?_⟩
                  intro ops_
                  refine p_run (l' := _) _ (x_move (.bool false) rfl e70) rfl ?_
                  refine wpList_nil ?_
                  exact norm_put (hK_ (.bool false) _ ⟨qv_up hV (fun _ h => Option.some.inj h), hE⟩)
                · have h8 : a_.tmps[8]? = some (.slice (some az) ((turnB b 0 (255 : UInt8)).length) c96) := (hel 8 (by decide)).trans rfl
                  have h71 : a_.tmps[71]? = some (.bool false) := (hval (24, 71) (by decide) (hon 24 (by decide))).trans (congrArg some (hV 24 _ rfl (hon 24 (by decide))))
                  obtain ⟨l_, rfl⟩ := hfr
                  have e8 : evl l_ (.tmp 8) = .slice (some az) ((turnB b 0 (255 : UInt8)).length) c96 := evl_of h8
                  have e71 : evl l_ (.tmp 71) = .bool false := evl_of h71
                  refine ⟨_, rfl, fun K_ hK_ => wp_of_listG rfl (wanted_on (t := 71) rfl rfl rfl h71) ?_⟩
                  intro ops_
                  refine p_run (l' := _) _ (x_move (.slice (some az) ((turnB b 0 (255 : UInt8)).length) c96) rfl e8) rfl ?_
                  refine wpList_nil ?_
                  exact norm_put (hK_ (.slice (some az) ((turnB b 0 (255 : UInt8)).length) c96) _ ⟨qv_up hV (fun _ h => Option.some.inj h), hE⟩)
                · have h71 : a_.tmps[71]? = some (.bool false) := (hval (24, 71) (by decide) (hon 24 (by decide))).trans (congrArg some (hV 24 _ rfl (hon 24 (by decide))))
                  have h72 : a_.tmps[72]? = some (.slice (some az) ((turnB b 0 (255 : UInt8)).length) c96) := (hval (25, 72) (by decide) (hon 25 (by decide))).trans (congrArg some (hV 25 _ rfl (hon 25 (by decide))))
                  obtain ⟨l_, rfl⟩ := hfr
                  have e71 : evl l_ (.tmp 71) = .bool false := evl_of h71
                  have e72 : evl l_ (.tmp 72) = .slice (some az) ((turnB b 0 (255 : UInt8)).length) c96 := evl_of h72
                  refine ⟨_, rfl, fun K_ hK_ => wp_of_listG rfl (wanted_on (t := 71) rfl rfl rfl h71) ?_⟩
                  intro ops_
                  refine p_run (l' := _) _ (x_index (A := az) (j := 0) (sz := 1) rfl e72 rfl Try.underlying24 (by kernel_rfl) (by omega) rfl) rfl ?_
                  refine wpList_nil ?_
                  exact norm_put (hK_ (.pointer (some ((az).add (0)))) _ ⟨qv_up hV (fun _ h => Option.some.inj h), hE⟩)
                · have h71 : a_.tmps[71]? = some (.bool false) := (hval (24, 71) (by decide) (hon 24 (by decide))).trans (congrArg some (hV 24 _ rfl (hon 24 (by decide))))
                  have h73 : a_.tmps[73]? = some (.pointer (some ((az).add (0)))) := (hval (26, 73) (by decide) (hon 26 (by decide))).trans (congrArg some (hV 26 _ rfl (hon 26 (by decide))))
                  obtain ⟨l_, rfl⟩ := hfr
                  have hE0 := hE
                  have HS := hE0
                  have e71 : evl l_ (.tmp 71) = .bool false := evl_of h71
                  have e73 : evl l_ (.tmp 73) = .pointer (some ((az).add (0))) := evl_of h73
                  refine ⟨_, rfl, fun K_ hK_ => wp_of_listG rfl (wanted_on (t := 71) rfl rfl rfl h71) ?_⟩
                  intro ops_
                  refine p_run (l' := _) _ (x_load (.int .u8 (bv (x0 ^^^ 255))) rfl e73 (by obtain ⟨a_, ha_, hc_⟩ := sl_head (c := 0) (row_rd (HS.get (.head _))).2.2 hx1; obtain rfl := Option.some.inj ha_; exact hc_) (by rfl)) rfl ?_
                  refine wpList_nil ?_
                  exact norm_put (hK_ (.int .u8 (bv (x0 ^^^ 255))) _ ⟨qv_up hV (fun _ h => Option.some.inj h), hE⟩)
                · have h0 : a_.tmps[0]? = some (.slice (some ab) b.length c0) := (hel 0 (by decide)).trans rfl
                  have h71 : a_.tmps[71]? = some (.bool false) := (hval (24, 71) (by decide) (hon 24 (by decide))).trans (congrArg some (hV 24 _ rfl (hon 24 (by decide))))
                  obtain ⟨l_, rfl⟩ := hfr
                  have e0 : evl l_ (.tmp 0) = .slice (some ab) b.length c0 := evl_of h0
                  have e71 : evl l_ (.tmp 71) = .bool false := evl_of h71
                  refine ⟨_, rfl, fun K_ hK_ => wp_of_listG rfl (wanted_on (t := 71) rfl rfl rfl h71) ?_⟩
                  intro ops_
                  refine p_run (l' := _) _ (x_move (.slice (some ab) b.length c0) rfl e0) rfl ?_
                  refine wpList_nil ?_
                  exact norm_put (hK_ (.slice (some ab) b.length c0) _ ⟨qv_up hV (fun _ h => Option.some.inj h), hE⟩)
                · have h71 : a_.tmps[71]? = some (.bool false) := (hval (24, 71) (by decide) (hon 24 (by decide))).trans (congrArg some (hV 24 _ rfl (hon 24 (by decide))))
                  have h75 : a_.tmps[75]? = some (.slice (some ab) b.length c0) := (hval (28, 75) (by decide) (hon 28 (by decide))).trans (congrArg some (hV 28 _ rfl (hon 28 (by decide))))
                  obtain ⟨l_, rfl⟩ := hfr
                  have e71 : evl l_ (.tmp 71) = .bool false := evl_of h71
                  have e75 : evl l_ (.tmp 75) = .slice (some ab) b.length c0 := evl_of h75
                  refine ⟨_, rfl, fun K_ hK_ => wp_of_listG rfl (wanted_on (t := 71) rfl rfl rfl h71) ?_⟩
                  intro ops_
                  refine p_run (l' := _) _ (x_index (A := ab) (j := 0) (sz := 1) rfl e75 rfl Try.underlying24 (by kernel_rfl) (by omega) rfl) rfl ?_
                  refine wpList_nil ?_
                  exact norm_put (hK_ (.pointer (some ((ab).add (0)))) _ ⟨qv_up hV (fun _ h => Option.some.inj h), hE⟩)
                · have h71 : a_.tmps[71]? = some (.bool false) := (hval (24, 71) (by decide) (hon 24 (by decide))).trans (congrArg some (hV 24 _ rfl (hon 24 (by decide))))
                  have h76 : a_.tmps[76]? = some (.pointer (some ((ab).add (0)))) := (hval (29, 76) (by decide) (hon 29 (by decide))).trans (congrArg some (hV 29 _ rfl (hon 29 (by decide))))
                  obtain ⟨l_, rfl⟩ := hfr
                  have hE0 := hE
                  have HS := hE0
                  have e71 : evl l_ (.tmp 71) = .bool false := evl_of h71
                  have e76 : evl l_ (.tmp 76) = .pointer (some ((ab).add (0))) := evl_of h76
                  refine ⟨_, rfl, fun K_ hK_ => wp_of_listG rfl (wanted_on (t := 71) rfl rfl rfl h71) ?_⟩
                  intro ops_
                  refine p_run (l' := _) _ (x_load (.int .u8 (bv x0)) rfl e76 (by obtain ⟨a_, ha_, hc_⟩ := sl_head (c := 0) (hs0.below HS.belowOf).rd hx0; obtain rfl := Option.some.inj ha_; exact hc_) (by rfl)) rfl ?_
                  refine wpList_nil ?_
                  exact norm_put (hK_ (.int .u8 (bv x0)) _ ⟨qv_up hV (fun _ h => Option.some.inj h), hE⟩)
                · have h71 : a_.tmps[71]? = some (.bool false) := (hval (24, 71) (by decide) (hon 24 (by decide))).trans (congrArg some (hV 24 _ rfl (hon 24 (by decide))))
                  have h77 : a_.tmps[77]? = some (.int .u8 (bv x0)) := (hval (30, 77) (by decide) (hon 30 (by decide))).trans (congrArg some (hV 30 _ rfl (hon 30 (by decide))))
                  obtain ⟨l_, rfl⟩ := hfr
                  have e71 : evl l_ (.tmp 71) = .bool false := evl_of h71
                  have e77 : evl l_ (.tmp 77) = .int .u8 (bv x0) := evl_of h77
                  refine ⟨_, rfl, fun K_ hK_ => wp_of_listG rfl (wanted_on (t := 71) rfl rfl rfl h71) ?_⟩
                  intro ops_
                  refine p_run (l' := _) _ (x_xor (k := .u8) (m := (bv x0)) (n := 255) ((bv (x0 ^^^ 255))) rfl e77 rfl (xor_k x0 255)) rfl ?_
                  refine wpList_nil ?_
                  exact norm_put (hK_ (.int .u8 (bv (x0 ^^^ 255))) _ ⟨qv_up hV (fun _ h => Option.some.inj h), hE⟩)
                · have h71 : a_.tmps[71]? = some (.bool false) := (hval (24, 71) (by decide) (hon 24 (by decide))).trans (congrArg some (hV 24 _ rfl (hon 24 (by decide))))
                  have h74 : a_.tmps[74]? = some (.int .u8 (bv (x0 ^^^ 255))) := (hval (27, 74) (by decide) (hon 27 (by decide))).trans (congrArg some (hV 27 _ rfl (hon 27 (by decide))))
                  have h78 : a_.tmps[78]? = some (.int .u8 (bv (x0 ^^^ 255))) := (hval (31, 78) (by decide) (hon 31 (by decide))).trans (congrArg some (hV 31 _ rfl (hon 31 (by decide))))
                  obtain ⟨l_, rfl⟩ := hfr
                  have e71 : evl l_ (.tmp 71) = .bool false := evl_of h71
                  have e74 : evl l_ (.tmp 74) = .int .u8 (bv (x0 ^^^ 255)) := evl_of h74
                  have e78 : evl l_ (.tmp 78) = .int .u8 (bv (x0 ^^^ 255)) := evl_of h78
                  refine ⟨_, rfl, fun K_ hK_ => wp_of_listG rfl (wanted_on (t := 71) rfl rfl rfl h71) ?_⟩
                  intro ops_
                  refine p_run (l' := _) _ (x_cmp (k := .u8) (m := (bv (x0 ^^^ 255))) (n := (bv (x0 ^^^ 255))) .eql true rfl e74 e78 (by simp [cmpB]) rfl) rfl ?_
                  refine wpList_nil ?_
                  exact norm_put (hK_ (.bool true) _ ⟨qv_up hV (fun _ h => Option.some.inj h), hE⟩)
                · have h67 : a_.tmps[67]? = some (.bool true) := (hval (20, 67) (by decide) (hon 20 (by decide))).trans (congrArg some (hV 20 _ rfl (hon 20 (by decide))))
                  have h71 : a_.tmps[71]? = some (.bool false) := (hval (24, 71) (by decide) (hon 24 (by decide))).trans (congrArg some (hV 24 _ rfl (hon 24 (by decide))))
                  have h79 : a_.tmps[79]? = some (.bool true) := (hval (32, 79) (by decide) (hon 32 (by decide))).trans (congrArg some (hV 32 _ rfl (hon 32 (by decide))))
                  obtain ⟨l_, rfl⟩ := hfr
                  have e67 : evl l_ (.tmp 67) = .bool true := evl_of h67
                  have e71 : evl l_ (.tmp 71) = .bool false := evl_of h71
                  have e79 : evl l_ (.tmp 79) = .bool true := evl_of h79
                  refine ⟨_, rfl, fun K_ hK_ => wp_of_listG rfl (wanted_on (t := 67) rfl rfl rfl h67) ?_⟩
                  intro ops_
                  refine p_run (l' := _) _ (x_pick false (.bool true) (.bool true) (.bool true) rfl e71 rfl e79 rfl) rfl ?_
                  refine wpList_nil ?_
                  exact norm_put (hK_ (.bool true) _ ⟨qv_up hV (fun _ h => Option.some.inj h), hE⟩)
                · have h67 : a_.tmps[67]? = some (.bool true) := (hval (20, 67) (by decide) (hon 20 (by decide))).trans (congrArg some (hV 20 _ rfl (hon 20 (by decide))))
                  have h80 : a_.tmps[80]? = some (.bool true) := (hval (33, 80) (by decide) (hon 33 (by decide))).trans (congrArg some (hV 33 _ rfl (hon 33 (by decide))))
                  obtain ⟨l_, rfl⟩ := hfr
                  have e67 : evl l_ (.tmp 67) = .bool true := evl_of h67
                  have e80 : evl l_ (.tmp 80) = .bool true := evl_of h80
                  refine ⟨_, rfl, fun K_ hK_ => wp_of_list rfl ?_⟩
                  intro ops_
                  refine p_run (l' := _) _ (x_pick true (.bool true) (.bool false) (.bool true) rfl e67 e80 rfl rfl) rfl ?_
                  refine wpList_nil ?_
                  exact norm_put (hK_ (.bool true) _ ⟨qv_up hV (fun _ h => Option.some.inj h), hE⟩)
                · have h81 : a_.tmps[81]? = some (.bool true) := (hval (34, 81) (by decide) (hon 34 (by decide))).trans (congrArg some (hV 34 _ rfl (hon 34 (by decide))))
                  obtain ⟨l_, rfl⟩ := hfr
                  have e81 : evl l_ (.tmp 81) = .bool true := evl_of h81
                  refine ⟨_, rfl, fun K_ hK_ => wp_of_list rfl ?_⟩
                  intro ops_
                  refine p_run (l' := _) _ (x_assign (.bool true) rfl e81) rfl ?_
                  refine wpList_nil ?_
                  exact norm_put (hK_ (.bool true) _ ⟨qv_up hV (fun _ h => Option.some.inj h), hE⟩)
              intro bq_ vq_ w_ hall hG
              obtain ⟨hV, hE⟩ := hG
              clear HS
              have HS := hE
              have hv0 := hV 0 _ rfl (hall 0 (by decide))
              have hv1 := hV 1 _ rfl (hall 1 (by decide))
              have hv2 := hV 2 _ rfl (hall 2 (by decide))
              have hv3 := hV 3 _ rfl (hall 3 (by decide))
              have hv4 := hV 4 _ rfl (hall 4 (by decide))
              have hv5 := hV 5 _ rfl (hall 5 (by decide))
              have hv6 := hV 6 _ rfl (hall 6 (by decide))
              have hv7 := hV 7 _ rfl (hall 7 (by decide))
              have hv8 := hV 8 _ rfl (hall 8 (by decide))
              have hv9 := hV 9 _ rfl (hall 9 (by decide))
              have hv10 := hV 10 _ rfl (hall 10 (by decide))
              have hv11 := hV 11 _ rfl (hall 11 (by decide))
              have hv12 := hV 12 _ rfl (hall 12 (by decide))
              have hv13 := hV 13 _ rfl (hall 13 (by decide))
              have hv14 := hV 14 _ rfl (hall 14 (by decide))
              have hv15 := hV 15 _ rfl (hall 15 (by decide))
              have hv16 := hV 16 _ rfl (hall 16 (by decide))
              have hv17 := hV 17 _ rfl (hall 17 (by decide))
              have hv18 := hV 18 _ rfl (hall 18 (by decide))
              have hv19 := hV 19 _ rfl (hall 19 (by decide))
              have hv20 := hV 20 _ rfl (hall 20 (by decide))
              have hv21 := hV 21 _ rfl (hall 21 (by decide))
              have hv22 := hV 22 _ rfl (hall 22 (by decide))
              have hv23 := hV 23 _ rfl (hall 23 (by decide))
              have hv24 := hV 24 _ rfl (hall 24 (by decide))
              have hv25 := hV 25 _ rfl (hall 25 (by decide))
              have hv26 := hV 26 _ rfl (hall 26 (by decide))
              have hv27 := hV 27 _ rfl (hall 27 (by decide))
              have hv28 := hV 28 _ rfl (hall 28 (by decide))
              have hv29 := hV 29 _ rfl (hall 29 (by decide))
              have hv30 := hV 30 _ rfl (hall 30 (by decide))
              have hv31 := hV 31 _ rfl (hall 31 (by decide))
              have hv32 := hV 32 _ rfl (hall 32 (by decide))
              have hv33 := hV 33 _ rfl (hall 33 (by decide))
              have hv34 := hV 34 _ rfl (hall 34 (by decide))
              have hv35 := hV 35 _ rfl (hall 35 (by decide))
              clear hV hall
              rw [putSel_fr]
              simp only [tells, List.map_cons, List.map_nil, setAll, List.set_cons_succ, List.set_cons_zero, hv0, hv1, hv2, hv3, hv4, hv5, hv6, hv7, hv8, hv9, hv10, hv11, hv12, hv13, hv14, hv15, hv16, hv17, hv18, hv19, hv20, hv21, hv22, hv23, hv24, hv25, hv26, hv27, hv28, hv29, hv30, hv31, hv32, hv33, hv34, hv35]
              clear hv0 hv1 hv2 hv3 hv4 hv5 hv6 hv7 hv8 hv9 hv10 hv11 hv12 hv13 hv14 hv15 hv16 hv17 hv18 hv19 hv20 hv21 hv22 hv23 hv24 hv25 hv26 hv27 hv28 hv29 hv30 hv31 hv32 hv33 hv34 hv35
              generalize w_ = w903001 at HS ⊢
              refine fr_at (l' := [.slice (some ab) b.length c0, undef, .bool true, .pointer (some ⟨G22, 0, none⟩), .slice (some ⟨gp, 0, none⟩) b.length nc43, u5, .slice A85 b.length c86, .int .i64 0, .slice (some az) ((turnB b 0 (255 : UInt8)).length) c96, .int .i64 0, .bool true, .bool false, .slice (some ab) b.length c0, .int .i64 (b.length : Int), .bool false, .pointer (some ⟨G22, 0, none⟩), .pointer (some ⟨G22, 0, none⟩), .slice (some ab) b.length c0, .tuple [].toArray, .pointer (some ⟨G22, 0, none⟩), .int .i64 0, .pointer (some ⟨G22, 0, none⟩), .slice (some ⟨gp, 0, none⟩) b.length nc43, .slice (some ⟨gp, 0, none⟩) b.length nc43, .int .i64 (b.length : Int), .int .i64 (j : Int), .bool (decide ((j : Int) < (b.length : Int))), u27, u28, u29, u30, u31, u32, u33, u34, .pointer (some ⟨G22, 0, none⟩), .int .i64 0, .tuple [.slice A85 b.length c86, .int .i64 0].toArray, .pointer (some ⟨G22, 0, none⟩), .tuple [.slice A85 b.length c86, .int .i64 0].toArray, .slice A85 b.length c86, .int .i64 0, .tuple [.slice (some az) ((turnB b 0 (255 : UInt8)).length) c96, .int .i64 0].toArray, .pointer (some ⟨G22, 0, none⟩), .tuple [.slice (some az) ((turnB b 0 (255 : UInt8)).length) c96, .int .i64 0].toArray, .slice (some az) ((turnB b 0 (255 : UInt8)).length) c96, .int .i64 0, .int .i64 0, .bool true, .bool true, .int .i64 0, .bool true, .bool true, .bool true, .slice A85 b.length c86, .string (strB b), .slice (some ab) b.length c0, .string (strB b), .bool true, .bool true, .bool true, .slice (some az) ((turnB b 0 (255 : UInt8)).length) c96, .int .i64 ((turnB b 0 (255 : UInt8)).length : Int), .slice (some ab) b.length c0, .int .i64 (b.length : Int), .bool true, .bool true, .bool true, .slice (some ab) b.length c0, .int .i64 (b.length : Int), .bool false, .bool false, .slice (some az) ((turnB b 0 (255 : UInt8)).length) c96, .pointer (some ((az).add (0))), .int .u8 (bv (x0 ^^^ 255)), .slice (some ab) b.length c0, .pointer (some ((ab).add (0))), .int .u8 (bv x0), .int .u8 (bv (x0 ^^^ 255)), .bool true, .bool true, .bool true]) rfl ?_
              refine hK100 _ _ ?_
              refine wp_ret ?_
              try simp only [Exit.inBlock, Exit.then]
              refine c_ret (.bool true) (r_tmp rfl rfl) ?_
              exact ⟨rfl, HS.belowOf⟩

theorem own_any (A0 : Option Addr) (c0 : Nat) (b : List UInt8) (w : World) (hs0 : Sl w A0 c0 b) : Calls Try.prog 10 #[.slice A0 b.length c0] w fun e w' => e = .returned (.bool true) ∧ Below w.heap.size w w' := own_law w A0 c0 b hs0
end Go.Proofs.Ytckfcnclekjjdaa
