/- LeafBack. -/
import Derived.Test.YtiokdpnhaemciaaL8a
import Derived.Test.YtiokdpnhaemciaaLeaf7
set_option linter.unusedVariables false
set_option linter.unusedSimpArgs false
namespace Go.Proofs.Ytiokdpnhaemciaa
open Go.RowKit Go.Proofs.YtiokdpnhaemciaaW.PrintWords Go.Proofs.YtiokdpnhaemciaaW.PrintLast Crc
section
variable {k k2 : Int} {b b2 q : List UInt8} {es fs : List (Int × Int)}
theorem lb_open (hb : b.length = 16) (h : ndOk k b es = true) : opK (lfP k b es) = k ∧ opB (lfP k b es) = b ∧ opS (lfP k b es) = es ∧ opE (lfP k b es) = 0 := by
  rw [(lf_yes h).1]
  obtain ⟨e1, e2, e3, e4⟩ := op_yes (ok_back hb h)
  obtain ⟨f1, f2, f3⟩ := lf_back hb h
  exact ⟨e1.trans f1, e2.trans f2, e3.trans f3, e4⟩
theorem lb_same (hb : b.length = 16) (h : ndOk k b es = true) : decide (opK (lfP k b es) = k ∧ opB (lfP k b es) = b ∧ opS (lfP k b es) = es) = true := by
  obtain ⟨e1, e2, e3, _⟩ := lb_open hb h
  exact decide_eq_true ⟨e1, e2, e3⟩
theorem lb_eq (hb : b.length = 16) (hb2 : b2.length = 16) (h : ndOk k b es = true) (h2 : ndOk k2 b2 fs = true) : decide ((lfP k b es).map bv = (lfP k2 b2 fs).map bv) = decide (k = k2 ∧ b = b2 ∧ es = fs) := by
  rw [eq_map, decide_eq_decide]
  constructor
  · intro e
    obtain ⟨e1, e2, e3, _⟩ := lb_open hb h
    obtain ⟨f1, f2, f3, _⟩ := lb_open hb2 h2
    rw [e] at e1 e2 e3
    exact ⟨e1.symm.trans f1, e2.symm.trans f2, e3.symm.trans f3⟩
  · rintro ⟨rfl, rfl, rfl⟩
    rfl
theorem lb_none (h : okN q = false) : decide (opK q = 0 ∧ opB q = zK ∧ opS q = []) = true := by
  obtain ⟨e1, e2, e3, _⟩ := op_no h
  exact decide_eq_true ⟨e1, e2, e3⟩
theorem lb_page (h : okN q = true) : lfP (opK q) (opB q) (opS q) = q ∧ lfE (opK q) (opB q) (opS q) = 0 := by
  obtain ⟨e1, e2, e3, _⟩ := op_yes h
  rw [e1, e2, e3]
  unfold okN at h
  simp only [Bool.and_eq_true, decide_eq_true_eq] at h
  obtain ⟨f1, f2⟩ := lf_yes h.1
  exact ⟨f1.trans h.2, f2⟩
end

set_option maxRecDepth 10000 in
set_option maxHeartbeats 4000000 in
theorem back_big (w : World) (k : Int) (b : List UInt8) (hb : b.length = 16) (A : Option Addr) (c : Nat) (es : List (Int × Int)) (hr : kEn.C w A es.length es) (k2 : Int) (b2 : List UInt8) (hb2 : b2.length = 16) (B : Option Addr) (d : Nat) (fs : List (Int × Int)) (hr2 : kEn.C w B fs.length fs) (q : List UInt8) (hq : q.length = 256) (h : 50 < es.length ∨ 50 < fs.length) : Calls Try.prog 11 #[.agg (Value.int .i64 k :: ((nums .u8 (b.map bv)) ++ ([Value.slice A es.length c]))).toArray, .agg (Value.int .i64 k2 :: ((nums .u8 (b2.map bv)) ++ ([Value.slice B fs.length d]))).toArray, .agg ((nums .u8 (q.map bv))).toArray] w fun e w' => e = .returned (.bool true) ∧ Below w.heap.size w w' := by
  have HS := St.empty w
  by_cases h50 : 50 < es.length
  · skip
    refine c_enter Try.func11 rfl 89 rfl [.agg (Value.int .i64 k :: ((nums .u8 (b.map bv)) ++ ([Value.slice A es.length c]))).toArray, .agg (Value.int .i64 k2 :: ((nums .u8 (b2.map bv)) ++ ([Value.slice B fs.length d]))).toArray, .agg ((nums .u8 (q.map bv))).toArray, undef, undef, undef, undef, undef, undef, undef, undef, undef, undef, undef, undef, undef, undef, undef, undef, undef, undef, undef, undef, undef, undef, undef, undef, undef, undef, undef, undef, undef, undef, undef, undef, undef, undef, undef, undef, undef, undef, undef, undef, undef, undef, undef, undef, undef, undef, undef, undef, undef, undef, undef, undef, undef, undef, undef, undef, undef, undef, undef, undef, undef, undef, undef, undef, undef, undef, undef, undef, undef, undef, undef, undef, undef, undef, undef, undef, undef, undef, undef, undef, undef, undef, undef, undef, undef, undef] rfl ?_
    refine wp_seq_k (fun K1 hK2 => ?_)
    refine c_region (fun ops4 hops3 => ?_)
    clear hops3
    refine St.wBox HS (cs := (Value.int .i64 k :: ((nums .u8 (b.map bv)) ++ ([Value.slice A es.length c])))) (.agg (Value.int .i64 k :: ((nums .u8 (b.map bv)) ++ ([Value.slice A es.length c]))).toArray) rfl rfl ?_
    clear HS
    intro g5 w6 hg7 HS
    refine St.wBox HS (cs := (Value.int .i64 k2 :: ((nums .u8 (b2.map bv)) ++ ([Value.slice B fs.length d])))) (.agg (Value.int .i64 k2 :: ((nums .u8 (b2.map bv)) ++ ([Value.slice B fs.length d]))).toArray) rfl rfl ?_
    clear HS
    intro g8 w9 hg10 HS
    refine St.wBox HS (cs := ((nums .u8 (q.map bv)))) (.agg ((nums .u8 (q.map bv))).toArray) rfl rfl ?_
    clear HS
    intro g11 w12 hg13 HS
    refine p_run (l' := _) _ (x_assign (.bool false) rfl rfl) rfl ?_
    refine wpList_nil ?_
    refine hK2 _ _ ?_
    refine wp_seq_k (fun K14 hK15 => ?_)
    refine wp_seq_k (fun K16 hK17 => ?_)
    refine c_region (fun ops19 hops18 => ?_)
    clear hops18
    refine w_call [] Try.func25 (by kernel_rfl) (by rfl) rfl ?_
    refine (lalive_any _).mono ?_
    rintro e w20 ⟨rfl, hb_⟩
    replace HS := HS.here hb_
    clear hb_
    refine ⟨_, rfl, ?_⟩
    refine p_run (l' := _) _ (x_not true rfl rfl) rfl ?_
    refine wpList_nil ?_
    refine hK17 _ _ ?_
    refine c_false rfl ?_
    refine wp_skip ?_
    refine hK15 _ _ ?_
    refine wp_seq_k (fun K21 hK22 => ?_)
    refine wp_seq_k (fun K23 hK24 => ?_)
    refine c_region (fun ops26 hops25 => ?_)
    refine p_run (l' := _) _ (x_field (j := 17) _ _ rfl rfl Try.underlying52 rfl (by rfl) rfl) rfl ?_
    refine p_run (l' := _) _ (x_load (.slice A es.length c) rfl rfl (bkCell (HS.get (.tail _ (.tail _ (.head _)))) 17 _ (by simp [List.getElem?_append, List.length_map, hb, nums_length])) (by rfl)) rfl ?_
    refine p_run (l' := _) _ (x_len rfl rfl Try.underlying50) rfl ?_
    refine p_run (l' := _) _ (x_cmp (k := .i64) (m := (es.length : Int)) (n := 50) .gtr true rfl rfl rfl (show decide ((es.length : Int) > 50) = true from decide_eq_true (by omega)) rfl) rfl ?_
    refine p_run (l' := _) _ (x_move (.bool true) rfl rfl) rfl ?_
    refine p_off (l' := [.agg (Value.int .i64 k :: ((nums .u8 (b.map bv)) ++ ([Value.slice A es.length c]))).toArray, .agg (Value.int .i64 k2 :: ((nums .u8 (b2.map bv)) ++ ([Value.slice B fs.length d]))).toArray, .agg ((nums .u8 (q.map bv))).toArray, .pointer (some ⟨g5, 0, none⟩), .pointer (some ⟨g8, 0, none⟩), .pointer (some ⟨g11, 0, none⟩), .bool false, undef, undef, undef, undef, undef, undef, undef, undef, undef, undef, .bool true, .bool false, .pointer (some ⟨g5, 17, none⟩), .slice A es.length c, .int .i64 (es.length : Int), .bool true, .bool true, undef, undef, undef, undef, undef, undef, undef, undef, undef, undef, undef, undef, undef, undef, undef, undef, undef, undef, undef, undef, undef, undef, undef, undef, undef, undef, undef, undef, undef, undef, undef, undef, undef, undef, undef, undef, undef, undef, undef, undef, undef, undef, undef, undef, undef, undef, undef, undef, undef, undef, undef, undef, undef, undef, undef, undef, undef, undef, undef, undef, undef, undef, undef, undef, undef]) (by rw [hops25]; rfl) rfl ?_
    refine p_off (l' := _) (by rw [hops25]; rfl) rfl ?_
    refine p_off (l' := _) (by rw [hops25]; rfl) rfl ?_
    refine p_off (l' := _) (by rw [hops25]; rfl) rfl ?_
    refine p_run (l' := _) _ (x_pick true (.bool true) (undef) (.bool true) rfl rfl rfl rfl rfl) rfl ?_
    clear hops25
    refine wpList_nil ?_
    refine hK24 _ _ ?_
    refine c_true rfl ?_
    refine wp_seq_k (fun K27 hK28 => ?_)
    refine c_region (fun ops30 hops29 => ?_)
    clear hops29
    refine p_run (l' := _) _ (x_assign (.bool true) rfl rfl) rfl ?_
    refine wpList_nil ?_
    refine hK28 _ _ ?_
    refine wp_ret ?_
    try simp only [Exit.inBlock, Exit.then]
    refine c_ret (.bool true) (r_tmp rfl rfl) ?_
    exact ⟨rfl, HS.belowOf⟩
  · skip
    have h51 : 50 < fs.length := h.resolve_left h50
    refine c_enter Try.func11 rfl 89 rfl [.agg (Value.int .i64 k :: ((nums .u8 (b.map bv)) ++ ([Value.slice A es.length c]))).toArray, .agg (Value.int .i64 k2 :: ((nums .u8 (b2.map bv)) ++ ([Value.slice B fs.length d]))).toArray, .agg ((nums .u8 (q.map bv))).toArray, undef, undef, undef, undef, undef, undef, undef, undef, undef, undef, undef, undef, undef, undef, undef, undef, undef, undef, undef, undef, undef, undef, undef, undef, undef, undef, undef, undef, undef, undef, undef, undef, undef, undef, undef, undef, undef, undef, undef, undef, undef, undef, undef, undef, undef, undef, undef, undef, undef, undef, undef, undef, undef, undef, undef, undef, undef, undef, undef, undef, undef, undef, undef, undef, undef, undef, undef, undef, undef, undef, undef, undef, undef, undef, undef, undef, undef, undef, undef, undef, undef, undef, undef, undef, undef, undef] rfl ?_
    refine wp_seq_k (fun K1 hK2 => ?_)
    refine c_region (fun ops4 hops3 => ?_)
    clear hops3
    refine St.wBox HS (cs := (Value.int .i64 k :: ((nums .u8 (b.map bv)) ++ ([Value.slice A es.length c])))) (.agg (Value.int .i64 k :: ((nums .u8 (b.map bv)) ++ ([Value.slice A es.length c]))).toArray) rfl rfl ?_
    clear HS
    intro g5 w6 hg7 HS
    refine St.wBox HS (cs := (Value.int .i64 k2 :: ((nums .u8 (b2.map bv)) ++ ([Value.slice B fs.length d])))) (.agg (Value.int .i64 k2 :: ((nums .u8 (b2.map bv)) ++ ([Value.slice B fs.length d]))).toArray) rfl rfl ?_
    clear HS
    intro g8 w9 hg10 HS
    refine St.wBox HS (cs := ((nums .u8 (q.map bv)))) (.agg ((nums .u8 (q.map bv))).toArray) rfl rfl ?_
    clear HS
    intro g11 w12 hg13 HS
    refine p_run (l' := _) _ (x_assign (.bool false) rfl rfl) rfl ?_
    refine wpList_nil ?_
    refine hK2 _ _ ?_
    refine wp_seq_k (fun K14 hK15 => ?_)
    refine wp_seq_k (fun K16 hK17 => ?_)
    refine c_region (fun ops19 hops18 => ?_)
    clear hops18
    refine w_call [] Try.func25 (by kernel_rfl) (by rfl) rfl ?_
    refine (lalive_any _).mono ?_
    rintro e w20 ⟨rfl, hb_⟩
    replace HS := HS.here hb_
    clear hb_
    refine ⟨_, rfl, ?_⟩
    refine p_run (l' := _) _ (x_not true rfl rfl) rfl ?_
    refine wpList_nil ?_
    refine hK17 _ _ ?_
    refine c_false rfl ?_
    refine wp_skip ?_
    refine hK15 _ _ ?_
    refine wp_seq_k (fun K21 hK22 => ?_)
    refine wp_seq_k (fun K23 hK24 => ?_)
    refine c_region (fun ops26 hops25 => ?_)
    refine p_run (l' := _) _ (x_field (j := 17) _ _ rfl rfl Try.underlying52 rfl (by rfl) rfl) rfl ?_
    refine p_run (l' := _) _ (x_load (.slice A es.length c) rfl rfl (bkCell (HS.get (.tail _ (.tail _ (.head _)))) 17 _ (by simp [List.getElem?_append, List.length_map, hb, nums_length])) (by rfl)) rfl ?_
    refine p_run (l' := _) _ (x_len rfl rfl Try.underlying50) rfl ?_
    refine p_run (l' := _) _ (x_cmp (k := .i64) (m := (es.length : Int)) (n := 50) .gtr false rfl rfl rfl (show decide ((es.length : Int) > 50) = false from decide_eq_false (by omega)) rfl) rfl ?_
    refine p_run (l' := _) _ (x_move (.bool false) rfl rfl) rfl ?_
    refine p_on rfl (by rw [hops25]; rfl) ?_
    refine p_run (l' := [.agg (Value.int .i64 k :: ((nums .u8 (b.map bv)) ++ ([Value.slice A es.length c]))).toArray, .agg (Value.int .i64 k2 :: ((nums .u8 (b2.map bv)) ++ ([Value.slice B fs.length d]))).toArray, .agg ((nums .u8 (q.map bv))).toArray, .pointer (some ⟨g5, 0, none⟩), .pointer (some ⟨g8, 0, none⟩), .pointer (some ⟨g11, 0, none⟩), .bool false, undef, undef, undef, undef, undef, undef, undef, undef, undef, undef, .bool true, .bool false, .pointer (some ⟨g5, 17, none⟩), .slice A es.length c, .int .i64 (es.length : Int), .bool false, .bool false, .pointer (some ⟨g8, 17, none⟩), undef, undef, undef, undef, undef, undef, undef, undef, undef, undef, undef, undef, undef, undef, undef, undef, undef, undef, undef, undef, undef, undef, undef, undef, undef, undef, undef, undef, undef, undef, undef, undef, undef, undef, undef, undef, undef, undef, undef, undef, undef, undef, undef, undef, undef, undef, undef, undef, undef, undef, undef, undef, undef, undef, undef, undef, undef, undef, undef, undef, undef, undef, undef, undef]) _ (x_field (j := 17) _ _ rfl rfl Try.underlying52 rfl (by rfl) rfl) rfl ?_
    refine p_on rfl (by rw [hops25]; rfl) ?_
    refine p_run (l' := _) _ (x_load (.slice B fs.length d) rfl rfl (bkCell (HS.get (.tail _ (.head _))) 17 _ (by simp [List.getElem?_append, List.length_map, hb2, nums_length])) (by rfl)) rfl ?_
    refine p_on rfl (by rw [hops25]; rfl) ?_
    refine p_run (l' := _) _ (x_len rfl rfl Try.underlying50) rfl ?_
    refine p_on rfl (by rw [hops25]; rfl) ?_
    refine p_run (l' := _) _ (x_cmp (k := .i64) (m := (fs.length : Int)) (n := 50) .gtr true rfl rfl rfl (show decide ((fs.length : Int) > 50) = true from decide_eq_true (by omega)) rfl) rfl ?_
    refine p_run (l' := _) _ (x_pick false (.bool true) (.bool true) (.bool true) rfl rfl rfl rfl rfl) rfl ?_
    clear hops25
    refine wpList_nil ?_
    refine hK24 _ _ ?_
    refine c_true rfl ?_
    refine wp_seq_k (fun K27 hK28 => ?_)
    refine c_region (fun ops30 hops29 => ?_)
    clear hops29
    refine p_run (l' := _) _ (x_assign (.bool true) rfl rfl) rfl ?_
    refine wpList_nil ?_
    refine hK28 _ _ ?_
    refine wp_ret ?_
    try simp only [Exit.inBlock, Exit.then]
    refine c_ret (.bool true) (r_tmp rfl rfl) ?_
    exact ⟨rfl, HS.belowOf⟩

set_option maxRecDepth 10000 in
set_option maxHeartbeats 4000000 in
theorem back_no (w : World) (k : Int) (b : List UInt8) (hb : b.length = 16) (A : Option Addr) (c : Nat) (es : List (Int × Int)) (hr : kEn.C w A es.length es) (k2 : Int) (b2 : List UInt8) (hb2 : b2.length = 16) (B : Option Addr) (d : Nat) (fs : List (Int × Int)) (hr2 : kEn.C w B fs.length fs) (q : List UInt8) (hq : q.length = 256) (hl : es.length ≤ 1000) (hl2 : fs.length ≤ 1000) (h50 : ¬ 50 < es.length) (h51 : ¬ 50 < fs.length) (hA : ndOk k b es = false) : Calls Try.prog 11 #[.agg (Value.int .i64 k :: ((nums .u8 (b.map bv)) ++ ([Value.slice A es.length c]))).toArray, .agg (Value.int .i64 k2 :: ((nums .u8 (b2.map bv)) ++ ([Value.slice B fs.length d]))).toArray, .agg ((nums .u8 (q.map bv))).toArray] w fun e w' => e = .returned (.bool true) ∧ Below w.heap.size w w' := by
  have HS := St.empty w
  · skip
    rcases hQ : okN q with _ | _
    · skip
      refine c_enter Try.func11 rfl 89 rfl [.agg (Value.int .i64 k :: ((nums .u8 (b.map bv)) ++ ([Value.slice A es.length c]))).toArray, .agg (Value.int .i64 k2 :: ((nums .u8 (b2.map bv)) ++ ([Value.slice B fs.length d]))).toArray, .agg ((nums .u8 (q.map bv))).toArray, undef, undef, undef, undef, undef, undef, undef, undef, undef, undef, undef, undef, undef, undef, undef, undef, undef, undef, undef, undef, undef, undef, undef, undef, undef, undef, undef, undef, undef, undef, undef, undef, undef, undef, undef, undef, undef, undef, undef, undef, undef, undef, undef, undef, undef, undef, undef, undef, undef, undef, undef, undef, undef, undef, undef, undef, undef, undef, undef, undef, undef, undef, undef, undef, undef, undef, undef, undef, undef, undef, undef, undef, undef, undef, undef, undef, undef, undef, undef, undef, undef, undef, undef, undef, undef, undef] rfl ?_
      refine wp_seq_k (fun K1 hK2 => ?_)
      refine c_region (fun ops4 hops3 => ?_)
      clear hops3
      refine St.wBox HS (cs := (Value.int .i64 k :: ((nums .u8 (b.map bv)) ++ ([Value.slice A es.length c])))) (.agg (Value.int .i64 k :: ((nums .u8 (b.map bv)) ++ ([Value.slice A es.length c]))).toArray) rfl rfl ?_
      clear HS
      intro g5 w6 hg7 HS
      refine St.wBox HS (cs := (Value.int .i64 k2 :: ((nums .u8 (b2.map bv)) ++ ([Value.slice B fs.length d])))) (.agg (Value.int .i64 k2 :: ((nums .u8 (b2.map bv)) ++ ([Value.slice B fs.length d]))).toArray) rfl rfl ?_
      clear HS
      intro g8 w9 hg10 HS
      refine St.wBox HS (cs := ((nums .u8 (q.map bv)))) (.agg ((nums .u8 (q.map bv))).toArray) rfl rfl ?_
      clear HS
      intro g11 w12 hg13 HS
      refine p_run (l' := _) _ (x_assign (.bool false) rfl rfl) rfl ?_
      refine wpList_nil ?_
      refine hK2 _ _ ?_
      refine wp_seq_k (fun K14 hK15 => ?_)
      refine wp_seq_k (fun K16 hK17 => ?_)
      refine c_region (fun ops19 hops18 => ?_)
      clear hops18
      refine w_call [] Try.func25 (by kernel_rfl) (by rfl) rfl ?_
      refine (lalive_any _).mono ?_
      rintro e w20 ⟨rfl, hb_⟩
      replace HS := HS.here hb_
      clear hb_
      refine ⟨_, rfl, ?_⟩
      refine p_run (l' := _) _ (x_not true rfl rfl) rfl ?_
      refine wpList_nil ?_
      refine hK17 _ _ ?_
      refine c_false rfl ?_
      refine wp_skip ?_
      refine hK15 _ _ ?_
      refine wp_seq_k (fun K21 hK22 => ?_)
      refine wp_seq_k (fun K23 hK24 => ?_)
      refine c_region (fun ops26 hops25 => ?_)
      refine p_run (l' := _) _ (x_field (j := 17) _ _ rfl rfl Try.underlying52 rfl (by rfl) rfl) rfl ?_
      refine p_run (l' := _) _ (x_load (.slice A es.length c) rfl rfl (bkCell (HS.get (.tail _ (.tail _ (.head _)))) 17 _ (by simp [List.getElem?_append, List.length_map, hb, nums_length])) (by rfl)) rfl ?_
      refine p_run (l' := _) _ (x_len rfl rfl Try.underlying50) rfl ?_
      refine p_run (l' := _) _ (x_cmp (k := .i64) (m := (es.length : Int)) (n := 50) .gtr false rfl rfl rfl (show decide ((es.length : Int) > 50) = false from decide_eq_false (by omega)) rfl) rfl ?_
      refine p_run (l' := _) _ (x_move (.bool false) rfl rfl) rfl ?_
      refine p_on rfl (by rw [hops25]; rfl) ?_
      refine p_run (l' := [.agg (Value.int .i64 k :: ((nums .u8 (b.map bv)) ++ ([Value.slice A es.length c]))).toArray, .agg (Value.int .i64 k2 :: ((nums .u8 (b2.map bv)) ++ ([Value.slice B fs.length d]))).toArray, .agg ((nums .u8 (q.map bv))).toArray, .pointer (some ⟨g5, 0, none⟩), .pointer (some ⟨g8, 0, none⟩), .pointer (some ⟨g11, 0, none⟩), .bool false, undef, undef, undef, undef, undef, undef, undef, undef, undef, undef, .bool true, .bool false, .pointer (some ⟨g5, 17, none⟩), .slice A es.length c, .int .i64 (es.length : Int), .bool false, .bool false, .pointer (some ⟨g8, 17, none⟩), undef, undef, undef, undef, undef, undef, undef, undef, undef, undef, undef, undef, undef, undef, undef, undef, undef, undef, undef, undef, undef, undef, undef, undef, undef, undef, undef, undef, undef, undef, undef, undef, undef, undef, undef, undef, undef, undef, undef, undef, undef, undef, undef, undef, undef, undef, undef, undef, undef, undef, undef, undef, undef, undef, undef, undef, undef, undef, undef, undef, undef, undef, undef, undef]) _ (x_field (j := 17) _ _ rfl rfl Try.underlying52 rfl (by rfl) rfl) rfl ?_
      refine p_on rfl (by rw [hops25]; rfl) ?_
      refine p_run (l' := _) _ (x_load (.slice B fs.length d) rfl rfl (bkCell (HS.get (.tail _ (.head _))) 17 _ (by simp [List.getElem?_append, List.length_map, hb2, nums_length])) (by rfl)) rfl ?_
      refine p_on rfl (by rw [hops25]; rfl) ?_
      refine p_run (l' := _) _ (x_len rfl rfl Try.underlying50) rfl ?_
      refine p_on rfl (by rw [hops25]; rfl) ?_
      refine p_run (l' := _) _ (x_cmp (k := .i64) (m := (fs.length : Int)) (n := 50) .gtr false rfl rfl rfl (show decide ((fs.length : Int) > 50) = false from decide_eq_false (by omega)) rfl) rfl ?_
      refine p_run (l' := _) _ (x_pick false (.bool true) (.bool false) (.bool false) rfl rfl rfl rfl rfl) rfl ?_
      clear hops25
      refine wpList_nil ?_
      refine hK24 _ _ ?_
      refine c_false rfl ?_
      refine wp_skip ?_
      refine hK22 _ _ ?_
      refine wp_seq_k (fun K27 hK28 => ?_)
      refine c_region (fun ops30 hops29 => ?_)
      clear hops29
      refine p_run (l' := _) _ (x_loads (Value.int .i64 k :: ((nums .u8 (b.map bv)) ++ ([Value.slice A es.length c]))) 18 rfl rfl (bkCells (HS.get (.tail _ (.tail _ (.head _)))) 0 _ (whole _)) (by rfl) (by kernel_rfl) (by simp [List.length_map, hb, nums_length])) rfl ?_
      refine w_call [.agg (Value.int .i64 k :: ((nums .u8 (b.map bv)) ++ ([Value.slice A es.length c]))).toArray] Try.func23 (by kernel_rfl) (by rfl) rfl ?_
      refine (lpage_any _ k b hb A c es (Kd.C_below hr HS.belowOf) hl).mono ?_
      rintro e w31 ⟨rfl, hb_⟩
      replace HS := HS.here hb_
      clear hb_
      refine ⟨_, rfl, ?_⟩
      refine p_run (l' := _) _ (x_move (.tuple [.agg ((nums .u8 ((lfP k b es).map bv))).toArray, .int .i64 (lfE k b es)].toArray) rfl rfl) rfl ?_
      refine p_run (l' := _) _ (x_extract (vs := [.agg ((nums .u8 ((lfP k b es).map bv))).toArray, .int .i64 (lfE k b es)]) 0 (.agg ((nums .u8 ((lfP k b es).map bv))).toArray) rfl rfl rfl) rfl ?_
      refine p_run (l' := _) _ (x_extract (vs := [.agg ((nums .u8 ((lfP k b es).map bv))).toArray, .int .i64 (lfE k b es)]) 1 (.int .i64 (lfE k b es)) rfl rfl rfl) rfl ?_
      refine St.wAlloc HS (cs := ((nums .u8 (zQ.map bv)))) (.agg ((nums .u8 (zQ.map bv))).toArray) (by kernel_rfl) rfl ?_
      clear HS
      intro g32 w33 hg34 HS
      refine St.stores (cs' := ((nums .u8 ((lfP k b es).map bv)))) HS ((nums .u8 ((lfP k b es).map bv))) 256 rfl rfl (nums_one _ _) (by kernel_rfl) (by simp [(lfP_len k hb es), List.length_map, nums_length]) (by simp [(lfP_len k hb es), List.length_map, nums_length, zQ_len]) (lay_all _ _ (by simp [(lfP_len k hb es), List.length_map, nums_length, zQ_len])) ?_
      clear HS
      intro w35 HS
      refine p_run (l' := _) _ (x_assign (.int .i64 (lfE k b es)) rfl rfl) rfl ?_
      refine wpList_nil ?_
      refine fr_at (l' := [.agg (Value.int .i64 k :: ((nums .u8 (b.map bv)) ++ ([Value.slice A es.length c]))).toArray, .agg (Value.int .i64 k2 :: ((nums .u8 (b2.map bv)) ++ ([Value.slice B fs.length d]))).toArray, .agg ((nums .u8 (q.map bv))).toArray, .pointer (some ⟨g5, 0, none⟩), .pointer (some ⟨g8, 0, none⟩), .pointer (some ⟨g11, 0, none⟩), .bool false, .pointer (some ⟨g32, 0, none⟩), .int .i64 (lfE k b es), undef, undef, undef, undef, undef, undef, undef, undef, .bool true, .bool false, .pointer (some ⟨g5, 17, none⟩), .slice A es.length c, .int .i64 (es.length : Int), .bool false, .bool false, .pointer (some ⟨g8, 17, none⟩), .slice B fs.length d, .int .i64 (fs.length : Int), .bool false, .bool false, .tuple [.agg ((nums .u8 ((lfP k b es).map bv))).toArray, .int .i64 (lfE k b es)].toArray, .agg (Value.int .i64 k :: ((nums .u8 (b.map bv)) ++ ([Value.slice A es.length c]))).toArray, .tuple [.agg ((nums .u8 ((lfP k b es).map bv))).toArray, .int .i64 (lfE k b es)].toArray, .agg ((nums .u8 ((lfP k b es).map bv))).toArray, .int .i64 (lfE k b es), undef, undef, undef, undef, undef, undef, undef, undef, undef, undef, undef, undef, undef, undef, undef, undef, undef, undef, undef, undef, undef, undef, undef, undef, undef, undef, undef, undef, undef, undef, undef, undef, undef, undef, undef, undef, undef, undef, undef, undef, undef, undef, undef, undef, undef, undef, undef, undef, undef, undef, undef, undef, undef, undef, undef]) rfl ?_
      refine hK28 _ _ ?_
      refine wp_seq_k (fun K36 hK37 => ?_)
      refine c_region (fun ops39 hops38 => ?_)
      clear hops38
      refine p_run (l' := _) _ (x_loads (Value.int .i64 k2 :: ((nums .u8 (b2.map bv)) ++ ([Value.slice B fs.length d]))) 18 rfl rfl (bkCells (HS.get (.tail _ (.tail _ (.head _)))) 0 _ (whole _)) (by rfl) (by kernel_rfl) (by simp [List.length_map, hb2, nums_length])) rfl ?_
      refine w_call [.agg (Value.int .i64 k2 :: ((nums .u8 (b2.map bv)) ++ ([Value.slice B fs.length d]))).toArray] Try.func23 (by kernel_rfl) (by rfl) rfl ?_
      refine (lpage_any _ k2 b2 hb2 B d fs (Kd.C_below hr2 HS.belowOf) hl2).mono ?_
      rintro e w40 ⟨rfl, hb_⟩
      replace HS := HS.here hb_
      clear hb_
      refine ⟨_, rfl, ?_⟩
      refine p_run (l' := _) _ (x_move (.tuple [.agg ((nums .u8 ((lfP k2 b2 fs).map bv))).toArray, .int .i64 (lfE k2 b2 fs)].toArray) rfl rfl) rfl ?_
      refine p_run (l' := _) _ (x_extract (vs := [.agg ((nums .u8 ((lfP k2 b2 fs).map bv))).toArray, .int .i64 (lfE k2 b2 fs)]) 0 (.agg ((nums .u8 ((lfP k2 b2 fs).map bv))).toArray) rfl rfl rfl) rfl ?_
      refine p_run (l' := _) _ (x_extract (vs := [.agg ((nums .u8 ((lfP k2 b2 fs).map bv))).toArray, .int .i64 (lfE k2 b2 fs)]) 1 (.int .i64 (lfE k2 b2 fs)) rfl rfl rfl) rfl ?_
      refine St.wAlloc HS (cs := ((nums .u8 (zQ.map bv)))) (.agg ((nums .u8 (zQ.map bv))).toArray) (by kernel_rfl) rfl ?_
      clear HS
      intro g41 w42 hg43 HS
      refine St.stores (cs' := ((nums .u8 ((lfP k2 b2 fs).map bv)))) HS ((nums .u8 ((lfP k2 b2 fs).map bv))) 256 rfl rfl (nums_one _ _) (by kernel_rfl) (by simp [(lfP_len k2 hb2 fs), List.length_map, nums_length]) (by simp [(lfP_len k2 hb2 fs), List.length_map, nums_length, zQ_len]) (lay_all _ _ (by simp [(lfP_len k2 hb2 fs), List.length_map, nums_length, zQ_len])) ?_
      clear HS
      intro w44 HS
      refine p_run (l' := _) _ (x_assign (.int .i64 (lfE k2 b2 fs)) rfl rfl) rfl ?_
      refine wpList_nil ?_
      refine hK37 _ _ ?_
      refine wp_seq_k (fun K45 hK46 => ?_)
      refine wp_seq_k (fun K47 hK48 => ?_)
      refine c_region (fun ops50 hops49 => ?_)
      clear hops49
      refine p_run (l' := _) _ (x_move (.int .i64 (lfE k b es)) rfl rfl) rfl ?_
      refine p_run (l' := _) _ (x_cmp (k := .i64) (m := (lfE k b es)) (n := 0) .eql false rfl rfl rfl (by rw [(lf_no hA).2]; decide) rfl) rfl ?_
      refine wpList_nil ?_
      refine fr_at (l' := [.agg (Value.int .i64 k :: ((nums .u8 (b.map bv)) ++ ([Value.slice A es.length c]))).toArray, .agg (Value.int .i64 k2 :: ((nums .u8 (b2.map bv)) ++ ([Value.slice B fs.length d]))).toArray, .agg ((nums .u8 (q.map bv))).toArray, .pointer (some ⟨g5, 0, none⟩), .pointer (some ⟨g8, 0, none⟩), .pointer (some ⟨g11, 0, none⟩), .bool false, .pointer (some ⟨g32, 0, none⟩), .int .i64 (lfE k b es), .pointer (some ⟨g41, 0, none⟩), .int .i64 (lfE k2 b2 fs), undef, undef, undef, undef, undef, undef, .bool true, .bool false, .pointer (some ⟨g5, 17, none⟩), .slice A es.length c, .int .i64 (es.length : Int), .bool false, .bool false, .pointer (some ⟨g8, 17, none⟩), .slice B fs.length d, .int .i64 (fs.length : Int), .bool false, .bool false, .tuple [.agg ((nums .u8 ((lfP k b es).map bv))).toArray, .int .i64 (lfE k b es)].toArray, .agg (Value.int .i64 k :: ((nums .u8 (b.map bv)) ++ ([Value.slice A es.length c]))).toArray, .tuple [.agg ((nums .u8 ((lfP k b es).map bv))).toArray, .int .i64 (lfE k b es)].toArray, .agg ((nums .u8 ((lfP k b es).map bv))).toArray, .int .i64 (lfE k b es), .tuple [.agg ((nums .u8 ((lfP k2 b2 fs).map bv))).toArray, .int .i64 (lfE k2 b2 fs)].toArray, .agg (Value.int .i64 k2 :: ((nums .u8 (b2.map bv)) ++ ([Value.slice B fs.length d]))).toArray, .tuple [.agg ((nums .u8 ((lfP k2 b2 fs).map bv))).toArray, .int .i64 (lfE k2 b2 fs)].toArray, .agg ((nums .u8 ((lfP k2 b2 fs).map bv))).toArray, .int .i64 (lfE k2 b2 fs), .int .i64 (lfE k b es), .bool false, undef, undef, undef, undef, undef, undef, undef, undef, undef, undef, undef, undef, undef, undef, undef, undef, undef, undef, undef, undef, undef, undef, undef, undef, undef, undef, undef, undef, undef, undef, undef, undef, undef, undef, undef, undef, undef, undef, undef, undef, undef, undef, undef, undef, undef, undef, undef, undef]) rfl ?_
      refine hK48 _ _ ?_
      refine c_false rfl ?_
      refine wp_skip ?_
      refine hK46 _ _ ?_
      refine wp_seq_k (fun K51 hK52 => ?_)
      refine c_region (fun ops54 hops53 => ?_)
      clear hops53
      refine p_run (l' := _) _ (x_loads ((nums .u8 (q.map bv))) 256 rfl rfl (bkCells (HS.get (.tail _ (.tail _ (.head _)))) 0 _ (whole _)) (by rfl) (by kernel_rfl) (by simp [List.length_map, hq, nums_length])) rfl ?_
      refine w_call [.agg ((nums .u8 (q.map bv))).toArray] Try.func24 (by kernel_rfl) (by rfl) rfl ?_
      refine (lopen_any _ q hq).mono ?_
      rintro e w57 ⟨oa55, nc56, rfl, hk_⟩
      replace HS := HS.more hk_
      clear hk_
      refine ⟨_, rfl, ?_⟩
      refine p_run (l' := _) _ (x_move (.tuple [.agg (Value.int .i64 (opK q) :: ((nums .u8 ((opB q).map bv)) ++ ([Value.slice oa55 ((opS q).length) nc56]))).toArray, .int .i64 (opE q)].toArray) rfl rfl) rfl ?_
      refine p_run (l' := _) _ (x_extract (vs := [.agg (Value.int .i64 (opK q) :: ((nums .u8 ((opB q).map bv)) ++ ([Value.slice oa55 ((opS q).length) nc56]))).toArray, .int .i64 (opE q)]) 0 (.agg (Value.int .i64 (opK q) :: ((nums .u8 ((opB q).map bv)) ++ ([Value.slice oa55 ((opS q).length) nc56]))).toArray) rfl rfl rfl) rfl ?_
      refine p_run (l' := _) _ (x_extract (vs := [.agg (Value.int .i64 (opK q) :: ((nums .u8 ((opB q).map bv)) ++ ([Value.slice oa55 ((opS q).length) nc56]))).toArray, .int .i64 (opE q)]) 1 (.int .i64 (opE q)) rfl rfl rfl) rfl ?_
      refine St.wAlloc HS (cs := (Value.int .i64 0 :: ((nums .u8 (zK.map bv)) ++ ([Value.slice none 0 0])))) (.agg (Value.int .i64 0 :: ((nums .u8 (zK.map bv)) ++ ([Value.slice none 0 0]))).toArray) (by kernel_rfl) rfl ?_
      clear HS
      intro g58 w59 hg60 HS
      refine St.stores (cs' := (Value.int .i64 (opK q) :: ((nums .u8 ((opB q).map bv)) ++ ([Value.slice oa55 ((opS q).length) nc56])))) HS (Value.int .i64 (opK q) :: ((nums .u8 ((opB q).map bv)) ++ ([Value.slice oa55 ((opS q).length) nc56]))) 18 rfl rfl (all1 rfl (allA (nums_one _ _) (all1 rfl rfl))) (by kernel_rfl) (by simp [(opB_len hq), List.length_map, nums_length]) (by simp [(opB_len hq), List.length_map, nums_length, zK_len]) (lay_all _ _ (by simp [(opB_len hq), List.length_map, nums_length, zK_len])) ?_
      clear HS
      intro w61 HS
      refine p_run (l' := _) _ (x_assign (.int .i64 (opE q)) rfl rfl) rfl ?_
      refine wpList_nil ?_
      refine hK52 _ _ ?_
      refine wp_seq_k (fun K62 hK63 => ?_)
      refine wp_seq_k (fun K64 hK65 => ?_)
      refine c_region (fun ops67 hops66 => ?_)
      clear hops66
      refine p_run (l' := _) _ (x_move (.int .i64 (opE q)) rfl rfl) rfl ?_
      refine p_run (l' := _) _ (x_cmp (k := .i64) (m := (opE q)) (n := 0) .neq true rfl rfl rfl (neq_no' (by rw [(op_no hQ).2.2.2]; decide)) rfl) rfl ?_
      refine wpList_nil ?_
      refine fr_at (l' := [.agg (Value.int .i64 k :: ((nums .u8 (b.map bv)) ++ ([Value.slice A es.length c]))).toArray, .agg (Value.int .i64 k2 :: ((nums .u8 (b2.map bv)) ++ ([Value.slice B fs.length d]))).toArray, .agg ((nums .u8 (q.map bv))).toArray, .pointer (some ⟨g5, 0, none⟩), .pointer (some ⟨g8, 0, none⟩), .pointer (some ⟨g11, 0, none⟩), .bool false, .pointer (some ⟨g32, 0, none⟩), .int .i64 (lfE k b es), .pointer (some ⟨g41, 0, none⟩), .int .i64 (lfE k2 b2 fs), undef, undef, .pointer (some ⟨g58, 0, none⟩), .int .i64 (opE q), undef, undef, .bool true, .bool false, .pointer (some ⟨g5, 17, none⟩), .slice A es.length c, .int .i64 (es.length : Int), .bool false, .bool false, .pointer (some ⟨g8, 17, none⟩), .slice B fs.length d, .int .i64 (fs.length : Int), .bool false, .bool false, .tuple [.agg ((nums .u8 ((lfP k b es).map bv))).toArray, .int .i64 (lfE k b es)].toArray, .agg (Value.int .i64 k :: ((nums .u8 (b.map bv)) ++ ([Value.slice A es.length c]))).toArray, .tuple [.agg ((nums .u8 ((lfP k b es).map bv))).toArray, .int .i64 (lfE k b es)].toArray, .agg ((nums .u8 ((lfP k b es).map bv))).toArray, .int .i64 (lfE k b es), .tuple [.agg ((nums .u8 ((lfP k2 b2 fs).map bv))).toArray, .int .i64 (lfE k2 b2 fs)].toArray, .agg (Value.int .i64 k2 :: ((nums .u8 (b2.map bv)) ++ ([Value.slice B fs.length d]))).toArray, .tuple [.agg ((nums .u8 ((lfP k2 b2 fs).map bv))).toArray, .int .i64 (lfE k2 b2 fs)].toArray, .agg ((nums .u8 ((lfP k2 b2 fs).map bv))).toArray, .int .i64 (lfE k2 b2 fs), .int .i64 (lfE k b es), .bool false, undef, undef, undef, undef, undef, undef, undef, undef, undef, undef, undef, undef, undef, undef, undef, undef, undef, undef, undef, undef, undef, undef, undef, undef, undef, undef, .tuple [.agg (Value.int .i64 (opK q) :: ((nums .u8 ((opB q).map bv)) ++ ([Value.slice oa55 ((opS q).length) nc56]))).toArray, .int .i64 (opE q)].toArray, .agg ((nums .u8 (q.map bv))).toArray, .tuple [.agg (Value.int .i64 (opK q) :: ((nums .u8 ((opB q).map bv)) ++ ([Value.slice oa55 ((opS q).length) nc56]))).toArray, .int .i64 (opE q)].toArray, .agg (Value.int .i64 (opK q) :: ((nums .u8 ((opB q).map bv)) ++ ([Value.slice oa55 ((opS q).length) nc56]))).toArray, .int .i64 (opE q), .int .i64 (opE q), .bool true, undef, undef, undef, undef, undef, undef, undef, undef, undef, undef, undef, undef, undef, undef, undef]) rfl ?_
      refine hK65 _ _ ?_
      refine c_true rfl ?_
      refine wp_seq_k (fun K68 hK69 => ?_)
      refine c_region (fun ops71 hops70 => ?_)
      clear hops70
      refine p_run (l' := _) _ (x_loads (Value.int .i64 (opK q) :: ((nums .u8 ((opB q).map bv)) ++ ([Value.slice oa55 ((opS q).length) nc56]))) 18 rfl rfl (bkCells (HS.get (.head _)) 0 _ (whole _)) (by rfl) (by kernel_rfl) (by simp [(opB_len hq), List.length_map, nums_length])) rfl ?_
      refine p_run (l' := _) _ (x_build (Value.int .i64 0 :: ((nums .u8 (zK.map bv)) ++ ([Value.slice none 0 0]))) rfl (by kernel_rfl)) rfl ?_
      refine w_call [.agg (Value.int .i64 (opK q) :: ((nums .u8 ((opB q).map bv)) ++ ([Value.slice oa55 ((opS q).length) nc56]))).toArray, .agg (Value.int .i64 0 :: ((nums .u8 (zK.map bv)) ++ ([Value.slice none 0 0]))).toArray] Try.func30 (by kernel_rfl) (by rfl) rfl ?_
      refine (same_any _ (opK q) (opB q) (opB_len hq) oa55 nc56 (opS q) (row_C (HS.get (.tail _ (.head _)))).2.2 (opS_le q) 0 zK zK_len none 0 [] (en_nil _) (by decide)).mono ?_
      rintro e w72 ⟨he_, hb_⟩
      rw [(lb_none hQ)] at he_
      subst he_
      replace HS := HS.here hb_
      clear hb_
      refine ⟨_, rfl, ?_⟩
      refine p_run (l' := _) _ (x_assign (.bool true) rfl rfl) rfl ?_
      refine wpList_nil ?_
      refine hK69 _ _ ?_
      refine wp_ret ?_
      try simp only [Exit.inBlock, Exit.then]
      refine c_ret (.bool true) (r_tmp rfl rfl) ?_
      exact ⟨rfl, HS.belowOf⟩
    · skip
      refine c_enter Try.func11 rfl 89 rfl [.agg (Value.int .i64 k :: ((nums .u8 (b.map bv)) ++ ([Value.slice A es.length c]))).toArray, .agg (Value.int .i64 k2 :: ((nums .u8 (b2.map bv)) ++ ([Value.slice B fs.length d]))).toArray, .agg ((nums .u8 (q.map bv))).toArray, undef, undef, undef, undef, undef, undef, undef, undef, undef, undef, undef, undef, undef, undef, undef, undef, undef, undef, undef, undef, undef, undef, undef, undef, undef, undef, undef, undef, undef, undef, undef, undef, undef, undef, undef, undef, undef, undef, undef, undef, undef, undef, undef, undef, undef, undef, undef, undef, undef, undef, undef, undef, undef, undef, undef, undef, undef, undef, undef, undef, undef, undef, undef, undef, undef, undef, undef, undef, undef, undef, undef, undef, undef, undef, undef, undef, undef, undef, undef, undef, undef, undef, undef, undef, undef, undef] rfl ?_
      refine wp_seq_k (fun K1 hK2 => ?_)
      refine c_region (fun ops4 hops3 => ?_)
      clear hops3
      refine St.wBox HS (cs := (Value.int .i64 k :: ((nums .u8 (b.map bv)) ++ ([Value.slice A es.length c])))) (.agg (Value.int .i64 k :: ((nums .u8 (b.map bv)) ++ ([Value.slice A es.length c]))).toArray) rfl rfl ?_
      clear HS
      intro g5 w6 hg7 HS
      refine St.wBox HS (cs := (Value.int .i64 k2 :: ((nums .u8 (b2.map bv)) ++ ([Value.slice B fs.length d])))) (.agg (Value.int .i64 k2 :: ((nums .u8 (b2.map bv)) ++ ([Value.slice B fs.length d]))).toArray) rfl rfl ?_
      clear HS
      intro g8 w9 hg10 HS
      refine St.wBox HS (cs := ((nums .u8 (q.map bv)))) (.agg ((nums .u8 (q.map bv))).toArray) rfl rfl ?_
      clear HS
      intro g11 w12 hg13 HS
      refine p_run (l' := _) _ (x_assign (.bool false) rfl rfl) rfl ?_
      refine wpList_nil ?_
      refine hK2 _ _ ?_
      refine wp_seq_k (fun K14 hK15 => ?_)
      refine wp_seq_k (fun K16 hK17 => ?_)
      refine c_region (fun ops19 hops18 => ?_)
      clear hops18
      refine w_call [] Try.func25 (by kernel_rfl) (by rfl) rfl ?_
      refine (lalive_any _).mono ?_
      rintro e w20 ⟨rfl, hb_⟩
      replace HS := HS.here hb_
      clear hb_
      refine ⟨_, rfl, ?_⟩
      refine p_run (l' := _) _ (x_not true rfl rfl) rfl ?_
      refine wpList_nil ?_
      refine hK17 _ _ ?_
      refine c_false rfl ?_
      refine wp_skip ?_
      refine hK15 _ _ ?_
      refine wp_seq_k (fun K21 hK22 => ?_)
      refine wp_seq_k (fun K23 hK24 => ?_)
      refine c_region (fun ops26 hops25 => ?_)
      refine p_run (l' := _) _ (x_field (j := 17) _ _ rfl rfl Try.underlying52 rfl (by rfl) rfl) rfl ?_
      refine p_run (l' := _) _ (x_load (.slice A es.length c) rfl rfl (bkCell (HS.get (.tail _ (.tail _ (.head _)))) 17 _ (by simp [List.getElem?_append, List.length_map, hb, nums_length])) (by rfl)) rfl ?_
      refine p_run (l' := _) _ (x_len rfl rfl Try.underlying50) rfl ?_
      refine p_run (l' := _) _ (x_cmp (k := .i64) (m := (es.length : Int)) (n := 50) .gtr false rfl rfl rfl (show decide ((es.length : Int) > 50) = false from decide_eq_false (by omega)) rfl) rfl ?_
      refine p_run (l' := _) _ (x_move (.bool false) rfl rfl) rfl ?_
      refine p_on rfl (by rw [hops25]; rfl) ?_
      refine p_run (l' := [.agg (Value.int .i64 k :: ((nums .u8 (b.map bv)) ++ ([Value.slice A es.length c]))).toArray, .agg (Value.int .i64 k2 :: ((nums .u8 (b2.map bv)) ++ ([Value.slice B fs.length d]))).toArray, .agg ((nums .u8 (q.map bv))).toArray, .pointer (some ⟨g5, 0, none⟩), .pointer (some ⟨g8, 0, none⟩), .pointer (some ⟨g11, 0, none⟩), .bool false, undef, undef, undef, undef, undef, undef, undef, undef, undef, undef, .bool true, .bool false, .pointer (some ⟨g5, 17, none⟩), .slice A es.length c, .int .i64 (es.length : Int), .bool false, .bool false, .pointer (some ⟨g8, 17, none⟩), undef, undef, undef, undef, undef, undef, undef, undef, undef, undef, undef, undef, undef, undef, undef, undef, undef, undef, undef, undef, undef, undef, undef, undef, undef, undef, undef, undef, undef, undef, undef, undef, undef, undef, undef, undef, undef, undef, undef, undef, undef, undef, undef, undef, undef, undef, undef, undef, undef, undef, undef, undef, undef, undef, undef, undef, undef, undef, undef, undef, undef, undef, undef, undef]) _ (x_field (j := 17) _ _ rfl rfl Try.underlying52 rfl (by rfl) rfl) rfl ?_
      refine p_on rfl (by rw [hops25]; rfl) ?_
      refine p_run (l' := _) _ (x_load (.slice B fs.length d) rfl rfl (bkCell (HS.get (.tail _ (.head _))) 17 _ (by simp [List.getElem?_append, List.length_map, hb2, nums_length])) (by rfl)) rfl ?_
      refine p_on rfl (by rw [hops25]; rfl) ?_
      refine p_run (l' := _) _ (x_len rfl rfl Try.underlying50) rfl ?_
      refine p_on rfl (by rw [hops25]; rfl) ?_
      refine p_run (l' := _) _ (x_cmp (k := .i64) (m := (fs.length : Int)) (n := 50) .gtr false rfl rfl rfl (show decide ((fs.length : Int) > 50) = false from decide_eq_false (by omega)) rfl) rfl ?_
      refine p_run (l' := _) _ (x_pick false (.bool true) (.bool false) (.bool false) rfl rfl rfl rfl rfl) rfl ?_
      clear hops25
      refine wpList_nil ?_
      refine hK24 _ _ ?_
      refine c_false rfl ?_
      refine wp_skip ?_
      refine hK22 _ _ ?_
      refine wp_seq_k (fun K27 hK28 => ?_)
      refine c_region (fun ops30 hops29 => ?_)
      clear hops29
      refine p_run (l' := _) _ (x_loads (Value.int .i64 k :: ((nums .u8 (b.map bv)) ++ ([Value.slice A es.length c]))) 18 rfl rfl (bkCells (HS.get (.tail _ (.tail _ (.head _)))) 0 _ (whole _)) (by rfl) (by kernel_rfl) (by simp [List.length_map, hb, nums_length])) rfl ?_
      refine w_call [.agg (Value.int .i64 k :: ((nums .u8 (b.map bv)) ++ ([Value.slice A es.length c]))).toArray] Try.func23 (by kernel_rfl) (by rfl) rfl ?_
      refine (lpage_any _ k b hb A c es (Kd.C_below hr HS.belowOf) hl).mono ?_
      rintro e w31 ⟨rfl, hb_⟩
      replace HS := HS.here hb_
      clear hb_
      refine ⟨_, rfl, ?_⟩
      refine p_run (l' := _) _ (x_move (.tuple [.agg ((nums .u8 ((lfP k b es).map bv))).toArray, .int .i64 (lfE k b es)].toArray) rfl rfl) rfl ?_
      refine p_run (l' := _) _ (x_extract (vs := [.agg ((nums .u8 ((lfP k b es).map bv))).toArray, .int .i64 (lfE k b es)]) 0 (.agg ((nums .u8 ((lfP k b es).map bv))).toArray) rfl rfl rfl) rfl ?_
      refine p_run (l' := _) _ (x_extract (vs := [.agg ((nums .u8 ((lfP k b es).map bv))).toArray, .int .i64 (lfE k b es)]) 1 (.int .i64 (lfE k b es)) rfl rfl rfl) rfl ?_
      refine St.wAlloc HS (cs := ((nums .u8 (zQ.map bv)))) (.agg ((nums .u8 (zQ.map bv))).toArray) (by kernel_rfl) rfl ?_
      clear HS
      intro g32 w33 hg34 HS
      refine St.stores (cs' := ((nums .u8 ((lfP k b es).map bv)))) HS ((nums .u8 ((lfP k b es).map bv))) 256 rfl rfl (nums_one _ _) (by kernel_rfl) (by simp [(lfP_len k hb es), List.length_map, nums_length]) (by simp [(lfP_len k hb es), List.length_map, nums_length, zQ_len]) (lay_all _ _ (by simp [(lfP_len k hb es), List.length_map, nums_length, zQ_len])) ?_
      clear HS
      intro w35 HS
      refine p_run (l' := _) _ (x_assign (.int .i64 (lfE k b es)) rfl rfl) rfl ?_
      refine wpList_nil ?_
      refine fr_at (l' := [.agg (Value.int .i64 k :: ((nums .u8 (b.map bv)) ++ ([Value.slice A es.length c]))).toArray, .agg (Value.int .i64 k2 :: ((nums .u8 (b2.map bv)) ++ ([Value.slice B fs.length d]))).toArray, .agg ((nums .u8 (q.map bv))).toArray, .pointer (some ⟨g5, 0, none⟩), .pointer (some ⟨g8, 0, none⟩), .pointer (some ⟨g11, 0, none⟩), .bool false, .pointer (some ⟨g32, 0, none⟩), .int .i64 (lfE k b es), undef, undef, undef, undef, undef, undef, undef, undef, .bool true, .bool false, .pointer (some ⟨g5, 17, none⟩), .slice A es.length c, .int .i64 (es.length : Int), .bool false, .bool false, .pointer (some ⟨g8, 17, none⟩), .slice B fs.length d, .int .i64 (fs.length : Int), .bool false, .bool false, .tuple [.agg ((nums .u8 ((lfP k b es).map bv))).toArray, .int .i64 (lfE k b es)].toArray, .agg (Value.int .i64 k :: ((nums .u8 (b.map bv)) ++ ([Value.slice A es.length c]))).toArray, .tuple [.agg ((nums .u8 ((lfP k b es).map bv))).toArray, .int .i64 (lfE k b es)].toArray, .agg ((nums .u8 ((lfP k b es).map bv))).toArray, .int .i64 (lfE k b es), undef, undef, undef, undef, undef, undef, undef, undef, undef, undef, undef, undef, undef, undef, undef, undef, undef, undef, undef, undef, undef, undef, undef, undef, undef, undef, undef, undef, undef, undef, undef, undef, undef, undef, undef, undef, undef, undef, undef, undef, undef, undef, undef, undef, undef, undef, undef, undef, undef, undef, undef, undef, undef, undef, undef]) rfl ?_
      refine hK28 _ _ ?_
      refine wp_seq_k (fun K36 hK37 => ?_)
      refine c_region (fun ops39 hops38 => ?_)
      clear hops38
      refine p_run (l' := _) _ (x_loads (Value.int .i64 k2 :: ((nums .u8 (b2.map bv)) ++ ([Value.slice B fs.length d]))) 18 rfl rfl (bkCells (HS.get (.tail _ (.tail _ (.head _)))) 0 _ (whole _)) (by rfl) (by kernel_rfl) (by simp [List.length_map, hb2, nums_length])) rfl ?_
      refine w_call [.agg (Value.int .i64 k2 :: ((nums .u8 (b2.map bv)) ++ ([Value.slice B fs.length d]))).toArray] Try.func23 (by kernel_rfl) (by rfl) rfl ?_
      refine (lpage_any _ k2 b2 hb2 B d fs (Kd.C_below hr2 HS.belowOf) hl2).mono ?_
      rintro e w40 ⟨rfl, hb_⟩
      replace HS := HS.here hb_
      clear hb_
      refine ⟨_, rfl, ?_⟩
      refine p_run (l' := _) _ (x_move (.tuple [.agg ((nums .u8 ((lfP k2 b2 fs).map bv))).toArray, .int .i64 (lfE k2 b2 fs)].toArray) rfl rfl) rfl ?_
      refine p_run (l' := _) _ (x_extract (vs := [.agg ((nums .u8 ((lfP k2 b2 fs).map bv))).toArray, .int .i64 (lfE k2 b2 fs)]) 0 (.agg ((nums .u8 ((lfP k2 b2 fs).map bv))).toArray) rfl rfl rfl) rfl ?_
      refine p_run (l' := _) _ (x_extract (vs := [.agg ((nums .u8 ((lfP k2 b2 fs).map bv))).toArray, .int .i64 (lfE k2 b2 fs)]) 1 (.int .i64 (lfE k2 b2 fs)) rfl rfl rfl) rfl ?_
      refine St.wAlloc HS (cs := ((nums .u8 (zQ.map bv)))) (.agg ((nums .u8 (zQ.map bv))).toArray) (by kernel_rfl) rfl ?_
      clear HS
      intro g41 w42 hg43 HS
      refine St.stores (cs' := ((nums .u8 ((lfP k2 b2 fs).map bv)))) HS ((nums .u8 ((lfP k2 b2 fs).map bv))) 256 rfl rfl (nums_one _ _) (by kernel_rfl) (by simp [(lfP_len k2 hb2 fs), List.length_map, nums_length]) (by simp [(lfP_len k2 hb2 fs), List.length_map, nums_length, zQ_len]) (lay_all _ _ (by simp [(lfP_len k2 hb2 fs), List.length_map, nums_length, zQ_len])) ?_
      clear HS
      intro w44 HS
      refine p_run (l' := _) _ (x_assign (.int .i64 (lfE k2 b2 fs)) rfl rfl) rfl ?_
      refine wpList_nil ?_
      refine hK37 _ _ ?_
      refine wp_seq_k (fun K45 hK46 => ?_)
      refine wp_seq_k (fun K47 hK48 => ?_)
      refine c_region (fun ops50 hops49 => ?_)
      clear hops49
      refine p_run (l' := _) _ (x_move (.int .i64 (lfE k b es)) rfl rfl) rfl ?_
      refine p_run (l' := _) _ (x_cmp (k := .i64) (m := (lfE k b es)) (n := 0) .eql false rfl rfl rfl (by rw [(lf_no hA).2]; decide) rfl) rfl ?_
      refine wpList_nil ?_
      refine fr_at (l' := [.agg (Value.int .i64 k :: ((nums .u8 (b.map bv)) ++ ([Value.slice A es.length c]))).toArray, .agg (Value.int .i64 k2 :: ((nums .u8 (b2.map bv)) ++ ([Value.slice B fs.length d]))).toArray, .agg ((nums .u8 (q.map bv))).toArray, .pointer (some ⟨g5, 0, none⟩), .pointer (some ⟨g8, 0, none⟩), .pointer (some ⟨g11, 0, none⟩), .bool false, .pointer (some ⟨g32, 0, none⟩), .int .i64 (lfE k b es), .pointer (some ⟨g41, 0, none⟩), .int .i64 (lfE k2 b2 fs), undef, undef, undef, undef, undef, undef, .bool true, .bool false, .pointer (some ⟨g5, 17, none⟩), .slice A es.length c, .int .i64 (es.length : Int), .bool false, .bool false, .pointer (some ⟨g8, 17, none⟩), .slice B fs.length d, .int .i64 (fs.length : Int), .bool false, .bool false, .tuple [.agg ((nums .u8 ((lfP k b es).map bv))).toArray, .int .i64 (lfE k b es)].toArray, .agg (Value.int .i64 k :: ((nums .u8 (b.map bv)) ++ ([Value.slice A es.length c]))).toArray, .tuple [.agg ((nums .u8 ((lfP k b es).map bv))).toArray, .int .i64 (lfE k b es)].toArray, .agg ((nums .u8 ((lfP k b es).map bv))).toArray, .int .i64 (lfE k b es), .tuple [.agg ((nums .u8 ((lfP k2 b2 fs).map bv))).toArray, .int .i64 (lfE k2 b2 fs)].toArray, .agg (Value.int .i64 k2 :: ((nums .u8 (b2.map bv)) ++ ([Value.slice B fs.length d]))).toArray, .tuple [.agg ((nums .u8 ((lfP k2 b2 fs).map bv))).toArray, .int .i64 (lfE k2 b2 fs)].toArray, .agg ((nums .u8 ((lfP k2 b2 fs).map bv))).toArray, .int .i64 (lfE k2 b2 fs), .int .i64 (lfE k b es), .bool false, undef, undef, undef, undef, undef, undef, undef, undef, undef, undef, undef, undef, undef, undef, undef, undef, undef, undef, undef, undef, undef, undef, undef, undef, undef, undef, undef, undef, undef, undef, undef, undef, undef, undef, undef, undef, undef, undef, undef, undef, undef, undef, undef, undef, undef, undef, undef, undef]) rfl ?_
      refine hK48 _ _ ?_
      refine c_false rfl ?_
      refine wp_skip ?_
      refine hK46 _ _ ?_
      refine wp_seq_k (fun K51 hK52 => ?_)
      refine c_region (fun ops54 hops53 => ?_)
      clear hops53
      refine p_run (l' := _) _ (x_loads ((nums .u8 (q.map bv))) 256 rfl rfl (bkCells (HS.get (.tail _ (.tail _ (.head _)))) 0 _ (whole _)) (by rfl) (by kernel_rfl) (by simp [List.length_map, hq, nums_length])) rfl ?_
      refine w_call [.agg ((nums .u8 (q.map bv))).toArray] Try.func24 (by kernel_rfl) (by rfl) rfl ?_
      refine (lopen_any _ q hq).mono ?_
      rintro e w57 ⟨oa55, nc56, rfl, hk_⟩
      replace HS := HS.more hk_
      clear hk_
      refine ⟨_, rfl, ?_⟩
      refine p_run (l' := _) _ (x_move (.tuple [.agg (Value.int .i64 (opK q) :: ((nums .u8 ((opB q).map bv)) ++ ([Value.slice oa55 ((opS q).length) nc56]))).toArray, .int .i64 (opE q)].toArray) rfl rfl) rfl ?_
      refine p_run (l' := _) _ (x_extract (vs := [.agg (Value.int .i64 (opK q) :: ((nums .u8 ((opB q).map bv)) ++ ([Value.slice oa55 ((opS q).length) nc56]))).toArray, .int .i64 (opE q)]) 0 (.agg (Value.int .i64 (opK q) :: ((nums .u8 ((opB q).map bv)) ++ ([Value.slice oa55 ((opS q).length) nc56]))).toArray) rfl rfl rfl) rfl ?_
      refine p_run (l' := _) _ (x_extract (vs := [.agg (Value.int .i64 (opK q) :: ((nums .u8 ((opB q).map bv)) ++ ([Value.slice oa55 ((opS q).length) nc56]))).toArray, .int .i64 (opE q)]) 1 (.int .i64 (opE q)) rfl rfl rfl) rfl ?_
      refine St.wAlloc HS (cs := (Value.int .i64 0 :: ((nums .u8 (zK.map bv)) ++ ([Value.slice none 0 0])))) (.agg (Value.int .i64 0 :: ((nums .u8 (zK.map bv)) ++ ([Value.slice none 0 0]))).toArray) (by kernel_rfl) rfl ?_
      clear HS
      intro g58 w59 hg60 HS
      refine St.stores (cs' := (Value.int .i64 (opK q) :: ((nums .u8 ((opB q).map bv)) ++ ([Value.slice oa55 ((opS q).length) nc56])))) HS (Value.int .i64 (opK q) :: ((nums .u8 ((opB q).map bv)) ++ ([Value.slice oa55 ((opS q).length) nc56]))) 18 rfl rfl (all1 rfl (allA (nums_one _ _) (all1 rfl rfl))) (by kernel_rfl) (by simp [(opB_len hq), List.length_map, nums_length]) (by simp [(opB_len hq), List.length_map, nums_length, zK_len]) (lay_all _ _ (by simp [(opB_len hq), List.length_map, nums_length, zK_len])) ?_
      clear HS
      intro w61 HS
      refine p_run (l' := _) _ (x_assign (.int .i64 (opE q)) rfl rfl) rfl ?_
      refine wpList_nil ?_
      refine hK52 _ _ ?_
      refine wp_seq_k (fun K62 hK63 => ?_)
      refine wp_seq_k (fun K64 hK65 => ?_)
      refine c_region (fun ops67 hops66 => ?_)
      clear hops66
      refine p_run (l' := _) _ (x_move (.int .i64 (opE q)) rfl rfl) rfl ?_
      refine p_run (l' := _) _ (x_cmp (k := .i64) (m := (opE q)) (n := 0) .neq false rfl rfl rfl (neq_yes' (op_yes hQ).2.2.2) rfl) rfl ?_
      refine wpList_nil ?_
      refine fr_at (l' := [.agg (Value.int .i64 k :: ((nums .u8 (b.map bv)) ++ ([Value.slice A es.length c]))).toArray, .agg (Value.int .i64 k2 :: ((nums .u8 (b2.map bv)) ++ ([Value.slice B fs.length d]))).toArray, .agg ((nums .u8 (q.map bv))).toArray, .pointer (some ⟨g5, 0, none⟩), .pointer (some ⟨g8, 0, none⟩), .pointer (some ⟨g11, 0, none⟩), .bool false, .pointer (some ⟨g32, 0, none⟩), .int .i64 (lfE k b es), .pointer (some ⟨g41, 0, none⟩), .int .i64 (lfE k2 b2 fs), undef, undef, .pointer (some ⟨g58, 0, none⟩), .int .i64 (opE q), undef, undef, .bool true, .bool false, .pointer (some ⟨g5, 17, none⟩), .slice A es.length c, .int .i64 (es.length : Int), .bool false, .bool false, .pointer (some ⟨g8, 17, none⟩), .slice B fs.length d, .int .i64 (fs.length : Int), .bool false, .bool false, .tuple [.agg ((nums .u8 ((lfP k b es).map bv))).toArray, .int .i64 (lfE k b es)].toArray, .agg (Value.int .i64 k :: ((nums .u8 (b.map bv)) ++ ([Value.slice A es.length c]))).toArray, .tuple [.agg ((nums .u8 ((lfP k b es).map bv))).toArray, .int .i64 (lfE k b es)].toArray, .agg ((nums .u8 ((lfP k b es).map bv))).toArray, .int .i64 (lfE k b es), .tuple [.agg ((nums .u8 ((lfP k2 b2 fs).map bv))).toArray, .int .i64 (lfE k2 b2 fs)].toArray, .agg (Value.int .i64 k2 :: ((nums .u8 (b2.map bv)) ++ ([Value.slice B fs.length d]))).toArray, .tuple [.agg ((nums .u8 ((lfP k2 b2 fs).map bv))).toArray, .int .i64 (lfE k2 b2 fs)].toArray, .agg ((nums .u8 ((lfP k2 b2 fs).map bv))).toArray, .int .i64 (lfE k2 b2 fs), .int .i64 (lfE k b es), .bool false, undef, undef, undef, undef, undef, undef, undef, undef, undef, undef, undef, undef, undef, undef, undef, undef, undef, undef, undef, undef, undef, undef, undef, undef, undef, undef, .tuple [.agg (Value.int .i64 (opK q) :: ((nums .u8 ((opB q).map bv)) ++ ([Value.slice oa55 ((opS q).length) nc56]))).toArray, .int .i64 (opE q)].toArray, .agg ((nums .u8 (q.map bv))).toArray, .tuple [.agg (Value.int .i64 (opK q) :: ((nums .u8 ((opB q).map bv)) ++ ([Value.slice oa55 ((opS q).length) nc56]))).toArray, .int .i64 (opE q)].toArray, .agg (Value.int .i64 (opK q) :: ((nums .u8 ((opB q).map bv)) ++ ([Value.slice oa55 ((opS q).length) nc56]))).toArray, .int .i64 (opE q), .int .i64 (opE q), .bool false, undef, undef, undef, undef, undef, undef, undef, undef, undef, undef, undef, undef, undef, undef, undef]) rfl ?_
      refine hK65 _ _ ?_
      refine c_false rfl ?_
      refine wp_skip ?_
      refine hK63 _ _ ?_
      refine wp_seq_k (fun K68 hK69 => ?_)
      refine c_region (fun ops71 hops70 => ?_)
      clear hops70
      refine p_run (l' := _) _ (x_loads (Value.int .i64 (opK q) :: ((nums .u8 ((opB q).map bv)) ++ ([Value.slice oa55 ((opS q).length) nc56]))) 18 rfl rfl (bkCells (HS.get (.head _)) 0 _ (whole _)) (by rfl) (by kernel_rfl) (by simp [(opB_len hq), List.length_map, nums_length])) rfl ?_
      refine w_call [.agg (Value.int .i64 (opK q) :: ((nums .u8 ((opB q).map bv)) ++ ([Value.slice oa55 ((opS q).length) nc56]))).toArray] Try.func23 (by kernel_rfl) (by rfl) rfl ?_
      refine (lpage_any _ (opK q) (opB q) (opB_len hq) oa55 nc56 (opS q) (row_C (HS.get (.tail _ (.head _)))).2.2 (opS_le q)).mono ?_
      rintro e w72 ⟨rfl, hb_⟩
      replace HS := HS.here hb_
      clear hb_
      refine ⟨_, rfl, ?_⟩
      refine p_run (l' := _) _ (x_move (.tuple [.agg ((nums .u8 ((lfP (opK q) (opB q) (opS q)).map bv))).toArray, .int .i64 (lfE (opK q) (opB q) (opS q))].toArray) rfl rfl) rfl ?_
      refine p_run (l' := _) _ (x_extract (vs := [.agg ((nums .u8 ((lfP (opK q) (opB q) (opS q)).map bv))).toArray, .int .i64 (lfE (opK q) (opB q) (opS q))]) 0 (.agg ((nums .u8 ((lfP (opK q) (opB q) (opS q)).map bv))).toArray) rfl rfl rfl) rfl ?_
      refine p_run (l' := _) _ (x_extract (vs := [.agg ((nums .u8 ((lfP (opK q) (opB q) (opS q)).map bv))).toArray, .int .i64 (lfE (opK q) (opB q) (opS q))]) 1 (.int .i64 (lfE (opK q) (opB q) (opS q))) rfl rfl rfl) rfl ?_
      refine St.wAlloc HS (cs := ((nums .u8 (zQ.map bv)))) (.agg ((nums .u8 (zQ.map bv))).toArray) (by kernel_rfl) rfl ?_
      clear HS
      intro g73 w74 hg75 HS
      refine St.stores (cs' := ((nums .u8 ((lfP (opK q) (opB q) (opS q)).map bv)))) HS ((nums .u8 ((lfP (opK q) (opB q) (opS q)).map bv))) 256 rfl rfl (nums_one _ _) (by kernel_rfl) (by simp [(lfP_len (opK q) (opB_len hq) (opS q)), List.length_map, nums_length]) (by simp [(lfP_len (opK q) (opB_len hq) (opS q)), List.length_map, nums_length, zQ_len]) (lay_all _ _ (by simp [(lfP_len (opK q) (opB_len hq) (opS q)), List.length_map, nums_length, zQ_len])) ?_
      clear HS
      intro w76 HS
      refine p_run (l' := _) _ (x_assign (.int .i64 (lfE (opK q) (opB q) (opS q))) rfl rfl) rfl ?_
      refine wpList_nil ?_
      refine hK69 _ _ ?_
      refine wp_seq_k (fun K77 hK78 => ?_)
      refine c_region (fun ops80 hops79 => ?_)
      refine p_run (l' := _) _ (x_move (.int .i64 (lfE (opK q) (opB q) (opS q))) rfl rfl) rfl ?_
      refine p_run (l' := _) _ (x_cmp (k := .i64) (m := (lfE (opK q) (opB q) (opS q))) (n := 0) .eql true rfl rfl rfl (cmp_yes (lb_page hQ).2) rfl) rfl ?_
      refine p_run (l' := _) _ (x_move (.bool true) rfl rfl) rfl ?_
      refine p_on rfl (by rw [hops79]; rfl) ?_
      refine p_run (l' := _) _ (x_loads ((nums .u8 ((lfP (opK q) (opB q) (opS q)).map bv))) 256 rfl rfl (bkCells (HS.get (.head _)) 0 _ (whole _)) (by rfl) (by kernel_rfl) (by simp [(lfP_len (opK q) (opB_len hq) (opS q)), List.length_map, nums_length])) rfl ?_
      refine p_on rfl (by rw [hops79]; rfl) ?_
      refine p_run (l' := [.agg (Value.int .i64 k :: ((nums .u8 (b.map bv)) ++ ([Value.slice A es.length c]))).toArray, .agg (Value.int .i64 k2 :: ((nums .u8 (b2.map bv)) ++ ([Value.slice B fs.length d]))).toArray, .agg ((nums .u8 (q.map bv))).toArray, .pointer (some ⟨g5, 0, none⟩), .pointer (some ⟨g8, 0, none⟩), .pointer (some ⟨g11, 0, none⟩), .bool false, .pointer (some ⟨g32, 0, none⟩), .int .i64 (lfE k b es), .pointer (some ⟨g41, 0, none⟩), .int .i64 (lfE k2 b2 fs), undef, undef, .pointer (some ⟨g58, 0, none⟩), .int .i64 (opE q), .pointer (some ⟨g73, 0, none⟩), .int .i64 (lfE (opK q) (opB q) (opS q)), .bool true, .bool false, .pointer (some ⟨g5, 17, none⟩), .slice A es.length c, .int .i64 (es.length : Int), .bool false, .bool false, .pointer (some ⟨g8, 17, none⟩), .slice B fs.length d, .int .i64 (fs.length : Int), .bool false, .bool false, .tuple [.agg ((nums .u8 ((lfP k b es).map bv))).toArray, .int .i64 (lfE k b es)].toArray, .agg (Value.int .i64 k :: ((nums .u8 (b.map bv)) ++ ([Value.slice A es.length c]))).toArray, .tuple [.agg ((nums .u8 ((lfP k b es).map bv))).toArray, .int .i64 (lfE k b es)].toArray, .agg ((nums .u8 ((lfP k b es).map bv))).toArray, .int .i64 (lfE k b es), .tuple [.agg ((nums .u8 ((lfP k2 b2 fs).map bv))).toArray, .int .i64 (lfE k2 b2 fs)].toArray, .agg (Value.int .i64 k2 :: ((nums .u8 (b2.map bv)) ++ ([Value.slice B fs.length d]))).toArray, .tuple [.agg ((nums .u8 ((lfP k2 b2 fs).map bv))).toArray, .int .i64 (lfE k2 b2 fs)].toArray, .agg ((nums .u8 ((lfP k2 b2 fs).map bv))).toArray, .int .i64 (lfE k2 b2 fs), .int .i64 (lfE k b es), .bool false, undef, undef, undef, undef, undef, undef, undef, undef, undef, undef, undef, undef, undef, undef, undef, undef, undef, undef, undef, undef, undef, undef, undef, undef, undef, undef, .tuple [.agg (Value.int .i64 (opK q) :: ((nums .u8 ((opB q).map bv)) ++ ([Value.slice oa55 ((opS q).length) nc56]))).toArray, .int .i64 (opE q)].toArray, .agg ((nums .u8 (q.map bv))).toArray, .tuple [.agg (Value.int .i64 (opK q) :: ((nums .u8 ((opB q).map bv)) ++ ([Value.slice oa55 ((opS q).length) nc56]))).toArray, .int .i64 (opE q)].toArray, .agg (Value.int .i64 (opK q) :: ((nums .u8 ((opB q).map bv)) ++ ([Value.slice oa55 ((opS q).length) nc56]))).toArray, .int .i64 (opE q), .int .i64 (opE q), .bool false, undef, undef, undef, .tuple [.agg ((nums .u8 ((lfP (opK q) (opB q) (opS q)).map bv))).toArray, .int .i64 (lfE (opK q) (opB q) (opS q))].toArray, .agg (Value.int .i64 (opK q) :: ((nums .u8 ((opB q).map bv)) ++ ([Value.slice oa55 ((opS q).length) nc56]))).toArray, .tuple [.agg ((nums .u8 ((lfP (opK q) (opB q) (opS q)).map bv))).toArray, .int .i64 (lfE (opK q) (opB q) (opS q))].toArray, .agg ((nums .u8 ((lfP (opK q) (opB q) (opS q)).map bv))).toArray, .int .i64 (lfE (opK q) (opB q) (opS q)), .int .i64 (lfE (opK q) (opB q) (opS q)), .bool true, .bool true, .agg ((nums .u8 ((lfP (opK q) (opB q) (opS q)).map bv))).toArray, .agg ((nums .u8 (q.map bv))).toArray, undef, undef]) _ (x_loads ((nums .u8 (q.map bv))) 256 rfl rfl (bkCells (HS.get (.tail _ (.tail _ (.tail _ (.tail _ (.tail _ (.head _))))))) 0 _ (whole _)) (by rfl) (by kernel_rfl) (by simp [List.length_map, hq, nums_length])) rfl ?_
      refine p_on rfl (by rw [hops79]; rfl) ?_
      refine p_run (l' := _) _ (x_eq .eql (.agg ((nums .u8 ((lfP (opK q) (opB q) (opS q)).map bv))).toArray) (.agg ((nums .u8 (q.map bv))).toArray) (decide (((lfP (opK q) (opB q) (opS q)).map bv) = (q.map bv))) true rfl rfl rfl (equal_nums Try.underlying27 Try.underlying5 (by kernel_rfl) (by kernel_rfl) _ _ (by simp [List.length_map, (lfP_len (opK q) (opB_len hq) (opS q))]) (by simp [List.length_map, hq])) (eq_yes (lb_page hQ).1) rfl (guard_agg (by kernel_rfl)) (guard_agg (by kernel_rfl))) rfl ?_
      refine p_run (l' := _) _ (x_pick true (.bool true) (.bool false) (.bool true) rfl rfl rfl rfl rfl) rfl ?_
      refine p_run (l' := _) _ (x_assign (.bool true) rfl rfl) rfl ?_
      clear hops79
      refine wpList_nil ?_
      refine hK78 _ _ ?_
      refine wp_ret ?_
      try simp only [Exit.inBlock, Exit.then]
      refine c_ret (.bool true) (r_tmp rfl rfl) ?_
      exact ⟨rfl, HS.belowOf⟩
end Go.Proofs.Ytiokdpnhaemciaa
